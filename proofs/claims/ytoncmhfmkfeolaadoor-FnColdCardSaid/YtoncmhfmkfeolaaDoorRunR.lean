/- impl.Run's region 16: a start and a processor are put behind their rows, in an order that is left open. -/
import Derived.Test.YtoncmhfmkfeolaaDoorRunA
import Derived.Test.YtoncmhfmkfeolaaDoorWLast
import Derived.Deep.RegionHeld3
import Derived.BigQuiet
set_option linter.unusedVariables false
set_option linter.unusedSimpArgs false
namespace Go.Proofs.YtoncmhfmkfeolaaDoor
open Go.RowKit Go.Proofs.YtoncmhfmkfeolaaDoorW.PrintWords Go.Proofs.YtoncmhfmkfeolaaDoorW.PrintLast
/-- The region of that number in a code. -/
def regOf (n : Nat) : Code → Option Code
  | .region id ops b => if id = n then some (.region id ops b) else none
  | .seq a b => match regOf n a with
    | some c => some c
    | none => regOf n b
  | .cond _ a b => match regOf n a with
    | some c => some c
    | none => regOf n b
  | .block _ c => regOf n c
  | .loop c => regOf n c
  | .scope c => regOf n c
  | _ => none
set_option maxRecDepth 100000 in
set_option maxHeartbeats 8000000 in
theorem runReg16 (c0 : Cpu) (x : Int) (gb b base g r cap m : Nat) (w1 w8 : World) (v' us up : Value) (q : Rs) (j : Bool) (HQ : Aside0 (RunAt w1 w8 ⟨base, g, r, cap⟩ v' b q m us up us up j)) (KB : Aside0 (Blk w8 gb #[.int .u8 c0.A, .int .u8 c0.X, .int .u8 c0.Y, .int .u8 c0.S, .int .u16 c0.PC, .bool c0.F.N, .bool c0.F.V, .bool c0.F.D, .bool c0.F.I, .bool c0.F.Z, .bool c0.F.C] 31)) (hup : some gb ≠ up.ownBlock) (hgb : gb < w8.heap.size)
    (hst1 : (q.st.length + 1) * 8 ≤ 140737488355328) (hcs1 : (q.cs.length + 1) * 12 ≤ 140737488355328)
    (s0 s1 s2 s3 s4 s5 s6 s7 s8 s9 s11 s14 s15 s16 s17 s18 s19 s20 s21 s22 s23 s24 s25 s26 s27 s28 s29 s30 s31 s32 s33 s34 s35 s36 s37 s38 s39 s40 s41 s42 s43 s44 s45 s46 s47 s48 s49 s50 s51 s52 s53 s54 s55 s56 s57 s58 s59 s60 s61 s62 s63 s64 s65 s66 s67 s68 s69 s70 s71 s72 s73 s74 s75 s76 s77 s78 s79 s80 s81 s82 s83 s84 s85 s86 s87 s88 s89 s90 s91 s92 s93 s94 s95 s96 s97 s98 s99 s100 s101 s102 s103 s104 s105 s106 s107 s108 s109 s110 s111 s112 s113 s114 : Value) :
    Code.wp Tryd.prog ((Tryd.f8.body.bind (regOf 16)).getD .skip) (fun e a' w' => e = .normal ∧ ∃ u86 u87 u88 u89 u90 u91 u92 u93 u94 u95 u96 u97, (∃ v9 v10, RunAt w1 w' ⟨base, g, r, cap⟩ v' b ⟨q.c, q.m, q.t, q.st ++ [x], q.cs ++ [c0], q.jam⟩ m v9 v10 v9 v10 j) ∧ a' = ⟨List.toArray (s0 :: s1 :: s2 :: s3 :: s4 :: s5 :: s6 :: s7 :: s8 :: s9 :: .pointer (some ⟨b, 0, none⟩) :: s11 :: .int .i64 x :: .pointer (some ⟨gb, 0, none⟩) :: s14 :: s15 :: s16 :: s17 :: s18 :: s19 :: s20 :: s21 :: s22 :: s23 :: s24 :: s25 :: s26 :: s27 :: s28 :: s29 :: s30 :: s31 :: s32 :: s33 :: s34 :: s35 :: s36 :: s37 :: s38 :: s39 :: s40 :: s41 :: s42 :: s43 :: s44 :: s45 :: s46 :: s47 :: s48 :: s49 :: s50 :: s51 :: s52 :: s53 :: s54 :: s55 :: s56 :: s57 :: s58 :: s59 :: s60 :: s61 :: s62 :: s63 :: s64 :: s65 :: s66 :: s67 :: s68 :: s69 :: s70 :: s71 :: s72 :: s73 :: s74 :: s75 :: s76 :: s77 :: s78 :: s79 :: s80 :: s81 :: s82 :: s83 :: s84 :: s85 :: u86 :: u87 :: u88 :: u89 :: u90 :: u91 :: u92 :: u93 :: u94 :: u95 :: u96 :: u97 :: s98 :: s99 :: s100 :: s101 :: s102 :: s103 :: s104 :: s105 :: s106 :: s107 :: s108 :: s109 :: s110 :: s111 :: s112 :: s113 :: s114 :: []), []⟩) ⟨List.toArray (s0 :: s1 :: s2 :: s3 :: s4 :: s5 :: s6 :: s7 :: s8 :: s9 :: .pointer (some ⟨b, 0, none⟩) :: s11 :: .int .i64 x :: .pointer (some ⟨gb, 0, none⟩) :: s14 :: s15 :: s16 :: s17 :: s18 :: s19 :: s20 :: s21 :: s22 :: s23 :: s24 :: s25 :: s26 :: s27 :: s28 :: s29 :: s30 :: s31 :: s32 :: s33 :: s34 :: s35 :: s36 :: s37 :: s38 :: s39 :: s40 :: s41 :: s42 :: s43 :: s44 :: s45 :: s46 :: s47 :: s48 :: s49 :: s50 :: s51 :: s52 :: s53 :: s54 :: s55 :: s56 :: s57 :: s58 :: s59 :: s60 :: s61 :: s62 :: s63 :: s64 :: s65 :: s66 :: s67 :: s68 :: s69 :: s70 :: s71 :: s72 :: s73 :: s74 :: s75 :: s76 :: s77 :: s78 :: s79 :: s80 :: s81 :: s82 :: s83 :: s84 :: s85 :: s86 :: s87 :: s88 :: s89 :: s90 :: s91 :: s92 :: s93 :: s94 :: s95 :: s96 :: s97 :: s98 :: s99 :: s100 :: s101 :: s102 :: s103 :: s104 :: s105 :: s106 :: s107 :: s108 :: s109 :: s110 :: s111 :: s112 :: s113 :: s114 :: []), []⟩ w8 := by
  conv => arg 2; whnf
  refine start_ (n := 14) (S := fun w' => w'.cell? ⟨b, 13, none⟩ = some us ∧ w'.cell? ⟨b, 14, none⟩ = some up ∧ w'.cell? ⟨gb, 0, none⟩ = some (.int .u8 c0.A) ∧ w'.cell? ⟨gb, 1, none⟩ = some (.int .u8 c0.X) ∧ w'.cell? ⟨gb, 2, none⟩ = some (.int .u8 c0.Y) ∧ w'.cell? ⟨gb, 3, none⟩ = some (.int .u8 c0.S) ∧ w'.cell? ⟨gb, 4, none⟩ = some (.int .u16 c0.PC) ∧ w'.cell? ⟨gb, 5, none⟩ = some (.bool c0.F.N) ∧ w'.cell? ⟨gb, 6, none⟩ = some (.bool c0.F.V) ∧ w'.cell? ⟨gb, 7, none⟩ = some (.bool c0.F.D) ∧ w'.cell? ⟨gb, 8, none⟩ = some (.bool c0.F.I) ∧ w'.cell? ⟨gb, 9, none⟩ = some (.bool c0.F.Z) ∧ w'.cell? ⟨gb, 10, none⟩ = some (.bool c0.F.C)) (ds := [11, 13]) #[false, false, false, false, false, false, false, false, false, false, false, false, false, false] (by kernel_rfl) rfl rfl ?_ (fun hHeld => ?_)
  · exact ⟨(HQ.out.wait (below_drew1 (Below.refl _ _))).outFacts.1 13, (HQ.out.wait (below_drew1 (Below.refl _ _))).outFacts.1 14, cpuAll (KB.out.below (below_drew1 (Below.refl _ _)))⟩
  replace HQ := Aside0.mk (HQ.out.wait (below_drew1 (Below.refl _ _)))
  replace KB := Aside0.mk (KB.out.below (below_drew1 (Below.refl _ _)))
  replace hgb : gb < w8.drew.heap.size := hgb
  generalize w8.drew = W at *
  refine pure_ (i := 0) (N := some 86) (v := ?_) (a' := ?_) #[true, false, false, false, false, false, false, false, false, false, false, false, false, false] rfl rfl (by kernel_rfl) (fun _ _ _ h => by cases h.1) (Or.inl ⟨by rfl, ?_⟩) ?_ ?_
  rotate_left
  · intro w'
    go_simp
    with_reducible rfl
  rotate_left
  · simp only [Act.put, List.setIfInBounds_toArray, List.set_cons_zero, List.set_cons_succ, i64_w, i32_w]
    rfl
  refine pure_ (i := 2) (N := some 88) (v := ?_) (a' := ?_) #[true, false, true, false, false, false, false, false, false, false, false, false, false, false] rfl rfl (by kernel_rfl) (fun _ _ _ h => by cases h.1) (Or.inl ⟨by rfl, ?_⟩) ?_ ?_
  rotate_left
  · intro w'
    go_simp
    with_reducible rfl
  rotate_left
  · simp only [Act.put, List.setIfInBounds_toArray, List.set_cons_zero, List.set_cons_succ, i64_w, i32_w]
    rfl
  refine pure_ (i := 5) (N := some 91) (v := ?_) (a' := ?_) #[true, false, true, false, false, true, false, false, false, false, false, false, false, false] rfl rfl (by kernel_rfl) (fun _ _ _ h => by cases h.1) (Or.inl ⟨by rfl, ?_⟩) ?_ ?_
  rotate_left
  · intro w'
    go_simp
    with_reducible rfl
  rotate_left
  · simp only [Act.put, List.setIfInBounds_toArray, List.set_cons_zero, List.set_cons_succ, i64_w, i32_w]
    rfl
  refine take_ (i := 1) (N := some 87) (v := ?_) (a' := ?_) #[true, true, true, false, false, true, false, false, false, false, false, false, false, false] rfl rfl (by kernel_rfl) (fun _ _ _ h => by cases h.1) (Or.inl ⟨by rfl, ?_⟩) hHeld ?_ ?_
  rotate_left
  · rintro w' ⟨s0', s1', s2', s3', s4', s5', s6', s7', s8', s9', s10', s11', s12'⟩
    go_simp
    with_reducible rfl
  rotate_left
  · simp only [Act.put, List.setIfInBounds_toArray, List.set_cons_zero, List.set_cons_succ, i64_w, i32_w]
    rfl
  refine take_ (i := 6) (N := some 92) (v := ?_) (a' := ?_) #[true, true, true, false, false, true, true, false, false, false, false, false, false, false] rfl rfl (by kernel_rfl) (fun _ _ _ h => by cases h.1) (Or.inl ⟨by rfl, ?_⟩) hHeld ?_ ?_
  rotate_left
  · rintro w' ⟨s0', s1', s2', s3', s4', s5', s6', s7', s8', s9', s10', s11', s12'⟩
    go_simp
    with_reducible rfl
  rotate_left
  · simp only [Act.put, List.setIfInBounds_toArray, List.set_cons_zero, List.set_cons_succ, i64_w, i32_w]
    rfl
  refine take_ (i := 7) (N := some 93) (v := ?_) (a' := ?_) #[true, true, true, false, false, true, true, true, false, false, false, false, false, false] rfl rfl (by kernel_rfl) (fun _ _ _ h => by cases h.1) (Or.inl ⟨by rfl, ?_⟩) hHeld ?_ ?_
  rotate_left
  · rintro w' ⟨s0', s1', s2', s3', s4', s5', s6', s7', s8', s9', s10', s11', s12'⟩
    go_simp
    with_reducible rfl
  rotate_left
  · simp only [Act.put, List.setIfInBounds_toArray, List.set_cons_zero, List.set_cons_succ, i64_w, i32_w]
    rfl
  refine two_ (i := 3) (j := 8) (Ni := some 89) (Nj := some 94) #[true, true, true, true, false, true, true, true, false, false, false, false, false, false] #[true, true, true, false, false, true, true, true, true, false, false, false, false, false] rfl rfl rfl rfl (by kernel_rfl) (by decide) (by decide) (fun K hK => ?_) (fun K hK => ?_)
  · skip
    refine value_ (w1 := ?_) (v := ?_) (by rfl) rfl ?_ ?_
    rotate_left 2
    · go_simp
      constructor
      · rfl
      · rfl
    have hb : Below W.heap.size W (W.alloc (.cells #[.int .i64 x] 3)) := blw
    have KX1 : Aside0 (Blk (W.alloc (.cells #[.int .i64 x] 3)) W.heap.size #[.int .i64 x] 3) := ⟨Blk.at rfl⟩
    replace HQ := Aside0.mk (HQ.out.wait hb)
    replace KB := Aside0.mk (KB.out.below hb)
    (first | replace KX2 := Aside0.mk (KX2.out.below hb) | skip)
    have hg0 := hb.size
    replace hgb := Nat.lt_of_lt_of_le hgb hg0
    clear hb hg0 hHeld
    generalize W.alloc (.cells #[.int .i64 x] 3) = Wa at *
    refine hK.out _ _ ⟨HQ.out.outFacts.1 13, HQ.out.outFacts.1 14, cpuAll KB.out⟩ (fun hHeld => ?_)
    clear hK K
    refine norm_ (a' := ?_) ?_ ?_
    rotate_left
    · show Act.put _ (some 89) _ = _
      simp only [Act.put, List.setIfInBounds_toArray, List.set_cons_zero, List.set_cons_succ, i64_w, i32_w]
      rfl
    refine two_ (i := 4) (j := 8) (Ni := some 90) (Nj := some 94) #[true, true, true, true, true, true, true, true, false, false, false, false, false, false] #[true, true, true, true, false, true, true, true, true, false, false, false, false, false] rfl rfl rfl rfl (by kernel_rfl) (by decide) (by decide) (fun K hK => ?_) (fun K hK => ?_)
    · skip
      refine R_append_lies (Kd.int .i64) (by rfl) (.tmp 87) (.tmp 89) 35 (by rfl) base 3 (.int .i64 0) 8 Tryd.underlying35 infoInt rfl (by decide) (by decide) us q.st x [.int .i64 x] (fun k => some k ≠ us.ownBlock) _ (by rfl) rfl KX1.out rfl (fun _ hk => ⟨trivial, hk⟩) HQ.out.st HQ.out.size hst1 ?_
      intro v9 w9 ho9 hg9 _
      have KB9 := Aside0.mk (Blk.grown KB.out hg9 (row_ne HQ.out.st KB.out (by decide)))
      (first | (have KX9 := Aside0.mk (Blk.grown KX2.out hg9 (row_ne HQ.out.st KX2.out (by decide)))) | skip)
      have HQ9 := Aside0.mk (RunAt.appS HQ.out ho9 hg9)
      replace hgb := Nat.lt_of_lt_of_le hgb hg9.size
      clear hHeld ho9 hg9 HQ KB KX1
      (first | clear KX2 | skip)
      have HQ := HQ9
      have KB := KB9
      (first | have KX2 := KX9 | skip)
      clear HQ9 KB9
      (first | clear KX9 | skip)
      skip
      refine hK.out _ _ ⟨HQ.out.outFacts.1 13, HQ.out.outFacts.1 14, cpuAll KB.out⟩ (fun hHeld => ?_)
      clear hK K
      refine norm_ (a' := ?_) ?_ ?_
      rotate_left
      · show Act.put _ (some 90) _ = _
        simp only [Act.put, List.setIfInBounds_toArray, List.set_cons_zero, List.set_cons_succ, i64_w, i32_w]
        rfl
      refine pure_ (i := 10) (N := some 96) (v := ?_) (a' := ?_) #[true, true, true, true, true, true, true, true, false, false, true, false, false, false] rfl rfl (by kernel_rfl) (fun _ _ _ h => by cases h.1) (Or.inl ⟨by rfl, ?_⟩) ?_ ?_
      rotate_left
      · intro w'
        go_simp
        with_reducible rfl
      rotate_left
      · simp only [Act.put, List.setIfInBounds_toArray, List.set_cons_zero, List.set_cons_succ, i64_w, i32_w]
        rfl
      refine one_ (i := 8) (N := some 94) #[true, true, true, true, true, true, true, true, true, false, true, false, false, false] rfl rfl (by kernel_rfl) (by decide) (fun K hK => ?_)
      refine value_ (w1 := ?_) (v := ?_) (by rfl) rfl ?_ ?_
      rotate_left 2
      · go_simp
        constructor
        · rfl
        · rfl
      have hb : Below w9.heap.size w9 (w9.alloc (.cells #[.int .u8 c0.A, .int .u8 c0.X, .int .u8 c0.Y, .int .u8 c0.S, .int .u16 c0.PC, .bool c0.F.N, .bool c0.F.V, .bool c0.F.D, .bool c0.F.I, .bool c0.F.Z, .bool c0.F.C] 31)) := blw
      have KX2 : Aside0 (Blk (w9.alloc (.cells #[.int .u8 c0.A, .int .u8 c0.X, .int .u8 c0.Y, .int .u8 c0.S, .int .u16 c0.PC, .bool c0.F.N, .bool c0.F.V, .bool c0.F.D, .bool c0.F.I, .bool c0.F.Z, .bool c0.F.C] 31)) w9.heap.size #[.int .u8 c0.A, .int .u8 c0.X, .int .u8 c0.Y, .int .u8 c0.S, .int .u16 c0.PC, .bool c0.F.N, .bool c0.F.V, .bool c0.F.D, .bool c0.F.I, .bool c0.F.Z, .bool c0.F.C] 31) := ⟨Blk.at rfl⟩
      replace HQ := Aside0.mk (HQ.out.wait hb)
      replace KB := Aside0.mk (KB.out.below hb)
      (first | replace KX1 := Aside0.mk (KX1.out.below hb) | skip)
      have hg0 := hb.size
      replace hgb := Nat.lt_of_lt_of_le hgb hg0
      clear hb hg0 hHeld
      generalize w9.alloc (.cells #[.int .u8 c0.A, .int .u8 c0.X, .int .u8 c0.Y, .int .u8 c0.S, .int .u16 c0.PC, .bool c0.F.N, .bool c0.F.V, .bool c0.F.D, .bool c0.F.I, .bool c0.F.Z, .bool c0.F.C] 31) = Wb at *
      refine hK.out _ _ ⟨HQ.out.outFacts.1 13, HQ.out.outFacts.1 14, cpuAll KB.out⟩ (fun hHeld => ?_)
      clear hK K
      refine norm_ (a' := ?_) ?_ ?_
      rotate_left
      · show Act.put _ (some 94) _ = _
        simp only [Act.put, List.setIfInBounds_toArray, List.set_cons_zero, List.set_cons_succ, i64_w, i32_w]
        rfl
      refine one_ (i := 9) (N := some 95) #[true, true, true, true, true, true, true, true, true, true, true, false, false, false] rfl rfl (by kernel_rfl) (by decide) (fun K hK => ?_)
      refine R_append_lies cpuK (by rfl) (.tmp 92) (.tmp 94) 36 (by rfl) base 31 (.agg #[.int .u8 0, .int .u8 0, .int .u8 0, .int .u8 0, .int .u16 0, .bool false, .bool false, .bool false, .bool false, .bool false, .bool false]) 12 Tryd.underlying36 infoCpu rfl (by decide) (by decide) up q.cs c0 [.int .u8 c0.A, .int .u8 c0.X, .int .u8 c0.Y, .int .u8 c0.S, .int .u16 c0.PC, .bool c0.F.N, .bool c0.F.V, .bool c0.F.D, .bool c0.F.I, .bool c0.F.Z, .bool c0.F.C] (fun k => some k ≠ up.ownBlock) _ (by rfl) rfl KX2.out ⟨[_], _, rfl, rfl, [_], _, rfl, rfl, [_], _, rfl, rfl, [_], _, rfl, rfl, [_], _, rfl, rfl, [_], _, rfl, rfl, [_], _, rfl, rfl, [_], _, rfl, rfl, [_], _, rfl, rfl, [_], [_], rfl, rfl, rfl⟩ (fun _ hk => ⟨trivial, hk⟩) HQ.out.cs HQ.out.size hcs1 ?_
      intro v10 w10 ho10 hg10 _
      have KB10 := Aside0.mk (Blk.grown KB.out hg10 hup)
      have HQ10 := Aside0.mk (RunAt.appP HQ.out ho10 hg10)
      replace hgb := Nat.lt_of_lt_of_le hgb hg10.size
      clear hHeld ho10 hg10 HQ KB KX2
      have HQ := HQ10
      have KB := KB10
      clear HQ10 KB10
      refine hK.out _ _ ⟨HQ.out.outFacts.1 13, HQ.out.outFacts.1 14, cpuAll KB.out⟩ (fun hHeld => ?_)
      clear hK K
      refine norm_ (a' := ?_) ?_ ?_
      rotate_left
      · show Act.put _ (some 95) _ = _
        simp only [Act.put, List.setIfInBounds_toArray, List.set_cons_zero, List.set_cons_succ, i64_w, i32_w]
        rfl
      obtain ⟨A9, c9, e9, _, _⟩ := HQ.out.st.reads
      obtain ⟨A10, c10, e10, _, _⟩ := HQ.out.cs.reads
      subst e9 e10
      have HF : Aside0 (RunAt w1 w10 ⟨base, g, r, cap⟩ v' b ⟨q.c, q.m, q.t, q.st ++ [x], q.cs ++ [c0], q.jam⟩ m us up (.slice A9 (q.st.length + 1) c9) (.slice A10 (q.cs.length + 1) c10) j) := ⟨by have := HQ.out; simp only [List.length_append, List.length_singleton] at this; exact this⟩
      have hl := HQ.out.outFacts.2.2
      have z13 := HQ.out.outFacts.2.1 13
      have z14 := HQ.out.outFacts.2.1 14
      obtain ⟨h13, h14, _⟩ := hHeld
      refine last_ (i := 11) (N := none) #[true, true, true, true, true, true, true, true, true, true, true, true, false, false] rfl rfl (by kernel_rfl) (by decide) (fun K hK => ?_)
      refine skip_ (w1 := ?_) (by rfl) rfl ?_ ?_
      rotate_left
      · go_simp
        rfl
      refine hK.out _ _ ?_
      clear hK K
      refine pure_ (i := 12) (N := some 97) (v := ?_) (a' := ?_) #[true, true, true, true, true, true, true, true, true, true, true, true, true, false] rfl rfl (by kernel_rfl) (fun _ _ _ h => by cases h.1) (Or.inl ⟨by rfl, ?_⟩) ?_ ?_
      rotate_left
      · intro w'
        go_simp
        with_reducible rfl
      rotate_left
      · simp only [Act.put, List.setIfInBounds_toArray, List.set_cons_zero, List.set_cons_succ, i64_w, i32_w]
        rfl
      refine last_ (i := 13) (N := none) #[true, true, true, true, true, true, true, true, true, true, true, true, true, true] rfl rfl (by kernel_rfl) (by decide) (fun K hK => ?_)
      refine skip_ (w1 := ?_) (by rfl) rfl ?_ ?_
      rotate_left
      · go_simp
        rfl
      refine hK.out _ _ ?_
      clear hK K
      refine done_ (by kernel_rfl) ?_
      refine ⟨rfl, _, _, _, _, _, _, _, _, _, _, _, _, ⟨_, _, (HF.out.putS (.slice A9 (q.st.length + 1) c9)).putP (.slice A10 (q.cs.length + 1) c10)⟩, rfl⟩
    · skip
      refine value_ (w1 := ?_) (v := ?_) (by rfl) rfl ?_ ?_
      rotate_left 2
      · go_simp
        constructor
        · rfl
        · rfl
      have hb : Below Wa.heap.size Wa (Wa.alloc (.cells #[.int .u8 c0.A, .int .u8 c0.X, .int .u8 c0.Y, .int .u8 c0.S, .int .u16 c0.PC, .bool c0.F.N, .bool c0.F.V, .bool c0.F.D, .bool c0.F.I, .bool c0.F.Z, .bool c0.F.C] 31)) := blw
      have KX2 : Aside0 (Blk (Wa.alloc (.cells #[.int .u8 c0.A, .int .u8 c0.X, .int .u8 c0.Y, .int .u8 c0.S, .int .u16 c0.PC, .bool c0.F.N, .bool c0.F.V, .bool c0.F.D, .bool c0.F.I, .bool c0.F.Z, .bool c0.F.C] 31)) Wa.heap.size #[.int .u8 c0.A, .int .u8 c0.X, .int .u8 c0.Y, .int .u8 c0.S, .int .u16 c0.PC, .bool c0.F.N, .bool c0.F.V, .bool c0.F.D, .bool c0.F.I, .bool c0.F.Z, .bool c0.F.C] 31) := ⟨Blk.at rfl⟩
      replace HQ := Aside0.mk (HQ.out.wait hb)
      replace KB := Aside0.mk (KB.out.below hb)
      (first | replace KX1 := Aside0.mk (KX1.out.below hb) | skip)
      have hg0 := hb.size
      replace hgb := Nat.lt_of_lt_of_le hgb hg0
      clear hb hg0 hHeld
      generalize Wa.alloc (.cells #[.int .u8 c0.A, .int .u8 c0.X, .int .u8 c0.Y, .int .u8 c0.S, .int .u16 c0.PC, .bool c0.F.N, .bool c0.F.V, .bool c0.F.D, .bool c0.F.I, .bool c0.F.Z, .bool c0.F.C] 31) = Wb at *
      refine hK.out _ _ ⟨HQ.out.outFacts.1 13, HQ.out.outFacts.1 14, cpuAll KB.out⟩ (fun hHeld => ?_)
      clear hK K
      refine norm_ (a' := ?_) ?_ ?_
      rotate_left
      · show Act.put _ (some 94) _ = _
        simp only [Act.put, List.setIfInBounds_toArray, List.set_cons_zero, List.set_cons_succ, i64_w, i32_w]
        rfl
      refine one_ (i := 4) (N := some 90) #[true, true, true, true, true, true, true, true, true, false, false, false, false, false] rfl rfl (by kernel_rfl) (by decide) (fun K hK => ?_)
      refine R_append_lies (Kd.int .i64) (by rfl) (.tmp 87) (.tmp 89) 35 (by rfl) base 3 (.int .i64 0) 8 Tryd.underlying35 infoInt rfl (by decide) (by decide) us q.st x [.int .i64 x] (fun k => some k ≠ us.ownBlock) _ (by rfl) rfl KX1.out rfl (fun _ hk => ⟨trivial, hk⟩) HQ.out.st HQ.out.size hst1 ?_
      intro v9 w9 ho9 hg9 _
      have KB9 := Aside0.mk (Blk.grown KB.out hg9 (row_ne HQ.out.st KB.out (by decide)))
      (first | (have KX9 := Aside0.mk (Blk.grown KX2.out hg9 (row_ne HQ.out.st KX2.out (by decide)))) | skip)
      have HQ9 := Aside0.mk (RunAt.appS HQ.out ho9 hg9)
      replace hgb := Nat.lt_of_lt_of_le hgb hg9.size
      clear hHeld ho9 hg9 HQ KB KX1
      (first | clear KX2 | skip)
      have HQ := HQ9
      have KB := KB9
      (first | have KX2 := KX9 | skip)
      clear HQ9 KB9
      (first | clear KX9 | skip)
      skip
      refine hK.out _ _ ⟨HQ.out.outFacts.1 13, HQ.out.outFacts.1 14, cpuAll KB.out⟩ (fun hHeld => ?_)
      clear hK K
      refine norm_ (a' := ?_) ?_ ?_
      rotate_left
      · show Act.put _ (some 90) _ = _
        simp only [Act.put, List.setIfInBounds_toArray, List.set_cons_zero, List.set_cons_succ, i64_w, i32_w]
        rfl
      refine pure_ (i := 10) (N := some 96) (v := ?_) (a' := ?_) #[true, true, true, true, true, true, true, true, true, false, true, false, false, false] rfl rfl (by kernel_rfl) (fun _ _ _ h => by cases h.1) (Or.inl ⟨by rfl, ?_⟩) ?_ ?_
      rotate_left
      · intro w'
        go_simp
        with_reducible rfl
      rotate_left
      · simp only [Act.put, List.setIfInBounds_toArray, List.set_cons_zero, List.set_cons_succ, i64_w, i32_w]
        rfl
      refine one_ (i := 9) (N := some 95) #[true, true, true, true, true, true, true, true, true, true, true, false, false, false] rfl rfl (by kernel_rfl) (by decide) (fun K hK => ?_)
      refine R_append_lies cpuK (by rfl) (.tmp 92) (.tmp 94) 36 (by rfl) base 31 (.agg #[.int .u8 0, .int .u8 0, .int .u8 0, .int .u8 0, .int .u16 0, .bool false, .bool false, .bool false, .bool false, .bool false, .bool false]) 12 Tryd.underlying36 infoCpu rfl (by decide) (by decide) up q.cs c0 [.int .u8 c0.A, .int .u8 c0.X, .int .u8 c0.Y, .int .u8 c0.S, .int .u16 c0.PC, .bool c0.F.N, .bool c0.F.V, .bool c0.F.D, .bool c0.F.I, .bool c0.F.Z, .bool c0.F.C] (fun k => some k ≠ up.ownBlock) _ (by rfl) rfl KX2.out ⟨[_], _, rfl, rfl, [_], _, rfl, rfl, [_], _, rfl, rfl, [_], _, rfl, rfl, [_], _, rfl, rfl, [_], _, rfl, rfl, [_], _, rfl, rfl, [_], _, rfl, rfl, [_], _, rfl, rfl, [_], [_], rfl, rfl, rfl⟩ (fun _ hk => ⟨trivial, hk⟩) HQ.out.cs HQ.out.size hcs1 ?_
      intro v10 w10 ho10 hg10 _
      have KB10 := Aside0.mk (Blk.grown KB.out hg10 hup)
      have HQ10 := Aside0.mk (RunAt.appP HQ.out ho10 hg10)
      replace hgb := Nat.lt_of_lt_of_le hgb hg10.size
      clear hHeld ho10 hg10 HQ KB KX2
      have HQ := HQ10
      have KB := KB10
      clear HQ10 KB10
      refine hK.out _ _ ⟨HQ.out.outFacts.1 13, HQ.out.outFacts.1 14, cpuAll KB.out⟩ (fun hHeld => ?_)
      clear hK K
      refine norm_ (a' := ?_) ?_ ?_
      rotate_left
      · show Act.put _ (some 95) _ = _
        simp only [Act.put, List.setIfInBounds_toArray, List.set_cons_zero, List.set_cons_succ, i64_w, i32_w]
        rfl
      obtain ⟨A9, c9, e9, _, _⟩ := HQ.out.st.reads
      obtain ⟨A10, c10, e10, _, _⟩ := HQ.out.cs.reads
      subst e9 e10
      have HF : Aside0 (RunAt w1 w10 ⟨base, g, r, cap⟩ v' b ⟨q.c, q.m, q.t, q.st ++ [x], q.cs ++ [c0], q.jam⟩ m us up (.slice A9 (q.st.length + 1) c9) (.slice A10 (q.cs.length + 1) c10) j) := ⟨by have := HQ.out; simp only [List.length_append, List.length_singleton] at this; exact this⟩
      have hl := HQ.out.outFacts.2.2
      have z13 := HQ.out.outFacts.2.1 13
      have z14 := HQ.out.outFacts.2.1 14
      obtain ⟨h13, h14, _⟩ := hHeld
      refine last_ (i := 11) (N := none) #[true, true, true, true, true, true, true, true, true, true, true, true, false, false] rfl rfl (by kernel_rfl) (by decide) (fun K hK => ?_)
      refine skip_ (w1 := ?_) (by rfl) rfl ?_ ?_
      rotate_left
      · go_simp
        rfl
      refine hK.out _ _ ?_
      clear hK K
      refine pure_ (i := 12) (N := some 97) (v := ?_) (a' := ?_) #[true, true, true, true, true, true, true, true, true, true, true, true, true, false] rfl rfl (by kernel_rfl) (fun _ _ _ h => by cases h.1) (Or.inl ⟨by rfl, ?_⟩) ?_ ?_
      rotate_left
      · intro w'
        go_simp
        with_reducible rfl
      rotate_left
      · simp only [Act.put, List.setIfInBounds_toArray, List.set_cons_zero, List.set_cons_succ, i64_w, i32_w]
        rfl
      refine last_ (i := 13) (N := none) #[true, true, true, true, true, true, true, true, true, true, true, true, true, true] rfl rfl (by kernel_rfl) (by decide) (fun K hK => ?_)
      refine skip_ (w1 := ?_) (by rfl) rfl ?_ ?_
      rotate_left
      · go_simp
        rfl
      refine hK.out _ _ ?_
      clear hK K
      refine done_ (by kernel_rfl) ?_
      refine ⟨rfl, _, _, _, _, _, _, _, _, _, _, _, _, ⟨_, _, (HF.out.putS (.slice A9 (q.st.length + 1) c9)).putP (.slice A10 (q.cs.length + 1) c10)⟩, rfl⟩
  · skip
    refine value_ (w1 := ?_) (v := ?_) (by rfl) rfl ?_ ?_
    rotate_left 2
    · go_simp
      constructor
      · rfl
      · rfl
    have hb : Below W.heap.size W (W.alloc (.cells #[.int .u8 c0.A, .int .u8 c0.X, .int .u8 c0.Y, .int .u8 c0.S, .int .u16 c0.PC, .bool c0.F.N, .bool c0.F.V, .bool c0.F.D, .bool c0.F.I, .bool c0.F.Z, .bool c0.F.C] 31)) := blw
    have KX2 : Aside0 (Blk (W.alloc (.cells #[.int .u8 c0.A, .int .u8 c0.X, .int .u8 c0.Y, .int .u8 c0.S, .int .u16 c0.PC, .bool c0.F.N, .bool c0.F.V, .bool c0.F.D, .bool c0.F.I, .bool c0.F.Z, .bool c0.F.C] 31)) W.heap.size #[.int .u8 c0.A, .int .u8 c0.X, .int .u8 c0.Y, .int .u8 c0.S, .int .u16 c0.PC, .bool c0.F.N, .bool c0.F.V, .bool c0.F.D, .bool c0.F.I, .bool c0.F.Z, .bool c0.F.C] 31) := ⟨Blk.at rfl⟩
    replace HQ := Aside0.mk (HQ.out.wait hb)
    replace KB := Aside0.mk (KB.out.below hb)
    (first | replace KX1 := Aside0.mk (KX1.out.below hb) | skip)
    have hg0 := hb.size
    replace hgb := Nat.lt_of_lt_of_le hgb hg0
    clear hb hg0 hHeld
    generalize W.alloc (.cells #[.int .u8 c0.A, .int .u8 c0.X, .int .u8 c0.Y, .int .u8 c0.S, .int .u16 c0.PC, .bool c0.F.N, .bool c0.F.V, .bool c0.F.D, .bool c0.F.I, .bool c0.F.Z, .bool c0.F.C] 31) = Wa at *
    refine hK.out _ _ ⟨HQ.out.outFacts.1 13, HQ.out.outFacts.1 14, cpuAll KB.out⟩ (fun hHeld => ?_)
    clear hK K
    refine norm_ (a' := ?_) ?_ ?_
    rotate_left
    · show Act.put _ (some 94) _ = _
      simp only [Act.put, List.setIfInBounds_toArray, List.set_cons_zero, List.set_cons_succ, i64_w, i32_w]
      rfl
    refine one_ (i := 3) (N := some 89) #[true, true, true, true, false, true, true, true, true, false, false, false, false, false] rfl rfl (by kernel_rfl) (by decide) (fun K hK => ?_)
    refine value_ (w1 := ?_) (v := ?_) (by rfl) rfl ?_ ?_
    rotate_left 2
    · go_simp
      constructor
      · rfl
      · rfl
    have hb : Below Wa.heap.size Wa (Wa.alloc (.cells #[.int .i64 x] 3)) := blw
    have KX1 : Aside0 (Blk (Wa.alloc (.cells #[.int .i64 x] 3)) Wa.heap.size #[.int .i64 x] 3) := ⟨Blk.at rfl⟩
    replace HQ := Aside0.mk (HQ.out.wait hb)
    replace KB := Aside0.mk (KB.out.below hb)
    (first | replace KX2 := Aside0.mk (KX2.out.below hb) | skip)
    have hg0 := hb.size
    replace hgb := Nat.lt_of_lt_of_le hgb hg0
    clear hb hg0 hHeld
    generalize Wa.alloc (.cells #[.int .i64 x] 3) = Wb at *
    refine hK.out _ _ ⟨HQ.out.outFacts.1 13, HQ.out.outFacts.1 14, cpuAll KB.out⟩ (fun hHeld => ?_)
    clear hK K
    refine norm_ (a' := ?_) ?_ ?_
    rotate_left
    · show Act.put _ (some 89) _ = _
      simp only [Act.put, List.setIfInBounds_toArray, List.set_cons_zero, List.set_cons_succ, i64_w, i32_w]
      rfl
    refine one_ (i := 4) (N := some 90) #[true, true, true, true, true, true, true, true, true, false, false, false, false, false] rfl rfl (by kernel_rfl) (by decide) (fun K hK => ?_)
    refine R_append_lies (Kd.int .i64) (by rfl) (.tmp 87) (.tmp 89) 35 (by rfl) base 3 (.int .i64 0) 8 Tryd.underlying35 infoInt rfl (by decide) (by decide) us q.st x [.int .i64 x] (fun k => some k ≠ us.ownBlock) _ (by rfl) rfl KX1.out rfl (fun _ hk => ⟨trivial, hk⟩) HQ.out.st HQ.out.size hst1 ?_
    intro v9 w9 ho9 hg9 _
    have KB9 := Aside0.mk (Blk.grown KB.out hg9 (row_ne HQ.out.st KB.out (by decide)))
    (first | (have KX9 := Aside0.mk (Blk.grown KX2.out hg9 (row_ne HQ.out.st KX2.out (by decide)))) | skip)
    have HQ9 := Aside0.mk (RunAt.appS HQ.out ho9 hg9)
    replace hgb := Nat.lt_of_lt_of_le hgb hg9.size
    clear hHeld ho9 hg9 HQ KB KX1
    (first | clear KX2 | skip)
    have HQ := HQ9
    have KB := KB9
    (first | have KX2 := KX9 | skip)
    clear HQ9 KB9
    (first | clear KX9 | skip)
    skip
    refine hK.out _ _ ⟨HQ.out.outFacts.1 13, HQ.out.outFacts.1 14, cpuAll KB.out⟩ (fun hHeld => ?_)
    clear hK K
    refine norm_ (a' := ?_) ?_ ?_
    rotate_left
    · show Act.put _ (some 90) _ = _
      simp only [Act.put, List.setIfInBounds_toArray, List.set_cons_zero, List.set_cons_succ, i64_w, i32_w]
      rfl
    refine pure_ (i := 10) (N := some 96) (v := ?_) (a' := ?_) #[true, true, true, true, true, true, true, true, true, false, true, false, false, false] rfl rfl (by kernel_rfl) (fun _ _ _ h => by cases h.1) (Or.inl ⟨by rfl, ?_⟩) ?_ ?_
    rotate_left
    · intro w'
      go_simp
      with_reducible rfl
    rotate_left
    · simp only [Act.put, List.setIfInBounds_toArray, List.set_cons_zero, List.set_cons_succ, i64_w, i32_w]
      rfl
    refine one_ (i := 9) (N := some 95) #[true, true, true, true, true, true, true, true, true, true, true, false, false, false] rfl rfl (by kernel_rfl) (by decide) (fun K hK => ?_)
    refine R_append_lies cpuK (by rfl) (.tmp 92) (.tmp 94) 36 (by rfl) base 31 (.agg #[.int .u8 0, .int .u8 0, .int .u8 0, .int .u8 0, .int .u16 0, .bool false, .bool false, .bool false, .bool false, .bool false, .bool false]) 12 Tryd.underlying36 infoCpu rfl (by decide) (by decide) up q.cs c0 [.int .u8 c0.A, .int .u8 c0.X, .int .u8 c0.Y, .int .u8 c0.S, .int .u16 c0.PC, .bool c0.F.N, .bool c0.F.V, .bool c0.F.D, .bool c0.F.I, .bool c0.F.Z, .bool c0.F.C] (fun k => some k ≠ up.ownBlock) _ (by rfl) rfl KX2.out ⟨[_], _, rfl, rfl, [_], _, rfl, rfl, [_], _, rfl, rfl, [_], _, rfl, rfl, [_], _, rfl, rfl, [_], _, rfl, rfl, [_], _, rfl, rfl, [_], _, rfl, rfl, [_], _, rfl, rfl, [_], [_], rfl, rfl, rfl⟩ (fun _ hk => ⟨trivial, hk⟩) HQ.out.cs HQ.out.size hcs1 ?_
    intro v10 w10 ho10 hg10 _
    have KB10 := Aside0.mk (Blk.grown KB.out hg10 hup)
    have HQ10 := Aside0.mk (RunAt.appP HQ.out ho10 hg10)
    replace hgb := Nat.lt_of_lt_of_le hgb hg10.size
    clear hHeld ho10 hg10 HQ KB KX2
    have HQ := HQ10
    have KB := KB10
    clear HQ10 KB10
    refine hK.out _ _ ⟨HQ.out.outFacts.1 13, HQ.out.outFacts.1 14, cpuAll KB.out⟩ (fun hHeld => ?_)
    clear hK K
    refine norm_ (a' := ?_) ?_ ?_
    rotate_left
    · show Act.put _ (some 95) _ = _
      simp only [Act.put, List.setIfInBounds_toArray, List.set_cons_zero, List.set_cons_succ, i64_w, i32_w]
      rfl
    obtain ⟨A9, c9, e9, _, _⟩ := HQ.out.st.reads
    obtain ⟨A10, c10, e10, _, _⟩ := HQ.out.cs.reads
    subst e9 e10
    have HF : Aside0 (RunAt w1 w10 ⟨base, g, r, cap⟩ v' b ⟨q.c, q.m, q.t, q.st ++ [x], q.cs ++ [c0], q.jam⟩ m us up (.slice A9 (q.st.length + 1) c9) (.slice A10 (q.cs.length + 1) c10) j) := ⟨by have := HQ.out; simp only [List.length_append, List.length_singleton] at this; exact this⟩
    have hl := HQ.out.outFacts.2.2
    have z13 := HQ.out.outFacts.2.1 13
    have z14 := HQ.out.outFacts.2.1 14
    obtain ⟨h13, h14, _⟩ := hHeld
    refine last_ (i := 11) (N := none) #[true, true, true, true, true, true, true, true, true, true, true, true, false, false] rfl rfl (by kernel_rfl) (by decide) (fun K hK => ?_)
    refine skip_ (w1 := ?_) (by rfl) rfl ?_ ?_
    rotate_left
    · go_simp
      rfl
    refine hK.out _ _ ?_
    clear hK K
    refine pure_ (i := 12) (N := some 97) (v := ?_) (a' := ?_) #[true, true, true, true, true, true, true, true, true, true, true, true, true, false] rfl rfl (by kernel_rfl) (fun _ _ _ h => by cases h.1) (Or.inl ⟨by rfl, ?_⟩) ?_ ?_
    rotate_left
    · intro w'
      go_simp
      with_reducible rfl
    rotate_left
    · simp only [Act.put, List.setIfInBounds_toArray, List.set_cons_zero, List.set_cons_succ, i64_w, i32_w]
      rfl
    refine last_ (i := 13) (N := none) #[true, true, true, true, true, true, true, true, true, true, true, true, true, true] rfl rfl (by kernel_rfl) (by decide) (fun K hK => ?_)
    refine skip_ (w1 := ?_) (by rfl) rfl ?_ ?_
    rotate_left
    · go_simp
      rfl
    refine hK.out _ _ ?_
    clear hK K
    refine done_ (by kernel_rfl) ?_
    refine ⟨rfl, _, _, _, _, _, _, _, _, _, _, _, _, ⟨_, _, (HF.out.putS (.slice A9 (q.st.length + 1) c9)).putP (.slice A10 (q.cs.length + 1) c10)⟩, rfl⟩
end Go.Proofs.YtoncmhfmkfeolaaDoor
