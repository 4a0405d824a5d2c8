/- FnChanges: the outer loop. -/
import Derived.Test.YtghmeghbekkanaaGreatDoorSpecT
import Derived.Test.YtghmeghbekkanaaGreatDoorStepR
import Derived.Test.YtghmeghbekkanaaGreatDoorChgI
import Derived.Test.YtghmeghbekkanaaGreatDoorKnowS
import Derived.Test.YtghmeghbekkanaaGreatDoorOkC
import Derived.Test.YtghmeghbekkanaaGreatDoorDraw8
import Derived.Deep.DeepCutAuto
import Derived.Test.YtghmeghbekkanaaGreatDoorXFnChangesB
set_option linter.unusedVariables false
set_option linter.unusedSimpArgs false
namespace Go.Proofs.YtghmeghbekkanaaGreatDoor
open Go.RowKit Go.Proofs.YtghmeghbekkanaaGreatDoorW.PrintWords
attribute [local go_sem high] index_lb size_lb
set_option maxRecDepth 100000 in
set_option maxHeartbeats 8000000 in
theorem chgOuter (T : List UInt8) (hT : T.length ≤ 100) (x y : Cpu) (gx gy : Nat) (w12 : World) (HX : Aside0 (∀ k : Nat, k < 10 → w12.cell? ⟨gx, k, none⟩ = some (.int .i64 (rd (regs x) k)))) (HY : Aside0 (∀ k : Nat, k < 10 → w12.cell? ⟨gy, k, none⟩ = some (.int .i64 (rd (regs y) k)))) (HK : Aside0 (Kp T x y))
    (s0 s1 s2 s3 s4 s5 s6 s7 s9 s10 s15 s16 s17 s18 s19 s20 s21 s22 s23 s24 s25 s26 s27 s28 s29 s30 s31 s32 s33 s34 s35 s36 s37 s38 s39 s40 s41 s42 s43 s44 s45 s46 s47 s48 s49 s50 s51 s52 s53 s54 s55 s56 s57 s58 s59 s60 s61 s62 s63 s64 s65 s66 s67 s68 s69 s70 s71 s72 s73 s74 s75 s76 s77 s78 s79 s80 s81 s82 s83 s84 s85 s86 s87 s88 s89 s90 s91 s92 s93 s94 s95 s96 s97 s98 s99 s100 s101 s102 s103 s104 s105 s106 s107 s108 s109 s110 s111 s112 s113 s114 s115 s116 s117 s118 s119 s120 s121 s122 s123 s124 s125 s126 s127 s128 s129 s130 s131 s132 : Value) :
    Code.wp Tryz.prog (.loop ((Tryz.f3.body.bind firstLoop).getD .skip)) (fun e a' w' => e = .exit 0 ∧ Aside0 (Below w12.heap.size w12 w') ∧ ∃ u2 u14 u15 u16 u98 u99 u100 u101 u102 u103 u104 u105 u106 u107 u108 u109 u110 u111 u112 u113 u114 u115 u116 u117 u118 u119 u120 u121 u122 u123 u124 u125 u126 u127 u128 u129 u130 u131 u132, a' = ⟨List.toArray (s0 :: s1 :: u2 :: s3 :: s4 :: s5 :: s6 :: s7 :: .string ⟨T.toArray⟩ :: s9 :: s10 :: .slice (some ⟨gx, 0, none⟩) 10 10 :: .slice (some ⟨gy, 0, none⟩) 10 10 :: .string ⟨#[65, 88, 89, 83, 78, 86, 68, 73, 90, 67]⟩ :: u14 :: u15 :: u16 :: s17 :: s18 :: s19 :: s20 :: s21 :: s22 :: s23 :: s24 :: s25 :: s26 :: s27 :: s28 :: s29 :: s30 :: s31 :: s32 :: s33 :: s34 :: s35 :: s36 :: s37 :: s38 :: s39 :: s40 :: s41 :: s42 :: s43 :: s44 :: s45 :: s46 :: s47 :: s48 :: s49 :: s50 :: s51 :: s52 :: s53 :: s54 :: s55 :: s56 :: s57 :: s58 :: s59 :: s60 :: s61 :: s62 :: s63 :: s64 :: s65 :: s66 :: s67 :: s68 :: s69 :: s70 :: s71 :: s72 :: s73 :: s74 :: s75 :: s76 :: s77 :: s78 :: s79 :: s80 :: s81 :: s82 :: s83 :: s84 :: s85 :: s86 :: s87 :: s88 :: s89 :: s90 :: s91 :: s92 :: s93 :: s94 :: s95 :: s96 :: s97 :: u98 :: u99 :: u100 :: u101 :: u102 :: u103 :: u104 :: u105 :: u106 :: u107 :: u108 :: u109 :: u110 :: u111 :: u112 :: u113 :: u114 :: u115 :: u116 :: u117 :: u118 :: u119 :: u120 :: u121 :: u122 :: u123 :: u124 :: u125 :: u126 :: u127 :: u128 :: u129 :: u130 :: u131 :: u132 :: []), []⟩) ⟨List.toArray (s0 :: s1 :: s2 :: s3 :: s4 :: s5 :: s6 :: s7 :: .string ⟨T.toArray⟩ :: s9 :: s10 :: .slice (some ⟨gx, 0, none⟩) 10 10 :: .slice (some ⟨gy, 0, none⟩) 10 10 :: .string ⟨#[65, 88, 89, 83, 78, 86, 68, 73, 90, 67]⟩ :: .int .i64 0 :: s15 :: s16 :: s17 :: s18 :: s19 :: s20 :: s21 :: s22 :: s23 :: s24 :: s25 :: s26 :: s27 :: s28 :: s29 :: s30 :: s31 :: s32 :: s33 :: s34 :: s35 :: s36 :: s37 :: s38 :: s39 :: s40 :: s41 :: s42 :: s43 :: s44 :: s45 :: s46 :: s47 :: s48 :: s49 :: s50 :: s51 :: s52 :: s53 :: s54 :: s55 :: s56 :: s57 :: s58 :: s59 :: s60 :: s61 :: s62 :: s63 :: s64 :: s65 :: s66 :: s67 :: s68 :: s69 :: s70 :: s71 :: s72 :: s73 :: s74 :: s75 :: s76 :: s77 :: s78 :: s79 :: s80 :: s81 :: s82 :: s83 :: s84 :: s85 :: s86 :: s87 :: s88 :: s89 :: s90 :: s91 :: s92 :: s93 :: s94 :: s95 :: s96 :: s97 :: s98 :: s99 :: s100 :: s101 :: s102 :: s103 :: s104 :: s105 :: s106 :: s107 :: s108 :: s109 :: s110 :: s111 :: s112 :: s113 :: s114 :: s115 :: s116 :: s117 :: s118 :: s119 :: s120 :: s121 :: s122 :: s123 :: s124 :: s125 :: s126 :: s127 :: s128 :: s129 :: s130 :: s131 :: s132 :: []), []⟩ w12 := by
  conv => arg 2; arg 1; whnf
  have HB12 := hR w12
  go_loopw [14] (fun v14 wr => ∃ i : Nat, i ≤ 10 ∧ v14 = .int .i64 i ∧ Aside0 (Below w12.heap.size w12 wr)) (fun v14 _ => 10 - (intOf v14).toNat)
  case atStart => exact ⟨0, by omega, rfl, HB12⟩
  case round =>
    clear HB12
    obtain ⟨i, hi, rfl, HW⟩ := hrel
    by_cases hlt : i < 10
    · have i0 : (0 : Int) ≤ (i : Int) := by omega
      have i1 : (i : Int) < 10 := by omega
      have HI := Aside0.mk hlt
      go_wp2_with fail
      refine wp_mono (chgInner T hT i hlt w12 wr HW _ _ _ _ _ _ _ _ _ _ _ _ _ _ _ _ _ _ _ _ _ _ _ _ _ _ _ _ _ _ _ _ _ _ _ _ _ _ _ _ _ _ _ _ _ _ _ _ _ _ _ _ _ _ _ _ _ _ _ _ _ _ _ _ _ _ _ _ _ _ _ _ _ _ _ _ _ _ _ _ _ _ _ _ _ _ _ _ _ _ _ _ _ _ _ _ _ _ _ _ _ _ _ _ _ _ _ _ _ _ _ _ _ _ _ _ _ _ _ _ _ _ _ _ _ _ _ _) ?_
      rintro _ _ wz ⟨rfl, HZ, u16, u104, u105, u106, u107, u108, u109, u110, u111, u112, u113, u114, u115, u116, u117, u118, u119, rfl⟩
      clear HW
      have HW := HZ
      clear HZ
      have HKK := fun e => kp_regs HK.out i hlt e
      have e1 := cell_keep HW.out (HX.out i hlt)
      have e2 := cell_keep HW.out (HY.out i hlt)
      generalize T.contains (lets.getD i 0) = q at *
      cases q
      · have ev := HKK rfl
        rw [ev] at e1
        clear ev HKK
        go_wp2_with fail
        go_quiet (fail)
        go_wp2_with fail
        exact ⟨⟨i + 1, by have := HI.out; omega, by go_num, ⟨blw⟩⟩, by have := HI.out; simp [intOf]; omega⟩
      · clear HKK
        by_cases ev : rd (regs x) i = rd (regs y) i
        · rw [ev] at e1
          clear ev
          go_wp2_with fail
          go_quiet (fail)
          go_wp2_with fail
          exact ⟨⟨i + 1, by have := HI.out; omega, by go_num, ⟨blw⟩⟩, by have := HI.out; simp [intOf]; omega⟩
        · have ev2 : (rd (regs x) i != rd (regs y) i) = true := by simp [ev]
          have ev3 : (rd (regs x) i == rd (regs y) i) = false := by simp [ev]
          go_wp2_with fail
          go_quiet (fail)
          go_wp2_with fail
          exact ⟨⟨i + 1, by have := HI.out; omega, by go_num, ⟨blw⟩⟩, by have := HI.out; simp [intOf]; omega⟩
    · go_wp2_with fail
      exact ⟨trivial, HW, by (repeat apply Exists.intro); exact rfl⟩
end Go.Proofs.YtghmeghbekkanaaGreatDoor
