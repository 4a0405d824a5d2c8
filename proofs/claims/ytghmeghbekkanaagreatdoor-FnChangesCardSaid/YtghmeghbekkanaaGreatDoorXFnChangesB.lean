/- FnChanges: the inner loop. -/
import Derived.Test.YtghmeghbekkanaaGreatDoorSpecT
import Derived.Test.YtghmeghbekkanaaGreatDoorStepR
import Derived.Test.YtghmeghbekkanaaGreatDoorChgI
import Derived.Test.YtghmeghbekkanaaGreatDoorKnowS
import Derived.Test.YtghmeghbekkanaaGreatDoorOkC
import Derived.Test.YtghmeghbekkanaaGreatDoorDraw8
import Derived.Deep.DeepCutAuto
import Derived.Test.YtghmeghbekkanaaGreatDoorXFnChangesA
set_option linter.unusedVariables false
set_option linter.unusedSimpArgs false
namespace Go.Proofs.YtghmeghbekkanaaGreatDoor
open Go.RowKit Go.Proofs.YtghmeghbekkanaaGreatDoorW.PrintWords
attribute [local go_sem high] index_lb size_lb
set_option maxRecDepth 100000 in
set_option maxHeartbeats 8000000 in
theorem chgInner (T : List UInt8) (hT : T.length ≤ 100) (i : Nat) (hi : i < 10) (w12 wr : World) (HW : Aside0 (Below w12.heap.size w12 wr))
    (s0 s1 s2 s3 s4 s5 s6 s7 s9 s10 s11 s12 s17 s18 s19 s20 s21 s22 s23 s24 s25 s26 s27 s28 s29 s30 s31 s32 s33 s34 s35 s36 s37 s38 s39 s40 s41 s42 s43 s44 s45 s46 s47 s48 s49 s50 s51 s52 s53 s54 s55 s56 s57 s58 s59 s60 s61 s62 s63 s64 s65 s66 s67 s68 s69 s70 s71 s72 s73 s74 s75 s76 s77 s78 s79 s80 s81 s82 s83 s84 s85 s86 s87 s88 s89 s90 s91 s92 s93 s94 s95 s96 s97 s98 s99 s100 s101 s102 s103 s104 s105 s106 s107 s108 s109 s110 s111 s112 s113 s114 s115 s116 s117 s118 s119 s120 s121 s122 s123 s124 s125 s126 s127 s128 s129 s130 s131 s132 : Value) :
    Code.wp Tryz.prog (.loop (((Tryz.f3.body.bind firstLoop).bind firstLoop).getD .skip)) (fun e a' w' => e = .exit 2 ∧ Aside0 (Below w12.heap.size w12 w') ∧ ∃ u16 u104 u105 u106 u107 u108 u109 u110 u111 u112 u113 u114 u115 u116 u117 u118 u119, a' = ⟨List.toArray (s0 :: s1 :: s2 :: s3 :: s4 :: s5 :: s6 :: s7 :: .string ⟨T.toArray⟩ :: s9 :: s10 :: s11 :: s12 :: .string ⟨#[65, 88, 89, 83, 78, 86, 68, 73, 90, 67]⟩ :: .int .i64 i :: .bool (T.contains (lets.getD i 0)) :: u16 :: s17 :: s18 :: s19 :: s20 :: s21 :: s22 :: s23 :: s24 :: s25 :: s26 :: s27 :: s28 :: s29 :: s30 :: s31 :: s32 :: s33 :: s34 :: s35 :: s36 :: s37 :: s38 :: s39 :: s40 :: s41 :: s42 :: s43 :: s44 :: s45 :: s46 :: s47 :: s48 :: s49 :: s50 :: s51 :: s52 :: s53 :: s54 :: s55 :: s56 :: s57 :: s58 :: s59 :: s60 :: s61 :: s62 :: s63 :: s64 :: s65 :: s66 :: s67 :: s68 :: s69 :: s70 :: s71 :: s72 :: s73 :: s74 :: s75 :: s76 :: s77 :: s78 :: s79 :: s80 :: s81 :: s82 :: s83 :: s84 :: s85 :: s86 :: s87 :: s88 :: s89 :: s90 :: s91 :: s92 :: s93 :: s94 :: s95 :: s96 :: s97 :: s98 :: s99 :: s100 :: s101 :: s102 :: s103 :: u104 :: u105 :: u106 :: u107 :: u108 :: u109 :: u110 :: u111 :: u112 :: u113 :: u114 :: u115 :: u116 :: u117 :: u118 :: u119 :: s120 :: s121 :: s122 :: s123 :: s124 :: s125 :: s126 :: s127 :: s128 :: s129 :: s130 :: s131 :: s132 :: []), []⟩) ⟨List.toArray (s0 :: s1 :: s2 :: s3 :: s4 :: s5 :: s6 :: s7 :: .string ⟨T.toArray⟩ :: s9 :: s10 :: s11 :: s12 :: .string ⟨#[65, 88, 89, 83, 78, 86, 68, 73, 90, 67]⟩ :: .int .i64 i :: .bool false :: .int .i64 0 :: s17 :: s18 :: s19 :: s20 :: s21 :: s22 :: s23 :: s24 :: s25 :: s26 :: s27 :: s28 :: s29 :: s30 :: s31 :: s32 :: s33 :: s34 :: s35 :: s36 :: s37 :: s38 :: s39 :: s40 :: s41 :: s42 :: s43 :: s44 :: s45 :: s46 :: s47 :: s48 :: s49 :: s50 :: s51 :: s52 :: s53 :: s54 :: s55 :: s56 :: s57 :: s58 :: s59 :: s60 :: s61 :: s62 :: s63 :: s64 :: s65 :: s66 :: s67 :: s68 :: s69 :: s70 :: s71 :: s72 :: s73 :: s74 :: s75 :: s76 :: s77 :: s78 :: s79 :: s80 :: s81 :: s82 :: s83 :: s84 :: s85 :: s86 :: s87 :: s88 :: s89 :: s90 :: s91 :: s92 :: s93 :: s94 :: s95 :: s96 :: s97 :: s98 :: s99 :: s100 :: s101 :: s102 :: s103 :: s104 :: s105 :: s106 :: s107 :: s108 :: s109 :: s110 :: s111 :: s112 :: s113 :: s114 :: s115 :: s116 :: s117 :: s118 :: s119 :: s120 :: s121 :: s122 :: s123 :: s124 :: s125 :: s126 :: s127 :: s128 :: s129 :: s130 :: s131 :: s132 :: []), []⟩ wr := by
  conv => arg 2; arg 1; whnf
  have i0 : (0 : Int) ≤ (i : Int) := by omega
  have i1 : (i : Int) < 10 := by omega
  go_loopw [15, 16] (fun v15 v16 wz => ∃ k : Nat, ∃ q : Bool, k ≤ T.length ∧ v16 = .int .i64 k ∧ v15 = .bool q ∧ Aside0 (q = (T.take k).contains (lets.getD i 0)) ∧ Aside0 (Below w12.heap.size w12 wz)) (fun _ v16 _ => T.length - (intOf v16).toNat)
  case atStart => exact ⟨0, false, Nat.zero_le _, rfl, rfl, ⟨rfl⟩, HW⟩
  case round =>
    clear HW
    obtain ⟨k, q, hk, rfl, rfl, hq2, HW⟩ := hrel
    by_cases hlt2 : k < T.length
    · have k0 : (0 : Int) ≤ (k : Int) := by omega
      have k1 : (k : Int) < (T.length : Int) := by omega
      have HT := Aside0.mk (take_has T (lets.getD i 0) k hlt2)
      have HL := Aside0.mk (lb_eq T lets k i)
      have HK := Aside0.mk hlt2
      cases q
      · go_wp2_with fail
        go_quiet (fail)
        go_wp2_with fail
        exact ⟨⟨k + 1, _, by have := HK.out; omega, by go_num, rfl, ⟨by rw [HT.out, ← hq2.out, ← HL.out]; rfl⟩, ⟨blw⟩⟩, by have := HK.out; simp [intOf]; omega⟩
      · go_wp2_with fail
        go_quiet (fail)
        go_wp2_with fail
        exact ⟨⟨k + 1, true, by have := HK.out; omega, by go_num, rfl, ⟨by rw [HT.out, ← hq2.out]; rfl⟩, ⟨blw⟩⟩, by have := HK.out; simp [intOf]; omega⟩
    · have ek : k = T.length := by omega
      subst ek
      rw [List.take_length] at hq2
      have hq3 := hq2.out
      subst hq3
      go_wp2_with fail
end Go.Proofs.YtghmeghbekkanaaGreatDoor
