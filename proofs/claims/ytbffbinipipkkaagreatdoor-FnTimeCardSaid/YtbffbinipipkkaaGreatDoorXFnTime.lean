/- FnTime: an operation takes the time that is told, by what it crosses and whether it is taken. For every input. -/
import Derived.Test.YtbffbinipipkkaaGreatDoorSpecT
import Derived.Test.YtbffbinipipkkaaGreatDoorTimeL
import Derived.Test.YtbffbinipipkkaaGreatDoorDraw8
import Derived.Deep.DeepCutAuto
set_option linter.unusedVariables false
set_option linter.unusedSimpArgs false
namespace Go.Proofs.YtbffbinipipkkaaGreatDoor
open Go.RowKit Go.Proofs.YtbffbinipipkkaaGreatDoorW.PrintWords
theorem time_yes : ∀ c : Nat, c < 256 → (¬ nmL c = [] → ∀ x t : Bool, timeI c false false ≤ timeI c x t ∧ timeI c x t ≤ timeI c true true) := by decide +kernel
set_option maxRecDepth 20000 in
set_option maxHeartbeats 4000000 in
theorem FnTime_walk (A : Option Addr) (l : List Int) (c : Nat) (w : World) (h : Bs w A l) (hl : l.length ≤ 9223372036854775807) (he : Env w) :
    Calls Tryz.prog 7 #[.slice A l.length c] w fun e w' => e = .returned (.bool true) ∧ Below w.heap.size w w' := by
  by_cases hbig : (1048576 : Int) < l.length
  · have HB := hR w; go_enter Tryz.func7, Tryz.ntmps7
    go_wp2_with (first | (go_at_call 10; ((with_reducible refine (laws_big _ _ _ _ (by omega)).mono ?_); rintro _ _ ⟨rfl, rfl⟩)))
    go_ret
    exact ⟨rfl, blw⟩
  have hl2 : l.length ≤ 1048576 := by omega
  have HB := hR w; go_enter Tryz.func7, Tryz.ntmps7
  go_wp2_with fail
  refine (laws_big _ _ _ _ (by omega)).mono ?_
  rintro _ _ ⟨rfl, rfl⟩
  go_wp2_with fail
  refine Calls.mono (spec_DrawStep A c l _ h hl2) ?_
  rintro _ w1 ⟨x, L, A1, c1, rfl, hx, hL, hLb, ho, hb⟩
  replace HB := Aside0.mk (below_step HB.out hb)
  have BS := Aside0.mk (ho.bs hLb)
  clear hb ho
  have HB1 := hR w1
  go_upto_region 4 with (fail)
  have hb : Below w1.heap.size w1 ((w1.alloc (.cells #[.int .u8 x.A, .int .u8 x.X, .int .u8 x.Y, .int .u8 x.S, .int .u16 x.PC, .bool x.F.N, .bool x.F.V, .bool x.F.D, .bool x.F.I, .bool x.F.Z, .bool x.F.C] 28)).alloc (.cells #[.slice A1 L.length c1] 30)) := blw
  have K : Aside0 (Many ((w1.alloc (.cells #[.int .u8 x.A, .int .u8 x.X, .int .u8 x.Y, .int .u8 x.S, .int .u16 x.PC, .bool x.F.N, .bool x.F.V, .bool x.F.D, .bool x.F.I, .bool x.F.Z, .bool x.F.C] 28)).alloc (.cells #[.slice A1 L.length c1] 30)) [(w1.heap.size, #[.int .u8 x.A, .int .u8 x.X, .int .u8 x.Y, .int .u8 x.S, .int .u16 x.PC, .bool x.F.N, .bool x.F.V, .bool x.F.D, .bool x.F.I, .bool x.F.Z, .bool x.F.C], 28), (w1.heap.size + 1, #[.slice A1 L.length c1], 30)]) := ⟨Many.cons ((Blk.at rfl).alloc _) (Many.cons (Blk.at (by simp)) (Many.nil _))⟩
  replace HB := Aside0.mk (below_step HB.out hb)
  replace BS := Aside0.mk (BS.out.below hb)
  clear hb
  generalize (w1.alloc (.cells #[.int .u8 x.A, .int .u8 x.X, .int .u8 x.Y, .int .u8 x.S, .int .u16 x.PC, .bool x.F.N, .bool x.F.V, .bool x.F.D, .bool x.F.I, .bool x.F.Z, .bool x.F.C] 28)).alloc (.cells #[.slice A1 L.length c1] 30) = w2 at *
  have EV := Aside0.mk (he.below HB.out)
  have HB2 := hR w2
  have hx0 := hx
  obtain ⟨_, _, _, _, _, _, _, _, p0, p1⟩ := hx0
  obtain ⟨e0, e1, e2, e3, e4, e5, e6, e7, e8, e9, e10⟩ := (K.out.at 0 rfl).cpu
  have r1 := (K.out.at 1 rfl).one
  have hl0 := (K.out.at 0 rfl).lt
  have hl1 := (K.out.at 1 rfl).lt
  obtain ⟨q, hq⟩ : ∃ q, ramSize L.length = q := ⟨_, rfl⟩
  cases q
  · go_wp2_with fail; refine Calls.mono (spec_RamOk _ _ _ _) ?_; rintro _ w3 ⟨rfl, hb⟩; have hb := below_step (w := w2) (blw) hb; replace K := Aside0.mk (K.out.below hb); replace BS := Aside0.mk (BS.out.below hb); replace HB := Aside0.mk (below_step HB.out hb); replace EV := Aside0.mk (he.below HB.out); have hz3 := hb.size; clear hb; clear e0 e1 e2 e3 e4 e5 e6 e7 e8 e9 e10 r1 hl0 hl1; have hl0 := (K.out.at 0 rfl).lt; have hl1 := (K.out.at 1 rfl).lt; obtain ⟨e0, e1, e2, e3, e4, e5, e6, e7, e8, e9, e10⟩ := (K.out.at 0 rfl).cpu; have r1 := (K.out.at 1 rfl).one; have HB3 := hR w3
    go_wp2_with fail
    go_ret
    exact ⟨rfl, blw⟩
  go_wp2_with fail; refine Calls.mono (spec_RamOk _ _ _ _) ?_; rintro _ w3 ⟨rfl, hb⟩; have hb := below_step (w := w2) (blw) hb; replace K := Aside0.mk (K.out.below hb); replace BS := Aside0.mk (BS.out.below hb); replace HB := Aside0.mk (below_step HB.out hb); replace EV := Aside0.mk (he.below HB.out); have hz3 := hb.size; clear hb; clear e0 e1 e2 e3 e4 e5 e6 e7 e8 e9 e10 r1 hl0 hl1; have hl0 := (K.out.at 0 rfl).lt; have hl1 := (K.out.at 1 rfl).lt; obtain ⟨e0, e1, e2, e3, e4, e5, e6, e7, e8, e9, e10⟩ := (K.out.at 0 rfl).cpu; have r1 := (K.out.at 1 rfl).one; have HB3 := hR w3
  obtain ⟨j, hj⟩ : ∃ j, jams L x.PC = j := ⟨_, rfl⟩
  have hjm := fun W hw => spec_Jams A1 c1 L x.PC W hw p0 p1
  rw [hj] at hjm
  cases j
  rotate_left
  · go_wp2_with fail; refine Calls.mono (hjm _ BS.out) ?_; rintro _ w4 ⟨rfl, hb⟩; have hb := below_step (w := w3) (blw) hb; replace K := Aside0.mk (K.out.below hb); replace BS := Aside0.mk (BS.out.below hb); replace HB := Aside0.mk (below_step HB.out hb); replace EV := Aside0.mk (he.below HB.out); have hz4 := hb.size; clear hb; clear e0 e1 e2 e3 e4 e5 e6 e7 e8 e9 e10 r1 hl0 hl1; have hl0 := (K.out.at 0 rfl).lt; have hl1 := (K.out.at 1 rfl).lt; obtain ⟨e0, e1, e2, e3, e4, e5, e6, e7, e8, e9, e10⟩ := (K.out.at 0 rfl).cpu; have r1 := (K.out.at 1 rfl).one; have HB4 := hR w4
    go_wp2_with fail
    go_ret
    exact ⟨rfl, blw⟩
  go_wp2_with fail; refine Calls.mono (hjm _ BS.out) ?_; rintro _ w4 ⟨rfl, hb⟩; have hb := below_step (w := w3) (blw) hb; replace K := Aside0.mk (K.out.below hb); replace BS := Aside0.mk (BS.out.below hb); replace HB := Aside0.mk (below_step HB.out hb); replace EV := Aside0.mk (he.below HB.out); have hz4 := hb.size; clear hb; clear e0 e1 e2 e3 e4 e5 e6 e7 e8 e9 e10 r1 hl0 hl1; have hl0 := (K.out.at 0 rfl).lt; have hl1 := (K.out.at 1 rfl).lt; obtain ⟨e0, e1, e2, e3, e4, e5, e6, e7, e8, e9, e10⟩ := (K.out.at 0 rfl).cpu; have r1 := (K.out.at 1 rfl).one; have HB4 := hR w4
  have hcode := peek_bb hLb x.PC
  have ht := step_time x L hq hj hLb
  have hn : ¬ nmL (peek L x.PC) = [] := by
    intro hx
    simp [jams, hq, hx] at hj
  have hye := of_byte (p := fun c => ¬ nmL c = [] → ∀ x t : Bool, timeI c false false ≤ timeI c x t ∧ timeI c x t ≤ timeI c true true) time_yes (peek L x.PC) hcode.1 hcode.2 hn
  have hle := hye (crossed x L) (kindI (peek L x.PC) == 5 && decide (2 < (step x L).t.length))
  rw [← ht] at hle
  clear hye hn
  go_wp2_with fail; refine Calls.mono (spec_Peek _ _ _ _ _ BS.out p0 p1) ?_; rintro _ w5 ⟨rfl, hb⟩; have hb := below_step (w := w4) (blw) hb; replace K := Aside0.mk (K.out.below hb); replace BS := Aside0.mk (BS.out.below hb); replace HB := Aside0.mk (below_step HB.out hb); replace EV := Aside0.mk (he.below HB.out); have hz5 := hb.size; clear hb; clear e0 e1 e2 e3 e4 e5 e6 e7 e8 e9 e10 r1 hl0 hl1; have hl0 := (K.out.at 0 rfl).lt; have hl1 := (K.out.at 1 rfl).lt; obtain ⟨e0, e1, e2, e3, e4, e5, e6, e7, e8, e9, e10⟩ := (K.out.at 0 rfl).cpu; have r1 := (K.out.at 1 rfl).one; have HB5 := hR w5
  go_wp2_with fail; refine Calls.mono (impl_Crossed _ _ _ _ _ hx BS.out EV.out) ?_; rintro _ w6 ⟨rfl, hb⟩; have hb := below_step (w := w5) (blw) hb; replace K := Aside0.mk (K.out.below hb); replace BS := Aside0.mk (BS.out.below hb); replace HB := Aside0.mk (below_step HB.out hb); replace EV := Aside0.mk (he.below HB.out); have hz6 := hb.size; clear hb; clear e0 e1 e2 e3 e4 e5 e6 e7 e8 e9 e10 r1 hl0 hl1; have hl0 := (K.out.at 0 rfl).lt; have hl1 := (K.out.at 1 rfl).lt; obtain ⟨e0, e1, e2, e3, e4, e5, e6, e7, e8, e9, e10⟩ := (K.out.at 0 rfl).cpu; have r1 := (K.out.at 1 rfl).one; have HB6 := hR w6
  have hki := fun W => spec_KindOf (peek L x.PC) W hcode.1 hcode.2
  rw [of_byte (p := fun c => kindS c = kindI c) kindSI (peek L x.PC) hcode.1 hcode.2] at hki
  have hti := fun b W e => impl_TimeOf (peek L x.PC) (crossed x L) b W hcode.1 hcode.2 e
  have hle0 := fun W e => impl_Least (peek L x.PC) W hcode.1 hcode.2 e
  have hmo0 := fun W e => impl_Most (peek L x.PC) W hcode.1 hcode.2 e
  have hst := fun W hw e => impl_Step x A1 c1 L W hx hw e
  have hss := fun W hw => spec_Step x A1 c1 L W hx hw
  have hcr := fun W hw => spec_Crossed x A1 c1 L W hx hw
  generalize crossed x L = cr at *
  generalize step x L = S at *
  generalize S.t.length = n at *
  generalize kindI (peek L x.PC) = k at *
  have HT := Aside0.mk ht
  clear ht
  go_wp2_with fail
  refine Calls.mono (hst _ BS.out EV.out) ?_
  rintro _ w7 ⟨A7, c7, B7, d7, rfl, _, _, hb⟩
  have hb := below_step (w := w6) (blw) hb; replace K := Aside0.mk (K.out.below hb); replace BS := Aside0.mk (BS.out.below hb); replace HB := Aside0.mk (below_step HB.out hb); replace EV := Aside0.mk (he.below HB.out); have hz7 := hb.size; clear hb; clear e0 e1 e2 e3 e4 e5 e6 e7 e8 e9 e10 r1 hl0 hl1; have hl0 := (K.out.at 0 rfl).lt; have hl1 := (K.out.at 1 rfl).lt; obtain ⟨e0, e1, e2, e3, e4, e5, e6, e7, e8, e9, e10⟩ := (K.out.at 0 rfl).cpu; have r1 := (K.out.at 1 rfl).one; have HB7 := hR w7
  go_wp2_with fail
  refine Calls.mono (hss _ ?_) ?_
  exact BS.out.below (blw)
  rintro _ w8 ⟨A8, c8, B8, d8, rfl, _, _, hb⟩
  have hb := below_step (w := w7) (blw) hb; replace K := Aside0.mk (K.out.below hb); replace BS := Aside0.mk (BS.out.below hb); replace HB := Aside0.mk (below_step HB.out hb); replace EV := Aside0.mk (he.below HB.out); have hz8 := hb.size; clear hb; clear e0 e1 e2 e3 e4 e5 e6 e7 e8 e9 e10 r1 hl0 hl1; have hl0 := (K.out.at 0 rfl).lt; have hl1 := (K.out.at 1 rfl).lt; obtain ⟨e0, e1, e2, e3, e4, e5, e6, e7, e8, e9, e10⟩ := (K.out.at 0 rfl).cpu; have r1 := (K.out.at 1 rfl).one; have HB8 := hR w8
  go_wp2_with fail; refine Calls.mono (hcr _ ?_) ?_; exact BS.out.below (blw); rintro _ w9 ⟨rfl, hb⟩; have hb := below_step (w := w8) (blw) hb; replace K := Aside0.mk (K.out.below hb); replace BS := Aside0.mk (BS.out.below hb); replace HB := Aside0.mk (below_step HB.out hb); replace EV := Aside0.mk (he.below HB.out); have hz9 := hb.size; clear hb; clear e0 e1 e2 e3 e4 e5 e6 e7 e8 e9 e10 r1 hl0 hl1; have hl0 := (K.out.at 0 rfl).lt; have hl1 := (K.out.at 1 rfl).lt; obtain ⟨e0, e1, e2, e3, e4, e5, e6, e7, e8, e9, e10⟩ := (K.out.at 0 rfl).cpu; have r1 := (K.out.at 1 rfl).one; have HB9 := hR w9
  go_wp2_with fail; refine Calls.mono (hle0 _ EV.out) ?_; rintro _ w10 ⟨rfl, hb⟩; have hb := below_step (w := w9) (blw) hb; replace K := Aside0.mk (K.out.below hb); replace BS := Aside0.mk (BS.out.below hb); replace HB := Aside0.mk (below_step HB.out hb); replace EV := Aside0.mk (he.below HB.out); have hz10 := hb.size; clear hb; clear e0 e1 e2 e3 e4 e5 e6 e7 e8 e9 e10 r1 hl0 hl1; have hl0 := (K.out.at 0 rfl).lt; have hl1 := (K.out.at 1 rfl).lt; obtain ⟨e0, e1, e2, e3, e4, e5, e6, e7, e8, e9, e10⟩ := (K.out.at 0 rfl).cpu; have r1 := (K.out.at 1 rfl).one; have HB10 := hR w10
  go_wp2_with fail; refine Calls.mono (hmo0 _ EV.out) ?_; rintro _ w11 ⟨rfl, hb⟩; have hb := below_step (w := w10) (blw) hb; replace K := Aside0.mk (K.out.below hb); replace BS := Aside0.mk (BS.out.below hb); replace HB := Aside0.mk (below_step HB.out hb); replace EV := Aside0.mk (he.below HB.out); have hz11 := hb.size; clear hb; clear e0 e1 e2 e3 e4 e5 e6 e7 e8 e9 e10 r1 hl0 hl1; have hl0 := (K.out.at 0 rfl).lt; have hl1 := (K.out.at 1 rfl).lt; obtain ⟨e0, e1, e2, e3, e4, e5, e6, e7, e8, e9, e10⟩ := (K.out.at 0 rfl).cpu; have r1 := (K.out.at 1 rfl).one; have HB11 := hR w11
  go_wp2_with fail; refine Calls.mono (hki _) ?_; rintro _ w12 ⟨rfl, hb⟩; have hb := below_step (w := w11) (blw) hb; replace K := Aside0.mk (K.out.below hb); replace BS := Aside0.mk (BS.out.below hb); replace HB := Aside0.mk (below_step HB.out hb); replace EV := Aside0.mk (he.below HB.out); have hz12 := hb.size; clear hb; clear e0 e1 e2 e3 e4 e5 e6 e7 e8 e9 e10 r1 hl0 hl1; have hl0 := (K.out.at 0 rfl).lt; have hl1 := (K.out.at 1 rfl).lt; obtain ⟨e0, e1, e2, e3, e4, e5, e6, e7, e8, e9, e10⟩ := (K.out.at 0 rfl).cpu; have r1 := (K.out.at 1 rfl).one; have HB12 := hR w12
  by_cases hk5 : k = 5
  · subst hk5
    go_wp2_with fail; refine Calls.mono (hti _ _ EV.out) ?_; rintro _ w13 ⟨rfl, hb⟩; have hb := below_step (w := w12) (blw) hb; replace K := Aside0.mk (K.out.below hb); replace BS := Aside0.mk (BS.out.below hb); replace HB := Aside0.mk (below_step HB.out hb); replace EV := Aside0.mk (he.below HB.out); have hz13 := hb.size; clear hb; clear e0 e1 e2 e3 e4 e5 e6 e7 e8 e9 e10 r1 hl0 hl1; have hl0 := (K.out.at 0 rfl).lt; have hl1 := (K.out.at 1 rfl).lt; obtain ⟨e0, e1, e2, e3, e4, e5, e6, e7, e8, e9, e10⟩ := (K.out.at 0 rfl).cpu; have r1 := (K.out.at 1 rfl).one; have HB13 := hR w13
    go_wp2_with fail
    go_ret
    have eb : decide ((2 : Int) < (n : Int)) = ((5 : Int) == 5 && decide (2 < n)) := by
      rw [Bool.eq_iff_iff]
      simp
      omega
    exact ⟨ret_of (congrArg Value.bool (by rw [eb]; exact beq_iff_eq.2 HT.out)), blw⟩
  · go_wp2_with fail; refine Calls.mono (hti _ _ EV.out) ?_; rintro _ w13 ⟨rfl, hb⟩; have hb := below_step (w := w12) (blw) hb; replace K := Aside0.mk (K.out.below hb); replace BS := Aside0.mk (BS.out.below hb); replace HB := Aside0.mk (below_step HB.out hb); replace EV := Aside0.mk (he.below HB.out); have hz13 := hb.size; clear hb; clear e0 e1 e2 e3 e4 e5 e6 e7 e8 e9 e10 r1 hl0 hl1; have hl0 := (K.out.at 0 rfl).lt; have hl1 := (K.out.at 1 rfl).lt; obtain ⟨e0, e1, e2, e3, e4, e5, e6, e7, e8, e9, e10⟩ := (K.out.at 0 rfl).cpu; have r1 := (K.out.at 1 rfl).one; have HB13 := hR w13
    go_wp2_with fail
    go_ret
    have eb : (k == 5 && decide (2 < n)) = false := by simp [hk5]
    have e := HT.out
    rw [eb] at e
    exact ⟨ret_of (congrArg Value.bool (beq_iff_eq.2 e)), blw⟩
end Go.Proofs.YtbffbinipipkkaaGreatDoor
