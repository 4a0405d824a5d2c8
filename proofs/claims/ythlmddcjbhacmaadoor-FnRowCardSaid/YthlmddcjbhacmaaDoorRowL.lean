/- What is known, read out of a text by the program. -/
import Derived.Test.YthlmddcjbhacmaaDoorRowK
import Derived.Test.YthlmddcjbhacmaaDoorRegO
import Derived.Test.YthlmddcjbhacmaaDoorWLast
import Derived.BigQuiet
set_option linter.unusedVariables false
set_option linter.unusedSimpArgs false
namespace Go.Proofs.YthlmddcjbhacmaaDoor
open Go.RowKit Go.Proofs.YthlmddcjbhacmaaDoorW.PrintWords Go.Proofs.YthlmddcjbhacmaaDoorW.PrintLast
def kn0 : Kn := ⟨0, 0, 0, 0, 0, 0, 0, 0, 0, 0, 0⟩
def knN : Kn := ⟨-1, -1, -1, -1, -1, -1, -1, -1, -1, -1, -1⟩
/-- What ReadKnow gives: what is read, or noughts and no. -/
def knV (o : Option Kn) : Kn := o.getD kn0
theorem impl_nothing (w : World) : Calls Tryd.prog 45 #[] w fun e w' => e = .returned (.agg #[.int .i64 knN.A, .int .i64 knN.X, .int .i64 knN.Y, .int .i64 knN.S, .int .i64 knN.PC, .int .i64 knN.N, .int .i64 knN.V, .int .i64 knN.D, .int .i64 knN.I, .int .i64 knN.Z, .int .i64 knN.C]) ∧ Below w.heap.size w w' := by
  have HB := hR w; go_enter Tryd.func45, Tryd.ntmps45
  go_wp2_with fail
  (refine bodyPost_ret (v := .agg #[.int .i64 knN.A, .int .i64 knN.X, .int .i64 knN.Y, .int .i64 knN.S, .int .i64 knN.PC, .int .i64 knN.N, .int .i64 knN.V, .int .i64 knN.D, .int .i64 knN.I, .int .i64 knN.Z, .int .i64 knN.C]) (by (simp only [results, Tryd.results45]; go_simp <;> ((repeat' apply And.intro) <;> rfl))) rfl ?_)
  exact ⟨rfl, blw⟩
theorem ba_cut (l : List UInt8) (i j : Nat) : (⟨l.toArray⟩ : ByteArray).extract i j = ⟨(cutB l i j).toArray⟩ := by
  apply ByteArray.ext
  rw [ByteArray.data_extract]
  unfold cutB
  simp [List.drop_take]
theorem cutB_len {l : List UInt8} {i j : Nat} (h : j ≤ l.length) : (cutB l i j).length = j - i := by
  unfold cutB
  simp
  omega
theorem getD_at {l : List UInt8} {j : Nat} (h : j < l.length) : l[j]? = some (l.getD j 0) := by
  rw [List.getD_eq_getElem?_getD, List.getElem?_eq_getElem h]
  rfl
/-- The flags that have been read, noughts behind them. -/
def flU (l : List UInt8) (j : Nat) : List Int := (List.range 6).map fun i => if i < j then flI i (l.getD (28 + i) 0) else 0
def kcs (a x y s p : Int) (fl : List Int) : Array Value := (([a, x, y, s, p] ++ fl).map (Value.int .i64)).toArray
theorem flU_step (l : List UInt8) (j : Nat) (hj : j < 6) : (flU l j).set j (flI j (l.getD (28 + j) 0)) = flU l (j + 1) := by
  have : j = 0 ∨ j = 1 ∨ j = 2 ∨ j = 3 ∨ j = 4 ∨ j = 5 := by omega
  rcases this with rfl | rfl | rfl | rfl | rfl | rfl <;> rfl
theorem flU_same (l : List UInt8) (j : Nat) (hj : j < 6) (h : flI j (l.getD (28 + j) 0) = 0) : flU l (j + 1) = flU l j := by
  have : j = 0 ∨ j = 1 ∨ j = 2 ∨ j = 3 ∨ j = 4 ∨ j = 5 := by omega
  rcases this with rfl | rfl | rfl | rfl | rfl | rfl <;> (rw [← flU_step _ _ hj, h]; rfl)
theorem kcs_set (a x y s p : Int) (fl : List Int) (j : Nat) (v : Int) : (kcs a x y s p fl).setIfInBounds (5 + j) (.int .i64 v) = kcs a x y s p (fl.set j v) := by
  unfold kcs
  simp [Nat.add_comm 5 j]
theorem kcs_put {w : World} {g : Nat} {a x y s p : Int} {fl : List Int} {t : TypeId} (h : Blk w g (kcs a x y s p fl) t) (j : Nat) (v : Int) : Blk (w.setCell ⟨g, 5 + j, none⟩ (.int .i64 v)) g (kcs a x y s p (fl.set j v)) t := by
  have e := blk_set h (5 + j) (.int .i64 v)
  rw [kcs_set] at e
  exact e
theorem kcs_has {w : World} {g : Nat} {a x y s p : Int} {fl : List Int} {t : TypeId} (h : Blk w g (kcs a x y s p fl) t) (hf : fl.length = 6) (j : Nat) (hj : j < 6) : ∃ v, w.cell? ⟨g, 5 + j, none⟩ = some v := by
  rw [h.cell]
  have hl : 5 + j < (kcs a x y s p fl).size := by unfold kcs; simp; omega
  exact ⟨_, Array.getElem?_eq_getElem hl⟩
theorem fl_at (k : Nat) (h : k < 6) : ∀ h : k < (⟨#[78, 86, 68, 73, 90, 67]⟩ : ByteArray).size, (⟨#[78, 86, 68, 73, 90, 67]⟩ : ByteArray)[k]'h = fltr.getD k 0 := by
  intro h1
  have : ∀ k : Fin 6, (⟨#[78, 86, 68, 73, 90, 67]⟩ : ByteArray)[k.val]'k.isLt = fltr.getD k.val 0 := by decide +kernel
  exact this ⟨k, h⟩
/-- Eleven numbers put into a block. -/
abbrev putI (w : World) (g : Nat) (a0 a1 a2 a3 a4 a5 a6 a7 a8 a9 a10 : Int) : World := (((((((((((w.setCell ⟨g, 0, none⟩ (.int .i64 a0)).setCell ⟨g, 1, none⟩ (.int .i64 a1)).setCell ⟨g, 2, none⟩ (.int .i64 a2)).setCell ⟨g, 3, none⟩ (.int .i64 a3)).setCell ⟨g, 4, none⟩ (.int .i64 a4)).setCell ⟨g, 5, none⟩ (.int .i64 a5)).setCell ⟨g, 6, none⟩ (.int .i64 a6)).setCell ⟨g, 7, none⟩ (.int .i64 a7)).setCell ⟨g, 8, none⟩ (.int .i64 a8)).setCell ⟨g, 9, none⟩ (.int .i64 a9)).setCell ⟨g, 10, none⟩ (.int .i64 a10))
theorem putI_blk {w : World} {g : Nat} {b0 b1 b2 b3 b4 b5 b6 b7 b8 b9 b10 : Value} {t : TypeId} (h : Blk w g #[b0, b1, b2, b3, b4, b5, b6, b7, b8, b9, b10] t) (a0 a1 a2 a3 a4 a5 a6 a7 a8 a9 a10 : Int) : Blk (putI w g a0 a1 a2 a3 a4 a5 a6 a7 a8 a9 a10) g #[.int .i64 a0, .int .i64 a1, .int .i64 a2, .int .i64 a3, .int .i64 a4, .int .i64 a5, .int .i64 a6, .int .i64 a7, .int .i64 a8, .int .i64 a9, .int .i64 a10] t := by
  unfold putI
  have h : Blk (w.setCell ⟨g, 0, none⟩ (.int .i64 a0)) g #[.int .i64 a0, b1, b2, b3, b4, b5, b6, b7, b8, b9, b10] t := blk_set h 0 _
  generalize w.setCell ⟨g, 0, none⟩ (.int .i64 a0) = w0 at h ⊢
  have h : Blk (w0.setCell ⟨g, 1, none⟩ (.int .i64 a1)) g #[.int .i64 a0, .int .i64 a1, b2, b3, b4, b5, b6, b7, b8, b9, b10] t := blk_set h 1 _
  generalize w0.setCell ⟨g, 1, none⟩ (.int .i64 a1) = w1 at h ⊢
  have h : Blk (w1.setCell ⟨g, 2, none⟩ (.int .i64 a2)) g #[.int .i64 a0, .int .i64 a1, .int .i64 a2, b3, b4, b5, b6, b7, b8, b9, b10] t := blk_set h 2 _
  generalize w1.setCell ⟨g, 2, none⟩ (.int .i64 a2) = w2 at h ⊢
  have h : Blk (w2.setCell ⟨g, 3, none⟩ (.int .i64 a3)) g #[.int .i64 a0, .int .i64 a1, .int .i64 a2, .int .i64 a3, b4, b5, b6, b7, b8, b9, b10] t := blk_set h 3 _
  generalize w2.setCell ⟨g, 3, none⟩ (.int .i64 a3) = w3 at h ⊢
  have h : Blk (w3.setCell ⟨g, 4, none⟩ (.int .i64 a4)) g #[.int .i64 a0, .int .i64 a1, .int .i64 a2, .int .i64 a3, .int .i64 a4, b5, b6, b7, b8, b9, b10] t := blk_set h 4 _
  generalize w3.setCell ⟨g, 4, none⟩ (.int .i64 a4) = w4 at h ⊢
  have h : Blk (w4.setCell ⟨g, 5, none⟩ (.int .i64 a5)) g #[.int .i64 a0, .int .i64 a1, .int .i64 a2, .int .i64 a3, .int .i64 a4, .int .i64 a5, b6, b7, b8, b9, b10] t := blk_set h 5 _
  generalize w4.setCell ⟨g, 5, none⟩ (.int .i64 a5) = w5 at h ⊢
  have h : Blk (w5.setCell ⟨g, 6, none⟩ (.int .i64 a6)) g #[.int .i64 a0, .int .i64 a1, .int .i64 a2, .int .i64 a3, .int .i64 a4, .int .i64 a5, .int .i64 a6, b7, b8, b9, b10] t := blk_set h 6 _
  generalize w5.setCell ⟨g, 6, none⟩ (.int .i64 a6) = w6 at h ⊢
  have h : Blk (w6.setCell ⟨g, 7, none⟩ (.int .i64 a7)) g #[.int .i64 a0, .int .i64 a1, .int .i64 a2, .int .i64 a3, .int .i64 a4, .int .i64 a5, .int .i64 a6, .int .i64 a7, b8, b9, b10] t := blk_set h 7 _
  generalize w6.setCell ⟨g, 7, none⟩ (.int .i64 a7) = w7 at h ⊢
  have h : Blk (w7.setCell ⟨g, 8, none⟩ (.int .i64 a8)) g #[.int .i64 a0, .int .i64 a1, .int .i64 a2, .int .i64 a3, .int .i64 a4, .int .i64 a5, .int .i64 a6, .int .i64 a7, .int .i64 a8, b9, b10] t := blk_set h 8 _
  generalize w7.setCell ⟨g, 8, none⟩ (.int .i64 a8) = w8 at h ⊢
  have h : Blk (w8.setCell ⟨g, 9, none⟩ (.int .i64 a9)) g #[.int .i64 a0, .int .i64 a1, .int .i64 a2, .int .i64 a3, .int .i64 a4, .int .i64 a5, .int .i64 a6, .int .i64 a7, .int .i64 a8, .int .i64 a9, b10] t := blk_set h 9 _
  generalize w8.setCell ⟨g, 9, none⟩ (.int .i64 a9) = w9 at h ⊢
  have h : Blk (w9.setCell ⟨g, 10, none⟩ (.int .i64 a10)) g #[.int .i64 a0, .int .i64 a1, .int .i64 a2, .int .i64 a3, .int .i64 a4, .int .i64 a5, .int .i64 a6, .int .i64 a7, .int .i64 a8, .int .i64 a9, .int .i64 a10] t := blk_set h 10 _
  generalize w9.setCell ⟨g, 10, none⟩ (.int .i64 a10) = w10 at h ⊢
  exact h
theorem putI_below {B : Nat} {a w : World} (h : Below B a w) {g : Nat} (hg : B ≤ g) (a0 a1 a2 a3 a4 a5 a6 a7 a8 a9 a10 : Int) : Below B a (putI w g a0 a1 a2 a3 a4 a5 a6 a7 a8 a9 a10) :=
  (((((((((((h.setCell (p := ⟨g, 0, none⟩) hg _).setCell (p := ⟨g, 1, none⟩) hg _).setCell (p := ⟨g, 2, none⟩) hg _).setCell (p := ⟨g, 3, none⟩) hg _).setCell (p := ⟨g, 4, none⟩) hg _).setCell (p := ⟨g, 5, none⟩) hg _).setCell (p := ⟨g, 6, none⟩) hg _).setCell (p := ⟨g, 7, none⟩) hg _).setCell (p := ⟨g, 8, none⟩) hg _).setCell (p := ⟨g, 9, none⟩) hg _).setCell (p := ⟨g, 10, none⟩) hg _)
-- REG4
set_option maxRecDepth 100000 in
set_option maxHeartbeats 2000000 in
theorem rkReg4 (l : List UInt8) (vA vX vY vS vP : Int) (w0 : World) (hsz : (⟨l.toArray⟩ : ByteArray).size = 34)
    (rA : ∀ W, Calls Tryd.prog 74 #[.string ⟨(cutB l 2 4).toArray⟩, .int .i64 2] W fun e w' => e = .returned (.int .i64 vA) ∧ Below W.heap.size W w')
    (rX : ∀ W, Calls Tryd.prog 74 #[.string ⟨(cutB l 7 9).toArray⟩, .int .i64 2] W fun e w' => e = .returned (.int .i64 vX) ∧ Below W.heap.size W w')
    (rY : ∀ W, Calls Tryd.prog 74 #[.string ⟨(cutB l 12 14).toArray⟩, .int .i64 2] W fun e w' => e = .returned (.int .i64 vY) ∧ Below W.heap.size W w')
    (rS : ∀ W, Calls Tryd.prog 74 #[.string ⟨(cutB l 17 19).toArray⟩, .int .i64 2] W fun e w' => e = .returned (.int .i64 vS) ∧ Below W.heap.size W w')
    (rP : ∀ W, Calls Tryd.prog 74 #[.string ⟨(cutB l 23 27).toArray⟩, .int .i64 4] W fun e w' => e = .returned (.int .i64 vP) ∧ Below W.heap.size W w')
    (s1 s2 s3 s4 s5 s6 s7 s8 s9 s10 s11 s12 s13 s14 s15 s16 s17 s18 s19 s20 s21 s22 s23 s24 s25 s26 s27 s28 s29 s30 s31 s32 s33 s34 s35 s36 s37 s38 s39 s40 s41 s42 s43 s44 s45 s46 s47 s48 s49 s50 s51 s52 s53 s54 s55 s56 s57 s58 s59 s60 s61 s62 s63 : Value) :
    Code.wp Tryd.prog ((Tryd.f47.body.bind (regOf 4)).getD .skip) (OnNormal fun a' w' => ∃ g, w0.heap.size ≤ g ∧ Blk w' g (kcs vA vX vY vS vP [0, 0, 0, 0, 0, 0]) 32 ∧ Below w0.heap.size w0 w' ∧ ∃ u18 u19 u20 u21 u22 u23 u24 u25 u26 u27 u28 u29 u30 u31 u32 u33, a' = ⟨List.toArray (.string ⟨l.toArray⟩ :: s1 :: s2 :: s3 :: s4 :: .pointer (some ⟨g, 0, none⟩) :: s6 :: s7 :: s8 :: s9 :: s10 :: s11 :: s12 :: s13 :: s14 :: s15 :: s16 :: s17 :: u18 :: u19 :: u20 :: u21 :: u22 :: u23 :: u24 :: u25 :: u26 :: u27 :: u28 :: u29 :: u30 :: u31 :: u32 :: u33 :: s34 :: s35 :: s36 :: s37 :: s38 :: s39 :: s40 :: s41 :: s42 :: s43 :: s44 :: s45 :: s46 :: s47 :: s48 :: s49 :: s50 :: s51 :: s52 :: s53 :: s54 :: s55 :: s56 :: s57 :: s58 :: s59 :: s60 :: s61 :: s62 :: s63 :: []), []⟩) ⟨List.toArray (.string ⟨l.toArray⟩ :: s1 :: s2 :: s3 :: s4 :: s5 :: s6 :: s7 :: s8 :: s9 :: s10 :: s11 :: s12 :: s13 :: s14 :: s15 :: s16 :: s17 :: s18 :: s19 :: s20 :: s21 :: s22 :: s23 :: s24 :: s25 :: s26 :: s27 :: s28 :: s29 :: s30 :: s31 :: s32 :: s33 :: s34 :: s35 :: s36 :: s37 :: s38 :: s39 :: s40 :: s41 :: s42 :: s43 :: s44 :: s45 :: s46 :: s47 :: s48 :: s49 :: s50 :: s51 :: s52 :: s53 :: s54 :: s55 :: s56 :: s57 :: s58 :: s59 :: s60 :: s61 :: s62 :: s63 :: []), []⟩ w0 := by
  have x2 := ba_cut l 2 4
  have x7 := ba_cut l 7 9
  have x12 := ba_cut l 12 14
  have x17 := ba_cut l 17 19
  have x23 := ba_cut l 23 27
  conv => arg 2; whnf
  have HB : Aside0 (Below w0.heap.size w0 w0.drew) := ⟨blw⟩
  refine start_ (n := 18) (S := fun _ => True) (ds := []) #[false, false, false, false, false, false, false, false, false, false, false, false, false, false, false, false, false, false] (by kernel_rfl) rfl rfl trivial (fun _ => ?_)
  generalize w0.drew = W at HB ⊢
  refine pure_ (i := 0) (N := some 18) (v := ?_) (a' := ?_) #[true, false, false, false, false, false, false, false, false, false, false, false, false, false, false, false, false, false] rfl rfl (by kernel_rfl) (fun _ _ _ h => h) (Or.inl ⟨by rfl, ?_⟩) ?_ ?_
  rotate_left
  · intro w'
    go_simp
    first | with_reducible rfl | rfl
  rotate_left
  · simp only [Act.put, List.setIfInBounds_toArray, List.set_cons_zero, List.set_cons_succ, i64_w, i32_w]
    rfl
  refine pure_ (i := 1) (N := some 19) (v := ?_) (a' := ?_) #[true, true, false, false, false, false, false, false, false, false, false, false, false, false, false, false, false, false] rfl rfl (by kernel_rfl) (fun _ _ _ h => h) (Or.inl ⟨by rfl, ?_⟩) ?_ ?_
  rotate_left
  · intro w'
    go_simp
    first | with_reducible rfl | rfl
  rotate_left
  · simp only [Act.put, List.setIfInBounds_toArray, List.set_cons_zero, List.set_cons_succ, i64_w, i32_w]
    rfl
  refine pure_ (i := 3) (N := some 21) (v := ?_) (a' := ?_) #[true, true, false, true, false, false, false, false, false, false, false, false, false, false, false, false, false, false] rfl rfl (by kernel_rfl) (fun _ _ _ h => h) (Or.inl ⟨by rfl, ?_⟩) ?_ ?_
  rotate_left
  · intro w'
    go_simp
    first | with_reducible rfl | rfl
  rotate_left
  · simp only [Act.put, List.setIfInBounds_toArray, List.set_cons_zero, List.set_cons_succ, i64_w, i32_w]
    rfl
  refine pure_ (i := 4) (N := some 22) (v := ?_) (a' := ?_) #[true, true, false, true, true, false, false, false, false, false, false, false, false, false, false, false, false, false] rfl rfl (by kernel_rfl) (fun _ _ _ h => h) (Or.inl ⟨by rfl, ?_⟩) ?_ ?_
  rotate_left
  · intro w'
    go_simp
    first | with_reducible rfl | rfl
  rotate_left
  · simp only [Act.put, List.setIfInBounds_toArray, List.set_cons_zero, List.set_cons_succ, i64_w, i32_w]
    rfl
  refine pure_ (i := 6) (N := some 24) (v := ?_) (a' := ?_) #[true, true, false, true, true, false, true, false, false, false, false, false, false, false, false, false, false, false] rfl rfl (by kernel_rfl) (fun _ _ _ h => h) (Or.inl ⟨by rfl, ?_⟩) ?_ ?_
  rotate_left
  · intro w'
    go_simp
    first | with_reducible rfl | rfl
  rotate_left
  · simp only [Act.put, List.setIfInBounds_toArray, List.set_cons_zero, List.set_cons_succ, i64_w, i32_w]
    rfl
  refine pure_ (i := 7) (N := some 25) (v := ?_) (a' := ?_) #[true, true, false, true, true, false, true, true, false, false, false, false, false, false, false, false, false, false] rfl rfl (by kernel_rfl) (fun _ _ _ h => h) (Or.inl ⟨by rfl, ?_⟩) ?_ ?_
  rotate_left
  · intro w'
    go_simp
    first | with_reducible rfl | rfl
  rotate_left
  · simp only [Act.put, List.setIfInBounds_toArray, List.set_cons_zero, List.set_cons_succ, i64_w, i32_w]
    rfl
  refine pure_ (i := 9) (N := some 27) (v := ?_) (a' := ?_) #[true, true, false, true, true, false, true, true, false, true, false, false, false, false, false, false, false, false] rfl rfl (by kernel_rfl) (fun _ _ _ h => h) (Or.inl ⟨by rfl, ?_⟩) ?_ ?_
  rotate_left
  · intro w'
    go_simp
    first | with_reducible rfl | rfl
  rotate_left
  · simp only [Act.put, List.setIfInBounds_toArray, List.set_cons_zero, List.set_cons_succ, i64_w, i32_w]
    rfl
  refine pure_ (i := 10) (N := some 28) (v := ?_) (a' := ?_) #[true, true, false, true, true, false, true, true, false, true, true, false, false, false, false, false, false, false] rfl rfl (by kernel_rfl) (fun _ _ _ h => h) (Or.inl ⟨by rfl, ?_⟩) ?_ ?_
  rotate_left
  · intro w'
    go_simp
    first | with_reducible rfl | rfl
  rotate_left
  · simp only [Act.put, List.setIfInBounds_toArray, List.set_cons_zero, List.set_cons_succ, i64_w, i32_w]
    rfl
  refine pure_ (i := 12) (N := some 30) (v := ?_) (a' := ?_) #[true, true, false, true, true, false, true, true, false, true, true, false, true, false, false, false, false, false] rfl rfl (by kernel_rfl) (fun _ _ _ h => h) (Or.inl ⟨by rfl, ?_⟩) ?_ ?_
  rotate_left
  · intro w'
    go_simp
    first | with_reducible rfl | rfl
  rotate_left
  · simp only [Act.put, List.setIfInBounds_toArray, List.set_cons_zero, List.set_cons_succ, i64_w, i32_w]
    rfl
  refine pure_ (i := 13) (N := some 31) (v := ?_) (a' := ?_) #[true, true, false, true, true, false, true, true, false, true, true, false, true, true, false, false, false, false] rfl rfl (by kernel_rfl) (fun _ _ _ h => h) (Or.inl ⟨by rfl, ?_⟩) ?_ ?_
  rotate_left
  · intro w'
    go_simp
    first | with_reducible rfl | rfl
  rotate_left
  · simp only [Act.put, List.setIfInBounds_toArray, List.set_cons_zero, List.set_cons_succ, i64_w, i32_w]
    rfl
  iterate 6
   (all_goals first
    | (have h0 := CAF; have h1 := CXF; have h2 := CYF; have h3 := CSF; have h4 := AB; clear h0 h1 h2 h3 h4; refine one_ (i := 14) (N := some 32) #[true, true, true, true, true, true, true, true, true, true, true, true, true, true, true, false, true, false] rfl rfl (by kernel_rfl) (by decide) (fun K hK => ?_))
    | (have h0 := CAF; have h1 := CXF; have h2 := CYF; have h3 := CSF; have h4 := CPF; clear h0 h1 h2 h3 h4; refine one_ (i := 16) (N := some 5) #[true, true, true, true, true, true, true, true, true, true, true, true, true, true, true, true, true, false] rfl rfl (by kernel_rfl) (by decide) (fun K hK => ?_))
    | (have h0 := CAF; have h1 := CXF; have h2 := CYF; have h3 := AB; clear h0 h1 h2 h3; refine one_ (i := 11) (N := some 29) #[true, true, true, true, true, true, true, true, true, true, true, true, true, true, false, false, true, false] rfl rfl (by kernel_rfl) (by decide) (fun K hK => ?_))
    | (have h0 := CAF; have h1 := CXF; have h2 := CYF; have h3 := CSF; clear h0 h1 h2 h3; refine two_ (i := 14) (j := 16) (Ni := some 32) (Nj := some 5) #[true, true, true, true, true, true, true, true, true, true, true, true, true, true, true, false, false, false] #[true, true, true, true, true, true, true, true, true, true, true, true, true, true, false, false, true, false] rfl rfl rfl rfl (by kernel_rfl) (by decide) (by decide) (fun K hK => ?_) (fun K hK => ?_))
    | (have h0 := CAF; have h1 := CXF; have h2 := AB; clear h0 h1 h2; refine one_ (i := 8) (N := some 26) #[true, true, true, true, true, true, true, true, true, true, true, false, true, true, false, false, true, false] rfl rfl (by kernel_rfl) (by decide) (fun K hK => ?_))
    | (have h0 := CAF; have h1 := CXF; have h2 := CYF; clear h0 h1 h2; refine two_ (i := 11) (j := 16) (Ni := some 29) (Nj := some 5) #[true, true, true, true, true, true, true, true, true, true, true, true, true, true, false, false, false, false] #[true, true, true, true, true, true, true, true, true, true, true, false, true, true, false, false, true, false] rfl rfl rfl rfl (by kernel_rfl) (by decide) (by decide) (fun K hK => ?_) (fun K hK => ?_))
    | (have h0 := CAF; have h1 := AB; clear h0 h1; refine one_ (i := 5) (N := some 23) #[true, true, true, true, true, true, true, true, false, true, true, false, true, true, false, false, true, false] rfl rfl (by kernel_rfl) (by decide) (fun K hK => ?_))
    | (have h0 := CAF; have h1 := CXF; clear h0 h1; refine two_ (i := 8) (j := 16) (Ni := some 26) (Nj := some 5) #[true, true, true, true, true, true, true, true, true, true, true, false, true, true, false, false, false, false] #[true, true, true, true, true, true, true, true, false, true, true, false, true, true, false, false, true, false] rfl rfl rfl rfl (by kernel_rfl) (by decide) (by decide) (fun K hK => ?_) (fun K hK => ?_))
    | (have h0 := AB; clear h0; refine one_ (i := 2) (N := some 20) #[true, true, true, true, true, false, true, true, false, true, true, false, true, true, false, false, true, false] rfl rfl (by kernel_rfl) (by decide) (fun K hK => ?_))
    | (have h0 := CAF; clear h0; refine two_ (i := 5) (j := 16) (Ni := some 23) (Nj := some 5) #[true, true, true, true, true, true, true, true, false, true, true, false, true, true, false, false, false, false] #[true, true, true, true, true, false, true, true, false, true, true, false, true, true, false, false, true, false] rfl rfl rfl rfl (by kernel_rfl) (by decide) (by decide) (fun K hK => ?_) (fun K hK => ?_))
    | (refine two_ (i := 2) (j := 16) (Ni := some 20) (Nj := some 5) #[true, true, true, true, true, false, true, true, false, true, true, false, true, true, false, false, false, false] #[true, true, false, true, true, false, true, true, false, true, true, false, true, true, false, false, true, false] rfl rfl rfl rfl (by kernel_rfl) (by decide) (by decide) (fun K hK => ?_) (fun K hK => ?_))
    all_goals first
    | (refine goes_ Tryd.func74 (by kernel_rfl) rfl #[.string ⟨(cutB l 2 4).toArray⟩, .int .i64 2] (by rfl) rfl rfl (by simp only [List.map_toArray, List.map_cons, List.map_nil]; rfl) ?_; refine Calls.mono (rA W) ?_; rintro _ W ⟨rfl, hb⟩; refine ⟨_, rfl, ?_⟩; (try replace AB := Aside0.mk (AB.out.below hb)); replace HB := Aside0.mk (below_step HB.out hb); have CAF : Aside0 (vA = vA) := ⟨rfl⟩; clear hb; refine hK.out _ _ trivial (fun _ => ?_); clear hK K; refine norm_ (a' := ?_) ?_ ?_; rotate_left; (show Act.put _ (some 20) _ = _; simp only [Act.put, List.setIfInBounds_toArray, List.set_cons_zero, List.set_cons_succ, i64_w, i32_w]; rfl))
    | (refine goes_ Tryd.func74 (by kernel_rfl) rfl #[.string ⟨(cutB l 7 9).toArray⟩, .int .i64 2] (by rfl) rfl rfl (by simp only [List.map_toArray, List.map_cons, List.map_nil]; rfl) ?_; refine Calls.mono (rX W) ?_; rintro _ W ⟨rfl, hb⟩; refine ⟨_, rfl, ?_⟩; (try replace AB := Aside0.mk (AB.out.below hb)); replace HB := Aside0.mk (below_step HB.out hb); have CXF : Aside0 (vX = vX) := ⟨rfl⟩; clear hb; refine hK.out _ _ trivial (fun _ => ?_); clear hK K; refine norm_ (a' := ?_) ?_ ?_; rotate_left; (show Act.put _ (some 23) _ = _; simp only [Act.put, List.setIfInBounds_toArray, List.set_cons_zero, List.set_cons_succ, i64_w, i32_w]; rfl))
    | (refine goes_ Tryd.func74 (by kernel_rfl) rfl #[.string ⟨(cutB l 12 14).toArray⟩, .int .i64 2] (by rfl) rfl rfl (by simp only [List.map_toArray, List.map_cons, List.map_nil]; rfl) ?_; refine Calls.mono (rY W) ?_; rintro _ W ⟨rfl, hb⟩; refine ⟨_, rfl, ?_⟩; (try replace AB := Aside0.mk (AB.out.below hb)); replace HB := Aside0.mk (below_step HB.out hb); have CYF : Aside0 (vY = vY) := ⟨rfl⟩; clear hb; refine hK.out _ _ trivial (fun _ => ?_); clear hK K; refine norm_ (a' := ?_) ?_ ?_; rotate_left; (show Act.put _ (some 26) _ = _; simp only [Act.put, List.setIfInBounds_toArray, List.set_cons_zero, List.set_cons_succ, i64_w, i32_w]; rfl))
    | (refine goes_ Tryd.func74 (by kernel_rfl) rfl #[.string ⟨(cutB l 17 19).toArray⟩, .int .i64 2] (by rfl) rfl rfl (by simp only [List.map_toArray, List.map_cons, List.map_nil]; rfl) ?_; refine Calls.mono (rS W) ?_; rintro _ W ⟨rfl, hb⟩; refine ⟨_, rfl, ?_⟩; (try replace AB := Aside0.mk (AB.out.below hb)); replace HB := Aside0.mk (below_step HB.out hb); have CSF : Aside0 (vS = vS) := ⟨rfl⟩; clear hb; refine hK.out _ _ trivial (fun _ => ?_); clear hK K; refine norm_ (a' := ?_) ?_ ?_; rotate_left; (show Act.put _ (some 29) _ = _; simp only [Act.put, List.setIfInBounds_toArray, List.set_cons_zero, List.set_cons_succ, i64_w, i32_w]; rfl))
    | (refine goes_ Tryd.func74 (by kernel_rfl) rfl #[.string ⟨(cutB l 23 27).toArray⟩, .int .i64 4] (by rfl) rfl rfl (by simp only [List.map_toArray, List.map_cons, List.map_nil]; rfl) ?_; refine Calls.mono (rP W) ?_; rintro _ W ⟨rfl, hb⟩; refine ⟨_, rfl, ?_⟩; (try replace AB := Aside0.mk (AB.out.below hb)); replace HB := Aside0.mk (below_step HB.out hb); have CPF : Aside0 (vP = vP) := ⟨rfl⟩; clear hb; refine hK.out _ _ trivial (fun _ => ?_); clear hK K; refine norm_ (a' := ?_) ?_ ?_; rotate_left; (show Act.put _ (some 32) _ = _; simp only [Act.put, List.setIfInBounds_toArray, List.set_cons_zero, List.set_cons_succ, i64_w, i32_w]; rfl); (first | (have h0 := AB; clear h0; (refine pure_ (i := 15) (N := some 33) (v := ?_) (a' := ?_) #[true, true, true, true, true, true, true, true, true, true, true, true, true, true, true, true, true, false] rfl rfl (by kernel_rfl) (fun _ _ _ h => h) (Or.inl ⟨by rfl, ?_⟩) ?_ ?_; rotate_left; (intro w'; go_simp; first | with_reducible rfl | rfl); rotate_left; (simp only [Act.put, List.setIfInBounds_toArray, List.set_cons_zero, List.set_cons_succ, i64_w, i32_w]; rfl))) | (refine pure_ (i := 15) (N := some 33) (v := ?_) (a' := ?_) #[true, true, true, true, true, true, true, true, true, true, true, true, true, true, true, true, false, false] rfl rfl (by kernel_rfl) (fun _ _ _ h => h) (Or.inl ⟨by rfl, ?_⟩) ?_ ?_; rotate_left; (intro w'; go_simp; first | with_reducible rfl | rfl); rotate_left; (simp only [Act.put, List.setIfInBounds_toArray, List.set_cons_zero, List.set_cons_succ, i64_w, i32_w]; rfl))))
    | (refine value_ (w1 := ?_) (v := ?_) (by rfl) rfl ?_ ?_; rotate_left 2; (go_simp; constructor <;> rfl); have hb : Below W.heap.size W (W.alloc (.cells #[.int .i64 0, .int .i64 0, .int .i64 0, .int .i64 0, .int .i64 0, .int .i64 0, .int .i64 0, .int .i64 0, .int .i64 0, .int .i64 0, .int .i64 0] 32)) := blw; obtain ⟨b, hbo⟩ : ∃ x, W.heap.size = x := ⟨_, rfl⟩; have hob : w0.heap.size ≤ W.heap.size := HB.out.size; have AB : Aside0 (Blk (W.alloc (.cells #[.int .i64 0, .int .i64 0, .int .i64 0, .int .i64 0, .int .i64 0, .int .i64 0, .int .i64 0, .int .i64 0, .int .i64 0, .int .i64 0, .int .i64 0] 32)) W.heap.size #[.int .i64 0, .int .i64 0, .int .i64 0, .int .i64 0, .int .i64 0, .int .i64 0, .int .i64 0, .int .i64 0, .int .i64 0, .int .i64 0, .int .i64 0] 32) := ⟨Blk.at rfl⟩; rw [hbo] at AB hob ⊢; replace HB := Aside0.mk (HB.out.trans (hb.mono HB.out.size)); clear hb hbo; generalize W.alloc (.cells #[.int .i64 0, .int .i64 0, .int .i64 0, .int .i64 0, .int .i64 0, .int .i64 0, .int .i64 0, .int .i64 0, .int .i64 0, .int .i64 0, .int .i64 0] 32) = W at *; refine hK.out _ _ trivial (fun _ => ?_); clear hK K; refine norm_ (a' := ?_) ?_ ?_; rotate_left; (show Act.put _ (some 5) _ = _; simp only [Act.put, List.setIfInBounds_toArray, List.set_cons_zero, List.set_cons_succ, i64_w, i32_w]; rfl)))
  all_goals
    have hlt := AB.out.lt
    have f0 := AB.out.free 0
    have g0 : W.cell? ⟨b, 0, none⟩ = some (.int .i64 0) := AB.out.cell 0
    have f1 := AB.out.free 1
    have g1 : W.cell? ⟨b, 1, none⟩ = some (.int .i64 0) := AB.out.cell 1
    have f2 := AB.out.free 2
    have g2 : W.cell? ⟨b, 2, none⟩ = some (.int .i64 0) := AB.out.cell 2
    have f3 := AB.out.free 3
    have g3 : W.cell? ⟨b, 3, none⟩ = some (.int .i64 0) := AB.out.cell 3
    have f4 := AB.out.free 4
    have g4 : W.cell? ⟨b, 4, none⟩ = some (.int .i64 0) := AB.out.cell 4
    have f5 := AB.out.free 5
    have g5 : W.cell? ⟨b, 5, none⟩ = some (.int .i64 0) := AB.out.cell 5
    have f6 := AB.out.free 6
    have g6 : W.cell? ⟨b, 6, none⟩ = some (.int .i64 0) := AB.out.cell 6
    have f7 := AB.out.free 7
    have g7 : W.cell? ⟨b, 7, none⟩ = some (.int .i64 0) := AB.out.cell 7
    have f8 := AB.out.free 8
    have g8 : W.cell? ⟨b, 8, none⟩ = some (.int .i64 0) := AB.out.cell 8
    have f9 := AB.out.free 9
    have g9 : W.cell? ⟨b, 9, none⟩ = some (.int .i64 0) := AB.out.cell 9
    have f10 := AB.out.free 10
    have g10 : W.cell? ⟨b, 10, none⟩ = some (.int .i64 0) := AB.out.cell 10
    refine one_ (i := 17) (N := none) #[true, true, true, true, true, true, true, true, true, true, true, true, true, true, true, true, true, true] rfl rfl (by kernel_rfl) (by decide) (fun K hK => ?_)
    refine skip_ (w1 := ?_) (by rfl) rfl ?_ ?_
    rotate_left
    · go_simp
      rfl
    refine hK.out _ _ trivial (fun _ => ?_)
    clear hK K
    refine done_ (by kernel_rfl) ?_
    exact ⟨b, hob, putI_blk AB.out _ _ _ _ _ _ _ _ _ _ _, putI_below HB.out hob _ _ _ _ _ _ _ _ _ _ _, _, _, _, _, _, _, _, _, _, _, _, _, _, _, _, _, rfl⟩
-- END4
end Go.Proofs.YthlmddcjbhacmaaDoor
