/- FnChanges: a drawn region as a theorem of its own; the words of the other texts. -/
import Derived.Test.YtghmeghbekkanaaGreatDoorSpecT
import Derived.Test.YtghmeghbekkanaaGreatDoorStepR
import Derived.Test.YtghmeghbekkanaaGreatDoorChgI
import Derived.Test.YtghmeghbekkanaaGreatDoorKnowS
import Derived.Test.YtghmeghbekkanaaGreatDoorOkC
import Derived.Test.YtghmeghbekkanaaGreatDoorDraw8
import Derived.Deep.DeepCutAuto
set_option linter.unusedVariables false
set_option linter.unusedSimpArgs false
namespace Go.Proofs.YtghmeghbekkanaaGreatDoor
open Go.RowKit Go.Proofs.YtghmeghbekkanaaGreatDoorW.PrintWords
theorem set11 {w : World} {g : Nat} {t : TypeId} {a0 a1 a2 a3 a4 a5 a6 a7 a8 a9 a10 b0 b1 b2 b3 b4 b5 b6 b7 b8 b9 b10 : Value} (h : Blk w g #[a0, a1, a2, a3, a4, a5, a6, a7, a8, a9, a10] t) : Blk (((((((((((w.setCell ⟨g, 0, none⟩ b0).setCell ⟨g, 1, none⟩ b1).setCell ⟨g, 2, none⟩ b2).setCell ⟨g, 3, none⟩ b3).setCell ⟨g, 4, none⟩ b4).setCell ⟨g, 5, none⟩ b5).setCell ⟨g, 6, none⟩ b6).setCell ⟨g, 7, none⟩ b7).setCell ⟨g, 8, none⟩ b8).setCell ⟨g, 9, none⟩ b9).setCell ⟨g, 10, none⟩ b10) g #[b0, b1, b2, b3, b4, b5, b6, b7, b8, b9, b10] t := by
  have h0 : Blk (w.setCell ⟨g, 0, none⟩ b0) g #[b0, a1, a2, a3, a4, a5, a6, a7, a8, a9, a10] t := blk_set h 0 _
  have h1 : Blk ((w.setCell ⟨g, 0, none⟩ b0).setCell ⟨g, 1, none⟩ b1) g #[b0, b1, a2, a3, a4, a5, a6, a7, a8, a9, a10] t := blk_set h0 1 _
  have h2 : Blk (((w.setCell ⟨g, 0, none⟩ b0).setCell ⟨g, 1, none⟩ b1).setCell ⟨g, 2, none⟩ b2) g #[b0, b1, b2, a3, a4, a5, a6, a7, a8, a9, a10] t := blk_set h1 2 _
  have h3 : Blk ((((w.setCell ⟨g, 0, none⟩ b0).setCell ⟨g, 1, none⟩ b1).setCell ⟨g, 2, none⟩ b2).setCell ⟨g, 3, none⟩ b3) g #[b0, b1, b2, b3, a4, a5, a6, a7, a8, a9, a10] t := blk_set h2 3 _
  have h4 : Blk (((((w.setCell ⟨g, 0, none⟩ b0).setCell ⟨g, 1, none⟩ b1).setCell ⟨g, 2, none⟩ b2).setCell ⟨g, 3, none⟩ b3).setCell ⟨g, 4, none⟩ b4) g #[b0, b1, b2, b3, b4, a5, a6, a7, a8, a9, a10] t := blk_set h3 4 _
  have h5 : Blk ((((((w.setCell ⟨g, 0, none⟩ b0).setCell ⟨g, 1, none⟩ b1).setCell ⟨g, 2, none⟩ b2).setCell ⟨g, 3, none⟩ b3).setCell ⟨g, 4, none⟩ b4).setCell ⟨g, 5, none⟩ b5) g #[b0, b1, b2, b3, b4, b5, a6, a7, a8, a9, a10] t := blk_set h4 5 _
  have h6 : Blk (((((((w.setCell ⟨g, 0, none⟩ b0).setCell ⟨g, 1, none⟩ b1).setCell ⟨g, 2, none⟩ b2).setCell ⟨g, 3, none⟩ b3).setCell ⟨g, 4, none⟩ b4).setCell ⟨g, 5, none⟩ b5).setCell ⟨g, 6, none⟩ b6) g #[b0, b1, b2, b3, b4, b5, b6, a7, a8, a9, a10] t := blk_set h5 6 _
  have h7 : Blk ((((((((w.setCell ⟨g, 0, none⟩ b0).setCell ⟨g, 1, none⟩ b1).setCell ⟨g, 2, none⟩ b2).setCell ⟨g, 3, none⟩ b3).setCell ⟨g, 4, none⟩ b4).setCell ⟨g, 5, none⟩ b5).setCell ⟨g, 6, none⟩ b6).setCell ⟨g, 7, none⟩ b7) g #[b0, b1, b2, b3, b4, b5, b6, b7, a8, a9, a10] t := blk_set h6 7 _
  have h8 : Blk (((((((((w.setCell ⟨g, 0, none⟩ b0).setCell ⟨g, 1, none⟩ b1).setCell ⟨g, 2, none⟩ b2).setCell ⟨g, 3, none⟩ b3).setCell ⟨g, 4, none⟩ b4).setCell ⟨g, 5, none⟩ b5).setCell ⟨g, 6, none⟩ b6).setCell ⟨g, 7, none⟩ b7).setCell ⟨g, 8, none⟩ b8) g #[b0, b1, b2, b3, b4, b5, b6, b7, b8, a9, a10] t := blk_set h7 8 _
  have h9 : Blk ((((((((((w.setCell ⟨g, 0, none⟩ b0).setCell ⟨g, 1, none⟩ b1).setCell ⟨g, 2, none⟩ b2).setCell ⟨g, 3, none⟩ b3).setCell ⟨g, 4, none⟩ b4).setCell ⟨g, 5, none⟩ b5).setCell ⟨g, 6, none⟩ b6).setCell ⟨g, 7, none⟩ b7).setCell ⟨g, 8, none⟩ b8).setCell ⟨g, 9, none⟩ b9) g #[b0, b1, b2, b3, b4, b5, b6, b7, b8, b9, a10] t := blk_set h8 9 _
  have h10 : Blk (((((((((((w.setCell ⟨g, 0, none⟩ b0).setCell ⟨g, 1, none⟩ b1).setCell ⟨g, 2, none⟩ b2).setCell ⟨g, 3, none⟩ b3).setCell ⟨g, 4, none⟩ b4).setCell ⟨g, 5, none⟩ b5).setCell ⟨g, 6, none⟩ b6).setCell ⟨g, 7, none⟩ b7).setCell ⟨g, 8, none⟩ b8).setCell ⟨g, 9, none⟩ b9).setCell ⟨g, 10, none⟩ b10) g #[b0, b1, b2, b3, b4, b5, b6, b7, b8, b9, b10] t := blk_set h9 10 _
  exact h10
theorem cells11 {w : World} {g : Nat} {t : TypeId} {a0 a1 a2 a3 a4 a5 a6 a7 a8 a9 a10 : Value} (h : Blk w g #[a0, a1, a2, a3, a4, a5, a6, a7, a8, a9, a10] t) : w.cell? ⟨g, 0, none⟩ = some a0 ∧ w.cell? ⟨g, 1, none⟩ = some a1 ∧ w.cell? ⟨g, 2, none⟩ = some a2 ∧ w.cell? ⟨g, 3, none⟩ = some a3 ∧ w.cell? ⟨g, 4, none⟩ = some a4 ∧ w.cell? ⟨g, 5, none⟩ = some a5 ∧ w.cell? ⟨g, 6, none⟩ = some a6 ∧ w.cell? ⟨g, 7, none⟩ = some a7 ∧ w.cell? ⟨g, 8, none⟩ = some a8 ∧ w.cell? ⟨g, 9, none⟩ = some a9 ∧ w.cell? ⟨g, 10, none⟩ = some a10 :=
  ⟨h.cell 0, h.cell 1, h.cell 2, h.cell 3, h.cell 4, h.cell 5, h.cell 6, h.cell 7, h.cell 8, h.cell 9, h.cell 10⟩
/-- A byte of a text that is told as a list. -/
def lb (x : List UInt8) (i : Int) : Int := ((x.getD i.toNat 0).toNat : Int)
theorem index_lb {P : Program} (w : World) (t : TypeId) (x : List UInt8) (k : IntKind) (i : Int) (h : P.underlying t = some .string) (h0 : 0 ≤ i) (h1 : i < (x.length : Int)) :
    (Instr.index t (.string ⟨x.toArray⟩) (.int k i)).run P w = .ok (.int .u8 (lb x i)) w := by
  have hs : (⟨x.toArray⟩ : ByteArray).size = x.length := by simp [ByteArray.size]
  have hi : 0 ≤ i ∧ i < ((⟨x.toArray⟩ : ByteArray).size : Int) := by rw [hs]; omega
  rw [run_index_string w t _ k i h, dif_pos hi]
  have h2 : i.toNat < x.length := by omega
  unfold lb
  rw [List.getD_eq_getElem?_getD, List.getElem?_eq_getElem h2]
  rfl
theorem size_lb (x : List UInt8) : (⟨x.toArray⟩ : ByteArray).size = x.length := by simp [ByteArray.size]
attribute [local go_sem high] index_lb size_lb
theorem take_has (T : List UInt8) (c : UInt8) (k : Nat) (h : k < T.length) : (T.take (k + 1)).contains c = ((T.take k).contains c || T.getD k 0 == c) := by
  rw [List.take_succ_eq_append_getElem h, List.contains_append, List.getD_eq_getElem?_getD, List.getElem?_eq_getElem h]
  show ((T.take k).contains c || (c == T[k] || false)) = ((T.take k).contains c || T[k] == c)
  rw [Bool.or_false, Bool.beq_comm]
theorem lb_eq (T L : List UInt8) (k i : Nat) : (lb T k == lb L i) = (T.getD k 0 == L.getD i 0) := by
  unfold lb
  simp only [Int.toNat_natCast]
  generalize T.getD k 0 = a
  generalize L.getD i 0 = b
  rw [Bool.eq_iff_iff, beq_iff_eq, beq_iff_eq]
  constructor
  · intro e
    exact UInt8.toNat_inj.1 (by omega)
  · intro e
    rw [e]
def regs (c : Cpu) : List Int := [c.A, c.X, c.Y, c.S, b2i c.F.N, b2i c.F.V, b2i c.F.D, b2i c.F.I, b2i c.F.Z, b2i c.F.C]
def lets : List UInt8 := [65, 88, 89, 83, 78, 86, 68, 73, 90, 67]
theorem kp_regs {L : List UInt8} {c d : Cpu} (h : Kp L c d) (k : Nat) (hk : k < 10) (hn : L.contains (lets.getD k 0) = false) : rd (regs c) k = rd (regs d) k := by
  have e : k = 0 ∨ k = 1 ∨ k = 2 ∨ k = 3 ∨ k = 4 ∨ k = 5 ∨ k = 6 ∨ k = 7 ∨ k = 8 ∨ k = 9 := by omega
  rcases e with rfl | rfl | rfl | rfl | rfl | rfl | rfl | rfl | rfl | rfl
  · exact (h.kA hn).symm
  · exact (h.kX hn).symm
  · exact (h.kY hn).symm
  · exact (h.kS hn).symm
  · exact congrArg b2i (h.kN hn).symm
  · exact congrArg b2i (h.kV hn).symm
  · exact congrArg b2i (h.kD hn).symm
  · exact congrArg b2i (h.kI hn).symm
  · exact congrArg b2i (h.kZ hn).symm
  · exact congrArg b2i (h.kC hn).symm
theorem ten {w : World} {g : Nat} {t : TypeId} {c : Cpu} (h : Blk w g #[.int .i64 c.A, .int .i64 c.X, .int .i64 c.Y, .int .i64 c.S, .int .i64 (b2i c.F.N), .int .i64 (b2i c.F.V), .int .i64 (b2i c.F.D), .int .i64 (b2i c.F.I), .int .i64 (b2i c.F.Z), .int .i64 (b2i c.F.C)] t) (k : Nat) (hk : k < 10) : w.cell? ⟨g, k, none⟩ = some (.int .i64 (rd (regs c) k)) := by
  rw [h.cell k]
  have e : k = 0 ∨ k = 1 ∨ k = 2 ∨ k = 3 ∨ k = 4 ∨ k = 5 ∨ k = 6 ∨ k = 7 ∨ k = 8 ∨ k = 9 := by omega
  rcases e with rfl | rfl | rfl | rfl | rfl | rfl | rfl | rfl | rfl | rfl <;> rfl
theorem lookup_len (l : List (List UInt8 × List UInt8)) (x : List UInt8) (h : ∀ e ∈ l, e.2.length ≤ 100) : ((l.lookup x).getD []).length ≤ 100 := by
  induction l with
  | nil => simp
  | cons a t ih =>
    unfold List.lookup
    split
    · exact h a (List.mem_cons_self ..)
    · exact ih (fun e he => h e (List.mem_cons_of_mem _ he))
theorem chg_len (x : List UInt8) (m : Int) : (chg x m).length ≤ 100 := by
  unfold chg
  split
  · decide
  · exact lookup_len chgT x (by decide +kernel)
/-- The region of that number in a code; the first loop's body. -/
def regOf (n : Nat) : Code → Option Code
  | .region id ops b => if id = n then some (.region id ops b) else none
  | .seq a b => match regOf n a with
    | some c => some c
    | none => regOf n b
  | .cond _ a b => match regOf n a with
    | some c => some c
    | none => regOf n b
  | .block _ c => regOf n c
  | .loop c => regOf n c
  | .scope c => regOf n c
  | _ => none
def firstLoop : Code → Option Code
  | .loop c => some c
  | .seq a b => match firstLoop a with
    | some c => some c
    | none => firstLoop b
  | .block _ c => firstLoop c
  | .scope c => firstLoop c
  | .cond _ a b => match firstLoop a with
    | some c => some c
    | none => firstLoop b
  | _ => none
set_option maxRecDepth 100000 in
set_option maxHeartbeats 8000000 in
theorem chgReg (x y : Cpu) (w w8 : World) (g3 g5 : Nat) (hbw : Below w.heap.size w w8) (k3 : Blk w8 g3 #[.int .u8 x.A, .int .u8 x.X, .int .u8 x.Y, .int .u8 x.S, .int .u16 x.PC, .bool x.F.N, .bool x.F.V, .bool x.F.D, .bool x.F.I, .bool x.F.Z, .bool x.F.C] 28) (k5 : Blk w8 g5 #[.int .u8 y.A, .int .u8 y.X, .int .u8 y.Y, .int .u8 y.S, .int .u16 y.PC, .bool y.F.N, .bool y.F.V, .bool y.F.D, .bool y.F.I, .bool y.F.Z, .bool y.F.C] 28)
    (hko1 : ∀ W : World, Calls Tryz.prog 18 #[.agg #[.int .u8 x.A, .int .u8 x.X, .int .u8 x.Y, .int .u8 x.S, .int .u16 x.PC, .bool x.F.N, .bool x.F.V, .bool x.F.D, .bool x.F.I, .bool x.F.Z, .bool x.F.C]] W fun e w' => e = .returned (.agg #[.int .i64 x.A, .int .i64 x.X, .int .i64 x.Y, .int .i64 x.S, .int .i64 x.PC, .int .i64 (b2i x.F.N), .int .i64 (b2i x.F.V), .int .i64 (b2i x.F.D), .int .i64 (b2i x.F.I), .int .i64 (b2i x.F.Z), .int .i64 (b2i x.F.C)]) ∧ Below W.heap.size W w')
    (hko2 : ∀ W : World, Calls Tryz.prog 18 #[.agg #[.int .u8 y.A, .int .u8 y.X, .int .u8 y.Y, .int .u8 y.S, .int .u16 y.PC, .bool y.F.N, .bool y.F.V, .bool y.F.D, .bool y.F.I, .bool y.F.Z, .bool y.F.C]] W fun e w' => e = .returned (.agg #[.int .i64 y.A, .int .i64 y.X, .int .i64 y.Y, .int .i64 y.S, .int .i64 y.PC, .int .i64 (b2i y.F.N), .int .i64 (b2i y.F.V), .int .i64 (b2i y.F.D), .int .i64 (b2i y.F.I), .int .i64 (b2i y.F.Z), .int .i64 (b2i y.F.C)]) ∧ Below W.heap.size W w')
    (s0 s1 s2 s4 s6 s7 s8 s9 s10 s11 s12 s13 s14 s15 s16 s17 s18 s19 s20 s21 s22 s23 s24 s25 s26 s27 s28 s29 s30 s31 s32 s33 s34 s35 s36 s37 s38 s39 s40 s41 s42 s43 s44 s45 s46 s47 s48 s49 s50 s51 s52 s53 s54 s55 s56 s57 s58 s59 s60 s61 s62 s63 s64 s65 s66 s67 s68 s69 s70 s71 s72 s73 s74 s75 s76 s77 s78 s79 s80 s81 s82 s83 s84 s85 s86 s87 s88 s89 s90 s91 s92 s93 s94 s95 s96 s97 s98 s99 s100 s101 s102 s103 s104 s105 s106 s107 s108 s109 s110 s111 s112 s113 s114 s115 s116 s117 s118 s119 s120 s121 s122 s123 s124 s125 s126 s127 s128 s129 s130 s131 s132 : Value) :
    Code.wp Tryz.prog ((Tryz.f3.body.bind (regOf 10)).getD .skip) (fun e a' w' => e = .normal ∧ ∃ u9 u10 u52 u53 u54 u55, (∃ ga gb, u9 = .pointer (some ⟨ga, 0, none⟩) ∧ u10 = .pointer (some ⟨gb, 0, none⟩) ∧ Blk w' ga #[.int .i64 x.A, .int .i64 x.X, .int .i64 x.Y, .int .i64 x.S, .int .i64 x.PC, .int .i64 (b2i x.F.N), .int .i64 (b2i x.F.V), .int .i64 (b2i x.F.D), .int .i64 (b2i x.F.I), .int .i64 (b2i x.F.Z), .int .i64 (b2i x.F.C)] 42 ∧ Blk w' gb #[.int .i64 y.A, .int .i64 y.X, .int .i64 y.Y, .int .i64 y.S, .int .i64 y.PC, .int .i64 (b2i y.F.N), .int .i64 (b2i y.F.V), .int .i64 (b2i y.F.D), .int .i64 (b2i y.F.I), .int .i64 (b2i y.F.Z), .int .i64 (b2i y.F.C)] 42 ∧ Below w8.heap.size w8 w') ∧ a' = ⟨List.toArray (s0 :: s1 :: s2 :: .pointer (some ⟨g3, 0, none⟩) :: s4 :: .pointer (some ⟨g5, 0, none⟩) :: s6 :: s7 :: s8 :: u9 :: u10 :: s11 :: s12 :: s13 :: s14 :: s15 :: s16 :: s17 :: s18 :: s19 :: s20 :: s21 :: s22 :: s23 :: s24 :: s25 :: s26 :: s27 :: s28 :: s29 :: s30 :: s31 :: s32 :: s33 :: s34 :: s35 :: s36 :: s37 :: s38 :: s39 :: s40 :: s41 :: s42 :: s43 :: s44 :: s45 :: s46 :: s47 :: s48 :: s49 :: s50 :: s51 :: u52 :: u53 :: u54 :: u55 :: s56 :: s57 :: s58 :: s59 :: s60 :: s61 :: s62 :: s63 :: s64 :: s65 :: s66 :: s67 :: s68 :: s69 :: s70 :: s71 :: s72 :: s73 :: s74 :: s75 :: s76 :: s77 :: s78 :: s79 :: s80 :: s81 :: s82 :: s83 :: s84 :: s85 :: s86 :: s87 :: s88 :: s89 :: s90 :: s91 :: s92 :: s93 :: s94 :: s95 :: s96 :: s97 :: s98 :: s99 :: s100 :: s101 :: s102 :: s103 :: s104 :: s105 :: s106 :: s107 :: s108 :: s109 :: s110 :: s111 :: s112 :: s113 :: s114 :: s115 :: s116 :: s117 :: s118 :: s119 :: s120 :: s121 :: s122 :: s123 :: s124 :: s125 :: s126 :: s127 :: s128 :: s129 :: s130 :: s131 :: s132 :: []), []⟩) ⟨List.toArray (s0 :: s1 :: s2 :: .pointer (some ⟨g3, 0, none⟩) :: s4 :: .pointer (some ⟨g5, 0, none⟩) :: s6 :: s7 :: s8 :: s9 :: s10 :: s11 :: s12 :: s13 :: s14 :: s15 :: s16 :: s17 :: s18 :: s19 :: s20 :: s21 :: s22 :: s23 :: s24 :: s25 :: s26 :: s27 :: s28 :: s29 :: s30 :: s31 :: s32 :: s33 :: s34 :: s35 :: s36 :: s37 :: s38 :: s39 :: s40 :: s41 :: s42 :: s43 :: s44 :: s45 :: s46 :: s47 :: s48 :: s49 :: s50 :: s51 :: s52 :: s53 :: s54 :: s55 :: s56 :: s57 :: s58 :: s59 :: s60 :: s61 :: s62 :: s63 :: s64 :: s65 :: s66 :: s67 :: s68 :: s69 :: s70 :: s71 :: s72 :: s73 :: s74 :: s75 :: s76 :: s77 :: s78 :: s79 :: s80 :: s81 :: s82 :: s83 :: s84 :: s85 :: s86 :: s87 :: s88 :: s89 :: s90 :: s91 :: s92 :: s93 :: s94 :: s95 :: s96 :: s97 :: s98 :: s99 :: s100 :: s101 :: s102 :: s103 :: s104 :: s105 :: s106 :: s107 :: s108 :: s109 :: s110 :: s111 :: s112 :: s113 :: s114 :: s115 :: s116 :: s117 :: s118 :: s119 :: s120 :: s121 :: s122 :: s123 :: s124 :: s125 :: s126 :: s127 :: s128 :: s129 :: s130 :: s131 :: s132 :: []), []⟩ w8 := by
  conv => arg 2; whnf
  have HB := Aside0.mk hbw
  have HB8 := hR w8
  have hz8 := hbw.size
  clear hbw
  obtain ⟨e0, e1, e2, e3, e4, e5, e6, e7, e8, e9, e10⟩ := k3.cpu
  obtain ⟨u0, u1, u2, u3, u4, u5, u6, u7, u8, u9, u10⟩ := k5.cpu
  have hl0 := k3.lt
  have hl1 := k5.lt
  go_region_held3 (fun w' => ∀ p : Addr, p.block < w8.heap.size → w'.cell? p = w8.cell? p) ((intro p hp; exact Below.cell (by exact blw) hp)) (first | (go_at_call 18; ((with_reducible refine (hko1 _).mono ?_); rintro _ w9 ⟨rfl, hb⟩; have HX1 := Aside0.mk (blk_moves hb); have HB := Aside0.mk (below_step (w := w) blw hb); have HB8 := Aside0.mk (below_step (w := w8) blw hb); have hz9 := hb.size; obtain ⟨hcl9, hfr9, hlt9, _⟩ := bcell hb; (try simp only [sA, sC, sD] at hz9); (try simp only [sA, sC, sD] at hcl9 hfr9 hlt9); have HB9 := hR w9; clear hb; (first | (have hv9_8 := (show w8.heap.size < w9.heap.size from by omega)) | skip); (first | (have hu9_8 := (show w8.heap.size + 1 < w9.heap.size from by omega)) | skip))) | (go_at_call 18; ((with_reducible refine (hko2 _).mono ?_); rintro _ w10 ⟨rfl, hb⟩; have HX2 := Aside0.mk (blk_moves hb); have HB := Aside0.mk (below_step (w := w) blw hb); have HB8 := Aside0.mk (below_step (w := w8) blw hb); have HB9 := Aside0.mk (below_step (w := w9) blw hb); have hz10 := hb.size; obtain ⟨hcl10, hfr10, hlt10, _⟩ := bcell hb; (try simp only [sA, sC, sD] at hz10); (try simp only [sA, sC, sD] at hcl10 hfr10 hlt10); have HB10 := hR w10; clear hb; (first | (have hv10_8 := (show w8.heap.size < w10.heap.size from by omega)) | skip); (first | (have hu10_8 := (show w8.heap.size + 1 < w10.heap.size from by omega)) | skip); (first | (have hv10_9 := (show w9.heap.size < w10.heap.size from by omega)) | skip); (first | (have hu10_9 := (show w9.heap.size + 1 < w10.heap.size from by omega)) | skip))))
  all_goals
    refine ⟨rfl, ?_⟩
    repeat apply Exists.intro
    refine ⟨?_, rfl⟩
  all_goals refine ⟨_, _, rfl, rfl, ?_, ?_, blw⟩
  all_goals (repeat (with_reducible first | refine set11 (a0 := .int .i64 0) (a1 := .int .i64 0) (a2 := .int .i64 0) (a3 := .int .i64 0) (a4 := .int .i64 0) (a5 := .int .i64 0) (a6 := .int .i64 0) (a7 := .int .i64 0) (a8 := .int .i64 0) (a9 := .int .i64 0) (a10 := .int .i64 0) ?_ | (refine Blk.far ?_ ?_; rotate_left; (first | omega | (simp only [sA, sC, sD] <;> omega) | (simp <;> omega))) | (refine Blk.at ?_; (first | omega | (simp only [sA, sC, sD] <;> omega) | (simp <;> omega))) | refine Blk.alloc ?_ _ | apply HX2.out | apply HX1.out | refine Blk.drew ?_))
end Go.Proofs.YtghmeghbekkanaaGreatDoor
