/- The program's table of operations: a word of a text, and the sides. -/
import Derived.Test.YthlmddcjbhacmaaDoorShelf
import Derived.Test.YthlmddcjbhacmaaDoorOp
set_option linter.unusedVariables false
set_option linter.unusedSimpArgs false
namespace Go.Proofs.YthlmddcjbhacmaaDoor
open Go.RowKit Go.Proofs.YthlmddcjbhacmaaDoorW.PrintWords
/-- The two variables of the library that the operations' table is read by. -/
def Env (w : World) : Prop := Lib.TabIs Tryd.prog w "strings.asciiSpace" .u8 Lib.asciiSpaceTab ∧ ∃ m, w.cell? ⟨0, 0, none⟩ = some (.int .i64 m)
theorem gSpace : Tryd.prog.globalNamed "strings.asciiSpace" = some 1 := by kernel_rfl
theorem Env.below {w w' : World} (h : Env w) (hb : Below w.heap.size w w') : Env w' := by
  obtain ⟨h1, m, h2⟩ := h
  refine ⟨?_, m, cell_keep hb h2⟩
  have hg : 1 < w.heap.size := by
    have := h1.cell gSpace 0 (by decide +kernel)
    exact World.block_lt_of_cell? w _ this
  unfold Lib.TabIs World.var? at *
  rw [gSpace] at *
  simp only [Option.bind_some] at *
  rw [hb.block _ hg]
  exact h1
theorem Env.alloc {w : World} (h : Env w) (o : Obj) : Env (w.alloc o) := h.below (below_alloc (Below.refl _ _) o)
def wordAt (L : List (List UInt8)) (n : Int) : List UInt8 := if L.getD n.toNat [] = [46] then [] else L.getD n.toNat []
theorem impl_word (s : ByteArray) (L : List (List UInt8)) (hL : Lib.fields s.data.toList = L) (hs : s.size < 1000) (ha : ∀ (j : Nat) b, s.data.toList[j]? = some b → b.toNat < 128) (n : Int) (h0 : 0 ≤ n) (h1 : n < L.length) (w : World) (he : Env w) :
    Calls Tryd.prog 81 #[.string s, .int .i64 n] w fun e w' => e = .returned (.string ⟨(wordAt L n).toArray⟩) ∧ Below w.heap.size w w' := by
  have hf := Tryd.strings_Fields_laid s w (by omega) ha he.1
  rw [hL] at hf
  have hc : (w.alloc (.cells (L.map fun l => Value.string ⟨l.toArray⟩).toArray 9)).cell? ⟨w.heap.size, n.toNat, none⟩ = some (.string ⟨(L.getD n.toNat []).toArray⟩) := by
    rw [World.cell?_alloc_new]
    have : n.toNat < L.length := by omega
    simp [this, List.getD_eq_getElem?_getD]
  obtain ⟨x, hx⟩ : ∃ x, L.getD n.toNat [] = x := ⟨_, rfl⟩
  rw [hx] at hc
  unfold wordAt
  rw [hx]
  clear hx hL
  generalize L.map (fun l => Value.string ⟨l.toArray⟩) = V at hf hc
  by_cases hd : x = [46]
  · subst hd
    rw [if_pos rfl]
    have HB := hR w; go_enter Tryd.func81, Tryd.ntmps81
    go_wp2_with fail
    refine hf.mono ?_
    rintro _ w1 ⟨rfl, rfl⟩
    go_wp2_with fail
    go_ret
    exact ⟨rfl, blw⟩
  · rw [if_neg hd]
    have hb : (x == [46]) = false := beq_eq_false_iff_ne.2 hd
    have HB := hR w; go_enter Tryd.func81, Tryd.ntmps81
    go_wp2_with fail
    refine hf.mono ?_
    rintro _ w1 ⟨rfl, rfl⟩
    go_wp2_with fail
    go_ret
    exact ⟨rfl, blw⟩
end Go.Proofs.YthlmddcjbhacmaaDoor
