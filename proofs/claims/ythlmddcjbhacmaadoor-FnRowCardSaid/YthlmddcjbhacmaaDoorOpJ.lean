/- The program's sides of operations and its table (printed by wip/mkimp.py). -/
import Derived.Test.YthlmddcjbhacmaaDoorOpI
set_option linter.unusedVariables false
set_option linter.unusedSimpArgs false
namespace Go.Proofs.YthlmddcjbhacmaaDoor
open Go.RowKit Go.Proofs.YthlmddcjbhacmaaDoorW.PrintWords
def zIL : List (List UInt8 × Int) := [([66, 82, 75], 0), ([], 3), ([80, 72, 80], 0), ([], 6), ([66, 80, 76], 12), ([], 4), ([67, 76, 67], 0), ([], 7), ([74, 83, 82], 6), ([66, 73, 84], 3), ([80, 76, 80], 0), ([66, 73, 84], 6), ([66, 77, 73], 12), ([], 4), ([83, 69, 67], 0), ([], 7), ([82, 84, 73], 0), ([], 3), ([80, 72, 65], 0), ([74, 77, 80], 6), ([66, 86, 67], 12), ([], 4), ([67, 76, 73], 0), ([], 7), ([82, 84, 83], 0), ([], 3), ([80, 76, 65], 0), ([74, 77, 80], 9), ([66, 86, 83], 12), ([], 4), ([83, 69, 73], 0), ([], 7), ([], 2), ([83, 84, 89], 3), ([68, 69, 89], 0), ([83, 84, 89], 6), ([66, 67, 67], 12), ([83, 84, 89], 4), ([84, 89, 65], 0), ([], 7), ([76, 68, 89], 2), ([76, 68, 89], 3), ([84, 65, 89], 0), ([76, 68, 89], 6), ([66, 67, 83], 12), ([76, 68, 89], 4), ([67, 76, 86], 0), ([76, 68, 89], 7), ([67, 80, 89], 2), ([67, 80, 89], 3), ([73, 78, 89], 0), ([67, 80, 89], 6), ([66, 78, 69], 12), ([], 4), ([67, 76, 68], 0), ([], 7), ([67, 80, 88], 2), ([67, 80, 88], 3), ([73, 78, 88], 0), ([67, 80, 88], 6), ([66, 69, 81], 12), ([], 4), ([83, 69, 68], 0), ([], 7)]
def zI (row part : Int) : List UInt8 × Int := zIL.getD (8 * row + part).toNat ([], 0)
def oIL : List (List UInt8 × Int) := [([79, 82, 65], 10), ([79, 82, 65], 3), ([79, 82, 65], 2), ([79, 82, 65], 6), ([79, 82, 65], 11), ([79, 82, 65], 4), ([79, 82, 65], 8), ([79, 82, 65], 7), ([65, 78, 68], 10), ([65, 78, 68], 3), ([65, 78, 68], 2), ([65, 78, 68], 6), ([65, 78, 68], 11), ([65, 78, 68], 4), ([65, 78, 68], 8), ([65, 78, 68], 7), ([69, 79, 82], 10), ([69, 79, 82], 3), ([69, 79, 82], 2), ([69, 79, 82], 6), ([69, 79, 82], 11), ([69, 79, 82], 4), ([69, 79, 82], 8), ([69, 79, 82], 7), ([65, 68, 67], 10), ([65, 68, 67], 3), ([65, 68, 67], 2), ([65, 68, 67], 6), ([65, 68, 67], 11), ([65, 68, 67], 4), ([65, 68, 67], 8), ([65, 68, 67], 7), ([83, 84, 65], 10), ([83, 84, 65], 3), ([], 2), ([83, 84, 65], 6), ([83, 84, 65], 11), ([83, 84, 65], 4), ([83, 84, 65], 8), ([83, 84, 65], 7), ([76, 68, 65], 10), ([76, 68, 65], 3), ([76, 68, 65], 2), ([76, 68, 65], 6), ([76, 68, 65], 11), ([76, 68, 65], 4), ([76, 68, 65], 8), ([76, 68, 65], 7), ([67, 77, 80], 10), ([67, 77, 80], 3), ([67, 77, 80], 2), ([67, 77, 80], 6), ([67, 77, 80], 11), ([67, 77, 80], 4), ([67, 77, 80], 8), ([67, 77, 80], 7), ([83, 66, 67], 10), ([83, 66, 67], 3), ([83, 66, 67], 2), ([83, 66, 67], 6), ([83, 66, 67], 11), ([83, 66, 67], 4), ([83, 66, 67], 8), ([83, 66, 67], 7)]
def oI (row part : Int) : List UInt8 × Int := oIL.getD (8 * row + part).toNat ([], 0)
def tIL : List (List UInt8 × Int) := [([], 2), ([65, 83, 76], 3), ([65, 83, 76], 1), ([65, 83, 76], 6), ([], -1), ([65, 83, 76], 4), ([], 0), ([65, 83, 76], 7), ([], 2), ([82, 79, 76], 3), ([82, 79, 76], 1), ([82, 79, 76], 6), ([], -1), ([82, 79, 76], 4), ([], 0), ([82, 79, 76], 7), ([], 2), ([76, 83, 82], 3), ([76, 83, 82], 1), ([76, 83, 82], 6), ([], -1), ([76, 83, 82], 4), ([], 0), ([76, 83, 82], 7), ([], 2), ([82, 79, 82], 3), ([82, 79, 82], 1), ([82, 79, 82], 6), ([], -1), ([82, 79, 82], 4), ([], 0), ([82, 79, 82], 7), ([], 2), ([83, 84, 88], 3), ([84, 88, 65], 0), ([83, 84, 88], 6), ([], -1), ([83, 84, 88], 5), ([84, 88, 83], 0), ([], 8), ([76, 68, 88], 2), ([76, 68, 88], 3), ([84, 65, 88], 0), ([76, 68, 88], 6), ([], -1), ([76, 68, 88], 5), ([84, 83, 88], 0), ([76, 68, 88], 8), ([], 2), ([68, 69, 67], 3), ([68, 69, 88], 0), ([68, 69, 67], 6), ([], -1), ([68, 69, 67], 4), ([], 0), ([68, 69, 67], 7), ([], 2), ([73, 78, 67], 3), ([78, 79, 80], 0), ([73, 78, 67], 6), ([], -1), ([73, 78, 67], 4), ([], 0), ([73, 78, 67], 7)]
def tI (row part : Int) : List UInt8 × Int := tIL.getD (8 * row + part).toNat ([], 0)
def LS0a : List (List UInt8) := [[66, 82, 75], [74, 83, 82], [82, 84, 73], [82, 84, 83], [46], [76, 68, 89], [67, 80, 89], [67, 80, 88]]
theorem word_S0a (n : Int) (h0 : 0 ≤ n) (h1 : n < 8) (w : World) (he : Env w) : Calls Tryd.prog 81 #[.string ⟨#[66, 82, 75, 32, 74, 83, 82, 32, 82, 84, 73, 32, 82, 84, 83, 32, 46, 32, 76, 68, 89, 32, 67, 80, 89, 32, 67, 80, 88]⟩, .int .i64 n] w fun e w' => e = .returned (.string ⟨(wordAt LS0a n).toArray⟩) ∧ Below w.heap.size w w' :=
  impl_word _ LS0a (by decide +kernel) (by decide) (fun j b h => (by decide : ∀ b ∈ ([66, 82, 75, 32, 74, 83, 82, 32, 82, 84, 73, 32, 82, 84, 83, 32, 46, 32, 76, 68, 89, 32, 67, 80, 89, 32, 67, 80, 88] : List UInt8), b.toNat < 128) b (List.mem_of_getElem? h)) n h0 h1 w he
def LS0b : List (List UInt8) := [[46], [66, 73, 84], [46], [46], [83, 84, 89], [76, 68, 89], [67, 80, 89], [67, 80, 88]]
theorem word_S0b (n : Int) (h0 : 0 ≤ n) (h1 : n < 8) (w : World) (he : Env w) : Calls Tryd.prog 81 #[.string ⟨#[46, 32, 66, 73, 84, 32, 46, 32, 46, 32, 83, 84, 89, 32, 76, 68, 89, 32, 67, 80, 89, 32, 67, 80, 88]⟩, .int .i64 n] w fun e w' => e = .returned (.string ⟨(wordAt LS0b n).toArray⟩) ∧ Below w.heap.size w w' :=
  impl_word _ LS0b (by decide +kernel) (by decide) (fun j b h => (by decide : ∀ b ∈ ([46, 32, 66, 73, 84, 32, 46, 32, 46, 32, 83, 84, 89, 32, 76, 68, 89, 32, 67, 80, 89, 32, 67, 80, 88] : List UInt8), b.toNat < 128) b (List.mem_of_getElem? h)) n h0 h1 w he
def LS0c : List (List UInt8) := [[80, 72, 80], [80, 76, 80], [80, 72, 65], [80, 76, 65], [68, 69, 89], [84, 65, 89], [73, 78, 89], [73, 78, 88]]
theorem word_S0c (n : Int) (h0 : 0 ≤ n) (h1 : n < 8) (w : World) (he : Env w) : Calls Tryd.prog 81 #[.string ⟨#[80, 72, 80, 32, 80, 76, 80, 32, 80, 72, 65, 32, 80, 76, 65, 32, 68, 69, 89, 32, 84, 65, 89, 32, 73, 78, 89, 32, 73, 78, 88]⟩, .int .i64 n] w fun e w' => e = .returned (.string ⟨(wordAt LS0c n).toArray⟩) ∧ Below w.heap.size w w' :=
  impl_word _ LS0c (by decide +kernel) (by decide) (fun j b h => (by decide : ∀ b ∈ ([80, 72, 80, 32, 80, 76, 80, 32, 80, 72, 65, 32, 80, 76, 65, 32, 68, 69, 89, 32, 84, 65, 89, 32, 73, 78, 89, 32, 73, 78, 88] : List UInt8), b.toNat < 128) b (List.mem_of_getElem? h)) n h0 h1 w he
def LS0d : List (List UInt8) := [[46], [66, 73, 84], [74, 77, 80], [46], [83, 84, 89], [76, 68, 89], [67, 80, 89], [67, 80, 88]]
theorem word_S0d (n : Int) (h0 : 0 ≤ n) (h1 : n < 8) (w : World) (he : Env w) : Calls Tryd.prog 81 #[.string ⟨#[46, 32, 66, 73, 84, 32, 74, 77, 80, 32, 46, 32, 83, 84, 89, 32, 76, 68, 89, 32, 67, 80, 89, 32, 67, 80, 88]⟩, .int .i64 n] w fun e w' => e = .returned (.string ⟨(wordAt LS0d n).toArray⟩) ∧ Below w.heap.size w w' :=
  impl_word _ LS0d (by decide +kernel) (by decide) (fun j b h => (by decide : ∀ b ∈ ([46, 32, 66, 73, 84, 32, 74, 77, 80, 32, 46, 32, 83, 84, 89, 32, 76, 68, 89, 32, 67, 80, 89, 32, 67, 80, 88] : List UInt8), b.toNat < 128) b (List.mem_of_getElem? h)) n h0 h1 w he
def LS0e : List (List UInt8) := [[66, 80, 76], [66, 77, 73], [66, 86, 67], [66, 86, 83], [66, 67, 67], [66, 67, 83], [66, 78, 69], [66, 69, 81]]
theorem word_S0e (n : Int) (h0 : 0 ≤ n) (h1 : n < 8) (w : World) (he : Env w) : Calls Tryd.prog 81 #[.string ⟨#[66, 80, 76, 32, 66, 77, 73, 32, 66, 86, 67, 32, 66, 86, 83, 32, 66, 67, 67, 32, 66, 67, 83, 32, 66, 78, 69, 32, 66, 69, 81]⟩, .int .i64 n] w fun e w' => e = .returned (.string ⟨(wordAt LS0e n).toArray⟩) ∧ Below w.heap.size w w' :=
  impl_word _ LS0e (by decide +kernel) (by decide) (fun j b h => (by decide : ∀ b ∈ ([66, 80, 76, 32, 66, 77, 73, 32, 66, 86, 67, 32, 66, 86, 83, 32, 66, 67, 67, 32, 66, 67, 83, 32, 66, 78, 69, 32, 66, 69, 81] : List UInt8), b.toNat < 128) b (List.mem_of_getElem? h)) n h0 h1 w he
def LS0f : List (List UInt8) := [[46], [46], [46], [46], [83, 84, 89], [76, 68, 89], [46], [46]]
theorem word_S0f (n : Int) (h0 : 0 ≤ n) (h1 : n < 8) (w : World) (he : Env w) : Calls Tryd.prog 81 #[.string ⟨#[46, 32, 46, 32, 46, 32, 46, 32, 83, 84, 89, 32, 76, 68, 89, 32, 46, 32, 46]⟩, .int .i64 n] w fun e w' => e = .returned (.string ⟨(wordAt LS0f n).toArray⟩) ∧ Below w.heap.size w w' :=
  impl_word _ LS0f (by decide +kernel) (by decide) (fun j b h => (by decide : ∀ b ∈ ([46, 32, 46, 32, 46, 32, 46, 32, 83, 84, 89, 32, 76, 68, 89, 32, 46, 32, 46] : List UInt8), b.toNat < 128) b (List.mem_of_getElem? h)) n h0 h1 w he
def LS0g : List (List UInt8) := [[67, 76, 67], [83, 69, 67], [67, 76, 73], [83, 69, 73], [84, 89, 65], [67, 76, 86], [67, 76, 68], [83, 69, 68]]
theorem word_S0g (n : Int) (h0 : 0 ≤ n) (h1 : n < 8) (w : World) (he : Env w) : Calls Tryd.prog 81 #[.string ⟨#[67, 76, 67, 32, 83, 69, 67, 32, 67, 76, 73, 32, 83, 69, 73, 32, 84, 89, 65, 32, 67, 76, 86, 32, 67, 76, 68, 32, 83, 69, 68]⟩, .int .i64 n] w fun e w' => e = .returned (.string ⟨(wordAt LS0g n).toArray⟩) ∧ Below w.heap.size w w' :=
  impl_word _ LS0g (by decide +kernel) (by decide) (fun j b h => (by decide : ∀ b ∈ ([67, 76, 67, 32, 83, 69, 67, 32, 67, 76, 73, 32, 83, 69, 73, 32, 84, 89, 65, 32, 67, 76, 86, 32, 67, 76, 68, 32, 83, 69, 68] : List UInt8), b.toNat < 128) b (List.mem_of_getElem? h)) n h0 h1 w he
def LS0h : List (List UInt8) := [[46], [46], [46], [46], [46], [76, 68, 89], [46], [46]]
theorem word_S0h (n : Int) (h0 : 0 ≤ n) (h1 : n < 8) (w : World) (he : Env w) : Calls Tryd.prog 81 #[.string ⟨#[46, 32, 46, 32, 46, 32, 46, 32, 46, 32, 76, 68, 89, 32, 46, 32, 46]⟩, .int .i64 n] w fun e w' => e = .returned (.string ⟨(wordAt LS0h n).toArray⟩) ∧ Below w.heap.size w w' :=
  impl_word _ LS0h (by decide +kernel) (by decide) (fun j b h => (by decide : ∀ b ∈ ([46, 32, 46, 32, 46, 32, 46, 32, 46, 32, 76, 68, 89, 32, 46, 32, 46] : List UInt8), b.toNat < 128) b (List.mem_of_getElem? h)) n h0 h1 w he
def LS1 : List (List UInt8) := [[79, 82, 65], [65, 78, 68], [69, 79, 82], [65, 68, 67], [83, 84, 65], [76, 68, 65], [67, 77, 80], [83, 66, 67]]
theorem word_S1 (n : Int) (h0 : 0 ≤ n) (h1 : n < 8) (w : World) (he : Env w) : Calls Tryd.prog 81 #[.string ⟨#[79, 82, 65, 32, 65, 78, 68, 32, 69, 79, 82, 32, 65, 68, 67, 32, 83, 84, 65, 32, 76, 68, 65, 32, 67, 77, 80, 32, 83, 66, 67]⟩, .int .i64 n] w fun e w' => e = .returned (.string ⟨(wordAt LS1 n).toArray⟩) ∧ Below w.heap.size w w' :=
  impl_word _ LS1 (by decide +kernel) (by decide) (fun j b h => (by decide : ∀ b ∈ ([79, 82, 65, 32, 65, 78, 68, 32, 69, 79, 82, 32, 65, 68, 67, 32, 83, 84, 65, 32, 76, 68, 65, 32, 67, 77, 80, 32, 83, 66, 67] : List UInt8), b.toNat < 128) b (List.mem_of_getElem? h)) n h0 h1 w he
def LS2 : List (List UInt8) := [[65, 83, 76], [82, 79, 76], [76, 83, 82], [82, 79, 82], [83, 84, 88], [76, 68, 88], [68, 69, 67], [73, 78, 67]]
theorem word_S2 (n : Int) (h0 : 0 ≤ n) (h1 : n < 8) (w : World) (he : Env w) : Calls Tryd.prog 81 #[.string ⟨#[65, 83, 76, 32, 82, 79, 76, 32, 76, 83, 82, 32, 82, 79, 82, 32, 83, 84, 88, 32, 76, 68, 88, 32, 68, 69, 67, 32, 73, 78, 67]⟩, .int .i64 n] w fun e w' => e = .returned (.string ⟨(wordAt LS2 n).toArray⟩) ∧ Below w.heap.size w w' :=
  impl_word _ LS2 (by decide +kernel) (by decide) (fun j b h => (by decide : ∀ b ∈ ([65, 83, 76, 32, 82, 79, 76, 32, 76, 83, 82, 32, 82, 79, 82, 32, 83, 84, 88, 32, 76, 68, 88, 32, 68, 69, 67, 32, 73, 78, 67] : List UInt8), b.toNat < 128) b (List.mem_of_getElem? h)) n h0 h1 w he
def LS2a : List (List UInt8) := [[46], [46], [46], [46], [46], [76, 68, 88], [46], [46]]
theorem word_S2a (n : Int) (h0 : 0 ≤ n) (h1 : n < 8) (w : World) (he : Env w) : Calls Tryd.prog 81 #[.string ⟨#[46, 32, 46, 32, 46, 32, 46, 32, 46, 32, 76, 68, 88, 32, 46, 32, 46]⟩, .int .i64 n] w fun e w' => e = .returned (.string ⟨(wordAt LS2a n).toArray⟩) ∧ Below w.heap.size w w' :=
  impl_word _ LS2a (by decide +kernel) (by decide) (fun j b h => (by decide : ∀ b ∈ ([46, 32, 46, 32, 46, 32, 46, 32, 46, 32, 76, 68, 88, 32, 46, 32, 46] : List UInt8), b.toNat < 128) b (List.mem_of_getElem? h)) n h0 h1 w he
def LS2b : List (List UInt8) := [[46], [46], [46], [46], [84, 88, 65], [84, 65, 88], [68, 69, 88], [78, 79, 80]]
theorem word_S2b (n : Int) (h0 : 0 ≤ n) (h1 : n < 8) (w : World) (he : Env w) : Calls Tryd.prog 81 #[.string ⟨#[46, 32, 46, 32, 46, 32, 46, 32, 84, 88, 65, 32, 84, 65, 88, 32, 68, 69, 88, 32, 78, 79, 80]⟩, .int .i64 n] w fun e w' => e = .returned (.string ⟨(wordAt LS2b n).toArray⟩) ∧ Below w.heap.size w w' :=
  impl_word _ LS2b (by decide +kernel) (by decide) (fun j b h => (by decide : ∀ b ∈ ([46, 32, 46, 32, 46, 32, 46, 32, 84, 88, 65, 32, 84, 65, 88, 32, 68, 69, 88, 32, 78, 79, 80] : List UInt8), b.toNat < 128) b (List.mem_of_getElem? h)) n h0 h1 w he
def LS2c : List (List UInt8) := [[46], [46], [46], [46], [84, 88, 83], [84, 83, 88], [46], [46]]
theorem word_S2c (n : Int) (h0 : 0 ≤ n) (h1 : n < 8) (w : World) (he : Env w) : Calls Tryd.prog 81 #[.string ⟨#[46, 32, 46, 32, 46, 32, 46, 32, 84, 88, 83, 32, 84, 83, 88, 32, 46, 32, 46]⟩, .int .i64 n] w fun e w' => e = .returned (.string ⟨(wordAt LS2c n).toArray⟩) ∧ Below w.heap.size w w' :=
  impl_word _ LS2c (by decide +kernel) (by decide) (fun j b h => (by decide : ∀ b ∈ ([46, 32, 46, 32, 46, 32, 46, 32, 84, 88, 83, 32, 84, 83, 88, 32, 46, 32, 46] : List UInt8), b.toNat < 128) b (List.mem_of_getElem? h)) n h0 h1 w he
set_option maxHeartbeats 1000000 in
theorem impl_sideZero_0 (row : Int) (w : World) (g0 : 0 ≤ row) (g1 : row < 8) (he : Env w) : Calls Tryd.prog 80 #[.int .i64 row, .int .i64 0] w fun e w' => e = .returned (.tuple #[.string ⟨(zI row 0).1.toArray⟩, .int .i64 (zI row 0).2]) ∧ Below w.heap.size w w' := by
  by_cases q0 : row = 1
  · subst q0
    rw [show zI 1 0 = (wordAt LS0a 1, 6) from rfl]
    have HB := hR w; go_enter Tryd.func80, Tryd.ntmps80
    go_wp2_with (first | (go_at_call 81; ((with_reducible refine Calls.mono (word_S0a _ (by omega) (by omega) _ he) ?_); rintro _ w1 ⟨rfl, hb⟩; have HB := Aside0.mk (below_step (w := w) blw hb); have hz1 := hb.size; obtain ⟨hcl1, hfr1, hlt1, _⟩ := bcell hb; (try simp only [sA, sC, sD] at hz1); (try simp only [sA, sC, sD] at hcl1 hfr1 hlt1); have HB1 := hR w1; clear hb)))
    go_ret2
    exact ⟨rfl, blw⟩
  by_cases q1 : row < 4
  · have e : zI row 0 = (wordAt LS0a row, 0) := by
        have hr : row = 0 ∨ row = 1 ∨ row = 2 ∨ row = 3 ∨ row = 4 ∨ row = 5 ∨ row = 6 ∨ row = 7 := by omega
        rcases hr with rfl | rfl | rfl | rfl | rfl | rfl | rfl | rfl <;> first | rfl | (exfalso; omega)
    rw [e]
    clear e
    have q0b : (row == 1) = false := by simpa using q0
    have HB := hR w; go_enter Tryd.func80, Tryd.ntmps80
    go_wp2_with (first | (go_at_call 81; ((with_reducible refine Calls.mono (word_S0a _ (by omega) (by omega) _ he) ?_); rintro _ w1 ⟨rfl, hb⟩; have HB := Aside0.mk (below_step (w := w) blw hb); have hz1 := hb.size; obtain ⟨hcl1, hfr1, hlt1, _⟩ := bcell hb; (try simp only [sA, sC, sD] at hz1); (try simp only [sA, sC, sD] at hcl1 hfr1 hlt1); have HB1 := hR w1; clear hb)))
    go_ret2
    exact ⟨rfl, blw⟩
  have e : zI row 0 = (wordAt LS0a row, 2) := by
      have hr : row = 0 ∨ row = 1 ∨ row = 2 ∨ row = 3 ∨ row = 4 ∨ row = 5 ∨ row = 6 ∨ row = 7 := by omega
      rcases hr with rfl | rfl | rfl | rfl | rfl | rfl | rfl | rfl <;> first | rfl | (exfalso; omega)
  rw [e]
  clear e
  have q0b : (row == 1) = false := by simpa using q0
  have HB := hR w; go_enter Tryd.func80, Tryd.ntmps80
  go_wp2_with (first | (go_at_call 81; ((with_reducible refine Calls.mono (word_S0a _ (by omega) (by omega) _ he) ?_); rintro _ w1 ⟨rfl, hb⟩; have HB := Aside0.mk (below_step (w := w) blw hb); have hz1 := hb.size; obtain ⟨hcl1, hfr1, hlt1, _⟩ := bcell hb; (try simp only [sA, sC, sD] at hz1); (try simp only [sA, sC, sD] at hcl1 hfr1 hlt1); have HB1 := hR w1; clear hb)))
  go_ret2
  exact ⟨rfl, blw⟩
set_option maxHeartbeats 1000000 in
theorem impl_sideZero_1 (row : Int) (w : World) (g0 : 0 ≤ row) (g1 : row < 8) (he : Env w) : Calls Tryd.prog 80 #[.int .i64 row, .int .i64 1] w fun e w' => e = .returned (.tuple #[.string ⟨(zI row 1).1.toArray⟩, .int .i64 (zI row 1).2]) ∧ Below w.heap.size w w' := by
  have e : zI row 1 = (wordAt LS0b row, 3) := by
      have hr : row = 0 ∨ row = 1 ∨ row = 2 ∨ row = 3 ∨ row = 4 ∨ row = 5 ∨ row = 6 ∨ row = 7 := by omega
      rcases hr with rfl | rfl | rfl | rfl | rfl | rfl | rfl | rfl <;> first | rfl | (exfalso; omega)
  rw [e]
  clear e
  have HB := hR w; go_enter Tryd.func80, Tryd.ntmps80
  go_wp2_with (first | (go_at_call 81; ((with_reducible refine Calls.mono (word_S0b _ (by omega) (by omega) _ he) ?_); rintro _ w1 ⟨rfl, hb⟩; have HB := Aside0.mk (below_step (w := w) blw hb); have hz1 := hb.size; obtain ⟨hcl1, hfr1, hlt1, _⟩ := bcell hb; (try simp only [sA, sC, sD] at hz1); (try simp only [sA, sC, sD] at hcl1 hfr1 hlt1); have HB1 := hR w1; clear hb)))
  go_ret2
  exact ⟨rfl, blw⟩
set_option maxHeartbeats 1000000 in
theorem impl_sideZero_2 (row : Int) (w : World) (g0 : 0 ≤ row) (g1 : row < 8) (he : Env w) : Calls Tryd.prog 80 #[.int .i64 row, .int .i64 2] w fun e w' => e = .returned (.tuple #[.string ⟨(zI row 2).1.toArray⟩, .int .i64 (zI row 2).2]) ∧ Below w.heap.size w w' := by
  have e : zI row 2 = (wordAt LS0c row, 0) := by
      have hr : row = 0 ∨ row = 1 ∨ row = 2 ∨ row = 3 ∨ row = 4 ∨ row = 5 ∨ row = 6 ∨ row = 7 := by omega
      rcases hr with rfl | rfl | rfl | rfl | rfl | rfl | rfl | rfl <;> first | rfl | (exfalso; omega)
  rw [e]
  clear e
  have HB := hR w; go_enter Tryd.func80, Tryd.ntmps80
  go_wp2_with (first | (go_at_call 81; ((with_reducible refine Calls.mono (word_S0c _ (by omega) (by omega) _ he) ?_); rintro _ w1 ⟨rfl, hb⟩; have HB := Aside0.mk (below_step (w := w) blw hb); have hz1 := hb.size; obtain ⟨hcl1, hfr1, hlt1, _⟩ := bcell hb; (try simp only [sA, sC, sD] at hz1); (try simp only [sA, sC, sD] at hcl1 hfr1 hlt1); have HB1 := hR w1; clear hb)))
  go_ret2
  exact ⟨rfl, blw⟩
set_option maxHeartbeats 1000000 in
theorem impl_sideZero_3 (row : Int) (w : World) (g0 : 0 ≤ row) (g1 : row < 8) (he : Env w) : Calls Tryd.prog 80 #[.int .i64 row, .int .i64 3] w fun e w' => e = .returned (.tuple #[.string ⟨(zI row 3).1.toArray⟩, .int .i64 (zI row 3).2]) ∧ Below w.heap.size w w' := by
  by_cases q0 : row = 3
  · subst q0
    rw [show zI 3 3 = ([74, 77, 80], 9) from rfl]
    have HB := hR w; go_enter Tryd.func80, Tryd.ntmps80
    go_wp2
    go_ret2
    exact ⟨rfl, blw⟩
  have e : zI row 3 = (wordAt LS0d row, 6) := by
      have hr : row = 0 ∨ row = 1 ∨ row = 2 ∨ row = 3 ∨ row = 4 ∨ row = 5 ∨ row = 6 ∨ row = 7 := by omega
      rcases hr with rfl | rfl | rfl | rfl | rfl | rfl | rfl | rfl <;> first | rfl | (exfalso; omega)
  rw [e]
  clear e
  have q0b : (row == 3) = false := by simpa using q0
  have HB := hR w; go_enter Tryd.func80, Tryd.ntmps80
  go_wp2_with (first | (go_at_call 81; ((with_reducible refine Calls.mono (word_S0d _ (by omega) (by omega) _ he) ?_); rintro _ w1 ⟨rfl, hb⟩; have HB := Aside0.mk (below_step (w := w) blw hb); have hz1 := hb.size; obtain ⟨hcl1, hfr1, hlt1, _⟩ := bcell hb; (try simp only [sA, sC, sD] at hz1); (try simp only [sA, sC, sD] at hcl1 hfr1 hlt1); have HB1 := hR w1; clear hb)))
  go_ret2
  exact ⟨rfl, blw⟩
set_option maxHeartbeats 1000000 in
theorem impl_sideZero_4 (row : Int) (w : World) (g0 : 0 ≤ row) (g1 : row < 8) (he : Env w) : Calls Tryd.prog 80 #[.int .i64 row, .int .i64 4] w fun e w' => e = .returned (.tuple #[.string ⟨(zI row 4).1.toArray⟩, .int .i64 (zI row 4).2]) ∧ Below w.heap.size w w' := by
  have e : zI row 4 = (wordAt LS0e row, 12) := by
      have hr : row = 0 ∨ row = 1 ∨ row = 2 ∨ row = 3 ∨ row = 4 ∨ row = 5 ∨ row = 6 ∨ row = 7 := by omega
      rcases hr with rfl | rfl | rfl | rfl | rfl | rfl | rfl | rfl <;> first | rfl | (exfalso; omega)
  rw [e]
  clear e
  have HB := hR w; go_enter Tryd.func80, Tryd.ntmps80
  go_wp2_with (first | (go_at_call 81; ((with_reducible refine Calls.mono (word_S0e _ (by omega) (by omega) _ he) ?_); rintro _ w1 ⟨rfl, hb⟩; have HB := Aside0.mk (below_step (w := w) blw hb); have hz1 := hb.size; obtain ⟨hcl1, hfr1, hlt1, _⟩ := bcell hb; (try simp only [sA, sC, sD] at hz1); (try simp only [sA, sC, sD] at hcl1 hfr1 hlt1); have HB1 := hR w1; clear hb)))
  go_ret2
  exact ⟨rfl, blw⟩
set_option maxHeartbeats 1000000 in
theorem impl_sideZero_5 (row : Int) (w : World) (g0 : 0 ≤ row) (g1 : row < 8) (he : Env w) : Calls Tryd.prog 80 #[.int .i64 row, .int .i64 5] w fun e w' => e = .returned (.tuple #[.string ⟨(zI row 5).1.toArray⟩, .int .i64 (zI row 5).2]) ∧ Below w.heap.size w w' := by
  have e : zI row 5 = (wordAt LS0f row, 4) := by
      have hr : row = 0 ∨ row = 1 ∨ row = 2 ∨ row = 3 ∨ row = 4 ∨ row = 5 ∨ row = 6 ∨ row = 7 := by omega
      rcases hr with rfl | rfl | rfl | rfl | rfl | rfl | rfl | rfl <;> first | rfl | (exfalso; omega)
  rw [e]
  clear e
  have HB := hR w; go_enter Tryd.func80, Tryd.ntmps80
  go_wp2_with (first | (go_at_call 81; ((with_reducible refine Calls.mono (word_S0f _ (by omega) (by omega) _ he) ?_); rintro _ w1 ⟨rfl, hb⟩; have HB := Aside0.mk (below_step (w := w) blw hb); have hz1 := hb.size; obtain ⟨hcl1, hfr1, hlt1, _⟩ := bcell hb; (try simp only [sA, sC, sD] at hz1); (try simp only [sA, sC, sD] at hcl1 hfr1 hlt1); have HB1 := hR w1; clear hb)))
  go_ret2
  exact ⟨rfl, blw⟩
set_option maxHeartbeats 1000000 in
theorem impl_sideZero_6 (row : Int) (w : World) (g0 : 0 ≤ row) (g1 : row < 8) (he : Env w) : Calls Tryd.prog 80 #[.int .i64 row, .int .i64 6] w fun e w' => e = .returned (.tuple #[.string ⟨(zI row 6).1.toArray⟩, .int .i64 (zI row 6).2]) ∧ Below w.heap.size w w' := by
  have e : zI row 6 = (wordAt LS0g row, 0) := by
      have hr : row = 0 ∨ row = 1 ∨ row = 2 ∨ row = 3 ∨ row = 4 ∨ row = 5 ∨ row = 6 ∨ row = 7 := by omega
      rcases hr with rfl | rfl | rfl | rfl | rfl | rfl | rfl | rfl <;> first | rfl | (exfalso; omega)
  rw [e]
  clear e
  have HB := hR w; go_enter Tryd.func80, Tryd.ntmps80
  go_wp2_with (first | (go_at_call 81; ((with_reducible refine Calls.mono (word_S0g _ (by omega) (by omega) _ he) ?_); rintro _ w1 ⟨rfl, hb⟩; have HB := Aside0.mk (below_step (w := w) blw hb); have hz1 := hb.size; obtain ⟨hcl1, hfr1, hlt1, _⟩ := bcell hb; (try simp only [sA, sC, sD] at hz1); (try simp only [sA, sC, sD] at hcl1 hfr1 hlt1); have HB1 := hR w1; clear hb)))
  go_ret2
  exact ⟨rfl, blw⟩
set_option maxHeartbeats 1000000 in
theorem impl_sideZero_7 (row : Int) (w : World) (g0 : 0 ≤ row) (g1 : row < 8) (he : Env w) : Calls Tryd.prog 80 #[.int .i64 row, .int .i64 7] w fun e w' => e = .returned (.tuple #[.string ⟨(zI row 7).1.toArray⟩, .int .i64 (zI row 7).2]) ∧ Below w.heap.size w w' := by
  have e : zI row 7 = (wordAt LS0h row, 7) := by
      have hr : row = 0 ∨ row = 1 ∨ row = 2 ∨ row = 3 ∨ row = 4 ∨ row = 5 ∨ row = 6 ∨ row = 7 := by omega
      rcases hr with rfl | rfl | rfl | rfl | rfl | rfl | rfl | rfl <;> first | rfl | (exfalso; omega)
  rw [e]
  clear e
  have HB := hR w; go_enter Tryd.func80, Tryd.ntmps80
  go_wp2_with (first | (go_at_call 81; ((with_reducible refine Calls.mono (word_S0h _ (by omega) (by omega) _ he) ?_); rintro _ w1 ⟨rfl, hb⟩; have HB := Aside0.mk (below_step (w := w) blw hb); have hz1 := hb.size; obtain ⟨hcl1, hfr1, hlt1, _⟩ := bcell hb; (try simp only [sA, sC, sD] at hz1); (try simp only [sA, sC, sD] at hcl1 hfr1 hlt1); have HB1 := hR w1; clear hb)))
  go_ret2
  exact ⟨rfl, blw⟩
set_option maxHeartbeats 1000000 in
theorem impl_sideTwo_0 (row : Int) (w : World) (g0 : 0 ≤ row) (g1 : row < 8) (he : Env w) : Calls Tryd.prog 82 #[.int .i64 row, .int .i64 0] w fun e w' => e = .returned (.tuple #[.string ⟨(tI row 0).1.toArray⟩, .int .i64 (tI row 0).2]) ∧ Below w.heap.size w w' := by
  by_cases q0 : row = 4
  · subst q0
    rw [show tI 4 0 = (wordAt LS2a 4, 2) from rfl]
    have hw := fun W h => word_S2 4 (by omega) (by omega) W h
    rw [show wordAt LS2 4 = [83, 84, 88] from rfl] at hw
    have HB := hR w; go_enter Tryd.func82, Tryd.ntmps82
    go_wp2_with fail
    refine (hw _ he).mono ?_
    rintro _ w1 ⟨rfl, hb⟩
    (have HB := Aside0.mk (below_step (w := w) blw hb); have hz1 := hb.size; obtain ⟨hcl1, hfr1, hlt1, _⟩ := bcell hb; (try simp only [sA, sC, sD] at hz1); (try simp only [sA, sC, sD] at hcl1 hfr1 hlt1); have HB1 := hR w1; clear hb)
    go_wp2_with (first | (go_at_call 81; ((with_reducible refine Calls.mono (word_S2a _ (by omega) (by omega) _ (he.below HB.out)) ?_); rintro _ w2 ⟨rfl, hb⟩; have HB := Aside0.mk (below_step (w := w) blw hb); have HB1 := Aside0.mk (below_step (w := w1) blw hb); have hz2 := hb.size; obtain ⟨hcl2, hfr2, hlt2, _⟩ := bcell hb; (try simp only [sA, sC, sD] at hz2); (try simp only [sA, sC, sD] at hcl2 hfr2 hlt2); have HB2 := hR w2; clear hb)))
    go_ret2
    exact ⟨rfl, blw⟩
  by_cases q1 : row = 5
  · subst q1
    rw [show tI 5 0 = (wordAt LS2a 5, 2) from rfl]
    have hw := fun W h => word_S2 5 (by omega) (by omega) W h
    rw [show wordAt LS2 5 = [76, 68, 88] from rfl] at hw
    have HB := hR w; go_enter Tryd.func82, Tryd.ntmps82
    go_wp2_with fail
    refine (hw _ he).mono ?_
    rintro _ w1 ⟨rfl, hb⟩
    (have HB := Aside0.mk (below_step (w := w) blw hb); have hz1 := hb.size; obtain ⟨hcl1, hfr1, hlt1, _⟩ := bcell hb; (try simp only [sA, sC, sD] at hz1); (try simp only [sA, sC, sD] at hcl1 hfr1 hlt1); have HB1 := hR w1; clear hb)
    go_wp2_with (first | (go_at_call 81; ((with_reducible refine Calls.mono (word_S2a _ (by omega) (by omega) _ (he.below HB.out)) ?_); rintro _ w2 ⟨rfl, hb⟩; have HB := Aside0.mk (below_step (w := w) blw hb); have HB1 := Aside0.mk (below_step (w := w1) blw hb); have hz2 := hb.size; obtain ⟨hcl2, hfr2, hlt2, _⟩ := bcell hb; (try simp only [sA, sC, sD] at hz2); (try simp only [sA, sC, sD] at hcl2 hfr2 hlt2); have HB2 := hR w2; clear hb)))
    go_ret2
    exact ⟨rfl, blw⟩
  obtain ⟨x, hx, x1, x2⟩ : ∃ x, wordAt LS2 row = x ∧ (x == [83, 84, 88]) = false ∧ (x == [76, 68, 88]) = false := by
    have hr : row = 0 ∨ row = 1 ∨ row = 2 ∨ row = 3 ∨ row = 4 ∨ row = 5 ∨ row = 6 ∨ row = 7 := by omega
    rcases hr with rfl | rfl | rfl | rfl | rfl | rfl | rfl | rfl <;> first | exact ⟨_, rfl, by decide, by decide⟩ | (exfalso; omega)
  have e : tI row 0 = (wordAt LS2a row, 2) := by
      have hr : row = 0 ∨ row = 1 ∨ row = 2 ∨ row = 3 ∨ row = 4 ∨ row = 5 ∨ row = 6 ∨ row = 7 := by omega
      rcases hr with rfl | rfl | rfl | rfl | rfl | rfl | rfl | rfl <;> first | rfl | (exfalso; omega)
  rw [e]
  clear e
  have hw := fun W h => word_S2 row (by omega) (by omega) W h
  rw [hx] at hw
  try rw [hx]
  clear hx
  have HB := hR w; go_enter Tryd.func82, Tryd.ntmps82
  go_wp2_with fail
  refine (hw _ he).mono ?_
  rintro _ w1 ⟨rfl, hb⟩
  (have HB := Aside0.mk (below_step (w := w) blw hb); have hz1 := hb.size; obtain ⟨hcl1, hfr1, hlt1, _⟩ := bcell hb; (try simp only [sA, sC, sD] at hz1); (try simp only [sA, sC, sD] at hcl1 hfr1 hlt1); have HB1 := hR w1; clear hb)
  go_wp2_with (first | (go_at_call 81; ((with_reducible refine Calls.mono (word_S2a _ (by omega) (by omega) _ (he.below HB.out)) ?_); rintro _ w2 ⟨rfl, hb⟩; have HB := Aside0.mk (below_step (w := w) blw hb); have HB1 := Aside0.mk (below_step (w := w1) blw hb); have hz2 := hb.size; obtain ⟨hcl2, hfr2, hlt2, _⟩ := bcell hb; (try simp only [sA, sC, sD] at hz2); (try simp only [sA, sC, sD] at hcl2 hfr2 hlt2); have HB2 := hR w2; clear hb)))
  go_ret2
  exact ⟨rfl, blw⟩
set_option maxHeartbeats 1000000 in
theorem impl_sideTwo_1 (row : Int) (w : World) (g0 : 0 ≤ row) (g1 : row < 8) (he : Env w) : Calls Tryd.prog 82 #[.int .i64 row, .int .i64 1] w fun e w' => e = .returned (.tuple #[.string ⟨(tI row 1).1.toArray⟩, .int .i64 (tI row 1).2]) ∧ Below w.heap.size w w' := by
  by_cases q0 : row = 4
  · subst q0
    rw [show tI 4 1 = ([83, 84, 88], 3) from rfl]
    have hw := fun W h => word_S2 4 (by omega) (by omega) W h
    rw [show wordAt LS2 4 = [83, 84, 88] from rfl] at hw
    have HB := hR w; go_enter Tryd.func82, Tryd.ntmps82
    go_wp2_with fail
    refine (hw _ he).mono ?_
    rintro _ w1 ⟨rfl, hb⟩
    (have HB := Aside0.mk (below_step (w := w) blw hb); have hz1 := hb.size; obtain ⟨hcl1, hfr1, hlt1, _⟩ := bcell hb; (try simp only [sA, sC, sD] at hz1); (try simp only [sA, sC, sD] at hcl1 hfr1 hlt1); have HB1 := hR w1; clear hb)
    go_wp2_with fail
    go_ret2
    exact ⟨rfl, blw⟩
  by_cases q1 : row = 5
  · subst q1
    rw [show tI 5 1 = ([76, 68, 88], 3) from rfl]
    have hw := fun W h => word_S2 5 (by omega) (by omega) W h
    rw [show wordAt LS2 5 = [76, 68, 88] from rfl] at hw
    have HB := hR w; go_enter Tryd.func82, Tryd.ntmps82
    go_wp2_with fail
    refine (hw _ he).mono ?_
    rintro _ w1 ⟨rfl, hb⟩
    (have HB := Aside0.mk (below_step (w := w) blw hb); have hz1 := hb.size; obtain ⟨hcl1, hfr1, hlt1, _⟩ := bcell hb; (try simp only [sA, sC, sD] at hz1); (try simp only [sA, sC, sD] at hcl1 hfr1 hlt1); have HB1 := hR w1; clear hb)
    go_wp2_with fail
    go_ret2
    exact ⟨rfl, blw⟩
  obtain ⟨x, hx, x1, x2⟩ : ∃ x, wordAt LS2 row = x ∧ (x == [83, 84, 88]) = false ∧ (x == [76, 68, 88]) = false := by
    have hr : row = 0 ∨ row = 1 ∨ row = 2 ∨ row = 3 ∨ row = 4 ∨ row = 5 ∨ row = 6 ∨ row = 7 := by omega
    rcases hr with rfl | rfl | rfl | rfl | rfl | rfl | rfl | rfl <;> first | exact ⟨_, rfl, by decide, by decide⟩ | (exfalso; omega)
  have e : tI row 1 = (wordAt LS2 row, 3) := by
      have hr : row = 0 ∨ row = 1 ∨ row = 2 ∨ row = 3 ∨ row = 4 ∨ row = 5 ∨ row = 6 ∨ row = 7 := by omega
      rcases hr with rfl | rfl | rfl | rfl | rfl | rfl | rfl | rfl <;> first | rfl | (exfalso; omega)
  rw [e]
  clear e
  have hw := fun W h => word_S2 row (by omega) (by omega) W h
  rw [hx] at hw
  try rw [hx]
  clear hx
  have HB := hR w; go_enter Tryd.func82, Tryd.ntmps82
  go_wp2_with fail
  refine (hw _ he).mono ?_
  rintro _ w1 ⟨rfl, hb⟩
  (have HB := Aside0.mk (below_step (w := w) blw hb); have hz1 := hb.size; obtain ⟨hcl1, hfr1, hlt1, _⟩ := bcell hb; (try simp only [sA, sC, sD] at hz1); (try simp only [sA, sC, sD] at hcl1 hfr1 hlt1); have HB1 := hR w1; clear hb)
  go_wp2_with fail
  go_ret2
  exact ⟨rfl, blw⟩
set_option maxHeartbeats 1000000 in
theorem impl_sideTwo_2 (row : Int) (w : World) (g0 : 0 ≤ row) (g1 : row < 8) (he : Env w) : Calls Tryd.prog 82 #[.int .i64 row, .int .i64 2] w fun e w' => e = .returned (.tuple #[.string ⟨(tI row 2).1.toArray⟩, .int .i64 (tI row 2).2]) ∧ Below w.heap.size w w' := by
  by_cases q0 : row = 4
  · subst q0
    rw [show tI 4 2 = (wordAt LS2b 4, 0) from rfl]
    have hw := fun W h => word_S2 4 (by omega) (by omega) W h
    rw [show wordAt LS2 4 = [83, 84, 88] from rfl] at hw
    have HB := hR w; go_enter Tryd.func82, Tryd.ntmps82
    go_wp2_with fail
    refine (hw _ he).mono ?_
    rintro _ w1 ⟨rfl, hb⟩
    (have HB := Aside0.mk (below_step (w := w) blw hb); have hz1 := hb.size; obtain ⟨hcl1, hfr1, hlt1, _⟩ := bcell hb; (try simp only [sA, sC, sD] at hz1); (try simp only [sA, sC, sD] at hcl1 hfr1 hlt1); have HB1 := hR w1; clear hb)
    go_wp2_with (first | (go_at_call 81; ((with_reducible refine Calls.mono (word_S2b _ (by omega) (by omega) _ (he.below HB.out)) ?_); rintro _ w2 ⟨rfl, hb⟩; have HB := Aside0.mk (below_step (w := w) blw hb); have HB1 := Aside0.mk (below_step (w := w1) blw hb); have hz2 := hb.size; obtain ⟨hcl2, hfr2, hlt2, _⟩ := bcell hb; (try simp only [sA, sC, sD] at hz2); (try simp only [sA, sC, sD] at hcl2 hfr2 hlt2); have HB2 := hR w2; clear hb)))
    go_ret2
    exact ⟨rfl, blw⟩
  by_cases q1 : row = 5
  · subst q1
    rw [show tI 5 2 = (wordAt LS2b 5, 0) from rfl]
    have hw := fun W h => word_S2 5 (by omega) (by omega) W h
    rw [show wordAt LS2 5 = [76, 68, 88] from rfl] at hw
    have HB := hR w; go_enter Tryd.func82, Tryd.ntmps82
    go_wp2_with fail
    refine (hw _ he).mono ?_
    rintro _ w1 ⟨rfl, hb⟩
    (have HB := Aside0.mk (below_step (w := w) blw hb); have hz1 := hb.size; obtain ⟨hcl1, hfr1, hlt1, _⟩ := bcell hb; (try simp only [sA, sC, sD] at hz1); (try simp only [sA, sC, sD] at hcl1 hfr1 hlt1); have HB1 := hR w1; clear hb)
    go_wp2_with (first | (go_at_call 81; ((with_reducible refine Calls.mono (word_S2b _ (by omega) (by omega) _ (he.below HB.out)) ?_); rintro _ w2 ⟨rfl, hb⟩; have HB := Aside0.mk (below_step (w := w) blw hb); have HB1 := Aside0.mk (below_step (w := w1) blw hb); have hz2 := hb.size; obtain ⟨hcl2, hfr2, hlt2, _⟩ := bcell hb; (try simp only [sA, sC, sD] at hz2); (try simp only [sA, sC, sD] at hcl2 hfr2 hlt2); have HB2 := hR w2; clear hb)))
    go_ret2
    exact ⟨rfl, blw⟩
  by_cases q2 : row < 4
  · obtain ⟨x, hx, x1, x2⟩ : ∃ x, wordAt LS2 row = x ∧ (x == [83, 84, 88]) = false ∧ (x == [76, 68, 88]) = false := by
      have hr : row = 0 ∨ row = 1 ∨ row = 2 ∨ row = 3 ∨ row = 4 ∨ row = 5 ∨ row = 6 ∨ row = 7 := by omega
      rcases hr with rfl | rfl | rfl | rfl | rfl | rfl | rfl | rfl <;> first | exact ⟨_, rfl, by decide, by decide⟩ | (exfalso; omega)
    have e : tI row 2 = (wordAt LS2 row, 1) := by
        have hr : row = 0 ∨ row = 1 ∨ row = 2 ∨ row = 3 ∨ row = 4 ∨ row = 5 ∨ row = 6 ∨ row = 7 := by omega
        rcases hr with rfl | rfl | rfl | rfl | rfl | rfl | rfl | rfl <;> first | rfl | (exfalso; omega)
    rw [e]
    clear e
    have hw := fun W h => word_S2 row (by omega) (by omega) W h
    rw [hx] at hw
    try rw [hx]
    clear hx
    have HB := hR w; go_enter Tryd.func82, Tryd.ntmps82
    go_wp2_with fail
    refine (hw _ he).mono ?_
    rintro _ w1 ⟨rfl, hb⟩
    (have HB := Aside0.mk (below_step (w := w) blw hb); have hz1 := hb.size; obtain ⟨hcl1, hfr1, hlt1, _⟩ := bcell hb; (try simp only [sA, sC, sD] at hz1); (try simp only [sA, sC, sD] at hcl1 hfr1 hlt1); have HB1 := hR w1; clear hb)
    go_wp2_with fail
    go_ret2
    exact ⟨rfl, blw⟩
  obtain ⟨x, hx, x1, x2⟩ : ∃ x, wordAt LS2 row = x ∧ (x == [83, 84, 88]) = false ∧ (x == [76, 68, 88]) = false := by
    have hr : row = 0 ∨ row = 1 ∨ row = 2 ∨ row = 3 ∨ row = 4 ∨ row = 5 ∨ row = 6 ∨ row = 7 := by omega
    rcases hr with rfl | rfl | rfl | rfl | rfl | rfl | rfl | rfl <;> first | exact ⟨_, rfl, by decide, by decide⟩ | (exfalso; omega)
  have e : tI row 2 = (wordAt LS2b row, 0) := by
      have hr : row = 0 ∨ row = 1 ∨ row = 2 ∨ row = 3 ∨ row = 4 ∨ row = 5 ∨ row = 6 ∨ row = 7 := by omega
      rcases hr with rfl | rfl | rfl | rfl | rfl | rfl | rfl | rfl <;> first | rfl | (exfalso; omega)
  rw [e]
  clear e
  have hw := fun W h => word_S2 row (by omega) (by omega) W h
  rw [hx] at hw
  try rw [hx]
  clear hx
  have HB := hR w; go_enter Tryd.func82, Tryd.ntmps82
  go_wp2_with fail
  refine (hw _ he).mono ?_
  rintro _ w1 ⟨rfl, hb⟩
  (have HB := Aside0.mk (below_step (w := w) blw hb); have hz1 := hb.size; obtain ⟨hcl1, hfr1, hlt1, _⟩ := bcell hb; (try simp only [sA, sC, sD] at hz1); (try simp only [sA, sC, sD] at hcl1 hfr1 hlt1); have HB1 := hR w1; clear hb)
  go_wp2_with (first | (go_at_call 81; ((with_reducible refine Calls.mono (word_S2b _ (by omega) (by omega) _ (he.below HB.out)) ?_); rintro _ w2 ⟨rfl, hb⟩; have HB := Aside0.mk (below_step (w := w) blw hb); have HB1 := Aside0.mk (below_step (w := w1) blw hb); have hz2 := hb.size; obtain ⟨hcl2, hfr2, hlt2, _⟩ := bcell hb; (try simp only [sA, sC, sD] at hz2); (try simp only [sA, sC, sD] at hcl2 hfr2 hlt2); have HB2 := hR w2; clear hb)))
  go_ret2
  exact ⟨rfl, blw⟩
set_option maxHeartbeats 1000000 in
theorem impl_sideTwo_3 (row : Int) (w : World) (g0 : 0 ≤ row) (g1 : row < 8) (he : Env w) : Calls Tryd.prog 82 #[.int .i64 row, .int .i64 3] w fun e w' => e = .returned (.tuple #[.string ⟨(tI row 3).1.toArray⟩, .int .i64 (tI row 3).2]) ∧ Below w.heap.size w w' := by
  by_cases q0 : row = 4
  · subst q0
    rw [show tI 4 3 = ([83, 84, 88], 6) from rfl]
    have hw := fun W h => word_S2 4 (by omega) (by omega) W h
    rw [show wordAt LS2 4 = [83, 84, 88] from rfl] at hw
    have HB := hR w; go_enter Tryd.func82, Tryd.ntmps82
    go_wp2_with fail
    refine (hw _ he).mono ?_
    rintro _ w1 ⟨rfl, hb⟩
    (have HB := Aside0.mk (below_step (w := w) blw hb); have hz1 := hb.size; obtain ⟨hcl1, hfr1, hlt1, _⟩ := bcell hb; (try simp only [sA, sC, sD] at hz1); (try simp only [sA, sC, sD] at hcl1 hfr1 hlt1); have HB1 := hR w1; clear hb)
    go_wp2_with fail
    go_ret2
    exact ⟨rfl, blw⟩
  by_cases q1 : row = 5
  · subst q1
    rw [show tI 5 3 = ([76, 68, 88], 6) from rfl]
    have hw := fun W h => word_S2 5 (by omega) (by omega) W h
    rw [show wordAt LS2 5 = [76, 68, 88] from rfl] at hw
    have HB := hR w; go_enter Tryd.func82, Tryd.ntmps82
    go_wp2_with fail
    refine (hw _ he).mono ?_
    rintro _ w1 ⟨rfl, hb⟩
    (have HB := Aside0.mk (below_step (w := w) blw hb); have hz1 := hb.size; obtain ⟨hcl1, hfr1, hlt1, _⟩ := bcell hb; (try simp only [sA, sC, sD] at hz1); (try simp only [sA, sC, sD] at hcl1 hfr1 hlt1); have HB1 := hR w1; clear hb)
    go_wp2_with fail
    go_ret2
    exact ⟨rfl, blw⟩
  obtain ⟨x, hx, x1, x2⟩ : ∃ x, wordAt LS2 row = x ∧ (x == [83, 84, 88]) = false ∧ (x == [76, 68, 88]) = false := by
    have hr : row = 0 ∨ row = 1 ∨ row = 2 ∨ row = 3 ∨ row = 4 ∨ row = 5 ∨ row = 6 ∨ row = 7 := by omega
    rcases hr with rfl | rfl | rfl | rfl | rfl | rfl | rfl | rfl <;> first | exact ⟨_, rfl, by decide, by decide⟩ | (exfalso; omega)
  have e : tI row 3 = (wordAt LS2 row, 6) := by
      have hr : row = 0 ∨ row = 1 ∨ row = 2 ∨ row = 3 ∨ row = 4 ∨ row = 5 ∨ row = 6 ∨ row = 7 := by omega
      rcases hr with rfl | rfl | rfl | rfl | rfl | rfl | rfl | rfl <;> first | rfl | (exfalso; omega)
  rw [e]
  clear e
  have hw := fun W h => word_S2 row (by omega) (by omega) W h
  rw [hx] at hw
  try rw [hx]
  clear hx
  have HB := hR w; go_enter Tryd.func82, Tryd.ntmps82
  go_wp2_with fail
  refine (hw _ he).mono ?_
  rintro _ w1 ⟨rfl, hb⟩
  (have HB := Aside0.mk (below_step (w := w) blw hb); have hz1 := hb.size; obtain ⟨hcl1, hfr1, hlt1, _⟩ := bcell hb; (try simp only [sA, sC, sD] at hz1); (try simp only [sA, sC, sD] at hcl1 hfr1 hlt1); have HB1 := hR w1; clear hb)
  go_wp2_with fail
  go_ret2
  exact ⟨rfl, blw⟩
set_option maxHeartbeats 1000000 in
theorem impl_sideTwo_4 (row : Int) (w : World) (g0 : 0 ≤ row) (g1 : row < 8) (he : Env w) : Calls Tryd.prog 82 #[.int .i64 row, .int .i64 4] w fun e w' => e = .returned (.tuple #[.string ⟨(tI row 4).1.toArray⟩, .int .i64 (tI row 4).2]) ∧ Below w.heap.size w w' := by
  by_cases q0 : row = 4
  · subst q0
    rw [show tI 4 4 = ([], -1) from rfl]
    have hw := fun W h => word_S2 4 (by omega) (by omega) W h
    rw [show wordAt LS2 4 = [83, 84, 88] from rfl] at hw
    have HB := hR w; go_enter Tryd.func82, Tryd.ntmps82
    go_wp2_with fail
    refine (hw _ he).mono ?_
    rintro _ w1 ⟨rfl, hb⟩
    (have HB := Aside0.mk (below_step (w := w) blw hb); have hz1 := hb.size; obtain ⟨hcl1, hfr1, hlt1, _⟩ := bcell hb; (try simp only [sA, sC, sD] at hz1); (try simp only [sA, sC, sD] at hcl1 hfr1 hlt1); have HB1 := hR w1; clear hb)
    go_wp2_with fail
    go_ret2
    exact ⟨rfl, blw⟩
  by_cases q1 : row = 5
  · subst q1
    rw [show tI 5 4 = ([], -1) from rfl]
    have hw := fun W h => word_S2 5 (by omega) (by omega) W h
    rw [show wordAt LS2 5 = [76, 68, 88] from rfl] at hw
    have HB := hR w; go_enter Tryd.func82, Tryd.ntmps82
    go_wp2_with fail
    refine (hw _ he).mono ?_
    rintro _ w1 ⟨rfl, hb⟩
    (have HB := Aside0.mk (below_step (w := w) blw hb); have hz1 := hb.size; obtain ⟨hcl1, hfr1, hlt1, _⟩ := bcell hb; (try simp only [sA, sC, sD] at hz1); (try simp only [sA, sC, sD] at hcl1 hfr1 hlt1); have HB1 := hR w1; clear hb)
    go_wp2_with fail
    go_ret2
    exact ⟨rfl, blw⟩
  obtain ⟨x, hx, x1, x2⟩ : ∃ x, wordAt LS2 row = x ∧ (x == [83, 84, 88]) = false ∧ (x == [76, 68, 88]) = false := by
    have hr : row = 0 ∨ row = 1 ∨ row = 2 ∨ row = 3 ∨ row = 4 ∨ row = 5 ∨ row = 6 ∨ row = 7 := by omega
    rcases hr with rfl | rfl | rfl | rfl | rfl | rfl | rfl | rfl <;> first | exact ⟨_, rfl, by decide, by decide⟩ | (exfalso; omega)
  have e : tI row 4 = ([], -1) := by
      have hr : row = 0 ∨ row = 1 ∨ row = 2 ∨ row = 3 ∨ row = 4 ∨ row = 5 ∨ row = 6 ∨ row = 7 := by omega
      rcases hr with rfl | rfl | rfl | rfl | rfl | rfl | rfl | rfl <;> first | rfl | (exfalso; omega)
  rw [e]
  clear e
  have hw := fun W h => word_S2 row (by omega) (by omega) W h
  rw [hx] at hw
  try rw [hx]
  clear hx
  have HB := hR w; go_enter Tryd.func82, Tryd.ntmps82
  go_wp2_with fail
  refine (hw _ he).mono ?_
  rintro _ w1 ⟨rfl, hb⟩
  (have HB := Aside0.mk (below_step (w := w) blw hb); have hz1 := hb.size; obtain ⟨hcl1, hfr1, hlt1, _⟩ := bcell hb; (try simp only [sA, sC, sD] at hz1); (try simp only [sA, sC, sD] at hcl1 hfr1 hlt1); have HB1 := hR w1; clear hb)
  go_wp2_with fail
  go_ret2
  exact ⟨rfl, blw⟩
set_option maxHeartbeats 1000000 in
theorem impl_sideTwo_5 (row : Int) (w : World) (g0 : 0 ≤ row) (g1 : row < 8) (he : Env w) : Calls Tryd.prog 82 #[.int .i64 row, .int .i64 5] w fun e w' => e = .returned (.tuple #[.string ⟨(tI row 5).1.toArray⟩, .int .i64 (tI row 5).2]) ∧ Below w.heap.size w w' := by
  by_cases q0 : row = 4
  · subst q0
    rw [show tI 4 5 = ([83, 84, 88], 5) from rfl]
    have hw := fun W h => word_S2 4 (by omega) (by omega) W h
    rw [show wordAt LS2 4 = [83, 84, 88] from rfl] at hw
    have HB := hR w; go_enter Tryd.func82, Tryd.ntmps82
    go_wp2_with fail
    refine (hw _ he).mono ?_
    rintro _ w1 ⟨rfl, hb⟩
    (have HB := Aside0.mk (below_step (w := w) blw hb); have hz1 := hb.size; obtain ⟨hcl1, hfr1, hlt1, _⟩ := bcell hb; (try simp only [sA, sC, sD] at hz1); (try simp only [sA, sC, sD] at hcl1 hfr1 hlt1); have HB1 := hR w1; clear hb)
    go_wp2_with fail
    go_ret2
    exact ⟨rfl, blw⟩
  by_cases q1 : row = 5
  · subst q1
    rw [show tI 5 5 = ([76, 68, 88], 5) from rfl]
    have hw := fun W h => word_S2 5 (by omega) (by omega) W h
    rw [show wordAt LS2 5 = [76, 68, 88] from rfl] at hw
    have HB := hR w; go_enter Tryd.func82, Tryd.ntmps82
    go_wp2_with fail
    refine (hw _ he).mono ?_
    rintro _ w1 ⟨rfl, hb⟩
    (have HB := Aside0.mk (below_step (w := w) blw hb); have hz1 := hb.size; obtain ⟨hcl1, hfr1, hlt1, _⟩ := bcell hb; (try simp only [sA, sC, sD] at hz1); (try simp only [sA, sC, sD] at hcl1 hfr1 hlt1); have HB1 := hR w1; clear hb)
    go_wp2_with fail
    go_ret2
    exact ⟨rfl, blw⟩
  obtain ⟨x, hx, x1, x2⟩ : ∃ x, wordAt LS2 row = x ∧ (x == [83, 84, 88]) = false ∧ (x == [76, 68, 88]) = false := by
    have hr : row = 0 ∨ row = 1 ∨ row = 2 ∨ row = 3 ∨ row = 4 ∨ row = 5 ∨ row = 6 ∨ row = 7 := by omega
    rcases hr with rfl | rfl | rfl | rfl | rfl | rfl | rfl | rfl <;> first | exact ⟨_, rfl, by decide, by decide⟩ | (exfalso; omega)
  have e : tI row 5 = (wordAt LS2 row, 4) := by
      have hr : row = 0 ∨ row = 1 ∨ row = 2 ∨ row = 3 ∨ row = 4 ∨ row = 5 ∨ row = 6 ∨ row = 7 := by omega
      rcases hr with rfl | rfl | rfl | rfl | rfl | rfl | rfl | rfl <;> first | rfl | (exfalso; omega)
  rw [e]
  clear e
  have hw := fun W h => word_S2 row (by omega) (by omega) W h
  rw [hx] at hw
  try rw [hx]
  clear hx
  have HB := hR w; go_enter Tryd.func82, Tryd.ntmps82
  go_wp2_with fail
  refine (hw _ he).mono ?_
  rintro _ w1 ⟨rfl, hb⟩
  (have HB := Aside0.mk (below_step (w := w) blw hb); have hz1 := hb.size; obtain ⟨hcl1, hfr1, hlt1, _⟩ := bcell hb; (try simp only [sA, sC, sD] at hz1); (try simp only [sA, sC, sD] at hcl1 hfr1 hlt1); have HB1 := hR w1; clear hb)
  go_wp2_with fail
  go_ret2
  exact ⟨rfl, blw⟩
set_option maxHeartbeats 1000000 in
theorem impl_sideTwo_6 (row : Int) (w : World) (g0 : 0 ≤ row) (g1 : row < 8) (he : Env w) : Calls Tryd.prog 82 #[.int .i64 row, .int .i64 6] w fun e w' => e = .returned (.tuple #[.string ⟨(tI row 6).1.toArray⟩, .int .i64 (tI row 6).2]) ∧ Below w.heap.size w w' := by
  by_cases q0 : row = 4
  · subst q0
    rw [show tI 4 6 = (wordAt LS2c 4, 0) from rfl]
    have hw := fun W h => word_S2 4 (by omega) (by omega) W h
    rw [show wordAt LS2 4 = [83, 84, 88] from rfl] at hw
    have HB := hR w; go_enter Tryd.func82, Tryd.ntmps82
    go_wp2_with fail
    refine (hw _ he).mono ?_
    rintro _ w1 ⟨rfl, hb⟩
    (have HB := Aside0.mk (below_step (w := w) blw hb); have hz1 := hb.size; obtain ⟨hcl1, hfr1, hlt1, _⟩ := bcell hb; (try simp only [sA, sC, sD] at hz1); (try simp only [sA, sC, sD] at hcl1 hfr1 hlt1); have HB1 := hR w1; clear hb)
    go_wp2_with (first | (go_at_call 81; ((with_reducible refine Calls.mono (word_S2c _ (by omega) (by omega) _ (he.below HB.out)) ?_); rintro _ w2 ⟨rfl, hb⟩; have HB := Aside0.mk (below_step (w := w) blw hb); have HB1 := Aside0.mk (below_step (w := w1) blw hb); have hz2 := hb.size; obtain ⟨hcl2, hfr2, hlt2, _⟩ := bcell hb; (try simp only [sA, sC, sD] at hz2); (try simp only [sA, sC, sD] at hcl2 hfr2 hlt2); have HB2 := hR w2; clear hb)))
    go_ret2
    exact ⟨rfl, blw⟩
  by_cases q1 : row = 5
  · subst q1
    rw [show tI 5 6 = (wordAt LS2c 5, 0) from rfl]
    have hw := fun W h => word_S2 5 (by omega) (by omega) W h
    rw [show wordAt LS2 5 = [76, 68, 88] from rfl] at hw
    have HB := hR w; go_enter Tryd.func82, Tryd.ntmps82
    go_wp2_with fail
    refine (hw _ he).mono ?_
    rintro _ w1 ⟨rfl, hb⟩
    (have HB := Aside0.mk (below_step (w := w) blw hb); have hz1 := hb.size; obtain ⟨hcl1, hfr1, hlt1, _⟩ := bcell hb; (try simp only [sA, sC, sD] at hz1); (try simp only [sA, sC, sD] at hcl1 hfr1 hlt1); have HB1 := hR w1; clear hb)
    go_wp2_with (first | (go_at_call 81; ((with_reducible refine Calls.mono (word_S2c _ (by omega) (by omega) _ (he.below HB.out)) ?_); rintro _ w2 ⟨rfl, hb⟩; have HB := Aside0.mk (below_step (w := w) blw hb); have HB1 := Aside0.mk (below_step (w := w1) blw hb); have hz2 := hb.size; obtain ⟨hcl2, hfr2, hlt2, _⟩ := bcell hb; (try simp only [sA, sC, sD] at hz2); (try simp only [sA, sC, sD] at hcl2 hfr2 hlt2); have HB2 := hR w2; clear hb)))
    go_ret2
    exact ⟨rfl, blw⟩
  obtain ⟨x, hx, x1, x2⟩ : ∃ x, wordAt LS2 row = x ∧ (x == [83, 84, 88]) = false ∧ (x == [76, 68, 88]) = false := by
    have hr : row = 0 ∨ row = 1 ∨ row = 2 ∨ row = 3 ∨ row = 4 ∨ row = 5 ∨ row = 6 ∨ row = 7 := by omega
    rcases hr with rfl | rfl | rfl | rfl | rfl | rfl | rfl | rfl <;> first | exact ⟨_, rfl, by decide, by decide⟩ | (exfalso; omega)
  have e : tI row 6 = (wordAt LS2c row, 0) := by
      have hr : row = 0 ∨ row = 1 ∨ row = 2 ∨ row = 3 ∨ row = 4 ∨ row = 5 ∨ row = 6 ∨ row = 7 := by omega
      rcases hr with rfl | rfl | rfl | rfl | rfl | rfl | rfl | rfl <;> first | rfl | (exfalso; omega)
  rw [e]
  clear e
  have hw := fun W h => word_S2 row (by omega) (by omega) W h
  rw [hx] at hw
  try rw [hx]
  clear hx
  have HB := hR w; go_enter Tryd.func82, Tryd.ntmps82
  go_wp2_with fail
  refine (hw _ he).mono ?_
  rintro _ w1 ⟨rfl, hb⟩
  (have HB := Aside0.mk (below_step (w := w) blw hb); have hz1 := hb.size; obtain ⟨hcl1, hfr1, hlt1, _⟩ := bcell hb; (try simp only [sA, sC, sD] at hz1); (try simp only [sA, sC, sD] at hcl1 hfr1 hlt1); have HB1 := hR w1; clear hb)
  go_wp2_with (first | (go_at_call 81; ((with_reducible refine Calls.mono (word_S2c _ (by omega) (by omega) _ (he.below HB.out)) ?_); rintro _ w2 ⟨rfl, hb⟩; have HB := Aside0.mk (below_step (w := w) blw hb); have HB1 := Aside0.mk (below_step (w := w1) blw hb); have hz2 := hb.size; obtain ⟨hcl2, hfr2, hlt2, _⟩ := bcell hb; (try simp only [sA, sC, sD] at hz2); (try simp only [sA, sC, sD] at hcl2 hfr2 hlt2); have HB2 := hR w2; clear hb)))
  go_ret2
  exact ⟨rfl, blw⟩
set_option maxHeartbeats 1000000 in
theorem impl_sideTwo_7 (row : Int) (w : World) (g0 : 0 ≤ row) (g1 : row < 8) (he : Env w) : Calls Tryd.prog 82 #[.int .i64 row, .int .i64 7] w fun e w' => e = .returned (.tuple #[.string ⟨(tI row 7).1.toArray⟩, .int .i64 (tI row 7).2]) ∧ Below w.heap.size w w' := by
  by_cases q0 : row = 4
  · subst q0
    rw [show tI 4 7 = (wordAt LS2a 4, 8) from rfl]
    have hw := fun W h => word_S2 4 (by omega) (by omega) W h
    rw [show wordAt LS2 4 = [83, 84, 88] from rfl] at hw
    have HB := hR w; go_enter Tryd.func82, Tryd.ntmps82
    go_wp2_with fail
    refine (hw _ he).mono ?_
    rintro _ w1 ⟨rfl, hb⟩
    (have HB := Aside0.mk (below_step (w := w) blw hb); have hz1 := hb.size; obtain ⟨hcl1, hfr1, hlt1, _⟩ := bcell hb; (try simp only [sA, sC, sD] at hz1); (try simp only [sA, sC, sD] at hcl1 hfr1 hlt1); have HB1 := hR w1; clear hb)
    go_wp2_with (first | (go_at_call 81; ((with_reducible refine Calls.mono (word_S2a _ (by omega) (by omega) _ (he.below HB.out)) ?_); rintro _ w2 ⟨rfl, hb⟩; have HB := Aside0.mk (below_step (w := w) blw hb); have HB1 := Aside0.mk (below_step (w := w1) blw hb); have hz2 := hb.size; obtain ⟨hcl2, hfr2, hlt2, _⟩ := bcell hb; (try simp only [sA, sC, sD] at hz2); (try simp only [sA, sC, sD] at hcl2 hfr2 hlt2); have HB2 := hR w2; clear hb)))
    go_ret2
    exact ⟨rfl, blw⟩
  by_cases q1 : row = 5
  · subst q1
    rw [show tI 5 7 = (wordAt LS2a 5, 8) from rfl]
    have hw := fun W h => word_S2 5 (by omega) (by omega) W h
    rw [show wordAt LS2 5 = [76, 68, 88] from rfl] at hw
    have HB := hR w; go_enter Tryd.func82, Tryd.ntmps82
    go_wp2_with fail
    refine (hw _ he).mono ?_
    rintro _ w1 ⟨rfl, hb⟩
    (have HB := Aside0.mk (below_step (w := w) blw hb); have hz1 := hb.size; obtain ⟨hcl1, hfr1, hlt1, _⟩ := bcell hb; (try simp only [sA, sC, sD] at hz1); (try simp only [sA, sC, sD] at hcl1 hfr1 hlt1); have HB1 := hR w1; clear hb)
    go_wp2_with (first | (go_at_call 81; ((with_reducible refine Calls.mono (word_S2a _ (by omega) (by omega) _ (he.below HB.out)) ?_); rintro _ w2 ⟨rfl, hb⟩; have HB := Aside0.mk (below_step (w := w) blw hb); have HB1 := Aside0.mk (below_step (w := w1) blw hb); have hz2 := hb.size; obtain ⟨hcl2, hfr2, hlt2, _⟩ := bcell hb; (try simp only [sA, sC, sD] at hz2); (try simp only [sA, sC, sD] at hcl2 hfr2 hlt2); have HB2 := hR w2; clear hb)))
    go_ret2
    exact ⟨rfl, blw⟩
  obtain ⟨x, hx, x1, x2⟩ : ∃ x, wordAt LS2 row = x ∧ (x == [83, 84, 88]) = false ∧ (x == [76, 68, 88]) = false := by
    have hr : row = 0 ∨ row = 1 ∨ row = 2 ∨ row = 3 ∨ row = 4 ∨ row = 5 ∨ row = 6 ∨ row = 7 := by omega
    rcases hr with rfl | rfl | rfl | rfl | rfl | rfl | rfl | rfl <;> first | exact ⟨_, rfl, by decide, by decide⟩ | (exfalso; omega)
  have e : tI row 7 = (wordAt LS2 row, 7) := by
      have hr : row = 0 ∨ row = 1 ∨ row = 2 ∨ row = 3 ∨ row = 4 ∨ row = 5 ∨ row = 6 ∨ row = 7 := by omega
      rcases hr with rfl | rfl | rfl | rfl | rfl | rfl | rfl | rfl <;> first | rfl | (exfalso; omega)
  rw [e]
  clear e
  have hw := fun W h => word_S2 row (by omega) (by omega) W h
  rw [hx] at hw
  try rw [hx]
  clear hx
  have HB := hR w; go_enter Tryd.func82, Tryd.ntmps82
  go_wp2_with fail
  refine (hw _ he).mono ?_
  rintro _ w1 ⟨rfl, hb⟩
  (have HB := Aside0.mk (below_step (w := w) blw hb); have hz1 := hb.size; obtain ⟨hcl1, hfr1, hlt1, _⟩ := bcell hb; (try simp only [sA, sC, sD] at hz1); (try simp only [sA, sC, sD] at hcl1 hfr1 hlt1); have HB1 := hR w1; clear hb)
  go_wp2_with fail
  go_ret2
  exact ⟨rfl, blw⟩
theorem impl_sideZero (row part : Int) (w : World) (g0 : 0 ≤ row) (g1 : row < 8) (h0 : 0 ≤ part) (h1 : part < 8) (he : Env w) : Calls Tryd.prog 80 #[.int .i64 row, .int .i64 part] w fun e w' => e = .returned (.tuple #[.string ⟨(zI row part).1.toArray⟩, .int .i64 (zI row part).2]) ∧ Below w.heap.size w w' := by
  have hp : part = 0 ∨ part = 1 ∨ part = 2 ∨ part = 3 ∨ part = 4 ∨ part = 5 ∨ part = 6 ∨ part = 7 := by omega
  rcases hp with rfl | rfl | rfl | rfl | rfl | rfl | rfl | rfl
  · exact impl_sideZero_0 row w g0 g1 he
  · exact impl_sideZero_1 row w g0 g1 he
  · exact impl_sideZero_2 row w g0 g1 he
  · exact impl_sideZero_3 row w g0 g1 he
  · exact impl_sideZero_4 row w g0 g1 he
  · exact impl_sideZero_5 row w g0 g1 he
  · exact impl_sideZero_6 row w g0 g1 he
  · exact impl_sideZero_7 row w g0 g1 he
theorem impl_sideTwo (row part : Int) (w : World) (g0 : 0 ≤ row) (g1 : row < 8) (h0 : 0 ≤ part) (h1 : part < 8) (he : Env w) : Calls Tryd.prog 82 #[.int .i64 row, .int .i64 part] w fun e w' => e = .returned (.tuple #[.string ⟨(tI row part).1.toArray⟩, .int .i64 (tI row part).2]) ∧ Below w.heap.size w w' := by
  have hp : part = 0 ∨ part = 1 ∨ part = 2 ∨ part = 3 ∨ part = 4 ∨ part = 5 ∨ part = 6 ∨ part = 7 := by omega
  rcases hp with rfl | rfl | rfl | rfl | rfl | rfl | rfl | rfl
  · exact impl_sideTwo_0 row w g0 g1 he
  · exact impl_sideTwo_1 row w g0 g1 he
  · exact impl_sideTwo_2 row w g0 g1 he
  · exact impl_sideTwo_3 row w g0 g1 he
  · exact impl_sideTwo_4 row w g0 g1 he
  · exact impl_sideTwo_5 row w g0 g1 he
  · exact impl_sideTwo_6 row w g0 g1 he
  · exact impl_sideTwo_7 row w g0 g1 he
end Go.Proofs.YthlmddcjbhacmaaDoor
