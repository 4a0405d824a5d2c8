/-
  DERIVED: THE SHELF's CONTRACTS AT THIS DUMP, IN PLAIN WORDS (tools/lay-plain.mjs out of 'TryzShelf.lean', which tools/lay-shelf.mjs wrote): THE SAME DECLARATIONS UNDER THE SAME NAMES: 'import', 'namespace', 'open', 'def', 'theorem' AND NOTHING ELSE: no command of the shelf's: FOR A HAND-IN. Each laying: the table of numbers ('.._ren') and one theorem, a field a fact of the dump's own or the kernel's comparison; each contract: ONE APPLICATION.
-/
import Derived.Shelf.Strings.Search1
import Derived.Shelf.Strings.Search2
import Derived.Shelf.Strings.Search3
import Derived.Shelf.LaysM
import Derived.Shelf.Strings.Shaped
import Derived.Shelf.Strings.Fields
import Derived.Shelf.Strings.SplitShaped
import Derived.Test.YtoncmhfmkfeolaaGreatDoorProg
import Derived.Test.YtoncmhfmkfeolaaGreatDoorGB
import Derived.Deep.RegionHeld3
import Derived.Test.YtoncmhfmkfeolaaGreatDoorGA
set_option linter.unusedVariables false
set_option linter.unusedSimpArgs false
namespace Go.Proofs
open Go.Shelf
def Tryz.lays144_ren : Go.Shelf.Ren:=⟨fun | 144 => 137 | 143 => 179 | 219 => 205 | 217 => 211 | 225 => 212 | 224 => 213 | 267 => 214 | 266 => 216 | 314 => 217 | n => n,fun | 9 => 9 | 4 => 4 | 3 => 3 | 5 => 5 | 46 => 140 | 146 => 225 | 51 => 222 | n => n,fun | 1 => 1 | n => n⟩
theorem Tryz.lays144 : Go.Proofs.Lays.n144 Tryz.prog Tryz.lays144_ren:={
  mixed:=by kernel_rfl
  f143:=Tryz.func179.trans (congrArg some (by kernel_rfl))
  f144:=Tryz.func137.trans (congrArg some (by kernel_rfl))
  f217:=Tryz.func211.trans (congrArg some (by kernel_rfl))
  f219:=Tryz.func205.trans (congrArg some (by kernel_rfl))
  f224:=Tryz.func213.trans (congrArg some (by kernel_rfl))
  f225:=Tryz.func212.trans (congrArg some (by kernel_rfl))
  f266:=Tryz.func216.trans (congrArg some (by kernel_rfl))
  f267:=Tryz.func214.trans (congrArg some (by kernel_rfl))
  f314:=Tryz.func217.trans (congrArg some (by kernel_rfl))
  t3:=Tryz.underlying3
  a3:=Tryz.isAgg3
  z3:=Tryz.sizeOf3
  v3:=Tryz.zeroValue3
  t4:=Tryz.underlying4
  a4:=Tryz.isAgg4
  z4:=Tryz.sizeOf4
  v4:=Tryz.zeroValue4
  t5:=Tryz.underlying5
  a5:=Tryz.isAgg5
  z5:=Tryz.sizeOf5
  v5:=Tryz.zeroValue5
  t9:=Tryz.underlying9
  a9:=Tryz.isAgg9
  z9:=Tryz.sizeOf9
  v9:=Tryz.zeroValue9
  t46:=Tryz.underlying140
  a46:=Tryz.isAgg140
  z46:=Tryz.sizeOf140
  v46:=Tryz.zeroValue140
  t51:=Tryz.underlying222
  a51:=Tryz.isAgg222
  z51:=Tryz.sizeOf222
  v51:=Tryz.zeroValue222
  t146:=Tryz.underlying225
  a146:=Tryz.isAgg225
  z146:=Tryz.sizeOf225
  v146:=Tryz.zeroValue225
  g1:=by kernel_rfl }
open Go.RowKit Go.Lib in
theorem Tryz.strings_Contains_one (s : ByteArray) (c : UInt8) (w : World) :
    Calls Tryz.prog 137 #[.string s,.string ⟨#[c]⟩] w fun e w' => e = .returned (.bool (decide (0 ≤ Lib.indexByte s.data.toList c)))∧w' = w:=Any.strings_Contains_one Tryz.lays144 s c w
open Go.RowKit Go.Lib in
theorem Tryz.strings_Contains (s sub : ByteArray) (m : Int) (w : World) (hs : s.size < 4294967281) (hm : w.cell? ⟨1,0,none⟩ = some (.int .i64 m)) :
    Calls Tryz.prog 137 #[.string s,.string sub] w fun e w' => e = .returned (.bool (Lib.contains s.data.toList sub.data.toList))∧w' = w:=Any.strings_Contains Tryz.lays144 s sub m w hs hm
def Tryz.laysM144_ren : Go.Shelf.Ren:=⟨fun | 144 => 137 | 143 => 179 | 219 => 205 | 217 => 211 | 225 => 212 | 224 => 213 | 267 => 214 | 266 => 216 | 314 => 217 | n => n,fun | 9 => 9 | 4 => 4 | 3 => 3 | 5 => 5 | 46 => 140 | 146 => 225 | 51 => 222 | n => n,fun | 1 => 1 | n => n⟩
theorem Tryz.laysM144 : Go.Proofs.LaysM.n144 Tryz.prog Tryz.laysM144_ren:={
  mixed:=by kernel_rfl
  f143:=Tryz.func179.trans (congrArg some (by kernel_rfl))
  f144:=Tryz.func137.trans (congrArg some (by kernel_rfl))
  f217:=Tryz.func211.trans (congrArg some (by kernel_rfl))
  f219:=Tryz.func205.trans (congrArg some (by kernel_rfl))
  f224:=Tryz.func213.trans (congrArg some (by kernel_rfl))
  f225:=Tryz.func212.trans (congrArg some (by kernel_rfl))
  f266:=Tryz.func216.trans (congrArg some (by kernel_rfl))
  f267:=Tryz.func214.trans (congrArg some (by kernel_rfl))
  f314:=Tryz.func217.trans (congrArg some (by kernel_rfl))
  t3:=Tryz.underlying3
  a3:=Tryz.isAgg3
  z3:=Tryz.sizeOf3
  v3:=Tryz.zeroValue3
  t4:=Tryz.underlying4
  a4:=Tryz.isAgg4
  z4:=Tryz.sizeOf4
  v4:=Tryz.zeroValue4
  t5:=Tryz.underlying5
  a5:=Tryz.isAgg5
  z5:=Tryz.sizeOf5
  v5:=Tryz.zeroValue5
  t9:=Tryz.underlying9
  a9:=Tryz.isAgg9
  z9:=Tryz.sizeOf9
  v9:=Tryz.zeroValue9
  t46:=Tryz.underlying140
  a46:=Tryz.isAgg140
  z46:=Tryz.sizeOf140
  v46:=Tryz.zeroValue140
  t51:=Tryz.underlying222
  a51:=Tryz.isAgg222
  z51:=Tryz.sizeOf222
  v51:=Tryz.zeroValue222
  t146:=Tryz.underlying225
  a146:=Tryz.isAgg225
  z146:=Tryz.sizeOf225
  v146:=Tryz.zeroValue225
  g1:=by kernel_rfl
  i3:=by kernel_rfl
  i4:=by kernel_rfl
  i5:=by kernel_rfl
  i9:=by kernel_rfl
  i46:=by kernel_rfl
  i51:=by kernel_rfl
  i146:=by kernel_rfl
  m1:=by kernel_rfl
  s1_3:=fun w h => Go.Proofs.cell_of_shapedOpen_int (zero:=#[.int .i64 0]) (t:=3) h (of_decide_eq_true (by kernel_rfl)) (by kernel_rfl) rfl (by kernel_rfl) (by kernel_rfl) Tryz.underlying3 }
open Go.RowKit Go.Lib in
theorem Tryz.strings_Contains_shaped (s sub : ByteArray) (w : World) (h : w.ShapedOpen Tryz.prog) (hs : s.size < 4294967281) :
    Calls Tryz.prog 137 #[.string s,.string sub] w fun e w' => e = .returned (.bool (Lib.contains s.data.toList sub.data.toList))∧w' = w:=Any.strings_Contains_shaped Tryz.laysM144 s sub w h hs
def Tryz.lays157_ren : Go.Shelf.Ren:=⟨fun | 157 => 180 | 229 => 206 | 199 => 207 | 261 => 215 | 311 => 218 | 312 => 219 | n => n,fun | 9 => 9 | 31 => 201 | 3 => 3 | 5 => 5 | 4 => 4 | 119 => 212 | 0 => 0 | 40 => 214 | 152 => 219 | 21 => 21 | 154 => 221 | 51 => 222 | 141 => 224 | 196 => 230 | 193 => 227 | 198 => 232 | 49 => 24 | 194 => 228 | 201 => 235 | 226 => 237 | 46 => 140 | 227 => 238 | n => n,fun | 0 => 0 | 6 => 2 | n => n⟩
open Go.RowKit Go.Lib in
def Tryz.laysM157_ren : Go.Shelf.Ren:=⟨fun | 157 => 180 | 229 => 206 | 199 => 207 | 261 => 215 | 311 => 218 | 312 => 219 | n => n,fun | 9 => 9 | 31 => 201 | 3 => 3 | 5 => 5 | 4 => 4 | 119 => 212 | 0 => 0 | 40 => 214 | 152 => 219 | 21 => 21 | 154 => 221 | 51 => 222 | 141 => 224 | 196 => 230 | 193 => 227 | 198 => 232 | 49 => 24 | 194 => 228 | 201 => 235 | 226 => 237 | 46 => 140 | 227 => 238 | n => n,fun | 0 => 0 | 6 => 2 | n => n⟩
theorem Tryz.laysM157 : Go.Proofs.LaysM.n157 Tryz.prog Tryz.laysM157_ren:={
  mixed:=by kernel_rfl
  f157:=Tryz.func180.trans (congrArg some (by kernel_rfl))
  f199:=Tryz.func207.trans (congrArg some (by kernel_rfl))
  f229:=Tryz.func206.trans (congrArg some (by kernel_rfl))
  f261:=Tryz.func215.trans (congrArg some (by kernel_rfl))
  f311:=Tryz.func218.trans (congrArg some (by kernel_rfl))
  f312:=Tryz.func219.trans (congrArg some (by kernel_rfl))
  t0:=Tryz.underlying0
  a0:=Tryz.isAgg0
  z0:=Tryz.sizeOf0
  v0:=Tryz.zeroValue0
  t3:=Tryz.underlying3
  a3:=Tryz.isAgg3
  z3:=Tryz.sizeOf3
  v3:=Tryz.zeroValue3
  t4:=Tryz.underlying4
  a4:=Tryz.isAgg4
  z4:=Tryz.sizeOf4
  v4:=Tryz.zeroValue4
  t5:=Tryz.underlying5
  a5:=Tryz.isAgg5
  z5:=Tryz.sizeOf5
  v5:=Tryz.zeroValue5
  t9:=Tryz.underlying9
  a9:=Tryz.isAgg9
  z9:=Tryz.sizeOf9
  v9:=Tryz.zeroValue9
  t21:=Tryz.underlying21
  a21:=Tryz.isAgg21
  z21:=Tryz.sizeOf21
  v21:=Tryz.zeroValue21
  t31:=Tryz.underlying201
  a31:=Tryz.isAgg201
  z31:=Tryz.sizeOf201
  v31:=Tryz.zeroValue201
  t40:=Tryz.underlying214
  a40:=Tryz.isAgg214
  z40:=Tryz.sizeOf214
  v40:=Tryz.zeroValue214
  t46:=Tryz.underlying140
  a46:=Tryz.isAgg140
  z46:=Tryz.sizeOf140
  v46:=Tryz.zeroValue140
  t49:=Tryz.underlying24
  a49:=Tryz.isAgg24
  z49:=Tryz.sizeOf24
  v49:=Tryz.zeroValue24
  t51:=Tryz.underlying222
  a51:=Tryz.isAgg222
  z51:=Tryz.sizeOf222
  v51:=Tryz.zeroValue222
  t119:=Tryz.underlying212
  a119:=Tryz.isAgg212
  z119:=Tryz.sizeOf212
  t141:=Tryz.underlying224
  a141:=Tryz.isAgg224
  z141:=Tryz.sizeOf224
  v141:=Tryz.zeroValue224
  t152:=Tryz.underlying219
  a152:=Tryz.isAgg219
  z152:=Tryz.sizeOf219
  v152:=Tryz.zeroValue219
  t154:=Tryz.underlying221
  a154:=Tryz.isAgg221
  z154:=Tryz.sizeOf221
  v154:=Tryz.zeroValue221
  t193:=Tryz.underlying227
  a193:=Tryz.isAgg227
  z193:=Tryz.sizeOf227
  v193:=Tryz.zeroValue227
  t194:=Tryz.underlying228
  a194:=Tryz.isAgg228
  z194:=Tryz.sizeOf228
  v194:=Tryz.zeroValue228
  t196:=Tryz.underlying230
  a196:=Tryz.isAgg230
  z196:=Tryz.sizeOf230
  v196:=Tryz.zeroValue230
  t198:=Tryz.underlying232
  a198:=Tryz.isAgg232
  z198:=Tryz.sizeOf232
  v198:=Tryz.zeroValue232
  t201:=Tryz.underlying235
  a201:=Tryz.isAgg235
  z201:=Tryz.sizeOf235
  v201:=Tryz.zeroValue235
  t226:=Tryz.underlying237
  a226:=Tryz.isAgg237
  z226:=Tryz.sizeOf237
  v226:=Tryz.zeroValue237
  t227:=Tryz.underlying238
  a227:=Tryz.isAgg238
  z227:=Tryz.sizeOf238
  v227:=Tryz.zeroValue238
  g0:=by kernel_rfl
  g6:=by kernel_rfl
  i0:=by kernel_rfl
  i3:=by kernel_rfl
  i4:=by kernel_rfl
  i5:=by kernel_rfl
  i9:=by kernel_rfl
  i21:=by kernel_rfl
  i31:=by kernel_rfl
  i40:=by kernel_rfl
  i46:=by kernel_rfl
  i49:=by kernel_rfl
  i51:=by kernel_rfl
  i141:=by kernel_rfl
  i152:=by kernel_rfl
  i154:=by kernel_rfl
  i193:=by kernel_rfl
  i194:=by kernel_rfl
  i196:=by kernel_rfl
  i198:=by kernel_rfl
  i201:=by kernel_rfl
  i226:=by kernel_rfl
  i227:=by kernel_rfl
  m0:=by kernel_rfl
  m6:=by kernel_rfl }
open Go.RowKit Go.Lib in
theorem Tryz.strings_Fields_laid (s : ByteArray) (w : World) (hs : s.size < 4294967281) (hascii : ∀ (j : Nat) b, s.data.toList[j]? = some b → b.toNat < 128) (htab : Lib.TabIs Tryz.prog w "strings.asciiSpace" .u8 Lib.asciiSpaceTab) :
    Calls Tryz.prog 180 #[.string s] w fun e w' =>
      e = .returned (.slice (some ⟨w.heap.size,0,none⟩) (Lib.fields s.data.toList).length (Lib.fields s.data.toList).length)∧w' = w.alloc (.cells ((Lib.fields s.data.toList).map fun l => Value.string ⟨l.toArray⟩).toArray 9):=Any.strings_Fields_laid Tryz.laysM157 s w hs hascii htab
end Go.Proofs
namespace Go.Proofs.YtoncmhfmkfeolaaGreatDoor
open Go.RowKit Go.Proofs.YtoncmhfmkfeolaaGreatDoorW.PrintWords
def Env (w : World) : Prop := Lib.TabIs Tryz.prog w "strings.asciiSpace" .u8 Lib.asciiSpaceTab ∧ ∃ m, w.cell? ⟨1, 0, none⟩ = some (.int .i64 m)
theorem gSpace : Tryz.prog.globalNamed "strings.asciiSpace" = some 0 := by kernel_rfl
theorem Env.below {w w' : World} (h : Env w) (hb : Below w.heap.size w w') : Env w':=by
  obtain ⟨h1,m,h2⟩:=h
  refine ⟨?_,m,cell_keep hb h2⟩
  have hg : 0 < w.heap.size:=by
    have:=h1.cell gSpace 0 (by decide +kernel)
    exact World.block_lt_of_cell? w _ this
  unfold Lib.TabIs World.var? at *
  rw [gSpace] at *
  simp only [Option.bind_some] at *
  rw [hb.block _ hg]
  exact h1
theorem Env.alloc {w : World} (h : Env w) (o : Obj) : Env (w.alloc o):=h.below (below_alloc (Below.refl _ _) o)
def wordAt (L : List (List UInt8)) (n : Int) : List UInt8:=if L.getD n.toNat [] = [46] then [] else L.getD n.toNat []
theorem impl_word (s : ByteArray) (L : List (List UInt8)) (hL : Lib.fields s.data.toList = L) (hs : s.size < 1000) (ha : ∀ (j : Nat) b,s.data.toList[j]? = some b → b.toNat < 128) (n : Int) (h0 : 0 ≤ n) (h1 : n < L.length) (w : World) (he : Env w) :
    Calls Tryz.prog 153 #[.string s,.int .i64 n] w fun e w' => e = .returned (.string ⟨(wordAt L n).toArray⟩)∧Below w.heap.size w w':=by
  have hf:=Tryz.strings_Fields_laid s w (by omega) ha he.1
  rw [hL] at hf
  have hc : (w.alloc (.cells (L.map fun l => Value.string ⟨l.toArray⟩).toArray 9)).cell? ⟨w.heap.size,n.toNat,none⟩ = some (.string ⟨(L.getD n.toNat []).toArray⟩):=by
    rw [World.cell?_alloc_new]
    have : n.toNat < L.length:=by omega
    simp [this,List.getD_eq_getElem?_getD]
  obtain ⟨x,hx⟩ : ∃ x,L.getD n.toNat [] = x:=⟨_,rfl⟩
  rw [hx] at hc
  unfold wordAt
  rw [hx]
  clear hx hL
  generalize L.map (fun l => Value.string ⟨l.toArray⟩) = V at hf hc
  by_cases hd : x = [46]
  · subst hd
    rw [if_pos rfl]
    have HB:=hR w;go_enter Tryz.func153,Tryz.ntmps153
    go_wp2_with fail
    refine hf.mono ?_
    rintro _ w1 ⟨rfl,rfl⟩
    go_wp2_with fail
    go_ret
    exact ⟨rfl,blw⟩
  · rw [if_neg hd]
    have hb : (x == [46]) = false:=beq_eq_false_iff_ne.2 hd
    have HB:=hR w;go_enter Tryz.func153,Tryz.ntmps153
    go_wp2_with fail
    refine hf.mono ?_
    rintro _ w1 ⟨rfl,rfl⟩
    go_wp2_with fail
    go_ret
    exact ⟨rfl,blw⟩
open Go.RowKit Go.Proofs.YtoncmhfmkfeolaaGreatDoorW.PrintWords
def zIL : List (List UInt8 × Int):=[([66,82,75],0),([],3),([80,72,80],0),([],6),([66,80,76],12),([],4),([67,76,67],0),([],7),([74,83,82],6),([66,73,84],3),([80,76,80],0),([66,73,84],6),([66,77,73],12),([],4),([83,69,67],0),([],7),([82,84,73],0),([],3),([80,72,65],0),([74,77,80],6),([66,86,67],12),([],4),([67,76,73],0),([],7),([82,84,83],0),([],3),([80,76,65],0),([74,77,80],9),([66,86,83],12),([],4),([83,69,73],0),([],7),([],2),([83,84,89],3),([68,69,89],0),([83,84,89],6),([66,67,67],12),([83,84,89],4),([84,89,65],0),([],7),([76,68,89],2),([76,68,89],3),([84,65,89],0),([76,68,89],6),([66,67,83],12),([76,68,89],4),([67,76,86],0),([76,68,89],7),([67,80,89],2),([67,80,89],3),([73,78,89],0),([67,80,89],6),([66,78,69],12),([],4),([67,76,68],0),([],7),([67,80,88],2),([67,80,88],3),([73,78,88],0),([67,80,88],6),([66,69,81],12),([],4),([83,69,68],0),([],7)]
def zI (row part : Int) : List UInt8 × Int:=zIL.getD (8 * row+part).toNat ([],0)
def oIL : List (List UInt8 × Int):=[([79,82,65],10),([79,82,65],3),([79,82,65],2),([79,82,65],6),([79,82,65],11),([79,82,65],4),([79,82,65],8),([79,82,65],7),([65,78,68],10),([65,78,68],3),([65,78,68],2),([65,78,68],6),([65,78,68],11),([65,78,68],4),([65,78,68],8),([65,78,68],7),([69,79,82],10),([69,79,82],3),([69,79,82],2),([69,79,82],6),([69,79,82],11),([69,79,82],4),([69,79,82],8),([69,79,82],7),([65,68,67],10),([65,68,67],3),([65,68,67],2),([65,68,67],6),([65,68,67],11),([65,68,67],4),([65,68,67],8),([65,68,67],7),([83,84,65],10),([83,84,65],3),([],2),([83,84,65],6),([83,84,65],11),([83,84,65],4),([83,84,65],8),([83,84,65],7),([76,68,65],10),([76,68,65],3),([76,68,65],2),([76,68,65],6),([76,68,65],11),([76,68,65],4),([76,68,65],8),([76,68,65],7),([67,77,80],10),([67,77,80],3),([67,77,80],2),([67,77,80],6),([67,77,80],11),([67,77,80],4),([67,77,80],8),([67,77,80],7),([83,66,67],10),([83,66,67],3),([83,66,67],2),([83,66,67],6),([83,66,67],11),([83,66,67],4),([83,66,67],8),([83,66,67],7)]
def oI (row part : Int) : List UInt8 × Int:=oIL.getD (8 * row+part).toNat ([],0)
def tIL : List (List UInt8 × Int):=[([],2),([65,83,76],3),([65,83,76],1),([65,83,76],6),([],-1),([65,83,76],4),([],0),([65,83,76],7),([],2),([82,79,76],3),([82,79,76],1),([82,79,76],6),([],-1),([82,79,76],4),([],0),([82,79,76],7),([],2),([76,83,82],3),([76,83,82],1),([76,83,82],6),([],-1),([76,83,82],4),([],0),([76,83,82],7),([],2),([82,79,82],3),([82,79,82],1),([82,79,82],6),([],-1),([82,79,82],4),([],0),([82,79,82],7),([],2),([83,84,88],3),([84,88,65],0),([83,84,88],6),([],-1),([83,84,88],5),([84,88,83],0),([],8),([76,68,88],2),([76,68,88],3),([84,65,88],0),([76,68,88],6),([],-1),([76,68,88],5),([84,83,88],0),([76,68,88],8),([],2),([68,69,67],3),([68,69,88],0),([68,69,67],6),([],-1),([68,69,67],4),([],0),([68,69,67],7),([],2),([73,78,67],3),([78,79,80],0),([73,78,67],6),([],-1),([73,78,67],4),([],0),([73,78,67],7)]
def tI (row part : Int) : List UInt8 × Int:=tIL.getD (8 * row+part).toNat ([],0)
def LS0a : List (List UInt8):=[[66,82,75],[74,83,82],[82,84,73],[82,84,83],[46],[76,68,89],[67,80,89],[67,80,88]]
theorem word_S0a (n : Int) (h0 : 0 ≤ n) (h1 : n < 8) (w : World) (he : Env w) : Calls Tryz.prog 153 #[.string ⟨#[66,82,75,32,74,83,82,32,82,84,73,32,82,84,83,32,46,32,76,68,89,32,67,80,89,32,67,80,88]⟩,.int .i64 n] w fun e w' => e = .returned (.string ⟨(wordAt LS0a n).toArray⟩)∧Below w.heap.size w w' :=
  impl_word _ LS0a (by decide +kernel) (by decide) (fun j b h => (by decide : ∀ b ∈ ([66,82,75,32,74,83,82,32,82,84,73,32,82,84,83,32,46,32,76,68,89,32,67,80,89,32,67,80,88] : List UInt8),b.toNat < 128) b (List.mem_of_getElem? h)) n h0 h1 w he
def LS0b : List (List UInt8):=[[46],[66,73,84],[46],[46],[83,84,89],[76,68,89],[67,80,89],[67,80,88]]
theorem word_S0b (n : Int) (h0 : 0 ≤ n) (h1 : n < 8) (w : World) (he : Env w) : Calls Tryz.prog 153 #[.string ⟨#[46,32,66,73,84,32,46,32,46,32,83,84,89,32,76,68,89,32,67,80,89,32,67,80,88]⟩,.int .i64 n] w fun e w' => e = .returned (.string ⟨(wordAt LS0b n).toArray⟩)∧Below w.heap.size w w' :=
  impl_word _ LS0b (by decide +kernel) (by decide) (fun j b h => (by decide : ∀ b ∈ ([46,32,66,73,84,32,46,32,46,32,83,84,89,32,76,68,89,32,67,80,89,32,67,80,88] : List UInt8),b.toNat < 128) b (List.mem_of_getElem? h)) n h0 h1 w he
def LS0c : List (List UInt8):=[[80,72,80],[80,76,80],[80,72,65],[80,76,65],[68,69,89],[84,65,89],[73,78,89],[73,78,88]]
theorem word_S0c (n : Int) (h0 : 0 ≤ n) (h1 : n < 8) (w : World) (he : Env w) : Calls Tryz.prog 153 #[.string ⟨#[80,72,80,32,80,76,80,32,80,72,65,32,80,76,65,32,68,69,89,32,84,65,89,32,73,78,89,32,73,78,88]⟩,.int .i64 n] w fun e w' => e = .returned (.string ⟨(wordAt LS0c n).toArray⟩)∧Below w.heap.size w w' :=
  impl_word _ LS0c (by decide +kernel) (by decide) (fun j b h => (by decide : ∀ b ∈ ([80,72,80,32,80,76,80,32,80,72,65,32,80,76,65,32,68,69,89,32,84,65,89,32,73,78,89,32,73,78,88] : List UInt8),b.toNat < 128) b (List.mem_of_getElem? h)) n h0 h1 w he
def LS0d : List (List UInt8):=[[46],[66,73,84],[74,77,80],[46],[83,84,89],[76,68,89],[67,80,89],[67,80,88]]
theorem word_S0d (n : Int) (h0 : 0 ≤ n) (h1 : n < 8) (w : World) (he : Env w) : Calls Tryz.prog 153 #[.string ⟨#[46,32,66,73,84,32,74,77,80,32,46,32,83,84,89,32,76,68,89,32,67,80,89,32,67,80,88]⟩,.int .i64 n] w fun e w' => e = .returned (.string ⟨(wordAt LS0d n).toArray⟩)∧Below w.heap.size w w' :=
  impl_word _ LS0d (by decide +kernel) (by decide) (fun j b h => (by decide : ∀ b ∈ ([46,32,66,73,84,32,74,77,80,32,46,32,83,84,89,32,76,68,89,32,67,80,89,32,67,80,88] : List UInt8),b.toNat < 128) b (List.mem_of_getElem? h)) n h0 h1 w he
def LS0e : List (List UInt8):=[[66,80,76],[66,77,73],[66,86,67],[66,86,83],[66,67,67],[66,67,83],[66,78,69],[66,69,81]]
theorem word_S0e (n : Int) (h0 : 0 ≤ n) (h1 : n < 8) (w : World) (he : Env w) : Calls Tryz.prog 153 #[.string ⟨#[66,80,76,32,66,77,73,32,66,86,67,32,66,86,83,32,66,67,67,32,66,67,83,32,66,78,69,32,66,69,81]⟩,.int .i64 n] w fun e w' => e = .returned (.string ⟨(wordAt LS0e n).toArray⟩)∧Below w.heap.size w w' :=
  impl_word _ LS0e (by decide +kernel) (by decide) (fun j b h => (by decide : ∀ b ∈ ([66,80,76,32,66,77,73,32,66,86,67,32,66,86,83,32,66,67,67,32,66,67,83,32,66,78,69,32,66,69,81] : List UInt8),b.toNat < 128) b (List.mem_of_getElem? h)) n h0 h1 w he
def LS0f : List (List UInt8):=[[46],[46],[46],[46],[83,84,89],[76,68,89],[46],[46]]
theorem word_S0f (n : Int) (h0 : 0 ≤ n) (h1 : n < 8) (w : World) (he : Env w) : Calls Tryz.prog 153 #[.string ⟨#[46,32,46,32,46,32,46,32,83,84,89,32,76,68,89,32,46,32,46]⟩,.int .i64 n] w fun e w' => e = .returned (.string ⟨(wordAt LS0f n).toArray⟩)∧Below w.heap.size w w' :=
  impl_word _ LS0f (by decide +kernel) (by decide) (fun j b h => (by decide : ∀ b ∈ ([46,32,46,32,46,32,46,32,83,84,89,32,76,68,89,32,46,32,46] : List UInt8),b.toNat < 128) b (List.mem_of_getElem? h)) n h0 h1 w he
def LS0g : List (List UInt8):=[[67,76,67],[83,69,67],[67,76,73],[83,69,73],[84,89,65],[67,76,86],[67,76,68],[83,69,68]]
theorem word_S0g (n : Int) (h0 : 0 ≤ n) (h1 : n < 8) (w : World) (he : Env w) : Calls Tryz.prog 153 #[.string ⟨#[67,76,67,32,83,69,67,32,67,76,73,32,83,69,73,32,84,89,65,32,67,76,86,32,67,76,68,32,83,69,68]⟩,.int .i64 n] w fun e w' => e = .returned (.string ⟨(wordAt LS0g n).toArray⟩)∧Below w.heap.size w w' :=
  impl_word _ LS0g (by decide +kernel) (by decide) (fun j b h => (by decide : ∀ b ∈ ([67,76,67,32,83,69,67,32,67,76,73,32,83,69,73,32,84,89,65,32,67,76,86,32,67,76,68,32,83,69,68] : List UInt8),b.toNat < 128) b (List.mem_of_getElem? h)) n h0 h1 w he
def LS0h : List (List UInt8):=[[46],[46],[46],[46],[46],[76,68,89],[46],[46]]
theorem word_S0h (n : Int) (h0 : 0 ≤ n) (h1 : n < 8) (w : World) (he : Env w) : Calls Tryz.prog 153 #[.string ⟨#[46,32,46,32,46,32,46,32,46,32,76,68,89,32,46,32,46]⟩,.int .i64 n] w fun e w' => e = .returned (.string ⟨(wordAt LS0h n).toArray⟩)∧Below w.heap.size w w' :=
  impl_word _ LS0h (by decide +kernel) (by decide) (fun j b h => (by decide : ∀ b ∈ ([46,32,46,32,46,32,46,32,46,32,76,68,89,32,46,32,46] : List UInt8),b.toNat < 128) b (List.mem_of_getElem? h)) n h0 h1 w he
def LS1 : List (List UInt8):=[[79,82,65],[65,78,68],[69,79,82],[65,68,67],[83,84,65],[76,68,65],[67,77,80],[83,66,67]]
theorem word_S1 (n : Int) (h0 : 0 ≤ n) (h1 : n < 8) (w : World) (he : Env w) : Calls Tryz.prog 153 #[.string ⟨#[79,82,65,32,65,78,68,32,69,79,82,32,65,68,67,32,83,84,65,32,76,68,65,32,67,77,80,32,83,66,67]⟩,.int .i64 n] w fun e w' => e = .returned (.string ⟨(wordAt LS1 n).toArray⟩)∧Below w.heap.size w w' :=
  impl_word _ LS1 (by decide +kernel) (by decide) (fun j b h => (by decide : ∀ b ∈ ([79,82,65,32,65,78,68,32,69,79,82,32,65,68,67,32,83,84,65,32,76,68,65,32,67,77,80,32,83,66,67] : List UInt8),b.toNat < 128) b (List.mem_of_getElem? h)) n h0 h1 w he
def LS2 : List (List UInt8):=[[65,83,76],[82,79,76],[76,83,82],[82,79,82],[83,84,88],[76,68,88],[68,69,67],[73,78,67]]
theorem word_S2 (n : Int) (h0 : 0 ≤ n) (h1 : n < 8) (w : World) (he : Env w) : Calls Tryz.prog 153 #[.string ⟨#[65,83,76,32,82,79,76,32,76,83,82,32,82,79,82,32,83,84,88,32,76,68,88,32,68,69,67,32,73,78,67]⟩,.int .i64 n] w fun e w' => e = .returned (.string ⟨(wordAt LS2 n).toArray⟩)∧Below w.heap.size w w' :=
  impl_word _ LS2 (by decide +kernel) (by decide) (fun j b h => (by decide : ∀ b ∈ ([65,83,76,32,82,79,76,32,76,83,82,32,82,79,82,32,83,84,88,32,76,68,88,32,68,69,67,32,73,78,67] : List UInt8),b.toNat < 128) b (List.mem_of_getElem? h)) n h0 h1 w he
def LS2a : List (List UInt8):=[[46],[46],[46],[46],[46],[76,68,88],[46],[46]]
theorem word_S2a (n : Int) (h0 : 0 ≤ n) (h1 : n < 8) (w : World) (he : Env w) : Calls Tryz.prog 153 #[.string ⟨#[46,32,46,32,46,32,46,32,46,32,76,68,88,32,46,32,46]⟩,.int .i64 n] w fun e w' => e = .returned (.string ⟨(wordAt LS2a n).toArray⟩)∧Below w.heap.size w w' :=
  impl_word _ LS2a (by decide +kernel) (by decide) (fun j b h => (by decide : ∀ b ∈ ([46,32,46,32,46,32,46,32,46,32,76,68,88,32,46,32,46] : List UInt8),b.toNat < 128) b (List.mem_of_getElem? h)) n h0 h1 w he
def LS2b : List (List UInt8):=[[46],[46],[46],[46],[84,88,65],[84,65,88],[68,69,88],[78,79,80]]
theorem word_S2b (n : Int) (h0 : 0 ≤ n) (h1 : n < 8) (w : World) (he : Env w) : Calls Tryz.prog 153 #[.string ⟨#[46,32,46,32,46,32,46,32,84,88,65,32,84,65,88,32,68,69,88,32,78,79,80]⟩,.int .i64 n] w fun e w' => e = .returned (.string ⟨(wordAt LS2b n).toArray⟩)∧Below w.heap.size w w' :=
  impl_word _ LS2b (by decide +kernel) (by decide) (fun j b h => (by decide : ∀ b ∈ ([46,32,46,32,46,32,46,32,84,88,65,32,84,65,88,32,68,69,88,32,78,79,80] : List UInt8),b.toNat < 128) b (List.mem_of_getElem? h)) n h0 h1 w he
def LS2c : List (List UInt8):=[[46],[46],[46],[46],[84,88,83],[84,83,88],[46],[46]]
theorem word_S2c (n : Int) (h0 : 0 ≤ n) (h1 : n < 8) (w : World) (he : Env w) : Calls Tryz.prog 153 #[.string ⟨#[46,32,46,32,46,32,46,32,84,88,83,32,84,83,88,32,46,32,46]⟩,.int .i64 n] w fun e w' => e = .returned (.string ⟨(wordAt LS2c n).toArray⟩)∧Below w.heap.size w w' :=
  impl_word _ LS2c (by decide +kernel) (by decide) (fun j b h => (by decide : ∀ b ∈ ([46,32,46,32,46,32,46,32,84,88,83,32,84,83,88,32,46,32,46] : List UInt8),b.toNat < 128) b (List.mem_of_getElem? h)) n h0 h1 w he
set_option maxHeartbeats 1000000 in
theorem impl_sideZero_0 (row : Int) (w : World) (g0 : 0 ≤ row) (g1 : row < 8) (he : Env w) : Calls Tryz.prog 152 #[.int .i64 row,.int .i64 0] w fun e w' => e = .returned (.tuple #[.string ⟨(zI row 0).1.toArray⟩,.int .i64 (zI row 0).2])∧Below w.heap.size w w':=by
  by_cases q0 : row = 1
  · subst q0
    rw [show zI 1 0 = (wordAt LS0a 1,6) from rfl]
    have HB:=hR w;go_enter Tryz.func152,Tryz.ntmps152
    go_wp2_with (first | (go_at_call 153;((with_reducible refine Calls.mono (word_S0a _ (by omega) (by omega) _ he) ?_);rintro _ w1 ⟨rfl,hb⟩;have HB:=Aside0.mk (below_step (w:=w) blw hb);have hz1:=hb.size;obtain ⟨hcl1,hfr1,hlt1,_⟩:=bcell hb;(try simp only [sA,sC,sD] at hz1);(try simp only [sA,sC,sD] at hcl1 hfr1 hlt1);have HB1:=hR w1;clear hb)))
    go_ret2
    exact ⟨rfl,blw⟩
  by_cases q1 : row < 4
  · have e : zI row 0 = (wordAt LS0a row,0):=by
        have hr : row = 0 ∨ row = 1 ∨ row = 2 ∨ row = 3 ∨ row = 4 ∨ row = 5 ∨ row = 6 ∨ row = 7:=by omega
        rcases hr with rfl | rfl | rfl | rfl | rfl | rfl | rfl | rfl <;> first | rfl | (exfalso;omega)
    rw [e]
    clear e
    have q0b : (row == 1) = false:=by simpa using q0
    have HB:=hR w;go_enter Tryz.func152,Tryz.ntmps152
    go_wp2_with (first | (go_at_call 153;((with_reducible refine Calls.mono (word_S0a _ (by omega) (by omega) _ he) ?_);rintro _ w1 ⟨rfl,hb⟩;have HB:=Aside0.mk (below_step (w:=w) blw hb);have hz1:=hb.size;obtain ⟨hcl1,hfr1,hlt1,_⟩:=bcell hb;(try simp only [sA,sC,sD] at hz1);(try simp only [sA,sC,sD] at hcl1 hfr1 hlt1);have HB1:=hR w1;clear hb)))
    go_ret2
    exact ⟨rfl,blw⟩
  have e : zI row 0 = (wordAt LS0a row,2):=by
      have hr : row = 0 ∨ row = 1 ∨ row = 2 ∨ row = 3 ∨ row = 4 ∨ row = 5 ∨ row = 6 ∨ row = 7:=by omega
      rcases hr with rfl | rfl | rfl | rfl | rfl | rfl | rfl | rfl <;> first | rfl | (exfalso;omega)
  rw [e]
  clear e
  have q0b : (row == 1) = false:=by simpa using q0
  have HB:=hR w;go_enter Tryz.func152,Tryz.ntmps152
  go_wp2_with (first | (go_at_call 153;((with_reducible refine Calls.mono (word_S0a _ (by omega) (by omega) _ he) ?_);rintro _ w1 ⟨rfl,hb⟩;have HB:=Aside0.mk (below_step (w:=w) blw hb);have hz1:=hb.size;obtain ⟨hcl1,hfr1,hlt1,_⟩:=bcell hb;(try simp only [sA,sC,sD] at hz1);(try simp only [sA,sC,sD] at hcl1 hfr1 hlt1);have HB1:=hR w1;clear hb)))
  go_ret2
  exact ⟨rfl,blw⟩
set_option maxHeartbeats 1000000 in
theorem impl_sideZero_1 (row : Int) (w : World) (g0 : 0 ≤ row) (g1 : row < 8) (he : Env w) : Calls Tryz.prog 152 #[.int .i64 row,.int .i64 1] w fun e w' => e = .returned (.tuple #[.string ⟨(zI row 1).1.toArray⟩,.int .i64 (zI row 1).2])∧Below w.heap.size w w':=by
  have e : zI row 1 = (wordAt LS0b row,3):=by
      have hr : row = 0 ∨ row = 1 ∨ row = 2 ∨ row = 3 ∨ row = 4 ∨ row = 5 ∨ row = 6 ∨ row = 7:=by omega
      rcases hr with rfl | rfl | rfl | rfl | rfl | rfl | rfl | rfl <;> first | rfl | (exfalso;omega)
  rw [e]
  clear e
  have HB:=hR w;go_enter Tryz.func152,Tryz.ntmps152
  go_wp2_with (first | (go_at_call 153;((with_reducible refine Calls.mono (word_S0b _ (by omega) (by omega) _ he) ?_);rintro _ w1 ⟨rfl,hb⟩;have HB:=Aside0.mk (below_step (w:=w) blw hb);have hz1:=hb.size;obtain ⟨hcl1,hfr1,hlt1,_⟩:=bcell hb;(try simp only [sA,sC,sD] at hz1);(try simp only [sA,sC,sD] at hcl1 hfr1 hlt1);have HB1:=hR w1;clear hb)))
  go_ret2
  exact ⟨rfl,blw⟩
set_option maxHeartbeats 1000000 in
theorem impl_sideZero_2 (row : Int) (w : World) (g0 : 0 ≤ row) (g1 : row < 8) (he : Env w) : Calls Tryz.prog 152 #[.int .i64 row,.int .i64 2] w fun e w' => e = .returned (.tuple #[.string ⟨(zI row 2).1.toArray⟩,.int .i64 (zI row 2).2])∧Below w.heap.size w w':=by
  have e : zI row 2 = (wordAt LS0c row,0):=by
      have hr : row = 0 ∨ row = 1 ∨ row = 2 ∨ row = 3 ∨ row = 4 ∨ row = 5 ∨ row = 6 ∨ row = 7:=by omega
      rcases hr with rfl | rfl | rfl | rfl | rfl | rfl | rfl | rfl <;> first | rfl | (exfalso;omega)
  rw [e]
  clear e
  have HB:=hR w;go_enter Tryz.func152,Tryz.ntmps152
  go_wp2_with (first | (go_at_call 153;((with_reducible refine Calls.mono (word_S0c _ (by omega) (by omega) _ he) ?_);rintro _ w1 ⟨rfl,hb⟩;have HB:=Aside0.mk (below_step (w:=w) blw hb);have hz1:=hb.size;obtain ⟨hcl1,hfr1,hlt1,_⟩:=bcell hb;(try simp only [sA,sC,sD] at hz1);(try simp only [sA,sC,sD] at hcl1 hfr1 hlt1);have HB1:=hR w1;clear hb)))
  go_ret2
  exact ⟨rfl,blw⟩
set_option maxHeartbeats 1000000 in
theorem impl_sideZero_3 (row : Int) (w : World) (g0 : 0 ≤ row) (g1 : row < 8) (he : Env w) : Calls Tryz.prog 152 #[.int .i64 row,.int .i64 3] w fun e w' => e = .returned (.tuple #[.string ⟨(zI row 3).1.toArray⟩,.int .i64 (zI row 3).2])∧Below w.heap.size w w':=by
  by_cases q0 : row = 3
  · subst q0
    rw [show zI 3 3 = ([74,77,80],9) from rfl]
    have HB:=hR w;go_enter Tryz.func152,Tryz.ntmps152
    go_wp2
    go_ret2
    exact ⟨rfl,blw⟩
  have e : zI row 3 = (wordAt LS0d row,6):=by
      have hr : row = 0 ∨ row = 1 ∨ row = 2 ∨ row = 3 ∨ row = 4 ∨ row = 5 ∨ row = 6 ∨ row = 7:=by omega
      rcases hr with rfl | rfl | rfl | rfl | rfl | rfl | rfl | rfl <;> first | rfl | (exfalso;omega)
  rw [e]
  clear e
  have q0b : (row == 3) = false:=by simpa using q0
  have HB:=hR w;go_enter Tryz.func152,Tryz.ntmps152
  go_wp2_with (first | (go_at_call 153;((with_reducible refine Calls.mono (word_S0d _ (by omega) (by omega) _ he) ?_);rintro _ w1 ⟨rfl,hb⟩;have HB:=Aside0.mk (below_step (w:=w) blw hb);have hz1:=hb.size;obtain ⟨hcl1,hfr1,hlt1,_⟩:=bcell hb;(try simp only [sA,sC,sD] at hz1);(try simp only [sA,sC,sD] at hcl1 hfr1 hlt1);have HB1:=hR w1;clear hb)))
  go_ret2
  exact ⟨rfl,blw⟩
set_option maxHeartbeats 1000000 in
theorem impl_sideZero_4 (row : Int) (w : World) (g0 : 0 ≤ row) (g1 : row < 8) (he : Env w) : Calls Tryz.prog 152 #[.int .i64 row,.int .i64 4] w fun e w' => e = .returned (.tuple #[.string ⟨(zI row 4).1.toArray⟩,.int .i64 (zI row 4).2])∧Below w.heap.size w w':=by
  have e : zI row 4 = (wordAt LS0e row,12):=by
      have hr : row = 0 ∨ row = 1 ∨ row = 2 ∨ row = 3 ∨ row = 4 ∨ row = 5 ∨ row = 6 ∨ row = 7:=by omega
      rcases hr with rfl | rfl | rfl | rfl | rfl | rfl | rfl | rfl <;> first | rfl | (exfalso;omega)
  rw [e]
  clear e
  have HB:=hR w;go_enter Tryz.func152,Tryz.ntmps152
  go_wp2_with (first | (go_at_call 153;((with_reducible refine Calls.mono (word_S0e _ (by omega) (by omega) _ he) ?_);rintro _ w1 ⟨rfl,hb⟩;have HB:=Aside0.mk (below_step (w:=w) blw hb);have hz1:=hb.size;obtain ⟨hcl1,hfr1,hlt1,_⟩:=bcell hb;(try simp only [sA,sC,sD] at hz1);(try simp only [sA,sC,sD] at hcl1 hfr1 hlt1);have HB1:=hR w1;clear hb)))
  go_ret2
  exact ⟨rfl,blw⟩
set_option maxHeartbeats 1000000 in
theorem impl_sideZero_5 (row : Int) (w : World) (g0 : 0 ≤ row) (g1 : row < 8) (he : Env w) : Calls Tryz.prog 152 #[.int .i64 row,.int .i64 5] w fun e w' => e = .returned (.tuple #[.string ⟨(zI row 5).1.toArray⟩,.int .i64 (zI row 5).2])∧Below w.heap.size w w':=by
  have e : zI row 5 = (wordAt LS0f row,4):=by
      have hr : row = 0 ∨ row = 1 ∨ row = 2 ∨ row = 3 ∨ row = 4 ∨ row = 5 ∨ row = 6 ∨ row = 7:=by omega
      rcases hr with rfl | rfl | rfl | rfl | rfl | rfl | rfl | rfl <;> first | rfl | (exfalso;omega)
  rw [e]
  clear e
  have HB:=hR w;go_enter Tryz.func152,Tryz.ntmps152
  go_wp2_with (first | (go_at_call 153;((with_reducible refine Calls.mono (word_S0f _ (by omega) (by omega) _ he) ?_);rintro _ w1 ⟨rfl,hb⟩;have HB:=Aside0.mk (below_step (w:=w) blw hb);have hz1:=hb.size;obtain ⟨hcl1,hfr1,hlt1,_⟩:=bcell hb;(try simp only [sA,sC,sD] at hz1);(try simp only [sA,sC,sD] at hcl1 hfr1 hlt1);have HB1:=hR w1;clear hb)))
  go_ret2
  exact ⟨rfl,blw⟩
set_option maxHeartbeats 1000000 in
theorem impl_sideZero_6 (row : Int) (w : World) (g0 : 0 ≤ row) (g1 : row < 8) (he : Env w) : Calls Tryz.prog 152 #[.int .i64 row,.int .i64 6] w fun e w' => e = .returned (.tuple #[.string ⟨(zI row 6).1.toArray⟩,.int .i64 (zI row 6).2])∧Below w.heap.size w w':=by
  have e : zI row 6 = (wordAt LS0g row,0):=by
      have hr : row = 0 ∨ row = 1 ∨ row = 2 ∨ row = 3 ∨ row = 4 ∨ row = 5 ∨ row = 6 ∨ row = 7:=by omega
      rcases hr with rfl | rfl | rfl | rfl | rfl | rfl | rfl | rfl <;> first | rfl | (exfalso;omega)
  rw [e]
  clear e
  have HB:=hR w;go_enter Tryz.func152,Tryz.ntmps152
  go_wp2_with (first | (go_at_call 153;((with_reducible refine Calls.mono (word_S0g _ (by omega) (by omega) _ he) ?_);rintro _ w1 ⟨rfl,hb⟩;have HB:=Aside0.mk (below_step (w:=w) blw hb);have hz1:=hb.size;obtain ⟨hcl1,hfr1,hlt1,_⟩:=bcell hb;(try simp only [sA,sC,sD] at hz1);(try simp only [sA,sC,sD] at hcl1 hfr1 hlt1);have HB1:=hR w1;clear hb)))
  go_ret2
  exact ⟨rfl,blw⟩
set_option maxHeartbeats 1000000 in
theorem impl_sideZero_7 (row : Int) (w : World) (g0 : 0 ≤ row) (g1 : row < 8) (he : Env w) : Calls Tryz.prog 152 #[.int .i64 row,.int .i64 7] w fun e w' => e = .returned (.tuple #[.string ⟨(zI row 7).1.toArray⟩,.int .i64 (zI row 7).2])∧Below w.heap.size w w':=by
  have e : zI row 7 = (wordAt LS0h row,7):=by
      have hr : row = 0 ∨ row = 1 ∨ row = 2 ∨ row = 3 ∨ row = 4 ∨ row = 5 ∨ row = 6 ∨ row = 7:=by omega
      rcases hr with rfl | rfl | rfl | rfl | rfl | rfl | rfl | rfl <;> first | rfl | (exfalso;omega)
  rw [e]
  clear e
  have HB:=hR w;go_enter Tryz.func152,Tryz.ntmps152
  go_wp2_with (first | (go_at_call 153;((with_reducible refine Calls.mono (word_S0h _ (by omega) (by omega) _ he) ?_);rintro _ w1 ⟨rfl,hb⟩;have HB:=Aside0.mk (below_step (w:=w) blw hb);have hz1:=hb.size;obtain ⟨hcl1,hfr1,hlt1,_⟩:=bcell hb;(try simp only [sA,sC,sD] at hz1);(try simp only [sA,sC,sD] at hcl1 hfr1 hlt1);have HB1:=hR w1;clear hb)))
  go_ret2
  exact ⟨rfl,blw⟩
set_option maxHeartbeats 1000000 in
theorem impl_sideTwo_0 (row : Int) (w : World) (g0 : 0 ≤ row) (g1 : row < 8) (he : Env w) : Calls Tryz.prog 154 #[.int .i64 row,.int .i64 0] w fun e w' => e = .returned (.tuple #[.string ⟨(tI row 0).1.toArray⟩,.int .i64 (tI row 0).2])∧Below w.heap.size w w':=by
  by_cases q0 : row = 4
  · subst q0
    rw [show tI 4 0 = (wordAt LS2a 4,2) from rfl]
    have hw:=fun W h => word_S2 4 (by omega) (by omega) W h
    rw [show wordAt LS2 4 = [83,84,88] from rfl] at hw
    have HB:=hR w;go_enter Tryz.func154,Tryz.ntmps154
    go_wp2_with fail
    refine (hw _ he).mono ?_
    rintro _ w1 ⟨rfl,hb⟩
    (have HB:=Aside0.mk (below_step (w:=w) blw hb);have hz1:=hb.size;obtain ⟨hcl1,hfr1,hlt1,_⟩:=bcell hb;(try simp only [sA,sC,sD] at hz1);(try simp only [sA,sC,sD] at hcl1 hfr1 hlt1);have HB1:=hR w1;clear hb)
    go_wp2_with (first | (go_at_call 153;((with_reducible refine Calls.mono (word_S2a _ (by omega) (by omega) _ (he.below HB.out)) ?_);rintro _ w2 ⟨rfl,hb⟩;have HB:=Aside0.mk (below_step (w:=w) blw hb);have HB1:=Aside0.mk (below_step (w:=w1) blw hb);have hz2:=hb.size;obtain ⟨hcl2,hfr2,hlt2,_⟩:=bcell hb;(try simp only [sA,sC,sD] at hz2);(try simp only [sA,sC,sD] at hcl2 hfr2 hlt2);have HB2:=hR w2;clear hb)))
    go_ret2
    exact ⟨rfl,blw⟩
  by_cases q1 : row = 5
  · subst q1
    rw [show tI 5 0 = (wordAt LS2a 5,2) from rfl]
    have hw:=fun W h => word_S2 5 (by omega) (by omega) W h
    rw [show wordAt LS2 5 = [76,68,88] from rfl] at hw
    have HB:=hR w;go_enter Tryz.func154,Tryz.ntmps154
    go_wp2_with fail
    refine (hw _ he).mono ?_
    rintro _ w1 ⟨rfl,hb⟩
    (have HB:=Aside0.mk (below_step (w:=w) blw hb);have hz1:=hb.size;obtain ⟨hcl1,hfr1,hlt1,_⟩:=bcell hb;(try simp only [sA,sC,sD] at hz1);(try simp only [sA,sC,sD] at hcl1 hfr1 hlt1);have HB1:=hR w1;clear hb)
    go_wp2_with (first | (go_at_call 153;((with_reducible refine Calls.mono (word_S2a _ (by omega) (by omega) _ (he.below HB.out)) ?_);rintro _ w2 ⟨rfl,hb⟩;have HB:=Aside0.mk (below_step (w:=w) blw hb);have HB1:=Aside0.mk (below_step (w:=w1) blw hb);have hz2:=hb.size;obtain ⟨hcl2,hfr2,hlt2,_⟩:=bcell hb;(try simp only [sA,sC,sD] at hz2);(try simp only [sA,sC,sD] at hcl2 hfr2 hlt2);have HB2:=hR w2;clear hb)))
    go_ret2
    exact ⟨rfl,blw⟩
  obtain ⟨x,hx,x1,x2⟩ : ∃ x,wordAt LS2 row = x∧(x == [83,84,88]) = false∧(x == [76,68,88]) = false:=by
    have hr : row = 0 ∨ row = 1 ∨ row = 2 ∨ row = 3 ∨ row = 4 ∨ row = 5 ∨ row = 6 ∨ row = 7:=by omega
    rcases hr with rfl | rfl | rfl | rfl | rfl | rfl | rfl | rfl <;> first | exact ⟨_,rfl,by decide,by decide⟩ | (exfalso;omega)
  have e : tI row 0 = (wordAt LS2a row,2):=by
      have hr : row = 0 ∨ row = 1 ∨ row = 2 ∨ row = 3 ∨ row = 4 ∨ row = 5 ∨ row = 6 ∨ row = 7:=by omega
      rcases hr with rfl | rfl | rfl | rfl | rfl | rfl | rfl | rfl <;> first | rfl | (exfalso;omega)
  rw [e]
  clear e
  have hw:=fun W h => word_S2 row (by omega) (by omega) W h
  rw [hx] at hw
  try rw [hx]
  clear hx
  have HB:=hR w;go_enter Tryz.func154,Tryz.ntmps154
  go_wp2_with fail
  refine (hw _ he).mono ?_
  rintro _ w1 ⟨rfl,hb⟩
  (have HB:=Aside0.mk (below_step (w:=w) blw hb);have hz1:=hb.size;obtain ⟨hcl1,hfr1,hlt1,_⟩:=bcell hb;(try simp only [sA,sC,sD] at hz1);(try simp only [sA,sC,sD] at hcl1 hfr1 hlt1);have HB1:=hR w1;clear hb)
  go_wp2_with (first | (go_at_call 153;((with_reducible refine Calls.mono (word_S2a _ (by omega) (by omega) _ (he.below HB.out)) ?_);rintro _ w2 ⟨rfl,hb⟩;have HB:=Aside0.mk (below_step (w:=w) blw hb);have HB1:=Aside0.mk (below_step (w:=w1) blw hb);have hz2:=hb.size;obtain ⟨hcl2,hfr2,hlt2,_⟩:=bcell hb;(try simp only [sA,sC,sD] at hz2);(try simp only [sA,sC,sD] at hcl2 hfr2 hlt2);have HB2:=hR w2;clear hb)))
  go_ret2
  exact ⟨rfl,blw⟩
set_option maxHeartbeats 1000000 in
theorem impl_sideTwo_1 (row : Int) (w : World) (g0 : 0 ≤ row) (g1 : row < 8) (he : Env w) : Calls Tryz.prog 154 #[.int .i64 row,.int .i64 1] w fun e w' => e = .returned (.tuple #[.string ⟨(tI row 1).1.toArray⟩,.int .i64 (tI row 1).2])∧Below w.heap.size w w':=by
  by_cases q0 : row = 4
  · subst q0
    rw [show tI 4 1 = ([83,84,88],3) from rfl]
    have hw:=fun W h => word_S2 4 (by omega) (by omega) W h
    rw [show wordAt LS2 4 = [83,84,88] from rfl] at hw
    have HB:=hR w;go_enter Tryz.func154,Tryz.ntmps154
    go_wp2_with fail
    refine (hw _ he).mono ?_
    rintro _ w1 ⟨rfl,hb⟩
    (have HB:=Aside0.mk (below_step (w:=w) blw hb);have hz1:=hb.size;obtain ⟨hcl1,hfr1,hlt1,_⟩:=bcell hb;(try simp only [sA,sC,sD] at hz1);(try simp only [sA,sC,sD] at hcl1 hfr1 hlt1);have HB1:=hR w1;clear hb)
    go_wp2_with fail
    go_ret2
    exact ⟨rfl,blw⟩
  by_cases q1 : row = 5
  · subst q1
    rw [show tI 5 1 = ([76,68,88],3) from rfl]
    have hw:=fun W h => word_S2 5 (by omega) (by omega) W h
    rw [show wordAt LS2 5 = [76,68,88] from rfl] at hw
    have HB:=hR w;go_enter Tryz.func154,Tryz.ntmps154
    go_wp2_with fail
    refine (hw _ he).mono ?_
    rintro _ w1 ⟨rfl,hb⟩
    (have HB:=Aside0.mk (below_step (w:=w) blw hb);have hz1:=hb.size;obtain ⟨hcl1,hfr1,hlt1,_⟩:=bcell hb;(try simp only [sA,sC,sD] at hz1);(try simp only [sA,sC,sD] at hcl1 hfr1 hlt1);have HB1:=hR w1;clear hb)
    go_wp2_with fail
    go_ret2
    exact ⟨rfl,blw⟩
  obtain ⟨x,hx,x1,x2⟩ : ∃ x,wordAt LS2 row = x∧(x == [83,84,88]) = false∧(x == [76,68,88]) = false:=by
    have hr : row = 0 ∨ row = 1 ∨ row = 2 ∨ row = 3 ∨ row = 4 ∨ row = 5 ∨ row = 6 ∨ row = 7:=by omega
    rcases hr with rfl | rfl | rfl | rfl | rfl | rfl | rfl | rfl <;> first | exact ⟨_,rfl,by decide,by decide⟩ | (exfalso;omega)
  have e : tI row 1 = (wordAt LS2 row,3):=by
      have hr : row = 0 ∨ row = 1 ∨ row = 2 ∨ row = 3 ∨ row = 4 ∨ row = 5 ∨ row = 6 ∨ row = 7:=by omega
      rcases hr with rfl | rfl | rfl | rfl | rfl | rfl | rfl | rfl <;> first | rfl | (exfalso;omega)
  rw [e]
  clear e
  have hw:=fun W h => word_S2 row (by omega) (by omega) W h
  rw [hx] at hw
  try rw [hx]
  clear hx
  have HB:=hR w;go_enter Tryz.func154,Tryz.ntmps154
  go_wp2_with fail
  refine (hw _ he).mono ?_
  rintro _ w1 ⟨rfl,hb⟩
  (have HB:=Aside0.mk (below_step (w:=w) blw hb);have hz1:=hb.size;obtain ⟨hcl1,hfr1,hlt1,_⟩:=bcell hb;(try simp only [sA,sC,sD] at hz1);(try simp only [sA,sC,sD] at hcl1 hfr1 hlt1);have HB1:=hR w1;clear hb)
  go_wp2_with fail
  go_ret2
  exact ⟨rfl,blw⟩
set_option maxHeartbeats 1000000 in
theorem impl_sideTwo_2 (row : Int) (w : World) (g0 : 0 ≤ row) (g1 : row < 8) (he : Env w) : Calls Tryz.prog 154 #[.int .i64 row,.int .i64 2] w fun e w' => e = .returned (.tuple #[.string ⟨(tI row 2).1.toArray⟩,.int .i64 (tI row 2).2])∧Below w.heap.size w w':=by
  by_cases q0 : row = 4
  · subst q0
    rw [show tI 4 2 = (wordAt LS2b 4,0) from rfl]
    have hw:=fun W h => word_S2 4 (by omega) (by omega) W h
    rw [show wordAt LS2 4 = [83,84,88] from rfl] at hw
    have HB:=hR w;go_enter Tryz.func154,Tryz.ntmps154
    go_wp2_with fail
    refine (hw _ he).mono ?_
    rintro _ w1 ⟨rfl,hb⟩
    (have HB:=Aside0.mk (below_step (w:=w) blw hb);have hz1:=hb.size;obtain ⟨hcl1,hfr1,hlt1,_⟩:=bcell hb;(try simp only [sA,sC,sD] at hz1);(try simp only [sA,sC,sD] at hcl1 hfr1 hlt1);have HB1:=hR w1;clear hb)
    go_wp2_with (first | (go_at_call 153;((with_reducible refine Calls.mono (word_S2b _ (by omega) (by omega) _ (he.below HB.out)) ?_);rintro _ w2 ⟨rfl,hb⟩;have HB:=Aside0.mk (below_step (w:=w) blw hb);have HB1:=Aside0.mk (below_step (w:=w1) blw hb);have hz2:=hb.size;obtain ⟨hcl2,hfr2,hlt2,_⟩:=bcell hb;(try simp only [sA,sC,sD] at hz2);(try simp only [sA,sC,sD] at hcl2 hfr2 hlt2);have HB2:=hR w2;clear hb)))
    go_ret2
    exact ⟨rfl,blw⟩
  by_cases q1 : row = 5
  · subst q1
    rw [show tI 5 2 = (wordAt LS2b 5,0) from rfl]
    have hw:=fun W h => word_S2 5 (by omega) (by omega) W h
    rw [show wordAt LS2 5 = [76,68,88] from rfl] at hw
    have HB:=hR w;go_enter Tryz.func154,Tryz.ntmps154
    go_wp2_with fail
    refine (hw _ he).mono ?_
    rintro _ w1 ⟨rfl,hb⟩
    (have HB:=Aside0.mk (below_step (w:=w) blw hb);have hz1:=hb.size;obtain ⟨hcl1,hfr1,hlt1,_⟩:=bcell hb;(try simp only [sA,sC,sD] at hz1);(try simp only [sA,sC,sD] at hcl1 hfr1 hlt1);have HB1:=hR w1;clear hb)
    go_wp2_with (first | (go_at_call 153;((with_reducible refine Calls.mono (word_S2b _ (by omega) (by omega) _ (he.below HB.out)) ?_);rintro _ w2 ⟨rfl,hb⟩;have HB:=Aside0.mk (below_step (w:=w) blw hb);have HB1:=Aside0.mk (below_step (w:=w1) blw hb);have hz2:=hb.size;obtain ⟨hcl2,hfr2,hlt2,_⟩:=bcell hb;(try simp only [sA,sC,sD] at hz2);(try simp only [sA,sC,sD] at hcl2 hfr2 hlt2);have HB2:=hR w2;clear hb)))
    go_ret2
    exact ⟨rfl,blw⟩
  by_cases q2 : row < 4
  · obtain ⟨x,hx,x1,x2⟩ : ∃ x,wordAt LS2 row = x∧(x == [83,84,88]) = false∧(x == [76,68,88]) = false:=by
      have hr : row = 0 ∨ row = 1 ∨ row = 2 ∨ row = 3 ∨ row = 4 ∨ row = 5 ∨ row = 6 ∨ row = 7:=by omega
      rcases hr with rfl | rfl | rfl | rfl | rfl | rfl | rfl | rfl <;> first | exact ⟨_,rfl,by decide,by decide⟩ | (exfalso;omega)
    have e : tI row 2 = (wordAt LS2 row,1):=by
        have hr : row = 0 ∨ row = 1 ∨ row = 2 ∨ row = 3 ∨ row = 4 ∨ row = 5 ∨ row = 6 ∨ row = 7:=by omega
        rcases hr with rfl | rfl | rfl | rfl | rfl | rfl | rfl | rfl <;> first | rfl | (exfalso;omega)
    rw [e]
    clear e
    have hw:=fun W h => word_S2 row (by omega) (by omega) W h
    rw [hx] at hw
    try rw [hx]
    clear hx
    have HB:=hR w;go_enter Tryz.func154,Tryz.ntmps154
    go_wp2_with fail
    refine (hw _ he).mono ?_
    rintro _ w1 ⟨rfl,hb⟩
    (have HB:=Aside0.mk (below_step (w:=w) blw hb);have hz1:=hb.size;obtain ⟨hcl1,hfr1,hlt1,_⟩:=bcell hb;(try simp only [sA,sC,sD] at hz1);(try simp only [sA,sC,sD] at hcl1 hfr1 hlt1);have HB1:=hR w1;clear hb)
    go_wp2_with fail
    go_ret2
    exact ⟨rfl,blw⟩
  obtain ⟨x,hx,x1,x2⟩ : ∃ x,wordAt LS2 row = x∧(x == [83,84,88]) = false∧(x == [76,68,88]) = false:=by
    have hr : row = 0 ∨ row = 1 ∨ row = 2 ∨ row = 3 ∨ row = 4 ∨ row = 5 ∨ row = 6 ∨ row = 7:=by omega
    rcases hr with rfl | rfl | rfl | rfl | rfl | rfl | rfl | rfl <;> first | exact ⟨_,rfl,by decide,by decide⟩ | (exfalso;omega)
  have e : tI row 2 = (wordAt LS2b row,0):=by
      have hr : row = 0 ∨ row = 1 ∨ row = 2 ∨ row = 3 ∨ row = 4 ∨ row = 5 ∨ row = 6 ∨ row = 7:=by omega
      rcases hr with rfl | rfl | rfl | rfl | rfl | rfl | rfl | rfl <;> first | rfl | (exfalso;omega)
  rw [e]
  clear e
  have hw:=fun W h => word_S2 row (by omega) (by omega) W h
  rw [hx] at hw
  try rw [hx]
  clear hx
  have HB:=hR w;go_enter Tryz.func154,Tryz.ntmps154
  go_wp2_with fail
  refine (hw _ he).mono ?_
  rintro _ w1 ⟨rfl,hb⟩
  (have HB:=Aside0.mk (below_step (w:=w) blw hb);have hz1:=hb.size;obtain ⟨hcl1,hfr1,hlt1,_⟩:=bcell hb;(try simp only [sA,sC,sD] at hz1);(try simp only [sA,sC,sD] at hcl1 hfr1 hlt1);have HB1:=hR w1;clear hb)
  go_wp2_with (first | (go_at_call 153;((with_reducible refine Calls.mono (word_S2b _ (by omega) (by omega) _ (he.below HB.out)) ?_);rintro _ w2 ⟨rfl,hb⟩;have HB:=Aside0.mk (below_step (w:=w) blw hb);have HB1:=Aside0.mk (below_step (w:=w1) blw hb);have hz2:=hb.size;obtain ⟨hcl2,hfr2,hlt2,_⟩:=bcell hb;(try simp only [sA,sC,sD] at hz2);(try simp only [sA,sC,sD] at hcl2 hfr2 hlt2);have HB2:=hR w2;clear hb)))
  go_ret2
  exact ⟨rfl,blw⟩
set_option maxHeartbeats 1000000 in
theorem impl_sideTwo_3 (row : Int) (w : World) (g0 : 0 ≤ row) (g1 : row < 8) (he : Env w) : Calls Tryz.prog 154 #[.int .i64 row,.int .i64 3] w fun e w' => e = .returned (.tuple #[.string ⟨(tI row 3).1.toArray⟩,.int .i64 (tI row 3).2])∧Below w.heap.size w w':=by
  by_cases q0 : row = 4
  · subst q0
    rw [show tI 4 3 = ([83,84,88],6) from rfl]
    have hw:=fun W h => word_S2 4 (by omega) (by omega) W h
    rw [show wordAt LS2 4 = [83,84,88] from rfl] at hw
    have HB:=hR w;go_enter Tryz.func154,Tryz.ntmps154
    go_wp2_with fail
    refine (hw _ he).mono ?_
    rintro _ w1 ⟨rfl,hb⟩
    (have HB:=Aside0.mk (below_step (w:=w) blw hb);have hz1:=hb.size;obtain ⟨hcl1,hfr1,hlt1,_⟩:=bcell hb;(try simp only [sA,sC,sD] at hz1);(try simp only [sA,sC,sD] at hcl1 hfr1 hlt1);have HB1:=hR w1;clear hb)
    go_wp2_with fail
    go_ret2
    exact ⟨rfl,blw⟩
  by_cases q1 : row = 5
  · subst q1
    rw [show tI 5 3 = ([76,68,88],6) from rfl]
    have hw:=fun W h => word_S2 5 (by omega) (by omega) W h
    rw [show wordAt LS2 5 = [76,68,88] from rfl] at hw
    have HB:=hR w;go_enter Tryz.func154,Tryz.ntmps154
    go_wp2_with fail
    refine (hw _ he).mono ?_
    rintro _ w1 ⟨rfl,hb⟩
    (have HB:=Aside0.mk (below_step (w:=w) blw hb);have hz1:=hb.size;obtain ⟨hcl1,hfr1,hlt1,_⟩:=bcell hb;(try simp only [sA,sC,sD] at hz1);(try simp only [sA,sC,sD] at hcl1 hfr1 hlt1);have HB1:=hR w1;clear hb)
    go_wp2_with fail
    go_ret2
    exact ⟨rfl,blw⟩
  obtain ⟨x,hx,x1,x2⟩ : ∃ x,wordAt LS2 row = x∧(x == [83,84,88]) = false∧(x == [76,68,88]) = false:=by
    have hr : row = 0 ∨ row = 1 ∨ row = 2 ∨ row = 3 ∨ row = 4 ∨ row = 5 ∨ row = 6 ∨ row = 7:=by omega
    rcases hr with rfl | rfl | rfl | rfl | rfl | rfl | rfl | rfl <;> first | exact ⟨_,rfl,by decide,by decide⟩ | (exfalso;omega)
  have e : tI row 3 = (wordAt LS2 row,6):=by
      have hr : row = 0 ∨ row = 1 ∨ row = 2 ∨ row = 3 ∨ row = 4 ∨ row = 5 ∨ row = 6 ∨ row = 7:=by omega
      rcases hr with rfl | rfl | rfl | rfl | rfl | rfl | rfl | rfl <;> first | rfl | (exfalso;omega)
  rw [e]
  clear e
  have hw:=fun W h => word_S2 row (by omega) (by omega) W h
  rw [hx] at hw
  try rw [hx]
  clear hx
  have HB:=hR w;go_enter Tryz.func154,Tryz.ntmps154
  go_wp2_with fail
  refine (hw _ he).mono ?_
  rintro _ w1 ⟨rfl,hb⟩
  (have HB:=Aside0.mk (below_step (w:=w) blw hb);have hz1:=hb.size;obtain ⟨hcl1,hfr1,hlt1,_⟩:=bcell hb;(try simp only [sA,sC,sD] at hz1);(try simp only [sA,sC,sD] at hcl1 hfr1 hlt1);have HB1:=hR w1;clear hb)
  go_wp2_with fail
  go_ret2
  exact ⟨rfl,blw⟩
set_option maxHeartbeats 1000000 in
theorem impl_sideTwo_4 (row : Int) (w : World) (g0 : 0 ≤ row) (g1 : row < 8) (he : Env w) : Calls Tryz.prog 154 #[.int .i64 row,.int .i64 4] w fun e w' => e = .returned (.tuple #[.string ⟨(tI row 4).1.toArray⟩,.int .i64 (tI row 4).2])∧Below w.heap.size w w':=by
  by_cases q0 : row = 4
  · subst q0
    rw [show tI 4 4 = ([],-1) from rfl]
    have hw:=fun W h => word_S2 4 (by omega) (by omega) W h
    rw [show wordAt LS2 4 = [83,84,88] from rfl] at hw
    have HB:=hR w;go_enter Tryz.func154,Tryz.ntmps154
    go_wp2_with fail
    refine (hw _ he).mono ?_
    rintro _ w1 ⟨rfl,hb⟩
    (have HB:=Aside0.mk (below_step (w:=w) blw hb);have hz1:=hb.size;obtain ⟨hcl1,hfr1,hlt1,_⟩:=bcell hb;(try simp only [sA,sC,sD] at hz1);(try simp only [sA,sC,sD] at hcl1 hfr1 hlt1);have HB1:=hR w1;clear hb)
    go_wp2_with fail
    go_ret2
    exact ⟨rfl,blw⟩
  by_cases q1 : row = 5
  · subst q1
    rw [show tI 5 4 = ([],-1) from rfl]
    have hw:=fun W h => word_S2 5 (by omega) (by omega) W h
    rw [show wordAt LS2 5 = [76,68,88] from rfl] at hw
    have HB:=hR w;go_enter Tryz.func154,Tryz.ntmps154
    go_wp2_with fail
    refine (hw _ he).mono ?_
    rintro _ w1 ⟨rfl,hb⟩
    (have HB:=Aside0.mk (below_step (w:=w) blw hb);have hz1:=hb.size;obtain ⟨hcl1,hfr1,hlt1,_⟩:=bcell hb;(try simp only [sA,sC,sD] at hz1);(try simp only [sA,sC,sD] at hcl1 hfr1 hlt1);have HB1:=hR w1;clear hb)
    go_wp2_with fail
    go_ret2
    exact ⟨rfl,blw⟩
  obtain ⟨x,hx,x1,x2⟩ : ∃ x,wordAt LS2 row = x∧(x == [83,84,88]) = false∧(x == [76,68,88]) = false:=by
    have hr : row = 0 ∨ row = 1 ∨ row = 2 ∨ row = 3 ∨ row = 4 ∨ row = 5 ∨ row = 6 ∨ row = 7:=by omega
    rcases hr with rfl | rfl | rfl | rfl | rfl | rfl | rfl | rfl <;> first | exact ⟨_,rfl,by decide,by decide⟩ | (exfalso;omega)
  have e : tI row 4 = ([],-1):=by
      have hr : row = 0 ∨ row = 1 ∨ row = 2 ∨ row = 3 ∨ row = 4 ∨ row = 5 ∨ row = 6 ∨ row = 7:=by omega
      rcases hr with rfl | rfl | rfl | rfl | rfl | rfl | rfl | rfl <;> first | rfl | (exfalso;omega)
  rw [e]
  clear e
  have hw:=fun W h => word_S2 row (by omega) (by omega) W h
  rw [hx] at hw
  try rw [hx]
  clear hx
  have HB:=hR w;go_enter Tryz.func154,Tryz.ntmps154
  go_wp2_with fail
  refine (hw _ he).mono ?_
  rintro _ w1 ⟨rfl,hb⟩
  (have HB:=Aside0.mk (below_step (w:=w) blw hb);have hz1:=hb.size;obtain ⟨hcl1,hfr1,hlt1,_⟩:=bcell hb;(try simp only [sA,sC,sD] at hz1);(try simp only [sA,sC,sD] at hcl1 hfr1 hlt1);have HB1:=hR w1;clear hb)
  go_wp2_with fail
  go_ret2
  exact ⟨rfl,blw⟩
set_option maxHeartbeats 1000000 in
theorem impl_sideTwo_5 (row : Int) (w : World) (g0 : 0 ≤ row) (g1 : row < 8) (he : Env w) : Calls Tryz.prog 154 #[.int .i64 row,.int .i64 5] w fun e w' => e = .returned (.tuple #[.string ⟨(tI row 5).1.toArray⟩,.int .i64 (tI row 5).2])∧Below w.heap.size w w':=by
  by_cases q0 : row = 4
  · subst q0
    rw [show tI 4 5 = ([83,84,88],5) from rfl]
    have hw:=fun W h => word_S2 4 (by omega) (by omega) W h
    rw [show wordAt LS2 4 = [83,84,88] from rfl] at hw
    have HB:=hR w;go_enter Tryz.func154,Tryz.ntmps154
    go_wp2_with fail
    refine (hw _ he).mono ?_
    rintro _ w1 ⟨rfl,hb⟩
    (have HB:=Aside0.mk (below_step (w:=w) blw hb);have hz1:=hb.size;obtain ⟨hcl1,hfr1,hlt1,_⟩:=bcell hb;(try simp only [sA,sC,sD] at hz1);(try simp only [sA,sC,sD] at hcl1 hfr1 hlt1);have HB1:=hR w1;clear hb)
    go_wp2_with fail
    go_ret2
    exact ⟨rfl,blw⟩
  by_cases q1 : row = 5
  · subst q1
    rw [show tI 5 5 = ([76,68,88],5) from rfl]
    have hw:=fun W h => word_S2 5 (by omega) (by omega) W h
    rw [show wordAt LS2 5 = [76,68,88] from rfl] at hw
    have HB:=hR w;go_enter Tryz.func154,Tryz.ntmps154
    go_wp2_with fail
    refine (hw _ he).mono ?_
    rintro _ w1 ⟨rfl,hb⟩
    (have HB:=Aside0.mk (below_step (w:=w) blw hb);have hz1:=hb.size;obtain ⟨hcl1,hfr1,hlt1,_⟩:=bcell hb;(try simp only [sA,sC,sD] at hz1);(try simp only [sA,sC,sD] at hcl1 hfr1 hlt1);have HB1:=hR w1;clear hb)
    go_wp2_with fail
    go_ret2
    exact ⟨rfl,blw⟩
  obtain ⟨x,hx,x1,x2⟩ : ∃ x,wordAt LS2 row = x∧(x == [83,84,88]) = false∧(x == [76,68,88]) = false:=by
    have hr : row = 0 ∨ row = 1 ∨ row = 2 ∨ row = 3 ∨ row = 4 ∨ row = 5 ∨ row = 6 ∨ row = 7:=by omega
    rcases hr with rfl | rfl | rfl | rfl | rfl | rfl | rfl | rfl <;> first | exact ⟨_,rfl,by decide,by decide⟩ | (exfalso;omega)
  have e : tI row 5 = (wordAt LS2 row,4):=by
      have hr : row = 0 ∨ row = 1 ∨ row = 2 ∨ row = 3 ∨ row = 4 ∨ row = 5 ∨ row = 6 ∨ row = 7:=by omega
      rcases hr with rfl | rfl | rfl | rfl | rfl | rfl | rfl | rfl <;> first | rfl | (exfalso;omega)
  rw [e]
  clear e
  have hw:=fun W h => word_S2 row (by omega) (by omega) W h
  rw [hx] at hw
  try rw [hx]
  clear hx
  have HB:=hR w;go_enter Tryz.func154,Tryz.ntmps154
  go_wp2_with fail
  refine (hw _ he).mono ?_
  rintro _ w1 ⟨rfl,hb⟩
  (have HB:=Aside0.mk (below_step (w:=w) blw hb);have hz1:=hb.size;obtain ⟨hcl1,hfr1,hlt1,_⟩:=bcell hb;(try simp only [sA,sC,sD] at hz1);(try simp only [sA,sC,sD] at hcl1 hfr1 hlt1);have HB1:=hR w1;clear hb)
  go_wp2_with fail
  go_ret2
  exact ⟨rfl,blw⟩
set_option maxHeartbeats 1000000 in
theorem impl_sideTwo_6 (row : Int) (w : World) (g0 : 0 ≤ row) (g1 : row < 8) (he : Env w) : Calls Tryz.prog 154 #[.int .i64 row,.int .i64 6] w fun e w' => e = .returned (.tuple #[.string ⟨(tI row 6).1.toArray⟩,.int .i64 (tI row 6).2])∧Below w.heap.size w w':=by
  by_cases q0 : row = 4
  · subst q0
    rw [show tI 4 6 = (wordAt LS2c 4,0) from rfl]
    have hw:=fun W h => word_S2 4 (by omega) (by omega) W h
    rw [show wordAt LS2 4 = [83,84,88] from rfl] at hw
    have HB:=hR w;go_enter Tryz.func154,Tryz.ntmps154
    go_wp2_with fail
    refine (hw _ he).mono ?_
    rintro _ w1 ⟨rfl,hb⟩
    (have HB:=Aside0.mk (below_step (w:=w) blw hb);have hz1:=hb.size;obtain ⟨hcl1,hfr1,hlt1,_⟩:=bcell hb;(try simp only [sA,sC,sD] at hz1);(try simp only [sA,sC,sD] at hcl1 hfr1 hlt1);have HB1:=hR w1;clear hb)
    go_wp2_with (first | (go_at_call 153;((with_reducible refine Calls.mono (word_S2c _ (by omega) (by omega) _ (he.below HB.out)) ?_);rintro _ w2 ⟨rfl,hb⟩;have HB:=Aside0.mk (below_step (w:=w) blw hb);have HB1:=Aside0.mk (below_step (w:=w1) blw hb);have hz2:=hb.size;obtain ⟨hcl2,hfr2,hlt2,_⟩:=bcell hb;(try simp only [sA,sC,sD] at hz2);(try simp only [sA,sC,sD] at hcl2 hfr2 hlt2);have HB2:=hR w2;clear hb)))
    go_ret2
    exact ⟨rfl,blw⟩
  by_cases q1 : row = 5
  · subst q1
    rw [show tI 5 6 = (wordAt LS2c 5,0) from rfl]
    have hw:=fun W h => word_S2 5 (by omega) (by omega) W h
    rw [show wordAt LS2 5 = [76,68,88] from rfl] at hw
    have HB:=hR w;go_enter Tryz.func154,Tryz.ntmps154
    go_wp2_with fail
    refine (hw _ he).mono ?_
    rintro _ w1 ⟨rfl,hb⟩
    (have HB:=Aside0.mk (below_step (w:=w) blw hb);have hz1:=hb.size;obtain ⟨hcl1,hfr1,hlt1,_⟩:=bcell hb;(try simp only [sA,sC,sD] at hz1);(try simp only [sA,sC,sD] at hcl1 hfr1 hlt1);have HB1:=hR w1;clear hb)
    go_wp2_with (first | (go_at_call 153;((with_reducible refine Calls.mono (word_S2c _ (by omega) (by omega) _ (he.below HB.out)) ?_);rintro _ w2 ⟨rfl,hb⟩;have HB:=Aside0.mk (below_step (w:=w) blw hb);have HB1:=Aside0.mk (below_step (w:=w1) blw hb);have hz2:=hb.size;obtain ⟨hcl2,hfr2,hlt2,_⟩:=bcell hb;(try simp only [sA,sC,sD] at hz2);(try simp only [sA,sC,sD] at hcl2 hfr2 hlt2);have HB2:=hR w2;clear hb)))
    go_ret2
    exact ⟨rfl,blw⟩
  obtain ⟨x,hx,x1,x2⟩ : ∃ x,wordAt LS2 row = x∧(x == [83,84,88]) = false∧(x == [76,68,88]) = false:=by
    have hr : row = 0 ∨ row = 1 ∨ row = 2 ∨ row = 3 ∨ row = 4 ∨ row = 5 ∨ row = 6 ∨ row = 7:=by omega
    rcases hr with rfl | rfl | rfl | rfl | rfl | rfl | rfl | rfl <;> first | exact ⟨_,rfl,by decide,by decide⟩ | (exfalso;omega)
  have e : tI row 6 = (wordAt LS2c row,0):=by
      have hr : row = 0 ∨ row = 1 ∨ row = 2 ∨ row = 3 ∨ row = 4 ∨ row = 5 ∨ row = 6 ∨ row = 7:=by omega
      rcases hr with rfl | rfl | rfl | rfl | rfl | rfl | rfl | rfl <;> first | rfl | (exfalso;omega)
  rw [e]
  clear e
  have hw:=fun W h => word_S2 row (by omega) (by omega) W h
  rw [hx] at hw
  try rw [hx]
  clear hx
  have HB:=hR w;go_enter Tryz.func154,Tryz.ntmps154
  go_wp2_with fail
  refine (hw _ he).mono ?_
  rintro _ w1 ⟨rfl,hb⟩
  (have HB:=Aside0.mk (below_step (w:=w) blw hb);have hz1:=hb.size;obtain ⟨hcl1,hfr1,hlt1,_⟩:=bcell hb;(try simp only [sA,sC,sD] at hz1);(try simp only [sA,sC,sD] at hcl1 hfr1 hlt1);have HB1:=hR w1;clear hb)
  go_wp2_with (first | (go_at_call 153;((with_reducible refine Calls.mono (word_S2c _ (by omega) (by omega) _ (he.below HB.out)) ?_);rintro _ w2 ⟨rfl,hb⟩;have HB:=Aside0.mk (below_step (w:=w) blw hb);have HB1:=Aside0.mk (below_step (w:=w1) blw hb);have hz2:=hb.size;obtain ⟨hcl2,hfr2,hlt2,_⟩:=bcell hb;(try simp only [sA,sC,sD] at hz2);(try simp only [sA,sC,sD] at hcl2 hfr2 hlt2);have HB2:=hR w2;clear hb)))
  go_ret2
  exact ⟨rfl,blw⟩
set_option maxHeartbeats 1000000 in
theorem impl_sideTwo_7 (row : Int) (w : World) (g0 : 0 ≤ row) (g1 : row < 8) (he : Env w) : Calls Tryz.prog 154 #[.int .i64 row,.int .i64 7] w fun e w' => e = .returned (.tuple #[.string ⟨(tI row 7).1.toArray⟩,.int .i64 (tI row 7).2])∧Below w.heap.size w w':=by
  by_cases q0 : row = 4
  · subst q0
    rw [show tI 4 7 = (wordAt LS2a 4,8) from rfl]
    have hw:=fun W h => word_S2 4 (by omega) (by omega) W h
    rw [show wordAt LS2 4 = [83,84,88] from rfl] at hw
    have HB:=hR w;go_enter Tryz.func154,Tryz.ntmps154
    go_wp2_with fail
    refine (hw _ he).mono ?_
    rintro _ w1 ⟨rfl,hb⟩
    (have HB:=Aside0.mk (below_step (w:=w) blw hb);have hz1:=hb.size;obtain ⟨hcl1,hfr1,hlt1,_⟩:=bcell hb;(try simp only [sA,sC,sD] at hz1);(try simp only [sA,sC,sD] at hcl1 hfr1 hlt1);have HB1:=hR w1;clear hb)
    go_wp2_with (first | (go_at_call 153;((with_reducible refine Calls.mono (word_S2a _ (by omega) (by omega) _ (he.below HB.out)) ?_);rintro _ w2 ⟨rfl,hb⟩;have HB:=Aside0.mk (below_step (w:=w) blw hb);have HB1:=Aside0.mk (below_step (w:=w1) blw hb);have hz2:=hb.size;obtain ⟨hcl2,hfr2,hlt2,_⟩:=bcell hb;(try simp only [sA,sC,sD] at hz2);(try simp only [sA,sC,sD] at hcl2 hfr2 hlt2);have HB2:=hR w2;clear hb)))
    go_ret2
    exact ⟨rfl,blw⟩
  by_cases q1 : row = 5
  · subst q1
    rw [show tI 5 7 = (wordAt LS2a 5,8) from rfl]
    have hw:=fun W h => word_S2 5 (by omega) (by omega) W h
    rw [show wordAt LS2 5 = [76,68,88] from rfl] at hw
    have HB:=hR w;go_enter Tryz.func154,Tryz.ntmps154
    go_wp2_with fail
    refine (hw _ he).mono ?_
    rintro _ w1 ⟨rfl,hb⟩
    (have HB:=Aside0.mk (below_step (w:=w) blw hb);have hz1:=hb.size;obtain ⟨hcl1,hfr1,hlt1,_⟩:=bcell hb;(try simp only [sA,sC,sD] at hz1);(try simp only [sA,sC,sD] at hcl1 hfr1 hlt1);have HB1:=hR w1;clear hb)
    go_wp2_with (first | (go_at_call 153;((with_reducible refine Calls.mono (word_S2a _ (by omega) (by omega) _ (he.below HB.out)) ?_);rintro _ w2 ⟨rfl,hb⟩;have HB:=Aside0.mk (below_step (w:=w) blw hb);have HB1:=Aside0.mk (below_step (w:=w1) blw hb);have hz2:=hb.size;obtain ⟨hcl2,hfr2,hlt2,_⟩:=bcell hb;(try simp only [sA,sC,sD] at hz2);(try simp only [sA,sC,sD] at hcl2 hfr2 hlt2);have HB2:=hR w2;clear hb)))
    go_ret2
    exact ⟨rfl,blw⟩
  obtain ⟨x,hx,x1,x2⟩ : ∃ x,wordAt LS2 row = x∧(x == [83,84,88]) = false∧(x == [76,68,88]) = false:=by
    have hr : row = 0 ∨ row = 1 ∨ row = 2 ∨ row = 3 ∨ row = 4 ∨ row = 5 ∨ row = 6 ∨ row = 7:=by omega
    rcases hr with rfl | rfl | rfl | rfl | rfl | rfl | rfl | rfl <;> first | exact ⟨_,rfl,by decide,by decide⟩ | (exfalso;omega)
  have e : tI row 7 = (wordAt LS2 row,7):=by
      have hr : row = 0 ∨ row = 1 ∨ row = 2 ∨ row = 3 ∨ row = 4 ∨ row = 5 ∨ row = 6 ∨ row = 7:=by omega
      rcases hr with rfl | rfl | rfl | rfl | rfl | rfl | rfl | rfl <;> first | rfl | (exfalso;omega)
  rw [e]
  clear e
  have hw:=fun W h => word_S2 row (by omega) (by omega) W h
  rw [hx] at hw
  try rw [hx]
  clear hx
  have HB:=hR w;go_enter Tryz.func154,Tryz.ntmps154
  go_wp2_with fail
  refine (hw _ he).mono ?_
  rintro _ w1 ⟨rfl,hb⟩
  (have HB:=Aside0.mk (below_step (w:=w) blw hb);have hz1:=hb.size;obtain ⟨hcl1,hfr1,hlt1,_⟩:=bcell hb;(try simp only [sA,sC,sD] at hz1);(try simp only [sA,sC,sD] at hcl1 hfr1 hlt1);have HB1:=hR w1;clear hb)
  go_wp2_with fail
  go_ret2
  exact ⟨rfl,blw⟩
theorem impl_sideZero (row part : Int) (w : World) (g0 : 0 ≤ row) (g1 : row < 8) (h0 : 0 ≤ part) (h1 : part < 8) (he : Env w) : Calls Tryz.prog 152 #[.int .i64 row,.int .i64 part] w fun e w' => e = .returned (.tuple #[.string ⟨(zI row part).1.toArray⟩,.int .i64 (zI row part).2])∧Below w.heap.size w w':=by
  have hp : part = 0 ∨ part = 1 ∨ part = 2 ∨ part = 3 ∨ part = 4 ∨ part = 5 ∨ part = 6 ∨ part = 7:=by omega
  rcases hp with rfl | rfl | rfl | rfl | rfl | rfl | rfl | rfl
  · exact impl_sideZero_0 row w g0 g1 he
  · exact impl_sideZero_1 row w g0 g1 he
  · exact impl_sideZero_2 row w g0 g1 he
  · exact impl_sideZero_3 row w g0 g1 he
  · exact impl_sideZero_4 row w g0 g1 he
  · exact impl_sideZero_5 row w g0 g1 he
  · exact impl_sideZero_6 row w g0 g1 he
  · exact impl_sideZero_7 row w g0 g1 he
theorem impl_sideTwo (row part : Int) (w : World) (g0 : 0 ≤ row) (g1 : row < 8) (h0 : 0 ≤ part) (h1 : part < 8) (he : Env w) : Calls Tryz.prog 154 #[.int .i64 row,.int .i64 part] w fun e w' => e = .returned (.tuple #[.string ⟨(tI row part).1.toArray⟩,.int .i64 (tI row part).2])∧Below w.heap.size w w':=by
  have hp : part = 0 ∨ part = 1 ∨ part = 2 ∨ part = 3 ∨ part = 4 ∨ part = 5 ∨ part = 6 ∨ part = 7:=by omega
  rcases hp with rfl | rfl | rfl | rfl | rfl | rfl | rfl | rfl
  · exact impl_sideTwo_0 row w g0 g1 he
  · exact impl_sideTwo_1 row w g0 g1 he
  · exact impl_sideTwo_2 row w g0 g1 he
  · exact impl_sideTwo_3 row w g0 g1 he
  · exact impl_sideTwo_4 row w g0 g1 he
  · exact impl_sideTwo_5 row w g0 g1 he
  · exact impl_sideTwo_6 row w g0 g1 he
  · exact impl_sideTwo_7 row w g0 g1 he
open Go.RowKit Go.Proofs.YtoncmhfmkfeolaaGreatDoorW.PrintWords
def rawL (code : Int) : List UInt8 × Int:=if code % 4 = 0 then zI (code / 32) (code / 4 % 8) else if code % 4 = 1 then oI (code / 32) (code / 4 % 8) else if code % 4 = 2 then tI (code / 32) (code / 4 % 8) else ([],-1)
def nmL (code : Int) : List UInt8:=(rawL code).1
def mdI (code : Int) : Int:=if (rawL code).1 = [] then -1 else (rawL code).2
set_option maxHeartbeats 1000000 in
theorem impl_operation (code : Int) (w : World) (h0 : 0 ≤ code) (h1 : code < 256) (he : Env w) :
    Calls Tryz.prog 111 #[.int .u8 code] w fun e w' => e = .returned (.tuple #[.string ⟨(nmL code).toArray⟩,.int .i64 (mdI code)])∧Below w.heap.size w w':=by
  have m7 : bits .and .u8 (code / 4) 7 = code / 4 % 8:=u8_mask 3 (by decide) (code / 4) (by omega) (by omega)
  have m3 : bits .and .u8 code 3 = code % 4:=u8_mask 2 (by decide) code h0 h1
  obtain ⟨row,hrow⟩ : ∃ row,code / 32 = row:=⟨_,rfl⟩
  obtain ⟨part,hpart⟩ : ∃ part,code / 4 % 8 = part:=⟨_,rfl⟩
  obtain ⟨side,hside⟩ : ∃ side,code % 4 = side:=⟨_,rfl⟩
  have r0 : 0 ≤ row:=by omega
  have r1 : row < 8:=by omega
  have p0 : 0 ≤ part:=by omega
  have p1 : part < 8:=by omega
  have hs : side = 0 ∨ side = 1 ∨ side = 2 ∨ side = 3:=by omega
  obtain ⟨x,m,hraw⟩ : ∃ x m,rawL code = (x,m):=⟨_,_,rfl⟩
  unfold nmL mdI
  rw [hraw]
  unfold rawL at hraw
  rw [hside,hrow,hpart] at hraw
  rw [hpart] at m7
  rw [hside] at m3
  rcases hs with rfl | rfl | rfl | rfl
  · rw [if_pos rfl] at hraw
    have hz:=impl_sideZero row part w r0 r1 p0 p1 he
    rw [hraw] at hz
    clear hraw
    by_cases hx : x = []
    · subst hx
      rw [if_pos rfl]
      have HB:=hR w;go_enter Tryz.func111,Tryz.ntmps111
      go_wp2_with fail
      refine hz.mono ?_
      rintro _ w1 ⟨rfl,hb⟩
      (have HB:=Aside0.mk (below_step (w:=w) blw hb);have hz1:=hb.size;obtain ⟨hcl1,hfr1,hlt1,_⟩:=bcell hb;(try simp only [sA,sC,sD] at hz1);(try simp only [sA,sC,sD] at hcl1 hfr1 hlt1);have HB1:=hR w1;clear hb)
      go_wp2_with fail
      go_ret2
      exact ⟨rfl,blw⟩
    · rw [if_neg hx]
      have hx1 : (x == []) = false:=beq_eq_false_iff_ne.2 hx;have hx2 : x.isEmpty = false:=(by cases x with | nil => exact absurd rfl hx | cons a t => rfl)
      have HB:=hR w;go_enter Tryz.func111,Tryz.ntmps111
      go_wp2_with fail
      refine hz.mono ?_
      rintro _ w1 ⟨rfl,hb⟩
      (have HB:=Aside0.mk (below_step (w:=w) blw hb);have hz1:=hb.size;obtain ⟨hcl1,hfr1,hlt1,_⟩:=bcell hb;(try simp only [sA,sC,sD] at hz1);(try simp only [sA,sC,sD] at hcl1 hfr1 hlt1);have HB1:=hR w1;clear hb)
      go_wp2_with fail
      go_ret2
      exact ⟨rfl,blw⟩
  · rw [if_neg (by decide),if_pos rfl] at hraw
    have hw:=word_S1 row r0 r1 w he
    have hm : ∀ h : part.toNat < ([.int .i64 10,.int .i64 3,.int .i64 2,.int .i64 6,.int .i64 11,.int .i64 4,.int .i64 8,.int .i64 7] : List Value).length,([.int .i64 10,.int .i64 3,.int .i64 2,.int .i64 6,.int .i64 11,.int .i64 4,.int .i64 8,.int .i64 7] : List Value)[part.toNat]'h = .int .i64 (modeAt modes1 part):=mode_at modes1 part
    have hr8 : row = 0 ∨ row = 1 ∨ row = 2 ∨ row = 3 ∨ row = 4 ∨ row = 5 ∨ row = 6 ∨ row = 7:=by omega
    have hp8 : part = 0 ∨ part = 1 ∨ part = 2 ∨ part = 3 ∨ part = 4 ∨ part = 5 ∨ part = 6 ∨ part = 7:=by omega
    by_cases q : row = 4∧part = 2
    · obtain ⟨rfl,rfl⟩:=q
      obtain ⟨rfl,rfl⟩:=Prod.mk.inj (show (([],2) : List UInt8 × Int) = (x,m) from hraw)
      rw [show wordAt LS1 4 = [83,84,65] from rfl] at hw
      rw [if_pos rfl]
      clear hm hraw hr8 hp8
      have HB:=hR w;go_enter Tryz.func111,Tryz.ntmps111
      go_wp2_with fail
      refine hw.mono ?_
      rintro _ w1 ⟨rfl,hb⟩
      (have HB:=Aside0.mk (below_step (w:=w) blw hb);have hz1:=hb.size;obtain ⟨hcl1,hfr1,hlt1,_⟩:=bcell hb;(try simp only [sA,sC,sD] at hz1);(try simp only [sA,sC,sD] at hcl1 hfr1 hlt1);have HB1:=hR w1;clear hb)
      go_wp2_with fail
      go_ret2
      exact ⟨rfl,blw⟩
    · have ho : oI row part = (wordAt LS1 row,modeAt modes1 part):=by
        rcases hr8 with rfl | rfl | rfl | rfl | rfl | rfl | rfl | rfl <;> rcases hp8 with rfl | rfl | rfl | rfl | rfl | rfl | rfl | rfl <;> first | rfl | exact absurd ⟨rfl,rfl⟩ q
      obtain ⟨rfl,rfl⟩:=Prod.mk.inj (ho.symm.trans hraw)
      have hx : ¬ wordAt LS1 row = []:=by rcases hr8 with rfl | rfl | rfl | rfl | rfl | rfl | rfl | rfl <;> decide
      by_cases q4 : row = 4
      · subst q4
        have hq : (modeAt modes1 part == 2) = false:=by
          rcases hp8 with rfl | rfl | rfl | rfl | rfl | rfl | rfl | rfl <;> first | rfl | exact absurd ⟨rfl,rfl⟩ q
        rw [if_neg hx]
        rw [show wordAt LS1 4 = [83,84,65] from rfl] at hw ⊢
        clear hraw hr8 hp8 ho hx q
        generalize modeAt modes1 part = md at hm hq ⊢
        have HB:=hR w;go_enter Tryz.func111,Tryz.ntmps111
        go_wp2_with fail
        refine hw.mono ?_
        rintro _ w1 ⟨rfl,hb⟩
        (have HB:=Aside0.mk (below_step (w:=w) blw hb);have hz1:=hb.size;obtain ⟨hcl1,hfr1,hlt1,_⟩:=bcell hb;(try simp only [sA,sC,sD] at hz1);(try simp only [sA,sC,sD] at hcl1 hfr1 hlt1);have HB1:=hR w1;clear hb)
        go_wp2_with fail
        go_ret2
        exact ⟨rfl,blw⟩
      · have hq : (wordAt LS1 row == [83,84,65]) = false:=by
          rcases hr8 with rfl | rfl | rfl | rfl | rfl | rfl | rfl | rfl <;> first | rfl | exact absurd rfl q4
        rw [if_neg hx]
        clear hraw hr8 hp8 ho q
        generalize modeAt modes1 part = md at hm ⊢
        generalize wordAt LS1 row = x at hw hq hx ⊢
        have hx1 : (x == []) = false:=beq_eq_false_iff_ne.2 hx;have hx2 : x.isEmpty = false:=(by cases x with | nil => exact absurd rfl hx | cons a t => rfl)
        have HB:=hR w;go_enter Tryz.func111,Tryz.ntmps111
        go_wp2_with fail
        refine hw.mono ?_
        rintro _ w1 ⟨rfl,hb⟩
        (have HB:=Aside0.mk (below_step (w:=w) blw hb);have hz1:=hb.size;obtain ⟨hcl1,hfr1,hlt1,_⟩:=bcell hb;(try simp only [sA,sC,sD] at hz1);(try simp only [sA,sC,sD] at hcl1 hfr1 hlt1);have HB1:=hR w1;clear hb)
        go_wp2_with fail
        go_ret2
        exact ⟨rfl,blw⟩
  · rw [if_neg (by decide),if_neg (by decide),if_pos rfl] at hraw
    have hz:=impl_sideTwo row part w r0 r1 p0 p1 he
    rw [hraw] at hz
    clear hraw
    by_cases hx : x = []
    · subst hx
      rw [if_pos rfl]
      have HB:=hR w;go_enter Tryz.func111,Tryz.ntmps111
      go_wp2_with fail
      refine hz.mono ?_
      rintro _ w1 ⟨rfl,hb⟩
      (have HB:=Aside0.mk (below_step (w:=w) blw hb);have hz1:=hb.size;obtain ⟨hcl1,hfr1,hlt1,_⟩:=bcell hb;(try simp only [sA,sC,sD] at hz1);(try simp only [sA,sC,sD] at hcl1 hfr1 hlt1);have HB1:=hR w1;clear hb)
      go_wp2_with fail
      go_ret2
      exact ⟨rfl,blw⟩
    · rw [if_neg hx]
      have hx1 : (x == []) = false:=beq_eq_false_iff_ne.2 hx;have hx2 : x.isEmpty = false:=(by cases x with | nil => exact absurd rfl hx | cons a t => rfl)
      have HB:=hR w;go_enter Tryz.func111,Tryz.ntmps111
      go_wp2_with fail
      refine hz.mono ?_
      rintro _ w1 ⟨rfl,hb⟩
      (have HB:=Aside0.mk (below_step (w:=w) blw hb);have hz1:=hb.size;obtain ⟨hcl1,hfr1,hlt1,_⟩:=bcell hb;(try simp only [sA,sC,sD] at hz1);(try simp only [sA,sC,sD] at hcl1 hfr1 hlt1);have HB1:=hR w1;clear hb)
      go_wp2_with fail
      go_ret2
      exact ⟨rfl,blw⟩
  · obtain ⟨rfl,rfl⟩:=Prod.mk.inj (show (([],-1) : List UInt8 × Int) = (x,m) from by rw [if_neg (by decide),if_neg (by decide),if_neg (by decide)] at hraw;exact hraw)
    rw [if_pos rfl]
    have HB:=hR w;go_enter Tryz.func111,Tryz.ntmps111
    go_wp2
    go_ret2
    exact ⟨rfl,blw⟩
open Go.RowKit Go.Proofs.YtoncmhfmkfeolaaGreatDoorW.PrintWords
theorem impl_NameOf (code : Int) (w : World) (h0 : 0 ≤ code) (h1 : code < 256) (he : Env w) :
    Calls Tryz.prog 109 #[.int .u8 code] w fun e w' => e = .returned (.string ⟨(nmL code).toArray⟩)∧Below w.heap.size w w':=by
  have HB:=hR w;go_enter Tryz.func109,Tryz.ntmps109
  go_wp2_with fail
  refine (impl_operation code w h0 h1 he).mono ?_
  rintro _ w1 ⟨rfl,hb⟩
  (have HB:=Aside0.mk (below_step (w:=w) blw hb);have hz1:=hb.size;obtain ⟨hcl1,hfr1,hlt1,_⟩:=bcell hb;(try simp only [sA,sC,sD] at hz1);(try simp only [sA,sC,sD] at hcl1 hfr1 hlt1);have HB1:=hR w1;clear hb)
  go_wp2_with fail
  go_ret
  exact ⟨rfl,blw⟩
def kindN (x : List UInt8) (m : Int) : Int :=
  if x == [] then 0 else if m == 12 then 5 else if x == [74,77,80] then 6 else if x == [74,83,82] then 7 else if x == [82,84,83] then 8 else if x == [82,84,73] then 9 else if x == [66,82,75] then 10
  else if x == [80,72,65] || x == [80,72,80] then 11 else if x == [80,76,65] || x == [80,76,80] then 12 else if x == [83,84,65] || x == [83,84,88] || x == [83,84,89] then 3
  else if m == 0 || m == 1 then 1 else if Lib.contains [65,83,76,32,76,83,82,32,82,79,76,32,82,79,82,32,73,78,67,32,68,69,67] x then 4 else 2
def kindI (code : Int) : Int:=kindN (nmL code) (mdI code)
set_option maxHeartbeats 1000000 in
theorem impl_KindOf (code : Int) (w : World) (h0 : 0 ≤ code) (h1 : code < 256) (he : Env w) :
    Calls Tryz.prog 112 #[.int .u8 code] w fun e w' => e = .returned (.int .i64 (kindI code))∧Below w.heap.size w w':=by
  have ho:=impl_operation code w h0 h1 he
  unfold kindI
  generalize nmL code = x at ho ⊢
  generalize mdI code = m at ho ⊢
  by_cases hx : x = []
  · subst hx
    rw [show kindN [] m = 0 from rfl]
    have HB:=hR w;go_enter Tryz.func112,Tryz.ntmps112;go_wp2_with fail;refine ho.mono ?_;rintro _ w1 ⟨rfl,hb⟩;(have HB:=Aside0.mk (below_step (w:=w) blw hb);have hz1:=hb.size;obtain ⟨hcl1,hfr1,hlt1,_⟩:=bcell hb;(try simp only [sA,sC,sD] at hz1);(try simp only [sA,sC,sD] at hcl1 hfr1 hlt1);have HB1:=hR w1;clear hb);go_wp2_with fail;go_ret;exact ⟨rfl,blw⟩
  have hx1 : (x == []) = false:=beq_eq_false_iff_ne.2 hx
  have hx2 : x.isEmpty = false:=by cases x with | nil => exact absurd rfl hx | cons a t => rfl
  by_cases h12 : m = 12
  · subst h12
    rw [show kindN x 12 = 5 from by simp [kindN,hx1]]
    clear hx
    have HB:=hR w;go_enter Tryz.func112,Tryz.ntmps112;go_wp2_with fail;refine ho.mono ?_;rintro _ w1 ⟨rfl,hb⟩;(have HB:=Aside0.mk (below_step (w:=w) blw hb);have hz1:=hb.size;obtain ⟨hcl1,hfr1,hlt1,_⟩:=bcell hb;(try simp only [sA,sC,sD] at hz1);(try simp only [sA,sC,sD] at hcl1 hfr1 hlt1);have HB1:=hR w1;clear hb);go_wp2_with fail;go_ret;exact ⟨rfl,blw⟩
  have n12 : (m == 12) = false:=beq_eq_false_iff_ne.2 h12
  by_cases q0 : x = [74,77,80]
  · subst q0
    rw [show kindN [74,77,80] m = 6 from by simp [kindN,h12]]
    clear hx hx1 hx2
    have HB:=hR w;go_enter Tryz.func112,Tryz.ntmps112;go_wp2_with fail;refine ho.mono ?_;rintro _ w1 ⟨rfl,hb⟩;(have HB:=Aside0.mk (below_step (w:=w) blw hb);have hz1:=hb.size;obtain ⟨hcl1,hfr1,hlt1,_⟩:=bcell hb;(try simp only [sA,sC,sD] at hz1);(try simp only [sA,sC,sD] at hcl1 hfr1 hlt1);have HB1:=hR w1;clear hb);go_wp2_with fail;go_ret;exact ⟨rfl,blw⟩
  have nJMP : (x == [74,77,80]) = false:=beq_eq_false_iff_ne.2 q0
  by_cases q1 : x = [74,83,82]
  · subst q1
    rw [show kindN [74,83,82] m = 7 from by simp [kindN,h12]]
    clear hx hx1 hx2
    have HB:=hR w;go_enter Tryz.func112,Tryz.ntmps112;go_wp2_with fail;refine ho.mono ?_;rintro _ w1 ⟨rfl,hb⟩;(have HB:=Aside0.mk (below_step (w:=w) blw hb);have hz1:=hb.size;obtain ⟨hcl1,hfr1,hlt1,_⟩:=bcell hb;(try simp only [sA,sC,sD] at hz1);(try simp only [sA,sC,sD] at hcl1 hfr1 hlt1);have HB1:=hR w1;clear hb);go_wp2_with fail;go_ret;exact ⟨rfl,blw⟩
  have nJSR : (x == [74,83,82]) = false:=beq_eq_false_iff_ne.2 q1
  by_cases q2 : x = [82,84,83]
  · subst q2
    rw [show kindN [82,84,83] m = 8 from by simp [kindN,h12]]
    clear hx hx1 hx2
    have HB:=hR w;go_enter Tryz.func112,Tryz.ntmps112;go_wp2_with fail;refine ho.mono ?_;rintro _ w1 ⟨rfl,hb⟩;(have HB:=Aside0.mk (below_step (w:=w) blw hb);have hz1:=hb.size;obtain ⟨hcl1,hfr1,hlt1,_⟩:=bcell hb;(try simp only [sA,sC,sD] at hz1);(try simp only [sA,sC,sD] at hcl1 hfr1 hlt1);have HB1:=hR w1;clear hb);go_wp2_with fail;go_ret;exact ⟨rfl,blw⟩
  have nRTS : (x == [82,84,83]) = false:=beq_eq_false_iff_ne.2 q2
  by_cases q3 : x = [82,84,73]
  · subst q3
    rw [show kindN [82,84,73] m = 9 from by simp [kindN,h12]]
    clear hx hx1 hx2
    have HB:=hR w;go_enter Tryz.func112,Tryz.ntmps112;go_wp2_with fail;refine ho.mono ?_;rintro _ w1 ⟨rfl,hb⟩;(have HB:=Aside0.mk (below_step (w:=w) blw hb);have hz1:=hb.size;obtain ⟨hcl1,hfr1,hlt1,_⟩:=bcell hb;(try simp only [sA,sC,sD] at hz1);(try simp only [sA,sC,sD] at hcl1 hfr1 hlt1);have HB1:=hR w1;clear hb);go_wp2_with fail;go_ret;exact ⟨rfl,blw⟩
  have nRTI : (x == [82,84,73]) = false:=beq_eq_false_iff_ne.2 q3
  by_cases q4 : x = [66,82,75]
  · subst q4
    rw [show kindN [66,82,75] m = 10 from by simp [kindN,h12]]
    clear hx hx1 hx2
    have HB:=hR w;go_enter Tryz.func112,Tryz.ntmps112;go_wp2_with fail;refine ho.mono ?_;rintro _ w1 ⟨rfl,hb⟩;(have HB:=Aside0.mk (below_step (w:=w) blw hb);have hz1:=hb.size;obtain ⟨hcl1,hfr1,hlt1,_⟩:=bcell hb;(try simp only [sA,sC,sD] at hz1);(try simp only [sA,sC,sD] at hcl1 hfr1 hlt1);have HB1:=hR w1;clear hb);go_wp2_with fail;go_ret;exact ⟨rfl,blw⟩
  have nBRK : (x == [66,82,75]) = false:=beq_eq_false_iff_ne.2 q4
  by_cases q5 : x = [80,72,65]
  · subst q5
    rw [show kindN [80,72,65] m = 11 from by simp [kindN,h12]]
    clear hx hx1 hx2
    have HB:=hR w;go_enter Tryz.func112,Tryz.ntmps112;go_wp2_with fail;refine ho.mono ?_;rintro _ w1 ⟨rfl,hb⟩;(have HB:=Aside0.mk (below_step (w:=w) blw hb);have hz1:=hb.size;obtain ⟨hcl1,hfr1,hlt1,_⟩:=bcell hb;(try simp only [sA,sC,sD] at hz1);(try simp only [sA,sC,sD] at hcl1 hfr1 hlt1);have HB1:=hR w1;clear hb);go_wp2_with fail;go_ret;exact ⟨rfl,blw⟩
  have nPHA : (x == [80,72,65]) = false:=beq_eq_false_iff_ne.2 q5
  by_cases q6 : x = [80,72,80]
  · subst q6
    rw [show kindN [80,72,80] m = 11 from by simp [kindN,h12]]
    clear hx hx1 hx2
    have HB:=hR w;go_enter Tryz.func112,Tryz.ntmps112;go_wp2_with fail;refine ho.mono ?_;rintro _ w1 ⟨rfl,hb⟩;(have HB:=Aside0.mk (below_step (w:=w) blw hb);have hz1:=hb.size;obtain ⟨hcl1,hfr1,hlt1,_⟩:=bcell hb;(try simp only [sA,sC,sD] at hz1);(try simp only [sA,sC,sD] at hcl1 hfr1 hlt1);have HB1:=hR w1;clear hb);go_wp2_with fail;go_ret;exact ⟨rfl,blw⟩
  have nPHP : (x == [80,72,80]) = false:=beq_eq_false_iff_ne.2 q6
  by_cases q7 : x = [80,76,65]
  · subst q7
    rw [show kindN [80,76,65] m = 12 from by simp [kindN,h12]]
    clear hx hx1 hx2
    have HB:=hR w;go_enter Tryz.func112,Tryz.ntmps112;go_wp2_with fail;refine ho.mono ?_;rintro _ w1 ⟨rfl,hb⟩;(have HB:=Aside0.mk (below_step (w:=w) blw hb);have hz1:=hb.size;obtain ⟨hcl1,hfr1,hlt1,_⟩:=bcell hb;(try simp only [sA,sC,sD] at hz1);(try simp only [sA,sC,sD] at hcl1 hfr1 hlt1);have HB1:=hR w1;clear hb);go_wp2_with fail;go_ret;exact ⟨rfl,blw⟩
  have nPLA : (x == [80,76,65]) = false:=beq_eq_false_iff_ne.2 q7
  by_cases q8 : x = [80,76,80]
  · subst q8
    rw [show kindN [80,76,80] m = 12 from by simp [kindN,h12]]
    clear hx hx1 hx2
    have HB:=hR w;go_enter Tryz.func112,Tryz.ntmps112;go_wp2_with fail;refine ho.mono ?_;rintro _ w1 ⟨rfl,hb⟩;(have HB:=Aside0.mk (below_step (w:=w) blw hb);have hz1:=hb.size;obtain ⟨hcl1,hfr1,hlt1,_⟩:=bcell hb;(try simp only [sA,sC,sD] at hz1);(try simp only [sA,sC,sD] at hcl1 hfr1 hlt1);have HB1:=hR w1;clear hb);go_wp2_with fail;go_ret;exact ⟨rfl,blw⟩
  have nPLP : (x == [80,76,80]) = false:=beq_eq_false_iff_ne.2 q8
  by_cases q9 : x = [83,84,65]
  · subst q9
    rw [show kindN [83,84,65] m = 3 from by simp [kindN,h12]]
    clear hx hx1 hx2
    have HB:=hR w;go_enter Tryz.func112,Tryz.ntmps112;go_wp2_with fail;refine ho.mono ?_;rintro _ w1 ⟨rfl,hb⟩;(have HB:=Aside0.mk (below_step (w:=w) blw hb);have hz1:=hb.size;obtain ⟨hcl1,hfr1,hlt1,_⟩:=bcell hb;(try simp only [sA,sC,sD] at hz1);(try simp only [sA,sC,sD] at hcl1 hfr1 hlt1);have HB1:=hR w1;clear hb);go_wp2_with fail;go_ret;exact ⟨rfl,blw⟩
  have nSTA : (x == [83,84,65]) = false:=beq_eq_false_iff_ne.2 q9
  by_cases q10 : x = [83,84,88]
  · subst q10
    rw [show kindN [83,84,88] m = 3 from by simp [kindN,h12]]
    clear hx hx1 hx2
    have HB:=hR w;go_enter Tryz.func112,Tryz.ntmps112;go_wp2_with fail;refine ho.mono ?_;rintro _ w1 ⟨rfl,hb⟩;(have HB:=Aside0.mk (below_step (w:=w) blw hb);have hz1:=hb.size;obtain ⟨hcl1,hfr1,hlt1,_⟩:=bcell hb;(try simp only [sA,sC,sD] at hz1);(try simp only [sA,sC,sD] at hcl1 hfr1 hlt1);have HB1:=hR w1;clear hb);go_wp2_with fail;go_ret;exact ⟨rfl,blw⟩
  have nSTX : (x == [83,84,88]) = false:=beq_eq_false_iff_ne.2 q10
  by_cases q11 : x = [83,84,89]
  · subst q11
    rw [show kindN [83,84,89] m = 3 from by simp [kindN,h12]]
    clear hx hx1 hx2
    have HB:=hR w;go_enter Tryz.func112,Tryz.ntmps112;go_wp2_with fail;refine ho.mono ?_;rintro _ w1 ⟨rfl,hb⟩;(have HB:=Aside0.mk (below_step (w:=w) blw hb);have hz1:=hb.size;obtain ⟨hcl1,hfr1,hlt1,_⟩:=bcell hb;(try simp only [sA,sC,sD] at hz1);(try simp only [sA,sC,sD] at hcl1 hfr1 hlt1);have HB1:=hR w1;clear hb);go_wp2_with fail;go_ret;exact ⟨rfl,blw⟩
  have nSTY : (x == [83,84,89]) = false:=beq_eq_false_iff_ne.2 q11
  have e : kindN x m = if m == 0 || m == 1 then 1 else if Lib.contains [65,83,76,32,76,83,82,32,82,79,76,32,82,79,82,32,73,78,67,32,68,69,67] x then 4 else 2:=by
    unfold kindN
    simp only [hx1,n12,nJMP,nJSR,nRTS,nRTI,nBRK,nPHA,nPHP,nPLA,nPLP,nSTA,nSTX,nSTY]
    simp
  rw [e]
  clear e hx q0 q1 q2 q3 q4 q5 q6 q7 q8 q9 q10 q11
  by_cases m0 : m = 0
  · subst m0
    rw [show (if ((0 : Int) == 0 || (0 : Int) == 1) = true then (1 : Int) else if Lib.contains [65,83,76,32,76,83,82,32,82,79,76,32,82,79,82,32,73,78,67,32,68,69,67] x = true then 4 else 2) = 1 from rfl]
    have HB:=hR w;go_enter Tryz.func112,Tryz.ntmps112;go_wp2_with fail;refine ho.mono ?_;rintro _ w1 ⟨rfl,hb⟩;(have HB:=Aside0.mk (below_step (w:=w) blw hb);have hz1:=hb.size;obtain ⟨hcl1,hfr1,hlt1,_⟩:=bcell hb;(try simp only [sA,sC,sD] at hz1);(try simp only [sA,sC,sD] at hcl1 hfr1 hlt1);have HB1:=hR w1;clear hb);go_wp2_with fail;go_ret;exact ⟨rfl,blw⟩
  by_cases m1 : m = 1
  · subst m1
    rw [show (if ((1 : Int) == 0 || (1 : Int) == 1) = true then (1 : Int) else if Lib.contains [65,83,76,32,76,83,82,32,82,79,76,32,82,79,82,32,73,78,67,32,68,69,67] x = true then 4 else 2) = 1 from rfl]
    have HB:=hR w;go_enter Tryz.func112,Tryz.ntmps112;go_wp2_with fail;refine ho.mono ?_;rintro _ w1 ⟨rfl,hb⟩;(have HB:=Aside0.mk (below_step (w:=w) blw hb);have hz1:=hb.size;obtain ⟨hcl1,hfr1,hlt1,_⟩:=bcell hb;(try simp only [sA,sC,sD] at hz1);(try simp only [sA,sC,sD] at hcl1 hfr1 hlt1);have HB1:=hR w1;clear hb);go_wp2_with fail;go_ret;exact ⟨rfl,blw⟩
  have b0 : (m == 0) = false:=beq_eq_false_iff_ne.2 m0
  have b1 : (m == 1) = false:=beq_eq_false_iff_ne.2 m1
  rw [b0,b1]
  have hc:=fun W (h : Env W) => h.2.elim fun mm hmm => Tryz.strings_Contains ⟨#[65,83,76,32,76,83,82,32,82,79,76,32,82,79,82,32,73,78,67,32,68,69,67]⟩ ⟨x.toArray⟩ mm W (by decide) hmm
  simp only [] at hc
  generalize Lib.contains [65,83,76,32,76,83,82,32,82,79,76,32,82,79,82,32,73,78,67,32,68,69,67] x = cb at hc ⊢
  cases cb
  · rw [show (if (false || false) = true then (1 : Int) else if false = true then 4 else 2) = 2 from rfl]
    have HB:=hR w;go_enter Tryz.func112,Tryz.ntmps112;go_wp2_with fail;refine ho.mono ?_;rintro _ w1 ⟨rfl,hb⟩;have hk:=hc w1 (he.below hb);(have HB:=Aside0.mk (below_step (w:=w) blw hb);have hz1:=hb.size;obtain ⟨hcl1,hfr1,hlt1,_⟩:=bcell hb;(try simp only [sA,sC,sD] at hz1);(try simp only [sA,sC,sD] at hcl1 hfr1 hlt1);have HB1:=hR w1;clear hb);go_wp2_with fail;refine hk.mono ?_;rintro _ _ ⟨rfl,rfl⟩;go_wp2_with fail;go_ret;exact ⟨rfl,blw⟩
  · rw [show (if (false || false) = true then (1 : Int) else if true = true then 4 else 2) = 4 from rfl]
    have HB:=hR w;go_enter Tryz.func112,Tryz.ntmps112;go_wp2_with fail;refine ho.mono ?_;rintro _ w1 ⟨rfl,hb⟩;have hk:=hc w1 (he.below hb);(have HB:=Aside0.mk (below_step (w:=w) blw hb);have hz1:=hb.size;obtain ⟨hcl1,hfr1,hlt1,_⟩:=bcell hb;(try simp only [sA,sC,sD] at hz1);(try simp only [sA,sC,sD] at hcl1 hfr1 hlt1);have HB1:=hR w1;clear hb);go_wp2_with fail;refine hk.mono ?_;rintro _ _ ⟨rfl,rfl⟩;go_wp2_with fail;go_ret;exact ⟨rfl,blw⟩
end Go.Proofs.YtoncmhfmkfeolaaGreatDoor
