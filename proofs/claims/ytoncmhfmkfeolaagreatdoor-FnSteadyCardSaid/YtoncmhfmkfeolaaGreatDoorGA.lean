/- Words that all texts of this seat use: cells behind a call that makes memory, small arithmetic. -/
import Derived.Test.YtoncmhfmkfeolaaGreatDoorProg
import Derived.WalkKit
import Derived.ProofKit
import Derived.OpenShut
import Derived.WalkLawsBesides
import Derived.WalkSpells
import Derived.Deep.QuietTactic
import Derived.BigQuiet
import Derived.Lib.Hide
import Derived.Test.YtoncmhfmkfeolaaGreatDoorWWords
import Derived.Deep.RegionHeld3
set_option linter.unusedVariables false
set_option linter.unusedSimpArgs false
namespace Go.Proofs.YtoncmhfmkfeolaaGreatDoor
open Go.RowKit Go.Proofs.YtoncmhfmkfeolaaGreatDoorW.PrintWords
theorem bR (n : Nat) (w : World) : Below n w w:=Below.refl n w
theorem bA {w W : World} (h : Below w.heap.size w W) (o : Obj) : Below w.heap.size w (W.alloc o):=below_alloc h o
theorem bD {n : Nat} {w W : World} (h : Below n w W) : Below n w W.drew:=below_drew1 h
theorem bN {n : Nat} {w W : World} (h : Below n w W) (k : Nat) : Below n w (W.drewN k):=pw_below_drewN h k
theorem bS {w W : World} {g j : Nat} {v : Value} (h : Below w.heap.size w W) (hg : w.heap.size ≤ g) : Below w.heap.size w (W.setCell ⟨g,j,none⟩ v):=below_set h hg
theorem hR (w : World) : Aside0 (Below w.heap.size w w):=⟨Below.refl _ _⟩
theorem sA (w : World) (o : Obj) : (w.alloc o).heap.size = w.heap.size+1:=World.size_alloc w o
theorem sC (w : World) (p : Addr) (v : Value) : (w.setCell p v).heap.size = w.heap.size:=World.size_setCell w p v
theorem sD (w : World) : w.drew.heap.size = w.heap.size:=rfl
theorem blw {n : Nat} {w W : World} (h : Below n w W:=by (repeat (first | (with_reducible first | exact bR _ _ | assumption | (apply Aside0.out;assumption) | apply bA | apply bD | apply bN) | ((with_reducible refine bS ?_ ?_);rotate_left;(first | omega | (simp;done) | (simp;omega)))))) : Below n w W:=h
theorem bcell {W w1 : World} (hb : Below W.heap.size W w1) : (∀ p : Addr,p.block < W.heap.size → w1.cell? p = W.cell? p)∧(∀ p : Addr,p.block < W.heap.size → w1.frozen? p = W.frozen? p)∧(∀ b,b < W.heap.size → b < w1.heap.size)∧(∀ b,b < W.heap.size → b ≤ w1.heap.size)∧(∀ b,b < W.heap.size → ¬ b = w1.heap.size)∧(∀ b,b < W.heap.size → ¬ w1.heap.size = b) :=
  ⟨fun p h => hb.cell (p:=p) h,fun p h => hb.frozen (p:=p) h,fun b h => Nat.lt_of_lt_of_le h hb.size,fun b h => Nat.le_of_lt (Nat.lt_of_lt_of_le h hb.size),fun b h => Nat.ne_of_lt (Nat.lt_of_lt_of_le h hb.size),fun b h => Nat.ne_of_gt (Nat.lt_of_lt_of_le h hb.size)⟩
theorem lt_s2 (n : Nat) : (n < n+1+1) = True:=eq_true (by omega)
theorem le_s2 (n : Nat) : (n ≤ n+1+1) = True:=eq_true (by omega)
theorem ne_s2 (n : Nat) : (n = n+1+1) = False:=eq_false (by omega)
theorem en_s2 (n : Nat) : (n+1+1 = n) = False:=eq_false (by omega)
theorem lt_s3 (n : Nat) : (n < n+1+1+1) = True:=eq_true (by omega)
theorem le_s3 (n : Nat) : (n ≤ n+1+1+1) = True:=eq_true (by omega)
theorem ne_s3 (n : Nat) : (n = n+1+1+1) = False:=eq_false (by omega)
theorem en_s3 (n : Nat) : (n+1+1+1 = n) = False:=eq_false (by omega)
theorem lt_s4 (n : Nat) : (n < n+1+1+1+1) = True:=eq_true (by omega)
theorem le_s4 (n : Nat) : (n ≤ n+1+1+1+1) = True:=eq_true (by omega)
theorem ne_s4 (n : Nat) : (n = n+1+1+1+1) = False:=eq_false (by omega)
theorem en_s4 (n : Nat) : (n+1+1+1+1 = n) = False:=eq_false (by omega)
theorem lt_s5 (n : Nat) : (n < n+1+1+1+1+1) = True:=eq_true (by omega)
theorem le_s5 (n : Nat) : (n ≤ n+1+1+1+1+1) = True:=eq_true (by omega)
theorem ne_s5 (n : Nat) : (n = n+1+1+1+1+1) = False:=eq_false (by omega)
theorem en_s5 (n : Nat) : (n+1+1+1+1+1 = n) = False:=eq_false (by omega)
theorem lt_s6 (n : Nat) : (n < n+1+1+1+1+1+1) = True:=eq_true (by omega)
theorem le_s6 (n : Nat) : (n ≤ n+1+1+1+1+1+1) = True:=eq_true (by omega)
theorem ne_s6 (n : Nat) : (n = n+1+1+1+1+1+1) = False:=eq_false (by omega)
theorem en_s6 (n : Nat) : (n+1+1+1+1+1+1 = n) = False:=eq_false (by omega)
theorem lt_s7 (n : Nat) : (n < n+1+1+1+1+1+1+1) = True:=eq_true (by omega)
theorem le_s7 (n : Nat) : (n ≤ n+1+1+1+1+1+1+1) = True:=eq_true (by omega)
theorem ne_s7 (n : Nat) : (n = n+1+1+1+1+1+1+1) = False:=eq_false (by omega)
theorem en_s7 (n : Nat) : (n+1+1+1+1+1+1+1 = n) = False:=eq_false (by omega)
theorem lt_s8 (n : Nat) : (n < n+1+1+1+1+1+1+1+1) = True:=eq_true (by omega)
theorem le_s8 (n : Nat) : (n ≤ n+1+1+1+1+1+1+1+1) = True:=eq_true (by omega)
theorem ne_s8 (n : Nat) : (n = n+1+1+1+1+1+1+1+1) = False:=eq_false (by omega)
theorem en_s8 (n : Nat) : (n+1+1+1+1+1+1+1+1 = n) = False:=eq_false (by omega)
theorem lt_s9 (n : Nat) : (n < n+1+1+1+1+1+1+1+1+1) = True:=eq_true (by omega)
theorem le_s9 (n : Nat) : (n ≤ n+1+1+1+1+1+1+1+1+1) = True:=eq_true (by omega)
theorem ne_s9 (n : Nat) : (n = n+1+1+1+1+1+1+1+1+1) = False:=eq_false (by omega)
theorem en_s9 (n : Nat) : (n+1+1+1+1+1+1+1+1+1 = n) = False:=eq_false (by omega)
attribute [go_sem] lt_s2 le_s2 ne_s2 en_s2 lt_s3 le_s3 ne_s3 en_s3 lt_s4 le_s4 ne_s4 en_s4 lt_s5 le_s5 ne_s5 en_s5 lt_s6 le_s6 ne_s6 en_s6 lt_s7 le_s7 ne_s7 en_s7 lt_s8 le_s8 ne_s8 en_s8 lt_s9 le_s9 ne_s9 en_s9
theorem cell_keep {W w' : World} {p : Addr} {v : Value} (hb : Below W.heap.size W w') (hc : W.cell? p = some v) : w'.cell? p = some v:=(hb.cell (World.block_lt_of_cell? W p hc)).trans hc
theorem grown_refl (w : World) (row : Option Nat) : w.grownBy w row:=⟨rfl,rfl,rfl,Nat.le_refl _,fun _ _ _ => rfl⟩
theorem ret_of {a b : Value} (h : a = b) : Ending.returned a = .returned b:=by rw [h]
def b2i (b : Bool) : Int:=if b then 1 else 0
theorem b2i_lo (b : Bool) : 0 ≤ b2i b:=by unfold b2i;split <;> omega
theorem b2i_hi (b : Bool) : b2i b ≤ 1:=by unfold b2i;split <;> omega
theorem u8_mask (j : Nat) (hj : j ≤ 8) (x : Int) (h0 : 0 ≤ x) (h1 : x < 256) : bits .and .u8 x (2 ^ j - 1) = x % 2 ^ j:=bits_mask .u8 8 (by decide) wraps_u8 j hj x h0 h1
theorem u8_and1 (x : Int) (h0 : 0 ≤ x) (h1 : x < 256) : bits .and .u8 x 1 = x % 2:=u8_mask 1 (by decide) x h0 h1
theorem u8_and240 (x : Int) (h0 : 0 ≤ x) (h1 : x < 256) : bits .and .u8 x 240 = x / 16 * 16:=by
  obtain ⟨n,rfl⟩:=Int.eq_ofNat_of_zero_le h0
  have : ∀ n : Nat,n < 256 → ((n &&& 240 : Nat) : Int) = (n : Int) / 16 * 16:=by decide +kernel
  rw [show (240 : Int) = ((240 : Nat) : Int) from rfl,u8_and_nat _ _ (by omega) (by omega)]
  exact this n (by omega)
theorem i64_mask (j : Nat) (hj : j ≤ 62) (n : Int) (m : Int) (hm : m = ((2 ^ j - 1 : Nat) : Int)) (hb : (BitVec.ofInt 64 m).toNat = 2 ^ j - 1) : bits .and .i64 n m = n % ((2 ^ j : Nat) : Int):=by
  have key : (BitVec.ofInt 64 n &&& BitVec.ofInt 64 m).toNat = (n % ((2 ^ 64 : Nat) : Int)).toNat % 2 ^ j:=by
    rw [BitVec.toNat_and,BitVec.toNat_ofInt,hb,Nat.and_two_pow_sub_one_eq_mod]
  show IntKind.i64.wrap ((BitVec.ofInt 64 n &&& BitVec.ofInt 64 m).toNat : Nat) = _
  rw [key,IntKind.wrap_i64]
  have h1 : (n % ((2 ^ 64 : Nat) : Int)).toNat % 2 ^ j = (n % ((2 ^ j : Nat) : Int)).toNat:=by
    have hd : ((2 ^ j : Nat) : Int) ∣ ((2 ^ 64 : Nat) : Int):=by
      exact Int.natCast_dvd_natCast.2 (Nat.pow_dvd_pow 2 (by omega))
    have h2:=Int.emod_emod_of_dvd n hd
    have hp : (0 : Int) < ((2 ^ j : Nat) : Int):=Int.natCast_pos.2 (Nat.two_pow_pos j)
    have h0 : 0 ≤ n % ((2 ^ 64 : Nat) : Int):=Int.emod_nonneg _ (by decide)
    have h3 : 0 ≤ n % ((2 ^ j : Nat) : Int):=Int.emod_nonneg _ (by omega)
    apply Int.ofNat.inj
    show (((n % ((2 ^ 64 : Nat) : Int)).toNat % 2 ^ j : Nat) : Int) = (((n % ((2 ^ j : Nat) : Int)).toNat : Nat) : Int)
    rw [Int.natCast_emod,Int.toNat_of_nonneg h0,Int.toNat_of_nonneg h3]
    exact h2
  rw [h1]
  have hp : (0 : Int) < ((2 ^ j : Nat) : Int):=Int.natCast_pos.2 (Nat.two_pow_pos j)
  have h3 : 0 ≤ n % ((2 ^ j : Nat) : Int):=Int.emod_nonneg _ (by omega)
  have h4 : n % ((2 ^ j : Nat) : Int) < ((2 ^ j : Nat) : Int):=Int.emod_lt_of_pos _ hp
  have h5 : (2 : Nat) ^ j ≤ 2 ^ 62:=Nat.pow_le_pow_right (by decide) hj
  have h6 : ((2 ^ j : Nat) : Int) ≤ 4611686018427387904:=by
    have:=Int.ofNat_le.2 h5
    exact Int.le_trans this (by decide)
  rw [Int.toNat_of_nonneg h3]
  omega
theorem i64_and15 (n : Int) : bits .and .i64 n 15 = n % 16:=i64_mask 4 (by decide) n 15 rfl (by decide)
theorem i64_and255 (n : Int) : bits .and .i64 n 255 = n % 256:=i64_mask 8 (by decide) n 255 rfl (by decide)
theorem i64_and65535 (n : Int) : bits .and .i64 n 65535 = n % 65536:=i64_mask 16 (by decide) n 65535 rfl (by decide)
theorem u8_not (x : Int) (h0 : 0 ≤ x) (h1 : x < 256) : bits .xor .u8 IntKind.u8.max x = 255 - x:=by
  rw [show IntKind.u8.max = 255 from rfl]
  obtain ⟨n,rfl⟩:=Int.eq_ofNat_of_zero_le h0
  have : ∀ n : Nat,n < 256 → ((255 ^^^ n : Nat) : Int) = 255 - (n : Int):=by decide +kernel
  rw [show (255 : Int) = ((255 : Nat) : Int) from rfl,u8_xor_nat _ _ (by omega) (by omega)]
  exact this n (by omega)
open Go.RowKit Go.Proofs.YtoncmhfmkfeolaaGreatDoorW.PrintWords
structure Bs (w : World) (A : Option Addr) (l : List Int) : Prop where
  c : Kd.C (Kd.int .u8) w A l.length l
  b : ∀ i,0 ≤ rd l i∧rd l i < 256
theorem Bs.below {w w1 : World} {A : Option Addr} {l : List Int} (h : Bs w A l) (hb : Below w.heap.size w w1) : Bs w1 A l:=⟨Kd.C_below h.c hb,h.b⟩
theorem Bs.at {w : World} {A : Option Addr} {l : List Int} (h : Bs w A l) (i : Int) (h0 : 0 ≤ i) (h1 : i < l.length) : ∃ ad,A = some ad∧w.cell? (ad.add i.toNat) = some (.int .u8 (rd l i)):=Kd.at_int h.c i h0 h1
theorem Bs.max {w : World} {A : Option Addr} {l : List Int} (h : Bs w A l) : l.length ≤ 9223372036854775807:=Kd.C_max h.c
theorem rd_wf {l : List Int} (h : ∀ x ∈ l,(Lit.int .u8 x).wf = true) (i : Int) : 0 ≤ rd l i∧rd l i < 256:=by
  unfold rd
  rw [List.getD_eq_getElem?_getD]
  rcases Nat.lt_or_ge i.toNat l.length with hi | hi
  · rw [List.getElem?_eq_getElem hi]
    have:=bounds_u8 (h _ (List.getElem_mem hi))
    simp only [Option.getD_some]
    omega
  · rw [List.getElem?_eq_none hi];simp
theorem bs_of_row {w : World} {a : Option Addr} {len cap : Nat} {z : List Int} (h : (a = none∧len = 0∧cap = 0∧z = []) ∨ ∃ x,a = some x∧len ≤ cap∧cap ≤ maxLen∧z.length = cap∧(∀ i,i < z.length → w.cell? (x.add i) = some (.int .u8 (z.getD i 0)))∧∀ n ∈ z,(Lit.int .u8 n).wf = true) :
    ∃ zs : List Int,zs.length = len∧Bs w a zs:=by
  obtain ⟨l,rfl,hr,hm,hw,hc⟩:=ReadsInt.ofRowC h
  exact ⟨l,rfl,Kd.C_of_reads (d:=(0 : Int)) (h1:=fun _ => rfl) hr,rd_wf hw⟩
theorem laws_big (A : Option Addr) (c : Nat) (l : List Int) (w : World) (hl : l.length ≤ 9223372036854775807) :
    Calls Tryz.prog 9 #[.slice A l.length c] w fun e w' => e = .returned (.bool (decide (1048576 < l.length)))∧w = w':=by
  have HB:=hR w;go_enter Tryz.func9,Tryz.ntmps9
  go_wp2
  go_ret
  exact ⟨ret_of (by simp;omega),rfl⟩
def atF (l : List Int) (i : Int) : Int:=if i < l.length then rd l i else (i * 7+l.length) % 256
theorem atF_b {w : World} {A : Option Addr} {l : List Int} (h : Bs w A l) (i : Int) : 0 ≤ atF l i∧atF l i < 256:=by
  unfold atF;split
  · exact h.b i
  · omega
theorem laws_at (A : Option Addr) (c : Nat) (l : List Int) (i : Int) (w : World) (h : Bs w A l) (hl : l.length ≤ 1048576) (h0 : 0 ≤ i) (h1 : i ≤ 1000000) :
    Calls Tryz.prog 14 #[.slice A l.length c,.int .i64 i] w fun e w' => e = .returned (.int .i64 (atF l i))∧w = w':=by
  have hb:=h.b i
  by_cases c3 : i < (l.length : Int)
  · obtain ⟨ad,rfl,hx⟩:=h.at i h0 c3
    have HB:=hR w;go_enter Tryz.func14,Tryz.ntmps14
    go_wp2
    go_ret
    exact ⟨ret_of (by simp [atF,c3]),rfl⟩
  · have HB:=hR w;go_enter Tryz.func14,Tryz.ntmps14
    go_wp2
    go_ret
    exact ⟨ret_of (by unfold atF;rw [if_neg (by omega)];rfl),rfl⟩
open Go.RowKit Go.Proofs.YtoncmhfmkfeolaaGreatDoorW.PrintWords
theorem infoU8 : (Tryz.prog.info? 5).map (fun i => (i.zero,i.size,i.bytes)) = some (some (.int .u8 0),1,1):=by kernel_rfl
def OwnB (w : World) (base : Nat) (v : Value) (l : List Int) : Prop:=Kd.R (Kd.int .u8) 5 w base (fun _ => True) v l
theorem OwnB.below {w w1 : World} {base : Nat} {v : Value} {l : List Int} (h : OwnB w base v l) (hb : Below w.heap.size w w1) : OwnB w1 base v l:=Kd.R_below h hb
theorem OwnB.lower {w : World} {base base' : Nat} {v : Value} {l : List Int} (h : OwnB w base v l) (hb : base' ≤ base) : OwnB w base' v l:=Kd.R_lower h hb
theorem OwnB.set {w : World} {base : Nat} {v : Value} {l : List Int} (h : OwnB w base v l) {p : Addr} (hp : p.block < base) (u : Value) : OwnB (w.setCell p u) base v l :=
  Kd.R_mono (Kd.R_far (Kd.R_bound h) (fun k hk => by have:=hk.2.1;omega) u) (fun _ _ => trivial)
theorem OwnB.alloc {w : World} {base : Nat} {v : Value} {l : List Int} (h : OwnB w base v l) (o : Obj) : OwnB (w.alloc o) base v l:=h.below (below_alloc (Below.refl _ _) o)
theorem OwnB.drew {w : World} {base : Nat} {v : Value} {l : List Int} (h : OwnB w base v l) : OwnB w.drew base v l:=h.below (below_drew1 (Below.refl _ _))
theorem OwnB.drewN {w : World} {base : Nat} {v : Value} {l : List Int} (h : OwnB w base v l) (n : Nat) : OwnB (w.drewN n) base v l:=h.below (pw_below_drewN (Below.refl _ _) n)
theorem OwnB.grown {w w1 : World} {base : Nat} {v : Value} {l : List Int} (h : OwnB w base v l) {row : Option Nat} (hg : w.grownBy w1 row) (hr : ∀ k,row = some k → k < base) : OwnB w1 base v l :=
  Kd.R_mono (Kd.R_grown (Kd.R_bound h) hg (fun k hk e => by have:=hk.2.1;have:=hr k e.symm;omega)) (fun _ _ => trivial)
theorem OwnB.grownAt {w0 w w1 : World} {base base' : Nat} {v u : Value} {l m : List Int} (h0 : OwnB w0 base v l) (hb : Below w0.heap.size w0 w) (hu : OwnB w base' u m) (hs : w0.heap.size ≤ base') (hg : w.grownBy w1 u.ownBlock) : OwnB w1 base v l :=
  Kd.R_mono (Kd.R_grown (Kd.R_below (Kd.R_bound h0) hb) hg (fun k hk e => by have h1:=hk.2.2.1;have h2:=Kd.R_base hu k e.symm;omega)) (fun _ _ => trivial)
theorem OwnB.reads {w : World} {base : Nat} {v : Value} {l : List Int} (h : OwnB w base v l) : ∃ A c,v = .slice A l.length c∧l.length ≤ c∧Kd.C (Kd.int .u8) w A l.length l:=Kd.R_reads h
theorem OwnB.bs {w : World} {base : Nat} {A : Option Addr} {c : Nat} {l : List Int} (h : OwnB w base (.slice A l.length c) l) (hb : ∀ i,0 ≤ rd l i∧rd l i < 256) : Bs w A l:=⟨(Kd.R_reads' h).2.2,hb⟩
def mkB (k : Int) : Nat → List Int
  | 0 => []
  | n+1 => k % 256::mkB (k+1) n
theorem rd_nat (l : List Int) (k : Nat) (h : k < l.length) : rd l (k : Int) = l[k]:=by simp [rd,List.getD_eq_getElem?_getD,h]
theorem take_rd (l : List Int) (k : Nat) (h : k < l.length) : l.take (k+1) = l.take k ++ [rd l (k : Int)]:=by
  rw [rd_nat l k h,List.take_succ_eq_append_getElem h]
theorem take_set (l : List Int) (k : Nat) (h : k < l.length) : (l.take k ++ List.replicate (l.length - k) 0).set k (rd l k) = l.take (k+1) ++ List.replicate (l.length - (k+1)) 0:=by
  rw [show l.length - k = (l.length - (k+1))+1 by omega,List.replicate_succ,take_rd l k h,List.set_append_right _ _ (by simp;omega)]
  simp [show min k l.length = k by omega]
set_option maxHeartbeats 400000 in
theorem laws_toByteS (A : Option Addr) (c : Nat) (l : List Int) (w : World) (h : Bs w A l) (hl : l.length ≤ 1048576) :
    Calls Tryz.prog 63 #[.slice A l.length c] w fun e w' => ∃ A1 c1,e = .returned (.slice A1 l.length c1)∧OwnB w' w.heap.size (.slice A1 l.length c1) l∧Below w.heap.size w w':=by
  have HB:=hR w;go_enter Tryz.func63,Tryz.ntmps63
  go_wp2_with (first | ((with_reducible refine gate_dst (N:=7) rfl ?_);refine Kd.R_make (Kd.int .u8) w.heap.size 5 rfl (N:=7) rfl 22 _ _ rfl (l.length : Int) rfl rfl Tryz.underlying22 (.int .u8 0) 1 infoU8 rfl (by decide) (by omega) 0 (ok:=fun _ => True) (okp:=fun _ => True) rfl (fun _ hk => hk) trivial (by omega) (by omega) (Below.refl _ _) (Nat.le_refl _) ?_;intro v1 w1 ho hb hg hn))
  simp only [Int.toNat_natCast] at ho
  obtain ⟨A1,c1,rfl,hc1,hr1⟩:=Kd.R_reads ho
  simp only [List.length_replicate] at *
  have HA:=Aside0.mk ho
  have HB:=Aside0.mk hb
  clear hn hg hb ho hr1
  go_wp2
  go_loopw [4] (fun v4 wr => ∃ k : Nat,k ≤ l.length∧v4 = .int .i64 k∧Aside0 (OwnB wr w.heap.size (.slice A1 l.length c1) (l.take k ++ List.replicate (l.length - k) 0))∧Aside0 (Below w.heap.size w wr)) (fun v4 _ => l.length - (intOf v4).toNat)
  case atStart => exact ⟨0,Nat.zero_le _,rfl,⟨by have:=HA.out;simpa [OwnB] using this⟩,HB⟩
  case round =>
    obtain ⟨k,hk,rfl,HO,HB⟩:=hrel
    by_cases hlt : k < l.length
    · obtain ⟨ad,rfl,hx⟩:=h.at k (by omega) (by omega)
      have hx1:=(HB.out.cell (World.block_lt_of_cell? w _ hx)).trans hx
      obtain ⟨g,cap,eo,gb,gl,cl,HG⟩:=Kd.R_form HO.out (by simp;omega)
      injection eo with ea en ec
      subst ea ec
      obtain ⟨hy,hf⟩:=Kd.R_celln 0 HO.out (k : Int) (by omega) (by omega)
      have HP:=Aside0.mk (Kd.R_putg HO.out (k : Int) (rd l k)).1
      rw [Int.toNat_natCast] at hx1 hy hf
      have HG:=Aside0.mk gb
      clear gb en
      go_wp2
      go_roundw
      case rel => exact ⟨k+1,by omega,by go_num,⟨by have:=HP.out;rw [Int.toNat_natCast,take_set l k hlt] at this;exact this⟩,⟨below_set HB.out HG.out⟩⟩
      case measure => simp [intOf];omega
    · go_wp2
      go_ret
      have e : k = l.length:=by omega
      subst e
      exact ⟨_,_,rfl,by have:=HO.out;simpa [List.take_length] using this,HB.out⟩
def szF (left n : Int) : Int:=if left - n < 0 then -1 else left - n
theorem laws_szByteS (A : Option Addr) (c : Nat) (l : List Int) (n : Int) (w : World) (hl : l.length ≤ 9223372036854775807) (h0 : 0 ≤ n) (h1 : n ≤ 1048576) :
    Calls Tryz.prog 61 #[.slice A l.length c,.int .i64 n] w fun e w' => e = .returned (.int .i64 (szF n l.length))∧w = w':=by
  by_cases h : n - l.length < 0
  · have HB:=hR w;go_enter Tryz.func61,Tryz.ntmps61
    go_wp2
    go_ret
    exact ⟨ret_of (by simp [szF,h]),rfl⟩
  · have HB:=hR w;go_enter Tryz.func61,Tryz.ntmps61
    go_wp2
    go_ret
    exact ⟨ret_of (by unfold szF;rw [if_neg (by omega)];rfl),rfl⟩
set_option maxHeartbeats 400000 in
theorem laws_eqByteS (A B : Option Addr) (c d : Nat) (l : List Int) (w : World) (h : Bs w A l) (h2 : Bs w B l) (hl : l.length ≤ 1048576) :
    Calls Tryz.prog 69 #[.slice A l.length c,.slice B l.length d] w fun e w' => e = .returned (.bool true)∧Below w.heap.size w w':=by
  have HB:=hR w;go_enter Tryz.func69,Tryz.ntmps69
  go_wp2
  go_loopw [5] (fun v4 wr => ∃ k : Nat,k ≤ l.length∧v4 = .int .i64 k∧Aside0 (Below w.heap.size w wr)) (fun v4 _ => l.length - (intOf v4).toNat)
  case atStart => exact ⟨0,Nat.zero_le _,rfl,HB⟩
  case round =>
    obtain ⟨k,hk,rfl,HB⟩:=hrel
    by_cases hlt : k < l.length
    · obtain ⟨ad,rfl,hx⟩:=h.at k (by omega) (by omega)
      obtain ⟨ae,rfl,hy⟩:=h2.at k (by omega) (by omega)
      have hx1:=(HB.out.cell (World.block_lt_of_cell? w _ hx)).trans hx
      have hy1:=(HB.out.cell (World.block_lt_of_cell? w _ hy)).trans hy
      rw [Int.toNat_natCast] at hx1 hy1
      have q0 : (0 : Int) ≤ (k : Int):=by omega
      have q1 : (k : Int) < (l.length : Int):=by omega
      go_wp2
      go_quiet (fail)
      go_wp2
      go_roundw
      case rel => exact ⟨k+1,by omega,by go_num,⟨blw⟩⟩
      case measure => simp [intOf];omega
    · go_wp2
      go_ret
      exact ⟨rfl,HB.out⟩
theorem mkB_len (n : Nat) : ∀ k,(mkB k n).length = n:=by
  induction n with
  | zero => intro k;rfl
  | succ n ih => intro k;simp [mkB,ih]
theorem mkB_rd (n : Nat) : ∀ (k : Int) (j : Nat),j < n → rd (mkB k n) j = (k+j) % 256:=by
  induction n with
  | zero => intro k j h;omega
  | succ n ih =>
    intro k j h
    cases j with
    | zero => simp [mkB,rd]
    | succ j =>
      have:=ih (k+1) j (by omega)
      simp only [rd,Int.toNat_natCast,mkB] at this ⊢
      rw [List.getD_cons_succ,this]
      congr 1
      omega
theorem mkB_b (n : Nat) : ∀ (k : Int) (i : Int),0 ≤ rd (mkB k n) i∧rd (mkB k n) i < 256:=by
  intro k i
  by_cases hi : i.toNat < n
  · have:=mkB_rd n k i.toNat hi
    rw [show rd (mkB k n) i = rd (mkB k n) (i.toNat : Int) by simp only [rd,Int.toNat_natCast],this]
    omega
  · simp [rd,List.getD_eq_getElem?_getD,List.getElem?_eq_none (show (mkB k n).length ≤ i.toNat by rw [mkB_len];omega)]
theorem mkB_set (l : List Int) (k : Int) (j : Nat) (h : j < l.length) : (mkB k j ++ l.drop j).set j ((k+j) % 256) = mkB k (j+1) ++ l.drop (j+1):=by
  have e : ∀ n k,mkB k (n+1) = mkB k n ++ [(k+n) % 256]:=by
    intro n
    induction n with
    | zero => intro k;simp [mkB]
    | succ n ih =>
      intro k
      rw [mkB,ih (k+1),mkB]
      simp
      omega
  rw [e,List.set_append_right _ _ (by rw [mkB_len];omega),mkB_len,Nat.sub_self,List.drop_eq_getElem_cons h,List.set_cons_zero,List.append_assoc]
  rfl
set_option maxHeartbeats 400000 in
theorem laws_markByteS (base : Nat) (A : Option Addr) (c : Nat) (l : List Int) (n : Int) (w : World) (h : OwnB w base (.slice A l.length c) l) (hl : l.length ≤ 1048576) (h0 : 0 ≤ n) (h1 : n ≤ 100000000) :
    Calls Tryz.prog 71 #[.slice A l.length c,.int .i64 n] w fun e w' => e = .returned (.int .i64 (n+l.length))∧OwnB w' base (.slice A l.length c) (mkB n l.length)∧w.grownBy w' (Value.slice A l.length c).ownBlock:=by
  have HB:=hR w;go_enter Tryz.func71,Tryz.ntmps71
  go_wp2
  go_loopw [1,5] (fun v1 v5 wr => ∃ k : Nat,k ≤ l.length∧v1 = .int .i64 (n+k)∧v5 = .int .i64 k∧Aside0 (OwnB wr base (.slice A l.length c) (mkB n k ++ l.drop k))∧Aside0 (w.grownBy wr (Value.slice A l.length c).ownBlock)) (fun _ v5 _ => l.length - (intOf v5).toNat)
  case atStart => exact ⟨0,Nat.zero_le _,by simp,rfl,⟨h⟩,⟨grown_refl _ _⟩⟩
  case round =>
    obtain ⟨k,hk,rfl,rfl,HO,HG⟩:=hrel
    by_cases hlt : k < l.length
    · obtain ⟨g,cap,eo,gb,gl,cl,HC⟩:=Kd.R_form HO.out (by simp [mkB_len];omega)
      injection eo with ea en ec
      subst ea ec
      obtain ⟨hy,hf⟩:=Kd.R_celln 0 HO.out (k : Int) (by omega) (by omega)
      have HP:=Aside0.mk (Kd.R_putg HO.out (k : Int) ((n+k) % 256))
      rw [Int.toNat_natCast] at hy hf
      clear gb en HC gl
      go_wp2
      go_roundw
      case rel => exact ⟨k+1,by omega,by go_num,by go_num,⟨by have:=HP.out.1;rw [Int.toNat_natCast,mkB_set l n k hlt] at this;exact this⟩,⟨by have:=HP.out.2;rw [Int.toNat_natCast] at this;exact HG.out.trans this⟩⟩
      case measure => simp [intOf];omega
    · go_wp2
      go_ret
      have e : k = l.length:=by omega
      subst e
      exact ⟨rfl,by have:=HO.out;simpa using this,HG.out⟩
set_option maxHeartbeats 400000 in
theorem laws_heldByteS (A : Option Addr) (c m : Nat) (n : Int) (w : World) (h : Bs w A (mkB n m)) (hl : m ≤ 1048576) (h0 : 0 ≤ n) (h1 : n ≤ 100000000) :
    Calls Tryz.prog 131 #[.slice A m c,.int .i64 n] w fun e w' => e = .returned (.int .i64 (n+m))∧w = w':=by
  have HB:=hR w;go_enter Tryz.func131,Tryz.ntmps131
  go_wp2
  go_loop [1,5] (fun v1 v5 => ∃ k : Nat,k ≤ m∧v1 = .int .i64 (n+k)∧v5 = .int .i64 k) (fun _ v5 => m - (intOf v5).toNat)
  case atStart => exact ⟨0,Nat.zero_le _,by simp,rfl⟩
  case round =>
    obtain ⟨k,hk,rfl,rfl⟩:=hrel
    by_cases hlt : k < m
    · obtain ⟨ad,rfl,hx⟩:=h.at k (by omega) (by rw [mkB_len];omega)
      rw [Int.toNat_natCast,mkB_rd m n k hlt] at hx
      go_wp2
      go_round
      case rel => exact ⟨k+1,by omega,by go_num,by go_num⟩
      case measure => simp [intOf];omega
    · go_wp2
      go_ret
      have e : k = m:=by omega
      subst e
      exact ⟨rfl,rfl⟩
open Go.Proofs.YtoncmhfmkfeolaaGreatDoorW.PrintWords
structure F6 where
  N : Bool
  V : Bool
  D : Bool
  I : Bool
  Z : Bool
  C : Bool
def nz (b : Int) (f : F6) : F6:={ f with N:=decide (128 ≤ b),Z:=b == 0 }
def over (a b c : Int) : Bool:=(decide (128 ≤ a) == decide (128 ≤ b)) && !(decide (128 ≤ c) == decide (128 ≤ a))
def adcLow (a b : Int) (c : Bool) : Int:=if 10 ≤ a % 16+b % 16+b2i c then (a % 16+b % 16+b2i c+6) % 16+16 else a % 16+b % 16+b2i c
def adcHigh (a b : Int) (c : Bool) : Int:=a / 16 * 16+b / 16 * 16+adcLow a b c
def adcSum (a b : Int) (c : Bool) : Int:=if 160 ≤ adcHigh a b c then adcHigh a b c+96 else adcHigh a b c
def adc (a b : Int) (f : F6) : Int × F6 :=
  match f.D with
  | false => ((a+b+b2i f.C) % 256,{ nz ((a+b+b2i f.C) % 256) f with C:=decide (255 < a+b+b2i f.C),V:=over a b ((a+b+b2i f.C) % 256) })
  | true => (adcSum a b f.C % 256,{ f with N:=decide (128 ≤ adcHigh a b f.C % 256),V:=over a b (adcHigh a b f.C % 256),C:=decide (255 < adcSum a b f.C),Z:=(a+b+b2i f.C) % 256 == 0 })
def sbcLow (a b : Int) (c : Bool) : Int:=if a % 16 - b % 16 - 1+b2i c < 0 then (a % 16 - b % 16 - 1+b2i c - 6) % 16 - 16 else a % 16 - b % 16 - 1+b2i c
def sbcHigh (a b : Int) (c : Bool) : Int:=a / 16 * 16 - b / 16 * 16+sbcLow a b c
def sbcSum (a b : Int) (c : Bool) : Int:=if sbcHigh a b c < 0 then sbcHigh a b c - 96 else sbcHigh a b c
def sbc (a b : Int) (f : F6) : Int × F6 :=
  match f.D with
  | false => adc a (255 - b) f
  | true => (sbcSum a b f.C % 256,{ (adc a (255 - b) { f with D:=false }).2 with D:=true })
def ramSize (n : Int) : Bool:=n == 256 || n == 512 || n == 1024 || n == 2048 || n == 4096
theorem ramSize_le {n : Int} (h : ramSize n = true) : 256 ≤ n∧n ≤ 4096:=by
  simp [ramSize] at h
  omega
def peek (l : List Int) (a : Int) : Int:=if ramSize l.length then rd l (a % l.length) else 0
structure Cpu where
  A : Int
  X : Int
  Y : Int
  S : Int
  PC : Int
  F : F6
def word2 (lo hi : Int) : Int:=lo+256 * hi
def cold (m : List Int) : Cpu:=if ramSize m.length then ⟨0,0,0,253,word2 (peek m 65532) (peek m 65533),⟨false,false,false,true,false,false⟩⟩ else ⟨0,0,0,0,0,⟨false,false,false,false,false,false⟩⟩
def fillN (a : Int) (list m : List Int) : Nat → List Int
  | 0 => m
  | k+1 => (fillN a list m k).set ((a+k) % 65536 % m.length).toNat (rd list k)
theorem fillN_len (a : Int) (list m : List Int) (k : Nat) : (fillN a list m k).length = m.length:=by
  induction k with
  | zero => rfl
  | succ k ih => simp [fillN,ih]
def fill (m : List Int) (a : Int) (list : List Int) : List Int:=if ramSize m.length && decide (list.length ≤ 1024) then fillN a list m list.length else []
open Go.RowKit Go.Proofs.YtoncmhfmkfeolaaGreatDoorW.PrintWords
theorem impl_isRamSize (n : Int) (w : World) : Calls Tryz.prog 102 #[.int .i64 n] w fun e w' => e = .returned (.bool (ramSize n))∧w = w':=by
  unfold ramSize
  by_cases h1 : n = 256
  · subst h1;have HB:=hR w;go_enter Tryz.func102,Tryz.ntmps102
    go_wp2
    go_ret
    exact ⟨rfl,rfl⟩
  by_cases h2 : n = 512
  · subst h2;have HB:=hR w;go_enter Tryz.func102,Tryz.ntmps102
    go_wp2
    go_ret
    exact ⟨rfl,rfl⟩
  by_cases h3 : n = 1024
  · subst h3;have HB:=hR w;go_enter Tryz.func102,Tryz.ntmps102
    go_wp2
    go_ret
    exact ⟨rfl,rfl⟩
  by_cases h4 : n = 2048
  · subst h4;have HB:=hR w;go_enter Tryz.func102,Tryz.ntmps102
    go_wp2
    go_ret
    exact ⟨rfl,rfl⟩
  have g1:=beq_eq_false_iff_ne.2 h1
  have g2:=beq_eq_false_iff_ne.2 h2
  have g3:=beq_eq_false_iff_ne.2 h3
  have g4:=beq_eq_false_iff_ne.2 h4
  have HB:=hR w;go_enter Tryz.func102,Tryz.ntmps102
  go_wp2
  go_ret
  exact ⟨ret_of (by simp [h1,h2,h3,h4]),rfl⟩
theorem impl_RamOk (A : Option Addr) (c : Nat) (l : List Int) (w : World) : Calls Tryz.prog 49 #[.agg #[.slice A l.length c]] w fun e w' => e = .returned (.bool (ramSize l.length))∧Below w.heap.size w w':=by
  have HB:=hR w;go_enter Tryz.func49,Tryz.ntmps49
  go_wp2_with (first | (go_at_call 102;((with_reducible refine (impl_isRamSize _ _).mono ?_);rintro _ _ ⟨rfl,rfl⟩)))
  go_ret
  exact ⟨rfl,blw⟩
theorem impl_at (A : Option Addr) (c : Nat) (l : List Int) (a : Int) (w : World) (h0 : 0 ≤ a) (h1 : a < 65536) (h2 : 0 < l.length) (h3 : l.length ≤ 1000000) : Calls Tryz.prog 82 #[.agg #[.slice A l.length c],.int .u16 a] w fun e w' => e = .returned (.int .i64 (a % l.length))∧Below w.heap.size w w':=by
  have hn : ¬ l = []:=fun h => by subst h;simp at h2
  have HB:=hR w;go_enter Tryz.func82,Tryz.ntmps82
  go_wp2
  go_ret
  exact ⟨rfl,blw⟩
theorem impl_Peek (A : Option Addr) (c : Nat) (l : List Int) (a : Int) (w : World) (h : Bs w A l) (h0 : 0 ≤ a) (h1 : a < 65536) :
    Calls Tryz.prog 110 #[.agg #[.slice A l.length c],.int .u16 a] w fun e w' => e = .returned (.int .u8 (peek l a))∧Below w.heap.size w w':=by
  obtain ⟨b,hb⟩ : ∃ b,ramSize l.length = b:=⟨_,rfl⟩
  cases b
  · have HB:=hR w;go_enter Tryz.func110,Tryz.ntmps110
    go_wp2_with (first | (go_at_call 49;((with_reducible refine (impl_RamOk _ _ _ _).mono ?_);rintro _ w1 ⟨rfl,hb⟩;have HB:=Aside0.mk (below_step (w:=w) blw hb);have hz:=hb.size;obtain ⟨hcl,hfr,hlt,_⟩:=bcell hb;simp only [sA,sC,sD] at hz hcl hfr hlt;clear hb)))
    go_ret
    exact ⟨ret_of (by simp [peek,hb]),blw⟩
  · have hs:=ramSize_le hb
    have hp : 0 ≤ a % l.length:=Int.emod_nonneg _ (by omega)
    have hq : a % l.length < l.length:=Int.emod_lt_of_pos _ (by omega)
    obtain ⟨ad,rfl,hx⟩:=h.at _ hp hq
    have HB:=hR w;go_enter Tryz.func110,Tryz.ntmps110
    go_wp2_with (first | (go_at_call 49;((with_reducible refine (impl_RamOk _ _ _ _).mono ?_);rintro _ w1 ⟨rfl,hb⟩;have HB:=Aside0.mk (below_step (w:=w) blw hb);have hz:=hb.size;obtain ⟨hcl,hfr,hlt,_⟩:=bcell hb;simp only [sA,sC,sD] at hz hcl hfr hlt;clear hb)))
    have hx1 : w1.cell? (ad.add (a % l.length).toNat) = some (.int .u8 (rd l (a % l.length))):=(HB.out.cell (World.block_lt_of_cell? w _ hx)).trans hx
    have hx2:=World.block_lt_of_cell? w1 _ hx1
    go_region_held3 (fun w' => Below w.heap.size w w'∧w'.cell? ⟨w.heap.size,0,none⟩ = some (.slice (some ad) l.length c)∧w'.cell? (ad.add (a % l.length).toNat) = some (.int .u8 (rd l (a % l.length)))) (first | (go_keep;done) | (go_split_ands;(repeat' apply And.intro) <;> (first | (with_reducible assumption) | (go_simp;done) | (exact cell_keep blw (by assumption)) | exact blw))) (first | (go_at_call 82;((with_reducible refine (impl_at _ _ _ _ _ h0 h1 (by omega) (by omega)).mono ?_);rintro _ w1 ⟨rfl,hb⟩;have HB:=Aside0.mk (below_step (w:=w) blw hb);have hz:=hb.size;obtain ⟨hcl,hfr,hlt,_⟩:=bcell hb;simp only [sA,sC,sD] at hz hcl hfr hlt;clear hb)))
    go_wp2
    go_ret
    exact ⟨ret_of (by simp [peek,hb]),blw⟩
theorem spec_RamOk (A : Option Addr) (c : Nat) (l : List Int) (w : World) : Calls Tryz.prog 13 #[.agg #[.slice A l.length c]] w fun e w' => e = .returned (.bool (ramSize l.length))∧Below w.heap.size w w':=by
  obtain ⟨n,hn⟩ : ∃ n,l.length = n:=⟨_,rfl⟩
  rw [hn]
  unfold ramSize
  have HB:=hR w;go_enter Tryz.func13,Tryz.ntmps13
  go_wp2
  all_goals go_ret
  all_goals exact ⟨ret_of (by simp [*]),blw⟩
theorem spec_Peek (A : Option Addr) (c : Nat) (l : List Int) (a : Int) (w : World) (h : Bs w A l) (h0 : 0 ≤ a) (h1 : a < 65536) :
    Calls Tryz.prog 122 #[.agg #[.slice A l.length c],.int .u16 a] w fun e w' => e = .returned (.int .u8 (peek l a))∧Below w.heap.size w w':=by
  obtain ⟨b,hb⟩ : ∃ b,ramSize l.length = b:=⟨_,rfl⟩
  cases b
  · have HB:=hR w;go_enter Tryz.func122,Tryz.ntmps122
    go_wp2_with (first | (go_at_call 13;((with_reducible refine (spec_RamOk _ _ _ _).mono ?_);rintro _ w1 ⟨rfl,hb⟩;have HB:=Aside0.mk (below_step (w:=w) blw hb);have hz:=hb.size;obtain ⟨hcl,hfr,hlt,_⟩:=bcell hb;simp only [sA,sC,sD] at hz hcl hfr hlt;clear hb)))
    go_ret
    exact ⟨ret_of (by simp [peek,hb]),blw⟩
  · have hs:=ramSize_le hb
    have hn : ¬ l = []:=fun h => by subst h;simp at hs
    have hp : 0 ≤ a % l.length:=Int.emod_nonneg _ (by omega)
    have hq : a % l.length < l.length:=Int.emod_lt_of_pos _ (by omega)
    obtain ⟨ad,rfl,hx⟩:=h.at _ hp hq
    have had:=World.block_lt_of_cell? w _ hx
    have HB:=hR w;go_enter Tryz.func122,Tryz.ntmps122
    go_wp2_with (first | (go_at_call 13;((with_reducible refine (spec_RamOk _ _ _ _).mono ?_);rintro _ w1 ⟨rfl,hb⟩;have HB:=Aside0.mk (below_step (w:=w) blw hb);have hz:=hb.size;obtain ⟨hcl,hfr,hlt,_⟩:=bcell hb;simp only [sA,sC,sD] at hz hcl hfr hlt;clear hb)))
    have hx1 : w1.cell? (ad.add (a % l.length).toNat) = some (.int .u8 (rd l (a % l.length))):=(HB.out.cell (World.block_lt_of_cell? w _ hx)).trans hx
    go_quiet (fail)
    go_wp2
    go_ret
    exact ⟨ret_of (by simp [peek,hb]),blw⟩
open Go.RowKit Go.Proofs.YtoncmhfmkfeolaaGreatDoorW.PrintWords
theorem szF_big {n m : Int} (h : n < m) : szF n m = -1:=by unfold szF;rw [if_pos (by omega)]
theorem szF_ok {n m : Int} (h : m ≤ n) : szF n m = n - m:=by unfold szF;rw [if_neg (by omega)]
theorem laws_szRam (A : Option Addr) (c : Nat) (l : List Int) (n : Int) (w : World) (hl : l.length ≤ 9223372036854775807) (h0 : 0 ≤ n) (h1 : n ≤ 1048576) :
    Calls Tryz.prog 17 #[.agg #[.slice A l.length c],.int .i64 n] w fun e w' => e = .returned (.int .i64 (szF n l.length))∧Below w.heap.size w w':=by
  by_cases h : szF n l.length < 0
  · have HB:=hR w;go_enter Tryz.func17,Tryz.ntmps17
    go_wp2_with (first | (go_at_call 61;((with_reducible refine (laws_szByteS _ _ _ _ _ hl h0 h1).mono ?_);rintro _ _ ⟨rfl,rfl⟩)))
    go_ret
    exact ⟨ret_of (by have : szF n l.length = -1:=by { unfold szF at h ⊢;split at h <;> simp_all }
                      rw [this];rfl),blw⟩
  · have HB:=hR w;go_enter Tryz.func17,Tryz.ntmps17
    go_wp2_with (first | (go_at_call 61;((with_reducible refine (laws_szByteS _ _ _ _ _ hl h0 h1).mono ?_);rintro _ _ ⟨rfl,rfl⟩)))
    go_ret
    exact ⟨rfl,blw⟩
theorem laws_toRam (A : Option Addr) (c : Nat) (l : List Int) (w : World) (h : Bs w A l) (hl : l.length ≤ 1048576) :
    Calls Tryz.prog 20 #[.agg #[.slice A l.length c]] w fun e w' => ∃ A1 c1,e = .returned (.agg #[.slice A1 l.length c1])∧OwnB w' w.heap.size (.slice A1 l.length c1) l∧Below w.heap.size w w':=by
  have HB:=hR w;go_enter Tryz.func20,Tryz.ntmps20
  go_wp2_with (first | (go_at_call 63;((with_reducible refine (laws_toByteS _ _ _ _ (h.below (blw)) hl).mono ?_);rintro _ w1 ⟨A1,c1,rfl,ho,hb⟩;have HO:=Aside0.mk ho;clear ho;have HB:=Aside0.mk (below_step (w:=w) blw hb);have hz:=hb.size;obtain ⟨hcl,hfr,hlt,_⟩:=bcell hb;simp only [sA,sC,sD] at hz hcl hfr hlt;clear hb)))
  (refine bodyPost_ret (v:=.agg #[.slice A1 l.length c1]) (by (simp only [results,Tryz.results20];go_simp <;> (rfl))) rfl ?_)
  exact ⟨_,_,rfl,(by (apply OwnB.lower;(repeat (first | (with_reducible exact HO.out) | (with_reducible apply OwnB.alloc) | (with_reducible apply OwnB.drew) | (with_reducible apply OwnB.drewN) | (with_reducible apply OwnB.set)));all_goals (first | omega | (simp;done) | (simp;omega)))),blw⟩
theorem laws_eqRam (A B : Option Addr) (c d : Nat) (l : List Int) (w : World) (h : Bs w A l) (h2 : Bs w B l) (hl : l.length ≤ 1048576) :
    Calls Tryz.prog 23 #[.agg #[.slice A l.length c],.agg #[.slice B l.length d]] w fun e w' => e = .returned (.bool true)∧Below w.heap.size w w':=by
  have HB:=hR w;go_enter Tryz.func23,Tryz.ntmps23
  go_wp2_with (first | (go_at_call 69;((with_reducible refine (laws_eqByteS _ _ _ _ _ _ (h.below (blw)) (h2.below (blw)) hl).mono ?_);rintro _ w1 ⟨rfl,hb⟩;have HB:=Aside0.mk (below_step (w:=w) blw hb);have hz:=hb.size;obtain ⟨hcl,hfr,hlt,_⟩:=bcell hb;simp only [sA,sC,sD] at hz hcl hfr hlt;clear hb)))
  go_ret
  exact ⟨rfl,blw⟩
open Go.RowKit Go.Proofs.YtoncmhfmkfeolaaGreatDoorW.PrintWords
theorem u16_join (lo hi : Int) (h0 : 0 ≤ lo) (h1 : lo < 256) (h2 : 0 ≤ hi) (h3 : hi < 256) : bits .or .u16 (hi * 256) lo = lo+256 * hi:=by
  rw [bits_join .u16 16 (by decide) (fun n h0 h1 => by rw [IntKind.wrap_u16];omega) 8 (hi * 256) lo (by omega) (by omega) (by omega) (by omega) (by omega) (by omega)]
  omega
theorem u16_wrap_in (n : Int) (h : 0 ≤ n∧n < 65536) : IntKind.u16.wrap n = n:=by rw [IntKind.wrap_u16];omega
theorem spec_l04Word (lo hi : Int) (w : World) (h0 : 0 ≤ lo) (h1 : lo < 256) (h2 : 0 ≤ hi) (h3 : hi < 256) :
    Calls Tryz.prog 165 #[.int .u8 lo,.int .u8 hi] w fun e w' => e = .returned (.int .i64 (word2 lo hi))∧w = w':=by
  have HB:=hR w;go_enter Tryz.func165,Tryz.ntmps165
  go_wp2
  go_ret
  exact ⟨rfl,rfl⟩
theorem impl_wordOf (lo hi : Int) (w : World) (h0 : 0 ≤ lo) (h1 : lo < 256) (h2 : 0 ≤ hi) (h3 : hi < 256) :
    Calls Tryz.prog 151 #[.int .u8 lo,.int .u8 hi] w fun e w' => e = .returned (.int .u16 (word2 lo hi))∧w = w':=by
  have hj:=u16_join lo hi h0 h1 h2 h3
  have HB:=hR w;go_enter Tryz.func151,Tryz.ntmps151
  go_wp2
  go_ret
  exact ⟨ret_of (by simp [word2,hj]),rfl⟩
theorem peek_b {w : World} {A : Option Addr} {l : List Int} (h : Bs w A l) (a : Int) : 0 ≤ peek l a∧peek l a < 256:=by
  unfold peek;split
  · exact h.b _
  · omega
theorem word2_b {a b : Int} (h : 0 ≤ a∧a < 256) (k : 0 ≤ b∧b < 256) : 0 ≤ word2 a b∧word2 a b < 65536:=by unfold word2;omega
set_option maxHeartbeats 400000 in
theorem laws_eqFlags (f : F6) (w : World) : Calls Tryz.prog 129 #[.agg #[.bool f.N,.bool f.V,.bool f.D,.bool f.I,.bool f.Z,.bool f.C],.agg #[.bool f.N,.bool f.V,.bool f.D,.bool f.I,.bool f.Z,.bool f.C]] w fun e w' => e = .returned (.bool true)∧Below w.heap.size w w':=by
  have HB:=hR w;go_enter Tryz.func129,Tryz.ntmps129
  go_wp2
  go_ret
  exact ⟨rfl,blw⟩
set_option maxHeartbeats 400000 in
theorem laws_eqCpu (c : Cpu) (w : World) : Calls Tryz.prog 65 #[.agg #[.int .u8 c.A,.int .u8 c.X,.int .u8 c.Y,.int .u8 c.S,.int .u16 c.PC,.bool c.F.N,.bool c.F.V,.bool c.F.D,.bool c.F.I,.bool c.F.Z,.bool c.F.C],.agg #[.int .u8 c.A,.int .u8 c.X,.int .u8 c.Y,.int .u8 c.S,.int .u16 c.PC,.bool c.F.N,.bool c.F.V,.bool c.F.D,.bool c.F.I,.bool c.F.Z,.bool c.F.C]] w fun e w' => e = .returned (.bool true)∧Below w.heap.size w w':=by
  have HB:=hR w;go_enter Tryz.func65,Tryz.ntmps65
  go_wp2_with fail
  refine (laws_eqFlags c.F _).mono ?_
  rintro _ w1 ⟨rfl,hb⟩
  (have HB:=Aside0.mk (below_step (w:=w) blw hb);have hz1:=hb.size;obtain ⟨hcl1,hfr1,hlt1,_⟩:=bcell hb;(try simp only [sA,sC,sD] at hz1);(try simp only [sA,sC,sD] at hcl1 hfr1 hlt1);have hk1_0 : w.heap.size < w1.heap.size:=(by omega);have hk1_1 : w.heap.size+1 < w1.heap.size:=(by omega);have HB1:=hR w1;clear hb)
  go_wp2
  go_ret
  exact ⟨rfl,blw⟩
open Go.RowKit Go.Proofs.YtoncmhfmkfeolaaGreatDoorW.PrintWords
theorem w64 {x : Int} (h : -1000000 ≤ x∧x ≤ 1000000) : IntKind.i64.wrap x = x:=by rw [IntKind.wrap_i64];omega
def packP (f : F6) (k : Bool) : Int:=b2i f.N * 128+b2i f.V * 64+32+b2i k * 16+b2i f.D * 8+b2i f.I * 4+b2i f.Z * 2+b2i f.C
theorem packP_b (f : F6) (k : Bool) : 0 ≤ packP f k∧packP f k < 256:=by
  have h (b : Bool) : 0 ≤ b2i b∧b2i b ≤ 1:=⟨b2i_lo b,b2i_hi b⟩
  have:=h f.N;have:=h f.V;have:=h f.D;have:=h f.I;have:=h f.Z;have:=h f.C;have:=h k
  unfold packP
  omega
def bitI (b : Bool) (k : Int) : Int:=if b then 2 ^ k.toNat else 0
theorem impl_bit (b : Bool) (k : Int) (w : World) (h0 : 0 ≤ k) (h1 : k < 8) : Calls Tryz.prog 150 #[.bool b,.int .i64 k] w fun e w' => e = .returned (.int .u8 (bitI b k))∧w = w':=by
  have hk : k = 0 ∨ k = 1 ∨ k = 2 ∨ k = 3 ∨ k = 4 ∨ k = 5 ∨ k = 6 ∨ k = 7:=by omega
  rcases hk with rfl | rfl | rfl | rfl | rfl | rfl | rfl | rfl <;> cases b
  all_goals
    have HB:=hR w;go_enter Tryz.func150,Tryz.ntmps150
    go_wp2
    go_ret
    exact ⟨rfl,rfl⟩
def bitJ (b : Bool) (k : Int) : Int:=if b then k else 0
theorem spec_l02Bit (b : Bool) (k : Int) (w : World) : Calls Tryz.prog 92 #[.bool b,.int .i64 k] w fun e w' => e = .returned (.int .i64 (bitJ b k))∧w = w':=by
  cases b
  all_goals
    have HB:=hR w;go_enter Tryz.func92,Tryz.ntmps92
    go_wp2
    go_ret
    exact ⟨rfl,rfl⟩
theorem pack_or : ∀ n v d i z c k : Bool,bits .or .u8 (bits .or .u8 (bits .or .u8 (bits .or .u8 (bits .or .u8 (bits .or .u8 (bits .or .u8 (bitI n 7) (bitI v 6)) 32) (bitI k 4)) (bitI d 3)) (bitI i 2)) (bitI z 1)) (bitI c 0) = packP ⟨n,v,d,i,z,c⟩ k:=by decide +kernel
set_option maxHeartbeats 1000000 in
theorem impl_PackP (f : F6) (k : Bool) (w : World) : Calls Tryz.prog 107 #[.agg #[.bool f.N,.bool f.V,.bool f.D,.bool f.I,.bool f.Z,.bool f.C],.bool k] w fun e w' => e = .returned (.int .u8 (packP f k))∧Below w.heap.size w w':=by
  have hp:=pack_or f.N f.V f.D f.I f.Z f.C k
  have HB:=hR w;go_enter Tryz.func107,Tryz.ntmps107
  go_wp2_with fail
  go_region_held3 (fun w' => Below w.heap.size w w'∧w'.cell? ⟨w.heap.size,0,none⟩ = some (.bool f.N)∧w'.cell? ⟨w.heap.size,1,none⟩ = some (.bool f.V)∧w'.cell? ⟨w.heap.size,2,none⟩ = some (.bool f.D)∧w'.cell? ⟨w.heap.size,3,none⟩ = some (.bool f.I)∧w'.cell? ⟨w.heap.size,4,none⟩ = some (.bool f.Z)∧w'.cell? ⟨w.heap.size,5,none⟩ = some (.bool f.C)) (first | (go_keep;done) | (go_split_ands;(repeat' apply And.intro) <;> (first | (with_reducible assumption) | (go_simp;done) | (exact cell_keep blw (by assumption)) | exact blw))) (first | (go_at_call 150;((with_reducible refine (impl_bit _ _ _ (by decide) (by decide)).mono ?_);rintro _ _ ⟨rfl,rfl⟩)))
  go_wp2_with fail
  go_ret
  exact ⟨ret_of (by rw [← hp];rfl),blw⟩
theorem pack_sum : ∀ n v d i z c k : Bool,IntKind.u8.wrap (bitJ n 128+bitJ v 64+32+bitJ k 16+bitJ d 8+bitJ i 4+bitJ z 2+bitJ c 1) = packP ⟨n,v,d,i,z,c⟩ k:=by decide +kernel
theorem bitJ_b (b : Bool) (k : Int) (h : 0 ≤ k) : 0 ≤ bitJ b k∧bitJ b k ≤ k:=by cases b <;> simp [bitJ] <;> omega
set_option maxHeartbeats 1000000 in
theorem spec_PackP (f : F6) (k : Bool) (w : World) : Calls Tryz.prog 164 #[.agg #[.bool f.N,.bool f.V,.bool f.D,.bool f.I,.bool f.Z,.bool f.C],.bool k] w fun e w' => e = .returned (.int .u8 (packP f k))∧Below w.heap.size w w':=by
  have hp:=pack_sum f.N f.V f.D f.I f.Z f.C k
  have z1:=bitJ_b f.N 128 (by decide)
  have z2:=bitJ_b f.V 64 (by decide)
  have z3:=bitJ_b k 16 (by decide)
  have z4:=bitJ_b f.D 8 (by decide)
  have z5:=bitJ_b f.I 4 (by decide)
  have z6:=bitJ_b f.Z 2 (by decide)
  have z7:=bitJ_b f.C 1 (by decide)
  have HP:=Aside0.mk hp
  clear hp
  have HB:=hR w;go_enter Tryz.func164,Tryz.ntmps164
  go_wp2_with fail
  go_region_held3 (fun w' => Below w.heap.size w w'∧w'.cell? ⟨w.heap.size,0,none⟩ = some (.bool f.N)∧w'.cell? ⟨w.heap.size,1,none⟩ = some (.bool f.V)∧w'.cell? ⟨w.heap.size,2,none⟩ = some (.bool f.D)∧w'.cell? ⟨w.heap.size,3,none⟩ = some (.bool f.I)∧w'.cell? ⟨w.heap.size,4,none⟩ = some (.bool f.Z)∧w'.cell? ⟨w.heap.size,5,none⟩ = some (.bool f.C)) (first | (go_keep;done) | (go_split_ands;(repeat' apply And.intro) <;> (first | (with_reducible assumption) | (go_simp;done) | (exact cell_keep blw (by assumption)) | exact blw))) (first | (go_at_call 92;((with_reducible refine (spec_l02Bit _ _ _).mono ?_);rintro _ _ ⟨rfl,rfl⟩)))
  go_wp2_with fail
  go_ret
  exact ⟨ret_of (by rw [← HP.out];simp [IntKind.wrap_u8];rw [w64 (x:=bitJ f.N 128+bitJ f.V 64) (by omega),w64 (x:=_+32) (by omega),w64 (x:=_+bitJ k 16) (by omega),w64 (x:=_+bitJ f.D 8) (by omega),w64 (x:=_+bitJ f.I 4) (by omega),w64 (x:=_+bitJ f.Z 2) (by omega),w64 (x:=_+bitJ f.C 1) (by omega)]),blw⟩
open Go.RowKit Go.Proofs.YtoncmhfmkfeolaaGreatDoorW.PrintWords
attribute [local go_sem] u8_and1 u8_and15 u8_and240 i64_and15
theorem has7_eq (b : Int) (h0 : 0 ≤ b) (h1 : b < 256) : (b / 128 % 2 == 1) = decide (128 ≤ b):=by
  rw [Bool.eq_iff_iff];simp;omega
theorem impl_has7 (b : Int) (w : World) (h0 : 0 ≤ b) (h1 : b < 256) :
    Calls Tryz.prog 189 #[.int .u8 b,.int .i64 7] w fun e w' => e = .returned (.bool (decide (128 ≤ b)))∧w = w':=by
  have hb:=u8_and1 (b / 128) (by omega) (by omega)
  have HB:=hR w;go_enter Tryz.func189,Tryz.ntmps189
  go_wp2
  go_ret
  exact ⟨congrArg (fun x => Ending.returned (.bool x)) (has7_eq b h0 h1),rfl⟩
theorem impl_one (b : Bool) (w : World) :
    Calls Tryz.prog 140 #[.bool b] w fun e w' => e = .returned (.int .i64 (b2i b))∧w = w':=by
  cases b
  all_goals
    have HB:=hR w;go_enter Tryz.func140,Tryz.ntmps140
    go_wp2
    go_ret
    exact ⟨rfl,rfl⟩
theorem impl_NZ (a : Int) (f : F6) (w : World) (h0 : 0 ≤ a) (h1 : a < 256) :
    Calls Tryz.prog 157 #[.int .u8 a,.agg #[.bool f.N,.bool f.V,.bool f.D,.bool f.I,.bool f.Z,.bool f.C]] w fun e w' => e = .returned (.agg #[.bool (nz a f).N,.bool (nz a f).V,.bool (nz a f).D,.bool (nz a f).I,.bool (nz a f).Z,.bool (nz a f).C])∧Below w.heap.size w w':=by
  have HB:=hR w;go_enter Tryz.func157,Tryz.ntmps157
  go_wp2_with (first | (go_at_call 189;((with_reducible refine (impl_has7 _ _ (by omega) (by omega)).mono ?_);rintro _ _ ⟨rfl,rfl⟩)))
  (refine bodyPost_ret (v:=.agg #[.bool (nz a f).N,.bool (nz a f).V,.bool (nz a f).D,.bool (nz a f).I,.bool (nz a f).Z,.bool (nz a f).C]) (by (simp only [results,Tryz.results157];go_simp <;> (simp [nz]))) rfl ?_)
  exact ⟨rfl,blw⟩
theorem over_same {a b c : Int} (h : decide (128 ≤ a) = decide (128 ≤ b)) : over a b c = !(decide (128 ≤ c) == decide (128 ≤ b)):=by simp [over,h]
theorem over_else {a b c : Int} (h : ¬ decide (128 ≤ a) = decide (128 ≤ b)) : over a b c = false:=by simp only [over,beq_eq_false_iff_ne.2 h,Bool.false_and]
set_option maxHeartbeats 1000000 in
theorem impl_Adc (a b : Int) (f : F6) (w : World) (h0 : 0 ≤ a) (h1 : a < 256) (h2 : 0 ≤ b) (h3 : b < 256) :
    Calls Tryz.prog 181 #[.int .u8 a,.int .u8 b,.agg #[.bool f.N,.bool f.V,.bool f.D,.bool f.I,.bool f.Z,.bool f.C]] w fun e w' => e = .returned (.tuple #[.int .u8 (adc a b f).1,.agg #[.bool (adc a b f).2.N,.bool (adc a b f).2.V,.bool (adc a b f).2.D,.bool (adc a b f).2.I,.bool (adc a b f).2.Z,.bool (adc a b f).2.C]])∧Below w.heap.size w w':=by
  obtain ⟨n,v,d,i,z,c⟩:=f
  have hb0:=b2i_lo c
  have hb1:=b2i_hi c
  dsimp only
  cases d
  case false =>
    have HB:=hR w;go_enter Tryz.func181,Tryz.ntmps181
    go_wp2_with (first | (go_at_call 140;((with_reducible refine (impl_one _ _).mono ?_);rintro _ _ ⟨rfl,rfl⟩)) | (go_at_call 189;((with_reducible refine (impl_has7 _ _ (by omega) (by omega)).mono ?_);rintro _ _ ⟨rfl,rfl⟩)) | (go_at_call 157;((with_reducible refine (impl_NZ _ ⟨_,_,_,_,_,_⟩ _ (by omega) (by omega)).mono ?_);rintro _ w1 ⟨rfl,hb⟩;have HB:=Aside0.mk (below_step (w:=w) blw hb);have hz:=hb.size;obtain ⟨hcl,hfr,hlt,_⟩:=bcell hb;simp only [sA,sC,sD] at hz hcl hfr hlt;clear hb)))
    all_goals go_region
    all_goals go_wp2
    all_goals (refine bodyPost_ret (v:=.tuple #[.int .u8 (adc a b ⟨n,v,false,i,z,c⟩).1,.agg #[.bool (adc a b ⟨n,v,false,i,z,c⟩).2.N,.bool (adc a b ⟨n,v,false,i,z,c⟩).2.V,.bool (adc a b ⟨n,v,false,i,z,c⟩).2.D,.bool (adc a b ⟨n,v,false,i,z,c⟩).2.I,.bool (adc a b ⟨n,v,false,i,z,c⟩).2.Z,.bool (adc a b ⟨n,v,false,i,z,c⟩).2.C]]) (by (simp only [results,Tryz.results181];go_simp <;> ((simp [adc,nz,over] <;> simp [*])))) rfl ?_)
    all_goals exact ⟨rfl,blw⟩
  case true =>
    have HB:=hR w;go_enter Tryz.func181,Tryz.ntmps181
    go_wp2_with (first | (go_at_call 140;((with_reducible refine (impl_one _ _).mono ?_);rintro _ _ ⟨rfl,rfl⟩)) | (go_at_call 189;((with_reducible refine (impl_has7 _ _ (by omega) (by omega)).mono ?_);rintro _ _ ⟨rfl,rfl⟩)) | (go_at_call 157;((with_reducible refine (impl_NZ _ ⟨_,_,_,_,_,_⟩ _ (by omega) (by omega)).mono ?_);rintro _ w1 ⟨rfl,hb⟩;have HB:=Aside0.mk (below_step (w:=w) blw hb);have hz:=hb.size;obtain ⟨hcl,hfr,hlt,_⟩:=bcell hb;simp only [sA,sC,sD] at hz hcl hfr hlt;clear hb)))
    all_goals go_region
    all_goals go_wp2
    all_goals (refine bodyPost_ret (v:=.tuple #[.int .u8 (adc a b ⟨n,v,true,i,z,c⟩).1,.agg #[.bool (adc a b ⟨n,v,true,i,z,c⟩).2.N,.bool (adc a b ⟨n,v,true,i,z,c⟩).2.V,.bool (adc a b ⟨n,v,true,i,z,c⟩).2.D,.bool (adc a b ⟨n,v,true,i,z,c⟩).2.I,.bool (adc a b ⟨n,v,true,i,z,c⟩).2.Z,.bool (adc a b ⟨n,v,true,i,z,c⟩).2.C]]) (by (simp only [results,Tryz.results181];go_simp <;> ((simp only [adc,nz,over,adcSum,adcHigh,adcLow];(repeat' split) <;> (try (exfalso;omega)) <;> (repeat' (apply And.intro)) <;> (first | rfl | omega | (apply Bool.eq_iff_iff.2;simp;omega) | (simp;omega) | (simp [*];done) | (simp [*];omega)))))) rfl ?_)
    all_goals exact ⟨rfl,blw⟩
open Go.RowKit Go.Proofs.YtoncmhfmkfeolaaGreatDoorW.PrintWords
attribute [local go_sem] u8_and1 u8_and15 u8_and240 i64_and15
theorem adc_lo (a b : Int) (f : F6) : 0 ≤ (adc a b f).1:=by unfold adc;split <;> simp only [] <;> omega
theorem adc_hi (a b : Int) (f : F6) : (adc a b f).1 < 256:=by unfold adc;split <;> simp only [] <;> omega
theorem sbc_lo (a b : Int) (f : F6) : 0 ≤ (sbc a b f).1:=by
  unfold sbc;split
  · exact adc_lo _ _ _
  · simp only [];omega
theorem sbc_hi (a b : Int) (f : F6) : (sbc a b f).1 < 256:=by
  unfold sbc;split
  · exact adc_hi _ _ _
  · simp only [];omega
set_option maxHeartbeats 1000000 in
theorem impl_Sbc (a b : Int) (f : F6) (w : World) (h0 : 0 ≤ a) (h1 : a < 256) (h2 : 0 ≤ b) (h3 : b < 256) :
    Calls Tryz.prog 182 #[.int .u8 a,.int .u8 b,.agg #[.bool f.N,.bool f.V,.bool f.D,.bool f.I,.bool f.Z,.bool f.C]] w fun e w' => e = .returned (.tuple #[.int .u8 (sbc a b f).1,.agg #[.bool (sbc a b f).2.N,.bool (sbc a b f).2.V,.bool (sbc a b f).2.D,.bool (sbc a b f).2.I,.bool (sbc a b f).2.Z,.bool (sbc a b f).2.C]])∧Below w.heap.size w w':=by
  obtain ⟨n,v,d,i,z,c⟩:=f
  have hb0:=b2i_lo c
  have hb1:=b2i_hi c
  have hx:=u8_not b h2 h3
  dsimp only
  cases d
  case false =>
    have HB:=hR w;go_enter Tryz.func182,Tryz.ntmps182
    go_wp2_with (first | (go_at_call 140;((with_reducible refine (impl_one _ _).mono ?_);rintro _ _ ⟨rfl,rfl⟩)) | (go_at_call 181;((with_reducible refine (impl_Adc _ _ ⟨_,_,_,_,_,_⟩ _ (by omega) (by omega) (by omega) (by omega)).mono ?_);rintro _ w1 ⟨rfl,hb⟩;have HB:=Aside0.mk (below_step (w:=w) blw hb);have hz:=hb.size;obtain ⟨hcl,hfr,hlt,_⟩:=bcell hb;simp only [sA,sC,sD] at hz hcl hfr hlt;clear hb)))
    all_goals go_region
    all_goals go_wp2
    all_goals (refine bodyPost_ret (v:=.tuple #[.int .u8 (sbc a b ⟨n,v,false,i,z,c⟩).1,.agg #[.bool (sbc a b ⟨n,v,false,i,z,c⟩).2.N,.bool (sbc a b ⟨n,v,false,i,z,c⟩).2.V,.bool (sbc a b ⟨n,v,false,i,z,c⟩).2.D,.bool (sbc a b ⟨n,v,false,i,z,c⟩).2.I,.bool (sbc a b ⟨n,v,false,i,z,c⟩).2.Z,.bool (sbc a b ⟨n,v,false,i,z,c⟩).2.C]]) (by (simp only [results,Tryz.results182];go_simp <;> ((simp [sbc,adc,nz];done)))) rfl ?_)
    all_goals exact ⟨rfl,blw⟩
  case true =>
    have HB:=hR w;go_enter Tryz.func182,Tryz.ntmps182
    go_wp2_with (first | (go_at_call 140;((with_reducible refine (impl_one _ _).mono ?_);rintro _ _ ⟨rfl,rfl⟩)) | (go_at_call 181;((with_reducible refine (impl_Adc _ _ ⟨_,_,_,_,_,_⟩ _ (by omega) (by omega) (by omega) (by omega)).mono ?_);rintro _ w1 ⟨rfl,hb⟩;have HB:=Aside0.mk (below_step (w:=w) blw hb);have hz:=hb.size;obtain ⟨hcl,hfr,hlt,_⟩:=bcell hb;simp only [sA,sC,sD] at hz hcl hfr hlt;clear hb)))
    all_goals go_region
    all_goals go_wp2
    all_goals (refine bodyPost_ret (v:=.tuple #[.int .u8 (sbc a b ⟨n,v,true,i,z,c⟩).1,.agg #[.bool (sbc a b ⟨n,v,true,i,z,c⟩).2.N,.bool (sbc a b ⟨n,v,true,i,z,c⟩).2.V,.bool (sbc a b ⟨n,v,true,i,z,c⟩).2.D,.bool (sbc a b ⟨n,v,true,i,z,c⟩).2.I,.bool (sbc a b ⟨n,v,true,i,z,c⟩).2.Z,.bool (sbc a b ⟨n,v,true,i,z,c⟩).2.C]]) (by (simp only [results,Tryz.results182];go_simp <;> ((simp only [sbc,sbcSum,sbcHigh,sbcLow];(repeat' split) <;> (try (exfalso;omega)) <;> (repeat' (apply And.intro)) <;> (first | rfl | omega | (simp;omega) | (simp [*];done)))))) rfl ?_)
    all_goals exact ⟨rfl,blw⟩
open Go.RowKit Go.Proofs.YtoncmhfmkfeolaaGreatDoorW.PrintWords
theorem set_set (w : World) (p : Addr) (v u : Value) : (w.setCell p v).setCell p u = w.setCell p u:=by
  unfold World.setCell
  congr 1
  apply Array.ext_getElem?
  intro i
  simp only [Array.getElem?_modify]
  split
  · cases w.heap[i]? with
    | none => rfl
    | some o =>
      cases o with
      | cells c e fz => simp only [Option.map_some];split <;> simp [Array.setIfInBounds_setIfInBounds]
      | _ => rfl
  · rfl
attribute [go_sem] set_set
open Go.RowKit Go.Proofs.YtoncmhfmkfeolaaGreatDoorW.PrintWords
theorem lt_s1T {a b : Nat} (h : a < b) : (a < b+1) = True:=eq_true (by omega)
theorem lt_s2T {a b : Nat} (h : a < b) : (a < b+1+1) = True:=eq_true (by omega)
theorem le_s0T {a b : Nat} (h : a < b) : (a ≤ b) = True:=eq_true (by omega)
theorem ne_s1T {a b : Nat} (h : a < b) : (a = b+1) = False:=eq_false (by omega)
theorem en_s1T {a b : Nat} (h : a < b) : (b+1 = a) = False:=eq_false (by omega)
theorem ne_s0T {a b : Nat} (h : a < b) : (a = b) = False:=eq_false (by omega)
theorem en_s0T {a b : Nat} (h : a < b) : (b = a) = False:=eq_false (by omega)
theorem lt_z1 (n : Nat) : (n < n+1) = True:=eq_true (by omega)
theorem lt_z2 (n : Nat) : (n+1 < n+1+1) = True:=eq_true (by omega)
theorem ne_z1 (n : Nat) : (n = n+1) = False:=eq_false (by omega)
theorem en_z1 (n : Nat) : (n+1 = n) = False:=eq_false (by omega)
attribute [go_sem] lt_z1 lt_z2 ne_z1 en_z1 lt_s1T lt_s2T le_s0T ne_s1T en_s1T ne_s0T en_s0T
end Go.Proofs.YtoncmhfmkfeolaaGreatDoor
