/- The processor's moves, comparisons and flags: what impl's functions return. -/
import Derived.Test.YtoncmhfmkfeolaaGreatDoorGA
import Derived.Deep.RegionHeld3
import Derived.Test.YtoncmhfmkfeolaaGreatDoorGE
import Derived.Test.YtoncmhfmkfeolaaGreatDoorGD
set_option linter.unusedVariables false
set_option linter.unusedSimpArgs false
namespace Go.Proofs.YtoncmhfmkfeolaaGreatDoor
open Go.RowKit Go.Proofs.YtoncmhfmkfeolaaGreatDoorW.PrintWords
attribute [local go_sem] u8_and1 u8_and15 u8_and240 i64_and15
def bitT (b k : Int) : Bool:=b / k % 2 == 1
theorem impl_hasB6 (b : Int) (w : World) (h0 : 0 ≤ b) (h1 : b < 256) : Calls Tryz.prog 189 #[.int .u8 b,.int .i64 6] w fun e w' => e = .returned (.bool (bitT b 64))∧w = w':=by
  have hb:=u8_and1 (b / 64) (by omega) (by omega);have HB:=hR w;go_enter Tryz.func189,Tryz.ntmps189;go_wp2;go_ret;exact ⟨rfl,rfl⟩
theorem impl_hasB3 (b : Int) (w : World) (h0 : 0 ≤ b) (h1 : b < 256) : Calls Tryz.prog 189 #[.int .u8 b,.int .i64 3] w fun e w' => e = .returned (.bool (bitT b 8))∧w = w':=by
  have hb:=u8_and1 (b / 8) (by omega) (by omega);have HB:=hR w;go_enter Tryz.func189,Tryz.ntmps189;go_wp2;go_ret;exact ⟨rfl,rfl⟩
theorem impl_hasB2 (b : Int) (w : World) (h0 : 0 ≤ b) (h1 : b < 256) : Calls Tryz.prog 189 #[.int .u8 b,.int .i64 2] w fun e w' => e = .returned (.bool (bitT b 4))∧w = w':=by
  have hb:=u8_and1 (b / 4) (by omega) (by omega);have HB:=hR w;go_enter Tryz.func189,Tryz.ntmps189;go_wp2;go_ret;exact ⟨rfl,rfl⟩
theorem impl_hasB1 (b : Int) (w : World) (h0 : 0 ≤ b) (h1 : b < 256) : Calls Tryz.prog 189 #[.int .u8 b,.int .i64 1] w fun e w' => e = .returned (.bool (bitT b 2))∧w = w':=by
  have hb:=u8_and1 (b / 2) (by omega) (by omega);have HB:=hR w;go_enter Tryz.func189,Tryz.ntmps189;go_wp2;go_ret;exact ⟨rfl,rfl⟩
theorem impl_hasB0 (b : Int) (w : World) (h0 : 0 ≤ b) (h1 : b < 256) : Calls Tryz.prog 189 #[.int .u8 b,.int .i64 0] w fun e w' => e = .returned (.bool (bitT b 1))∧w = w':=by
  have hb:=u8_and1 b (by omega) (by omega)
  have HB:=hR w;go_enter Tryz.func189,Tryz.ntmps189
  go_wp2
  go_ret
  exact ⟨ret_of (by simp [bitT]),rfl⟩
def unpackP (b : Int) : F6:=⟨decide (128 ≤ b),bitT b 64,bitT b 8,bitT b 4,bitT b 2,bitT b 1⟩
theorem impl_UnpackP (b : Int) (w : World) (h0 : 0 ≤ b) (h1 : b < 256) : Calls Tryz.prog 159 #[.int .u8 b] w fun e w' => e = .returned (.agg #[.bool (unpackP b).N,.bool (unpackP b).V,.bool (unpackP b).D,.bool (unpackP b).I,.bool (unpackP b).Z,.bool (unpackP b).C])∧Below w.heap.size w w':=by
  have HB:=hR w;go_enter Tryz.func159,Tryz.ntmps159
  go_wp2_with (first | (go_at_call 189;((with_reducible refine (impl_has7 _ _ h0 h1).mono ?_);rintro _ _ ⟨rfl,rfl⟩)) | (go_at_call 189;((with_reducible refine (impl_hasB6 _ _ h0 h1).mono ?_);rintro _ _ ⟨rfl,rfl⟩)) | (go_at_call 189;((with_reducible refine (impl_hasB3 _ _ h0 h1).mono ?_);rintro _ _ ⟨rfl,rfl⟩)) | (go_at_call 189;((with_reducible refine (impl_hasB2 _ _ h0 h1).mono ?_);rintro _ _ ⟨rfl,rfl⟩)) | (go_at_call 189;((with_reducible refine (impl_hasB1 _ _ h0 h1).mono ?_);rintro _ _ ⟨rfl,rfl⟩)) | (go_at_call 189;((with_reducible refine (impl_hasB0 _ _ h0 h1).mono ?_);rintro _ _ ⟨rfl,rfl⟩)))
  (refine bodyPost_ret (v:=.agg #[.bool (unpackP b).N,.bool (unpackP b).V,.bool (unpackP b).D,.bool (unpackP b).I,.bool (unpackP b).Z,.bool (unpackP b).C]) (by (simp only [results,Tryz.results159];go_simp <;> ((simp [unpackP];done)))) rfl ?_)
  exact ⟨rfl,blw⟩
def cmpF (a b : Int) (f : F6) : F6:={ nz ((a - b) % 256) f with C:=decide (b ≤ a) }
set_option maxHeartbeats 400000 in
theorem impl_Cmp (a b : Int) (f : F6) (w : World) (h0 : 0 ≤ a) (h1 : a < 256) (h2 : 0 ≤ b) (h3 : b < 256) : Calls Tryz.prog 183 #[.int .u8 a,.int .u8 b,.agg #[.bool f.N,.bool f.V,.bool f.D,.bool f.I,.bool f.Z,.bool f.C]] w fun e w' => e = .returned (.agg #[.bool (cmpF a b f).N,.bool (cmpF a b f).V,.bool (cmpF a b f).D,.bool (cmpF a b f).I,.bool (cmpF a b f).Z,.bool (cmpF a b f).C])∧Below w.heap.size w w':=by
  have HB:=hR w;go_enter Tryz.func183,Tryz.ntmps183
  go_wp2_with fail
  refine (impl_NZ _ f _ (by omega) (by omega)).mono ?_
  rintro _ w1 ⟨rfl,hb⟩
  (have HB:=Aside0.mk (below_step (w:=w) blw hb);have hz1:=hb.size;obtain ⟨hcl1,hfr1,hlt1,_⟩:=bcell hb;(try simp only [sA,sC,sD] at hz1);(try simp only [sA,sC,sD] at hcl1 hfr1 hlt1);have hk1_0 : w.heap.size < w1.heap.size:=(by omega);have hk1_1 : w.heap.size+1 < w1.heap.size:=(by omega);have HB1:=hR w1;clear hb)
  go_wp2_with fail
  (refine bodyPost_ret (v:=.agg #[.bool (cmpF a b f).N,.bool (cmpF a b f).V,.bool (cmpF a b f).D,.bool (cmpF a b f).I,.bool (cmpF a b f).Z,.bool (cmpF a b f).C]) (by (simp only [results,Tryz.results183];go_simp <;> ((simp [cmpF,nz];done)))) rfl ?_)
  exact ⟨rfl,blw⟩
def movF (b : Int) (out : Bool) (f : F6) : F6:={ nz b f with C:=out }
set_option maxHeartbeats 400000 in
theorem impl_moved (b : Int) (out : Bool) (f : F6) (w : World) (h0 : 0 ≤ b) (h1 : b < 256) : Calls Tryz.prog 208 #[.int .u8 b,.bool out,.agg #[.bool f.N,.bool f.V,.bool f.D,.bool f.I,.bool f.Z,.bool f.C]] w fun e w' => e = .returned (.tuple #[.int .u8 b,.agg #[.bool (movF b out f).N,.bool (movF b out f).V,.bool (movF b out f).D,.bool (movF b out f).I,.bool (movF b out f).Z,.bool (movF b out f).C]])∧Below w.heap.size w w':=by
  have HB:=hR w;go_enter Tryz.func208,Tryz.ntmps208
  go_wp2_with fail
  refine (impl_NZ _ f _ h0 h1).mono ?_
  rintro _ w1 ⟨rfl,hb⟩
  (have HB:=Aside0.mk (below_step (w:=w) blw hb);have hz1:=hb.size;obtain ⟨hcl1,hfr1,hlt1,_⟩:=bcell hb;(try simp only [sA,sC,sD] at hz1);(try simp only [sA,sC,sD] at hcl1 hfr1 hlt1);have hk1_0 : w.heap.size < w1.heap.size:=(by omega);have hk1_1 : w.heap.size+1 < w1.heap.size:=(by omega);have HB1:=hR w1;clear hb)
  go_wp2_with fail
  go_region
  go_wp2_with fail
  (refine bodyPost_ret (v:=.tuple #[.int .u8 b,.agg #[.bool (movF b out f).N,.bool (movF b out f).V,.bool (movF b out f).D,.bool (movF b out f).I,.bool (movF b out f).Z,.bool (movF b out f).C]]) (by (simp only [results,Tryz.results208];go_simp <;> ((simp [movF,nz];done)))) rfl ?_)
  exact ⟨rfl,blw⟩
def aslT (b : Int) (f : F6) : Int × F6:=(b * 2 % 256,movF (b * 2 % 256) (decide (128 ≤ b)) f)
def lsrT (b : Int) (f : F6) : Int × F6:=(b / 2,movF (b / 2) (bitT b 1) f)
def rolT (b : Int) (f : F6) : Int × F6:=(b * 2 % 256+b2i f.C,movF (b * 2 % 256+b2i f.C) (decide (128 ≤ b)) f)
def rorT (b : Int) (f : F6) : Int × F6:=(b / 2+128 * b2i f.C,movF (b / 2+128 * b2i f.C) (bitT b 1) f)
theorem u8_rol : ∀ n : Nat,n < 256 → ∀ c : Bool,bits .or .u8 (((n : Int)) * 2 % 256) (bitI c 0) = (n : Int) * 2 % 256+b2i c:=by decide +kernel
theorem u8_ror : ∀ n : Nat,n < 256 → ∀ c : Bool,bits .or .u8 ((n : Int) / 2) (bitI c 7) = (n : Int) / 2+128 * b2i c:=by decide +kernel
set_option maxHeartbeats 400000 in
theorem impl_Asl (b : Int) (f : F6) (w : World) (h0 : 0 ≤ b) (h1 : b < 256) : Calls Tryz.prog 185 #[.int .u8 b,.agg #[.bool f.N,.bool f.V,.bool f.D,.bool f.I,.bool f.Z,.bool f.C]] w fun e w' => e = .returned (.tuple #[.int .u8 (aslT b f).1,.agg #[.bool (aslT b f).2.N,.bool (aslT b f).2.V,.bool (aslT b f).2.D,.bool (aslT b f).2.I,.bool (aslT b f).2.Z,.bool (aslT b f).2.C]])∧Below w.heap.size w w':=by
  have e1 : IntKind.u8.wrap (b * 2) = b * 2 % 256:=IntKind.wrap_u8 _
  have HB:=hR w;go_enter Tryz.func185,Tryz.ntmps185;go_wp2_with fail;go_region_held3 (fun w' => Below w.heap.size w w'∧w'.cell? ⟨w.heap.size,0,none⟩ = some (.bool f.N)∧w'.cell? ⟨w.heap.size,1,none⟩ = some (.bool f.V)∧w'.cell? ⟨w.heap.size,2,none⟩ = some (.bool f.D)∧w'.cell? ⟨w.heap.size,3,none⟩ = some (.bool f.I)∧w'.cell? ⟨w.heap.size,4,none⟩ = some (.bool f.Z)∧w'.cell? ⟨w.heap.size,5,none⟩ = some (.bool f.C)) (first | (go_keep;done) | (go_split_ands;(repeat' apply And.intro) <;> (first | (with_reducible assumption) | (go_simp;done) | (exact cell_keep blw (by assumption)) | exact blw))) (first | (go_at_call 189;((with_reducible refine (impl_has7 _ _ h0 h1).mono ?_);rintro _ _ ⟨rfl,rfl⟩)) | (go_at_call 189;((with_reducible refine (impl_hasB0 _ _ h0 h1).mono ?_);rintro _ _ ⟨rfl,rfl⟩)) | (go_at_call 150;((with_reducible refine (impl_bit _ _ _ (by decide) (by decide)).mono ?_);rintro _ _ ⟨rfl,rfl⟩)) | (go_at_call 208;((with_reducible refine (impl_moved (b * 2 % 256) (decide (128 ≤ b)) f _ (by omega) (by omega)).mono ?_);rintro _ w1 ⟨rfl,hb⟩;have HB:=Aside0.mk (below_step (w:=w) blw hb);have hz1:=hb.size;obtain ⟨hcl1,hfr1,hlt1,_⟩:=bcell hb;(try simp only [sA,sC,sD] at hz1);(try simp only [sA,sC,sD] at hcl1 hfr1 hlt1);have hk1_0 : w.heap.size < w1.heap.size:=(by omega);have hk1_1 : w.heap.size+1 < w1.heap.size:=(by omega);have HB1:=hR w1;clear hb)));go_wp2_with fail;(refine bodyPost_ret (v:=.tuple #[.int .u8 (aslT b f).1,.agg #[.bool (aslT b f).2.N,.bool (aslT b f).2.V,.bool (aslT b f).2.D,.bool (aslT b f).2.I,.bool (aslT b f).2.Z,.bool (aslT b f).2.C]]) (by (simp only [results,Tryz.results185];go_simp <;> ((first | rfl | (simp [aslT];done))))) rfl ?_);exact ⟨rfl,blw⟩
set_option maxHeartbeats 400000 in
theorem impl_Lsr (b : Int) (f : F6) (w : World) (h0 : 0 ≤ b) (h1 : b < 256) : Calls Tryz.prog 186 #[.int .u8 b,.agg #[.bool f.N,.bool f.V,.bool f.D,.bool f.I,.bool f.Z,.bool f.C]] w fun e w' => e = .returned (.tuple #[.int .u8 (lsrT b f).1,.agg #[.bool (lsrT b f).2.N,.bool (lsrT b f).2.V,.bool (lsrT b f).2.D,.bool (lsrT b f).2.I,.bool (lsrT b f).2.Z,.bool (lsrT b f).2.C]])∧Below w.heap.size w w':=by
  have HB:=hR w;go_enter Tryz.func186,Tryz.ntmps186;go_wp2_with fail;go_region_held3 (fun w' => Below w.heap.size w w'∧w'.cell? ⟨w.heap.size,0,none⟩ = some (.bool f.N)∧w'.cell? ⟨w.heap.size,1,none⟩ = some (.bool f.V)∧w'.cell? ⟨w.heap.size,2,none⟩ = some (.bool f.D)∧w'.cell? ⟨w.heap.size,3,none⟩ = some (.bool f.I)∧w'.cell? ⟨w.heap.size,4,none⟩ = some (.bool f.Z)∧w'.cell? ⟨w.heap.size,5,none⟩ = some (.bool f.C)) (first | (go_keep;done) | (go_split_ands;(repeat' apply And.intro) <;> (first | (with_reducible assumption) | (go_simp;done) | (exact cell_keep blw (by assumption)) | exact blw))) (first | (go_at_call 189;((with_reducible refine (impl_has7 _ _ h0 h1).mono ?_);rintro _ _ ⟨rfl,rfl⟩)) | (go_at_call 189;((with_reducible refine (impl_hasB0 _ _ h0 h1).mono ?_);rintro _ _ ⟨rfl,rfl⟩)) | (go_at_call 150;((with_reducible refine (impl_bit _ _ _ (by decide) (by decide)).mono ?_);rintro _ _ ⟨rfl,rfl⟩)) | (go_at_call 208;((with_reducible refine (impl_moved (b / 2) (bitT b 1) f _ (by omega) (by omega)).mono ?_);rintro _ w1 ⟨rfl,hb⟩;have HB:=Aside0.mk (below_step (w:=w) blw hb);have hz1:=hb.size;obtain ⟨hcl1,hfr1,hlt1,_⟩:=bcell hb;(try simp only [sA,sC,sD] at hz1);(try simp only [sA,sC,sD] at hcl1 hfr1 hlt1);have hk1_0 : w.heap.size < w1.heap.size:=(by omega);have hk1_1 : w.heap.size+1 < w1.heap.size:=(by omega);have HB1:=hR w1;clear hb)));go_wp2_with fail;(refine bodyPost_ret (v:=.tuple #[.int .u8 (lsrT b f).1,.agg #[.bool (lsrT b f).2.N,.bool (lsrT b f).2.V,.bool (lsrT b f).2.D,.bool (lsrT b f).2.I,.bool (lsrT b f).2.Z,.bool (lsrT b f).2.C]]) (by (simp only [results,Tryz.results186];go_simp <;> ((first | rfl | (simp [lsrT];done))))) rfl ?_);exact ⟨rfl,blw⟩
theorem of_u8 {P : Int → Prop} (h : ∀ n : Nat,n < 256 → P n) (b : Int) (h0 : 0 ≤ b) (h1 : b < 256) : P b:=by
  obtain ⟨n,rfl⟩:=Int.eq_ofNat_of_zero_le h0
  exact h n (by omega)
set_option maxHeartbeats 400000 in
theorem impl_Rol (b : Int) (f : F6) (w : World) (h0 : 0 ≤ b) (h1 : b < 256) : Calls Tryz.prog 187 #[.int .u8 b,.agg #[.bool f.N,.bool f.V,.bool f.D,.bool f.I,.bool f.Z,.bool f.C]] w fun e w' => e = .returned (.tuple #[.int .u8 (rolT b f).1,.agg #[.bool (rolT b f).2.N,.bool (rolT b f).2.V,.bool (rolT b f).2.D,.bool (rolT b f).2.I,.bool (rolT b f).2.Z,.bool (rolT b f).2.C]])∧Below w.heap.size w w':=by
  have e1 : IntKind.u8.wrap (b * 2) = b * 2 % 256:=IntKind.wrap_u8 _
  have e2:=of_u8 (P:=fun b => ∀ c : Bool,bits .or .u8 (b * 2 % 256) (bitI c 0) = b * 2 % 256+b2i c) u8_rol b h0 h1 f.C
  have q0:=b2i_lo f.C
  have q1:=b2i_hi f.C
  have HB:=hR w;go_enter Tryz.func187,Tryz.ntmps187;go_wp2_with fail;go_region_held3 (fun w' => Below w.heap.size w w'∧w'.cell? ⟨w.heap.size,0,none⟩ = some (.bool f.N)∧w'.cell? ⟨w.heap.size,1,none⟩ = some (.bool f.V)∧w'.cell? ⟨w.heap.size,2,none⟩ = some (.bool f.D)∧w'.cell? ⟨w.heap.size,3,none⟩ = some (.bool f.I)∧w'.cell? ⟨w.heap.size,4,none⟩ = some (.bool f.Z)∧w'.cell? ⟨w.heap.size,5,none⟩ = some (.bool f.C)) (first | (go_keep;done) | (go_split_ands;(repeat' apply And.intro) <;> (first | (with_reducible assumption) | (go_simp;done) | (exact cell_keep blw (by assumption)) | exact blw))) (first | (go_at_call 189;((with_reducible refine (impl_has7 _ _ h0 h1).mono ?_);rintro _ _ ⟨rfl,rfl⟩)) | (go_at_call 189;((with_reducible refine (impl_hasB0 _ _ h0 h1).mono ?_);rintro _ _ ⟨rfl,rfl⟩)) | (go_at_call 150;((with_reducible refine (impl_bit _ _ _ (by decide) (by decide)).mono ?_);rintro _ _ ⟨rfl,rfl⟩)) | (go_at_call 208;((with_reducible refine (impl_moved (b * 2 % 256+b2i f.C) (decide (128 ≤ b)) f _ (by omega) (by omega)).mono ?_);rintro _ w1 ⟨rfl,hb⟩;have HB:=Aside0.mk (below_step (w:=w) blw hb);have hz1:=hb.size;obtain ⟨hcl1,hfr1,hlt1,_⟩:=bcell hb;(try simp only [sA,sC,sD] at hz1);(try simp only [sA,sC,sD] at hcl1 hfr1 hlt1);have hk1_0 : w.heap.size < w1.heap.size:=(by omega);have hk1_1 : w.heap.size+1 < w1.heap.size:=(by omega);have HB1:=hR w1;clear hb)));go_wp2_with fail;(refine bodyPost_ret (v:=.tuple #[.int .u8 (rolT b f).1,.agg #[.bool (rolT b f).2.N,.bool (rolT b f).2.V,.bool (rolT b f).2.D,.bool (rolT b f).2.I,.bool (rolT b f).2.Z,.bool (rolT b f).2.C]]) (by (simp only [results,Tryz.results187];go_simp <;> ((first | rfl | (simp [rolT];done))))) rfl ?_);exact ⟨rfl,blw⟩
set_option maxHeartbeats 400000 in
theorem impl_Ror (b : Int) (f : F6) (w : World) (h0 : 0 ≤ b) (h1 : b < 256) : Calls Tryz.prog 188 #[.int .u8 b,.agg #[.bool f.N,.bool f.V,.bool f.D,.bool f.I,.bool f.Z,.bool f.C]] w fun e w' => e = .returned (.tuple #[.int .u8 (rorT b f).1,.agg #[.bool (rorT b f).2.N,.bool (rorT b f).2.V,.bool (rorT b f).2.D,.bool (rorT b f).2.I,.bool (rorT b f).2.Z,.bool (rorT b f).2.C]])∧Below w.heap.size w w':=by
  have e2:=of_u8 (P:=fun b => ∀ c : Bool,bits .or .u8 (b / 2) (bitI c 7) = b / 2+128 * b2i c) u8_ror b h0 h1 f.C
  have q0:=b2i_lo f.C
  have q1:=b2i_hi f.C
  have HB:=hR w;go_enter Tryz.func188,Tryz.ntmps188;go_wp2_with fail;go_region_held3 (fun w' => Below w.heap.size w w'∧w'.cell? ⟨w.heap.size,0,none⟩ = some (.bool f.N)∧w'.cell? ⟨w.heap.size,1,none⟩ = some (.bool f.V)∧w'.cell? ⟨w.heap.size,2,none⟩ = some (.bool f.D)∧w'.cell? ⟨w.heap.size,3,none⟩ = some (.bool f.I)∧w'.cell? ⟨w.heap.size,4,none⟩ = some (.bool f.Z)∧w'.cell? ⟨w.heap.size,5,none⟩ = some (.bool f.C)) (first | (go_keep;done) | (go_split_ands;(repeat' apply And.intro) <;> (first | (with_reducible assumption) | (go_simp;done) | (exact cell_keep blw (by assumption)) | exact blw))) (first | (go_at_call 189;((with_reducible refine (impl_has7 _ _ h0 h1).mono ?_);rintro _ _ ⟨rfl,rfl⟩)) | (go_at_call 189;((with_reducible refine (impl_hasB0 _ _ h0 h1).mono ?_);rintro _ _ ⟨rfl,rfl⟩)) | (go_at_call 150;((with_reducible refine (impl_bit _ _ _ (by decide) (by decide)).mono ?_);rintro _ _ ⟨rfl,rfl⟩)) | (go_at_call 208;((with_reducible refine (impl_moved (b / 2+128 * b2i f.C) (bitT b 1) f _ (by omega) (by omega)).mono ?_);rintro _ w1 ⟨rfl,hb⟩;have HB:=Aside0.mk (below_step (w:=w) blw hb);have hz1:=hb.size;obtain ⟨hcl1,hfr1,hlt1,_⟩:=bcell hb;(try simp only [sA,sC,sD] at hz1);(try simp only [sA,sC,sD] at hcl1 hfr1 hlt1);have hk1_0 : w.heap.size < w1.heap.size:=(by omega);have hk1_1 : w.heap.size+1 < w1.heap.size:=(by omega);have HB1:=hR w1;clear hb)));go_wp2_with fail;(refine bodyPost_ret (v:=.tuple #[.int .u8 (rorT b f).1,.agg #[.bool (rorT b f).2.N,.bool (rorT b f).2.V,.bool (rorT b f).2.D,.bool (rorT b f).2.I,.bool (rorT b f).2.Z,.bool (rorT b f).2.C]]) (by (simp only [results,Tryz.results188];go_simp <;> ((first | rfl | (simp [rorT];done))))) rfl ?_);exact ⟨rfl,blw⟩
def bitF (a m : Int) (f : F6) : F6:={ f with N:=decide (128 ≤ m),V:=bitT m 64,Z:=bits .and .u8 a m == 0 }
theorem impl_BitTest (a m : Int) (f : F6) (w : World) (h0 : 0 ≤ a) (h1 : a < 256) (h2 : 0 ≤ m) (h3 : m < 256) : Calls Tryz.prog 184 #[.int .u8 a,.int .u8 m,.agg #[.bool f.N,.bool f.V,.bool f.D,.bool f.I,.bool f.Z,.bool f.C]] w fun e w' => e = .returned (.agg #[.bool (bitF a m f).N,.bool (bitF a m f).V,.bool (bitF a m f).D,.bool (bitF a m f).I,.bool (bitF a m f).Z,.bool (bitF a m f).C])∧Below w.heap.size w w':=by
  have HB:=hR w;go_enter Tryz.func184,Tryz.ntmps184
  go_wp2_with (first | (go_at_call 189;((with_reducible refine (impl_has7 _ _ h2 h3).mono ?_);rintro _ _ ⟨rfl,rfl⟩)) | (go_at_call 189;((with_reducible refine (impl_hasB6 _ _ h2 h3).mono ?_);rintro _ _ ⟨rfl,rfl⟩)))
  (refine bodyPost_ret (v:=.agg #[.bool (bitF a m f).N,.bool (bitF a m f).V,.bool (bitF a m f).D,.bool (bitF a m f).I,.bool (bitF a m f).Z,.bool (bitF a m f).C]) (by (simp only [results,Tryz.results184];go_simp <;> ((simp [bitF];done)))) rfl ?_)
  exact ⟨rfl,blw⟩
end Go.Proofs.YtoncmhfmkfeolaaGreatDoor
namespace Go.Proofs.YtoncmhfmkfeolaaGreatDoor
open Go.RowKit Go.Proofs.YtoncmhfmkfeolaaGreatDoorW.PrintWords
def stF (c : Cpu) (f : F6) : Cpu:={ c with F:=f }
def ldA (c : Cpu) (v : Int) : Cpu:={ c with A:=v,F:=nz v c.F }
def ldX (c : Cpu) (v : Int) : Cpu:={ c with X:=v,F:=nz v c.F }
def ldY (c : Cpu) (v : Int) : Cpu:={ c with Y:=v,F:=nz v c.F }
def stA (c : Cpu) (r : Int × F6) : Cpu:={ c with A:=r.1,F:=r.2 }
def doT (x : List UInt8) (c : Cpu) (v : Int) : Cpu × Int :=
  if x == [76,68,65] then (ldA c v,v) else if x == [76,68,88] then (ldX c v,v) else if x == [76,68,89] then (ldY c v,v) else if x == [79,82,65] then (ldA c (bits .or .u8 c.A v),bits .or .u8 c.A v) else if x == [65,78,68] then (ldA c (bits .and .u8 c.A v),bits .and .u8 c.A v) else if x == [69,79,82] then (ldA c (bits .xor .u8 c.A v),bits .xor .u8 c.A v) else if x == [65,68,67] then (stA c (adc c.A v c.F),v) else if x == [83,66,67] then (stA c (sbc c.A v c.F),v) else if x == [67,77,80] then (stF c (cmpF c.A v c.F),v) else if x == [67,80,88] then (stF c (cmpF c.X v c.F),v) else if x == [67,80,89] then (stF c (cmpF c.Y v c.F),v) else if x == [66,73,84] then (stF c (bitF c.A v c.F),v) else if x == [65,83,76] then (stF c (aslT v c.F).2,(aslT v c.F).1) else if x == [76,83,82] then (stF c (lsrT v c.F).2,(lsrT v c.F).1) else if x == [82,79,76] then (stF c (rolT v c.F).2,(rolT v c.F).1) else if x == [82,79,82] then (stF c (rorT v c.F).2,(rorT v c.F).1) else if x == [73,78,67] then (stF c (nz ((v+1) % 256) c.F),(v+1) % 256) else if x == [68,69,67] then (stF c (nz ((v - 1) % 256) c.F),(v - 1) % 256) else (c,v)
theorem doT_LDA (c : Cpu) (v : Int) : doT [76,68,65] c v = (ldA c v,v):=rfl
theorem doT_LDX (c : Cpu) (v : Int) : doT [76,68,88] c v = (ldX c v,v):=rfl
theorem doT_LDY (c : Cpu) (v : Int) : doT [76,68,89] c v = (ldY c v,v):=rfl
theorem doT_ORA (c : Cpu) (v : Int) : doT [79,82,65] c v = (ldA c (bits .or .u8 c.A v),bits .or .u8 c.A v):=rfl
theorem doT_AND (c : Cpu) (v : Int) : doT [65,78,68] c v = (ldA c (bits .and .u8 c.A v),bits .and .u8 c.A v):=rfl
theorem doT_EOR (c : Cpu) (v : Int) : doT [69,79,82] c v = (ldA c (bits .xor .u8 c.A v),bits .xor .u8 c.A v):=rfl
theorem doT_ADC (c : Cpu) (v : Int) : doT [65,68,67] c v = (stA c (adc c.A v c.F),v):=rfl
theorem doT_SBC (c : Cpu) (v : Int) : doT [83,66,67] c v = (stA c (sbc c.A v c.F),v):=rfl
theorem doT_CMP (c : Cpu) (v : Int) : doT [67,77,80] c v = (stF c (cmpF c.A v c.F),v):=rfl
theorem doT_CPX (c : Cpu) (v : Int) : doT [67,80,88] c v = (stF c (cmpF c.X v c.F),v):=rfl
theorem doT_CPY (c : Cpu) (v : Int) : doT [67,80,89] c v = (stF c (cmpF c.Y v c.F),v):=rfl
theorem doT_BIT (c : Cpu) (v : Int) : doT [66,73,84] c v = (stF c (bitF c.A v c.F),v):=rfl
theorem doT_ASL (c : Cpu) (v : Int) : doT [65,83,76] c v = (stF c (aslT v c.F).2,(aslT v c.F).1):=rfl
theorem doT_LSR (c : Cpu) (v : Int) : doT [76,83,82] c v = (stF c (lsrT v c.F).2,(lsrT v c.F).1):=rfl
theorem doT_ROL (c : Cpu) (v : Int) : doT [82,79,76] c v = (stF c (rolT v c.F).2,(rolT v c.F).1):=rfl
theorem doT_ROR (c : Cpu) (v : Int) : doT [82,79,82] c v = (stF c (rorT v c.F).2,(rorT v c.F).1):=rfl
theorem doT_INC (c : Cpu) (v : Int) : doT [73,78,67] c v = (stF c (nz ((v+1) % 256) c.F),(v+1) % 256):=rfl
theorem doT_DEC (c : Cpu) (v : Int) : doT [68,69,67] c v = (stF c (nz ((v - 1) % 256) c.F),(v - 1) % 256):=rfl
theorem doT_none (x : List UInt8) (c : Cpu) (v : Int) (q0 : (x == [76,68,65]) = false) (q1 : (x == [76,68,88]) = false) (q2 : (x == [76,68,89]) = false) (q3 : (x == [79,82,65]) = false) (q4 : (x == [65,78,68]) = false) (q5 : (x == [69,79,82]) = false) (q6 : (x == [65,68,67]) = false) (q7 : (x == [83,66,67]) = false) (q8 : (x == [67,77,80]) = false) (q9 : (x == [67,80,88]) = false) (q10 : (x == [67,80,89]) = false) (q11 : (x == [66,73,84]) = false) (q12 : (x == [65,83,76]) = false) (q13 : (x == [76,83,82]) = false) (q14 : (x == [82,79,76]) = false) (q15 : (x == [82,79,82]) = false) (q16 : (x == [73,78,67]) = false) (q17 : (x == [68,69,67]) = false) : doT x c v = (c,v):=by
  simp only [doT,q0,q1,q2,q3,q4,q5,q6,q7,q8,q9,q10,q11,q12,q13,q14,q15,q16,q17]
  rfl
theorem do_cases (c : Cpu) (v : Int) (x : List UInt8) (P : List UInt8 → Cpu → Int → Prop) (h0 : P [76,68,65] (ldA c v) (v)) (h1 : P [76,68,88] (ldX c v) (v)) (h2 : P [76,68,89] (ldY c v) (v)) (h3 : P [79,82,65] (ldA c (bits .or .u8 c.A v)) (bits .or .u8 c.A v)) (h4 : P [65,78,68] (ldA c (bits .and .u8 c.A v)) (bits .and .u8 c.A v)) (h5 : P [69,79,82] (ldA c (bits .xor .u8 c.A v)) (bits .xor .u8 c.A v)) (h6 : P [65,68,67] (stA c (adc c.A v c.F)) (v)) (h7 : P [83,66,67] (stA c (sbc c.A v c.F)) (v)) (h8 : P [67,77,80] (stF c (cmpF c.A v c.F)) (v)) (h9 : P [67,80,88] (stF c (cmpF c.X v c.F)) (v)) (h10 : P [67,80,89] (stF c (cmpF c.Y v c.F)) (v)) (h11 : P [66,73,84] (stF c (bitF c.A v c.F)) (v)) (h12 : P [65,83,76] (stF c (aslT v c.F).2) ((aslT v c.F).1)) (h13 : P [76,83,82] (stF c (lsrT v c.F).2) ((lsrT v c.F).1)) (h14 : P [82,79,76] (stF c (rolT v c.F).2) ((rolT v c.F).1)) (h15 : P [82,79,82] (stF c (rorT v c.F).2) ((rorT v c.F).1)) (h16 : P [73,78,67] (stF c (nz ((v+1) % 256) c.F)) ((v+1) % 256)) (h17 : P [68,69,67] (stF c (nz ((v - 1) % 256) c.F)) ((v - 1) % 256))
    (hn : (x == [76,68,65]) = false → (x == [76,68,88]) = false → (x == [76,68,89]) = false → (x == [79,82,65]) = false → (x == [65,78,68]) = false → (x == [69,79,82]) = false → (x == [65,68,67]) = false → (x == [83,66,67]) = false → (x == [67,77,80]) = false → (x == [67,80,88]) = false → (x == [67,80,89]) = false → (x == [66,73,84]) = false → (x == [65,83,76]) = false → (x == [76,83,82]) = false → (x == [82,79,76]) = false → (x == [82,79,82]) = false → (x == [73,78,67]) = false → (x == [68,69,67]) = false → P x c v) : P x (doT x c v).1 (doT x c v).2:=by
  by_cases q0 : x = [76,68,65]
  · subst q0;exact h0
  by_cases q1 : x = [76,68,88]
  · subst q1;exact h1
  by_cases q2 : x = [76,68,89]
  · subst q2;exact h2
  by_cases q3 : x = [79,82,65]
  · subst q3;exact h3
  by_cases q4 : x = [65,78,68]
  · subst q4;exact h4
  by_cases q5 : x = [69,79,82]
  · subst q5;exact h5
  by_cases q6 : x = [65,68,67]
  · subst q6;exact h6
  by_cases q7 : x = [83,66,67]
  · subst q7;exact h7
  by_cases q8 : x = [67,77,80]
  · subst q8;exact h8
  by_cases q9 : x = [67,80,88]
  · subst q9;exact h9
  by_cases q10 : x = [67,80,89]
  · subst q10;exact h10
  by_cases q11 : x = [66,73,84]
  · subst q11;exact h11
  by_cases q12 : x = [65,83,76]
  · subst q12;exact h12
  by_cases q13 : x = [76,83,82]
  · subst q13;exact h13
  by_cases q14 : x = [82,79,76]
  · subst q14;exact h14
  by_cases q15 : x = [82,79,82]
  · subst q15;exact h15
  by_cases q16 : x = [73,78,67]
  · subst q16;exact h16
  by_cases q17 : x = [68,69,67]
  · subst q17;exact h17
  rw [doT_none x c v (beq_eq_false_iff_ne.2 q0) (beq_eq_false_iff_ne.2 q1) (beq_eq_false_iff_ne.2 q2) (beq_eq_false_iff_ne.2 q3) (beq_eq_false_iff_ne.2 q4) (beq_eq_false_iff_ne.2 q5) (beq_eq_false_iff_ne.2 q6) (beq_eq_false_iff_ne.2 q7) (beq_eq_false_iff_ne.2 q8) (beq_eq_false_iff_ne.2 q9) (beq_eq_false_iff_ne.2 q10) (beq_eq_false_iff_ne.2 q11) (beq_eq_false_iff_ne.2 q12) (beq_eq_false_iff_ne.2 q13) (beq_eq_false_iff_ne.2 q14) (beq_eq_false_iff_ne.2 q15) (beq_eq_false_iff_ne.2 q16) (beq_eq_false_iff_ne.2 q17)]
  exact hn (beq_eq_false_iff_ne.2 q0) (beq_eq_false_iff_ne.2 q1) (beq_eq_false_iff_ne.2 q2) (beq_eq_false_iff_ne.2 q3) (beq_eq_false_iff_ne.2 q4) (beq_eq_false_iff_ne.2 q5) (beq_eq_false_iff_ne.2 q6) (beq_eq_false_iff_ne.2 q7) (beq_eq_false_iff_ne.2 q8) (beq_eq_false_iff_ne.2 q9) (beq_eq_false_iff_ne.2 q10) (beq_eq_false_iff_ne.2 q11) (beq_eq_false_iff_ne.2 q12) (beq_eq_false_iff_ne.2 q13) (beq_eq_false_iff_ne.2 q14) (beq_eq_false_iff_ne.2 q15) (beq_eq_false_iff_ne.2 q16) (beq_eq_false_iff_ne.2 q17)
open Go.RowKit Go.Proofs.YtoncmhfmkfeolaaGreatDoorW.PrintWords
def impT (x : List UInt8) (c : Cpu) : Cpu :=
  if x == [65,83,76] then stA c (aslT c.A c.F) else if x == [76,83,82] then stA c (lsrT c.A c.F) else if x == [82,79,76] then stA c (rolT c.A c.F) else if x == [82,79,82] then stA c (rorT c.A c.F) else if x == [73,78,88] then ldX c ((c.X+1) % 256) else if x == [73,78,89] then ldY c ((c.Y+1) % 256) else if x == [68,69,88] then ldX c ((c.X - 1) % 256) else if x == [68,69,89] then ldY c ((c.Y - 1) % 256) else if x == [84,65,88] then ldX c c.A else if x == [84,88,65] then ldA c c.X else if x == [84,65,89] then ldY c c.A else if x == [84,89,65] then ldA c c.Y else if x == [84,83,88] then ldX c c.S else if x == [84,88,83] then { c with S:=c.X } else if x == [67,76,67] then { c with F:={ c.F with C:=false } } else if x == [83,69,67] then { c with F:={ c.F with C:=true } } else if x == [67,76,73] then { c with F:={ c.F with I:=false } } else if x == [83,69,73] then { c with F:={ c.F with I:=true } } else if x == [67,76,68] then { c with F:={ c.F with D:=false } } else if x == [83,69,68] then { c with F:={ c.F with D:=true } } else if x == [67,76,86] then { c with F:={ c.F with V:=false } } else c
theorem impT_none (x : List UInt8) (c : Cpu) (q0 : (x == [65,83,76]) = false) (q1 : (x == [76,83,82]) = false) (q2 : (x == [82,79,76]) = false) (q3 : (x == [82,79,82]) = false) (q4 : (x == [73,78,88]) = false) (q5 : (x == [73,78,89]) = false) (q6 : (x == [68,69,88]) = false) (q7 : (x == [68,69,89]) = false) (q8 : (x == [84,65,88]) = false) (q9 : (x == [84,88,65]) = false) (q10 : (x == [84,65,89]) = false) (q11 : (x == [84,89,65]) = false) (q12 : (x == [84,83,88]) = false) (q13 : (x == [84,88,83]) = false) (q14 : (x == [67,76,67]) = false) (q15 : (x == [83,69,67]) = false) (q16 : (x == [67,76,73]) = false) (q17 : (x == [83,69,73]) = false) (q18 : (x == [67,76,68]) = false) (q19 : (x == [83,69,68]) = false) (q20 : (x == [67,76,86]) = false) : impT x c = c:=by
  simp only [impT,q0,q1,q2,q3,q4,q5,q6,q7,q8,q9,q10,q11,q12,q13,q14,q15,q16,q17,q18,q19,q20]
  rfl
theorem imp_cases (c : Cpu) (x : List UInt8) (P : List UInt8 → Cpu → Prop) (h0 : P [65,83,76] (stA c (aslT c.A c.F))) (h1 : P [76,83,82] (stA c (lsrT c.A c.F))) (h2 : P [82,79,76] (stA c (rolT c.A c.F))) (h3 : P [82,79,82] (stA c (rorT c.A c.F))) (h4 : P [73,78,88] (ldX c ((c.X+1) % 256))) (h5 : P [73,78,89] (ldY c ((c.Y+1) % 256))) (h6 : P [68,69,88] (ldX c ((c.X - 1) % 256))) (h7 : P [68,69,89] (ldY c ((c.Y - 1) % 256))) (h8 : P [84,65,88] (ldX c c.A)) (h9 : P [84,88,65] (ldA c c.X)) (h10 : P [84,65,89] (ldY c c.A)) (h11 : P [84,89,65] (ldA c c.Y)) (h12 : P [84,83,88] (ldX c c.S)) (h13 : P [84,88,83] ({ c with S:=c.X })) (h14 : P [67,76,67] ({ c with F:={ c.F with C:=false } })) (h15 : P [83,69,67] ({ c with F:={ c.F with C:=true } })) (h16 : P [67,76,73] ({ c with F:={ c.F with I:=false } })) (h17 : P [83,69,73] ({ c with F:={ c.F with I:=true } })) (h18 : P [67,76,68] ({ c with F:={ c.F with D:=false } })) (h19 : P [83,69,68] ({ c with F:={ c.F with D:=true } })) (h20 : P [67,76,86] ({ c with F:={ c.F with V:=false } }))
    (hn : (x == [65,83,76]) = false → (x == [76,83,82]) = false → (x == [82,79,76]) = false → (x == [82,79,82]) = false → (x == [73,78,88]) = false → (x == [73,78,89]) = false → (x == [68,69,88]) = false → (x == [68,69,89]) = false → (x == [84,65,88]) = false → (x == [84,88,65]) = false → (x == [84,65,89]) = false → (x == [84,89,65]) = false → (x == [84,83,88]) = false → (x == [84,88,83]) = false → (x == [67,76,67]) = false → (x == [83,69,67]) = false → (x == [67,76,73]) = false → (x == [83,69,73]) = false → (x == [67,76,68]) = false → (x == [83,69,68]) = false → (x == [67,76,86]) = false → P x c) : P x (impT x c):=by
  by_cases q0 : x = [65,83,76]
  · subst q0;exact h0
  by_cases q1 : x = [76,83,82]
  · subst q1;exact h1
  by_cases q2 : x = [82,79,76]
  · subst q2;exact h2
  by_cases q3 : x = [82,79,82]
  · subst q3;exact h3
  by_cases q4 : x = [73,78,88]
  · subst q4;exact h4
  by_cases q5 : x = [73,78,89]
  · subst q5;exact h5
  by_cases q6 : x = [68,69,88]
  · subst q6;exact h6
  by_cases q7 : x = [68,69,89]
  · subst q7;exact h7
  by_cases q8 : x = [84,65,88]
  · subst q8;exact h8
  by_cases q9 : x = [84,88,65]
  · subst q9;exact h9
  by_cases q10 : x = [84,65,89]
  · subst q10;exact h10
  by_cases q11 : x = [84,89,65]
  · subst q11;exact h11
  by_cases q12 : x = [84,83,88]
  · subst q12;exact h12
  by_cases q13 : x = [84,88,83]
  · subst q13;exact h13
  by_cases q14 : x = [67,76,67]
  · subst q14;exact h14
  by_cases q15 : x = [83,69,67]
  · subst q15;exact h15
  by_cases q16 : x = [67,76,73]
  · subst q16;exact h16
  by_cases q17 : x = [83,69,73]
  · subst q17;exact h17
  by_cases q18 : x = [67,76,68]
  · subst q18;exact h18
  by_cases q19 : x = [83,69,68]
  · subst q19;exact h19
  by_cases q20 : x = [67,76,86]
  · subst q20;exact h20
  rw [impT_none x c (beq_eq_false_iff_ne.2 q0) (beq_eq_false_iff_ne.2 q1) (beq_eq_false_iff_ne.2 q2) (beq_eq_false_iff_ne.2 q3) (beq_eq_false_iff_ne.2 q4) (beq_eq_false_iff_ne.2 q5) (beq_eq_false_iff_ne.2 q6) (beq_eq_false_iff_ne.2 q7) (beq_eq_false_iff_ne.2 q8) (beq_eq_false_iff_ne.2 q9) (beq_eq_false_iff_ne.2 q10) (beq_eq_false_iff_ne.2 q11) (beq_eq_false_iff_ne.2 q12) (beq_eq_false_iff_ne.2 q13) (beq_eq_false_iff_ne.2 q14) (beq_eq_false_iff_ne.2 q15) (beq_eq_false_iff_ne.2 q16) (beq_eq_false_iff_ne.2 q17) (beq_eq_false_iff_ne.2 q18) (beq_eq_false_iff_ne.2 q19) (beq_eq_false_iff_ne.2 q20)]
  exact hn (beq_eq_false_iff_ne.2 q0) (beq_eq_false_iff_ne.2 q1) (beq_eq_false_iff_ne.2 q2) (beq_eq_false_iff_ne.2 q3) (beq_eq_false_iff_ne.2 q4) (beq_eq_false_iff_ne.2 q5) (beq_eq_false_iff_ne.2 q6) (beq_eq_false_iff_ne.2 q7) (beq_eq_false_iff_ne.2 q8) (beq_eq_false_iff_ne.2 q9) (beq_eq_false_iff_ne.2 q10) (beq_eq_false_iff_ne.2 q11) (beq_eq_false_iff_ne.2 q12) (beq_eq_false_iff_ne.2 q13) (beq_eq_false_iff_ne.2 q14) (beq_eq_false_iff_ne.2 q15) (beq_eq_false_iff_ne.2 q16) (beq_eq_false_iff_ne.2 q17) (beq_eq_false_iff_ne.2 q18) (beq_eq_false_iff_ne.2 q19) (beq_eq_false_iff_ne.2 q20)
open Go.RowKit Go.Proofs.YtoncmhfmkfeolaaGreatDoorW.PrintWords
theorem land_hi : ∀ q : Nat,q < 256 → ∀ r : Nat,r < 256 → (256 * q+r) &&& 65280 = 256 * q:=by decide +kernel
theorem u16_hi (x : Int) (h0 : 0 ≤ x) (h1 : x < 65536) : bits .and .u16 x 65280 = x / 256 * 256:=by
  obtain ⟨n,rfl⟩:=Int.eq_ofNat_of_zero_le h0
  rw [show (65280 : Int) = ((65280 : Nat) : Int) from rfl,u16_and_nat _ _ (by omega) (by omega)]
  have:=land_hi (n / 256) (by omega) (n % 256) (by omega)
  rw [show 256 * (n / 256)+n % 256 = n by omega] at this
  rw [this]
  omega
theorem u16_mask (j : Nat) (hj : j ≤ 16) (x : Int) (h0 : 0 ≤ x) (h1 : x < 65536) : bits .and .u16 x (2 ^ j - 1) = x % 2 ^ j:=bits_mask .u16 16 (by decide) (fun n h0 h1 => by rw [IntKind.wrap_u16];omega) j hj x h0 h1
theorem u16_lo (x : Int) (h0 : 0 ≤ x) (h1 : x < 65536) : bits .and .u16 x 255 = x % 256:=u16_mask 8 (by decide) x h0 h1
def pg (b e : Int) : Int:=b / 256 * 256+e % 256
theorem pg_b {b e : Int} (h0 : 0 ≤ b) (h1 : b < 65536) : 0 ≤ pg b e∧pg b e < 65536:=by unfold pg;omega
theorem u16_pg (b e : Int) (h0 : 0 ≤ b) (h1 : b < 65536) : bits .or .u16 (b / 256 * 256) (e % 256) = pg b e:=by
  rw [u16_join (e % 256) (b / 256) (by omega) (by omega) (by omega) (by omega)]
  unfold pg
  omega
def fixB (b : Bus) (k base e : Int) : Bus:=if k == 2 && pg base e == e then b else b.rd (pg base e)
def plcE (k base i : Int) (b : Bus) : Int × Bus:=((base+i) % 65536,fixB b k base ((base+i) % 65536))
def plcZ (c : Cpu) (b : Bus) (m k z : Int) : Int × Bus :=
  if m == 3 then (z,b)
  else if m == 4 then ((z+c.X) % 256,b.rd z)
  else if m == 5 then ((z+c.Y) % 256,b.rd z)
  else if m == 10 then (word2 (peek b.m ((z+c.X) % 256)) (peek b.m ((z+c.X+1) % 256)),((b.rd z).rd ((z+c.X) % 256)).rd ((z+c.X+1) % 256))
  else if m == 11 then plcE k (word2 (peek b.m z) (peek b.m ((z+1) % 256))) c.Y ((b.rd z).rd ((z+1) % 256))
  else if m == 6 then (word2 z (peek b.m ((c.PC+2) % 65536)),b.rd ((c.PC+2) % 65536))
  else if m == 7 then plcE k (word2 z (peek b.m ((c.PC+2) % 65536))) c.X (b.rd ((c.PC+2) % 65536))
  else plcE k (word2 z (peek b.m ((c.PC+2) % 65536))) c.Y (b.rd ((c.PC+2) % 65536))
def plc (c : Cpu) (b : Bus) (m k : Int) : Int × Bus:=plcZ c (b.rd ((c.PC+1) % 65536)) m k (peek b.m ((c.PC+1) % 65536))
theorem word2_in {a b : Int} (h : 0 ≤ a∧a < 256) (k : 0 ≤ b∧b < 256) : 0 ≤ word2 a b∧word2 a b < 65536:=by unfold word2;omega
def peek_in (l : List Int) : Prop:=∀ i,0 ≤ rd l i∧rd l i < 256
theorem peek_of {l : List Int} (h : peek_in l) (a : Int) : 0 ≤ peek l a∧peek l a < 256:=by
  unfold peek
  split
  · exact h _
  · omega
theorem plc_b (c : Cpu) (b : Bus) (m k : Int) (h : peek_in b.m) : 0 ≤ (plc c b m k).1∧(plc c b m k).1 < 65536:=by
  have p (a : Int):=peek_of h a
  have p0:=p ((c.PC+1) % 65536)
  have q (a a' : Int):=word2_in (p a) (p a')
  have q2:=word2_in p0 (p ((c.PC+2) % 65536))
  unfold plc plcZ plcE
  simp only [Bus.rd]
  repeat' split
  all_goals simp only []
  all_goals first | omega | exact q _ _ | exact q2
theorem plc_m (c : Cpu) (b : Bus) (m k : Int) : (plc c b m k).2.m = b.m:=by
  unfold plc plcZ plcE fixB
  repeat' split
  all_goals first | rfl | (simp only [Bus.rd];(repeat' split) <;> rfl)
def tgtA (pc d : Int) : Int:=(pc+2+offs d) % 65536
def braB (c : Cpu) (b : Bus) (x : List UInt8) : Bus :=
  if holds c.F x then
    (if pg ((c.PC+2) % 65536) (tgtA c.PC (peek b.m ((c.PC+1) % 65536))) == tgtA c.PC (peek b.m ((c.PC+1) % 65536)) then (b.rd ((c.PC+1) % 65536)).rd ((c.PC+2) % 65536)
      else ((b.rd ((c.PC+1) % 65536)).rd ((c.PC+2) % 65536)).rd (pg ((c.PC+2) % 65536) (tgtA c.PC (peek b.m ((c.PC+1) % 65536)))))
  else b.rd ((c.PC+1) % 65536)
def braC (c : Cpu) (b : Bus) (x : List UInt8) : Cpu:={ c with PC:=if holds c.F x then tgtA c.PC (peek b.m ((c.PC+1) % 65536)) else (c.PC+2) % 65536 }
def lo1 (c : Cpu) (b : Bus) : Bus:=b.rd ((c.PC+1) % 65536)
def jmpC (c : Cpu) (b : Bus) (m : Int) : Cpu :=
  { c with PC:=if m == 9 then word2 (peek b.m (word2 (peek b.m ((c.PC+1) % 65536)) (peek b.m ((c.PC+2) % 65536)))) (peek b.m (pg (word2 (peek b.m ((c.PC+1) % 65536)) (peek b.m ((c.PC+2) % 65536))) (word2 (peek b.m ((c.PC+1) % 65536)) (peek b.m ((c.PC+2) % 65536))+1))) else word2 (peek b.m ((c.PC+1) % 65536)) (peek b.m ((c.PC+2) % 65536)) }
def jmpB (c : Cpu) (b : Bus) (m : Int) : Bus :=
  if m == 9 then (((lo1 c b).rd ((c.PC+2) % 65536)).rd (word2 (peek b.m ((c.PC+1) % 65536)) (peek b.m ((c.PC+2) % 65536)))).rd (pg (word2 (peek b.m ((c.PC+1) % 65536)) (peek b.m ((c.PC+2) % 65536))) (word2 (peek b.m ((c.PC+1) % 65536)) (peek b.m ((c.PC+2) % 65536))+1)) else (lo1 c b).rd ((c.PC+2) % 65536)
def jsrW (c : Cpu) (b : Bus) : Bus:=(((lo1 c b).rd (stk c.S)).wr (stk c.S) ((c.PC+2) % 65536 / 256)).wr (stk (c.S - 1)) ((c.PC+2) % 65536 % 256)
def jsrB (c : Cpu) (b : Bus) : Bus:=(jsrW c b).rd ((c.PC+2) % 65536)
def jsrC (c : Cpu) (b : Bus) : Cpu:={ c with S:=(c.S - 2) % 256,PC:=word2 (peek b.m ((c.PC+1) % 65536)) (peek (jsrW c b).m ((c.PC+2) % 65536)) }
def rtsA (c : Cpu) (b : Bus) : Int:=word2 (peek b.m (stk (c.S+1))) (peek b.m (stk (c.S+2)))
def rtsB (c : Cpu) (b : Bus) : Bus:=((((lo1 c b).rd (stk c.S)).rd (stk (c.S+1))).rd (stk (c.S+2))).rd (rtsA c b)
def rtsC (c : Cpu) (b : Bus) : Cpu:={ c with S:=(c.S+2) % 256,PC:=(rtsA c b+1) % 65536 }
def rtiB (c : Cpu) (b : Bus) : Bus:=((((lo1 c b).rd (stk c.S)).rd (stk (c.S+1))).rd (stk (c.S+2))).rd (stk (c.S+3))
def rtiC (c : Cpu) (b : Bus) : Cpu:={ c with S:=(c.S+3) % 256,PC:=word2 (peek b.m (stk (c.S+2))) (peek b.m (stk (c.S+3))),F:=unpackP (peek b.m (stk (c.S+1))) }
def brkB (c : Cpu) (b : Bus) : Bus:=((push3 c (lo1 c b) ((c.PC+2) % 65536) true).rd 65534).rd 65535
def brkC (c : Cpu) (b : Bus) : Cpu:=c.to (push3 c (lo1 c b) ((c.PC+2) % 65536) true) 65534
def floB (k m : Int) (x : List UInt8) (c : Cpu) (b : Bus) : Bus:=if k == 5 then braB c b x else if k == 6 then jmpB c b m else if k == 7 then jsrB c b else if k == 8 then rtsB c b else if k == 9 then rtiB c b else if k == 10 then brkB c b else b
def floC (k m : Int) (x : List UInt8) (c : Cpu) (b : Bus) : Cpu:=if k == 5 then braC c b x else if k == 6 then jmpC c b m else if k == 7 then jsrC c b else if k == 8 then rtsC c b else if k == 9 then rtiC c b else if k == 10 then brkC c b else c
def pulB (c : Cpu) (b : Bus) : Bus:=((lo1 c b).rd (stk c.S)).rd (stk (c.S+1))
def pulC (x : List UInt8) (c : Cpu) (b : Bus) : Cpu:=if x == [80,76,65] then { ldA c (peek b.m (stk (c.S+1))) with S:=(c.S+1) % 256 } else { c with S:=(c.S+1) % 256,F:=unpackP (peek b.m (stk (c.S+1))) }
def phB (x : List UInt8) (c : Cpu) (b : Bus) : Bus:=(lo1 c b).wr (stk c.S) (if x == [80,72,65] then c.A else packP c.F true)
def phC (c : Cpu) : Cpu:={ c with S:=(c.S - 1) % 256 }
def regT (x : List UInt8) (c : Cpu) : Int:=if x == [83,84,88] then c.X else if x == [83,84,89] then c.Y else c.A
def opdB (k m : Int) (x : List UInt8) (c : Cpu) (b : Bus) : Bus :=
  if m == 2 then lo1 c b
  else if k == 2 then (plc c b m k).2.rd (plc c b m k).1
  else if k == 3 then (plc c b m k).2.wr (plc c b m k).1 (regT x c)
  else (((plc c b m k).2.rd (plc c b m k).1).wr (plc c b m k).1 (peek b.m (plc c b m k).1)).wr (plc c b m k).1 (doT x c (peek b.m (plc c b m k).1)).2
def opdC (k m : Int) (x : List UInt8) (c : Cpu) (b : Bus) : Cpu :=
  if m == 2 then (doT x c (peek b.m ((c.PC+1) % 65536))).1
  else if k == 2 then (doT x c (peek b.m (plc c b m k).1)).1
  else if k == 3 then c
  else (doT x c (peek b.m (plc c b m k).1)).1
def Cpu.fw (c : Cpu) (n : Int) : Cpu:={ c with PC:=(c.PC+n) % 65536 }
def stpB (k m : Int) (x : List UInt8) (c : Cpu) (b : Bus) : Bus :=
  if k == 1 then lo1 c b else if k == 2 || k == 3 || k == 4 then opdB k m x c b else if k == 11 then phB x c b else if k == 12 then pulB c b else floB k m x c b
def stpC (k m sz : Int) (x : List UInt8) (c : Cpu) (b : Bus) : Cpu :=
  if k == 1 then (impT x c).fw sz else if k == 2 || k == 3 || k == 4 then (opdC k m x c b).fw sz else if k == 11 then (phC c).fw sz else if k == 12 then (pulC x c b).fw sz else floC k m x c b
open Go.RowKit Go.Proofs.YtoncmhfmkfeolaaGreatDoorW.PrintWords
attribute [local go_sem] u8_and15 u8_and240 i64_and15
theorem spec_one (b : Bool) (w : World) : Calls Tryz.prog 92 #[.bool b,.int .i64 1] w fun e w' => e = .returned (.int .i64 (b2i b))∧w = w':=spec_l02Bit b 1 w
theorem spec_b128 (b : Bool) (w : World) : Calls Tryz.prog 92 #[.bool b,.int .i64 128] w fun e w' => e = .returned (.int .i64 (128 * b2i b))∧w = w':=(spec_l02Bit b 128 w).mono fun e w' h => ⟨by rw [h.1];cases b <;> rfl,h.2⟩
theorem spec_NZ (a : Int) (f : F6) (w : World) (h0 : 0 ≤ a) (h1 : a < 256) :
    Calls Tryz.prog 168 #[.int .u8 a,.agg #[.bool f.N,.bool f.V,.bool f.D,.bool f.I,.bool f.Z,.bool f.C]] w fun e w' => e = .returned (.agg #[.bool (nz a f).N,.bool (nz a f).V,.bool (nz a f).D,.bool (nz a f).I,.bool (nz a f).Z,.bool (nz a f).C])∧Below w.heap.size w w':=by
  have HB:=hR w;go_enter Tryz.func168,Tryz.ntmps168
  go_wp2
  (refine bodyPost_ret (v:=.agg #[.bool (nz a f).N,.bool (nz a f).V,.bool (nz a f).D,.bool (nz a f).I,.bool (nz a f).Z,.bool (nz a f).C]) (by (simp only [results,Tryz.results168];go_simp <;> ((simp [nz];done)))) rfl ?_)
  exact ⟨rfl,blw⟩
theorem u8_bit128 : ∀ n : Nat,n < 256 → (bits .and .u8 (n : Int) 128 != 0) = decide (128 ≤ (n : Int)):=by decide +kernel
theorem u8_bit64 : ∀ n : Nat,n < 256 → (bits .and .u8 (n : Int) 64 != 0) = bitT (n : Int) 64:=by decide +kernel
theorem u8_bit8 : ∀ n : Nat,n < 256 → (bits .and .u8 (n : Int) 8 != 0) = bitT (n : Int) 8:=by decide +kernel
theorem u8_bit4 : ∀ n : Nat,n < 256 → (bits .and .u8 (n : Int) 4 != 0) = bitT (n : Int) 4:=by decide +kernel
theorem u8_bit2 : ∀ n : Nat,n < 256 → (bits .and .u8 (n : Int) 2 != 0) = bitT (n : Int) 2:=by decide +kernel
theorem u8_bit1 : ∀ n : Nat,n < 256 → (bits .and .u8 (n : Int) 1 != 0) = bitT (n : Int) 1:=by decide +kernel
theorem spec_UnpackP (b : Int) (w : World) (h0 : 0 ≤ b) (h1 : b < 256) : Calls Tryz.prog 175 #[.int .u8 b] w fun e w' => e = .returned (.agg #[.bool (unpackP b).N,.bool (unpackP b).V,.bool (unpackP b).D,.bool (unpackP b).I,.bool (unpackP b).Z,.bool (unpackP b).C])∧Below w.heap.size w w':=by
  have q7:=of_u8 (P:=fun b => (bits .and .u8 b 128 != 0) = decide (128 ≤ b)) u8_bit128 b h0 h1
  have q6:=of_u8 (P:=fun b => (bits .and .u8 b 64 != 0) = bitT b 64) u8_bit64 b h0 h1
  have q3:=of_u8 (P:=fun b => (bits .and .u8 b 8 != 0) = bitT b 8) u8_bit8 b h0 h1
  have q2:=of_u8 (P:=fun b => (bits .and .u8 b 4 != 0) = bitT b 4) u8_bit4 b h0 h1
  have q1:=of_u8 (P:=fun b => (bits .and .u8 b 2 != 0) = bitT b 2) u8_bit2 b h0 h1
  have q0:=of_u8 (P:=fun b => (bits .and .u8 b 1 != 0) = bitT b 1) u8_bit1 b h0 h1
  have HB:=hR w;go_enter Tryz.func175,Tryz.ntmps175
  go_wp2
  (refine bodyPost_ret (v:=.agg #[.bool (unpackP b).N,.bool (unpackP b).V,.bool (unpackP b).D,.bool (unpackP b).I,.bool (unpackP b).Z,.bool (unpackP b).C]) (by (simp only [results,Tryz.results175];go_simp <;> ((simp [unpackP];done)))) rfl ?_)
  exact ⟨rfl,blw⟩
theorem spec_l02Over (a b c : Int) (w : World) (h0 : 0 ≤ a) (h1 : a < 256) (h2 : 0 ≤ b) (h3 : b < 256) (h4 : 0 ≤ c) (h5 : c < 1000) : Calls Tryz.prog 210 #[.int .i64 a,.int .i64 b,.int .i64 c] w fun e w' => e = .returned (.bool (over a b (c % 256)))∧w = w':=by
  have e : over a b (c % 256) = ((a / 128 % 2 == b / 128 % 2) && !(a / 128 % 2 == c / 128 % 2)):=by
    unfold over
    have p (x : Int) (h0 : 0 ≤ x) (h1 : x < 256) : decide (128 ≤ x) = (x / 128 % 2 == 1):=by rw [Bool.eq_iff_iff];simp;omega
    rw [p a h0 h1,p b h2 h3,p (c % 256) (by omega) (by omega)]
    rw [show c % 256 / 128 % 2 = c / 128 % 2 by omega]
    have ha : a / 128 % 2 = 0 ∨ a / 128 % 2 = 1:=by omega
    have hb : b / 128 % 2 = 0 ∨ b / 128 % 2 = 1:=by omega
    have hc : c / 128 % 2 = 0 ∨ c / 128 % 2 = 1:=by omega
    rcases ha with ha | ha <;> rcases hb with hb | hb <;> rcases hc with hc | hc <;> rw [ha,hb,hc] <;> rfl
  rw [e]
  have HB:=hR w;go_enter Tryz.func210,Tryz.ntmps210
  go_wp2
  all_goals go_ret
  all_goals exact ⟨ret_of (by simp [*,bne]),rfl⟩
def plainT (a b : Int) (f : F6) : Int × F6:=((a+b+b2i f.C) % 256,{ nz ((a+b+b2i f.C) % 256) f with C:=decide (255 < a+b+b2i f.C),V:=over a b ((a+b+b2i f.C) % 256) })
set_option maxHeartbeats 1000000 in
theorem spec_l02Plain (a b : Int) (f : F6) (w : World) (h0 : 0 ≤ a) (h1 : a < 256) (h2 : 0 ≤ b) (h3 : b < 256) :
    Calls Tryz.prog 209 #[.int .u8 a,.int .u8 b,.agg #[.bool f.N,.bool f.V,.bool f.D,.bool f.I,.bool f.Z,.bool f.C]] w fun e w' => e = .returned (.tuple #[.int .u8 (plainT a b f).1,.agg #[.bool (plainT a b f).2.N,.bool (plainT a b f).2.V,.bool (plainT a b f).2.D,.bool (plainT a b f).2.I,.bool (plainT a b f).2.Z,.bool (plainT a b f).2.C]])∧Below w.heap.size w w':=by
  obtain ⟨n,v,d,i,z,c⟩:=f
  have hb0:=b2i_lo c
  have hb1:=b2i_hi c
  obtain ⟨s,hs⟩ : ∃ s,a+b+b2i c = s:=⟨_,rfl⟩
  have hand:=i64_and255 s
  have e1 : IntKind.u8.wrap (s % 256) = s % 256:=by rw [IntKind.wrap_u8];omega
  have s0 : 0 ≤ s:=by omega
  have s1 : s < 512:=by omega
  have ep : plainT a b ⟨n,v,d,i,z,c⟩ = (s % 256,{ nz (s % 256) ⟨n,v,d,i,z,c⟩ with C:=decide (255 < s),V:=over a b (s % 256) }):=by unfold plainT;simp only [];rw [hs]
  rw [ep]
  clear ep
  have HB:=hR w;go_enter Tryz.func209,Tryz.ntmps209
  go_wp2_with (first | (go_at_call 92;((with_reducible refine (spec_one _ _).mono ?_);rintro _ _ ⟨rfl,rfl⟩)) | (go_at_call 210;((with_reducible refine (spec_l02Over _ _ _ _ h0 h1 h2 h3 (by omega) (by omega)).mono ?_);rintro _ _ ⟨rfl,rfl⟩)) | (go_at_call 168;((with_reducible refine (spec_NZ _ ⟨_,_,_,_,_,_⟩ _ (by omega) (by omega)).mono ?_);rintro _ w1 ⟨rfl,hb⟩;have HB:=Aside0.mk (below_step (w:=w) blw hb);have hz:=hb.size;obtain ⟨hcl,hfr,hlt,_⟩:=bcell hb;simp only [sA,sC,sD] at hz hcl hfr hlt;clear hb)))
  all_goals (refine bodyPost_ret (v:=.tuple #[.int .u8 (s % 256),.agg #[.bool ({ nz (s % 256) ⟨n,v,d,i,z,c⟩ with C:=decide (255 < s),V:=over a b (s % 256) } : F6).N,.bool ({ nz (s % 256) ⟨n,v,d,i,z,c⟩ with C:=decide (255 < s),V:=over a b (s % 256) } : F6).V,.bool ({ nz (s % 256) ⟨n,v,d,i,z,c⟩ with C:=decide (255 < s),V:=over a b (s % 256) } : F6).D,.bool ({ nz (s % 256) ⟨n,v,d,i,z,c⟩ with C:=decide (255 < s),V:=over a b (s % 256) } : F6).I,.bool ({ nz (s % 256) ⟨n,v,d,i,z,c⟩ with C:=decide (255 < s),V:=over a b (s % 256) } : F6).Z,.bool ({ nz (s % 256) ⟨n,v,d,i,z,c⟩ with C:=decide (255 < s),V:=over a b (s % 256) } : F6).C]]) (by (simp only [results,Tryz.results209];go_simp <;> ((simp [nz];done)))) rfl ?_)
  all_goals exact ⟨rfl,blw⟩
theorem plainT_lo (a b : Int) (f : F6) : 0 ≤ (plainT a b f).1∧(plainT a b f).1 < 256:=by unfold plainT;simp only [];omega
set_option maxHeartbeats 1000000 in
theorem spec_Adc (a b : Int) (f : F6) (w : World) (h0 : 0 ≤ a) (h1 : a < 256) (h2 : 0 ≤ b) (h3 : b < 256) :
    Calls Tryz.prog 199 #[.int .u8 a,.int .u8 b,.agg #[.bool f.N,.bool f.V,.bool f.D,.bool f.I,.bool f.Z,.bool f.C]] w fun e w' => e = .returned (.tuple #[.int .u8 (adc a b f).1,.agg #[.bool (adc a b f).2.N,.bool (adc a b f).2.V,.bool (adc a b f).2.D,.bool (adc a b f).2.I,.bool (adc a b f).2.Z,.bool (adc a b f).2.C]])∧Below w.heap.size w w':=by
  obtain ⟨n,v,d,i,z,c⟩:=f
  have hb0:=b2i_lo c
  have hb1:=b2i_hi c
  obtain ⟨r,hr⟩ : ∃ r,plainT a b ⟨n,v,d,i,z,c⟩ = r:=⟨_,rfl⟩
  have hpl:=fun W => spec_l02Plain a b ⟨n,v,d,i,z,c⟩ W h0 h1 h2 h3
  rw [hr] at hpl
  have HR:=Aside0.mk hr
  clear hr
  cases d
  case false =>
    have er : adc a b ⟨n,v,false,i,z,c⟩ = r:=by rw [← HR.out];simp [adc,plainT,nz]
    rw [er]
    clear er
    have HB:=hR w;go_enter Tryz.func199,Tryz.ntmps199
    go_wp2_with fail
    refine (hpl _).mono ?_
    rintro _ w1 ⟨rfl,hb⟩
    (have HB:=Aside0.mk (below_step (w:=w) blw hb);have hz1:=hb.size;obtain ⟨hcl1,hfr1,hlt1,_⟩:=bcell hb;(try simp only [sA,sC,sD] at hz1);(try simp only [sA,sC,sD] at hcl1 hfr1 hlt1);have hk1_0 : w.heap.size < w1.heap.size:=(by omega);have hk1_1 : w.heap.size+1 < w1.heap.size:=(by omega);have HB1:=hR w1;clear hb)
    go_wp2_with fail
    go_region
    go_wp2_with fail
    (refine bodyPost_ret (v:=.tuple #[.int .u8 r.1,.agg #[.bool r.2.N,.bool r.2.V,.bool r.2.D,.bool r.2.I,.bool r.2.Z,.bool r.2.C]]) (by (simp only [results,Tryz.results199];go_simp <;> (rfl))) rfl ?_)
    exact ⟨rfl,blw⟩
  case true =>
    have hand:=i64_and255
    have HB:=hR w;go_enter Tryz.func199,Tryz.ntmps199
    go_wp2_with fail
    refine (hpl _).mono ?_
    rintro _ w1 ⟨rfl,hb⟩
    (have HB:=Aside0.mk (below_step (w:=w) blw hb);have hz1:=hb.size;obtain ⟨hcl1,hfr1,hlt1,_⟩:=bcell hb;(try simp only [sA,sC,sD] at hz1);(try simp only [sA,sC,sD] at hcl1 hfr1 hlt1);have hk1_0 : w.heap.size < w1.heap.size:=(by omega);have hk1_1 : w.heap.size+1 < w1.heap.size:=(by omega);have HB1:=hR w1;clear hb)
    go_wp2_with (first | (go_at_call 92;((with_reducible refine (spec_one _ _).mono ?_);rintro _ _ ⟨rfl,rfl⟩)) | (go_at_call 210;((with_reducible refine (spec_l02Over _ _ _ _ h0 h1 h2 h3 (by omega) (by omega)).mono ?_);rintro _ _ ⟨rfl,rfl⟩)))
    all_goals go_region
    all_goals go_wp2_with fail
    all_goals (refine bodyPost_ret (v:=.tuple #[.int .u8 (adc a b ⟨n,v,true,i,z,c⟩).1,.agg #[.bool (adc a b ⟨n,v,true,i,z,c⟩).2.N,.bool (adc a b ⟨n,v,true,i,z,c⟩).2.V,.bool (adc a b ⟨n,v,true,i,z,c⟩).2.D,.bool (adc a b ⟨n,v,true,i,z,c⟩).2.I,.bool (adc a b ⟨n,v,true,i,z,c⟩).2.Z,.bool (adc a b ⟨n,v,true,i,z,c⟩).2.C]]) (by (simp only [results,Tryz.results199];go_simp <;> ((simp only [← HR.out,plainT,adc,nz,over,adcSum,adcHigh,adcLow];(repeat' split) <;> (try (exfalso;omega)) <;> (repeat' (apply And.intro)) <;> (first | rfl | omega | (apply Bool.eq_iff_iff.2;simp;omega) | (simp;omega) | (simp [*];done) | (simp [*];omega)))))) rfl ?_)
    all_goals exact ⟨rfl,blw⟩
set_option maxHeartbeats 1000000 in
theorem spec_Sbc (a b : Int) (f : F6) (w : World) (h0 : 0 ≤ a) (h1 : a < 256) (h2 : 0 ≤ b) (h3 : b < 256) :
    Calls Tryz.prog 200 #[.int .u8 a,.int .u8 b,.agg #[.bool f.N,.bool f.V,.bool f.D,.bool f.I,.bool f.Z,.bool f.C]] w fun e w' => e = .returned (.tuple #[.int .u8 (sbc a b f).1,.agg #[.bool (sbc a b f).2.N,.bool (sbc a b f).2.V,.bool (sbc a b f).2.D,.bool (sbc a b f).2.I,.bool (sbc a b f).2.Z,.bool (sbc a b f).2.C]])∧Below w.heap.size w w':=by
  obtain ⟨n,v,d,i,z,c⟩:=f
  have hb0:=b2i_lo c
  have hb1:=b2i_hi c
  obtain ⟨r,hr⟩ : ∃ r,plainT a (255 - b) ⟨n,v,d,i,z,c⟩ = r:=⟨_,rfl⟩
  have hpl:=fun W => spec_l02Plain a (255 - b) ⟨n,v,d,i,z,c⟩ W h0 h1 (by omega) (by omega)
  rw [hr] at hpl
  have HR:=Aside0.mk hr
  clear hr
  cases d
  case false =>
    have er : sbc a b ⟨n,v,false,i,z,c⟩ = r:=by rw [← HR.out];simp [sbc,adc,plainT,nz]
    rw [er]
    clear er
    have HB:=hR w;go_enter Tryz.func200,Tryz.ntmps200
    go_wp2_with fail
    refine (hpl _).mono ?_
    rintro _ w1 ⟨rfl,hb⟩
    (have HB:=Aside0.mk (below_step (w:=w) blw hb);have hz1:=hb.size;obtain ⟨hcl1,hfr1,hlt1,_⟩:=bcell hb;(try simp only [sA,sC,sD] at hz1);(try simp only [sA,sC,sD] at hcl1 hfr1 hlt1);have hk1_0 : w.heap.size < w1.heap.size:=(by omega);have hk1_1 : w.heap.size+1 < w1.heap.size:=(by omega);have HB1:=hR w1;clear hb)
    go_wp2_with fail
    go_region
    go_wp2_with fail
    (refine bodyPost_ret (v:=.tuple #[.int .u8 r.1,.agg #[.bool r.2.N,.bool r.2.V,.bool r.2.D,.bool r.2.I,.bool r.2.Z,.bool r.2.C]]) (by (simp only [results,Tryz.results200];go_simp <;> (rfl))) rfl ?_)
    exact ⟨rfl,blw⟩
  case true =>
    have hand:=i64_and255
    have er : sbc a b ⟨n,v,true,i,z,c⟩ = (sbcSum a b c % 256,r.2):=by rw [← HR.out];simp [sbc,adc,plainT,nz]
    rw [er]
    clear er
    have HB:=hR w;go_enter Tryz.func200,Tryz.ntmps200
    go_wp2_with fail
    refine (hpl _).mono ?_
    rintro _ w1 ⟨rfl,hb⟩
    (have HB:=Aside0.mk (below_step (w:=w) blw hb);have hz1:=hb.size;obtain ⟨hcl1,hfr1,hlt1,_⟩:=bcell hb;(try simp only [sA,sC,sD] at hz1);(try simp only [sA,sC,sD] at hcl1 hfr1 hlt1);have hk1_0 : w.heap.size < w1.heap.size:=(by omega);have hk1_1 : w.heap.size+1 < w1.heap.size:=(by omega);have HB1:=hR w1;clear hb)
    go_wp2_with (first | (go_at_call 92;((with_reducible refine (spec_one _ _).mono ?_);rintro _ _ ⟨rfl,rfl⟩)))
    all_goals go_region
    all_goals go_wp2_with fail
    all_goals (refine bodyPost_ret (v:=.tuple #[.int .u8 (sbcSum a b c % 256),.agg #[.bool r.2.N,.bool r.2.V,.bool r.2.D,.bool r.2.I,.bool r.2.Z,.bool r.2.C]]) (by (simp only [results,Tryz.results200];go_simp <;> ((simp only [sbcSum,sbcHigh,sbcLow];(repeat' split) <;> (try (exfalso;omega)) <;> (repeat' (apply And.intro)) <;> (first | rfl | omega | (simp;omega) | (simp [*];done)))))) rfl ?_)
    all_goals exact ⟨rfl,blw⟩
set_option maxHeartbeats 400000 in
theorem spec_Cmp (a b : Int) (f : F6) (w : World) (h0 : 0 ≤ a) (h1 : a < 256) (h2 : 0 ≤ b) (h3 : b < 256) : Calls Tryz.prog 201 #[.int .u8 a,.int .u8 b,.agg #[.bool f.N,.bool f.V,.bool f.D,.bool f.I,.bool f.Z,.bool f.C]] w fun e w' => e = .returned (.agg #[.bool (cmpF a b f).N,.bool (cmpF a b f).V,.bool (cmpF a b f).D,.bool (cmpF a b f).I,.bool (cmpF a b f).Z,.bool (cmpF a b f).C])∧Below w.heap.size w w':=by
  obtain ⟨n,v,d,i,z,c⟩:=f
  have HB:=hR w;go_enter Tryz.func201,Tryz.ntmps201
  go_wp2_with fail
  refine (spec_NZ _ ⟨_,_,_,_,_,_⟩ _ (by omega) (by omega)).mono ?_
  rintro _ w1 ⟨rfl,hb⟩
  (have HB:=Aside0.mk (below_step (w:=w) blw hb);have hz1:=hb.size;obtain ⟨hcl1,hfr1,hlt1,_⟩:=bcell hb;(try simp only [sA,sC,sD] at hz1);(try simp only [sA,sC,sD] at hcl1 hfr1 hlt1);have hk1_0 : w.heap.size < w1.heap.size:=(by omega);have hk1_1 : w.heap.size+1 < w1.heap.size:=(by omega);have HB1:=hR w1;clear hb)
  go_wp2_with fail
  (refine bodyPost_ret (v:=.agg #[.bool (cmpF a b ⟨n,v,d,i,z,c⟩).N,.bool (cmpF a b ⟨n,v,d,i,z,c⟩).V,.bool (cmpF a b ⟨n,v,d,i,z,c⟩).D,.bool (cmpF a b ⟨n,v,d,i,z,c⟩).I,.bool (cmpF a b ⟨n,v,d,i,z,c⟩).Z,.bool (cmpF a b ⟨n,v,d,i,z,c⟩).C]) (by (simp only [results,Tryz.results201];go_simp <;> ((first | (simp [cmpF,nz];done) | (simp [cmpF,nz];rfl))))) rfl ?_)
  exact ⟨rfl,blw⟩
theorem u8_div2 (b : Int) (h0 : 0 ≤ b) : b.tdiv 2 = b / 2:=Int.tdiv_eq_ediv_of_nonneg h0
set_option maxHeartbeats 400000 in
theorem spec_Asl (b : Int) (f : F6) (w : World) (h0 : 0 ≤ b) (h1 : b < 256) : Calls Tryz.prog 195 #[.int .u8 b,.agg #[.bool f.N,.bool f.V,.bool f.D,.bool f.I,.bool f.Z,.bool f.C]] w fun e w' => e = .returned (.tuple #[.int .u8 (aslT b f).1,.agg #[.bool (aslT b f).2.N,.bool (aslT b f).2.V,.bool (aslT b f).2.D,.bool (aslT b f).2.I,.bool (aslT b f).2.Z,.bool (aslT b f).2.C]])∧Below w.heap.size w w':=by
  obtain ⟨n,v,d,i,z,c⟩:=f
  have HB:=hR w;go_enter Tryz.func195,Tryz.ntmps195
  go_wp2_with fail
  refine (spec_NZ _ ⟨_,_,_,_,_,_⟩ _ (by omega) (by omega)).mono ?_
  rintro _ w1 ⟨rfl,hb⟩
  (have HB:=Aside0.mk (below_step (w:=w) blw hb);have hz1:=hb.size;obtain ⟨hcl1,hfr1,hlt1,_⟩:=bcell hb;(try simp only [sA,sC,sD] at hz1);(try simp only [sA,sC,sD] at hcl1 hfr1 hlt1);have hk1_0 : w.heap.size < w1.heap.size:=(by omega);have hk1_1 : w.heap.size+1 < w1.heap.size:=(by omega);have HB1:=hR w1;clear hb)
  go_wp2_with fail
  (refine bodyPost_ret (v:=.tuple #[.int .u8 (aslT b ⟨n,v,d,i,z,c⟩).1,.agg #[.bool (aslT b ⟨n,v,d,i,z,c⟩).2.N,.bool (aslT b ⟨n,v,d,i,z,c⟩).2.V,.bool (aslT b ⟨n,v,d,i,z,c⟩).2.D,.bool (aslT b ⟨n,v,d,i,z,c⟩).2.I,.bool (aslT b ⟨n,v,d,i,z,c⟩).2.Z,.bool (aslT b ⟨n,v,d,i,z,c⟩).2.C]]) (by (simp only [results,Tryz.results195];go_simp <;> ((first | (simp [aslT,movF,nz];done) | (simp [aslT,movF,nz];rfl))))) rfl ?_)
  exact ⟨rfl,blw⟩
set_option maxHeartbeats 400000 in
theorem spec_Lsr (b : Int) (f : F6) (w : World) (h0 : 0 ≤ b) (h1 : b < 256) : Calls Tryz.prog 196 #[.int .u8 b,.agg #[.bool f.N,.bool f.V,.bool f.D,.bool f.I,.bool f.Z,.bool f.C]] w fun e w' => e = .returned (.tuple #[.int .u8 (lsrT b f).1,.agg #[.bool (lsrT b f).2.N,.bool (lsrT b f).2.V,.bool (lsrT b f).2.D,.bool (lsrT b f).2.I,.bool (lsrT b f).2.Z,.bool (lsrT b f).2.C]])∧Below w.heap.size w w':=by
  obtain ⟨n,v,d,i,z,c⟩:=f
  have HB:=hR w;go_enter Tryz.func196,Tryz.ntmps196
  go_wp2_with fail
  refine (spec_NZ _ ⟨_,_,_,_,_,_⟩ _ (by omega) (by omega)).mono ?_
  rintro _ w1 ⟨rfl,hb⟩
  (have HB:=Aside0.mk (below_step (w:=w) blw hb);have hz1:=hb.size;obtain ⟨hcl1,hfr1,hlt1,_⟩:=bcell hb;(try simp only [sA,sC,sD] at hz1);(try simp only [sA,sC,sD] at hcl1 hfr1 hlt1);have hk1_0 : w.heap.size < w1.heap.size:=(by omega);have hk1_1 : w.heap.size+1 < w1.heap.size:=(by omega);have HB1:=hR w1;clear hb)
  go_wp2_with fail
  (refine bodyPost_ret (v:=.tuple #[.int .u8 (lsrT b ⟨n,v,d,i,z,c⟩).1,.agg #[.bool (lsrT b ⟨n,v,d,i,z,c⟩).2.N,.bool (lsrT b ⟨n,v,d,i,z,c⟩).2.V,.bool (lsrT b ⟨n,v,d,i,z,c⟩).2.D,.bool (lsrT b ⟨n,v,d,i,z,c⟩).2.I,.bool (lsrT b ⟨n,v,d,i,z,c⟩).2.Z,.bool (lsrT b ⟨n,v,d,i,z,c⟩).2.C]]) (by (simp only [results,Tryz.results196];go_simp <;> ((first | (simp [lsrT,movF,nz,bitT];done) | (simp [lsrT,movF,nz,bitT];rfl))))) rfl ?_)
  exact ⟨rfl,blw⟩
set_option maxHeartbeats 400000 in
theorem spec_Rol (b : Int) (f : F6) (w : World) (h0 : 0 ≤ b) (h1 : b < 256) : Calls Tryz.prog 197 #[.int .u8 b,.agg #[.bool f.N,.bool f.V,.bool f.D,.bool f.I,.bool f.Z,.bool f.C]] w fun e w' => e = .returned (.tuple #[.int .u8 (rolT b f).1,.agg #[.bool (rolT b f).2.N,.bool (rolT b f).2.V,.bool (rolT b f).2.D,.bool (rolT b f).2.I,.bool (rolT b f).2.Z,.bool (rolT b f).2.C]])∧Below w.heap.size w w':=by
  obtain ⟨n,v,d,i,z,c⟩:=f
  have q0:=b2i_lo c
  have q1:=b2i_hi c
  have e1 : IntKind.u8.wrap (b * 2) = b * 2 % 256:=IntKind.wrap_u8 _
  have e2 : IntKind.u8.wrap (b2i c) = b2i c:=by rw [IntKind.wrap_u8];omega
  have e3 : IntKind.u8.wrap (b * 2 % 256+b2i c) = b * 2 % 256+b2i c:=by rw [IntKind.wrap_u8];omega
  have HB:=hR w;go_enter Tryz.func197,Tryz.ntmps197
  go_wp2_with (first | (go_at_call 92;((with_reducible refine (spec_one _ _).mono ?_);rintro _ _ ⟨rfl,rfl⟩)))
  go_wp2_with fail
  refine (spec_NZ _ ⟨_,_,_,_,_,_⟩ _ (by omega) (by omega)).mono ?_
  rintro _ w1 ⟨rfl,hb⟩
  (have HB:=Aside0.mk (below_step (w:=w) blw hb);have hz1:=hb.size;obtain ⟨hcl1,hfr1,hlt1,_⟩:=bcell hb;(try simp only [sA,sC,sD] at hz1);(try simp only [sA,sC,sD] at hcl1 hfr1 hlt1);have hk1_0 : w.heap.size < w1.heap.size:=(by omega);have hk1_1 : w.heap.size+1 < w1.heap.size:=(by omega);have HB1:=hR w1;clear hb)
  go_wp2_with fail
  (refine bodyPost_ret (v:=.tuple #[.int .u8 (rolT b ⟨n,v,d,i,z,c⟩).1,.agg #[.bool (rolT b ⟨n,v,d,i,z,c⟩).2.N,.bool (rolT b ⟨n,v,d,i,z,c⟩).2.V,.bool (rolT b ⟨n,v,d,i,z,c⟩).2.D,.bool (rolT b ⟨n,v,d,i,z,c⟩).2.I,.bool (rolT b ⟨n,v,d,i,z,c⟩).2.Z,.bool (rolT b ⟨n,v,d,i,z,c⟩).2.C]]) (by (simp only [results,Tryz.results197];go_simp <;> ((first | (simp [rolT,movF,nz];done) | (simp [rolT,movF,nz];rfl))))) rfl ?_)
  exact ⟨rfl,blw⟩
set_option maxHeartbeats 400000 in
theorem spec_Ror (b : Int) (f : F6) (w : World) (h0 : 0 ≤ b) (h1 : b < 256) : Calls Tryz.prog 198 #[.int .u8 b,.agg #[.bool f.N,.bool f.V,.bool f.D,.bool f.I,.bool f.Z,.bool f.C]] w fun e w' => e = .returned (.tuple #[.int .u8 (rorT b f).1,.agg #[.bool (rorT b f).2.N,.bool (rorT b f).2.V,.bool (rorT b f).2.D,.bool (rorT b f).2.I,.bool (rorT b f).2.Z,.bool (rorT b f).2.C]])∧Below w.heap.size w w':=by
  obtain ⟨n,v,d,i,z,c⟩:=f
  have q0:=b2i_lo c
  have q1:=b2i_hi c
  have e2 : IntKind.u8.wrap (128 * b2i c) = 128 * b2i c:=by rw [IntKind.wrap_u8];omega
  have e3 : IntKind.u8.wrap (b / 2+128 * b2i c) = b / 2+128 * b2i c:=by rw [IntKind.wrap_u8];omega
  have HB:=hR w;go_enter Tryz.func198,Tryz.ntmps198
  go_wp2_with (first | (go_at_call 92;((with_reducible refine (spec_b128 _ _).mono ?_);rintro _ _ ⟨rfl,rfl⟩)))
  go_wp2_with fail
  refine (spec_NZ _ ⟨_,_,_,_,_,_⟩ _ (by omega) (by omega)).mono ?_
  rintro _ w1 ⟨rfl,hb⟩
  (have HB:=Aside0.mk (below_step (w:=w) blw hb);have hz1:=hb.size;obtain ⟨hcl1,hfr1,hlt1,_⟩:=bcell hb;(try simp only [sA,sC,sD] at hz1);(try simp only [sA,sC,sD] at hcl1 hfr1 hlt1);have hk1_0 : w.heap.size < w1.heap.size:=(by omega);have hk1_1 : w.heap.size+1 < w1.heap.size:=(by omega);have HB1:=hR w1;clear hb)
  go_wp2_with fail
  (refine bodyPost_ret (v:=.tuple #[.int .u8 (rorT b ⟨n,v,d,i,z,c⟩).1,.agg #[.bool (rorT b ⟨n,v,d,i,z,c⟩).2.N,.bool (rorT b ⟨n,v,d,i,z,c⟩).2.V,.bool (rorT b ⟨n,v,d,i,z,c⟩).2.D,.bool (rorT b ⟨n,v,d,i,z,c⟩).2.I,.bool (rorT b ⟨n,v,d,i,z,c⟩).2.Z,.bool (rorT b ⟨n,v,d,i,z,c⟩).2.C]]) (by (simp only [results,Tryz.results198];go_simp <;> ((first | (simp [rorT,movF,nz,bitT];done) | (simp [rorT,movF,nz,bitT];rfl))))) rfl ?_)
  exact ⟨rfl,blw⟩
theorem spec_BitTest (a m : Int) (f : F6) (w : World) (h0 : 0 ≤ a) (h1 : a < 256) (h2 : 0 ≤ m) (h3 : m < 256) : Calls Tryz.prog 202 #[.int .u8 a,.int .u8 m,.agg #[.bool f.N,.bool f.V,.bool f.D,.bool f.I,.bool f.Z,.bool f.C]] w fun e w' => e = .returned (.agg #[.bool (bitF a m f).N,.bool (bitF a m f).V,.bool (bitF a m f).D,.bool (bitF a m f).I,.bool (bitF a m f).Z,.bool (bitF a m f).C])∧Below w.heap.size w w':=by
  have q6:=of_u8 (P:=fun b => (bits .and .u8 b 64 != 0) = bitT b 64) u8_bit64 m h2 h3
  have HB:=hR w;go_enter Tryz.func202,Tryz.ntmps202
  go_wp2
  (refine bodyPost_ret (v:=.agg #[.bool (bitF a m f).N,.bool (bitF a m f).V,.bool (bitF a m f).D,.bool (bitF a m f).I,.bool (bitF a m f).Z,.bool (bitF a m f).C]) (by (simp only [results,Tryz.results202];go_simp <;> ((simp [bitF];done)))) rfl ?_)
  exact ⟨rfl,blw⟩
end Go.Proofs.YtoncmhfmkfeolaaGreatDoor
