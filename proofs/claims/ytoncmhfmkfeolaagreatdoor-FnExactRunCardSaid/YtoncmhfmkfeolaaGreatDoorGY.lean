/- The exact laws' lists of numbers, of interrupts that are asked for and of processors: compared, marked, read back. -/
import Derived.Test.YtoncmhfmkfeolaaGreatDoorGM
import Derived.Test.YtoncmhfmkfeolaaGreatDoorGD
import Derived.Test.YtoncmhfmkfeolaaGreatDoorGA
import Derived.Test.YtoncmhfmkfeolaaGreatDoorGO
import Derived.Test.YtoncmhfmkfeolaaGreatDoorGN
set_option linter.unusedVariables false
set_option linter.unusedSimpArgs false
namespace Go.Proofs.YtoncmhfmkfeolaaGreatDoor
open Go.RowKit Go.Proofs.YtoncmhfmkfeolaaGreatDoorW.PrintWords
def mkG {α : Type} (f : Int → α) (s : Int) (k : Int) : Nat → List α
  | 0 => []
  | n+1 => f k::mkG f s (k+s) n
theorem mkG_len {α : Type} (f : Int → α) (s : Int) (n : Nat) : ∀ k,(mkG f s k n).length = n:=by
  induction n with
  | zero => intro k;rfl
  | succ n ih => intro k;simp [mkG,ih]
theorem mul_next (s : Int) (n : Nat) (k : Int) : k+s+s * n = k+s * (n+1 : Nat):=by
  rw [Int.natCast_add,Int.mul_add]
  simp only [Int.natCast_one,Int.mul_one]
  omega
theorem mkG_get {α : Type} (f : Int → α) (s : Int) (n : Nat) (z : α) : ∀ (k : Int) (j : Nat),j < n → (mkG f s k n).getD j z = f (k+s * j):=by
  induction n with
  | zero => intro k j h;omega
  | succ n ih =>
    intro k j h
    cases j with
    | zero => simp [mkG]
    | succ j => rw [mkG,List.getD_cons_succ,ih _ _ (by omega),mul_next]
theorem mkG_snoc {α : Type} (f : Int → α) (s : Int) (n : Nat) : ∀ k : Int,mkG f s k (n+1) = mkG f s k n ++ [f (k+s * n)]:=by
  induction n with
  | zero => intro k;simp [mkG]
  | succ n ih =>
    intro k
    rw [mkG,ih (k+s),mkG,mul_next]
    rfl
theorem mkG_set {α : Type} (f : Int → α) (s : Int) (l : List α) (k : Int) (j : Nat) (h : j < l.length) : (mkG f s k j ++ l.drop j).set j (f (k+s * j)) = mkG f s k (j+1) ++ l.drop (j+1):=by
  rw [mkG_snoc,List.set_append_right _ _ (by rw [mkG_len];omega),mkG_len,Nat.sub_self,List.drop_eq_getElem_cons h,List.set_cons_zero,List.append_assoc]
  rfl
def mkI (k : Int) (n : Nat) : List Int:=mkG id 1 k n
set_option maxRecDepth 20000 in
set_option maxHeartbeats 400000 in
theorem laws_eqIntS (A B : Option Addr) (c d : Nat) (l : List Int) (w : World) (h : (Kd.int .i64).C w A l.length l) (h2 : (Kd.int .i64).C w B l.length l) (hl : l.length ≤ 1048576) :
    Calls Tryz.prog 67 #[.slice A l.length c,.slice B l.length d] w fun e w' => e = .returned (.bool true)∧Below w.heap.size w w':=by
  have HB:=hR w;go_enter Tryz.func67,Tryz.ntmps67
  go_wp2
  go_loopw [5] (fun v4 wr => ∃ k : Nat,k ≤ l.length∧v4 = .int .i64 k∧Aside0 (Below w.heap.size w wr)) (fun v4 _ => l.length - (intOf v4).toNat)
  case atStart => exact ⟨0,Nat.zero_le _,rfl,HB⟩
  case round =>
    obtain ⟨k,hk,rfl,HB⟩:=hrel
    by_cases hlt : k < l.length
    · obtain ⟨ad,rfl,hx⟩:=Kd.at_int h k (by omega) (by omega)
      obtain ⟨ae,rfl,hy⟩:=Kd.at_int h2 k (by omega) (by omega)
      have hx1:=(HB.out.cell (World.block_lt_of_cell? w _ hx)).trans hx
      have hy1:=(HB.out.cell (World.block_lt_of_cell? w _ hy)).trans hy
      rw [Int.toNat_natCast] at hx1 hy1
      have q0 : (0 : Int) ≤ (k : Int):=by omega
      have q1 : (k : Int) < (l.length : Int):=by omega
      go_wp2
      go_quiet (fail)
      go_wp2
      go_roundw
      case rel => exact ⟨k+1,by omega,by go_num,⟨blw⟩⟩
      case measure => simp [intOf];omega
    · go_wp2
      go_ret
      exact ⟨rfl,blw⟩
set_option maxRecDepth 20000 in
set_option maxHeartbeats 400000 in
theorem laws_markIntS (base : Nat) (A : Option Addr) (c : Nat) (l : List Int) (n : Int) (w : World) (h : OwnI w base (.slice A l.length c) l) (hl : l.length ≤ 1048576) (h0 : 0 ≤ n) (h1 : n ≤ 90000000) :
    Calls Tryz.prog 73 #[.slice A l.length c,.int .i64 n] w fun e w' => e = .returned (.int .i64 (n+l.length))∧OwnI w' base (.slice A l.length c) (mkI n l.length)∧w.grownBy w' (Value.slice A l.length c).ownBlock:=by
  have HB:=hR w;go_enter Tryz.func73,Tryz.ntmps73
  go_wp2
  go_loopw [1,5] (fun v1 v5 wr => ∃ k : Nat,k ≤ l.length∧v1 = .int .i64 (n+k)∧v5 = .int .i64 k∧Aside0 (OwnI wr base (.slice A l.length c) (mkI n k ++ l.drop k))∧Aside0 (w.grownBy wr (Value.slice A l.length c).ownBlock)) (fun _ v5 _ => l.length - (intOf v5).toNat)
  case atStart => exact ⟨0,Nat.zero_le _,by simp,rfl,⟨h⟩,⟨grown_refl _ _⟩⟩
  case round =>
    obtain ⟨k,hk,rfl,rfl,HO,HG⟩:=hrel
    by_cases hlt : k < l.length
    · obtain ⟨g,cap,eo,gb,gl,cl,HC⟩:=Kd.R_form HO.out (by simp [mkI,mkG_len];omega)
      injection eo with ea en ec
      subst ea ec
      obtain ⟨hy,hf⟩:=Kd.R_celln 0 HO.out (k : Int) (by omega) (by omega)
      rw [Int.toNat_natCast] at hy hf
      have HP:=Aside0.mk (Kd.R_putg HO.out (k : Int) (n+k))
      have HE : Aside0 ((mkI n k ++ l.drop k).set k (n+k) = mkI n (k+1) ++ l.drop (k+1)):=⟨by have:=mkG_set id 1 l n k hlt;simpa [mkI] using this⟩
      clear en HC
      go_wp2_with fail
      exact ⟨⟨k+1,by omega,by go_num,by go_num,⟨by have:=HP.out.1;rw [Int.toNat_natCast,HE.out] at this;exact this⟩,⟨HG.out.trans HP.out.2⟩⟩,by simp [intOf];omega⟩
    · go_wp2
      go_ret
      have e : k = l.length:=by omega
      subst e
      exact ⟨rfl,by have:=HO.out;simpa using this,HG.out⟩
set_option maxRecDepth 20000 in
set_option maxHeartbeats 400000 in
theorem laws_heldIntS (A : Option Addr) (c m : Nat) (n : Int) (w : World) (h : (Kd.int .i64).C w A m (mkI n m)) (hl : m ≤ 1048576) (h0 : 0 ≤ n) (h1 : n ≤ 90000000) :
    Calls Tryz.prog 77 #[.slice A m c,.int .i64 n] w fun e w' => e = .returned (.int .i64 (n+m))∧w = w':=by
  have HB:=hR w;go_enter Tryz.func77,Tryz.ntmps77
  go_wp2
  go_loop [1,5] (fun v1 v5 => ∃ k : Nat,k ≤ m∧v1 = .int .i64 (n+k)∧v5 = .int .i64 k) (fun _ v5 => m - (intOf v5).toNat)
  case atStart => exact ⟨0,Nat.zero_le _,by simp,rfl⟩
  case round =>
    obtain ⟨k,hk,rfl,rfl⟩:=hrel
    by_cases hlt : k < m
    · obtain ⟨ad,rfl,hx⟩:=Kd.at_int h k (by omega) (by omega)
      have e : rd (mkI n m) k = n+k:=by
        have:=mkG_get id 1 m 0 n k hlt
        simpa [rd,mkI] using this
      have hx1 : w.cell? (ad.add k) = some (.int .i64 (n+k)):=by
        rw [← e];simpa [rd] using hx
      clear hx e
      go_wp2_with fail
      exact ⟨⟨k+1,by omega,by go_num,by go_num⟩,by simp [intOf];omega⟩
    · go_wp2
      go_ret
      have e : k = m:=by omega
      subst e
      exact ⟨rfl,rfl⟩
open Go.RowKit Go.Proofs.YtoncmhfmkfeolaaGreatDoorW.PrintWords
theorem OwnP.put {W : World} {base g n cap : Nat} {l : List Cpu} (h : OwnP W base (.slice (some ⟨g,0,none⟩) n cap) l) (k : Nat) (hk : k < n) (x : Cpu) :
    (∃ c0 c1 c2 c3 c4 c5 c6 c7 c8 c9 c10,W.cell? ⟨g,k * 11,none⟩ = some c0∧W.cell? ⟨g,k * 11+1,none⟩ = some c1∧W.cell? ⟨g,k * 11+2,none⟩ = some c2∧W.cell? ⟨g,k * 11+3,none⟩ = some c3∧W.cell? ⟨g,k * 11+4,none⟩ = some c4∧W.cell? ⟨g,k * 11+5,none⟩ = some c5∧W.cell? ⟨g,k * 11+6,none⟩ = some c6∧W.cell? ⟨g,k * 11+7,none⟩ = some c7∧W.cell? ⟨g,k * 11+8,none⟩ = some c8∧W.cell? ⟨g,k * 11+9,none⟩ = some c9∧W.cell? ⟨g,k * 11+10,none⟩ = some c10)∧(∀ j,W.frozen? ⟨g,k * 11+j,none⟩ = false) ∧
    OwnP (((((((((((W.setCell ⟨g,k * 11,none⟩ (.int .u8 (x.A))).setCell ⟨g,k * 11+1,none⟩ (.int .u8 (x.X))).setCell ⟨g,k * 11+2,none⟩ (.int .u8 (x.Y))).setCell ⟨g,k * 11+3,none⟩ (.int .u8 (x.S))).setCell ⟨g,k * 11+4,none⟩ (.int .u16 (x.PC))).setCell ⟨g,k * 11+5,none⟩ (.bool (x.F.N))).setCell ⟨g,k * 11+6,none⟩ (.bool (x.F.V))).setCell ⟨g,k * 11+7,none⟩ (.bool (x.F.D))).setCell ⟨g,k * 11+8,none⟩ (.bool (x.F.I))).setCell ⟨g,k * 11+9,none⟩ (.bool (x.F.Z))).setCell ⟨g,k * 11+10,none⟩ (.bool (x.F.C))) base (.slice (some ⟨g,0,none⟩) n cap) (l.set k x) ∧
    W.grownBy (((((((((((W.setCell ⟨g,k * 11,none⟩ (.int .u8 (x.A))).setCell ⟨g,k * 11+1,none⟩ (.int .u8 (x.X))).setCell ⟨g,k * 11+2,none⟩ (.int .u8 (x.Y))).setCell ⟨g,k * 11+3,none⟩ (.int .u8 (x.S))).setCell ⟨g,k * 11+4,none⟩ (.int .u16 (x.PC))).setCell ⟨g,k * 11+5,none⟩ (.bool (x.F.N))).setCell ⟨g,k * 11+6,none⟩ (.bool (x.F.V))).setCell ⟨g,k * 11+7,none⟩ (.bool (x.F.D))).setCell ⟨g,k * 11+8,none⟩ (.bool (x.F.I))).setCell ⟨g,k * 11+9,none⟩ (.bool (x.F.Z))).setCell ⟨g,k * 11+10,none⟩ (.bool (x.F.C))) (some g):=by
  obtain ⟨c,hc,hM,hx,hf⟩:=Kd.R_elem h ⟨0,0,0,0,0,⟨false,false,false,false,false,false⟩⟩ (k : Int) (by omega) (by omega)
  rw [Int.toNat_natCast] at hx hf
  have hs : cpuK.sz = 11:=rfl
  rw [hs] at hc hx hf
  obtain ⟨h1,h2⟩:=Kd.R_seg (okp:=fun k => True∧k ≠ g) h (k : Int) (by omega) (by omega) (c:=c) (seg:=[.int .u8 (x.A),.int .u8 (x.X),.int .u8 (x.Y),.int .u8 (x.S),.int .u16 (x.PC),.bool (x.F.N),.bool (x.F.V),.bool (x.F.D),.bool (x.F.I),.bool (x.F.Z),.bool (x.F.C)]) (j:=0) (x':=x) hc (by rw [Int.toNat_natCast];exact hx) (Nat.le_refl 11) (by
    match c,hc with
    | [_,_,_,_,_,_,_,_,_,_,_],_ => exact ⟨[_],_,rfl,rfl,⟨[_],_,rfl,rfl,⟨[_],_,rfl,rfl,⟨[_],_,rfl,rfl,⟨[_],_,rfl,rfl,⟨[_],_,rfl,rfl,⟨[_],_,rfl,rfl,⟨[_],_,rfl,rfl,⟨[_],_,rfl,rfl,⟨[_],[_],rfl,rfl,rfl⟩⟩⟩⟩⟩⟩⟩⟩⟩⟩) (fun _ hk => hk)
  rw [Int.toNat_natCast] at h1 h2
  match c,hc,hx with
  | [c0,c1,c2,c3,c4,c5,c6,c7,c8,c9,c10],_,hx => exact ⟨⟨c0,c1,c2,c3,c4,c5,c6,c7,c8,c9,c10,hx 0 _ rfl,hx 1 _ rfl,hx 2 _ rfl,hx 3 _ rfl,hx 4 _ rfl,hx 5 _ rfl,hx 6 _ rfl,hx 7 _ rfl,hx 8 _ rfl,hx 9 _ rfl,hx 10 _ rfl⟩,hf,h1,h2⟩
set_option maxRecDepth 20000 in
set_option maxHeartbeats 600000 in
theorem laws_eqCpuS (A B : Option Addr) (c d : Nat) (l : List Cpu) (w : World) (h : cpuK.C w A l.length l) (h2 : cpuK.C w B l.length l) (hl : l.length ≤ 1048576) :
    Calls Tryz.prog 68 #[.slice A l.length c,.slice B l.length d] w fun e w' => e = .returned (.bool true)∧Below w.heap.size w w':=by
  have HB:=hR w;go_enter Tryz.func68,Tryz.ntmps68
  go_wp2
  go_loopw [5] (fun v4 wr => ∃ k : Nat,k ≤ l.length∧v4 = .int .i64 k∧Aside0 (Below w.heap.size w wr)) (fun v4 _ => l.length - (intOf v4).toNat)
  case atStart => exact ⟨0,Nat.zero_le _,rfl,HB⟩
  case round =>
    obtain ⟨k,hk,rfl,HB⟩:=hrel
    by_cases hlt : k < l.length
    · obtain ⟨x,ex⟩ : ∃ x,l.getD k ⟨0,0,0,0,0,⟨false,false,false,false,false,false⟩⟩ = x:=⟨_,rfl⟩
      obtain ⟨ad,rfl,⟨ha0,ha1,ha2,ha3,ha4,ha5,ha6,ha7,ha8,ha9,ha10⟩⟩:=cpu_at h k (by omega) (by omega) ⟨0,0,0,0,0,⟨false,false,false,false,false,false⟩⟩
      rw [Int.toNat_natCast,ex] at ha0 ha1 ha2 ha3 ha4 ha5 ha6 ha7 ha8 ha9 ha10
      obtain ⟨ae,rfl,⟨ga0,ga1,ga2,ga3,ga4,ga5,ga6,ga7,ga8,ga9,ga10⟩⟩:=cpu_at h2 k (by omega) (by omega) ⟨0,0,0,0,0,⟨false,false,false,false,false,false⟩⟩
      rw [Int.toNat_natCast,ex] at ga0 ga1 ga2 ga3 ga4 ga5 ga6 ga7 ga8 ga9 ga10
      have P0:=(HB.out.cell (World.block_lt_of_cell? w _ ha0)).trans ha0
      have R0:=(HB.out.cell (World.block_lt_of_cell? w _ ga0)).trans ga0
      have P1:=(HB.out.cell (World.block_lt_of_cell? w _ ha1)).trans ha1
      have R1:=(HB.out.cell (World.block_lt_of_cell? w _ ga1)).trans ga1
      have P2:=(HB.out.cell (World.block_lt_of_cell? w _ ha2)).trans ha2
      have R2:=(HB.out.cell (World.block_lt_of_cell? w _ ga2)).trans ga2
      have P3:=(HB.out.cell (World.block_lt_of_cell? w _ ha3)).trans ha3
      have R3:=(HB.out.cell (World.block_lt_of_cell? w _ ga3)).trans ga3
      have P4:=(HB.out.cell (World.block_lt_of_cell? w _ ha4)).trans ha4
      have R4:=(HB.out.cell (World.block_lt_of_cell? w _ ga4)).trans ga4
      have P5:=(HB.out.cell (World.block_lt_of_cell? w _ ha5)).trans ha5
      have R5:=(HB.out.cell (World.block_lt_of_cell? w _ ga5)).trans ga5
      have P6:=(HB.out.cell (World.block_lt_of_cell? w _ ha6)).trans ha6
      have R6:=(HB.out.cell (World.block_lt_of_cell? w _ ga6)).trans ga6
      have P7:=(HB.out.cell (World.block_lt_of_cell? w _ ha7)).trans ha7
      have R7:=(HB.out.cell (World.block_lt_of_cell? w _ ga7)).trans ga7
      have P8:=(HB.out.cell (World.block_lt_of_cell? w _ ha8)).trans ha8
      have R8:=(HB.out.cell (World.block_lt_of_cell? w _ ga8)).trans ga8
      have P9:=(HB.out.cell (World.block_lt_of_cell? w _ ha9)).trans ha9
      have R9:=(HB.out.cell (World.block_lt_of_cell? w _ ga9)).trans ga9
      have P10:=(HB.out.cell (World.block_lt_of_cell? w _ ha10)).trans ha10
      have R10:=(HB.out.cell (World.block_lt_of_cell? w _ ga10)).trans ga10
      rw [add_next] at P1 R1 P2 R2 P3 R3 P4 R4 P5 R5 P6 R6 P7 R7 P8 R8 P9 R9 P10 R10
      have HBr:=Aside0.mk (Below.refl wr.heap.size wr)
      have q0 : (0 : Int) ≤ (k : Int):=by omega
      have q1 : (k : Int) < (l.length : Int):=by omega
      clear ha0 ga0 ha1 ga1 ha2 ga2 ha3 ga3 ha4 ga4 ha5 ga5 ha6 ga6 ha7 ga7 ha8 ga8 ha9 ga9 ha10 ga10 ex h h2
      go_wp2_with fail
      go_region_held3 (fun w' => Below w.heap.size w w'∧Below wr.heap.size wr w'∧w'.cell? (ad.add (k * 11)) = some (.int .u8 (x.A))∧w'.cell? ⟨(ad.add (k * 11)).block,(ad.add (k * 11)).off+1,none⟩ = some (.int .u8 (x.X))∧w'.cell? ⟨(ad.add (k * 11)).block,(ad.add (k * 11)).off+2,none⟩ = some (.int .u8 (x.Y))∧w'.cell? ⟨(ad.add (k * 11)).block,(ad.add (k * 11)).off+3,none⟩ = some (.int .u8 (x.S))∧w'.cell? ⟨(ad.add (k * 11)).block,(ad.add (k * 11)).off+4,none⟩ = some (.int .u16 (x.PC))∧w'.cell? ⟨(ad.add (k * 11)).block,(ad.add (k * 11)).off+5,none⟩ = some (.bool (x.F.N))∧w'.cell? ⟨(ad.add (k * 11)).block,(ad.add (k * 11)).off+6,none⟩ = some (.bool (x.F.V))∧w'.cell? ⟨(ad.add (k * 11)).block,(ad.add (k * 11)).off+7,none⟩ = some (.bool (x.F.D))∧w'.cell? ⟨(ad.add (k * 11)).block,(ad.add (k * 11)).off+8,none⟩ = some (.bool (x.F.I))∧w'.cell? ⟨(ad.add (k * 11)).block,(ad.add (k * 11)).off+9,none⟩ = some (.bool (x.F.Z))∧w'.cell? ⟨(ad.add (k * 11)).block,(ad.add (k * 11)).off+10,none⟩ = some (.bool (x.F.C))∧w'.cell? (ae.add (k * 11)) = some (.int .u8 (x.A))∧w'.cell? ⟨(ae.add (k * 11)).block,(ae.add (k * 11)).off+1,none⟩ = some (.int .u8 (x.X))∧w'.cell? ⟨(ae.add (k * 11)).block,(ae.add (k * 11)).off+2,none⟩ = some (.int .u8 (x.Y))∧w'.cell? ⟨(ae.add (k * 11)).block,(ae.add (k * 11)).off+3,none⟩ = some (.int .u8 (x.S))∧w'.cell? ⟨(ae.add (k * 11)).block,(ae.add (k * 11)).off+4,none⟩ = some (.int .u16 (x.PC))∧w'.cell? ⟨(ae.add (k * 11)).block,(ae.add (k * 11)).off+5,none⟩ = some (.bool (x.F.N))∧w'.cell? ⟨(ae.add (k * 11)).block,(ae.add (k * 11)).off+6,none⟩ = some (.bool (x.F.V))∧w'.cell? ⟨(ae.add (k * 11)).block,(ae.add (k * 11)).off+7,none⟩ = some (.bool (x.F.D))∧w'.cell? ⟨(ae.add (k * 11)).block,(ae.add (k * 11)).off+8,none⟩ = some (.bool (x.F.I))∧w'.cell? ⟨(ae.add (k * 11)).block,(ae.add (k * 11)).off+9,none⟩ = some (.bool (x.F.Z))∧w'.cell? ⟨(ae.add (k * 11)).block,(ae.add (k * 11)).off+10,none⟩ = some (.bool (x.F.C))) (first | (go_keep;done) | (go_split_ands;(repeat' apply And.intro) <;> (first | (with_reducible assumption) | (go_simp;done) | (exact cell_keep blw (by assumption)) | exact blw))) (first | (go_at_call 65;((with_reducible refine (laws_eqCpu x _).mono ?_);rintro _ w1 ⟨rfl,hb⟩;have HB:=Aside0.mk (below_step (w:=w) blw hb);have HBr:=Aside0.mk (below_step (w:=wr) blw hb);have hz1:=hb.size;obtain ⟨hcl1,hfr1,hlt1,_⟩:=bcell hb;(try simp only [sA,sC,sD] at hz1);(try simp only [sA,sC,sD] at hcl1 hfr1 hlt1);have HB1:=hR w1;clear hb;have e0:=cell_keep HBr.out P0;have e1:=cell_keep HBr.out P1;have e2:=cell_keep HBr.out P2;have e3:=cell_keep HBr.out P3;have e4:=cell_keep HBr.out P4;have e5:=cell_keep HBr.out P5;have e6:=cell_keep HBr.out P6;have e7:=cell_keep HBr.out P7;have e8:=cell_keep HBr.out P8;have e9:=cell_keep HBr.out P9;have e10:=cell_keep HBr.out P10;have d0:=cell_keep HBr.out R0;have d1:=cell_keep HBr.out R1;have d2:=cell_keep HBr.out R2;have d3:=cell_keep HBr.out R3;have d4:=cell_keep HBr.out R4;have d5:=cell_keep HBr.out R5;have d6:=cell_keep HBr.out R6;have d7:=cell_keep HBr.out R7;have d8:=cell_keep HBr.out R8;have d9:=cell_keep HBr.out R9;have d10:=cell_keep HBr.out R10)))
      go_wp2
      exact ⟨⟨k+1,by omega,by go_num,⟨blw⟩⟩,by simp [intOf];omega⟩
    · go_wp2
      go_ret
      exact ⟨rfl,HB.out⟩
def mkP1 (k : Int) : Cpu:=⟨k % 256,(k+1) % 256,(k+1+1) % 256,(k+1+1+1) % 256,(k+1+1+1+1) % 65536,⟨(k+1+1+1+1+1) % 3 == 0,(k+1+1+1+1+1+1) % 3 == 0,(k+1+1+1+1+1+1+1) % 3 == 0,(k+1+1+1+1+1+1+1+1) % 3 == 0,(k+1+1+1+1+1+1+1+1+1) % 3 == 0,(k+1+1+1+1+1+1+1+1+1+1) % 3 == 0⟩⟩
set_option maxRecDepth 20000 in
set_option maxHeartbeats 600000 in
theorem laws_markCpuS (base : Nat) (A : Option Addr) (c : Nat) (l : List Cpu) (n : Int) (w : World) (h : OwnP w base (.slice A l.length c) l) (hl : l.length ≤ 1048576) (h0 : 0 ≤ n) (h1 : n ≤ 90000000) :
    Calls Tryz.prog 74 #[.slice A l.length c,.int .i64 n] w fun e w' => e = .returned (.int .i64 (n+11 * l.length))∧OwnP w' base (.slice A l.length c) (mkG mkP1 11 n l.length)∧w.grownBy w' (Value.slice A l.length c).ownBlock:=by
  have HB:=hR w;go_enter Tryz.func74,Tryz.ntmps74
  go_wp2
  go_loopw [1,5] (fun v1 v5 wr => ∃ k : Nat,k ≤ l.length∧v1 = .int .i64 (n+11 * k)∧v5 = .int .i64 k∧Aside0 (OwnP wr base (.slice A l.length c) (mkG mkP1 11 n k ++ l.drop k))∧Aside0 (w.grownBy wr (Value.slice A l.length c).ownBlock)) (fun _ v5 _ => l.length - (intOf v5).toNat)
  case atStart => exact ⟨0,Nat.zero_le _,by simp,rfl,⟨h⟩,⟨grown_refl _ _⟩⟩
  case round =>
    obtain ⟨k,hk,rfl,rfl,HO,HG⟩:=hrel
    by_cases hlt : k < l.length
    · obtain ⟨g,cap,eo,gb,gl,cl,HC⟩:=Kd.R_form HO.out (by simp [mkG_len];omega)
      injection eo with ea en ec
      subst ea ec
      obtain ⟨⟨c0,c1,c2,c3,c4,c5,c6,c7,c8,c9,c10,q0,q1,q2,q3,q4,q5,q6,q7,q8,q9,q10⟩,hf,HP,HQ⟩:=HO.out.put k hlt (mkP1 (n+11 * k))
      have f0 : wr.frozen? ⟨g,k * 11,none⟩ = false:=hf 0
      have f1:=hf 1
      have f2:=hf 2
      have f3:=hf 3
      have f4:=hf 4
      have f5:=hf 5
      have f6:=hf 6
      have f7:=hf 7
      have f8:=hf 8
      have f9:=hf 9
      have f10:=hf 10
      have HP:=Aside0.mk HP
      have HQ:=Aside0.mk HQ
      have hu0:=IntKind.wrap_u8 (n+11 * k)
      have hu1:=IntKind.wrap_u8 (n+11 * k+1)
      have hu2:=IntKind.wrap_u8 (n+11 * k+2)
      have hu3:=IntKind.wrap_u8 (n+11 * k+3)
      have hu4:=IntKind.wrap_u16 (n+11 * k+4)
      clear hf en HC
      go_wp2_with fail
      exact ⟨⟨k+1,by omega,by go_num,by go_num,⟨by have:=HP.out;rw [mkG_set mkP1 11 l n k hlt] at this;exact this⟩,⟨HG.out.trans HQ.out⟩⟩,by simp [intOf];omega⟩
    · go_wp2
      go_ret
      have e : k = l.length:=by omega
      subst e
      exact ⟨rfl,by have:=HO.out;simpa using this,HG.out⟩
set_option maxRecDepth 20000 in
set_option maxHeartbeats 600000 in
theorem laws_heldCpuS (A : Option Addr) (c m : Nat) (n : Int) (w : World) (h : cpuK.C w A m (mkG mkP1 11 n m)) (hl : m ≤ 1048576) (h0 : 0 ≤ n) (h1 : n ≤ 90000000) :
    Calls Tryz.prog 78 #[.slice A m c,.int .i64 n] w fun e w' => e = .returned (.int .i64 (n+11 * m))∧w = w':=by
  have HB:=hR w;go_enter Tryz.func78,Tryz.ntmps78
  go_wp2
  go_loop [1,5] (fun v1 v5 => ∃ k : Nat,k ≤ m∧v1 = .int .i64 (n+11 * k)∧v5 = .int .i64 k) (fun _ v5 => m - (intOf v5).toNat)
  case atStart => exact ⟨0,Nat.zero_le _,by simp,rfl⟩
  case round =>
    obtain ⟨k,hk,rfl,rfl⟩:=hrel
    by_cases hlt : k < m
    · have ex:=mkG_get mkP1 11 m ⟨0,0,0,0,0,⟨false,false,false,false,false,false⟩⟩ n k hlt
      obtain ⟨ad,rfl,⟨ha0,ha1,ha2,ha3,ha4,ha5,ha6,ha7,ha8,ha9,ha10⟩⟩:=cpu_at h k (by omega) (by omega) ⟨0,0,0,0,0,⟨false,false,false,false,false,false⟩⟩
      rw [Int.toNat_natCast,ex] at ha0 ha1 ha2 ha3 ha4 ha5 ha6 ha7 ha8 ha9 ha10
      have hu0:=IntKind.wrap_u8 (n+11 * k)
      have hu1:=IntKind.wrap_u8 (n+11 * k+1)
      have hu2:=IntKind.wrap_u8 (n+11 * k+1+1)
      have hu3:=IntKind.wrap_u8 (n+11 * k+1+1+1)
      have hu4:=IntKind.wrap_u16 (n+11 * k+1+1+1+1)
      rw [add_next] at ha1 ha2 ha3 ha4 ha5 ha6 ha7 ha8 ha9 ha10
      simp only [mkP1] at ha0 ha1 ha2 ha3 ha4 ha5 ha6 ha7 ha8 ha9 ha10
      clear ex
      go_wp2_with fail
      exact ⟨⟨k+1,by omega,by go_num,by go_num⟩,by simp [intOf];omega⟩
    · go_wp2
      go_ret
      have e : k = m:=by omega
      subst e
      exact ⟨rfl,rfl⟩
open Go.RowKit Go.Proofs.YtoncmhfmkfeolaaGreatDoorW.PrintWords
theorem OwnV.put {W : World} {base g n cap : Nat} {l : List Evt} (h : OwnV W base (.slice (some ⟨g,0,none⟩) n cap) l) (k : Nat) (hk : k < n) (x : Evt) :
    (∃ c0 c1,W.cell? ⟨g,k * 2,none⟩ = some c0∧W.cell? ⟨g,k * 2+1,none⟩ = some c1)∧(∀ j,W.frozen? ⟨g,k * 2+j,none⟩ = false) ∧
    OwnV ((W.setCell ⟨g,k * 2,none⟩ (.int .i64 (x.a))).setCell ⟨g,k * 2+1,none⟩ (.bool (x.n))) base (.slice (some ⟨g,0,none⟩) n cap) (l.set k x) ∧
    W.grownBy ((W.setCell ⟨g,k * 2,none⟩ (.int .i64 (x.a))).setCell ⟨g,k * 2+1,none⟩ (.bool (x.n))) (some g):=by
  obtain ⟨c,hc,hM,hx,hf⟩:=Kd.R_elem h ⟨0,false⟩ (k : Int) (by omega) (by omega)
  rw [Int.toNat_natCast] at hx hf
  have hs : evK.sz = 2:=rfl
  rw [hs] at hc hx hf
  obtain ⟨h1,h2⟩:=Kd.R_seg (okp:=fun k => True∧k ≠ g) h (k : Int) (by omega) (by omega) (c:=c) (seg:=[.int .i64 (x.a),.bool (x.n)]) (j:=0) (x':=x) hc (by rw [Int.toNat_natCast];exact hx) (Nat.le_refl 2) (by
    match c,hc with
    | [_,_],_ => exact ⟨[_],[_],rfl,rfl,rfl⟩) (fun _ hk => hk)
  rw [Int.toNat_natCast] at h1 h2
  match c,hc,hx with
  | [c0,c1],_,hx => exact ⟨⟨c0,c1,hx 0 _ rfl,hx 1 _ rfl⟩,hf,h1,h2⟩
theorem laws_eqEvent (c : Evt) (w : World) : Calls Tryz.prog 70 #[.agg #[.int .i64 c.a,.bool c.n],.agg #[.int .i64 c.a,.bool c.n]] w fun e w' => e = .returned (.bool true)∧Below w.heap.size w w':=by
  have HB:=hR w;go_enter Tryz.func70,Tryz.ntmps70
  go_wp2
  go_ret
  exact ⟨rfl,blw⟩
set_option maxRecDepth 20000 in
set_option maxHeartbeats 600000 in
theorem laws_eqEventS (A B : Option Addr) (c d : Nat) (l : List Evt) (w : World) (h : evK.C w A l.length l) (h2 : evK.C w B l.length l) (hl : l.length ≤ 1048576) :
    Calls Tryz.prog 24 #[.slice A l.length c,.slice B l.length d] w fun e w' => e = .returned (.bool true)∧Below w.heap.size w w':=by
  have HB:=hR w;go_enter Tryz.func24,Tryz.ntmps24
  go_wp2
  go_loopw [5] (fun v4 wr => ∃ k : Nat,k ≤ l.length∧v4 = .int .i64 k∧Aside0 (Below w.heap.size w wr)) (fun v4 _ => l.length - (intOf v4).toNat)
  case atStart => exact ⟨0,Nat.zero_le _,rfl,HB⟩
  case round =>
    obtain ⟨k,hk,rfl,HB⟩:=hrel
    by_cases hlt : k < l.length
    · obtain ⟨x,ex⟩ : ∃ x,l.getD k ⟨0,false⟩ = x:=⟨_,rfl⟩
      obtain ⟨ad,rfl,ha0,ha1⟩:=evt_at h k (by omega) (by omega) ⟨0,false⟩
      rw [Int.toNat_natCast,ex] at ha0 ha1
      obtain ⟨ae,rfl,ga0,ga1⟩:=evt_at h2 k (by omega) (by omega) ⟨0,false⟩
      rw [Int.toNat_natCast,ex] at ga0 ga1
      have P0:=(HB.out.cell (World.block_lt_of_cell? w _ ha0)).trans ha0
      have R0:=(HB.out.cell (World.block_lt_of_cell? w _ ga0)).trans ga0
      have P1:=(HB.out.cell (World.block_lt_of_cell? w _ ha1)).trans ha1
      have R1:=(HB.out.cell (World.block_lt_of_cell? w _ ga1)).trans ga1
      rw [add_next] at P1 R1
      have HBr:=Aside0.mk (Below.refl wr.heap.size wr)
      have q0 : (0 : Int) ≤ (k : Int):=by omega
      have q1 : (k : Int) < (l.length : Int):=by omega
      clear ha0 ga0 ha1 ga1 ex h h2
      go_wp2_with fail
      go_region_held3 (fun w' => Below w.heap.size w w'∧Below wr.heap.size wr w'∧w'.cell? (ad.add (k * 2)) = some (.int .i64 (x.a))∧w'.cell? ⟨(ad.add (k * 2)).block,(ad.add (k * 2)).off+1,none⟩ = some (.bool (x.n))∧w'.cell? (ae.add (k * 2)) = some (.int .i64 (x.a))∧w'.cell? ⟨(ae.add (k * 2)).block,(ae.add (k * 2)).off+1,none⟩ = some (.bool (x.n))) (first | (go_keep;done) | (go_split_ands;(repeat' apply And.intro) <;> (first | (with_reducible assumption) | (go_simp;done) | (exact cell_keep blw (by assumption)) | exact blw))) (first | (go_at_call 70;((with_reducible refine (laws_eqEvent x _).mono ?_);rintro _ w1 ⟨rfl,hb⟩;have HB:=Aside0.mk (below_step (w:=w) blw hb);have HBr:=Aside0.mk (below_step (w:=wr) blw hb);have hz1:=hb.size;obtain ⟨hcl1,hfr1,hlt1,_⟩:=bcell hb;(try simp only [sA,sC,sD] at hz1);(try simp only [sA,sC,sD] at hcl1 hfr1 hlt1);have HB1:=hR w1;clear hb;have e0:=cell_keep HBr.out P0;have e1:=cell_keep HBr.out P1;have d0:=cell_keep HBr.out R0;have d1:=cell_keep HBr.out R1)))
      go_wp2
      exact ⟨⟨k+1,by omega,by go_num,⟨blw⟩⟩,by simp [intOf];omega⟩
    · go_wp2
      go_ret
      exact ⟨rfl,HB.out⟩
def mkE1 (k : Int) : Evt:=⟨k,(k+1) % 3 == 0⟩
set_option maxRecDepth 20000 in
set_option maxHeartbeats 600000 in
theorem laws_markEventS (base : Nat) (A : Option Addr) (c : Nat) (l : List Evt) (n : Int) (w : World) (h : OwnV w base (.slice A l.length c) l) (hl : l.length ≤ 1048576) (h0 : 0 ≤ n) (h1 : n ≤ 90000000) :
    Calls Tryz.prog 26 #[.slice A l.length c,.int .i64 n] w fun e w' => e = .returned (.int .i64 (n+2 * l.length))∧OwnV w' base (.slice A l.length c) (mkG mkE1 2 n l.length)∧w.grownBy w' (Value.slice A l.length c).ownBlock:=by
  have HB:=hR w;go_enter Tryz.func26,Tryz.ntmps26
  go_wp2
  go_loopw [1,5] (fun v1 v5 wr => ∃ k : Nat,k ≤ l.length∧v1 = .int .i64 (n+2 * k)∧v5 = .int .i64 k∧Aside0 (OwnV wr base (.slice A l.length c) (mkG mkE1 2 n k ++ l.drop k))∧Aside0 (w.grownBy wr (Value.slice A l.length c).ownBlock)) (fun _ v5 _ => l.length - (intOf v5).toNat)
  case atStart => exact ⟨0,Nat.zero_le _,by simp,rfl,⟨h⟩,⟨grown_refl _ _⟩⟩
  case round =>
    obtain ⟨k,hk,rfl,rfl,HO,HG⟩:=hrel
    by_cases hlt : k < l.length
    · obtain ⟨g,cap,eo,gb,gl,cl,HC⟩:=Kd.R_form HO.out (by simp [mkG_len];omega)
      injection eo with ea en ec
      subst ea ec
      obtain ⟨⟨c0,c1,q0,q1⟩,hf,HP,HQ⟩:=HO.out.put k hlt (mkE1 (n+2 * k))
      have f0 : wr.frozen? ⟨g,k * 2,none⟩ = false:=hf 0
      have f1:=hf 1
      have HP:=Aside0.mk HP
      have HQ:=Aside0.mk HQ
      clear hf en HC
      go_wp2_with fail
      exact ⟨⟨k+1,by omega,by go_num,by go_num,⟨by have:=HP.out;rw [mkG_set mkE1 2 l n k hlt] at this;exact this⟩,⟨HG.out.trans HQ.out⟩⟩,by simp [intOf];omega⟩
    · go_wp2
      go_ret
      have e : k = l.length:=by omega
      subst e
      exact ⟨rfl,by have:=HO.out;simpa using this,HG.out⟩
open Go.RowKit Go.Proofs.YtoncmhfmkfeolaaGreatDoorW.PrintWords
theorem laws_toEvent (c : Evt) (w : World) : Calls Tryz.prog 64 #[.agg #[.int .i64 c.a,.bool c.n]] w fun e w' => e = .returned (.agg #[.int .i64 c.a,.bool c.n])∧Below w.heap.size w w':=by
  have HB:=hR w;go_enter Tryz.func64,Tryz.ntmps64
  go_wp2
  (refine bodyPost_ret (v:=.agg #[.int .i64 c.a,.bool c.n]) (by (simp only [results,Tryz.results64];go_simp <;> (rfl))) rfl ?_)
  exact ⟨rfl,blw⟩
set_option maxRecDepth 20000 in
set_option maxHeartbeats 400000 in
theorem laws_toEventS (A : Option Addr) (n : Nat) (l : List Evt) (w : World) (h : evK.C w A l.length l) (hl : l.length ≤ 1048576) :
    Calls Tryz.prog 21 #[.slice A l.length n] w fun e w' => ∃ A1 c1,e = .returned (.slice A1 l.length c1)∧OwnV w' w.heap.size (.slice A1 l.length c1) l∧Below w.heap.size w w':=by
  have HB:=hR w;go_enter Tryz.func21,Tryz.ntmps21
  go_wp2_with (first | ((with_reducible refine gate_dst (N:=7) rfl ?_);refine Kd.R_make evK w.heap.size 91 rfl (N:=7) rfl 31 _ _ rfl (l.length : Int) rfl rfl Tryz.underlying31 (.agg #[.int .i64 0,.bool false]) 16 infoEvt rfl (by decide) (by omega) ⟨0,false⟩ (ok:=fun _ => True) (okp:=fun _ => True) ⟨[_],[_],rfl,rfl,rfl⟩ (fun _ hk => hk) trivial (by omega) (by omega) (Below.refl _ _) (Nat.le_refl _) ?_;intro v1 w1 ho hb hg hn))
  simp only [Int.toNat_natCast] at ho
  obtain ⟨A1,c1,rfl,hc1,hr1⟩:=Kd.R_reads ho
  simp only [List.length_replicate] at *
  have HA:=Aside0.mk ho
  have HB:=Aside0.mk hb
  clear hn hg hb ho hr1
  go_wp2
  go_loopw [4] (fun v4 wr => ∃ k : Nat,k ≤ l.length∧v4 = .int .i64 k∧Aside0 (OwnV wr w.heap.size (.slice A1 l.length c1) (l.take k ++ List.replicate (l.length - k) ⟨0,false⟩))∧Aside0 (Below w.heap.size w wr)) (fun v4 _ => l.length - (intOf v4).toNat)
  case atStart => exact ⟨0,Nat.zero_le _,rfl,⟨by have:=HA.out;simpa [OwnV] using this⟩,HB⟩
  case round =>
    obtain ⟨k,hk,rfl,HO,HB⟩:=hrel
    by_cases hlt : k < l.length
    · obtain ⟨ad,rfl,hx,hy⟩:=evt_at h k (by omega) (by omega) ⟨0,false⟩
      rw [Int.toNat_natCast] at hx hy
      obtain ⟨x,ex⟩ : ∃ x,l.getD k ⟨0,false⟩ = x:=⟨_,rfl⟩
      rw [ex] at hx hy
      have hx1:=(HB.out.cell (World.block_lt_of_cell? w _ hx)).trans hx
      have hy1:=(HB.out.cell (World.block_lt_of_cell? w _ hy)).trans hy
      rw [add_next] at hy1
      obtain ⟨g,cap,eo,gb,gl,cl,HG⟩:=Kd.R_form HO.out (by simp;omega)
      injection eo with ea en ec
      subst ea ec
      clear en
      go_wp2_with fail
      refine (laws_toEvent x wr).mono ?_
      rintro _ w2 ⟨rfl,hb⟩
      have HB:=Aside0.mk (below_step HB.out hb)
      have HO:=Aside0.mk (show OwnV _ _ _ _ from Kd.R_below HO.out hb)
      obtain ⟨⟨c0,c1,q0,q1⟩,hf,HP,_⟩:=HO.out.put k hlt x
      have f0 : w2.frozen? ⟨g,k * 2,none⟩ = false:=hf 0
      have f1:=hf 1
      clear hf
      have HP:=Aside0.mk HP
      go_wp2_with fail
      exact ⟨⟨k+1,by omega,by go_num,⟨by rw [← take_setG l _ k hlt,ex];exact HP.out⟩,⟨blw⟩⟩,by simp [intOf];omega⟩
    · go_wp2
      go_ret
      have e : k = l.length:=by omega
      subst e
      exact ⟨_,_,rfl,by have:=HO.out;simpa [List.take_length] using this,HB.out⟩
theorem laws_szEventS (A : Option Addr) (c : Nat) (m : Nat) (n : Int) (w : World) (hl : m ≤ 9223372036854775807) (h0 : 0 ≤ n) (h1 : n ≤ 1048576) :
    Calls Tryz.prog 18 #[.slice A m c,.int .i64 n] w fun e w' => e = .returned (.int .i64 (szF n m))∧w = w':=by
  by_cases h : n - m < 0
  · have HB:=hR w;go_enter Tryz.func18,Tryz.ntmps18
    go_wp2
    go_ret
    exact ⟨ret_of (by simp [szF,h]),rfl⟩
  · have HB:=hR w;go_enter Tryz.func18,Tryz.ntmps18
    go_wp2
    go_ret
    exact ⟨ret_of (by unfold szF;rw [if_neg (by omega)];rfl),rfl⟩
open Go.RowKit Go.Proofs.YtoncmhfmkfeolaaGreatDoorW.PrintWords
structure ShB (w : World) (Q : Rs) (x1 x3 x5 x7 : Option Addr) : Prop where
  m : Bs w x1 Q.m
  t : cycK.C w x3 Q.t.length Q.t
  st : (Kd.int .i64).C w x5 Q.st.length Q.st
  cs : cpuK.C w x7 Q.cs.length Q.cs
theorem ShB.below {w w1 : World} {Q : Rs} {x1 x3 x5 x7 : Option Addr} (h : ShB w Q x1 x3 x5 x7) (hb : Below w.heap.size w w1) : ShB w1 Q x1 x3 x5 x7 :=
  ⟨h.m.below hb,Kd.C_below h.t hb,Kd.C_below h.st hb,Kd.C_below h.cs hb⟩
set_option maxRecDepth 20000 in
set_option maxHeartbeats 1000000 in
theorem laws_eqShot (Q : Rs) (x1 x3 x5 x7 y1 y3 y5 y7 : Option Addr) (x2 x4 x6 x8 y2 y4 y6 y8 : Nat) (w : World) (h : ShB w Q x1 x3 x5 x7) (h2 : ShB w Q y1 y3 y5 y7) (hl : Q.m.length ≤ 1048576) (ht : Q.t.length ≤ 960) (hs : Q.st.length ≤ 120) (hc : Q.cs.length ≤ 120) :
    Calls Tryz.prog 22 #[.agg #[.int .u8 Q.c.A,.int .u8 Q.c.X,.int .u8 Q.c.Y,.int .u8 Q.c.S,.int .u16 Q.c.PC,.bool Q.c.F.N,.bool Q.c.F.V,.bool Q.c.F.D,.bool Q.c.F.I,.bool Q.c.F.Z,.bool Q.c.F.C,.slice x1 Q.m.length x2,.slice x3 Q.t.length x4,.slice x5 Q.st.length x6,.slice x7 Q.cs.length x8,.bool Q.jam],.agg #[.int .u8 Q.c.A,.int .u8 Q.c.X,.int .u8 Q.c.Y,.int .u8 Q.c.S,.int .u16 Q.c.PC,.bool Q.c.F.N,.bool Q.c.F.V,.bool Q.c.F.D,.bool Q.c.F.I,.bool Q.c.F.Z,.bool Q.c.F.C,.slice y1 Q.m.length y2,.slice y3 Q.t.length y4,.slice y5 Q.st.length y6,.slice y7 Q.cs.length y8,.bool Q.jam]] w fun e w' => e = .returned (.bool true)∧Below w.heap.size w w':=by
  have HB:=hR w;go_enter Tryz.func22,Tryz.ntmps22
  go_upto_region 1 with (fail)
  have K : Aside0 (Many ((w.alloc (.cells #[.int .u8 Q.c.A,.int .u8 Q.c.X,.int .u8 Q.c.Y,.int .u8 Q.c.S,.int .u16 Q.c.PC,.bool Q.c.F.N,.bool Q.c.F.V,.bool Q.c.F.D,.bool Q.c.F.I,.bool Q.c.F.Z,.bool Q.c.F.C,.slice x1 Q.m.length x2,.slice x3 Q.t.length x4,.slice x5 Q.st.length x6,.slice x7 Q.cs.length x8,.bool Q.jam] 38)).alloc (.cells #[.int .u8 Q.c.A,.int .u8 Q.c.X,.int .u8 Q.c.Y,.int .u8 Q.c.S,.int .u16 Q.c.PC,.bool Q.c.F.N,.bool Q.c.F.V,.bool Q.c.F.D,.bool Q.c.F.I,.bool Q.c.F.Z,.bool Q.c.F.C,.slice y1 Q.m.length y2,.slice y3 Q.t.length y4,.slice y5 Q.st.length y6,.slice y7 Q.cs.length y8,.bool Q.jam] 38)) [(w.heap.size,#[.int .u8 Q.c.A,.int .u8 Q.c.X,.int .u8 Q.c.Y,.int .u8 Q.c.S,.int .u16 Q.c.PC,.bool Q.c.F.N,.bool Q.c.F.V,.bool Q.c.F.D,.bool Q.c.F.I,.bool Q.c.F.Z,.bool Q.c.F.C,.slice x1 Q.m.length x2,.slice x3 Q.t.length x4,.slice x5 Q.st.length x6,.slice x7 Q.cs.length x8,.bool Q.jam],38),(w.heap.size+1,#[.int .u8 Q.c.A,.int .u8 Q.c.X,.int .u8 Q.c.Y,.int .u8 Q.c.S,.int .u16 Q.c.PC,.bool Q.c.F.N,.bool Q.c.F.V,.bool Q.c.F.D,.bool Q.c.F.I,.bool Q.c.F.Z,.bool Q.c.F.C,.slice y1 Q.m.length y2,.slice y3 Q.t.length y4,.slice y5 Q.st.length y6,.slice y7 Q.cs.length y8,.bool Q.jam],38)]):=⟨Many.cons ((Blk.at rfl).alloc _) (Many.cons (Blk.at (by simp)) (Many.nil _))⟩
  have HB : Aside0 (Below w.heap.size w ((w.alloc (.cells #[.int .u8 Q.c.A,.int .u8 Q.c.X,.int .u8 Q.c.Y,.int .u8 Q.c.S,.int .u16 Q.c.PC,.bool Q.c.F.N,.bool Q.c.F.V,.bool Q.c.F.D,.bool Q.c.F.I,.bool Q.c.F.Z,.bool Q.c.F.C,.slice x1 Q.m.length x2,.slice x3 Q.t.length x4,.slice x5 Q.st.length x6,.slice x7 Q.cs.length x8,.bool Q.jam] 38)).alloc (.cells #[.int .u8 Q.c.A,.int .u8 Q.c.X,.int .u8 Q.c.Y,.int .u8 Q.c.S,.int .u16 Q.c.PC,.bool Q.c.F.N,.bool Q.c.F.V,.bool Q.c.F.D,.bool Q.c.F.I,.bool Q.c.F.Z,.bool Q.c.F.C,.slice y1 Q.m.length y2,.slice y3 Q.t.length y4,.slice y5 Q.st.length y6,.slice y7 Q.cs.length y8,.bool Q.jam] 38))):=⟨blw⟩
  generalize (w.alloc (.cells #[.int .u8 Q.c.A,.int .u8 Q.c.X,.int .u8 Q.c.Y,.int .u8 Q.c.S,.int .u16 Q.c.PC,.bool Q.c.F.N,.bool Q.c.F.V,.bool Q.c.F.D,.bool Q.c.F.I,.bool Q.c.F.Z,.bool Q.c.F.C,.slice x1 Q.m.length x2,.slice x3 Q.t.length x4,.slice x5 Q.st.length x6,.slice x7 Q.cs.length x8,.bool Q.jam] 38)).alloc (.cells #[.int .u8 Q.c.A,.int .u8 Q.c.X,.int .u8 Q.c.Y,.int .u8 Q.c.S,.int .u16 Q.c.PC,.bool Q.c.F.N,.bool Q.c.F.V,.bool Q.c.F.D,.bool Q.c.F.I,.bool Q.c.F.Z,.bool Q.c.F.C,.slice y1 Q.m.length y2,.slice y3 Q.t.length y4,.slice y5 Q.st.length y6,.slice y7 Q.cs.length y8,.bool Q.jam] 38) = w1 at *
  obtain ⟨p0,p1,p2,p3,p4,p5,p6,p7,p8,p9,p10,p11,p12,p13,p14,p15⟩:=cells16 (K.out.at 0 rfl)
  obtain ⟨q0,q1,q2,q3,q4,q5,q6,q7,q8,q9,q10,q11,q12,q13,q14,q15⟩:=cells16 (K.out.at 1 rfl)
  go_wp2_with fail
  refine Calls.mono (laws_eqCpu Q.c _) ?_
  rintro _ w2 ⟨rfl,hb⟩
  (replace K:=Aside0.mk (K.out.below hb);replace HB:=Aside0.mk (below_step HB.out hb);clear hb p0 p1 p2 p3 p4 p5 p6 p7 p8 p9 p10 p11 p12 p13 p14 p15 q0 q1 q2 q3 q4 q5 q6 q7 q8 q9 q10 q11 q12 q13 q14 q15)
  obtain ⟨p0,p1,p2,p3,p4,p5,p6,p7,p8,p9,p10,p11,p12,p13,p14,p15⟩:=cells16 (K.out.at 0 rfl)
  obtain ⟨q0,q1,q2,q3,q4,q5,q6,q7,q8,q9,q10,q11,q12,q13,q14,q15⟩:=cells16 (K.out.at 1 rfl)
  go_wp2_with fail
  refine Calls.mono (laws_eqRam _ _ _ _ _ _ (h.below HB.out).m (h2.below HB.out).m hl) ?_
  rintro _ w3 ⟨rfl,hb⟩
  (replace K:=Aside0.mk (K.out.below hb);replace HB:=Aside0.mk (below_step HB.out hb);clear hb p0 p1 p2 p3 p4 p5 p6 p7 p8 p9 p10 p11 p12 p13 p14 p15 q0 q1 q2 q3 q4 q5 q6 q7 q8 q9 q10 q11 q12 q13 q14 q15)
  obtain ⟨p0,p1,p2,p3,p4,p5,p6,p7,p8,p9,p10,p11,p12,p13,p14,p15⟩:=cells16 (K.out.at 0 rfl)
  obtain ⟨q0,q1,q2,q3,q4,q5,q6,q7,q8,q9,q10,q11,q12,q13,q14,q15⟩:=cells16 (K.out.at 1 rfl)
  go_wp2_with fail
  refine Calls.mono (laws_eqCycS _ _ _ _ _ _ (h.below HB.out).t (h2.below HB.out).t (by omega)) ?_
  rintro _ w4 ⟨rfl,hb⟩
  (replace K:=Aside0.mk (K.out.below hb);replace HB:=Aside0.mk (below_step HB.out hb);clear hb p0 p1 p2 p3 p4 p5 p6 p7 p8 p9 p10 p11 p12 p13 p14 p15 q0 q1 q2 q3 q4 q5 q6 q7 q8 q9 q10 q11 q12 q13 q14 q15)
  obtain ⟨p0,p1,p2,p3,p4,p5,p6,p7,p8,p9,p10,p11,p12,p13,p14,p15⟩:=cells16 (K.out.at 0 rfl)
  obtain ⟨q0,q1,q2,q3,q4,q5,q6,q7,q8,q9,q10,q11,q12,q13,q14,q15⟩:=cells16 (K.out.at 1 rfl)
  go_wp2_with fail
  refine Calls.mono (laws_eqIntS _ _ _ _ _ _ (h.below HB.out).st (h2.below HB.out).st (by omega)) ?_
  rintro _ w5 ⟨rfl,hb⟩
  (replace K:=Aside0.mk (K.out.below hb);replace HB:=Aside0.mk (below_step HB.out hb);clear hb p0 p1 p2 p3 p4 p5 p6 p7 p8 p9 p10 p11 p12 p13 p14 p15 q0 q1 q2 q3 q4 q5 q6 q7 q8 q9 q10 q11 q12 q13 q14 q15)
  obtain ⟨p0,p1,p2,p3,p4,p5,p6,p7,p8,p9,p10,p11,p12,p13,p14,p15⟩:=cells16 (K.out.at 0 rfl)
  obtain ⟨q0,q1,q2,q3,q4,q5,q6,q7,q8,q9,q10,q11,q12,q13,q14,q15⟩:=cells16 (K.out.at 1 rfl)
  go_wp2_with fail
  refine Calls.mono (laws_eqCpuS _ _ _ _ _ _ (h.below HB.out).cs (h2.below HB.out).cs (by omega)) ?_
  rintro _ w6 ⟨rfl,hb⟩
  (replace K:=Aside0.mk (K.out.below hb);replace HB:=Aside0.mk (below_step HB.out hb);clear hb p0 p1 p2 p3 p4 p5 p6 p7 p8 p9 p10 p11 p12 p13 p14 p15 q0 q1 q2 q3 q4 q5 q6 q7 q8 q9 q10 q11 q12 q13 q14 q15)
  obtain ⟨p0,p1,p2,p3,p4,p5,p6,p7,p8,p9,p10,p11,p12,p13,p14,p15⟩:=cells16 (K.out.at 0 rfl)
  obtain ⟨q0,q1,q2,q3,q4,q5,q6,q7,q8,q9,q10,q11,q12,q13,q14,q15⟩:=cells16 (K.out.at 1 rfl)
  go_wp2_with fail
  go_ret
  exact ⟨rfl,HB.out⟩
def OwnZ (w : World) (lo hi : Nat) (v : Value) (l : List Int) : Prop:=Kd.R (Kd.int .i64) 3 w lo (fun k => k < hi) v l
def OwnQ (w : World) (lo hi : Nat) (v : Value) (l : List Cpu) : Prop:=Kd.R cpuK 28 w lo (fun k => k < hi) v l
def OwnW (w : World) (lo hi : Nat) (v : Value) (l : List Evt) : Prop:=Kd.R evK 91 w lo (fun k => k < hi) v l
theorem R_grownT {α : Type} {d : Kd α} {e : Nat} {w w' : World} {lo hi : Nat} {v : Value} {xs : List α} {t : TypeId} {row : Option Nat} (h : d.R e w lo (fun k => k < hi) v xs) (hg : w.grownBy w' row) (hr : ∀ k,row = some k → ∃ cells,w.heap[k]? = some (.cells cells t (0,0))) (hne : t ∉ e::d.E) : d.R e w' lo (fun k => k < hi) v xs :=
  Kd.R_mono (Kd.R_grown (Kd.R_bound h) hg (fun k hk q => by
    obtain ⟨c1,h1⟩:=hr k q.symm
    obtain ⟨y,hy,c2,h2⟩:=hk.2.2.2
    rw [h1] at h2
    injection h2 with h2
    injection h2 with _ h2 _
    subst h2
    exact hne hy)) (fun _ hk => hk.1)
theorem R_grownR {α : Type} {d : Kd α} {e : Nat} {w w' : World} {lo hi : Nat} {v : Value} {xs : List α} {row : Option Nat} (h : d.R e w lo (fun k => k < hi) v xs) (hg : w.grownBy w' row) (hr : ∀ k,row = some k → k < lo ∨ hi ≤ k) : d.R e w' lo (fun k => k < hi) v xs :=
  Kd.R_mono (Kd.R_grown (Kd.R_bound h) hg (fun k hk q => by have:=hr k q.symm;have:=hk.1;have:=hk.2.1;omega)) (fun _ hk => hk.1)
theorem R_range {α : Type} {d : Kd α} {e : Nat} {w : World} {lo : Nat} {v : Value} {xs : List α} (h : d.R e w lo (fun _ => True) v xs) : d.R e w lo (fun k => k < w.heap.size) v xs:=Kd.R_mono (Kd.R_bound h) (fun _ hk => hk.2.2.1)
theorem R_all {α : Type} {d : Kd α} {e : Nat} {w : World} {lo hi : Nat} {v : Value} {xs : List α} (h : d.R e w lo (fun k => k < hi) v xs) : d.R e w lo (fun _ => True) v xs:=Kd.R_mono h (fun _ _ => trivial)
theorem R_row {α : Type} {d : Kd α} {e : Nat} {w : World} {lo hi : Nat} {v : Value} {xs : List α} (h : d.R e w lo (fun k => k < hi) v xs) : ∀ k,v.ownBlock = some k → lo ≤ k∧k < hi:=fun k q => ⟨Kd.R_base h k q,h.1 k q⟩
theorem R_typ {α : Type} {d : Kd α} {e : Nat} {w : World} {lo : Nat} {ok : Nat → Prop} {v : Value} {xs : List α} (h : d.R e w lo ok v xs) : ∀ k,v.ownBlock = some k → ∃ cells,w.heap[k]? = some (.cells cells e (0,0)):=fun k q => by obtain ⟨_,_,ho,_⟩:=h;exact own_typed ho k q
structure ShX (w : World) (lo hi : Nat) (Q : Rs) (x1 : Option Addr) (x2 : Nat) (x3 : Option Addr) (x4 : Nat) (x5 : Option Addr) (x6 : Nat) (x7 : Option Addr) (x8 : Nat) : Prop where
  m : OwnX w lo hi (.slice x1 Q.m.length x2) Q.m
  t : OwnY w lo hi (.slice x3 Q.t.length x4) Q.t
  st : OwnZ w lo hi (.slice x5 Q.st.length x6) Q.st
  cs : OwnQ w lo hi (.slice x7 Q.cs.length x8) Q.cs
section
variable {w w' : World} {lo hi : Nat} {Q : Rs} {x1 x3 x5 x7 : Option Addr} {x2 x4 x6 x8 : Nat}
theorem ShX.below (h : ShX w lo hi Q x1 x2 x3 x4 x5 x6 x7 x8) (hb : Below w.heap.size w w') : ShX w' lo hi Q x1 x2 x3 x4 x5 x6 x7 x8:=⟨h.m.below hb,h.t.below hb,Kd.R_below h.st hb,Kd.R_below h.cs hb⟩
theorem ShX.grown (h : ShX w lo hi Q x1 x2 x3 x4 x5 x6 x7 x8) {row : Option Nat} (hg : w.grownBy w' row) (hr : ∀ k,row = some k → k < lo ∨ hi ≤ k) : ShX w' lo hi Q x1 x2 x3 x4 x5 x6 x7 x8:=⟨h.m.grown hg hr,h.t.grown hg hr,R_grownR h.st hg hr,R_grownR h.cs hg hr⟩
theorem ShX.b (h : ShX w lo hi Q x1 x2 x3 x4 x5 x6 x7 x8) (hm : ∀ i,0 ≤ rd Q.m i∧rd Q.m i < 256) : ShB w Q x1 x3 x5 x7:=⟨h.m.b.bs hm,(Kd.R_reads' h.t).2.2,(Kd.R_reads' h.st).2.2,(Kd.R_reads' h.cs).2.2⟩
theorem ShX.of (h1 : OwnB w lo (.slice x1 Q.m.length x2) Q.m) (h2 : OwnC w lo (.slice x3 Q.t.length x4) Q.t) (h3 : OwnI w lo (.slice x5 Q.st.length x6) Q.st) (h4 : OwnP w lo (.slice x7 Q.cs.length x8) Q.cs) : ShX w lo w.heap.size Q x1 x2 x3 x4 x5 x6 x7 x8:=⟨OwnX.of h1,OwnY.of h2,R_range h3,R_range h4⟩
end
def mkQ (Q : Rs) : Rs:=⟨Q.c,mkB 1 Q.m.length,mkC (1+Q.m.length) Q.t.length,mkI (1+Q.m.length+3 * Q.t.length) Q.st.length,mkG mkP1 11 (1+Q.m.length+3 * Q.t.length+Q.st.length) Q.cs.length,Q.jam⟩
def mkN (Q : Rs) : Int:=1+Q.m.length+3 * Q.t.length+Q.st.length+11 * Q.cs.length
def RT : List TypeId:=[5,70,3,28,91]
structure Tch (w w' : World) (lo hi : Nat) : Prop where
  below : ∀ (B : Nat) (a : World),Below B a w → B ≤ lo → B ≤ w.heap.size → Below B a w'
  keep : ∀ k,k < w.heap.size → (k < lo ∨ hi ≤ k) → w'.heap[k]? = w.heap[k]?
  kept : ∀ (k : Nat) (cs : Array Value) (t : TypeId),w.heap[k]? = some (Obj.cells cs t (0,0)) → t ∉ RT → w'.heap[k]? = w.heap[k]?
  size : w.heap.size ≤ w'.heap.size
theorem Tch.of_grown {w w' : World} {lo hi : Nat} {row : Option Nat} {t : TypeId} (hg : w.grownBy w' row) (hr : ∀ k,row = some k → lo ≤ k∧k < hi) (hy : ∀ k,row = some k → ∃ cells,w.heap[k]? = some (.cells cells t (0,0))) (ht : t ∈ RT) : Tch w w' lo hi :=
  ⟨fun _ _ h h1 h2 => Below.mark h hg hr h1 h2,fun k hk hd => hg.block k hk (fun q => by have:=hr k q.symm;omega),fun k cs u hk hu => hg.block k (blk_lt hk) (fun q => by
    obtain ⟨c1,h1⟩:=hy k q.symm
    rw [h1] at hk
    injection hk with hk
    injection hk with _ hk _
    subst hk
    exact hu ht),hg.size⟩
theorem Tch.of_below {w w' : World} (lo hi : Nat) (hb : Below w.heap.size w w') : Tch w w' lo hi:=⟨fun B a h _ h2 => Below.trans h (hb.mono h2),fun k hk _ => hb.block k hk,fun k _ _ hk _ => hb.block k (blk_lt hk),hb.size⟩
theorem Tch.trans {w w1 w2 : World} {lo hi : Nat} (h : Tch w w1 lo hi) (k : Tch w1 w2 lo hi) : Tch w w2 lo hi :=
  ⟨fun B a hb h1 h2 => k.below B a (h.below B a hb h1 h2) h1 (Nat.le_trans h2 h.size),fun i hi hd => (k.keep i (Nat.lt_of_lt_of_le hi h.size) hd).trans (h.keep i hi hd),fun i cs t hi ht => (k.kept i cs t ((h.kept i cs t hi ht).trans hi) ht).trans (h.kept i cs t hi ht),Nat.le_trans h.size k.size⟩
theorem R_tch {α : Type} {d : Kd α} {e : Nat} {w w' : World} {lo hi a b : Nat} {v : Value} {xs : List α} (h : d.R e w lo (fun k => k < hi) v xs) (T : Tch w w' a b) (hd : hi ≤ a ∨ b ≤ lo) : d.R e w' lo (fun k => k < hi) v xs :=
  Kd.R_mono (Kd.R_step (Kd.R_bound h) (fun k hk _ => T.keep k hk.2.2.1 (by have:=hk.1;have:=hk.2.1;omega))) (fun _ hk => hk.1)
theorem ShX.tch {w w' : World} {lo hi a b : Nat} {Q : Rs} {x1 x3 x5 x7 : Option Addr} {x2 x4 x6 x8 : Nat} (h : ShX w lo hi Q x1 x2 x3 x4 x5 x6 x7 x8) (T : Tch w w' a b) (hd : hi ≤ a ∨ b ≤ lo) : ShX w' lo hi Q x1 x2 x3 x4 x5 x6 x7 x8 :=
  ⟨R_tch h.m T hd,R_tch h.t T hd,R_tch h.st T hd,R_tch h.cs T hd⟩
theorem Many.tch {w w' : World} {L : List (Nat × Array Value × TypeId)} {a b : Nat} (k : Many w L) (T : Tch w w' a b) (hd : ∀ x ∈ L,x.2.2 ∉ RT) : Many w' L:=fun x hx => (T.kept x.1 x.2.1 x.2.2 (k x hx) (hd x hx)).trans (k x hx)
set_option maxRecDepth 20000 in
set_option maxHeartbeats 1000000 in
theorem laws_markShot (lo hi : Nat) (Q : Rs) (x1 x3 x5 x7 : Option Addr) (x2 x4 x6 x8 : Nat) (w : World) (h : ShX w lo hi Q x1 x2 x3 x4 x5 x6 x7 x8) (hh : hi ≤ w.heap.size) (hl : Q.m.length ≤ 1048576) (ht : Q.t.length ≤ 960) (hs : Q.st.length ≤ 120) (hc : Q.cs.length ≤ 120) :
    Calls Tryz.prog 27 #[.agg #[.int .u8 Q.c.A,.int .u8 Q.c.X,.int .u8 Q.c.Y,.int .u8 Q.c.S,.int .u16 Q.c.PC,.bool Q.c.F.N,.bool Q.c.F.V,.bool Q.c.F.D,.bool Q.c.F.I,.bool Q.c.F.Z,.bool Q.c.F.C,.slice x1 Q.m.length x2,.slice x3 Q.t.length x4,.slice x5 Q.st.length x6,.slice x7 Q.cs.length x8,.bool Q.jam],.int .i64 1] w fun e w' => e = .returned (.int .i64 (mkN Q)) ∧
      OwnX w' lo hi (.slice x1 Q.m.length x2) (mkQ Q).m∧OwnY w' lo hi (.slice x3 Q.t.length x4) (mkQ Q).t∧OwnZ w' lo hi (.slice x5 Q.st.length x6) (mkQ Q).st∧OwnQ w' lo hi (.slice x7 Q.cs.length x8) (mkQ Q).cs∧Tch w w' lo hi:=by
  have HB:=hR w;go_enter Tryz.func27,Tryz.ntmps27
  go_upto_region 1 with (fail)
  have hb : Below w.heap.size w (w.alloc (.cells #[.int .u8 Q.c.A,.int .u8 Q.c.X,.int .u8 Q.c.Y,.int .u8 Q.c.S,.int .u16 Q.c.PC,.bool Q.c.F.N,.bool Q.c.F.V,.bool Q.c.F.D,.bool Q.c.F.I,.bool Q.c.F.Z,.bool Q.c.F.C,.slice x1 Q.m.length x2,.slice x3 Q.t.length x4,.slice x5 Q.st.length x6,.slice x7 Q.cs.length x8,.bool Q.jam] 38)):=blw
  have K : Aside0 (Many (w.alloc (.cells #[.int .u8 Q.c.A,.int .u8 Q.c.X,.int .u8 Q.c.Y,.int .u8 Q.c.S,.int .u16 Q.c.PC,.bool Q.c.F.N,.bool Q.c.F.V,.bool Q.c.F.D,.bool Q.c.F.I,.bool Q.c.F.Z,.bool Q.c.F.C,.slice x1 Q.m.length x2,.slice x3 Q.t.length x4,.slice x5 Q.st.length x6,.slice x7 Q.cs.length x8,.bool Q.jam] 38)) [(w.heap.size,#[.int .u8 Q.c.A,.int .u8 Q.c.X,.int .u8 Q.c.Y,.int .u8 Q.c.S,.int .u16 Q.c.PC,.bool Q.c.F.N,.bool Q.c.F.V,.bool Q.c.F.D,.bool Q.c.F.I,.bool Q.c.F.Z,.bool Q.c.F.C,.slice x1 Q.m.length x2,.slice x3 Q.t.length x4,.slice x5 Q.st.length x6,.slice x7 Q.cs.length x8,.bool Q.jam],38)]):=⟨Many.cons (Blk.at rfl) (Many.nil _)⟩
  have H:=Aside0.mk (h.below hb)
  have T:=Aside0.mk (Tch.of_below lo hi hb)
  clear hb HB
  generalize w.alloc (.cells #[.int .u8 Q.c.A,.int .u8 Q.c.X,.int .u8 Q.c.Y,.int .u8 Q.c.S,.int .u16 Q.c.PC,.bool Q.c.F.N,.bool Q.c.F.V,.bool Q.c.F.D,.bool Q.c.F.I,.bool Q.c.F.Z,.bool Q.c.F.C,.slice x1 Q.m.length x2,.slice x3 Q.t.length x4,.slice x5 Q.st.length x6,.slice x7 Q.cs.length x8,.bool Q.jam] 38) = w1 at *
  obtain ⟨H1,H2,H3,H4⟩:=H.out
  clear H h
  obtain ⟨p0,p1,p2,p3,p4,p5,p6,p7,p8,p9,p10,p11,p12,p13,p14,p15⟩:=cells16 (K.out.at 0 rfl)
  go_wp2_with fail
  refine Calls.mono (laws_markRam lo x1 x2 Q.m 1 _ H1.b hl (by omega) (by omega)) ?_
  rintro _ w2 ⟨rfl,ho,hg⟩
  replace T:=Aside0.mk (T.out.trans (Tch.of_grown hg H1.row H1.typed (by decide)))
  replace K:=Aside0.mk (K.out.grown hg (by intro y hy q;simp at hy;subst hy;have:=H1.row _ q.symm;simp at this;omega))
  replace H2:=H2.grownT hg H1.typed
  replace H3:=R_grownT H3 hg H1.typed (by decide)
  replace H4:=R_grownT H4 hg H1.typed (by decide)
  replace H1 : OwnX w2 lo hi (.slice x1 Q.m.length x2) (mkB 1 Q.m.length):=⟨fun k e => H1.1 k e,ho.2⟩
  clear ho hg p0 p1 p2 p3 p4 p5 p6 p7 p8 p9 p10 p11 p12 p13 p14 p15
  obtain ⟨p0,p1,p2,p3,p4,p5,p6,p7,p8,p9,p10,p11,p12,p13,p14,p15⟩:=cells16 (K.out.at 0 rfl)
  go_wp2_with fail
  refine Calls.mono (laws_markCycS lo x3 x4 Q.t (1+Q.m.length) _ H2.b (by omega) (by omega) (by omega)) ?_
  rintro _ w3 ⟨rfl,ho,hg⟩
  replace T:=Aside0.mk (T.out.trans (Tch.of_grown hg H2.row H2.typed (by decide)))
  replace K:=Aside0.mk (K.out.grown hg (by intro y hy q;simp at hy;subst hy;have:=H2.row _ q.symm;simp at this;omega))
  replace H1:=H1.grownT hg H2.typed
  replace H3:=R_grownT H3 hg H2.typed (by decide)
  replace H4:=R_grownT H4 hg H2.typed (by decide)
  replace H2 : OwnY w3 lo hi (.slice x3 Q.t.length x4) (mkC (1+Q.m.length) Q.t.length):=⟨fun k e => H2.1 k e,ho.2⟩
  clear ho hg p0 p1 p2 p3 p4 p5 p6 p7 p8 p9 p10 p11 p12 p13 p14 p15
  obtain ⟨p0,p1,p2,p3,p4,p5,p6,p7,p8,p9,p10,p11,p12,p13,p14,p15⟩:=cells16 (K.out.at 0 rfl)
  go_wp2_with fail
  refine Calls.mono (laws_markIntS lo x5 x6 Q.st (1+Q.m.length+3 * Q.t.length) _ (R_all H3) (by omega) (by omega) (by omega)) ?_
  rintro _ w4 ⟨rfl,ho,hg⟩
  replace T:=Aside0.mk (T.out.trans (Tch.of_grown hg (R_row H3) (R_typ H3) (by decide)))
  replace K:=Aside0.mk (K.out.grown hg (by intro y hy q;simp at hy;subst hy;have:=R_row H3 _ q.symm;simp at this;omega))
  replace H1:=R_grownT H1 hg (R_typ H3) (by decide)
  replace H2:=R_grownT H2 hg (R_typ H3) (by decide)
  replace H4:=R_grownT H4 hg (R_typ H3) (by decide)
  replace H3 : OwnZ w4 lo hi (.slice x5 Q.st.length x6) (mkI (1+Q.m.length+3 * Q.t.length) Q.st.length):=⟨fun k e => H3.1 k e,ho.2⟩
  clear ho hg p0 p1 p2 p3 p4 p5 p6 p7 p8 p9 p10 p11 p12 p13 p14 p15
  obtain ⟨p0,p1,p2,p3,p4,p5,p6,p7,p8,p9,p10,p11,p12,p13,p14,p15⟩:=cells16 (K.out.at 0 rfl)
  go_wp2_with fail
  refine Calls.mono (laws_markCpuS lo x7 x8 Q.cs (1+Q.m.length+3 * Q.t.length+Q.st.length) _ (R_all H4) (by omega) (by omega) (by omega)) ?_
  rintro _ w5 ⟨rfl,ho,hg⟩
  replace T:=Aside0.mk (T.out.trans (Tch.of_grown hg (R_row H4) (R_typ H4) (by decide)))
  replace H1:=R_grownT H1 hg (R_typ H4) (by decide)
  replace H2:=R_grownT H2 hg (R_typ H4) (by decide)
  replace H3:=R_grownT H3 hg (R_typ H4) (by decide)
  replace H4 : OwnQ w5 lo hi (.slice x7 Q.cs.length x8) (mkG mkP1 11 (1+Q.m.length+3 * Q.t.length+Q.st.length) Q.cs.length):=⟨fun k e => H4.1 k e,ho.2⟩
  go_wp2_with fail
  go_ret
  exact ⟨rfl,H1,H2,H3,H4,T.out⟩
set_option maxRecDepth 20000 in
set_option maxHeartbeats 1000000 in
theorem laws_heldShot (Q : Rs) (x1 x3 x5 x7 : Option Addr) (x2 x4 x6 x8 : Nat) (w : World) (h1 : Bs w x1 (mkB 1 Q.m.length)) (h2 : cycK.C w x3 Q.t.length (mkC (1+Q.m.length) Q.t.length)) (h3 : (Kd.int .i64).C w x5 Q.st.length (mkI (1+Q.m.length+3 * Q.t.length) Q.st.length))
    (h4 : cpuK.C w x7 Q.cs.length (mkG mkP1 11 (1+Q.m.length+3 * Q.t.length+Q.st.length) Q.cs.length)) (hl : Q.m.length ≤ 1048576) (ht : Q.t.length ≤ 960) (hs : Q.st.length ≤ 120) (hc : Q.cs.length ≤ 120) :
    Calls Tryz.prog 28 #[.agg #[.int .u8 Q.c.A,.int .u8 Q.c.X,.int .u8 Q.c.Y,.int .u8 Q.c.S,.int .u16 Q.c.PC,.bool Q.c.F.N,.bool Q.c.F.V,.bool Q.c.F.D,.bool Q.c.F.I,.bool Q.c.F.Z,.bool Q.c.F.C,.slice x1 Q.m.length x2,.slice x3 Q.t.length x4,.slice x5 Q.st.length x6,.slice x7 Q.cs.length x8,.bool Q.jam],.int .i64 1] w fun e w' => e = .returned (.int .i64 (mkN Q))∧Below w.heap.size w w':=by
  have HB:=hR w;go_enter Tryz.func28,Tryz.ntmps28
  go_upto_region 1 with (fail)
  have K : Aside0 (Many (w.alloc (.cells #[.int .u8 Q.c.A,.int .u8 Q.c.X,.int .u8 Q.c.Y,.int .u8 Q.c.S,.int .u16 Q.c.PC,.bool Q.c.F.N,.bool Q.c.F.V,.bool Q.c.F.D,.bool Q.c.F.I,.bool Q.c.F.Z,.bool Q.c.F.C,.slice x1 Q.m.length x2,.slice x3 Q.t.length x4,.slice x5 Q.st.length x6,.slice x7 Q.cs.length x8,.bool Q.jam] 38)) [(w.heap.size,#[.int .u8 Q.c.A,.int .u8 Q.c.X,.int .u8 Q.c.Y,.int .u8 Q.c.S,.int .u16 Q.c.PC,.bool Q.c.F.N,.bool Q.c.F.V,.bool Q.c.F.D,.bool Q.c.F.I,.bool Q.c.F.Z,.bool Q.c.F.C,.slice x1 Q.m.length x2,.slice x3 Q.t.length x4,.slice x5 Q.st.length x6,.slice x7 Q.cs.length x8,.bool Q.jam],38)]):=⟨Many.cons (Blk.at rfl) (Many.nil _)⟩
  replace HB : Aside0 (Below w.heap.size w (w.alloc (.cells #[.int .u8 Q.c.A,.int .u8 Q.c.X,.int .u8 Q.c.Y,.int .u8 Q.c.S,.int .u16 Q.c.PC,.bool Q.c.F.N,.bool Q.c.F.V,.bool Q.c.F.D,.bool Q.c.F.I,.bool Q.c.F.Z,.bool Q.c.F.C,.slice x1 Q.m.length x2,.slice x3 Q.t.length x4,.slice x5 Q.st.length x6,.slice x7 Q.cs.length x8,.bool Q.jam] 38))):=⟨blw⟩
  generalize w.alloc (.cells #[.int .u8 Q.c.A,.int .u8 Q.c.X,.int .u8 Q.c.Y,.int .u8 Q.c.S,.int .u16 Q.c.PC,.bool Q.c.F.N,.bool Q.c.F.V,.bool Q.c.F.D,.bool Q.c.F.I,.bool Q.c.F.Z,.bool Q.c.F.C,.slice x1 Q.m.length x2,.slice x3 Q.t.length x4,.slice x5 Q.st.length x6,.slice x7 Q.cs.length x8,.bool Q.jam] 38) = w1 at *
  obtain ⟨p0,p1,p2,p3,p4,p5,p6,p7,p8,p9,p10,p11,p12,p13,p14,p15⟩:=cells16 (K.out.at 0 rfl)
  go_wp2_with fail
  refine Calls.mono (laws_heldRam x1 x2 Q.m.length 1 _ (h1.below HB.out) hl (by omega) (by omega)) ?_
  rintro _ w2 ⟨rfl,hb⟩
  (replace K:=Aside0.mk (K.out.below hb);replace HB:=Aside0.mk (below_step HB.out hb);clear hb p0 p1 p2 p3 p4 p5 p6 p7 p8 p9 p10 p11 p12 p13 p14 p15)
  obtain ⟨p0,p1,p2,p3,p4,p5,p6,p7,p8,p9,p10,p11,p12,p13,p14,p15⟩:=cells16 (K.out.at 0 rfl)
  go_wp2_with fail
  refine Calls.mono (laws_heldCycS x3 x4 Q.t.length (1+Q.m.length) _ (Kd.C_below h2 HB.out) (by omega) (by omega) (by omega)) ?_
  rintro _ _ ⟨rfl,rfl⟩
  go_wp2_with fail
  refine Calls.mono (laws_heldIntS x5 x6 Q.st.length (1+Q.m.length+3 * Q.t.length) _ (Kd.C_below h3 HB.out) (by omega) (by omega) (by omega)) ?_
  rintro _ _ ⟨rfl,rfl⟩
  go_wp2_with fail
  refine Calls.mono (laws_heldCpuS x7 x8 Q.cs.length (1+Q.m.length+3 * Q.t.length+Q.st.length) _ (Kd.C_below h4 HB.out) (by omega) (by omega) (by omega)) ?_
  rintro _ _ ⟨rfl,rfl⟩
  go_wp2_with fail
  go_ret
  exact ⟨rfl,HB.out⟩
end Go.Proofs.YtoncmhfmkfeolaaGreatDoor
