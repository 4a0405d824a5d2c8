/- More drawing of a law's inputs: bytes, operations, counters of the program, memories. -/
import Derived.Test.YtoncmhfmkfeolaaGreatDoorGD
import Derived.Test.YtoncmhfmkfeolaaGreatDoorGB
import Derived.Test.YtoncmhfmkfeolaaGreatDoorGA
set_option linter.unusedVariables false
set_option linter.unusedSimpArgs false
namespace Go.Proofs.YtoncmhfmkfeolaaGreatDoor
open Go.RowKit Go.Proofs.YtoncmhfmkfeolaaGreatDoorW.PrintWords
theorem w8d (x : Int) : 0 ≤ IntKind.u8.wrap x∧IntKind.u8.wrap x < 256:=by rw [IntKind.wrap_u8];omega
theorem grown_al {a b : World} {row : Option Nat} (o : Obj) (h : (a.alloc o).grownBy b row) : a.grownBy b row:=(World.grownBy_alloc a o row).trans h
theorem spec_l01Once (g : Nat) (A : Option Addr) (c : Nat) (l : List Int) (n : Int) (w : World) (h : Cur w g A c l) (hl : l.length ≤ 1048576) (h0 : 0 ≤ n) (h1 : n ≤ 2147483648) :
    Calls Tryz.prog 44 #[.pointer (some ⟨g,0,none⟩),.int .i64 n] w fun e w' => ∃ b,e = .returned (.bool b)∧Cur w' g A c l∧w.grownBy w' (some g):=by
  have HB:=hR w;go_enter Tryz.func44,Tryz.ntmps44
  go_wp2_with fail
  refine (spec_l01Below _ _ _ _ _ _ h hl h0 h1).mono ?_
  rintro _ w1 ⟨x,rfl,x0,x1,hc,hb⟩
  go_wp2_with fail
  go_ret
  exact ⟨_,rfl,hc,hb⟩
set_option maxHeartbeats 400000 in
theorem spec_l02Byte (g : Nat) (A : Option Addr) (c : Nat) (l : List Int) (w : World) (h : Cur w g A c l) (hl : l.length ≤ 1048576) :
    Calls Tryz.prog 143 #[.pointer (some ⟨g,0,none⟩)] w fun e w' => ∃ x,e = .returned (.int .u8 x)∧0 ≤ x∧x < 256∧Cur w' g A c l∧w.grownBy w' (some g):=by
  have HB:=hR w;go_enter Tryz.func143,Tryz.ntmps143
  go_wp2_with fail
  refine (spec_l01Once _ _ _ _ _ _ h hl (by omega) (by omega)).mono ?_
  rintro _ w1 ⟨b,rfl,hc,hb⟩
  have hg : g < w1.heap.size:=World.block_lt_of_cell? w1 _ hc.b
  cases b
  · go_wp2_with fail
    refine (spec_l01Byte _ _ _ _ _ hc hl).mono ?_
    rintro _ w2 ⟨x,rfl,x0,x1,hc2,hb2⟩
    go_wp2_with fail
    go_ret
    exact ⟨_,rfl,x0,x1,hc2,hb.trans hb2⟩
  · go_wp2_with fail
    refine (spec_l01PickInt g A c l (some ⟨w1.heap.size,0,none⟩) 10 [0,1,9,16,127,128,153,255,154,80] _ (hc.below (blw)) hl (C_alloc _ _ _ (by decide)) (by decide) (by decide) (fun ad e => by injection e with e;subst e;simp;omega)).mono ?_
    rintro _ w2 ⟨k,hk,rfl,hc2,hb2⟩
    go_wp2_with fail
    go_ret
    exact ⟨_,rfl,(w8d _).1,(w8d _).2,hc2,hb.trans (grown_al _ hb2)⟩
set_option maxHeartbeats 1000000 in
theorem spec_l03Code (g : Nat) (A : Option Addr) (c : Nat) (l : List Int) (w : World) (h : Cur w g A c l) (hl : l.length ≤ 1048576) :
    Calls Tryz.prog 146 #[.pointer (some ⟨g,0,none⟩)] w fun e w' => ∃ x,e = .returned (.int .u8 x)∧0 ≤ x∧x < 256∧Cur w' g A c l∧w.grownBy w' (some g):=by
  have HB:=hR w;go_enter Tryz.func146,Tryz.ntmps146
  go_wp2_with fail
  refine (spec_l01Byte _ _ _ _ _ h hl).mono ?_
  rintro _ w1 ⟨x,rfl,x0,x1,hc,hb⟩
  have HC:=Aside0.mk hc
  have HG:=Aside0.mk hb
  clear hc hb
  go_wp2_with fail
  go_loopw [3,4] (fun v3 v4 wr => ∃ k : Nat,∃ x : Int,k ≤ 3∧0 ≤ x∧x < 256∧v3 = .int .u8 x∧v4 = .int .i64 k∧Aside0 (Cur wr g A c l)∧Aside0 (w.grownBy wr (some g))) (fun _ v4 _ => 3 - (intOf v4).toNat)
  case atStart => first | exact ⟨0,_,by omega,x0,x1,rfl,rfl,HC,HG⟩ | exact ⟨0,_,by omega,(w8d _).1,(w8d _).2,rfl,rfl,HC,HG⟩
  case round =>
    obtain ⟨k,y,hk,y0,y1,rfl,rfl,HC,HG⟩:=hrel
    by_cases hlt : k < 3
    · have hn:=fun W => spec_NameOf y W y0 y1
      generalize nmS y = nm at hn
      by_cases hx : nm = []
      · subst hx
        go_wp2_with fail
        refine (hn _).mono ?_
        rintro _ w2 ⟨rfl,hb⟩
        have HC2:=Aside0.mk (HC.out.below hb)
        have HG2:=Aside0.mk (grown_below HG.out hb)
        go_wp2_with fail
        refine (spec_l01Byte _ _ _ _ _ HC2.out hl).mono ?_
        rintro _ w3 ⟨z,rfl,z0,z1,hc3,hb3⟩
        have HC3:=Aside0.mk hc3
        have HG3:=Aside0.mk (HG2.out.trans hb3)
        clear hc3 hb3
        go_wp2_with fail
        exact ⟨(by first | exact ⟨k+1,_,by omega,z0,z1,rfl,by go_num,HC3,HG3⟩ | exact ⟨k+1,_,by omega,(w8d _).1,(w8d _).2,rfl,by go_num,HC3,HG3⟩),by simp [intOf];omega⟩
      · have hx1 : (nm == []) = false:=beq_eq_false_iff_ne.2 hx
        have hx2 : nm.isEmpty = false:=by cases nm with | nil => exact absurd rfl hx | cons a t => rfl
        go_wp2_with fail
        refine (hn _).mono ?_
        rintro _ w2 ⟨rfl,hb⟩
        have HC2:=Aside0.mk (HC.out.below hb)
        have HG2:=Aside0.mk (grown_below HG.out hb)
        go_wp2_with fail
        go_ret
        exact ⟨_,rfl,y0,y1,HC2.out,HG2.out⟩
    · go_wp2_with fail
      go_ret
      exact ⟨_,rfl,y0,y1,HC.out,HG.out⟩
open Go.RowKit Go.Proofs.YtoncmhfmkfeolaaGreatDoorW.PrintWords
theorem of_byteS {p : Int → Prop} (h : ∀ c : Nat,c < 256 → p c) (code : Int) (h0 : 0 ≤ code) (h1 : code < 256) : p code:=by
  have:=h code.toNat (by omega)
  rwa [Int.toNat_of_nonneg h0] at this
theorem mdS_b : ∀ c : Nat,c < 256 → -1 ≤ mdS c∧mdS c ≤ 12:=by decide +kernel
theorem mode_casesS (m : Int) (h0 : -1 ≤ m) (h1 : m ≤ 12) : m = -1 ∨ m = 0 ∨ m = 1 ∨ m = 2 ∨ m = 3 ∨ m = 4 ∨ m = 5 ∨ m = 6 ∨ m = 7 ∨ m = 8 ∨ m = 9 ∨ m = 10 ∨ m = 11 ∨ m = 12:=by omega
def sizeM (m : Int) : Int:=if m == -1 then 0 else if m == 0 || m == 1 then 1 else if m == 6 || m == 7 || m == 8 || m == 9 then 3 else 2
theorem sizeM_b (m : Int) : 0 ≤ sizeM m∧sizeM m ≤ 3:=by
  unfold sizeM
  split
  · omega
  split
  · omega
  split <;> omega
set_option maxHeartbeats 1000000 in
theorem spec_SizeOf (code : Int) (w : World) (h0 : 0 ≤ code) (h1 : code < 256) :
    Calls Tryz.prog 147 #[.int .u8 code] w fun e w' => e = .returned (.int .i64 (sizeM (mdS code)))∧Below w.heap.size w w':=by
  have ho:=spec_ModeOf code w h0 h1
  obtain ⟨m0,m1⟩:=of_byteS (p:=fun c => -1 ≤ mdS c∧mdS c ≤ 12) mdS_b code h0 h1
  generalize mdS code = m at ho m0 m1 ⊢
  rcases mode_casesS m m0 m1 with rfl | rfl | rfl | rfl | rfl | rfl | rfl | rfl | rfl | rfl | rfl | rfl | rfl | rfl
  all_goals
    have HB:=hR w;go_enter Tryz.func147,Tryz.ntmps147
    go_wp2_with fail
    refine ho.mono ?_
    rintro _ w1 ⟨rfl,hb⟩
    (have HB:=Aside0.mk (below_step (w:=w) blw hb);have hz1:=hb.size;obtain ⟨hcl1,hfr1,hlt1,_⟩:=bcell hb;(try simp only [sA,sC,sD] at hz1);(try simp only [sA,sC,sD] at hcl1 hfr1 hlt1);have HB1:=hR w1;clear hb)
    go_wp2_with fail
    go_ret
    exact ⟨rfl,blw⟩
structure Lst (w wr : World) (g : Nat) (A : Option Addr) (c : Nat) (l : List Int) (v : Value) (L : List Int) : Prop where
  own : OwnB wr w.heap.size v L
  b : ∀ x ∈ L,0 ≤ x∧x < 256
  cur : Cur wr g A c l
  only : w.grownBy wr (some g)
theorem Cur.away {w w' : World} {g : Nat} {A : Option Addr} {c : Nat} {l : List Int} {row : Option Nat} (h : Cur w g A c l) (hb : w.grownBy w' row) (hr : ∀ k,row = some k → g < k) : Cur w' g A c l:=by
  have hg : g < w.heap.size:=World.block_lt_of_cell? w _ h.b
  have he : w'.heap[g]? = w.heap[g]?:=hb.block g hg (fun e => by have:=hr g e.symm;omega)
  have hc : ∀ i,w'.cell? ⟨g,i,none⟩ = w.cell? ⟨g,i,none⟩:=fun i => World.cell?_of_block he
  have hf : ∀ i,w'.frozen? ⟨g,i,none⟩ = w.frozen? ⟨g,i,none⟩:=fun i => World.frozen?_of_block he
  obtain ⟨i,hi,ei⟩:=h.i
  obtain ⟨x,ex⟩:=h.h
  obtain ⟨w0,b0,k0,s0⟩:=h.s
  exact ⟨(hc 0).trans h.b,⟨i,hi,(hc 1).trans ei⟩,⟨x,(hc 2).trans ex⟩,(hf 1).trans h.f1,(hf 2).trans h.f2,w0,b0,Below.grown k0 hb (by omega) (fun k e => by have:=hr k e;omega),s0⟩
theorem Lst.move {w w1 w2 : World} {g : Nat} {A : Option Addr} {c : Nat} {l : List Int} {v : Value} {L : List Int} (h : Lst w w1 g A c l v L) (hg : g < w.heap.size) (hc : Cur w2 g A c l) (hb : w1.grownBy w2 (some g)) : Lst w w2 g A c l v L :=
  ⟨h.own.grown hb (fun k e => by injection e with e;omega),h.b,hc,h.only.trans hb⟩
theorem Lst.below {w w1 w2 : World} {g : Nat} {A : Option Addr} {c : Nat} {l : List Int} {v : Value} {L : List Int} (h : Lst w w1 g A c l v L) (hb : Below w1.heap.size w1 w2) : Lst w w2 g A c l v L :=
  ⟨h.own.below hb,h.b,h.cur.below hb,grown_below h.only hb⟩
theorem Lst.app {w w1 w2 : World} {g : Nat} {A : Option Addr} {c : Nat} {l : List Int} {v v2 : Value} {L : List Int} {x : Int} (h : Lst w w1 g A c l v L) (hg : g < w.heap.size) (x0 : 0 ≤ x) (x1 : x < 256)
    (ho : OwnB w2 w.heap.size v2 (L ++ [x])) (hb : w1.grownBy w2 v.ownBlock) : Lst w w2 g A c l v2 (L ++ [x]):=by
  have hr : ∀ k,v.ownBlock = some k → w.heap.size ≤ k:=fun k e => Kd.R_base h.own k e
  have h2:=h.only
  refine ⟨ho,?_,h.cur.away hb (fun k e => by have:=hr k e;omega),⟨hb.os.trans h2.os,hb.tape.trans h2.tape,hb.output.trans h2.output,Nat.le_trans h2.size hb.size,fun k hk hne => ?_⟩⟩
  · intro y hy
    rcases List.mem_append.1 hy with hy | hy
    · exact h.b y hy
    · rw [List.mem_singleton] at hy;subst hy;exact ⟨x0,x1⟩
  · rw [hb.block k (Nat.lt_of_lt_of_le hk h2.size) (fun e => by have:=hr k e.symm;omega)]
    exact h2.block k hk hne
theorem own_empty (w : World) : OwnB (w.alloc (.cells #[] 5)) w.heap.size (.slice (some ⟨w.heap.size,0,none⟩) 0 0) [] :=
  Kd.R_of_own (xs:=([] : List Int)) (enc:=Value.int .u8) (h1:=fun _ => rfl) ⟨rfl,.inr ⟨w.heap.size,0,#[],rfl,Nat.le_refl _,by show (w.heap.push _)[w.heap.size]? = _;simp,Nat.le_refl _,by decide,rfl,rfl⟩⟩ (fun _ _ => trivial)
set_option maxRecDepth 20000 in
set_option maxHeartbeats 2000000 in
theorem spec_l04Bytes (g : Nat) (A : Option Addr) (c : Nat) (l : List Int) (n : Int) (w : World) (h : Cur w g A c l) (hl : l.length ≤ 1048576) (h0 : 0 ≤ n) (h1 : n ≤ 1000) :
    Calls Tryz.prog 142 #[.pointer (some ⟨g,0,none⟩),.int .i64 n] w fun e w' => ∃ L A1 c1,e = .returned (.slice A1 (List.length L) c1)∧n ≤ L.length∧(L.length : Int) ≤ 3 * n∧Lst w w' g A c l (.slice A1 L.length c1) L:=by
  have hg : g < w.heap.size:=World.block_lt_of_cell? w _ h.b
  have HB:=hR w;go_enter Tryz.func142,Tryz.ntmps142
  go_wp2_with fail
  go_loopw [5,6] (fun v5 v6 wr => ∃ i : Nat,∃ L,∃ v : Value,(i : Int) ≤ n∧i ≤ L.length∧L.length ≤ 3 * i∧v6 = .int .i64 i∧v = v5∧Aside0 (Lst w wr g A c l v L)) (fun _ v6 _ => n.toNat - (intOf v6).toNat)
  case atStart =>
    exact ⟨0,[],_,by omega,by simp,by simp,rfl,rfl,⟨own_empty w,by simp,h.below (blw),by (repeat (first | (with_reducible exact grown_refl _ _) | (with_reducible assumption) | (with_reducible apply grown_alloc) | (with_reducible apply grown_drew) | (with_reducible apply grown_drewN) | (with_reducible apply grown_set)))⟩⟩
  case round =>
    obtain ⟨i,L,v5,hi,q0,q1,rfl,rfl,HL⟩:=hrel
    by_cases hlt : (i : Int) < n
    · go_wp2_with fail
      refine (spec_l03Code _ _ _ _ _ HL.out.cur hl).mono ?_
      rintro _ w2 ⟨x,rfl,x0,x1,hc2,hb2⟩
      have H2:=Aside0.mk (HL.out.move hg hc2 hb2)
      clear hc2 hb2 HL
      go_wp2_with (at_builtin;refine Kd.R_append (Kd.int .u8) (w0:=w2) w.heap.size rfl _ _ 22 5 (.int .u8 0) 1 rfl Tryz.underlying22 infoU8 rfl (by decide) (by decide) v5 L x [.int .u8 x] (fun _ => True) (fun k => some k ≠ (v5 : Value).ownBlock) rfl rfl rfl (fun _ hk => ⟨trivial,hk⟩) (fun _ _ => trivial) H2.out.own (Below.refl _ _) H2.out.only.size (by omega) ?_;intro v2 wa ho2 hb2 hg2 hat2;have HA:=Aside0.mk (H2.out.app hg x0 x1 ho2 hg2);clear ho2 hb2 hg2 hat2)
      go_loopw [5,8] (fun v5 v8 wr => ∃ k : Nat,∃ M,∃ v : Value,1 ≤ k∧k ≤ 3∧i+1 ≤ M.length∧M.length ≤ 3 * i+k∧v8 = .int .i64 k∧v = v5∧Aside0 (Lst w wr g A c l v M)) (fun _ v8 _ => 3 - (intOf v8).toNat)
      case atStart => exact ⟨1,L ++ [x],_,by omega,by omega,by simp;omega,by simp;omega,rfl,rfl,HA⟩
      case round =>
        clear HA H2 q0 q1
        obtain ⟨k,M,v5b,k0,k1,q0,q1,rfl,rfl,HL⟩:=hrel
        have hs:=fun W => spec_SizeOf x W x0 x1
        obtain ⟨z0,z1⟩:=sizeM_b (mdS x)
        generalize sizeM (mdS x) = z at hs z0 z1
        by_cases hk : (k : Int) < z
        · go_wp2_with fail
          refine (hs _).mono ?_
          rintro _ w4 ⟨rfl,hb⟩
          have H4:=Aside0.mk (HL.out.below hb)
          clear hb HL
          go_wp2_with fail
          refine (spec_l02Byte _ _ _ _ _ H4.out.cur hl).mono ?_
          rintro _ w5 ⟨y,rfl,y0,y1,hc5,hb5⟩
          have H5:=Aside0.mk (H4.out.move hg hc5 hb5)
          clear hc5 hb5 H4
          go_wp2_with (at_builtin;refine Kd.R_append (Kd.int .u8) (w0:=w5) w.heap.size rfl _ _ 22 5 (.int .u8 0) 1 rfl Tryz.underlying22 infoU8 rfl (by decide) (by decide) v5b M y [.int .u8 y] (fun _ => True) (fun k => some k ≠ (v5b : Value).ownBlock) rfl rfl rfl (fun _ hk => ⟨trivial,hk⟩) (fun _ _ => trivial) H5.out.own (Below.refl _ _) H5.out.only.size (by omega) ?_;intro v2 wa ho2 hb2 hg2 hat2;have HA:=Aside0.mk (H5.out.app hg y0 y1 ho2 hg2);clear ho2 hb2 hg2 hat2)
          exact ⟨⟨k+1,M ++ [y],_,by omega,by omega,by simp;omega,by simp;omega,by go_num,rfl,HA⟩,by simp [intOf];omega⟩
        · go_wp2_with fail
          refine (hs _).mono ?_
          rintro _ w4 ⟨rfl,hb⟩
          have H4:=Aside0.mk (HL.out.below hb)
          clear hb HL
          go_wp2_with fail
          exact ⟨⟨i+1,M,_,by omega,by omega,by omega,by go_num,rfl,H4⟩,by simp [intOf];omega⟩
    · go_wp2_with fail
      obtain ⟨A1,c1,e1,_,_⟩:=OwnB.reads HL.out.own
      subst e1
      go_ret
      exact ⟨L,A1,c1,rfl,by omega,by omega,HL.out⟩
end Go.Proofs.YtoncmhfmkfeolaaGreatDoor
