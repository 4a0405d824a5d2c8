/- A law's argument that is a processor, read as data. -/
import Derived.Test.YtoncmhfmkfeolaaGreatDoorGV
import Derived.Test.YtoncmhfmkfeolaaGreatDoorGD
import Derived.Test.YtoncmhfmkfeolaaGreatDoorGM
import Derived.Deep.Slices
import Derived.Deep.Strs
set_option linter.unusedVariables false
set_option linter.unusedSimpArgs false
namespace Go.Proofs.YtoncmhfmkfeolaaGreatDoor
open Go.ChangeShapes Go.WideShapes Go.ChangeAt Go.RowKit
open Go.Proofs.YtoncmhfmkfeolaaGreatDoorW Go.Proofs.YtoncmhfmkfeolaaGreatDoorW.PrintWords
theorem bounds_u16 {x : Int} (w : (Lit.int .u16 x).wf = true) : 0 ≤ x∧x < 65536:=by
  simp [Lit.wf,IntKind.min,IntKind.max,IntKind.signed,IntKind.bits] at w
  omega
set_option maxRecDepth 100000 in
theorem open_flags0 {H : Type} {enc : TypeId × Value → H} {W : World} {fuel : Nat} {cs : List Value} {x : DataW H × List MemPlace}
    (h : DataW.trod enc Tryz.prog W 0 (fun _ => true) true fuel 44 cs = some x) : ∃ f : F6,cs = [.bool f.N,.bool f.V,.bool f.D,.bool f.I,.bool f.Z,.bool f.C]:=by
  obtain ⟨xs,n,_,_,hl,hlen,hf⟩:=DataW.trod_struct Tryz.underlying44 h
  have hc : Tryz.prog.cellsOf 44 = 6:=by kernel_rfl
  have e2 : Tryz.prog.cellsOf 4 = 1:=by kernel_rfl
  rw [hc] at hl
  match cs,hl,xs,hlen with
  | [u0,u1,u2,u3,u4,u5],_,[y0,y1,y2,y3,y4,y5],_ =>
    have h0:=hf 0 _ rfl
    have h1:=hf 1 _ rfl
    have h2:=hf 2 _ rfl
    have h3:=hf 3 _ rfl
    have h4:=hf 4 _ rfl
    have h5:=hf 5 _ rfl
    clear hf
    simp only [e2,List.drop_zero,List.drop_succ_cons,List.take_succ_cons,List.take_zero,List.getElem?_cons_zero,List.getElem?_cons_succ] at h0 h1 h2 h3 h4 h5
    obtain ⟨b0,z0,_⟩:=DataW.trod_bool Tryz.underlying4 h0
    obtain ⟨b1,z1,_⟩:=DataW.trod_bool Tryz.underlying4 h1
    obtain ⟨b2,z2,_⟩:=DataW.trod_bool Tryz.underlying4 h2
    obtain ⟨b3,z3,_⟩:=DataW.trod_bool Tryz.underlying4 h3
    obtain ⟨b4,z4,_⟩:=DataW.trod_bool Tryz.underlying4 h4
    obtain ⟨b5,z5,_⟩:=DataW.trod_bool Tryz.underlying4 h5
    injection z0 with z0
    injection z1 with z1
    injection z2 with z2
    injection z3 with z3
    injection z4 with z4
    injection z5 with z5
    subst z0 z1 z2 z3 z4 z5
    exact ⟨⟨b0,b1,b2,b3,b4,b5⟩,rfl⟩
set_option maxRecDepth 100000 in
theorem open_cpu0 {H : Type} {enc : TypeId × Value → H} {W : World} {fuel : Nat} {cs : List Value} {x : DataW H × List MemPlace}
    (h : DataW.trod enc Tryz.prog W 0 (fun _ => true) true fuel 46 cs = some x) : ∃ c : Cpu,c.ok∧cs = [.int .u8 c.A,.int .u8 c.X,.int .u8 c.Y,.int .u8 c.S,.int .u16 c.PC,.bool c.F.N,.bool c.F.V,.bool c.F.D,.bool c.F.I,.bool c.F.Z,.bool c.F.C]:=by
  obtain ⟨xs,n,_,_,hl,hlen,hf⟩:=DataW.trod_struct Tryz.underlying46 h
  have hc : Tryz.prog.cellsOf 46 = 11:=by kernel_rfl
  have e0 : Tryz.prog.cellsOf 24 = 1:=by kernel_rfl
  have e1 : Tryz.prog.cellsOf 5 = 1:=by kernel_rfl
  have e2 : Tryz.prog.cellsOf 44 = 6:=by kernel_rfl
  rw [hc] at hl
  match cs,hl,xs,hlen with
  | [u0,u1,u2,u3,u4,v0,v1,v2,v3,v4,v5],_,[y0,y1,y2,y3,y4,y5],_ =>
    have h0:=hf 0 _ rfl
    have h1:=hf 1 _ rfl
    have h2:=hf 2 _ rfl
    have h3:=hf 3 _ rfl
    have h4:=hf 4 _ rfl
    have h5:=hf 5 _ rfl
    clear hf
    simp only [e0,e1,e2,List.drop_zero,List.drop_succ_cons,List.take_succ_cons,List.take_zero,List.getElem?_cons_zero,List.getElem?_cons_succ] at h0 h1 h2 h3 h4 h5
    obtain ⟨b0,z0,_,g0⟩:=DataW.trod_int Tryz.underlying5 h0
    obtain ⟨b1,z1,_,g1⟩:=DataW.trod_int Tryz.underlying5 h1
    obtain ⟨b2,z2,_,g2⟩:=DataW.trod_int Tryz.underlying5 h2
    obtain ⟨b3,z3,_,g3⟩:=DataW.trod_int Tryz.underlying5 h3
    obtain ⟨b4,z4,_,g4⟩:=DataW.trod_int Tryz.underlying24 h4
    obtain ⟨f,z5⟩:=open_flags0 h5
    injection z0 with z0
    injection z1 with z1
    injection z2 with z2
    injection z3 with z3
    injection z4 with z4
    subst z0 z1 z2 z3 z4
    have q0:=bounds_u8 g0
    have q1:=bounds_u8 g1
    have q2:=bounds_u8 g2
    have q3:=bounds_u8 g3
    have q4:=bounds_u16 g4
    refine ⟨⟨b0,b1,b2,b3,b4,f⟩,⟨by show 0 ≤ b0;omega,by show b0 < 256;omega,by show 0 ≤ b1;omega,by show b1 < 256;omega,by show 0 ≤ b2;omega,by show b2 < 256;omega,by show 0 ≤ b3;omega,by show b3 < 256;omega,q4.1,q4.2⟩,?_⟩
    have z6 : ([v0,v1,v2,v3,v4,v5] : List Value) = [.bool f.N,.bool f.V,.bool f.D,.bool f.I,.bool f.Z,.bool f.C]:=z5
    exact congrArg (fun t => Value.int .u8 b0::.int .u8 b1::.int .u8 b2::.int .u8 b3::.int .u16 b4::t) z6
set_option maxRecDepth 100000 in
theorem open_cpu {H : Type} {enc : TypeId × Value → H} {W : World} {base : Nat} {d : DataW H} {p : List MemPlace} {v : Value} (hv : Value.okWide Tryz.prog W .any base 46 v)
    (h : DataW.Trod enc Tryz.prog W 0 (fun _ => true) true 46 v d p) : ∃ x : Cpu,v = .agg #[.int .u8 x.A,.int .u8 x.X,.int .u8 x.Y,.int .u8 x.S,.int .u16 x.PC,.bool x.F.N,.bool x.F.V,.bool x.F.D,.bool x.F.I,.bool x.F.Z,.bool x.F.C]∧x.ok:=by
  obtain ⟨cs,rfl,hs⟩:=okWide_struct Tryz.underlying46 hv
  obtain ⟨fuel,hf⟩:=h
  obtain ⟨x,ho,e⟩:=open_cpu0 hf
  have e2 : cs.toList = [.int .u8 x.A,.int .u8 x.X,.int .u8 x.Y,.int .u8 x.S,.int .u16 x.PC,.bool x.F.N,.bool x.F.V,.bool x.F.D,.bool x.F.I,.bool x.F.Z,.bool x.F.C]:=e
  exact ⟨x,by rw [show cs = #[.int .u8 x.A,.int .u8 x.X,.int .u8 x.Y,.int .u8 x.S,.int .u16 x.PC,.bool x.F.N,.bool x.F.V,.bool x.F.D,.bool x.F.I,.bool x.F.Z,.bool x.F.C] from by cases cs;simpa using e2],ho⟩
open Go.ChangeShapes Go.WideShapes Go.ChangeAt Go.RowKit
open Go.Proofs.YtoncmhfmkfeolaaGreatDoorW Go.Proofs.YtoncmhfmkfeolaaGreatDoorW.PrintWords
instance : Inhabited Evt:=⟨⟨0,false⟩⟩
set_option maxRecDepth 100000 in
theorem open_evt1 {H : Type} {enc : TypeId × Value → H} {W : World} {fuel : Nat} {cs : List Value} {x : DataW H × List MemPlace}
    (h : DataW.trod enc Tryz.prog W 0 (fun _ => true) true fuel 108 cs = some x) : ∃ c : Evt,cs = [.int .i64 c.a,.bool c.n]:=by
  obtain ⟨y0,y1,n,_,hl,h0,h1⟩:=trod_struct2 Tryz.underlying108 h
  have hc : Tryz.prog.cellsOf 108 = 2:=by kernel_rfl
  have e0 : Tryz.prog.cellsOf 3 = 1:=by kernel_rfl
  have e1 : Tryz.prog.cellsOf 4 = 1:=by kernel_rfl
  rw [hc] at hl
  match cs,hl with
  | [u0,u1],_ =>
    simp only [e0,e1,List.drop_zero,List.drop_succ_cons,List.take_succ_cons,List.take_zero] at h0 h1
    obtain ⟨a,ea,_,wa⟩:=DataW.trod_int Tryz.underlying3 h0
    obtain ⟨b,eb,_⟩:=DataW.trod_bool Tryz.underlying4 h1
    injection ea with ea
    injection eb with eb
    subst ea eb
    exact ⟨⟨a,b⟩,rfl⟩
set_option maxRecDepth 100000 in
theorem open_events0 {H : Type} {enc : TypeId × Value → H} {W : World} {fuel : Nat} {cs : List Value} {x : DataW H × List MemPlace}
    (h : DataW.trod enc Tryz.prog W 0 (fun _ => true) true fuel 48 cs = some x) : ∃ A t c,cs = [.slice A (List.length t) c]∧evK.C W A t.length t∧t.length ≤ 9223372036854775807:=by
  rcases Deep.open_slice Tryz.underlying48 h with ⟨rfl,_⟩ | ⟨a,len,cap,m,n,D,Pl,rfl,hb,hl,hm,hmm,_,hx⟩
  · exact ⟨none,[],0,rfl,Kd.C_nil _ _,by simp⟩
  · have hc : Tryz.prog.cellsOf 108 = 2:=by kernel_rfl
    rw [hc] at hx
    have hmm : m = cap:=by simpa using hmm
    have hmx : cap ≤ 9223372036854775807:=hm
    obtain ⟨V,hV⟩:=Deep.choose_lt (α:=Evt) (p:=fun i c => ∀ j u,([.int .i64 c.a,.bool c.n] : List Value)[j]? = some u → W.cell? (a.add (i * 2+j)) = some u) (n:=len) (fun i hi => by
      obtain ⟨cs',h1,h2⟩:=hx i (by omega)
      obtain ⟨_,_,h3⟩:=World.cells?_some h1
      obtain ⟨c,rfl⟩:=open_evt1 h2
      refine ⟨c,fun j u hu => ?_⟩
      have hj : j < 2:=by
        have:=(List.getElem?_eq_some_iff.1 hu).1
        simpa using this
      rw [← Deep.add_add,h3 j hj,hu])
    have hlen : ((List.range len).map V).length = len:=by simp
    refine ⟨some a,(List.range len).map V,cap,by rw [hlen],⟨by rw [hlen],by rw [hlen];omega,fun _ => ⟨a,rfl,fun j p hp => ?_⟩⟩,by rw [hlen];omega⟩
    rw [List.getElem?_map] at hp
    obtain ⟨j',hj',rfl⟩:=Option.map_eq_some_iff.1 hp
    obtain ⟨hj1,rfl⟩:=List.getElem?_eq_some_iff.1 hj'
    rw [List.getElem_range] at *
    have hj2 : j < len:=by simpa using hj1
    exact ⟨_,rfl,⟨[_],[_],rfl,rfl,rfl⟩,hV j hj2⟩
set_option maxRecDepth 100000 in
theorem open_events {H : Type} {enc : TypeId × Value → H} {W : World} {base : Nat} {d : DataW H} {p : List MemPlace} {v : Value} (hv : Value.okWide Tryz.prog W .any base 48 v)
    (h : DataW.Trod enc Tryz.prog W 0 (fun _ => true) true 48 v d p) : ∃ A t c,v = .slice A (List.length t) c∧evK.C W A t.length t∧t.length ≤ 9223372036854775807:=by
  obtain ⟨a0,len0,cap0,rfl⟩:=okWide_slice Tryz.underlying48 hv
  obtain ⟨fuel,hf⟩:=h
  obtain ⟨A,l,c,e,hb,hm⟩:=open_events0 (enc:=enc) (W:=W) (fuel:=fuel) (cs:=[.slice a0 len0 cap0]) (x:=(d,p)) hf
  injection e with e
  exact ⟨A,l,c,e,hb,hm⟩
end Go.Proofs.YtoncmhfmkfeolaaGreatDoor
