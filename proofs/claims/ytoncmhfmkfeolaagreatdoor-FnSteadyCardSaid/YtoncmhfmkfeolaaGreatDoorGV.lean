/- A law's argument that is a memory, read as data. -/
import Derived.Test.YtoncmhfmkfeolaaGreatDoorGA
import Derived.ChangeSame
import Derived.WideShapes
import Derived.ChangeSlices
import Derived.Test.YtoncmhfmkfeolaaGreatDoorWSized
import Derived.Test.YtoncmhfmkfeolaaGreatDoorRows
import Derived.Test.YtoncmhfmkfeolaaGreatDoorGC
import Derived.ProofKit
import Derived.LaidMore
import Derived.OpenShut
import Derived.Stop.Joined
import Derived.Stop.LaidErr
import Derived.HandedShaped
import Derived.Shelf.Vars
set_option maxRecDepth 100000
set_option maxHeartbeats 8000000
namespace Go.Proofs.YtoncmhfmkfeolaaGreatDoor
open Go.ChangeShapes Go.WideShapes Go.ChangeAt Go.RowKit
open Go.Proofs.YtoncmhfmkfeolaaGreatDoorW
theorem open_bytes {H:Type} {enc:TypeId × Value→H} {W:World} {fuel:Nat} {cs:List Value} {x:DataW H × List MemPlace}
  (hf:DataW.trod enc Tryz.prog W 0 (fun _=>true) true fuel 22 cs=some x):∃ A l c,cs=[.slice A (List.length l) c]∧Bs W A l∧l.length≤9223372036854775807:=by
 rcases open_ints Tryz.underlying22 Tryz.underlying5 (by kernel_rfl) hf with ⟨hcs,_⟩|⟨x,l,c,zs,hcs,_,hl,hm,hz,_,hcell,hwz⟩
 ·obtain ⟨zs,hz,hb⟩:=bs_of_row (w:=W) (a:=none) (len:=0) (cap:=0) (z:=[]) (.inl ⟨rfl,rfl,rfl,rfl⟩)
  refine ⟨none,zs,0,?_,hb,hb.max⟩
  rw[hcs,hz]
 ·obtain ⟨zs,hz,hb⟩:=bs_of_row (w:=W) (a:=some x) (.inr ⟨_,rfl,hl,hm,by simpa using hz,hcell,hwz⟩)
  refine ⟨some x,zs,c,?_,hb,hb.max⟩
  rw[hcs,hz]
theorem open_bytesV {H:Type} {enc:TypeId × Value→H} {W:World} {base:Nat} {d:DataW H} {p:List MemPlace} {v:Value} (hv:Value.okWide Tryz.prog W .any base 22 v)
  (h:DataW.Trod enc Tryz.prog W 0 (fun _=>true) true 22 v d p):∃ A l c,v=.slice A (List.length l) c∧Bs W A l∧l.length≤9223372036854775807:=by
 obtain ⟨a0,len0,cap0,rfl⟩:=okWide_slice Tryz.underlying22 hv
 obtain ⟨fuel,hf⟩:=h
 obtain ⟨A,l,c,e,hb,hm⟩:=open_bytes (enc:=enc) (W:=W) (fuel:=fuel) (cs:=[.slice a0 len0 cap0]) (x:=(d,p)) hf
 injection e with e
 exact ⟨A,l,c,e,hb,hm⟩
theorem open_ram {H:Type} {enc:TypeId × Value→H} {W:World} {base:Nat} {d:DataW H} {p:List MemPlace} {v:Value} (hv:Value.okWide Tryz.prog W .any base 47 v)
  (h:DataW.Trod enc Tryz.prog W 0 (fun _=>true) true 47 v d p):∃ A l c,v=.agg #[.slice A (List.length l) c]∧Bs W A l∧l.length≤9223372036854775807:=by
 obtain ⟨cs,rfl,hs⟩:=okWide_struct Tryz.underlying47 hv
 obtain ⟨fuel,hf⟩:=h
 have hc:Tryz.prog.cellsOf 47=1:=by kernel_rfl
 rw[hc] at hs
 obtain ⟨y0,n,_,_,h0⟩:=trod_struct1 Tryz.underlying47 hf
 match cs,hs with
 | ⟨[x]⟩,_ =>
  obtain ⟨A,l,c,e,hb,hm⟩:=open_bytes (enc:=enc) (W:=W) (fuel:=n) (cs:=[x]) (x:=y0) (by
   have hc2:Tryz.prog.cellsOf 22=1:=by kernel_rfl
   simpa [Value.cells,hc2] using h0)
  injection e with e
  subst e
  exact ⟨A,l,c,rfl,hb,hm⟩
open Go.ChangeShapes Go.WideShapes Go.ChangeAt Go.WideMaps Go.WideElems Go.RowKit
def laid2 : List (String × DataW Unit) := [("unicode.White_Space", Rows.laid_unicode_White_Space), ("strings.asciiSpace", Rows.laid_strings_asciiSpace)]
theorem door_met (os:Os) (args:Array Value):laidMetH Tryz.prog laid2 ((World.doorLaid Tryz.prog 33 os).forCall (fun _ _=>0) ⟨#[],args,[]⟩).memory :=
 laidMetH_of_parts3 (fuel:=8) (laidMet_of_run' 8 (by kernel_rfl) (by kernel_rfl)) (by kernel_rfl) (by kernel_rfl)
theorem env_of {W:World} (h:laidMetH Tryz.prog laid2 W) (hsh:W.ShapedOpen Tryz.prog):Env W:=by
 rw[MakeChecks.laidMetH_plain _ _ _ (by kernel_rfl)] at h
 have ht : laidMet Tryz.prog [("strings.asciiSpace", Lib.tabData .u8 Lib.asciiSpaceTab)] W := h.tail
 refine ⟨Lib.tabIs_of_head (g:=0) (t:=212) (e:=5) (n:=256) gSpace (by kernel_rfl) (by kernel_rfl) (by kernel_rfl) (by kernel_rfl) (by kernel_rfl) ht,?_⟩
 exact cell_of_shapedOpen_int (t:=3) (zero:=#[.int .i64 0]) hsh (of_decide_eq_true (by kernel_rfl)) (by kernel_rfl) rfl (by kernel_rfl) (by kernel_rfl) (by kernel_rfl)
theorem returns_shaped {H:Type} {enc:TypeId × Value→H} {a:Assume} {C:Checked} {os:Os} {f:FuncId} {fn:Func} {s:ChangeSpec} {conds:List PathCond} {apart fresh handsOn again:Bool} {X:World→Array Value→Prop}
  (hX:∀ (w w':World) (args:Array Value),w.heap=w'.heap→X w args→X w' args)
  (own:ownKnob C.prog.godebug=none) (started:os.Started) (noInit:C.prog.inits.idxOf? f=none) (hfn:C.prog.funcs[f]?=some fn)
  (witness:∃ (w:World) (tape:Tape) (i:Input),w.os=os∧(w.forCall tape i).Shaped C.prog∧i.vars=[]∧Input.okWide C.prog (w.forCall tape i) .any w.heap.size f i ∧
   ((s.pre enc C.prog fn conds apart (w.forCall tape i).memory i.args∧X (w.forCall tape i).memory i.args)∧sizedMet enc C.prog fn (OpenSpec.ofChange s) apart (w.forCall tape i).memory i.args)∧a.holds C.prog (lone (Frame.enter C.prog f i.args .normal) [] (w.forCall tape i)))
  (contract:∀ (W:World) (base:Nat) (args:Array Value) (ds gs:List (DataW H)) (before:List MemPlace),
   (∀ (j:Nat) t v,fn.params[j]?=some t→args[j]?=some v→Value.okWide C.prog W .any base t v) →
   DataW.Whole enc C.prog fn.params.toList s.vars apart W args.toList ds gs before →
   conds.all (PathCond.test C.prog ⟨fn.params.toList,ds,s.plain.varTypes C.prog,gs⟩)=true →
   (DataW.weightsEach C.prog (fn.params.toList++s.plain.varTypes C.prog) (ds++gs)).all (·≤reachBytes)=true→X W args→W.ShapedOpen C.prog →
   a.holds C.prog (lone (Frame.enter C.prog f args .normal) [] W) →
   Calls C.prog f args W fun e W'=>∃ v,e=.returned v∧s.post enc C.prog fn apart fresh handsOn again W args v W') :
  ReturnsInHanded a C os f .any (fun w args=>(s.pre enc C.prog fn conds apart w args∧X w args)∧sizedMet enc C.prog fn (OpenSpec.ofChange s) apart w args) (s.post enc C.prog fn apart fresh handsOn again):=by
 refine returnsInHanded_of_calls own started noInit witness ?_
 intro w tape i _ hsh _ hok hpre hholds
 obtain ⟨_,_,_,fn1,hfn1,_,_,_,_,hval⟩:=hok
 obtain rfl:fn1=fn:=Option.some.inj (hfn1.symm.trans hfn)
 obtain ⟨⟨⟨ds,gs,before,hw,hc⟩,hx⟩,hz⟩:=hpre
 have hw1:=DataW.Whole.of_heap (w':=w.forCall tape i) (by rfl) hw
 refine (contract (w.forCall tape i) w.heap.size i.args ds gs before hval hw1 hc (hz.weights hw) (hX _ _ _ (by rfl) hx) hsh hholds).mono fun e W' ⟨v,he,hp⟩=>?_
 subst he
 exact ChangeSpec.post_blind hp
end Go.Proofs.YtoncmhfmkfeolaaGreatDoor
