/- The program's 'register' and 'implied' (printed by wip/mkimd.py). -/
import Derived.Test.YtoncmhfmkfeolaaGreatDoorMachD
import Derived.Test.YtoncmhfmkfeolaaGreatDoorGF
set_option linter.unusedVariables false
set_option linter.unusedSimpArgs false
namespace Go.Proofs.YtoncmhfmkfeolaaGreatDoor
open Go.RowKit Go.Proofs.YtoncmhfmkfeolaaGreatDoorW.PrintWords
theorem reg_A (g : Nat) (w : World) : Calls Tryz.prog 156 #[.pointer (some ⟨g,0,none⟩),.int .u8 65] w fun e w' => e = .returned (.pointer (some ⟨g,0,none⟩))∧w = w':=by
  have HB:=hR w;go_enter Tryz.func156,Tryz.ntmps156
  go_wp2
  go_ret
  exact ⟨rfl,rfl⟩
theorem reg_X (g : Nat) (w : World) : Calls Tryz.prog 156 #[.pointer (some ⟨g,0,none⟩),.int .u8 88] w fun e w' => e = .returned (.pointer (some ⟨g,1,none⟩))∧w = w':=by
  have HB:=hR w;go_enter Tryz.func156,Tryz.ntmps156
  go_wp2
  go_ret
  exact ⟨rfl,rfl⟩
theorem reg_Y (g : Nat) (w : World) : Calls Tryz.prog 156 #[.pointer (some ⟨g,0,none⟩),.int .u8 89] w fun e w' => e = .returned (.pointer (some ⟨g,2,none⟩))∧w = w':=by
  have HB:=hR w;go_enter Tryz.func156,Tryz.ntmps156
  go_wp2
  go_ret
  exact ⟨rfl,rfl⟩
theorem reg_S (g : Nat) (w : World) : Calls Tryz.prog 156 #[.pointer (some ⟨g,0,none⟩),.int .u8 83] w fun e w' => e = .returned (.pointer (some ⟨g,3,none⟩))∧w = w':=by
  have HB:=hR w;go_enter Tryz.func156,Tryz.ntmps156
  go_wp2
  go_ret
  exact ⟨rfl,rfl⟩
set_option maxRecDepth 20000 in
set_option maxHeartbeats 400000 in
theorem imp_ASL {w : World} {L : Lay} {v : Value} {c : Cpu} {b : Bus} {n : Nat} (h : HoldM w L v c b n) (hc : c.ok) : Calls Tryz.prog 113 #[.pointer (some ⟨L.g,0,none⟩),.string ⟨#[65,83,76]⟩] w fun e w' => e = .returned (.tuple #[])∧HoldM w' L v (stA c (aslT c.A c.F)) b n∧Mv w w' L v v:=by
  obtain ⟨e0,e1,e2,e3,e4,e5,e6,e7,e8,e9,e10,_,_,hfz,hlt⟩:=h.facts
  have hc0:=hc
  obtain ⟨a0,a1,x0,x1,y0,y1,s0,s1,p0,p1⟩:=hc0
  have HB:=hR w;go_enter Tryz.func113,Tryz.ntmps113
  go_wp2_with fail
  refine (do_ASL c.A h hc a0 a1).mono ?_
  rintro _ w1 ⟨rfl,H1,M1⟩
  clear e0 e1 e2 e3 e4 e5 e6 e7 e8 e9 e10 hfz hlt;obtain ⟨e0,e1,e2,e3,e4,e5,e6,e7,e8,e9,e10,_,_,hfz,hlt⟩:=H1.facts
  go_wp2_with fail
  go_end0
  exact ⟨rfl,HoldM.setA H1 _,M1.set (Hold.bg h) 0 _⟩
set_option maxRecDepth 20000 in
set_option maxHeartbeats 400000 in
theorem imp_LSR {w : World} {L : Lay} {v : Value} {c : Cpu} {b : Bus} {n : Nat} (h : HoldM w L v c b n) (hc : c.ok) : Calls Tryz.prog 113 #[.pointer (some ⟨L.g,0,none⟩),.string ⟨#[76,83,82]⟩] w fun e w' => e = .returned (.tuple #[])∧HoldM w' L v (stA c (lsrT c.A c.F)) b n∧Mv w w' L v v:=by
  obtain ⟨e0,e1,e2,e3,e4,e5,e6,e7,e8,e9,e10,_,_,hfz,hlt⟩:=h.facts
  have hc0:=hc
  obtain ⟨a0,a1,x0,x1,y0,y1,s0,s1,p0,p1⟩:=hc0
  have HB:=hR w;go_enter Tryz.func113,Tryz.ntmps113
  go_wp2_with fail
  refine (do_LSR c.A h hc a0 a1).mono ?_
  rintro _ w1 ⟨rfl,H1,M1⟩
  clear e0 e1 e2 e3 e4 e5 e6 e7 e8 e9 e10 hfz hlt;obtain ⟨e0,e1,e2,e3,e4,e5,e6,e7,e8,e9,e10,_,_,hfz,hlt⟩:=H1.facts
  go_wp2_with fail
  go_end0
  exact ⟨rfl,HoldM.setA H1 _,M1.set (Hold.bg h) 0 _⟩
set_option maxRecDepth 20000 in
set_option maxHeartbeats 400000 in
theorem imp_ROL {w : World} {L : Lay} {v : Value} {c : Cpu} {b : Bus} {n : Nat} (h : HoldM w L v c b n) (hc : c.ok) : Calls Tryz.prog 113 #[.pointer (some ⟨L.g,0,none⟩),.string ⟨#[82,79,76]⟩] w fun e w' => e = .returned (.tuple #[])∧HoldM w' L v (stA c (rolT c.A c.F)) b n∧Mv w w' L v v:=by
  obtain ⟨e0,e1,e2,e3,e4,e5,e6,e7,e8,e9,e10,_,_,hfz,hlt⟩:=h.facts
  have hc0:=hc
  obtain ⟨a0,a1,x0,x1,y0,y1,s0,s1,p0,p1⟩:=hc0
  have HB:=hR w;go_enter Tryz.func113,Tryz.ntmps113
  go_wp2_with fail
  refine (do_ROL c.A h hc a0 a1).mono ?_
  rintro _ w1 ⟨rfl,H1,M1⟩
  clear e0 e1 e2 e3 e4 e5 e6 e7 e8 e9 e10 hfz hlt;obtain ⟨e0,e1,e2,e3,e4,e5,e6,e7,e8,e9,e10,_,_,hfz,hlt⟩:=H1.facts
  go_wp2_with fail
  go_end0
  exact ⟨rfl,HoldM.setA H1 _,M1.set (Hold.bg h) 0 _⟩
set_option maxRecDepth 20000 in
set_option maxHeartbeats 400000 in
theorem imp_ROR {w : World} {L : Lay} {v : Value} {c : Cpu} {b : Bus} {n : Nat} (h : HoldM w L v c b n) (hc : c.ok) : Calls Tryz.prog 113 #[.pointer (some ⟨L.g,0,none⟩),.string ⟨#[82,79,82]⟩] w fun e w' => e = .returned (.tuple #[])∧HoldM w' L v (stA c (rorT c.A c.F)) b n∧Mv w w' L v v:=by
  obtain ⟨e0,e1,e2,e3,e4,e5,e6,e7,e8,e9,e10,_,_,hfz,hlt⟩:=h.facts
  have hc0:=hc
  obtain ⟨a0,a1,x0,x1,y0,y1,s0,s1,p0,p1⟩:=hc0
  have HB:=hR w;go_enter Tryz.func113,Tryz.ntmps113
  go_wp2_with fail
  refine (do_ROR c.A h hc a0 a1).mono ?_
  rintro _ w1 ⟨rfl,H1,M1⟩
  clear e0 e1 e2 e3 e4 e5 e6 e7 e8 e9 e10 hfz hlt;obtain ⟨e0,e1,e2,e3,e4,e5,e6,e7,e8,e9,e10,_,_,hfz,hlt⟩:=H1.facts
  go_wp2_with fail
  go_end0
  exact ⟨rfl,HoldM.setA H1 _,M1.set (Hold.bg h) 0 _⟩
set_option maxRecDepth 20000 in
set_option maxHeartbeats 400000 in
theorem imp_INX {w : World} {L : Lay} {v : Value} {c : Cpu} {b : Bus} {n : Nat} (h : HoldM w L v c b n) (hc : c.ok) : Calls Tryz.prog 113 #[.pointer (some ⟨L.g,0,none⟩),.string ⟨#[73,78,88]⟩] w fun e w' => e = .returned (.tuple #[])∧HoldM w' L v (ldX c ((c.X+1) % 256)) b n∧Mv w w' L v v:=by
  have hi1 : (((⟨#[73,78,88]⟩ : ByteArray)[1]'(by decide)).toNat : Int) = 78:=rfl
  have hi2 : (((⟨#[73,78,88]⟩ : ByteArray)[2]'(by decide)).toNat : Int) = 88:=rfl
  have hj : (⟨#[73,78,88]⟩ : ByteArray).extract 0 2 ++ ⟨#[67]⟩ = ⟨#[73,78,67]⟩:=by decide +kernel
  obtain ⟨e0,e1,e2,e3,e4,e5,e6,e7,e8,e9,e10,_,_,hfz,hlt⟩:=h.facts
  have hc0:=hc
  obtain ⟨a0,a1,x0,x1,y0,y1,s0,s1,p0,p1⟩:=hc0
  have HB:=hR w;go_enter Tryz.func113,Tryz.ntmps113
  go_wp2_with (first | (go_at_call 156;((with_reducible refine (reg_A _ _).mono ?_);rintro _ _ ⟨rfl,rfl⟩)) | (go_at_call 156;((with_reducible refine (reg_X _ _).mono ?_);rintro _ _ ⟨rfl,rfl⟩)) | (go_at_call 156;((with_reducible refine (reg_Y _ _).mono ?_);rintro _ _ ⟨rfl,rfl⟩)) | (go_at_call 156;((with_reducible refine (reg_S _ _).mono ?_);rintro _ _ ⟨rfl,rfl⟩)))
  go_region_with (go_at_call 155;((with_reducible refine (do_INC c.X (HoldM.drew h) hc x0 x1).mono ?_);rintro _ w1 ⟨rfl,H1,M1⟩;have M1:=(Mv.drew (Mv.refl w L v h.size) h.size).tr M1;clear e0 e1 e2 e3 e4 e5 e6 e7 e8 e9 e10 hfz hlt;obtain ⟨e0,e1,e2,e3,e4,e5,e6,e7,e8,e9,e10,_,_,hfz,hlt⟩:=H1.facts))
  all_goals go_wp2_with fail
  all_goals go_end0
  all_goals exact ⟨rfl,HoldM.setX H1 _,M1.set (Hold.bg h) 1 _⟩
set_option maxRecDepth 20000 in
set_option maxHeartbeats 400000 in
theorem imp_INY {w : World} {L : Lay} {v : Value} {c : Cpu} {b : Bus} {n : Nat} (h : HoldM w L v c b n) (hc : c.ok) : Calls Tryz.prog 113 #[.pointer (some ⟨L.g,0,none⟩),.string ⟨#[73,78,89]⟩] w fun e w' => e = .returned (.tuple #[])∧HoldM w' L v (ldY c ((c.Y+1) % 256)) b n∧Mv w w' L v v:=by
  have hi1 : (((⟨#[73,78,89]⟩ : ByteArray)[1]'(by decide)).toNat : Int) = 78:=rfl
  have hi2 : (((⟨#[73,78,89]⟩ : ByteArray)[2]'(by decide)).toNat : Int) = 89:=rfl
  have hj : (⟨#[73,78,89]⟩ : ByteArray).extract 0 2 ++ ⟨#[67]⟩ = ⟨#[73,78,67]⟩:=by decide +kernel
  obtain ⟨e0,e1,e2,e3,e4,e5,e6,e7,e8,e9,e10,_,_,hfz,hlt⟩:=h.facts
  have hc0:=hc
  obtain ⟨a0,a1,x0,x1,y0,y1,s0,s1,p0,p1⟩:=hc0
  have HB:=hR w;go_enter Tryz.func113,Tryz.ntmps113
  go_wp2_with (first | (go_at_call 156;((with_reducible refine (reg_A _ _).mono ?_);rintro _ _ ⟨rfl,rfl⟩)) | (go_at_call 156;((with_reducible refine (reg_X _ _).mono ?_);rintro _ _ ⟨rfl,rfl⟩)) | (go_at_call 156;((with_reducible refine (reg_Y _ _).mono ?_);rintro _ _ ⟨rfl,rfl⟩)) | (go_at_call 156;((with_reducible refine (reg_S _ _).mono ?_);rintro _ _ ⟨rfl,rfl⟩)))
  go_region_with (go_at_call 155;((with_reducible refine (do_INC c.Y (HoldM.drew h) hc y0 y1).mono ?_);rintro _ w1 ⟨rfl,H1,M1⟩;have M1:=(Mv.drew (Mv.refl w L v h.size) h.size).tr M1;clear e0 e1 e2 e3 e4 e5 e6 e7 e8 e9 e10 hfz hlt;obtain ⟨e0,e1,e2,e3,e4,e5,e6,e7,e8,e9,e10,_,_,hfz,hlt⟩:=H1.facts))
  all_goals go_wp2_with fail
  all_goals go_end0
  all_goals exact ⟨rfl,HoldM.setY H1 _,M1.set (Hold.bg h) 2 _⟩
set_option maxRecDepth 20000 in
set_option maxHeartbeats 400000 in
theorem imp_DEX {w : World} {L : Lay} {v : Value} {c : Cpu} {b : Bus} {n : Nat} (h : HoldM w L v c b n) (hc : c.ok) : Calls Tryz.prog 113 #[.pointer (some ⟨L.g,0,none⟩),.string ⟨#[68,69,88]⟩] w fun e w' => e = .returned (.tuple #[])∧HoldM w' L v (ldX c ((c.X - 1) % 256)) b n∧Mv w w' L v v:=by
  have hi1 : (((⟨#[68,69,88]⟩ : ByteArray)[1]'(by decide)).toNat : Int) = 69:=rfl
  have hi2 : (((⟨#[68,69,88]⟩ : ByteArray)[2]'(by decide)).toNat : Int) = 88:=rfl
  have hj : (⟨#[68,69,88]⟩ : ByteArray).extract 0 2 ++ ⟨#[67]⟩ = ⟨#[68,69,67]⟩:=by decide +kernel
  obtain ⟨e0,e1,e2,e3,e4,e5,e6,e7,e8,e9,e10,_,_,hfz,hlt⟩:=h.facts
  have hc0:=hc
  obtain ⟨a0,a1,x0,x1,y0,y1,s0,s1,p0,p1⟩:=hc0
  have HB:=hR w;go_enter Tryz.func113,Tryz.ntmps113
  go_wp2_with (first | (go_at_call 156;((with_reducible refine (reg_A _ _).mono ?_);rintro _ _ ⟨rfl,rfl⟩)) | (go_at_call 156;((with_reducible refine (reg_X _ _).mono ?_);rintro _ _ ⟨rfl,rfl⟩)) | (go_at_call 156;((with_reducible refine (reg_Y _ _).mono ?_);rintro _ _ ⟨rfl,rfl⟩)) | (go_at_call 156;((with_reducible refine (reg_S _ _).mono ?_);rintro _ _ ⟨rfl,rfl⟩)))
  go_region_with (go_at_call 155;((with_reducible refine (do_DEC c.X (HoldM.drew h) hc x0 x1).mono ?_);rintro _ w1 ⟨rfl,H1,M1⟩;have M1:=(Mv.drew (Mv.refl w L v h.size) h.size).tr M1;clear e0 e1 e2 e3 e4 e5 e6 e7 e8 e9 e10 hfz hlt;obtain ⟨e0,e1,e2,e3,e4,e5,e6,e7,e8,e9,e10,_,_,hfz,hlt⟩:=H1.facts))
  all_goals go_wp2_with fail
  all_goals go_end0
  all_goals exact ⟨rfl,HoldM.setX H1 _,M1.set (Hold.bg h) 1 _⟩
set_option maxRecDepth 20000 in
set_option maxHeartbeats 400000 in
theorem imp_DEY {w : World} {L : Lay} {v : Value} {c : Cpu} {b : Bus} {n : Nat} (h : HoldM w L v c b n) (hc : c.ok) : Calls Tryz.prog 113 #[.pointer (some ⟨L.g,0,none⟩),.string ⟨#[68,69,89]⟩] w fun e w' => e = .returned (.tuple #[])∧HoldM w' L v (ldY c ((c.Y - 1) % 256)) b n∧Mv w w' L v v:=by
  have hi1 : (((⟨#[68,69,89]⟩ : ByteArray)[1]'(by decide)).toNat : Int) = 69:=rfl
  have hi2 : (((⟨#[68,69,89]⟩ : ByteArray)[2]'(by decide)).toNat : Int) = 89:=rfl
  have hj : (⟨#[68,69,89]⟩ : ByteArray).extract 0 2 ++ ⟨#[67]⟩ = ⟨#[68,69,67]⟩:=by decide +kernel
  obtain ⟨e0,e1,e2,e3,e4,e5,e6,e7,e8,e9,e10,_,_,hfz,hlt⟩:=h.facts
  have hc0:=hc
  obtain ⟨a0,a1,x0,x1,y0,y1,s0,s1,p0,p1⟩:=hc0
  have HB:=hR w;go_enter Tryz.func113,Tryz.ntmps113
  go_wp2_with (first | (go_at_call 156;((with_reducible refine (reg_A _ _).mono ?_);rintro _ _ ⟨rfl,rfl⟩)) | (go_at_call 156;((with_reducible refine (reg_X _ _).mono ?_);rintro _ _ ⟨rfl,rfl⟩)) | (go_at_call 156;((with_reducible refine (reg_Y _ _).mono ?_);rintro _ _ ⟨rfl,rfl⟩)) | (go_at_call 156;((with_reducible refine (reg_S _ _).mono ?_);rintro _ _ ⟨rfl,rfl⟩)))
  go_region_with (go_at_call 155;((with_reducible refine (do_DEC c.Y (HoldM.drew h) hc y0 y1).mono ?_);rintro _ w1 ⟨rfl,H1,M1⟩;have M1:=(Mv.drew (Mv.refl w L v h.size) h.size).tr M1;clear e0 e1 e2 e3 e4 e5 e6 e7 e8 e9 e10 hfz hlt;obtain ⟨e0,e1,e2,e3,e4,e5,e6,e7,e8,e9,e10,_,_,hfz,hlt⟩:=H1.facts))
  all_goals go_wp2_with fail
  all_goals go_end0
  all_goals exact ⟨rfl,HoldM.setY H1 _,M1.set (Hold.bg h) 2 _⟩
set_option maxRecDepth 20000 in
set_option maxHeartbeats 400000 in
theorem imp_TAX {w : World} {L : Lay} {v : Value} {c : Cpu} {b : Bus} {n : Nat} (h : HoldM w L v c b n) (hc : c.ok) : Calls Tryz.prog 113 #[.pointer (some ⟨L.g,0,none⟩),.string ⟨#[84,65,88]⟩] w fun e w' => e = .returned (.tuple #[])∧HoldM w' L v (ldX c c.A) b n∧Mv w w' L v v:=by
  have hi1 : (((⟨#[84,65,88]⟩ : ByteArray)[1]'(by decide)).toNat : Int) = 65:=rfl
  have hi2 : (((⟨#[84,65,88]⟩ : ByteArray)[2]'(by decide)).toNat : Int) = 88:=rfl
  obtain ⟨e0,e1,e2,e3,e4,e5,e6,e7,e8,e9,e10,_,_,hfz,hlt⟩:=h.facts
  have hc0:=hc
  obtain ⟨a0,a1,x0,x1,y0,y1,s0,s1,p0,p1⟩:=hc0
  have HB:=hR w;go_enter Tryz.func113,Tryz.ntmps113
  have H0:=HoldM.setX h c.A
  go_wp2_with (first | (go_at_call 156;((with_reducible refine (reg_A _ _).mono ?_);rintro _ _ ⟨rfl,rfl⟩)) | (go_at_call 156;((with_reducible refine (reg_X _ _).mono ?_);rintro _ _ ⟨rfl,rfl⟩)) | (go_at_call 156;((with_reducible refine (reg_Y _ _).mono ?_);rintro _ _ ⟨rfl,rfl⟩)) | (go_at_call 156;((with_reducible refine (reg_S _ _).mono ?_);rintro _ _ ⟨rfl,rfl⟩)))
  refine (impl_NZ _ c.F _ a0 a1).mono ?_
  rintro _ w1 ⟨rfl,hb⟩
  have H1:=HoldM.below H0 hb
  have M1:=((Mv.refl w L v h.size).set (Hold.bg h) 1 _).then hb H0.size
  clear e0 e1 e2 e3 e4 e5 e6 e7 e8 e9 e10 hfz hlt;obtain ⟨e0,e1,e2,e3,e4,e5,e6,e7,e8,e9,e10,_,_,hfz,hlt⟩:=H1.facts
  go_wp2_with fail
  go_end0
  exact ⟨rfl,HoldM.setF H1 _,M1.setF (Hold.bg h) _⟩
set_option maxRecDepth 20000 in
set_option maxHeartbeats 400000 in
theorem imp_TXA {w : World} {L : Lay} {v : Value} {c : Cpu} {b : Bus} {n : Nat} (h : HoldM w L v c b n) (hc : c.ok) : Calls Tryz.prog 113 #[.pointer (some ⟨L.g,0,none⟩),.string ⟨#[84,88,65]⟩] w fun e w' => e = .returned (.tuple #[])∧HoldM w' L v (ldA c c.X) b n∧Mv w w' L v v:=by
  have hi1 : (((⟨#[84,88,65]⟩ : ByteArray)[1]'(by decide)).toNat : Int) = 88:=rfl
  have hi2 : (((⟨#[84,88,65]⟩ : ByteArray)[2]'(by decide)).toNat : Int) = 65:=rfl
  obtain ⟨e0,e1,e2,e3,e4,e5,e6,e7,e8,e9,e10,_,_,hfz,hlt⟩:=h.facts
  have hc0:=hc
  obtain ⟨a0,a1,x0,x1,y0,y1,s0,s1,p0,p1⟩:=hc0
  have HB:=hR w;go_enter Tryz.func113,Tryz.ntmps113
  have H0:=HoldM.setA h c.X
  go_wp2_with (first | (go_at_call 156;((with_reducible refine (reg_A _ _).mono ?_);rintro _ _ ⟨rfl,rfl⟩)) | (go_at_call 156;((with_reducible refine (reg_X _ _).mono ?_);rintro _ _ ⟨rfl,rfl⟩)) | (go_at_call 156;((with_reducible refine (reg_Y _ _).mono ?_);rintro _ _ ⟨rfl,rfl⟩)) | (go_at_call 156;((with_reducible refine (reg_S _ _).mono ?_);rintro _ _ ⟨rfl,rfl⟩)))
  refine (impl_NZ _ c.F _ x0 x1).mono ?_
  rintro _ w1 ⟨rfl,hb⟩
  have H1:=HoldM.below H0 hb
  have M1:=((Mv.refl w L v h.size).set (Hold.bg h) 0 _).then hb H0.size
  clear e0 e1 e2 e3 e4 e5 e6 e7 e8 e9 e10 hfz hlt;obtain ⟨e0,e1,e2,e3,e4,e5,e6,e7,e8,e9,e10,_,_,hfz,hlt⟩:=H1.facts
  go_wp2_with fail
  go_end0
  exact ⟨rfl,HoldM.setF H1 _,M1.setF (Hold.bg h) _⟩
set_option maxRecDepth 20000 in
set_option maxHeartbeats 400000 in
theorem imp_TAY {w : World} {L : Lay} {v : Value} {c : Cpu} {b : Bus} {n : Nat} (h : HoldM w L v c b n) (hc : c.ok) : Calls Tryz.prog 113 #[.pointer (some ⟨L.g,0,none⟩),.string ⟨#[84,65,89]⟩] w fun e w' => e = .returned (.tuple #[])∧HoldM w' L v (ldY c c.A) b n∧Mv w w' L v v:=by
  have hi1 : (((⟨#[84,65,89]⟩ : ByteArray)[1]'(by decide)).toNat : Int) = 65:=rfl
  have hi2 : (((⟨#[84,65,89]⟩ : ByteArray)[2]'(by decide)).toNat : Int) = 89:=rfl
  obtain ⟨e0,e1,e2,e3,e4,e5,e6,e7,e8,e9,e10,_,_,hfz,hlt⟩:=h.facts
  have hc0:=hc
  obtain ⟨a0,a1,x0,x1,y0,y1,s0,s1,p0,p1⟩:=hc0
  have HB:=hR w;go_enter Tryz.func113,Tryz.ntmps113
  have H0:=HoldM.setY h c.A
  go_wp2_with (first | (go_at_call 156;((with_reducible refine (reg_A _ _).mono ?_);rintro _ _ ⟨rfl,rfl⟩)) | (go_at_call 156;((with_reducible refine (reg_X _ _).mono ?_);rintro _ _ ⟨rfl,rfl⟩)) | (go_at_call 156;((with_reducible refine (reg_Y _ _).mono ?_);rintro _ _ ⟨rfl,rfl⟩)) | (go_at_call 156;((with_reducible refine (reg_S _ _).mono ?_);rintro _ _ ⟨rfl,rfl⟩)))
  refine (impl_NZ _ c.F _ a0 a1).mono ?_
  rintro _ w1 ⟨rfl,hb⟩
  have H1:=HoldM.below H0 hb
  have M1:=((Mv.refl w L v h.size).set (Hold.bg h) 2 _).then hb H0.size
  clear e0 e1 e2 e3 e4 e5 e6 e7 e8 e9 e10 hfz hlt;obtain ⟨e0,e1,e2,e3,e4,e5,e6,e7,e8,e9,e10,_,_,hfz,hlt⟩:=H1.facts
  go_wp2_with fail
  go_end0
  exact ⟨rfl,HoldM.setF H1 _,M1.setF (Hold.bg h) _⟩
set_option maxRecDepth 20000 in
set_option maxHeartbeats 400000 in
theorem imp_TYA {w : World} {L : Lay} {v : Value} {c : Cpu} {b : Bus} {n : Nat} (h : HoldM w L v c b n) (hc : c.ok) : Calls Tryz.prog 113 #[.pointer (some ⟨L.g,0,none⟩),.string ⟨#[84,89,65]⟩] w fun e w' => e = .returned (.tuple #[])∧HoldM w' L v (ldA c c.Y) b n∧Mv w w' L v v:=by
  have hi1 : (((⟨#[84,89,65]⟩ : ByteArray)[1]'(by decide)).toNat : Int) = 89:=rfl
  have hi2 : (((⟨#[84,89,65]⟩ : ByteArray)[2]'(by decide)).toNat : Int) = 65:=rfl
  obtain ⟨e0,e1,e2,e3,e4,e5,e6,e7,e8,e9,e10,_,_,hfz,hlt⟩:=h.facts
  have hc0:=hc
  obtain ⟨a0,a1,x0,x1,y0,y1,s0,s1,p0,p1⟩:=hc0
  have HB:=hR w;go_enter Tryz.func113,Tryz.ntmps113
  have H0:=HoldM.setA h c.Y
  go_wp2_with (first | (go_at_call 156;((with_reducible refine (reg_A _ _).mono ?_);rintro _ _ ⟨rfl,rfl⟩)) | (go_at_call 156;((with_reducible refine (reg_X _ _).mono ?_);rintro _ _ ⟨rfl,rfl⟩)) | (go_at_call 156;((with_reducible refine (reg_Y _ _).mono ?_);rintro _ _ ⟨rfl,rfl⟩)) | (go_at_call 156;((with_reducible refine (reg_S _ _).mono ?_);rintro _ _ ⟨rfl,rfl⟩)))
  refine (impl_NZ _ c.F _ y0 y1).mono ?_
  rintro _ w1 ⟨rfl,hb⟩
  have H1:=HoldM.below H0 hb
  have M1:=((Mv.refl w L v h.size).set (Hold.bg h) 0 _).then hb H0.size
  clear e0 e1 e2 e3 e4 e5 e6 e7 e8 e9 e10 hfz hlt;obtain ⟨e0,e1,e2,e3,e4,e5,e6,e7,e8,e9,e10,_,_,hfz,hlt⟩:=H1.facts
  go_wp2_with fail
  go_end0
  exact ⟨rfl,HoldM.setF H1 _,M1.setF (Hold.bg h) _⟩
set_option maxRecDepth 20000 in
set_option maxHeartbeats 400000 in
theorem imp_TSX {w : World} {L : Lay} {v : Value} {c : Cpu} {b : Bus} {n : Nat} (h : HoldM w L v c b n) (hc : c.ok) : Calls Tryz.prog 113 #[.pointer (some ⟨L.g,0,none⟩),.string ⟨#[84,83,88]⟩] w fun e w' => e = .returned (.tuple #[])∧HoldM w' L v (ldX c c.S) b n∧Mv w w' L v v:=by
  have hi1 : (((⟨#[84,83,88]⟩ : ByteArray)[1]'(by decide)).toNat : Int) = 83:=rfl
  have hi2 : (((⟨#[84,83,88]⟩ : ByteArray)[2]'(by decide)).toNat : Int) = 88:=rfl
  obtain ⟨e0,e1,e2,e3,e4,e5,e6,e7,e8,e9,e10,_,_,hfz,hlt⟩:=h.facts
  have hc0:=hc
  obtain ⟨a0,a1,x0,x1,y0,y1,s0,s1,p0,p1⟩:=hc0
  have HB:=hR w;go_enter Tryz.func113,Tryz.ntmps113
  have H0:=HoldM.setX h c.S
  go_wp2_with (first | (go_at_call 156;((with_reducible refine (reg_A _ _).mono ?_);rintro _ _ ⟨rfl,rfl⟩)) | (go_at_call 156;((with_reducible refine (reg_X _ _).mono ?_);rintro _ _ ⟨rfl,rfl⟩)) | (go_at_call 156;((with_reducible refine (reg_Y _ _).mono ?_);rintro _ _ ⟨rfl,rfl⟩)) | (go_at_call 156;((with_reducible refine (reg_S _ _).mono ?_);rintro _ _ ⟨rfl,rfl⟩)))
  refine (impl_NZ _ c.F _ s0 s1).mono ?_
  rintro _ w1 ⟨rfl,hb⟩
  have H1:=HoldM.below H0 hb
  have M1:=((Mv.refl w L v h.size).set (Hold.bg h) 1 _).then hb H0.size
  clear e0 e1 e2 e3 e4 e5 e6 e7 e8 e9 e10 hfz hlt;obtain ⟨e0,e1,e2,e3,e4,e5,e6,e7,e8,e9,e10,_,_,hfz,hlt⟩:=H1.facts
  go_wp2_with fail
  go_end0
  exact ⟨rfl,HoldM.setF H1 _,M1.setF (Hold.bg h) _⟩
set_option maxRecDepth 20000 in
set_option maxHeartbeats 400000 in
theorem imp_TXS {w : World} {L : Lay} {v : Value} {c : Cpu} {b : Bus} {n : Nat} (h : HoldM w L v c b n) (hc : c.ok) : Calls Tryz.prog 113 #[.pointer (some ⟨L.g,0,none⟩),.string ⟨#[84,88,83]⟩] w fun e w' => e = .returned (.tuple #[])∧HoldM w' L v ({ c with S:=c.X }) b n∧Mv w w' L v v:=by
  have hi1 : (((⟨#[84,88,83]⟩ : ByteArray)[1]'(by decide)).toNat : Int) = 88:=rfl
  have hi2 : (((⟨#[84,88,83]⟩ : ByteArray)[2]'(by decide)).toNat : Int) = 83:=rfl
  obtain ⟨e0,e1,e2,e3,e4,e5,e6,e7,e8,e9,e10,_,_,hfz,hlt⟩:=h.facts
  have hc0:=hc
  obtain ⟨a0,a1,x0,x1,y0,y1,s0,s1,p0,p1⟩:=hc0
  have HB:=hR w;go_enter Tryz.func113,Tryz.ntmps113
  go_wp2_with (first | (go_at_call 156;((with_reducible refine (reg_A _ _).mono ?_);rintro _ _ ⟨rfl,rfl⟩)) | (go_at_call 156;((with_reducible refine (reg_X _ _).mono ?_);rintro _ _ ⟨rfl,rfl⟩)) | (go_at_call 156;((with_reducible refine (reg_Y _ _).mono ?_);rintro _ _ ⟨rfl,rfl⟩)) | (go_at_call 156;((with_reducible refine (reg_S _ _).mono ?_);rintro _ _ ⟨rfl,rfl⟩)))
  go_end0
  exact ⟨rfl,HoldM.setS h _,(Mv.refl w L v h.size).set (Hold.bg h) 3 _⟩
set_option maxRecDepth 20000 in
set_option maxHeartbeats 400000 in
theorem imp_CLC {w : World} {L : Lay} {v : Value} {c : Cpu} {b : Bus} {n : Nat} (h : HoldM w L v c b n) (hc : c.ok) : Calls Tryz.prog 113 #[.pointer (some ⟨L.g,0,none⟩),.string ⟨#[67,76,67]⟩] w fun e w' => e = .returned (.tuple #[])∧HoldM w' L v ({ c with F:={ c.F with C:=false } }) b n∧Mv w w' L v v:=by
  obtain ⟨e0,e1,e2,e3,e4,e5,e6,e7,e8,e9,e10,_,_,hfz,hlt⟩:=h.facts
  have hc0:=hc
  obtain ⟨a0,a1,x0,x1,y0,y1,s0,s1,p0,p1⟩:=hc0
  have HB:=hR w;go_enter Tryz.func113,Tryz.ntmps113
  go_wp2_with fail
  go_end0
  exact ⟨rfl,HoldM.setC h _,(Mv.refl w L v h.size).set (Hold.bg h) 10 _⟩
set_option maxRecDepth 20000 in
set_option maxHeartbeats 400000 in
theorem imp_SEC {w : World} {L : Lay} {v : Value} {c : Cpu} {b : Bus} {n : Nat} (h : HoldM w L v c b n) (hc : c.ok) : Calls Tryz.prog 113 #[.pointer (some ⟨L.g,0,none⟩),.string ⟨#[83,69,67]⟩] w fun e w' => e = .returned (.tuple #[])∧HoldM w' L v ({ c with F:={ c.F with C:=true } }) b n∧Mv w w' L v v:=by
  obtain ⟨e0,e1,e2,e3,e4,e5,e6,e7,e8,e9,e10,_,_,hfz,hlt⟩:=h.facts
  have hc0:=hc
  obtain ⟨a0,a1,x0,x1,y0,y1,s0,s1,p0,p1⟩:=hc0
  have HB:=hR w;go_enter Tryz.func113,Tryz.ntmps113
  go_wp2_with fail
  go_end0
  exact ⟨rfl,HoldM.setC h _,(Mv.refl w L v h.size).set (Hold.bg h) 10 _⟩
set_option maxRecDepth 20000 in
set_option maxHeartbeats 400000 in
theorem imp_CLI {w : World} {L : Lay} {v : Value} {c : Cpu} {b : Bus} {n : Nat} (h : HoldM w L v c b n) (hc : c.ok) : Calls Tryz.prog 113 #[.pointer (some ⟨L.g,0,none⟩),.string ⟨#[67,76,73]⟩] w fun e w' => e = .returned (.tuple #[])∧HoldM w' L v ({ c with F:={ c.F with I:=false } }) b n∧Mv w w' L v v:=by
  obtain ⟨e0,e1,e2,e3,e4,e5,e6,e7,e8,e9,e10,_,_,hfz,hlt⟩:=h.facts
  have hc0:=hc
  obtain ⟨a0,a1,x0,x1,y0,y1,s0,s1,p0,p1⟩:=hc0
  have HB:=hR w;go_enter Tryz.func113,Tryz.ntmps113
  go_wp2_with fail
  go_end0
  exact ⟨rfl,HoldM.setI h _,(Mv.refl w L v h.size).set (Hold.bg h) 8 _⟩
set_option maxRecDepth 20000 in
set_option maxHeartbeats 400000 in
theorem imp_SEI {w : World} {L : Lay} {v : Value} {c : Cpu} {b : Bus} {n : Nat} (h : HoldM w L v c b n) (hc : c.ok) : Calls Tryz.prog 113 #[.pointer (some ⟨L.g,0,none⟩),.string ⟨#[83,69,73]⟩] w fun e w' => e = .returned (.tuple #[])∧HoldM w' L v ({ c with F:={ c.F with I:=true } }) b n∧Mv w w' L v v:=by
  obtain ⟨e0,e1,e2,e3,e4,e5,e6,e7,e8,e9,e10,_,_,hfz,hlt⟩:=h.facts
  have hc0:=hc
  obtain ⟨a0,a1,x0,x1,y0,y1,s0,s1,p0,p1⟩:=hc0
  have HB:=hR w;go_enter Tryz.func113,Tryz.ntmps113
  go_wp2_with fail
  go_end0
  exact ⟨rfl,HoldM.setI h _,(Mv.refl w L v h.size).set (Hold.bg h) 8 _⟩
set_option maxRecDepth 20000 in
set_option maxHeartbeats 400000 in
theorem imp_CLD {w : World} {L : Lay} {v : Value} {c : Cpu} {b : Bus} {n : Nat} (h : HoldM w L v c b n) (hc : c.ok) : Calls Tryz.prog 113 #[.pointer (some ⟨L.g,0,none⟩),.string ⟨#[67,76,68]⟩] w fun e w' => e = .returned (.tuple #[])∧HoldM w' L v ({ c with F:={ c.F with D:=false } }) b n∧Mv w w' L v v:=by
  obtain ⟨e0,e1,e2,e3,e4,e5,e6,e7,e8,e9,e10,_,_,hfz,hlt⟩:=h.facts
  have hc0:=hc
  obtain ⟨a0,a1,x0,x1,y0,y1,s0,s1,p0,p1⟩:=hc0
  have HB:=hR w;go_enter Tryz.func113,Tryz.ntmps113
  go_wp2_with fail
  go_end0
  exact ⟨rfl,HoldM.setD h _,(Mv.refl w L v h.size).set (Hold.bg h) 7 _⟩
set_option maxRecDepth 20000 in
set_option maxHeartbeats 400000 in
theorem imp_SED {w : World} {L : Lay} {v : Value} {c : Cpu} {b : Bus} {n : Nat} (h : HoldM w L v c b n) (hc : c.ok) : Calls Tryz.prog 113 #[.pointer (some ⟨L.g,0,none⟩),.string ⟨#[83,69,68]⟩] w fun e w' => e = .returned (.tuple #[])∧HoldM w' L v ({ c with F:={ c.F with D:=true } }) b n∧Mv w w' L v v:=by
  obtain ⟨e0,e1,e2,e3,e4,e5,e6,e7,e8,e9,e10,_,_,hfz,hlt⟩:=h.facts
  have hc0:=hc
  obtain ⟨a0,a1,x0,x1,y0,y1,s0,s1,p0,p1⟩:=hc0
  have HB:=hR w;go_enter Tryz.func113,Tryz.ntmps113
  go_wp2_with fail
  go_end0
  exact ⟨rfl,HoldM.setD h _,(Mv.refl w L v h.size).set (Hold.bg h) 7 _⟩
set_option maxRecDepth 20000 in
set_option maxHeartbeats 400000 in
theorem imp_CLV {w : World} {L : Lay} {v : Value} {c : Cpu} {b : Bus} {n : Nat} (h : HoldM w L v c b n) (hc : c.ok) : Calls Tryz.prog 113 #[.pointer (some ⟨L.g,0,none⟩),.string ⟨#[67,76,86]⟩] w fun e w' => e = .returned (.tuple #[])∧HoldM w' L v ({ c with F:={ c.F with V:=false } }) b n∧Mv w w' L v v:=by
  obtain ⟨e0,e1,e2,e3,e4,e5,e6,e7,e8,e9,e10,_,_,hfz,hlt⟩:=h.facts
  have hc0:=hc
  obtain ⟨a0,a1,x0,x1,y0,y1,s0,s1,p0,p1⟩:=hc0
  have HB:=hR w;go_enter Tryz.func113,Tryz.ntmps113
  go_wp2_with fail
  go_end0
  exact ⟨rfl,HoldM.setV h _,(Mv.refl w L v h.size).set (Hold.bg h) 6 _⟩
set_option maxRecDepth 20000 in
set_option maxHeartbeats 1000000 in
theorem impl_implied (x : List UInt8) {w : World} {L : Lay} {v : Value} {c : Cpu} {b : Bus} {n : Nat} (h : HoldM w L v c b n) (hc : c.ok) : Calls Tryz.prog 113 #[.pointer (some ⟨L.g,0,none⟩),.string ⟨x.toArray⟩] w fun e w' => e = .returned (.tuple #[])∧HoldM w' L v (impT x c) b n∧Mv w w' L v v:=by
  refine imp_cases c x (fun x c1 => Calls Tryz.prog 113 #[.pointer (some ⟨L.g,0,none⟩),.string ⟨x.toArray⟩] w fun e w' => e = .returned (.tuple #[])∧HoldM w' L v c1 b n∧Mv w w' L v v) (imp_ASL h hc) (imp_LSR h hc) (imp_ROL h hc) (imp_ROR h hc) (imp_INX h hc) (imp_INY h hc) (imp_DEX h hc) (imp_DEY h hc) (imp_TAX h hc) (imp_TXA h hc) (imp_TAY h hc) (imp_TYA h hc) (imp_TSX h hc) (imp_TXS h hc) (imp_CLC h hc) (imp_SEC h hc) (imp_CLI h hc) (imp_SEI h hc) (imp_CLD h hc) (imp_SED h hc) (imp_CLV h hc) ?_
  intro q0 q1 q2 q3 q4 q5 q6 q7 q8 q9 q10 q11 q12 q13 q14 q15 q16 q17 q18 q19 q20
  obtain ⟨e0,e1,e2,e3,e4,e5,e6,e7,e8,e9,e10,_,_,hfz,hlt⟩:=h.facts
  have HB:=hR w;go_enter Tryz.func113,Tryz.ntmps113
  go_wp2_with fail
  go_end0
  exact ⟨rfl,h,Mv.refl w L v h.size⟩
open Go.RowKit Go.Proofs.YtoncmhfmkfeolaaGreatDoorW.PrintWords
theorem HoldM.mono {w : World} {L : Lay} {v : Value} {c : Cpu} {b : Bus} {n k : Nat} (h : HoldM w L v c b n) (hk : n ≤ k) : HoldM w L v c b k :=
  have h : Hold w L v _ _ b n:=h
  ⟨h.blk,h.mem,h.log,h.bg,h.gr,h.gv,h.rv,h.ok,h.mb,h.tb,Nat.le_trans h.tn hk⟩
theorem impl_rd (a : Int) (l : List Int) {w : World} {L : Lay} {v : Value} {c : Cpu} {b : Bus} {n : Nat} (h : HoldM w L v c b n) (e : b.m = l) (hn : n ≤ 900000) (h0 : 0 ≤ a) (h1 : a < 65536) :
    Calls Tryz.prog 105 #[.pointer (some ⟨L.g,0,none⟩),.int .u16 a] w fun e w' => e = .returned (.int .u8 (peek l a))∧∃ v',HoldM w' L v' c (b.rd a) (n+1)∧Mv w w' L v v':=by
  subst e;exact impl_read a h (by omega) h0 h1
theorem impl_rdTwo (x y : Int) (l : List Int) {w : World} {L : Lay} {v : Value} {c : Cpu} {b : Bus} {n : Nat} (h : HoldM w L v c b n) (e : b.m = l) (hn : n ≤ 900000) (h0 : 0 ≤ x) (h1 : x < 65536) (h2 : 0 ≤ y) (h3 : y < 65536) :
    Calls Tryz.prog 108 #[.pointer (some ⟨L.g,0,none⟩),.int .u16 x,.int .u16 y] w fun e w' => e = .returned (.int .u16 (word2 (peek l x) (peek l y)))∧∃ v',HoldM w' L v' c ((b.rd x).rd y) (n+1+1)∧Mv w w' L v v':=by
  subst e;exact impl_readTwo x y h hn h0 h1 h2 h3
theorem HoldM.peeks {w : World} {L : Lay} {v : Value} {c : Cpu} {b : Bus} {n : Nat} (h : HoldM w L v c b n) : peek_in b.m:=Hold.mb h
def PlaceSaid (m k : Int) : Prop:=∀ {w : World} {L : Lay} {v : Value} {c : Cpu} {b : Bus} {n : Nat} (_ : HoldM w L v c b n) (_ : n ≤ 800000) (_ : c.ok),
    Calls Tryz.prog 158 #[.pointer (some ⟨L.g,0,none⟩),.int .i64 m,.int .i64 k] w fun e w' => e = .returned (.int .u16 (plc c b m k).1)∧∃ v',HoldM w' L v' c (plc c b m k).2 (n+5)∧Mv w w' L v v'
set_option maxRecDepth 20000 in
set_option maxHeartbeats 400000 in
theorem place_3 (k : Int) : PlaceSaid 3 k:=by
  intro w L v c b n h hn hc;obtain ⟨a0,a1,x0,x1,y0,y1,s0,s1,p0,p1⟩:=hc;have M0:=Mv.refl w L v h.size;have pk:=peek_of h.peeks;obtain ⟨z0,z1⟩:=pk ((c.PC+1) % 65536);obtain ⟨e0,e1,e2,e3,e4,e5,e6,e7,e8,e9,e10,_,_,hfz,hlt⟩:=h.facts
  have HB:=hR w;go_enter Tryz.func158,Tryz.ntmps158
  go_wp2_with fail;refine Calls.mono (impl_rd ((c.PC+1) % 65536) b.m h rfl (by omega) (by omega) (by omega)) ?_;rintro _ w1 ⟨rfl,v1,H1,M1⟩;have M1:=M0.tr M1;clear e0 e1 e2 e3 e4 e5 e6 e7 e8 e9 e10 hfz hlt;obtain ⟨e0,e1,e2,e3,e4,e5,e6,e7,e8,e9,e10,_,_,hfz,hlt⟩:=H1.facts
  go_wp2_with fail
  go_ret
  exact ⟨rfl,_,H1.mono (by omega),M1⟩
set_option maxRecDepth 20000 in
set_option maxHeartbeats 400000 in
theorem place_4 (k : Int) : PlaceSaid 4 k:=by
  intro w L v c b n h hn hc;obtain ⟨a0,a1,x0,x1,y0,y1,s0,s1,p0,p1⟩:=hc;have M0:=Mv.refl w L v h.size;have pk:=peek_of h.peeks;obtain ⟨z0,z1⟩:=pk ((c.PC+1) % 65536);obtain ⟨e0,e1,e2,e3,e4,e5,e6,e7,e8,e9,e10,_,_,hfz,hlt⟩:=h.facts
  have HB:=hR w;go_enter Tryz.func158,Tryz.ntmps158
  go_wp2_with fail;refine Calls.mono (impl_rd ((c.PC+1) % 65536) b.m h rfl (by omega) (by omega) (by omega)) ?_;rintro _ w1 ⟨rfl,v1,H1,M1⟩;have M1:=M0.tr M1;clear e0 e1 e2 e3 e4 e5 e6 e7 e8 e9 e10 hfz hlt;obtain ⟨e0,e1,e2,e3,e4,e5,e6,e7,e8,e9,e10,_,_,hfz,hlt⟩:=H1.facts
  go_wp2_with fail;refine Calls.mono (impl_rd (peek b.m ((c.PC+1) % 65536)) b.m H1 rfl (by omega) (by omega) (by omega)) ?_;rintro _ w2 ⟨rfl,v2,H2,M2⟩;have M2:=M1.tr M2;clear e0 e1 e2 e3 e4 e5 e6 e7 e8 e9 e10 hfz hlt;obtain ⟨e0,e1,e2,e3,e4,e5,e6,e7,e8,e9,e10,_,_,hfz,hlt⟩:=H2.facts
  go_wp2_with fail
  go_ret
  exact ⟨rfl,_,H2.mono (by omega),M2⟩
set_option maxRecDepth 20000 in
set_option maxHeartbeats 400000 in
theorem place_5 (k : Int) : PlaceSaid 5 k:=by
  intro w L v c b n h hn hc;obtain ⟨a0,a1,x0,x1,y0,y1,s0,s1,p0,p1⟩:=hc;have M0:=Mv.refl w L v h.size;have pk:=peek_of h.peeks;obtain ⟨z0,z1⟩:=pk ((c.PC+1) % 65536);obtain ⟨e0,e1,e2,e3,e4,e5,e6,e7,e8,e9,e10,_,_,hfz,hlt⟩:=h.facts
  have HB:=hR w;go_enter Tryz.func158,Tryz.ntmps158
  go_wp2_with fail;refine Calls.mono (impl_rd ((c.PC+1) % 65536) b.m h rfl (by omega) (by omega) (by omega)) ?_;rintro _ w1 ⟨rfl,v1,H1,M1⟩;have M1:=M0.tr M1;clear e0 e1 e2 e3 e4 e5 e6 e7 e8 e9 e10 hfz hlt;obtain ⟨e0,e1,e2,e3,e4,e5,e6,e7,e8,e9,e10,_,_,hfz,hlt⟩:=H1.facts
  go_wp2_with fail;refine Calls.mono (impl_rd (peek b.m ((c.PC+1) % 65536)) b.m H1 rfl (by omega) (by omega) (by omega)) ?_;rintro _ w2 ⟨rfl,v2,H2,M2⟩;have M2:=M1.tr M2;clear e0 e1 e2 e3 e4 e5 e6 e7 e8 e9 e10 hfz hlt;obtain ⟨e0,e1,e2,e3,e4,e5,e6,e7,e8,e9,e10,_,_,hfz,hlt⟩:=H2.facts
  go_wp2_with fail
  go_ret
  exact ⟨rfl,_,H2.mono (by omega),M2⟩
set_option maxRecDepth 20000 in
set_option maxHeartbeats 400000 in
theorem place_6 (k : Int) : PlaceSaid 6 k:=by
  intro w L v c b n h hn hc;obtain ⟨a0,a1,x0,x1,y0,y1,s0,s1,p0,p1⟩:=hc;have M0:=Mv.refl w L v h.size;have pk:=peek_of h.peeks;obtain ⟨z0,z1⟩:=pk ((c.PC+1) % 65536);obtain ⟨e0,e1,e2,e3,e4,e5,e6,e7,e8,e9,e10,_,_,hfz,hlt⟩:=h.facts
  obtain ⟨y2,y3⟩:=pk ((c.PC+2) % 65536)
  have HB:=hR w;go_enter Tryz.func158,Tryz.ntmps158
  go_wp2_with fail;refine Calls.mono (impl_rd ((c.PC+1) % 65536) b.m h rfl (by omega) (by omega) (by omega)) ?_;rintro _ w1 ⟨rfl,v1,H1,M1⟩;have M1:=M0.tr M1;clear e0 e1 e2 e3 e4 e5 e6 e7 e8 e9 e10 hfz hlt;obtain ⟨e0,e1,e2,e3,e4,e5,e6,e7,e8,e9,e10,_,_,hfz,hlt⟩:=H1.facts
  go_wp2_with fail;refine Calls.mono (impl_rd ((c.PC+2) % 65536) b.m H1 rfl (by omega) (by omega) (by omega)) ?_;rintro _ w2 ⟨rfl,v2,H2,M2⟩;have M2:=M1.tr M2;clear e0 e1 e2 e3 e4 e5 e6 e7 e8 e9 e10 hfz hlt;obtain ⟨e0,e1,e2,e3,e4,e5,e6,e7,e8,e9,e10,_,_,hfz,hlt⟩:=H2.facts
  go_wp2_with (first | (go_at_call 151;((with_reducible refine (impl_wordOf _ _ _ z0 z1 y2 y3).mono ?_);rintro _ _ ⟨rfl,rfl⟩)))
  go_ret
  exact ⟨rfl,_,H2.mono (by omega),M2⟩
set_option maxRecDepth 20000 in
set_option maxHeartbeats 400000 in
theorem place_10 (k : Int) : PlaceSaid 10 k:=by
  intro w L v c b n h hn hc;obtain ⟨a0,a1,x0,x1,y0,y1,s0,s1,p0,p1⟩:=hc;have M0:=Mv.refl w L v h.size;have pk:=peek_of h.peeks;obtain ⟨z0,z1⟩:=pk ((c.PC+1) % 65536);obtain ⟨e0,e1,e2,e3,e4,e5,e6,e7,e8,e9,e10,_,_,hfz,hlt⟩:=h.facts
  have hx1 : IntKind.u8.wrap (peek b.m ((c.PC+1) % 65536)+c.X) = (peek b.m ((c.PC+1) % 65536)+c.X) % 256:=IntKind.wrap_u8 _
  have hx2 : IntKind.u8.wrap ((peek b.m ((c.PC+1) % 65536)+c.X) % 256+1) = (peek b.m ((c.PC+1) % 65536)+c.X+1) % 256:=by rw [IntKind.wrap_u8];omega
  have hx3 : IntKind.u16.wrap ((peek b.m ((c.PC+1) % 65536)+c.X) % 256) = (peek b.m ((c.PC+1) % 65536)+c.X) % 256:=by rw [IntKind.wrap_u16];omega
  have hx4 : IntKind.u16.wrap ((peek b.m ((c.PC+1) % 65536)+c.X+1) % 256) = (peek b.m ((c.PC+1) % 65536)+c.X+1) % 256:=by rw [IntKind.wrap_u16];omega
  have HB:=hR w;go_enter Tryz.func158,Tryz.ntmps158
  go_wp2_with fail;refine Calls.mono (impl_rd ((c.PC+1) % 65536) b.m h rfl (by omega) (by omega) (by omega)) ?_;rintro _ w1 ⟨rfl,v1,H1,M1⟩;have M1:=M0.tr M1;clear e0 e1 e2 e3 e4 e5 e6 e7 e8 e9 e10 hfz hlt;obtain ⟨e0,e1,e2,e3,e4,e5,e6,e7,e8,e9,e10,_,_,hfz,hlt⟩:=H1.facts
  go_wp2_with fail;refine Calls.mono (impl_rd (peek b.m ((c.PC+1) % 65536)) b.m H1 rfl (by omega) (by omega) (by omega)) ?_;rintro _ w2 ⟨rfl,v2,H2,M2⟩;have M2:=M1.tr M2;clear e0 e1 e2 e3 e4 e5 e6 e7 e8 e9 e10 hfz hlt;obtain ⟨e0,e1,e2,e3,e4,e5,e6,e7,e8,e9,e10,_,_,hfz,hlt⟩:=H2.facts
  go_wp2_with fail
  go_region_held3 (fun w' => w'.cell? ⟨L.g,1,none⟩ = some (.int .u8 c.X)) (first | (go_keep;done) | (go_split_ands;(repeat' apply And.intro) <;> (first | (with_reducible assumption) | (go_simp;done) | (exact cell_keep blw (by assumption)) | exact blw))) (first | (go_at_call 108;((with_reducible refine Calls.mono (impl_rdTwo ((peek b.m ((c.PC+1) % 65536)+c.X) % 256) ((peek b.m ((c.PC+1) % 65536)+c.X+1) % 256) b.m (HoldM.below H2 (blw)) rfl (by omega) (by omega) (by omega) (by omega) (by omega)) ?_);rintro _ w3 ⟨rfl,v3,H3,M3⟩;have M3:=(M2.bl (blw)).tr M3;clear e0 e1 e2 e3 e4 e5 e6 e7 e8 e9 e10 hfz hlt;obtain ⟨e0,e1,e2,e3,e4,e5,e6,e7,e8,e9,e10,_,_,hfz,hlt⟩:=H3.facts)))
  go_wp2_with fail
  go_ret
  exact ⟨rfl,_,H3.mono (by omega),M3⟩
set_option maxRecDepth 20000 in
set_option maxHeartbeats 1000000 in
theorem place_11 (k : Int) : PlaceSaid 11 k:=by
  intro w L v c b n h hn hc;obtain ⟨a0,a1,x0,x1,y0,y1,s0,s1,p0,p1⟩:=hc;have M0:=Mv.refl w L v h.size;have pk:=peek_of h.peeks;obtain ⟨z0,z1⟩:=pk ((c.PC+1) % 65536);obtain ⟨e0,e1,e2,e3,e4,e5,e6,e7,e8,e9,e10,_,_,hfz,hlt⟩:=h.facts
  obtain ⟨B,hB⟩ : ∃ B,word2 (peek b.m (peek b.m ((c.PC+1) % 65536))) (peek b.m ((peek b.m ((c.PC+1) % 65536)+1) % 256)) = B:=⟨_,rfl⟩
  obtain ⟨b0,b1⟩ : 0 ≤ B∧B < 65536:=by rw [← hB];exact word2_in (pk _) (pk _)
  obtain ⟨E,hE⟩ : ∃ E,IntKind.u16.wrap (B+c.Y) = E:=⟨_,rfl⟩;have HE:=Aside0.mk (show (B+c.Y) % 65536 = E from by { rw [← hE,IntKind.wrap_u16] });have e0' : 0 ≤ E:=by { have:=HE.out;omega };have e1' : E < 65536:=by { have:=HE.out;omega };have q1:=u16_hi B b0 b1;have q2:=u16_lo E e0' e1';have q3:=u16_pg B E b0 b1;obtain ⟨g0,g1⟩:=pg_b (e:=E) b0 b1
  rw [show plc c b 11 k = (E,fixB (((lo1 c b).rd (peek b.m ((c.PC+1) % 65536))).rd ((peek b.m ((c.PC+1) % 65536)+1) % 256)) k B E) from by rw [← HE.out,← hB];rfl]
  by_cases hk : k = 2;(focus (subst hk;by_cases he : pg B E = E;(focus (rw [show fixB (((lo1 c b).rd (peek b.m ((c.PC+1) % 65536))).rd ((peek b.m ((c.PC+1) % 65536)+1) % 256)) 2 B E = (((lo1 c b).rd (peek b.m ((c.PC+1) % 65536))).rd ((peek b.m ((c.PC+1) % 65536)+1) % 256)) from by simp [fixB,he]];have he1 : (pg B E != E) = false:=by { simp [he] };clear he;have HB:=hR w;go_enter Tryz.func158,Tryz.ntmps158;go_wp2_with fail;refine Calls.mono (impl_rd ((c.PC+1) % 65536) b.m h rfl (by omega) (by omega) (by omega)) ?_;rintro _ w1 ⟨rfl,v1,H1,M1⟩;have M1:=M0.tr M1;clear e0 e1 e2 e3 e4 e5 e6 e7 e8 e9 e10 hfz hlt;obtain ⟨e0,e1,e2,e3,e4,e5,e6,e7,e8,e9,e10,_,_,hfz,hlt⟩:=H1.facts;go_wp2_with fail;refine Calls.mono (impl_rdTwo _ _ b.m H1 rfl (by omega) (by omega) (by omega) (by omega) (by omega)) ?_;rintro _ w2 ⟨rfl,v2,H2,M2⟩;have M2:=M1.tr M2;clear e0 e1 e2 e3 e4 e5 e6 e7 e8 e9 e10 hfz hlt;obtain ⟨e0,e1,e2,e3,e4,e5,e6,e7,e8,e9,e10,_,_,hfz,hlt⟩:=H2.facts;go_wp2_with fail;go_ret;exact ⟨rfl,_,H2.mono (by omega),M2⟩));rw [show fixB (((lo1 c b).rd (peek b.m ((c.PC+1) % 65536))).rd ((peek b.m ((c.PC+1) % 65536)+1) % 256)) 2 B E = ((((lo1 c b).rd (peek b.m ((c.PC+1) % 65536))).rd ((peek b.m ((c.PC+1) % 65536)+1) % 256))).rd (pg B E) from by simp [fixB,he]];have he1 : (pg B E != E) = true:=by { simp [he] };clear he;have HB:=hR w;go_enter Tryz.func158,Tryz.ntmps158;go_wp2_with fail;refine Calls.mono (impl_rd ((c.PC+1) % 65536) b.m h rfl (by omega) (by omega) (by omega)) ?_;rintro _ w1 ⟨rfl,v1,H1,M1⟩;have M1:=M0.tr M1;clear e0 e1 e2 e3 e4 e5 e6 e7 e8 e9 e10 hfz hlt;obtain ⟨e0,e1,e2,e3,e4,e5,e6,e7,e8,e9,e10,_,_,hfz,hlt⟩:=H1.facts;go_wp2_with fail;refine Calls.mono (impl_rdTwo _ _ b.m H1 rfl (by omega) (by omega) (by omega) (by omega) (by omega)) ?_;rintro _ w2 ⟨rfl,v2,H2,M2⟩;have M2:=M1.tr M2;clear e0 e1 e2 e3 e4 e5 e6 e7 e8 e9 e10 hfz hlt;obtain ⟨e0,e1,e2,e3,e4,e5,e6,e7,e8,e9,e10,_,_,hfz,hlt⟩:=H2.facts;go_wp2_with fail;refine Calls.mono (impl_rd (pg B E) b.m H2 rfl (by omega) (by omega) (by omega)) ?_;rintro _ w7 ⟨rfl,v7,H7,M7⟩;have M7:=M2.tr M7;clear e0 e1 e2 e3 e4 e5 e6 e7 e8 e9 e10 hfz hlt;obtain ⟨e0,e1,e2,e3,e4,e5,e6,e7,e8,e9,e10,_,_,hfz,hlt⟩:=H7.facts;go_wp2_with fail;go_ret;exact ⟨rfl,_,H7.mono (by omega),M7⟩));rw [show fixB (((lo1 c b).rd (peek b.m ((c.PC+1) % 65536))).rd ((peek b.m ((c.PC+1) % 65536)+1) % 256)) k B E = ((((lo1 c b).rd (peek b.m ((c.PC+1) % 65536))).rd ((peek b.m ((c.PC+1) % 65536)+1) % 256))).rd (pg B E) from by simp [fixB,hk]];have hk1 : (k != 2) = true:=by { simp [hk] };clear hk;have HB:=hR w;go_enter Tryz.func158,Tryz.ntmps158;go_wp2_with fail;refine Calls.mono (impl_rd ((c.PC+1) % 65536) b.m h rfl (by omega) (by omega) (by omega)) ?_;rintro _ w1 ⟨rfl,v1,H1,M1⟩;have M1:=M0.tr M1;clear e0 e1 e2 e3 e4 e5 e6 e7 e8 e9 e10 hfz hlt;obtain ⟨e0,e1,e2,e3,e4,e5,e6,e7,e8,e9,e10,_,_,hfz,hlt⟩:=H1.facts;go_wp2_with fail;refine Calls.mono (impl_rdTwo _ _ b.m H1 rfl (by omega) (by omega) (by omega) (by omega) (by omega)) ?_;rintro _ w2 ⟨rfl,v2,H2,M2⟩;have M2:=M1.tr M2;clear e0 e1 e2 e3 e4 e5 e6 e7 e8 e9 e10 hfz hlt;obtain ⟨e0,e1,e2,e3,e4,e5,e6,e7,e8,e9,e10,_,_,hfz,hlt⟩:=H2.facts;go_wp2_with fail;refine Calls.mono (impl_rd (pg B E) b.m H2 rfl (by omega) (by omega) (by omega)) ?_;rintro _ w7 ⟨rfl,v7,H7,M7⟩;have M7:=M2.tr M7;clear e0 e1 e2 e3 e4 e5 e6 e7 e8 e9 e10 hfz hlt;obtain ⟨e0,e1,e2,e3,e4,e5,e6,e7,e8,e9,e10,_,_,hfz,hlt⟩:=H7.facts;go_wp2_with fail;go_ret;exact ⟨rfl,_,H7.mono (by omega),M7⟩
set_option maxRecDepth 20000 in
set_option maxHeartbeats 1000000 in
theorem place_7 (k : Int) : PlaceSaid 7 k:=by
  intro w L v c b n h hn hc;obtain ⟨a0,a1,x0,x1,y0,y1,s0,s1,p0,p1⟩:=hc;have M0:=Mv.refl w L v h.size;have pk:=peek_of h.peeks;obtain ⟨z0,z1⟩:=pk ((c.PC+1) % 65536);obtain ⟨e0,e1,e2,e3,e4,e5,e6,e7,e8,e9,e10,_,_,hfz,hlt⟩:=h.facts
  obtain ⟨y2,y3⟩:=pk ((c.PC+2) % 65536)
  obtain ⟨B,hB⟩ : ∃ B,word2 (peek b.m ((c.PC+1) % 65536)) (peek b.m ((c.PC+2) % 65536)) = B:=⟨_,rfl⟩
  obtain ⟨b0,b1⟩ : 0 ≤ B∧B < 65536:=by rw [← hB];exact word2_in (pk _) (pk _)
  obtain ⟨E,hE⟩ : ∃ E,IntKind.u16.wrap (B+c.X) = E:=⟨_,rfl⟩;have HE:=Aside0.mk (show (B+c.X) % 65536 = E from by { rw [← hE,IntKind.wrap_u16] });have e0' : 0 ≤ E:=by { have:=HE.out;omega };have e1' : E < 65536:=by { have:=HE.out;omega };have q1:=u16_hi B b0 b1;have q2:=u16_lo E e0' e1';have q3:=u16_pg B E b0 b1;obtain ⟨g0,g1⟩:=pg_b (e:=E) b0 b1
  rw [show plc c b 7 k = (E,fixB ((lo1 c b).rd ((c.PC+2) % 65536)) k B E) from by rw [← HE.out,← hB];rfl]
  by_cases hk : k = 2;(focus (subst hk;by_cases he : pg B E = E;(focus (rw [show fixB ((lo1 c b).rd ((c.PC+2) % 65536)) 2 B E = ((lo1 c b).rd ((c.PC+2) % 65536)) from by simp [fixB,he]];have he1 : (pg B E != E) = false:=by { simp [he] };clear he;have HB:=hR w;go_enter Tryz.func158,Tryz.ntmps158;go_wp2_with fail;refine Calls.mono (impl_rd ((c.PC+1) % 65536) b.m h rfl (by omega) (by omega) (by omega)) ?_;rintro _ w1 ⟨rfl,v1,H1,M1⟩;have M1:=M0.tr M1;clear e0 e1 e2 e3 e4 e5 e6 e7 e8 e9 e10 hfz hlt;obtain ⟨e0,e1,e2,e3,e4,e5,e6,e7,e8,e9,e10,_,_,hfz,hlt⟩:=H1.facts;go_wp2_with fail;refine Calls.mono (impl_rd ((c.PC+2) % 65536) b.m H1 rfl (by omega) (by omega) (by omega)) ?_;rintro _ w2 ⟨rfl,v2,H2,M2⟩;have M2:=M1.tr M2;clear e0 e1 e2 e3 e4 e5 e6 e7 e8 e9 e10 hfz hlt;obtain ⟨e0,e1,e2,e3,e4,e5,e6,e7,e8,e9,e10,_,_,hfz,hlt⟩:=H2.facts;go_wp2_with (first | (go_at_call 151;((with_reducible refine (impl_wordOf _ _ _ z0 z1 y2 y3).mono ?_);rintro _ _ ⟨rfl,rfl⟩)));go_wp2_with fail;go_ret;exact ⟨rfl,_,H2.mono (by omega),M2⟩));rw [show fixB ((lo1 c b).rd ((c.PC+2) % 65536)) 2 B E = (((lo1 c b).rd ((c.PC+2) % 65536))).rd (pg B E) from by simp [fixB,he]];have he1 : (pg B E != E) = true:=by { simp [he] };clear he;have HB:=hR w;go_enter Tryz.func158,Tryz.ntmps158;go_wp2_with fail;refine Calls.mono (impl_rd ((c.PC+1) % 65536) b.m h rfl (by omega) (by omega) (by omega)) ?_;rintro _ w1 ⟨rfl,v1,H1,M1⟩;have M1:=M0.tr M1;clear e0 e1 e2 e3 e4 e5 e6 e7 e8 e9 e10 hfz hlt;obtain ⟨e0,e1,e2,e3,e4,e5,e6,e7,e8,e9,e10,_,_,hfz,hlt⟩:=H1.facts;go_wp2_with fail;refine Calls.mono (impl_rd ((c.PC+2) % 65536) b.m H1 rfl (by omega) (by omega) (by omega)) ?_;rintro _ w2 ⟨rfl,v2,H2,M2⟩;have M2:=M1.tr M2;clear e0 e1 e2 e3 e4 e5 e6 e7 e8 e9 e10 hfz hlt;obtain ⟨e0,e1,e2,e3,e4,e5,e6,e7,e8,e9,e10,_,_,hfz,hlt⟩:=H2.facts;go_wp2_with (first | (go_at_call 151;((with_reducible refine (impl_wordOf _ _ _ z0 z1 y2 y3).mono ?_);rintro _ _ ⟨rfl,rfl⟩)));go_wp2_with fail;refine Calls.mono (impl_rd (pg B E) b.m H2 rfl (by omega) (by omega) (by omega)) ?_;rintro _ w7 ⟨rfl,v7,H7,M7⟩;have M7:=M2.tr M7;clear e0 e1 e2 e3 e4 e5 e6 e7 e8 e9 e10 hfz hlt;obtain ⟨e0,e1,e2,e3,e4,e5,e6,e7,e8,e9,e10,_,_,hfz,hlt⟩:=H7.facts;go_wp2_with fail;go_ret;exact ⟨rfl,_,H7.mono (by omega),M7⟩));rw [show fixB ((lo1 c b).rd ((c.PC+2) % 65536)) k B E = (((lo1 c b).rd ((c.PC+2) % 65536))).rd (pg B E) from by simp [fixB,hk]];have hk1 : (k != 2) = true:=by { simp [hk] };clear hk;have HB:=hR w;go_enter Tryz.func158,Tryz.ntmps158;go_wp2_with fail;refine Calls.mono (impl_rd ((c.PC+1) % 65536) b.m h rfl (by omega) (by omega) (by omega)) ?_;rintro _ w1 ⟨rfl,v1,H1,M1⟩;have M1:=M0.tr M1;clear e0 e1 e2 e3 e4 e5 e6 e7 e8 e9 e10 hfz hlt;obtain ⟨e0,e1,e2,e3,e4,e5,e6,e7,e8,e9,e10,_,_,hfz,hlt⟩:=H1.facts;go_wp2_with fail;refine Calls.mono (impl_rd ((c.PC+2) % 65536) b.m H1 rfl (by omega) (by omega) (by omega)) ?_;rintro _ w2 ⟨rfl,v2,H2,M2⟩;have M2:=M1.tr M2;clear e0 e1 e2 e3 e4 e5 e6 e7 e8 e9 e10 hfz hlt;obtain ⟨e0,e1,e2,e3,e4,e5,e6,e7,e8,e9,e10,_,_,hfz,hlt⟩:=H2.facts;go_wp2_with (first | (go_at_call 151;((with_reducible refine (impl_wordOf _ _ _ z0 z1 y2 y3).mono ?_);rintro _ _ ⟨rfl,rfl⟩)));go_wp2_with fail;refine Calls.mono (impl_rd (pg B E) b.m H2 rfl (by omega) (by omega) (by omega)) ?_;rintro _ w7 ⟨rfl,v7,H7,M7⟩;have M7:=M2.tr M7;clear e0 e1 e2 e3 e4 e5 e6 e7 e8 e9 e10 hfz hlt;obtain ⟨e0,e1,e2,e3,e4,e5,e6,e7,e8,e9,e10,_,_,hfz,hlt⟩:=H7.facts;go_wp2_with fail;go_ret;exact ⟨rfl,_,H7.mono (by omega),M7⟩
set_option maxRecDepth 20000 in
set_option maxHeartbeats 1000000 in
theorem place_8 (k : Int) : PlaceSaid 8 k:=by
  intro w L v c b n h hn hc;obtain ⟨a0,a1,x0,x1,y0,y1,s0,s1,p0,p1⟩:=hc;have M0:=Mv.refl w L v h.size;have pk:=peek_of h.peeks;obtain ⟨z0,z1⟩:=pk ((c.PC+1) % 65536);obtain ⟨e0,e1,e2,e3,e4,e5,e6,e7,e8,e9,e10,_,_,hfz,hlt⟩:=h.facts
  obtain ⟨y2,y3⟩:=pk ((c.PC+2) % 65536)
  obtain ⟨B,hB⟩ : ∃ B,word2 (peek b.m ((c.PC+1) % 65536)) (peek b.m ((c.PC+2) % 65536)) = B:=⟨_,rfl⟩
  obtain ⟨b0,b1⟩ : 0 ≤ B∧B < 65536:=by rw [← hB];exact word2_in (pk _) (pk _)
  obtain ⟨E,hE⟩ : ∃ E,IntKind.u16.wrap (B+c.Y) = E:=⟨_,rfl⟩;have HE:=Aside0.mk (show (B+c.Y) % 65536 = E from by { rw [← hE,IntKind.wrap_u16] });have e0' : 0 ≤ E:=by { have:=HE.out;omega };have e1' : E < 65536:=by { have:=HE.out;omega };have q1:=u16_hi B b0 b1;have q2:=u16_lo E e0' e1';have q3:=u16_pg B E b0 b1;obtain ⟨g0,g1⟩:=pg_b (e:=E) b0 b1
  rw [show plc c b 8 k = (E,fixB ((lo1 c b).rd ((c.PC+2) % 65536)) k B E) from by rw [← HE.out,← hB];rfl]
  by_cases hk : k = 2;(focus (subst hk;by_cases he : pg B E = E;(focus (rw [show fixB ((lo1 c b).rd ((c.PC+2) % 65536)) 2 B E = ((lo1 c b).rd ((c.PC+2) % 65536)) from by simp [fixB,he]];have he1 : (pg B E != E) = false:=by { simp [he] };clear he;have HB:=hR w;go_enter Tryz.func158,Tryz.ntmps158;go_wp2_with fail;refine Calls.mono (impl_rd ((c.PC+1) % 65536) b.m h rfl (by omega) (by omega) (by omega)) ?_;rintro _ w1 ⟨rfl,v1,H1,M1⟩;have M1:=M0.tr M1;clear e0 e1 e2 e3 e4 e5 e6 e7 e8 e9 e10 hfz hlt;obtain ⟨e0,e1,e2,e3,e4,e5,e6,e7,e8,e9,e10,_,_,hfz,hlt⟩:=H1.facts;go_wp2_with fail;refine Calls.mono (impl_rd ((c.PC+2) % 65536) b.m H1 rfl (by omega) (by omega) (by omega)) ?_;rintro _ w2 ⟨rfl,v2,H2,M2⟩;have M2:=M1.tr M2;clear e0 e1 e2 e3 e4 e5 e6 e7 e8 e9 e10 hfz hlt;obtain ⟨e0,e1,e2,e3,e4,e5,e6,e7,e8,e9,e10,_,_,hfz,hlt⟩:=H2.facts;go_wp2_with (first | (go_at_call 151;((with_reducible refine (impl_wordOf _ _ _ z0 z1 y2 y3).mono ?_);rintro _ _ ⟨rfl,rfl⟩)));go_wp2_with fail;go_ret;exact ⟨rfl,_,H2.mono (by omega),M2⟩));rw [show fixB ((lo1 c b).rd ((c.PC+2) % 65536)) 2 B E = (((lo1 c b).rd ((c.PC+2) % 65536))).rd (pg B E) from by simp [fixB,he]];have he1 : (pg B E != E) = true:=by { simp [he] };clear he;have HB:=hR w;go_enter Tryz.func158,Tryz.ntmps158;go_wp2_with fail;refine Calls.mono (impl_rd ((c.PC+1) % 65536) b.m h rfl (by omega) (by omega) (by omega)) ?_;rintro _ w1 ⟨rfl,v1,H1,M1⟩;have M1:=M0.tr M1;clear e0 e1 e2 e3 e4 e5 e6 e7 e8 e9 e10 hfz hlt;obtain ⟨e0,e1,e2,e3,e4,e5,e6,e7,e8,e9,e10,_,_,hfz,hlt⟩:=H1.facts;go_wp2_with fail;refine Calls.mono (impl_rd ((c.PC+2) % 65536) b.m H1 rfl (by omega) (by omega) (by omega)) ?_;rintro _ w2 ⟨rfl,v2,H2,M2⟩;have M2:=M1.tr M2;clear e0 e1 e2 e3 e4 e5 e6 e7 e8 e9 e10 hfz hlt;obtain ⟨e0,e1,e2,e3,e4,e5,e6,e7,e8,e9,e10,_,_,hfz,hlt⟩:=H2.facts;go_wp2_with (first | (go_at_call 151;((with_reducible refine (impl_wordOf _ _ _ z0 z1 y2 y3).mono ?_);rintro _ _ ⟨rfl,rfl⟩)));go_wp2_with fail;refine Calls.mono (impl_rd (pg B E) b.m H2 rfl (by omega) (by omega) (by omega)) ?_;rintro _ w7 ⟨rfl,v7,H7,M7⟩;have M7:=M2.tr M7;clear e0 e1 e2 e3 e4 e5 e6 e7 e8 e9 e10 hfz hlt;obtain ⟨e0,e1,e2,e3,e4,e5,e6,e7,e8,e9,e10,_,_,hfz,hlt⟩:=H7.facts;go_wp2_with fail;go_ret;exact ⟨rfl,_,H7.mono (by omega),M7⟩));rw [show fixB ((lo1 c b).rd ((c.PC+2) % 65536)) k B E = (((lo1 c b).rd ((c.PC+2) % 65536))).rd (pg B E) from by simp [fixB,hk]];have hk1 : (k != 2) = true:=by { simp [hk] };clear hk;have HB:=hR w;go_enter Tryz.func158,Tryz.ntmps158;go_wp2_with fail;refine Calls.mono (impl_rd ((c.PC+1) % 65536) b.m h rfl (by omega) (by omega) (by omega)) ?_;rintro _ w1 ⟨rfl,v1,H1,M1⟩;have M1:=M0.tr M1;clear e0 e1 e2 e3 e4 e5 e6 e7 e8 e9 e10 hfz hlt;obtain ⟨e0,e1,e2,e3,e4,e5,e6,e7,e8,e9,e10,_,_,hfz,hlt⟩:=H1.facts;go_wp2_with fail;refine Calls.mono (impl_rd ((c.PC+2) % 65536) b.m H1 rfl (by omega) (by omega) (by omega)) ?_;rintro _ w2 ⟨rfl,v2,H2,M2⟩;have M2:=M1.tr M2;clear e0 e1 e2 e3 e4 e5 e6 e7 e8 e9 e10 hfz hlt;obtain ⟨e0,e1,e2,e3,e4,e5,e6,e7,e8,e9,e10,_,_,hfz,hlt⟩:=H2.facts;go_wp2_with (first | (go_at_call 151;((with_reducible refine (impl_wordOf _ _ _ z0 z1 y2 y3).mono ?_);rintro _ _ ⟨rfl,rfl⟩)));go_wp2_with fail;refine Calls.mono (impl_rd (pg B E) b.m H2 rfl (by omega) (by omega) (by omega)) ?_;rintro _ w7 ⟨rfl,v7,H7,M7⟩;have M7:=M2.tr M7;clear e0 e1 e2 e3 e4 e5 e6 e7 e8 e9 e10 hfz hlt;obtain ⟨e0,e1,e2,e3,e4,e5,e6,e7,e8,e9,e10,_,_,hfz,hlt⟩:=H7.facts;go_wp2_with fail;go_ret;exact ⟨rfl,_,H7.mono (by omega),M7⟩
theorem impl_place (m k : Int) (hm : m = 3 ∨ m = 4 ∨ m = 5 ∨ m = 6 ∨ m = 7 ∨ m = 8 ∨ m = 10 ∨ m = 11) : PlaceSaid m k:=by
  rcases hm with rfl | rfl | rfl | rfl | rfl | rfl | rfl | rfl
  · exact place_3 k
  · exact place_4 k
  · exact place_5 k
  · exact place_6 k
  · exact place_7 k
  · exact place_8 k
  · exact place_10 k
  · exact place_11 k
open Go.RowKit Go.Proofs.YtoncmhfmkfeolaaGreatDoorW.PrintWords
set_option maxRecDepth 20000 in
set_option maxHeartbeats 1000000 in
theorem impl_branch (x : List UInt8) {w : World} {L : Lay} {v : Value} {c : Cpu} {b : Bus} {n : Nat} (h : HoldM w L v c b n) (hn : n ≤ 800000) (hc : c.ok) :
    Calls Tryz.prog 160 #[.pointer (some ⟨L.g,0,none⟩),.string ⟨x.toArray⟩] w fun e w' => e = .returned (.tuple #[])∧∃ v',HoldM w' L v' (braC c b x) (braB c b x) (n+3)∧Mv w w' L v v':=by
  obtain ⟨a0,a1,x0,x1,y0,y1,s0,s1,p0,p1⟩:=hc;have M0:=Mv.refl w L v h.size;have pk:=peek_of h.peeks;obtain ⟨z0,z1⟩:=pk ((c.PC+1) % 65536);obtain ⟨e0,e1,e2,e3,e4,e5,e6,e7,e8,e9,e10,_,_,hfz,hlt⟩:=h.facts
  have hbr:=fun W => impl_isTaken c.F x W
  obtain ⟨q,hq⟩ : ∃ q,holds c.F x = q:=⟨_,rfl⟩
  rw [hq] at hbr
  cases q
  · rw [show braC c b x = { c with PC:=(c.PC+2) % 65536 } from by simp [braC,hq],show braB c b x = b.rd ((c.PC+1) % 65536) from by simp [braB,hq]]
    clear hq
    have HB:=hR w;go_enter Tryz.func160,Tryz.ntmps160
    go_wp2_with fail;refine Calls.mono (impl_rd ((c.PC+1) % 65536) _ h rfl (by omega) (by omega) (by omega)) ?_;rintro _ w1 ⟨rfl,v1,H1,M1⟩;have M1:=M0.tr M1;clear e0 e1 e2 e3 e4 e5 e6 e7 e8 e9 e10 hfz hlt;obtain ⟨e0,e1,e2,e3,e4,e5,e6,e7,e8,e9,e10,_,_,hfz,hlt⟩:=H1.facts
    have H2:=HoldM.setPC H1 ((c.PC+2) % 65536)
    have M2:=M1.set (Hold.bg h) 4 (.int .u16 ((c.PC+2) % 65536))
    go_wp2_with fail
    refine Calls.mono (hbr _) ?_
    rintro _ w3 ⟨rfl,hb⟩
    have H3:=HoldM.below H2 hb
    have M3:=M2.bl hb
    go_wp2_with fail
    (refine bodyPost_ret (v:=.tuple #[]) (by (simp only [results,Tryz.results160];go_simp <;> (rfl))) rfl ?_)
    exact ⟨rfl,_,H3.mono (by omega),M3⟩
  · obtain ⟨P,hP⟩ : ∃ P,IntKind.u16.wrap (c.PC+2) = P:=⟨_,rfl⟩
    have HP:=Aside0.mk (show (c.PC+2) % 65536 = P from by rw [← hP,IntKind.wrap_u16])
    have P0 : 0 ≤ P:=by have:=HP.out;omega
    have P1 : P < 65536:=by have:=HP.out;omega
    obtain ⟨T,hT⟩ : ∃ T,(c.PC+2+offs (peek b.m ((c.PC+1) % 65536))) % 65536 = T:=⟨_,rfl⟩
    have T0 : 0 ≤ T:=by omega
    have T1 : T < 65536:=by omega
    have hPm : IntKind.u16.wrap (P - 2) = c.PC:=by have:=HP.out;rw [IntKind.wrap_u16];omega
    have q1:=u16_hi P P0 P1
    have q2:=u16_lo T T0 T1
    have q3:=u16_pg P T P0 P1
    obtain ⟨g0,g1⟩:=pg_b (e:=T) P0 P1
    have HT:=Aside0.mk hT
    by_cases he : pg P T = T
    · rw [show braC c b x = { c with PC:=T } from by simp [braC,hq,tgtA,HT.out],show braB c b x = (b.rd ((c.PC+1) % 65536)).rd P from by simp [braB,hq,tgtA,HT.out,HP.out,he]]
      have he1 : (pg P T != T) = false:=by simp [he]
      clear hq he hT
      have HB:=hR w;go_enter Tryz.func160,Tryz.ntmps160
      go_wp2_with fail;refine Calls.mono (impl_rd ((c.PC+1) % 65536) _ h rfl (by omega) (by omega) (by omega)) ?_;rintro _ w1 ⟨rfl,v1,H1,M1⟩;have M1:=M0.tr M1;clear e0 e1 e2 e3 e4 e5 e6 e7 e8 e9 e10 hfz hlt;obtain ⟨e0,e1,e2,e3,e4,e5,e6,e7,e8,e9,e10,_,_,hfz,hlt⟩:=H1.facts
      have H2:=HoldM.setPC H1 P
      have M2:=M1.set (Hold.bg h) 4 (.int .u16 P)
      go_wp2_with fail
      refine Calls.mono (hbr _) ?_
      rintro _ w3 ⟨rfl,hb⟩
      have H3:=HoldM.below H2 hb
      have M3:=M2.bl hb
      clear e0 e1 e2 e3 e4 e5 e6 e7 e8 e9 e10 hfz hlt;obtain ⟨e0,e1,e2,e3,e4,e5,e6,e7,e8,e9,e10,_,_,hfz,hlt⟩:=H3.facts
      go_wp2_with fail;refine Calls.mono (impl_rd P _ H3 rfl (by omega) (by omega) (by omega)) ?_;rintro _ w4 ⟨rfl,v4,H4,M4⟩;have M4:=M3.tr M4;clear e0 e1 e2 e3 e4 e5 e6 e7 e8 e9 e10 hfz hlt;obtain ⟨e0,e1,e2,e3,e4,e5,e6,e7,e8,e9,e10,_,_,hfz,hlt⟩:=H4.facts
      have htg:=fun W => impl_target c.PC (peek b.m ((c.PC+1) % 65536)) W z0 z1 p0 p1
      rw [HT.out] at htg
      go_wp2_with (first | (go_at_call 191;((with_reducible refine (htg _).mono ?_);rintro _ _ ⟨rfl,rfl⟩)))
      go_end0
      exact ⟨rfl,_,HoldM.mono (HoldM.setPC H4 _) (by omega),M4.set (Hold.bg h) 4 _⟩
    · rw [show braC c b x = { c with PC:=T } from by simp [braC,hq,tgtA,HT.out],show braB c b x = ((b.rd ((c.PC+1) % 65536)).rd P).rd (pg P T) from by simp [braB,hq,tgtA,HT.out,HP.out,he]]
      have he1 : (pg P T != T) = true:=by simp [he]
      clear hq he hT
      have HB:=hR w;go_enter Tryz.func160,Tryz.ntmps160
      go_wp2_with fail;refine Calls.mono (impl_rd ((c.PC+1) % 65536) _ h rfl (by omega) (by omega) (by omega)) ?_;rintro _ w1 ⟨rfl,v1,H1,M1⟩;have M1:=M0.tr M1;clear e0 e1 e2 e3 e4 e5 e6 e7 e8 e9 e10 hfz hlt;obtain ⟨e0,e1,e2,e3,e4,e5,e6,e7,e8,e9,e10,_,_,hfz,hlt⟩:=H1.facts
      have H2:=HoldM.setPC H1 P
      have M2:=M1.set (Hold.bg h) 4 (.int .u16 P)
      go_wp2_with fail
      refine Calls.mono (hbr _) ?_
      rintro _ w3 ⟨rfl,hb⟩
      have H3:=HoldM.below H2 hb
      have M3:=M2.bl hb
      clear e0 e1 e2 e3 e4 e5 e6 e7 e8 e9 e10 hfz hlt;obtain ⟨e0,e1,e2,e3,e4,e5,e6,e7,e8,e9,e10,_,_,hfz,hlt⟩:=H3.facts
      go_wp2_with fail;refine Calls.mono (impl_rd P _ H3 rfl (by omega) (by omega) (by omega)) ?_;rintro _ w4 ⟨rfl,v4,H4,M4⟩;have M4:=M3.tr M4;clear e0 e1 e2 e3 e4 e5 e6 e7 e8 e9 e10 hfz hlt;obtain ⟨e0,e1,e2,e3,e4,e5,e6,e7,e8,e9,e10,_,_,hfz,hlt⟩:=H4.facts
      have htg:=fun W => impl_target c.PC (peek b.m ((c.PC+1) % 65536)) W z0 z1 p0 p1
      rw [HT.out] at htg
      go_wp2_with (first | (go_at_call 191;((with_reducible refine (htg _).mono ?_);rintro _ _ ⟨rfl,rfl⟩)));refine Calls.mono (impl_rd (pg P T) _ H4 rfl (by omega) (by omega) (by omega)) ?_;rintro _ w5 ⟨rfl,v5,H5,M5⟩;have M5:=M4.tr M5;clear e0 e1 e2 e3 e4 e5 e6 e7 e8 e9 e10 hfz hlt;obtain ⟨e0,e1,e2,e3,e4,e5,e6,e7,e8,e9,e10,_,_,hfz,hlt⟩:=H5.facts
      go_wp2_with fail
      go_end0
      exact ⟨rfl,_,HoldM.mono (HoldM.setPC H5 _) (by omega),M5.set (Hold.bg h) 4 _⟩
theorem impl_stk (x : Int) (w : World) (h0 : 0 ≤ x) (h1 : x < 256) : Calls Tryz.prog 149 #[.int .u8 x] w fun e w' => e = .returned (.int .u16 (stk x))∧w = w' :=
  (impl_stack x w h0 h1).mono fun e w' h => ⟨by rw [h.1];unfold stk;rw [show x % 256 = x by omega],h.2⟩
theorem stk_in (s : Int) : stk (s % 256) = stk s:=by unfold stk;omega
theorem impl_push2 (x y : Int) {w : World} {L : Lay} {v : Value} {c : Cpu} {b : Bus} {n : Nat} (h : HoldM w L v c b n) (hn : n ≤ 900000) (hc : 0 ≤ c.S∧c.S < 256) (hx : 0 ≤ x∧x < 256) (hy : 0 ≤ y∧y < 256) :
    Calls Tryz.prog 106 #[.pointer (some ⟨L.g,0,none⟩),.slice (some ⟨w.heap.size,0,none⟩) 2 2] (w.alloc (.cells #[.int .u8 x,.int .u8 y] 5)) fun e w' => e = .returned (.tuple #[])∧∃ v',HoldM w' L v' (c.dn 2) ((b.wr (stk c.S) x).wr (stk (c.S - 1)) y) (n+2)∧Mv w w' L v v':=by
  have:=impl_pushL [x,y] h hn hc (by simp [hx,hy]) (by simp) 2
  have e : pushB c b [x,y] 2 = (b.wr (stk c.S) x).wr (stk (c.S - 1)) y:=by
    show (b.wr (stk (c.S - (0 : Nat))) x).wr (stk (c.S - (1 : Nat))) y = _
    rw [show c.S - (0 : Nat) = c.S by simp]
    rfl
  rw [show [x,y].length = 2 from rfl,e] at this
  exact this
theorem impl_push1 (x : Int) {w : World} {L : Lay} {v : Value} {c : Cpu} {b : Bus} {n : Nat} (h : HoldM w L v c b n) (hn : n ≤ 900000) (hc : 0 ≤ c.S∧c.S < 256) (hx : 0 ≤ x∧x < 256) :
    Calls Tryz.prog 106 #[.pointer (some ⟨L.g,0,none⟩),.slice (some ⟨w.heap.size,0,none⟩) 1 1] (w.alloc (.cells #[.int .u8 x] 5)) fun e w' => e = .returned (.tuple #[])∧∃ v',HoldM w' L v' (c.dn 1) (b.wr (stk c.S) x) (n+1)∧Mv w w' L v v':=by
  have:=impl_pushL [x] h hn hc (by simp [hx]) (by simp) 1
  have e : pushB c b [x] 1 = b.wr (stk c.S) x:=by
    show b.wr (stk (c.S - (0 : Nat))) x = _
    rw [show c.S - (0 : Nat) = c.S by simp]
  rw [show [x].length = 1 from rfl,e] at this
  exact this
def FlowSaid (k m : Int) (x : List UInt8) : Prop:=∀ {w : World} {L : Lay} {v : Value} {c : Cpu} {b : Bus} {n : Nat} (_ : HoldM w L v c b n) (_ : n ≤ 800000) (_ : c.ok),
    Calls Tryz.prog 117 #[.pointer (some ⟨L.g,0,none⟩),.int .i64 k,.int .i64 m,.string ⟨x.toArray⟩] w fun e w' => e = .returned (.tuple #[])∧∃ v',HoldM w' L v' (floC k m x c b) (floB k m x c b) (n+6)∧Mv w w' L v v'
set_option maxRecDepth 20000 in
set_option maxHeartbeats 400000 in
theorem flow_5 (m : Int) (x : List UInt8) : FlowSaid 5 m x:=by
  intro w L v c b n h hn hc;have hc0:=hc;obtain ⟨a0,a1,x0,x1,y0,y1,s0,s1,p0,p1⟩:=hc;have M0:=Mv.refl w L v h.size;have pk:=peek_of h.peeks;obtain ⟨z0,z1⟩:=pk ((c.PC+1) % 65536);obtain ⟨e0,e1,e2,e3,e4,e5,e6,e7,e8,e9,e10,_,_,hfz,hlt⟩:=h.facts;have HB:=hR w;go_enter Tryz.func117,Tryz.ntmps117;go_wp2_with fail;go_quiet (fail);have H0:=HoldM.drewN h nq;have M0:=M0.drN nq;clear e0 e1 e2 e3 e4 e5 e6 e7 e8 e9 e10 hfz hlt;obtain ⟨e0,e1,e2,e3,e4,e5,e6,e7,e8,e9,e10,_,_,hfz,hlt⟩:=H0.facts
  go_wp2_with fail
  refine Calls.mono (impl_branch x H0 hn hc0) ?_
  rintro _ w1 ⟨rfl,v1,H1,M1⟩
  go_wp2_with fail
  go_end0
  exact ⟨rfl,_,H1.mono (by omega),M0.tr M1⟩
set_option maxRecDepth 20000 in
set_option maxHeartbeats 400000 in
theorem flow_6 (m : Int) (x : List UInt8) : FlowSaid 6 m x:=by
  intro w L v c b n h hn hc
  by_cases hm : m = 9
  · subst hm
    have hc0:=hc;obtain ⟨a0,a1,x0,x1,y0,y1,s0,s1,p0,p1⟩:=hc;have M0:=Mv.refl w L v h.size;have pk:=peek_of h.peeks;obtain ⟨z0,z1⟩:=pk ((c.PC+1) % 65536);obtain ⟨e0,e1,e2,e3,e4,e5,e6,e7,e8,e9,e10,_,_,hfz,hlt⟩:=h.facts;have HB:=hR w;go_enter Tryz.func117,Tryz.ntmps117;go_wp2_with fail;go_quiet (fail);have H0:=HoldM.drewN h nq;have M0:=M0.drN nq;clear e0 e1 e2 e3 e4 e5 e6 e7 e8 e9 e10 hfz hlt;obtain ⟨e0,e1,e2,e3,e4,e5,e6,e7,e8,e9,e10,_,_,hfz,hlt⟩:=H0.facts
    obtain ⟨B,hB⟩ : ∃ B,word2 (peek b.m ((c.PC+1) % 65536)) (peek b.m ((c.PC+2) % 65536)) = B:=⟨_,rfl⟩
    obtain ⟨b0,b1⟩ : 0 ≤ B∧B < 65536:=by rw [← hB];exact word2_in (pk _) (pk _)
    have q1:=u16_hi B b0 b1
    have q2 : bits .and .u16 (IntKind.u16.wrap (B+1)) 255 = (B+1) % 256:=by rw [u16_lo _ (by rw [IntKind.wrap_u16];omega) (by rw [IntKind.wrap_u16];omega),IntKind.wrap_u16];omega
    have q3:=u16_pg B (B+1) b0 b1
    obtain ⟨g0,g1⟩:=pg_b (e:=B+1) b0 b1
    go_wp2_with fail;refine Calls.mono (impl_rdTwo ((c.PC+1) % 65536) ((c.PC+2) % 65536) _ H0 rfl (by omega) (by omega) (by omega) (by omega) (by omega)) ?_;rintro _ w1 ⟨rfl,v1,H1,M1⟩;have M1:=M0.tr M1;clear e0 e1 e2 e3 e4 e5 e6 e7 e8 e9 e10 hfz hlt;obtain ⟨e0,e1,e2,e3,e4,e5,e6,e7,e8,e9,e10,_,_,hfz,hlt⟩:=H1.facts
    have H2:=HoldM.setPC H1 (word2 (peek b.m ((c.PC+1) % 65536)) (peek b.m ((c.PC+2) % 65536)))
    have M2:=M1.set (Hold.bg h) 4 (.int .u16 (word2 (peek b.m ((c.PC+1) % 65536)) (peek b.m ((c.PC+2) % 65536))))
    rw [hB] at H2 M2
    go_wp2_with fail
    refine Calls.mono (impl_rdTwo B (pg B (B+1)) b.m H2 rfl (by omega) (by omega) (by omega) (by omega) (by omega)) ?_
    rintro _ w3 ⟨rfl,v3,H3,M3⟩
    have M4:=M2.tr M3
    clear M3
    clear e0 e1 e2 e3 e4 e5 e6 e7 e8 e9 e10 hfz hlt;obtain ⟨e0,e1,e2,e3,e4,e5,e6,e7,e8,e9,e10,_,_,hfz,hlt⟩:=H3.facts
    go_wp2_with fail
    go_end0
    subst hB
    exact ⟨rfl,_,HoldM.mono (HoldM.setPC H3 _) (by omega),M4.set (Hold.bg h) 4 _⟩
  · have hm1 : (m == 9) = false:=beq_eq_false_iff_ne.2 hm
    rw [show floC 6 m x c b = { c with PC:=word2 (peek b.m ((c.PC+1) % 65536)) (peek b.m ((c.PC+2) % 65536)) } from by simp [floC,jmpC,hm1],show floB 6 m x c b = (lo1 c b).rd ((c.PC+2) % 65536) from by simp [floB,jmpB,hm1]]
    have hc0:=hc;obtain ⟨a0,a1,x0,x1,y0,y1,s0,s1,p0,p1⟩:=hc;have M0:=Mv.refl w L v h.size;have pk:=peek_of h.peeks;obtain ⟨z0,z1⟩:=pk ((c.PC+1) % 65536);obtain ⟨e0,e1,e2,e3,e4,e5,e6,e7,e8,e9,e10,_,_,hfz,hlt⟩:=h.facts;have HB:=hR w;go_enter Tryz.func117,Tryz.ntmps117;go_wp2_with fail;go_quiet (fail);have H0:=HoldM.drewN h nq;have M0:=M0.drN nq;clear e0 e1 e2 e3 e4 e5 e6 e7 e8 e9 e10 hfz hlt;obtain ⟨e0,e1,e2,e3,e4,e5,e6,e7,e8,e9,e10,_,_,hfz,hlt⟩:=H0.facts
    go_wp2_with fail;refine Calls.mono (impl_rdTwo ((c.PC+1) % 65536) ((c.PC+2) % 65536) _ H0 rfl (by omega) (by omega) (by omega) (by omega) (by omega)) ?_;rintro _ w1 ⟨rfl,v1,H1,M1⟩;have M1:=M0.tr M1;clear e0 e1 e2 e3 e4 e5 e6 e7 e8 e9 e10 hfz hlt;obtain ⟨e0,e1,e2,e3,e4,e5,e6,e7,e8,e9,e10,_,_,hfz,hlt⟩:=H1.facts
    go_wp2_with fail
    go_end0
    exact ⟨rfl,_,HoldM.mono (HoldM.setPC H1 _) (by omega),M1.set (Hold.bg h) 4 _⟩
set_option maxRecDepth 20000 in
set_option maxHeartbeats 1000000 in
theorem flow_7 (m : Int) (x : List UInt8) : FlowSaid 7 m x:=by
  intro w L v c b n h hn hc;have hc0:=hc;obtain ⟨a0,a1,x0,x1,y0,y1,s0,s1,p0,p1⟩:=hc;have M0:=Mv.refl w L v h.size;have pk:=peek_of h.peeks;obtain ⟨z0,z1⟩:=pk ((c.PC+1) % 65536);obtain ⟨e0,e1,e2,e3,e4,e5,e6,e7,e8,e9,e10,_,_,hfz,hlt⟩:=h.facts;have HB:=hR w;go_enter Tryz.func117,Tryz.ntmps117;go_wp2_with fail;go_quiet (fail);have H0:=HoldM.drewN h nq;have M0:=M0.drN nq;clear e0 e1 e2 e3 e4 e5 e6 e7 e8 e9 e10 hfz hlt;obtain ⟨e0,e1,e2,e3,e4,e5,e6,e7,e8,e9,e10,_,_,hfz,hlt⟩:=H0.facts
  have W1 : Aside0 (IntKind.u8.wrap (IntKind.u16.wrap (c.PC+2) / 256) = (c.PC+2) % 65536 / 256):=⟨by rw [IntKind.wrap_u16,IntKind.wrap_u8];omega⟩
  have W2 : Aside0 (IntKind.u8.wrap (IntKind.u16.wrap (c.PC+2)) = (c.PC+2) % 65536 % 256):=⟨by rw [IntKind.wrap_u16,IntKind.wrap_u8]⟩
  have sb:=stk_b c.S
  go_wp2_with fail;refine Calls.mono (impl_rd ((c.PC+1) % 65536) _ H0 rfl (by omega) (by omega) (by omega)) ?_;rintro _ w1 ⟨rfl,v1,H1,M1⟩;have M1:=M0.tr M1;clear e0 e1 e2 e3 e4 e5 e6 e7 e8 e9 e10 hfz hlt;obtain ⟨e0,e1,e2,e3,e4,e5,e6,e7,e8,e9,e10,_,_,hfz,hlt⟩:=H1.facts
  go_wp2_with (first | (go_at_call 149;((with_reducible refine (impl_stk _ _ (by omega) (by omega)).mono ?_);rintro _ _ ⟨rfl,rfl⟩)));refine Calls.mono (impl_rd (stk c.S) _ H1 rfl (by omega) (by omega) (by omega)) ?_;rintro _ w2 ⟨rfl,v2,H2,M2⟩;have M2:=M1.tr M2;clear e0 e1 e2 e3 e4 e5 e6 e7 e8 e9 e10 hfz hlt;obtain ⟨e0,e1,e2,e3,e4,e5,e6,e7,e8,e9,e10,_,_,hfz,hlt⟩:=H2.facts
  go_wp2_with fail
  refine Calls.mono (impl_push2 (IntKind.u8.wrap (IntKind.u16.wrap (c.PC+2) / 256)) (IntKind.u8.wrap (IntKind.u16.wrap (c.PC+2))) H2 (by omega) ⟨s0,s1⟩ (w8 _) (w8 _)) ?_
  rintro _ w3 ⟨rfl,v3,H3,M3⟩
  rw [W1.out,W2.out] at H3
  have H3 : HoldM w3 L v3 (c.dn 2) (jsrW c b) (n+1+1+2):=H3
  have M3:=M2.tr M3
  clear e0 e1 e2 e3 e4 e5 e6 e7 e8 e9 e10 hfz hlt;obtain ⟨e0,e1,e2,e3,e4,e5,e6,e7,e8,e9,e10,_,_,hfz,hlt⟩:=H3.facts
  go_wp2_with fail;refine Calls.mono (impl_rd ((c.PC+2) % 65536) _ H3 rfl (by omega) (by omega) (by omega)) ?_;rintro _ w4 ⟨rfl,v4,H4,M4⟩;have M4:=M3.tr M4;clear e0 e1 e2 e3 e4 e5 e6 e7 e8 e9 e10 hfz hlt;obtain ⟨e0,e1,e2,e3,e4,e5,e6,e7,e8,e9,e10,_,_,hfz,hlt⟩:=H4.facts
  have k2:=peek_of H3.peeks ((c.PC+2) % 65536)
  go_wp2_with (first | (go_at_call 151;((with_reducible refine (impl_wordOf _ _ _ z0 z1 k2.1 k2.2).mono ?_);rintro _ _ ⟨rfl,rfl⟩)))
  go_end0
  exact ⟨rfl,_,HoldM.mono (HoldM.setPC H4 _) (by omega),M4.set (Hold.bg h) 4 _⟩
set_option maxRecDepth 20000 in
set_option maxHeartbeats 1000000 in
theorem flow_8 (m : Int) (x : List UInt8) : FlowSaid 8 m x:=by
  intro w L v c b n h hn hc;have hc0:=hc;obtain ⟨a0,a1,x0,x1,y0,y1,s0,s1,p0,p1⟩:=hc;have M0:=Mv.refl w L v h.size;have pk:=peek_of h.peeks;obtain ⟨z0,z1⟩:=pk ((c.PC+1) % 65536);obtain ⟨e0,e1,e2,e3,e4,e5,e6,e7,e8,e9,e10,_,_,hfz,hlt⟩:=h.facts;have HB:=hR w;go_enter Tryz.func117,Tryz.ntmps117;go_wp2_with fail;go_quiet (fail);have H0:=HoldM.drewN h nq;have M0:=M0.drN nq;clear e0 e1 e2 e3 e4 e5 e6 e7 e8 e9 e10 hfz hlt;obtain ⟨e0,e1,e2,e3,e4,e5,e6,e7,e8,e9,e10,_,_,hfz,hlt⟩:=H0.facts
  have sb:=stk_b c.S
  have sb1:=stk_b (c.S+1)
  have sb2:=stk_b (c.S+2)
  have se1:=stk_in (c.S+1)
  have se2:=stk_in (c.S+2)
  obtain ⟨b0,b1⟩:=word2_in (pk (stk (c.S+1))) (pk (stk (c.S+2)))
  go_wp2_with fail;refine Calls.mono (impl_rd ((c.PC+1) % 65536) _ H0 rfl (by omega) (by omega) (by omega)) ?_;rintro _ w1 ⟨rfl,v1,H1,M1⟩;have M1:=M0.tr M1;clear e0 e1 e2 e3 e4 e5 e6 e7 e8 e9 e10 hfz hlt;obtain ⟨e0,e1,e2,e3,e4,e5,e6,e7,e8,e9,e10,_,_,hfz,hlt⟩:=H1.facts
  go_wp2_with (first | (go_at_call 149;((with_reducible refine (impl_stk _ _ (by omega) (by omega)).mono ?_);rintro _ _ ⟨rfl,rfl⟩)));refine Calls.mono (impl_rd (stk c.S) _ H1 rfl (by omega) (by omega) (by omega)) ?_;rintro _ w2 ⟨rfl,v2,H2,M2⟩;have M2:=M1.tr M2;clear e0 e1 e2 e3 e4 e5 e6 e7 e8 e9 e10 hfz hlt;obtain ⟨e0,e1,e2,e3,e4,e5,e6,e7,e8,e9,e10,_,_,hfz,hlt⟩:=H2.facts
  go_wp2_with (first | (go_at_call 149;((with_reducible refine (impl_stk _ _ (by omega) (by omega)).mono ?_);rintro _ _ ⟨rfl,rfl⟩)));refine Calls.mono (impl_rdTwo (stk (c.S+1)) (stk (c.S+2)) _ H2 rfl (by omega) (by omega) (by omega) (by omega) (by omega)) ?_;rintro _ w3 ⟨rfl,v3,H3,M3⟩;have M3:=M2.tr M3;clear e0 e1 e2 e3 e4 e5 e6 e7 e8 e9 e10 hfz hlt;obtain ⟨e0,e1,e2,e3,e4,e5,e6,e7,e8,e9,e10,_,_,hfz,hlt⟩:=H3.facts
  go_wp2_with fail;refine Calls.mono (impl_rd (word2 (peek b.m (stk (c.S+1))) (peek b.m (stk (c.S+2)))) _ H3 rfl (by omega) (by omega) (by omega)) ?_;rintro _ w4 ⟨rfl,v4,H4,M4⟩;have M4:=M3.tr M4;clear e0 e1 e2 e3 e4 e5 e6 e7 e8 e9 e10 hfz hlt;obtain ⟨e0,e1,e2,e3,e4,e5,e6,e7,e8,e9,e10,_,_,hfz,hlt⟩:=H4.facts
  go_wp2_with fail
  go_end0
  exact ⟨rfl,_,HoldM.mono (HoldM.setS (HoldM.setPC H4 _) _) (by omega),(M4.set (Hold.bg h) 4 _).set (Hold.bg h) 3 _⟩
set_option maxRecDepth 20000 in
set_option maxHeartbeats 1000000 in
theorem flow_9 (m : Int) (x : List UInt8) : FlowSaid 9 m x:=by
  intro w L v c b n h hn hc;have hc0:=hc;obtain ⟨a0,a1,x0,x1,y0,y1,s0,s1,p0,p1⟩:=hc;have M0:=Mv.refl w L v h.size;have pk:=peek_of h.peeks;obtain ⟨z0,z1⟩:=pk ((c.PC+1) % 65536);obtain ⟨e0,e1,e2,e3,e4,e5,e6,e7,e8,e9,e10,_,_,hfz,hlt⟩:=h.facts;have HB:=hR w;go_enter Tryz.func117,Tryz.ntmps117;go_wp2_with fail;go_quiet (fail);have H0:=HoldM.drewN h nq;have M0:=M0.drN nq;clear e0 e1 e2 e3 e4 e5 e6 e7 e8 e9 e10 hfz hlt;obtain ⟨e0,e1,e2,e3,e4,e5,e6,e7,e8,e9,e10,_,_,hfz,hlt⟩:=H0.facts
  have sb:=stk_b c.S
  have sb1:=stk_b (c.S+1)
  have sb2:=stk_b (c.S+2)
  have sb3:=stk_b (c.S+3)
  have se1:=stk_in (c.S+1)
  have se2:=stk_in (c.S+2)
  have se3:=stk_in (c.S+3)
  obtain ⟨u0,u1⟩:=pk (stk (c.S+1))
  go_wp2_with fail;refine Calls.mono (impl_rd ((c.PC+1) % 65536) _ H0 rfl (by omega) (by omega) (by omega)) ?_;rintro _ w1 ⟨rfl,v1,H1,M1⟩;have M1:=M0.tr M1;clear e0 e1 e2 e3 e4 e5 e6 e7 e8 e9 e10 hfz hlt;obtain ⟨e0,e1,e2,e3,e4,e5,e6,e7,e8,e9,e10,_,_,hfz,hlt⟩:=H1.facts
  go_wp2_with (first | (go_at_call 149;((with_reducible refine (impl_stk _ _ (by omega) (by omega)).mono ?_);rintro _ _ ⟨rfl,rfl⟩)));refine Calls.mono (impl_rd (stk c.S) _ H1 rfl (by omega) (by omega) (by omega)) ?_;rintro _ w2 ⟨rfl,v2,H2,M2⟩;have M2:=M1.tr M2;clear e0 e1 e2 e3 e4 e5 e6 e7 e8 e9 e10 hfz hlt;obtain ⟨e0,e1,e2,e3,e4,e5,e6,e7,e8,e9,e10,_,_,hfz,hlt⟩:=H2.facts
  go_wp2_with (first | (go_at_call 149;((with_reducible refine (impl_stk _ _ (by omega) (by omega)).mono ?_);rintro _ _ ⟨rfl,rfl⟩)));refine Calls.mono (impl_rd (stk (c.S+1)) _ H2 rfl (by omega) (by omega) (by omega)) ?_;rintro _ w3 ⟨rfl,v3,H3,M3⟩;have M3:=M2.tr M3;clear e0 e1 e2 e3 e4 e5 e6 e7 e8 e9 e10 hfz hlt;obtain ⟨e0,e1,e2,e3,e4,e5,e6,e7,e8,e9,e10,_,_,hfz,hlt⟩:=H3.facts
  go_wp2_with fail
  refine Calls.mono (impl_UnpackP (peek b.m (stk (c.S+1))) _ u0 u1) ?_
  rintro _ w4 ⟨rfl,hb⟩
  have H4:=HoldM.below H3 hb
  have M4:=M3.bl hb
  clear e0 e1 e2 e3 e4 e5 e6 e7 e8 e9 e10 hfz hlt;obtain ⟨e0,e1,e2,e3,e4,e5,e6,e7,e8,e9,e10,_,_,hfz,hlt⟩:=H4.facts
  have H5:=HoldM.setF H4 (unpackP (peek b.m (stk (c.S+1))))
  have M5:=M4.setF (Hold.bg h) (unpackP (peek b.m (stk (c.S+1))))
  go_wp2_with (first | (go_at_call 149;((with_reducible refine (impl_stk _ _ (by omega) (by omega)).mono ?_);rintro _ _ ⟨rfl,rfl⟩)))
  refine Calls.mono (impl_rdTwo (stk (c.S+2)) (stk (c.S+3)) b.m H5 rfl (by omega) (by omega) (by omega) (by omega) (by omega)) ?_
  rintro _ w6 ⟨rfl,v6,H6,M6⟩
  have M6:=M5.tr M6
  clear e0 e1 e2 e3 e4 e5 e6 e7 e8 e9 e10 hfz hlt;obtain ⟨e0,e1,e2,e3,e4,e5,e6,e7,e8,e9,e10,_,_,hfz,hlt⟩:=H6.facts
  go_wp2_with fail
  go_end0
  exact ⟨rfl,_,HoldM.mono (HoldM.setS (HoldM.setPC H6 _) _) (by omega),(M6.set (Hold.bg h) 4 _).set (Hold.bg h) 3 _⟩
set_option maxRecDepth 20000 in
set_option maxHeartbeats 1000000 in
theorem flow_10 (m : Int) (x : List UInt8) : FlowSaid 10 m x:=by
  intro w L v c b n h hn hc;have hc0:=hc;obtain ⟨a0,a1,x0,x1,y0,y1,s0,s1,p0,p1⟩:=hc;have M0:=Mv.refl w L v h.size;have pk:=peek_of h.peeks;obtain ⟨z0,z1⟩:=pk ((c.PC+1) % 65536);obtain ⟨e0,e1,e2,e3,e4,e5,e6,e7,e8,e9,e10,_,_,hfz,hlt⟩:=h.facts;have HB:=hR w;go_enter Tryz.func117,Tryz.ntmps117;go_wp2_with fail;go_quiet (fail);have H0:=HoldM.drewN h nq;have M0:=M0.drN nq;clear e0 e1 e2 e3 e4 e5 e6 e7 e8 e9 e10 hfz hlt;obtain ⟨e0,e1,e2,e3,e4,e5,e6,e7,e8,e9,e10,_,_,hfz,hlt⟩:=H0.facts
  have W1 : Aside0 (IntKind.u8.wrap (IntKind.u16.wrap (c.PC+2) / 256) = (c.PC+2) % 65536 / 256):=⟨by rw [IntKind.wrap_u16,IntKind.wrap_u8];omega⟩
  have W2 : Aside0 (IntKind.u8.wrap (IntKind.u16.wrap (c.PC+2)) = (c.PC+2) % 65536 % 256):=⟨by rw [IntKind.wrap_u16,IntKind.wrap_u8]⟩
  have hpk:=packP_b c.F true
  go_wp2_with fail;refine Calls.mono (impl_rd ((c.PC+1) % 65536) _ H0 rfl (by omega) (by omega) (by omega)) ?_;rintro _ w1 ⟨rfl,v1,H1,M1⟩;have M1:=M0.tr M1;clear e0 e1 e2 e3 e4 e5 e6 e7 e8 e9 e10 hfz hlt;obtain ⟨e0,e1,e2,e3,e4,e5,e6,e7,e8,e9,e10,_,_,hfz,hlt⟩:=H1.facts
  go_wp2_with fail
  refine Calls.mono (impl_PackP c.F true _) ?_
  rintro _ w2 ⟨rfl,hb⟩
  have H2:=HoldM.below H1 hb
  have M2:=M1.bl hb
  clear e0 e1 e2 e3 e4 e5 e6 e7 e8 e9 e10 hfz hlt;obtain ⟨e0,e1,e2,e3,e4,e5,e6,e7,e8,e9,e10,_,_,hfz,hlt⟩:=H2.facts
  go_wp2_with fail
  refine Calls.mono (impl_push3 (IntKind.u8.wrap (IntKind.u16.wrap (c.PC+2) / 256)) (IntKind.u8.wrap (IntKind.u16.wrap (c.PC+2))) (packP c.F true) H2 (by omega) ⟨s0,s1⟩ (w8 _) (w8 _) hpk) ?_
  rintro _ w3 ⟨rfl,v3,H3,M3⟩
  rw [W1.out,W2.out] at H3
  have H3 : HoldM w3 L v3 (c.dn 3) (push3 c (lo1 c b) ((c.PC+2) % 65536) true) (n+1+3):=H3
  have M3:=M2.tr M3
  clear e0 e1 e2 e3 e4 e5 e6 e7 e8 e9 e10 hfz hlt;obtain ⟨e0,e1,e2,e3,e4,e5,e6,e7,e8,e9,e10,_,_,hfz,hlt⟩:=H3.facts
  go_wp2_with fail;refine Calls.mono (impl_rdTwo 65534 65535 _ H3 rfl (by omega) (by omega) (by omega) (by omega) (by omega)) ?_;rintro _ w4 ⟨rfl,v4,H4,M4⟩;have M4:=M3.tr M4;clear e0 e1 e2 e3 e4 e5 e6 e7 e8 e9 e10 hfz hlt;obtain ⟨e0,e1,e2,e3,e4,e5,e6,e7,e8,e9,e10,_,_,hfz,hlt⟩:=H4.facts
  go_wp2_with fail
  go_end0
  exact ⟨rfl,_,HoldM.mono (HoldM.setI (HoldM.setPC H4 _) true) (by omega),(M4.set (Hold.bg h) 4 _).set (Hold.bg h) 8 _⟩
theorem impl_flow (k m : Int) (x : List UInt8) (hk : k = 5 ∨ k = 6 ∨ k = 7 ∨ k = 8 ∨ k = 9 ∨ k = 10) : FlowSaid k m x:=by
  rcases hk with rfl | rfl | rfl | rfl | rfl | rfl
  · exact flow_5 m x
  · exact flow_6 m x
  · exact flow_7 m x
  · exact flow_8 m x
  · exact flow_9 m x
  · exact flow_10 m x
open Go.RowKit Go.Proofs.YtoncmhfmkfeolaaGreatDoorW.PrintWords
set_option maxRecDepth 20000 in
set_option maxHeartbeats 1000000 in
theorem impl_pull (x : List UInt8) {w : World} {L : Lay} {v : Value} {c : Cpu} {b : Bus} {n : Nat} (h : HoldM w L v c b n) (hn : n ≤ 800000) (hc : c.ok) :
    Calls Tryz.prog 116 #[.pointer (some ⟨L.g,0,none⟩),.string ⟨x.toArray⟩] w fun e w' => e = .returned (.tuple #[])∧∃ v',HoldM w' L v' (pulC x c b) (pulB c b) (n+3)∧Mv w w' L v v':=by
  have hc0:=hc;obtain ⟨a0,a1,x0,x1,y0,y1,s0,s1,p0,p1⟩:=hc;have M0:=Mv.refl w L v h.size;have pk:=peek_of h.peeks;obtain ⟨z0,z1⟩:=pk ((c.PC+1) % 65536);obtain ⟨e0,e1,e2,e3,e4,e5,e6,e7,e8,e9,e10,_,_,hfz,hlt⟩:=h.facts
  have sb:=stk_b c.S
  have sb1:=stk_b (c.S+1)
  have se1:=stk_in (c.S+1)
  obtain ⟨u0,u1⟩:=pk (stk (c.S+1))
  have hc1 : ({ c with S:=(c.S+1) % 256 } : Cpu).ok:=⟨a0,a1,x0,x1,y0,y1,by simp only [];omega,by simp only [];omega,p0,p1⟩
  by_cases hx : x = [80,76,65]
  · subst hx
    rw [show pulC [80,76,65] c b = ldA { c with S:=(c.S+1) % 256 } (peek b.m (stk (c.S+1))) from rfl]
    have HB:=hR w;go_enter Tryz.func116,Tryz.ntmps116
    go_wp2_with fail;refine Calls.mono (impl_rd ((c.PC+1) % 65536) _ h rfl (by omega) (by omega) (by omega)) ?_;rintro _ w1 ⟨rfl,v1,H1,M1⟩;have M1:=M0.tr M1;clear e0 e1 e2 e3 e4 e5 e6 e7 e8 e9 e10 hfz hlt;obtain ⟨e0,e1,e2,e3,e4,e5,e6,e7,e8,e9,e10,_,_,hfz,hlt⟩:=H1.facts
    go_wp2_with (first | (go_at_call 149;((with_reducible refine (impl_stk _ _ (by omega) (by omega)).mono ?_);rintro _ _ ⟨rfl,rfl⟩)));refine Calls.mono (impl_rd (stk c.S) _ H1 rfl (by omega) (by omega) (by omega)) ?_;rintro _ w2 ⟨rfl,v2,H2,M2⟩;have M2:=M1.tr M2;clear e0 e1 e2 e3 e4 e5 e6 e7 e8 e9 e10 hfz hlt;obtain ⟨e0,e1,e2,e3,e4,e5,e6,e7,e8,e9,e10,_,_,hfz,hlt⟩:=H2.facts
    have H3:=HoldM.setS H2 ((c.S+1) % 256)
    have M3:=M2.set (Hold.bg h) 3 (.int .u8 ((c.S+1) % 256))
    go_wp2_with (first | (go_at_call 149;((with_reducible refine (impl_stk _ _ (by omega) (by omega)).mono ?_);rintro _ _ ⟨rfl,rfl⟩)));refine Calls.mono (impl_rd (stk (c.S+1)) _ H3 rfl (by omega) (by omega) (by omega)) ?_;rintro _ w4 ⟨rfl,v4,H4,M4⟩;have M4:=M3.tr M4;clear e0 e1 e2 e3 e4 e5 e6 e7 e8 e9 e10 hfz hlt;obtain ⟨e0,e1,e2,e3,e4,e5,e6,e7,e8,e9,e10,_,_,hfz,hlt⟩:=H4.facts
    go_wp2_with fail
    refine Calls.mono (do_LDA (peek b.m (stk (c.S+1))) H4 hc1 u0 u1) ?_
    rintro _ w5 ⟨rfl,H5,M5⟩
    go_wp2_with fail
    go_end0
    exact ⟨rfl,_,H5,M4.tr M5⟩
  · have hx1 : (x == [80,76,65]) = false:=beq_eq_false_iff_ne.2 hx
    rw [show pulC x c b = stF { c with S:=(c.S+1) % 256 } (unpackP (peek b.m (stk (c.S+1)))) from by simp [pulC,hx1,stF]]
    clear hx
    have HB:=hR w;go_enter Tryz.func116,Tryz.ntmps116
    go_wp2_with fail;refine Calls.mono (impl_rd ((c.PC+1) % 65536) _ h rfl (by omega) (by omega) (by omega)) ?_;rintro _ w1 ⟨rfl,v1,H1,M1⟩;have M1:=M0.tr M1;clear e0 e1 e2 e3 e4 e5 e6 e7 e8 e9 e10 hfz hlt;obtain ⟨e0,e1,e2,e3,e4,e5,e6,e7,e8,e9,e10,_,_,hfz,hlt⟩:=H1.facts
    go_wp2_with (first | (go_at_call 149;((with_reducible refine (impl_stk _ _ (by omega) (by omega)).mono ?_);rintro _ _ ⟨rfl,rfl⟩)));refine Calls.mono (impl_rd (stk c.S) _ H1 rfl (by omega) (by omega) (by omega)) ?_;rintro _ w2 ⟨rfl,v2,H2,M2⟩;have M2:=M1.tr M2;clear e0 e1 e2 e3 e4 e5 e6 e7 e8 e9 e10 hfz hlt;obtain ⟨e0,e1,e2,e3,e4,e5,e6,e7,e8,e9,e10,_,_,hfz,hlt⟩:=H2.facts
    have H3:=HoldM.setS H2 ((c.S+1) % 256)
    have M3:=M2.set (Hold.bg h) 3 (.int .u8 ((c.S+1) % 256))
    go_wp2_with (first | (go_at_call 149;((with_reducible refine (impl_stk _ _ (by omega) (by omega)).mono ?_);rintro _ _ ⟨rfl,rfl⟩)));refine Calls.mono (impl_rd (stk (c.S+1)) _ H3 rfl (by omega) (by omega) (by omega)) ?_;rintro _ w4 ⟨rfl,v4,H4,M4⟩;have M4:=M3.tr M4;clear e0 e1 e2 e3 e4 e5 e6 e7 e8 e9 e10 hfz hlt;obtain ⟨e0,e1,e2,e3,e4,e5,e6,e7,e8,e9,e10,_,_,hfz,hlt⟩:=H4.facts
    go_wp2_with fail
    refine Calls.mono (impl_UnpackP (peek b.m (stk (c.S+1))) _ u0 u1) ?_
    rintro _ w5 ⟨rfl,hb⟩
    have H5:=HoldM.below H4 hb
    have M5:=M4.bl hb
    clear e0 e1 e2 e3 e4 e5 e6 e7 e8 e9 e10 hfz hlt;obtain ⟨e0,e1,e2,e3,e4,e5,e6,e7,e8,e9,e10,_,_,hfz,hlt⟩:=H5.facts
    go_wp2_with fail
    go_end0
    exact ⟨rfl,_,HoldM.setF H5 _,M5.setF (Hold.bg h) _⟩
set_option maxRecDepth 20000 in
set_option maxHeartbeats 1000000 in
theorem impl_pushOne (x : List UInt8) {w : World} {L : Lay} {v : Value} {c : Cpu} {b : Bus} {n : Nat} (h : HoldM w L v c b n) (hn : n ≤ 800000) (hc : c.ok) :
    Calls Tryz.prog 115 #[.pointer (some ⟨L.g,0,none⟩),.string ⟨x.toArray⟩] w fun e w' => e = .returned (.tuple #[])∧∃ v',HoldM w' L v' (phC c) (phB x c b) (n+2)∧Mv w w' L v v':=by
  have hc0:=hc;obtain ⟨a0,a1,x0,x1,y0,y1,s0,s1,p0,p1⟩:=hc;have M0:=Mv.refl w L v h.size;have pk:=peek_of h.peeks;obtain ⟨z0,z1⟩:=pk ((c.PC+1) % 65536);obtain ⟨e0,e1,e2,e3,e4,e5,e6,e7,e8,e9,e10,_,_,hfz,hlt⟩:=h.facts
  by_cases hx : x = [80,72,65]
  · subst hx
    rw [show phB [80,72,65] c b = (lo1 c b).wr (stk c.S) c.A from rfl]
    have HB:=hR w;go_enter Tryz.func115,Tryz.ntmps115
    go_wp2_with fail;refine Calls.mono (impl_rd ((c.PC+1) % 65536) _ h rfl (by omega) (by omega) (by omega)) ?_;rintro _ w1 ⟨rfl,v1,H1,M1⟩;have M1:=M0.tr M1;clear e0 e1 e2 e3 e4 e5 e6 e7 e8 e9 e10 hfz hlt;obtain ⟨e0,e1,e2,e3,e4,e5,e6,e7,e8,e9,e10,_,_,hfz,hlt⟩:=H1.facts
    go_wp2_with fail
    refine Calls.mono (impl_push1 c.A H1 (by omega) ⟨s0,s1⟩ ⟨a0,a1⟩) ?_
    rintro _ w5 ⟨rfl,v5,H5,M5⟩
    go_wp2_with fail
    go_end0
    exact ⟨rfl,_,H5,M1.tr M5⟩
  · have hx1 : (x == [80,72,65]) = false:=beq_eq_false_iff_ne.2 hx
    rw [show phB x c b = (lo1 c b).wr (stk c.S) (packP c.F true) from by simp [phB,hx1]]
    clear hx
    have hpk:=packP_b c.F true
    have HB:=hR w;go_enter Tryz.func115,Tryz.ntmps115
    go_wp2_with fail;refine Calls.mono (impl_rd ((c.PC+1) % 65536) _ h rfl (by omega) (by omega) (by omega)) ?_;rintro _ w1 ⟨rfl,v1,H1,M1⟩;have M1:=M0.tr M1;clear e0 e1 e2 e3 e4 e5 e6 e7 e8 e9 e10 hfz hlt;obtain ⟨e0,e1,e2,e3,e4,e5,e6,e7,e8,e9,e10,_,_,hfz,hlt⟩:=H1.facts
    go_wp2_with fail
    refine Calls.mono (impl_PackP c.F true _) ?_
    rintro _ w2 ⟨rfl,hb⟩
    have H2:=HoldM.below H1 hb
    have M2:=M1.bl hb
    clear e0 e1 e2 e3 e4 e5 e6 e7 e8 e9 e10 hfz hlt;obtain ⟨e0,e1,e2,e3,e4,e5,e6,e7,e8,e9,e10,_,_,hfz,hlt⟩:=H2.facts
    go_wp2_with fail
    refine Calls.mono (impl_push1 (packP c.F true) H2 (by omega) ⟨s0,s1⟩ hpk) ?_
    rintro _ w5 ⟨rfl,v5,H5,M5⟩
    go_wp2_with fail
    go_end0
    exact ⟨rfl,_,H5,M2.tr M5⟩
theorem impl_wr (a d : Int) {w : World} {L : Lay} {v : Value} {c : Cpu} {b : Bus} {n : Nat} (h : HoldM w L v c b n) (hn : n ≤ 900000) (h0 : 0 ≤ a) (h1 : a < 65536) (d0 : 0 ≤ d) (d1 : d < 256) :
    Calls Tryz.prog 148 #[.pointer (some ⟨L.g,0,none⟩),.int .u16 a,.int .u8 d] w fun e w' => e = .returned (.tuple #[])∧∃ v',HoldM w' L v' c (b.wr a d) (n+1)∧Mv w w' L v v':=impl_write a d h (by omega) h0 h1 d0 d1
theorem doT_b (x : List UInt8) (c : Cpu) (v : Int) (hc : c.ok) (h0 : 0 ≤ v) (h1 : v < 256) : 0 ≤ (doT x c v).2∧(doT x c v).2 < 256:=by
  have r0:=b2i_lo c.F.C
  have r1:=b2i_hi c.F.C
  refine do_cases c v x (fun _ _ r => 0 ≤ r∧r < 256) ?_ ?_ ?_ ?_ ?_ ?_ ?_ ?_ ?_ ?_ ?_ ?_ ?_ ?_ ?_ ?_ ?_ ?_ ?_
  all_goals first | (intros;exact ⟨h0,h1⟩) | exact w8b _ _ _ | (simp only [aslT,lsrT,rolT,rorT];omega) | omega
def OpdSaid (k m : Int) (x : List UInt8) : Prop:=∀ {w : World} {L : Lay} {v : Value} {c : Cpu} {b : Bus} {n : Nat} (_ : HoldM w L v c b n) (_ : n ≤ 700000) (_ : c.ok),
    Calls Tryz.prog 114 #[.pointer (some ⟨L.g,0,none⟩),.int .i64 k,.int .i64 m,.string ⟨x.toArray⟩] w fun e w' => e = .returned (.tuple #[])∧∃ v',HoldM w' L v' (opdC k m x c b) (opdB k m x c b) (n+8)∧Mv w w' L v v'
set_option maxRecDepth 20000 in
set_option maxHeartbeats 400000 in
theorem opd_imm (k : Int) (x : List UInt8) : OpdSaid k 2 x:=by
  intro w L v c b n h hn hc
  have hc0:=hc;obtain ⟨a0,a1,x0,x1,y0,y1,s0,s1,p0,p1⟩:=hc;have M0:=Mv.refl w L v h.size;have pk:=peek_of h.peeks;obtain ⟨z0,z1⟩:=pk ((c.PC+1) % 65536);obtain ⟨e0,e1,e2,e3,e4,e5,e6,e7,e8,e9,e10,_,_,hfz,hlt⟩:=h.facts
  have HB:=hR w;go_enter Tryz.func114,Tryz.ntmps114
  go_wp2_with fail;refine Calls.mono (impl_rd ((c.PC+1) % 65536) _ h rfl (by omega) (by omega) (by omega)) ?_;rintro _ w1 ⟨rfl,v1,H1,M1⟩;have M1:=M0.tr M1;clear e0 e1 e2 e3 e4 e5 e6 e7 e8 e9 e10 hfz hlt;obtain ⟨e0,e1,e2,e3,e4,e5,e6,e7,e8,e9,e10,_,_,hfz,hlt⟩:=H1.facts
  go_wp2_with fail
  refine Calls.mono (impl_do x (peek b.m ((c.PC+1) % 65536)) H1 hc0 z0 z1) ?_
  rintro _ w2 ⟨rfl,H2,M2⟩
  go_wp2_with fail
  (refine bodyPost_ret (v:=.tuple #[]) (by (simp only [results,Tryz.results114];go_simp <;> (rfl))) rfl ?_)
  exact ⟨rfl,_,H2.mono (by omega),M1.tr M2⟩
def PM (m : Int) : Prop:=m = 3 ∨ m = 4 ∨ m = 5 ∨ m = 6 ∨ m = 7 ∨ m = 8 ∨ m = 10 ∨ m = 11
theorem PM.ne {m : Int} (h : PM m) : (m == 2) = false:=beq_eq_false_iff_ne.2 (by unfold PM at h;omega)
set_option maxRecDepth 20000 in
set_option maxHeartbeats 400000 in
theorem opd_2 (m : Int) (x : List UInt8) (hm : PM m) : OpdSaid 2 m x:=by
  intro w L v c b n h hn hc
  have hc0:=hc;obtain ⟨a0,a1,x0,x1,y0,y1,s0,s1,p0,p1⟩:=hc;have M0:=Mv.refl w L v h.size;have pk:=peek_of h.peeks;obtain ⟨z0,z1⟩:=pk ((c.PC+1) % 65536);obtain ⟨e0,e1,e2,e3,e4,e5,e6,e7,e8,e9,e10,_,_,hfz,hlt⟩:=h.facts
  have em:=hm.ne;have hpl:=@plc_b c b m 2 h.peeks;have hpm:=plc_m c b m 2;obtain ⟨E,hE⟩ : ∃ E,(plc c b m 2).1 = E:=⟨_,rfl⟩;obtain ⟨B,hB⟩ : ∃ B,(plc c b m 2).2 = B:=⟨_,rfl⟩;rw [hE] at hpl;rw [hB] at hpm;obtain ⟨g0,g1⟩:=hpl;obtain ⟨r0,r1⟩:=pk E;have HE:=Aside0.mk hE;have HB0:=Aside0.mk hB;have HM:=Aside0.mk hpm;clear hE hB hpm
  rw [show opdB 2 m x c b = B.rd E from by simp [opdB,em,HE.out,HB0.out],show opdC 2 m x c b = (doT x c (peek b.m E)).1 from by simp [opdC,em,HE.out]]
  have HB:=hR w;go_enter Tryz.func114,Tryz.ntmps114
  go_wp2_with fail;refine Calls.mono (impl_place m 2 hm h (by omega) hc0) ?_;rintro _ w1 ⟨rfl,v1,H1,M1⟩;rw [HE.out];rw [HB0.out] at H1;clear e0 e1 e2 e3 e4 e5 e6 e7 e8 e9 e10 hfz hlt;obtain ⟨e0,e1,e2,e3,e4,e5,e6,e7,e8,e9,e10,_,_,hfz,hlt⟩:=H1.facts
  go_wp2_with fail
  refine Calls.mono (impl_rd E b.m H1 HM.out (by omega) (by omega) (by omega)) ?_
  rintro _ w2 ⟨rfl,v2,H2,M2⟩
  have M2:=M1.tr M2
  go_wp2_with fail
  refine Calls.mono (impl_do x (peek b.m E) H2 hc0 r0 r1) ?_
  rintro _ w3 ⟨rfl,H3,M3⟩
  go_wp2_with fail
  go_end0
  exact ⟨rfl,_,H3.mono (by omega),M2.tr M3⟩
set_option maxRecDepth 20000 in
set_option maxHeartbeats 1000000 in
theorem opd_3 (m : Int) (x : List UInt8) (hm : PM m) (hx : x = [83,84,65] ∨ x = [83,84,88] ∨ x = [83,84,89]) : OpdSaid 3 m x:=by
  intro w L v c b n h hn hc
  have hc0:=hc;obtain ⟨a0,a1,x0,x1,y0,y1,s0,s1,p0,p1⟩:=hc;have M0:=Mv.refl w L v h.size;have pk:=peek_of h.peeks;obtain ⟨z0,z1⟩:=pk ((c.PC+1) % 65536);obtain ⟨e0,e1,e2,e3,e4,e5,e6,e7,e8,e9,e10,_,_,hfz,hlt⟩:=h.facts
  have em:=hm.ne;have hpl:=@plc_b c b m 3 h.peeks;have hpm:=plc_m c b m 3;obtain ⟨E,hE⟩ : ∃ E,(plc c b m 3).1 = E:=⟨_,rfl⟩;obtain ⟨B,hB⟩ : ∃ B,(plc c b m 3).2 = B:=⟨_,rfl⟩;rw [hE] at hpl;rw [hB] at hpm;obtain ⟨g0,g1⟩:=hpl;obtain ⟨r0,r1⟩:=pk E;have HE:=Aside0.mk hE;have HB0:=Aside0.mk hB;have HM:=Aside0.mk hpm;clear hE hB hpm
  rcases hx with rfl | rfl | rfl
  · have hi2 : (((⟨#[83,84,65]⟩ : ByteArray)[2]'(by decide)).toNat : Int) = 65:=rfl;rw [show opdB 3 m [83,84,65] c b = B.wr E c.A from by { simp [opdB,em,HE.out,HB0.out,regT] },show opdC 3 m [83,84,65] c b = c from by { simp [opdC,em] }];have HB:=hR w;go_enter Tryz.func114,Tryz.ntmps114;go_wp2_with fail;refine Calls.mono (impl_place m 3 hm h (by omega) hc0) ?_;rintro _ w1 ⟨rfl,v1,H1,M1⟩;rw [HE.out];rw [HB0.out] at H1;clear e0 e1 e2 e3 e4 e5 e6 e7 e8 e9 e10 hfz hlt;obtain ⟨e0,e1,e2,e3,e4,e5,e6,e7,e8,e9,e10,_,_,hfz,hlt⟩:=H1.facts;go_wp2_with (first | (go_at_call 156;((with_reducible refine (reg_A _ _).mono ?_);rintro _ _ ⟨rfl,rfl⟩)) | (go_at_call 156;((with_reducible refine (reg_X _ _).mono ?_);rintro _ _ ⟨rfl,rfl⟩)) | (go_at_call 156;((with_reducible refine (reg_Y _ _).mono ?_);rintro _ _ ⟨rfl,rfl⟩)));refine Calls.mono (impl_wr E c.A H1 (by omega) (by omega) (by omega) (by omega) (by omega)) ?_;rintro _ w2 ⟨rfl,v2,H2,M2⟩;go_wp2_with fail;go_end0;exact ⟨rfl,_,H2.mono (by omega),M1.tr M2⟩
  · have hi2 : (((⟨#[83,84,88]⟩ : ByteArray)[2]'(by decide)).toNat : Int) = 88:=rfl;rw [show opdB 3 m [83,84,88] c b = B.wr E c.X from by { simp [opdB,em,HE.out,HB0.out,regT] },show opdC 3 m [83,84,88] c b = c from by { simp [opdC,em] }];have HB:=hR w;go_enter Tryz.func114,Tryz.ntmps114;go_wp2_with fail;refine Calls.mono (impl_place m 3 hm h (by omega) hc0) ?_;rintro _ w1 ⟨rfl,v1,H1,M1⟩;rw [HE.out];rw [HB0.out] at H1;clear e0 e1 e2 e3 e4 e5 e6 e7 e8 e9 e10 hfz hlt;obtain ⟨e0,e1,e2,e3,e4,e5,e6,e7,e8,e9,e10,_,_,hfz,hlt⟩:=H1.facts;go_wp2_with (first | (go_at_call 156;((with_reducible refine (reg_A _ _).mono ?_);rintro _ _ ⟨rfl,rfl⟩)) | (go_at_call 156;((with_reducible refine (reg_X _ _).mono ?_);rintro _ _ ⟨rfl,rfl⟩)) | (go_at_call 156;((with_reducible refine (reg_Y _ _).mono ?_);rintro _ _ ⟨rfl,rfl⟩)));refine Calls.mono (impl_wr E c.X H1 (by omega) (by omega) (by omega) (by omega) (by omega)) ?_;rintro _ w2 ⟨rfl,v2,H2,M2⟩;go_wp2_with fail;go_end0;exact ⟨rfl,_,H2.mono (by omega),M1.tr M2⟩
  · have hi2 : (((⟨#[83,84,89]⟩ : ByteArray)[2]'(by decide)).toNat : Int) = 89:=rfl;rw [show opdB 3 m [83,84,89] c b = B.wr E c.Y from by { simp [opdB,em,HE.out,HB0.out,regT] },show opdC 3 m [83,84,89] c b = c from by { simp [opdC,em] }];have HB:=hR w;go_enter Tryz.func114,Tryz.ntmps114;go_wp2_with fail;refine Calls.mono (impl_place m 3 hm h (by omega) hc0) ?_;rintro _ w1 ⟨rfl,v1,H1,M1⟩;rw [HE.out];rw [HB0.out] at H1;clear e0 e1 e2 e3 e4 e5 e6 e7 e8 e9 e10 hfz hlt;obtain ⟨e0,e1,e2,e3,e4,e5,e6,e7,e8,e9,e10,_,_,hfz,hlt⟩:=H1.facts;go_wp2_with (first | (go_at_call 156;((with_reducible refine (reg_A _ _).mono ?_);rintro _ _ ⟨rfl,rfl⟩)) | (go_at_call 156;((with_reducible refine (reg_X _ _).mono ?_);rintro _ _ ⟨rfl,rfl⟩)) | (go_at_call 156;((with_reducible refine (reg_Y _ _).mono ?_);rintro _ _ ⟨rfl,rfl⟩)));refine Calls.mono (impl_wr E c.Y H1 (by omega) (by omega) (by omega) (by omega) (by omega)) ?_;rintro _ w2 ⟨rfl,v2,H2,M2⟩;go_wp2_with fail;go_end0;exact ⟨rfl,_,H2.mono (by omega),M1.tr M2⟩
set_option maxRecDepth 20000 in
set_option maxHeartbeats 1000000 in
theorem opd_4 (m : Int) (x : List UInt8) (hm : PM m) : OpdSaid 4 m x:=by
  intro w L v c b n h hn hc
  have hc0:=hc;obtain ⟨a0,a1,x0,x1,y0,y1,s0,s1,p0,p1⟩:=hc;have M0:=Mv.refl w L v h.size;have pk:=peek_of h.peeks;obtain ⟨z0,z1⟩:=pk ((c.PC+1) % 65536);obtain ⟨e0,e1,e2,e3,e4,e5,e6,e7,e8,e9,e10,_,_,hfz,hlt⟩:=h.facts
  have em:=hm.ne;have hpl:=@plc_b c b m 4 h.peeks;have hpm:=plc_m c b m 4;obtain ⟨E,hE⟩ : ∃ E,(plc c b m 4).1 = E:=⟨_,rfl⟩;obtain ⟨B,hB⟩ : ∃ B,(plc c b m 4).2 = B:=⟨_,rfl⟩;rw [hE] at hpl;rw [hB] at hpm;obtain ⟨g0,g1⟩:=hpl;obtain ⟨r0,r1⟩:=pk E;have HE:=Aside0.mk hE;have HB0:=Aside0.mk hB;have HM:=Aside0.mk hpm;clear hE hB hpm
  obtain ⟨t0,t1⟩:=doT_b x c (peek b.m E) hc0 r0 r1
  rw [show opdB 4 m x c b = (((B.rd E).wr E (peek b.m E)).wr E (doT x c (peek b.m E)).2) from by simp [opdB,em,HE.out,HB0.out],show opdC 4 m x c b = (doT x c (peek b.m E)).1 from by simp [opdC,em,HE.out]]
  have HB:=hR w;go_enter Tryz.func114,Tryz.ntmps114
  go_wp2_with fail;refine Calls.mono (impl_place m 4 hm h (by omega) hc0) ?_;rintro _ w1 ⟨rfl,v1,H1,M1⟩;rw [HE.out];rw [HB0.out] at H1;clear e0 e1 e2 e3 e4 e5 e6 e7 e8 e9 e10 hfz hlt;obtain ⟨e0,e1,e2,e3,e4,e5,e6,e7,e8,e9,e10,_,_,hfz,hlt⟩:=H1.facts
  go_wp2_with fail
  refine Calls.mono (impl_rd E b.m H1 HM.out (by omega) (by omega) (by omega)) ?_
  rintro _ w2 ⟨rfl,v2,H2,M2⟩
  have M2:=M1.tr M2
  go_wp2_with fail
  refine Calls.mono (impl_wr E (peek b.m E) H2 (by omega) (by omega) (by omega) (by omega) (by omega)) ?_
  rintro _ w3 ⟨rfl,v3,H3,M3⟩
  have M3:=M2.tr M3
  go_wp2_with fail
  refine Calls.mono (impl_do x (peek b.m E) H3 hc0 r0 r1) ?_
  rintro _ w4 ⟨rfl,H4,M4⟩
  have M4:=M3.tr M4
  go_wp2_with fail
  refine Calls.mono (impl_wr E (doT x c (peek b.m E)).2 H4 (by omega) (by omega) (by omega) (by omega) (by omega)) ?_
  rintro _ w5 ⟨rfl,v5,H5,M5⟩
  have M5:=M4.tr M5
  go_wp2_with fail
  go_end0
  exact ⟨rfl,_,H5.mono (by omega),M5⟩
end Go.Proofs.YtoncmhfmkfeolaaGreatDoor
