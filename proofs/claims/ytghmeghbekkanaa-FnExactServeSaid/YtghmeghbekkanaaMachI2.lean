/- The program's processor at work: bytes pushed; an interrupt. -/
import Derived.Test.YtghmeghbekkanaaMachI
import Derived.Test.YtghmeghbekkanaaPack
set_option linter.unusedVariables false
set_option linter.unusedSimpArgs false
namespace Go.Proofs.Ytghmeghbekkanaa
open Go.RowKit Go.Proofs.YtghmeghbekkanaaW.PrintWords
theorem w8 (x : Int) : 0 ≤ IntKind.u8.wrap x ∧ IntKind.u8.wrap x < 256 := by rw [IntKind.wrap_u8]; omega
def stk (s : Int) : Int := 256 + s % 256
theorem stk_b (s : Int) : 0 ≤ stk s ∧ stk s < 65536 := by unfold stk; omega
def pushB (c : Cpu) (b : Bus) (ds : List Int) : Nat → Bus
  | 0 => b
  | k + 1 => (pushB c b ds k).wr (stk (c.S - k)) (rd ds k)
def Cpu.dn (c : Cpu) (k : Int) : Cpu := { c with S := (c.S - k) % 256 }
theorem HoldM.setS {w : World} {L : Lay} {v : Value} {c : Cpu} {b : Bus} {n : Nat} (h : HoldM w L v c b n) (x : Int) : HoldM (w.setCell ⟨L.g, 3, none⟩ (.int .u8 x)) L v { c with S := x } b n := Hold.set h 3 _
theorem HoldM.setPC {w : World} {L : Lay} {v : Value} {c : Cpu} {b : Bus} {n : Nat} (h : HoldM w L v c b n) (x : Int) : HoldM (w.setCell ⟨L.g, 4, none⟩ (.int .u16 x)) L v { c with PC := x } b n := Hold.set h 4 _
theorem HoldM.setI {w : World} {L : Lay} {v : Value} {c : Cpu} {b : Bus} {n : Nat} (h : HoldM w L v c b n) (x : Bool) : HoldM (w.setCell ⟨L.g, 8, none⟩ (.bool x)) L v { c with F := { c.F with I := x } } b n := Hold.set h 8 _
def Apart (w : World) (L : Lay) (v : Value) (i : Nat) : Prop := i < w.heap.size ∧ i ≠ L.g ∧ i ≠ L.r ∧ some i ≠ v.ownBlock
theorem Hold.fresh {w : World} {L : Lay} {v : Value} {T : Nat} {cs : Array Value} {b : Bus} {n : Nat} (h : Hold w L v T cs b n) (o : Obj) : Apart (w.alloc o) L v w.heap.size :=
  ⟨by simp, by have := h.lt; omega, by have := h.rlt; omega, fun e => by have := h.vlt _ e.symm; omega⟩
set_option maxRecDepth 20000 in
set_option maxHeartbeats 400000 in
theorem impl_push (ds : List Int) (p cap : Nat) {w : World} {L : Lay} {v : Value} {c : Cpu} {b : Bus} {n : Nat} (h : HoldM w L v c b n) (hn : n ≤ 900000) (hc : 0 ≤ c.S ∧ c.S < 256) (ha : Apart w L v p) (hd : Bs w (some ⟨p, 0, none⟩) ds) (hl : ds.length ≤ 100) :
    Calls Try.prog 66 #[.pointer (some ⟨L.g, 0, none⟩), .slice (some ⟨p, 0, none⟩) ds.length cap] w fun e w' => e = .returned (.tuple #[]) ∧ ∃ v', HoldM w' L v' (c.dn ds.length) (pushB c b ds ds.length) (n + ds.length) ∧ Mv w w' L v v' := by
  have HB := hR w; go_enter Try.func66, Try.ntmps66
  go_wp2_with fail
  go_loopw [8] (fun v8 wr => ∃ k : Nat, ∃ v', k ≤ ds.length ∧ v8 = .int .i64 k ∧ Aside0 (HoldM wr L v' (c.dn k) (pushB c b ds k) (n + k)) ∧ Aside0 (Mv w wr L v v')) (fun v8 _ => ds.length - (intOf v8).toNat)
  case atStart => exact ⟨0, v, Nat.zero_le _, rfl, ⟨by have e : c.dn (0 : Nat) = c := by { unfold Cpu.dn; rw [show (c.S - (0 : Nat)) % 256 = c.S by omega] }; rw [e]; exact h⟩, ⟨Mv.refl _ _ _ (HoldM.size h)⟩⟩
  case round =>
    obtain ⟨k, v1, hk, rfl, H1, M1⟩ := hrel
    by_cases hlt : k < ds.length
    · obtain ⟨ad, ead, hx⟩ := hd.at k (by omega) (by omega)
      injection ead with ead
      subst ead
      rw [Int.toNat_natCast, add_plain] at hx
      have hx1 := ((M1.out.loc p ha.1 ha.2).1 k).trans hx
      have hr := hd.b k
      obtain ⟨_, _, _, e3, _, _, _, _, _, _, _, _, _, hfz, hlt1⟩ := H1.out.facts
      have hs : 0 ≤ (c.dn k).S ∧ (c.dn k).S < 256 := by unfold Cpu.dn; simp only []; omega
      have hs1 := hs.1
      have hs2 := hs.2
      go_wp2_with (first | (go_at_call 87; ((with_reducible refine (impl_stack _ _ hs1 hs2).mono ?_); rintro _ _ ⟨rfl, rfl⟩)))
      refine (impl_write (256 + (c.dn k).S) (rd ds k) H1.out (by omega) (by omega) (by omega) hr.1 hr.2).mono ?_
      rintro _ w2 ⟨rfl, v2, H2, M2⟩
      have M2 := Aside0.mk (M1.out.trans M2 (Hold.size H1.out))
      obtain ⟨_, _, _, e3, _, _, _, _, _, _, _, _, _, hfz, hlt1⟩ := H2.facts
      have H2 := Aside0.mk H2
      go_wp2_with fail
      have e1 : { c.dn k with S := ((c.dn k).S - 1) % 256 } = c.dn (k + 1 : Nat) := by
        show ({ c with S := ((c.S - (k : Int)) % 256 - 1) % 256 } : Cpu) = { c with S := (c.S - ((k + 1 : Nat) : Int)) % 256 }
        rw [show ((c.S - (k : Int)) % 256 - 1) % 256 = (c.S - ((k + 1 : Nat) : Int)) % 256 by omega]
      have e2 : pushB c b ds (k + 1) = (pushB c b ds k).wr (256 + (c.dn k).S) (rd ds k) := rfl
      have H3 := HoldM.setS H2.out (((c.dn k).S - 1) % 256)
      rw [e1, ← e2] at H3
      exact ⟨⟨k + 1, v2, by omega, by go_num, ⟨H3⟩, ⟨M2.out.set (Hold.bg h) 3 _⟩⟩, by simp [intOf]; omega⟩
    · go_wp2
      go_end0
      have e : k = ds.length := by omega
      subst e
      exact ⟨rfl, v1, H1.out, M1.out⟩
theorem rd_lit (L : List Int) (hb : ∀ x ∈ L, 0 ≤ x ∧ x < 256) (i : Int) : 0 ≤ rd L i ∧ rd L i < 256 := by
  unfold rd
  rw [List.getD_eq_getElem?_getD]
  rcases Nat.lt_or_ge i.toNat L.length with h | h
  · rw [List.getElem?_eq_getElem h]; exact hb _ (List.getElem_mem h)
  · rw [List.getElem?_eq_none h]; simp
theorem bs_lit (W : World) (L : List Int) (e : TypeId) (hm : L.length ≤ 1048576) (hb : ∀ x ∈ L, 0 ≤ x ∧ x < 256) : Bs (W.alloc (Obj.cells (L.map (Value.int .u8)).toArray e)) (some ⟨W.heap.size, 0, none⟩) L := by
  refine ⟨Kd.C_of_reads (d := (0 : Int)) (h1 := fun _ => rfl) ⟨rfl, by omega, fun _ => ⟨_, rfl, fun j hj => ?_⟩⟩, rd_lit L hb⟩
  rw [add_plain, World.cell?_alloc_new]
  simp [hj]
theorem impl_pushL (ds : List Int) {w : World} {L : Lay} {v : Value} {c : Cpu} {b : Bus} {n : Nat} (h : HoldM w L v c b n) (hn : n ≤ 900000) (hc : 0 ≤ c.S ∧ c.S < 256) (hb : ∀ x ∈ ds, 0 ≤ x ∧ x < 256) (hl : ds.length ≤ 100) (cap : Nat) :
    Calls Try.prog 66 #[.pointer (some ⟨L.g, 0, none⟩), .slice (some ⟨w.heap.size, 0, none⟩) ds.length cap] (w.alloc (.cells (ds.map (Value.int .u8)).toArray 5)) fun e w' => e = .returned (.tuple #[]) ∧ ∃ v', HoldM w' L v' (c.dn ds.length) (pushB c b ds ds.length) (n + ds.length) ∧ Mv w w' L v v' :=
  (impl_push ds w.heap.size cap (Hold.alloc h _) hn hc (Hold.fresh h _) (bs_lit w ds _ (by omega) hb) hl).mono fun _ _ ⟨h1, v1, h2, h3⟩ => ⟨h1, v1, h2, ((Mv.refl w L v (Hold.size h)).alloc (Hold.size h) _).trans h3 (Hold.size (Hold.alloc h _))⟩
theorem pushB3 (c : Cpu) (b : Bus) (x y z : Int) : pushB c b [x, y, z] 3 = ((b.wr (stk c.S) x).wr (stk (c.S - 1)) y).wr (stk (c.S - 2)) z := by
  show ((b.wr (stk (c.S - (0 : Nat))) x).wr (stk (c.S - (1 : Nat))) y).wr (stk (c.S - (2 : Nat))) z = _
  rw [show c.S - (0 : Nat) = c.S by simp]
  rfl
theorem impl_push3 (x y z : Int) {w : World} {L : Lay} {v : Value} {c : Cpu} {b : Bus} {n : Nat} (h : HoldM w L v c b n) (hn : n ≤ 900000) (hc : 0 ≤ c.S ∧ c.S < 256) (hx : 0 ≤ x ∧ x < 256) (hy : 0 ≤ y ∧ y < 256) (hz : 0 ≤ z ∧ z < 256) :
    Calls Try.prog 66 #[.pointer (some ⟨L.g, 0, none⟩), .slice (some ⟨w.heap.size, 0, none⟩) 3 3] (w.alloc (.cells #[.int .u8 x, .int .u8 y, .int .u8 z] 5)) fun e w' => e = .returned (.tuple #[]) ∧ ∃ v', HoldM w' L v' (c.dn 3) (((b.wr (stk c.S) x).wr (stk (c.S - 1)) y).wr (stk (c.S - 2)) z) (n + 3) ∧ Mv w w' L v v' := by
  have := impl_pushL [x, y, z] h hn hc (by simp [hx, hy, hz]) (by simp) 3
  rw [show [x, y, z].length = 3 from rfl, pushB3] at this
  exact this
def push3 (c : Cpu) (b : Bus) (pc : Int) (k : Bool) : Bus := ((b.wr (stk c.S) (pc / 256)).wr (stk (c.S - 1)) (pc % 256)).wr (stk (c.S - 2)) (packP c.F k)
def vec (nmi : Bool) : Int := if nmi then 65530 else 65534
def Cpu.to (c : Cpu) (b : Bus) (a : Int) : Cpu := { c with S := (c.S - 3) % 256, PC := word2 (peek b.m a) (peek b.m (a + 1)), F := { c.F with I := true } }
def serveB (c : Cpu) (b : Bus) (nmi : Bool) : Bus := ((push3 c ((b.rd c.PC).rd c.PC) c.PC false).rd (vec nmi)).rd (vec nmi + 1)
def serveC (c : Cpu) (b : Bus) (nmi : Bool) : Cpu := c.to (push3 c ((b.rd c.PC).rd c.PC) c.PC false) (vec nmi)
set_option maxRecDepth 20000 in
set_option maxHeartbeats 400000 in
theorem impl_serve (nmi : Bool) {w : World} {L : Lay} {v : Value} {c : Cpu} {b : Bus} {n : Nat} (h : HoldM w L v c b n) (hn : n ≤ 800000) (hc : c.ok) :
    Calls Try.prog 36 #[.pointer (some ⟨L.g, 0, none⟩), .bool nmi] w fun e w' => e = .returned (.tuple #[]) ∧ ∃ v', HoldM w' L v' (serveC c b nmi) (serveB c b nmi) (n + 7) ∧ Mv w w' L v v' := by
  obtain ⟨_, _, _, _, _, _, hs0, hs1, hp0, hp1⟩ := hc
  obtain ⟨_, _, _, _, e4, _, _, _, _, _, _, _, _, hfz, hlt⟩ := h.facts
  have HB := hR w; go_enter Try.func36, Try.ntmps36
  go_wp2_with fail
  refine (impl_read c.PC h (by omega) hp0 hp1).mono ?_
  rintro _ w1 ⟨rfl, v1, H1, M1⟩
  obtain ⟨_, _, _, _, e4, _, _, _, _, _, _, _, _, hfz, hlt⟩ := H1.facts
  go_wp2_with fail
  refine (impl_read c.PC H1 (by omega) hp0 hp1).mono ?_
  rintro _ w2 ⟨rfl, v2, H2, M2⟩
  obtain ⟨_, _, _, _, e4, e5, e6, e7, e8, e9, e10, _, _, hfz, hlt⟩ := H2.facts
  have M2 := Aside0.mk (M1.trans M2 (Hold.size H1))
  have H2 := Aside0.mk H2
  clear M1 H1
  have HB2 := Aside0.mk (Below.refl w2.heap.size w2)
  have hpk := packP_b c.F false
  have W1 : Aside0 (IntKind.u8.wrap (c.PC / 256) = c.PC / 256) := ⟨by rw [IntKind.wrap_u8]; omega⟩
  have W2 : Aside0 (IntKind.u8.wrap c.PC = c.PC % 256) := ⟨IntKind.wrap_u8 _⟩
  go_wp2_with fail
  go_region_held3 (fun w' => w'.cell? ⟨L.g, 4, none⟩ = some (.int .u16 c.PC) ∧ w'.cell? ⟨L.g, 5, none⟩ = some (.bool c.F.N) ∧ w'.cell? ⟨L.g, 6, none⟩ = some (.bool c.F.V) ∧ w'.cell? ⟨L.g, 7, none⟩ = some (.bool c.F.D) ∧ w'.cell? ⟨L.g, 8, none⟩ = some (.bool c.F.I) ∧ w'.cell? ⟨L.g, 9, none⟩ = some (.bool c.F.Z) ∧ w'.cell? ⟨L.g, 10, none⟩ = some (.bool c.F.C)) (first | (go_keep; done) | (go_split_ands; (repeat' apply And.intro) <;> (first | (with_reducible assumption) | (go_simp; done) | (exact cell_keep blw (by assumption)) | exact blw))) (first | (go_at_call 67; ((with_reducible refine (impl_PackP _ _ _).mono ?_); rintro _ w3 ⟨rfl, hb⟩; have HB2 := Aside0.mk (below_step (w := w2) (blw) hb); have hz3 := hb.size; obtain ⟨hcl3, hfr3, hlt3, _⟩ := bcell hb; (try simp only [World.size_alloc, World.size_setCell, World.size_drew] at hz3 hcl3 hfr3 hlt3); clear hb)) | (go_at_call 66; ((with_reducible refine (impl_push3 (IntKind.u8.wrap (c.PC / 256)) (IntKind.u8.wrap c.PC) (packP c.F false) (w := w3) (HoldM.below H2.out (blw)) (by omega) ⟨hs0, hs1⟩ (w8 _) (w8 _) hpk).mono ?_); rintro _ w4 ⟨rfl, v4, H4, M4⟩; have M4 := Aside0.mk ((M2.out.then HB2.out (Hold.size H2.out)).trans M4 (Nat.le_trans (Hold.size H2.out) HB2.out.size)); rw [W1.out, W2.out] at H4; have H4 := Aside0.mk H4; have e4 : w4.cell? ⟨L.g, 4, none⟩ = some (.int .u16 c.PC) := H4.out.facts.c4; have e5 : w4.cell? ⟨L.g, 5, none⟩ = some (.bool c.F.N) := H4.out.facts.c5; have e6 : w4.cell? ⟨L.g, 6, none⟩ = some (.bool c.F.V) := H4.out.facts.c6; have e7 : w4.cell? ⟨L.g, 7, none⟩ = some (.bool c.F.D) := H4.out.facts.c7; have e8 : w4.cell? ⟨L.g, 8, none⟩ = some (.bool c.F.I) := H4.out.facts.c8; have e9 : w4.cell? ⟨L.g, 9, none⟩ = some (.bool c.F.Z) := H4.out.facts.c9; have e10 : w4.cell? ⟨L.g, 10, none⟩ = some (.bool c.F.C) := H4.out.facts.c10)))
  clear e4 e5 e6 e7 e8 e9 e10
  cases nmi
  · go_wp2_with fail
    refine (impl_readTwo 65534 65535 H4.out (by omega) (by decide) (by decide) (by decide) (by decide)).mono ?_
    rintro _ w5 ⟨rfl, v5, H5, M5⟩
    obtain ⟨_, _, _, _, e4, e5, e6, e7, e8, e9, e10, _, _, hfz, hlt⟩ := H5.facts; have M5 := Aside0.mk (M4.out.trans M5 (HoldM.size H4.out)); have H5 := Aside0.mk H5; clear H4 M4 H2 M2; go_wp2_with fail; go_end0; exact ⟨rfl, v5, HoldM.setI (HoldM.setPC H5.out _) true, (M5.out.set (Hold.bg h) 4 _).set (Hold.bg h) 8 _⟩
  · go_wp2_with fail
    refine (impl_readTwo 65530 65531 H4.out (by omega) (by decide) (by decide) (by decide) (by decide)).mono ?_
    rintro _ w5 ⟨rfl, v5, H5, M5⟩
    obtain ⟨_, _, _, _, e4, e5, e6, e7, e8, e9, e10, _, _, hfz, hlt⟩ := H5.facts; have M5 := Aside0.mk (M4.out.trans M5 (HoldM.size H4.out)); have H5 := Aside0.mk H5; clear H4 M4 H2 M2; go_wp2_with fail; go_end0; exact ⟨rfl, v5, HoldM.setI (HoldM.setPC H5.out _) true, (M5.out.set (Hold.bg h) 4 _).set (Hold.bg h) 8 _⟩
end Go.Proofs.Ytghmeghbekkanaa
