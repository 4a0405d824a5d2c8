/- Kinds of a run's data: interrupts that are asked for, numbers, processors. -/
import Derived.Test.YtoncmhfmkfeolaaDoorMany
set_option linter.unusedVariables false
set_option linter.unusedSimpArgs false
namespace Go.Proofs.YtoncmhfmkfeolaaDoor
open Go.RowKit Go.Proofs.YtoncmhfmkfeolaaDoorW.PrintWords
/-- An interrupt that is asked for. -/
structure Evt where
  a : Int
  n : Bool
def asked (E : List Evt) (k : Int) (n : Bool) : Bool := E.any (fun e => e.a == k && e.n == n)
def evK : Kd Evt := Kd.iso (Kd.pair (Kd.int .i64) Kd.bool) (fun e => (e.a, e.n))
def cpuK : Kd Cpu := Kd.iso (Kd.pair (Kd.int .u8) (Kd.pair (Kd.int .u8) (Kd.pair (Kd.int .u8) (Kd.pair (Kd.int .u8) (Kd.pair (Kd.int .u16) (Kd.pair Kd.bool (Kd.pair Kd.bool (Kd.pair Kd.bool (Kd.pair Kd.bool (Kd.pair Kd.bool Kd.bool)))))))))) (fun c => (c.A, c.X, c.Y, c.S, c.PC, c.F.N, c.F.V, c.F.D, c.F.I, c.F.Z, c.F.C))
def OwnI (w : World) (base : Nat) (v : Value) (l : List Int) : Prop := Kd.R (Kd.int .i64) 3 w base (fun _ => True) v l
def OwnP (w : World) (base : Nat) (v : Value) (l : List Cpu) : Prop := Kd.R cpuK 31 w base (fun _ => True) v l
def OwnV (w : World) (base : Nat) (v : Value) (l : List Evt) : Prop := Kd.R evK 41 w base (fun _ => True) v l
theorem infoInt : (Tryd.prog.info? 3).map (fun i => (i.zero, i.size, i.bytes)) = some (some (.int .i64 0), 1, 8) := by kernel_rfl
theorem infoCpu : (Tryd.prog.info? 31).map (fun i => (i.zero, i.size, i.bytes)) = some (some (.agg #[.int .u8 0, .int .u8 0, .int .u8 0, .int .u8 0, .int .u16 0, .bool false, .bool false, .bool false, .bool false, .bool false, .bool false]), 11, 12) := by kernel_rfl
theorem infoEvt : (Tryd.prog.info? 41).map (fun i => (i.zero, i.size, i.bytes)) = some (some (.agg #[.int .i64 0, .bool false]), 2, 16) := by kernel_rfl
theorem evt_at {w : World} {A : Option Addr} {n : Nat} {l : List Evt} (h : evK.C w A n l) (i : Int) (h0 : 0 ≤ i) (h1 : i < n) (z : Evt) :
    ∃ ad, A = some ad ∧ w.cell? (ad.add (i.toNat * 2)) = some (.int .i64 (l.getD i.toNat z).a) ∧ w.cell? (ad.add (i.toNat * 2 + 1)) = some (.bool (l.getD i.toNat z).n) := by
  obtain ⟨ad, c, rfl, _, hk, hx⟩ := ReadsRow.get_ h z i h0 h1
  obtain ⟨c0, c1, rfl, k0, k1⟩ := hk
  obtain rfl : c0 = [_] := k0
  obtain rfl : c1 = [_] := k1
  exact ⟨ad, rfl, hx 0 _ rfl, hx 1 _ rfl⟩
/-- The cells of the processor at a place of a list. -/
structure CpuIn (w : World) (ad : Addr) (k : Nat) (c : Cpu) : Prop where
  c0 : w.cell? (ad.add (k * 11)) = some (.int .u8 c.A)
  c1 : w.cell? (ad.add (k * 11 + 1)) = some (.int .u8 c.X)
  c2 : w.cell? (ad.add (k * 11 + 2)) = some (.int .u8 c.Y)
  c3 : w.cell? (ad.add (k * 11 + 3)) = some (.int .u8 c.S)
  c4 : w.cell? (ad.add (k * 11 + 4)) = some (.int .u16 c.PC)
  c5 : w.cell? (ad.add (k * 11 + 5)) = some (.bool c.F.N)
  c6 : w.cell? (ad.add (k * 11 + 6)) = some (.bool c.F.V)
  c7 : w.cell? (ad.add (k * 11 + 7)) = some (.bool c.F.D)
  c8 : w.cell? (ad.add (k * 11 + 8)) = some (.bool c.F.I)
  c9 : w.cell? (ad.add (k * 11 + 9)) = some (.bool c.F.Z)
  c10 : w.cell? (ad.add (k * 11 + 10)) = some (.bool c.F.C)
theorem cpu_at {w : World} {A : Option Addr} {n : Nat} {l : List Cpu} (h : cpuK.C w A n l) (i : Int) (h0 : 0 ≤ i) (h1 : i < n) (z : Cpu) :
    ∃ ad, A = some ad ∧ CpuIn w ad i.toNat (l.getD i.toNat z) := by
  obtain ⟨ad, c, rfl, _, hk, hx⟩ := ReadsRow.get_ h z i h0 h1
  obtain ⟨c0, r0, rfl, k0, c1, r1, rfl, k1, c2, r2, rfl, k2, c3, r3, rfl, k3, c4, r4, rfl, k4, c5, r5, rfl, k5, c6, r6, rfl, k6, c7, r7, rfl, k7, c8, r8, rfl, k8, c9, c10, rfl, k9, k10⟩ := hk
  obtain rfl : c0 = [_] := k0
  obtain rfl : c1 = [_] := k1
  obtain rfl : c2 = [_] := k2
  obtain rfl : c3 = [_] := k3
  obtain rfl : c4 = [_] := k4
  obtain rfl : c5 = [_] := k5
  obtain rfl : c6 = [_] := k6
  obtain rfl : c7 = [_] := k7
  obtain rfl : c8 = [_] := k8
  obtain rfl : c9 = [_] := k9
  obtain rfl : c10 = [_] := k10
  exact ⟨ad, rfl, ⟨hx 0 _ rfl, hx 1 _ rfl, hx 2 _ rfl, hx 3 _ rfl, hx 4 _ rfl, hx 5 _ rfl, hx 6 _ rfl, hx 7 _ rfl, hx 8 _ rfl, hx 9 _ rfl, hx 10 _ rfl⟩⟩
theorem OwnI.below {w w' : World} {base : Nat} {v : Value} {l : List Int} (h : OwnI w base v l) (hb : Below w.heap.size w w') : OwnI w' base v l := Kd.R_below h hb
theorem OwnP.below {w w' : World} {base : Nat} {v : Value} {l : List Cpu} (h : OwnP w base v l) (hb : Below w.heap.size w w') : OwnP w' base v l := Kd.R_below h hb
theorem OwnI.lower {w : World} {base base' : Nat} {v : Value} {l : List Int} (h : OwnI w base v l) (hb : base' ≤ base) : OwnI w base' v l := Kd.R_lower h hb
theorem OwnP.lower {w : World} {base base' : Nat} {v : Value} {l : List Cpu} (h : OwnP w base v l) (hb : base' ≤ base) : OwnP w base' v l := Kd.R_lower h hb
theorem OwnI.reads {w : World} {base : Nat} {v : Value} {l : List Int} (h : OwnI w base v l) : ∃ A c, v = .slice A l.length c ∧ l.length ≤ c ∧ (Kd.int .i64).C w A l.length l := Kd.R_reads h
theorem OwnP.reads {w : World} {base : Nat} {v : Value} {l : List Cpu} (h : OwnP w base v l) : ∃ A c, v = .slice A l.length c ∧ l.length ≤ c ∧ cpuK.C w A l.length l := Kd.R_reads h
theorem OwnC.reads {w : World} {base : Nat} {v : Value} {l : List Cyc} (h : OwnC w base v l) : ∃ A c, v = .slice A l.length c ∧ l.length ≤ c ∧ cycK.C w A l.length l := Kd.R_reads h
end Go.Proofs.YtoncmhfmkfeolaaDoor
