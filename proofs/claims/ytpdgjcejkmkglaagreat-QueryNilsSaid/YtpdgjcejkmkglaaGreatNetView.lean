/- Netlists in memory: the headers of their slices, and what these read as. -/
import Derived.Test.YtpdgjcejkmkglaaGreatNetLaw
import Derived.Test.YtpdgjcejkmkglaaGreatAppend
import Derived.Test.YtpdgjcejkmkglaaGreatViewActs
namespace Go.Proofs.YtpdgjcejkmkglaaGreat
open Go.RowKit Pl
set_option linter.unusedVariables false

def I64 (x : Int) : Prop := -9223372036854775808 ≤ x ∧ x ≤ 9223372036854775807
/-- a slice header reads as cells -/
def Sl (w : World) (B size : Nat) (A : Option Addr) (n c : Nat) (xs : List Value) : Prop := Reads w B size A n xs ∧ n ≤ c ∧ c ≤ maxLen
def ints (l : List Int) : List Value := l.map (Value.int .i64)
def bools (l : List Bool) : List Value := l.map Value.bool
section
variable {w w' : World} {B B' size n c : Nat} {A : Option Addr} {xs : List Value}
theorem Sl.keep (h : Sl w B size A n c xs) (hk : ∀ p : Addr, p.block < B → w'.cell? p = w.cell? p) : Sl w' B size A n c xs := ⟨h.1.keep hk, h.2⟩
theorem Sl.more (h : Sl w B size A n c xs) (hB : B ≤ B') : Sl w B' size A n c xs := ⟨h.1.more hB, h.2⟩
theorem Sl.own {base : Nat} {e : TypeId} (h : w.ownsRow base e size (.slice A n c) n xs) : Sl w w.heap.size size A n c xs := by
  obtain ⟨A', c', hv, h1, h2, h3⟩ := own_slice h
  injection hv with e1 _ e2
  subst e1 e2
  exact ⟨h3, h1, h2⟩
end

def _root_.Go.Proofs.YtpdgjcejkmkglaaGreat.Pl.LatchD.cells (l : LatchD) : List Value := [.int .i64 l.var, .int .i64 l.next, .int .i64 l.init]
def _root_.Go.Proofs.YtpdgjcejkmkglaaGreat.Pl.AndD.cells (a : AndD) : List Value := [.int .i64 a.var, .int .i64 a.a, .int .i64 a.b]
structure ReadH where
  var : Int
  A : Option Addr
  c : Nat
  addr : List Int
def ReadH.cells (r : ReadH) : List Value := [.int .i64 r.var, .slice r.A r.addr.length r.c]
def ReadH.d (r : ReadH) : ReadD := ⟨r.var, r.addr⟩
def ReadH.okIn (w : World) (B : Nat) (r : ReadH) : Prop := Sl w B 1 r.A r.addr.length r.c (ints r.addr)
structure WriteH where
  on : Int
  A : Option Addr
  c : Nat
  addr : List Int
  A2 : Option Addr
  c2 : Nat
  data : List Int
def WriteH.cells (r : WriteH) : List Value := [.int .i64 r.on, .slice r.A r.addr.length r.c, .slice r.A2 r.data.length r.c2]
def WriteH.d (r : WriteH) : WriteD := ⟨r.on, r.addr, r.data⟩
def WriteH.okIn (w : World) (B : Nat) (r : WriteH) : Prop := Sl w B 1 r.A r.addr.length r.c (ints r.addr) ∧ Sl w B 1 r.A2 r.data.length r.c2 (ints r.data)
structure MemH where
  addr : Int
  word : Int
  any : Bool
  A : Option Addr
  c : Nat
  reads : List ReadH
  A2 : Option Addr
  c2 : Nat
  writes : List WriteH
def MemH.cells (m : MemH) : List Value := [.int .i64 m.addr, .int .i64 m.word, .bool m.any, .slice m.A m.reads.length m.c, .slice m.A2 m.writes.length m.c2]
def MemH.v (m : MemH) : Value := .agg #[.int .i64 m.addr, .int .i64 m.word, .bool m.any, .slice m.A m.reads.length m.c, .slice m.A2 m.writes.length m.c2]
def MemH.d (m : MemH) : MemD := ⟨m.addr, m.word, m.any, m.reads.map ReadH.d, m.writes.map WriteH.d⟩
structure MemH.okIn (w : World) (B : Nat) (m : MemH) : Prop where
  rd : Sl w B 2 m.A m.reads.length m.c (m.reads.flatMap ReadH.cells)
  rds : ∀ r ∈ m.reads, r.okIn w B
  wr : Sl w B 3 m.A2 m.writes.length m.c2 (m.writes.flatMap WriteH.cells)
  wrs : ∀ r ∈ m.writes, r.okIn w B
structure NetH where
  vars : Int
  Ai : Option Addr
  ci : Nat
  inputs : List Int
  Al : Option Addr
  cl : Nat
  latches : List LatchD
  Ao : Option Addr
  co : Nat
  outputs : List Int
  Ab : Option Addr
  cb : Nat
  bads : List Int
  Ac : Option Addr
  cc : Nat
  constraints : List Int
  Am : Option Addr
  cm : Nat
  mems : List MemH
  An : Option Addr
  cn : Nat
  ands : List AndD
def NetH.d (n : NetH) : NetD := ⟨n.vars, n.inputs, n.latches, n.outputs, n.bads, n.constraints, n.mems.map MemH.d, n.ands⟩
def NetH.fs (n : NetH) : Array Value := #[.int .i64 n.vars, .slice n.Ai n.inputs.length n.ci, .slice n.Al n.latches.length n.cl, .slice n.Ao n.outputs.length n.co, .slice n.Ab n.bads.length n.cb, .slice n.Ac n.constraints.length n.cc, .slice n.Am n.mems.length n.cm, .slice n.An n.ands.length n.cn]
def NetH.v (n : NetH) : Value := .agg n.fs
structure NetH.okIn (w : World) (B : Nat) (n : NetH) : Prop where
  ins : Sl w B 1 n.Ai n.inputs.length n.ci (ints n.inputs)
  lat : Sl w B 3 n.Al n.latches.length n.cl (n.latches.flatMap LatchD.cells)
  out : Sl w B 1 n.Ao n.outputs.length n.co (ints n.outputs)
  bad : Sl w B 1 n.Ab n.bads.length n.cb (ints n.bads)
  con : Sl w B 1 n.Ac n.constraints.length n.cc (ints n.constraints)
  mem : Sl w B 5 n.Am n.mems.length n.cm (n.mems.flatMap MemH.cells)
  mms : ∀ m ∈ n.mems, m.okIn w B
  and : Sl w B 3 n.An n.ands.length n.cn (n.ands.flatMap AndD.cells)
section
variable {w w' : World} {B B' : Nat}
theorem ReadH.okIn.keep {r : ReadH} (h : r.okIn w B) (hk : ∀ p : Addr, p.block < B → w'.cell? p = w.cell? p) : r.okIn w' B := Sl.keep h hk
theorem WriteH.okIn.keep {r : WriteH} (h : r.okIn w B) (hk : ∀ p : Addr, p.block < B → w'.cell? p = w.cell? p) : r.okIn w' B := ⟨h.1.keep hk, h.2.keep hk⟩
theorem MemH.okIn.keep {m : MemH} (h : m.okIn w B) (hk : ∀ p : Addr, p.block < B → w'.cell? p = w.cell? p) : m.okIn w' B := ⟨h.rd.keep hk, fun r hr => (h.rds r hr).keep hk, h.wr.keep hk, fun r hr => (h.wrs r hr).keep hk⟩
theorem NetH.okIn.keep {n : NetH} (h : n.okIn w B) (hk : ∀ p : Addr, p.block < B → w'.cell? p = w.cell? p) : n.okIn w' B :=
  ⟨h.ins.keep hk, h.lat.keep hk, h.out.keep hk, h.bad.keep hk, h.con.keep hk, h.mem.keep hk, fun m hm => (h.mms m hm).keep hk, h.and.keep hk⟩
theorem ReadH.okIn.more {r : ReadH} (h : r.okIn w B) (hB : B ≤ B') : r.okIn w B' := Sl.more h hB
theorem WriteH.okIn.more {r : WriteH} (h : r.okIn w B) (hB : B ≤ B') : r.okIn w B' := ⟨h.1.more hB, h.2.more hB⟩
theorem MemH.okIn.more {m : MemH} (h : m.okIn w B) (hB : B ≤ B') : m.okIn w B' := ⟨h.rd.more hB, fun r hr => (h.rds r hr).more hB, h.wr.more hB, fun r hr => (h.wrs r hr).more hB⟩
theorem NetH.okIn.more {n : NetH} (h : n.okIn w B) (hB : B ≤ B') : n.okIn w B' :=
  ⟨h.ins.more hB, h.lat.more hB, h.out.more hB, h.bad.more hB, h.con.more hB, h.mem.more hB, fun m hm => (h.mms m hm).more hB, h.and.more hB⟩
theorem Sl.below {size n c : Nat} {A : Option Addr} {xs : List Value} (h : Sl w B size A n c xs) (hb : Below B w w') : Sl w' B size A n c xs := h.keep fun _ hp => hb.cell hp
theorem MemH.okIn.below {m : MemH} (h : m.okIn w B) (hb : Below B w w') : m.okIn w' B := h.keep fun _ hp => hb.cell hp
theorem NetH.okIn.below {n : NetH} (h : n.okIn w B) (hb : Below B w w') : n.okIn w' B := h.keep fun _ hp => hb.cell hp
theorem ReadH.okIn.below {m : ReadH} (h : m.okIn w B) (hb : Below B w w') : m.okIn w' B := h.keep fun _ hp => hb.cell hp
theorem WriteH.okIn.below {m : WriteH} (h : m.okIn w B) (hb : Below B w w') : m.okIn w' B := h.keep fun _ hp => hb.cell hp
end

/-- the cells of element k of a slice of C-cell elements, one by one -/
theorem Sl.elem {α : Type} {f : α → List Value} {C : Nat} {w : World} {B k c : Nat} {A : Option Addr} {l : List α} (h : Sl w B C A l.length c (l.flatMap f)) (hC : 0 < C) (hf : ∀ x, (f x).length = C) (hk : k < l.length) :
    ∃ b off x, A = some ⟨b, off, none⟩ ∧ b < B ∧ l[k]? = some x ∧ x ∈ l ∧ ∀ j u, (f x)[j]? = some u → w.cell? ⟨b, off + (k * C + j), none⟩ = some u := by
  obtain ⟨b, off, x, h1, h2, h3, h4⟩ := Reads.elem h.1 hC hf rfl hk
  exact ⟨b, off, x, h1, h2, h3, List.mem_of_getElem? h3, h4⟩
theorem LatchD.at_ {w : World} {b off k : Nat} {l : LatchD} (h : ∀ j u, (LatchD.cells l)[j]? = some u → w.cell? ⟨b, off + (k * 3 + j), none⟩ = some u) :
    w.cell? ⟨b, off + k * 3, none⟩ = some (.int .i64 l.var) ∧ w.cell? ⟨b, off + k * 3 + 1, none⟩ = some (.int .i64 l.next) ∧ w.cell? ⟨b, off + k * 3 + 2, none⟩ = some (.int .i64 l.init) :=
  ⟨h 0 _ rfl, h 1 _ rfl, h 2 _ rfl⟩
theorem AndD.at_ {w : World} {b off k : Nat} {l : AndD} (h : ∀ j u, (AndD.cells l)[j]? = some u → w.cell? ⟨b, off + (k * 3 + j), none⟩ = some u) :
    w.cell? ⟨b, off + k * 3, none⟩ = some (.int .i64 l.var) ∧ w.cell? ⟨b, off + k * 3 + 1, none⟩ = some (.int .i64 l.a) ∧ w.cell? ⟨b, off + k * 3 + 2, none⟩ = some (.int .i64 l.b) :=
  ⟨h 0 _ rfl, h 1 _ rfl, h 2 _ rfl⟩
theorem ReadH.at_ {w : World} {b off k : Nat} {l : ReadH} (h : ∀ j u, l.cells[j]? = some u → w.cell? ⟨b, off + (k * 2 + j), none⟩ = some u) :
    w.cell? ⟨b, off + k * 2, none⟩ = some (.int .i64 l.var) ∧ w.cell? ⟨b, off + k * 2 + 1, none⟩ = some (.slice l.A l.addr.length l.c) :=
  ⟨h 0 _ rfl, h 1 _ rfl⟩
theorem WriteH.at_ {w : World} {b off k : Nat} {l : WriteH} (h : ∀ j u, l.cells[j]? = some u → w.cell? ⟨b, off + (k * 3 + j), none⟩ = some u) :
    w.cell? ⟨b, off + k * 3, none⟩ = some (.int .i64 l.on) ∧ w.cell? ⟨b, off + k * 3 + 1, none⟩ = some (.slice l.A l.addr.length l.c) ∧ w.cell? ⟨b, off + k * 3 + 2, none⟩ = some (.slice l.A2 l.data.length l.c2) :=
  ⟨h 0 _ rfl, h 1 _ rfl, h 2 _ rfl⟩
theorem MemH.at_ {w : World} {b off k : Nat} {l : MemH} (h : ∀ j u, l.cells[j]? = some u → w.cell? ⟨b, off + (k * 5 + j), none⟩ = some u) :
    w.cell? ⟨b, off + k * 5, none⟩ = some (.int .i64 l.addr) ∧ w.cell? ⟨b, off + k * 5 + 1, none⟩ = some (.int .i64 l.word) ∧ w.cell? ⟨b, off + k * 5 + 2, none⟩ = some (.bool l.any) ∧
      w.cell? ⟨b, off + k * 5 + 3, none⟩ = some (.slice l.A l.reads.length l.c) ∧ w.cell? ⟨b, off + k * 5 + 4, none⟩ = some (.slice l.A2 l.writes.length l.c2) :=
  ⟨h 0 _ rfl, h 1 _ rfl, h 2 _ rfl, h 3 _ rfl, h 4 _ rfl⟩
theorem Sl.intAt {w : World} {B k c : Nat} {A : Option Addr} {l : List Int} (h : Sl w B 1 A l.length c (ints l)) (hk : k < l.length) :
    ∃ b off x, A = some ⟨b, off, none⟩ ∧ b < B ∧ l[k]? = some x ∧ x ∈ l ∧ w.cell? ⟨b, off + k, none⟩ = some (.int .i64 x) := by
  obtain ⟨b, off, h1, h2, h3⟩ := Reads.intAt h.1 hk
  have hx : l[k]? = some l[k] := List.getElem?_eq_getElem hk
  refine ⟨b, off, l[k], h1, h2, hx, List.mem_of_getElem? hx, ?_⟩
  rw [h3, List.getD_eq_getElem?_getD, hx]
  rfl

/-- sizes of a netlist that may be gone through, and numbers that fit -/
structure MemFit (m : MemD) : Prop where
  word : I64 m.word ∧ m.word ≤ 4000
  addr : I64 m.addr
  rdn : m.reads.length ≤ 100
  wrn : m.writes.length ≤ 100
  rds : ∀ r ∈ m.reads, r.addr.length ≤ 4000 ∧ -1099511627776 ≤ r.var ∧ r.var ≤ 1099511627776 ∧ ∀ x ∈ r.addr, I64 x
  wrs : ∀ r ∈ m.writes, r.addr.length ≤ 4000 ∧ r.data.length ≤ 4000 ∧ I64 r.on ∧ (∀ x ∈ r.addr, I64 x) ∧ ∀ x ∈ r.data, I64 x
structure Fit (n : NetD) : Prop where
  vars : I64 n.vars
  ins : n.inputs.length ≤ 4000 ∧ ∀ x ∈ n.inputs, I64 x
  lat : n.latches.length ≤ 4000 ∧ ∀ l ∈ n.latches, I64 l.var ∧ I64 l.next ∧ I64 l.init
  out : n.outputs.length ≤ 4000 ∧ ∀ x ∈ n.outputs, I64 x
  bad : n.bads.length ≤ 4000 ∧ ∀ x ∈ n.bads, I64 x
  con : n.constraints.length ≤ 4000 ∧ ∀ x ∈ n.constraints, I64 x
  mems : n.mems.length ≤ 100 ∧ ∀ m ∈ n.mems, MemFit m
  ands : n.ands.length ≤ 4000 ∧ ∀ a ∈ n.ands, I64 a.var ∧ I64 a.a ∧ I64 a.b
end Go.Proofs.YtpdgjcejkmkglaaGreat
