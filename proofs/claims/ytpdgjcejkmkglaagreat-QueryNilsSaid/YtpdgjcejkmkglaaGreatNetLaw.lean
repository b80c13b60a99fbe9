/- Netlists as plain data, and which are sound: plain functions. -/
namespace Go.Proofs.YtpdgjcejkmkglaaGreat.Pl

structure LatchD where
  var : Int
  next : Int
  init : Int
structure AndD where
  var : Int
  a : Int
  b : Int
structure ReadD where
  var : Int
  addr : List Int
structure WriteD where
  on : Int
  addr : List Int
  data : List Int
structure MemD where
  addr : Int
  word : Int
  any : Bool
  reads : List ReadD
  writes : List WriteD
structure NetD where
  vars : Int
  inputs : List Int
  latches : List LatchD
  outputs : List Int
  bads : List Int
  constraints : List Int
  mems : List MemD
  ands : List AndD

/-- the variables of a port: from v on, so many -/
def dataL (v : Int) (word : Nat) : List Int := (List.range word).map fun i : Nat => v + (i : Int)
def readsL (m : MemD) : List Int := m.reads.flatMap fun r => dataL r.var m.word.toNat
def definedL (n : NetD) : List Int := n.inputs ++ n.latches.map (·.var) ++ n.mems.flatMap readsL ++ n.ands.map (·.var)
def writeL (x : WriteD) : List Int := x.on :: (x.addr ++ x.data)
def memL (m : MemD) : List Int := m.reads.flatMap (·.addr) ++ m.writes.flatMap writeL
def andL (a : AndD) : List Int := [a.a, a.b]
def literalsL (n : NetD) : List Int := n.latches.map (·.next) ++ n.outputs ++ n.bads ++ n.constraints ++ n.mems.flatMap memL ++ n.ands.flatMap andL

def portsB (m : MemD) : Bool := decide (4 < m.reads.length ∨ 4 < m.writes.length)
def limitsB (n : NetD) : Bool := decide (n.vars < 0 ∨ 2000 < n.vars ∨ 2000 < n.inputs.length ∨ 2000 < n.latches.length ∨ 2000 < n.ands.length ∨ 1000 < n.outputs.length + n.bads.length + n.constraints.length ∨ 4 < n.mems.length) || n.mems.any portsB
def wideR (m : MemD) (r : ReadD) : Bool := (r.addr.length : Int) != m.addr
def wideW (m : MemD) (x : WriteD) : Bool := (x.addr.length : Int) != m.addr || (x.data.length : Int) != m.word
def wideB (m : MemD) : Bool := decide (m.addr < 1 ∨ 62 < m.addr ∨ m.word < 1 ∨ 64 < m.word) || m.reads.any (wideR m) || m.writes.any (wideW m)
def initB (l : LatchD) : Bool := decide (l.init < 0 ∨ 2 < l.init)
/-- what is wrong with definitions, pre having come: 5 dangling, 6 twice, 7 missing, 0 nothing -/
def dup (V : Int) (pre : List Int) : List Int → Int
  | [] => if (pre.length : Int) < V then 7 else 0
  | v :: l => if v < 1 ∨ V < v then 5 else if pre.contains v then 6 else dup V (pre ++ [v]) l
def litB (V : Int) (l : Int) : Bool := decide (l < 0 ∨ V < l / 2)
def soundF (n : NetD) : Int :=
  if limitsB n then 10 else if n.mems.any wideB then 9 else if n.latches.any initB then 1
  else if dup n.vars [] (definedL n) ≠ 0 then dup n.vars [] (definedL n) else if (literalsL n).any (litB n.vars) then 5 else 0

theorem dup_nil {V : Int} {l : List Int} {k : Nat} (hk : l.length ≤ k) : dup V (l.take k) (l.drop k) = if (l.length : Int) < V then 7 else 0 := by
  rw [List.drop_eq_nil_of_le hk, List.take_of_length_le hk]; rfl
theorem dup_dang {V : Int} {l : List Int} {k : Nat} {v : Int} (hk : l[k]? = some v) (h : v < 1 ∨ V < v) : dup V (l.take k) (l.drop k) = 5 := by
  obtain ⟨h1, rfl⟩ := List.getElem?_eq_some_iff.1 hk
  rw [List.drop_eq_getElem_cons h1, dup, if_pos h]
theorem dup_twice {V : Int} {l : List Int} {k : Nat} {v : Int} (hk : l[k]? = some v) (h1 : 1 ≤ v) (h2 : v ≤ V) (h : (l.take k).contains v = true) : dup V (l.take k) (l.drop k) = 6 := by
  obtain ⟨h3, rfl⟩ := List.getElem?_eq_some_iff.1 hk
  rw [List.drop_eq_getElem_cons h3, dup, if_neg (by omega), if_pos h]
theorem take_snoc {α : Type} {l : List α} {k : Nat} {v : α} (hk : l[k]? = some v) : l.take (k + 1) = l.take k ++ [v] := by
  obtain ⟨h3, rfl⟩ := List.getElem?_eq_some_iff.1 hk
  exact List.take_succ_eq_append_getElem h3
theorem dup_next {V : Int} {l : List Int} {k : Nat} {v : Int} (hk : l[k]? = some v) (h1 : 1 ≤ v) (h2 : v ≤ V) (h : (l.take k).contains v = false) : dup V (l.take k) (l.drop k) = dup V (l.take (k + 1)) (l.drop (k + 1)) := by
  have hs := take_snoc hk
  obtain ⟨h3, rfl⟩ := List.getElem?_eq_some_iff.1 hk
  rw [List.drop_eq_getElem_cons h3, dup, if_neg (by omega), if_neg (by rw [h]; simp), hs]

/-- which variables have come: by number, from 0 to V -/
def seenL (V : Nat) (pre : List Int) : List Bool := (List.range (V + 1)).map fun v : Nat => pre.contains (v : Int)
theorem seenL_length (V : Nat) (pre : List Int) : (seenL V pre).length = V + 1 := by simp [seenL]
theorem seenL_at {V : Nat} {pre : List Int} {v : Nat} (h : v ≤ V) : (seenL V pre)[v]? = some (pre.contains (v : Int)) := by
  unfold seenL; rw [List.getElem?_map, List.getElem?_range (show v < V + 1 by omega)]; rfl
theorem seenL_nil (V : Nat) : seenL V [] = List.replicate (V + 1) false := by
  apply List.ext_getElem?
  intro i
  by_cases h : i ≤ V
  · rw [seenL_at h, List.getElem?_replicate, if_pos (by omega)]; rfl
  · rw [List.getElem?_eq_none (by rw [seenL_length]; omega), List.getElem?_eq_none (by simp; omega)]
theorem seenL_set {V : Nat} {pre : List Int} {v : Nat} (h : v ≤ V) : (seenL V pre).set v true = seenL V (pre ++ [(v : Int)]) := by
  apply List.ext_getElem?
  intro i
  by_cases hi : i ≤ V
  · rw [List.getElem?_set, seenL_at hi, seenL_at hi]
    by_cases e : v = i
    · subst e; simp [seenL_length]; omega
    · have : ((i : Int) == (v : Int)) = false := by rw [beq_eq_false_iff_ne]; omega
      simp [e]; omega
  · rw [List.getElem?_eq_none (by simp [seenL_length]; omega), List.getElem?_eq_none (by rw [seenL_length]; omega)]
/-- numbers from 1 to V, none twice, fewer than V: one is missing; as many: none is -/
theorem count_of (V : Nat) : ∀ (l : List Int), l.Nodup → (∀ x ∈ l, 1 ≤ x ∧ x ≤ (V : Int)) → l.length ≤ V ∧ (V ≤ l.length → ∀ v : Nat, 1 ≤ v → v ≤ V → (v : Int) ∈ l) := by
  induction V with
  | zero =>
    intro l _ hr
    have : l = [] := by
      cases l with
      | nil => rfl
      | cons x l => have := hr x (by simp); omega
    subst this
    exact ⟨by simp, fun _ v h1 h2 => by omega⟩
  | succ V ih =>
    intro l hn hr
    by_cases hm : ((V + 1 : Nat) : Int) ∈ l
    · obtain ⟨a, b, rfl⟩ := List.append_of_mem hm
      have hn' : (a ++ b).Nodup := by
        rw [List.nodup_append] at hn ⊢
        obtain ⟨h1, h2, h3⟩ := hn
        rw [List.nodup_cons] at h2
        exact ⟨h1, h2.2, fun x hx y hy => h3 x hx y (by simp [hy])⟩
      have hnm : ((V + 1 : Nat) : Int) ∉ a ++ b := by
        rw [List.nodup_append] at hn
        obtain ⟨h1, h2, h3⟩ := hn
        rw [List.nodup_cons] at h2
        intro h
        rcases List.mem_append.1 h with h | h
        · exact h3 _ h _ (by simp) rfl
        · exact h2.1 h
      obtain ⟨i1, i2⟩ := ih (a ++ b) hn' (fun x hx => by
        have h := hr x (by rcases List.mem_append.1 hx with h | h <;> simp [h])
        have hne : x ≠ ((V + 1 : Nat) : Int) := fun e => hnm (e ▸ hx)
        omega)
      have hlen : (a ++ ((V + 1 : Nat) : Int) :: b).length = (a ++ b).length + 1 := by simp; omega
      refine ⟨by omega, fun hge v h1 h2 => ?_⟩
      by_cases e : v = V + 1
      · subst e; simp
      · have := i2 (by omega) v h1 (by omega)
        rcases List.mem_append.1 this with h | h <;> simp [h]
    · obtain ⟨i1, i2⟩ := ih l hn (fun x hx => by
        have h := hr x hx
        have hne : x ≠ ((V + 1 : Nat) : Int) := fun e => hm (e ▸ hx)
        omega)
      exact ⟨by omega, fun hge => by omega⟩
end Go.Proofs.YtpdgjcejkmkglaaGreat.Pl
