/- The small machine: operations that look at no memory, each with its law. -/
import Derived.Test.YtghmfggmimoinaaGreatEvP
namespace Go.Proofs.YtghmfggmimoinaaGreat.Ev
open Go Go.RowKit
def Zb9 : AV → List AV
 | .agg l => l
 | v => [v]
theorem Zg8 (s : Sg) (v : AV) : (conc s v).cells.toList = concL s (Zb9 v) := by
 cases v <;> simp [conc, Value.cells, Zb9, concL]
theorem Zc3 (s : Sg) (l : List AV) : (concL s l).length = l.length := by simp [Zn2]
theorem Ztq (s : Sg) (l : List AV) (i : Nat) : (concL s l)[i]? = (l[i]?).map (conc s) := by simp [Zn2]
theorem Zj7 (s : Sg) (l m : List AV) : concL s (l ++ m) = concL s l ++ concL s m := by simp [Zn2]
theorem Zln (s : Sg) (l : List AV) (n : Nat) : concL s (l.take n) = (concL s l).take n := by simp [Zn2, List.map_take]
theorem Zmo (s : Sg) (l : List AV) (n : Nat) : concL s (l.drop n) = (concL s l).drop n := by simp [Zn2, List.map_drop]
def nth {α : Type} : List α → Nat → Option α
 | [], _ => none
 | x :: l, n => match n with
  | 0 => some x
  | n + 1 => nth l n
theorem Zcg {α : Type} : ∀ (l : List α) (n : Nat), nth l n = l[n]?
 | [], _ => by simp [nth]
 | x :: l, 0 => by simp [nth]
 | x :: l, n + 1 => by simp [nth, Zcg l n]
def takeN {α : Type} : Nat → List α → List α
 | 0, _ => []
 | n + 1, l => match l with
  | [] => []
  | x :: l => x :: takeN n l
def dropN {α : Type} : Nat → List α → List α
 | 0, l => l
 | n + 1, l => match l with
  | [] => []
  | _ :: l => dropN n l
theorem Zdt {α : Type} : ∀ (n : Nat) (l : List α), takeN n l = l.take n
 | 0, _ => by simp [takeN]
 | n + 1, [] => by simp [takeN]
 | n + 1, x :: l => by simp [takeN, Zdt n l]
theorem Ze9 {α : Type} : ∀ (n : Nat) (l : List α), dropN n l = l.drop n
 | 0, _ => by simp [dropN]
 | n + 1, [] => by simp [dropN]
 | n + 1, x :: l => by simp [dropN, Ze9 n l]
theorem Zry (off : Nat) : ∀ (vs : List Value) (k : Nat) (cells : Array Value), off + k + vs.length ≤ cells.size →
  ((vs.zipIdx k).foldl (fun cs (x : Value × Nat) => cs.setIfInBounds (off + x.2) x.1) cells).toList = cells.toList.take (off + k) ++ vs ++ cells.toList.drop (off + k + vs.length)
 | [], k, cells, _ => by simp
 | v :: vs, k, cells, h => by
  simp only [List.length_cons] at h
  rw [List.zipIdx_cons, List.foldl_cons, Zry off vs (k + 1) _ (by simp; omega)]
  simp only [List.length_cons]
  have hs : cells.toList.length = cells.size := Array.length_toList
  have e : cells.toList.set (off + k) v = (cells.toList.take (off + k) ++ [v]) ++ cells.toList.drop (off + k + 1) := by
   rw [List.set_eq_take_append_cons_drop, if_pos (by omega)]; simp
  have hA : (cells.toList.take (off + k) ++ [v]).length = off + (k + 1) := by simp [hs]; omega
  rw [Array.toList_setIfInBounds, e, List.take_left' hA]
  rw [show off + (k + 1) + vs.length = (cells.toList.take (off + k) ++ [v]).length + vs.length by omega, List.drop_length_add_append, List.drop_drop]
  simp [Nat.add_assoc, Nat.add_comm, Nat.add_left_comm]
def fillA (place : Nat → Option (Nat × Nat)) : List AV → List (Nat × AV) → Option (List AV)
 | cells, [] => some cells
 | cells, (i, v) :: rest => match place i with
  | none => none
  | some (off, size) => match Nat.beq (Zb9 v).length size, Nat.ble (off + size) cells.length with
   | true, true => fillA place (takeN off cells ++ (Zb9 v ++ dropN (off + size) cells)) rest
   | _, _ => none
theorem Zs0 (s : Sg) (place : Nat → Option (Nat × Nat)) : ∀ (parts : List (Nat × AV)) (cells r : List AV), fillA place cells parts = some r →
  Instr.fill place (concL s cells).toArray (parts.map fun x => (x.1, conc s x.2)) = some (concL s r).toArray
 | [], cells, r, h => by simp [fillA] at h; subst h; rfl
 | (i, v) :: rest, cells, r, h => by
  simp only [fillA] at h
  cases hp : place i <;> simp only [hp] at h
  ·cases h
  rename_i q
  obtain ⟨off, size⟩ := q
  simp only [] at h
  cases h1 : Nat.beq (Zb9 v).length size <;> cases h2 : Nat.ble (off + size) cells.length <;> simp only [h1, h2] at h <;> first | cases h | skip
  have h1 := Nat.eq_of_beq_eq_true h1
  have h2 := Nat.le_of_ble_eq_true h2
  have hl : (conc s v).cells.size = size := by rw [← Array.length_toList, Zg8, Zc3, h1]
  simp only [List.map_cons, Instr.fill, hp]
  rw [if_neg (by simp [hl, Zc3]; omega)]
  have ih := Zs0 s place rest _ r h
  rw [← ih]
  congr 1
  apply Array.toList_inj.1
  have hz : (conc s v).cells.zipIdx.foldl (fun cs (x : Value × Nat) => cs.setIfInBounds (off + x.2) x.1) (concL s cells).toArray
    = ((conc s v).cells.toList.zipIdx 0).foldl (fun cs (x : Value × Nat) => cs.setIfInBounds (off + x.2) x.1) (concL s cells).toArray := by
   rw [← Array.foldl_toList]; simp
  have := Zry off (conc s v).cells.toList 0 (concL s cells).toArray (by simp [hl, Zc3]; omega)
  rw [hz, this]
  simp only [Zdt, Ze9, Zj7, Zln, Zmo, Zg8, List.append_assoc, Nat.add_zero, Zc3, h1]
def Zrk (P : Program) (t : TypeId) (l : List AV) (off : Nat) : Option AV := match P.underlying t with
 | some (.struct _) => match Zbz P t with
  | some n => some (.agg (takeN n (dropN off l)))
  | none => none
 | some (.array _ _) => match Zbz P t with
  | some n => some (.agg (takeN n (dropN off l)))
  | none => none
 | some _ => nth l off
 | none => none
theorem Zpm {P : Program} {t : TypeId} {l : List AV} {off : Nat} {v : AV} (h : Zrk P t l off = some v) (s : Sg) (w : World) :
  (part t (concL s l).toArray off).run P w = .ok (conc s v) w := by
 unfold Zrk at h
 cases hu : P.underlying t with
 | none => simp [hu] at h
 | some d =>
  have hr := run_underlying hu w
  cases d <;> simp only [hu] at h
  case struct | array =>
   cases hs : Zbz P t <;> simp [hs] at h
   subst h
   simp [part, isAgg, hr, run_sizeOf hs, conc, Zdt, Ze9, Zln, Zmo, List.extract_eq_take_drop]
  all_goals
   rw [Zcg] at h
   simp [part, isAgg, hr, Ztq, h]
def Zsy (P : Program) (t : TypeId) (u : AV) (f : Nat) : Option AV := match P.underlying t with
 | some (.struct fields) => match nth fields.toList f with
  | some fd => match u with
   | .agg l => Zrk P fd.type l fd.offset
   | _ => none
  | none => none
 | _ => none
theorem Zsx {P : Program} {t : TypeId} {u v : AV} {f : Nat} (h : Zsy P t u f = some v) (s : Sg) (w : World) :
  (Instr.field t (conc s u) f).run P w = .ok (conc s v) w := by
 unfold Zsy at h
 cases hu : P.underlying t with
 | none => simp [hu] at h
 | some d =>
  have hr := run_underlying hu w
  cases d <;> simp only [hu] at h <;> try cases h
  rename_i fields
  cases hf : nth fields.toList f <;> simp only [hf] at h
  ·cases h
  rename_i fd
  rw [Zcg] at hf
  cases u <;> simp only [] at h <;> try cases h
  have hf' : fields[f]? = some fd := by grind
  simp [Instr.field, hr, hf', asAgg, conc, Zpm h]
def Zn1 (P : Program) (t : TypeId) (u : AV) (f : Nat) : Option AV := match P.underlying t with
 | some (.struct fields) => match nth fields.toList f with
  | some fd => match u, Zbz P fd.type with
   | .ptr b off, some (n + 1) => some (.ptr b (off + fd.offset))
   | _, _ => none
  | none => none
 | _ => none
theorem Zd7 (b off n : Nat) : (Addr.mk b off none).add n = ⟨b, off + n, none⟩ := by
 unfold Addr.add; grind
theorem Zqv {P : Program} {t : TypeId} {u v : AV} {f : Nat} (h : Zn1 P t u f = some v) (s : Sg) (w : World) :
  (Instr.fieldAt t (conc s u) f).run P w = .ok (conc s v) w := by
 unfold Zn1 at h
 cases hu : P.underlying t with
 | none => simp [hu] at h
 | some d =>
  have hr := run_underlying hu w
  cases d <;> simp only [hu] at h <;> try cases h
  rename_i fields
  cases hf : nth fields.toList f <;> simp only [hf] at h
  ·cases h
  rename_i fd
  rw [Zcg] at hf
  have hf' : fields[f]? = some fd := by grind
  split at h <;> try cases h
  rename_i b off n hs
  simp [Instr.fieldAt, hr, hf', Instr.sureAddr, conc, fieldPlace, run_sizeOf hs, Zd7]
def Zjr (P : Program) (t : TypeId) (u i : AV) : Option AV := match i with
 | .int k n => match n with
  | .ofNat n => match P.underlying t with
   | some (.slice elem) => match u, Zbz P elem with
    | .slice b off len _ _, some sz => match Nat.blt n len with
     | true => some (.ptr b (off + n * sz))
     | false => none
    | _, _ => none
   | some (.array len elem) => match u, Zbz P elem with
    | .ptr b off, some sz => match Nat.blt n len with
     | true => some (.ptr b (off + n * sz))
     | false => none
    | _, _ => none
   | _ => none
  | .negSucc _ => none
 | _ => none
theorem Zqu {P : Program} {t : TypeId} {u i v : AV} (h : Zjr P t u i = some v) (s : Sg) (w : World) :
  (Instr.indexAt t (conc s u) (conc s i)).run P w = .ok (conc s v) w := by
 unfold Zjr at h
 cases i <;> simp only [] at h <;> try cases h
 rename_i k n
 cases n <;> simp only [] at h <;> try cases h
 rename_i n
 cases hu : P.underlying t with
 | none => simp [hu] at h
 | some d =>
  have hr := run_underlying hu w
  cases d <;> simp only [hu] at h <;> try cases h
  ·split at h <;> try cases h
   rename_i b off len _ _ sz hs
   split at h <;> try cases h
   rename_i hb
   rw [Nat.blt_eq] at hb
   simp [Instr.indexAt, asIntOf, conc, hr, run_sizeOf hs, Zd7, hb]
  ·split at h <;> try cases h
   rename_i b off sz hs
   split at h <;> try cases h
   rename_i hb
   rw [Nat.blt_eq] at hb
   simp [Instr.indexAt, asIntOf, conc, hr, run_sizeOf hs, Zd7, hb, Instr.sureAddr]
def isNil : AV → Bool
 | .nilp | .nils | .nilm | .nilf => true
 | _ => false
def sameKind : TypeDesc → AV → AV → Bool
 | .pointer _, .nilp, .ptr _ _ | .pointer _, .ptr _ _, .nilp => true
 | .slice _, .nils, .slice _ _ _ _ _ | .slice _, .slice _ _ _ _ _, .nils => true
 | .map _ _, .nilm, .map _ | .map _ _, .map _, .nilm => true
 | .func _ _ _, .nilf, .func _ _ _ | .func _ _ _, .func _ _ _, .nilf => true
 | _, _, _ => false
def samePtr : TypeDesc → AV → AV → Option Bool
 | .pointer e, .ptr b off, .ptr b' off' => match Nat.beq b b' with
  | true => some (Nat.beq off off')
  | false => none
 | _, _, _ => none
theorem eql_run {P : Program} {t : TypeId} {x y : Operand} {X Y : Value} {r : Bool} {w : World} (hg : eqGuard .eql t x y X Y = pure ())
  (hb : binOp .eql t X Y = (do pure (.bool (← Op.equal t X Y)))) (he : (Op.equal t X Y).run P w = .ok r w) :
  (do eqGuard .eql t x y X Y; binOp .eql t X Y).run P w = .ok (.bool r) w := by simp [hg, hb, he]
theorem neq_run {P : Program} {t : TypeId} {x y : Operand} {X Y : Value} {r : Bool} {w : World} (hg : eqGuard .neq t x y X Y = pure ())
  (hb : binOp .neq t X Y = (do pure (.bool (!(← Op.equal t X Y))))) (he : (Op.equal t X Y).run P w = .ok r w) :
  (do eqGuard .neq t x y X Y; binOp .neq t X Y).run P w = .ok (.bool (!r)) w := by simp [hg, hb, he]
theorem Za9e {P : Program} {t : TypeId} {d : TypeDesc} {u v : AV} (hu : P.underlying t = some d) (hk : sameKind d u v = true) (s : Sg) (w : World) :
  ∀ n, (Op.equalIn (n + 1) t (conc s u) (conc s v)).run P w = .ok false w := by
 intro n
 have hr := run_underlying hu w
 unfold sameKind at hk
 split at hk <;> first | contradiction | simp [Op.equalIn, conc, hr]
def evBin (P : Program) (op : BinOp) (t : TypeId) (x y : Operand) (u v : AV) : Option AV := match scal u, scal v with
 | some a, some b => match still P 4000 (do eqGuard op t x y a b; binOp op t a b) with
  | some r => back r
  | none => none
 | _, _ => match P.underlying t with
  | some d => match sameKind d u v with
   | true => match op with
    | .eql => some (.bool false)
    | .neq => some (.bool true)
    | _ => none
   | false => none
  | none => none
theorem Zx5 {P : Program} {op : BinOp} {t : TypeId} {x y : Operand} {u v r : AV} (h : evBin P op t x y u v = some r) (s : Sg) (w : World) :
  (do eqGuard op t x y (conc s u) (conc s v); binOp op t (conc s u) (conc s v)).run P w = .ok (conc s r) w := by
 unfold evBin at h
 split at h
 ·rename_i a b ha hb
  rw [Zet ha, Zet hb]
  split at h <;> try cases h
  rename_i q hq
  rw [Ze1 hq, Zj8 h]
 ·cases hu : P.underlying t with
  | none => simp [hu] at h
  | some d =>
   simp only [hu] at h
   cases hk : sameKind d u v <;> simp only [hk] at h
   ·cases h
   have he : (Op.equal t (conc s u) (conc s v)).run P w = .ok false w := Za9e hu hk s w 9999
   cases op <;> simp only [] at h <;> try cases h
   ·refine eql_run ?_ ?_ he <;> (unfold sameKind at hk; split at hk <;> first | contradiction | rfl)
   ·refine neq_run ?_ ?_ he <;> (unfold sameKind at hk; split at hk <;> first | contradiction | rfl)
end Go.Proofs.YtghmfggmimoinaaGreat.Ev
