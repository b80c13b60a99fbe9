/- The small machine: a call with plain arguments, run. -/
import Derived.Test.YtghmfggmimoinaaGreatEvDq
namespace Go.Proofs.YtghmfggmimoinaaGreat.Ev
open Go Go.RowKit
def Za5g (P : Program) (E : Env) (dr : Dr) (orc : Cl) (k : Nat) (f : FuncId) (vs : List AV) : Option AV := match evF P E (evC P E dr orc k) f vs ⟨.nil, 1⟩ with
 | some (v, _) => some v
 | none => none
theorem Za26 {P : Program} {E : Env} (hE : EnvOk P E) {dr : Dr} (hdr : DrOk P dr) {orc : Cl} (ho : ClOk P orc) {k : Nat} {f : FuncId} {vs : List AV} {v : AV} {x : Value} (h : Za5g P E dr orc k f vs = some v)
  (hx : scal v = some x) (hw : wsL 1 vs = true) (s : Sg) (w : World) :
  Calls P f (concL s vs).toArray w fun e w' => e = .returned x ∧ Below w.heap.size w w' := by
 unfold Za5g at h
 split at h <;> try cases h
 rename_i h' he
 have := (Za96 hE (Zx4 hE hdr ho k).1 f vs ⟨.nil, 1⟩ v h' he).2 (fun s' => s' = s) w (concL s vs).toArray ⟨s, rfl⟩
  (fun s' e => ⟨⟨fun i o hi => by simp [Tr.get] at hi, fun i j o o' hi => by simp [Tr.get] at hi, fun i o hi => by simp [Tr.get] at hi, fun i o hi => by simp [Tr.get] at hi⟩, by rw [e]⟩) hw
 refine this.mono ?_
 rintro e w' ⟨F', V, rfl, hE', hF'⟩
 obtain ⟨s', hs', hx'⟩ := hE'.to s rfl
 exact ⟨by rw [← (hF' s' hs').2, Zet hx], hx'.os, hx'.tape, hx'.output, hx'.size, fun b hb => hx'.frame b hb (fun i o hi => by simp [Tr.get] at hi)⟩
def isT : Option AV → Bool
 | some (.bool true) => true
 | _ => false
theorem isT_eq {v : Option AV} (h : isT v = true) : v = some (.bool true) := by
 unfold isT at h
 split at h
 ·rfl
 ·cases h
theorem evTrue {P : Program} {E : Env} (hE : EnvOk P E) {dr : Dr} (hdr : DrOk P dr) {orc : Cl} (ho : ClOk P orc) {k : Nat} {f : FuncId} {vs : List AV} (h : isT (Za5g P E dr orc k f vs) = true)
  (hw : wsL 1 vs = true) (s : Sg) (w : World) :
  Calls P f (concL s vs).toArray w fun e w' => e = .returned (.bool true) ∧ Below w.heap.size w w' :=
 Za26 hE hdr ho (isT_eq h) rfl hw s w
end Go.Proofs.YtghmfggmimoinaaGreat.Ev
