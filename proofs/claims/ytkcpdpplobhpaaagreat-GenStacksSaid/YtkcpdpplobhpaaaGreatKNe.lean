import Derived.Test.YtkcpdpplobhpaaaGreatKNa
import Derived.Test.YtkcpdpplobhpaaaGreatKNb
import Derived.Test.YtkcpdpplobhpaaaGreatKMf
import Derived.Test.YtkcpdpplobhpaaaGreatKNc
import Derived.Test.YtkcpdpplobhpaaaGreatKNd
set_option linter.unusedVariables false
set_option linter.unusedSimpArgs false
set_option linter.unnecessarySimpa false
section
namespace Go.Proofs.YtkcpdpplobhpaaaGreat.Pl
structure NodeI where
 to:List Int
 frm:List Int
def andI (a:AndD):NodeI:=⟨[a.var],[a.a,a.b]⟩
def readI (word:Int) (r:ReadD):NodeI:=⟨dataL r.var word.toNat,r.addr⟩
def memI (m:MemD):List NodeI:=m.reads.map (readI m.word)
def Zj5 (n:NetD):List NodeI:=n.ands.map andI++n.mems.flatMap memI
def NodeI.nd (x:NodeI):Nd:=⟨x.frm.map fun l=>(l / 2).toNat,x.to.map Int.toNat⟩
def ndL (n:NetD):List Nd:=(Zj5 n).map NodeI.nd
structure Snd (n:NetD) (V:Nat):Prop where
 vars:n.vars=(V:Int)
 v2:V≤2000
 nodup:(Zbm n).Nodup
 rng:∀x∈Zbm n,1≤x∧x≤(V:Int)
 lits:∀l∈Zch n,0≤l∧l / 2≤(V:Int)
 mems:∀m∈n.mems,1≤m.addr∧m.addr≤62∧1≤m.word∧m.word≤64∧(∀r∈m.reads,(r.addr.length:Int)=m.addr)∧(∀x∈m.writes,(x.addr.length:Int)=m.addr∧(x.data.length:Int)=m.word)∧m.reads.length≤4∧m.writes.length≤4
 init:∀l∈n.latches,0≤l.init∧l.init≤2
 lens:n.inputs.length≤2000∧n.latches.length≤2000∧n.ands.length≤2000∧n.outputs.length+n.bads.length+n.constraints.length≤1000∧n.mems.length≤4
theorem Za1a (n:NetD):(Zj5 n).flatMap NodeI.to=n.ands.map (·.var)++n.mems.flatMap Zur:=by
 unfold Zj5
 rw [List.flatMap_append]
 congr 1
 ·induction n.ands with
  | nil=>rfl
  | cons a l ih=>rw [List.map_cons,List.flatMap_cons,ih];rfl
 ·rw [List.flatMap_assoc]
  congr 1
  funext m
  unfold memI Zur
  rw [List.flatMap_map]
  rfl
theorem Za03 {α:Type} {f:α→List Int}:∀{l:List α},(l.flatMap f).Nodup→∀{i j:Nat} {x y:α} {v:Int},l[i]?=some x→l[j]?=some y→v∈f x→v∈f y→i=j:=by
 intro l
 induction l with
 | nil=>intro _ i j x y v h;simp at h
 | cons a l ih=>
  intro hn i j x y v hi hj hx hy
  rw [List.flatMap_cons,List.nodup_append] at hn
  obtain ⟨h1,h2,h3⟩:=hn
  cases i with
  | zero=>
   cases j with
   | zero=>rfl
   | succ j=>
    simp at hi hj
    subst hi
    exact absurd rfl (h3 v hx v (List.mem_flatMap.2 ⟨y,List.mem_of_getElem? hj,hy⟩))
  | succ i=>
   cases j with
   | zero=>
    simp at hi hj
    subst hj
    exact absurd rfl (h3 v hy v (List.mem_flatMap.2 ⟨x,List.mem_of_getElem? hi,hx⟩))
   | succ j=>simp at hi hj;rw [ih h2 hi hj hx hy]
section
variable {n:NetD} {V:Nat}
theorem Snd.toNodup (s:Snd n V):((Zj5 n).flatMap NodeI.to).Nodup:=by
 rw [Za1a]
 have:=s.nodup
 unfold Zbm at this
 rw [List.append_assoc,List.nodup_append] at this
 have:=this.2.1
 rw [List.nodup_append] at this ⊢
 exact ⟨this.2.1,this.1,fun a ha b hb e=>this.2.2 b hb a ha e.symm⟩
theorem Snd.toRng (s:Snd n V) {x:NodeI} (hx:x∈Zj5 n) {v:Int} (hv:v∈x.to):1≤v∧v≤(V:Int):=by
 have:v∈(Zj5 n).flatMap NodeI.to:=List.mem_flatMap.2 ⟨x,hx,hv⟩
 rw [Za1a] at this
 refine s.rng v ?_
 unfold Zbm
 rcases List.mem_append.1 this with h | h<;>simp [h]
theorem Snd.Za8p (s:Snd n V) {x:NodeI} (hx:x∈Zj5 n) {l:Int} (hl:l∈x.frm):0≤l∧l / 2≤(V:Int):=by
 refine s.lits l ?_
 unfold Zj5 at hx
 unfold Zch
 rcases List.mem_append.1 hx with hx | hx
 ·obtain ⟨a,ha,rfl⟩:=List.mem_map.1 hx
  have:l∈n.ands.flatMap andL:=List.mem_flatMap.2 ⟨a,ha,hl⟩
  simp [this]
 ·obtain ⟨m,hm,hx⟩:=List.mem_flatMap.1 hx
  obtain ⟨r,hr,rfl⟩:=List.mem_map.1 hx
  have:l∈n.mems.flatMap memL:=List.mem_flatMap.2 ⟨m,hm,by unfold memL;exact List.mem_append.2 (.inl (List.mem_flatMap.2 ⟨r,hr,hl⟩))⟩
  simp [this]
theorem Snd.toNe (s:Snd n V) {x:NodeI} (hx:x∈Zj5 n):x.to≠[]:=by
 unfold Zj5 at hx
 rcases List.mem_append.1 hx with hx | hx
 ·obtain ⟨a,ha,rfl⟩:=List.mem_map.1 hx;simp [andI]
 ·obtain ⟨m,hm,hx⟩:=List.mem_flatMap.1 hx
  obtain ⟨r,hr,rfl⟩:=List.mem_map.1 hx
  have:=(s.mems m hm).2.2.1
  unfold readI dataL
  simp
  omega
theorem Za7q {i:Nat}:(ndL n)[i]?=((Zj5 n)[i]?).map NodeI.nd:=by unfold ndL;rw [List.getElem?_map]
theorem Za7p {x:Nd} (h:x∈ndL n):∃y∈Zj5 n,x=y.nd:=by
 unfold ndL at h
 obtain ⟨y,h1,h2⟩:=List.mem_map.1 h
 exact ⟨y,h1,h2.symm⟩
theorem Snd.apart (s:Snd n V):Apart (ndL n):=by
 intro i j x y v hi hj hx hy
 rw [Za7q] at hi hj
 obtain ⟨x',hi',rfl⟩:=Option.map_eq_some_iff.1 hi
 obtain ⟨y',hj',rfl⟩:=Option.map_eq_some_iff.1 hj
 obtain ⟨a,ha,e1⟩:=List.mem_map.1 hx
 obtain ⟨b,hb,e2⟩:=List.mem_map.1 hy
 have r1:=s.toRng (List.mem_of_getElem? hi') ha
 have r2:=s.toRng (List.mem_of_getElem? hj') hb
 have:a=b:=by omega
 subst this
 exact Za03 s.toNodup hi' hj' ha hb
theorem Snd.hin (s:Snd n V):∀x∈ndL n,∀u∈x.frm,u≤V:=by
 intro x hx u hu
 obtain ⟨y,hy,rfl⟩:=Za7p hx
 obtain ⟨l,hl,rfl⟩:=List.mem_map.1 hu
 have:=s.Za8p hy hl
 omega
theorem Snd.hto (s:Snd n V):∀x∈ndL n,x.to≠[]∧∀v∈x.to,v≤V:=by
 intro x hx
 obtain ⟨y,hy,rfl⟩:=Za7p hx
 refine ⟨by have:=s.toNe hy;unfold NodeI.nd;simpa using this,fun v hv=>?_⟩
 obtain ⟨l,hl,rfl⟩:=List.mem_map.1 hv
 have:=s.toRng hy hl
 omega
end
def Zkz (n:NetD):Int:=if Zj3 n≠0 then Zj3 n else if acyB (ndL n) n.vars.toNat then 0 else 8
section
variable {N:List Nd} {V:Nat} {m lv m' lv' m'' lv'':List Int}
end
end Go.Proofs.YtkcpdpplobhpaaaGreat.Pl
end
section
namespace Go.Proofs.YtkcpdpplobhpaaaGreat.V
open Go Go.RowKit
open Go.Proofs.YtkcpdpplobhpaaaGreat.Pl
end Go.Proofs.YtkcpdpplobhpaaaGreat.V
end
section
namespace Go.Proofs.YtkcpdpplobhpaaaGreat.Pl
end Go.Proofs.YtkcpdpplobhpaaaGreat.Pl
end
section
namespace Go.Proofs.YtkcpdpplobhpaaaGreat.V
open Go Go.RowKit
open Go.Proofs.YtkcpdpplobhpaaaGreat.Pl
end Go.Proofs.YtkcpdpplobhpaaaGreat.V
end
