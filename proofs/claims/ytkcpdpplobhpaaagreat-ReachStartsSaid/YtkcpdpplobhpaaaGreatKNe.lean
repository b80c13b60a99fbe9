import Derived.Test.YtkcpdpplobhpaaaGreatKNa
import Derived.Test.YtkcpdpplobhpaaaGreatKNb
import Derived.Test.YtkcpdpplobhpaaaGreatKMf
import Derived.Test.YtkcpdpplobhpaaaGreatKNc
import Derived.Test.YtkcpdpplobhpaaaGreatKNd
set_option linter.unusedVariables false
set_option linter.unusedSimpArgs false
set_option linter.unnecessarySimpa false
section
namespace Go.Proofs.YtkcpdpplobhpaaaGreat.Pl
structure NodeD where
 rd:Bool
 mem:Nat
 pos:Nat
structure NodeI where
 to:List Int
 frm:List Int
def andI (a:AndD):NodeI:=⟨[a.var],[a.a,a.b]⟩
def readI (word:Int) (r:ReadD):NodeI:=⟨dataL r.var word.toNat,r.addr⟩
def memI (m:MemD):List NodeI:=m.reads.map (readI m.word)
def Zj5 (n:NetD):List NodeI:=n.ands.map andI++n.mems.flatMap memI
def readN (k:Nat) (m:MemD):List NodeD:=(List.range m.reads.length).map fun i=>⟨true,k,i⟩
def memsN (k:Nat):List MemD→List NodeD
 | []=>[]
 | m :: l=>readN k m++memsN (k+1) l
def Zha (n:NetD):List NodeD:=(List.range n.ands.length).map (fun i=>⟨false,0,i⟩)++memsN 0 n.mems
def NodeD.is (n:NetD) (x:NodeD) (i:NodeI):Prop:=
 (x.rd=false∧∃a,n.ands[x.pos]?=some a∧i=andI a)∨(x.rd=true∧∃m r,n.mems[x.mem]?=some m∧m.reads[x.pos]?=some r∧i=readI m.word r)
theorem memsN_at (n:List MemD):∀(l:List MemD) (k:Nat),(∀j,l[j]?=n[k+j]?)→∀(i:Nat) (x:NodeD),(memsN k l)[i]?=some x→∃(m:MemD) (r:ReadD),n[x.mem]?=some m∧m.reads[x.pos]?=some r∧(l.flatMap memI)[i]?=some (readI m.word r)∧x.rd=true:=by
 intro l
 induction l with
 | nil=>intro k _ i x h;simp [memsN] at h
 | cons m l ih=>
  intro k hk i x h
  rw [memsN] at h
  rw [List.flatMap_cons]
  have hl1:(readN k m).length=m.reads.length:=by simp [readN]
  have hl2:(memI m).length=m.reads.length:=by simp [memI]
  by_cases hi:i<m.reads.length
  ·rw [List.getElem?_append_left (by omega)] at h
   rw [List.getElem?_append_left (by omega)]
   unfold readN at h
   rw [List.getElem?_map,List.getElem?_range hi] at h
   injection h with h
   subst h
   have:=hk 0
   rw [Nat.add_zero] at this
   refine ⟨m,m.reads[i],by rw [←this];rfl,List.getElem?_eq_getElem hi,?_,rfl⟩
   unfold memI
   rw [List.getElem?_map,List.getElem?_eq_getElem hi];rfl
  ·rw [List.getElem?_append_right (by omega)] at h
   rw [List.getElem?_append_right (by omega)]
   rw [hl1] at h
   rw [hl2]
   exact ih (k+1) (fun j=>by have:=hk (j+1);rw [show k+1+j=k+(j+1) by omega,←this];rfl) _ x h
theorem Zlt:∀(l:List MemD) (k:Nat),(memsN k l).length=(l.flatMap memI).length:=by
 intro l
 induction l with
 | nil=>intro k;rfl
 | cons m l ih=>intro k;rw [memsN,List.flatMap_cons,List.length_append,List.length_append,ih];simp [readN,memI]
theorem Zuw (n:NetD):(Zha n).length=(Zj5 n).length:=by
 unfold Zha Zj5;simp only [List.length_append,Zlt];simp
theorem Za4z (n:NetD) {i:Nat} {x:NodeD} (h:(Zha n)[i]?=some x):∃y,(Zj5 n)[i]?=some y∧x.is n y:=by
 unfold Zha at h
 unfold Zj5
 have hl1:((List.range n.ands.length).map (fun i=>(⟨false,0,i⟩:NodeD))).length=n.ands.length:=by simp
 have hl2:(n.ands.map andI).length=n.ands.length:=by simp
 by_cases hi:i<n.ands.length
 ·rw [List.getElem?_append_left (by omega)] at h
  rw [List.getElem?_append_left (by omega)]
  rw [List.getElem?_map,List.getElem?_range hi] at h
  injection h with h
  subst h
  rw [List.getElem?_map,List.getElem?_eq_getElem hi]
  exact ⟨_,rfl,.inl ⟨rfl,_,List.getElem?_eq_getElem hi,rfl⟩⟩
 ·rw [List.getElem?_append_right (by omega)] at h
  rw [List.getElem?_append_right (by omega)]
  rw [hl1] at h
  rw [hl2]
  obtain ⟨m,r,h1,h2,h3,h4⟩:=memsN_at n.mems n.mems 0 (fun j=>by simp) _ x h
  exact ⟨_,h3,.inr ⟨h4,m,r,h1,h2,rfl⟩⟩
def NodeI.nd (x:NodeI):Nd:=⟨x.frm.map fun l=>(l / 2).toNat,x.to.map Int.toNat⟩
def ndL (n:NetD):List Nd:=(Zj5 n).map NodeI.nd
theorem Za6p {V:Int}:∀(l pre:List Int),pre.Nodup→(∀x∈pre,1≤x∧x≤V)→dup V pre l=0→(pre++l).Nodup∧∀x∈pre++l,1≤x∧x≤V:=by
 intro l
 induction l with
 | nil=>intro pre h1 h2 _;simpa using ⟨h1,h2⟩
 | cons v l ih=>
  intro pre h1 h2 h
  rw [dup] at h
  by_cases ha:v<1∨V<v
  ·rw [if_pos ha] at h;omega
  ·rw [if_neg ha] at h
   by_cases hc:pre.contains v=true
   ·rw [if_pos hc] at h;omega
   ·rw [if_neg hc] at h
    have hn:v∉pre:=by simpa using hc
    have:=ih (pre++[v]) (by
     rw [List.nodup_append]
     exact ⟨h1,by simp,fun a ha' b hb=>by simp at hb;subst hb;rintro rfl;exact hn ha'⟩) (fun x hx=>by
     rcases List.mem_append.1 hx with hx | hx
     ·exact h2 x hx
     ·simp at hx;subst hx;omega) h
    simpa using this
structure Snd (n:NetD) (V:Nat):Prop where
 vars:n.vars=(V:Int)
 v2:V≤2000
 nodup:(Zbm n).Nodup
 rng:∀x∈Zbm n,1≤x∧x≤(V:Int)
 lits:∀l∈Zch n,0≤l∧l / 2≤(V:Int)
 mems:∀m∈n.mems,1≤m.addr∧m.addr≤62∧1≤m.word∧m.word≤64∧(∀r∈m.reads,(r.addr.length:Int)=m.addr)∧(∀x∈m.writes,(x.addr.length:Int)=m.addr∧(x.data.length:Int)=m.word)∧m.reads.length≤4∧m.writes.length≤4
 init:∀l∈n.latches,0≤l.init∧l.init≤2
 lens:n.inputs.length≤2000∧n.latches.length≤2000∧n.ands.length≤2000∧n.outputs.length+n.bads.length+n.constraints.length≤1000∧n.mems.length≤4
theorem any_false {α:Type} {p:α→Bool} {l:List α} (h:¬l.any p=true):∀x∈l,p x=false:=by
 intro x hx
 cases hp:p x
 ·rfl
 ·exact absurd (List.any_eq_true.2 ⟨x,hx,hp⟩) h
theorem Za74 {n:NetD} (h:Zj3 n=0):∃V,Snd n V:=by
 unfold Zj3 at h
 by_cases h1:Zka n=true
 ·rw [if_pos h1] at h;omega
 rw [if_neg h1] at h
 by_cases h2:n.mems.any wideB=true
 ·rw [if_pos h2] at h;omega
 rw [if_neg h2] at h
 by_cases h3:n.latches.any initB=true
 ·rw [if_pos h3] at h;omega
 rw [if_neg h3] at h
 by_cases h4:dup n.vars [] (Zbm n)≠0
 ·rw [if_pos h4] at h;exact absurd h h4
 rw [if_neg h4] at h
 by_cases h5:(Zch n).any (litB n.vars)=true
 ·rw [if_pos h5] at h;omega
 unfold Zka at h1
 rw [Bool.or_eq_true,not_or] at h1
 obtain ⟨h1a,h1b⟩:=h1
 have h1a':¬(n.vars<0∨2000<n.vars∨2000<n.inputs.length∨2000<n.latches.length∨2000<n.ands.length∨1000<n.outputs.length+n.bads.length+n.constraints.length∨4<n.mems.length):=by simpa using h1a
 obtain ⟨V,hV⟩:=Int.eq_ofNat_of_zero_le (show 0≤n.vars by omega)
 obtain ⟨d1,d2⟩:=Za6p (V:=n.vars) (Zbm n) [] (by simp) (by simp) (by omega)
 simp only [List.nil_append] at d1 d2
 refine ⟨V,hV,by omega,d1,fun x hx=>hV▸d2 x hx,fun l hl=>?_,fun m hm=>?_,fun l hl=>?_,⟨by omega,by omega,by omega,by omega,by omega⟩⟩
 ·have:=any_false h5 l hl
  unfold litB at this
  have:¬(l<0∨n.vars<l / 2):=by simpa using this
  omega
 ·have hw:=any_false h2 m hm
  have hp:=any_false h1b m hm
  unfold Zki at hp
  have hp:¬(4<m.reads.length∨4<m.writes.length):=by simpa using hp
  unfold wideB at hw
  rw [Bool.or_eq_false_iff,Bool.or_eq_false_iff] at hw
  obtain ⟨⟨w1,w2⟩,w3⟩:=hw
  have w1:¬(m.addr<1∨62<m.addr∨m.word<1∨64<m.word):=by simpa using w1
  refine ⟨by omega,by omega,by omega,by omega,fun r hr=>?_,fun x hx=>?_,by omega,by omega⟩
  ·have:=any_false (p:=wideR m) (by rw [w2];simp) r hr
   unfold wideR at this
   simpa using this
  ·have:=any_false (p:=wideW m) (by rw [w3];simp) x hx
   unfold wideW at this
   rw [Bool.or_eq_false_iff] at this
   exact ⟨by simpa using this.1,by simpa using this.2⟩
 ·have:=any_false h3 l hl
  unfold initB at this
  have:¬(l.init<0∨2<l.init):=by simpa using this
  omega
theorem Za1a (n:NetD):(Zj5 n).flatMap NodeI.to=n.ands.map (·.var)++n.mems.flatMap Zur:=by
 unfold Zj5
 rw [List.flatMap_append]
 congr 1
 ·induction n.ands with
  | nil=>rfl
  | cons a l ih=>rw [List.map_cons,List.flatMap_cons,ih];rfl
 ·rw [List.flatMap_assoc]
  congr 1
  funext m
  unfold memI Zur
  rw [List.flatMap_map]
  rfl
theorem Za03 {α:Type} {f:α→List Int}:∀{l:List α},(l.flatMap f).Nodup→∀{i j:Nat} {x y:α} {v:Int},l[i]?=some x→l[j]?=some y→v∈f x→v∈f y→i=j:=by
 intro l
 induction l with
 | nil=>intro _ i j x y v h;simp at h
 | cons a l ih=>
  intro hn i j x y v hi hj hx hy
  rw [List.flatMap_cons,List.nodup_append] at hn
  obtain ⟨h1,h2,h3⟩:=hn
  cases i with
  | zero=>
   cases j with
   | zero=>rfl
   | succ j=>
    simp at hi hj
    subst hi
    exact absurd rfl (h3 v hx v (List.mem_flatMap.2 ⟨y,List.mem_of_getElem? hj,hy⟩))
  | succ i=>
   cases j with
   | zero=>
    simp at hi hj
    subst hj
    exact absurd rfl (h3 v hy v (List.mem_flatMap.2 ⟨x,List.mem_of_getElem? hi,hx⟩))
   | succ j=>simp at hi hj;rw [ih h2 hi hj hx hy]
section
variable {n:NetD} {V:Nat}
theorem Snd.toNodup (s:Snd n V):((Zj5 n).flatMap NodeI.to).Nodup:=by
 rw [Za1a]
 have:=s.nodup
 unfold Zbm at this
 rw [List.append_assoc,List.nodup_append] at this
 have:=this.2.1
 rw [List.nodup_append] at this ⊢
 exact ⟨this.2.1,this.1,fun a ha b hb e=>this.2.2 b hb a ha e.symm⟩
theorem Snd.toRng (s:Snd n V) {x:NodeI} (hx:x∈Zj5 n) {v:Int} (hv:v∈x.to):1≤v∧v≤(V:Int):=by
 have:v∈(Zj5 n).flatMap NodeI.to:=List.mem_flatMap.2 ⟨x,hx,hv⟩
 rw [Za1a] at this
 refine s.rng v ?_
 unfold Zbm
 rcases List.mem_append.1 this with h | h<;>simp [h]
theorem Snd.Za8p (s:Snd n V) {x:NodeI} (hx:x∈Zj5 n) {l:Int} (hl:l∈x.frm):0≤l∧l / 2≤(V:Int):=by
 refine s.lits l ?_
 unfold Zj5 at hx
 unfold Zch
 rcases List.mem_append.1 hx with hx | hx
 ·obtain ⟨a,ha,rfl⟩:=List.mem_map.1 hx
  have:l∈n.ands.flatMap andL:=List.mem_flatMap.2 ⟨a,ha,hl⟩
  simp [this]
 ·obtain ⟨m,hm,hx⟩:=List.mem_flatMap.1 hx
  obtain ⟨r,hr,rfl⟩:=List.mem_map.1 hx
  have:l∈n.mems.flatMap memL:=List.mem_flatMap.2 ⟨m,hm,by unfold memL;exact List.mem_append.2 (.inl (List.mem_flatMap.2 ⟨r,hr,hl⟩))⟩
  simp [this]
theorem Snd.toNe (s:Snd n V) {x:NodeI} (hx:x∈Zj5 n):x.to≠[]:=by
 unfold Zj5 at hx
 rcases List.mem_append.1 hx with hx | hx
 ·obtain ⟨a,ha,rfl⟩:=List.mem_map.1 hx;simp [andI]
 ·obtain ⟨m,hm,hx⟩:=List.mem_flatMap.1 hx
  obtain ⟨r,hr,rfl⟩:=List.mem_map.1 hx
  have:=(s.mems m hm).2.2.1
  unfold readI dataL
  simp
  omega
theorem Za7q {i:Nat}:(ndL n)[i]?=((Zj5 n)[i]?).map NodeI.nd:=by unfold ndL;rw [List.getElem?_map]
theorem Za7p {x:Nd} (h:x∈ndL n):∃y∈Zj5 n,x=y.nd:=by
 unfold ndL at h
 obtain ⟨y,h1,h2⟩:=List.mem_map.1 h
 exact ⟨y,h1,h2.symm⟩
theorem Snd.apart (s:Snd n V):Apart (ndL n):=by
 intro i j x y v hi hj hx hy
 rw [Za7q] at hi hj
 obtain ⟨x',hi',rfl⟩:=Option.map_eq_some_iff.1 hi
 obtain ⟨y',hj',rfl⟩:=Option.map_eq_some_iff.1 hj
 obtain ⟨a,ha,e1⟩:=List.mem_map.1 hx
 obtain ⟨b,hb,e2⟩:=List.mem_map.1 hy
 have r1:=s.toRng (List.mem_of_getElem? hi') ha
 have r2:=s.toRng (List.mem_of_getElem? hj') hb
 have:a=b:=by omega
 subst this
 exact Za03 s.toNodup hi' hj' ha hb
theorem Snd.hin (s:Snd n V):∀x∈ndL n,∀u∈x.frm,u≤V:=by
 intro x hx u hu
 obtain ⟨y,hy,rfl⟩:=Za7p hx
 obtain ⟨l,hl,rfl⟩:=List.mem_map.1 hu
 have:=s.Za8p hy hl
 omega
theorem Snd.hto (s:Snd n V):∀x∈ndL n,x.to≠[]∧∀v∈x.to,v≤V:=by
 intro x hx
 obtain ⟨y,hy,rfl⟩:=Za7p hx
 refine ⟨by have:=s.toNe hy;unfold NodeI.nd;simpa using this,fun v hv=>?_⟩
 obtain ⟨l,hl,rfl⟩:=List.mem_map.1 hv
 have:=s.toRng hy hl
 omega
end
def Zkz (n:NetD):Int:=if Zj3 n≠0 then Zj3 n else if acyB (ndL n) n.vars.toNat then 0 else 8
def zc (p:Nat→Bool):Nat→Nat
 | 0=>0
 | k+1=>(if p k then 1 else 0)+zc p k
theorem zc_le {p q:Nat→Bool}:∀k,(∀v,v<k→p v=true→q v=true)→zc p k≤zc q k:=by
 intro k
 induction k with
 | zero=>intro _;exact Nat.le_refl _
 | succ k ih=>
  intro h
  have h1:=ih fun v hv=>h v (by omega)
  have h2:=h k (by omega)
  simp only [zc]
  cases hp:p k
  ·simp;omega
  ·rw [h2 hp];simp;omega
theorem zc_lt {p q:Nat→Bool} {v:Nat}:∀k,v<k→q v=true→p v=false→(∀v,v<k→p v=true→q v=true)→zc p k<zc q k:=by
 intro k
 induction k with
 | zero=>intro h;omega
 | succ k ih=>
  intro hv hq hp h
  simp only [zc]
  by_cases e:v=k
  ·subst e
   have h1:=zc_le (p:=p) (q:=q) v fun v hv=>h v (by omega)
   rw [hq,hp];simp;omega
  ·have h1:=ih (by omega) hq hp fun v hv=>h v (by omega)
   have h2:=h k (by omega)
   cases hp:p k
   ·simp;omega
   ·rw [h2 hp];simp;omega
def fresh (V:Nat) (m:List Int):Nat:=zc (fun v=>lat m v == 0) (V+1)
section
variable {N:List Nd} {V:Nat} {m lv m' lv' m'' lv'':List Int}
structure VI (N:List Nd) (V:Nat) (m lv:List Int):Prop where
 ml:m.length=V+1
 ll:lv.length=V+1
 kd:∀v,v≤V→lat m v=0∨lat m v=1∨lat m v=2
 mate:∀x∈N,∀u∈x.to,∀v∈x.to,lat m u=lat m v
 free:∀v,v≤V→(∀x∈N,v∉x.to)→lat m v=0∧lat lv v=0
 done:∀v,v≤V→lat m v=2→∃k:Nat,lat lv v=(k:Int)∧Lev N v k
structure Ext (V:Nat) (m lv m' lv':List Int):Prop where
 a:∀u,u≤V→lat m u=1→lat m' u=1
 b:∀u,u≤V→lat m' u=1→lat m u=1
 c:∀u,u≤V→lat m u=2→lat m' u=2∧lat lv' u=lat lv u
theorem Ext.refl:Ext V m lv m lv:=⟨fun _ _ h=>h,fun _ _ h=>h,fun _ _ h=>⟨h,rfl⟩⟩
theorem Ext.trans (h:Ext V m lv m' lv') (k:Ext V m' lv' m'' lv''):Ext V m lv m'' lv'':=
 ⟨fun u hu h1=>k.a u hu (h.a u hu h1),fun u hu h1=>h.b u hu (k.b u hu h1),fun u hu h1=>⟨(k.c u hu (h.c u hu h1).1).1,by rw [(k.c u hu (h.c u hu h1).1).2,(h.c u hu h1).2]⟩⟩
def tl (N:List Nd) (m:List Int) (u:Nat):Prop:=lat m u=2∨∀x∈N,u∉x.to
theorem Za31 (i:VI N V m lv) (i':VI N V m' lv') (h:Ext V m lv m' lv') {u:Nat} (hu:u≤V) (t:tl N m u):tl N m' u∧lat lv' u=lat lv u:=by
 rcases t with t | t
 ·exact ⟨.inl (h.c u hu t).1,(h.c u hu t).2⟩
 ·exact ⟨.inr t,by rw [(i.free u hu t).2,(i'.free u hu t).2]⟩
theorem Za4g (i:VI N V m lv) {u:Nat} (hu:u≤V) (t:tl N m u):∃k:Nat,lat lv u=(k:Int)∧Lev N u k:=by
 rcases t with t | t
 ·exact i.done u hu t
 ·exact ⟨0,by rw [(i.free u hu t).2];rfl,.free u t⟩
theorem Za8q (i:VI N V m lv) (i':VI N V m' lv') (h:Ext V m lv m' lv'):fresh V m'≤fresh V m:=by
 refine zc_le _ fun v hv hz=>?_
 have hv:v≤V:=by omega
 have hz:lat m' v=0:=by simpa using hz
 rcases i.kd v hv with h0 | h0 | h0
 ·simpa using h0
 ·have:=h.a v hv h0;omega
 ·have:=(h.c v hv h0).1;omega
theorem VI.under (ap:Apart N) (i:VI N V m lv) {x:Nd} (hx:x∈N) (hto:∀v∈x.to,v≤V) {v:Nat} (hv:v∈x.to) (h0:lat m v=0):VI N V (Zd0 m x.to 1) lv:=by
 refine ⟨by rw [Zdo,i.ml],i.ll,fun u hu=>?_,fun y hy a ha b hb=>?_,fun u hu hf=>?_,fun u hu h2=>?_⟩
 ·rw [Zbh];split
  ·exact .inr (.inl rfl)
  ·exact i.kd u hu
 ·rw [Zbh,Zbh]
  by_cases e:y=x
  ·subst e
   rw [if_pos ⟨ha,by rw [i.ml];have:=hto a ha;omega⟩,if_pos ⟨hb,by rw [i.ml];have:=hto b hb;omega⟩]
  ·rw [if_neg fun h=>e (ap.same hy hx ha h.1),if_neg fun h=>e (ap.same hy hx hb h.1)]
   exact i.mate y hy a ha b hb
 ·rw [Zbh,if_neg fun h=>hf x hx h.1]
  exact i.free u hu hf
 ·rw [Zbh] at h2
  split at h2
  ·omega
  ·exact i.done u hu h2
theorem Za3u (i:VI N V m lv) {x:Nd} (hx:x∈N) {v:Nat} (hv:v∈x.to) (hV:v≤V) (h0:lat m v=0):fresh V (Zd0 m x.to 1)<fresh V m:=by
 refine zc_lt (v:=v) _ (by omega) (by simpa using h0) ?_ fun u hu hz=>?_
 ·rw [Zbh,if_pos ⟨hv,by rw [i.ml];omega⟩];rfl
 ·have hz:lat (Zd0 m x.to 1) u=0:=by simpa using hz
  rw [Zbh] at hz
  split at hz
  ·omega
  ·simpa using hz
theorem VI.close (ap:Apart N) (i0:VI N V m lv) {x:Nd} (hx:x∈N) (hto:∀v∈x.to,v≤V) (hin:∀u∈x.frm,u≤V) {v:Nat} (hv:v∈x.to) (h0:lat m v=0)
  (i:VI N V m' lv') (h:Ext V (Zd0 m x.to 1) lv m' lv') (ht:∀u∈x.frm,tl N m' u) {L:Int} (hL:L=((mx (x.frm.map fun u=>(lat lv' u).toNat):Nat):Int)) :
  VI N V (Zd0 m' x.to 2) (Zd0 lv' x.to (L+1))∧Ext V m lv (Zd0 m' x.to 2) (Zd0 lv' x.to (L+1))∧tl N (Zd0 m' x.to 2) v:=by
 have hml:=i.ml
 have hll:=i.ll
 have hlev:∀u∈x.frm,Lev N u (lat lv' u).toNat:=fun u hu=>by
  obtain ⟨k,h1,h2⟩:=Za4g i (hin u hu) (ht u hu)
  rw [h1];simpa using h2
 have hm0:∀u∈x.to,lat m u=0:=fun u hu=>by rw [i0.mate x hx u hu v hv,h0]
 refine ⟨⟨by rw [Zdo,hml],by rw [Zdo,hll],fun u hu=>?_,fun y hy a ha b hb=>?_,fun u hu hf=>?_,fun u hu h2=>?_⟩,⟨fun u hu h1=>?_,fun u hu h1=>?_,fun u hu h2=>?_⟩,?_⟩
 ·rw [Zbh];split
  ·exact .inr (.inr rfl)
  ·exact i.kd u hu
 ·rw [Zbh,Zbh]
  by_cases e:y=x
  ·subst e
   rw [if_pos ⟨ha,by rw [hml];have:=hto a ha;omega⟩,if_pos ⟨hb,by rw [hml];have:=hto b hb;omega⟩]
  ·rw [if_neg fun h=>e (ap.same hy hx ha h.1),if_neg fun h=>e (ap.same hy hx hb h.1)]
   exact i.mate y hy a ha b hb
 ·rw [Zbh,if_neg fun h=>hf x hx h.1,Zbh,if_neg fun h=>hf x hx h.1]
  exact i.free u hu hf
 ·by_cases hux:u∈x.to
  ·refine ⟨mx (x.frm.map fun u=>(lat lv' u).toNat)+1,?_,.node x u _ hx hux hlev⟩
   rw [Zbh,if_pos ⟨hux,by rw [hll];omega⟩,hL];rfl
  ·rw [Zbh,if_neg fun h=>hux h.1] at h2
   rw [Zbh,if_neg fun h=>hux h.1]
   exact i.done u hu h2
 ·have hux:u∉x.to:=fun hux=>by have:=hm0 u hux;omega
  rw [Zbh,if_neg fun h=>hux h.1]
  refine h.a u hu ?_
  rw [Zbh,if_neg fun h=>hux h.1];exact h1
 ·rw [Zbh] at h1
  split at h1
  ·omega
  ·rename_i hn
   have hux:u∉x.to:=fun hux=>hn ⟨hux,by rw [hml];omega⟩
   have:=h.b u hu h1
   rwa [Zbh,if_neg fun h=>hux h.1] at this
 ·have hux:u∉x.to:=fun hux=>by have:=hm0 u hux;omega
  have:=h.c u hu (by rw [Zbh,if_neg fun h=>hux h.1];exact h2)
  rw [Zbh,if_neg fun h=>hux h.1,Zbh,if_neg fun h=>hux h.1]
  exact this
 ·refine .inl ?_
  rw [Zbh,if_pos ⟨hv,by rw [hml];have:=hto v hv;omega⟩]
theorem Za9i {x:Nd} (hx:x∈N) {v l:Nat} (hv:v∈x.to) (hl:l∈x.frm) (hd:∀u,u≤V→lat m u=1→Dep N u v):∀u,u≤V→lat (Zd0 m x.to 1) u=1→Dep N u l:=by
 intro u hu h
 rw [Zbh] at h
 split at h
 ·rename_i hc;exact .one x u l hx hc.1 hl
 ·exact .more x u v l (hd u hu h) hx hv hl
theorem vi0:VI N V (List.replicate (V+1) 0) (List.replicate (V+1) 0):=by
 have hz:∀v,lat (List.replicate (V+1) 0) v=0:=fun v=>by
  unfold lat
  rw [List.getD_eq_getElem?_getD,List.getElem?_replicate]
  split<;>rfl
 exact ⟨by simp,by simp,fun v _=>.inl (hz v),fun x _ u _ v _=>by rw [hz,hz],fun v _ _=>⟨hz v,hz v⟩,fun v _ h=>by rw [hz] at h;omega⟩
def ofU (N:List Nd) (V:Nat):Nat→List Int
 | 0=>List.replicate (V+1) 0
 | k+1=>match N[k]? with | some x=>Zd0 (ofU N V k) x.to ((k:Int)+1) | none=>ofU N V k
theorem Zrv (N:List Nd) (V:Nat):∀k,(ofU N V k).length=V+1:=by
 intro k
 induction k with
 | zero=>simp [ofU]
 | succ k ih=>rw [ofU];cases N[k]?<;>simp [Zdo,ih]
theorem Za4v {k:Nat} {x:Nd} (h:N[k]?=some x):ofU N V (k+1)=Zd0 (ofU N V k) x.to ((k:Int)+1):=by rw [ofU,h]
theorem ofU_at (ap:Apart N) (hto:∀x∈N,∀v∈x.to,v≤V):∀k v,v≤V→(lat (ofU N V k) v=0∧∀i x,i<k→N[i]?=some x→v∉x.to)∨∃i x,i<k∧N[i]?=some x∧v∈x.to∧lat (ofU N V k) v=(i:Int)+1:=by
 intro k
 induction k with
 | zero=>
  intro v _
  left
  refine ⟨?_,fun i x h=>by omega⟩
  unfold ofU lat
  rw [List.getD_eq_getElem?_getD,List.getElem?_replicate]
  split<;>rfl
 | succ k ih=>
  intro v hv
  cases hk:N[k]? with
  | none=>
   rw [ofU,hk]
   rcases ih v hv with ⟨h1,h2⟩ | ⟨i,x,h1,h2,h3,h4⟩
   ·left
    refine ⟨h1,fun i x hi hx=>?_⟩
    by_cases e:i=k
    ·subst e;rw [hk] at hx;cases hx
    ·exact h2 i x (by omega) hx
   ·exact .inr ⟨i,x,by omega,h2,h3,h4⟩
  | some y=>
   rw [Za4v hk,Zbh]
   by_cases hvy:v∈y.to
   ·rw [if_pos ⟨hvy,by rw [Zrv];omega⟩]
    exact .inr ⟨k,y,by omega,hk,hvy,rfl⟩
   ·rw [if_neg fun h=>hvy h.1]
    rcases ih v hv with ⟨h1,h2⟩ | ⟨i,x,h1,h2,h3,h4⟩
    ·left
     refine ⟨h1,fun i x hi hx=>?_⟩
     by_cases e:i=k
     ·subst e;rw [hk] at hx;injection hx with hx;subst hx;exact hvy
     ·exact h2 i x (by omega) hx
    ·exact .inr ⟨i,x,by omega,h2,h3,h4⟩
theorem of_at (ap:Apart N) (hto:∀x∈N,∀v∈x.to,v≤V) {v:Nat} (hv:v≤V):(lat (ofU N V N.length) v=0∧∀x∈N,v∉x.to)∨∃(i:Nat) (x:Nd),N[i]?=some x∧v∈x.to∧lat (ofU N V N.length) v=(i:Int)+1:=by
 rcases ofU_at ap hto N.length v hv with ⟨h1,h2⟩ | ⟨i,x,h1,h2,h3,h4⟩
 ·left
  refine ⟨h1,fun x hx=>?_⟩
  obtain ⟨i,hi,rfl⟩:=List.getElem_of_mem hx
  exact h2 i _ hi (List.getElem?_eq_getElem hi)
 ·exact .inr ⟨i,x,h2,h3,h4⟩
theorem Za1c {l:List Nat} {k u:Nat} {f:Nat→Nat} (h:l[k]?=some u):mx ((l.take (k+1)).map f)=max (mx ((l.take k).map f)) (f u):=by
 rw [Zd8 h,List.map_append];exact mx_snoc _ _
end
end Go.Proofs.YtkcpdpplobhpaaaGreat.Pl
end
section
namespace Go.Proofs.YtkcpdpplobhpaaaGreat.V
open Go Go.RowKit
open Go.Proofs.YtkcpdpplobhpaaaGreat.Pl
theorem Zz0 (v:Int) (k:Nat):dataL v (k+1)=dataL v k++[v+(k:Int)]:=by unfold dataL;rw [List.range_succ,List.map_append];rfl
theorem Zol (v:Int) (k:Nat):(dataL v k).length=k:=by simp [dataL]
theorem Za3i (m:MemD) (i:Nat) (r:ReadD) (hr:m.reads[i]?=some r) (hw:0≤m.word∧m.word≤4000) (hv:-1099511627776≤r.var∧r.var≤1099511627776) :
  Zmw (memT m,((i:Int),()))=some (dataL r.var m.word.toNat,()):=by
 obtain ⟨W,hW⟩:=Int.eq_ofNat_of_zero_le hw.1
 have hi:=Zhb hr
 have hr':(m.reads.map readT)[i]?=some (readT r):=by rw [List.getElem?_map,hr];rfl
 have hL:Zli ((i:Int),(m.word,((0:Int),(m.addr,(m.word,(m.any,(m.reads.map readT,(m.writes.map Zt4,([],())))))))))=some (dataL r.var m.word.toNat,()):=by
  unfold Zli;delta u9
  rw [hW,Int.toNat_natCast]
  refine Zyl (fun k:Nat=>((i:Int),((W:Int),((k:Int),(m.addr,((W:Int),(m.any,(m.reads.map readT,(m.writes.map Zt4,(dataL r.var k,())))))))))) W ?_ ?_ NN (Ze8 (by omega))
  ·intro k hk
   try dsimp only
   unfold Zql
   rw [br_t (dec_t (by omega)),chk_t (Zar ⟨by omega,by rw [List.length_map];omega⟩),chk_t (Za3a (by simp [Zol];omega) (by simp [Zol];omega)),gt_at hr',show (readT r).1=r.var from rfl]
   rw [i64w (x:=r.var+(k:Int)) (by omega),i64w (x:=(k:Int)+1) (by omega),Zz0]
   rfl
  ·try dsimp only
   unfold Zql
   rw [br_f (dec_f (by omega))]
   rfl
 show Zrw Zli (memT m) (i:Int)=_
 unfold Zrw
 rw [br_f (dec_f (by omega)),selN,br_f (dec_f (by simp only [memT,List.length_map,Int.ofNat_eq_natCast];omega))]
 exact (bnd_s hL).trans rfl
def nodeT (x:NodeD):Za4.T:=(x.rd,((x.mem:Int),((x.pos:Int),())))
abbrev WT:=Int×List Int×List Za0.T×List Int×List Int×List Int×List Za1.T×List Za0.T×List Int×List Za4.T×List Int×List Int×Unit
def wkT (n:NetD) (of:List Int) (nd:List NodeD) (m lv:List Int):WT:=
 (n.vars,(n.inputs,(n.latches.map latT,(n.outputs,(n.bads,(n.constraints,(n.mems.map memT,(n.ands.map andT,(of,(nd.map nodeT,(m,(lv,()))))))))))))
theorem from_is {n:NetD} {of m lv:List Int} {nd:List NodeD} {x:NodeD} {i:NodeI} (h:x.is n i):Zck (x.rd,((x.mem:Int),((x.pos:Int),wkT n of nd m lv)))=some (i.frm,wkT n of nd m lv):=by
 show Zhh x.rd (x.mem:Int) (x.pos:Int) n.vars n.inputs (n.latches.map latT) n.outputs n.bads n.constraints (n.mems.map memT) (n.ands.map andT) of (nd.map nodeT) m lv=_
 unfold Zhh
 rcases h with ⟨h,a,ha,rfl⟩ | ⟨h,M,r,hM,hr,rfl⟩
 ·have ha':(n.ands.map andT)[x.pos]?=some (andT a):=by rw [List.getElem?_map,ha];rfl
  have hl:=Zhb ha'
  rw [h,br_f rfl,chk_t (Zar ⟨by omega,by omega⟩),gt_at ha']
  rfl
 ·have hM':(n.mems.map memT)[x.mem]?=some (memT M):=by rw [List.getElem?_map,hM];rfl
  have hr':(M.reads.map readT)[x.pos]?=some (readT r):=by rw [List.getElem?_map,hr];rfl
  have hl:=Zhb hM'
  have hl2:=Zhb hr'
  rw [h,br_t rfl,chk_t (Zar ⟨by omega,by omega⟩),gt_at hM',show (memT M).2.2.2.1=M.reads.map readT from rfl,chk_t (Zar ⟨by omega,by omega⟩),gt_at hr']
  rfl
theorem to_is {n:NetD} {of m lv:List Int} {nd:List NodeD} {x:NodeD} {i:NodeI} (h:x.is n i) (ft:Fit n) (hw:∀M∈n.mems,0≤M.word) :
  Zaf (x.rd,((x.mem:Int),((x.pos:Int),wkT n of nd m lv)))=some (i.to,wkT n of nd m lv):=by
 show Zir Zmw x.rd (x.mem:Int) (x.pos:Int) n.vars n.inputs (n.latches.map latT) n.outputs n.bads n.constraints (n.mems.map memT) (n.ands.map andT) of (nd.map nodeT) m lv=_
 unfold Zir
 rcases h with ⟨h,a,ha,rfl⟩ | ⟨h,M,r,hM,hr,rfl⟩
 ·have ha':(n.ands.map andT)[x.pos]?=some (andT a):=by rw [List.getElem?_map,ha];rfl
  have hl:=Zhb ha'
  rw [h,br_f rfl,chk_t (Zar ⟨by omega,by omega⟩),gt_at ha']
  rfl
 ·have hM':(n.mems.map memT)[x.mem]?=some (memT M):=by rw [List.getElem?_map,hM];rfl
  have hl:=Zhb hM'
  have hmem:=List.mem_of_getElem? hM
  have hf:=ft.mems.2 M hmem
  have hr2:=hf.rds r (List.mem_of_getElem? hr)
  rw [h,br_t rfl,chk_t (Zar ⟨by omega,by omega⟩),gt_at hM']
  exact (bnd_s (Za3i M x.pos r hr ⟨hw M hmem,hf.word.2⟩ ⟨hr2.2.1,hr2.2.2.1⟩)).trans rfl
theorem Za7z {n:NetD} {of m lv:List Int} {nd:List NodeD} {V:Nat} (a:Int) (vs:List Int) (hln:vs.length≤100000) (hvs:∀v∈vs,0≤v∧v≤(V:Int)) (hm:m.length=V+1) :
  Zbg (a,(vs,wkT n of nd m lv))=some (vs,wkT n of nd (Zd0 m (vs.map Int.toNat) a) lv):=by
 have hL:Zdf (a,(vs,((vs.length:Int),((0:Int),(vs,wkT n of nd m lv)))))=some (vs,wkT n of nd (Zd0 m (vs.map Int.toNat) a) lv):=by
  unfold Zdf;delta u17
  refine Zyl (fun k:Nat=>(a,(vs,((vs.length:Int),((k:Int),(vs,wkT n of nd (Zd0 m ((vs.take k).map Int.toNat) a) lv)))))) vs.length ?_ ?_ NN (Ze8 (by omega))
  ·intro k hk
   unfold wkT
   try dsimp only
   unfold Zf8
   have hv:=List.getElem?_eq_getElem hk
   obtain ⟨h0,h1⟩:=hvs _ (List.getElem_mem hk)
   obtain ⟨v,hv2⟩:=Int.eq_ofNat_of_zero_le h0
   rw [hv2] at hv h1
   rw [br_t (dec_t (by omega)),chk_t (Zar ⟨by omega,by omega⟩),gt_at (σ:=.int .i64) hv,chk_t (Zar ⟨by omega,by rw [Zdo,hm];omega⟩),i64w (x:=(k:Int)+1) (by omega)]
   rw [Zd8 hv,List.map_append,List.map_cons,List.map_nil,Zmu]
   rfl
  ·unfold wkT
   try dsimp only
   unfold Zf8
   rw [br_f (dec_f (by omega)),List.take_length]
   rfl
 show Zfk Zdf a vs n.vars n.inputs (n.latches.map latT) n.outputs n.bads n.constraints (n.mems.map memT) (n.ands.map andT) of (nd.map nodeT) m lv=_
 unfold Zfk
 exact (bnd_s hL).trans rfl
end Go.Proofs.YtkcpdpplobhpaaaGreat.V
end
section
namespace Go.Proofs.YtkcpdpplobhpaaaGreat.Pl
theorem Za3p {l:List Int} {v:Nat} (h:v<l.length):l[v]?=some (lat l v):=by
 unfold lat;rw [List.getD_eq_getElem?_getD,List.getElem?_eq_getElem h];rfl
theorem frm_nat {n:NetD} {V:Nat} (hs:Snd n V) {y:NodeI} (hy:y∈Zj5 n) {k:Nat} {l:Int} (h:y.frm[k]?=some l):∃u:Nat,l / 2=(u:Int)∧u≤V∧y.nd.frm[k]?=some u∧0≤l∧l≤2*V+1:=by
 have:=hs.Za8p hy (List.mem_of_getElem? h)
 refine ⟨(l / 2).toNat,by omega,by omega,?_,by omega,by omega⟩
 unfold NodeI.nd
 rw [List.getElem?_map,h];rfl
theorem Ztg {n:NetD} {V:Nat} (hs:Snd n V) {y:NodeI} (hy:y∈Zj5 n):y.to.length≤64∧y.frm.length≤62:=by
 unfold Zj5 at hy
 rcases List.mem_append.1 hy with hy | hy
 ·obtain ⟨a,ha,rfl⟩:=List.mem_map.1 hy;simp [andI]
 ·obtain ⟨m,hm,hy⟩:=List.mem_flatMap.1 hy
  obtain ⟨r,hr,rfl⟩:=List.mem_map.1 hy
  have h1:=hs.mems m hm
  have h2:=h1.2.2.2.2.1 r hr
  unfold readI dataL
  simp
  omega
theorem mx_keep {N:List Nd} {V:Nat} {m lv m' lv':List Int} (i:VI N V m lv) (i':VI N V m' lv') (h:Ext V m lv m' lv') {l:List Nat} (hl:∀u∈l,u≤V) (ht:∀u∈l,tl N m u) :
  mx (l.map fun u=>(lat lv' u).toNat)=mx (l.map fun u=>(lat lv u).toNat):=by
 rw [Zti fun u hu=>by rw [(Za31 i i' h (hl u hu) (ht u hu)).2]]
theorem lev_mx {N:List Nd} (ap:Apart N) {V:Nat} {m lv:List Int} (i:VI N V m lv) {l:List Nat} (hl:∀u∈l,u≤V) (ht:∀u∈l,tl N m u):mx (l.map fun u=>(lat lv u).toNat)≤N.length:=by
 refine mx_le fun z hz=>?_
 obtain ⟨u,hu,rfl⟩:=List.mem_map.1 hz
 obtain ⟨k,h1,h2⟩:=Za4g i (hl u hu) (ht u hu)
 rw [h1]
 have:=h2.le ap
 simpa using this
theorem Za05 {α β:Type} (f:α→List β):∀(l:List α) (k:Nat),(∀x∈l,(f x).length≤k)→(l.flatMap f).length≤l.length*k:=by
 intro l k
 induction l with
 | nil=>intro _;simp
 | cons x l ih=>
  intro h
  rw [List.flatMap_cons,List.length_append,List.length_cons,Nat.succ_mul]
  have h1:=ih fun y hy=>h y (by simp [hy])
  have h2:=h x (by simp)
  omega
theorem Zwu {n:NetD} {V:Nat} (hs:Snd n V):(ndL n).length≤3000:=by
 unfold ndL Zj5
 rw [List.length_map,List.length_append,List.length_map]
 have h1:=hs.lens
 have h2:=Za05 memI n.mems 4 (fun m hm=>by unfold memI;rw [List.length_map];exact (hs.mems m hm).2.2.2.2.2.2.1)
 omega
end Go.Proofs.YtkcpdpplobhpaaaGreat.Pl
end
section
namespace Go.Proofs.YtkcpdpplobhpaaaGreat.V
open Go Go.RowKit
open Go.Proofs.YtkcpdpplobhpaaaGreat.Pl
theorem Za3m (l:Int):Zhs (l,())=some (l / 2,()):=by
 show Zrx l=_
 unfold Zrx
 rw [Int.fdiv_eq_ediv_of_nonneg _ (by decide)]
 rfl
theorem Zwy {l q:Int} (h:l / 2=q):Zhs (l,())=some (q,()):=by rw [Za3m,h]
def VisP (n:NetD) (V:Nat) (m lv:List Int) (v:Nat) (b:Bool) (m' lv':List Int):Prop:=
 (b=true∧VI (ndL n) V m' lv'∧Ext V m lv m' lv'∧tl (ndL n) m' v)∨(b=false∧∃u,u≤V∧∀k,¬Lev (ndL n) u k)
def wk (n:NetD) (V:Nat) (m lv:List Int):WT:=wkT n (ofU (ndL n) V (ndL n).length) (Zha n) m lv
abbrev WV:=Int×List Int×List Za0.T×List Int×List Int×List Int×List Za1.T×List Za0.T×List Int×List Za4.T×List Int×List Int×List Int×Unit
def wv (n:NetD) (V:Nat) (m lv vs:List Int):WV:=
 (n.vars,(n.inputs,(n.latches.map latT,(n.outputs,(n.bads,(n.constraints,(n.mems.map memT,(n.ands.map andT,(ofU (ndL n) V (ndL n).length,((Zha n).map nodeT,(m,(lv,(vs,())))))))))))))
theorem lvl_is {n:NetD} {V:Nat} {F:TL Za7.σs→Option (Out Za6)} (L:Nat) (hL:L≤3000) (m lv vs:List Int) (hln:vs.length≤100000) (hvs:∀v∈vs,0≤v∧v≤(V:Int)) (hm:lv.length=V+1) :
  Zdi F ((L:Int),(vs,((vs.length:Int),((0:Int),wv n V m lv vs))))=some (wv n V m (Zd0 lv (vs.map Int.toNat) ((L:Int)+1)) vs):=by
 unfold Zdi
 refine Zyl (fun k:Nat=>((L:Int),(vs,((vs.length:Int),((k:Int),wv n V m (Zd0 lv ((vs.take k).map Int.toNat) ((L:Int)+1)) vs))))) vs.length ?_ ?_ NN (Ze8 (by omega))
 ·intro k hk
  unfold wv
  try dsimp only
  unfold Zfj
  have hv:=List.getElem?_eq_getElem hk
  obtain ⟨h0,h1⟩:=hvs _ (List.getElem_mem hk)
  obtain ⟨v,hv2⟩:=Int.eq_ofNat_of_zero_le h0
  rw [hv2] at hv h1
  rw [br_t (dec_t (by omega)),chk_t (Zar ⟨by omega,by omega⟩),gt_at (σ:=.int .i64) hv,chk_t (Zar ⟨by omega,by rw [Zdo,hm];omega⟩),i64w (x:=(k:Int)+1) (by omega),i64w (x:=(L:Int)+1) (by omega)]
  rw [Zd8 hv,List.map_append,List.map_cons,List.map_nil,Zmu]
  rfl
 ·unfold wv
  try dsimp only
  unfold Zfj
  rw [br_f (dec_f (by omega)),List.take_length]
  rfl
theorem visit_is {n:NetD} {V:Nat} (hs:Snd n V) (ft:Fit n):∀(F:Nat) (m lv:List Int) (v:Nat),VI (ndL n) V m lv→(∀u,u≤V→lat m u=1→Dep (ndL n) u v)→v≤V→fresh V m<F →
  ∃b m' lv',Zc0 F ((v:Int),wk n V m lv)=some (b,wk n V m' lv')∧VisP n V m lv v b m' lv':=by
 intro F
 induction F with
 | zero=>intro m lv v _ _ _ h;omega
 | succ F ih=>
  intro m lv v hI hD hv hF
  have hV2:=hs.v2
  have hnl:=Zwu hs
  have hmw:∀M∈n.mems,0≤M.word:=fun M hM=>by have:=hs.mems M hM;omega
  obtain ⟨of,hof⟩:∃of,of=ofU (ndL n) V (ndL n).length:=⟨_,rfl⟩
  have hofl:of.length=V+1:=by rw [hof];exact Zrv _ _ _
  have hofv:of[v]?=some (lat of v):=Za3p (by omega)
  have hmv:m[v]?=some (lat m v):=Za3p (by rw [hI.ml];omega)
  show ∃b m' lv',Zgu Zhs (Zc0 F) Zck Zbg Zaf (Zdj (Zc0 F)) (Zdi (Zc0 F)) (v:Int) n.vars n.inputs (n.latches.map latT) n.outputs n.bads n.constraints (n.mems.map memT) (n.ands.map andT) (ofU (ndL n) V (ndL n).length) ((Zha n).map nodeT) m lv=_∧_
  rw [←hof]
  unfold Zgu
  rw [chk_t (Zar ⟨by omega,by omega⟩),gt_at (σ:=.int .i64) hofv]
  rcases of_at hs.apart (fun x hx=>(hs.hto x hx).2) hv with ⟨h1,h2⟩ | ⟨i,x,h1,h2,h3⟩
  ·rw [←hof] at h1
   rw [h1,br_t (dec_t rfl)]
   exact ⟨true,m,lv,by rw [hof];rfl,.inl ⟨rfl,hI,Ext.refl,.inr h2⟩⟩
  rw [←hof] at h3
  rw [h3,br_f (dec_f (by omega)),chk_t (Zar ⟨by omega,by rw [hI.ml];omega⟩),selN,gt_at (σ:=.int .u8) hmv]
  rcases hI.kd v hv with hk | hk | hk
  ·-- its node's literals
   subst hof
   have hil:=Zhb h1
   have hnl2:(Zha n).length=(ndL n).length:=by rw [Zuw];unfold ndL;rw [List.length_map]
   obtain ⟨xd,hxd⟩:∃xd,(Zha n)[i]?=some xd:=⟨_,List.getElem?_eq_getElem (by omega)⟩
   obtain ⟨y,hy1,hy2⟩:=Za4z n hxd
   have hxy:x=y.nd:=by rw [Za7q,hy1] at h1;simpa using h1.symm
   subst hxy
   have hy:=List.mem_of_getElem? hy1
   have hx:=List.mem_of_getElem? h1
   have hxd':((Zha n).map nodeT)[i]?=some (nodeT xd):=by rw [List.getElem?_map,hxd];rfl
   have hvs:∀u∈y.to,0≤u∧u≤(V:Int):=fun u hu=>by have:=hs.toRng hy hu;omega
   have hlens:=Ztg hs hy
   have hfr:∀u∈y.nd.frm,u≤V:=fun u hu=>hs.hin _ hx u hu
   have hI5:=hI.under hs.apart hx (fun u hu=>(hs.hto _ hx).2 u hu) h2 hk
   rw [hk,br_f (dec_f (by omega)),chk_t (Zar ⟨by omega,by rw [hI.ml];omega⟩),br_f (dec_f (by omega)),chk_t (Zar ⟨by omega,by omega⟩)]
   rw [show ((i:Int)+1 - 1)=(i:Int) by omega,i64w (x:=(i:Int)) (by omega),chk_t (Zar ⟨by omega,by rw [List.length_map];omega⟩),gt_at hxd']
   have e1:=to_is (of:=ofU (ndL n) V (ndL n).length) (m:=m) (lv:=lv) (nd:=Zha n) hy2 ft hmw
   have e2:=Za7z (n:=n) (of:=ofU (ndL n) V (ndL n).length) (nd:=Zha n) (lv:=lv) 1 y.to (by omega) hvs hI.ml
   have e3:=from_is (n:=n) (of:=ofU (ndL n) V (ndL n).length) (nd:=Zha n) (m:=Zd0 m (y.to.map Int.toNat) 1) (lv:=lv) hy2
   have hL11:∃o,Zdj (Zc0 F) ((0:Int),(y.frm,((y.frm.length:Int),((0:Int),wv n V (Zd0 m y.nd.to 1) lv y.to))))=some o ∧
     ((∃m' lv',o=.inl (false,wk n V m' lv')∧∃u,u≤V∧∀k,¬Lev (ndL n) u k) ∨
      ∃(m' lv':List Int) (L:Nat),o=.inr ((L:Int),wv n V m' lv' y.to)∧VI (ndL n) V m' lv'∧Ext V (Zd0 m y.nd.to 1) lv m' lv'∧(∀u∈y.nd.frm,tl (ndL n) m' u)∧L=mx (y.nd.frm.map fun u=>(lat lv' u).toNat)):=by
    unfold Zdj
    refine Za80 (fun d=>∃(k:Nat) (m' lv':List Int) (L:Nat),k≤y.frm.length∧d=((L:Int),(y.frm,((y.frm.length:Int),((k:Int),wv n V m' lv' y.to))))∧VI (ndL n) V m' lv'∧Ext V (Zd0 m y.nd.to 1) lv m' lv' ∧
     (∀u∈y.nd.frm.take k,tl (ndL n) m' u)∧L=mx ((y.nd.frm.take k).map fun u=>(lat lv' u).toNat)) _ (fun d=>y.frm.length - d.2.2.2.1.toNat) ?_ NN _ ⟨0,_,lv,0,Nat.zero_le _,rfl,hI5,Ext.refl,by simp,rfl⟩ (Ze8 (by have:=hlens.2;omega))
    rintro d ⟨k,m',lv',L,hk',rfl,hI',hE',hT',hL⟩
    unfold wv
    try dsimp only
    unfold Zi2
    by_cases hlt:k<y.frm.length
    ·have hl:=List.getElem?_eq_getElem hlt
     obtain ⟨u,hu1,hu2,hu3,hl0,hl1⟩:=frm_nat hs hy hl
     have hlt2:fresh V m'<F:=by
      have h1:=Za8q hI5 hI' hE'
      have h2:=Za3u hI hx h2 hv hk
      omega
     have hdep:∀t,t≤V→lat m' t=1→Dep (ndL n) t u:=fun t ht h=>Za9i hx h2 (List.mem_of_getElem? hu3) hD t ht (hE'.b t ht h)
     obtain ⟨b,m2,lv2,g1,g2⟩:=ih m' lv' u hI' hdep hu2 hlt2
     rw [br_t (dec_t (by omega)),chk_t (Zar ⟨by omega,by omega⟩),gt_at (σ:=.int .i64) hl]
     rcases g2 with ⟨rfl,gI,gE,gT⟩ | ⟨rfl,u',hu',hno⟩
     ·right
      obtain ⟨kk,hk1,hk2⟩:=Za4g gI hu2 gT
      have hkl:=Nat.le_trans (hk2.le hs.apart) hnl
      have hlu:lv2[u]?=some (kk:Int):=by rw [←hk1];exact Za3p (by rw [gI.ll];omega)
      have hT:∀u'∈y.nd.frm.take (k+1),tl (ndL n) m2 u':=fun u' h'=>by
       rw [Zd8 hu3] at h'
       rcases List.mem_append.1 h' with h' | h'
       ·exact (Za31 hI' gI gE (hfr u' (List.mem_of_mem_take h')) (hT' u' h')).1
       ·simp at h';subst h';exact gT
      have hmx:mx ((y.nd.frm.take (k+1)).map fun u=>(lat lv2 u).toNat)=max L kk:=by
       rw [Za1c hu3,mx_keep hI' gI gE (fun u hu=>hfr u (List.mem_of_mem_take hu)) hT',←hL,hk1,Int.toNat_natCast]
      refine ⟨((max L kk:Nat),(y.frm,((y.frm.length:Int),(((k+1:Nat):Int),wv n V m2 lv2 y.to)))),?_,⟨k+1,m2,lv2,max L kk,by omega,rfl,gI,hE'.trans gE,hT,hmx.symm⟩,?_⟩
      ·refine (bnd_s (Zwy hu1)).trans ((bnd_s g1).trans ?_)
       refine (br_f rfl).trans ((chk_t (Zar ⟨by omega,by show (u:Int)<((List.length lv2:Nat):Int);rw [gI.ll];omega⟩)).trans ?_)
       have hsel:selI (@decide _ (Int.decLt (L:Int) (gt (.int .i64) lv2 (u:Int)))) (gt (.int .i64) lv2 (u:Int)) (L:Int)=((max L kk:Nat):Int):=by
        rw [gt_at (σ:=.int .i64) hlu]
        unfold selI
        split
        ·rename_i q;have q:=of_decide_eq_true q;have:max L kk=kk:=by omega
         rw [this]
        ·rename_i q;have q:=of_decide_eq_false q;have:max L kk=L:=by omega
         rw [this]
       have e:∀a b a' b':Int,a=a'→b=b'→(some (.inl (a,(y.frm,((y.frm.length:Int),(b,wv n V m2 lv2 y.to))))):Option (TL Zbx.σs⊕Out Zbl))=some (.inl (a',(y.frm,((y.frm.length:Int),(b',wv n V m2 lv2 y.to))))):=by
        rintro _ _ _ _ rfl rfl;rfl
       exact e _ _ _ _ hsel (i64w (x:=(k:Int)+1) (by omega))
      ·show y.frm.length - ((k+1:Nat):Int).toNat<y.frm.length - (k:Int).toNat
       omega
     ·left
      refine ⟨_,(bnd_s (Zwy hu1)).trans ((bnd_s g1).trans ?_),.inl ⟨m2,lv2,rfl,u',hu',hno⟩⟩
      exact (br_t rfl).trans rfl
    ·left
     have hlen:y.nd.frm.length≤k:=by unfold NodeI.nd;rw [List.length_map];omega
     rw [List.take_of_length_le hlen] at hT' hL
     rw [br_f (dec_f (by omega))]
     exact ⟨_,rfl,.inr ⟨m',lv',L,rfl,hI',hE',hT',hL⟩⟩
   obtain ⟨o,ho,hcase⟩:=hL11
   rcases hcase with ⟨m',lv',rfl,u',hu',hno⟩ | ⟨m',lv',L,rfl,hI',hE',hT',hL⟩
   ·refine ⟨false,m',lv',?_,.inr ⟨rfl,u',hu',hno⟩⟩
    refine (bnd_s e1).trans ((bnd_s e2).trans ((bnd_s e3).trans ((bnd_s ho).trans ?_)))
    rfl
   ·have hmxl:L≤3000:=by rw [hL];exact Nat.le_trans (lev_mx hs.apart hI' hfr hT') hnl
    have c:=hI.close hs.apart hx (fun u hu=>(hs.hto _ hx).2 u hu) hfr h2 hk hI' hE' hT' (L:=(L:Int)) (by rw [hL])
    have e5:=lvl_is (n:=n) (V:=V) (F:=Zc0 F) L hmxl m' lv' y.to (by omega) hvs hI'.ll
    have e6:=Za7z (n:=n) (of:=ofU (ndL n) V (ndL n).length) (nd:=Zha n) (lv:=Zd0 lv' (y.to.map Int.toNat) ((L:Int)+1)) 2 y.to (by omega) hvs hI'.ml
    refine ⟨true,Zd0 m' y.nd.to 2,Zd0 lv' y.nd.to ((L:Int)+1),?_,.inl ⟨rfl,c.1,c.2.1,c.2.2⟩⟩
    refine (bnd_s e1).trans ((bnd_s e2).trans ((bnd_s e3).trans ((bnd_s ho).trans ((bnd_s e5).trans ?_))))
    exact (bnd_s e6).trans rfl
  ·rw [hk,br_f (dec_f (by omega)),chk_t (Zar ⟨by omega,by rw [hI.ml];omega⟩),br_t (dec_t rfl)]
   exact ⟨false,m,lv,by rw [hof];rfl,.inr ⟨rfl,v,hv,fun k=>Dep.none hs.apart (hD v hv hk) k⟩⟩
  ·rw [hk,br_t (dec_t rfl)]
   exact ⟨true,m,lv,by rw [hof];rfl,.inl ⟨rfl,hI,Ext.refl,.inl hk⟩⟩
theorem data5_is (m:MemD) (i:Nat) (r:ReadD) (hr:m.reads[i]?=some r) (hw:0≤m.word∧m.word≤4000) (hv:-1099511627776≤r.var∧r.var≤1099511627776) :
  Zbo (memT m,((i:Int),()))=some (dataL r.var m.word.toNat,()):=by
 obtain ⟨W,hW⟩:=Int.eq_ofNat_of_zero_le hw.1
 have hi:=Zhb hr
 have hr':(m.reads.map readT)[i]?=some (readT r):=by rw [List.getElem?_map,hr];rfl
 have hL:Zdx ((i:Int),((0:Int),(m.addr,(m.word,(m.any,(m.reads.map readT,(m.writes.map Zt4,([],()))))))))=some (dataL r.var m.word.toNat,()):=by
  unfold Zdx;delta u8
  rw [hW,Int.toNat_natCast]
  refine Zyl (fun k:Nat=>((i:Int),((k:Int),(m.addr,((W:Int),(m.any,(m.reads.map readT,(m.writes.map Zt4,(dataL r.var k,()))))))))) W ?_ ?_ NN (Ze8 (by omega))
  ·intro k hk
   try dsimp only
   unfold Zgt
   rw [br_t (dec_t (by omega)),chk_t (Zar ⟨by omega,by rw [List.length_map];omega⟩),chk_t (Za3a (by simp [Zol];omega) (by simp [Zol];omega)),gt_at hr',show (readT r).1=r.var from rfl]
   rw [i64w (x:=r.var+(k:Int)) (by omega),i64w (x:=(k:Int)+1) (by omega),Zz0]
   rfl
  ·try dsimp only
   unfold Zgt
   rw [br_f (dec_f (by omega))]
   rfl
 show Zhf Zdx (memT m) (i:Int)=_
 unfold Zhf
 rw [br_f (dec_f (by omega)),selN,br_f (dec_f (by simp only [memT,List.length_map,Int.ofNat_eq_natCast];omega))]
 exact (bnd_s hL).trans rfl
theorem var1_is {l:Int} (h:0≤l∧l≤1000000) {u:Nat} (hu:l / 2=(u:Int)):Zcv (l,())=some ((u:Int),()):=by
 show Zhw l=_
 unfold Zhw
 rw [Int.tdiv_eq_ediv_of_nonneg h.1,hu,i64w (by omega)]
 rfl
def gtI (L:List Int) (i:Int):Int:=gt (.int .i64) L i
theorem Za1w {L:List Int} {i:Nat} {x:Int} (h:L[i]?=some x):gtI L (i:Int)=x:=gt_at (σ:=.int .i64) h
def n6T (x:NodeD×NodeI):Za2.T:=(x.1.rd,((x.1.mem:Int),((x.1.pos:Int),(x.2.frm,(x.2.to,())))))
theorem level_is {V:Nat} {B:Int} (x:NodeD×NodeI) (out:List Int) (hB:∀u,u≤V→lat out u≤B) (hB0:0≤B∧B≤1000000000000) (hl:out.length=V+1) (hV:V≤2000)
  (hf:∀l∈x.2.frm,0≤l∧l≤2*(V:Int)+1) (hfl:x.2.frm.length≤100000):Zal (n6T x,(out,()))=some (lvlR out x.2.nd.frm 0,()):=by
 have hfr:∀k,x.2.nd.frm.drop k=(x.2.frm.drop k).map fun l=>(l / 2).toNat:=fun k=>by unfold NodeI.nd;rw [List.map_drop]
 have hL:=Za80 (B:=fun d=>Zij Zcv d.1 d.2.1 d.2.2.1 d.2.2.2.1 d.2.2.2.2.1 d.2.2.2.2.2.1 d.2.2.2.2.2.2.1 d.2.2.2.2.2.2.2.1)
  (I:=fun d:TL Zbf.σs=>∃(k:Nat) (n:Int),d=(out,(n,((k:Int),n6T x)))∧k≤x.2.frm.length∧0≤n∧n≤B∧lvlR out (x.2.nd.frm.drop k) n=lvlR out x.2.nd.frm 0)
  (Q:=fun o:Out Zbc=>(o=.inl ((-1:Int),())∧lvlR out x.2.nd.frm 0 = -1)∨∃n:Int,o=.inr (n,())∧n≤B∧0≤n∧lvlR out x.2.nd.frm 0=n+1)
  (μ:=fun d=>x.2.frm.length - d.2.2.1.toNat) ?_ NN (out,((0:Int),((0:Int),n6T x))) ⟨0,0,rfl,by omega,by omega,hB0.1,by rw [List.drop_zero]⟩ (Ze8 (by show _ - _≤_;omega))
 ·obtain ⟨o,ho,hcase⟩:=hL
  have ho':Zfs (out,((0:Int),((0:Int),n6T x)))=some o:=ho
  rcases hcase with ⟨rfl,h⟩ | ⟨n,rfl,hn,hn0,h⟩
  ·rw [h];exact Zba ho' rfl
  ·rw [h]
   have e:∀a b:Int,a=b→(some (a,()):Option (Int×Unit))=some (b,()):=by rintro _ _ rfl;rfl
   exact Zba ho' (e _ _ (i64w (x:=n+1) (by omega)))
 ·rintro _ ⟨k,n,rfl,hk,h0,hn,hr⟩
  by_cases hlt:k<x.2.frm.length
  ·have hg:=List.getElem?_eq_getElem hlt
   obtain ⟨a1,a2⟩:=hf _ (List.getElem_mem hlt)
   obtain ⟨u,hu⟩:=Int.eq_ofNat_of_zero_le (show 0≤x.2.frm[k] / 2 by omega)
   have huV:u≤V:=by omega
   have hlu:out[u]?=some (lat out u):=by
    unfold lat
    rw [List.getD_eq_getElem?_getD,List.getElem?_eq_getElem (by omega)];rfl
   have e1:=var1_is (l:=x.2.frm[k]) ⟨a1,by omega⟩ hu
   have hdrop:x.2.nd.frm.drop k=u :: x.2.nd.frm.drop (k+1):=by
    rw [hfr,hfr,List.drop_eq_getElem_cons hlt,List.map_cons,hu];rfl
   rw [hdrop,lvlR] at hr
   by_cases hneg:lat out u<0
   ·left
    rw [if_pos hneg] at hr
    refine ⟨.inl ((-1:Int),()),?_,.inl ⟨rfl,hr.symm⟩⟩
    refine br_tt (dec_t (show (k:Int)<((x.2.frm.length:Nat):Int) by omega)) (Zaj (Zar ⟨show (0:Int)≤(k:Int) by omega,by show (k:Int)<((x.2.frm.length:Nat):Int);omega⟩) ?_)
    refine (bnd_s (show Zcv (gt (.int .i64) x.2.frm (k:Int),())=some ((u:Int),()) by rw [gt_at (σ:=.int .i64) hg];exact e1)).trans ?_
    refine Zaj (Zar ⟨show (0:Int)≤(u:Int) by omega,by rw [hl];show (u:Int)<_;omega⟩) (br_tt (dec_t (show gtI out (u:Int)<(0:Int) by rw [Za1w hlu];exact hneg)) rfl)
   ·right
    rw [if_neg hneg] at hr
    have hBu:=hB u huV
    refine ⟨(out,((max n (lat out u):Int),(((k+1:Nat):Int),n6T x))),?_,⟨k+1,max n (lat out u),rfl,by omega,by omega,by omega,hr⟩,?_⟩
    ·refine br_tt (dec_t (show (k:Int)<((x.2.frm.length:Nat):Int) by omega)) (Zaj (Zar ⟨show (0:Int)≤(k:Int) by omega,by show (k:Int)<((x.2.frm.length:Nat):Int);omega⟩) ?_)
     refine (bnd_s (show Zcv (gt (.int .i64) x.2.frm (k:Int),())=some ((u:Int),()) by rw [gt_at (σ:=.int .i64) hg];exact e1)).trans ?_
     refine Zaj (Zar ⟨show (0:Int)≤(u:Int) by omega,by rw [hl];show (u:Int)<_;omega⟩) (br_ff (dec_f (show ¬gtI out (u:Int)<(0:Int) by rw [Za1w hlu];exact hneg)) ?_)
     have e:∀a b a' b':Int,a=a'→b=b'→(some (.inl (out,(a,(b,n6T x)))):Option (TL Zbf.σs⊕Out Zbc))=some (.inl (out,(a',(b',n6T x)))):=by rintro _ _ _ _ rfl rfl;rfl
     refine e _ _ _ _ ?_ (i64w (x:=(k:Int)+1) (by omega))
     show selI (decide (n<gtI out (u:Int))) (gtI out (u:Int)) n=_
     rw [Za1w hlu]
     unfold selI
     split
     ·rename_i q;have q:=of_decide_eq_true q;show lat out u=_;omega
     ·rename_i q;have q:=of_decide_eq_false q;show n=_;have q:¬n<lat out u:=q;omega
    ·show x.2.frm.length - ((k+1:Nat):Int).toNat<x.2.frm.length - (k:Int).toNat
     omega
  ·left
   have hnil:x.2.nd.frm.drop k=[]:=by rw [hfr,List.drop_eq_nil_of_le (by omega)];rfl
   rw [hnil,lvlR] at hr
   exact ⟨.inr (n,()),br_ff (dec_f (show ¬(k:Int)<((x.2.frm.length:Nat):Int) by omega)) rfl,.inr ⟨n,rfl,hn,h0,hr.symm⟩⟩
theorem Za63 (l:List Int) (vs ws:List Nat) (x:Int):Zd0 l (vs++ws) x=Zd0 (Zd0 l vs x) ws x:=by simp [Zd0,List.foldl_append]
theorem Zwz {l:List Int} {x B:Int} (hx:x≤B):∀(vs:List Nat) {l:List Int},(∀u,lat l u≤B)→∀u,lat (Zd0 l vs x) u≤B
 | [],l,h,u=>h u
 | v :: vs,l,h,u=>by
  have:Zd0 l (v :: vs) x=Zd0 (l.set v x) vs x:=rfl
  rw [this]
  refine Zwz (l:=l) hx vs (fun u=>?_) u
  rw [Za88]
  split
  ·exact hx
  ·exact h u
theorem Zyk {out:List Int} {B:Int} (hB:∀u,lat out u≤B):∀(us:List Nat) (n:Int),n≤B→0≤B→lvlR out us n≤B+1
 | [],n,h,h0=>by rw [lvlR];omega
 | u :: us,n,h,h0=>by
  rw [lvlR]
  split
  ·omega
  ·exact Zyk hB us _ (by have:=hB u;omega) h0
structure N6 (N:List (NodeD×NodeI)) (V:Nat):Prop where
 v2:V≤2000
 len:N.length≤3000
 to:∀x∈N,x.2.to.length≤100000∧∀v∈x.2.to,0≤v∧v≤(V:Int)
 frm:∀x∈N,x.2.frm.length≤100000∧∀l∈x.2.frm,0≤l∧l≤2*(V:Int)+1
theorem l9_is {N:List (NodeD×NodeI)} {V:Nat} (h6:N6 N V) {i:Nat} {x:NodeD×NodeI} (hx:N[i]?=some x) (out:List Int) (hl:out.length=V+1) :
  Zcq (N.map n6T,((i:Int),((0:Int),(out,()))))=some (N.map n6T,((i:Int),(Zd0 out x.2.nd.to (-1),()))):=by
 have hx':(N.map n6T)[i]?=some (n6T x):=by rw [List.getElem?_map,hx];rfl
 have hi:=Zhb hx'
 obtain ⟨h1,h2⟩:=h6.to x (List.mem_of_getElem? hx)
 unfold Zcq;delta u4
 refine Zif (fun k:Nat=>(N.map n6T,((i:Int),((k:Int),(Zd0 out ((x.2.to.take k).map Int.toNat) (-1),()))))) x.2.to.length rfl ?_ ?_ (Ze8 (by omega))
 ·intro k hk
  have hv:=List.getElem?_eq_getElem hk
  obtain ⟨v0,v1⟩:=h2 _ (List.getElem_mem hk)
  obtain ⟨v,hv2⟩:=Int.eq_ofNat_of_zero_le v0
  rw [hv2] at hv v1
  try dsimp only
  unfold Zfh
  rw [chk_t (Zar ⟨by omega,by omega⟩),gt_at hx']
  refine br_tt (dec_t (show (k:Int)<((x.2.to.length:Nat):Int) by omega)) (Zaj (Zar ⟨by omega,by omega⟩) (Zaj (Zar ⟨show (0:Int)≤(k:Int) by omega,show (k:Int)<((x.2.to.length:Nat):Int) by omega⟩) ?_))
  have hg:gtI x.2.to (k:Int)=(v:Int):=Za1w hv
  refine Zaj (show inb (gtI x.2.to (k:Int)) (List.length (Zd0 out ((x.2.to.take k).map Int.toNat) (-1)))=true by rw [hg];exact Zar ⟨by omega,by rw [Zdo,hl];omega⟩) ?_
  have e:∀(a a':Int) (b b':List Int),a=a'→b=b'→(some (.inl (N.map n6T,((i:Int),(a,(b,()))))):Option (TL Zax.σs⊕Out Zat))=some (.inl (N.map n6T,((i:Int),(a',(b',()))))):=by rintro _ _ _ _ rfl rfl;rfl
  refine e _ _ _ _ (i64w (x:=(k:Int)+1) (by omega)) ?_
  rw [Zd8 hv,List.map_append,List.map_cons,List.map_nil,Zmu]
  show List.set (Zd0 out ((x.2.to.take k).map Int.toNat) (-1)) (gtI x.2.to (k:Int)).toNat (-1)=_
  rw [hg]
 ·try dsimp only
  unfold Zfh
  rw [chk_t (Zar ⟨by omega,by omega⟩),gt_at hx']
  refine br_ff (dec_f (show ¬((x.2.to.length:Nat):Int)<((x.2.to.length:Nat):Int) by omega)) ?_
  rw [List.take_length]
  rfl
theorem l24_is {N:List (NodeD×NodeI)} {V:Nat} (h6:N6 N V) {i:Nat} {x:NodeD×NodeI} (hx:N[i]?=some x) (a b c:Int) (out:List Int) (hl:out.length=V+1) :
  Zb6 (N.map n6T,(a,(b,((i:Int),(c,((0:Int),(out,())))))))=some (N.map n6T,(a,(b,((i:Int),(Zd0 out x.2.nd.to c,()))))):=by
 have hx':(N.map n6T)[i]?=some (n6T x):=by rw [List.getElem?_map,hx];rfl
 have hi:=Zhb hx'
 obtain ⟨h1,h2⟩:=h6.to x (List.mem_of_getElem? hx)
 unfold Zb6;delta u7
 refine Zif (fun k:Nat=>(N.map n6T,(a,(b,((i:Int),(c,((k:Int),(Zd0 out ((x.2.to.take k).map Int.toNat) c,())))))))) x.2.to.length rfl ?_ ?_ (Ze8 (by omega))
 ·intro k hk
  have hv:=List.getElem?_eq_getElem hk
  obtain ⟨v0,v1⟩:=h2 _ (List.getElem_mem hk)
  obtain ⟨v,hv2⟩:=Int.eq_ofNat_of_zero_le v0
  rw [hv2] at hv v1
  try dsimp only
  unfold Zf4
  rw [chk_t (Zar ⟨by omega,by omega⟩),gt_at hx']
  refine br_tt (dec_t (show (k:Int)<((x.2.to.length:Nat):Int) by omega)) (Zaj (Zar ⟨by omega,by omega⟩) (Zaj (Zar ⟨show (0:Int)≤(k:Int) by omega,show (k:Int)<((x.2.to.length:Nat):Int) by omega⟩) ?_))
  have hg:gtI x.2.to (k:Int)=(v:Int):=Za1w hv
  refine Zaj (show inb (gtI x.2.to (k:Int)) (List.length (Zd0 out ((x.2.to.take k).map Int.toNat) c))=true by rw [hg];exact Zar ⟨by omega,by rw [Zdo,hl];omega⟩) ?_
  have e:∀(p p':Int) (q q':List Int),p=p'→q=q'→(some (.inl (N.map n6T,(a,(b,((i:Int),(c,(p,(q,())))))))):Option (TL Zah.σs⊕Out Zag))=some (.inl (N.map n6T,(a,(b,((i:Int),(c,(p',(q',())))))))):=by rintro _ _ _ _ rfl rfl;rfl
  refine e _ _ _ _ (i64w (x:=(k:Int)+1) (by omega)) ?_
  rw [Zd8 hv,List.map_append,List.map_cons,List.map_nil,Zmu]
  show List.set (Zd0 out ((x.2.to.take k).map Int.toNat) c) (gtI x.2.to (k:Int)).toNat c=_
  rw [hg]
 ·try dsimp only
  unfold Zf4
  rw [chk_t (Zar ⟨by omega,by omega⟩),gt_at hx']
  refine br_ff (dec_f (show ¬((x.2.to.length:Nat):Int)<((x.2.to.length:Nat):Int) by omega)) ?_
  rw [List.take_length]
  rfl
theorem l6_is {N:List (NodeD×NodeI)} {V:Nat} (h6:N6 N V) (out:List Int) (hl:out.length=V+1) :
  Zdh (N.map n6T,((0:Int),(out,())))=some (N.map n6T,(Zd0 out ((N.map (·.2.nd)).flatMap (·.to)) (-1),())):=by
 have hn:=h6.len
 unfold Zdh;delta u3
 refine Zif (fun i:Nat=>(N.map n6T,((i:Int),(Zd0 out (((N.take i).map (·.2.nd)).flatMap (·.to)) (-1),())))) N.length rfl ?_ ?_ (Ze8 (by omega))
 ·intro i hi
  have hx:=List.getElem?_eq_getElem hi
  try dsimp only
  unfold Zfi
  refine br_tt (dec_t (show (i:Int)<(((N.map n6T).length:Nat):Int) by rw [List.length_map];omega)) ((bnd_s (l9_is h6 hx _ (by rw [Zdo,hl]))).trans ?_)
  have e:∀(p p':Int) (q q':List Int),p=p'→q=q'→(some (.inl (N.map n6T,(p,(q,())))):Option (TL Zbt.σs⊕Out Zbj))=some (.inl (N.map n6T,(p',(q',())))):=by rintro _ _ _ _ rfl rfl;rfl
  refine e _ _ _ _ (i64w (x:=(i:Int)+1) (by omega)) ?_
  rw [Zd8 hx,List.map_append,List.flatMap_append,Za63]
  simp
 ·try dsimp only
  unfold Zfi
  refine br_ff (dec_f (show ¬((N.length:Nat):Int)<(((N.map n6T).length:Nat):Int) by rw [List.length_map];omega)) ?_
  rw [List.take_length]
  rfl
theorem Za39 (M:List Nd) (x:Nd) (out:List Int):Zl2 (M++[x]) out=stepR (Zl2 M out) x:=by unfold Zl2;rw [List.foldl_append];rfl
theorem Zqd:∀(M:List Nd) (out:List Int),(Zl2 M out).length=out.length
 | [],out=>rfl
 | x :: M,out=>by show (Zl2 M (stepR out x)).length=_;rw [Zqd M,Zun]
theorem Zyn (x:Nd):∀(M:List Nd) (out:List Int),leftR (M++[x]) out=leftR M out+(if lvlR (Zl2 M out) x.frm 0<0 then 1 else 0)
 | [],out=>by show (if lvlR out x.frm 0<0 then 1 else 0)+0=0+_;rw [Nat.zero_add];rfl
 | y :: M,out=>by
  show (if lvlR out y.frm 0<0 then 1 else 0)+leftR (M++[x]) (stepR out y)=_
  rw [Zyn x M (stepR out y)]
  show _=(if lvlR out y.frm 0<0 then 1 else 0)+leftR M (stepR out y)+_
  rw [Nat.add_assoc]
  rfl
theorem Zzw:∀(M:List Nd) (out:List Int),leftR M out≤M.length
 | [],out=>Nat.le_refl _
 | y :: M,out=>by
  have:=Zzw M (stepR out y)
  show (if lvlR out y.frm 0<0 then 1 else 0)+leftR M (stepR out y)≤M.length+1
  split<;>omega
theorem Zsl:∀(M:List Nd) {out:List Int} {B:Int},0≤B→(∀u,lat out u≤B)→∀u,lat (Zl2 M out) u≤B+(M.length:Int)
 | [],out,B,h0,h,u=>by have:=h u;show lat out u≤B+((0:Nat):Int);omega
 | y :: M,out,B,h0,h,u=>by
  have h1:∀u,lat (stepR out y) u≤B+1:=Zwz (l:=out) (Zyk h y.frm 0 h0 h0) y.to (fun u=>by have:=h u;omega)
  have:=Zsl M (out:=stepR out y) (B:=B+1) (by omega) h1 u
  show lat (Zl2 M (stepR out y)) u≤B+((M.length+1:Nat):Int)
  omega
theorem l18_is {N:List (NodeD×NodeI)} {V:Nat} (h6:N6 N V) {B:Int} (r:Int) (out:List Int) (hl:out.length=V+1) (hB:∀u,lat out u≤B) (hB0:0≤B∧B≤900000000000) :
  Zcc (N.map n6T,((0:Int),(r,((0:Int),(out,())))))=some (N.map n6T,((leftR (N.map (·.2.nd)) out:Int),(r,(Zl2 (N.map (·.2.nd)) out,())))):=by
 have hn:=h6.len
 unfold Zcc;delta u5
 refine Zif (fun i:Nat=>(N.map n6T,((leftR ((N.take i).map (·.2.nd)) out:Int),(r,((i:Int),(Zl2 ((N.take i).map (·.2.nd)) out,())))))) N.length rfl ?_ ?_ (Ze8 (by omega))
 ·intro i hi
  have hx:=List.getElem?_eq_getElem hi
  have hx':(N.map n6T)[i]?=some (n6T N[i]):=by rw [List.getElem?_map,hx];rfl
  obtain ⟨f1,f2⟩:=h6.frm _ (List.getElem_mem hi)
  have hlen:((N.take i).map (fun x:NodeD×NodeI=>x.2.nd)).length≤3000:=by rw [List.length_map,List.length_take];omega
  have hle:=Zzw ((N.take i).map (fun x:NodeD×NodeI=>x.2.nd)) out
  have hb:=Zsl ((N.take i).map (fun x:NodeD×NodeI=>x.2.nd)) hB0.1 hB
  have hrl:(Zl2 ((N.take i).map (fun x:NodeD×NodeI=>x.2.nd)) out).length=V+1:=by rw [Zqd,hl]
  have e1:=level_is (V:=V) (B:=B+(((N.take i).map (fun x:NodeD×NodeI=>x.2.nd)).length:Int)) N[i] _ (fun u _=>hb u) ⟨by omega,by omega⟩ hrl h6.v2 f2 f1
  try dsimp only
  unfold Zf5
  refine br_tt (dec_t (show (i:Int)<(((N.map n6T).length:Nat):Int) by rw [List.length_map];omega)) (Zaj (Zar ⟨by omega,by rw [List.length_map];omega⟩) ?_)
  rw [gt_at hx']
  refine (bnd_s e1).trans ?_
  have e:∀(p p' q q':Int) (s s':List Int),p=p'→q=q'→s=s'→(some (.inl (N.map n6T,(p,(r,(q,(s,())))))):Option (TL Zau.σs⊕Out Zap))=some (.inl (N.map n6T,(p',(r,(q',(s',())))))):=by rintro _ _ _ _ _ _ rfl rfl rfl;rfl
  have hs:Zl2 ((N.take (i+1)).map (fun x:NodeD×NodeI=>x.2.nd)) out=Zd0 (Zl2 ((N.take i).map (fun x:NodeD×NodeI=>x.2.nd)) out) N[i].2.nd.to (lvlR (Zl2 ((N.take i).map (fun x:NodeD×NodeI=>x.2.nd)) out) N[i].2.nd.frm 0):=by
   rw [Zd8 hx,List.map_append]
   exact Za39 _ _ _
  have hc:leftR ((N.take (i+1)).map (fun x:NodeD×NodeI=>x.2.nd)) out=leftR ((N.take i).map (fun x:NodeD×NodeI=>x.2.nd)) out+(if lvlR (Zl2 ((N.take i).map (fun x:NodeD×NodeI=>x.2.nd)) out) N[i].2.nd.frm 0<0 then 1 else 0):=by
   rw [Zd8 hx,List.map_append]
   exact Zyn _ _ _
  rw [hs,hc]
  by_cases hneg:lvlR (Zl2 ((N.take i).map (fun x:NodeD×NodeI=>x.2.nd)) out) N[i].2.nd.frm 0<0
  ·rw [if_pos hneg]
   refine br_tt (dec_t hneg) ((bnd_s (l24_is h6 hx _ r _ _ hrl)).trans ?_)
   exact e _ _ _ _ _ _ ((i64w (x:=((leftR ((N.take i).map (fun x:NodeD×NodeI=>x.2.nd)) out:Nat):Int)+1) (by omega)).trans (by omega)) (i64w (x:=(i:Int)+1) (by omega)) rfl
  ·rw [if_neg hneg]
   refine br_ff (dec_f hneg) ((bnd_s (l24_is h6 hx _ r _ _ hrl)).trans ?_)
   exact e _ _ _ _ _ _ rfl (i64w (x:=(i:Int)+1) (by omega)) rfl
 ·try dsimp only
  unfold Zf5
  refine br_ff (dec_f (show ¬((N.length:Nat):Int)<(((N.map n6T).length:Nat):Int) by rw [List.length_map];omega)) ?_
  rw [List.take_length]
  rfl
theorem Zy8 (M:List Nd) (out:List Int):∀r,(Zid M r out).length=out.length
 | 0=>rfl
 | r+1=>by rw [Zid,Zqd,Zy8 M out r]
theorem Zuq (M:List Nd) {out:List Int} (h:∀u,lat out u≤0):∀r u,lat (Zid M r out) u≤(r:Int)*(M.length:Int)
 | 0,u=>by have:=h u;show lat out u≤((0:Nat):Int)*_;omega
 | r+1,u=>by
  have h1:=Zsl M (out:=Zid M r out) (B:=(r:Int)*(M.length:Int)) (Int.mul_nonneg (by omega) (by omega)) (Zuq M h r) u
  rw [Zid]
  have:((r+1:Nat):Int)*(M.length:Int)=(r:Int)*(M.length:Int)+(M.length:Int):=by
   rw [Int.natCast_add,Int.add_mul];simp
  omega
theorem l14_is {N:List (NodeD×NodeI)} {V:Nat} (h6:N6 N V) (out:List Int) (hl:out.length=V+1) (hB:∀u,lat out u≤0) :
  Zde (N.map n6T,((0:Int),((0:Int),(out,()))))=some ((leftR (N.map (fun x:NodeD×NodeI=>x.2.nd)) (Zid (N.map (fun x:NodeD×NodeI=>x.2.nd)) N.length out):Int),(Zid (N.map (fun x:NodeD×NodeI=>x.2.nd)) (N.length+1) out,())):=by
 have hn:=h6.len
 unfold Zde;delta u4
 refine Zif (fun r:Nat=>(N.map n6T,((match r with | 0=>(0:Int) | r+1=>(leftR (N.map (fun x:NodeD×NodeI=>x.2.nd)) (Zid (N.map (fun x:NodeD×NodeI=>x.2.nd)) r out):Int)),((r:Int),(Zid (N.map (fun x:NodeD×NodeI=>x.2.nd)) r out,()))))) (N.length+1) rfl ?_ ?_ (Ze8 (by omega))
 ·intro r hr
  have hb:=Zuq (N.map (fun x:NodeD×NodeI=>x.2.nd)) hB r
  have hm:(r:Int)*((N.map (fun x:NodeD×NodeI=>x.2.nd)).length:Int)≤3000*3000:=by
   rw [List.length_map]
   exact Int.mul_le_mul (by omega) (by omega) (by omega) (by omega)
  have h0:0≤(r:Int)*((N.map (fun x:NodeD×NodeI=>x.2.nd)).length:Int):=Int.mul_nonneg (by omega) (by omega)
  have e1:=l18_is h6 (r:Int) (Zid (N.map (fun x:NodeD×NodeI=>x.2.nd)) r out) (by rw [Zy8,hl]) hb ⟨h0,by omega⟩
  try dsimp only
  unfold Zf6
  refine br_tt (dec_t (show (r:Int)≤(((N.map n6T).length:Nat):Int) by rw [List.length_map];omega)) ((bnd_s e1).trans ?_)
  have e:∀(p q q':Int) (s:List Int),q=q'→(some (.inl (N.map n6T,(p,(q,(s,()))))):Option (TL Zbk.σs⊕Out Zbd))=some (.inl (N.map n6T,(p,(q',(s,()))))):=by rintro _ _ _ _ rfl;rfl
  exact e _ _ _ _ (i64w (x:=(r:Int)+1) (by omega))
 ·try dsimp only
  unfold Zf6
  refine br_ff (dec_f (show ¬((N.length+1:Nat):Int)≤(((N.map n6T).length:Nat):Int) by rw [List.length_map];omega)) ?_
  rfl
def nt {α:Type} (n:NetD) (r:α):Int×List Int×List Za0.T×List Int×List Int×List Int×List Za1.T×List Za0.T×α:=
 (n.vars,(n.inputs,(n.latches.map latT,(n.outputs,(n.bads,(n.constraints,(n.mems.map memT,(n.ands.map andT,r))))))))
abbrev W4:=List Int×List Za4.T×List Int×List Int×Unit
def w4 (of:List Int) (nd:List NodeD) (m lv:List Int):W4:=(of,(nd.map nodeT,(m,(lv,()))))
def ndsA (k:Nat):List NodeD:=(List.range k).map fun i=>⟨false,0,i⟩
theorem Za1b (k:Nat):ndsA (k+1)=ndsA k++[⟨false,0,k⟩]:=by unfold ndsA;rw [List.range_succ,List.map_append];rfl
theorem Zmx (k:Nat):(ndsA k).length=k:=by simp [ndsA]
theorem walk3 (n:NetD) (of m lv:List Int) (hA:n.ands.length≤2000):Zj2 ((n.ands.length:Int),((0:Int),nt n (nt n (w4 of [] m lv))))=some (nt n (nt n (w4 of (ndsA n.ands.length) m lv))):=by
 unfold Zj2;delta u22
 refine Zyl (fun k:Nat=>((n.ands.length:Int),((k:Int),nt n (nt n (w4 of (ndsA k) m lv))))) n.ands.length ?_ ?_ NN (Ze8 (by omega))
 ·intro k hk
  unfold nt w4
  try dsimp only
  unfold Zob
  refine br_tt (dec_t (by omega)) (Zaj (Zsm (L:=(ndsA k).map nodeT) (by rw [List.length_map,Zmx];omega) (by decide)) ?_)
  rw [i64w (x:=(k:Int)+1) (by omega),Za1b,List.map_append]
  rfl
 ·unfold nt w4
  try dsimp only
  unfold Zob
  rw [br_f (dec_f (by omega))]
  rfl
def rdN (j k:Nat):List NodeD:=(List.range k).map fun i=>⟨true,j,i⟩
theorem Za4n (j k:Nat):rdN j (k+1)=rdN j k++[⟨true,j,k⟩]:=by unfold rdN;rw [List.range_succ,List.map_append];rfl
theorem Zu0 (j k:Nat):(rdN j k).length=k:=by simp [rdN]
theorem walk11 (n:NetD) (of m lv:List Int) (j M R:Nat) (pre:List NodeD) (hj:j≤4) (hM:M≤4) (hR:R≤4) (hp:pre.length≤3000) :
  Zh5 ((j:Int),((M:Int),((j:Int),((R:Int),((0:Int),nt n (nt n (w4 of pre m lv)))))))=some ((M:Int),((j:Int),nt n (nt n (w4 of (pre++rdN j R) m lv)))):=by
 unfold Zh5
 refine Zif (fun k:Nat=>((j:Int),((M:Int),((j:Int),((R:Int),((k:Int),nt n (nt n (w4 (of) (pre++rdN j k) m lv)))))))) R (by rw [show rdN j 0=[] from rfl,List.append_nil];rfl) ?_ ?_ (Ze8 (by omega))
 ·intro k hk
  unfold nt w4
  try dsimp only
  unfold Zma
  refine br_tt (dec_t (by omega)) (Zaj (Zsm (L:=(pre++rdN j k).map nodeT) (by rw [List.length_map,List.length_append,Zu0];omega) (by decide)) ?_)
  rw [i64w (x:=(k:Int)+1) (by omega),Za4n,←List.append_assoc,List.map_append (l₁:=pre++rdN j k)]
  rfl
 ·unfold nt w4
  try dsimp only
  unfold Zma
  rw [br_f (dec_f (by omega))]
  rfl
theorem Zu5 (k:Nat):∀(l:List MemD) (m:MemD),memsN k (l++[m])=memsN k l++Pl.readN (k+l.length) m
 | [],m=>by simp [memsN]
 | x :: l,m=>by
  rw [List.cons_append,memsN,memsN,Zu5 (k+1) l m,List.append_assoc,List.length_cons,show k+1+l.length=k+(l.length+1) by omega]
theorem walk8 (n:NetD) (of m lv:List Int) (hA:n.ands.length≤2000) (hM:n.mems.length≤4) (hR:∀M∈n.mems,M.reads.length≤4) :
  Zj1 ((n.mems.length:Int),((0:Int),nt n (nt n (w4 of (ndsA n.ands.length) m lv))))=some (nt n (w4 of (Zha n) m lv)):=by
 have hlen:∀k,k≤n.mems.length→(ndsA n.ands.length++memsN 0 (n.mems.take k)).length≤3000:=by
  intro k hk
  rw [List.length_append,Zmx,Zlt]
  have:=Za05 memI (n.mems.take k) 4 (fun M hM=>by unfold memI;rw [List.length_map];exact hR M (List.mem_of_mem_take hM))
  have h2:(n.mems.take k).length≤4:=by rw [List.length_take];omega
  omega
 unfold Zj1;delta u22
 refine Zif (fun k:Nat=>((n.mems.length:Int),((k:Int),nt n (nt n (w4 of (ndsA n.ands.length++memsN 0 (n.mems.take k)) m lv))))) n.mems.length (by rw [List.take_zero,show memsN 0 []=[] from rfl,List.append_nil];rfl) ?_ ?_ (Ze8 (by omega))
 ·intro k hk
  have hMk:=List.getElem?_eq_getElem hk
  have hMk':(n.mems.map memT)[k]?=some (memT n.mems[k]):=by rw [List.getElem?_map,hMk];rfl
  have hrk:=hR _ (List.getElem_mem hk)
  unfold nt w4
  try dsimp only
  unfold Zoa
  rw [br_t (dec_t (by omega)),chk_t (Zar ⟨by omega,by rw [List.length_map];omega⟩),gt_at hMk']
  have e:=walk11 n of m lv k n.mems.length n.mems[k].reads.length _ (by omega) hM hrk (hlen k (by omega))
  have hl:List.length (memT n.mems[k]).2.2.2.1=n.mems[k].reads.length:=List.length_map _
  rw [hl]
  refine (bnd_s e).trans ?_
  have e2:ndsA n.ands.length++memsN 0 (n.mems.take (k+1))=ndsA n.ands.length++memsN 0 (n.mems.take k)++rdN k n.mems[k].reads.length:=by
   rw [Zd8 hMk,Zu5,List.append_assoc,List.length_take,Nat.min_eq_left (by omega),Nat.zero_add];rfl
  rw [e2]
  have hw:=i64w (x:=(k:Int)+1) (by omega)
  show some (Sum.inl (_,(IntKind.wrap (.i64:IntKind) ((k:Int)+1),_)))=_
  rw [hw]
  rfl
 ·unfold nt w4
  try dsimp only
  unfold Zoa
  rw [br_f (dec_f (by omega)),List.take_length]
  rfl
theorem walk20 (n:NetD) (V:Nat) (of m lv vs:List Int) (nd:List NodeD) (a b:Int) (k:Nat) (hk:k≤3000) (hln:vs.length≤100000) (hvs:∀v∈vs,0≤v∧v≤(V:Int)) (hof:of.length=V+1) :
  Zh4 ((k:Int),(a,(b,(vs,((vs.length:Int),((0:Int),nt n (w4 of nd m lv)))))))=some (a,(b,nt n (w4 (Zd0 of (vs.map Int.toNat) ((k:Int)+1)) nd m lv))):=by
 unfold Zh4;delta u18
 refine Zif (fun j:Nat=>((k:Int),(a,(b,(vs,((vs.length:Int),((j:Int),nt n (w4 (Zd0 of ((vs.take j).map Int.toNat) ((k:Int)+1)) nd m lv)))))))) vs.length rfl ?_ ?_ (Ze8 (by omega))
 ·intro j hj
  have hv:=List.getElem?_eq_getElem hj
  obtain ⟨h0,h1⟩:=hvs _ (List.getElem_mem hj)
  obtain ⟨v,hv2⟩:=Int.eq_ofNat_of_zero_le h0
  rw [hv2] at hv h1
  unfold nt w4
  try dsimp only
  unfold Zm8
  rw [br_t (dec_t (by omega)),chk_t (Zar ⟨by omega,by omega⟩),gt_at (σ:=.int .i64) hv,chk_t (Zar ⟨by omega,by rw [Zdo,hof];omega⟩),i64w (x:=(j:Int)+1) (by omega),i64w (x:=(k:Int)+1) (by omega)]
  rw [Zd8 hv,List.map_append,List.map_cons,List.map_nil,Zmu]
  rfl
 ·unfold nt w4
  try dsimp only
  unfold Zm8
  rw [br_f (dec_f (by omega)),List.take_length]
  rfl
theorem walk17 {n:NetD} {V:Nat} (hs:Snd n V) (ft:Fit n) (m lv:List Int):Zi8 (((Zha n).length:Int),((0:Int),nt n (w4 (List.replicate (V+1) 0) (Zha n) m lv)))=some (wk n V m lv):=by
 have hnl:=Zwu hs
 have hV2:=hs.v2
 have hnl2:(Zha n).length=(ndL n).length:=by rw [Zuw];unfold ndL;rw [List.length_map]
 have hmw:∀M∈n.mems,0≤M.word:=fun M hM=>by have:=hs.mems M hM;omega
 unfold Zi8;delta u14
 refine Zif (fun k:Nat=>(((Zha n).length:Int),((k:Int),nt n (w4 (ofU (ndL n) V k) (Zha n) m lv)))) (Zha n).length rfl ?_ ?_ (Ze8 (by omega))
 ·intro k hk
  have hxd:=List.getElem?_eq_getElem hk
  obtain ⟨y,hy1,hy2⟩:=Za4z n hxd
  have hy:=List.mem_of_getElem? hy1
  have hx:(ndL n)[k]?=some y.nd:=by rw [Za7q,hy1];rfl
  have hxd':((Zha n).map nodeT)[k]?=some (nodeT (Zha n)[k]):=by rw [List.getElem?_map,hxd];rfl
  have hvs:∀u∈y.to,0≤u∧u≤(V:Int):=fun u hu=>by have:=hs.toRng hy hu;omega
  have hlens:=Ztg hs hy
  have e1:=to_is (of:=ofU (ndL n) V k) (m:=m) (lv:=lv) (nd:=Zha n) hy2 ft hmw
  have e2:=walk20 n V (ofU (ndL n) V k) m lv y.to (Zha n) ((Zha n).length:Int) (k:Int) k (by omega) (by omega) hvs (Zrv _ _ _)
  unfold nt w4
  try dsimp only
  unfold Zm9
  refine br_tt (dec_t (by omega)) (Zaj (Zar ⟨by omega,by rw [List.length_map];omega⟩) ?_)
  rw [gt_at hxd']
  refine Zba e1 (Zba e2 ?_)
  rw [Za4v hx]
  have hw:=i64w (x:=(k:Int)+1) (by omega)
  show some (Sum.inl (_,(IntKind.wrap (.i64:IntKind) ((k:Int)+1),_)))=_
  rw [hw]
  rfl
 ·unfold nt w4
  try dsimp only
  unfold Zm9
  rw [br_f (dec_f (by omega)),hnl2]
  rfl
theorem Zba1 {n:NetD} {V:Nat} (hs:Snd n V) (ft:Fit n):Zo9 (nt n ())=some (wk n V (List.replicate (V+1) 0) (List.replicate (V+1) 0)):=by
 have hV2:=hs.v2
 have hvars:=hs.vars
 have e3:=walk3 n (List.replicate (V+1) 0) (List.replicate (V+1) 0) (List.replicate (V+1) 0) hs.lens.2.2.1
 have e8:=walk8 n (List.replicate (V+1) 0) (List.replicate (V+1) 0) (List.replicate (V+1) 0) hs.lens.2.2.1 hs.lens.2.2.2.2 (fun M hM=>(hs.mems M hM).2.2.2.2.2.2.1)
 have e17:=walk17 hs ft (List.replicate (V+1) 0) (List.replicate (V+1) 0)
 have hw:IntKind.wrap (.i64:IntKind) (n.vars+1)=((V+1:Nat):Int):=by rw [hvars,i64w (by omega)];omega
 show Zq4 Zaf Zj2 Zj1 Zh5 Zi8 Zh4 n.vars n.inputs (n.latches.map latT) n.outputs n.bads n.constraints (n.mems.map memT) (n.ands.map andT)=_
 unfold Zq4
 rw [hw]
 have hc:∀k:Int,0≤k→k≤8→both (decide ((0:Int)≤((V+1:Nat):Int))) (both (decide (((V+1:Nat):Int)≤((V+1:Nat):Int))) (decide (k*((V+1:Nat):Int)≤281474976710656)))=true:=by
  intro k h0 h8
  rw [decide_eq_true (by omega),decide_eq_true (by omega),decide_eq_true (by
   have:k*((V+1:Nat):Int)≤8*((V+1:Nat):Int):=Int.mul_le_mul_of_nonneg_right h8 (by omega)
   omega)]
  rfl
 have e3':Zj2 (((List.map andT n.ands).length:Int),((0:Int),nt n (nt n (w4 (List.replicate (V+1) 0) [] (List.replicate (V+1) 0) (List.replicate (V+1) 0)))))=some (nt n (nt n (w4 (List.replicate (V+1) 0) (ndsA n.ands.length) (List.replicate (V+1) 0) (List.replicate (V+1) 0)))):=by
  rw [List.length_map];exact e3
 have e8':Zj1 (((List.map memT n.mems).length:Int),((0:Int),nt n (nt n (w4 (List.replicate (V+1) 0) (ndsA n.ands.length) (List.replicate (V+1) 0) (List.replicate (V+1) 0)))))=some (nt n (w4 (List.replicate (V+1) 0) (Zha n) (List.replicate (V+1) 0) (List.replicate (V+1) 0))):=by
  rw [List.length_map];exact e8
 have e17':Zi8 (((List.map nodeT (Zha n)).length:Int),((0:Int),nt n (w4 (List.replicate (V+1) 0) (Zha n) (List.replicate (V+1) 0) (List.replicate (V+1) 0))))=some (wk n V (List.replicate (V+1) 0) (List.replicate (V+1) 0)):=by
  rw [List.length_map];exact e17
 exact Zaj (hc 8 (by decide) (by decide)) (Zaj (hc 1 (by decide) (by decide)) (Zaj (hc 8 (by decide) (by decide)) (Zba e3' (Zba e8' (Zba e17' rfl)))))
theorem fresh_NN {V:Nat} {m:List Int} (h:V≤2000):fresh V m<NN:=by
 have z:∀(p:Nat→Bool) k,zc p k≤k:=by
  intro p k
  induction k with
  | zero=>exact Nat.le_refl _
  | succ k ih=>rw [zc];split<;>omega
 have:fresh V m≤V+1:=z _ _
 exact Ze8 (by omega)
theorem all_is {n:NetD} {V:Nat} (hs:Snd n V) (ft:Fit n) :
  ∃m lv,Zhj (wk n V (List.replicate (V+1) 0) (List.replicate (V+1) 0))=some (acyB (ndL n) V,wk n V m lv) ∧
   (acyB (ndL n) V=true→lv.length=V+1∧∀v,v≤V→∃k:Nat,lat lv v=(k:Int)∧Lev (ndL n) v k):=by
 have hV2:=hs.v2
 have hL:=Za80 (B:=fun d=>Zjd Zdb d.1 d.2.1 d.2.2.1 d.2.2.2.1 d.2.2.2.2.1 d.2.2.2.2.2.1 d.2.2.2.2.2.2.1 d.2.2.2.2.2.2.2.1 d.2.2.2.2.2.2.2.2.1 d.2.2.2.2.2.2.2.2.2.1 d.2.2.2.2.2.2.2.2.2.2.1 d.2.2.2.2.2.2.2.2.2.2.2.1 d.2.2.2.2.2.2.2.2.2.2.2.2.1 d.2.2.2.2.2.2.2.2.2.2.2.2.2.1)
  (I:=fun d:Int×Int×WT=>∃(k:Nat) (m lv:List Int),d=(((V+1:Nat):Int),((k:Int),wk n V m lv))∧k≤V+1∧VI (ndL n) V m lv∧(∀u,u≤V→lat m u≠1)∧(∀u,u<k→tl (ndL n) m u))
  (Q:=fun o:Out Zcr=>(∃m lv,o=.inl (false,wk n V m lv)∧∃u,u≤V∧∀k,¬Lev (ndL n) u k)∨(∃m lv,o=.inr (wk n V m lv)∧VI (ndL n) V m lv∧∀u,u<V+1→tl (ndL n) m u))
  (μ:=fun d=>V+1 - d.2.1.toNat) ?_ NN (((V+1:Nat):Int),((0:Int),wk n V (List.replicate (V+1) 0) (List.replicate (V+1) 0))) ⟨0,_,_,rfl,by omega,vi0,fun u hu=>by
   unfold lat
   rw [List.getD_eq_getElem?_getD,List.getElem?_replicate]
   split<;>simp,fun u h=>by omega⟩ (Ze8 (by omega))
 ·obtain ⟨o,ho,hcase⟩:=hL
  have hlen:((List.length (ofU (ndL n) V (ndL n).length):Nat):Int)=((V+1:Nat):Int):=by rw [Zrv]
  have ho':Zhi (((List.length (ofU (ndL n) V (ndL n).length):Nat):Int),((0:Int),wk n V (List.replicate (V+1) 0) (List.replicate (V+1) 0)))=some o:=by rw [hlen];exact ho
  rcases hcase with ⟨m,lv,rfl,u,hu,hno⟩ | ⟨m,lv,rfl,hI,hT⟩
  ·have hf:acyB (ndL n) V=false:=by
    cases h:acyB (ndL n) V
    ·rfl
    ·obtain ⟨kk,hkk⟩:=(Za0m hs.apart V).1 h u hu
     exact absurd hkk (hno kk)
   rw [hf]
   exact ⟨m,lv,Zba ho' rfl,fun h=>by cases h⟩
  ·have hl:∀v,v≤V→∃k:Nat,lat lv v=(k:Int)∧Lev (ndL n) v k:=fun v hv=>Za4g hI hv (hT v (by omega))
   have ht:acyB (ndL n) V=true:=(Za0m hs.apart V).2 fun v hv=>by obtain ⟨k,_,h⟩:=hl v hv;exact ⟨k,h⟩
   rw [ht]
   exact ⟨m,lv,Zba ho' rfl,fun _=>⟨hI.ll,hl⟩⟩
 ·rintro _ ⟨k,m,lv,rfl,hk,hI,hU,hT⟩
  by_cases hlt:k<V+1
  ·obtain ⟨b,m2,lv2,e,hp⟩:=visit_is hs ft NN m lv k hI (fun u hu h=>absurd h (hU u hu)) (by omega) (fresh_NN hV2)
   have e':Zdb ((k:Int),wk n V m lv)=some (b,wk n V m2 lv2):=e
   rcases hp with ⟨rfl,hI7,hE7,ht7⟩ | ⟨rfl,u',hu',hno⟩
   ·right
    refine ⟨_,br_tt (dec_t (show (k:Int)<((V+1:Nat):Int) by omega)) (Zba e' (br_ff rfl rfl)),⟨k+1,m2,lv2,?_,by omega,hI7,fun u hu h=>hU u hu (hE7.b u hu h),fun u hu=>?_⟩,?_⟩
    ·have e2:∀a a':Int,a=a'→(((V+1:Nat):Int),(a,wk n V m2 lv2))=(((V+1:Nat):Int),(a',wk n V m2 lv2)):=by rintro _ _ rfl;rfl
     exact e2 _ _ (i64w (x:=(k:Int)+1) (by omega))
    ·by_cases e:u=k
     ·subst e;exact ht7
     ·exact (Za31 hI hI7 hE7 (by omega) (hT u (by omega))).1
    ·show V+1 - (IntKind.wrap (.i64:IntKind) ((k:Int)+1)).toNat<V+1 - (k:Int).toNat
     rw [i64w (x:=(k:Int)+1) (by omega)]
     omega
   ·left
    exact ⟨_,br_tt (dec_t (show (k:Int)<((V+1:Nat):Int) by omega)) (Zba e' (br_tt rfl rfl)),.inl ⟨m2,lv2,rfl,u',hu',hno⟩⟩
  ·left
   exact ⟨_,br_ff (dec_f (show ¬(k:Int)<((V+1:Nat):Int) by omega)) rfl,.inr ⟨m,lv,rfl,hI,fun u hu=>hT u (by omega)⟩⟩
theorem Zq6 {n:NetD} (ft:Fit n):Zfn (netT n,())=some (Zkz n,()):=by
 have es:Zfd (netT n,())=some (Zj3 n,()):=by
  unfold Zfd
  rw [show netD ((netT n,()):TL [Za5]).1=n from Zww n,Za3w ft]
  rfl
 by_cases h0:Zj3 n=0
 ·obtain ⟨V,hs⟩:=Za74 h0
  have hV:n.vars.toNat=V:=by rw [hs.vars];rfl
  obtain ⟨m,lv,ea,_⟩:=all_is hs ft
  have ew:=Zba1 hs ft
  cases hc:acyB (ndL n) V
  ·have et:Zkf (nt n ())=some (.inl ((8:Int),())):=by
    refine Zba es (br_ff (by rw [h0];rfl) (Zba ew (Zba ea (br_tt (by rw [hc];rfl) rfl))))
   refine (Zba et rfl).trans ?_
   unfold Zkz
   rw [h0,hV,hc];rfl
  ·have et:Zkf (nt n ())=some (.inr ((0:Int),wk n V m lv)):=by
    refine Zba es (br_ff (by rw [h0];rfl) (Zba ew (Zba ea (br_ff (by rw [hc];rfl) rfl))))
   refine (Zba et rfl).trans ?_
   unfold Zkz
   rw [h0,hV,hc];rfl
 ·have et:Zkf (nt n ())=some (.inl (Zj3 n,())):=by
   refine Zba es (br_tt (by simp [h0]) rfl)
  refine (Zba et rfl).trans ?_
  unfold Zkz
  rw [if_pos h0]
  rfl
def A6 (n:NetD) (k:Nat):List (NodeD×NodeI):=(ndsA k).zip ((n.ands.take k).map andI)
def M6 (n:NetD) (k:Nat):List (NodeD×NodeI):=(memsN 0 (n.mems.take k)).zip ((n.mems.take k).flatMap memI)
def R6 (j:Nat) (M:MemD) (r:Nat):List (NodeD×NodeI):=(rdN j r).zip ((M.reads.take r).map (readI M.word))
def n6 (n:NetD):List (NodeD×NodeI):=A6 n n.ands.length++M6 n n.mems.length
theorem A6_succ {n:NetD} {k:Nat} {a:AndD} (h:n.ands[k]?=some a):A6 n (k+1)=A6 n k++[(⟨false,0,k⟩,andI a)]:=by
 unfold A6
 rw [Za1b,Zd8 h,List.map_append,List.zip_append (by rw [Zmx,List.length_map,List.length_take];have:=Zhb h;omega)]
 rfl
theorem Za2t {n:NetD} {k:Nat} (h:k≤n.ands.length):(A6 n k).length=k:=by
 unfold A6
 rw [List.length_zip,Zmx,List.length_map,List.length_take];omega
theorem R6_succ {j:Nat} {M:MemD} {k:Nat} {r:ReadD} (h:M.reads[k]?=some r):R6 j M (k+1)=R6 j M k++[(⟨true,j,k⟩,readI M.word r)]:=by
 unfold R6
 rw [Za4n,Zd8 h,List.map_append,List.zip_append (by rw [Zu0,List.length_map,List.length_take];have:=Zhb h;omega)]
 rfl
theorem Za9x {j:Nat} {M:MemD} {k:Nat} (h:k≤M.reads.length):(R6 j M k).length=k:=by
 unfold R6
 rw [List.length_zip,Zu0,List.length_map,List.length_take];omega
theorem M6_succ {n:NetD} {k:Nat} {M:MemD} (h:n.mems[k]?=some M):M6 n (k+1)=M6 n k++R6 k M M.reads.length:=by
 unfold M6 R6
 rw [Zd8 h,Zu5,List.flatMap_append,List.zip_append (by rw [Zlt])]
 have:=Zhb h
 rw [List.length_take,Nat.min_eq_left (by omega),Nat.zero_add,List.take_length]
 simp only [List.flatMap_cons,List.flatMap_nil,List.append_nil]
 rfl
theorem nodes3 (n:NetD) (hA:n.ands.length≤2000):Zeg ((0:Int),nt n ([],()))=some (nt n ((A6 n n.ands.length).map n6T,())):=by
 unfold Zeg;delta u10
 refine Zif (fun k:Nat=>((k:Int),nt n ((A6 n k).map n6T,()))) n.ands.length rfl ?_ ?_ (Ze8 (by omega))
 ·intro k hk
  have ha:=List.getElem?_eq_getElem hk
  have ha':(n.ands.map andT)[k]?=some (andT n.ands[k]):=by rw [List.getElem?_map,ha];rfl
  unfold nt
  try dsimp only
  unfold Zfv
  refine br_tt (dec_t (show (k:Int)<(((n.ands.map andT).length:Nat):Int) by rw [List.length_map];omega)) (Zaj (Zar ⟨by omega,by rw [List.length_map];omega⟩) ?_)
  rw [gt_at ha']
  refine Zaj (Zsm (L:=(A6 n k).map n6T) (by rw [List.length_map,Za2t (by omega)];omega) (by decide)) ?_
  rw [i64w (x:=(k:Int)+1) (by omega),A6_succ ha,List.map_append (l₁:=A6 n k)]
  rfl
 ·unfold nt
  try dsimp only
  unfold Zfv
  refine br_ff (dec_f (show ¬(n.ands.length:Int)<(((n.ands.map andT).length:Nat):Int) by rw [List.length_map];omega)) rfl
theorem nodes11 {n:NetD} {j:Nat} {M:MemD} (hM:n.mems[j]?=some M) (hw:0≤M.word∧M.word≤4000) (hR:M.reads.length≤4) (hrv:∀r∈M.reads,-1099511627776≤r.var∧r.var≤1099511627776) (hj:j≤4) (pre:List (NodeD×NodeI)) (hp:pre.length≤3000) :
  Zd3 ((j:Int),((0:Int),nt n (pre.map n6T,())))=some ((j:Int),nt n ((pre++R6 j M M.reads.length).map n6T,())):=by
 have hM':(n.mems.map memT)[j]?=some (memT M):=by rw [List.getElem?_map,hM];rfl
 have hjl:=Zhb hM'
 unfold Zd3;delta u11
 refine Zif (fun k:Nat=>((j:Int),((k:Int),nt n ((pre++R6 j M k).map n6T,())))) M.reads.length (by rw [show R6 j M 0=[] from rfl,List.append_nil];rfl) ?_ ?_ (Ze8 (by omega))
 ·intro k hk
  have hr:=List.getElem?_eq_getElem hk
  have hr':(M.reads.map readT)[k]?=some (readT M.reads[k]):=by rw [List.getElem?_map,hr];rfl
  have e1:=data5_is M k _ hr hw (hrv _ (List.getElem_mem hk))
  unfold nt
  try dsimp only
  unfold Zfe
  rw [chk_t (Zar ⟨by omega,by omega⟩),gt_at hM',show (memT M).2.2.2.1=M.reads.map readT from rfl]
  refine br_tt (dec_t (show (k:Int)<(((M.reads.map readT).length:Nat):Int) by rw [List.length_map];omega)) (Zaj (Zar ⟨by omega,by omega⟩) (Zaj (Zar ⟨by omega,by rw [List.length_map];omega⟩) (Zaj (Zar ⟨by omega,by omega⟩) ?_)))
  rw [gt_at hr']
  refine (bnd_s e1).trans (Zaj (Zsm (L:=(pre++R6 j M k).map n6T) (by rw [List.length_map,List.length_append,Za9x (by omega)];omega) (by decide)) ?_)
  rw [i64w (x:=(k:Int)+1) (by omega),R6_succ hr,←List.append_assoc,List.map_append (l₁:=pre++R6 j M k)]
  rfl
 ·unfold nt
  try dsimp only
  unfold Zfe
  rw [chk_t (Zar ⟨by omega,by omega⟩),gt_at hM',show (memT M).2.2.2.1=M.reads.map readT from rfl]
  exact br_ff (dec_f (show ¬(M.reads.length:Int)<(((M.reads.map readT).length:Nat):Int) by rw [List.length_map];omega)) rfl
theorem Za9z (n:NetD) (k:Nat):(M6 n k).length=((n.mems.take k).flatMap memI).length:=by
 unfold M6
 rw [List.length_zip,Zlt];omega
theorem Zb4n (n:NetD):(n6 n).map (fun x:NodeD×NodeI=>x.2)=Zj5 n:=by
 unfold n6 A6 M6 Zj5
 rw [List.map_append,List.take_length,List.take_length]
 congr 1
 ·exact List.map_snd_zip (by rw [Zmx,List.length_map];omega)
 ·exact List.map_snd_zip (by rw [Zlt];omega)
theorem n6_nd (n:NetD):(n6 n).map (fun x:NodeD×NodeI=>x.2.nd)=ndL n:=by
 unfold ndL
 rw [←Zb4n,List.map_map];rfl
theorem n6_ok {n:NetD} {V:Nat} (hs:Snd n V):N6 (n6 n) V:=by
 have hm:∀x∈n6 n,x.2∈Zj5 n:=fun x hx=>by rw [←Zb4n];exact List.mem_map_of_mem hx
 refine ⟨hs.v2,?_,fun x hx=>⟨?_,fun v hv=>?_⟩,fun x hx=>⟨?_,fun l hl=>?_⟩⟩
 ·have h:=Zwu hs
  rw [←n6_nd,List.length_map] at h
  exact h
 ·have:=(Ztg hs (hm x hx)).1;omega
 ·have:=hs.toRng (hm x hx) hv;omega
 ·have:=(Ztg hs (hm x hx)).2;omega
 ·have:=hs.Za8p (hm x hx) hl;omega
theorem Zb9l {n:NetD} {V:Nat} (hs:Snd n V) (ft:Fit n):Zam (netT n,())=some ((n6 n).map n6T,()):=by
 have hA:=hs.lens.2.2.1
 have hMl:=hs.lens.2.2.2.2
 have e3:=nodes3 n hA
 have hlen:∀k,k≤n.mems.length→(A6 n n.ands.length++M6 n k).length≤3000:=by
  intro k hk
  rw [List.length_append,Za2t (Nat.le_refl _),Za9z]
  have:=Za05 memI (n.mems.take k) 4 (fun M hM=>by unfold memI;rw [List.length_map];exact (hs.mems M (List.mem_of_mem_take hM)).2.2.2.2.2.2.1)
  have h2:(n.mems.take k).length≤4:=by rw [List.length_take];omega
  omega
 have e8:Zef ((0:Int),nt n ((A6 n n.ands.length).map n6T,()))=some ((n6 n).map n6T,()):=by
  unfold Zef;delta u10
  refine Zif (fun k:Nat=>((k:Int),nt n ((A6 n n.ands.length++M6 n k).map n6T,()))) n.mems.length (by rw [show M6 n 0=[] from rfl,List.append_nil];rfl) ?_ ?_ (Ze8 (by omega))
  ·intro k hk
   have hM:=List.getElem?_eq_getElem hk
   have hm:=hs.mems _ (List.getElem_mem hk)
   have hfit:=ft.mems.2 _ (List.getElem_mem hk)
   have e11:=nodes11 hM ⟨by omega,by omega⟩ hm.2.2.2.2.2.2.1 (fun r hr=>⟨(hfit.rds r hr).2.1,(hfit.rds r hr).2.2.1⟩) (by omega) (A6 n n.ands.length++M6 n k) (hlen k (by omega))
   unfold nt
   try dsimp only
   unfold Zfu
   refine br_tt (dec_t (show (k:Int)<(((n.mems.map memT).length:Nat):Int) by rw [List.length_map];omega)) ((bnd_s e11).trans ?_)
   have e:∀(p q:Int) (s s':List Za2.T),p=q→s=s'→(some (.inl (p,nt n (s,()))):Option (TL Zcb.σs⊕Out Zbs))=some (.inl (q,nt n (s',()))):=by rintro _ _ _ _ rfl rfl;rfl
   exact e _ _ _ _ (i64w (x:=(k:Int)+1) (by omega)) (by rw [M6_succ hM,List.append_assoc]<;>rfl)
  ·unfold nt
   try dsimp only
   unfold Zfu
   exact br_ff (dec_f (show ¬(n.mems.length:Int)<(((n.mems.map memT).length:Nat):Int) by rw [List.length_map];omega)) rfl
 exact Zba e3 (Zba e8 rfl)
theorem Zaa0 {n:NetD} {V:Nat} (hs:Snd n V) (ft:Fit n) (h0:Zj3 n=0) :
  Zfg (netT n,())=some (if acyB (ndL n) V then (Zid (ndL n) ((n6 n).length+1) (out0 (ndL n) V),(true,())) else ([],(false,()))):=by
 have hV2:=hs.v2
 have h6:=n6_ok hs
 have es:Zad (netT n,())=some (Zj3 n,()):=by
  unfold Zad Zfd
  rw [show netD ((netT n,()):TL [Za5]).1=n from Zww n,Za3w ft]
  rfl
 have eN:=Zb9l hs ft
 have hw:IntKind.wrap (.i64:IntKind) (n.vars+1)=((V+1:Nat):Int):=by rw [hs.vars,i64w (by omega)];omega
 have e6:=l6_is h6 (List.replicate (V+1) 0) (by simp)
 rw [n6_nd] at e6
 have hout:Zd0 (List.replicate (V+1) 0) ((ndL n).flatMap (·.to)) (-1)=out0 (ndL n) V:=rfl
 rw [hout] at e6
 have hol:(out0 (ndL n) V).length=V+1:=by unfold out0;rw [Zdo];simp
 have hob:∀u,lat (out0 (ndL n) V) u≤0:=by
  unfold out0
  refine Zwz (l:=List.replicate (V+1) 0) (by omega) _ (fun u=>?_)
  unfold lat
  rw [List.getD_eq_getElem?_getD,List.getElem?_replicate]
  split<;>simp
 have e14:=l14_is h6 (out0 (ndL n) V) hol hob
 rw [n6_nd] at e14
 have hNl:(n6 n).length=(ndL n).length:=by rw [←n6_nd,List.length_map]
 have ht:=Za38 hs.apart hs.hin hs.hto
 rw [←hNl] at ht
 have hle:=Zzw (ndL n) (Zid (ndL n) (n6 n).length (out0 (ndL n) V))
 show Zfw Zal Zam Zad Zdh Zcq Zde Zcc Zb6 (netT n)=_
 unfold Zfw
 refine (bnd_s es).trans (br_ff (by rw [h0];rfl) ?_)
 have hw':IntKind.wrap (.i64:IntKind) (@HAdd.hAdd Int Int Int _ (netT n).1 (1:Int))=((V+1:Nat):Int):=hw
 rw [hw']
 refine Zaj (by show both (decide _) (both (decide _) (decide _))=true;rw [decide_eq_true (by omega),decide_eq_true (by omega),decide_eq_true (by show (8:Int)*_≤_;omega)];rfl) ((bnd_s eN).trans ((bnd_s e6).trans ((bnd_s e14).trans ?_)))
 by_cases ha:acyB (ndL n) V=true
 ·have hz:=ht.2 ha
  rw [if_pos ha]
  refine br_ff (dec_f (by show ¬(0:Int)<((leftR (ndL n) (Zid (ndL n) (n6 n).length (out0 (ndL n) V)):Nat):Int);rw [hz];omega)) rfl
 ·have hz:leftR (ndL n) (Zid (ndL n) (n6 n).length (out0 (ndL n) V))≠0:=fun h=>ha (ht.1 h)
  rw [if_neg ha]
  refine br_tt (dec_t (by show (0:Int)<((leftR (ndL n) (Zid (ndL n) (n6 n).length (out0 (ndL n) V)):Nat):Int);omega)) rfl
theorem Zxe {n:NetD} (ft:Fit n):Zb7 (netT n,())=some (Zkz n,()):=by
 have es:Zad (netT n,())=some (Zj3 n,()):=by
  unfold Zad Zfd
  rw [show netD ((netT n,()):TL [Za5]).1=n from Zww n,Za3w ft]
  rfl
 by_cases h0:Zj3 n=0
 ·obtain ⟨V,hs⟩:=Za74 h0
  have hV:n.vars.toNat=V:=by rw [hs.vars];rfl
  have eL:=Zaa0 hs ft h0
  unfold Zkz
  rw [h0,hV,if_neg (by simp)]
  by_cases ha:acyB (ndL n) V=true
  ·rw [if_pos ha] at eL
   rw [if_pos ha]
   exact Zba es (br_ff (by rw [h0];rfl) (Zba eL (br_ff rfl rfl)))
  ·rw [if_neg ha] at eL
   rw [if_neg ha]
   exact Zba es (br_ff (by rw [h0];rfl) (Zba eL (br_tt rfl rfl)))
 ·unfold Zkz
  rw [if_pos h0]
  exact Zba es (br_tt (by simp [h0]) rfl)
end Go.Proofs.YtkcpdpplobhpaaaGreat.V
end
