import Derived.Test.YtkcpdpplobhpaaaGreatKNa
import Derived.Test.YtkcpdpplobhpaaaGreatKNb
import Derived.Test.YtkcpdpplobhpaaaGreatKMf
import Derived.Test.YtkcpdpplobhpaaaGreatKNc
import Derived.Test.YtkcpdpplobhpaaaGreatKNd
set_option linter.unusedVariables false
set_option linter.unusedSimpArgs false
set_option linter.unnecessarySimpa false
section
namespace Go.Proofs.YtkcpdpplobhpaaaGreat.Pl
structure NodeD where
 rd:Bool
 mem:Nat
 pos:Nat
structure NodeI where
 to:List Int
 frm:List Int
def andI (a:AndD):NodeI:=⟨[a.var],[a.a,a.b]⟩
def readI (word:Int) (r:ReadD):NodeI:=⟨dataL r.var word.toNat,r.addr⟩
def memI (m:MemD):List NodeI:=m.reads.map (readI m.word)
def Zj5 (n:NetD):List NodeI:=n.ands.map andI++n.mems.flatMap memI
def readN (k:Nat) (m:MemD):List NodeD:=(List.range m.reads.length).map fun i=>⟨true,k,i⟩
def memsN (k:Nat):List MemD→List NodeD
 | []=>[]
 | m :: l=>readN k m++memsN (k+1) l
theorem Zlt:∀(l:List MemD) (k:Nat),(memsN k l).length=(l.flatMap memI).length:=by
 intro l
 induction l with
 | nil=>intro k;rfl
 | cons m l ih=>intro k;rw [memsN,List.flatMap_cons,List.length_append,List.length_append,ih];simp [readN,memI]
def NodeI.nd (x:NodeI):Nd:=⟨x.frm.map fun l=>(l / 2).toNat,x.to.map Int.toNat⟩
def ndL (n:NetD):List Nd:=(Zj5 n).map NodeI.nd
theorem Za6p {V:Int}:∀(l pre:List Int),pre.Nodup→(∀x∈pre,1≤x∧x≤V)→dup V pre l=0→(pre++l).Nodup∧∀x∈pre++l,1≤x∧x≤V:=by
 intro l
 induction l with
 | nil=>intro pre h1 h2 _;simpa using ⟨h1,h2⟩
 | cons v l ih=>
  intro pre h1 h2 h
  rw [dup] at h
  by_cases ha:v<1∨V<v
  ·rw [if_pos ha] at h;omega
  ·rw [if_neg ha] at h
   by_cases hc:pre.contains v=true
   ·rw [if_pos hc] at h;omega
   ·rw [if_neg hc] at h
    have hn:v∉pre:=by simpa using hc
    have:=ih (pre++[v]) (by
     rw [List.nodup_append]
     exact ⟨h1,by simp,fun a ha' b hb=>by simp at hb;subst hb;rintro rfl;exact hn ha'⟩) (fun x hx=>by
     rcases List.mem_append.1 hx with hx | hx
     ·exact h2 x hx
     ·simp at hx;subst hx;omega) h
    simpa using this
structure Snd (n:NetD) (V:Nat):Prop where
 vars:n.vars=(V:Int)
 v2:V≤2000
 nodup:(Zbm n).Nodup
 rng:∀x∈Zbm n,1≤x∧x≤(V:Int)
 lits:∀l∈Zch n,0≤l∧l / 2≤(V:Int)
 mems:∀m∈n.mems,1≤m.addr∧m.addr≤62∧1≤m.word∧m.word≤64∧(∀r∈m.reads,(r.addr.length:Int)=m.addr)∧(∀x∈m.writes,(x.addr.length:Int)=m.addr∧(x.data.length:Int)=m.word)∧m.reads.length≤4∧m.writes.length≤4
 init:∀l∈n.latches,0≤l.init∧l.init≤2
 lens:n.inputs.length≤2000∧n.latches.length≤2000∧n.ands.length≤2000∧n.outputs.length+n.bads.length+n.constraints.length≤1000∧n.mems.length≤4
theorem any_false {α:Type} {p:α→Bool} {l:List α} (h:¬l.any p=true):∀x∈l,p x=false:=by
 intro x hx
 cases hp:p x
 ·rfl
 ·exact absurd (List.any_eq_true.2 ⟨x,hx,hp⟩) h
theorem Za74 {n:NetD} (h:Zj3 n=0):∃V,Snd n V:=by
 unfold Zj3 at h
 by_cases h1:Zka n=true
 ·rw [if_pos h1] at h;omega
 rw [if_neg h1] at h
 by_cases h2:n.mems.any wideB=true
 ·rw [if_pos h2] at h;omega
 rw [if_neg h2] at h
 by_cases h3:n.latches.any initB=true
 ·rw [if_pos h3] at h;omega
 rw [if_neg h3] at h
 by_cases h4:dup n.vars [] (Zbm n)≠0
 ·rw [if_pos h4] at h;exact absurd h h4
 rw [if_neg h4] at h
 by_cases h5:(Zch n).any (litB n.vars)=true
 ·rw [if_pos h5] at h;omega
 unfold Zka at h1
 rw [Bool.or_eq_true,not_or] at h1
 obtain ⟨h1a,h1b⟩:=h1
 have h1a':¬(n.vars<0∨2000<n.vars∨2000<n.inputs.length∨2000<n.latches.length∨2000<n.ands.length∨1000<n.outputs.length+n.bads.length+n.constraints.length∨4<n.mems.length):=by simpa using h1a
 obtain ⟨V,hV⟩:=Int.eq_ofNat_of_zero_le (show 0≤n.vars by omega)
 obtain ⟨d1,d2⟩:=Za6p (V:=n.vars) (Zbm n) [] (by simp) (by simp) (by omega)
 simp only [List.nil_append] at d1 d2
 refine ⟨V,hV,by omega,d1,fun x hx=>hV▸d2 x hx,fun l hl=>?_,fun m hm=>?_,fun l hl=>?_,⟨by omega,by omega,by omega,by omega,by omega⟩⟩
 ·have:=any_false h5 l hl
  unfold litB at this
  have:¬(l<0∨n.vars<l / 2):=by simpa using this
  omega
 ·have hw:=any_false h2 m hm
  have hp:=any_false h1b m hm
  unfold Zki at hp
  have hp:¬(4<m.reads.length∨4<m.writes.length):=by simpa using hp
  unfold wideB at hw
  rw [Bool.or_eq_false_iff,Bool.or_eq_false_iff] at hw
  obtain ⟨⟨w1,w2⟩,w3⟩:=hw
  have w1:¬(m.addr<1∨62<m.addr∨m.word<1∨64<m.word):=by simpa using w1
  refine ⟨by omega,by omega,by omega,by omega,fun r hr=>?_,fun x hx=>?_,by omega,by omega⟩
  ·have:=any_false (p:=wideR m) (by rw [w2];simp) r hr
   unfold wideR at this
   simpa using this
  ·have:=any_false (p:=wideW m) (by rw [w3];simp) x hx
   unfold wideW at this
   rw [Bool.or_eq_false_iff] at this
   exact ⟨by simpa using this.1,by simpa using this.2⟩
 ·have:=any_false h3 l hl
  unfold initB at this
  have:¬(l.init<0∨2<l.init):=by simpa using this
  omega
theorem Za1a (n:NetD):(Zj5 n).flatMap NodeI.to=n.ands.map (·.var)++n.mems.flatMap Zur:=by
 unfold Zj5
 rw [List.flatMap_append]
 congr 1
 ·induction n.ands with
  | nil=>rfl
  | cons a l ih=>rw [List.map_cons,List.flatMap_cons,ih];rfl
 ·rw [List.flatMap_assoc]
  congr 1
  funext m
  unfold memI Zur
  rw [List.flatMap_map]
  rfl
theorem Za03 {α:Type} {f:α→List Int}:∀{l:List α},(l.flatMap f).Nodup→∀{i j:Nat} {x y:α} {v:Int},l[i]?=some x→l[j]?=some y→v∈f x→v∈f y→i=j:=by
 intro l
 induction l with
 | nil=>intro _ i j x y v h;simp at h
 | cons a l ih=>
  intro hn i j x y v hi hj hx hy
  rw [List.flatMap_cons,List.nodup_append] at hn
  obtain ⟨h1,h2,h3⟩:=hn
  cases i with
  | zero=>
   cases j with
   | zero=>rfl
   | succ j=>
    simp at hi hj
    subst hi
    exact absurd rfl (h3 v hx v (List.mem_flatMap.2 ⟨y,List.mem_of_getElem? hj,hy⟩))
  | succ i=>
   cases j with
   | zero=>
    simp at hi hj
    subst hj
    exact absurd rfl (h3 v hy v (List.mem_flatMap.2 ⟨x,List.mem_of_getElem? hi,hx⟩))
   | succ j=>simp at hi hj;rw [ih h2 hi hj hx hy]
section
variable {n:NetD} {V:Nat}
theorem Snd.toNodup (s:Snd n V):((Zj5 n).flatMap NodeI.to).Nodup:=by
 rw [Za1a]
 have:=s.nodup
 unfold Zbm at this
 rw [List.append_assoc,List.nodup_append] at this
 have:=this.2.1
 rw [List.nodup_append] at this ⊢
 exact ⟨this.2.1,this.1,fun a ha b hb e=>this.2.2 b hb a ha e.symm⟩
theorem Snd.toRng (s:Snd n V) {x:NodeI} (hx:x∈Zj5 n) {v:Int} (hv:v∈x.to):1≤v∧v≤(V:Int):=by
 have:v∈(Zj5 n).flatMap NodeI.to:=List.mem_flatMap.2 ⟨x,hx,hv⟩
 rw [Za1a] at this
 refine s.rng v ?_
 unfold Zbm
 rcases List.mem_append.1 this with h | h<;>simp [h]
theorem Snd.Za8p (s:Snd n V) {x:NodeI} (hx:x∈Zj5 n) {l:Int} (hl:l∈x.frm):0≤l∧l / 2≤(V:Int):=by
 refine s.lits l ?_
 unfold Zj5 at hx
 unfold Zch
 rcases List.mem_append.1 hx with hx | hx
 ·obtain ⟨a,ha,rfl⟩:=List.mem_map.1 hx
  have:l∈n.ands.flatMap andL:=List.mem_flatMap.2 ⟨a,ha,hl⟩
  simp [this]
 ·obtain ⟨m,hm,hx⟩:=List.mem_flatMap.1 hx
  obtain ⟨r,hr,rfl⟩:=List.mem_map.1 hx
  have:l∈n.mems.flatMap memL:=List.mem_flatMap.2 ⟨m,hm,by unfold memL;exact List.mem_append.2 (.inl (List.mem_flatMap.2 ⟨r,hr,hl⟩))⟩
  simp [this]
theorem Snd.toNe (s:Snd n V) {x:NodeI} (hx:x∈Zj5 n):x.to≠[]:=by
 unfold Zj5 at hx
 rcases List.mem_append.1 hx with hx | hx
 ·obtain ⟨a,ha,rfl⟩:=List.mem_map.1 hx;simp [andI]
 ·obtain ⟨m,hm,hx⟩:=List.mem_flatMap.1 hx
  obtain ⟨r,hr,rfl⟩:=List.mem_map.1 hx
  have:=(s.mems m hm).2.2.1
  unfold readI dataL
  simp
  omega
theorem Za7q {i:Nat}:(ndL n)[i]?=((Zj5 n)[i]?).map NodeI.nd:=by unfold ndL;rw [List.getElem?_map]
theorem Za7p {x:Nd} (h:x∈ndL n):∃y∈Zj5 n,x=y.nd:=by
 unfold ndL at h
 obtain ⟨y,h1,h2⟩:=List.mem_map.1 h
 exact ⟨y,h1,h2.symm⟩
theorem Snd.apart (s:Snd n V):Apart (ndL n):=by
 intro i j x y v hi hj hx hy
 rw [Za7q] at hi hj
 obtain ⟨x',hi',rfl⟩:=Option.map_eq_some_iff.1 hi
 obtain ⟨y',hj',rfl⟩:=Option.map_eq_some_iff.1 hj
 obtain ⟨a,ha,e1⟩:=List.mem_map.1 hx
 obtain ⟨b,hb,e2⟩:=List.mem_map.1 hy
 have r1:=s.toRng (List.mem_of_getElem? hi') ha
 have r2:=s.toRng (List.mem_of_getElem? hj') hb
 have:a=b:=by omega
 subst this
 exact Za03 s.toNodup hi' hj' ha hb
theorem Snd.hin (s:Snd n V):∀x∈ndL n,∀u∈x.frm,u≤V:=by
 intro x hx u hu
 obtain ⟨y,hy,rfl⟩:=Za7p hx
 obtain ⟨l,hl,rfl⟩:=List.mem_map.1 hu
 have:=s.Za8p hy hl
 omega
theorem Snd.hto (s:Snd n V):∀x∈ndL n,x.to≠[]∧∀v∈x.to,v≤V:=by
 intro x hx
 obtain ⟨y,hy,rfl⟩:=Za7p hx
 refine ⟨by have:=s.toNe hy;unfold NodeI.nd;simpa using this,fun v hv=>?_⟩
 obtain ⟨l,hl,rfl⟩:=List.mem_map.1 hv
 have:=s.toRng hy hl
 omega
end
def Zkz (n:NetD):Int:=if Zj3 n≠0 then Zj3 n else if acyB (ndL n) n.vars.toNat then 0 else 8
section
variable {N:List Nd} {V:Nat} {m lv m' lv' m'' lv'':List Int}
end
end Go.Proofs.YtkcpdpplobhpaaaGreat.Pl
end
section
namespace Go.Proofs.YtkcpdpplobhpaaaGreat.V
open Go Go.RowKit
open Go.Proofs.YtkcpdpplobhpaaaGreat.Pl
theorem Zz0 (v:Int) (k:Nat):dataL v (k+1)=dataL v k++[v+(k:Int)]:=by unfold dataL;rw [List.range_succ,List.map_append];rfl
theorem Zol (v:Int) (k:Nat):(dataL v k).length=k:=by simp [dataL]
end Go.Proofs.YtkcpdpplobhpaaaGreat.V
end
section
namespace Go.Proofs.YtkcpdpplobhpaaaGreat.Pl
theorem Ztg {n:NetD} {V:Nat} (hs:Snd n V) {y:NodeI} (hy:y∈Zj5 n):y.to.length≤64∧y.frm.length≤62:=by
 unfold Zj5 at hy
 rcases List.mem_append.1 hy with hy | hy
 ·obtain ⟨a,ha,rfl⟩:=List.mem_map.1 hy;simp [andI]
 ·obtain ⟨m,hm,hy⟩:=List.mem_flatMap.1 hy
  obtain ⟨r,hr,rfl⟩:=List.mem_map.1 hy
  have h1:=hs.mems m hm
  have h2:=h1.2.2.2.2.1 r hr
  unfold readI dataL
  simp
  omega
theorem Za05 {α β:Type} (f:α→List β):∀(l:List α) (k:Nat),(∀x∈l,(f x).length≤k)→(l.flatMap f).length≤l.length*k:=by
 intro l k
 induction l with
 | nil=>intro _;simp
 | cons x l ih=>
  intro h
  rw [List.flatMap_cons,List.length_append,List.length_cons,Nat.succ_mul]
  have h1:=ih fun y hy=>h y (by simp [hy])
  have h2:=h x (by simp)
  omega
theorem Zwu {n:NetD} {V:Nat} (hs:Snd n V):(ndL n).length≤3000:=by
 unfold ndL Zj5
 rw [List.length_map,List.length_append,List.length_map]
 have h1:=hs.lens
 have h2:=Za05 memI n.mems 4 (fun m hm=>by unfold memI;rw [List.length_map];exact (hs.mems m hm).2.2.2.2.2.2.1)
 omega
end Go.Proofs.YtkcpdpplobhpaaaGreat.Pl
end
section
namespace Go.Proofs.YtkcpdpplobhpaaaGreat.V
open Go Go.RowKit
open Go.Proofs.YtkcpdpplobhpaaaGreat.Pl
theorem Za3m (l:Int):Zhs (l,())=some (l / 2,()):=by
 show Zrx l=_
 unfold Zrx
 rw [Int.fdiv_eq_ediv_of_nonneg _ (by decide)]
 rfl
theorem Zwy {l q:Int} (h:l / 2=q):Zhs (l,())=some (q,()):=by rw [Za3m,h]
theorem data5_is (m:MemD) (i:Nat) (r:ReadD) (hr:m.reads[i]?=some r) (hw:0≤m.word∧m.word≤4000) (hv:-1099511627776≤r.var∧r.var≤1099511627776) :
  Zbo (memT m,((i:Int),()))=some (dataL r.var m.word.toNat,()):=by
 obtain ⟨W,hW⟩:=Int.eq_ofNat_of_zero_le hw.1
 have hi:=Zhb hr
 have hr':(m.reads.map readT)[i]?=some (readT r):=by rw [List.getElem?_map,hr];rfl
 have hL:Zdx ((i:Int),((0:Int),(m.addr,(m.word,(m.any,(m.reads.map readT,(m.writes.map Zt4,([],()))))))))=some (dataL r.var m.word.toNat,()):=by
  unfold Zdx;delta u8
  rw [hW,Int.toNat_natCast]
  refine Zyl (fun k:Nat=>((i:Int),((k:Int),(m.addr,((W:Int),(m.any,(m.reads.map readT,(m.writes.map Zt4,(dataL r.var k,()))))))))) W ?_ ?_ NN (Ze8 (by omega))
  ·intro k hk
   try dsimp only
   unfold Zgt
   rw [br_t (dec_t (by omega)),chk_t (Zar ⟨by omega,by rw [List.length_map];omega⟩),chk_t (Za3a (by simp [Zol];omega) (by simp [Zol];omega)),gt_at hr',show (readT r).1=r.var from rfl]
   rw [i64w (x:=r.var+(k:Int)) (by omega),i64w (x:=(k:Int)+1) (by omega),Zz0]
   rfl
  ·try dsimp only
   unfold Zgt
   rw [br_f (dec_f (by omega))]
   rfl
 show Zhf Zdx (memT m) (i:Int)=_
 unfold Zhf
 rw [br_f (dec_f (by omega)),selN,br_f (dec_f (by simp only [memT,List.length_map,Int.ofNat_eq_natCast];omega))]
 exact (bnd_s hL).trans rfl
theorem var1_is {l:Int} (h:0≤l∧l≤1000000) {u:Nat} (hu:l / 2=(u:Int)):Zcv (l,())=some ((u:Int),()):=by
 show Zhw l=_
 unfold Zhw
 rw [Int.tdiv_eq_ediv_of_nonneg h.1,hu,i64w (by omega)]
 rfl
def gtI (L:List Int) (i:Int):Int:=gt (.int .i64) L i
theorem Za1w {L:List Int} {i:Nat} {x:Int} (h:L[i]?=some x):gtI L (i:Int)=x:=gt_at (σ:=.int .i64) h
def n6T (x:NodeD×NodeI):Za2.T:=(x.1.rd,((x.1.mem:Int),((x.1.pos:Int),(x.2.frm,(x.2.to,())))))
theorem level_is {V:Nat} {B:Int} (x:NodeD×NodeI) (out:List Int) (hB:∀u,u≤V→lat out u≤B) (hB0:0≤B∧B≤1000000000000) (hl:out.length=V+1) (hV:V≤2000)
  (hf:∀l∈x.2.frm,0≤l∧l≤2*(V:Int)+1) (hfl:x.2.frm.length≤100000):Zal (n6T x,(out,()))=some (lvlR out x.2.nd.frm 0,()):=by
 have hfr:∀k,x.2.nd.frm.drop k=(x.2.frm.drop k).map fun l=>(l / 2).toNat:=fun k=>by unfold NodeI.nd;rw [List.map_drop]
 have hL:=Za80 (B:=fun d=>Zij Zcv d.1 d.2.1 d.2.2.1 d.2.2.2.1 d.2.2.2.2.1 d.2.2.2.2.2.1 d.2.2.2.2.2.2.1 d.2.2.2.2.2.2.2.1)
  (I:=fun d:TL Zbf.σs=>∃(k:Nat) (n:Int),d=(out,(n,((k:Int),n6T x)))∧k≤x.2.frm.length∧0≤n∧n≤B∧lvlR out (x.2.nd.frm.drop k) n=lvlR out x.2.nd.frm 0)
  (Q:=fun o:Out Zbc=>(o=.inl ((-1:Int),())∧lvlR out x.2.nd.frm 0 = -1)∨∃n:Int,o=.inr (n,())∧n≤B∧0≤n∧lvlR out x.2.nd.frm 0=n+1)
  (μ:=fun d=>x.2.frm.length - d.2.2.1.toNat) ?_ NN (out,((0:Int),((0:Int),n6T x))) ⟨0,0,rfl,by omega,by omega,hB0.1,by rw [List.drop_zero]⟩ (Ze8 (by show _ - _≤_;omega))
 ·obtain ⟨o,ho,hcase⟩:=hL
  have ho':Zfs (out,((0:Int),((0:Int),n6T x)))=some o:=ho
  rcases hcase with ⟨rfl,h⟩ | ⟨n,rfl,hn,hn0,h⟩
  ·rw [h];exact Zba ho' rfl
  ·rw [h]
   have e:∀a b:Int,a=b→(some (a,()):Option (Int×Unit))=some (b,()):=by rintro _ _ rfl;rfl
   exact Zba ho' (e _ _ (i64w (x:=n+1) (by omega)))
 ·rintro _ ⟨k,n,rfl,hk,h0,hn,hr⟩
  by_cases hlt:k<x.2.frm.length
  ·have hg:=List.getElem?_eq_getElem hlt
   obtain ⟨a1,a2⟩:=hf _ (List.getElem_mem hlt)
   obtain ⟨u,hu⟩:=Int.eq_ofNat_of_zero_le (show 0≤x.2.frm[k] / 2 by omega)
   have huV:u≤V:=by omega
   have hlu:out[u]?=some (lat out u):=by
    unfold lat
    rw [List.getD_eq_getElem?_getD,List.getElem?_eq_getElem (by omega)];rfl
   have e1:=var1_is (l:=x.2.frm[k]) ⟨a1,by omega⟩ hu
   have hdrop:x.2.nd.frm.drop k=u :: x.2.nd.frm.drop (k+1):=by
    rw [hfr,hfr,List.drop_eq_getElem_cons hlt,List.map_cons,hu];rfl
   rw [hdrop,lvlR] at hr
   by_cases hneg:lat out u<0
   ·left
    rw [if_pos hneg] at hr
    refine ⟨.inl ((-1:Int),()),?_,.inl ⟨rfl,hr.symm⟩⟩
    refine br_tt (dec_t (show (k:Int)<((x.2.frm.length:Nat):Int) by omega)) (Zaj (Zar ⟨show (0:Int)≤(k:Int) by omega,by show (k:Int)<((x.2.frm.length:Nat):Int);omega⟩) ?_)
    refine (bnd_s (show Zcv (gt (.int .i64) x.2.frm (k:Int),())=some ((u:Int),()) by rw [gt_at (σ:=.int .i64) hg];exact e1)).trans ?_
    refine Zaj (Zar ⟨show (0:Int)≤(u:Int) by omega,by rw [hl];show (u:Int)<_;omega⟩) (br_tt (dec_t (show gtI out (u:Int)<(0:Int) by rw [Za1w hlu];exact hneg)) rfl)
   ·right
    rw [if_neg hneg] at hr
    have hBu:=hB u huV
    refine ⟨(out,((max n (lat out u):Int),(((k+1:Nat):Int),n6T x))),?_,⟨k+1,max n (lat out u),rfl,by omega,by omega,by omega,hr⟩,?_⟩
    ·refine br_tt (dec_t (show (k:Int)<((x.2.frm.length:Nat):Int) by omega)) (Zaj (Zar ⟨show (0:Int)≤(k:Int) by omega,by show (k:Int)<((x.2.frm.length:Nat):Int);omega⟩) ?_)
     refine (bnd_s (show Zcv (gt (.int .i64) x.2.frm (k:Int),())=some ((u:Int),()) by rw [gt_at (σ:=.int .i64) hg];exact e1)).trans ?_
     refine Zaj (Zar ⟨show (0:Int)≤(u:Int) by omega,by rw [hl];show (u:Int)<_;omega⟩) (br_ff (dec_f (show ¬gtI out (u:Int)<(0:Int) by rw [Za1w hlu];exact hneg)) ?_)
     have e:∀a b a' b':Int,a=a'→b=b'→(some (.inl (out,(a,(b,n6T x)))):Option (TL Zbf.σs⊕Out Zbc))=some (.inl (out,(a',(b',n6T x)))):=by rintro _ _ _ _ rfl rfl;rfl
     refine e _ _ _ _ ?_ (i64w (x:=(k:Int)+1) (by omega))
     show selI (decide (n<gtI out (u:Int))) (gtI out (u:Int)) n=_
     rw [Za1w hlu]
     unfold selI
     split
     ·rename_i q;have q:=of_decide_eq_true q;show lat out u=_;omega
     ·rename_i q;have q:=of_decide_eq_false q;show n=_;have q:¬n<lat out u:=q;omega
    ·show x.2.frm.length - ((k+1:Nat):Int).toNat<x.2.frm.length - (k:Int).toNat
     omega
  ·left
   have hnil:x.2.nd.frm.drop k=[]:=by rw [hfr,List.drop_eq_nil_of_le (by omega)];rfl
   rw [hnil,lvlR] at hr
   exact ⟨.inr (n,()),br_ff (dec_f (show ¬(k:Int)<((x.2.frm.length:Nat):Int) by omega)) rfl,.inr ⟨n,rfl,hn,h0,hr.symm⟩⟩
theorem Za63 (l:List Int) (vs ws:List Nat) (x:Int):Zd0 l (vs++ws) x=Zd0 (Zd0 l vs x) ws x:=by simp [Zd0,List.foldl_append]
theorem Zwz {l:List Int} {x B:Int} (hx:x≤B):∀(vs:List Nat) {l:List Int},(∀u,lat l u≤B)→∀u,lat (Zd0 l vs x) u≤B
 | [],l,h,u=>h u
 | v :: vs,l,h,u=>by
  have:Zd0 l (v :: vs) x=Zd0 (l.set v x) vs x:=rfl
  rw [this]
  refine Zwz (l:=l) hx vs (fun u=>?_) u
  rw [Za88]
  split
  ·exact hx
  ·exact h u
theorem Zyk {out:List Int} {B:Int} (hB:∀u,lat out u≤B):∀(us:List Nat) (n:Int),n≤B→0≤B→lvlR out us n≤B+1
 | [],n,h,h0=>by rw [lvlR];omega
 | u :: us,n,h,h0=>by
  rw [lvlR]
  split
  ·omega
  ·exact Zyk hB us _ (by have:=hB u;omega) h0
structure N6 (N:List (NodeD×NodeI)) (V:Nat):Prop where
 v2:V≤2000
 len:N.length≤3000
 to:∀x∈N,x.2.to.length≤100000∧∀v∈x.2.to,0≤v∧v≤(V:Int)
 frm:∀x∈N,x.2.frm.length≤100000∧∀l∈x.2.frm,0≤l∧l≤2*(V:Int)+1
theorem l9_is {N:List (NodeD×NodeI)} {V:Nat} (h6:N6 N V) {i:Nat} {x:NodeD×NodeI} (hx:N[i]?=some x) (out:List Int) (hl:out.length=V+1) :
  Zcq (N.map n6T,((i:Int),((0:Int),(out,()))))=some (N.map n6T,((i:Int),(Zd0 out x.2.nd.to (-1),()))):=by
 have hx':(N.map n6T)[i]?=some (n6T x):=by rw [List.getElem?_map,hx];rfl
 have hi:=Zhb hx'
 obtain ⟨h1,h2⟩:=h6.to x (List.mem_of_getElem? hx)
 unfold Zcq;delta u4
 refine Zif (fun k:Nat=>(N.map n6T,((i:Int),((k:Int),(Zd0 out ((x.2.to.take k).map Int.toNat) (-1),()))))) x.2.to.length rfl ?_ ?_ (Ze8 (by omega))
 ·intro k hk
  have hv:=List.getElem?_eq_getElem hk
  obtain ⟨v0,v1⟩:=h2 _ (List.getElem_mem hk)
  obtain ⟨v,hv2⟩:=Int.eq_ofNat_of_zero_le v0
  rw [hv2] at hv v1
  try dsimp only
  unfold Zfh
  rw [chk_t (Zar ⟨by omega,by omega⟩),gt_at hx']
  refine br_tt (dec_t (show (k:Int)<((x.2.to.length:Nat):Int) by omega)) (Zaj (Zar ⟨by omega,by omega⟩) (Zaj (Zar ⟨show (0:Int)≤(k:Int) by omega,show (k:Int)<((x.2.to.length:Nat):Int) by omega⟩) ?_))
  have hg:gtI x.2.to (k:Int)=(v:Int):=Za1w hv
  refine Zaj (show inb (gtI x.2.to (k:Int)) (List.length (Zd0 out ((x.2.to.take k).map Int.toNat) (-1)))=true by rw [hg];exact Zar ⟨by omega,by rw [Zdo,hl];omega⟩) ?_
  have e:∀(a a':Int) (b b':List Int),a=a'→b=b'→(some (.inl (N.map n6T,((i:Int),(a,(b,()))))):Option (TL Zax.σs⊕Out Zat))=some (.inl (N.map n6T,((i:Int),(a',(b',()))))):=by rintro _ _ _ _ rfl rfl;rfl
  refine e _ _ _ _ (i64w (x:=(k:Int)+1) (by omega)) ?_
  rw [Zd8 hv,List.map_append,List.map_cons,List.map_nil,Zmu]
  show List.set (Zd0 out ((x.2.to.take k).map Int.toNat) (-1)) (gtI x.2.to (k:Int)).toNat (-1)=_
  rw [hg]
 ·try dsimp only
  unfold Zfh
  rw [chk_t (Zar ⟨by omega,by omega⟩),gt_at hx']
  refine br_ff (dec_f (show ¬((x.2.to.length:Nat):Int)<((x.2.to.length:Nat):Int) by omega)) ?_
  rw [List.take_length]
  rfl
theorem l24_is {N:List (NodeD×NodeI)} {V:Nat} (h6:N6 N V) {i:Nat} {x:NodeD×NodeI} (hx:N[i]?=some x) (a b c:Int) (out:List Int) (hl:out.length=V+1) :
  Zb6 (N.map n6T,(a,(b,((i:Int),(c,((0:Int),(out,())))))))=some (N.map n6T,(a,(b,((i:Int),(Zd0 out x.2.nd.to c,()))))):=by
 have hx':(N.map n6T)[i]?=some (n6T x):=by rw [List.getElem?_map,hx];rfl
 have hi:=Zhb hx'
 obtain ⟨h1,h2⟩:=h6.to x (List.mem_of_getElem? hx)
 unfold Zb6;delta u7
 refine Zif (fun k:Nat=>(N.map n6T,(a,(b,((i:Int),(c,((k:Int),(Zd0 out ((x.2.to.take k).map Int.toNat) c,())))))))) x.2.to.length rfl ?_ ?_ (Ze8 (by omega))
 ·intro k hk
  have hv:=List.getElem?_eq_getElem hk
  obtain ⟨v0,v1⟩:=h2 _ (List.getElem_mem hk)
  obtain ⟨v,hv2⟩:=Int.eq_ofNat_of_zero_le v0
  rw [hv2] at hv v1
  try dsimp only
  unfold Zf4
  rw [chk_t (Zar ⟨by omega,by omega⟩),gt_at hx']
  refine br_tt (dec_t (show (k:Int)<((x.2.to.length:Nat):Int) by omega)) (Zaj (Zar ⟨by omega,by omega⟩) (Zaj (Zar ⟨show (0:Int)≤(k:Int) by omega,show (k:Int)<((x.2.to.length:Nat):Int) by omega⟩) ?_))
  have hg:gtI x.2.to (k:Int)=(v:Int):=Za1w hv
  refine Zaj (show inb (gtI x.2.to (k:Int)) (List.length (Zd0 out ((x.2.to.take k).map Int.toNat) c))=true by rw [hg];exact Zar ⟨by omega,by rw [Zdo,hl];omega⟩) ?_
  have e:∀(p p':Int) (q q':List Int),p=p'→q=q'→(some (.inl (N.map n6T,(a,(b,((i:Int),(c,(p,(q,())))))))):Option (TL Zah.σs⊕Out Zag))=some (.inl (N.map n6T,(a,(b,((i:Int),(c,(p',(q',())))))))):=by rintro _ _ _ _ rfl rfl;rfl
  refine e _ _ _ _ (i64w (x:=(k:Int)+1) (by omega)) ?_
  rw [Zd8 hv,List.map_append,List.map_cons,List.map_nil,Zmu]
  show List.set (Zd0 out ((x.2.to.take k).map Int.toNat) c) (gtI x.2.to (k:Int)).toNat c=_
  rw [hg]
 ·try dsimp only
  unfold Zf4
  rw [chk_t (Zar ⟨by omega,by omega⟩),gt_at hx']
  refine br_ff (dec_f (show ¬((x.2.to.length:Nat):Int)<((x.2.to.length:Nat):Int) by omega)) ?_
  rw [List.take_length]
  rfl
theorem l6_is {N:List (NodeD×NodeI)} {V:Nat} (h6:N6 N V) (out:List Int) (hl:out.length=V+1) :
  Zdh (N.map n6T,((0:Int),(out,())))=some (N.map n6T,(Zd0 out ((N.map (·.2.nd)).flatMap (·.to)) (-1),())):=by
 have hn:=h6.len
 unfold Zdh;delta u3
 refine Zif (fun i:Nat=>(N.map n6T,((i:Int),(Zd0 out (((N.take i).map (·.2.nd)).flatMap (·.to)) (-1),())))) N.length rfl ?_ ?_ (Ze8 (by omega))
 ·intro i hi
  have hx:=List.getElem?_eq_getElem hi
  try dsimp only
  unfold Zfi
  refine br_tt (dec_t (show (i:Int)<(((N.map n6T).length:Nat):Int) by rw [List.length_map];omega)) ((bnd_s (l9_is h6 hx _ (by rw [Zdo,hl]))).trans ?_)
  have e:∀(p p':Int) (q q':List Int),p=p'→q=q'→(some (.inl (N.map n6T,(p,(q,())))):Option (TL Zbt.σs⊕Out Zbj))=some (.inl (N.map n6T,(p',(q',())))):=by rintro _ _ _ _ rfl rfl;rfl
  refine e _ _ _ _ (i64w (x:=(i:Int)+1) (by omega)) ?_
  rw [Zd8 hx,List.map_append,List.flatMap_append,Za63]
  simp
 ·try dsimp only
  unfold Zfi
  refine br_ff (dec_f (show ¬((N.length:Nat):Int)<(((N.map n6T).length:Nat):Int) by rw [List.length_map];omega)) ?_
  rw [List.take_length]
  rfl
theorem Za39 (M:List Nd) (x:Nd) (out:List Int):Zl2 (M++[x]) out=stepR (Zl2 M out) x:=by unfold Zl2;rw [List.foldl_append];rfl
theorem Zqd:∀(M:List Nd) (out:List Int),(Zl2 M out).length=out.length
 | [],out=>rfl
 | x :: M,out=>by show (Zl2 M (stepR out x)).length=_;rw [Zqd M,Zun]
theorem Zyn (x:Nd):∀(M:List Nd) (out:List Int),leftR (M++[x]) out=leftR M out+(if lvlR (Zl2 M out) x.frm 0<0 then 1 else 0)
 | [],out=>by show (if lvlR out x.frm 0<0 then 1 else 0)+0=0+_;rw [Nat.zero_add];rfl
 | y :: M,out=>by
  show (if lvlR out y.frm 0<0 then 1 else 0)+leftR (M++[x]) (stepR out y)=_
  rw [Zyn x M (stepR out y)]
  show _=(if lvlR out y.frm 0<0 then 1 else 0)+leftR M (stepR out y)+_
  rw [Nat.add_assoc]
  rfl
theorem Zzw:∀(M:List Nd) (out:List Int),leftR M out≤M.length
 | [],out=>Nat.le_refl _
 | y :: M,out=>by
  have:=Zzw M (stepR out y)
  show (if lvlR out y.frm 0<0 then 1 else 0)+leftR M (stepR out y)≤M.length+1
  split<;>omega
theorem Zsl:∀(M:List Nd) {out:List Int} {B:Int},0≤B→(∀u,lat out u≤B)→∀u,lat (Zl2 M out) u≤B+(M.length:Int)
 | [],out,B,h0,h,u=>by have:=h u;show lat out u≤B+((0:Nat):Int);omega
 | y :: M,out,B,h0,h,u=>by
  have h1:∀u,lat (stepR out y) u≤B+1:=Zwz (l:=out) (Zyk h y.frm 0 h0 h0) y.to (fun u=>by have:=h u;omega)
  have:=Zsl M (out:=stepR out y) (B:=B+1) (by omega) h1 u
  show lat (Zl2 M (stepR out y)) u≤B+((M.length+1:Nat):Int)
  omega
theorem l18_is {N:List (NodeD×NodeI)} {V:Nat} (h6:N6 N V) {B:Int} (r:Int) (out:List Int) (hl:out.length=V+1) (hB:∀u,lat out u≤B) (hB0:0≤B∧B≤900000000000) :
  Zcc (N.map n6T,((0:Int),(r,((0:Int),(out,())))))=some (N.map n6T,((leftR (N.map (·.2.nd)) out:Int),(r,(Zl2 (N.map (·.2.nd)) out,())))):=by
 have hn:=h6.len
 unfold Zcc;delta u5
 refine Zif (fun i:Nat=>(N.map n6T,((leftR ((N.take i).map (·.2.nd)) out:Int),(r,((i:Int),(Zl2 ((N.take i).map (·.2.nd)) out,())))))) N.length rfl ?_ ?_ (Ze8 (by omega))
 ·intro i hi
  have hx:=List.getElem?_eq_getElem hi
  have hx':(N.map n6T)[i]?=some (n6T N[i]):=by rw [List.getElem?_map,hx];rfl
  obtain ⟨f1,f2⟩:=h6.frm _ (List.getElem_mem hi)
  have hlen:((N.take i).map (fun x:NodeD×NodeI=>x.2.nd)).length≤3000:=by rw [List.length_map,List.length_take];omega
  have hle:=Zzw ((N.take i).map (fun x:NodeD×NodeI=>x.2.nd)) out
  have hb:=Zsl ((N.take i).map (fun x:NodeD×NodeI=>x.2.nd)) hB0.1 hB
  have hrl:(Zl2 ((N.take i).map (fun x:NodeD×NodeI=>x.2.nd)) out).length=V+1:=by rw [Zqd,hl]
  have e1:=level_is (V:=V) (B:=B+(((N.take i).map (fun x:NodeD×NodeI=>x.2.nd)).length:Int)) N[i] _ (fun u _=>hb u) ⟨by omega,by omega⟩ hrl h6.v2 f2 f1
  try dsimp only
  unfold Zf5
  refine br_tt (dec_t (show (i:Int)<(((N.map n6T).length:Nat):Int) by rw [List.length_map];omega)) (Zaj (Zar ⟨by omega,by rw [List.length_map];omega⟩) ?_)
  rw [gt_at hx']
  refine (bnd_s e1).trans ?_
  have e:∀(p p' q q':Int) (s s':List Int),p=p'→q=q'→s=s'→(some (.inl (N.map n6T,(p,(r,(q,(s,())))))):Option (TL Zau.σs⊕Out Zap))=some (.inl (N.map n6T,(p',(r,(q',(s',())))))):=by rintro _ _ _ _ _ _ rfl rfl rfl;rfl
  have hs:Zl2 ((N.take (i+1)).map (fun x:NodeD×NodeI=>x.2.nd)) out=Zd0 (Zl2 ((N.take i).map (fun x:NodeD×NodeI=>x.2.nd)) out) N[i].2.nd.to (lvlR (Zl2 ((N.take i).map (fun x:NodeD×NodeI=>x.2.nd)) out) N[i].2.nd.frm 0):=by
   rw [Zd8 hx,List.map_append]
   exact Za39 _ _ _
  have hc:leftR ((N.take (i+1)).map (fun x:NodeD×NodeI=>x.2.nd)) out=leftR ((N.take i).map (fun x:NodeD×NodeI=>x.2.nd)) out+(if lvlR (Zl2 ((N.take i).map (fun x:NodeD×NodeI=>x.2.nd)) out) N[i].2.nd.frm 0<0 then 1 else 0):=by
   rw [Zd8 hx,List.map_append]
   exact Zyn _ _ _
  rw [hs,hc]
  by_cases hneg:lvlR (Zl2 ((N.take i).map (fun x:NodeD×NodeI=>x.2.nd)) out) N[i].2.nd.frm 0<0
  ·rw [if_pos hneg]
   refine br_tt (dec_t hneg) ((bnd_s (l24_is h6 hx _ r _ _ hrl)).trans ?_)
   exact e _ _ _ _ _ _ ((i64w (x:=((leftR ((N.take i).map (fun x:NodeD×NodeI=>x.2.nd)) out:Nat):Int)+1) (by omega)).trans (by omega)) (i64w (x:=(i:Int)+1) (by omega)) rfl
  ·rw [if_neg hneg]
   refine br_ff (dec_f hneg) ((bnd_s (l24_is h6 hx _ r _ _ hrl)).trans ?_)
   exact e _ _ _ _ _ _ rfl (i64w (x:=(i:Int)+1) (by omega)) rfl
 ·try dsimp only
  unfold Zf5
  refine br_ff (dec_f (show ¬((N.length:Nat):Int)<(((N.map n6T).length:Nat):Int) by rw [List.length_map];omega)) ?_
  rw [List.take_length]
  rfl
theorem Zy8 (M:List Nd) (out:List Int):∀r,(Zid M r out).length=out.length
 | 0=>rfl
 | r+1=>by rw [Zid,Zqd,Zy8 M out r]
theorem Zuq (M:List Nd) {out:List Int} (h:∀u,lat out u≤0):∀r u,lat (Zid M r out) u≤(r:Int)*(M.length:Int)
 | 0,u=>by have:=h u;show lat out u≤((0:Nat):Int)*_;omega
 | r+1,u=>by
  have h1:=Zsl M (out:=Zid M r out) (B:=(r:Int)*(M.length:Int)) (Int.mul_nonneg (by omega) (by omega)) (Zuq M h r) u
  rw [Zid]
  have:((r+1:Nat):Int)*(M.length:Int)=(r:Int)*(M.length:Int)+(M.length:Int):=by
   rw [Int.natCast_add,Int.add_mul];simp
  omega
theorem l14_is {N:List (NodeD×NodeI)} {V:Nat} (h6:N6 N V) (out:List Int) (hl:out.length=V+1) (hB:∀u,lat out u≤0) :
  Zde (N.map n6T,((0:Int),((0:Int),(out,()))))=some ((leftR (N.map (fun x:NodeD×NodeI=>x.2.nd)) (Zid (N.map (fun x:NodeD×NodeI=>x.2.nd)) N.length out):Int),(Zid (N.map (fun x:NodeD×NodeI=>x.2.nd)) (N.length+1) out,())):=by
 have hn:=h6.len
 unfold Zde;delta u4
 refine Zif (fun r:Nat=>(N.map n6T,((match r with | 0=>(0:Int) | r+1=>(leftR (N.map (fun x:NodeD×NodeI=>x.2.nd)) (Zid (N.map (fun x:NodeD×NodeI=>x.2.nd)) r out):Int)),((r:Int),(Zid (N.map (fun x:NodeD×NodeI=>x.2.nd)) r out,()))))) (N.length+1) rfl ?_ ?_ (Ze8 (by omega))
 ·intro r hr
  have hb:=Zuq (N.map (fun x:NodeD×NodeI=>x.2.nd)) hB r
  have hm:(r:Int)*((N.map (fun x:NodeD×NodeI=>x.2.nd)).length:Int)≤3000*3000:=by
   rw [List.length_map]
   exact Int.mul_le_mul (by omega) (by omega) (by omega) (by omega)
  have h0:0≤(r:Int)*((N.map (fun x:NodeD×NodeI=>x.2.nd)).length:Int):=Int.mul_nonneg (by omega) (by omega)
  have e1:=l18_is h6 (r:Int) (Zid (N.map (fun x:NodeD×NodeI=>x.2.nd)) r out) (by rw [Zy8,hl]) hb ⟨h0,by omega⟩
  try dsimp only
  unfold Zf6
  refine br_tt (dec_t (show (r:Int)≤(((N.map n6T).length:Nat):Int) by rw [List.length_map];omega)) ((bnd_s e1).trans ?_)
  have e:∀(p q q':Int) (s:List Int),q=q'→(some (.inl (N.map n6T,(p,(q,(s,()))))):Option (TL Zbk.σs⊕Out Zbd))=some (.inl (N.map n6T,(p,(q',(s,()))))):=by rintro _ _ _ _ rfl;rfl
  exact e _ _ _ _ (i64w (x:=(r:Int)+1) (by omega))
 ·try dsimp only
  unfold Zf6
  refine br_ff (dec_f (show ¬((N.length+1:Nat):Int)≤(((N.map n6T).length:Nat):Int) by rw [List.length_map];omega)) ?_
  rfl
def nt {α:Type} (n:NetD) (r:α):Int×List Int×List Za0.T×List Int×List Int×List Int×List Za1.T×List Za0.T×α:=
 (n.vars,(n.inputs,(n.latches.map latT,(n.outputs,(n.bads,(n.constraints,(n.mems.map memT,(n.ands.map andT,r))))))))
def ndsA (k:Nat):List NodeD:=(List.range k).map fun i=>⟨false,0,i⟩
theorem Za1b (k:Nat):ndsA (k+1)=ndsA k++[⟨false,0,k⟩]:=by unfold ndsA;rw [List.range_succ,List.map_append];rfl
theorem Zmx (k:Nat):(ndsA k).length=k:=by simp [ndsA]
def rdN (j k:Nat):List NodeD:=(List.range k).map fun i=>⟨true,j,i⟩
theorem Za4n (j k:Nat):rdN j (k+1)=rdN j k++[⟨true,j,k⟩]:=by unfold rdN;rw [List.range_succ,List.map_append];rfl
theorem Zu0 (j k:Nat):(rdN j k).length=k:=by simp [rdN]
theorem Zu5 (k:Nat):∀(l:List MemD) (m:MemD),memsN k (l++[m])=memsN k l++Pl.readN (k+l.length) m
 | [],m=>by simp [memsN]
 | x :: l,m=>by
  rw [List.cons_append,memsN,memsN,Zu5 (k+1) l m,List.append_assoc,List.length_cons,show k+1+l.length=k+(l.length+1) by omega]
def A6 (n:NetD) (k:Nat):List (NodeD×NodeI):=(ndsA k).zip ((n.ands.take k).map andI)
def M6 (n:NetD) (k:Nat):List (NodeD×NodeI):=(memsN 0 (n.mems.take k)).zip ((n.mems.take k).flatMap memI)
def R6 (j:Nat) (M:MemD) (r:Nat):List (NodeD×NodeI):=(rdN j r).zip ((M.reads.take r).map (readI M.word))
def n6 (n:NetD):List (NodeD×NodeI):=A6 n n.ands.length++M6 n n.mems.length
theorem A6_succ {n:NetD} {k:Nat} {a:AndD} (h:n.ands[k]?=some a):A6 n (k+1)=A6 n k++[(⟨false,0,k⟩,andI a)]:=by
 unfold A6
 rw [Za1b,Zd8 h,List.map_append,List.zip_append (by rw [Zmx,List.length_map,List.length_take];have:=Zhb h;omega)]
 rfl
theorem Za2t {n:NetD} {k:Nat} (h:k≤n.ands.length):(A6 n k).length=k:=by
 unfold A6
 rw [List.length_zip,Zmx,List.length_map,List.length_take];omega
theorem R6_succ {j:Nat} {M:MemD} {k:Nat} {r:ReadD} (h:M.reads[k]?=some r):R6 j M (k+1)=R6 j M k++[(⟨true,j,k⟩,readI M.word r)]:=by
 unfold R6
 rw [Za4n,Zd8 h,List.map_append,List.zip_append (by rw [Zu0,List.length_map,List.length_take];have:=Zhb h;omega)]
 rfl
theorem Za9x {j:Nat} {M:MemD} {k:Nat} (h:k≤M.reads.length):(R6 j M k).length=k:=by
 unfold R6
 rw [List.length_zip,Zu0,List.length_map,List.length_take];omega
theorem M6_succ {n:NetD} {k:Nat} {M:MemD} (h:n.mems[k]?=some M):M6 n (k+1)=M6 n k++R6 k M M.reads.length:=by
 unfold M6 R6
 rw [Zd8 h,Zu5,List.flatMap_append,List.zip_append (by rw [Zlt])]
 have:=Zhb h
 rw [List.length_take,Nat.min_eq_left (by omega),Nat.zero_add,List.take_length]
 simp only [List.flatMap_cons,List.flatMap_nil,List.append_nil]
 rfl
theorem nodes3 (n:NetD) (hA:n.ands.length≤2000):Zeg ((0:Int),nt n ([],()))=some (nt n ((A6 n n.ands.length).map n6T,())):=by
 unfold Zeg;delta u10
 refine Zif (fun k:Nat=>((k:Int),nt n ((A6 n k).map n6T,()))) n.ands.length rfl ?_ ?_ (Ze8 (by omega))
 ·intro k hk
  have ha:=List.getElem?_eq_getElem hk
  have ha':(n.ands.map andT)[k]?=some (andT n.ands[k]):=by rw [List.getElem?_map,ha];rfl
  unfold nt
  try dsimp only
  unfold Zfv
  refine br_tt (dec_t (show (k:Int)<(((n.ands.map andT).length:Nat):Int) by rw [List.length_map];omega)) (Zaj (Zar ⟨by omega,by rw [List.length_map];omega⟩) ?_)
  rw [gt_at ha']
  refine Zaj (Zsm (L:=(A6 n k).map n6T) (by rw [List.length_map,Za2t (by omega)];omega) (by decide)) ?_
  rw [i64w (x:=(k:Int)+1) (by omega),A6_succ ha,List.map_append (l₁:=A6 n k)]
  rfl
 ·unfold nt
  try dsimp only
  unfold Zfv
  refine br_ff (dec_f (show ¬(n.ands.length:Int)<(((n.ands.map andT).length:Nat):Int) by rw [List.length_map];omega)) rfl
theorem nodes11 {n:NetD} {j:Nat} {M:MemD} (hM:n.mems[j]?=some M) (hw:0≤M.word∧M.word≤4000) (hR:M.reads.length≤4) (hrv:∀r∈M.reads,-1099511627776≤r.var∧r.var≤1099511627776) (hj:j≤4) (pre:List (NodeD×NodeI)) (hp:pre.length≤3000) :
  Zd3 ((j:Int),((0:Int),nt n (pre.map n6T,())))=some ((j:Int),nt n ((pre++R6 j M M.reads.length).map n6T,())):=by
 have hM':(n.mems.map memT)[j]?=some (memT M):=by rw [List.getElem?_map,hM];rfl
 have hjl:=Zhb hM'
 unfold Zd3;delta u11
 refine Zif (fun k:Nat=>((j:Int),((k:Int),nt n ((pre++R6 j M k).map n6T,())))) M.reads.length (by rw [show R6 j M 0=[] from rfl,List.append_nil];rfl) ?_ ?_ (Ze8 (by omega))
 ·intro k hk
  have hr:=List.getElem?_eq_getElem hk
  have hr':(M.reads.map readT)[k]?=some (readT M.reads[k]):=by rw [List.getElem?_map,hr];rfl
  have e1:=data5_is M k _ hr hw (hrv _ (List.getElem_mem hk))
  unfold nt
  try dsimp only
  unfold Zfe
  rw [chk_t (Zar ⟨by omega,by omega⟩),gt_at hM',show (memT M).2.2.2.1=M.reads.map readT from rfl]
  refine br_tt (dec_t (show (k:Int)<(((M.reads.map readT).length:Nat):Int) by rw [List.length_map];omega)) (Zaj (Zar ⟨by omega,by omega⟩) (Zaj (Zar ⟨by omega,by rw [List.length_map];omega⟩) (Zaj (Zar ⟨by omega,by omega⟩) ?_)))
  rw [gt_at hr']
  refine (bnd_s e1).trans (Zaj (Zsm (L:=(pre++R6 j M k).map n6T) (by rw [List.length_map,List.length_append,Za9x (by omega)];omega) (by decide)) ?_)
  rw [i64w (x:=(k:Int)+1) (by omega),R6_succ hr,←List.append_assoc,List.map_append (l₁:=pre++R6 j M k)]
  rfl
 ·unfold nt
  try dsimp only
  unfold Zfe
  rw [chk_t (Zar ⟨by omega,by omega⟩),gt_at hM',show (memT M).2.2.2.1=M.reads.map readT from rfl]
  exact br_ff (dec_f (show ¬(M.reads.length:Int)<(((M.reads.map readT).length:Nat):Int) by rw [List.length_map];omega)) rfl
theorem Za9z (n:NetD) (k:Nat):(M6 n k).length=((n.mems.take k).flatMap memI).length:=by
 unfold M6
 rw [List.length_zip,Zlt];omega
theorem Zb4n (n:NetD):(n6 n).map (fun x:NodeD×NodeI=>x.2)=Zj5 n:=by
 unfold n6 A6 M6 Zj5
 rw [List.map_append,List.take_length,List.take_length]
 congr 1
 ·exact List.map_snd_zip (by rw [Zmx,List.length_map];omega)
 ·exact List.map_snd_zip (by rw [Zlt];omega)
theorem n6_nd (n:NetD):(n6 n).map (fun x:NodeD×NodeI=>x.2.nd)=ndL n:=by
 unfold ndL
 rw [←Zb4n,List.map_map];rfl
theorem n6_ok {n:NetD} {V:Nat} (hs:Snd n V):N6 (n6 n) V:=by
 have hm:∀x∈n6 n,x.2∈Zj5 n:=fun x hx=>by rw [←Zb4n];exact List.mem_map_of_mem hx
 refine ⟨hs.v2,?_,fun x hx=>⟨?_,fun v hv=>?_⟩,fun x hx=>⟨?_,fun l hl=>?_⟩⟩
 ·have h:=Zwu hs
  rw [←n6_nd,List.length_map] at h
  exact h
 ·have:=(Ztg hs (hm x hx)).1;omega
 ·have:=hs.toRng (hm x hx) hv;omega
 ·have:=(Ztg hs (hm x hx)).2;omega
 ·have:=hs.Za8p (hm x hx) hl;omega
theorem Zb9l {n:NetD} {V:Nat} (hs:Snd n V) (ft:Fit n):Zam (netT n,())=some ((n6 n).map n6T,()):=by
 have hA:=hs.lens.2.2.1
 have hMl:=hs.lens.2.2.2.2
 have e3:=nodes3 n hA
 have hlen:∀k,k≤n.mems.length→(A6 n n.ands.length++M6 n k).length≤3000:=by
  intro k hk
  rw [List.length_append,Za2t (Nat.le_refl _),Za9z]
  have:=Za05 memI (n.mems.take k) 4 (fun M hM=>by unfold memI;rw [List.length_map];exact (hs.mems M (List.mem_of_mem_take hM)).2.2.2.2.2.2.1)
  have h2:(n.mems.take k).length≤4:=by rw [List.length_take];omega
  omega
 have e8:Zef ((0:Int),nt n ((A6 n n.ands.length).map n6T,()))=some ((n6 n).map n6T,()):=by
  unfold Zef;delta u10
  refine Zif (fun k:Nat=>((k:Int),nt n ((A6 n n.ands.length++M6 n k).map n6T,()))) n.mems.length (by rw [show M6 n 0=[] from rfl,List.append_nil];rfl) ?_ ?_ (Ze8 (by omega))
  ·intro k hk
   have hM:=List.getElem?_eq_getElem hk
   have hm:=hs.mems _ (List.getElem_mem hk)
   have hfit:=ft.mems.2 _ (List.getElem_mem hk)
   have e11:=nodes11 hM ⟨by omega,by omega⟩ hm.2.2.2.2.2.2.1 (fun r hr=>⟨(hfit.rds r hr).2.1,(hfit.rds r hr).2.2.1⟩) (by omega) (A6 n n.ands.length++M6 n k) (hlen k (by omega))
   unfold nt
   try dsimp only
   unfold Zfu
   refine br_tt (dec_t (show (k:Int)<(((n.mems.map memT).length:Nat):Int) by rw [List.length_map];omega)) ((bnd_s e11).trans ?_)
   have e:∀(p q:Int) (s s':List Za2.T),p=q→s=s'→(some (.inl (p,nt n (s,()))):Option (TL Zcb.σs⊕Out Zbs))=some (.inl (q,nt n (s',()))):=by rintro _ _ _ _ rfl rfl;rfl
   exact e _ _ _ _ (i64w (x:=(k:Int)+1) (by omega)) (by rw [M6_succ hM,List.append_assoc]<;>rfl)
  ·unfold nt
   try dsimp only
   unfold Zfu
   exact br_ff (dec_f (show ¬(n.mems.length:Int)<(((n.mems.map memT).length:Nat):Int) by rw [List.length_map];omega)) rfl
 exact Zba e3 (Zba e8 rfl)
theorem Zaa0 {n:NetD} {V:Nat} (hs:Snd n V) (ft:Fit n) (h0:Zj3 n=0) :
  Zfg (netT n,())=some (if acyB (ndL n) V then (Zid (ndL n) ((n6 n).length+1) (out0 (ndL n) V),(true,())) else ([],(false,()))):=by
 have hV2:=hs.v2
 have h6:=n6_ok hs
 have es:Zad (netT n,())=some (Zj3 n,()):=by
  unfold Zad Zfd
  rw [show netD ((netT n,()):TL [Za5]).1=n from Zww n,Za3w ft]
  rfl
 have eN:=Zb9l hs ft
 have hw:IntKind.wrap (.i64:IntKind) (n.vars+1)=((V+1:Nat):Int):=by rw [hs.vars,i64w (by omega)];omega
 have e6:=l6_is h6 (List.replicate (V+1) 0) (by simp)
 rw [n6_nd] at e6
 have hout:Zd0 (List.replicate (V+1) 0) ((ndL n).flatMap (·.to)) (-1)=out0 (ndL n) V:=rfl
 rw [hout] at e6
 have hol:(out0 (ndL n) V).length=V+1:=by unfold out0;rw [Zdo];simp
 have hob:∀u,lat (out0 (ndL n) V) u≤0:=by
  unfold out0
  refine Zwz (l:=List.replicate (V+1) 0) (by omega) _ (fun u=>?_)
  unfold lat
  rw [List.getD_eq_getElem?_getD,List.getElem?_replicate]
  split<;>simp
 have e14:=l14_is h6 (out0 (ndL n) V) hol hob
 rw [n6_nd] at e14
 have hNl:(n6 n).length=(ndL n).length:=by rw [←n6_nd,List.length_map]
 have ht:=Za38 hs.apart hs.hin hs.hto
 rw [←hNl] at ht
 have hle:=Zzw (ndL n) (Zid (ndL n) (n6 n).length (out0 (ndL n) V))
 show Zfw Zal Zam Zad Zdh Zcq Zde Zcc Zb6 (netT n)=_
 unfold Zfw
 refine (bnd_s es).trans (br_ff (by rw [h0];rfl) ?_)
 have hw':IntKind.wrap (.i64:IntKind) (@HAdd.hAdd Int Int Int _ (netT n).1 (1:Int))=((V+1:Nat):Int):=hw
 rw [hw']
 refine Zaj (by show both (decide _) (both (decide _) (decide _))=true;rw [decide_eq_true (by omega),decide_eq_true (by omega),decide_eq_true (by show (8:Int)*_≤_;omega)];rfl) ((bnd_s eN).trans ((bnd_s e6).trans ((bnd_s e14).trans ?_)))
 by_cases ha:acyB (ndL n) V=true
 ·have hz:=ht.2 ha
  rw [if_pos ha]
  refine br_ff (dec_f (by show ¬(0:Int)<((leftR (ndL n) (Zid (ndL n) (n6 n).length (out0 (ndL n) V)):Nat):Int);rw [hz];omega)) rfl
 ·have hz:leftR (ndL n) (Zid (ndL n) (n6 n).length (out0 (ndL n) V))≠0:=fun h=>ha (ht.1 h)
  rw [if_neg ha]
  refine br_tt (dec_t (by show (0:Int)<((leftR (ndL n) (Zid (ndL n) (n6 n).length (out0 (ndL n) V)):Nat):Int);omega)) rfl
theorem Zxe {n:NetD} (ft:Fit n):Zb7 (netT n,())=some (Zkz n,()):=by
 have es:Zad (netT n,())=some (Zj3 n,()):=by
  unfold Zad Zfd
  rw [show netD ((netT n,()):TL [Za5]).1=n from Zww n,Za3w ft]
  rfl
 by_cases h0:Zj3 n=0
 ·obtain ⟨V,hs⟩:=Za74 h0
  have hV:n.vars.toNat=V:=by rw [hs.vars];rfl
  have eL:=Zaa0 hs ft h0
  unfold Zkz
  rw [h0,hV,if_neg (by simp)]
  by_cases ha:acyB (ndL n) V=true
  ·rw [if_pos ha] at eL
   rw [if_pos ha]
   exact Zba es (br_ff (by rw [h0];rfl) (Zba eL (br_ff rfl rfl)))
  ·rw [if_neg ha] at eL
   rw [if_neg ha]
   exact Zba es (br_ff (by rw [h0];rfl) (Zba eL (br_tt rfl rfl)))
 ·unfold Zkz
  rw [if_pos h0]
  exact Zba es (br_tt (by simp [h0]) rfl)
end Go.Proofs.YtkcpdpplobhpaaaGreat.V
end
