import Derived.Test.YtdcnjfbffckblaaGreatKBs
import Derived.RangeFuncNested
import Derived.RangeFuncBound
import Derived.RangeFuncCalls
import Derived.RangeFuncLeaves
import Derived.Shelf.Abstract
import Derived.OwnWalkIn
import Derived.TacticsInMore
import Derived.LoopNIn
import Derived.LoopIn
import Derived.OneCell
set_option linter.unusedVariables false
set_option linter.unusedSimpArgs false
set_option linter.unnecessarySimpa false
section
namespace Go.Proofs.YtdcnjfbffckblaaGreat.Pl
structure dI where
 var:Int
 next:Int
 init:Int
structure ey where
 var:Int
 a:Int
 b:Int
structure iu where
 var:Int
 addr:List Int
structure il where
 on:Int
 addr:List Int
 data:List Int
structure cr where
 addr:Int
 word:Int
 any:Bool
 reads:List iu
 writes:List il
structure aG where
 vars:Int
 aU:List Int
 af:List dI
 bB:List Int
 bC:List Int
 constraints:List Int
 aa:List cr
 aw:List ey
def cu(v:Int)(word:Nat):List Int:=(List.range word).map fun i:Nat=>v+(i:Int)
def jJ(m:cr):List Int:=m.reads.flatMap fun r=>cu r.var m.word.toNat
def bV(n:aG):List Int:=n.aU++n.af.map (·.var)++n.aa.flatMap jJ++n.aw.map (·.var)
def lO(x:il):List Int:=x.on::(x.addr++x.data)
def jY(m:cr):List Int:=m.reads.flatMap (·.addr)++m.writes.flatMap lO
def jt(a:ey):List Int:=[a.a,a.b]
def cW(n:aG):List Int:=n.af.map (·.next)++n.bB++n.bC++n.constraints++n.aa.flatMap jY++n.aw.flatMap jt
def fu(m:cr):Bool:=decide (4<m.reads.length\/4<m.writes.length)
def hG(n:aG):Bool:=decide (n.vars<0\/2000<n.vars\/2000<n.aU.length\/2000<n.af.length\/2000<n.aw.length\/1000<n.bB.length+n.bC.length+n.constraints.length\/4<n.aa.length)||n.aa.any fu
def jr(m:cr)(r:iu):Bool:=(r.addr.length:Int) != m.addr
def iz(m:cr)(x:il):Bool:=(x.addr.length:Int) != m.addr||(x.data.length:Int) != m.word
def eu(m:cr):Bool:=decide (m.addr<1\/62<m.addr\/m.word<1\/64<m.word)||m.reads.any (jr m)||m.writes.any (iz m)
def fO(l:dI):Bool:=decide (l.init<0\/2<l.init)
def dup(V:Int)(pre:List Int):List Int->Int
 |[]=>if(pre.length:Int)<V then 7 else 0
 |v::l=>if v<1\/V<v then 5 else if pre.contains v then 6 else dup V (pre++[v]) l
def iD(V l:Int):Bool:=decide (l<0\/V<l / 2)
def ed(n:aG):Int:=
 if hG n then 10 else if n.aa.any eu then 9 else if n.af.any fO then 1
 else if dup n.vars [] (bV n)≠0 then dup n.vars [] (bV n)else if(cW n).any (iD n.vars)then 5 else 0
theorem TH{V:Int}{l:List Int}{k:Nat}(hk:l.length<=k):dup V (l.take k) (l.drop k)=if(l.length:Int)<V then 7 else 0:=by rw[List.drop_eq_nil_of_le hk,List.take_of_length_le hk];rfl
theorem K7{V:Int}{l:List Int}{k:Nat}{v:Int}(hk:l[k]?=some v)(h:v<1\/V<v):dup V (l.take k) (l.drop k)=5:=by obtain⟨h1,rfl⟩:=List.getElem?_eq_some_iff.1 hk;rw[List.drop_eq_getElem_cons h1,dup,if_pos h]
theorem XF{V:Int}{l:List Int}{k:Nat}{v:Int}(hk:l[k]?=some v)(h1:1<=v)(h2:v<=V)(h:(l.take k).contains v=true):dup V (l.take k) (l.drop k)=6:=by obtain⟨h3,rfl⟩:=List.getElem?_eq_some_iff.1 hk;rw[List.drop_eq_getElem_cons h3,dup,if_neg (by omega),if_pos h]
theorem cN{α:Type}{l:List α}{k:Nat}{v:α}(hk:l[k]?=some v):l.take (k+1)=l.take k++[v]:=by obtain⟨h3,rfl⟩:=List.getElem?_eq_some_iff.1 hk;exact List.take_succ_eq_append_getElem h3
theorem SY{V:Int}{l:List Int}{k:Nat}{v:Int}(hk:l[k]?=some v)(h1:1<=v)(h2:v<=V)(h:(l.take k).contains v=false):dup V (l.take k) (l.drop k)=dup V (l.take (k+1)) (l.drop (k+1)):=by have hs:=cN hk;obtain⟨h3,rfl⟩:=List.getElem?_eq_some_iff.1 hk;rw[List.drop_eq_getElem_cons h3,dup,if_neg (by omega),if_neg (by rw[h];simp),hs]
def gN(V:Nat)(pre:List Int):List Bool:=(List.range (V+1)).map fun v:Nat=>pre.contains (v:Int)
theorem yg(V:Nat)(pre:List Int):(gN V pre).length=V+1:=by simp[gN]
theorem yI{V:Nat}{pre:List Int}{v:Nat}(h:v<=V):(gN V pre)[v]?=some (pre.contains (v:Int)):=by unfold gN;rw[bT,List.getElem?_range (show v<V+1 by omega)];rfl
theorem JN(V:Nat):gN V []=List.replicate (V+1) false:=by
 apply List.ext_getElem?;intro i;by_cases h:i<=V
 .rw[yI h,List.getElem?_replicate,if_pos (by omega)];rfl
 .rw[List.getElem?_eq_none (by rw[yg];omega),List.getElem?_eq_none (by simp;omega)]
theorem Xh{V:Nat}{pre:List Int}{v:Nat}(h:v<=V):(gN V pre).set v true=gN V (pre++[(v:Int)]):=by
 apply List.ext_getElem?;intro i;by_cases hi:i<=V
 .rw[List.getElem?_set,yI hi,yI hi];by_cases e:v=i
  .subst e;simp[yg];omega
  .have:((i:Int) == (v:Int))=false:=by rw[beq_eq_false_iff_ne];omega
   simp[e];omega
 .rw[List.getElem?_eq_none (by simp[yg];omega),List.getElem?_eq_none (by rw[yg];omega)]
theorem SS(V:Nat):∀(l:List Int),l.Nodup->(∀x∈l,1<=x/\x<=(V:Int))->l.length<=V/\(V<=l.length->∀v:Nat,1<=v->v<=V->(v:Int)∈l):=by
 induction V with
 |zero=>
  intro l _ hr;have:l=[]:=by cases l with|nil=>rfl|cons x l=>have:=hr x (by simp);omega
  subst this;exact⟨by simp,fun _ v h1 h2=>by omega⟩
 |succ V ih=>
  intro l hn hr;by_cases hm:((V+1:Nat):Int)∈l
  .obtain⟨a,b,rfl⟩:=List.append_of_mem hm;have hn':(a++b).Nodup:=by rw[List.nodup_append]at hn |-;obtain⟨h1,h2,h3⟩:=hn;rw[List.nodup_cons]at h2;exact⟨h1,h2.2,fun x hx y hy=>h3 x hx y (by simp[hy])⟩
   have hnm:((V+1:Nat):Int)∉a++b:=by
    rw[List.nodup_append]at hn;obtain⟨h1,h2,h3⟩:=hn;rw[List.nodup_cons]at h2;intro h;rcases List.mem_append.1 h with h|h
    .exact h3 _ h _ (by simp) rfl
    .exact h2.1 h
   obtain⟨i1,i2⟩:=ih (a++b) hn' (fun x hx=>by have h:=hr x (by rcases List.mem_append.1 hx with h|h<;>simp[h]);have hne:x≠((V+1:Nat):Int):=fun e=>hnm (e▸hx);omega);have hlen:(a++((V+1:Nat):Int)::b).length=(a++b).length+1:=by simp;omega
   refine⟨by omega,fun hge v h1 h2=>?_⟩;by_cases e:v=V+1
   .subst e;simp
   .have:=i2 (by omega) v h1 (by omega);rcases List.mem_append.1 this with h|h<;>simp[h]
  .obtain⟨i1,i2⟩:=ih l hn (fun x hx=>by have h:=hr x hx;have hne:x≠((V+1:Nat):Int):=fun e=>hm (e▸hx);omega);exact⟨by omega,fun hge=>by omega⟩
end Go.Proofs.YtdcnjfbffckblaaGreat.Pl
end
section
namespace Go.Proofs.YtdcnjfbffckblaaGreat
open Go.RowKit Pl
def bH(x:Int):Prop:=-9223372036854775808<=x/\x<=9223372036854775807
def Sl(w:World)(B size:Nat)(A:Option Addr)(n c:Nat)(xs:List Value):Prop:=Reads w B size A n xs/\n<=c/\0<=c
def ints(l:List Int):List Value:=l.map (Value.int .i64)
section
variable{w w':World}{B B' size n c:Nat}{A:Option Addr}{xs:List Value}
theorem Sl.aN(h:Sl w B size A n c xs)(hk:∀p:Addr,p.block<B->w'.cell? p=w.cell? p):Sl w' B size A n c xs:=⟨h.1.aN hk,h.2⟩
theorem Sl.more(h:Sl w B size A n c xs)(hB:B<=B'):Sl w B' size A n c xs:=⟨h.1.more hB,h.2⟩
theorem Sl.own{base:Nat}{e:TypeId}(h:w.ownsRow base e size (.slice A n c) n xs):Sl w w.heap.size size A n c xs:=by obtain⟨A',c',hv,h1,h2,h3⟩:=sN h;injection hv with e1 _ e2;subst e1 e2;exact⟨h3,h1,Nat.zero_le _⟩
end
def Pl.dI.cells(l:dI):List Value:=[.int .i64 l.var,.int .i64 l.next,.int .i64 l.init]
def Pl.ey.cells(a:ey):List Value:=[.int .i64 a.var,.int .i64 a.a,.int .i64 a.b]
structure bS where
 var:Int
 A:Option Addr
 c:Nat
 addr:List Int
def bS.cells(r:bS):List Value:=[.int .i64 r.var,.slice r.A r.addr.length r.c]
def bS.d(r:bS):iu:=⟨r.var,r.addr⟩
def bS.bp(w:World)(B:Nat)(r:bS):Prop:=Sl w B 1 r.A r.addr.length r.c (ints r.addr)
structure cF where
 on:Int
 A:Option Addr
 c:Nat
 addr:List Int
 A2:Option Addr
 c2:Nat
 data:List Int
def cF.cells(r:cF):List Value:=[.int .i64 r.on,.slice r.A r.addr.length r.c,.slice r.A2 r.data.length r.c2]
def cF.d(r:cF):il:=⟨r.on,r.addr,r.data⟩
def cF.bp(w:World)(B:Nat)(r:cF):Prop:=Sl w B 1 r.A r.addr.length r.c (ints r.addr)/\Sl w B 1 r.A2 r.data.length r.c2 (ints r.data)
structure aW where
 addr:Int
 word:Int
 any:Bool
 A:Option Addr
 c:Nat
 reads:List bS
 A2:Option Addr
 c2:Nat
 writes:List cF
def aW.cells(m:aW):List Value:=[.int .i64 m.addr,.int .i64 m.word,.bool m.any,.slice m.A m.reads.length m.c,.slice m.A2 m.writes.length m.c2]
def aW.v(m:aW):Value:=.agg #[.int .i64 m.addr,.int .i64 m.word,.bool m.any,.slice m.A m.reads.length m.c,.slice m.A2 m.writes.length m.c2]
def aW.d(m:aW):cr:=⟨m.addr,m.word,m.any,m.reads.map bS.d,m.writes.map cF.d⟩
structure aW.bp(w:World)(B:Nat)(m:aW):Prop where
 rd:Sl w B 2 m.A m.reads.length m.c (m.reads.flatMap bS.cells)
 iP:∀r∈m.reads,r.bp w B
 wr:Sl w B 3 m.A2 m.writes.length m.c2 (m.writes.flatMap cF.cells)
 oq:∀r∈m.writes,r.bp w B
structure bf where
 vars:Int
 Ai:Option Addr
 ci:Nat
 aU:List Int
 Al:Option Addr
 cl:Nat
 af:List dI
 Ao:Option Addr
 co:Nat
 bB:List Int
 Ab:Option Addr
 cb:Nat
 bC:List Int
 Ac:Option Addr
 cc:Nat
 constraints:List Int
 Am:Option Addr
 cm:Nat
 aa:List aW
 An:Option Addr
 cn:Nat
 aw:List ey
def bf.d(n:bf):aG:=⟨n.vars,n.aU,n.af,n.bB,n.bC,n.constraints,n.aa.map aW.d,n.aw⟩
def bf.fs(n:bf):Array Value:=#[.int .i64 n.vars,.slice n.Ai n.aU.length n.ci,.slice n.Al n.af.length n.cl,.slice n.Ao n.bB.length n.co,.slice n.Ab n.bC.length n.cb,.slice n.Ac n.constraints.length n.cc,.slice n.Am n.aa.length n.cm,.slice n.An n.aw.length n.cn]
def bf.v(n:bf):Value:=.agg n.fs
structure bf.bp(w:World)(B:Nat)(n:bf):Prop where
 ins:Sl w B 1 n.Ai n.aU.length n.ci (ints n.aU)
 au:Sl w B 3 n.Al n.af.length n.cl (n.af.flatMap dI.cells)
 out:Sl w B 1 n.Ao n.bB.length n.co (ints n.bB)
 bad:Sl w B 1 n.Ab n.bC.length n.cb (ints n.bC)
 lI:Sl w B 1 n.Ac n.constraints.length n.cc (ints n.constraints)
 mem:Sl w B 5 n.Am n.aa.length n.cm (n.aa.flatMap aW.cells)
 mA:∀m∈n.aa,m.bp w B
 and:Sl w B 3 n.An n.aw.length n.cn (n.aw.flatMap ey.cells)
section
variable{w w':World}{B B':Nat}
theorem bS.bp.aN{r:bS}(h:r.bp w B)(hk:∀p:Addr,p.block<B->w'.cell? p=w.cell? p):r.bp w' B:=Sl.aN h hk
theorem cF.bp.aN{r:cF}(h:r.bp w B)(hk:∀p:Addr,p.block<B->w'.cell? p=w.cell? p):r.bp w' B:=⟨h.1.aN hk,h.2.aN hk⟩
theorem aW.bp.aN{m:aW}(h:m.bp w B)(hk:∀p:Addr,p.block<B->w'.cell? p=w.cell? p):m.bp w' B:=⟨h.rd.aN hk,fun r hr=>(h.iP r hr).aN hk,h.wr.aN hk,fun r hr=>(h.oq r hr).aN hk⟩
theorem bf.bp.aN{n:bf}(h:n.bp w B)(hk:∀p:Addr,p.block<B->w'.cell? p=w.cell? p):n.bp w' B:=⟨h.ins.aN hk,h.au.aN hk,h.out.aN hk,h.bad.aN hk,h.lI.aN hk,h.mem.aN hk,fun m hm=>(h.mA m hm).aN hk,h.and.aN hk⟩
theorem bS.bp.more{r:bS}(h:r.bp w B)(hB:B<=B'):r.bp w B':=Sl.more h hB
theorem cF.bp.more{r:cF}(h:r.bp w B)(hB:B<=B'):r.bp w B':=⟨h.1.more hB,h.2.more hB⟩
theorem aW.bp.more{m:aW}(h:m.bp w B)(hB:B<=B'):m.bp w B':=⟨h.rd.more hB,fun r hr=>(h.iP r hr).more hB,h.wr.more hB,fun r hr=>(h.oq r hr).more hB⟩
theorem bf.bp.more{n:bf}(h:n.bp w B)(hB:B<=B'):n.bp w B':=⟨h.ins.more hB,h.au.more hB,h.out.more hB,h.bad.more hB,h.lI.more hB,h.mem.more hB,fun m hm=>(h.mA m hm).more hB,h.and.more hB⟩
theorem Sl.below{size n c:Nat}{A:Option Addr}{xs:List Value}(h:Sl w B size A n c xs)(hb:Below B w w'):Sl w' B size A n c xs:=h.aN fun _ hp=>hb.cell hp
theorem aW.bp.below{m:aW}(h:m.bp w B)(hb:Below B w w'):m.bp w' B:=h.aN fun _ hp=>hb.cell hp
theorem bf.bp.below{n:bf}(h:n.bp w B)(hb:Below B w w'):n.bp w' B:=h.aN fun _ hp=>hb.cell hp
theorem bS.bp.below{m:bS}(h:m.bp w B)(hb:Below B w w'):m.bp w' B:=h.aN fun _ hp=>hb.cell hp
theorem cF.bp.below{m:cF}(h:m.bp w B)(hb:Below B w w'):m.bp w' B:=h.aN fun _ hp=>hb.cell hp
end
theorem Sl.elem{α:Type}{f:α->List Value}{C:Nat}{w:World}{B k c:Nat}{A:Option Addr}{l:List α}(h:Sl w B C A l.length c (l.flatMap f))(hC:0<C)(hf:∀x,(f x).length=C)(hk:k<l.length) :
  ∃b off x,A=some ⟨b,off,none⟩/\b<B/\l[k]?=some x/\x∈l/\∀j u,(f x)[j]?=some u->w.cell? ⟨b,off+(k*C+j),none⟩=some u:=by
 obtain⟨b,off,x,h1,h2,h3,h4⟩:=Reads.elem h.1 hC hf rfl hk;exact⟨b,off,x,h1,h2,h3,cK h3,h4⟩
theorem dI.at_{w:World}{b off k:Nat}{l:dI}(h:∀j u,(dI.cells l)[j]?=some u->w.cell? ⟨b,off+(k*3+j),none⟩=some u) :
  w.cell? ⟨b,off+k*3,none⟩=some (.int .i64 l.var)/\w.cell? ⟨b,off+k*3+1,none⟩=some (.int .i64 l.next)/\w.cell? ⟨b,off+k*3+2,none⟩=some (.int .i64 l.init):=
 ⟨h 0 _ rfl,h 1 _ rfl,h 2 _ rfl⟩
theorem ey.at_{w:World}{b off k:Nat}{l:ey}(h:∀j u,(ey.cells l)[j]?=some u->w.cell? ⟨b,off+(k*3+j),none⟩=some u) :
  w.cell? ⟨b,off+k*3,none⟩=some (.int .i64 l.var)/\w.cell? ⟨b,off+k*3+1,none⟩=some (.int .i64 l.a)/\w.cell? ⟨b,off+k*3+2,none⟩=some (.int .i64 l.b):=
 ⟨h 0 _ rfl,h 1 _ rfl,h 2 _ rfl⟩
theorem bS.at_{w:World}{b off k:Nat}{l:bS}(h:∀j u,l.cells[j]?=some u->w.cell? ⟨b,off+(k*2+j),none⟩=some u) :
  w.cell? ⟨b,off+k*2,none⟩=some (.int .i64 l.var)/\w.cell? ⟨b,off+k*2+1,none⟩=some (.slice l.A l.addr.length l.c):=
 ⟨h 0 _ rfl,h 1 _ rfl⟩
theorem cF.at_{w:World}{b off k:Nat}{l:cF}(h:∀j u,l.cells[j]?=some u->w.cell? ⟨b,off+(k*3+j),none⟩=some u) :
  w.cell? ⟨b,off+k*3,none⟩=some (.int .i64 l.on)/\w.cell? ⟨b,off+k*3+1,none⟩=some (.slice l.A l.addr.length l.c)/\w.cell? ⟨b,off+k*3+2,none⟩=some (.slice l.A2 l.data.length l.c2):=
 ⟨h 0 _ rfl,h 1 _ rfl,h 2 _ rfl⟩
theorem aW.at_{w:World}{b off k:Nat}{l:aW}(h:∀j u,l.cells[j]?=some u->w.cell? ⟨b,off+(k*5+j),none⟩=some u) :
  w.cell? ⟨b,off+k*5,none⟩=some (.int .i64 l.addr)/\w.cell? ⟨b,off+k*5+1,none⟩=some (.int .i64 l.word)/\w.cell? ⟨b,off+k*5+2,none⟩=some (.bool l.any) /\
   w.cell? ⟨b,off+k*5+3,none⟩=some (.slice l.A l.reads.length l.c)/\w.cell? ⟨b,off+k*5+4,none⟩=some (.slice l.A2 l.writes.length l.c2):=
 ⟨h 0 _ rfl,h 1 _ rfl,h 2 _ rfl,h 3 _ rfl,h 4 _ rfl⟩
theorem Sl.oF{w:World}{B k c:Nat}{A:Option Addr}{l:List Int}(h:Sl w B 1 A l.length c (ints l))(hk:k<l.length) :
  ∃b off x,A=some ⟨b,off,none⟩/\b<B/\l[k]?=some x/\x∈l/\w.cell? ⟨b,off+k,none⟩=some (.int .i64 x):=by
 obtain⟨b,off,h1,h2,h3⟩:=Reads.oF h.1 hk;have hx:l[k]?=some l[k]:=bu hk;refine⟨b,off,l[k],h1,h2,hx,cK hx,?_⟩;rw[h3,dP,hx];rfl
structure q9(m:cr):Prop where
 word:bH m.word/\m.word<=4000
 addr:bH m.addr
 pV:m.reads.length<=100
 zi:m.writes.length<=100
 iP:∀r∈m.reads,r.addr.length<=4000/\-1099511627776<=r.var/\r.var<=1099511627776/\∀x∈r.addr,bH x
 oq:∀r∈m.writes,r.addr.length<=4000/\r.data.length<=4000/\bH r.on/\(∀x∈r.addr,bH x)/\∀x∈r.data,bH x
structure Fit(n:aG):Prop where
 vars:bH n.vars
 ins:n.aU.length<=4000/\∀x∈n.aU,bH x
 au:n.af.length<=4000/\∀l∈n.af,bH l.var/\bH l.next/\bH l.init
 out:n.bB.length<=4000/\∀x∈n.bB,bH x
 bad:n.bC.length<=4000/\∀x∈n.bC,bH x
 lI:n.constraints.length<=4000/\∀x∈n.constraints,bH x
 aa:n.aa.length<=100/\∀m∈n.aa,q9 m
 aw:n.aw.length<=4000/\∀a∈n.aw,bH a.var/\bH a.a/\bH a.b
theorem i6{α:Type}{p:α->Bool}{l:List α}{k:Nat}{x:α}(hx:l[k]?=some x)(h:(l.take k).any p=false)(hp:p x=false):(l.take (k+1)).any p=false:=by rw[cN hx,List.any_append,h];simp[hp]
theorem i7{α:Type}{p:α->Bool}{l:List α}{k:Nat}(hk:l.length<=k)(h:(l.take k).any p=false):l.any p=false:=by rwa [List.take_of_length_le hk]at h
def qZ(b:Bool)(w:World)(e:Ending)(w':World):Prop:=∃i:Int,e=.returned (.int .i64 i)/\decide (0<=i)=b/\Below w.heap.size w w'
theorem Xe(m:aW)(g:Nat)(v:Int)(A:Option Addr)(n c:Nat)(w:World)(hg:aS w g 87 m.cells.toArray) :
  Calls Tryz.prog 334 #[.agg #[.int .i64 v,.slice A n c],.pointer (some ⟨g,0,none⟩)] w fun e w'=>e=.returned (.bool ((n:Int) != m.addr))/\Below w.heap.size w w':=by
 have h0:(w.alloc (.cells #[.int .i64 v,.slice A n c] 174)).cell? ⟨g,0,none⟩=some (.int .i64 m.addr):=((hg.alloc _).cell 0);clear hg
 go_enter Tryz.func334,Tryz.ntmps334
 go_wp2_with fail
 go_ret
 exact⟨rfl,(Below.refl _ _).alloc (Nat.le_refl _) _⟩
theorem Xd(m:aW)(g:Nat)(v:Int)(A:Option Addr)(n c:Nat)(A2:Option Addr)(n2 c2:Nat)(w:World)(hg:aS w g 87 m.cells.toArray) :
  Calls Tryz.prog 335 #[.agg #[.int .i64 v,.slice A n c,.slice A2 n2 c2],.pointer (some ⟨g,0,none⟩)] w fun e w'=>e=.returned (.bool ((n:Int) != m.addr||(n2:Int) != m.word))/\Below w.heap.size w w':=by
 have h0:(w.alloc (.cells #[.int .i64 v,.slice A n c,.slice A2 n2 c2] 111)).cell? ⟨g,0,none⟩=some (.int .i64 m.addr):=((hg.alloc _).cell 0);have h1:(w.alloc (.cells #[.int .i64 v,.slice A n c,.slice A2 n2 c2] 111)).cell? ⟨g,1,none⟩=some (.int .i64 m.word):=((hg.alloc _).cell 1);clear hg;rcases hb:((n:Int) != m.addr)with _|_
 all_goals
  go_enter Tryz.func335,Tryz.ntmps335
  go_wp2_with fail
  go_ret
  exact⟨by simp,(Below.refl _ _).alloc (Nat.le_refl _) _⟩
theorem Xk(a wd:Int)(y:Bool)(A:Option Addr)(n c:Nat)(A2:Option Addr)(n2 c2:Nat)(w:World)(hn:n<=100)(hn2:n2<=100) :
  Calls Tryz.prog 332 #[.agg #[.int .i64 a,.int .i64 wd,.bool y,.slice A n c,.slice A2 n2 c2]] w fun e w'=>e=.returned (.bool (decide (4<n\/4<n2)))/\Below w.heap.size w w':=by
 by_cases h1:4<n<;>by_cases h2:4<n2
 all_goals
  go_enter Tryz.func332,Tryz.ntmps332
  go_wp2_with fail
  go_ret
  exact⟨mj (by rw[Bool.eq_iff_iff];try (first|(simp;done)|(simp;omega))),(Below.refl _ _).alloc (Nat.le_refl _) _⟩
theorem S7(l:dI)(w:World) :
  Calls Tryz.prog 271 #[.agg #[.int .i64 l.var,.int .i64 l.next,.int .i64 l.init]] w fun e w'=>e=.returned (.bool (fO l))/\Below w.heap.size w w':=by
 obtain⟨z,hz⟩:∃z,z=fO l:=⟨_,rfl⟩;have HZ:=Lib.hid hz;rw[<-hz];clear hz;obtain⟨a,b,i⟩:=l;rcases(show i<0\/(¬i<0/\2<i)\/(¬i<0/\¬2<i)from by omega)with h1|⟨h1,h2⟩|⟨h1,h2⟩
 all_goals
  go_enter Tryz.func271,Tryz.ntmps271
  go_wp2_with fail
  go_ret
  exact⟨mj (by rw[HZ.out,Bool.eq_iff_iff];unfold fO;first|(simp;done)|(simp;omega)),(Below.refl _ _).alloc (Nat.le_refl _) _⟩
set_option maxHeartbeats 400000
theorem Wt(m:aW)(g:Nat)(A:Option Addr)(c:Nat)(l:List bS)(w:World)(hS:Sl w w.heap.size 2 A l.length c (l.flatMap bS.cells))(hg:aS w g 87 m.cells.toArray)(hn:l.length<=4000) :
  Calls Tryz.prog 378 #[.slice A l.length c,.func (.func 334) #[] #[.pointer (some ⟨g,0,none⟩)]] w (qZ (l.any (fun x=>jr m.d x.d)) w):=by
 go_enter Tryz.func378,Tryz.ntmps378
 go_wp2_with fail
 go_loopw [8] (fun i wr=>∃k:Nat,k<=l.length/\i=.int .i64 k/\(l.take k).any (fun x=>jr m.d x.d)=false/\Below w.heap.size w wr) (fun i _=>l.length-(intOf i).toNat)
 case atStart=>exact⟨0,Nat.zero_le _,rfl,rfl,Below.refl _ _⟩
 case round=>
  obtain⟨k,hk,rfl,hno,hbel⟩:=hrel;have HNO:=Lib.hid hno;clear hno;by_cases hlt:k<l.length
  .obtain⟨b,off,x,rfl,hb,hx,hm,hcs⟩:=(hS.below hbel).elem (by omega) (fun _=>rfl) hlt;obtain⟨hc0,hc1⟩:=bS.at_ hcs;have HX:=Lib.hid hx;have HM:=Lib.hid hm;clear hcs hx hm
   go_wp2_with fail
   refine(Xe m g x.var x.A x.addr.length x.c wr (hg.below hbel hg.lt)).mono ?_;rintro e w1 ⟨rfl,hb1⟩;rcases hp:(fun x=>jr m.d x.d) x with _|_
   .have hp':=hp;change((x.addr.length:Int) != m.addr)=_ at hp';rw[hp'];clear hp'
    go_wp2_with fail
    go_roundw
    case rel=>exact⟨k+1,by omega,by go_num,i6 HX.out HNO.out hp,hbel.trans (hb1.mono hbel.size)⟩
    case measure=>simp[intOf];omega
   .have hp':=hp;change((x.addr.length:Int) != m.addr)=_ at hp';rw[hp'];clear hp'
    go_wp2_with fail
    go_ret
    exact⟨k,rfl,by rw[List.any_eq_true.2 ⟨x,HM.out,hp⟩];simp,hbel.trans (hb1.mono hbel.size)⟩
  .go_wp2_with fail
   go_ret
   exact⟨-1,rfl,by rw[i7 (by omega) HNO.out];rfl,hbel⟩
theorem WA(m:aW)(g:Nat)(A:Option Addr)(c:Nat)(l:List bS)(w:World)(hS:Sl w w.heap.size 2 A l.length c (l.flatMap bS.cells))(hg:aS w g 87 m.cells.toArray)(hn:l.length<=4000) :
  Calls Tryz.prog 336 #[.slice A l.length c,.func (.func 334) #[] #[.pointer (some ⟨g,0,none⟩)]] w fun e w'=>e=.returned (.bool (l.any (fun x=>jr m.d x.d)))/\Below w.heap.size w w':=by
 go_enter Tryz.func336,Tryz.ntmps336
 go_wp2_with fail
 refine(Wt m g A c l w hS hg hn).mono ?_;rintro e w1 ⟨i,rfl,hi,hb1⟩;have HI:=Lib.hid hi;clear hi
 go_wp2_with fail
 go_ret
 exact⟨by rw[HI.out];rfl,hb1⟩
theorem VZ(m:aW)(g:Nat)(A:Option Addr)(c:Nat)(l:List cF)(w:World)(hS:Sl w w.heap.size 3 A l.length c (l.flatMap cF.cells))(hg:aS w g 87 m.cells.toArray)(hn:l.length<=4000) :
  Calls Tryz.prog 379 #[.slice A l.length c,.func (.func 335) #[] #[.pointer (some ⟨g,0,none⟩)]] w (qZ (l.any (fun x=>iz m.d x.d)) w):=by
 go_enter Tryz.func379,Tryz.ntmps379
 go_wp2_with fail
 go_loopw [8] (fun i wr=>∃k:Nat,k<=l.length/\i=.int .i64 k/\(l.take k).any (fun x=>iz m.d x.d)=false/\Below w.heap.size w wr) (fun i _=>l.length-(intOf i).toNat)
 case atStart=>exact⟨0,Nat.zero_le _,rfl,rfl,Below.refl _ _⟩
 case round=>
  obtain⟨k,hk,rfl,hno,hbel⟩:=hrel;have HNO:=Lib.hid hno;clear hno;by_cases hlt:k<l.length
  .obtain⟨b,off,x,rfl,hb,hx,hm,hcs⟩:=(hS.below hbel).elem (by omega) (fun _=>rfl) hlt;obtain⟨hc0,hc1,hc2⟩:=cF.at_ hcs;have HX:=Lib.hid hx;have HM:=Lib.hid hm;clear hcs hx hm
   go_wp2_with fail
   refine(Xd m g x.on x.A x.addr.length x.c x.A2 x.data.length x.c2 wr (hg.below hbel hg.lt)).mono ?_;rintro e w1 ⟨rfl,hb1⟩;rcases hp:(fun x=>iz m.d x.d) x with _|_
   .have hp':=hp;change((x.addr.length:Int) != m.addr||(x.data.length:Int) != m.word)=_ at hp';rw[hp'];clear hp'
    go_wp2_with fail
    go_roundw
    case rel=>exact⟨k+1,by omega,by go_num,i6 HX.out HNO.out hp,hbel.trans (hb1.mono hbel.size)⟩
    case measure=>simp[intOf];omega
   .have hp':=hp;change((x.addr.length:Int) != m.addr||(x.data.length:Int) != m.word)=_ at hp';rw[hp'];clear hp'
    go_wp2_with fail
    go_ret
    exact⟨k,rfl,by rw[List.any_eq_true.2 ⟨x,HM.out,hp⟩];simp,hbel.trans (hb1.mono hbel.size)⟩
  .go_wp2_with fail
   go_ret
   exact⟨-1,rfl,by rw[i7 (by omega) HNO.out];rfl,hbel⟩
theorem Wc(m:aW)(g:Nat)(A:Option Addr)(c:Nat)(l:List cF)(w:World)(hS:Sl w w.heap.size 3 A l.length c (l.flatMap cF.cells))(hg:aS w g 87 m.cells.toArray)(hn:l.length<=4000) :
  Calls Tryz.prog 337 #[.slice A l.length c,.func (.func 335) #[] #[.pointer (some ⟨g,0,none⟩)]] w fun e w'=>e=.returned (.bool (l.any (fun x=>iz m.d x.d)))/\Below w.heap.size w w':=by
 go_enter Tryz.func337,Tryz.ntmps337
 go_wp2_with fail
 refine(VZ m g A c l w hS hg hn).mono ?_;rintro e w1 ⟨i,rfl,hi,hb1⟩;have HI:=Lib.hid hi;clear hi
 go_wp2_with fail
 go_ret
 exact⟨by rw[HI.out];rfl,hb1⟩
theorem V0  (A:Option Addr)(c:Nat)(l:List aW)(w:World)(hS:Sl w w.heap.size 5 A l.length c (l.flatMap aW.cells))(hf:∀x∈l,x.reads.length<=100/\x.writes.length<=100)(hn:l.length<=4000) :
  Calls Tryz.prog 333 #[.slice A l.length c,.func (.func 332) #[] #[]] w (qZ (l.any (fun x=>fu x.d)) w):=by
 go_enter Tryz.func333,Tryz.ntmps333
 go_wp2_with fail
 go_loopw [8] (fun i wr=>∃k:Nat,k<=l.length/\i=.int .i64 k/\(l.take k).any (fun x=>fu x.d)=false/\Below w.heap.size w wr) (fun i _=>l.length-(intOf i).toNat)
 case atStart=>exact⟨0,Nat.zero_le _,rfl,rfl,Below.refl _ _⟩
 case round=>
  obtain⟨k,hk,rfl,hno,hbel⟩:=hrel;have HNO:=Lib.hid hno;clear hno;by_cases hlt:k<l.length
  .obtain⟨b,off,x,rfl,hb,hx,hm,hcs⟩:=(hS.below hbel).elem (by omega) (fun _=>rfl) hlt;obtain⟨hc0,hc1,hc2,hc3,hc4⟩:=aW.at_ hcs;have HX:=Lib.hid hx;have HM:=Lib.hid hm;clear hcs hx hm
   go_wp2_with fail
   refine(Xk x.addr x.word x.any x.A x.reads.length x.c x.A2 x.writes.length x.c2 wr (hf x HM.out).1 (hf x HM.out).2).mono ?_;rintro e w1 ⟨rfl,hb1⟩;rcases hp:(fun x=>fu x.d) x with _|_
   .have hp':=hp;simp only[fu,aW.d,aK]at hp';rw[hp'];clear hp'
    go_wp2_with fail
    go_roundw
    case rel=>exact⟨k+1,by omega,by go_num,i6 HX.out HNO.out hp,hbel.trans (hb1.mono hbel.size)⟩
    case measure=>simp[intOf];omega
   .have hp':=hp;simp only[fu,aW.d,aK]at hp';rw[hp'];clear hp'
    go_wp2_with fail
    go_ret
    exact⟨k,rfl,by rw[List.any_eq_true.2 ⟨x,HM.out,hp⟩];simp,hbel.trans (hb1.mono hbel.size)⟩
  .go_wp2_with fail
   go_ret
   exact⟨-1,rfl,by rw[i7 (by omega) HNO.out];rfl,hbel⟩
theorem Wd  (A:Option Addr)(c:Nat)(l:List aW)(w:World)(hS:Sl w w.heap.size 5 A l.length c (l.flatMap aW.cells))(hf:∀x∈l,x.reads.length<=100/\x.writes.length<=100)(hn:l.length<=4000) :
  Calls Tryz.prog 268 #[.slice A l.length c,.func (.func 332) #[] #[]] w fun e w'=>e=.returned (.bool (l.any (fun x=>fu x.d)))/\Below w.heap.size w w':=by
 go_enter Tryz.func268,Tryz.ntmps268
 go_wp2_with fail
 refine(V0  A c l w hS hf hn).mono ?_;rintro e w1 ⟨i,rfl,hi,hb1⟩;have HI:=Lib.hid hi;clear hi
 go_wp2_with fail
 go_ret
 exact⟨by rw[HI.out];rfl,hb1⟩
theorem Wu  (A:Option Addr)(c:Nat)(l:List dI)(w:World)(hS:Sl w w.heap.size 3 A l.length c (l.flatMap dI.cells))(hn:l.length<=4000) :
  Calls Tryz.prog 338 #[.slice A l.length c,.func (.func 271) #[] #[]] w (qZ (l.any fO) w):=by
 go_enter Tryz.func338,Tryz.ntmps338
 go_wp2_with fail
 go_loopw [8] (fun i wr=>∃k:Nat,k<=l.length/\i=.int .i64 k/\(l.take k).any fO=false/\Below w.heap.size w wr) (fun i _=>l.length-(intOf i).toNat)
 case atStart=>exact⟨0,Nat.zero_le _,rfl,rfl,Below.refl _ _⟩
 case round=>
  obtain⟨k,hk,rfl,hno,hbel⟩:=hrel;have HNO:=Lib.hid hno;clear hno;by_cases hlt:k<l.length
  .obtain⟨b,off,x,rfl,hb,hx,hm,hcs⟩:=(hS.below hbel).elem (by omega) (fun _=>rfl) hlt;obtain⟨hc0,hc1,hc2⟩:=dI.at_ hcs;have HX:=Lib.hid hx;have HM:=Lib.hid hm;clear hcs hx hm
   go_wp2_with fail
   refine(S7 x wr).mono ?_;rintro e w1 ⟨rfl,hb1⟩;rcases hp:fO x with _|_
   .have hp':=hp;clear hp'
    go_wp2_with fail
    go_roundw
    case rel=>exact⟨k+1,by omega,by go_num,i6 HX.out HNO.out hp,hbel.trans (hb1.mono hbel.size)⟩
    case measure=>simp[intOf];omega
   .have hp':=hp;clear hp'
    go_wp2_with fail
    go_ret
    exact⟨k,rfl,by rw[List.any_eq_true.2 ⟨x,HM.out,hp⟩];simp,hbel.trans (hb1.mono hbel.size)⟩
  .go_wp2_with fail
   go_ret
   exact⟨-1,rfl,by rw[i7 (by omega) HNO.out];rfl,hbel⟩
theorem WB  (A:Option Addr)(c:Nat)(l:List dI)(w:World)(hS:Sl w w.heap.size 3 A l.length c (l.flatMap dI.cells))(hn:l.length<=4000) :
  Calls Tryz.prog 270 #[.slice A l.length c,.func (.func 271) #[] #[]] w fun e w'=>e=.returned (.bool (l.any fO))/\Below w.heap.size w w':=by
 go_enter Tryz.func270,Tryz.ntmps270
 go_wp2_with fail
 refine(Wu  A c l w hS hn).mono ?_;rintro e w1 ⟨i,rfl,hi,hb1⟩;have HI:=Lib.hid hi;clear hi
 go_wp2_with fail
 go_ret
 exact⟨by rw[HI.out];rfl,hb1⟩
theorem Tx(m:aW)(w:World)(hm:m.bp w w.heap.size)(h1:m.reads.length<=4000)(h2:m.writes.length<=4000) :
  Calls Tryz.prog 269 #[m.v] w fun e w'=>e=.returned (.bool (eu m.d))/\Below w.heap.size w w':=by
 have hW:eu m.d=(decide (m.addr<1\/62<m.addr\/m.word<1\/64<m.word)||m.reads.any (fun x=>jr m.d x.d)||m.writes.any (fun x=>iz m.d x.d)):=by unfold eu;rw[show m.d.reads=m.reads.map bS.d from rfl,show m.d.writes=m.writes.map cF.d from rfl,List.any_map,List.any_map];rfl
 have HW:=Lib.hid hW;clear hW;have hm2:m.bp (w.alloc (.cells m.cells.toArray 87)) w.heap.size:=hm.aN fun p hp=>World.cell?_alloc_lt w _ p hp;have HM:=Lib.hid hm2;have HG:=Lib.hid (aS.new w 87 m.cells.toArray);clear hm hm2;unfold aW.v;rcases(show m.addr<1\/(¬m.addr<1/\62<m.addr)\/(¬m.addr<1/\¬62<m.addr/\m.word<1)\/(¬m.addr<1/\¬62<m.addr/\¬m.word<1/\64<m.word)\/(¬m.addr<1/\¬62<m.addr/\¬m.word<1/\¬64<m.word)from by omega)with a1|⟨a1,a2⟩|⟨a1,a2,a3⟩|⟨a1,a2,a3,a4⟩|⟨a1,a2,a3,a4⟩
 iterate 4
  .go_enter Tryz.func269,Tryz.ntmps269
   go_wp2_with fail
   go_ret
   exact⟨by rw[HW.out];rw[bF (by omega)];rfl,(Below.refl _ _).alloc (Nat.le_refl _) _⟩
 .go_enter Tryz.func269,Tryz.ntmps269
  go_wp2_with fail
  refine(WA m w.heap.size m.A m.c m.reads _ (HM.out.rd.more (by simp)) HG.out h1).mono ?_;rintro e w1 ⟨rfl,hb1⟩;have hsz:w.heap.size<w1.heap.size:=by have:=hb1.size;simp at this;omega
  have hc4:w1.cell? ⟨w.heap.size,4,none⟩=some (.slice m.A2 m.writes.length m.c2):=(HG.out.below hb1 (by simp)).cell 4;have HG1:=Lib.hid (HG.out.below hb1 (by simp));have hb0:Below w.heap.size w w1:=((Below.refl _ _).alloc (Nat.le_refl _) _).trans (hb1.mono (by simp));have HM1:=Lib.hid (HM.out.below (hb1.mono (by simp)));clear hb1;rcases hp:m.reads.any (fun x=>jr m.d x.d)with _|_
  .rw[hp]at HW;clear hp
   go_wp2_with fail
   refine(Wc m w.heap.size m.A2 m.c2 m.writes _ (HM1.out.wr.more (by omega)) HG1.out h2).mono ?_;rintro e w2 ⟨rfl,hb2⟩
   go_wp2_with fail
   go_ret
   exact⟨by rw[HW.out,cw (by omega)];rfl,hb0.trans (hb2.mono (by omega))⟩
  .rw[hp]at HW;clear hp
   go_wp2_with fail
   go_ret
   exact⟨by rw[HW.out];simp,hb0⟩
theorem Wr  (A:Option Addr)(c:Nat)(l:List aW)(w:World)(hS:Sl w w.heap.size 5 A l.length c (l.flatMap aW.cells))(hf:∀x∈l,x.bp w w.heap.size/\x.reads.length<=100/\x.writes.length<=100)(hn:l.length<=4000) :
  Calls Tryz.prog 333 #[.slice A l.length c,.func (.func 269) #[] #[]] w (qZ (l.any (fun x=>eu x.d)) w):=by
 go_enter Tryz.func333,Tryz.ntmps333
 go_wp2_with fail
 go_loopw [8] (fun i wr=>∃k:Nat,k<=l.length/\i=.int .i64 k/\(l.take k).any (fun x=>eu x.d)=false/\Below w.heap.size w wr) (fun i _=>l.length-(intOf i).toNat)
 case atStart=>exact⟨0,Nat.zero_le _,rfl,rfl,Below.refl _ _⟩
 case round=>
  obtain⟨k,hk,rfl,hno,hbel⟩:=hrel;have HNO:=Lib.hid hno;clear hno;by_cases hlt:k<l.length
  .obtain⟨b,off,x,rfl,hb,hx,hm,hcs⟩:=(hS.below hbel).elem (by omega) (fun _=>rfl) hlt;obtain⟨hc0,hc1,hc2,hc3,hc4⟩:=aW.at_ hcs;have HX:=Lib.hid hx;have HM:=Lib.hid hm;clear hcs hx hm
   go_wp2_with fail
   refine(Tx x wr (((hf x HM.out).1.below hbel).more hbel.size) (by have:=(hf x HM.out).2.1;omega) (by have:=(hf x HM.out).2.2;omega)).mono ?_;rintro e w1 ⟨rfl,hb1⟩;rcases hp:(fun x=>eu x.d) x with _|_
   .have hp':=hp;clear hp'
    go_wp2_with fail
    go_roundw
    case rel=>exact⟨k+1,by omega,by go_num,i6 HX.out HNO.out hp,hbel.trans (hb1.mono hbel.size)⟩
    case measure=>simp[intOf];omega
   .have hp':=hp;clear hp'
    go_wp2_with fail
    go_ret
    exact⟨k,rfl,by rw[List.any_eq_true.2 ⟨x,HM.out,hp⟩];simp,hbel.trans (hb1.mono hbel.size)⟩
  .go_wp2_with fail
   go_ret
   exact⟨-1,rfl,by rw[i7 (by omega) HNO.out];rfl,hbel⟩
theorem Wz  (A:Option Addr)(c:Nat)(l:List aW)(w:World)(hS:Sl w w.heap.size 5 A l.length c (l.flatMap aW.cells))(hf:∀x∈l,x.bp w w.heap.size/\x.reads.length<=100/\x.writes.length<=100)(hn:l.length<=4000) :
  Calls Tryz.prog 268 #[.slice A l.length c,.func (.func 269) #[] #[]] w fun e w'=>e=.returned (.bool (l.any (fun x=>eu x.d)))/\Below w.heap.size w w':=by
 go_enter Tryz.func268,Tryz.ntmps268
 go_wp2_with fail
 refine(Wr  A c l w hS hf hn).mono ?_;rintro e w1 ⟨i,rfl,hi,hb1⟩;have HI:=Lib.hid hi;clear hi
 go_wp2_with fail
 go_ret
 exact⟨by rw[HI.out];rfl,hb1⟩
theorem G0(x:Int)(w:World):Calls Tryz.prog 331 #[.int .i64 x] w fun e w'=>e=.returned (.bool (decide (2000<x)))/\w=w':=by
 go_enter Tryz.func331,Tryz.ntmps331
 go_wp2
 go_ret
 exact⟨rfl,rfl⟩
set_option maxHeartbeats 4000000
theorem WN(n:bf)(w:World)(hn:n.bp w w.heap.size)(ft:Fit n.d) :
  Calls Tryz.prog 267 #[n.v] w fun e w'=>e=.returned (.bool (hG n.d))/\Below w.heap.size w w':=by
 have hn2:n.bp (w.alloc (.cells n.fs 27)) w.heap.size:=hn.aN fun p hp=>World.cell?_alloc_lt w _ p hp;have HN:=Lib.hid hn2;have HE:Hid (hG n.d=(decide (n.d.vars<0\/2000<n.d.vars\/2000<n.d.aU.length\/2000<n.d.af.length\/2000<n.d.aw.length\/1000<n.d.bB.length+n.d.bC.length+n.d.constraints.length\/4<n.d.aa.length)||n.d.aa.any fu)):=rfl;have hpf:∀x∈n.aa,x.reads.length<=100/\x.writes.length<=100:=fun x hx=>by have h:=ft.aa.2 x.d (List.mem_map_of_mem hx);have h1:=h.pV;have h2:=h.zi;simp only[aW.d,aK]at h1 h2;exact⟨h1,h2⟩
 have HPF:=Lib.hid hpf;have hml:n.aa.length<=100:=by have:=ft.aa.1;simpa[bf.d]using this
 have hpa:n.d.aa.any fu=n.aa.any (fun x=>fu x.d):=by show(n.aa.map aW.d).any fu=_;rw[List.any_map];rfl
 rw[hpa]at HE;have hl1:n.aU.length<=4000:=ft.ins.1;have hl2:n.af.length<=4000:=ft.au.1;have hl3:n.aw.length<=4000:=ft.aw.1;have hl4:n.bB.length<=4000:=ft.out.1;have hl5:n.bC.length<=4000:=ft.bad.1;have hl6:n.constraints.length<=4000:=ft.lI.1;clear hn hn2 hpa hpf ft;obtain⟨z,hz⟩:∃z,z=hG n.d:=⟨_,rfl⟩;rw[<-hz]at HE |-;clear hz;unfold bf.v bf.fs;simp only[bf.d,aK]at HE;rcases(show n.vars<0\/(¬n.vars<0/\2000<n.vars)\/(¬n.vars<0/\¬2000<n.vars/\(2000:Int)<n.aU.length)\/(¬n.vars<0/\¬2000<n.vars/\¬(2000:Int)<n.aU.length/\(2000:Int)<n.af.length)\/(¬n.vars<0/\¬2000<n.vars/\¬(2000:Int)<n.aU.length/\¬(2000:Int)<n.af.length/\(2000:Int)<n.aw.length)\/(¬n.vars<0/\¬2000<n.vars/\¬(2000:Int)<n.aU.length/\¬(2000:Int)<n.af.length/\¬(2000:Int)<n.aw.length)from by omega)with a1|⟨a1,a2⟩|⟨a1,a2,a3⟩|⟨a1,a2,a3,a4⟩|⟨a1,a2,a3,a4,a5⟩|⟨a1,a2,a3,a4,a5⟩
 iterate 5
  .go_enter Tryz.func267,Tryz.ntmps267
   go_wp2_with (go_at_call 331;refine(G0 _ _).mono ?_;rintro e w' ⟨rfl,rfl⟩)
   go_ret
   refine⟨mj ?_,(Below.refl _ _).alloc (Nat.le_refl _) _⟩;rw[HE.out,bF (by omega)];rfl
 .rcases(show(1000:Int)<n.bB.length+n.bC.length+n.constraints.length\/(¬(1000:Int)<n.bB.length+n.bC.length+n.constraints.length/\(4:Int)<n.aa.length)\/(¬(1000:Int)<n.bB.length+n.bC.length+n.constraints.length/\¬(4:Int)<n.aa.length)from by omega)with b1|⟨b1,b2⟩|⟨b1,b2⟩
  iterate 2
   .go_enter Tryz.func267,Tryz.ntmps267
    go_wp2_with (go_at_call 331;refine(G0 _ _).mono ?_;rintro e w' ⟨rfl,rfl⟩)
    go_ret
    refine⟨mj ?_,(Below.refl _ _).alloc (Nat.le_refl _) _⟩;rw[HE.out,bF (by omega)];rfl
  .go_enter Tryz.func267,Tryz.ntmps267
   go_wp2_with (first|(go_at_call 331;refine(G0 _ _).mono ?_;rintro e w' ⟨rfl,rfl⟩)|(go_at_call 268;refine(Wd n.Am n.cm n.aa _ (HN.out.mem.more (by simp)) HPF.out (by omega)).mono ?_;rintro e w1 ⟨rfl,hb1⟩))
   go_ret
   refine⟨mj ?_,((Below.refl _ _).alloc (Nat.le_refl _) _).trans (hb1.mono (by simp))⟩;rw[HE.out,cw (by omega)];rfl
open Go.Shelf
attribute [local go_sem] Oper.semAt_some
structure ep(n₀ B:Nat)(W W':World):Prop where
 below:Below n₀ W W'
 gn:∀(i:Nat) (o:Obj),B<=i->W.heap[i]?=some o->o.isCells=true->W'.heap[i]?=some o
theorem ep.refl(n₀ B:Nat)(W:World):ep n₀ B W W:=⟨Below.refl _ _,fun _ _ _ h _=>h⟩
theorem ep.trans{n₀ B:Nat}{A C D:World}(h:ep n₀ B A C)(k:ep n₀ B C D):ep n₀ B A D:=⟨h.below.trans k.below,fun i o hi hA ho=>k.gn i o hi (h.gn i o hi hA ho) ho⟩
theorem ep.alloc{n₀ B:Nat}{W W':World}(h:ep n₀ B W W')(hn:n₀<=W'.heap.size)(o:Obj):ep n₀ B W (W'.alloc o):=⟨h.below.alloc hn o,fun i o' hi hW ho=>by have h1:=h.gn i o' hi hW ho;exact(Below.heap_alloc W' o i (Array.getElem?_eq_some_iff.1 h1).1).trans h1⟩
theorem ep.setCell{n₀ B:Nat}{W W':World}(h:ep n₀ B W W'){p:Addr}(h1:n₀<=p.block)(h2:p.block<B)(v:Value):ep n₀ B W (W'.setCell p v):=⟨h.below.setCell h1 v,fun i o' hi hW ho=>(Below.heap_setCell W' p v i (by omega)).trans (h.gn i o' hi hW ho)⟩
theorem Vi{n₀ B:Nat}{w:World}(hn:n₀<=w.heap.size)(W:World)(l:Nat)(o o':Obj)(hl:w.heap.size<=l)(h:W.heap[l]?=some o)(hc:o.isCells=false)(hw:o.isWalk=false):ep n₀ B W (W.putObj l o'):=
 ⟨belowK_b hn W l o o' hl h hc hw,fun i o2 hi hW ho=>by
  by_cases e:i=l
  .subst e;rw[h]at hW;injection hW with hW;subst hW;rw[hc]at ho;cases ho
  .exact(World.putObj_heap_other (by omega)).trans hW⟩
theorem aS.th{n₀ B g:Nat}{W W':World}{t:TypeId}{cs:Array Value}(h:aS W g t cs)(k:ep n₀ B W W')(hg:B<=g):aS W' g t cs:=k.gn g _ hg h rfl
/- the variables in their order, as gn as they have come -/
def v2(N:bf)(k:Nat):List Int:=N.aU++(N.af.take k).map (·.var)
def kW(m:aW):List Int:=m.reads.flatMap fun r=>cu r.var m.word.toNat
def v3(N:bf)(k:Nat):List Int:=N.aU++N.af.map (·.var)++(N.aa.take k).flatMap kW
def v4(N:bf)(k:Nat)(m:aW)(j:Nat):List Int:=v3 N k++(m.reads.take j).flatMap fun r=>cu r.var m.word.toNat
def v5(N:bf)(k:Nat)(m:aW)(j:Nat)(r:bS)(i:Nat):List Int:=v4 N k m j++cu r.var i
def v6(N:bf)(k:Nat):List Int:=N.aU++N.af.map (·.var)++N.aa.flatMap kW++(N.aw.take k).map (·.var)
theorem UO(m:aW):jJ m.d=kW m:=by unfold jJ kW aW.d;rw[List.flatMap_map];rfl
theorem sV(N:bf):bV N.d=N.aU++N.af.map (·.var)++N.aa.flatMap kW++N.aw.map (·.var):=by unfold bV bf.d;simp only;rw[List.flatMap_map];congr 2;exact congrArg (fun f=>N.aa.flatMap f) (funext UO)
theorem yv(v:Int)(i:Nat):cu v (i+1)=cu v i++[v+(i:Int)]:=by simp[cu,List.range_succ]
theorem XH(v:Int){i j:Nat}(h:i<=j):cu v i <+: cu v j:=by
 obtain⟨d,rfl⟩:=Nat.le.dest h
 induction d with|zero=>exact List.prefix_refl _|succ d ih=>rw[<-Nat.add_assoc,yv];exact(ih (by omega)).trans (List.prefix_append _ _)
theorem FZ{α β:Type}(f:α->List β)(l:List α)(k:Nat){x:α}(h:l[k]?=some x):(l.take k).flatMap f++f x <+: l.flatMap f:=by
 have:(l.take (k+1)).flatMap f=(l.take k).flatMap f++f x:=by rw[cN h];simp
 rw[<-this]
 conv=>rhs;rw[<-List.take_append_drop (k+1) l]
 rw[List.flatMap_append];exact List.prefix_append _ _
theorem nH{α β:Type}(f:α->List β){l:List α}{k:Nat}{x:α}(h:l[k]?=some x):(l.take (k+1)).flatMap f=(l.take k).flatMap f++f x:=by rw[cN h];simp
theorem jC{α:Type}{a b c:List α}(h:b <+: c):a++b <+: a++c:=(List.prefix_append_right_inj a).2 h
section
variable{N:bf}{k j i:Nat}
theorem U4{x:Int}(h:N.aU[k]?=some x):N.aU.take k++[x] <+: bV N.d:=by rw[sV,<-cN h,dn,dn];exact(List.take_prefix _ _).trans (List.prefix_append _ _)
theorem AP{x:dI}(h:N.af[k]?=some x):v2 N (k+1)=v2 N k++[x.var]:=by unfold v2;rw[cN h];simp
theorem Jm{x:dI}(h:N.af[k]?=some x):v2 N k++[x.var] <+: bV N.d:=by rw[sV,<-AP h,dn];refine List.IsPrefix.trans ?_ (List.prefix_append _ _);exact jC (List.IsPrefix.map _ (List.take_prefix _ _))
theorem JF{m:aW}(h:N.aa[k]?=some m):v3 N k++kW m <+: bV N.d:=by rw[sV];refine List.IsPrefix.trans ?_ (List.prefix_append _ _);unfold v3;rw[dn];exact jC (FZ kW _ _ h)
theorem U5{m:aW}{r:bS}(h:N.aa[k]?=some m)(h2:m.reads[j]?=some r)(hi:i<m.word.toNat):v5 N k m j r i++[r.var+(i:Int)] <+: bV N.d:=by refine List.IsPrefix.trans ?_ (JF h);unfold v5 v4;rw[dn,dn,<-yv];refine jC (List.IsPrefix.trans (jC (XH _ (show i+1<=m.word.toNat by omega))) ?_);exact FZ (fun r:bS=>cu r.var m.word.toNat) _ _ h2
theorem Uo{m:aW}{r:bS}:v5 N k m j r (i+1)=v5 N k m j r i++[r.var+(i:Int)]:=by unfold v5;rw[yv,dn]
theorem Up{m:aW}{r:bS}:v5 N k m j r 0=v4 N k m j:=by simp[v5,cu]
theorem Un{m:aW}{r:bS}(h2:m.reads[j]?=some r):v5 N k m j r m.word.toNat=v4 N k m (j+1):=by unfold v5 v4;rw[nH _ h2,dn]
theorem Lf{m:aW}:v4 N k m 0=v3 N k:=by simp[v4]
theorem Lg{m:aW}(h:N.aa[k]?=some m)(hj:m.reads.length<=j):v4 N k m j=v3 N (k+1):=by unfold v4 v3;rw[nH _ h,List.take_of_length_le hj];simp[kW]
theorem Li(hk:N.aa.length<=k):v3 N k=v6 N 0:=by unfold v3 v6;rw[List.take_of_length_le hk];simp
theorem Lh(hk:N.af.length<=k):v2 N k=v3 N 0:=by unfold v2 v3;rw[List.take_of_length_le hk];simp
theorem Ul(hk:N.aU.length<=k):N.aU.take k=v2 N 0:=by unfold v2;rw[List.take_of_length_le hk];simp
theorem AO{x:ey}(h:N.aw[k]?=some x):v6 N (k+1)=v6 N k++[x.var]:=by unfold v6;rw[cN h];simp
theorem Jn{x:ey}(h:N.aw[k]?=some x):v6 N k++[x.var] <+: bV N.d:=by rw[sV,<-AO h];exact jC (List.IsPrefix.map _ (List.take_prefix _ _))
theorem Le(hk:N.aw.length<=k):v6 N k=bV N.d:=by rw[sV];unfold v6;rw[List.take_of_length_le hk]
end
theorem pF{D pre:List Int}{x:Int}(h:pre++[x] <+: D):pre.length<D.length:=by have:=h.length_le;simp at this;omega
set_option maxRecDepth 100000
theorem Tv(F:Fence)(n:Nat)(hF:F.fn 290)(hro:F.round=none)(hn:1<=n)(l Bx n₀ B:Nat)(N:bf)(J Jx:List Int->World->Prop)(W:World)
  (hJ:∀(s:List Int) (A:World) (o:Obj),J s A->J s (A.alloc o))
  (hY:∀pre x W1,J pre W1->pre.length<(bV N.d).length->YieldAt F (n-1) Tryz.prog l #[.int .i64 x] W1 fun e W'=>(e=.returned (.bool true)/\J (pre++[x]) W'/\ep n₀ B W1 W')\/(e=.returned (.bool false)/\Jx (pre++[x]) W'))
  (hBx:aS W Bx 27 N.fs) (hBl:B<=Bx) (hok:N.bp W n₀) (hn0:n₀<=W.heap.size) (hBW:B<=W.heap.size) (h0:J [] W) (ft:Fit N.d) :
  CallsIn F n Tryz.prog 290 #[.func (.yield l) #[] #[],.pointer (some ⟨Bx,0,none⟩)] W fun e W'=>(∃v,e=.returned v) /\
   ((∃ys,ys=bV N.d/\J ys W')\/(∃pre,pre <+: bV N.d/\Jx pre W')):=by
 have HJ:=Lib.hid hJ;have HY:=Lib.hid hY;have HB:=Lib.hid hBx;have HOK:=Lib.hid hok;have hl1:N.aU.length<=4000:=ft.ins.1;have hl2:N.af.length<=4000:=ft.au.1;have hl3:N.aw.length<=4000:=ft.aw.1;have hl4:N.aa.length<=100:=by have:=ft.aa.1;simpa[bf.d]using this
 have HMF:=Lib.hid (ft.aa.2);have hf1:W.cell? ⟨Bx,1,none⟩=some (.slice N.Ai N.aU.length N.ci):=hBx.cell 1;clear hJ hY hok ft hBx;refine callsIn_of_wp Tryz.func290 rfl hF ?_ hro;simp only[Tryz.ntmps290,List.size_toArray,cx,List.length_nil,Nat.reduceAdd,Nat.reduceSub,Array.replicate_succ,Array.replicate_zero,List.push_toArray,List.append_toArray,List.nil_append,List.cons_append]
 gi_wp2
 gi_loopw [17] (fun i wr=>∃k:Nat,k<=N.aU.length/\i=.int .i64 k/\J (N.aU.take k) wr/\ep n₀ B W wr) (fun i _=>N.aU.length-(intOf i).toNat)
 case atStart=>exact⟨0,Nat.zero_le _,rfl,by simpa using h0,ep.refl _ _ _⟩
 case round=>
  obtain⟨k,hk,rfl,hJs,hkp⟩:=hrel;by_cases hlt:k<N.aU.length
  .obtain⟨b,off,x,e1,hb,hx,hm,hc⟩:=(HOK.out.below hkp.below).ins.oF hlt;have hp:=U4 hx;obtain⟨fn,tmps,assign,body,hy,hR⟩:=HY.out (N.aU.take k) x wr hJs (pF hp);have HX:=Lib.hid hx;have HP:=Lib.hid hp;have HE1:=Lib.hid e1;clear hx hp hm;rw[e1];clear e1
   gi_wp2
   refine hR.mono ?_;rintro e W3 (⟨rfl,hJ3,hk3⟩|⟨rfl,hJx3⟩)
   .gi_wp2
    go_roundw
    case rel=>exact⟨k+1,by omega,by simp,by rw[cN HX.out];exact hJ3,hkp.trans hk3⟩
    case measure=>simp[intOf];omega
   .gi_wp2
    refine bodyPost_ret (results_none rfl _ _ _) rfl ?_;exact⟨⟨_,rfl⟩,.inr ⟨_,HP.out,hJx3⟩⟩
  .rw[Ul (by omega)]at hJs;have hf2:wr.cell? ⟨Bx,2,none⟩=some (.slice N.Al N.af.length N.cl):=(HB.out.th hkp hBl).cell 2
   gi_wp2
   obtain⟨w1,rfl⟩:∃w1:World,w1=wr:=⟨_,rfl⟩;clear hf2 hlt hk
   gi_loopw [29] (fun i wr=>∃k:Nat,k<=N.af.length/\i=.int .i64 k/\J (v2 N k) wr/\ep n₀ B W wr) (fun i _=>N.af.length-(intOf i).toNat)
   case atStart=>exact⟨0,Nat.zero_le _,rfl,hJs,hkp⟩
   case round=>
    clear hJs hkp;obtain⟨k,hk,rfl,hJs,hkp⟩:=hrel;have hsz:=hkp.below.size;by_cases hlt:k<N.af.length
    .obtain⟨b,off,x,e1,hb,hx,hm,hcs⟩:=(HOK.out.below hkp.below).au.elem (by omega) (fun _=>rfl) hlt;obtain⟨hc0,hc1,hc2⟩:=dI.at_ hcs;have hp:=Jm hx;obtain⟨fn,tmps,assign,body,hy,hR⟩:=HY.out (v2 N k) x.var (wr.alloc (.cells #[.int .i64 x.var,.int .i64 x.next,.int .i64 x.init] 100)) (HJ.out _ _ _ hJs) (pF hp);have HX:=Lib.hid hx;have HP:=Lib.hid hp;clear hx hp hm hcs;rw[e1];clear e1
     gi_wp2
     refine hR.mono ?_;rintro e W3 (⟨rfl,hJ3,hk3⟩|⟨rfl,hJx3⟩)
     .gi_wp2
      go_roundw
      case rel=>exact⟨k+1,by omega,by simp,by rw[AP HX.out];exact hJ3,(hkp.alloc (by omega) _).trans hk3⟩
      case measure=>simp[intOf];omega
     .gi_wp2
      refine bodyPost_ret (results_none rfl _ _ _) rfl ?_;exact⟨⟨_,rfl⟩,.inr ⟨_,HP.out,hJx3⟩⟩
    .rw[Lh (by omega)]at hJs;have hf3:wr.cell? ⟨Bx,6,none⟩=some (.slice N.Am N.aa.length N.cm):=(HB.out.th hkp hBl).cell 6
     gi_wp2
     obtain⟨w2,rfl⟩:∃w2:World,w2=wr:=⟨_,rfl⟩;clear hf3 hlt hk hsz
     gi_loopw [42] (fun i wr=>∃k:Nat,k<=N.aa.length/\i=.int .i64 k/\J (v3 N k) wr/\ep n₀ B W wr) (fun i _=>N.aa.length-(intOf i).toNat)
     case atStart=>exact⟨0,Nat.zero_le _,rfl,hJs,hkp⟩
     case round=>
      clear hJs hkp;obtain⟨k,hk,rfl,hJs,hkp⟩:=hrel;have hsz:=hkp.below.size;by_cases hlt:k<N.aa.length
      .obtain⟨b,off,m,e1,hb,hx,hm,hcs⟩:=(HOK.out.below hkp.below).mem.elem (by omega) (fun _=>rfl) hlt;obtain⟨hc0,hc1,hc2,hc3,hc4⟩:=aW.at_ hcs;have HX:=Lib.hid hx;have HM:=Lib.hid (HOK.out.mA m hm);have hfm:=HMF.out m.d (List.mem_map_of_mem hm);have hrn:m.reads.length<=100:=by have:=hfm.pV;simpa[aW.d]using this
       have hw1:m.word<=4000:=hfm.word.2;have hw0:-9223372036854775808<=m.word:=hfm.word.1.1;have HRF:=Lib.hid hfm.iP;clear hx hm hcs hfm;rw[e1];clear e1
       gi_wp2
       obtain⟨c,hc⟩:∃c,c=wr.heap.size:=⟨_,rfl⟩;have hkp2:=hkp.alloc (show n₀<=wr.heap.size by omega) (.cells m.cells.toArray 87);have hJ2:=HJ.out _ _ (.cells m.cells.toArray 87) hJs;have hbk:=aS.new wr 87 m.cells.toArray;have hcB:B<=c:=by omega
       rw[<-hc]at hbk |-;rw[<-Lf (m:=m)]at hJ2;clear hc hJs hkp hc0 hc1 hc2 hc3 hc4;change Code.wpIn _ _ _ _ _ _ (wr.alloc (.cells m.cells.toArray 87));obtain⟨w3,hw3⟩:∃w3:World,w3=wr.alloc (.cells m.cells.toArray 87):=⟨_,rfl⟩;rw[<-hw3]at hkp2 hJ2 hbk |-;clear hw3 hsz
       gi_loopw [49] (fun i wr=>∃j:Nat,j<=m.reads.length/\i=.int .i64 j/\J (v4 N k m j) wr/\ep n₀ B W wr/\aS wr c 87 m.cells.toArray) (fun i _=>m.reads.length-(intOf i).toNat)
       case atStart=>exact⟨0,Nat.zero_le _,rfl,hJ2,hkp2,hbk⟩
       case round=>
        clear hJ2 hkp2 hbk;obtain⟨j,hj,rfl,hJs,hkp,hbk⟩:=hrel;have hsz:=hkp.below.size;by_cases hlt2:j<m.reads.length
        .obtain⟨b2,off2,r,e1,hb2,hx2,hm2,hcs⟩:=(HM.out.below hkp.below).rd.elem (by omega) (fun _=>rfl) hlt2;obtain⟨hc0,hc1⟩:=bS.at_ hcs;have HX2:=Lib.hid hx2;obtain⟨_,hv1,hv2,_⟩:=HRF.out r.d (List.mem_map_of_mem hm2);change -1099511627776<=r.var at hv1;change r.var<=1099511627776 at hv2;have hcw:wr.cell? ⟨c,1,none⟩=some (.int .i64 m.word):=hbk.cell 1;have hcl:c<wr.heap.size:=hbk.lt;clear hx2 hm2 hcs;rw[e1];clear e1
         gi_wp2
         obtain⟨d,hd⟩:∃d,d=wr.heap.size:=⟨_,rfl⟩;have hkp2:=hkp.alloc (show n₀<=wr.heap.size by omega) (.cells r.cells.toArray 174);have hJ2:=HJ.out _ _ (.cells r.cells.toArray 174) hJs;have hbk2:=aS.new wr 174 r.cells.toArray;have hbk1:=hbk.alloc (.cells r.cells.toArray 174);have hdB:B<=d:=by omega
         rw[<-hd]at hbk2 |-;rw[<-Up (r:=r)]at hJ2;clear hd hJs hkp hbk hc0 hc1 hcw;change Code.wpIn _ _ _ _ _ _ (wr.alloc (.cells r.cells.toArray 174));obtain⟨w4,hw4⟩:∃w4:World,w4=wr.alloc (.cells r.cells.toArray 174):=⟨_,rfl⟩;rw[<-hw4]at hkp2 hJ2 hbk2 hbk1 |-;clear hw4 hsz hcl
         gi_loopw [55] (fun i wr=>∃q:Nat,q<=m.word.toNat/\i=.int .i64 q/\J (v5 N k m j r q) wr/\ep n₀ B W wr/\aS wr c 87 m.cells.toArray/\aS wr d 174 r.cells.toArray) (fun i _=>m.word.toNat-(intOf i).toNat)
         case atStart=>exact⟨0,Nat.zero_le _,rfl,hJ2,hkp2,hbk1,hbk2⟩
         case round=>
          clear hJ2 hkp2 hbk1 hbk2;obtain⟨q,hq,rfl,hJs,hkp,hbk1,hbk2⟩:=hrel;by_cases hlt3:(q:Int)<m.word
          .have hp:=U5 (i:=q) HX.out HX2.out (by omega);obtain⟨fn,tmps,assign,body,hy,hR⟩:=HY.out (v5 N k m j r q) (r.var+(q:Int)) wr hJs (pF hp);have HP:=Lib.hid hp;have hcv:wr.cell? ⟨d,0,none⟩=some (.int .i64 r.var):=hbk2.cell 0;clear hp
           gi_wp2
           refine hR.mono ?_;rintro e W3 (⟨rfl,hJ3,hk3⟩|⟨rfl,hJx3⟩)
           .gi_wp2
            go_roundw
            case rel=>exact⟨q+1,by omega,by simp,by rw[Uo];exact hJ3,hkp.trans hk3,hbk1.th hk3 hcB,hbk2.th hk3 hdB⟩
            case measure=>simp[intOf];omega
           .gi_wp2
            refine bodyPost_ret (results_none rfl _ _ _) rfl ?_;exact⟨⟨_,rfl⟩,.inr ⟨_,HP.out,hJx3⟩⟩
          .obtain rfl:q=m.word.toNat:=by omega
           rw[Un HX2.out]at hJs
           gi_wp2
           go_roundw
           case rel=>exact⟨j+1,by omega,by simp,hJs,hkp,hbk1⟩
           case measure=>simp[intOf];omega
        .rw[Lg HX.out (by omega)]at hJs
         gi_wp2
         go_roundw
         case rel=>exact⟨k+1,by omega,by simp,hJs,hkp⟩
         case measure=>simp[intOf];omega
      .rw[Li (by omega)]at hJs;have hf4:wr.cell? ⟨Bx,7,none⟩=some (.slice N.An N.aw.length N.cn):=(HB.out.th hkp hBl).cell 7
       gi_wp2
       obtain⟨w3,rfl⟩:∃w3:World,w3=wr:=⟨_,rfl⟩;clear hf4 hlt hk hsz
       gi_loopw [71] (fun i wr=>∃k:Nat,k<=N.aw.length/\i=.int .i64 k/\J (v6 N k) wr/\ep n₀ B W wr) (fun i _=>N.aw.length-(intOf i).toNat)
       case atStart=>exact⟨0,Nat.zero_le _,rfl,hJs,hkp⟩
       case round=>
        clear hJs hkp;obtain⟨k,hk,rfl,hJs,hkp⟩:=hrel;have hsz:=hkp.below.size;by_cases hlt:k<N.aw.length
        .obtain⟨b,off,x,e1,hb,hx,hm,hcs⟩:=(HOK.out.below hkp.below).and.elem (by omega) (fun _=>rfl) hlt;obtain⟨hc0,hc1,hc2⟩:=ey.at_ hcs;have hp:=Jn hx;obtain⟨fn,tmps,assign,body,hy,hR⟩:=HY.out (v6 N k) x.var (wr.alloc (.cells #[.int .i64 x.var,.int .i64 x.a,.int .i64 x.b] 143)) (HJ.out _ _ _ hJs) (pF hp);have HX:=Lib.hid hx;have HP:=Lib.hid hp;clear hx hp hm hcs;rw[e1];clear e1
         gi_wp2
         refine hR.mono ?_;rintro e W3 (⟨rfl,hJ3,hk3⟩|⟨rfl,hJx3⟩)
         .gi_wp2
          go_roundw
          case rel=>exact⟨k+1,by omega,by simp,by rw[AO HX.out];exact hJ3,(hkp.alloc (by omega) _).trans hk3⟩
          case measure=>simp[intOf];omega
         .gi_wp2
          refine bodyPost_ret (results_none rfl _ _ _) rfl ?_;exact⟨⟨_,rfl⟩,.inr ⟨_,HP.out,hJx3⟩⟩
        .rw[Le (by omega)]at hJs
         gi_wp2
         go_end0
         exact⟨⟨_,rfl⟩,.inl ⟨_,rfl,hJs⟩⟩
theorem WG(F:Fence)(n:Nat)(hF:F.fn 290)(hro:F.round=none)(hn:1<=n)(Bx n₀ B:Nat)(N:bf)(w:World)
  (hBx:aS w Bx 27 N.fs) (hBl:B<=Bx) (hok:N.bp w n₀) (hn0:n₀<=w.heap.size) (ft:Fit N.d) :
  SeqStopsK F n Tryz.prog 290 #[.pointer (some ⟨Bx,0,none⟩)] (fun x:Int=>#[Value.int .i64 x]) (ep n₀ B) (fun ys=>ys=bV N.d) (fun pre=>pre <+: bV N.d) (bV N.d).length w:=
 fun l J Jx W hW hJ _ hY h0=>Tv F n hF hro hn l Bx n₀ B N J Jx W (fun s A o h=>hJ s A _ none h (World.grownBy_alloc A o none) (fun r e=>by cases e)) hY (hBx.below hW hBx.lt) hBl (hok.below (hW.mono hn0)) (Nat.le_trans hn0 hW.size) (Nat.le_trans (Nat.le_of_lt (Nat.lt_of_le_of_lt hBl hBx.lt)) hW.size) h0 ft
theorem Us(F:Fence)(n:Nat)(hF:F.fn 221)(hro:F.round=none)(N:bf)(w:World) :
  CallsIn F n Tryz.prog 221 #[N.v] w fun e w'=>e=.returned (.func (.func 290) #[] #[.pointer (some ⟨w.heap.size,0,none⟩)])/\w'=w.alloc (.cells N.fs 27):=by
 unfold bf.v bf.fs;refine callsIn_of_wp Tryz.func221 rfl hF ?_ hro;simp only[Tryz.ntmps221,List.size_toArray,cx,List.length_nil,Nat.reduceAdd,Nat.reduceSub,Array.replicate_succ,Array.replicate_zero,List.push_toArray,List.append_toArray,List.nil_append,List.cons_append]
 gi_wp2
 go_ret
 exact⟨rfl,rfl⟩
attribute [local go_sem] Oper.semAt_some
def jS(V:Nat)(pre:List Int):Prop:=pre.Nodup/\∀x∈pre,1<=x/\x<=(V:Int)
theorem jS.snoc{V:Nat}{pre:List Int}{x:Int}(h:jS V pre)(h1:1<=x)(h2:x<=V)(h3:pre.contains x=false):jS V (pre++[x]):=by
 refine⟨?_,fun y hy=>?_⟩
 .rw[List.nodup_append];refine⟨h.1,by simp,fun a ha b hb=>?_⟩;simp at hb;subst hb;rintro rfl;rw[List.contains_eq_mem]at h3;simp at h3;exact h3 ha
 .rcases List.mem_append.1 hy with hy|hy
  .exact h.2 y hy
  .simp at hy;subst hy;exact⟨h1,h2⟩
theorem K6{V:Nat}:∀(l pre:List Int),jS V (pre++l)->dup V pre l=if((pre++l).length:Int)<V then 7 else 0
 |[],pre,_=>by simp[dup]|x::l,pre,h=>by
  have hx:=h.2 x (by simp);have hn:pre.contains x=false:=by rw[List.contains_eq_mem];simp;intro hm;have:=h.1;rw[List.nodup_append]at this;exact this.2.2 x hm x (by simp) rfl
  rw[dup,if_neg (by omega),if_neg (by rw[hn];simp),K6 l (pre++[x]) (by simpa using h)];simp
theorem LY{V:Nat}{x:Int}{rest:List Int}:∀(l pre:List Int),jS V (pre++l)->dup V pre (l++x::rest)=dup V (pre++l) (x::rest)
 |[],pre,_=>by simp|y::l,pre,h=>by
  have hx:=h.2 y (by simp);have hn:pre.contains y=false:=by rw[List.contains_eq_mem];simp;intro hm;have:=h.1;rw[List.nodup_append]at this;exact this.2.2 y hm y (by simp) rfl
  show dup V pre (y::(l++x::rest))=_;rw[dup,if_neg (by omega),if_neg (by rw[hn];simp),LY l (pre++[y]) (by simpa using h)];simp
def mN(V:Nat)(pre:List Int)(x:Int):Option Int:=if x<1\/(V:Int)<x then some 5 else if pre.contains x then some 6 else none
theorem TI{V:Nat}{D pre:List Int}{x r:Int}(h:jS V pre)(hp:pre++[x] <+: D)(hb:mN V pre x=some r):dup V [] D=r:=by
 obtain⟨rest,rfl⟩:=hp;rw[dn,List.singleton_append,LY pre [] (by simpa using h),List.nil_append,dup];unfold mN at hb;split
 .rename_i h1;rw[if_pos h1]at hb;injection hb
 .rename_i h1;rw[if_neg h1]at hb;split
  .rename_i h2;rw[if_pos h2]at hb;injection hb
  .rename_i h2;rw[if_neg h2]at hb;cases hb
theorem pC{β:Type}{B g:Nat}{t:TypeId}(cs:β->Array Value):OwnFrom B (fun(s:β) W=>aS W g t (cs s)):=fun s W W' row hs hg hr=>hs.grown hg (fun e=>by obtain⟨_,o,ho,hc⟩:=hr g e.symm;have hs':W.heap[g]?=some (.cells (cs s) t (0,0)):=hs;rw[ho]at hs';injection hs' with hs';subst hs';cases hc)
theorem Tm{β:Type}{B:Nat}(p:β->Prop):OwnFrom B (fun(s:β) (_:World)=>p s):=fun _ _ _ _ hs _ _=>hs
theorem Zxz(V:Nat):madeCells #[Value.bool false] (V+1)=((gN V []).map Value.bool).toArray:=by apply Array.toList_inj.1;rw[toList_madeCells_one,JN];simp
theorem Qz{V v:Nat}{pre:List Int}(h:v<=V):(((gN V pre).map Value.bool).toArray).setIfInBounds v (.bool true)=((gN V (pre++[(v:Int)])).map Value.bool).toArray:=by rw[<-Xh h,List.setIfInBounds_toArray,List.map_set]
theorem JM{V v:Nat}{pre:List Int}(h:v<=V):(((gN V pre).map Value.bool).toArray)[v]?=some (.bool (pre.contains (v:Int))):=by simp only[List.getElem?_toArray,bT,yI h];rfl
theorem Wy(N:bf)(V:Nat)(w:World)(hV:N.vars=(V:Int))(hV2:V<=2000)(hok:N.bp w w.heap.size)(ft:Fit N.d)(hD:(bV N.d).length<=1000000) :
  Calls Tryz.prog 272 #[N.v] w fun e w'=>e=.returned (.int .i64 (dup V [] (bV N.d)))/\Below w.heap.size w w':=by
 have HV:=Lib.hid hV;have HF:=Lib.hid ft;have HOK:=Lib.hid hok;clear ft hok;unfold bf.v bf.fs;rw[hV];clear hV;obtain⟨i0,hi0,hz0,hz1,hz2⟩:=info_parts J6;have hb:(i0.bytes:Int)*((V:Int)+1)<=281474976710656:=by rw[hz2];omega
 have hmk:=fun w:World=>run_make (P:=Tryz.prog) w 28 4 i0 (.bool false) Tryz.underlying28 hi0 hz0 .i64 .i64 ((V:Int)+1) ((V:Int)+1) (by omega) (Int.le_refl _) hb (by omega);clear hi0 hz0 hz2 hb;have hv:∀n w,CallsIn Fence.wide n Tryz.prog 221 #[.agg #[.int .i64 V,.slice N.Ai N.aU.length N.ci,.slice N.Al N.af.length N.cl,.slice N.Ao N.bB.length N.co,.slice N.Ab N.bC.length N.cb,.slice N.Ac N.constraints.length N.cc,.slice N.Am N.aa.length N.cm,.slice N.An N.aw.length N.cn]] w fun e w'=>e=.returned (.func (.func 290) #[] #[.pointer (some ⟨w.heap.size,0,none⟩)])/\w'=w.alloc (.cells #[.int .i64 V,.slice N.Ai N.aU.length N.ci,.slice N.Al N.af.length N.cl,.slice N.Ao N.bB.length N.co,.slice N.Ab N.bC.length N.cb,.slice N.Ac N.constraints.length N.cc,.slice N.Am N.aa.length N.cm,.slice N.An N.aw.length N.cn] 27):=fun n w=>by have:=Us Fence.wide n trivial rfl N w;unfold bf.v bf.fs at this;rw[HV.out]at this;exact this
 have HVI:=Lib.hid hv;clear hv;refine(callsIn_wide (n:=3)).1 ?_;refine callsIn_of_wp_marks Tryz.func272 rfl trivial ?_ rfl;simp only[Tryz.ntmps272,List.size_toArray,cx,List.length_nil,Nat.reduceAdd,Nat.reduceSub,Array.replicate_succ,Array.replicate_zero,List.push_toArray,List.append_toArray,List.nil_append,List.cons_append];have hvf:Fence.wide.fn 221:=trivial
 gi_wp2_with (gi_at_call 221;refine(HVI.out _ _).mono ?_;rintro e w' ⟨rfl,rfl⟩)
 have hw0:Below w.heap.size w (((((w.alloc (.cells #[.int .i64 V,.slice N.Ai N.aU.length N.ci,.slice N.Al N.af.length N.cl,.slice N.Ao N.bB.length N.co,.slice N.Ab N.bC.length N.cb,.slice N.Ac N.constraints.length N.cc,.slice N.Am N.aa.length N.cm,.slice N.An N.aw.length N.cn] 27)).alloc (.cells #[.int .i64 0] 34)).alloc (.cells (madeCells #[Value.bool false] (V+1)) 4)).alloc (.cells #[.slice (some ⟨w.heap.size+1+1,0,none⟩) (V+1) (V+1)] 28)).alloc (.cells #[.int .i64 V] 3)):=(((((Below.refl _ w).alloc (Nat.le_refl _) _).alloc (by simp) _).alloc (by simp;omega) _).alloc (by simp;omega) _).alloc (by simp;omega) _;have hw1:=hw0.alloc (by simp;omega) (.cells #[.int .i64 V,.slice N.Ai N.aU.length N.ci,.slice N.Al N.af.length N.cl,.slice N.Ao N.bB.length N.co,.slice N.Ab N.bC.length N.cb,.slice N.Ac N.constraints.length N.cc,.slice N.Am N.aa.length N.cm,.slice N.An N.aw.length N.cn] 27);have b0:=((((aS.new w 27 #[.int .i64 V,.slice N.Ai N.aU.length N.ci,.slice N.Al N.af.length N.cl,.slice N.Ao N.bB.length N.co,.slice N.Ab N.bC.length N.cb,.slice N.Ac N.constraints.length N.cc,.slice N.Am N.aa.length N.cm,.slice N.An N.aw.length N.cn]).alloc (.cells #[.int .i64 0] 34)).alloc (.cells (madeCells #[Value.bool false] (V+1)) 4)).alloc (.cells #[.slice (some ⟨w.heap.size+1+1,0,none⟩) (V+1) (V+1)] 28)).alloc (.cells #[.int .i64 V] 3) |>.alloc (.cells #[.int .i64 V,.slice N.Ai N.aU.length N.ci,.slice N.Al N.af.length N.cl,.slice N.Ao N.bB.length N.co,.slice N.Ab N.bC.length N.cb,.slice N.Ac N.constraints.length N.cc,.slice N.Am N.aa.length N.cm,.slice N.An N.aw.length N.cn] 27);have b1:=(((aS.new (w.alloc (.cells #[.int .i64 V,.slice N.Ai N.aU.length N.ci,.slice N.Al N.af.length N.cl,.slice N.Ao N.bB.length N.co,.slice N.Ab N.bC.length N.cb,.slice N.Ac N.constraints.length N.cc,.slice N.Am N.aa.length N.cm,.slice N.An N.aw.length N.cn] 27)) 34 #[.int .i64 0]).alloc (.cells (madeCells #[Value.bool false] (V+1)) 4)).alloc (.cells #[.slice (some ⟨w.heap.size+1+1,0,none⟩) (V+1) (V+1)] 28)).alloc (.cells #[.int .i64 V] 3) |>.alloc (.cells #[.int .i64 V,.slice N.Ai N.aU.length N.ci,.slice N.Al N.af.length N.cl,.slice N.Ao N.bB.length N.co,.slice N.Ab N.bC.length N.cb,.slice N.Ac N.constraints.length N.cc,.slice N.Am N.aa.length N.cm,.slice N.An N.aw.length N.cn] 27);have b2:=((aS.new ((w.alloc (.cells #[.int .i64 V,.slice N.Ai N.aU.length N.ci,.slice N.Al N.af.length N.cl,.slice N.Ao N.bB.length N.co,.slice N.Ab N.bC.length N.cb,.slice N.Ac N.constraints.length N.cc,.slice N.Am N.aa.length N.cm,.slice N.An N.aw.length N.cn] 27)).alloc (.cells #[.int .i64 0] 34)) 4 (madeCells #[Value.bool false] (V+1))).alloc (.cells #[.slice (some ⟨w.heap.size+1+1,0,none⟩) (V+1) (V+1)] 28)).alloc (.cells #[.int .i64 V] 3) |>.alloc (.cells #[.int .i64 V,.slice N.Ai N.aU.length N.ci,.slice N.Al N.af.length N.cl,.slice N.Ao N.bB.length N.co,.slice N.Ab N.bC.length N.cb,.slice N.Ac N.constraints.length N.cc,.slice N.Am N.aa.length N.cm,.slice N.An N.aw.length N.cn] 27);have b3:=(aS.new (((w.alloc (.cells #[.int .i64 V,.slice N.Ai N.aU.length N.ci,.slice N.Al N.af.length N.cl,.slice N.Ao N.bB.length N.co,.slice N.Ab N.bC.length N.cb,.slice N.Ac N.constraints.length N.cc,.slice N.Am N.aa.length N.cm,.slice N.An N.aw.length N.cn] 27)).alloc (.cells #[.int .i64 0] 34)).alloc (.cells (madeCells #[Value.bool false] (V+1)) 4)) 28 #[.slice (some ⟨w.heap.size+1+1,0,none⟩) (V+1) (V+1)]).alloc (.cells #[.int .i64 V] 3) |>.alloc (.cells #[.int .i64 V,.slice N.Ai N.aU.length N.ci,.slice N.Al N.af.length N.cl,.slice N.Ao N.bB.length N.co,.slice N.Ab N.bC.length N.cb,.slice N.Ac N.constraints.length N.cc,.slice N.Am N.aa.length N.cm,.slice N.An N.aw.length N.cn] 27);have b4:=(aS.new ((((w.alloc (.cells #[.int .i64 V,.slice N.Ai N.aU.length N.ci,.slice N.Al N.af.length N.cl,.slice N.Ao N.bB.length N.co,.slice N.Ab N.bC.length N.cb,.slice N.Ac N.constraints.length N.cc,.slice N.Am N.aa.length N.cm,.slice N.An N.aw.length N.cn] 27)).alloc (.cells #[.int .i64 0] 34)).alloc (.cells (madeCells #[Value.bool false] (V+1)) 4)).alloc (.cells #[.slice (some ⟨w.heap.size+1+1,0,none⟩) (V+1) (V+1)] 28)) 3 #[.int .i64 V]).alloc (.cells #[.int .i64 V,.slice N.Ai N.aU.length N.ci,.slice N.Al N.af.length N.cl,.slice N.Ao N.bB.length N.co,.slice N.Ab N.bC.length N.cb,.slice N.Ac N.constraints.length N.cc,.slice N.Am N.aa.length N.cm,.slice N.An N.aw.length N.cn] 27);have b5:=aS.new (((((w.alloc (.cells #[.int .i64 V,.slice N.Ai N.aU.length N.ci,.slice N.Al N.af.length N.cl,.slice N.Ao N.bB.length N.co,.slice N.Ab N.bC.length N.cb,.slice N.Ac N.constraints.length N.cc,.slice N.Am N.aa.length N.cm,.slice N.An N.aw.length N.cn] 27)).alloc (.cells #[.int .i64 0] 34)).alloc (.cells (madeCells #[Value.bool false] (V+1)) 4)).alloc (.cells #[.slice (some ⟨w.heap.size+1+1,0,none⟩) (V+1) (V+1)] 28)).alloc (.cells #[.int .i64 V] 3)) 27 #[.int .i64 V,.slice N.Ai N.aU.length N.ci,.slice N.Al N.af.length N.cl,.slice N.Ao N.bB.length N.co,.slice N.Ab N.bC.length N.cb,.slice N.Ac N.constraints.length N.cc,.slice N.Am N.aa.length N.cm,.slice N.An N.aw.length N.cn];simp only[World.size_alloc]at b1 b2 b3 b4 b5;have hsz:((((((w.alloc (.cells #[.int .i64 V,.slice N.Ai N.aU.length N.ci,.slice N.Al N.af.length N.cl,.slice N.Ao N.bB.length N.co,.slice N.Ab N.bC.length N.cb,.slice N.Ac N.constraints.length N.cc,.slice N.Am N.aa.length N.cm,.slice N.An N.aw.length N.cn] 27)).alloc (.cells #[.int .i64 0] 34)).alloc (.cells (madeCells #[Value.bool false] (V+1)) 4)).alloc (.cells #[.slice (some ⟨w.heap.size+1+1,0,none⟩) (V+1) (V+1)] 28)).alloc (.cells #[.int .i64 V] 3)).alloc (.cells #[.int .i64 V,.slice N.Ai N.aU.length N.ci,.slice N.Al N.af.length N.cl,.slice N.Ao N.bB.length N.co,.slice N.Ab N.bC.length N.cb,.slice N.Ac N.constraints.length N.cc,.slice N.Am N.aa.length N.cm,.slice N.An N.aw.length N.cn] 27)).heap.size=w.heap.size+6:=by simp
 generalize (((((w.alloc (.cells #[.int .i64 V,.slice N.Ai N.aU.length N.ci,.slice N.Al N.af.length N.cl,.slice N.Ao N.bB.length N.co,.slice N.Ab N.bC.length N.cb,.slice N.Ac N.constraints.length N.cc,.slice N.Am N.aa.length N.cm,.slice N.An N.aw.length N.cn] 27)).alloc (.cells #[.int .i64 0] 34)).alloc (.cells (madeCells #[Value.bool false] (V+1)) 4)).alloc (.cells #[.slice (some ⟨w.heap.size+1+1,0,none⟩) (V+1) (V+1)] 28)).alloc (.cells #[.int .i64 V] 3)).alloc (.cells #[.int .i64 V,.slice N.Ai N.aU.length N.ci,.slice N.Al N.af.length N.cl,.slice N.Ao N.bB.length N.co,.slice N.Ab N.bC.length N.cb,.slice N.Ac N.constraints.length N.cc,.slice N.Am N.aa.length N.cm,.slice N.An N.aw.length N.cn] 27)=W0 at hw1 b0 b1 b2 b3 b4 b5 hsz |-;clear hw0 hmk hz1;rw[Zxz]at b2;have hfs:N.fs=#[.int .i64 V,.slice N.Ai N.aU.length N.ci,.slice N.Al N.af.length N.cl,.slice N.Ao N.bB.length N.co,.slice N.Ab N.bC.length N.cb,.slice N.Ac N.constraints.length N.cc,.slice N.Am N.aa.length N.cm,.slice N.An N.aw.length N.cn]:=by unfold bf.fs;rw[HV.out]
 refine wpIn_rangeFunc_ownF rfl (by omega) (gf:=290) (lb:=#[.pointer (some ⟨w.heap.size+1+1+1+1+1,0,none⟩)]) rfl trivial (enters_of Tryz.func290 (by kernel_rfl) rfl)
  (WG Fence.wide 2 trivial rfl (by omega) (w.heap.size+1+1+1+1+1) w.heap.size (w.heap.size+1+1+1+1+1) N W0 (by rw[hfs];exact b5) (Nat.le_refl _) (HOK.out.below hw1) (by omega) HF.out) ep.trans (Vi (by omega)) (Below.refl _ _) (fun _=>rfl)
  (fun pre W=>(jS V pre/\aS W w.heap.size 27 #[.int .i64 V,.slice N.Ai N.aU.length N.ci,.slice N.Al N.af.length N.cl,.slice N.Ao N.bB.length N.co,.slice N.Ab N.bC.length N.cb,.slice N.Ac N.constraints.length N.cc,.slice N.Am N.aa.length N.cm,.slice N.An N.aw.length N.cn]/\aS W (w.heap.size+1) 34 #[.int .i64 0]/\aS W (w.heap.size+1+1) 4 ((gN V pre).map Value.bool).toArray/\aS W (w.heap.size+1+1+1) 28 #[.slice (some ⟨w.heap.size+1+1,0,none⟩) (V+1) (V+1)]/\aS W (w.heap.size+1+1+1+1) 3 #[.int .i64 ((V:Int)-pre.length)])/\Below w.heap.size w W)
  (fun c pre W=>(∃pre' x r,(c=.ret/\pre=pre'++[x]/\jS V pre'/\mN V pre' x=some r)/\aS W (w.heap.size+1) 34 #[.int .i64 r])/\Below w.heap.size w W)
  (OwnFrom.and (OwnFrom.and (Tm _) (OwnFrom.and (pC _) (OwnFrom.and (pC _) (OwnFrom.and (pC _) (OwnFrom.and (pC _) (pC _)))))) (ownFrom_below (Nat.le_refl _) (by omega)))
  (fun c=>OwnFrom.and (fun s W W' row hs hg hr=>by obtain⟨pre',x,r,h1,h2⟩:=hs;exact⟨pre',x,r,h1,pC (β:=Unit) (fun _=>#[.int .i64 r]) () W W' row h2 hg hr⟩) (ownFrom_below (Nat.le_refl _) (by omega)))
  ⟨⟨⟨List.nodup_nil,by simp⟩,b0,b1,b2,b3,by simpa using b4⟩,hw1⟩
  (fun x=>{ tmps:=#[.agg #[.int .i64 V,.slice N.Ai N.aU.length N.ci,.slice N.Al N.af.length N.cl,.slice N.Ao N.bB.length N.co,.slice N.Ab N.bC.length N.cb,.slice N.Ac N.constraints.length N.cc,.slice N.Am N.aa.length N.cm,.slice N.An N.aw.length N.cn],.pointer (some ⟨w.heap.size,0,none⟩),.pointer (some ⟨w.heap.size+1,0,none⟩),.pointer (some ⟨w.heap.size+1+1+1,0,none⟩),.pointer (some ⟨w.heap.size+1+1+1+1,0,none⟩),.int .i64 x,.pointer (some ⟨w.heap.size,0,none⟩),.int .i64 V,.int .i64 ((V:Int)+1),.slice (some ⟨w.heap.size+1+1,0,none⟩) (V+1) (V+1),.pointer (some ⟨w.heap.size,0,none⟩),.int .i64 V,.agg #[.int .i64 V,.slice N.Ai N.aU.length N.ci,.slice N.Al N.af.length N.cl,.slice N.Ao N.bB.length N.co,.slice N.Ab N.bC.length N.cb,.slice N.Ac N.constraints.length N.cc,.slice N.Am N.aa.length N.cm,.slice N.An N.aw.length N.cn],.func (.func 290) #[] #[.pointer (some ⟨w.heap.size+1+1+1+1+1,0,none⟩)],.int .i64 x,undef,undef,undef,undef,undef,undef,undef,undef,undef,undef,undef,undef,undef,undef,undef,undef,undef,undef,undef,undef,undef],defers:=[] }) ?assign ?body ?done ?stop
 case assign=>
  intro l x W K hK
  gi_wp2
  exact hK
 case body=>
  rintro l pre x W ⟨⟨hfn,c0,c1,c2,c3,c4⟩,hB⟩ hlen;clear b0 b1 b2 b3 b4 b5 hw1 HOK HF HVI hfs;have hc0:=c0.cell 0;have hc1:=c1.cell 0;have hf1:=c1.frozen 0;have hc3:=c3.cell 0;have hc4:=c4.cell 0;have hf4:=c4.frozen 0;simp only[List.getElem?_toArray,List.getElem?_cons_zero]at hc0 hc1 hc3 hc4;by_cases hbad:x<1\/(V:Int)<x
  .have hbo:mN V pre x=some 5:=by unfold mN;rw[if_pos hbad]
   have HBO:=Lib.hid hbo;have HFN:=Lib.hid hfn;clear hbo hfn c0 c2 c3 c4;rcases(show x<1\/(¬x<1/\(V:Int)<x)from by omega)with h1|⟨h1,h2⟩
   all_goals
    gi_wp2
    exact⟨KeepsOthers.setCell _ _ _,⟨pre,x,5,⟨rfl,rfl,HFN.out,HBO.out⟩,c1.nC 0 _⟩,hB.setCell (p:=⟨w.heap.size+1,0,none⟩) (by simp) _⟩
  .obtain⟨v,rfl⟩:=Int.eq_ofNat_of_zero_le (show 0<=x by omega);have h1:¬((v:Int)<1):=by omega
   have h2:¬((V:Int)<v):=by omega
   have h3:v<=V:=by omega
   have hcs:=(c2.cell v).trans (JM h3);have hfs:=c2.frozen v;rcases hct:pre.contains (v:Int)with _|_
   .rw[hct]at hcs;have HFN:=Lib.hid (hfn.snoc (by omega) (by omega) hct);have hlen2:pre.length<=1000000:=by omega
    clear hct hfn hbad
    gi_wp2
    refine⟨(KeepsOthers.setCell _ _ _).trans (KeepsOthers.setCell _ _ _),((ep.refl _ _ _).setCell (p:=⟨w.heap.size+1+1,v,none⟩) (by simp;omega) (by simp) _).setCell (p:=⟨w.heap.size+1+1+1+1,0,none⟩) (by simp;omega) (by simp) _,⟨HFN.out,?_,?_,?_,?_,?_⟩,(hB.setCell (p:=⟨w.heap.size+1+1,v,none⟩) (by simp;omega) _).setCell (p:=⟨w.heap.size+1+1+1+1,0,none⟩) (by simp;omega) _⟩
    .exact(c0.gn (p:=⟨w.heap.size+1+1,v,none⟩) (by simp;omega) _).gn (by simp;omega) _
    .exact(c1.gn (p:=⟨w.heap.size+1+1,v,none⟩) (by simp) _).gn (by simp<;>omega) _
    .have:=(c2.nC v (.bool true)).gn (p:=⟨w.heap.size+1+1+1+1,0,none⟩) (by simp<;>omega) (.int .i64 ((V:Int)-pre.length-1));rw[Qz h3]at this;exact this
    .exact(c3.gn (p:=⟨w.heap.size+1+1,v,none⟩) (by simp) _).gn (by simp) _
    .have:=(c4.gn (p:=⟨w.heap.size+1+1,v,none⟩) (by simp;omega) (.bool true)).nC 0 (.int .i64 ((V:Int)-pre.length-1));rw[show(V:Int)-((pre++[(v:Int)]).length:Nat)=(V:Int)-pre.length-1 by simp;omega];exact this
   .have hbo:mN V pre v=some 6:=by unfold mN;rw[if_neg hbad,if_pos hct]
    rw[hct]at hcs;have HBO:=Lib.hid hbo;have HFN:=Lib.hid hfn;clear hbo hfn hct c0 c2 c3 c4 hbad
    gi_wp2
    exact⟨KeepsOthers.setCell _ _ _,⟨pre,v,6,⟨rfl,rfl,HFN.out,HBO.out⟩,c1.nC 0 _⟩,hB.setCell (p:=⟨w.heap.size+1,0,none⟩) (by simp) _⟩
 case done=>
  rintro D ys W hD2 hys ⟨⟨hfn,c0,c1,c2,c3,c4⟩,hB⟩ hK;have hdu:=K6 ys [] (by simpa using hfn);rw[hys]at hdu;have hyl:ys.length<=1000000:=by rw[hys];exact hD
  have hyl2:(bV N.d).length=ys.length:=by rw[hys]
  rw[List.nil_append,hyl2]at hdu;have HDU:=Lib.hid hdu;have hc1:=c1.cell 0;have hf1:=c1.frozen 0;have hc4:=c4.cell 0;simp only[List.getElem?_toArray,List.getElem?_cons_zero]at hc1 hc4;clear b0 b1 b2 b3 b4 b5 hw1 HOK HF HVI hfs hdu hyl2 hys hfn c0 c2 c3 c4;by_cases hlt:(0:Int)<(V:Int)-ys.length
  .gi_wp2
   have hK':=(KeepsOthers.setCell W ⟨w.heap.size+1,0,none⟩ (.int .i64 7)).same D _ hK rfl;refine⟨by simp,.inl ⟨_,_,rfl,run_takeDeferred hK',?_⟩⟩;have hc5:=cell_kept (World.cell?_setCell_same' W ⟨w.heap.size+1,0,none⟩ (.int .i64 7) (by rw[hc1];rfl)) (grownBy_putObj' _ D (.deferred none)) (fun r e=>by cases e;exact⟨_,hK',rfl⟩);refine⟨.int .i64 7,?_,by rw[HDU.out,if_pos (by omega)],(hB.setCell (p:=⟨w.heap.size+1,0,none⟩) (by simp) _).trans (belowK_b (w:=w) (Nat.le_refl _) _ D _ _ (by omega) hK' rfl rfl)⟩;simp[results,Tryz.f272,go_sem,hc5]
  .gi_wp2
   have hK':=(KeepsOthers.setCell W ⟨w.heap.size+1,0,none⟩ (.int .i64 0)).same D _ hK rfl;refine⟨by simp,.inl ⟨_,_,rfl,run_takeDeferred hK',?_⟩⟩;have hc5:=cell_kept (World.cell?_setCell_same' W ⟨w.heap.size+1,0,none⟩ (.int .i64 0) (by rw[hc1];rfl)) (grownBy_putObj' _ D (.deferred none)) (fun r e=>by cases e;exact⟨_,hK',rfl⟩);refine⟨.int .i64 0,?_,by rw[HDU.out,if_neg (by omega)],(hB.setCell (p:=⟨w.heap.size+1,0,none⟩) (by simp) _).trans (belowK_b (w:=w) (Nat.le_refl _) _ D _ _ (by omega) hK' rfl rfl)⟩;simp[results,Tryz.f272,go_sem,hc5]
 case stop=>
  rintro D c pre W hD2 hpre ⟨⟨pre',x,r,⟨rfl,rfl,hfn,hbo⟩,c1⟩,hB⟩ hK;have HDU:=Lib.hid (TI hfn hpre hbo);have hc1:=c1.cell 0;simp only[List.getElem?_toArray,List.getElem?_cons_zero]at hc1;clear b0 b1 b2 b3 b4 b5 hw1 HOK HF HVI hfs hfn hpre hbo
  gi_wp2
  refine⟨by simp,.inl ⟨_,_,rfl,run_takeDeferred hK,?_⟩⟩;have hc5:=cell_kept hc1 (grownBy_putObj' _ D (.deferred none)) (fun r e=>by cases e;exact⟨_,hK,rfl⟩);refine⟨.int .i64 r,?_,by rw[HDU.out],hB.trans (belowK_b (w:=w) (Nat.le_refl _) W D _ _ (by omega) hK rfl rfl)⟩;simp[results,Tryz.f272,go_sem,hc5]
structure fQ(base g:Nat)(w w':World):Prop where
 below:Below base w w'
 box:∀(c:Nat) (t:TypeId) (cs:Array Value),aS w c t cs->t≠3->c≠g->aS w' c t cs
theorem fQ.refl(base g:Nat)(w:World):fQ base g w w:=⟨Below.refl _ _,fun _ _ _ h _ _=>h⟩
theorem fQ.trans{base g:Nat}{a b c:World}(h:fQ base g a b)(k:fQ base g b c):fQ base g a c:=⟨h.below.trans k.below,fun x t cs hb ht hg=>k.box x t cs (h.box x t cs hb ht hg) ht hg⟩
theorem fQ.alloc{base g:Nat}{a b:World}(h:fQ base g a b)(hb:base<=b.heap.size)(o:Obj):fQ base g a (b.alloc o):=⟨h.below.alloc hb o,fun x t cs hB ht hg=>(h.box x t cs hB ht hg).alloc o⟩
def Acc(w:World)(base g:Nat)(xs:List Int):Prop:=∃v,aS w g 22 #[v]/\w.ownsRow base 3 1 v xs.length (ints xs)
theorem Acc.alloc{w:World}{base g:Nat}{xs:List Int}(h:Acc w base g xs)(o:Obj):Acc (w.alloc o) base g xs:=by obtain⟨v,h1,h2⟩:=h;exact⟨v,h1.alloc o,h2.alloc o⟩
theorem ko(l:List Int):∀u∈ints l,u.oneCell'=true:=by intro u hu;obtain⟨x,_,rfl⟩:=List.mem_map.1 hu;rfl
def BL(base g:Nat)(xs:List Int)(w:World)(e:Ending)(w':World):Prop:=e=.returned (.tuple #[])/\Acc w' base g xs/\fQ base g w w'
theorem mq(base g:Nat)(xs:List Int)(A:Option Addr)(c:Nat)(l:List Int)(w:World)(hacc:Acc w base g xs)(hS:Sl w w.heap.size 1 A l.length c (ints l))(hlen:xs.length+l.length<=1000000)(hbase:base<=g) :
  Calls Tryz.prog 339 #[.slice A l.length c,.pointer (some ⟨g,0,none⟩)] w (BL base g (xs++l) w):=by
 obtain⟨v,hb,hown⟩:=hacc;have hc0:w.cell? ⟨g,0,none⟩=some v:=hb.cell 0;have hgl:=hb.lt;have hne:=sI hown hb (by decide);obtain⟨Av,cv,rfl,hv1,hv2,_⟩:=sN hown;obtain⟨i0,hi0,hz0,hz1,hz2⟩:=info_parts lP;have HNE:=Lib.hid hne;have HB:=Lib.hid hb;clear hne hb
 go_enter Tryz.func339,Tryz.ntmps339
 go_wp2_with (at_builtin;refine ka _ rfl _ _ 22 rfl base 3 i0 (.int .i64 0) 1 8 Tryz.underlying22 hi0 hz0 hz1 hz2 rfl (by decide) _ _ _ rfl hown w.heap.size A l.length c (ints l) rfl hS.1 (ko l) (by unfold maxLen;omega) (by omega) (by omega) ?_;intro v' w1 hown' hg' hbb;obtain⟨A1,c1,rfl,h11,h12,_⟩:=sN hown';have hb1:=HB.out.grown hg' (fun e=>HNE.out e.symm);have hc1:=hb1.cell 0;have hf1:=hb1.frozen 0;simp only[List.getElem?_toArray,List.getElem?_cons_zero]at hc1)
 refine bodyPost_end (results_none rfl _ _ _) rfl ?_;have hne':Value.ownBlock (.slice A1 (xs.length+l.length) c1)≠some g:=sI hown' hb1 (by decide);have hB1:Below base w w1:=by refine⟨hg'.os,hg'.tape,hg'.output,hg'.size,fun i hi=>hg'.block i (by omega) ?_⟩;intro e;have:=(hown.lt i e.symm).1;omega
 refine⟨rfl,⟨_,hb1.nC 0 _,?_⟩,⟨hB1.setCell (p:=⟨g,0,none⟩) hbase _,fun x t cs hB ht hg=>?_⟩⟩
 .have e1:(xs++l).length=xs.length+l.length:=by simp
  have e2:ints (xs++l)=ints xs++ints l:=by simp[ints]
  rw[e1,e2];exact ownsRow_setCell_other hown' (a:=⟨g,0,none⟩) hne' _
 .have h1:=hB.grown hg' (fun e=>sI hown hB (fun e=>ht e.symm) e.symm);exact h1.gn (p:=⟨g,0,none⟩) hg _
/- the literals in their order, as gn as they have come -/
def jQ(m:aW):List Int:=m.reads.flatMap (·.addr)++m.writes.flatMap fun x=>x.on::(x.addr++x.data)
theorem T1(m:aW):jY m.d=jQ m:=by unfold jY jQ aW.d;rw[List.flatMap_map,List.flatMap_map];rfl
def k1(N:bf)(k:Nat):List Int:=(N.af.take k).map (·.next)
def k2(N:bf)(k:Nat):List Int:=N.af.map (·.next)++N.bB++N.bC++N.constraints++(N.aa.take k).flatMap jQ
def k3(N:bf)(k:Nat)(m:aW)(j:Nat):List Int:=k2 N k++(m.reads.take j).flatMap (·.addr)
def k4(N:bf)(k:Nat)(m:aW)(j:Nat):List Int:=k2 N k++m.reads.flatMap (·.addr)++(m.writes.take j).flatMap fun x=>x.on::(x.addr++x.data)
def k5(N:bf)(k:Nat):List Int:=N.af.map (·.next)++N.bB++N.bC++N.constraints++N.aa.flatMap jQ++(N.aw.take k).flatMap jt
theorem yB(N:bf):cW N.d=N.af.map (·.next)++N.bB++N.bC++N.constraints++N.aa.flatMap jQ++N.aw.flatMap jt:=by unfold cW bf.d;simp only;rw[List.flatMap_map];congr 2;exact congrArg (fun f=>N.aa.flatMap f) (funext T1)
section
variable{N:bf}{k j:Nat}
theorem AZ{x:dI}(h:N.af[k]?=some x):k1 N (k+1)=k1 N k++[x.next]:=by unfold k1;rw[cN h];simp
theorem Jb:k1 N k <+: cW N.d:=by rw[yB];simp only[dn];exact(List.IsPrefix.map _ (List.take_prefix _ _)).trans (List.prefix_append _ _)
theorem um(hk:N.af.length<=k):k1 N k++N.bB++N.bC++N.constraints=k2 N 0:=by unfold k1 k2;rw[List.take_of_length_le hk];simp
theorem Bs:k2 N k <+: cW N.d:=by
 rw[yB];refine List.IsPrefix.trans ?_ (List.prefix_append _ _);refine jC ?_;have h:=List.prefix_append ((N.aa.take k).flatMap jQ) ((N.aa.drop k).flatMap jQ)
 rwa [<-List.flatMap_append,List.take_append_drop]at h
theorem LF{m:aW}:k3 N k m 0=k2 N k:=by simp[k3]
theorem yZ{m:aW}{r:bS}(h:m.reads[j]?=some r):k3 N k m (j+1)=k3 N k m j++r.addr:=by unfold k3;rw[nH _ h,dn]
theorem LG{m:aW}(hj:m.reads.length<=j):k3 N k m j=k4 N k m 0:=by unfold k3 k4;rw[List.take_of_length_le hj];simp
theorem yY{m:aW}{r:cF}(h:m.writes[j]?=some r):k4 N k m (j+1)=k4 N k m j++[r.on]++r.addr++r.data:=by unfold k4;rw[nH _ h];simp
theorem LH{m:aW}(h:N.aa[k]?=some m):k2 N (k+1)=k2 N k++jQ m:=by unfold k2;rw[nH _ h];simp
theorem LD{m:aW}(h:N.aa[k]?=some m)(hj:m.writes.length<=j):k4 N k m j=k2 N (k+1):=by rw[LH h];unfold k4 jQ;rw[List.take_of_length_le hj];simp
theorem Br{m:aW}(h:N.aa[k]?=some m):k4 N k m j <+: cW N.d:=by
 refine List.IsPrefix.trans ?_ (Bs (k:=k+1));rw[LH h];unfold k4 jQ;rw[dn];refine jC (jC ?_);have h:=List.prefix_append ((m.writes.take j).flatMap fun x:cF=>x.on::(x.addr++x.data)) ((m.writes.drop j).flatMap fun x=>x.on::(x.addr++x.data))
 rwa [<-List.flatMap_append,List.take_append_drop]at h
theorem Jc{m:aW}(h:N.aa[k]?=some m):k3 N k m j <+: cW N.d:=by refine List.IsPrefix.trans ?_ (Br (j:=0) h);unfold k3 k4;have h:=List.prefix_append ((m.reads.take j).flatMap (·.addr)) ((m.reads.drop j).flatMap (·.addr));rw[<-List.flatMap_append,List.take_append_drop]at h;simp only[List.take_zero,List.flatMap_nil,fR];exact jC h
theorem LI(hk:N.aa.length<=k):k2 N k=k5 N 0:=by unfold k2 k5;rw[List.take_of_length_le hk];simp
theorem yX{x:ey}(h:N.aw[k]?=some x):k5 N (k+1)=k5 N k++[x.a,x.b]:=by unfold k5;rw[nH _ h];simp[jt]
theorem LC(hk:N.aw.length<=k):k5 N k=cW N.d:=by rw[yB];unfold k5;rw[List.take_of_length_le hk]
theorem Jd:k5 N k <+: cW N.d:=by
 rw[yB];unfold k5;refine jC ?_;have h:=List.prefix_append ((N.aw.take k).flatMap jt) ((N.aw.drop k).flatMap jt)
 rwa [<-List.flatMap_append,List.take_append_drop]at h
end
theorem Bl(W:World)(l:List Int)(hl:l.length<=1000):Sl (W.alloc (.cells (ints l).toArray 3)) (W.alloc (.cells (ints l).toArray 3)).heap.size 1 (some ⟨W.heap.size,0,none⟩) l.length l.length (ints l):=by
 have h:=(aS.new W 3 (ints l).toArray).reads;have e:(ints l).length=l.length:=by simp[ints]
 rw[e]at h;exact⟨h,Nat.le_refl _,Nat.zero_le _⟩
theorem ke{D a:List Int}{n:Nat}(h:a <+: D)(hD:D.length<=n):a.length<=n:=Nat.le_trans h.length_le hD
theorem fQ.dU{base:Nat}{W1 wr:World}{N:bf}(h:fQ base (base+1) W1 wr)(hb:aS W1 base 27 N.fs):aS wr base 27 N.fs:=h.box _ _ _ hb (by decide) (by omega)
theorem KC(base g:Nat)(xs:List Int)(x:Int)(W:World)(s:Nat)(hs:s=W.heap.size)(hacc:Acc W base g xs)(hlen:xs.length+1<=1000000)(hbase:base<=g) :
  Calls Tryz.prog 339 #[.slice (some ⟨s,0,none⟩) 1 1,.pointer (some ⟨g,0,none⟩)] (W.alloc (.cells #[.int .i64 x] 3)) (BL base g (xs++[x]) (W.alloc (.cells #[.int .i64 x] 3))):=by
 subst hs;exact mq base g xs (some ⟨W.heap.size,0,none⟩) 1 [x] (W.alloc (.cells #[.int .i64 x] 3)) (hacc.alloc _) (Bl W [x] (by simp)) (by simpa using hlen) hbase
theorem Tn(base g:Nat)(xs:List Int)(x y:Int)(W:World)(s:Nat)(hs:s=W.heap.size)(hacc:Acc W base g xs)(hlen:xs.length+2<=1000000)(hbase:base<=g) :
  Calls Tryz.prog 339 #[.slice (some ⟨s,0,none⟩) 2 2,.pointer (some ⟨g,0,none⟩)] (W.alloc (.cells #[.int .i64 x,.int .i64 y] 3)) (BL base g (xs++[x,y]) (W.alloc (.cells #[.int .i64 x,.int .i64 y] 3))):=by
 subst hs;exact mq base g xs (some ⟨W.heap.size,0,none⟩) 2 [x,y] (W.alloc (.cells #[.int .i64 x,.int .i64 y] 3)) (hacc.alloc _) (Bl W [x,y] (by simp)) (by simpa using hlen) hbase
theorem VY(N:bf)(w:World)(hok:N.bp w w.heap.size)(ft:Fit N.d)(hD:(cW N.d).length<=1000000) :
  Calls Tryz.prog 273 #[N.v] w (km 3 w (ints (cW N.d))):=by
 have hl2:N.af.length<=4000:=ft.au.1;have hl3:N.aw.length<=4000:=ft.aw.1;have hl4:N.aa.length<=100:=by have:=ft.aa.1;simpa[bf.d]using this
 have HMF:=Lib.hid (ft.aa.2);have HD:=Lib.hid hD;clear ft hD;obtain⟨base,hbase⟩:∃base,base=w.heap.size:=⟨_,rfl⟩;have hb0:aS ((w.alloc (.cells N.fs 27)).alloc (.cells #[.slice none 0 0] 22)) base 27 N.fs:=by rw[hbase];exact(aS.new w 27 N.fs).alloc _
 have hb1:aS ((w.alloc (.cells N.fs 27)).alloc (.cells #[.slice none 0 0] 22)) (base+1) 22 #[.slice none 0 0]:=by have:=aS.new (w.alloc (.cells N.fs 27)) 22 #[.slice none 0 0];rw[World.size_alloc]at this;rw[hbase];exact this
 have hB:Below base w ((w.alloc (.cells N.fs 27)).alloc (.cells #[.slice none 0 0] 22)):=by rw[hbase];exact((Below.refl _ w).alloc (Nat.le_refl _) _).alloc (by simp) _
 have hsz:((w.alloc (.cells N.fs 27)).alloc (.cells #[.slice none 0 0] 22)).heap.size=base+2:=by rw[hbase];simp
 have hacc:Acc ((w.alloc (.cells N.fs 27)).alloc (.cells #[.slice none 0 0] 22)) base (base+1) (k1 N 0):=⟨_,hb1,by simp[k1,ints];exact World.ownsRow_nil _ _ _ _⟩;have hok2:N.bp ((w.alloc (.cells N.fs 27)).alloc (.cells #[.slice none 0 0] 22)) base:=by rw[<-hbase]at hok;exact hok.below hB
 have HOK:=Lib.hid hok2;have HBE:=Lib.hid hB;clear hok hok2 hb1 hB;unfold bf.v
 go_enter Tryz.func273,Tryz.ntmps273
 unfold bf.fs
 go_wp2_with fail
 rw[<-hbase];change Code.wp _ _ _ _ ((w.alloc (.cells N.fs 27)).alloc (.cells #[.slice none 0 0] 22));generalize (w.alloc (.cells N.fs 27)).alloc (.cells #[.slice none 0 0] 22)=W1 at hb0 hacc hsz HOK HBE |-;have HB0:=Lib.hid hb0;have HSZ:=Lib.hid hsz;have HBA:=Lib.hid hbase;clear hb0 hsz hbase
 go_loopw [18] (fun i wr=>∃k:Nat,k<=N.af.length/\i=.int .i64 k/\Acc wr base (base+1) (k1 N k)/\fQ base (base+1) W1 wr) (fun i _=>N.af.length-(intOf i).toNat)
 case atStart=>exact⟨0,Nat.zero_le _,rfl,hacc,fQ.refl _ _ _⟩
 case round=>
  clear hacc;obtain⟨k,hk,rfl,hacc,hpf⟩:=hrel;have hsz:base+2<=wr.heap.size:=by have:=hpf.below.size;have:=HSZ.out;omega
  by_cases hlt:k<N.af.length
  .obtain⟨b,off,x,e1,hb,hx,hm,hcs⟩:=(HOK.out.below hpf.below).au.elem (by omega) (fun _=>rfl) hlt;obtain⟨hc0,hc1,hc2⟩:=dI.at_ hcs;have hp:=ke (Jb (k:=k+1)) HD.out;rw[AZ hx]at hp;have HX:=Lib.hid hx;clear hx hm hcs;rw[e1];clear e1;simp only[bA,cx,List.length_nil]at hp
   go_wp2_with fail
   refine(KC base (base+1) (k1 N k) x.next _ _ (by simp) (hacc.alloc _) (by omega) (by omega)).mono ?_;rintro e w2 ⟨rfl,hacc2,hpf2⟩;rw[<-AZ HX.out]at hacc2
   go_wp2_with fail
   go_roundw
   case rel=>exact⟨k+1,by omega,by go_num,hacc2,((hpf.alloc (by omega) _).alloc (by simp;omega) _).trans hpf2⟩
   case measure=>simp[intOf];omega
  .have hf3:wr.cell? ⟨base,3,none⟩=some (.slice N.Ao N.bB.length N.co):=(hpf.dU HB0.out).cell 3;have hp:=ke (Bs (k:=0)) HD.out;rw[<-um (show N.af.length<=k by omega)]at hp;simp only[bA]at hp
   go_wp2_with fail
   refine(mq base (base+1) (k1 N k) N.Ao N.co N.bB _ hacc ((HOK.out.below hpf.below).out.more (by omega)) (by omega) (by omega)).mono ?_;rintro e w2 ⟨rfl,hacc2,hpf2⟩;have hpf3:=hpf.trans hpf2;have hs3:=hpf2.below.size;have hf4:w2.cell? ⟨base,4,none⟩=some (.slice N.Ab N.bC.length N.cb):=(hpf3.dU HB0.out).cell 4;clear hacc hpf hpf2 hf3
   go_wp2_with fail
   refine(mq base (base+1) _ N.Ab N.cb N.bC _ hacc2 ((HOK.out.below hpf3.below).bad.more (by omega)) (by simp;omega) (by omega)).mono ?_;rintro e w3 ⟨rfl,hacc3,hpf4⟩;have hpf5:=hpf3.trans hpf4;have hs5:=hpf4.below.size;have hf5:w3.cell? ⟨base,5,none⟩=some (.slice N.Ac N.constraints.length N.cc):=(hpf5.dU HB0.out).cell 5;clear hacc2 hpf3 hpf4 hf4
   go_wp2_with fail
   refine(mq base (base+1) _ N.Ac N.cc N.constraints _ hacc3 ((HOK.out.below hpf5.below).lI.more (by omega)) (by simp;omega) (by omega)).mono ?_;rintro e w4 ⟨rfl,hacc4,hpf6⟩;have hpf7:=hpf5.trans hpf6;have hf6:w4.cell? ⟨base,6,none⟩=some (.slice N.Am N.aa.length N.cm):=(hpf7.dU HB0.out).cell 6;rw[um (by omega)]at hacc4;clear hacc3 hpf5 hpf6 hf5 hs3 hs5 hsz hlt hp hk
   go_wp2_with fail
   go_loopw [43] (fun i wr=>∃k:Nat,k<=N.aa.length/\i=.int .i64 k/\Acc wr base (base+1) (k2 N k)/\fQ base (base+1) W1 wr) (fun i _=>N.aa.length-(intOf i).toNat)
   case atStart=>exact⟨0,Nat.zero_le _,rfl,hacc4,hpf7⟩
   case round=>
    clear hacc4 hpf7 hf6;obtain⟨k,hk,rfl,hacc,hpf⟩:=hrel;have hsz:base+2<=wr.heap.size:=by have:=hpf.below.size;have:=HSZ.out;omega
    by_cases hlt:k<N.aa.length
    .obtain⟨b,off,m,e1,hb,hx,hm,hcs⟩:=(HOK.out.below hpf.below).mem.elem (by omega) (fun _=>rfl) hlt;obtain⟨hc0,hc1,hc2,hc3,hc4⟩:=aW.at_ hcs;have HX:=Lib.hid hx;have HM:=Lib.hid (HOK.out.mA m hm);have hfm:=HMF.out m.d (List.mem_map_of_mem hm);have hrn:m.reads.length<=100:=by have:=hfm.pV;simpa[aW.d]using this
     have hwn:m.writes.length<=100:=by have:=hfm.zi;simpa[aW.d]using this
     clear hx hm hcs hfm;rw[e1];clear e1
     go_wp2_with fail
     obtain⟨c,hc⟩:∃c,c=wr.heap.size:=⟨_,rfl⟩;have hpf2:=hpf.alloc (show base<=wr.heap.size by omega) (.cells m.cells.toArray 87);have hacc2:=hacc.alloc (.cells m.cells.toArray 87);have hbk:=aS.new wr 87 m.cells.toArray;have hcB:base+2<=c:=by omega
     rw[<-hc]at hbk |-;rw[<-LF (m:=m)]at hacc2;clear hc hacc hpf hc0 hc1 hc2 hc3 hc4;change Code.wp _ _ _ _ (wr.alloc (.cells m.cells.toArray 87));obtain⟨w3,hw3⟩:∃w3:World,w3=wr.alloc (.cells m.cells.toArray 87):=⟨_,rfl⟩;rw[<-hw3]at hpf2 hacc2 hbk |-;clear hw3 hsz
     go_loopw [50] (fun i wr=>∃j:Nat,j<=m.reads.length/\i=.int .i64 j/\Acc wr base (base+1) (k3 N k m j)/\fQ base (base+1) W1 wr/\aS wr c 87 m.cells.toArray) (fun i _=>m.reads.length-(intOf i).toNat)
     case atStart=>exact⟨0,Nat.zero_le _,rfl,hacc2,hpf2,hbk⟩
     case round=>
      clear hacc2 hpf2 hbk;obtain⟨j,hj,rfl,hacc,hpf,hbk⟩:=hrel;have hsz:base+2<=wr.heap.size:=by have:=hpf.below.size;have:=HSZ.out;omega
      by_cases hlt2:j<m.reads.length
      .obtain⟨b2,off2,r,e1,hb2,hx2,hm2,hcs⟩:=(HM.out.below hpf.below).rd.elem (by omega) (fun _=>rfl) hlt2;obtain⟨hc0,hc1⟩:=bS.at_ hcs;have HX2:=Lib.hid hx2;have HR:=Lib.hid (HM.out.iP r hm2);have hp:=ke (Jc (j:=j+1) HX.out) HD.out;rw[yZ hx2]at hp;simp only[bA]at hp;clear hx2 hm2 hcs;rw[e1];clear e1
       go_wp2_with fail
       refine(mq base (base+1) (k3 N k m j) r.A r.c r.addr _ (hacc.alloc _) (Sl.more (HR.out.below (hpf.alloc (by omega) _).below) (by simp;omega)) (by omega) (by omega)).mono ?_;rintro e w2 ⟨rfl,hacc2,hpf2⟩;rw[<-yZ HX2.out]at hacc2
       go_wp2_with fail
       go_roundw
       case rel=>exact⟨j+1,by omega,by go_num,hacc2,(hpf.alloc (by omega) _).trans hpf2,hpf2.box _ _ _ (hbk.alloc _) (by decide) (by omega)⟩
       case measure=>simp[intOf];omega
      .rw[LG (by omega)]at hacc;have hcw:wr.cell? ⟨c,4,none⟩=some (.slice m.A2 m.writes.length m.c2):=hbk.cell 4
       go_wp2_with fail
       obtain⟨w5,rfl⟩:∃w5:World,w5=wr:=⟨_,rfl⟩;clear hlt2 hj hsz hcw hbk
       go_loopw [62] (fun i wr=>∃j:Nat,j<=m.writes.length/\i=.int .i64 j/\Acc wr base (base+1) (k4 N k m j)/\fQ base (base+1) W1 wr) (fun i _=>m.writes.length-(intOf i).toNat)
       case atStart=>exact⟨0,Nat.zero_le _,rfl,hacc,hpf⟩
       case round=>
        clear hacc hpf;obtain⟨j,hj,rfl,hacc,hpf⟩:=hrel;have hsz:base+2<=wr.heap.size:=by have:=hpf.below.size;have:=HSZ.out;omega
        by_cases hlt2:j<m.writes.length
        .obtain⟨b2,off2,r,e1,hb2,hx2,hm2,hcs⟩:=(HM.out.below hpf.below).wr.elem (by omega) (fun _=>rfl) hlt2;obtain⟨hc0,hc1,hc2⟩:=cF.at_ hcs;have HX2:=Lib.hid hx2;have HR:=Lib.hid (HM.out.oq r hm2);have hp:=ke (Br (j:=j+1) HX.out) HD.out;rw[yY hx2]at hp;simp only[bA,cx,List.length_nil]at hp;clear hx2 hm2 hcs;rw[e1];clear e1
         go_wp2_with fail
         refine(KC base (base+1) (k4 N k m j) r.on _ _ (by simp) (hacc.alloc _) (by omega) (by omega)).mono ?_;rintro e w2 ⟨rfl,hacc2,hpf2⟩;obtain⟨d,hd⟩:∃d,d=wr.heap.size:=⟨_,rfl⟩;have hbk:=hpf2.box _ _ _ ((aS.new wr 111 r.cells.toArray).alloc _) (by decide) (by omega);rw[<-hd]at hbk;have hd1:w2.cell? ⟨d,1,none⟩=some (.slice r.A r.addr.length r.c):=hbk.cell 1;have hpf3:=((hpf.alloc (by omega) _).alloc (by simp;omega) _).trans hpf2;have hs2:base+2<=w2.heap.size:=by have:=hpf3.below.size;have:=HSZ.out;omega
         have hdB:base+2<=d:=by omega
         rw[<-hd];clear hd hacc hpf hpf2 hc0 hc1 hc2
         go_wp2_with fail
         refine(mq base (base+1) _ r.A r.c r.addr _ hacc2 ((HR.out.1.below hpf3.below).more (by omega)) (by simp;omega) (by omega)).mono ?_;rintro e w4 ⟨rfl,hacc3,hpf4⟩;have hbk2:=hpf4.box _ _ _ hbk (by decide) (by omega);have hd2:w4.cell? ⟨d,2,none⟩=some (.slice r.A2 r.data.length r.c2):=hbk2.cell 2;have hpf5:=hpf3.trans hpf4;have hs4:base+2<=w4.heap.size:=by have:=hpf5.below.size;have:=HSZ.out;omega
         clear hacc2 hpf3 hpf4 hd1 hbk hbk2
         go_wp2_with fail
         refine(mq base (base+1) _ r.A2 r.c2 r.data _ hacc3 ((HR.out.2.below hpf5.below).more (by omega)) (by simp;omega) (by omega)).mono ?_;rintro e w6 ⟨rfl,hacc4,hpf6⟩;rw[<-yY HX2.out]at hacc4
         go_wp2_with fail
         go_roundw
         case rel=>exact⟨j+1,by omega,by go_num,hacc4,hpf5.trans hpf6⟩
         case measure=>simp[intOf];omega
        .rw[LD HX.out (by omega)]at hacc
         go_wp2_with fail
         go_roundw
         case rel=>exact⟨k+1,by omega,by go_num,hacc,hpf⟩
         case measure=>simp[intOf];omega
    .rw[LI (by omega)]at hacc;have hf7:wr.cell? ⟨base,7,none⟩=some (.slice N.An N.aw.length N.cn):=(hpf.dU HB0.out).cell 7
     go_wp2_with fail
     obtain⟨w5,rfl⟩:∃w5:World,w5=wr:=⟨_,rfl⟩;clear hlt hk hsz hf7
     go_loopw [84] (fun i wr=>∃k:Nat,k<=N.aw.length/\i=.int .i64 k/\Acc wr base (base+1) (k5 N k)/\fQ base (base+1) W1 wr) (fun i _=>N.aw.length-(intOf i).toNat)
     case atStart=>exact⟨0,Nat.zero_le _,rfl,hacc,hpf⟩
     case round=>
      clear hacc hpf;obtain⟨k,hk,rfl,hacc,hpf⟩:=hrel;have hsz:base+2<=wr.heap.size:=by have:=hpf.below.size;have:=HSZ.out;omega
      by_cases hlt:k<N.aw.length
      .obtain⟨b,off,x,e1,hb,hx,hm,hcs⟩:=(HOK.out.below hpf.below).and.elem (by omega) (fun _=>rfl) hlt;obtain⟨hc0,hc1,hc2⟩:=ey.at_ hcs;have hp:=ke (Jd (k:=k+1)) HD.out;rw[yX hx]at hp;have HX:=Lib.hid hx;clear hx hm hcs;rw[e1];clear e1;simp only[bA,cx,List.length_nil]at hp
       go_wp2_with fail
       refine(Tn base (base+1) (k5 N k) x.a x.b _ _ (by simp) (hacc.alloc _) (by omega) (by omega)).mono ?_;rintro e w2 ⟨rfl,hacc2,hpf2⟩;rw[<-yX HX.out]at hacc2
       go_wp2_with fail
       go_roundw
       case rel=>exact⟨k+1,by omega,by go_num,hacc2,((hpf.alloc (by omega) _).alloc (by simp;omega) _).trans hpf2⟩
       case measure=>simp[intOf];omega
      .rw[LC (by omega)]at hacc;obtain⟨v,hv,hown⟩:=hacc;have hc:=hv.cell 0;have hf:=hv.frozen 0;simp only[List.getElem?_toArray,List.getElem?_cons_zero]at hc;obtain⟨Av,cv,rfl,hv1,hv2,_⟩:=sN hown;have hne:=sI hown hv (by decide);have hc':=(hv.nC 0 (.slice Av (cW N.d).length cv)).cell 0;have hbe:=(HBE.out.trans hpf.below).setCell (p:=⟨base+1,0,none⟩) (by simp) (.slice Av (cW N.d).length cv);rw[HBA.out]at hbe;have HBE2:=Lib.hid hbe;have HC:=Lib.hid hc';have HNE:=Lib.hid hne;clear hbe hc' hne
       go_wp2_with fail
       have hc2:=HC.out;simp at hc2;refine bodyPost_ret (v:=.slice Av (cW N.d).length cv) (by simp[results,Tryz.results273,go_sem,hc2]) rfl ?_;have hown2:=ownsRow_setCell_other hown (a:=⟨base+1,0,none⟩) HNE.out (.slice Av (cW N.d).length cv);rw[HBA.out]at hown2;exact km.mk (n:=(cW N.d).length) (by simp[ints]) (by rw[HBA.out];exact hown2) (by rw[HBA.out];exact HBE2.out)
theorem WM(x:Int)(w:World)(h:0<=x)(h':x<=9223372036854775807):Calls Tryz.prog 101 #[.int .i64 x] w fun e w'=>e=.returned (.int .i64 (x / 2))/\w=w':=by
 go_enter Tryz.func101,Tryz.ntmps101
 go_wp2
 go_ret
 exact⟨rfl,rfl⟩
theorem KV{n:aG}(ft:Fit n):∀x∈cW n,bH x:=by
 intro x hx;unfold cW at hx;simp only[List.mem_append,List.mem_map,List.mem_flatMap]at hx;rcases hx with((((⟨l,hl,rfl⟩|h)|h)|h)|⟨m,hm,h⟩)|⟨a,ha,h⟩
 .exact(ft.au.2 l hl).2.1
 .exact ft.out.2 x h
 .exact ft.bad.2 x h
 .exact ft.lI.2 x h
 .have hf:=ft.aa.2 m hm;unfold jY at h;simp only[List.mem_append,List.mem_flatMap]at h;rcases h with⟨r,hr,h⟩|⟨r,hr,h⟩
  .exact(hf.iP r hr).2.2.2 x h
  .obtain⟨_,_,h3,h4,h5⟩:=hf.oq r hr;unfold lO at h;simp only[List.mem_cons,List.mem_append]at h;rcases h with rfl|h|h
   .exact h3
   .exact h4 x h
   .exact h5 x h
 .unfold jt at h;simp at h;rcases h with rfl|rfl
  .exact(ft.aw.2 a ha).2.1
  .exact(ft.aw.2 a ha).2.2
theorem nJ{α β:Type}(f:α->List β)(c:Nat):∀(l:List α),(∀x∈l,(f x).length<=c)->(l.flatMap f).length<=l.length*c
 |[],_=>by simp|x::l,h=>by rw[List.flatMap_cons,bA,cx,Nat.succ_mul];have:=nJ f c l (fun y hy=>h y (by simp[hy]));have:=h x (by simp);omega
theorem QF{n:aG}(ft:Fit n)(hl:∀m∈n.aa,m.reads.length<=6/\m.writes.length<=6)(hm:n.aa.length<=6):(cW n).length<=1000000:=by
 have h1:(n.aa.flatMap jY).length<=n.aa.length*72006:=nJ jY 72006 _ fun m hm=>by
  have hf:=ft.aa.2 m hm;have hc:=hl m hm;unfold jY;rw[bA];have a1:(m.reads.flatMap (·.addr)).length<=m.reads.length*4000:=nJ _ 4000 _ fun r hr=>(hf.iP r hr).1;have a2:(m.writes.flatMap lO).length<=m.writes.length*8001:=nJ _ 8001 _ fun r hr=>by have:=hf.oq r hr;simp only[lO,cx,bA];omega
  have b1:m.reads.length*4000<=6*4000:=Nat.mul_le_mul_right _ hc.1;have b2:m.writes.length*8001<=6*8001:=Nat.mul_le_mul_right _ hc.2;omega
 have h2:(n.aw.flatMap jt).length<=n.aw.length*2:=nJ jt 2 _ fun a _=>by simp[jt]
 have h3:n.aa.length*72006<=6*72006:=Nat.mul_le_mul_right _ hm;have:=ft.au.1;have:=ft.out.1;have:=ft.bad.1;have:=ft.lI.1;have:=ft.aw.1;unfold cW;simp only[bA,aK];omega
theorem QG{n:aG}(ft:Fit n)(hl:∀m∈n.aa,m.reads.length<=6/\m.writes.length<=6)(hm:n.aa.length<=6):(bV n).length<=1000000:=by
 have h1:(n.aa.flatMap jJ).length<=n.aa.length*24000:=nJ jJ 24000 _ fun m hm=>by
  have hf:=ft.aa.2 m hm;have hc:=hl m hm;unfold jJ;have a1:(m.reads.flatMap fun r=>cu r.var m.word.toNat).length<=m.reads.length*4000:=nJ _ 4000 _ fun r hr=>by have:=hf.word.2;simp[cu];omega
  have b1:m.reads.length*4000<=6*4000:=Nat.mul_le_mul_right _ hc.1;omega
 have h3:n.aa.length*24000<=6*24000:=Nat.mul_le_mul_right _ hm;have:=ft.ins.1;have:=ft.au.1;have:=ft.aw.1;unfold bV;simp only[bA,aK];omega
theorem J3{n:aG}(h:hG n=false):0<=n.vars/\n.vars<=2000/\n.aa.length<=6/\∀m∈n.aa,m.reads.length<=6/\m.writes.length<=6:=by unfold hG at h;rw[Bool.or_eq_false_iff]at h;obtain⟨h1,h2⟩:=h;have h1:=of_decide_eq_false h1;refine⟨by omega,by omega,by omega,fun m hm=>?_⟩;have:=List.any_eq_false.1 h2 m hm;unfold fu at this;simp at this;omega
theorem aS.dU{w:World}{g:Nat}{N:bf}(h:aS w g 27 N.fs):w.cell? ⟨g,0,none⟩=some (.int .i64 N.vars)/\w.cell? ⟨g,1,none⟩=some (.slice N.Ai N.aU.length N.ci)/\w.cell? ⟨g,2,none⟩=some (.slice N.Al N.af.length N.cl)/\w.cell? ⟨g,3,none⟩=some (.slice N.Ao N.bB.length N.co)/\w.cell? ⟨g,4,none⟩=some (.slice N.Ab N.bC.length N.cb)/\w.cell? ⟨g,5,none⟩=some (.slice N.Ac N.constraints.length N.cc)/\w.cell? ⟨g,6,none⟩=some (.slice N.Am N.aa.length N.cm)/\w.cell? ⟨g,7,none⟩=some (.slice N.An N.aw.length N.cn):=⟨h.cell 0,h.cell 1,h.cell 2,h.cell 3,h.cell 4,h.cell 5,h.cell 6,h.cell 7⟩
theorem JK(N:bf)(w:World)(hok:N.bp w w.heap.size)(ft:Fit N.d) :
  Calls Tryz.prog 209 #[N.v] w fun e w'=>e=.returned (.int .i64 (ed N.d))/\Below w.heap.size w w':=by
 obtain⟨z,hz⟩:∃z,z=ed N.d:=⟨_,rfl⟩;rw[<-hz];unfold ed at hz;have HZ:=Lib.hid hz;clear hz;have hmw:N.d.aa.any eu=N.aa.any (fun x=>eu x.d):=by show(N.aa.map aW.d).any eu=_;rw[List.any_map];rfl
 rw[hmw]at HZ;clear hmw;change Hid (z=if hG N.d=true then 10 else if(N.aa.any fun x=>eu x.d)=true then 9 else if N.af.any fO=true then 1 else if dup N.vars [] (bV N.d)≠0 then dup N.vars [] (bV N.d)else if(cW N.d).any (iD N.vars)=true then 5 else 0)at HZ;obtain⟨base,hbase⟩:∃base,base=w.heap.size:=⟨_,rfl⟩;have hb0:aS (w.alloc (.cells N.fs 27)) base 27 N.fs:=by rw[hbase];exact aS.new w _ _
 have hB:Below base w (w.alloc (.cells N.fs 27)):=by rw[hbase];exact(Below.refl _ _).alloc (Nat.le_refl _) _
 have hsz:base<(w.alloc (.cells N.fs 27)).heap.size:=by rw[hbase];simp
 rw[<-hbase]at hok;have HOK:=Lib.hid (hok.below hB);have HF:=Lib.hid ft;have HB:=Lib.hid hB;have HB0:=Lib.hid hb0;have HBA:=Lib.hid hbase;clear hok hB;unfold bf.v
 go_enter Tryz.func209,Tryz.ntmps209
 unfold bf.fs
 go_wp2_with fail
 rw[<-hbase];change Calls _ _ #[N.v] (w.alloc (.cells N.fs 27)) _;generalize w.alloc (.cells N.fs 27)=W1 at hb0 hsz HOK HB HB0 |-;clear hbase;refine(WN N W1 (HOK.out.more (by omega)) HF.out).mono ?_;rintro e w2 ⟨rfl,hbl⟩;rcases h1:hG N.d with _|_
 .have hs2:=hbl.size;obtain⟨hv0,hv2,hml,hmr⟩:=J3 h1;have HDL:=Lib.hid (QG HF.out hmr hml);have HLL:=Lib.hid (QF HF.out hmr hml);have hml2:N.aa.length<=6:=by simpa[bf.d]using hml
  have hmf:∀x∈N.aa,x.bp w2 w2.heap.size/\x.reads.length<=100/\x.writes.length<=100:=fun x hx=>by have h:=hmr x.d (List.mem_map_of_mem hx);simp only[aW.d,aK]at h;exact⟨((HOK.out.mA x hx).below (hbl.mono (by omega))).more (by omega),by omega,by omega⟩
  have HMF:=Lib.hid hmf;change 0<=N.vars at hv0;change N.vars<=2000 at hv2;have hlat:N.af.length<=4000:=HF.out.au.1;obtain⟨c0,c1,c2,c3,c4,c5,c6,c7⟩:=(hb0.below hbl hsz).dU;have HZ1:=HZ.out;rw[if_neg (by rw[h1];simp)]at HZ1;have HZ2:=Lib.hid HZ1;have HOK2:=Lib.hid (HOK.out.below (hbl.mono (by omega)));have HB2:=Lib.hid (HB.out.trans (hbl.mono (by omega)));have HB02:=Lib.hid (hb0.below hbl hsz);clear HZ1 HZ h1 hmf hml hmr hb0 hbl
  go_wp2_with fail
  refine(Wz N.Am N.cm N.aa w2 (HOK2.out.mem.more (by omega)) HMF.out (by omega)).mono ?_;rintro e w3 ⟨rfl,hbl⟩;have hs3:=hbl.size;rcases h2:N.aa.any (fun x=>eu x.d)with _|_
  .have HZ1:=HZ2.out;rw[if_neg (by rw[h2];simp)]at HZ1;have HZ3:=Lib.hid HZ1;clear HZ1 HZ2 h2 HMF c0 c1 c2 c3 c4 c5 c6 c7;obtain⟨c0,c1,c2,c3,c4,c5,c6,c7⟩:=(HB02.out.below hbl (by omega)).dU;have HOK3:=Lib.hid (HOK2.out.below (hbl.mono (by omega)));have HB3:=Lib.hid (HB2.out.trans (hbl.mono (by omega)));have HB03:=Lib.hid (HB02.out.below hbl (by omega));clear HOK2 HB2 HB02 hbl
   go_wp2_with fail
   refine(WB N.Al N.cl N.af w3 (HOK3.out.au.more (by omega)) (by omega)).mono ?_;rintro e w4 ⟨rfl,hbl⟩;have hs4:=hbl.size;rcases h3:N.af.any fO with _|_
   .have HZ1:=HZ3.out;rw[if_neg (by rw[h3];simp)]at HZ1;have HZ4:=Lib.hid HZ1;clear HZ1 HZ3 h3 c0 c1 c2 c3 c4 c5 c6 c7;obtain⟨c0,c1,c2,c3,c4,c5,c6,c7⟩:=(HB03.out.below hbl (by omega)).dU;have HOK4:=Lib.hid (HOK3.out.below (hbl.mono (by omega)));have HB4:=Lib.hid (HB3.out.trans (hbl.mono (by omega)));have HB04:=Lib.hid (HB03.out.below hbl (by omega));clear HOK3 HB3 HB03 hbl;obtain⟨V,hV⟩:=Int.eq_ofNat_of_zero_le hv0;rw[hV]at HZ4;have HV:=Lib.hid hV;clear hV
    go_wp2_with fail
    change Calls _ _ #[N.v] w4 _;refine(Wy N V w4 HV.out (by have:=HV.out;omega) (HOK4.out.more (by omega)) HF.out HDL.out).mono ?_;rintro e w5 ⟨rfl,hbl⟩;have hs5:=hbl.size;clear c0 c1 c2 c3 c4 c5 c6 c7;obtain⟨c0,c1,c2,c3,c4,c5,c6,c7⟩:=(HB04.out.below hbl (by omega)).dU;have HOK5:=Lib.hid (HOK4.out.below (hbl.mono (by omega)));have HB5:=Lib.hid (HB4.out.trans (hbl.mono (by omega)));have HB05:=Lib.hid (HB04.out.below hbl (by omega));clear HOK4 HB4 HB04 hbl;obtain⟨dd,hdd⟩:∃dd,dd=dup V [] (bV N.d):=⟨_,rfl⟩;rw[<-hdd]at HZ4 |-;clear hdd;by_cases hd0:dd=0
    .subst hd0;rw[if_neg (by simp)]at HZ4
     go_wp2_with fail
     change Calls _ _ #[N.v] w5 _;refine(VY N w5 (HOK5.out.more (by omega)) HF.out HLL.out).mono ?_;rintro e w6 ⟨A,c,rfl,h61,h62,hown,hbl⟩;have hs6:=hbl.size;obtain⟨L,hL⟩:∃L,L=cW N.d:=⟨_,rfl⟩;have hI:∀x∈L,bH x:=by rw[hL];exact KV HF.out
     have hln:L.length<=1000000:=by rw[hL];exact HLL.out
     rw[<-hL]at HZ4 hown;have eln:(ints (cW N.d)).length=L.length:=by rw[hL];simp[ints]
     rw[eln]at h61 |-;have eln2:(ints L).length=L.length:=by simp[ints]
     rw[eln2]at hown;have hSl:=Sl.own hown;have hc0:=(HB05.out.below hbl (by omega)).dU.1;have HB6:=Lib.hid (HB5.out.trans (hbl.mono (by omega)));rw[HV.out]at hc0;clear hL eln eln2 hown hbl HB05 HOK5 HB5 c0 c1 c2 c3 c4 c5 c6 c7;have HI:=Lib.hid hI;clear hI
     go_wp2_with fail
     go_loopw [25] (fun i wr=>∃k q:Nat,k<=L.length/\i=.int .i64 k/\(L.take k).any (iD V)=false/\wr=w6.drewN q) (fun i _=>L.length-(intOf i).toNat)
     case atStart=>exact⟨0,0,Nat.zero_le _,rfl,rfl,rfl⟩
     case round=>
      obtain⟨k,q,hk,rfl,hno,rfl⟩:=hrel;have HNO:=Lib.hid hno;clear hno;by_cases hlt:k<L.length
      .obtain⟨b,off,x,e1,hb,hx,hm,hcx⟩:=hSl.oF hlt;have hxi:=HI.out x hm;have hx1:=hxi.1;have hx2:=hxi.2;have HX:=Lib.hid hx;have HM:=Lib.hid hm;clear hx hm hxi;rw[e1];clear e1;by_cases hx0:x<0
       .go_wp2_with fail
        go_quiet (fail)
        go_wp2_with fail
        go_ret
        exact⟨by rw[HZ4.out,if_pos (List.any_eq_true.2 ⟨x,HM.out,by unfold iD;simp;omega⟩)];rfl,by rw[<-HBA.out];exact below_drewN (below_drewN HB6.out _) _⟩
       .have HVAR:Hid (∀n,Calls Tryz.prog 101 #[.int .i64 x] (w6.drewN n) fun e w'=>e=.returned (.int .i64 (x / 2))/\w6.drewN n=w'):=fun n=>WM x _ (by omega) (by omega);by_cases hx3:(V:Int)<x / 2
        .go_wp2_with fail
         go_quiet ((go_at_call 101;exact Qr (HVAR.out _)))
         go_wp2_with fail
         go_ret
         exact⟨by rw[HZ4.out,if_pos (List.any_eq_true.2 ⟨x,HM.out,by unfold iD;simp;omega⟩)];rfl,by rw[<-HBA.out];exact below_drewN (below_drewN HB6.out _) _⟩
        .go_wp2_with fail
         go_quiet ((go_at_call 101;exact Qr (HVAR.out _)))
         go_wp2_with fail
         go_roundw
         case rel=>exact⟨k+1,_,by omega,by go_num,i6 HX.out HNO.out (by unfold iD;simp;omega),rfl⟩
         case measure=>simp[intOf];omega
      .go_wp2_with fail
       go_ret
       exact⟨by rw[HZ4.out,i7 (by omega) HNO.out];rfl,by rw[<-HBA.out];exact below_drewN HB6.out _⟩
    .have hd1:(dd != 0)=true:=by simpa using hd0
     go_wp2_with fail
     go_ret
     exact⟨by rw[HZ4.out,if_pos hd0];rfl,by rw[<-HBA.out];exact HB5.out⟩
   .have HZ1:=HZ3.out;rw[if_pos h3]at HZ1;have HZ4:=Lib.hid HZ1;clear HZ1
    go_wp2_with fail
    go_ret
    exact⟨by rw[HZ4.out];rfl,by rw[<-HBA.out];exact HB3.out.trans (hbl.mono (by omega))⟩
  .have HZ1:=HZ2.out;rw[if_pos h2]at HZ1;have HZ4:=Lib.hid HZ1;clear HZ1
   go_wp2_with fail
   go_ret
   exact⟨by rw[HZ4.out];rfl,by rw[<-HBA.out];exact HB2.out.trans (hbl.mono (by omega))⟩
 .go_wp2_with fail
  go_ret
  exact⟨by rw[HZ.out,if_pos h1];rfl,by rw[<-HBA.out];exact HB.out.trans (hbl.mono (by omega))⟩
