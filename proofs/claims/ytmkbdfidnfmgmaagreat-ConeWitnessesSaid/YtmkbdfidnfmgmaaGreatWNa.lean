import Derived.Test.YtmkbdfidnfmgmaaGreatWBs
import Derived.RangeFuncNested
import Derived.RangeFuncBound
import Derived.RangeFuncCalls
import Derived.RangeFuncLeaves
import Derived.Shelf.Abstract
import Derived.OwnWalkIn
import Derived.TacticsInMore
import Derived.LoopNIn
import Derived.LoopIn
import Derived.OneCell
set_option linter.all false
section
namespace Go.Proofs.YtmkbdfidnfmgmaaGreat.Pl
structure dJ where
 var:Int
 next:Int
 init:Int
structure dU where
 var:Int
 a:Int
 b:Int
structure jz where
 var:Int
 addr:jp
structure l6 where
 on:Int
 addr:jp
 data:jp
structure cf where
 addr:Int
 word:Int
 any:Bool
 reads:List jz
 writes:List l6
structure ak where
 vars:Int
 al:jp
 ag:List dJ
 aZ:jp
 aN:jp
 constraints:jp
 ae:List cf
 aj:List dU
def bZ(v:Int)(word:Nat):jp:=(List.range word).map fun i:Nat=>v+(i:Int)
def fv(m:cf):jp:=m.reads.flatMap fun r=>bZ r.var m.word.toNat
def aX(n:ak):jp:=n.al++n.ag.map (·.var)++n.ae.flatMap fv++n.aj.map (·.var)
def iP(x:l6):jp:=x.on::(x.addr++x.data)
def fi(m:cf):jp:=m.reads.flatMap (·.addr)++m.writes.flatMap iP
def js(a:dU):jp:=[a.a,a.b]
def bJ(n:ak):jp:=n.ag.map (·.next)++n.aZ++n.aN++n.constraints++n.ae.flatMap fi++n.aj.flatMap js
def jS(m:cf):Bool:=decide (4<m.reads.length\/4<m.writes.length)
def lK(n:ak):Bool:=decide (n.vars<0\/2000<n.vars\/2000<n.al.length\/2000<n.ag.length\/2000<n.aj.length\/1000<n.aZ.length+n.aN.length+n.constraints.length\/4<n.ae.length)||n.ae.any jS
def mF(m:cf)(r:jz):Bool:=(r.addr.length:Int) != m.addr
def nj(m:cf)(x:l6):Bool:=(x.addr.length:Int) != m.addr||(x.data.length:Int) != m.word
def iO(m:cf):Bool:=decide (m.addr<1\/62<m.addr\/m.word<1\/64<m.word)||m.reads.any (mF m)||m.writes.any (nj m)
def ki(l:dJ):Bool:=decide (l.init<0\/2<l.init)
def dup(V:Int)(pre:jp):jp->Int
 |[]=>if(pre.length:Int)<V then 7 else 0
 |v::l=>if v<1\/V<v then 5 else if pre.contains v then 6 else dup V (pre++[v]) l
def iG(V l:Int):Bool:=decide (l<0\/V<l / 2)
def cZ(n:ak):Int:=
 if lK n then 10 else if n.ae.any iO then 9 else if n.ag.any ki then 1
 else if dup n.vars [] (aX n)≠0 then dup n.vars [] (aX n)else if(bJ n).any (iG n.vars)then 5 else 0
theorem eE{α:Type}{l:List α}{k:Nat}{v:α}(hk:l[k]?=some v):l.take (k+1)=l.take k++[v]:=by
 obtain⟨h3,rfl⟩:=ut.1 hk
 simp_all
def nO(V:Nat)(pre:jp):md:=(List.range (V+1)).map fun v:Nat=>pre.contains (v:Int)
theorem Jm(V:Nat)(pre:jp):(nO V pre).length=V+1:=by simp[nO]
variable{pre:jp}{v:Nat}{V:Nat}
theorem JG(h:v<=V):(nO V pre)[v]?=some (pre.contains (v:Int)):=by unfold nO;grind
theorem amB(V:Nat):nO V []=List.replicate (V+1) false:=by
 apply arW;intro i;by_cases h:i<=V
 .rw[JG h,atf,IO atO];rfl
 .rw[abs (by rw[Jm];omega),abs (by simp;omega)]
theorem anF(h:v<=V):(nO V pre).set v true=nO V (pre++[(v:Int)]):=by
 apply arW;intro i;by_cases hi:i<=V
 .rw[List.getElem?_set,JG hi,JG hi];by_cases e:v=i
  .subst e;simp[Jm];omega
  grind
 .rw[abs (by simp[Jm];omega),abs (by rw[Jm];omega)]
theorem yj(V:Nat):∀(l:jp),l.Nodup->(∀x∈l,1<=x/\x<=(V:Int))->l.length<=V/\(V<=l.length->∀v:Nat,1<=v->v<=V->(v:Int)∈l):=by
 induction V with
 |zero=>
  intro l _ hr;have:l=[]:=by cases l with|nil=>rfl|cons x l=>have:=hr x atQ;omega
  subst this;exact⟨atQ,fun _ v h1 h2=>atO⟩
 |succ V ih=>
  intro l hn hr;by_cases hm:((V+1:Nat):Int)∈l
  .obtain⟨a,b,rfl⟩:=asI hm;have hn':(a++b).Nodup:=by rw[rx]at hn |-;obtain⟨h1,h2,h3⟩:=hn;rw[arU]at h2;exact⟨h1,h2.2,fun x hx y hy=>h3 x hx y (by simp[hy])⟩
   have hnm:((V+1:Nat):Int)∉a++b:=by
    rw[rx]at hn;obtain⟨h1,h2,h3⟩:=hn;rw[arU]at h2;intro h;rcases rc.1 h with h|h
    .exact h3 _ h _ atQ rfl
    .exact h2.1 h
   obtain⟨i1,i2⟩:=ih (a++b) hn' (fun x hx=>by have h:=hr x (by rcases rc.1 hx with h|h<;>simp[h]);have hne:x≠((V+1:Nat):Int):=fun e=>hnm (e▸hx);omega)
   grind
  grind
end Go.Proofs.YtmkbdfidnfmgmaaGreat.Pl
end
section
namespace Go.Proofs.YtmkbdfidnfmgmaaGreat
open Go.RowKit Pl
def dD(x:Int):Prop:=-9223372036854775808<=x/\x<=9223372036854775807
def Sl(w:World)(B size:Nat)(A:pm)(n c:Nat)(xs:pi):Prop:=Reads w B size A n xs/\n<=c/\0<=c
def ints(l:jp):pi:=l.map (Value.int .i64)
section
variable{w w':World}{B B' size n c:Nat}{A:pm}{xs:pi}
theorem Sl.bn(h:Sl w B size A n c xs)(hk:∀p:Addr,p.block<B->w'.cell? p=w.cell? p):Sl w' B size A n c xs:=⟨h.1.bn hk,h.2⟩
theorem Sl.more(h:Sl w B size A n c xs)(hB:B<=B'):Sl w B' size A n c xs:=⟨h.1.more hB,h.2⟩
theorem Sl.own{base:Nat}{e:TypeId}(h:w.ownsRow base e size (.slice A n c) n xs):Sl w w.heap.size size A n c xs:=by obtain⟨A',c',hv,h1,h2,h3⟩:=AH h;injection hv with e1 _ e2;subst e1 e2;exact⟨h3,h1,GT _⟩
end
variable{base:Nat}
def Pl.dJ.cells(l:dJ):pi:=[.int .i64 l.var,.int .i64 l.next,.int .i64 l.init]
def Pl.dU.cells(a:dU):pi:=[.int .i64 a.var,.int .i64 a.a,.int .i64 a.b]
structure bF where
 var:Int
 A:pm
 c:Nat
 addr:jp
def bF.cells(r:bF):pi:=[.int .i64 r.var,.slice r.A r.addr.length r.c]
def bF.d(r:bF):jz:=⟨r.var,r.addr⟩
def bF.cY(w:World)(B:Nat)(r:bF):Prop:=Sl w B 1 r.A r.addr.length r.c (ints r.addr)
structure bL where
 on:Int
 A:pm
 c:Nat
 addr:jp
 A2:pm
 c2:Nat
 data:jp
def bL.cells(r:bL):pi:=[.int .i64 r.on,.slice r.A r.addr.length r.c,.slice r.A2 r.data.length r.c2]
def bL.d(r:bL):l6:=⟨r.on,r.addr,r.data⟩
def bL.cY(w:World)(B:Nat)(r:bL):Prop:=Sl w B 1 r.A r.addr.length r.c (ints r.addr)/\Sl w B 1 r.A2 r.data.length r.c2 (ints r.data)
structure aL where
 addr:Int
 word:Int
 any:Bool
 A:pm
 c:Nat
 reads:List bF
 A2:pm
 c2:Nat
 writes:List bL
def aL.cells(m:aL):pi:=[.int .i64 m.addr,.int .i64 m.word,.bool m.any,.slice m.A m.reads.length m.c,.slice m.A2 m.writes.length m.c2]
def aL.v(m:aL):Value:=.agg #[.int .i64 m.addr,.int .i64 m.word,.bool m.any,.slice m.A m.reads.length m.c,.slice m.A2 m.writes.length m.c2]
def aL.d(m:aL):cf:=⟨m.addr,m.word,m.any,m.reads.map bF.d,m.writes.map bL.d⟩
structure aL.cY(w:World)(B:Nat)(m:aL):Prop where
 rd:Sl w B 2 m.A m.reads.length m.c (m.reads.flatMap bF.cells)
 ig:∀r∈m.reads,r.cY w B
 wr:Sl w B 3 m.A2 m.writes.length m.c2 (m.writes.flatMap bL.cells)
 iX:∀r∈m.writes,r.cY w B
structure aT where
 vars:Int
 Ai:pm
 ci:Nat
 al:jp
 Al:pm
 cl:Nat
 ag:List dJ
 Ao:pm
 co:Nat
 aZ:jp
 Ab:pm
 cb:Nat
 aN:jp
 Ac:pm
 cc:Nat
 constraints:jp
 Am:pm
 cm:Nat
 ae:List aL
 An:pm
 cn:Nat
 aj:List dU
def aT.d(n:aT):ak:=⟨n.vars,n.al,n.ag,n.aZ,n.aN,n.constraints,n.ae.map aL.d,n.aj⟩
def aT.fs(n:aT):Array Value:=#[.int .i64 n.vars,.slice n.Ai n.al.length n.ci,.slice n.Al n.ag.length n.cl,.slice n.Ao n.aZ.length n.co,.slice n.Ab n.aN.length n.cb,.slice n.Ac n.constraints.length n.cc,.slice n.Am n.ae.length n.cm,.slice n.An n.aj.length n.cn]
def aT.v(n:aT):Value:=.agg n.fs
structure aT.cY(w:World)(B:Nat)(n:aT):Prop where
 ins:Sl w B 1 n.Ai n.al.length n.ci (ints n.al)
 aJ:Sl w B 3 n.Al n.ag.length n.cl (n.ag.flatMap dJ.cells)
 out:Sl w B 1 n.Ao n.aZ.length n.co (ints n.aZ)
 bad:Sl w B 1 n.Ab n.aN.length n.cb (ints n.aN)
 gG:Sl w B 1 n.Ac n.constraints.length n.cc (ints n.constraints)
 mem:Sl w B 5 n.Am n.ae.length n.cm (n.ae.flatMap aL.cells)
 kZ:∀m∈n.ae,m.cY w B
 and:Sl w B 3 n.An n.aj.length n.cn (n.aj.flatMap dU.cells)
section
variable{w w':World}{B B':Nat}
theorem bF.cY.bn{r:bF}(h:r.cY w B)(hk:∀p:Addr,p.block<B->w'.cell? p=w.cell? p):r.cY w' B:=Sl.bn h hk
theorem bL.cY.bn{r:bL}(h:r.cY w B)(hk:∀p:Addr,p.block<B->w'.cell? p=w.cell? p):r.cY w' B:=⟨h.1.bn hk,h.2.bn hk⟩
theorem aL.cY.bn{m:aL}(h:m.cY w B)(hk:∀p:Addr,p.block<B->w'.cell? p=w.cell? p):m.cY w' B:=⟨h.rd.bn hk,fun r hr=>(h.ig r hr).bn hk,h.wr.bn hk,fun r hr=>(h.iX r hr).bn hk⟩
theorem aT.cY.bn{n:aT}(h:n.cY w B)(hk:∀p:Addr,p.block<B->w'.cell? p=w.cell? p):n.cY w' B:=⟨h.ins.bn hk,h.aJ.bn hk,h.out.bn hk,h.bad.bn hk,h.gG.bn hk,h.mem.bn hk,fun m hm=>(h.kZ m hm).bn hk,h.and.bn hk⟩
theorem bF.cY.more{r:bF}(h:r.cY w B)(hB:B<=B'):r.cY w B':=Sl.more h hB
theorem bL.cY.more{r:bL}(h:r.cY w B)(hB:B<=B'):r.cY w B':=⟨h.1.more hB,h.2.more hB⟩
theorem aL.cY.more{m:aL}(h:m.cY w B)(hB:B<=B'):m.cY w B':=⟨h.rd.more hB,fun r hr=>(h.ig r hr).more hB,h.wr.more hB,fun r hr=>(h.iX r hr).more hB⟩
theorem aT.cY.more{n:aT}(h:n.cY w B)(hB:B<=B'):n.cY w B':=⟨h.ins.more hB,h.aJ.more hB,h.out.more hB,h.bad.more hB,h.gG.more hB,h.mem.more hB,fun m hm=>(h.kZ m hm).more hB,h.and.more hB⟩
theorem Sl.below{size n c:Nat}{A:pm}{xs:pi}(h:Sl w B size A n c xs)(hb:Below B w w'):Sl w' B size A n c xs:=h.bn fun _ hp=>hb.cell hp
theorem aL.cY.below{m:aL}(h:m.cY w B)(hb:Below B w w'):m.cY w' B:=h.bn fun _ hp=>hb.cell hp
theorem aT.cY.below{n:aT}(h:n.cY w B)(hb:Below B w w'):n.cY w' B:=h.bn fun _ hp=>hb.cell hp
theorem bF.cY.below{m:bF}(h:m.cY w B)(hb:Below B w w'):m.cY w' B:=h.bn fun _ hp=>hb.cell hp
end
variable{α:Type}{l:List α}{r:bF}{m:aL}
theorem Sl.elem{f:α->pi}{C:Nat}{w:World}{B k c:Nat}{A:pm}(h:Sl w B C A l.length c (l.flatMap f))(hC:0<C)(hf:∀x,(f x).length=C)(hk:k<l.length) :
  ∃b off x,A=some ⟨b,off,none⟩/\b<B/\l[k]?=some x/\x∈l/\∀j u,(f x)[j]?=some u->w.cell? ⟨b,off+(k*C+j),none⟩=some u:=by
 obtain⟨b,off,x,h1,h2,h3,h4⟩:=Reads.elem h.1 hC hf rfl hk;exact⟨b,off,x,h1,h2,h3,dy h3,h4⟩
variable{off:Nat}{b:Nat}
theorem dJ.at_{w:World}{k:Nat}{l:dJ}(h:∀j u,(dJ.cells l)[j]?=some u->w.cell? ⟨b,off+(k*3+j),none⟩=some u) :
  w.cell? ⟨b,off+k*3,none⟩=some (.int .i64 l.var)/\w.cell? ⟨b,off+k*3+1,none⟩=some (.int .i64 l.next)/\w.cell? ⟨b,off+k*3+2,none⟩=some (.int .i64 l.init):=
 ⟨h 0 _ rfl,h 1 _ rfl,h 2 _ rfl⟩
theorem dU.at_{w:World}{k:Nat}{l:dU}(h:∀j u,(dU.cells l)[j]?=some u->w.cell? ⟨b,off+(k*3+j),none⟩=some u) :
  w.cell? ⟨b,off+k*3,none⟩=some (.int .i64 l.var)/\w.cell? ⟨b,off+k*3+1,none⟩=some (.int .i64 l.a)/\w.cell? ⟨b,off+k*3+2,none⟩=some (.int .i64 l.b):=
 ⟨h 0 _ rfl,h 1 _ rfl,h 2 _ rfl⟩
theorem bF.at_{w:World}{k:Nat}{l:bF}(h:∀j u,l.cells[j]?=some u->w.cell? ⟨b,off+(k*2+j),none⟩=some u) :
  w.cell? ⟨b,off+k*2,none⟩=some (.int .i64 l.var)/\w.cell? ⟨b,off+k*2+1,none⟩=some (.slice l.A l.addr.length l.c):=
 ⟨h 0 _ rfl,h 1 _ rfl⟩
theorem bL.at_{w:World}{k:Nat}{l:bL}(h:∀j u,l.cells[j]?=some u->w.cell? ⟨b,off+(k*3+j),none⟩=some u) :
  w.cell? ⟨b,off+k*3,none⟩=some (.int .i64 l.on)/\w.cell? ⟨b,off+k*3+1,none⟩=some (.slice l.A l.addr.length l.c)/\w.cell? ⟨b,off+k*3+2,none⟩=some (.slice l.A2 l.data.length l.c2):=
 ⟨h 0 _ rfl,h 1 _ rfl,h 2 _ rfl⟩
theorem aL.at_{w:World}{k:Nat}{l:aL}(h:∀j u,l.cells[j]?=some u->w.cell? ⟨b,off+(k*5+j),none⟩=some u) :
  w.cell? ⟨b,off+k*5,none⟩=some (.int .i64 l.addr)/\w.cell? ⟨b,off+k*5+1,none⟩=some (.int .i64 l.word)/\w.cell? ⟨b,off+k*5+2,none⟩=some (.bool l.any) /\
   w.cell? ⟨b,off+k*5+3,none⟩=some (.slice l.A l.reads.length l.c)/\w.cell? ⟨b,off+k*5+4,none⟩=some (.slice l.A2 l.writes.length l.c2):=
 ⟨h 0 _ rfl,h 1 _ rfl,h 2 _ rfl,h 3 _ rfl,h 4 _ rfl⟩
theorem Sl.qO{w:World}{B k c:Nat}{A:pm}{l:jp}(h:Sl w B 1 A l.length c (ints l))(hk:k<l.length) :
  ∃b off x,A=some ⟨b,off,none⟩/\b<B/\l[k]?=some x/\x∈l/\w.cell? ⟨b,off+k,none⟩=some (.int .i64 x):=by
 obtain⟨b,off,h1,h2,h3⟩:=Reads.qO h.1 hk
 grind
structure zb(m:cf):Prop where
 word:dD m.word/\m.word<=4000
 addr:dD m.addr
 nH:m.reads.length<=100
 tI:m.writes.length<=100
 ig:∀r∈m.reads,r.addr.length<=4000/\-1099511627776<=r.var/\r.var<=1099511627776/\∀x∈r.addr,dD x
 iX:∀r∈m.writes,r.addr.length<=4000/\r.data.length<=4000/\dD r.on/\(∀x∈r.addr,dD x)/\∀x∈r.data,dD x
structure Fit(n:ak):Prop where
 vars:dD n.vars
 ins:n.al.length<=4000/\∀x∈n.al,dD x
 aJ:n.ag.length<=4000/\∀l∈n.ag,dD l.var/\dD l.next/\dD l.init
 out:n.aZ.length<=4000/\∀x∈n.aZ,dD x
 bad:n.aN.length<=4000/\∀x∈n.aN,dD x
 gG:n.constraints.length<=4000/\∀x∈n.constraints,dD x
 ae:n.ae.length<=100/\∀m∈n.ae,zb m
 aj:n.aj.length<=4000/\∀a∈n.aj,dD a.var/\dD a.a/\dD a.b
variable{p:α->Bool}
theorem xa{k:Nat}{x:α}(hx:l[k]?=some x)(h:(l.take k).any p=false)(hp:p x=false):(l.take (k+1)).any p=false:=by rw[eE hx,List.any_append,h];simp[hp]
theorem xb{k:Nat}(hk:l.length<=k)(h:(l.take k).any p=false):l.any p=false:=by rwa [If hk]at h
def y9(b:Bool)(w:World)(e:Ending)(w':World):Prop:=∃i:Int,e=.returned (.int .i64 i)/\decide (0<=i)=b/\Below w.heap.size w w'
theorem anB(m:aL)(g:Nat)(v:Int)(A:pm)(n c:Nat)(w:World)(hg:bg w g 97 m.cells.toArray) :
  Calls Tryz.prog 201 #[.agg #[.int .i64 v,.slice A n c],.pointer (some ⟨g,0,none⟩)] w fun e w'=>e=.returned (.bool ((n:Int) != m.addr))/\Below w.heap.size w w':=by
 have h0:(w.alloc (.cells #[.int .i64 v,.slice A n c] 148)).cell? ⟨g,0,none⟩=some (.int .i64 m.addr):=((hg.alloc _).cell 0);clear hg
 go_enter Tryz.func201,Tryz.ntmps201
 go_wp2_with fail
 go_ret
 exact⟨rfl,(Below.refl _ _).alloc (rt _) _⟩
theorem anA(m:aL)(g:Nat)(v:Int)(A:pm)(n c:Nat)(A2:pm)(n2 c2:Nat)(w:World)(hg:bg w g 97 m.cells.toArray) :
  Calls Tryz.prog 202 #[.agg #[.int .i64 v,.slice A n c,.slice A2 n2 c2],.pointer (some ⟨g,0,none⟩)] w fun e w'=>e=.returned (.bool ((n:Int) != m.addr||(n2:Int) != m.word))/\Below w.heap.size w w':=by
 have h0:(w.alloc (.cells #[.int .i64 v,.slice A n c,.slice A2 n2 c2] 174)).cell? ⟨g,0,none⟩=some (.int .i64 m.addr):=((hg.alloc _).cell 0);have h1:(w.alloc (.cells #[.int .i64 v,.slice A n c,.slice A2 n2 c2] 174)).cell? ⟨g,1,none⟩=some (.int .i64 m.word):=((hg.alloc _).cell 1);clear hg;rcases hb:((n:Int) != m.addr)with _|_
 all_goals
  go_enter Tryz.func202,Tryz.ntmps202
  go_wp2_with fail
  go_ret
  exact⟨atQ,(Below.refl _ _).alloc (rt _) _⟩
theorem anG(a wd:Int)(y:Bool)(A:pm)(n c:Nat)(A2:pm)(n2 c2:Nat)(w:World)(hn:n<=100)(hn2:n2<=100) :
  Calls Tryz.prog 199 #[.agg #[.int .i64 a,.int .i64 wd,.bool y,.slice A n c,.slice A2 n2 c2]] w fun e w'=>e=.returned (.bool (decide (4<n\/4<n2)))/\Below w.heap.size w w':=by
 by_cases h1:4<n<;>by_cases h2:4<n2
 all_goals
  go_enter Tryz.func199,Tryz.ntmps199
  go_wp2_with fail
  go_ret
  exact⟨AA (by rw[atD];try (first|(simp;done)|(simp;omega))),(Below.refl _ _).alloc (rt _) _⟩
theorem aiM(l:dJ)(w:World) :
  Calls Tryz.prog 172 #[.agg #[.int .i64 l.var,.int .i64 l.next,.int .i64 l.init]] w fun e w'=>e=.returned (.bool (ki l))/\Below w.heap.size w w':=by
 obtain⟨z,hz⟩:∃z,z=ki l:=⟨_,rfl⟩;have HZ:=Lib.hid hz;rw[<-hz];clear hz;obtain⟨a,b,i⟩:=l;rcases(show i<0\/(¬i<0/\2<i)\/(¬i<0/\¬2<i)from by omega)with h1|⟨h1,h2⟩|⟨h1,h2⟩
 all_goals
  go_enter Tryz.func172,Tryz.ntmps172
  go_wp2_with fail
  go_ret
  exact⟨AA (by rw[HZ.out,atD];unfold ki;first|(simp;done)|(simp;omega)),(Below.refl _ _).alloc (rt _) _⟩
set_option maxHeartbeats 400000
theorem amW(m:aL)(g:Nat)(A:pm)(c:Nat)(l:List bF)(w:World)(hS:Sl w w.heap.size 2 A l.length c (l.flatMap bF.cells))(hg:bg w g 97 m.cells.toArray)(hn:l.length<=4000) :
  Calls Tryz.prog 214 #[.slice A l.length c,.func (.func 201) #[] #[.pointer (some ⟨g,0,none⟩)]] w (y9 (l.any (fun x=>mF m.d x.d)) w):=by
 go_enter Tryz.func214,Tryz.ntmps214
 go_wp2_with fail
 go_loopw [8] (fun i wr=>∃k:Nat,k<=l.length/\i=.int .i64 k/\(l.take k).any (fun x=>mF m.d x.d)=false/\Below w.heap.size w wr) (fun i _=>l.length-(intOf i).toNat)
 case atStart=>exact⟨0,GT _,rfl,rfl,Below.refl _ _⟩
 case round=>
  obtain⟨k,hk,rfl,hno,hbel⟩:=hrel;have HNO:=Lib.hid hno;clear hno;by_cases hlt:k<l.length
  .obtain⟨b,off,x,rfl,hb,hx,hm,hcs⟩:=(hS.below hbel).elem atO (fun _=>rfl) hlt;obtain⟨hc0,hc1⟩:=bF.at_ hcs;have HX:=Lib.hid hx;have HM:=Lib.hid hm;clear hcs hx hm
   go_wp2_with fail
   refine(anB m g x.var x.A x.addr.length x.c wr (hg.below hbel hg.lt)).mono ?_;rintro e w1 ⟨rfl,hb1⟩;rcases hp:(fun x=>mF m.d x.d) x with _|_
   .have hp':=hp;change((x.addr.length:Int) != m.addr)=_ at hp';rw[hp'];clear hp'
    go_wp2_with fail
    go_roundw
    case rel=>exact⟨k+1,atO,by go_num,xa HX.out HNO.out hp,hbel.trans (hb1.mono hbel.size)⟩
    case measure=>simp[intOf];omega
   .have hp':=hp;change((x.addr.length:Int) != m.addr)=_ at hp';rw[hp'];clear hp'
    go_wp2_with fail
    go_ret
    exact⟨k,rfl,by rw[asC.2 ⟨x,HM.out,hp⟩];simp,hbel.trans (hb1.mono hbel.size)⟩
  .go_wp2_with fail
   go_ret
   exact⟨-1,rfl,by rw[xb atO HNO.out];rfl,hbel⟩
theorem am2(m:aL)(g:Nat)(A:pm)(c:Nat)(l:List bF)(w:World)(hS:Sl w w.heap.size 2 A l.length c (l.flatMap bF.cells))(hg:bg w g 97 m.cells.toArray)(hn:l.length<=4000) :
  Calls Tryz.prog 203 #[.slice A l.length c,.func (.func 201) #[] #[.pointer (some ⟨g,0,none⟩)]] w fun e w'=>e=.returned (.bool (l.any (fun x=>mF m.d x.d)))/\Below w.heap.size w w':=by
 go_enter Tryz.func203,Tryz.ntmps203
 go_wp2_with fail
 refine(amW m g A c l w hS hg hn).mono ?_;rintro e w1 ⟨i,rfl,hi,hb1⟩;have HI:=Lib.hid hi;clear hi
 go_wp2_with fail
 go_ret
 exact⟨by rw[HI.out];rfl,hb1⟩
theorem amH(m:aL)(g:Nat)(A:pm)(c:Nat)(l:List bL)(w:World)(hS:Sl w w.heap.size 3 A l.length c (l.flatMap bL.cells))(hg:bg w g 97 m.cells.toArray)(hn:l.length<=4000) :
  Calls Tryz.prog 215 #[.slice A l.length c,.func (.func 202) #[] #[.pointer (some ⟨g,0,none⟩)]] w (y9 (l.any (fun x=>nj m.d x.d)) w):=by
 go_enter Tryz.func215,Tryz.ntmps215
 go_wp2_with fail
 go_loopw [8] (fun i wr=>∃k:Nat,k<=l.length/\i=.int .i64 k/\(l.take k).any (fun x=>nj m.d x.d)=false/\Below w.heap.size w wr) (fun i _=>l.length-(intOf i).toNat)
 case atStart=>exact⟨0,GT _,rfl,rfl,Below.refl _ _⟩
 case round=>
  obtain⟨k,hk,rfl,hno,hbel⟩:=hrel;have HNO:=Lib.hid hno;clear hno;by_cases hlt:k<l.length
  .obtain⟨b,off,x,rfl,hb,hx,hm,hcs⟩:=(hS.below hbel).elem atO (fun _=>rfl) hlt;obtain⟨hc0,hc1,hc2⟩:=bL.at_ hcs;have HX:=Lib.hid hx;have HM:=Lib.hid hm;clear hcs hx hm
   go_wp2_with fail
   refine(anA m g x.on x.A x.addr.length x.c x.A2 x.data.length x.c2 wr (hg.below hbel hg.lt)).mono ?_;rintro e w1 ⟨rfl,hb1⟩;rcases hp:(fun x=>nj m.d x.d) x with _|_
   .have hp':=hp;change((x.addr.length:Int) != m.addr||(x.data.length:Int) != m.word)=_ at hp';rw[hp'];clear hp'
    go_wp2_with fail
    go_roundw
    case rel=>exact⟨k+1,atO,by go_num,xa HX.out HNO.out hp,hbel.trans (hb1.mono hbel.size)⟩
    case measure=>simp[intOf];omega
   .have hp':=hp;change((x.addr.length:Int) != m.addr||(x.data.length:Int) != m.word)=_ at hp';rw[hp'];clear hp'
    go_wp2_with fail
    go_ret
    exact⟨k,rfl,by rw[asC.2 ⟨x,HM.out,hp⟩];simp,hbel.trans (hb1.mono hbel.size)⟩
  .go_wp2_with fail
   go_ret
   exact⟨-1,rfl,by rw[xb atO HNO.out];rfl,hbel⟩
theorem amO(m:aL)(g:Nat)(A:pm)(c:Nat)(l:List bL)(w:World)(hS:Sl w w.heap.size 3 A l.length c (l.flatMap bL.cells))(hg:bg w g 97 m.cells.toArray)(hn:l.length<=4000) :
  Calls Tryz.prog 204 #[.slice A l.length c,.func (.func 202) #[] #[.pointer (some ⟨g,0,none⟩)]] w fun e w'=>e=.returned (.bool (l.any (fun x=>nj m.d x.d)))/\Below w.heap.size w w':=by
 go_enter Tryz.func204,Tryz.ntmps204
 go_wp2_with fail
 refine(amH m g A c l w hS hg hn).mono ?_;rintro e w1 ⟨i,rfl,hi,hb1⟩;have HI:=Lib.hid hi;clear hi
 go_wp2_with fail
 go_ret
 exact⟨by rw[HI.out];rfl,hb1⟩
theorem amI  (A:pm)(c:Nat)(l:List aL)(w:World)(hS:Sl w w.heap.size 5 A l.length c (l.flatMap aL.cells))(hf:∀x∈l,x.reads.length<=100/\x.writes.length<=100)(hn:l.length<=4000) :
  Calls Tryz.prog 200 #[.slice A l.length c,.func (.func 199) #[] #[]] w (y9 (l.any (fun x=>jS x.d)) w):=by
 go_enter Tryz.func200,Tryz.ntmps200
 go_wp2_with fail
 go_loopw [8] (fun i wr=>∃k:Nat,k<=l.length/\i=.int .i64 k/\(l.take k).any (fun x=>jS x.d)=false/\Below w.heap.size w wr) (fun i _=>l.length-(intOf i).toNat)
 case atStart=>exact⟨0,GT _,rfl,rfl,Below.refl _ _⟩
 case round=>
  obtain⟨k,hk,rfl,hno,hbel⟩:=hrel;have HNO:=Lib.hid hno;clear hno;by_cases hlt:k<l.length
  .obtain⟨b,off,x,rfl,hb,hx,hm,hcs⟩:=(hS.below hbel).elem atO (fun _=>rfl) hlt;obtain⟨hc0,hc1,hc2,hc3,hc4⟩:=aL.at_ hcs;have HX:=Lib.hid hx;have HM:=Lib.hid hm;clear hcs hx hm
   go_wp2_with fail
   refine(anG x.addr x.word x.any x.A x.reads.length x.c x.A2 x.writes.length x.c2 wr (hf x HM.out).1 (hf x HM.out).2).mono ?_;rintro e w1 ⟨rfl,hb1⟩;rcases hp:(fun x=>jS x.d) x with _|_
   .have hp':=hp;simp only[jS,aL.d,aP]at hp';rw[hp'];clear hp'
    go_wp2_with fail
    go_roundw
    case rel=>exact⟨k+1,atO,by go_num,xa HX.out HNO.out hp,hbel.trans (hb1.mono hbel.size)⟩
    case measure=>simp[intOf];omega
   .have hp':=hp;simp only[jS,aL.d,aP]at hp';rw[hp'];clear hp'
    go_wp2_with fail
    go_ret
    exact⟨k,rfl,by rw[asC.2 ⟨x,HM.out,hp⟩];simp,hbel.trans (hb1.mono hbel.size)⟩
  .go_wp2_with fail
   go_ret
   exact⟨-1,rfl,by rw[xb atO HNO.out];rfl,hbel⟩
theorem amP  (A:pm)(c:Nat)(l:List aL)(w:World)(hS:Sl w w.heap.size 5 A l.length c (l.flatMap aL.cells))(hf:∀x∈l,x.reads.length<=100/\x.writes.length<=100)(hn:l.length<=4000) :
  Calls Tryz.prog 169 #[.slice A l.length c,.func (.func 199) #[] #[]] w fun e w'=>e=.returned (.bool (l.any (fun x=>jS x.d)))/\Below w.heap.size w w':=by
 go_enter Tryz.func169,Tryz.ntmps169
 go_wp2_with fail
 refine(amI  A c l w hS hf hn).mono ?_;rintro e w1 ⟨i,rfl,hi,hb1⟩;have HI:=Lib.hid hi;clear hi
 go_wp2_with fail
 go_ret
 exact⟨by rw[HI.out];rfl,hb1⟩
theorem amX  (A:pm)(c:Nat)(l:List dJ)(w:World)(hS:Sl w w.heap.size 3 A l.length c (l.flatMap dJ.cells))(hn:l.length<=4000) :
  Calls Tryz.prog 205 #[.slice A l.length c,.func (.func 172) #[] #[]] w (y9 (l.any ki) w):=by
 go_enter Tryz.func205,Tryz.ntmps205
 go_wp2_with fail
 go_loopw [8] (fun i wr=>∃k:Nat,k<=l.length/\i=.int .i64 k/\(l.take k).any ki=false/\Below w.heap.size w wr) (fun i _=>l.length-(intOf i).toNat)
 case atStart=>exact⟨0,GT _,rfl,rfl,Below.refl _ _⟩
 case round=>
  obtain⟨k,hk,rfl,hno,hbel⟩:=hrel;have HNO:=Lib.hid hno;clear hno;by_cases hlt:k<l.length
  .obtain⟨b,off,x,rfl,hb,hx,hm,hcs⟩:=(hS.below hbel).elem atO (fun _=>rfl) hlt;obtain⟨hc0,hc1,hc2⟩:=dJ.at_ hcs;have HX:=Lib.hid hx;have HM:=Lib.hid hm;clear hcs hx hm
   go_wp2_with fail
   refine(aiM x wr).mono ?_;rintro e w1 ⟨rfl,hb1⟩;rcases hp:ki x with _|_
   .have hp':=hp;clear hp'
    go_wp2_with fail
    go_roundw
    case rel=>exact⟨k+1,atO,by go_num,xa HX.out HNO.out hp,hbel.trans (hb1.mono hbel.size)⟩
    case measure=>simp[intOf];omega
   .have hp':=hp;clear hp'
    go_wp2_with fail
    go_ret
    exact⟨k,rfl,by rw[asC.2 ⟨x,HM.out,hp⟩];simp,hbel.trans (hb1.mono hbel.size)⟩
  .go_wp2_with fail
   go_ret
   exact⟨-1,rfl,by rw[xb atO HNO.out];rfl,hbel⟩
theorem am3  (A:pm)(c:Nat)(l:List dJ)(w:World)(hS:Sl w w.heap.size 3 A l.length c (l.flatMap dJ.cells))(hn:l.length<=4000) :
  Calls Tryz.prog 171 #[.slice A l.length c,.func (.func 172) #[] #[]] w fun e w'=>e=.returned (.bool (l.any ki))/\Below w.heap.size w w':=by
 go_enter Tryz.func171,Tryz.ntmps171
 go_wp2_with fail
 refine(amX  A c l w hS hn).mono ?_;rintro e w1 ⟨i,rfl,hi,hb1⟩;have HI:=Lib.hid hi;clear hi
 go_wp2_with fail
 go_ret
 exact⟨by rw[HI.out];rfl,hb1⟩
theorem ajG(m:aL)(w:World)(hm:m.cY w w.heap.size)(h1:m.reads.length<=4000)(h2:m.writes.length<=4000) :
  Calls Tryz.prog 170 #[m.v] w fun e w'=>e=.returned (.bool (iO m.d))/\Below w.heap.size w w':=by
 have hW:iO m.d=(decide (m.addr<1\/62<m.addr\/m.word<1\/64<m.word)||m.reads.any (fun x=>mF m.d x.d)||m.writes.any (fun x=>nj m.d x.d)):=by unfold iO;rw[show m.d.reads=m.reads.map bF.d from rfl,show m.d.writes=m.writes.map bL.d from rfl,atc,atc];rfl
 have HW:=Lib.hid hW;clear hW;have hm2:m.cY (w.alloc (.cells m.cells.toArray 97)) w.heap.size:=hm.bn fun p hp=>World.cell?_alloc_lt w _ p hp;have HM:=Lib.hid hm2;have HG:=Lib.hid (bg.new w 97 m.cells.toArray);clear hm hm2;unfold aL.v;rcases(show m.addr<1\/(¬m.addr<1/\62<m.addr)\/(¬m.addr<1/\¬62<m.addr/\m.word<1)\/(¬m.addr<1/\¬62<m.addr/\¬m.word<1/\64<m.word)\/(¬m.addr<1/\¬62<m.addr/\¬m.word<1/\¬64<m.word)from by omega)with a1|⟨a1,a2⟩|⟨a1,a2,a3⟩|⟨a1,a2,a3,a4⟩|⟨a1,a2,a3,a4⟩
 iterate 4
  .go_enter Tryz.func170,Tryz.ntmps170
   go_wp2_with fail
   go_ret
   exact⟨by rw[HW.out];rw[dt atO];rfl,(Below.refl _ _).alloc (rt _) _⟩
 .go_enter Tryz.func170,Tryz.ntmps170
  go_wp2_with fail
  refine(am2 m w.heap.size m.A m.c m.reads _ (HM.out.rd.more atQ) HG.out h1).mono ?_;rintro e w1 ⟨rfl,hb1⟩;have hsz:w.heap.size<w1.heap.size:=by have:=hb1.size;simp at this;omega
  have hc4:w1.cell? ⟨w.heap.size,4,none⟩=some (.slice m.A2 m.writes.length m.c2):=(HG.out.below hb1 atQ).cell 4;have HG1:=Lib.hid (HG.out.below hb1 atQ);have hb0:Below w.heap.size w w1:=((Below.refl _ _).alloc (rt _) _).trans (hb1.mono atQ);have HM1:=Lib.hid (HM.out.below (hb1.mono atQ));clear hb1;rcases hp:m.reads.any (fun x=>mF m.d x.d)with _|_
  .rw[hp]at HW;clear hp
   go_wp2_with fail
   refine(amO m w.heap.size m.A2 m.c2 m.writes _ (HM1.out.wr.more atO) HG1.out h2).mono ?_;rintro e w2 ⟨rfl,hb2⟩
   go_wp2_with fail
   go_ret
   exact⟨by rw[HW.out,eY atO];rfl,hb0.trans (hb2.mono atO)⟩
  .rw[hp]at HW;clear hp
   go_wp2_with fail
   go_ret
   exact⟨by rw[HW.out];simp,hb0⟩
theorem amV  (A:pm)(c:Nat)(l:List aL)(w:World)(hS:Sl w w.heap.size 5 A l.length c (l.flatMap aL.cells))(hf:∀x∈l,x.cY w w.heap.size/\x.reads.length<=100/\x.writes.length<=100)(hn:l.length<=4000) :
  Calls Tryz.prog 200 #[.slice A l.length c,.func (.func 170) #[] #[]] w (y9 (l.any (fun x=>iO x.d)) w):=by
 go_enter Tryz.func200,Tryz.ntmps200
 go_wp2_with fail
 go_loopw [8] (fun i wr=>∃k:Nat,k<=l.length/\i=.int .i64 k/\(l.take k).any (fun x=>iO x.d)=false/\Below w.heap.size w wr) (fun i _=>l.length-(intOf i).toNat)
 case atStart=>exact⟨0,GT _,rfl,rfl,Below.refl _ _⟩
 case round=>
  obtain⟨k,hk,rfl,hno,hbel⟩:=hrel;have HNO:=Lib.hid hno;clear hno;by_cases hlt:k<l.length
  .obtain⟨b,off,x,rfl,hb,hx,hm,hcs⟩:=(hS.below hbel).elem atO (fun _=>rfl) hlt;obtain⟨hc0,hc1,hc2,hc3,hc4⟩:=aL.at_ hcs;have HX:=Lib.hid hx;have HM:=Lib.hid hm;clear hcs hx hm
   go_wp2_with fail
   refine(ajG x wr (((hf x HM.out).1.below hbel).more hbel.size) (by have:=(hf x HM.out).2.1;omega) (by have:=(hf x HM.out).2.2;omega)).mono ?_;rintro e w1 ⟨rfl,hb1⟩;rcases hp:(fun x=>iO x.d) x with _|_
   .have hp':=hp;clear hp'
    go_wp2_with fail
    go_roundw
    case rel=>exact⟨k+1,atO,by go_num,xa HX.out HNO.out hp,hbel.trans (hb1.mono hbel.size)⟩
    case measure=>simp[intOf];omega
   .have hp':=hp;clear hp'
    go_wp2_with fail
    go_ret
    exact⟨k,rfl,by rw[asC.2 ⟨x,HM.out,hp⟩];simp,hbel.trans (hb1.mono hbel.size)⟩
  .go_wp2_with fail
   go_ret
   exact⟨-1,rfl,by rw[xb atO HNO.out];rfl,hbel⟩
theorem am1  (A:pm)(c:Nat)(l:List aL)(w:World)(hS:Sl w w.heap.size 5 A l.length c (l.flatMap aL.cells))(hf:∀x∈l,x.cY w w.heap.size/\x.reads.length<=100/\x.writes.length<=100)(hn:l.length<=4000) :
  Calls Tryz.prog 169 #[.slice A l.length c,.func (.func 170) #[] #[]] w fun e w'=>e=.returned (.bool (l.any (fun x=>iO x.d)))/\Below w.heap.size w w':=by
 go_enter Tryz.func169,Tryz.ntmps169
 go_wp2_with fail
 refine(amV  A c l w hS hf hn).mono ?_;rintro e w1 ⟨i,rfl,hi,hb1⟩;have HI:=Lib.hid hi;clear hi
 go_wp2_with fail
 go_ret
 exact⟨by rw[HI.out];rfl,hb1⟩
theorem TT(x:Int)(w:World):Calls Tryz.prog 198 #[.int .i64 x] w fun e w'=>e=.returned (.bool (decide (2000<x)))/\w=w':=by
 go_enter Tryz.func198,Tryz.ntmps198
 go_wp2
 go_ret
 exact⟨rfl,rfl⟩
set_option maxHeartbeats 4000000
theorem ang(n:aT)(w:World)(hn:n.cY w w.heap.size)(ft:Fit n.d) :
  Calls Tryz.prog 168 #[n.v] w fun e w'=>e=.returned (.bool (lK n.d))/\Below w.heap.size w w':=by
 have hn2:n.cY (w.alloc (.cells n.fs 27)) w.heap.size:=hn.bn fun p hp=>World.cell?_alloc_lt w _ p hp;have HN:=Lib.hid hn2;have HE:Hid (lK n.d=(decide (n.d.vars<0\/2000<n.d.vars\/2000<n.d.al.length\/2000<n.d.ag.length\/2000<n.d.aj.length\/1000<n.d.aZ.length+n.d.aN.length+n.d.constraints.length\/4<n.d.ae.length)||n.d.ae.any jS)):=rfl;have hpf:∀x∈n.ae,x.reads.length<=100/\x.writes.length<=100:=fun x hx=>by have h:=ft.ae.2 x.d (AI hx);have h1:=h.nH;have h2:=h.tI;simp only[aL.d,aP]at h1 h2;exact⟨h1,h2⟩
 have HPF:=Lib.hid hpf;have hml:n.ae.length<=100:=by have:=ft.ae.1;simpa[aT.d]using this
 have hpa:n.d.ae.any jS=n.ae.any (fun x=>jS x.d):=by show(n.ae.map aL.d).any jS=_;rw[atc];rfl
 rw[hpa]at HE;have hl1:n.al.length<=4000:=ft.ins.1;have hl2:n.ag.length<=4000:=ft.aJ.1;have hl3:n.aj.length<=4000:=ft.aj.1;have hl4:n.aZ.length<=4000:=ft.out.1;have hl5:n.aN.length<=4000:=ft.bad.1;have hl6:n.constraints.length<=4000:=ft.gG.1;clear hn hn2 hpa hpf ft;obtain⟨z,hz⟩:∃z,z=lK n.d:=⟨_,rfl⟩;rw[<-hz]at HE |-;clear hz;unfold aT.v aT.fs;simp only[aT.d,aP]at HE;rcases(show n.vars<0\/(¬n.vars<0/\2000<n.vars)\/(¬n.vars<0/\¬2000<n.vars/\(2000:Int)<n.al.length)\/(¬n.vars<0/\¬2000<n.vars/\¬(2000:Int)<n.al.length/\(2000:Int)<n.ag.length)\/(¬n.vars<0/\¬2000<n.vars/\¬(2000:Int)<n.al.length/\¬(2000:Int)<n.ag.length/\(2000:Int)<n.aj.length)\/(¬n.vars<0/\¬2000<n.vars/\¬(2000:Int)<n.al.length/\¬(2000:Int)<n.ag.length/\¬(2000:Int)<n.aj.length)from by omega)with a1|⟨a1,a2⟩|⟨a1,a2,a3⟩|⟨a1,a2,a3,a4⟩|⟨a1,a2,a3,a4,a5⟩|⟨a1,a2,a3,a4,a5⟩
 iterate 5
  .go_enter Tryz.func168,Tryz.ntmps168
   go_wp2_with (go_at_call 198;refine(TT _ _).mono ?_;rintro e w' ⟨rfl,rfl⟩)
   go_ret
   refine⟨AA ?_,(Below.refl _ _).alloc (rt _) _⟩;rw[HE.out,dt atO];rfl
 .rcases(show(1000:Int)<n.aZ.length+n.aN.length+n.constraints.length\/(¬(1000:Int)<n.aZ.length+n.aN.length+n.constraints.length/\(4:Int)<n.ae.length)\/(¬(1000:Int)<n.aZ.length+n.aN.length+n.constraints.length/\¬(4:Int)<n.ae.length)from by omega)with b1|⟨b1,b2⟩|⟨b1,b2⟩
  iterate 2
   .go_enter Tryz.func168,Tryz.ntmps168
    go_wp2_with (go_at_call 198;refine(TT _ _).mono ?_;rintro e w' ⟨rfl,rfl⟩)
    go_ret
    refine⟨AA ?_,(Below.refl _ _).alloc (rt _) _⟩;rw[HE.out,dt atO];rfl
  .go_enter Tryz.func168,Tryz.ntmps168
   go_wp2_with (first|(go_at_call 198;refine(TT _ _).mono ?_;rintro e w' ⟨rfl,rfl⟩)|(go_at_call 169;refine(amP n.Am n.cm n.ae _ (HN.out.mem.more atQ) HPF.out atO).mono ?_;rintro e w1 ⟨rfl,hb1⟩))
   go_ret
   refine⟨AA ?_,((Below.refl _ _).alloc (rt _) _).trans (hb1.mono atQ)⟩;rw[HE.out,eY atO];rfl
open Go.Shelf
attribute [local go_sem] Oper.semAt_some
structure iT(avB B:Nat)(W W':World):Prop where
 below:Below avB W W'
 eK:∀(i:Nat) (o:Obj),B<=i->W.heap[i]?=some o->o.isCells=true->W'.heap[i]?=some o
theorem iT.refl(avB B:Nat)(W:World):iT avB B W W:=⟨Below.refl _ _,fun _ _ _ h _=>h⟩
variable{avB:Nat}
theorem iT.trans{B:Nat}{A C D:World}(h:iT avB B A C)(k:iT avB B C D):iT avB B A D:=⟨h.below.trans k.below,fun i o hi hA ho=>k.eK i o hi (h.eK i o hi hA ho) ho⟩
variable{W:World}{W':World}
theorem iT.alloc{B:Nat}(h:iT avB B W W')(hn:avB<=W'.heap.size)(o:Obj):iT avB B W (W'.alloc o):=⟨h.below.alloc hn o,fun i o' hi hW ho=>by have h1:=h.eK i o' hi hW ho;exact(Below.heap_alloc W' o i (asf.1 h1).1).trans h1⟩
theorem iT.setCell{B:Nat}(h:iT avB B W W'){p:Addr}(h1:avB<=p.block)(h2:p.block<B)(v:Value):iT avB B W (W'.setCell p v):=⟨h.below.setCell h1 v,fun i o' hi hW ho=>(Below.heap_setCell W' p v i atO).trans (h.eK i o' hi hW ho)⟩
theorem al5{B:Nat}{w:World}(hn:avB<=w.heap.size)(W:World)(l:Nat)(o o':Obj)(hl:w.heap.size<=l)(h:W.heap[l]?=some o)(hc:o.isCells=false)(hw:o.isWalk=false):iT avB B W (W.putObj l o'):=
 ⟨belowK_b hn W l o o' hl h hc hw,fun i o2 hi hW ho=>by
  by_cases e:i=l
  .subst e
   grind
  .exact(World.putObj_heap_other atO).trans hW⟩
variable{t:TypeId}{g:Nat}
theorem bg.A7{B:Nat}{cs:Array Value}(h:bg W g t cs)(k:iT avB B W W')(hg:B<=g):bg W' g t cs:=k.eK g _ hg h rfl
/- the variables in their order, as eK as they have come -/
def v2(N:aT)(k:Nat):jp:=N.al++(N.ag.take k).map (·.var)
def sT(m:aL):jp:=m.reads.flatMap fun r=>bZ r.var m.word.toNat
def v3(N:aT)(k:Nat):jp:=N.al++N.ag.map (·.var)++(N.ae.take k).flatMap sT
def v4(N:aT)(k:Nat)(m:aL)(j:Nat):jp:=v3 N k++(m.reads.take j).flatMap fun r=>bZ r.var m.word.toNat
def v5(N:aT)(k:Nat)(m:aL)(j:Nat)(r:bF)(i:Nat):jp:=v4 N k m j++bZ r.var i
def v6(N:aT)(k:Nat):jp:=N.al++N.ag.map (·.var)++N.ae.flatMap sT++(N.aj.take k).map (·.var)
theorem aln(m:aL):fv m.d=sT m:=by unfold fv sT aL.d;rw[asn];rfl
theorem AO(N:aT):aX N.d=N.al++N.ag.map (·.var)++N.ae.flatMap sT++N.aj.map (·.var):=by unfold aX aT.d;simp only;rw[asn];congr 2;exact PP (fun f=>N.ae.flatMap f) (funext aln)
theorem Jt(v:Int)(i:Nat):bZ v (i+1)=bZ v i++[v+(i:Int)]:=by simp[bZ,asg]
theorem an4(v:Int){i j:Nat}(h:i<=j):bZ v i <+: bZ v j:=by
 obtain⟨d,rfl⟩:=Nat.le.dest h
 induction d with|zero=>exact List.prefix_refl _|succ d ih=>rw[<-asp,Jt];grind
variable{β:Type}
theorem Zqp(f:α->List β)(l:List α)(k:Nat){x:α}(h:l[k]?=some x):(l.take k).flatMap f++f x <+: l.flatMap f:=by
 have:(l.take (k+1)).flatMap f=(l.take k).flatMap f++f x:=by rw[eE h];simp
 rw[<-this]
 conv=>rhs;rw[<-LT (k+1) l]
 grind
theorem xe(f:α->List β){k:Nat}{x:α}(h:l[k]?=some x):(l.take (k+1)).flatMap f=(l.take k).flatMap f++f x:=by rw[eE h];simp
theorem rA{a b c:List α}(h:b <+: c):a++b <+: a++c:=(List.prefix_append_right_inj a).2 h
section
variable{N:aT}{k j i:Nat}
theorem Ze{x:Int}(h:N.al[k]?=some x):N.al.take k++[x] <+: aX N.d:=by
 rw[AO,<-eE h,bB,bB]
 grind
theorem NZ{x:dJ}(h:N.ag[k]?=some x):v2 N (k+1)=v2 N k++[x.var]:=by unfold v2;rw[eE h];simp
theorem Zf{x:dJ}(h:N.ag[k]?=some x):v2 N k++[x.var] <+: aX N.d:=by rw[AO,<-NZ h,bB];refine asE ?_ (asB _ _);exact rA (List.IsPrefix.map _ (List.take_prefix _ _))
theorem amn(h:N.ae[k]?=some m):v3 N k++sT m <+: aX N.d:=by rw[AO];refine asE ?_ (asB _ _);unfold v3;rw[bB];exact rA (Zqp sT _ _ h)
theorem Zg(h:N.ae[k]?=some m)(h2:m.reads[j]?=some r)(hi:i<m.word.toNat):v5 N k m j r i++[r.var+(i:Int)] <+: aX N.d:=by refine asE ?_ (amn h);unfold v5 v4;rw[bB,bB,<-Jt];refine rA (asE (rA (an4 _ (show i+1<=m.word.toNat by omega))) ?_);exact Zqp (fun r:bF=>bZ r.var m.word.toNat) _ _ h2
theorem YJ:v5 N k m j r (i+1)=v5 N k m j r i++[r.var+(i:Int)]:=by unfold v5;rw[Jt,bB]
theorem YK:v5 N k m j r 0=v4 N k m j:=by simp[v5,bZ]
theorem YI(h2:m.reads[j]?=some r):v5 N k m j r m.word.toNat=v4 N k m (j+1):=by unfold v5 v4;rw[xe _ h2,bB]
theorem aa0:v4 N k m 0=v3 N k:=by simp[v4]
theorem aa1(h:N.ae[k]?=some m)(hj:m.reads.length<=j):v4 N k m j=v3 N (k+1):=by unfold v4 v3;rw[xe _ h,If hj];simp[sT]
theorem aa3(hk:N.ae.length<=k):v3 N k=v6 N 0:=by unfold v3 v6;rw[If hk];simp
theorem aa2(hk:N.ag.length<=k):v2 N k=v3 N 0:=by unfold v2 v3;rw[If hk];simp
theorem YH(hk:N.al.length<=k):N.al.take k=v2 N 0:=by unfold v2;rw[If hk];simp
theorem NY{x:dU}(h:N.aj[k]?=some x):v6 N (k+1)=v6 N k++[x.var]:=by unfold v6;rw[eE h];simp
theorem Zh{x:dU}(h:N.aj[k]?=some x):v6 N k++[x.var] <+: aX N.d:=by rw[AO,<-NY h];exact rA (List.IsPrefix.map _ (List.take_prefix _ _))
theorem aaZ(hk:N.aj.length<=k):v6 N k=aX N.d:=by rw[AO];unfold v6;rw[If hk]
end
variable{pre:jp}{x:Int}{D:jp}
theorem tC(h:pre++[x] <+: D):pre.length<D.length:=by grind
set_option maxRecDepth 100000
theorem ajE(F:Fence)(n:Nat)(hF:F.fn 191)(hro:F.round=none)(hn:1<=n)(l Bx avB B:Nat)(N:aT)(J Jx:jp->World->Prop)(W:World)
  (hJ:∀(s:jp) (A:World) (o:Obj),J s A->J s (A.alloc o))
  (hY:∀pre x W1,J pre W1->pre.length<(aX N.d).length->YieldAt F (n-1) Tryz.prog l #[.int .i64 x] W1 fun e W'=>(e=.returned (.bool true)/\J (pre++[x]) W'/\iT avB B W1 W')\/(e=.returned (.bool false)/\Jx (pre++[x]) W'))
  (hBx:bg W Bx 27 N.fs) (hBl:B<=Bx) (hok:N.cY W avB) (hn0:avB<=W.heap.size) (hBW:B<=W.heap.size) (h0:J [] W) (ft:Fit N.d) :
  CallsIn F n Tryz.prog 191 #[.func (.yield l) #[] #[],.pointer (some ⟨Bx,0,none⟩)] W fun e W'=>(∃v,e=.returned v) /\
   ((∃ys,ys=aX N.d/\J ys W')\/(∃pre,pre <+: aX N.d/\Jx pre W')):=by
 have HJ:=Lib.hid hJ;have HY:=Lib.hid hY;have HB:=Lib.hid hBx;have HOK:=Lib.hid hok;have hl1:N.al.length<=4000:=ft.ins.1;have hl2:N.ag.length<=4000:=ft.aJ.1;have hl3:N.aj.length<=4000:=ft.aj.1;have hl4:N.ae.length<=100:=by have:=ft.ae.1;simpa[aT.d]using this
 have HMF:=Lib.hid (ft.ae.2);have hf1:W.cell? ⟨Bx,1,none⟩=some (.slice N.Ai N.al.length N.ci):=hBx.cell 1;clear hJ hY hok ft hBx;refine callsIn_of_wp Tryz.func191 rfl hF ?_ hro;simp only[Tryz.ntmps191,atp,di,IT,Nat.reduceAdd,Nat.reduceSub,ata,atb,atq,atg,UV,arM]
 gi_wp2
 gi_loopw [17] (fun i wr=>∃k:Nat,k<=N.al.length/\i=.int .i64 k/\J (N.al.take k) wr/\iT avB B W wr) (fun i _=>N.al.length-(intOf i).toNat)
 case atStart=>exact⟨0,GT _,rfl,by simpa using h0,iT.refl _ _ _⟩
 case round=>
  obtain⟨k,hk,rfl,hJs,hkp⟩:=hrel;by_cases hlt:k<N.al.length
  .obtain⟨b,off,x,e1,hb,hx,hm,hc⟩:=(HOK.out.below hkp.below).ins.qO hlt;have hp:=Ze hx;obtain⟨fn,tmps,assign,body,hy,hR⟩:=HY.out (N.al.take k) x wr hJs (tC hp);have HX:=Lib.hid hx;have HP:=Lib.hid hp;have HE1:=Lib.hid e1;clear hx hp hm;rw[e1];clear e1
   gi_wp2
   refine hR.mono ?_;rintro e W3 (⟨rfl,hJ3,hk3⟩|⟨rfl,hJx3⟩)
   .gi_wp2
    go_roundw
    case rel=>exact⟨k+1,atO,atQ,by rw[eE HX.out];exact hJ3,hkp.trans hk3⟩
    case measure=>simp[intOf];omega
   .gi_wp2
    refine bodyPost_ret (results_none rfl _ _ _) rfl ?_;exact⟨⟨_,rfl⟩,.inr ⟨_,HP.out,hJx3⟩⟩
  .rw[YH atO]at hJs;have hf2:wr.cell? ⟨Bx,2,none⟩=some (.slice N.Al N.ag.length N.cl):=(HB.out.A7 hkp hBl).cell 2
   gi_wp2
   obtain⟨w1,rfl⟩:∃w1:World,w1=wr:=⟨_,rfl⟩;clear hf2 hlt hk
   gi_loopw [29] (fun i wr=>∃k:Nat,k<=N.ag.length/\i=.int .i64 k/\J (v2 N k) wr/\iT avB B W wr) (fun i _=>N.ag.length-(intOf i).toNat)
   case atStart=>exact⟨0,GT _,rfl,hJs,hkp⟩
   case round=>
    clear hJs hkp;obtain⟨k,hk,rfl,hJs,hkp⟩:=hrel;have hsz:=hkp.below.size;by_cases hlt:k<N.ag.length
    .obtain⟨b,off,x,e1,hb,hx,hm,hcs⟩:=(HOK.out.below hkp.below).aJ.elem atO (fun _=>rfl) hlt;obtain⟨hc0,hc1,hc2⟩:=dJ.at_ hcs;have hp:=Zf hx;obtain⟨fn,tmps,assign,body,hy,hR⟩:=HY.out (v2 N k) x.var (wr.alloc (.cells #[.int .i64 x.var,.int .i64 x.next,.int .i64 x.init] 78)) (HJ.out _ _ _ hJs) (tC hp);have HX:=Lib.hid hx;have HP:=Lib.hid hp;clear hx hp hm hcs;rw[e1];clear e1
     gi_wp2
     refine hR.mono ?_;rintro e W3 (⟨rfl,hJ3,hk3⟩|⟨rfl,hJx3⟩)
     .gi_wp2
      go_roundw
      case rel=>exact⟨k+1,atO,atQ,by rw[NZ HX.out];exact hJ3,(hkp.alloc atO _).trans hk3⟩
      case measure=>simp[intOf];omega
     .gi_wp2
      refine bodyPost_ret (results_none rfl _ _ _) rfl ?_;exact⟨⟨_,rfl⟩,.inr ⟨_,HP.out,hJx3⟩⟩
    .rw[aa2 atO]at hJs;have hf3:wr.cell? ⟨Bx,6,none⟩=some (.slice N.Am N.ae.length N.cm):=(HB.out.A7 hkp hBl).cell 6
     gi_wp2
     obtain⟨w2,rfl⟩:∃w2:World,w2=wr:=⟨_,rfl⟩;clear hf3 hlt hk hsz
     gi_loopw [42] (fun i wr=>∃k:Nat,k<=N.ae.length/\i=.int .i64 k/\J (v3 N k) wr/\iT avB B W wr) (fun i _=>N.ae.length-(intOf i).toNat)
     case atStart=>exact⟨0,GT _,rfl,hJs,hkp⟩
     case round=>
      clear hJs hkp;obtain⟨k,hk,rfl,hJs,hkp⟩:=hrel;have hsz:=hkp.below.size;by_cases hlt:k<N.ae.length
      .obtain⟨b,off,m,e1,hb,hx,hm,hcs⟩:=(HOK.out.below hkp.below).mem.elem atO (fun _=>rfl) hlt;obtain⟨hc0,hc1,hc2,hc3,hc4⟩:=aL.at_ hcs;have HX:=Lib.hid hx;have HM:=Lib.hid (HOK.out.kZ m hm);have hfm:=HMF.out m.d (AI hm);have hrn:m.reads.length<=100:=by have:=hfm.nH;simpa[aL.d]using this
       have hw1:m.word<=4000:=hfm.word.2;have hw0:-9223372036854775808<=m.word:=hfm.word.1.1;have HRF:=Lib.hid hfm.ig;clear hx hm hcs hfm;rw[e1];clear e1
       gi_wp2
       obtain⟨c,hc⟩:∃c,c=wr.heap.size:=⟨_,rfl⟩;have hkp2:=hkp.alloc (show avB<=wr.heap.size by omega) (.cells m.cells.toArray 97);have hJ2:=HJ.out _ _ (.cells m.cells.toArray 97) hJs;have hbk:=bg.new wr 97 m.cells.toArray;have hcB:B<=c:=atO
       rw[<-hc]at hbk |-;rw[<-aa0 (m:=m)]at hJ2;clear hc hJs hkp hc0 hc1 hc2 hc3 hc4;change Code.wpIn _ _ _ _ _ _ (wr.alloc (.cells m.cells.toArray 97));obtain⟨w3,hw3⟩:∃w3:World,w3=wr.alloc (.cells m.cells.toArray 97):=⟨_,rfl⟩;rw[<-hw3]at hkp2 hJ2 hbk |-;clear hw3 hsz
       gi_loopw [49] (fun i wr=>∃j:Nat,j<=m.reads.length/\i=.int .i64 j/\J (v4 N k m j) wr/\iT avB B W wr/\bg wr c 97 m.cells.toArray) (fun i _=>m.reads.length-(intOf i).toNat)
       case atStart=>exact⟨0,GT _,rfl,hJ2,hkp2,hbk⟩
       case round=>
        clear hJ2 hkp2 hbk;obtain⟨j,hj,rfl,hJs,hkp,hbk⟩:=hrel;have hsz:=hkp.below.size;by_cases hlt2:j<m.reads.length
        .obtain⟨b2,off2,r,e1,hb2,hx2,hm2,hcs⟩:=(HM.out.below hkp.below).rd.elem atO (fun _=>rfl) hlt2;obtain⟨hc0,hc1⟩:=bF.at_ hcs;have HX2:=Lib.hid hx2;obtain⟨_,hv1,hv2,_⟩:=HRF.out r.d (AI hm2);change -1099511627776<=r.var at hv1;change r.var<=1099511627776 at hv2;have hcw:wr.cell? ⟨c,1,none⟩=some (.int .i64 m.word):=hbk.cell 1;have hcl:c<wr.heap.size:=hbk.lt;clear hx2 hm2 hcs;rw[e1];clear e1
         gi_wp2
         obtain⟨d,hd⟩:∃d,d=wr.heap.size:=⟨_,rfl⟩;have hkp2:=hkp.alloc (show avB<=wr.heap.size by omega) (.cells r.cells.toArray 148);have hJ2:=HJ.out _ _ (.cells r.cells.toArray 148) hJs;have hbk2:=bg.new wr 148 r.cells.toArray;have hbk1:=hbk.alloc (.cells r.cells.toArray 148);have hdB:B<=d:=atO
         rw[<-hd]at hbk2 |-;rw[<-YK (r:=r)]at hJ2;clear hd hJs hkp hbk hc0 hc1 hcw;change Code.wpIn _ _ _ _ _ _ (wr.alloc (.cells r.cells.toArray 148));obtain⟨w4,hw4⟩:∃w4:World,w4=wr.alloc (.cells r.cells.toArray 148):=⟨_,rfl⟩;rw[<-hw4]at hkp2 hJ2 hbk2 hbk1 |-;clear hw4 hsz hcl
         gi_loopw [55] (fun i wr=>∃q:Nat,q<=m.word.toNat/\i=.int .i64 q/\J (v5 N k m j r q) wr/\iT avB B W wr/\bg wr c 97 m.cells.toArray/\bg wr d 148 r.cells.toArray) (fun i _=>m.word.toNat-(intOf i).toNat)
         case atStart=>exact⟨0,GT _,rfl,hJ2,hkp2,hbk1,hbk2⟩
         case round=>
          clear hJ2 hkp2 hbk1 hbk2;obtain⟨q,hq,rfl,hJs,hkp,hbk1,hbk2⟩:=hrel;by_cases hlt3:(q:Int)<m.word
          .have hp:=Zg (i:=q) HX.out HX2.out atO;obtain⟨fn,tmps,assign,body,hy,hR⟩:=HY.out (v5 N k m j r q) (r.var+(q:Int)) wr hJs (tC hp);have HP:=Lib.hid hp;have hcv:wr.cell? ⟨d,0,none⟩=some (.int .i64 r.var):=hbk2.cell 0;clear hp
           gi_wp2
           refine hR.mono ?_;rintro e W3 (⟨rfl,hJ3,hk3⟩|⟨rfl,hJx3⟩)
           .gi_wp2
            go_roundw
            case rel=>exact⟨q+1,atO,atQ,by rw[YJ];exact hJ3,hkp.trans hk3,hbk1.A7 hk3 hcB,hbk2.A7 hk3 hdB⟩
            case measure=>simp[intOf];omega
           .gi_wp2
            refine bodyPost_ret (results_none rfl _ _ _) rfl ?_;exact⟨⟨_,rfl⟩,.inr ⟨_,HP.out,hJx3⟩⟩
          .obtain rfl:q=m.word.toNat:=atO
           rw[YI HX2.out]at hJs
           gi_wp2
           go_roundw
           case rel=>exact⟨j+1,atO,atQ,hJs,hkp,hbk1⟩
           case measure=>simp[intOf];omega
        .rw[aa1 HX.out atO]at hJs
         gi_wp2
         go_roundw
         case rel=>exact⟨k+1,atO,atQ,hJs,hkp⟩
         case measure=>simp[intOf];omega
      .rw[aa3 atO]at hJs;have hf4:wr.cell? ⟨Bx,7,none⟩=some (.slice N.An N.aj.length N.cn):=(HB.out.A7 hkp hBl).cell 7
       gi_wp2
       obtain⟨w3,rfl⟩:∃w3:World,w3=wr:=⟨_,rfl⟩;clear hf4 hlt hk hsz
       gi_loopw [71] (fun i wr=>∃k:Nat,k<=N.aj.length/\i=.int .i64 k/\J (v6 N k) wr/\iT avB B W wr) (fun i _=>N.aj.length-(intOf i).toNat)
       case atStart=>exact⟨0,GT _,rfl,hJs,hkp⟩
       case round=>
        clear hJs hkp;obtain⟨k,hk,rfl,hJs,hkp⟩:=hrel;have hsz:=hkp.below.size;by_cases hlt:k<N.aj.length
        .obtain⟨b,off,x,e1,hb,hx,hm,hcs⟩:=(HOK.out.below hkp.below).and.elem atO (fun _=>rfl) hlt;obtain⟨hc0,hc1,hc2⟩:=dU.at_ hcs;have hp:=Zh hx;obtain⟨fn,tmps,assign,body,hy,hR⟩:=HY.out (v6 N k) x.var (wr.alloc (.cells #[.int .i64 x.var,.int .i64 x.a,.int .i64 x.b] 113)) (HJ.out _ _ _ hJs) (tC hp);have HX:=Lib.hid hx;have HP:=Lib.hid hp;clear hx hp hm hcs;rw[e1];clear e1
         gi_wp2
         refine hR.mono ?_;rintro e W3 (⟨rfl,hJ3,hk3⟩|⟨rfl,hJx3⟩)
         .gi_wp2
          go_roundw
          case rel=>exact⟨k+1,atO,atQ,by rw[NY HX.out];exact hJ3,(hkp.alloc atO _).trans hk3⟩
          case measure=>simp[intOf];omega
         .gi_wp2
          refine bodyPost_ret (results_none rfl _ _ _) rfl ?_;exact⟨⟨_,rfl⟩,.inr ⟨_,HP.out,hJx3⟩⟩
        .rw[aaZ atO]at hJs
         gi_wp2
         go_end0
         exact⟨⟨_,rfl⟩,.inl ⟨_,rfl,hJs⟩⟩
theorem ana(F:Fence)(n:Nat)(hF:F.fn 191)(hro:F.round=none)(hn:1<=n)(Bx avB B:Nat)(N:aT)(w:World)
  (hBx:bg w Bx 27 N.fs) (hBl:B<=Bx) (hok:N.cY w avB) (hn0:avB<=w.heap.size) (ft:Fit N.d) :
  SeqStopsK F n Tryz.prog 191 #[.pointer (some ⟨Bx,0,none⟩)] (fun x:Int=>#[Value.int .i64 x]) (iT avB B) (fun ys=>ys=aX N.d) (fun pre=>pre <+: aX N.d) (aX N.d).length w:=
 fun l J Jx W hW hJ _ hY h0=>ajE F n hF hro hn l Bx avB B N J Jx W (fun s A o h=>hJ s A _ none h (World.grownBy_alloc A o none) (fun r e=>by cases e)) hY (hBx.below hW hBx.lt) hBl (hok.below (hW.mono hn0)) (IS hn0 hW.size) (IS (asS (Nat.lt_of_le_of_lt hBl hBx.lt)) hW.size) h0 ft
theorem YM(F:Fence)(n:Nat)(hF:F.fn 148)(hro:F.round=none)(N:aT)(w:World) :
  CallsIn F n Tryz.prog 148 #[N.v] w fun e w'=>e=.returned (.func (.func 191) #[] #[.pointer (some ⟨w.heap.size,0,none⟩)])/\w'=w.alloc (.cells N.fs 27):=by
 unfold aT.v aT.fs;refine callsIn_of_wp Tryz.func148 rfl hF ?_ hro;simp only[Tryz.ntmps148,atp,di,IT,Nat.reduceAdd,Nat.reduceSub,ata,atb,atq,atg,UV,arM]
 gi_wp2
 go_ret
 exact⟨rfl,rfl⟩
attribute [local go_sem] Oper.semAt_some
def sj(V:Nat)(pre:jp):Prop:=pre.Nodup/\∀x∈pre,1<=x/\x<=(V:Int)
variable{V:Nat}
theorem sj.snoc(h:sj V pre)(h1:1<=x)(h2:x<=V)(h3:pre.contains x=false):sj V (pre++[x]):=by
 refine⟨?_,fun y hy=>?_⟩
 .rw[rx];refine⟨h.1,atQ,fun a ha b hb=>?_⟩
  grind
 .rcases rc.1 hy with hy|hy
  .exact h.2 y hy
  grind
theorem aaT{V:Nat}:∀(l pre:jp),sj V (pre++l)->dup V pre l=if((pre++l).length:Int)<V then 7 else 0
 |[],pre,_=>by simp[dup]|x::l,pre,h=>by
  have hx:=h.2 x atQ;have hn:pre.contains x=false:=by
   rw[List.contains_eq_mem];simp;intro hm;have:=h.1
   grind
  rw[dup,BT atO,BT (by grind),aaT l (pre++[x]) (by grind)];simp
theorem abq{V:Nat}{x:Int}{rest:jp}:∀(l pre:jp),sj V (pre++l)->dup V pre (l++x::rest)=dup V (pre++l) (x::rest)
 |[],pre,_=>by simp|y::l,pre,h=>by
  have hx:=h.2 y atQ;have hn:pre.contains y=false:=by
   rw[List.contains_eq_mem];simp;intro hm;have:=h.1
   grind
  show dup V pre (y::(l++x::rest))=_;rw[dup,BT atO,BT (by grind),abq l (pre++[y]) (by grind)];simp
def um(V:Nat)(pre:jp)(x:Int):Option Int:=if x<1\/(V:Int)<x then some 5 else if pre.contains x then some 6 else none
theorem ajT{r:Int}(h:sj V pre)(hp:pre++[x] <+: D)(hb:um V pre x=some r):dup V [] D=r:=by
 obtain⟨rest,rfl⟩:=hp;rw[bB,List.singleton_append,abq pre [] (by grind),UV,dup];unfold um at hb
 grind
theorem ve{B:Nat}(cs:β->Array Value):OwnFrom B (fun(s:β) W=>bg W g t (cs s)):=fun s W W' row hs hg hr=>hs.grown hg (fun e=>by obtain⟨_,o,ho,hc⟩:=hr g e.symm;have hs':W.heap[g]?=some (.cells (cs s) t (0,0)):=hs;rw[ho]at hs';injection hs' with hs';subst hs';cases hc)
theorem ai8{B:Nat}(p:β->Prop):OwnFrom B (fun(s:β) (_:World)=>p s):=fun _ _ _ _ hs _ _=>hs
theorem Zxz(V:Nat):madeCells #[Value.bool false] (V+1)=((nO V []).map Value.bool).toArray:=by apply asm.1;rw[toList_madeCells_one,amB];simp
theorem Zup{v:Nat}(h:v<=V):(((nO V pre).map Value.bool).toArray).setIfInBounds v (.bool true)=((nO V (pre++[(v:Int)])).map Value.bool).toArray:=by rw[<-anF h,ats,List.map_set]
theorem amA{v:Nat}(h:v<=V):(((nO V pre).map Value.bool).toArray)[v]?=some (.bool (pre.contains (v:Int))):=by simp only[Or,ct,JG h];rfl
abbrev jk(V:Int)(N:aT):Array Value:=#[.int .i64 V,.slice N.Ai N.al.length N.ci,.slice N.Al N.ag.length N.cl,.slice N.Ao N.aZ.length N.co,.slice N.Ab N.aN.length N.cb,.slice N.Ac N.constraints.length N.cc,.slice N.Am N.ae.length N.cm,.slice N.An N.aj.length N.cn]
theorem am0(N:aT)(V:Nat)(w:World)(hV:N.vars=(V:Int))(hV2:V<=2000)(hok:N.cY w w.heap.size)(ft:Fit N.d)(hD:(aX N.d).length<=1000000) :
  Calls Tryz.prog 173 #[N.v] w fun e w'=>e=.returned (.int .i64 (dup V [] (aX N.d)))/\Below w.heap.size w w':=by
 have HV:=Lib.hid hV;have HF:=Lib.hid ft;have HOK:=Lib.hid hok;clear ft hok;unfold aT.v aT.fs;rw[hV];clear hV;obtain⟨i0,hi0,hz0,hz1,hz2⟩:=info_parts amG;have hb:(i0.bytes:Int)*((V:Int)+1)<=281474976710656:=by rw[hz2];omega
 have hmk:=fun w:World=>run_make (P:=Tryz.prog) w 28 4 i0 (.bool false) Tryz.underlying28 hi0 hz0 .i64 .i64 ((V:Int)+1) ((V:Int)+1) atO (asQ _) hb atO;clear hi0 hz0 hz2 hb;have hv:∀n w,CallsIn Fence.wide n Tryz.prog 148 #[.agg (jk V N)] w fun e w'=>e=.returned (.func (.func 191) #[] #[.pointer (some ⟨w.heap.size,0,none⟩)])/\w'=w.alloc (.cells (jk V N) 27):=fun n w=>by have:=YM Fence.wide n trivial rfl N w;unfold aT.v aT.fs at this;rw[HV.out]at this;exact this
 have HVI:=Lib.hid hv;clear hv;refine(callsIn_wide (n:=3)).1 ?_;refine callsIn_of_wp_marks Tryz.func173 rfl trivial ?_ rfl;simp only[Tryz.ntmps173,atp,di,IT,Nat.reduceAdd,Nat.reduceSub,ata,atb,atq,atg,UV,arM];have hvf:Fence.wide.fn 148:=trivial
 gi_wp2_with (gi_at_call 148;refine(HVI.out _ _).mono ?_;rintro e w' ⟨rfl,rfl⟩)
 have hw0:Below w.heap.size w (((((w.alloc (.cells (jk V N) 27)).alloc (.cells #[.int .i64 0] 36)).alloc (.cells (madeCells #[Value.bool false] (V+1)) 4)).alloc (.cells #[.slice (some ⟨w.heap.size+1+1,0,none⟩) (V+1) (V+1)] 28)).alloc (.cells #[.int .i64 V] 3)):=(((((Below.refl _ w).alloc (rt _) _).alloc atQ _).alloc (by simp;omega) _).alloc (by simp;omega) _).alloc (by simp;omega) _;have hw1:=hw0.alloc (by simp;omega) (.cells (jk V N) 27);have b0:=((((bg.new w 27 (jk V N)).alloc (.cells #[.int .i64 0] 36)).alloc (.cells (madeCells #[Value.bool false] (V+1)) 4)).alloc (.cells #[.slice (some ⟨w.heap.size+1+1,0,none⟩) (V+1) (V+1)] 28)).alloc (.cells #[.int .i64 V] 3) |>.alloc (.cells (jk V N) 27);have b1:=(((bg.new (w.alloc (.cells (jk V N) 27)) 36 #[.int .i64 0]).alloc (.cells (madeCells #[Value.bool false] (V+1)) 4)).alloc (.cells #[.slice (some ⟨w.heap.size+1+1,0,none⟩) (V+1) (V+1)] 28)).alloc (.cells #[.int .i64 V] 3) |>.alloc (.cells (jk V N) 27);have b2:=((bg.new ((w.alloc (.cells (jk V N) 27)).alloc (.cells #[.int .i64 0] 36)) 4 (madeCells #[Value.bool false] (V+1))).alloc (.cells #[.slice (some ⟨w.heap.size+1+1,0,none⟩) (V+1) (V+1)] 28)).alloc (.cells #[.int .i64 V] 3) |>.alloc (.cells (jk V N) 27);have b3:=(bg.new (((w.alloc (.cells (jk V N) 27)).alloc (.cells #[.int .i64 0] 36)).alloc (.cells (madeCells #[Value.bool false] (V+1)) 4)) 28 #[.slice (some ⟨w.heap.size+1+1,0,none⟩) (V+1) (V+1)]).alloc (.cells #[.int .i64 V] 3) |>.alloc (.cells (jk V N) 27);have b4:=(bg.new ((((w.alloc (.cells (jk V N) 27)).alloc (.cells #[.int .i64 0] 36)).alloc (.cells (madeCells #[Value.bool false] (V+1)) 4)).alloc (.cells #[.slice (some ⟨w.heap.size+1+1,0,none⟩) (V+1) (V+1)] 28)) 3 #[.int .i64 V]).alloc (.cells (jk V N) 27);have b5:=bg.new (((((w.alloc (.cells (jk V N) 27)).alloc (.cells #[.int .i64 0] 36)).alloc (.cells (madeCells #[Value.bool false] (V+1)) 4)).alloc (.cells #[.slice (some ⟨w.heap.size+1+1,0,none⟩) (V+1) (V+1)] 28)).alloc (.cells #[.int .i64 V] 3)) 27 (jk V N);simp only[World.size_alloc]at b1 b2 b3 b4 b5;have hsz:((((((w.alloc (.cells (jk V N) 27)).alloc (.cells #[.int .i64 0] 36)).alloc (.cells (madeCells #[Value.bool false] (V+1)) 4)).alloc (.cells #[.slice (some ⟨w.heap.size+1+1,0,none⟩) (V+1) (V+1)] 28)).alloc (.cells #[.int .i64 V] 3)).alloc (.cells (jk V N) 27)).heap.size=w.heap.size+6:=atQ
 generalize (((((w.alloc (.cells (jk V N) 27)).alloc (.cells #[.int .i64 0] 36)).alloc (.cells (madeCells #[Value.bool false] (V+1)) 4)).alloc (.cells #[.slice (some ⟨w.heap.size+1+1,0,none⟩) (V+1) (V+1)] 28)).alloc (.cells #[.int .i64 V] 3)).alloc (.cells (jk V N) 27)=W0 at hw1 b0 b1 b2 b3 b4 b5 hsz |-;clear hw0 hmk hz1;rw[Zxz]at b2;have hfs:N.fs=(jk V N):=by unfold aT.fs;rw[HV.out]
 refine wpIn_rangeFunc_ownF rfl atO (gf:=191) (lb:=#[.pointer (some ⟨w.heap.size+1+1+1+1+1,0,none⟩)]) rfl trivial (enters_of Tryz.func191 atP rfl)
  (ana Fence.wide 2 trivial rfl atO (w.heap.size+1+1+1+1+1) w.heap.size (w.heap.size+1+1+1+1+1) N W0 (by rw[hfs];exact b5) (rt _) (HOK.out.below hw1) atO HF.out) iT.trans (al5 atO) (Below.refl _ _) (fun _=>rfl)
  (fun pre W=>(sj V pre/\bg W w.heap.size 27 (jk V N)/\bg W (w.heap.size+1) 36 #[.int .i64 0]/\bg W (w.heap.size+1+1) 4 ((nO V pre).map Value.bool).toArray/\bg W (w.heap.size+1+1+1) 28 #[.slice (some ⟨w.heap.size+1+1,0,none⟩) (V+1) (V+1)]/\bg W (w.heap.size+1+1+1+1) 3 #[.int .i64 ((V:Int)-pre.length)])/\Below w.heap.size w W)
  (fun c pre W=>(∃pre' x r,(c=.ret/\pre=pre'++[x]/\sj V pre'/\um V pre' x=some r)/\bg W (w.heap.size+1) 36 #[.int .i64 r])/\Below w.heap.size w W)
  (OwnFrom.and (OwnFrom.and (ai8 _) (OwnFrom.and (ve _) (OwnFrom.and (ve _) (OwnFrom.and (ve _) (OwnFrom.and (ve _) (ve _)))))) (ownFrom_below (rt _) atO))
  (fun c=>OwnFrom.and (fun s W W' row hs hg hr=>by obtain⟨pre',x,r,h1,h2⟩:=hs;exact⟨pre',x,r,h1,ve (β:=Unit) (fun _=>#[.int .i64 r]) () W W' row h2 hg hr⟩) (ownFrom_below (rt _) atO))
  ⟨⟨⟨aty,atQ⟩,b0,b1,b2,b3,by simpa using b4⟩,hw1⟩
  (fun x=>{ tmps:=#[.agg (jk V N),.pointer (some ⟨w.heap.size,0,none⟩),.pointer (some ⟨w.heap.size+1,0,none⟩),.pointer (some ⟨w.heap.size+1+1+1,0,none⟩),.pointer (some ⟨w.heap.size+1+1+1+1,0,none⟩),.int .i64 x,.pointer (some ⟨w.heap.size,0,none⟩),.int .i64 V,.int .i64 ((V:Int)+1),.slice (some ⟨w.heap.size+1+1,0,none⟩) (V+1) (V+1),.pointer (some ⟨w.heap.size,0,none⟩),.int .i64 V,.agg (jk V N),.func (.func 191) #[] #[.pointer (some ⟨w.heap.size+1+1+1+1+1,0,none⟩)],.int .i64 x,undef,undef,undef,undef,undef,undef,undef,undef,undef,undef,undef,undef,undef,undef,undef,undef,undef,undef,undef,undef,undef],defers:=[] }) ?assign ?body ?done ?stop
 case assign=>
  intro l x W K hK
  gi_wp2
  exact hK
 case body=>
  rintro l pre x W ⟨⟨hfn,c0,c1,c2,c3,c4⟩,hB⟩ hlen;clear b0 b1 b2 b3 b4 b5 hw1 HOK HF HVI hfs;have hc0:=c0.cell 0;have hc1:=c1.cell 0;have hf1:=c1.frozen 0;have hc3:=c3.cell 0;have hc4:=c4.cell 0;have hf4:=c4.frozen 0;simp only[Or,Fd]at hc0 hc1 hc3 hc4;by_cases hbad:x<1\/(V:Int)<x
  .have hbo:um V pre x=some 5:=by unfold um;rw[IO hbad]
   have HBO:=Lib.hid hbo;have HFN:=Lib.hid hfn;clear hbo hfn c0 c2 c3 c4;rcases(show x<1\/(¬x<1/\(V:Int)<x)from by omega)with h1|⟨h1,h2⟩
   all_goals
    gi_wp2
    exact⟨KeepsOthers.setCell _ _ _,⟨pre,x,5,⟨rfl,rfl,HFN.out,HBO.out⟩,c1.ia 0 _⟩,hB.setCell (p:=⟨w.heap.size+1,0,none⟩) atQ _⟩
  .obtain⟨v,rfl⟩:=BY (show 0<=x by omega);have h1:¬((v:Int)<1):=atO
   have h2:¬((V:Int)<v):=atO
   have h3:v<=V:=atO
   have hcs:=(c2.cell v).trans (amA h3);have hfs:=c2.frozen v;rcases hct:pre.contains (v:Int)with _|_
   .rw[hct]at hcs;have HFN:=Lib.hid (hfn.snoc atO atO hct);have hlen2:pre.length<=1000000:=atO
    clear hct hfn hbad
    gi_wp2
    refine⟨(KeepsOthers.setCell _ _ _).trans (KeepsOthers.setCell _ _ _),((iT.refl _ _ _).setCell (p:=⟨w.heap.size+1+1,v,none⟩) (by simp;omega) atQ _).setCell (p:=⟨w.heap.size+1+1+1+1,0,none⟩) (by simp;omega) atQ _,⟨HFN.out,?_,?_,?_,?_,?_⟩,(hB.setCell (p:=⟨w.heap.size+1+1,v,none⟩) (by simp;omega) _).setCell (p:=⟨w.heap.size+1+1+1+1,0,none⟩) (by simp;omega) _⟩
    .exact(c0.eK (p:=⟨w.heap.size+1+1,v,none⟩) (by simp;omega) _).eK (by simp;omega) _
    .exact(c1.eK (p:=⟨w.heap.size+1+1,v,none⟩) atQ _).eK (by simp<;>omega) _
    .have:=(c2.ia v (.bool true)).eK (p:=⟨w.heap.size+1+1+1+1,0,none⟩) (by simp<;>omega) (.int .i64 ((V:Int)-pre.length-1));rw[Zup h3]at this;exact this
    .exact(c3.eK (p:=⟨w.heap.size+1+1,v,none⟩) atQ _).eK atQ _
    .have:=(c4.eK (p:=⟨w.heap.size+1+1,v,none⟩) (by simp;omega) (.bool true)).ia 0 (.int .i64 ((V:Int)-pre.length-1));rw[show(V:Int)-((pre++[(v:Int)]).length:Nat)=(V:Int)-pre.length-1 by simp;omega];exact this
   .have hbo:um V pre v=some 6:=by unfold um;rw[BT hbad,IO hct]
    rw[hct]at hcs;have HBO:=Lib.hid hbo;have HFN:=Lib.hid hfn;clear hbo hfn hct c0 c2 c3 c4 hbad
    gi_wp2
    exact⟨KeepsOthers.setCell _ _ _,⟨pre,v,6,⟨rfl,rfl,HFN.out,HBO.out⟩,c1.ia 0 _⟩,hB.setCell (p:=⟨w.heap.size+1,0,none⟩) atQ _⟩
 case done=>
  rintro D ys W hD2 hys ⟨⟨hfn,c0,c1,c2,c3,c4⟩,hB⟩ hK;have hdu:=aaT ys [] (by simpa using hfn);rw[hys]at hdu;have hyl:ys.length<=1000000:=by rw[hys];exact hD
  have hyl2:(aX N.d).length=ys.length:=by rw[hys]
  rw[UV,hyl2]at hdu;have HDU:=Lib.hid hdu;have hc1:=c1.cell 0;have hf1:=c1.frozen 0;have hc4:=c4.cell 0;simp only[Or,Fd]at hc1 hc4;clear b0 b1 b2 b3 b4 b5 hw1 HOK HF HVI hfs hdu hyl2 hys hfn c0 c2 c3 c4;by_cases hlt:(0:Int)<(V:Int)-ys.length
  .gi_wp2
   have hK':=(KeepsOthers.setCell W ⟨w.heap.size+1,0,none⟩ (.int .i64 7)).same D _ hK rfl;refine⟨atQ,.inl ⟨_,_,rfl,run_takeDeferred hK',?_⟩⟩;have hc5:=cell_kept (World.cell?_setCell_same' W ⟨w.heap.size+1,0,none⟩ (.int .i64 7) (by rw[hc1];rfl)) (grownBy_putObj' _ D (.deferred none)) (fun r e=>by cases e;exact⟨_,hK',rfl⟩);refine⟨.int .i64 7,?_,by rw[HDU.out,IO atO],(hB.setCell (p:=⟨w.heap.size+1,0,none⟩) atQ _).trans (belowK_b (w:=w) (rt _) _ D _ _ atO hK' rfl rfl)⟩;simp[results,Tryz.f173,go_sem,hc5]
  .gi_wp2
   have hK':=(KeepsOthers.setCell W ⟨w.heap.size+1,0,none⟩ (.int .i64 0)).same D _ hK rfl;refine⟨atQ,.inl ⟨_,_,rfl,run_takeDeferred hK',?_⟩⟩;have hc5:=cell_kept (World.cell?_setCell_same' W ⟨w.heap.size+1,0,none⟩ (.int .i64 0) (by rw[hc1];rfl)) (grownBy_putObj' _ D (.deferred none)) (fun r e=>by cases e;exact⟨_,hK',rfl⟩);refine⟨.int .i64 0,?_,by rw[HDU.out,BT atO],(hB.setCell (p:=⟨w.heap.size+1,0,none⟩) atQ _).trans (belowK_b (w:=w) (rt _) _ D _ _ atO hK' rfl rfl)⟩;simp[results,Tryz.f173,go_sem,hc5]
 case stop=>
  rintro D c pre W hD2 hpre ⟨⟨pre',x,r,⟨rfl,rfl,hfn,hbo⟩,c1⟩,hB⟩ hK;have HDU:=Lib.hid (ajT hfn hpre hbo);have hc1:=c1.cell 0;simp only[Or,Fd]at hc1;clear b0 b1 b2 b3 b4 b5 hw1 HOK HF HVI hfs hfn hpre hbo
  gi_wp2
  refine⟨atQ,.inl ⟨_,_,rfl,run_takeDeferred hK,?_⟩⟩;have hc5:=cell_kept hc1 (grownBy_putObj' _ D (.deferred none)) (fun r e=>by cases e;exact⟨_,hK,rfl⟩);refine⟨.int .i64 r,?_,by rw[HDU.out],hB.trans (belowK_b (w:=w) (rt _) W D _ _ atO hK rfl rfl)⟩;simp[results,Tryz.f173,go_sem,hc5]
structure kM(base g:Nat)(w w':World):Prop where
 below:Below base w w'
 box:∀(c:Nat) (t:TypeId) (cs:Array Value),bg w c t cs->t≠3->c≠g->bg w' c t cs
theorem kM.refl(base g:Nat)(w:World):kM base g w w:=⟨Below.refl _ _,fun _ _ _ h _ _=>h⟩
variable{a:World}
theorem kM.trans{b c:World}(h:kM base g a b)(k:kM base g b c):kM base g a c:=⟨h.below.trans k.below,fun x t cs hb ht hg=>k.box x t cs (h.box x t cs hb ht hg) ht hg⟩
theorem kM.alloc{b:World}(h:kM base g a b)(hb:base<=b.heap.size)(o:Obj):kM base g a (b.alloc o):=⟨h.below.alloc hb o,fun x t cs hB ht hg=>(h.box x t cs hB ht hg).alloc o⟩
def Acc(w:World)(base g:Nat)(xs:jp):Prop:=∃v,bg w g 22 #[v]/\w.ownsRow base 3 1 v xs.length (ints xs)
theorem Acc.alloc{w:World}{xs:jp}(h:Acc w base g xs)(o:Obj):Acc (w.alloc o) base g xs:=by obtain⟨v,h1,h2⟩:=h;exact⟨v,h1.alloc o,h2.alloc o⟩
theorem Zzn(l:jp):∀u∈ints l,u.oneCell'=true:=by intro u hu;obtain⟨x,_,rfl⟩:=ro.1 hu;rfl
def OB(base g:Nat)(xs:jp)(w:World)(e:Ending)(w':World):Prop:=e=.returned (.tuple #[])/\Acc w' base g xs/\kM base g w w'
theorem tp(base g:Nat)(xs:jp)(A:pm)(c:Nat)(l:jp)(w:World)(hacc:Acc w base g xs)(hS:Sl w w.heap.size 1 A l.length c (ints l))(hlen:xs.length+l.length<=1000000)(hbase:base<=g) :
  Calls Tryz.prog 206 #[.slice A l.length c,.pointer (some ⟨g,0,none⟩)] w (OB base g (xs++l) w):=by
 obtain⟨v,hb,hown⟩:=hacc;have hc0:w.cell? ⟨g,0,none⟩=some v:=hb.cell 0;have hgl:=hb.lt;have hne:=AE hown hb atS;obtain⟨Av,cv,rfl,hv1,hv2,_⟩:=AH hown;obtain⟨i0,hi0,hz0,hz1,hz2⟩:=info_parts EY;have HNE:=Lib.hid hne;have HB:=Lib.hid hb;clear hne hb
 go_enter Tryz.func206,Tryz.ntmps206
 go_wp2_with (at_builtin;refine uW _ rfl _ _ 22 rfl base 3 i0 (.int .i64 0) 1 8 Tryz.underlying22 hi0 hz0 hz1 hz2 rfl atS _ _ _ rfl hown w.heap.size A l.length c (ints l) rfl hS.1 (Zzn l) (by unfold maxLen;omega) atO atO ?_;intro v' w1 hown' hg' hbb;obtain⟨A1,c1,rfl,h11,h12,_⟩:=AH hown';have hb1:=HB.out.grown hg' (fun e=>HNE.out e.symm);have hc1:=hb1.cell 0;have hf1:=hb1.frozen 0;simp only[Or,Fd]at hc1)
 refine bodyPost_end (results_none rfl _ _ _) rfl ?_;have hne':Value.ownBlock (.slice A1 (xs.length+l.length) c1)≠some g:=AE hown' hb1 atS;have hB1:Below base w w1:=by refine⟨hg'.os,hg'.tape,hg'.output,hg'.size,fun i hi=>hg'.block i atO ?_⟩;intro e;have:=(hown.lt i e.symm).1;omega
 refine⟨rfl,⟨_,hb1.ia 0 _,?_⟩,⟨hB1.setCell (p:=⟨g,0,none⟩) hbase _,fun x t cs hB ht hg=>?_⟩⟩
 .have e1:(xs++l).length=xs.length+l.length:=atQ
  have e2:ints (xs++l)=ints xs++ints l:=by simp[ints]
  rw[e1,e2];exact ownsRow_setCell_other hown' (a:=⟨g,0,none⟩) hne' _
 .have h1:=hB.grown hg' (fun e=>AE hown hB (fun e=>ht e.symm) e.symm);exact h1.eK (p:=⟨g,0,none⟩) hg _
/- the literals in their order, as eK as they have come -/
def pQ(m:aL):jp:=m.reads.flatMap (·.addr)++m.writes.flatMap fun x=>x.on::(x.addr++x.data)
theorem ake(m:aL):fi m.d=pQ m:=by unfold fi pQ aL.d;rw[asn,asn];rfl
def k1(N:aT)(k:Nat):jp:=(N.ag.take k).map (·.next)
def k2(N:aT)(k:Nat):jp:=N.ag.map (·.next)++N.aZ++N.aN++N.constraints++(N.ae.take k).flatMap pQ
def k3(N:aT)(k:Nat)(m:aL)(j:Nat):jp:=k2 N k++(m.reads.take j).flatMap (·.addr)
def k4(N:aT)(k:Nat)(m:aL)(j:Nat):jp:=k2 N k++m.reads.flatMap (·.addr)++(m.writes.take j).flatMap fun x=>x.on::(x.addr++x.data)
def k5(N:aT)(k:Nat):jp:=N.ag.map (·.next)++N.aZ++N.aN++N.constraints++N.ae.flatMap pQ++(N.aj.take k).flatMap js
theorem Jw(N:aT):bJ N.d=N.ag.map (·.next)++N.aZ++N.aN++N.constraints++N.ae.flatMap pQ++N.aj.flatMap js:=by unfold bJ aT.d;simp only;rw[asn];congr 2;exact PP (fun f=>N.ae.flatMap f) (funext ake)
section
variable{N:aT}{k j:Nat}
theorem aau{x:dJ}(h:N.ag[k]?=some x):k1 N (k+1)=k1 N k++[x.next]:=by unfold k1;rw[eE h];simp
theorem alb:k1 N k <+: bJ N.d:=by rw[Jw];simp only[bB];exact(List.IsPrefix.map _ (List.take_prefix _ _)).trans (asB _ _)
theorem ZV(hk:N.ag.length<=k):k1 N k++N.aZ++N.aN++N.constraints=k2 N 0:=by unfold k1 k2;rw[If hk];simp
theorem abh:k2 N k <+: bJ N.d:=by
 rw[Jw];refine asE ?_ (asB _ _);refine rA ?_;have h:=asB ((N.ae.take k).flatMap pQ) ((N.ae.drop k).flatMap pQ)
 rwa [<-OF,LT]at h
theorem anS:k3 N k m 0=k2 N k:=by simp[k3]
theorem Zzz(h:m.reads[j]?=some r):k3 N k m (j+1)=k3 N k m j++r.addr:=by unfold k3;rw[xe _ h,bB]
theorem anT(hj:m.reads.length<=j):k3 N k m j=k4 N k m 0:=by unfold k3 k4;rw[If hj];simp
theorem Zzy{r:bL}(h:m.writes[j]?=some r):k4 N k m (j+1)=k4 N k m j++[r.on]++r.addr++r.data:=by unfold k4;rw[xe _ h];simp
theorem abg(h:N.ae[k]?=some m):k2 N (k+1)=k2 N k++pQ m:=by unfold k2;rw[xe _ h];simp
theorem anR(h:N.ae[k]?=some m)(hj:m.writes.length<=j):k4 N k m j=k2 N (k+1):=by rw[abg h];unfold k4 pQ;rw[If hj];simp
theorem abf(h:N.ae[k]?=some m):k4 N k m j <+: bJ N.d:=by
 refine asE ?_ (abh (k:=k+1));rw[abg h];unfold k4 pQ;rw[bB];refine rA (rA ?_);have h:=asB ((m.writes.take j).flatMap fun x:bL=>x.on::(x.addr++x.data)) ((m.writes.drop j).flatMap fun x=>x.on::(x.addr++x.data))
 rwa [<-OF,LT]at h
theorem alc(h:N.ae[k]?=some m):k3 N k m j <+: bJ N.d:=by
 refine asE ?_ (abf (j:=0) h);unfold k3 k4;have h:=asB ((m.reads.take j).flatMap (·.addr)) ((m.reads.drop j).flatMap (·.addr));rw[<-OF,LT]at h
 simp_all
theorem anU(hk:N.ae.length<=k):k2 N k=k5 N 0:=by unfold k2 k5;rw[If hk];simp
theorem Zzx{x:dU}(h:N.aj[k]?=some x):k5 N (k+1)=k5 N k++[x.a,x.b]:=by unfold k5;rw[xe _ h];simp[js]
theorem anQ(hk:N.aj.length<=k):k5 N k=bJ N.d:=by rw[Jw];unfold k5;rw[If hk]
theorem ald:k5 N k <+: bJ N.d:=by
 rw[Jw];unfold k5;refine rA ?_;have h:=asB ((N.aj.take k).flatMap js) ((N.aj.drop k).flatMap js)
 rwa [<-OF,LT]at h
end
theorem aa5(W:World)(l:jp)(hl:l.length<=1000):Sl (W.alloc (.cells (ints l).toArray 3)) (W.alloc (.cells (ints l).toArray 3)).heap.size 1 (some ⟨W.heap.size,0,none⟩) l.length l.length (ints l):=by
 have h:=(bg.new W 3 (ints l).toArray).reads;have e:(ints l).length=l.length:=by simp[ints]
 rw[e]at h;exact⟨h,rt _,GT _⟩
theorem AD{a:jp}{n:Nat}(h:a <+: D)(hD:D.length<=n):a.length<=n:=by grind
theorem kM.oF{W1 wr:World}{N:aT}(h:kM base (base+1) W1 wr)(hb:bg W1 base 27 N.fs):bg wr base 27 N.fs:=h.box _ _ _ hb atS atO
theorem aaD(base g:Nat)(xs:jp)(x:Int)(W:World)(s:Nat)(hs:s=W.heap.size)(hacc:Acc W base g xs)(hlen:xs.length+1<=1000000)(hbase:base<=g) :
  Calls Tryz.prog 206 #[.slice (some ⟨s,0,none⟩) 1 1,.pointer (some ⟨g,0,none⟩)] (W.alloc (.cells #[.int .i64 x] 3)) (OB base g (xs++[x]) (W.alloc (.cells #[.int .i64 x] 3))):=by
 subst hs;exact tp base g xs (some ⟨W.heap.size,0,none⟩) 1 [x] (W.alloc (.cells #[.int .i64 x] 3)) (hacc.alloc _) (aa5 W [x] atQ) (by simpa using hlen) hbase
theorem aja(base g:Nat)(xs:jp)(x y:Int)(W:World)(s:Nat)(hs:s=W.heap.size)(hacc:Acc W base g xs)(hlen:xs.length+2<=1000000)(hbase:base<=g) :
  Calls Tryz.prog 206 #[.slice (some ⟨s,0,none⟩) 2 2,.pointer (some ⟨g,0,none⟩)] (W.alloc (.cells #[.int .i64 x,.int .i64 y] 3)) (OB base g (xs++[x,y]) (W.alloc (.cells #[.int .i64 x,.int .i64 y] 3))):=by
 subst hs;exact tp base g xs (some ⟨W.heap.size,0,none⟩) 2 [x,y] (W.alloc (.cells #[.int .i64 x,.int .i64 y] 3)) (hacc.alloc _) (aa5 W [x,y] atQ) (by simpa using hlen) hbase
theorem amE(N:aT)(w:World)(hok:N.cY w w.heap.size)(ft:Fit N.d)(hD:(bJ N.d).length<=1000000) :
  Calls Tryz.prog 174 #[N.v] w (vc 3 w (ints (bJ N.d))):=by
 have hl2:N.ag.length<=4000:=ft.aJ.1;have hl3:N.aj.length<=4000:=ft.aj.1;have hl4:N.ae.length<=100:=by have:=ft.ae.1;simpa[aT.d]using this
 have HMF:=Lib.hid (ft.ae.2);have HD:=Lib.hid hD;clear ft hD;obtain⟨base,hbase⟩:∃base,base=w.heap.size:=⟨_,rfl⟩;have hb0:bg ((w.alloc (.cells N.fs 27)).alloc (.cells #[.slice none 0 0] 22)) base 27 N.fs:=by rw[hbase];exact(bg.new w 27 N.fs).alloc _
 have hb1:bg ((w.alloc (.cells N.fs 27)).alloc (.cells #[.slice none 0 0] 22)) (base+1) 22 #[.slice none 0 0]:=by have:=bg.new (w.alloc (.cells N.fs 27)) 22 #[.slice none 0 0];rw[World.size_alloc]at this;rw[hbase];exact this
 have hB:Below base w ((w.alloc (.cells N.fs 27)).alloc (.cells #[.slice none 0 0] 22)):=by rw[hbase];exact((Below.refl _ w).alloc (rt _) _).alloc atQ _
 have hsz:((w.alloc (.cells N.fs 27)).alloc (.cells #[.slice none 0 0] 22)).heap.size=base+2:=by rw[hbase];simp
 have hacc:Acc ((w.alloc (.cells N.fs 27)).alloc (.cells #[.slice none 0 0] 22)) base (base+1) (k1 N 0):=⟨_,hb1,by simp[k1,ints];exact World.ownsRow_nil _ _ _ _⟩;have hok2:N.cY ((w.alloc (.cells N.fs 27)).alloc (.cells #[.slice none 0 0] 22)) base:=by rw[<-hbase]at hok;exact hok.below hB
 have HOK:=Lib.hid hok2;have HBE:=Lib.hid hB;clear hok hok2 hb1 hB;unfold aT.v
 go_enter Tryz.func174,Tryz.ntmps174
 unfold aT.fs
 go_wp2_with fail
 rw[<-hbase];change Code.wp _ _ _ _ ((w.alloc (.cells N.fs 27)).alloc (.cells #[.slice none 0 0] 22));generalize (w.alloc (.cells N.fs 27)).alloc (.cells #[.slice none 0 0] 22)=W1 at hb0 hacc hsz HOK HBE |-;have HB0:=Lib.hid hb0;have HSZ:=Lib.hid hsz;have HBA:=Lib.hid hbase;clear hb0 hsz hbase
 go_loopw [18] (fun i wr=>∃k:Nat,k<=N.ag.length/\i=.int .i64 k/\Acc wr base (base+1) (k1 N k)/\kM base (base+1) W1 wr) (fun i _=>N.ag.length-(intOf i).toNat)
 case atStart=>exact⟨0,GT _,rfl,hacc,kM.refl _ _ _⟩
 case round=>
  clear hacc;obtain⟨k,hk,rfl,hacc,hpf⟩:=hrel;have hsz:base+2<=wr.heap.size:=by have:=hpf.below.size;have:=HSZ.out;omega
  by_cases hlt:k<N.ag.length
  .obtain⟨b,off,x,e1,hb,hx,hm,hcs⟩:=(HOK.out.below hpf.below).aJ.elem atO (fun _=>rfl) hlt;obtain⟨hc0,hc1,hc2⟩:=dJ.at_ hcs;have hp:=AD (alb (k:=k+1)) HD.out;rw[aau hx]at hp;have HX:=Lib.hid hx;clear hx hm hcs;rw[e1];clear e1;simp only[bU,di,IT]at hp
   go_wp2_with fail
   refine(aaD base (base+1) (k1 N k) x.next _ _ atQ (hacc.alloc _) atO atO).mono ?_;rintro e w2 ⟨rfl,hacc2,hpf2⟩;rw[<-aau HX.out]at hacc2
   go_wp2_with fail
   go_roundw
   case rel=>exact⟨k+1,atO,by go_num,hacc2,((hpf.alloc atO _).alloc (by simp;omega) _).trans hpf2⟩
   case measure=>simp[intOf];omega
  .have hf3:wr.cell? ⟨base,3,none⟩=some (.slice N.Ao N.aZ.length N.co):=(hpf.oF HB0.out).cell 3;have hp:=AD (abh (k:=0)) HD.out;rw[<-ZV (show N.ag.length<=k by omega)]at hp;simp only[bU]at hp
   go_wp2_with fail
   refine(tp base (base+1) (k1 N k) N.Ao N.co N.aZ _ hacc ((HOK.out.below hpf.below).out.more atO) atO atO).mono ?_;rintro e w2 ⟨rfl,hacc2,hpf2⟩;have hpf3:=hpf.trans hpf2;have hs3:=hpf2.below.size;have hf4:w2.cell? ⟨base,4,none⟩=some (.slice N.Ab N.aN.length N.cb):=(hpf3.oF HB0.out).cell 4;clear hacc hpf hpf2 hf3
   go_wp2_with fail
   refine(tp base (base+1) _ N.Ab N.cb N.aN _ hacc2 ((HOK.out.below hpf3.below).bad.more atO) (by simp;omega) atO).mono ?_;rintro e w3 ⟨rfl,hacc3,hpf4⟩;have hpf5:=hpf3.trans hpf4;have hs5:=hpf4.below.size;have hf5:w3.cell? ⟨base,5,none⟩=some (.slice N.Ac N.constraints.length N.cc):=(hpf5.oF HB0.out).cell 5;clear hacc2 hpf3 hpf4 hf4
   go_wp2_with fail
   refine(tp base (base+1) _ N.Ac N.cc N.constraints _ hacc3 ((HOK.out.below hpf5.below).gG.more atO) (by simp;omega) atO).mono ?_;rintro e w4 ⟨rfl,hacc4,hpf6⟩;have hpf7:=hpf5.trans hpf6;have hf6:w4.cell? ⟨base,6,none⟩=some (.slice N.Am N.ae.length N.cm):=(hpf7.oF HB0.out).cell 6;rw[ZV atO]at hacc4;clear hacc3 hpf5 hpf6 hf5 hs3 hs5 hsz hlt hp hk
   go_wp2_with fail
   go_loopw [43] (fun i wr=>∃k:Nat,k<=N.ae.length/\i=.int .i64 k/\Acc wr base (base+1) (k2 N k)/\kM base (base+1) W1 wr) (fun i _=>N.ae.length-(intOf i).toNat)
   case atStart=>exact⟨0,GT _,rfl,hacc4,hpf7⟩
   case round=>
    clear hacc4 hpf7 hf6;obtain⟨k,hk,rfl,hacc,hpf⟩:=hrel;have hsz:base+2<=wr.heap.size:=by have:=hpf.below.size;have:=HSZ.out;omega
    by_cases hlt:k<N.ae.length
    .obtain⟨b,off,m,e1,hb,hx,hm,hcs⟩:=(HOK.out.below hpf.below).mem.elem atO (fun _=>rfl) hlt;obtain⟨hc0,hc1,hc2,hc3,hc4⟩:=aL.at_ hcs;have HX:=Lib.hid hx;have HM:=Lib.hid (HOK.out.kZ m hm);have hfm:=HMF.out m.d (AI hm);have hrn:m.reads.length<=100:=by have:=hfm.nH;simpa[aL.d]using this
     have hwn:m.writes.length<=100:=by have:=hfm.tI;simpa[aL.d]using this
     clear hx hm hcs hfm;rw[e1];clear e1
     go_wp2_with fail
     obtain⟨c,hc⟩:∃c,c=wr.heap.size:=⟨_,rfl⟩;have hpf2:=hpf.alloc (show base<=wr.heap.size by omega) (.cells m.cells.toArray 97);have hacc2:=hacc.alloc (.cells m.cells.toArray 97);have hbk:=bg.new wr 97 m.cells.toArray;have hcB:base+2<=c:=atO
     rw[<-hc]at hbk |-;rw[<-anS (m:=m)]at hacc2;clear hc hacc hpf hc0 hc1 hc2 hc3 hc4;change Code.wp _ _ _ _ (wr.alloc (.cells m.cells.toArray 97));obtain⟨w3,hw3⟩:∃w3:World,w3=wr.alloc (.cells m.cells.toArray 97):=⟨_,rfl⟩;rw[<-hw3]at hpf2 hacc2 hbk |-;clear hw3 hsz
     go_loopw [50] (fun i wr=>∃j:Nat,j<=m.reads.length/\i=.int .i64 j/\Acc wr base (base+1) (k3 N k m j)/\kM base (base+1) W1 wr/\bg wr c 97 m.cells.toArray) (fun i _=>m.reads.length-(intOf i).toNat)
     case atStart=>exact⟨0,GT _,rfl,hacc2,hpf2,hbk⟩
     case round=>
      clear hacc2 hpf2 hbk;obtain⟨j,hj,rfl,hacc,hpf,hbk⟩:=hrel;have hsz:base+2<=wr.heap.size:=by have:=hpf.below.size;have:=HSZ.out;omega
      by_cases hlt2:j<m.reads.length
      .obtain⟨b2,off2,r,e1,hb2,hx2,hm2,hcs⟩:=(HM.out.below hpf.below).rd.elem atO (fun _=>rfl) hlt2;obtain⟨hc0,hc1⟩:=bF.at_ hcs;have HX2:=Lib.hid hx2;have HR:=Lib.hid (HM.out.ig r hm2);have hp:=AD (alc (j:=j+1) HX.out) HD.out;rw[Zzz hx2]at hp;simp only[bU]at hp;clear hx2 hm2 hcs;rw[e1];clear e1
       go_wp2_with fail
       refine(tp base (base+1) (k3 N k m j) r.A r.c r.addr _ (hacc.alloc _) (Sl.more (HR.out.below (hpf.alloc atO _).below) (by simp;omega)) atO atO).mono ?_;rintro e w2 ⟨rfl,hacc2,hpf2⟩;rw[<-Zzz HX2.out]at hacc2
       go_wp2_with fail
       go_roundw
       case rel=>exact⟨j+1,atO,by go_num,hacc2,(hpf.alloc atO _).trans hpf2,hpf2.box _ _ _ (hbk.alloc _) atS atO⟩
       case measure=>simp[intOf];omega
      .rw[anT atO]at hacc;have hcw:wr.cell? ⟨c,4,none⟩=some (.slice m.A2 m.writes.length m.c2):=hbk.cell 4
       go_wp2_with fail
       obtain⟨w5,rfl⟩:∃w5:World,w5=wr:=⟨_,rfl⟩;clear hlt2 hj hsz hcw hbk
       go_loopw [62] (fun i wr=>∃j:Nat,j<=m.writes.length/\i=.int .i64 j/\Acc wr base (base+1) (k4 N k m j)/\kM base (base+1) W1 wr) (fun i _=>m.writes.length-(intOf i).toNat)
       case atStart=>exact⟨0,GT _,rfl,hacc,hpf⟩
       case round=>
        clear hacc hpf;obtain⟨j,hj,rfl,hacc,hpf⟩:=hrel;have hsz:base+2<=wr.heap.size:=by have:=hpf.below.size;have:=HSZ.out;omega
        by_cases hlt2:j<m.writes.length
        .obtain⟨b2,off2,r,e1,hb2,hx2,hm2,hcs⟩:=(HM.out.below hpf.below).wr.elem atO (fun _=>rfl) hlt2;obtain⟨hc0,hc1,hc2⟩:=bL.at_ hcs;have HX2:=Lib.hid hx2;have HR:=Lib.hid (HM.out.iX r hm2);have hp:=AD (abf (j:=j+1) HX.out) HD.out;rw[Zzy hx2]at hp;simp only[bU,di,IT]at hp;clear hx2 hm2 hcs;rw[e1];clear e1
         go_wp2_with fail
         refine(aaD base (base+1) (k4 N k m j) r.on _ _ atQ (hacc.alloc _) atO atO).mono ?_;rintro e w2 ⟨rfl,hacc2,hpf2⟩;obtain⟨d,hd⟩:∃d,d=wr.heap.size:=⟨_,rfl⟩;have hbk:=hpf2.box _ _ _ ((bg.new wr 174 r.cells.toArray).alloc _) atS atO;rw[<-hd]at hbk;have hd1:w2.cell? ⟨d,1,none⟩=some (.slice r.A r.addr.length r.c):=hbk.cell 1;have hpf3:=((hpf.alloc atO _).alloc (by simp;omega) _).trans hpf2;have hs2:base+2<=w2.heap.size:=by have:=hpf3.below.size;have:=HSZ.out;omega
         have hdB:base+2<=d:=atO
         rw[<-hd];clear hd hacc hpf hpf2 hc0 hc1 hc2
         go_wp2_with fail
         refine(tp base (base+1) _ r.A r.c r.addr _ hacc2 ((HR.out.1.below hpf3.below).more atO) (by simp;omega) atO).mono ?_;rintro e w4 ⟨rfl,hacc3,hpf4⟩;have hbk2:=hpf4.box _ _ _ hbk atS atO;have hd2:w4.cell? ⟨d,2,none⟩=some (.slice r.A2 r.data.length r.c2):=hbk2.cell 2;have hpf5:=hpf3.trans hpf4;have hs4:base+2<=w4.heap.size:=by have:=hpf5.below.size;have:=HSZ.out;omega
         clear hacc2 hpf3 hpf4 hd1 hbk hbk2
         go_wp2_with fail
         refine(tp base (base+1) _ r.A2 r.c2 r.data _ hacc3 ((HR.out.2.below hpf5.below).more atO) (by simp;omega) atO).mono ?_;rintro e w6 ⟨rfl,hacc4,hpf6⟩;rw[<-Zzy HX2.out]at hacc4
         go_wp2_with fail
         go_roundw
         case rel=>exact⟨j+1,atO,by go_num,hacc4,hpf5.trans hpf6⟩
         case measure=>simp[intOf];omega
        .rw[anR HX.out atO]at hacc
         go_wp2_with fail
         go_roundw
         case rel=>exact⟨k+1,atO,by go_num,hacc,hpf⟩
         case measure=>simp[intOf];omega
    .rw[anU atO]at hacc;have hf7:wr.cell? ⟨base,7,none⟩=some (.slice N.An N.aj.length N.cn):=(hpf.oF HB0.out).cell 7
     go_wp2_with fail
     obtain⟨w5,rfl⟩:∃w5:World,w5=wr:=⟨_,rfl⟩;clear hlt hk hsz hf7
     go_loopw [84] (fun i wr=>∃k:Nat,k<=N.aj.length/\i=.int .i64 k/\Acc wr base (base+1) (k5 N k)/\kM base (base+1) W1 wr) (fun i _=>N.aj.length-(intOf i).toNat)
     case atStart=>exact⟨0,GT _,rfl,hacc,hpf⟩
     case round=>
      clear hacc hpf;obtain⟨k,hk,rfl,hacc,hpf⟩:=hrel;have hsz:base+2<=wr.heap.size:=by have:=hpf.below.size;have:=HSZ.out;omega
      by_cases hlt:k<N.aj.length
      .obtain⟨b,off,x,e1,hb,hx,hm,hcs⟩:=(HOK.out.below hpf.below).and.elem atO (fun _=>rfl) hlt;obtain⟨hc0,hc1,hc2⟩:=dU.at_ hcs;have hp:=AD (ald (k:=k+1)) HD.out;rw[Zzx hx]at hp;have HX:=Lib.hid hx;clear hx hm hcs;rw[e1];clear e1;simp only[bU,di,IT]at hp
       go_wp2_with fail
       refine(aja base (base+1) (k5 N k) x.a x.b _ _ atQ (hacc.alloc _) atO atO).mono ?_;rintro e w2 ⟨rfl,hacc2,hpf2⟩;rw[<-Zzx HX.out]at hacc2
       go_wp2_with fail
       go_roundw
       case rel=>exact⟨k+1,atO,by go_num,hacc2,((hpf.alloc atO _).alloc (by simp;omega) _).trans hpf2⟩
       case measure=>simp[intOf];omega
      .rw[anQ atO]at hacc;obtain⟨v,hv,hown⟩:=hacc;have hc:=hv.cell 0;have hf:=hv.frozen 0;simp only[Or,Fd]at hc;obtain⟨Av,cv,rfl,hv1,hv2,_⟩:=AH hown;have hne:=AE hown hv atS;have hc':=(hv.ia 0 (.slice Av (bJ N.d).length cv)).cell 0;have hbe:=(HBE.out.trans hpf.below).setCell (p:=⟨base+1,0,none⟩) atQ (.slice Av (bJ N.d).length cv);rw[HBA.out]at hbe;have HBE2:=Lib.hid hbe;have HC:=Lib.hid hc';have HNE:=Lib.hid hne;clear hbe hc' hne
       go_wp2_with fail
       have hc2:=HC.out;simp at hc2;refine bodyPost_ret (v:=.slice Av (bJ N.d).length cv) (by simp[results,Tryz.results174,go_sem,hc2]) rfl ?_;have hown2:=ownsRow_setCell_other hown (a:=⟨base+1,0,none⟩) HNE.out (.slice Av (bJ N.d).length cv);rw[HBA.out]at hown2;exact vc.mk (n:=(bJ N.d).length) (by simp[ints]) (by rw[HBA.out];exact hown2) (by rw[HBA.out];exact HBE2.out)
theorem aaY(x:Int)(w:World)(h:0<=x)(h':x<=9223372036854775807):Calls Tryz.prog 79 #[.int .i64 x] w fun e w'=>e=.returned (.int .i64 (x / 2))/\w=w':=by
 go_enter Tryz.func79,Tryz.ntmps79
 go_wp2
 go_ret
 exact⟨rfl,rfl⟩
theorem am7{n:ak}(ft:Fit n):∀x∈bJ n,dD x:=by
 intro x hx;unfold bJ at hx;simp only[rc,ro,rg]at hx;rcases hx with((((⟨l,hl,rfl⟩|h)|h)|h)|⟨m,hm,h⟩)|⟨a,ha,h⟩
 .exact(ft.aJ.2 l hl).2.1
 .exact ft.out.2 x h
 .exact ft.bad.2 x h
 .exact ft.gG.2 x h
 .have hf:=ft.ae.2 m hm;unfold fi at h;simp only[rc,rg]at h;rcases h with⟨r,hr,h⟩|⟨r,hr,h⟩
  .exact(hf.ig r hr).2.2.2 x h
  .obtain⟨_,_,h3,h4,h5⟩:=hf.iX r hr;unfold iP at h
   grind
 .unfold js at h;simp at h;rcases h with rfl|rfl
  .exact(ft.aj.2 a ha).2.1
  .exact(ft.aj.2 a ha).2.2
theorem uU{α β:Type}(f:α->List β)(c:Nat):∀(l:List α),(∀x∈l,(f x).length<=c)->(l.flatMap f).length<=l.length*c
 |[],_=>by simp|x::l,h=>by rw[AT,bU,di,asN];have:=uU f c l (fun y hy=>h y (by simp[hy]));have:=h x atQ;omega
theorem Zux{n:ak}(ft:Fit n)(hl:∀m∈n.ae,m.reads.length<=6/\m.writes.length<=6)(hm:n.ae.length<=6):(bJ n).length<=1000000:=by
 have h1:(n.ae.flatMap fi).length<=n.ae.length*72006:=uU fi 72006 _ fun m hm=>by
  have hf:=ft.ae.2 m hm;have hc:=hl m hm;unfold fi;rw[bU];have a1:(m.reads.flatMap (·.addr)).length<=m.reads.length*4000:=uU _ 4000 _ fun r hr=>(hf.ig r hr).1;have a2:(m.writes.flatMap iP).length<=m.writes.length*8001:=uU _ 8001 _ fun r hr=>by have:=hf.iX r hr;simp only[iP,di,bU];omega
  grind
 have h2:(n.aj.flatMap js).length<=n.aj.length*2:=uU js 2 _ fun a _=>by simp[js]
 have h3:n.ae.length*72006<=6*72006:=arP _ hm;have:=ft.aJ.1;have:=ft.out.1;have:=ft.bad.1;have:=ft.gG.1;have:=ft.aj.1;unfold bJ
 grind
theorem Zuy{n:ak}(ft:Fit n)(hl:∀m∈n.ae,m.reads.length<=6/\m.writes.length<=6)(hm:n.ae.length<=6):(aX n).length<=1000000:=by
 have h1:(n.ae.flatMap fv).length<=n.ae.length*24000:=uU fv 24000 _ fun m hm=>by
  have hf:=ft.ae.2 m hm;have hc:=hl m hm;unfold fv;have a1:(m.reads.flatMap fun r=>bZ r.var m.word.toNat).length<=m.reads.length*4000:=uU _ 4000 _ fun r hr=>by have:=hf.word.2;simp[bZ];omega
  grind
 have h3:n.ae.length*24000<=6*24000:=arP _ hm;have:=ft.ins.1;have:=ft.aJ.1;have:=ft.aj.1;unfold aX
 grind
theorem amF{n:ak}(h:lK n=false):0<=n.vars/\n.vars<=2000/\n.ae.length<=6/\∀m∈n.ae,m.reads.length<=6/\m.writes.length<=6:=by unfold lK at h;rw[asM]at h;obtain⟨h1,h2⟩:=h;have h1:=asK h1;refine⟨atO,atO,atO,fun m hm=>?_⟩;have:=List.any_eq_false.1 h2 m hm;unfold jS at this;simp at this;omega
theorem bg.oF{w:World}{N:aT}(h:bg w g 27 N.fs):w.cell? ⟨g,0,none⟩=some (.int .i64 N.vars)/\w.cell? ⟨g,1,none⟩=some (.slice N.Ai N.al.length N.ci)/\w.cell? ⟨g,2,none⟩=some (.slice N.Al N.ag.length N.cl)/\w.cell? ⟨g,3,none⟩=some (.slice N.Ao N.aZ.length N.co)/\w.cell? ⟨g,4,none⟩=some (.slice N.Ab N.aN.length N.cb)/\w.cell? ⟨g,5,none⟩=some (.slice N.Ac N.constraints.length N.cc)/\w.cell? ⟨g,6,none⟩=some (.slice N.Am N.ae.length N.cm)/\w.cell? ⟨g,7,none⟩=some (.slice N.An N.aj.length N.cn):=⟨h.cell 0,h.cell 1,h.cell 2,h.cell 3,h.cell 4,h.cell 5,h.cell 6,h.cell 7⟩
theorem amz(N:aT)(w:World)(hok:N.cY w w.heap.size)(ft:Fit N.d) :
  Calls Tryz.prog 135 #[N.v] w fun e w'=>e=.returned (.int .i64 (cZ N.d))/\Below w.heap.size w w':=by
 obtain⟨z,hz⟩:∃z,z=cZ N.d:=⟨_,rfl⟩;rw[<-hz];unfold cZ at hz;have HZ:=Lib.hid hz;clear hz;have hmw:N.d.ae.any iO=N.ae.any (fun x=>iO x.d):=by show(N.ae.map aL.d).any iO=_;rw[atc];rfl
 rw[hmw]at HZ;clear hmw;change Hid (z=if lK N.d=true then 10 else if(N.ae.any fun x=>iO x.d)=true then 9 else if N.ag.any ki=true then 1 else if dup N.vars [] (aX N.d)≠0 then dup N.vars [] (aX N.d)else if(bJ N.d).any (iG N.vars)=true then 5 else 0)at HZ;obtain⟨base,hbase⟩:∃base,base=w.heap.size:=⟨_,rfl⟩;have hb0:bg (w.alloc (.cells N.fs 27)) base 27 N.fs:=by rw[hbase];exact bg.new w _ _
 have hB:Below base w (w.alloc (.cells N.fs 27)):=by rw[hbase];exact(Below.refl _ _).alloc (rt _) _
 have hsz:base<(w.alloc (.cells N.fs 27)).heap.size:=by rw[hbase];simp
 rw[<-hbase]at hok;have HOK:=Lib.hid (hok.below hB);have HF:=Lib.hid ft;have HB:=Lib.hid hB;have HB0:=Lib.hid hb0;have HBA:=Lib.hid hbase;clear hok hB;unfold aT.v
 go_enter Tryz.func135,Tryz.ntmps135
 unfold aT.fs
 go_wp2_with fail
 rw[<-hbase];change Calls _ _ #[N.v] (w.alloc (.cells N.fs 27)) _;generalize w.alloc (.cells N.fs 27)=W1 at hb0 hsz HOK HB HB0 |-;clear hbase;refine(ang N W1 (HOK.out.more atO) HF.out).mono ?_;rintro e w2 ⟨rfl,hbl⟩;rcases h1:lK N.d with _|_
 .have hs2:=hbl.size;obtain⟨hv0,hv2,hml,hmr⟩:=amF h1;have HDL:=Lib.hid (Zuy HF.out hmr hml);have HLL:=Lib.hid (Zux HF.out hmr hml);have hml2:N.ae.length<=6:=by simpa[aT.d]using hml
  have hmf:∀x∈N.ae,x.cY w2 w2.heap.size/\x.reads.length<=100/\x.writes.length<=100:=fun x hx=>by have h:=hmr x.d (AI hx);simp only[aL.d,aP]at h;exact⟨((HOK.out.kZ x hx).below (hbl.mono atO)).more atO,atO,atO⟩
  have HMF:=Lib.hid hmf;change 0<=N.vars at hv0;change N.vars<=2000 at hv2;have hlat:N.ag.length<=4000:=HF.out.aJ.1;obtain⟨c0,c1,c2,c3,c4,c5,c6,c7⟩:=(hb0.below hbl hsz).oF;have HZ1:=HZ.out;rw[BT (by rw[h1];simp)]at HZ1;have HZ2:=Lib.hid HZ1;have HOK2:=Lib.hid (HOK.out.below (hbl.mono atO));have HB2:=Lib.hid (HB.out.trans (hbl.mono atO));have HB02:=Lib.hid (hb0.below hbl hsz);clear HZ1 HZ h1 hmf hml hmr hb0 hbl
  go_wp2_with fail
  refine(am1 N.Am N.cm N.ae w2 (HOK2.out.mem.more atO) HMF.out atO).mono ?_;rintro e w3 ⟨rfl,hbl⟩;have hs3:=hbl.size;rcases h2:N.ae.any (fun x=>iO x.d)with _|_
  .have HZ1:=HZ2.out;rw[BT (by rw[h2];simp)]at HZ1;have HZ3:=Lib.hid HZ1;clear HZ1 HZ2 h2 HMF c0 c1 c2 c3 c4 c5 c6 c7;obtain⟨c0,c1,c2,c3,c4,c5,c6,c7⟩:=(HB02.out.below hbl atO).oF;have HOK3:=Lib.hid (HOK2.out.below (hbl.mono atO));have HB3:=Lib.hid (HB2.out.trans (hbl.mono atO));have HB03:=Lib.hid (HB02.out.below hbl atO);clear HOK2 HB2 HB02 hbl
   go_wp2_with fail
   refine(am3 N.Al N.cl N.ag w3 (HOK3.out.aJ.more atO) atO).mono ?_;rintro e w4 ⟨rfl,hbl⟩;have hs4:=hbl.size;rcases h3:N.ag.any ki with _|_
   .have HZ1:=HZ3.out;rw[BT (by rw[h3];simp)]at HZ1;have HZ4:=Lib.hid HZ1;clear HZ1 HZ3 h3 c0 c1 c2 c3 c4 c5 c6 c7;obtain⟨c0,c1,c2,c3,c4,c5,c6,c7⟩:=(HB03.out.below hbl atO).oF;have HOK4:=Lib.hid (HOK3.out.below (hbl.mono atO));have HB4:=Lib.hid (HB3.out.trans (hbl.mono atO));have HB04:=Lib.hid (HB03.out.below hbl atO);clear HOK3 HB3 HB03 hbl;obtain⟨V,hV⟩:=BY hv0;rw[hV]at HZ4;have HV:=Lib.hid hV;clear hV
    go_wp2_with fail
    change Calls _ _ #[N.v] w4 _;refine(am0 N V w4 HV.out (by have:=HV.out;omega) (HOK4.out.more atO) HF.out HDL.out).mono ?_;rintro e w5 ⟨rfl,hbl⟩;have hs5:=hbl.size;clear c0 c1 c2 c3 c4 c5 c6 c7;obtain⟨c0,c1,c2,c3,c4,c5,c6,c7⟩:=(HB04.out.below hbl atO).oF;have HOK5:=Lib.hid (HOK4.out.below (hbl.mono atO));have HB5:=Lib.hid (HB4.out.trans (hbl.mono atO));have HB05:=Lib.hid (HB04.out.below hbl atO);clear HOK4 HB4 HB04 hbl;obtain⟨dd,hdd⟩:∃dd,dd=dup V [] (aX N.d):=⟨_,rfl⟩;rw[<-hdd]at HZ4 |-;clear hdd;by_cases hd0:dd=0
    .subst hd0;rw[BT atQ]at HZ4
     go_wp2_with fail
     change Calls _ _ #[N.v] w5 _;refine(amE N w5 (HOK5.out.more atO) HF.out HLL.out).mono ?_;rintro e w6 ⟨A,c,rfl,h61,h62,hown,hbl⟩;have hs6:=hbl.size;obtain⟨L,hL⟩:∃L,L=bJ N.d:=⟨_,rfl⟩;have hI:∀x∈L,dD x:=by rw[hL];exact am7 HF.out
     have hln:L.length<=1000000:=by rw[hL];exact HLL.out
     rw[<-hL]at HZ4 hown;have eln:(ints (bJ N.d)).length=L.length:=by rw[hL];simp[ints]
     rw[eln]at h61 |-;have eln2:(ints L).length=L.length:=by simp[ints]
     rw[eln2]at hown;have hSl:=Sl.own hown;have hc0:=(HB05.out.below hbl atO).oF.1;have HB6:=Lib.hid (HB5.out.trans (hbl.mono atO));rw[HV.out]at hc0;clear hL eln eln2 hown hbl HB05 HOK5 HB5 c0 c1 c2 c3 c4 c5 c6 c7;have HI:=Lib.hid hI;clear hI
     go_wp2_with fail
     go_loopw [25] (fun i wr=>∃k q:Nat,k<=L.length/\i=.int .i64 k/\(L.take k).any (iG V)=false/\wr=w6.drewN q) (fun i _=>L.length-(intOf i).toNat)
     case atStart=>exact⟨0,0,GT _,rfl,rfl,rfl⟩
     case round=>
      obtain⟨k,q,hk,rfl,hno,rfl⟩:=hrel;have HNO:=Lib.hid hno;clear hno;by_cases hlt:k<L.length
      .obtain⟨b,off,x,e1,hb,hx,hm,hcx⟩:=hSl.qO hlt;have hxi:=HI.out x hm;have hx1:=hxi.1;have hx2:=hxi.2;have HX:=Lib.hid hx;have HM:=Lib.hid hm;clear hx hm hxi;rw[e1];clear e1;by_cases hx0:x<0
       .go_wp2_with fail
        go_quiet (fail)
        go_wp2_with fail
        go_ret
        exact⟨by rw[HZ4.out,IO (asC.2 ⟨x,HM.out,by unfold iG;simp;omega⟩)];rfl,by rw[<-HBA.out];exact below_drewN (below_drewN HB6.out _) _⟩
       .have HVAR:Hid (∀n,Calls Tryz.prog 79 #[.int .i64 x] (w6.drewN n) fun e w'=>e=.returned (.int .i64 (x / 2))/\w6.drewN n=w'):=fun n=>aaY x _ atO atO;by_cases hx3:(V:Int)<x / 2
        .go_wp2_with fail
         go_quiet ((go_at_call 79;exact Zsc (HVAR.out _)))
         go_wp2_with fail
         go_ret
         exact⟨by rw[HZ4.out,IO (asC.2 ⟨x,HM.out,by unfold iG;simp;omega⟩)];rfl,by rw[<-HBA.out];exact below_drewN (below_drewN HB6.out _) _⟩
        .go_wp2_with fail
         go_quiet ((go_at_call 79;exact Zsc (HVAR.out _)))
         go_wp2_with fail
         go_roundw
         case rel=>exact⟨k+1,_,atO,by go_num,xa HX.out HNO.out (by unfold iG;simp;omega),rfl⟩
         case measure=>simp[intOf];omega
      .go_wp2_with fail
       go_ret
       exact⟨by rw[HZ4.out,xb atO HNO.out];rfl,by rw[<-HBA.out];exact below_drewN HB6.out _⟩
    .have hd1:(dd != 0)=true:=by simpa using hd0
     go_wp2_with fail
     go_ret
     exact⟨by rw[HZ4.out,IO hd0];rfl,by rw[<-HBA.out];exact HB5.out⟩
   .have HZ1:=HZ3.out;rw[IO h3]at HZ1;have HZ4:=Lib.hid HZ1;clear HZ1
    go_wp2_with fail
    go_ret
    exact⟨by rw[HZ4.out];rfl,by rw[<-HBA.out];exact HB3.out.trans (hbl.mono atO)⟩
  .have HZ1:=HZ2.out;rw[IO h2]at HZ1;have HZ4:=Lib.hid HZ1;clear HZ1
   go_wp2_with fail
   go_ret
   exact⟨by rw[HZ4.out];rfl,by rw[<-HBA.out];exact HB2.out.trans (hbl.mono atO)⟩
 .go_wp2_with fail
  go_ret
  exact⟨by rw[HZ.out,IO h1];rfl,by rw[<-HBA.out];exact HB.out.trans (hbl.mono atO)⟩
