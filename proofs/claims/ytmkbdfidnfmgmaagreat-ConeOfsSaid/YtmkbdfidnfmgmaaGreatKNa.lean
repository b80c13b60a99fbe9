import Derived.Test.YtmkbdfidnfmgmaaGreatKBs
import Derived.RangeFuncNested
import Derived.RangeFuncBound
import Derived.RangeFuncCalls
import Derived.RangeFuncLeaves
import Derived.Shelf.Abstract
import Derived.OwnWalkIn
import Derived.TacticsInMore
import Derived.LoopNIn
import Derived.LoopIn
import Derived.OneCell
set_option linter.all false
section
namespace Go.Proofs.YtmkbdfidnfmgmaaGreat.Pl
structure dI where
 var:Int
 next:Int
 init:Int
structure dM where
 var:Int
 a:Int
 b:Int
structure fh where
 var:Int
 addr:jp
structure n5 where
 on:Int
 addr:jp
 data:jp
structure cC where
 addr:Int
 word:Int
 any:Bool
 reads:List fh
 writes:List n5
structure aB where
 vars:Int
 ax:jp
 ah:List dI
 bk:jp
 aU:jp
 constraints:jp
 af:List cC
 ag:List dM
def cM(v:Int)(word:Nat):jp:=(List.range word).map fun i:Nat=>v+(i:Int)
def dy(m:cC):jp:=m.reads.flatMap fun r=>cM r.var m.word.toNat
def bp(n:aB):jp:=n.ax++n.ah.map (·.var)++n.af.flatMap dy++n.ag.map (·.var)
def eF(x:n5):jp:=x.on::(x.addr++x.data)
def dU(m:cC):jp:=m.reads.flatMap (·.addr)++m.writes.flatMap eF
def fH(a:dM):jp:=[a.a,a.b]
def cL(n:aB):jp:=n.ah.map (·.next)++n.bk++n.aU++n.constraints++n.af.flatMap dU++n.ag.flatMap fH
def gU(m:cC):Bool:=decide (4<m.reads.length\/4<m.writes.length)
def ij(n:aB):Bool:=decide (n.vars<0\/2000<n.vars\/2000<n.ax.length\/2000<n.ah.length\/2000<n.ag.length\/1000<n.bk.length+n.aU.length+n.constraints.length\/4<n.af.length)||n.af.any gU
def kF(m:cC)(r:fh):Bool:=(r.addr.length:Int) != m.addr
def ke(m:cC)(x:n5):Bool:=(x.addr.length:Int) != m.addr||(x.data.length:Int) != m.word
def fZ(m:cC):Bool:=decide (m.addr<1\/62<m.addr\/m.word<1\/64<m.word)||m.reads.any (kF m)||m.writes.any (ke m)
def jc(l:dI):Bool:=decide (l.init<0\/2<l.init)
def dup(V:Int)(pre:jp):jp->Int
 |[]=>if(pre.length:Int)<V then 7 else 0
 |v::l=>if v<1\/V<v then 5 else if pre.contains v then 6 else dup V (pre++[v]) l
def gi(V l:Int):Bool:=decide (l<0\/V<l / 2)
def da(n:aB):Int:=
 if ij n then 10 else if n.af.any fZ then 9 else if n.ah.any jc then 1
 else if dup n.vars [] (bp n)≠0 then dup n.vars [] (bp n)else if(cL n).any (gi n.vars)then 5 else 0
variable{l:jp}{k:Nat}{V:Int}
theorem alV(hk:l.length<=k):dup V (l.take k) (l.drop k)=if(l.length:Int)<V then 7 else 0:=by rw[asG hk,IT hk];rfl
variable{v:Int}
theorem adA(hk:l[k]?=some v)(h:v<1\/V<v):dup V (l.take k) (l.drop k)=5:=by obtain⟨h1,rfl⟩:=rg.1 hk;rw[ass h1,dup,IO h]
theorem ap8(hk:l[k]?=some v)(h1:1<=v)(h2:v<=V)(h:(l.take k).contains v=true):dup V (l.take k) (l.drop k)=6:=by obtain⟨h3,rfl⟩:=rg.1 hk;rw[ass h3,dup,Fr auc,IO h]
theorem cK{α:Type}{l:List α}{v:α}(hk:l[k]?=some v):l.take (k+1)=l.take k++[v]:=by
 obtain⟨h3,rfl⟩:=rg.1 hk
 simp_all
theorem akO(hk:l[k]?=some v)(h1:1<=v)(h2:v<=V)(h:(l.take k).contains v=false):dup V (l.take k) (l.drop k)=dup V (l.take (k+1)) (l.drop (k+1)):=by have hs:=cK hk;obtain⟨h3,rfl⟩:=rg.1 hk;rw[ass h3,dup,Fr auc,Fr (by rw[h];simp),hs]
def mH(V:Nat)(pre:jp):kw:=(List.range (V+1)).map fun v:Nat=>pre.contains (v:Int)
theorem Jo(V:Nat)(pre:jp):(mH V pre).length=V+1:=by simp[mH]
variable{pre:jp}
theorem JF{V:Nat}{v:Nat}(h:v<=V):(mH V pre)[v]?=some (pre.contains (v:Int)):=by unfold mH;grind
theorem aoP(V:Nat):mH V []=List.replicate (V+1) false:=by
 apply asD;intro i;by_cases h:i<=V
 .rw[JF h,ati,IO auc];rfl
 .rw[asj (by rw[Jo];omega),asj (by simp;omega)]
theorem apO{V:Nat}{v:Nat}(h:v<=V):(mH V pre).set v true=mH V (pre++[(v:Int)]):=by
 apply asD;intro i;by_cases hi:i<=V
 .rw[List.getElem?_set,JF hi,JF hi];by_cases e:v=i
  .subst e;simp[Jo];omega
  grind
 .rw[asj (by simp[Jo];omega),asj (by rw[Jo];omega)]
theorem sD(V:Nat):∀(l:jp),l.Nodup->(∀x∈l,1<=x/\x<=(V:Int))->l.length<=V/\(V<=l.length->∀v:Nat,1<=v->v<=V->(v:Int)∈l):=by
 induction V with
 |zero=>
  intro l _ hr;have:l=[]:=by cases l with|nil=>rfl|cons x l=>have:=hr x aue;omega
  subst this;exact⟨aue,fun _ v h1 h2=>auc⟩
 |succ V ih=>
  intro l hn hr;by_cases hm:((V+1:Nat):Int)∈l
  .obtain⟨a,b,rfl⟩:=atD hm;have hn':(a++b).Nodup:=by rw[rx]at hn |-;obtain⟨h1,h2,h3⟩:=hn;rw[att]at h2;exact⟨h1,h2.2,fun x hx y hy=>h3 x hx y (by simp[hy])⟩
   have hnm:((V+1:Nat):Int)∉a++b:=by
    rw[rx]at hn;obtain⟨h1,h2,h3⟩:=hn;rw[att]at h2;intro h;rcases qr.1 h with h|h
    .exact h3 _ h _ aue rfl
    .exact h2.1 h
   obtain⟨i1,i2⟩:=ih (a++b) hn' (fun x hx=>by have h:=hr x (by rcases qr.1 hx with h|h<;>simp[h]);have hne:x≠((V+1:Nat):Int):=fun e=>hnm (e▸hx);omega)
   grind
  grind
end Go.Proofs.YtmkbdfidnfmgmaaGreat.Pl
end
section
namespace Go.Proofs.YtmkbdfidnfmgmaaGreat
open Go.RowKit Pl
def dZ(x:Int):Prop:=-9223372036854775808<=x/\x<=9223372036854775807
def Sl(w:World)(B size:Nat)(A:pi)(n c:Nat)(xs:mt):Prop:=Reads w B size A n xs/\n<=c/\0<=c
def ints(l:jp):mt:=l.map (Value.int .i64)
section
variable{w w':World}{B B' size n c:Nat}{A:pi}{xs:mt}
theorem Sl.bU(h:Sl w B size A n c xs)(hk:∀p:Addr,p.block<B->w'.cell? p=w.cell? p):Sl w' B size A n c xs:=⟨h.1.bU hk,h.2⟩
theorem Sl.more(h:Sl w B size A n c xs)(hB:B<=B'):Sl w B' size A n c xs:=⟨h.1.more hB,h.2⟩
theorem Sl.own{base:Nat}{e:TypeId}(h:w.ownsRow base e size (.slice A n c) n xs):Sl w w.heap.size size A n c xs:=by obtain⟨A',c',hv,h1,h2,h3⟩:=y9 h;injection hv with e1 _ e2;subst e1 e2;exact⟨h3,h1,Do _⟩
end
variable{base:Nat}
def Pl.dI.cells(l:dI):mt:=[.int .i64 l.var,.int .i64 l.next,.int .i64 l.init]
def Pl.dM.cells(a:dM):mt:=[.int .i64 a.var,.int .i64 a.a,.int .i64 a.b]
structure bZ where
 var:Int
 A:pi
 c:Nat
 addr:jp
def bZ.cells(r:bZ):mt:=[.int .i64 r.var,.slice r.A r.addr.length r.c]
def bZ.d(r:bZ):fh:=⟨r.var,r.addr⟩
def bZ.dk(w:World)(B:Nat)(r:bZ):Prop:=Sl w B 1 r.A r.addr.length r.c (ints r.addr)
structure cj where
 on:Int
 A:pi
 c:Nat
 addr:jp
 A2:pi
 c2:Nat
 data:jp
def cj.cells(r:cj):mt:=[.int .i64 r.on,.slice r.A r.addr.length r.c,.slice r.A2 r.data.length r.c2]
def cj.d(r:cj):n5:=⟨r.on,r.addr,r.data⟩
def cj.dk(w:World)(B:Nat)(r:cj):Prop:=Sl w B 1 r.A r.addr.length r.c (ints r.addr)/\Sl w B 1 r.A2 r.data.length r.c2 (ints r.data)
structure aQ where
 addr:Int
 word:Int
 any:Bool
 A:pi
 c:Nat
 reads:List bZ
 A2:pi
 c2:Nat
 writes:List cj
def aQ.cells(m:aQ):mt:=[.int .i64 m.addr,.int .i64 m.word,.bool m.any,.slice m.A m.reads.length m.c,.slice m.A2 m.writes.length m.c2]
def aQ.v(m:aQ):Value:=.agg #[.int .i64 m.addr,.int .i64 m.word,.bool m.any,.slice m.A m.reads.length m.c,.slice m.A2 m.writes.length m.c2]
def aQ.d(m:aQ):cC:=⟨m.addr,m.word,m.any,m.reads.map bZ.d,m.writes.map cj.d⟩
structure aQ.dk(w:World)(B:Nat)(m:aQ):Prop where
 rd:Sl w B 2 m.A m.reads.length m.c (m.reads.flatMap bZ.cells)
 fq:∀r∈m.reads,r.dk w B
 wr:Sl w B 3 m.A2 m.writes.length m.c2 (m.writes.flatMap cj.cells)
 gY:∀r∈m.writes,r.dk w B
structure aY where
 vars:Int
 Ai:pi
 ci:Nat
 ax:jp
 Al:pi
 cl:Nat
 ah:List dI
 Ao:pi
 co:Nat
 bk:jp
 Ab:pi
 cb:Nat
 aU:jp
 Ac:pi
 cc:Nat
 constraints:jp
 Am:pi
 cm:Nat
 af:List aQ
 An:pi
 cn:Nat
 ag:List dM
def aY.d(n:aY):aB:=⟨n.vars,n.ax,n.ah,n.bk,n.aU,n.constraints,n.af.map aQ.d,n.ag⟩
def aY.fs(n:aY):Array Value:=#[.int .i64 n.vars,.slice n.Ai n.ax.length n.ci,.slice n.Al n.ah.length n.cl,.slice n.Ao n.bk.length n.co,.slice n.Ab n.aU.length n.cb,.slice n.Ac n.constraints.length n.cc,.slice n.Am n.af.length n.cm,.slice n.An n.ag.length n.cn]
def aY.v(n:aY):Value:=.agg n.fs
structure aY.dk(w:World)(B:Nat)(n:aY):Prop where
 ins:Sl w B 1 n.Ai n.ax.length n.ci (ints n.ax)
 aT:Sl w B 3 n.Al n.ah.length n.cl (n.ah.flatMap dI.cells)
 out:Sl w B 1 n.Ao n.bk.length n.co (ints n.bk)
 fe:Sl w B 1 n.Ab n.aU.length n.cb (ints n.aU)
 ga:Sl w B 1 n.Ac n.constraints.length n.cc (ints n.constraints)
 mem:Sl w B 5 n.Am n.af.length n.cm (n.af.flatMap aQ.cells)
 kA:∀m∈n.af,m.dk w B
 and:Sl w B 3 n.An n.ag.length n.cn (n.ag.flatMap dM.cells)
section
variable{w w':World}{B B':Nat}
theorem bZ.dk.bU{r:bZ}(h:r.dk w B)(hk:∀p:Addr,p.block<B->w'.cell? p=w.cell? p):r.dk w' B:=Sl.bU h hk
theorem cj.dk.bU{r:cj}(h:r.dk w B)(hk:∀p:Addr,p.block<B->w'.cell? p=w.cell? p):r.dk w' B:=⟨h.1.bU hk,h.2.bU hk⟩
theorem aQ.dk.bU{m:aQ}(h:m.dk w B)(hk:∀p:Addr,p.block<B->w'.cell? p=w.cell? p):m.dk w' B:=⟨h.rd.bU hk,fun r hr=>(h.fq r hr).bU hk,h.wr.bU hk,fun r hr=>(h.gY r hr).bU hk⟩
theorem aY.dk.bU{n:aY}(h:n.dk w B)(hk:∀p:Addr,p.block<B->w'.cell? p=w.cell? p):n.dk w' B:=⟨h.ins.bU hk,h.aT.bU hk,h.out.bU hk,h.fe.bU hk,h.ga.bU hk,h.mem.bU hk,fun m hm=>(h.kA m hm).bU hk,h.and.bU hk⟩
theorem bZ.dk.more{r:bZ}(h:r.dk w B)(hB:B<=B'):r.dk w B':=Sl.more h hB
theorem cj.dk.more{r:cj}(h:r.dk w B)(hB:B<=B'):r.dk w B':=⟨h.1.more hB,h.2.more hB⟩
theorem aQ.dk.more{m:aQ}(h:m.dk w B)(hB:B<=B'):m.dk w B':=⟨h.rd.more hB,fun r hr=>(h.fq r hr).more hB,h.wr.more hB,fun r hr=>(h.gY r hr).more hB⟩
theorem aY.dk.more{n:aY}(h:n.dk w B)(hB:B<=B'):n.dk w B':=⟨h.ins.more hB,h.aT.more hB,h.out.more hB,h.fe.more hB,h.ga.more hB,h.mem.more hB,fun m hm=>(h.kA m hm).more hB,h.and.more hB⟩
theorem Sl.below{size n c:Nat}{A:pi}{xs:mt}(h:Sl w B size A n c xs)(hb:Below B w w'):Sl w' B size A n c xs:=h.bU fun _ hp=>hb.cell hp
theorem aQ.dk.below{m:aQ}(h:m.dk w B)(hb:Below B w w'):m.dk w' B:=h.bU fun _ hp=>hb.cell hp
theorem aY.dk.below{n:aY}(h:n.dk w B)(hb:Below B w w'):n.dk w' B:=h.bU fun _ hp=>hb.cell hp
theorem bZ.dk.below{m:bZ}(h:m.dk w B)(hb:Below B w w'):m.dk w' B:=h.bU fun _ hp=>hb.cell hp
end
variable{α:Type}{l:List α}{m:aQ}{r:bZ}
theorem Sl.elem{f:α->mt}{C:Nat}{w:World}{B k c:Nat}{A:pi}(h:Sl w B C A l.length c (l.flatMap f))(hC:0<C)(hf:∀x,(f x).length=C)(hk:k<l.length) :
  ∃b off x,A=some ⟨b,off,none⟩/\b<B/\l[k]?=some x/\x∈l/\∀j u,(f x)[j]?=some u->w.cell? ⟨b,off+(k*C+j),none⟩=some u:=by
 obtain⟨b,off,x,h1,h2,h3,h4⟩:=Reads.elem h.1 hC hf rfl hk;exact⟨b,off,x,h1,h2,h3,d5 h3,h4⟩
variable{off:Nat}{b:Nat}
theorem dI.at_{w:World}{k:Nat}{l:dI}(h:∀j u,(dI.cells l)[j]?=some u->w.cell? ⟨b,off+(k*3+j),none⟩=some u) :
  w.cell? ⟨b,off+k*3,none⟩=some (.int .i64 l.var)/\w.cell? ⟨b,off+k*3+1,none⟩=some (.int .i64 l.next)/\w.cell? ⟨b,off+k*3+2,none⟩=some (.int .i64 l.init):=
 ⟨h 0 _ rfl,h 1 _ rfl,h 2 _ rfl⟩
theorem dM.at_{w:World}{k:Nat}{l:dM}(h:∀j u,(dM.cells l)[j]?=some u->w.cell? ⟨b,off+(k*3+j),none⟩=some u) :
  w.cell? ⟨b,off+k*3,none⟩=some (.int .i64 l.var)/\w.cell? ⟨b,off+k*3+1,none⟩=some (.int .i64 l.a)/\w.cell? ⟨b,off+k*3+2,none⟩=some (.int .i64 l.b):=
 ⟨h 0 _ rfl,h 1 _ rfl,h 2 _ rfl⟩
theorem bZ.at_{w:World}{k:Nat}{l:bZ}(h:∀j u,l.cells[j]?=some u->w.cell? ⟨b,off+(k*2+j),none⟩=some u) :
  w.cell? ⟨b,off+k*2,none⟩=some (.int .i64 l.var)/\w.cell? ⟨b,off+k*2+1,none⟩=some (.slice l.A l.addr.length l.c):=
 ⟨h 0 _ rfl,h 1 _ rfl⟩
theorem cj.at_{w:World}{k:Nat}{l:cj}(h:∀j u,l.cells[j]?=some u->w.cell? ⟨b,off+(k*3+j),none⟩=some u) :
  w.cell? ⟨b,off+k*3,none⟩=some (.int .i64 l.on)/\w.cell? ⟨b,off+k*3+1,none⟩=some (.slice l.A l.addr.length l.c)/\w.cell? ⟨b,off+k*3+2,none⟩=some (.slice l.A2 l.data.length l.c2):=
 ⟨h 0 _ rfl,h 1 _ rfl,h 2 _ rfl⟩
theorem aQ.at_{w:World}{k:Nat}{l:aQ}(h:∀j u,l.cells[j]?=some u->w.cell? ⟨b,off+(k*5+j),none⟩=some u) :
  w.cell? ⟨b,off+k*5,none⟩=some (.int .i64 l.addr)/\w.cell? ⟨b,off+k*5+1,none⟩=some (.int .i64 l.word)/\w.cell? ⟨b,off+k*5+2,none⟩=some (.bool l.any) /\
   w.cell? ⟨b,off+k*5+3,none⟩=some (.slice l.A l.reads.length l.c)/\w.cell? ⟨b,off+k*5+4,none⟩=some (.slice l.A2 l.writes.length l.c2):=
 ⟨h 0 _ rfl,h 1 _ rfl,h 2 _ rfl,h 3 _ rfl,h 4 _ rfl⟩
theorem Sl.pJ{w:World}{B k c:Nat}{A:pi}{l:jp}(h:Sl w B 1 A l.length c (ints l))(hk:k<l.length) :
  ∃b off x,A=some ⟨b,off,none⟩/\b<B/\l[k]?=some x/\x∈l/\w.cell? ⟨b,off+k,none⟩=some (.int .i64 x):=by
 obtain⟨b,off,h1,h2,h3⟩:=Reads.pJ h.1 hk
 grind
structure rb(m:cC):Prop where
 word:dZ m.word/\m.word<=4000
 addr:dZ m.addr
 kO:m.reads.length<=100
 ph:m.writes.length<=100
 fq:∀r∈m.reads,r.addr.length<=4000/\-1099511627776<=r.var/\r.var<=1099511627776/\∀x∈r.addr,dZ x
 gY:∀r∈m.writes,r.addr.length<=4000/\r.data.length<=4000/\dZ r.on/\(∀x∈r.addr,dZ x)/\∀x∈r.data,dZ x
structure Fit(n:aB):Prop where
 vars:dZ n.vars
 ins:n.ax.length<=4000/\∀x∈n.ax,dZ x
 aT:n.ah.length<=4000/\∀l∈n.ah,dZ l.var/\dZ l.next/\dZ l.init
 out:n.bk.length<=4000/\∀x∈n.bk,dZ x
 fe:n.aU.length<=4000/\∀x∈n.aU,dZ x
 ga:n.constraints.length<=4000/\∀x∈n.constraints,dZ x
 af:n.af.length<=100/\∀m∈n.af,rb m
 ag:n.ag.length<=4000/\∀a∈n.ag,dZ a.var/\dZ a.a/\dZ a.b
variable{p:α->Bool}
theorem vu{k:Nat}{x:α}(hx:l[k]?=some x)(h:(l.take k).any p=false)(hp:p x=false):(l.take (k+1)).any p=false:=by rw[cK hx,List.any_append,h];simp[hp]
theorem vv{k:Nat}(hk:l.length<=k)(h:(l.take k).any p=false):l.any p=false:=by rwa [IT hk]at h
def xT(b:Bool)(w:World)(e:Ending)(w':World):Prop:=∃i:Int,e=.returned (.int .i64 i)/\decide (0<=i)=b/\Below w.heap.size w w'
theorem apL(m:aQ)(g:Nat)(v:Int)(A:pi)(n c:Nat)(w:World)(hg:bD w g 97 m.cells.toArray) :
  Calls Tryz.prog 201 #[.agg #[.int .i64 v,.slice A n c],.pointer (some ⟨g,0,none⟩)] w fun e w'=>e=.returned (.bool ((n:Int) != m.addr))/\Below w.heap.size w w':=by
 have h0:(w.alloc (.cells #[.int .i64 v,.slice A n c] 148)).cell? ⟨g,0,none⟩=some (.int .i64 m.addr):=((hg.alloc _).cell 0);clear hg
 go_enter Tryz.func201,Tryz.ntmps201
 go_wp2_with fail
 go_ret
 exact⟨rfl,(Below.refl _ _).alloc (ro _) _⟩
theorem apK(m:aQ)(g:Nat)(v:Int)(A:pi)(n c:Nat)(A2:pi)(n2 c2:Nat)(w:World)(hg:bD w g 97 m.cells.toArray) :
  Calls Tryz.prog 202 #[.agg #[.int .i64 v,.slice A n c,.slice A2 n2 c2],.pointer (some ⟨g,0,none⟩)] w fun e w'=>e=.returned (.bool ((n:Int) != m.addr||(n2:Int) != m.word))/\Below w.heap.size w w':=by
 have h0:(w.alloc (.cells #[.int .i64 v,.slice A n c,.slice A2 n2 c2] 174)).cell? ⟨g,0,none⟩=some (.int .i64 m.addr):=((hg.alloc _).cell 0);have h1:(w.alloc (.cells #[.int .i64 v,.slice A n c,.slice A2 n2 c2] 174)).cell? ⟨g,1,none⟩=some (.int .i64 m.word):=((hg.alloc _).cell 1);clear hg;rcases hb:((n:Int) != m.addr)with _|_
 all_goals
  go_enter Tryz.func202,Tryz.ntmps202
  go_wp2_with fail
  go_ret
  exact⟨aue,(Below.refl _ _).alloc (ro _) _⟩
theorem apP(a wd:Int)(y:Bool)(A:pi)(n c:Nat)(A2:pi)(n2 c2:Nat)(w:World)(hn:n<=100)(hn2:n2<=100) :
  Calls Tryz.prog 199 #[.agg #[.int .i64 a,.int .i64 wd,.bool y,.slice A n c,.slice A2 n2 c2]] w fun e w'=>e=.returned (.bool (decide (4<n\/4<n2)))/\Below w.heap.size w w':=by
 by_cases h1:4<n<;>by_cases h2:4<n2
 all_goals
  go_enter Tryz.func199,Tryz.ntmps199
  go_wp2_with fail
  go_ret
  exact⟨yV (by rw[atR];try (first|(simp;done)|(simp;omega))),(Below.refl _ _).alloc (ro _) _⟩
theorem akX(l:dI)(w:World) :
  Calls Tryz.prog 172 #[.agg #[.int .i64 l.var,.int .i64 l.next,.int .i64 l.init]] w fun e w'=>e=.returned (.bool (jc l))/\Below w.heap.size w w':=by
 obtain⟨z,hz⟩:∃z,z=jc l:=⟨_,rfl⟩;have HZ:=Lib.hid hz;rw[<-hz];clear hz;obtain⟨a,b,i⟩:=l;rcases(show i<0\/(¬i<0/\2<i)\/(¬i<0/\¬2<i)from by omega)with h1|⟨h1,h2⟩|⟨h1,h2⟩
 all_goals
  go_enter Tryz.func172,Tryz.ntmps172
  go_wp2_with fail
  go_ret
  exact⟨yV (by rw[HZ.out,atR];unfold jc;first|(simp;done)|(simp;omega)),(Below.refl _ _).alloc (ro _) _⟩
set_option maxHeartbeats 400000
theorem apb(m:aQ)(g:Nat)(A:pi)(c:Nat)(l:List bZ)(w:World)(hS:Sl w w.heap.size 2 A l.length c (l.flatMap bZ.cells))(hg:bD w g 97 m.cells.toArray)(hn:l.length<=4000) :
  Calls Tryz.prog 214 #[.slice A l.length c,.func (.func 201) #[] #[.pointer (some ⟨g,0,none⟩)]] w (xT (l.any (fun x=>kF m.d x.d)) w):=by
 go_enter Tryz.func214,Tryz.ntmps214
 go_wp2_with fail
 go_loopw [8] (fun i wr=>∃k:Nat,k<=l.length/\i=.int .i64 k/\(l.take k).any (fun x=>kF m.d x.d)=false/\Below w.heap.size w wr) (fun i _=>l.length-(intOf i).toNat)
 case atStart=>exact⟨0,Do _,rfl,rfl,Below.refl _ _⟩
 case round=>
  obtain⟨k,hk,rfl,hno,hbel⟩:=hrel;have HNO:=Lib.hid hno;clear hno;by_cases hlt:k<l.length
  .obtain⟨b,off,x,rfl,hb,hx,hm,hcs⟩:=(hS.below hbel).elem auc (fun _=>rfl) hlt;obtain⟨hc0,hc1⟩:=bZ.at_ hcs;have HX:=Lib.hid hx;have HM:=Lib.hid hm;clear hcs hx hm
   go_wp2_with fail
   refine(apL m g x.var x.A x.addr.length x.c wr (hg.below hbel hg.lt)).mono ?_;rintro e w1 ⟨rfl,hb1⟩;rcases hp:(fun x=>kF m.d x.d) x with _|_
   .have hp':=hp;change((x.addr.length:Int) != m.addr)=_ at hp';rw[hp'];clear hp'
    go_wp2_with fail
    go_roundw
    case rel=>exact⟨k+1,auc,by go_num,vu HX.out HNO.out hp,hbel.trans (hb1.mono hbel.size)⟩
    case measure=>simp[intOf];omega
   .have hp':=hp;change((x.addr.length:Int) != m.addr)=_ at hp';rw[hp'];clear hp'
    go_wp2_with fail
    go_ret
    exact⟨k,rfl,by rw[asQ.2 ⟨x,HM.out,hp⟩];simp,hbel.trans (hb1.mono hbel.size)⟩
  .go_wp2_with fail
   go_ret
   exact⟨-1,rfl,by rw[vv auc HNO.out];rfl,hbel⟩
theorem aph(m:aQ)(g:Nat)(A:pi)(c:Nat)(l:List bZ)(w:World)(hS:Sl w w.heap.size 2 A l.length c (l.flatMap bZ.cells))(hg:bD w g 97 m.cells.toArray)(hn:l.length<=4000) :
  Calls Tryz.prog 203 #[.slice A l.length c,.func (.func 201) #[] #[.pointer (some ⟨g,0,none⟩)]] w fun e w'=>e=.returned (.bool (l.any (fun x=>kF m.d x.d)))/\Below w.heap.size w w':=by
 go_enter Tryz.func203,Tryz.ntmps203
 go_wp2_with fail
 refine(apb m g A c l w hS hg hn).mono ?_;rintro e w1 ⟨i,rfl,hi,hb1⟩;have HI:=Lib.hid hi;clear hi
 go_wp2_with fail
 go_ret
 exact⟨by rw[HI.out];rfl,hb1⟩
theorem aoU(m:aQ)(g:Nat)(A:pi)(c:Nat)(l:List cj)(w:World)(hS:Sl w w.heap.size 3 A l.length c (l.flatMap cj.cells))(hg:bD w g 97 m.cells.toArray)(hn:l.length<=4000) :
  Calls Tryz.prog 215 #[.slice A l.length c,.func (.func 202) #[] #[.pointer (some ⟨g,0,none⟩)]] w (xT (l.any (fun x=>ke m.d x.d)) w):=by
 go_enter Tryz.func215,Tryz.ntmps215
 go_wp2_with fail
 go_loopw [8] (fun i wr=>∃k:Nat,k<=l.length/\i=.int .i64 k/\(l.take k).any (fun x=>ke m.d x.d)=false/\Below w.heap.size w wr) (fun i _=>l.length-(intOf i).toNat)
 case atStart=>exact⟨0,Do _,rfl,rfl,Below.refl _ _⟩
 case round=>
  obtain⟨k,hk,rfl,hno,hbel⟩:=hrel;have HNO:=Lib.hid hno;clear hno;by_cases hlt:k<l.length
  .obtain⟨b,off,x,rfl,hb,hx,hm,hcs⟩:=(hS.below hbel).elem auc (fun _=>rfl) hlt;obtain⟨hc0,hc1,hc2⟩:=cj.at_ hcs;have HX:=Lib.hid hx;have HM:=Lib.hid hm;clear hcs hx hm
   go_wp2_with fail
   refine(apK m g x.on x.A x.addr.length x.c x.A2 x.data.length x.c2 wr (hg.below hbel hg.lt)).mono ?_;rintro e w1 ⟨rfl,hb1⟩;rcases hp:(fun x=>ke m.d x.d) x with _|_
   .have hp':=hp;change((x.addr.length:Int) != m.addr||(x.data.length:Int) != m.word)=_ at hp';rw[hp'];clear hp'
    go_wp2_with fail
    go_roundw
    case rel=>exact⟨k+1,auc,by go_num,vu HX.out HNO.out hp,hbel.trans (hb1.mono hbel.size)⟩
    case measure=>simp[intOf];omega
   .have hp':=hp;change((x.addr.length:Int) != m.addr||(x.data.length:Int) != m.word)=_ at hp';rw[hp'];clear hp'
    go_wp2_with fail
    go_ret
    exact⟨k,rfl,by rw[asQ.2 ⟨x,HM.out,hp⟩];simp,hbel.trans (hb1.mono hbel.size)⟩
  .go_wp2_with fail
   go_ret
   exact⟨-1,rfl,by rw[vv auc HNO.out];rfl,hbel⟩
theorem ao1(m:aQ)(g:Nat)(A:pi)(c:Nat)(l:List cj)(w:World)(hS:Sl w w.heap.size 3 A l.length c (l.flatMap cj.cells))(hg:bD w g 97 m.cells.toArray)(hn:l.length<=4000) :
  Calls Tryz.prog 204 #[.slice A l.length c,.func (.func 202) #[] #[.pointer (some ⟨g,0,none⟩)]] w fun e w'=>e=.returned (.bool (l.any (fun x=>ke m.d x.d)))/\Below w.heap.size w w':=by
 go_enter Tryz.func204,Tryz.ntmps204
 go_wp2_with fail
 refine(aoU m g A c l w hS hg hn).mono ?_;rintro e w1 ⟨i,rfl,hi,hb1⟩;have HI:=Lib.hid hi;clear hi
 go_wp2_with fail
 go_ret
 exact⟨by rw[HI.out];rfl,hb1⟩
theorem aoV  (A:pi)(c:Nat)(l:List aQ)(w:World)(hS:Sl w w.heap.size 5 A l.length c (l.flatMap aQ.cells))(hf:∀x∈l,x.reads.length<=100/\x.writes.length<=100)(hn:l.length<=4000) :
  Calls Tryz.prog 200 #[.slice A l.length c,.func (.func 199) #[] #[]] w (xT (l.any (fun x=>gU x.d)) w):=by
 go_enter Tryz.func200,Tryz.ntmps200
 go_wp2_with fail
 go_loopw [8] (fun i wr=>∃k:Nat,k<=l.length/\i=.int .i64 k/\(l.take k).any (fun x=>gU x.d)=false/\Below w.heap.size w wr) (fun i _=>l.length-(intOf i).toNat)
 case atStart=>exact⟨0,Do _,rfl,rfl,Below.refl _ _⟩
 case round=>
  obtain⟨k,hk,rfl,hno,hbel⟩:=hrel;have HNO:=Lib.hid hno;clear hno;by_cases hlt:k<l.length
  .obtain⟨b,off,x,rfl,hb,hx,hm,hcs⟩:=(hS.below hbel).elem auc (fun _=>rfl) hlt;obtain⟨hc0,hc1,hc2,hc3,hc4⟩:=aQ.at_ hcs;have HX:=Lib.hid hx;have HM:=Lib.hid hm;clear hcs hx hm
   go_wp2_with fail
   refine(apP x.addr x.word x.any x.A x.reads.length x.c x.A2 x.writes.length x.c2 wr (hf x HM.out).1 (hf x HM.out).2).mono ?_;rintro e w1 ⟨rfl,hb1⟩;rcases hp:(fun x=>gU x.d) x with _|_
   .have hp':=hp;simp only[gU,aQ.d,aG]at hp';rw[hp'];clear hp'
    go_wp2_with fail
    go_roundw
    case rel=>exact⟨k+1,auc,by go_num,vu HX.out HNO.out hp,hbel.trans (hb1.mono hbel.size)⟩
    case measure=>simp[intOf];omega
   .have hp':=hp;simp only[gU,aQ.d,aG]at hp';rw[hp'];clear hp'
    go_wp2_with fail
    go_ret
    exact⟨k,rfl,by rw[asQ.2 ⟨x,HM.out,hp⟩];simp,hbel.trans (hb1.mono hbel.size)⟩
  .go_wp2_with fail
   go_ret
   exact⟨-1,rfl,by rw[vv auc HNO.out];rfl,hbel⟩
theorem ao2  (A:pi)(c:Nat)(l:List aQ)(w:World)(hS:Sl w w.heap.size 5 A l.length c (l.flatMap aQ.cells))(hf:∀x∈l,x.reads.length<=100/\x.writes.length<=100)(hn:l.length<=4000) :
  Calls Tryz.prog 169 #[.slice A l.length c,.func (.func 199) #[] #[]] w fun e w'=>e=.returned (.bool (l.any (fun x=>gU x.d)))/\Below w.heap.size w w':=by
 go_enter Tryz.func169,Tryz.ntmps169
 go_wp2_with fail
 refine(aoV  A c l w hS hf hn).mono ?_;rintro e w1 ⟨i,rfl,hi,hb1⟩;have HI:=Lib.hid hi;clear hi
 go_wp2_with fail
 go_ret
 exact⟨by rw[HI.out];rfl,hb1⟩
theorem apc  (A:pi)(c:Nat)(l:List dI)(w:World)(hS:Sl w w.heap.size 3 A l.length c (l.flatMap dI.cells))(hn:l.length<=4000) :
  Calls Tryz.prog 205 #[.slice A l.length c,.func (.func 172) #[] #[]] w (xT (l.any jc) w):=by
 go_enter Tryz.func205,Tryz.ntmps205
 go_wp2_with fail
 go_loopw [8] (fun i wr=>∃k:Nat,k<=l.length/\i=.int .i64 k/\(l.take k).any jc=false/\Below w.heap.size w wr) (fun i _=>l.length-(intOf i).toNat)
 case atStart=>exact⟨0,Do _,rfl,rfl,Below.refl _ _⟩
 case round=>
  obtain⟨k,hk,rfl,hno,hbel⟩:=hrel;have HNO:=Lib.hid hno;clear hno;by_cases hlt:k<l.length
  .obtain⟨b,off,x,rfl,hb,hx,hm,hcs⟩:=(hS.below hbel).elem auc (fun _=>rfl) hlt;obtain⟨hc0,hc1,hc2⟩:=dI.at_ hcs;have HX:=Lib.hid hx;have HM:=Lib.hid hm;clear hcs hx hm
   go_wp2_with fail
   refine(akX x wr).mono ?_;rintro e w1 ⟨rfl,hb1⟩;rcases hp:jc x with _|_
   .have hp':=hp;clear hp'
    go_wp2_with fail
    go_roundw
    case rel=>exact⟨k+1,auc,by go_num,vu HX.out HNO.out hp,hbel.trans (hb1.mono hbel.size)⟩
    case measure=>simp[intOf];omega
   .have hp':=hp;clear hp'
    go_wp2_with fail
    go_ret
    exact⟨k,rfl,by rw[asQ.2 ⟨x,HM.out,hp⟩];simp,hbel.trans (hb1.mono hbel.size)⟩
  .go_wp2_with fail
   go_ret
   exact⟨-1,rfl,by rw[vv auc HNO.out];rfl,hbel⟩
theorem api  (A:pi)(c:Nat)(l:List dI)(w:World)(hS:Sl w w.heap.size 3 A l.length c (l.flatMap dI.cells))(hn:l.length<=4000) :
  Calls Tryz.prog 171 #[.slice A l.length c,.func (.func 172) #[] #[]] w fun e w'=>e=.returned (.bool (l.any jc))/\Below w.heap.size w w':=by
 go_enter Tryz.func171,Tryz.ntmps171
 go_wp2_with fail
 refine(apc  A c l w hS hn).mono ?_;rintro e w1 ⟨i,rfl,hi,hb1⟩;have HI:=Lib.hid hi;clear hi
 go_wp2_with fail
 go_ret
 exact⟨by rw[HI.out];rfl,hb1⟩
theorem alI(m:aQ)(w:World)(hm:m.dk w w.heap.size)(h1:m.reads.length<=4000)(h2:m.writes.length<=4000) :
  Calls Tryz.prog 170 #[m.v] w fun e w'=>e=.returned (.bool (fZ m.d))/\Below w.heap.size w w':=by
 have hW:fZ m.d=(decide (m.addr<1\/62<m.addr\/m.word<1\/64<m.word)||m.reads.any (fun x=>kF m.d x.d)||m.writes.any (fun x=>ke m.d x.d)):=by unfold fZ;rw[show m.d.reads=m.reads.map bZ.d from rfl,show m.d.writes=m.writes.map cj.d from rfl,atx,atx];rfl
 have HW:=Lib.hid hW;clear hW;have hm2:m.dk (w.alloc (.cells m.cells.toArray 97)) w.heap.size:=hm.bU fun p hp=>World.cell?_alloc_lt w _ p hp;have HM:=Lib.hid hm2;have HG:=Lib.hid (bD.new w 97 m.cells.toArray);clear hm hm2;unfold aQ.v;rcases(show m.addr<1\/(¬m.addr<1/\62<m.addr)\/(¬m.addr<1/\¬62<m.addr/\m.word<1)\/(¬m.addr<1/\¬62<m.addr/\¬m.word<1/\64<m.word)\/(¬m.addr<1/\¬62<m.addr/\¬m.word<1/\¬64<m.word)from by omega)with a1|⟨a1,a2⟩|⟨a1,a2,a3⟩|⟨a1,a2,a3,a4⟩|⟨a1,a2,a3,a4⟩
 iterate 4
  .go_enter Tryz.func170,Tryz.ntmps170
   go_wp2_with fail
   go_ret
   exact⟨by rw[HW.out];rw[fm auc];rfl,(Below.refl _ _).alloc (ro _) _⟩
 .go_enter Tryz.func170,Tryz.ntmps170
  go_wp2_with fail
  refine(aph m w.heap.size m.A m.c m.reads _ (HM.out.rd.more aue) HG.out h1).mono ?_;rintro e w1 ⟨rfl,hb1⟩;have hsz:w.heap.size<w1.heap.size:=by have:=hb1.size;simp at this;omega
  have hc4:w1.cell? ⟨w.heap.size,4,none⟩=some (.slice m.A2 m.writes.length m.c2):=(HG.out.below hb1 aue).cell 4;have HG1:=Lib.hid (HG.out.below hb1 aue);have hb0:Below w.heap.size w w1:=((Below.refl _ _).alloc (ro _) _).trans (hb1.mono aue);have HM1:=Lib.hid (HM.out.below (hb1.mono aue));clear hb1;rcases hp:m.reads.any (fun x=>kF m.d x.d)with _|_
  .rw[hp]at HW;clear hp
   go_wp2_with fail
   refine(ao1 m w.heap.size m.A2 m.c2 m.writes _ (HM1.out.wr.more auc) HG1.out h2).mono ?_;rintro e w2 ⟨rfl,hb2⟩
   go_wp2_with fail
   go_ret
   exact⟨by rw[HW.out,jC auc];rfl,hb0.trans (hb2.mono auc)⟩
  .rw[hp]at HW;clear hp
   go_wp2_with fail
   go_ret
   exact⟨by rw[HW.out];simp,hb0⟩
theorem apa  (A:pi)(c:Nat)(l:List aQ)(w:World)(hS:Sl w w.heap.size 5 A l.length c (l.flatMap aQ.cells))(hf:∀x∈l,x.dk w w.heap.size/\x.reads.length<=100/\x.writes.length<=100)(hn:l.length<=4000) :
  Calls Tryz.prog 200 #[.slice A l.length c,.func (.func 170) #[] #[]] w (xT (l.any (fun x=>fZ x.d)) w):=by
 go_enter Tryz.func200,Tryz.ntmps200
 go_wp2_with fail
 go_loopw [8] (fun i wr=>∃k:Nat,k<=l.length/\i=.int .i64 k/\(l.take k).any (fun x=>fZ x.d)=false/\Below w.heap.size w wr) (fun i _=>l.length-(intOf i).toNat)
 case atStart=>exact⟨0,Do _,rfl,rfl,Below.refl _ _⟩
 case round=>
  obtain⟨k,hk,rfl,hno,hbel⟩:=hrel;have HNO:=Lib.hid hno;clear hno;by_cases hlt:k<l.length
  .obtain⟨b,off,x,rfl,hb,hx,hm,hcs⟩:=(hS.below hbel).elem auc (fun _=>rfl) hlt;obtain⟨hc0,hc1,hc2,hc3,hc4⟩:=aQ.at_ hcs;have HX:=Lib.hid hx;have HM:=Lib.hid hm;clear hcs hx hm
   go_wp2_with fail
   refine(alI x wr (((hf x HM.out).1.below hbel).more hbel.size) (by have:=(hf x HM.out).2.1;omega) (by have:=(hf x HM.out).2.2;omega)).mono ?_;rintro e w1 ⟨rfl,hb1⟩;rcases hp:(fun x=>fZ x.d) x with _|_
   .have hp':=hp;clear hp'
    go_wp2_with fail
    go_roundw
    case rel=>exact⟨k+1,auc,by go_num,vu HX.out HNO.out hp,hbel.trans (hb1.mono hbel.size)⟩
    case measure=>simp[intOf];omega
   .have hp':=hp;clear hp'
    go_wp2_with fail
    go_ret
    exact⟨k,rfl,by rw[asQ.2 ⟨x,HM.out,hp⟩];simp,hbel.trans (hb1.mono hbel.size)⟩
  .go_wp2_with fail
   go_ret
   exact⟨-1,rfl,by rw[vv auc HNO.out];rfl,hbel⟩
theorem apg  (A:pi)(c:Nat)(l:List aQ)(w:World)(hS:Sl w w.heap.size 5 A l.length c (l.flatMap aQ.cells))(hf:∀x∈l,x.dk w w.heap.size/\x.reads.length<=100/\x.writes.length<=100)(hn:l.length<=4000) :
  Calls Tryz.prog 169 #[.slice A l.length c,.func (.func 170) #[] #[]] w fun e w'=>e=.returned (.bool (l.any (fun x=>fZ x.d)))/\Below w.heap.size w w':=by
 go_enter Tryz.func169,Tryz.ntmps169
 go_wp2_with fail
 refine(apa  A c l w hS hf hn).mono ?_;rintro e w1 ⟨i,rfl,hi,hb1⟩;have HI:=Lib.hid hi;clear hi
 go_wp2_with fail
 go_ret
 exact⟨by rw[HI.out];rfl,hb1⟩
theorem Uq(x:Int)(w:World):Calls Tryz.prog 198 #[.int .i64 x] w fun e w'=>e=.returned (.bool (decide (2000<x)))/\w=w':=by
 go_enter Tryz.func198,Tryz.ntmps198
 go_wp2
 go_ret
 exact⟨rfl,rfl⟩
set_option maxHeartbeats 4000000
theorem apt(n:aY)(w:World)(hn:n.dk w w.heap.size)(ft:Fit n.d) :
  Calls Tryz.prog 168 #[n.v] w fun e w'=>e=.returned (.bool (ij n.d))/\Below w.heap.size w w':=by
 have hn2:n.dk (w.alloc (.cells n.fs 27)) w.heap.size:=hn.bU fun p hp=>World.cell?_alloc_lt w _ p hp;have HN:=Lib.hid hn2;have HE:Hid (ij n.d=(decide (n.d.vars<0\/2000<n.d.vars\/2000<n.d.ax.length\/2000<n.d.ah.length\/2000<n.d.ag.length\/1000<n.d.bk.length+n.d.aU.length+n.d.constraints.length\/4<n.d.af.length)||n.d.af.any gU)):=rfl;have hpf:∀x∈n.af,x.reads.length<=100/\x.writes.length<=100:=fun x hx=>by have h:=ft.af.2 x.d (AT hx);have h1:=h.kO;have h2:=h.ph;simp only[aQ.d,aG]at h1 h2;exact⟨h1,h2⟩
 have HPF:=Lib.hid hpf;have hml:n.af.length<=100:=by have:=ft.af.1;simpa[aY.d]using this
 have hpa:n.d.af.any gU=n.af.any (fun x=>gU x.d):=by show(n.af.map aQ.d).any gU=_;rw[atx];rfl
 rw[hpa]at HE;have hl1:n.ax.length<=4000:=ft.ins.1;have hl2:n.ah.length<=4000:=ft.aT.1;have hl3:n.ag.length<=4000:=ft.ag.1;have hl4:n.bk.length<=4000:=ft.out.1;have hl5:n.aU.length<=4000:=ft.fe.1;have hl6:n.constraints.length<=4000:=ft.ga.1;clear hn hn2 hpa hpf ft;obtain⟨z,hz⟩:∃z,z=ij n.d:=⟨_,rfl⟩;rw[<-hz]at HE |-;clear hz;unfold aY.v aY.fs;simp only[aY.d,aG]at HE;rcases(show n.vars<0\/(¬n.vars<0/\2000<n.vars)\/(¬n.vars<0/\¬2000<n.vars/\(2000:Int)<n.ax.length)\/(¬n.vars<0/\¬2000<n.vars/\¬(2000:Int)<n.ax.length/\(2000:Int)<n.ah.length)\/(¬n.vars<0/\¬2000<n.vars/\¬(2000:Int)<n.ax.length/\¬(2000:Int)<n.ah.length/\(2000:Int)<n.ag.length)\/(¬n.vars<0/\¬2000<n.vars/\¬(2000:Int)<n.ax.length/\¬(2000:Int)<n.ah.length/\¬(2000:Int)<n.ag.length)from by omega)with a1|⟨a1,a2⟩|⟨a1,a2,a3⟩|⟨a1,a2,a3,a4⟩|⟨a1,a2,a3,a4,a5⟩|⟨a1,a2,a3,a4,a5⟩
 iterate 5
  .go_enter Tryz.func168,Tryz.ntmps168
   go_wp2_with (go_at_call 198;refine(Uq _ _).mono ?_;rintro e w' ⟨rfl,rfl⟩)
   go_ret
   refine⟨yV ?_,(Below.refl _ _).alloc (ro _) _⟩;rw[HE.out,fm auc];rfl
 .rcases(show(1000:Int)<n.bk.length+n.aU.length+n.constraints.length\/(¬(1000:Int)<n.bk.length+n.aU.length+n.constraints.length/\(4:Int)<n.af.length)\/(¬(1000:Int)<n.bk.length+n.aU.length+n.constraints.length/\¬(4:Int)<n.af.length)from by omega)with b1|⟨b1,b2⟩|⟨b1,b2⟩
  iterate 2
   .go_enter Tryz.func168,Tryz.ntmps168
    go_wp2_with (go_at_call 198;refine(Uq _ _).mono ?_;rintro e w' ⟨rfl,rfl⟩)
    go_ret
    refine⟨yV ?_,(Below.refl _ _).alloc (ro _) _⟩;rw[HE.out,fm auc];rfl
  .go_enter Tryz.func168,Tryz.ntmps168
   go_wp2_with (first|(go_at_call 198;refine(Uq _ _).mono ?_;rintro e w' ⟨rfl,rfl⟩)|(go_at_call 169;refine(ao2 n.Am n.cm n.af _ (HN.out.mem.more aue) HPF.out auc).mono ?_;rintro e w1 ⟨rfl,hb1⟩))
   go_ret
   refine⟨yV ?_,((Below.refl _ _).alloc (ro _) _).trans (hb1.mono aue)⟩;rw[HE.out,jC auc];rfl
open Go.Shelf
attribute [local go_sem] Oper.semAt_some
structure iD(avJ B:Nat)(W W':World):Prop where
 below:Below avJ W W'
 d9:∀(i:Nat) (o:Obj),B<=i->W.heap[i]?=some o->o.isCells=true->W'.heap[i]?=some o
theorem iD.refl(avJ B:Nat)(W:World):iD avJ B W W:=⟨Below.refl _ _,fun _ _ _ h _=>h⟩
variable{avJ:Nat}
theorem iD.trans{B:Nat}{A C D:World}(h:iD avJ B A C)(k:iD avJ B C D):iD avJ B A D:=⟨h.below.trans k.below,fun i o hi hA ho=>k.d9 i o hi (h.d9 i o hi hA ho) ho⟩
variable{W:World}{W':World}
theorem iD.alloc{B:Nat}(h:iD avJ B W W')(hn:avJ<=W'.heap.size)(o:Obj):iD avJ B W (W'.alloc o):=⟨h.below.alloc hn o,fun i o' hi hW ho=>by have h1:=h.d9 i o' hi hW ho;exact(Below.heap_alloc W' o i (asB.1 h1).1).trans h1⟩
theorem iD.setCell{B:Nat}(h:iD avJ B W W'){p:Addr}(h1:avJ<=p.block)(h2:p.block<B)(v:Value):iD avJ B W (W'.setCell p v):=⟨h.below.setCell h1 v,fun i o' hi hW ho=>(Below.heap_setCell W' p v i auc).trans (h.d9 i o' hi hW ho)⟩
theorem aof{B:Nat}{w:World}(hn:avJ<=w.heap.size)(W:World)(l:Nat)(o o':Obj)(hl:w.heap.size<=l)(h:W.heap[l]?=some o)(hc:o.isCells=false)(hw:o.isWalk=false):iD avJ B W (W.putObj l o'):=
 ⟨belowK_b hn W l o o' hl h hc hw,fun i o2 hi hW ho=>by
  by_cases e:i=l
  .subst e
   grind
  .exact(World.putObj_heap_other auc).trans hW⟩
variable{g:Nat}{t:TypeId}
theorem bD.zq{B:Nat}{cs:Array Value}(h:bD W g t cs)(k:iD avJ B W W')(hg:B<=g):bD W' g t cs:=k.d9 g _ hg h rfl
/- the variables in their order, as d9 as they have come -/
def v2(N:aY)(k:Nat):jp:=N.ax++(N.ah.take k).map (·.var)
def rK(m:aQ):jp:=m.reads.flatMap fun r=>cM r.var m.word.toNat
def v3(N:aY)(k:Nat):jp:=N.ax++N.ah.map (·.var)++(N.af.take k).flatMap rK
def v4(N:aY)(k:Nat)(m:aQ)(j:Nat):jp:=v3 N k++(m.reads.take j).flatMap fun r=>cM r.var m.word.toNat
def v5(N:aY)(k:Nat)(m:aQ)(j:Nat)(r:bZ)(i:Nat):jp:=v4 N k m j++cM r.var i
def v6(N:aY)(k:Nat):jp:=N.ax++N.ah.map (·.var)++N.af.flatMap rK++(N.ag.take k).map (·.var)
theorem anu(m:aQ):dy m.d=rK m:=by unfold dy rK aQ.d;rw[asK];rfl
theorem zf(N:aY):bp N.d=N.ax++N.ah.map (·.var)++N.af.flatMap rK++N.ag.map (·.var):=by unfold bp aY.d;simp only;rw[asK];congr 2;exact OF (fun f=>N.af.flatMap f) (funext anu)
theorem Ju(v:Int)(i:Nat):cM v (i+1)=cM v i++[v+(i:Int)]:=by simp[cM,asA]
theorem aqa(v:Int){i j:Nat}(h:i<=j):cM v i <+: cM v j:=by
 obtain⟨d,rfl⟩:=Nat.le.dest h
 induction d with|zero=>exact List.prefix_refl _|succ d ih=>rw[<-asP,Ju];grind
variable{β:Type}
theorem Zqp(f:α->List β)(l:List α)(k:Nat){x:α}(h:l[k]?=some x):(l.take k).flatMap f++f x <+: l.flatMap f:=by
 have:(l.take (k+1)).flatMap f=(l.take k).flatMap f++f x:=by rw[cK h];simp
 rw[<-this]
 conv=>rhs;rw[<-GT (k+1) l]
 grind
theorem vA(f:α->List β){k:Nat}{x:α}(h:l[k]?=some x):(l.take (k+1)).flatMap f=(l.take k).flatMap f++f x:=by rw[cK h];simp
theorem oX{a b c:List α}(h:b <+: c):a++b <+: a++c:=(List.prefix_append_right_inj a).2 h
section
variable{N:aY}{k j i:Nat}
theorem abL{x:Int}(h:N.ax[k]?=some x):N.ax.take k++[x] <+: bp N.d:=by
 rw[zf,<-cK h,bM,bM]
 grind
theorem Po{x:dI}(h:N.ah[k]?=some x):v2 N (k+1)=v2 N k++[x.var]:=by unfold v2;rw[cK h];simp
theorem abM{x:dI}(h:N.ah[k]?=some x):v2 N k++[x.var] <+: bp N.d:=by rw[zf,<-Po h,bM];refine ate ?_ (asY _ _);exact oX (List.IsPrefix.map _ (List.take_prefix _ _))
theorem aoE(h:N.af[k]?=some m):v3 N k++rK m <+: bp N.d:=by rw[zf];refine ate ?_ (asY _ _);unfold v3;rw[bM];exact oX (Zqp rK _ _ h)
theorem abN(h:N.af[k]?=some m)(h2:m.reads[j]?=some r)(hi:i<m.word.toNat):v5 N k m j r i++[r.var+(i:Int)] <+: bp N.d:=by refine ate ?_ (aoE h);unfold v5 v4;rw[bM,bM,<-Ju];refine oX (ate (oX (aqa _ (show i+1<=m.word.toNat by omega))) ?_);exact Zqp (fun r:bZ=>cM r.var m.word.toNat) _ _ h2
theorem abh:v5 N k m j r (i+1)=v5 N k m j r i++[r.var+(i:Int)]:=by unfold v5;rw[Ju,bM]
theorem abi:v5 N k m j r 0=v4 N k m j:=by simp[v5,cM]
theorem abg(h2:m.reads[j]?=some r):v5 N k m j r m.word.toNat=v4 N k m (j+1):=by unfold v5 v4;rw[vA _ h2,bM]
theorem adH:v4 N k m 0=v3 N k:=by simp[v4]
theorem adI(h:N.af[k]?=some m)(hj:m.reads.length<=j):v4 N k m j=v3 N (k+1):=by unfold v4 v3;rw[vA _ h,IT hj];simp[rK]
theorem adK(hk:N.af.length<=k):v3 N k=v6 N 0:=by unfold v3 v6;rw[IT hk];simp
theorem adJ(hk:N.ah.length<=k):v2 N k=v3 N 0:=by unfold v2 v3;rw[IT hk];simp
theorem abf(hk:N.ax.length<=k):N.ax.take k=v2 N 0:=by unfold v2;rw[IT hk];simp
theorem Pn{x:dM}(h:N.ag[k]?=some x):v6 N (k+1)=v6 N k++[x.var]:=by unfold v6;rw[cK h];simp
theorem abO{x:dM}(h:N.ag[k]?=some x):v6 N k++[x.var] <+: bp N.d:=by rw[zf,<-Pn h];exact oX (List.IsPrefix.map _ (List.take_prefix _ _))
theorem adG(hk:N.ag.length<=k):v6 N k=bp N.d:=by rw[zf];unfold v6;rw[IT hk]
end
variable{D:jp}{x:Int}{pre:jp}
theorem sc(h:pre++[x] <+: D):pre.length<D.length:=by grind
set_option maxRecDepth 100000
theorem alG(F:Fence)(n:Nat)(hF:F.fn 191)(hro:F.round=none)(hn:1<=n)(l Bx avJ B:Nat)(N:aY)(J Jx:jp->World->Prop)(W:World)
  (hJ:∀(s:jp) (A:World) (o:Obj),J s A->J s (A.alloc o))
  (hY:∀pre x W1,J pre W1->pre.length<(bp N.d).length->YieldAt F (n-1) Tryz.prog l #[.int .i64 x] W1 fun e W'=>(e=.returned (.bool true)/\J (pre++[x]) W'/\iD avJ B W1 W')\/(e=.returned (.bool false)/\Jx (pre++[x]) W'))
  (hBx:bD W Bx 27 N.fs) (hBl:B<=Bx) (hok:N.dk W avJ) (hn0:avJ<=W.heap.size) (hBW:B<=W.heap.size) (h0:J [] W) (ft:Fit N.d) :
  CallsIn F n Tryz.prog 191 #[.func (.yield l) #[] #[],.pointer (some ⟨Bx,0,none⟩)] W fun e W'=>(∃v,e=.returned v) /\
   ((∃ys,ys=bp N.d/\J ys W')\/(∃pre,pre <+: bp N.d/\Jx pre W')):=by
 have HJ:=Lib.hid hJ;have HY:=Lib.hid hY;have HB:=Lib.hid hBx;have HOK:=Lib.hid hok;have hl1:N.ax.length<=4000:=ft.ins.1;have hl2:N.ah.length<=4000:=ft.aT.1;have hl3:N.ag.length<=4000:=ft.ag.1;have hl4:N.af.length<=100:=by have:=ft.af.1;simpa[aY.d]using this
 have HMF:=Lib.hid (ft.af.2);have hf1:W.cell? ⟨Bx,1,none⟩=some (.slice N.Ai N.ax.length N.ci):=hBx.cell 1;clear hJ hY hok ft hBx;refine callsIn_of_wp Tryz.func191 rfl hF ?_ hro;simp only[Tryz.ntmps191,atG,dG,If,Nat.reduceAdd,Nat.reduceSub,atq,atr,atH,atz,PP,ask]
 gi_wp2
 gi_loopw [17] (fun i wr=>∃k:Nat,k<=N.ax.length/\i=.int .i64 k/\J (N.ax.take k) wr/\iD avJ B W wr) (fun i _=>N.ax.length-(intOf i).toNat)
 case atStart=>exact⟨0,Do _,rfl,by simpa using h0,iD.refl _ _ _⟩
 case round=>
  obtain⟨k,hk,rfl,hJs,hkp⟩:=hrel;by_cases hlt:k<N.ax.length
  .obtain⟨b,off,x,e1,hb,hx,hm,hc⟩:=(HOK.out.below hkp.below).ins.pJ hlt;have hp:=abL hx;obtain⟨fn,tmps,assign,body,hy,hR⟩:=HY.out (N.ax.take k) x wr hJs (sc hp);have HX:=Lib.hid hx;have HP:=Lib.hid hp;have HE1:=Lib.hid e1;clear hx hp hm;rw[e1];clear e1
   gi_wp2
   refine hR.mono ?_;rintro e W3 (⟨rfl,hJ3,hk3⟩|⟨rfl,hJx3⟩)
   .gi_wp2
    go_roundw
    case rel=>exact⟨k+1,auc,aue,by rw[cK HX.out];exact hJ3,hkp.trans hk3⟩
    case measure=>simp[intOf];omega
   .gi_wp2
    refine bodyPost_ret (results_none rfl _ _ _) rfl ?_;exact⟨⟨_,rfl⟩,.inr ⟨_,HP.out,hJx3⟩⟩
  .rw[abf auc]at hJs;have hf2:wr.cell? ⟨Bx,2,none⟩=some (.slice N.Al N.ah.length N.cl):=(HB.out.zq hkp hBl).cell 2
   gi_wp2
   obtain⟨w1,rfl⟩:∃w1:World,w1=wr:=⟨_,rfl⟩;clear hf2 hlt hk
   gi_loopw [29] (fun i wr=>∃k:Nat,k<=N.ah.length/\i=.int .i64 k/\J (v2 N k) wr/\iD avJ B W wr) (fun i _=>N.ah.length-(intOf i).toNat)
   case atStart=>exact⟨0,Do _,rfl,hJs,hkp⟩
   case round=>
    clear hJs hkp;obtain⟨k,hk,rfl,hJs,hkp⟩:=hrel;have hsz:=hkp.below.size;by_cases hlt:k<N.ah.length
    .obtain⟨b,off,x,e1,hb,hx,hm,hcs⟩:=(HOK.out.below hkp.below).aT.elem auc (fun _=>rfl) hlt;obtain⟨hc0,hc1,hc2⟩:=dI.at_ hcs;have hp:=abM hx;obtain⟨fn,tmps,assign,body,hy,hR⟩:=HY.out (v2 N k) x.var (wr.alloc (.cells #[.int .i64 x.var,.int .i64 x.next,.int .i64 x.init] 78)) (HJ.out _ _ _ hJs) (sc hp);have HX:=Lib.hid hx;have HP:=Lib.hid hp;clear hx hp hm hcs;rw[e1];clear e1
     gi_wp2
     refine hR.mono ?_;rintro e W3 (⟨rfl,hJ3,hk3⟩|⟨rfl,hJx3⟩)
     .gi_wp2
      go_roundw
      case rel=>exact⟨k+1,auc,aue,by rw[Po HX.out];exact hJ3,(hkp.alloc auc _).trans hk3⟩
      case measure=>simp[intOf];omega
     .gi_wp2
      refine bodyPost_ret (results_none rfl _ _ _) rfl ?_;exact⟨⟨_,rfl⟩,.inr ⟨_,HP.out,hJx3⟩⟩
    .rw[adJ auc]at hJs;have hf3:wr.cell? ⟨Bx,6,none⟩=some (.slice N.Am N.af.length N.cm):=(HB.out.zq hkp hBl).cell 6
     gi_wp2
     obtain⟨w2,rfl⟩:∃w2:World,w2=wr:=⟨_,rfl⟩;clear hf3 hlt hk hsz
     gi_loopw [42] (fun i wr=>∃k:Nat,k<=N.af.length/\i=.int .i64 k/\J (v3 N k) wr/\iD avJ B W wr) (fun i _=>N.af.length-(intOf i).toNat)
     case atStart=>exact⟨0,Do _,rfl,hJs,hkp⟩
     case round=>
      clear hJs hkp;obtain⟨k,hk,rfl,hJs,hkp⟩:=hrel;have hsz:=hkp.below.size;by_cases hlt:k<N.af.length
      .obtain⟨b,off,m,e1,hb,hx,hm,hcs⟩:=(HOK.out.below hkp.below).mem.elem auc (fun _=>rfl) hlt;obtain⟨hc0,hc1,hc2,hc3,hc4⟩:=aQ.at_ hcs;have HX:=Lib.hid hx;have HM:=Lib.hid (HOK.out.kA m hm);have hfm:=HMF.out m.d (AT hm);have hrn:m.reads.length<=100:=by have:=hfm.kO;simpa[aQ.d]using this
       have hw1:m.word<=4000:=hfm.word.2;have hw0:-9223372036854775808<=m.word:=hfm.word.1.1;have HRF:=Lib.hid hfm.fq;clear hx hm hcs hfm;rw[e1];clear e1
       gi_wp2
       obtain⟨c,hc⟩:∃c,c=wr.heap.size:=⟨_,rfl⟩;have hkp2:=hkp.alloc (show avJ<=wr.heap.size by omega) (.cells m.cells.toArray 97);have hJ2:=HJ.out _ _ (.cells m.cells.toArray 97) hJs;have hbk:=bD.new wr 97 m.cells.toArray;have hcB:B<=c:=auc
       rw[<-hc]at hbk |-;rw[<-adH (m:=m)]at hJ2;clear hc hJs hkp hc0 hc1 hc2 hc3 hc4;change Code.wpIn _ _ _ _ _ _ (wr.alloc (.cells m.cells.toArray 97));obtain⟨w3,hw3⟩:∃w3:World,w3=wr.alloc (.cells m.cells.toArray 97):=⟨_,rfl⟩;rw[<-hw3]at hkp2 hJ2 hbk |-;clear hw3 hsz
       gi_loopw [49] (fun i wr=>∃j:Nat,j<=m.reads.length/\i=.int .i64 j/\J (v4 N k m j) wr/\iD avJ B W wr/\bD wr c 97 m.cells.toArray) (fun i _=>m.reads.length-(intOf i).toNat)
       case atStart=>exact⟨0,Do _,rfl,hJ2,hkp2,hbk⟩
       case round=>
        clear hJ2 hkp2 hbk;obtain⟨j,hj,rfl,hJs,hkp,hbk⟩:=hrel;have hsz:=hkp.below.size;by_cases hlt2:j<m.reads.length
        .obtain⟨b2,off2,r,e1,hb2,hx2,hm2,hcs⟩:=(HM.out.below hkp.below).rd.elem auc (fun _=>rfl) hlt2;obtain⟨hc0,hc1⟩:=bZ.at_ hcs;have HX2:=Lib.hid hx2;obtain⟨_,hv1,hv2,_⟩:=HRF.out r.d (AT hm2);change -1099511627776<=r.var at hv1;change r.var<=1099511627776 at hv2;have hcw:wr.cell? ⟨c,1,none⟩=some (.int .i64 m.word):=hbk.cell 1;have hcl:c<wr.heap.size:=hbk.lt;clear hx2 hm2 hcs;rw[e1];clear e1
         gi_wp2
         obtain⟨d,hd⟩:∃d,d=wr.heap.size:=⟨_,rfl⟩;have hkp2:=hkp.alloc (show avJ<=wr.heap.size by omega) (.cells r.cells.toArray 148);have hJ2:=HJ.out _ _ (.cells r.cells.toArray 148) hJs;have hbk2:=bD.new wr 148 r.cells.toArray;have hbk1:=hbk.alloc (.cells r.cells.toArray 148);have hdB:B<=d:=auc
         rw[<-hd]at hbk2 |-;rw[<-abi (r:=r)]at hJ2;clear hd hJs hkp hbk hc0 hc1 hcw;change Code.wpIn _ _ _ _ _ _ (wr.alloc (.cells r.cells.toArray 148));obtain⟨w4,hw4⟩:∃w4:World,w4=wr.alloc (.cells r.cells.toArray 148):=⟨_,rfl⟩;rw[<-hw4]at hkp2 hJ2 hbk2 hbk1 |-;clear hw4 hsz hcl
         gi_loopw [55] (fun i wr=>∃q:Nat,q<=m.word.toNat/\i=.int .i64 q/\J (v5 N k m j r q) wr/\iD avJ B W wr/\bD wr c 97 m.cells.toArray/\bD wr d 148 r.cells.toArray) (fun i _=>m.word.toNat-(intOf i).toNat)
         case atStart=>exact⟨0,Do _,rfl,hJ2,hkp2,hbk1,hbk2⟩
         case round=>
          clear hJ2 hkp2 hbk1 hbk2;obtain⟨q,hq,rfl,hJs,hkp,hbk1,hbk2⟩:=hrel;by_cases hlt3:(q:Int)<m.word
          .have hp:=abN (i:=q) HX.out HX2.out auc;obtain⟨fn,tmps,assign,body,hy,hR⟩:=HY.out (v5 N k m j r q) (r.var+(q:Int)) wr hJs (sc hp);have HP:=Lib.hid hp;have hcv:wr.cell? ⟨d,0,none⟩=some (.int .i64 r.var):=hbk2.cell 0;clear hp
           gi_wp2
           refine hR.mono ?_;rintro e W3 (⟨rfl,hJ3,hk3⟩|⟨rfl,hJx3⟩)
           .gi_wp2
            go_roundw
            case rel=>exact⟨q+1,auc,aue,by rw[abh];exact hJ3,hkp.trans hk3,hbk1.zq hk3 hcB,hbk2.zq hk3 hdB⟩
            case measure=>simp[intOf];omega
           .gi_wp2
            refine bodyPost_ret (results_none rfl _ _ _) rfl ?_;exact⟨⟨_,rfl⟩,.inr ⟨_,HP.out,hJx3⟩⟩
          .obtain rfl:q=m.word.toNat:=auc
           rw[abg HX2.out]at hJs
           gi_wp2
           go_roundw
           case rel=>exact⟨j+1,auc,aue,hJs,hkp,hbk1⟩
           case measure=>simp[intOf];omega
        .rw[adI HX.out auc]at hJs
         gi_wp2
         go_roundw
         case rel=>exact⟨k+1,auc,aue,hJs,hkp⟩
         case measure=>simp[intOf];omega
      .rw[adK auc]at hJs;have hf4:wr.cell? ⟨Bx,7,none⟩=some (.slice N.An N.ag.length N.cn):=(HB.out.zq hkp hBl).cell 7
       gi_wp2
       obtain⟨w3,rfl⟩:∃w3:World,w3=wr:=⟨_,rfl⟩;clear hf4 hlt hk hsz
       gi_loopw [71] (fun i wr=>∃k:Nat,k<=N.ag.length/\i=.int .i64 k/\J (v6 N k) wr/\iD avJ B W wr) (fun i _=>N.ag.length-(intOf i).toNat)
       case atStart=>exact⟨0,Do _,rfl,hJs,hkp⟩
       case round=>
        clear hJs hkp;obtain⟨k,hk,rfl,hJs,hkp⟩:=hrel;have hsz:=hkp.below.size;by_cases hlt:k<N.ag.length
        .obtain⟨b,off,x,e1,hb,hx,hm,hcs⟩:=(HOK.out.below hkp.below).and.elem auc (fun _=>rfl) hlt;obtain⟨hc0,hc1,hc2⟩:=dM.at_ hcs;have hp:=abO hx;obtain⟨fn,tmps,assign,body,hy,hR⟩:=HY.out (v6 N k) x.var (wr.alloc (.cells #[.int .i64 x.var,.int .i64 x.a,.int .i64 x.b] 113)) (HJ.out _ _ _ hJs) (sc hp);have HX:=Lib.hid hx;have HP:=Lib.hid hp;clear hx hp hm hcs;rw[e1];clear e1
         gi_wp2
         refine hR.mono ?_;rintro e W3 (⟨rfl,hJ3,hk3⟩|⟨rfl,hJx3⟩)
         .gi_wp2
          go_roundw
          case rel=>exact⟨k+1,auc,aue,by rw[Pn HX.out];exact hJ3,(hkp.alloc auc _).trans hk3⟩
          case measure=>simp[intOf];omega
         .gi_wp2
          refine bodyPost_ret (results_none rfl _ _ _) rfl ?_;exact⟨⟨_,rfl⟩,.inr ⟨_,HP.out,hJx3⟩⟩
        .rw[adG auc]at hJs
         gi_wp2
         go_end0
         exact⟨⟨_,rfl⟩,.inl ⟨_,rfl,hJs⟩⟩
theorem apo(F:Fence)(n:Nat)(hF:F.fn 191)(hro:F.round=none)(hn:1<=n)(Bx avJ B:Nat)(N:aY)(w:World)
  (hBx:bD w Bx 27 N.fs) (hBl:B<=Bx) (hok:N.dk w avJ) (hn0:avJ<=w.heap.size) (ft:Fit N.d) :
  SeqStopsK F n Tryz.prog 191 #[.pointer (some ⟨Bx,0,none⟩)] (fun x:Int=>#[Value.int .i64 x]) (iD avJ B) (fun ys=>ys=bp N.d) (fun pre=>pre <+: bp N.d) (bp N.d).length w:=
 fun l J Jx W hW hJ _ hY h0=>alG F n hF hro hn l Bx avJ B N J Jx W (fun s A o h=>hJ s A _ none h (World.grownBy_alloc A o none) (fun r e=>by cases e)) hY (hBx.below hW hBx.lt) hBl (hok.below (hW.mono hn0)) (EQ hn0 hW.size) (EQ (asZ (Nat.lt_of_le_of_lt hBl hBx.lt)) hW.size) h0 ft
theorem abl(F:Fence)(n:Nat)(hF:F.fn 148)(hro:F.round=none)(N:aY)(w:World) :
  CallsIn F n Tryz.prog 148 #[N.v] w fun e w'=>e=.returned (.func (.func 191) #[] #[.pointer (some ⟨w.heap.size,0,none⟩)])/\w'=w.alloc (.cells N.fs 27):=by
 unfold aY.v aY.fs;refine callsIn_of_wp Tryz.func148 rfl hF ?_ hro;simp only[Tryz.ntmps148,atG,dG,If,Nat.reduceAdd,Nat.reduceSub,atq,atr,atH,atz,PP,ask]
 gi_wp2
 go_ret
 exact⟨rfl,rfl⟩
attribute [local go_sem] Oper.semAt_some
def qX(V:Nat)(pre:jp):Prop:=pre.Nodup/\∀x∈pre,1<=x/\x<=(V:Int)
variable{V:Nat}
theorem qX.snoc(h:qX V pre)(h1:1<=x)(h2:x<=V)(h3:pre.contains x=false):qX V (pre++[x]):=by
 refine⟨?_,fun y hy=>?_⟩
 .rw[rx];refine⟨h.1,aue,fun a ha b hb=>?_⟩
  grind
 .rcases qr.1 hy with hy|hy
  .exact h.2 y hy
  grind
theorem adz{V:Nat}:∀(l pre:jp),qX V (pre++l)->dup V pre l=if((pre++l).length:Int)<V then 7 else 0
 |[],pre,_=>by simp[dup]|x::l,pre,h=>by
  have hx:=h.2 x aue;have hn:pre.contains x=false:=by
   rw[List.contains_eq_mem];simp;intro hm;have:=h.1
   grind
  rw[dup,Fr auc,Fr (by grind),adz l (pre++[x]) (by grind)];simp
theorem aeb{V:Nat}{x:Int}{rest:jp}:∀(l pre:jp),qX V (pre++l)->dup V pre (l++x::rest)=dup V (pre++l) (x::rest)
 |[],pre,_=>by simp|y::l,pre,h=>by
  have hx:=h.2 y aue;have hn:pre.contains y=false:=by
   rw[List.contains_eq_mem];simp;intro hm;have:=h.1
   grind
  show dup V pre (y::(l++x::rest))=_;rw[dup,Fr auc,Fr (by grind),aeb l (pre++[y]) (by grind)];simp
def sV(V:Nat)(pre:jp)(x:Int):Option Int:=if x<1\/(V:Int)<x then some 5 else if pre.contains x then some 6 else none
theorem alW{r:Int}(h:qX V pre)(hp:pre++[x] <+: D)(hb:sV V pre x=some r):dup V [] D=r:=by
 obtain⟨rest,rfl⟩:=hp;rw[bM,List.singleton_append,aeb pre [] (by grind),PP,dup];unfold sV at hb
 grind
theorem tT{B:Nat}(cs:β->Array Value):OwnFrom B (fun(s:β) W=>bD W g t (cs s)):=fun s W W' row hs hg hr=>hs.grown hg (fun e=>by obtain⟨_,o,ho,hc⟩:=hr g e.symm;have hs':W.heap[g]?=some (.cells (cs s) t (0,0)):=hs;rw[ho]at hs';injection hs' with hs';subst hs';cases hc)
theorem ali{B:Nat}(p:β->Prop):OwnFrom B (fun(s:β) (_:World)=>p s):=fun _ _ _ _ hs _ _=>hs
theorem Zxz(V:Nat):madeCells #[Value.bool false] (V+1)=((mH V []).map Value.bool).toArray:=by apply ata.1;rw[toList_madeCells_one,aoP];simp
theorem Zup{v:Nat}(h:v<=V):(((mH V pre).map Value.bool).toArray).setIfInBounds v (.bool true)=((mH V (pre++[(v:Int)])).map Value.bool).toArray:=by rw[<-apO h,atJ,List.map_set]
theorem aoO{v:Nat}(h:v<=V):(((mH V pre).map Value.bool).toArray)[v]?=some (.bool (pre.contains (v:Int))):=by simp only[IN,cW,JF h];rfl
abbrev iR(V:Int)(N:aY):Array Value:=#[.int .i64 V,.slice N.Ai N.ax.length N.ci,.slice N.Al N.ah.length N.cl,.slice N.Ao N.bk.length N.co,.slice N.Ab N.aU.length N.cb,.slice N.Ac N.constraints.length N.cc,.slice N.Am N.af.length N.cm,.slice N.An N.ag.length N.cn]
theorem apf(N:aY)(V:Nat)(w:World)(hV:N.vars=(V:Int))(hV2:V<=2000)(hok:N.dk w w.heap.size)(ft:Fit N.d)(hD:(bp N.d).length<=1000000) :
  Calls Tryz.prog 173 #[N.v] w fun e w'=>e=.returned (.int .i64 (dup V [] (bp N.d)))/\Below w.heap.size w w':=by
 have HV:=Lib.hid hV;have HF:=Lib.hid ft;have HOK:=Lib.hid hok;clear ft hok;unfold aY.v aY.fs;rw[hV];clear hV;obtain⟨i0,hi0,hz0,hz1,hz2⟩:=info_parts aoT;have hb:(i0.bytes:Int)*((V:Int)+1)<=281474976710656:=by rw[hz2];omega
 have hmk:=fun w:World=>run_make (P:=Tryz.prog) w 28 4 i0 (.bool false) Tryz.underlying28 hi0 hz0 .i64 .i64 ((V:Int)+1) ((V:Int)+1) auc (atm _) hb auc;clear hi0 hz0 hz2 hb;have hv:∀n w,CallsIn Fence.wide n Tryz.prog 148 #[.agg (iR V N)] w fun e w'=>e=.returned (.func (.func 191) #[] #[.pointer (some ⟨w.heap.size,0,none⟩)])/\w'=w.alloc (.cells (iR V N) 27):=fun n w=>by have:=abl Fence.wide n trivial rfl N w;unfold aY.v aY.fs at this;rw[HV.out]at this;exact this
 have HVI:=Lib.hid hv;clear hv;refine(callsIn_wide (n:=3)).1 ?_;refine callsIn_of_wp_marks Tryz.func173 rfl trivial ?_ rfl;simp only[Tryz.ntmps173,atG,dG,If,Nat.reduceAdd,Nat.reduceSub,atq,atr,atH,atz,PP,ask];have hvf:Fence.wide.fn 148:=trivial
 gi_wp2_with (gi_at_call 148;refine(HVI.out _ _).mono ?_;rintro e w' ⟨rfl,rfl⟩)
 have hw0:Below w.heap.size w (((((w.alloc (.cells (iR V N) 27)).alloc (.cells #[.int .i64 0] 36)).alloc (.cells (madeCells #[Value.bool false] (V+1)) 4)).alloc (.cells #[.slice (some ⟨w.heap.size+1+1,0,none⟩) (V+1) (V+1)] 28)).alloc (.cells #[.int .i64 V] 3)):=(((((Below.refl _ w).alloc (ro _) _).alloc aue _).alloc (by simp;omega) _).alloc (by simp;omega) _).alloc (by simp;omega) _;have hw1:=hw0.alloc (by simp;omega) (.cells (iR V N) 27);have b0:=((((bD.new w 27 (iR V N)).alloc (.cells #[.int .i64 0] 36)).alloc (.cells (madeCells #[Value.bool false] (V+1)) 4)).alloc (.cells #[.slice (some ⟨w.heap.size+1+1,0,none⟩) (V+1) (V+1)] 28)).alloc (.cells #[.int .i64 V] 3) |>.alloc (.cells (iR V N) 27);have b1:=(((bD.new (w.alloc (.cells (iR V N) 27)) 36 #[.int .i64 0]).alloc (.cells (madeCells #[Value.bool false] (V+1)) 4)).alloc (.cells #[.slice (some ⟨w.heap.size+1+1,0,none⟩) (V+1) (V+1)] 28)).alloc (.cells #[.int .i64 V] 3) |>.alloc (.cells (iR V N) 27);have b2:=((bD.new ((w.alloc (.cells (iR V N) 27)).alloc (.cells #[.int .i64 0] 36)) 4 (madeCells #[Value.bool false] (V+1))).alloc (.cells #[.slice (some ⟨w.heap.size+1+1,0,none⟩) (V+1) (V+1)] 28)).alloc (.cells #[.int .i64 V] 3) |>.alloc (.cells (iR V N) 27);have b3:=(bD.new (((w.alloc (.cells (iR V N) 27)).alloc (.cells #[.int .i64 0] 36)).alloc (.cells (madeCells #[Value.bool false] (V+1)) 4)) 28 #[.slice (some ⟨w.heap.size+1+1,0,none⟩) (V+1) (V+1)]).alloc (.cells #[.int .i64 V] 3) |>.alloc (.cells (iR V N) 27);have b4:=(bD.new ((((w.alloc (.cells (iR V N) 27)).alloc (.cells #[.int .i64 0] 36)).alloc (.cells (madeCells #[Value.bool false] (V+1)) 4)).alloc (.cells #[.slice (some ⟨w.heap.size+1+1,0,none⟩) (V+1) (V+1)] 28)) 3 #[.int .i64 V]).alloc (.cells (iR V N) 27);have b5:=bD.new (((((w.alloc (.cells (iR V N) 27)).alloc (.cells #[.int .i64 0] 36)).alloc (.cells (madeCells #[Value.bool false] (V+1)) 4)).alloc (.cells #[.slice (some ⟨w.heap.size+1+1,0,none⟩) (V+1) (V+1)] 28)).alloc (.cells #[.int .i64 V] 3)) 27 (iR V N);simp only[World.size_alloc]at b1 b2 b3 b4 b5;have hsz:((((((w.alloc (.cells (iR V N) 27)).alloc (.cells #[.int .i64 0] 36)).alloc (.cells (madeCells #[Value.bool false] (V+1)) 4)).alloc (.cells #[.slice (some ⟨w.heap.size+1+1,0,none⟩) (V+1) (V+1)] 28)).alloc (.cells #[.int .i64 V] 3)).alloc (.cells (iR V N) 27)).heap.size=w.heap.size+6:=aue
 generalize (((((w.alloc (.cells (iR V N) 27)).alloc (.cells #[.int .i64 0] 36)).alloc (.cells (madeCells #[Value.bool false] (V+1)) 4)).alloc (.cells #[.slice (some ⟨w.heap.size+1+1,0,none⟩) (V+1) (V+1)] 28)).alloc (.cells #[.int .i64 V] 3)).alloc (.cells (iR V N) 27)=W0 at hw1 b0 b1 b2 b3 b4 b5 hsz |-;clear hw0 hmk hz1;rw[Zxz]at b2;have hfs:N.fs=(iR V N):=by unfold aY.fs;rw[HV.out]
 refine wpIn_rangeFunc_ownF rfl auc (gf:=191) (lb:=#[.pointer (some ⟨w.heap.size+1+1+1+1+1,0,none⟩)]) rfl trivial (enters_of Tryz.func191 aud rfl)
  (apo Fence.wide 2 trivial rfl auc (w.heap.size+1+1+1+1+1) w.heap.size (w.heap.size+1+1+1+1+1) N W0 (by rw[hfs];exact b5) (ro _) (HOK.out.below hw1) auc HF.out) iD.trans (aof auc) (Below.refl _ _) (fun _=>rfl)
  (fun pre W=>(qX V pre/\bD W w.heap.size 27 (iR V N)/\bD W (w.heap.size+1) 36 #[.int .i64 0]/\bD W (w.heap.size+1+1) 4 ((mH V pre).map Value.bool).toArray/\bD W (w.heap.size+1+1+1) 28 #[.slice (some ⟨w.heap.size+1+1,0,none⟩) (V+1) (V+1)]/\bD W (w.heap.size+1+1+1+1) 3 #[.int .i64 ((V:Int)-pre.length)])/\Below w.heap.size w W)
  (fun c pre W=>(∃pre' x r,(c=.ret/\pre=pre'++[x]/\qX V pre'/\sV V pre' x=some r)/\bD W (w.heap.size+1) 36 #[.int .i64 r])/\Below w.heap.size w W)
  (OwnFrom.and (OwnFrom.and (ali _) (OwnFrom.and (tT _) (OwnFrom.and (tT _) (OwnFrom.and (tT _) (OwnFrom.and (tT _) (tT _)))))) (ownFrom_below (ro _) auc))
  (fun c=>OwnFrom.and (fun s W W' row hs hg hr=>by obtain⟨pre',x,r,h1,h2⟩:=hs;exact⟨pre',x,r,h1,tT (β:=Unit) (fun _=>#[.int .i64 r]) () W W' row h2 hg hr⟩) (ownFrom_below (ro _) auc))
  ⟨⟨⟨atN,aue⟩,b0,b1,b2,b3,by simpa using b4⟩,hw1⟩
  (fun x=>{ tmps:=#[.agg (iR V N),.pointer (some ⟨w.heap.size,0,none⟩),.pointer (some ⟨w.heap.size+1,0,none⟩),.pointer (some ⟨w.heap.size+1+1+1,0,none⟩),.pointer (some ⟨w.heap.size+1+1+1+1,0,none⟩),.int .i64 x,.pointer (some ⟨w.heap.size,0,none⟩),.int .i64 V,.int .i64 ((V:Int)+1),.slice (some ⟨w.heap.size+1+1,0,none⟩) (V+1) (V+1),.pointer (some ⟨w.heap.size,0,none⟩),.int .i64 V,.agg (iR V N),.func (.func 191) #[] #[.pointer (some ⟨w.heap.size+1+1+1+1+1,0,none⟩)],.int .i64 x,undef,undef,undef,undef,undef,undef,undef,undef,undef,undef,undef,undef,undef,undef,undef,undef,undef,undef,undef,undef,undef],defers:=[] }) ?assign ?body ?done ?stop
 case assign=>
  intro l x W K hK
  gi_wp2
  exact hK
 case body=>
  rintro l pre x W ⟨⟨hfn,c0,c1,c2,c3,c4⟩,hB⟩ hlen;clear b0 b1 b2 b3 b4 b5 hw1 HOK HF HVI hfs;have hc0:=c0.cell 0;have hc1:=c1.cell 0;have hf1:=c1.frozen 0;have hc3:=c3.cell 0;have hc4:=c4.cell 0;have hf4:=c4.frozen 0;simp only[IN,FS]at hc0 hc1 hc3 hc4;by_cases hbad:x<1\/(V:Int)<x
  .have hbo:sV V pre x=some 5:=by unfold sV;rw[IO hbad]
   have HBO:=Lib.hid hbo;have HFN:=Lib.hid hfn;clear hbo hfn c0 c2 c3 c4;rcases(show x<1\/(¬x<1/\(V:Int)<x)from by omega)with h1|⟨h1,h2⟩
   all_goals
    gi_wp2
    exact⟨KeepsOthers.setCell _ _ _,⟨pre,x,5,⟨rfl,rfl,HFN.out,HBO.out⟩,c1.gO 0 _⟩,hB.setCell (p:=⟨w.heap.size+1,0,none⟩) aue _⟩
  .obtain⟨v,rfl⟩:=By (show 0<=x by omega);have h1:¬((v:Int)<1):=auc
   have h2:¬((V:Int)<v):=auc
   have h3:v<=V:=auc
   have hcs:=(c2.cell v).trans (aoO h3);have hfs:=c2.frozen v;rcases hct:pre.contains (v:Int)with _|_
   .rw[hct]at hcs;have HFN:=Lib.hid (hfn.snoc auc auc hct);have hlen2:pre.length<=1000000:=auc
    clear hct hfn hbad
    gi_wp2
    refine⟨(KeepsOthers.setCell _ _ _).trans (KeepsOthers.setCell _ _ _),((iD.refl _ _ _).setCell (p:=⟨w.heap.size+1+1,v,none⟩) (by simp;omega) aue _).setCell (p:=⟨w.heap.size+1+1+1+1,0,none⟩) (by simp;omega) aue _,⟨HFN.out,?_,?_,?_,?_,?_⟩,(hB.setCell (p:=⟨w.heap.size+1+1,v,none⟩) (by simp;omega) _).setCell (p:=⟨w.heap.size+1+1+1+1,0,none⟩) (by simp;omega) _⟩
    .exact(c0.d9 (p:=⟨w.heap.size+1+1,v,none⟩) (by simp;omega) _).d9 (by simp;omega) _
    .exact(c1.d9 (p:=⟨w.heap.size+1+1,v,none⟩) aue _).d9 (by simp<;>omega) _
    .have:=(c2.gO v (.bool true)).d9 (p:=⟨w.heap.size+1+1+1+1,0,none⟩) (by simp<;>omega) (.int .i64 ((V:Int)-pre.length-1));rw[Zup h3]at this;exact this
    .exact(c3.d9 (p:=⟨w.heap.size+1+1,v,none⟩) aue _).d9 aue _
    .have:=(c4.d9 (p:=⟨w.heap.size+1+1,v,none⟩) (by simp;omega) (.bool true)).gO 0 (.int .i64 ((V:Int)-pre.length-1));rw[show(V:Int)-((pre++[(v:Int)]).length:Nat)=(V:Int)-pre.length-1 by simp;omega];exact this
   .have hbo:sV V pre v=some 6:=by unfold sV;rw[Fr hbad,IO hct]
    rw[hct]at hcs;have HBO:=Lib.hid hbo;have HFN:=Lib.hid hfn;clear hbo hfn hct c0 c2 c3 c4 hbad
    gi_wp2
    exact⟨KeepsOthers.setCell _ _ _,⟨pre,v,6,⟨rfl,rfl,HFN.out,HBO.out⟩,c1.gO 0 _⟩,hB.setCell (p:=⟨w.heap.size+1,0,none⟩) aue _⟩
 case done=>
  rintro D ys W hD2 hys ⟨⟨hfn,c0,c1,c2,c3,c4⟩,hB⟩ hK;have hdu:=adz ys [] (by simpa using hfn);rw[hys]at hdu;have hyl:ys.length<=1000000:=by rw[hys];exact hD
  have hyl2:(bp N.d).length=ys.length:=by rw[hys]
  rw[PP,hyl2]at hdu;have HDU:=Lib.hid hdu;have hc1:=c1.cell 0;have hf1:=c1.frozen 0;have hc4:=c4.cell 0;simp only[IN,FS]at hc1 hc4;clear b0 b1 b2 b3 b4 b5 hw1 HOK HF HVI hfs hdu hyl2 hys hfn c0 c2 c3 c4;by_cases hlt:(0:Int)<(V:Int)-ys.length
  .gi_wp2
   have hK':=(KeepsOthers.setCell W ⟨w.heap.size+1,0,none⟩ (.int .i64 7)).same D _ hK rfl;refine⟨aue,.inl ⟨_,_,rfl,run_takeDeferred hK',?_⟩⟩;have hc5:=cell_kept (World.cell?_setCell_same' W ⟨w.heap.size+1,0,none⟩ (.int .i64 7) (by rw[hc1];rfl)) (grownBy_putObj' _ D (.deferred none)) (fun r e=>by cases e;exact⟨_,hK',rfl⟩);refine⟨.int .i64 7,?_,by rw[HDU.out,IO auc],(hB.setCell (p:=⟨w.heap.size+1,0,none⟩) aue _).trans (belowK_b (w:=w) (ro _) _ D _ _ auc hK' rfl rfl)⟩;simp[results,Tryz.f173,go_sem,hc5]
  .gi_wp2
   have hK':=(KeepsOthers.setCell W ⟨w.heap.size+1,0,none⟩ (.int .i64 0)).same D _ hK rfl;refine⟨aue,.inl ⟨_,_,rfl,run_takeDeferred hK',?_⟩⟩;have hc5:=cell_kept (World.cell?_setCell_same' W ⟨w.heap.size+1,0,none⟩ (.int .i64 0) (by rw[hc1];rfl)) (grownBy_putObj' _ D (.deferred none)) (fun r e=>by cases e;exact⟨_,hK',rfl⟩);refine⟨.int .i64 0,?_,by rw[HDU.out,Fr auc],(hB.setCell (p:=⟨w.heap.size+1,0,none⟩) aue _).trans (belowK_b (w:=w) (ro _) _ D _ _ auc hK' rfl rfl)⟩;simp[results,Tryz.f173,go_sem,hc5]
 case stop=>
  rintro D c pre W hD2 hpre ⟨⟨pre',x,r,⟨rfl,rfl,hfn,hbo⟩,c1⟩,hB⟩ hK;have HDU:=Lib.hid (alW hfn hpre hbo);have hc1:=c1.cell 0;simp only[IN,FS]at hc1;clear b0 b1 b2 b3 b4 b5 hw1 HOK HF HVI hfs hfn hpre hbo
  gi_wp2
  refine⟨aue,.inl ⟨_,_,rfl,run_takeDeferred hK,?_⟩⟩;have hc5:=cell_kept hc1 (grownBy_putObj' _ D (.deferred none)) (fun r e=>by cases e;exact⟨_,hK,rfl⟩);refine⟨.int .i64 r,?_,by rw[HDU.out],hB.trans (belowK_b (w:=w) (ro _) W D _ _ auc hK rfl rfl)⟩;simp[results,Tryz.f173,go_sem,hc5]
structure kf(base g:Nat)(w w':World):Prop where
 below:Below base w w'
 box:∀(c:Nat) (t:TypeId) (cs:Array Value),bD w c t cs->t≠3->c≠g->bD w' c t cs
theorem kf.refl(base g:Nat)(w:World):kf base g w w:=⟨Below.refl _ _,fun _ _ _ h _ _=>h⟩
variable{a:World}
theorem kf.trans{b c:World}(h:kf base g a b)(k:kf base g b c):kf base g a c:=⟨h.below.trans k.below,fun x t cs hb ht hg=>k.box x t cs (h.box x t cs hb ht hg) ht hg⟩
theorem kf.alloc{b:World}(h:kf base g a b)(hb:base<=b.heap.size)(o:Obj):kf base g a (b.alloc o):=⟨h.below.alloc hb o,fun x t cs hB ht hg=>(h.box x t cs hB ht hg).alloc o⟩
def Acc(w:World)(base g:Nat)(xs:jp):Prop:=∃v,bD w g 22 #[v]/\w.ownsRow base 3 1 v xs.length (ints xs)
theorem Acc.alloc{w:World}{xs:jp}(h:Acc w base g xs)(o:Obj):Acc (w.alloc o) base g xs:=by obtain⟨v,h1,h2⟩:=h;exact⟨v,h1.alloc o,h2.alloc o⟩
theorem Zzn(l:jp):∀u∈ints l,u.oneCell'=true:=by intro u hu;obtain⟨x,_,rfl⟩:=rt.1 hu;rfl
def P4(base g:Nat)(xs:jp)(w:World)(e:Ending)(w':World):Prop:=e=.returned (.tuple #[])/\Acc w' base g xs/\kf base g w w'
theorem rW(base g:Nat)(xs:jp)(A:pi)(c:Nat)(l:jp)(w:World)(hacc:Acc w base g xs)(hS:Sl w w.heap.size 1 A l.length c (ints l))(hlen:xs.length+l.length<=1000000)(hbase:base<=g) :
  Calls Tryz.prog 206 #[.slice A l.length c,.pointer (some ⟨g,0,none⟩)] w (P4 base g (xs++l) w):=by
 obtain⟨v,hb,hown⟩:=hacc;have hc0:w.cell? ⟨g,0,none⟩=some v:=hb.cell 0;have hgl:=hb.lt;have hne:=yY hown hb auf;obtain⟨Av,cv,rfl,hv1,hv2,_⟩:=y9 hown;obtain⟨i0,hi0,hz0,hz1,hz2⟩:=info_parts FQ;have HNE:=Lib.hid hne;have HB:=Lib.hid hb;clear hne hb
 go_enter Tryz.func206,Tryz.ntmps206
 go_wp2_with (at_builtin;refine tL _ rfl _ _ 22 rfl base 3 i0 (.int .i64 0) 1 8 Tryz.underlying22 hi0 hz0 hz1 hz2 rfl auf _ _ _ rfl hown w.heap.size A l.length c (ints l) rfl hS.1 (Zzn l) (by unfold maxLen;omega) auc auc ?_;intro v' w1 hown' hg' hbb;obtain⟨A1,c1,rfl,h11,h12,_⟩:=y9 hown';have hb1:=HB.out.grown hg' (fun e=>HNE.out e.symm);have hc1:=hb1.cell 0;have hf1:=hb1.frozen 0;simp only[IN,FS]at hc1)
 refine bodyPost_end (results_none rfl _ _ _) rfl ?_;have hne':Value.ownBlock (.slice A1 (xs.length+l.length) c1)≠some g:=yY hown' hb1 auf;have hB1:Below base w w1:=by refine⟨hg'.os,hg'.tape,hg'.output,hg'.size,fun i hi=>hg'.block i auc ?_⟩;intro e;have:=(hown.lt i e.symm).1;omega
 refine⟨rfl,⟨_,hb1.gO 0 _,?_⟩,⟨hB1.setCell (p:=⟨g,0,none⟩) hbase _,fun x t cs hB ht hg=>?_⟩⟩
 .have e1:(xs++l).length=xs.length+l.length:=aue
  have e2:ints (xs++l)=ints xs++ints l:=by simp[ints]
  rw[e1,e2];exact ownsRow_setCell_other hown' (a:=⟨g,0,none⟩) hne' _
 .have h1:=hB.grown hg' (fun e=>yY hown hB (fun e=>ht e.symm) e.symm);exact h1.d9 (p:=⟨g,0,none⟩) hg _
/- the literals in their order, as d9 as they have come -/
def ow(m:aQ):jp:=m.reads.flatMap (·.addr)++m.writes.flatMap fun x=>x.on::(x.addr++x.data)
theorem ame(m:aQ):dU m.d=ow m:=by unfold dU ow aQ.d;rw[asK,asK];rfl
def k1(N:aY)(k:Nat):jp:=(N.ah.take k).map (·.next)
def k2(N:aY)(k:Nat):jp:=N.ah.map (·.next)++N.bk++N.aU++N.constraints++(N.af.take k).flatMap ow
def k3(N:aY)(k:Nat)(m:aQ)(j:Nat):jp:=k2 N k++(m.reads.take j).flatMap (·.addr)
def k4(N:aY)(k:Nat)(m:aQ)(j:Nat):jp:=k2 N k++m.reads.flatMap (·.addr)++(m.writes.take j).flatMap fun x=>x.on::(x.addr++x.data)
def k5(N:aY)(k:Nat):jp:=N.ah.map (·.next)++N.bk++N.aU++N.constraints++N.af.flatMap ow++(N.ag.take k).flatMap fH
theorem Jy(N:aY):cL N.d=N.ah.map (·.next)++N.bk++N.aU++N.constraints++N.af.flatMap ow++N.ag.flatMap fH:=by unfold cL aY.d;simp only;rw[asK];congr 2;exact OF (fun f=>N.af.flatMap f) (funext ame)
section
variable{N:aY}{k j:Nat}
theorem ac7{x:dI}(h:N.ah[k]?=some x):k1 N (k+1)=k1 N k++[x.next]:=by unfold k1;rw[cK h];simp
theorem anh:k1 N k <+: cL N.d:=by rw[Jy];simp only[bM];exact(List.IsPrefix.map _ (List.take_prefix _ _)).trans (asY _ _)
theorem acD(hk:N.ah.length<=k):k1 N k++N.bk++N.aU++N.constraints=k2 N 0:=by unfold k1 k2;rw[IT hk];simp
theorem adZ:k2 N k <+: cL N.d:=by
 rw[Jy];refine ate ?_ (asY _ _);refine oX ?_;have h:=asY ((N.af.take k).flatMap ow) ((N.af.drop k).flatMap ow)
 rwa [<-BT,GT]at h
theorem apX:k3 N k m 0=k2 N k:=by simp[k3]
theorem Zzz(h:m.reads[j]?=some r):k3 N k m (j+1)=k3 N k m j++r.addr:=by unfold k3;rw[vA _ h,bM]
theorem apY(hj:m.reads.length<=j):k3 N k m j=k4 N k m 0:=by unfold k3 k4;rw[IT hj];simp
theorem Zzy{r:cj}(h:m.writes[j]?=some r):k4 N k m (j+1)=k4 N k m j++[r.on]++r.addr++r.data:=by unfold k4;rw[vA _ h];simp
theorem adY(h:N.af[k]?=some m):k2 N (k+1)=k2 N k++ow m:=by unfold k2;rw[vA _ h];simp
theorem apW(h:N.af[k]?=some m)(hj:m.writes.length<=j):k4 N k m j=k2 N (k+1):=by rw[adY h];unfold k4 ow;rw[IT hj];simp
theorem adX(h:N.af[k]?=some m):k4 N k m j <+: cL N.d:=by
 refine ate ?_ (adZ (k:=k+1));rw[adY h];unfold k4 ow;rw[bM];refine oX (oX ?_);have h:=asY ((m.writes.take j).flatMap fun x:cj=>x.on::(x.addr++x.data)) ((m.writes.drop j).flatMap fun x=>x.on::(x.addr++x.data))
 rwa [<-BT,GT]at h
theorem ani(h:N.af[k]?=some m):k3 N k m j <+: cL N.d:=by
 refine ate ?_ (adX (j:=0) h);unfold k3 k4;have h:=asY ((m.reads.take j).flatMap (·.addr)) ((m.reads.drop j).flatMap (·.addr));rw[<-BT,GT]at h
 simp_all
theorem apZ(hk:N.af.length<=k):k2 N k=k5 N 0:=by unfold k2 k5;rw[IT hk];simp
theorem Zzx{x:dM}(h:N.ag[k]?=some x):k5 N (k+1)=k5 N k++[x.a,x.b]:=by unfold k5;rw[vA _ h];simp[fH]
theorem apV(hk:N.ag.length<=k):k5 N k=cL N.d:=by rw[Jy];unfold k5;rw[IT hk]
theorem anj:k5 N k <+: cL N.d:=by
 rw[Jy];unfold k5;refine oX ?_;have h:=asY ((N.ag.take k).flatMap fH) ((N.ag.drop k).flatMap fH)
 rwa [<-BT,GT]at h
end
theorem adM(W:World)(l:jp)(hl:l.length<=1000):Sl (W.alloc (.cells (ints l).toArray 3)) (W.alloc (.cells (ints l).toArray 3)).heap.size 1 (some ⟨W.heap.size,0,none⟩) l.length l.length (ints l):=by
 have h:=(bD.new W 3 (ints l).toArray).reads;have e:(ints l).length=l.length:=by simp[ints]
 rw[e]at h;exact⟨h,ro _,Do _⟩
theorem yX{a:jp}{n:Nat}(h:a <+: D)(hD:D.length<=n):a.length<=n:=by grind
theorem kf.nj{W1 wr:World}{N:aY}(h:kf base (base+1) W1 wr)(hb:bD W1 base 27 N.fs):bD wr base 27 N.fs:=h.box _ _ _ hb auf auc
theorem adi(base g:Nat)(xs:jp)(x:Int)(W:World)(s:Nat)(hs:s=W.heap.size)(hacc:Acc W base g xs)(hlen:xs.length+1<=1000000)(hbase:base<=g) :
  Calls Tryz.prog 206 #[.slice (some ⟨s,0,none⟩) 1 1,.pointer (some ⟨g,0,none⟩)] (W.alloc (.cells #[.int .i64 x] 3)) (P4 base g (xs++[x]) (W.alloc (.cells #[.int .i64 x] 3))):=by
 subst hs;exact rW base g xs (some ⟨W.heap.size,0,none⟩) 1 [x] (W.alloc (.cells #[.int .i64 x] 3)) (hacc.alloc _) (adM W [x] aue) (by simpa using hlen) hbase
theorem alk(base g:Nat)(xs:jp)(x y:Int)(W:World)(s:Nat)(hs:s=W.heap.size)(hacc:Acc W base g xs)(hlen:xs.length+2<=1000000)(hbase:base<=g) :
  Calls Tryz.prog 206 #[.slice (some ⟨s,0,none⟩) 2 2,.pointer (some ⟨g,0,none⟩)] (W.alloc (.cells #[.int .i64 x,.int .i64 y] 3)) (P4 base g (xs++[x,y]) (W.alloc (.cells #[.int .i64 x,.int .i64 y] 3))):=by
 subst hs;exact rW base g xs (some ⟨W.heap.size,0,none⟩) 2 [x,y] (W.alloc (.cells #[.int .i64 x,.int .i64 y] 3)) (hacc.alloc _) (adM W [x,y] aue) (by simpa using hlen) hbase
theorem aoR(N:aY)(w:World)(hok:N.dk w w.heap.size)(ft:Fit N.d)(hD:(cL N.d).length<=1000000) :
  Calls Tryz.prog 174 #[N.v] w (tS 3 w (ints (cL N.d))):=by
 have hl2:N.ah.length<=4000:=ft.aT.1;have hl3:N.ag.length<=4000:=ft.ag.1;have hl4:N.af.length<=100:=by have:=ft.af.1;simpa[aY.d]using this
 have HMF:=Lib.hid (ft.af.2);have HD:=Lib.hid hD;clear ft hD;obtain⟨base,hbase⟩:∃base,base=w.heap.size:=⟨_,rfl⟩;have hb0:bD ((w.alloc (.cells N.fs 27)).alloc (.cells #[.slice none 0 0] 22)) base 27 N.fs:=by rw[hbase];exact(bD.new w 27 N.fs).alloc _
 have hb1:bD ((w.alloc (.cells N.fs 27)).alloc (.cells #[.slice none 0 0] 22)) (base+1) 22 #[.slice none 0 0]:=by have:=bD.new (w.alloc (.cells N.fs 27)) 22 #[.slice none 0 0];rw[World.size_alloc]at this;rw[hbase];exact this
 have hB:Below base w ((w.alloc (.cells N.fs 27)).alloc (.cells #[.slice none 0 0] 22)):=by rw[hbase];exact((Below.refl _ w).alloc (ro _) _).alloc aue _
 have hsz:((w.alloc (.cells N.fs 27)).alloc (.cells #[.slice none 0 0] 22)).heap.size=base+2:=by rw[hbase];simp
 have hacc:Acc ((w.alloc (.cells N.fs 27)).alloc (.cells #[.slice none 0 0] 22)) base (base+1) (k1 N 0):=⟨_,hb1,by simp[k1,ints];exact World.ownsRow_nil _ _ _ _⟩;have hok2:N.dk ((w.alloc (.cells N.fs 27)).alloc (.cells #[.slice none 0 0] 22)) base:=by rw[<-hbase]at hok;exact hok.below hB
 have HOK:=Lib.hid hok2;have HBE:=Lib.hid hB;clear hok hok2 hb1 hB;unfold aY.v
 go_enter Tryz.func174,Tryz.ntmps174
 unfold aY.fs
 go_wp2_with fail
 rw[<-hbase];change Code.wp _ _ _ _ ((w.alloc (.cells N.fs 27)).alloc (.cells #[.slice none 0 0] 22));generalize (w.alloc (.cells N.fs 27)).alloc (.cells #[.slice none 0 0] 22)=W1 at hb0 hacc hsz HOK HBE |-;have HB0:=Lib.hid hb0;have HSZ:=Lib.hid hsz;have HBA:=Lib.hid hbase;clear hb0 hsz hbase
 go_loopw [18] (fun i wr=>∃k:Nat,k<=N.ah.length/\i=.int .i64 k/\Acc wr base (base+1) (k1 N k)/\kf base (base+1) W1 wr) (fun i _=>N.ah.length-(intOf i).toNat)
 case atStart=>exact⟨0,Do _,rfl,hacc,kf.refl _ _ _⟩
 case round=>
  clear hacc;obtain⟨k,hk,rfl,hacc,hpf⟩:=hrel;have hsz:base+2<=wr.heap.size:=by have:=hpf.below.size;have:=HSZ.out;omega
  by_cases hlt:k<N.ah.length
  .obtain⟨b,off,x,e1,hb,hx,hm,hcs⟩:=(HOK.out.below hpf.below).aT.elem auc (fun _=>rfl) hlt;obtain⟨hc0,hc1,hc2⟩:=dI.at_ hcs;have hp:=yX (anh (k:=k+1)) HD.out;rw[ac7 hx]at hp;have HX:=Lib.hid hx;clear hx hm hcs;rw[e1];clear e1;simp only[bF,dG,If]at hp
   go_wp2_with fail
   refine(adi base (base+1) (k1 N k) x.next _ _ aue (hacc.alloc _) auc auc).mono ?_;rintro e w2 ⟨rfl,hacc2,hpf2⟩;rw[<-ac7 HX.out]at hacc2
   go_wp2_with fail
   go_roundw
   case rel=>exact⟨k+1,auc,by go_num,hacc2,((hpf.alloc auc _).alloc (by simp;omega) _).trans hpf2⟩
   case measure=>simp[intOf];omega
  .have hf3:wr.cell? ⟨base,3,none⟩=some (.slice N.Ao N.bk.length N.co):=(hpf.nj HB0.out).cell 3;have hp:=yX (adZ (k:=0)) HD.out;rw[<-acD (show N.ah.length<=k by omega)]at hp;simp only[bF]at hp
   go_wp2_with fail
   refine(rW base (base+1) (k1 N k) N.Ao N.co N.bk _ hacc ((HOK.out.below hpf.below).out.more auc) auc auc).mono ?_;rintro e w2 ⟨rfl,hacc2,hpf2⟩;have hpf3:=hpf.trans hpf2;have hs3:=hpf2.below.size;have hf4:w2.cell? ⟨base,4,none⟩=some (.slice N.Ab N.aU.length N.cb):=(hpf3.nj HB0.out).cell 4;clear hacc hpf hpf2 hf3
   go_wp2_with fail
   refine(rW base (base+1) _ N.Ab N.cb N.aU _ hacc2 ((HOK.out.below hpf3.below).fe.more auc) (by simp;omega) auc).mono ?_;rintro e w3 ⟨rfl,hacc3,hpf4⟩;have hpf5:=hpf3.trans hpf4;have hs5:=hpf4.below.size;have hf5:w3.cell? ⟨base,5,none⟩=some (.slice N.Ac N.constraints.length N.cc):=(hpf5.nj HB0.out).cell 5;clear hacc2 hpf3 hpf4 hf4
   go_wp2_with fail
   refine(rW base (base+1) _ N.Ac N.cc N.constraints _ hacc3 ((HOK.out.below hpf5.below).ga.more auc) (by simp;omega) auc).mono ?_;rintro e w4 ⟨rfl,hacc4,hpf6⟩;have hpf7:=hpf5.trans hpf6;have hf6:w4.cell? ⟨base,6,none⟩=some (.slice N.Am N.af.length N.cm):=(hpf7.nj HB0.out).cell 6;rw[acD auc]at hacc4;clear hacc3 hpf5 hpf6 hf5 hs3 hs5 hsz hlt hp hk
   go_wp2_with fail
   go_loopw [43] (fun i wr=>∃k:Nat,k<=N.af.length/\i=.int .i64 k/\Acc wr base (base+1) (k2 N k)/\kf base (base+1) W1 wr) (fun i _=>N.af.length-(intOf i).toNat)
   case atStart=>exact⟨0,Do _,rfl,hacc4,hpf7⟩
   case round=>
    clear hacc4 hpf7 hf6;obtain⟨k,hk,rfl,hacc,hpf⟩:=hrel;have hsz:base+2<=wr.heap.size:=by have:=hpf.below.size;have:=HSZ.out;omega
    by_cases hlt:k<N.af.length
    .obtain⟨b,off,m,e1,hb,hx,hm,hcs⟩:=(HOK.out.below hpf.below).mem.elem auc (fun _=>rfl) hlt;obtain⟨hc0,hc1,hc2,hc3,hc4⟩:=aQ.at_ hcs;have HX:=Lib.hid hx;have HM:=Lib.hid (HOK.out.kA m hm);have hfm:=HMF.out m.d (AT hm);have hrn:m.reads.length<=100:=by have:=hfm.kO;simpa[aQ.d]using this
     have hwn:m.writes.length<=100:=by have:=hfm.ph;simpa[aQ.d]using this
     clear hx hm hcs hfm;rw[e1];clear e1
     go_wp2_with fail
     obtain⟨c,hc⟩:∃c,c=wr.heap.size:=⟨_,rfl⟩;have hpf2:=hpf.alloc (show base<=wr.heap.size by omega) (.cells m.cells.toArray 97);have hacc2:=hacc.alloc (.cells m.cells.toArray 97);have hbk:=bD.new wr 97 m.cells.toArray;have hcB:base+2<=c:=auc
     rw[<-hc]at hbk |-;rw[<-apX (m:=m)]at hacc2;clear hc hacc hpf hc0 hc1 hc2 hc3 hc4;change Code.wp _ _ _ _ (wr.alloc (.cells m.cells.toArray 97));obtain⟨w3,hw3⟩:∃w3:World,w3=wr.alloc (.cells m.cells.toArray 97):=⟨_,rfl⟩;rw[<-hw3]at hpf2 hacc2 hbk |-;clear hw3 hsz
     go_loopw [50] (fun i wr=>∃j:Nat,j<=m.reads.length/\i=.int .i64 j/\Acc wr base (base+1) (k3 N k m j)/\kf base (base+1) W1 wr/\bD wr c 97 m.cells.toArray) (fun i _=>m.reads.length-(intOf i).toNat)
     case atStart=>exact⟨0,Do _,rfl,hacc2,hpf2,hbk⟩
     case round=>
      clear hacc2 hpf2 hbk;obtain⟨j,hj,rfl,hacc,hpf,hbk⟩:=hrel;have hsz:base+2<=wr.heap.size:=by have:=hpf.below.size;have:=HSZ.out;omega
      by_cases hlt2:j<m.reads.length
      .obtain⟨b2,off2,r,e1,hb2,hx2,hm2,hcs⟩:=(HM.out.below hpf.below).rd.elem auc (fun _=>rfl) hlt2;obtain⟨hc0,hc1⟩:=bZ.at_ hcs;have HX2:=Lib.hid hx2;have HR:=Lib.hid (HM.out.fq r hm2);have hp:=yX (ani (j:=j+1) HX.out) HD.out;rw[Zzz hx2]at hp;simp only[bF]at hp;clear hx2 hm2 hcs;rw[e1];clear e1
       go_wp2_with fail
       refine(rW base (base+1) (k3 N k m j) r.A r.c r.addr _ (hacc.alloc _) (Sl.more (HR.out.below (hpf.alloc auc _).below) (by simp;omega)) auc auc).mono ?_;rintro e w2 ⟨rfl,hacc2,hpf2⟩;rw[<-Zzz HX2.out]at hacc2
       go_wp2_with fail
       go_roundw
       case rel=>exact⟨j+1,auc,by go_num,hacc2,(hpf.alloc auc _).trans hpf2,hpf2.box _ _ _ (hbk.alloc _) auf auc⟩
       case measure=>simp[intOf];omega
      .rw[apY auc]at hacc;have hcw:wr.cell? ⟨c,4,none⟩=some (.slice m.A2 m.writes.length m.c2):=hbk.cell 4
       go_wp2_with fail
       obtain⟨w5,rfl⟩:∃w5:World,w5=wr:=⟨_,rfl⟩;clear hlt2 hj hsz hcw hbk
       go_loopw [62] (fun i wr=>∃j:Nat,j<=m.writes.length/\i=.int .i64 j/\Acc wr base (base+1) (k4 N k m j)/\kf base (base+1) W1 wr) (fun i _=>m.writes.length-(intOf i).toNat)
       case atStart=>exact⟨0,Do _,rfl,hacc,hpf⟩
       case round=>
        clear hacc hpf;obtain⟨j,hj,rfl,hacc,hpf⟩:=hrel;have hsz:base+2<=wr.heap.size:=by have:=hpf.below.size;have:=HSZ.out;omega
        by_cases hlt2:j<m.writes.length
        .obtain⟨b2,off2,r,e1,hb2,hx2,hm2,hcs⟩:=(HM.out.below hpf.below).wr.elem auc (fun _=>rfl) hlt2;obtain⟨hc0,hc1,hc2⟩:=cj.at_ hcs;have HX2:=Lib.hid hx2;have HR:=Lib.hid (HM.out.gY r hm2);have hp:=yX (adX (j:=j+1) HX.out) HD.out;rw[Zzy hx2]at hp;simp only[bF,dG,If]at hp;clear hx2 hm2 hcs;rw[e1];clear e1
         go_wp2_with fail
         refine(adi base (base+1) (k4 N k m j) r.on _ _ aue (hacc.alloc _) auc auc).mono ?_;rintro e w2 ⟨rfl,hacc2,hpf2⟩;obtain⟨d,hd⟩:∃d,d=wr.heap.size:=⟨_,rfl⟩;have hbk:=hpf2.box _ _ _ ((bD.new wr 174 r.cells.toArray).alloc _) auf auc;rw[<-hd]at hbk;have hd1:w2.cell? ⟨d,1,none⟩=some (.slice r.A r.addr.length r.c):=hbk.cell 1;have hpf3:=((hpf.alloc auc _).alloc (by simp;omega) _).trans hpf2;have hs2:base+2<=w2.heap.size:=by have:=hpf3.below.size;have:=HSZ.out;omega
         have hdB:base+2<=d:=auc
         rw[<-hd];clear hd hacc hpf hpf2 hc0 hc1 hc2
         go_wp2_with fail
         refine(rW base (base+1) _ r.A r.c r.addr _ hacc2 ((HR.out.1.below hpf3.below).more auc) (by simp;omega) auc).mono ?_;rintro e w4 ⟨rfl,hacc3,hpf4⟩;have hbk2:=hpf4.box _ _ _ hbk auf auc;have hd2:w4.cell? ⟨d,2,none⟩=some (.slice r.A2 r.data.length r.c2):=hbk2.cell 2;have hpf5:=hpf3.trans hpf4;have hs4:base+2<=w4.heap.size:=by have:=hpf5.below.size;have:=HSZ.out;omega
         clear hacc2 hpf3 hpf4 hd1 hbk hbk2
         go_wp2_with fail
         refine(rW base (base+1) _ r.A2 r.c2 r.data _ hacc3 ((HR.out.2.below hpf5.below).more auc) (by simp;omega) auc).mono ?_;rintro e w6 ⟨rfl,hacc4,hpf6⟩;rw[<-Zzy HX2.out]at hacc4
         go_wp2_with fail
         go_roundw
         case rel=>exact⟨j+1,auc,by go_num,hacc4,hpf5.trans hpf6⟩
         case measure=>simp[intOf];omega
        .rw[apW HX.out auc]at hacc
         go_wp2_with fail
         go_roundw
         case rel=>exact⟨k+1,auc,by go_num,hacc,hpf⟩
         case measure=>simp[intOf];omega
    .rw[apZ auc]at hacc;have hf7:wr.cell? ⟨base,7,none⟩=some (.slice N.An N.ag.length N.cn):=(hpf.nj HB0.out).cell 7
     go_wp2_with fail
     obtain⟨w5,rfl⟩:∃w5:World,w5=wr:=⟨_,rfl⟩;clear hlt hk hsz hf7
     go_loopw [84] (fun i wr=>∃k:Nat,k<=N.ag.length/\i=.int .i64 k/\Acc wr base (base+1) (k5 N k)/\kf base (base+1) W1 wr) (fun i _=>N.ag.length-(intOf i).toNat)
     case atStart=>exact⟨0,Do _,rfl,hacc,hpf⟩
     case round=>
      clear hacc hpf;obtain⟨k,hk,rfl,hacc,hpf⟩:=hrel;have hsz:base+2<=wr.heap.size:=by have:=hpf.below.size;have:=HSZ.out;omega
      by_cases hlt:k<N.ag.length
      .obtain⟨b,off,x,e1,hb,hx,hm,hcs⟩:=(HOK.out.below hpf.below).and.elem auc (fun _=>rfl) hlt;obtain⟨hc0,hc1,hc2⟩:=dM.at_ hcs;have hp:=yX (anj (k:=k+1)) HD.out;rw[Zzx hx]at hp;have HX:=Lib.hid hx;clear hx hm hcs;rw[e1];clear e1;simp only[bF,dG,If]at hp
       go_wp2_with fail
       refine(alk base (base+1) (k5 N k) x.a x.b _ _ aue (hacc.alloc _) auc auc).mono ?_;rintro e w2 ⟨rfl,hacc2,hpf2⟩;rw[<-Zzx HX.out]at hacc2
       go_wp2_with fail
       go_roundw
       case rel=>exact⟨k+1,auc,by go_num,hacc2,((hpf.alloc auc _).alloc (by simp;omega) _).trans hpf2⟩
       case measure=>simp[intOf];omega
      .rw[apV auc]at hacc;obtain⟨v,hv,hown⟩:=hacc;have hc:=hv.cell 0;have hf:=hv.frozen 0;simp only[IN,FS]at hc;obtain⟨Av,cv,rfl,hv1,hv2,_⟩:=y9 hown;have hne:=yY hown hv auf;have hc':=(hv.gO 0 (.slice Av (cL N.d).length cv)).cell 0;have hbe:=(HBE.out.trans hpf.below).setCell (p:=⟨base+1,0,none⟩) aue (.slice Av (cL N.d).length cv);rw[HBA.out]at hbe;have HBE2:=Lib.hid hbe;have HC:=Lib.hid hc';have HNE:=Lib.hid hne;clear hbe hc' hne
       go_wp2_with fail
       have hc2:=HC.out;simp at hc2;refine bodyPost_ret (v:=.slice Av (cL N.d).length cv) (by simp[results,Tryz.results174,go_sem,hc2]) rfl ?_;have hown2:=ownsRow_setCell_other hown (a:=⟨base+1,0,none⟩) HNE.out (.slice Av (cL N.d).length cv);rw[HBA.out]at hown2;exact tS.mk (n:=(cL N.d).length) (by simp[ints]) (by rw[HBA.out];exact hown2) (by rw[HBA.out];exact HBE2.out)
theorem adF(x:Int)(w:World)(h:0<=x)(h':x<=9223372036854775807):Calls Tryz.prog 79 #[.int .i64 x] w fun e w'=>e=.returned (.int .i64 (x / 2))/\w=w':=by
 go_enter Tryz.func79,Tryz.ntmps79
 go_wp2
 go_ret
 exact⟨rfl,rfl⟩
theorem apl{n:aB}(ft:Fit n):∀x∈cL n,dZ x:=by
 intro x hx;unfold cL at hx;simp only[qr,rt,rc]at hx;rcases hx with((((⟨l,hl,rfl⟩|h)|h)|h)|⟨m,hm,h⟩)|⟨a,ha,h⟩
 .exact(ft.aT.2 l hl).2.1
 .exact ft.out.2 x h
 .exact ft.fe.2 x h
 .exact ft.ga.2 x h
 .have hf:=ft.af.2 m hm;unfold dU at h;simp only[qr,rc]at h;rcases h with⟨r,hr,h⟩|⟨r,hr,h⟩
  .exact(hf.fq r hr).2.2.2 x h
  .obtain⟨_,_,h3,h4,h5⟩:=hf.gY r hr;unfold eF at h
   grind
 .unfold fH at h;simp at h;rcases h with rfl|rfl
  .exact(ft.ag.2 a ha).2.1
  .exact(ft.ag.2 a ha).2.2
theorem f9{α β:Type}(f:α->List β)(c:Nat):∀(l:List α),(∀x∈l,(f x).length<=c)->(l.flatMap f).length<=l.length*c
 |[],_=>by simp|x::l,h=>by rw[ww,bF,dG,atj];have:=f9 f c l (fun y hy=>h y (by simp[hy]));have:=h x aue;omega
theorem Zux{n:aB}(ft:Fit n)(hl:∀m∈n.af,m.reads.length<=6/\m.writes.length<=6)(hm:n.af.length<=6):(cL n).length<=1000000:=by
 have h1:(n.af.flatMap dU).length<=n.af.length*72006:=f9 dU 72006 _ fun m hm=>by
  have hf:=ft.af.2 m hm;have hc:=hl m hm;unfold dU;rw[bF];have a1:(m.reads.flatMap (·.addr)).length<=m.reads.length*4000:=f9 _ 4000 _ fun r hr=>(hf.fq r hr).1;have a2:(m.writes.flatMap eF).length<=m.writes.length*8001:=f9 _ 8001 _ fun r hr=>by have:=hf.gY r hr;simp only[eF,dG,bF];omega
  grind
 have h2:(n.ag.flatMap fH).length<=n.ag.length*2:=f9 fH 2 _ fun a _=>by simp[fH]
 have h3:n.af.length*72006<=6*72006:=asm _ hm;have:=ft.aT.1;have:=ft.out.1;have:=ft.fe.1;have:=ft.ga.1;have:=ft.ag.1;unfold cL
 grind
theorem Zuy{n:aB}(ft:Fit n)(hl:∀m∈n.af,m.reads.length<=6/\m.writes.length<=6)(hm:n.af.length<=6):(bp n).length<=1000000:=by
 have h1:(n.af.flatMap dy).length<=n.af.length*24000:=f9 dy 24000 _ fun m hm=>by
  have hf:=ft.af.2 m hm;have hc:=hl m hm;unfold dy;have a1:(m.reads.flatMap fun r=>cM r.var m.word.toNat).length<=m.reads.length*4000:=f9 _ 4000 _ fun r hr=>by have:=hf.word.2;simp[cM];omega
  grind
 have h3:n.af.length*24000<=6*24000:=asm _ hm;have:=ft.ins.1;have:=ft.aT.1;have:=ft.ag.1;unfold bp
 grind
theorem aoS{n:aB}(h:ij n=false):0<=n.vars/\n.vars<=2000/\n.af.length<=6/\∀m∈n.af,m.reads.length<=6/\m.writes.length<=6:=by unfold ij at h;rw[ats]at h;obtain⟨h1,h2⟩:=h;have h1:=asM h1;refine⟨auc,auc,auc,fun m hm=>?_⟩;have:=List.any_eq_false.1 h2 m hm;unfold gU at this;simp at this;omega
theorem bD.nj{w:World}{N:aY}(h:bD w g 27 N.fs):w.cell? ⟨g,0,none⟩=some (.int .i64 N.vars)/\w.cell? ⟨g,1,none⟩=some (.slice N.Ai N.ax.length N.ci)/\w.cell? ⟨g,2,none⟩=some (.slice N.Al N.ah.length N.cl)/\w.cell? ⟨g,3,none⟩=some (.slice N.Ao N.bk.length N.co)/\w.cell? ⟨g,4,none⟩=some (.slice N.Ab N.aU.length N.cb)/\w.cell? ⟨g,5,none⟩=some (.slice N.Ac N.constraints.length N.cc)/\w.cell? ⟨g,6,none⟩=some (.slice N.Am N.af.length N.cm)/\w.cell? ⟨g,7,none⟩=some (.slice N.An N.ag.length N.cn):=⟨h.cell 0,h.cell 1,h.cell 2,h.cell 3,h.cell 4,h.cell 5,h.cell 6,h.cell 7⟩
theorem aoN(N:aY)(w:World)(hok:N.dk w w.heap.size)(ft:Fit N.d) :
  Calls Tryz.prog 135 #[N.v] w fun e w'=>e=.returned (.int .i64 (da N.d))/\Below w.heap.size w w':=by
 obtain⟨z,hz⟩:∃z,z=da N.d:=⟨_,rfl⟩;rw[<-hz];unfold da at hz;have HZ:=Lib.hid hz;clear hz;have hmw:N.d.af.any fZ=N.af.any (fun x=>fZ x.d):=by show(N.af.map aQ.d).any fZ=_;rw[atx];rfl
 rw[hmw]at HZ;clear hmw;change Hid (z=if ij N.d=true then 10 else if(N.af.any fun x=>fZ x.d)=true then 9 else if N.ah.any jc=true then 1 else if dup N.vars [] (bp N.d)≠0 then dup N.vars [] (bp N.d)else if(cL N.d).any (gi N.vars)=true then 5 else 0)at HZ;obtain⟨base,hbase⟩:∃base,base=w.heap.size:=⟨_,rfl⟩;have hb0:bD (w.alloc (.cells N.fs 27)) base 27 N.fs:=by rw[hbase];exact bD.new w _ _
 have hB:Below base w (w.alloc (.cells N.fs 27)):=by rw[hbase];exact(Below.refl _ _).alloc (ro _) _
 have hsz:base<(w.alloc (.cells N.fs 27)).heap.size:=by rw[hbase];simp
 rw[<-hbase]at hok;have HOK:=Lib.hid (hok.below hB);have HF:=Lib.hid ft;have HB:=Lib.hid hB;have HB0:=Lib.hid hb0;have HBA:=Lib.hid hbase;clear hok hB;unfold aY.v
 go_enter Tryz.func135,Tryz.ntmps135
 unfold aY.fs
 go_wp2_with fail
 rw[<-hbase];change Calls _ _ #[N.v] (w.alloc (.cells N.fs 27)) _;generalize w.alloc (.cells N.fs 27)=W1 at hb0 hsz HOK HB HB0 |-;clear hbase;refine(apt N W1 (HOK.out.more auc) HF.out).mono ?_;rintro e w2 ⟨rfl,hbl⟩;rcases h1:ij N.d with _|_
 .have hs2:=hbl.size;obtain⟨hv0,hv2,hml,hmr⟩:=aoS h1;have HDL:=Lib.hid (Zuy HF.out hmr hml);have HLL:=Lib.hid (Zux HF.out hmr hml);have hml2:N.af.length<=6:=by simpa[aY.d]using hml
  have hmf:∀x∈N.af,x.dk w2 w2.heap.size/\x.reads.length<=100/\x.writes.length<=100:=fun x hx=>by have h:=hmr x.d (AT hx);simp only[aQ.d,aG]at h;exact⟨((HOK.out.kA x hx).below (hbl.mono auc)).more auc,auc,auc⟩
  have HMF:=Lib.hid hmf;change 0<=N.vars at hv0;change N.vars<=2000 at hv2;have hlat:N.ah.length<=4000:=HF.out.aT.1;obtain⟨c0,c1,c2,c3,c4,c5,c6,c7⟩:=(hb0.below hbl hsz).nj;have HZ1:=HZ.out;rw[Fr (by rw[h1];simp)]at HZ1;have HZ2:=Lib.hid HZ1;have HOK2:=Lib.hid (HOK.out.below (hbl.mono auc));have HB2:=Lib.hid (HB.out.trans (hbl.mono auc));have HB02:=Lib.hid (hb0.below hbl hsz);clear HZ1 HZ h1 hmf hml hmr hb0 hbl
  go_wp2_with fail
  refine(apg N.Am N.cm N.af w2 (HOK2.out.mem.more auc) HMF.out auc).mono ?_;rintro e w3 ⟨rfl,hbl⟩;have hs3:=hbl.size;rcases h2:N.af.any (fun x=>fZ x.d)with _|_
  .have HZ1:=HZ2.out;rw[Fr (by rw[h2];simp)]at HZ1;have HZ3:=Lib.hid HZ1;clear HZ1 HZ2 h2 HMF c0 c1 c2 c3 c4 c5 c6 c7;obtain⟨c0,c1,c2,c3,c4,c5,c6,c7⟩:=(HB02.out.below hbl auc).nj;have HOK3:=Lib.hid (HOK2.out.below (hbl.mono auc));have HB3:=Lib.hid (HB2.out.trans (hbl.mono auc));have HB03:=Lib.hid (HB02.out.below hbl auc);clear HOK2 HB2 HB02 hbl
   go_wp2_with fail
   refine(api N.Al N.cl N.ah w3 (HOK3.out.aT.more auc) auc).mono ?_;rintro e w4 ⟨rfl,hbl⟩;have hs4:=hbl.size;rcases h3:N.ah.any jc with _|_
   .have HZ1:=HZ3.out;rw[Fr (by rw[h3];simp)]at HZ1;have HZ4:=Lib.hid HZ1;clear HZ1 HZ3 h3 c0 c1 c2 c3 c4 c5 c6 c7;obtain⟨c0,c1,c2,c3,c4,c5,c6,c7⟩:=(HB03.out.below hbl auc).nj;have HOK4:=Lib.hid (HOK3.out.below (hbl.mono auc));have HB4:=Lib.hid (HB3.out.trans (hbl.mono auc));have HB04:=Lib.hid (HB03.out.below hbl auc);clear HOK3 HB3 HB03 hbl;obtain⟨V,hV⟩:=By hv0;rw[hV]at HZ4;have HV:=Lib.hid hV;clear hV
    go_wp2_with fail
    change Calls _ _ #[N.v] w4 _;refine(apf N V w4 HV.out (by have:=HV.out;omega) (HOK4.out.more auc) HF.out HDL.out).mono ?_;rintro e w5 ⟨rfl,hbl⟩;have hs5:=hbl.size;clear c0 c1 c2 c3 c4 c5 c6 c7;obtain⟨c0,c1,c2,c3,c4,c5,c6,c7⟩:=(HB04.out.below hbl auc).nj;have HOK5:=Lib.hid (HOK4.out.below (hbl.mono auc));have HB5:=Lib.hid (HB4.out.trans (hbl.mono auc));have HB05:=Lib.hid (HB04.out.below hbl auc);clear HOK4 HB4 HB04 hbl;obtain⟨dd,hdd⟩:∃dd,dd=dup V [] (bp N.d):=⟨_,rfl⟩;rw[<-hdd]at HZ4 |-;clear hdd;by_cases hd0:dd=0
    .subst hd0;rw[Fr aue]at HZ4
     go_wp2_with fail
     change Calls _ _ #[N.v] w5 _;refine(aoR N w5 (HOK5.out.more auc) HF.out HLL.out).mono ?_;rintro e w6 ⟨A,c,rfl,h61,h62,hown,hbl⟩;have hs6:=hbl.size;obtain⟨L,hL⟩:∃L,L=cL N.d:=⟨_,rfl⟩;have hI:∀x∈L,dZ x:=by rw[hL];exact apl HF.out
     have hln:L.length<=1000000:=by rw[hL];exact HLL.out
     rw[<-hL]at HZ4 hown;have eln:(ints (cL N.d)).length=L.length:=by rw[hL];simp[ints]
     rw[eln]at h61 |-;have eln2:(ints L).length=L.length:=by simp[ints]
     rw[eln2]at hown;have hSl:=Sl.own hown;have hc0:=(HB05.out.below hbl auc).nj.1;have HB6:=Lib.hid (HB5.out.trans (hbl.mono auc));rw[HV.out]at hc0;clear hL eln eln2 hown hbl HB05 HOK5 HB5 c0 c1 c2 c3 c4 c5 c6 c7;have HI:=Lib.hid hI;clear hI
     go_wp2_with fail
     go_loopw [25] (fun i wr=>∃k q:Nat,k<=L.length/\i=.int .i64 k/\(L.take k).any (gi V)=false/\wr=w6.drewN q) (fun i _=>L.length-(intOf i).toNat)
     case atStart=>exact⟨0,0,Do _,rfl,rfl,rfl⟩
     case round=>
      obtain⟨k,q,hk,rfl,hno,rfl⟩:=hrel;have HNO:=Lib.hid hno;clear hno;by_cases hlt:k<L.length
      .obtain⟨b,off,x,e1,hb,hx,hm,hcx⟩:=hSl.pJ hlt;have hxi:=HI.out x hm;have hx1:=hxi.1;have hx2:=hxi.2;have HX:=Lib.hid hx;have HM:=Lib.hid hm;clear hx hm hxi;rw[e1];clear e1;by_cases hx0:x<0
       .go_wp2_with fail
        go_quiet (fail)
        go_wp2_with fail
        go_ret
        exact⟨by rw[HZ4.out,IO (asQ.2 ⟨x,HM.out,by unfold gi;simp;omega⟩)];rfl,by rw[<-HBA.out];exact below_drewN (below_drewN HB6.out _) _⟩
       .have HVAR:Hid (∀n,Calls Tryz.prog 79 #[.int .i64 x] (w6.drewN n) fun e w'=>e=.returned (.int .i64 (x / 2))/\w6.drewN n=w'):=fun n=>adF x _ auc auc;by_cases hx3:(V:Int)<x / 2
        .go_wp2_with fail
         go_quiet ((go_at_call 79;exact Zsc (HVAR.out _)))
         go_wp2_with fail
         go_ret
         exact⟨by rw[HZ4.out,IO (asQ.2 ⟨x,HM.out,by unfold gi;simp;omega⟩)];rfl,by rw[<-HBA.out];exact below_drewN (below_drewN HB6.out _) _⟩
        .go_wp2_with fail
         go_quiet ((go_at_call 79;exact Zsc (HVAR.out _)))
         go_wp2_with fail
         go_roundw
         case rel=>exact⟨k+1,_,auc,by go_num,vu HX.out HNO.out (by unfold gi;simp;omega),rfl⟩
         case measure=>simp[intOf];omega
      .go_wp2_with fail
       go_ret
       exact⟨by rw[HZ4.out,vv auc HNO.out];rfl,by rw[<-HBA.out];exact below_drewN HB6.out _⟩
    .have hd1:(dd != 0)=true:=by simpa using hd0
     go_wp2_with fail
     go_ret
     exact⟨by rw[HZ4.out,IO hd0];rfl,by rw[<-HBA.out];exact HB5.out⟩
   .have HZ1:=HZ3.out;rw[IO h3]at HZ1;have HZ4:=Lib.hid HZ1;clear HZ1
    go_wp2_with fail
    go_ret
    exact⟨by rw[HZ4.out];rfl,by rw[<-HBA.out];exact HB3.out.trans (hbl.mono auc)⟩
  .have HZ1:=HZ2.out;rw[IO h2]at HZ1;have HZ4:=Lib.hid HZ1;clear HZ1
   go_wp2_with fail
   go_ret
   exact⟨by rw[HZ4.out];rfl,by rw[<-HBA.out];exact HB2.out.trans (hbl.mono auc)⟩
 .go_wp2_with fail
  go_ret
  exact⟨by rw[HZ.out,IO h1];rfl,by rw[<-HBA.out];exact HB.out.trans (hbl.mono auc)⟩
