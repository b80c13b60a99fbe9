import Derived.Test.YtjflbmpepamfjaaGreatKBs
import Derived.RangeFuncNested
import Derived.RangeFuncBound
import Derived.RangeFuncCalls
import Derived.RangeFuncLeaves
import Derived.Shelf.Abstract
import Derived.OwnWalkIn
import Derived.TacticsInMore
import Derived.LoopNIn
import Derived.LoopIn
import Derived.OneCell
set_option linter.all false
section
namespace Go.Proofs.YtjflbmpepamfjaaGreat.Pl
structure fv where
 var:Int
 next:Int
 init:Int
structure ga where
 var:Int
 a:Int
 b:Int
structure gr where
 var:Int
 addr:io
structure pX where
 on:Int
 addr:io
 data:io
structure cS where
 addr:Int
 word:Int
 any:Bool
 reads:List gr
 writes:List pX
structure aZ where
 vars:Int
 bz:io
 aB:List fv
 bN:io
 bO:io
 constraints:io
 aa:List cS
 al:List ga
def cQ(v:Int)(word:Nat):io:=(List.range word).map fun i:Nat=>v+(i:Int)
def gA(m:cS):io:=m.reads.flatMap fun r=>cQ r.var m.word.toNat
def df(n:aZ):io:=n.bz++n.aB.map (·.var)++n.aa.flatMap gA++n.al.map (·.var)
def jT(x:pX):io:=x.on::(x.addr++x.data)
def gH(m:cS):io:=m.reads.flatMap (·.addr)++m.writes.flatMap jT
def jk(a:ga):io:=[a.a,a.b]
def eK(n:aZ):io:=n.aB.map (·.next)++n.bN++n.bO++n.constraints++n.aa.flatMap gH++n.al.flatMap jk
def iM(m:cS):Bool:=decide (4<m.reads.length\/4<m.writes.length)
def iK(n:aZ):Bool:=decide (n.vars<0\/2000<n.vars\/2000<n.bz.length\/2000<n.aB.length\/2000<n.al.length\/1000<n.bN.length+n.bO.length+n.constraints.length\/4<n.aa.length)||n.aa.any iM
def lY(m:cS)(r:gr):Bool:=(r.addr.length:Int) != m.addr
def kZ(m:cS)(x:pX):Bool:=(x.addr.length:Int) != m.addr||(x.data.length:Int) != m.word
def ie(m:cS):Bool:=decide (m.addr<1\/62<m.addr\/m.word<1\/64<m.word)||m.reads.any (lY m)||m.writes.any (kZ m)
def j8(l:fv):Bool:=decide (l.init<0\/2<l.init)
def dup(V:Int)(pre:io):io->Int
 |[]=>if(pre.length:Int)<V then 7 else 0
 |v::l=>if v<1\/V<v then 5 else if pre.contains v then 6 else dup V (pre++[v]) l
def mj(V l:Int):Bool:=decide (l<0\/V<l / 2)
def fx(n:aZ):Int:=
 if iK n then 10 else if n.aa.any ie then 9 else if n.aB.any j8 then 1
 else if dup n.vars [] (df n)≠0 then dup n.vars [] (df n)else if(eK n).any (mj n.vars)then 5 else 0
variable{V:Int}{l:io}{k:Nat}
theorem afZ(hk:l.length<=k):dup V (l.take k) (l.drop k)=if(l.length:Int)<V then 7 else 0:=by rw[ask hk,By hk];rfl
variable{v:Int}
theorem VW(hk:l[k]?=some v)(h:v<1\/V<v):dup V (l.take k) (l.drop k)=5:=by obtain⟨h1,rfl⟩:=AC.1 hk;rw[aiT h1,dup,BY h]
theorem ata(hk:l[k]?=some v)(h1:1<=v)(h2:v<=V)(h:(l.take k).contains v=true):dup V (l.take k) (l.drop k)=6:=by obtain⟨h3,rfl⟩:=AC.1 hk;rw[aiT h3,dup,rx aGl,BY h]
theorem dY{α:Type}{l:List α}{v:α}(hk:l[k]?=some v):l.take (k+1)=l.take k++[v]:=by
 obtain⟨h3,rfl⟩:=AC.1 hk
 simp_all
theorem aeW(hk:l[k]?=some v)(h1:1<=v)(h2:v<=V)(h:(l.take k).contains v=false):dup V (l.take k) (l.drop k)=dup V (l.take (k+1)) (l.drop (k+1)):=by have hs:=dY hk;obtain⟨h3,rfl⟩:=AC.1 hk;rw[aiT h3,dup,rx aGl,rx (by rw[h];simp),hs]
def lV(V:Nat)(pre:io):ip:=(List.range (V+1)).map fun v:Nat=>pre.contains (v:Int)
theorem DB(V:Nat)(pre:io):(lV V pre).length=V+1:=by simp[lV]
variable{pre:io}
theorem Eb{V:Nat}{v:Nat}(h:v<=V):(lV V pre)[v]?=some (pre.contains (v:Int)):=by unfold lV;grind
theorem arE(V:Nat):lV V []=List.replicate (V+1) false:=by
 apply aig;intro i;by_cases h:i<=V
 .rw[Eb h,aFG,BY aGl];rfl
 .rw[BT (by rw[DB];omega),BT (by simp;omega)]
theorem asM{V:Nat}{v:Nat}(h:v<=V):(lV V pre).set v true=lV V (pre++[(v:Int)]):=by
 apply aig;intro i;by_cases hi:i<=V
 .rw[aFO,Eb hi,Eb hi];by_cases e:v=i
  .subst e;simp[DB];omega
  grind
 .rw[BT (by simp[DB];omega),BT (by rw[DB];omega)]
theorem aeS(V:Nat):∀(l:io),l.Nodup->(∀x∈l,1<=x/\x<=(V:Int))->l.length<=V/\(V<=l.length->∀v:Nat,1<=v->v<=V->(v:Int)∈l):=by
 induction V with
 |zero=>
  intro l _ hr;have:l=[]:=by cases l with|nil=>rfl|cons x l=>have:=hr x aGn;omega
  subst this;exact⟨aGn,fun _ v h1 h2=>aGl⟩
 |succ V ih=>
  intro l hn hr;by_cases hm:((V+1:Nat):Int)∈l
  .obtain⟨a,b,rfl⟩:=List.append_of_mem hm;have hn':(a++b).Nodup:=by rw[aFo]at hn |-;obtain⟨h1,h2,h3⟩:=hn;rw[List.nodup_cons]at h2;exact⟨h1,h2.2,fun x hx y hy=>h3 x hx y (by simp[hy])⟩
   have hnm:((V+1:Nat):Int)∉a++b:=by
    rw[aFo]at hn;obtain⟨h1,h2,h3⟩:=hn;rw[List.nodup_cons]at h2;intro h;rcases At.1 h with h|h
    .exact h3 _ h _ aGn rfl
    .exact h2.1 h
   obtain⟨i1,i2⟩:=ih (a++b) hn' (fun x hx=>by have h:=hr x (by rcases At.1 hx with h|h<;>simp[h]);have hne:x≠((V+1:Nat):Int):=fun e=>hnm (e▸hx);omega)
   grind
  grind
end Go.Proofs.YtjflbmpepamfjaaGreat.Pl
end
section
namespace Go.Proofs.YtjflbmpepamfjaaGreat
open Go.RowKit Pl
def cE(x:Int):Prop:=-9223372036854775808<=x/\x<=9223372036854775807
def Sl(w:World)(B size:Nat)(A:lc)(n c:Nat)(xs:kw):Prop:=Reads w B size A n xs/\n<=c/\0<=c
def ints(l:io):kw:=l.map (Value.int .i64)
section
variable{w w':World}{B B' size n c:Nat}{A:lc}{xs:kw}
theorem Sl.keep(h:Sl w B size A n c xs)(hk:∀p:Addr,p.block<B->w'.cell? p=w.cell? p):Sl w' B size A n c xs:=⟨h.1.keep hk,h.2⟩
theorem Sl.more(h:Sl w B size A n c xs)(hB:B<=B'):Sl w B' size A n c xs:=⟨h.1.more hB,h.2⟩
theorem Sl.own{base:Nat}{e:TypeId}(h:w.ownsRow base e size (.slice A n c) n xs):Sl w w.heap.size size A n c xs:=by obtain⟨A',c',hv,h1,h2,h3⟩:=eo h;injection hv with e1 _ e2;subst e1 e2;exact⟨h3,h1,AI _⟩
end
variable{base:Nat}
def Pl.fv.cells(l:fv):kw:=[.int .i64 l.var,.int .i64 l.next,.int .i64 l.init]
def Pl.ga.cells(a:ga):kw:=[.int .i64 a.var,.int .i64 a.a,.int .i64 a.b]
structure cO where
 var:Int
 A:lc
 c:Nat
 addr:io
def cO.cells(r:cO):kw:=[.int .i64 r.var,.slice r.A r.addr.length r.c]
def cO.d(r:cO):gr:=⟨r.var,r.addr⟩
def cO.bU(w:World)(B:Nat)(r:cO):Prop:=Sl w B 1 r.A r.addr.length r.c (ints r.addr)
structure dM where
 on:Int
 A:lc
 c:Nat
 addr:io
 A2:lc
 c2:Nat
 data:io
def dM.cells(r:dM):kw:=[.int .i64 r.on,.slice r.A r.addr.length r.c,.slice r.A2 r.data.length r.c2]
def dM.d(r:dM):pX:=⟨r.on,r.addr,r.data⟩
def dM.bU(w:World)(B:Nat)(r:dM):Prop:=Sl w B 1 r.A r.addr.length r.c (ints r.addr)/\Sl w B 1 r.A2 r.data.length r.c2 (ints r.data)
structure bk where
 addr:Int
 word:Int
 any:Bool
 A:lc
 c:Nat
 reads:List cO
 A2:lc
 c2:Nat
 writes:List dM
def bk.cells(m:bk):kw:=[.int .i64 m.addr,.int .i64 m.word,.bool m.any,.slice m.A m.reads.length m.c,.slice m.A2 m.writes.length m.c2]
def bk.v(m:bk):Value:=.agg #[.int .i64 m.addr,.int .i64 m.word,.bool m.any,.slice m.A m.reads.length m.c,.slice m.A2 m.writes.length m.c2]
def bk.d(m:bk):cS:=⟨m.addr,m.word,m.any,m.reads.map cO.d,m.writes.map dM.d⟩
structure bk.bU(w:World)(B:Nat)(m:bk):Prop where
 rd:Sl w B 2 m.A m.reads.length m.c (m.reads.flatMap cO.cells)
 gC:∀r∈m.reads,r.bU w B
 wr:Sl w B 3 m.A2 m.writes.length m.c2 (m.writes.flatMap dM.cells)
 nO:∀r∈m.writes,r.bU w B
structure aV where
 vars:Int
 Ai:lc
 ci:Nat
 bz:io
 Al:lc
 cl:Nat
 aB:List fv
 Ao:lc
 co:Nat
 bN:io
 Ab:lc
 cb:Nat
 bO:io
 Ac:lc
 cc:Nat
 constraints:io
 Am:lc
 cm:Nat
 aa:List bk
 An:lc
 cn:Nat
 al:List ga
def aV.d(n:aV):aZ:=⟨n.vars,n.bz,n.aB,n.bN,n.bO,n.constraints,n.aa.map bk.d,n.al⟩
def aV.fs(n:aV):Array Value:=#[.int .i64 n.vars,.slice n.Ai n.bz.length n.ci,.slice n.Al n.aB.length n.cl,.slice n.Ao n.bN.length n.co,.slice n.Ab n.bO.length n.cb,.slice n.Ac n.constraints.length n.cc,.slice n.Am n.aa.length n.cm,.slice n.An n.al.length n.cn]
def aV.v(n:aV):Value:=.agg n.fs
structure aV.bU(w:World)(B:Nat)(n:aV):Prop where
 ins:Sl w B 1 n.Ai n.bz.length n.ci (ints n.bz)
 aC:Sl w B 3 n.Al n.aB.length n.cl (n.aB.flatMap fv.cells)
 out:Sl w B 1 n.Ao n.bN.length n.co (ints n.bN)
 bad:Sl w B 1 n.Ab n.bO.length n.cb (ints n.bO)
 nH:Sl w B 1 n.Ac n.constraints.length n.cc (ints n.constraints)
 mem:Sl w B 5 n.Am n.aa.length n.cm (n.aa.flatMap bk.cells)
 yx:∀m∈n.aa,m.bU w B
 and:Sl w B 3 n.An n.al.length n.cn (n.al.flatMap ga.cells)
section
variable{w w':World}{B B':Nat}
theorem cO.bU.keep{r:cO}(h:r.bU w B)(hk:∀p:Addr,p.block<B->w'.cell? p=w.cell? p):r.bU w' B:=Sl.keep h hk
theorem dM.bU.keep{r:dM}(h:r.bU w B)(hk:∀p:Addr,p.block<B->w'.cell? p=w.cell? p):r.bU w' B:=⟨h.1.keep hk,h.2.keep hk⟩
theorem bk.bU.keep{m:bk}(h:m.bU w B)(hk:∀p:Addr,p.block<B->w'.cell? p=w.cell? p):m.bU w' B:=⟨h.rd.keep hk,fun r hr=>(h.gC r hr).keep hk,h.wr.keep hk,fun r hr=>(h.nO r hr).keep hk⟩
theorem aV.bU.keep{n:aV}(h:n.bU w B)(hk:∀p:Addr,p.block<B->w'.cell? p=w.cell? p):n.bU w' B:=⟨h.ins.keep hk,h.aC.keep hk,h.out.keep hk,h.bad.keep hk,h.nH.keep hk,h.mem.keep hk,fun m hm=>(h.yx m hm).keep hk,h.and.keep hk⟩
theorem cO.bU.more{r:cO}(h:r.bU w B)(hB:B<=B'):r.bU w B':=Sl.more h hB
theorem dM.bU.more{r:dM}(h:r.bU w B)(hB:B<=B'):r.bU w B':=⟨h.1.more hB,h.2.more hB⟩
theorem bk.bU.more{m:bk}(h:m.bU w B)(hB:B<=B'):m.bU w B':=⟨h.rd.more hB,fun r hr=>(h.gC r hr).more hB,h.wr.more hB,fun r hr=>(h.nO r hr).more hB⟩
theorem aV.bU.more{n:aV}(h:n.bU w B)(hB:B<=B'):n.bU w B':=⟨h.ins.more hB,h.aC.more hB,h.out.more hB,h.bad.more hB,h.nH.more hB,h.mem.more hB,fun m hm=>(h.yx m hm).more hB,h.and.more hB⟩
theorem Sl.below{size n c:Nat}{A:lc}{xs:kw}(h:Sl w B size A n c xs)(hb:Below B w w'):Sl w' B size A n c xs:=h.keep fun _ hp=>hb.cell hp
theorem bk.bU.below{m:bk}(h:m.bU w B)(hb:Below B w w'):m.bU w' B:=h.keep fun _ hp=>hb.cell hp
theorem aV.bU.below{n:aV}(h:n.bU w B)(hb:Below B w w'):n.bU w' B:=h.keep fun _ hp=>hb.cell hp
theorem cO.bU.below{m:cO}(h:m.bU w B)(hb:Below B w w'):m.bU w' B:=h.keep fun _ hp=>hb.cell hp
end
variable{α:Type}{l:List α}{m:bk}{r:cO}
theorem Sl.elem{f:α->kw}{C:Nat}{w:World}{B k c:Nat}{A:lc}(h:Sl w B C A l.length c (l.flatMap f))(hC:0<C)(hf:∀x,(f x).length=C)(hk:k<l.length) :
  ∃b off x,A=some ⟨b,off,none⟩/\b<B/\l[k]?=some x/\x∈l/\∀j u,(f x)[j]?=some u->w.cell? ⟨b,off+(k*C+j),none⟩=some u:=by
 obtain⟨b,off,x,h1,h2,h3,h4⟩:=Reads.elem h.1 hC hf rfl hk;exact⟨b,off,x,h1,h2,h3,ep h3,h4⟩
variable{off:Nat}{b:Nat}
theorem fv.at_{w:World}{k:Nat}{l:fv}(h:∀j u,(fv.cells l)[j]?=some u->w.cell? ⟨b,off+(k*3+j),none⟩=some u) :
  w.cell? ⟨b,off+k*3,none⟩=some (.int .i64 l.var)/\w.cell? ⟨b,off+k*3+1,none⟩=some (.int .i64 l.next)/\w.cell? ⟨b,off+k*3+2,none⟩=some (.int .i64 l.init):=
 ⟨h 0 _ rfl,h 1 _ rfl,h 2 _ rfl⟩
theorem ga.at_{w:World}{k:Nat}{l:ga}(h:∀j u,(ga.cells l)[j]?=some u->w.cell? ⟨b,off+(k*3+j),none⟩=some u) :
  w.cell? ⟨b,off+k*3,none⟩=some (.int .i64 l.var)/\w.cell? ⟨b,off+k*3+1,none⟩=some (.int .i64 l.a)/\w.cell? ⟨b,off+k*3+2,none⟩=some (.int .i64 l.b):=
 ⟨h 0 _ rfl,h 1 _ rfl,h 2 _ rfl⟩
theorem cO.at_{w:World}{k:Nat}{l:cO}(h:∀j u,l.cells[j]?=some u->w.cell? ⟨b,off+(k*2+j),none⟩=some u) :
  w.cell? ⟨b,off+k*2,none⟩=some (.int .i64 l.var)/\w.cell? ⟨b,off+k*2+1,none⟩=some (.slice l.A l.addr.length l.c):=
 ⟨h 0 _ rfl,h 1 _ rfl⟩
theorem dM.at_{w:World}{k:Nat}{l:dM}(h:∀j u,l.cells[j]?=some u->w.cell? ⟨b,off+(k*3+j),none⟩=some u) :
  w.cell? ⟨b,off+k*3,none⟩=some (.int .i64 l.on)/\w.cell? ⟨b,off+k*3+1,none⟩=some (.slice l.A l.addr.length l.c)/\w.cell? ⟨b,off+k*3+2,none⟩=some (.slice l.A2 l.data.length l.c2):=
 ⟨h 0 _ rfl,h 1 _ rfl,h 2 _ rfl⟩
theorem bk.at_{w:World}{k:Nat}{l:bk}(h:∀j u,l.cells[j]?=some u->w.cell? ⟨b,off+(k*5+j),none⟩=some u) :
  w.cell? ⟨b,off+k*5,none⟩=some (.int .i64 l.addr)/\w.cell? ⟨b,off+k*5+1,none⟩=some (.int .i64 l.word)/\w.cell? ⟨b,off+k*5+2,none⟩=some (.bool l.any) /\
   w.cell? ⟨b,off+k*5+3,none⟩=some (.slice l.A l.reads.length l.c)/\w.cell? ⟨b,off+k*5+4,none⟩=some (.slice l.A2 l.writes.length l.c2):=
 ⟨h 0 _ rfl,h 1 _ rfl,h 2 _ rfl,h 3 _ rfl,h 4 _ rfl⟩
theorem Sl.oU{w:World}{B k c:Nat}{A:lc}{l:io}(h:Sl w B 1 A l.length c (ints l))(hk:k<l.length) :
  ∃b off x,A=some ⟨b,off,none⟩/\b<B/\l[k]?=some x/\x∈l/\w.cell? ⟨b,off+k,none⟩=some (.int .i64 x):=by
 obtain⟨b,off,h1,h2,h3⟩:=Reads.oU h.1 hk
 grind
structure qt(m:cS):Prop where
 word:cE m.word/\m.word<=4000
 addr:cE m.addr
 mJ:m.reads.length<=100
 qg:m.writes.length<=100
 gC:∀r∈m.reads,r.addr.length<=4000/\-1099511627776<=r.var/\r.var<=1099511627776/\∀x∈r.addr,cE x
 nO:∀r∈m.writes,r.addr.length<=4000/\r.data.length<=4000/\cE r.on/\(∀x∈r.addr,cE x)/\∀x∈r.data,cE x
structure Fit(n:aZ):Prop where
 vars:cE n.vars
 ins:n.bz.length<=4000/\∀x∈n.bz,cE x
 aC:n.aB.length<=4000/\∀l∈n.aB,cE l.var/\cE l.next/\cE l.init
 out:n.bN.length<=4000/\∀x∈n.bN,cE x
 bad:n.bO.length<=4000/\∀x∈n.bO,cE x
 nH:n.constraints.length<=4000/\∀x∈n.constraints,cE x
 aa:n.aa.length<=100/\∀m∈n.aa,qt m
 al:n.al.length<=4000/\∀a∈n.al,cE a.var/\cE a.a/\cE a.b
variable{p:α->Bool}
theorem uC{k:Nat}{x:α}(hx:l[k]?=some x)(h:(l.take k).any p=false)(hp:p x=false):(l.take (k+1)).any p=false:=by rw[dY hx,List.any_append,h];simp[hp]
theorem uD{k:Nat}(hk:l.length<=k)(h:(l.take k).any p=false):l.any p=false:=by rwa [By hk]at h
def wh(b:Bool)(w:World)(e:Ending)(w':World):Prop:=∃i:Int,e=.returned (.int .i64 i)/\decide (0<=i)=b/\Below w.heap.size w w'
theorem asE(m:bk)(g:Nat)(v:Int)(A:lc)(n c:Nat)(w:World)(hg:af w g 54 m.cells.toArray) :
  Calls Tryz.prog 177 #[.agg #[.int .i64 v,.slice A n c],.pointer (some ⟨g,0,none⟩)] w fun e w'=>e=.returned (.bool ((n:Int) != m.addr))/\Below w.heap.size w w':=by
 have h0:(w.alloc (.cells #[.int .i64 v,.slice A n c] 50)).cell? ⟨g,0,none⟩=some (.int .i64 m.addr):=((hg.alloc _).cell 0);clear hg
 go_enter Tryz.func177,Tryz.ntmps177
 go_wp2_with fail
 go_ret
 exact⟨rfl,(Below.refl _ _).alloc (pi _) _⟩
theorem asD(m:bk)(g:Nat)(v:Int)(A:lc)(n c:Nat)(A2:lc)(n2 c2:Nat)(w:World)(hg:af w g 54 m.cells.toArray) :
  Calls Tryz.prog 178 #[.agg #[.int .i64 v,.slice A n c,.slice A2 n2 c2],.pointer (some ⟨g,0,none⟩)] w fun e w'=>e=.returned (.bool ((n:Int) != m.addr||(n2:Int) != m.word))/\Below w.heap.size w w':=by
 have h0:(w.alloc (.cells #[.int .i64 v,.slice A n c,.slice A2 n2 c2] 136)).cell? ⟨g,0,none⟩=some (.int .i64 m.addr):=((hg.alloc _).cell 0);have h1:(w.alloc (.cells #[.int .i64 v,.slice A n c,.slice A2 n2 c2] 136)).cell? ⟨g,1,none⟩=some (.int .i64 m.word):=((hg.alloc _).cell 1);clear hg;rcases hb:((n:Int) != m.addr)with _|_
 all_goals
  go_enter Tryz.func178,Tryz.ntmps178
  go_wp2_with fail
  go_ret
  exact⟨aGn,(Below.refl _ _).alloc (pi _) _⟩
theorem asP(a wd:Int)(y:Bool)(A:lc)(n c:Nat)(A2:lc)(n2 c2:Nat)(w:World)(hn:n<=100)(hn2:n2<=100) :
  Calls Tryz.prog 175 #[.agg #[.int .i64 a,.int .i64 wd,.bool y,.slice A n c,.slice A2 n2 c2]] w fun e w'=>e=.returned (.bool (decide (4<n\/4<n2)))/\Below w.heap.size w w':=by
 by_cases h1:4<n<;>by_cases h2:4<n2
 all_goals
  go_enter Tryz.func175,Tryz.ntmps175
  go_wp2_with fail
  go_ret
  exact⟨lG (by rw[Bool.eq_iff_iff];try (first|(simp;done)|(simp;omega))),(Below.refl _ _).alloc (pi _) _⟩
theorem ae8(l:fv)(w:World) :
  Calls Tryz.prog 137 #[.agg #[.int .i64 l.var,.int .i64 l.next,.int .i64 l.init]] w fun e w'=>e=.returned (.bool (j8 l))/\Below w.heap.size w w':=by
 obtain⟨z,hz⟩:∃z,z=j8 l:=⟨_,rfl⟩;have HZ:=Lib.hid hz;rw[<-hz];clear hz;obtain⟨a,b,i⟩:=l;rcases(show i<0\/(¬i<0/\2<i)\/(¬i<0/\¬2<i)from by omega)with h1|⟨h1,h2⟩|⟨h1,h2⟩
 all_goals
  go_enter Tryz.func137,Tryz.ntmps137
  go_wp2_with fail
  go_ret
  exact⟨lG (by rw[HZ.out,Bool.eq_iff_iff];unfold j8;first|(simp;done)|(simp;omega)),(Below.refl _ _).alloc (pi _) _⟩
set_option maxHeartbeats 400000
theorem ar3(m:bk)(g:Nat)(A:lc)(c:Nat)(l:List cO)(w:World)(hS:Sl w w.heap.size 2 A l.length c (l.flatMap cO.cells))(hg:af w g 54 m.cells.toArray)(hn:l.length<=4000) :
  Calls Tryz.prog 223 #[.slice A l.length c,.func (.func 177) #[] #[.pointer (some ⟨g,0,none⟩)]] w (wh (l.any (fun x=>lY m.d x.d)) w):=by
 go_enter Tryz.func223,Tryz.ntmps223
 go_wp2_with fail
 go_loopw [8] (fun i wr=>∃k:Nat,k<=l.length/\i=.int .i64 k/\(l.take k).any (fun x=>lY m.d x.d)=false/\Below w.heap.size w wr) (fun i _=>l.length-(intOf i).toNat)
 case atStart=>exact⟨0,AI _,rfl,rfl,Below.refl _ _⟩
 case round=>
  obtain⟨k,hk,rfl,hno,hbel⟩:=hrel;have HNO:=Lib.hid hno;clear hno;by_cases hlt:k<l.length
  .obtain⟨b,off,x,rfl,hb,hx,hm,hcs⟩:=(hS.below hbel).elem aGl (fun _=>rfl) hlt;obtain⟨hc0,hc1⟩:=cO.at_ hcs;have HX:=Lib.hid hx;have HM:=Lib.hid hm;clear hcs hx hm
   go_wp2_with fail
   refine(asE m g x.var x.A x.addr.length x.c wr (hg.below hbel hg.lt)).mono ?_;rintro e w1 ⟨rfl,hb1⟩;rcases hp:(fun x=>lY m.d x.d) x with _|_
   .have hp':=hp;change((x.addr.length:Int) != m.addr)=_ at hp';rw[hp'];clear hp'
    go_wp2_with fail
    go_roundw
    case rel=>exact⟨k+1,aGl,by go_num,uC HX.out HNO.out hp,hbel.trans (hb1.mono hbel.size)⟩
    case measure=>simp[intOf];omega
   .have hp':=hp;change((x.addr.length:Int) != m.addr)=_ at hp';rw[hp'];clear hp'
    go_wp2_with fail
    go_ret
    exact⟨k,rfl,by rw[aEQ.2 ⟨x,HM.out,hp⟩];simp,hbel.trans (hb1.mono hbel.size)⟩
  .go_wp2_with fail
   go_ret
   exact⟨-1,rfl,by rw[uD aGl HNO.out];rfl,hbel⟩
theorem asa(m:bk)(g:Nat)(A:lc)(c:Nat)(l:List cO)(w:World)(hS:Sl w w.heap.size 2 A l.length c (l.flatMap cO.cells))(hg:af w g 54 m.cells.toArray)(hn:l.length<=4000) :
  Calls Tryz.prog 179 #[.slice A l.length c,.func (.func 177) #[] #[.pointer (some ⟨g,0,none⟩)]] w fun e w'=>e=.returned (.bool (l.any (fun x=>lY m.d x.d)))/\Below w.heap.size w w':=by
 go_enter Tryz.func179,Tryz.ntmps179
 go_wp2_with fail
 refine(ar3 m g A c l w hS hg hn).mono ?_;rintro e w1 ⟨i,rfl,hi,hb1⟩;have HI:=Lib.hid hi;clear hi
 go_wp2_with fail
 go_ret
 exact⟨by rw[HI.out];rfl,hb1⟩
theorem arJ(m:bk)(g:Nat)(A:lc)(c:Nat)(l:List dM)(w:World)(hS:Sl w w.heap.size 3 A l.length c (l.flatMap dM.cells))(hg:af w g 54 m.cells.toArray)(hn:l.length<=4000) :
  Calls Tryz.prog 224 #[.slice A l.length c,.func (.func 178) #[] #[.pointer (some ⟨g,0,none⟩)]] w (wh (l.any (fun x=>kZ m.d x.d)) w):=by
 go_enter Tryz.func224,Tryz.ntmps224
 go_wp2_with fail
 go_loopw [8] (fun i wr=>∃k:Nat,k<=l.length/\i=.int .i64 k/\(l.take k).any (fun x=>kZ m.d x.d)=false/\Below w.heap.size w wr) (fun i _=>l.length-(intOf i).toNat)
 case atStart=>exact⟨0,AI _,rfl,rfl,Below.refl _ _⟩
 case round=>
  obtain⟨k,hk,rfl,hno,hbel⟩:=hrel;have HNO:=Lib.hid hno;clear hno;by_cases hlt:k<l.length
  .obtain⟨b,off,x,rfl,hb,hx,hm,hcs⟩:=(hS.below hbel).elem aGl (fun _=>rfl) hlt;obtain⟨hc0,hc1,hc2⟩:=dM.at_ hcs;have HX:=Lib.hid hx;have HM:=Lib.hid hm;clear hcs hx hm
   go_wp2_with fail
   refine(asD m g x.on x.A x.addr.length x.c x.A2 x.data.length x.c2 wr (hg.below hbel hg.lt)).mono ?_;rintro e w1 ⟨rfl,hb1⟩;rcases hp:(fun x=>kZ m.d x.d) x with _|_
   .have hp':=hp;change((x.addr.length:Int) != m.addr||(x.data.length:Int) != m.word)=_ at hp';rw[hp'];clear hp'
    go_wp2_with fail
    go_roundw
    case rel=>exact⟨k+1,aGl,by go_num,uC HX.out HNO.out hp,hbel.trans (hb1.mono hbel.size)⟩
    case measure=>simp[intOf];omega
   .have hp':=hp;change((x.addr.length:Int) != m.addr||(x.data.length:Int) != m.word)=_ at hp';rw[hp'];clear hp'
    go_wp2_with fail
    go_ret
    exact⟨k,rfl,by rw[aEQ.2 ⟨x,HM.out,hp⟩];simp,hbel.trans (hb1.mono hbel.size)⟩
  .go_wp2_with fail
   go_ret
   exact⟨-1,rfl,by rw[uD aGl HNO.out];rfl,hbel⟩
theorem arT(m:bk)(g:Nat)(A:lc)(c:Nat)(l:List dM)(w:World)(hS:Sl w w.heap.size 3 A l.length c (l.flatMap dM.cells))(hg:af w g 54 m.cells.toArray)(hn:l.length<=4000) :
  Calls Tryz.prog 180 #[.slice A l.length c,.func (.func 178) #[] #[.pointer (some ⟨g,0,none⟩)]] w fun e w'=>e=.returned (.bool (l.any (fun x=>kZ m.d x.d)))/\Below w.heap.size w w':=by
 go_enter Tryz.func180,Tryz.ntmps180
 go_wp2_with fail
 refine(arJ m g A c l w hS hg hn).mono ?_;rintro e w1 ⟨i,rfl,hi,hb1⟩;have HI:=Lib.hid hi;clear hi
 go_wp2_with fail
 go_ret
 exact⟨by rw[HI.out];rfl,hb1⟩
theorem arK  (A:lc)(c:Nat)(l:List bk)(w:World)(hS:Sl w w.heap.size 5 A l.length c (l.flatMap bk.cells))(hf:∀x∈l,x.reads.length<=100/\x.writes.length<=100)(hn:l.length<=4000) :
  Calls Tryz.prog 176 #[.slice A l.length c,.func (.func 175) #[] #[]] w (wh (l.any (fun x=>iM x.d)) w):=by
 go_enter Tryz.func176,Tryz.ntmps176
 go_wp2_with fail
 go_loopw [8] (fun i wr=>∃k:Nat,k<=l.length/\i=.int .i64 k/\(l.take k).any (fun x=>iM x.d)=false/\Below w.heap.size w wr) (fun i _=>l.length-(intOf i).toNat)
 case atStart=>exact⟨0,AI _,rfl,rfl,Below.refl _ _⟩
 case round=>
  obtain⟨k,hk,rfl,hno,hbel⟩:=hrel;have HNO:=Lib.hid hno;clear hno;by_cases hlt:k<l.length
  .obtain⟨b,off,x,rfl,hb,hx,hm,hcs⟩:=(hS.below hbel).elem aGl (fun _=>rfl) hlt;obtain⟨hc0,hc1,hc2,hc3,hc4⟩:=bk.at_ hcs;have HX:=Lib.hid hx;have HM:=Lib.hid hm;clear hcs hx hm
   go_wp2_with fail
   refine(asP x.addr x.word x.any x.A x.reads.length x.c x.A2 x.writes.length x.c2 wr (hf x HM.out).1 (hf x HM.out).2).mono ?_;rintro e w1 ⟨rfl,hb1⟩;rcases hp:(fun x=>iM x.d) x with _|_
   .have hp':=hp;simp only[iM,bk.d,aR]at hp';rw[hp'];clear hp'
    go_wp2_with fail
    go_roundw
    case rel=>exact⟨k+1,aGl,by go_num,uC HX.out HNO.out hp,hbel.trans (hb1.mono hbel.size)⟩
    case measure=>simp[intOf];omega
   .have hp':=hp;simp only[iM,bk.d,aR]at hp';rw[hp'];clear hp'
    go_wp2_with fail
    go_ret
    exact⟨k,rfl,by rw[aEQ.2 ⟨x,HM.out,hp⟩];simp,hbel.trans (hb1.mono hbel.size)⟩
  .go_wp2_with fail
   go_ret
   exact⟨-1,rfl,by rw[uD aGl HNO.out];rfl,hbel⟩
theorem arU  (A:lc)(c:Nat)(l:List bk)(w:World)(hS:Sl w w.heap.size 5 A l.length c (l.flatMap bk.cells))(hf:∀x∈l,x.reads.length<=100/\x.writes.length<=100)(hn:l.length<=4000) :
  Calls Tryz.prog 134 #[.slice A l.length c,.func (.func 175) #[] #[]] w fun e w'=>e=.returned (.bool (l.any (fun x=>iM x.d)))/\Below w.heap.size w w':=by
 go_enter Tryz.func134,Tryz.ntmps134
 go_wp2_with fail
 refine(arK  A c l w hS hf hn).mono ?_;rintro e w1 ⟨i,rfl,hi,hb1⟩;have HI:=Lib.hid hi;clear hi
 go_wp2_with fail
 go_ret
 exact⟨by rw[HI.out];rfl,hb1⟩
theorem ar4  (A:lc)(c:Nat)(l:List fv)(w:World)(hS:Sl w w.heap.size 3 A l.length c (l.flatMap fv.cells))(hn:l.length<=4000) :
  Calls Tryz.prog 181 #[.slice A l.length c,.func (.func 137) #[] #[]] w (wh (l.any j8) w):=by
 go_enter Tryz.func181,Tryz.ntmps181
 go_wp2_with fail
 go_loopw [8] (fun i wr=>∃k:Nat,k<=l.length/\i=.int .i64 k/\(l.take k).any j8=false/\Below w.heap.size w wr) (fun i _=>l.length-(intOf i).toNat)
 case atStart=>exact⟨0,AI _,rfl,rfl,Below.refl _ _⟩
 case round=>
  obtain⟨k,hk,rfl,hno,hbel⟩:=hrel;have HNO:=Lib.hid hno;clear hno;by_cases hlt:k<l.length
  .obtain⟨b,off,x,rfl,hb,hx,hm,hcs⟩:=(hS.below hbel).elem aGl (fun _=>rfl) hlt;obtain⟨hc0,hc1,hc2⟩:=fv.at_ hcs;have HX:=Lib.hid hx;have HM:=Lib.hid hm;clear hcs hx hm
   go_wp2_with fail
   refine(ae8 x wr).mono ?_;rintro e w1 ⟨rfl,hb1⟩;rcases hp:j8 x with _|_
   .have hp':=hp;clear hp'
    go_wp2_with fail
    go_roundw
    case rel=>exact⟨k+1,aGl,by go_num,uC HX.out HNO.out hp,hbel.trans (hb1.mono hbel.size)⟩
    case measure=>simp[intOf];omega
   .have hp':=hp;clear hp'
    go_wp2_with fail
    go_ret
    exact⟨k,rfl,by rw[aEQ.2 ⟨x,HM.out,hp⟩];simp,hbel.trans (hb1.mono hbel.size)⟩
  .go_wp2_with fail
   go_ret
   exact⟨-1,rfl,by rw[uD aGl HNO.out];rfl,hbel⟩
theorem asb  (A:lc)(c:Nat)(l:List fv)(w:World)(hS:Sl w w.heap.size 3 A l.length c (l.flatMap fv.cells))(hn:l.length<=4000) :
  Calls Tryz.prog 136 #[.slice A l.length c,.func (.func 137) #[] #[]] w fun e w'=>e=.returned (.bool (l.any j8))/\Below w.heap.size w w':=by
 go_enter Tryz.func136,Tryz.ntmps136
 go_wp2_with fail
 refine(ar4  A c l w hS hn).mono ?_;rintro e w1 ⟨i,rfl,hi,hb1⟩;have HI:=Lib.hid hi;clear hi
 go_wp2_with fail
 go_ret
 exact⟨by rw[HI.out];rfl,hb1⟩
theorem afJ(m:bk)(w:World)(hm:m.bU w w.heap.size)(h1:m.reads.length<=4000)(h2:m.writes.length<=4000) :
  Calls Tryz.prog 135 #[m.v] w fun e w'=>e=.returned (.bool (ie m.d))/\Below w.heap.size w w':=by
 have hW:ie m.d=(decide (m.addr<1\/62<m.addr\/m.word<1\/64<m.word)||m.reads.any (fun x=>lY m.d x.d)||m.writes.any (fun x=>kZ m.d x.d)):=by unfold ie;rw[show m.d.reads=m.reads.map cO.d from rfl,show m.d.writes=m.writes.map dM.d from rfl,List.any_map,List.any_map];rfl
 have HW:=Lib.hid hW;clear hW;have hm2:m.bU (w.alloc (.cells m.cells.toArray 54)) w.heap.size:=hm.keep fun p hp=>World.cell?_alloc_lt w _ p hp;have HM:=Lib.hid hm2;have HG:=Lib.hid (af.new w 54 m.cells.toArray);clear hm hm2;unfold bk.v;rcases(show m.addr<1\/(¬m.addr<1/\62<m.addr)\/(¬m.addr<1/\¬62<m.addr/\m.word<1)\/(¬m.addr<1/\¬62<m.addr/\¬m.word<1/\64<m.word)\/(¬m.addr<1/\¬62<m.addr/\¬m.word<1/\¬64<m.word)from by omega)with a1|⟨a1,a2⟩|⟨a1,a2,a3⟩|⟨a1,a2,a3,a4⟩|⟨a1,a2,a3,a4⟩
 iterate 4
  .go_enter Tryz.func135,Tryz.ntmps135
   go_wp2_with fail
   go_ret
   exact⟨by rw[HW.out];rw[iU aGl];rfl,(Below.refl _ _).alloc (pi _) _⟩
 .go_enter Tryz.func135,Tryz.ntmps135
  go_wp2_with fail
  refine(asa m w.heap.size m.A m.c m.reads _ (HM.out.rd.more aGn) HG.out h1).mono ?_;rintro e w1 ⟨rfl,hb1⟩;have hsz:w.heap.size<w1.heap.size:=by have:=hb1.size;simp at this;omega
  have hc4:w1.cell? ⟨w.heap.size,4,none⟩=some (.slice m.A2 m.writes.length m.c2):=(HG.out.below hb1 aGn).cell 4;have HG1:=Lib.hid (HG.out.below hb1 aGn);have hb0:Below w.heap.size w w1:=((Below.refl _ _).alloc (pi _) _).trans (hb1.mono aGn);have HM1:=Lib.hid (HM.out.below (hb1.mono aGn));clear hb1;rcases hp:m.reads.any (fun x=>lY m.d x.d)with _|_
  .rw[hp]at HW;clear hp
   go_wp2_with fail
   refine(arT m w.heap.size m.A2 m.c2 m.writes _ (HM1.out.wr.more aGl) HG1.out h2).mono ?_;rintro e w2 ⟨rfl,hb2⟩
   go_wp2_with fail
   go_ret
   exact⟨by rw[HW.out,jG aGl];rfl,hb0.trans (hb2.mono aGl)⟩
  .rw[hp]at HW;clear hp
   go_wp2_with fail
   go_ret
   exact⟨by rw[HW.out];simp,hb0⟩
theorem ar2  (A:lc)(c:Nat)(l:List bk)(w:World)(hS:Sl w w.heap.size 5 A l.length c (l.flatMap bk.cells))(hf:∀x∈l,x.bU w w.heap.size/\x.reads.length<=100/\x.writes.length<=100)(hn:l.length<=4000) :
  Calls Tryz.prog 176 #[.slice A l.length c,.func (.func 135) #[] #[]] w (wh (l.any (fun x=>ie x.d)) w):=by
 go_enter Tryz.func176,Tryz.ntmps176
 go_wp2_with fail
 go_loopw [8] (fun i wr=>∃k:Nat,k<=l.length/\i=.int .i64 k/\(l.take k).any (fun x=>ie x.d)=false/\Below w.heap.size w wr) (fun i _=>l.length-(intOf i).toNat)
 case atStart=>exact⟨0,AI _,rfl,rfl,Below.refl _ _⟩
 case round=>
  obtain⟨k,hk,rfl,hno,hbel⟩:=hrel;have HNO:=Lib.hid hno;clear hno;by_cases hlt:k<l.length
  .obtain⟨b,off,x,rfl,hb,hx,hm,hcs⟩:=(hS.below hbel).elem aGl (fun _=>rfl) hlt;obtain⟨hc0,hc1,hc2,hc3,hc4⟩:=bk.at_ hcs;have HX:=Lib.hid hx;have HM:=Lib.hid hm;clear hcs hx hm
   go_wp2_with fail
   refine(afJ x wr (((hf x HM.out).1.below hbel).more hbel.size) (by have:=(hf x HM.out).2.1;omega) (by have:=(hf x HM.out).2.2;omega)).mono ?_;rintro e w1 ⟨rfl,hb1⟩;rcases hp:(fun x=>ie x.d) x with _|_
   .have hp':=hp;clear hp'
    go_wp2_with fail
    go_roundw
    case rel=>exact⟨k+1,aGl,by go_num,uC HX.out HNO.out hp,hbel.trans (hb1.mono hbel.size)⟩
    case measure=>simp[intOf];omega
   .have hp':=hp;clear hp'
    go_wp2_with fail
    go_ret
    exact⟨k,rfl,by rw[aEQ.2 ⟨x,HM.out,hp⟩];simp,hbel.trans (hb1.mono hbel.size)⟩
  .go_wp2_with fail
   go_ret
   exact⟨-1,rfl,by rw[uD aGl HNO.out];rfl,hbel⟩
theorem ar9  (A:lc)(c:Nat)(l:List bk)(w:World)(hS:Sl w w.heap.size 5 A l.length c (l.flatMap bk.cells))(hf:∀x∈l,x.bU w w.heap.size/\x.reads.length<=100/\x.writes.length<=100)(hn:l.length<=4000) :
  Calls Tryz.prog 134 #[.slice A l.length c,.func (.func 135) #[] #[]] w fun e w'=>e=.returned (.bool (l.any (fun x=>ie x.d)))/\Below w.heap.size w w':=by
 go_enter Tryz.func134,Tryz.ntmps134
 go_wp2_with fail
 refine(ar2  A c l w hS hf hn).mono ?_;rintro e w1 ⟨i,rfl,hi,hb1⟩;have HI:=Lib.hid hi;clear hi
 go_wp2_with fail
 go_ret
 exact⟨by rw[HI.out];rfl,hb1⟩
theorem N7(x:Int)(w:World):Calls Tryz.prog 174 #[.int .i64 x] w fun e w'=>e=.returned (.bool (decide (2000<x)))/\w=w':=by
 go_enter Tryz.func174,Tryz.ntmps174
 go_wp2
 go_ret
 exact⟨rfl,rfl⟩
set_option maxHeartbeats 4000000
theorem asm(n:aV)(w:World)(hn:n.bU w w.heap.size)(ft:Fit n.d) :
  Calls Tryz.prog 133 #[n.v] w fun e w'=>e=.returned (.bool (iK n.d))/\Below w.heap.size w w':=by
 have hn2:n.bU (w.alloc (.cells n.fs 27)) w.heap.size:=hn.keep fun p hp=>World.cell?_alloc_lt w _ p hp;have HN:=Lib.hid hn2;have HE:Hid (iK n.d=(decide (n.d.vars<0\/2000<n.d.vars\/2000<n.d.bz.length\/2000<n.d.aB.length\/2000<n.d.al.length\/1000<n.d.bN.length+n.d.bO.length+n.d.constraints.length\/4<n.d.aa.length)||n.d.aa.any iM)):=rfl;have hpf:∀x∈n.aa,x.reads.length<=100/\x.writes.length<=100:=fun x hx=>by have h:=ft.aa.2 x.d (abs hx);have h1:=h.mJ;have h2:=h.qg;simp only[bk.d,aR]at h1 h2;exact⟨h1,h2⟩
 have HPF:=Lib.hid hpf;have hml:n.aa.length<=100:=by have:=ft.aa.1;simpa[aV.d]using this
 have hpa:n.d.aa.any iM=n.aa.any (fun x=>iM x.d):=by show(n.aa.map bk.d).any iM=_;rw[List.any_map];rfl
 rw[hpa]at HE;have hl1:n.bz.length<=4000:=ft.ins.1;have hl2:n.aB.length<=4000:=ft.aC.1;have hl3:n.al.length<=4000:=ft.al.1;have hl4:n.bN.length<=4000:=ft.out.1;have hl5:n.bO.length<=4000:=ft.bad.1;have hl6:n.constraints.length<=4000:=ft.nH.1;clear hn hn2 hpa hpf ft;obtain⟨z,hz⟩:∃z,z=iK n.d:=⟨_,rfl⟩;rw[<-hz]at HE |-;clear hz;unfold aV.v aV.fs;simp only[aV.d,aR]at HE;rcases(show n.vars<0\/(¬n.vars<0/\2000<n.vars)\/(¬n.vars<0/\¬2000<n.vars/\(2000:Int)<n.bz.length)\/(¬n.vars<0/\¬2000<n.vars/\¬(2000:Int)<n.bz.length/\(2000:Int)<n.aB.length)\/(¬n.vars<0/\¬2000<n.vars/\¬(2000:Int)<n.bz.length/\¬(2000:Int)<n.aB.length/\(2000:Int)<n.al.length)\/(¬n.vars<0/\¬2000<n.vars/\¬(2000:Int)<n.bz.length/\¬(2000:Int)<n.aB.length/\¬(2000:Int)<n.al.length)from by omega)with a1|⟨a1,a2⟩|⟨a1,a2,a3⟩|⟨a1,a2,a3,a4⟩|⟨a1,a2,a3,a4,a5⟩|⟨a1,a2,a3,a4,a5⟩
 iterate 5
  .go_enter Tryz.func133,Tryz.ntmps133
   go_wp2_with (go_at_call 174;refine(N7 _ _).mono ?_;rintro e w' ⟨rfl,rfl⟩)
   go_ret
   refine⟨lG ?_,(Below.refl _ _).alloc (pi _) _⟩;rw[HE.out,iU aGl];rfl
 .rcases(show(1000:Int)<n.bN.length+n.bO.length+n.constraints.length\/(¬(1000:Int)<n.bN.length+n.bO.length+n.constraints.length/\(4:Int)<n.aa.length)\/(¬(1000:Int)<n.bN.length+n.bO.length+n.constraints.length/\¬(4:Int)<n.aa.length)from by omega)with b1|⟨b1,b2⟩|⟨b1,b2⟩
  iterate 2
   .go_enter Tryz.func133,Tryz.ntmps133
    go_wp2_with (go_at_call 174;refine(N7 _ _).mono ?_;rintro e w' ⟨rfl,rfl⟩)
    go_ret
    refine⟨lG ?_,(Below.refl _ _).alloc (pi _) _⟩;rw[HE.out,iU aGl];rfl
  .go_enter Tryz.func133,Tryz.ntmps133
   go_wp2_with (first|(go_at_call 174;refine(N7 _ _).mono ?_;rintro e w' ⟨rfl,rfl⟩)|(go_at_call 134;refine(arU n.Am n.cm n.aa _ (HN.out.mem.more aGn) HPF.out aGl).mono ?_;rintro e w1 ⟨rfl,hb1⟩))
   go_ret
   refine⟨lG ?_,((Below.refl _ _).alloc (pi _) _).trans (hb1.mono aGn)⟩;rw[HE.out,jG aGl];rfl
open Go.Shelf
attribute [local go_sem] Oper.semAt_some
structure gk(aIg B:Nat)(W W':World):Prop where
 below:Below aIg W W'
 dz:∀(i:Nat) (o:Obj),B<=i->W.heap[i]?=some o->o.isCells=true->W'.heap[i]?=some o
theorem gk.refl(aIg B:Nat)(W:World):gk aIg B W W:=⟨Below.refl _ _,fun _ _ _ h _=>h⟩
variable{aIg:Nat}
theorem gk.trans{B:Nat}{A C D:World}(h:gk aIg B A C)(k:gk aIg B C D):gk aIg B A D:=⟨h.below.trans k.below,fun i o hi hA ho=>k.dz i o hi (h.dz i o hi hA ho) ho⟩
variable{W:World}{W':World}
theorem gk.alloc{B:Nat}(h:gk aIg B W W')(hn:aIg<=W'.heap.size)(o:Obj):gk aIg B W (W'.alloc o):=⟨h.below.alloc hn o,fun i o' hi hW ho=>by have h1:=h.dz i o' hi hW ho;exact(Below.heap_alloc W' o i (aFs.1 h1).1).trans h1⟩
theorem gk.setCell{B:Nat}(h:gk aIg B W W'){p:Addr}(h1:aIg<=p.block)(h2:p.block<B)(v:Value):gk aIg B W (W'.setCell p v):=⟨h.below.setCell h1 v,fun i o' hi hW ho=>(Below.heap_setCell W' p v i aGl).trans (h.dz i o' hi hW ho)⟩
theorem aiB{B:Nat}{w:World}(hn:aIg<=w.heap.size)(W:World)(l:Nat)(o o':Obj)(hl:w.heap.size<=l)(h:W.heap[l]?=some o)(hc:o.isCells=false)(hw:o.isWalk=false):gk aIg B W (W.putObj l o'):=
 ⟨belowK_b hn W l o o' hl h hc hw,fun i o2 hi hW ho=>by
  by_cases e:i=l
  .subst e
   grind
  .exact(World.putObj_heap_other aGl).trans hW⟩
variable{t:TypeId}{g:Nat}
theorem af.yw{B:Nat}{cs:Array Value}(h:af W g t cs)(k:gk aIg B W W')(hg:B<=g):af W' g t cs:=k.dz g _ hg h rfl
/- the variables in their order, as dz as they have come -/
def v2(N:aV)(k:Nat):io:=N.bz++(N.aB.take k).map (·.var)
def qC(m:bk):io:=m.reads.flatMap fun r=>cQ r.var m.word.toNat
def v3(N:aV)(k:Nat):io:=N.bz++N.aB.map (·.var)++(N.aa.take k).flatMap qC
def v4(N:aV)(k:Nat)(m:bk)(j:Nat):io:=v3 N k++(m.reads.take j).flatMap fun r=>cQ r.var m.word.toNat
def v5(N:aV)(k:Nat)(m:bk)(j:Nat)(r:cO)(i:Nat):io:=v4 N k m j++cQ r.var i
def v6(N:aV)(k:Nat):io:=N.bz++N.aB.map (·.var)++N.aa.flatMap qC++(N.al.take k).map (·.var)
theorem ahS(m:bk):gA m.d=qC m:=by unfold gA qC bk.d;rw[aEX];rfl
theorem yc(N:aV):df N.d=N.bz++N.aB.map (·.var)++N.aa.flatMap qC++N.al.map (·.var):=by unfold df aV.d;simp only;rw[aEX];congr 2;exact IT (fun f=>N.aa.flatMap f) (funext ahS)
theorem Nn(v:Int)(i:Nat):cQ v (i+1)=cQ v i++[v+(i:Int)]:=by simp[cQ,aFj]
theorem atc(v:Int){i j:Nat}(h:i<=j):cQ v i <+: cQ v j:=by
 obtain⟨d,rfl⟩:=Nat.le.dest h
 induction d with|zero=>exact List.prefix_refl _|succ d ih=>rw[<-adc,Nn];grind
variable{β:Type}
theorem Zqp(f:α->List β)(l:List α)(k:Nat){x:α}(h:l[k]?=some x):(l.take k).flatMap f++f x <+: l.flatMap f:=by
 have:(l.take (k+1)).flatMap f=(l.take k).flatMap f++f x:=by rw[dY h];simp
 rw[<-this]
 conv=>rhs;rw[<-FS (k+1) l]
 grind
theorem uE(f:α->List β){k:Nat}{x:α}(h:l[k]?=some x):(l.take (k+1)).flatMap f=(l.take k).flatMap f++f x:=by rw[dY h];simp
theorem pK{a b c:List α}(h:b <+: c):a++b <+: a++c:=(List.prefix_append_right_inj a).2 h
section
variable{N:aV}{k j i:Nat}
theorem aib{x:Int}(h:N.bz[k]?=some x):N.bz.take k++[x] <+: df N.d:=by
 rw[yc,<-dY h,bV,bV]
 grind
theorem Vj{x:fv}(h:N.aB[k]?=some x):v2 N (k+1)=v2 N k++[x.var]:=by unfold v2;rw[dY h];simp
theorem aic{x:fv}(h:N.aB[k]?=some x):v2 N k++[x.var] <+: df N.d:=by rw[yc,<-Vj h,bV];refine aFh ?_ (aFb _ _);exact pK (List.IsPrefix.map _ (List.take_prefix _ _))
theorem arp(h:N.aa[k]?=some m):v3 N k++qC m <+: df N.d:=by rw[yc];refine aFh ?_ (aFb _ _);unfold v3;rw[bV];exact pK (Zqp qC _ _ h)
theorem aid(h:N.aa[k]?=some m)(h2:m.reads[j]?=some r)(hi:i<m.word.toNat):v5 N k m j r i++[r.var+(i:Int)] <+: df N.d:=by refine aFh ?_ (arp h);unfold v5 v4;rw[bV,bV,<-Nn];refine pK (aFh (pK (atc _ (show i+1<=m.word.toNat by omega))) ?_);exact Zqp (fun r:cO=>cQ r.var m.word.toNat) _ _ h2
theorem agV:v5 N k m j r (i+1)=v5 N k m j r i++[r.var+(i:Int)]:=by unfold v5;rw[Nn,bV]
theorem agW:v5 N k m j r 0=v4 N k m j:=by simp[v5,cQ]
theorem agU(h2:m.reads[j]?=some r):v5 N k m j r m.word.toNat=v4 N k m (j+1):=by unfold v5 v4;rw[uE _ h2,bV]
theorem asG:v4 N k m 0=v3 N k:=by simp[v4]
theorem asH(h:N.aa[k]?=some m)(hj:m.reads.length<=j):v4 N k m j=v3 N (k+1):=by unfold v4 v3;rw[uE _ h,By hj];simp[qC]
theorem asJ(hk:N.aa.length<=k):v3 N k=v6 N 0:=by unfold v3 v6;rw[By hk];simp
theorem asI(hk:N.aB.length<=k):v2 N k=v3 N 0:=by unfold v2 v3;rw[By hk];simp
theorem agT(hk:N.bz.length<=k):N.bz.take k=v2 N 0:=by unfold v2;rw[By hk];simp
theorem Vi{x:ga}(h:N.al[k]?=some x):v6 N (k+1)=v6 N k++[x.var]:=by unfold v6;rw[dY h];simp
theorem aie{x:ga}(h:N.al[k]?=some x):v6 N k++[x.var] <+: df N.d:=by rw[yc,<-Vi h];exact pK (List.IsPrefix.map _ (List.take_prefix _ _))
theorem asF(hk:N.al.length<=k):v6 N k=df N.d:=by rw[yc];unfold v6;rw[By hk]
end
variable{x:Int}{D:io}{pre:io}
theorem Em(h:pre++[x] <+: D):pre.length<D.length:=by grind
set_option maxRecDepth 100000
theorem afH(F:Fence)(n:Nat)(hF:F.fn 225)(hro:F.round=none)(hn:1<=n)(l Bx aIg B:Nat)(N:aV)(J Jx:io->World->Prop)(W:World)
  (hJ:∀(s:io) (A:World) (o:Obj),J s A->J s (A.alloc o))
  (hY:∀pre x W1,J pre W1->pre.length<(df N.d).length->YieldAt F (n-1) Tryz.prog l #[.int .i64 x] W1 fun e W'=>(e=.returned (.bool true)/\J (pre++[x]) W'/\gk aIg B W1 W')\/(e=.returned (.bool false)/\Jx (pre++[x]) W'))
  (hBx:af W Bx 27 N.fs) (hBl:B<=Bx) (bw:N.bU W aIg) (hn0:aIg<=W.heap.size) (hBW:B<=W.heap.size) (h0:J [] W) (ft:Fit N.d) :
  CallsIn F n Tryz.prog 225 #[.func (.yield l) #[] #[],.pointer (some ⟨Bx,0,none⟩)] W fun e W'=>(∃v,e=.returned v) /\
   ((∃ys,ys=df N.d/\J ys W')\/(∃pre,pre <+: df N.d/\Jx pre W')):=by
 have HJ:=Lib.hid hJ;have HY:=Lib.hid hY;have HB:=Lib.hid hBx;have HOK:=Lib.hid bw;have hl1:N.bz.length<=4000:=ft.ins.1;have hl2:N.aB.length<=4000:=ft.aC.1;have hl3:N.al.length<=4000:=ft.al.1;have hl4:N.aa.length<=100:=by have:=ft.aa.1;simpa[aV.d]using this
 have HMF:=Lib.hid (ft.aa.2);have hf1:W.cell? ⟨Bx,1,none⟩=some (.slice N.Ai N.bz.length N.ci):=hBx.cell 1;clear hJ hY bw ft hBx;refine callsIn_of_wp Tryz.func225 rfl hF ?_ hro;simp only[Tryz.ntmps225,aGg,cF,GT,Nat.reduceAdd,Nat.reduceSub,Array.replicate_succ,Array.replicate_zero,List.push_toArray,List.append_toArray,Nm,ST]
 gi_wp2
 gi_loopw [17] (fun i wr=>∃k:Nat,k<=N.bz.length/\i=.int .i64 k/\J (N.bz.take k) wr/\gk aIg B W wr) (fun i _=>N.bz.length-(intOf i).toNat)
 case atStart=>exact⟨0,AI _,rfl,by simpa using h0,gk.refl _ _ _⟩
 case round=>
  obtain⟨k,hk,rfl,hJs,hkp⟩:=hrel;by_cases hlt:k<N.bz.length
  .obtain⟨b,off,x,e1,hb,hx,hm,hc⟩:=(HOK.out.below hkp.below).ins.oU hlt;have hp:=aib hx;obtain⟨fn,tmps,assign,body,hy,hR⟩:=HY.out (N.bz.take k) x wr hJs (Em hp);have HX:=Lib.hid hx;have HP:=Lib.hid hp;have HE1:=Lib.hid e1;clear hx hp hm;rw[e1];clear e1
   gi_wp2
   refine hR.mono ?_;rintro e W3 (⟨rfl,hJ3,hk3⟩|⟨rfl,hJx3⟩)
   .gi_wp2
    go_roundw
    case rel=>exact⟨k+1,aGl,aGn,by rw[dY HX.out];exact hJ3,hkp.trans hk3⟩
    case measure=>simp[intOf];omega
   .gi_wp2
    refine bodyPost_ret (results_none rfl _ _ _) rfl ?_;exact⟨⟨_,rfl⟩,.inr ⟨_,HP.out,hJx3⟩⟩
  .rw[agT aGl]at hJs;have hf2:wr.cell? ⟨Bx,2,none⟩=some (.slice N.Al N.aB.length N.cl):=(HB.out.yw hkp hBl).cell 2
   gi_wp2
   obtain⟨w1,rfl⟩:∃w1:World,w1=wr:=⟨_,rfl⟩;clear hf2 hlt hk
   gi_loopw [29] (fun i wr=>∃k:Nat,k<=N.aB.length/\i=.int .i64 k/\J (v2 N k) wr/\gk aIg B W wr) (fun i _=>N.aB.length-(intOf i).toNat)
   case atStart=>exact⟨0,AI _,rfl,hJs,hkp⟩
   case round=>
    clear hJs hkp;obtain⟨k,hk,rfl,hJs,hkp⟩:=hrel;have hsz:=hkp.below.size;by_cases hlt:k<N.aB.length
    .obtain⟨b,off,x,e1,hb,hx,hm,hcs⟩:=(HOK.out.below hkp.below).aC.elem aGl (fun _=>rfl) hlt;obtain⟨hc0,hc1,hc2⟩:=fv.at_ hcs;have hp:=aic hx;obtain⟨fn,tmps,assign,body,hy,hR⟩:=HY.out (v2 N k) x.var (wr.alloc (.cells #[.int .i64 x.var,.int .i64 x.next,.int .i64 x.init] 85)) (HJ.out _ _ _ hJs) (Em hp);have HX:=Lib.hid hx;have HP:=Lib.hid hp;clear hx hp hm hcs;rw[e1];clear e1
     gi_wp2
     refine hR.mono ?_;rintro e W3 (⟨rfl,hJ3,hk3⟩|⟨rfl,hJx3⟩)
     .gi_wp2
      go_roundw
      case rel=>exact⟨k+1,aGl,aGn,by rw[Vj HX.out];exact hJ3,(hkp.alloc aGl _).trans hk3⟩
      case measure=>simp[intOf];omega
     .gi_wp2
      refine bodyPost_ret (results_none rfl _ _ _) rfl ?_;exact⟨⟨_,rfl⟩,.inr ⟨_,HP.out,hJx3⟩⟩
    .rw[asI aGl]at hJs;have hf3:wr.cell? ⟨Bx,6,none⟩=some (.slice N.Am N.aa.length N.cm):=(HB.out.yw hkp hBl).cell 6
     gi_wp2
     obtain⟨w2,rfl⟩:∃w2:World,w2=wr:=⟨_,rfl⟩;clear hf3 hlt hk hsz
     gi_loopw [42] (fun i wr=>∃k:Nat,k<=N.aa.length/\i=.int .i64 k/\J (v3 N k) wr/\gk aIg B W wr) (fun i _=>N.aa.length-(intOf i).toNat)
     case atStart=>exact⟨0,AI _,rfl,hJs,hkp⟩
     case round=>
      clear hJs hkp;obtain⟨k,hk,rfl,hJs,hkp⟩:=hrel;have hsz:=hkp.below.size;by_cases hlt:k<N.aa.length
      .obtain⟨b,off,m,e1,hb,hx,hm,hcs⟩:=(HOK.out.below hkp.below).mem.elem aGl (fun _=>rfl) hlt;obtain⟨hc0,hc1,hc2,hc3,hc4⟩:=bk.at_ hcs;have HX:=Lib.hid hx;have HM:=Lib.hid (HOK.out.yx m hm);have hfm:=HMF.out m.d (abs hm);have hrn:m.reads.length<=100:=by have:=hfm.mJ;simpa[bk.d]using this
       have hw1:m.word<=4000:=hfm.word.2;have hw0:-9223372036854775808<=m.word:=hfm.word.1.1;have HRF:=Lib.hid hfm.gC;clear hx hm hcs hfm;rw[e1];clear e1
       gi_wp2
       obtain⟨c,hc⟩:∃c,c=wr.heap.size:=⟨_,rfl⟩;have hkp2:=hkp.alloc (show aIg<=wr.heap.size by omega) (.cells m.cells.toArray 54);have hJ2:=HJ.out _ _ (.cells m.cells.toArray 54) hJs;have hbk:=af.new wr 54 m.cells.toArray;have hcB:B<=c:=aGl
       rw[<-hc]at hbk |-;rw[<-asG (m:=m)]at hJ2;clear hc hJs hkp hc0 hc1 hc2 hc3 hc4;change Code.wpIn _ _ _ _ _ _ (wr.alloc (.cells m.cells.toArray 54));obtain⟨w3,hw3⟩:∃w3:World,w3=wr.alloc (.cells m.cells.toArray 54):=⟨_,rfl⟩;rw[<-hw3]at hkp2 hJ2 hbk |-;clear hw3 hsz
       gi_loopw [49] (fun i wr=>∃j:Nat,j<=m.reads.length/\i=.int .i64 j/\J (v4 N k m j) wr/\gk aIg B W wr/\af wr c 54 m.cells.toArray) (fun i _=>m.reads.length-(intOf i).toNat)
       case atStart=>exact⟨0,AI _,rfl,hJ2,hkp2,hbk⟩
       case round=>
        clear hJ2 hkp2 hbk;obtain⟨j,hj,rfl,hJs,hkp,hbk⟩:=hrel;have hsz:=hkp.below.size;by_cases hlt2:j<m.reads.length
        .obtain⟨b2,off2,r,e1,hb2,hx2,hm2,hcs⟩:=(HM.out.below hkp.below).rd.elem aGl (fun _=>rfl) hlt2;obtain⟨hc0,hc1⟩:=cO.at_ hcs;have HX2:=Lib.hid hx2;obtain⟨_,hv1,hv2,_⟩:=HRF.out r.d (abs hm2);change -1099511627776<=r.var at hv1;change r.var<=1099511627776 at hv2;have hcw:wr.cell? ⟨c,1,none⟩=some (.int .i64 m.word):=hbk.cell 1;have hcl:c<wr.heap.size:=hbk.lt;clear hx2 hm2 hcs;rw[e1];clear e1
         gi_wp2
         obtain⟨d,hd⟩:∃d,d=wr.heap.size:=⟨_,rfl⟩;have hkp2:=hkp.alloc (show aIg<=wr.heap.size by omega) (.cells r.cells.toArray 50);have hJ2:=HJ.out _ _ (.cells r.cells.toArray 50) hJs;have hbk2:=af.new wr 50 r.cells.toArray;have hbk1:=hbk.alloc (.cells r.cells.toArray 50);have hdB:B<=d:=aGl
         rw[<-hd]at hbk2 |-;rw[<-agW (r:=r)]at hJ2;clear hd hJs hkp hbk hc0 hc1 hcw;change Code.wpIn _ _ _ _ _ _ (wr.alloc (.cells r.cells.toArray 50));obtain⟨w4,hw4⟩:∃w4:World,w4=wr.alloc (.cells r.cells.toArray 50):=⟨_,rfl⟩;rw[<-hw4]at hkp2 hJ2 hbk2 hbk1 |-;clear hw4 hsz hcl
         gi_loopw [55] (fun i wr=>∃q:Nat,q<=m.word.toNat/\i=.int .i64 q/\J (v5 N k m j r q) wr/\gk aIg B W wr/\af wr c 54 m.cells.toArray/\af wr d 50 r.cells.toArray) (fun i _=>m.word.toNat-(intOf i).toNat)
         case atStart=>exact⟨0,AI _,rfl,hJ2,hkp2,hbk1,hbk2⟩
         case round=>
          clear hJ2 hkp2 hbk1 hbk2;obtain⟨q,hq,rfl,hJs,hkp,hbk1,hbk2⟩:=hrel;by_cases hlt3:(q:Int)<m.word
          .have hp:=aid (i:=q) HX.out HX2.out aGl;obtain⟨fn,tmps,assign,body,hy,hR⟩:=HY.out (v5 N k m j r q) (r.var+(q:Int)) wr hJs (Em hp);have HP:=Lib.hid hp;have hcv:wr.cell? ⟨d,0,none⟩=some (.int .i64 r.var):=hbk2.cell 0;clear hp
           gi_wp2
           refine hR.mono ?_;rintro e W3 (⟨rfl,hJ3,hk3⟩|⟨rfl,hJx3⟩)
           .gi_wp2
            go_roundw
            case rel=>exact⟨q+1,aGl,aGn,by rw[agV];exact hJ3,hkp.trans hk3,hbk1.yw hk3 hcB,hbk2.yw hk3 hdB⟩
            case measure=>simp[intOf];omega
           .gi_wp2
            refine bodyPost_ret (results_none rfl _ _ _) rfl ?_;exact⟨⟨_,rfl⟩,.inr ⟨_,HP.out,hJx3⟩⟩
          .obtain rfl:q=m.word.toNat:=aGl
           rw[agU HX2.out]at hJs
           gi_wp2
           go_roundw
           case rel=>exact⟨j+1,aGl,aGn,hJs,hkp,hbk1⟩
           case measure=>simp[intOf];omega
        .rw[asH HX.out aGl]at hJs
         gi_wp2
         go_roundw
         case rel=>exact⟨k+1,aGl,aGn,hJs,hkp⟩
         case measure=>simp[intOf];omega
      .rw[asJ aGl]at hJs;have hf4:wr.cell? ⟨Bx,7,none⟩=some (.slice N.An N.al.length N.cn):=(HB.out.yw hkp hBl).cell 7
       gi_wp2
       obtain⟨w3,rfl⟩:∃w3:World,w3=wr:=⟨_,rfl⟩;clear hf4 hlt hk hsz
       gi_loopw [71] (fun i wr=>∃k:Nat,k<=N.al.length/\i=.int .i64 k/\J (v6 N k) wr/\gk aIg B W wr) (fun i _=>N.al.length-(intOf i).toNat)
       case atStart=>exact⟨0,AI _,rfl,hJs,hkp⟩
       case round=>
        clear hJs hkp;obtain⟨k,hk,rfl,hJs,hkp⟩:=hrel;have hsz:=hkp.below.size;by_cases hlt:k<N.al.length
        .obtain⟨b,off,x,e1,hb,hx,hm,hcs⟩:=(HOK.out.below hkp.below).and.elem aGl (fun _=>rfl) hlt;obtain⟨hc0,hc1,hc2⟩:=ga.at_ hcs;have hp:=aie hx;obtain⟨fn,tmps,assign,body,hy,hR⟩:=HY.out (v6 N k) x.var (wr.alloc (.cells #[.int .i64 x.var,.int .i64 x.a,.int .i64 x.b] 93)) (HJ.out _ _ _ hJs) (Em hp);have HX:=Lib.hid hx;have HP:=Lib.hid hp;clear hx hp hm hcs;rw[e1];clear e1
         gi_wp2
         refine hR.mono ?_;rintro e W3 (⟨rfl,hJ3,hk3⟩|⟨rfl,hJx3⟩)
         .gi_wp2
          go_roundw
          case rel=>exact⟨k+1,aGl,aGn,by rw[Vi HX.out];exact hJ3,(hkp.alloc aGl _).trans hk3⟩
          case measure=>simp[intOf];omega
         .gi_wp2
          refine bodyPost_ret (results_none rfl _ _ _) rfl ?_;exact⟨⟨_,rfl⟩,.inr ⟨_,HP.out,hJx3⟩⟩
        .rw[asF aGl]at hJs
         gi_wp2
         go_end0
         exact⟨⟨_,rfl⟩,.inl ⟨_,rfl,hJs⟩⟩
theorem asf(F:Fence)(n:Nat)(hF:F.fn 225)(hro:F.round=none)(hn:1<=n)(Bx aIg B:Nat)(N:aV)(w:World)
  (hBx:af w Bx 27 N.fs) (hBl:B<=Bx) (bw:N.bU w aIg) (hn0:aIg<=w.heap.size) (ft:Fit N.d) :
  SeqStopsK F n Tryz.prog 225 #[.pointer (some ⟨Bx,0,none⟩)] (fun x:Int=>#[Value.int .i64 x]) (gk aIg B) (fun ys=>ys=df N.d) (fun pre=>pre <+: df N.d) (df N.d).length w:=
 fun l J Jx W hW hJ _ hY h0=>afH F n hF hro hn l Bx aIg B N J Jx W (fun s A o h=>hJ s A _ none h (World.grownBy_alloc A o none) (fun r e=>by cases e)) hY (hBx.below hW hBx.lt) hBl (bw.below (hW.mono hn0)) (rt hn0 hW.size) (rt (Nat.le_of_lt (Nat.lt_of_le_of_lt hBl hBx.lt)) hW.size) h0 ft
theorem agY(F:Fence)(n:Nat)(hF:F.fn 182)(hro:F.round=none)(N:aV)(w:World) :
  CallsIn F n Tryz.prog 182 #[N.v] w fun e w'=>e=.returned (.func (.func 225) #[] #[.pointer (some ⟨w.heap.size,0,none⟩)])/\w'=w.alloc (.cells N.fs 27):=by
 unfold aV.v aV.fs;refine callsIn_of_wp Tryz.func182 rfl hF ?_ hro;simp only[Tryz.ntmps182,aGg,cF,GT,Nat.reduceAdd,Nat.reduceSub,Array.replicate_succ,Array.replicate_zero,List.push_toArray,List.append_toArray,Nm,ST]
 gi_wp2
 go_ret
 exact⟨rfl,rfl⟩
attribute [local go_sem] Oper.semAt_some
def qo(V:Nat)(pre:io):Prop:=pre.Nodup/\∀x∈pre,1<=x/\x<=(V:Int)
variable{V:Nat}
theorem qo.snoc(h:qo V pre)(h1:1<=x)(h2:x<=V)(h3:pre.contains x=false):qo V (pre++[x]):=by
 refine⟨?_,fun y hy=>?_⟩
 .rw[aFo];refine⟨h.1,aGn,fun a ha b hb=>?_⟩
  grind
 .rcases At.1 hy with hy|hy
  .exact h.2 y hy
  grind
theorem VV{V:Nat}:∀(l pre:io),qo V (pre++l)->dup V pre l=if((pre++l).length:Int)<V then 7 else 0
 |[],pre,_=>by simp[dup]|x::l,pre,h=>by
  have hx:=h.2 x aGn;have hn:pre.contains x=false:=by
   rw[List.contains_eq_mem];simp;intro hm;have:=h.1
   grind
  rw[dup,rx aGl,rx (by grind),VV l (pre++[x]) (by grind)];simp
theorem WC{V:Nat}{x:Int}{rest:io}:∀(l pre:io),qo V (pre++l)->dup V pre (l++x::rest)=dup V (pre++l) (x::rest)
 |[],pre,_=>by simp|y::l,pre,h=>by
  have hx:=h.2 y aGn;have hn:pre.contains y=false:=by
   rw[List.contains_eq_mem];simp;intro hm;have:=h.1
   grind
  show dup V pre (y::(l++x::rest))=_;rw[dup,rx aGl,rx (by grind),WC l (pre++[y]) (by grind)];simp
def rL(V:Nat)(pre:io)(x:Int):Option Int:=if x<1\/(V:Int)<x then some 5 else if pre.contains x then some 6 else none
theorem af0{r:Int}(h:qo V pre)(hp:pre++[x] <+: D)(hb:rL V pre x=some r):dup V [] D=r:=by
 obtain⟨rest,rfl⟩:=hp;rw[bV,List.singleton_append,WC pre [] (by grind),Nm,dup];unfold rL at hb
 grind
theorem uU{B:Nat}(cs:β->Array Value):OwnFrom B (fun(s:β) W=>af W g t (cs s)):=fun s W W' row hs hg hr=>hs.grown hg (fun e=>by obtain⟨_,o,ho,hc⟩:=hr g e.symm;have hs':W.heap[g]?=some (.cells (cs s) t (0,0)):=hs;rw[ho]at hs';injection hs' with hs';subst hs';cases hc)
theorem afr{B:Nat}(p:β->Prop):OwnFrom B (fun(s:β) (_:World)=>p s):=fun _ _ _ _ hs _ _=>hs
theorem Zxz(V:Nat):madeCells #[Value.bool false] (V+1)=((lV V []).map Value.bool).toArray:=by apply Rd.1;rw[toList_madeCells_one,arE];simp
theorem Zup{v:Nat}(h:v<=V):(((lV V pre).map Value.bool).toArray).setIfInBounds v (.bool true)=((lV V (pre++[(v:Int)])).map Value.bool).toArray:=by rw[<-asM h,aFQ,List.map_set]
theorem arD{v:Nat}(h:v<=V):(((lV V pre).map Value.bool).toArray)[v]?=some (.bool (pre.contains (v:Int))):=by simp only[pp,dO,Eb h];rfl
abbrev gB(V:Int)(N:aV):Array Value:=#[.int .i64 V,.slice N.Ai N.bz.length N.ci,.slice N.Al N.aB.length N.cl,.slice N.Ao N.bN.length N.co,.slice N.Ab N.bO.length N.cb,.slice N.Ac N.constraints.length N.cc,.slice N.Am N.aa.length N.cm,.slice N.An N.al.length N.cn]
theorem ar8(N:aV)(V:Nat)(w:World)(hV:N.vars=(V:Int))(hV2:V<=2000)(bw:N.bU w w.heap.size)(ft:Fit N.d)(hD:(df N.d).length<=1000000) :
  Calls Tryz.prog 138 #[N.v] w fun e w'=>e=.returned (.int .i64 (dup V [] (df N.d)))/\Below w.heap.size w w':=by
 have HV:=Lib.hid hV;have HF:=Lib.hid ft;have HOK:=Lib.hid bw;clear ft bw;unfold aV.v aV.fs;rw[hV];clear hV;obtain⟨i0,hi0,hz0,hz1,hz2⟩:=info_parts arI;have hb:(i0.bytes:Int)*((V:Int)+1)<=281474976710656:=by rw[hz2];omega
 have hmk:=fun w:World=>run_make (P:=Tryz.prog) w 29 4 i0 (.bool false) Tryz.underlying29 hi0 hz0 .i64 .i64 ((V:Int)+1) ((V:Int)+1) aGl (Int.le_refl _) hb aGl;clear hi0 hz0 hz2 hb;have hv:∀n w,CallsIn Fence.wide n Tryz.prog 182 #[.agg (gB V N)] w fun e w'=>e=.returned (.func (.func 225) #[] #[.pointer (some ⟨w.heap.size,0,none⟩)])/\w'=w.alloc (.cells (gB V N) 27):=fun n w=>by have:=agY Fence.wide n trivial rfl N w;unfold aV.v aV.fs at this;rw[HV.out]at this;exact this
 have HVI:=Lib.hid hv;clear hv;refine(callsIn_wide (n:=3)).1 ?_;refine callsIn_of_wp_marks Tryz.func138 rfl trivial ?_ rfl;simp only[Tryz.ntmps138,aGg,cF,GT,Nat.reduceAdd,Nat.reduceSub,Array.replicate_succ,Array.replicate_zero,List.push_toArray,List.append_toArray,Nm,ST];have hvf:Fence.wide.fn 182:=trivial
 gi_wp2_with (gi_at_call 182;refine(HVI.out _ _).mono ?_;rintro e w' ⟨rfl,rfl⟩)
 have hw0:Below w.heap.size w (((((w.alloc (.cells (gB V N) 27)).alloc (.cells #[.int .i64 0] 46)).alloc (.cells (madeCells #[Value.bool false] (V+1)) 4)).alloc (.cells #[.slice (some ⟨w.heap.size+1+1,0,none⟩) (V+1) (V+1)] 29)).alloc (.cells #[.int .i64 V] 3)):=(((((Below.refl _ w).alloc (pi _) _).alloc aGn _).alloc (by simp;omega) _).alloc (by simp;omega) _).alloc (by simp;omega) _;have hw1:=hw0.alloc (by simp;omega) (.cells (gB V N) 27);have b0:=((((af.new w 27 (gB V N)).alloc (.cells #[.int .i64 0] 46)).alloc (.cells (madeCells #[Value.bool false] (V+1)) 4)).alloc (.cells #[.slice (some ⟨w.heap.size+1+1,0,none⟩) (V+1) (V+1)] 29)).alloc (.cells #[.int .i64 V] 3) |>.alloc (.cells (gB V N) 27);have b1:=(((af.new (w.alloc (.cells (gB V N) 27)) 46 #[.int .i64 0]).alloc (.cells (madeCells #[Value.bool false] (V+1)) 4)).alloc (.cells #[.slice (some ⟨w.heap.size+1+1,0,none⟩) (V+1) (V+1)] 29)).alloc (.cells #[.int .i64 V] 3) |>.alloc (.cells (gB V N) 27);have b2:=((af.new ((w.alloc (.cells (gB V N) 27)).alloc (.cells #[.int .i64 0] 46)) 4 (madeCells #[Value.bool false] (V+1))).alloc (.cells #[.slice (some ⟨w.heap.size+1+1,0,none⟩) (V+1) (V+1)] 29)).alloc (.cells #[.int .i64 V] 3) |>.alloc (.cells (gB V N) 27);have b3:=(af.new (((w.alloc (.cells (gB V N) 27)).alloc (.cells #[.int .i64 0] 46)).alloc (.cells (madeCells #[Value.bool false] (V+1)) 4)) 29 #[.slice (some ⟨w.heap.size+1+1,0,none⟩) (V+1) (V+1)]).alloc (.cells #[.int .i64 V] 3) |>.alloc (.cells (gB V N) 27);have b4:=(af.new ((((w.alloc (.cells (gB V N) 27)).alloc (.cells #[.int .i64 0] 46)).alloc (.cells (madeCells #[Value.bool false] (V+1)) 4)).alloc (.cells #[.slice (some ⟨w.heap.size+1+1,0,none⟩) (V+1) (V+1)] 29)) 3 #[.int .i64 V]).alloc (.cells (gB V N) 27);have b5:=af.new (((((w.alloc (.cells (gB V N) 27)).alloc (.cells #[.int .i64 0] 46)).alloc (.cells (madeCells #[Value.bool false] (V+1)) 4)).alloc (.cells #[.slice (some ⟨w.heap.size+1+1,0,none⟩) (V+1) (V+1)] 29)).alloc (.cells #[.int .i64 V] 3)) 27 (gB V N);simp only[World.size_alloc]at b1 b2 b3 b4 b5;have hsz:((((((w.alloc (.cells (gB V N) 27)).alloc (.cells #[.int .i64 0] 46)).alloc (.cells (madeCells #[Value.bool false] (V+1)) 4)).alloc (.cells #[.slice (some ⟨w.heap.size+1+1,0,none⟩) (V+1) (V+1)] 29)).alloc (.cells #[.int .i64 V] 3)).alloc (.cells (gB V N) 27)).heap.size=w.heap.size+6:=aGn
 generalize (((((w.alloc (.cells (gB V N) 27)).alloc (.cells #[.int .i64 0] 46)).alloc (.cells (madeCells #[Value.bool false] (V+1)) 4)).alloc (.cells #[.slice (some ⟨w.heap.size+1+1,0,none⟩) (V+1) (V+1)] 29)).alloc (.cells #[.int .i64 V] 3)).alloc (.cells (gB V N) 27)=W0 at hw1 b0 b1 b2 b3 b4 b5 hsz |-;clear hw0 hmk hz1;rw[Zxz]at b2;have hfs:N.fs=(gB V N):=by unfold aV.fs;rw[HV.out]
 refine wpIn_rangeFunc_ownF rfl aGl (gf:=225) (lb:=#[.pointer (some ⟨w.heap.size+1+1+1+1+1,0,none⟩)]) rfl trivial (enters_of Tryz.func225 aGm rfl)
  (asf Fence.wide 2 trivial rfl aGl (w.heap.size+1+1+1+1+1) w.heap.size (w.heap.size+1+1+1+1+1) N W0 (by rw[hfs];exact b5) (pi _) (HOK.out.below hw1) aGl HF.out) gk.trans (aiB aGl) (Below.refl _ _) (fun _=>rfl)
  (fun pre W=>(qo V pre/\af W w.heap.size 27 (gB V N)/\af W (w.heap.size+1) 46 #[.int .i64 0]/\af W (w.heap.size+1+1) 4 ((lV V pre).map Value.bool).toArray/\af W (w.heap.size+1+1+1) 29 #[.slice (some ⟨w.heap.size+1+1,0,none⟩) (V+1) (V+1)]/\af W (w.heap.size+1+1+1+1) 3 #[.int .i64 ((V:Int)-pre.length)])/\Below w.heap.size w W)
  (fun c pre W=>(∃pre' x r,(c=.ret/\pre=pre'++[x]/\qo V pre'/\rL V pre' x=some r)/\af W (w.heap.size+1) 46 #[.int .i64 r])/\Below w.heap.size w W)
  (OwnFrom.and (OwnFrom.and (afr _) (OwnFrom.and (uU _) (OwnFrom.and (uU _) (OwnFrom.and (uU _) (OwnFrom.and (uU _) (uU _)))))) (ownFrom_below (pi _) aGl))
  (fun c=>OwnFrom.and (fun s W W' row hs hg hr=>by obtain⟨pre',x,r,h1,h2⟩:=hs;exact⟨pre',x,r,h1,uU (β:=Unit) (fun _=>#[.int .i64 r]) () W W' row h2 hg hr⟩) (ownFrom_below (pi _) aGl))
  ⟨⟨⟨List.nodup_nil,aGn⟩,b0,b1,b2,b3,by simpa using b4⟩,hw1⟩
  (fun x=>{ tmps:=#[.agg (gB V N),.pointer (some ⟨w.heap.size,0,none⟩),.pointer (some ⟨w.heap.size+1,0,none⟩),.pointer (some ⟨w.heap.size+1+1+1,0,none⟩),.pointer (some ⟨w.heap.size+1+1+1+1,0,none⟩),.int .i64 x,.pointer (some ⟨w.heap.size,0,none⟩),.int .i64 V,.int .i64 ((V:Int)+1),.slice (some ⟨w.heap.size+1+1,0,none⟩) (V+1) (V+1),.pointer (some ⟨w.heap.size,0,none⟩),.int .i64 V,.agg (gB V N),.func (.func 225) #[] #[.pointer (some ⟨w.heap.size+1+1+1+1+1,0,none⟩)],.int .i64 x,undef,undef,undef,undef,undef,undef,undef,undef,undef,undef,undef,undef,undef,undef,undef,undef,undef,undef,undef,undef,undef],defers:=[] }) ?assign ?body ?done ?stop
 case assign=>
  intro l x W K hK
  gi_wp2
  exact hK
 case body=>
  rintro l pre x W ⟨⟨hfn,c0,c1,c2,c3,c4⟩,hB⟩ hlen;clear b0 b1 b2 b3 b4 b5 hw1 HOK HF HVI hfs;have hc0:=c0.cell 0;have hc1:=c1.cell 0;have hf1:=c1.frozen 0;have hc3:=c3.cell 0;have hc4:=c4.cell 0;have hf4:=c4.frozen 0;simp only[pp,pm]at hc0 hc1 hc3 hc4;by_cases hbad:x<1\/(V:Int)<x
  .have hbo:rL V pre x=some 5:=by unfold rL;rw[BY hbad]
   have HBO:=Lib.hid hbo;have HFN:=Lib.hid hfn;clear hbo hfn c0 c2 c3 c4;rcases(show x<1\/(¬x<1/\(V:Int)<x)from by omega)with h1|⟨h1,h2⟩
   all_goals
    gi_wp2
    exact⟨KeepsOthers.setCell _ _ _,⟨pre,x,5,⟨rfl,rfl,HFN.out,HBO.out⟩,c1.dL 0 _⟩,hB.setCell (p:=⟨w.heap.size+1,0,none⟩) aGn _⟩
  .obtain⟨v,rfl⟩:=Fd (show 0<=x by omega);have h1:¬((v:Int)<1):=aGl
   have h2:¬((V:Int)<v):=aGl
   have h3:v<=V:=aGl
   have hcs:=(c2.cell v).trans (arD h3);have hfs:=c2.frozen v;rcases hct:pre.contains (v:Int)with _|_
   .rw[hct]at hcs;have HFN:=Lib.hid (hfn.snoc aGl aGl hct);have hlen2:pre.length<=1000000:=aGl
    clear hct hfn hbad
    gi_wp2
    refine⟨(KeepsOthers.setCell _ _ _).trans (KeepsOthers.setCell _ _ _),((gk.refl _ _ _).setCell (p:=⟨w.heap.size+1+1,v,none⟩) (by simp;omega) aGn _).setCell (p:=⟨w.heap.size+1+1+1+1,0,none⟩) (by simp;omega) aGn _,⟨HFN.out,?_,?_,?_,?_,?_⟩,(hB.setCell (p:=⟨w.heap.size+1+1,v,none⟩) (by simp;omega) _).setCell (p:=⟨w.heap.size+1+1+1+1,0,none⟩) (by simp;omega) _⟩
    .exact(c0.dz (p:=⟨w.heap.size+1+1,v,none⟩) (by simp;omega) _).dz (by simp;omega) _
    .exact(c1.dz (p:=⟨w.heap.size+1+1,v,none⟩) aGn _).dz (by simp<;>omega) _
    .have:=(c2.dL v (.bool true)).dz (p:=⟨w.heap.size+1+1+1+1,0,none⟩) (by simp<;>omega) (.int .i64 ((V:Int)-pre.length-1));rw[Zup h3]at this;exact this
    .exact(c3.dz (p:=⟨w.heap.size+1+1,v,none⟩) aGn _).dz aGn _
    .have:=(c4.dz (p:=⟨w.heap.size+1+1,v,none⟩) (by simp;omega) (.bool true)).dL 0 (.int .i64 ((V:Int)-pre.length-1));rw[show(V:Int)-((pre++[(v:Int)]).length:Nat)=(V:Int)-pre.length-1 by simp;omega];exact this
   .have hbo:rL V pre v=some 6:=by unfold rL;rw[rx hbad,BY hct]
    rw[hct]at hcs;have HBO:=Lib.hid hbo;have HFN:=Lib.hid hfn;clear hbo hfn hct c0 c2 c3 c4 hbad
    gi_wp2
    exact⟨KeepsOthers.setCell _ _ _,⟨pre,v,6,⟨rfl,rfl,HFN.out,HBO.out⟩,c1.dL 0 _⟩,hB.setCell (p:=⟨w.heap.size+1,0,none⟩) aGn _⟩
 case done=>
  rintro D ys W hD2 hys ⟨⟨hfn,c0,c1,c2,c3,c4⟩,hB⟩ hK;have hdu:=VV ys [] (by simpa using hfn);rw[hys]at hdu;have hyl:ys.length<=1000000:=by rw[hys];exact hD
  have hyl2:(df N.d).length=ys.length:=by rw[hys]
  rw[Nm,hyl2]at hdu;have HDU:=Lib.hid hdu;have hc1:=c1.cell 0;have hf1:=c1.frozen 0;have hc4:=c4.cell 0;simp only[pp,pm]at hc1 hc4;clear b0 b1 b2 b3 b4 b5 hw1 HOK HF HVI hfs hdu hyl2 hys hfn c0 c2 c3 c4;by_cases hlt:(0:Int)<(V:Int)-ys.length
  .gi_wp2
   have hK':=(KeepsOthers.setCell W ⟨w.heap.size+1,0,none⟩ (.int .i64 7)).same D _ hK rfl;refine⟨aGn,.inl ⟨_,_,rfl,run_takeDeferred hK',?_⟩⟩;have hc5:=cell_kept (World.cell?_setCell_same' W ⟨w.heap.size+1,0,none⟩ (.int .i64 7) (by rw[hc1];rfl)) (grownBy_putObj' _ D (.deferred none)) (fun r e=>by cases e;exact⟨_,hK',rfl⟩);refine⟨.int .i64 7,?_,by rw[HDU.out,BY aGl],(hB.setCell (p:=⟨w.heap.size+1,0,none⟩) aGn _).trans (belowK_b (w:=w) (pi _) _ D _ _ aGl hK' rfl rfl)⟩;simp[results,Tryz.f138,go_sem,hc5]
  .gi_wp2
   have hK':=(KeepsOthers.setCell W ⟨w.heap.size+1,0,none⟩ (.int .i64 0)).same D _ hK rfl;refine⟨aGn,.inl ⟨_,_,rfl,run_takeDeferred hK',?_⟩⟩;have hc5:=cell_kept (World.cell?_setCell_same' W ⟨w.heap.size+1,0,none⟩ (.int .i64 0) (by rw[hc1];rfl)) (grownBy_putObj' _ D (.deferred none)) (fun r e=>by cases e;exact⟨_,hK',rfl⟩);refine⟨.int .i64 0,?_,by rw[HDU.out,rx aGl],(hB.setCell (p:=⟨w.heap.size+1,0,none⟩) aGn _).trans (belowK_b (w:=w) (pi _) _ D _ _ aGl hK' rfl rfl)⟩;simp[results,Tryz.f138,go_sem,hc5]
 case stop=>
  rintro D c pre W hD2 hpre ⟨⟨pre',x,r,⟨rfl,rfl,hfn,hbo⟩,c1⟩,hB⟩ hK;have HDU:=Lib.hid (af0 hfn hpre hbo);have hc1:=c1.cell 0;simp only[pp,pm]at hc1;clear b0 b1 b2 b3 b4 b5 hw1 HOK HF HVI hfs hfn hpre hbo
  gi_wp2
  refine⟨aGn,.inl ⟨_,_,rfl,run_takeDeferred hK,?_⟩⟩;have hc5:=cell_kept hc1 (grownBy_putObj' _ D (.deferred none)) (fun r e=>by cases e;exact⟨_,hK,rfl⟩);refine⟨.int .i64 r,?_,by rw[HDU.out],hB.trans (belowK_b (w:=w) (pi _) W D _ _ aGl hK rfl rfl)⟩;simp[results,Tryz.f138,go_sem,hc5]
structure jg(base g:Nat)(w w':World):Prop where
 below:Below base w w'
 box:∀(c:Nat) (t:TypeId) (cs:Array Value),af w c t cs->t≠3->c≠g->af w' c t cs
theorem jg.refl(base g:Nat)(w:World):jg base g w w:=⟨Below.refl _ _,fun _ _ _ h _ _=>h⟩
variable{a:World}
theorem jg.trans{b c:World}(h:jg base g a b)(k:jg base g b c):jg base g a c:=⟨h.below.trans k.below,fun x t cs hb ht hg=>k.box x t cs (h.box x t cs hb ht hg) ht hg⟩
theorem jg.alloc{b:World}(h:jg base g a b)(hb:base<=b.heap.size)(o:Obj):jg base g a (b.alloc o):=⟨h.below.alloc hb o,fun x t cs hB ht hg=>(h.box x t cs hB ht hg).alloc o⟩
def Acc(w:World)(base g:Nat)(xs:io):Prop:=∃v,af w g 22 #[v]/\w.ownsRow base 3 1 v xs.length (ints xs)
theorem Acc.alloc{w:World}{xs:io}(h:Acc w base g xs)(o:Obj):Acc (w.alloc o) base g xs:=by obtain⟨v,h1,h2⟩:=h;exact⟨v,h1.alloc o,h2.alloc o⟩
theorem Zzn(l:io):∀u∈ints l,u.oneCell'=true:=by intro u hu;obtain⟨x,_,rfl⟩:=IN.1 hu;rfl
def Ip(base g:Nat)(xs:io)(w:World)(e:Ending)(w':World):Prop:=e=.returned (.tuple #[])/\Acc w' base g xs/\jg base g w w'
theorem qT(base g:Nat)(xs:io)(A:lc)(c:Nat)(l:io)(w:World)(hacc:Acc w base g xs)(hS:Sl w w.heap.size 1 A l.length c (ints l))(hlen:xs.length+l.length<=1000000)(hbase:base<=g) :
  Calls Tryz.prog 183 #[.slice A l.length c,.pointer (some ⟨g,0,none⟩)] w (Ip base g (xs++l) w):=by
 obtain⟨v,hb,hown⟩:=hacc;have hc0:w.cell? ⟨g,0,none⟩=some v:=hb.cell 0;have hgl:=hb.lt;have hne:=dZ hown hb aGo;obtain⟨Av,cv,rfl,hv1,hv2,_⟩:=eo hown;obtain⟨i0,hi0,hz0,hz1,hz2⟩:=info_parts ka;have HNE:=Lib.hid hne;have HB:=Lib.hid hb;clear hne hb
 go_enter Tryz.func183,Tryz.ntmps183
 go_wp2_with (at_builtin;refine xN _ rfl _ _ 22 rfl base 3 i0 (.int .i64 0) 1 8 Tryz.underlying22 hi0 hz0 hz1 hz2 rfl aGo _ _ _ rfl hown w.heap.size A l.length c (ints l) rfl hS.1 (Zzn l) (by unfold maxLen;omega) aGl aGl ?_;intro v' w1 hown' hg' hbb;obtain⟨A1,c1,rfl,Ox,Oy,_⟩:=eo hown';have hb1:=HB.out.grown hg' (fun e=>HNE.out e.symm);have hc1:=hb1.cell 0;have hf1:=hb1.frozen 0;simp only[pp,pm]at hc1)
 refine bodyPost_end (results_none rfl _ _ _) rfl ?_;have hne':Value.ownBlock (.slice A1 (xs.length+l.length) c1)≠some g:=dZ hown' hb1 aGo;have hB1:Below base w w1:=by refine⟨hg'.os,hg'.tape,hg'.output,hg'.size,fun i hi=>hg'.block i aGl ?_⟩;intro e;have:=(hown.lt i e.symm).1;omega
 refine⟨rfl,⟨_,hb1.dL 0 _,?_⟩,⟨hB1.setCell (p:=⟨g,0,none⟩) hbase _,fun x t cs hB ht hg=>?_⟩⟩
 .have e1:(xs++l).length=xs.length+l.length:=aGn
  have e2:ints (xs++l)=ints xs++ints l:=by simp[ints]
  rw[e1,e2];exact ownsRow_setCell_other hown' (a:=⟨g,0,none⟩) hne' _
 .have h1:=hB.grown hg' (fun e=>dZ hown hB (fun e=>ht e.symm) e.symm);exact h1.dz (p:=⟨g,0,none⟩) hg _
/- the literals in their order, as dz as they have come -/
def nU(m:bk):io:=m.reads.flatMap (·.addr)++m.writes.flatMap fun x=>x.on::(x.addr++x.data)
theorem ags(m:bk):gH m.d=nU m:=by unfold gH nU bk.d;rw[aEX,aEX];rfl
def k1(N:aV)(k:Nat):io:=(N.aB.take k).map (·.next)
def k2(N:aV)(k:Nat):io:=N.aB.map (·.next)++N.bN++N.bO++N.constraints++(N.aa.take k).flatMap nU
def k3(N:aV)(k:Nat)(m:bk)(j:Nat):io:=k2 N k++(m.reads.take j).flatMap (·.addr)
def k4(N:aV)(k:Nat)(m:bk)(j:Nat):io:=k2 N k++m.reads.flatMap (·.addr)++(m.writes.take j).flatMap fun x=>x.on::(x.addr++x.data)
def k5(N:aV)(k:Nat):io:=N.aB.map (·.next)++N.bN++N.bO++N.constraints++N.aa.flatMap nU++(N.al.take k).flatMap jk
theorem DW(N:aV):eK N.d=N.aB.map (·.next)++N.bN++N.bO++N.constraints++N.aa.flatMap nU++N.al.flatMap jk:=by unfold eK aV.d;simp only;rw[aEX];congr 2;exact IT (fun f=>N.aa.flatMap f) (funext ags)
section
variable{N:aV}{k j:Nat}
theorem Vl{x:fv}(h:N.aB[k]?=some x):k1 N (k+1)=k1 N k++[x.next]:=by unfold k1;rw[dY h];simp
theorem ahv:k1 N k <+: eK N.d:=by rw[DW];simp only[bV];exact(List.IsPrefix.map _ (List.take_prefix _ _)).trans (aFb _ _)
theorem UD(hk:N.aB.length<=k):k1 N k++N.bN++N.bO++N.constraints=k2 N 0:=by unfold k1 k2;rw[By hk];simp
theorem Wr:k2 N k <+: eK N.d:=by
 rw[DW];refine aFh ?_ (aFb _ _);refine pK ?_;have h:=aFb ((N.aa.take k).flatMap nU) ((N.aa.drop k).flatMap nU)
 rwa [<-Ne,FS]at h
theorem asW:k3 N k m 0=k2 N k:=by simp[k3]
theorem Zzz(h:m.reads[j]?=some r):k3 N k m (j+1)=k3 N k m j++r.addr:=by unfold k3;rw[uE _ h,bV]
theorem asX(hj:m.reads.length<=j):k3 N k m j=k4 N k m 0:=by unfold k3 k4;rw[By hj];simp
theorem Zzy{r:dM}(h:m.writes[j]?=some r):k4 N k m (j+1)=k4 N k m j++[r.on]++r.addr++r.data:=by unfold k4;rw[uE _ h];simp
theorem Wq(h:N.aa[k]?=some m):k2 N (k+1)=k2 N k++nU m:=by unfold k2;rw[uE _ h];simp
theorem asV(h:N.aa[k]?=some m)(hj:m.writes.length<=j):k4 N k m j=k2 N (k+1):=by rw[Wq h];unfold k4 nU;rw[By hj];simp
theorem Wp(h:N.aa[k]?=some m):k4 N k m j <+: eK N.d:=by
 refine aFh ?_ (Wr (k:=k+1));rw[Wq h];unfold k4 nU;rw[bV];refine pK (pK ?_);have h:=aFb ((m.writes.take j).flatMap fun x:dM=>x.on::(x.addr++x.data)) ((m.writes.drop j).flatMap fun x=>x.on::(x.addr++x.data))
 rwa [<-Ne,FS]at h
theorem ahw(h:N.aa[k]?=some m):k3 N k m j <+: eK N.d:=by
 refine aFh ?_ (Wp (j:=0) h);unfold k3 k4;have h:=aFb ((m.reads.take j).flatMap (·.addr)) ((m.reads.drop j).flatMap (·.addr));rw[<-Ne,FS]at h
 simp_all
theorem asY(hk:N.aa.length<=k):k2 N k=k5 N 0:=by unfold k2 k5;rw[By hk];simp
theorem Zzx{x:ga}(h:N.al[k]?=some x):k5 N (k+1)=k5 N k++[x.a,x.b]:=by unfold k5;rw[uE _ h];simp[jk]
theorem asU(hk:N.al.length<=k):k5 N k=eK N.d:=by rw[DW];unfold k5;rw[By hk]
theorem ahx:k5 N k <+: eK N.d:=by
 rw[DW];unfold k5;refine pK ?_;have h:=aFb ((N.al.take k).flatMap jk) ((N.al.drop k).flatMap jk)
 rwa [<-Ne,FS]at h
end
theorem Wa(W:World)(l:io)(hl:l.length<=1000):Sl (W.alloc (.cells (ints l).toArray 3)) (W.alloc (.cells (ints l).toArray 3)).heap.size 1 (some ⟨W.heap.size,0,none⟩) l.length l.length (ints l):=by
 have h:=(af.new W 3 (ints l).toArray).reads;have e:(ints l).length=l.length:=by simp[ints]
 rw[e]at h;exact⟨h,pi _,AI _⟩
theorem xS{a:io}{n:Nat}(h:a <+: D)(hD:D.length<=n):a.length<=n:=by grind
theorem jg.jb{W1 wr:World}{N:aV}(h:jg base (base+1) W1 wr)(hb:af W1 base 27 N.fs):af wr base 27 N.fs:=h.box _ _ _ hb aGo aGl
theorem Vx(base g:Nat)(xs:io)(x:Int)(W:World)(s:Nat)(hs:s=W.heap.size)(hacc:Acc W base g xs)(hlen:xs.length+1<=1000000)(hbase:base<=g) :
  Calls Tryz.prog 183 #[.slice (some ⟨s,0,none⟩) 1 1,.pointer (some ⟨g,0,none⟩)] (W.alloc (.cells #[.int .i64 x] 3)) (Ip base g (xs++[x]) (W.alloc (.cells #[.int .i64 x] 3))):=by
 subst hs;exact qT base g xs (some ⟨W.heap.size,0,none⟩) 1 [x] (W.alloc (.cells #[.int .i64 x] 3)) (hacc.alloc _) (Wa W [x] aGn) (by simpa using hlen) hbase
theorem aft(base g:Nat)(xs:io)(x y:Int)(W:World)(s:Nat)(hs:s=W.heap.size)(hacc:Acc W base g xs)(hlen:xs.length+2<=1000000)(hbase:base<=g) :
  Calls Tryz.prog 183 #[.slice (some ⟨s,0,none⟩) 2 2,.pointer (some ⟨g,0,none⟩)] (W.alloc (.cells #[.int .i64 x,.int .i64 y] 3)) (Ip base g (xs++[x,y]) (W.alloc (.cells #[.int .i64 x,.int .i64 y] 3))):=by
 subst hs;exact qT base g xs (some ⟨W.heap.size,0,none⟩) 2 [x,y] (W.alloc (.cells #[.int .i64 x,.int .i64 y] 3)) (hacc.alloc _) (Wa W [x,y] aGn) (by simpa using hlen) hbase
theorem arG(N:aV)(w:World)(bw:N.bU w w.heap.size)(ft:Fit N.d)(hD:(eK N.d).length<=1000000) :
  Calls Tryz.prog 139 #[N.v] w (DS 3 w (ints (eK N.d))):=by
 have hl2:N.aB.length<=4000:=ft.aC.1;have hl3:N.al.length<=4000:=ft.al.1;have hl4:N.aa.length<=100:=by have:=ft.aa.1;simpa[aV.d]using this
 have HMF:=Lib.hid (ft.aa.2);have HD:=Lib.hid hD;clear ft hD;obtain⟨base,hbase⟩:∃base,base=w.heap.size:=⟨_,rfl⟩;have hb0:af ((w.alloc (.cells N.fs 27)).alloc (.cells #[.slice none 0 0] 22)) base 27 N.fs:=by rw[hbase];exact(af.new w 27 N.fs).alloc _
 have hb1:af ((w.alloc (.cells N.fs 27)).alloc (.cells #[.slice none 0 0] 22)) (base+1) 22 #[.slice none 0 0]:=by have:=af.new (w.alloc (.cells N.fs 27)) 22 #[.slice none 0 0];rw[World.size_alloc]at this;rw[hbase];exact this
 have hB:Below base w ((w.alloc (.cells N.fs 27)).alloc (.cells #[.slice none 0 0] 22)):=by rw[hbase];exact((Below.refl _ w).alloc (pi _) _).alloc aGn _
 have hsz:((w.alloc (.cells N.fs 27)).alloc (.cells #[.slice none 0 0] 22)).heap.size=base+2:=by rw[hbase];simp
 have hacc:Acc ((w.alloc (.cells N.fs 27)).alloc (.cells #[.slice none 0 0] 22)) base (base+1) (k1 N 0):=⟨_,hb1,by simp[k1,ints];exact World.ownsRow_nil _ _ _ _⟩;have hok2:N.bU ((w.alloc (.cells N.fs 27)).alloc (.cells #[.slice none 0 0] 22)) base:=by rw[<-hbase]at bw;exact bw.below hB
 have HOK:=Lib.hid hok2;have HBE:=Lib.hid hB;clear bw hok2 hb1 hB;unfold aV.v
 go_enter Tryz.func139,Tryz.ntmps139
 unfold aV.fs
 go_wp2_with fail
 rw[<-hbase];change Code.wp _ _ _ _ ((w.alloc (.cells N.fs 27)).alloc (.cells #[.slice none 0 0] 22));generalize (w.alloc (.cells N.fs 27)).alloc (.cells #[.slice none 0 0] 22)=W1 at hb0 hacc hsz HOK HBE |-;have HB0:=Lib.hid hb0;have HSZ:=Lib.hid hsz;have HBA:=Lib.hid hbase;clear hb0 hsz hbase
 go_loopw [18] (fun i wr=>∃k:Nat,k<=N.aB.length/\i=.int .i64 k/\Acc wr base (base+1) (k1 N k)/\jg base (base+1) W1 wr) (fun i _=>N.aB.length-(intOf i).toNat)
 case atStart=>exact⟨0,AI _,rfl,hacc,jg.refl _ _ _⟩
 case round=>
  clear hacc;obtain⟨k,hk,rfl,hacc,hpf⟩:=hrel;have hsz:base+2<=wr.heap.size:=by have:=hpf.below.size;have:=HSZ.out;omega
  by_cases hlt:k<N.aB.length
  .obtain⟨b,off,x,e1,hb,hx,hm,hcs⟩:=(HOK.out.below hpf.below).aC.elem aGl (fun _=>rfl) hlt;obtain⟨hc0,hc1,hc2⟩:=fv.at_ hcs;have hp:=xS (ahv (k:=k+1)) HD.out;rw[Vl hx]at hp;have HX:=Lib.hid hx;clear hx hm hcs;rw[e1];clear e1;simp only[aO,cF,GT]at hp
   go_wp2_with fail
   refine(Vx base (base+1) (k1 N k) x.next _ _ aGn (hacc.alloc _) aGl aGl).mono ?_;rintro e w2 ⟨rfl,hacc2,hpf2⟩;rw[<-Vl HX.out]at hacc2
   go_wp2_with fail
   go_roundw
   case rel=>exact⟨k+1,aGl,by go_num,hacc2,((hpf.alloc aGl _).alloc (by simp;omega) _).trans hpf2⟩
   case measure=>simp[intOf];omega
  .have hf3:wr.cell? ⟨base,3,none⟩=some (.slice N.Ao N.bN.length N.co):=(hpf.jb HB0.out).cell 3;have hp:=xS (Wr (k:=0)) HD.out;rw[<-UD (show N.aB.length<=k by omega)]at hp;simp only[aO]at hp
   go_wp2_with fail
   refine(qT base (base+1) (k1 N k) N.Ao N.co N.bN _ hacc ((HOK.out.below hpf.below).out.more aGl) aGl aGl).mono ?_;rintro e w2 ⟨rfl,hacc2,hpf2⟩;have hpf3:=hpf.trans hpf2;have hs3:=hpf2.below.size;have hf4:w2.cell? ⟨base,4,none⟩=some (.slice N.Ab N.bO.length N.cb):=(hpf3.jb HB0.out).cell 4;clear hacc hpf hpf2 hf3
   go_wp2_with fail
   refine(qT base (base+1) _ N.Ab N.cb N.bO _ hacc2 ((HOK.out.below hpf3.below).bad.more aGl) (by simp;omega) aGl).mono ?_;rintro e w3 ⟨rfl,hacc3,hpf4⟩;have hpf5:=hpf3.trans hpf4;have hs5:=hpf4.below.size;have hf5:w3.cell? ⟨base,5,none⟩=some (.slice N.Ac N.constraints.length N.cc):=(hpf5.jb HB0.out).cell 5;clear hacc2 hpf3 hpf4 hf4
   go_wp2_with fail
   refine(qT base (base+1) _ N.Ac N.cc N.constraints _ hacc3 ((HOK.out.below hpf5.below).nH.more aGl) (by simp;omega) aGl).mono ?_;rintro e w4 ⟨rfl,hacc4,hpf6⟩;have hpf7:=hpf5.trans hpf6;have hf6:w4.cell? ⟨base,6,none⟩=some (.slice N.Am N.aa.length N.cm):=(hpf7.jb HB0.out).cell 6;rw[UD aGl]at hacc4;clear hacc3 hpf5 hpf6 hf5 hs3 hs5 hsz hlt hp hk
   go_wp2_with fail
   go_loopw [43] (fun i wr=>∃k:Nat,k<=N.aa.length/\i=.int .i64 k/\Acc wr base (base+1) (k2 N k)/\jg base (base+1) W1 wr) (fun i _=>N.aa.length-(intOf i).toNat)
   case atStart=>exact⟨0,AI _,rfl,hacc4,hpf7⟩
   case round=>
    clear hacc4 hpf7 hf6;obtain⟨k,hk,rfl,hacc,hpf⟩:=hrel;have hsz:base+2<=wr.heap.size:=by have:=hpf.below.size;have:=HSZ.out;omega
    by_cases hlt:k<N.aa.length
    .obtain⟨b,off,m,e1,hb,hx,hm,hcs⟩:=(HOK.out.below hpf.below).mem.elem aGl (fun _=>rfl) hlt;obtain⟨hc0,hc1,hc2,hc3,hc4⟩:=bk.at_ hcs;have HX:=Lib.hid hx;have HM:=Lib.hid (HOK.out.yx m hm);have hfm:=HMF.out m.d (abs hm);have hrn:m.reads.length<=100:=by have:=hfm.mJ;simpa[bk.d]using this
     have hwn:m.writes.length<=100:=by have:=hfm.qg;simpa[bk.d]using this
     clear hx hm hcs hfm;rw[e1];clear e1
     go_wp2_with fail
     obtain⟨c,hc⟩:∃c,c=wr.heap.size:=⟨_,rfl⟩;have hpf2:=hpf.alloc (show base<=wr.heap.size by omega) (.cells m.cells.toArray 54);have hacc2:=hacc.alloc (.cells m.cells.toArray 54);have hbk:=af.new wr 54 m.cells.toArray;have hcB:base+2<=c:=aGl
     rw[<-hc]at hbk |-;rw[<-asW (m:=m)]at hacc2;clear hc hacc hpf hc0 hc1 hc2 hc3 hc4;change Code.wp _ _ _ _ (wr.alloc (.cells m.cells.toArray 54));obtain⟨w3,hw3⟩:∃w3:World,w3=wr.alloc (.cells m.cells.toArray 54):=⟨_,rfl⟩;rw[<-hw3]at hpf2 hacc2 hbk |-;clear hw3 hsz
     go_loopw [50] (fun i wr=>∃j:Nat,j<=m.reads.length/\i=.int .i64 j/\Acc wr base (base+1) (k3 N k m j)/\jg base (base+1) W1 wr/\af wr c 54 m.cells.toArray) (fun i _=>m.reads.length-(intOf i).toNat)
     case atStart=>exact⟨0,AI _,rfl,hacc2,hpf2,hbk⟩
     case round=>
      clear hacc2 hpf2 hbk;obtain⟨j,hj,rfl,hacc,hpf,hbk⟩:=hrel;have hsz:base+2<=wr.heap.size:=by have:=hpf.below.size;have:=HSZ.out;omega
      by_cases hlt2:j<m.reads.length
      .obtain⟨b2,off2,r,e1,hb2,hx2,hm2,hcs⟩:=(HM.out.below hpf.below).rd.elem aGl (fun _=>rfl) hlt2;obtain⟨hc0,hc1⟩:=cO.at_ hcs;have HX2:=Lib.hid hx2;have HR:=Lib.hid (HM.out.gC r hm2);have hp:=xS (ahw (j:=j+1) HX.out) HD.out;rw[Zzz hx2]at hp;simp only[aO]at hp;clear hx2 hm2 hcs;rw[e1];clear e1
       go_wp2_with fail
       refine(qT base (base+1) (k3 N k m j) r.A r.c r.addr _ (hacc.alloc _) (Sl.more (HR.out.below (hpf.alloc aGl _).below) (by simp;omega)) aGl aGl).mono ?_;rintro e w2 ⟨rfl,hacc2,hpf2⟩;rw[<-Zzz HX2.out]at hacc2
       go_wp2_with fail
       go_roundw
       case rel=>exact⟨j+1,aGl,by go_num,hacc2,(hpf.alloc aGl _).trans hpf2,hpf2.box _ _ _ (hbk.alloc _) aGo aGl⟩
       case measure=>simp[intOf];omega
      .rw[asX aGl]at hacc;have hcw:wr.cell? ⟨c,4,none⟩=some (.slice m.A2 m.writes.length m.c2):=hbk.cell 4
       go_wp2_with fail
       obtain⟨w5,rfl⟩:∃w5:World,w5=wr:=⟨_,rfl⟩;clear hlt2 hj hsz hcw hbk
       go_loopw [62] (fun i wr=>∃j:Nat,j<=m.writes.length/\i=.int .i64 j/\Acc wr base (base+1) (k4 N k m j)/\jg base (base+1) W1 wr) (fun i _=>m.writes.length-(intOf i).toNat)
       case atStart=>exact⟨0,AI _,rfl,hacc,hpf⟩
       case round=>
        clear hacc hpf;obtain⟨j,hj,rfl,hacc,hpf⟩:=hrel;have hsz:base+2<=wr.heap.size:=by have:=hpf.below.size;have:=HSZ.out;omega
        by_cases hlt2:j<m.writes.length
        .obtain⟨b2,off2,r,e1,hb2,hx2,hm2,hcs⟩:=(HM.out.below hpf.below).wr.elem aGl (fun _=>rfl) hlt2;obtain⟨hc0,hc1,hc2⟩:=dM.at_ hcs;have HX2:=Lib.hid hx2;have HR:=Lib.hid (HM.out.nO r hm2);have hp:=xS (Wp (j:=j+1) HX.out) HD.out;rw[Zzy hx2]at hp;simp only[aO,cF,GT]at hp;clear hx2 hm2 hcs;rw[e1];clear e1
         go_wp2_with fail
         refine(Vx base (base+1) (k4 N k m j) r.on _ _ aGn (hacc.alloc _) aGl aGl).mono ?_;rintro e w2 ⟨rfl,hacc2,hpf2⟩;obtain⟨d,hd⟩:∃d,d=wr.heap.size:=⟨_,rfl⟩;have hbk:=hpf2.box _ _ _ ((af.new wr 136 r.cells.toArray).alloc _) aGo aGl;rw[<-hd]at hbk;have hd1:w2.cell? ⟨d,1,none⟩=some (.slice r.A r.addr.length r.c):=hbk.cell 1;have hpf3:=((hpf.alloc aGl _).alloc (by simp;omega) _).trans hpf2;have hs2:base+2<=w2.heap.size:=by have:=hpf3.below.size;have:=HSZ.out;omega
         have hdB:base+2<=d:=aGl
         rw[<-hd];clear hd hacc hpf hpf2 hc0 hc1 hc2
         go_wp2_with fail
         refine(qT base (base+1) _ r.A r.c r.addr _ hacc2 ((HR.out.1.below hpf3.below).more aGl) (by simp;omega) aGl).mono ?_;rintro e w4 ⟨rfl,hacc3,hpf4⟩;have hbk2:=hpf4.box _ _ _ hbk aGo aGl;have hd2:w4.cell? ⟨d,2,none⟩=some (.slice r.A2 r.data.length r.c2):=hbk2.cell 2;have hpf5:=hpf3.trans hpf4;have hs4:base+2<=w4.heap.size:=by have:=hpf5.below.size;have:=HSZ.out;omega
         clear hacc2 hpf3 hpf4 hd1 hbk hbk2
         go_wp2_with fail
         refine(qT base (base+1) _ r.A2 r.c2 r.data _ hacc3 ((HR.out.2.below hpf5.below).more aGl) (by simp;omega) aGl).mono ?_;rintro e w6 ⟨rfl,hacc4,hpf6⟩;rw[<-Zzy HX2.out]at hacc4
         go_wp2_with fail
         go_roundw
         case rel=>exact⟨j+1,aGl,by go_num,hacc4,hpf5.trans hpf6⟩
         case measure=>simp[intOf];omega
        .rw[asV HX.out aGl]at hacc
         go_wp2_with fail
         go_roundw
         case rel=>exact⟨k+1,aGl,by go_num,hacc,hpf⟩
         case measure=>simp[intOf];omega
    .rw[asY aGl]at hacc;have hf7:wr.cell? ⟨base,7,none⟩=some (.slice N.An N.al.length N.cn):=(hpf.jb HB0.out).cell 7
     go_wp2_with fail
     obtain⟨w5,rfl⟩:∃w5:World,w5=wr:=⟨_,rfl⟩;clear hlt hk hsz hf7
     go_loopw [84] (fun i wr=>∃k:Nat,k<=N.al.length/\i=.int .i64 k/\Acc wr base (base+1) (k5 N k)/\jg base (base+1) W1 wr) (fun i _=>N.al.length-(intOf i).toNat)
     case atStart=>exact⟨0,AI _,rfl,hacc,hpf⟩
     case round=>
      clear hacc hpf;obtain⟨k,hk,rfl,hacc,hpf⟩:=hrel;have hsz:base+2<=wr.heap.size:=by have:=hpf.below.size;have:=HSZ.out;omega
      by_cases hlt:k<N.al.length
      .obtain⟨b,off,x,e1,hb,hx,hm,hcs⟩:=(HOK.out.below hpf.below).and.elem aGl (fun _=>rfl) hlt;obtain⟨hc0,hc1,hc2⟩:=ga.at_ hcs;have hp:=xS (ahx (k:=k+1)) HD.out;rw[Zzx hx]at hp;have HX:=Lib.hid hx;clear hx hm hcs;rw[e1];clear e1;simp only[aO,cF,GT]at hp
       go_wp2_with fail
       refine(aft base (base+1) (k5 N k) x.a x.b _ _ aGn (hacc.alloc _) aGl aGl).mono ?_;rintro e w2 ⟨rfl,hacc2,hpf2⟩;rw[<-Zzx HX.out]at hacc2
       go_wp2_with fail
       go_roundw
       case rel=>exact⟨k+1,aGl,by go_num,hacc2,((hpf.alloc aGl _).alloc (by simp;omega) _).trans hpf2⟩
       case measure=>simp[intOf];omega
      .rw[asU aGl]at hacc;obtain⟨v,hv,hown⟩:=hacc;have hc:=hv.cell 0;have hf:=hv.frozen 0;simp only[pp,pm]at hc;obtain⟨Av,cv,rfl,hv1,hv2,_⟩:=eo hown;have hne:=dZ hown hv aGo;have hc':=(hv.dL 0 (.slice Av (eK N.d).length cv)).cell 0;have hbe:=(HBE.out.trans hpf.below).setCell (p:=⟨base+1,0,none⟩) aGn (.slice Av (eK N.d).length cv);rw[HBA.out]at hbe;have HBE2:=Lib.hid hbe;have HC:=Lib.hid hc';have HNE:=Lib.hid hne;clear hbe hc' hne
       go_wp2_with fail
       have hc2:=HC.out;simp at hc2;refine bodyPost_ret (v:=.slice Av (eK N.d).length cv) (by simp[results,Tryz.results139,go_sem,hc2]) rfl ?_;have hown2:=ownsRow_setCell_other hown (a:=⟨base+1,0,none⟩) HNE.out (.slice Av (eK N.d).length cv);rw[HBA.out]at hown2;exact DS.mk (n:=(eK N.d).length) (by simp[ints]) (by rw[HBA.out];exact hown2) (by rw[HBA.out];exact HBE2.out)
theorem asl(x:Int)(w:World)(h:0<=x)(h':x<=9223372036854775807):Calls Tryz.prog 74 #[.int .i64 x] w fun e w'=>e=.returned (.int .i64 (x / 2))/\w=w':=by
 go_enter Tryz.func74,Tryz.ntmps74
 go_wp2
 go_ret
 exact⟨rfl,rfl⟩
theorem asd{n:aZ}(ft:Fit n):∀x∈eK n,cE x:=by
 intro x hx;unfold eK at hx;simp only[At,IN,WP]at hx;rcases hx with((((⟨l,hl,rfl⟩|h)|h)|h)|⟨m,hm,h⟩)|⟨a,ha,h⟩
 .exact(ft.aC.2 l hl).2.1
 .exact ft.out.2 x h
 .exact ft.bad.2 x h
 .exact ft.nH.2 x h
 .have hf:=ft.aa.2 m hm;unfold gH at h;simp only[At,WP]at h;rcases h with⟨r,hr,h⟩|⟨r,hr,h⟩
  .exact(hf.gC r hr).2.2.2 x h
  .obtain⟨_,_,h3,h4,h5⟩:=hf.nO r hr;unfold jT at h
   grind
 .unfold jk at h;simp at h;rcases h with rfl|rfl
  .exact(ft.al.2 a ha).2.1
  .exact(ft.al.2 a ha).2.2
theorem fT{α β:Type}(f:α->List β)(c:Nat):∀(l:List α),(∀x∈l,(f x).length<=c)->(l.flatMap f).length<=l.length*c
 |[],_=>by simp|x::l,h=>by rw[Fn,aO,cF,Nat.succ_mul];have:=fT f c l (fun y hy=>h y (by simp[hy]));have:=h x aGn;omega
theorem Zux{n:aZ}(ft:Fit n)(hl:∀m∈n.aa,m.reads.length<=6/\m.writes.length<=6)(hm:n.aa.length<=6):(eK n).length<=1000000:=by
 have h1:(n.aa.flatMap gH).length<=n.aa.length*72006:=fT gH 72006 _ fun m hm=>by
  have hf:=ft.aa.2 m hm;have hc:=hl m hm;unfold gH;rw[aO];have a1:(m.reads.flatMap (·.addr)).length<=m.reads.length*4000:=fT _ 4000 _ fun r hr=>(hf.gC r hr).1;have a2:(m.writes.flatMap jT).length<=m.writes.length*8001:=fT _ 8001 _ fun r hr=>by have:=hf.nO r hr;simp only[jT,cF,aO];omega
  grind
 have h2:(n.al.flatMap jk).length<=n.al.length*2:=fT jk 2 _ fun a _=>by simp[jk]
 have h3:n.aa.length*72006<=6*72006:=UV _ hm;have:=ft.aC.1;have:=ft.out.1;have:=ft.bad.1;have:=ft.nH.1;have:=ft.al.1;unfold eK
 grind
theorem Zuy{n:aZ}(ft:Fit n)(hl:∀m∈n.aa,m.reads.length<=6/\m.writes.length<=6)(hm:n.aa.length<=6):(df n).length<=1000000:=by
 have h1:(n.aa.flatMap gA).length<=n.aa.length*24000:=fT gA 24000 _ fun m hm=>by
  have hf:=ft.aa.2 m hm;have hc:=hl m hm;unfold gA;have a1:(m.reads.flatMap fun r=>cQ r.var m.word.toNat).length<=m.reads.length*4000:=fT _ 4000 _ fun r hr=>by have:=hf.word.2;simp[cQ];omega
  grind
 have h3:n.aa.length*24000<=6*24000:=UV _ hm;have:=ft.ins.1;have:=ft.aC.1;have:=ft.al.1;unfold df
 grind
theorem arH{n:aZ}(h:iK n=false):0<=n.vars/\n.vars<=2000/\n.aa.length<=6/\∀m∈n.aa,m.reads.length<=6/\m.writes.length<=6:=by unfold iK at h;rw[aFA]at h;obtain⟨h1,h2⟩:=h;have h1:=aEU h1;refine⟨aGl,aGl,aGl,fun m hm=>?_⟩;have:=aFn.1 h2 m hm;unfold iM at this;simp at this;omega
theorem af.jb{w:World}{N:aV}(h:af w g 27 N.fs):w.cell? ⟨g,0,none⟩=some (.int .i64 N.vars)/\w.cell? ⟨g,1,none⟩=some (.slice N.Ai N.bz.length N.ci)/\w.cell? ⟨g,2,none⟩=some (.slice N.Al N.aB.length N.cl)/\w.cell? ⟨g,3,none⟩=some (.slice N.Ao N.bN.length N.co)/\w.cell? ⟨g,4,none⟩=some (.slice N.Ab N.bO.length N.cb)/\w.cell? ⟨g,5,none⟩=some (.slice N.Ac N.constraints.length N.cc)/\w.cell? ⟨g,6,none⟩=some (.slice N.Am N.aa.length N.cm)/\w.cell? ⟨g,7,none⟩=some (.slice N.An N.al.length N.cn):=⟨h.cell 0,h.cell 1,h.cell 2,h.cell 3,h.cell 4,h.cell 5,h.cell 6,h.cell 7⟩
theorem UG(N:aV)(w:World)(bw:N.bU w w.heap.size)(ft:Fit N.d) :
  Calls Tryz.prog 100 #[N.v] w fun e w'=>e=.returned (.int .i64 (fx N.d))/\Below w.heap.size w w':=by
 obtain⟨z,hz⟩:∃z,z=fx N.d:=⟨_,rfl⟩;rw[<-hz];unfold fx at hz;have HZ:=Lib.hid hz;clear hz;have hmw:N.d.aa.any ie=N.aa.any (fun x=>ie x.d):=by show(N.aa.map bk.d).any ie=_;rw[List.any_map];rfl
 rw[hmw]at HZ;clear hmw;change Hid (z=if iK N.d=true then 10 else if(N.aa.any fun x=>ie x.d)=true then 9 else if N.aB.any j8=true then 1 else if dup N.vars [] (df N.d)≠0 then dup N.vars [] (df N.d)else if(eK N.d).any (mj N.vars)=true then 5 else 0)at HZ;obtain⟨base,hbase⟩:∃base,base=w.heap.size:=⟨_,rfl⟩;have hb0:af (w.alloc (.cells N.fs 27)) base 27 N.fs:=by rw[hbase];exact af.new w _ _
 have hB:Below base w (w.alloc (.cells N.fs 27)):=by rw[hbase];exact(Below.refl _ _).alloc (pi _) _
 have hsz:base<(w.alloc (.cells N.fs 27)).heap.size:=by rw[hbase];simp
 rw[<-hbase]at bw;have HOK:=Lib.hid (bw.below hB);have HF:=Lib.hid ft;have HB:=Lib.hid hB;have HB0:=Lib.hid hb0;have HBA:=Lib.hid hbase;clear bw hB;unfold aV.v
 go_enter Tryz.func100,Tryz.ntmps100
 unfold aV.fs
 go_wp2_with fail
 rw[<-hbase];change Calls _ _ #[N.v] (w.alloc (.cells N.fs 27)) _;generalize w.alloc (.cells N.fs 27)=W1 at hb0 hsz HOK HB HB0 |-;clear hbase;refine(asm N W1 (HOK.out.more aGl) HF.out).mono ?_;rintro e w2 ⟨rfl,hbl⟩;rcases h1:iK N.d with _|_
 .have hs2:=hbl.size;obtain⟨hv0,hv2,hml,hmr⟩:=arH h1;have HDL:=Lib.hid (Zuy HF.out hmr hml);have HLL:=Lib.hid (Zux HF.out hmr hml);have hml2:N.aa.length<=6:=by simpa[aV.d]using hml
  have hmf:∀x∈N.aa,x.bU w2 w2.heap.size/\x.reads.length<=100/\x.writes.length<=100:=fun x hx=>by have h:=hmr x.d (abs hx);simp only[bk.d,aR]at h;exact⟨((HOK.out.yx x hx).below (hbl.mono aGl)).more aGl,aGl,aGl⟩
  have HMF:=Lib.hid hmf;change 0<=N.vars at hv0;change N.vars<=2000 at hv2;have hlat:N.aB.length<=4000:=HF.out.aC.1;obtain⟨c0,c1,c2,c3,c4,c5,c6,c7⟩:=(hb0.below hbl hsz).jb;have HZ1:=HZ.out;rw[rx (by rw[h1];simp)]at HZ1;have HZ2:=Lib.hid HZ1;have HOK2:=Lib.hid (HOK.out.below (hbl.mono aGl));have HB2:=Lib.hid (HB.out.trans (hbl.mono aGl));have HB02:=Lib.hid (hb0.below hbl hsz);clear HZ1 HZ h1 hmf hml hmr hb0 hbl
  go_wp2_with fail
  refine(ar9 N.Am N.cm N.aa w2 (HOK2.out.mem.more aGl) HMF.out aGl).mono ?_;rintro e w3 ⟨rfl,hbl⟩;have hs3:=hbl.size;rcases h2:N.aa.any (fun x=>ie x.d)with _|_
  .have HZ1:=HZ2.out;rw[rx (by rw[h2];simp)]at HZ1;have HZ3:=Lib.hid HZ1;clear HZ1 HZ2 h2 HMF c0 c1 c2 c3 c4 c5 c6 c7;obtain⟨c0,c1,c2,c3,c4,c5,c6,c7⟩:=(HB02.out.below hbl aGl).jb;have HOK3:=Lib.hid (HOK2.out.below (hbl.mono aGl));have HB3:=Lib.hid (HB2.out.trans (hbl.mono aGl));have HB03:=Lib.hid (HB02.out.below hbl aGl);clear HOK2 HB2 HB02 hbl
   go_wp2_with fail
   refine(asb N.Al N.cl N.aB w3 (HOK3.out.aC.more aGl) aGl).mono ?_;rintro e w4 ⟨rfl,hbl⟩;have hs4:=hbl.size;rcases h3:N.aB.any j8 with _|_
   .have HZ1:=HZ3.out;rw[rx (by rw[h3];simp)]at HZ1;have HZ4:=Lib.hid HZ1;clear HZ1 HZ3 h3 c0 c1 c2 c3 c4 c5 c6 c7;obtain⟨c0,c1,c2,c3,c4,c5,c6,c7⟩:=(HB03.out.below hbl aGl).jb;have HOK4:=Lib.hid (HOK3.out.below (hbl.mono aGl));have HB4:=Lib.hid (HB3.out.trans (hbl.mono aGl));have HB04:=Lib.hid (HB03.out.below hbl aGl);clear HOK3 HB3 HB03 hbl;obtain⟨V,hV⟩:=Fd hv0;rw[hV]at HZ4;have HV:=Lib.hid hV;clear hV
    go_wp2_with fail
    change Calls _ _ #[N.v] w4 _;refine(ar8 N V w4 HV.out (by have:=HV.out;omega) (HOK4.out.more aGl) HF.out HDL.out).mono ?_;rintro e w5 ⟨rfl,hbl⟩;have hs5:=hbl.size;clear c0 c1 c2 c3 c4 c5 c6 c7;obtain⟨c0,c1,c2,c3,c4,c5,c6,c7⟩:=(HB04.out.below hbl aGl).jb;have HOK5:=Lib.hid (HOK4.out.below (hbl.mono aGl));have HB5:=Lib.hid (HB4.out.trans (hbl.mono aGl));have HB05:=Lib.hid (HB04.out.below hbl aGl);clear HOK4 HB4 HB04 hbl;obtain⟨dd,hdd⟩:∃dd,dd=dup V [] (df N.d):=⟨_,rfl⟩;rw[<-hdd]at HZ4 |-;clear hdd;by_cases hd0:dd=0
    .subst hd0;rw[rx aGn]at HZ4
     go_wp2_with fail
     change Calls _ _ #[N.v] w5 _;refine(arG N w5 (HOK5.out.more aGl) HF.out HLL.out).mono ?_;rintro e w6 ⟨A,c,rfl,h61,h62,hown,hbl⟩;have hs6:=hbl.size;obtain⟨L,hL⟩:∃L,L=eK N.d:=⟨_,rfl⟩;have hI:∀x∈L,cE x:=by rw[hL];exact asd HF.out
     have hln:L.length<=1000000:=by rw[hL];exact HLL.out
     rw[<-hL]at HZ4 hown;have eln:(ints (eK N.d)).length=L.length:=by rw[hL];simp[ints]
     rw[eln]at h61 |-;have eln2:(ints L).length=L.length:=by simp[ints]
     rw[eln2]at hown;have hSl:=Sl.own hown;have hc0:=(HB05.out.below hbl aGl).jb.1;have HB6:=Lib.hid (HB5.out.trans (hbl.mono aGl));rw[HV.out]at hc0;clear hL eln eln2 hown hbl HB05 HOK5 HB5 c0 c1 c2 c3 c4 c5 c6 c7;have HI:=Lib.hid hI;clear hI
     go_wp2_with fail
     go_loopw [25] (fun i wr=>∃k q:Nat,k<=L.length/\i=.int .i64 k/\(L.take k).any (mj V)=false/\wr=w6.drewN q) (fun i _=>L.length-(intOf i).toNat)
     case atStart=>exact⟨0,0,AI _,rfl,rfl,rfl⟩
     case round=>
      obtain⟨k,q,hk,rfl,hno,rfl⟩:=hrel;have HNO:=Lib.hid hno;clear hno;by_cases hlt:k<L.length
      .obtain⟨b,off,x,e1,hb,hx,hm,hcx⟩:=hSl.oU hlt;have hxi:=HI.out x hm;have hx1:=hxi.1;have hx2:=hxi.2;have HX:=Lib.hid hx;have HM:=Lib.hid hm;clear hx hm hxi;rw[e1];clear e1;by_cases hx0:x<0
       .go_wp2_with fail
        go_quiet (fail)
        go_wp2_with fail
        go_ret
        exact⟨by rw[HZ4.out,BY (aEQ.2 ⟨x,HM.out,by unfold mj;simp;omega⟩)];rfl,by rw[<-HBA.out];exact below_drewN (below_drewN HB6.out _) _⟩
       .have HVAR:Hid (∀n,Calls Tryz.prog 74 #[.int .i64 x] (w6.drewN n) fun e w'=>e=.returned (.int .i64 (x / 2))/\w6.drewN n=w'):=fun n=>asl x _ aGl aGl;by_cases hx3:(V:Int)<x / 2
        .go_wp2_with fail
         go_quiet ((go_at_call 74;exact Np (HVAR.out _)))
         go_wp2_with fail
         go_ret
         exact⟨by rw[HZ4.out,BY (aEQ.2 ⟨x,HM.out,by unfold mj;simp;omega⟩)];rfl,by rw[<-HBA.out];exact below_drewN (below_drewN HB6.out _) _⟩
        .go_wp2_with fail
         go_quiet ((go_at_call 74;exact Np (HVAR.out _)))
         go_wp2_with fail
         go_roundw
         case rel=>exact⟨k+1,_,aGl,by go_num,uC HX.out HNO.out (by unfold mj;simp;omega),rfl⟩
         case measure=>simp[intOf];omega
      .go_wp2_with fail
       go_ret
       exact⟨by rw[HZ4.out,uD aGl HNO.out];rfl,by rw[<-HBA.out];exact below_drewN HB6.out _⟩
    .have hd1:(dd != 0)=true:=by simpa using hd0
     go_wp2_with fail
     go_ret
     exact⟨by rw[HZ4.out,BY hd0];rfl,by rw[<-HBA.out];exact HB5.out⟩
   .have HZ1:=HZ3.out;rw[BY h3]at HZ1;have HZ4:=Lib.hid HZ1;clear HZ1
    go_wp2_with fail
    go_ret
    exact⟨by rw[HZ4.out];rfl,by rw[<-HBA.out];exact HB3.out.trans (hbl.mono aGl)⟩
  .have HZ1:=HZ2.out;rw[BY h2]at HZ1;have HZ4:=Lib.hid HZ1;clear HZ1
   go_wp2_with fail
   go_ret
   exact⟨by rw[HZ4.out];rfl,by rw[<-HBA.out];exact HB2.out.trans (hbl.mono aGl)⟩
 .go_wp2_with fail
  go_ret
  exact⟨by rw[HZ.out,BY h1];rfl,by rw[<-HBA.out];exact HB.out.trans (hbl.mono aGl)⟩
