import Derived.Test.YtbbhihkocghhaaaKBs
import Derived.RangeFuncNested
import Derived.RangeFuncBound
import Derived.RangeFuncCalls
import Derived.RangeFuncLeaves
import Derived.Shelf.Abstract
import Derived.OwnWalkIn
import Derived.TacticsInMore
import Derived.LoopNIn
import Derived.LoopIn
import Derived.OneCell
set_option linter.all false
section
namespace Go.Proofs.Ytbbhihkocghhaaa.Pl
structure d9 where
 var:Int
 next:Int
 init:Int
structure fe where
 var:Int
 a:Int
 b:Int
structure fQ where
 var:Int
 addr:io
structure qM where
 on:Int
 addr:io
 data:io
structure cP where
 addr:Int
 word:Int
 any:Bool
 reads:List fQ
 writes:List qM
structure ba where
 vars:Int
 bk:io
 az:List d9
 bL:io
 bP:io
 constraints:io
 aa:List cP
 ai:List fe
def cA(v:Int)(word:Nat):io:=(List.range word).map fun i:Nat=>v+(i:Int)
def fv(m:cP):io:=m.reads.flatMap fun r=>cA r.var m.word.toNat
def cL(n:ba):io:=n.bk++n.az.map (·.var)++n.aa.flatMap fv++n.ai.map (·.var)
def iW(x:qM):io:=x.on::(x.addr++x.data)
def fC(m:cP):io:=m.reads.flatMap (·.addr)++m.writes.flatMap iW
def ig(a:fe):io:=[a.a,a.b]
def dJ(n:ba):io:=n.az.map (·.next)++n.bL++n.bP++n.constraints++n.aa.flatMap fC++n.ai.flatMap ig
def gF(m:cP):Bool:=decide (4<m.reads.length\/4<m.writes.length)
def gD(n:ba):Bool:=decide (n.vars<0\/2000<n.vars\/2000<n.bk.length\/2000<n.az.length\/2000<n.ai.length\/1000<n.bL.length+n.bP.length+n.constraints.length\/4<n.aa.length)||n.aa.any gF
def jX(m:cP)(r:fQ):Bool:=(r.addr.length:Int) != m.addr
def jE(m:cP)(x:qM):Bool:=(x.addr.length:Int) != m.addr||(x.data.length:Int) != m.word
def fS(m:cP):Bool:=decide (m.addr<1\/62<m.addr\/m.word<1\/64<m.word)||m.reads.any (jX m)||m.writes.any (jE m)
def jb(l:d9):Bool:=decide (l.init<0\/2<l.init)
def dup(V:Int)(pre:io):io->Int
 |[]=>if(pre.length:Int)<V then 7 else 0
 |v::l=>if v<1\/V<v then 5 else if pre.contains v then 6 else dup V (pre++[v]) l
def j8(V l:Int):Bool:=decide (l<0\/V<l / 2)
def eh(n:ba):Int:=
 if gD n then 10 else if n.aa.any fS then 9 else if n.az.any jb then 1
 else if dup n.vars [] (cL n)≠0 then dup n.vars [] (cL n)else if(dJ n).any (j8 n.vars)then 5 else 0
variable{k:Nat}{l:io}{V:Int}
theorem TP(hk:l.length<=k):dup V (l.take k) (l.drop k)=if(l.length:Int)<V then 7 else 0:=by rw[aaU hk,By hk];rfl
variable{v:Int}
theorem LQ(hk:l[k]?=some v)(h:v<1\/V<v):dup V (l.take k) (l.drop k)=5:=by obtain⟨h1,rfl⟩:=wn.1 hk;rw[aaP h1,dup,ut h]
theorem Ye(hk:l[k]?=some v)(h1:1<=v)(h2:v<=V)(h:(l.take k).contains v=true):dup V (l.take k) (l.drop k)=6:=by obtain⟨h3,rfl⟩:=wn.1 hk;rw[aaP h3,dup,qr acs,ut h]
theorem dn{α:Type}{l:List α}{v:α}(hk:l[k]?=some v):l.take (k+1)=l.take k++[v]:=by
 obtain⟨h3,rfl⟩:=wn.1 hk
 simp_all
theorem SQ(hk:l[k]?=some v)(h1:1<=v)(h2:v<=V)(h:(l.take k).contains v=false):dup V (l.take k) (l.drop k)=dup V (l.take (k+1)) (l.drop (k+1)):=by have hs:=dn hk;obtain⟨h3,rfl⟩:=wn.1 hk;rw[aaP h3,dup,qr acs,qr (by rw[h];simp),hs]
def jW(V:Nat)(pre:io):ip:=(List.range (V+1)).map fun v:Nat=>pre.contains (v:Int)
theorem yV(V:Nat)(pre:io):(jW V pre).length=V+1:=by simp[jW]
variable{pre:io}
theorem zs{V:Nat}{v:Nat}(h:v<=V):(jW V pre)[v]?=some (pre.contains (v:Int)):=by unfold jW;grind
theorem Wq(V:Nat):jW V []=List.replicate (V+1) false:=by
 apply aaO;intro i;by_cases h:i<=V
 .rw[zs h,abO,ut acs];rfl
 .rw[Do (by rw[yV];omega),Do (by simp;omega)]
theorem XJ{V:Nat}{v:Nat}(h:v<=V):(jW V pre).set v true=jW V (pre++[(v:Int)]):=by
 apply aaO;intro i;by_cases hi:i<=V
 .rw[abV,zs hi,zs hi];by_cases e:v=i
  .subst e;simp[yV];omega
  grind
 .rw[Do (by simp[yV];omega),Do (by rw[yV];omega)]
theorem SM(V:Nat):∀(l:io),l.Nodup->(∀x∈l,1<=x/\x<=(V:Int))->l.length<=V/\(V<=l.length->∀v:Nat,1<=v->v<=V->(v:Int)∈l):=by
 induction V with
 |zero=>
  intro l _ hr;have:l=[]:=by cases l with|nil=>rfl|cons x l=>have:=hr x acv;omega
  subst this;exact⟨acv,fun _ v h1 h2=>acs⟩
 |succ V ih=>
  intro l hn hr;by_cases hm:((V+1:Nat):Int)∈l
  .obtain⟨a,b,rfl⟩:=List.append_of_mem hm;have hn':(a++b).Nodup:=by rw[abM]at hn |-;obtain⟨h1,h2,h3⟩:=hn;rw[abr]at h2;exact⟨h1,h2.2,fun x hx y hy=>h3 x hx y (by simp[hy])⟩
   have hnm:((V+1:Nat):Int)∉a++b:=by
    rw[abM]at hn;obtain⟨h1,h2,h3⟩:=hn;rw[abr]at h2;intro h;rcases AC.1 h with h|h
    .exact h3 _ h _ acv rfl
    .exact h2.1 h
   obtain⟨i1,i2⟩:=ih (a++b) hn' (fun x hx=>by have h:=hr x (by rcases AC.1 hx with h|h<;>simp[h]);have hne:x≠((V+1:Nat):Int):=fun e=>hnm (e▸hx);omega)
   grind
  grind
end Go.Proofs.Ytbbhihkocghhaaa.Pl
end
section
namespace Go.Proofs.Ytbbhihkocghhaaa
open Go.RowKit Pl
def cB(x:Int):Prop:=-9223372036854775808<=x/\x<=9223372036854775807
def Sl(w:World)(B size:Nat)(A:lc)(n c:Nat)(xs:kw):Prop:=Reads w B size A n xs/\n<=c/\0<=c
def ints(l:io):kw:=l.map (Value.int .i64)
section
variable{w w':World}{B B' size n c:Nat}{A:lc}{xs:kw}
theorem Sl.aH(h:Sl w B size A n c xs)(hk:∀p:Addr,p.block<B->w'.cell? p=w.cell? p):Sl w' B size A n c xs:=⟨h.1.aH hk,h.2⟩
theorem Sl.more(h:Sl w B size A n c xs)(hB:B<=B'):Sl w B' size A n c xs:=⟨h.1.more hB,h.2⟩
theorem Sl.own{base:Nat}{e:TypeId}(h:w.ownsRow base e size (.slice A n c) n xs):Sl w w.heap.size size A n c xs:=by obtain⟨A',c',hv,h1,h2,h3⟩:=iT h;injection hv with e1 _ e2;subst e1 e2;exact⟨h3,h1,Fn _⟩
end
variable{base:Nat}
def Pl.d9.cells(l:d9):kw:=[.int .i64 l.var,.int .i64 l.next,.int .i64 l.init]
def Pl.fe.cells(a:fe):kw:=[.int .i64 a.var,.int .i64 a.a,.int .i64 a.b]
structure de where
 var:Int
 A:lc
 c:Nat
 addr:io
def de.cells(r:de):kw:=[.int .i64 r.var,.slice r.A r.addr.length r.c]
def de.d(r:de):fQ:=⟨r.var,r.addr⟩
def de.bT(w:World)(B:Nat)(r:de):Prop:=Sl w B 1 r.A r.addr.length r.c (ints r.addr)
structure eI where
 on:Int
 A:lc
 c:Nat
 addr:io
 A2:lc
 c2:Nat
 data:io
def eI.cells(r:eI):kw:=[.int .i64 r.on,.slice r.A r.addr.length r.c,.slice r.A2 r.data.length r.c2]
def eI.d(r:eI):qM:=⟨r.on,r.addr,r.data⟩
def eI.bT(w:World)(B:Nat)(r:eI):Prop:=Sl w B 1 r.A r.addr.length r.c (ints r.addr)/\Sl w B 1 r.A2 r.data.length r.c2 (ints r.data)
structure bo where
 addr:Int
 word:Int
 any:Bool
 A:lc
 c:Nat
 reads:List de
 A2:lc
 c2:Nat
 writes:List eI
def bo.cells(m:bo):kw:=[.int .i64 m.addr,.int .i64 m.word,.bool m.any,.slice m.A m.reads.length m.c,.slice m.A2 m.writes.length m.c2]
def bo.v(m:bo):Value:=.agg #[.int .i64 m.addr,.int .i64 m.word,.bool m.any,.slice m.A m.reads.length m.c,.slice m.A2 m.writes.length m.c2]
def bo.d(m:bo):cP:=⟨m.addr,m.word,m.any,m.reads.map de.d,m.writes.map eI.d⟩
structure bo.bT(w:World)(B:Nat)(m:bo):Prop where
 rd:Sl w B 2 m.A m.reads.length m.c (m.reads.flatMap de.cells)
 gG:∀r∈m.reads,r.bT w B
 wr:Sl w B 3 m.A2 m.writes.length m.c2 (m.writes.flatMap eI.cells)
 kU:∀r∈m.writes,r.bT w B
structure aX where
 vars:Int
 Ai:lc
 ci:Nat
 bk:io
 Al:lc
 cl:Nat
 az:List d9
 Ao:lc
 co:Nat
 bL:io
 Ab:lc
 cb:Nat
 bP:io
 Ac:lc
 cc:Nat
 constraints:io
 Am:lc
 cm:Nat
 aa:List bo
 An:lc
 cn:Nat
 ai:List fe
def aX.d(n:aX):ba:=⟨n.vars,n.bk,n.az,n.bL,n.bP,n.constraints,n.aa.map bo.d,n.ai⟩
def aX.fs(n:aX):Array Value:=#[.int .i64 n.vars,.slice n.Ai n.bk.length n.ci,.slice n.Al n.az.length n.cl,.slice n.Ao n.bL.length n.co,.slice n.Ab n.bP.length n.cb,.slice n.Ac n.constraints.length n.cc,.slice n.Am n.aa.length n.cm,.slice n.An n.ai.length n.cn]
def aX.v(n:aX):Value:=.agg n.fs
structure aX.bT(w:World)(B:Nat)(n:aX):Prop where
 ins:Sl w B 1 n.Ai n.bk.length n.ci (ints n.bk)
 aw:Sl w B 3 n.Al n.az.length n.cl (n.az.flatMap d9.cells)
 out:Sl w B 1 n.Ao n.bL.length n.co (ints n.bL)
 bad:Sl w B 1 n.Ab n.bP.length n.cb (ints n.bP)
 kO:Sl w B 1 n.Ac n.constraints.length n.cc (ints n.constraints)
 mem:Sl w B 5 n.Am n.aa.length n.cm (n.aa.flatMap bo.cells)
 ua:∀m∈n.aa,m.bT w B
 and:Sl w B 3 n.An n.ai.length n.cn (n.ai.flatMap fe.cells)
section
variable{w w':World}{B B':Nat}
theorem de.bT.aH{r:de}(h:r.bT w B)(hk:∀p:Addr,p.block<B->w'.cell? p=w.cell? p):r.bT w' B:=Sl.aH h hk
theorem eI.bT.aH{r:eI}(h:r.bT w B)(hk:∀p:Addr,p.block<B->w'.cell? p=w.cell? p):r.bT w' B:=⟨h.1.aH hk,h.2.aH hk⟩
theorem bo.bT.aH{m:bo}(h:m.bT w B)(hk:∀p:Addr,p.block<B->w'.cell? p=w.cell? p):m.bT w' B:=⟨h.rd.aH hk,fun r hr=>(h.gG r hr).aH hk,h.wr.aH hk,fun r hr=>(h.kU r hr).aH hk⟩
theorem aX.bT.aH{n:aX}(h:n.bT w B)(hk:∀p:Addr,p.block<B->w'.cell? p=w.cell? p):n.bT w' B:=⟨h.ins.aH hk,h.aw.aH hk,h.out.aH hk,h.bad.aH hk,h.kO.aH hk,h.mem.aH hk,fun m hm=>(h.ua m hm).aH hk,h.and.aH hk⟩
theorem de.bT.more{r:de}(h:r.bT w B)(hB:B<=B'):r.bT w B':=Sl.more h hB
theorem eI.bT.more{r:eI}(h:r.bT w B)(hB:B<=B'):r.bT w B':=⟨h.1.more hB,h.2.more hB⟩
theorem bo.bT.more{m:bo}(h:m.bT w B)(hB:B<=B'):m.bT w B':=⟨h.rd.more hB,fun r hr=>(h.gG r hr).more hB,h.wr.more hB,fun r hr=>(h.kU r hr).more hB⟩
theorem aX.bT.more{n:aX}(h:n.bT w B)(hB:B<=B'):n.bT w B':=⟨h.ins.more hB,h.aw.more hB,h.out.more hB,h.bad.more hB,h.kO.more hB,h.mem.more hB,fun m hm=>(h.ua m hm).more hB,h.and.more hB⟩
theorem Sl.below{size n c:Nat}{A:lc}{xs:kw}(h:Sl w B size A n c xs)(hb:Below B w w'):Sl w' B size A n c xs:=h.aH fun _ hp=>hb.cell hp
theorem bo.bT.below{m:bo}(h:m.bT w B)(hb:Below B w w'):m.bT w' B:=h.aH fun _ hp=>hb.cell hp
theorem aX.bT.below{n:aX}(h:n.bT w B)(hb:Below B w w'):n.bT w' B:=h.aH fun _ hp=>hb.cell hp
theorem de.bT.below{m:de}(h:m.bT w B)(hb:Below B w w'):m.bT w' B:=h.aH fun _ hp=>hb.cell hp
end
variable{r:de}{α:Type}{m:bo}{l:List α}
theorem Sl.elem{f:α->kw}{C:Nat}{w:World}{B k c:Nat}{A:lc}(h:Sl w B C A l.length c (l.flatMap f))(hC:0<C)(hf:∀x,(f x).length=C)(hk:k<l.length) :
  ∃b off x,A=some ⟨b,off,none⟩/\b<B/\l[k]?=some x/\x∈l/\∀j u,(f x)[j]?=some u->w.cell? ⟨b,off+(k*C+j),none⟩=some u:=by
 obtain⟨b,off,x,h1,h2,h3,h4⟩:=Reads.elem h.1 hC hf rfl hk;exact⟨b,off,x,h1,h2,h3,d8 h3,h4⟩
variable{off:Nat}{b:Nat}
theorem d9.at_{w:World}{k:Nat}{l:d9}(h:∀j u,(d9.cells l)[j]?=some u->w.cell? ⟨b,off+(k*3+j),none⟩=some u) :
  w.cell? ⟨b,off+k*3,none⟩=some (.int .i64 l.var)/\w.cell? ⟨b,off+k*3+1,none⟩=some (.int .i64 l.next)/\w.cell? ⟨b,off+k*3+2,none⟩=some (.int .i64 l.init):=
 ⟨h 0 _ rfl,h 1 _ rfl,h 2 _ rfl⟩
theorem fe.at_{w:World}{k:Nat}{l:fe}(h:∀j u,(fe.cells l)[j]?=some u->w.cell? ⟨b,off+(k*3+j),none⟩=some u) :
  w.cell? ⟨b,off+k*3,none⟩=some (.int .i64 l.var)/\w.cell? ⟨b,off+k*3+1,none⟩=some (.int .i64 l.a)/\w.cell? ⟨b,off+k*3+2,none⟩=some (.int .i64 l.b):=
 ⟨h 0 _ rfl,h 1 _ rfl,h 2 _ rfl⟩
theorem de.at_{w:World}{k:Nat}{l:de}(h:∀j u,l.cells[j]?=some u->w.cell? ⟨b,off+(k*2+j),none⟩=some u) :
  w.cell? ⟨b,off+k*2,none⟩=some (.int .i64 l.var)/\w.cell? ⟨b,off+k*2+1,none⟩=some (.slice l.A l.addr.length l.c):=
 ⟨h 0 _ rfl,h 1 _ rfl⟩
theorem eI.at_{w:World}{k:Nat}{l:eI}(h:∀j u,l.cells[j]?=some u->w.cell? ⟨b,off+(k*3+j),none⟩=some u) :
  w.cell? ⟨b,off+k*3,none⟩=some (.int .i64 l.on)/\w.cell? ⟨b,off+k*3+1,none⟩=some (.slice l.A l.addr.length l.c)/\w.cell? ⟨b,off+k*3+2,none⟩=some (.slice l.A2 l.data.length l.c2):=
 ⟨h 0 _ rfl,h 1 _ rfl,h 2 _ rfl⟩
theorem bo.at_{w:World}{k:Nat}{l:bo}(h:∀j u,l.cells[j]?=some u->w.cell? ⟨b,off+(k*5+j),none⟩=some u) :
  w.cell? ⟨b,off+k*5,none⟩=some (.int .i64 l.addr)/\w.cell? ⟨b,off+k*5+1,none⟩=some (.int .i64 l.word)/\w.cell? ⟨b,off+k*5+2,none⟩=some (.bool l.any) /\
   w.cell? ⟨b,off+k*5+3,none⟩=some (.slice l.A l.reads.length l.c)/\w.cell? ⟨b,off+k*5+4,none⟩=some (.slice l.A2 l.writes.length l.c2):=
 ⟨h 0 _ rfl,h 1 _ rfl,h 2 _ rfl,h 3 _ rfl,h 4 _ rfl⟩
theorem Sl.pE{w:World}{B k c:Nat}{A:lc}{l:io}(h:Sl w B 1 A l.length c (ints l))(hk:k<l.length) :
  ∃b off x,A=some ⟨b,off,none⟩/\b<B/\l[k]?=some x/\x∈l/\w.cell? ⟨b,off+k,none⟩=some (.int .i64 x):=by
 obtain⟨b,off,h1,h2,h3⟩:=Reads.pE h.1 hk
 grind
structure oA(m:cP):Prop where
 word:cB m.word/\m.word<=4000
 addr:cB m.addr
 kR:m.reads.length<=100
 n8:m.writes.length<=100
 gG:∀r∈m.reads,r.addr.length<=4000/\-1099511627776<=r.var/\r.var<=1099511627776/\∀x∈r.addr,cB x
 kU:∀r∈m.writes,r.addr.length<=4000/\r.data.length<=4000/\cB r.on/\(∀x∈r.addr,cB x)/\∀x∈r.data,cB x
structure Fit(n:ba):Prop where
 vars:cB n.vars
 ins:n.bk.length<=4000/\∀x∈n.bk,cB x
 aw:n.az.length<=4000/\∀l∈n.az,cB l.var/\cB l.next/\cB l.init
 out:n.bL.length<=4000/\∀x∈n.bL,cB x
 bad:n.bP.length<=4000/\∀x∈n.bP,cB x
 kO:n.constraints.length<=4000/\∀x∈n.constraints,cB x
 aa:n.aa.length<=100/\∀m∈n.aa,oA m
 ai:n.ai.length<=4000/\∀a∈n.ai,cB a.var/\cB a.a/\cB a.b
variable{p:α->Bool}
theorem qh{k:Nat}{x:α}(hx:l[k]?=some x)(h:(l.take k).any p=false)(hp:p x=false):(l.take (k+1)).any p=false:=by rw[dn hx,List.any_append,h];simp[hp]
theorem qi{k:Nat}(hk:l.length<=k)(h:(l.take k).any p=false):l.any p=false:=by rwa [By hk]at h
def rN(b:Bool)(w:World)(e:Ending)(w':World):Prop:=∃i:Int,e=.returned (.int .i64 i)/\decide (0<=i)=b/\Below w.heap.size w w'
theorem XB(m:bo)(g:Nat)(v:Int)(A:lc)(n c:Nat)(w:World)(hg:av w g 73 m.cells.toArray) :
  Calls Try.prog 88 #[.agg #[.int .i64 v,.slice A n c],.pointer (some ⟨g,0,none⟩)] w fun e w'=>e=.returned (.bool ((n:Int) != m.addr))/\Below w.heap.size w w':=by
 have h0:(w.alloc (.cells #[.int .i64 v,.slice A n c] 77)).cell? ⟨g,0,none⟩=some (.int .i64 m.addr):=((hg.alloc _).cell 0);clear hg
 go_enter Try.func88,Try.ntmps88
 go_wp2_with fail
 go_ret
 exact⟨rfl,(Below.refl _ _).alloc (ol _) _⟩
theorem XA(m:bo)(g:Nat)(v:Int)(A:lc)(n c:Nat)(A2:lc)(n2 c2:Nat)(w:World)(hg:av w g 73 m.cells.toArray) :
  Calls Try.prog 89 #[.agg #[.int .i64 v,.slice A n c,.slice A2 n2 c2],.pointer (some ⟨g,0,none⟩)] w fun e w'=>e=.returned (.bool ((n:Int) != m.addr||(n2:Int) != m.word))/\Below w.heap.size w w':=by
 have h0:(w.alloc (.cells #[.int .i64 v,.slice A n c,.slice A2 n2 c2] 79)).cell? ⟨g,0,none⟩=some (.int .i64 m.addr):=((hg.alloc _).cell 0);have h1:(w.alloc (.cells #[.int .i64 v,.slice A n c,.slice A2 n2 c2] 79)).cell? ⟨g,1,none⟩=some (.int .i64 m.word):=((hg.alloc _).cell 1);clear hg;rcases hb:((n:Int) != m.addr)with _|_
 all_goals
  go_enter Try.func89,Try.ntmps89
  go_wp2_with fail
  go_ret
  exact⟨acv,(Below.refl _ _).alloc (ol _) _⟩
theorem XM(a wd:Int)(y:Bool)(A:lc)(n c:Nat)(A2:lc)(n2 c2:Nat)(w:World)(hn:n<=100)(hn2:n2<=100) :
  Calls Try.prog 86 #[.agg #[.int .i64 a,.int .i64 wd,.bool y,.slice A n c,.slice A2 n2 c2]] w fun e w'=>e=.returned (.bool (decide (4<n\/4<n2)))/\Below w.heap.size w w':=by
 by_cases h1:4<n<;>by_cases h2:4<n2
 all_goals
  go_enter Try.func86,Try.ntmps86
  go_wp2_with fail
  go_ret
  exact⟨lK (by rw[Bool.eq_iff_iff];try (first|(simp;done)|(simp;omega))),(Below.refl _ _).alloc (ol _) _⟩
theorem S1(l:d9)(w:World) :
  Calls Try.prog 78 #[.agg #[.int .i64 l.var,.int .i64 l.next,.int .i64 l.init]] w fun e w'=>e=.returned (.bool (jb l))/\Below w.heap.size w w':=by
 obtain⟨z,hz⟩:∃z,z=jb l:=⟨_,rfl⟩;have HZ:=Lib.hid hz;rw[<-hz];clear hz;obtain⟨a,b,i⟩:=l;rcases(show i<0\/(¬i<0/\2<i)\/(¬i<0/\¬2<i)from by omega)with h1|⟨h1,h2⟩|⟨h1,h2⟩
 all_goals
  go_enter Try.func78,Try.ntmps78
  go_wp2_with fail
  go_ret
  exact⟨lK (by rw[HZ.out,Bool.eq_iff_iff];unfold jb;first|(simp;done)|(simp;omega)),(Below.refl _ _).alloc (ol _) _⟩
set_option maxHeartbeats 400000
theorem WU(m:bo)(g:Nat)(A:lc)(c:Nat)(l:List de)(w:World)(hS:Sl w w.heap.size 2 A l.length c (l.flatMap de.cells))(hg:av w g 73 m.cells.toArray)(hn:l.length<=4000) :
  Calls Try.prog 98 #[.slice A l.length c,.func (.func 88) #[] #[.pointer (some ⟨g,0,none⟩)]] w (rN (l.any (fun x=>jX m.d x.d)) w):=by
 go_enter Try.func98,Try.ntmps98
 go_wp2_with fail
 go_loopw [8] (fun i wr=>∃k:Nat,k<=l.length/\i=.int .i64 k/\(l.take k).any (fun x=>jX m.d x.d)=false/\Below w.heap.size w wr) (fun i _=>l.length-(intOf i).toNat)
 case atStart=>exact⟨0,Fn _,rfl,rfl,Below.refl _ _⟩
 case round=>
  obtain⟨k,hk,rfl,hno,hbel⟩:=hrel;have HNO:=Lib.hid hno;clear hno;by_cases hlt:k<l.length
  .obtain⟨b,off,x,rfl,hb,hx,hm,hcs⟩:=(hS.below hbel).elem acs (fun _=>rfl) hlt;obtain⟨hc0,hc1⟩:=de.at_ hcs;have HX:=Lib.hid hx;have HM:=Lib.hid hm;clear hcs hx hm
   go_wp2_with fail
   refine(XB m g x.var x.A x.addr.length x.c wr (hg.below hbel hg.lt)).mono ?_;rintro e w1 ⟨rfl,hb1⟩;rcases hp:(fun x=>jX m.d x.d) x with _|_
   .have hp':=hp;change((x.addr.length:Int) != m.addr)=_ at hp';rw[hp'];clear hp'
    go_wp2_with fail
    go_roundw
    case rel=>exact⟨k+1,acs,by go_num,qh HX.out HNO.out hp,hbel.trans (hb1.mono hbel.size)⟩
    case measure=>simp[intOf];omega
   .have hp':=hp;change((x.addr.length:Int) != m.addr)=_ at hp';rw[hp'];clear hp'
    go_wp2_with fail
    go_ret
    exact⟨k,rfl,by rw[abf.2 ⟨x,HM.out,hp⟩];simp,hbel.trans (hb1.mono hbel.size)⟩
  .go_wp2_with fail
   go_ret
   exact⟨-1,rfl,by rw[qi acs HNO.out];rfl,hbel⟩
theorem W7(m:bo)(g:Nat)(A:lc)(c:Nat)(l:List de)(w:World)(hS:Sl w w.heap.size 2 A l.length c (l.flatMap de.cells))(hg:av w g 73 m.cells.toArray)(hn:l.length<=4000) :
  Calls Try.prog 90 #[.slice A l.length c,.func (.func 88) #[] #[.pointer (some ⟨g,0,none⟩)]] w fun e w'=>e=.returned (.bool (l.any (fun x=>jX m.d x.d)))/\Below w.heap.size w w':=by
 go_enter Try.func90,Try.ntmps90
 go_wp2_with fail
 refine(WU m g A c l w hS hg hn).mono ?_;rintro e w1 ⟨i,rfl,hi,hb1⟩;have HI:=Lib.hid hi;clear hi
 go_wp2_with fail
 go_ret
 exact⟨by rw[HI.out];rfl,hb1⟩
theorem Ww(m:bo)(g:Nat)(A:lc)(c:Nat)(l:List eI)(w:World)(hS:Sl w w.heap.size 3 A l.length c (l.flatMap eI.cells))(hg:av w g 73 m.cells.toArray)(hn:l.length<=4000) :
  Calls Try.prog 99 #[.slice A l.length c,.func (.func 89) #[] #[.pointer (some ⟨g,0,none⟩)]] w (rN (l.any (fun x=>jE m.d x.d)) w):=by
 go_enter Try.func99,Try.ntmps99
 go_wp2_with fail
 go_loopw [8] (fun i wr=>∃k:Nat,k<=l.length/\i=.int .i64 k/\(l.take k).any (fun x=>jE m.d x.d)=false/\Below w.heap.size w wr) (fun i _=>l.length-(intOf i).toNat)
 case atStart=>exact⟨0,Fn _,rfl,rfl,Below.refl _ _⟩
 case round=>
  obtain⟨k,hk,rfl,hno,hbel⟩:=hrel;have HNO:=Lib.hid hno;clear hno;by_cases hlt:k<l.length
  .obtain⟨b,off,x,rfl,hb,hx,hm,hcs⟩:=(hS.below hbel).elem acs (fun _=>rfl) hlt;obtain⟨hc0,hc1,hc2⟩:=eI.at_ hcs;have HX:=Lib.hid hx;have HM:=Lib.hid hm;clear hcs hx hm
   go_wp2_with fail
   refine(XA m g x.on x.A x.addr.length x.c x.A2 x.data.length x.c2 wr (hg.below hbel hg.lt)).mono ?_;rintro e w1 ⟨rfl,hb1⟩;rcases hp:(fun x=>jE m.d x.d) x with _|_
   .have hp':=hp;change((x.addr.length:Int) != m.addr||(x.data.length:Int) != m.word)=_ at hp';rw[hp'];clear hp'
    go_wp2_with fail
    go_roundw
    case rel=>exact⟨k+1,acs,by go_num,qh HX.out HNO.out hp,hbel.trans (hb1.mono hbel.size)⟩
    case measure=>simp[intOf];omega
   .have hp':=hp;change((x.addr.length:Int) != m.addr||(x.data.length:Int) != m.word)=_ at hp';rw[hp'];clear hp'
    go_wp2_with fail
    go_ret
    exact⟨k,rfl,by rw[abf.2 ⟨x,HM.out,hp⟩];simp,hbel.trans (hb1.mono hbel.size)⟩
  .go_wp2_with fail
   go_ret
   exact⟨-1,rfl,by rw[qi acs HNO.out];rfl,hbel⟩
theorem WI(m:bo)(g:Nat)(A:lc)(c:Nat)(l:List eI)(w:World)(hS:Sl w w.heap.size 3 A l.length c (l.flatMap eI.cells))(hg:av w g 73 m.cells.toArray)(hn:l.length<=4000) :
  Calls Try.prog 91 #[.slice A l.length c,.func (.func 89) #[] #[.pointer (some ⟨g,0,none⟩)]] w fun e w'=>e=.returned (.bool (l.any (fun x=>jE m.d x.d)))/\Below w.heap.size w w':=by
 go_enter Try.func91,Try.ntmps91
 go_wp2_with fail
 refine(Ww m g A c l w hS hg hn).mono ?_;rintro e w1 ⟨i,rfl,hi,hb1⟩;have HI:=Lib.hid hi;clear hi
 go_wp2_with fail
 go_ret
 exact⟨by rw[HI.out];rfl,hb1⟩
theorem Wx  (A:lc)(c:Nat)(l:List bo)(w:World)(hS:Sl w w.heap.size 5 A l.length c (l.flatMap bo.cells))(hf:∀x∈l,x.reads.length<=100/\x.writes.length<=100)(hn:l.length<=4000) :
  Calls Try.prog 87 #[.slice A l.length c,.func (.func 86) #[] #[]] w (rN (l.any (fun x=>gF x.d)) w):=by
 go_enter Try.func87,Try.ntmps87
 go_wp2_with fail
 go_loopw [8] (fun i wr=>∃k:Nat,k<=l.length/\i=.int .i64 k/\(l.take k).any (fun x=>gF x.d)=false/\Below w.heap.size w wr) (fun i _=>l.length-(intOf i).toNat)
 case atStart=>exact⟨0,Fn _,rfl,rfl,Below.refl _ _⟩
 case round=>
  obtain⟨k,hk,rfl,hno,hbel⟩:=hrel;have HNO:=Lib.hid hno;clear hno;by_cases hlt:k<l.length
  .obtain⟨b,off,x,rfl,hb,hx,hm,hcs⟩:=(hS.below hbel).elem acs (fun _=>rfl) hlt;obtain⟨hc0,hc1,hc2,hc3,hc4⟩:=bo.at_ hcs;have HX:=Lib.hid hx;have HM:=Lib.hid hm;clear hcs hx hm
   go_wp2_with fail
   refine(XM x.addr x.word x.any x.A x.reads.length x.c x.A2 x.writes.length x.c2 wr (hf x HM.out).1 (hf x HM.out).2).mono ?_;rintro e w1 ⟨rfl,hb1⟩;rcases hp:(fun x=>gF x.d) x with _|_
   .have hp':=hp;simp only[gF,bo.d,aT]at hp';rw[hp'];clear hp'
    go_wp2_with fail
    go_roundw
    case rel=>exact⟨k+1,acs,by go_num,qh HX.out HNO.out hp,hbel.trans (hb1.mono hbel.size)⟩
    case measure=>simp[intOf];omega
   .have hp':=hp;simp only[gF,bo.d,aT]at hp';rw[hp'];clear hp'
    go_wp2_with fail
    go_ret
    exact⟨k,rfl,by rw[abf.2 ⟨x,HM.out,hp⟩];simp,hbel.trans (hb1.mono hbel.size)⟩
  .go_wp2_with fail
   go_ret
   exact⟨-1,rfl,by rw[qi acs HNO.out];rfl,hbel⟩
theorem WJ  (A:lc)(c:Nat)(l:List bo)(w:World)(hS:Sl w w.heap.size 5 A l.length c (l.flatMap bo.cells))(hf:∀x∈l,x.reads.length<=100/\x.writes.length<=100)(hn:l.length<=4000) :
  Calls Try.prog 75 #[.slice A l.length c,.func (.func 86) #[] #[]] w fun e w'=>e=.returned (.bool (l.any (fun x=>gF x.d)))/\Below w.heap.size w w':=by
 go_enter Try.func75,Try.ntmps75
 go_wp2_with fail
 refine(Wx  A c l w hS hf hn).mono ?_;rintro e w1 ⟨i,rfl,hi,hb1⟩;have HI:=Lib.hid hi;clear hi
 go_wp2_with fail
 go_ret
 exact⟨by rw[HI.out];rfl,hb1⟩
theorem WW  (A:lc)(c:Nat)(l:List d9)(w:World)(hS:Sl w w.heap.size 3 A l.length c (l.flatMap d9.cells))(hn:l.length<=4000) :
  Calls Try.prog 92 #[.slice A l.length c,.func (.func 78) #[] #[]] w (rN (l.any jb) w):=by
 go_enter Try.func92,Try.ntmps92
 go_wp2_with fail
 go_loopw [8] (fun i wr=>∃k:Nat,k<=l.length/\i=.int .i64 k/\(l.take k).any jb=false/\Below w.heap.size w wr) (fun i _=>l.length-(intOf i).toNat)
 case atStart=>exact⟨0,Fn _,rfl,rfl,Below.refl _ _⟩
 case round=>
  obtain⟨k,hk,rfl,hno,hbel⟩:=hrel;have HNO:=Lib.hid hno;clear hno;by_cases hlt:k<l.length
  .obtain⟨b,off,x,rfl,hb,hx,hm,hcs⟩:=(hS.below hbel).elem acs (fun _=>rfl) hlt;obtain⟨hc0,hc1,hc2⟩:=d9.at_ hcs;have HX:=Lib.hid hx;have HM:=Lib.hid hm;clear hcs hx hm
   go_wp2_with fail
   refine(S1 x wr).mono ?_;rintro e w1 ⟨rfl,hb1⟩;rcases hp:jb x with _|_
   .have hp':=hp;clear hp'
    go_wp2_with fail
    go_roundw
    case rel=>exact⟨k+1,acs,by go_num,qh HX.out HNO.out hp,hbel.trans (hb1.mono hbel.size)⟩
    case measure=>simp[intOf];omega
   .have hp':=hp;clear hp'
    go_wp2_with fail
    go_ret
    exact⟨k,rfl,by rw[abf.2 ⟨x,HM.out,hp⟩];simp,hbel.trans (hb1.mono hbel.size)⟩
  .go_wp2_with fail
   go_ret
   exact⟨-1,rfl,by rw[qi acs HNO.out];rfl,hbel⟩
theorem W8  (A:lc)(c:Nat)(l:List d9)(w:World)(hS:Sl w w.heap.size 3 A l.length c (l.flatMap d9.cells))(hn:l.length<=4000) :
  Calls Try.prog 77 #[.slice A l.length c,.func (.func 78) #[] #[]] w fun e w'=>e=.returned (.bool (l.any jb))/\Below w.heap.size w w':=by
 go_enter Try.func77,Try.ntmps77
 go_wp2_with fail
 refine(WW  A c l w hS hn).mono ?_;rintro e w1 ⟨i,rfl,hi,hb1⟩;have HI:=Lib.hid hi;clear hi
 go_wp2_with fail
 go_ret
 exact⟨by rw[HI.out];rfl,hb1⟩
theorem TE(m:bo)(w:World)(hm:m.bT w w.heap.size)(h1:m.reads.length<=4000)(h2:m.writes.length<=4000) :
  Calls Try.prog 76 #[m.v] w fun e w'=>e=.returned (.bool (fS m.d))/\Below w.heap.size w w':=by
 have hW:fS m.d=(decide (m.addr<1\/62<m.addr\/m.word<1\/64<m.word)||m.reads.any (fun x=>jX m.d x.d)||m.writes.any (fun x=>jE m.d x.d)):=by unfold fS;rw[show m.d.reads=m.reads.map de.d from rfl,show m.d.writes=m.writes.map eI.d from rfl,List.any_map,List.any_map];rfl
 have HW:=Lib.hid hW;clear hW;have hm2:m.bT (w.alloc (.cells m.cells.toArray 73)) w.heap.size:=hm.aH fun p hp=>World.cell?_alloc_lt w _ p hp;have HM:=Lib.hid hm2;have HG:=Lib.hid (av.new w 73 m.cells.toArray);clear hm hm2;unfold bo.v;rcases(show m.addr<1\/(¬m.addr<1/\62<m.addr)\/(¬m.addr<1/\¬62<m.addr/\m.word<1)\/(¬m.addr<1/\¬62<m.addr/\¬m.word<1/\64<m.word)\/(¬m.addr<1/\¬62<m.addr/\¬m.word<1/\¬64<m.word)from by omega)with a1|⟨a1,a2⟩|⟨a1,a2,a3⟩|⟨a1,a2,a3,a4⟩|⟨a1,a2,a3,a4⟩
 iterate 4
  .go_enter Try.func76,Try.ntmps76
   go_wp2_with fail
   go_ret
   exact⟨by rw[HW.out];rw[gO acs];rfl,(Below.refl _ _).alloc (ol _) _⟩
 .go_enter Try.func76,Try.ntmps76
  go_wp2_with fail
  refine(W7 m w.heap.size m.A m.c m.reads _ (HM.out.rd.more acv) HG.out h1).mono ?_;rintro e w1 ⟨rfl,hb1⟩;have hsz:w.heap.size<w1.heap.size:=by have:=hb1.size;simp at this;omega
  have hc4:w1.cell? ⟨w.heap.size,4,none⟩=some (.slice m.A2 m.writes.length m.c2):=(HG.out.below hb1 acv).cell 4;have HG1:=Lib.hid (HG.out.below hb1 acv);have hb0:Below w.heap.size w w1:=((Below.refl _ _).alloc (ol _) _).trans (hb1.mono acv);have HM1:=Lib.hid (HM.out.below (hb1.mono acv));clear hb1;rcases hp:m.reads.any (fun x=>jX m.d x.d)with _|_
  .rw[hp]at HW;clear hp
   go_wp2_with fail
   refine(WI m w.heap.size m.A2 m.c2 m.writes _ (HM1.out.wr.more acs) HG1.out h2).mono ?_;rintro e w2 ⟨rfl,hb2⟩
   go_wp2_with fail
   go_ret
   exact⟨by rw[HW.out,iK acs];rfl,hb0.trans (hb2.mono acs)⟩
  .rw[hp]at HW;clear hp
   go_wp2_with fail
   go_ret
   exact⟨by rw[HW.out];simp,hb0⟩
theorem WS  (A:lc)(c:Nat)(l:List bo)(w:World)(hS:Sl w w.heap.size 5 A l.length c (l.flatMap bo.cells))(hf:∀x∈l,x.bT w w.heap.size/\x.reads.length<=100/\x.writes.length<=100)(hn:l.length<=4000) :
  Calls Try.prog 87 #[.slice A l.length c,.func (.func 76) #[] #[]] w (rN (l.any (fun x=>fS x.d)) w):=by
 go_enter Try.func87,Try.ntmps87
 go_wp2_with fail
 go_loopw [8] (fun i wr=>∃k:Nat,k<=l.length/\i=.int .i64 k/\(l.take k).any (fun x=>fS x.d)=false/\Below w.heap.size w wr) (fun i _=>l.length-(intOf i).toNat)
 case atStart=>exact⟨0,Fn _,rfl,rfl,Below.refl _ _⟩
 case round=>
  obtain⟨k,hk,rfl,hno,hbel⟩:=hrel;have HNO:=Lib.hid hno;clear hno;by_cases hlt:k<l.length
  .obtain⟨b,off,x,rfl,hb,hx,hm,hcs⟩:=(hS.below hbel).elem acs (fun _=>rfl) hlt;obtain⟨hc0,hc1,hc2,hc3,hc4⟩:=bo.at_ hcs;have HX:=Lib.hid hx;have HM:=Lib.hid hm;clear hcs hx hm
   go_wp2_with fail
   refine(TE x wr (((hf x HM.out).1.below hbel).more hbel.size) (by have:=(hf x HM.out).2.1;omega) (by have:=(hf x HM.out).2.2;omega)).mono ?_;rintro e w1 ⟨rfl,hb1⟩;rcases hp:(fun x=>fS x.d) x with _|_
   .have hp':=hp;clear hp'
    go_wp2_with fail
    go_roundw
    case rel=>exact⟨k+1,acs,by go_num,qh HX.out HNO.out hp,hbel.trans (hb1.mono hbel.size)⟩
    case measure=>simp[intOf];omega
   .have hp':=hp;clear hp'
    go_wp2_with fail
    go_ret
    exact⟨k,rfl,by rw[abf.2 ⟨x,HM.out,hp⟩];simp,hbel.trans (hb1.mono hbel.size)⟩
  .go_wp2_with fail
   go_ret
   exact⟨-1,rfl,by rw[qi acs HNO.out];rfl,hbel⟩
theorem W6  (A:lc)(c:Nat)(l:List bo)(w:World)(hS:Sl w w.heap.size 5 A l.length c (l.flatMap bo.cells))(hf:∀x∈l,x.bT w w.heap.size/\x.reads.length<=100/\x.writes.length<=100)(hn:l.length<=4000) :
  Calls Try.prog 75 #[.slice A l.length c,.func (.func 76) #[] #[]] w fun e w'=>e=.returned (.bool (l.any (fun x=>fS x.d)))/\Below w.heap.size w w':=by
 go_enter Try.func75,Try.ntmps75
 go_wp2_with fail
 refine(WS  A c l w hS hf hn).mono ?_;rintro e w1 ⟨i,rfl,hi,hb1⟩;have HI:=Lib.hid hi;clear hi
 go_wp2_with fail
 go_ret
 exact⟨by rw[HI.out];rfl,hb1⟩
theorem Hz(x:Int)(w:World):Calls Try.prog 85 #[.int .i64 x] w fun e w'=>e=.returned (.bool (decide (2000<x)))/\w=w':=by
 go_enter Try.func85,Try.ntmps85
 go_wp2
 go_ret
 exact⟨rfl,rfl⟩
set_option maxHeartbeats 4000000
theorem Xi(n:aX)(w:World)(hn:n.bT w w.heap.size)(ft:Fit n.d) :
  Calls Try.prog 74 #[n.v] w fun e w'=>e=.returned (.bool (gD n.d))/\Below w.heap.size w w':=by
 have hn2:n.bT (w.alloc (.cells n.fs 27)) w.heap.size:=hn.aH fun p hp=>World.cell?_alloc_lt w _ p hp;have HN:=Lib.hid hn2;have HE:Hid (gD n.d=(decide (n.d.vars<0\/2000<n.d.vars\/2000<n.d.bk.length\/2000<n.d.az.length\/2000<n.d.ai.length\/1000<n.d.bL.length+n.d.bP.length+n.d.constraints.length\/4<n.d.aa.length)||n.d.aa.any gF)):=rfl;have hpf:∀x∈n.aa,x.reads.length<=100/\x.writes.length<=100:=fun x hx=>by have h:=ft.aa.2 x.d (UV hx);have h1:=h.kR;have h2:=h.n8;simp only[bo.d,aT]at h1 h2;exact⟨h1,h2⟩
 have HPF:=Lib.hid hpf;have hml:n.aa.length<=100:=by have:=ft.aa.1;simpa[aX.d]using this
 have hpa:n.d.aa.any gF=n.aa.any (fun x=>gF x.d):=by show(n.aa.map bo.d).any gF=_;rw[List.any_map];rfl
 rw[hpa]at HE;have hl1:n.bk.length<=4000:=ft.ins.1;have hl2:n.az.length<=4000:=ft.aw.1;have hl3:n.ai.length<=4000:=ft.ai.1;have hl4:n.bL.length<=4000:=ft.out.1;have hl5:n.bP.length<=4000:=ft.bad.1;have hl6:n.constraints.length<=4000:=ft.kO.1;clear hn hn2 hpa hpf ft;obtain⟨z,hz⟩:∃z,z=gD n.d:=⟨_,rfl⟩;rw[<-hz]at HE |-;clear hz;unfold aX.v aX.fs;simp only[aX.d,aT]at HE;rcases(show n.vars<0\/(¬n.vars<0/\2000<n.vars)\/(¬n.vars<0/\¬2000<n.vars/\(2000:Int)<n.bk.length)\/(¬n.vars<0/\¬2000<n.vars/\¬(2000:Int)<n.bk.length/\(2000:Int)<n.az.length)\/(¬n.vars<0/\¬2000<n.vars/\¬(2000:Int)<n.bk.length/\¬(2000:Int)<n.az.length/\(2000:Int)<n.ai.length)\/(¬n.vars<0/\¬2000<n.vars/\¬(2000:Int)<n.bk.length/\¬(2000:Int)<n.az.length/\¬(2000:Int)<n.ai.length)from by omega)with a1|⟨a1,a2⟩|⟨a1,a2,a3⟩|⟨a1,a2,a3,a4⟩|⟨a1,a2,a3,a4,a5⟩|⟨a1,a2,a3,a4,a5⟩
 iterate 5
  .go_enter Try.func74,Try.ntmps74
   go_wp2_with (go_at_call 85;refine(Hz _ _).mono ?_;rintro e w' ⟨rfl,rfl⟩)
   go_ret
   refine⟨lK ?_,(Below.refl _ _).alloc (ol _) _⟩;rw[HE.out,gO acs];rfl
 .rcases(show(1000:Int)<n.bL.length+n.bP.length+n.constraints.length\/(¬(1000:Int)<n.bL.length+n.bP.length+n.constraints.length/\(4:Int)<n.aa.length)\/(¬(1000:Int)<n.bL.length+n.bP.length+n.constraints.length/\¬(4:Int)<n.aa.length)from by omega)with b1|⟨b1,b2⟩|⟨b1,b2⟩
  iterate 2
   .go_enter Try.func74,Try.ntmps74
    go_wp2_with (go_at_call 85;refine(Hz _ _).mono ?_;rintro e w' ⟨rfl,rfl⟩)
    go_ret
    refine⟨lK ?_,(Below.refl _ _).alloc (ol _) _⟩;rw[HE.out,gO acs];rfl
  .go_enter Try.func74,Try.ntmps74
   go_wp2_with (first|(go_at_call 85;refine(Hz _ _).mono ?_;rintro e w' ⟨rfl,rfl⟩)|(go_at_call 75;refine(WJ n.Am n.cm n.aa _ (HN.out.mem.more acv) HPF.out acs).mono ?_;rintro e w1 ⟨rfl,hb1⟩))
   go_ret
   refine⟨lK ?_,((Below.refl _ _).alloc (ol _) _).trans (hb1.mono acv)⟩;rw[HE.out,iK acs];rfl
open Go.Shelf
attribute [local go_sem] Oper.semAt_some
structure fh(aet B:Nat)(W W':World):Prop where
 below:Below aet W W'
 fw:∀(i:Nat) (o:Obj),B<=i->W.heap[i]?=some o->o.isCells=true->W'.heap[i]?=some o
theorem fh.refl(aet B:Nat)(W:World):fh aet B W W:=⟨Below.refl _ _,fun _ _ _ h _=>h⟩
variable{aet:Nat}
theorem fh.trans{B:Nat}{A C D:World}(h:fh aet B A C)(k:fh aet B C D):fh aet B A D:=⟨h.below.trans k.below,fun i o hi hA ho=>k.fw i o hi (h.fw i o hi hA ho) ho⟩
variable{W:World}{W':World}
theorem fh.alloc{B:Nat}(h:fh aet B W W')(hn:aet<=W'.heap.size)(o:Obj):fh aet B W (W'.alloc o):=⟨h.below.alloc hn o,fun i o' hi hW ho=>by have h1:=h.fw i o' hi hW ho;exact(Below.heap_alloc W' o i (abB.1 h1).1).trans h1⟩
theorem fh.setCell{B:Nat}(h:fh aet B W W'){p:Addr}(h1:aet<=p.block)(h2:p.block<B)(v:Value):fh aet B W (W'.setCell p v):=⟨h.below.setCell h1 v,fun i o' hi hW ho=>(Below.heap_setCell W' p v i acs).trans (h.fw i o' hi hW ho)⟩
theorem VQ{B:Nat}{w:World}(hn:aet<=w.heap.size)(W:World)(l:Nat)(o o':Obj)(hl:w.heap.size<=l)(h:W.heap[l]?=some o)(hc:o.isCells=false)(hw:o.isWalk=false):fh aet B W (W.putObj l o'):=
 ⟨belowK_b hn W l o o' hl h hc hw,fun i o2 hi hW ho=>by
  by_cases e:i=l
  .subst e
   grind
  .exact(World.putObj_heap_other acs).trans hW⟩
variable{g:Nat}{t:TypeId}
theorem av.tZ{B:Nat}{cs:Array Value}(h:av W g t cs)(k:fh aet B W W')(hg:B<=g):av W' g t cs:=k.fw g _ hg h rfl
/- the variables in their order, as fw as they have come -/
def v2(N:aX)(k:Nat):io:=N.bk++(N.az.take k).map (·.var)
def nB(m:bo):io:=m.reads.flatMap fun r=>cA r.var m.word.toNat
def v3(N:aX)(k:Nat):io:=N.bk++N.az.map (·.var)++(N.aa.take k).flatMap nB
def v4(N:aX)(k:Nat)(m:bo)(j:Nat):io:=v3 N k++(m.reads.take j).flatMap fun r=>cA r.var m.word.toNat
def v5(N:aX)(k:Nat)(m:bo)(j:Nat)(r:de)(i:Nat):io:=v4 N k m j++cA r.var i
def v6(N:aX)(k:Nat):io:=N.bk++N.az.map (·.var)++N.aa.flatMap nB++(N.ai.take k).map (·.var)
theorem Vg(m:bo):fv m.d=nB m:=by unfold fv nB bo.d;rw[abe];rfl
theorem tH(N:aX):cL N.d=N.bk++N.az.map (·.var)++N.aa.flatMap nB++N.ai.map (·.var):=by unfold cL aX.d;simp only;rw[abe];congr 2;exact abp (fun f=>N.aa.flatMap f) (funext Vg)
theorem GN(v:Int)(i:Nat):cA v (i+1)=cA v i++[v+(i:Int)]:=by simp[cA,aby]
theorem Yg(v:Int){i j:Nat}(h:i<=j):cA v i <+: cA v j:=by
 obtain⟨d,rfl⟩:=Nat.le.dest h
 induction d with|zero=>exact List.prefix_refl _|succ d ih=>rw[<-aaZ,GN];grind
variable{β:Type}
theorem Qi(f:α->List β)(l:List α)(k:Nat){x:α}(h:l[k]?=some x):(l.take k).flatMap f++f x <+: l.flatMap f:=by
 have:(l.take (k+1)).flatMap f=(l.take k).flatMap f++f x:=by rw[dn h];simp
 rw[<-this]
 conv=>rhs;rw[<-EQ (k+1) l]
 grind
theorem qj(f:α->List β){k:Nat}{x:α}(h:l[k]?=some x):(l.take (k+1)).flatMap f=(l.take k).flatMap f++f x:=by rw[dn h];simp
theorem mG{a b c:List α}(h:b <+: c):a++b <+: a++c:=(List.prefix_append_right_inj a).2 h
section
variable{N:aX}{k j i:Nat}
theorem Vt{x:Int}(h:N.bk[k]?=some x):N.bk.take k++[x] <+: cL N.d:=by
 rw[tH,<-dn h,bJ,bJ]
 grind
theorem La{x:d9}(h:N.az[k]?=some x):v2 N (k+1)=v2 N k++[x.var]:=by unfold v2;rw[dn h];simp
theorem Vu{x:d9}(h:N.az[k]?=some x):v2 N k++[x.var] <+: cL N.d:=by rw[tH,<-La h,bJ];refine abq ?_ (abk _ _);exact mG (List.IsPrefix.map _ (List.take_prefix _ _))
theorem Wf(h:N.aa[k]?=some m):v3 N k++nB m <+: cL N.d:=by rw[tH];refine abq ?_ (abk _ _);unfold v3;rw[bJ];exact mG (Qi nB _ _ h)
theorem Vv(h:N.aa[k]?=some m)(h2:m.reads[j]?=some r)(hi:i<m.word.toNat):v5 N k m j r i++[r.var+(i:Int)] <+: cL N.d:=by refine abq ?_ (Wf h);unfold v5 v4;rw[bJ,bJ,<-GN];refine mG (abq (mG (Yg _ (show i+1<=m.word.toNat by omega))) ?_);exact Qi (fun r:de=>cA r.var m.word.toNat) _ _ h2
theorem UD:v5 N k m j r (i+1)=v5 N k m j r i++[r.var+(i:Int)]:=by unfold v5;rw[GN,bJ]
theorem UE:v5 N k m j r 0=v4 N k m j:=by simp[v5,cA]
theorem UC(h2:m.reads[j]?=some r):v5 N k m j r m.word.toNat=v4 N k m (j+1):=by unfold v5 v4;rw[qj _ h2,bJ]
theorem XD:v4 N k m 0=v3 N k:=by simp[v4]
theorem XE(h:N.aa[k]?=some m)(hj:m.reads.length<=j):v4 N k m j=v3 N (k+1):=by unfold v4 v3;rw[qj _ h,By hj];simp[nB]
theorem XG(hk:N.aa.length<=k):v3 N k=v6 N 0:=by unfold v3 v6;rw[By hk];simp
theorem XF(hk:N.az.length<=k):v2 N k=v3 N 0:=by unfold v2 v3;rw[By hk];simp
theorem UB(hk:N.bk.length<=k):N.bk.take k=v2 N 0:=by unfold v2;rw[By hk];simp
theorem K9{x:fe}(h:N.ai[k]?=some x):v6 N (k+1)=v6 N k++[x.var]:=by unfold v6;rw[dn h];simp
theorem Vw{x:fe}(h:N.ai[k]?=some x):v6 N k++[x.var] <+: cL N.d:=by rw[tH,<-K9 h];exact mG (List.IsPrefix.map _ (List.take_prefix _ _))
theorem XC(hk:N.ai.length<=k):v6 N k=cL N.d:=by rw[tH];unfold v6;rw[By hk]
end
variable{x:Int}{D:io}{pre:io}
theorem zD(h:pre++[x] <+: D):pre.length<D.length:=by grind
set_option maxRecDepth 100000
theorem TB(F:Fence)(n:Nat)(hF:F.fn 100)(hro:F.round=none)(hn:1<=n)(l Bx aet B:Nat)(N:aX)(J Jx:io->World->Prop)(W:World)
  (hJ:∀(s:io) (A:World) (o:Obj),J s A->J s (A.alloc o))
  (hY:∀pre x W1,J pre W1->pre.length<(cL N.d).length->YieldAt F (n-1) Try.prog l #[.int .i64 x] W1 fun e W'=>(e=.returned (.bool true)/\J (pre++[x]) W'/\fh aet B W1 W')\/(e=.returned (.bool false)/\Jx (pre++[x]) W'))
  (hBx:av W Bx 27 N.fs) (hBl:B<=Bx) (bM:N.bT W aet) (hn0:aet<=W.heap.size) (hBW:B<=W.heap.size) (h0:J [] W) (ft:Fit N.d) :
  CallsIn F n Try.prog 100 #[.func (.yield l) #[] #[],.pointer (some ⟨Bx,0,none⟩)] W fun e W'=>(∃v,e=.returned v) /\
   ((∃ys,ys=cL N.d/\J ys W')\/(∃pre,pre <+: cL N.d/\Jx pre W')):=by
 have HJ:=Lib.hid hJ;have HY:=Lib.hid hY;have HB:=Lib.hid hBx;have HOK:=Lib.hid bM;have hl1:N.bk.length<=4000:=ft.ins.1;have hl2:N.az.length<=4000:=ft.aw.1;have hl3:N.ai.length<=4000:=ft.ai.1;have hl4:N.aa.length<=100:=by have:=ft.aa.1;simpa[aX.d]using this
 have HMF:=Lib.hid (ft.aa.2);have hf1:W.cell? ⟨Bx,1,none⟩=some (.slice N.Ai N.bk.length N.ci):=hBx.cell 1;clear hJ hY bM ft hBx;refine callsIn_of_wp Try.func100 rfl hF ?_ hro;simp only[Try.ntmps100,List.size_toArray,cq,BT,Nat.reduceAdd,Nat.reduceSub,Array.replicate_succ,Array.replicate_zero,List.push_toArray,List.append_toArray,LT,PP]
 gi_wp2
 gi_loopw [17] (fun i wr=>∃k:Nat,k<=N.bk.length/\i=.int .i64 k/\J (N.bk.take k) wr/\fh aet B W wr) (fun i _=>N.bk.length-(intOf i).toNat)
 case atStart=>exact⟨0,Fn _,rfl,by simpa using h0,fh.refl _ _ _⟩
 case round=>
  obtain⟨k,hk,rfl,hJs,hkp⟩:=hrel;by_cases hlt:k<N.bk.length
  .obtain⟨b,off,x,e1,hb,hx,hm,hc⟩:=(HOK.out.below hkp.below).ins.pE hlt;have hp:=Vt hx;obtain⟨fn,tmps,assign,body,hy,hR⟩:=HY.out (N.bk.take k) x wr hJs (zD hp);have HX:=Lib.hid hx;have HP:=Lib.hid hp;have HE1:=Lib.hid e1;clear hx hp hm;rw[e1];clear e1
   gi_wp2
   refine hR.mono ?_;rintro e W3 (⟨rfl,hJ3,hk3⟩|⟨rfl,hJx3⟩)
   .gi_wp2
    go_roundw
    case rel=>exact⟨k+1,acs,acv,by rw[dn HX.out];exact hJ3,hkp.trans hk3⟩
    case measure=>simp[intOf];omega
   .gi_wp2
    refine bodyPost_ret (results_none rfl _ _ _) rfl ?_;exact⟨⟨_,rfl⟩,.inr ⟨_,HP.out,hJx3⟩⟩
  .rw[UB acs]at hJs;have hf2:wr.cell? ⟨Bx,2,none⟩=some (.slice N.Al N.az.length N.cl):=(HB.out.tZ hkp hBl).cell 2
   gi_wp2
   obtain⟨w1,rfl⟩:∃w1:World,w1=wr:=⟨_,rfl⟩;clear hf2 hlt hk
   gi_loopw [29] (fun i wr=>∃k:Nat,k<=N.az.length/\i=.int .i64 k/\J (v2 N k) wr/\fh aet B W wr) (fun i _=>N.az.length-(intOf i).toNat)
   case atStart=>exact⟨0,Fn _,rfl,hJs,hkp⟩
   case round=>
    clear hJs hkp;obtain⟨k,hk,rfl,hJs,hkp⟩:=hrel;have hsz:=hkp.below.size;by_cases hlt:k<N.az.length
    .obtain⟨b,off,x,e1,hb,hx,hm,hcs⟩:=(HOK.out.below hkp.below).aw.elem acs (fun _=>rfl) hlt;obtain⟨hc0,hc1,hc2⟩:=d9.at_ hcs;have hp:=Vu hx;obtain⟨fn,tmps,assign,body,hy,hR⟩:=HY.out (v2 N k) x.var (wr.alloc (.cells #[.int .i64 x.var,.int .i64 x.next,.int .i64 x.init] 45)) (HJ.out _ _ _ hJs) (zD hp);have HX:=Lib.hid hx;have HP:=Lib.hid hp;clear hx hp hm hcs;rw[e1];clear e1
     gi_wp2
     refine hR.mono ?_;rintro e W3 (⟨rfl,hJ3,hk3⟩|⟨rfl,hJx3⟩)
     .gi_wp2
      go_roundw
      case rel=>exact⟨k+1,acs,acv,by rw[La HX.out];exact hJ3,(hkp.alloc acs _).trans hk3⟩
      case measure=>simp[intOf];omega
     .gi_wp2
      refine bodyPost_ret (results_none rfl _ _ _) rfl ?_;exact⟨⟨_,rfl⟩,.inr ⟨_,HP.out,hJx3⟩⟩
    .rw[XF acs]at hJs;have hf3:wr.cell? ⟨Bx,6,none⟩=some (.slice N.Am N.aa.length N.cm):=(HB.out.tZ hkp hBl).cell 6
     gi_wp2
     obtain⟨w2,rfl⟩:∃w2:World,w2=wr:=⟨_,rfl⟩;clear hf3 hlt hk hsz
     gi_loopw [42] (fun i wr=>∃k:Nat,k<=N.aa.length/\i=.int .i64 k/\J (v3 N k) wr/\fh aet B W wr) (fun i _=>N.aa.length-(intOf i).toNat)
     case atStart=>exact⟨0,Fn _,rfl,hJs,hkp⟩
     case round=>
      clear hJs hkp;obtain⟨k,hk,rfl,hJs,hkp⟩:=hrel;have hsz:=hkp.below.size;by_cases hlt:k<N.aa.length
      .obtain⟨b,off,m,e1,hb,hx,hm,hcs⟩:=(HOK.out.below hkp.below).mem.elem acs (fun _=>rfl) hlt;obtain⟨hc0,hc1,hc2,hc3,hc4⟩:=bo.at_ hcs;have HX:=Lib.hid hx;have HM:=Lib.hid (HOK.out.ua m hm);have hfm:=HMF.out m.d (UV hm);have hrn:m.reads.length<=100:=by have:=hfm.kR;simpa[bo.d]using this
       have hw1:m.word<=4000:=hfm.word.2;have hw0:-9223372036854775808<=m.word:=hfm.word.1.1;have HRF:=Lib.hid hfm.gG;clear hx hm hcs hfm;rw[e1];clear e1
       gi_wp2
       obtain⟨c,hc⟩:∃c,c=wr.heap.size:=⟨_,rfl⟩;have hkp2:=hkp.alloc (show aet<=wr.heap.size by omega) (.cells m.cells.toArray 73);have hJ2:=HJ.out _ _ (.cells m.cells.toArray 73) hJs;have hbk:=av.new wr 73 m.cells.toArray;have hcB:B<=c:=acs
       rw[<-hc]at hbk |-;rw[<-XD (m:=m)]at hJ2;clear hc hJs hkp hc0 hc1 hc2 hc3 hc4;change Code.wpIn _ _ _ _ _ _ (wr.alloc (.cells m.cells.toArray 73));obtain⟨w3,hw3⟩:∃w3:World,w3=wr.alloc (.cells m.cells.toArray 73):=⟨_,rfl⟩;rw[<-hw3]at hkp2 hJ2 hbk |-;clear hw3 hsz
       gi_loopw [49] (fun i wr=>∃j:Nat,j<=m.reads.length/\i=.int .i64 j/\J (v4 N k m j) wr/\fh aet B W wr/\av wr c 73 m.cells.toArray) (fun i _=>m.reads.length-(intOf i).toNat)
       case atStart=>exact⟨0,Fn _,rfl,hJ2,hkp2,hbk⟩
       case round=>
        clear hJ2 hkp2 hbk;obtain⟨j,hj,rfl,hJs,hkp,hbk⟩:=hrel;have hsz:=hkp.below.size;by_cases hlt2:j<m.reads.length
        .obtain⟨b2,off2,r,e1,hb2,hx2,hm2,hcs⟩:=(HM.out.below hkp.below).rd.elem acs (fun _=>rfl) hlt2;obtain⟨hc0,hc1⟩:=de.at_ hcs;have HX2:=Lib.hid hx2;obtain⟨_,hv1,hv2,_⟩:=HRF.out r.d (UV hm2);change -1099511627776<=r.var at hv1;change r.var<=1099511627776 at hv2;have hcw:wr.cell? ⟨c,1,none⟩=some (.int .i64 m.word):=hbk.cell 1;have hcl:c<wr.heap.size:=hbk.lt;clear hx2 hm2 hcs;rw[e1];clear e1
         gi_wp2
         obtain⟨d,hd⟩:∃d,d=wr.heap.size:=⟨_,rfl⟩;have hkp2:=hkp.alloc (show aet<=wr.heap.size by omega) (.cells r.cells.toArray 77);have hJ2:=HJ.out _ _ (.cells r.cells.toArray 77) hJs;have hbk2:=av.new wr 77 r.cells.toArray;have hbk1:=hbk.alloc (.cells r.cells.toArray 77);have hdB:B<=d:=acs
         rw[<-hd]at hbk2 |-;rw[<-UE (r:=r)]at hJ2;clear hd hJs hkp hbk hc0 hc1 hcw;change Code.wpIn _ _ _ _ _ _ (wr.alloc (.cells r.cells.toArray 77));obtain⟨w4,hw4⟩:∃w4:World,w4=wr.alloc (.cells r.cells.toArray 77):=⟨_,rfl⟩;rw[<-hw4]at hkp2 hJ2 hbk2 hbk1 |-;clear hw4 hsz hcl
         gi_loopw [55] (fun i wr=>∃q:Nat,q<=m.word.toNat/\i=.int .i64 q/\J (v5 N k m j r q) wr/\fh aet B W wr/\av wr c 73 m.cells.toArray/\av wr d 77 r.cells.toArray) (fun i _=>m.word.toNat-(intOf i).toNat)
         case atStart=>exact⟨0,Fn _,rfl,hJ2,hkp2,hbk1,hbk2⟩
         case round=>
          clear hJ2 hkp2 hbk1 hbk2;obtain⟨q,hq,rfl,hJs,hkp,hbk1,hbk2⟩:=hrel;by_cases hlt3:(q:Int)<m.word
          .have hp:=Vv (i:=q) HX.out HX2.out acs;obtain⟨fn,tmps,assign,body,hy,hR⟩:=HY.out (v5 N k m j r q) (r.var+(q:Int)) wr hJs (zD hp);have HP:=Lib.hid hp;have hcv:wr.cell? ⟨d,0,none⟩=some (.int .i64 r.var):=hbk2.cell 0;clear hp
           gi_wp2
           refine hR.mono ?_;rintro e W3 (⟨rfl,hJ3,hk3⟩|⟨rfl,hJx3⟩)
           .gi_wp2
            go_roundw
            case rel=>exact⟨q+1,acs,acv,by rw[UD];exact hJ3,hkp.trans hk3,hbk1.tZ hk3 hcB,hbk2.tZ hk3 hdB⟩
            case measure=>simp[intOf];omega
           .gi_wp2
            refine bodyPost_ret (results_none rfl _ _ _) rfl ?_;exact⟨⟨_,rfl⟩,.inr ⟨_,HP.out,hJx3⟩⟩
          .obtain rfl:q=m.word.toNat:=acs
           rw[UC HX2.out]at hJs
           gi_wp2
           go_roundw
           case rel=>exact⟨j+1,acs,acv,hJs,hkp,hbk1⟩
           case measure=>simp[intOf];omega
        .rw[XE HX.out acs]at hJs
         gi_wp2
         go_roundw
         case rel=>exact⟨k+1,acs,acv,hJs,hkp⟩
         case measure=>simp[intOf];omega
      .rw[XG acs]at hJs;have hf4:wr.cell? ⟨Bx,7,none⟩=some (.slice N.An N.ai.length N.cn):=(HB.out.tZ hkp hBl).cell 7
       gi_wp2
       obtain⟨w3,rfl⟩:∃w3:World,w3=wr:=⟨_,rfl⟩;clear hf4 hlt hk hsz
       gi_loopw [71] (fun i wr=>∃k:Nat,k<=N.ai.length/\i=.int .i64 k/\J (v6 N k) wr/\fh aet B W wr) (fun i _=>N.ai.length-(intOf i).toNat)
       case atStart=>exact⟨0,Fn _,rfl,hJs,hkp⟩
       case round=>
        clear hJs hkp;obtain⟨k,hk,rfl,hJs,hkp⟩:=hrel;have hsz:=hkp.below.size;by_cases hlt:k<N.ai.length
        .obtain⟨b,off,x,e1,hb,hx,hm,hcs⟩:=(HOK.out.below hkp.below).and.elem acs (fun _=>rfl) hlt;obtain⟨hc0,hc1,hc2⟩:=fe.at_ hcs;have hp:=Vw hx;obtain⟨fn,tmps,assign,body,hy,hR⟩:=HY.out (v6 N k) x.var (wr.alloc (.cells #[.int .i64 x.var,.int .i64 x.a,.int .i64 x.b] 75)) (HJ.out _ _ _ hJs) (zD hp);have HX:=Lib.hid hx;have HP:=Lib.hid hp;clear hx hp hm hcs;rw[e1];clear e1
         gi_wp2
         refine hR.mono ?_;rintro e W3 (⟨rfl,hJ3,hk3⟩|⟨rfl,hJx3⟩)
         .gi_wp2
          go_roundw
          case rel=>exact⟨k+1,acs,acv,by rw[K9 HX.out];exact hJ3,(hkp.alloc acs _).trans hk3⟩
          case measure=>simp[intOf];omega
         .gi_wp2
          refine bodyPost_ret (results_none rfl _ _ _) rfl ?_;exact⟨⟨_,rfl⟩,.inr ⟨_,HP.out,hJx3⟩⟩
        .rw[XC acs]at hJs
         gi_wp2
         go_end0
         exact⟨⟨_,rfl⟩,.inl ⟨_,rfl,hJs⟩⟩
theorem Xc(F:Fence)(n:Nat)(hF:F.fn 100)(hro:F.round=none)(hn:1<=n)(Bx aet B:Nat)(N:aX)(w:World)
  (hBx:av w Bx 27 N.fs) (hBl:B<=Bx) (bM:N.bT w aet) (hn0:aet<=w.heap.size) (ft:Fit N.d) :
  SeqStopsK F n Try.prog 100 #[.pointer (some ⟨Bx,0,none⟩)] (fun x:Int=>#[Value.int .i64 x]) (fh aet B) (fun ys=>ys=cL N.d) (fun pre=>pre <+: cL N.d) (cL N.d).length w:=
 fun l J Jx W hW hJ _ hY h0=>TB F n hF hro hn l Bx aet B N J Jx W (fun s A o h=>hJ s A _ none h (World.grownBy_alloc A o none) (fun r e=>by cases e)) hY (hBx.below hW hBx.lt) hBl (bM.below (hW.mono hn0)) (pp hn0 hW.size) (pp (Nat.le_of_lt (Nat.lt_of_le_of_lt hBl hBx.lt)) hW.size) h0 ft
theorem UG(F:Fence)(n:Nat)(hF:F.fn 93)(hro:F.round=none)(N:aX)(w:World) :
  CallsIn F n Try.prog 93 #[N.v] w fun e w'=>e=.returned (.func (.func 100) #[] #[.pointer (some ⟨w.heap.size,0,none⟩)])/\w'=w.alloc (.cells N.fs 27):=by
 unfold aX.v aX.fs;refine callsIn_of_wp Try.func93 rfl hF ?_ hro;simp only[Try.ntmps93,List.size_toArray,cq,BT,Nat.reduceAdd,Nat.reduceSub,Array.replicate_succ,Array.replicate_zero,List.push_toArray,List.append_toArray,LT,PP]
 gi_wp2
 go_ret
 exact⟨rfl,rfl⟩
attribute [local go_sem] Oper.semAt_some
def nf(V:Nat)(pre:io):Prop:=pre.Nodup/\∀x∈pre,1<=x/\x<=(V:Int)
variable{V:Nat}
theorem nf.snoc(h:nf V pre)(h1:1<=x)(h2:x<=V)(h3:pre.contains x=false):nf V (pre++[x]):=by
 refine⟨?_,fun y hy=>?_⟩
 .rw[abM];refine⟨h.1,acv,fun a ha b hb=>?_⟩
  grind
 .rcases AC.1 hy with hy|hy
  .exact h.2 y hy
  grind
theorem LP{V:Nat}:∀(l pre:io),nf V (pre++l)->dup V pre l=if((pre++l).length:Int)<V then 7 else 0
 |[],pre,_=>by simp[dup]|x::l,pre,h=>by
  have hx:=h.2 x acv;have hn:pre.contains x=false:=by
   rw[List.contains_eq_mem];simp;intro hm;have:=h.1
   grind
  rw[dup,qr acs,qr (by grind),LP l (pre++[x]) (by grind)];simp
theorem Mz{V:Nat}{x:Int}{rest:io}:∀(l pre:io),nf V (pre++l)->dup V pre (l++x::rest)=dup V (pre++l) (x::rest)
 |[],pre,_=>by simp|y::l,pre,h=>by
  have hx:=h.2 y acv;have hn:pre.contains y=false:=by
   rw[List.contains_eq_mem];simp;intro hm;have:=h.1
   grind
  show dup V pre (y::(l++x::rest))=_;rw[dup,qr acs,qr (by grind),Mz l (pre++[y]) (by grind)];simp
def oe(V:Nat)(pre:io)(x:Int):Option Int:=if x<1\/(V:Int)<x then some 5 else if pre.contains x then some 6 else none
theorem TQ{r:Int}(h:nf V pre)(hp:pre++[x] <+: D)(hb:oe V pre x=some r):dup V [] D=r:=by
 obtain⟨rest,rfl⟩:=hp;rw[bJ,List.singleton_append,Mz pre [] (by grind),LT,dup];unfold oe at hb
 grind
theorem qF{B:Nat}(cs:β->Array Value):OwnFrom B (fun(s:β) W=>av W g t (cs s)):=fun s W W' row hs hg hr=>hs.grown hg (fun e=>by obtain⟨_,o,ho,hc⟩:=hr g e.symm;have hs':W.heap[g]?=some (.cells (cs s) t (0,0)):=hs;rw[ho]at hs';injection hs' with hs';subst hs';cases hc)
theorem Tn{B:Nat}(p:β->Prop):OwnFrom B (fun(s:β) (_:World)=>p s):=fun _ _ _ _ hs _ _=>hs
theorem Zxz(V:Nat):madeCells #[Value.bool false] (V+1)=((jW V []).map Value.bool).toArray:=by apply IS.1;rw[toList_madeCells_one,Wq];simp
theorem Zup{v:Nat}(h:v<=V):(((jW V pre).map Value.bool).toArray).setIfInBounds v (.bool true)=((jW V (pre++[(v:Int)])).map Value.bool).toArray:=by rw[<-XJ h,abY,List.map_set]
theorem Wp{v:Nat}(h:v<=V):(((jW V pre).map Value.bool).toArray)[v]?=some (.bool (pre.contains (v:Int))):=by simp only[pu,dx,zs h];rfl
abbrev fx(V:Int)(N:aX):Array Value:=#[.int .i64 V,.slice N.Ai N.bk.length N.ci,.slice N.Al N.az.length N.cl,.slice N.Ao N.bL.length N.co,.slice N.Ab N.bP.length N.cb,.slice N.Ac N.constraints.length N.cc,.slice N.Am N.aa.length N.cm,.slice N.An N.ai.length N.cn]
theorem W5(N:aX)(V:Nat)(w:World)(hV:N.vars=(V:Int))(hV2:V<=2000)(bM:N.bT w w.heap.size)(ft:Fit N.d)(hD:(cL N.d).length<=1000000) :
  Calls Try.prog 79 #[N.v] w fun e w'=>e=.returned (.int .i64 (dup V [] (cL N.d)))/\Below w.heap.size w w':=by
 have HV:=Lib.hid hV;have HF:=Lib.hid ft;have HOK:=Lib.hid bM;clear ft bM;unfold aX.v aX.fs;rw[hV];clear hV;obtain⟨i0,hi0,hz0,hz1,hz2⟩:=info_parts Wv;have hb:(i0.bytes:Int)*((V:Int)+1)<=281474976710656:=by rw[hz2];omega
 have hmk:=fun w:World=>run_make (P:=Try.prog) w 117 4 i0 (.bool false) Try.underlying117 hi0 hz0 .i64 .i64 ((V:Int)+1) ((V:Int)+1) acs (Int.le_refl _) hb acs;clear hi0 hz0 hz2 hb;have hv:∀n w,CallsIn Fence.wide n Try.prog 93 #[.agg (fx V N)] w fun e w'=>e=.returned (.func (.func 100) #[] #[.pointer (some ⟨w.heap.size,0,none⟩)])/\w'=w.alloc (.cells (fx V N) 27):=fun n w=>by have:=UG Fence.wide n trivial rfl N w;unfold aX.v aX.fs at this;rw[HV.out]at this;exact this
 have HVI:=Lib.hid hv;clear hv;refine(callsIn_wide (n:=3)).1 ?_;refine callsIn_of_wp_marks Try.func79 rfl trivial ?_ rfl;simp only[Try.ntmps79,List.size_toArray,cq,BT,Nat.reduceAdd,Nat.reduceSub,Array.replicate_succ,Array.replicate_zero,List.push_toArray,List.append_toArray,LT,PP];have hvf:Fence.wide.fn 93:=trivial
 gi_wp2_with (gi_at_call 93;refine(HVI.out _ _).mono ?_;rintro e w' ⟨rfl,rfl⟩)
 have hw0:Below w.heap.size w (((((w.alloc (.cells (fx V N) 27)).alloc (.cells #[.int .i64 0] 29)).alloc (.cells (madeCells #[Value.bool false] (V+1)) 4)).alloc (.cells #[.slice (some ⟨w.heap.size+1+1,0,none⟩) (V+1) (V+1)] 117)).alloc (.cells #[.int .i64 V] 3)):=(((((Below.refl _ w).alloc (ol _) _).alloc acv _).alloc (by simp;omega) _).alloc (by simp;omega) _).alloc (by simp;omega) _;have hw1:=hw0.alloc (by simp;omega) (.cells (fx V N) 27);have b0:=((((av.new w 27 (fx V N)).alloc (.cells #[.int .i64 0] 29)).alloc (.cells (madeCells #[Value.bool false] (V+1)) 4)).alloc (.cells #[.slice (some ⟨w.heap.size+1+1,0,none⟩) (V+1) (V+1)] 117)).alloc (.cells #[.int .i64 V] 3) |>.alloc (.cells (fx V N) 27);have b1:=(((av.new (w.alloc (.cells (fx V N) 27)) 29 #[.int .i64 0]).alloc (.cells (madeCells #[Value.bool false] (V+1)) 4)).alloc (.cells #[.slice (some ⟨w.heap.size+1+1,0,none⟩) (V+1) (V+1)] 117)).alloc (.cells #[.int .i64 V] 3) |>.alloc (.cells (fx V N) 27);have b2:=((av.new ((w.alloc (.cells (fx V N) 27)).alloc (.cells #[.int .i64 0] 29)) 4 (madeCells #[Value.bool false] (V+1))).alloc (.cells #[.slice (some ⟨w.heap.size+1+1,0,none⟩) (V+1) (V+1)] 117)).alloc (.cells #[.int .i64 V] 3) |>.alloc (.cells (fx V N) 27);have b3:=(av.new (((w.alloc (.cells (fx V N) 27)).alloc (.cells #[.int .i64 0] 29)).alloc (.cells (madeCells #[Value.bool false] (V+1)) 4)) 117 #[.slice (some ⟨w.heap.size+1+1,0,none⟩) (V+1) (V+1)]).alloc (.cells #[.int .i64 V] 3) |>.alloc (.cells (fx V N) 27);have b4:=(av.new ((((w.alloc (.cells (fx V N) 27)).alloc (.cells #[.int .i64 0] 29)).alloc (.cells (madeCells #[Value.bool false] (V+1)) 4)).alloc (.cells #[.slice (some ⟨w.heap.size+1+1,0,none⟩) (V+1) (V+1)] 117)) 3 #[.int .i64 V]).alloc (.cells (fx V N) 27);have b5:=av.new (((((w.alloc (.cells (fx V N) 27)).alloc (.cells #[.int .i64 0] 29)).alloc (.cells (madeCells #[Value.bool false] (V+1)) 4)).alloc (.cells #[.slice (some ⟨w.heap.size+1+1,0,none⟩) (V+1) (V+1)] 117)).alloc (.cells #[.int .i64 V] 3)) 27 (fx V N);simp only[World.size_alloc]at b1 b2 b3 b4 b5;have hsz:((((((w.alloc (.cells (fx V N) 27)).alloc (.cells #[.int .i64 0] 29)).alloc (.cells (madeCells #[Value.bool false] (V+1)) 4)).alloc (.cells #[.slice (some ⟨w.heap.size+1+1,0,none⟩) (V+1) (V+1)] 117)).alloc (.cells #[.int .i64 V] 3)).alloc (.cells (fx V N) 27)).heap.size=w.heap.size+6:=acv
 generalize (((((w.alloc (.cells (fx V N) 27)).alloc (.cells #[.int .i64 0] 29)).alloc (.cells (madeCells #[Value.bool false] (V+1)) 4)).alloc (.cells #[.slice (some ⟨w.heap.size+1+1,0,none⟩) (V+1) (V+1)] 117)).alloc (.cells #[.int .i64 V] 3)).alloc (.cells (fx V N) 27)=W0 at hw1 b0 b1 b2 b3 b4 b5 hsz |-;clear hw0 hmk hz1;rw[Zxz]at b2;have hfs:N.fs=(fx V N):=by unfold aX.fs;rw[HV.out]
 refine wpIn_rangeFunc_ownF rfl acs (gf:=100) (lb:=#[.pointer (some ⟨w.heap.size+1+1+1+1+1,0,none⟩)]) rfl trivial (enters_of Try.func100 acu rfl)
  (Xc Fence.wide 2 trivial rfl acs (w.heap.size+1+1+1+1+1) w.heap.size (w.heap.size+1+1+1+1+1) N W0 (by rw[hfs];exact b5) (ol _) (HOK.out.below hw1) acs HF.out) fh.trans (VQ acs) (Below.refl _ _) (fun _=>rfl)
  (fun pre W=>(nf V pre/\av W w.heap.size 27 (fx V N)/\av W (w.heap.size+1) 29 #[.int .i64 0]/\av W (w.heap.size+1+1) 4 ((jW V pre).map Value.bool).toArray/\av W (w.heap.size+1+1+1) 117 #[.slice (some ⟨w.heap.size+1+1,0,none⟩) (V+1) (V+1)]/\av W (w.heap.size+1+1+1+1) 3 #[.int .i64 ((V:Int)-pre.length)])/\Below w.heap.size w W)
  (fun c pre W=>(∃pre' x r,(c=.ret/\pre=pre'++[x]/\nf V pre'/\oe V pre' x=some r)/\av W (w.heap.size+1) 29 #[.int .i64 r])/\Below w.heap.size w W)
  (OwnFrom.and (OwnFrom.and (Tn _) (OwnFrom.and (qF _) (OwnFrom.and (qF _) (OwnFrom.and (qF _) (OwnFrom.and (qF _) (qF _)))))) (ownFrom_below (ol _) acs))
  (fun c=>OwnFrom.and (fun s W W' row hs hg hr=>by obtain⟨pre',x,r,h1,h2⟩:=hs;exact⟨pre',x,r,h1,qF (β:=Unit) (fun _=>#[.int .i64 r]) () W W' row h2 hg hr⟩) (ownFrom_below (ol _) acs))
  ⟨⟨⟨List.nodup_nil,acv⟩,b0,b1,b2,b3,by simpa using b4⟩,hw1⟩
  (fun x=>{ tmps:=#[.agg (fx V N),.pointer (some ⟨w.heap.size,0,none⟩),.pointer (some ⟨w.heap.size+1,0,none⟩),.pointer (some ⟨w.heap.size+1+1+1,0,none⟩),.pointer (some ⟨w.heap.size+1+1+1+1,0,none⟩),.int .i64 x,.pointer (some ⟨w.heap.size,0,none⟩),.int .i64 V,.int .i64 ((V:Int)+1),.slice (some ⟨w.heap.size+1+1,0,none⟩) (V+1) (V+1),.pointer (some ⟨w.heap.size,0,none⟩),.int .i64 V,.agg (fx V N),.func (.func 100) #[] #[.pointer (some ⟨w.heap.size+1+1+1+1+1,0,none⟩)],.int .i64 x,undef,undef,undef,undef,undef,undef,undef,undef,undef,undef,undef,undef,undef,undef,undef,undef,undef,undef,undef,undef,undef],defers:=[] }) ?assign ?body ?done ?stop
 case assign=>
  intro l x W K hK
  gi_wp2
  exact hK
 case body=>
  rintro l pre x W ⟨⟨hfn,c0,c1,c2,c3,c4⟩,hB⟩ hlen;clear b0 b1 b2 b3 b4 b5 hw1 HOK HF HVI hfs;have hc0:=c0.cell 0;have hc1:=c1.cell 0;have hf1:=c1.frozen 0;have hc3:=c3.cell 0;have hc4:=c4.cell 0;have hf4:=c4.frozen 0;simp only[pu,pm]at hc0 hc1 hc3 hc4;by_cases hbad:x<1\/(V:Int)<x
  .have hbo:oe V pre x=some 5:=by unfold oe;rw[ut hbad]
   have HBO:=Lib.hid hbo;have HFN:=Lib.hid hfn;clear hbo hfn c0 c2 c3 c4;rcases(show x<1\/(¬x<1/\(V:Int)<x)from by omega)with h1|⟨h1,h2⟩
   all_goals
    gi_wp2
    exact⟨KeepsOthers.setCell _ _ _,⟨pre,x,5,⟨rfl,rfl,HFN.out,HBO.out⟩,c1.kF 0 _⟩,hB.setCell (p:=⟨w.heap.size+1,0,none⟩) acv _⟩
  .obtain⟨v,rfl⟩:=AI (show 0<=x by omega);have h1:¬((v:Int)<1):=acs
   have h2:¬((V:Int)<v):=acs
   have h3:v<=V:=acs
   have hcs:=(c2.cell v).trans (Wp h3);have hfs:=c2.frozen v;rcases hct:pre.contains (v:Int)with _|_
   .rw[hct]at hcs;have HFN:=Lib.hid (hfn.snoc acs acs hct);have hlen2:pre.length<=1000000:=acs
    clear hct hfn hbad
    gi_wp2
    refine⟨(KeepsOthers.setCell _ _ _).trans (KeepsOthers.setCell _ _ _),((fh.refl _ _ _).setCell (p:=⟨w.heap.size+1+1,v,none⟩) (by simp;omega) acv _).setCell (p:=⟨w.heap.size+1+1+1+1,0,none⟩) (by simp;omega) acv _,⟨HFN.out,?_,?_,?_,?_,?_⟩,(hB.setCell (p:=⟨w.heap.size+1+1,v,none⟩) (by simp;omega) _).setCell (p:=⟨w.heap.size+1+1+1+1,0,none⟩) (by simp;omega) _⟩
    .exact(c0.fw (p:=⟨w.heap.size+1+1,v,none⟩) (by simp;omega) _).fw (by simp;omega) _
    .exact(c1.fw (p:=⟨w.heap.size+1+1,v,none⟩) acv _).fw (by simp<;>omega) _
    .have:=(c2.kF v (.bool true)).fw (p:=⟨w.heap.size+1+1+1+1,0,none⟩) (by simp<;>omega) (.int .i64 ((V:Int)-pre.length-1));rw[Zup h3]at this;exact this
    .exact(c3.fw (p:=⟨w.heap.size+1+1,v,none⟩) acv _).fw acv _
    .have:=(c4.fw (p:=⟨w.heap.size+1+1,v,none⟩) (by simp;omega) (.bool true)).kF 0 (.int .i64 ((V:Int)-pre.length-1));rw[show(V:Int)-((pre++[(v:Int)]).length:Nat)=(V:Int)-pre.length-1 by simp;omega];exact this
   .have hbo:oe V pre v=some 6:=by unfold oe;rw[qr hbad,ut hct]
    rw[hct]at hcs;have HBO:=Lib.hid hbo;have HFN:=Lib.hid hfn;clear hbo hfn hct c0 c2 c3 c4 hbad
    gi_wp2
    exact⟨KeepsOthers.setCell _ _ _,⟨pre,v,6,⟨rfl,rfl,HFN.out,HBO.out⟩,c1.kF 0 _⟩,hB.setCell (p:=⟨w.heap.size+1,0,none⟩) acv _⟩
 case done=>
  rintro D ys W hD2 hys ⟨⟨hfn,c0,c1,c2,c3,c4⟩,hB⟩ hK;have hdu:=LP ys [] (by simpa using hfn);rw[hys]at hdu;have hyl:ys.length<=1000000:=by rw[hys];exact hD
  have hyl2:(cL N.d).length=ys.length:=by rw[hys]
  rw[LT,hyl2]at hdu;have HDU:=Lib.hid hdu;have hc1:=c1.cell 0;have hf1:=c1.frozen 0;have hc4:=c4.cell 0;simp only[pu,pm]at hc1 hc4;clear b0 b1 b2 b3 b4 b5 hw1 HOK HF HVI hfs hdu hyl2 hys hfn c0 c2 c3 c4;by_cases hlt:(0:Int)<(V:Int)-ys.length
  .gi_wp2
   have hK':=(KeepsOthers.setCell W ⟨w.heap.size+1,0,none⟩ (.int .i64 7)).same D _ hK rfl;refine⟨acv,.inl ⟨_,_,rfl,run_takeDeferred hK',?_⟩⟩;have hc5:=cell_kept (World.cell?_setCell_same' W ⟨w.heap.size+1,0,none⟩ (.int .i64 7) (by rw[hc1];rfl)) (grownBy_putObj' _ D (.deferred none)) (fun r e=>by cases e;exact⟨_,hK',rfl⟩);refine⟨.int .i64 7,?_,by rw[HDU.out,ut acs],(hB.setCell (p:=⟨w.heap.size+1,0,none⟩) acv _).trans (belowK_b (w:=w) (ol _) _ D _ _ acs hK' rfl rfl)⟩;simp[results,Try.f79,go_sem,hc5]
  .gi_wp2
   have hK':=(KeepsOthers.setCell W ⟨w.heap.size+1,0,none⟩ (.int .i64 0)).same D _ hK rfl;refine⟨acv,.inl ⟨_,_,rfl,run_takeDeferred hK',?_⟩⟩;have hc5:=cell_kept (World.cell?_setCell_same' W ⟨w.heap.size+1,0,none⟩ (.int .i64 0) (by rw[hc1];rfl)) (grownBy_putObj' _ D (.deferred none)) (fun r e=>by cases e;exact⟨_,hK',rfl⟩);refine⟨.int .i64 0,?_,by rw[HDU.out,qr acs],(hB.setCell (p:=⟨w.heap.size+1,0,none⟩) acv _).trans (belowK_b (w:=w) (ol _) _ D _ _ acs hK' rfl rfl)⟩;simp[results,Try.f79,go_sem,hc5]
 case stop=>
  rintro D c pre W hD2 hpre ⟨⟨pre',x,r,⟨rfl,rfl,hfn,hbo⟩,c1⟩,hB⟩ hK;have HDU:=Lib.hid (TQ hfn hpre hbo);have hc1:=c1.cell 0;simp only[pu,pm]at hc1;clear b0 b1 b2 b3 b4 b5 hw1 HOK HF HVI hfs hfn hpre hbo
  gi_wp2
  refine⟨acv,.inl ⟨_,_,rfl,run_takeDeferred hK,?_⟩⟩;have hc5:=cell_kept hc1 (grownBy_putObj' _ D (.deferred none)) (fun r e=>by cases e;exact⟨_,hK,rfl⟩);refine⟨.int .i64 r,?_,by rw[HDU.out],hB.trans (belowK_b (w:=w) (ol _) W D _ _ acs hK rfl rfl)⟩;simp[results,Try.f79,go_sem,hc5]
structure ib(base g:Nat)(w w':World):Prop where
 below:Below base w w'
 box:∀(c:Nat) (t:TypeId) (cs:Array Value),av w c t cs->t≠3->c≠g->av w' c t cs
theorem ib.refl(base g:Nat)(w:World):ib base g w w:=⟨Below.refl _ _,fun _ _ _ h _ _=>h⟩
variable{a:World}
theorem ib.trans{b c:World}(h:ib base g a b)(k:ib base g b c):ib base g a c:=⟨h.below.trans k.below,fun x t cs hb ht hg=>k.box x t cs (h.box x t cs hb ht hg) ht hg⟩
theorem ib.alloc{b:World}(h:ib base g a b)(hb:base<=b.heap.size)(o:Obj):ib base g a (b.alloc o):=⟨h.below.alloc hb o,fun x t cs hB ht hg=>(h.box x t cs hB ht hg).alloc o⟩
def Acc(w:World)(base g:Nat)(xs:io):Prop:=∃v,av w g 22 #[v]/\w.ownsRow base 3 1 v xs.length (ints xs)
theorem Acc.alloc{w:World}{xs:io}(h:Acc w base g xs)(o:Obj):Acc (w.alloc o) base g xs:=by obtain⟨v,h1,h2⟩:=h;exact⟨v,h1.alloc o,h2.alloc o⟩
theorem Zzn(l:io):∀u∈ints l,u.oneCell'=true:=by intro u hu;obtain⟨x,_,rfl⟩:=IN.1 hu;rfl
def CC(base g:Nat)(xs:io)(w:World)(e:Ending)(w':World):Prop:=e=.returned (.tuple #[])/\Acc w' base g xs/\ib base g w w'
theorem nR(base g:Nat)(xs:io)(A:lc)(c:Nat)(l:io)(w:World)(hacc:Acc w base g xs)(hS:Sl w w.heap.size 1 A l.length c (ints l))(hlen:xs.length+l.length<=1000000)(hbase:base<=g) :
  Calls Try.prog 94 #[.slice A l.length c,.pointer (some ⟨g,0,none⟩)] w (CC base g (xs++l) w):=by
 obtain⟨v,hb,hown⟩:=hacc;have hc0:w.cell? ⟨g,0,none⟩=some v:=hb.cell 0;have hgl:=hb.lt;have hne:=i7 hown hb acw;obtain⟨Av,cv,rfl,hv1,hv2,_⟩:=iT hown;obtain⟨i0,hi0,hz0,hz1,hz2⟩:=info_parts Ca;have HNE:=Lib.hid hne;have HB:=Lib.hid hb;clear hne hb
 go_enter Try.func94,Try.ntmps94
 go_wp2_with (at_builtin;refine yO _ rfl _ _ 22 rfl base 3 i0 (.int .i64 0) 1 8 Try.underlying22 hi0 hz0 hz1 hz2 rfl acw _ _ _ rfl hown w.heap.size A l.length c (ints l) rfl hS.1 (Zzn l) (by unfold maxLen;omega) acs acs ?_;intro v' w1 hown' hg' hbb;obtain⟨A1,c1,rfl,h11,h12,_⟩:=iT hown';have hb1:=HB.out.grown hg' (fun e=>HNE.out e.symm);have hc1:=hb1.cell 0;have hf1:=hb1.frozen 0;simp only[pu,pm]at hc1)
 refine bodyPost_end (results_none rfl _ _ _) rfl ?_;have hne':Value.ownBlock (.slice A1 (xs.length+l.length) c1)≠some g:=i7 hown' hb1 acw;have hB1:Below base w w1:=by refine⟨hg'.os,hg'.tape,hg'.output,hg'.size,fun i hi=>hg'.block i acs ?_⟩;intro e;have:=(hown.lt i e.symm).1;omega
 refine⟨rfl,⟨_,hb1.kF 0 _,?_⟩,⟨hB1.setCell (p:=⟨g,0,none⟩) hbase _,fun x t cs hB ht hg=>?_⟩⟩
 .have e1:(xs++l).length=xs.length+l.length:=acv
  have e2:ints (xs++l)=ints xs++ints l:=by simp[ints]
  rw[e1,e2];exact ownsRow_setCell_other hown' (a:=⟨g,0,none⟩) hne' _
 .have h1:=hB.grown hg' (fun e=>i7 hown hB (fun e=>ht e.symm) e.symm);exact h1.fw (p:=⟨g,0,none⟩) hg _
/- the literals in their order, as fw as they have come -/
def kY(m:bo):io:=m.reads.flatMap (·.addr)++m.writes.flatMap fun x=>x.on::(x.addr++x.data)
theorem Ue(m:bo):fC m.d=kY m:=by unfold fC kY bo.d;rw[abe,abe];rfl
def k1(N:aX)(k:Nat):io:=(N.az.take k).map (·.next)
def k2(N:aX)(k:Nat):io:=N.az.map (·.next)++N.bL++N.bP++N.constraints++(N.aa.take k).flatMap kY
def k3(N:aX)(k:Nat)(m:bo)(j:Nat):io:=k2 N k++(m.reads.take j).flatMap (·.addr)
def k4(N:aX)(k:Nat)(m:bo)(j:Nat):io:=k2 N k++m.reads.flatMap (·.addr)++(m.writes.take j).flatMap fun x=>x.on::(x.addr++x.data)
def k5(N:aX)(k:Nat):io:=N.az.map (·.next)++N.bL++N.bP++N.constraints++N.aa.flatMap kY++(N.ai.take k).flatMap ig
theorem zk(N:aX):dJ N.d=N.az.map (·.next)++N.bL++N.bP++N.constraints++N.aa.flatMap kY++N.ai.flatMap ig:=by unfold dJ aX.d;simp only;rw[abe];congr 2;exact abp (fun f=>N.aa.flatMap f) (funext Ue)
section
variable{N:aX}{k j:Nat}
theorem Lc{x:d9}(h:N.az[k]?=some x):k1 N (k+1)=k1 N k++[x.next]:=by unfold k1;rw[dn h];simp
theorem U4:k1 N k <+: dJ N.d:=by rw[zk];simp only[bJ];exact(List.IsPrefix.map _ (List.take_prefix _ _)).trans (abk _ _)
theorem Kt(hk:N.az.length<=k):k1 N k++N.bL++N.bP++N.constraints=k2 N 0:=by unfold k1 k2;rw[By hk];simp
theorem Mo:k2 N k <+: dJ N.d:=by
 rw[zk];refine abq ?_ (abk _ _);refine mG ?_;have h:=abk ((N.aa.take k).flatMap kY) ((N.aa.drop k).flatMap kY)
 rwa [<-IO,EQ]at h
theorem XW:k3 N k m 0=k2 N k:=by simp[k3]
theorem Rf(h:m.reads[j]?=some r):k3 N k m (j+1)=k3 N k m j++r.addr:=by unfold k3;rw[qj _ h,bJ]
theorem XX(hj:m.reads.length<=j):k3 N k m j=k4 N k m 0:=by unfold k3 k4;rw[By hj];simp
theorem Re{r:eI}(h:m.writes[j]?=some r):k4 N k m (j+1)=k4 N k m j++[r.on]++r.addr++r.data:=by unfold k4;rw[qj _ h];simp
theorem Mn(h:N.aa[k]?=some m):k2 N (k+1)=k2 N k++kY m:=by unfold k2;rw[qj _ h];simp
theorem XV(h:N.aa[k]?=some m)(hj:m.writes.length<=j):k4 N k m j=k2 N (k+1):=by rw[Mn h];unfold k4 kY;rw[By hj];simp
theorem Mm(h:N.aa[k]?=some m):k4 N k m j <+: dJ N.d:=by
 refine abq ?_ (Mo (k:=k+1));rw[Mn h];unfold k4 kY;rw[bJ];refine mG (mG ?_);have h:=abk ((m.writes.take j).flatMap fun x:eI=>x.on::(x.addr++x.data)) ((m.writes.drop j).flatMap fun x=>x.on::(x.addr++x.data))
 rwa [<-IO,EQ]at h
theorem U5(h:N.aa[k]?=some m):k3 N k m j <+: dJ N.d:=by
 refine abq ?_ (Mm (j:=0) h);unfold k3 k4;have h:=abk ((m.reads.take j).flatMap (·.addr)) ((m.reads.drop j).flatMap (·.addr));rw[<-IO,EQ]at h
 simp_all
theorem XY(hk:N.aa.length<=k):k2 N k=k5 N 0:=by unfold k2 k5;rw[By hk];simp
theorem Rd{x:fe}(h:N.ai[k]?=some x):k5 N (k+1)=k5 N k++[x.a,x.b]:=by unfold k5;rw[qj _ h];simp[ig]
theorem XU(hk:N.ai.length<=k):k5 N k=dJ N.d:=by rw[zk];unfold k5;rw[By hk]
theorem U6:k5 N k <+: dJ N.d:=by
 rw[zk];unfold k5;refine mG ?_;have h:=abk ((N.ai.take k).flatMap ig) ((N.ai.drop k).flatMap ig)
 rwa [<-IO,EQ]at h
end
theorem LY(W:World)(l:io)(hl:l.length<=1000):Sl (W.alloc (.cells (ints l).toArray 3)) (W.alloc (.cells (ints l).toArray 3)).heap.size 1 (some ⟨W.heap.size,0,none⟩) l.length l.length (ints l):=by
 have h:=(av.new W 3 (ints l).toArray).reads;have e:(ints l).length=l.length:=by simp[ints]
 rw[e]at h;exact⟨h,ol _,Fn _⟩
theorem tt{a:io}{n:Nat}(h:a <+: D)(hD:D.length<=n):a.length<=n:=by grind
theorem ib.iU{W1 wr:World}{N:aX}(h:ib base (base+1) W1 wr)(hb:av W1 base 27 N.fs):av wr base 27 N.fs:=h.box _ _ _ hb acw acs
theorem Ln(base g:Nat)(xs:io)(x:Int)(W:World)(s:Nat)(hs:s=W.heap.size)(hacc:Acc W base g xs)(hlen:xs.length+1<=1000000)(hbase:base<=g) :
  Calls Try.prog 94 #[.slice (some ⟨s,0,none⟩) 1 1,.pointer (some ⟨g,0,none⟩)] (W.alloc (.cells #[.int .i64 x] 3)) (CC base g (xs++[x]) (W.alloc (.cells #[.int .i64 x] 3))):=by
 subst hs;exact nR base g xs (some ⟨W.heap.size,0,none⟩) 1 [x] (W.alloc (.cells #[.int .i64 x] 3)) (hacc.alloc _) (LY W [x] acv) (by simpa using hlen) hbase
theorem To(base g:Nat)(xs:io)(x y:Int)(W:World)(s:Nat)(hs:s=W.heap.size)(hacc:Acc W base g xs)(hlen:xs.length+2<=1000000)(hbase:base<=g) :
  Calls Try.prog 94 #[.slice (some ⟨s,0,none⟩) 2 2,.pointer (some ⟨g,0,none⟩)] (W.alloc (.cells #[.int .i64 x,.int .i64 y] 3)) (CC base g (xs++[x,y]) (W.alloc (.cells #[.int .i64 x,.int .i64 y] 3))):=by
 subst hs;exact nR base g xs (some ⟨W.heap.size,0,none⟩) 2 [x,y] (W.alloc (.cells #[.int .i64 x,.int .i64 y] 3)) (hacc.alloc _) (LY W [x,y] acv) (by simpa using hlen) hbase
theorem Wt(N:aX)(w:World)(bM:N.bT w w.heap.size)(ft:Fit N.d)(hD:(dJ N.d).length<=1000000) :
  Calls Try.prog 80 #[N.v] w (zg 3 w (ints (dJ N.d))):=by
 have hl2:N.az.length<=4000:=ft.aw.1;have hl3:N.ai.length<=4000:=ft.ai.1;have hl4:N.aa.length<=100:=by have:=ft.aa.1;simpa[aX.d]using this
 have HMF:=Lib.hid (ft.aa.2);have HD:=Lib.hid hD;clear ft hD;obtain⟨base,hbase⟩:∃base,base=w.heap.size:=⟨_,rfl⟩;have hb0:av ((w.alloc (.cells N.fs 27)).alloc (.cells #[.slice none 0 0] 22)) base 27 N.fs:=by rw[hbase];exact(av.new w 27 N.fs).alloc _
 have hb1:av ((w.alloc (.cells N.fs 27)).alloc (.cells #[.slice none 0 0] 22)) (base+1) 22 #[.slice none 0 0]:=by have:=av.new (w.alloc (.cells N.fs 27)) 22 #[.slice none 0 0];rw[World.size_alloc]at this;rw[hbase];exact this
 have hB:Below base w ((w.alloc (.cells N.fs 27)).alloc (.cells #[.slice none 0 0] 22)):=by rw[hbase];exact((Below.refl _ w).alloc (ol _) _).alloc acv _
 have hsz:((w.alloc (.cells N.fs 27)).alloc (.cells #[.slice none 0 0] 22)).heap.size=base+2:=by rw[hbase];simp
 have hacc:Acc ((w.alloc (.cells N.fs 27)).alloc (.cells #[.slice none 0 0] 22)) base (base+1) (k1 N 0):=⟨_,hb1,by simp[k1,ints];exact World.ownsRow_nil _ _ _ _⟩;have hok2:N.bT ((w.alloc (.cells N.fs 27)).alloc (.cells #[.slice none 0 0] 22)) base:=by rw[<-hbase]at bM;exact bM.below hB
 have HOK:=Lib.hid hok2;have HBE:=Lib.hid hB;clear bM hok2 hb1 hB;unfold aX.v
 go_enter Try.func80,Try.ntmps80
 unfold aX.fs
 go_wp2_with fail
 rw[<-hbase];change Code.wp _ _ _ _ ((w.alloc (.cells N.fs 27)).alloc (.cells #[.slice none 0 0] 22));generalize (w.alloc (.cells N.fs 27)).alloc (.cells #[.slice none 0 0] 22)=W1 at hb0 hacc hsz HOK HBE |-;have HB0:=Lib.hid hb0;have HSZ:=Lib.hid hsz;have HBA:=Lib.hid hbase;clear hb0 hsz hbase
 go_loopw [18] (fun i wr=>∃k:Nat,k<=N.az.length/\i=.int .i64 k/\Acc wr base (base+1) (k1 N k)/\ib base (base+1) W1 wr) (fun i _=>N.az.length-(intOf i).toNat)
 case atStart=>exact⟨0,Fn _,rfl,hacc,ib.refl _ _ _⟩
 case round=>
  clear hacc;obtain⟨k,hk,rfl,hacc,hpf⟩:=hrel;have hsz:base+2<=wr.heap.size:=by have:=hpf.below.size;have:=HSZ.out;omega
  by_cases hlt:k<N.az.length
  .obtain⟨b,off,x,e1,hb,hx,hm,hcs⟩:=(HOK.out.below hpf.below).aw.elem acs (fun _=>rfl) hlt;obtain⟨hc0,hc1,hc2⟩:=d9.at_ hcs;have hp:=tt (U4 (k:=k+1)) HD.out;rw[Lc hx]at hp;have HX:=Lib.hid hx;clear hx hm hcs;rw[e1];clear e1;simp only[aP,cq,BT]at hp
   go_wp2_with fail
   refine(Ln base (base+1) (k1 N k) x.next _ _ acv (hacc.alloc _) acs acs).mono ?_;rintro e w2 ⟨rfl,hacc2,hpf2⟩;rw[<-Lc HX.out]at hacc2
   go_wp2_with fail
   go_roundw
   case rel=>exact⟨k+1,acs,by go_num,hacc2,((hpf.alloc acs _).alloc (by simp;omega) _).trans hpf2⟩
   case measure=>simp[intOf];omega
  .have hf3:wr.cell? ⟨base,3,none⟩=some (.slice N.Ao N.bL.length N.co):=(hpf.iU HB0.out).cell 3;have hp:=tt (Mo (k:=0)) HD.out;rw[<-Kt (show N.az.length<=k by omega)]at hp;simp only[aP]at hp
   go_wp2_with fail
   refine(nR base (base+1) (k1 N k) N.Ao N.co N.bL _ hacc ((HOK.out.below hpf.below).out.more acs) acs acs).mono ?_;rintro e w2 ⟨rfl,hacc2,hpf2⟩;have hpf3:=hpf.trans hpf2;have hs3:=hpf2.below.size;have hf4:w2.cell? ⟨base,4,none⟩=some (.slice N.Ab N.bP.length N.cb):=(hpf3.iU HB0.out).cell 4;clear hacc hpf hpf2 hf3
   go_wp2_with fail
   refine(nR base (base+1) _ N.Ab N.cb N.bP _ hacc2 ((HOK.out.below hpf3.below).bad.more acs) (by simp;omega) acs).mono ?_;rintro e w3 ⟨rfl,hacc3,hpf4⟩;have hpf5:=hpf3.trans hpf4;have hs5:=hpf4.below.size;have hf5:w3.cell? ⟨base,5,none⟩=some (.slice N.Ac N.constraints.length N.cc):=(hpf5.iU HB0.out).cell 5;clear hacc2 hpf3 hpf4 hf4
   go_wp2_with fail
   refine(nR base (base+1) _ N.Ac N.cc N.constraints _ hacc3 ((HOK.out.below hpf5.below).kO.more acs) (by simp;omega) acs).mono ?_;rintro e w4 ⟨rfl,hacc4,hpf6⟩;have hpf7:=hpf5.trans hpf6;have hf6:w4.cell? ⟨base,6,none⟩=some (.slice N.Am N.aa.length N.cm):=(hpf7.iU HB0.out).cell 6;rw[Kt acs]at hacc4;clear hacc3 hpf5 hpf6 hf5 hs3 hs5 hsz hlt hp hk
   go_wp2_with fail
   go_loopw [43] (fun i wr=>∃k:Nat,k<=N.aa.length/\i=.int .i64 k/\Acc wr base (base+1) (k2 N k)/\ib base (base+1) W1 wr) (fun i _=>N.aa.length-(intOf i).toNat)
   case atStart=>exact⟨0,Fn _,rfl,hacc4,hpf7⟩
   case round=>
    clear hacc4 hpf7 hf6;obtain⟨k,hk,rfl,hacc,hpf⟩:=hrel;have hsz:base+2<=wr.heap.size:=by have:=hpf.below.size;have:=HSZ.out;omega
    by_cases hlt:k<N.aa.length
    .obtain⟨b,off,m,e1,hb,hx,hm,hcs⟩:=(HOK.out.below hpf.below).mem.elem acs (fun _=>rfl) hlt;obtain⟨hc0,hc1,hc2,hc3,hc4⟩:=bo.at_ hcs;have HX:=Lib.hid hx;have HM:=Lib.hid (HOK.out.ua m hm);have hfm:=HMF.out m.d (UV hm);have hrn:m.reads.length<=100:=by have:=hfm.kR;simpa[bo.d]using this
     have hwn:m.writes.length<=100:=by have:=hfm.n8;simpa[bo.d]using this
     clear hx hm hcs hfm;rw[e1];clear e1
     go_wp2_with fail
     obtain⟨c,hc⟩:∃c,c=wr.heap.size:=⟨_,rfl⟩;have hpf2:=hpf.alloc (show base<=wr.heap.size by omega) (.cells m.cells.toArray 73);have hacc2:=hacc.alloc (.cells m.cells.toArray 73);have hbk:=av.new wr 73 m.cells.toArray;have hcB:base+2<=c:=acs
     rw[<-hc]at hbk |-;rw[<-XW (m:=m)]at hacc2;clear hc hacc hpf hc0 hc1 hc2 hc3 hc4;change Code.wp _ _ _ _ (wr.alloc (.cells m.cells.toArray 73));obtain⟨w3,hw3⟩:∃w3:World,w3=wr.alloc (.cells m.cells.toArray 73):=⟨_,rfl⟩;rw[<-hw3]at hpf2 hacc2 hbk |-;clear hw3 hsz
     go_loopw [50] (fun i wr=>∃j:Nat,j<=m.reads.length/\i=.int .i64 j/\Acc wr base (base+1) (k3 N k m j)/\ib base (base+1) W1 wr/\av wr c 73 m.cells.toArray) (fun i _=>m.reads.length-(intOf i).toNat)
     case atStart=>exact⟨0,Fn _,rfl,hacc2,hpf2,hbk⟩
     case round=>
      clear hacc2 hpf2 hbk;obtain⟨j,hj,rfl,hacc,hpf,hbk⟩:=hrel;have hsz:base+2<=wr.heap.size:=by have:=hpf.below.size;have:=HSZ.out;omega
      by_cases hlt2:j<m.reads.length
      .obtain⟨b2,off2,r,e1,hb2,hx2,hm2,hcs⟩:=(HM.out.below hpf.below).rd.elem acs (fun _=>rfl) hlt2;obtain⟨hc0,hc1⟩:=de.at_ hcs;have HX2:=Lib.hid hx2;have HR:=Lib.hid (HM.out.gG r hm2);have hp:=tt (U5 (j:=j+1) HX.out) HD.out;rw[Rf hx2]at hp;simp only[aP]at hp;clear hx2 hm2 hcs;rw[e1];clear e1
       go_wp2_with fail
       refine(nR base (base+1) (k3 N k m j) r.A r.c r.addr _ (hacc.alloc _) (Sl.more (HR.out.below (hpf.alloc acs _).below) (by simp;omega)) acs acs).mono ?_;rintro e w2 ⟨rfl,hacc2,hpf2⟩;rw[<-Rf HX2.out]at hacc2
       go_wp2_with fail
       go_roundw
       case rel=>exact⟨j+1,acs,by go_num,hacc2,(hpf.alloc acs _).trans hpf2,hpf2.box _ _ _ (hbk.alloc _) acw acs⟩
       case measure=>simp[intOf];omega
      .rw[XX acs]at hacc;have hcw:wr.cell? ⟨c,4,none⟩=some (.slice m.A2 m.writes.length m.c2):=hbk.cell 4
       go_wp2_with fail
       obtain⟨w5,rfl⟩:∃w5:World,w5=wr:=⟨_,rfl⟩;clear hlt2 hj hsz hcw hbk
       go_loopw [62] (fun i wr=>∃j:Nat,j<=m.writes.length/\i=.int .i64 j/\Acc wr base (base+1) (k4 N k m j)/\ib base (base+1) W1 wr) (fun i _=>m.writes.length-(intOf i).toNat)
       case atStart=>exact⟨0,Fn _,rfl,hacc,hpf⟩
       case round=>
        clear hacc hpf;obtain⟨j,hj,rfl,hacc,hpf⟩:=hrel;have hsz:base+2<=wr.heap.size:=by have:=hpf.below.size;have:=HSZ.out;omega
        by_cases hlt2:j<m.writes.length
        .obtain⟨b2,off2,r,e1,hb2,hx2,hm2,hcs⟩:=(HM.out.below hpf.below).wr.elem acs (fun _=>rfl) hlt2;obtain⟨hc0,hc1,hc2⟩:=eI.at_ hcs;have HX2:=Lib.hid hx2;have HR:=Lib.hid (HM.out.kU r hm2);have hp:=tt (Mm (j:=j+1) HX.out) HD.out;rw[Re hx2]at hp;simp only[aP,cq,BT]at hp;clear hx2 hm2 hcs;rw[e1];clear e1
         go_wp2_with fail
         refine(Ln base (base+1) (k4 N k m j) r.on _ _ acv (hacc.alloc _) acs acs).mono ?_;rintro e w2 ⟨rfl,hacc2,hpf2⟩;obtain⟨d,hd⟩:∃d,d=wr.heap.size:=⟨_,rfl⟩;have hbk:=hpf2.box _ _ _ ((av.new wr 79 r.cells.toArray).alloc _) acw acs;rw[<-hd]at hbk;have hd1:w2.cell? ⟨d,1,none⟩=some (.slice r.A r.addr.length r.c):=hbk.cell 1;have hpf3:=((hpf.alloc acs _).alloc (by simp;omega) _).trans hpf2;have hs2:base+2<=w2.heap.size:=by have:=hpf3.below.size;have:=HSZ.out;omega
         have hdB:base+2<=d:=acs
         rw[<-hd];clear hd hacc hpf hpf2 hc0 hc1 hc2
         go_wp2_with fail
         refine(nR base (base+1) _ r.A r.c r.addr _ hacc2 ((HR.out.1.below hpf3.below).more acs) (by simp;omega) acs).mono ?_;rintro e w4 ⟨rfl,hacc3,hpf4⟩;have hbk2:=hpf4.box _ _ _ hbk acw acs;have hd2:w4.cell? ⟨d,2,none⟩=some (.slice r.A2 r.data.length r.c2):=hbk2.cell 2;have hpf5:=hpf3.trans hpf4;have hs4:base+2<=w4.heap.size:=by have:=hpf5.below.size;have:=HSZ.out;omega
         clear hacc2 hpf3 hpf4 hd1 hbk hbk2
         go_wp2_with fail
         refine(nR base (base+1) _ r.A2 r.c2 r.data _ hacc3 ((HR.out.2.below hpf5.below).more acs) (by simp;omega) acs).mono ?_;rintro e w6 ⟨rfl,hacc4,hpf6⟩;rw[<-Re HX2.out]at hacc4
         go_wp2_with fail
         go_roundw
         case rel=>exact⟨j+1,acs,by go_num,hacc4,hpf5.trans hpf6⟩
         case measure=>simp[intOf];omega
        .rw[XV HX.out acs]at hacc
         go_wp2_with fail
         go_roundw
         case rel=>exact⟨k+1,acs,by go_num,hacc,hpf⟩
         case measure=>simp[intOf];omega
    .rw[XY acs]at hacc;have hf7:wr.cell? ⟨base,7,none⟩=some (.slice N.An N.ai.length N.cn):=(hpf.iU HB0.out).cell 7
     go_wp2_with fail
     obtain⟨w5,rfl⟩:∃w5:World,w5=wr:=⟨_,rfl⟩;clear hlt hk hsz hf7
     go_loopw [84] (fun i wr=>∃k:Nat,k<=N.ai.length/\i=.int .i64 k/\Acc wr base (base+1) (k5 N k)/\ib base (base+1) W1 wr) (fun i _=>N.ai.length-(intOf i).toNat)
     case atStart=>exact⟨0,Fn _,rfl,hacc,hpf⟩
     case round=>
      clear hacc hpf;obtain⟨k,hk,rfl,hacc,hpf⟩:=hrel;have hsz:base+2<=wr.heap.size:=by have:=hpf.below.size;have:=HSZ.out;omega
      by_cases hlt:k<N.ai.length
      .obtain⟨b,off,x,e1,hb,hx,hm,hcs⟩:=(HOK.out.below hpf.below).and.elem acs (fun _=>rfl) hlt;obtain⟨hc0,hc1,hc2⟩:=fe.at_ hcs;have hp:=tt (U6 (k:=k+1)) HD.out;rw[Rd hx]at hp;have HX:=Lib.hid hx;clear hx hm hcs;rw[e1];clear e1;simp only[aP,cq,BT]at hp
       go_wp2_with fail
       refine(To base (base+1) (k5 N k) x.a x.b _ _ acv (hacc.alloc _) acs acs).mono ?_;rintro e w2 ⟨rfl,hacc2,hpf2⟩;rw[<-Rd HX.out]at hacc2
       go_wp2_with fail
       go_roundw
       case rel=>exact⟨k+1,acs,by go_num,hacc2,((hpf.alloc acs _).alloc (by simp;omega) _).trans hpf2⟩
       case measure=>simp[intOf];omega
      .rw[XU acs]at hacc;obtain⟨v,hv,hown⟩:=hacc;have hc:=hv.cell 0;have hf:=hv.frozen 0;simp only[pu,pm]at hc;obtain⟨Av,cv,rfl,hv1,hv2,_⟩:=iT hown;have hne:=i7 hown hv acw;have hc':=(hv.kF 0 (.slice Av (dJ N.d).length cv)).cell 0;have hbe:=(HBE.out.trans hpf.below).setCell (p:=⟨base+1,0,none⟩) acv (.slice Av (dJ N.d).length cv);rw[HBA.out]at hbe;have HBE2:=Lib.hid hbe;have HC:=Lib.hid hc';have HNE:=Lib.hid hne;clear hbe hc' hne
       go_wp2_with fail
       have hc2:=HC.out;simp at hc2;refine bodyPost_ret (v:=.slice Av (dJ N.d).length cv) (by simp[results,Try.results80,go_sem,hc2]) rfl ?_;have hown2:=ownsRow_setCell_other hown (a:=⟨base+1,0,none⟩) HNE.out (.slice Av (dJ N.d).length cv);rw[HBA.out]at hown2;exact zg.mk (n:=(dJ N.d).length) (by simp[ints]) (by rw[HBA.out];exact hown2) (by rw[HBA.out];exact HBE2.out)
theorem Xh(x:Int)(w:World)(h:0<=x)(h':x<=9223372036854775807):Calls Try.prog 55 #[.int .i64 x] w fun e w'=>e=.returned (.int .i64 (x / 2))/\w=w':=by
 go_enter Try.func55,Try.ntmps55
 go_wp2
 go_ret
 exact⟨rfl,rfl⟩
theorem Xa{n:ba}(ft:Fit n):∀x∈dJ n,cB x:=by
 intro x hx;unfold dJ at hx;simp only[AC,IN,Or]at hx;rcases hx with((((⟨l,hl,rfl⟩|h)|h)|h)|⟨m,hm,h⟩)|⟨a,ha,h⟩
 .exact(ft.aw.2 l hl).2.1
 .exact ft.out.2 x h
 .exact ft.bad.2 x h
 .exact ft.kO.2 x h
 .have hf:=ft.aa.2 m hm;unfold fC at h;simp only[AC,Or]at h;rcases h with⟨r,hr,h⟩|⟨r,hr,h⟩
  .exact(hf.gG r hr).2.2.2 x h
  .obtain⟨_,_,h3,h4,h5⟩:=hf.kU r hr;unfold iW at h
   grind
 .unfold ig at h;simp at h;rcases h with rfl|rfl
  .exact(ft.ai.2 a ha).2.1
  .exact(ft.ai.2 a ha).2.2
theorem eY{α β:Type}(f:α->List β)(c:Nat):∀(l:List α),(∀x∈l,(f x).length<=c)->(l.flatMap f).length<=l.length*c
 |[],_=>by simp|x::l,h=>by rw[GT,aP,cq,Nat.succ_mul];have:=eY f c l (fun y hy=>h y (by simp[hy]));have:=h x acv;omega
theorem Zux{n:ba}(ft:Fit n)(hl:∀m∈n.aa,m.reads.length<=6/\m.writes.length<=6)(hm:n.aa.length<=6):(dJ n).length<=1000000:=by
 have h1:(n.aa.flatMap fC).length<=n.aa.length*72006:=eY fC 72006 _ fun m hm=>by
  have hf:=ft.aa.2 m hm;have hc:=hl m hm;unfold fC;rw[aP];have a1:(m.reads.flatMap (·.addr)).length<=m.reads.length*4000:=eY _ 4000 _ fun r hr=>(hf.gG r hr).1;have a2:(m.writes.flatMap iW).length<=m.writes.length*8001:=eY _ 8001 _ fun r hr=>by have:=hf.kU r hr;simp only[iW,cq,aP];omega
  grind
 have h2:(n.ai.flatMap ig).length<=n.ai.length*2:=eY ig 2 _ fun a _=>by simp[ig]
 have h3:n.aa.length*72006<=6*72006:=OF _ hm;have:=ft.aw.1;have:=ft.out.1;have:=ft.bad.1;have:=ft.kO.1;have:=ft.ai.1;unfold dJ
 grind
theorem Zuy{n:ba}(ft:Fit n)(hl:∀m∈n.aa,m.reads.length<=6/\m.writes.length<=6)(hm:n.aa.length<=6):(cL n).length<=1000000:=by
 have h1:(n.aa.flatMap fv).length<=n.aa.length*24000:=eY fv 24000 _ fun m hm=>by
  have hf:=ft.aa.2 m hm;have hc:=hl m hm;unfold fv;have a1:(m.reads.flatMap fun r=>cA r.var m.word.toNat).length<=m.reads.length*4000:=eY _ 4000 _ fun r hr=>by have:=hf.word.2;simp[cA];omega
  grind
 have h3:n.aa.length*24000<=6*24000:=OF _ hm;have:=ft.ins.1;have:=ft.aw.1;have:=ft.ai.1;unfold cL
 grind
theorem Wu{n:ba}(h:gD n=false):0<=n.vars/\n.vars<=2000/\n.aa.length<=6/\∀m∈n.aa,m.reads.length<=6/\m.writes.length<=6:=by unfold gD at h;rw[abH]at h;obtain⟨h1,h2⟩:=h;have h1:=abc h1;refine⟨acs,acs,acs,fun m hm=>?_⟩;have:=acl.1 h2 m hm;unfold gF at this;simp at this;omega
theorem av.iU{w:World}{N:aX}(h:av w g 27 N.fs):w.cell? ⟨g,0,none⟩=some (.int .i64 N.vars)/\w.cell? ⟨g,1,none⟩=some (.slice N.Ai N.bk.length N.ci)/\w.cell? ⟨g,2,none⟩=some (.slice N.Al N.az.length N.cl)/\w.cell? ⟨g,3,none⟩=some (.slice N.Ao N.bL.length N.co)/\w.cell? ⟨g,4,none⟩=some (.slice N.Ab N.bP.length N.cb)/\w.cell? ⟨g,5,none⟩=some (.slice N.Ac N.constraints.length N.cc)/\w.cell? ⟨g,6,none⟩=some (.slice N.Am N.aa.length N.cm)/\w.cell? ⟨g,7,none⟩=some (.slice N.An N.ai.length N.cn):=⟨h.cell 0,h.cell 1,h.cell 2,h.cell 3,h.cell 4,h.cell 5,h.cell 6,h.cell 7⟩
theorem Kw(N:aX)(w:World)(bM:N.bT w w.heap.size)(ft:Fit N.d) :
  Calls Try.prog 64 #[N.v] w fun e w'=>e=.returned (.int .i64 (eh N.d))/\Below w.heap.size w w':=by
 obtain⟨z,hz⟩:∃z,z=eh N.d:=⟨_,rfl⟩;rw[<-hz];unfold eh at hz;have HZ:=Lib.hid hz;clear hz;have hmw:N.d.aa.any fS=N.aa.any (fun x=>fS x.d):=by show(N.aa.map bo.d).any fS=_;rw[List.any_map];rfl
 rw[hmw]at HZ;clear hmw;change Hid (z=if gD N.d=true then 10 else if(N.aa.any fun x=>fS x.d)=true then 9 else if N.az.any jb=true then 1 else if dup N.vars [] (cL N.d)≠0 then dup N.vars [] (cL N.d)else if(dJ N.d).any (j8 N.vars)=true then 5 else 0)at HZ;obtain⟨base,hbase⟩:∃base,base=w.heap.size:=⟨_,rfl⟩;have hb0:av (w.alloc (.cells N.fs 27)) base 27 N.fs:=by rw[hbase];exact av.new w _ _
 have hB:Below base w (w.alloc (.cells N.fs 27)):=by rw[hbase];exact(Below.refl _ _).alloc (ol _) _
 have hsz:base<(w.alloc (.cells N.fs 27)).heap.size:=by rw[hbase];simp
 rw[<-hbase]at bM;have HOK:=Lib.hid (bM.below hB);have HF:=Lib.hid ft;have HB:=Lib.hid hB;have HB0:=Lib.hid hb0;have HBA:=Lib.hid hbase;clear bM hB;unfold aX.v
 go_enter Try.func64,Try.ntmps64
 unfold aX.fs
 go_wp2_with fail
 rw[<-hbase];change Calls _ _ #[N.v] (w.alloc (.cells N.fs 27)) _;generalize w.alloc (.cells N.fs 27)=W1 at hb0 hsz HOK HB HB0 |-;clear hbase;refine(Xi N W1 (HOK.out.more acs) HF.out).mono ?_;rintro e w2 ⟨rfl,hbl⟩;rcases h1:gD N.d with _|_
 .have hs2:=hbl.size;obtain⟨hv0,hv2,hml,hmr⟩:=Wu h1;have HDL:=Lib.hid (Zuy HF.out hmr hml);have HLL:=Lib.hid (Zux HF.out hmr hml);have hml2:N.aa.length<=6:=by simpa[aX.d]using hml
  have hmf:∀x∈N.aa,x.bT w2 w2.heap.size/\x.reads.length<=100/\x.writes.length<=100:=fun x hx=>by have h:=hmr x.d (UV hx);simp only[bo.d,aT]at h;exact⟨((HOK.out.ua x hx).below (hbl.mono acs)).more acs,acs,acs⟩
  have HMF:=Lib.hid hmf;change 0<=N.vars at hv0;change N.vars<=2000 at hv2;have hlat:N.az.length<=4000:=HF.out.aw.1;obtain⟨c0,c1,c2,c3,c4,c5,c6,c7⟩:=(hb0.below hbl hsz).iU;have HZ1:=HZ.out;rw[qr (by rw[h1];simp)]at HZ1;have HZ2:=Lib.hid HZ1;have HOK2:=Lib.hid (HOK.out.below (hbl.mono acs));have HB2:=Lib.hid (HB.out.trans (hbl.mono acs));have HB02:=Lib.hid (hb0.below hbl hsz);clear HZ1 HZ h1 hmf hml hmr hb0 hbl
  go_wp2_with fail
  refine(W6 N.Am N.cm N.aa w2 (HOK2.out.mem.more acs) HMF.out acs).mono ?_;rintro e w3 ⟨rfl,hbl⟩;have hs3:=hbl.size;rcases h2:N.aa.any (fun x=>fS x.d)with _|_
  .have HZ1:=HZ2.out;rw[qr (by rw[h2];simp)]at HZ1;have HZ3:=Lib.hid HZ1;clear HZ1 HZ2 h2 HMF c0 c1 c2 c3 c4 c5 c6 c7;obtain⟨c0,c1,c2,c3,c4,c5,c6,c7⟩:=(HB02.out.below hbl acs).iU;have HOK3:=Lib.hid (HOK2.out.below (hbl.mono acs));have HB3:=Lib.hid (HB2.out.trans (hbl.mono acs));have HB03:=Lib.hid (HB02.out.below hbl acs);clear HOK2 HB2 HB02 hbl
   go_wp2_with fail
   refine(W8 N.Al N.cl N.az w3 (HOK3.out.aw.more acs) acs).mono ?_;rintro e w4 ⟨rfl,hbl⟩;have hs4:=hbl.size;rcases h3:N.az.any jb with _|_
   .have HZ1:=HZ3.out;rw[qr (by rw[h3];simp)]at HZ1;have HZ4:=Lib.hid HZ1;clear HZ1 HZ3 h3 c0 c1 c2 c3 c4 c5 c6 c7;obtain⟨c0,c1,c2,c3,c4,c5,c6,c7⟩:=(HB03.out.below hbl acs).iU;have HOK4:=Lib.hid (HOK3.out.below (hbl.mono acs));have HB4:=Lib.hid (HB3.out.trans (hbl.mono acs));have HB04:=Lib.hid (HB03.out.below hbl acs);clear HOK3 HB3 HB03 hbl;obtain⟨V,hV⟩:=AI hv0;rw[hV]at HZ4;have HV:=Lib.hid hV;clear hV
    go_wp2_with fail
    change Calls _ _ #[N.v] w4 _;refine(W5 N V w4 HV.out (by have:=HV.out;omega) (HOK4.out.more acs) HF.out HDL.out).mono ?_;rintro e w5 ⟨rfl,hbl⟩;have hs5:=hbl.size;clear c0 c1 c2 c3 c4 c5 c6 c7;obtain⟨c0,c1,c2,c3,c4,c5,c6,c7⟩:=(HB04.out.below hbl acs).iU;have HOK5:=Lib.hid (HOK4.out.below (hbl.mono acs));have HB5:=Lib.hid (HB4.out.trans (hbl.mono acs));have HB05:=Lib.hid (HB04.out.below hbl acs);clear HOK4 HB4 HB04 hbl;obtain⟨dd,hdd⟩:∃dd,dd=dup V [] (cL N.d):=⟨_,rfl⟩;rw[<-hdd]at HZ4 |-;clear hdd;by_cases hd0:dd=0
    .subst hd0;rw[qr acv]at HZ4
     go_wp2_with fail
     change Calls _ _ #[N.v] w5 _;refine(Wt N w5 (HOK5.out.more acs) HF.out HLL.out).mono ?_;rintro e w6 ⟨A,c,rfl,h61,h62,hown,hbl⟩;have hs6:=hbl.size;obtain⟨L,hL⟩:∃L,L=dJ N.d:=⟨_,rfl⟩;have hI:∀x∈L,cB x:=by rw[hL];exact Xa HF.out
     have hln:L.length<=1000000:=by rw[hL];exact HLL.out
     rw[<-hL]at HZ4 hown;have eln:(ints (dJ N.d)).length=L.length:=by rw[hL];simp[ints]
     rw[eln]at h61 |-;have eln2:(ints L).length=L.length:=by simp[ints]
     rw[eln2]at hown;have hSl:=Sl.own hown;have hc0:=(HB05.out.below hbl acs).iU.1;have HB6:=Lib.hid (HB5.out.trans (hbl.mono acs));rw[HV.out]at hc0;clear hL eln eln2 hown hbl HB05 HOK5 HB5 c0 c1 c2 c3 c4 c5 c6 c7;have HI:=Lib.hid hI;clear hI
     go_wp2_with fail
     go_loopw [25] (fun i wr=>∃k q:Nat,k<=L.length/\i=.int .i64 k/\(L.take k).any (j8 V)=false/\wr=w6.drewN q) (fun i _=>L.length-(intOf i).toNat)
     case atStart=>exact⟨0,0,Fn _,rfl,rfl,rfl⟩
     case round=>
      obtain⟨k,q,hk,rfl,hno,rfl⟩:=hrel;have HNO:=Lib.hid hno;clear hno;by_cases hlt:k<L.length
      .obtain⟨b,off,x,e1,hb,hx,hm,hcx⟩:=hSl.pE hlt;have hxi:=HI.out x hm;have hx1:=hxi.1;have hx2:=hxi.2;have HX:=Lib.hid hx;have HM:=Lib.hid hm;clear hx hm hxi;rw[e1];clear e1;by_cases hx0:x<0
       .go_wp2_with fail
        go_quiet (fail)
        go_wp2_with fail
        go_ret
        exact⟨by rw[HZ4.out,ut (abf.2 ⟨x,HM.out,by unfold j8;simp;omega⟩)];rfl,by rw[<-HBA.out];exact below_drewN (below_drewN HB6.out _) _⟩
       .have HVAR:Hid (∀n,Calls Try.prog 55 #[.int .i64 x] (w6.drewN n) fun e w'=>e=.returned (.int .i64 (x / 2))/\w6.drewN n=w'):=fun n=>Xh x _ acs acs;by_cases hx3:(V:Int)<x / 2
        .go_wp2_with fail
         go_quiet ((go_at_call 55;exact GO (HVAR.out _)))
         go_wp2_with fail
         go_ret
         exact⟨by rw[HZ4.out,ut (abf.2 ⟨x,HM.out,by unfold j8;simp;omega⟩)];rfl,by rw[<-HBA.out];exact below_drewN (below_drewN HB6.out _) _⟩
        .go_wp2_with fail
         go_quiet ((go_at_call 55;exact GO (HVAR.out _)))
         go_wp2_with fail
         go_roundw
         case rel=>exact⟨k+1,_,acs,by go_num,qh HX.out HNO.out (by unfold j8;simp;omega),rfl⟩
         case measure=>simp[intOf];omega
      .go_wp2_with fail
       go_ret
       exact⟨by rw[HZ4.out,qi acs HNO.out];rfl,by rw[<-HBA.out];exact below_drewN HB6.out _⟩
    .have hd1:(dd != 0)=true:=by simpa using hd0
     go_wp2_with fail
     go_ret
     exact⟨by rw[HZ4.out,ut hd0];rfl,by rw[<-HBA.out];exact HB5.out⟩
   .have HZ1:=HZ3.out;rw[ut h3]at HZ1;have HZ4:=Lib.hid HZ1;clear HZ1
    go_wp2_with fail
    go_ret
    exact⟨by rw[HZ4.out];rfl,by rw[<-HBA.out];exact HB3.out.trans (hbl.mono acs)⟩
  .have HZ1:=HZ2.out;rw[ut h2]at HZ1;have HZ4:=Lib.hid HZ1;clear HZ1
   go_wp2_with fail
   go_ret
   exact⟨by rw[HZ4.out];rfl,by rw[<-HBA.out];exact HB2.out.trans (hbl.mono acs)⟩
 .go_wp2_with fail
  go_ret
  exact⟨by rw[HZ.out,ut h1];rfl,by rw[<-HBA.out];exact HB.out.trans (hbl.mono acs)⟩
