import Derived.Test.YtjflbmpepamfjaaGreatKMe
import Derived.Test.YtjflbmpepamfjaaGreatKNa
import Derived.Test.YtjflbmpepamfjaaGreatChecked
set_option linter.all false
section
namespace Go.Proofs.YtjflbmpepamfjaaGreat.Ev
open Go Go.RowKit
open Go.Proofs.YtjflbmpepamfjaaGreat.Pl
def OC:Int->Bool
 |.ofNat n=>Nat.ble n 9223372036854775807|.negSucc n=>Nat.ble n 9223372036854775807
variable{x:Int}
theorem VD(h:OC x=true):cE x:=by
 cases x with
 |ofNat n=>have:=qr h;have e:Int.ofNat n=(n:Int):=rfl;rw[e];constructor<;>omega|negSucc n=>
  have:=qr h;have e:Int.negSucc n = -(n:Int)-1:=by rw[Int.negSucc_eq];omega
  rw[e];constructor<;>omega
def oV:IntKind->Bool|.i64=>true|_=>false
def vZ:List AV->Option io
 |[]=>some []|v::l=>match v with
  |.int k n=>match oV k,OC n,vZ l with|true,true,some ns=>some (n::ns)|_,_,_=>none
  |_=>none
theorem Zx1{s:Sg}:∀{l:List AV}{ns:io},vZ l=some ns->aG s l=ints ns/\(∀x∈ns,cE x)/\ns.length=l.length
 |[],ns,h=>by simp[vZ]at h;subst h;exact⟨rfl,aGn,rfl⟩|v::l,ns,h=>by
  simp only[vZ]at h;split at h<;>try cases h
  rename_i k n;split at h<;>try cases h
  rename_i ns' h1 h2 h3;obtain⟨a,b,c⟩:=Zx1 (s:=s) h3;have hk:k=.i64:=by cases k<;>simp[oV]at h1;rfl
  subst hk;refine⟨by simp[aG,ah,a,ints],?_,by simp[c]⟩;intro x hx;rcases AT.1 hx with rfl|hx
  .exact VD h2
  .exact b x hx
def three:io->Option (List (Int×Int×Int))
 |[]=>some []|a::l=>match l with
  |b::c::l=>match three l with|some r=>some ((a,b,c)::r)|none=>none
  |_=>none
theorem Nz:∀{l:io}{r:List (Int×Int×Int)},three l=some r->l=r.flatMap (fun x=>[x.1,x.2.1,x.2.2])
 |[],r,h=>by simp[three]at h;subst h;rfl|[a],r,h=>by simp[three]at h|[a,b],r,h=>by simp[three]at h|a::b::c::l,r,h=>by
  simp only[three]at h;split at h<;>try cases h
  rename_i r' h';have:=Nz h';simp[<-this]
def vB(h:Hp)(sz b len:Nat)(u:Bool)(c:Nat):Bool:=match u with
 |false=>match Nat.ble len c with|true=>Nat.ble c 9223372036854775807|false=>false
 |true=>match h.tr.get b with
  |some (.cells l _ (some z))=>match Nat.beq z sz,Nat.blt 0 sz with|true,true=>Nat.ble ((c+len)*sz) l.length|_,_=>false
  |_=>false
variable{s:Sg}{w:World}{sz:Nat}{h:Hp}
theorem PH{b off len c:Nat}{u:Bool}(e:vB h sz b len u c=true)(H:ab s h w) :
  ∃cc,ah s (.slice b off len u c)=.slice (some ⟨(s b).1,off,none⟩) len cc/\len<=cc/\cc<=9223372036854775807:=by
 cases u with
 |false=>
  unfold vB at e;simp only[]at e;split at e
  .rename_i h1;exact⟨c,rfl,qr h1,qr e⟩
  .cases e
 |true=>
  unfold vB at e;simp only[]at e;split at e
  .rename_i l ty z hb;split at e
   .rename_i q1 q2;have q1:=aK q1;rw[acl]at q2;have e:=qr e;subst q1;obtain⟨tail,_,_,htl⟩:=H.cells hb;obtain⟨ht,hm⟩:=htl _ rfl;refine⟨(s b).2-c,rfl,?_,aGl⟩;rcases ww (s b).2 (c+len)with q|q
    .have:=aFq q q2;omega
    .omega
   .cases e
  .cases e
def mW(h:Hp)(sz:Nat)(v:AV):Option (Nat×io):=match v with
 |.ai=>some (0,[])|.slice b off len u c=>match vB h sz b len u c,Nat.ble len 4000,nk h sz (.slice b off len u c)with
  |true,true,some (n,l)=>match vZ l with|some ns=>some (n,ns)|none=>none
  |_,_,_=>none
 |_=>none
variable{v:AV}{n:Nat}
theorem pN{ns:io}(e:mW h sz v=some (n,ns))(H:ab s h w) :
  ∃A c,ah s v=.slice A n c/\Sl w w.heap.size sz A n c (ints ns)/\n<=4000/\(∀x∈ns,cE x)/\ns.length=n*sz:=by
 unfold mW at e;split at e
 .simp at e;obtain⟨rfl,rfl⟩:=e;exact⟨none,0,rfl,⟨⟨by simp[ints],fun h=>aGl⟩,aGl,by simp[maxLen]⟩,aGl,aGn,aGn⟩
 .rename_i b off len u c;split at e<;>try cases e
  rename_i l h1 h3 h4;split at e<;>try cases e
  rename_i hi;obtain⟨cc,hcc,h1,h2⟩:=PH (off:=off) h1 H;have h3:=qr h3;have hsrc:=h4;unfold nk at h4;simp only[]at h4;split at h4<;>try cases h4
  rename_i cs ty op hb;split at h4<;>try cases h4
  rename_i hle;have hle:=qr hle;obtain⟨a1,a2,a3⟩:=Zx1 (s:=s) hi;obtain⟨_,_,_,hll⟩:=pG (P:=default) hsrc H;obtain⟨tail,hw,_,_⟩:=H.cells hb;refine⟨some ⟨(s b).1,off,none⟩,cc,hcc,⟨⟨by rw[<-a1,fQ,hll],fun _=>⟨_,rfl,H.bound hb,?_⟩⟩,h1,by simpa[maxLen]using h2⟩,h3,a2,by rw[a3,hll]⟩;intro j u hu;rw[<-a1]at hu;rw[dR];simp only[fu,fK,qO,sK]at hu;have hj:j<n*sz:=by
   rcases ww j (n*sz)with q|q
   .exact q
   .rw[BT (by simp;omega)]at hu;cases hu
  rw[aFv,BY hj,aFZ]at hu;simp only[World.cell?,hw,aET,GE,aFk,pp];have hL:=fQ s cs;rw[Fr aGl];exact hu
 .cases e
variable{w':World}
theorem Below.hrel(H:ab s h w)(b:Below w.heap.size w w'):ab s h w' where
 obj i o hi:=by rw[b.block _ (H.bound hi)];exact H.obj i o hi
 inj:=H.inj
 lt:=H.lt
 ia:=H.ia
theorem Below.ext(b:Below w.heap.size w w'):Ext s h w s h w':=⟨b.os,b.tape,b.output,b.size,fun _ _=>rfl,pi _,fun k hk _=>b.block k hk,fun j o hj=>.inl ⟨j,o,hj,rfl⟩,fun j o hj _=>⟨o,hj⟩⟩
def vJ(h:Hp)(sz:Nat)(v:AV):Option (Nat×List AV):=match v with
 |.ai=>some (0,[])|.slice b off len u c=>match vB h sz b len u c,Nat.ble len 100,nk h sz (.slice b off len u c)with|true,true,some r=>some r|_,_,_=>none
 |_=>none
theorem Fm{l:List AV}(e:vJ h sz v=some (n,l))(H:ab s h w) :
  ∃A c,ah s v=.slice A n c/\Sl w w.heap.size sz A n c (aG s l)/\n<=100/\l.length=n*sz:=by
 unfold vJ at e;split at e
 .simp at e;obtain⟨rfl,rfl⟩:=e;exact⟨none,0,rfl,⟨⟨by simp[aG],fun h=>aGl⟩,aGl,by simp[maxLen]⟩,aGl,aGn⟩
 .rename_i b off len u c;split at e<;>try cases e
  rename_i h1 h3 h4;obtain⟨cc,hcc,h1,h2⟩:=PH (off:=off) h1 H;have h3:=qr h3;have hsrc:=h4;unfold nk at h4;simp only[]at h4;split at h4<;>try cases h4
  rename_i cs ty op hb;split at h4<;>try cases h4
  rename_i hle;have hle:=qr hle;obtain⟨_,_,_,hll⟩:=pG (P:=default) hsrc H;obtain⟨tail,hw,_,_⟩:=H.cells hb;refine⟨some ⟨(s b).1,off,none⟩,cc,hcc,⟨⟨by rw[fQ,hll],fun _=>⟨_,rfl,H.bound hb,?_⟩⟩,h1,by simpa[maxLen]using h2⟩,h3,hll⟩;intro j u hu;rw[dR];simp only[fu,fK,qO,sK]at hu;have hj:j<n*sz:=by
   rcases ww j (n*sz)with q|q
   .exact q
   .rw[BT (by simp;omega)]at hu;cases hu
  rw[aFv,BY hj,aFZ]at hu;simp only[World.cell?,hw,aET,GE,aFk,pp];have hL:=fQ s cs;rw[Fr aGl];exact hu
 .cases e
def vu:Int->Bool
 |.ofNat n=>Nat.ble n 4000|.negSucc n=>Nat.ble n 4000
theorem zy(h:vu x=true):-4001<=x/\x<=4000:=by
 cases x with
 |ofNat n=>have:=qr h;have e:Int.ofNat n=(n:Int):=rfl;rw[e];constructor<;>omega|negSucc n=>
  have:=qr h;have e:Int.negSucc n = -(n:Int)-1:=by rw[Int.negSucc_eq];omega
  rw[e];constructor<;>omega
theorem vq{k:IntKind}(h:oV k=true):k=.i64:=by cases k<;>simp[oV]at h;rfl
def tG(h:Hp):List AV->Option (List gr)
 |[]=>some []|x::l=>match l with
  |[]=>none|y::l=>match x with
   |.int k v=>match oV k,vu v,mW h 1 y,tG h l with|true,true,some (_,ns),some rs=>some (⟨v,ns⟩::rs)|_,_,_,_=>none
   |_=>none
def arv(d:gr):Prop:=d.addr.length<=4000/\-1099511627776<=d.var/\d.var<=1099511627776/\∀x∈d.addr,cE x
theorem PD{h:Hp}{s:Sg}{w:World}(H:ab s h w):∀{l:List AV}{ds:List gr},tG h l=some ds ->
  ∃L:List cO,aG s l=L.flatMap cO.cells/\(∀r∈L,r.bU w w.heap.size)/\L.map cO.d=ds/\∀d∈ds,arv d
 |[],ds,e=>by simp[tG]at e;subst e;exact⟨[],rfl,aGn,rfl,aGn⟩|[x],ds,e=>by simp[tG]at e|x::y::l,ds,e=>by
  simp only[tG]at e;split at e<;>try cases e
  rename_i k v;split at e<;>try cases e
  rename_i m ns rs h1 h2 h3 h4;obtain⟨A,c,e1,s1,b1,r1,t1⟩:=pN h3 H;obtain⟨L,g1,g2,g3,g4⟩:=PD H h4;have:=vq h1;subst this;simp only[Nat.mul_one]at t1;subst t1;refine⟨⟨v,A,c,ns⟩::L,by simp[aG,ah,e1,g1,cO.cells],?_,by simp[g3,cO.d],?_⟩
  .intro r hr;rcases AT.1 hr with rfl|hr
   .exact s1
   .exact g2 r hr
  .intro d hd;have sm:=zy h2;rcases AT.1 hd with rfl|hd
   .exact⟨b1,by simp only;omega,by simp only;omega,r1⟩
   .exact g4 d hd
def rI(h:Hp):List AV->Option (List pX)
 |[]=>some []|x::l=>match l with
  |[]=>none|y::l=>match l with
   |[]=>none|z::l=>match x with
    |.int k v=>match oV k,vu v,mW h 1 y,mW h 1 z,rI h l with|true,true,some (_,ns),some (_,ms),some rs=>some (⟨v,ns,ms⟩::rs)|_,_,_,_,_=>none
    |_=>none
def arw(d:pX):Prop:=d.addr.length<=4000/\d.data.length<=4000/\cE d.on/\(∀x∈d.addr,cE x)/\∀x∈d.data,cE x
theorem PF{h:Hp}{s:Sg}{w:World}(H:ab s h w):∀{l:List AV}{ds:List pX},rI h l=some ds ->
  ∃L:List dM,aG s l=L.flatMap dM.cells/\(∀r∈L,r.bU w w.heap.size)/\L.map dM.d=ds/\∀d∈ds,arw d
 |[],ds,e=>by simp[rI]at e;subst e;exact⟨[],rfl,aGn,rfl,aGn⟩|[x],ds,e=>by simp[rI]at e|[x,y],ds,e=>by simp[rI]at e|x::y::z::l,ds,e=>by
  simp only[rI]at e;split at e<;>try cases e
  rename_i k v;split at e<;>try cases e
  rename_i m ns m' ms rs h1 h2 h3 h3' h4;obtain⟨A,c,e1,s1,b1,r1,t1⟩:=pN h3 H;obtain⟨A',c',e1',s1',b1',r1',t1'⟩:=pN h3' H;obtain⟨L,g1,g2,g3,g4⟩:=PF H h4;have:=vq h1;subst this;simp only[Nat.mul_one]at t1 t1';subst t1 t1';refine⟨⟨v,A,c,ns,A',c',ms⟩::L,by simp[aG,ah,e1,e1',g1,dM.cells],?_,by simp[g3,dM.d],?_⟩
  .intro r hr;rcases AT.1 hr with rfl|hr
   .exact⟨s1,s1'⟩
   .exact g2 r hr
  .intro d hd;have sm:=zy h2;rcases AT.1 hd with rfl|hd
   .exact⟨b1,b1',by unfold cE;simp only;omega,r1,r1'⟩
   .exact g4 d hd
def oP(h:Hp):List AV->Option (List cS)
 |[]=>some []|x::l=>match l with
  |y::z::u::v::l=>match x,y,z with
   |.int k a,.int k' wd,.bool any=>match oV k,oV k',vu a,vu wd,vJ h 2 u,vJ h 3 v,oP h l with
    |true,true,true,true,some (_,lr),some (_,lw),some ms=>match tG h lr,rI h lw with|some rs,some ws=>some (⟨a,wd,any,rs,ws⟩::ms)|_,_=>none
    |_,_,_,_,_,_,_=>none
   |_,_,_=>none
  |_=>none
theorem PC{h:Hp}{s:Sg}{w:World}(H:ab s h w):∀{l:List AV}{ds:List cS},oP h l=some ds ->
  ∃L:List bk,aG s l=L.flatMap bk.cells/\(∀r∈L,r.bU w w.heap.size)/\L.map bk.d=ds/\∀d∈ds,qt d
 |[],ds,e=>by simp[oP]at e;subst e;exact⟨[],rfl,aGn,rfl,aGn⟩|[x],ds,e=>by simp[oP]at e|[x,y],ds,e=>by simp[oP]at e|[x,y,z],ds,e=>by simp[oP]at e|[x,y,z,u],ds,e=>by simp[oP]at e|x::y::z::u::v::l,ds,e=>by
  simp only[oP]at e;split at e<;>try cases e
  rename_i k a k' wd any;split at e<;>try cases e
  rename_i nr lr nw lw ms h1 h2 h3 h4 h5 h6 h7;split at e<;>try cases e
  rename_i rs ws h8 h9;obtain⟨A,c,e1,s1,b1,t1⟩:=Fm h5 H;obtain⟨A',c',e2,s2,b2,t2⟩:=Fm h6 H;obtain⟨LR,r1,r2,r3,r4⟩:=PD H h8;obtain⟨LW,w1,w2,w3,w4⟩:=PF H h9;obtain⟨L,g1,g2,g3,g4⟩:=PC H h7;have:=vq h1;subst this;have:=vq h2;subst this;have nR:LR.length=nr:=by
   have q:(aG s lr).length=(LR.flatMap cO.cells).length:=by rw[r1]
   have q2:(LR.flatMap cO.cells).length=LR.length*2:=by
    clear r1 r2 r3 q
    induction LR with|nil=>rfl|cons x l ih=>simp only[Fn,aO,ih];simp[cO.cells];omega
   rw[fQ,t1,q2]at q;omega
  have nW:LW.length=nw:=by
   have q:(aG s lw).length=(LW.flatMap dM.cells).length:=by rw[w1]
   have q2:(LW.flatMap dM.cells).length=LW.length*3:=by
    clear w1 w2 w3 q
    induction LW with|nil=>rfl|cons x l ih=>simp only[Fn,aO,ih];simp[dM.cells];omega
   rw[fQ,t2,q2]at q;omega
  rw[r1]at s1;rw[w1]at s2;subst nR nW;refine⟨⟨a,wd,any,A,c,LR,A',c',LW⟩::L,by simp[aG,ah,e1,e2,g1,bk.cells],?_,by simp[g3,bk.d,r3,w3],?_⟩
  .intro m hm;rcases AT.1 hm with rfl|hm
   .exact⟨s1,r2,s2,w2⟩
   .exact g2 m hm
  .intro d hd;have sa:=zy h3;have sw:=zy h4;rcases AT.1 hd with rfl|hd
   .have lr:rs.length=LR.length:=by rw[<-r3];simp
    have lw:ws.length=LW.length:=by rw[<-w3];simp
    exact⟨⟨by unfold cE;simp only;omega,by simp only;omega⟩,by unfold cE;simp only;omega,by simp only;omega,by simp only;omega,fun r hr=>r4 r hr,fun r hr=>w4 r hr⟩
   .exact g4 d hd
def KZ(h:Hp)(vs:List AV):Option aZ:=match vs with
 |[.agg [.int k vars,si,sl,so,sb,sc,sm,sa]]=>match oV k,OC vars,mW h 1 si,mW h 3 sl,mW h 1 so,mW h 1 sb,mW h 1 sc,vJ h 5 sm,mW h 3 sa with
  |true,true,some (_,i),some (_,l),some (_,o),some (_,b),some (_,c),some (_,m),some (_,a)=>match three l,three a,oP h m with|some l,some a,some m=>some ⟨vars,i,l.map (fun x=>⟨x.1,x.2.1,x.2.2⟩),o,b,c,m,a.map (fun x=>⟨x.1,x.2.1,x.2.2⟩)⟩|_,_,_=>none
  |_,_,_,_,_,_,_,_,_=>none
 |_=>none
def KY:Cl:=fun f vs h=>match Nat.beq f 100 with
 |true=>match KZ h vs with|some d=>some (.int .i64 (fx d),h)|none=>none
 |false=>none
theorem aeE{vs:List AV}{d:aZ}(e:KZ h vs=some d)(H:ab s h w) :
  ∃N:aV,(aG s vs).toArray=#[N.v]/\N.bU w w.heap.size/\Fit N.d/\N.d=d:=by
 unfold KZ at e;split at e<;>try cases e
 rename_i k vars si sl so sb sc sm sa;split at e<;>try cases e
 rename_i ni i nl l no o nb b nc c nm ml na a' hk hv h1 h2 h3 h4 h5 h6 h7;split at e<;>try cases e
 rename_i l3 a3 mD hl3 ha3 hm3;have hk':=vq hk;subst hk';obtain⟨A1,c1,e1,s1,b1,r1,t1⟩:=pN h1 H;obtain⟨A2,c2,e2,s2,b2,r2,t2⟩:=pN h2 H;obtain⟨A3,c3,e3,s3,b3,r3,t3⟩:=pN h3 H;obtain⟨A4,c4,e4,s4,b4,r4,t4⟩:=pN h4 H;obtain⟨A5,c5,e5,s5,b5,r5,t5⟩:=pN h5 H;obtain⟨A6,c6,e6,s6,b6,t6⟩:=Fm h6 H;obtain⟨A7,c7,e7,s7,b7,r7,t7⟩:=pN h7 H;obtain⟨LM,m1,m2,m3,m4⟩:=PC H hm3;have hl:=Nz hl3;have ha:=Nz ha3;have len3:∀r:List (Int×Int×Int),(r.flatMap (fun x=>[x.1,x.2.1,x.2.2])).length=r.length*3:=by intro r;induction r with|nil=>rfl|cons x r ih=>simp only[Fn,aO,ih];simp;omega
 have n2:l3.length=nl:=by have:=len3 l3;rw[<-hl,t2]at this;omega
 have n7:a3.length=na:=by have:=len3 a3;rw[<-ha,t7]at this;omega
 have n6:LM.length=nm:=by
  have q:(aG s ml).length=(LM.flatMap bk.cells).length:=by rw[m1]
  have q2:(LM.flatMap bk.cells).length=LM.length*5:=by
   clear m1 m2 m3 q
   induction LM with|nil=>rfl|cons x l ih=>simp only[Fn,aO,ih];simp[bk.cells];omega
  rw[fQ,t6,q2]at q;omega
 rw[m1]at s6;have nd:mD.length=nm:=by rw[<-m3];simpa using n6
 simp only[Nat.mul_one]at t1 t3 t4 t5;refine⟨⟨vars,A1,c1,i,A2,c2,l3.map (fun x=>⟨x.1,x.2.1,x.2.2⟩),A3,c3,o,A4,c4,b,A5,c5,c,A6,c6,LM,A7,c7,a3.map (fun x=>⟨x.1,x.2.1,x.2.2⟩)⟩,?_,⟨?_,?_,?_,?_,?_,?_,m2,?_⟩,⟨?_,?_,?_,?_,?_,?_,?_,?_⟩,by simp[aV.d,m3]⟩
 .simp only[aG,ah,e1,e2,e3,e4,e5,e6,e7,aV.v,aV.fs,t1,t3,t4,t5,aR,n2,n7,n6]
 .simp only[t1];exact s1
 .simp only[aR,n2];have:ints l=(l3.map (fun x=>(⟨x.1,x.2.1,x.2.2⟩:fv))).flatMap fv.cells:=by rw[hl];simp[ints,fv.cells,List.map_flatMap,aEX]
  rw[<-this];exact s2
 .simp only[t3];exact s3
 .simp only[t4];exact s4
 .simp only[t5];exact s5
 .simp only[n6];exact s6
 .simp only[aR,n7];have:ints a'=(a3.map (fun x=>(⟨x.1,x.2.1,x.2.2⟩:ga))).flatMap ga.cells:=by rw[ha];simp[ints,ga.cells,List.map_flatMap,aEX]
  rw[<-this];exact s7
 .exact VD hv
 .exact⟨by simp[aV.d,t1];omega,r1⟩
 .refine⟨by simp[aV.d,n2];omega,?_⟩;intro x hx;simp only[aV.d,IN]at hx;obtain⟨y,hy,rfl⟩:=hx;have mem:∀z∈[y.1,y.2.1,y.2.2],z∈l:=by intro z hz;rw[hl];exact WP.2 ⟨y,hy,hz⟩
  exact⟨r2 _ (mem _ aGn),r2 _ (mem _ aGn),r2 _ (mem _ aGn)⟩
 .exact⟨by simp[aV.d,t3];omega,r3⟩
 .exact⟨by simp[aV.d,t4];omega,r4⟩
 .exact⟨by simp[aV.d,t5];omega,r5⟩
 .refine⟨by simp[aV.d,n6];omega,?_⟩;intro m hm;simp only[aV.d]at hm;rw[m3]at hm;exact m4 m hm
 .refine⟨by simp[aV.d,n7];omega,?_⟩;intro x hx;simp only[aV.d,IN]at hx;obtain⟨y,hy,rfl⟩:=hx;have mem:∀z∈[y.1,y.2.1,y.2.2],z∈a':=by intro z hz;rw[ha];exact WP.2 ⟨y,hy,hz⟩
  exact⟨r7 _ (mem _ aGn),r7 _ (mem _ aGn),r7 _ (mem _ aGn)⟩
theorem agC:db Tryz.prog KY:=by
 intro f vs h v h' e;unfold KY at e;split at e<;>try cases e
 rename_i hf;have hf:=aK hf;subst hf;split at e<;>try cases e
 rename_i d hd;refine⟨⟨Tryz.f100,_,Tryz.func100,aGm,rfl⟩,?_⟩;intro F w args hne hF hw;obtain⟨aIy,aHM⟩:=hne;obtain⟨N,n1,n2,n3,n4⟩:=aeE hd (hF aIy aHM).1;rw[<-(hF aIy aHM).2,n1];refine(UG N w n2 n3).mono ?_;rintro en w' ⟨rfl,hb⟩;refine⟨F,_,rfl,⟨fun s hs=>⟨s,hs,Below.ext hb⟩,fun s hs=>⟨s,hs,Below.ext hb⟩⟩,fun s hs=>⟨Below.hrel (hF s hs).1 hb,by rw[n4];rfl⟩⟩
mutual
def eqv:AV->AV->Bool
 |.bool a,.bool b=>(match a,b with|true,true=>true|false,false=>true|_,_=>false)
 |.int k a,.int l b=>(match decide (k=l)with|true=>decide (a=b)|false=>false)
 |.str a,.str b=>decide (a.data.toList=b.data.toList)|.cX,.cX=>true|.ptr a i,.ptr b j=>(match Nat.beq a b with|true=>Nat.beq i j|false=>false)
 |.ai,.ai=>true|.slice a i n u c,.slice b j m v d=>(match Nat.beq a b,Nat.beq i j,Nat.beq n m,Nat.beq c d,u,v with|true,true,true,true,true,true=>true|true,true,true,true,false,false=>true|_,_,_,_,_,_=>false)
 |.lW a i i' c,.lW b j j' d=>(match Nat.beq a b,Nat.beq i j,Nat.beq i' j',Nat.beq c d with|true,true,true,true=>true|_,_,_,_=>false)
 |.dt,.dt=>true|.map a,.map b=>Nat.beq a b|.func f x c,.func g y d=>(match Nat.beq f g,nJ x y with|true,true=>nJ c d|_,_=>false)
 |.dn,.dn=>true|.dW,.dW=>true|.agg a,.agg b=>nJ a b|.bB a,.bB b=>nJ a b|_,_=>false
termination_by structural x=>x
def nJ:List AV->List AV->Bool
 |[],[]=>true|x::l,y::m=>(match eqv x y with|true=>nJ l m|false=>false)
 |_,_=>false
termination_by structural x=>x
end
mutual
theorem ej:∀a b:AV,eqv a b=true->a=b:=by
 intro a b h;cases a<;>cases b<;>simp only[eqv]at h<;>try rfl
 all_goals first|cases h|skip
 case bool.bool a b=>cases a<;>cases b<;>first|rfl|cases h
 case int.int k a l b=>
  split at h
  .rename_i hk;rw[Pi hk,Pi h]
  .cases h
 case str.str a b=>obtain⟨⟨a⟩⟩:=a;obtain⟨⟨b⟩⟩:=b;have h:a=b:=Pi h;rw[h]
 case ptr.ptr a i b j=>
  split at h
  .rename_i hk;rw[aK hk,aK h]
  .cases h
 case slice.slice a i n u c b j m v d=>
  split at h
  .rename_i h1 h2 h3 h4;rw[aK h1,aK h2,aK h3,aK h4]
  .rename_i h1 h2 h3 h4;rw[aK h1,aK h2,aK h3,aK h4]
  .cases h
 case lW.lW a i i' c b j j' d=>
  split at h
  .rename_i h1 h2 h3 h4;rw[aK h1,aK h2,aK h3,aK h4]
  .cases h
 case map.map a b=>rw[aK h]
 case func.func f x c g y d=>
  split at h
  .rename_i h1 h2;rw[aK h1,rE x y h2,rE c d h]
  .cases h
 case agg.agg a b=>rw[rE a b h]
 case bB.bB a b=>rw[rE a b h]
theorem rE:∀a b:List AV,nJ a b=true->a=b
 |[],[],_=>rfl|[],_::_,h=>by simp[nJ]at h|_::_,[],h=>by simp[nJ]at h|x::l,y::m,h=>by
  simp only[nJ]at h;split at h
  .rename_i q;rw[ej x y q,rE l m h]
  .cases h
end
def vd:List (AV×AV×Nat)->List (AV×AV×Nat)->Bool
 |[],[]=>true|x::l,y::m=>match eqv x.1 y.1,eqv x.2.1 y.2.1,Nat.beq x.2.2 y.2.2 with|true,true,true=>vd l m|_,_,_=>false
 |_,_=>false
theorem Qq:∀a b:List (AV×AV×Nat),vd a b=true->a=b
 |[],[],_=>rfl|[],_::_,h=>by simp[vd]at h|_::_,[],h=>by simp[vd]at h|(x,y,n)::l,(x',y',n')::m,h=>by
  simp only[vd]at h;split at h
  .rename_i h1 h2 h3;rw[ej _ _ h1,ej _ _ h2,aK h3,Qq l m h]
  .cases h
def Ou:Option Nat->Option Nat->Bool
 |none,none=>true|some a,some b=>Nat.beq a b|_,_=>false
theorem ahh{a b:Option Nat}(h:Ou a b=true):a=b:=by cases a<;>cases b<;>simp only[Ou]at h<;>first|rfl|cases h|rw[aK h]
def Ov:aE->aE->Bool
 |.cells l t o,.cells m u p=>match nJ l m,Nat.beq t u with|true,true=>Ou o p|_,_=>false
 |.map e c,.map f d=>match vd e f with|true=>Nat.beq c d|false=>false
 |_,_=>false
theorem ahi{a b:aE}(h:Ov a b=true):a=b:=by
 cases a<;>cases b<;>simp only[Ov]at h<;>try cases h
 .split at h
  .rename_i h1 h2;rw[rE _ _ h1,aK h2,ahh h]
  .cases h
 .split at h
  .rename_i h1;rw[Qq _ _ h1,aK h]
  .cases h
def qe:Tr aE->Tr aE->Bool
 |.nil,.nil=>true|.node v l r,.node v' l' r'=>match v,v' with
  |none,none=>(match qe l l' with|true=>qe r r'|false=>false)
  |some a,some b=>(match Ov a b,qe l l' with|true,true=>qe r r'|_,_=>false)
  |_,_=>false
 |_,_=>false
theorem vr:∀a b:Tr aE,qe a b=true->a=b
 |.nil,.nil,_=>rfl|.nil,.node ..,h=>by simp[qe]at h|.node ..,.nil,h=>by simp[qe]at h|.node v l r,.node v' l' r',h=>by
  simp only[qe]at h;cases v<;>cases v'<;>simp only[]at h<;>try cases h
  .split at h
   .rename_i h1;rw[vr l l' h1,vr r r' h]
   .cases h
  .split at h
   .rename_i h1 h2;rw[ahi h1,vr l l' h2,vr r r' h]
   .cases h
def Ew(a b:Hp):Bool:=match Nat.beq a.next b.next with|true=>qe a.tr b.tr|false=>false
theorem Qr{a b:Hp}(h:Ew a b=true):a=b:=by
 unfold Ew at h;split at h
 .rename_i h1;obtain⟨t,n⟩:=a;obtain⟨t',n'⟩:=b;have h1:n=n':=aK h1;have h2:t=t':=vr _ _ h;rw[h1,h2]
 .cases h
def jP(g:FuncId)(us:List AV)(q:Hp)(v:AV)(q':Hp):Cl:=fun f vs h=>match Nat.beq f g with
 |true=>match nJ vs us with
  |true=>match Ew h q with|true=>some (v,q')|false=>none
  |false=>none
 |false=>none
def kP(r:Option (AV×Hp))(v:AV)(q:Hp):Bool:=match r with
 |some (v',q')=>match eqv v' v with|true=>Ew q' q|false=>false
 |none=>false
theorem mP{P:Program}{E:Env}(hE:kR P E){dr:Dr}(hdr:GI P dr){orc:Cl}(ho:db P orc)(k:Nat){g:FuncId}{us:List AV}{q:Hp}{v:AV}{q':Hp}(e:kP (j2 P E (dH P E dr orc k) g us q) v q'=true):db P (orElse (jP g us q v q') orc):=by
 refine We ?_ ho;intro f vs h u h' hx;unfold jP at hx;split at hx<;>try cases hx
 rename_i h1;split at hx<;>try cases hx
 rename_i h2;split at hx<;>try cases hx
 rename_i h3;obtain rfl:=aK h1;obtain rfl:=rE _ _ h2;obtain rfl:=Qr h3;unfold kP at e;split at e
 .rename_i aIJ aIp he;split at e
  .rename_i h4;have a:=ej _ _ h4;have b:=Qr e;subst a;subst b;exact WB hE (Zx4 hE hdr ho k).1 f vs h aIJ aIp he
  .cases e
 .cases e
theorem aed{P:Program}{call:Cl}(hc:db P call){f:FuncId}{vs:List AV}{v:AV}{h':Hp}{x:Value}(he:call f vs ⟨.nil,1⟩=some (v,h'))
  (hx:iJ v=some x) (hw:cV 1 vs=true) (s:Sg) (w:World) :
  Calls P f (aG s vs).toArray w fun e w'=>e=.returned x/\Below w.heap.size w w':=by
 have:=(hc f vs ⟨.nil,1⟩ v h' he).2 (fun s'=>s'=s) w (aG s vs).toArray ⟨s,rfl⟩
  (fun s' e=>⟨⟨fun i o hi=>by simp[Tr.get]at hi,fun i j o o' hi=>by simp[Tr.get]at hi,fun i o hi=>by simp[Tr.get]at hi,fun i o hi=>by simp[Tr.get]at hi⟩,by rw[e]⟩) hw
 refine this.mono ?_;rintro e w' ⟨F',V,rfl,hE',hF'⟩;obtain⟨s',hs',hx'⟩:=hE'.to s rfl;exact⟨by rw[<-(hF' s' hs').2,jL hx],hx'.os,hx'.tape,hx'.output,hx'.size,fun b hb=>hx'.frame b hb (fun i o hi=>by simp[Tr.get]at hi)⟩
def Tr.CB{α:Type}(p:Nat->α->Prop):Tr α->Nat->Nat->Prop
 |.nil,_,_=>True|.node v l r,a,b=>(match v with|some x=>p b x|none=>True)/\Tr.CB p l (2*a) (a+b)/\Tr.CB p r (2*a) (2*a+b)
theorem Tr.Ho{α:Type}{p:Nat->α->Prop}:∀{t:Tr α}{a b:Nat},Tr.CB p t a b->∀n x,t.get n=some x->p (a*n+b) x
 |.nil,_,_,_,n,x,h=>by simp[Tr.get]at h|.node v l r,a,b,⟨h1,h2,h3⟩,n,x,h=>by
  cases n with
  |zero=>simp[Tr.get]at h;subst h;simpa using h1|succ m=>
   rw[Tr.ya]at h;split at h
   .have:=Tr.Ho h2 _ _ h;rw[show a*(m+1)+b=2*a*(m / 2)+(a+b) by
     have:m=2*(m / 2):=aGl
     rw[show a*(m+1)=a*m+a by rw[Nat.mul_add];simp,show a*m=a*(2*(m / 2)) by rw[<-this],show a*(2*(m / 2))=2*a*(m / 2) by rw[<-Nat.mul_assoc,Nat.mul_comm a 2]];omega]
    exact this
   .have:=Tr.Ho h3 _ _ h;rw[show a*(m+1)+b=2*a*(m / 2)+(2*a+b) by
     have:m=2*(m / 2)+1:=aGl
     rw[show a*(m+1)=a*m+a by rw[Nat.mul_add];simp,show a*m=a*(2*(m / 2)+1) by rw[<-this],show a*(2*(m / 2)+1)=2*a*(m / 2)+a by rw[Nat.mul_add,<-Nat.mul_assoc,Nat.mul_comm a 2];simp];omega]
    exact this
set_option maxRecDepth 100000
noncomputable def env:Env:=.node none (.node none (.node none (.node (some Tryz.f7) (.node (some Tryz.f15) (.node (some Tryz.f31) (.node (some Tryz.f63) (.node (some Tryz.f127) (.node (some Tryz.f255) (.nil) (.nil)) (.nil)) (.node (some Tryz.f191) (.nil) (.nil))) (.node (some Tryz.f95) (.node (some Tryz.f159) (.nil) (.nil)) (.node (some Tryz.f223) (.nil) (.nil)))) (.node (some Tryz.f47) (.node (some Tryz.f79) (.node (some Tryz.f143) (.nil) (.nil)) (.node (some Tryz.f207) (.nil) (.nil))) (.node (some Tryz.f111) (.node (some Tryz.f175) (.nil) (.nil)) (.node (some Tryz.f239) (.nil) (.nil))))) (.node none (.node (some Tryz.f39) (.node (some Tryz.f71) (.node (some Tryz.f135) (.nil) (.nil)) (.node (some Tryz.f199) (.nil) (.nil))) (.node (some Tryz.f103) (.node (some Tryz.f167) (.nil) (.nil)) (.node (some Tryz.f231) (.nil) (.nil)))) (.node none (.node (some Tryz.f87) (.node (some Tryz.f151) (.nil) (.nil)) (.node (some Tryz.f215) (.nil) (.nil))) (.node (some Tryz.f119) (.node (some Tryz.f183) (.nil) (.nil)) (.node (some Tryz.f247) (.nil) (.nil)))))) (.node (some Tryz.f11) (.node (some Tryz.f19) (.node (some Tryz.f35) (.node (some Tryz.f67) (.node (some Tryz.f131) (.node (some Tryz.f259) (.nil) (.nil)) (.nil)) (.node (some Tryz.f195) (.nil) (.nil))) (.node none (.node (some Tryz.f163) (.nil) (.nil)) (.node (some Tryz.f227) (.nil) (.nil)))) (.node (some Tryz.f51) (.node (some Tryz.f83) (.node (some Tryz.f147) (.nil) (.nil)) (.node (some Tryz.f211) (.nil) (.nil))) (.node (some Tryz.f115) (.node (some Tryz.f179) (.nil) (.nil)) (.node (some Tryz.f243) (.nil) (.nil))))) (.node (some Tryz.f27) (.node (some Tryz.f43) (.node (some Tryz.f75) (.node (some Tryz.f139) (.nil) (.nil)) (.node (some Tryz.f203) (.nil) (.nil))) (.node (some Tryz.f107) (.node (some Tryz.f171) (.nil) (.nil)) (.node (some Tryz.f235) (.nil) (.nil)))) (.node (some Tryz.f59) (.node (some Tryz.f91) (.node (some Tryz.f155) (.nil) (.nil)) (.node (some Tryz.f219) (.nil) (.nil))) (.node (some Tryz.f123) (.node (some Tryz.f187) (.nil) (.nil)) (.node (some Tryz.f251) (.nil) (.nil))))))) (.node (some Tryz.f5) (.node none (.node (some Tryz.f17) (.node (some Tryz.f33) (.node (some Tryz.f65) (.node (some Tryz.f129) (.node (some Tryz.f257) (.nil) (.nil)) (.nil)) (.node (some Tryz.f193) (.nil) (.nil))) (.node none (.node (some Tryz.f161) (.nil) (.nil)) (.node (some Tryz.f225) (.nil) (.nil)))) (.node (some Tryz.f49) (.node (some Tryz.f81) (.node (some Tryz.f145) (.nil) (.nil)) (.node (some Tryz.f209) (.nil) (.nil))) (.node (some Tryz.f113) (.node (some Tryz.f177) (.nil) (.nil)) (.node (some Tryz.f241) (.nil) (.nil))))) (.node none (.node (some Tryz.f41) (.node (some Tryz.f73) (.node (some Tryz.f137) (.nil) (.nil)) (.node (some Tryz.f201) (.nil) (.nil))) (.node (some Tryz.f105) (.node (some Tryz.f169) (.nil) (.nil)) (.node (some Tryz.f233) (.nil) (.nil)))) (.node none (.node (some Tryz.f89) (.node (some Tryz.f153) (.nil) (.nil)) (.node (some Tryz.f217) (.nil) (.nil))) (.node (some Tryz.f121) (.node (some Tryz.f185) (.nil) (.nil)) (.node (some Tryz.f249) (.nil) (.nil)))))) (.node none (.node (some Tryz.f21) (.node (some Tryz.f37) (.node (some Tryz.f69) (.node (some Tryz.f133) (.node (some Tryz.f261) (.nil) (.nil)) (.nil)) (.node (some Tryz.f197) (.nil) (.nil))) (.node (some Tryz.f101) (.node (some Tryz.f165) (.nil) (.nil)) (.node (some Tryz.f229) (.nil) (.nil)))) (.node none (.node (some Tryz.f85) (.node (some Tryz.f149) (.nil) (.nil)) (.node (some Tryz.f213) (.nil) (.nil))) (.node (some Tryz.f117) (.node (some Tryz.f181) (.nil) (.nil)) (.node (some Tryz.f245) (.nil) (.nil))))) (.node (some Tryz.f29) (.node (some Tryz.f45) (.node (some Tryz.f77) (.node (some Tryz.f141) (.nil) (.nil)) (.node (some Tryz.f205) (.nil) (.nil))) (.node (some Tryz.f109) (.node (some Tryz.f173) (.nil) (.nil)) (.node (some Tryz.f237) (.nil) (.nil)))) (.node (some Tryz.f61) (.node (some Tryz.f93) (.node (some Tryz.f157) (.nil) (.nil)) (.node (some Tryz.f221) (.nil) (.nil))) (.node (some Tryz.f125) (.node (some Tryz.f189) (.nil) (.nil)) (.node (some Tryz.f253) (.nil) (.nil)))))))) (.node none (.node (some Tryz.f4) (.node (some Tryz.f8) (.node (some Tryz.f16) (.node (some Tryz.f32) (.node (some Tryz.f64) (.node (some Tryz.f128) (.node (some Tryz.f256) (.nil) (.nil)) (.nil)) (.node (some Tryz.f192) (.nil) (.nil))) (.node (some Tryz.f96) (.node (some Tryz.f160) (.nil) (.nil)) (.node (some Tryz.f224) (.nil) (.nil)))) (.node (some Tryz.f48) (.node (some Tryz.f80) (.node (some Tryz.f144) (.nil) (.nil)) (.node (some Tryz.f208) (.nil) (.nil))) (.node (some Tryz.f112) (.node (some Tryz.f176) (.nil) (.nil)) (.node (some Tryz.f240) (.nil) (.nil))))) (.node none (.node (some Tryz.f40) (.node (some Tryz.f72) (.node (some Tryz.f136) (.nil) (.nil)) (.node (some Tryz.f200) (.nil) (.nil))) (.node (some Tryz.f104) (.node (some Tryz.f168) (.nil) (.nil)) (.node (some Tryz.f232) (.nil) (.nil)))) (.node none (.node (some Tryz.f88) (.node (some Tryz.f152) (.nil) (.nil)) (.node (some Tryz.f216) (.nil) (.nil))) (.node (some Tryz.f120) (.node (some Tryz.f184) (.nil) (.nil)) (.node (some Tryz.f248) (.nil) (.nil)))))) (.node (some Tryz.f12) (.node (some Tryz.f20) (.node (some Tryz.f36) (.node (some Tryz.f68) (.node (some Tryz.f132) (.node (some Tryz.f260) (.nil) (.nil)) (.nil)) (.node (some Tryz.f196) (.nil) (.nil))) (.node (some Tryz.f100) (.node (some Tryz.f164) (.nil) (.nil)) (.node (some Tryz.f228) (.nil) (.nil)))) (.node none (.node (some Tryz.f84) (.node (some Tryz.f148) (.nil) (.nil)) (.node (some Tryz.f212) (.nil) (.nil))) (.node (some Tryz.f116) (.node (some Tryz.f180) (.nil) (.nil)) (.node (some Tryz.f244) (.nil) (.nil))))) (.node (some Tryz.f28) (.node (some Tryz.f44) (.node (some Tryz.f76) (.node (some Tryz.f140) (.nil) (.nil)) (.node (some Tryz.f204) (.nil) (.nil))) (.node (some Tryz.f108) (.node (some Tryz.f172) (.nil) (.nil)) (.node (some Tryz.f236) (.nil) (.nil)))) (.node (some Tryz.f60) (.node (some Tryz.f92) (.node (some Tryz.f156) (.nil) (.nil)) (.node (some Tryz.f220) (.nil) (.nil))) (.node (some Tryz.f124) (.node (some Tryz.f188) (.nil) (.nil)) (.node (some Tryz.f252) (.nil) (.nil))))))) (.node (some Tryz.f6) (.node (some Tryz.f10) (.node (some Tryz.f18) (.node (some Tryz.f34) (.node (some Tryz.f66) (.node (some Tryz.f130) (.node (some Tryz.f258) (.nil) (.nil)) (.nil)) (.node (some Tryz.f194) (.nil) (.nil))) (.node none (.node (some Tryz.f162) (.nil) (.nil)) (.node (some Tryz.f226) (.nil) (.nil)))) (.node (some Tryz.f50) (.node (some Tryz.f82) (.node (some Tryz.f146) (.nil) (.nil)) (.node (some Tryz.f210) (.nil) (.nil))) (.node (some Tryz.f114) (.node (some Tryz.f178) (.nil) (.nil)) (.node (some Tryz.f242) (.nil) (.nil))))) (.node (some Tryz.f26) (.node (some Tryz.f42) (.node (some Tryz.f74) (.node (some Tryz.f138) (.nil) (.nil)) (.node (some Tryz.f202) (.nil) (.nil))) (.node (some Tryz.f106) (.node (some Tryz.f170) (.nil) (.nil)) (.node (some Tryz.f234) (.nil) (.nil)))) (.node none (.node (some Tryz.f90) (.node (some Tryz.f154) (.nil) (.nil)) (.node (some Tryz.f218) (.nil) (.nil))) (.node (some Tryz.f122) (.node (some Tryz.f186) (.nil) (.nil)) (.node (some Tryz.f250) (.nil) (.nil)))))) (.node none (.node (some Tryz.f22) (.node (some Tryz.f38) (.node (some Tryz.f70) (.node (some Tryz.f134) (.nil) (.nil)) (.node (some Tryz.f198) (.nil) (.nil))) (.node (some Tryz.f102) (.node (some Tryz.f166) (.nil) (.nil)) (.node (some Tryz.f230) (.nil) (.nil)))) (.node none (.node (some Tryz.f86) (.node (some Tryz.f150) (.nil) (.nil)) (.node (some Tryz.f214) (.nil) (.nil))) (.node (some Tryz.f118) (.node (some Tryz.f182) (.nil) (.nil)) (.node (some Tryz.f246) (.nil) (.nil))))) (.node (some Tryz.f30) (.node (some Tryz.f46) (.node (some Tryz.f78) (.node (some Tryz.f142) (.nil) (.nil)) (.node (some Tryz.f206) (.nil) (.nil))) (.node (some Tryz.f110) (.node (some Tryz.f174) (.nil) (.nil)) (.node (some Tryz.f238) (.nil) (.nil)))) (.node (some Tryz.f62) (.node (some Tryz.f94) (.node (some Tryz.f158) (.nil) (.nil)) (.node (some Tryz.f222) (.nil) (.nil))) (.node (some Tryz.f126) (.node (some Tryz.f190) (.nil) (.nil)) (.node (some Tryz.f254) (.nil) (.nil))))))))
set_option maxRecDepth 100000
theorem af3:Tr.CB (fun f fn=>Tryz.prog.funcs[f]?=some fn/\(fn.name == "runtime.NumGoroutine")=false) env 1 0:=⟨trivial,⟨trivial,⟨trivial,⟨⟨Tryz.func7,aGm⟩,⟨⟨Tryz.func15,aGm⟩,⟨⟨Tryz.func31,aGm⟩,⟨⟨Tryz.func63,aGm⟩,⟨⟨Tryz.func127,aGm⟩,⟨⟨Tryz.func255,aGm⟩,trivial,trivial⟩,trivial⟩,⟨⟨Tryz.func191,aGm⟩,trivial,trivial⟩⟩,⟨⟨Tryz.func95,aGm⟩,⟨⟨Tryz.func159,aGm⟩,trivial,trivial⟩,⟨⟨Tryz.func223,aGm⟩,trivial,trivial⟩⟩⟩,⟨⟨Tryz.func47,aGm⟩,⟨⟨Tryz.func79,aGm⟩,⟨⟨Tryz.func143,aGm⟩,trivial,trivial⟩,⟨⟨Tryz.func207,aGm⟩,trivial,trivial⟩⟩,⟨⟨Tryz.func111,aGm⟩,⟨⟨Tryz.func175,aGm⟩,trivial,trivial⟩,⟨⟨Tryz.func239,aGm⟩,trivial,trivial⟩⟩⟩⟩,⟨trivial,⟨⟨Tryz.func39,aGm⟩,⟨⟨Tryz.func71,aGm⟩,⟨⟨Tryz.func135,aGm⟩,trivial,trivial⟩,⟨⟨Tryz.func199,aGm⟩,trivial,trivial⟩⟩,⟨⟨Tryz.func103,aGm⟩,⟨⟨Tryz.func167,aGm⟩,trivial,trivial⟩,⟨⟨Tryz.func231,aGm⟩,trivial,trivial⟩⟩⟩,⟨trivial,⟨⟨Tryz.func87,aGm⟩,⟨⟨Tryz.func151,aGm⟩,trivial,trivial⟩,⟨⟨Tryz.func215,aGm⟩,trivial,trivial⟩⟩,⟨⟨Tryz.func119,aGm⟩,⟨⟨Tryz.func183,aGm⟩,trivial,trivial⟩,⟨⟨Tryz.func247,aGm⟩,trivial,trivial⟩⟩⟩⟩⟩,⟨⟨Tryz.func11,aGm⟩,⟨⟨Tryz.func19,aGm⟩,⟨⟨Tryz.func35,aGm⟩,⟨⟨Tryz.func67,aGm⟩,⟨⟨Tryz.func131,aGm⟩,⟨⟨Tryz.func259,aGm⟩,trivial,trivial⟩,trivial⟩,⟨⟨Tryz.func195,aGm⟩,trivial,trivial⟩⟩,⟨trivial,⟨⟨Tryz.func163,aGm⟩,trivial,trivial⟩,⟨⟨Tryz.func227,aGm⟩,trivial,trivial⟩⟩⟩,⟨⟨Tryz.func51,aGm⟩,⟨⟨Tryz.func83,aGm⟩,⟨⟨Tryz.func147,aGm⟩,trivial,trivial⟩,⟨⟨Tryz.func211,aGm⟩,trivial,trivial⟩⟩,⟨⟨Tryz.func115,aGm⟩,⟨⟨Tryz.func179,aGm⟩,trivial,trivial⟩,⟨⟨Tryz.func243,aGm⟩,trivial,trivial⟩⟩⟩⟩,⟨⟨Tryz.func27,aGm⟩,⟨⟨Tryz.func43,aGm⟩,⟨⟨Tryz.func75,aGm⟩,⟨⟨Tryz.func139,aGm⟩,trivial,trivial⟩,⟨⟨Tryz.func203,aGm⟩,trivial,trivial⟩⟩,⟨⟨Tryz.func107,aGm⟩,⟨⟨Tryz.func171,aGm⟩,trivial,trivial⟩,⟨⟨Tryz.func235,aGm⟩,trivial,trivial⟩⟩⟩,⟨⟨Tryz.func59,aGm⟩,⟨⟨Tryz.func91,aGm⟩,⟨⟨Tryz.func155,aGm⟩,trivial,trivial⟩,⟨⟨Tryz.func219,aGm⟩,trivial,trivial⟩⟩,⟨⟨Tryz.func123,aGm⟩,⟨⟨Tryz.func187,aGm⟩,trivial,trivial⟩,⟨⟨Tryz.func251,aGm⟩,trivial,trivial⟩⟩⟩⟩⟩⟩,⟨⟨Tryz.func5,aGm⟩,⟨trivial,⟨⟨Tryz.func17,aGm⟩,⟨⟨Tryz.func33,aGm⟩,⟨⟨Tryz.func65,aGm⟩,⟨⟨Tryz.func129,aGm⟩,⟨⟨Tryz.func257,aGm⟩,trivial,trivial⟩,trivial⟩,⟨⟨Tryz.func193,aGm⟩,trivial,trivial⟩⟩,⟨trivial,⟨⟨Tryz.func161,aGm⟩,trivial,trivial⟩,⟨⟨Tryz.func225,aGm⟩,trivial,trivial⟩⟩⟩,⟨⟨Tryz.func49,aGm⟩,⟨⟨Tryz.func81,aGm⟩,⟨⟨Tryz.func145,aGm⟩,trivial,trivial⟩,⟨⟨Tryz.func209,aGm⟩,trivial,trivial⟩⟩,⟨⟨Tryz.func113,aGm⟩,⟨⟨Tryz.func177,aGm⟩,trivial,trivial⟩,⟨⟨Tryz.func241,aGm⟩,trivial,trivial⟩⟩⟩⟩,⟨trivial,⟨⟨Tryz.func41,aGm⟩,⟨⟨Tryz.func73,aGm⟩,⟨⟨Tryz.func137,aGm⟩,trivial,trivial⟩,⟨⟨Tryz.func201,aGm⟩,trivial,trivial⟩⟩,⟨⟨Tryz.func105,aGm⟩,⟨⟨Tryz.func169,aGm⟩,trivial,trivial⟩,⟨⟨Tryz.func233,aGm⟩,trivial,trivial⟩⟩⟩,⟨trivial,⟨⟨Tryz.func89,aGm⟩,⟨⟨Tryz.func153,aGm⟩,trivial,trivial⟩,⟨⟨Tryz.func217,aGm⟩,trivial,trivial⟩⟩,⟨⟨Tryz.func121,aGm⟩,⟨⟨Tryz.func185,aGm⟩,trivial,trivial⟩,⟨⟨Tryz.func249,aGm⟩,trivial,trivial⟩⟩⟩⟩⟩,⟨trivial,⟨⟨Tryz.func21,aGm⟩,⟨⟨Tryz.func37,aGm⟩,⟨⟨Tryz.func69,aGm⟩,⟨⟨Tryz.func133,aGm⟩,⟨⟨Tryz.func261,aGm⟩,trivial,trivial⟩,trivial⟩,⟨⟨Tryz.func197,aGm⟩,trivial,trivial⟩⟩,⟨⟨Tryz.func101,aGm⟩,⟨⟨Tryz.func165,aGm⟩,trivial,trivial⟩,⟨⟨Tryz.func229,aGm⟩,trivial,trivial⟩⟩⟩,⟨trivial,⟨⟨Tryz.func85,aGm⟩,⟨⟨Tryz.func149,aGm⟩,trivial,trivial⟩,⟨⟨Tryz.func213,aGm⟩,trivial,trivial⟩⟩,⟨⟨Tryz.func117,aGm⟩,⟨⟨Tryz.func181,aGm⟩,trivial,trivial⟩,⟨⟨Tryz.func245,aGm⟩,trivial,trivial⟩⟩⟩⟩,⟨⟨Tryz.func29,aGm⟩,⟨⟨Tryz.func45,aGm⟩,⟨⟨Tryz.func77,aGm⟩,⟨⟨Tryz.func141,aGm⟩,trivial,trivial⟩,⟨⟨Tryz.func205,aGm⟩,trivial,trivial⟩⟩,⟨⟨Tryz.func109,aGm⟩,⟨⟨Tryz.func173,aGm⟩,trivial,trivial⟩,⟨⟨Tryz.func237,aGm⟩,trivial,trivial⟩⟩⟩,⟨⟨Tryz.func61,aGm⟩,⟨⟨Tryz.func93,aGm⟩,⟨⟨Tryz.func157,aGm⟩,trivial,trivial⟩,⟨⟨Tryz.func221,aGm⟩,trivial,trivial⟩⟩,⟨⟨Tryz.func125,aGm⟩,⟨⟨Tryz.func189,aGm⟩,trivial,trivial⟩,⟨⟨Tryz.func253,aGm⟩,trivial,trivial⟩⟩⟩⟩⟩⟩⟩,⟨trivial,⟨⟨Tryz.func4,aGm⟩,⟨⟨Tryz.func8,aGm⟩,⟨⟨Tryz.func16,aGm⟩,⟨⟨Tryz.func32,aGm⟩,⟨⟨Tryz.func64,aGm⟩,⟨⟨Tryz.func128,aGm⟩,⟨⟨Tryz.func256,aGm⟩,trivial,trivial⟩,trivial⟩,⟨⟨Tryz.func192,aGm⟩,trivial,trivial⟩⟩,⟨⟨Tryz.func96,aGm⟩,⟨⟨Tryz.func160,aGm⟩,trivial,trivial⟩,⟨⟨Tryz.func224,aGm⟩,trivial,trivial⟩⟩⟩,⟨⟨Tryz.func48,aGm⟩,⟨⟨Tryz.func80,aGm⟩,⟨⟨Tryz.func144,aGm⟩,trivial,trivial⟩,⟨⟨Tryz.func208,aGm⟩,trivial,trivial⟩⟩,⟨⟨Tryz.func112,aGm⟩,⟨⟨Tryz.func176,aGm⟩,trivial,trivial⟩,⟨⟨Tryz.func240,aGm⟩,trivial,trivial⟩⟩⟩⟩,⟨trivial,⟨⟨Tryz.func40,aGm⟩,⟨⟨Tryz.func72,aGm⟩,⟨⟨Tryz.func136,aGm⟩,trivial,trivial⟩,⟨⟨Tryz.func200,aGm⟩,trivial,trivial⟩⟩,⟨⟨Tryz.func104,aGm⟩,⟨⟨Tryz.func168,aGm⟩,trivial,trivial⟩,⟨⟨Tryz.func232,aGm⟩,trivial,trivial⟩⟩⟩,⟨trivial,⟨⟨Tryz.func88,aGm⟩,⟨⟨Tryz.func152,aGm⟩,trivial,trivial⟩,⟨⟨Tryz.func216,aGm⟩,trivial,trivial⟩⟩,⟨⟨Tryz.func120,aGm⟩,⟨⟨Tryz.func184,aGm⟩,trivial,trivial⟩,⟨⟨Tryz.func248,aGm⟩,trivial,trivial⟩⟩⟩⟩⟩,⟨⟨Tryz.func12,aGm⟩,⟨⟨Tryz.func20,aGm⟩,⟨⟨Tryz.func36,aGm⟩,⟨⟨Tryz.func68,aGm⟩,⟨⟨Tryz.func132,aGm⟩,⟨⟨Tryz.func260,aGm⟩,trivial,trivial⟩,trivial⟩,⟨⟨Tryz.func196,aGm⟩,trivial,trivial⟩⟩,⟨⟨Tryz.func100,aGm⟩,⟨⟨Tryz.func164,aGm⟩,trivial,trivial⟩,⟨⟨Tryz.func228,aGm⟩,trivial,trivial⟩⟩⟩,⟨trivial,⟨⟨Tryz.func84,aGm⟩,⟨⟨Tryz.func148,aGm⟩,trivial,trivial⟩,⟨⟨Tryz.func212,aGm⟩,trivial,trivial⟩⟩,⟨⟨Tryz.func116,aGm⟩,⟨⟨Tryz.func180,aGm⟩,trivial,trivial⟩,⟨⟨Tryz.func244,aGm⟩,trivial,trivial⟩⟩⟩⟩,⟨⟨Tryz.func28,aGm⟩,⟨⟨Tryz.func44,aGm⟩,⟨⟨Tryz.func76,aGm⟩,⟨⟨Tryz.func140,aGm⟩,trivial,trivial⟩,⟨⟨Tryz.func204,aGm⟩,trivial,trivial⟩⟩,⟨⟨Tryz.func108,aGm⟩,⟨⟨Tryz.func172,aGm⟩,trivial,trivial⟩,⟨⟨Tryz.func236,aGm⟩,trivial,trivial⟩⟩⟩,⟨⟨Tryz.func60,aGm⟩,⟨⟨Tryz.func92,aGm⟩,⟨⟨Tryz.func156,aGm⟩,trivial,trivial⟩,⟨⟨Tryz.func220,aGm⟩,trivial,trivial⟩⟩,⟨⟨Tryz.func124,aGm⟩,⟨⟨Tryz.func188,aGm⟩,trivial,trivial⟩,⟨⟨Tryz.func252,aGm⟩,trivial,trivial⟩⟩⟩⟩⟩⟩,⟨⟨Tryz.func6,aGm⟩,⟨⟨Tryz.func10,aGm⟩,⟨⟨Tryz.func18,aGm⟩,⟨⟨Tryz.func34,aGm⟩,⟨⟨Tryz.func66,aGm⟩,⟨⟨Tryz.func130,aGm⟩,⟨⟨Tryz.func258,aGm⟩,trivial,trivial⟩,trivial⟩,⟨⟨Tryz.func194,aGm⟩,trivial,trivial⟩⟩,⟨trivial,⟨⟨Tryz.func162,aGm⟩,trivial,trivial⟩,⟨⟨Tryz.func226,aGm⟩,trivial,trivial⟩⟩⟩,⟨⟨Tryz.func50,aGm⟩,⟨⟨Tryz.func82,aGm⟩,⟨⟨Tryz.func146,aGm⟩,trivial,trivial⟩,⟨⟨Tryz.func210,aGm⟩,trivial,trivial⟩⟩,⟨⟨Tryz.func114,aGm⟩,⟨⟨Tryz.func178,aGm⟩,trivial,trivial⟩,⟨⟨Tryz.func242,aGm⟩,trivial,trivial⟩⟩⟩⟩,⟨⟨Tryz.func26,aGm⟩,⟨⟨Tryz.func42,aGm⟩,⟨⟨Tryz.func74,aGm⟩,⟨⟨Tryz.func138,aGm⟩,trivial,trivial⟩,⟨⟨Tryz.func202,aGm⟩,trivial,trivial⟩⟩,⟨⟨Tryz.func106,aGm⟩,⟨⟨Tryz.func170,aGm⟩,trivial,trivial⟩,⟨⟨Tryz.func234,aGm⟩,trivial,trivial⟩⟩⟩,⟨trivial,⟨⟨Tryz.func90,aGm⟩,⟨⟨Tryz.func154,aGm⟩,trivial,trivial⟩,⟨⟨Tryz.func218,aGm⟩,trivial,trivial⟩⟩,⟨⟨Tryz.func122,aGm⟩,⟨⟨Tryz.func186,aGm⟩,trivial,trivial⟩,⟨⟨Tryz.func250,aGm⟩,trivial,trivial⟩⟩⟩⟩⟩,⟨trivial,⟨⟨Tryz.func22,aGm⟩,⟨⟨Tryz.func38,aGm⟩,⟨⟨Tryz.func70,aGm⟩,⟨⟨Tryz.func134,aGm⟩,trivial,trivial⟩,⟨⟨Tryz.func198,aGm⟩,trivial,trivial⟩⟩,⟨⟨Tryz.func102,aGm⟩,⟨⟨Tryz.func166,aGm⟩,trivial,trivial⟩,⟨⟨Tryz.func230,aGm⟩,trivial,trivial⟩⟩⟩,⟨trivial,⟨⟨Tryz.func86,aGm⟩,⟨⟨Tryz.func150,aGm⟩,trivial,trivial⟩,⟨⟨Tryz.func214,aGm⟩,trivial,trivial⟩⟩,⟨⟨Tryz.func118,aGm⟩,⟨⟨Tryz.func182,aGm⟩,trivial,trivial⟩,⟨⟨Tryz.func246,aGm⟩,trivial,trivial⟩⟩⟩⟩,⟨⟨Tryz.func30,aGm⟩,⟨⟨Tryz.func46,aGm⟩,⟨⟨Tryz.func78,aGm⟩,⟨⟨Tryz.func142,aGm⟩,trivial,trivial⟩,⟨⟨Tryz.func206,aGm⟩,trivial,trivial⟩⟩,⟨⟨Tryz.func110,aGm⟩,⟨⟨Tryz.func174,aGm⟩,trivial,trivial⟩,⟨⟨Tryz.func238,aGm⟩,trivial,trivial⟩⟩⟩,⟨⟨Tryz.func62,aGm⟩,⟨⟨Tryz.func94,aGm⟩,⟨⟨Tryz.func158,aGm⟩,trivial,trivial⟩,⟨⟨Tryz.func222,aGm⟩,trivial,trivial⟩⟩,⟨⟨Tryz.func126,aGm⟩,⟨⟨Tryz.func190,aGm⟩,trivial,trivial⟩,⟨⟨Tryz.func254,aGm⟩,trivial,trivial⟩⟩⟩⟩⟩⟩⟩⟩
theorem mO:kR Tryz.prog env:=by intro f fn h;have:=Tr.Ho af3 f fn h;simpa using this
