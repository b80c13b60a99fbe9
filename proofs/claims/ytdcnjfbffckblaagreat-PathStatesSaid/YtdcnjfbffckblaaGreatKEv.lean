import Derived.Test.YtdcnjfbffckblaaGreatKMe
import Derived.Test.YtdcnjfbffckblaaGreatKNa
import Derived.Test.YtdcnjfbffckblaaGreatChecked
set_option linter.unusedVariables false
set_option linter.unusedSimpArgs false
set_option linter.unnecessarySimpa false
section
namespace Go.Proofs.YtdcnjfbffckblaaGreat.Ev
open Go Go.RowKit
open Go.Proofs.YtdcnjfbffckblaaGreat.Pl
def Hs:Int->Bool
 |.ofNat n=>Nat.ble n 9223372036854775807|.negSucc n=>Nat.ble n 9223372036854775807
theorem KI{x:Int}(h:Hs x=true):bH x:=by
 cases x with
 |ofNat n=>have:=Nat.le_of_ble_eq_true h;have e:Int.ofNat n=(n:Int):=rfl;rw[e];constructor<;>omega|negSucc n=>
  have:=Nat.le_of_ble_eq_true h;have e:Int.negSucc n = -(n:Int)-1:=by rw[Int.negSucc_eq];omega
  rw[e];constructor<;>omega
def kC:IntKind->Bool|.i64=>true|_=>false
def qU:List AV->Option (List Int)
 |[]=>some []|v::l=>match v with
  |.int k n=>match kC k,Hs n,qU l with|true,true,some ns=>some (n::ns)|_,_,_=>none
  |_=>none
theorem QS{s:Sg}:∀{l:List AV}{ns:List Int},qU l=some ns->aD s l=ints ns/\(∀x∈ns,bH x)/\ns.length=l.length
 |[],ns,h=>by simp[qU]at h;subst h;exact⟨rfl,by simp,rfl⟩|v::l,ns,h=>by
  simp only[qU]at h;split at h<;>try cases h
  rename_i k n;split at h<;>try cases h
  rename_i ns' h1 h2 h3;obtain⟨a,b,c⟩:=QS (s:=s) h3;have hk:k=.i64:=by cases k<;>simp[kC]at h1;rfl
  subst hk;refine⟨by simp[aD,ae,a,ints],?_,by simp[c]⟩;intro x hx;rcases List.mem_cons.1 hx with rfl|hx
  .exact KI h2
  .exact b x hx
def three:List Int->Option (List (Int×Int×Int))
 |[]=>some []|a::l=>match l with
  |b::c::l=>match three l with|some r=>some ((a,b,c)::r)|none=>none
  |_=>none
theorem Gr:∀{l:List Int}{r:List (Int×Int×Int)},three l=some r->l=r.flatMap (fun x=>[x.1,x.2.1,x.2.2])
 |[],r,h=>by simp[three]at h;subst h;rfl|[a],r,h=>by simp[three]at h|[a,b],r,h=>by simp[three]at h|a::b::c::l,r,h=>by
  simp only[three]at h;split at h<;>try cases h
  rename_i r' h';have:=Gr h';simp[<-this]
def qq(h:Hp)(sz b len:Nat)(u:Bool)(c:Nat):Bool:=match u with
 |false=>match Nat.ble len c with|true=>Nat.ble c 9223372036854775807|false=>false
 |true=>match h.tr.get b with
  |some (.cells l _ (some z))=>match Nat.beq z sz,Nat.blt 0 sz with|true,true=>Nat.ble ((c+len)*sz) l.length|_,_=>false
  |_=>false
theorem IQ{h:Hp}{sz b off len c:Nat}{u:Bool}(e:qq h sz b len u c=true){s:Sg}{w:World}(H:ab s h w) :
  ∃cc,ae s (.slice b off len u c)=.slice (some ⟨(s b).1,off,none⟩) len cc/\len<=cc/\cc<=9223372036854775807:=by
 cases u with
 |false=>
  unfold qq at e;simp only[]at e;split at e
  .rename_i h1;exact⟨c,rfl,Nat.le_of_ble_eq_true h1,Nat.le_of_ble_eq_true e⟩
  .cases e
 |true=>
  unfold qq at e;simp only[]at e;split at e
  .rename_i l ty z hb;split at e
   .rename_i q1 q2;have q1:=aA q1;rw[Nat.blt_eq]at q2;have e:=Nat.le_of_ble_eq_true e;subst q1;obtain⟨tail,_,_,htl⟩:=H.cells hb;obtain⟨ht,hm⟩:=htl _ rfl;refine⟨(s b).2-c,rfl,?_,by omega⟩;rcases Nat.lt_or_ge (s b).2 (c+len)with q|q
    .have:=Nat.mul_lt_mul_of_pos_right q q2;omega
    .omega
   .cases e
  .cases e
def jw(h:Hp)(sz:Nat)(v:AV):Option (Nat×List Int):=match v with
 |.av=>some (0,[])|.slice b off len u c=>match qq h sz b len u c,Nat.ble len 4000,jD h sz (.slice b off len u c)with
  |true,true,some (n,l)=>match qU l with|some ns=>some (n,ns)|none=>none
  |_,_,_=>none
 |_=>none
theorem lu{h:Hp}{sz:Nat}{v:AV}{n:Nat}{ns:List Int}(e:jw h sz v=some (n,ns)){s:Sg}{w:World}(H:ab s h w) :
  ∃A c,ae s v=.slice A n c/\Sl w w.heap.size sz A n c (ints ns)/\n<=4000/\(∀x∈ns,bH x)/\ns.length=n*sz:=by
 unfold jw at e;split at e
 .simp at e;obtain⟨rfl,rfl⟩:=e;exact⟨none,0,rfl,⟨⟨by simp[ints],fun h=>by omega⟩,by omega,by simp[maxLen]⟩,by omega,by simp,by simp⟩
 .rename_i b off len u c;split at e<;>try cases e
  rename_i l h1 h3 h4;split at e<;>try cases e
  rename_i hi;obtain⟨cc,hcc,h1,h2⟩:=IQ (off:=off) h1 H;have h3:=Nat.le_of_ble_eq_true h3;have hsrc:=h4;unfold jD at h4;simp only[]at h4;split at h4<;>try cases h4
  rename_i cs ty op hb;split at h4<;>try cases h4
  rename_i hle;have hle:=Nat.le_of_ble_eq_true hle;obtain⟨a1,a2,a3⟩:=QS (s:=s) hi;obtain⟨_,_,_,hll⟩:=lg (P:=default) hsrc H;obtain⟨tail,hw,_,_⟩:=H.cells hb;refine⟨some ⟨(s b).1,off,none⟩,cc,hcc,⟨⟨by rw[<-a1,dY,hll],fun _=>⟨_,rfl,H.bound hb,?_⟩⟩,h1,by simpa[maxLen]using h2⟩,h3,a2,by rw[a3,hll]⟩;intro j u hu;rw[<-a1]at hu;rw[cX];simp only[dH,dQ,mh,nQ]at hu;have hj:j<n*sz:=by
   rcases Nat.lt_or_ge j (n*sz)with q|q
   .exact q
   .rw[List.getElem?_eq_none (by simp;omega)]at hu;cases hu
  rw[List.getElem?_take,if_pos hj,List.getElem?_drop]at hu;simp only[World.cell?,hw,Option.isSome_none,Bool.false_eq_true,if_false,List.getElem?_toArray];have hL:=dY s cs;rw[List.getElem?_append_left (by omega)];exact hu
 .cases e
theorem Below.hrel{s:Sg}{h:Hp}{w w':World}(H:ab s h w)(b:Below w.heap.size w w'):ab s h w' where
 obj i o hi:=by rw[b.block _ (H.bound hi)];exact H.obj i o hi
 inj:=H.inj
 lt:=H.lt
 eX:=H.eX
theorem Below.ext{s:Sg}{h:Hp}{w w':World}(b:Below w.heap.size w w'):Ext s h w s h w':=⟨b.os,b.tape,b.output,b.size,fun _ _=>rfl,Nat.le_refl _,fun k hk _=>b.block k hk,fun j o hj=>.inl ⟨j,o,hj,rfl⟩,fun j o hj _=>⟨o,hj⟩⟩
def qC(h:Hp)(sz:Nat)(v:AV):Option (Nat×List AV):=match v with
 |.av=>some (0,[])|.slice b off len u c=>match qq h sz b len u c,Nat.ble len 100,jD h sz (.slice b off len u c)with|true,true,some r=>some r|_,_,_=>none
 |_=>none
theorem zM{h:Hp}{sz:Nat}{v:AV}{n:Nat}{l:List AV}(e:qC h sz v=some (n,l)){s:Sg}{w:World}(H:ab s h w) :
  ∃A c,ae s v=.slice A n c/\Sl w w.heap.size sz A n c (aD s l)/\n<=100/\l.length=n*sz:=by
 unfold qC at e;split at e
 .simp at e;obtain⟨rfl,rfl⟩:=e;exact⟨none,0,rfl,⟨⟨by simp[aD],fun h=>by omega⟩,by omega,by simp[maxLen]⟩,by omega,by simp⟩
 .rename_i b off len u c;split at e<;>try cases e
  rename_i h1 h3 h4;obtain⟨cc,hcc,h1,h2⟩:=IQ (off:=off) h1 H;have h3:=Nat.le_of_ble_eq_true h3;have hsrc:=h4;unfold jD at h4;simp only[]at h4;split at h4<;>try cases h4
  rename_i cs ty op hb;split at h4<;>try cases h4
  rename_i hle;have hle:=Nat.le_of_ble_eq_true hle;obtain⟨_,_,_,hll⟩:=lg (P:=default) hsrc H;obtain⟨tail,hw,_,_⟩:=H.cells hb;refine⟨some ⟨(s b).1,off,none⟩,cc,hcc,⟨⟨by rw[dY,hll],fun _=>⟨_,rfl,H.bound hb,?_⟩⟩,h1,by simpa[maxLen]using h2⟩,h3,hll⟩;intro j u hu;rw[cX];simp only[dH,dQ,mh,nQ]at hu;have hj:j<n*sz:=by
   rcases Nat.lt_or_ge j (n*sz)with q|q
   .exact q
   .rw[List.getElem?_eq_none (by simp;omega)]at hu;cases hu
  rw[List.getElem?_take,if_pos hj,List.getElem?_drop]at hu;simp only[World.cell?,hw,Option.isSome_none,Bool.false_eq_true,if_false,List.getElem?_toArray];have hL:=dY s cs;rw[List.getElem?_append_left (by omega)];exact hu
 .cases e
def qh:Int->Bool
 |.ofNat n=>Nat.ble n 4000|.negSucc n=>Nat.ble n 4000
theorem tS{x:Int}(h:qh x=true):-4001<=x/\x<=4000:=by
 cases x with
 |ofNat n=>have:=Nat.le_of_ble_eq_true h;have e:Int.ofNat n=(n:Int):=rfl;rw[e];constructor<;>omega|negSucc n=>
  have:=Nat.le_of_ble_eq_true h;have e:Int.negSucc n = -(n:Int)-1:=by rw[Int.negSucc_eq];omega
  rw[e];constructor<;>omega
theorem qd{k:IntKind}(h:kC k=true):k=.i64:=by cases k<;>simp[kC]at h;rfl
def oB(h:Hp):List AV->Option (List iu)
 |[]=>some []|x::l=>match l with
  |[]=>none|y::l=>match x with
   |.int k v=>match kC k,qh v,jw h 1 y,oB h l with|true,true,some (_,ns),some rs=>some (⟨v,ns⟩::rs)|_,_,_,_=>none
   |_=>none
def VN(d:iu):Prop:=d.addr.length<=4000/\-1099511627776<=d.var/\d.var<=1099511627776/\∀x∈d.addr,bH x
theorem IK{h:Hp}{s:Sg}{w:World}(H:ab s h w):∀{l:List AV}{ds:List iu},oB h l=some ds ->
  ∃L:List bS,aD s l=L.flatMap bS.cells/\(∀r∈L,r.bp w w.heap.size)/\L.map bS.d=ds/\∀d∈ds,VN d
 |[],ds,e=>by simp[oB]at e;subst e;exact⟨[],rfl,by simp,rfl,by simp⟩|[x],ds,e=>by simp[oB]at e|x::y::l,ds,e=>by
  simp only[oB]at e;split at e<;>try cases e
  rename_i k v;split at e<;>try cases e
  rename_i m ns rs h1 h2 h3 h4;obtain⟨A,c,e1,s1,b1,r1,t1⟩:=lu h3 H;obtain⟨L,g1,g2,g3,g4⟩:=IK H h4;have:=qd h1;subst this;simp only[Nat.mul_one]at t1;subst t1;refine⟨⟨v,A,c,ns⟩::L,by simp[aD,ae,e1,g1,bS.cells],?_,by simp[g3,bS.d],?_⟩
  .intro r hr;rcases List.mem_cons.1 hr with rfl|hr
   .exact s1
   .exact g2 r hr
  .intro d hd;have sm:=tS h2;rcases List.mem_cons.1 hd with rfl|hd
   .exact⟨b1,by simp only;omega,by simp only;omega,r1⟩
   .exact g4 d hd
def mL(h:Hp):List AV->Option (List il)
 |[]=>some []|x::l=>match l with
  |[]=>none|y::l=>match l with
   |[]=>none|z::l=>match x with
    |.int k v=>match kC k,qh v,jw h 1 y,jw h 1 z,mL h l with|true,true,some (_,ns),some (_,ms),some rs=>some (⟨v,ns,ms⟩::rs)|_,_,_,_,_=>none
    |_=>none
def VO(d:il):Prop:=d.addr.length<=4000/\d.data.length<=4000/\bH d.on/\(∀x∈d.addr,bH x)/\∀x∈d.data,bH x
theorem IL{h:Hp}{s:Sg}{w:World}(H:ab s h w):∀{l:List AV}{ds:List il},mL h l=some ds ->
  ∃L:List cF,aD s l=L.flatMap cF.cells/\(∀r∈L,r.bp w w.heap.size)/\L.map cF.d=ds/\∀d∈ds,VO d
 |[],ds,e=>by simp[mL]at e;subst e;exact⟨[],rfl,by simp,rfl,by simp⟩|[x],ds,e=>by simp[mL]at e|[x,y],ds,e=>by simp[mL]at e|x::y::z::l,ds,e=>by
  simp only[mL]at e;split at e<;>try cases e
  rename_i k v;split at e<;>try cases e
  rename_i m ns m' ms rs h1 h2 h3 h3' h4;obtain⟨A,c,e1,s1,b1,r1,t1⟩:=lu h3 H;obtain⟨A',c',e1',s1',b1',r1',t1'⟩:=lu h3' H;obtain⟨L,g1,g2,g3,g4⟩:=IL H h4;have:=qd h1;subst this;simp only[Nat.mul_one]at t1 t1';subst t1 t1';refine⟨⟨v,A,c,ns,A',c',ms⟩::L,by simp[aD,ae,e1,e1',g1,cF.cells],?_,by simp[g3,cF.d],?_⟩
  .intro r hr;rcases List.mem_cons.1 hr with rfl|hr
   .exact⟨s1,s1'⟩
   .exact g2 r hr
  .intro d hd;have sm:=tS h2;rcases List.mem_cons.1 hd with rfl|hd
   .exact⟨b1,b1',by unfold bH;simp only;omega,r1,r1'⟩
   .exact g4 d hd
def ks(h:Hp):List AV->Option (List cr)
 |[]=>some []|x::l=>match l with
  |y::z::u::v::l=>match x,y,z with
   |.int k a,.int k' wd,.bool any=>match kC k,kC k',qh a,qh wd,qC h 2 u,qC h 3 v,ks h l with
    |true,true,true,true,some (_,lr),some (_,lw),some ms=>match oB h lr,mL h lw with|some rs,some ws=>some (⟨a,wd,any,rs,ws⟩::ms)|_,_=>none
    |_,_,_,_,_,_,_=>none
   |_,_,_=>none
  |_=>none
theorem IJ{h:Hp}{s:Sg}{w:World}(H:ab s h w):∀{l:List AV}{ds:List cr},ks h l=some ds ->
  ∃L:List aW,aD s l=L.flatMap aW.cells/\(∀r∈L,r.bp w w.heap.size)/\L.map aW.d=ds/\∀d∈ds,q9 d
 |[],ds,e=>by simp[ks]at e;subst e;exact⟨[],rfl,by simp,rfl,by simp⟩|[x],ds,e=>by simp[ks]at e|[x,y],ds,e=>by simp[ks]at e|[x,y,z],ds,e=>by simp[ks]at e|[x,y,z,u],ds,e=>by simp[ks]at e|x::y::z::u::v::l,ds,e=>by
  simp only[ks]at e;split at e<;>try cases e
  rename_i k a k' wd any;split at e<;>try cases e
  rename_i nr lr nw lw ms h1 h2 h3 h4 h5 h6 h7;split at e<;>try cases e
  rename_i rs ws h8 h9;obtain⟨A,c,e1,s1,b1,t1⟩:=zM h5 H;obtain⟨A',c',e2,s2,b2,t2⟩:=zM h6 H;obtain⟨LR,r1,r2,r3,r4⟩:=IK H h8;obtain⟨LW,w1,w2,w3,w4⟩:=IL H h9;obtain⟨L,g1,g2,g3,g4⟩:=IJ H h7;have:=qd h1;subst this;have:=qd h2;subst this;have nR:LR.length=nr:=by
   have q:(aD s lr).length=(LR.flatMap bS.cells).length:=by rw[r1]
   have q2:(LR.flatMap bS.cells).length=LR.length*2:=by
    clear r1 r2 r3 q
    induction LR with|nil=>rfl|cons x l ih=>simp only[List.flatMap_cons,bA,ih];simp[bS.cells];omega
   rw[dY,t1,q2]at q;omega
  have nW:LW.length=nw:=by
   have q:(aD s lw).length=(LW.flatMap cF.cells).length:=by rw[w1]
   have q2:(LW.flatMap cF.cells).length=LW.length*3:=by
    clear w1 w2 w3 q
    induction LW with|nil=>rfl|cons x l ih=>simp only[List.flatMap_cons,bA,ih];simp[cF.cells];omega
   rw[dY,t2,q2]at q;omega
  rw[r1]at s1;rw[w1]at s2;subst nR nW;refine⟨⟨a,wd,any,A,c,LR,A',c',LW⟩::L,by simp[aD,ae,e1,e2,g1,aW.cells],?_,by simp[g3,aW.d,r3,w3],?_⟩
  .intro m hm;rcases List.mem_cons.1 hm with rfl|hm
   .exact⟨s1,r2,s2,w2⟩
   .exact g2 m hm
  .intro d hd;have sa:=tS h3;have sw:=tS h4;rcases List.mem_cons.1 hd with rfl|hd
   .have lr:rs.length=LR.length:=by rw[<-r3];simp
    have lw:ws.length=LW.length:=by rw[<-w3];simp
    exact⟨⟨by unfold bH;simp only;omega,by simp only;omega⟩,by unfold bH;simp only;omega,by simp only;omega,by simp only;omega,fun r hr=>r4 r hr,fun r hr=>w4 r hr⟩
   .exact g4 d hd
def Eh(h:Hp)(vs:List AV):Option aG:=match vs with
 |[.agg [.int k vars,si,sl,so,sb,sc,sm,sa]]=>match kC k,Hs vars,jw h 1 si,jw h 3 sl,jw h 1 so,jw h 1 sb,jw h 1 sc,qC h 5 sm,jw h 3 sa with
  |true,true,some (_,i),some (_,l),some (_,o),some (_,b),some (_,c),some (_,m),some (_,a)=>match three l,three a,ks h m with|some l,some a,some m=>some ⟨vars,i,l.map (fun x=>⟨x.1,x.2.1,x.2.2⟩),o,b,c,m,a.map (fun x=>⟨x.1,x.2.1,x.2.2⟩)⟩|_,_,_=>none
  |_,_,_,_,_,_,_,_,_=>none
 |_=>none
def Eg:Cl:=fun f vs h=>match Nat.beq f 209 with
 |true=>match Eh h vs with|some d=>some (.int .i64 (ed d),h)|none=>none
 |false=>none
theorem SJ{h:Hp}{vs:List AV}{d:aG}(e:Eh h vs=some d){s:Sg}{w:World}(H:ab s h w) :
  ∃N:bf,(aD s vs).toArray=#[N.v]/\N.bp w w.heap.size/\Fit N.d/\N.d=d:=by
 unfold Eh at e;split at e<;>try cases e
 rename_i k vars si sl so sb sc sm sa;split at e<;>try cases e
 rename_i ni i nl l no o nb b nc c nm ml na a' hk hv h1 h2 h3 h4 h5 h6 h7;split at e<;>try cases e
 rename_i l3 a3 mD hl3 ha3 hm3;have hk':=qd hk;subst hk';obtain⟨A1,c1,e1,s1,b1,r1,t1⟩:=lu h1 H;obtain⟨A2,c2,e2,s2,b2,r2,t2⟩:=lu h2 H;obtain⟨A3,c3,e3,s3,b3,r3,t3⟩:=lu h3 H;obtain⟨A4,c4,e4,s4,b4,r4,t4⟩:=lu h4 H;obtain⟨A5,c5,e5,s5,b5,r5,t5⟩:=lu h5 H;obtain⟨A6,c6,e6,s6,b6,t6⟩:=zM h6 H;obtain⟨A7,c7,e7,s7,b7,r7,t7⟩:=lu h7 H;obtain⟨LM,m1,m2,m3,m4⟩:=IJ H hm3;have hl:=Gr hl3;have ha:=Gr ha3;have len3:∀r:List (Int×Int×Int),(r.flatMap (fun x=>[x.1,x.2.1,x.2.2])).length=r.length*3:=by intro r;induction r with|nil=>rfl|cons x r ih=>simp only[List.flatMap_cons,bA,ih];simp;omega
 have n2:l3.length=nl:=by have:=len3 l3;rw[<-hl,t2]at this;omega
 have n7:a3.length=na:=by have:=len3 a3;rw[<-ha,t7]at this;omega
 have n6:LM.length=nm:=by
  have q:(aD s ml).length=(LM.flatMap aW.cells).length:=by rw[m1]
  have q2:(LM.flatMap aW.cells).length=LM.length*5:=by
   clear m1 m2 m3 q
   induction LM with|nil=>rfl|cons x l ih=>simp only[List.flatMap_cons,bA,ih];simp[aW.cells];omega
  rw[dY,t6,q2]at q;omega
 rw[m1]at s6;have nd:mD.length=nm:=by rw[<-m3];simpa using n6
 simp only[Nat.mul_one]at t1 t3 t4 t5;refine⟨⟨vars,A1,c1,i,A2,c2,l3.map (fun x=>⟨x.1,x.2.1,x.2.2⟩),A3,c3,o,A4,c4,b,A5,c5,c,A6,c6,LM,A7,c7,a3.map (fun x=>⟨x.1,x.2.1,x.2.2⟩)⟩,?_,⟨?_,?_,?_,?_,?_,?_,m2,?_⟩,⟨?_,?_,?_,?_,?_,?_,?_,?_⟩,by simp[bf.d,m3]⟩
 .simp only[aD,ae,e1,e2,e3,e4,e5,e6,e7,bf.v,bf.fs,t1,t3,t4,t5,aK,n2,n7,n6]
 .simp only[t1];exact s1
 .simp only[aK,n2];have:ints l=(l3.map (fun x=>(⟨x.1,x.2.1,x.2.2⟩:dI))).flatMap dI.cells:=by rw[hl];simp[ints,dI.cells,List.map_flatMap,List.flatMap_map]
  rw[<-this];exact s2
 .simp only[t3];exact s3
 .simp only[t4];exact s4
 .simp only[t5];exact s5
 .simp only[n6];exact s6
 .simp only[aK,n7];have:ints a'=(a3.map (fun x=>(⟨x.1,x.2.1,x.2.2⟩:ey))).flatMap ey.cells:=by rw[ha];simp[ints,ey.cells,List.map_flatMap,List.flatMap_map]
  rw[<-this];exact s7
 .exact KI hv
 .exact⟨by simp[bf.d,t1];omega,r1⟩
 .refine⟨by simp[bf.d,n2];omega,?_⟩;intro x hx;simp only[bf.d,List.mem_map]at hx;obtain⟨y,hy,rfl⟩:=hx;have mem:∀z∈[y.1,y.2.1,y.2.2],z∈l:=by intro z hz;rw[hl];exact List.mem_flatMap.2 ⟨y,hy,hz⟩
  exact⟨r2 _ (mem _ (by simp)),r2 _ (mem _ (by simp)),r2 _ (mem _ (by simp))⟩
 .exact⟨by simp[bf.d,t3];omega,r3⟩
 .exact⟨by simp[bf.d,t4];omega,r4⟩
 .exact⟨by simp[bf.d,t5];omega,r5⟩
 .refine⟨by simp[bf.d,n6];omega,?_⟩;intro m hm;simp only[bf.d]at hm;rw[m3]at hm;exact m4 m hm
 .refine⟨by simp[bf.d,n7];omega,?_⟩;intro x hx;simp only[bf.d,List.mem_map]at hx;obtain⟨y,hy,rfl⟩:=hx;have mem:∀z∈[y.1,y.2.1,y.2.2],z∈a':=by intro z hz;rw[ha];exact List.mem_flatMap.2 ⟨y,hy,hz⟩
  exact⟨r7 _ (mem _ (by simp)),r7 _ (mem _ (by simp)),r7 _ (mem _ (by simp))⟩
theorem Ue:cT Tryz.prog Eg:=by
 intro f vs h v h' e;unfold Eg at e;split at e<;>try cases e
 rename_i hf;have hf:=aA hf;subst hf;split at e<;>try cases e
 rename_i d hd;refine⟨⟨Tryz.f209,_,Tryz.func209,by kernel_rfl,rfl⟩,?_⟩;intro F w args hne hF hw;obtain⟨s₁,hs₁⟩:=hne;obtain⟨N,n1,n2,n3,n4⟩:=SJ hd (hF s₁ hs₁).1;rw[<-(hF s₁ hs₁).2,n1];refine(JK N w n2 n3).mono ?_;rintro en w' ⟨rfl,hb⟩;refine⟨F,_,rfl,⟨fun s hs=>⟨s,hs,Below.ext hb⟩,fun s hs=>⟨s,hs,Below.ext hb⟩⟩,fun s hs=>⟨Below.hrel (hF s hs).1 hb,by rw[n4];rfl⟩⟩
mutual
def eqv:AV->AV->Bool
 |.bool a,.bool b=>(match a,b with|true,true=>true|false,false=>true|_,_=>false)
 |.int k a,.int l b=>(match decide (k=l)with|true=>decide (a=b)|false=>false)
 |.str a,.str b=>decide (a.data.toList=b.data.toList)|.cg,.cg=>true|.ptr a i,.ptr b j=>(match Nat.beq a b with|true=>Nat.beq i j|false=>false)
 |.av,.av=>true|.slice a i n u c,.slice b j m v d=>(match Nat.beq a b,Nat.beq i j,Nat.beq n m,Nat.beq c d,u,v with|true,true,true,true,true,true=>true|true,true,true,true,false,false=>true|_,_,_,_,_,_=>false)
 |.iU a i i' c,.iU b j j' d=>(match Nat.beq a b,Nat.beq i j,Nat.beq i' j',Nat.beq c d with|true,true,true,true=>true|_,_,_,_=>false)
 |.cE,.cE=>true|.map a,.map b=>Nat.beq a b|.func f x c,.func g y d=>(match Nat.beq f g,jK x y with|true,true=>jK c d|_,_=>false)
 |.cD,.cD=>true|.cZ,.cZ=>true|.agg a,.agg b=>jK a b|.bk a,.bk b=>jK a b|_,_=>false
termination_by structural x=>x
def jK:List AV->List AV->Bool
 |[],[]=>true|x::l,y::m=>(match eqv x y with|true=>jK l m|false=>false)
 |_,_=>false
termination_by structural x=>x
end
mutual
theorem dc:∀a b:AV,eqv a b=true->a=b:=by
 intro a b h;cases a<;>cases b<;>simp only[eqv]at h<;>try rfl
 all_goals first|cases h|skip
 case bool.bool a b=>cases a<;>cases b<;>first|rfl|cases h
 case int.int k a l b=>
  split at h
  .rename_i hk;rw[of_decide_eq_true hk,of_decide_eq_true h]
  .cases h
 case str.str a b=>obtain⟨⟨a⟩⟩:=a;obtain⟨⟨b⟩⟩:=b;have h:a=b:=of_decide_eq_true h;rw[h]
 case ptr.ptr a i b j=>
  split at h
  .rename_i hk;rw[aA hk,aA h]
  .cases h
 case slice.slice a i n u c b j m v d=>
  split at h
  .rename_i h1 h2 h3 h4;rw[aA h1,aA h2,aA h3,aA h4]
  .rename_i h1 h2 h3 h4;rw[aA h1,aA h2,aA h3,aA h4]
  .cases h
 case iU.iU a i i' c b j j' d=>
  split at h
  .rename_i h1 h2 h3 h4;rw[aA h1,aA h2,aA h3,aA h4]
  .cases h
 case map.map a b=>rw[aA h]
 case func.func f x c g y d=>
  split at h
  .rename_i h1 h2;rw[aA h1,mJ x y h2,mJ c d h]
  .cases h
 case agg.agg a b=>rw[mJ a b h]
 case bk.bk a b=>rw[mJ a b h]
theorem mJ:∀a b:List AV,jK a b=true->a=b
 |[],[],_=>rfl|[],_::_,h=>by simp[jK]at h|_::_,[],h=>by simp[jK]at h|x::l,y::m,h=>by
  simp only[jK]at h;split at h
  .rename_i q;rw[dc x y q,mJ l m h]
  .cases h
end
def pR:List (AV×AV×Nat)->List (AV×AV×Nat)->Bool
 |[],[]=>true|x::l,y::m=>match eqv x.1 y.1,eqv x.2.1 y.2.1,Nat.beq x.2.2 y.2.2 with|true,true,true=>pR l m|_,_,_=>false
 |_,_=>false
theorem I7:∀a b:List (AV×AV×Nat),pR a b=true->a=b
 |[],[],_=>rfl|[],_::_,h=>by simp[pR]at h|_::_,[],h=>by simp[pR]at h|(x,y,n)::l,(x',y',n')::m,h=>by
  simp only[pR]at h;split at h
  .rename_i h1 h2 h3;rw[dc _ _ h1,dc _ _ h2,aA h3,I7 l m h]
  .cases h
def Ho:Option Nat->Option Nat->Bool
 |none,none=>true|some a,some b=>Nat.beq a b|_,_=>false
theorem Ux{a b:Option Nat}(h:Ho a b=true):a=b:=by cases a<;>cases b<;>simp only[Ho]at h<;>first|rfl|cases h|rw[aA h]
def Hq:aC->aC->Bool
 |.cells l t o,.cells m u p=>match jK l m,Nat.beq t u with|true,true=>Ho o p|_,_=>false
 |.map e c,.map f d=>match pR e f with|true=>Nat.beq c d|false=>false
 |_,_=>false
theorem Uy{a b:aC}(h:Hq a b=true):a=b:=by
 cases a<;>cases b<;>simp only[Hq]at h<;>try cases h
 .split at h
  .rename_i h1 h2;rw[mJ _ _ h1,aA h2,Ux h]
  .cases h
 .split at h
  .rename_i h1;rw[I7 _ _ h1,aA h]
  .cases h
def lJ:Tr aC->Tr aC->Bool
 |.nil,.nil=>true|.node v l r,.node v' l' r'=>match v,v' with
  |none,none=>(match lJ l l' with|true=>lJ r r'|false=>false)
  |some a,some b=>(match Hq a b,lJ l l' with|true,true=>lJ r r'|_,_=>false)
  |_,_=>false
 |_,_=>false
theorem qg:∀a b:Tr aC,lJ a b=true->a=b
 |.nil,.nil,_=>rfl|.nil,.node ..,h=>by simp[lJ]at h|.node ..,.nil,h=>by simp[lJ]at h|.node v l r,.node v' l' r',h=>by
  simp only[lJ]at h;cases v<;>cases v'<;>simp only[]at h<;>try cases h
  .split at h
   .rename_i h1;rw[qg l l' h1,qg r r' h]
   .cases h
  .split at h
   .rename_i h1 h2;rw[Uy h1,qg l l' h2,qg r r' h]
   .cases h
def y9(a b:Hp):Bool:=match Nat.beq a.next b.next with|true=>lJ a.tr b.tr|false=>false
theorem I8{a b:Hp}(h:y9 a b=true):a=b:=by
 unfold y9 at h;split at h
 .rename_i h1;obtain⟨t,n⟩:=a;obtain⟨t',n'⟩:=b;have h1:n=n':=aA h1;have h2:t=t':=qg _ _ h;rw[h1,h2]
 .cases h
def jO(g:FuncId)(us:List AV)(q:Hp)(v:AV)(q':Hp):Cl:=fun f vs h=>match Nat.beq f g with
 |true=>match jK vs us with
  |true=>match y9 h q with|true=>some (v,q')|false=>none
  |false=>none
 |false=>none
def mI(r:Option (AV×Hp))(v:AV)(q:Hp):Bool:=match r with
 |some (v',q')=>match eqv v' v with|true=>y9 q' q|false=>false
 |none=>false
theorem qi{P:Program}{E:Env}(hE:iS P E){dr:Dr}(hdr:Ax P dr){orc:Cl}(ho:cT P orc)(k:Nat){g:FuncId}{us:List AV}{q:Hp}{v:AV}{q':Hp}(e:mI (bo P E (dq P E dr orc k) g us q) v q'=true):cT P (orElse (jO g us q v q') orc):=by
 refine Lo ?_ ho;intro f vs h u h' hx;unfold jO at hx;split at hx<;>try cases hx
 rename_i h1;split at hx<;>try cases hx
 rename_i h2;split at hx<;>try cases hx
 rename_i h3;obtain rfl:=aA h1;obtain rfl:=mJ _ _ h2;obtain rfl:=I8 h3;unfold mI at e;split at e
 .rename_i v₁ q₁ he;split at e
  .rename_i h4;have a:=dc _ _ h4;have b:=I8 e;subst a;subst b;exact LX hE (QT hE hdr ho k).1 f vs h v₁ q₁ he
  .cases e
 .cases e
theorem SC{P:Program}{call:Cl}(hc:cT P call){f:FuncId}{vs:List AV}{v:AV}{h':Hp}{x:Value}(he:call f vs ⟨.nil,1⟩=some (v,h'))
  (hx:fm v=some x) (hw:cf 1 vs=true) (s:Sg) (w:World) :
  Calls P f (aD s vs).toArray w fun e w'=>e=.returned x/\Below w.heap.size w w':=by
 have:=(hc f vs ⟨.nil,1⟩ v h' he).2 (fun s'=>s'=s) w (aD s vs).toArray ⟨s,rfl⟩
  (fun s' e=>⟨⟨fun i o hi=>by simp[Tr.get]at hi,fun i j o o' hi=>by simp[Tr.get]at hi,fun i o hi=>by simp[Tr.get]at hi,fun i o hi=>by simp[Tr.get]at hi⟩,by rw[e]⟩) hw
 refine this.mono ?_;rintro e w' ⟨F',V,rfl,hE',hF'⟩;obtain⟨s',hs',hx'⟩:=hE'.to s rfl;exact⟨by rw[<-(hF' s' hs').2,gk hx],hx'.os,hx'.tape,hx'.output,hx'.size,fun b hb=>hx'.frame b hb (fun i o hi=>by simp[Tr.get]at hi)⟩
def Tr.wQ{α:Type}(p:Nat->α->Prop):Tr α->Nat->Nat->Prop
 |.nil,_,_=>True|.node v l r,a,b=>(match v with|some x=>p b x|none=>True)/\Tr.wQ p l (2*a) (a+b)/\Tr.wQ p r (2*a) (2*a+b)
theorem Tr.Bg{α:Type}{p:Nat->α->Prop}:∀{t:Tr α}{a b:Nat},Tr.wQ p t a b->∀n x,t.get n=some x->p (a*n+b) x
 |.nil,_,_,_,n,x,h=>by simp[Tr.get]at h|.node v l r,a,b,⟨h1,h2,h3⟩,n,x,h=>by
  cases n with
  |zero=>simp[Tr.get]at h;subst h;simpa using h1|succ m=>
   rw[Tr.sT]at h;split at h
   .have:=Tr.Bg h2 _ _ h;rw[show a*(m+1)+b=2*a*(m / 2)+(a+b) by
     have:m=2*(m / 2):=by omega
     rw[show a*(m+1)=a*m+a by rw[Nat.mul_add];simp,show a*m=a*(2*(m / 2)) by rw[<-this],show a*(2*(m / 2))=2*a*(m / 2) by rw[<-Nat.mul_assoc,Nat.mul_comm a 2]];omega]
    exact this
   .have:=Tr.Bg h3 _ _ h;rw[show a*(m+1)+b=2*a*(m / 2)+(2*a+b) by
     have:m=2*(m / 2)+1:=by omega
     rw[show a*(m+1)=a*m+a by rw[Nat.mul_add];simp,show a*m=a*(2*(m / 2)+1) by rw[<-this],show a*(2*(m / 2)+1)=2*a*(m / 2)+a by rw[Nat.mul_add,<-Nat.mul_assoc,Nat.mul_comm a 2];simp];omega]
    exact this
set_option maxRecDepth 100000
noncomputable def env:Env:=.node (some Tryz.f0) (.node (some Tryz.f1) (.node (some Tryz.f3) (.node (some Tryz.f7) (.node (some Tryz.f15) (.node (some Tryz.f31) (.node (some Tryz.f63) (.node (some Tryz.f127) (.node (some Tryz.f255) (.nil) (.nil)) (.node (some Tryz.f383) (.nil) (.nil))) (.node (some Tryz.f191) (.node (some Tryz.f319) (.nil) (.nil)) (.nil))) (.node (some Tryz.f95) (.node (some Tryz.f159) (.node (some Tryz.f287) (.nil) (.nil)) (.node (some Tryz.f415) (.nil) (.nil))) (.node (some Tryz.f223) (.node (some Tryz.f351) (.nil) (.nil)) (.nil)))) (.node (some Tryz.f47) (.node (some Tryz.f79) (.node (some Tryz.f143) (.node (some Tryz.f271) (.nil) (.nil)) (.node (some Tryz.f399) (.nil) (.nil))) (.node (some Tryz.f207) (.node (some Tryz.f335) (.nil) (.nil)) (.nil))) (.node (some Tryz.f111) (.node (some Tryz.f175) (.node (some Tryz.f303) (.nil) (.nil)) (.nil)) (.node (some Tryz.f239) (.node (some Tryz.f367) (.nil) (.nil)) (.nil))))) (.node (some Tryz.f23) (.node (some Tryz.f39) (.node (some Tryz.f71) (.node (some Tryz.f135) (.node (some Tryz.f263) (.nil) (.nil)) (.node (some Tryz.f391) (.nil) (.nil))) (.node (some Tryz.f199) (.node (some Tryz.f327) (.nil) (.nil)) (.nil))) (.node (some Tryz.f103) (.node (some Tryz.f167) (.node (some Tryz.f295) (.nil) (.nil)) (.nil)) (.node (some Tryz.f231) (.node (some Tryz.f359) (.nil) (.nil)) (.nil)))) (.node (some Tryz.f55) (.node (some Tryz.f87) (.node (some Tryz.f151) (.node (some Tryz.f279) (.nil) (.nil)) (.node (some Tryz.f407) (.nil) (.nil))) (.node (some Tryz.f215) (.node (some Tryz.f343) (.nil) (.nil)) (.nil))) (.node (some Tryz.f119) (.node (some Tryz.f183) (.node (some Tryz.f311) (.nil) (.nil)) (.nil)) (.node (some Tryz.f247) (.node (some Tryz.f375) (.nil) (.nil)) (.nil)))))) (.node (some Tryz.f11) (.node (some Tryz.f19) (.node (some Tryz.f35) (.node (some Tryz.f67) (.node (some Tryz.f131) (.node (some Tryz.f259) (.nil) (.nil)) (.node (some Tryz.f387) (.nil) (.nil))) (.node (some Tryz.f195) (.node (some Tryz.f323) (.nil) (.nil)) (.nil))) (.node (some Tryz.f99) (.node (some Tryz.f163) (.node (some Tryz.f291) (.nil) (.nil)) (.node (some Tryz.f419) (.nil) (.nil))) (.node (some Tryz.f227) (.node (some Tryz.f355) (.nil) (.nil)) (.nil)))) (.node (some Tryz.f51) (.node (some Tryz.f83) (.node (some Tryz.f147) (.node (some Tryz.f275) (.nil) (.nil)) (.node (some Tryz.f403) (.nil) (.nil))) (.node (some Tryz.f211) (.node (some Tryz.f339) (.nil) (.nil)) (.nil))) (.node (some Tryz.f115) (.node (some Tryz.f179) (.node (some Tryz.f307) (.nil) (.nil)) (.nil)) (.node (some Tryz.f243) (.node (some Tryz.f371) (.nil) (.nil)) (.nil))))) (.node (some Tryz.f27) (.node (some Tryz.f43) (.node (some Tryz.f75) (.node (some Tryz.f139) (.node (some Tryz.f267) (.nil) (.nil)) (.node (some Tryz.f395) (.nil) (.nil))) (.node (some Tryz.f203) (.node (some Tryz.f331) (.nil) (.nil)) (.nil))) (.node (some Tryz.f107) (.node (some Tryz.f171) (.node (some Tryz.f299) (.nil) (.nil)) (.nil)) (.node (some Tryz.f235) (.node (some Tryz.f363) (.nil) (.nil)) (.nil)))) (.node (some Tryz.f59) (.node (some Tryz.f91) (.node (some Tryz.f155) (.node (some Tryz.f283) (.nil) (.nil)) (.node (some Tryz.f411) (.nil) (.nil))) (.node (some Tryz.f219) (.node (some Tryz.f347) (.nil) (.nil)) (.nil))) (.node (some Tryz.f123) (.node (some Tryz.f187) (.node (some Tryz.f315) (.nil) (.nil)) (.nil)) (.node (some Tryz.f251) (.node (some Tryz.f379) (.nil) (.nil)) (.nil))))))) (.node (some Tryz.f5) (.node (some Tryz.f9) (.node (some Tryz.f17) (.node (some Tryz.f33) (.node (some Tryz.f65) (.node (some Tryz.f129) (.node (some Tryz.f257) (.nil) (.nil)) (.node (some Tryz.f385) (.nil) (.nil))) (.node (some Tryz.f193) (.node (some Tryz.f321) (.nil) (.nil)) (.nil))) (.node (some Tryz.f97) (.node (some Tryz.f161) (.node (some Tryz.f289) (.nil) (.nil)) (.node (some Tryz.f417) (.nil) (.nil))) (.node (some Tryz.f225) (.node (some Tryz.f353) (.nil) (.nil)) (.nil)))) (.node (some Tryz.f49) (.node (some Tryz.f81) (.node (some Tryz.f145) (.node (some Tryz.f273) (.nil) (.nil)) (.node (some Tryz.f401) (.nil) (.nil))) (.node (some Tryz.f209) (.node (some Tryz.f337) (.nil) (.nil)) (.nil))) (.node (some Tryz.f113) (.node (some Tryz.f177) (.node (some Tryz.f305) (.nil) (.nil)) (.nil)) (.node (some Tryz.f241) (.node (some Tryz.f369) (.nil) (.nil)) (.nil))))) (.node (some Tryz.f25) (.node (some Tryz.f41) (.node (some Tryz.f73) (.node (some Tryz.f137) (.node (some Tryz.f265) (.nil) (.nil)) (.node (some Tryz.f393) (.nil) (.nil))) (.node (some Tryz.f201) (.node (some Tryz.f329) (.nil) (.nil)) (.nil))) (.node (some Tryz.f105) (.node (some Tryz.f169) (.node (some Tryz.f297) (.nil) (.nil)) (.nil)) (.node (some Tryz.f233) (.node (some Tryz.f361) (.nil) (.nil)) (.nil)))) (.node (some Tryz.f57) (.node (some Tryz.f89) (.node (some Tryz.f153) (.node (some Tryz.f281) (.nil) (.nil)) (.node (some Tryz.f409) (.nil) (.nil))) (.node (some Tryz.f217) (.node (some Tryz.f345) (.nil) (.nil)) (.nil))) (.node (some Tryz.f121) (.node (some Tryz.f185) (.node (some Tryz.f313) (.nil) (.nil)) (.nil)) (.node (some Tryz.f249) (.node (some Tryz.f377) (.nil) (.nil)) (.nil)))))) (.node (some Tryz.f13) (.node (some Tryz.f21) (.node (some Tryz.f37) (.node (some Tryz.f69) (.node (some Tryz.f133) (.node (some Tryz.f261) (.nil) (.nil)) (.node (some Tryz.f389) (.nil) (.nil))) (.node (some Tryz.f197) (.node (some Tryz.f325) (.nil) (.nil)) (.nil))) (.node (some Tryz.f101) (.node (some Tryz.f165) (.node (some Tryz.f293) (.nil) (.nil)) (.nil)) (.node (some Tryz.f229) (.node (some Tryz.f357) (.nil) (.nil)) (.nil)))) (.node (some Tryz.f53) (.node (some Tryz.f85) (.node (some Tryz.f149) (.node (some Tryz.f277) (.nil) (.nil)) (.node (some Tryz.f405) (.nil) (.nil))) (.node (some Tryz.f213) (.node (some Tryz.f341) (.nil) (.nil)) (.nil))) (.node (some Tryz.f117) (.node (some Tryz.f181) (.node (some Tryz.f309) (.nil) (.nil)) (.nil)) (.node (some Tryz.f245) (.node (some Tryz.f373) (.nil) (.nil)) (.nil))))) (.node (some Tryz.f29) (.node (some Tryz.f45) (.node (some Tryz.f77) (.node (some Tryz.f141) (.node (some Tryz.f269) (.nil) (.nil)) (.node (some Tryz.f397) (.nil) (.nil))) (.node (some Tryz.f205) (.node (some Tryz.f333) (.nil) (.nil)) (.nil))) (.node (some Tryz.f109) (.node (some Tryz.f173) (.node (some Tryz.f301) (.nil) (.nil)) (.nil)) (.node (some Tryz.f237) (.node (some Tryz.f365) (.nil) (.nil)) (.nil)))) (.node (some Tryz.f61) (.node (some Tryz.f93) (.node (some Tryz.f157) (.node (some Tryz.f285) (.nil) (.nil)) (.node (some Tryz.f413) (.nil) (.nil))) (.node (some Tryz.f221) (.node (some Tryz.f349) (.nil) (.nil)) (.nil))) (.node (some Tryz.f125) (.node (some Tryz.f189) (.node (some Tryz.f317) (.nil) (.nil)) (.nil)) (.node (some Tryz.f253) (.node (some Tryz.f381) (.nil) (.nil)) (.nil)))))))) (.node (some Tryz.f2) (.node (some Tryz.f4) (.node (some Tryz.f8) (.node (some Tryz.f16) (.node (some Tryz.f32) (.node (some Tryz.f64) (.node (some Tryz.f128) (.node (some Tryz.f256) (.nil) (.nil)) (.node (some Tryz.f384) (.nil) (.nil))) (.node (some Tryz.f192) (.node (some Tryz.f320) (.nil) (.nil)) (.nil))) (.node (some Tryz.f96) (.node (some Tryz.f160) (.node (some Tryz.f288) (.nil) (.nil)) (.node (some Tryz.f416) (.nil) (.nil))) (.node (some Tryz.f224) (.node (some Tryz.f352) (.nil) (.nil)) (.nil)))) (.node (some Tryz.f48) (.node (some Tryz.f80) (.node (some Tryz.f144) (.node (some Tryz.f272) (.nil) (.nil)) (.node (some Tryz.f400) (.nil) (.nil))) (.node (some Tryz.f208) (.node (some Tryz.f336) (.nil) (.nil)) (.nil))) (.node (some Tryz.f112) (.node (some Tryz.f176) (.node (some Tryz.f304) (.nil) (.nil)) (.nil)) (.node (some Tryz.f240) (.node (some Tryz.f368) (.nil) (.nil)) (.nil))))) (.node (some Tryz.f24) (.node (some Tryz.f40) (.node (some Tryz.f72) (.node (some Tryz.f136) (.node (some Tryz.f264) (.nil) (.nil)) (.node (some Tryz.f392) (.nil) (.nil))) (.node (some Tryz.f200) (.node (some Tryz.f328) (.nil) (.nil)) (.nil))) (.node (some Tryz.f104) (.node (some Tryz.f168) (.node (some Tryz.f296) (.nil) (.nil)) (.nil)) (.node (some Tryz.f232) (.node (some Tryz.f360) (.nil) (.nil)) (.nil)))) (.node (some Tryz.f56) (.node (some Tryz.f88) (.node (some Tryz.f152) (.node (some Tryz.f280) (.nil) (.nil)) (.node (some Tryz.f408) (.nil) (.nil))) (.node (some Tryz.f216) (.node (some Tryz.f344) (.nil) (.nil)) (.nil))) (.node (some Tryz.f120) (.node (some Tryz.f184) (.node (some Tryz.f312) (.nil) (.nil)) (.nil)) (.node (some Tryz.f248) (.node (some Tryz.f376) (.nil) (.nil)) (.nil)))))) (.node (some Tryz.f12) (.node (some Tryz.f20) (.node (some Tryz.f36) (.node (some Tryz.f68) (.node (some Tryz.f132) (.node (some Tryz.f260) (.nil) (.nil)) (.node (some Tryz.f388) (.nil) (.nil))) (.node (some Tryz.f196) (.node (some Tryz.f324) (.nil) (.nil)) (.nil))) (.node (some Tryz.f100) (.node (some Tryz.f164) (.node (some Tryz.f292) (.nil) (.nil)) (.nil)) (.node (some Tryz.f228) (.node (some Tryz.f356) (.nil) (.nil)) (.nil)))) (.node (some Tryz.f52) (.node (some Tryz.f84) (.node (some Tryz.f148) (.node (some Tryz.f276) (.nil) (.nil)) (.node (some Tryz.f404) (.nil) (.nil))) (.node (some Tryz.f212) (.node (some Tryz.f340) (.nil) (.nil)) (.nil))) (.node (some Tryz.f116) (.node (some Tryz.f180) (.node (some Tryz.f308) (.nil) (.nil)) (.nil)) (.node (some Tryz.f244) (.node (some Tryz.f372) (.nil) (.nil)) (.nil))))) (.node (some Tryz.f28) (.node (some Tryz.f44) (.node (some Tryz.f76) (.node (some Tryz.f140) (.node (some Tryz.f268) (.nil) (.nil)) (.node (some Tryz.f396) (.nil) (.nil))) (.node (some Tryz.f204) (.node (some Tryz.f332) (.nil) (.nil)) (.nil))) (.node (some Tryz.f108) (.node (some Tryz.f172) (.node (some Tryz.f300) (.nil) (.nil)) (.nil)) (.node (some Tryz.f236) (.node (some Tryz.f364) (.nil) (.nil)) (.nil)))) (.node (some Tryz.f60) (.node (some Tryz.f92) (.node (some Tryz.f156) (.node (some Tryz.f284) (.nil) (.nil)) (.node (some Tryz.f412) (.nil) (.nil))) (.node (some Tryz.f220) (.node (some Tryz.f348) (.nil) (.nil)) (.nil))) (.node (some Tryz.f124) (.node (some Tryz.f188) (.node (some Tryz.f316) (.nil) (.nil)) (.nil)) (.node (some Tryz.f252) (.node (some Tryz.f380) (.nil) (.nil)) (.nil))))))) (.node (some Tryz.f6) (.node (some Tryz.f10) (.node (some Tryz.f18) (.node (some Tryz.f34) (.node (some Tryz.f66) (.node (some Tryz.f130) (.node (some Tryz.f258) (.nil) (.nil)) (.node (some Tryz.f386) (.nil) (.nil))) (.node (some Tryz.f194) (.node (some Tryz.f322) (.nil) (.nil)) (.nil))) (.node (some Tryz.f98) (.node (some Tryz.f162) (.node (some Tryz.f290) (.nil) (.nil)) (.node (some Tryz.f418) (.nil) (.nil))) (.node (some Tryz.f226) (.node (some Tryz.f354) (.nil) (.nil)) (.nil)))) (.node (some Tryz.f50) (.node (some Tryz.f82) (.node (some Tryz.f146) (.node (some Tryz.f274) (.nil) (.nil)) (.node (some Tryz.f402) (.nil) (.nil))) (.node (some Tryz.f210) (.node (some Tryz.f338) (.nil) (.nil)) (.nil))) (.node (some Tryz.f114) (.node (some Tryz.f178) (.node (some Tryz.f306) (.nil) (.nil)) (.nil)) (.node (some Tryz.f242) (.node (some Tryz.f370) (.nil) (.nil)) (.nil))))) (.node (some Tryz.f26) (.node (some Tryz.f42) (.node (some Tryz.f74) (.node (some Tryz.f138) (.node (some Tryz.f266) (.nil) (.nil)) (.node (some Tryz.f394) (.nil) (.nil))) (.node (some Tryz.f202) (.node (some Tryz.f330) (.nil) (.nil)) (.nil))) (.node (some Tryz.f106) (.node (some Tryz.f170) (.node (some Tryz.f298) (.nil) (.nil)) (.nil)) (.node (some Tryz.f234) (.node (some Tryz.f362) (.nil) (.nil)) (.nil)))) (.node (some Tryz.f58) (.node (some Tryz.f90) (.node (some Tryz.f154) (.node (some Tryz.f282) (.nil) (.nil)) (.node (some Tryz.f410) (.nil) (.nil))) (.node (some Tryz.f218) (.node (some Tryz.f346) (.nil) (.nil)) (.nil))) (.node (some Tryz.f122) (.node (some Tryz.f186) (.node (some Tryz.f314) (.nil) (.nil)) (.nil)) (.node (some Tryz.f250) (.node (some Tryz.f378) (.nil) (.nil)) (.nil)))))) (.node (some Tryz.f14) (.node (some Tryz.f22) (.node (some Tryz.f38) (.node (some Tryz.f70) (.node (some Tryz.f134) (.node (some Tryz.f262) (.nil) (.nil)) (.node (some Tryz.f390) (.nil) (.nil))) (.node (some Tryz.f198) (.node (some Tryz.f326) (.nil) (.nil)) (.nil))) (.node (some Tryz.f102) (.node (some Tryz.f166) (.node (some Tryz.f294) (.nil) (.nil)) (.nil)) (.node (some Tryz.f230) (.node (some Tryz.f358) (.nil) (.nil)) (.nil)))) (.node (some Tryz.f54) (.node (some Tryz.f86) (.node (some Tryz.f150) (.node (some Tryz.f278) (.nil) (.nil)) (.node (some Tryz.f406) (.nil) (.nil))) (.node (some Tryz.f214) (.node (some Tryz.f342) (.nil) (.nil)) (.nil))) (.node (some Tryz.f118) (.node (some Tryz.f182) (.node (some Tryz.f310) (.nil) (.nil)) (.nil)) (.node (some Tryz.f246) (.node (some Tryz.f374) (.nil) (.nil)) (.nil))))) (.node (some Tryz.f30) (.node (some Tryz.f46) (.node (some Tryz.f78) (.node (some Tryz.f142) (.node (some Tryz.f270) (.nil) (.nil)) (.node (some Tryz.f398) (.nil) (.nil))) (.node (some Tryz.f206) (.node (some Tryz.f334) (.nil) (.nil)) (.nil))) (.node (some Tryz.f110) (.node (some Tryz.f174) (.node (some Tryz.f302) (.nil) (.nil)) (.nil)) (.node (some Tryz.f238) (.node (some Tryz.f366) (.nil) (.nil)) (.nil)))) (.node (some Tryz.f62) (.node (some Tryz.f94) (.node (some Tryz.f158) (.node (some Tryz.f286) (.nil) (.nil)) (.node (some Tryz.f414) (.nil) (.nil))) (.node (some Tryz.f222) (.node (some Tryz.f350) (.nil) (.nil)) (.nil))) (.node (some Tryz.f126) (.node (some Tryz.f190) (.node (some Tryz.f318) (.nil) (.nil)) (.nil)) (.node (some Tryz.f254) (.node (some Tryz.f382) (.nil) (.nil)) (.nil))))))))
set_option maxRecDepth 100000
theorem TJ:Tr.wQ (fun f fn=>Tryz.prog.funcs[f]?=some fn/\(fn.name == "runtime.NumGoroutine")=false) env 1 0:=⟨⟨Tryz.func0,by kernel_rfl⟩,⟨⟨Tryz.func1,by kernel_rfl⟩,⟨⟨Tryz.func3,by kernel_rfl⟩,⟨⟨Tryz.func7,by kernel_rfl⟩,⟨⟨Tryz.func15,by kernel_rfl⟩,⟨⟨Tryz.func31,by kernel_rfl⟩,⟨⟨Tryz.func63,by kernel_rfl⟩,⟨⟨Tryz.func127,by kernel_rfl⟩,⟨⟨Tryz.func255,by kernel_rfl⟩,trivial,trivial⟩,⟨⟨Tryz.func383,by kernel_rfl⟩,trivial,trivial⟩⟩,⟨⟨Tryz.func191,by kernel_rfl⟩,⟨⟨Tryz.func319,by kernel_rfl⟩,trivial,trivial⟩,trivial⟩⟩,⟨⟨Tryz.func95,by kernel_rfl⟩,⟨⟨Tryz.func159,by kernel_rfl⟩,⟨⟨Tryz.func287,by kernel_rfl⟩,trivial,trivial⟩,⟨⟨Tryz.func415,by kernel_rfl⟩,trivial,trivial⟩⟩,⟨⟨Tryz.func223,by kernel_rfl⟩,⟨⟨Tryz.func351,by kernel_rfl⟩,trivial,trivial⟩,trivial⟩⟩⟩,⟨⟨Tryz.func47,by kernel_rfl⟩,⟨⟨Tryz.func79,by kernel_rfl⟩,⟨⟨Tryz.func143,by kernel_rfl⟩,⟨⟨Tryz.func271,by kernel_rfl⟩,trivial,trivial⟩,⟨⟨Tryz.func399,by kernel_rfl⟩,trivial,trivial⟩⟩,⟨⟨Tryz.func207,by kernel_rfl⟩,⟨⟨Tryz.func335,by kernel_rfl⟩,trivial,trivial⟩,trivial⟩⟩,⟨⟨Tryz.func111,by kernel_rfl⟩,⟨⟨Tryz.func175,by kernel_rfl⟩,⟨⟨Tryz.func303,by kernel_rfl⟩,trivial,trivial⟩,trivial⟩,⟨⟨Tryz.func239,by kernel_rfl⟩,⟨⟨Tryz.func367,by kernel_rfl⟩,trivial,trivial⟩,trivial⟩⟩⟩⟩,⟨⟨Tryz.func23,by kernel_rfl⟩,⟨⟨Tryz.func39,by kernel_rfl⟩,⟨⟨Tryz.func71,by kernel_rfl⟩,⟨⟨Tryz.func135,by kernel_rfl⟩,⟨⟨Tryz.func263,by kernel_rfl⟩,trivial,trivial⟩,⟨⟨Tryz.func391,by kernel_rfl⟩,trivial,trivial⟩⟩,⟨⟨Tryz.func199,by kernel_rfl⟩,⟨⟨Tryz.func327,by kernel_rfl⟩,trivial,trivial⟩,trivial⟩⟩,⟨⟨Tryz.func103,by kernel_rfl⟩,⟨⟨Tryz.func167,by kernel_rfl⟩,⟨⟨Tryz.func295,by kernel_rfl⟩,trivial,trivial⟩,trivial⟩,⟨⟨Tryz.func231,by kernel_rfl⟩,⟨⟨Tryz.func359,by kernel_rfl⟩,trivial,trivial⟩,trivial⟩⟩⟩,⟨⟨Tryz.func55,by kernel_rfl⟩,⟨⟨Tryz.func87,by kernel_rfl⟩,⟨⟨Tryz.func151,by kernel_rfl⟩,⟨⟨Tryz.func279,by kernel_rfl⟩,trivial,trivial⟩,⟨⟨Tryz.func407,by kernel_rfl⟩,trivial,trivial⟩⟩,⟨⟨Tryz.func215,by kernel_rfl⟩,⟨⟨Tryz.func343,by kernel_rfl⟩,trivial,trivial⟩,trivial⟩⟩,⟨⟨Tryz.func119,by kernel_rfl⟩,⟨⟨Tryz.func183,by kernel_rfl⟩,⟨⟨Tryz.func311,by kernel_rfl⟩,trivial,trivial⟩,trivial⟩,⟨⟨Tryz.func247,by kernel_rfl⟩,⟨⟨Tryz.func375,by kernel_rfl⟩,trivial,trivial⟩,trivial⟩⟩⟩⟩⟩,⟨⟨Tryz.func11,by kernel_rfl⟩,⟨⟨Tryz.func19,by kernel_rfl⟩,⟨⟨Tryz.func35,by kernel_rfl⟩,⟨⟨Tryz.func67,by kernel_rfl⟩,⟨⟨Tryz.func131,by kernel_rfl⟩,⟨⟨Tryz.func259,by kernel_rfl⟩,trivial,trivial⟩,⟨⟨Tryz.func387,by kernel_rfl⟩,trivial,trivial⟩⟩,⟨⟨Tryz.func195,by kernel_rfl⟩,⟨⟨Tryz.func323,by kernel_rfl⟩,trivial,trivial⟩,trivial⟩⟩,⟨⟨Tryz.func99,by kernel_rfl⟩,⟨⟨Tryz.func163,by kernel_rfl⟩,⟨⟨Tryz.func291,by kernel_rfl⟩,trivial,trivial⟩,⟨⟨Tryz.func419,by kernel_rfl⟩,trivial,trivial⟩⟩,⟨⟨Tryz.func227,by kernel_rfl⟩,⟨⟨Tryz.func355,by kernel_rfl⟩,trivial,trivial⟩,trivial⟩⟩⟩,⟨⟨Tryz.func51,by kernel_rfl⟩,⟨⟨Tryz.func83,by kernel_rfl⟩,⟨⟨Tryz.func147,by kernel_rfl⟩,⟨⟨Tryz.func275,by kernel_rfl⟩,trivial,trivial⟩,⟨⟨Tryz.func403,by kernel_rfl⟩,trivial,trivial⟩⟩,⟨⟨Tryz.func211,by kernel_rfl⟩,⟨⟨Tryz.func339,by kernel_rfl⟩,trivial,trivial⟩,trivial⟩⟩,⟨⟨Tryz.func115,by kernel_rfl⟩,⟨⟨Tryz.func179,by kernel_rfl⟩,⟨⟨Tryz.func307,by kernel_rfl⟩,trivial,trivial⟩,trivial⟩,⟨⟨Tryz.func243,by kernel_rfl⟩,⟨⟨Tryz.func371,by kernel_rfl⟩,trivial,trivial⟩,trivial⟩⟩⟩⟩,⟨⟨Tryz.func27,by kernel_rfl⟩,⟨⟨Tryz.func43,by kernel_rfl⟩,⟨⟨Tryz.func75,by kernel_rfl⟩,⟨⟨Tryz.func139,by kernel_rfl⟩,⟨⟨Tryz.func267,by kernel_rfl⟩,trivial,trivial⟩,⟨⟨Tryz.func395,by kernel_rfl⟩,trivial,trivial⟩⟩,⟨⟨Tryz.func203,by kernel_rfl⟩,⟨⟨Tryz.func331,by kernel_rfl⟩,trivial,trivial⟩,trivial⟩⟩,⟨⟨Tryz.func107,by kernel_rfl⟩,⟨⟨Tryz.func171,by kernel_rfl⟩,⟨⟨Tryz.func299,by kernel_rfl⟩,trivial,trivial⟩,trivial⟩,⟨⟨Tryz.func235,by kernel_rfl⟩,⟨⟨Tryz.func363,by kernel_rfl⟩,trivial,trivial⟩,trivial⟩⟩⟩,⟨⟨Tryz.func59,by kernel_rfl⟩,⟨⟨Tryz.func91,by kernel_rfl⟩,⟨⟨Tryz.func155,by kernel_rfl⟩,⟨⟨Tryz.func283,by kernel_rfl⟩,trivial,trivial⟩,⟨⟨Tryz.func411,by kernel_rfl⟩,trivial,trivial⟩⟩,⟨⟨Tryz.func219,by kernel_rfl⟩,⟨⟨Tryz.func347,by kernel_rfl⟩,trivial,trivial⟩,trivial⟩⟩,⟨⟨Tryz.func123,by kernel_rfl⟩,⟨⟨Tryz.func187,by kernel_rfl⟩,⟨⟨Tryz.func315,by kernel_rfl⟩,trivial,trivial⟩,trivial⟩,⟨⟨Tryz.func251,by kernel_rfl⟩,⟨⟨Tryz.func379,by kernel_rfl⟩,trivial,trivial⟩,trivial⟩⟩⟩⟩⟩⟩,⟨⟨Tryz.func5,by kernel_rfl⟩,⟨⟨Tryz.func9,by kernel_rfl⟩,⟨⟨Tryz.func17,by kernel_rfl⟩,⟨⟨Tryz.func33,by kernel_rfl⟩,⟨⟨Tryz.func65,by kernel_rfl⟩,⟨⟨Tryz.func129,by kernel_rfl⟩,⟨⟨Tryz.func257,by kernel_rfl⟩,trivial,trivial⟩,⟨⟨Tryz.func385,by kernel_rfl⟩,trivial,trivial⟩⟩,⟨⟨Tryz.func193,by kernel_rfl⟩,⟨⟨Tryz.func321,by kernel_rfl⟩,trivial,trivial⟩,trivial⟩⟩,⟨⟨Tryz.func97,by kernel_rfl⟩,⟨⟨Tryz.func161,by kernel_rfl⟩,⟨⟨Tryz.func289,by kernel_rfl⟩,trivial,trivial⟩,⟨⟨Tryz.func417,by kernel_rfl⟩,trivial,trivial⟩⟩,⟨⟨Tryz.func225,by kernel_rfl⟩,⟨⟨Tryz.func353,by kernel_rfl⟩,trivial,trivial⟩,trivial⟩⟩⟩,⟨⟨Tryz.func49,by kernel_rfl⟩,⟨⟨Tryz.func81,by kernel_rfl⟩,⟨⟨Tryz.func145,by kernel_rfl⟩,⟨⟨Tryz.func273,by kernel_rfl⟩,trivial,trivial⟩,⟨⟨Tryz.func401,by kernel_rfl⟩,trivial,trivial⟩⟩,⟨⟨Tryz.func209,by kernel_rfl⟩,⟨⟨Tryz.func337,by kernel_rfl⟩,trivial,trivial⟩,trivial⟩⟩,⟨⟨Tryz.func113,by kernel_rfl⟩,⟨⟨Tryz.func177,by kernel_rfl⟩,⟨⟨Tryz.func305,by kernel_rfl⟩,trivial,trivial⟩,trivial⟩,⟨⟨Tryz.func241,by kernel_rfl⟩,⟨⟨Tryz.func369,by kernel_rfl⟩,trivial,trivial⟩,trivial⟩⟩⟩⟩,⟨⟨Tryz.func25,by kernel_rfl⟩,⟨⟨Tryz.func41,by kernel_rfl⟩,⟨⟨Tryz.func73,by kernel_rfl⟩,⟨⟨Tryz.func137,by kernel_rfl⟩,⟨⟨Tryz.func265,by kernel_rfl⟩,trivial,trivial⟩,⟨⟨Tryz.func393,by kernel_rfl⟩,trivial,trivial⟩⟩,⟨⟨Tryz.func201,by kernel_rfl⟩,⟨⟨Tryz.func329,by kernel_rfl⟩,trivial,trivial⟩,trivial⟩⟩,⟨⟨Tryz.func105,by kernel_rfl⟩,⟨⟨Tryz.func169,by kernel_rfl⟩,⟨⟨Tryz.func297,by kernel_rfl⟩,trivial,trivial⟩,trivial⟩,⟨⟨Tryz.func233,by kernel_rfl⟩,⟨⟨Tryz.func361,by kernel_rfl⟩,trivial,trivial⟩,trivial⟩⟩⟩,⟨⟨Tryz.func57,by kernel_rfl⟩,⟨⟨Tryz.func89,by kernel_rfl⟩,⟨⟨Tryz.func153,by kernel_rfl⟩,⟨⟨Tryz.func281,by kernel_rfl⟩,trivial,trivial⟩,⟨⟨Tryz.func409,by kernel_rfl⟩,trivial,trivial⟩⟩,⟨⟨Tryz.func217,by kernel_rfl⟩,⟨⟨Tryz.func345,by kernel_rfl⟩,trivial,trivial⟩,trivial⟩⟩,⟨⟨Tryz.func121,by kernel_rfl⟩,⟨⟨Tryz.func185,by kernel_rfl⟩,⟨⟨Tryz.func313,by kernel_rfl⟩,trivial,trivial⟩,trivial⟩,⟨⟨Tryz.func249,by kernel_rfl⟩,⟨⟨Tryz.func377,by kernel_rfl⟩,trivial,trivial⟩,trivial⟩⟩⟩⟩⟩,⟨⟨Tryz.func13,by kernel_rfl⟩,⟨⟨Tryz.func21,by kernel_rfl⟩,⟨⟨Tryz.func37,by kernel_rfl⟩,⟨⟨Tryz.func69,by kernel_rfl⟩,⟨⟨Tryz.func133,by kernel_rfl⟩,⟨⟨Tryz.func261,by kernel_rfl⟩,trivial,trivial⟩,⟨⟨Tryz.func389,by kernel_rfl⟩,trivial,trivial⟩⟩,⟨⟨Tryz.func197,by kernel_rfl⟩,⟨⟨Tryz.func325,by kernel_rfl⟩,trivial,trivial⟩,trivial⟩⟩,⟨⟨Tryz.func101,by kernel_rfl⟩,⟨⟨Tryz.func165,by kernel_rfl⟩,⟨⟨Tryz.func293,by kernel_rfl⟩,trivial,trivial⟩,trivial⟩,⟨⟨Tryz.func229,by kernel_rfl⟩,⟨⟨Tryz.func357,by kernel_rfl⟩,trivial,trivial⟩,trivial⟩⟩⟩,⟨⟨Tryz.func53,by kernel_rfl⟩,⟨⟨Tryz.func85,by kernel_rfl⟩,⟨⟨Tryz.func149,by kernel_rfl⟩,⟨⟨Tryz.func277,by kernel_rfl⟩,trivial,trivial⟩,⟨⟨Tryz.func405,by kernel_rfl⟩,trivial,trivial⟩⟩,⟨⟨Tryz.func213,by kernel_rfl⟩,⟨⟨Tryz.func341,by kernel_rfl⟩,trivial,trivial⟩,trivial⟩⟩,⟨⟨Tryz.func117,by kernel_rfl⟩,⟨⟨Tryz.func181,by kernel_rfl⟩,⟨⟨Tryz.func309,by kernel_rfl⟩,trivial,trivial⟩,trivial⟩,⟨⟨Tryz.func245,by kernel_rfl⟩,⟨⟨Tryz.func373,by kernel_rfl⟩,trivial,trivial⟩,trivial⟩⟩⟩⟩,⟨⟨Tryz.func29,by kernel_rfl⟩,⟨⟨Tryz.func45,by kernel_rfl⟩,⟨⟨Tryz.func77,by kernel_rfl⟩,⟨⟨Tryz.func141,by kernel_rfl⟩,⟨⟨Tryz.func269,by kernel_rfl⟩,trivial,trivial⟩,⟨⟨Tryz.func397,by kernel_rfl⟩,trivial,trivial⟩⟩,⟨⟨Tryz.func205,by kernel_rfl⟩,⟨⟨Tryz.func333,by kernel_rfl⟩,trivial,trivial⟩,trivial⟩⟩,⟨⟨Tryz.func109,by kernel_rfl⟩,⟨⟨Tryz.func173,by kernel_rfl⟩,⟨⟨Tryz.func301,by kernel_rfl⟩,trivial,trivial⟩,trivial⟩,⟨⟨Tryz.func237,by kernel_rfl⟩,⟨⟨Tryz.func365,by kernel_rfl⟩,trivial,trivial⟩,trivial⟩⟩⟩,⟨⟨Tryz.func61,by kernel_rfl⟩,⟨⟨Tryz.func93,by kernel_rfl⟩,⟨⟨Tryz.func157,by kernel_rfl⟩,⟨⟨Tryz.func285,by kernel_rfl⟩,trivial,trivial⟩,⟨⟨Tryz.func413,by kernel_rfl⟩,trivial,trivial⟩⟩,⟨⟨Tryz.func221,by kernel_rfl⟩,⟨⟨Tryz.func349,by kernel_rfl⟩,trivial,trivial⟩,trivial⟩⟩,⟨⟨Tryz.func125,by kernel_rfl⟩,⟨⟨Tryz.func189,by kernel_rfl⟩,⟨⟨Tryz.func317,by kernel_rfl⟩,trivial,trivial⟩,trivial⟩,⟨⟨Tryz.func253,by kernel_rfl⟩,⟨⟨Tryz.func381,by kernel_rfl⟩,trivial,trivial⟩,trivial⟩⟩⟩⟩⟩⟩⟩,⟨⟨Tryz.func2,by kernel_rfl⟩,⟨⟨Tryz.func4,by kernel_rfl⟩,⟨⟨Tryz.func8,by kernel_rfl⟩,⟨⟨Tryz.func16,by kernel_rfl⟩,⟨⟨Tryz.func32,by kernel_rfl⟩,⟨⟨Tryz.func64,by kernel_rfl⟩,⟨⟨Tryz.func128,by kernel_rfl⟩,⟨⟨Tryz.func256,by kernel_rfl⟩,trivial,trivial⟩,⟨⟨Tryz.func384,by kernel_rfl⟩,trivial,trivial⟩⟩,⟨⟨Tryz.func192,by kernel_rfl⟩,⟨⟨Tryz.func320,by kernel_rfl⟩,trivial,trivial⟩,trivial⟩⟩,⟨⟨Tryz.func96,by kernel_rfl⟩,⟨⟨Tryz.func160,by kernel_rfl⟩,⟨⟨Tryz.func288,by kernel_rfl⟩,trivial,trivial⟩,⟨⟨Tryz.func416,by kernel_rfl⟩,trivial,trivial⟩⟩,⟨⟨Tryz.func224,by kernel_rfl⟩,⟨⟨Tryz.func352,by kernel_rfl⟩,trivial,trivial⟩,trivial⟩⟩⟩,⟨⟨Tryz.func48,by kernel_rfl⟩,⟨⟨Tryz.func80,by kernel_rfl⟩,⟨⟨Tryz.func144,by kernel_rfl⟩,⟨⟨Tryz.func272,by kernel_rfl⟩,trivial,trivial⟩,⟨⟨Tryz.func400,by kernel_rfl⟩,trivial,trivial⟩⟩,⟨⟨Tryz.func208,by kernel_rfl⟩,⟨⟨Tryz.func336,by kernel_rfl⟩,trivial,trivial⟩,trivial⟩⟩,⟨⟨Tryz.func112,by kernel_rfl⟩,⟨⟨Tryz.func176,by kernel_rfl⟩,⟨⟨Tryz.func304,by kernel_rfl⟩,trivial,trivial⟩,trivial⟩,⟨⟨Tryz.func240,by kernel_rfl⟩,⟨⟨Tryz.func368,by kernel_rfl⟩,trivial,trivial⟩,trivial⟩⟩⟩⟩,⟨⟨Tryz.func24,by kernel_rfl⟩,⟨⟨Tryz.func40,by kernel_rfl⟩,⟨⟨Tryz.func72,by kernel_rfl⟩,⟨⟨Tryz.func136,by kernel_rfl⟩,⟨⟨Tryz.func264,by kernel_rfl⟩,trivial,trivial⟩,⟨⟨Tryz.func392,by kernel_rfl⟩,trivial,trivial⟩⟩,⟨⟨Tryz.func200,by kernel_rfl⟩,⟨⟨Tryz.func328,by kernel_rfl⟩,trivial,trivial⟩,trivial⟩⟩,⟨⟨Tryz.func104,by kernel_rfl⟩,⟨⟨Tryz.func168,by kernel_rfl⟩,⟨⟨Tryz.func296,by kernel_rfl⟩,trivial,trivial⟩,trivial⟩,⟨⟨Tryz.func232,by kernel_rfl⟩,⟨⟨Tryz.func360,by kernel_rfl⟩,trivial,trivial⟩,trivial⟩⟩⟩,⟨⟨Tryz.func56,by kernel_rfl⟩,⟨⟨Tryz.func88,by kernel_rfl⟩,⟨⟨Tryz.func152,by kernel_rfl⟩,⟨⟨Tryz.func280,by kernel_rfl⟩,trivial,trivial⟩,⟨⟨Tryz.func408,by kernel_rfl⟩,trivial,trivial⟩⟩,⟨⟨Tryz.func216,by kernel_rfl⟩,⟨⟨Tryz.func344,by kernel_rfl⟩,trivial,trivial⟩,trivial⟩⟩,⟨⟨Tryz.func120,by kernel_rfl⟩,⟨⟨Tryz.func184,by kernel_rfl⟩,⟨⟨Tryz.func312,by kernel_rfl⟩,trivial,trivial⟩,trivial⟩,⟨⟨Tryz.func248,by kernel_rfl⟩,⟨⟨Tryz.func376,by kernel_rfl⟩,trivial,trivial⟩,trivial⟩⟩⟩⟩⟩,⟨⟨Tryz.func12,by kernel_rfl⟩,⟨⟨Tryz.func20,by kernel_rfl⟩,⟨⟨Tryz.func36,by kernel_rfl⟩,⟨⟨Tryz.func68,by kernel_rfl⟩,⟨⟨Tryz.func132,by kernel_rfl⟩,⟨⟨Tryz.func260,by kernel_rfl⟩,trivial,trivial⟩,⟨⟨Tryz.func388,by kernel_rfl⟩,trivial,trivial⟩⟩,⟨⟨Tryz.func196,by kernel_rfl⟩,⟨⟨Tryz.func324,by kernel_rfl⟩,trivial,trivial⟩,trivial⟩⟩,⟨⟨Tryz.func100,by kernel_rfl⟩,⟨⟨Tryz.func164,by kernel_rfl⟩,⟨⟨Tryz.func292,by kernel_rfl⟩,trivial,trivial⟩,trivial⟩,⟨⟨Tryz.func228,by kernel_rfl⟩,⟨⟨Tryz.func356,by kernel_rfl⟩,trivial,trivial⟩,trivial⟩⟩⟩,⟨⟨Tryz.func52,by kernel_rfl⟩,⟨⟨Tryz.func84,by kernel_rfl⟩,⟨⟨Tryz.func148,by kernel_rfl⟩,⟨⟨Tryz.func276,by kernel_rfl⟩,trivial,trivial⟩,⟨⟨Tryz.func404,by kernel_rfl⟩,trivial,trivial⟩⟩,⟨⟨Tryz.func212,by kernel_rfl⟩,⟨⟨Tryz.func340,by kernel_rfl⟩,trivial,trivial⟩,trivial⟩⟩,⟨⟨Tryz.func116,by kernel_rfl⟩,⟨⟨Tryz.func180,by kernel_rfl⟩,⟨⟨Tryz.func308,by kernel_rfl⟩,trivial,trivial⟩,trivial⟩,⟨⟨Tryz.func244,by kernel_rfl⟩,⟨⟨Tryz.func372,by kernel_rfl⟩,trivial,trivial⟩,trivial⟩⟩⟩⟩,⟨⟨Tryz.func28,by kernel_rfl⟩,⟨⟨Tryz.func44,by kernel_rfl⟩,⟨⟨Tryz.func76,by kernel_rfl⟩,⟨⟨Tryz.func140,by kernel_rfl⟩,⟨⟨Tryz.func268,by kernel_rfl⟩,trivial,trivial⟩,⟨⟨Tryz.func396,by kernel_rfl⟩,trivial,trivial⟩⟩,⟨⟨Tryz.func204,by kernel_rfl⟩,⟨⟨Tryz.func332,by kernel_rfl⟩,trivial,trivial⟩,trivial⟩⟩,⟨⟨Tryz.func108,by kernel_rfl⟩,⟨⟨Tryz.func172,by kernel_rfl⟩,⟨⟨Tryz.func300,by kernel_rfl⟩,trivial,trivial⟩,trivial⟩,⟨⟨Tryz.func236,by kernel_rfl⟩,⟨⟨Tryz.func364,by kernel_rfl⟩,trivial,trivial⟩,trivial⟩⟩⟩,⟨⟨Tryz.func60,by kernel_rfl⟩,⟨⟨Tryz.func92,by kernel_rfl⟩,⟨⟨Tryz.func156,by kernel_rfl⟩,⟨⟨Tryz.func284,by kernel_rfl⟩,trivial,trivial⟩,⟨⟨Tryz.func412,by kernel_rfl⟩,trivial,trivial⟩⟩,⟨⟨Tryz.func220,by kernel_rfl⟩,⟨⟨Tryz.func348,by kernel_rfl⟩,trivial,trivial⟩,trivial⟩⟩,⟨⟨Tryz.func124,by kernel_rfl⟩,⟨⟨Tryz.func188,by kernel_rfl⟩,⟨⟨Tryz.func316,by kernel_rfl⟩,trivial,trivial⟩,trivial⟩,⟨⟨Tryz.func252,by kernel_rfl⟩,⟨⟨Tryz.func380,by kernel_rfl⟩,trivial,trivial⟩,trivial⟩⟩⟩⟩⟩⟩,⟨⟨Tryz.func6,by kernel_rfl⟩,⟨⟨Tryz.func10,by kernel_rfl⟩,⟨⟨Tryz.func18,by kernel_rfl⟩,⟨⟨Tryz.func34,by kernel_rfl⟩,⟨⟨Tryz.func66,by kernel_rfl⟩,⟨⟨Tryz.func130,by kernel_rfl⟩,⟨⟨Tryz.func258,by kernel_rfl⟩,trivial,trivial⟩,⟨⟨Tryz.func386,by kernel_rfl⟩,trivial,trivial⟩⟩,⟨⟨Tryz.func194,by kernel_rfl⟩,⟨⟨Tryz.func322,by kernel_rfl⟩,trivial,trivial⟩,trivial⟩⟩,⟨⟨Tryz.func98,by kernel_rfl⟩,⟨⟨Tryz.func162,by kernel_rfl⟩,⟨⟨Tryz.func290,by kernel_rfl⟩,trivial,trivial⟩,⟨⟨Tryz.func418,by kernel_rfl⟩,trivial,trivial⟩⟩,⟨⟨Tryz.func226,by kernel_rfl⟩,⟨⟨Tryz.func354,by kernel_rfl⟩,trivial,trivial⟩,trivial⟩⟩⟩,⟨⟨Tryz.func50,by kernel_rfl⟩,⟨⟨Tryz.func82,by kernel_rfl⟩,⟨⟨Tryz.func146,by kernel_rfl⟩,⟨⟨Tryz.func274,by kernel_rfl⟩,trivial,trivial⟩,⟨⟨Tryz.func402,by kernel_rfl⟩,trivial,trivial⟩⟩,⟨⟨Tryz.func210,by kernel_rfl⟩,⟨⟨Tryz.func338,by kernel_rfl⟩,trivial,trivial⟩,trivial⟩⟩,⟨⟨Tryz.func114,by kernel_rfl⟩,⟨⟨Tryz.func178,by kernel_rfl⟩,⟨⟨Tryz.func306,by kernel_rfl⟩,trivial,trivial⟩,trivial⟩,⟨⟨Tryz.func242,by kernel_rfl⟩,⟨⟨Tryz.func370,by kernel_rfl⟩,trivial,trivial⟩,trivial⟩⟩⟩⟩,⟨⟨Tryz.func26,by kernel_rfl⟩,⟨⟨Tryz.func42,by kernel_rfl⟩,⟨⟨Tryz.func74,by kernel_rfl⟩,⟨⟨Tryz.func138,by kernel_rfl⟩,⟨⟨Tryz.func266,by kernel_rfl⟩,trivial,trivial⟩,⟨⟨Tryz.func394,by kernel_rfl⟩,trivial,trivial⟩⟩,⟨⟨Tryz.func202,by kernel_rfl⟩,⟨⟨Tryz.func330,by kernel_rfl⟩,trivial,trivial⟩,trivial⟩⟩,⟨⟨Tryz.func106,by kernel_rfl⟩,⟨⟨Tryz.func170,by kernel_rfl⟩,⟨⟨Tryz.func298,by kernel_rfl⟩,trivial,trivial⟩,trivial⟩,⟨⟨Tryz.func234,by kernel_rfl⟩,⟨⟨Tryz.func362,by kernel_rfl⟩,trivial,trivial⟩,trivial⟩⟩⟩,⟨⟨Tryz.func58,by kernel_rfl⟩,⟨⟨Tryz.func90,by kernel_rfl⟩,⟨⟨Tryz.func154,by kernel_rfl⟩,⟨⟨Tryz.func282,by kernel_rfl⟩,trivial,trivial⟩,⟨⟨Tryz.func410,by kernel_rfl⟩,trivial,trivial⟩⟩,⟨⟨Tryz.func218,by kernel_rfl⟩,⟨⟨Tryz.func346,by kernel_rfl⟩,trivial,trivial⟩,trivial⟩⟩,⟨⟨Tryz.func122,by kernel_rfl⟩,⟨⟨Tryz.func186,by kernel_rfl⟩,⟨⟨Tryz.func314,by kernel_rfl⟩,trivial,trivial⟩,trivial⟩,⟨⟨Tryz.func250,by kernel_rfl⟩,⟨⟨Tryz.func378,by kernel_rfl⟩,trivial,trivial⟩,trivial⟩⟩⟩⟩⟩,⟨⟨Tryz.func14,by kernel_rfl⟩,⟨⟨Tryz.func22,by kernel_rfl⟩,⟨⟨Tryz.func38,by kernel_rfl⟩,⟨⟨Tryz.func70,by kernel_rfl⟩,⟨⟨Tryz.func134,by kernel_rfl⟩,⟨⟨Tryz.func262,by kernel_rfl⟩,trivial,trivial⟩,⟨⟨Tryz.func390,by kernel_rfl⟩,trivial,trivial⟩⟩,⟨⟨Tryz.func198,by kernel_rfl⟩,⟨⟨Tryz.func326,by kernel_rfl⟩,trivial,trivial⟩,trivial⟩⟩,⟨⟨Tryz.func102,by kernel_rfl⟩,⟨⟨Tryz.func166,by kernel_rfl⟩,⟨⟨Tryz.func294,by kernel_rfl⟩,trivial,trivial⟩,trivial⟩,⟨⟨Tryz.func230,by kernel_rfl⟩,⟨⟨Tryz.func358,by kernel_rfl⟩,trivial,trivial⟩,trivial⟩⟩⟩,⟨⟨Tryz.func54,by kernel_rfl⟩,⟨⟨Tryz.func86,by kernel_rfl⟩,⟨⟨Tryz.func150,by kernel_rfl⟩,⟨⟨Tryz.func278,by kernel_rfl⟩,trivial,trivial⟩,⟨⟨Tryz.func406,by kernel_rfl⟩,trivial,trivial⟩⟩,⟨⟨Tryz.func214,by kernel_rfl⟩,⟨⟨Tryz.func342,by kernel_rfl⟩,trivial,trivial⟩,trivial⟩⟩,⟨⟨Tryz.func118,by kernel_rfl⟩,⟨⟨Tryz.func182,by kernel_rfl⟩,⟨⟨Tryz.func310,by kernel_rfl⟩,trivial,trivial⟩,trivial⟩,⟨⟨Tryz.func246,by kernel_rfl⟩,⟨⟨Tryz.func374,by kernel_rfl⟩,trivial,trivial⟩,trivial⟩⟩⟩⟩,⟨⟨Tryz.func30,by kernel_rfl⟩,⟨⟨Tryz.func46,by kernel_rfl⟩,⟨⟨Tryz.func78,by kernel_rfl⟩,⟨⟨Tryz.func142,by kernel_rfl⟩,⟨⟨Tryz.func270,by kernel_rfl⟩,trivial,trivial⟩,⟨⟨Tryz.func398,by kernel_rfl⟩,trivial,trivial⟩⟩,⟨⟨Tryz.func206,by kernel_rfl⟩,⟨⟨Tryz.func334,by kernel_rfl⟩,trivial,trivial⟩,trivial⟩⟩,⟨⟨Tryz.func110,by kernel_rfl⟩,⟨⟨Tryz.func174,by kernel_rfl⟩,⟨⟨Tryz.func302,by kernel_rfl⟩,trivial,trivial⟩,trivial⟩,⟨⟨Tryz.func238,by kernel_rfl⟩,⟨⟨Tryz.func366,by kernel_rfl⟩,trivial,trivial⟩,trivial⟩⟩⟩,⟨⟨Tryz.func62,by kernel_rfl⟩,⟨⟨Tryz.func94,by kernel_rfl⟩,⟨⟨Tryz.func158,by kernel_rfl⟩,⟨⟨Tryz.func286,by kernel_rfl⟩,trivial,trivial⟩,⟨⟨Tryz.func414,by kernel_rfl⟩,trivial,trivial⟩⟩,⟨⟨Tryz.func222,by kernel_rfl⟩,⟨⟨Tryz.func350,by kernel_rfl⟩,trivial,trivial⟩,trivial⟩⟩,⟨⟨Tryz.func126,by kernel_rfl⟩,⟨⟨Tryz.func190,by kernel_rfl⟩,⟨⟨Tryz.func318,by kernel_rfl⟩,trivial,trivial⟩,trivial⟩,⟨⟨Tryz.func254,by kernel_rfl⟩,⟨⟨Tryz.func382,by kernel_rfl⟩,trivial,trivial⟩,trivial⟩⟩⟩⟩⟩⟩⟩⟩
theorem qf:iS Tryz.prog env:=by intro f fn h;have:=Tr.Bg TJ f fn h;simpa using this
