import Derived.Test.YtkcpdpplobhpaaaGreatKRa
import Derived.Test.YtkcpdpplobhpaaaGreatKSb
set_option linter.unusedVariables false
set_option linter.unusedSimpArgs false
set_option linter.unnecessarySimpa false
section
namespace Go.Proofs.YtkcpdpplobhpaaaGreat.Pl
section
variable{α:Type}(key:α->Int)
def eE(L:List α):Prop:=L.Pairwise (fun x y=>key x<=key y)
def fk(k:Int)(L:List α):List α:=L.filter (fun x=>decide (key x=k))
structure cP(S S':List α):Prop where
 oA:eE key S'
 len:S'.length=S.length
 pq:∀k,fk key k S'=fk key k S
variable{key}
theorem lD(k:Int)(A B:List α):fk key k (A++B)=fk key k A++fk key k B:=List.filter_append A B
theorem Vw{k:Int}{L:List α}{x:α}:x∈fk key k L↔x∈L/\key x=k:=by unfold fk;simp
theorem Vl{k:Int}{L:List α}(h:∀x∈L,key x≠k):fk key k L=[]:=by unfold fk;rw[List.filter_eq_nil_iff];intro x hx;simpa using h x hx
theorem acu{S S':List α}(h:∀k,fk key k S'=fk key k S){x:α}(hx:x∈S'):x∈S:=by have:x∈fk key (key x) S':=Vw.2 ⟨hx,rfl⟩;rw[h]at this;exact(Vw.1 this).1
theorem cP.mem{S S':List α}(h:cP key S S'){x:α}:x∈S'↔x∈S:=⟨acu h.pq,acu (fun k=>(h.pq k).symm)⟩
theorem cP.refl{S:List α}(h:eE key S):cP key S S:=⟨h,rfl,fun _=>rfl⟩
theorem me{A B:List α}:eE key (A++B)↔eE key A/\eE key B/\∀x∈A,∀y∈B,key x<=key y:=by unfold eE;rw[List.pairwise_append]
theorem Ot{x:α}{B:List α}:eE key (x::B)↔(∀y∈B,key x<=key y)/\eE key B:=by unfold eE;rw[List.pairwise_cons]
theorem acW{A B:List α}(h:∀x∈A,∀y∈B,key y<key x)(k:Int):fk key k (A++B)=fk key k (B++A):=by
 rw[lD,lD];by_cases q:∃x∈A,key x=k
 .obtain⟨x,hx,hk⟩:=q;have:fk key k B=[]:=Vl (fun y hy=>by have:=h x hx y hy;omega);rw[this];simp
 .have:fk key k A=[]:=Vl (fun x hx hk=>q ⟨x,hx,hk⟩);rw[this];simp
theorem Og{T0 T1 T2:List α}{x:α}(h:cP key T0 (T1++T2))(h1:∀y∈T1,key y<=key x)(h2:∀y∈T2,key x<key y):cP key (T0++[x]) (T1++x::T2):=by
 obtain⟨s1,s2,s3⟩:=me.1 h.oA;refine⟨?_,?_,?_⟩
 .refine me.2 ⟨s1,Ot.2 ⟨fun y hy=>Int.le_of_lt (h2 y hy),s2⟩,?_⟩;intro a ha b hb;rcases List.mem_cons.1 hb with rfl|hb
  .exact h1 a ha
  .exact s3 a ha b hb
 .have:=h.len;simp only[aW,ca,List.length_nil]at *
  omega
 .intro k;have e:fk key k (x::T2)=fk key k (T2++[x]):=by have:=acW (key:=key) (A:=T2) (B:=[x]) (fun a ha b hb=>by simp at hb;subst hb;exact h2 a ha) k;rw[this];rfl
  rw[lD,e,lD,<-cN,<-lD,h.pq,<-lD]
theorem ahR{A B A' B':List α}(ha:cP key A A')(hb:cP key B B')(h:∀x∈A,∀y∈B,key x<=key y):cP key (A++B) (A'++B'):=by
 refine⟨me.2 ⟨ha.oA,hb.oA,fun x hx y hy=>h x (ha.mem.1 hx) y (hb.mem.1 hy)⟩,?_,?_⟩
 .have:=ha.len;have:=hb.len;simp only[aW];omega
 .intro k;rw[lD,lD,ha.pq,hb.pq]
theorem cP.Wb{A B C:List α}(hl:B.length=A.length)(h:∀k,fk key k B=fk key k A)(g:cP key B C):cP key A C:=⟨g.oA,g.len.trans hl,fun k=>(g.pq k).trans (h k)⟩
theorem Dw{P1 P2 Q1 Q2 R1 R2:List α}(hp:eE key (P1++P2))(hq:eE key (Q1++Q2))(h1:∀x∈P1,∀y∈Q2,key x<=key y)(h2:∀x∈P2,∀y∈Q1,key y<key x)
  (r1:cP key (P1++Q1) R1) (r2:cP key (P2++Q2) R2):cP key ((P1++P2)++(Q1++Q2)) (R1++R2):=by
 obtain⟨p1,p2,p3⟩:=me.1 hp;obtain⟨q1,q2,q3⟩:=me.1 hq;refine cP.Wb (B:=(P1++Q1)++(P2++Q2)) ?_ ?_ (ahR r1 r2 ?_)
 .simp only[aW];omega
 .intro k;have e:=acW (key:=key) (A:=P2) (B:=Q1) h2 k;rw[lD,lD]at e;simp only[lD,cN];rw[<-cN (fk key k Q1),<-e,cN]
 .intro x hx y hy;rcases List.mem_append.1 hx with hx|hx<;>rcases List.mem_append.1 hy with hy|hy
  .exact p3 x hx y hy
  .exact h1 x hx y hy
  .exact Int.le_of_lt (h2 y hy x hx)
  .exact q3 x hx y hy
theorem agH{S:List α}(h:eE key S):∀(n:Nat),(∀x∈S,1<=key x/\key x<=(n:Int))->S=(List.range n).flatMap (fun(i:Nat)=>fk key ((i:Int)+1) S):=by
 intro n
 induction n generalizing S with
 |zero=>intro hb;cases S with|nil=>rfl|cons x S=>have:=hb x (by simp);omega
 |succ n ih=>
  intro hb;have split:∀{S:List α},eE key S->(∀x∈S,key x<=((n+1:Nat):Int))->S=S.filter (fun x=>decide (key x<=(n:Int)))++fk key ((n:Int)+1) S:=by
   intro S
   induction S with
   |nil=>intro _ _;rfl|cons x S ihS=>
    intro hs hb;obtain⟨a,b⟩:=Ot.1 hs;have e:=ihS b (fun y hy=>hb y (by simp[hy]));by_cases q:key x<=(n:Int)
    .unfold fk;rw[List.filter_cons_of_pos (by simpa using q),List.filter_cons_of_neg (by simp;omega)];have e':=congrArg (List.cons x) e;exact e'
    .have hk:key x=(n:Int)+1:=by have:=hb x (by simp);omega
     have all:∀y∈S,key y=(n:Int)+1:=fun y hy=>by have:=a y hy;have:=hb y (by simp[hy]);omega
     have f0:S.filter (fun x=>decide (key x<=(n:Int)))=[]:=by rw[List.filter_eq_nil_iff];intro y hy;have:=all y hy;simp;omega
     have f1:fk key ((n:Int)+1) S=S:=by unfold fk;rw[List.filter_eq_self];intro y hy;simpa using all y hy
     have g0:(x::S).filter (fun x=>decide (key x<=(n:Int)))=[]:=by rw[List.filter_cons_of_neg (by simp;omega),f0]
     have g1:fk key ((n:Int)+1) (x::S)=x::fk key ((n:Int)+1) S:=by unfold fk;rw[List.filter_cons_of_pos (by simpa using hk)]
     rw[g0,g1,f1];rfl
  have e:=split h (fun x hx=>(hb x hx).2);have hs':eE key (S.filter (fun x=>decide (key x<=(n:Int)))):=List.Pairwise.filter _ h;have ih':=ih hs' (fun x hx=>by have:=List.mem_filter.1 hx;exact⟨(hb x this.1).1,by simpa using this.2⟩);rw[List.range_succ,List.flatMap_append,List.flatMap_singleton];have e2:(List.range n).flatMap (fun(i:Nat)=>fk key ((i:Int)+1) S)=(List.range n).flatMap (fun(i:Nat)=>fk key ((i:Int)+1) (S.filter (fun x=>decide (key x<=(n:Int))))):=by
   have:∀(l:List Nat),(∀i∈l,i<n)->l.flatMap (fun(i:Nat)=>fk key ((i:Int)+1) S)=l.flatMap (fun(i:Nat)=>fk key ((i:Int)+1) (S.filter (fun x=>decide (key x<=(n:Int))))):=by
    intro l
    induction l with
    |nil=>intro _;rfl|cons i l il=>
     intro hi;rw[List.flatMap_cons,List.flatMap_cons,il (fun j hj=>hi j (by simp[hj]))];congr 1;unfold fk;rw[List.filter_filter];apply List.filter_congr;intro x hx;have:=hi i (by simp);by_cases q:key x=(i:Int)+1
     .have:key x<=(n:Int):=by omega
      simp[q];omega
     .simp[q]
   exact this _ (fun i hi=>List.mem_range.1 hi)
  rw[e2,<-ih'];exact e
theorem cP.flat{S S':List α}(h:cP key S S')(n:Nat)(hb:∀x∈S,1<=key x/\key x<=(n:Int)):S'=(List.range n).flatMap (fun(i:Nat)=>fk key ((i:Int)+1) S):=by
 have e:=agH h.oA n (fun x hx=>hb x (h.mem.1 hx));rw[e];have:∀(l:List Nat),l.flatMap (fun(i:Nat)=>fk key ((i:Int)+1) S')=l.flatMap (fun(i:Nat)=>fk key ((i:Int)+1) S):=by
  intro l
  induction l with|nil=>rfl|cons i l il=>rw[List.flatMap_cons,List.flatMap_cons,il,h.pq]
 rw[<-e];exact e.trans (this _)
end
end Go.Proofs.YtkcpdpplobhpaaaGreat.Pl
end
section
namespace Go.Proofs.YtkcpdpplobhpaaaGreat.V
open Go Go.RowKit
theorem bG{x:Int}{n:Nat}(e:x=(n:Int))(h:n<=1000000000):IntKind.wrap .i64 x=(n:Int):=by rw[e];exact bZ (by omega)
theorem uM{σ:Sh}{X Z:List σ.T}{p:σ.T}{u:Nat}(hu:X.length=u):gt σ (X++p::Z) (u:Int)=p:=by refine aZ ?_;rw[List.getElem?_append_right (by omega),hu];simp
theorem tT{α:Type}{X Z:List α}{p q:α}{u:Nat}(hu:X.length=u):(X++p::Z).set u q=X++q::Z:=by rw[List.set_append_right _ _ (by omega),hu];simp
theorem sw2{α:Type}{X M Y:List α}{p q:α}{u v:Nat}(hu:X.length=u)(hv:X.length+1+M.length=v):((X++p::(M++q::Y)).set u q).set v p=X++q::(M++p::Y):=by
 rw[tT hu];have e:X++q::(M++q::Y)=(X++q::M)++q::Y:=by simp
 rw[e,tT (by simp;omega)];simp
theorem rq{α:Type}{L:List α}{i:Nat}(h:i<L.length):L.drop i=L[i]::L.drop (i+1):=List.drop_eq_getElem_cons h
theorem acA{R:Type}{L X M Y:List bn}{p q:bn}{u v:Nat}(hL:L=X++p::(M++q::Y))(hu:X.length=u)(hv:X.length+1+M.length=v){U V:Int}(eU:U=(u:Int))(eV:V=(v:Int)){y z:Option R}
  (h:List.set (List.set L (Int.toNat U) ((gt au L V).1,((gt au L V).2.1,((gt au L V).2.2.1,())))) (Int.toNat V) ((gt au L U).1,((gt au L U).2.1,((gt au L U).2.2.1,())))=X++q::(M++p::Y)->y=z) :
  (ah (aq V (List.length L)) <|ah (aq U (List.length L)) <|ah (aq U (List.length L)) <|ah (aq V (List.length (List.set L (Int.toNat U) ((gt au L V).1,((gt au L V).2.1,((gt au L V).2.2.1,())))))) <|y)=z:=by
 subst hL;subst eU;subst eV;have hlen:List.length (X++p::(M++q::Y))=X.length+(1+(M.length+(1+Y.length))):=by simp;omega
 have gu:gt au (X++p::(M++q::Y)) (u:Int)=p:=uM hu;have gv:gt au (X++p::(M++q::Y)) (v:Int)=q:=by
  have e:X++p::(M++q::Y)=(X++p::M)++q::Y:=by simp
  rw[e];exact uM (by simp;omega)
 have i1:aq (v:Int) (List.length (X++p::(M++q::Y)))=true:=aK ⟨by omega,by rw[hlen];omega⟩;have i2:aq (u:Int) (List.length (X++p::(M++q::Y)))=true:=aK ⟨by omega,by rw[hlen];omega⟩;have hs:∀z:bn,aq (v:Int) (List.length (List.set (X++p::(M++q::Y)) (Int.toNat (u:Int)) z))=true:=fun z=>(congrArg (aq (v:Int)) List.length_set).trans i1;refine ai i1 (ai i2 (ai i2 (ai (hs _) (h ?_))));rw[gu,gv,Int.toNat_natCast,Int.toNat_natCast];exact sw2 hu hv
theorem apk(W:jL)(X P M Q Y:List bn)(a b n:Nat)(ha:X.length=a)(hp:P.length=n)(hq:Q.length=n)(hb:X.length+P.length+M.length=b)(hl:b+n<=1000000) :
  Zd ((a:Int),((b:Int),((n:Int),((0:Int),(X++(P++(M++(Q++Y))),W)))))=some (X++(Q++(M++(P++Y))),W):=by
 unfold Zd;delta u16;refine cu (fun i:Nat=>((a:Int),((b:Int),((n:Int),((i:Int),(X++(Q.take i++(P.drop i++(M++(P.take i++(Q.drop i++Y))))),W)))))) n rfl ?_ ?_ (bt (by omega))
 .intro i hi
  try dsimp only
  unfold Bb;have hpi:i<P.length:=by omega
  have hqi:i<Q.length:=by omega
  refine ao (ak (show(i:Int)<(n:Int) by omega)) ?_;refine acA (X:=X++Q.take i) (p:=P[i]) (M:=P.drop (i+1)++(M++P.take i)) (q:=Q[i]) (Y:=Q.drop (i+1)++Y) (u:=a+i) (v:=b+i) ?_ ?_ ?_ ?_ ?_ (fun hset=>?_)
  .rw[rq hpi,rq hqi];simp only[cN,List.cons_append]
  .simp;omega
  .simp;omega
  .exact bG (by omega) (by omega)
  .exact bG (by omega) (by omega)
  .refine ai (ak rfl) (ai (ak rfl) (ai (ak rfl) ?_));have e:∀(u v:Int) (A B:List bn),u=v->A=B->(some (.inl ((a:Int),((b:Int),((n:Int),(u,(A,W)))))):Option (TL A4.σs⊕Out AS))=some (.inl ((a:Int),((b:Int),((n:Int),(v,(B,W)))))):=by rintro _ _ _ _ rfl rfl;rfl
   refine e _ _ _ _ (bG (n:=i+1) (by omega) (by omega)) (hset.trans ?_);rw[List.take_succ_eq_append_getElem hpi,List.take_succ_eq_append_getElem hqi];simp only[cN,List.cons_append,List.nil_append]
 .try dsimp only
  unfold Bb;refine ag (aA (show ¬(n:Int)<(n:Int) by omega)) ?_;have e1:P.drop n=[]:=List.drop_eq_nil_of_le (by omega);have e2:Q.drop n=[]:=List.drop_eq_nil_of_le (by omega);have e3:P.take n=P:=List.take_of_length_le (by omega);have e4:Q.take n=Q:=List.take_of_length_le (by omega);rw[e1,e2,e3,e4];rfl
theorem Oz(W:jL)(X P M Q Y:List bn){A B N:Int}(a b n:Nat)(eA:A=(a:Int))(eB:B=(b:Int))(eN:N=(n:Int))(ha:X.length=a)(hp:P.length=n)(hq:Q.length=n)(hb:X.length+P.length+M.length=b)(hl:b+n<=1000000){L:List bn}(hL:L=X++(P++(M++(Q++Y)))) :
  Ze (A,(B,(N,(L,W))))=some (X++(Q++(M++(P++Y))),W):=by
 subst eA;subst eB;subst eN;subst hL;exact af (apk W X P M Q Y a b n ha hp hq hb hl) rfl
theorem agF(W:jL)(m:Nat)(G:List bn)(hG:G.length<=400000){X P Q Y:List bn}(hp:0<P.length)(hq:0<Q.length)(hm:X.length+P.length=m)(hg:X++(Q++(P++Y))=G) :
  ∃o,K7 ((m:Int),((P.length:Int),((Q.length:Int),(X++(P++(Q++Y)),W))))=some o /\
   ∃X P Q Y:List bn,o=((m:Int),((P.length:Int),(X++(P++(Q++Y)),W)))/\Q.length=P.length/\X.length+P.length=m/\X++(Q++(P++Y))=G:=by
 unfold K7;delta fg;refine mR (fun d=>∃X P Q Y:List bn,d=((m:Int),((P.length:Int),((Q.length:Int),(X++(P++(Q++Y)),W))))/\0<P.length/\0<Q.length/\X.length+P.length=m/\X++(Q++(P++Y))=G)
  (fun o=>∃X P Q Y:List bn,o=((m:Int),((P.length:Int),(X++(P++(Q++Y)),W)))/\Q.length=P.length/\X.length+P.length=m/\X++(Q++(P++Y))=G)
  (fun d=>d.2.1.toNat+d.2.2.1.toNat) ?_ NN _ ⟨X,P,Q,Y,rfl,hp,hq,hm,hg⟩ (bt (by have:=congrArg List.length hg;simp only[aW]at this;show((P.length:Int)).toNat+((Q.length:Int)).toNat<=_;omega))
 rintro d ⟨X,P,Q,Y,rfl,hp,hq,hm,hg⟩;have hlen:X.length+(Q.length+(P.length+Y.length))<=400000:=by have:=congrArg List.length hg;simp only[aW]at this;omega
 try dsimp only
 unfold K9;rcases Nat.lt_trichotomy P.length Q.length with h|h|h
 .-- the second one is longer
  right;obtain⟨Q1,Q2,hQ,h1,h2⟩:∃Q1 Q2:List bn,Q=Q1++Q2/\Q1.length=Q.length-P.length/\Q2.length=P.length:=⟨Q.take (Q.length-P.length),Q.drop (Q.length-P.length),(List.take_append_drop _ _).symm,by simp,by simp;omega⟩;have es:=Oz W X P Q1 Q2 Y (A:=IntKind.wrap .i64 ((m:Int)-(P.length:Int))) (B:=IntKind.wrap .i64 ((IntKind.wrap .i64 ((m:Int)+(Q.length:Int)))-(P.length:Int))) (N:=(P.length:Int)) X.length (m+Q.length-P.length) P.length
   (bG (by omega) (by omega)) (by rw[bG (x:=(m:Int)+(Q.length:Int)) (n:=m+Q.length) (by omega) (by omega)];exact bG (by omega) (by omega)) rfl rfl rfl h2 (by omega) (by omega) (L:=X++(P++(Q++Y))) (by rw[hQ];simp only[cN])
  refine⟨((m:Int),((Q2.length:Int),((Q1.length:Int),(X++(Q2++(Q1++(P++Y))),W)))),?_,⟨X,Q2,Q1,P++Y,rfl,by omega,by omega,by omega,?_⟩,?_⟩
  .refine ao (fZ (aA (show ¬(P.length:Int)=(Q.length:Int) by omega))) (ag (aA (show ¬(Q.length:Int)<(P.length:Int) by omega)) (af es ?_));have e:∀(u v u' v':Int) (A:List bn),u=u'->v=v'->(some (.inl ((m:Int),(u,(v,(A,W))))):Option (TL v7.σs⊕Out vY))=some (.inl ((m:Int),(u',(v',(A,W))))):=by rintro _ _ _ _ _ rfl rfl;rfl
   exact e _ _ _ _ _ (by omega) (bG (by omega) (by omega))
  .rw[<-hg,hQ];simp only[cN]
  .show((Q2.length:Int)).toNat+((Q1.length:Int)).toNat<((P.length:Int)).toNat+((Q.length:Int)).toNat;omega
 .left;refine⟨((m:Int),((P.length:Int),(X++(P++(Q++Y)),W))),ag (dH (ak (show(P.length:Int)=(Q.length:Int) by omega))) rfl,X,P,Q,Y,rfl,h.symm,hm,hg⟩
 .-- the first one is longer
  right;obtain⟨P1,P2,hP,h1,h2⟩:∃P1 P2:List bn,P=P1++P2/\P1.length=Q.length/\P2.length=P.length-Q.length:=⟨P.take Q.length,P.drop Q.length,(List.take_append_drop _ _).symm,by simp;omega,by simp⟩;have es:=Oz W X P1 P2 Q Y (A:=IntKind.wrap .i64 ((m:Int)-(P.length:Int))) (B:=(m:Int)) (N:=(Q.length:Int)) X.length m Q.length
   (bG (by omega) (by omega)) rfl rfl rfl h1 rfl (by omega) (by omega) (L:=X++(P++(Q++Y))) (by rw[hP];simp only[cN])
  refine⟨((m:Int),((P2.length:Int),((P1.length:Int),((X++Q)++(P2++(P1++Y)),W)))),?_,⟨X++Q,P2,P1,Y,rfl,by omega,by omega,by simp only[aW];omega,?_⟩,?_⟩
  .refine ao (fZ (aA (show ¬(P.length:Int)=(Q.length:Int) by omega))) (ao (ak (show(Q.length:Int)<(P.length:Int) by omega)) (af es ?_));have e:∀(u v u' v':Int) (A A':List bn),u=u'->v=v'->A=A'->(some (.inl ((m:Int),(u,(v,(A,W))))):Option (TL v7.σs⊕Out vY))=some (.inl ((m:Int),(u',(v',(A',W))))):=by rintro _ _ _ _ _ _ rfl rfl rfl;rfl
   exact e _ _ _ _ _ _ (bG (by omega) (by omega)) (by omega) (by simp only[cN])
  .rw[<-hg,hP];simp only[cN]
  .show((P2.length:Int)).toNat+((P1.length:Int)).toNat<((P.length:Int)).toNat+((Q.length:Int)).toNat;omega
theorem aiK(W:jL){X P Q Y L:List bn}{A M B:Int}(hp:0<P.length)(hq:0<Q.length)(eA:A=(X.length:Int))(eM:M=((X.length+P.length:Nat):Int))(eB:B=((X.length+P.length+Q.length:Nat):Int))(hl:L.length<=400000)(hL:L=X++(P++(Q++Y))) :
  Bn (A,(M,(B,(L,W))))=some (X++(Q++(P++Y)),W):=by
 subst eA;subst eM;subst eB;subst hL;have hlen:X.length+(P.length+(Q.length+Y.length))<=400000:=by simpa only[aW]using hl
 obtain⟨o,e1,X',P',Q',Y',rfl,h1,h2,h3⟩:=agF W (X.length+P.length) (X++(Q++(P++Y))) (by simp only[aW];omega) hp hq rfl rfl (Y:=Y);have hlen':X'.length+(P'.length+(Q'.length+Y'.length))<=400000:=by have:=congrArg List.length h3;simp only[aW]at this;omega
 have es:=Oz W X' P' [] Q' Y' (A:=IntKind.wrap .i64 (((X.length+P.length:Nat):Int)-(P'.length:Int))) (B:=((X.length+P.length:Nat):Int)) (N:=(P'.length:Int)) X'.length (X.length+P.length) P'.length
  (bG (by omega) (by omega)) rfl rfl rfl rfl h1 (by simp only[List.length_nil];omega) (by omega) (L:=X'++(P'++(Q'++Y'))) rfl
 have e0:K7 (((X.length+P.length:Nat):Int),(IntKind.wrap .i64 (((X.length+P.length:Nat):Int)-(X.length:Int)),(IntKind.wrap .i64 (((X.length+P.length+Q.length:Nat):Int)-((X.length+P.length:Nat):Int)),(X++(P++(Q++Y)),W))))=some (((X.length+P.length:Nat):Int),((P'.length:Int),(X'++(P'++(Q'++Y')),W))):=by rw[bG (x:=((X.length+P.length:Nat):Int)-(X.length:Int)) (n:=P.length) (by omega) (by omega),bG (x:=((X.length+P.length+Q.length:Nat):Int)-((X.length+P.length:Nat):Int)) (n:=Q.length) (by omega) (by omega)];exact e1
 refine af e0 (af es ?_);have e:∀(A A':List bn),A=A'->(some (A,W):Option (Out vZ))=some (A',W):=by rintro _ _ rfl;rfl
 exact e _ _ (by rw[List.nil_append];exact h3)
open Pl (cP eE Og)
def mJ(W:jL)(L:List bn):TL [.int .i64,.sl (.int .i64),.sl ae,.sl (.int .i64),.sl (.int .i64),.sl (.int .i64),.sl ab,.sl ae,.sl (.int .i64),.sl au,.sl (.int .u8),.sl (.int .i64)]:=(W.1,(W.2.1,(W.2.2.1,(W.2.2.2.1,(W.2.2.2.2.1,(W.2.2.2.2.2.1,(W.2.2.2.2.2.2.1,(W.2.2.2.2.2.2.2.1,(W.2.2.2.2.2.2.2.2.1,(L,(W.2.2.2.2.2.2.2.2.2.1,(W.2.2.2.2.2.2.2.2.2.2.1,()))))))))))))
structure k8(W:jL)(key:bn->Int)(V:bn->Prop):Prop where
 cmp:∀(L:List bn) (x y:bn),V x->V y->∃c:Int,j9 (x.1,(x.2.1,(x.2.2.1,(y.1,(y.2.1,(y.2.2.1,mJ W L))))))=some (c,mJ W L)/\(c<0↔key x<key y)
theorem acB{R:Type}{L X Y:List bn}{p q:bn}{u v:Nat}(hL:L=X++q::(p::Y))(hv:X.length=v)(hu:v+1=u){U V:Int}(eU:U=(u:Int))(eV:V=(v:Int)){y z:Option R}
  (h:List.set (List.set L (Int.toNat U) ((gt au L V).1,((gt au L V).2.1,((gt au L V).2.2.1,())))) (Int.toNat V) ((gt au L U).1,((gt au L U).2.1,((gt au L U).2.2.1,())))=X++p::(q::Y)->y=z) :
  (ah (aq V (List.length L)) <|ah (aq U (List.length L)) <|ah (aq U (List.length L)) <|ah (aq V (List.length (List.set L (Int.toNat U) ((gt au L V).1,((gt au L V).2.1,((gt au L V).2.2.1,())))))) <|y)=z:=by
 subst hL;subst eU;subst eV;subst hu;have hlen:List.length (X++q::(p::Y))=X.length+(1+(1+Y.length)):=by simp;omega
 have gv:gt au (X++q::(p::Y)) (v:Int)=q:=uM hv;have e:X++q::(p::Y)=(X++[q])++p::Y:=by simp
 have gu:gt au (X++q::(p::Y)) ((v+1:Nat):Int)=p:=by rw[e];exact uM (by simp;omega)
 have i1:aq (v:Int) (List.length (X++q::(p::Y)))=true:=aK ⟨by omega,by rw[hlen];omega⟩;have i2:aq ((v+1:Nat):Int) (List.length (X++q::(p::Y)))=true:=aK ⟨by omega,by rw[hlen];omega⟩;have hs:∀z:bn,aq (v:Int) (List.length (List.set (X++q::(p::Y)) (Int.toNat ((v+1:Nat):Int)) z))=true:=fun z=>(congrArg (aq (v:Int)) List.length_set).trans i1;refine ai i1 (ai i2 (ai i2 (ai (hs _) (h ?_))));rw[gu,gv,Int.toNat_natCast,Int.toNat_natCast];have e2:(X++q::(p::Y)).set (v+1) q=X++q::(q::Y):=by rw[e,tT (by simp;omega)];simp
 exact(congrArg (fun l:List bn=>l.set v p) e2).trans (tT hv)
section
variable{W:jL}{key:bn->Int}{V:bn->Prop}
theorem agl(C:k8 W key V)(X T T0 Y:List bn)(x:bn)(A B I:Int)(i:Nat)(hA:A=(X.length:Int))(hi:X.length+T.length=i)(hl:X.length+(T.length+Y.length)<=400000)(hT:cP key T0 T)(hV:∀y∈T,V y)(hx:V x) :
  ∃o,Ks (A,(B,(I,((i:Int),(X++(T++(x::Y)),W)))))=some o/\∃S,o=(A,(B,(I,(X++(S++Y),W))))/\cP key (T0++[x]) S:=by
 unfold Ks;delta u16;refine mR (fun d=>∃T1 T2:List bn,d=(A,(B,(I,(((X.length+T1.length:Nat):Int),(X++(T1++(x::(T2++Y))),W)))))/\T1++T2=T/\∀y∈T2,key x<key y)
  (fun o=>∃S,o=(A,(B,(I,(X++(S++Y),W))))/\cP key (T0++[x]) S) (fun d=>d.2.2.2.1.toNat) ?_ NN _ ⟨T,[],by subst hi;rfl,by simp,by simp⟩ (bt (by show((i:Int)).toNat<=_;omega))
 rintro d ⟨T1,T2,rfl,hTT,h2⟩;have hlT:T1.length+T2.length=T.length:=by rw[<-hTT,aW]
 try dsimp only
 unfold Ku;rcases List.eq_nil_or_concat T1 with rfl|⟨T1',q,rfl⟩
 .left;refine⟨_,ag (aA (by rw[hA];simp)) rfl,x::T2,rfl,?_⟩;have:=Og (T1:=[]) (T2:=T2) (x:=x) (T0:=T0) (key:=key) (by rw[hTT];exact hT) (by simp) h2;exact this
 .have hj:(X.length+(T1'.concat q).length:Nat)=X.length+T1'.length+1:=by simp;omega
  have hq:V q:=hV q (by rw[<-hTT];simp);have eL:X++(T1'.concat q++(x::(T2++Y)))=(X++T1')++q::(x::(T2++Y)):=by simp
  obtain⟨c,ec,hc⟩:=C.cmp (X++(T1'.concat q++(x::(T2++Y)))) x q hx hq;rw[hj];have w1:IntKind.wrap .i64 (((X.length+T1'.length+1:Nat):Int)-1)=((X.length+T1'.length:Nat):Int):=bG (by omega) (by simp only[List.length_concat]at hlT;omega);have gx:gt au (X++(T1'.concat q++(x::(T2++Y)))) ((X.length+T1'.length+1:Nat):Int)=x:=by
   have e:X++(T1'.concat q++(x::(T2++Y)))=(X++T1'++[q])++x::(T2++Y):=by simp
   rw[e];exact uM (by simp;omega)
  have gq:gt au (X++(T1'.concat q++(x::(T2++Y)))) (IntKind.wrap .i64 (((X.length+T1'.length+1:Nat):Int)-1))=q:=by rw[w1,eL];exact uM (by simp)
  have hlen:List.length (X++(T1'.concat q++(x::(T2++Y))))=X.length+T1'.length+2+(T2.length+Y.length):=by simp;omega
  have i1:aq ((X.length+T1'.length+1:Nat):Int) (List.length (X++(T1'.concat q++(x::(T2++Y)))))=true:=aK ⟨by omega,by rw[hlen];omega⟩;have i2:aq (IntKind.wrap .i64 (((X.length+T1'.length+1:Nat):Int)-1)) (List.length (X++(T1'.concat q++(x::(T2++Y)))))=true:=by rw[w1];exact aK ⟨by omega,by rw[hlen];omega⟩
  have ec':j9 ((gt au (X++(T1'.concat q++(x::(T2++Y)))) ((X.length+T1'.length+1:Nat):Int)).1,((gt au (X++(T1'.concat q++(x::(T2++Y)))) ((X.length+T1'.length+1:Nat):Int)).2.1,((gt au (X++(T1'.concat q++(x::(T2++Y)))) ((X.length+T1'.length+1:Nat):Int)).2.2.1,
    ((gt au (X++(T1'.concat q++(x::(T2++Y)))) (IntKind.wrap .i64 (((X.length+T1'.length+1:Nat):Int)-1))).1,((gt au (X++(T1'.concat q++(x::(T2++Y)))) (IntKind.wrap .i64 (((X.length+T1'.length+1:Nat):Int)-1))).2.1,((gt au (X++(T1'.concat q++(x::(T2++Y)))) (IntKind.wrap .i64 (((X.length+T1'.length+1:Nat):Int)-1))).2.2.1,mJ W (X++(T1'.concat q++(x::(T2++Y))))))))))
    = some (c,mJ W (X++(T1'.concat q++(x::(T2++Y))))):=by rw[gx,gq];exact ec
  have hA':A<((X.length+T1'.length+1:Nat):Int):=by rw[hA];omega
  by_cases hk:key x<key q
  .right;refine⟨(A,(B,(I,(((X.length+T1'.length:Nat):Int),(X++(T1'++(x::(q::T2++Y))),W))))),?_,⟨T1',q::T2,rfl,by rw[<-hTT];simp,?_⟩,?_⟩
   .refine ao (ak hA') (ai i1 (ai i2 (af ec' (ao (show aV true (iL c 0) false=true from ak (hc.2 hk)) ?_))));refine acB (X:=X++T1') (q:=q) (p:=x) (Y:=T2++Y) (v:=X.length+T1'.length) (u:=X.length+T1'.length+1) eL (by simp) rfl rfl w1 (fun hset=>?_);refine ai (ak rfl) (ai (ak rfl) ?_);have e:∀(u u':Int) (L L':List bn),u=u'->L=L'->(some (.inl (A,(B,(I,(u,(L,W)))))):Option (TL vX.σs⊕Out vW))=some (.inl (A,(B,(I,(u',(L',W)))))):=by rintro _ _ _ _ rfl rfl;rfl
    exact e _ _ _ _ w1 (hset.trans (by simp))
   .intro y hy;rcases List.mem_cons.1 hy with rfl|hy
    .exact hk
    .exact h2 y hy
   .show(((X.length+T1'.length:Nat):Int)).toNat<(((X.length+T1'.length+1:Nat):Int)).toNat;omega
  .left;refine⟨(A,(B,(I,(X++((T1'.concat q++x::T2)++Y),W)))),?_,_,rfl,?_⟩
   .refine ao (ak hA') (ai i1 (ai i2 (af ec' (ag (show aV true (iL c 0) false=false from aA (fun q=>hk (hc.1 q))) ?_))));have e:∀(L L':List bn),L=L'->(some (.inr (A,(B,(I,(L,W))))):Option (TL vX.σs⊕Out vW))=some (.inr (A,(B,(I,(L',W))))):=by rintro _ _ rfl;rfl
    exact e _ _ (show X++(T1'.concat q++(x::(T2++Y)))=_ from by simp)
   .refine Og (by rw[hTT];exact hT) ?_ h2;intro y hy;have hs:eE key (T1'.concat q):=(Pl.me.1 (by rw[hTT];exact hT.oA:eE key (T1'.concat q++T2))).1;rw[List.concat_eq_append]at hy hs;obtain⟨_,_,h3⟩:=Pl.me.1 hs;rcases List.mem_append.1 hy with hy|hy
    .have:=h3 y hy q (by simp);omega
    .simp at hy;subst hy;omega
theorem Vm(C:k8 W key V){X S Y L:List bn}{A B:Int}(eA:A=(X.length:Int))(eB:B=((X.length+S.length:Nat):Int))(hL:L=X++(S++Y))(hl:L.length<=400000)(hV:∀y∈S,V y) :
  ∃S',YL (A,(B,(L,W)))=some (X++(S'++Y),W)/\cP key S S':=by
 subst eA;subst eB;subst hL;have hlen:X.length+(S.length+Y.length)<=400000:=by simpa only[aW]using hl
 have w0:IntKind.wrap .i64 ((X.length:Int)+1)=((X.length+1:Nat):Int):=bG (by omega) (by omega);cases S with
 |nil=>
  refine⟨[],?_,cP.refl (List.Pairwise.nil)⟩;have e1:AM ((X.length:Int),(((X.length+([]:List bn).length:Nat):Int),(IntKind.wrap .i64 ((X.length:Int)+1),(X++([]++Y),W))))=some (X++([]++Y),W):=by
   unfold AM;delta fg;refine cu (fun _=>_) 0 rfl (fun i hi=>absurd hi (Nat.not_lt_zero i)) ?_ (bt (by omega))
   try dsimp only
   unfold AO;exact ag (aA (by rw[w0];simp only[List.length_nil];omega)) rfl
  exact af e1 rfl
 |cons s S=>
  have e1:∃o,AM ((X.length:Int),(((X.length+(s::S).length:Nat):Int),(IntKind.wrap .i64 ((X.length:Int)+1),(X++(s::S++Y),W))))=some o/\∃S',o=(X++(S'++Y),W)/\cP key (s::S) S':=by
   unfold AM;delta fg;refine mR (fun d=>∃T0 T R:List bn,d=((X.length:Int),(((X.length+(s::S).length:Nat):Int),(((X.length+T.length:Nat):Int),(X++(T++(R++Y)),W))))/\T0++R=s::S/\cP key T0 T)
    (fun o=>∃S',o=(X++(S'++Y),W)/\cP key (s::S) S') (fun d=>(X.length+(s::S).length)-d.2.2.1.toNat) ?_ NN _ ⟨[s],[s],S,by rw[w0];rfl,rfl,cP.refl (by unfold eE;simp)⟩ (bt (by
     have:List.length (s::S)<=400000:=by omega
     omega))
   rintro d ⟨T0,T,R,rfl,hTR,hT⟩;have hlT:=hT.len;have hlR:T0.length+R.length=(s::S).length:=by rw[<-hTR,aW]
   try dsimp only
   unfold AO;cases R with
   |nil=>left;refine⟨_,ag (aA (by simp only[List.length_nil]at hlR;omega)) rfl,T,rfl,?_⟩;rw[dF]at hTR;rw[<-hTR];exact hT|cons r R=>
    right;simp only[ca]at hlR;have hVT:∀y∈T,V y:=fun y hy=>hV y (by rw[<-hTR];simp[hT.mem.1 hy]);obtain⟨o,e4,S',rfl,hS'⟩:=agl C X T T0 (R++Y) r (X.length:Int) ((X.length+(s::S).length:Nat):Int) ((X.length+T.length:Nat):Int) (X.length+T.length) rfl rfl (by simp only[aW,ca]at *;omega) hT hVT (hV r (by rw[<-hTR];simp));have hl':=hS'.len;simp only[aW,ca,List.length_nil]at hl';refine⟨((X.length:Int),(((X.length+(s::S).length:Nat):Int),(((X.length+S'.length:Nat):Int),(X++(S'++(R++Y)),W)))),?_,⟨T0++[r],S',R,rfl,by rw[<-hTR];simp,hS'⟩,?_⟩
    .refine ao (ak (by simp only[ca]at *;omega)) (af e4 ?_);have e:∀(u u':Int),u=u'->(some (.inl ((X.length:Int),(((X.length+(s::S).length:Nat):Int),(u,(X++(S'++(R++Y)),W))))):Option (TL AL.σs⊕Out AK))=some (.inl ((X.length:Int),(((X.length+(s::S).length:Nat):Int),(u',(X++(S'++(R++Y)),W))))):=by rintro _ _ rfl;rfl
     exact e _ _ (show IntKind.wrap .i64 (((X.length+T.length:Nat):Int)+1)=_ from bG (by omega) (by simp only[aW,ca]at *;omega))
    .show(X.length+(s::S).length)-(((X.length+S'.length:Nat):Int)).toNat<(X.length+(s::S).length)-(((X.length+T.length:Nat):Int)).toNat;simp only[ca]at *
     omega
  obtain⟨o,e1,S',rfl,hS⟩:=e1;exact⟨S',af e1 rfl,hS⟩
end
open Pl (cP eE Dw)
abbrev hf(i j:Int):Int:=IntKind.wrap .i64 (Int.fdiv (IntKind.wrap .u64 (IntKind.wrap .i64 (i+j))) (HPow.hPow (2:Int) (Min.min (Int.toNat (1:Int)) 64)))
theorem DF{i j:Nat}(h:i+j<=1000000):hf (i:Int) (j:Int)=(((i+j) / 2:Nat):Int):=by
 unfold hf;rw[bG (x:=(i:Int)+(j:Int)) (n:=i+j) (by omega) (by omega)];have e1:IntKind.wrap .u64 ((i+j:Nat):Int)=((i+j:Nat):Int):=by unfold IntKind.wrap;simp[IntKind.bits,IntKind.signed];omega
 rw[e1];have e2:(HPow.hPow (2:Int) (Min.min (Int.toNat (1:Int)) 64):Int)=2:=rfl;rw[e2,Int.fdiv_eq_ediv_of_nonneg _ (by decide)];exact bG (by omega) (by omega)
theorem Ol{D O:Type}{B:D->Option (D⊕O)}(st:Nat->Nat->D)(fin:Nat->O)(pr:Nat->Prop){lo hi:Nat}(hlh:lo<=hi)(hb:hi<=1000000)
  (hm:∀c d,lo<=c->c<=d->d<hi->pr d->pr c)
  (hs1:∀i j,lo<=i->i<j->j<=hi->pr ((i+j) / 2)->B (st i j)=some (.inl (st ((i+j) / 2+1) j)))
  (hs2:∀i j,lo<=i->i<j->j<=hi->¬pr ((i+j) / 2)->B (st i j)=some (.inl (st i ((i+j) / 2))))
  (he:∀i,lo<=i->i<=hi->B (st i i)=some (.inr (fin i))) :
  ∃s,lo<=s/\s<=hi/\aQ B NN (st lo hi)=some (fin s)/\(∀c,lo<=c->c<s->pr c)/\∀c,s<=c->c<hi->¬pr c:=by
 have key:∀k i j,lo<=i->i<=j->j<=hi->j-i=k->(∀c,lo<=c->c<i->pr c)->(∀c,j<=c->c<hi->¬pr c)->∀N,k<N ->
   ∃s,i<=s/\s<=j/\aQ B N (st i j)=some (fin s)/\(∀c,lo<=c->c<s->pr c)/\∀c,s<=c->c<hi->¬pr c:=by
  intro k
  induction k using Nat.strongRecOn with
  |_ k ih=>
   intro i j h1 h2 h3 hk ha hb N hN;obtain⟨M,rfl⟩:∃M,N=M+1:=⟨N-1,by omega⟩;rcases Nat.lt_or_ge i j with q|q
   .rcases Classical.em (pr ((i+j) / 2))with hp|hp
    .obtain⟨s,g1,g2,g3,g4⟩:=ih (j-((i+j) / 2+1)) (by omega) ((i+j) / 2+1) j (by omega) (by omega) h3 rfl (fun c c1 c2=>hm c ((i+j) / 2) c1 (by omega) (by omega) hp) hb M (by omega);exact⟨s,by omega,g2,by simp only[aQ,hs1 i j h1 q h3 hp];exact g3,g4⟩
    .obtain⟨s,g1,g2,g3,g4⟩:=ih ((i+j) / 2-i) (by omega) i ((i+j) / 2) h1 (by omega) (by omega) rfl ha (fun c c1 c2 hc=>hp (hm ((i+j) / 2) c (by omega) c1 c2 hc)) M (by omega);exact⟨s,g1,by omega,by simp only[aQ,hs2 i j h1 q h3 hp];exact g3,g4⟩
   .have:i=j:=by omega
    subst this;exact⟨i,Nat.le_refl _,Nat.le_refl _,by simp only[aQ,he i h1 h3],ha,hb⟩
 exact key (hi-lo) lo hi (Nat.le_refl _) hlh (Nat.le_refl _) rfl (fun c c1 c2=>by omega) (fun c c1 c2=>by omega) NN (bt (by omega))
abbrev O8:=O7 Bn
def sQ(W:jL)(key:bn->Int)(V:bn->Prop)(F:iz)(k:Nat):Prop:=
 ∀(X P Q Y L:List bn) (A M B:Int),0<P.length->0<Q.length->P.length+Q.length<=k->A=(X.length:Int)->M=((X.length+P.length:Nat):Int)->B=((X.length+P.length+Q.length:Nat):Int)->L=X++(P++(Q++Y))->L.length<=400000 ->
  eE key P->eE key Q->(∀x∈P,V x)->(∀x∈Q,V x)->∃R,F (A,(M,(B,(L,W))))=some (X++(R++Y),W)/\cP key (P++Q) R
section
variable{W:jL}{key:bn->Int}{V:bn->Prop}
theorem ah1{F1:iz}{k:Nat}(ih:sQ W key V F1 k){X P Q Y L:List bn}{b mid e:Int}(em:mid=(X.length:Int))(ee:e=((X.length+P.length:Nat):Int))(eb:b=((X.length+P.length+Q.length:Nat):Int))(hL:L=X++(P++(Q++Y)))(hl:L.length<=400000)
  (hk:P.length+Q.length<=k) (hp:eE key P) (hq:eE key Q) (hP:∀x∈P,V x) (hQ:∀x∈Q,V x):∃R,tV F1 b mid e (L,W)=some (X++(R++Y),W)/\cP key (P++Q) R:=by
 unfold tV;rcases Nat.eq_zero_or_pos P.length with h1|h1
 .have:P=[]:=List.eq_nil_of_length_eq_zero h1;subst this;refine⟨Q,ag (aA (by rw[em,ee];simp only[List.length_nil];omega)) ?_,cP.refl hq⟩;rw[hL];rfl
 .rcases Nat.eq_zero_or_pos Q.length with h2|h2
  .have:Q=[]:=List.eq_nil_of_length_eq_zero h2;subst this;refine⟨P,ao (ak (by rw[em,ee];omega)) (ag (show aV true (iL e b) false=false from aA (by rw[ee,eb];simp only[List.length_nil];omega)) ?_),by rw[dF];exact cP.refl hp⟩;rw[hL];rfl
  .obtain⟨R,e1,e2⟩:=ih X P Q Y L mid e b h1 h2 hk em ee eb hL hl hp hq hP hQ;exact⟨R,ao (ak (by rw[em,ee];omega)) (ao (show aV true (iL e b) false=true from ak (by rw[ee,eb];omega)) (af e1 rfl)),e2⟩
theorem ah0{F1:iz}{k:Nat}(ih:sQ W key V F1 k){X P1 P2 Q1 Q2 Y L:List bn}{a m b mid s e:Int}(ea:a=(X.length:Int))(es:s=((X.length+P1.length:Nat):Int))(emm:m=((X.length+P1.length+P2.length:Nat):Int))(em:mid=((X.length+P1.length+Q1.length:Nat):Int))
  (ee:e=((X.length+P1.length+Q1.length+P2.length:Nat):Int)) (eb:b=((X.length+P1.length+P2.length+Q1.length+Q2.length:Nat):Int)) (hL:L=X++(P1++(P2++(Q1++(Q2++Y))))) (hl:L.length<=400000)
  (hk1:P1.length+Q1.length<=k) (hk2:P2.length+Q2.length<=k) (hp:eE key (P1++P2)) (hq:eE key (Q1++Q2)) (hP:∀x∈P1++P2,V x) (hQ:∀x∈Q1++Q2,V x)
  (h1:∀x∈P1,∀y∈Q2,key x<=key y) (h2:∀x∈P2,∀y∈Q1,key y<key x):∃R,O8 F1 a m b mid s e (L,W)=some (X++(R++Y),W)/\cP key ((P1++P2)++(Q1++Q2)) R:=by
 have hlen:X.length+(P1.length+(P2.length+(Q1.length+(Q2.length+Y.length))))<=400000:=by rw[hL]at hl;simpa only[aW]using hl
 obtain⟨p1,p2,_⟩:=Pl.me.1 hp;obtain⟨q1,q2,_⟩:=Pl.me.1 hq;have hU:∃R,xk F1 a b mid s e (X++(P1++(Q1++(P2++(Q2++Y)))),W)=some (X++(R++Y),W)/\cP key ((P1++P2)++(Q1++Q2)) R:=by
  have hV:∀R1:List bn,cP key (P1++Q1) R1->∃R,tV F1 b mid e (X++(R1++(P2++(Q2++Y))),W)=some (X++(R++Y),W)/\cP key ((P1++P2)++(Q1++Q2)) R:=by
   intro R1 hR1;have hl1:=hR1.len;simp only[aW]at hl1;obtain⟨R2,e1,e2⟩:=ah1 ih (X:=X++R1) (P:=P2) (Q:=Q2) (Y:=Y) (L:=X++(R1++(P2++(Q2++Y)))) (b:=b) (mid:=mid) (e:=e) (by rw[em];simp only[aW];omega) (by rw[ee];simp only[aW];omega) (by rw[eb];simp only[aW];omega)
    (by simp only[cN]) (by simp only[aW];omega) hk2 p2 q2 (fun x hx=>hP x (by simp[hx])) (fun x hx=>hQ x (by simp[hx]))
   refine⟨R1++R2,e1.trans (congrArg (fun l:List bn=>(some (l,W):qZ)) ?_),Dw hp hq h1 h2 hR1 e2⟩;simp only[cN]
  unfold xk;rcases Nat.eq_zero_or_pos P1.length with g1|g1
  .have:P1=[]:=List.eq_nil_of_length_eq_zero g1;subst this;obtain⟨R,e1,e2⟩:=hV Q1 (cP.refl q1);exact⟨R,ag (aA (by rw[ea,es];simp only[List.length_nil];omega)) e1,e2⟩
  .rcases Nat.eq_zero_or_pos Q1.length with g2|g2
   .have:Q1=[]:=List.eq_nil_of_length_eq_zero g2;subst this;obtain⟨R,e1,e2⟩:=hV P1 (by rw[dF];exact cP.refl p1);exact⟨R,ao (ak (by rw[ea,es];omega)) (ag (show aV true (iL s mid) false=false from aA (by rw[es,em];simp only[List.length_nil];omega)) e1),e2⟩
   .obtain⟨R1,e0,hR1⟩:=ih X P1 Q1 (P2++(Q2++Y)) (X++(P1++(Q1++(P2++(Q2++Y))))) a s mid g1 g2 hk1 ea es (by rw[em]) rfl (by simp only[aW];omega) p1 q1 (fun x hx=>hP x (by simp[hx])) (fun x hx=>hQ x (by simp[hx]));obtain⟨R,e1,e2⟩:=hV R1 hR1;exact⟨R,ao (ak (by rw[ea,es];omega)) (ao (show aV true (iL s mid) false=true from ak (by rw[es,em];omega)) (af e0 e1)),e2⟩
 obtain⟨R,e1,e2⟩:=hU;refine⟨R,?_,e2⟩;unfold O8 O7;subst hL;rcases Nat.eq_zero_or_pos P2.length with g1|g1
 .have:P2=[]:=List.eq_nil_of_length_eq_zero g1;subst this;exact ag (aA (by rw[es,emm];simp only[List.length_nil];omega)) e1
 .rcases Nat.eq_zero_or_pos Q1.length with g2|g2
  .have:Q1=[]:=List.eq_nil_of_length_eq_zero g2;subst this;exact ao (ak (by rw[es,emm];omega)) (ag (show aV true (iL m e) false=false from aA (by rw[ee,emm];simp only[List.length_nil];omega)) e1)
  .have er:=aiK W (X:=X++P1) (P:=P2) (Q:=Q1) (Y:=Q2++Y) (L:=X++(P1++(P2++(Q1++(Q2++Y))))) (A:=s) (M:=m) (B:=e) g1 g2 (by rw[es];simp only[aW]) (by rw[emm];simp only[aW]) (by rw[ee];simp only[aW];omega) hl (by simp only[cN]);have er':Bn (s,(m,(e,(X++(P1++(P2++(Q1++(Q2++Y)))),W))))=some (X++(P1++(Q1++(P2++(Q2++Y)))),W):=er.trans (congrArg (fun l:List bn=>(some (l,W):Option (Out vZ))) (by simp only[cN]));exact ao (ak (by rw[es,emm];omega)) (ao (show aV true (iL m e) false=true from ak (by rw[ee,emm];omega)) (af er' e1))
end
theorem p9{key:bn->Int}{L:List bn}(h:eE key L){i j:Nat}(hij:i<=j)(hj:j<L.length):key L[i]<=key L[j]:=by
 rcases Nat.lt_or_ge i j with q|q
 .exact(List.pairwise_iff_getElem.1 h) i j (by omega) hj q
 .have:i=j:=by omega
  subst this;exact Int.le_refl _
section
variable{X P Q Y L:List bn}
theorem DK(hL:L=X++(P++(Q++Y))){t c:Nat}(ht:t<P.length)(hc:c=X.length+t):gt au L (c:Int)=P[t]:=by subst hL;subst hc;refine aZ ?_;rw[List.getElem?_append_right (by omega),Nat.add_sub_cancel_left,List.getElem?_append_left ht,aT ht]
theorem DL(hL:L=X++(P++(Q++Y))){t c:Nat}(ht:t<Q.length)(hc:c=X.length+P.length+t):gt au L (c:Int)=Q[t]:=by
 subst hL;subst hc;refine aZ ?_;rw[List.getElem?_append_right (by omega),List.getElem?_append_right (by omega)];have:X.length+P.length+t-X.length-P.length=t:=by omega
 rw[this,List.getElem?_append_left ht,aT ht]
theorem zV(hL:L=X++(P++(Q++Y))):L.length=X.length+P.length+Q.length+Y.length:=by subst hL;simp only[aW];omega
variable{W:jL}{key:bn->Int}{V:bn->Prop}
theorem aiZ(C:k8 W key V)(F:iz){x:bn}(hL:L=X++([x]++(Q++Y)))(hl:L.length<=400000)(hq:eE key Q)(hx:V x)(hQ:∀y∈Q,V y) :
  ∃k,k<=Q.length/\Zm F ((X.length:Int),(((X.length+1:Nat):Int),(((X.length+1+Q.length:Nat):Int),(L,W))))=some ((X.length:Int),(((X.length+1+k:Nat):Int),(L,W)))/\(∀y∈Q.take k,key y<key x)/\∀y∈Q.drop k,key x<=key y:=by
 have hlen:=zV hL;simp only[ca,List.length_nil]at hlen;have gQ:∀c,(h0:X.length+1<=c)->(h:c<X.length+1+Q.length)->gt au L (c:Int)=Q[c-X.length-1]'(by omega):=fun c h1 h2=>DL hL (t:=c-X.length-1) (by omega) (by simp only[ca,List.length_nil];omega);have gx:gt au L (X.length:Int)=x:=DK hL (t:=0) (by simp) rfl;have step:∀i j:Nat,X.length+1<=i->i<j->j<=X.length+1+Q.length->∃c:Int,(c<0↔key (gt au L (((i+j) / 2:Nat):Int))<key x) /\
   te j9 (X.length:Int) (i:Int) (j:Int) L W.1 W.2.1 W.2.2.1 W.2.2.2.1 W.2.2.2.2.1 W.2.2.2.2.2.1 W.2.2.2.2.2.2.1 W.2.2.2.2.2.2.2.1 W.2.2.2.2.2.2.2.2.1 W.2.2.2.2.2.2.2.2.2.1 W.2.2.2.2.2.2.2.2.2.2.1 =
    br (iL c 0) (some (.inl ((X.length:Int),((((i+j) / 2+1:Nat):Int),((j:Int),(L,W)))))) (some (.inl ((X.length:Int),((i:Int),((((i+j) / 2:Nat):Int),(L,W)))))):=by
  intro i j h1 h2 h3;have hw:hf (i:Int) (j:Int)=(((i+j) / 2:Nat):Int):=DF (by omega);have gh:=gQ ((i+j) / 2) (by omega) (by omega);obtain⟨c,e1,e2⟩:=C.cmp L (gt au L (((i+j) / 2:Nat):Int)) (gt au L (X.length:Int)) (by rw[gh];exact hQ _ (List.getElem_mem _)) (by rw[gx];exact hx);refine⟨c,by rw[<-gx];exact e2,?_⟩;have i1:aq (hf (i:Int) (j:Int)) (List.length L)=true:=by rw[hw];exact aK ⟨by omega,by omega⟩
  have i2:aq (X.length:Int) (List.length L)=true:=aK ⟨by omega,by omega⟩;have e1':j9 ((gt au L (hf (i:Int) (j:Int))).1,((gt au L (hf (i:Int) (j:Int))).2.1,((gt au L (hf (i:Int) (j:Int))).2.2.1,((gt au L (X.length:Int)).1,((gt au L (X.length:Int)).2.1,((gt au L (X.length:Int)).2.2.1,mJ W L))))))=some (c,mJ W L):=by rw[hw];exact e1
  unfold te;refine ao (ak (show(i:Int)<(j:Int) by omega)) (ai i1 (ai i2 (af e1' ?_)));have e:∀(u v u' v':Int),u=u'->v=v'->(br (iL c 0) (some (.inl ((X.length:Int),(u,((j:Int),(L,W)))))) (some (.inl ((X.length:Int),((i:Int),(v,(L,W)))))):Option (TL A8.σs⊕Out AX))=br (iL c 0) (some (.inl ((X.length:Int),(u',((j:Int),(L,W)))))) (some (.inl ((X.length:Int),((i:Int),(v',(L,W)))))):=by rintro _ _ _ _ rfl rfl;rfl
  exact e _ _ _ _ (by show IntKind.wrap .i64 (hf (i:Int) (j:Int)+1)=_;rw[hw];exact bG (by omega) (by omega)) hw
 obtain⟨s,s1,s2,es,hs1,hs2⟩:=Ol (B:=fun d=>te j9 d.1 d.2.1 d.2.2.1 d.2.2.2.1 d.2.2.2.2.1 d.2.2.2.2.2.1 d.2.2.2.2.2.2.1 d.2.2.2.2.2.2.2.1 d.2.2.2.2.2.2.2.2.1 d.2.2.2.2.2.2.2.2.2.1 d.2.2.2.2.2.2.2.2.2.2.1 d.2.2.2.2.2.2.2.2.2.2.2.1 d.2.2.2.2.2.2.2.2.2.2.2.2.1 d.2.2.2.2.2.2.2.2.2.2.2.2.2.1 d.2.2.2.2.2.2.2.2.2.2.2.2.2.2.1)
  (fun i j:Nat=>((X.length:Int),((i:Int),((j:Int),(L,W))))) (fun i:Nat=>((X.length:Int),((i:Int),(L,W)))) (fun c=>key (gt au L (c:Int))<key x) (lo:=X.length+1) (hi:=X.length+1+Q.length) (by omega) (by omega)
  (fun c d h1 h2 h3 hd=>by rw[gQ d (by omega) h3]at hd;rw[gQ c h1 (by omega)];exact Int.lt_of_le_of_lt (p9 hq (i:=c-X.length-1) (j:=d-X.length-1) (by omega) (by omega)) hd)
  (fun i j h1 h2 h3 hp=>by obtain⟨c,hc,e⟩:=step i j h1 h2 h3;exact e.trans (je (ak (hc.2 hp))))
  (fun i j h1 h2 h3 hp=>by obtain⟨c,hc,e⟩:=step i j h1 h2 h3;exact e.trans (gb (aA (fun q=>hp (hc.1 q)))))
  (fun i h1 h2=>by
   try dsimp only
   unfold te;exact ag (aA (show ¬(i:Int)<(i:Int) by omega)) rfl)
 refine⟨s-X.length-1,by omega,?_,?_,?_⟩
 .have:X.length+1+(s-X.length-1)=s:=by omega
  rw[this];exact es
 .intro y hy;obtain⟨i,hi,rfl⟩:=List.mem_take_iff_getElem.1 hy;have:=hs1 (X.length+1+i) (by omega) (by omega);rw[gQ _ (by omega) (by omega)]at this;have e:X.length+1+i-X.length-1=i:=by omega
  simpa only[e]using this
 .intro y hy;obtain⟨i,hi,rfl⟩:=List.mem_drop_iff_getElem.1 hy;have:=hs2 (X.length+1+(s-X.length-1+i)) (by omega) (by omega);rw[gQ _ (by omega) (by omega)]at this;have e:X.length+1+(s-X.length-1+i)-X.length-1=s-X.length-1+i:=by omega
  simp only[e]at this;omega
end
section
variable{X P Q Y L:List bn}{W:jL}{key:bn->Int}{V:bn->Prop}
theorem ai0(F:iz){x:bn}{Q1 Z:List bn}(hl:X.length+Q1.length<=400000) :
  KM F (((X.length+1+Q1.length:Nat):Int),((X.length:Int),(X++(x::(Q1++Z)),W)))=some (X++(Q1++(x::Z)),W):=by
 unfold KM;have w0:IntKind.wrap .i64 (((X.length+1+Q1.length:Nat):Int)-1)=((X.length+Q1.length:Nat):Int):=bG (by omega) (by omega);refine cu (fun t:Nat=>(((X.length+1+Q1.length:Nat):Int),(((X.length+t:Nat):Int),(X++(Q1.take t++(x::(Q1.drop t++Z))),W)))) Q1.length rfl ?_ ?_ (bt (by omega))
 .intro t ht
  try dsimp only
  unfold Bf;refine ao (ak (by rw[w0];omega)) ?_;refine acA (X:=X++Q1.take t) (p:=x) (M:=[]) (q:=Q1[t]) (Y:=Q1.drop (t+1)++Z) (u:=X.length+t) (v:=X.length+t+1) ?_ ?_ ?_ rfl ?_ (fun hset=>?_)
  .rw[rq ht];simp only[cN,List.cons_append,List.nil_append]
  .simp;omega
  .simp;omega
  .exact bG (by omega) (by omega)
  .refine ai (ak rfl) (ai (ak rfl) ?_);have e:∀(u v:Int) (A B:List bn),u=v->A=B->(some (.inl (((X.length+1+Q1.length:Nat):Int),(u,(A,W)))):Option (TL A7.σs⊕Out AW))=some (.inl (((X.length+1+Q1.length:Nat):Int),(v,(B,W)))):=by rintro _ _ _ _ rfl rfl;rfl
   refine e _ _ _ _ (show IntKind.wrap .i64 (((X.length+t:Nat):Int)+1)=((X.length+(t+1):Nat):Int)from bG (by omega) (by omega)) (hset.trans ?_);rw[List.take_succ_eq_append_getElem ht];simp only[cN,List.cons_append,List.nil_append]
 .try dsimp only
  unfold Bf;refine ag (aA (by rw[w0];omega)) ?_;have e1:Q1.drop Q1.length=[]:=List.drop_eq_nil_of_le (Nat.le_refl _);have e2:Q1.take Q1.length=Q1:=List.take_of_length_le (Nat.le_refl _);rw[e1,e2];rfl
theorem aii(C:k8 W key V)(F:iz){x:bn}(hL:L=X++(P++([x]++Y)))(hl:L.length<=400000)(hp:eE key P)(hx:V x)(hP:∀y∈P,V y) :
  ∃k,k<=P.length/\Zb F (((X.length+P.length:Nat):Int),((X.length:Int),(((X.length+P.length:Nat):Int),(L,W))))=some (((X.length+P.length:Nat):Int),(((X.length+k:Nat):Int),(L,W)))/\(∀y∈P.take k,key y<=key x)/\∀y∈P.drop k,key x<key y:=by
 have hlen:=zV hL;simp only[ca,List.length_nil]at hlen;have gP:∀c,(h0:X.length<=c)->(h:c<X.length+P.length)->gt au L (c:Int)=P[c-X.length]'(by omega):=fun c h1 h2=>DK hL (t:=c-X.length) (by omega) (by omega);have gx:gt au L ((X.length+P.length:Nat):Int)=x:=DL hL (t:=0) (by simp) rfl;have step:∀i j:Nat,X.length<=i->i<j->j<=X.length+P.length->∃c:Int,(c<0↔key x<key (gt au L (((i+j) / 2:Nat):Int))) /\
   tc j9 ((X.length+P.length:Nat):Int) (i:Int) (j:Int) L W.1 W.2.1 W.2.2.1 W.2.2.2.1 W.2.2.2.2.1 W.2.2.2.2.2.1 W.2.2.2.2.2.2.1 W.2.2.2.2.2.2.2.1 W.2.2.2.2.2.2.2.2.1 W.2.2.2.2.2.2.2.2.2.1 W.2.2.2.2.2.2.2.2.2.2.1 =
    br (Bool.not (iL c 0)) (some (.inl (((X.length+P.length:Nat):Int),((((i+j) / 2+1:Nat):Int),((j:Int),(L,W)))))) (some (.inl (((X.length+P.length:Nat):Int),((i:Int),((((i+j) / 2:Nat):Int),(L,W)))))):=by
  intro i j h1 h2 h3;have hw:hf (i:Int) (j:Int)=(((i+j) / 2:Nat):Int):=DF (by omega);have gh:=gP ((i+j) / 2) (by omega) (by omega);obtain⟨c,e1,e2⟩:=C.cmp L (gt au L ((X.length+P.length:Nat):Int)) (gt au L (((i+j) / 2:Nat):Int)) (by rw[gx];exact hx) (by rw[gh];exact hP _ (List.getElem_mem _));refine⟨c,by rw[<-gx];exact e2,?_⟩;have i1:aq (hf (i:Int) (j:Int)) (List.length L)=true:=by rw[hw];exact aK ⟨by omega,by omega⟩
  have i2:aq ((X.length+P.length:Nat):Int) (List.length L)=true:=aK ⟨by omega,by omega⟩;have e1':j9 ((gt au L ((X.length+P.length:Nat):Int)).1,((gt au L ((X.length+P.length:Nat):Int)).2.1,((gt au L ((X.length+P.length:Nat):Int)).2.2.1,((gt au L (hf (i:Int) (j:Int))).1,((gt au L (hf (i:Int) (j:Int))).2.1,((gt au L (hf (i:Int) (j:Int))).2.2.1,mJ W L))))))=some (c,mJ W L):=by rw[hw];exact e1
  unfold tc;refine ao (ak (show(i:Int)<(j:Int) by omega)) (ai i2 (ai i1 (af e1' ?_)));have e:∀(u v u' v':Int),u=u'->v=v'->(br (Bool.not (iL c 0)) (some (.inl (((X.length+P.length:Nat):Int),(u,((j:Int),(L,W)))))) (some (.inl (((X.length+P.length:Nat):Int),((i:Int),(v,(L,W)))))):Option (TL A0.σs⊕Out AR))=br (Bool.not (iL c 0)) (some (.inl (((X.length+P.length:Nat):Int),(u',((j:Int),(L,W)))))) (some (.inl (((X.length+P.length:Nat):Int),((i:Int),(v',(L,W)))))):=by rintro _ _ _ _ rfl rfl;rfl
  exact e _ _ _ _ (by show IntKind.wrap .i64 (hf (i:Int) (j:Int)+1)=_;rw[hw];exact bG (by omega) (by omega)) hw
 obtain⟨s,s1,s2,es,hs1,hs2⟩:=Ol (B:=fun d=>tc j9 d.1 d.2.1 d.2.2.1 d.2.2.2.1 d.2.2.2.2.1 d.2.2.2.2.2.1 d.2.2.2.2.2.2.1 d.2.2.2.2.2.2.2.1 d.2.2.2.2.2.2.2.2.1 d.2.2.2.2.2.2.2.2.2.1 d.2.2.2.2.2.2.2.2.2.2.1 d.2.2.2.2.2.2.2.2.2.2.2.1 d.2.2.2.2.2.2.2.2.2.2.2.2.1 d.2.2.2.2.2.2.2.2.2.2.2.2.2.1 d.2.2.2.2.2.2.2.2.2.2.2.2.2.2.1)
  (fun i j:Nat=>(((X.length+P.length:Nat):Int),((i:Int),((j:Int),(L,W))))) (fun i:Nat=>(((X.length+P.length:Nat):Int),((i:Int),(L,W)))) (fun c=>¬key x<key (gt au L (c:Int))) (lo:=X.length) (hi:=X.length+P.length) (by omega) (by omega)
  (fun c d h1 h2 h3 hd=>by rw[gP d (by omega) h3]at hd;rw[gP c h1 (by omega)];have:=p9 hp (i:=c-X.length) (j:=d-X.length) (by omega) (by omega);omega)
  (fun i j h1 h2 h3 hp=>by obtain⟨c,hc,e⟩:=step i j h1 h2 h3;exact e.trans (je (fZ (aA (fun q=>hp (hc.1 q))))))
  (fun i j h1 h2 h3 hp=>by obtain⟨c,hc,e⟩:=step i j h1 h2 h3;exact e.trans (gb (dH (ak (hc.2 (Classical.not_not.1 hp))))))
  (fun i h1 h2=>by
   try dsimp only
   unfold tc;exact ag (aA (show ¬(i:Int)<(i:Int) by omega)) rfl)
 refine⟨s-X.length,by omega,?_,?_,?_⟩
 .have:X.length+(s-X.length)=s:=by omega
  rw[this];exact es
 .intro y hy;obtain⟨i,hi,rfl⟩:=List.mem_take_iff_getElem.1 hy;have:=hs1 (X.length+i) (by omega) (by omega);rw[gP _ (by omega) (by omega)]at this;have e:X.length+i-X.length=i:=by omega
  simp only[e]at this;omega
 .intro y hy;obtain⟨i,hi,rfl⟩:=List.mem_drop_iff_getElem.1 hy;have:=hs2 (X.length+(s-X.length+i)) (by omega) (by omega);rw[gP _ (by omega) (by omega)]at this;have e:X.length+(s-X.length+i)-X.length=s-X.length+i:=by omega
  simp only[e]at this;omega
theorem aij(F:iz){x:bn}{P1 P2:List bn}(hl:X.length+P1.length+P2.length<=400000) :
  KF F (((X.length+P1.length:Nat):Int),(((X.length+P1.length+P2.length:Nat):Int),(X++(P1++(P2++(x::Y))),W)))=some (X++(P1++(x::(P2++Y))),W):=by
 unfold KF;refine cu (fun t:Nat=>(((X.length+P1.length:Nat):Int),(((X.length+P1.length+(P2.length-t):Nat):Int),(X++(P1++(P2.take (P2.length-t)++(x::(P2.drop (P2.length-t)++Y)))),W)))) P2.length ?_ ?_ ?_ (bt (by omega))
 .have e1:P2.drop P2.length=[]:=List.drop_eq_nil_of_le (Nat.le_refl _);have e2:P2.take P2.length=P2:=List.take_of_length_le (Nat.le_refl _);simp only[Nat.sub_zero,e1,e2];rfl
 .intro t ht
  try dsimp only
  unfold Ba;obtain⟨j,hj⟩:∃j,P2.length-t=j+1:=⟨P2.length-t-1,by omega⟩;have hj':P2.length-(t+1)=j:=by omega
  have hjl:j<P2.length:=by omega
  rw[hj,hj'];have w1:IntKind.wrap .i64 (((X.length+P1.length+(j+1):Nat):Int)-1)=((X.length+P1.length+j:Nat):Int):=bG (by omega) (by omega);refine ao (ak (by omega)) ?_;refine acB (X:=X++(P1++P2.take j)) (q:=P2[j]) (p:=x) (Y:=P2.drop (j+1)++Y) (v:=X.length+P1.length+j) (u:=X.length+P1.length+(j+1)) ?_ ?_ rfl rfl w1 (fun hset=>?_)
  .rw[List.take_succ_eq_append_getElem hjl];simp only[cN,List.cons_append,List.nil_append]
  .simp;omega
  .refine ai (ak rfl) (ai (ak rfl) ?_);have e:∀(u v:Int) (A B:List bn),u=v->A=B->(some (.inl (((X.length+P1.length:Nat):Int),(u,(A,W)))):Option (TL AZ.σs⊕Out AQ))=some (.inl (((X.length+P1.length:Nat):Int),(v,(B,W)))):=by rintro _ _ _ _ rfl rfl;rfl
   refine e _ _ _ _ w1 (hset.trans ?_);rw[rq hjl];simp only[cN,List.cons_append,List.nil_append]
 .try dsimp only
  unfold Ba;rw[Nat.sub_self];exact ag (aA (by omega)) rfl
end
section
variable{X P Q Y L:List bn}{W:jL}{key:bn->Int}{V:bn->Prop}
theorem Ve(C:k8 W key V)(F:iz)(hL:L=X++(P++(Q++Y)))(hl:L.length<=400000)(hp:eE key P)(hq:eE key Q)(hP:∀y∈P,V y)(hQ:∀y∈Q,V y)(a m b mid n:Int){lo hi p:Nat}
  (h1:X.length<=lo) (h2:lo<=hi) (h3:hi<=X.length+P.length) (h4:hi+X.length+P.length<=p+1) (h5:p<X.length+P.length+Q.length+lo) :
  ∃s,lo<=s/\s<=hi/\A9 F (a,(m,(b,(mid,(n,((lo:Int),((hi:Int),((p:Int),(L,W)))))))))=some (a,(m,(b,(mid,(n,((s:Int),(L,W))))))) /\
   (∀c,lo<=c->c<s->¬key (gt au L ((p-c:Nat):Int))<key (gt au L (c:Int)))/\∀c,s<=c->c<hi->key (gt au L ((p-c:Nat):Int))<key (gt au L (c:Int)):=by
 have hlen:=zV hL;have gP:∀c,(h0:X.length<=c)->(h:c<X.length+P.length)->gt au L (c:Int)=P[c-X.length]'(by omega):=fun c h1 h2=>DK hL (t:=c-X.length) (by omega) (by omega);have gQ:∀c,(h0:X.length+P.length<=c)->(h:c<X.length+P.length+Q.length)->gt au L (c:Int)=Q[c-X.length-P.length]'(by omega):=fun c h1 h2=>DL hL (t:=c-X.length-P.length) (by omega) (by omega);have step:∀i j:Nat,lo<=i->i<j->j<=hi->∃c:Int,(c<0↔key (gt au L ((p-(i+j) / 2:Nat):Int))<key (gt au L (((i+j) / 2:Nat):Int))) /\
   tb j9 a m b mid n (i:Int) (j:Int) (p:Int) L W.1 W.2.1 W.2.2.1 W.2.2.2.1 W.2.2.2.2.1 W.2.2.2.2.2.1 W.2.2.2.2.2.2.1 W.2.2.2.2.2.2.2.1 W.2.2.2.2.2.2.2.2.1 W.2.2.2.2.2.2.2.2.2.1 W.2.2.2.2.2.2.2.2.2.2.1 =
    br (Bool.not (iL c 0)) (some (.inl (a,(m,(b,(mid,(n,((((i+j) / 2+1:Nat):Int),((j:Int),((p:Int),(L,W))))))))))) (some (.inl (a,(m,(b,(mid,(n,((i:Int),((((i+j) / 2:Nat):Int),((p:Int),(L,W))))))))))):=by
  intro i j q1 q2 q3;have hw:hf (i:Int) (j:Int)=(((i+j) / 2:Nat):Int):=DF (by omega);have hv:IntKind.wrap .i64 ((p:Int)-hf (i:Int) (j:Int))=((p-(i+j) / 2:Nat):Int):=by rw[hw];exact bG (by omega) (by omega)
  have gh:=gP ((i+j) / 2) (by omega) (by omega);have gv:=gQ (p-(i+j) / 2) (by omega) (by omega);obtain⟨c,e1,e2⟩:=C.cmp L (gt au L ((p-(i+j) / 2:Nat):Int)) (gt au L (((i+j) / 2:Nat):Int)) (by rw[gv];exact hQ _ (List.getElem_mem _)) (by rw[gh];exact hP _ (List.getElem_mem _));refine⟨c,e2,?_⟩;have i1:aq (hf (i:Int) (j:Int)) (List.length L)=true:=by rw[hw];exact aK ⟨by omega,by omega⟩
  have i2:aq (IntKind.wrap .i64 ((p:Int)-hf (i:Int) (j:Int))) (List.length L)=true:=by rw[hv];exact aK ⟨by omega,by omega⟩
  have e1':j9 ((gt au L (IntKind.wrap .i64 ((p:Int)-hf (i:Int) (j:Int)))).1,((gt au L (IntKind.wrap .i64 ((p:Int)-hf (i:Int) (j:Int)))).2.1,((gt au L (IntKind.wrap .i64 ((p:Int)-hf (i:Int) (j:Int)))).2.2.1,((gt au L (hf (i:Int) (j:Int))).1,((gt au L (hf (i:Int) (j:Int))).2.1,((gt au L (hf (i:Int) (j:Int))).2.2.1,mJ W L))))))=some (c,mJ W L):=by rw[hv,hw];exact e1
  unfold tb;refine ao (ak (show(i:Int)<(j:Int) by omega)) (ai i2 (ai i1 (af e1' ?_)));have e:∀(u v u' v':Int),u=u'->v=v'->(br (Bool.not (iL c 0)) (some (.inl (a,(m,(b,(mid,(n,(u,((j:Int),((p:Int),(L,W)))))))))))  (some (.inl (a,(m,(b,(mid,(n,((i:Int),(v,((p:Int),(L,W))))))))))):Option (TL AY.σs⊕Out wa))=br (Bool.not (iL c 0)) (some (.inl (a,(m,(b,(mid,(n,(u',((j:Int),((p:Int),(L,W)))))))))))  (some (.inl (a,(m,(b,(mid,(n,((i:Int),(v',((p:Int),(L,W))))))))))):=by rintro _ _ _ _ rfl rfl;rfl
  exact e _ _ _ _ (by show IntKind.wrap .i64 (hf (i:Int) (j:Int)+1)=_;rw[hw];exact bG (by omega) (by omega)) hw
 obtain⟨s,s1,s2,es,hs1,hs2⟩:=Ol (B:=fun d=>tb j9 d.1 d.2.1 d.2.2.1 d.2.2.2.1 d.2.2.2.2.1 d.2.2.2.2.2.1 d.2.2.2.2.2.2.1 d.2.2.2.2.2.2.2.1 d.2.2.2.2.2.2.2.2.1 d.2.2.2.2.2.2.2.2.2.1 d.2.2.2.2.2.2.2.2.2.2.1 d.2.2.2.2.2.2.2.2.2.2.2.1 d.2.2.2.2.2.2.2.2.2.2.2.2.1 d.2.2.2.2.2.2.2.2.2.2.2.2.2.1 d.2.2.2.2.2.2.2.2.2.2.2.2.2.2.1 d.2.2.2.2.2.2.2.2.2.2.2.2.2.2.2.1 d.2.2.2.2.2.2.2.2.2.2.2.2.2.2.2.2.1 d.2.2.2.2.2.2.2.2.2.2.2.2.2.2.2.2.2.1 d.2.2.2.2.2.2.2.2.2.2.2.2.2.2.2.2.2.2.1 d.2.2.2.2.2.2.2.2.2.2.2.2.2.2.2.2.2.2.2.1)
  (fun i j:Nat=>(a,(m,(b,(mid,(n,((i:Int),((j:Int),((p:Int),(L,W)))))))))) (fun i:Nat=>(a,(m,(b,(mid,(n,((i:Int),(L,W)))))))) (fun c=>¬key (gt au L ((p-c:Nat):Int))<key (gt au L (c:Int))) (lo:=lo) (hi:=hi) h2 (by omega)
  (fun c d q1 q2 q3 hd=>by rw[gP d (by omega) (by omega),gQ (p-d) (by omega) (by omega)]at hd;rw[gP c (by omega) (by omega),gQ (p-c) (by omega) (by omega)];have g1:=p9 hp (i:=c-X.length) (j:=d-X.length) (by omega) (by omega);have g2:=p9 hq (i:=p-d-X.length-P.length) (j:=p-c-X.length-P.length) (by omega) (by omega);omega)
  (fun i j q1 q2 q3 hp=>by obtain⟨c,hc,e⟩:=step i j q1 q2 q3;exact e.trans (je (fZ (aA (fun q=>hp (hc.1 q))))))
  (fun i j q1 q2 q3 hp=>by obtain⟨c,hc,e⟩:=step i j q1 q2 q3;exact e.trans (gb (dH (ak (hc.2 (Classical.not_not.1 hp))))))
  (fun i q1 q2=>by
   try dsimp only
   unfold tb;exact ag (aA (show ¬(i:Int)<(i:Int) by omega)) rfl)
 exact⟨s,s1,s2,es,hs1,fun c q1 q2=>Classical.not_not.1 (hs2 c q1 q2)⟩
theorem ain(hL:L=X++(P++(Q++Y)))(hp:eE key P)(hq:eE key Q){lo hi mid s:Nat}(hmid:mid=(X.length+X.length+P.length+Q.length) / 2)(hP2:2<=P.length)(hQ2:2<=Q.length)
  (hlo:(mid<X.length+P.length/\lo=mid+(X.length+P.length)-(X.length+P.length+Q.length)/\hi=mid)\/(X.length+P.length<=mid/\lo=X.length/\hi=X.length+P.length)) (h1:lo<=s) (h2:s<=hi)
  (g1:∀c,lo<=c->c<s->¬key (gt au L ((mid+(X.length+P.length)-1-c:Nat):Int))<key (gt au L (c:Int))) (g2:∀c,s<=c->c<hi->key (gt au L ((mid+(X.length+P.length)-1-c:Nat):Int))<key (gt au L (c:Int))) :
  (∀x∈P.take (s-X.length),∀y∈Q.drop (mid-s),key x<=key y)/\∀x∈P.drop (s-X.length),∀y∈Q.take (mid-s),key y<key x:=by
 have gP:∀c,(h0:X.length<=c)->(h:c<X.length+P.length)->gt au L (c:Int)=P[c-X.length]'(by omega):=fun c h1 h2=>DK hL (t:=c-X.length) (by omega) (by omega);have gQ:∀c,(h0:X.length+P.length<=c)->(h:c<X.length+P.length+Q.length)->gt au L (c:Int)=Q[c-X.length-P.length]'(by omega):=fun c h1 h2=>DL hL (t:=c-X.length-P.length) (by omega) (by omega);constructor
 .intro x hx y hy;obtain⟨i,hi',rfl⟩:=List.mem_take_iff_getElem.1 hx;obtain⟨j,hj,rfl⟩:=List.mem_drop_iff_getElem.1 hy;have hs:lo<s:=by omega
  have q:=g1 (s-1) (by omega) (by omega);rw[gP (s-1) (by omega) (by omega),gQ (mid+(X.length+P.length)-1-(s-1)) (by omega) (by omega)]at q;have r1:=p9 hp (i:=i) (j:=s-1-X.length) (by omega) (by omega);have r2:=p9 hq (i:=mid+(X.length+P.length)-1-(s-1)-X.length-P.length) (j:=mid-s+j) (by omega) (by omega);omega
 .intro x hx y hy;obtain⟨i,hi',rfl⟩:=List.mem_drop_iff_getElem.1 hx;obtain⟨j,hj,rfl⟩:=List.mem_take_iff_getElem.1 hy;have hs:s<hi:=by omega
  have q:=g2 s (by omega) (by omega);rw[gP s (by omega) (by omega),gQ (mid+(X.length+P.length)-1-s) (by omega) (by omega)]at q;have r1:=p9 hp (i:=s-X.length) (j:=s-X.length+i) (by omega) (by omega);have r2:=p9 hq (i:=j) (j:=mid+(X.length+P.length)-1-s-X.length-P.length) (by omega) (by omega);omega
set_option maxHeartbeats 4000000
theorem agR(C:k8 W key V){k:Nat}(ih:sQ W key V (jG k) k):sQ W key V (jG (k+1)) (k+1):=by
 intro X P Q Y L A M B hp0 hq0 hk eA eM eB hL hl hp hq hP hQ;subst eA;subst eM;subst eB;have hlen:=zV hL;show ∃R,v8 j9 (jG k) Bn (Zm (jG k)) (KM (jG k)) (Zb (jG k)) (KF (jG k)) (A9 (jG k))
  (X.length:Int) ((X.length+P.length:Nat):Int) ((X.length+P.length+Q.length:Nat):Int) L W.1 W.2.1 W.2.2.1 W.2.2.2.1 W.2.2.2.2.1 W.2.2.2.2.2.1 W.2.2.2.2.2.2.1 W.2.2.2.2.2.2.2.1 W.2.2.2.2.2.2.2.2.1 W.2.2.2.2.2.2.2.2.2.1 W.2.2.2.2.2.2.2.2.2.2.1=some (X++(R++Y),W)/\_
 have wP:IntKind.wrap .i64 (((X.length+P.length:Nat):Int)-(X.length:Int))=(P.length:Int):=bG (by omega) (by omega);have wQ:IntKind.wrap .i64 (((X.length+P.length+Q.length:Nat):Int)-((X.length+P.length:Nat):Int))=(Q.length:Int):=bG (by omega) (by omega);rcases Nat.lt_or_ge 1 P.length with a1|a1
 .rcases Nat.lt_or_ge 1 Q.length with a2|a2
  .-- two stretches of two at least
   obtain⟨mid,hmid⟩:∃mid,mid=(X.length+X.length+P.length+Q.length) / 2:=⟨_,rfl⟩;have hw:hf (X.length:Int) ((X.length+P.length+Q.length:Nat):Int)=(mid:Int):=by rw[DF (by omega),hmid];congr 2;omega
   have w1:IntKind.wrap .i64 (hf (X.length:Int) ((X.length+P.length+Q.length:Nat):Int)+((X.length+P.length:Nat):Int))=((mid+(X.length+P.length):Nat):Int):=by rw[hw];exact bG (by omega) (by omega)
   have w2:IntKind.wrap .i64 (IntKind.wrap .i64 (hf (X.length:Int) ((X.length+P.length+Q.length:Nat):Int)+((X.length+P.length:Nat):Int))-1)=((mid+(X.length+P.length)-1:Nat):Int):=by rw[w1];exact bG (by omega) (by omega)
   have tail:∀lo hi s:Nat,((mid<X.length+P.length/\lo=mid+(X.length+P.length)-(X.length+P.length+Q.length)/\hi=mid)\/(X.length+P.length<=mid/\lo=X.length/\hi=X.length+P.length))->lo<=s->s<=hi ->
     (∀c,lo<=c->c<s->¬key (gt au L ((mid+(X.length+P.length)-1-c:Nat):Int))<key (gt au L (c:Int)))->(∀c,s<=c->c<hi->key (gt au L ((mid+(X.length+P.length)-1-c:Nat):Int))<key (gt au L (c:Int))) ->
     ∃R,O8 (jG k) (X.length:Int) ((X.length+P.length:Nat):Int) ((X.length+P.length+Q.length:Nat):Int) (mid:Int) (s:Int) (IntKind.wrap .i64 (((mid+(X.length+P.length):Nat):Int)-(s:Int))) (L,W)=some (X++(R++Y),W)/\cP key (P++Q) R:=by
    intro lo hi s hlh s1 s2 g1 g2;obtain⟨c1,c2⟩:=ain hL hp hq hmid a1 a2 hlh s1 s2 g1 g2;have tP:(P.take (s-X.length)).length=s-X.length:=by rw[da];omega
    have dP:(P.drop (s-X.length)).length=P.length-(s-X.length):=by rw[List.length_drop]
    have tQ:(Q.take (mid-s)).length=mid-s:=by rw[da];omega
    have dQ:(Q.drop (mid-s)).length=Q.length-(mid-s):=by rw[List.length_drop]
    have eP:P.take (s-X.length)++P.drop (s-X.length)=P:=List.take_append_drop _ _;have eQ:Q.take (mid-s)++Q.drop (mid-s)=Q:=List.take_append_drop _ _;obtain⟨R,r1,r2⟩:=ah0 (W:=W) (V:=V) ih (X:=X) (P1:=P.take (s-X.length)) (P2:=P.drop (s-X.length)) (Q1:=Q.take (mid-s)) (Q2:=Q.drop (mid-s)) (Y:=Y) (L:=L) (a:=(X.length:Int)) (m:=((X.length+P.length:Nat):Int)) (b:=((X.length+P.length+Q.length:Nat):Int)) (mid:=(mid:Int)) (s:=(s:Int)) (e:=IntKind.wrap .i64 (((mid+(X.length+P.length):Nat):Int)-(s:Int)))
     rfl (by rw[tP];omega) (by rw[tP,dP];omega) (by rw[tP,tQ];omega) (by rw[tP,tQ,dP];exact bG (by omega) (by omega)) (by rw[tP,tQ,dP,dQ];omega) (by
      rw[hL]
      conv=>lhs;rw[<-eP,<-eQ]
      simp only[cN]) hl (by rw[tP,tQ];omega) (by rw[dP,dQ];omega) (by rw[eP];exact hp) (by rw[eQ];exact hq) (by rw[eP];exact hP) (by rw[eQ];exact hQ) c1 c2
    rw[eP,eQ]at r2;exact⟨R,r1,r2⟩
   unfold v8;rcases Nat.lt_or_ge mid (X.length+P.length)with b1|b1
   .have w3:IntKind.wrap .i64 (IntKind.wrap .i64 (hf (X.length:Int) ((X.length+P.length+Q.length:Nat):Int)+((X.length+P.length:Nat):Int))-((X.length+P.length+Q.length:Nat):Int))=((mid+(X.length+P.length)-(X.length+P.length+Q.length):Nat):Int):=by rw[w1];exact bG (by omega) (by omega)
    obtain⟨s,s1,s2,es,g1,g2⟩:=Ve C (jG k) hL hl hp hq hP hQ (X.length:Int) ((X.length+P.length:Nat):Int) ((X.length+P.length+Q.length:Nat):Int) (mid:Int) ((mid+(X.length+P.length):Nat):Int) (lo:=mid+(X.length+P.length)-(X.length+P.length+Q.length)) (hi:=mid) (p:=mid+(X.length+P.length)-1) (by omega) (by omega) (by omega) (by omega) (by omega);obtain⟨R,r1,r2⟩:=tail _ _ s (.inl ⟨b1,rfl,rfl⟩) s1 s2 g1 g2;have es':A9 (jG k) ((X.length:Int),(((X.length+P.length:Nat):Int),(((X.length+P.length+Q.length:Nat):Int),(hf (X.length:Int) ((X.length+P.length+Q.length:Nat):Int),(IntKind.wrap .i64 (hf (X.length:Int) ((X.length+P.length+Q.length:Nat):Int)+((X.length+P.length:Nat):Int)),(IntKind.wrap .i64 (IntKind.wrap .i64 (hf (X.length:Int) ((X.length+P.length+Q.length:Nat):Int)+((X.length+P.length:Nat):Int))-((X.length+P.length+Q.length:Nat):Int)),
     (hf (X.length:Int) ((X.length+P.length+Q.length:Nat):Int),(IntKind.wrap .i64 (IntKind.wrap .i64 (hf (X.length:Int) ((X.length+P.length+Q.length:Nat):Int)+((X.length+P.length:Nat):Int))-1),(L,W)))))))))=some ((X.length:Int),(((X.length+P.length:Nat):Int),(((X.length+P.length+Q.length:Nat):Int),((mid:Int),(((mid+(X.length+P.length):Nat):Int),((s:Int),(L,W))))))):=by rw[w2,w3,w1,hw];exact es
    refine⟨R,ag (aA (by rw[wP];omega)) (ag (aA (by rw[wQ];omega)) (ao (ak (show hf (X.length:Int) ((X.length+P.length+Q.length:Nat):Int)<((X.length+P.length:Nat):Int) by rw[hw];omega)) (af es' ?_))),r2⟩;exact r1
   .obtain⟨s,s1,s2,es,g1,g2⟩:=Ve C (jG k) hL hl hp hq hP hQ (X.length:Int) ((X.length+P.length:Nat):Int) ((X.length+P.length+Q.length:Nat):Int) (mid:Int) ((mid+(X.length+P.length):Nat):Int) (lo:=X.length) (hi:=X.length+P.length) (p:=mid+(X.length+P.length)-1) (by omega) (by omega) (by omega) (by omega) (by omega);obtain⟨R,r1,r2⟩:=tail _ _ s (.inr ⟨b1,rfl,rfl⟩) s1 s2 g1 g2;have es':A9 (jG k) ((X.length:Int),(((X.length+P.length:Nat):Int),(((X.length+P.length+Q.length:Nat):Int),(hf (X.length:Int) ((X.length+P.length+Q.length:Nat):Int),(IntKind.wrap .i64 (hf (X.length:Int) ((X.length+P.length+Q.length:Nat):Int)+((X.length+P.length:Nat):Int)),((X.length:Int),
     (((X.length+P.length:Nat):Int),(IntKind.wrap .i64 (IntKind.wrap .i64 (hf (X.length:Int) ((X.length+P.length+Q.length:Nat):Int)+((X.length+P.length:Nat):Int))-1),(L,W)))))))))=some ((X.length:Int),(((X.length+P.length:Nat):Int),(((X.length+P.length+Q.length:Nat):Int),((mid:Int),(((mid+(X.length+P.length):Nat):Int),((s:Int),(L,W))))))):=by rw[w2,w1,hw];exact es
    refine⟨R,ag (aA (by rw[wP];omega)) (ag (aA (by rw[wQ];omega)) (ag (aA (show ¬hf (X.length:Int) ((X.length+P.length+Q.length:Nat):Int)<((X.length+P.length:Nat):Int) by rw[hw];omega)) (af es' ?_))),r2⟩;exact r1
  .-- one behind
   obtain⟨x,rfl⟩:∃x,Q=[x]:=List.length_eq_one_iff.1 (by omega);have hx:=hQ x (by simp);obtain⟨j,j1,e15,g1,g2⟩:=aii C (jG k) hL hl hp hx hP;have tP:(P.take j).length=j:=by rw[da];omega
   have dP:(P.drop j).length=P.length-j:=by rw[List.length_drop]
   have eP:P.take j++P.drop j=P:=List.take_append_drop _ _;have e21:=aij (W:=W) (Y:=Y) (jG k) (X:=X) (x:=x) (P1:=P.take j) (P2:=P.drop j) (by omega);have eL:X++(P.take j++(P.drop j++(x::Y)))=L:=by rw[hL,<-cN (P.take j),eP];rfl
   rw[eL,tP,dP]at e21;have em:X.length+j+(P.length-j)=X.length+P.length:=by omega
   rw[em]at e21;unfold v8;refine⟨(P.take j++[x])++P.drop j,ag (aA (by rw[wP];omega)) (ao (ak (by rw[wQ];rfl)) (af e15 (af e21 ?_))),?_⟩
   .refine(congrArg (fun l:List bn=>(some (l,W):qZ)) ?_);simp only[cN,List.cons_append,List.nil_append]
   .have sp:=Pl.me.1 (by rw[eP];exact hp:eE key (P.take j++P.drop j));have:=Dw (key:=key) (P1:=P.take j) (P2:=P.drop j) (Q1:=[x]) (Q2:=[]) (R1:=P.take j++[x]) (R2:=P.drop j) (by rw[eP];exact hp) (by rw[dF];exact hq) (fun _ _ y hy=>by cases hy) (fun y hy z hz=>by simp at hz;subst hz;exact g2 y hy)
     (cP.refl (Pl.me.2 ⟨sp.1,hq,fun y hy z hz=>by simp at hz;subst hz;exact g1 y hy⟩)) (by rw[dF];exact cP.refl sp.2.1)
    rw[eP,dF]at this;exact this
 .-- one ahead
  obtain⟨x,rfl⟩:∃x,P=[x]:=List.length_eq_one_iff.1 (by omega);have hx:=hP x (by simp);obtain⟨j,j1,e3,g1,g2⟩:=aiZ C (jG k) hL hl hq hx hQ;have tQ:(Q.take j).length=j:=by rw[da];omega
  have eQ:Q.take j++Q.drop j=Q:=List.take_append_drop _ _;have e9:=ai0 (W:=W) (jG k) (X:=X) (x:=x) (Q1:=Q.take j) (Z:=Q.drop j++Y) (by omega);have eL:X++(x::(Q.take j++(Q.drop j++Y)))=L:=by rw[hL,<-cN (Q.take j),eQ];rfl
  rw[eL,tQ]at e9;unfold v8;refine⟨Q.take j++(x::Q.drop j),ao (ak (by rw[wP];rfl)) (af e3 (af e9 ?_)),?_⟩
  .refine(congrArg (fun l:List bn=>(some (l,W):qZ)) ?_);simp only[cN,List.cons_append]
  .have sq:=Pl.me.1 (by rw[eQ];exact hq:eE key (Q.take j++Q.drop j));have:=Dw (key:=key) (P1:=[]) (P2:=[x]) (Q1:=Q.take j) (Q2:=Q.drop j) (R1:=Q.take j) (R2:=x::Q.drop j) hp (by rw[eQ];exact hq) (fun y hy=>by cases hy) (fun y hy z hz=>by simp at hy;subst hy;exact g1 z hz)
    (cP.refl sq.1) (cP.refl (Pl.Ot.2 ⟨g2,sq.2.1⟩))
   rw[eQ]at this;exact this
theorem VK(C:k8 W key V):∀k,sQ W key V (jG k) k
 |0=>by intro X P Q Y L A M B h1 h2 h3;omega|k+1=>agR C (VK C k)
theorem acz(C:k8 W key V):sQ W key V KO 1000000:=by intro X P Q Y L A M B h1 h2 h3;exact VK C NN X P Q Y L A M B h1 h2 (Nat.le_trans h3 (Nat.le_of_lt (bt (by omega))))
end
open Pl (cP eE)
abbrev jr:=List (List bn×List bn)
def f0(bl:jr):List bn:=bl.flatMap (·.1)
def f1(bl:jr):List bn:=bl.flatMap (·.2)
def fY(key:bn->Int)(bs:Nat)(bl:jr):Prop:=∀p∈bl,p.1.length=bs/\cP key p.1 p.2
theorem Vj(a b:jr):f0 (a++b)=f0 a++f0 b:=by unfold f0;simp
theorem Vk(a b:jr):f1 (a++b)=f1 a++f1 b:=by unfold f1;simp
theorem tE(p:List bn×List bn)(b:jr):f0 (p::b)=p.1++f0 b:=rfl
theorem OA(p:List bn×List bn)(b:jr):f1 (p::b)=p.2++f1 b:=rfl
theorem wS(p:List bn×List bn):f1 [p]=p.2:=by simp[f1]
theorem wT(p:List bn×List bn):f0 [p]=p.1:=by simp[f0]
section
variable{W:jL}{key:bn->Int}{V:bn->Prop}
theorem fY.oX{bs:Nat}:∀{bl:jr},fY key bs bl->(f0 bl).length=bl.length*bs
 |[],_=>by simp[f0]|p::bl,h=>by rw[tE,aW,(h p (by simp)).1,fY.oX (fun q hq=>h q (by simp[hq])),ca,Nat.add_mul];omega
theorem fY.oY{bs:Nat}:∀{bl:jr},fY key bs bl->(f1 bl).length=bl.length*bs
 |[],_=>by simp[f1]|p::bl,h=>by rw[OA,aW,(h p (by simp)).2.len,(h p (by simp)).1,fY.oY (fun q hq=>h q (by simp[hq])),ca,Nat.add_mul];omega
theorem fY.app{bs:Nat}{a b:jr}(h:fY key bs a)(g:fY key bs b):fY key bs (a++b):=by
 intro p hp;rcases List.mem_append.1 hp with q|q
 .exact h p q
 .exact g p q
theorem fY.one{bs:Nat}{A A':List bn}(h:A.length=bs)(g:cP key A A'):fY key bs [(A,A')]:=by intro p hp;simp at hp;subst hp;exact⟨h,g⟩
theorem acC{A A' B B' R:List bn}(ha:cP key A A')(hb:cP key B B')(h:cP key (A'++B') R):cP key (A++B) R:=cP.Wb (by simp only[aW,ha.len,hb.len]) (fun k=>by rw[Pl.lD,Pl.lD,ha.pq,hb.pq]) h
theorem ahU(C:k8 W key V){S:List bn}(hl:S.length<=400000)(hV:∀x∈S,V x) :
  ∃o,Zu ((S.length:Int),((20:Int),((0:Int),((20:Int),(S,W)))))=some o/\∃(bl:jr) (R:List bn),o=((S.length:Int),((20:Int),(((f1 bl).length:Int),(f1 bl++R,W))))/\fY key 20 bl/\S=f0 bl++R/\R.length<20:=by
 unfold Zu;delta u16;refine mR (fun d=>∃(bl:jr) (R:List bn),d=((S.length:Int),((20:Int),(((f1 bl).length:Int),((((f1 bl).length+20:Nat):Int),(f1 bl++R,W)))))/\fY key 20 bl/\S=f0 bl++R)
  (fun o=>∃(bl:jr) (R:List bn),o=((S.length:Int),((20:Int),(((f1 bl).length:Int),(f1 bl++R,W))))/\fY key 20 bl/\S=f0 bl++R/\R.length<20) (fun d=>S.length-d.2.2.1.toNat) ?_ NN _ ⟨[],S,rfl,(fun p hp=>by cases hp),rfl⟩ (bt (by omega))
 rintro d ⟨bl,R,rfl,hF,hS⟩;have l0:=hF.oX;have l1:=hF.oY;have hn:S.length=(f0 bl).length+R.length:=by rw[hS,aW]
 try dsimp only
 unfold K6;rcases Nat.lt_or_ge R.length 20 with q|q
 .left;exact⟨_,ag (aA (by omega)) rfl,bl,R,rfl,hF,hS,q⟩
 .right;have eR:R.take 20++R.drop 20=R:=List.take_append_drop _ _;have tR:(R.take 20).length=20:=by rw[da];omega
  obtain⟨A',e1,hA⟩:=Vm C (X:=f1 bl) (S:=R.take 20) (Y:=R.drop 20) (L:=f1 bl++R) (A:=((f1 bl).length:Int)) (B:=(((f1 bl).length+20:Nat):Int)) rfl (by rw[tR]) (by rw[eR]) (by rw[aW];omega) (fun y hy=>hV y (by rw[hS];simp[List.mem_of_mem_take hy]));have lA:A'.length=20:=hA.len.trans tR;have ef1:f1 (bl++[(R.take 20,A')])=f1 bl++A':=by rw[Vk,wS]
  refine⟨((S.length:Int),((20:Int),(((f1 (bl++[(R.take 20,A')])).length:Int),((((f1 (bl++[(R.take 20,A')])).length+20:Nat):Int),(f1 (bl++[(R.take 20,A')])++R.drop 20,W))))),?_,⟨_,R.drop 20,rfl,hF.app (fY.one tR hA),?_⟩,?_⟩
  .refine ao (ak (by omega)) (af e1 ?_);have e:∀(u v u' v':Int) (A B:List bn),u=u'->v=v'->A=B->(some (.inl ((S.length:Int),((20:Int),(u,(v,(A,W)))))):Option (TL Bj.σs⊕Out Be))=some (.inl ((S.length:Int),((20:Int),(u',(v',(B,W)))))):=by rintro _ _ _ _ _ _ rfl rfl rfl;rfl
   refine e _ _ _ _ _ _ ?_ ?_ ?_
   .rw[ef1,aW,lA]
   .rw[ef1,aW,lA];exact bG (by omega) (by omega)
   .rw[ef1,cN]
  .rw[Vj,wT,cN,eR];exact hS
  .show S.length-(((f1 (bl++[(R.take 20,A')])).length:Int)).toNat<S.length-(((f1 bl).length:Int)).toNat;rw[ef1,aW,lA];omega
theorem ahW(C:k8 W key V){S:List bn}(hl:S.length<=400000)(hV:∀x∈S,V x){bs:Nat}(hbs:20<=bs)(hb2:bs<=400000){bl:jr}{R0 R:List bn}(hF:fY key bs bl)(hR:cP key R0 R)(hRl:R0.length<bs)(hS:S=f0 bl++R0) :
  ∃o,Bl ((S.length:Int),((bs:Int),((0:Int),(((2*bs:Nat):Int),(f1 bl++R,W)))))=some o/\∃(ul bl:jr),o=((S.length:Int),((bs:Int),(((f1 ul).length:Int),(f1 ul++(f1 bl++R),W))))/\fY key (2*bs) ul/\fY key bs bl/\S=f0 ul++(f0 bl++R0)/\(f1 bl).length+R.length<2*bs:=by
 unfold Bl;delta u16;refine mR (fun d=>∃(ul bl:jr),d=((S.length:Int),((bs:Int),(((f1 ul).length:Int),((((f1 ul).length+2*bs:Nat):Int),(f1 ul++(f1 bl++R),W)))))/\fY key (2*bs) ul/\fY key bs bl/\S=f0 ul++(f0 bl++R0))
  (fun o=>∃(ul bl:jr),o=((S.length:Int),((bs:Int),(((f1 ul).length:Int),(f1 ul++(f1 bl++R),W))))/\fY key (2*bs) ul/\fY key bs bl/\S=f0 ul++(f0 bl++R0)/\(f1 bl).length+R.length<2*bs)
  (fun d=>S.length-d.2.2.1.toNat) ?_ NN _ ⟨[],bl,by show _=((S.length:Int),((bs:Int),(((0:Nat):Int),(((0+2*bs:Nat):Int),([]++(f1 bl++R),W)))));rw[Nat.zero_add];rfl,(fun p hp=>by cases hp),hF,hS⟩ (bt (by omega))
 rintro d ⟨ul,bl,rfl,hU,hF,hS⟩;have u0:=hU.oX;have u1:=hU.oY;have l0:=hF.oX;have l1:=hF.oY;have lR:=hR.len;have hn:S.length=(f0 ul).length+((f0 bl).length+R0.length):=by rw[hS,aW,aW]
 try dsimp only
 unfold K4;rcases Nat.lt_or_ge ((f1 bl).length+R.length) (2*bs)with q|q
 .left;exact⟨_,ag (aA (by omega)) rfl,ul,bl,rfl,hU,hF,hS,q⟩
 .right
  match bl,hF,hS,l0,l1,hn,q with
  |[],hF,hS,l0,l1,hn,q=>simp[f1]at q;omega|[p],hF,hS,l0,l1,hn,q=>simp only[ca,List.length_nil]at l1;omega|p::p2::bl,hF,hS,l0,l1,hn,q=>
   obtain⟨hp1,hp2⟩:=hF p (by simp);obtain⟨hq1,hq2⟩:=hF p2 (by simp);have lp:=hp2.len;have lq:=hq2.len;have hF':fY key bs bl:=fun x hx=>hF x (by simp[hx]);have l0':=hF'.oX;have l1':=hF'.oY;have eL:f1 ul++(f1 (p::p2::bl)++R)=f1 ul++(p.2++(p2.2++(f1 bl++R))):=by rw[OA,OA];simp only[cN]
   have lL:(f1 ul++(f1 (p::p2::bl)++R)).length<=400000:=by simp only[aW];omega
   obtain⟨R1,e1,hR1⟩:=acz C (f1 ul) p.2 p2.2 (f1 bl++R) (f1 ul++(f1 (p::p2::bl)++R)) ((f1 ul).length:Int) (IntKind.wrap .i64 (((f1 ul).length:Int)+(bs:Int))) (((f1 ul).length+2*bs:Nat):Int) (by omega) (by omega) (by omega) rfl (bG (by omega) (by omega)) (by omega) eL lL hp2.oA hq2.oA
    (fun x hx=>hV x (by rw[hS,tE];simp[hp2.mem.1 hx])) (fun x hx=>hV x (by rw[hS,tE,tE];simp[hq2.mem.1 hx]))
   have lR1:R1.length=2*bs:=by rw[hR1.len,aW];omega
   have hSS:cP key (p.1++p2.1) R1:=acC hp2 hq2 hR1;have ef1:f1 (ul++[(p.1++p2.1,R1)])=f1 ul++R1:=by rw[Vk,wS]
   refine⟨((S.length:Int),((bs:Int),(((f1 (ul++[(p.1++p2.1,R1)])).length:Int),((((f1 (ul++[(p.1++p2.1,R1)])).length+2*bs:Nat):Int),(f1 (ul++[(p.1++p2.1,R1)])++(f1 bl++R),W))))),?_,⟨_,bl,rfl,hU.app (fY.one (by rw[aW];omega) hSS),hF',?_⟩,?_⟩
   .refine ao (ak (by simp only[ca]at *;omega)) (af e1 ?_);have e:∀(u v u' v':Int) (A B:List bn),u=u'->v=v'->A=B->(some (.inl ((S.length:Int),((bs:Int),(u,(v,(A,W)))))):Option (TL Bh.σs⊕Out Bc))=some (.inl ((S.length:Int),((bs:Int),(u',(v',(B,W)))))):=by rintro _ _ _ _ _ _ rfl rfl rfl;rfl
    refine e _ _ _ _ _ _ ?_ ?_ ?_
    .rw[ef1,aW,lR1]
    .rw[ef1,aW,lR1];have w2:IntKind.wrap .i64 ((2:Int)*(bs:Int))=((2*bs:Nat):Int):=bG (by omega) (by omega);have:IntKind.wrap .i64 ((((f1 ul).length+2*bs:Nat):Int)+IntKind.wrap .i64 ((2:Int)*(bs:Int)))=(((f1 ul).length+2*bs+2*bs:Nat):Int):=by rw[w2];exact bG (by omega) (by omega)
     exact this
    .rw[ef1,cN]
   .rw[Vj,wT,hS,tE,tE];simp only[cN]
   .show S.length-(((f1 (ul++[(p.1++p2.1,R1)])).length:Int)).toNat<S.length-(((f1 ul).length:Int)).toNat;rw[ef1,aW,lR1];simp only[ca]at *
    omega
end
section
variable{W:jL}{key:bn->Int}{V:bn->Prop}
theorem ahV(C:k8 W key V){S:List bn}(hl:S.length<=100000)(hV:∀x∈S,V x){bl:jr}{R0 R:List bn}(hF:fY key 20 bl)(hR:cP key R0 R)(hRl:R0.length<20)(hS:S=f0 bl++R0) :
  ∃o,Zt ((S.length:Int),((20:Int),(f1 bl++R,W)))=some o/\∃S',o=(S',W)/\cP key S S':=by
 unfold Zt;delta iu;refine mR (fun d=>∃(bs:Nat) (bl:jr) (R0 R:List bn),d=((S.length:Int),((bs:Int),(f1 bl++R,W)))/\20<=bs/\bs<=400000/\fY key bs bl/\cP key R0 R/\R0.length<bs/\S=f0 bl++R0)
  (fun o=>∃S',o=(S',W)/\cP key S S') (fun d=>S.length-d.2.1.toNat) ?_ NN _ ⟨20,bl,R0,R,rfl,Nat.le_refl _,by decide,hF,hR,hRl,hS⟩ (bt (by omega))
 rintro d ⟨bs,bl,R0,R,rfl,hbs,hb2,hF,hR,hRl,hS⟩;have l0:=hF.oX;have l1:=hF.oY;have lR:=hR.len;have hn:S.length=(f0 bl).length+R0.length:=by rw[hS,aW]
 try dsimp only
 unfold K5;rcases Nat.lt_or_ge bs S.length with q|q
 .right;obtain⟨o,e9,ul,bl',rfl,hU,hF',hS',hlt⟩:=ahW C (by omega) hV hbs hb2 hF hR hRl hS;have u0:=hU.oX;have u1:=hU.oY;have l0':=hF'.oX;have l1':=hF'.oY;have hn':S.length=(f0 ul).length+((f0 bl').length+R0.length):=by rw[hS',aW,aW]
  have w2:IntKind.wrap .i64 ((2:Int)*(bs:Int))=((2*bs:Nat):Int):=bG (by omega) (by omega);have w3:IntKind.wrap .i64 ((bs:Int)*(2:Int))=((2*bs:Nat):Int):=bG (by omega) (by omega);have wm:IntKind.wrap .i64 (((f1 ul).length:Int)+(bs:Int))=(((f1 ul).length+bs:Nat):Int):=bG (by omega) (by omega);have e9':Bl ((S.length:Int),((bs:Int),((0:Int),(IntKind.wrap .i64 ((2:Int)*(bs:Int)),(f1 bl++R,W)))))=some ((S.length:Int),((bs:Int),(((f1 ul).length:Int),(f1 ul++(f1 bl'++R),W)))):=by rw[w2];exact e9
  have e:∀(u u':Int) (A B:List bn),u=u'->A=B->(some (.inl ((S.length:Int),(u,(A,W)))):Option (TL Bi.σs⊕Out Bd))=some (.inl ((S.length:Int),(u',(B,W)))):=by rintro _ _ _ _ rfl rfl;rfl
  rcases Nat.lt_or_ge bs ((f1 bl').length+R.length)with g|g
  .match bl',hF',hS',l0',l1',hn',hlt,g,e9' with
   |[],hF',hS',l0',l1',hn',hlt,g,e9'=>simp[f1]at g;omega|p::p2::bl',hF',hS',l0',l1',hn',hlt,g,e9'=>simp only[ca,Nat.add_mul]at l1';omega|[p],hF',hS',l0',l1',hn',hlt,g,e9'=>
    obtain⟨hp1,hp2⟩:=hF' p (by simp);have lp:=hp2.len;rw[wS]at g l1' hlt e9';rw[wT]at l0' hS' hn';simp only[ca,List.length_nil]at l1' l0';have lL:(f1 ul++(p.2++R)).length<=400000:=by simp only[aW];omega
    obtain⟨R1,e1,hR1⟩:=acz C (f1 ul) p.2 R [] (f1 ul++(p.2++R)) ((f1 ul).length:Int) (IntKind.wrap .i64 (((f1 ul).length:Int)+(bs:Int))) (S.length:Int) (by omega) (by omega) (by omega) rfl (by rw[wm];congr 2;omega) (by congr 1;omega) (by rw[dF]) lL hp2.oA hR.oA
     (fun x hx=>hV x (by rw[hS'];simp[hp2.mem.1 hx])) (fun x hx=>hV x (by rw[hS'];simp[hR.mem.1 hx]))
    refine⟨((S.length:Int),(((2*bs:Nat):Int),(f1 ul++R1,W))),ao (ak (by omega)) (af e9' (ao (ak (show IntKind.wrap .i64 (((f1 ul).length:Int)+(bs:Int))<(S.length:Int) by rw[wm];omega)) (af e1 (e _ _ _ _ w3 (by rw[dF]))))),⟨2*bs,ul,p.1++R0,R1,rfl,by omega,by omega,hU,acC hp2 hR hR1,by simp only[aW];omega,hS'⟩,?_⟩;show S.length-(((2*bs:Nat):Int)).toNat<S.length-((bs:Int)).toNat;omega
  .-- one block at most,and nothing behind it
   have hrest:cP key (f0 bl'++R0) (f1 bl'++R):=by
    match bl',hF',l1',g with
    |[],hF',l1',g=>exact hR|[p],hF',l1',g=>obtain⟨hp1,hp2⟩:=hF' p (by simp);rw[wS]at g l1' |-;rw[wT];simp only[ca,List.length_nil]at l1';have h0:R0=[]:=List.eq_nil_of_length_eq_zero (by omega);have h1:R=[]:=List.eq_nil_of_length_eq_zero (by omega);rw[h0,h1,dF,dF];exact hp2
    |p::p2::bl',hF',l1',g=>simp only[ca,Nat.add_mul]at l1';omega
   refine⟨((S.length:Int),(((2*bs:Nat):Int),(f1 ul++(f1 bl'++R),W))),ao (ak (by omega)) (af e9' (ag (aA (show ¬IntKind.wrap .i64 (((f1 ul).length:Int)+(bs:Int))<(S.length:Int) by rw[wm];omega)) (e _ _ _ _ w3 rfl))),⟨2*bs,ul,f0 bl'++R0,f1 bl'++R,rfl,by omega,by omega,hU,hrest,by simp only[aW];omega,hS'⟩,?_⟩;show S.length-(((2*bs:Nat):Int)).toNat<S.length-((bs:Int)).toNat;omega
 .left;refine⟨(f1 bl++R,W),ag (aA (by omega)) rfl,_,rfl,?_⟩;rw[hS]
  match bl,hF,l0,l1,hn with
  |[],hF,l0,l1,hn=>exact hR|[p],hF,l0,l1,hn=>obtain⟨hp1,hp2⟩:=hF p (by simp);rw[wT]at hn l0 |-;rw[wS];simp only[ca,List.length_nil]at l0;have h0:R0=[]:=List.eq_nil_of_length_eq_zero (by omega);have h1:R=[]:=List.eq_nil_of_length_eq_zero (by omega);rw[h0,h1,dF,dF];exact hp2
  |p::p2::bl,hF,l0,l1,hn=>simp only[ca,Nat.add_mul]at l0;omega
theorem apl(C:k8 W key V){S:List bn}(hl:S.length<=100000)(hV:∀x∈S,V x):∃S',alu (S,W)=some (S',W)/\cP key S S':=by
 obtain⟨o,e2,bl,R,rfl,hF,hS,hR⟩:=ahU C (by omega) hV;have l0:=hF.oX;have l1:=hF.oY;have hn:S.length=(f0 bl).length+R.length:=by
  have:=congrArg List.length hS
  rwa [aW]at this
 obtain⟨R',e3,hR'⟩:=Vm C (X:=f1 bl) (S:=R) (Y:=[]) (L:=f1 bl++R) (A:=((f1 bl).length:Int)) (B:=(S.length:Int)) rfl (by congr 1;omega) (by rw[dF]) (by rw[aW];omega) (fun y hy=>hV y (by rw[hS];simp[hy]));obtain⟨o,e7,S',rfl,hS'⟩:=ahV C hl hV hF hR' (by omega) hS;rw[dF]at e3;have e:amp ((S.length:Int),(S,W))=some (S',W):=af e2 (af e3 (af e7 rfl));exact⟨S',af e rfl,hS'⟩
end
open Go.Proofs.YtkcpdpplobhpaaaGreat.Pl
theorem Oy{R:Type}{a b:Bool}{y z:Option R}(ha:a=true)(h:ah b y=z):ah (both a b) y=z:=by subst ha;exact h
theorem ag5(a b:Int):∃c:Int,Nz (a,(b,()))=some (c,())/\(c<0↔a<b):=by
 have nn:∀x:Int,abC (x,())=some (false,()):=fun x=>by
  show NC x=_;unfold NC;have e:∀b:Bool,b=true->(some (Bool.not b,()):Option (TL C8))=some (false,()):=by rintro _ rfl;rfl
  exact e _ (ak rfl)
 have un:∀c:Option (TL C5),wy abC a b=c->Nz (a,(b,()))=c:=fun c h=>h;rcases Int.lt_trichotomy a b with h|h|h
 .refine⟨-1,un _ ?_,by omega⟩;unfold wy;exact af (nn a) (af (nn b) (ag rfl (ag rfl (ao (ak h) rfl))))
 .refine⟨0,un _ ?_,by omega⟩;unfold wy;exact af (nn a) (af (nn b) (ag rfl (ag rfl (ag (aA (by omega)) (ag (aA (by omega)) rfl)))))
 .refine⟨1,un _ ?_,by omega⟩;unfold wy;exact af (nn a) (af (nn b) (ag rfl (ag rfl (ag (aA (by omega)) (ao (ak h) rfl)))))
def wR(n:aD)(of m lv:List Int):jL:=(n.vars,(n.aM,(n.ax.map bM,(n.cf,(n.bo,(n.constraints,(n.aa.map av,(n.aP.map dW,(of,(m,(lv,())))))))))))
def nI(n:aD)(x:bn):bF:=
 match x.1 with
 |true=>(match n.aa[x.2.1.toNat]? with|some M=>(match M.reads[x.2.2.1.toNat]? with|some r=>pK M.word r|none=>⟨[],[]⟩)|none=>⟨[],[]⟩)
 |false=>(match n.aP[x.2.2.1.toNat]? with|some a=>qa a|none=>⟨[],[]⟩)
theorem ajf{n:aD}{y:bH}{i:bF}(h:y.is n i):nI n (dE y)=i:=by
 rcases h with⟨h,a,ha,rfl⟩|⟨h,M,r,hM,hr,rfl⟩
 .unfold nI dE;simp only[h,Int.toNat_natCast,ha]
 .unfold nI dE;simp only[h,Int.toNat_natCast,hM,hr]
def lk(lv:List Int)(i:bF):Int:=aF lv (i.to.headD 0).toNat
theorem VL{n:aD}{of m lv:List Int}{L:List bn}{x:bH}{i:bF}(h:x.is n i)(ft:Fit n)(hw:∀M∈n.aa,0<=M.word) :
  xv (x.rd,((x.mem:Int),((x.pos:Int),mJ (wR n of m lv) L)))=some (i.to,mJ (wR n of m lv) L):=by
 show xK QE x.rd (x.mem:Int) (x.pos:Int) n.vars n.aM (n.ax.map bM) n.cf n.bo n.constraints (n.aa.map av) (n.aP.map dW) of L m lv=_;unfold xK;rcases h with⟨h,a,ha,rfl⟩|⟨h,M,r,hM,hr,rfl⟩
 .have ha':(n.aP.map dW)[x.pos]?=some (dW a):=by rw[cg,ha];rfl
  have hl:=dL ha';rw[h,gb rfl,eK (aK ⟨by omega,by omega⟩),aZ ha'];rfl
 .have hM':(n.aa.map av)[x.mem]?=some (av M):=by rw[cg,hM];rfl
  have hl:=dL hM';have hmem:=dn hM;have hf:=ft.aa.2 M hmem;have hr2:=hf.kM r (dn hr);rw[h,je rfl,eK (aK ⟨by omega,by omega⟩),aZ hM'];exact(cw (W8 M x.pos r hr ⟨hw M hmem,hf.word.2⟩ ⟨hr2.2.1,hr2.2.2.1⟩)).trans rfl
theorem ai7{n:aD}{V:Nat}(hs:cO n V)(ft:Fit n){of m lv:List Int}(hl:lv.length=V+1)(key:bn->Int)(hk:∀x∈n6 n,key (dE x.1)=lk lv x.2)(his:∀x∈n6 n,x.1.is n x.2) :
  k8 (wR n of m lv) key (fun x=>∃y∈n6 n,x=dE y.1):=by
 refine⟨fun L x y hx hy=>?_⟩;obtain⟨x,hx,rfl⟩:=hx;obtain⟨y,hy,rfl⟩:=hy;have hw:∀M∈n.aa,0<=M.word:=fun M hM=>by have:=(hs.aa M hM).2.2.1;omega
 have hd:∀z∈n6 n,∃(v:Nat) (t:List Int),z.2.to=(v:Int)::t/\v<=V/\key (dE z.1)=aF lv v:=by
  intro z hz;have hm:z.2∈fQ n:=by rw[<-oS];exact List.mem_map_of_mem hz
  have h1:=hs.D4 hm;have h2:=hk z hz;unfold lk at h2
  match e:z.2.to with|[]=>exact absurd e h1|v::t=>have h3:=hs.ln hm (v:=v) (by rw[e];simp);obtain⟨u,hu⟩:=Int.eq_ofNat_of_zero_le (show 0<=v by omega);rw[e,List.headD_cons,hu,Int.toNat_natCast]at h2;exact⟨u,t,by rw[hu],by omega,h2⟩
 obtain⟨vx,tx,ex,bx,kx⟩:=hd x hx;obtain⟨vy,ty,ey,bY,ky⟩:=hd y hy;have f1:=VL (of:=of) (m:=m) (lv:=lv) (L:=L) (his x hx) ft hw;have f2:=VL (of:=of) (m:=m) (lv:=lv) (L:=L) (his y hy) ft hw;obtain⟨c,hc,hiff⟩:=ag5 (aF lv vx) (aF lv vy);refine⟨c,?_,by rw[kx,ky];exact hiff⟩;have g0:gt (.int .i64) x.2.to (0:Int)=(vx:Int):=aZ (σ:=.int .i64) (i:=0) (by rw[ex];rfl);have g1:gt (.int .i64) y.2.to (0:Int)=(vy:Int):=aZ (σ:=.int .i64) (i:=0) (by rw[ey];rfl);have gx:gt (.int .i64) lv (vx:Int)=aF lv vx:=aZ (σ:=.int .i64) (sZ (by omega));have gy:gt (.int .i64) lv (vy:Int)=aF lv vy:=aZ (σ:=.int .i64) (sZ (by omega));have ix:aq (vx:Int) (List.length lv)=true:=aK ⟨by omega,by omega⟩;have iy:aq (vy:Int) (List.length lv)=true:=aK ⟨by omega,by omega⟩;have nx:aq (0:Int) (List.length x.2.to)=true:=aK ⟨by omega,by rw[ex];simp⟩;have ny:aq (0:Int) (List.length y.2.to)=true:=aK ⟨by omega,by rw[ey];simp⟩;have jx:aq (gt (.int .i64) x.2.to (0:Int)) (List.length lv)=true:=by rw[g0];exact ix
 have jy:aq (gt (.int .i64) y.2.to (0:Int)) (List.length lv)=true:=by rw[g1];exact iy
 have hc':Nz ((gt (.int .i64) lv (gt (.int .i64) x.2.to (0:Int))),((gt (.int .i64) lv (gt (.int .i64) y.2.to (0:Int))),()))=some (c,()):=by rw[g0,g1,gx,gy];exact hc
 refine af f1 (ai nx (ai jx (Oy (ak rfl) (Oy (ak rfl) (Oy (ak rfl) (ai rfl (af f2 (ai ny (ai jy (ai nx (ai (ak rfl) (ai (ak rfl) (ai jx (ai (ak rfl) (ai (ak rfl) (af hc' rfl))))))))))))))))
theorem Vy(n:aD):(n6 n).map (fun x:bH×bF=>x.1)=eI n:=by
 unfold n6 A6 M6 eI;rw[dV,dt,dt];congr 1
 .exact List.map_fst_zip (by rw[um,aO];omega)
 .exact List.map_fst_zip (by rw[uj];omega)
theorem zX(n:aD){x:bH×bF}(h:x∈n6 n):x.1.is n x.2:=by
 obtain⟨i,hi⟩:=List.getElem?_of_mem h;have h1:(eI n)[i]?=some x.1:=by rw[<-Vy,cg,hi];rfl
 have h2:(fQ n)[i]?=some x.2:=by rw[<-oS,cg,hi];rfl
 obtain⟨y,e,hy⟩:=JJ n h1;rw[h2]at e;injection e with e;rw[e];exact hy
def lvl(n:aD)(V:Nat):List Int:=iB (bc n) ((n6 n).length+1) (jf (bc n) V)
def aX(n:aD)(V:Nat):List (bH×bF):=(List.range (n6 n).length).flatMap fun(i:Nat)=>(n6 n).filter fun x=>decide (lk (lvl n V) x.2=(i:Int)+1)
theorem Vu{n:aD}{V:Nat}(hs:cO n V){v k:Nat}(hv:v<=V)(hl:dg (bc n) v k):aF (lvl n V) v=(k:Int):=by
 unfold lvl;have:(n6 n).length=(bc n).length:=by rw[<-sW,aO]
 rw[this];exact aoC hs.apart hs.aY hv hl
theorem acV{n:aD}{V:Nat}(hs:cO n V){x:bH×bF}(h:x∈n6 n):(x.2.to.headD 0).toNat<=V/\(x.2.to.headD 0).toNat∈x.2.nd.to/\x.2.nd∈bc n:=by
 have hm:x.2∈fQ n:=by rw[<-oS];exact List.mem_map_of_mem h
 have h1:=hs.D4 hm;refine⟨?_,?_,?_⟩
 .match e:x.2.to with|[]=>exact absurd e h1|v::t=>have h3:=hs.ln hm (v:=v) (by rw[e];simp);rw[List.headD_cons];omega
 .unfold bF.nd
  match e:x.2.to with|[]=>exact absurd e h1|v::t=>simp
 .unfold bc;exact List.mem_map_of_mem hm
theorem aix{n:aD}{V:Nat}(hs:cO n V)(ha:fh (bc n) V=true){x:bH×bF}(h:x∈n6 n):1<=lk (lvl n V) x.2/\lk (lvl n V) x.2<=((n6 n).length:Int):=by
 obtain⟨h1,h2,h3⟩:=acV hs h;obtain⟨k,hk⟩:=(Aw hs.apart V).1 ha _ h1;unfold lk;rw[Vu hs h1 hk];have:(n6 n).length=(bc n).length:=by rw[<-sW,aO]
 have hle:=hk.le hs.apart;obtain⟨f,_,e⟩:=hk.inv hs.apart h3 h2;omega
theorem aoA{n:aD}{V:Nat}(hs:cO n V)(ft:Fit n)(h0:dM n=0) :
  aoB (bz n,())=some (if fh (bc n) V then((aX n V).map (fun x=>dE x.1),(true,()))else([],(false,()))):=by
 have es:mw (bz n,())=some (dM n,()):=by unfold mw;rw[show fx ((bz n,()):TL [ba]).1=n from oq n,Az ft];rfl
 have ew:=acM hs ft;obtain⟨m,lv,ea,hlv⟩:=Vf hs ft;by_cases ha:fh (bc n) V=true
 .obtain⟨hll,hlv⟩:=hlv ha;have et:xM (nt n ())=some (.inr ((0:Int),wk n V m lv)):=by refine af es (ag (by rw[h0];rfl) (af ew (af ea (ag (by rw[ha];rfl) rfl))))
  rw[if_pos ha]
  let key:bn->Int:=fun x=>lk (lvl n V) (nI n x)
  have hkey:∀x∈n6 n,key (dE x.1)=lk (lvl n V) x.2:=fun x hx=>by show lk (lvl n V) (nI n (dE x.1))=_;rw[ajf (zX n hx)]
  have hk:∀x∈n6 n,key (dE x.1)=lk lv x.2:=fun x hx=>by rw[hkey x hx];obtain⟨h1,h2,h3⟩:=acV hs hx;unfold lk;obtain⟨k,e1,e2⟩:=hlv _ h1;rw[e1,Vu hs h1 e2]
  have hN:(eI n).map dE=(n6 n).map (fun x=>dE x.1):=by rw[<-Vy,List.map_map];rfl
  have hlen:(n6 n).length<=3000:=(pJ hs).len;obtain⟨S',e1,hS⟩:=apl (ai7 hs ft (of:=fX (bc n) V (bc n).length) (m:=m) hll key hk (fun x hx=>zX n hx)) (S:=(eI n).map dE) (by rw[hN,aO];omega) (fun x hx=>by rw[hN]at hx;obtain⟨y,hy,rfl⟩:=List.mem_map.1 hx;exact⟨y,hy,rfl⟩);have hS':S'=(aX n V).map (fun x=>dE x.1):=by
   refine(hS.flat (n6 n).length (fun x hx=>?_)).trans ?_
   .rw[hN]at hx;obtain⟨y,hy,rfl⟩:=List.mem_map.1 hx;rw[hkey y hy];exact aix hs ha hy
   .unfold aX;rw[List.map_flatMap,hN];congr 1;funext i;unfold fk;rw[List.filter_map];congr 1;refine List.filter_congr fun x hx=>?_;show decide (key (dE x.1)=_)=_;rw[hkey x hx]
  rw[<-hS'];refine af et (ag rfl ?_);exact af e1 rfl
 .rw[if_neg ha];have hc:fh (bc n) V=false:=by simpa using ha
  have et:xM (nt n ())=some (.inl ((8:Int),())):=by refine af es (ag (by rw[h0];rfl) (af ew (af ea (ao (by rw[hc];rfl) rfl))))
  exact af et (ai rfl rfl)
def ou(lv:List Int)(N:List (bH×bF))(a:Int)(k:Nat):List (bH×bF):=(N.take k).filter fun x=>decide (lk lv x.2=a)
theorem ag3(lv:List Int)(N:List (bH×bF))(a:Int)(k:Nat):(ou lv N a k).length<=k:=by unfold ou;have h1:=List.length_filter_le (fun x:bH×bF=>decide (lk lv x.2=a)) (N.take k);have h2:=List.length_take_le k N;omega
theorem aiJ(P:List bh.T)(z:bh.T)(h:P.length<=10000000):room 72 (List.length (P++(z::[])))=true:=by rw[aW,ca,List.length_nil];exact ks (by omega) (by omega)
theorem aji{n:aD}{V:Nat}(hs:cO n V)(lv:List Int)(hlv:lv.length=V+1)(a:Int)(pre:List bh.T)(hp:pre.length<=9000000) :
  LM (lv,((n6 n).map bq,(a,((0:Int),(pre,())))))=some (lv,((n6 n).map bq,(a,(pre++(ou lv (n6 n) a (n6 n).length).map bq,())))):=by
 have h6:=pJ hs;have hlen:=h6.len;unfold LM;delta u5;refine cu (fun k:Nat=>(lv,((n6 n).map bq,(a,((k:Int),(pre++(ou lv (n6 n) a k).map bq,())))))) (n6 n).length ?_ ?_ ?_ (bt (by omega))
 .have:ou lv (n6 n) a 0=[]:=rfl;rw[this,List.map_nil,dF];rfl
 .intro k hk;have hx:=aT hk;have hm:=List.getElem_mem hk;generalize (n6 n)[k]=x at hx hm;have hx':((n6 n).map bq)[k]?=some (bq x):=by rw[cg,hx];rfl
  have hi:=dL hx';have eH:x.2.to≠[]:=hs.D4 (by rw[<-oS];exact List.mem_map_of_mem hm);obtain⟨v,t,ev⟩:∃v t,x.2.to=v::t:=by match e:x.2.to with|[]=>exact absurd e eH|v::t=>exact⟨v,t,rfl⟩
  obtain⟨v0,v1⟩:=(h6.to x hm).2 v (by rw[ev];simp);obtain⟨u,hu⟩:=Int.eq_ofNat_of_zero_le v0;subst hu;have g0:gt (.int .i64) (gt bh ((n6 n).map bq) (k:Int)).2.2.2.2.1 (0:Int)=(u:Int):=by rw[aZ hx'];exact aZ (σ:=.int .i64) (i:=0) (by show x.2.to[0]?=_;rw[ev];rfl)
  have gl:lk lv x.2=aF lv u:=by unfold lk;rw[ev];rfl
  have g1:gt (.int .i64) lv (gt (.int .i64) (gt bh ((n6 n).map bq) (k:Int)).2.2.2.2.1 (0:Int))=lk lv x.2:=by rw[g0,gl];exact aZ (σ:=.int .i64) (sZ (by omega))
  have i0:aq (k:Int) (List.length ((n6 n).map bq))=true:=aK ⟨by omega,by omega⟩;have i1:aq (0:Int) (List.length (gt bh ((n6 n).map bq) (k:Int)).2.2.2.2.1)=true:=by rw[aZ hx'];exact aK ⟨by omega,by show _<((x.2.to.length:Nat):Int);rw[ev];simp⟩
  have i2:aq (gt (.int .i64) (gt bh ((n6 n).map bq) (k:Int)).2.2.2.2.1 (0:Int)) (List.length lv)=true:=by rw[g0];exact aK ⟨by omega,by omega⟩
  have gx:((gt bh ((n6 n).map bq) (k:Int)).1,((gt bh ((n6 n).map bq) (k:Int)).2.1,((gt bh ((n6 n).map bq) (k:Int)).2.2.1,((gt bh ((n6 n).map bq) (k:Int)).2.2.2.1,((gt bh ((n6 n).map bq) (k:Int)).2.2.2.2.1,())))))=bq x:=by rw[aZ hx'];rfl
  have la:=ag3 lv (n6 n) a k;have e:∀(u u':Int) (A B:List bh.T),u=u'->A=B->(some (.inl (lv,((n6 n).map bq,(a,(u,(A,())))))) :Option (TL BQ.σs⊕Out BE))=some (.inl (lv,((n6 n).map bq,(a,(u',(B,())))))):=by rintro _ _ _ _ rfl rfl;rfl
  try dsimp only
  unfold Cv;refine ao (ak (show(k:Int)<Int.ofNat (List.length ((n6 n).map bq)) by rw[aO];simp;omega)) (ai i0 (ai i1 (ai i2 ?_)));have st:ou lv (n6 n) a (k+1)=ou lv (n6 n) a k++(if lk lv x.2=a then[x]else[]):=by
   unfold ou;rw[cW hx,List.filter_append];congr 1;by_cases q:lk lv x.2=a
   .rw[if_pos q];simp[q]
   .rw[if_neg q];simp[q]
  by_cases q:lk lv x.2=a
  .rw[if_pos q]at st;refine ao (ak (g1.trans q)) (ai i0 (ai (aiJ _ _ (by rw[aW,aO];omega)) ?_));refine e _ _ _ _ (bG (by omega) (by omega)) ((congrArg (fun(z:bh.T)=>(pre++(ou lv (n6 n) a k).map bq)++[z]) gx).trans ?_);rw[st,dV];exact List.append_assoc (α:=bh.T) _ _ _
  .rw[if_neg q]at st;refine ag (aA (fun h=>q (g1.symm.trans h))) (e _ _ _ _ (bG (by omega) (by omega)) ?_);rw[st,dF]
 .try dsimp only
  unfold Cv;exact ag (aA (show ¬((n6 n).length:Int)<Int.ofNat (List.length ((n6 n).map bq)) by rw[aO];simp)) rfl
theorem aov{n:aD}{V:Nat}(hs:cO n V)(ft:Fit n)(h0:dM n=0) :
  aay (bz n,())=some (if fh (bc n) V then((aX n V).map bq,(true,()))else([],(false,()))):=by
 have eL:=Yo hs ft h0;have eN:=acL hs ft;have h6:=pJ hs;have hlen:=h6.len;by_cases ha:fh (bc n) V=true
 .rw[if_pos ha]at eL |-;have hlv:(lvl n V).length=V+1:=by
   have:∀(N:List Nd) (r:Nat) (out:List Int),(iB N r out).length=out.length:=by
    intro N r
    induction r with
    |zero=>intro out;rfl|succ r ih=>
     intro out;have hr:∀(N:List Nd) (out:List Int),(jh N out).length=out.length:=by
      intro N;unfold jh
      induction N with|nil=>intro out;rfl|cons x N ihN=>intro out;rw[List.foldl_cons,ihN,Ro]
     first|rw[iB,ih,hr]|rw[iB,hr,ih]
   unfold lvl;rw[this];unfold jf;rw[kW];simp
  let pt:Nat->List (bH×bF):=fun k=>(List.range k).flatMap fun(i:Nat)=>(n6 n).filter fun x=>decide (lk (lvl n V) x.2=(i:Int)+1)
  have pts:∀k,pt (k+1)=pt k++(n6 n).filter fun x=>decide (lk (lvl n V) x.2=(k:Int)+1):=fun k=>by show(List.range (k+1)).flatMap _=_;rw[List.range_succ,List.flatMap_append,List.flatMap_singleton]
  have ptl:∀k,(pt k).length<=k*3000:=by
   intro k
   induction k with|zero=>exact Nat.le_refl _|succ k ih=>rw[pts,aW];have:=List.length_filter_le (fun x:bH×bF=>decide (lk (lvl n V) x.2=(k:Int)+1)) (n6 n);omega
  have e7:aax (lvl n V,((n6 n).map bq,((1:Int),([],()))))=some ((aX n V).map bq,()):=by
   unfold aax;delta u4;refine cu (fun k:Nat=>(lvl n V,((n6 n).map bq,(((k+1:Nat):Int),((pt k).map bq,()))))) (n6 n).length rfl ?_ ?_ (bt (by omega))
   .intro k hk;have hp:=ptl k;have e10:=aji hs (lvl n V) hlv ((k+1:Nat):Int) ((pt k).map bq) (by rw[aO];have:k*3000<=3000*3000:=Nat.mul_le_mul_right _ (by omega);omega);have e:∀(u u':Int) (A B:List bh.T),u=u'->A=B->(some (.inl (lvl n V,((n6 n).map bq,(u,(A,()))))) :Option (TL Cc.σs⊕Out BP))=some (.inl (lvl n V,((n6 n).map bq,(u',(B,()))))):=by rintro _ _ _ _ rfl rfl;rfl
    try dsimp only
    unfold CF;refine ao (ak (show((k+1:Nat):Int)<=Int.ofNat (List.length ((n6 n).map bq)) by rw[aO];simp;omega)) (af e10 ?_);refine e _ _ _ _ (bG (n:=k+1+1) (show((k+1:Nat):Int)+1=_ by omega) (by omega)) ?_;rw[pts,dV];congr 2;unfold ou;rw[dt];rfl
   .try dsimp only
    unfold CF;exact ag (aA (show ¬(((n6 n).length+1:Nat):Int)<=Int.ofNat (List.length ((n6 n).map bq)) by rw[aO];simp;omega)) rfl
  exact af eL (ag rfl (af eN (af e7 rfl)))
 .rw[if_neg ha]at eL |-;exact af eL (ao rfl rfl)
def bB(l:Int)(v:List Bool):Bool:=if l<0 then false else(decide (l % 2=1)) != (decide (0<l / 2)&&(v.getD (l / 2).toNat false))
theorem afW{l:Int}(h:0<=l)(h2:l<9223372036854775808):mN .i64 l 1=l % 2:=by
 obtain⟨n,rfl⟩:=Int.eq_ofNat_of_zero_le h;unfold mN;have e:(BitVec.ofInt (IntKind.i64).bits (n:Int) &&& BitVec.ofInt (IntKind.i64).bits 1).toNat=n % 2:=by
  rw[BitVec.toNat_and,BitVec.toNat_ofInt,BitVec.toNat_ofInt];have e1:(((n:Int) % ((2^(IntKind.i64).bits:Nat):Int)).toNat)=n:=by rw[Int.emod_eq_of_lt (by omega) (by show(n:Int)<((2^64:Nat):Int);omega)];rfl
  rw[e1];show n &&& 1=n % 2;exact Nat.and_one_is_mod n
 rw[e,bZ (by omega)];omega
theorem afV{w:Int}(h:0<=w)(h2:w<18446744073709551616):mN .u64 w 1=w % 2:=by
 obtain⟨n,rfl⟩:=Int.eq_ofNat_of_zero_le h;unfold mN;have e:(BitVec.ofInt (IntKind.u64).bits (n:Int) &&& BitVec.ofInt (IntKind.u64).bits 1).toNat=n % 2:=by
  rw[BitVec.toNat_and,BitVec.toNat_ofInt,BitVec.toNat_ofInt];have e1:(((n:Int) % ((2^(IntKind.u64).bits:Nat):Int)).toNat)=n:=by rw[Int.emod_eq_of_lt (by omega) (by show(n:Int)<((2^64:Nat):Int);omega)];rfl
  rw[e1];show n &&& 1=n % 2;exact Nat.and_one_is_mod n
 rw[e,jU (by omega)];omega
theorem aiA{l:Int}(h:0<=l)(h2:l<9223372036854775808):acf (l,())=some (decide (l % 2=1),()):=by show Oi l=_;unfold Oi;rw[afW h h2];rfl
theorem ahH{l:Int}(h:0<=l):abi (l,())=some (decide (l % 2=1),()):=by show Nu l=_;unfold Nu;rw[Int.tmod_eq_emod_of_nonneg h];rfl
theorem aid{l:Int}(h:0<=l)(h2:l<9223372036854775808):rL (l,())=some (l / 2,()):=by show xI l=_;unfold xI;rw[Int.tdiv_eq_ediv_of_nonneg h,bZ (by omega)];rfl
theorem DR{v:List Bool}{i:Int}(h:0<=i):gt .bool v i=v.getD i.toNat false:=by unfold gt;rfl
theorem ry(l:Int)(v:List Bool)(h2:l<9223372036854775808):ka (l,(v,()))=some (bB l v,()):=by
 show Of acf xH l v=_;unfold Of bB;by_cases h:l<0
 .rw[if_pos h];exact ao (ak h) rfl
 .rw[if_neg h];refine ag (aA h) (af (Xa l) (af (aiA (by omega) h2) ?_));have e:∀a b c:Bool,b=c->(some (Bool.not (@decide _ (Bool.decEq a b)),()):Option (TL Dz))=some (a != c,()):=by rintro a b _ rfl;cases a<;>cases b<;>rfl
  by_cases h0:0<l / 2
  .refine ao (ak h0) ?_;by_cases h1:l / 2<(v.length:Int)
   .refine ao (ak h1) (ai (aK ⟨by omega,h1⟩) (e _ _ _ ?_));rw[bg h0];show gt .bool v (l / 2)=_;rw[DR (by omega)];rfl
   .refine ag (aA h1) (e _ _ _ ?_);rw[bg h0,dC,List.getElem?_eq_none (by omega)];rfl
  .refine ag (aA h0) (e _ _ _ ?_);rw[bU h0];rfl
theorem ru(l:Int)(v:List Bool)(h2:l<9223372036854775808):j8 (l,(v,()))=some (bB l v,()):=by
 show Ni abi rL l v=_;unfold Ni bB;by_cases h:l<0
 .rw[if_pos h];exact ao (ak h) rfl
 .rw[if_neg h];have hn:=ahH (l:=l) (by omega);refine ag (aA h) (af (aid (by omega) h2) ?_);have e:∀a b c:Bool,b=c->(some (Bool.not (@decide _ (Bool.decEq b a)),()):Option (TL CR))=some (a != c,()):=by rintro a b _ rfl;cases a<;>cases b<;>rfl
  by_cases h0:0<l / 2
  .refine ao (ak h0) ?_;by_cases h1:l / 2<(v.length:Int)
   .refine ao (ak h1) (ai (aK ⟨by omega,h1⟩) (af hn (e _ _ _ ?_)));rw[bg h0];show gt .bool v (l / 2)=_;rw[DR (by omega)];rfl
   .refine ag (aA h1) (af hn (e _ _ _ ?_));rw[bg h0,dC,List.getElem?_eq_none (by omega)];rfl
  .refine ag (aA h0) (af hn (e _ _ _ ?_));rw[bU h0];rfl
def cF:List Bool->Nat
 |[]=>0|b::l=>(if b then 1 else 0)+2*cF l
theorem Oq(l:List Bool)(b:Bool):cF (l++[b])=cF l+(if b then 2^l.length else 0):=by
 induction l with
 |nil=>cases b<;>rfl
 |cons c l ih=>rw[List.cons_append,cF,ih,cF,ca,Nat.pow_succ];cases b<;>simp<;>omega
theorem mg(l:List Bool):cF l<2^l.length:=by induction l with|nil=>decide|cons c l ih=>rw[cF,ca,Nat.pow_succ];split<;>omega
theorem Jf{i:Nat}(h:i<64):(2:Nat)^i<=9223372036854775808:=by have:(2:Nat)^i<=2^63:=Nat.pow_le_pow_right (by decide) (by omega);exact this
theorem UY{w i:Nat}(hi:i<64)(hw:w<2^i):tI .u64 (w:Int) (IntKind.wrap .u64 ((1:Int)*(HPow.hPow (2:Int) (Min.min (Int.toNat (i:Int)) 64))))=((w+2^i:Nat):Int):=by
 have hp:=Jf hi;have e1:((1:Int)*(HPow.hPow (2:Int) (Min.min (Int.toNat (i:Int)) 64)))=((2^i:Nat):Int):=by rw[Int.one_mul,Int.toNat_natCast,Nat.min_eq_left (by omega)];simp
 rw[e1,jU (by omega)];unfold tI;have e2:∀n:Nat,n<18446744073709551616->(BitVec.ofInt (IntKind.u64).bits (n:Int)).toNat=n:=by intro n hn;rw[BitVec.toNat_ofInt,Int.emod_eq_of_lt (by omega) (by show(n:Int)<((2^64:Nat):Int);omega)];rfl
 have e3:w ||| 2^i=w+2^i:=by rw[Nat.or_comm,Nat.add_comm];have:=Nat.two_pow_add_eq_or_of_lt hw 1;rw[Nat.mul_one]at this;exact this.symm
 rw[BitVec.toNat_or,e2 _ (by omega),e2 _ (by omega),e3,jU (by omega)]
theorem Oo(l:List Int)(v:List Bool)(hl:l.length<=64)(hr:∀x∈l,x<9223372036854775808):rl (l,(v,()))=some ((cF (l.map (bB · v)):Int),()):=by
 show NZ ka Dm l v=_;unfold NZ;have es:dj (iL (64:Int) (Int.ofNat (List.length l))) (64:Int) (Int.ofNat (List.length l))=(l.length:Int):=by have q:iL (64:Int) (Int.ofNat (List.length l))=false:=aA (by show ¬(64:Int)<(l.length:Int);omega);rw[q];rfl
 have et:List.take (Int.toNat (dj (iL (64:Int) (Int.ofNat (List.length l))) (64:Int) (Int.ofNat (List.length l)))) l=l:=by rw[es,Int.toNat_natCast,dt]
 have eL:Dm (v,((0:Int),(l,((l.length:Int),((0:Int),())))))=some ((cF (l.map (bB · v)):Int),()):=by
  unfold Dm;delta u5;refine cu (fun k:Nat=>(v,((cF ((l.take k).map (bB · v)):Int),(l,((l.length:Int),((k:Int),())))))) l.length rfl ?_ ?_ (bt (by omega))
  .intro k hk;have hx:=aT hk;have hm:=hr _ (List.getElem_mem hk)
   try dsimp only
   unfold Dn;have e1:=ry l[k] v hm;have e1':ka ((gt (.int .i64) l (k:Int)),(v,()))=some (bB l[k] v,()):=by rw[aZ (σ:=.int .i64) hx];exact e1
   have ht:(l.take (k+1)).map (bB · v)=(l.take k).map (bB · v)++[bB l[k] v]:=by rw[Pl.cW hx,dV];rfl
   have hk2:((l.take k).map (bB · v)).length=k:=by rw[aO,da];omega
   have hw:=mg ((l.take k).map (bB · v));rw[hk2]at hw;have e:∀(a b p q:Int),a=b->p=q->(some (.inl (v,(a,(l,((l.length:Int),(p,())))))):Option (TL Dc.σs⊕Out C9))=some (.inl (v,(b,(l,((l.length:Int),(q,())))))):=by rintro _ _ _ _ rfl rfl;rfl
   refine ao (ak (by omega)) (ai (aK ⟨by omega,by omega⟩) (af e1' ?_));rw[ht,Oq,hk2];cases hb:bB l[k] v
   .refine ag rfl (e _ _ _ _ ?_ (bG (by omega) (by omega)));rfl
   .refine ao rfl (ai (ak (by omega)) (e _ _ _ _ (UY (by omega) hw) (bG (by omega) (by omega))))
  .try dsimp only
   unfold Dn;rw[dt];exact ag (aA (by omega)) rfl
 refine ai ?_ ?_
 .rw[es];show both (decide _) (decide _)=true;rw[bg (by omega),bg (by show(l.length:Int)<=(l.length:Int);omega)];rfl
 .have eT:∀L:List Int,L=l->Dm (v,((0:Int),(L,((Int.ofNat (List.length L)),((0:Int),())))))=some ((cF (l.map (bB · v)):Int),()):=by rintro _ rfl;exact eL
  exact af (eT _ et) rfl
theorem OE(l:List Bool)(hl:l.length<=64):Di (l,())=some ((cF l:Int),()):=by
 have eL:MM (l,((0:Int),((1:Int),((0:Int),()))))=some ((cF l:Int),()):=by
  unfold MM;delta u4;refine cu (fun k:Nat=>(l,((cF (l.take k):Int),((if k=64 then(0:Int)else((2^k:Nat):Int)),((k:Int),()))))) l.length rfl ?_ ?_ (bt (by omega))
  .intro k hk;have hx:=aT hk;have ht:l.take (k+1)=l.take k++[l[k]]:=Pl.cW hx;have hk2:(l.take k).length=k:=by rw[da];omega
   have hw:=mg (l.take k);rw[hk2]at hw;have hp:=Jf (i:=k) (by omega);have e:∀(a b c c' p q:Int),a=b->c=c'->p=q->(some (.inl (l,(a,(c,(p,()))))):Option (TL Ct.σs⊕Out Ca))=some (.inl (l,(b,(c',(q,()))))):=by rintro _ _ _ _ _ _ rfl rfl rfl;rfl
   try dsimp only
   rw[if_neg (show ¬k=64 by omega)];unfold CQ;refine ao (ak (show(k:Int)<(l.length:Int) by omega)) (ao (ak (show(k:Int)<64 by omega)) (ai (aK ⟨by omega,by omega⟩) ?_));have g:gt .bool l (k:Int)=l[k]:=aZ (σ:=.bool) hx;have e2:IntKind.wrap .u64 (((2^k:Nat):Int)*(2:Int))=(if k+1=64 then(0:Int)else((2^(k+1):Nat):Int)):=by
    by_cases q:k+1=64
    .have:k=63:=by omega
     subst this;rfl
    .rw[if_neg q];have:=Jf (i:=k+1) (by omega);rw[Nat.pow_succ]at this |-;rw[jU (by omega)];omega
   rw[ht,Oq,hk2,g];cases l[k]
   .exact ag rfl (e _ _ _ _ _ _ rfl e2 (bG (by omega) (by omega)))
   .exact ao rfl (e _ _ _ _ _ _ (by rw[jU (by omega)];simp) e2 (bG (by omega) (by omega)))
  .try dsimp only
   unfold CQ;rw[dt];exact ag (aA (show ¬(l.length:Int)<(l.length:Int) by omega)) rfl
 show Nh MM l=_;unfold Nh;exact af eL rfl
theorem sX(P:List Bool)(z:Bool)(h:P.length<=10000000):room 1 (List.length (P++(z::[])))=true:=by rw[aW,ca,List.length_nil];exact ks (by omega) (by omega)
theorem Oe(l:List Int)(v:List Bool)(hl:l.length<=64)(hr:∀x∈l,x<9223372036854775808):q9 (l,(v,()))=some ((cF (l.map (bB · v)):Int),()):=by
 have eL:LJ (l,(v,((0:Int),([],()))))=some (l.map (bB · v),()):=by
  unfold LJ;delta u4;refine cu (fun k:Nat=>(l,(v,((k:Int),((l.take k).map (bB · v),()))))) l.length rfl ?_ ?_ (bt (by omega))
  .intro k hk;have hx:=aT hk;have hm:=hr _ (List.getElem_mem hk)
   try dsimp only
   unfold Cu;have e1:=ru l[k] v hm;have e1':j8 ((gt (.int .i64) l (k:Int)),(v,()))=some (bB l[k] v,()):=by rw[aZ (σ:=.int .i64) hx];exact e1
   have ht:(l.take (k+1)).map (bB · v)=(l.take k).map (bB · v)++[bB l[k] v]:=by rw[Pl.cW hx,dV];rfl
   have e:∀(a b:List Bool) (p q:Int),a=b->p=q->(some (.inl (l,(v,(p,(a,()))))):Option (TL BN.σs⊕Out BD))=some (.inl (l,(v,(q,(b,()))))):=by rintro _ _ _ _ rfl rfl;rfl
   exact ao (ak (show(k:Int)<(l.length:Int) by omega)) (ai (aK ⟨by omega,by omega⟩) (af e1' (ai (sX _ _ (by rw[aO,da];omega)) (e _ _ _ _ ht.symm (bG (by omega) (by omega))))))
  .try dsimp only
   unfold Cu;rw[dt];exact ag (aA (show ¬(l.length:Int)<(l.length:Int) by omega)) rfl
 show Mi Di j8 LJ l v=_;unfold Mi;exact af eL (af (OE _ (by rw[aO];exact hl)) rfl)
def di(w n:Nat):List Bool:=(List.range n).map fun i=>decide (w / 2^i % 2=1)
theorem kS(w n:Nat):(di w n).length=n:=by simp[di]
theorem ach(w n:Nat):di w (n+1)=di w n++[decide (w / 2^n % 2=1)]:=by unfold di;rw[List.range_succ,dV];rfl
theorem ail{q:Nat}(h:q<18446744073709551616):(iQ (mN .u64 (q:Int) (1:Int)) (1:Int))=decide (q % 2=1):=by rw[afV (by omega) (by omega)];show decide _=decide _;congr 1;apply propext;omega
theorem ah4(q:Nat):(iQ (Int.tmod (q:Int) (2:Int)) (1:Int))=decide (q % 2=1):=by rw[Int.tmod_eq_emod_of_nonneg (by omega)];show decide _=decide _;congr 1;apply propext;omega
theorem ah2{q:Nat}(h:q<18446744073709551616):IntKind.wrap .u64 (Int.tdiv (q:Int) (2:Int))=((q / 2:Nat):Int):=by rw[Int.tdiv_eq_ediv_of_nonneg (by omega),jU (by omega)];omega
theorem vk(w n:Nat)(hn:n<=64)(hw:w<18446744073709551616):mV ((w:Int),((n:Int),()))=some (di w n,()):=by
 have hb:Fv ((n:Int),())=some ((n:Int),()):=by
  show xT (n:Int)=_;unfold xT;have h1:dj (decide ((64:Int)<(n:Int))) (64:Int) (n:Int)=(n:Int):=by unfold dj;rw[bU (by omega)]
  have h2:dj (decide ((n:Int)<(0:Int))) (0:Int) (n:Int)=(n:Int):=by unfold dj;rw[bU (by omega)]
  show some (dj (decide (dj (decide ((64:Int)<(n:Int))) (64:Int) (n:Int)<0)) 0 (dj (decide ((64:Int)<(n:Int))) (64:Int) (n:Int)),())=_;rw[h1,h2]
 have eL:N2 ((w:Int),((n:Int),((0:Int),([],()))))=some (di w n,()):=by
  unfold N2;delta u4;refine cu (fun k:Nat=>((w:Int),((n:Int),((k:Int),(di w k,()))))) n rfl ?_ ?_ (bt (by omega))
  .intro k hk
   try dsimp only
   unfold Dt;have hd:Int.fdiv (w:Int) (HPow.hPow (2:Int) (Min.min (Int.toNat (k:Int)) 64))=((w / 2^k:Nat):Int):=by rw[Int.toNat_natCast,Nat.min_eq_left (by omega),Int.fdiv_eq_ediv_of_nonneg _ (Int.pow_nonneg (by decide))];simp
   have hlt:w / 2^k<=w:=Nat.div_le_self _ _;have hb:(iQ (mN .u64 (Int.fdiv (w:Int) (HPow.hPow (2:Int) (Min.min (Int.toNat (k:Int)) 64))) (1:Int)) (1:Int))=decide (w / 2^k % 2=1):=by rw[hd];exact ail (by omega)
   have e:∀(a b:List Bool) (p q:Int),a=b->p=q->(some (.inl ((w:Int),((n:Int),(p,(a,()))))):Option (TL Dh.σs⊕Out Dd))=some (.inl ((w:Int),((n:Int),(q,(b,()))))):=by rintro _ _ _ _ rfl rfl;rfl
   refine ao (ak (show(k:Int)<(n:Int) by omega)) (ai (ak (by omega)) (ai (sX _ _ (by rw[kS];omega)) (e _ _ _ _ ?_ (bG (by omega) (by omega)))));rw[ach];exact congrArg (fun b:Bool=>di w k++[b]) hb
  .try dsimp only
   unfold Dt;exact ag (aA (by omega)) rfl
 show N8 Fv N2 (w:Int) (n:Int)=_;unfold N8;exact af hb (af eL rfl)
theorem DI(w n:Nat)(hn:n<=64)(hw:w<18446744073709551616):oO ((w:Int),((n:Int),()))=some (di w n,()):=by
 have eL:Ml ((w:Int),((n:Int),((0:Int),([],()))))=some (di w n,()):=by
  unfold Ml;delta u4;refine cu (fun k:Nat=>(((w / 2^k:Nat):Int),((n:Int),((k:Int),(di w k,()))))) n (by rw[Nat.pow_zero,Nat.div_one];rfl) ?_ ?_ (bt (by omega))
  .intro k hk
   try dsimp only
   unfold CE;have hlt:w / 2^k<=w:=Nat.div_le_self _ _;have hb:(iQ (Int.tmod ((w / 2^k:Nat):Int) (2:Int)) (1:Int))=decide (w / 2^k % 2=1):=by exact ah4 _
   have hd:IntKind.wrap .u64 (Int.tdiv ((w / 2^k:Nat):Int) (2:Int))=((w / 2^(k+1):Nat):Int):=by rw[Nat.pow_succ,<-Nat.div_div_eq_div_mul];exact ah2 (by omega)
   have e:∀(a b:List Bool) (c d p q:Int),a=b->c=d->p=q->(some (.inl (c,((n:Int),(p,(a,()))))):Option (TL Cb.σs⊕Out BO))=some (.inl (d,((n:Int),(q,(b,()))))):=by rintro _ _ _ _ _ _ rfl rfl rfl;rfl
   refine ao (ak (show(k:Int)<(n:Int) by omega)) (ao (ak (show(k:Int)<64 by omega)) (ai (sX _ _ (by rw[kS];omega)) (e _ _ _ _ _ _ ?_ hd (bG (by omega) (by omega)))));rw[ach];exact congrArg (fun b:Bool=>di w k++[b]) hb
  .try dsimp only
   unfold CE;exact ag (aA (by omega)) rfl
 show MN Ml (w:Int) (n:Int)=_;unfold MN;exact af eL rfl
abbrev aN:=Int×Int×Unit
def o7(L:List aN):Prop:=L.Pairwise (fun p q=>p.1<q.1)
def rd(M:List aN)(k:Int):Int:=match M with|[]=>0|p::M=>match decide (p.1=k)with|true=>p.2.1|false=>rd M k
def kU(k v:Int)(M:List aN):List aN:=match M with|[]=>[(k,v,())]|p::M=>match decide (k<p.1)with|true=>(k,v,())::p::M|false=>match decide (p.1=k)with|true=>(k,v,())::M|false=>p::kU k v M
def mX(k:Int)(M:List aN):List aN:=match M with|[]=>[]|p::M=>match decide (p.1=k)with|true=>M|false=>p::mX k M
theorem IZ:∀(M:List aN) (k:Int),@mZ (.int .u64) M k=rd M k
 |[],k=>rfl|p::M,k=>congrArg (fun z:Int=>match decide (p.1=k)with|true=>p.2.1|false=>z) (IZ M k)
theorem OJ(k v:Int):∀(M:List aN),@dR (.int .u64) k v M=kU k v M
 |[]=>rfl|p::M=>congrArg (fun z:List aN=>match decide (k<p.1)with|true=>(k,v,())::p::M|false=>match decide (p.1=k)with|true=>(k,v,())::M|false=>p::z) (OJ k v M)
theorem OK(k:Int):∀(M:List aN),@jT (.int .u64) k M=mX k M
 |[]=>rfl|p::M=>congrArg (fun z:List aN=>match decide (p.1=k)with|true=>M|false=>p::z) (OK k M)
def wr(L:List aN)(a w:Int):List aN:=if w=0 then mX a L else kU a w L
theorem aiX{L:List aN}{a w:Int}(h:o7 L):o7 (wr L a w):=by
 unfold wr;split
 .exact OK a L▸W9 (σ:=.int .u64) (k:=a) h
 .exact OJ a w L▸yi (σ:=.int .u64) (k:=a) (v:=w) h
theorem OI(p:aN)(M:List aN)(a:Int):rd (p::M) a=if p.1=a then p.2.1 else rd M a:=by
 rw[rd];by_cases q:p.1=a
 .rw[bg q,if_pos q]
 .rw[bU q,if_neg q]
theorem wN(p:aN)(M:List aN)(a:Int):mX a (p::M)=if p.1=a then M else p::mX a M:=by
 rw[mX];by_cases q:p.1=a
 .rw[bg q,if_pos q]
 .rw[bU q,if_neg q]
theorem tD(p:aN)(M:List aN)(a w:Int):kU a w (p::M)=if a<p.1 then(a,w,())::p::M else if p.1=a then(a,w,())::M else p::kU a w M:=by
 rw[kU];by_cases q:a<p.1
 .rw[bg q,if_pos q]
 .rw[bU q,if_neg q];by_cases r:p.1=a
  .rw[bg r,if_pos r]
  .rw[bU r,if_neg r]
theorem Ox(a:Int):∀L:List aN,(mX a L).length<=L.length
 |[]=>Nat.le_refl _|p::M=>by rw[wN];have:=Ox a M;split<;>simp only[ca]<;>omega
theorem Ow(a w:Int):∀L:List aN,(kU a w L).length<=L.length+1
 |[]=>Nat.le_refl _|p::M=>by
  rw[tD];have:=Ow a w M;split
  .simp only[ca];omega
  .split<;>simp only[ca]<;>omega
theorem aiW(L:List aN)(a w:Int):(wr L a w).length<=L.length+1:=by unfold wr;have:=Ox a L;have:=Ow a w L;split<;>omega
theorem acH{a w:Int}{B:List aN}:∀{A:List aN},(∃p∈A,a<=p.1)->kU a w (A++B)=kU a w A++B
 |[],h=>by obtain⟨p,hp,_⟩:=h;cases hp
 |q::A,h=>by
  rw[List.cons_append,tD,tD];by_cases r:a<q.1
  .rw[if_pos r,if_pos r];rfl
  .rw[if_neg r,if_neg r];by_cases s:q.1=a
   .rw[if_pos s,if_pos s];rfl
   .rw[if_neg s,if_neg s,acH (A:=A)]
    .rfl
    .obtain⟨p,hp,h2⟩:=h;rcases List.mem_cons.1 hp with rfl|hp
     .omega
     .exact⟨p,hp,h2⟩
theorem Ov{a w:Int}{B:List aN}:∀{A:List aN},(∀p∈A,p.1<a)->kU a w (A++B)=A++kU a w B
 |[],h=>rfl|q::A,h=>by have:=h q (by simp);rw[List.cons_append,tD,if_neg (by omega),if_neg (by omega),Ov (A:=A) (fun p hp=>h p (by simp[hp]))];rfl
theorem acv{a:Int}{x:aN}:∀{A:List aN},o7 (A++[x])->mX a (A++[x])=mX a A++(if x.1=a then[]else[x])
 |[],h=>by rw[List.nil_append,wN];split<;>rfl|q::A,h=>by
  have h2:=List.pairwise_cons.1 h;have h1:=h2.1 x (by simp);rw[List.cons_append,wN,wN];by_cases r:q.1=a
  .rw[if_pos r,if_pos r,if_neg (by omega)]
  .rw[if_neg r,if_neg r,acv h2.2];rfl
def mo(a w:Int)(A:List aN):Bool:=decide (w=0)||A.any (fun p=>decide (a<=p.1))
def kJ(a w:Int)(A:List aN):List aN:=if w=0 then mX a A else if A.any (fun p=>decide (a<=p.1))=true then kU a w A else A
theorem acy(a w:Int)(A:List aN):(kJ a w A).length<=A.length+1:=by
 unfold kJ;have:=Ox a A;have:=Ow a w A;split
 .omega
 .split<;>omega
theorem acP(L:List aN)(a:Int)(hl:L.length<=100000):tu (L,(a,()))=some (rd L a,()):=by
 have hL:=mR (B:=fun d=>CP   d.1 d.2.1 d.2.2.1)
  (I:=fun d:List aN×Int×Int×Unit=>∃k:Nat,d=(L,(a,((k:Int),())))/\k<=L.length/\rd L a=rd (L.drop k) a)
  (Q:=fun o:Out wg=>o=.inl (rd L a,())\/(o=.inr ()/\rd L a=0))
  (μ:=fun d=>L.length-d.2.2.1.toNat) ?_ NN (L,(a,((0:Int),()))) ⟨0,rfl,by omega,by rw[List.drop_zero]⟩ (bt (by show L.length-_<=_;omega))
 .obtain⟨o,ho,hq⟩:=hL;have ho':aa0 (L,(a,((0:Int),())))=some o:=ho;show Ng aa0 L a=_;unfold Ng;rcases hq with rfl|⟨rfl,hz⟩
  .exact af ho' rfl
  .rw[hz];exact af ho' rfl
 .rintro _ ⟨k,rfl,hk,hr⟩
  try dsimp only
  unfold CP;by_cases q:k<L.length
  .have hx:=aT q;have hg:gt ar L (k:Int)=L[k]:=aZ (σ:=ar) hx;have hi:aq (k:Int) (List.length L)=true:=aK ⟨by omega,by omega⟩;rw[rq q,OI]at hr;by_cases r:L[k].1=a
   .left;rw[if_pos r]at hr;refine⟨_,ao (ak (show(k:Int)<(L.length:Int) by omega)) (ai hi (ao (ak (by rw[hg];exact r)) (ai hi rfl))),.inl ?_⟩;rw[hg,<-hr]
   .right;rw[if_neg r]at hr;have e:∀p q:Int,p=q->(some (.inl (L,(a,(p,())))):Option (TL Cr.σs⊕Out wg))=some (.inl (L,(a,(q,())))):=by rintro _ _ rfl;rfl
    refine⟨(L,(a,(((k+1:Nat):Int),()))),ao (ak (show(k:Int)<(L.length:Int) by omega)) (ai hi (ag (aA (by rw[hg];exact r)) (e _ _ (bG (by omega) (by omega))))),⟨k+1,rfl,by omega,hr⟩,?_⟩;show L.length-(((k+1:Nat):Int)).toNat<L.length-((k:Int)).toNat;omega
  .left;refine⟨_,ag (aA (show ¬(k:Int)<(L.length:Int) by omega)) rfl,.inr ⟨rfl,?_⟩⟩;rw[hr,List.drop_eq_nil_of_le (by omega)];rfl
theorem DG(P:List aN)(z:aN)(h:P.length<=10000000):room 16 (List.length (P++(z::[])))=true:=by rw[aW,ca,List.length_nil];exact ks (by omega) (by omega)
theorem wU{a:Int}{A:List aN}:A.any (fun p=>decide (a<=p.1))=true↔∃p∈A,a<=p.1:=by simp
theorem apj{a w:Int}{A:List aN}{x:aN}(h:o7 (A++[x])) :
  mo a w (A++[x])=(mo a w A||decide (a<=x.1)) /\
  kJ a w (A++[x])=(if mo a w A=false/\a<=x.1 then kJ a w A++[(a,w,())]else kJ a w A)++(if x.1=a then[]else[x]):=by
 have hlt:∀p∈A,p.1<x.1:=fun p hp=>(List.pairwise_append.1 h).2.2 p hp x (by simp);unfold mo kJ;by_cases h0:w=0
 .rw[bg h0,if_pos h0,if_pos h0];refine⟨rfl,?_⟩;rw[if_neg (by simp)];exact acv h
 .rw[bU h0,if_neg h0,if_neg h0];refine⟨by simp,?_⟩;by_cases h1:A.any (fun p=>decide (a<=p.1))=true
  .have h2:(A++[x]).any (fun p=>decide (a<=p.1))=true:=by rw[List.any_append,h1];rfl
   rw[if_pos h2,if_pos h1,if_neg (by rw[h1];simp),acH (wU.1 h1)];obtain⟨p,hp,hpa⟩:=wU.1 h1;have:=hlt p hp;rw[if_neg (by omega)]
  .have hf:A.any (fun p=>decide (a<=p.1))=false:=by simpa using h1
   have hA:∀p∈A,p.1<a:=fun p hp=>by
    rcases Classical.em (p.1<a)with q|q
    .exact q
    .exact absurd (wU.2 ⟨p,hp,by omega⟩) h1
   rw[if_neg h1,hf];by_cases hx:a<=x.1
   .have h2:(A++[x]).any (fun p=>decide (a<=p.1))=true:=wU.2 ⟨x,by simp,hx⟩;rw[if_pos h2,if_pos ⟨rfl,hx⟩,Ov hA,tD];by_cases q:a<x.1
    .rw[if_pos q,if_neg (by omega)];simp
    .rw[if_neg q,if_pos (by omega),if_pos (by omega)];simp[kU]
   .have h2:¬(A++[x]).any (fun p=>decide (a<=p.1))=true:=by rw[List.any_append,hf];simp;omega
    rw[if_neg h2,if_neg (by simp[hx]),if_neg (by omega)]
theorem aih{L:List aN}{a w:Int}:wr L a w=if mo a w L=true then kJ a w L else kJ a w L++[(a,w,())]:=by
 unfold wr mo kJ;by_cases h0:w=0
 .rw[bg h0,if_pos h0,if_pos h0];rfl
 .rw[bU h0,if_neg h0,if_neg h0];by_cases h1:L.any (fun p=>decide (a<=p.1))=true
  .rw[if_pos h1,h1];rfl
  .have hf:L.any (fun p=>decide (a<=p.1))=false:=by simpa using h1
   rw[if_neg h1,hf];have hA:∀p∈L,p.1<a:=fun p hp=>by
    rcases Classical.em (p.1<a)with q|q
    .exact q
    .exact absurd (wU.2 ⟨p,hp,by omega⟩) h1
   have:=Ov (a:=a) (w:=w) (B:=[]) hA;rw[dF]at this;rw[this];rfl
theorem ao9(L:List aN)(a w:Int)(hl:L.length<=100000)(hs:o7 L):aap (L,(a,(w,())))=some (wr L a w,()):=by
 have eL:Mh (L,(a,(w,((iQ w (0:Int)),((0:Int),([],()))))))=some (a,(w,(mo a w L,(kJ a w L,())))):=by
  unfold Mh;delta u6;refine cu (fun k:Nat=>(L,(a,(w,(mo a w (L.take k),((k:Int),(kJ a w (L.take k),()))))))) L.length ?_ ?_ ?_ (bt (by omega))
  .have e1:mo a w (L.take 0)=iQ w (0:Int):=by unfold mo;rw[List.take_zero];simp
   have e2:kJ a w (L.take 0)=[]:=by unfold kJ;rw[List.take_zero];split<;>rfl
   rw[e1,e2];rfl
  .intro k hk;have hx:=aT hk;have hg:gt ar L (k:Int)=L[k]:=aZ (σ:=ar) hx;have hi:aq (k:Int) (List.length L)=true:=aK ⟨by omega,by omega⟩;have ht:L.take (k+1)=L.take k++[L[k]]:=Pl.cW hx;have hsk:o7 (L.take k++[L[k]]):=by rw[<-ht];exact List.Pairwise.sublist (List.take_sublist _ _) hs
   obtain⟨p1,p2⟩:=apj (a:=a) (w:=w) hsk;rw[<-ht]at p1 p2;have hlen:=acy a w (L.take k);have hlk:(L.take k).length<=100000:=by rw[da];omega
   have e:∀(b b':Bool) (p q:Int) (A B:List aN),b=b'->p=q->A=B->(some (.inl (L,(a,(w,(b,(p,(A,()))))))):Option (TL B9.σs⊕Out BM))=some (.inl (L,(a,(w,(b',(q,(B,()))))))):=by rintro _ _ _ _ _ _ rfl rfl rfl;rfl
   have hk1:IntKind.wrap .i64 ((k:Int)+(1:Int))=((k+1:Nat):Int):=bG (by omega) (by omega);have ga:(gt ar L (k:Int)).1=L[k].1:=by rw[hg]
   have gx:(((gt ar L (k:Int)).1,((gt ar L (k:Int)).2.1,())):aN)=L[k]:=by rw[hg]
   try dsimp only
   unfold CD;refine ao (ak (show(k:Int)<(L.length:Int) by omega)) ?_;generalize mo a w (L.take k)=b at p1 p2;generalize kJ a w (L.take k)=O at p2 hlen;rw[p1];have r1:=DG O (a,(w,())) (by omega);have r3:∀z,room 16 (List.length (O++(z::[])))=true:=fun z=>DG O z (by omega);have r2:∀z,room 16 (List.length ((O++((a,(w,()))::[]))++(z::[])))=true:=fun z=>DG _ z (by rw[aW,ca,List.length_nil];omega);cases b with
   |false=>
    refine ao rfl (ai hi ?_);by_cases q:a<=L[k].1
    .have q':(iE a (gt ar L (k:Int)).1)=true:=ak (by rw[ga];exact q);rw[if_pos ⟨rfl,q⟩]at p2;refine ao (by rw[q'];rfl) (ai r1 (ai hi ?_));by_cases r:L[k].1=a
     .have r':(iQ (gt ar L (k:Int)).1 a)=true:=ak (by rw[ga];exact r);rw[if_pos r,dF]at p2;exact ag (by rw[r'];rfl) (e _ _ _ _ _ _ (by rw[bg q];rfl) hk1 p2.symm)
     .have r':(iQ (gt ar L (k:Int)).1 a)=false:=aA (by rw[ga];exact r);rw[if_neg r]at p2;exact ao (by rw[r'];rfl) (ai hi (ai (r2 _) (e _ _ _ _ _ _ (by rw[bg q];rfl) hk1 ((congrArg (fun z:aN=>(O++[(a,w,())])++[z]) gx).trans p2.symm))))
    .have q':(iE a (gt ar L (k:Int)).1)=false:=aA (by rw[ga];exact q);rw[if_neg (by simp[q])]at p2;refine ag (by rw[q'];rfl) (ai hi ?_);by_cases r:L[k].1=a
     .omega
     .have r':(iQ (gt ar L (k:Int)).1 a)=false:=aA (by rw[ga];exact r);rw[if_neg r]at p2;exact ao (by rw[r'];rfl) (ai hi (ai (r3 _) (e _ _ _ _ _ _ (by rw[bU q];rfl) hk1 ((congrArg (fun z:aN=>O++[z]) gx).trans p2.symm))))
   |true=>
    rw[if_neg (by simp)]at p2;refine ag rfl (ai hi ?_);by_cases r:L[k].1=a
    .have r':(iQ (gt ar L (k:Int)).1 a)=true:=ak (by rw[ga];exact r);rw[if_pos r,dF]at p2;exact ag (by rw[r'];rfl) (e _ _ _ _ _ _ rfl hk1 p2.symm)
    .have r':(iQ (gt ar L (k:Int)).1 a)=false:=aA (by rw[ga];exact r);rw[if_neg r]at p2;exact ao (by rw[r'];rfl) (ai hi (ai (r3 _) (e _ _ _ _ _ _ rfl hk1 ((congrArg (fun z:aN=>O++[z]) gx).trans p2.symm))))
  .try dsimp only
   unfold CD;rw[dt];exact ag (aA (show ¬(L.length:Int)<(L.length:Int) by omega)) rfl
 have hlen:=acy a w L;have r1:=DG (kJ a w L) (a,(w,())) (by omega);show MJ Mh L a w=_;unfold MJ;refine af eL ?_;have hw:=aih (L:=L) (a:=a) (w:=w);cases hb:mo a w L with|false=>rw[hb,if_neg (by simp)]at hw;rw[hw];exact ao rfl (ai r1 rfl)|true=>rw[hb,if_pos rfl]at hw;rw[hw];exact ag rfl rfl
