import Derived.Test.YtkcpdpplobhpaaaGreatJRa
import Derived.Test.YtkcpdpplobhpaaaGreatJSb
set_option linter.unusedVariables false
set_option linter.unusedSimpArgs false
set_option linter.unnecessarySimpa false
section
namespace Go.Proofs.YtkcpdpplobhpaaaGreat.Pl
section
variable{α:Type}(key:α->Int)
def dC(L:List α):Prop:=L.Pairwise (fun x y=>key x<=key y)
def fk(k:Int)(L:List α):List α:=L.filter (fun x=>decide (key x=k))
structure cr(S S':List α):Prop where
 nD:dC key S'
 len:S'.length=S.length
 oq:∀k,fk key k S'=fk key k S
variable{key}
theorem ku(k:Int)(A B:List α):fk key k (A++B)=fk key k A++fk key k B:=List.filter_append A B
theorem RS{k:Int}{L:List α}{x:α}:x∈fk key k L↔x∈L/\key x=k:=by unfold fk;simp
theorem RG{k:Int}{L:List α}(h:∀x∈L,key x≠k):fk key k L=[]:=by unfold fk;rw[List.filter_eq_nil_iff];intro x hx;simpa using h x hx
theorem YD{S S':List α}(h:∀k,fk key k S'=fk key k S){x:α}(hx:x∈S'):x∈S:=by have:x∈fk key (key x) S':=RS.2 ⟨hx,rfl⟩;rw[h]at this;exact(RS.1 this).1
theorem cr.mem{S S':List α}(h:cr key S S'){x:α}:x∈S'↔x∈S:=⟨YD h.oq,YD (fun k=>(h.oq k).symm)⟩
theorem cr.refl{S:List α}(h:dC key S):cr key S S:=⟨h,rfl,fun _=>rfl⟩
theorem kX{A B:List α}:dC key (A++B)↔dC key A/\dC key B/\∀x∈A,∀y∈B,key x<=key y:=by unfold dC;rw[List.pairwise_append]
theorem KY{x:α}{B:List α}:dC key (x::B)↔(∀y∈B,key x<=key y)/\dC key B:=by unfold dC;rw[List.pairwise_cons]
theorem YX{A B:List α}(h:∀x∈A,∀y∈B,key y<key x)(k:Int):fk key k (A++B)=fk key k (B++A):=by
 rw[ku,ku];by_cases q:∃x∈A,key x=k
 .obtain⟨x,hx,hk⟩:=q;have:fk key k B=[]:=RG (fun y hy=>by have:=h x hx y hy;omega);rw[this];simp
 .have:fk key k A=[]:=RG (fun x hx hk=>q ⟨x,hx,hk⟩);rw[this];simp
theorem KQ{T0 T1 T2:List α}{x:α}(h:cr key T0 (T1++T2))(h1:∀y∈T1,key y<=key x)(h2:∀y∈T2,key x<key y):cr key (T0++[x]) (T1++x::T2):=by
 obtain⟨s1,s2,s3⟩:=kX.1 h.nD;refine⟨?_,?_,?_⟩
 .refine kX.2 ⟨s1,KY.2 ⟨fun y hy=>Int.le_of_lt (h2 y hy),s2⟩,?_⟩;intro a ha b hb;rcases List.mem_cons.1 hb with rfl|hb
  .exact h1 a ha
  .exact s3 a ha b hb
 .have:=h.len;simp only[List.length_append,List.length_cons,List.length_nil]at *
  omega
 .intro k;have e:fk key k (x::T2)=fk key k (T2++[x]):=by have:=YX (key:=key) (A:=T2) (B:=[x]) (fun a ha b hb=>by simp at hb;subst hb;exact h2 a ha) k;rw[this];rfl
  rw[ku,e,ku,<-List.append_assoc,<-ku,h.oq,<-ku]
theorem aev{A B A' B':List α}(ha:cr key A A')(hb:cr key B B')(h:∀x∈A,∀y∈B,key x<=key y):cr key (A++B) (A'++B'):=by
 refine⟨kX.2 ⟨ha.nD,hb.nD,fun x hx y hy=>h x (ha.mem.1 hx) y (hb.mem.1 hy)⟩,?_,?_⟩
 .have:=ha.len;have:=hb.len;simp only[List.length_append];omega
 .intro k;rw[ku,ku,ha.oq,hb.oq]
theorem cr.SC{A B C:List α}(hl:B.length=A.length)(h:∀k,fk key k B=fk key k A)(g:cr key B C):cr key A C:=⟨g.nD,g.len.trans hl,fun k=>(g.oq k).trans (h k)⟩
theorem BE{P1 P2 Q1 Q2 R1 R2:List α}(hp:dC key (P1++P2))(hq:dC key (Q1++Q2))(h1:∀x∈P1,∀y∈Q2,key x<=key y)(h2:∀x∈P2,∀y∈Q1,key y<key x)
  (r1:cr key (P1++Q1) R1) (r2:cr key (P2++Q2) R2):cr key ((P1++P2)++(Q1++Q2)) (R1++R2):=by
 obtain⟨p1,p2,p3⟩:=kX.1 hp;obtain⟨q1,q2,q3⟩:=kX.1 hq;refine cr.SC (B:=(P1++Q1)++(P2++Q2)) ?_ ?_ (aev r1 r2 ?_)
 .simp only[List.length_append];omega
 .intro k;have e:=YX (key:=key) (A:=P2) (B:=Q1) h2 k;rw[ku,ku]at e;simp only[ku,List.append_assoc];rw[<-List.append_assoc (fk key k Q1),<-e,List.append_assoc]
 .intro x hx y hy;rcases List.mem_append.1 hx with hx|hx<;>rcases List.mem_append.1 hy with hy|hy
  .exact p3 x hx y hy
  .exact h1 x hx y hy
  .exact Int.le_of_lt (h2 y hy x hx)
  .exact q3 x hx y hy
theorem ado{S:List α}(h:dC key S):∀(n:Nat),(∀x∈S,1<=key x/\key x<=(n:Int))->S=(List.range n).flatMap (fun(i:Nat)=>fk key ((i:Int)+1) S):=by
 intro n
 induction n generalizing S with
 |zero=>intro hb;cases S with|nil=>rfl|cons x S=>have:=hb x (by simp);omega
 |succ n ih=>
  intro hb;have split:∀{S:List α},dC key S->(∀x∈S,key x<=((n+1:Nat):Int))->S=S.filter (fun x=>decide (key x<=(n:Int)))++fk key ((n:Int)+1) S:=by
   intro S
   induction S with
   |nil=>intro _ _;rfl|cons x S ihS=>
    intro hs hb;obtain⟨a,b⟩:=KY.1 hs;have e:=ihS b (fun y hy=>hb y (by simp[hy]));by_cases q:key x<=(n:Int)
    .unfold fk;rw[List.filter_cons_of_pos (by simpa using q),List.filter_cons_of_neg (by simp;omega)];have e':=congrArg (List.cons x) e;exact e'
    .have hk:key x=(n:Int)+1:=by have:=hb x (by simp);omega
     have all:∀y∈S,key y=(n:Int)+1:=fun y hy=>by have:=a y hy;have:=hb y (by simp[hy]);omega
     have f0:S.filter (fun x=>decide (key x<=(n:Int)))=[]:=by rw[List.filter_eq_nil_iff];intro y hy;have:=all y hy;simp;omega
     have f1:fk key ((n:Int)+1) S=S:=by unfold fk;rw[List.filter_eq_self];intro y hy;simpa using all y hy
     have g0:(x::S).filter (fun x=>decide (key x<=(n:Int)))=[]:=by rw[List.filter_cons_of_neg (by simp;omega),f0]
     have g1:fk key ((n:Int)+1) (x::S)=x::fk key ((n:Int)+1) S:=by unfold fk;rw[List.filter_cons_of_pos (by simpa using hk)]
     rw[g0,g1,f1];rfl
  have e:=split h (fun x hx=>(hb x hx).2);have hs':dC key (S.filter (fun x=>decide (key x<=(n:Int)))):=List.Pairwise.filter _ h;have ih':=ih hs' (fun x hx=>by have:=List.mem_filter.1 hx;exact⟨(hb x this.1).1,by simpa using this.2⟩);rw[List.range_succ,List.flatMap_append,List.flatMap_singleton];have e2:(List.range n).flatMap (fun(i:Nat)=>fk key ((i:Int)+1) S)=(List.range n).flatMap (fun(i:Nat)=>fk key ((i:Int)+1) (S.filter (fun x=>decide (key x<=(n:Int))))):=by
   have:∀(l:List Nat),(∀i∈l,i<n)->l.flatMap (fun(i:Nat)=>fk key ((i:Int)+1) S)=l.flatMap (fun(i:Nat)=>fk key ((i:Int)+1) (S.filter (fun x=>decide (key x<=(n:Int))))):=by
    intro l
    induction l with
    |nil=>intro _;rfl|cons i l il=>
     intro hi;rw[List.flatMap_cons,List.flatMap_cons,il (fun j hj=>hi j (by simp[hj]))];congr 1;unfold fk;rw[List.filter_filter];apply List.filter_congr;intro x hx;have:=hi i (by simp);by_cases q:key x=(i:Int)+1
     .have:key x<=(n:Int):=by omega
      simp[q];omega
     .simp[q]
   exact this _ (fun i hi=>List.mem_range.1 hi)
  rw[e2,<-ih'];exact e
theorem cr.flat{S S':List α}(h:cr key S S')(n:Nat)(hb:∀x∈S,1<=key x/\key x<=(n:Int)):S'=(List.range n).flatMap (fun(i:Nat)=>fk key ((i:Int)+1) S):=by
 have e:=ado h.nD n (fun x hx=>hb x (h.mem.1 hx));rw[e];have:∀(l:List Nat),l.flatMap (fun(i:Nat)=>fk key ((i:Int)+1) S')=l.flatMap (fun(i:Nat)=>fk key ((i:Int)+1) S):=by
  intro l
  induction l with|nil=>rfl|cons i l il=>rw[List.flatMap_cons,List.flatMap_cons,il,h.oq]
 rw[<-e];exact e.trans (this _)
end
end Go.Proofs.YtkcpdpplobhpaaaGreat.Pl
end
section
namespace Go.Proofs.YtkcpdpplobhpaaaGreat.V
open Go Go.RowKit
theorem bG{x:Int}{n:Nat}(e:x=(n:Int))(h:n<=1000000000):IntKind.wrap .i64 x=(n:Int):=by rw[e];exact bK (by omega)
theorem tK{σ:Sh}{X Z:List σ.T}{p:σ.T}{u:Nat}(hu:X.length=u):gt σ (X++p::Z) (u:Int)=p:=by refine bn ?_;rw[List.getElem?_append_right (by omega),hu];simp
theorem sM{α:Type}{X Z:List α}{p q:α}{u:Nat}(hu:X.length=u):(X++p::Z).set u q=X++q::Z:=by rw[List.set_append_right _ _ (by omega),hu];simp
theorem sw2{α:Type}{X M Y:List α}{p q:α}{u v:Nat}(hu:X.length=u)(hv:X.length+1+M.length=v):((X++p::(M++q::Y)).set u q).set v p=X++q::(M++p::Y):=by
 rw[sM hu];have e:X++q::(M++q::Y)=(X++q::M)++q::Y:=by simp
 rw[e,sM (by simp;omega)];simp
theorem qk{α:Type}{L:List α}{i:Nat}(h:i<L.length):L.drop i=L[i]::L.drop (i+1):=List.drop_eq_getElem_cons h
theorem YH{R:Type}{L X M Y:List aZ}{p q:aZ}{u v:Nat}(hL:L=X++p::(M++q::Y))(hu:X.length=u)(hv:X.length+1+M.length=v){U V:Int}(eU:U=(u:Int))(eV:V=(v:Int)){y z:Option R}
  (h:List.set (List.set L (Int.toNat U) ((gt ah L V).1,((gt ah L V).2.1,((gt ah L V).2.2.1,())))) (Int.toNat V) ((gt ah L U).1,((gt ah L U).2.1,((gt ah L U).2.2.1,())))=X++q::(M++p::Y)->y=z) :
  (ai (aw V (List.length L)) <|ai (aw U (List.length L)) <|ai (aw U (List.length L)) <|ai (aw V (List.length (List.set L (Int.toNat U) ((gt ah L V).1,((gt ah L V).2.1,((gt ah L V).2.2.1,())))))) <|y)=z:=by
 subst hL;subst eU;subst eV;have hlen:List.length (X++p::(M++q::Y))=X.length+(1+(M.length+(1+Y.length))):=by simp;omega
 have gu:gt ah (X++p::(M++q::Y)) (u:Int)=p:=tK hu;have gv:gt ah (X++p::(M++q::Y)) (v:Int)=q:=by
  have e:X++p::(M++q::Y)=(X++p::M)++q::Y:=by simp
  rw[e];exact tK (by simp;omega)
 have i1:aw (v:Int) (List.length (X++p::(M++q::Y)))=true:=aN ⟨by omega,by rw[hlen];omega⟩;have i2:aw (u:Int) (List.length (X++p::(M++q::Y)))=true:=aN ⟨by omega,by rw[hlen];omega⟩;have hs:∀z:aZ,aw (v:Int) (List.length (List.set (X++p::(M++q::Y)) (Int.toNat (u:Int)) z))=true:=fun z=>(congrArg (aw (v:Int)) List.length_set).trans i1;refine ak i1 (ak i2 (ak i2 (ak (hs _) (h ?_))));rw[gu,gv,Int.toNat_natCast,Int.toNat_natCast];exact sw2 hu hv
theorem alk(W:jf)(X P M Q Y:List aZ)(a b n:Nat)(ha:X.length=a)(hp:P.length=n)(hq:Q.length=n)(hb:X.length+P.length+M.length=b)(hl:b+n<=1000000) :
  Vt ((a:Int),((b:Int),((n:Int),((0:Int),(X++(P++(M++(Q++Y))),W)))))=some (X++(Q++(M++(P++Y))),W):=by
 unfold Vt;delta u16;refine cP (fun i:Nat=>((a:Int),((b:Int),((n:Int),((i:Int),(X++(Q.take i++(P.drop i++(M++(P.take i++(Q.drop i++Y))))),W)))))) n rfl ?_ ?_ (bA (by omega))
 .intro i hi
  try dsimp only
  unfold zL;have hpi:i<P.length:=by omega
  have hqi:i<Q.length:=by omega
  refine ao (aj (show(i:Int)<(n:Int) by omega)) ?_;refine YH (X:=X++Q.take i) (p:=P[i]) (M:=P.drop (i+1)++(M++P.take i)) (q:=Q[i]) (Y:=Q.drop (i+1)++Y) (u:=a+i) (v:=b+i) ?_ ?_ ?_ ?_ ?_ (fun hset=>?_)
  .rw[qk hpi,qk hqi];simp only[List.append_assoc,List.cons_append]
  .simp;omega
  .simp;omega
  .exact bG (by omega) (by omega)
  .exact bG (by omega) (by omega)
  .refine ak (aj rfl) (ak (aj rfl) (ak (aj rfl) ?_));have e:∀(u v:Int) (A B:List aZ),u=v->A=B->(some (.inl ((a:Int),((b:Int),((n:Int),(u,(A,W)))))):Option (TL zF.σs⊕Out zy))=some (.inl ((a:Int),((b:Int),((n:Int),(v,(B,W)))))):=by rintro _ _ _ _ rfl rfl;rfl
   refine e _ _ _ _ (bG (n:=i+1) (by omega) (by omega)) (hset.trans ?_);rw[List.take_succ_eq_append_getElem hpi,List.take_succ_eq_append_getElem hqi];simp only[List.append_assoc,List.cons_append,List.nil_append]
 .try dsimp only
  unfold zL;refine af (av (show ¬(n:Int)<(n:Int) by omega)) ?_;have e1:P.drop n=[]:=List.drop_eq_nil_of_le (by omega);have e2:Q.drop n=[]:=List.drop_eq_nil_of_le (by omega);have e3:P.take n=P:=List.take_of_length_le (by omega);have e4:Q.take n=Q:=List.take_of_length_le (by omega);rw[e1,e2,e3,e4];rfl
theorem K5(W:jf)(X P M Q Y:List aZ){A B N:Int}(a b n:Nat)(eA:A=(a:Int))(eB:B=(b:Int))(eN:N=(n:Int))(ha:X.length=a)(hp:P.length=n)(hq:Q.length=n)(hb:X.length+P.length+M.length=b)(hl:b+n<=1000000){L:List aZ}(hL:L=X++(P++(M++(Q++Y)))) :
  Vu (A,(B,(N,(L,W))))=some (X++(Q++(M++(P++Y))),W):=by
 subst eA;subst eB;subst eN;subst hL;exact ag (alk W X P M Q Y a b n ha hp hq hb hl) rfl
theorem adm(W:jf)(m:Nat)(G:List aZ)(hG:G.length<=400000){X P Q Y:List aZ}(hp:0<P.length)(hq:0<Q.length)(hm:X.length+P.length=m)(hg:X++(Q++(P++Y))=G) :
  ∃o,IP ((m:Int),((P.length:Int),((Q.length:Int),(X++(P++(Q++Y)),W))))=some o /\
   ∃X P Q Y:List aZ,o=((m:Int),((P.length:Int),(X++(P++(Q++Y)),W)))/\Q.length=P.length/\X.length+P.length=m/\X++(Q++(P++Y))=G:=by
 unfold IP;delta dV;refine lQ (fun d=>∃X P Q Y:List aZ,d=((m:Int),((P.length:Int),((Q.length:Int),(X++(P++(Q++Y)),W))))/\0<P.length/\0<Q.length/\X.length+P.length=m/\X++(Q++(P++Y))=G)
  (fun o=>∃X P Q Y:List aZ,o=((m:Int),((P.length:Int),(X++(P++(Q++Y)),W)))/\Q.length=P.length/\X.length+P.length=m/\X++(Q++(P++Y))=G)
  (fun d=>d.2.1.toNat+d.2.2.1.toNat) ?_ NN _ ⟨X,P,Q,Y,rfl,hp,hq,hm,hg⟩ (bA (by have:=congrArg List.length hg;simp only[List.length_append]at this;show((P.length:Int)).toNat+((Q.length:Int)).toNat<=_;omega))
 rintro d ⟨X,P,Q,Y,rfl,hp,hq,hm,hg⟩;have hlen:X.length+(Q.length+(P.length+Y.length))<=400000:=by have:=congrArg List.length hg;simp only[List.length_append]at this;omega
 try dsimp only
 unfold IU;rcases Nat.lt_trichotomy P.length Q.length with h|h|h
 .-- the second one is longer
  right;obtain⟨Q1,Q2,hQ,h1,h2⟩:∃Q1 Q2:List aZ,Q=Q1++Q2/\Q1.length=Q.length-P.length/\Q2.length=P.length:=⟨Q.take (Q.length-P.length),Q.drop (Q.length-P.length),(List.take_append_drop _ _).symm,by simp,by simp;omega⟩;have es:=K5 W X P Q1 Q2 Y (A:=IntKind.wrap .i64 ((m:Int)-(P.length:Int))) (B:=IntKind.wrap .i64 ((IntKind.wrap .i64 ((m:Int)+(Q.length:Int)))-(P.length:Int))) (N:=(P.length:Int)) X.length (m+Q.length-P.length) P.length
   (bG (by omega) (by omega)) (by rw[bG (x:=(m:Int)+(Q.length:Int)) (n:=m+Q.length) (by omega) (by omega)];exact bG (by omega) (by omega)) rfl rfl rfl h2 (by omega) (by omega) (L:=X++(P++(Q++Y))) (by rw[hQ];simp only[List.append_assoc])
  refine⟨((m:Int),((Q2.length:Int),((Q1.length:Int),(X++(Q2++(Q1++(P++Y))),W)))),?_,⟨X,Q2,Q1,P++Y,rfl,by omega,by omega,by omega,?_⟩,?_⟩
  .refine ao (fD (av (show ¬(P.length:Int)=(Q.length:Int) by omega))) (af (av (show ¬(Q.length:Int)<(P.length:Int) by omega)) (ag es ?_));have e:∀(u v u' v':Int) (A:List aZ),u=u'->v=v'->(some (.inl ((m:Int),(u,(v,(A,W))))):Option (TL uX.σs⊕Out uV))=some (.inl ((m:Int),(u',(v',(A,W))))):=by rintro _ _ _ _ _ rfl rfl;rfl
   exact e _ _ _ _ _ (by omega) (bG (by omega) (by omega))
  .rw[<-hg,hQ];simp only[List.append_assoc]
  .show((Q2.length:Int)).toNat+((Q1.length:Int)).toNat<((P.length:Int)).toNat+((Q.length:Int)).toNat;omega
 .left;refine⟨((m:Int),((P.length:Int),(X++(P++(Q++Y)),W))),af (df (aj (show(P.length:Int)=(Q.length:Int) by omega))) rfl,X,P,Q,Y,rfl,h.symm,hm,hg⟩
 .-- the first one is longer
  right;obtain⟨P1,P2,hP,h1,h2⟩:∃P1 P2:List aZ,P=P1++P2/\P1.length=Q.length/\P2.length=P.length-Q.length:=⟨P.take Q.length,P.drop Q.length,(List.take_append_drop _ _).symm,by simp;omega,by simp⟩;have es:=K5 W X P1 P2 Q Y (A:=IntKind.wrap .i64 ((m:Int)-(P.length:Int))) (B:=(m:Int)) (N:=(Q.length:Int)) X.length m Q.length
   (bG (by omega) (by omega)) rfl rfl rfl h1 rfl (by omega) (by omega) (L:=X++(P++(Q++Y))) (by rw[hP];simp only[List.append_assoc])
  refine⟨((m:Int),((P2.length:Int),((P1.length:Int),((X++Q)++(P2++(P1++Y)),W)))),?_,⟨X++Q,P2,P1,Y,rfl,by omega,by omega,by simp only[List.length_append];omega,?_⟩,?_⟩
  .refine ao (fD (av (show ¬(P.length:Int)=(Q.length:Int) by omega))) (ao (aj (show(Q.length:Int)<(P.length:Int) by omega)) (ag es ?_));have e:∀(u v u' v':Int) (A A':List aZ),u=u'->v=v'->A=A'->(some (.inl ((m:Int),(u,(v,(A,W))))):Option (TL uX.σs⊕Out uV))=some (.inl ((m:Int),(u',(v',(A',W))))):=by rintro _ _ _ _ _ _ rfl rfl rfl;rfl
   exact e _ _ _ _ _ _ (bG (by omega) (by omega)) (by omega) (by simp only[List.append_assoc])
  .rw[<-hg,hP];simp only[List.append_assoc]
  .show((P2.length:Int)).toNat+((P1.length:Int)).toNat<((P.length:Int)).toNat+((Q.length:Int)).toNat;omega
theorem afn(W:jf){X P Q Y L:List aZ}{A M B:Int}(hp:0<P.length)(hq:0<Q.length)(eA:A=(X.length:Int))(eM:M=((X.length+P.length:Nat):Int))(eB:B=((X.length+P.length+Q.length:Nat):Int))(hl:L.length<=400000)(hL:L=X++(P++(Q++Y))) :
  zY (A,(M,(B,(L,W))))=some (X++(Q++(P++Y)),W):=by
 subst eA;subst eM;subst eB;subst hL;have hlen:X.length+(P.length+(Q.length+Y.length))<=400000:=by simpa only[List.length_append]using hl
 obtain⟨o,e1,X',P',Q',Y',rfl,h1,h2,h3⟩:=adm W (X.length+P.length) (X++(Q++(P++Y))) (by simp only[List.length_append];omega) hp hq rfl rfl (Y:=Y);have hlen':X'.length+(P'.length+(Q'.length+Y'.length))<=400000:=by have:=congrArg List.length h3;simp only[List.length_append]at this;omega
 have es:=K5 W X' P' [] Q' Y' (A:=IntKind.wrap .i64 (((X.length+P.length:Nat):Int)-(P'.length:Int))) (B:=((X.length+P.length:Nat):Int)) (N:=(P'.length:Int)) X'.length (X.length+P.length) P'.length
  (bG (by omega) (by omega)) rfl rfl rfl rfl h1 (by simp only[List.length_nil];omega) (by omega) (L:=X'++(P'++(Q'++Y'))) rfl
 have e0:IP (((X.length+P.length:Nat):Int),(IntKind.wrap .i64 (((X.length+P.length:Nat):Int)-(X.length:Int)),(IntKind.wrap .i64 (((X.length+P.length+Q.length:Nat):Int)-((X.length+P.length:Nat):Int)),(X++(P++(Q++Y)),W))))=some (((X.length+P.length:Nat):Int),((P'.length:Int),(X'++(P'++(Q'++Y')),W))):=by rw[bG (x:=((X.length+P.length:Nat):Int)-(X.length:Int)) (n:=P.length) (by omega) (by omega),bG (x:=((X.length+P.length+Q.length:Nat):Int)-((X.length+P.length:Nat):Int)) (n:=Q.length) (by omega) (by omega)];exact e1
 refine ag e0 (ag es ?_);have e:∀(A A':List aZ),A=A'->(some (A,W):Option (Out uW))=some (A',W):=by rintro _ _ rfl;rfl
 exact e _ _ (by rw[List.nil_append];exact h3)
open Pl (cr dC KQ)
def lI(W:jf)(L:List aZ):TL [.int .i64,.sl (.int .i64),.sl ae,.sl (.int .i64),.sl (.int .i64),.sl (.int .i64),.sl ab,.sl ae,.sl (.int .i64),.sl ah,.sl (.int .u8),.sl (.int .i64)]:=(W.1,(W.2.1,(W.2.2.1,(W.2.2.2.1,(W.2.2.2.2.1,(W.2.2.2.2.2.1,(W.2.2.2.2.2.2.1,(W.2.2.2.2.2.2.2.1,(W.2.2.2.2.2.2.2.2.1,(L,(W.2.2.2.2.2.2.2.2.2.1,(W.2.2.2.2.2.2.2.2.2.2.1,()))))))))))))
structure kh(W:jf)(key:aZ->Int)(V:aZ->Prop):Prop where
 cmp:∀(L:List aZ) (x y:aZ),V x->V y->∃c:Int,jz (x.1,(x.2.1,(x.2.2.1,(y.1,(y.2.1,(y.2.2.1,lI W L))))))=some (c,lI W L)/\(c<0↔key x<key y)
theorem YI{R:Type}{L X Y:List aZ}{p q:aZ}{u v:Nat}(hL:L=X++q::(p::Y))(hv:X.length=v)(hu:v+1=u){U V:Int}(eU:U=(u:Int))(eV:V=(v:Int)){y z:Option R}
  (h:List.set (List.set L (Int.toNat U) ((gt ah L V).1,((gt ah L V).2.1,((gt ah L V).2.2.1,())))) (Int.toNat V) ((gt ah L U).1,((gt ah L U).2.1,((gt ah L U).2.2.1,())))=X++p::(q::Y)->y=z) :
  (ai (aw V (List.length L)) <|ai (aw U (List.length L)) <|ai (aw U (List.length L)) <|ai (aw V (List.length (List.set L (Int.toNat U) ((gt ah L V).1,((gt ah L V).2.1,((gt ah L V).2.2.1,())))))) <|y)=z:=by
 subst hL;subst eU;subst eV;subst hu;have hlen:List.length (X++q::(p::Y))=X.length+(1+(1+Y.length)):=by simp;omega
 have gv:gt ah (X++q::(p::Y)) (v:Int)=q:=tK hv;have e:X++q::(p::Y)=(X++[q])++p::Y:=by simp
 have gu:gt ah (X++q::(p::Y)) ((v+1:Nat):Int)=p:=by rw[e];exact tK (by simp;omega)
 have i1:aw (v:Int) (List.length (X++q::(p::Y)))=true:=aN ⟨by omega,by rw[hlen];omega⟩;have i2:aw ((v+1:Nat):Int) (List.length (X++q::(p::Y)))=true:=aN ⟨by omega,by rw[hlen];omega⟩;have hs:∀z:aZ,aw (v:Int) (List.length (List.set (X++q::(p::Y)) (Int.toNat ((v+1:Nat):Int)) z))=true:=fun z=>(congrArg (aw (v:Int)) List.length_set).trans i1;refine ak i1 (ak i2 (ak i2 (ak (hs _) (h ?_))));rw[gu,gv,Int.toNat_natCast,Int.toNat_natCast];have e2:(X++q::(p::Y)).set (v+1) q=X++q::(q::Y):=by rw[e,sM (by simp;omega)];simp
 exact(congrArg (fun l:List aZ=>l.set v p) e2).trans (sM hv)
section
variable{W:jf}{key:aZ->Int}{V:aZ->Prop}
theorem acZ(C:kh W key V)(X T T0 Y:List aZ)(x:aZ)(A B I:Int)(i:Nat)(hA:A=(X.length:Int))(hi:X.length+T.length=i)(hl:X.length+(T.length+Y.length)<=400000)(hT:cr key T0 T)(hV:∀y∈T,V y)(hx:V x) :
  ∃o,H8 (A,(B,(I,((i:Int),(X++(T++(x::Y)),W)))))=some o/\∃S,o=(A,(B,(I,(X++(S++Y),W))))/\cr key (T0++[x]) S:=by
 unfold H8;delta u16;refine lQ (fun d=>∃T1 T2:List aZ,d=(A,(B,(I,(((X.length+T1.length:Nat):Int),(X++(T1++(x::(T2++Y))),W)))))/\T1++T2=T/\∀y∈T2,key x<key y)
  (fun o=>∃S,o=(A,(B,(I,(X++(S++Y),W))))/\cr key (T0++[x]) S) (fun d=>d.2.2.2.1.toNat) ?_ NN _ ⟨T,[],by subst hi;rfl,by simp,by simp⟩ (bA (by show((i:Int)).toNat<=_;omega))
 rintro d ⟨T1,T2,rfl,hTT,h2⟩;have hlT:T1.length+T2.length=T.length:=by rw[<-hTT,List.length_append]
 try dsimp only
 unfold Ia;rcases List.eq_nil_or_concat T1 with rfl|⟨T1',q,rfl⟩
 .left;refine⟨_,af (av (by rw[hA];simp)) rfl,x::T2,rfl,?_⟩;have:=KQ (T1:=[]) (T2:=T2) (x:=x) (T0:=T0) (key:=key) (by rw[hTT];exact hT) (by simp) h2;exact this
 .have hj:(X.length+(T1'.concat q).length:Nat)=X.length+T1'.length+1:=by simp;omega
  have hq:V q:=hV q (by rw[<-hTT];simp);have eL:X++(T1'.concat q++(x::(T2++Y)))=(X++T1')++q::(x::(T2++Y)):=by simp
  obtain⟨c,ec,hc⟩:=C.cmp (X++(T1'.concat q++(x::(T2++Y)))) x q hx hq;rw[hj];have w1:IntKind.wrap .i64 (((X.length+T1'.length+1:Nat):Int)-1)=((X.length+T1'.length:Nat):Int):=bG (by omega) (by simp only[List.length_concat]at hlT;omega);have gx:gt ah (X++(T1'.concat q++(x::(T2++Y)))) ((X.length+T1'.length+1:Nat):Int)=x:=by
   have e:X++(T1'.concat q++(x::(T2++Y)))=(X++T1'++[q])++x::(T2++Y):=by simp
   rw[e];exact tK (by simp;omega)
  have gq:gt ah (X++(T1'.concat q++(x::(T2++Y)))) (IntKind.wrap .i64 (((X.length+T1'.length+1:Nat):Int)-1))=q:=by rw[w1,eL];exact tK (by simp)
  have hlen:List.length (X++(T1'.concat q++(x::(T2++Y))))=X.length+T1'.length+2+(T2.length+Y.length):=by simp;omega
  have i1:aw ((X.length+T1'.length+1:Nat):Int) (List.length (X++(T1'.concat q++(x::(T2++Y)))))=true:=aN ⟨by omega,by rw[hlen];omega⟩;have i2:aw (IntKind.wrap .i64 (((X.length+T1'.length+1:Nat):Int)-1)) (List.length (X++(T1'.concat q++(x::(T2++Y)))))=true:=by rw[w1];exact aN ⟨by omega,by rw[hlen];omega⟩
  have ec':jz ((gt ah (X++(T1'.concat q++(x::(T2++Y)))) ((X.length+T1'.length+1:Nat):Int)).1,((gt ah (X++(T1'.concat q++(x::(T2++Y)))) ((X.length+T1'.length+1:Nat):Int)).2.1,((gt ah (X++(T1'.concat q++(x::(T2++Y)))) ((X.length+T1'.length+1:Nat):Int)).2.2.1,
    ((gt ah (X++(T1'.concat q++(x::(T2++Y)))) (IntKind.wrap .i64 (((X.length+T1'.length+1:Nat):Int)-1))).1,((gt ah (X++(T1'.concat q++(x::(T2++Y)))) (IntKind.wrap .i64 (((X.length+T1'.length+1:Nat):Int)-1))).2.1,((gt ah (X++(T1'.concat q++(x::(T2++Y)))) (IntKind.wrap .i64 (((X.length+T1'.length+1:Nat):Int)-1))).2.2.1,lI W (X++(T1'.concat q++(x::(T2++Y))))))))))
    = some (c,lI W (X++(T1'.concat q++(x::(T2++Y))))):=by rw[gx,gq];exact ec
  have hA':A<((X.length+T1'.length+1:Nat):Int):=by rw[hA];omega
  by_cases hk:key x<key q
  .right;refine⟨(A,(B,(I,(((X.length+T1'.length:Nat):Int),(X++(T1'++(x::(q::T2++Y))),W))))),?_,⟨T1',q::T2,rfl,by rw[<-hTT];simp,?_⟩,?_⟩
   .refine ao (aj hA') (ak i1 (ak i2 (ag ec' (ao (show aQ true (iL c 0) false=true from aj (hc.2 hk)) ?_))));refine YI (X:=X++T1') (q:=q) (p:=x) (Y:=T2++Y) (v:=X.length+T1'.length) (u:=X.length+T1'.length+1) eL (by simp) rfl rfl w1 (fun hset=>?_);refine ak (aj rfl) (ak (aj rfl) ?_);have e:∀(u u':Int) (L L':List aZ),u=u'->L=L'->(some (.inl (A,(B,(I,(u,(L,W)))))):Option (TL uU.σs⊕Out uT))=some (.inl (A,(B,(I,(u',(L',W)))))):=by rintro _ _ _ _ rfl rfl;rfl
    exact e _ _ _ _ w1 (hset.trans (by simp))
   .intro y hy;rcases List.mem_cons.1 hy with rfl|hy
    .exact hk
    .exact h2 y hy
   .show(((X.length+T1'.length:Nat):Int)).toNat<(((X.length+T1'.length+1:Nat):Int)).toNat;omega
  .left;refine⟨(A,(B,(I,(X++((T1'.concat q++x::T2)++Y),W)))),?_,_,rfl,?_⟩
   .refine ao (aj hA') (ak i1 (ak i2 (ag ec' (af (show aQ true (iL c 0) false=false from av (fun q=>hk (hc.1 q))) ?_))));have e:∀(L L':List aZ),L=L'->(some (.inr (A,(B,(I,(L,W))))):Option (TL uU.σs⊕Out uT))=some (.inr (A,(B,(I,(L',W))))):=by rintro _ _ rfl;rfl
    exact e _ _ (show X++(T1'.concat q++(x::(T2++Y)))=_ from by simp)
   .refine KQ (by rw[hTT];exact hT) ?_ h2;intro y hy;have hs:dC key (T1'.concat q):=(Pl.kX.1 (by rw[hTT];exact hT.nD:dC key (T1'.concat q++T2))).1;rw[List.concat_eq_append]at hy hs;obtain⟨_,_,h3⟩:=Pl.kX.1 hs;rcases List.mem_append.1 hy with hy|hy
    .have:=h3 y hy q (by simp);omega
    .simp at hy;subst hy;omega
theorem RH(C:kh W key V){X S Y L:List aZ}{A B:Int}(eA:A=(X.length:Int))(eB:B=((X.length+S.length:Nat):Int))(hL:L=X++(S++Y))(hl:L.length<=400000)(hV:∀y∈S,V y) :
  ∃S',U0 (A,(B,(L,W)))=some (X++(S'++Y),W)/\cr key S S':=by
 subst eA;subst eB;subst hL;have hlen:X.length+(S.length+Y.length)<=400000:=by simpa only[List.length_append]using hl
 have w0:IntKind.wrap .i64 ((X.length:Int)+1)=((X.length+1:Nat):Int):=bG (by omega) (by omega);cases S with
 |nil=>
  refine⟨[],?_,cr.refl (List.Pairwise.nil)⟩;have e1:zs ((X.length:Int),(((X.length+([]:List aZ).length:Nat):Int),(IntKind.wrap .i64 ((X.length:Int)+1),(X++([]++Y),W))))=some (X++([]++Y),W):=by
   unfold zs;delta dV;refine cP (fun _=>_) 0 rfl (fun i hi=>absurd hi (Nat.not_lt_zero i)) ?_ (bA (by omega))
   try dsimp only
   unfold zu;exact af (av (by rw[w0];simp only[List.length_nil];omega)) rfl
  exact ag e1 rfl
 |cons s S=>
  have e1:∃o,zs ((X.length:Int),(((X.length+(s::S).length:Nat):Int),(IntKind.wrap .i64 ((X.length:Int)+1),(X++(s::S++Y),W))))=some o/\∃S',o=(X++(S'++Y),W)/\cr key (s::S) S':=by
   unfold zs;delta dV;refine lQ (fun d=>∃T0 T R:List aZ,d=((X.length:Int),(((X.length+(s::S).length:Nat):Int),(((X.length+T.length:Nat):Int),(X++(T++(R++Y)),W))))/\T0++R=s::S/\cr key T0 T)
    (fun o=>∃S',o=(X++(S'++Y),W)/\cr key (s::S) S') (fun d=>(X.length+(s::S).length)-d.2.2.1.toNat) ?_ NN _ ⟨[s],[s],S,by rw[w0];rfl,rfl,cr.refl (by unfold dC;simp)⟩ (bA (by
     have:List.length (s::S)<=400000:=by omega
     omega))
   rintro d ⟨T0,T,R,rfl,hTR,hT⟩;have hlT:=hT.len;have hlR:T0.length+R.length=(s::S).length:=by rw[<-hTR,List.length_append]
   try dsimp only
   unfold zu;cases R with
   |nil=>left;refine⟨_,af (av (by simp only[List.length_nil]at hlR;omega)) rfl,T,rfl,?_⟩;rw[List.append_nil]at hTR;rw[<-hTR];exact hT|cons r R=>
    right;simp only[List.length_cons]at hlR;have hVT:∀y∈T,V y:=fun y hy=>hV y (by rw[<-hTR];simp[hT.mem.1 hy]);obtain⟨o,e4,S',rfl,hS'⟩:=acZ C X T T0 (R++Y) r (X.length:Int) ((X.length+(s::S).length:Nat):Int) ((X.length+T.length:Nat):Int) (X.length+T.length) rfl rfl (by simp only[List.length_append,List.length_cons]at *;omega) hT hVT (hV r (by rw[<-hTR];simp));have hl':=hS'.len;simp only[List.length_append,List.length_cons,List.length_nil]at hl';refine⟨((X.length:Int),(((X.length+(s::S).length:Nat):Int),(((X.length+S'.length:Nat):Int),(X++(S'++(R++Y)),W)))),?_,⟨T0++[r],S',R,rfl,by rw[<-hTR];simp,hS'⟩,?_⟩
    .refine ao (aj (by simp only[List.length_cons]at *;omega)) (ag e4 ?_);have e:∀(u u':Int),u=u'->(some (.inl ((X.length:Int),(((X.length+(s::S).length:Nat):Int),(u,(X++(S'++(R++Y)),W))))):Option (TL zq.σs⊕Out zp))=some (.inl ((X.length:Int),(((X.length+(s::S).length:Nat):Int),(u',(X++(S'++(R++Y)),W))))):=by rintro _ _ rfl;rfl
     exact e _ _ (show IntKind.wrap .i64 (((X.length+T.length:Nat):Int)+1)=_ from bG (by omega) (by simp only[List.length_append,List.length_cons]at *;omega))
    .show(X.length+(s::S).length)-(((X.length+S'.length:Nat):Int)).toNat<(X.length+(s::S).length)-(((X.length+T.length:Nat):Int)).toNat;simp only[List.length_cons]at *
     omega
  obtain⟨o,e1,S',rfl,hS⟩:=e1;exact⟨S',ag e1 rfl,hS⟩
end
open Pl (cr dC BE)
abbrev hf(i j:Int):Int:=IntKind.wrap .i64 (Int.fdiv (IntKind.wrap .u64 (IntKind.wrap .i64 (i+j))) (HPow.hPow (2:Int) (Min.min (Int.toNat (1:Int)) 64)))
theorem BO{i j:Nat}(h:i+j<=1000000):hf (i:Int) (j:Int)=(((i+j) / 2:Nat):Int):=by
 unfold hf;rw[bG (x:=(i:Int)+(j:Int)) (n:=i+j) (by omega) (by omega)];have e1:IntKind.wrap .u64 ((i+j:Nat):Int)=((i+j:Nat):Int):=by unfold IntKind.wrap;simp[IntKind.bits,IntKind.signed];omega
 rw[e1];have e2:(HPow.hPow (2:Int) (Min.min (Int.toNat (1:Int)) 64):Int)=2:=rfl;rw[e2,Int.fdiv_eq_ediv_of_nonneg _ (by decide)];exact bG (by omega) (by omega)
theorem KV{D O:Type}{B:D->Option (D⊕O)}(st:Nat->Nat->D)(fin:Nat->O)(pr:Nat->Prop){lo hi:Nat}(hlh:lo<=hi)(hb:hi<=1000000)
  (hm:∀c d,lo<=c->c<=d->d<hi->pr d->pr c)
  (hs1:∀i j,lo<=i->i<j->j<=hi->pr ((i+j) / 2)->B (st i j)=some (.inl (st ((i+j) / 2+1) j)))
  (hs2:∀i j,lo<=i->i<j->j<=hi->¬pr ((i+j) / 2)->B (st i j)=some (.inl (st i ((i+j) / 2))))
  (he:∀i,lo<=i->i<=hi->B (st i i)=some (.inr (fin i))) :
  ∃s,lo<=s/\s<=hi/\aR B NN (st lo hi)=some (fin s)/\(∀c,lo<=c->c<s->pr c)/\∀c,s<=c->c<hi->¬pr c:=by
 have key:∀k i j,lo<=i->i<=j->j<=hi->j-i=k->(∀c,lo<=c->c<i->pr c)->(∀c,j<=c->c<hi->¬pr c)->∀N,k<N ->
   ∃s,i<=s/\s<=j/\aR B N (st i j)=some (fin s)/\(∀c,lo<=c->c<s->pr c)/\∀c,s<=c->c<hi->¬pr c:=by
  intro k
  induction k using Nat.strongRecOn with
  |_ k ih=>
   intro i j h1 h2 h3 hk ha hb N hN;obtain⟨M,rfl⟩:∃M,N=M+1:=⟨N-1,by omega⟩;rcases Nat.lt_or_ge i j with q|q
   .rcases Classical.em (pr ((i+j) / 2))with hp|hp
    .obtain⟨s,g1,g2,g3,g4⟩:=ih (j-((i+j) / 2+1)) (by omega) ((i+j) / 2+1) j (by omega) (by omega) h3 rfl (fun c c1 c2=>hm c ((i+j) / 2) c1 (by omega) (by omega) hp) hb M (by omega);exact⟨s,by omega,g2,by simp only[aR,hs1 i j h1 q h3 hp];exact g3,g4⟩
    .obtain⟨s,g1,g2,g3,g4⟩:=ih ((i+j) / 2-i) (by omega) i ((i+j) / 2) h1 (by omega) (by omega) rfl ha (fun c c1 c2 hc=>hp (hm ((i+j) / 2) c (by omega) c1 c2 hc)) M (by omega);exact⟨s,g1,by omega,by simp only[aR,hs2 i j h1 q h3 hp];exact g3,g4⟩
   .have:i=j:=by omega
    subst this;exact⟨i,Nat.le_refl _,Nat.le_refl _,by simp only[aR,he i h1 h3],ha,hb⟩
 exact key (hi-lo) lo hi (Nat.le_refl _) hlh (Nat.le_refl _) rfl (fun c c1 c2=>by omega) (fun c c1 c2=>by omega) NN (bA (by omega))
abbrev Ly:=Lx zY
def rJ(W:jf)(key:aZ->Int)(V:aZ->Prop)(F:gd)(k:Nat):Prop:=
 ∀(X P Q Y L:List aZ) (A M B:Int),0<P.length->0<Q.length->P.length+Q.length<=k->A=(X.length:Int)->M=((X.length+P.length:Nat):Int)->B=((X.length+P.length+Q.length:Nat):Int)->L=X++(P++(Q++Y))->L.length<=400000 ->
  dC key P->dC key Q->(∀x∈P,V x)->(∀x∈Q,V x)->∃R,F (A,(M,(B,(L,W))))=some (X++(R++Y),W)/\cr key (P++Q) R
section
variable{W:jf}{key:aZ->Int}{V:aZ->Prop}
theorem aeE{F1:gd}{k:Nat}(ih:rJ W key V F1 k){X P Q Y L:List aZ}{b mid e:Int}(em:mid=(X.length:Int))(ee:e=((X.length+P.length:Nat):Int))(eb:b=((X.length+P.length+Q.length:Nat):Int))(hL:L=X++(P++(Q++Y)))(hl:L.length<=400000)
  (hk:P.length+Q.length<=k) (hp:dC key P) (hq:dC key Q) (hP:∀x∈P,V x) (hQ:∀x∈Q,V x):∃R,sN F1 b mid e (L,W)=some (X++(R++Y),W)/\cr key (P++Q) R:=by
 unfold sN;rcases Nat.eq_zero_or_pos P.length with h1|h1
 .have:P=[]:=List.eq_nil_of_length_eq_zero h1;subst this;refine⟨Q,af (av (by rw[em,ee];simp only[List.length_nil];omega)) ?_,cr.refl hq⟩;rw[hL];rfl
 .rcases Nat.eq_zero_or_pos Q.length with h2|h2
  .have:Q=[]:=List.eq_nil_of_length_eq_zero h2;subst this;refine⟨P,ao (aj (by rw[em,ee];omega)) (af (show aQ true (iL e b) false=false from av (by rw[ee,eb];simp only[List.length_nil];omega)) ?_),by rw[List.append_nil];exact cr.refl hp⟩;rw[hL];rfl
  .obtain⟨R,e1,e2⟩:=ih X P Q Y L mid e b h1 h2 hk em ee eb hL hl hp hq hP hQ;exact⟨R,ao (aj (by rw[em,ee];omega)) (ao (show aQ true (iL e b) false=true from aj (by rw[ee,eb];omega)) (ag e1 rfl)),e2⟩
theorem aeD{F1:gd}{k:Nat}(ih:rJ W key V F1 k){X P1 P2 Q1 Q2 Y L:List aZ}{a m b mid s e:Int}(ea:a=(X.length:Int))(es:s=((X.length+P1.length:Nat):Int))(emm:m=((X.length+P1.length+P2.length:Nat):Int))(em:mid=((X.length+P1.length+Q1.length:Nat):Int))
  (ee:e=((X.length+P1.length+Q1.length+P2.length:Nat):Int)) (eb:b=((X.length+P1.length+P2.length+Q1.length+Q2.length:Nat):Int)) (hL:L=X++(P1++(P2++(Q1++(Q2++Y))))) (hl:L.length<=400000)
  (hk1:P1.length+Q1.length<=k) (hk2:P2.length+Q2.length<=k) (hp:dC key (P1++P2)) (hq:dC key (Q1++Q2)) (hP:∀x∈P1++P2,V x) (hQ:∀x∈Q1++Q2,V x)
  (h1:∀x∈P1,∀y∈Q2,key x<=key y) (h2:∀x∈P2,∀y∈Q1,key y<key x):∃R,Ly F1 a m b mid s e (L,W)=some (X++(R++Y),W)/\cr key ((P1++P2)++(Q1++Q2)) R:=by
 have hlen:X.length+(P1.length+(P2.length+(Q1.length+(Q2.length+Y.length))))<=400000:=by rw[hL]at hl;simpa only[List.length_append]using hl
 obtain⟨p1,p2,_⟩:=Pl.kX.1 hp;obtain⟨q1,q2,_⟩:=Pl.kX.1 hq;have hU:∃R,vR F1 a b mid s e (X++(P1++(Q1++(P2++(Q2++Y)))),W)=some (X++(R++Y),W)/\cr key ((P1++P2)++(Q1++Q2)) R:=by
  have hV:∀R1:List aZ,cr key (P1++Q1) R1->∃R,sN F1 b mid e (X++(R1++(P2++(Q2++Y))),W)=some (X++(R++Y),W)/\cr key ((P1++P2)++(Q1++Q2)) R:=by
   intro R1 hR1;have hl1:=hR1.len;simp only[List.length_append]at hl1;obtain⟨R2,e1,e2⟩:=aeE ih (X:=X++R1) (P:=P2) (Q:=Q2) (Y:=Y) (L:=X++(R1++(P2++(Q2++Y)))) (b:=b) (mid:=mid) (e:=e) (by rw[em];simp only[List.length_append];omega) (by rw[ee];simp only[List.length_append];omega) (by rw[eb];simp only[List.length_append];omega)
    (by simp only[List.append_assoc]) (by simp only[List.length_append];omega) hk2 p2 q2 (fun x hx=>hP x (by simp[hx])) (fun x hx=>hQ x (by simp[hx]))
   refine⟨R1++R2,e1.trans (congrArg (fun l:List aZ=>(some (l,W):qc)) ?_),BE hp hq h1 h2 hR1 e2⟩;simp only[List.append_assoc]
  unfold vR;rcases Nat.eq_zero_or_pos P1.length with g1|g1
  .have:P1=[]:=List.eq_nil_of_length_eq_zero g1;subst this;obtain⟨R,e1,e2⟩:=hV Q1 (cr.refl q1);exact⟨R,af (av (by rw[ea,es];simp only[List.length_nil];omega)) e1,e2⟩
  .rcases Nat.eq_zero_or_pos Q1.length with g2|g2
   .have:Q1=[]:=List.eq_nil_of_length_eq_zero g2;subst this;obtain⟨R,e1,e2⟩:=hV P1 (by rw[List.append_nil];exact cr.refl p1);exact⟨R,ao (aj (by rw[ea,es];omega)) (af (show aQ true (iL s mid) false=false from av (by rw[es,em];simp only[List.length_nil];omega)) e1),e2⟩
   .obtain⟨R1,e0,hR1⟩:=ih X P1 Q1 (P2++(Q2++Y)) (X++(P1++(Q1++(P2++(Q2++Y))))) a s mid g1 g2 hk1 ea es (by rw[em]) rfl (by simp only[List.length_append];omega) p1 q1 (fun x hx=>hP x (by simp[hx])) (fun x hx=>hQ x (by simp[hx]));obtain⟨R,e1,e2⟩:=hV R1 hR1;exact⟨R,ao (aj (by rw[ea,es];omega)) (ao (show aQ true (iL s mid) false=true from aj (by rw[es,em];omega)) (ag e0 e1)),e2⟩
 obtain⟨R,e1,e2⟩:=hU;refine⟨R,?_,e2⟩;unfold Ly Lx;subst hL;rcases Nat.eq_zero_or_pos P2.length with g1|g1
 .have:P2=[]:=List.eq_nil_of_length_eq_zero g1;subst this;exact af (av (by rw[es,emm];simp only[List.length_nil];omega)) e1
 .rcases Nat.eq_zero_or_pos Q1.length with g2|g2
  .have:Q1=[]:=List.eq_nil_of_length_eq_zero g2;subst this;exact ao (aj (by rw[es,emm];omega)) (af (show aQ true (iL m e) false=false from av (by rw[ee,emm];simp only[List.length_nil];omega)) e1)
  .have er:=afn W (X:=X++P1) (P:=P2) (Q:=Q1) (Y:=Q2++Y) (L:=X++(P1++(P2++(Q1++(Q2++Y))))) (A:=s) (M:=m) (B:=e) g1 g2 (by rw[es];simp only[List.length_append]) (by rw[emm];simp only[List.length_append]) (by rw[ee];simp only[List.length_append];omega) hl (by simp only[List.append_assoc]);have er':zY (s,(m,(e,(X++(P1++(P2++(Q1++(Q2++Y)))),W))))=some (X++(P1++(Q1++(P2++(Q2++Y)))),W):=er.trans (congrArg (fun l:List aZ=>(some (l,W):Option (Out uW))) (by simp only[List.append_assoc]));exact ao (aj (by rw[es,emm];omega)) (ao (show aQ true (iL m e) false=true from aj (by rw[ee,emm];omega)) (ag er' e1))
end
theorem oU{key:aZ->Int}{L:List aZ}(h:dC key L){i j:Nat}(hij:i<=j)(hj:j<L.length):key L[i]<=key L[j]:=by
 rcases Nat.lt_or_ge i j with q|q
 .exact(List.pairwise_iff_getElem.1 h) i j (by omega) hj q
 .have:i=j:=by omega
  subst this;exact Int.le_refl _
section
variable{X P Q Y L:List aZ}
theorem BS(hL:L=X++(P++(Q++Y))){t c:Nat}(ht:t<P.length)(hc:c=X.length+t):gt ah L (c:Int)=P[t]:=by subst hL;subst hc;refine bn ?_;rw[List.getElem?_append_right (by omega),Nat.add_sub_cancel_left,List.getElem?_append_left ht,List.getElem?_eq_getElem ht]
theorem BU(hL:L=X++(P++(Q++Y))){t c:Nat}(ht:t<Q.length)(hc:c=X.length+P.length+t):gt ah L (c:Int)=Q[t]:=by
 subst hL;subst hc;refine bn ?_;rw[List.getElem?_append_right (by omega),List.getElem?_append_right (by omega)];have:X.length+P.length+t-X.length-P.length=t:=by omega
 rw[this,List.getElem?_append_left ht,List.getElem?_eq_getElem ht]
theorem yR(hL:L=X++(P++(Q++Y))):L.length=X.length+P.length+Q.length+Y.length:=by subst hL;simp only[List.length_append];omega
variable{W:jf}{key:aZ->Int}{V:aZ->Prop}
theorem afB(C:kh W key V)(F:gd){x:aZ}(hL:L=X++([x]++(Q++Y)))(hl:L.length<=400000)(hq:dC key Q)(hx:V x)(hQ:∀y∈Q,V y) :
  ∃k,k<=Q.length/\VC F ((X.length:Int),(((X.length+1:Nat):Int),(((X.length+1+Q.length:Nat):Int),(L,W))))=some ((X.length:Int),(((X.length+1+k:Nat):Int),(L,W)))/\(∀y∈Q.take k,key y<key x)/\∀y∈Q.drop k,key x<=key y:=by
 have hlen:=yR hL;simp only[List.length_cons,List.length_nil]at hlen;have gQ:∀c,(h0:X.length+1<=c)->(h:c<X.length+1+Q.length)->gt ah L (c:Int)=Q[c-X.length-1]'(by omega):=fun c h1 h2=>BU hL (t:=c-X.length-1) (by omega) (by simp only[List.length_cons,List.length_nil];omega);have gx:gt ah L (X.length:Int)=x:=BS hL (t:=0) (by simp) rfl;have step:∀i j:Nat,X.length+1<=i->i<j->j<=X.length+1+Q.length->∃c:Int,(c<0↔key (gt ah L (((i+j) / 2:Nat):Int))<key x) /\
   rW jz (X.length:Int) (i:Int) (j:Int) L W.1 W.2.1 W.2.2.1 W.2.2.2.1 W.2.2.2.2.1 W.2.2.2.2.2.1 W.2.2.2.2.2.2.1 W.2.2.2.2.2.2.2.1 W.2.2.2.2.2.2.2.2.1 W.2.2.2.2.2.2.2.2.2.1 W.2.2.2.2.2.2.2.2.2.2.1 =
    br (iL c 0) (some (.inl ((X.length:Int),((((i+j) / 2+1:Nat):Int),((j:Int),(L,W)))))) (some (.inl ((X.length:Int),((i:Int),((((i+j) / 2:Nat):Int),(L,W)))))):=by
  intro i j h1 h2 h3;have hw:hf (i:Int) (j:Int)=(((i+j) / 2:Nat):Int):=BO (by omega);have gh:=gQ ((i+j) / 2) (by omega) (by omega);obtain⟨c,e1,e2⟩:=C.cmp L (gt ah L (((i+j) / 2:Nat):Int)) (gt ah L (X.length:Int)) (by rw[gh];exact hQ _ (List.getElem_mem _)) (by rw[gx];exact hx);refine⟨c,by rw[<-gx];exact e2,?_⟩;have i1:aw (hf (i:Int) (j:Int)) (List.length L)=true:=by rw[hw];exact aN ⟨by omega,by omega⟩
  have i2:aw (X.length:Int) (List.length L)=true:=aN ⟨by omega,by omega⟩;have e1':jz ((gt ah L (hf (i:Int) (j:Int))).1,((gt ah L (hf (i:Int) (j:Int))).2.1,((gt ah L (hf (i:Int) (j:Int))).2.2.1,((gt ah L (X.length:Int)).1,((gt ah L (X.length:Int)).2.1,((gt ah L (X.length:Int)).2.2.1,lI W L))))))=some (c,lI W L):=by rw[hw];exact e1
  unfold rW;refine ao (aj (show(i:Int)<(j:Int) by omega)) (ak i1 (ak i2 (ag e1' ?_)));have e:∀(u v u' v':Int),u=u'->v=v'->(br (iL c 0) (some (.inl ((X.length:Int),(u,((j:Int),(L,W)))))) (some (.inl ((X.length:Int),((i:Int),(v,(L,W)))))):Option (TL zI.σs⊕Out zB))=br (iL c 0) (some (.inl ((X.length:Int),(u',((j:Int),(L,W)))))) (some (.inl ((X.length:Int),((i:Int),(v',(L,W)))))):=by rintro _ _ _ _ rfl rfl;rfl
  exact e _ _ _ _ (by show IntKind.wrap .i64 (hf (i:Int) (j:Int)+1)=_;rw[hw];exact bG (by omega) (by omega)) hw
 obtain⟨s,s1,s2,es,hs1,hs2⟩:=KV (B:=fun d=>rW jz d.1 d.2.1 d.2.2.1 d.2.2.2.1 d.2.2.2.2.1 d.2.2.2.2.2.1 d.2.2.2.2.2.2.1 d.2.2.2.2.2.2.2.1 d.2.2.2.2.2.2.2.2.1 d.2.2.2.2.2.2.2.2.2.1 d.2.2.2.2.2.2.2.2.2.2.1 d.2.2.2.2.2.2.2.2.2.2.2.1 d.2.2.2.2.2.2.2.2.2.2.2.2.1 d.2.2.2.2.2.2.2.2.2.2.2.2.2.1 d.2.2.2.2.2.2.2.2.2.2.2.2.2.2.1)
  (fun i j:Nat=>((X.length:Int),((i:Int),((j:Int),(L,W))))) (fun i:Nat=>((X.length:Int),((i:Int),(L,W)))) (fun c=>key (gt ah L (c:Int))<key x) (lo:=X.length+1) (hi:=X.length+1+Q.length) (by omega) (by omega)
  (fun c d h1 h2 h3 hd=>by rw[gQ d (by omega) h3]at hd;rw[gQ c h1 (by omega)];exact Int.lt_of_le_of_lt (oU hq (i:=c-X.length-1) (j:=d-X.length-1) (by omega) (by omega)) hd)
  (fun i j h1 h2 h3 hp=>by obtain⟨c,hc,e⟩:=step i j h1 h2 h3;exact e.trans (ib (aj (hc.2 hp))))
  (fun i j h1 h2 h3 hp=>by obtain⟨c,hc,e⟩:=step i j h1 h2 h3;exact e.trans (fe (av (fun q=>hp (hc.1 q)))))
  (fun i h1 h2=>by
   try dsimp only
   unfold rW;exact af (av (show ¬(i:Int)<(i:Int) by omega)) rfl)
 refine⟨s-X.length-1,by omega,?_,?_,?_⟩
 .have:X.length+1+(s-X.length-1)=s:=by omega
  rw[this];exact es
 .intro y hy;obtain⟨i,hi,rfl⟩:=List.mem_take_iff_getElem.1 hy;have:=hs1 (X.length+1+i) (by omega) (by omega);rw[gQ _ (by omega) (by omega)]at this;have e:X.length+1+i-X.length-1=i:=by omega
  simpa only[e]using this
 .intro y hy;obtain⟨i,hi,rfl⟩:=List.mem_drop_iff_getElem.1 hy;have:=hs2 (X.length+1+(s-X.length-1+i)) (by omega) (by omega);rw[gQ _ (by omega) (by omega)]at this;have e:X.length+1+(s-X.length-1+i)-X.length-1=s-X.length-1+i:=by omega
  simp only[e]at this;omega
end
section
variable{X P Q Y L:List aZ}{W:jf}{key:aZ->Int}{V:aZ->Prop}
theorem afC(F:gd){x:aZ}{Q1 Z:List aZ}(hl:X.length+Q1.length<=400000) :
  Iw F (((X.length+1+Q1.length:Nat):Int),((X.length:Int),(X++(x::(Q1++Z)),W)))=some (X++(Q1++(x::Z)),W):=by
 unfold Iw;have w0:IntKind.wrap .i64 (((X.length+1+Q1.length:Nat):Int)-1)=((X.length+Q1.length:Nat):Int):=bG (by omega) (by omega);refine cP (fun t:Nat=>(((X.length+1+Q1.length:Nat):Int),(((X.length+t:Nat):Int),(X++(Q1.take t++(x::(Q1.drop t++Z))),W)))) Q1.length rfl ?_ ?_ (bA (by omega))
 .intro t ht
  try dsimp only
  unfold zP;refine ao (aj (by rw[w0];omega)) ?_;refine YH (X:=X++Q1.take t) (p:=x) (M:=[]) (q:=Q1[t]) (Y:=Q1.drop (t+1)++Z) (u:=X.length+t) (v:=X.length+t+1) ?_ ?_ ?_ rfl ?_ (fun hset=>?_)
  .rw[qk ht];simp only[List.append_assoc,List.cons_append,List.nil_append]
  .simp;omega
  .simp;omega
  .exact bG (by omega) (by omega)
  .refine ak (aj rfl) (ak (aj rfl) ?_);have e:∀(u v:Int) (A B:List aZ),u=v->A=B->(some (.inl (((X.length+1+Q1.length:Nat):Int),(u,(A,W)))):Option (TL zH.σs⊕Out zA))=some (.inl (((X.length+1+Q1.length:Nat):Int),(v,(B,W)))):=by rintro _ _ _ _ rfl rfl;rfl
   refine e _ _ _ _ (show IntKind.wrap .i64 (((X.length+t:Nat):Int)+1)=((X.length+(t+1):Nat):Int)from bG (by omega) (by omega)) (hset.trans ?_);rw[List.take_succ_eq_append_getElem ht];simp only[List.append_assoc,List.cons_append,List.nil_append]
 .try dsimp only
  unfold zP;refine af (av (by rw[w0];omega)) ?_;have e1:Q1.drop Q1.length=[]:=List.drop_eq_nil_of_le (Nat.le_refl _);have e2:Q1.take Q1.length=Q1:=List.take_of_length_le (Nat.le_refl _);rw[e1,e2];rfl
theorem aeT(C:kh W key V)(F:gd){x:aZ}(hL:L=X++(P++([x]++Y)))(hl:L.length<=400000)(hp:dC key P)(hx:V x)(hP:∀y∈P,V y) :
  ∃k,k<=P.length/\Vq F (((X.length+P.length:Nat):Int),((X.length:Int),(((X.length+P.length:Nat):Int),(L,W))))=some (((X.length+P.length:Nat):Int),(((X.length+k:Nat):Int),(L,W)))/\(∀y∈P.take k,key y<=key x)/\∀y∈P.drop k,key x<key y:=by
 have hlen:=yR hL;simp only[List.length_cons,List.length_nil]at hlen;have gP:∀c,(h0:X.length<=c)->(h:c<X.length+P.length)->gt ah L (c:Int)=P[c-X.length]'(by omega):=fun c h1 h2=>BS hL (t:=c-X.length) (by omega) (by omega);have gx:gt ah L ((X.length+P.length:Nat):Int)=x:=BU hL (t:=0) (by simp) rfl;have step:∀i j:Nat,X.length<=i->i<j->j<=X.length+P.length->∃c:Int,(c<0↔key x<key (gt ah L (((i+j) / 2:Nat):Int))) /\
   rV jz ((X.length+P.length:Nat):Int) (i:Int) (j:Int) L W.1 W.2.1 W.2.2.1 W.2.2.2.1 W.2.2.2.2.1 W.2.2.2.2.2.1 W.2.2.2.2.2.2.1 W.2.2.2.2.2.2.2.1 W.2.2.2.2.2.2.2.2.1 W.2.2.2.2.2.2.2.2.2.1 W.2.2.2.2.2.2.2.2.2.2.1 =
    br (Bool.not (iL c 0)) (some (.inl (((X.length+P.length:Nat):Int),((((i+j) / 2+1:Nat):Int),((j:Int),(L,W)))))) (some (.inl (((X.length+P.length:Nat):Int),((i:Int),((((i+j) / 2:Nat):Int),(L,W)))))):=by
  intro i j h1 h2 h3;have hw:hf (i:Int) (j:Int)=(((i+j) / 2:Nat):Int):=BO (by omega);have gh:=gP ((i+j) / 2) (by omega) (by omega);obtain⟨c,e1,e2⟩:=C.cmp L (gt ah L ((X.length+P.length:Nat):Int)) (gt ah L (((i+j) / 2:Nat):Int)) (by rw[gx];exact hx) (by rw[gh];exact hP _ (List.getElem_mem _));refine⟨c,by rw[<-gx];exact e2,?_⟩;have i1:aw (hf (i:Int) (j:Int)) (List.length L)=true:=by rw[hw];exact aN ⟨by omega,by omega⟩
  have i2:aw ((X.length+P.length:Nat):Int) (List.length L)=true:=aN ⟨by omega,by omega⟩;have e1':jz ((gt ah L ((X.length+P.length:Nat):Int)).1,((gt ah L ((X.length+P.length:Nat):Int)).2.1,((gt ah L ((X.length+P.length:Nat):Int)).2.2.1,((gt ah L (hf (i:Int) (j:Int))).1,((gt ah L (hf (i:Int) (j:Int))).2.1,((gt ah L (hf (i:Int) (j:Int))).2.2.1,lI W L))))))=some (c,lI W L):=by rw[hw];exact e1
  unfold rV;refine ao (aj (show(i:Int)<(j:Int) by omega)) (ak i2 (ak i1 (ag e1' ?_)));have e:∀(u v u' v':Int),u=u'->v=v'->(br (Bool.not (iL c 0)) (some (.inl (((X.length+P.length:Nat):Int),(u,((j:Int),(L,W)))))) (some (.inl (((X.length+P.length:Nat):Int),((i:Int),(v,(L,W)))))):Option (TL zE.σs⊕Out zx))=br (Bool.not (iL c 0)) (some (.inl (((X.length+P.length:Nat):Int),(u',((j:Int),(L,W)))))) (some (.inl (((X.length+P.length:Nat):Int),((i:Int),(v',(L,W)))))):=by rintro _ _ _ _ rfl rfl;rfl
  exact e _ _ _ _ (by show IntKind.wrap .i64 (hf (i:Int) (j:Int)+1)=_;rw[hw];exact bG (by omega) (by omega)) hw
 obtain⟨s,s1,s2,es,hs1,hs2⟩:=KV (B:=fun d=>rV jz d.1 d.2.1 d.2.2.1 d.2.2.2.1 d.2.2.2.2.1 d.2.2.2.2.2.1 d.2.2.2.2.2.2.1 d.2.2.2.2.2.2.2.1 d.2.2.2.2.2.2.2.2.1 d.2.2.2.2.2.2.2.2.2.1 d.2.2.2.2.2.2.2.2.2.2.1 d.2.2.2.2.2.2.2.2.2.2.2.1 d.2.2.2.2.2.2.2.2.2.2.2.2.1 d.2.2.2.2.2.2.2.2.2.2.2.2.2.1 d.2.2.2.2.2.2.2.2.2.2.2.2.2.2.1)
  (fun i j:Nat=>(((X.length+P.length:Nat):Int),((i:Int),((j:Int),(L,W))))) (fun i:Nat=>(((X.length+P.length:Nat):Int),((i:Int),(L,W)))) (fun c=>¬key x<key (gt ah L (c:Int))) (lo:=X.length) (hi:=X.length+P.length) (by omega) (by omega)
  (fun c d h1 h2 h3 hd=>by rw[gP d (by omega) h3]at hd;rw[gP c h1 (by omega)];have:=oU hp (i:=c-X.length) (j:=d-X.length) (by omega) (by omega);omega)
  (fun i j h1 h2 h3 hp=>by obtain⟨c,hc,e⟩:=step i j h1 h2 h3;exact e.trans (ib (fD (av (fun q=>hp (hc.1 q))))))
  (fun i j h1 h2 h3 hp=>by obtain⟨c,hc,e⟩:=step i j h1 h2 h3;exact e.trans (fe (df (aj (hc.2 (Classical.not_not.1 hp))))))
  (fun i h1 h2=>by
   try dsimp only
   unfold rV;exact af (av (show ¬(i:Int)<(i:Int) by omega)) rfl)
 refine⟨s-X.length,by omega,?_,?_,?_⟩
 .have:X.length+(s-X.length)=s:=by omega
  rw[this];exact es
 .intro y hy;obtain⟨i,hi,rfl⟩:=List.mem_take_iff_getElem.1 hy;have:=hs1 (X.length+i) (by omega) (by omega);rw[gP _ (by omega) (by omega)]at this;have e:X.length+i-X.length=i:=by omega
  simp only[e]at this;omega
 .intro y hy;obtain⟨i,hi,rfl⟩:=List.mem_drop_iff_getElem.1 hy;have:=hs2 (X.length+(s-X.length+i)) (by omega) (by omega);rw[gP _ (by omega) (by omega)]at this;have e:X.length+(s-X.length+i)-X.length=s-X.length+i:=by omega
  simp only[e]at this;omega
theorem aeU(F:gd){x:aZ}{P1 P2:List aZ}(hl:X.length+P1.length+P2.length<=400000) :
  Io F (((X.length+P1.length:Nat):Int),(((X.length+P1.length+P2.length:Nat):Int),(X++(P1++(P2++(x::Y))),W)))=some (X++(P1++(x::(P2++Y))),W):=by
 unfold Io;refine cP (fun t:Nat=>(((X.length+P1.length:Nat):Int),(((X.length+P1.length+(P2.length-t):Nat):Int),(X++(P1++(P2.take (P2.length-t)++(x::(P2.drop (P2.length-t)++Y)))),W)))) P2.length ?_ ?_ ?_ (bA (by omega))
 .have e1:P2.drop P2.length=[]:=List.drop_eq_nil_of_le (Nat.le_refl _);have e2:P2.take P2.length=P2:=List.take_of_length_le (Nat.le_refl _);simp only[Nat.sub_zero,e1,e2];rfl
 .intro t ht
  try dsimp only
  unfold zK;obtain⟨j,hj⟩:∃j,P2.length-t=j+1:=⟨P2.length-t-1,by omega⟩;have hj':P2.length-(t+1)=j:=by omega
  have hjl:j<P2.length:=by omega
  rw[hj,hj'];have w1:IntKind.wrap .i64 (((X.length+P1.length+(j+1):Nat):Int)-1)=((X.length+P1.length+j:Nat):Int):=bG (by omega) (by omega);refine ao (aj (by omega)) ?_;refine YI (X:=X++(P1++P2.take j)) (q:=P2[j]) (p:=x) (Y:=P2.drop (j+1)++Y) (v:=X.length+P1.length+j) (u:=X.length+P1.length+(j+1)) ?_ ?_ rfl rfl w1 (fun hset=>?_)
  .rw[List.take_succ_eq_append_getElem hjl];simp only[List.append_assoc,List.cons_append,List.nil_append]
  .simp;omega
  .refine ak (aj rfl) (ak (aj rfl) ?_);have e:∀(u v:Int) (A B:List aZ),u=v->A=B->(some (.inl (((X.length+P1.length:Nat):Int),(u,(A,W)))):Option (TL zD.σs⊕Out zw))=some (.inl (((X.length+P1.length:Nat):Int),(v,(B,W)))):=by rintro _ _ _ _ rfl rfl;rfl
   refine e _ _ _ _ w1 (hset.trans ?_);rw[qk hjl];simp only[List.append_assoc,List.cons_append,List.nil_append]
 .try dsimp only
  unfold zK;rw[Nat.sub_self];exact af (av (by omega)) rfl
end
section
variable{X P Q Y L:List aZ}{W:jf}{key:aZ->Int}{V:aZ->Prop}
theorem Rw(C:kh W key V)(F:gd)(hL:L=X++(P++(Q++Y)))(hl:L.length<=400000)(hp:dC key P)(hq:dC key Q)(hP:∀y∈P,V y)(hQ:∀y∈Q,V y)(a m b mid n:Int){lo hi p:Nat}
  (h1:X.length<=lo) (h2:lo<=hi) (h3:hi<=X.length+P.length) (h4:hi+X.length+P.length<=p+1) (h5:p<X.length+P.length+Q.length+lo) :
  ∃s,lo<=s/\s<=hi/\zJ F (a,(m,(b,(mid,(n,((lo:Int),((hi:Int),((p:Int),(L,W)))))))))=some (a,(m,(b,(mid,(n,((s:Int),(L,W))))))) /\
   (∀c,lo<=c->c<s->¬key (gt ah L ((p-c:Nat):Int))<key (gt ah L (c:Int)))/\∀c,s<=c->c<hi->key (gt ah L ((p-c:Nat):Int))<key (gt ah L (c:Int)):=by
 have hlen:=yR hL;have gP:∀c,(h0:X.length<=c)->(h:c<X.length+P.length)->gt ah L (c:Int)=P[c-X.length]'(by omega):=fun c h1 h2=>BS hL (t:=c-X.length) (by omega) (by omega);have gQ:∀c,(h0:X.length+P.length<=c)->(h:c<X.length+P.length+Q.length)->gt ah L (c:Int)=Q[c-X.length-P.length]'(by omega):=fun c h1 h2=>BU hL (t:=c-X.length-P.length) (by omega) (by omega);have step:∀i j:Nat,lo<=i->i<j->j<=hi->∃c:Int,(c<0↔key (gt ah L ((p-(i+j) / 2:Nat):Int))<key (gt ah L (((i+j) / 2:Nat):Int))) /\
   rU jz a m b mid n (i:Int) (j:Int) (p:Int) L W.1 W.2.1 W.2.2.1 W.2.2.2.1 W.2.2.2.2.1 W.2.2.2.2.2.1 W.2.2.2.2.2.2.1 W.2.2.2.2.2.2.2.1 W.2.2.2.2.2.2.2.2.1 W.2.2.2.2.2.2.2.2.2.1 W.2.2.2.2.2.2.2.2.2.2.1 =
    br (Bool.not (iL c 0)) (some (.inl (a,(m,(b,(mid,(n,((((i+j) / 2+1:Nat):Int),((j:Int),((p:Int),(L,W))))))))))) (some (.inl (a,(m,(b,(mid,(n,((i:Int),((((i+j) / 2:Nat):Int),((p:Int),(L,W))))))))))):=by
  intro i j q1 q2 q3;have hw:hf (i:Int) (j:Int)=(((i+j) / 2:Nat):Int):=BO (by omega);have hv:IntKind.wrap .i64 ((p:Int)-hf (i:Int) (j:Int))=((p-(i+j) / 2:Nat):Int):=by rw[hw];exact bG (by omega) (by omega)
  have gh:=gP ((i+j) / 2) (by omega) (by omega);have gv:=gQ (p-(i+j) / 2) (by omega) (by omega);obtain⟨c,e1,e2⟩:=C.cmp L (gt ah L ((p-(i+j) / 2:Nat):Int)) (gt ah L (((i+j) / 2:Nat):Int)) (by rw[gv];exact hQ _ (List.getElem_mem _)) (by rw[gh];exact hP _ (List.getElem_mem _));refine⟨c,e2,?_⟩;have i1:aw (hf (i:Int) (j:Int)) (List.length L)=true:=by rw[hw];exact aN ⟨by omega,by omega⟩
  have i2:aw (IntKind.wrap .i64 ((p:Int)-hf (i:Int) (j:Int))) (List.length L)=true:=by rw[hv];exact aN ⟨by omega,by omega⟩
  have e1':jz ((gt ah L (IntKind.wrap .i64 ((p:Int)-hf (i:Int) (j:Int)))).1,((gt ah L (IntKind.wrap .i64 ((p:Int)-hf (i:Int) (j:Int)))).2.1,((gt ah L (IntKind.wrap .i64 ((p:Int)-hf (i:Int) (j:Int)))).2.2.1,((gt ah L (hf (i:Int) (j:Int))).1,((gt ah L (hf (i:Int) (j:Int))).2.1,((gt ah L (hf (i:Int) (j:Int))).2.2.1,lI W L))))))=some (c,lI W L):=by rw[hv,hw];exact e1
  unfold rU;refine ao (aj (show(i:Int)<(j:Int) by omega)) (ak i2 (ak i1 (ag e1' ?_)));have e:∀(u v u' v':Int),u=u'->v=v'->(br (Bool.not (iL c 0)) (some (.inl (a,(m,(b,(mid,(n,(u,((j:Int),((p:Int),(L,W)))))))))))  (some (.inl (a,(m,(b,(mid,(n,((i:Int),(v,((p:Int),(L,W))))))))))):Option (TL zC.σs⊕Out uZ))=br (Bool.not (iL c 0)) (some (.inl (a,(m,(b,(mid,(n,(u',((j:Int),((p:Int),(L,W)))))))))))  (some (.inl (a,(m,(b,(mid,(n,((i:Int),(v',((p:Int),(L,W))))))))))):=by rintro _ _ _ _ rfl rfl;rfl
  exact e _ _ _ _ (by show IntKind.wrap .i64 (hf (i:Int) (j:Int)+1)=_;rw[hw];exact bG (by omega) (by omega)) hw
 obtain⟨s,s1,s2,es,hs1,hs2⟩:=KV (B:=fun d=>rU jz d.1 d.2.1 d.2.2.1 d.2.2.2.1 d.2.2.2.2.1 d.2.2.2.2.2.1 d.2.2.2.2.2.2.1 d.2.2.2.2.2.2.2.1 d.2.2.2.2.2.2.2.2.1 d.2.2.2.2.2.2.2.2.2.1 d.2.2.2.2.2.2.2.2.2.2.1 d.2.2.2.2.2.2.2.2.2.2.2.1 d.2.2.2.2.2.2.2.2.2.2.2.2.1 d.2.2.2.2.2.2.2.2.2.2.2.2.2.1 d.2.2.2.2.2.2.2.2.2.2.2.2.2.2.1 d.2.2.2.2.2.2.2.2.2.2.2.2.2.2.2.1 d.2.2.2.2.2.2.2.2.2.2.2.2.2.2.2.2.1 d.2.2.2.2.2.2.2.2.2.2.2.2.2.2.2.2.2.1 d.2.2.2.2.2.2.2.2.2.2.2.2.2.2.2.2.2.2.1 d.2.2.2.2.2.2.2.2.2.2.2.2.2.2.2.2.2.2.2.1)
  (fun i j:Nat=>(a,(m,(b,(mid,(n,((i:Int),((j:Int),((p:Int),(L,W)))))))))) (fun i:Nat=>(a,(m,(b,(mid,(n,((i:Int),(L,W)))))))) (fun c=>¬key (gt ah L ((p-c:Nat):Int))<key (gt ah L (c:Int))) (lo:=lo) (hi:=hi) h2 (by omega)
  (fun c d q1 q2 q3 hd=>by rw[gP d (by omega) (by omega),gQ (p-d) (by omega) (by omega)]at hd;rw[gP c (by omega) (by omega),gQ (p-c) (by omega) (by omega)];have g1:=oU hp (i:=c-X.length) (j:=d-X.length) (by omega) (by omega);have g2:=oU hq (i:=p-d-X.length-P.length) (j:=p-c-X.length-P.length) (by omega) (by omega);omega)
  (fun i j q1 q2 q3 hp=>by obtain⟨c,hc,e⟩:=step i j q1 q2 q3;exact e.trans (ib (fD (av (fun q=>hp (hc.1 q))))))
  (fun i j q1 q2 q3 hp=>by obtain⟨c,hc,e⟩:=step i j q1 q2 q3;exact e.trans (fe (df (aj (hc.2 (Classical.not_not.1 hp))))))
  (fun i q1 q2=>by
   try dsimp only
   unfold rU;exact af (av (show ¬(i:Int)<(i:Int) by omega)) rfl)
 exact⟨s,s1,s2,es,hs1,fun c q1 q2=>Classical.not_not.1 (hs2 c q1 q2)⟩
theorem aeY(hL:L=X++(P++(Q++Y)))(hp:dC key P)(hq:dC key Q){lo hi mid s:Nat}(hmid:mid=(X.length+X.length+P.length+Q.length) / 2)(hP2:2<=P.length)(hQ2:2<=Q.length)
  (hlo:(mid<X.length+P.length/\lo=mid+(X.length+P.length)-(X.length+P.length+Q.length)/\hi=mid)\/(X.length+P.length<=mid/\lo=X.length/\hi=X.length+P.length)) (h1:lo<=s) (h2:s<=hi)
  (g1:∀c,lo<=c->c<s->¬key (gt ah L ((mid+(X.length+P.length)-1-c:Nat):Int))<key (gt ah L (c:Int))) (g2:∀c,s<=c->c<hi->key (gt ah L ((mid+(X.length+P.length)-1-c:Nat):Int))<key (gt ah L (c:Int))) :
  (∀x∈P.take (s-X.length),∀y∈Q.drop (mid-s),key x<=key y)/\∀x∈P.drop (s-X.length),∀y∈Q.take (mid-s),key y<key x:=by
 have gP:∀c,(h0:X.length<=c)->(h:c<X.length+P.length)->gt ah L (c:Int)=P[c-X.length]'(by omega):=fun c h1 h2=>BS hL (t:=c-X.length) (by omega) (by omega);have gQ:∀c,(h0:X.length+P.length<=c)->(h:c<X.length+P.length+Q.length)->gt ah L (c:Int)=Q[c-X.length-P.length]'(by omega):=fun c h1 h2=>BU hL (t:=c-X.length-P.length) (by omega) (by omega);constructor
 .intro x hx y hy;obtain⟨i,hi',rfl⟩:=List.mem_take_iff_getElem.1 hx;obtain⟨j,hj,rfl⟩:=List.mem_drop_iff_getElem.1 hy;have hs:lo<s:=by omega
  have q:=g1 (s-1) (by omega) (by omega);rw[gP (s-1) (by omega) (by omega),gQ (mid+(X.length+P.length)-1-(s-1)) (by omega) (by omega)]at q;have r1:=oU hp (i:=i) (j:=s-1-X.length) (by omega) (by omega);have r2:=oU hq (i:=mid+(X.length+P.length)-1-(s-1)-X.length-P.length) (j:=mid-s+j) (by omega) (by omega);omega
 .intro x hx y hy;obtain⟨i,hi',rfl⟩:=List.mem_drop_iff_getElem.1 hx;obtain⟨j,hj,rfl⟩:=List.mem_take_iff_getElem.1 hy;have hs:s<hi:=by omega
  have q:=g2 s (by omega) (by omega);rw[gP s (by omega) (by omega),gQ (mid+(X.length+P.length)-1-s) (by omega) (by omega)]at q;have r1:=oU hp (i:=s-X.length) (j:=s-X.length+i) (by omega) (by omega);have r2:=oU hq (i:=j) (j:=mid+(X.length+P.length)-1-s-X.length-P.length) (by omega) (by omega);omega
set_option maxHeartbeats 4000000
theorem adv(C:kh W key V){k:Nat}(ih:rJ W key V (iX k) k):rJ W key V (iX (k+1)) (k+1):=by
 intro X P Q Y L A M B hp0 hq0 hk eA eM eB hL hl hp hq hP hQ;subst eA;subst eM;subst eB;have hlen:=yR hL;show ∃R,uY jz (iX k) zY (VC (iX k)) (Iw (iX k)) (Vq (iX k)) (Io (iX k)) (zJ (iX k))
  (X.length:Int) ((X.length+P.length:Nat):Int) ((X.length+P.length+Q.length:Nat):Int) L W.1 W.2.1 W.2.2.1 W.2.2.2.1 W.2.2.2.2.1 W.2.2.2.2.2.1 W.2.2.2.2.2.2.1 W.2.2.2.2.2.2.2.1 W.2.2.2.2.2.2.2.2.1 W.2.2.2.2.2.2.2.2.2.1 W.2.2.2.2.2.2.2.2.2.2.1=some (X++(R++Y),W)/\_
 have wP:IntKind.wrap .i64 (((X.length+P.length:Nat):Int)-(X.length:Int))=(P.length:Int):=bG (by omega) (by omega);have wQ:IntKind.wrap .i64 (((X.length+P.length+Q.length:Nat):Int)-((X.length+P.length:Nat):Int))=(Q.length:Int):=bG (by omega) (by omega);rcases Nat.lt_or_ge 1 P.length with a1|a1
 .rcases Nat.lt_or_ge 1 Q.length with a2|a2
  .-- two stretches of two at least
   obtain⟨mid,hmid⟩:∃mid,mid=(X.length+X.length+P.length+Q.length) / 2:=⟨_,rfl⟩;have hw:hf (X.length:Int) ((X.length+P.length+Q.length:Nat):Int)=(mid:Int):=by rw[BO (by omega),hmid];congr 2;omega
   have w1:IntKind.wrap .i64 (hf (X.length:Int) ((X.length+P.length+Q.length:Nat):Int)+((X.length+P.length:Nat):Int))=((mid+(X.length+P.length):Nat):Int):=by rw[hw];exact bG (by omega) (by omega)
   have w2:IntKind.wrap .i64 (IntKind.wrap .i64 (hf (X.length:Int) ((X.length+P.length+Q.length:Nat):Int)+((X.length+P.length:Nat):Int))-1)=((mid+(X.length+P.length)-1:Nat):Int):=by rw[w1];exact bG (by omega) (by omega)
   have tail:∀lo hi s:Nat,((mid<X.length+P.length/\lo=mid+(X.length+P.length)-(X.length+P.length+Q.length)/\hi=mid)\/(X.length+P.length<=mid/\lo=X.length/\hi=X.length+P.length))->lo<=s->s<=hi ->
     (∀c,lo<=c->c<s->¬key (gt ah L ((mid+(X.length+P.length)-1-c:Nat):Int))<key (gt ah L (c:Int)))->(∀c,s<=c->c<hi->key (gt ah L ((mid+(X.length+P.length)-1-c:Nat):Int))<key (gt ah L (c:Int))) ->
     ∃R,Ly (iX k) (X.length:Int) ((X.length+P.length:Nat):Int) ((X.length+P.length+Q.length:Nat):Int) (mid:Int) (s:Int) (IntKind.wrap .i64 (((mid+(X.length+P.length):Nat):Int)-(s:Int))) (L,W)=some (X++(R++Y),W)/\cr key (P++Q) R:=by
    intro lo hi s hlh s1 s2 g1 g2;obtain⟨c1,c2⟩:=aeY hL hp hq hmid a1 a2 hlh s1 s2 g1 g2;have tP:(P.take (s-X.length)).length=s-X.length:=by rw[List.length_take];omega
    have dP:(P.drop (s-X.length)).length=P.length-(s-X.length):=by rw[List.length_drop]
    have tQ:(Q.take (mid-s)).length=mid-s:=by rw[List.length_take];omega
    have dQ:(Q.drop (mid-s)).length=Q.length-(mid-s):=by rw[List.length_drop]
    have eP:P.take (s-X.length)++P.drop (s-X.length)=P:=List.take_append_drop _ _;have eQ:Q.take (mid-s)++Q.drop (mid-s)=Q:=List.take_append_drop _ _;obtain⟨R,r1,r2⟩:=aeD (W:=W) (V:=V) ih (X:=X) (P1:=P.take (s-X.length)) (P2:=P.drop (s-X.length)) (Q1:=Q.take (mid-s)) (Q2:=Q.drop (mid-s)) (Y:=Y) (L:=L) (a:=(X.length:Int)) (m:=((X.length+P.length:Nat):Int)) (b:=((X.length+P.length+Q.length:Nat):Int)) (mid:=(mid:Int)) (s:=(s:Int)) (e:=IntKind.wrap .i64 (((mid+(X.length+P.length):Nat):Int)-(s:Int)))
     rfl (by rw[tP];omega) (by rw[tP,dP];omega) (by rw[tP,tQ];omega) (by rw[tP,tQ,dP];exact bG (by omega) (by omega)) (by rw[tP,tQ,dP,dQ];omega) (by
      rw[hL]
      conv=>lhs;rw[<-eP,<-eQ]
      simp only[List.append_assoc]) hl (by rw[tP,tQ];omega) (by rw[dP,dQ];omega) (by rw[eP];exact hp) (by rw[eQ];exact hq) (by rw[eP];exact hP) (by rw[eQ];exact hQ) c1 c2
    rw[eP,eQ]at r2;exact⟨R,r1,r2⟩
   unfold uY;rcases Nat.lt_or_ge mid (X.length+P.length)with b1|b1
   .have w3:IntKind.wrap .i64 (IntKind.wrap .i64 (hf (X.length:Int) ((X.length+P.length+Q.length:Nat):Int)+((X.length+P.length:Nat):Int))-((X.length+P.length+Q.length:Nat):Int))=((mid+(X.length+P.length)-(X.length+P.length+Q.length):Nat):Int):=by rw[w1];exact bG (by omega) (by omega)
    obtain⟨s,s1,s2,es,g1,g2⟩:=Rw C (iX k) hL hl hp hq hP hQ (X.length:Int) ((X.length+P.length:Nat):Int) ((X.length+P.length+Q.length:Nat):Int) (mid:Int) ((mid+(X.length+P.length):Nat):Int) (lo:=mid+(X.length+P.length)-(X.length+P.length+Q.length)) (hi:=mid) (p:=mid+(X.length+P.length)-1) (by omega) (by omega) (by omega) (by omega) (by omega);obtain⟨R,r1,r2⟩:=tail _ _ s (.inl ⟨b1,rfl,rfl⟩) s1 s2 g1 g2;have es':zJ (iX k) ((X.length:Int),(((X.length+P.length:Nat):Int),(((X.length+P.length+Q.length:Nat):Int),(hf (X.length:Int) ((X.length+P.length+Q.length:Nat):Int),(IntKind.wrap .i64 (hf (X.length:Int) ((X.length+P.length+Q.length:Nat):Int)+((X.length+P.length:Nat):Int)),(IntKind.wrap .i64 (IntKind.wrap .i64 (hf (X.length:Int) ((X.length+P.length+Q.length:Nat):Int)+((X.length+P.length:Nat):Int))-((X.length+P.length+Q.length:Nat):Int)),
     (hf (X.length:Int) ((X.length+P.length+Q.length:Nat):Int),(IntKind.wrap .i64 (IntKind.wrap .i64 (hf (X.length:Int) ((X.length+P.length+Q.length:Nat):Int)+((X.length+P.length:Nat):Int))-1),(L,W)))))))))=some ((X.length:Int),(((X.length+P.length:Nat):Int),(((X.length+P.length+Q.length:Nat):Int),((mid:Int),(((mid+(X.length+P.length):Nat):Int),((s:Int),(L,W))))))):=by rw[w2,w3,w1,hw];exact es
    refine⟨R,af (av (by rw[wP];omega)) (af (av (by rw[wQ];omega)) (ao (aj (show hf (X.length:Int) ((X.length+P.length+Q.length:Nat):Int)<((X.length+P.length:Nat):Int) by rw[hw];omega)) (ag es' ?_))),r2⟩;exact r1
   .obtain⟨s,s1,s2,es,g1,g2⟩:=Rw C (iX k) hL hl hp hq hP hQ (X.length:Int) ((X.length+P.length:Nat):Int) ((X.length+P.length+Q.length:Nat):Int) (mid:Int) ((mid+(X.length+P.length):Nat):Int) (lo:=X.length) (hi:=X.length+P.length) (p:=mid+(X.length+P.length)-1) (by omega) (by omega) (by omega) (by omega) (by omega);obtain⟨R,r1,r2⟩:=tail _ _ s (.inr ⟨b1,rfl,rfl⟩) s1 s2 g1 g2;have es':zJ (iX k) ((X.length:Int),(((X.length+P.length:Nat):Int),(((X.length+P.length+Q.length:Nat):Int),(hf (X.length:Int) ((X.length+P.length+Q.length:Nat):Int),(IntKind.wrap .i64 (hf (X.length:Int) ((X.length+P.length+Q.length:Nat):Int)+((X.length+P.length:Nat):Int)),((X.length:Int),
     (((X.length+P.length:Nat):Int),(IntKind.wrap .i64 (IntKind.wrap .i64 (hf (X.length:Int) ((X.length+P.length+Q.length:Nat):Int)+((X.length+P.length:Nat):Int))-1),(L,W)))))))))=some ((X.length:Int),(((X.length+P.length:Nat):Int),(((X.length+P.length+Q.length:Nat):Int),((mid:Int),(((mid+(X.length+P.length):Nat):Int),((s:Int),(L,W))))))):=by rw[w2,w1,hw];exact es
    refine⟨R,af (av (by rw[wP];omega)) (af (av (by rw[wQ];omega)) (af (av (show ¬hf (X.length:Int) ((X.length+P.length+Q.length:Nat):Int)<((X.length+P.length:Nat):Int) by rw[hw];omega)) (ag es' ?_))),r2⟩;exact r1
  .-- one behind
   obtain⟨x,rfl⟩:∃x,Q=[x]:=List.length_eq_one_iff.1 (by omega);have hx:=hQ x (by simp);obtain⟨j,j1,e15,g1,g2⟩:=aeT C (iX k) hL hl hp hx hP;have tP:(P.take j).length=j:=by rw[List.length_take];omega
   have dP:(P.drop j).length=P.length-j:=by rw[List.length_drop]
   have eP:P.take j++P.drop j=P:=List.take_append_drop _ _;have e21:=aeU (W:=W) (Y:=Y) (iX k) (X:=X) (x:=x) (P1:=P.take j) (P2:=P.drop j) (by omega);have eL:X++(P.take j++(P.drop j++(x::Y)))=L:=by rw[hL,<-List.append_assoc (P.take j),eP];rfl
   rw[eL,tP,dP]at e21;have em:X.length+j+(P.length-j)=X.length+P.length:=by omega
   rw[em]at e21;unfold uY;refine⟨(P.take j++[x])++P.drop j,af (av (by rw[wP];omega)) (ao (aj (by rw[wQ];rfl)) (ag e15 (ag e21 ?_))),?_⟩
   .refine(congrArg (fun l:List aZ=>(some (l,W):qc)) ?_);simp only[List.append_assoc,List.cons_append,List.nil_append]
   .have sp:=Pl.kX.1 (by rw[eP];exact hp:dC key (P.take j++P.drop j));have:=BE (key:=key) (P1:=P.take j) (P2:=P.drop j) (Q1:=[x]) (Q2:=[]) (R1:=P.take j++[x]) (R2:=P.drop j) (by rw[eP];exact hp) (by rw[List.append_nil];exact hq) (fun _ _ y hy=>by cases hy) (fun y hy z hz=>by simp at hz;subst hz;exact g2 y hy)
     (cr.refl (Pl.kX.2 ⟨sp.1,hq,fun y hy z hz=>by simp at hz;subst hz;exact g1 y hy⟩)) (by rw[List.append_nil];exact cr.refl sp.2.1)
    rw[eP,List.append_nil]at this;exact this
 .-- one ahead
  obtain⟨x,rfl⟩:∃x,P=[x]:=List.length_eq_one_iff.1 (by omega);have hx:=hP x (by simp);obtain⟨j,j1,e3,g1,g2⟩:=afB C (iX k) hL hl hq hx hQ;have tQ:(Q.take j).length=j:=by rw[List.length_take];omega
  have eQ:Q.take j++Q.drop j=Q:=List.take_append_drop _ _;have e9:=afC (W:=W) (iX k) (X:=X) (x:=x) (Q1:=Q.take j) (Z:=Q.drop j++Y) (by omega);have eL:X++(x::(Q.take j++(Q.drop j++Y)))=L:=by rw[hL,<-List.append_assoc (Q.take j),eQ];rfl
  rw[eL,tQ]at e9;unfold uY;refine⟨Q.take j++(x::Q.drop j),ao (aj (by rw[wP];rfl)) (ag e3 (ag e9 ?_)),?_⟩
  .refine(congrArg (fun l:List aZ=>(some (l,W):qc)) ?_);simp only[List.append_assoc,List.cons_append]
  .have sq:=Pl.kX.1 (by rw[eQ];exact hq:dC key (Q.take j++Q.drop j));have:=BE (key:=key) (P1:=[]) (P2:=[x]) (Q1:=Q.take j) (Q2:=Q.drop j) (R1:=Q.take j) (R2:=x::Q.drop j) hp (by rw[eQ];exact hq) (fun y hy=>by cases hy) (fun y hy z hz=>by simp at hy;subst hy;exact g1 z hz)
    (cr.refl sq.1) (cr.refl (Pl.KY.2 ⟨g2,sq.2.1⟩))
   rw[eQ]at this;exact this
theorem Sc(C:kh W key V):∀k,rJ W key V (iX k) k
 |0=>by intro X P Q Y L A M B h1 h2 h3;omega|k+1=>adv C (Sc C k)
theorem YG(C:kh W key V):rJ W key V Ix 1000000:=by intro X P Q Y L A M B h1 h2 h3;exact Sc C NN X P Q Y L A M B h1 h2 (Nat.le_trans h3 (Nat.le_of_lt (bA (by omega))))
end
open Pl (cr dC)
abbrev iA:=List (List aZ×List aZ)
def f0(bl:iA):List aZ:=bl.flatMap (·.1)
def f1(bl:iA):List aZ:=bl.flatMap (·.2)
def fc(key:aZ->Int)(bs:Nat)(bl:iA):Prop:=∀p∈bl,p.1.length=bs/\cr key p.1 p.2
theorem RB(a b:iA):f0 (a++b)=f0 a++f0 b:=by unfold f0;simp
theorem RC(a b:iA):f1 (a++b)=f1 a++f1 b:=by unfold f1;simp
theorem sw(p:List aZ×List aZ)(b:iA):f0 (p::b)=p.1++f0 b:=rfl
theorem K6(p:List aZ×List aZ)(b:iA):f1 (p::b)=p.2++f1 b:=rfl
theorem vB(p:List aZ×List aZ):f1 [p]=p.2:=by simp[f1]
theorem vC(p:List aZ×List aZ):f0 [p]=p.1:=by simp[f0]
section
variable{W:jf}{key:aZ->Int}{V:aZ->Prop}
theorem fc.nY{bs:Nat}:∀{bl:iA},fc key bs bl->(f0 bl).length=bl.length*bs
 |[],_=>by simp[f0]|p::bl,h=>by rw[sw,List.length_append,(h p (by simp)).1,fc.nY (fun q hq=>h q (by simp[hq])),List.length_cons,Nat.add_mul];omega
theorem fc.nZ{bs:Nat}:∀{bl:iA},fc key bs bl->(f1 bl).length=bl.length*bs
 |[],_=>by simp[f1]|p::bl,h=>by rw[K6,List.length_append,(h p (by simp)).2.len,(h p (by simp)).1,fc.nZ (fun q hq=>h q (by simp[hq])),List.length_cons,Nat.add_mul];omega
theorem fc.app{bs:Nat}{a b:iA}(h:fc key bs a)(g:fc key bs b):fc key bs (a++b):=by
 intro p hp;rcases List.mem_append.1 hp with q|q
 .exact h p q
 .exact g p q
theorem fc.one{bs:Nat}{A A':List aZ}(h:A.length=bs)(g:cr key A A'):fc key bs [(A,A')]:=by intro p hp;simp at hp;subst hp;exact⟨h,g⟩
theorem YJ{A A' B B' R:List aZ}(ha:cr key A A')(hb:cr key B B')(h:cr key (A'++B') R):cr key (A++B) R:=cr.SC (by simp only[List.length_append,ha.len,hb.len]) (fun k=>by rw[Pl.ku,Pl.ku,ha.oq,hb.oq]) h
theorem aew(C:kh W key V){S:List aZ}(hl:S.length<=400000)(hV:∀x∈S,V x) :
  ∃o,VN ((S.length:Int),((20:Int),((0:Int),((20:Int),(S,W)))))=some o/\∃(bl:iA) (R:List aZ),o=((S.length:Int),((20:Int),(((f1 bl).length:Int),(f1 bl++R,W))))/\fc key 20 bl/\S=f0 bl++R/\R.length<20:=by
 unfold VN;delta u16;refine lQ (fun d=>∃(bl:iA) (R:List aZ),d=((S.length:Int),((20:Int),(((f1 bl).length:Int),((((f1 bl).length+20:Nat):Int),(f1 bl++R,W)))))/\fc key 20 bl/\S=f0 bl++R)
  (fun o=>∃(bl:iA) (R:List aZ),o=((S.length:Int),((20:Int),(((f1 bl).length:Int),(f1 bl++R,W))))/\fc key 20 bl/\S=f0 bl++R/\R.length<20) (fun d=>S.length-d.2.2.1.toNat) ?_ NN _ ⟨[],S,rfl,(fun p hp=>by cases hp),rfl⟩ (bA (by omega))
 rintro d ⟨bl,R,rfl,hF,hS⟩;have l0:=hF.nY;have l1:=hF.nZ;have hn:S.length=(f0 bl).length+R.length:=by rw[hS,List.length_append]
 try dsimp only
 unfold IM;rcases Nat.lt_or_ge R.length 20 with q|q
 .left;exact⟨_,af (av (by omega)) rfl,bl,R,rfl,hF,hS,q⟩
 .right;have eR:R.take 20++R.drop 20=R:=List.take_append_drop _ _;have tR:(R.take 20).length=20:=by rw[List.length_take];omega
  obtain⟨A',e1,hA⟩:=RH C (X:=f1 bl) (S:=R.take 20) (Y:=R.drop 20) (L:=f1 bl++R) (A:=((f1 bl).length:Int)) (B:=(((f1 bl).length+20:Nat):Int)) rfl (by rw[tR]) (by rw[eR]) (by rw[List.length_append];omega) (fun y hy=>hV y (by rw[hS];simp[List.mem_of_mem_take hy]));have lA:A'.length=20:=hA.len.trans tR;have ef1:f1 (bl++[(R.take 20,A')])=f1 bl++A':=by rw[RC,vB]
  refine⟨((S.length:Int),((20:Int),(((f1 (bl++[(R.take 20,A')])).length:Int),((((f1 (bl++[(R.take 20,A')])).length+20:Nat):Int),(f1 (bl++[(R.take 20,A')])++R.drop 20,W))))),?_,⟨_,R.drop 20,rfl,hF.app (fc.one tR hA),?_⟩,?_⟩
  .refine ao (aj (by omega)) (ag e1 ?_);have e:∀(u v u' v':Int) (A B:List aZ),u=u'->v=v'->A=B->(some (.inl ((S.length:Int),((20:Int),(u,(v,(A,W)))))):Option (TL zU.σs⊕Out zO))=some (.inl ((S.length:Int),((20:Int),(u',(v',(B,W)))))):=by rintro _ _ _ _ _ _ rfl rfl rfl;rfl
   refine e _ _ _ _ _ _ ?_ ?_ ?_
   .rw[ef1,List.length_append,lA]
   .rw[ef1,List.length_append,lA];exact bG (by omega) (by omega)
   .rw[ef1,List.append_assoc]
  .rw[RB,vC,List.append_assoc,eR];exact hS
  .show S.length-(((f1 (bl++[(R.take 20,A')])).length:Int)).toNat<S.length-(((f1 bl).length:Int)).toNat;rw[ef1,List.length_append,lA];omega
theorem aey(C:kh W key V){S:List aZ}(hl:S.length<=400000)(hV:∀x∈S,V x){bs:Nat}(hbs:20<=bs)(hb2:bs<=400000){bl:iA}{R0 R:List aZ}(hF:fc key bs bl)(hR:cr key R0 R)(hRl:R0.length<bs)(hS:S=f0 bl++R0) :
  ∃o,zW ((S.length:Int),((bs:Int),((0:Int),(((2*bs:Nat):Int),(f1 bl++R,W)))))=some o/\∃(ul bl:iA),o=((S.length:Int),((bs:Int),(((f1 ul).length:Int),(f1 ul++(f1 bl++R),W))))/\fc key (2*bs) ul/\fc key bs bl/\S=f0 ul++(f0 bl++R0)/\(f1 bl).length+R.length<2*bs:=by
 unfold zW;delta u16;refine lQ (fun d=>∃(ul bl:iA),d=((S.length:Int),((bs:Int),(((f1 ul).length:Int),((((f1 ul).length+2*bs:Nat):Int),(f1 ul++(f1 bl++R),W)))))/\fc key (2*bs) ul/\fc key bs bl/\S=f0 ul++(f0 bl++R0))
  (fun o=>∃(ul bl:iA),o=((S.length:Int),((bs:Int),(((f1 ul).length:Int),(f1 ul++(f1 bl++R),W))))/\fc key (2*bs) ul/\fc key bs bl/\S=f0 ul++(f0 bl++R0)/\(f1 bl).length+R.length<2*bs)
  (fun d=>S.length-d.2.2.1.toNat) ?_ NN _ ⟨[],bl,by show _=((S.length:Int),((bs:Int),(((0:Nat):Int),(((0+2*bs:Nat):Int),([]++(f1 bl++R),W)))));rw[Nat.zero_add];rfl,(fun p hp=>by cases hp),hF,hS⟩ (bA (by omega))
 rintro d ⟨ul,bl,rfl,hU,hF,hS⟩;have u0:=hU.nY;have u1:=hU.nZ;have l0:=hF.nY;have l1:=hF.nZ;have lR:=hR.len;have hn:S.length=(f0 ul).length+((f0 bl).length+R0.length):=by rw[hS,List.length_append,List.length_append]
 try dsimp only
 unfold IK;rcases Nat.lt_or_ge ((f1 bl).length+R.length) (2*bs)with q|q
 .left;exact⟨_,af (av (by omega)) rfl,ul,bl,rfl,hU,hF,hS,q⟩
 .right
  match bl,hF,hS,l0,l1,hn,q with
  |[],hF,hS,l0,l1,hn,q=>simp[f1]at q;omega|[p],hF,hS,l0,l1,hn,q=>simp only[List.length_cons,List.length_nil]at l1;omega|p::p2::bl,hF,hS,l0,l1,hn,q=>
   obtain⟨hp1,hp2⟩:=hF p (by simp);obtain⟨hq1,hq2⟩:=hF p2 (by simp);have lp:=hp2.len;have lq:=hq2.len;have hF':fc key bs bl:=fun x hx=>hF x (by simp[hx]);have l0':=hF'.nY;have l1':=hF'.nZ;have eL:f1 ul++(f1 (p::p2::bl)++R)=f1 ul++(p.2++(p2.2++(f1 bl++R))):=by rw[K6,K6];simp only[List.append_assoc]
   have lL:(f1 ul++(f1 (p::p2::bl)++R)).length<=400000:=by simp only[List.length_append];omega
   obtain⟨R1,e1,hR1⟩:=YG C (f1 ul) p.2 p2.2 (f1 bl++R) (f1 ul++(f1 (p::p2::bl)++R)) ((f1 ul).length:Int) (IntKind.wrap .i64 (((f1 ul).length:Int)+(bs:Int))) (((f1 ul).length+2*bs:Nat):Int) (by omega) (by omega) (by omega) rfl (bG (by omega) (by omega)) (by omega) eL lL hp2.nD hq2.nD
    (fun x hx=>hV x (by rw[hS,sw];simp[hp2.mem.1 hx])) (fun x hx=>hV x (by rw[hS,sw,sw];simp[hq2.mem.1 hx]))
   have lR1:R1.length=2*bs:=by rw[hR1.len,List.length_append];omega
   have hSS:cr key (p.1++p2.1) R1:=YJ hp2 hq2 hR1;have ef1:f1 (ul++[(p.1++p2.1,R1)])=f1 ul++R1:=by rw[RC,vB]
   refine⟨((S.length:Int),((bs:Int),(((f1 (ul++[(p.1++p2.1,R1)])).length:Int),((((f1 (ul++[(p.1++p2.1,R1)])).length+2*bs:Nat):Int),(f1 (ul++[(p.1++p2.1,R1)])++(f1 bl++R),W))))),?_,⟨_,bl,rfl,hU.app (fc.one (by rw[List.length_append];omega) hSS),hF',?_⟩,?_⟩
   .refine ao (aj (by simp only[List.length_cons]at *;omega)) (ag e1 ?_);have e:∀(u v u' v':Int) (A B:List aZ),u=u'->v=v'->A=B->(some (.inl ((S.length:Int),((bs:Int),(u,(v,(A,W)))))):Option (TL zS.σs⊕Out zM))=some (.inl ((S.length:Int),((bs:Int),(u',(v',(B,W)))))):=by rintro _ _ _ _ _ _ rfl rfl rfl;rfl
    refine e _ _ _ _ _ _ ?_ ?_ ?_
    .rw[ef1,List.length_append,lR1]
    .rw[ef1,List.length_append,lR1];have w2:IntKind.wrap .i64 ((2:Int)*(bs:Int))=((2*bs:Nat):Int):=bG (by omega) (by omega);have:IntKind.wrap .i64 ((((f1 ul).length+2*bs:Nat):Int)+IntKind.wrap .i64 ((2:Int)*(bs:Int)))=(((f1 ul).length+2*bs+2*bs:Nat):Int):=by rw[w2];exact bG (by omega) (by omega)
     exact this
    .rw[ef1,List.append_assoc]
   .rw[RB,vC,hS,sw,sw];simp only[List.append_assoc]
   .show S.length-(((f1 (ul++[(p.1++p2.1,R1)])).length:Int)).toNat<S.length-(((f1 ul).length:Int)).toNat;rw[ef1,List.length_append,lR1];simp only[List.length_cons]at *
    omega
end
section
variable{W:jf}{key:aZ->Int}{V:aZ->Prop}
theorem aex(C:kh W key V){S:List aZ}(hl:S.length<=100000)(hV:∀x∈S,V x){bl:iA}{R0 R:List aZ}(hF:fc key 20 bl)(hR:cr key R0 R)(hRl:R0.length<20)(hS:S=f0 bl++R0) :
  ∃o,VM ((S.length:Int),((20:Int),(f1 bl++R,W)))=some o/\∃S',o=(S',W)/\cr key S S':=by
 unfold VM;delta fX;refine lQ (fun d=>∃(bs:Nat) (bl:iA) (R0 R:List aZ),d=((S.length:Int),((bs:Int),(f1 bl++R,W)))/\20<=bs/\bs<=400000/\fc key bs bl/\cr key R0 R/\R0.length<bs/\S=f0 bl++R0)
  (fun o=>∃S',o=(S',W)/\cr key S S') (fun d=>S.length-d.2.1.toNat) ?_ NN _ ⟨20,bl,R0,R,rfl,Nat.le_refl _,by decide,hF,hR,hRl,hS⟩ (bA (by omega))
 rintro d ⟨bs,bl,R0,R,rfl,hbs,hb2,hF,hR,hRl,hS⟩;have l0:=hF.nY;have l1:=hF.nZ;have lR:=hR.len;have hn:S.length=(f0 bl).length+R0.length:=by rw[hS,List.length_append]
 try dsimp only
 unfold IL;rcases Nat.lt_or_ge bs S.length with q|q
 .right;obtain⟨o,e9,ul,bl',rfl,hU,hF',hS',hlt⟩:=aey C (by omega) hV hbs hb2 hF hR hRl hS;have u0:=hU.nY;have u1:=hU.nZ;have l0':=hF'.nY;have l1':=hF'.nZ;have hn':S.length=(f0 ul).length+((f0 bl').length+R0.length):=by rw[hS',List.length_append,List.length_append]
  have w2:IntKind.wrap .i64 ((2:Int)*(bs:Int))=((2*bs:Nat):Int):=bG (by omega) (by omega);have w3:IntKind.wrap .i64 ((bs:Int)*(2:Int))=((2*bs:Nat):Int):=bG (by omega) (by omega);have wm:IntKind.wrap .i64 (((f1 ul).length:Int)+(bs:Int))=(((f1 ul).length+bs:Nat):Int):=bG (by omega) (by omega);have e9':zW ((S.length:Int),((bs:Int),((0:Int),(IntKind.wrap .i64 ((2:Int)*(bs:Int)),(f1 bl++R,W)))))=some ((S.length:Int),((bs:Int),(((f1 ul).length:Int),(f1 ul++(f1 bl'++R),W)))):=by rw[w2];exact e9
  have e:∀(u u':Int) (A B:List aZ),u=u'->A=B->(some (.inl ((S.length:Int),(u,(A,W)))):Option (TL zT.σs⊕Out zN))=some (.inl ((S.length:Int),(u',(B,W)))):=by rintro _ _ _ _ rfl rfl;rfl
  rcases Nat.lt_or_ge bs ((f1 bl').length+R.length)with g|g
  .match bl',hF',hS',l0',l1',hn',hlt,g,e9' with
   |[],hF',hS',l0',l1',hn',hlt,g,e9'=>simp[f1]at g;omega|p::p2::bl',hF',hS',l0',l1',hn',hlt,g,e9'=>simp only[List.length_cons,Nat.add_mul]at l1';omega|[p],hF',hS',l0',l1',hn',hlt,g,e9'=>
    obtain⟨hp1,hp2⟩:=hF' p (by simp);have lp:=hp2.len;rw[vB]at g l1' hlt e9';rw[vC]at l0' hS' hn';simp only[List.length_cons,List.length_nil]at l1' l0';have lL:(f1 ul++(p.2++R)).length<=400000:=by simp only[List.length_append];omega
    obtain⟨R1,e1,hR1⟩:=YG C (f1 ul) p.2 R [] (f1 ul++(p.2++R)) ((f1 ul).length:Int) (IntKind.wrap .i64 (((f1 ul).length:Int)+(bs:Int))) (S.length:Int) (by omega) (by omega) (by omega) rfl (by rw[wm];congr 2;omega) (by congr 1;omega) (by rw[List.append_nil]) lL hp2.nD hR.nD
     (fun x hx=>hV x (by rw[hS'];simp[hp2.mem.1 hx])) (fun x hx=>hV x (by rw[hS'];simp[hR.mem.1 hx]))
    refine⟨((S.length:Int),(((2*bs:Nat):Int),(f1 ul++R1,W))),ao (aj (by omega)) (ag e9' (ao (aj (show IntKind.wrap .i64 (((f1 ul).length:Int)+(bs:Int))<(S.length:Int) by rw[wm];omega)) (ag e1 (e _ _ _ _ w3 (by rw[List.append_nil]))))),⟨2*bs,ul,p.1++R0,R1,rfl,by omega,by omega,hU,YJ hp2 hR hR1,by simp only[List.length_append];omega,hS'⟩,?_⟩;show S.length-(((2*bs:Nat):Int)).toNat<S.length-((bs:Int)).toNat;omega
  .-- one block at most,and nothing behind it
   have hrest:cr key (f0 bl'++R0) (f1 bl'++R):=by
    match bl',hF',l1',g with
    |[],hF',l1',g=>exact hR|[p],hF',l1',g=>obtain⟨hp1,hp2⟩:=hF' p (by simp);rw[vB]at g l1' |-;rw[vC];simp only[List.length_cons,List.length_nil]at l1';have h0:R0=[]:=List.eq_nil_of_length_eq_zero (by omega);have h1:R=[]:=List.eq_nil_of_length_eq_zero (by omega);rw[h0,h1,List.append_nil,List.append_nil];exact hp2
    |p::p2::bl',hF',l1',g=>simp only[List.length_cons,Nat.add_mul]at l1';omega
   refine⟨((S.length:Int),(((2*bs:Nat):Int),(f1 ul++(f1 bl'++R),W))),ao (aj (by omega)) (ag e9' (af (av (show ¬IntKind.wrap .i64 (((f1 ul).length:Int)+(bs:Int))<(S.length:Int) by rw[wm];omega)) (e _ _ _ _ w3 rfl))),⟨2*bs,ul,f0 bl'++R0,f1 bl'++R,rfl,by omega,by omega,hU,hrest,by simp only[List.length_append];omega,hS'⟩,?_⟩;show S.length-(((2*bs:Nat):Int)).toNat<S.length-((bs:Int)).toNat;omega
 .left;refine⟨(f1 bl++R,W),af (av (by omega)) rfl,_,rfl,?_⟩;rw[hS]
  match bl,hF,l0,l1,hn with
  |[],hF,l0,l1,hn=>exact hR|[p],hF,l0,l1,hn=>obtain⟨hp1,hp2⟩:=hF p (by simp);rw[vC]at hn l0 |-;rw[vB];simp only[List.length_cons,List.length_nil]at l0;have h0:R0=[]:=List.eq_nil_of_length_eq_zero (by omega);have h1:R=[]:=List.eq_nil_of_length_eq_zero (by omega);rw[h0,h1,List.append_nil,List.append_nil];exact hp2
  |p::p2::bl,hF,l0,l1,hn=>simp only[List.length_cons,Nat.add_mul]at l0;omega
theorem aln(C:kh W key V){S:List aZ}(hl:S.length<=100000)(hV:∀x∈S,V x):∃S',ah1 (S,W)=some (S',W)/\cr key S S':=by
 obtain⟨o,e2,bl,R,rfl,hF,hS,hR⟩:=aew C (by omega) hV;have l0:=hF.nY;have l1:=hF.nZ;have hn:S.length=(f0 bl).length+R.length:=by
  have:=congrArg List.length hS
  rwa [List.length_append]at this
 obtain⟨R',e3,hR'⟩:=RH C (X:=f1 bl) (S:=R) (Y:=[]) (L:=f1 bl++R) (A:=((f1 bl).length:Int)) (B:=(S.length:Int)) rfl (by congr 1;omega) (by rw[List.append_nil]) (by rw[List.length_append];omega) (fun y hy=>hV y (by rw[hS];simp[hy]));obtain⟨o,e7,S',rfl,hS'⟩:=aex C hl hV hF hR' (by omega) hS;rw[List.append_nil]at e3;have e:aiW ((S.length:Int),(S,W))=some (S',W):=ag e2 (ag e3 (ag e7 rfl));exact⟨S',ag e rfl,hS'⟩
end
open Go.Proofs.YtkcpdpplobhpaaaGreat.Pl
theorem KZ{R:Type}{a b:Bool}{y z:Option R}(ha:a=true)(h:ai b y=z):ai (both a b) y=z:=by subst ha;exact h
theorem adK(a b:Int):∃c:Int,J7 (a,(b,()))=some (c,())/\(c<0↔a<b):=by
 have nn:∀x:Int,XG (x,())=some (false,()):=fun x=>by
  show Kf x=_;unfold Kf;have e:∀b:Bool,b=true->(some (Bool.not b,()):Option (TL Bg))=some (false,()):=by rintro _ rfl;rfl
  exact e _ (aj rfl)
 have un:∀c:Option (TL Bc),vi XG a b=c->J7 (a,(b,()))=c:=fun c h=>h;rcases Int.lt_trichotomy a b with h|h|h
 .refine⟨-1,un _ ?_,by omega⟩;unfold vi;exact ag (nn a) (ag (nn b) (af rfl (af rfl (ao (aj h) rfl))))
 .refine⟨0,un _ ?_,by omega⟩;unfold vi;exact ag (nn a) (ag (nn b) (af rfl (af rfl (af (av (by omega)) (af (av (by omega)) rfl)))))
 .refine⟨1,un _ ?_,by omega⟩;unfold vi;exact ag (nn a) (ag (nn b) (af rfl (af rfl (af (av (by omega)) (ao (aj h) rfl)))))
def wR(n:ax)(of m lv:List Int):jf:=(n.vars,(n.aJ,(n.au.map bL,(n.bJ,(n.ba,(n.constraints,(n.aa.map aq,(n.aM.map dj,(of,(m,(lv,())))))))))))
def nI(n:ax)(x:aZ):bp:=
 match x.1 with
 |true=>(match n.aa[x.2.1.toNat]? with|some M=>(match M.reads[x.2.2.1.toNat]? with|some r=>oL M.word r|none=>⟨[],[]⟩)|none=>⟨[],[]⟩)
 |false=>(match n.aM[x.2.2.1.toNat]? with|some a=>oV a|none=>⟨[],[]⟩)
theorem afS{n:ax}{y:bz}{i:bp}(h:y.is n i):nI n (cY y)=i:=by
 rcases h with⟨h,a,ha,rfl⟩|⟨h,M,r,hM,hr,rfl⟩
 .unfold nI cY;simp only[h,Int.toNat_natCast,ha]
 .unfold nI cY;simp only[h,Int.toNat_natCast,hM,hr]
def lk(lv:List Int)(i:bp):Int:=aB lv (i.to.headD 0).toNat
theorem Sd{n:ax}{of m lv:List Int}{L:List aZ}{x:bz}{i:bp}(h:x.is n i)(ft:Fit n)(hw:∀M∈n.aa,0<=M.word) :
  v7 (x.rd,((x.mem:Int),((x.pos:Int),lI (wR n of m lv) L)))=some (i.to,lI (wR n of m lv) L):=by
 show wx Nr x.rd (x.mem:Int) (x.pos:Int) n.vars n.aJ (n.au.map bL) n.bJ n.ba n.constraints (n.aa.map aq) (n.aM.map dj) of L m lv=_;unfold wx;rcases h with⟨h,a,ha,rfl⟩|⟨h,M,r,hM,hr,rfl⟩
 .have ha':(n.aM.map dj)[x.pos]?=some (dj a):=by rw[List.getElem?_map,ha];rfl
  have hl:=dy ha';rw[h,fe rfl,dI (aN ⟨by omega,by omega⟩),bn ha'];rfl
 .have hM':(n.aa.map aq)[x.mem]?=some (aq M):=by rw[List.getElem?_map,hM];rfl
  have hl:=dy hM';have hmem:=List.mem_of_getElem? hM;have hf:=ft.aa.2 M hmem;have hr2:=hf.jW r (List.mem_of_getElem? hr);rw[h,ib rfl,dI (aN ⟨by omega,by omega⟩),bn hM'];exact(bT (Tt M x.pos r hr ⟨hw M hmem,hf.word.2⟩ ⟨hr2.2.1,hr2.2.2.1⟩)).trans rfl
theorem afK{n:ax}{V:Nat}(hs:cq n V)(ft:Fit n){of m lv:List Int}(hl:lv.length=V+1)(key:aZ->Int)(hk:∀x∈n6 n,key (cY x.1)=lk lv x.2)(his:∀x∈n6 n,x.1.is n x.2) :
  kh (wR n of m lv) key (fun x=>∃y∈n6 n,x=cY y.1):=by
 refine⟨fun L x y hx hy=>?_⟩;obtain⟨x,hx,rfl⟩:=hx;obtain⟨y,hy,rfl⟩:=hy;have hw:∀M∈n.aa,0<=M.word:=fun M hM=>by have:=(hs.aa M hM).2.2.1;omega
 have hd:∀z∈n6 n,∃(v:Nat) (t:List Int),z.2.to=(v:Int)::t/\v<=V/\key (cY z.1)=aB lv v:=by
  intro z hz;have hm:z.2∈fh n:=by rw[<-sr];exact List.mem_map_of_mem hz
  have h1:=hs.Lz hm;have h2:=hk z hz;unfold lk at h2
  match e:z.2.to with|[]=>exact absurd e h1|v::t=>have h3:=hs.lO hm (v:=v) (by rw[e];simp);obtain⟨u,hu⟩:=Int.eq_ofNat_of_zero_le (show 0<=v by omega);rw[e,List.headD_cons,hu,Int.toNat_natCast]at h2;exact⟨u,t,by rw[hu],by omega,h2⟩
 obtain⟨vx,tx,ex,bx,kx⟩:=hd x hx;obtain⟨vy,ty,ey,bY,ky⟩:=hd y hy;have f1:=Sd (of:=of) (m:=m) (lv:=lv) (L:=L) (his x hx) ft hw;have f2:=Sd (of:=of) (m:=m) (lv:=lv) (L:=L) (his y hy) ft hw;obtain⟨c,hc,hiff⟩:=adK (aB lv vx) (aB lv vy);refine⟨c,?_,by rw[kx,ky];exact hiff⟩;have g0:gt (.int .i64) x.2.to (0:Int)=(vx:Int):=bn (σ:=.int .i64) (i:=0) (by rw[ex];rfl);have g1:gt (.int .i64) y.2.to (0:Int)=(vy:Int):=bn (σ:=.int .i64) (i:=0) (by rw[ey];rfl);have gx:gt (.int .i64) lv (vx:Int)=aB lv vx:=bn (σ:=.int .i64) (uQ (by omega));have gy:gt (.int .i64) lv (vy:Int)=aB lv vy:=bn (σ:=.int .i64) (uQ (by omega));have ix:aw (vx:Int) (List.length lv)=true:=aN ⟨by omega,by omega⟩;have iy:aw (vy:Int) (List.length lv)=true:=aN ⟨by omega,by omega⟩;have nx:aw (0:Int) (List.length x.2.to)=true:=aN ⟨by omega,by rw[ex];simp⟩;have ny:aw (0:Int) (List.length y.2.to)=true:=aN ⟨by omega,by rw[ey];simp⟩;have jx:aw (gt (.int .i64) x.2.to (0:Int)) (List.length lv)=true:=by rw[g0];exact ix
 have jy:aw (gt (.int .i64) y.2.to (0:Int)) (List.length lv)=true:=by rw[g1];exact iy
 have hc':J7 ((gt (.int .i64) lv (gt (.int .i64) x.2.to (0:Int))),((gt (.int .i64) lv (gt (.int .i64) y.2.to (0:Int))),()))=some (c,()):=by rw[g0,g1,gx,gy];exact hc
 refine ag f1 (ak nx (ak jx (KZ (aj rfl) (KZ (aj rfl) (KZ (aj rfl) (ak rfl (ag f2 (ak ny (ak jy (ak nx (ak (aj rfl) (ak (aj rfl) (ak jx (ak (aj rfl) (ak (aj rfl) (ag hc' rfl))))))))))))))))
theorem RU(n:ax):(n6 n).map (fun x:bz×bp=>x.1)=dG n:=by
 unfold n6 A6 M6 dG;rw[List.map_append,List.take_length,List.take_length];congr 1
 .exact List.map_fst_zip (by rw[tf,List.length_map];omega)
 .exact List.map_fst_zip (by rw[tc];omega)
theorem Gq(n:ax){x:bz×bp}(h:x∈n6 n):x.1.is n x.2:=by
 obtain⟨i,hi⟩:=List.getElem?_of_mem h;have h1:(dG n)[i]?=some x.1:=by rw[<-RU,List.getElem?_map,hi];rfl
 have h2:(fh n)[i]?=some x.2:=by rw[<-sr,List.getElem?_map,hi];rfl
 obtain⟨y,e,hy⟩:=G0 n h1;rw[h2]at e;injection e with e;rw[e];exact hy
def lvl(n:ax)(V:Nat):List Int:=ie (aV n) ((n6 n).length+1) (iF (aV n) V)
def aU(n:ax)(V:Nat):List (bz×bp):=(List.range (n6 n).length).flatMap fun(i:Nat)=>(n6 n).filter fun x=>decide (lk (lvl n V) x.2=(i:Int)+1)
theorem RQ{n:ax}{V:Nat}(hs:cq n V){v k:Nat}(hv:v<=V)(hl:cK (aV n) v k):aB (lvl n V) v=(k:Int):=by
 unfold lvl;have:(n6 n).length=(aV n).length:=by rw[<-rO,List.length_map]
 rw[this];exact akA hs.apart hs.aT hv hl
theorem YW{n:ax}{V:Nat}(hs:cq n V){x:bz×bp}(h:x∈n6 n):(x.2.to.headD 0).toNat<=V/\(x.2.to.headD 0).toNat∈x.2.nd.to/\x.2.nd∈aV n:=by
 have hm:x.2∈fh n:=by rw[<-sr];exact List.mem_map_of_mem h
 have h1:=hs.Lz hm;refine⟨?_,?_,?_⟩
 .match e:x.2.to with|[]=>exact absurd e h1|v::t=>have h3:=hs.lO hm (v:=v) (by rw[e];simp);rw[List.headD_cons];omega
 .unfold bp.nd
  match e:x.2.to with|[]=>exact absurd e h1|v::t=>simp
 .unfold aV;exact List.mem_map_of_mem hm
theorem ae6{n:ax}{V:Nat}(hs:cq n V)(ha:eO (aV n) V=true){x:bz×bp}(h:x∈n6 n):1<=lk (lvl n V) x.2/\lk (lvl n V) x.2<=((n6 n).length:Int):=by
 obtain⟨h1,h2,h3⟩:=YW hs h;obtain⟨k,hk⟩:=(zb hs.apart V).1 ha _ h1;unfold lk;rw[RQ hs h1 hk];have:(n6 n).length=(aV n).length:=by rw[<-rO,List.length_map]
 have hle:=hk.le hs.apart;obtain⟨f,_,e⟩:=hk.inv hs.apart h3 h2;omega
theorem aky{n:ax}{V:Nat}(hs:cq n V)(ft:Fit n)(h0:dt n=0) :
  akz (bc n,())=some (if eO (aV n) V then((aU n V).map (fun x=>cY x.1),(true,()))else([],(false,()))):=by
 have es:lj (bc n,())=some (dt n,()):=by unfold lj;rw[show dS ((bc n,()):TL [bg]).1=n from lE n,zf ft];rfl
 have ew:=YP hs ft;obtain⟨m,lv,ea,hlv⟩:=Rx hs ft;by_cases ha:eO (aV n) V=true
 .obtain⟨hll,hlv⟩:=hlv ha;have et:wz (nt n ())=some (.inr ((0:Int),wk n V m lv)):=by refine ag es (af (by rw[h0];rfl) (ag ew (ag ea (af (by rw[ha];rfl) rfl))))
  rw[if_pos ha]
  let key:aZ->Int:=fun x=>lk (lvl n V) (nI n x)
  have hkey:∀x∈n6 n,key (cY x.1)=lk (lvl n V) x.2:=fun x hx=>by show lk (lvl n V) (nI n (cY x.1))=_;rw[afS (Gq n hx)]
  have hk:∀x∈n6 n,key (cY x.1)=lk lv x.2:=fun x hx=>by rw[hkey x hx];obtain⟨h1,h2,h3⟩:=YW hs hx;unfold lk;obtain⟨k,e1,e2⟩:=hlv _ h1;rw[e1,RQ hs h1 e2]
  have hN:(dG n).map cY=(n6 n).map (fun x=>cY x.1):=by rw[<-RU,List.map_map];rfl
  have hlen:(n6 n).length<=3000:=(yT hs).len;obtain⟨S',e1,hS⟩:=aln (afK hs ft (of:=fb (aV n) V (aV n).length) (m:=m) hll key hk (fun x hx=>Gq n hx)) (S:=(dG n).map cY) (by rw[hN,List.length_map];omega) (fun x hx=>by rw[hN]at hx;obtain⟨y,hy,rfl⟩:=List.mem_map.1 hx;exact⟨y,hy,rfl⟩);have hS':S'=(aU n V).map (fun x=>cY x.1):=by
   refine(hS.flat (n6 n).length (fun x hx=>?_)).trans ?_
   .rw[hN]at hx;obtain⟨y,hy,rfl⟩:=List.mem_map.1 hx;rw[hkey y hy];exact ae6 hs ha hy
   .unfold aU;rw[List.map_flatMap,hN];congr 1;funext i;unfold fk;rw[List.filter_map];congr 1;refine List.filter_congr fun x hx=>?_;show decide (key (cY x.1)=_)=_;rw[hkey x hx]
  rw[<-hS'];refine ag et (af rfl ?_);exact ag e1 rfl
 .rw[if_neg ha];have hc:eO (aV n) V=false:=by simpa using ha
  have et:wz (nt n ())=some (.inl ((8:Int),())):=by refine ag es (af (by rw[h0];rfl) (ag ew (ag ea (ao (by rw[hc];rfl) rfl))))
  exact ag et (ak rfl rfl)
def cw(l:Int)(v:List Bool):Bool:=if l<0 then false else(decide (l % 2=1)) != (decide (0<l / 2)&&(v.getD (l / 2).toNat false))
theorem acB{l:Int}(h:0<=l)(h2:l<9223372036854775808):lM .i64 l 1=l % 2:=by
 obtain⟨n,rfl⟩:=Int.eq_ofNat_of_zero_le h;unfold lM;have e:(BitVec.ofInt (IntKind.i64).bits (n:Int) &&& BitVec.ofInt (IntKind.i64).bits 1).toNat=n % 2:=by
  rw[BitVec.toNat_and,BitVec.toNat_ofInt,BitVec.toNat_ofInt];have e1:(((n:Int) % ((2^(IntKind.i64).bits:Nat):Int)).toNat)=n:=by rw[Int.emod_eq_of_lt (by omega) (by show(n:Int)<((2^64:Nat):Int);omega)];rfl
  rw[e1];show n &&& 1=n % 2;exact Nat.and_one_is_mod n
 rw[e,bK (by omega)];omega
theorem acA{w:Int}(h:0<=w)(h2:w<18446744073709551616):lM .u64 w 1=w % 2:=by
 obtain⟨n,rfl⟩:=Int.eq_ofNat_of_zero_le h;unfold lM;have e:(BitVec.ofInt (IntKind.u64).bits (n:Int) &&& BitVec.ofInt (IntKind.u64).bits 1).toNat=n % 2:=by
  rw[BitVec.toNat_and,BitVec.toNat_ofInt,BitVec.toNat_ofInt];have e1:(((n:Int) % ((2^(IntKind.u64).bits:Nat):Int)).toNat)=n:=by rw[Int.emod_eq_of_lt (by omega) (by show(n:Int)<((2^64:Nat):Int);omega)];rfl
  rw[e1];show n &&& 1=n % 2;exact Nat.and_one_is_mod n
 rw[e,jE (by omega)];omega
theorem afa{l:Int}(h:0<=l)(h2:l<9223372036854775808):Yo (l,())=some (decide (l % 2=1),()):=by show KT l=_;unfold KT;rw[acB h h2];rfl
theorem Ls{v:List Bool}{i:Int}(h:0<=i):gt .bool v i=v.getD i.toNat false:=by unfold gt;rfl
theorem ql(l:Int)(v:List Bool)(h2:l<9223372036854775808):jA (l,(v,()))=some (cw l v,()):=by
 show KP Yo wt l v=_;unfold KP cw;by_cases h:l<0
 .rw[if_pos h];exact ao (aj h) rfl
 .rw[if_neg h];refine af (av h) (ag (Tv l) (ag (afa (by omega) h2) ?_));have e:∀a b c:Bool,b=c->(some (Bool.not (@decide _ (Bool.decEq a b)),()):Option (TL BH))=some (a != c,()):=by rintro a b _ rfl;cases a<;>cases b<;>rfl
  by_cases h0:0<l / 2
  .refine ao (aj h0) ?_;by_cases h1:l / 2<(v.length:Int)
   .refine ao (aj h1) (ak (aN ⟨by omega,h1⟩) (e _ _ _ ?_));rw[decide_eq_true h0];show gt .bool v (l / 2)=_;rw[Ls (by omega)];rfl
   .refine af (av h1) (e _ _ _ ?_);rw[decide_eq_true h0,List.getD_eq_getElem?_getD,List.getElem?_eq_none (by omega)];rfl
  .refine af (av h0) (e _ _ _ ?_);rw[decide_eq_false h0];rfl
def cp:List Bool->Nat
 |[]=>0|b::l=>(if b then 1 else 0)+2*cp l
theorem KX(l:List Bool)(b:Bool):cp (l++[b])=cp l+(if b then 2^l.length else 0):=by
 induction l with
 |nil=>cases b<;>rfl
 |cons c l ih=>rw[List.cons_append,cp,ih,cp,List.length_cons,Nat.pow_succ];cases b<;>simp<;>omega
theorem lZ(l:List Bool):cp l<2^l.length:=by induction l with|nil=>decide|cons c l ih=>rw[cp,List.length_cons,Nat.pow_succ];split<;>omega
theorem Gr{i:Nat}(h:i<64):(2:Nat)^i<=9223372036854775808:=by have:(2:Nat)^i<=2^63:=Nat.pow_le_pow_right (by decide) (by omega);exact this
theorem Re{w i:Nat}(hi:i<64)(hw:w<2^i):sE .u64 (w:Int) (IntKind.wrap .u64 ((1:Int)*(HPow.hPow (2:Int) (Min.min (Int.toNat (i:Int)) 64))))=((w+2^i:Nat):Int):=by
 have hp:=Gr hi;have e1:((1:Int)*(HPow.hPow (2:Int) (Min.min (Int.toNat (i:Int)) 64)))=((2^i:Nat):Int):=by rw[Int.one_mul,Int.toNat_natCast,Nat.min_eq_left (by omega)];simp
 rw[e1,jE (by omega)];unfold sE;have e2:∀n:Nat,n<18446744073709551616->(BitVec.ofInt (IntKind.u64).bits (n:Int)).toNat=n:=by intro n hn;rw[BitVec.toNat_ofInt,Int.emod_eq_of_lt (by omega) (by show(n:Int)<((2^64:Nat):Int);omega)];rfl
 have e3:w ||| 2^i=w+2^i:=by rw[Nat.or_comm,Nat.add_comm];have:=Nat.two_pow_add_eq_or_of_lt hw 1;rw[Nat.mul_one]at this;exact this.symm
 rw[BitVec.toNat_or,e2 _ (by omega),e2 _ (by omega),e3,jE (by omega)]
theorem KW(l:List Int)(v:List Bool)(hl:l.length<=64)(hr:∀x∈l,x<9223372036854775808):qh (l,(v,()))=some ((cp (l.map (cw · v)):Int),()):=by
 show KB jA Bt l v=_;unfold KB;have es:cQ (iL (64:Int) (Int.ofNat (List.length l))) (64:Int) (Int.ofNat (List.length l))=(l.length:Int):=by have q:iL (64:Int) (Int.ofNat (List.length l))=false:=av (by show ¬(64:Int)<(l.length:Int);omega);rw[q];rfl
 have et:List.take (Int.toNat (cQ (iL (64:Int) (Int.ofNat (List.length l))) (64:Int) (Int.ofNat (List.length l)))) l=l:=by rw[es,Int.toNat_natCast,List.take_length]
 have eL:Bt (v,((0:Int),(l,((l.length:Int),((0:Int),())))))=some ((cp (l.map (cw · v)):Int),()):=by
  unfold Bt;delta u5;refine cP (fun k:Nat=>(v,((cp ((l.take k).map (cw · v)):Int),(l,((l.length:Int),((k:Int),())))))) l.length rfl ?_ ?_ (bA (by omega))
  .intro k hk;have hx:=List.getElem?_eq_getElem hk;have hm:=hr _ (List.getElem_mem hk)
   try dsimp only
   unfold Bu;have e1:=ql l[k] v hm;have e1':jA ((gt (.int .i64) l (k:Int)),(v,()))=some (cw l[k] v,()):=by rw[bn (σ:=.int .i64) hx];exact e1
   have ht:(l.take (k+1)).map (cw · v)=(l.take k).map (cw · v)++[cw l[k] v]:=by rw[Pl.dm hx,List.map_append];rfl
   have hk2:((l.take k).map (cw · v)).length=k:=by rw[List.length_map,List.length_take];omega
   have hw:=lZ ((l.take k).map (cw · v));rw[hk2]at hw;have e:∀(a b p q:Int),a=b->p=q->(some (.inl (v,(a,(l,((l.length:Int),(p,())))))):Option (TL Bk.σs⊕Out Bh))=some (.inl (v,(b,(l,((l.length:Int),(q,())))))):=by rintro _ _ _ _ rfl rfl;rfl
   refine ao (aj (by omega)) (ak (aN ⟨by omega,by omega⟩) (ag e1' ?_));rw[ht,KX,hk2];cases hb:cw l[k] v
   .refine af rfl (e _ _ _ _ ?_ (bG (by omega) (by omega)));rfl
   .refine ao rfl (ak (aj (by omega)) (e _ _ _ _ (Re (by omega) hw) (bG (by omega) (by omega))))
  .try dsimp only
   unfold Bu;rw[List.take_length];exact af (av (by omega)) rfl
 refine ak ?_ ?_
 .rw[es];show both (decide _) (decide _)=true;rw[decide_eq_true (by omega),decide_eq_true (by show(l.length:Int)<=(l.length:Int);omega)];rfl
 .have eT:∀L:List Int,L=l->Bt (v,((0:Int),(L,((Int.ofNat (List.length L)),((0:Int),())))))=some ((cp (l.map (cw · v)):Int),()):=by rintro _ rfl;exact eL
  exact ag (eT _ et) rfl
theorem alj(l:List Bool)(hl:l.length<=64):J9 (l,())=some ((cp l:Int),()):=by
 have eL:JI (l,((0:Int),((1:Int),((0:Int),()))))=some ((cp l:Int),()):=by
  unfold JI;delta u4;refine cP (fun k:Nat=>(l,((cp (l.take k):Int),((if k=64 then(0:Int)else((2^k:Nat):Int)),((k:Int),()))))) l.length rfl ?_ ?_ (bA (by omega))
  .intro k hk;have hx:=List.getElem?_eq_getElem hk;have ht:l.take (k+1)=l.take k++[l[k]]:=Pl.dm hx;have hk2:(l.take k).length=k:=by rw[List.length_take];omega
   have hw:=lZ (l.take k);rw[hk2]at hw;have hp:=Gr (i:=k) (by omega);have e:∀(a b c c' p q:Int),a=b->c=c'->p=q->(some (.inl (l,(a,(c,(p,()))))):Option (TL AM.σs⊕Out Az))=some (.inl (l,(b,(c',(q,()))))):=by rintro _ _ _ _ _ _ rfl rfl rfl;rfl
   try dsimp only
   rw[if_neg (show ¬k=64 by omega)];unfold AZ;refine ao (aj (show(k:Int)<(l.length:Int) by omega)) (ao (aj (show(k:Int)<64 by omega)) (ak (aN ⟨by omega,by omega⟩) ?_));have g:gt .bool l (k:Int)=l[k]:=bn (σ:=.bool) hx;have e2:IntKind.wrap .u64 (((2^k:Nat):Int)*(2:Int))=(if k+1=64 then(0:Int)else((2^(k+1):Nat):Int)):=by
    by_cases q:k+1=64
    .have:k=63:=by omega
     subst this;rfl
    .rw[if_neg q];have:=Gr (i:=k+1) (by omega);rw[Nat.pow_succ]at this |-;rw[jE (by omega)];omega
   rw[ht,KX,hk2,g];cases l[k]
   .exact af rfl (e _ _ _ _ _ _ rfl e2 (bG (by omega) (by omega)))
   .exact ao rfl (e _ _ _ _ _ _ (by rw[jE (by omega)];simp) e2 (bG (by omega) (by omega)))
  .try dsimp only
   unfold AZ;rw[List.take_length];exact af (av (show ¬(l.length:Int)<(l.length:Int) by omega)) rfl
 show JX JI l=_;unfold JX;exact ag eL rfl
theorem Gt(P:List Bool)(z:Bool)(h:P.length<=10000000):room 1 (List.length (P++(z::[])))=true:=by rw[List.length_append,List.length_cons,List.length_nil];exact kr (by omega) (by omega)
def bN(w n:Nat):List Bool:=(List.range n).map fun i=>decide (w / 2^i % 2=1)
theorem j7(w n:Nat):(bN w n).length=n:=by simp[bN]
theorem Yr(w n:Nat):bN w (n+1)=bN w n++[decide (w / 2^n % 2=1)]:=by unfold bN;rw[List.range_succ,List.map_append];rfl
theorem aeW{q:Nat}(h:q<18446744073709551616):(iQ (lM .u64 (q:Int) (1:Int)) (1:Int))=decide (q % 2=1):=by rw[acA (by omega) (by omega)];show decide _=decide _;congr 1;apply propext;omega
theorem aeH(q:Nat):(iQ (Int.tmod (q:Int) (2:Int)) (1:Int))=decide (q % 2=1):=by rw[Int.tmod_eq_emod_of_nonneg (by omega)];show decide _=decide _;congr 1;apply propext;omega
theorem aeF{q:Nat}(h:q<18446744073709551616):IntKind.wrap .u64 (Int.tdiv (q:Int) (2:Int))=((q / 2:Nat):Int):=by rw[Int.tdiv_eq_ediv_of_nonneg (by omega),jE (by omega)];omega
theorem oB(w n:Nat)(hn:n<=64)(hw:w<18446744073709551616):iZ ((w:Int),((n:Int),()))=some (bN w n,()):=by
 have hb:Dn ((n:Int),())=some ((n:Int),()):=by
  show wG (n:Int)=_;unfold wG;have h1:cQ (decide ((64:Int)<(n:Int))) (64:Int) (n:Int)=(n:Int):=by unfold cQ;rw[decide_eq_false (by omega)]
  have h2:cQ (decide ((n:Int)<(0:Int))) (0:Int) (n:Int)=(n:Int):=by unfold cQ;rw[decide_eq_false (by omega)]
  show some (cQ (decide (cQ (decide ((64:Int)<(n:Int))) (64:Int) (n:Int)<0)) 0 (cQ (decide ((64:Int)<(n:Int))) (64:Int) (n:Int)),())=_;rw[h1,h2]
 have eL:KD ((w:Int),((n:Int),((0:Int),([],()))))=some (bN w n,()):=by
  unfold KD;delta u4;refine cP (fun k:Nat=>((w:Int),((n:Int),((k:Int),(bN w k,()))))) n rfl ?_ ?_ (bA (by omega))
  .intro k hk
   try dsimp only
   unfold BB;have hd:Int.fdiv (w:Int) (HPow.hPow (2:Int) (Min.min (Int.toNat (k:Int)) 64))=((w / 2^k:Nat):Int):=by rw[Int.toNat_natCast,Nat.min_eq_left (by omega),Int.fdiv_eq_ediv_of_nonneg _ (Int.pow_nonneg (by decide))];simp
   have hlt:w / 2^k<=w:=Nat.div_le_self _ _;have hb:(iQ (lM .u64 (Int.fdiv (w:Int) (HPow.hPow (2:Int) (Min.min (Int.toNat (k:Int)) 64))) (1:Int)) (1:Int))=decide (w / 2^k % 2=1):=by rw[hd];exact aeW (by omega)
   have e:∀(a b:List Bool) (p q:Int),a=b->p=q->(some (.inl ((w:Int),((n:Int),(p,(a,()))))):Option (TL Bp.σs⊕Out Bl))=some (.inl ((w:Int),((n:Int),(q,(b,()))))):=by rintro _ _ _ _ rfl rfl;rfl
   refine ao (aj (show(k:Int)<(n:Int) by omega)) (ak (aj (by omega)) (ak (Gt _ _ (by rw[j7];omega)) (e _ _ _ _ ?_ (bG (by omega) (by omega)))));rw[Yr];exact congrArg (fun b:Bool=>bN w k++[b]) hb
  .try dsimp only
   unfold BB;exact af (av (by omega)) rfl
 show KI Dn KD (w:Int) (n:Int)=_;unfold KI;exact ag hb (ag eL rfl)
theorem alh(w n:Nat)(hn:n<=64)(hw:w<18446744073709551616):I2 ((w:Int),((n:Int),()))=some (bN w n,()):=by
 have eL:Jv ((w:Int),((n:Int),((0:Int),([],()))))=some (bN w n,()):=by
  unfold Jv;delta u4;refine cP (fun k:Nat=>(((w / 2^k:Nat):Int),((n:Int),((k:Int),(bN w k,()))))) n (by rw[Nat.pow_zero,Nat.div_one];rfl) ?_ ?_ (bA (by omega))
  .intro k hk
   try dsimp only
   unfold AR;have hlt:w / 2^k<=w:=Nat.div_le_self _ _;have hb:(iQ (Int.tmod ((w / 2^k:Nat):Int) (2:Int)) (1:Int))=decide (w / 2^k % 2=1):=by exact aeH _
   have hd:IntKind.wrap .u64 (Int.tdiv ((w / 2^k:Nat):Int) (2:Int))=((w / 2^(k+1):Nat):Int):=by rw[Nat.pow_succ,<-Nat.div_div_eq_div_mul];exact aeF (by omega)
   have e:∀(a b:List Bool) (c d p q:Int),a=b->c=d->p=q->(some (.inl (c,((n:Int),(p,(a,()))))):Option (TL AA.σs⊕Out Aj))=some (.inl (d,((n:Int),(q,(b,()))))):=by rintro _ _ _ _ _ _ rfl rfl rfl;rfl
   refine ao (aj (show(k:Int)<(n:Int) by omega)) (ao (aj (show(k:Int)<64 by omega)) (ak (Gt _ _ (by rw[j7];omega)) (e _ _ _ _ _ _ ?_ hd (bG (by omega) (by omega)))));rw[Yr];exact congrArg (fun b:Bool=>bN w k++[b]) hb
  .try dsimp only
   unfold AR;exact af (av (by omega)) rfl
 show JL Jv (w:Int) (n:Int)=_;unfold JL;exact ag eL rfl
abbrev aO:=Int×Int×Unit
def mf(L:List aO):Prop:=L.Pairwise (fun p q=>p.1<q.1)
def rd(M:List aO)(k:Int):Int:=match M with|[]=>0|p::M=>match decide (p.1=k)with|true=>p.2.1|false=>rd M k
def oZ(k v:Int)(M:List aO):List aO:=match M with|[]=>[(k,v,())]|p::M=>match decide (k<p.1)with|true=>(k,v,())::p::M|false=>match decide (p.1=k)with|true=>(k,v,())::M|false=>p::oZ k v M
def oY(k:Int)(M:List aO):List aO:=match M with|[]=>[]|p::M=>match decide (p.1=k)with|true=>M|false=>p::oY k M
theorem um:∀(M:List aO) (k:Int),@eX (.int .u64) M k=rd M k
 |[],k=>rfl|p::M,k=>congrArg (fun z:Int=>match decide (p.1=k)with|true=>p.2.1|false=>z) (um M k)
theorem Lc(k v:Int):∀(M:List aO),@dg (.int .u64) k v M=oZ k v M
 |[]=>rfl|p::M=>congrArg (fun z:List aO=>match decide (k<p.1)with|true=>(k,v,())::p::M|false=>match decide (p.1=k)with|true=>(k,v,())::M|false=>p::z) (Lc k v M)
theorem Le(k:Int):∀(M:List aO),@jn (.int .u64) k M=oY k M
 |[]=>rfl|p::M=>congrArg (fun z:List aO=>match decide (p.1=k)with|true=>M|false=>p::z) (Le k M)
def wr(L:List aO)(a w:Int):List aO:=if w=0 then oY a L else oZ a w L
theorem afz{L:List aO}{a w:Int}(h:mf L):mf (wr L a w):=by
 unfold wr;split
 .exact Le a L▸Tu (σ:=.int .u64) (k:=a) h
 .exact Lc a w L▸w7 (σ:=.int .u64) (k:=a) (v:=w) h
theorem Lb(p:aO)(M:List aO)(a:Int):rd (p::M) a=if p.1=a then p.2.1 else rd M a:=by
 rw[rd];by_cases q:p.1=a
 .rw[decide_eq_true q,if_pos q]
 .rw[decide_eq_false q,if_neg q]
theorem XK(p:aO)(M:List aO)(a:Int):oY a (p::M)=if p.1=a then M else p::oY a M:=by
 rw[oY];by_cases q:p.1=a
 .rw[decide_eq_true q,if_pos q]
 .rw[decide_eq_false q,if_neg q]
theorem XE(p:aO)(M:List aO)(a w:Int):oZ a w (p::M)=if a<p.1 then(a,w,())::p::M else if p.1=a then(a,w,())::M else p::oZ a w M:=by
 rw[oZ];by_cases q:a<p.1
 .rw[decide_eq_true q,if_pos q]
 .rw[decide_eq_false q,if_neg q];by_cases r:p.1=a
  .rw[decide_eq_true r,if_pos r]
  .rw[decide_eq_false r,if_neg r]
theorem YA(a:Int):∀L:List aO,(oY a L).length<=L.length
 |[]=>Nat.le_refl _|p::M=>by rw[XK];have:=YA a M;split<;>simp only[List.length_cons]<;>omega
theorem Yz(a w:Int):∀L:List aO,(oZ a w L).length<=L.length+1
 |[]=>Nat.le_refl _|p::M=>by
  rw[XE];have:=Yz a w M;split
  .simp only[List.length_cons];omega
  .split<;>simp only[List.length_cons]<;>omega
theorem afy(L:List aO)(a w:Int):(wr L a w).length<=L.length+1:=by unfold wr;have:=YA a L;have:=Yz a w L;split<;>omega
theorem alr(L:List aO)(a:Int)(hl:L.length<=100000):I6 (L,(a,()))=some (rd L a,()):=by
 have hL:=lQ (B:=fun d=>AY   d.1 d.2.1 d.2.2.1)
  (I:=fun d:List aO×Int×Int×Unit=>∃k:Nat,d=(L,(a,((k:Int),())))/\k<=L.length/\rd L a=rd (L.drop k) a)
  (Q:=fun o:Out vd=>o=.inl (rd L a,())\/(o=.inr ()/\rd L a=0))
  (μ:=fun d=>L.length-d.2.2.1.toNat) ?_ NN (L,(a,((0:Int),()))) ⟨0,rfl,by omega,by rw[List.drop_zero]⟩ (bA (by show L.length-_<=_;omega))
 .obtain⟨o,ho,hq⟩:=hL;have ho':W9 (L,(a,((0:Int),())))=some o:=ho;show JW W9 L a=_;unfold JW;rcases hq with rfl|⟨rfl,hz⟩
  .exact ag ho' rfl
  .rw[hz];exact ag ho' rfl
 .rintro _ ⟨k,rfl,hk,hr⟩
  try dsimp only
  unfold AY;by_cases q:k<L.length
  .have hx:=List.getElem?_eq_getElem q;have hg:gt aC L (k:Int)=L[k]:=bn (σ:=aC) hx;have hi:aw (k:Int) (List.length L)=true:=aN ⟨by omega,by omega⟩;rw[qk q,Lb]at hr;by_cases r:L[k].1=a
   .left;rw[if_pos r]at hr;refine⟨_,ao (aj (show(k:Int)<(L.length:Int) by omega)) (ak hi (ao (aj (by rw[hg];exact r)) (ak hi rfl))),.inl ?_⟩;rw[hg,<-hr]
   .right;rw[if_neg r]at hr;have e:∀p q:Int,p=q->(some (.inl (L,(a,(p,())))):Option (TL AL.σs⊕Out vd))=some (.inl (L,(a,(q,())))):=by rintro _ _ rfl;rfl
    refine⟨(L,(a,(((k+1:Nat):Int),()))),ao (aj (show(k:Int)<(L.length:Int) by omega)) (ak hi (af (av (by rw[hg];exact r)) (e _ _ (bG (by omega) (by omega))))),⟨k+1,rfl,by omega,hr⟩,?_⟩;show L.length-(((k+1:Nat):Int)).toNat<L.length-((k:Int)).toNat;omega
  .left;refine⟨_,af (av (show ¬(k:Int)<(L.length:Int) by omega)) rfl,.inr ⟨rfl,?_⟩⟩;rw[hr,List.drop_eq_nil_of_le (by omega)];rfl
