import Derived.Test.YtkcpdpplobhpaaaGreatKRa
import Derived.Test.YtkcpdpplobhpaaaGreatKSb
set_option linter.unusedVariables false
set_option linter.unusedSimpArgs false
set_option linter.unnecessarySimpa false
section
namespace Go.Proofs.YtkcpdpplobhpaaaGreat.Pl
section
variable{α:Type}(key:α->Int)
def cD(L:List α):Prop:=L.Pairwise (fun x y=>key x<=key y)
def fk(k:Int)(L:List α):List α:=L.filter (fun x=>decide (key x=k))
structure bz(S S':List α):Prop where
 srt:cD key S'
 len:S'.length=S.length
 flt:∀k,fk key k S'=fk key k S
variable{key}
theorem iG(k:Int)(A B:List α):fk key k (A++B)=fk key k A++fk key k B:=List.filter_append A B
theorem QB{k:Int}{L:List α}{x:α}:x∈fk key k L↔x∈L/\key x=k:=by unfold fk;simp
theorem Qr{k:Int}{L:List α}(h:∀x∈L,key x≠k):fk key k L=[]:=by unfold fk;rw[List.filter_eq_nil_iff];intro x hx;simpa using h x hx
theorem W5{S S':List α}(h:∀k,fk key k S'=fk key k S){x:α}(hx:x∈S'):x∈S:=by have:x∈fk key (key x) S':=QB.2 ⟨hx,rfl⟩;rw[h]at this;exact(QB.1 this).1
theorem bz.mem{S S':List α}(h:bz key S S'){x:α}:x∈S'↔x∈S:=⟨W5 h.flt,W5 (fun k=>(h.flt k).symm)⟩
theorem bz.refl{S:List α}(h:cD key S):bz key S S:=⟨h,rfl,fun _=>rfl⟩
theorem i5{A B:List α}:cD key (A++B)↔cD key A/\cD key B/\∀x∈A,∀y∈B,key x<=key y:=by unfold cD;rw[List.pairwise_append]
theorem Jf{x:α}{B:List α}:cD key (x::B)↔(∀y∈B,key x<=key y)/\cD key B:=by unfold cD;rw[List.pairwise_cons]
theorem Xo{A B:List α}(h:∀x∈A,∀y∈B,key y<key x)(k:Int):fk key k (A++B)=fk key k (B++A):=by
 rw[iG,iG];by_cases q:∃x∈A,key x=k
 .obtain⟨x,hx,hk⟩:=q;have:fk key k B=[]:=Qr (fun y hy=>by have:=h x hx y hy;omega);rw[this];simp
 .have:fk key k A=[]:=Qr (fun x hx hk=>q ⟨x,hx,hk⟩);rw[this];simp
theorem I7{T0 T1 T2:List α}{x:α}(h:bz key T0 (T1++T2))(h1:∀y∈T1,key y<=key x)(h2:∀y∈T2,key x<key y):bz key (T0++[x]) (T1++x::T2):=by
 obtain⟨s1,s2,s3⟩:=i5.1 h.srt;refine⟨?_,?_,?_⟩
 .refine i5.2 ⟨s1,Jf.2 ⟨fun y hy=>Int.le_of_lt (h2 y hy),s2⟩,?_⟩;intro a ha b hb;rcases List.mem_cons.1 hb with rfl|hb
  .exact h1 a ha
  .exact s3 a ha b hb
 .have:=h.len;simp only[List.length_append,List.length_cons,List.length_nil]at *
  omega
 .intro k;have e:fk key k (x::T2)=fk key k (T2++[x]):=by have:=Xo (key:=key) (A:=T2) (B:=[x]) (fun a ha b hb=>by simp at hb;subst hb;exact h2 a ha) k;rw[this];rfl
  rw[iG,e,iG,<-List.append_assoc,<-iG,h.flt,<-iG]
theorem ae3{A B A' B':List α}(ha:bz key A A')(hb:bz key B B')(h:∀x∈A,∀y∈B,key x<=key y):bz key (A++B) (A'++B'):=by
 refine⟨i5.2 ⟨ha.srt,hb.srt,fun x hx y hy=>h x (ha.mem.1 hx) y (hb.mem.1 hy)⟩,?_,?_⟩
 .have:=ha.len;have:=hb.len;simp only[List.length_append];omega
 .intro k;rw[iG,iG,ha.flt,hb.flt]
theorem bz.of_fk{A B C:List α}(hl:B.length=A.length)(h:∀k,fk key k B=fk key k A)(g:bz key B C):bz key A C:=⟨g.srt,g.len.trans hl,fun k=>(g.flt k).trans (h k)⟩
theorem yS{P1 P2 Q1 Q2 R1 R2:List α}(hp:cD key (P1++P2))(hq:cD key (Q1++Q2))(h1:∀x∈P1,∀y∈Q2,key x<=key y)(h2:∀x∈P2,∀y∈Q1,key y<key x)
  (r1:bz key (P1++Q1) R1) (r2:bz key (P2++Q2) R2):bz key ((P1++P2)++(Q1++Q2)) (R1++R2):=by
 obtain⟨p1,p2,p3⟩:=i5.1 hp;obtain⟨q1,q2,q3⟩:=i5.1 hq;refine bz.of_fk (B:=(P1++Q1)++(P2++Q2)) ?_ ?_ (ae3 r1 r2 ?_)
 .simp only[List.length_append];omega
 .intro k;have e:=Xo (key:=key) (A:=P2) (B:=Q1) h2 k;rw[iG,iG]at e;simp only[iG,List.append_assoc];rw[<-List.append_assoc (fk key k Q1),<-e,List.append_assoc]
 .intro x hx y hy;rcases List.mem_append.1 hx with hx|hx<;>rcases List.mem_append.1 hy with hy|hy
  .exact p3 x hx y hy
  .exact h1 x hx y hy
  .exact Int.le_of_lt (h2 y hy x hx)
  .exact q3 x hx y hy
theorem adS{S:List α}(h:cD key S):∀(n:Nat),(∀x∈S,1<=key x/\key x<=(n:Int))->S=(List.range n).flatMap (fun(i:Nat)=>fk key ((i:Int)+1) S):=by
 intro n
 induction n generalizing S with
 |zero=>intro hb;cases S with|nil=>rfl|cons x S=>have:=hb x (by simp);omega
 |succ n ih=>
  intro hb;have split:∀{S:List α},cD key S->(∀x∈S,key x<=((n+1:Nat):Int))->S=S.filter (fun x=>decide (key x<=(n:Int)))++fk key ((n:Int)+1) S:=by
   intro S
   induction S with
   |nil=>intro _ _;rfl|cons x S ihS=>
    intro hs hb;obtain⟨a,b⟩:=Jf.1 hs;have e:=ihS b (fun y hy=>hb y (by simp[hy]));by_cases q:key x<=(n:Int)
    .unfold fk;rw[List.filter_cons_of_pos (by simpa using q),List.filter_cons_of_neg (by simp;omega)];have e':=congrArg (List.cons x) e;exact e'
    .have hk:key x=(n:Int)+1:=by have:=hb x (by simp);omega
     have all:∀y∈S,key y=(n:Int)+1:=fun y hy=>by have:=a y hy;have:=hb y (by simp[hy]);omega
     have f0:S.filter (fun x=>decide (key x<=(n:Int)))=[]:=by rw[List.filter_eq_nil_iff];intro y hy;have:=all y hy;simp;omega
     have f1:fk key ((n:Int)+1) S=S:=by unfold fk;rw[List.filter_eq_self];intro y hy;simpa using all y hy
     have g0:(x::S).filter (fun x=>decide (key x<=(n:Int)))=[]:=by rw[List.filter_cons_of_neg (by simp;omega),f0]
     have g1:fk key ((n:Int)+1) (x::S)=x::fk key ((n:Int)+1) S:=by unfold fk;rw[List.filter_cons_of_pos (by simpa using hk)]
     rw[g0,g1,f1];rfl
  have e:=split h (fun x hx=>(hb x hx).2);have hs':cD key (S.filter (fun x=>decide (key x<=(n:Int)))):=List.Pairwise.filter _ h;have ih':=ih hs' (fun x hx=>by have:=List.mem_filter.1 hx;exact⟨(hb x this.1).1,by simpa using this.2⟩);rw[List.range_succ,List.flatMap_append,List.flatMap_singleton];have e2:(List.range n).flatMap (fun(i:Nat)=>fk key ((i:Int)+1) S)=(List.range n).flatMap (fun(i:Nat)=>fk key ((i:Int)+1) (S.filter (fun x=>decide (key x<=(n:Int))))):=by
   have:∀(l:List Nat),(∀i∈l,i<n)->l.flatMap (fun(i:Nat)=>fk key ((i:Int)+1) S)=l.flatMap (fun(i:Nat)=>fk key ((i:Int)+1) (S.filter (fun x=>decide (key x<=(n:Int))))):=by
    intro l
    induction l with
    |nil=>intro _;rfl|cons i l il=>
     intro hi;rw[List.flatMap_cons,List.flatMap_cons,il (fun j hj=>hi j (by simp[hj]))];congr 1;unfold fk;rw[List.filter_filter];apply List.filter_congr;intro x hx;have:=hi i (by simp);by_cases q:key x=(i:Int)+1
     .have:key x<=(n:Int):=by omega
      simp[q];omega
     .simp[q]
   exact this _ (fun i hi=>List.mem_range.1 hi)
  rw[e2,<-ih'];exact e
theorem bz.flat{S S':List α}(h:bz key S S')(n:Nat)(hb:∀x∈S,1<=key x/\key x<=(n:Int)):S'=(List.range n).flatMap (fun(i:Nat)=>fk key ((i:Int)+1) S):=by
 have e:=adS h.srt n (fun x hx=>hb x (h.mem.1 hx));rw[e];have:∀(l:List Nat),l.flatMap (fun(i:Nat)=>fk key ((i:Int)+1) S')=l.flatMap (fun(i:Nat)=>fk key ((i:Int)+1) S):=by
  intro l
  induction l with|nil=>rfl|cons i l il=>rw[List.flatMap_cons,List.flatMap_cons,il,h.flt]
 rw[<-e];exact e.trans (this _)
end
end Go.Proofs.YtkcpdpplobhpaaaGreat.Pl
end
section
namespace Go.Proofs.YtkcpdpplobhpaaaGreat.V
open Go Go.RowKit
theorem aZ{x:Int}{n:Nat}(e:x=(n:Int))(h:n<=1000000000):IntKind.wrap .i64 x=(n:Int):=by rw[e];exact bf (by omega)
theorem qh{σ:Sh}{X Z:List σ.T}{p:σ.T}{u:Nat}(hu:X.length=u):gt σ (X++p::Z) (u:Int)=p:=by refine aS ?_;rw[List.getElem?_append_right (by omega),hu];simp
theorem ph{α:Type}{X Z:List α}{p q:α}{u:Nat}(hu:X.length=u):(X++p::Z).set u q=X++q::Z:=by rw[List.set_append_right _ _ (by omega),hu];simp
theorem sw2{α:Type}{X M Y:List α}{p q:α}{u v:Nat}(hu:X.length=u)(hv:X.length+1+M.length=v):((X++p::(M++q::Y)).set u q).set v p=X++q::(M++p::Y):=by
 rw[ph hu];have e:X++q::(M++q::Y)=(X++q::M)++q::Y:=by simp
 rw[e,ph (by simp;omega)];simp
theorem nv{α:Type}{L:List α}{i:Nat}(h:i<L.length):L.drop i=L[i]::L.drop (i+1):=List.drop_eq_getElem_cons h
theorem W8{R:Type}{L X M Y:List aI}{p q:aI}{u v:Nat}(hL:L=X++p::(M++q::Y))(hu:X.length=u)(hv:X.length+1+M.length=v){U V:Int}(eU:U=(u:Int))(eV:V=(v:Int)){y z:Option R}
  (h:List.set (List.set L (Int.toNat U) ((gt ag L V).1,((gt ag L V).2.1,((gt ag L V).2.2.1,())))) (Int.toNat V) ((gt ag L U).1,((gt ag L U).2.1,((gt ag L U).2.2.1,())))=X++q::(M++p::Y)->y=z) :
  (ah (ar V (List.length L)) <|ah (ar U (List.length L)) <|ah (ar U (List.length L)) <|ah (ar V (List.length (List.set L (Int.toNat U) ((gt ag L V).1,((gt ag L V).2.1,((gt ag L V).2.2.1,())))))) <|y)=z:=by
 subst hL;subst eU;subst eV;have hlen:List.length (X++p::(M++q::Y))=X.length+(1+(M.length+(1+Y.length))):=by simp;omega
 have gu:gt ag (X++p::(M++q::Y)) (u:Int)=p:=qh hu;have gv:gt ag (X++p::(M++q::Y)) (v:Int)=q:=by
  have e:X++p::(M++q::Y)=(X++p::M)++q::Y:=by simp
  rw[e];exact qh (by simp;omega)
 have i1:ar (v:Int) (List.length (X++p::(M++q::Y)))=true:=aA ⟨by omega,by rw[hlen];omega⟩;have i2:ar (u:Int) (List.length (X++p::(M++q::Y)))=true:=aA ⟨by omega,by rw[hlen];omega⟩;have hs:∀z:aI,ar (v:Int) (List.length (List.set (X++p::(M++q::Y)) (Int.toNat (u:Int)) z))=true:=fun z=>(congrArg (ar (v:Int)) List.length_set).trans i1;refine aj i1 (aj i2 (aj i2 (aj (hs _) (h ?_))));rw[gu,gv,Int.toNat_natCast,Int.toNat_natCast];exact sw2 hu hv
theorem alK(W:fN)(X P M Q Y:List aI)(a b n:Nat)(ha:X.length=a)(hp:P.length=n)(hq:Q.length=n)(hb:X.length+P.length+M.length=b)(hl:b+n<=1000000) :
  T4 ((a:Int),((b:Int),((n:Int),((0:Int),(X++(P++(M++(Q++Y))),W)))))=some (X++(Q++(M++(P++Y))),W):=by
 unfold T4;delta u16;refine bN (fun i:Nat=>((a:Int),((b:Int),((n:Int),((i:Int),(X++(Q.take i++(P.drop i++(M++(P.take i++(Q.drop i++Y))))),W)))))) n rfl ?_ ?_ (aW (by omega))
 .intro i hi
  try dsimp only
  unfold xb;have hpi:i<P.length:=by omega
  have hqi:i<Q.length:=by omega
  refine av (al (show(i:Int)<(n:Int) by omega)) ?_;refine W8 (X:=X++Q.take i) (p:=P[i]) (M:=P.drop (i+1)++(M++P.take i)) (q:=Q[i]) (Y:=Q.drop (i+1)++Y) (u:=a+i) (v:=b+i) ?_ ?_ ?_ ?_ ?_ (fun hset=>?_)
  .rw[nv hpi,nv hqi];simp only[List.append_assoc,List.cons_append]
  .simp;omega
  .simp;omega
  .exact aZ (by omega) (by omega)
  .exact aZ (by omega) (by omega)
  .refine aj (al rfl) (aj (al rfl) (aj (al rfl) ?_));have e:∀(u v:Int) (A B:List aI),u=v->A=B->(some (.inl ((a:Int),((b:Int),((n:Int),(u,(A,W)))))):Option (TL wX.σs⊕Out wN))=some (.inl ((a:Int),((b:Int),((n:Int),(v,(B,W)))))):=by rintro _ _ _ _ rfl rfl;rfl
   refine e _ _ _ _ (aZ (n:=i+1) (by omega) (by omega)) (hset.trans ?_);rw[List.take_succ_eq_append_getElem hpi,List.take_succ_eq_append_getElem hqi];simp only[List.append_assoc,List.cons_append,List.nil_append]
 .try dsimp only
  unfold xb;refine ao (aw (show ¬(n:Int)<(n:Int) by omega)) ?_;have e1:P.drop n=[]:=List.drop_eq_nil_of_le (by omega);have e2:Q.drop n=[]:=List.drop_eq_nil_of_le (by omega);have e3:P.take n=P:=List.take_of_length_le (by omega);have e4:Q.take n=Q:=List.take_of_length_le (by omega);rw[e1,e2,e3,e4];rfl
theorem Jh(W:fN)(X P M Q Y:List aI){A B N:Int}(a b n:Nat)(eA:A=(a:Int))(eB:B=(b:Int))(eN:N=(n:Int))(ha:X.length=a)(hp:P.length=n)(hq:Q.length=n)(hb:X.length+P.length+M.length=b)(hl:b+n<=1000000){L:List aI}(hL:L=X++(P++(M++(Q++Y)))) :
  T5 (A,(B,(N,(L,W))))=some (X++(Q++(M++(P++Y))),W):=by
 subst eA;subst eB;subst eN;subst hL;exact af (alK W X P M Q Y a b n ha hp hq hb hl) rfl
theorem adN(W:fN)(m:Nat)(G:List aI)(hG:G.length<=400000){X P Q Y:List aI}(hp:0<P.length)(hq:0<Q.length)(hm:X.length+P.length=m)(hg:X++(Q++(P++Y))=G) :
  ∃o,Gu ((m:Int),((P.length:Int),((Q.length:Int),(X++(P++(Q++Y)),W))))=some o /\
   ∃X P Q Y:List aI,o=((m:Int),((P.length:Int),(X++(P++(Q++Y)),W)))/\Q.length=P.length/\X.length+P.length=m/\X++(Q++(P++Y))=G:=by
 unfold Gu;delta dW;refine jt (fun d=>∃X P Q Y:List aI,d=((m:Int),((P.length:Int),((Q.length:Int),(X++(P++(Q++Y)),W))))/\0<P.length/\0<Q.length/\X.length+P.length=m/\X++(Q++(P++Y))=G)
  (fun o=>∃X P Q Y:List aI,o=((m:Int),((P.length:Int),(X++(P++(Q++Y)),W)))/\Q.length=P.length/\X.length+P.length=m/\X++(Q++(P++Y))=G)
  (fun d=>d.2.1.toNat+d.2.2.1.toNat) ?_ NN _ ⟨X,P,Q,Y,rfl,hp,hq,hm,hg⟩ (aW (by have:=congrArg List.length hg;simp only[List.length_append]at this;show((P.length:Int)).toNat+((Q.length:Int)).toNat<=_;omega))
 rintro d ⟨X,P,Q,Y,rfl,hp,hq,hm,hg⟩;have hlen:X.length+(Q.length+(P.length+Y.length))<=400000:=by have:=congrArg List.length hg;simp only[List.length_append]at this;omega
 try dsimp only
 unfold Gw;rcases Nat.lt_trichotomy P.length Q.length with h|h|h
 .-- the second one is longer
  right;obtain⟨Q1,Q2,hQ,h1,h2⟩:∃Q1 Q2:List aI,Q=Q1++Q2/\Q1.length=Q.length-P.length/\Q2.length=P.length:=⟨Q.take (Q.length-P.length),Q.drop (Q.length-P.length),(List.take_append_drop _ _).symm,by simp,by simp;omega⟩;have es:=Jh W X P Q1 Q2 Y (A:=IntKind.wrap .i64 ((m:Int)-(P.length:Int))) (B:=IntKind.wrap .i64 ((IntKind.wrap .i64 ((m:Int)+(Q.length:Int)))-(P.length:Int))) (N:=(P.length:Int)) X.length (m+Q.length-P.length) P.length
   (aZ (by omega) (by omega)) (by rw[aZ (x:=(m:Int)+(Q.length:Int)) (n:=m+Q.length) (by omega) (by omega)];exact aZ (by omega) (by omega)) rfl rfl rfl h2 (by omega) (by omega) (L:=X++(P++(Q++Y))) (by rw[hQ];simp only[List.append_assoc])
  refine⟨((m:Int),((Q2.length:Int),((Q1.length:Int),(X++(Q2++(Q1++(P++Y))),W)))),?_,⟨X,Q2,Q1,P++Y,rfl,by omega,by omega,by omega,?_⟩,?_⟩
  .refine av (fg (aw (show ¬(P.length:Int)=(Q.length:Int) by omega))) (ao (aw (show ¬(Q.length:Int)<(P.length:Int) by omega)) (af es ?_));have e:∀(u v u' v':Int) (A:List aI),u=u'->v=v'->(some (.inl ((m:Int),(u,(v,(A,W))))):Option (TL rG.σs⊕Out rE))=some (.inl ((m:Int),(u',(v',(A,W))))):=by rintro _ _ _ _ _ rfl rfl;rfl
   exact e _ _ _ _ _ (by omega) (aZ (by omega) (by omega))
  .rw[<-hg,hQ];simp only[List.append_assoc]
  .show((Q2.length:Int)).toNat+((Q1.length:Int)).toNat<((P.length:Int)).toNat+((Q.length:Int)).toNat;omega
 .left;refine⟨((m:Int),((P.length:Int),(X++(P++(Q++Y)),W))),ao (cI (al (show(P.length:Int)=(Q.length:Int) by omega))) rfl,X,P,Q,Y,rfl,h.symm,hm,hg⟩
 .-- the first one is longer
  right;obtain⟨P1,P2,hP,h1,h2⟩:∃P1 P2:List aI,P=P1++P2/\P1.length=Q.length/\P2.length=P.length-Q.length:=⟨P.take Q.length,P.drop Q.length,(List.take_append_drop _ _).symm,by simp;omega,by simp⟩;have es:=Jh W X P1 P2 Q Y (A:=IntKind.wrap .i64 ((m:Int)-(P.length:Int))) (B:=(m:Int)) (N:=(Q.length:Int)) X.length m Q.length
   (aZ (by omega) (by omega)) rfl rfl rfl h1 rfl (by omega) (by omega) (L:=X++(P++(Q++Y))) (by rw[hP];simp only[List.append_assoc])
  refine⟨((m:Int),((P2.length:Int),((P1.length:Int),((X++Q)++(P2++(P1++Y)),W)))),?_,⟨X++Q,P2,P1,Y,rfl,by omega,by omega,by simp only[List.length_append];omega,?_⟩,?_⟩
  .refine av (fg (aw (show ¬(P.length:Int)=(Q.length:Int) by omega))) (av (al (show(Q.length:Int)<(P.length:Int) by omega)) (af es ?_));have e:∀(u v u' v':Int) (A A':List aI),u=u'->v=v'->A=A'->(some (.inl ((m:Int),(u,(v,(A,W))))):Option (TL rG.σs⊕Out rE))=some (.inl ((m:Int),(u',(v',(A',W))))):=by rintro _ _ _ _ _ _ rfl rfl rfl;rfl
   exact e _ _ _ _ _ _ (aZ (by omega) (by omega)) (by omega) (by simp only[List.append_assoc])
  .rw[<-hg,hP];simp only[List.append_assoc]
  .show((P2.length:Int)).toNat+((P1.length:Int)).toNat<((P.length:Int)).toNat+((Q.length:Int)).toNat;omega
theorem afT(W:fN){X P Q Y L:List aI}{A M B:Int}(hp:0<P.length)(hq:0<Q.length)(eA:A=(X.length:Int))(eM:M=((X.length+P.length:Nat):Int))(eB:B=((X.length+P.length+Q.length:Nat):Int))(hl:L.length<=400000)(hL:L=X++(P++(Q++Y))) :
  xp (A,(M,(B,(L,W))))=some (X++(Q++(P++Y)),W):=by
 subst eA;subst eM;subst eB;subst hL;have hlen:X.length+(P.length+(Q.length+Y.length))<=400000:=by simpa only[List.length_append]using hl
 obtain⟨o,e1,X',P',Q',Y',rfl,h1,h2,h3⟩:=adN W (X.length+P.length) (X++(Q++(P++Y))) (by simp only[List.length_append];omega) hp hq rfl rfl (Y:=Y);have hlen':X'.length+(P'.length+(Q'.length+Y'.length))<=400000:=by have:=congrArg List.length h3;simp only[List.length_append]at this;omega
 have es:=Jh W X' P' [] Q' Y' (A:=IntKind.wrap .i64 (((X.length+P.length:Nat):Int)-(P'.length:Int))) (B:=((X.length+P.length:Nat):Int)) (N:=(P'.length:Int)) X'.length (X.length+P.length) P'.length
  (aZ (by omega) (by omega)) rfl rfl rfl rfl h1 (by simp only[List.length_nil];omega) (by omega) (L:=X'++(P'++(Q'++Y'))) rfl
 have e0:Gu (((X.length+P.length:Nat):Int),(IntKind.wrap .i64 (((X.length+P.length:Nat):Int)-(X.length:Int)),(IntKind.wrap .i64 (((X.length+P.length+Q.length:Nat):Int)-((X.length+P.length:Nat):Int)),(X++(P++(Q++Y)),W))))=some (((X.length+P.length:Nat):Int),((P'.length:Int),(X'++(P'++(Q'++Y')),W))):=by rw[aZ (x:=((X.length+P.length:Nat):Int)-(X.length:Int)) (n:=P.length) (by omega) (by omega),aZ (x:=((X.length+P.length+Q.length:Nat):Int)-((X.length+P.length:Nat):Int)) (n:=Q.length) (by omega) (by omega)];exact e1
 refine af e0 (af es ?_);have e:∀(A A':List aI),A=A'->(some (A,W):Option (Out rF))=some (A',W):=by rintro _ _ rfl;rfl
 exact e _ _ (by rw[List.nil_append];exact h3)
open Pl (bz cD I7)
def jm(W:fN)(L:List aI):TL [.int .i64,.sl (.int .i64),.sl aa,.sl (.int .i64),.sl (.int .i64),.sl (.int .i64),.sl ab,.sl aa,.sl (.int .i64),.sl ag,.sl (.int .u8),.sl (.int .i64)]:=(W.1,(W.2.1,(W.2.2.1,(W.2.2.2.1,(W.2.2.2.2.1,(W.2.2.2.2.2.1,(W.2.2.2.2.2.2.1,(W.2.2.2.2.2.2.2.1,(W.2.2.2.2.2.2.2.2.1,(L,(W.2.2.2.2.2.2.2.2.2.1,(W.2.2.2.2.2.2.2.2.2.2.1,()))))))))))))
structure iw(W:fN)(key:aI->Int)(V:aI->Prop):Prop where
 cmp:∀(L:List aI) (x y:aI),V x->V y->∃c:Int,gp (x.1,(x.2.1,(x.2.2.1,(y.1,(y.2.1,(y.2.2.1,jm W L))))))=some (c,jm W L)/\(c<0↔key x<key y)
theorem W9{R:Type}{L X Y:List aI}{p q:aI}{u v:Nat}(hL:L=X++q::(p::Y))(hv:X.length=v)(hu:v+1=u){U V:Int}(eU:U=(u:Int))(eV:V=(v:Int)){y z:Option R}
  (h:List.set (List.set L (Int.toNat U) ((gt ag L V).1,((gt ag L V).2.1,((gt ag L V).2.2.1,())))) (Int.toNat V) ((gt ag L U).1,((gt ag L U).2.1,((gt ag L U).2.2.1,())))=X++p::(q::Y)->y=z) :
  (ah (ar V (List.length L)) <|ah (ar U (List.length L)) <|ah (ar U (List.length L)) <|ah (ar V (List.length (List.set L (Int.toNat U) ((gt ag L V).1,((gt ag L V).2.1,((gt ag L V).2.2.1,())))))) <|y)=z:=by
 subst hL;subst eU;subst eV;subst hu;have hlen:List.length (X++q::(p::Y))=X.length+(1+(1+Y.length)):=by simp;omega
 have gv:gt ag (X++q::(p::Y)) (v:Int)=q:=qh hv;have e:X++q::(p::Y)=(X++[q])++p::Y:=by simp
 have gu:gt ag (X++q::(p::Y)) ((v+1:Nat):Int)=p:=by rw[e];exact qh (by simp;omega)
 have i1:ar (v:Int) (List.length (X++q::(p::Y)))=true:=aA ⟨by omega,by rw[hlen];omega⟩;have i2:ar ((v+1:Nat):Int) (List.length (X++q::(p::Y)))=true:=aA ⟨by omega,by rw[hlen];omega⟩;have hs:∀z:aI,ar (v:Int) (List.length (List.set (X++q::(p::Y)) (Int.toNat ((v+1:Nat):Int)) z))=true:=fun z=>(congrArg (ar (v:Int)) List.length_set).trans i1;refine aj i1 (aj i2 (aj i2 (aj (hs _) (h ?_))));rw[gu,gv,Int.toNat_natCast,Int.toNat_natCast];have e2:(X++q::(p::Y)).set (v+1) q=X++q::(q::Y):=by rw[e,ph (by simp;omega)];simp
 exact(congrArg (fun l:List aI=>l.set v p) e2).trans (ph hv)
section
variable{W:fN}{key:aI->Int}{V:aI->Prop}
theorem adu(C:iw W key V)(X T T0 Y:List aI)(x:aI)(A B I:Int)(i:Nat)(hA:A=(X.length:Int))(hi:X.length+T.length=i)(hl:X.length+(T.length+Y.length)<=400000)(hT:bz key T0 T)(hV:∀y∈T,V y)(hx:V x) :
  ∃o,FJ (A,(B,(I,((i:Int),(X++(T++(x::Y)),W)))))=some o/\∃S,o=(A,(B,(I,(X++(S++Y),W))))/\bz key (T0++[x]) S:=by
 unfold FJ;delta u16;refine jt (fun d=>∃T1 T2:List aI,d=(A,(B,(I,(((X.length+T1.length:Nat):Int),(X++(T1++(x::(T2++Y))),W)))))/\T1++T2=T/\∀y∈T2,key x<key y)
  (fun o=>∃S,o=(A,(B,(I,(X++(S++Y),W))))/\bz key (T0++[x]) S) (fun d=>d.2.2.2.1.toNat) ?_ NN _ ⟨T,[],by subst hi;rfl,by simp,by simp⟩ (aW (by show((i:Int)).toNat<=_;omega))
 rintro d ⟨T1,T2,rfl,hTT,h2⟩;have hlT:T1.length+T2.length=T.length:=by rw[<-hTT,List.length_append]
 try dsimp only
 unfold FL;rcases List.eq_nil_or_concat T1 with rfl|⟨T1',q,rfl⟩
 .left;refine⟨_,ao (aw (by rw[hA];simp)) rfl,x::T2,rfl,?_⟩;have:=I7 (T1:=[]) (T2:=T2) (x:=x) (T0:=T0) (key:=key) (by rw[hTT];exact hT) (by simp) h2;exact this
 .have hj:(X.length+(T1'.concat q).length:Nat)=X.length+T1'.length+1:=by simp;omega
  have hq:V q:=hV q (by rw[<-hTT];simp);have eL:X++(T1'.concat q++(x::(T2++Y)))=(X++T1')++q::(x::(T2++Y)):=by simp
  obtain⟨c,ec,hc⟩:=C.cmp (X++(T1'.concat q++(x::(T2++Y)))) x q hx hq;rw[hj];have w1:IntKind.wrap .i64 (((X.length+T1'.length+1:Nat):Int)-1)=((X.length+T1'.length:Nat):Int):=aZ (by omega) (by simp only[List.length_concat]at hlT;omega);have gx:gt ag (X++(T1'.concat q++(x::(T2++Y)))) ((X.length+T1'.length+1:Nat):Int)=x:=by
   have e:X++(T1'.concat q++(x::(T2++Y)))=(X++T1'++[q])++x::(T2++Y):=by simp
   rw[e];exact qh (by simp;omega)
  have gq:gt ag (X++(T1'.concat q++(x::(T2++Y)))) (IntKind.wrap .i64 (((X.length+T1'.length+1:Nat):Int)-1))=q:=by rw[w1,eL];exact qh (by simp)
  have hlen:List.length (X++(T1'.concat q++(x::(T2++Y))))=X.length+T1'.length+2+(T2.length+Y.length):=by simp;omega
  have i1:ar ((X.length+T1'.length+1:Nat):Int) (List.length (X++(T1'.concat q++(x::(T2++Y)))))=true:=aA ⟨by omega,by rw[hlen];omega⟩;have i2:ar (IntKind.wrap .i64 (((X.length+T1'.length+1:Nat):Int)-1)) (List.length (X++(T1'.concat q++(x::(T2++Y)))))=true:=by rw[w1];exact aA ⟨by omega,by rw[hlen];omega⟩
  have ec':gp ((gt ag (X++(T1'.concat q++(x::(T2++Y)))) ((X.length+T1'.length+1:Nat):Int)).1,((gt ag (X++(T1'.concat q++(x::(T2++Y)))) ((X.length+T1'.length+1:Nat):Int)).2.1,((gt ag (X++(T1'.concat q++(x::(T2++Y)))) ((X.length+T1'.length+1:Nat):Int)).2.2.1,
    ((gt ag (X++(T1'.concat q++(x::(T2++Y)))) (IntKind.wrap .i64 (((X.length+T1'.length+1:Nat):Int)-1))).1,((gt ag (X++(T1'.concat q++(x::(T2++Y)))) (IntKind.wrap .i64 (((X.length+T1'.length+1:Nat):Int)-1))).2.1,((gt ag (X++(T1'.concat q++(x::(T2++Y)))) (IntKind.wrap .i64 (((X.length+T1'.length+1:Nat):Int)-1))).2.2.1,jm W (X++(T1'.concat q++(x::(T2++Y))))))))))
    = some (c,jm W (X++(T1'.concat q++(x::(T2++Y))))):=by rw[gx,gq];exact ec
  have hA':A<((X.length+T1'.length+1:Nat):Int):=by rw[hA];omega
  by_cases hk:key x<key q
  .right;refine⟨(A,(B,(I,(((X.length+T1'.length:Nat):Int),(X++(T1'++(x::(q::T2++Y))),W))))),?_,⟨T1',q::T2,rfl,by rw[<-hTT];simp,?_⟩,?_⟩
   .refine av (al hA') (aj i1 (aj i2 (af ec' (av (show aR true (iL c 0) false=true from al (hc.2 hk)) ?_))));refine W9 (X:=X++T1') (q:=q) (p:=x) (Y:=T2++Y) (v:=X.length+T1'.length) (u:=X.length+T1'.length+1) eL (by simp) rfl rfl w1 (fun hset=>?_);refine aj (al rfl) (aj (al rfl) ?_);have e:∀(u u':Int) (L L':List aI),u=u'->L=L'->(some (.inl (A,(B,(I,(u,(L,W)))))):Option (TL rD.σs⊕Out rC))=some (.inl (A,(B,(I,(u',(L',W)))))):=by rintro _ _ _ _ rfl rfl;rfl
    exact e _ _ _ _ w1 (hset.trans (by simp))
   .intro y hy;rcases List.mem_cons.1 hy with rfl|hy
    .exact hk
    .exact h2 y hy
   .show(((X.length+T1'.length:Nat):Int)).toNat<(((X.length+T1'.length+1:Nat):Int)).toNat;omega
  .left;refine⟨(A,(B,(I,(X++((T1'.concat q++x::T2)++Y),W)))),?_,_,rfl,?_⟩
   .refine av (al hA') (aj i1 (aj i2 (af ec' (ao (show aR true (iL c 0) false=false from aw (fun q=>hk (hc.1 q))) ?_))));have e:∀(L L':List aI),L=L'->(some (.inr (A,(B,(I,(L,W))))):Option (TL rD.σs⊕Out rC))=some (.inr (A,(B,(I,(L',W))))):=by rintro _ _ rfl;rfl
    exact e _ _ (show X++(T1'.concat q++(x::(T2++Y)))=_ from by simp)
   .refine I7 (by rw[hTT];exact hT) ?_ h2;intro y hy;have hs:cD key (T1'.concat q):=(Pl.i5.1 (by rw[hTT];exact hT.srt:cD key (T1'.concat q++T2))).1;rw[List.concat_eq_append]at hy hs;obtain⟨_,_,h3⟩:=Pl.i5.1 hs;rcases List.mem_append.1 hy with hy|hy
    .have:=h3 y hy q (by simp);omega
    .simp at hy;subst hy;omega
theorem Qt(C:iw W key V){X S Y L:List aI}{A B:Int}(eA:A=(X.length:Int))(eB:B=((X.length+S.length:Nat):Int))(hL:L=X++(S++Y))(hl:L.length<=400000)(hV:∀y∈S,V y) :
  ∃S',TC (A,(B,(L,W)))=some (X++(S'++Y),W)/\bz key S S':=by
 subst eA;subst eB;subst hL;have hlen:X.length+(S.length+Y.length)<=400000:=by simpa only[List.length_append]using hl
 have w0:IntKind.wrap .i64 ((X.length:Int)+1)=((X.length+1:Nat):Int):=aZ (by omega) (by omega);cases S with
 |nil=>
  refine⟨[],?_,bz.refl (List.Pairwise.nil)⟩;have e1:wH ((X.length:Int),(((X.length+([]:List aI).length:Nat):Int),(IntKind.wrap .i64 ((X.length:Int)+1),(X++([]++Y),W))))=some (X++([]++Y),W):=by
   unfold wH;delta dW;refine bN (fun _=>_) 0 rfl (fun i hi=>absurd hi (Nat.not_lt_zero i)) ?_ (aW (by omega))
   try dsimp only
   unfold wJ;exact ao (aw (by rw[w0];simp only[List.length_nil];omega)) rfl
  exact af e1 rfl
 |cons s S=>
  have e1:∃o,wH ((X.length:Int),(((X.length+(s::S).length:Nat):Int),(IntKind.wrap .i64 ((X.length:Int)+1),(X++(s::S++Y),W))))=some o/\∃S',o=(X++(S'++Y),W)/\bz key (s::S) S':=by
   unfold wH;delta dW;refine jt (fun d=>∃T0 T R:List aI,d=((X.length:Int),(((X.length+(s::S).length:Nat):Int),(((X.length+T.length:Nat):Int),(X++(T++(R++Y)),W))))/\T0++R=s::S/\bz key T0 T)
    (fun o=>∃S',o=(X++(S'++Y),W)/\bz key (s::S) S') (fun d=>(X.length+(s::S).length)-d.2.2.1.toNat) ?_ NN _ ⟨[s],[s],S,by rw[w0];rfl,rfl,bz.refl (by unfold cD;simp)⟩ (aW (by
     have:List.length (s::S)<=400000:=by omega
     omega))
   rintro d ⟨T0,T,R,rfl,hTR,hT⟩;have hlT:=hT.len;have hlR:T0.length+R.length=(s::S).length:=by rw[<-hTR,List.length_append]
   try dsimp only
   unfold wJ;cases R with
   |nil=>left;refine⟨_,ao (aw (by simp only[List.length_nil]at hlR;omega)) rfl,T,rfl,?_⟩;rw[List.append_nil]at hTR;rw[<-hTR];exact hT|cons r R=>
    right;simp only[List.length_cons]at hlR;have hVT:∀y∈T,V y:=fun y hy=>hV y (by rw[<-hTR];simp[hT.mem.1 hy]);obtain⟨o,e4,S',rfl,hS'⟩:=adu C X T T0 (R++Y) r (X.length:Int) ((X.length+(s::S).length:Nat):Int) ((X.length+T.length:Nat):Int) (X.length+T.length) rfl rfl (by simp only[List.length_append,List.length_cons]at *;omega) hT hVT (hV r (by rw[<-hTR];simp));have hl':=hS'.len;simp only[List.length_append,List.length_cons,List.length_nil]at hl';refine⟨((X.length:Int),(((X.length+(s::S).length:Nat):Int),(((X.length+S'.length:Nat):Int),(X++(S'++(R++Y)),W)))),?_,⟨T0++[r],S',R,rfl,by rw[<-hTR];simp,hS'⟩,?_⟩
    .refine av (al (by simp only[List.length_cons]at *;omega)) (af e4 ?_);have e:∀(u u':Int),u=u'->(some (.inl ((X.length:Int),(((X.length+(s::S).length:Nat):Int),(u,(X++(S'++(R++Y)),W))))):Option (TL wG.σs⊕Out wF))=some (.inl ((X.length:Int),(((X.length+(s::S).length:Nat):Int),(u',(X++(S'++(R++Y)),W))))):=by rintro _ _ rfl;rfl
     exact e _ _ (show IntKind.wrap .i64 (((X.length+T.length:Nat):Int)+1)=_ from aZ (by omega) (by simp only[List.length_append,List.length_cons]at *;omega))
    .show(X.length+(s::S).length)-(((X.length+S'.length:Nat):Int)).toNat<(X.length+(s::S).length)-(((X.length+T.length:Nat):Int)).toNat;simp only[List.length_cons]at *
     omega
  obtain⟨o,e1,S',rfl,hS⟩:=e1;exact⟨S',af e1 rfl,hS⟩
end
open Pl (bz cD yS)
abbrev hf(i j:Int):Int:=IntKind.wrap .i64 (Int.fdiv (IntKind.wrap .u64 (IntKind.wrap .i64 (i+j))) (HPow.hPow (2:Int) (Min.min (Int.toNat (1:Int)) 64)))
theorem y1{i j:Nat}(h:i+j<=1000000):hf (i:Int) (j:Int)=(((i+j) / 2:Nat):Int):=by
 unfold hf;rw[aZ (x:=(i:Int)+(j:Int)) (n:=i+j) (by omega) (by omega)];have e1:IntKind.wrap .u64 ((i+j:Nat):Int)=((i+j:Nat):Int):=by unfold IntKind.wrap;simp[IntKind.bits,IntKind.signed];omega
 rw[e1];have e2:(HPow.hPow (2:Int) (Min.min (Int.toNat (1:Int)) 64):Int)=2:=rfl;rw[e2,Int.fdiv_eq_ediv_of_nonneg _ (by decide)];exact aZ (by omega) (by omega)
theorem Jb{D O:Type}{B:D->Option (D⊕O)}(st:Nat->Nat->D)(fin:Nat->O)(pr:Nat->Prop){lo hi:Nat}(hlh:lo<=hi)(hb:hi<=1000000)
  (hm:∀c d,lo<=c->c<=d->d<hi->pr d->pr c)
  (hs1:∀i j,lo<=i->i<j->j<=hi->pr ((i+j) / 2)->B (st i j)=some (.inl (st ((i+j) / 2+1) j)))
  (hs2:∀i j,lo<=i->i<j->j<=hi->¬pr ((i+j) / 2)->B (st i j)=some (.inl (st i ((i+j) / 2))))
  (he:∀i,lo<=i->i<=hi->B (st i i)=some (.inr (fin i))) :
  ∃s,lo<=s/\s<=hi/\aE B NN (st lo hi)=some (fin s)/\(∀c,lo<=c->c<s->pr c)/\∀c,s<=c->c<hi->¬pr c:=by
 have key:∀k i j,lo<=i->i<=j->j<=hi->j-i=k->(∀c,lo<=c->c<i->pr c)->(∀c,j<=c->c<hi->¬pr c)->∀N,k<N ->
   ∃s,i<=s/\s<=j/\aE B N (st i j)=some (fin s)/\(∀c,lo<=c->c<s->pr c)/\∀c,s<=c->c<hi->¬pr c:=by
  intro k
  induction k using Nat.strongRecOn with
  |_ k ih=>
   intro i j h1 h2 h3 hk ha hb N hN;obtain⟨M,rfl⟩:∃M,N=M+1:=⟨N-1,by omega⟩;rcases Nat.lt_or_ge i j with q|q
   .rcases Classical.em (pr ((i+j) / 2))with hp|hp
    .obtain⟨s,g1,g2,g3,g4⟩:=ih (j-((i+j) / 2+1)) (by omega) ((i+j) / 2+1) j (by omega) (by omega) h3 rfl (fun c c1 c2=>hm c ((i+j) / 2) c1 (by omega) (by omega) hp) hb M (by omega);exact⟨s,by omega,g2,by simp only[aE,hs1 i j h1 q h3 hp];exact g3,g4⟩
    .obtain⟨s,g1,g2,g3,g4⟩:=ih ((i+j) / 2-i) (by omega) i ((i+j) / 2) h1 (by omega) (by omega) rfl ha (fun c c1 c2 hc=>hp (hm ((i+j) / 2) c (by omega) c1 c2 hc)) M (by omega);exact⟨s,g1,by omega,by simp only[aE,hs2 i j h1 q h3 hp];exact g3,g4⟩
   .have:i=j:=by omega
    subst this;exact⟨i,Nat.le_refl _,Nat.le_refl _,by simp only[aE,he i h1 h3],ha,hb⟩
 exact key (hi-lo) lo hi (Nat.le_refl _) hlh (Nat.le_refl _) rfl (fun c c1 c2=>by omega) (fun c c1 c2=>by omega) NN (aW (by omega))
abbrev JI:=JH xp
def ou(W:fN)(key:aI->Int)(V:aI->Prop)(F:dS)(k:Nat):Prop:=
 ∀(X P Q Y L:List aI) (A M B:Int),0<P.length->0<Q.length->P.length+Q.length<=k->A=(X.length:Int)->M=((X.length+P.length:Nat):Int)->B=((X.length+P.length+Q.length:Nat):Int)->L=X++(P++(Q++Y))->L.length<=400000 ->
  cD key P->cD key Q->(∀x∈P,V x)->(∀x∈Q,V x)->∃R,F (A,(M,(B,(L,W))))=some (X++(R++Y),W)/\bz key (P++Q) R
section
variable{W:fN}{key:aI->Int}{V:aI->Prop}
theorem afb{F1:dS}{k:Nat}(ih:ou W key V F1 k){X P Q Y L:List aI}{b mid e:Int}(em:mid=(X.length:Int))(ee:e=((X.length+P.length:Nat):Int))(eb:b=((X.length+P.length+Q.length:Nat):Int))(hL:L=X++(P++(Q++Y)))(hl:L.length<=400000)
  (hk:P.length+Q.length<=k) (hp:cD key P) (hq:cD key Q) (hP:∀x∈P,V x) (hQ:∀x∈Q,V x):∃R,pj F1 b mid e (L,W)=some (X++(R++Y),W)/\bz key (P++Q) R:=by
 unfold pj;rcases Nat.eq_zero_or_pos P.length with h1|h1
 .have:P=[]:=List.eq_nil_of_length_eq_zero h1;subst this;refine⟨Q,ao (aw (by rw[em,ee];simp only[List.length_nil];omega)) ?_,bz.refl hq⟩;rw[hL];rfl
 .rcases Nat.eq_zero_or_pos Q.length with h2|h2
  .have:Q=[]:=List.eq_nil_of_length_eq_zero h2;subst this;refine⟨P,av (al (by rw[em,ee];omega)) (ao (show aR true (iL e b) false=false from aw (by rw[ee,eb];simp only[List.length_nil];omega)) ?_),by rw[List.append_nil];exact bz.refl hp⟩;rw[hL];rfl
  .obtain⟨R,e1,e2⟩:=ih X P Q Y L mid e b h1 h2 hk em ee eb hL hl hp hq hP hQ;exact⟨R,av (al (by rw[em,ee];omega)) (av (show aR true (iL e b) false=true from al (by rw[ee,eb];omega)) (af e1 rfl)),e2⟩
theorem afa{F1:dS}{k:Nat}(ih:ou W key V F1 k){X P1 P2 Q1 Q2 Y L:List aI}{a m b mid s e:Int}(ea:a=(X.length:Int))(es:s=((X.length+P1.length:Nat):Int))(emm:m=((X.length+P1.length+P2.length:Nat):Int))(em:mid=((X.length+P1.length+Q1.length:Nat):Int))
  (ee:e=((X.length+P1.length+Q1.length+P2.length:Nat):Int)) (eb:b=((X.length+P1.length+P2.length+Q1.length+Q2.length:Nat):Int)) (hL:L=X++(P1++(P2++(Q1++(Q2++Y))))) (hl:L.length<=400000)
  (hk1:P1.length+Q1.length<=k) (hk2:P2.length+Q2.length<=k) (hp:cD key (P1++P2)) (hq:cD key (Q1++Q2)) (hP:∀x∈P1++P2,V x) (hQ:∀x∈Q1++Q2,V x)
  (h1:∀x∈P1,∀y∈Q2,key x<=key y) (h2:∀x∈P2,∀y∈Q1,key y<key x):∃R,JI F1 a m b mid s e (L,W)=some (X++(R++Y),W)/\bz key ((P1++P2)++(Q1++Q2)) R:=by
 have hlen:X.length+(P1.length+(P2.length+(Q1.length+(Q2.length+Y.length))))<=400000:=by rw[hL]at hl;simpa only[List.length_append]using hl
 obtain⟨p1,p2,_⟩:=Pl.i5.1 hp;obtain⟨q1,q2,_⟩:=Pl.i5.1 hq;have hU:∃R,sI F1 a b mid s e (X++(P1++(Q1++(P2++(Q2++Y)))),W)=some (X++(R++Y),W)/\bz key ((P1++P2)++(Q1++Q2)) R:=by
  have hV:∀R1:List aI,bz key (P1++Q1) R1->∃R,pj F1 b mid e (X++(R1++(P2++(Q2++Y))),W)=some (X++(R++Y),W)/\bz key ((P1++P2)++(Q1++Q2)) R:=by
   intro R1 hR1;have hl1:=hR1.len;simp only[List.length_append]at hl1;obtain⟨R2,e1,e2⟩:=afb ih (X:=X++R1) (P:=P2) (Q:=Q2) (Y:=Y) (L:=X++(R1++(P2++(Q2++Y)))) (b:=b) (mid:=mid) (e:=e) (by rw[em];simp only[List.length_append];omega) (by rw[ee];simp only[List.length_append];omega) (by rw[eb];simp only[List.length_append];omega)
    (by simp only[List.append_assoc]) (by simp only[List.length_append];omega) hk2 p2 q2 (fun x hx=>hP x (by simp[hx])) (fun x hx=>hQ x (by simp[hx]))
   refine⟨R1++R2,e1.trans (congrArg (fun l:List aI=>(some (l,W):ng)) ?_),yS hp hq h1 h2 hR1 e2⟩;simp only[List.append_assoc]
  unfold sI;rcases Nat.eq_zero_or_pos P1.length with g1|g1
  .have:P1=[]:=List.eq_nil_of_length_eq_zero g1;subst this;obtain⟨R,e1,e2⟩:=hV Q1 (bz.refl q1);exact⟨R,ao (aw (by rw[ea,es];simp only[List.length_nil];omega)) e1,e2⟩
  .rcases Nat.eq_zero_or_pos Q1.length with g2|g2
   .have:Q1=[]:=List.eq_nil_of_length_eq_zero g2;subst this;obtain⟨R,e1,e2⟩:=hV P1 (by rw[List.append_nil];exact bz.refl p1);exact⟨R,av (al (by rw[ea,es];omega)) (ao (show aR true (iL s mid) false=false from aw (by rw[es,em];simp only[List.length_nil];omega)) e1),e2⟩
   .obtain⟨R1,e0,hR1⟩:=ih X P1 Q1 (P2++(Q2++Y)) (X++(P1++(Q1++(P2++(Q2++Y))))) a s mid g1 g2 hk1 ea es (by rw[em]) rfl (by simp only[List.length_append];omega) p1 q1 (fun x hx=>hP x (by simp[hx])) (fun x hx=>hQ x (by simp[hx]));obtain⟨R,e1,e2⟩:=hV R1 hR1;exact⟨R,av (al (by rw[ea,es];omega)) (av (show aR true (iL s mid) false=true from al (by rw[es,em];omega)) (af e0 e1)),e2⟩
 obtain⟨R,e1,e2⟩:=hU;refine⟨R,?_,e2⟩;unfold JI JH;subst hL;rcases Nat.eq_zero_or_pos P2.length with g1|g1
 .have:P2=[]:=List.eq_nil_of_length_eq_zero g1;subst this;exact ao (aw (by rw[es,emm];simp only[List.length_nil];omega)) e1
 .rcases Nat.eq_zero_or_pos Q1.length with g2|g2
  .have:Q1=[]:=List.eq_nil_of_length_eq_zero g2;subst this;exact av (al (by rw[es,emm];omega)) (ao (show aR true (iL m e) false=false from aw (by rw[ee,emm];simp only[List.length_nil];omega)) e1)
  .have er:=afT W (X:=X++P1) (P:=P2) (Q:=Q1) (Y:=Q2++Y) (L:=X++(P1++(P2++(Q1++(Q2++Y))))) (A:=s) (M:=m) (B:=e) g1 g2 (by rw[es];simp only[List.length_append]) (by rw[emm];simp only[List.length_append]) (by rw[ee];simp only[List.length_append];omega) hl (by simp only[List.append_assoc]);have er':xp (s,(m,(e,(X++(P1++(P2++(Q1++(Q2++Y)))),W))))=some (X++(P1++(Q1++(P2++(Q2++Y)))),W):=er.trans (congrArg (fun l:List aI=>(some (l,W):Option (Out rF))) (by simp only[List.append_assoc]));exact av (al (by rw[es,emm];omega)) (av (show aR true (iL m e) false=true from al (by rw[ee,emm];omega)) (af er' e1))
end
theorem mb{key:aI->Int}{L:List aI}(h:cD key L){i j:Nat}(hij:i<=j)(hj:j<L.length):key L[i]<=key L[j]:=by
 rcases Nat.lt_or_ge i j with q|q
 .exact(List.pairwise_iff_getElem.1 h) i j (by omega) hj q
 .have:i=j:=by omega
  subst this;exact Int.le_refl _
section
variable{X P Q Y L:List aI}
theorem y7(hL:L=X++(P++(Q++Y))){t c:Nat}(ht:t<P.length)(hc:c=X.length+t):gt ag L (c:Int)=P[t]:=by subst hL;subst hc;refine aS ?_;rw[List.getElem?_append_right (by omega),Nat.add_sub_cancel_left,List.getElem?_append_left ht,List.getElem?_eq_getElem ht]
theorem y8(hL:L=X++(P++(Q++Y))){t c:Nat}(ht:t<Q.length)(hc:c=X.length+P.length+t):gt ag L (c:Int)=Q[t]:=by
 subst hL;subst hc;refine aS ?_;rw[List.getElem?_append_right (by omega),List.getElem?_append_right (by omega)];have:X.length+P.length+t-X.length-P.length=t:=by omega
 rw[this,List.getElem?_append_left ht,List.getElem?_eq_getElem ht]
theorem vT(hL:L=X++(P++(Q++Y))):L.length=X.length+P.length+Q.length+Y.length:=by subst hL;simp only[List.length_append];omega
variable{W:fN}{key:aI->Int}{V:aI->Prop}
theorem af4(C:iw W key V)(F:dS){x:aI}(hL:L=X++([x]++(Q++Y)))(hl:L.length<=400000)(hq:cD key Q)(hx:V x)(hQ:∀y∈Q,V y) :
  ∃k,k<=Q.length/\Ud F ((X.length:Int),(((X.length+1:Nat):Int),(((X.length+1+Q.length:Nat):Int),(L,W))))=some ((X.length:Int),(((X.length+1+k:Nat):Int),(L,W)))/\(∀y∈Q.take k,key y<key x)/\∀y∈Q.drop k,key x<=key y:=by
 have hlen:=vT hL;simp only[List.length_cons,List.length_nil]at hlen;have gQ:∀c,(h0:X.length+1<=c)->(h:c<X.length+1+Q.length)->gt ag L (c:Int)=Q[c-X.length-1]'(by omega):=fun c h1 h2=>y8 hL (t:=c-X.length-1) (by omega) (by simp only[List.length_cons,List.length_nil];omega);have gx:gt ag L (X.length:Int)=x:=y7 hL (t:=0) (by simp) rfl;have step:∀i j:Nat,X.length+1<=i->i<j->j<=X.length+1+Q.length->∃c:Int,(c<0↔key (gt ag L (((i+j) / 2:Nat):Int))<key x) /\
   oM gp (X.length:Int) (i:Int) (j:Int) L W.1 W.2.1 W.2.2.1 W.2.2.2.1 W.2.2.2.2.1 W.2.2.2.2.2.1 W.2.2.2.2.2.2.1 W.2.2.2.2.2.2.2.1 W.2.2.2.2.2.2.2.2.1 W.2.2.2.2.2.2.2.2.2.1 W.2.2.2.2.2.2.2.2.2.2.1 =
    br (iL c 0) (some (.inl ((X.length:Int),((((i+j) / 2+1:Nat):Int),((j:Int),(L,W)))))) (some (.inl ((X.length:Int),((i:Int),((((i+j) / 2:Nat):Int),(L,W)))))):=by
  intro i j h1 h2 h3;have hw:hf (i:Int) (j:Int)=(((i+j) / 2:Nat):Int):=y1 (by omega);have gh:=gQ ((i+j) / 2) (by omega) (by omega);obtain⟨c,e1,e2⟩:=C.cmp L (gt ag L (((i+j) / 2:Nat):Int)) (gt ag L (X.length:Int)) (by rw[gh];exact hQ _ (List.getElem_mem _)) (by rw[gx];exact hx);refine⟨c,by rw[<-gx];exact e2,?_⟩;have i1:ar (hf (i:Int) (j:Int)) (List.length L)=true:=by rw[hw];exact aA ⟨by omega,by omega⟩
  have i2:ar (X.length:Int) (List.length L)=true:=aA ⟨by omega,by omega⟩;have e1':gp ((gt ag L (hf (i:Int) (j:Int))).1,((gt ag L (hf (i:Int) (j:Int))).2.1,((gt ag L (hf (i:Int) (j:Int))).2.2.1,((gt ag L (X.length:Int)).1,((gt ag L (X.length:Int)).2.1,((gt ag L (X.length:Int)).2.2.1,jm W L))))))=some (c,jm W L):=by rw[hw];exact e1
  unfold oM;refine av (al (show(i:Int)<(j:Int) by omega)) (aj i1 (aj i2 (af e1' ?_)));have e:∀(u v u' v':Int),u=u'->v=v'->(br (iL c 0) (some (.inl ((X.length:Int),(u,((j:Int),(L,W)))))) (some (.inl ((X.length:Int),((i:Int),(v,(L,W)))))):Option (TL w8.σs⊕Out wT))=br (iL c 0) (some (.inl ((X.length:Int),(u',((j:Int),(L,W)))))) (some (.inl ((X.length:Int),((i:Int),(v',(L,W)))))):=by rintro _ _ _ _ rfl rfl;rfl
  exact e _ _ _ _ (by show IntKind.wrap .i64 (hf (i:Int) (j:Int)+1)=_;rw[hw];exact aZ (by omega) (by omega)) hw
 obtain⟨s,s1,s2,es,hs1,hs2⟩:=Jb (B:=fun d=>oM gp d.1 d.2.1 d.2.2.1 d.2.2.2.1 d.2.2.2.2.1 d.2.2.2.2.2.1 d.2.2.2.2.2.2.1 d.2.2.2.2.2.2.2.1 d.2.2.2.2.2.2.2.2.1 d.2.2.2.2.2.2.2.2.2.1 d.2.2.2.2.2.2.2.2.2.2.1 d.2.2.2.2.2.2.2.2.2.2.2.1 d.2.2.2.2.2.2.2.2.2.2.2.2.1 d.2.2.2.2.2.2.2.2.2.2.2.2.2.1 d.2.2.2.2.2.2.2.2.2.2.2.2.2.2.1)
  (fun i j:Nat=>((X.length:Int),((i:Int),((j:Int),(L,W))))) (fun i:Nat=>((X.length:Int),((i:Int),(L,W)))) (fun c=>key (gt ag L (c:Int))<key x) (lo:=X.length+1) (hi:=X.length+1+Q.length) (by omega) (by omega)
  (fun c d h1 h2 h3 hd=>by rw[gQ d (by omega) h3]at hd;rw[gQ c h1 (by omega)];exact Int.lt_of_le_of_lt (mb hq (i:=c-X.length-1) (j:=d-X.length-1) (by omega) (by omega)) hd)
  (fun i j h1 h2 h3 hp=>by obtain⟨c,hc,e⟩:=step i j h1 h2 h3;exact e.trans (fb (al (hc.2 hp))))
  (fun i j h1 h2 h3 hp=>by obtain⟨c,hc,e⟩:=step i j h1 h2 h3;exact e.trans (dm (aw (fun q=>hp (hc.1 q)))))
  (fun i h1 h2=>by
   try dsimp only
   unfold oM;exact ao (aw (show ¬(i:Int)<(i:Int) by omega)) rfl)
 refine⟨s-X.length-1,by omega,?_,?_,?_⟩
 .have:X.length+1+(s-X.length-1)=s:=by omega
  rw[this];exact es
 .intro y hy;obtain⟨i,hi,rfl⟩:=List.mem_take_iff_getElem.1 hy;have:=hs1 (X.length+1+i) (by omega) (by omega);rw[gQ _ (by omega) (by omega)]at this;have e:X.length+1+i-X.length-1=i:=by omega
  simpa only[e]using this
 .intro y hy;obtain⟨i,hi,rfl⟩:=List.mem_drop_iff_getElem.1 hy;have:=hs2 (X.length+1+(s-X.length-1+i)) (by omega) (by omega);rw[gQ _ (by omega) (by omega)]at this;have e:X.length+1+(s-X.length-1+i)-X.length-1=s-X.length-1+i:=by omega
  simp only[e]at this;omega
end
section
variable{X P Q Y L:List aI}{W:fN}{key:aI->Int}{V:aI->Prop}
theorem af5(F:dS){x:aI}{Q1 Z:List aI}(hl:X.length+Q1.length<=400000) :
  Gb F (((X.length+1+Q1.length:Nat):Int),((X.length:Int),(X++(x::(Q1++Z)),W)))=some (X++(Q1++(x::Z)),W):=by
 unfold Gb;have w0:IntKind.wrap .i64 (((X.length+1+Q1.length:Nat):Int)-1)=((X.length+Q1.length:Nat):Int):=aZ (by omega) (by omega);refine bN (fun t:Nat=>(((X.length+1+Q1.length:Nat):Int),(((X.length+t:Nat):Int),(X++(Q1.take t++(x::(Q1.drop t++Z))),W)))) Q1.length rfl ?_ ?_ (aW (by omega))
 .intro t ht
  try dsimp only
  unfold xg;refine av (al (by rw[w0];omega)) ?_;refine W8 (X:=X++Q1.take t) (p:=x) (M:=[]) (q:=Q1[t]) (Y:=Q1.drop (t+1)++Z) (u:=X.length+t) (v:=X.length+t+1) ?_ ?_ ?_ rfl ?_ (fun hset=>?_)
  .rw[nv ht];simp only[List.append_assoc,List.cons_append,List.nil_append]
  .simp;omega
  .simp;omega
  .exact aZ (by omega) (by omega)
  .refine aj (al rfl) (aj (al rfl) ?_);have e:∀(u v:Int) (A B:List aI),u=v->A=B->(some (.inl (((X.length+1+Q1.length:Nat):Int),(u,(A,W)))):Option (TL w7.σs⊕Out wS))=some (.inl (((X.length+1+Q1.length:Nat):Int),(v,(B,W)))):=by rintro _ _ _ _ rfl rfl;rfl
   refine e _ _ _ _ (show IntKind.wrap .i64 (((X.length+t:Nat):Int)+1)=((X.length+(t+1):Nat):Int)from aZ (by omega) (by omega)) (hset.trans ?_);rw[List.take_succ_eq_append_getElem ht];simp only[List.append_assoc,List.cons_append,List.nil_append]
 .try dsimp only
  unfold xg;refine ao (aw (by rw[w0];omega)) ?_;have e1:Q1.drop Q1.length=[]:=List.drop_eq_nil_of_le (Nat.le_refl _);have e2:Q1.take Q1.length=Q1:=List.take_of_length_le (Nat.le_refl _);rw[e1,e2];rfl
theorem afo(C:iw W key V)(F:dS){x:aI}(hL:L=X++(P++([x]++Y)))(hl:L.length<=400000)(hp:cD key P)(hx:V x)(hP:∀y∈P,V y) :
  ∃k,k<=P.length/\TZ F (((X.length+P.length:Nat):Int),((X.length:Int),(((X.length+P.length:Nat):Int),(L,W))))=some (((X.length+P.length:Nat):Int),(((X.length+k:Nat):Int),(L,W)))/\(∀y∈P.take k,key y<=key x)/\∀y∈P.drop k,key x<key y:=by
 have hlen:=vT hL;simp only[List.length_cons,List.length_nil]at hlen;have gP:∀c,(h0:X.length<=c)->(h:c<X.length+P.length)->gt ag L (c:Int)=P[c-X.length]'(by omega):=fun c h1 h2=>y7 hL (t:=c-X.length) (by omega) (by omega);have gx:gt ag L ((X.length+P.length:Nat):Int)=x:=y8 hL (t:=0) (by simp) rfl;have step:∀i j:Nat,X.length<=i->i<j->j<=X.length+P.length->∃c:Int,(c<0↔key x<key (gt ag L (((i+j) / 2:Nat):Int))) /\
   oL gp ((X.length+P.length:Nat):Int) (i:Int) (j:Int) L W.1 W.2.1 W.2.2.1 W.2.2.2.1 W.2.2.2.2.1 W.2.2.2.2.2.1 W.2.2.2.2.2.2.1 W.2.2.2.2.2.2.2.1 W.2.2.2.2.2.2.2.2.1 W.2.2.2.2.2.2.2.2.2.1 W.2.2.2.2.2.2.2.2.2.2.1 =
    br (Bool.not (iL c 0)) (some (.inl (((X.length+P.length:Nat):Int),((((i+j) / 2+1:Nat):Int),((j:Int),(L,W)))))) (some (.inl (((X.length+P.length:Nat):Int),((i:Int),((((i+j) / 2:Nat):Int),(L,W)))))):=by
  intro i j h1 h2 h3;have hw:hf (i:Int) (j:Int)=(((i+j) / 2:Nat):Int):=y1 (by omega);have gh:=gP ((i+j) / 2) (by omega) (by omega);obtain⟨c,e1,e2⟩:=C.cmp L (gt ag L ((X.length+P.length:Nat):Int)) (gt ag L (((i+j) / 2:Nat):Int)) (by rw[gx];exact hx) (by rw[gh];exact hP _ (List.getElem_mem _));refine⟨c,by rw[<-gx];exact e2,?_⟩;have i1:ar (hf (i:Int) (j:Int)) (List.length L)=true:=by rw[hw];exact aA ⟨by omega,by omega⟩
  have i2:ar ((X.length+P.length:Nat):Int) (List.length L)=true:=aA ⟨by omega,by omega⟩;have e1':gp ((gt ag L ((X.length+P.length:Nat):Int)).1,((gt ag L ((X.length+P.length:Nat):Int)).2.1,((gt ag L ((X.length+P.length:Nat):Int)).2.2.1,((gt ag L (hf (i:Int) (j:Int))).1,((gt ag L (hf (i:Int) (j:Int))).2.1,((gt ag L (hf (i:Int) (j:Int))).2.2.1,jm W L))))))=some (c,jm W L):=by rw[hw];exact e1
  unfold oL;refine av (al (show(i:Int)<(j:Int) by omega)) (aj i2 (aj i1 (af e1' ?_)));have e:∀(u v u' v':Int),u=u'->v=v'->(br (Bool.not (iL c 0)) (some (.inl (((X.length+P.length:Nat):Int),(u,((j:Int),(L,W)))))) (some (.inl (((X.length+P.length:Nat):Int),((i:Int),(v,(L,W)))))):Option (TL wW.σs⊕Out wM))=br (Bool.not (iL c 0)) (some (.inl (((X.length+P.length:Nat):Int),(u',((j:Int),(L,W)))))) (some (.inl (((X.length+P.length:Nat):Int),((i:Int),(v',(L,W)))))):=by rintro _ _ _ _ rfl rfl;rfl
  exact e _ _ _ _ (by show IntKind.wrap .i64 (hf (i:Int) (j:Int)+1)=_;rw[hw];exact aZ (by omega) (by omega)) hw
 obtain⟨s,s1,s2,es,hs1,hs2⟩:=Jb (B:=fun d=>oL gp d.1 d.2.1 d.2.2.1 d.2.2.2.1 d.2.2.2.2.1 d.2.2.2.2.2.1 d.2.2.2.2.2.2.1 d.2.2.2.2.2.2.2.1 d.2.2.2.2.2.2.2.2.1 d.2.2.2.2.2.2.2.2.2.1 d.2.2.2.2.2.2.2.2.2.2.1 d.2.2.2.2.2.2.2.2.2.2.2.1 d.2.2.2.2.2.2.2.2.2.2.2.2.1 d.2.2.2.2.2.2.2.2.2.2.2.2.2.1 d.2.2.2.2.2.2.2.2.2.2.2.2.2.2.1)
  (fun i j:Nat=>(((X.length+P.length:Nat):Int),((i:Int),((j:Int),(L,W))))) (fun i:Nat=>(((X.length+P.length:Nat):Int),((i:Int),(L,W)))) (fun c=>¬key x<key (gt ag L (c:Int))) (lo:=X.length) (hi:=X.length+P.length) (by omega) (by omega)
  (fun c d h1 h2 h3 hd=>by rw[gP d (by omega) h3]at hd;rw[gP c h1 (by omega)];have:=mb hp (i:=c-X.length) (j:=d-X.length) (by omega) (by omega);omega)
  (fun i j h1 h2 h3 hp=>by obtain⟨c,hc,e⟩:=step i j h1 h2 h3;exact e.trans (fb (fg (aw (fun q=>hp (hc.1 q))))))
  (fun i j h1 h2 h3 hp=>by obtain⟨c,hc,e⟩:=step i j h1 h2 h3;exact e.trans (dm (cI (al (hc.2 (Classical.not_not.1 hp))))))
  (fun i h1 h2=>by
   try dsimp only
   unfold oL;exact ao (aw (show ¬(i:Int)<(i:Int) by omega)) rfl)
 refine⟨s-X.length,by omega,?_,?_,?_⟩
 .have:X.length+(s-X.length)=s:=by omega
  rw[this];exact es
 .intro y hy;obtain⟨i,hi,rfl⟩:=List.mem_take_iff_getElem.1 hy;have:=hs1 (X.length+i) (by omega) (by omega);rw[gP _ (by omega) (by omega)]at this;have e:X.length+i-X.length=i:=by omega
  simp only[e]at this;omega
 .intro y hy;obtain⟨i,hi,rfl⟩:=List.mem_drop_iff_getElem.1 hy;have:=hs2 (X.length+(s-X.length+i)) (by omega) (by omega);rw[gP _ (by omega) (by omega)]at this;have e:X.length+(s-X.length+i)-X.length=s-X.length+i:=by omega
  simp only[e]at this;omega
theorem afp(F:dS){x:aI}{P1 P2:List aI}(hl:X.length+P1.length+P2.length<=400000) :
  FW F (((X.length+P1.length:Nat):Int),(((X.length+P1.length+P2.length:Nat):Int),(X++(P1++(P2++(x::Y))),W)))=some (X++(P1++(x::(P2++Y))),W):=by
 unfold FW;refine bN (fun t:Nat=>(((X.length+P1.length:Nat):Int),(((X.length+P1.length+(P2.length-t):Nat):Int),(X++(P1++(P2.take (P2.length-t)++(x::(P2.drop (P2.length-t)++Y)))),W)))) P2.length ?_ ?_ ?_ (aW (by omega))
 .have e1:P2.drop P2.length=[]:=List.drop_eq_nil_of_le (Nat.le_refl _);have e2:P2.take P2.length=P2:=List.take_of_length_le (Nat.le_refl _);simp only[Nat.sub_zero,e1,e2];rfl
 .intro t ht
  try dsimp only
  unfold xa;obtain⟨j,hj⟩:∃j,P2.length-t=j+1:=⟨P2.length-t-1,by omega⟩;have hj':P2.length-(t+1)=j:=by omega
  have hjl:j<P2.length:=by omega
  rw[hj,hj'];have w1:IntKind.wrap .i64 (((X.length+P1.length+(j+1):Nat):Int)-1)=((X.length+P1.length+j:Nat):Int):=aZ (by omega) (by omega);refine av (al (by omega)) ?_;refine W9 (X:=X++(P1++P2.take j)) (q:=P2[j]) (p:=x) (Y:=P2.drop (j+1)++Y) (v:=X.length+P1.length+j) (u:=X.length+P1.length+(j+1)) ?_ ?_ rfl rfl w1 (fun hset=>?_)
  .rw[List.take_succ_eq_append_getElem hjl];simp only[List.append_assoc,List.cons_append,List.nil_append]
  .simp;omega
  .refine aj (al rfl) (aj (al rfl) ?_);have e:∀(u v:Int) (A B:List aI),u=v->A=B->(some (.inl (((X.length+P1.length:Nat):Int),(u,(A,W)))):Option (TL wV.σs⊕Out wL))=some (.inl (((X.length+P1.length:Nat):Int),(v,(B,W)))):=by rintro _ _ _ _ rfl rfl;rfl
   refine e _ _ _ _ w1 (hset.trans ?_);rw[nv hjl];simp only[List.append_assoc,List.cons_append,List.nil_append]
 .try dsimp only
  unfold xa;rw[Nat.sub_self];exact ao (aw (by omega)) rfl
end
section
variable{X P Q Y L:List aI}{W:fN}{key:aI->Int}{V:aI->Prop}
theorem Qh(C:iw W key V)(F:dS)(hL:L=X++(P++(Q++Y)))(hl:L.length<=400000)(hp:cD key P)(hq:cD key Q)(hP:∀y∈P,V y)(hQ:∀y∈Q,V y)(a m b mid n:Int){lo hi p:Nat}
  (h1:X.length<=lo) (h2:lo<=hi) (h3:hi<=X.length+P.length) (h4:hi+X.length+P.length<=p+1) (h5:p<X.length+P.length+Q.length+lo) :
  ∃s,lo<=s/\s<=hi/\w9 F (a,(m,(b,(mid,(n,((lo:Int),((hi:Int),((p:Int),(L,W)))))))))=some (a,(m,(b,(mid,(n,((s:Int),(L,W))))))) /\
   (∀c,lo<=c->c<s->¬key (gt ag L ((p-c:Nat):Int))<key (gt ag L (c:Int)))/\∀c,s<=c->c<hi->key (gt ag L ((p-c:Nat):Int))<key (gt ag L (c:Int)):=by
 have hlen:=vT hL;have gP:∀c,(h0:X.length<=c)->(h:c<X.length+P.length)->gt ag L (c:Int)=P[c-X.length]'(by omega):=fun c h1 h2=>y7 hL (t:=c-X.length) (by omega) (by omega);have gQ:∀c,(h0:X.length+P.length<=c)->(h:c<X.length+P.length+Q.length)->gt ag L (c:Int)=Q[c-X.length-P.length]'(by omega):=fun c h1 h2=>y8 hL (t:=c-X.length-P.length) (by omega) (by omega);have step:∀i j:Nat,lo<=i->i<j->j<=hi->∃c:Int,(c<0↔key (gt ag L ((p-(i+j) / 2:Nat):Int))<key (gt ag L (((i+j) / 2:Nat):Int))) /\
   oK gp a m b mid n (i:Int) (j:Int) (p:Int) L W.1 W.2.1 W.2.2.1 W.2.2.2.1 W.2.2.2.2.1 W.2.2.2.2.2.1 W.2.2.2.2.2.2.1 W.2.2.2.2.2.2.2.1 W.2.2.2.2.2.2.2.2.1 W.2.2.2.2.2.2.2.2.2.1 W.2.2.2.2.2.2.2.2.2.2.1 =
    br (Bool.not (iL c 0)) (some (.inl (a,(m,(b,(mid,(n,((((i+j) / 2+1:Nat):Int),((j:Int),((p:Int),(L,W))))))))))) (some (.inl (a,(m,(b,(mid,(n,((i:Int),((((i+j) / 2:Nat):Int),((p:Int),(L,W))))))))))):=by
  intro i j q1 q2 q3;have hw:hf (i:Int) (j:Int)=(((i+j) / 2:Nat):Int):=y1 (by omega);have hv:IntKind.wrap .i64 ((p:Int)-hf (i:Int) (j:Int))=((p-(i+j) / 2:Nat):Int):=by rw[hw];exact aZ (by omega) (by omega)
  have gh:=gP ((i+j) / 2) (by omega) (by omega);have gv:=gQ (p-(i+j) / 2) (by omega) (by omega);obtain⟨c,e1,e2⟩:=C.cmp L (gt ag L ((p-(i+j) / 2:Nat):Int)) (gt ag L (((i+j) / 2:Nat):Int)) (by rw[gv];exact hQ _ (List.getElem_mem _)) (by rw[gh];exact hP _ (List.getElem_mem _));refine⟨c,e2,?_⟩;have i1:ar (hf (i:Int) (j:Int)) (List.length L)=true:=by rw[hw];exact aA ⟨by omega,by omega⟩
  have i2:ar (IntKind.wrap .i64 ((p:Int)-hf (i:Int) (j:Int))) (List.length L)=true:=by rw[hv];exact aA ⟨by omega,by omega⟩
  have e1':gp ((gt ag L (IntKind.wrap .i64 ((p:Int)-hf (i:Int) (j:Int)))).1,((gt ag L (IntKind.wrap .i64 ((p:Int)-hf (i:Int) (j:Int)))).2.1,((gt ag L (IntKind.wrap .i64 ((p:Int)-hf (i:Int) (j:Int)))).2.2.1,((gt ag L (hf (i:Int) (j:Int))).1,((gt ag L (hf (i:Int) (j:Int))).2.1,((gt ag L (hf (i:Int) (j:Int))).2.2.1,jm W L))))))=some (c,jm W L):=by rw[hv,hw];exact e1
  unfold oK;refine av (al (show(i:Int)<(j:Int) by omega)) (aj i2 (aj i1 (af e1' ?_)));have e:∀(u v u' v':Int),u=u'->v=v'->(br (Bool.not (iL c 0)) (some (.inl (a,(m,(b,(mid,(n,(u,((j:Int),((p:Int),(L,W)))))))))))  (some (.inl (a,(m,(b,(mid,(n,((i:Int),(v,((p:Int),(L,W))))))))))):Option (TL wU.σs⊕Out rI))=br (Bool.not (iL c 0)) (some (.inl (a,(m,(b,(mid,(n,(u',((j:Int),((p:Int),(L,W)))))))))))  (some (.inl (a,(m,(b,(mid,(n,((i:Int),(v',((p:Int),(L,W))))))))))):=by rintro _ _ _ _ rfl rfl;rfl
  exact e _ _ _ _ (by show IntKind.wrap .i64 (hf (i:Int) (j:Int)+1)=_;rw[hw];exact aZ (by omega) (by omega)) hw
 obtain⟨s,s1,s2,es,hs1,hs2⟩:=Jb (B:=fun d=>oK gp d.1 d.2.1 d.2.2.1 d.2.2.2.1 d.2.2.2.2.1 d.2.2.2.2.2.1 d.2.2.2.2.2.2.1 d.2.2.2.2.2.2.2.1 d.2.2.2.2.2.2.2.2.1 d.2.2.2.2.2.2.2.2.2.1 d.2.2.2.2.2.2.2.2.2.2.1 d.2.2.2.2.2.2.2.2.2.2.2.1 d.2.2.2.2.2.2.2.2.2.2.2.2.1 d.2.2.2.2.2.2.2.2.2.2.2.2.2.1 d.2.2.2.2.2.2.2.2.2.2.2.2.2.2.1 d.2.2.2.2.2.2.2.2.2.2.2.2.2.2.2.1 d.2.2.2.2.2.2.2.2.2.2.2.2.2.2.2.2.1 d.2.2.2.2.2.2.2.2.2.2.2.2.2.2.2.2.2.1 d.2.2.2.2.2.2.2.2.2.2.2.2.2.2.2.2.2.2.1 d.2.2.2.2.2.2.2.2.2.2.2.2.2.2.2.2.2.2.2.1)
  (fun i j:Nat=>(a,(m,(b,(mid,(n,((i:Int),((j:Int),((p:Int),(L,W)))))))))) (fun i:Nat=>(a,(m,(b,(mid,(n,((i:Int),(L,W)))))))) (fun c=>¬key (gt ag L ((p-c:Nat):Int))<key (gt ag L (c:Int))) (lo:=lo) (hi:=hi) h2 (by omega)
  (fun c d q1 q2 q3 hd=>by rw[gP d (by omega) (by omega),gQ (p-d) (by omega) (by omega)]at hd;rw[gP c (by omega) (by omega),gQ (p-c) (by omega) (by omega)];have g1:=mb hp (i:=c-X.length) (j:=d-X.length) (by omega) (by omega);have g2:=mb hq (i:=p-d-X.length-P.length) (j:=p-c-X.length-P.length) (by omega) (by omega);omega)
  (fun i j q1 q2 q3 hp=>by obtain⟨c,hc,e⟩:=step i j q1 q2 q3;exact e.trans (fb (fg (aw (fun q=>hp (hc.1 q))))))
  (fun i j q1 q2 q3 hp=>by obtain⟨c,hc,e⟩:=step i j q1 q2 q3;exact e.trans (dm (cI (al (hc.2 (Classical.not_not.1 hp))))))
  (fun i q1 q2=>by
   try dsimp only
   unfold oK;exact ao (aw (show ¬(i:Int)<(i:Int) by omega)) rfl)
 exact⟨s,s1,s2,es,hs1,fun c q1 q2=>Classical.not_not.1 (hs2 c q1 q2)⟩
theorem afv(hL:L=X++(P++(Q++Y)))(hp:cD key P)(hq:cD key Q){lo hi mid s:Nat}(hmid:mid=(X.length+X.length+P.length+Q.length) / 2)(hP2:2<=P.length)(hQ2:2<=Q.length)
  (hlo:(mid<X.length+P.length/\lo=mid+(X.length+P.length)-(X.length+P.length+Q.length)/\hi=mid)\/(X.length+P.length<=mid/\lo=X.length/\hi=X.length+P.length)) (h1:lo<=s) (h2:s<=hi)
  (g1:∀c,lo<=c->c<s->¬key (gt ag L ((mid+(X.length+P.length)-1-c:Nat):Int))<key (gt ag L (c:Int))) (g2:∀c,s<=c->c<hi->key (gt ag L ((mid+(X.length+P.length)-1-c:Nat):Int))<key (gt ag L (c:Int))) :
  (∀x∈P.take (s-X.length),∀y∈Q.drop (mid-s),key x<=key y)/\∀x∈P.drop (s-X.length),∀y∈Q.take (mid-s),key y<key x:=by
 have gP:∀c,(h0:X.length<=c)->(h:c<X.length+P.length)->gt ag L (c:Int)=P[c-X.length]'(by omega):=fun c h1 h2=>y7 hL (t:=c-X.length) (by omega) (by omega);have gQ:∀c,(h0:X.length+P.length<=c)->(h:c<X.length+P.length+Q.length)->gt ag L (c:Int)=Q[c-X.length-P.length]'(by omega):=fun c h1 h2=>y8 hL (t:=c-X.length-P.length) (by omega) (by omega);constructor
 .intro x hx y hy;obtain⟨i,hi',rfl⟩:=List.mem_take_iff_getElem.1 hx;obtain⟨j,hj,rfl⟩:=List.mem_drop_iff_getElem.1 hy;have hs:lo<s:=by omega
  have q:=g1 (s-1) (by omega) (by omega);rw[gP (s-1) (by omega) (by omega),gQ (mid+(X.length+P.length)-1-(s-1)) (by omega) (by omega)]at q;have r1:=mb hp (i:=i) (j:=s-1-X.length) (by omega) (by omega);have r2:=mb hq (i:=mid+(X.length+P.length)-1-(s-1)-X.length-P.length) (j:=mid-s+j) (by omega) (by omega);omega
 .intro x hx y hy;obtain⟨i,hi',rfl⟩:=List.mem_drop_iff_getElem.1 hx;obtain⟨j,hj,rfl⟩:=List.mem_take_iff_getElem.1 hy;have hs:s<hi:=by omega
  have q:=g2 s (by omega) (by omega);rw[gP s (by omega) (by omega),gQ (mid+(X.length+P.length)-1-s) (by omega) (by omega)]at q;have r1:=mb hp (i:=s-X.length) (j:=s-X.length+i) (by omega) (by omega);have r2:=mb hq (i:=j) (j:=mid+(X.length+P.length)-1-s-X.length-P.length) (by omega) (by omega);omega
set_option maxHeartbeats 4000000
theorem ad0(C:iw W key V){k:Nat}(ih:ou W key V (fG k) k):ou W key V (fG (k+1)) (k+1):=by
 intro X P Q Y L A M B hp0 hq0 hk eA eM eB hL hl hp hq hP hQ;subst eA;subst eM;subst eB;have hlen:=vT hL;show ∃R,rH gp (fG k) xp (Ud (fG k)) (Gb (fG k)) (TZ (fG k)) (FW (fG k)) (w9 (fG k))
  (X.length:Int) ((X.length+P.length:Nat):Int) ((X.length+P.length+Q.length:Nat):Int) L W.1 W.2.1 W.2.2.1 W.2.2.2.1 W.2.2.2.2.1 W.2.2.2.2.2.1 W.2.2.2.2.2.2.1 W.2.2.2.2.2.2.2.1 W.2.2.2.2.2.2.2.2.1 W.2.2.2.2.2.2.2.2.2.1 W.2.2.2.2.2.2.2.2.2.2.1=some (X++(R++Y),W)/\_
 have wP:IntKind.wrap .i64 (((X.length+P.length:Nat):Int)-(X.length:Int))=(P.length:Int):=aZ (by omega) (by omega);have wQ:IntKind.wrap .i64 (((X.length+P.length+Q.length:Nat):Int)-((X.length+P.length:Nat):Int))=(Q.length:Int):=aZ (by omega) (by omega);rcases Nat.lt_or_ge 1 P.length with a1|a1
 .rcases Nat.lt_or_ge 1 Q.length with a2|a2
  .-- two stretches of two at least
   obtain⟨mid,hmid⟩:∃mid,mid=(X.length+X.length+P.length+Q.length) / 2:=⟨_,rfl⟩;have hw:hf (X.length:Int) ((X.length+P.length+Q.length:Nat):Int)=(mid:Int):=by rw[y1 (by omega),hmid];congr 2;omega
   have w1:IntKind.wrap .i64 (hf (X.length:Int) ((X.length+P.length+Q.length:Nat):Int)+((X.length+P.length:Nat):Int))=((mid+(X.length+P.length):Nat):Int):=by rw[hw];exact aZ (by omega) (by omega)
   have w2:IntKind.wrap .i64 (IntKind.wrap .i64 (hf (X.length:Int) ((X.length+P.length+Q.length:Nat):Int)+((X.length+P.length:Nat):Int))-1)=((mid+(X.length+P.length)-1:Nat):Int):=by rw[w1];exact aZ (by omega) (by omega)
   have tail:∀lo hi s:Nat,((mid<X.length+P.length/\lo=mid+(X.length+P.length)-(X.length+P.length+Q.length)/\hi=mid)\/(X.length+P.length<=mid/\lo=X.length/\hi=X.length+P.length))->lo<=s->s<=hi ->
     (∀c,lo<=c->c<s->¬key (gt ag L ((mid+(X.length+P.length)-1-c:Nat):Int))<key (gt ag L (c:Int)))->(∀c,s<=c->c<hi->key (gt ag L ((mid+(X.length+P.length)-1-c:Nat):Int))<key (gt ag L (c:Int))) ->
     ∃R,JI (fG k) (X.length:Int) ((X.length+P.length:Nat):Int) ((X.length+P.length+Q.length:Nat):Int) (mid:Int) (s:Int) (IntKind.wrap .i64 (((mid+(X.length+P.length):Nat):Int)-(s:Int))) (L,W)=some (X++(R++Y),W)/\bz key (P++Q) R:=by
    intro lo hi s hlh s1 s2 g1 g2;obtain⟨c1,c2⟩:=afv hL hp hq hmid a1 a2 hlh s1 s2 g1 g2;have tP:(P.take (s-X.length)).length=s-X.length:=by rw[List.length_take];omega
    have dP:(P.drop (s-X.length)).length=P.length-(s-X.length):=by rw[List.length_drop]
    have tQ:(Q.take (mid-s)).length=mid-s:=by rw[List.length_take];omega
    have dQ:(Q.drop (mid-s)).length=Q.length-(mid-s):=by rw[List.length_drop]
    have eP:P.take (s-X.length)++P.drop (s-X.length)=P:=List.take_append_drop _ _;have eQ:Q.take (mid-s)++Q.drop (mid-s)=Q:=List.take_append_drop _ _;obtain⟨R,r1,r2⟩:=afa (W:=W) (V:=V) ih (X:=X) (P1:=P.take (s-X.length)) (P2:=P.drop (s-X.length)) (Q1:=Q.take (mid-s)) (Q2:=Q.drop (mid-s)) (Y:=Y) (L:=L) (a:=(X.length:Int)) (m:=((X.length+P.length:Nat):Int)) (b:=((X.length+P.length+Q.length:Nat):Int)) (mid:=(mid:Int)) (s:=(s:Int)) (e:=IntKind.wrap .i64 (((mid+(X.length+P.length):Nat):Int)-(s:Int)))
     rfl (by rw[tP];omega) (by rw[tP,dP];omega) (by rw[tP,tQ];omega) (by rw[tP,tQ,dP];exact aZ (by omega) (by omega)) (by rw[tP,tQ,dP,dQ];omega) (by
      rw[hL]
      conv=>lhs;rw[<-eP,<-eQ]
      simp only[List.append_assoc]) hl (by rw[tP,tQ];omega) (by rw[dP,dQ];omega) (by rw[eP];exact hp) (by rw[eQ];exact hq) (by rw[eP];exact hP) (by rw[eQ];exact hQ) c1 c2
    rw[eP,eQ]at r2;exact⟨R,r1,r2⟩
   unfold rH;rcases Nat.lt_or_ge mid (X.length+P.length)with b1|b1
   .have w3:IntKind.wrap .i64 (IntKind.wrap .i64 (hf (X.length:Int) ((X.length+P.length+Q.length:Nat):Int)+((X.length+P.length:Nat):Int))-((X.length+P.length+Q.length:Nat):Int))=((mid+(X.length+P.length)-(X.length+P.length+Q.length):Nat):Int):=by rw[w1];exact aZ (by omega) (by omega)
    obtain⟨s,s1,s2,es,g1,g2⟩:=Qh C (fG k) hL hl hp hq hP hQ (X.length:Int) ((X.length+P.length:Nat):Int) ((X.length+P.length+Q.length:Nat):Int) (mid:Int) ((mid+(X.length+P.length):Nat):Int) (lo:=mid+(X.length+P.length)-(X.length+P.length+Q.length)) (hi:=mid) (p:=mid+(X.length+P.length)-1) (by omega) (by omega) (by omega) (by omega) (by omega);obtain⟨R,r1,r2⟩:=tail _ _ s (.inl ⟨b1,rfl,rfl⟩) s1 s2 g1 g2;have es':w9 (fG k) ((X.length:Int),(((X.length+P.length:Nat):Int),(((X.length+P.length+Q.length:Nat):Int),(hf (X.length:Int) ((X.length+P.length+Q.length:Nat):Int),(IntKind.wrap .i64 (hf (X.length:Int) ((X.length+P.length+Q.length:Nat):Int)+((X.length+P.length:Nat):Int)),(IntKind.wrap .i64 (IntKind.wrap .i64 (hf (X.length:Int) ((X.length+P.length+Q.length:Nat):Int)+((X.length+P.length:Nat):Int))-((X.length+P.length+Q.length:Nat):Int)),
     (hf (X.length:Int) ((X.length+P.length+Q.length:Nat):Int),(IntKind.wrap .i64 (IntKind.wrap .i64 (hf (X.length:Int) ((X.length+P.length+Q.length:Nat):Int)+((X.length+P.length:Nat):Int))-1),(L,W)))))))))=some ((X.length:Int),(((X.length+P.length:Nat):Int),(((X.length+P.length+Q.length:Nat):Int),((mid:Int),(((mid+(X.length+P.length):Nat):Int),((s:Int),(L,W))))))):=by rw[w2,w3,w1,hw];exact es
    refine⟨R,ao (aw (by rw[wP];omega)) (ao (aw (by rw[wQ];omega)) (av (al (show hf (X.length:Int) ((X.length+P.length+Q.length:Nat):Int)<((X.length+P.length:Nat):Int) by rw[hw];omega)) (af es' ?_))),r2⟩;exact r1
   .obtain⟨s,s1,s2,es,g1,g2⟩:=Qh C (fG k) hL hl hp hq hP hQ (X.length:Int) ((X.length+P.length:Nat):Int) ((X.length+P.length+Q.length:Nat):Int) (mid:Int) ((mid+(X.length+P.length):Nat):Int) (lo:=X.length) (hi:=X.length+P.length) (p:=mid+(X.length+P.length)-1) (by omega) (by omega) (by omega) (by omega) (by omega);obtain⟨R,r1,r2⟩:=tail _ _ s (.inr ⟨b1,rfl,rfl⟩) s1 s2 g1 g2;have es':w9 (fG k) ((X.length:Int),(((X.length+P.length:Nat):Int),(((X.length+P.length+Q.length:Nat):Int),(hf (X.length:Int) ((X.length+P.length+Q.length:Nat):Int),(IntKind.wrap .i64 (hf (X.length:Int) ((X.length+P.length+Q.length:Nat):Int)+((X.length+P.length:Nat):Int)),((X.length:Int),
     (((X.length+P.length:Nat):Int),(IntKind.wrap .i64 (IntKind.wrap .i64 (hf (X.length:Int) ((X.length+P.length+Q.length:Nat):Int)+((X.length+P.length:Nat):Int))-1),(L,W)))))))))=some ((X.length:Int),(((X.length+P.length:Nat):Int),(((X.length+P.length+Q.length:Nat):Int),((mid:Int),(((mid+(X.length+P.length):Nat):Int),((s:Int),(L,W))))))):=by rw[w2,w1,hw];exact es
    refine⟨R,ao (aw (by rw[wP];omega)) (ao (aw (by rw[wQ];omega)) (ao (aw (show ¬hf (X.length:Int) ((X.length+P.length+Q.length:Nat):Int)<((X.length+P.length:Nat):Int) by rw[hw];omega)) (af es' ?_))),r2⟩;exact r1
  .-- one behind
   obtain⟨x,rfl⟩:∃x,Q=[x]:=List.length_eq_one_iff.1 (by omega);have hx:=hQ x (by simp);obtain⟨j,j1,e15,g1,g2⟩:=afo C (fG k) hL hl hp hx hP;have tP:(P.take j).length=j:=by rw[List.length_take];omega
   have dP:(P.drop j).length=P.length-j:=by rw[List.length_drop]
   have eP:P.take j++P.drop j=P:=List.take_append_drop _ _;have e21:=afp (W:=W) (Y:=Y) (fG k) (X:=X) (x:=x) (P1:=P.take j) (P2:=P.drop j) (by omega);have eL:X++(P.take j++(P.drop j++(x::Y)))=L:=by rw[hL,<-List.append_assoc (P.take j),eP];rfl
   rw[eL,tP,dP]at e21;have em:X.length+j+(P.length-j)=X.length+P.length:=by omega
   rw[em]at e21;unfold rH;refine⟨(P.take j++[x])++P.drop j,ao (aw (by rw[wP];omega)) (av (al (by rw[wQ];rfl)) (af e15 (af e21 ?_))),?_⟩
   .refine(congrArg (fun l:List aI=>(some (l,W):ng)) ?_);simp only[List.append_assoc,List.cons_append,List.nil_append]
   .have sp:=Pl.i5.1 (by rw[eP];exact hp:cD key (P.take j++P.drop j));have:=yS (key:=key) (P1:=P.take j) (P2:=P.drop j) (Q1:=[x]) (Q2:=[]) (R1:=P.take j++[x]) (R2:=P.drop j) (by rw[eP];exact hp) (by rw[List.append_nil];exact hq) (fun _ _ y hy=>by cases hy) (fun y hy z hz=>by simp at hz;subst hz;exact g2 y hy)
     (bz.refl (Pl.i5.2 ⟨sp.1,hq,fun y hy z hz=>by simp at hz;subst hz;exact g1 y hy⟩)) (by rw[List.append_nil];exact bz.refl sp.2.1)
    rw[eP,List.append_nil]at this;exact this
 .-- one ahead
  obtain⟨x,rfl⟩:∃x,P=[x]:=List.length_eq_one_iff.1 (by omega);have hx:=hP x (by simp);obtain⟨j,j1,e3,g1,g2⟩:=af4 C (fG k) hL hl hq hx hQ;have tQ:(Q.take j).length=j:=by rw[List.length_take];omega
  have eQ:Q.take j++Q.drop j=Q:=List.take_append_drop _ _;have e9:=af5 (W:=W) (fG k) (X:=X) (x:=x) (Q1:=Q.take j) (Z:=Q.drop j++Y) (by omega);have eL:X++(x::(Q.take j++(Q.drop j++Y)))=L:=by rw[hL,<-List.append_assoc (Q.take j),eQ];rfl
  rw[eL,tQ]at e9;unfold rH;refine⟨Q.take j++(x::Q.drop j),av (al (by rw[wP];rfl)) (af e3 (af e9 ?_)),?_⟩
  .refine(congrArg (fun l:List aI=>(some (l,W):ng)) ?_);simp only[List.append_assoc,List.cons_append]
  .have sq:=Pl.i5.1 (by rw[eQ];exact hq:cD key (Q.take j++Q.drop j));have:=yS (key:=key) (P1:=[]) (P2:=[x]) (Q1:=Q.take j) (Q2:=Q.drop j) (R1:=Q.take j) (R2:=x::Q.drop j) hp (by rw[eQ];exact hq) (fun y hy=>by cases hy) (fun y hy z hz=>by simp at hy;subst hy;exact g1 z hz)
    (bz.refl sq.1) (bz.refl (Pl.Jf.2 ⟨g2,sq.2.1⟩))
   rw[eQ]at this;exact this
theorem QI(C:iw W key V):∀k,ou W key V (fG k) k
 |0=>by intro X P Q Y L A M B h1 h2 h3;omega|k+1=>ad0 C (QI C k)
theorem W7(C:iw W key V):ou W key V Gc 1000000:=by intro X P Q Y L A M B h1 h2 h3;exact QI C NN X P Q Y L A M B h1 h2 (Nat.le_trans h3 (Nat.le_of_lt (aW (by omega))))
end
open Pl (bz cD)
abbrev fl:=List (List aI×List aI)
def f0(bl:fl):List aI:=bl.flatMap (·.1)
def f1(bl:fl):List aI:=bl.flatMap (·.2)
def dk(key:aI->Int)(bs:Nat)(bl:fl):Prop:=∀p∈bl,p.1.length=bs/\bz key p.1 p.2
theorem Qp(a b:fl):f0 (a++b)=f0 a++f0 b:=by unfold f0;simp
theorem Qq(a b:fl):f1 (a++b)=f1 a++f1 b:=by unfold f1;simp
theorem oZ(p:List aI×List aI)(b:fl):f0 (p::b)=p.1++f0 b:=rfl
theorem Ji(p:List aI×List aI)(b:fl):f1 (p::b)=p.2++f1 b:=rfl
theorem se(p:List aI×List aI):f1 [p]=p.2:=by simp[f1]
theorem sf(p:List aI×List aI):f0 [p]=p.1:=by simp[f0]
section
variable{W:fN}{key:aI->Int}{V:aI->Prop}
theorem dk.len0{bs:Nat}:∀{bl:fl},dk key bs bl->(f0 bl).length=bl.length*bs
 |[],_=>by simp[f0]|p::bl,h=>by rw[oZ,List.length_append,(h p (by simp)).1,dk.len0 (fun q hq=>h q (by simp[hq])),List.length_cons,Nat.add_mul];omega
theorem dk.len1{bs:Nat}:∀{bl:fl},dk key bs bl->(f1 bl).length=bl.length*bs
 |[],_=>by simp[f1]|p::bl,h=>by rw[Ji,List.length_append,(h p (by simp)).2.len,(h p (by simp)).1,dk.len1 (fun q hq=>h q (by simp[hq])),List.length_cons,Nat.add_mul];omega
theorem dk.app{bs:Nat}{a b:fl}(h:dk key bs a)(g:dk key bs b):dk key bs (a++b):=by
 intro p hp;rcases List.mem_append.1 hp with q|q
 .exact h p q
 .exact g p q
theorem dk.one{bs:Nat}{A A':List aI}(h:A.length=bs)(g:bz key A A'):dk key bs [(A,A')]:=by intro p hp;simp at hp;subst hp;exact⟨h,g⟩
theorem Xa{A A' B B' R:List aI}(ha:bz key A A')(hb:bz key B B')(h:bz key (A'++B') R):bz key (A++B) R:=bz.of_fk (by simp only[List.length_append,ha.len,hb.len]) (fun k=>by rw[Pl.iG,Pl.iG,ha.flt,hb.flt]) h
theorem ae4(C:iw W key V){S:List aI}(hl:S.length<=400000)(hV:∀x∈S,V x) :
  ∃o,Ul ((S.length:Int),((20:Int),((0:Int),((20:Int),(S,W)))))=some o/\∃(bl:fl) (R:List aI),o=((S.length:Int),((20:Int),(((f1 bl).length:Int),(f1 bl++R,W))))/\dk key 20 bl/\S=f0 bl++R/\R.length<20:=by
 unfold Ul;delta u16;refine jt (fun d=>∃(bl:fl) (R:List aI),d=((S.length:Int),((20:Int),(((f1 bl).length:Int),((((f1 bl).length+20:Nat):Int),(f1 bl++R,W)))))/\dk key 20 bl/\S=f0 bl++R)
  (fun o=>∃(bl:fl) (R:List aI),o=((S.length:Int),((20:Int),(((f1 bl).length:Int),(f1 bl++R,W))))/\dk key 20 bl/\S=f0 bl++R/\R.length<20) (fun d=>S.length-d.2.2.1.toNat) ?_ NN _ ⟨[],S,rfl,(fun p hp=>by cases hp),rfl⟩ (aW (by omega))
 rintro d ⟨bl,R,rfl,hF,hS⟩;have l0:=hF.len0;have l1:=hF.len1;have hn:S.length=(f0 bl).length+R.length:=by rw[hS,List.length_append]
 try dsimp only
 unfold Gt;rcases Nat.lt_or_ge R.length 20 with q|q
 .left;exact⟨_,ao (aw (by omega)) rfl,bl,R,rfl,hF,hS,q⟩
 .right;have eR:R.take 20++R.drop 20=R:=List.take_append_drop _ _;have tR:(R.take 20).length=20:=by rw[List.length_take];omega
  obtain⟨A',e1,hA⟩:=Qt C (X:=f1 bl) (S:=R.take 20) (Y:=R.drop 20) (L:=f1 bl++R) (A:=((f1 bl).length:Int)) (B:=(((f1 bl).length+20:Nat):Int)) rfl (by rw[tR]) (by rw[eR]) (by rw[List.length_append];omega) (fun y hy=>hV y (by rw[hS];simp[List.mem_of_mem_take hy]));have lA:A'.length=20:=hA.len.trans tR;have ef1:f1 (bl++[(R.take 20,A')])=f1 bl++A':=by rw[Qq,se]
  refine⟨((S.length:Int),((20:Int),(((f1 (bl++[(R.take 20,A')])).length:Int),((((f1 (bl++[(R.take 20,A')])).length+20:Nat):Int),(f1 (bl++[(R.take 20,A')])++R.drop 20,W))))),?_,⟨_,R.drop 20,rfl,hF.app (dk.one tR hA),?_⟩,?_⟩
  .refine av (al (by omega)) (af e1 ?_);have e:∀(u v u' v':Int) (A B:List aI),u=u'->v=v'->A=B->(some (.inl ((S.length:Int),((20:Int),(u,(v,(A,W)))))):Option (TL xl.σs⊕Out xf))=some (.inl ((S.length:Int),((20:Int),(u',(v',(B,W)))))):=by rintro _ _ _ _ _ _ rfl rfl rfl;rfl
   refine e _ _ _ _ _ _ ?_ ?_ ?_
   .rw[ef1,List.length_append,lA]
   .rw[ef1,List.length_append,lA];exact aZ (by omega) (by omega)
   .rw[ef1,List.append_assoc]
  .rw[Qp,sf,List.append_assoc,eR];exact hS
  .show S.length-(((f1 (bl++[(R.take 20,A')])).length:Int)).toNat<S.length-(((f1 bl).length:Int)).toNat;rw[ef1,List.length_append,lA];omega
theorem ae6(C:iw W key V){S:List aI}(hl:S.length<=400000)(hV:∀x∈S,V x){bs:Nat}(hbs:20<=bs)(hb2:bs<=400000){bl:fl}{R0 R:List aI}(hF:dk key bs bl)(hR:bz key R0 R)(hRl:R0.length<bs)(hS:S=f0 bl++R0) :
  ∃o,xn ((S.length:Int),((bs:Int),((0:Int),(((2*bs:Nat):Int),(f1 bl++R,W)))))=some o/\∃(ul bl:fl),o=((S.length:Int),((bs:Int),(((f1 ul).length:Int),(f1 ul++(f1 bl++R),W))))/\dk key (2*bs) ul/\dk key bs bl/\S=f0 ul++(f0 bl++R0)/\(f1 bl).length+R.length<2*bs:=by
 unfold xn;delta u16;refine jt (fun d=>∃(ul bl:fl),d=((S.length:Int),((bs:Int),(((f1 ul).length:Int),((((f1 ul).length+2*bs:Nat):Int),(f1 ul++(f1 bl++R),W)))))/\dk key (2*bs) ul/\dk key bs bl/\S=f0 ul++(f0 bl++R0))
  (fun o=>∃(ul bl:fl),o=((S.length:Int),((bs:Int),(((f1 ul).length:Int),(f1 ul++(f1 bl++R),W))))/\dk key (2*bs) ul/\dk key bs bl/\S=f0 ul++(f0 bl++R0)/\(f1 bl).length+R.length<2*bs)
  (fun d=>S.length-d.2.2.1.toNat) ?_ NN _ ⟨[],bl,by show _=((S.length:Int),((bs:Int),(((0:Nat):Int),(((0+2*bs:Nat):Int),([]++(f1 bl++R),W)))));rw[Nat.zero_add];rfl,(fun p hp=>by cases hp),hF,hS⟩ (aW (by omega))
 rintro d ⟨ul,bl,rfl,hU,hF,hS⟩;have u0:=hU.len0;have u1:=hU.len1;have l0:=hF.len0;have l1:=hF.len1;have lR:=hR.len;have hn:S.length=(f0 ul).length+((f0 bl).length+R0.length):=by rw[hS,List.length_append,List.length_append]
 try dsimp only
 unfold Gr;rcases Nat.lt_or_ge ((f1 bl).length+R.length) (2*bs)with q|q
 .left;exact⟨_,ao (aw (by omega)) rfl,ul,bl,rfl,hU,hF,hS,q⟩
 .right
  match bl,hF,hS,l0,l1,hn,q with
  |[],hF,hS,l0,l1,hn,q=>simp[f1]at q;omega|[p],hF,hS,l0,l1,hn,q=>simp only[List.length_cons,List.length_nil]at l1;omega|p::p2::bl,hF,hS,l0,l1,hn,q=>
   obtain⟨hp1,hp2⟩:=hF p (by simp);obtain⟨hq1,hq2⟩:=hF p2 (by simp);have lp:=hp2.len;have lq:=hq2.len;have hF':dk key bs bl:=fun x hx=>hF x (by simp[hx]);have l0':=hF'.len0;have l1':=hF'.len1;have eL:f1 ul++(f1 (p::p2::bl)++R)=f1 ul++(p.2++(p2.2++(f1 bl++R))):=by rw[Ji,Ji];simp only[List.append_assoc]
   have lL:(f1 ul++(f1 (p::p2::bl)++R)).length<=400000:=by simp only[List.length_append];omega
   obtain⟨R1,e1,hR1⟩:=W7 C (f1 ul) p.2 p2.2 (f1 bl++R) (f1 ul++(f1 (p::p2::bl)++R)) ((f1 ul).length:Int) (IntKind.wrap .i64 (((f1 ul).length:Int)+(bs:Int))) (((f1 ul).length+2*bs:Nat):Int) (by omega) (by omega) (by omega) rfl (aZ (by omega) (by omega)) (by omega) eL lL hp2.srt hq2.srt
    (fun x hx=>hV x (by rw[hS,oZ];simp[hp2.mem.1 hx])) (fun x hx=>hV x (by rw[hS,oZ,oZ];simp[hq2.mem.1 hx]))
   have lR1:R1.length=2*bs:=by rw[hR1.len,List.length_append];omega
   have hSS:bz key (p.1++p2.1) R1:=Xa hp2 hq2 hR1;have ef1:f1 (ul++[(p.1++p2.1,R1)])=f1 ul++R1:=by rw[Qq,se]
   refine⟨((S.length:Int),((bs:Int),(((f1 (ul++[(p.1++p2.1,R1)])).length:Int),((((f1 (ul++[(p.1++p2.1,R1)])).length+2*bs:Nat):Int),(f1 (ul++[(p.1++p2.1,R1)])++(f1 bl++R),W))))),?_,⟨_,bl,rfl,hU.app (dk.one (by rw[List.length_append];omega) hSS),hF',?_⟩,?_⟩
   .refine av (al (by simp only[List.length_cons]at *;omega)) (af e1 ?_);have e:∀(u v u' v':Int) (A B:List aI),u=u'->v=v'->A=B->(some (.inl ((S.length:Int),((bs:Int),(u,(v,(A,W)))))):Option (TL xj.σs⊕Out xc))=some (.inl ((S.length:Int),((bs:Int),(u',(v',(B,W)))))):=by rintro _ _ _ _ _ _ rfl rfl rfl;rfl
    refine e _ _ _ _ _ _ ?_ ?_ ?_
    .rw[ef1,List.length_append,lR1]
    .rw[ef1,List.length_append,lR1];have w2:IntKind.wrap .i64 ((2:Int)*(bs:Int))=((2*bs:Nat):Int):=aZ (by omega) (by omega);have:IntKind.wrap .i64 ((((f1 ul).length+2*bs:Nat):Int)+IntKind.wrap .i64 ((2:Int)*(bs:Int)))=(((f1 ul).length+2*bs+2*bs:Nat):Int):=by rw[w2];exact aZ (by omega) (by omega)
     exact this
    .rw[ef1,List.append_assoc]
   .rw[Qp,sf,hS,oZ,oZ];simp only[List.append_assoc]
   .show S.length-(((f1 (ul++[(p.1++p2.1,R1)])).length:Int)).toNat<S.length-(((f1 ul).length:Int)).toNat;rw[ef1,List.length_append,lR1];simp only[List.length_cons]at *
    omega
end
section
variable{W:fN}{key:aI->Int}{V:aI->Prop}
theorem ae5(C:iw W key V){S:List aI}(hl:S.length<=100000)(hV:∀x∈S,V x){bl:fl}{R0 R:List aI}(hF:dk key 20 bl)(hR:bz key R0 R)(hRl:R0.length<20)(hS:S=f0 bl++R0) :
  ∃o,Uk ((S.length:Int),((20:Int),(f1 bl++R,W)))=some o/\∃S',o=(S',W)/\bz key S S':=by
 unfold Uk;delta eJ;refine jt (fun d=>∃(bs:Nat) (bl:fl) (R0 R:List aI),d=((S.length:Int),((bs:Int),(f1 bl++R,W)))/\20<=bs/\bs<=400000/\dk key bs bl/\bz key R0 R/\R0.length<bs/\S=f0 bl++R0)
  (fun o=>∃S',o=(S',W)/\bz key S S') (fun d=>S.length-d.2.1.toNat) ?_ NN _ ⟨20,bl,R0,R,rfl,Nat.le_refl _,by decide,hF,hR,hRl,hS⟩ (aW (by omega))
 rintro d ⟨bs,bl,R0,R,rfl,hbs,hb2,hF,hR,hRl,hS⟩;have l0:=hF.len0;have l1:=hF.len1;have lR:=hR.len;have hn:S.length=(f0 bl).length+R0.length:=by rw[hS,List.length_append]
 try dsimp only
 unfold Gs;rcases Nat.lt_or_ge bs S.length with q|q
 .right;obtain⟨o,e9,ul,bl',rfl,hU,hF',hS',hlt⟩:=ae6 C (by omega) hV hbs hb2 hF hR hRl hS;have u0:=hU.len0;have u1:=hU.len1;have l0':=hF'.len0;have l1':=hF'.len1;have hn':S.length=(f0 ul).length+((f0 bl').length+R0.length):=by rw[hS',List.length_append,List.length_append]
  have w2:IntKind.wrap .i64 ((2:Int)*(bs:Int))=((2*bs:Nat):Int):=aZ (by omega) (by omega);have w3:IntKind.wrap .i64 ((bs:Int)*(2:Int))=((2*bs:Nat):Int):=aZ (by omega) (by omega);have wm:IntKind.wrap .i64 (((f1 ul).length:Int)+(bs:Int))=(((f1 ul).length+bs:Nat):Int):=aZ (by omega) (by omega);have e9':xn ((S.length:Int),((bs:Int),((0:Int),(IntKind.wrap .i64 ((2:Int)*(bs:Int)),(f1 bl++R,W)))))=some ((S.length:Int),((bs:Int),(((f1 ul).length:Int),(f1 ul++(f1 bl'++R),W)))):=by rw[w2];exact e9
  have e:∀(u u':Int) (A B:List aI),u=u'->A=B->(some (.inl ((S.length:Int),(u,(A,W)))):Option (TL xk.σs⊕Out xe))=some (.inl ((S.length:Int),(u',(B,W)))):=by rintro _ _ _ _ rfl rfl;rfl
  rcases Nat.lt_or_ge bs ((f1 bl').length+R.length)with g|g
  .match bl',hF',hS',l0',l1',hn',hlt,g,e9' with
   |[],hF',hS',l0',l1',hn',hlt,g,e9'=>simp[f1]at g;omega|p::p2::bl',hF',hS',l0',l1',hn',hlt,g,e9'=>simp only[List.length_cons,Nat.add_mul]at l1';omega|[p],hF',hS',l0',l1',hn',hlt,g,e9'=>
    obtain⟨hp1,hp2⟩:=hF' p (by simp);have lp:=hp2.len;rw[se]at g l1' hlt e9';rw[sf]at l0' hS' hn';simp only[List.length_cons,List.length_nil]at l1' l0';have lL:(f1 ul++(p.2++R)).length<=400000:=by simp only[List.length_append];omega
    obtain⟨R1,e1,hR1⟩:=W7 C (f1 ul) p.2 R [] (f1 ul++(p.2++R)) ((f1 ul).length:Int) (IntKind.wrap .i64 (((f1 ul).length:Int)+(bs:Int))) (S.length:Int) (by omega) (by omega) (by omega) rfl (by rw[wm];congr 2;omega) (by congr 1;omega) (by rw[List.append_nil]) lL hp2.srt hR.srt
     (fun x hx=>hV x (by rw[hS'];simp[hp2.mem.1 hx])) (fun x hx=>hV x (by rw[hS'];simp[hR.mem.1 hx]))
    refine⟨((S.length:Int),(((2*bs:Nat):Int),(f1 ul++R1,W))),av (al (by omega)) (af e9' (av (al (show IntKind.wrap .i64 (((f1 ul).length:Int)+(bs:Int))<(S.length:Int) by rw[wm];omega)) (af e1 (e _ _ _ _ w3 (by rw[List.append_nil]))))),⟨2*bs,ul,p.1++R0,R1,rfl,by omega,by omega,hU,Xa hp2 hR hR1,by simp only[List.length_append];omega,hS'⟩,?_⟩;show S.length-(((2*bs:Nat):Int)).toNat<S.length-((bs:Int)).toNat;omega
  .-- one block at most,and nothing behind it
   have hrest:bz key (f0 bl'++R0) (f1 bl'++R):=by
    match bl',hF',l1',g with
    |[],hF',l1',g=>exact hR|[p],hF',l1',g=>obtain⟨hp1,hp2⟩:=hF' p (by simp);rw[se]at g l1' |-;rw[sf];simp only[List.length_cons,List.length_nil]at l1';have h0:R0=[]:=List.eq_nil_of_length_eq_zero (by omega);have h1:R=[]:=List.eq_nil_of_length_eq_zero (by omega);rw[h0,h1,List.append_nil,List.append_nil];exact hp2
    |p::p2::bl',hF',l1',g=>simp only[List.length_cons,Nat.add_mul]at l1';omega
   refine⟨((S.length:Int),(((2*bs:Nat):Int),(f1 ul++(f1 bl'++R),W))),av (al (by omega)) (af e9' (ao (aw (show ¬IntKind.wrap .i64 (((f1 ul).length:Int)+(bs:Int))<(S.length:Int) by rw[wm];omega)) (e _ _ _ _ w3 rfl))),⟨2*bs,ul,f0 bl'++R0,f1 bl'++R,rfl,by omega,by omega,hU,hrest,by simp only[List.length_append];omega,hS'⟩,?_⟩;show S.length-(((2*bs:Nat):Int)).toNat<S.length-((bs:Int)).toNat;omega
 .left;refine⟨(f1 bl++R,W),ao (aw (by omega)) rfl,_,rfl,?_⟩;rw[hS]
  match bl,hF,l0,l1,hn with
  |[],hF,l0,l1,hn=>exact hR|[p],hF,l0,l1,hn=>obtain⟨hp1,hp2⟩:=hF p (by simp);rw[sf]at hn l0 |-;rw[se];simp only[List.length_cons,List.length_nil]at l0;have h0:R0=[]:=List.eq_nil_of_length_eq_zero (by omega);have h1:R=[]:=List.eq_nil_of_length_eq_zero (by omega);rw[h0,h1,List.append_nil,List.append_nil];exact hp2
  |p::p2::bl,hF,l0,l1,hn=>simp only[List.length_cons,Nat.add_mul]at l0;omega
theorem alL(C:iw W key V){S:List aI}(hl:S.length<=100000)(hV:∀x∈S,V x):∃S',aiu (S,W)=some (S',W)/\bz key S S':=by
 obtain⟨o,e2,bl,R,rfl,hF,hS,hR⟩:=ae4 C (by omega) hV;have l0:=hF.len0;have l1:=hF.len1;have hn:S.length=(f0 bl).length+R.length:=by
  have:=congrArg List.length hS
  rwa [List.length_append]at this
 obtain⟨R',e3,hR'⟩:=Qt C (X:=f1 bl) (S:=R) (Y:=[]) (L:=f1 bl++R) (A:=((f1 bl).length:Int)) (B:=(S.length:Int)) rfl (by congr 1;omega) (by rw[List.append_nil]) (by rw[List.length_append];omega) (fun y hy=>hV y (by rw[hS];simp[hy]));obtain⟨o,e7,S',rfl,hS'⟩:=ae5 C hl hV hF hR' (by omega) hS;rw[List.append_nil]at e3;have e:ajl ((S.length:Int),(S,W))=some (S',W):=af e2 (af e3 (af e7 rfl));exact⟨S',af e rfl,hS'⟩
end
open Go.Proofs.YtkcpdpplobhpaaaGreat.Pl
theorem Jg{R:Type}{a b:Bool}{y z:Option R}(ha:a=true)(h:ah b y=z):ah (both a b) y=z:=by subst ha;exact h
theorem aee(a b:Int):∃c:Int,Il (a,(b,()))=some (c,())/\(c<0↔a<b):=by
 have nn:∀x:Int,VZ (x,())=some (false,()):=fun x=>by
  show Is x=_;unfold Is;have e:∀b:Bool,b=true->(some (Bool.not b,()):Option (TL yw))=some (false,()):=by rintro _ rfl;rfl
  exact e _ (al rfl)
 have un:∀c:Option (TL yq),rR VZ a b=c->Il (a,(b,()))=c:=fun c h=>h;rcases Int.lt_trichotomy a b with h|h|h
 .refine⟨-1,un _ ?_,by omega⟩;unfold rR;exact af (nn a) (af (nn b) (ao rfl (ao rfl (av (al h) rfl))))
 .refine⟨0,un _ ?_,by omega⟩;unfold rR;exact af (nn a) (af (nn b) (ao rfl (ao rfl (ao (aw (by omega)) (ao (aw (by omega)) rfl)))))
 .refine⟨1,un _ ?_,by omega⟩;unfold rR;exact af (nn a) (af (nn b) (ao rfl (ao rfl (ao (aw (by omega)) (av (al h) rfl)))))
def wR(n:au)(of m lv:List Int):fN:=(n.vars,(n.inputs,(n.latches.map aB,(n.outputs,(n.bads,(n.constraints,(n.mems.map ak,(n.ands.map aY,(of,(m,(lv,())))))))))))
def nI(n:au)(x:aI):aJ:=
 match x.1 with
 |true=>(match n.mems[x.2.1.toNat]? with|some M=>(match M.reads[x.2.2.1.toNat]? with|some r=>kQ M.word r|none=>⟨[],[]⟩)|none=>⟨[],[]⟩)
 |false=>(match n.ands[x.2.2.1.toNat]? with|some a=>fm a|none=>⟨[],[]⟩)
theorem agk{n:au}{y:aP}{i:aJ}(h:y.is n i):nI n (cd y)=i:=by
 rcases h with⟨h,a,ha,rfl⟩|⟨h,M,r,hM,hr,rfl⟩
 .unfold nI cd;simp only[h,Int.toNat_natCast,ha]
 .unfold nI cd;simp only[h,Int.toNat_natCast,hM,hr]
def lk(lv:List Int)(i:aJ):Int:=lat lv (i.to.headD 0).toNat
theorem QJ{n:au}{of m lv:List Int}{L:List aI}{x:aP}{i:aJ}(h:x.is n i)(ft:Fit n)(hw:∀M∈n.mems,0<=M.word) :
  sU (x.rd,((x.mem:Int),((x.pos:Int),jm (wR n of m lv) L)))=some (i.to,jm (wR n of m lv) L):=by
 show tg Lc x.rd (x.mem:Int) (x.pos:Int) n.vars n.inputs (n.latches.map aB) n.outputs n.bads n.constraints (n.mems.map ak) (n.ands.map aY) of L m lv=_;unfold tg;rcases h with⟨h,a,ha,rfl⟩|⟨h,M,r,hM,hr,rfl⟩
 .have ha':(n.ands.map aY)[x.pos]?=some (aY a):=by rw[List.getElem?_map,ha];rfl
  have hl:=cr ha';rw[h,dm rfl,cH (aA ⟨by omega,by omega⟩),aS ha'];rfl
 .have hM':(n.mems.map ak)[x.mem]?=some (ak M):=by rw[List.getElem?_map,hM];rfl
  have hl:=cr hM';have hmem:=List.mem_of_getElem? hM;have hf:=ft.mems.2 M hmem;have hr2:=hf.rds r (List.mem_of_getElem? hr);rw[h,fb rfl,cH (aA ⟨by omega,by omega⟩),aS hM'];exact(bw (R8 M x.pos r hr ⟨hw M hmem,hf.word.2⟩ ⟨hr2.2.1,hr2.2.2.1⟩)).trans rfl
theorem agc{n:au}{V:Nat}(hs:bo n V)(ft:Fit n){of m lv:List Int}(hl:lv.length=V+1)(key:aI->Int)(hk:∀x∈n6 n,key (cd x.1)=lk lv x.2)(his:∀x∈n6 n,x.1.is n x.2) :
  iw (wR n of m lv) key (fun x=>∃y∈n6 n,x=cd y.1):=by
 refine⟨fun L x y hx hy=>?_⟩;obtain⟨x,hx,rfl⟩:=hx;obtain⟨y,hy,rfl⟩:=hy;have hw:∀M∈n.mems,0<=M.word:=fun M hM=>by have:=(hs.mems M hM).2.2.1;omega
 have hd:∀z∈n6 n,∃(v:Nat) (t:List Int),z.2.to=(v:Int)::t/\v<=V/\key (cd z.1)=lat lv v:=by
  intro z hz;have hm:z.2∈cP n:=by rw[<-md];exact List.mem_map_of_mem hz
  have h1:=hs.toNe hm;have h2:=hk z hz;unfold lk at h2
  match e:z.2.to with|[]=>exact absurd e h1|v::t=>have h3:=hs.toRng hm (v:=v) (by rw[e];simp);obtain⟨u,hu⟩:=Int.eq_ofNat_of_zero_le (show 0<=v by omega);rw[e,List.headD_cons,hu,Int.toNat_natCast]at h2;exact⟨u,t,by rw[hu],by omega,h2⟩
 obtain⟨vx,tx,ex,bx,kx⟩:=hd x hx;obtain⟨vy,ty,ey,bY,ky⟩:=hd y hy;have f1:=QJ (of:=of) (m:=m) (lv:=lv) (L:=L) (his x hx) ft hw;have f2:=QJ (of:=of) (m:=m) (lv:=lv) (L:=L) (his y hy) ft hw;obtain⟨c,hc,hiff⟩:=aee (lat lv vx) (lat lv vy);refine⟨c,?_,by rw[kx,ky];exact hiff⟩;have g0:gt (.int .i64) x.2.to (0:Int)=(vx:Int):=aS (σ:=.int .i64) (i:=0) (by rw[ex];rfl);have g1:gt (.int .i64) y.2.to (0:Int)=(vy:Int):=aS (σ:=.int .i64) (i:=0) (by rw[ey];rfl);have gx:gt (.int .i64) lv (vx:Int)=lat lv vx:=aS (σ:=.int .i64) (rA (by omega));have gy:gt (.int .i64) lv (vy:Int)=lat lv vy:=aS (σ:=.int .i64) (rA (by omega));have ix:ar (vx:Int) (List.length lv)=true:=aA ⟨by omega,by omega⟩;have iy:ar (vy:Int) (List.length lv)=true:=aA ⟨by omega,by omega⟩;have nx:ar (0:Int) (List.length x.2.to)=true:=aA ⟨by omega,by rw[ex];simp⟩;have ny:ar (0:Int) (List.length y.2.to)=true:=aA ⟨by omega,by rw[ey];simp⟩;have jx:ar (gt (.int .i64) x.2.to (0:Int)) (List.length lv)=true:=by rw[g0];exact ix
 have jy:ar (gt (.int .i64) y.2.to (0:Int)) (List.length lv)=true:=by rw[g1];exact iy
 have hc':Il ((gt (.int .i64) lv (gt (.int .i64) x.2.to (0:Int))),((gt (.int .i64) lv (gt (.int .i64) y.2.to (0:Int))),()))=some (c,()):=by rw[g0,g1,gx,gy];exact hc
 refine af f1 (aj nx (aj jx (Jg (al rfl) (Jg (al rfl) (Jg (al rfl) (aj rfl (af f2 (aj ny (aj jy (aj nx (aj (al rfl) (aj (al rfl) (aj jx (aj (al rfl) (aj (al rfl) (af hc' rfl))))))))))))))))
theorem QD(n:au):(n6 n).map (fun x:aP×aJ=>x.1)=cG n:=by
 unfold n6 A6 M6 cG;rw[List.map_append,List.take_length,List.take_length];congr 1
 .exact List.map_fst_zip (by rw[pH,List.length_map];omega)
 .exact List.map_fst_zip (by rw[pF];omega)
theorem Eo(n:au){x:aP×aJ}(h:x∈n6 n):x.1.is n x.2:=by
 obtain⟨i,hi⟩:=List.getElem?_of_mem h;have h1:(cG n)[i]?=some x.1:=by rw[<-QD,List.getElem?_map,hi];rfl
 have h2:(cP n)[i]?=some x.2:=by rw[<-md,List.getElem?_map,hi];rfl
 obtain⟨y,e,hy⟩:=E5 n h1;rw[h2]at e;injection e with e;rw[e];exact hy
def lvl(n:au)(V:Nat):List Int:=fc (aF n) ((n6 n).length+1) (fu (aF n) V)
def aM(n:au)(V:Nat):List (aP×aJ):=(List.range (n6 n).length).flatMap fun(i:Nat)=>(n6 n).filter fun x=>decide (lk (lvl n V) x.2=(i:Int)+1)
theorem D6{n:au}{V:Nat}(hs:bo n V){v k:Nat}(hv:v<=V)(hl:bC (aF n) v k):lat (lvl n V) v=(k:Int):=by
 unfold lvl;have:(n6 n).length=(aF n).length:=by rw[<-lT,List.length_map]
 rw[this];exact ak0 hs.apart hs.hin hv hl
theorem y6{n:au}{V:Nat}(hs:bo n V){x:aP×aJ}(h:x∈n6 n):(x.2.to.headD 0).toNat<=V/\(x.2.to.headD 0).toNat∈x.2.nd.to/\x.2.nd∈aF n:=by
 have hm:x.2∈cP n:=by rw[<-md];exact List.mem_map_of_mem h
 have h1:=hs.toNe hm;refine⟨?_,?_,?_⟩
 .match e:x.2.to with|[]=>exact absurd e h1|v::t=>have h3:=hs.toRng hm (v:=v) (by rw[e];simp);rw[List.headD_cons];omega
 .unfold aJ.nd
  match e:x.2.to with|[]=>exact absurd e h1|v::t=>simp
 .unfold aF;exact List.mem_map_of_mem hm
theorem QA{n:au}{V:Nat}(hs:bo n V)(ha:de (aF n) V=true){x:aP×aJ}(h:x∈n6 n):1<=lk (lvl n V) x.2/\lk (lvl n V) x.2<=((n6 n).length:Int):=by
 obtain⟨h1,h2,h3⟩:=y6 hs h;obtain⟨k,hk⟩:=(oG hs.apart V).1 ha _ h1;unfold lk;rw[D6 hs h1 hk];have:(n6 n).length=(aF n).length:=by rw[<-lT,List.length_map]
 have hle:=hk.le hs.apart;obtain⟨f,_,e⟩:=hk.inv hs.apart h3 h2;omega
theorem akY{n:au}{V:Nat}(hs:bo n V)(ft:Fit n)(h0:ca n=0) :
  akZ (aQ n,())=some (if de (aF n) V then((aM n V).map (fun x=>cd x.1),(true,()))else([],(false,()))):=by
 have es:jc (aQ n,())=some (ca n,()):=by unfold jc;rw[show df ((aQ n,()):TL [ba]).1=n from jP n,wu ft];rfl
 have ew:=Xg hs ft;obtain⟨m,lv,ea,hlv⟩:=Qi hs ft;by_cases ha:de (aF n) V=true
 .obtain⟨hll,hlv⟩:=hlv ha;have et:tj (nt n ())=some (.inr ((0:Int),wk n V m lv)):=by refine af es (ao (by rw[h0];rfl) (af ew (af ea (ao (by rw[ha];rfl) rfl))))
  rw[if_pos ha]
  let key:aI->Int:=fun x=>lk (lvl n V) (nI n x)
  have hkey:∀x∈n6 n,key (cd x.1)=lk (lvl n V) x.2:=fun x hx=>by show lk (lvl n V) (nI n (cd x.1))=_;rw[agk (Eo n hx)]
  have hk:∀x∈n6 n,key (cd x.1)=lk lv x.2:=fun x hx=>by rw[hkey x hx];obtain⟨h1,h2,h3⟩:=y6 hs hx;unfold lk;obtain⟨k,e1,e2⟩:=hlv _ h1;rw[e1,D6 hs h1 e2]
  have hN:(cG n).map cd=(n6 n).map (fun x=>cd x.1):=by rw[<-QD,List.map_map];rfl
  have hlen:(n6 n).length<=3000:=(vV hs).len;obtain⟨S',e1,hS⟩:=alL (agc hs ft (of:=dj (aF n) V (aF n).length) (m:=m) hll key hk (fun x hx=>Eo n hx)) (S:=(cG n).map cd) (by rw[hN,List.length_map];omega) (fun x hx=>by rw[hN]at hx;obtain⟨y,hy,rfl⟩:=List.mem_map.1 hx;exact⟨y,hy,rfl⟩);have hS':S'=(aM n V).map (fun x=>cd x.1):=by
   refine(hS.flat (n6 n).length (fun x hx=>?_)).trans ?_
   .rw[hN]at hx;obtain⟨y,hy,rfl⟩:=List.mem_map.1 hx;rw[hkey y hy];exact QA hs ha hy
   .unfold aM;rw[List.map_flatMap,hN];congr 1;funext i;unfold fk;rw[List.filter_map];congr 1;refine List.filter_congr fun x hx=>?_;show decide (key (cd x.1)=_)=_;rw[hkey x hx]
  rw[<-hS'];refine af et (ao rfl ?_);exact af e1 rfl
 .rw[if_neg ha];have hc:de (aF n) V=false:=by simpa using ha
  have et:tj (nt n ())=some (.inl ((8:Int),())):=by refine af es (ao (by rw[h0];rfl) (af ew (af ea (av (by rw[hc];rfl) rfl))))
  exact af et (aj rfl rfl)
def bg(l:Int)(v:List Bool):Bool:=if l<0 then false else(decide (l % 2=1)) != (decide (0<l / 2)&&(v.getD (l / 2).toNat false))
theorem acX{l:Int}(h:0<=l)(h2:l<9223372036854775808):gH .i64 l 1=l % 2:=by
 obtain⟨n,rfl⟩:=Int.eq_ofNat_of_zero_le h;unfold gH;have e:(BitVec.ofInt (IntKind.i64).bits (n:Int) &&& BitVec.ofInt (IntKind.i64).bits 1).toNat=n % 2:=by
  rw[BitVec.toNat_and,BitVec.toNat_ofInt,BitVec.toNat_ofInt];have e1:(((n:Int) % ((2^(IntKind.i64).bits:Nat):Int)).toNat)=n:=by rw[Int.emod_eq_of_lt (by omega) (by show(n:Int)<((2^64:Nat):Int);omega)];rfl
  rw[e1];show n &&& 1=n % 2;exact Nat.and_one_is_mod n
 rw[e,bf (by omega)];omega
theorem Py{w:Int}(h:0<=w)(h2:w<18446744073709551616):gH .u64 w 1=w % 2:=by
 obtain⟨n,rfl⟩:=Int.eq_ofNat_of_zero_le h;unfold gH;have e:(BitVec.ofInt (IntKind.u64).bits (n:Int) &&& BitVec.ofInt (IntKind.u64).bits 1).toNat=n % 2:=by
  rw[BitVec.toNat_and,BitVec.toNat_ofInt,BitVec.toNat_ofInt];have e1:(((n:Int) % ((2^(IntKind.u64).bits:Nat):Int)).toNat)=n:=by rw[Int.emod_eq_of_lt (by omega) (by show(n:Int)<((2^64:Nat):Int);omega)];rfl
  rw[e1];show n &&& 1=n % 2;exact Nat.and_one_is_mod n
 rw[e,f8 (by omega)];omega
theorem afH{l:Int}(h:0<=l)(h2:l<9223372036854775808):WK (l,())=some (decide (l % 2=1),()):=by show I9 l=_;unfold I9;rw[acX h h2];rfl
theorem JD{v:List Bool}{i:Int}(h:0<=i):gt .bool v i=v.getD i.toNat false:=by unfold gt;rfl
theorem nz(l:Int)(v:List Bool)(h2:l<9223372036854775808):gr (l,(v,()))=some (bg l v,()):=by
 show I6 WK te l v=_;unfold I6 bg;by_cases h:l<0
 .rw[if_pos h];exact av (al h) rfl
 .rw[if_neg h];refine ao (aw h) (af (Sa l) (af (afH (by omega) h2) ?_));have e:∀a b c:Bool,b=c->(some (Bool.not (@decide _ (Bool.decEq a b)),()):Option (TL yV))=some (a != c,()):=by rintro a b _ rfl;cases a<;>cases b<;>rfl
  by_cases h0:0<l / 2
  .refine av (al h0) ?_;by_cases h1:l / 2<(v.length:Int)
   .refine av (al h1) (aj (aA ⟨by omega,h1⟩) (e _ _ _ ?_));rw[decide_eq_true h0];show gt .bool v (l / 2)=_;rw[JD (by omega)];rfl
   .refine ao (aw h1) (e _ _ _ ?_);rw[decide_eq_true h0,List.getD_eq_getElem?_getD,List.getElem?_eq_none (by omega)];rfl
  .refine ao (aw h0) (e _ _ _ ?_);rw[decide_eq_false h0];rfl
def bF:List Bool->Nat
 |[]=>0|b::l=>(if b then 1 else 0)+2*bF l
theorem y0(l:List Bool)(b:Bool):bF (l++[b])=bF l+(if b then 2^l.length else 0):=by
 induction l with
 |nil=>cases b<;>rfl
 |cons c l ih=>rw[List.cons_append,bF,ih,bF,List.length_cons,Nat.pow_succ];cases b<;>simp<;>omega
theorem me(l:List Bool):bF l<2^l.length:=by induction l with|nil=>decide|cons c l ih=>rw[bF,List.length_cons,Nat.pow_succ];split<;>omega
theorem Ep{i:Nat}(h:i<64):(2:Nat)^i<=9223372036854775808:=by have:(2:Nat)^i<=2^63:=Nat.pow_le_pow_right (by decide) (by omega);exact this
theorem PZ{w i:Nat}(hi:i<64)(hw:w<2^i):o7 .u64 (w:Int) (IntKind.wrap .u64 ((1:Int)*(HPow.hPow (2:Int) (Min.min (Int.toNat (i:Int)) 64))))=((w+2^i:Nat):Int):=by
 have hp:=Ep hi;have e1:((1:Int)*(HPow.hPow (2:Int) (Min.min (Int.toNat (i:Int)) 64)))=((2^i:Nat):Int):=by rw[Int.one_mul,Int.toNat_natCast,Nat.min_eq_left (by omega)];simp
 rw[e1,f8 (by omega)];unfold o7;have e2:∀n:Nat,n<18446744073709551616->(BitVec.ofInt (IntKind.u64).bits (n:Int)).toNat=n:=by intro n hn;rw[BitVec.toNat_ofInt,Int.emod_eq_of_lt (by omega) (by show(n:Int)<((2^64:Nat):Int);omega)];rfl
 have e3:w ||| 2^i=w+2^i:=by rw[Nat.or_comm,Nat.add_comm];have:=Nat.two_pow_add_eq_or_of_lt hw 1;rw[Nat.mul_one]at this;exact this.symm
 rw[BitVec.toNat_or,e2 _ (by omega),e2 _ (by omega),e3,f8 (by omega)]
theorem Jd(l:List Int)(v:List Bool)(hl:l.length<=64)(hr:∀x∈l,x<9223372036854775808):nm (l,(v,()))=some ((bF (l.map (bg · v)):Int),()):=by
 show IQ gr yJ l v=_;unfold IQ;have es:bO (iL (64:Int) (Int.ofNat (List.length l))) (64:Int) (Int.ofNat (List.length l))=(l.length:Int):=by have q:iL (64:Int) (Int.ofNat (List.length l))=false:=aw (by show ¬(64:Int)<(l.length:Int);omega);rw[q];rfl
 have et:List.take (Int.toNat (bO (iL (64:Int) (Int.ofNat (List.length l))) (64:Int) (Int.ofNat (List.length l)))) l=l:=by rw[es,Int.toNat_natCast,List.take_length]
 have eL:yJ (v,((0:Int),(l,((l.length:Int),((0:Int),())))))=some ((bF (l.map (bg · v)):Int),()):=by
  unfold yJ;delta u5;refine bN (fun k:Nat=>(v,((bF ((l.take k).map (bg · v)):Int),(l,((l.length:Int),((k:Int),())))))) l.length rfl ?_ ?_ (aW (by omega))
  .intro k hk;have hx:=List.getElem?_eq_getElem hk;have hm:=hr _ (List.getElem_mem hk)
   try dsimp only
   unfold yK;have e1:=nz l[k] v hm;have e1':gr ((gt (.int .i64) l (k:Int)),(v,()))=some (bg l[k] v,()):=by rw[aS (σ:=.int .i64) hx];exact e1
   have ht:(l.take (k+1)).map (bg · v)=(l.take k).map (bg · v)++[bg l[k] v]:=by rw[Pl.cg hx,List.map_append];rfl
   have hk2:((l.take k).map (bg · v)).length=k:=by rw[List.length_map,List.length_take];omega
   have hw:=me ((l.take k).map (bg · v));rw[hk2]at hw;have e:∀(a b p q:Int),a=b->p=q->(some (.inl (v,(a,(l,((l.length:Int),(p,())))))):Option (TL yA.σs⊕Out yx))=some (.inl (v,(b,(l,((l.length:Int),(q,())))))):=by rintro _ _ _ _ rfl rfl;rfl
   refine av (al (by omega)) (aj (aA ⟨by omega,by omega⟩) (af e1' ?_));rw[ht,y0,hk2];cases hb:bg l[k] v
   .refine ao rfl (e _ _ _ _ ?_ (aZ (by omega) (by omega)));rfl
   .refine av rfl (aj (al (by omega)) (e _ _ _ _ (PZ (by omega) hw) (aZ (by omega) (by omega))))
  .try dsimp only
   unfold yK;rw[List.take_length];exact ao (aw (by omega)) rfl
 refine aj ?_ ?_
 .rw[es];show both (decide _) (decide _)=true;rw[decide_eq_true (by omega),decide_eq_true (by show(l.length:Int)<=(l.length:Int);omega)];rfl
 .have eT:∀L:List Int,L=l->yJ (v,((0:Int),(L,((Int.ofNat (List.length L)),((0:Int),())))))=some ((bF (l.map (bg · v)):Int),()):=by rintro _ rfl;exact eL
  exact af (eT _ et) rfl
theorem alJ(l:List Bool)(hl:l.length<=64):Io (l,())=some ((bF l:Int),()):=by
 have eL:Hw (l,((0:Int),((1:Int),((0:Int),()))))=some ((bF l:Int),()):=by
  unfold Hw;delta u4;refine bN (fun k:Nat=>(l,((bF (l.take k):Int),((if k=64 then(0:Int)else((2^k:Nat):Int)),((k:Int),()))))) l.length rfl ?_ ?_ (aW (by omega))
  .intro k hk;have hx:=List.getElem?_eq_getElem hk;have ht:l.take (k+1)=l.take k++[l[k]]:=Pl.cg hx;have hk2:(l.take k).length=k:=by rw[List.length_take];omega
   have hw:=me (l.take k);rw[hk2]at hw;have hp:=Ep (i:=k) (by omega);have e:∀(a b c c' p q:Int),a=b->c=c'->p=q->(some (.inl (l,(a,(c,(p,()))))):Option (TL xW.σs⊕Out xL))=some (.inl (l,(b,(c',(q,()))))):=by rintro _ _ _ _ _ _ rfl rfl rfl;rfl
   try dsimp only
   rw[if_neg (show ¬k=64 by omega)];unfold yg;refine av (al (show(k:Int)<(l.length:Int) by omega)) (av (al (show(k:Int)<64 by omega)) (aj (aA ⟨by omega,by omega⟩) ?_));have g:gt .bool l (k:Int)=l[k]:=aS (σ:=.bool) hx;have e2:IntKind.wrap .u64 (((2^k:Nat):Int)*(2:Int))=(if k+1=64 then(0:Int)else((2^(k+1):Nat):Int)):=by
    by_cases q:k+1=64
    .have:k=63:=by omega
     subst this;rfl
    .rw[if_neg q];have:=Ep (i:=k+1) (by omega);rw[Nat.pow_succ]at this |-;rw[f8 (by omega)];omega
   rw[ht,y0,hk2,g];cases l[k]
   .exact ao rfl (e _ _ _ _ _ _ rfl e2 (aZ (by omega) (by omega)))
   .exact av rfl (e _ _ _ _ _ _ (by rw[f8 (by omega)];simp) e2 (aZ (by omega) (by omega)))
  .try dsimp only
   unfold yg;rw[List.take_length];exact ao (aw (show ¬(l.length:Int)<(l.length:Int) by omega)) rfl
 show H7 Hw l=_;unfold H7;exact af eL rfl
theorem Er(P:List Bool)(z:Bool)(h:P.length<=10000000):room 1 (List.length (P++(z::[])))=true:=by rw[List.length_append,List.length_cons,List.length_nil];exact iX (by omega) (by omega)
def bh(w n:Nat):List Bool:=(List.range n).map fun i=>decide (w / 2^i % 2=1)
theorem eZ(w n:Nat):(bh w n).length=n:=by simp[bh]
theorem Je(w n:Nat):bh w (n+1)=bh w n++[decide (w / 2^n % 2=1)]:=by unfold bh;rw[List.range_succ,List.map_append];rfl
theorem afr{q:Nat}(h:q<18446744073709551616):(iQ (gH .u64 (q:Int) (1:Int)) (1:Int))=decide (q % 2=1):=by rw[Py (by omega) (by omega)];show decide _=decide _;congr 1;apply propext;omega
theorem afe(q:Nat):(iQ (Int.tmod (q:Int) (2:Int)) (1:Int))=decide (q % 2=1):=by rw[Int.tmod_eq_emod_of_nonneg (by omega)];show decide _=decide _;congr 1;apply propext;omega
theorem afc{q:Nat}(h:q<18446744073709551616):IntKind.wrap .u64 (Int.tdiv (q:Int) (2:Int))=((q / 2:Nat):Int):=by rw[Int.tdiv_eq_ediv_of_nonneg (by omega),f8 (by omega)];omega
theorem qI(w n:Nat)(hn:n<=64)(hw:w<18446744073709551616):jw ((w:Int),((n:Int),()))=some (bh w n,()):=by
 have hb:AO ((n:Int),())=some ((n:Int),()):=by
  show tw (n:Int)=_;unfold tw;have h1:bO (decide ((64:Int)<(n:Int))) (64:Int) (n:Int)=(n:Int):=by unfold bO;rw[decide_eq_false (by omega)]
  have h2:bO (decide ((n:Int)<(0:Int))) (0:Int) (n:Int)=(n:Int):=by unfold bO;rw[decide_eq_false (by omega)]
  show some (bO (decide (bO (decide ((64:Int)<(n:Int))) (64:Int) (n:Int)<0)) 0 (bO (decide ((64:Int)<(n:Int))) (64:Int) (n:Int)),())=_;rw[h1,h2]
 have eL:IV ((w:Int),((n:Int),((0:Int),([],()))))=some (bh w n,()):=by
  unfold IV;delta u4;refine bN (fun k:Nat=>((w:Int),((n:Int),((k:Int),(bh w k,()))))) n rfl ?_ ?_ (aW (by omega))
  .intro k hk
   try dsimp only
   unfold yP;have hd:Int.fdiv (w:Int) (HPow.hPow (2:Int) (Min.min (Int.toNat (k:Int)) 64))=((w / 2^k:Nat):Int):=by rw[Int.toNat_natCast,Nat.min_eq_left (by omega),Int.fdiv_eq_ediv_of_nonneg _ (Int.pow_nonneg (by decide))];simp
   have hlt:w / 2^k<=w:=Nat.div_le_self _ _;have hb:(iQ (gH .u64 (Int.fdiv (w:Int) (HPow.hPow (2:Int) (Min.min (Int.toNat (k:Int)) 64))) (1:Int)) (1:Int))=decide (w / 2^k % 2=1):=by rw[hd];exact afr (by omega)
   have e:∀(a b:List Bool) (p q:Int),a=b->p=q->(some (.inl ((w:Int),((n:Int),(p,(a,()))))):Option (TL yF.σs⊕Out yB))=some (.inl ((w:Int),((n:Int),(q,(b,()))))):=by rintro _ _ _ _ rfl rfl;rfl
   refine av (al (show(k:Int)<(n:Int) by omega)) (aj (al (by omega)) (aj (Er _ _ (by rw[eZ];omega)) (e _ _ _ _ ?_ (aZ (by omega) (by omega)))));rw[Je];exact congrArg (fun b:Bool=>bh w k++[b]) hb
  .try dsimp only
   unfold yP;exact ao (aw (by omega)) rfl
 show I0 AO IV (w:Int) (n:Int)=_;unfold I0;exact af hb (af eL rfl)
theorem alH(w n:Nat)(hn:n<=64)(hw:w<18446744073709551616):GF ((w:Int),((n:Int),()))=some (bh w n,()):=by
 have eL:Hi ((w:Int),((n:Int),((0:Int),([],()))))=some (bh w n,()):=by
  unfold Hi;delta u4;refine bN (fun k:Nat=>(((w / 2^k:Nat):Int),((n:Int),((k:Int),(bh w k,()))))) n (by rw[Nat.pow_zero,Nat.div_one];rfl) ?_ ?_ (aW (by omega))
  .intro k hk
   try dsimp only
   unfold ya;have hlt:w / 2^k<=w:=Nat.div_le_self _ _;have hb:(iQ (Int.tmod ((w / 2^k:Nat):Int) (2:Int)) (1:Int))=decide (w / 2^k % 2=1):=by exact afe _
   have hd:IntKind.wrap .u64 (Int.tdiv ((w / 2^k:Nat):Int) (2:Int))=((w / 2^(k+1):Nat):Int):=by rw[Nat.pow_succ,<-Nat.div_div_eq_div_mul];exact afc (by omega)
   have e:∀(a b:List Bool) (c d p q:Int),a=b->c=d->p=q->(some (.inl (c,((n:Int),(p,(a,()))))):Option (TL xM.σs⊕Out xC))=some (.inl (d,((n:Int),(q,(b,()))))):=by rintro _ _ _ _ _ _ rfl rfl rfl;rfl
   refine av (al (show(k:Int)<(n:Int) by omega)) (av (al (show(k:Int)<64 by omega)) (aj (Er _ _ (by rw[eZ];omega)) (e _ _ _ _ _ _ ?_ hd (aZ (by omega) (by omega)))));rw[Je];exact congrArg (fun b:Bool=>bh w k++[b]) hb
  .try dsimp only
   unfold ya;exact ao (aw (by omega)) rfl
 show Hz Hi (w:Int) (n:Int)=_;unfold Hz;exact af eL rfl
abbrev aD:=Int×Int×Unit
def JV(L:List aD):Prop:=L.Pairwise (fun p q=>p.1<q.1)
def rd(M:List aD)(k:Int):Int:=match M with|[]=>0|p::M=>match decide (p.1=k)with|true=>p.2.1|false=>rd M k
def mg(k v:Int)(M:List aD):List aD:=match M with|[]=>[(k,v,())]|p::M=>match decide (k<p.1)with|true=>(k,v,())::p::M|false=>match decide (p.1=k)with|true=>(k,v,())::M|false=>p::mg k v M
def mf(k:Int)(M:List aD):List aD:=match M with|[]=>[]|p::M=>match decide (p.1=k)with|true=>M|false=>p::mf k M
theorem D7:∀(M:List aD) (k:Int),@jB (.int .u64) M k=rd M k
 |[],k=>rfl|p::M,k=>congrArg (fun z:Int=>match decide (p.1=k)with|true=>p.2.1|false=>z) (D7 M k)
theorem Jo(k v:Int):∀(M:List aD),@cu (.int .u64) k v M=mg k v M
 |[]=>rfl|p::M=>congrArg (fun z:List aD=>match decide (k<p.1)with|true=>(k,v,())::p::M|false=>match decide (p.1=k)with|true=>(k,v,())::M|false=>p::z) (Jo k v M)
theorem Jp(k:Int):∀(M:List aD),@fY (.int .u64) k M=mf k M
 |[]=>rfl|p::M=>congrArg (fun z:List aD=>match decide (p.1=k)with|true=>M|false=>p::z) (Jp k M)
def wr(L:List aD)(a w:Int):List aD:=if w=0 then mf a L else mg a w L
theorem af2{L:List aD}{a w:Int}(h:JV L):JV (wr L a w):=by
 unfold wr;split
 .exact Jp a L▸R9 (σ:=.int .u64) (k:=a) h
 .exact Jo a w L▸tN (σ:=.int .u64) (k:=a) (v:=w) h
theorem Jn(p:aD)(M:List aD)(a:Int):rd (p::M) a=if p.1=a then p.2.1 else rd M a:=by
 rw[rd];by_cases q:p.1=a
 .rw[decide_eq_true q,if_pos q]
 .rw[decide_eq_false q,if_neg q]
theorem V9(p:aD)(M:List aD)(a:Int):mf a (p::M)=if p.1=a then M else p::mf a M:=by
 rw[mf];by_cases q:p.1=a
 .rw[decide_eq_true q,if_pos q]
 .rw[decide_eq_false q,if_neg q]
theorem VX(p:aD)(M:List aD)(a w:Int):mg a w (p::M)=if a<p.1 then(a,w,())::p::M else if p.1=a then(a,w,())::M else p::mg a w M:=by
 rw[mg];by_cases q:a<p.1
 .rw[decide_eq_true q,if_pos q]
 .rw[decide_eq_false q,if_neg q];by_cases r:p.1=a
  .rw[decide_eq_true r,if_pos r]
  .rw[decide_eq_false r,if_neg r]
theorem WX(a:Int):∀L:List aD,(mf a L).length<=L.length
 |[]=>Nat.le_refl _|p::M=>by rw[V9];have:=WX a M;split<;>simp only[List.length_cons]<;>omega
theorem WW(a w:Int):∀L:List aD,(mg a w L).length<=L.length+1
 |[]=>Nat.le_refl _|p::M=>by
  rw[VX];have:=WW a w M;split
  .simp only[List.length_cons];omega
  .split<;>simp only[List.length_cons]<;>omega
theorem af1(L:List aD)(a w:Int):(wr L a w).length<=L.length+1:=by unfold wr;have:=WX a L;have:=WW a w L;split<;>omega
theorem alQ(L:List aD)(a:Int)(hl:L.length<=100000):GK (L,(a,()))=some (rd L a,()):=by
 have hL:=jt (B:=fun d=>yf   d.1 d.2.1 d.2.2.1)
  (I:=fun d:List aD×Int×Int×Unit=>∃k:Nat,d=(L,(a,((k:Int),())))/\k<=L.length/\rd L a=rd (L.drop k) a)
  (Q:=fun o:Out rM=>o=.inl (rd L a,())\/(o=.inr ()/\rd L a=0))
  (μ:=fun d=>L.length-d.2.2.1.toNat) ?_ NN (L,(a,((0:Int),()))) ⟨0,rfl,by omega,by rw[List.drop_zero]⟩ (aW (by show L.length-_<=_;omega))
 .obtain⟨o,ho,hq⟩:=hL;have ho':Vt (L,(a,((0:Int),())))=some o:=ho;show H6 Vt L a=_;unfold H6;rcases hq with rfl|⟨rfl,hz⟩
  .exact af ho' rfl
  .rw[hz];exact af ho' rfl
 .rintro _ ⟨k,rfl,hk,hr⟩
  try dsimp only
  unfold yf;by_cases q:k<L.length
  .have hx:=List.getElem?_eq_getElem q;have hg:gt aq L (k:Int)=L[k]:=aS (σ:=aq) hx;have hi:ar (k:Int) (List.length L)=true:=aA ⟨by omega,by omega⟩;rw[nv q,Jn]at hr;by_cases r:L[k].1=a
   .left;rw[if_pos r]at hr;refine⟨_,av (al (show(k:Int)<(L.length:Int) by omega)) (aj hi (av (al (by rw[hg];exact r)) (aj hi rfl))),.inl ?_⟩;rw[hg,<-hr]
   .right;rw[if_neg r]at hr;have e:∀p q:Int,p=q->(some (.inl (L,(a,(p,())))):Option (TL xV.σs⊕Out rM))=some (.inl (L,(a,(q,())))):=by rintro _ _ rfl;rfl
    refine⟨(L,(a,(((k+1:Nat):Int),()))),av (al (show(k:Int)<(L.length:Int) by omega)) (aj hi (ao (aw (by rw[hg];exact r)) (e _ _ (aZ (by omega) (by omega))))),⟨k+1,rfl,by omega,hr⟩,?_⟩;show L.length-(((k+1:Nat):Int)).toNat<L.length-((k:Int)).toNat;omega
  .left;refine⟨_,ao (aw (show ¬(k:Int)<(L.length:Int) by omega)) rfl,.inr ⟨rfl,?_⟩⟩;rw[hr,List.drop_eq_nil_of_le (by omega)];rfl
end Go.Proofs.YtkcpdpplobhpaaaGreat.V
end
