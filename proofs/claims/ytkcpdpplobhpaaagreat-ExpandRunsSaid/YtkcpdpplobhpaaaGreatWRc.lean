import Derived.Test.YtkcpdpplobhpaaaGreatWRa
import Derived.Test.YtkcpdpplobhpaaaGreatWSb
set_option linter.unusedVariables false
set_option linter.unusedSimpArgs false
set_option linter.unnecessarySimpa false
section
namespace Go.Proofs.YtkcpdpplobhpaaaGreat.Pl
section
variable{α:Type}(key:α->Int)
def eY(L:List α):Prop:=L.Pairwise (fun x y=>key x<=key y)
def fk(k:Int)(L:List α):List α:=L.filter (fun x=>decide (key x=k))
structure cN(S S':List α):Prop where
 om:eY key S'
 len:S'.length=S.length
 pa:∀k,fk key k S'=fk key k S
variable{key}
theorem lJ(k:Int)(A B:List α):fk key k (A++B)=fk key k A++fk key k B:=List.filter_append A B
theorem U5{k:Int}{L:List α}{x:α}:x∈fk key k L↔x∈L/\key x=k:=by unfold fk;simp
theorem UT{k:Int}{L:List α}(h:∀x∈L,key x≠k):fk key k L=[]:=by unfold fk;rw[List.filter_eq_nil_iff];intro x hx;simpa using h x hx
theorem abe{S S':List α}(h:∀k,fk key k S'=fk key k S){x:α}(hx:x∈S'):x∈S:=by have:x∈fk key (key x) S':=U5.2 ⟨hx,rfl⟩;rw[h]at this;exact(U5.1 this).1
theorem cN.mem{S S':List α}(h:cN key S S'){x:α}:x∈S'↔x∈S:=⟨abe h.pa,abe (fun k=>(h.pa k).symm)⟩
theorem cN.refl{S:List α}(h:eY key S):cN key S S:=⟨h,rfl,fun _=>rfl⟩
theorem mg{A B:List α}:eY key (A++B)↔eY key A/\eY key B/\∀x∈A,∀y∈B,key x<=key y:=by unfold eY;rw[List.pairwise_append]
theorem NV{x:α}{B:List α}:eY key (x::B)↔(∀y∈B,key x<=key y)/\eY key B:=by unfold eY;rw[List.pairwise_cons]
theorem aby{A B:List α}(h:∀x∈A,∀y∈B,key y<key x)(k:Int):fk key k (A++B)=fk key k (B++A):=by
 rw[lJ,lJ];by_cases q:∃x∈A,key x=k
 .obtain⟨x,hx,hk⟩:=q;have:fk key k B=[]:=UT (fun y hy=>by have:=h x hx y hy;omega);rw[this];simp
 .have:fk key k A=[]:=UT (fun x hx hk=>q ⟨x,hx,hk⟩);rw[this];simp
theorem NL{T0 T1 T2:List α}{x:α}(h:cN key T0 (T1++T2))(h1:∀y∈T1,key y<=key x)(h2:∀y∈T2,key x<key y):cN key (T0++[x]) (T1++x::T2):=by
 obtain⟨s1,s2,s3⟩:=mg.1 h.om;refine⟨?_,?_,?_⟩
 .refine mg.2 ⟨s1,NV.2 ⟨fun y hy=>Int.le_of_lt (h2 y hy),s2⟩,?_⟩;intro a ha b hb;rcases List.mem_cons.1 hb with rfl|hb
  .exact h1 a ha
  .exact s3 a ha b hb
 .have:=h.len;simp only[aU,cp,List.length_nil]at *
  omega
 .intro k;have e:fk key k (x::T2)=fk key k (T2++[x]):=by have:=aby (key:=key) (A:=T2) (B:=[x]) (fun a ha b hb=>by simp at hb;subst hb;exact h2 a ha) k;rw[this];rfl
  rw[lJ,e,lJ,<-cz,<-lJ,h.pa,<-lJ]
theorem agZ{A B A' B':List α}(ha:cN key A A')(hb:cN key B B')(h:∀x∈A,∀y∈B,key x<=key y):cN key (A++B) (A'++B'):=by
 refine⟨mg.2 ⟨ha.om,hb.om,fun x hx y hy=>h x (ha.mem.1 hx) y (hb.mem.1 hy)⟩,?_,?_⟩
 .have:=ha.len;have:=hb.len;simp only[aU];omega
 .intro k;rw[lJ,lJ,ha.pa,hb.pa]
theorem cN.VG{A B C:List α}(hl:B.length=A.length)(h:∀k,fk key k B=fk key k A)(g:cN key B C):cN key A C:=⟨g.om,g.len.trans hl,fun k=>(g.pa k).trans (h k)⟩
theorem Dk{P1 P2 Q1 Q2 R1 R2:List α}(hp:eY key (P1++P2))(hq:eY key (Q1++Q2))(h1:∀x∈P1,∀y∈Q2,key x<=key y)(h2:∀x∈P2,∀y∈Q1,key y<key x)
  (r1:cN key (P1++Q1) R1) (r2:cN key (P2++Q2) R2):cN key ((P1++P2)++(Q1++Q2)) (R1++R2):=by
 obtain⟨p1,p2,p3⟩:=mg.1 hp;obtain⟨q1,q2,q3⟩:=mg.1 hq;refine cN.VG (B:=(P1++Q1)++(P2++Q2)) ?_ ?_ (agZ r1 r2 ?_)
 .simp only[aU];omega
 .intro k;have e:=aby (key:=key) (A:=P2) (B:=Q1) h2 k;rw[lJ,lJ]at e;simp only[lJ,cz];rw[<-cz (fk key k Q1),<-e,cz]
 .intro x hx y hy;rcases List.mem_append.1 hx with hx|hx<;>rcases List.mem_append.1 hy with hy|hy
  .exact p3 x hx y hy
  .exact h1 x hx y hy
  .exact Int.le_of_lt (h2 y hy x hx)
  .exact q3 x hx y hy
theorem afU{S:List α}(h:eY key S):∀(n:Nat),(∀x∈S,1<=key x/\key x<=(n:Int))->S=(List.range n).flatMap (fun(i:Nat)=>fk key ((i:Int)+1) S):=by
 intro n
 induction n generalizing S with
 |zero=>intro hb;cases S with|nil=>rfl|cons x S=>have:=hb x (by simp);omega
 |succ n ih=>
  intro hb;have split:∀{S:List α},eY key S->(∀x∈S,key x<=((n+1:Nat):Int))->S=S.filter (fun x=>decide (key x<=(n:Int)))++fk key ((n:Int)+1) S:=by
   intro S
   induction S with
   |nil=>intro _ _;rfl|cons x S ihS=>
    intro hs hb;obtain⟨a,b⟩:=NV.1 hs;have e:=ihS b (fun y hy=>hb y (by simp[hy]));by_cases q:key x<=(n:Int)
    .unfold fk;rw[List.filter_cons_of_pos (by simpa using q),List.filter_cons_of_neg (by simp;omega)];have e':=congrArg (List.cons x) e;exact e'
    .have hk:key x=(n:Int)+1:=by have:=hb x (by simp);omega
     have all:∀y∈S,key y=(n:Int)+1:=fun y hy=>by have:=a y hy;have:=hb y (by simp[hy]);omega
     have f0:S.filter (fun x=>decide (key x<=(n:Int)))=[]:=by rw[List.filter_eq_nil_iff];intro y hy;have:=all y hy;simp;omega
     have f1:fk key ((n:Int)+1) S=S:=by unfold fk;rw[List.filter_eq_self];intro y hy;simpa using all y hy
     have g0:(x::S).filter (fun x=>decide (key x<=(n:Int)))=[]:=by rw[List.filter_cons_of_neg (by simp;omega),f0]
     have g1:fk key ((n:Int)+1) (x::S)=x::fk key ((n:Int)+1) S:=by unfold fk;rw[List.filter_cons_of_pos (by simpa using hk)]
     rw[g0,g1,f1];rfl
  have e:=split h (fun x hx=>(hb x hx).2);have hs':eY key (S.filter (fun x=>decide (key x<=(n:Int)))):=List.Pairwise.filter _ h;have ih':=ih hs' (fun x hx=>by have:=List.mem_filter.1 hx;exact⟨(hb x this.1).1,by simpa using this.2⟩);rw[List.range_succ,List.flatMap_append,List.flatMap_singleton];have e2:(List.range n).flatMap (fun(i:Nat)=>fk key ((i:Int)+1) S)=(List.range n).flatMap (fun(i:Nat)=>fk key ((i:Int)+1) (S.filter (fun x=>decide (key x<=(n:Int))))):=by
   have:∀(l:List Nat),(∀i∈l,i<n)->l.flatMap (fun(i:Nat)=>fk key ((i:Int)+1) S)=l.flatMap (fun(i:Nat)=>fk key ((i:Int)+1) (S.filter (fun x=>decide (key x<=(n:Int))))):=by
    intro l
    induction l with
    |nil=>intro _;rfl|cons i l il=>
     intro hi;rw[List.flatMap_cons,List.flatMap_cons,il (fun j hj=>hi j (by simp[hj]))];congr 1;unfold fk;rw[List.filter_filter];apply List.filter_congr;intro x hx;have:=hi i (by simp);by_cases q:key x=(i:Int)+1
     .have:key x<=(n:Int):=by omega
      simp[q];omega
     .simp[q]
   exact this _ (fun i hi=>List.mem_range.1 hi)
  rw[e2,<-ih'];exact e
theorem cN.flat{S S':List α}(h:cN key S S')(n:Nat)(hb:∀x∈S,1<=key x/\key x<=(n:Int)):S'=(List.range n).flatMap (fun(i:Nat)=>fk key ((i:Int)+1) S):=by
 have e:=afU h.om n (fun x hx=>hb x (h.mem.1 hx));rw[e];have:∀(l:List Nat),l.flatMap (fun(i:Nat)=>fk key ((i:Int)+1) S')=l.flatMap (fun(i:Nat)=>fk key ((i:Int)+1) S):=by
  intro l
  induction l with|nil=>rfl|cons i l il=>rw[List.flatMap_cons,List.flatMap_cons,il,h.pa]
 rw[<-e];exact e.trans (this _)
end
end Go.Proofs.YtkcpdpplobhpaaaGreat.Pl
end
section
namespace Go.Proofs.YtkcpdpplobhpaaaGreat.V
open Go Go.RowKit
theorem bR{x:Int}{n:Nat}(e:x=(n:Int))(h:n<=1000000000):IntKind.wrap .i64 x=(n:Int):=by rw[e];exact cf (by omega)
theorem uy{σ:Sh}{X Z:List σ.T}{p:σ.T}{u:Nat}(hu:X.length=u):gt σ (X++p::Z) (u:Int)=p:=by refine bF ?_;rw[List.getElem?_append_right (by omega),hu];simp
theorem tE{α:Type}{X Z:List α}{p q:α}{u:Nat}(hu:X.length=u):(X++p::Z).set u q=X++q::Z:=by rw[List.set_append_right _ _ (by omega),hu];simp
theorem sw2{α:Type}{X M Y:List α}{p q:α}{u v:Nat}(hu:X.length=u)(hv:X.length+1+M.length=v):((X++p::(M++q::Y)).set u q).set v p=X++q::(M++p::Y):=by
 rw[tE hu];have e:X++q::(M++q::Y)=(X++q::M)++q::Y:=by simp
 rw[e,tE (by simp;omega)];simp
theorem sZ{α:Type}{L:List α}{i:Nat}(h:i<L.length):L.drop i=L[i]::L.drop (i+1):=List.drop_eq_getElem_cons h
theorem abi{R:Type}{L X M Y:List bp}{p q:bp}{u v:Nat}(hL:L=X++p::(M++q::Y))(hu:X.length=u)(hv:X.length+1+M.length=v){U V:Int}(eU:U=(u:Int))(eV:V=(v:Int)){y z:Option R}
  (h:List.set (List.set L (Int.toNat U) ((gt aq L V).1,((gt aq L V).2.1,((gt aq L V).2.2.1,())))) (Int.toNat V) ((gt aq L U).1,((gt aq L U).2.1,((gt aq L U).2.2.1,())))=X++q::(M++p::Y)->y=z) :
  (ai (av V (List.length L)) <|ai (av U (List.length L)) <|ai (av U (List.length L)) <|ai (av V (List.length (List.set L (Int.toNat U) ((gt aq L V).1,((gt aq L V).2.1,((gt aq L V).2.2.1,())))))) <|y)=z:=by
 subst hL;subst eU;subst eV;have hlen:List.length (X++p::(M++q::Y))=X.length+(1+(M.length+(1+Y.length))):=by simp;omega
 have gu:gt aq (X++p::(M++q::Y)) (u:Int)=p:=uy hu;have gv:gt aq (X++p::(M++q::Y)) (v:Int)=q:=by
  have e:X++p::(M++q::Y)=(X++p::M)++q::Y:=by simp
  rw[e];exact uy (by simp;omega)
 have i1:av (v:Int) (List.length (X++p::(M++q::Y)))=true:=aK ⟨by omega,by rw[hlen];omega⟩;have i2:av (u:Int) (List.length (X++p::(M++q::Y)))=true:=aK ⟨by omega,by rw[hlen];omega⟩;have hs:∀z:bp,av (v:Int) (List.length (List.set (X++p::(M++q::Y)) (Int.toNat (u:Int)) z))=true:=fun z=>(congrArg (av (v:Int)) List.length_set).trans i1;refine ak i1 (ak i2 (ak i2 (ak (hs _) (h ?_))));rw[gu,gv,eD,eD];exact sw2 hu hv
theorem anI(W:jO)(X P M Q Y:List bp)(a b n:Nat)(ha:X.length=a)(hp:P.length=n)(hq:Q.length=n)(hb:X.length+P.length+M.length=b)(hl:b+n<=1000000) :
  YO ((a:Int),((b:Int),((n:Int),((0:Int),(X++(P++(M++(Q++Y))),W)))))=some (X++(Q++(M++(P++Y))),W):=by
 unfold YO;delta u16;refine dn (fun i:Nat=>((a:Int),((b:Int),((n:Int),((i:Int),(X++(Q.take i++(P.drop i++(M++(P.take i++(Q.drop i++Y))))),W)))))) n rfl ?_ ?_ (bL (by omega))
 .intro i hi
  try dsimp only
  unfold BR;have hpi:i<P.length:=by omega
  have hqi:i<Q.length:=by omega
  refine ax (ar (show(i:Int)<(n:Int) by omega)) ?_;refine abi (X:=X++Q.take i) (p:=P[i]) (M:=P.drop (i+1)++(M++P.take i)) (q:=Q[i]) (Y:=Q.drop (i+1)++Y) (u:=a+i) (v:=b+i) ?_ ?_ ?_ ?_ ?_ (fun hset=>?_)
  .rw[sZ hpi,sZ hqi];simp only[cz,List.cons_append]
  .simp;omega
  .simp;omega
  .exact bR (by omega) (by omega)
  .exact bR (by omega) (by omega)
  .refine ak (ar rfl) (ak (ar rfl) (ak (ar rfl) ?_));have e:∀(u v:Int) (A B:List bp),u=v->A=B->(some (.inl ((a:Int),((b:Int),((n:Int),(u,(A,W)))))):Option (TL BK.σs⊕Out BD))=some (.inl ((a:Int),((b:Int),((n:Int),(v,(B,W)))))):=by rintro _ _ _ _ rfl rfl;rfl
   refine e _ _ _ _ (bR (n:=i+1) (by omega) (by omega)) (hset.trans ?_);rw[List.take_succ_eq_append_getElem hpi,List.take_succ_eq_append_getElem hqi];simp only[cz,List.cons_append,List.nil_append]
 .try dsimp only
  unfold BR;refine ag (au (show ¬(n:Int)<(n:Int) by omega)) ?_;have e1:P.drop n=[]:=List.drop_eq_nil_of_le (by omega);have e2:Q.drop n=[]:=List.drop_eq_nil_of_le (by omega);have e3:P.take n=P:=fR (by omega);have e4:Q.take n=Q:=fR (by omega);rw[e1,e2,e3,e4];rfl
theorem NX(W:jO)(X P M Q Y:List bp){A B N:Int}(a b n:Nat)(eA:A=(a:Int))(eB:B=(b:Int))(eN:N=(n:Int))(ha:X.length=a)(hp:P.length=n)(hq:Q.length=n)(hb:X.length+P.length+M.length=b)(hl:b+n<=1000000){L:List bp}(hL:L=X++(P++(M++(Q++Y)))) :
  YP (A,(B,(N,(L,W))))=some (X++(Q++(M++(P++Y))),W):=by
 subst eA;subst eB;subst eN;subst hL;exact ah (anI W X P M Q Y a b n ha hp hq hb hl) rfl
theorem afQ(W:jO)(m:Nat)(G:List bp)(hG:G.length<=400000){X P Q Y:List bp}(hp:0<P.length)(hq:0<Q.length)(hm:X.length+P.length=m)(hg:X++(Q++(P++Y))=G) :
  ∃o,Lw ((m:Int),((P.length:Int),((Q.length:Int),(X++(P++(Q++Y)),W))))=some o /\
   ∃X P Q Y:List bp,o=((m:Int),((P.length:Int),(X++(P++(Q++Y)),W)))/\Q.length=P.length/\X.length+P.length=m/\X++(Q++(P++Y))=G:=by
 unfold Lw;delta fB;refine mW (fun d=>∃X P Q Y:List bp,d=((m:Int),((P.length:Int),((Q.length:Int),(X++(P++(Q++Y)),W))))/\0<P.length/\0<Q.length/\X.length+P.length=m/\X++(Q++(P++Y))=G)
  (fun o=>∃X P Q Y:List bp,o=((m:Int),((P.length:Int),(X++(P++(Q++Y)),W)))/\Q.length=P.length/\X.length+P.length=m/\X++(Q++(P++Y))=G)
  (fun d=>d.2.1.toNat+d.2.2.1.toNat) ?_ NN _ ⟨X,P,Q,Y,rfl,hp,hq,hm,hg⟩ (bL (by have:=congrArg List.length hg;simp only[aU]at this;show((P.length:Int)).toNat+((Q.length:Int)).toNat<=_;omega))
 rintro d ⟨X,P,Q,Y,rfl,hp,hq,hm,hg⟩;have hlen:X.length+(Q.length+(P.length+Y.length))<=400000:=by have:=congrArg List.length hg;simp only[aU]at this;omega
 try dsimp only
 unfold Ly;rcases Nat.lt_trichotomy P.length Q.length with h|h|h
 .-- the second one is longer
  right;obtain⟨Q1,Q2,hQ,h1,h2⟩:∃Q1 Q2:List bp,Q=Q1++Q2/\Q1.length=Q.length-P.length/\Q2.length=P.length:=⟨Q.take (Q.length-P.length),Q.drop (Q.length-P.length),(List.take_append_drop _ _).symm,by simp,by simp;omega⟩;have es:=NX W X P Q1 Q2 Y (A:=IntKind.wrap .i64 ((m:Int)-(P.length:Int))) (B:=IntKind.wrap .i64 ((IntKind.wrap .i64 ((m:Int)+(Q.length:Int)))-(P.length:Int))) (N:=(P.length:Int)) X.length (m+Q.length-P.length) P.length
   (bR (by omega) (by omega)) (by rw[bR (x:=(m:Int)+(Q.length:Int)) (n:=m+Q.length) (by omega) (by omega)];exact bR (by omega) (by omega)) rfl rfl rfl h2 (by omega) (by omega) (L:=X++(P++(Q++Y))) (by rw[hQ];simp only[cz])
  refine⟨((m:Int),((Q2.length:Int),((Q1.length:Int),(X++(Q2++(Q1++(P++Y))),W)))),?_,⟨X,Q2,Q1,P++Y,rfl,by omega,by omega,by omega,?_⟩,?_⟩
  .refine ax (ke (au (show ¬(P.length:Int)=(Q.length:Int) by omega))) (ag (au (show ¬(Q.length:Int)<(P.length:Int) by omega)) (ah es ?_));have e:∀(u v u' v':Int) (A:List bp),u=u'->v=v'->(some (.inl ((m:Int),(u,(v,(A,W))))):Option (TL wb.σs⊕Out v8))=some (.inl ((m:Int),(u',(v',(A,W))))):=by rintro _ _ _ _ _ rfl rfl;rfl
   exact e _ _ _ _ _ (by omega) (bR (by omega) (by omega))
  .rw[<-hg,hQ];simp only[cz]
  .show((Q2.length:Int)).toNat+((Q1.length:Int)).toNat<((P.length:Int)).toNat+((Q.length:Int)).toNat;omega
 .left;refine⟨((m:Int),((P.length:Int),(X++(P++(Q++Y)),W))),ag (fQ (ar (show(P.length:Int)=(Q.length:Int) by omega))) rfl,X,P,Q,Y,rfl,h.symm,hm,hg⟩
 .-- the first one is longer
  right;obtain⟨P1,P2,hP,h1,h2⟩:∃P1 P2:List bp,P=P1++P2/\P1.length=Q.length/\P2.length=P.length-Q.length:=⟨P.take Q.length,P.drop Q.length,(List.take_append_drop _ _).symm,by simp;omega,by simp⟩;have es:=NX W X P1 P2 Q Y (A:=IntKind.wrap .i64 ((m:Int)-(P.length:Int))) (B:=(m:Int)) (N:=(Q.length:Int)) X.length m Q.length
   (bR (by omega) (by omega)) rfl rfl rfl h1 rfl (by omega) (by omega) (L:=X++(P++(Q++Y))) (by rw[hP];simp only[cz])
  refine⟨((m:Int),((P2.length:Int),((P1.length:Int),((X++Q)++(P2++(P1++Y)),W)))),?_,⟨X++Q,P2,P1,Y,rfl,by omega,by omega,by simp only[aU];omega,?_⟩,?_⟩
  .refine ax (ke (au (show ¬(P.length:Int)=(Q.length:Int) by omega))) (ax (ar (show(Q.length:Int)<(P.length:Int) by omega)) (ah es ?_));have e:∀(u v u' v':Int) (A A':List bp),u=u'->v=v'->A=A'->(some (.inl ((m:Int),(u,(v,(A,W))))):Option (TL wb.σs⊕Out v8))=some (.inl ((m:Int),(u',(v',(A',W))))):=by rintro _ _ _ _ _ _ rfl rfl rfl;rfl
   exact e _ _ _ _ _ _ (bR (by omega) (by omega)) (by omega) (by simp only[cz])
  .rw[<-hg,hP];simp only[cz]
  .show((P2.length:Int)).toNat+((P1.length:Int)).toNat<((P.length:Int)).toNat+((Q.length:Int)).toNat;omega
theorem ahT(W:jO){X P Q Y L:List bp}{A M B:Int}(hp:0<P.length)(hq:0<Q.length)(eA:A=(X.length:Int))(eM:M=((X.length+P.length:Nat):Int))(eB:B=((X.length+P.length+Q.length:Nat):Int))(hl:L.length<=400000)(hL:L=X++(P++(Q++Y))) :
  B8 (A,(M,(B,(L,W))))=some (X++(Q++(P++Y)),W):=by
 subst eA;subst eM;subst eB;subst hL;have hlen:X.length+(P.length+(Q.length+Y.length))<=400000:=by simpa only[aU]using hl
 obtain⟨o,e1,X',P',Q',Y',rfl,h1,h2,h3⟩:=afQ W (X.length+P.length) (X++(Q++(P++Y))) (by simp only[aU];omega) hp hq rfl rfl (Y:=Y);have hlen':X'.length+(P'.length+(Q'.length+Y'.length))<=400000:=by have:=congrArg List.length h3;simp only[aU]at this;omega
 have es:=NX W X' P' [] Q' Y' (A:=IntKind.wrap .i64 (((X.length+P.length:Nat):Int)-(P'.length:Int))) (B:=((X.length+P.length:Nat):Int)) (N:=(P'.length:Int)) X'.length (X.length+P.length) P'.length
  (bR (by omega) (by omega)) rfl rfl rfl rfl h1 (by simp only[List.length_nil];omega) (by omega) (L:=X'++(P'++(Q'++Y'))) rfl
 have e0:Lw (((X.length+P.length:Nat):Int),(IntKind.wrap .i64 (((X.length+P.length:Nat):Int)-(X.length:Int)),(IntKind.wrap .i64 (((X.length+P.length+Q.length:Nat):Int)-((X.length+P.length:Nat):Int)),(X++(P++(Q++Y)),W))))=some (((X.length+P.length:Nat):Int),((P'.length:Int),(X'++(P'++(Q'++Y')),W))):=by rw[bR (x:=((X.length+P.length:Nat):Int)-(X.length:Int)) (n:=P.length) (by omega) (by omega),bR (x:=((X.length+P.length+Q.length:Nat):Int)-((X.length+P.length:Nat):Int)) (n:=Q.length) (by omega) (by omega)];exact e1
 refine ah e0 (ah es ?_);have e:∀(A A':List bp),A=A'->(some (A,W):Option (Out wa))=some (A',W):=by rintro _ _ rfl;rfl
 exact e _ _ (by rw[List.nil_append];exact h3)
open Pl (cN eY NL)
def mP(W:jO)(L:List bp):TL [.int .i64,.sl (.int .i64),.sl ae,.sl (.int .i64),.sl (.int .i64),.sl (.int .i64),.sl ab,.sl ae,.sl (.int .i64),.sl aq,.sl (.int .u8),.sl (.int .i64)]:=(W.1,(W.2.1,(W.2.2.1,(W.2.2.2.1,(W.2.2.2.2.1,(W.2.2.2.2.2.1,(W.2.2.2.2.2.2.1,(W.2.2.2.2.2.2.2.1,(W.2.2.2.2.2.2.2.2.1,(L,(W.2.2.2.2.2.2.2.2.2.1,(W.2.2.2.2.2.2.2.2.2.2.1,()))))))))))))
structure ln(W:jO)(key:bp->Int)(V:bp->Prop):Prop where
 cmp:∀(L:List bp) (x y:bp),V x->V y->∃c:Int,kg (x.1,(x.2.1,(x.2.2.1,(y.1,(y.2.1,(y.2.2.1,mP W L))))))=some (c,mP W L)/\(c<0↔key x<key y)
theorem abj{R:Type}{L X Y:List bp}{p q:bp}{u v:Nat}(hL:L=X++q::(p::Y))(hv:X.length=v)(hu:v+1=u){U V:Int}(eU:U=(u:Int))(eV:V=(v:Int)){y z:Option R}
  (h:List.set (List.set L (Int.toNat U) ((gt aq L V).1,((gt aq L V).2.1,((gt aq L V).2.2.1,())))) (Int.toNat V) ((gt aq L U).1,((gt aq L U).2.1,((gt aq L U).2.2.1,())))=X++p::(q::Y)->y=z) :
  (ai (av V (List.length L)) <|ai (av U (List.length L)) <|ai (av U (List.length L)) <|ai (av V (List.length (List.set L (Int.toNat U) ((gt aq L V).1,((gt aq L V).2.1,((gt aq L V).2.2.1,())))))) <|y)=z:=by
 subst hL;subst eU;subst eV;subst hu;have hlen:List.length (X++q::(p::Y))=X.length+(1+(1+Y.length)):=by simp;omega
 have gv:gt aq (X++q::(p::Y)) (v:Int)=q:=uy hv;have e:X++q::(p::Y)=(X++[q])++p::Y:=by simp
 have gu:gt aq (X++q::(p::Y)) ((v+1:Nat):Int)=p:=by rw[e];exact uy (by simp;omega)
 have i1:av (v:Int) (List.length (X++q::(p::Y)))=true:=aK ⟨by omega,by rw[hlen];omega⟩;have i2:av ((v+1:Nat):Int) (List.length (X++q::(p::Y)))=true:=aK ⟨by omega,by rw[hlen];omega⟩;have hs:∀z:bp,av (v:Int) (List.length (List.set (X++q::(p::Y)) (Int.toNat ((v+1:Nat):Int)) z))=true:=fun z=>(congrArg (av (v:Int)) List.length_set).trans i1;refine ak i1 (ak i2 (ak i2 (ak (hs _) (h ?_))));rw[gu,gv,eD,eD];have e2:(X++q::(p::Y)).set (v+1) q=X++q::(q::Y):=by rw[e,tE (by simp;omega)];simp
 exact(congrArg (fun l:List bp=>l.set v p) e2).trans (tE hv)
section
variable{W:jO}{key:bp->Int}{V:bp->Prop}
theorem afo(C:ln W key V)(X T T0 Y:List bp)(x:bp)(A B I:Int)(i:Nat)(hA:A=(X.length:Int))(hi:X.length+T.length=i)(hl:X.length+(T.length+Y.length)<=400000)(hT:cN key T0 T)(hV:∀y∈T,V y)(hx:V x) :
  ∃o,KU (A,(B,(I,((i:Int),(X++(T++(x::Y)),W)))))=some o/\∃S,o=(A,(B,(I,(X++(S++Y),W))))/\cN key (T0++[x]) S:=by
 unfold KU;delta u16;refine mW (fun d=>∃T1 T2:List bp,d=(A,(B,(I,(((X.length+T1.length:Nat):Int),(X++(T1++(x::(T2++Y))),W)))))/\T1++T2=T/\∀y∈T2,key x<key y)
  (fun o=>∃S,o=(A,(B,(I,(X++(S++Y),W))))/\cN key (T0++[x]) S) (fun d=>d.2.2.2.1.toNat) ?_ NN _ ⟨T,[],by subst hi;rfl,by simp,by simp⟩ (bL (by show((i:Int)).toNat<=_;omega))
 rintro d ⟨T1,T2,rfl,hTT,h2⟩;have hlT:T1.length+T2.length=T.length:=by rw[<-hTT,aU]
 try dsimp only
 unfold KW;rcases List.eq_nil_or_concat T1 with rfl|⟨T1',q,rfl⟩
 .left;refine⟨_,ag (au (by rw[hA];simp)) rfl,x::T2,rfl,?_⟩;have:=NL (T1:=[]) (T2:=T2) (x:=x) (T0:=T0) (key:=key) (by rw[hTT];exact hT) (by simp) h2;exact this
 .have hj:(X.length+(T1'.concat q).length:Nat)=X.length+T1'.length+1:=by simp;omega
  have hq:V q:=hV q (by rw[<-hTT];simp);have eL:X++(T1'.concat q++(x::(T2++Y)))=(X++T1')++q::(x::(T2++Y)):=by simp
  obtain⟨c,ec,hc⟩:=C.cmp (X++(T1'.concat q++(x::(T2++Y)))) x q hx hq;rw[hj];have w1:IntKind.wrap .i64 (((X.length+T1'.length+1:Nat):Int)-1)=((X.length+T1'.length:Nat):Int):=bR (by omega) (by simp only[List.length_concat]at hlT;omega);have gx:gt aq (X++(T1'.concat q++(x::(T2++Y)))) ((X.length+T1'.length+1:Nat):Int)=x:=by
   have e:X++(T1'.concat q++(x::(T2++Y)))=(X++T1'++[q])++x::(T2++Y):=by simp
   rw[e];exact uy (by simp;omega)
  have gq:gt aq (X++(T1'.concat q++(x::(T2++Y)))) (IntKind.wrap .i64 (((X.length+T1'.length+1:Nat):Int)-1))=q:=by rw[w1,eL];exact uy (by simp)
  have hlen:List.length (X++(T1'.concat q++(x::(T2++Y))))=X.length+T1'.length+2+(T2.length+Y.length):=by simp;omega
  have i1:av ((X.length+T1'.length+1:Nat):Int) (List.length (X++(T1'.concat q++(x::(T2++Y)))))=true:=aK ⟨by omega,by rw[hlen];omega⟩;have i2:av (IntKind.wrap .i64 (((X.length+T1'.length+1:Nat):Int)-1)) (List.length (X++(T1'.concat q++(x::(T2++Y)))))=true:=by rw[w1];exact aK ⟨by omega,by rw[hlen];omega⟩
  have ec':kg ((gt aq (X++(T1'.concat q++(x::(T2++Y)))) ((X.length+T1'.length+1:Nat):Int)).1,((gt aq (X++(T1'.concat q++(x::(T2++Y)))) ((X.length+T1'.length+1:Nat):Int)).2.1,((gt aq (X++(T1'.concat q++(x::(T2++Y)))) ((X.length+T1'.length+1:Nat):Int)).2.2.1,
    ((gt aq (X++(T1'.concat q++(x::(T2++Y)))) (IntKind.wrap .i64 (((X.length+T1'.length+1:Nat):Int)-1))).1,((gt aq (X++(T1'.concat q++(x::(T2++Y)))) (IntKind.wrap .i64 (((X.length+T1'.length+1:Nat):Int)-1))).2.1,((gt aq (X++(T1'.concat q++(x::(T2++Y)))) (IntKind.wrap .i64 (((X.length+T1'.length+1:Nat):Int)-1))).2.2.1,mP W (X++(T1'.concat q++(x::(T2++Y))))))))))
    = some (c,mP W (X++(T1'.concat q++(x::(T2++Y))))):=by rw[gx,gq];exact ec
  have hA':A<((X.length+T1'.length+1:Nat):Int):=by rw[hA];omega
  by_cases hk:key x<key q
  .right;refine⟨(A,(B,(I,(((X.length+T1'.length:Nat):Int),(X++(T1'++(x::(q::T2++Y))),W))))),?_,⟨T1',q::T2,rfl,by rw[<-hTT];simp,?_⟩,?_⟩
   .refine ax (ar hA') (ak i1 (ak i2 (ah ec' (ax (show bn true (iL c 0) false=true from ar (hc.2 hk)) ?_))));refine abj (X:=X++T1') (q:=q) (p:=x) (Y:=T2++Y) (v:=X.length+T1'.length) (u:=X.length+T1'.length+1) eL (by simp) rfl rfl w1 (fun hset=>?_);refine ak (ar rfl) (ak (ar rfl) ?_);have e:∀(u u':Int) (L L':List bp),u=u'->L=L'->(some (.inl (A,(B,(I,(u,(L,W)))))):Option (TL v7.σs⊕Out vZ))=some (.inl (A,(B,(I,(u',(L',W)))))):=by rintro _ _ _ _ rfl rfl;rfl
    exact e _ _ _ _ w1 (hset.trans (by simp))
   .intro y hy;rcases List.mem_cons.1 hy with rfl|hy
    .exact hk
    .exact h2 y hy
   .show(((X.length+T1'.length:Nat):Int)).toNat<(((X.length+T1'.length+1:Nat):Int)).toNat;omega
  .left;refine⟨(A,(B,(I,(X++((T1'.concat q++x::T2)++Y),W)))),?_,_,rfl,?_⟩
   .refine ax (ar hA') (ak i1 (ak i2 (ah ec' (ag (show bn true (iL c 0) false=false from au (fun q=>hk (hc.1 q))) ?_))));have e:∀(L L':List bp),L=L'->(some (.inr (A,(B,(I,(L,W))))):Option (TL v7.σs⊕Out vZ))=some (.inr (A,(B,(I,(L',W))))):=by rintro _ _ rfl;rfl
    exact e _ _ (show X++(T1'.concat q++(x::(T2++Y)))=_ from by simp)
   .refine NL (by rw[hTT];exact hT) ?_ h2;intro y hy;have hs:eY key (T1'.concat q):=(Pl.mg.1 (by rw[hTT];exact hT.om:eY key (T1'.concat q++T2))).1;rw[List.concat_eq_append]at hy hs;obtain⟨_,_,h3⟩:=Pl.mg.1 hs;rcases List.mem_append.1 hy with hy|hy
    .have:=h3 y hy q (by simp);omega
    .simp at hy;subst hy;omega
theorem UU(C:ln W key V){X S Y L:List bp}{A B:Int}(eA:A=(X.length:Int))(eB:B=((X.length+S.length:Nat):Int))(hL:L=X++(S++Y))(hl:L.length<=400000)(hV:∀y∈S,V y) :
  ∃S',Yi (A,(B,(L,W)))=some (X++(S'++Y),W)/\cN key S S':=by
 subst eA;subst eB;subst hL;have hlen:X.length+(S.length+Y.length)<=400000:=by simpa only[aU]using hl
 have w0:IntKind.wrap .i64 ((X.length:Int)+1)=((X.length+1:Nat):Int):=bR (by omega) (by omega);cases S with
 |nil=>
  refine⟨[],?_,cN.refl (List.Pairwise.nil)⟩;have e1:Bv ((X.length:Int),(((X.length+([]:List bp).length:Nat):Int),(IntKind.wrap .i64 ((X.length:Int)+1),(X++([]++Y),W))))=some (X++([]++Y),W):=by
   unfold Bv;delta fB;refine dn (fun _=>_) 0 rfl (fun i hi=>absurd hi (Nat.not_lt_zero i)) ?_ (bL (by omega))
   try dsimp only
   unfold Bz;exact ag (au (by rw[w0];simp only[List.length_nil];omega)) rfl
  exact ah e1 rfl
 |cons s S=>
  have e1:∃o,Bv ((X.length:Int),(((X.length+(s::S).length:Nat):Int),(IntKind.wrap .i64 ((X.length:Int)+1),(X++(s::S++Y),W))))=some o/\∃S',o=(X++(S'++Y),W)/\cN key (s::S) S':=by
   unfold Bv;delta fB;refine mW (fun d=>∃T0 T R:List bp,d=((X.length:Int),(((X.length+(s::S).length:Nat):Int),(((X.length+T.length:Nat):Int),(X++(T++(R++Y)),W))))/\T0++R=s::S/\cN key T0 T)
    (fun o=>∃S',o=(X++(S'++Y),W)/\cN key (s::S) S') (fun d=>(X.length+(s::S).length)-d.2.2.1.toNat) ?_ NN _ ⟨[s],[s],S,by rw[w0];rfl,rfl,cN.refl (by unfold eY;simp)⟩ (bL (by
     have:List.length (s::S)<=400000:=by omega
     omega))
   rintro d ⟨T0,T,R,rfl,hTR,hT⟩;have hlT:=hT.len;have hlR:T0.length+R.length=(s::S).length:=by rw[<-hTR,aU]
   try dsimp only
   unfold Bz;cases R with
   |nil=>left;refine⟨_,ag (au (by simp only[List.length_nil]at hlR;omega)) rfl,T,rfl,?_⟩;rw[dB]at hTR;rw[<-hTR];exact hT|cons r R=>
    right;simp only[cp]at hlR;have hVT:∀y∈T,V y:=fun y hy=>hV y (by rw[<-hTR];simp[hT.mem.1 hy]);obtain⟨o,e4,S',rfl,hS'⟩:=afo C X T T0 (R++Y) r (X.length:Int) ((X.length+(s::S).length:Nat):Int) ((X.length+T.length:Nat):Int) (X.length+T.length) rfl rfl (by simp only[aU,cp]at *;omega) hT hVT (hV r (by rw[<-hTR];simp));have hl':=hS'.len;simp only[aU,cp,List.length_nil]at hl';refine⟨((X.length:Int),(((X.length+(s::S).length:Nat):Int),(((X.length+S'.length:Nat):Int),(X++(S'++(R++Y)),W)))),?_,⟨T0++[r],S',R,rfl,by rw[<-hTR];simp,hS'⟩,?_⟩
    .refine ax (ar (by simp only[cp]at *;omega)) (ah e4 ?_);have e:∀(u u':Int),u=u'->(some (.inl ((X.length:Int),(((X.length+(s::S).length:Nat):Int),(u,(X++(S'++(R++Y)),W))))):Option (TL Bu.σs⊕Out Bt))=some (.inl ((X.length:Int),(((X.length+(s::S).length:Nat):Int),(u',(X++(S'++(R++Y)),W))))):=by rintro _ _ rfl;rfl
     exact e _ _ (show IntKind.wrap .i64 (((X.length+T.length:Nat):Int)+1)=_ from bR (by omega) (by simp only[aU,cp]at *;omega))
    .show(X.length+(s::S).length)-(((X.length+S'.length:Nat):Int)).toNat<(X.length+(s::S).length)-(((X.length+T.length:Nat):Int)).toNat;simp only[cp]at *
     omega
  obtain⟨o,e1,S',rfl,hS⟩:=e1;exact⟨S',ah e1 rfl,hS⟩
end
open Pl (cN eY Dk)
abbrev hf(i j:Int):Int:=IntKind.wrap .i64 (Int.fdiv (IntKind.wrap .u64 (IntKind.wrap .i64 (i+j))) (HPow.hPow (2:Int) (Min.min (Int.toNat (1:Int)) 64)))
theorem Dt{i j:Nat}(h:i+j<=1000000):hf (i:Int) (j:Int)=(((i+j) / 2:Nat):Int):=by
 unfold hf;rw[bR (x:=(i:Int)+(j:Int)) (n:=i+j) (by omega) (by omega)];have e1:IntKind.wrap .u64 ((i+j:Nat):Int)=((i+j:Nat):Int):=by unfold IntKind.wrap;simp[IntKind.bits,IntKind.signed];omega
 rw[e1];have e2:(HPow.hPow (2:Int) (Min.min (Int.toNat (1:Int)) 64):Int)=2:=rfl;rw[e2,Int.fdiv_eq_ediv_of_nonneg _ (by decide)];exact bR (by omega) (by omega)
theorem NP{D O:Type}{B:D->Option (D⊕O)}(st:Nat->Nat->D)(fin:Nat->O)(pr:Nat->Prop){lo hi:Nat}(hlh:lo<=hi)(hb:hi<=1000000)
  (hm:∀c d,lo<=c->c<=d->d<hi->pr d->pr c)
  (hs1:∀i j,lo<=i->i<j->j<=hi->pr ((i+j) / 2)->B (st i j)=some (.inl (st ((i+j) / 2+1) j)))
  (hs2:∀i j,lo<=i->i<j->j<=hi->¬pr ((i+j) / 2)->B (st i j)=some (.inl (st i ((i+j) / 2))))
  (he:∀i,lo<=i->i<=hi->B (st i i)=some (.inr (fin i))) :
  ∃s,lo<=s/\s<=hi/\aX B NN (st lo hi)=some (fin s)/\(∀c,lo<=c->c<s->pr c)/\∀c,s<=c->c<hi->¬pr c:=by
 have key:∀k i j,lo<=i->i<=j->j<=hi->j-i=k->(∀c,lo<=c->c<i->pr c)->(∀c,j<=c->c<hi->¬pr c)->∀N,k<N ->
   ∃s,i<=s/\s<=j/\aX B N (st i j)=some (fin s)/\(∀c,lo<=c->c<s->pr c)/\∀c,s<=c->c<hi->¬pr c:=by
  intro k
  induction k using Nat.strongRecOn with
  |_ k ih=>
   intro i j h1 h2 h3 hk ha hb N hN;obtain⟨M,rfl⟩:∃M,N=M+1:=⟨N-1,by omega⟩;rcases de i j with q|q
   .rcases Classical.em (pr ((i+j) / 2))with hp|hp
    .obtain⟨s,g1,g2,g3,g4⟩:=ih (j-((i+j) / 2+1)) (by omega) ((i+j) / 2+1) j (by omega) (by omega) h3 rfl (fun c c1 c2=>hm c ((i+j) / 2) c1 (by omega) (by omega) hp) hb M (by omega);exact⟨s,by omega,g2,by simp only[aX,hs1 i j h1 q h3 hp];exact g3,g4⟩
    .obtain⟨s,g1,g2,g3,g4⟩:=ih ((i+j) / 2-i) (by omega) i ((i+j) / 2) h1 (by omega) (by omega) rfl ha (fun c c1 c2 hc=>hp (hm ((i+j) / 2) c (by omega) c1 c2 hc)) M (by omega);exact⟨s,g1,by omega,by simp only[aX,hs2 i j h1 q h3 hp];exact g3,g4⟩
   .have:i=j:=by omega
    subst this;exact⟨i,aS _,aS _,by simp only[aX,he i h1 h3],ha,hb⟩
 exact key (hi-lo) lo hi (aS _) hlh (aS _) rfl (fun c c1 c2=>by omega) (fun c c1 c2=>by omega) NN (bL (by omega))
abbrev Ou:=Ot B8
def sv(W:jO)(key:bp->Int)(V:bp->Prop)(F:ig)(k:Nat):Prop:=
 ∀(X P Q Y L:List bp) (A M B:Int),0<P.length->0<Q.length->P.length+Q.length<=k->A=(X.length:Int)->M=((X.length+P.length:Nat):Int)->B=((X.length+P.length+Q.length:Nat):Int)->L=X++(P++(Q++Y))->L.length<=400000 ->
  eY key P->eY key Q->(∀x∈P,V x)->(∀x∈Q,V x)->∃R,F (A,(M,(B,(L,W))))=some (X++(R++Y),W)/\cN key (P++Q) R
section
variable{W:jO}{key:bp->Int}{V:bp->Prop}
theorem ag8{F1:ig}{k:Nat}(ih:sv W key V F1 k){X P Q Y L:List bp}{b mid e:Int}(em:mid=(X.length:Int))(ee:e=((X.length+P.length:Nat):Int))(eb:b=((X.length+P.length+Q.length:Nat):Int))(hL:L=X++(P++(Q++Y)))(hl:L.length<=400000)
  (hk:P.length+Q.length<=k) (hp:eY key P) (hq:eY key Q) (hP:∀x∈P,V x) (hQ:∀x∈Q,V x):∃R,tF F1 b mid e (L,W)=some (X++(R++Y),W)/\cN key (P++Q) R:=by
 unfold tF;rcases Nat.eq_zero_or_pos P.length with h1|h1
 .have:P=[]:=jd h1;subst this;refine⟨Q,ag (au (by rw[em,ee];simp only[List.length_nil];omega)) ?_,cN.refl hq⟩;rw[hL];rfl
 .rcases Nat.eq_zero_or_pos Q.length with h2|h2
  .have:Q=[]:=jd h2;subst this;refine⟨P,ax (ar (by rw[em,ee];omega)) (ag (show bn true (iL e b) false=false from au (by rw[ee,eb];simp only[List.length_nil];omega)) ?_),by rw[dB];exact cN.refl hp⟩;rw[hL];rfl
  .obtain⟨R,e1,e2⟩:=ih X P Q Y L mid e b h1 h2 hk em ee eb hL hl hp hq hP hQ;exact⟨R,ax (ar (by rw[em,ee];omega)) (ax (show bn true (iL e b) false=true from ar (by rw[ee,eb];omega)) (ah e1 rfl)),e2⟩
theorem ag7{F1:ig}{k:Nat}(ih:sv W key V F1 k){X P1 P2 Q1 Q2 Y L:List bp}{a m b mid s e:Int}(ea:a=(X.length:Int))(es:s=((X.length+P1.length:Nat):Int))(emm:m=((X.length+P1.length+P2.length:Nat):Int))(em:mid=((X.length+P1.length+Q1.length:Nat):Int))
  (ee:e=((X.length+P1.length+Q1.length+P2.length:Nat):Int)) (eb:b=((X.length+P1.length+P2.length+Q1.length+Q2.length:Nat):Int)) (hL:L=X++(P1++(P2++(Q1++(Q2++Y))))) (hl:L.length<=400000)
  (hk1:P1.length+Q1.length<=k) (hk2:P2.length+Q2.length<=k) (hp:eY key (P1++P2)) (hq:eY key (Q1++Q2)) (hP:∀x∈P1++P2,V x) (hQ:∀x∈Q1++Q2,V x)
  (h1:∀x∈P1,∀y∈Q2,key x<=key y) (h2:∀x∈P2,∀y∈Q1,key y<key x):∃R,Ou F1 a m b mid s e (L,W)=some (X++(R++Y),W)/\cN key ((P1++P2)++(Q1++Q2)) R:=by
 have hlen:X.length+(P1.length+(P2.length+(Q1.length+(Q2.length+Y.length))))<=400000:=by rw[hL]at hl;simpa only[aU]using hl
 obtain⟨p1,p2,_⟩:=Pl.mg.1 hp;obtain⟨q1,q2,_⟩:=Pl.mg.1 hq;have hU:∃R,xp F1 a b mid s e (X++(P1++(Q1++(P2++(Q2++Y)))),W)=some (X++(R++Y),W)/\cN key ((P1++P2)++(Q1++Q2)) R:=by
  have hV:∀R1:List bp,cN key (P1++Q1) R1->∃R,tF F1 b mid e (X++(R1++(P2++(Q2++Y))),W)=some (X++(R++Y),W)/\cN key ((P1++P2)++(Q1++Q2)) R:=by
   intro R1 hR1;have hl1:=hR1.len;simp only[aU]at hl1;obtain⟨R2,e1,e2⟩:=ag8 ih (X:=X++R1) (P:=P2) (Q:=Q2) (Y:=Y) (L:=X++(R1++(P2++(Q2++Y)))) (b:=b) (mid:=mid) (e:=e) (by rw[em];simp only[aU];omega) (by rw[ee];simp only[aU];omega) (by rw[eb];simp only[aU];omega)
    (by simp only[cz]) (by simp only[aU];omega) hk2 p2 q2 (fun x hx=>hP x (by simp[hx])) (fun x hx=>hQ x (by simp[hx]))
   refine⟨R1++R2,e1.trans (congrArg (fun l:List bp=>(some (l,W):qH)) ?_),Dk hp hq h1 h2 hR1 e2⟩;simp only[cz]
  unfold xp;rcases Nat.eq_zero_or_pos P1.length with g1|g1
  .have:P1=[]:=jd g1;subst this;obtain⟨R,e1,e2⟩:=hV Q1 (cN.refl q1);exact⟨R,ag (au (by rw[ea,es];simp only[List.length_nil];omega)) e1,e2⟩
  .rcases Nat.eq_zero_or_pos Q1.length with g2|g2
   .have:Q1=[]:=jd g2;subst this;obtain⟨R,e1,e2⟩:=hV P1 (by rw[dB];exact cN.refl p1);exact⟨R,ax (ar (by rw[ea,es];omega)) (ag (show bn true (iL s mid) false=false from au (by rw[es,em];simp only[List.length_nil];omega)) e1),e2⟩
   .obtain⟨R1,e0,hR1⟩:=ih X P1 Q1 (P2++(Q2++Y)) (X++(P1++(Q1++(P2++(Q2++Y))))) a s mid g1 g2 hk1 ea es (by rw[em]) rfl (by simp only[aU];omega) p1 q1 (fun x hx=>hP x (by simp[hx])) (fun x hx=>hQ x (by simp[hx]));obtain⟨R,e1,e2⟩:=hV R1 hR1;exact⟨R,ax (ar (by rw[ea,es];omega)) (ax (show bn true (iL s mid) false=true from ar (by rw[es,em];omega)) (ah e0 e1)),e2⟩
 obtain⟨R,e1,e2⟩:=hU;refine⟨R,?_,e2⟩;unfold Ou Ot;subst hL;rcases Nat.eq_zero_or_pos P2.length with g1|g1
 .have:P2=[]:=jd g1;subst this;exact ag (au (by rw[es,emm];simp only[List.length_nil];omega)) e1
 .rcases Nat.eq_zero_or_pos Q1.length with g2|g2
  .have:Q1=[]:=jd g2;subst this;exact ax (ar (by rw[es,emm];omega)) (ag (show bn true (iL m e) false=false from au (by rw[ee,emm];simp only[List.length_nil];omega)) e1)
  .have er:=ahT W (X:=X++P1) (P:=P2) (Q:=Q1) (Y:=Q2++Y) (L:=X++(P1++(P2++(Q1++(Q2++Y))))) (A:=s) (M:=m) (B:=e) g1 g2 (by rw[es];simp only[aU]) (by rw[emm];simp only[aU]) (by rw[ee];simp only[aU];omega) hl (by simp only[cz]);have er':B8 (s,(m,(e,(X++(P1++(P2++(Q1++(Q2++Y)))),W))))=some (X++(P1++(Q1++(P2++(Q2++Y)))),W):=er.trans (congrArg (fun l:List bp=>(some (l,W):Option (Out wa))) (by simp only[cz]));exact ax (ar (by rw[es,emm];omega)) (ax (show bn true (iL m e) false=true from ar (by rw[ee,emm];omega)) (ah er' e1))
end
theorem pF{key:bp->Int}{L:List bp}(h:eY key L){i j:Nat}(hij:i<=j)(hj:j<L.length):key L[i]<=key L[j]:=by
 rcases de i j with q|q
 .exact(List.pairwise_iff_getElem.1 h) i j (by omega) hj q
 .have:i=j:=by omega
  subst this;exact Int.le_refl _
section
variable{X P Q Y L:List bp}
theorem Dx(hL:L=X++(P++(Q++Y))){t c:Nat}(ht:t<P.length)(hc:c=X.length+t):gt aq L (c:Int)=P[t]:=by subst hL;subst hc;refine bF ?_;rw[List.getElem?_append_right (by omega),Nat.add_sub_cancel_left,List.getElem?_append_left ht,aN ht]
theorem Dy(hL:L=X++(P++(Q++Y))){t c:Nat}(ht:t<Q.length)(hc:c=X.length+P.length+t):gt aq L (c:Int)=Q[t]:=by
 subst hL;subst hc;refine bF ?_;rw[List.getElem?_append_right (by omega),List.getElem?_append_right (by omega)];have:X.length+P.length+t-X.length-P.length=t:=by omega
 rw[this,List.getElem?_append_left ht,aN ht]
theorem AP(hL:L=X++(P++(Q++Y))):L.length=X.length+P.length+Q.length+Y.length:=by subst hL;simp only[aU];omega
variable{W:jO}{key:bp->Int}{V:bp->Prop}
theorem ah3(C:ln W key V)(F:ig){x:bp}(hL:L=X++([x]++(Q++Y)))(hl:L.length<=400000)(hq:eY key Q)(hx:V x)(hQ:∀y∈Q,V y) :
  ∃k,k<=Q.length/\YX F ((X.length:Int),(((X.length+1:Nat):Int),(((X.length+1+Q.length:Nat):Int),(L,W))))=some ((X.length:Int),(((X.length+1+k:Nat):Int),(L,W)))/\(∀y∈Q.take k,key y<key x)/\∀y∈Q.drop k,key x<=key y:=by
 have hlen:=AP hL;simp only[cp,List.length_nil]at hlen;have gQ:∀c,(h0:X.length+1<=c)->(h:c<X.length+1+Q.length)->gt aq L (c:Int)=Q[c-X.length-1]'(by omega):=fun c h1 h2=>Dy hL (t:=c-X.length-1) (by omega) (by simp only[cp,List.length_nil];omega);have gx:gt aq L (X.length:Int)=x:=Dx hL (t:=0) (by simp) rfl;have step:∀i j:Nat,X.length+1<=i->i<j->j<=X.length+1+Q.length->∃c:Int,(c<0↔key (gt aq L (((i+j) / 2:Nat):Int))<key x) /\
   sL kg (X.length:Int) (i:Int) (j:Int) L W.1 W.2.1 W.2.2.1 W.2.2.2.1 W.2.2.2.2.1 W.2.2.2.2.2.1 W.2.2.2.2.2.2.1 W.2.2.2.2.2.2.2.1 W.2.2.2.2.2.2.2.2.1 W.2.2.2.2.2.2.2.2.2.1 W.2.2.2.2.2.2.2.2.2.2.1 =
    br (iL c 0) (some (.inl ((X.length:Int),((((i+j) / 2+1:Nat):Int),((j:Int),(L,W)))))) (some (.inl ((X.length:Int),((i:Int),((((i+j) / 2:Nat):Int),(L,W)))))):=by
  intro i j h1 h2 h3;have hw:hf (i:Int) (j:Int)=(((i+j) / 2:Nat):Int):=Dt (by omega);have gh:=gQ ((i+j) / 2) (by omega) (by omega);obtain⟨c,e1,e2⟩:=C.cmp L (gt aq L (((i+j) / 2:Nat):Int)) (gt aq L (X.length:Int)) (by rw[gh];exact hQ _ (dk _)) (by rw[gx];exact hx);refine⟨c,by rw[<-gx];exact e2,?_⟩;have i1:av (hf (i:Int) (j:Int)) (List.length L)=true:=by rw[hw];exact aK ⟨by omega,by omega⟩
  have i2:av (X.length:Int) (List.length L)=true:=aK ⟨by omega,by omega⟩;have e1':kg ((gt aq L (hf (i:Int) (j:Int))).1,((gt aq L (hf (i:Int) (j:Int))).2.1,((gt aq L (hf (i:Int) (j:Int))).2.2.1,((gt aq L (X.length:Int)).1,((gt aq L (X.length:Int)).2.1,((gt aq L (X.length:Int)).2.2.1,mP W L))))))=some (c,mP W L):=by rw[hw];exact e1
  unfold sL;refine ax (ar (show(i:Int)<(j:Int) by omega)) (ak i1 (ak i2 (ah e1' ?_)));have e:∀(u v u' v':Int),u=u'->v=v'->(br (iL c 0) (some (.inl ((X.length:Int),(u,((j:Int),(L,W)))))) (some (.inl ((X.length:Int),((i:Int),(v,(L,W)))))):Option (TL BO.σs⊕Out BG))=br (iL c 0) (some (.inl ((X.length:Int),(u',((j:Int),(L,W)))))) (some (.inl ((X.length:Int),((i:Int),(v',(L,W)))))):=by rintro _ _ _ _ rfl rfl;rfl
  exact e _ _ _ _ (by show IntKind.wrap .i64 (hf (i:Int) (j:Int)+1)=_;rw[hw];exact bR (by omega) (by omega)) hw
 obtain⟨s,s1,s2,es,hs1,hs2⟩:=NP (B:=fun d=>sL kg d.1 d.2.1 d.2.2.1 d.2.2.2.1 d.2.2.2.2.1 d.2.2.2.2.2.1 d.2.2.2.2.2.2.1 d.2.2.2.2.2.2.2.1 d.2.2.2.2.2.2.2.2.1 d.2.2.2.2.2.2.2.2.2.1 d.2.2.2.2.2.2.2.2.2.2.1 d.2.2.2.2.2.2.2.2.2.2.2.1 d.2.2.2.2.2.2.2.2.2.2.2.2.1 d.2.2.2.2.2.2.2.2.2.2.2.2.2.1 d.2.2.2.2.2.2.2.2.2.2.2.2.2.2.1)
  (fun i j:Nat=>((X.length:Int),((i:Int),((j:Int),(L,W))))) (fun i:Nat=>((X.length:Int),((i:Int),(L,W)))) (fun c=>key (gt aq L (c:Int))<key x) (lo:=X.length+1) (hi:=X.length+1+Q.length) (by omega) (by omega)
  (fun c d h1 h2 h3 hd=>by rw[gQ d (by omega) h3]at hd;rw[gQ c h1 (by omega)];exact Int.lt_of_le_of_lt (pF hq (i:=c-X.length-1) (j:=d-X.length-1) (by omega) (by omega)) hd)
  (fun i j h1 h2 h3 hp=>by obtain⟨c,hc,e⟩:=step i j h1 h2 h3;exact e.trans (je (ar (hc.2 hp))))
  (fun i j h1 h2 h3 hp=>by obtain⟨c,hc,e⟩:=step i j h1 h2 h3;exact e.trans (gd (au (fun q=>hp (hc.1 q)))))
  (fun i h1 h2=>by
   try dsimp only
   unfold sL;exact ag (au (show ¬(i:Int)<(i:Int) by omega)) rfl)
 refine⟨s-X.length-1,by omega,?_,?_,?_⟩
 .have:X.length+1+(s-X.length-1)=s:=by omega
  rw[this];exact es
 .intro y hy;obtain⟨i,hi,rfl⟩:=List.mem_take_iff_getElem.1 hy;have:=hs1 (X.length+1+i) (by omega) (by omega);rw[gQ _ (by omega) (by omega)]at this;have e:X.length+1+i-X.length-1=i:=by omega
  simpa only[e]using this
 .intro y hy;obtain⟨i,hi,rfl⟩:=List.mem_drop_iff_getElem.1 hy;have:=hs2 (X.length+1+(s-X.length-1+i)) (by omega) (by omega);rw[gQ _ (by omega) (by omega)]at this;have e:X.length+1+(s-X.length-1+i)-X.length-1=s-X.length-1+i:=by omega
  simp only[e]at this;omega
end
section
variable{X P Q Y L:List bp}{W:jO}{key:bp->Int}{V:bp->Prop}
theorem ah4(F:ig){x:bp}{Q1 Z:List bp}(hl:X.length+Q1.length<=400000) :
  Lj F (((X.length+1+Q1.length:Nat):Int),((X.length:Int),(X++(x::(Q1++Z)),W)))=some (X++(Q1++(x::Z)),W):=by
 unfold Lj;have w0:IntKind.wrap .i64 (((X.length+1+Q1.length:Nat):Int)-1)=((X.length+Q1.length:Nat):Int):=bR (by omega) (by omega);refine dn (fun t:Nat=>(((X.length+1+Q1.length:Nat):Int),(((X.length+t:Nat):Int),(X++(Q1.take t++(x::(Q1.drop t++Z))),W)))) Q1.length rfl ?_ ?_ (bL (by omega))
 .intro t ht
  try dsimp only
  unfold BW;refine ax (ar (by rw[w0];omega)) ?_;refine abi (X:=X++Q1.take t) (p:=x) (M:=[]) (q:=Q1[t]) (Y:=Q1.drop (t+1)++Z) (u:=X.length+t) (v:=X.length+t+1) ?_ ?_ ?_ rfl ?_ (fun hset=>?_)
  .rw[sZ ht];simp only[cz,List.cons_append,List.nil_append]
  .simp;omega
  .simp;omega
  .exact bR (by omega) (by omega)
  .refine ak (ar rfl) (ak (ar rfl) ?_);have e:∀(u v:Int) (A B:List bp),u=v->A=B->(some (.inl (((X.length+1+Q1.length:Nat):Int),(u,(A,W)))):Option (TL BN.σs⊕Out BF))=some (.inl (((X.length+1+Q1.length:Nat):Int),(v,(B,W)))):=by rintro _ _ _ _ rfl rfl;rfl
   refine e _ _ _ _ (show IntKind.wrap .i64 (((X.length+t:Nat):Int)+1)=((X.length+(t+1):Nat):Int)from bR (by omega) (by omega)) (hset.trans ?_);rw[List.take_succ_eq_append_getElem ht];simp only[cz,List.cons_append,List.nil_append]
 .try dsimp only
  unfold BW;refine ag (au (by rw[w0];omega)) ?_;have e1:Q1.drop Q1.length=[]:=List.drop_eq_nil_of_le (aS _);have e2:Q1.take Q1.length=Q1:=fR (aS _);rw[e1,e2];rfl
theorem ahk(C:ln W key V)(F:ig){x:bp}(hL:L=X++(P++([x]++Y)))(hl:L.length<=400000)(hp:eY key P)(hx:V x)(hP:∀y∈P,V y) :
  ∃k,k<=P.length/\YM F (((X.length+P.length:Nat):Int),((X.length:Int),(((X.length+P.length:Nat):Int),(L,W))))=some (((X.length+P.length:Nat):Int),(((X.length+k:Nat):Int),(L,W)))/\(∀y∈P.take k,key y<=key x)/\∀y∈P.drop k,key x<key y:=by
 have hlen:=AP hL;simp only[cp,List.length_nil]at hlen;have gP:∀c,(h0:X.length<=c)->(h:c<X.length+P.length)->gt aq L (c:Int)=P[c-X.length]'(by omega):=fun c h1 h2=>Dx hL (t:=c-X.length) (by omega) (by omega);have gx:gt aq L ((X.length+P.length:Nat):Int)=x:=Dy hL (t:=0) (by simp) rfl;have step:∀i j:Nat,X.length<=i->i<j->j<=X.length+P.length->∃c:Int,(c<0↔key x<key (gt aq L (((i+j) / 2:Nat):Int))) /\
   sK kg ((X.length+P.length:Nat):Int) (i:Int) (j:Int) L W.1 W.2.1 W.2.2.1 W.2.2.2.1 W.2.2.2.2.1 W.2.2.2.2.2.1 W.2.2.2.2.2.2.1 W.2.2.2.2.2.2.2.1 W.2.2.2.2.2.2.2.2.1 W.2.2.2.2.2.2.2.2.2.1 W.2.2.2.2.2.2.2.2.2.2.1 =
    br (Bool.not (iL c 0)) (some (.inl (((X.length+P.length:Nat):Int),((((i+j) / 2+1:Nat):Int),((j:Int),(L,W)))))) (some (.inl (((X.length+P.length:Nat):Int),((i:Int),((((i+j) / 2:Nat):Int),(L,W)))))):=by
  intro i j h1 h2 h3;have hw:hf (i:Int) (j:Int)=(((i+j) / 2:Nat):Int):=Dt (by omega);have gh:=gP ((i+j) / 2) (by omega) (by omega);obtain⟨c,e1,e2⟩:=C.cmp L (gt aq L ((X.length+P.length:Nat):Int)) (gt aq L (((i+j) / 2:Nat):Int)) (by rw[gx];exact hx) (by rw[gh];exact hP _ (dk _));refine⟨c,by rw[<-gx];exact e2,?_⟩;have i1:av (hf (i:Int) (j:Int)) (List.length L)=true:=by rw[hw];exact aK ⟨by omega,by omega⟩
  have i2:av ((X.length+P.length:Nat):Int) (List.length L)=true:=aK ⟨by omega,by omega⟩;have e1':kg ((gt aq L ((X.length+P.length:Nat):Int)).1,((gt aq L ((X.length+P.length:Nat):Int)).2.1,((gt aq L ((X.length+P.length:Nat):Int)).2.2.1,((gt aq L (hf (i:Int) (j:Int))).1,((gt aq L (hf (i:Int) (j:Int))).2.1,((gt aq L (hf (i:Int) (j:Int))).2.2.1,mP W L))))))=some (c,mP W L):=by rw[hw];exact e1
  unfold sK;refine ax (ar (show(i:Int)<(j:Int) by omega)) (ak i2 (ak i1 (ah e1' ?_)));have e:∀(u v u' v':Int),u=u'->v=v'->(br (Bool.not (iL c 0)) (some (.inl (((X.length+P.length:Nat):Int),(u,((j:Int),(L,W)))))) (some (.inl (((X.length+P.length:Nat):Int),((i:Int),(v,(L,W)))))):Option (TL BJ.σs⊕Out BC))=br (Bool.not (iL c 0)) (some (.inl (((X.length+P.length:Nat):Int),(u',((j:Int),(L,W)))))) (some (.inl (((X.length+P.length:Nat):Int),((i:Int),(v',(L,W)))))):=by rintro _ _ _ _ rfl rfl;rfl
  exact e _ _ _ _ (by show IntKind.wrap .i64 (hf (i:Int) (j:Int)+1)=_;rw[hw];exact bR (by omega) (by omega)) hw
 obtain⟨s,s1,s2,es,hs1,hs2⟩:=NP (B:=fun d=>sK kg d.1 d.2.1 d.2.2.1 d.2.2.2.1 d.2.2.2.2.1 d.2.2.2.2.2.1 d.2.2.2.2.2.2.1 d.2.2.2.2.2.2.2.1 d.2.2.2.2.2.2.2.2.1 d.2.2.2.2.2.2.2.2.2.1 d.2.2.2.2.2.2.2.2.2.2.1 d.2.2.2.2.2.2.2.2.2.2.2.1 d.2.2.2.2.2.2.2.2.2.2.2.2.1 d.2.2.2.2.2.2.2.2.2.2.2.2.2.1 d.2.2.2.2.2.2.2.2.2.2.2.2.2.2.1)
  (fun i j:Nat=>(((X.length+P.length:Nat):Int),((i:Int),((j:Int),(L,W))))) (fun i:Nat=>(((X.length+P.length:Nat):Int),((i:Int),(L,W)))) (fun c=>¬key x<key (gt aq L (c:Int))) (lo:=X.length) (hi:=X.length+P.length) (by omega) (by omega)
  (fun c d h1 h2 h3 hd=>by rw[gP d (by omega) h3]at hd;rw[gP c h1 (by omega)];have:=pF hp (i:=c-X.length) (j:=d-X.length) (by omega) (by omega);omega)
  (fun i j h1 h2 h3 hp=>by obtain⟨c,hc,e⟩:=step i j h1 h2 h3;exact e.trans (je (ke (au (fun q=>hp (hc.1 q))))))
  (fun i j h1 h2 h3 hp=>by obtain⟨c,hc,e⟩:=step i j h1 h2 h3;exact e.trans (gd (fQ (ar (hc.2 (Classical.not_not.1 hp))))))
  (fun i h1 h2=>by
   try dsimp only
   unfold sK;exact ag (au (show ¬(i:Int)<(i:Int) by omega)) rfl)
 refine⟨s-X.length,by omega,?_,?_,?_⟩
 .have:X.length+(s-X.length)=s:=by omega
  rw[this];exact es
 .intro y hy;obtain⟨i,hi,rfl⟩:=List.mem_take_iff_getElem.1 hy;have:=hs1 (X.length+i) (by omega) (by omega);rw[gP _ (by omega) (by omega)]at this;have e:X.length+i-X.length=i:=by omega
  simp only[e]at this;omega
 .intro y hy;obtain⟨i,hi,rfl⟩:=List.mem_drop_iff_getElem.1 hy;have:=hs2 (X.length+(s-X.length+i)) (by omega) (by omega);rw[gP _ (by omega) (by omega)]at this;have e:X.length+(s-X.length+i)-X.length=s-X.length+i:=by omega
  simp only[e]at this;omega
theorem ahl(F:ig){x:bp}{P1 P2:List bp}(hl:X.length+P1.length+P2.length<=400000) :
  Le F (((X.length+P1.length:Nat):Int),(((X.length+P1.length+P2.length:Nat):Int),(X++(P1++(P2++(x::Y))),W)))=some (X++(P1++(x::(P2++Y))),W):=by
 unfold Le;refine dn (fun t:Nat=>(((X.length+P1.length:Nat):Int),(((X.length+P1.length+(P2.length-t):Nat):Int),(X++(P1++(P2.take (P2.length-t)++(x::(P2.drop (P2.length-t)++Y)))),W)))) P2.length ?_ ?_ ?_ (bL (by omega))
 .have e1:P2.drop P2.length=[]:=List.drop_eq_nil_of_le (aS _);have e2:P2.take P2.length=P2:=fR (aS _);simp only[Nat.sub_zero,e1,e2];rfl
 .intro t ht
  try dsimp only
  unfold BQ;obtain⟨j,hj⟩:∃j,P2.length-t=j+1:=⟨P2.length-t-1,by omega⟩;have hj':P2.length-(t+1)=j:=by omega
  have hjl:j<P2.length:=by omega
  rw[hj,hj'];have w1:IntKind.wrap .i64 (((X.length+P1.length+(j+1):Nat):Int)-1)=((X.length+P1.length+j:Nat):Int):=bR (by omega) (by omega);refine ax (ar (by omega)) ?_;refine abj (X:=X++(P1++P2.take j)) (q:=P2[j]) (p:=x) (Y:=P2.drop (j+1)++Y) (v:=X.length+P1.length+j) (u:=X.length+P1.length+(j+1)) ?_ ?_ rfl rfl w1 (fun hset=>?_)
  .rw[List.take_succ_eq_append_getElem hjl];simp only[cz,List.cons_append,List.nil_append]
  .simp;omega
  .refine ak (ar rfl) (ak (ar rfl) ?_);have e:∀(u v:Int) (A B:List bp),u=v->A=B->(some (.inl (((X.length+P1.length:Nat):Int),(u,(A,W)))):Option (TL BI.σs⊕Out BB))=some (.inl (((X.length+P1.length:Nat):Int),(v,(B,W)))):=by rintro _ _ _ _ rfl rfl;rfl
   refine e _ _ _ _ w1 (hset.trans ?_);rw[sZ hjl];simp only[cz,List.cons_append,List.nil_append]
 .try dsimp only
  unfold BQ;rw[Nat.sub_self];exact ag (au (by omega)) rfl
end
section
variable{X P Q Y L:List bp}{W:jO}{key:bp->Int}{V:bp->Prop}
theorem UN(C:ln W key V)(F:ig)(hL:L=X++(P++(Q++Y)))(hl:L.length<=400000)(hp:eY key P)(hq:eY key Q)(hP:∀y∈P,V y)(hQ:∀y∈Q,V y)(a m b mid n:Int){lo hi p:Nat}
  (h1:X.length<=lo) (h2:lo<=hi) (h3:hi<=X.length+P.length) (h4:hi+X.length+P.length<=p+1) (h5:p<X.length+P.length+Q.length+lo) :
  ∃s,lo<=s/\s<=hi/\BP F (a,(m,(b,(mid,(n,((lo:Int),((hi:Int),((p:Int),(L,W)))))))))=some (a,(m,(b,(mid,(n,((s:Int),(L,W))))))) /\
   (∀c,lo<=c->c<s->¬key (gt aq L ((p-c:Nat):Int))<key (gt aq L (c:Int)))/\∀c,s<=c->c<hi->key (gt aq L ((p-c:Nat):Int))<key (gt aq L (c:Int)):=by
 have hlen:=AP hL;have gP:∀c,(h0:X.length<=c)->(h:c<X.length+P.length)->gt aq L (c:Int)=P[c-X.length]'(by omega):=fun c h1 h2=>Dx hL (t:=c-X.length) (by omega) (by omega);have gQ:∀c,(h0:X.length+P.length<=c)->(h:c<X.length+P.length+Q.length)->gt aq L (c:Int)=Q[c-X.length-P.length]'(by omega):=fun c h1 h2=>Dy hL (t:=c-X.length-P.length) (by omega) (by omega);have step:∀i j:Nat,lo<=i->i<j->j<=hi->∃c:Int,(c<0↔key (gt aq L ((p-(i+j) / 2:Nat):Int))<key (gt aq L (((i+j) / 2:Nat):Int))) /\
   sJ kg a m b mid n (i:Int) (j:Int) (p:Int) L W.1 W.2.1 W.2.2.1 W.2.2.2.1 W.2.2.2.2.1 W.2.2.2.2.2.1 W.2.2.2.2.2.2.1 W.2.2.2.2.2.2.2.1 W.2.2.2.2.2.2.2.2.1 W.2.2.2.2.2.2.2.2.2.1 W.2.2.2.2.2.2.2.2.2.2.1 =
    br (Bool.not (iL c 0)) (some (.inl (a,(m,(b,(mid,(n,((((i+j) / 2+1:Nat):Int),((j:Int),((p:Int),(L,W))))))))))) (some (.inl (a,(m,(b,(mid,(n,((i:Int),((((i+j) / 2:Nat):Int),((p:Int),(L,W))))))))))):=by
  intro i j q1 q2 q3;have hw:hf (i:Int) (j:Int)=(((i+j) / 2:Nat):Int):=Dt (by omega);have hv:IntKind.wrap .i64 ((p:Int)-hf (i:Int) (j:Int))=((p-(i+j) / 2:Nat):Int):=by rw[hw];exact bR (by omega) (by omega)
  have gh:=gP ((i+j) / 2) (by omega) (by omega);have gv:=gQ (p-(i+j) / 2) (by omega) (by omega);obtain⟨c,e1,e2⟩:=C.cmp L (gt aq L ((p-(i+j) / 2:Nat):Int)) (gt aq L (((i+j) / 2:Nat):Int)) (by rw[gv];exact hQ _ (dk _)) (by rw[gh];exact hP _ (dk _));refine⟨c,e2,?_⟩;have i1:av (hf (i:Int) (j:Int)) (List.length L)=true:=by rw[hw];exact aK ⟨by omega,by omega⟩
  have i2:av (IntKind.wrap .i64 ((p:Int)-hf (i:Int) (j:Int))) (List.length L)=true:=by rw[hv];exact aK ⟨by omega,by omega⟩
  have e1':kg ((gt aq L (IntKind.wrap .i64 ((p:Int)-hf (i:Int) (j:Int)))).1,((gt aq L (IntKind.wrap .i64 ((p:Int)-hf (i:Int) (j:Int)))).2.1,((gt aq L (IntKind.wrap .i64 ((p:Int)-hf (i:Int) (j:Int)))).2.2.1,((gt aq L (hf (i:Int) (j:Int))).1,((gt aq L (hf (i:Int) (j:Int))).2.1,((gt aq L (hf (i:Int) (j:Int))).2.2.1,mP W L))))))=some (c,mP W L):=by rw[hv,hw];exact e1
  unfold sJ;refine ax (ar (show(i:Int)<(j:Int) by omega)) (ak i2 (ak i1 (ah e1' ?_)));have e:∀(u v u' v':Int),u=u'->v=v'->(br (Bool.not (iL c 0)) (some (.inl (a,(m,(b,(mid,(n,(u,((j:Int),((p:Int),(L,W)))))))))))  (some (.inl (a,(m,(b,(mid,(n,((i:Int),(v,((p:Int),(L,W))))))))))):Option (TL BH.σs⊕Out we))=br (Bool.not (iL c 0)) (some (.inl (a,(m,(b,(mid,(n,(u',((j:Int),((p:Int),(L,W)))))))))))  (some (.inl (a,(m,(b,(mid,(n,((i:Int),(v',((p:Int),(L,W))))))))))):=by rintro _ _ _ _ rfl rfl;rfl
  exact e _ _ _ _ (by show IntKind.wrap .i64 (hf (i:Int) (j:Int)+1)=_;rw[hw];exact bR (by omega) (by omega)) hw
 obtain⟨s,s1,s2,es,hs1,hs2⟩:=NP (B:=fun d=>sJ kg d.1 d.2.1 d.2.2.1 d.2.2.2.1 d.2.2.2.2.1 d.2.2.2.2.2.1 d.2.2.2.2.2.2.1 d.2.2.2.2.2.2.2.1 d.2.2.2.2.2.2.2.2.1 d.2.2.2.2.2.2.2.2.2.1 d.2.2.2.2.2.2.2.2.2.2.1 d.2.2.2.2.2.2.2.2.2.2.2.1 d.2.2.2.2.2.2.2.2.2.2.2.2.1 d.2.2.2.2.2.2.2.2.2.2.2.2.2.1 d.2.2.2.2.2.2.2.2.2.2.2.2.2.2.1 d.2.2.2.2.2.2.2.2.2.2.2.2.2.2.2.1 d.2.2.2.2.2.2.2.2.2.2.2.2.2.2.2.2.1 d.2.2.2.2.2.2.2.2.2.2.2.2.2.2.2.2.2.1 d.2.2.2.2.2.2.2.2.2.2.2.2.2.2.2.2.2.2.1 d.2.2.2.2.2.2.2.2.2.2.2.2.2.2.2.2.2.2.2.1)
  (fun i j:Nat=>(a,(m,(b,(mid,(n,((i:Int),((j:Int),((p:Int),(L,W)))))))))) (fun i:Nat=>(a,(m,(b,(mid,(n,((i:Int),(L,W)))))))) (fun c=>¬key (gt aq L ((p-c:Nat):Int))<key (gt aq L (c:Int))) (lo:=lo) (hi:=hi) h2 (by omega)
  (fun c d q1 q2 q3 hd=>by rw[gP d (by omega) (by omega),gQ (p-d) (by omega) (by omega)]at hd;rw[gP c (by omega) (by omega),gQ (p-c) (by omega) (by omega)];have g1:=pF hp (i:=c-X.length) (j:=d-X.length) (by omega) (by omega);have g2:=pF hq (i:=p-d-X.length-P.length) (j:=p-c-X.length-P.length) (by omega) (by omega);omega)
  (fun i j q1 q2 q3 hp=>by obtain⟨c,hc,e⟩:=step i j q1 q2 q3;exact e.trans (je (ke (au (fun q=>hp (hc.1 q))))))
  (fun i j q1 q2 q3 hp=>by obtain⟨c,hc,e⟩:=step i j q1 q2 q3;exact e.trans (gd (fQ (ar (hc.2 (Classical.not_not.1 hp))))))
  (fun i q1 q2=>by
   try dsimp only
   unfold sJ;exact ag (au (show ¬(i:Int)<(i:Int) by omega)) rfl)
 exact⟨s,s1,s2,es,hs1,fun c q1 q2=>Classical.not_not.1 (hs2 c q1 q2)⟩
theorem ahq(hL:L=X++(P++(Q++Y)))(hp:eY key P)(hq:eY key Q){lo hi mid s:Nat}(hmid:mid=(X.length+X.length+P.length+Q.length) / 2)(hP2:2<=P.length)(hQ2:2<=Q.length)
  (hlo:(mid<X.length+P.length/\lo=mid+(X.length+P.length)-(X.length+P.length+Q.length)/\hi=mid)\/(X.length+P.length<=mid/\lo=X.length/\hi=X.length+P.length)) (h1:lo<=s) (h2:s<=hi)
  (g1:∀c,lo<=c->c<s->¬key (gt aq L ((mid+(X.length+P.length)-1-c:Nat):Int))<key (gt aq L (c:Int))) (g2:∀c,s<=c->c<hi->key (gt aq L ((mid+(X.length+P.length)-1-c:Nat):Int))<key (gt aq L (c:Int))) :
  (∀x∈P.take (s-X.length),∀y∈Q.drop (mid-s),key x<=key y)/\∀x∈P.drop (s-X.length),∀y∈Q.take (mid-s),key y<key x:=by
 have gP:∀c,(h0:X.length<=c)->(h:c<X.length+P.length)->gt aq L (c:Int)=P[c-X.length]'(by omega):=fun c h1 h2=>Dx hL (t:=c-X.length) (by omega) (by omega);have gQ:∀c,(h0:X.length+P.length<=c)->(h:c<X.length+P.length+Q.length)->gt aq L (c:Int)=Q[c-X.length-P.length]'(by omega):=fun c h1 h2=>Dy hL (t:=c-X.length-P.length) (by omega) (by omega);constructor
 .intro x hx y hy;obtain⟨i,hi',rfl⟩:=List.mem_take_iff_getElem.1 hx;obtain⟨j,hj,rfl⟩:=List.mem_drop_iff_getElem.1 hy;have hs:lo<s:=by omega
  have q:=g1 (s-1) (by omega) (by omega);rw[gP (s-1) (by omega) (by omega),gQ (mid+(X.length+P.length)-1-(s-1)) (by omega) (by omega)]at q;have r1:=pF hp (i:=i) (j:=s-1-X.length) (by omega) (by omega);have r2:=pF hq (i:=mid+(X.length+P.length)-1-(s-1)-X.length-P.length) (j:=mid-s+j) (by omega) (by omega);omega
 .intro x hx y hy;obtain⟨i,hi',rfl⟩:=List.mem_drop_iff_getElem.1 hx;obtain⟨j,hj,rfl⟩:=List.mem_take_iff_getElem.1 hy;have hs:s<hi:=by omega
  have q:=g2 s (by omega) (by omega);rw[gP s (by omega) (by omega),gQ (mid+(X.length+P.length)-1-s) (by omega) (by omega)]at q;have r1:=pF hp (i:=s-X.length) (j:=s-X.length+i) (by omega) (by omega);have r2:=pF hq (i:=j) (j:=mid+(X.length+P.length)-1-s-X.length-P.length) (by omega) (by omega);omega
set_option maxHeartbeats 4000000
theorem af0(C:ln W key V){k:Nat}(ih:sv W key V (jH k) k):sv W key V (jH (k+1)) (k+1):=by
 intro X P Q Y L A M B hp0 hq0 hk eA eM eB hL hl hp hq hP hQ;subst eA;subst eM;subst eB;have hlen:=AP hL;show ∃R,wc kg (jH k) B8 (YX (jH k)) (Lj (jH k)) (YM (jH k)) (Le (jH k)) (BP (jH k))
  (X.length:Int) ((X.length+P.length:Nat):Int) ((X.length+P.length+Q.length:Nat):Int) L W.1 W.2.1 W.2.2.1 W.2.2.2.1 W.2.2.2.2.1 W.2.2.2.2.2.1 W.2.2.2.2.2.2.1 W.2.2.2.2.2.2.2.1 W.2.2.2.2.2.2.2.2.1 W.2.2.2.2.2.2.2.2.2.1 W.2.2.2.2.2.2.2.2.2.2.1=some (X++(R++Y),W)/\_
 have wP:IntKind.wrap .i64 (((X.length+P.length:Nat):Int)-(X.length:Int))=(P.length:Int):=bR (by omega) (by omega);have wQ:IntKind.wrap .i64 (((X.length+P.length+Q.length:Nat):Int)-((X.length+P.length:Nat):Int))=(Q.length:Int):=bR (by omega) (by omega);rcases de 1 P.length with a1|a1
 .rcases de 1 Q.length with a2|a2
  .-- two stretches of two at least
   obtain⟨mid,hmid⟩:∃mid,mid=(X.length+X.length+P.length+Q.length) / 2:=⟨_,rfl⟩;have hw:hf (X.length:Int) ((X.length+P.length+Q.length:Nat):Int)=(mid:Int):=by rw[Dt (by omega),hmid];congr 2;omega
   have w1:IntKind.wrap .i64 (hf (X.length:Int) ((X.length+P.length+Q.length:Nat):Int)+((X.length+P.length:Nat):Int))=((mid+(X.length+P.length):Nat):Int):=by rw[hw];exact bR (by omega) (by omega)
   have w2:IntKind.wrap .i64 (IntKind.wrap .i64 (hf (X.length:Int) ((X.length+P.length+Q.length:Nat):Int)+((X.length+P.length:Nat):Int))-1)=((mid+(X.length+P.length)-1:Nat):Int):=by rw[w1];exact bR (by omega) (by omega)
   have tail:∀lo hi s:Nat,((mid<X.length+P.length/\lo=mid+(X.length+P.length)-(X.length+P.length+Q.length)/\hi=mid)\/(X.length+P.length<=mid/\lo=X.length/\hi=X.length+P.length))->lo<=s->s<=hi ->
     (∀c,lo<=c->c<s->¬key (gt aq L ((mid+(X.length+P.length)-1-c:Nat):Int))<key (gt aq L (c:Int)))->(∀c,s<=c->c<hi->key (gt aq L ((mid+(X.length+P.length)-1-c:Nat):Int))<key (gt aq L (c:Int))) ->
     ∃R,Ou (jH k) (X.length:Int) ((X.length+P.length:Nat):Int) ((X.length+P.length+Q.length:Nat):Int) (mid:Int) (s:Int) (IntKind.wrap .i64 (((mid+(X.length+P.length):Nat):Int)-(s:Int))) (L,W)=some (X++(R++Y),W)/\cN key (P++Q) R:=by
    intro lo hi s hlh s1 s2 g1 g2;obtain⟨c1,c2⟩:=ahq hL hp hq hmid a1 a2 hlh s1 s2 g1 g2;have tP:(P.take (s-X.length)).length=s-X.length:=by rw[dx];omega
    have dP:(P.drop (s-X.length)).length=P.length-(s-X.length):=by rw[List.length_drop]
    have tQ:(Q.take (mid-s)).length=mid-s:=by rw[dx];omega
    have dQ:(Q.drop (mid-s)).length=Q.length-(mid-s):=by rw[List.length_drop]
    have eP:P.take (s-X.length)++P.drop (s-X.length)=P:=List.take_append_drop _ _;have eQ:Q.take (mid-s)++Q.drop (mid-s)=Q:=List.take_append_drop _ _;obtain⟨R,r1,r2⟩:=ag7 (W:=W) (V:=V) ih (X:=X) (P1:=P.take (s-X.length)) (P2:=P.drop (s-X.length)) (Q1:=Q.take (mid-s)) (Q2:=Q.drop (mid-s)) (Y:=Y) (L:=L) (a:=(X.length:Int)) (m:=((X.length+P.length:Nat):Int)) (b:=((X.length+P.length+Q.length:Nat):Int)) (mid:=(mid:Int)) (s:=(s:Int)) (e:=IntKind.wrap .i64 (((mid+(X.length+P.length):Nat):Int)-(s:Int)))
     rfl (by rw[tP];omega) (by rw[tP,dP];omega) (by rw[tP,tQ];omega) (by rw[tP,tQ,dP];exact bR (by omega) (by omega)) (by rw[tP,tQ,dP,dQ];omega) (by
      rw[hL]
      conv=>lhs;rw[<-eP,<-eQ]
      simp only[cz]) hl (by rw[tP,tQ];omega) (by rw[dP,dQ];omega) (by rw[eP];exact hp) (by rw[eQ];exact hq) (by rw[eP];exact hP) (by rw[eQ];exact hQ) c1 c2
    rw[eP,eQ]at r2;exact⟨R,r1,r2⟩
   unfold wc;rcases de mid (X.length+P.length)with b1|b1
   .have w3:IntKind.wrap .i64 (IntKind.wrap .i64 (hf (X.length:Int) ((X.length+P.length+Q.length:Nat):Int)+((X.length+P.length:Nat):Int))-((X.length+P.length+Q.length:Nat):Int))=((mid+(X.length+P.length)-(X.length+P.length+Q.length):Nat):Int):=by rw[w1];exact bR (by omega) (by omega)
    obtain⟨s,s1,s2,es,g1,g2⟩:=UN C (jH k) hL hl hp hq hP hQ (X.length:Int) ((X.length+P.length:Nat):Int) ((X.length+P.length+Q.length:Nat):Int) (mid:Int) ((mid+(X.length+P.length):Nat):Int) (lo:=mid+(X.length+P.length)-(X.length+P.length+Q.length)) (hi:=mid) (p:=mid+(X.length+P.length)-1) (by omega) (by omega) (by omega) (by omega) (by omega);obtain⟨R,r1,r2⟩:=tail _ _ s (.inl ⟨b1,rfl,rfl⟩) s1 s2 g1 g2;have es':BP (jH k) ((X.length:Int),(((X.length+P.length:Nat):Int),(((X.length+P.length+Q.length:Nat):Int),(hf (X.length:Int) ((X.length+P.length+Q.length:Nat):Int),(IntKind.wrap .i64 (hf (X.length:Int) ((X.length+P.length+Q.length:Nat):Int)+((X.length+P.length:Nat):Int)),(IntKind.wrap .i64 (IntKind.wrap .i64 (hf (X.length:Int) ((X.length+P.length+Q.length:Nat):Int)+((X.length+P.length:Nat):Int))-((X.length+P.length+Q.length:Nat):Int)),
     (hf (X.length:Int) ((X.length+P.length+Q.length:Nat):Int),(IntKind.wrap .i64 (IntKind.wrap .i64 (hf (X.length:Int) ((X.length+P.length+Q.length:Nat):Int)+((X.length+P.length:Nat):Int))-1),(L,W)))))))))=some ((X.length:Int),(((X.length+P.length:Nat):Int),(((X.length+P.length+Q.length:Nat):Int),((mid:Int),(((mid+(X.length+P.length):Nat):Int),((s:Int),(L,W))))))):=by rw[w2,w3,w1,hw];exact es
    refine⟨R,ag (au (by rw[wP];omega)) (ag (au (by rw[wQ];omega)) (ax (ar (show hf (X.length:Int) ((X.length+P.length+Q.length:Nat):Int)<((X.length+P.length:Nat):Int) by rw[hw];omega)) (ah es' ?_))),r2⟩;exact r1
   .obtain⟨s,s1,s2,es,g1,g2⟩:=UN C (jH k) hL hl hp hq hP hQ (X.length:Int) ((X.length+P.length:Nat):Int) ((X.length+P.length+Q.length:Nat):Int) (mid:Int) ((mid+(X.length+P.length):Nat):Int) (lo:=X.length) (hi:=X.length+P.length) (p:=mid+(X.length+P.length)-1) (by omega) (by omega) (by omega) (by omega) (by omega);obtain⟨R,r1,r2⟩:=tail _ _ s (.inr ⟨b1,rfl,rfl⟩) s1 s2 g1 g2;have es':BP (jH k) ((X.length:Int),(((X.length+P.length:Nat):Int),(((X.length+P.length+Q.length:Nat):Int),(hf (X.length:Int) ((X.length+P.length+Q.length:Nat):Int),(IntKind.wrap .i64 (hf (X.length:Int) ((X.length+P.length+Q.length:Nat):Int)+((X.length+P.length:Nat):Int)),((X.length:Int),
     (((X.length+P.length:Nat):Int),(IntKind.wrap .i64 (IntKind.wrap .i64 (hf (X.length:Int) ((X.length+P.length+Q.length:Nat):Int)+((X.length+P.length:Nat):Int))-1),(L,W)))))))))=some ((X.length:Int),(((X.length+P.length:Nat):Int),(((X.length+P.length+Q.length:Nat):Int),((mid:Int),(((mid+(X.length+P.length):Nat):Int),((s:Int),(L,W))))))):=by rw[w2,w1,hw];exact es
    refine⟨R,ag (au (by rw[wP];omega)) (ag (au (by rw[wQ];omega)) (ag (au (show ¬hf (X.length:Int) ((X.length+P.length+Q.length:Nat):Int)<((X.length+P.length:Nat):Int) by rw[hw];omega)) (ah es' ?_))),r2⟩;exact r1
  .-- one behind
   obtain⟨x,rfl⟩:∃x,Q=[x]:=List.length_eq_one_iff.1 (by omega);have hx:=hQ x (by simp);obtain⟨j,j1,e15,g1,g2⟩:=ahk C (jH k) hL hl hp hx hP;have tP:(P.take j).length=j:=by rw[dx];omega
   have dP:(P.drop j).length=P.length-j:=by rw[List.length_drop]
   have eP:P.take j++P.drop j=P:=List.take_append_drop _ _;have e21:=ahl (W:=W) (Y:=Y) (jH k) (X:=X) (x:=x) (P1:=P.take j) (P2:=P.drop j) (by omega);have eL:X++(P.take j++(P.drop j++(x::Y)))=L:=by rw[hL,<-cz (P.take j),eP];rfl
   rw[eL,tP,dP]at e21;have em:X.length+j+(P.length-j)=X.length+P.length:=by omega
   rw[em]at e21;unfold wc;refine⟨(P.take j++[x])++P.drop j,ag (au (by rw[wP];omega)) (ax (ar (by rw[wQ];rfl)) (ah e15 (ah e21 ?_))),?_⟩
   .refine(congrArg (fun l:List bp=>(some (l,W):qH)) ?_);simp only[cz,List.cons_append,List.nil_append]
   .have sp:=Pl.mg.1 (by rw[eP];exact hp:eY key (P.take j++P.drop j));have:=Dk (key:=key) (P1:=P.take j) (P2:=P.drop j) (Q1:=[x]) (Q2:=[]) (R1:=P.take j++[x]) (R2:=P.drop j) (by rw[eP];exact hp) (by rw[dB];exact hq) (fun _ _ y hy=>by cases hy) (fun y hy z hz=>by simp at hz;subst hz;exact g2 y hy)
     (cN.refl (Pl.mg.2 ⟨sp.1,hq,fun y hy z hz=>by simp at hz;subst hz;exact g1 y hy⟩)) (by rw[dB];exact cN.refl sp.2.1)
    rw[eP,dB]at this;exact this
 .-- one ahead
  obtain⟨x,rfl⟩:∃x,P=[x]:=List.length_eq_one_iff.1 (by omega);have hx:=hP x (by simp);obtain⟨j,j1,e3,g1,g2⟩:=ah3 C (jH k) hL hl hq hx hQ;have tQ:(Q.take j).length=j:=by rw[dx];omega
  have eQ:Q.take j++Q.drop j=Q:=List.take_append_drop _ _;have e9:=ah4 (W:=W) (jH k) (X:=X) (x:=x) (Q1:=Q.take j) (Z:=Q.drop j++Y) (by omega);have eL:X++(x::(Q.take j++(Q.drop j++Y)))=L:=by rw[hL,<-cz (Q.take j),eQ];rfl
  rw[eL,tQ]at e9;unfold wc;refine⟨Q.take j++(x::Q.drop j),ax (ar (by rw[wP];rfl)) (ah e3 (ah e9 ?_)),?_⟩
  .refine(congrArg (fun l:List bp=>(some (l,W):qH)) ?_);simp only[cz,List.cons_append]
  .have sq:=Pl.mg.1 (by rw[eQ];exact hq:eY key (Q.take j++Q.drop j));have:=Dk (key:=key) (P1:=[]) (P2:=[x]) (Q1:=Q.take j) (Q2:=Q.drop j) (R1:=Q.take j) (R2:=x::Q.drop j) hp (by rw[eQ];exact hq) (fun y hy=>by cases hy) (fun y hy z hz=>by simp at hy;subst hy;exact g1 z hz)
    (cN.refl sq.1) (cN.refl (Pl.NV.2 ⟨g2,sq.2.1⟩))
   rw[eQ]at this;exact this
theorem Vj(C:ln W key V):∀k,sv W key V (jH k) k
 |0=>by intro X P Q Y L A M B h1 h2 h3;omega|k+1=>af0 C (Vj C k)
theorem abh(C:ln W key V):sv W key V Lk 1000000:=by intro X P Q Y L A M B h1 h2 h3;exact Vj C NN X P Q Y L A M B h1 h2 (dK h3 (Nat.le_of_lt (bL (by omega))))
end
open Pl (cN eY)
abbrev jo:=List (List bp×List bp)
def f0(bl:jo):List bp:=bl.flatMap (·.1)
def f1(bl:jo):List bp:=bl.flatMap (·.2)
def fZ(key:bp->Int)(bs:Nat)(bl:jo):Prop:=∀p∈bl,p.1.length=bs/\cN key p.1 p.2
theorem UR(a b:jo):f0 (a++b)=f0 a++f0 b:=by unfold f0;simp
theorem US(a b:jo):f1 (a++b)=f1 a++f1 b:=by unfold f1;simp
theorem te(p:List bp×List bp)(b:jo):f0 (p::b)=p.1++f0 b:=rfl
theorem NY(p:List bp×List bp)(b:jo):f1 (p::b)=p.2++f1 b:=rfl
theorem wW(p:List bp×List bp):f1 [p]=p.2:=by simp[f1]
theorem wX(p:List bp×List bp):f0 [p]=p.1:=by simp[f0]
section
variable{W:jO}{key:bp->Int}{V:bp->Prop}
theorem fZ.oP{bs:Nat}:∀{bl:jo},fZ key bs bl->(f0 bl).length=bl.length*bs
 |[],_=>by simp[f0]|p::bl,h=>by rw[te,aU,(h p (by simp)).1,fZ.oP (fun q hq=>h q (by simp[hq])),cp,Nat.add_mul];omega
theorem fZ.oQ{bs:Nat}:∀{bl:jo},fZ key bs bl->(f1 bl).length=bl.length*bs
 |[],_=>by simp[f1]|p::bl,h=>by rw[NY,aU,(h p (by simp)).2.len,(h p (by simp)).1,fZ.oQ (fun q hq=>h q (by simp[hq])),cp,Nat.add_mul];omega
theorem fZ.app{bs:Nat}{a b:jo}(h:fZ key bs a)(g:fZ key bs b):fZ key bs (a++b):=by
 intro p hp;rcases List.mem_append.1 hp with q|q
 .exact h p q
 .exact g p q
theorem fZ.one{bs:Nat}{A A':List bp}(h:A.length=bs)(g:cN key A A'):fZ key bs [(A,A')]:=by intro p hp;simp at hp;subst hp;exact⟨h,g⟩
theorem abk{A A' B B' R:List bp}(ha:cN key A A')(hb:cN key B B')(h:cN key (A'++B') R):cN key (A++B) R:=cN.VG (by simp only[aU,ha.len,hb.len]) (fun k=>by rw[Pl.lJ,Pl.lJ,ha.pa,hb.pa]) h
theorem ag2(C:ln W key V){S:List bp}(hl:S.length<=400000)(hV:∀x∈S,V x) :
  ∃o,Y7 ((S.length:Int),((20:Int),((0:Int),((20:Int),(S,W)))))=some o/\∃(bl:jo) (R:List bp),o=((S.length:Int),((20:Int),(((f1 bl).length:Int),(f1 bl++R,W))))/\fZ key 20 bl/\S=f0 bl++R/\R.length<20:=by
 unfold Y7;delta u16;refine mW (fun d=>∃(bl:jo) (R:List bp),d=((S.length:Int),((20:Int),(((f1 bl).length:Int),((((f1 bl).length+20:Nat):Int),(f1 bl++R,W)))))/\fZ key 20 bl/\S=f0 bl++R)
  (fun o=>∃(bl:jo) (R:List bp),o=((S.length:Int),((20:Int),(((f1 bl).length:Int),(f1 bl++R,W))))/\fZ key 20 bl/\S=f0 bl++R/\R.length<20) (fun d=>S.length-d.2.2.1.toNat) ?_ NN _ ⟨[],S,rfl,(fun p hp=>by cases hp),rfl⟩ (bL (by omega))
 rintro d ⟨bl,R,rfl,hF,hS⟩;have l0:=hF.oP;have l1:=hF.oQ;have hn:S.length=(f0 bl).length+R.length:=by rw[hS,aU]
 try dsimp only
 unfold Lv;rcases de R.length 20 with q|q
 .left;exact⟨_,ag (au (by omega)) rfl,bl,R,rfl,hF,hS,q⟩
 .right;have eR:R.take 20++R.drop 20=R:=List.take_append_drop _ _;have tR:(R.take 20).length=20:=by rw[dx];omega
  obtain⟨A',e1,hA⟩:=UU C (X:=f1 bl) (S:=R.take 20) (Y:=R.drop 20) (L:=f1 bl++R) (A:=((f1 bl).length:Int)) (B:=(((f1 bl).length+20:Nat):Int)) rfl (by rw[tR]) (by rw[eR]) (by rw[aU];omega) (fun y hy=>hV y (by rw[hS];simp[List.mem_of_mem_take hy]));have lA:A'.length=20:=hA.len.trans tR;have ef1:f1 (bl++[(R.take 20,A')])=f1 bl++A':=by rw[US,wW]
  refine⟨((S.length:Int),((20:Int),(((f1 (bl++[(R.take 20,A')])).length:Int),((((f1 (bl++[(R.take 20,A')])).length+20:Nat):Int),(f1 (bl++[(R.take 20,A')])++R.drop 20,W))))),?_,⟨_,R.drop 20,rfl,hF.app (fZ.one tR hA),?_⟩,?_⟩
  .refine ax (ar (by omega)) (ah e1 ?_);have e:∀(u v u' v':Int) (A B:List bp),u=u'->v=v'->A=B->(some (.inl ((S.length:Int),((20:Int),(u,(v,(A,W)))))):Option (TL B4.σs⊕Out BV))=some (.inl ((S.length:Int),((20:Int),(u',(v',(B,W)))))):=by rintro _ _ _ _ _ _ rfl rfl rfl;rfl
   refine e _ _ _ _ _ _ ?_ ?_ ?_
   .rw[ef1,aU,lA]
   .rw[ef1,aU,lA];exact bR (by omega) (by omega)
   .rw[ef1,cz]
  .rw[UR,wX,cz,eR];exact hS
  .show S.length-(((f1 (bl++[(R.take 20,A')])).length:Int)).toNat<S.length-(((f1 bl).length:Int)).toNat;rw[ef1,aU,lA];omega
theorem ag4(C:ln W key V){S:List bp}(hl:S.length<=400000)(hV:∀x∈S,V x){bs:Nat}(hbs:20<=bs)(hb2:bs<=400000){bl:jo}{R0 R:List bp}(hF:fZ key bs bl)(hR:cN key R0 R)(hRl:R0.length<bs)(hS:S=f0 bl++R0) :
  ∃o,B6 ((S.length:Int),((bs:Int),((0:Int),(((2*bs:Nat):Int),(f1 bl++R,W)))))=some o/\∃(ul bl:jo),o=((S.length:Int),((bs:Int),(((f1 ul).length:Int),(f1 ul++(f1 bl++R),W))))/\fZ key (2*bs) ul/\fZ key bs bl/\S=f0 ul++(f0 bl++R0)/\(f1 bl).length+R.length<2*bs:=by
 unfold B6;delta u16;refine mW (fun d=>∃(ul bl:jo),d=((S.length:Int),((bs:Int),(((f1 ul).length:Int),((((f1 ul).length+2*bs:Nat):Int),(f1 ul++(f1 bl++R),W)))))/\fZ key (2*bs) ul/\fZ key bs bl/\S=f0 ul++(f0 bl++R0))
  (fun o=>∃(ul bl:jo),o=((S.length:Int),((bs:Int),(((f1 ul).length:Int),(f1 ul++(f1 bl++R),W))))/\fZ key (2*bs) ul/\fZ key bs bl/\S=f0 ul++(f0 bl++R0)/\(f1 bl).length+R.length<2*bs)
  (fun d=>S.length-d.2.2.1.toNat) ?_ NN _ ⟨[],bl,by show _=((S.length:Int),((bs:Int),(((0:Nat):Int),(((0+2*bs:Nat):Int),([]++(f1 bl++R),W)))));rw[Nat.zero_add];rfl,(fun p hp=>by cases hp),hF,hS⟩ (bL (by omega))
 rintro d ⟨ul,bl,rfl,hU,hF,hS⟩;have u0:=hU.oP;have u1:=hU.oQ;have l0:=hF.oP;have l1:=hF.oQ;have lR:=hR.len;have hn:S.length=(f0 ul).length+((f0 bl).length+R0.length):=by rw[hS,aU,aU]
 try dsimp only
 unfold Lt;rcases de ((f1 bl).length+R.length) (2*bs)with q|q
 .left;exact⟨_,ag (au (by omega)) rfl,ul,bl,rfl,hU,hF,hS,q⟩
 .right
  match bl,hF,hS,l0,l1,hn,q with
  |[],hF,hS,l0,l1,hn,q=>simp[f1]at q;omega|[p],hF,hS,l0,l1,hn,q=>simp only[cp,List.length_nil]at l1;omega|p::p2::bl,hF,hS,l0,l1,hn,q=>
   obtain⟨hp1,hp2⟩:=hF p (by simp);obtain⟨hq1,hq2⟩:=hF p2 (by simp);have lp:=hp2.len;have lq:=hq2.len;have hF':fZ key bs bl:=fun x hx=>hF x (by simp[hx]);have l0':=hF'.oP;have l1':=hF'.oQ;have eL:f1 ul++(f1 (p::p2::bl)++R)=f1 ul++(p.2++(p2.2++(f1 bl++R))):=by rw[NY,NY];simp only[cz]
   have lL:(f1 ul++(f1 (p::p2::bl)++R)).length<=400000:=by simp only[aU];omega
   obtain⟨R1,e1,hR1⟩:=abh C (f1 ul) p.2 p2.2 (f1 bl++R) (f1 ul++(f1 (p::p2::bl)++R)) ((f1 ul).length:Int) (IntKind.wrap .i64 (((f1 ul).length:Int)+(bs:Int))) (((f1 ul).length+2*bs:Nat):Int) (by omega) (by omega) (by omega) rfl (bR (by omega) (by omega)) (by omega) eL lL hp2.om hq2.om
    (fun x hx=>hV x (by rw[hS,te];simp[hp2.mem.1 hx])) (fun x hx=>hV x (by rw[hS,te,te];simp[hq2.mem.1 hx]))
   have lR1:R1.length=2*bs:=by rw[hR1.len,aU];omega
   have hSS:cN key (p.1++p2.1) R1:=abk hp2 hq2 hR1;have ef1:f1 (ul++[(p.1++p2.1,R1)])=f1 ul++R1:=by rw[US,wW]
   refine⟨((S.length:Int),((bs:Int),(((f1 (ul++[(p.1++p2.1,R1)])).length:Int),((((f1 (ul++[(p.1++p2.1,R1)])).length+2*bs:Nat):Int),(f1 (ul++[(p.1++p2.1,R1)])++(f1 bl++R),W))))),?_,⟨_,bl,rfl,hU.app (fZ.one (by rw[aU];omega) hSS),hF',?_⟩,?_⟩
   .refine ax (ar (by simp only[cp]at *;omega)) (ah e1 ?_);have e:∀(u v u' v':Int) (A B:List bp),u=u'->v=v'->A=B->(some (.inl ((S.length:Int),((bs:Int),(u,(v,(A,W)))))):Option (TL BZ.σs⊕Out BS))=some (.inl ((S.length:Int),((bs:Int),(u',(v',(B,W)))))):=by rintro _ _ _ _ _ _ rfl rfl rfl;rfl
    refine e _ _ _ _ _ _ ?_ ?_ ?_
    .rw[ef1,aU,lR1]
    .rw[ef1,aU,lR1];have w2:IntKind.wrap .i64 ((2:Int)*(bs:Int))=((2*bs:Nat):Int):=bR (by omega) (by omega);have:IntKind.wrap .i64 ((((f1 ul).length+2*bs:Nat):Int)+IntKind.wrap .i64 ((2:Int)*(bs:Int)))=(((f1 ul).length+2*bs+2*bs:Nat):Int):=by rw[w2];exact bR (by omega) (by omega)
     exact this
    .rw[ef1,cz]
   .rw[UR,wX,hS,te,te];simp only[cz]
   .show S.length-(((f1 (ul++[(p.1++p2.1,R1)])).length:Int)).toNat<S.length-(((f1 ul).length:Int)).toNat;rw[ef1,aU,lR1];simp only[cp]at *
    omega
end
section
variable{W:jO}{key:bp->Int}{V:bp->Prop}
theorem ag3(C:ln W key V){S:List bp}(hl:S.length<=100000)(hV:∀x∈S,V x){bl:jo}{R0 R:List bp}(hF:fZ key 20 bl)(hR:cN key R0 R)(hRl:R0.length<20)(hS:S=f0 bl++R0) :
  ∃o,Y6 ((S.length:Int),((20:Int),(f1 bl++R,W)))=some o/\∃S',o=(S',W)/\cN key S S':=by
 unfold Y6;delta i7;refine mW (fun d=>∃(bs:Nat) (bl:jo) (R0 R:List bp),d=((S.length:Int),((bs:Int),(f1 bl++R,W)))/\20<=bs/\bs<=400000/\fZ key bs bl/\cN key R0 R/\R0.length<bs/\S=f0 bl++R0)
  (fun o=>∃S',o=(S',W)/\cN key S S') (fun d=>S.length-d.2.1.toNat) ?_ NN _ ⟨20,bl,R0,R,rfl,aS _,by decide,hF,hR,hRl,hS⟩ (bL (by omega))
 rintro d ⟨bs,bl,R0,R,rfl,hbs,hb2,hF,hR,hRl,hS⟩;have l0:=hF.oP;have l1:=hF.oQ;have lR:=hR.len;have hn:S.length=(f0 bl).length+R0.length:=by rw[hS,aU]
 try dsimp only
 unfold Lu;rcases de bs S.length with q|q
 .right;obtain⟨o,e9,ul,bl',rfl,hU,hF',hS',hlt⟩:=ag4 C (by omega) hV hbs hb2 hF hR hRl hS;have u0:=hU.oP;have u1:=hU.oQ;have l0':=hF'.oP;have l1':=hF'.oQ;have hn':S.length=(f0 ul).length+((f0 bl').length+R0.length):=by rw[hS',aU,aU]
  have w2:IntKind.wrap .i64 ((2:Int)*(bs:Int))=((2*bs:Nat):Int):=bR (by omega) (by omega);have w3:IntKind.wrap .i64 ((bs:Int)*(2:Int))=((2*bs:Nat):Int):=bR (by omega) (by omega);have wm:IntKind.wrap .i64 (((f1 ul).length:Int)+(bs:Int))=(((f1 ul).length+bs:Nat):Int):=bR (by omega) (by omega);have e9':B6 ((S.length:Int),((bs:Int),((0:Int),(IntKind.wrap .i64 ((2:Int)*(bs:Int)),(f1 bl++R,W)))))=some ((S.length:Int),((bs:Int),(((f1 ul).length:Int),(f1 ul++(f1 bl'++R),W)))):=by rw[w2];exact e9
  have e:∀(u u':Int) (A B:List bp),u=u'->A=B->(some (.inl ((S.length:Int),(u,(A,W)))):Option (TL B0.σs⊕Out BU))=some (.inl ((S.length:Int),(u',(B,W)))):=by rintro _ _ _ _ rfl rfl;rfl
  rcases de bs ((f1 bl').length+R.length)with g|g
  .match bl',hF',hS',l0',l1',hn',hlt,g,e9' with
   |[],hF',hS',l0',l1',hn',hlt,g,e9'=>simp[f1]at g;omega|p::p2::bl',hF',hS',l0',l1',hn',hlt,g,e9'=>simp only[cp,Nat.add_mul]at l1';omega|[p],hF',hS',l0',l1',hn',hlt,g,e9'=>
    obtain⟨hp1,hp2⟩:=hF' p (by simp);have lp:=hp2.len;rw[wW]at g l1' hlt e9';rw[wX]at l0' hS' hn';simp only[cp,List.length_nil]at l1' l0';have lL:(f1 ul++(p.2++R)).length<=400000:=by simp only[aU];omega
    obtain⟨R1,e1,hR1⟩:=abh C (f1 ul) p.2 R [] (f1 ul++(p.2++R)) ((f1 ul).length:Int) (IntKind.wrap .i64 (((f1 ul).length:Int)+(bs:Int))) (S.length:Int) (by omega) (by omega) (by omega) rfl (by rw[wm];congr 2;omega) (by congr 1;omega) (by rw[dB]) lL hp2.om hR.om
     (fun x hx=>hV x (by rw[hS'];simp[hp2.mem.1 hx])) (fun x hx=>hV x (by rw[hS'];simp[hR.mem.1 hx]))
    refine⟨((S.length:Int),(((2*bs:Nat):Int),(f1 ul++R1,W))),ax (ar (by omega)) (ah e9' (ax (ar (show IntKind.wrap .i64 (((f1 ul).length:Int)+(bs:Int))<(S.length:Int) by rw[wm];omega)) (ah e1 (e _ _ _ _ w3 (by rw[dB]))))),⟨2*bs,ul,p.1++R0,R1,rfl,by omega,by omega,hU,abk hp2 hR hR1,by simp only[aU];omega,hS'⟩,?_⟩;show S.length-(((2*bs:Nat):Int)).toNat<S.length-((bs:Int)).toNat;omega
  .-- one block at most,and nothing behind it
   have hrest:cN key (f0 bl'++R0) (f1 bl'++R):=by
    match bl',hF',l1',g with
    |[],hF',l1',g=>exact hR|[p],hF',l1',g=>obtain⟨hp1,hp2⟩:=hF' p (by simp);rw[wW]at g l1' |-;rw[wX];simp only[cp,List.length_nil]at l1';have h0:R0=[]:=jd (by omega);have h1:R=[]:=jd (by omega);rw[h0,h1,dB,dB];exact hp2
    |p::p2::bl',hF',l1',g=>simp only[cp,Nat.add_mul]at l1';omega
   refine⟨((S.length:Int),(((2*bs:Nat):Int),(f1 ul++(f1 bl'++R),W))),ax (ar (by omega)) (ah e9' (ag (au (show ¬IntKind.wrap .i64 (((f1 ul).length:Int)+(bs:Int))<(S.length:Int) by rw[wm];omega)) (e _ _ _ _ w3 rfl))),⟨2*bs,ul,f0 bl'++R0,f1 bl'++R,rfl,by omega,by omega,hU,hrest,by simp only[aU];omega,hS'⟩,?_⟩;show S.length-(((2*bs:Nat):Int)).toNat<S.length-((bs:Int)).toNat;omega
 .left;refine⟨(f1 bl++R,W),ag (au (by omega)) rfl,_,rfl,?_⟩;rw[hS]
  match bl,hF,l0,l1,hn with
  |[],hF,l0,l1,hn=>exact hR|[p],hF,l0,l1,hn=>obtain⟨hp1,hp2⟩:=hF p (by simp);rw[wX]at hn l0 |-;rw[wW];simp only[cp,List.length_nil]at l0;have h0:R0=[]:=jd (by omega);have h1:R=[]:=jd (by omega);rw[h0,h1,dB,dB];exact hp2
  |p::p2::bl,hF,l0,l1,hn=>simp only[cp,Nat.add_mul]at l0;omega
theorem anJ(C:ln W key V){S:List bp}(hl:S.length<=100000)(hV:∀x∈S,V x):∃S',akw (S,W)=some (S',W)/\cN key S S':=by
 obtain⟨o,e2,bl,R,rfl,hF,hS,hR⟩:=ag2 C (by omega) hV;have l0:=hF.oP;have l1:=hF.oQ;have hn:S.length=(f0 bl).length+R.length:=by
  have:=congrArg List.length hS
  rwa [aU]at this
 obtain⟨R',e3,hR'⟩:=UU C (X:=f1 bl) (S:=R) (Y:=[]) (L:=f1 bl++R) (A:=((f1 bl).length:Int)) (B:=(S.length:Int)) rfl (by congr 1;omega) (by rw[dB]) (by rw[aU];omega) (fun y hy=>hV y (by rw[hS];simp[hy]));obtain⟨o,e7,S',rfl,hS'⟩:=ag3 C hl hV hF hR' (by omega) hS;rw[dB]at e3;have e:aly ((S.length:Int),(S,W))=some (S',W):=ah e2 (ah e3 (ah e7 rfl));exact⟨S',ah e rfl,hS'⟩
end
open Go.Proofs.YtkcpdpplobhpaaaGreat.Pl
theorem NW{R:Type}{a b:Bool}{y z:Option R}(ha:a=true)(h:ai b y=z):ai (both a b) y=z:=by subst ha;exact h
theorem agh(a b:Int):∃c:Int,MT (a,(b,()))=some (c,())/\(c<0↔a<b):=by
 have nn:∀x:Int,aar (x,())=some (false,()):=fun x=>by
  show M0 x=_;unfold M0;have e:∀b:Bool,b=true->(some (Bool.not b,()):Option (TL CY))=some (false,()):=by rintro _ rfl;rfl
  exact e _ (ar rfl)
 have un:∀c:Option (TL CU),wI aar a b=c->MT (a,(b,()))=c:=fun c h=>h;rcases Int.lt_trichotomy a b with h|h|h
 .refine⟨-1,un _ ?_,by omega⟩;unfold wI;exact ah (nn a) (ah (nn b) (ag rfl (ag rfl (ax (ar h) rfl))))
 .refine⟨0,un _ ?_,by omega⟩;unfold wI;exact ah (nn a) (ah (nn b) (ag rfl (ag rfl (ag (au (by omega)) (ag (au (by omega)) rfl)))))
 .refine⟨1,un _ ?_,by omega⟩;unfold wI;exact ah (nn a) (ah (nn b) (ag rfl (ag rfl (ag (au (by omega)) (ax (ar h) rfl)))))
def wR(n:aB)(of m lv:List Int):jO:=(n.vars,(n.aL,(n.aj.map bf,(n.bz,(n.bc,(n.constraints,(n.aa.map af,(n.aC.map cG,(of,(m,(lv,())))))))))))
def nI(n:aB)(x:bp):bq:=
 match x.1 with
 |true=>(match n.aa[x.2.1.toNat]? with|some M=>(match M.reads[x.2.2.1.toNat]? with|some r=>oI M.word r|none=>⟨[],[]⟩)|none=>⟨[],[]⟩)
 |false=>(match n.aC[x.2.2.1.toNat]? with|some a=>ij a|none=>⟨[],[]⟩)
theorem aiq{n:aB}{y:bE}{i:bq}(h:y.is n i):nI n (dM y)=i:=by
 rcases h with⟨h,a,ha,rfl⟩|⟨h,M,r,hM,hr,rfl⟩
 .unfold nI dM;simp only[h,eD,ha]
 .unfold nI dM;simp only[h,eD,hM,hr]
def lk(lv:List Int)(i:bq):Int:=aE lv (i.to.headD 0).toNat
theorem Vk{n:aB}{of m lv:List Int}{L:List bp}{x:bE}{i:bq}(h:x.is n i)(ft:Fit n)(hw:∀M∈n.aa,0<=M.word) :
  xz (x.rd,((x.mem:Int),((x.pos:Int),mP (wR n of m lv) L)))=some (i.to,mP (wR n of m lv) L):=by
 show xM xV x.rd (x.mem:Int) (x.pos:Int) n.vars n.aL (n.aj.map bf) n.bz n.bc n.constraints (n.aa.map af) (n.aC.map cG) of L m lv=_;unfold xM;rcases h with⟨h,a,ha,rfl⟩|⟨h,M,r,hM,hr,rfl⟩
 .have ha':(n.aC.map cG)[x.pos]?=some (cG a):=by rw[bT,ha];rfl
  have hl:=dz ha';rw[h,gd rfl,fe (aK ⟨by omega,by omega⟩),bF ha'];rfl
 .have hM':(n.aa.map af)[x.mem]?=some (af M):=by rw[bT,hM];rfl
  have hl:=dz hM';have hmem:=dc hM;have hf:=ft.aa.2 M hmem;have hr2:=hf.ks r (dc hr);rw[h,je rfl,fe (aK ⟨by omega,by omega⟩),bF hM'];exact(cL (J3 M x.pos r hr ⟨hw M hmem,hf.word.2⟩ ⟨hr2.2.1,hr2.2.2.1⟩)).trans rfl
theorem aif{n:aB}{V:Nat}(hs:cr n V)(ft:Fit n){of m lv:List Int}(hl:lv.length=V+1)(key:bp->Int)(hk:∀x∈n6 n,key (dM x.1)=lk lv x.2)(his:∀x∈n6 n,x.1.is n x.2) :
  ln (wR n of m lv) key (fun x=>∃y∈n6 n,x=dM y.1):=by
 refine⟨fun L x y hx hy=>?_⟩;obtain⟨x,hx,rfl⟩:=hx;obtain⟨y,hy,rfl⟩:=hy;have hw:∀M∈n.aa,0<=M.word:=fun M hM=>by have:=(hs.aa M hM).2.2.1;omega
 have hd:∀z∈n6 n,∃(v:Nat) (t:List Int),z.2.to=(v:Int)::t/\v<=V/\key (dM z.1)=aE lv v:=by
  intro z hz;have hm:z.2∈fm n:=by rw[<-pG];exact List.mem_map_of_mem hz
  have h1:=hs.DM hm;have h2:=hk z hz;unfold lk at h2
  match e:z.2.to with|[]=>exact absurd e h1|v::t=>have h3:=hs.lF hm (v:=v) (by rw[e];simp);obtain⟨u,hu⟩:=ie (show 0<=v by omega);rw[e,List.headD_cons,hu,eD]at h2;exact⟨u,t,by rw[hu],by omega,h2⟩
 obtain⟨vx,tx,ex,bx,kx⟩:=hd x hx;obtain⟨vy,ty,ey,bY,ky⟩:=hd y hy;have f1:=Vk (of:=of) (m:=m) (lv:=lv) (L:=L) (his x hx) ft hw;have f2:=Vk (of:=of) (m:=m) (lv:=lv) (L:=L) (his y hy) ft hw;obtain⟨c,hc,hiff⟩:=agh (aE lv vx) (aE lv vy);refine⟨c,?_,by rw[kx,ky];exact hiff⟩;have g0:gt (.int .i64) x.2.to (0:Int)=(vx:Int):=bF (σ:=.int .i64) (i:=0) (by rw[ex];rfl);have g1:gt (.int .i64) y.2.to (0:Int)=(vy:Int):=bF (σ:=.int .i64) (i:=0) (by rw[ey];rfl);have gx:gt (.int .i64) lv (vx:Int)=aE lv vx:=bF (σ:=.int .i64) (vV (by omega));have gy:gt (.int .i64) lv (vy:Int)=aE lv vy:=bF (σ:=.int .i64) (vV (by omega));have ix:av (vx:Int) (List.length lv)=true:=aK ⟨by omega,by omega⟩;have iy:av (vy:Int) (List.length lv)=true:=aK ⟨by omega,by omega⟩;have nx:av (0:Int) (List.length x.2.to)=true:=aK ⟨by omega,by rw[ex];simp⟩;have ny:av (0:Int) (List.length y.2.to)=true:=aK ⟨by omega,by rw[ey];simp⟩;have jx:av (gt (.int .i64) x.2.to (0:Int)) (List.length lv)=true:=by rw[g0];exact ix
 have jy:av (gt (.int .i64) y.2.to (0:Int)) (List.length lv)=true:=by rw[g1];exact iy
 have hc':MT ((gt (.int .i64) lv (gt (.int .i64) x.2.to (0:Int))),((gt (.int .i64) lv (gt (.int .i64) y.2.to (0:Int))),()))=some (c,()):=by rw[g0,g1,gx,gy];exact hc
 refine ah f1 (ak nx (ak jx (NW (ar rfl) (NW (ar rfl) (NW (ar rfl) (ak rfl (ah f2 (ak ny (ak jy (ak nx (ak (ar rfl) (ak (ar rfl) (ak jx (ak (ar rfl) (ak (ar rfl) (ah hc' rfl))))))))))))))))
theorem Va(n:aB):(n6 n).map (fun x:bE×bq=>x.1)=fc n:=by
 unfold n6 A6 M6 fc;rw[eJ,dS,dS];congr 1
 .exact List.map_fst_zip (by rw[tZ,aI];omega)
 .exact List.map_fst_zip (by rw[tX];omega)
theorem qC(n:aB){x:bE×bq}(h:x∈n6 n):x.1.is n x.2:=by
 obtain⟨i,hi⟩:=List.getElem?_of_mem h;have h1:(fc n)[i]?=some x.1:=by rw[<-Va,bT,hi];rfl
 have h2:(fm n)[i]?=some x.2:=by rw[<-pG,bT,hi];rfl
 obtain⟨y,e,hy⟩:=Kc n h1;rw[h2]at e;injection e with e;rw[e];exact hy
def lvl(n:aB)(V:Nat):List Int:=ji (aR n) ((n6 n).length+1) (jt (aR n) V)
def bK(n:aB)(V:Nat):List (bE×bq):=(List.range (n6 n).length).flatMap fun(i:Nat)=>(n6 n).filter fun x=>decide (lk (lvl n V) x.2=(i:Int)+1)
theorem Jh{n:aB}{V:Nat}(hs:cr n V){v k:Nat}(hv:v<=V)(hl:df (aR n) v k):aE (lvl n V) v=(k:Int):=by
 unfold lvl;have:(n6 n).length=(aR n).length:=by rw[<-px,aI]
 rw[this];exact am1 hs.apart hs.aY hv hl
theorem Dv{n:aB}{V:Nat}(hs:cr n V){x:bE×bq}(h:x∈n6 n):(x.2.to.headD 0).toNat<=V/\(x.2.to.headD 0).toNat∈x.2.nd.to/\x.2.nd∈aR n:=by
 have hm:x.2∈fm n:=by rw[<-pG];exact List.mem_map_of_mem h
 have h1:=hs.DM hm;refine⟨?_,?_,?_⟩
 .match e:x.2.to with|[]=>exact absurd e h1|v::t=>have h3:=hs.lF hm (v:=v) (by rw[e];simp);rw[List.headD_cons];omega
 .unfold bq.nd
  match e:x.2.to with|[]=>exact absurd e h1|v::t=>simp
 .unfold aR;exact List.mem_map_of_mem hm
theorem U3{n:aB}{V:Nat}(hs:cr n V)(ha:eO (aR n) V=true){x:bE×bq}(h:x∈n6 n):1<=lk (lvl n V) x.2/\lk (lvl n V) x.2<=((n6 n).length:Int):=by
 obtain⟨h1,h2,h3⟩:=Dv hs h;obtain⟨k,hk⟩:=(qJ hs.apart V).1 ha _ h1;unfold lk;rw[Jh hs h1 hk];have:(n6 n).length=(aR n).length:=by rw[<-px,aI]
 have hle:=hk.le hs.apart;obtain⟨f,_,e⟩:=hk.inv hs.apart h3 h2;omega
theorem amZ{n:aB}{V:Nat}(hs:cr n V)(ft:Fit n)(h0:dv n=0) :
  am0 (cH n,())=some (if eO (aR n) V then((bK n V).map (fun x=>dM x.1),(true,()))else([],(false,()))):=by
 have es:mC (cH n,())=some (dv n,()):=by unfold mC;rw[show js ((cH n,()):TL [ca]).1=n from o9 n,Bi ft];rfl
 have ew:=abq hs ft;obtain⟨m,lv,ea,hlv⟩:=UO hs ft;by_cases ha:eO (aR n) V=true
 .obtain⟨hll,hlv⟩:=hlv ha;have et:xN (nt n ())=some (.inr ((0:Int),wk n V m lv)):=by refine ah es (ag (by rw[h0];rfl) (ah ew (ah ea (ag (by rw[ha];rfl) rfl))))
  rw[if_pos ha]
  let key:bp->Int:=fun x=>lk (lvl n V) (nI n x)
  have hkey:∀x∈n6 n,key (dM x.1)=lk (lvl n V) x.2:=fun x hx=>by show lk (lvl n V) (nI n (dM x.1))=_;rw[aiq (qC n hx)]
  have hk:∀x∈n6 n,key (dM x.1)=lk lv x.2:=fun x hx=>by rw[hkey x hx];obtain⟨h1,h2,h3⟩:=Dv hs hx;unfold lk;obtain⟨k,e1,e2⟩:=hlv _ h1;rw[e1,Jh hs h1 e2]
  have hN:(fc n).map dM=(n6 n).map (fun x=>dM x.1):=by rw[<-Va,List.map_map];rfl
  have hlen:(n6 n).length<=3000:=(AR hs).len;obtain⟨S',e1,hS⟩:=anJ (aif hs ft (of:=fY (aR n) V (aR n).length) (m:=m) hll key hk (fun x hx=>qC n hx)) (S:=(fc n).map dM) (by rw[hN,aI];omega) (fun x hx=>by rw[hN]at hx;obtain⟨y,hy,rfl⟩:=List.mem_map.1 hx;exact⟨y,hy,rfl⟩);have hS':S'=(bK n V).map (fun x=>dM x.1):=by
   refine(hS.flat (n6 n).length (fun x hx=>?_)).trans ?_
   .rw[hN]at hx;obtain⟨y,hy,rfl⟩:=List.mem_map.1 hx;rw[hkey y hy];exact U3 hs ha hy
   .unfold bK;rw[List.map_flatMap,hN];congr 1;funext i;unfold fk;rw[List.filter_map];congr 1;refine List.filter_congr fun x hx=>?_;show decide (key (dM x.1)=_)=_;rw[hkey x hx]
  rw[<-hS'];refine ah et (ag rfl ?_);exact ah e1 rfl
 .rw[if_neg ha];have hc:eO (aR n) V=false:=by simpa using ha
  have et:xN (nt n ())=some (.inl ((8:Int),())):=by refine ah es (ag (by rw[h0];rfl) (ah ew (ah ea (ax (by rw[hc];rfl) rfl))))
  exact ah et (ak rfl rfl)
def bt(l:Int)(v:List Bool):Bool:=if l<0 then false else(decide (l % 2=1)) != (decide (0<l / 2)&&(v.getD (l / 2).toNat false))
theorem aeS{l:Int}(h:0<=l)(h2:l<9223372036854775808):kv .i64 l 1=l % 2:=by
 obtain⟨n,rfl⟩:=ie h;unfold kv;have e:(BitVec.ofInt (IntKind.i64).bits (n:Int) &&& BitVec.ofInt (IntKind.i64).bits 1).toNat=n % 2:=by
  rw[BitVec.toNat_and,BitVec.toNat_ofInt,BitVec.toNat_ofInt];have e1:(((n:Int) % ((2^(IntKind.i64).bits:Nat):Int)).toNat)=n:=by rw[Int.emod_eq_of_lt (by omega) (by show(n:Int)<((2^64:Nat):Int);omega)];rfl
  rw[e1];show n &&& 1=n % 2;exact Nat.and_one_is_mod n
 rw[e,cf (by omega)];omega
theorem TY{w:Int}(h:0<=w)(h2:w<18446744073709551616):kv .u64 w 1=w % 2:=by
 obtain⟨n,rfl⟩:=ie h;unfold kv;have e:(BitVec.ofInt (IntKind.u64).bits (n:Int) &&& BitVec.ofInt (IntKind.u64).bits 1).toNat=n % 2:=by
  rw[BitVec.toNat_and,BitVec.toNat_ofInt,BitVec.toNat_ofInt];have e1:(((n:Int) % ((2^(IntKind.u64).bits:Nat):Int)).toNat)=n:=by rw[Int.emod_eq_of_lt (by omega) (by show(n:Int)<((2^64:Nat):Int);omega)];rfl
  rw[e1];show n &&& 1=n % 2;exact Nat.and_one_is_mod n
 rw[e,mu (by omega)];omega
theorem ahG{l:Int}(h:0<=l)(h2:l<9223372036854775808):aa1 (l,())=some (decide (l % 2=1),()):=by show NM l=_;unfold NM;rw[aeS h h2];rfl
theorem aog{v:List Bool}{i:Int}(h:0<=i):gt .bool v i=v.getD i.toNat false:=by unfold gt;rfl
theorem qV(l:Int)(v:List Bool)(h2:l<9223372036854775808):kh (l,(v,()))=some (bt l v,()):=by
 show NK aa1 oW l v=_;unfold NK bt;by_cases h:l<0
 .rw[if_pos h];exact ax (ar h) rfl
 .rw[if_neg h];refine ag (au h) (ah (WG l) (ah (ahG (by omega) h2) ?_));have e:∀a b c:Bool,b=c->(some (Bool.not (@decide _ (Bool.decEq a b)),()):Option (TL Dn))=some (a != c,()):=by rintro a b _ rfl;cases a<;>cases b<;>rfl
  by_cases h0:0<l / 2
  .refine ax (ar h0) ?_;by_cases h1:l / 2<(v.length:Int)
   .refine ax (ar h1) (ak (aK ⟨by omega,h1⟩) (e _ _ _ ?_));rw[bG h0];show gt .bool v (l / 2)=_;rw[aog (by omega)];rfl
   .refine ag (au h1) (e _ _ _ ?_);rw[bG h0,bM,ep (by omega)];rfl
  .refine ag (au h0) (e _ _ _ ?_);rw[cw h0];rfl
def cd:List Bool->Nat
 |[]=>0|b::l=>(if b then 1 else 0)+2*cd l
theorem NS(l:List Bool)(b:Bool):cd (l++[b])=cd l+(if b then 2^l.length else 0):=by
 induction l with
 |nil=>cases b<;>rfl
 |cons c l ih=>rw[List.cons_append,cd,ih,cd,cp,Nat.pow_succ];cases b<;>simp<;>omega
theorem pH(l:List Bool):cd l<2^l.length:=by induction l with|nil=>decide|cons c l ih=>rw[cd,cp,Nat.pow_succ];split<;>omega
theorem JF{i:Nat}(h:i<64):(2:Nat)^i<=9223372036854775808:=by have:(2:Nat)^i<=2^63:=Nat.pow_le_pow_right (by decide) (by omega);exact this
theorem Uv{w i:Nat}(hi:i<64)(hw:w<2^i):tt .u64 (w:Int) (IntKind.wrap .u64 ((1:Int)*(HPow.hPow (2:Int) (Min.min (Int.toNat (i:Int)) 64))))=((w+2^i:Nat):Int):=by
 have hp:=JF hi;have e1:((1:Int)*(HPow.hPow (2:Int) (Min.min (Int.toNat (i:Int)) 64)))=((2^i:Nat):Int):=by rw[Int.one_mul,eD,Nat.min_eq_left (by omega)];simp
 rw[e1,mu (by omega)];unfold tt;have e2:∀n:Nat,n<18446744073709551616->(BitVec.ofInt (IntKind.u64).bits (n:Int)).toNat=n:=by intro n hn;rw[BitVec.toNat_ofInt,Int.emod_eq_of_lt (by omega) (by show(n:Int)<((2^64:Nat):Int);omega)];rfl
 have e3:w ||| 2^i=w+2^i:=by rw[Nat.or_comm,Nat.add_comm];have:=Nat.two_pow_add_eq_or_of_lt hw 1;rw[Nat.mul_one]at this;exact this.symm
 rw[BitVec.toNat_or,e2 _ (by omega),e2 _ (by omega),e3,mu (by omega)]
theorem NR(l:List Int)(v:List Bool)(hl:l.length<=64)(hr:∀x∈l,x<9223372036854775808):qM (l,(v,()))=some ((cd (l.map (bt · v)):Int),()):=by
 show Nw kh Dd l v=_;unfold Nw;have es:du (iL (64:Int) (Int.ofNat (List.length l))) (64:Int) (Int.ofNat (List.length l))=(l.length:Int):=by have q:iL (64:Int) (Int.ofNat (List.length l))=false:=au (by show ¬(64:Int)<(l.length:Int);omega);rw[q];rfl
 have et:List.take (Int.toNat (du (iL (64:Int) (Int.ofNat (List.length l))) (64:Int) (Int.ofNat (List.length l)))) l=l:=by rw[es,eD,dS]
 have eL:Dd (v,((0:Int),(l,((l.length:Int),((0:Int),())))))=some ((cd (l.map (bt · v)):Int),()):=by
  unfold Dd;delta u5;refine dn (fun k:Nat=>(v,((cd ((l.take k).map (bt · v)):Int),(l,((l.length:Int),((k:Int),())))))) l.length rfl ?_ ?_ (bL (by omega))
  .intro k hk;have hx:=aN hk;have hm:=hr _ (dk hk)
   try dsimp only
   unfold De;have e1:=qV l[k] v hm;have e1':kh ((gt (.int .i64) l (k:Int)),(v,()))=some (bt l[k] v,()):=by rw[bF (σ:=.int .i64) hx];exact e1
   have ht:(l.take (k+1)).map (bt · v)=(l.take k).map (bt · v)++[bt l[k] v]:=by rw[Pl.dy hx,eJ];rfl
   have hk2:((l.take k).map (bt · v)).length=k:=by rw[aI,dx];omega
   have hw:=pH ((l.take k).map (bt · v));rw[hk2]at hw;have e:∀(a b p q:Int),a=b->p=q->(some (.inl (v,(a,(l,((l.length:Int),(p,())))))):Option (TL C3.σs⊕Out CZ))=some (.inl (v,(b,(l,((l.length:Int),(q,())))))):=by rintro _ _ _ _ rfl rfl;rfl
   refine ax (ar (by omega)) (ak (aK ⟨by omega,by omega⟩) (ah e1' ?_));rw[ht,NS,hk2];cases hb:bt l[k] v
   .refine ag rfl (e _ _ _ _ ?_ (bR (by omega) (by omega)));rfl
   .refine ax rfl (ak (ar (by omega)) (e _ _ _ _ (Uv (by omega) hw) (bR (by omega) (by omega))))
  .try dsimp only
   unfold De;rw[dS];exact ag (au (by omega)) rfl
 refine ak ?_ ?_
 .rw[es];show both (decide _) (decide _)=true;rw[bG (by omega),bG (by show(l.length:Int)<=(l.length:Int);omega)];rfl
 .have eT:∀L:List Int,L=l->Dd (v,((0:Int),(L,((Int.ofNat (List.length L)),((0:Int),())))))=some ((cd (l.map (bt · v)):Int),()):=by rintro _ rfl;exact eL
  exact ah (eT _ et) rfl
theorem anH(l:List Bool)(hl:l.length<=64):MV (l,())=some ((cd l:Int),()):=by
 have eL:My (l,((0:Int),((1:Int),((0:Int),()))))=some ((cd l:Int),()):=by
  unfold My;delta u4;refine dn (fun k:Nat=>(l,((cd (l.take k):Int),((if k=64 then(0:Int)else((2^k:Nat):Int)),((k:Int),()))))) l.length rfl ?_ ?_ (bL (by omega))
  .intro k hk;have hx:=aN hk;have ht:l.take (k+1)=l.take k++[l[k]]:=Pl.dy hx;have hk2:(l.take k).length=k:=by rw[dx];omega
   have hw:=pH (l.take k);rw[hk2]at hw;have hp:=JF (i:=k) (by omega);have e:∀(a b c c' p q:Int),a=b->c=c'->p=q->(some (.inl (l,(a,(c,(p,()))))):Option (TL CD.σs⊕Out Ct))=some (.inl (l,(b,(c',(q,()))))):=by rintro _ _ _ _ _ _ rfl rfl rfl;rfl
   try dsimp only
   rw[if_neg (show ¬k=64 by omega)];unfold CM;refine ax (ar (show(k:Int)<(l.length:Int) by omega)) (ax (ar (show(k:Int)<64 by omega)) (ak (aK ⟨by omega,by omega⟩) ?_));have g:gt .bool l (k:Int)=l[k]:=bF (σ:=.bool) hx;have e2:IntKind.wrap .u64 (((2^k:Nat):Int)*(2:Int))=(if k+1=64 then(0:Int)else((2^(k+1):Nat):Int)):=by
    by_cases q:k+1=64
    .have:k=63:=by omega
     subst this;rfl
    .rw[if_neg q];have:=JF (i:=k+1) (by omega);rw[Nat.pow_succ]at this |-;rw[mu (by omega)];omega
   rw[ht,NS,hk2,g];cases l[k]
   .exact ag rfl (e _ _ _ _ _ _ rfl e2 (bR (by omega) (by omega)))
   .exact ax rfl (e _ _ _ _ _ _ (by rw[mu (by omega)];simp) e2 (bR (by omega) (by omega)))
  .try dsimp only
   unfold CM;rw[dS];exact ag (au (show ¬(l.length:Int)<(l.length:Int) by omega)) rfl
 show MH My l=_;unfold MH;exact ah eL rfl
theorem VK(P:List Bool)(z:Bool)(h:P.length<=10000000):room 1 (List.length (P++(z::[])))=true:=by rw[aU,cp,List.length_nil];exact l9 (by omega) (by omega)
def gG(w n:Nat):List Bool:=(List.range n).map fun i=>decide (w / 2^i % 2=1)
theorem qP(w n:Nat):(gG w n).length=n:=by simp[gG]
theorem amS(w n:Nat):gG w (n+1)=gG w n++[decide (w / 2^n % 2=1)]:=by unfold gG;rw[List.range_succ,eJ];rfl
theorem aho{q:Nat}(h:q<18446744073709551616):(iQ (kv .u64 (q:Int) (1:Int)) (1:Int))=decide (q % 2=1):=by rw[TY (by omega) (by omega)];show decide _=decide _;congr 1;apply propext;omega
theorem T3(w n:Nat)(hn:n<=64)(hw:w<18446744073709551616):qS ((w:Int),((n:Int),()))=some (gG w n,()):=by
 have hb:Fm ((n:Int),())=some ((n:Int),()):=by
  show xS (n:Int)=_;unfold xS;have h1:du (decide ((64:Int)<(n:Int))) (64:Int) (n:Int)=(n:Int):=by unfold du;rw[cw (by omega)]
  have h2:du (decide ((n:Int)<(0:Int))) (0:Int) (n:Int)=(n:Int):=by unfold du;rw[cw (by omega)]
  show some (du (decide (du (decide ((64:Int)<(n:Int))) (64:Int) (n:Int)<0)) 0 (du (decide ((64:Int)<(n:Int))) (64:Int) (n:Int)),())=_;rw[h1,h2]
 have eL:Ny ((w:Int),((n:Int),((0:Int),([],()))))=some (gG w n,()):=by
  unfold Ny;delta u4;refine dn (fun k:Nat=>((w:Int),((n:Int),((k:Int),(gG w k,()))))) n rfl ?_ ?_ (bL (by omega))
  .intro k hk
   try dsimp only
   unfold Dj;have hd:Int.fdiv (w:Int) (HPow.hPow (2:Int) (Min.min (Int.toNat (k:Int)) 64))=((w / 2^k:Nat):Int):=by rw[eD,Nat.min_eq_left (by omega),Int.fdiv_eq_ediv_of_nonneg _ (Int.pow_nonneg (by decide))];simp
   have hlt:w / 2^k<=w:=Nat.div_le_self _ _;have hb:(iQ (kv .u64 (Int.fdiv (w:Int) (HPow.hPow (2:Int) (Min.min (Int.toNat (k:Int)) 64))) (1:Int)) (1:Int))=decide (w / 2^k % 2=1):=by rw[hd];exact aho (by omega)
   have e:∀(a b:List Bool) (p q:Int),a=b->p=q->(some (.inl ((w:Int),((n:Int),(p,(a,()))))):Option (TL C9.σs⊕Out C4))=some (.inl ((w:Int),((n:Int),(q,(b,()))))):=by rintro _ _ _ _ rfl rfl;rfl
   refine ax (ar (show(k:Int)<(n:Int) by omega)) (ak (ar (by omega)) (ak (VK _ _ (by rw[qP];omega)) (e _ _ _ _ ?_ (bR (by omega) (by omega)))));rw[amS];exact congrArg (fun b:Bool=>gG w k++[b]) hb
  .try dsimp only
   unfold Dj;exact ag (au (by omega)) rfl
 show ND Fm Ny (w:Int) (n:Int)=_;unfold ND;exact ah hb (ah eL rfl)
abbrev aJ:=Int×Int×Unit
def kq(L:List aJ):Prop:=L.Pairwise (fun p q=>p.1<q.1)
def rd(M:List aJ)(k:Int):Int:=match M with|[]=>0|p::M=>match decide (p.1=k)with|true=>p.2.1|false=>rd M k
def oN(k v:Int)(M:List aJ):List aJ:=match M with|[]=>[(k,v,())]|p::M=>match decide (k<p.1)with|true=>(k,v,())::p::M|false=>match decide (p.1=k)with|true=>(k,v,())::M|false=>p::oN k v M
def nf(k:Int)(M:List aJ):List aJ:=match M with|[]=>[]|p::M=>match decide (p.1=k)with|true=>M|false=>p::nf k M
theorem vl:∀(M:List aJ) (k:Int),@nh (.int .u64) M k=rd M k
 |[],k=>rfl|p::M,k=>congrArg (fun z:Int=>match decide (p.1=k)with|true=>p.2.1|false=>z) (vl M k)
theorem N4(k v:Int):∀(M:List aJ),@iq (.int .u64) k v M=oN k v M
 |[]=>rfl|p::M=>congrArg (fun z:List aJ=>match decide (k<p.1)with|true=>(k,v,())::p::M|false=>match decide (p.1=k)with|true=>(k,v,())::M|false=>p::z) (N4 k v M)
theorem N5(k:Int):∀(M:List aJ),@j2 (.int .u64) k M=nf k M
 |[]=>rfl|p::M=>congrArg (fun z:List aJ=>match decide (p.1=k)with|true=>M|false=>p::z) (N5 k M)
def wr(L:List aJ)(a w:Int):List aJ:=if w=0 then nf a L else oN a w L
theorem Vo{L:List aJ}{a w:Int}(h:kq L):kq (wr L a w):=by
 unfold wr;split
 .exact N5 a L▸WE (σ:=.int .u64) (k:=a) h
 .exact N4 a w L▸QI (σ:=.int .u64) (k:=a) (v:=w) h
theorem mh(p:aJ)(M:List aJ)(a:Int):rd (p::M) a=if p.1=a then p.2.1 else rd M a:=by
 rw[rd];by_cases q:p.1=a
 .rw[bG q,if_pos q]
 .rw[cw q,if_neg q]
theorem aav(p:aJ)(M:List aJ)(a:Int):nf a (p::M)=if p.1=a then M else p::nf a M:=by
 rw[nf];by_cases q:p.1=a
 .rw[bG q,if_pos q]
 .rw[cw q,if_neg q]
theorem Ni(p:aJ)(M:List aJ)(a w:Int):oN a w (p::M)=if a<p.1 then(a,w,())::p::M else if p.1=a then(a,w,())::M else p::oN a w M:=by
 rw[oN];by_cases q:a<p.1
 .rw[bG q,if_pos q]
 .rw[cw q,if_neg q];by_cases r:p.1=a
  .rw[bG r,if_pos r]
  .rw[cw r,if_neg r]
theorem aba(a:Int):∀L:List aJ,(nf a L).length<=L.length
 |[]=>aS _|p::M=>by rw[aav];have:=aba a M;split<;>simp only[cp]<;>omega
theorem aa9(a w:Int):∀L:List aJ,(oN a w L).length<=L.length+1
 |[]=>aS _|p::M=>by
  rw[Ni];have:=aa9 a w M;split
  .simp only[cp];omega
  .split<;>simp only[cp]<;>omega
theorem ah1(L:List aJ)(a w:Int):(wr L a w).length<=L.length+1:=by unfold wr;have:=aba a L;have:=aa9 a w L;split<;>omega
