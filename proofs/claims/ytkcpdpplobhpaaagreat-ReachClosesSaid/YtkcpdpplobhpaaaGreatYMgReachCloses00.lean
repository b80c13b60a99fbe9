import Derived.Test.YtkcpdpplobhpaaaGreatYRi
set_option linter.unusedSectionVars false
set_option linter.unusedVariables false
set_option linter.unusedSimpArgs false
set_option linter.unnecessarySimpa false
section
namespace Go.Proofs.YtkcpdpplobhpaaaGreat.V
open Go Go.RowKit Go.Proofs.YtkcpdpplobhpaaaGreat.Pl
set_option maxRecDepth 10000
def lv(ν:Int->Bool)(l:Int):Bool:=Bool.xor (ν (l / 2)) (decide (l % 2=1))
def Cons(ν:Int->Bool)(A:List eH):Prop:=∀a∈A,ν a.var=(lv ν a.a&&lv ν a.b)
theorem Cons.of{ν:Int->Bool}{A B:List eH}(h:Cons ν (A++B)):Cons ν A:=fun a ha=>h a (List.mem_append_left _ ha)
section
variable(o b c:List Int)(m:List ab.T){s:Gk}{D:List Int}
def iM(l:List dx)(j:Nat):Int:=((l[j]?).map (·.next)).getD 0
end
structure yQ(n:av)(w bad:Nat):Prop where
 ok:Pl.cK n=0
 ins:n.aM=[]
 aa:n.aa=[]
 cons:n.constraints=[]
 vars:n.aw.map (·.var)=fr 0 w
 init:n.aw.map (·.init)=List.replicate w 0
 next:∀ν:Int->Bool,ν 0=false->Cons ν n.aL->∀i,i<w->lv ν (iM n.aw i)=Bool.xor (ν ((i+1:Nat):Int)) ((List.range i).all fun j=>ν ((j+1:Nat):Int))
 bh:∃z,n.bh=[z]/\∀ν:Int->Bool,ν 0=false->Cons ν n.aL->lv ν z=(List.range w).all fun j=>decide (ν ((j+1:Nat):Int)=decide (bad / 2^j % 2=1))
def iG(v:List Bool)(l:List (Int×Bool)):List Bool:=l.foldl (fun v p=>v.set p.1.toNat p.2) v
theorem qc:∀(l:List (Int×Bool)) (v:List Bool),(iG v l).length=v.length
 |[],v=>rfl|p::l,v=>by show(iG (v.set p.1.toNat p.2) l).length=_;rw[qc l,List.length_set]
theorem J8(v:List Bool)(l:List (Int×Bool))(p:Int×Bool):iG v (l++[p])=(iG v l).set p.1.toNat p.2:=by unfold iG;rw[List.foldl_append];rfl
def qw(n:av)(ls ins:List Bool):List Bool:=iG (iG (List.replicate (n.vars.toNat+1) false) (n.aM.zip ins)) ((n.aw.map (·.var)).zip ls)
def iT(n:av)(cs:List (List aO))(v:List Bool)(x:bA×bo):List Bool:=
 if x.1.rd=false then v.set (x.2.to.headD 0).toNat (cu (x.2.aS.getD 0 0) v&&cu (x.2.aS.getD 1 0) v)
 else iG v (x.2.to.zip (cX (rd (cs.getD x.1.mem []) (bG (x.2.aS.map (cu · v)))).toNat x.2.to.length))
theorem akJ(n:av)(cs:List (List aO))(v:List Bool)(x:bA×bo):(iT n cs v x).length=v.length:=by
 unfold iT;split
 .rw[List.length_set]
 .rw[qc]
def fB(n:av)(ls:List Bool)(cs:List (List aO))(ins:List Bool):List Bool:=(aU n n.vars.toNat).foldl (iT n cs) (qw n ls ins)
theorem Xw(n:av)(cs:List (List aO)):∀(l:List (bA×bo)) (v:List Bool),(l.foldl (iT n cs) v).length=v.length
 |[],v=>rfl|x::l,v=>by rw[List.foldl_cons,Xw n cs l,akJ]
theorem aj7(n:av)(ls ins:List Bool):(qw n ls ins).length=n.vars.toNat+1:=by unfold qw;rw[qc,qc,List.length_replicate]
structure mP(m:bB)(k:Nat)(c:List aO):Prop where
 jD:mi c
 len:c.length<=k
 at_:∀p∈c,0<=p.1/\p.1<2^m.addr.toNat
 wd:∀p∈c,0<p.2.1/\p.2.1<2^m.word.toNat
structure fW(n:av)(k:Nat)(ls:List Bool)(cs:List (List aO)):Prop where
 qT:ls.length=n.aw.length
 mA:cs.length=n.aa.length
 ok:∀(i:Nat) (m:bB) (c:List aO),n.aa[i]?=some m->cs[i]?=some c->mP m k c
theorem RJ(c:List aO)(a:Int):rd c a=0\/∃p∈c,rd c a=p.2.1:=by
 induction c with
 |nil=>exact .inl rfl|cons p c ih=>
  rw[KX];by_cases q:p.1=a
  .rw[if_pos q];exact .inr ⟨p,by simp,rfl⟩
  .rw[if_neg q];rcases ih with h|⟨r,hr,h⟩
   .exact .inl h
   .exact .inr ⟨r,by simp[hr],h⟩
theorem ae8{m:bB}{k:Nat}{c:List aO}(h:mP m k c)(hw:m.word<=64)(a:Int):0<=rd c a/\rd c a<18446744073709551616:=by
 rcases RJ c a with e|⟨p,hp,e⟩
 .omega
 .have:=h.wd p hp;have h2:(2:Int)^m.word.toNat<=2^64:=by
   have:=Nat.pow_le_pow_right (n:=2) (by decide) (show m.word.toNat<=64 by omega)
   exact_mod_cast this
  have h3:(2:Int)^64=18446744073709551616:=by decide
  omega
theorem ak2{n:av}{V:Nat}{x:bA×bo}(h:x∈aU n V):x∈n6 n:=by unfold aU at h;obtain⟨i,_,hx⟩:=List.mem_flatMap.1 h;exact(List.mem_filter.1 hx).1
theorem ak3{n:av}{V:Nat}(hs:cj n V):(aU n V).length<=9000000:=by have h:=(yH hs).len;unfold aU;have:=yU (fun(i:Nat)=>(n6 n).filter fun x=>decide (lk (lvl n V) x.2=(i:Int)+1)) (List.range (n6 n).length) 3000 (fun i _=>Nat.le_trans (List.length_filter_le _ _) h);rw[List.length_range]at this;have h2:(n6 n).length*3000<=3000*3000:=Nat.mul_le_mul_right _ h;omega
def bq(n:av)(cs:List (List aO)):List cW:=List.zipWith (fun(m:bB) (c:List aO)=>(m.addr,(m.word,(c,())))) n.aa cs
theorem vm{n:av}{cs:List (List aO)}(h:cs.length=n.aa.length):(bq n cs).length=n.aa.length:=by unfold bq;rw[List.length_zipWith];omega
theorem vq{n:av}{cs:List (List aO)}{i:Nat}{m:bB}{c:List aO}(h1:n.aa[i]?=some m)(h2:cs[i]?=some c):(bq n cs)[i]?=some (m.addr,(m.word,(c,()))):=by unfold bq;rw[List.getElem?_zipWith,h1,h2]
theorem als{u A:List Bool}{b:Bool}{off:Nat}(h:off+A.length<u.length):jg u off (A++[b])=(jg u off A).set (off+A.length) b:=by
 unfold jg;have hd:=qg (L:=u) (i:=off+A.length) h;have e:u.take off++(A++u.drop (off+A.length))=(u.take off++A)++u[off+A.length]::u.drop (off+A.length+1):=by rw[hd];simp
 rw[e,sE (by rw[List.length_append,List.length_take];omega)];simp[Nat.add_assoc]
theorem ady{u bs:List Bool}{off:Nat}(h:off+bs.length<=u.length):jg u off bs=iG u ((cL (off:Int) bs.length).zip bs):=by
 have hz:((cL (off:Int) bs.length).zip bs).length=bs.length:=by rw[List.length_zip,sW];omega
 have main:∀k,k<=bs.length->jg u off (bs.take k)=iG u (((cL (off:Int) bs.length).zip bs).take k):=by
  intro k
  induction k with
  |zero=>intro _;rw[List.take_zero,List.take_zero,YG];rfl|succ k ih=>
   intro hk;have h1:=List.getElem?_eq_getElem (l:=bs) (i:=k) (by omega);have h2:(cL (off:Int) bs.length)[k]?=some ((off:Int)+(k:Int)):=by unfold cL;rw[List.getElem?_map,List.getElem?_range (by omega)];rfl
   have h3:((cL (off:Int) bs.length).zip bs)[k]?=some ((off:Int)+(k:Int),bs[k]):=by rw[List.getElem?_zip_eq_some];exact⟨h2,h1⟩
   have hl:(bs.take k).length=k:=by rw[List.length_take];omega
   rw[Pl.df h1,Pl.df h3,J8,<-ih (by omega),als (by rw[hl];omega),hl];congr 1
 have:=main bs.length (Nat.le_refl _);rw[List.take_length]at this;rw[this,List.take_of_length_le (Nat.le_of_eq hz)]
theorem ak8(a ad w:Int)(M:List aO):tc (a,(ad,(w,(M,()))))=some (rd M a,(ad,(w,(M,())))):=by show Ns a ad w M=_;unfold Ns;exact congrArg (fun z:Int=>(some (z,(ad,(w,(M,())))):Option (Out wg))) (uc M a)
def mc{α:Type}(n:av)(ord:List (bA×bo))(ls:List Bool)(rs:List cW)(r:α):=nt n (ord.map (fun x=>cU x.1),(ls,(rs,r)))
section
variable{n:av}{V:Nat}(hs:cj n V)(ft:Fit n)
include hs
theorem alP(ord:List (bA×bo))(ls ins:List Bool)(rs:List cW)(v:List Bool)(hv:v.length=V+1)(hi:ins.length=n.aM.length) :
  Jg (ins,((ins.length:Int),((0:Int),mc n ord ls rs (v,()))))=some (mc n ord ls rs (iG v (n.aM.zip ins),())):=by
 have hl:=hs.lens.1;have hz:(n.aM.zip ins).length=n.aM.length:=by rw[List.length_zip];omega
 unfold Jg;delta dT;refine cP (fun k:Nat=>(ins,((ins.length:Int),((k:Int),mc n ord ls rs (iG v ((n.aM.zip ins).take k),()))))) n.aM.length rfl ?_ ?_ (bt (by omega))
 .intro k hk;have h1:=List.getElem?_eq_getElem hk;have h2:=List.getElem?_eq_getElem (l:=ins) (i:=k) (by omega);have h3:(n.aM.zip ins)[k]?=some (n.aM[k],ins[k]):=by rw[List.getElem?_zip_eq_some];exact⟨h1,h2⟩
  have hr:=hs.OB n.aM[k] (by unfold de;simp);have e:∀(a b:List Bool) (p q:Int),a=b->p=q->(some (.inl (ins,((ins.length:Int),(p,mc n ord ls rs (a,()))))):Option (TL zX.σs⊕Out zQ))=some (.inl (ins,((ins.length:Int),(q,mc n ord ls rs (b,()))))):=by rintro _ _ _ _ rfl rfl;rfl
  unfold mc nt
  try dsimp only
  unfold Ay;have g1:gt (.int .i64) n.aM (k:Int)=n.aM[k]:=bn (σ:=.int .i64) h1;refine ao (aj (show(k:Int)<(ins.length:Int) by omega)) (ak (aN ⟨by omega,by omega⟩) (ak (aN ⟨by omega,by omega⟩) (ak ?_ (e _ _ _ _ ?_ (bF (by omega) (by omega))))))
  .rw[g1];exact aN ⟨by omega,by rw[qc,hv];omega⟩
  .rw[Pl.df h3,J8,g1];have g2:gt .bool ins (k:Int)=ins[k]:=bn (σ:=.bool) h2;rw[g2];rfl
 .unfold mc nt
  try dsimp only
  unfold Ay;rw[<-hz,List.take_length,hz];exact af (au (show ¬(n.aM.length:Int)<(ins.length:Int) by omega)) rfl
theorem afY(ord:List (bA×bo))(ls:List Bool)(rs:List cW)(v:List Bool)(hv:v.length=V+1)(hi:ls.length=n.aw.length) :
  I5 ((ls.length:Int),((0:Int),mc n ord ls rs (v,())))=some (mc n ord ls rs (iG v ((n.aw.map (·.var)).zip ls),())):=by
 have hl:=hs.lens.2.1;have hz:((n.aw.map (·.var)).zip ls).length=n.aw.length:=by rw[List.length_zip,List.length_map];omega
 unfold I5;delta gN;refine cP (fun k:Nat=>((ls.length:Int),((k:Int),mc n ord ls rs (iG v (((n.aw.map (·.var)).zip ls).take k),())))) n.aw.length rfl ?_ ?_ (bt (by omega))
 .intro k hk;have h1:=List.getElem?_eq_getElem hk;have h1':(n.aw.map bK)[k]?=some (bK n.aw[k]):=by rw[List.getElem?_map,h1];rfl
  have h2:=List.getElem?_eq_getElem (l:=ls) (i:=k) (by omega);have h3:((n.aw.map (·.var)).zip ls)[k]?=some (n.aw[k].var,ls[k]):=by rw[List.getElem?_zip_eq_some,List.getElem?_map,h1];exact⟨rfl,h2⟩
  have hr:=hs.OB n.aw[k].var (by unfold de;simp only[List.mem_append];exact .inl (.inl (.inr (List.mem_map.2 ⟨_,List.getElem_mem hk,rfl⟩))));have e:∀(a b:List Bool) (p q:Int),a=b->p=q->(some (.inl ((ls.length:Int),(p,mc n ord ls rs (a,())))):Option (TL zT.σs⊕Out zO))=some (.inl ((ls.length:Int),(q,mc n ord ls rs (b,())))):=by rintro _ _ _ _ rfl rfl;rfl
  have hL:((n.aw.map bK).length:Int)=(n.aw.length:Int):=by rw[List.length_map]
  unfold mc nt
  try dsimp only
  unfold Aj;have g1:(gt ae (n.aw.map bK) (k:Int)).1=n.aw[k].var:=by rw[bn (σ:=ae) h1'];rfl
  refine ao (aj (show(k:Int)<(ls.length:Int) by omega)) (ak (aN ⟨by omega,by omega⟩) (ak (aN ⟨by omega,by omega⟩) (ak ?_ (e _ _ _ _ ?_ (bF (by omega) (by omega))))))
  .rw[g1];exact aN ⟨by omega,by rw[qc,hv];omega⟩
  .rw[Pl.df h3,J8,g1];have g2:gt .bool ls (k:Int)=ls[k]:=bn (σ:=.bool) h2;rw[g2];rfl
 .unfold mc nt
  try dsimp only
  unfold Aj;rw[<-hz,List.take_length,hz];exact af (au (show ¬(n.aw.length:Int)<(ls.length:Int) by omega)) rfl
include ft
theorem afZ{K:Nat}(hK:K<=5000)(ls:List Bool)(cs:List (List aO))(ok:fW n K ls cs)(v:List Bool)(hv:v.length=V+1) :
  I4 ((aU n V).map (fun x=>cU x.1),(((aU n V).length:Int),((0:Int),mc n (aU n V) ls (bq n cs) (v,()))))=some (mc n (aU n V) ls (bq n cs) ((aU n V).foldl (iT n cs) v,())):=by
 have hol:=ak3 hs;have h6:=yH hs;unfold I4;delta dT;refine cP (fun k:Nat=>((aU n V).map (fun x=>cU x.1),(((aU n V).length:Int),((k:Int),mc n (aU n V) ls (bq n cs) (((aU n V).take k).foldl (iT n cs) v,()))))) (aU n V).length rfl ?_ ?_ (bt (by omega))
 .intro k hk;have hx:=List.getElem?_eq_getElem hk;have hm:=ak2 (List.getElem_mem hk);have hst:((aU n V).take (k+1)).foldl (iT n cs) v=iT n cs (((aU n V).take k).foldl (iT n cs) v) (aU n V)[k]:=by rw[Pl.df hx,List.foldl_append];rfl
  have hlen:(((aU n V).take k).foldl (iT n cs) v).length=V+1:=by rw[Xw,hv]
  generalize ((aU n V).take k).foldl (iT n cs) v=u at hst hlen;have hx':((aU n V).map (fun x=>cU x.1))[k]?=some (cU (aU n V)[k].1):=by rw[List.getElem?_map,hx];rfl
  generalize (aU n V)[k]=x at hx' hm hst;have hi:=dr hx';have his:=Gb n hm;have hmI:x.2∈fb n:=by rw[<-sc];exact List.mem_map_of_mem hm
  have hg:gt ah ((aU n V).map (fun x=>cU x.1)) (k:Int)=cU x.1:=bn (σ:=ah) hx';have aT:aA (k:Int) (List.length ((aU n V).map (fun x=>cU x.1)))=true:=aN ⟨by omega,by omega⟩;have e:∀(a b:List Bool) (p q:Int) (R R':List cW),a=b->p=q->R=R'->(some (.inl ((aU n V).map (fun x=>cU x.1),(((aU n V).length:Int),(p,mc n (aU n V) ls R (a,()))))):Option (TL zS.σs⊕Out zN))=some (.inl ((aU n V).map (fun x=>cU x.1),(((aU n V).length:Int),(q,mc n (aU n V) ls R' (b,()))))):=by rintro _ _ _ _ _ _ rfl rfl rfl;rfl
  have hk1:IntKind.wrap .i64 ((k:Int)+(1:Int))=((k+1:Nat):Int):=bF (by omega) (by omega);rw[hst];unfold mc nt
  try dsimp only
  unfold Ah;rw[hg];refine ao (aj (show(k:Int)<((aU n V).length:Int) by omega)) (ak aT ?_);have hf:=h6.aS x hm;have hv2:=hs.v2;rcases his with⟨h,a,ha,hI⟩|⟨h,M,r,hM,hr,hI⟩
  .-- a gate
   have fu:x.2.to=[a.var]:=by rw[hI];rfl
   have hfr:x.2.aS=[a.a,a.b]:=by rw[hI];rfl
   have ra:=hf.2 a.a (by rw[hfr];simp);have rb:=hf.2 a.b (by rw[hfr];simp);have rv:=hs.lV hmI (v:=a.var) (by rw[fu];simp);have ha':(n.aL.map dg)[x.1.pos]?=some (dg a):=by rw[List.getElem?_map,ha];rfl
   have hal:=dr ha';have gA:gt ae (n.aL.map dg) (x.1.pos:Int)=dg a:=bn (σ:=ae) ha';have e0:js ((gt ae (n.aL.map dg) (x.1.pos:Int)).2.1,(u,()))=some (cu a.a u,()):=by rw[gA];exact qh a.a u (by omega)
   have e1:js ((gt ae (n.aL.map dg) (x.1.pos:Int)).2.2.1,(u,()))=some (cu a.b u,()):=by rw[gA];exact qh a.b u (by omega)
   have gv:(gt ae (n.aL.map dg) (x.1.pos:Int)).1=a.var:=by rw[gA];rfl
   have iv:aA (gt ae (n.aL.map dg) (x.1.pos:Int)).1 (List.length u)=true:=by rw[gv];exact aN ⟨by omega,by omega⟩
   have hn:iT n cs u x=u.set a.var.toNat (cu a.a u&&cu a.b u):=by unfold iT;rw[if_pos h,fu,hfr];rfl
   have ee:∀(p q:Int) (c d:Bool),p=q->c=d->List.set u (Int.toNat p) c=List.set u (Int.toNat q) d:=by rintro _ _ _ _ rfl rfl;rfl
   refine ao (show Bool.not x.1.rd=true by rw[h];rfl) (ak (show aA (x.1.pos:Int) (List.length (n.aL.map dg))=true from aN ⟨by omega,by omega⟩) (ag e0 ?_));cases hA:cu a.a u with
   |true=>refine ao rfl (ak (aj rfl) (ag e1 (ak iv (ak (aj rfl) (e _ _ _ _ _ _ ?_ hk1 rfl)))));rw[hn,hA];exact ee _ _ _ _ gv (by cases cu a.b u<;>rfl)
   |false=>refine af rfl (ak (aj rfl) (ak iv (e _ _ _ _ _ _ ?_ hk1 rfl)));rw[hn,hA];exact ee _ _ _ _ gv rfl
  .-- a port
   have hMm:=List.mem_of_getElem? hM;obtain⟨hm1,hm2,hm3,hm4,hm5,hm6,_⟩:=hs.aa M hMm;have hrm:=List.mem_of_getElem? hr;have fu:x.2.to=cL r.var M.word.toNat:=by rw[hI];rfl
   have hfr:x.2.aS=r.addr:=by rw[hI];rfl
   have hfl:=hm5 r hrm;have hml:=dr hM;have hcs:=ok.mA;have hcc:=List.getElem?_eq_getElem (l:=cs) (i:=x.1.mem) (by omega);have hcok:=ok.ok x.1.mem M cs[x.1.mem] hM hcc;have hM':(n.aa.map aq)[x.1.mem]?=some (aq M):=by rw[List.getElem?_map,hM];rfl
   have hR':(M.reads.map dv)[x.1.pos]?=some (dv r):=by rw[List.getElem?_map,hr];rfl
   have hrl:=dr hR';have gM:gt ab (n.aa.map aq) (x.1.mem:Int)=aq M:=bn (σ:=ab) hM';have gR:gt bL (gt ab (n.aa.map aq) (x.1.mem:Int)).2.2.2.1 (x.1.pos:Int)=dv r:=by rw[gM];exact bn (σ:=bL) hR'
   obtain⟨W,hW⟩:=Int.eq_ofNat_of_zero_le (show 0<=M.word by omega);have htl:x.2.to.length=W:=by rw[fu,sW,hW];rfl
   have rv0:=hs.lV hmI (v:=r.var) (by rw[fu];unfold cL;exact List.mem_map.2 ⟨0,List.mem_range.2 (by omega),by simp⟩);have rv1:=hs.lV hmI (v:=r.var+((W-1:Nat):Int)) (by rw[fu];unfold cL;exact List.mem_map.2 ⟨W-1,List.mem_range.2 (by omega),rfl⟩);obtain⟨p,hp⟩:=Int.eq_ofNat_of_zero_le (show 0<=r.var by omega);have e2:qd ((gt bL (gt ab (n.aa.map aq) (x.1.mem:Int)).2.2.2.1 (x.1.pos:Int)).2.1,(u,()))=some ((bG (x.2.aS.map (cu · u)):Int),()):=by rw[gR,hfr];exact KJ r.addr u (by omega) (fun l hl=>by have:=hf.2 l (by rw[hfr];exact hl);omega)
   have hra:=vq (n:=n) (cs:=cs) hM hcc;have hrd:List.getD (bq n cs) (Int.toNat (x.1.mem:Int)) zR=(M.addr,(M.word,(cs[x.1.mem],()))):=by rw[List.getD_eq_getElem?_getD,Int.toNat_natCast,hra];rfl
   have e1:tc ((bG (x.2.aS.map (cu · u)):Int),((List.getD (bq n cs) (Int.toNat (x.1.mem:Int)) zR).1,((List.getD (bq n cs) (Int.toNat (x.1.mem:Int)) zR).2.1,((List.getD (bq n cs) (Int.toNat (x.1.mem:Int)) zR).2.2.1,()))))=some (rd cs[x.1.mem] (bG (x.2.aS.map (cu · u))),(M.addr,(M.word,(cs[x.1.mem],())))):=by rw[hrd];exact ak8 _ _ _ _
   have hrr:=ae8 hcok (by omega) (bG (x.2.aS.map (cu · u)));obtain⟨q,hq⟩:=Int.eq_ofNat_of_zero_le hrr.1;have e0:l9 (rd cs[x.1.mem] (bG (x.2.aS.map (cu · u))),((gt ab (n.aa.map aq) (x.1.mem:Int)).2.1,()))=some (cX q W,()):=by
    have gw:(gt ab (n.aa.map aq) (x.1.mem:Int)).2.1=M.word:=by rw[gM];rfl
    rw[gw,hq,hW];exact tW q W (by omega) (by omega)
   have hn:iT n cs u x=iG u (x.2.to.zip (cX q W)):=by unfold iT;rw[if_neg (by rw[h];simp),List.getD_eq_getElem?_getD,hcc,htl];show iG u (x.2.to.zip (cX (rd cs[x.1.mem] _).toNat W))=_;rw[hq];rfl
   have gvr:(gt bL (gt ab (n.aa.map aq) (x.1.mem:Int)).2.2.2.1 (x.1.pos:Int)).1=(p:Int):=by rw[gR,<-hp];rfl
   have hcp:jg u p (List.take (u.length-p) (cX q W))=iT n cs u x:=by rw[List.take_of_length_le (by rw[kX];omega),hn,ady (by rw[kX];omega),kX,fu,hp,hW];rfl
   have hset:List.set (bq n cs) (Int.toNat (x.1.mem:Int)) (M.addr,(M.word,(cs[x.1.mem],())))=bq n cs:=by rw[Int.toNat_natCast];have hlt:=dr hra;rw[List.getElem?_eq_getElem hlt]at hra;injection hra with hra;rw[<-hra];exact List.set_getElem_self hlt
   have hb:∀y:Int,y=(p:Int)->both (iE (0:Int) y) (iE y (Int.ofNat (List.length u)))=true:=by rintro _ rfl;show both (decide _) (decide _)=true;rw[decide_eq_true (by omega),decide_eq_true (by show(p:Int)<=(u.length:Int);omega)];rfl
   have ee:∀(y:Int),y=(p:Int)->jg u (Int.toNat y) (List.take (u.length-Int.toNat y) (cX q W))=iT n cs u x:=by rintro _ rfl;rw[Int.toNat_natCast];exact hcp
   refine af (show Bool.not x.1.rd=false by rw[h];rfl) (ak (show aA (x.1.mem:Int) (List.length (n.aa.map aq))=true from aN ⟨by omega,by rw[List.length_map];omega⟩) (ak (show aA (x.1.pos:Int) (List.length (gt ab (n.aa.map aq) (x.1.mem:Int)).2.2.2.1)=true by rw[gM];exact aN ⟨by omega,by show _<((M.reads.map dv).length:Int);omega⟩)
    (ak (show aA (x.1.mem:Int) (List.length (bq n cs))=true from aN ⟨by omega,by rw[vm ok.mA];omega⟩) (ag e2 (ag e1 (ak (hb _ gvr) (ag e0 (e _ _ _ _ _ _ (ee _ gvr) hk1 hset))))))))
 .unfold mc nt
  try dsimp only
  unfold Ah;rw[List.take_length];exact af (au (show ¬((aU n V).length:Int)<((aU n V).length:Int) by omega)) rfl
theorem ak6{K:Nat}(hK:K<=5000)(ls ins:List Bool)(cs:List (List aO))(ok:fW n K ls cs)(hi:ins.length=n.aM.length) :
  Wy (ins,mc n (aU n V) ls (bq n cs) ())=some ((0:Int),mc n (aU n V) ls (bq n cs) (fB n ls cs ins,())):=by
 have hv2:=hs.v2;have hV:n.vars.toNat=V:=by rw[hs.vars];rfl
 have hw:IntKind.wrap (.i64:IntKind) (n.vars+1)=((V+1:Nat):Int):=by rw[hs.vars,bJ (by omega)];omega
 have e5:=alP hs (aU n V) ls ins (bq n cs) (List.replicate (V+1) false) (by simp) hi;have e10:=afY hs (aU n V) ls (bq n cs) (iG (List.replicate (V+1) false) (n.aM.zip ins)) (by rw[qc];simp) ok.qT;have hval:iG (iG (List.replicate (V+1) false) (n.aM.zip ins)) ((n.aw.map (·.var)).zip ls)=qw n ls ins:=by unfold qw;rw[hV]
 rw[hval]at e10;have e16:=afZ hs ft hK ls cs ok (qw n ls ins) (by rw[aj7,hV]);have hfin:(aU n V).foldl (iT n cs) (qw n ls ins)=fB n ls cs ins:=by unfold fB;rw[hV]
 rw[hfin]at e16;have hol:((aU n V).length:Int)=((((aU n V).map (fun x=>cU x.1)).length:Nat):Int):=by rw[List.length_map]
 rw[hol]at e16;show Jo js l9 qd tc Jg I5 I4 ins n.vars n.aM (n.aw.map bK) n.bI n.bh n.constraints (n.aa.map aq) (n.aL.map dg) ((aU n V).map (fun x=>cU x.1)) ls (bq n cs)=_;unfold Jo;have q1:(iQ (Int.ofNat (List.length ins)) (Int.ofNat (List.length n.aM)))=true:=aj (by rw[hi]);rw[hw];refine af (by rw[q1];rfl) (ak (by show both (decide _) (both (decide _) (decide _))=true;rw[decide_eq_true (by omega),decide_eq_true (by omega),decide_eq_true (by show(1:Int)*_<=_;omega)];rfl) (ag e5 (ag e10 (ag e16 rfl))))
end
def nE(v:List Bool)(c:List aO)(w:mw):List aO:=if cu w.on v=true then wr c (bG (w.addr.map (cu · v))) (bG (w.data.map (cu · v)))else c
def rI(v:List Bool)(m:bB)(c:List aO):List aO:=m.writes.foldl (nE v) c
def gk(n:av)(v:List Bool):List Bool:=n.aw.map fun l=>cu l.next v
def gV(n:av)(cs:List (List aO))(v:List Bool):List (List aO):=List.zipWith (rI v) n.aa cs
def jF(n:av)(v:List Bool):List Bool:=n.bh.map (cu · v)
def kO(n:av)(v:List Bool):Bool:=n.constraints.all (cu · v)
theorem YI{a:Int}{q:aO}:∀{L:List aO},q∈oT a L->q∈L
 |[],h=>h|p::M,h=>by
  rw[XF]at h;split at h
  .simp[h]
  .rcases List.mem_cons.1 h with h|h
   .simp[h]
   .simp[YI h]
theorem YH{a w:Int}{q:aO}:∀{L:List aO},q∈oU a w L->q=(a,w,())\/q∈L
 |[],h=>by have:q∈[((a,w,()):aO)]:=h;simp at this;exact .inl this|p::M,h=>by
  rw[Xz]at h;split at h
  .rcases List.mem_cons.1 h with h|h
   .exact .inl h
   .exact .inr h
  .split at h
   .rcases List.mem_cons.1 h with h|h
    .exact .inl h
    .exact .inr (by simp[h])
   .rcases List.mem_cons.1 h with h|h
    .exact .inr (by simp[h])
    .rcases YH h with h|h
     .exact .inl h
     .exact .inr (by simp[h])
theorem RU{a w:Int}{q:aO}{L:List aO}(h:q∈wr L a w):(w≠0/\q=(a,w,()))\/q∈L:=by
 unfold wr at h;split at h
 .exact .inr (YI h)
 .rename_i h0;rcases YH h with h|h
  .exact .inl ⟨h0,h⟩
  .exact .inr h
theorem Bv{l:List Bool}{k:Int}(h:(l.length:Int)=k):((bG l:Nat):Int)<2^k.toNat:=by
 have e:k.toNat=l.length:=by omega
 have:=kZ l;rw[e]
 exact_mod_cast this
theorem afo{m:bB}{k:Nat}{c:List aO}{v:List Bool}{w:mw}(h:mP m k c)(ha:(w.addr.length:Int)=m.addr)(hd:(w.data.length:Int)=m.word):mP m (k+1) (nE v c w):=by
 unfold nE;split
 .refine⟨afq h.jD,Nat.le_trans (afp _ _ _) (by have:=h.len;omega),fun p hp=>?_,fun p hp=>?_⟩
  .rcases RU hp with⟨h0,rfl⟩|hp
   .exact⟨by show(0:Int)<=((bG _:Nat):Int);omega,Bv (by rw[List.length_map];exact ha)⟩
   .exact h.at_ p hp
  .rcases RU hp with⟨h0,rfl⟩|hp
   .exact⟨by show(0:Int)<((bG _:Nat):Int);omega,Bv (by rw[List.length_map];exact hd)⟩
   .exact h.wd p hp
 .exact⟨h.jD,by have:=h.len;omega,h.at_,h.wd⟩
theorem Yt{m:bB}{v:List Bool}:∀{l:List mw}{k:Nat}{c:List aO},mP m k c->(∀w∈l,(w.addr.length:Int)=m.addr/\(w.data.length:Int)=m.word)->mP m (k+l.length) (l.foldl (nE v) c)
 |[],k,c,h,_=>h|w::l,k,c,h,hw=>by have:=Yt (v:=v) (l:=l) (afo (v:=v) h (hw w (by simp)).1 (hw w (by simp)).2) (fun x hx=>hw x (by simp[hx]));rw[List.foldl_cons,List.length_cons];rw[show k+1+l.length=k+(l.length+1) by omega]at this;exact this
theorem BC{n:av}{V:Nat}(hs:cj n V){K:Nat}{ls:List Bool}{cs:List (List aO)}(ok:fW n K ls cs)(v:List Bool):fW n (K+4) (gk n v) (gV n cs v):=by
 refine⟨by unfold gk;rw[List.length_map],by unfold gV;rw[List.length_zipWith];have:=ok.mA;omega,fun i m c hm hc=>?_⟩;unfold gV at hc;rw[List.getElem?_zipWith,hm]at hc;have hlt:=dr hm;have hlc:i<cs.length:=by have:=ok.mA;omega
 have h2:=List.getElem?_eq_getElem hlc;rw[h2]at hc;injection hc with hc;obtain⟨_,_,_,_,_,h6,_,h8⟩:=hs.aa m (List.mem_of_getElem? hm);have:=Yt (v:=v) (ok.ok i m cs[i] hm h2) h6;rw[<-hc];exact⟨this.jD,by have:=this.len;unfold rI;omega,this.at_,this.wd⟩
section
variable{n:av}{V:Nat}(hs:cj n V)
include hs
theorem sd{l:Int}(h:l∈dm n):l<9223372036854775808:=by have:=hs.lits l h;have:=hs.v2;omega
theorem akI{m:bB}{w:mw}(hm:m∈n.aa)(hw:w∈m.writes):w.on<9223372036854775808/\(∀l∈w.addr,l<9223372036854775808)/\∀l∈w.data,l<9223372036854775808:=by
 have aT:∀l∈oK w,l∈dm n:=fun l hl=>by unfold dm;simp only[List.mem_append];refine .inl (.inr (List.mem_flatMap.2 ⟨m,hm,?_⟩));unfold mV;rw[List.mem_append];exact .inr (List.mem_flatMap.2 ⟨w,hw,hl⟩)
 exact⟨sd hs (aT _ (by unfold oK;simp)),fun l hl=>sd hs (aT _ (by unfold oK;simp[hl])),fun l hl=>sd hs (aT _ (by unfold oK;simp[hl]))⟩
end
theorem BD{x k:Int}(h0:0<=x)(h:x<2^k.toNat):iw x k=true:=by unfold iw;rw[decide_eq_true (Int.ediv_eq_zero_of_lt h0 h)]
theorem akT{m:bB}{a w:Nat}{M:List aO}(m1:1<=m.addr/\m.addr<=62)(m2:1<=m.word/\m.word<=64)(ha:(a:Int)<2^m.addr.toNat)(hw:(w:Int)<2^m.word.toNat) :
  NR ((a:Int),((w:Int),(m.addr,(m.word,(M,())))))=some (true,(m.addr,(m.word,(wr M a w,())))):=by
 have f1:=tp (v:=(a:Int)) (w:=m.addr) ⟨by omega,by omega⟩;have f2:=tp (v:=(w:Int)) (w:=m.word) ⟨by omega,by omega⟩;rw[BD (by omega) ha]at f1;rw[BD (by omega) hw]at f2;show Nq C9 (a:Int) (w:Int) m.addr m.word M=_;unfold Nq;have e:∀A B:List aO,A=B->(some (true,(m.addr,(m.word,(A,())))):Option (Out Da))=some (true,(m.addr,(m.word,(B,())))):=by rintro _ _ rfl;rfl
 refine ag f1 (af rfl (ag f2 (af rfl ?_)));unfold wr;by_cases h0:(w:Int)=0
 .rw[if_pos h0];exact ao (aj h0) (e _ _ (KZ _ _))
 .rw[if_neg h0];exact af (au h0) (e _ _ (KY _ _ _))
section
variable{n:av}{V:Nat}(hs:cj n V)
include hs
theorem adr(ord:List (bA×bo))(ls:List Bool)(rs:List cW)(v:List Bool){i K:Nat}{m:bB}{c:List aO}(hm:n.aa[i]?=some m)(hc:mP m K c)(hK:K<=5000)(hr:i<rs.length) :
  Jm ((i:Int),(m.writes.map dI,((m.writes.length:Int),((0:Int),mc n ord ls (rs.set i (m.addr,(m.word,(c,())))) (v,())))))=some (mc n ord ls (rs.set i (m.addr,(m.word,(rI v m c,())))) (v,())):=by
 have hmm:=List.mem_of_getElem? hm;obtain⟨m1,m2,m3,m4,_,h6,_,h8⟩:=hs.aa m hmm;unfold Jm;delta u16;refine cP (fun k:Nat=>((i:Int),(m.writes.map dI,((m.writes.length:Int),((k:Int),mc n ord ls (rs.set i (m.addr,(m.word,((m.writes.take k).foldl (nE v) c,())))) (v,())))))) m.writes.length rfl ?_ ?_ (bt (by omega))
 .intro k hk;have hx:=List.getElem?_eq_getElem hk;have hwm:=List.getElem_mem hk;have hst:(m.writes.take (k+1)).foldl (nE v) c=nE v ((m.writes.take k).foldl (nE v) c) m.writes[k]:=by rw[Pl.df hx,List.foldl_append];rfl
  rw[hst];generalize (m.writes.take k).foldl (nE v) c=u;obtain⟨l1,l2,l3⟩:=akI hs hmm hwm;obtain⟨a1,a2⟩:=h6 _ hwm;have hw':(m.writes.map dI)[k]?=some (dI m.writes[k]):=by rw[List.getElem?_map,hx];rfl
  have hwl:=dr hw';generalize m.writes[k]=w at l1 l2 l3 a1 a2 hw';have gW:gt bD (m.writes.map dI) (k:Int)=dI w:=bn (σ:=bD) hw';have e0:js ((gt bD (m.writes.map dI) (k:Int)).1,(v,()))=some (cu w.on v,()):=by rw[gW];exact qh w.on v l1
  have e1:qd ((gt bD (m.writes.map dI) (k:Int)).2.1,(v,()))=some ((bG (w.addr.map (cu · v)):Int),()):=by rw[gW];exact KJ w.addr v (by omega) l2
  have e2:qd ((gt bD (m.writes.map dI) (k:Int)).2.2.1,(v,()))=some ((bG (w.data.map (cu · v)):Int),()):=by rw[gW];exact KJ w.data v (by omega) l3
  have hg:List.getD (rs.set i (m.addr,(m.word,(u,())))) (Int.toNat (i:Int)) zR=(m.addr,(m.word,(u,()))):=by rw[List.getD_eq_getElem?_getD,Int.toNat_natCast,List.getElem?_set_self hr];rfl
  have e3:NR ((bG (w.addr.map (cu · v)):Int),((bG (w.data.map (cu · v)):Int),((List.getD (rs.set i (m.addr,(m.word,(u,())))) (Int.toNat (i:Int)) zR).1,((List.getD (rs.set i (m.addr,(m.word,(u,())))) (Int.toNat (i:Int)) zR).2.1,((List.getD (rs.set i (m.addr,(m.word,(u,())))) (Int.toNat (i:Int)) zR).2.2.1,())))))=some (true,(m.addr,(m.word,(wr u (bG (w.addr.map (cu · v))) (bG (w.data.map (cu · v))),())))):=by rw[hg];exact akT ⟨m1,m2⟩ ⟨m3,m4⟩ (Bv (by rw[List.length_map];exact a1)) (Bv (by rw[List.length_map];exact a2))
  have e:∀(A B:List cW) (p q:Int),A=B->p=q->(some (.inl ((i:Int),(m.writes.map dI,((m.writes.length:Int),(p,mc n ord ls A (v,())))))):Option (TL Ag.σs⊕Out zW))=some (.inl ((i:Int),(m.writes.map dI,((m.writes.length:Int),(q,mc n ord ls B (v,())))))):=by rintro _ _ _ _ rfl rfl;rfl
  unfold mc nt
  try dsimp only
  unfold AD;refine ao (aj (show(k:Int)<(m.writes.length:Int) by omega)) (ak (aN ⟨by omega,by omega⟩) (ag e0 ?_));unfold nE;cases hon:cu w.on v with|true=>rw[if_pos rfl];refine ao rfl (ag e1 (ag e2 (ag e3 (e _ _ _ _ ?_ (bF (by omega) (by omega))))));exact List.set_set _|false=>rw[if_neg (by simp)];exact af rfl (e _ _ _ _ rfl (bF (by omega) (by omega)))
 .unfold mc nt
  try dsimp only
  unfold AD;rw[List.take_length];exact af (au (show ¬(m.writes.length:Int)<(m.writes.length:Int) by omega)) rfl
theorem alf(ord:List (bA×bo))(ls:List Bool)(rs:List cW)(v:List Bool){i K:Nat}{m:bB}{c:List aO}(hm:n.aa[i]?=some m)(hc:mP m K c)(hK:K<=5000)(hr:rs[i]?=some (m.addr,(m.word,(c,())))) :
  WL ((i:Int),mc n ord ls rs (v,()))=some (mc n ord ls (rs.set i (m.addr,(m.word,(rI v m c,())))) (v,())):=by
 have hm':(n.aa.map aq)[i]?=some (aq m):=by rw[List.getElem?_map,hm];rfl
 have hi:=dr hm';have hri:=dr hr;have hset:rs.set i (m.addr,(m.word,(c,())))=rs:=by rw[List.getElem?_eq_getElem hri]at hr;injection hr with hr;rw[<-hr];exact List.set_getElem_self hri
 have e2:=adr hs ord ls rs v hm hc hK hri;rw[hset]at e2;have gM:gt ab (n.aa.map aq) (i:Int)=aq m:=bn (σ:=ab) hm';have hwl:((gt ab (n.aa.map aq) (i:Int)).2.2.2.2.1)=m.writes.map dI:=by rw[gM];rfl
 have ee:∀(L:List bD.T),L=m.writes.map dI->Jm ((Int.ofNat (Int.toNat (i:Int))),(L,((Int.ofNat L.length),((0:Int),mc n ord ls rs (v,())))))=some (mc n ord ls (rs.set i (m.addr,(m.word,(rI v m c,())))) (v,())):=by
  rintro _ rfl;have hl:Int.ofNat (m.writes.map dI).length=(m.writes.length:Int):=by rw[List.length_map];rfl
  rw[hl];exact e2
 exact ak (show aA (i:Int) (List.length rs)=true from aN ⟨by omega,by omega⟩) (ak (show aA (i:Int) (List.length (n.aa.map aq))=true from aN ⟨by omega,by omega⟩) (ag (ee _ hwl) rfl))
theorem aen(ord:List (bA×bo))(ls:List Bool)(rs:List cW)(v:List Bool) :
  Xe (n.constraints,((n.constraints.length:Int),((0:Int),mc n ord ls rs (true,(v,())))))=some (mc n ord ls rs (kO n v,(v,()))):=by
 have hl:=hs.lens.2.2.2.1;unfold Xe;delta u16;refine cP (fun k:Nat=>(n.constraints,((n.constraints.length:Int),((k:Int),mc n ord ls rs ((n.constraints.take k).all (cu · v),(v,())))))) n.constraints.length rfl ?_ ?_ (bt (by omega))
 .intro k hk;have hx:=List.getElem?_eq_getElem hk;have hm:n.constraints[k]∈dm n:=by unfold dm;simp only[List.mem_append];exact .inl (.inl (.inr (List.getElem_mem hk)))
  have e1:js (gt (.int .i64) n.constraints (k:Int),(v,()))=some (cu n.constraints[k] v,()):=by rw[bn (σ:=.int .i64) hx];exact qh _ _ (sd hs hm)
  have ht:(n.constraints.take (k+1)).all (cu · v)=((n.constraints.take k).all (cu · v)&&cu n.constraints[k] v):=by rw[Pl.df hx,List.all_append];simp
  have e:∀(a b:Bool) (p q:Int),a=b->p=q->(some (.inl (n.constraints,((n.constraints.length:Int),(p,mc n ord ls rs (a,(v,())))))):Option (TL Az.σs⊕Out Ak))=some (.inl (n.constraints,((n.constraints.length:Int),(q,mc n ord ls rs (b,(v,())))))):=by rintro _ _ _ _ rfl rfl;rfl
  rw[ht];unfold mc nt
  try dsimp only
  unfold AN;refine ao (aj (show(k:Int)<(n.constraints.length:Int) by omega)) (ak (aN ⟨by omega,by omega⟩) ?_);cases(n.constraints.take k).all (cu · v)with
  |true=>exact ao rfl (ag e1 (e _ _ _ _ (by cases cu n.constraints[k] v<;>rfl) (bF (by omega) (by omega))))
  |false=>exact af rfl (e _ _ _ _ rfl (bF (by omega) (by omega)))
 .unfold mc nt
  try dsimp only
  unfold AN;rw[List.take_length];exact af (au (show ¬(n.constraints.length:Int)<(n.constraints.length:Int) by omega)) rfl
theorem ade(ord:List (bA×bo))(ls:List Bool)(rs:List cW)(f:Bool)(v:List Bool) :
  WX (n.bh,((n.bh.length:Int),((0:Int),mc n ord ls rs (f,([],(v,()))))))=some (mc n ord ls rs (f,(jF n v,(v,())))):=by
 have hl:=hs.lens.2.2.2.1;unfold WX;delta mF;refine cP (fun k:Nat=>(n.bh,((n.bh.length:Int),((k:Int),mc n ord ls rs (f,((n.bh.take k).map (cu · v),(v,()))))))) n.bh.length rfl ?_ ?_ (bt (by omega))
 .intro k hk;have hx:=List.getElem?_eq_getElem hk;have hm:n.bh[k]∈dm n:=by unfold dm;simp only[List.mem_append];exact .inl (.inl (.inl (.inr (List.getElem_mem hk))))
  have e1:js (gt (.int .i64) n.bh (k:Int),(v,()))=some (cu n.bh[k] v,()):=by rw[bn (σ:=.int .i64) hx];exact qh _ _ (sd hs hm)
  have ht:(n.bh.take (k+1)).map (cu · v)=(n.bh.take k).map (cu · v)++[cu n.bh[k] v]:=by rw[Pl.df hx,List.map_append];rfl
  have e:∀(a b:List Bool) (p q:Int),a=b->p=q->(some (.inl (n.bh,((n.bh.length:Int),(p,mc n ord ls rs (f,(a,(v,()))))))):Option (TL Ar.σs⊕Out z6))=some (.inl (n.bh,((n.bh.length:Int),(q,mc n ord ls rs (f,(b,(v,()))))))):=by rintro _ _ _ _ rfl rfl;rfl
  unfold mc nt
  try dsimp only
  unfold AG;exact ao (aj (show(k:Int)<(n.bh.length:Int) by omega)) (ak (aN ⟨by omega,by omega⟩) (ag e1 (ak (Ge _ _ (by rw[List.length_map,List.length_take];omega)) (e _ _ _ _ ht.symm (bF (by omega) (by omega))))))
 .unfold mc nt
  try dsimp only
  unfold AG;rw[List.take_length];exact af (au (show ¬(n.bh.length:Int)<(n.bh.length:Int) by omega)) rfl
theorem YK{α:Type}{A B:List α}{k:Nat}{x:α}(hA:A[k]?=some x)(hB:k<B.length):(A.take k++B.drop k).set k x=A.take (k+1)++B.drop (k+1):=by have hk:=(List.getElem?_eq_some_iff.1 hA).1;rw[qg hB,sE (by rw[List.length_take];omega),Pl.df hA];simp
theorem adf(ord:List (bA×bo))(ls:List Bool)(rs:List cW)(f:Bool)(bs v:List Bool)(hls:ls.length=n.aw.length) :
  WW (n.aw.map bK,(((n.aw.map bK).length:Int),((0:Int),mc n ord ls rs (f,(bs,(v,()))))))=some (mc n ord (gk n v) rs (f,(bs,(v,())))):=by
 have hl:=hs.lens.2.1;have hL:((n.aw.map bK).length:Int)=(n.aw.length:Int):=by rw[List.length_map]
 have hnl:(gk n v).length=n.aw.length:=by unfold gk;rw[List.length_map]
 unfold WW;delta mF;refine cP (fun k:Nat=>(n.aw.map bK,(((n.aw.map bK).length:Int),((k:Int),mc n ord ((gk n v).take k++ls.drop k) rs (f,(bs,(v,()))))))) n.aw.length rfl ?_ ?_ (bt (by omega))
 .intro k hk;have hx:=List.getElem?_eq_getElem hk;have hx':(n.aw.map bK)[k]?=some (bK n.aw[k]):=by rw[List.getElem?_map,hx];rfl
  have hn:(gk n v)[k]?=some (cu n.aw[k].next v):=by unfold gk;rw[List.getElem?_map,hx];rfl
  have hm:n.aw[k].next∈dm n:=by unfold dm;simp only[List.mem_append];exact .inl (.inl (.inl (.inl (.inl (List.mem_map.2 ⟨_,List.getElem_mem hk,rfl⟩)))))
  have e1:js ((gt ae (n.aw.map bK) (k:Int)).2.1,(v,()))=some (cu n.aw[k].next v,()):=by rw[bn (σ:=ae) hx'];exact qh n.aw[k].next v (sd hs hm)
  have hmix:((gk n v).take k++ls.drop k).set k (cu n.aw[k].next v)=(gk n v).take (k+1)++ls.drop (k+1):=YK hs hn (by omega);have hml:((gk n v).take k++ls.drop k).length=n.aw.length:=by rw[List.length_append,List.length_take,List.length_drop];omega
  have e:∀(a b:List Bool) (p q:Int),a=b->p=q->(some (.inl (n.aw.map bK,(((n.aw.map bK).length:Int),(p,mc n ord a rs (f,(bs,(v,()))))))):Option (TL Aq.σs⊕Out zZ))=some (.inl (n.aw.map bK,(((n.aw.map bK).length:Int),(q,mc n ord b rs (f,(bs,(v,()))))))):=by rintro _ _ _ _ rfl rfl;rfl
  unfold mc nt
  try dsimp only
  unfold AF;exact ao (aj (show(k:Int)<((n.aw.map bK).length:Int) by omega)) (ak (aN ⟨by omega,by omega⟩) (ag e1 (ak (aN ⟨by omega,by omega⟩) (e _ _ _ _ hmix (bF (by omega) (by omega))))))
 .have hfin:(gk n v).take n.aw.length++ls.drop n.aw.length=gk n v:=by rw[List.drop_eq_nil_of_le (by omega),List.append_nil,List.take_of_length_le (by omega)]
  rw[hfin];unfold mc nt
  try dsimp only
  unfold AF;exact af (au (show ¬(n.aw.length:Int)<((n.aw.map bK).length:Int) by omega)) rfl
theorem adg(ord:List (bA×bo))(ls nl:List Bool)(cs:List (List aO)){K:Nat}(hK:K<=5000)(ok:fW n K ls cs)(f:Bool)(bs v:List Bool) :
  WU (((bq n cs).length:Int),((0:Int),mc n ord nl (bq n cs) (f,(bs,(v,())))))=some (mc n ord nl (bq n (gV n cs v)) (f,(bs,()))):=by
 have hM:=hs.lens.2.2.2.2;have hcl:=ok.mA;have hz:(gV n cs v).length=n.aa.length:=by unfold gV;rw[List.length_zipWith];omega
 have hr1:=vm hcl;have hr2:=vm hz;unfold WU;delta u16;refine cP (fun k:Nat=>(((bq n cs).length:Int),((k:Int),mc n ord nl ((bq n (gV n cs v)).take k++(bq n cs).drop k) (f,(bs,(v,())))))) n.aa.length rfl ?_ ?_ (bt (by omega))
 .intro k hk;have hx:=List.getElem?_eq_getElem hk;have hkc:k<cs.length:=by omega
  have hy:=List.getElem?_eq_getElem hkc;have hn:(gV n cs v)[k]?=some (rI v n.aa[k] cs[k]):=by unfold gV;rw[List.getElem?_zipWith,hx,hy]
  have ha:=vq hx hy;have hb:=vq hx hn;have hmid:((bq n (gV n cs v)).take k++(bq n cs).drop k)[k]?=some (n.aa[k].addr,(n.aa[k].word,(cs[k],()))):=by rw[List.getElem?_append_right (by rw[List.length_take];omega),List.length_take,Nat.min_eq_left (by omega),Nat.sub_self,List.getElem?_drop];exact ha
  have ew:=alf hs ord nl ((bq n (gV n cs v)).take k++(bq n cs).drop k) v hx (ok.ok k _ _ hx hy) hK hmid;rw[YK hs hb (by omega)]at ew;have e:∀(p q:Int) (R:List cW),p=q->(some (.inl (((bq n cs).length:Int),(p,mc n ord nl R (f,(bs,(v,())))))):Option (TL Ap.σs⊕Out zY))=some (.inl (((bq n cs).length:Int),(q,mc n ord nl R (f,(bs,(v,())))))):=by rintro _ _ _ rfl;rfl
  unfold mc nt
  try dsimp only
  unfold AE;exact ao (aj (show(k:Int)<((bq n cs).length:Int) by omega)) (ag ew (e _ _ _ (bF (by omega) (by omega))))
 .have hfin:(bq n (gV n cs v)).take n.aa.length++(bq n cs).drop n.aa.length=bq n (gV n cs v):=by rw[List.drop_eq_nil_of_le (by omega),List.append_nil,List.take_of_length_le (by omega)]
  rw[hfin];unfold mc nt
  try dsimp only
  unfold AE;exact af (au (show ¬(n.aa.length:Int)<((bq n cs).length:Int) by omega)) rfl
theorem QU(ft:Fit n){K:Nat}(hK:K<=5000)(ls ins:List Bool)(cs:List (List aO))(ok:fW n K ls cs)(hi:ins.length=n.aM.length) :
  mN (ins,mc n (aU n V) ls (bq n cs) ())=some (kO n (fB n ls cs ins),((0:Int),mc n (aU n V) (gk n (fB n ls cs ins)) (bq n (gV n cs (fB n ls cs ins))) (jF n (fB n ls cs ins),()))):=by
 have ev:=ak6 hs ft hK ls ins cs ok hi;generalize fB n ls cs ins=v at ev;exact ag ev (af rfl (ag (aen hs (aU n V) ls (bq n cs) v) (ag (ade hs (aU n V) ls (bq n cs) (kO n v) v) (ag (adf hs (aU n V) ls (bq n cs) (kO n v) (jF n v) v ok.qT) (ag (adg hs (aU n V) ls (gk n v) cs hK ok (kO n v) (jF n v) v) rfl)))))
theorem akQ(ord:List (bA×bo))(ls ins:List Bool)(rs:List cW)(hi:ins.length≠n.aM.length) :
  Wy (ins,mc n ord ls rs ())=some ((1:Int),mc n ord ls rs ([],())):=by
 have q1:(iQ (Int.ofNat (List.length ins)) (Int.ofNat (List.length n.aM)))=false:=au (fun h=>hi (Int.ofNat.inj h));exact ao (show aR false true (Bool.not (iQ (Int.ofNat (List.length ins)) (Int.ofNat (List.length n.aM))))=true by rw[q1];rfl) rfl
theorem ali(ord:List (bA×bo))(ls ins:List Bool)(rs:List cW)(hi:ins.length≠n.aM.length) :
  mN (ins,mc n ord ls rs ())=some (false,((1:Int),mc n ord ls rs ([],()))):=
 ag (akQ hs ord ls ins rs hi) (ao rfl rfl)
end
theorem qQ{L:List Int}(h:L.length<=1000000):rP (L,())=some (L,()):=ak (pV (by decide) (by show L.length<=_;omega)) rfl
theorem clL{L:List ae.T}(h:L.length<=1000000):aiv (L,())=some (L,()):=ak (pV (by decide) (by show L.length<=_;omega)) rfl
theorem clA{L:List ae.T}(h:L.length<=1000000):aiX (L,())=some (L,()):=ak (pV (by decide) (by show L.length<=_;omega)) rfl
theorem clM{L:List ab.T}(h:L.length<=1000000):aio (L,())=some (L,()):=ak (pV (by decide) (by show([]++L).length<=_;rw[List.nil_append];omega)) rfl
theorem clR{L:List bL.T}(h:L.length<=1000000):Ir (L,())=some (L,()):=ak (pV (by decide) (by show([]++L).length<=_;rw[List.nil_append];omega)) rfl
theorem clW{L:List bD.T}(h:L.length<=1000000):H7 (L,())=some (L,()):=ak (pV (by decide) (by show([]++L).length<=_;rw[List.nil_append];omega)) rfl
theorem Oq{L:List Bool}(h:L.length<=1000000):IK (L,())=some (L,()):=ak (pV (by decide) (by show([]++L).length<=_;rw[List.nil_append];omega)) rfl
section
variable(i:Nat)(t41 t42 b00:Int)(b01:List Int)(b02:List ae.T)(b03 b04 b05:List Int)(b07:List ae.T)(b1:List ab.T)(m0 m1:Int)(m2:Bool)(rs:List bL.T)(ws:List bD.T)(z:Int)
theorem aly(hr:rs.length<=1000)(hrr:∀r∈rs,r.2.1.length<=100000) :
  Km ((i:Int),(t41,(t42,((rs.length:Int),((0:Int),(b00,(b01,(b02,(b03,(b04,(b05,(b07,((i:Int),(b1,(m0,(m1,(m2,(rs,(ws,(z,()))))))))))))))))))))=some ((i:Int),(t41,(t42,(b00,(b01,(b02,(b03,(b04,(b05,(b07,((i:Int),(b1,(m0,(m1,(m2,(rs,(ws,(z,())))))))))))))))))):=by
 unfold Km;delta nD;refine cP (fun k:Nat=>((i:Int),(t41,(t42,((rs.length:Int),((k:Int),(b00,(b01,(b02,(b03,(b04,(b05,(b07,((i:Int),(b1,(m0,(m1,(m2,(rs,(ws,(z,()))))))))))))))))))))) rs.length rfl ?_ ?_ (bt (by omega))
 .intro k hk;have hx:=List.getElem?_eq_getElem hk;have hg:gt bL rs (k:Int)=rs[k]:=bn (σ:=bL) hx;have e1:rP ((gt bL rs (k:Int)).2.1,())=some ((gt bL rs (k:Int)).2.1,()):=qQ (by rw[hg];exact Nat.le_trans (hrr _ (List.getElem_mem hk)) (by decide));have e:∀(p q:Int) (A:List bL.T),p=q->A=rs->(some (.inl ((i:Int),(t41,(t42,((rs.length:Int),(p,(b00,(b01,(b02,(b03,(b04,(b05,(b07,((i:Int),(b1,(m0,(m1,(m2,(A,(ws,(z,()))))))))))))))))))))):Option (TL Ba.σs⊕Out A4))=some (.inl ((i:Int),(t41,(t42,((rs.length:Int),(q,(b00,(b01,(b02,(b03,(b04,(b05,(b07,((i:Int),(b1,(m0,(m1,(m2,(rs,(ws,(z,()))))))))))))))))))))):=by rintro _ _ _ rfl rfl;rfl
  have hi:aA (k:Int) (List.length rs)=true:=aN ⟨by omega,by omega⟩
  try dsimp only
  unfold Bk;exact ao (aj (show(k:Int)<(rs.length:Int) by omega)) (ak (by show Nat.beq i i=true;simp) (ak (by show Nat.beq i i=true;simp) (ak hi (ag e1 (ak hi (e _ _ _ (bF (by omega) (by omega)) (KW (σ:=bL) hk rfl rfl)))))))
 .try dsimp only
  unfold Bk;exact af (au (show ¬(rs.length:Int)<(rs.length:Int) by omega)) rfl
theorem alz(hr:ws.length<=1000)(hrr:∀r∈ws,r.2.1.length<=100000/\r.2.2.1.length<=100000) :
  Kl ((i:Int),(t41,(t42,((ws.length:Int),((0:Int),(b00,(b01,(b02,(b03,(b04,(b05,(b07,((i:Int),(b1,(m0,(m1,(m2,(rs,(ws,(z,()))))))))))))))))))))=some (t41,(t42,(b00,(b01,(b02,(b03,(b04,(b05,(b07,((i:Int),(b1,(m0,(m1,(m2,(rs,(ws,(z,())))))))))))))))) ):=by
 unfold Kl;delta nD;refine cP (fun k:Nat=>((i:Int),(t41,(t42,((ws.length:Int),((k:Int),(b00,(b01,(b02,(b03,(b04,(b05,(b07,((i:Int),(b1,(m0,(m1,(m2,(rs,(ws,(z,()))))))))))))))))))))) ws.length rfl ?_ ?_ (bt (by omega))
 .intro k hk;have hx:=List.getElem?_eq_getElem hk;have hg:gt bD ws (k:Int)=ws[k]:=bn (σ:=bD) hx;have hb:=hrr _ (List.getElem_mem hk);have e1:rP ((gt bD ws (k:Int)).2.1,())=some ((gt bD ws (k:Int)).2.1,()):=qQ (by rw[hg];exact Nat.le_trans hb.1 (by decide));have e2:rP ((gt bD ws (k:Int)).2.2.1,())=some ((gt bD ws (k:Int)).2.2.1,()):=qQ (by rw[hg];exact Nat.le_trans hb.2 (by decide));have e:∀(p q:Int) (A:List bD.T),p=q->A=ws->(some (.inl ((i:Int),(t41,(t42,((ws.length:Int),(p,(b00,(b01,(b02,(b03,(b04,(b05,(b07,((i:Int),(b1,(m0,(m1,(m2,(rs,(A,(z,()))))))))))))))))))))):Option (TL A9.σs⊕Out A0))=some (.inl ((i:Int),(t41,(t42,((ws.length:Int),(q,(b00,(b01,(b02,(b03,(b04,(b05,(b07,((i:Int),(b1,(m0,(m1,(m2,(rs,(ws,(z,()))))))))))))))))))))):=by rintro _ _ _ rfl rfl;rfl
  have hi:aA (k:Int) (List.length ws)=true:=aN ⟨by omega,by omega⟩;have hs1:List.set ws (Int.toNat (k:Int)) ((gt bD ws (k:Int)).1,((gt bD ws (k:Int)).2.1,((gt bD ws (k:Int)).2.2.1,())))=ws:=KW (σ:=bD) hk rfl rfl;have hs2:∀A:List bD.T,A=ws->List.set A (Int.toNat (k:Int)) ((gt bD A (k:Int)).1,((gt bD A (k:Int)).2.1,((gt bD ws (k:Int)).2.2.1,())))=ws:=by rintro _ rfl;exact hs1
  try dsimp only
  unfold Bj;exact ao (aj (show(k:Int)<(ws.length:Int) by omega)) (ak (by show Nat.beq i i=true;simp) (ak hi (ag e1 (ag e2 (ak (aj rfl) (e _ _ _ (bF (by omega) (by omega)) (hs2 _ hs1)))))))
 .try dsimp only
  unfold Bj;exact af (au (show ¬(ws.length:Int)<(ws.length:Int) by omega)) rfl
end
theorem cl8{n:av}(ft:Fit n)(b00:Int)(b01:List Int)(b02:List ae.T)(b03 b04 b05:List Int)(b07:List ae.T)(z:Int) :
  X0 (((n.aa.map aq).length:Int),((0:Int),(b00,(b01,(b02,(b03,(b04,(b05,(b07,(n.aa.map aq,(z,())))))))))))=some (b00,(b01,(b02,(b03,(b04,(b05,(b07,(n.aa.map aq,(z,()))))))))):=by
 have hL:(n.aa.map aq).length=n.aa.length:=List.length_map ..;have hM:=ft.aa.1;unfold X0;delta jE;refine cP (fun k:Nat=>(((n.aa.map aq).length:Int),((k:Int),(b00,(b01,(b02,(b03,(b04,(b05,(b07,(n.aa.map aq,(z,()))))))))))) ) n.aa.length rfl ?_ ?_ (bt (by omega))
 .intro k hk;have hx:=List.getElem?_eq_getElem hk;have hx':(n.aa.map aq)[k]?=some (aq n.aa[k]):=by rw[List.getElem?_map,hx];rfl
  have hf:=ft.aa.2 _ (List.getElem_mem hk);generalize n.aa[k]=m at hx' hf;have hg:gt ab (n.aa.map aq) (k:Int)=aq m:=bn (σ:=ab) hx';have e1:Ir ((gt ab (n.aa.map aq) (k:Int)).2.2.2.1,())=some (m.reads.map dv,()):=by rw[hg];exact clR (by show(m.reads.map dv).length<=_;rw[List.length_map];have:=hf.pA;omega)
  have e2:H7 ((gt ab (n.aa.map aq) (k:Int)).2.2.2.2.1,())=some (m.writes.map dI,()):=by rw[hg];exact clW (by show(m.writes.map dI).length<=_;rw[List.length_map];have:=hf.tB;omega)
  have e13:=aly k ((n.aa.map aq).length:Int) (k:Int) b00 b01 b02 b03 b04 b05 b07 (n.aa.map aq) (gt ab (n.aa.map aq) (k:Int)).1 (gt ab (n.aa.map aq) (k:Int)).2.1 (gt ab (n.aa.map aq) (k:Int)).2.2.1 (m.reads.map dv) (m.writes.map dI) z (by rw[List.length_map];have:=hf.pA;omega) (fun r hr=>by obtain⟨r2,hr2,rfl⟩:=List.mem_map.1 hr;have:=(hf.jV r2 hr2).1;show r2.addr.length<=_;omega);have e18:=alz k ((n.aa.map aq).length:Int) (k:Int) b00 b01 b02 b03 b04 b05 b07 (n.aa.map aq) (gt ab (n.aa.map aq) (k:Int)).1 (gt ab (n.aa.map aq) (k:Int)).2.1 (gt ab (n.aa.map aq) (k:Int)).2.2.1 (m.reads.map dv) (m.writes.map dI) z (by rw[List.length_map];have:=hf.tB;omega) (fun r hr=>by obtain⟨r2,hr2,rfl⟩:=List.mem_map.1 hr;have:=hf.pF r2 hr2;exact⟨by show r2.addr.length<=_;omega,by show r2.data.length<=_;omega⟩);have e:∀(p q:Int) (A:List ab.T),p=q->A=n.aa.map aq->(some (.inl (((n.aa.map aq).length:Int),(p,(b00,(b01,(b02,(b03,(b04,(b05,(b07,(A,(z,())))))))))))) :Option (TL Be.σs⊕Out A8))=some (.inl (((n.aa.map aq).length:Int),(q,(b00,(b01,(b02,(b03,(b04,(b05,(b07,(n.aa.map aq,(z,())))))))))))) :=by rintro _ _ _ rfl rfl;rfl
  have hst:List.set (n.aa.map aq) (Int.toNat (k:Int)) ((gt ab (n.aa.map aq) (k:Int)).1,((gt ab (n.aa.map aq) (k:Int)).2.1,((gt ab (n.aa.map aq) (k:Int)).2.2.1,(m.reads.map dv,(m.writes.map dI,())))))=n.aa.map aq:=KW (σ:=ab) (by omega) (by rw[hg];rfl) rfl;have hi:aA (k:Int) (List.length (n.aa.map aq))=true:=aN ⟨by omega,by omega⟩;have nn:nQ (Int.toNat (k:Int)) (Int.toNat (k:Int))=true:=aj rfl;have nb:Nat.beq (Int.toNat (k:Int)) (Int.toNat (k:Int))=true:=by simp
  try dsimp only
  unfold Bq;refine ao (aj (show(k:Int)<((n.aa.map aq).length:Int) by omega)) (ak hi (ag e1 (ak nn (ak nn (ak nn (ak nn (ak nn (ak (yY (fun x=>Sh.Bw x) _) (ag e2 (ak nn (ak nn (ak nn (ak nb (ak nb (ag e13 (ak nb (ag e18 (e _ _ _ (bF (show(k:Int)+1=((k+1:Nat):Int) by omega) (by omega)) hst))))))))))))))))))
 .try dsimp only
  unfold Bq;exact af (au (show ¬(n.aa.length:Int)<((n.aa.map aq).length:Int) by omega)) rfl
theorem acw{n:av}(ft:Fit n):akM (ba n,())=some (ba n,()):=by have e1:=qQ (L:=n.aM) (by have:=ft.ins.1;omega);have e2:=qQ (L:=n.bI) (by have:=ft.out.1;omega);have e3:=qQ (L:=n.bh) (by have:=ft.bad.1;omega);have e4:=qQ (L:=n.constraints) (by have:=ft.nv.1;omega);have e5:=clL (L:=n.aw.map bK) (by rw[List.length_map];have:=ft.ax.1;omega);have e6:=clA (L:=n.aL.map dg) (by rw[List.length_map];have:=ft.aL.1;omega);have e7:=clM (L:=n.aa.map aq) (by rw[List.length_map];have:=ft.aa.1;omega);have e8:=cl8 ft n.vars n.aM (n.aw.map bK) n.bI n.bh n.constraints (n.aL.map dg) (0:Int);exact ag e1 (ag e2 (ag e3 (ag e4 (ag e5 (ag e6 (ag e7 (ag e8 rfl)))))))
theorem RL(n:av)(cs:List (List aO))(h:cs.length=n.aa.length):jY (n.aa.map aq) cs (n.aa.map aq).length=bq n cs:=by
 refine List.ext_getElem? fun i=>?_;rcases Nat.lt_or_ge i n.aa.length with q|q
 .have hm:=List.getElem?_eq_getElem q;have hc:=List.getElem?_eq_getElem (l:=cs) (i:=i) (by omega);have hm':(n.aa.map aq)[i]?=some (aq n.aa[i]):=by rw[List.getElem?_map,hm];rfl
  rw[vq hm hc];unfold jY;rw[List.getElem?_map,List.getElem?_range (by rw[List.length_map];exact q)];have g1:gt ab (n.aa.map aq) (i:Int)=aq n.aa[i]:=bn (σ:=ab) hm';have g2:gt (.sl aB) cs (i:Int)=cs[i]:=bn (σ:=.sl aB) hc;show some (mK (gt ab (n.aa.map aq) (i:Int)).1 (gt ab (n.aa.map aq) (i:Int)).2.1 (gt (.sl aB) cs (i:Int)))=_;rw[g1,g2];rfl
 .have h1:(bq n cs)[i]?=none:=List.getElem?_eq_none (by rw[vm h];exact q);have h2:(jY (n.aa.map aq) cs (n.aa.map aq).length)[i]?=none:=List.getElem?_eq_none (by unfold jY;rw[List.length_map,List.length_range,List.length_map];exact q);exact h2.trans h1.symm
theorem YM{x k:Int}(h0:0<=x)(h:iw x k=true):x<2^k.toNat:=by unfold iw at h;have h:=of_decide_eq_true h;have hp:(0:Int)<2^k.toNat:=Int.pow_pos (by decide);have e:=Int.emod_def x (2^k.toNat);rw[h,Int.mul_zero,Int.sub_zero]at e;have:=Int.emod_lt_of_pos x hp;omega
theorem sf{c:List aO}{i:Nat}{p:aO}(h:c[i]?=some p):dD c (i:Int)=p.1/\gD c (i:Int)=p.2.1:=by have g:gt aB c (i:Int)=p:=bn (σ:=aB) h;unfold dD gD;rw[g];exact⟨rfl,rfl⟩
theorem alv{m:bB}{c:List aO}(h:ir m.addr m.word c=true)(ok:ou c):mP m 4096 c:=by
 unfold ir at h;simp only[Bool.and_eq_true,decide_eq_true_eq]at h;obtain⟨⟨⟨⟨⟨h1,h2⟩,h3⟩,h4⟩,h5⟩,h6⟩:=h;have hs:=S9 h6;have h6':∀i,i<c.length->iP m.addr m.word c i=true:=fun i hi=>List.all_eq_true.1 h6 i (List.mem_range.2 hi);have hc:∀p∈c,(0<=p.1/\p.1<2^m.addr.toNat)/\0<p.2.1/\p.2.1<2^m.word.toNat:=by intro p hp;obtain⟨i,hi⟩:=List.getElem?_of_mem hp;have hil:=dr hi;obtain⟨e1,e2⟩:=sf hi;have hb:=h6' i hil;obtain⟨o1,o2⟩:=ok i hil;unfold iP at hb;simp only[Bool.and_eq_true,Bool.not_eq_true',decide_eq_false_iff_not]at hb;obtain⟨⟨⟨b1,b2⟩,b3⟩,_⟩:=hb;rw[e1]at o1 b2;rw[e2]at o2 b1 b3;exact⟨⟨o1.1,YM o1.1 b2⟩,by omega,YM o2.1 b3⟩
 refine⟨?_,h5,fun p hp=>(hc p hp).1,fun p hp=>(hc p hp).2⟩;refine List.pairwise_iff_getElem.2 fun i j hi hj hij=>?_;have:=hs j hj i hij;rw[(sf (List.getElem?_eq_getElem hi)).1,(sf (List.getElem?_eq_getElem hj)).1]at this;exact this
theorem KV{n:av}{ls:List Bool}{cs:List (List aO)}(h:dV (ba n) (ls,(cs,()))=true)(ok:lJ cs):fW n 4096 ls cs:=by
 unfold dV at h;simp only[Bool.and_eq_true,decide_eq_true_eq]at h;obtain⟨⟨h1,h2⟩,h3⟩:=h;have h1':ls.length=n.aw.length:=h1.trans (List.length_map ..);have h2':cs.length=n.aa.length:=h2.trans (List.length_map ..);refine⟨h1',h2',fun i m c hm hc=>?_⟩;have hil:=dr hm;have h3':∀i,i<(n.aa.map aq).length->jo (n.aa.map aq) cs i=true:=by have h3:(List.range (n.aa.map aq).length).all (jo (n.aa.map aq) cs)=true:=h3;exact fun i hi=>List.all_eq_true.1 h3 i (List.mem_range.2 hi)
 have hp:=h3' i (by rw[List.length_map];exact hil);unfold jo at hp;have hm':(n.aa.map aq)[i]?=some (aq m):=by rw[List.getElem?_map,hm];rfl
 have g1:gt ab (n.aa.map aq) (i:Int)=aq m:=bn (σ:=ab) hm';have g2:gt (.sl aB) cs (i:Int)=c:=bn (σ:=.sl aB) hc;rw[g1,g2]at hp;exact alv hp (ok c (List.mem_of_getElem? hc))
theorem Yl{n:av}(h:Pl.cK n=0):∃V,cj n V/\dt n=0/\n.vars.toNat=V/\eI (aV n) V=true:=by
 unfold Pl.cK at h;by_cases h0:dt n=0
 .obtain⟨V,hs⟩:=oM h0;have hV:n.vars.toNat=V:=by rw[hs.vars];rfl
  rw[if_neg (by simpa using h0),hV]at h;refine⟨V,hs,h0,hV,?_⟩;cases q:eI (aV n) V
  .rw[q]at h;simp at h
  .rfl
 .rw[if_pos h0]at h;exact absurd h h0
section
variable{n:av}(ft:Fit n)(ls:List Bool)(cs:List (List aO))
include ft
theorem ae2(h:Pl.cK n≠0):KE (nt n (ls,(cs,())))=some (.inl (Pl.cK n,())):=ag (pf ft) (ao (by simp[h]) rfl)
theorem K4:Zq8 (nt n (ls,(cs,())))=some (match dV (ba n) (ls,(cs,()))with|true=>((0:Int),(jY (n.aa.map aq) cs (n.aa.map aq).length,()))|false=>((14:Int),([],()))):=YO (ba n) (ls,(cs,())) (by show(n.aa.map aq).length<=_;rw[List.length_map];have:=ft.aa.1;omega)
theorem ad9(h:Pl.cK n=0)(hf:dV (ba n) (ls,(cs,()))=false):KE (nt n (ls,(cs,())))=some (.inl ((14:Int),())):=by have el:=K4 ft ls cs;rw[hf]at el;exact ag (pf ft) (af (by rw[h];rfl) (ag el (ao rfl rfl)))
theorem RG(h:Pl.cK n=0)(hf:dV (ba n) (ls,(cs,()))=true)(hb:ls.length<=1000000):KE (nt n (ls,(cs,())))=some (.inr ((0:Int),mc n (aU n n.vars.toNat) ls (bq n cs) ())):=by
 obtain⟨V,hs,h0,hV,ha⟩:=Yl h;have eo:=aku hs ft h0;rw[if_pos ha]at eo;rw[hV];have el:=K4 ft ls cs;rw[hf]at el;have hcs:cs.length=n.aa.length:=by unfold dV at hf;simp only[Bool.and_eq_true,decide_eq_true_eq]at hf;exact hf.1.2.trans (List.length_map ..)
 have hr:=RL n cs hcs;have e:∀R R':List cW,R=R'->(some (.inr ((0:Int),mc n (aU n V) ls R ())):Option (Out Bp))=some (.inr ((0:Int),mc n (aU n V) ls R' ())):=by rintro _ _ rfl;rfl
 exact ag (pf ft) (af (by rw[h];rfl) (ag el (af rfl (ag eo (ag (acw ft) (ag (Oq (L:=ls) hb) (ak (yY (fun x=>Sh.Bw x) _) (e _ _ hr))))))))
end
abbrev iI:=List Bool×List (List aO)
abbrev jf:=List Bool×Bool×Unit
def stp(n:av)(s:iI)(x:List Bool):iI:=(gk n (fB n s.1 s.2 x),gV n s.2 (fB n s.1 s.2 x))
def lH(n:av)(s:iI)(x:List Bool):jf:=(jF n (fB n s.1 s.2 x),(kO n (fB n s.1 s.2 x),()))
theorem afc(P:List jf)(z:jf)(h:P.length<=10000000):room 32 (List.length (P++(z::[])))=true:=by rw[List.length_append,List.length_cons,List.length_nil];exact kh (by omega) (by omega)
section
variable{n:av}(ft:Fit n)
include ft
theorem Yw:List.length (ba n).2.2.1<=100000/\List.length (ba n).2.2.2.2.2.2.1<=100000:=⟨by show(n.aw.map bK).length<=_;rw[List.length_map];have:=ft.ax.1;omega,by show(n.aa.map aq).length<=_;rw[List.length_map];have:=ft.aa.1;omega⟩
theorem oq:Fit (dO (ba n)):=by rw[lG];exact ft
end
theorem alA{L:List Bool}(h:L.length<=1000000):akm (L,())=some (L,(L,())):=ag (Oq h) rfl
theorem ab4(a w:Int)(c:List aO)(h:c.length<=1000000):EH (a,(w,(c,())))=some (c,(a,(w,(c,())))):=ak (aj h) rfl
theorem QT{n:av}{V K:Nat}(hs:cj n V)(ord:List (bA×bo)){ls:List Bool}{cs:List (List aO)}(hK:K<=100000)(ok:fW n K ls cs) :
  Pg (mc n ord ls (bq n cs) ())=some (mc n ord ls (bq n cs) (ls,(cs,()))):=by
 have hM:=hs.lens.2.2.2.2;have hL:=hs.lens;have hcl:=ok.mA;have hr:=vm hcl;have hls:ls.length<=1000000:=by have:=ok.qT;have:=hs.lens.2.1;omega
 have e5:Ph (((bq n cs).length:Int),((0:Int),mc n ord ls (bq n cs) (ls,([],()))))=some (mc n ord ls (bq n cs) (ls,(cs,()))):=by
  unfold Ph;delta dT;refine cP (fun k:Nat=>(((bq n cs).length:Int),((k:Int),mc n ord ls (bq n cs) (ls,(cs.take k,()))))) n.aa.length rfl ?_ ?_ (bt (by omega))
  .intro k hk;have hx:=List.getElem?_eq_getElem hk;have hkc:k<cs.length:=by omega
   have hy:=List.getElem?_eq_getElem hkc;have ha:=vq hx hy;have hlen:=(ok.ok k _ _ hx hy).len;have hg:List.getD (bq n cs) (Int.toNat (k:Int)) zR=(n.aa[k].addr,(n.aa[k].word,(cs[k],()))):=by rw[Int.toNat_natCast,List.getD_eq_getElem?_getD,ha];rfl
   have ec:EH ((List.getD (bq n cs) (Int.toNat (k:Int)) zR).1,((List.getD (bq n cs) (Int.toNat (k:Int)) zR).2.1,((List.getD (bq n cs) (Int.toNat (k:Int)) zR).2.2.1,())))=some (cs[k],(n.aa[k].addr,(n.aa[k].word,(cs[k],())))):=by rw[hg];exact ab4 _ _ _ (Nat.le_trans hlen (by omega))
   have hset:List.set (bq n cs) (Int.toNat (k:Int)) (n.aa[k].addr,(n.aa[k].word,(cs[k],())))=bq n cs:=by
    rw[Int.toNat_natCast];refine List.ext_getElem? fun i=>?_;rw[List.getElem?_set];split
    .rename_i q;subst q;split
     .exact ha.symm
     .rename_i q2;rw[List.getElem?_eq_none (by omega)]
    .rfl
   have hroom:room 24 (List.length (cs.take k++(cs[k]::[])))=true:=by rw[List.length_append,List.length_take];exact kh (by simp;omega) (by simp;omega)
   have ht:cs.take k++(cs[k]::[])=cs.take (k+1):=by rw[List.take_add_one,hy];rfl
   have e:∀(p q:Int) (R R':List cW) (A B:List (List aO)),p=q->R=R'->A=B->(some (.inl (((bq n cs).length:Int),(p,mc n ord ls R (ls,(A,()))))):Option (TL tF.σs⊕Out tE))=some (.inl (((bq n cs).length:Int),(q,mc n ord ls R' (ls,(B,()))))):=by rintro _ _ _ _ _ _ rfl rfl rfl;rfl
   exact ao (aj (show(k:Int)<((bq n cs).length:Int) by omega)) (ak (show aA (k:Int) (List.length (bq n cs))=true from aN ⟨by omega,by omega⟩) (ag ec (ak hroom (e _ _ _ _ _ _ (bF (show(k:Int)+1=((k+1:Nat):Int) by omega) (by omega)) hset ht))))
  .have e:∀(A B:List (List aO)),A=B->(some (.inr (mc n ord ls (bq n cs) (ls,(A,())))):Option (TL tF.σs⊕Out tE))=some (.inr (mc n ord ls (bq n cs) (ls,(B,())))):=by rintro _ _ rfl;rfl
   exact af (au (show ¬(n.aa.length:Int)<((bq n cs).length:Int) by omega)) (e _ _ (List.take_of_length_le (by omega)))
 exact ag (alA hls) (ag e5 rfl)
theorem acv{n:av}{K:Nat}{ls:List Bool}{cs:List (List aO)}(ok:fW n K ls cs):∀c∈cs,c.length<=K:=by intro c hc;obtain⟨i,hi⟩:=List.getElem?_of_mem hc;have hil:=dr hi;have hm:=List.getElem?_eq_getElem (l:=n.aa) (i:=i) (by have:=ok.mA;omega);exact(ok.ok i _ _ hm hi).len
theorem Fy{n:av}(v:List Bool):(jF n v).length=n.bh.length:=by unfold jF;rw[List.length_map]
theorem QY(x:Bool):@decide _ (Bool.decEq x x)=true:=by cases x<;>rfl
theorem adG{n:av}{ls:List Bool}{cs:List (List aO)}(h:Pl.cK n=0)(hf:dV (ba n) (ls,(cs,()))=true):gU (ba n) (ls,(cs,()))=0:=by unfold gU;rw[lG,if_neg (fun q=>q h),hf]
section
variable{n:av}(ft:Fit n)
include ft
theorem aef(ord:List (bA×bo))(ls lt:List Bool)(rs:List cW)(ct:List (List aO))(hct:ct.length=n.aa.length)(hf:dV (ba n) (lt,(ct,()))=true)(hb:lt.length<=1000000) :
  Ps (lt,(ct,mc n ord ls rs ()))=some ((0:Int),mc n ord lt (bq n ct) ()):=by
 have el:=K4 ft lt ct;rw[hf]at el;have hr:=RL n ct hct;have e:∀R R':List cW,R=R'->(some ((0:Int),mc n ord lt R ()):Option (Out xA))=some ((0:Int),mc n ord lt R' ()):=by rintro _ _ rfl;rfl
 exact ag el (af rfl (ag (Oq hb) (e _ _ hr)))
end
def k9(p:Nat->Bool):Nat->Nat->Option Nat
 |0,_=>none|k+1,i=>if p i=true then some i else k9 p k (i+1)
theorem akO(p:Nat->Bool):∀k i,k9 p k i=none->∀m,i<=m->m<i+k->p m=false:=by
 intro k
 induction k with
 |zero=>intro i h m a b;omega|succ k ih=>
  intro i h m a b;unfold k9 at h;by_cases q:p i=true
  .rw[if_pos q]at h;cases h
  .rw[if_neg q]at h;rcases Nat.lt_or_ge i m with c|c
   .exact ih (i+1) h m c (by omega)
   .obtain rfl:m=i:=by omega
    simpa using q
theorem akz{D O:Type}{B:D->Option (D⊕O)}(f:Nat->D)(p:Nat->Bool)(g:Nat->O)(z:O)(n:Nat)(hs:∀i,i<n->p i=false->B (f i)=some (.inl (f (i+1))))(hf:∀i,i<n->p i=true->B (f i)=some (.inr (g i)))
  (he:B (f n)=some (.inr z)) {d:D}(hd:d=f 0) {N:Nat}(hN:n<N):aQ B N d=some (match k9 p n 0 with|some i=>g i|none=>z):=by
 subst hd;have main:∀k i,i+k=n->∀N,k<N->aQ B N (f i)=some (match k9 p k i with|some i=>g i|none=>z):=by
  intro k
  induction k with
  |zero=>
   intro i hi N hN;obtain rfl:i=n:=by omega
   obtain⟨N,rfl⟩:∃M,N=M+1:=⟨N-1,by omega⟩;simp only[aQ,he,k9]
  |succ k ih=>intro i hi N hN;obtain⟨N,rfl⟩:∃M,N=M+1:=⟨N-1,by omega⟩;cases q:p i with|true=>simp only[aQ,hf i (by omega) q,k9,q,if_true]|false=>have:=ih (i+1) (by omega) N (by omega);simp only[aQ,hs i (by omega) q,k9,q];exact this
 exact main n 0 (by omega) N hN
def idx(L:List Bool):Int:=match k9 (fun i=>L.getD i false) L.length 0 with|some i=>(i:Int)|none=>-1
theorem aeP{L:List Bool}{i:Nat}(h:L.getD i false=true):0<=idx L:=by
 unfold idx;cases q:k9 (fun i=>L.getD i false) L.length 0 with
 |some j=>exact Int.natCast_nonneg j|none=>
  exfalso;have hi:i<L.length:=by
   rcases Nat.lt_or_ge i L.length with c|c
   .exact c
   .rw[List.getD_eq_getElem?_getD,List.getElem?_eq_none c]at h;cases h
  have:=akO _ _ _ q i (Nat.zero_le _) (by omega);simp only[h]at this;cases this
theorem adP(L:List Bool)(hL:L.length<=1000000):IJ (L,(true,((L.length:Int),((0:Int),()))))=some (match k9 (fun i=>L.getD i false) L.length 0 with|some i=>.inl ((i:Int),())|none=>.inr ()):=by
 unfold IJ;delta u4;refine akz (fun i:Nat=>(L,(true,((L.length:Int),((i:Int),()))))) (fun i=>L.getD i false) (fun i=>Sum.inl ((i:Int),())) (Sum.inr ()) L.length ?_ ?_ ?_ rfl (bt (by omega))
 .intro i hi hp;dsimp only at hp |-;unfold uR;have e:∀p q:Int,p=q->(some (.inl (L,(true,((L.length:Int),(p,()))))):Option (TL zM.σs⊕Out zL))=some (.inl (L,(true,((L.length:Int),(q,()))))):=by rintro _ _ rfl;rfl
  have hg:gt .bool L (i:Int)=false:=(Lk (by omega)).trans hp;exact ao (aj (show(i:Int)<(L.length:Int) by omega)) (ak (aN ⟨by omega,by omega⟩) (af (by rw[hg];rfl) (e _ _ (bJ (x:=(i:Int)+1) (by omega)))))
 .intro i hi hp;dsimp only at hp |-;unfold uR;have hg:gt .bool L (i:Int)=true:=(Lk (by omega)).trans hp;exact ao (aj (show(i:Int)<(L.length:Int) by omega)) (ak (aN ⟨by omega,by omega⟩) (ao (by rw[hg];rfl) rfl))
 .try dsimp only
  unfold uR;exact af (au (show ¬(L.length:Int)<(L.length:Int) by omega)) rfl
theorem ak4(L:List Bool)(hL:L.length<=1000000):V9 (L,(true,()))=some (idx L,()):=by have e:=adP L hL;have e':IJ (L,(true,((Int.ofNat (List.length L)),((0:Int),()))))=_:=e;unfold idx;cases q:k9 (fun i=>L.getD i false) L.length 0 with|some i=>rw[q]at e';exact ag e' rfl|none=>rw[q]at e';exact ag e' rfl
def li(L:List Int)(k:Nat):Int:=L.getD k 0
