import Derived.Test.YtkcpdpplobhpaaaGreatJRi
set_option linter.unusedSectionVars false
set_option linter.unusedVariables false
set_option linter.unusedSimpArgs false
set_option linter.unnecessarySimpa false
section
namespace Go.Proofs.YtkcpdpplobhpaaaGreat.V
open Go Go.RowKit Go.Proofs.YtkcpdpplobhpaaaGreat.Pl
set_option maxRecDepth 10000
def lv(ν:Int->Bool)(l:Int):Bool:=Bool.xor (ν (l / 2)) (decide (l % 2=1))
def Cons(ν:Int->Bool)(A:List eK):Prop:=∀a∈A,ν a.var=(lv ν a.a&&lv ν a.b)
theorem Cons.of{ν:Int->Bool}{A B:List eK}(h:Cons ν (A++B)):Cons ν A:=fun a ha=>h a (List.mem_append_left _ ha)
section
variable(o b c:List Int)(m:List ab.T){s:Gk}{D:List Int}
def iN(l:List dx)(j:Nat):Int:=((l[j]?).map (·.next)).getD 0
end
structure y4(n:ax)(w bad:Nat):Prop where
 ok:Pl.cL n=0
 ins:n.aJ=[]
 aa:n.aa=[]
 cons:n.constraints=[]
 vars:n.au.map (·.var)=fr 0 w
 init:n.au.map (·.init)=List.replicate w 0
 next:∀ν:Int->Bool,ν 0=false->Cons ν n.aM->∀i,i<w->lv ν (iN n.au i)=Bool.xor (ν ((i+1:Nat):Int)) ((List.range i).all fun j=>ν ((j+1:Nat):Int))
 ba:∃z,n.ba=[z]/\∀ν:Int->Bool,ν 0=false->Cons ν n.aM->lv ν z=(List.range w).all fun j=>decide (ν ((j+1:Nat):Int)=decide (bad / 2^j % 2=1))
def iH(v:List Bool)(l:List (Int×Bool)):List Bool:=l.foldl (fun v p=>v.set p.1.toNat p.2) v
theorem qg:∀(l:List (Int×Bool)) (v:List Bool),(iH v l).length=v.length
 |[],v=>rfl|p::l,v=>by show(iH (v.set p.1.toNat p.2) l).length=_;rw[qg l,List.length_set]
theorem Km(v:List Bool)(l:List (Int×Bool))(p:Int×Bool):iH v (l++[p])=(iH v l).set p.1.toNat p.2:=by unfold iH;rw[List.foldl_append];rfl
def qz(n:ax)(ls ins:List Bool):List Bool:=iH (iH (List.replicate (n.vars.toNat+1) false) (n.aJ.zip ins)) ((n.au.map (·.var)).zip ls)
def iV(n:ax)(cs:List (List aO))(v:List Bool)(x:bz×bp):List Bool:=
 if x.1.rd=false then v.set (x.2.to.headD 0).toNat (cw (x.2.aS.getD 0 0) v&&cw (x.2.aS.getD 1 0) v)
 else iH v (x.2.to.zip (bN (rd (cs.getD x.1.mem []) (cp (x.2.aS.map (cw · v)))).toNat x.2.to.length))
theorem akN(n:ax)(cs:List (List aO))(v:List Bool)(x:bz×bp):(iV n cs v x).length=v.length:=by
 unfold iV;split
 .rw[List.length_set]
 .rw[qg]
def jF(n:ax)(ls:List Bool)(cs:List (List aO))(ins:List Bool):List Bool:=(aU n n.vars.toNat).foldl (iV n cs) (qz n ls ins)
theorem XB(n:ax)(cs:List (List aO)):∀(l:List (bz×bp)) (v:List Bool),(l.foldl (iV n cs) v).length=v.length
 |[],v=>rfl|x::l,v=>by rw[List.foldl_cons,XB n cs l,akN]
theorem akb(n:ax)(ls ins:List Bool):(qz n ls ins).length=n.vars.toNat+1:=by unfold qz;rw[qg,qg,List.length_replicate]
structure mR(m:bC)(k:Nat)(c:List aO):Prop where
 jH:mf c
 len:c.length<=k
 at_:∀p∈c,0<=p.1/\p.1<2^m.addr.toNat
 wd:∀p∈c,0<p.2.1/\p.2.1<2^m.word.toNat
structure iB(n:ax)(k:Nat)(ls:List Bool)(cs:List (List aO)):Prop where
 tL:ls.length=n.au.length
 mA:cs.length=n.aa.length
 ok:∀(i:Nat) (m:bC) (c:List aO),n.aa[i]?=some m->cs[i]?=some c->mR m k c
theorem R7(c:List aO)(a:Int):rd c a=0\/∃p∈c,rd c a=p.2.1:=by
 induction c with
 |nil=>exact .inl rfl|cons p c ih=>
  rw[Lb];by_cases q:p.1=a
  .rw[if_pos q];exact .inr ⟨p,by simp,rfl⟩
  .rw[if_neg q];rcases ih with h|⟨r,hr,h⟩
   .exact .inl h
   .exact .inr ⟨r,by simp[hr],h⟩
theorem aff{m:bC}{k:Nat}{c:List aO}(h:mR m k c)(hw:m.word<=64)(a:Int):0<=rd c a/\rd c a<18446744073709551616:=by
 rcases R7 c a with e|⟨p,hp,e⟩
 .omega
 .have:=h.wd p hp;have h2:(2:Int)^m.word.toNat<=2^64:=by
   have:=Nat.pow_le_pow_right (n:=2) (by decide) (show m.word.toNat<=64 by omega)
   exact_mod_cast this
  have h3:(2:Int)^64=18446744073709551616:=by decide
  omega
theorem ak5{n:ax}{V:Nat}{x:bz×bp}(h:x∈aU n V):x∈n6 n:=by unfold aU at h;obtain⟨i,_,hx⟩:=List.mem_flatMap.1 h;exact(List.mem_filter.1 hx).1
theorem ak6{n:ax}{V:Nat}(hs:cq n V):(aU n V).length<=9000000:=by have h:=(yT hs).len;unfold aU;have:=y8 (fun(i:Nat)=>(n6 n).filter fun x=>decide (lk (lvl n V) x.2=(i:Int)+1)) (List.range (n6 n).length) 3000 (fun i _=>Nat.le_trans (List.length_filter_le _ _) h);rw[List.length_range]at this;have h2:(n6 n).length*3000<=3000*3000:=Nat.mul_le_mul_right _ h;omega
def bt(n:ax)(cs:List (List aO)):List cZ:=List.zipWith (fun(m:bC) (c:List aO)=>(m.addr,(m.word,(c,())))) n.aa cs
theorem vA{n:ax}{cs:List (List aO)}(h:cs.length=n.aa.length):(bt n cs).length=n.aa.length:=by unfold bt;rw[List.length_zipWith];omega
theorem vD{n:ax}{cs:List (List aO)}{i:Nat}{m:bC}{c:List aO}(h1:n.aa[i]?=some m)(h2:cs[i]?=some c):(bt n cs)[i]?=some (m.addr,(m.word,(c,()))):=by unfold bt;rw[List.getElem?_zipWith,h1,h2]
theorem alw{u A:List Bool}{b:Bool}{off:Nat}(h:off+A.length<u.length):jm u off (A++[b])=(jm u off A).set (off+A.length) b:=by
 unfold jm;have hd:=qk (L:=u) (i:=off+A.length) h;have e:u.take off++(A++u.drop (off+A.length))=(u.take off++A)++u[off+A.length]::u.drop (off+A.length+1):=by rw[hd];simp
 rw[e,sM (by rw[List.length_append,List.length_take];omega)];simp[Nat.add_assoc]
theorem adL{u bs:List Bool}{off:Nat}(h:off+bs.length<=u.length):jm u off bs=iH u ((cM (off:Int) bs.length).zip bs):=by
 have hz:((cM (off:Int) bs.length).zip bs).length=bs.length:=by rw[List.length_zip,tg];omega
 have main:∀k,k<=bs.length->jm u off (bs.take k)=iH u (((cM (off:Int) bs.length).zip bs).take k):=by
  intro k
  induction k with
  |zero=>intro _;rw[List.take_zero,List.take_zero,YM];rfl|succ k ih=>
   intro hk;have h1:=List.getElem?_eq_getElem (l:=bs) (i:=k) (by omega);have h2:(cM (off:Int) bs.length)[k]?=some ((off:Int)+(k:Int)):=by unfold cM;rw[List.getElem?_map,List.getElem?_range (by omega)];rfl
   have h3:((cM (off:Int) bs.length).zip bs)[k]?=some ((off:Int)+(k:Int),bs[k]):=by rw[List.getElem?_zip_eq_some];exact⟨h2,h1⟩
   have hl:(bs.take k).length=k:=by rw[List.length_take];omega
   rw[Pl.dm h1,Pl.dm h3,Km,<-ih (by omega),alw (by rw[hl];omega),hl];congr 1
 have:=main bs.length (Nat.le_refl _);rw[List.take_length]at this;rw[this,List.take_of_length_le (Nat.le_of_eq hz)]
theorem alb(a ad w:Int)(M:List aO):tt (a,(ad,(w,(M,()))))=some (rd M a,(ad,(w,(M,())))):=by show Nz a ad w M=_;unfold Nz;exact congrArg (fun z:Int=>(some (z,(ad,(w,(M,())))):Option (Out wu))) (um M a)
def mc{α:Type}(n:ax)(ord:List (bz×bp))(ls:List Bool)(rs:List cZ)(r:α):=nt n (ord.map (fun x=>cY x.1),(ls,(rs,r)))
section
variable{n:ax}{V:Nat}(hs:cq n V)(ft:Fit n)
include hs
theorem alS(ord:List (bz×bp))(ls ins:List Bool)(rs:List cZ)(v:List Bool)(hv:v.length=V+1)(hi:ins.length=n.aJ.length) :
  Js (ins,((ins.length:Int),((0:Int),mc n ord ls rs (v,()))))=some (mc n ord ls rs (iH v (n.aJ.zip ins),())):=by
 have hl:=hs.lens.1;have hz:(n.aJ.zip ins).length=n.aJ.length:=by rw[List.length_zip];omega
 unfold Js;delta dV;refine cP (fun k:Nat=>(ins,((ins.length:Int),((k:Int),mc n ord ls rs (iH v ((n.aJ.zip ins).take k),()))))) n.aJ.length rfl ?_ ?_ (bA (by omega))
 .intro k hk;have h1:=List.getElem?_eq_getElem hk;have h2:=List.getElem?_eq_getElem (l:=ins) (i:=k) (by omega);have h3:(n.aJ.zip ins)[k]?=some (n.aJ[k],ins[k]):=by rw[List.getElem?_zip_eq_some];exact⟨h1,h2⟩
  have hr:=hs.OK n.aJ[k] (by unfold di;simp);have e:∀(a b:List Bool) (p q:Int),a=b->p=q->(some (.inl (ins,((ins.length:Int),(p,mc n ord ls rs (a,()))))):Option (TL Ap.σs⊕Out Ae))=some (.inl (ins,((ins.length:Int),(q,mc n ord ls rs (b,()))))):=by rintro _ _ _ _ rfl rfl;rfl
  unfold mc nt
  try dsimp only
  unfold AO;have g1:gt (.int .i64) n.aJ (k:Int)=n.aJ[k]:=bn (σ:=.int .i64) h1;refine ao (aj (show(k:Int)<(ins.length:Int) by omega)) (ak (aN ⟨by omega,by omega⟩) (ak (aN ⟨by omega,by omega⟩) (ak ?_ (e _ _ _ _ ?_ (bG (by omega) (by omega))))))
  .rw[g1];exact aN ⟨by omega,by rw[qg,hv];omega⟩
  .rw[Pl.dm h3,Km,g1];have g2:gt .bool ins (k:Int)=ins[k]:=bn (σ:=.bool) h2;rw[g2];rfl
 .unfold mc nt
  try dsimp only
  unfold AO;rw[<-hz,List.take_length,hz];exact af (av (show ¬(n.aJ.length:Int)<(ins.length:Int) by omega)) rfl
theorem af8(ord:List (bz×bp))(ls:List Bool)(rs:List cZ)(v:List Bool)(hv:v.length=V+1)(hi:ls.length=n.au.length) :
  Jh ((ls.length:Int),((0:Int),mc n ord ls rs (v,())))=some (mc n ord ls rs (iH v ((n.au.map (·.var)).zip ls),())):=by
 have hl:=hs.lens.2.1;have hz:((n.au.map (·.var)).zip ls).length=n.au.length:=by rw[List.length_zip,List.length_map];omega
 unfold Jh;delta fX;refine cP (fun k:Nat=>((ls.length:Int),((k:Int),mc n ord ls rs (iH v (((n.au.map (·.var)).zip ls).take k),())))) n.au.length rfl ?_ ?_ (bA (by omega))
 .intro k hk;have h1:=List.getElem?_eq_getElem hk;have h1':(n.au.map bL)[k]?=some (bL n.au[k]):=by rw[List.getElem?_map,h1];rfl
  have h2:=List.getElem?_eq_getElem (l:=ls) (i:=k) (by omega);have h3:((n.au.map (·.var)).zip ls)[k]?=some (n.au[k].var,ls[k]):=by rw[List.getElem?_zip_eq_some,List.getElem?_map,h1];exact⟨rfl,h2⟩
  have hr:=hs.OK n.au[k].var (by unfold di;simp only[List.mem_append];exact .inl (.inl (.inr (List.mem_map.2 ⟨_,List.getElem_mem hk,rfl⟩))));have e:∀(a b:List Bool) (p q:Int),a=b->p=q->(some (.inl ((ls.length:Int),(p,mc n ord ls rs (a,())))):Option (TL Ag.σs⊕Out Aa))=some (.inl ((ls.length:Int),(q,mc n ord ls rs (b,())))):=by rintro _ _ _ _ rfl rfl;rfl
  have hL:((n.au.map bL).length:Int)=(n.au.length:Int):=by rw[List.length_map]
  unfold mc nt
  try dsimp only
  unfold AF;have g1:(gt ae (n.au.map bL) (k:Int)).1=n.au[k].var:=by rw[bn (σ:=ae) h1'];rfl
  refine ao (aj (show(k:Int)<(ls.length:Int) by omega)) (ak (aN ⟨by omega,by omega⟩) (ak (aN ⟨by omega,by omega⟩) (ak ?_ (e _ _ _ _ ?_ (bG (by omega) (by omega))))))
  .rw[g1];exact aN ⟨by omega,by rw[qg,hv];omega⟩
  .rw[Pl.dm h3,Km,g1];have g2:gt .bool ls (k:Int)=ls[k]:=bn (σ:=.bool) h2;rw[g2];rfl
 .unfold mc nt
  try dsimp only
  unfold AF;rw[<-hz,List.take_length,hz];exact af (av (show ¬(n.au.length:Int)<(ls.length:Int) by omega)) rfl
include ft
theorem af9{K:Nat}(hK:K<=5000)(ls:List Bool)(cs:List (List aO))(ok:iB n K ls cs)(v:List Bool)(hv:v.length=V+1) :
  Jg ((aU n V).map (fun x=>cY x.1),(((aU n V).length:Int),((0:Int),mc n (aU n V) ls (bt n cs) (v,()))))=some (mc n (aU n V) ls (bt n cs) ((aU n V).foldl (iV n cs) v,())):=by
 have hol:=ak6 hs;have h6:=yT hs;unfold Jg;delta dV;refine cP (fun k:Nat=>((aU n V).map (fun x=>cY x.1),(((aU n V).length:Int),((k:Int),mc n (aU n V) ls (bt n cs) (((aU n V).take k).foldl (iV n cs) v,()))))) (aU n V).length rfl ?_ ?_ (bA (by omega))
 .intro k hk;have hx:=List.getElem?_eq_getElem hk;have hm:=ak5 (List.getElem_mem hk);have hst:((aU n V).take (k+1)).foldl (iV n cs) v=iV n cs (((aU n V).take k).foldl (iV n cs) v) (aU n V)[k]:=by rw[Pl.dm hx,List.foldl_append];rfl
  have hlen:(((aU n V).take k).foldl (iV n cs) v).length=V+1:=by rw[XB,hv]
  generalize ((aU n V).take k).foldl (iV n cs) v=u at hst hlen;have hx':((aU n V).map (fun x=>cY x.1))[k]?=some (cY (aU n V)[k].1):=by rw[List.getElem?_map,hx];rfl
  generalize (aU n V)[k]=x at hx' hm hst;have hi:=dy hx';have his:=Gq n hm;have hmI:x.2∈fh n:=by rw[<-sr];exact List.mem_map_of_mem hm
  have hg:gt ah ((aU n V).map (fun x=>cY x.1)) (k:Int)=cY x.1:=bn (σ:=ah) hx';have aT:aw (k:Int) (List.length ((aU n V).map (fun x=>cY x.1)))=true:=aN ⟨by omega,by omega⟩;have e:∀(a b:List Bool) (p q:Int) (R R':List cZ),a=b->p=q->R=R'->(some (.inl ((aU n V).map (fun x=>cY x.1),(((aU n V).length:Int),(p,mc n (aU n V) ls R (a,()))))):Option (TL Af.σs⊕Out z8))=some (.inl ((aU n V).map (fun x=>cY x.1),(((aU n V).length:Int),(q,mc n (aU n V) ls R' (b,()))))):=by rintro _ _ _ _ _ _ rfl rfl rfl;rfl
  have hk1:IntKind.wrap .i64 ((k:Int)+(1:Int))=((k+1:Nat):Int):=bG (by omega) (by omega);rw[hst];unfold mc nt
  try dsimp only
  unfold AE;rw[hg];refine ao (aj (show(k:Int)<((aU n V).length:Int) by omega)) (ak aT ?_);have hf:=h6.aS x hm;have hv2:=hs.v2;rcases his with⟨h,a,ha,hI⟩|⟨h,M,r,hM,hr,hI⟩
  .-- a gate
   have fB:x.2.to=[a.var]:=by rw[hI];rfl
   have hfr:x.2.aS=[a.a,a.b]:=by rw[hI];rfl
   have ra:=hf.2 a.a (by rw[hfr];simp);have rb:=hf.2 a.b (by rw[hfr];simp);have rv:=hs.lO hmI (v:=a.var) (by rw[fB];simp);have ha':(n.aM.map dj)[x.1.pos]?=some (dj a):=by rw[List.getElem?_map,ha];rfl
   have hal:=dy ha';have gA:gt ae (n.aM.map dj) (x.1.pos:Int)=dj a:=bn (σ:=ae) ha';have e0:jA ((gt ae (n.aM.map dj) (x.1.pos:Int)).2.1,(u,()))=some (cw a.a u,()):=by rw[gA];exact ql a.a u (by omega)
   have e1:jA ((gt ae (n.aM.map dj) (x.1.pos:Int)).2.2.1,(u,()))=some (cw a.b u,()):=by rw[gA];exact ql a.b u (by omega)
   have gv:(gt ae (n.aM.map dj) (x.1.pos:Int)).1=a.var:=by rw[gA];rfl
   have iv:aw (gt ae (n.aM.map dj) (x.1.pos:Int)).1 (List.length u)=true:=by rw[gv];exact aN ⟨by omega,by omega⟩
   have hn:iV n cs u x=u.set a.var.toNat (cw a.a u&&cw a.b u):=by unfold iV;rw[if_pos h,fB,hfr];rfl
   have ee:∀(p q:Int) (c d:Bool),p=q->c=d->List.set u (Int.toNat p) c=List.set u (Int.toNat q) d:=by rintro _ _ _ _ rfl rfl;rfl
   refine ao (show Bool.not x.1.rd=true by rw[h];rfl) (ak (show aw (x.1.pos:Int) (List.length (n.aM.map dj))=true from aN ⟨by omega,by omega⟩) (ag e0 ?_));cases hA:cw a.a u with
   |true=>refine ao rfl (ak (aj rfl) (ag e1 (ak iv (ak (aj rfl) (e _ _ _ _ _ _ ?_ hk1 rfl)))));rw[hn,hA];exact ee _ _ _ _ gv (by cases cw a.b u<;>rfl)
   |false=>refine af rfl (ak (aj rfl) (ak iv (e _ _ _ _ _ _ ?_ hk1 rfl)));rw[hn,hA];exact ee _ _ _ _ gv rfl
  .-- a port
   have hMm:=List.mem_of_getElem? hM;obtain⟨hm1,hm2,hm3,hm4,hm5,hm6,_⟩:=hs.aa M hMm;have hrm:=List.mem_of_getElem? hr;have fB:x.2.to=cM r.var M.word.toNat:=by rw[hI];rfl
   have hfr:x.2.aS=r.addr:=by rw[hI];rfl
   have hfl:=hm5 r hrm;have hml:=dy hM;have hcs:=ok.mA;have hcc:=List.getElem?_eq_getElem (l:=cs) (i:=x.1.mem) (by omega);have hcok:=ok.ok x.1.mem M cs[x.1.mem] hM hcc;have hM':(n.aa.map aq)[x.1.mem]?=some (aq M):=by rw[List.getElem?_map,hM];rfl
   have hR':(M.reads.map dv)[x.1.pos]?=some (dv r):=by rw[List.getElem?_map,hr];rfl
   have hrl:=dy hR';have gM:gt ab (n.aa.map aq) (x.1.mem:Int)=aq M:=bn (σ:=ab) hM';have gR:gt bO (gt ab (n.aa.map aq) (x.1.mem:Int)).2.2.2.1 (x.1.pos:Int)=dv r:=by rw[gM];exact bn (σ:=bO) hR'
   obtain⟨W,hW⟩:=Int.eq_ofNat_of_zero_le (show 0<=M.word by omega);have htl:x.2.to.length=W:=by rw[fB,tg,hW];rfl
   have rv0:=hs.lO hmI (v:=r.var) (by rw[fB];unfold cM;exact List.mem_map.2 ⟨0,List.mem_range.2 (by omega),by simp⟩);have rv1:=hs.lO hmI (v:=r.var+((W-1:Nat):Int)) (by rw[fB];unfold cM;exact List.mem_map.2 ⟨W-1,List.mem_range.2 (by omega),rfl⟩);obtain⟨p,hp⟩:=Int.eq_ofNat_of_zero_le (show 0<=r.var by omega);have e2:qh ((gt bO (gt ab (n.aa.map aq) (x.1.mem:Int)).2.2.2.1 (x.1.pos:Int)).2.1,(u,()))=some ((cp (x.2.aS.map (cw · u)):Int),()):=by rw[gR,hfr];exact KW r.addr u (by omega) (fun l hl=>by have:=hf.2 l (by rw[hfr];exact hl);omega)
   have hra:=vD (n:=n) (cs:=cs) hM hcc;have hrd:List.getD (bt n cs) (Int.toNat (x.1.mem:Int)) zR=(M.addr,(M.word,(cs[x.1.mem],()))):=by rw[List.getD_eq_getElem?_getD,Int.toNat_natCast,hra];rfl
   have e1:tt ((cp (x.2.aS.map (cw · u)):Int),((List.getD (bt n cs) (Int.toNat (x.1.mem:Int)) zR).1,((List.getD (bt n cs) (Int.toNat (x.1.mem:Int)) zR).2.1,((List.getD (bt n cs) (Int.toNat (x.1.mem:Int)) zR).2.2.1,()))))=some (rd cs[x.1.mem] (cp (x.2.aS.map (cw · u))),(M.addr,(M.word,(cs[x.1.mem],())))):=by rw[hrd];exact alb _ _ _ _
   have hrr:=aff hcok (by omega) (cp (x.2.aS.map (cw · u)));obtain⟨q,hq⟩:=Int.eq_ofNat_of_zero_le hrr.1;have e0:iZ (rd cs[x.1.mem] (cp (x.2.aS.map (cw · u))),((gt ab (n.aa.map aq) (x.1.mem:Int)).2.1,()))=some (bN q W,()):=by
    have gw:(gt ab (n.aa.map aq) (x.1.mem:Int)).2.1=M.word:=by rw[gM];rfl
    rw[gw,hq,hW];exact oB q W (by omega) (by omega)
   have hn:iV n cs u x=iH u (x.2.to.zip (bN q W)):=by unfold iV;rw[if_neg (by rw[h];simp),List.getD_eq_getElem?_getD,hcc,htl];show iH u (x.2.to.zip (bN (rd cs[x.1.mem] _).toNat W))=_;rw[hq];rfl
   have gvr:(gt bO (gt ab (n.aa.map aq) (x.1.mem:Int)).2.2.2.1 (x.1.pos:Int)).1=(p:Int):=by rw[gR,<-hp];rfl
   have hcp:jm u p (List.take (u.length-p) (bN q W))=iV n cs u x:=by rw[List.take_of_length_le (by rw[j7];omega),hn,adL (by rw[j7];omega),j7,fB,hp,hW];rfl
   have hset:List.set (bt n cs) (Int.toNat (x.1.mem:Int)) (M.addr,(M.word,(cs[x.1.mem],())))=bt n cs:=by rw[Int.toNat_natCast];have hlt:=dy hra;rw[List.getElem?_eq_getElem hlt]at hra;injection hra with hra;rw[<-hra];exact List.set_getElem_self hlt
   have hb:∀y:Int,y=(p:Int)->both (iE (0:Int) y) (iE y (Int.ofNat (List.length u)))=true:=by rintro _ rfl;show both (decide _) (decide _)=true;rw[decide_eq_true (by omega),decide_eq_true (by show(p:Int)<=(u.length:Int);omega)];rfl
   have ee:∀(y:Int),y=(p:Int)->jm u (Int.toNat y) (List.take (u.length-Int.toNat y) (bN q W))=iV n cs u x:=by rintro _ rfl;rw[Int.toNat_natCast];exact hcp
   refine af (show Bool.not x.1.rd=false by rw[h];rfl) (ak (show aw (x.1.mem:Int) (List.length (n.aa.map aq))=true from aN ⟨by omega,by rw[List.length_map];omega⟩) (ak (show aw (x.1.pos:Int) (List.length (gt ab (n.aa.map aq) (x.1.mem:Int)).2.2.2.1)=true by rw[gM];exact aN ⟨by omega,by show _<((M.reads.map dv).length:Int);omega⟩)
    (ak (show aw (x.1.mem:Int) (List.length (bt n cs))=true from aN ⟨by omega,by rw[vA ok.mA];omega⟩) (ag e2 (ag e1 (ak (hb _ gvr) (ag e0 (e _ _ _ _ _ _ (ee _ gvr) hk1 hset))))))))
 .unfold mc nt
  try dsimp only
  unfold AE;rw[List.take_length];exact af (av (show ¬((aU n V).length:Int)<((aU n V).length:Int) by omega)) rfl
theorem ak9{K:Nat}(hK:K<=5000)(ls ins:List Bool)(cs:List (List aO))(ok:iB n K ls cs)(hi:ins.length=n.aJ.length) :
  WD (ins,mc n (aU n V) ls (bt n cs) ())=some ((0:Int),mc n (aU n V) ls (bt n cs) (jF n ls cs ins,())):=by
 have hv2:=hs.v2;have hV:n.vars.toNat=V:=by rw[hs.vars];rfl
 have hw:IntKind.wrap (.i64:IntKind) (n.vars+1)=((V+1:Nat):Int):=by rw[hs.vars,bK (by omega)];omega
 have e5:=alS hs (aU n V) ls ins (bt n cs) (List.replicate (V+1) false) (by simp) hi;have e10:=af8 hs (aU n V) ls (bt n cs) (iH (List.replicate (V+1) false) (n.aJ.zip ins)) (by rw[qg];simp) ok.tL;have hval:iH (iH (List.replicate (V+1) false) (n.aJ.zip ins)) ((n.au.map (·.var)).zip ls)=qz n ls ins:=by unfold qz;rw[hV]
 rw[hval]at e10;have e16:=af9 hs ft hK ls cs ok (qz n ls ins) (by rw[akb,hV]);have hfin:(aU n V).foldl (iV n cs) (qz n ls ins)=jF n ls cs ins:=by unfold jF;rw[hV]
 rw[hfin]at e16;have hol:((aU n V).length:Int)=((((aU n V).map (fun x=>cY x.1)).length:Nat):Int):=by rw[List.length_map]
 rw[hol]at e16;show JB jA iZ qh tt Js Jh Jg ins n.vars n.aJ (n.au.map bL) n.bJ n.ba n.constraints (n.aa.map aq) (n.aM.map dj) ((aU n V).map (fun x=>cY x.1)) ls (bt n cs)=_;unfold JB;have q1:(iQ (Int.ofNat (List.length ins)) (Int.ofNat (List.length n.aJ)))=true:=aj (by rw[hi]);rw[hw];refine af (by rw[q1];rfl) (ak (by show both (decide _) (both (decide _) (decide _))=true;rw[decide_eq_true (by omega),decide_eq_true (by omega),decide_eq_true (by show(1:Int)*_<=_;omega)];rfl) (ag e5 (ag e10 (ag e16 rfl))))
end
def nH(v:List Bool)(c:List aO)(w:mw):List aO:=if cw w.on v=true then wr c (cp (w.addr.map (cw · v))) (cp (w.data.map (cw · v)))else c
def rP(v:List Bool)(m:bC)(c:List aO):List aO:=m.writes.foldl (nH v) c
def gK(n:ax)(v:List Bool):List Bool:=n.au.map fun l=>cw l.next v
def iu(n:ax)(cs:List (List aO))(v:List Bool):List (List aO):=List.zipWith (rP v) n.aa cs
def j2(n:ax)(v:List Bool):List Bool:=n.ba.map (cw · v)
def oK(n:ax)(v:List Bool):Bool:=n.constraints.all (cw · v)
theorem YO{a:Int}{q:aO}:∀{L:List aO},q∈oY a L->q∈L
 |[],h=>h|p::M,h=>by
  rw[XK]at h;split at h
  .simp[h]
  .rcases List.mem_cons.1 h with h|h
   .simp[h]
   .simp[YO h]
theorem YN{a w:Int}{q:aO}:∀{L:List aO},q∈oZ a w L->q=(a,w,())\/q∈L
 |[],h=>by have:q∈[((a,w,()):aO)]:=h;simp at this;exact .inl this|p::M,h=>by
  rw[XE]at h;split at h
  .rcases List.mem_cons.1 h with h|h
   .exact .inl h
   .exact .inr h
  .split at h
   .rcases List.mem_cons.1 h with h|h
    .exact .inl h
    .exact .inr (by simp[h])
   .rcases List.mem_cons.1 h with h|h
    .exact .inr (by simp[h])
    .rcases YN h with h|h
     .exact .inl h
     .exact .inr (by simp[h])
theorem Si{a w:Int}{q:aO}{L:List aO}(h:q∈wr L a w):(w≠0/\q=(a,w,()))\/q∈L:=by
 unfold wr at h;split at h
 .exact .inr (YO h)
 .rename_i h0;rcases YN h with h|h
  .exact .inl ⟨h0,h⟩
  .exact .inr h
theorem BL{l:List Bool}{k:Int}(h:(l.length:Int)=k):((cp l:Nat):Int)<2^k.toNat:=by
 have e:k.toNat=l.length:=by omega
 have:=lZ l;rw[e]
 exact_mod_cast this
theorem afx{m:bC}{k:Nat}{c:List aO}{v:List Bool}{w:mw}(h:mR m k c)(ha:(w.addr.length:Int)=m.addr)(hd:(w.data.length:Int)=m.word):mR m (k+1) (nH v c w):=by
 unfold nH;split
 .refine⟨afz h.jH,Nat.le_trans (afy _ _ _) (by have:=h.len;omega),fun p hp=>?_,fun p hp=>?_⟩
  .rcases Si hp with⟨h0,rfl⟩|hp
   .exact⟨by show(0:Int)<=((cp _:Nat):Int);omega,BL (by rw[List.length_map];exact ha)⟩
   .exact h.at_ p hp
  .rcases Si hp with⟨h0,rfl⟩|hp
   .exact⟨by show(0:Int)<((cp _:Nat):Int);omega,BL (by rw[List.length_map];exact hd)⟩
   .exact h.wd p hp
 .exact⟨h.jH,by have:=h.len;omega,h.at_,h.wd⟩
theorem Yy{m:bC}{v:List Bool}:∀{l:List mw}{k:Nat}{c:List aO},mR m k c->(∀w∈l,(w.addr.length:Int)=m.addr/\(w.data.length:Int)=m.word)->mR m (k+l.length) (l.foldl (nH v) c)
 |[],k,c,h,_=>h|w::l,k,c,h,hw=>by have:=Yy (v:=v) (l:=l) (afx (v:=v) h (hw w (by simp)).1 (hw w (by simp)).2) (fun x hx=>hw x (by simp[hx]));rw[List.foldl_cons,List.length_cons];rw[show k+1+l.length=k+(l.length+1) by omega]at this;exact this
theorem BQ{n:ax}{V:Nat}(hs:cq n V){K:Nat}{ls:List Bool}{cs:List (List aO)}(ok:iB n K ls cs)(v:List Bool):iB n (K+4) (gK n v) (iu n cs v):=by
 refine⟨by unfold gK;rw[List.length_map],by unfold iu;rw[List.length_zipWith];have:=ok.mA;omega,fun i m c hm hc=>?_⟩;unfold iu at hc;rw[List.getElem?_zipWith,hm]at hc;have hlt:=dy hm;have hlc:i<cs.length:=by have:=ok.mA;omega
 have h2:=List.getElem?_eq_getElem hlc;rw[h2]at hc;injection hc with hc;obtain⟨_,_,_,_,_,h6,_,h8⟩:=hs.aa m (List.mem_of_getElem? hm);have:=Yy (v:=v) (ok.ok i m cs[i] hm h2) h6;rw[<-hc];exact⟨this.jH,by have:=this.len;unfold rP;omega,this.at_,this.wd⟩
section
variable{n:ax}{V:Nat}(hs:cq n V)
include hs
theorem sv{l:Int}(h:l∈dq n):l<9223372036854775808:=by have:=hs.lits l h;have:=hs.v2;omega
theorem akM{m:bC}{w:mw}(hm:m∈n.aa)(hw:w∈m.writes):w.on<9223372036854775808/\(∀l∈w.addr,l<9223372036854775808)/\∀l∈w.data,l<9223372036854775808:=by
 have aT:∀l∈oN w,l∈dq n:=fun l hl=>by unfold dq;simp only[List.mem_append];refine .inl (.inr (List.mem_flatMap.2 ⟨m,hm,?_⟩));unfold mX;rw[List.mem_append];exact .inr (List.mem_flatMap.2 ⟨w,hw,hl⟩)
 exact⟨sv hs (aT _ (by unfold oN;simp)),fun l hl=>sv hs (aT _ (by unfold oN;simp[hl])),fun l hl=>sv hs (aT _ (by unfold oN;simp[hl]))⟩
end
theorem BR{x k:Int}(h0:0<=x)(h:x<2^k.toNat):ir x k=true:=by unfold ir;rw[decide_eq_true (Int.ediv_eq_zero_of_lt h0 h)]
theorem akW{m:bC}{a w:Nat}{M:List aO}(m1:1<=m.addr/\m.addr<=62)(m2:1<=m.word/\m.word<=64)(ha:(a:Int)<2^m.addr.toNat)(hw:(w:Int)<2^m.word.toNat) :
  NY ((a:Int),((w:Int),(m.addr,(m.word,(M,())))))=some (true,(m.addr,(m.word,(wr M a w,())))):=by
 have f1:=tC (v:=(a:Int)) (w:=m.addr) ⟨by omega,by omega⟩;have f2:=tC (v:=(w:Int)) (w:=m.word) ⟨by omega,by omega⟩;rw[BR (by omega) ha]at f1;rw[BR (by omega) hw]at f2;show Nx Di (a:Int) (w:Int) m.addr m.word M=_;unfold Nx;have e:∀A B:List aO,A=B->(some (true,(m.addr,(m.word,(A,())))):Option (Out Dj))=some (true,(m.addr,(m.word,(B,())))):=by rintro _ _ rfl;rfl
 refine ag f1 (af rfl (ag f2 (af rfl ?_)));unfold wr;by_cases h0:(w:Int)=0
 .rw[if_pos h0];exact ao (aj h0) (e _ _ (Le _ _))
 .rw[if_neg h0];exact af (av h0) (e _ _ (Lc _ _ _))
section
variable{n:ax}{V:Nat}(hs:cq n V)
include hs
theorem adC(ord:List (bz×bp))(ls:List Bool)(rs:List cZ)(v:List Bool){i K:Nat}{m:bC}{c:List aO}(hm:n.aa[i]?=some m)(hc:mR m K c)(hK:K<=5000)(hr:i<rs.length) :
  Jz ((i:Int),(m.writes.map dK,((m.writes.length:Int),((0:Int),mc n ord ls (rs.set i (m.addr,(m.word,(c,())))) (v,())))))=some (mc n ord ls (rs.set i (m.addr,(m.word,(rP v m c,())))) (v,())):=by
 have hmm:=List.mem_of_getElem? hm;obtain⟨m1,m2,m3,m4,_,h6,_,h8⟩:=hs.aa m hmm;unfold Jz;delta u16;refine cP (fun k:Nat=>((i:Int),(m.writes.map dK,((m.writes.length:Int),((k:Int),mc n ord ls (rs.set i (m.addr,(m.word,((m.writes.take k).foldl (nH v) c,())))) (v,())))))) m.writes.length rfl ?_ ?_ (bA (by omega))
 .intro k hk;have hx:=List.getElem?_eq_getElem hk;have hwm:=List.getElem_mem hk;have hst:(m.writes.take (k+1)).foldl (nH v) c=nH v ((m.writes.take k).foldl (nH v) c) m.writes[k]:=by rw[Pl.dm hx,List.foldl_append];rfl
  rw[hst];generalize (m.writes.take k).foldl (nH v) c=u;obtain⟨l1,l2,l3⟩:=akM hs hmm hwm;obtain⟨a1,a2⟩:=h6 _ hwm;have hw':(m.writes.map dK)[k]?=some (dK m.writes[k]):=by rw[List.getElem?_map,hx];rfl
  have hwl:=dy hw';generalize m.writes[k]=w at l1 l2 l3 a1 a2 hw';have gW:gt bE (m.writes.map dK) (k:Int)=dK w:=bn (σ:=bE) hw';have e0:jA ((gt bE (m.writes.map dK) (k:Int)).1,(v,()))=some (cw w.on v,()):=by rw[gW];exact ql w.on v l1
  have e1:qh ((gt bE (m.writes.map dK) (k:Int)).2.1,(v,()))=some ((cp (w.addr.map (cw · v)):Int),()):=by rw[gW];exact KW w.addr v (by omega) l2
  have e2:qh ((gt bE (m.writes.map dK) (k:Int)).2.2.1,(v,()))=some ((cp (w.data.map (cw · v)):Int),()):=by rw[gW];exact KW w.data v (by omega) l3
  have hg:List.getD (rs.set i (m.addr,(m.word,(u,())))) (Int.toNat (i:Int)) zR=(m.addr,(m.word,(u,()))):=by rw[List.getD_eq_getElem?_getD,Int.toNat_natCast,List.getElem?_set_self hr];rfl
  have e3:NY ((cp (w.addr.map (cw · v)):Int),((cp (w.data.map (cw · v)):Int),((List.getD (rs.set i (m.addr,(m.word,(u,())))) (Int.toNat (i:Int)) zR).1,((List.getD (rs.set i (m.addr,(m.word,(u,())))) (Int.toNat (i:Int)) zR).2.1,((List.getD (rs.set i (m.addr,(m.word,(u,())))) (Int.toNat (i:Int)) zR).2.2.1,())))))=some (true,(m.addr,(m.word,(wr u (cp (w.addr.map (cw · v))) (cp (w.data.map (cw · v))),())))):=by rw[hg];exact akW ⟨m1,m2⟩ ⟨m3,m4⟩ (BL (by rw[List.length_map];exact a1)) (BL (by rw[List.length_map];exact a2))
  have e:∀(A B:List cZ) (p q:Int),A=B->p=q->(some (.inl ((i:Int),(m.writes.map dK,((m.writes.length:Int),(p,mc n ord ls A (v,())))))):Option (TL AD.σs⊕Out Ak))=some (.inl ((i:Int),(m.writes.map dK,((m.writes.length:Int),(q,mc n ord ls B (v,())))))):=by rintro _ _ _ _ rfl rfl;rfl
  unfold mc nt
  try dsimp only
  unfold AS;refine ao (aj (show(k:Int)<(m.writes.length:Int) by omega)) (ak (aN ⟨by omega,by omega⟩) (ag e0 ?_));unfold nH;cases hon:cw w.on v with|true=>rw[if_pos rfl];refine ao rfl (ag e1 (ag e2 (ag e3 (e _ _ _ _ ?_ (bG (by omega) (by omega))))));exact List.set_set _|false=>rw[if_neg (by simp)];exact af rfl (e _ _ _ _ rfl (bG (by omega) (by omega)))
 .unfold mc nt
  try dsimp only
  unfold AS;rw[List.take_length];exact af (av (show ¬(m.writes.length:Int)<(m.writes.length:Int) by omega)) rfl
theorem ali(ord:List (bz×bp))(ls:List Bool)(rs:List cZ)(v:List Bool){i K:Nat}{m:bC}{c:List aO}(hm:n.aa[i]?=some m)(hc:mR m K c)(hK:K<=5000)(hr:rs[i]?=some (m.addr,(m.word,(c,())))) :
  WR ((i:Int),mc n ord ls rs (v,()))=some (mc n ord ls (rs.set i (m.addr,(m.word,(rP v m c,())))) (v,())):=by
 have hm':(n.aa.map aq)[i]?=some (aq m):=by rw[List.getElem?_map,hm];rfl
 have hi:=dy hm';have hri:=dy hr;have hset:rs.set i (m.addr,(m.word,(c,())))=rs:=by rw[List.getElem?_eq_getElem hri]at hr;injection hr with hr;rw[<-hr];exact List.set_getElem_self hri
 have e2:=adC hs ord ls rs v hm hc hK hri;rw[hset]at e2;have gM:gt ab (n.aa.map aq) (i:Int)=aq m:=bn (σ:=ab) hm';have hwl:((gt ab (n.aa.map aq) (i:Int)).2.2.2.2.1)=m.writes.map dK:=by rw[gM];rfl
 have ee:∀(L:List bE.T),L=m.writes.map dK->Jz ((Int.ofNat (Int.toNat (i:Int))),(L,((Int.ofNat L.length),((0:Int),mc n ord ls rs (v,())))))=some (mc n ord ls (rs.set i (m.addr,(m.word,(rP v m c,())))) (v,())):=by
  rintro _ rfl;have hl:Int.ofNat (m.writes.map dK).length=(m.writes.length:Int):=by rw[List.length_map];rfl
  rw[hl];exact e2
 exact ak (show aw (i:Int) (List.length rs)=true from aN ⟨by omega,by omega⟩) (ak (show aw (i:Int) (List.length (n.aa.map aq))=true from aN ⟨by omega,by omega⟩) (ag (ee _ hwl) rfl))
theorem aez(ord:List (bz×bp))(ls:List Bool)(rs:List cZ)(v:List Bool) :
  Xj (n.constraints,((n.constraints.length:Int),((0:Int),mc n ord ls rs (true,(v,())))))=some (mc n ord ls rs (oK n v,(v,()))):=by
 have hl:=hs.lens.2.2.2.1;unfold Xj;delta u16;refine cP (fun k:Nat=>(n.constraints,((n.constraints.length:Int),((k:Int),mc n ord ls rs ((n.constraints.take k).all (cw · v),(v,())))))) n.constraints.length rfl ?_ ?_ (bA (by omega))
 .intro k hk;have hx:=List.getElem?_eq_getElem hk;have hm:n.constraints[k]∈dq n:=by unfold dq;simp only[List.mem_append];exact .inl (.inl (.inr (List.getElem_mem hk)))
  have e1:jA (gt (.int .i64) n.constraints (k:Int),(v,()))=some (cw n.constraints[k] v,()):=by rw[bn (σ:=.int .i64) hx];exact ql _ _ (sv hs hm)
  have ht:(n.constraints.take (k+1)).all (cw · v)=((n.constraints.take k).all (cw · v)&&cw n.constraints[k] v):=by rw[Pl.dm hx,List.all_append];simp
  have e:∀(a b:Bool) (p q:Int),a=b->p=q->(some (.inl (n.constraints,((n.constraints.length:Int),(p,mc n ord ls rs (a,(v,())))))):Option (TL AP.σs⊕Out AG))=some (.inl (n.constraints,((n.constraints.length:Int),(q,mc n ord ls rs (b,(v,())))))):=by rintro _ _ _ _ rfl rfl;rfl
  rw[ht];unfold mc nt
  try dsimp only
  unfold A7;refine ao (aj (show(k:Int)<(n.constraints.length:Int) by omega)) (ak (aN ⟨by omega,by omega⟩) ?_);cases(n.constraints.take k).all (cw · v)with
  |true=>exact ao rfl (ag e1 (e _ _ _ _ (by cases cw n.constraints[k] v<;>rfl) (bG (by omega) (by omega))))
  |false=>exact af rfl (e _ _ _ _ rfl (bG (by omega) (by omega)))
 .unfold mc nt
  try dsimp only
  unfold A7;rw[List.take_length];exact af (av (show ¬(n.constraints.length:Int)<(n.constraints.length:Int) by omega)) rfl
theorem adp(ord:List (bz×bp))(ls:List Bool)(rs:List cZ)(f:Bool)(v:List Bool) :
  W6 (n.ba,((n.ba.length:Int),((0:Int),mc n ord ls rs (f,([],(v,()))))))=some (mc n ord ls rs (f,(j2 n v,(v,())))):=by
 have hl:=hs.lens.2.2.2.1;unfold W6;delta mH;refine cP (fun k:Nat=>(n.ba,((n.ba.length:Int),((k:Int),mc n ord ls rs (f,((n.ba.take k).map (cw · v),(v,()))))))) n.ba.length rfl ?_ ?_ (bA (by omega))
 .intro k hk;have hx:=List.getElem?_eq_getElem hk;have hm:n.ba[k]∈dq n:=by unfold dq;simp only[List.mem_append];exact .inl (.inl (.inl (.inr (List.getElem_mem hk))))
  have e1:jA (gt (.int .i64) n.ba (k:Int),(v,()))=some (cw n.ba[k] v,()):=by rw[bn (σ:=.int .i64) hx];exact ql _ _ (sv hs hm)
  have ht:(n.ba.take (k+1)).map (cw · v)=(n.ba.take k).map (cw · v)++[cw n.ba[k] v]:=by rw[Pl.dm hx,List.map_append];rfl
  have e:∀(a b:List Bool) (p q:Int),a=b->p=q->(some (.inl (n.ba,((n.ba.length:Int),(p,mc n ord ls rs (f,(a,(v,()))))))):Option (TL AK.σs⊕Out Au))=some (.inl (n.ba,((n.ba.length:Int),(q,mc n ord ls rs (f,(b,(v,()))))))):=by rintro _ _ _ _ rfl rfl;rfl
  unfold mc nt
  try dsimp only
  unfold AX;exact ao (aj (show(k:Int)<(n.ba.length:Int) by omega)) (ak (aN ⟨by omega,by omega⟩) (ag e1 (ak (Gt _ _ (by rw[List.length_map,List.length_take];omega)) (e _ _ _ _ ht.symm (bG (by omega) (by omega))))))
 .unfold mc nt
  try dsimp only
  unfold AX;rw[List.take_length];exact af (av (show ¬(n.ba.length:Int)<(n.ba.length:Int) by omega)) rfl
theorem YR{α:Type}{A B:List α}{k:Nat}{x:α}(hA:A[k]?=some x)(hB:k<B.length):(A.take k++B.drop k).set k x=A.take (k+1)++B.drop (k+1):=by have hk:=(List.getElem?_eq_some_iff.1 hA).1;rw[qk hB,sM (by rw[List.length_take];omega),Pl.dm hA];simp
theorem adq(ord:List (bz×bp))(ls:List Bool)(rs:List cZ)(f:Bool)(bs v:List Bool)(hls:ls.length=n.au.length) :
  W5 (n.au.map bL,(((n.au.map bL).length:Int),((0:Int),mc n ord ls rs (f,(bs,(v,()))))))=some (mc n ord (gK n v) rs (f,(bs,(v,())))):=by
 have hl:=hs.lens.2.1;have hL:((n.au.map bL).length:Int)=(n.au.length:Int):=by rw[List.length_map]
 have hnl:(gK n v).length=n.au.length:=by unfold gK;rw[List.length_map]
 unfold W5;delta mH;refine cP (fun k:Nat=>(n.au.map bL,(((n.au.map bL).length:Int),((k:Int),mc n ord ((gK n v).take k++ls.drop k) rs (f,(bs,(v,()))))))) n.au.length rfl ?_ ?_ (bA (by omega))
 .intro k hk;have hx:=List.getElem?_eq_getElem hk;have hx':(n.au.map bL)[k]?=some (bL n.au[k]):=by rw[List.getElem?_map,hx];rfl
  have hn:(gK n v)[k]?=some (cw n.au[k].next v):=by unfold gK;rw[List.getElem?_map,hx];rfl
  have hm:n.au[k].next∈dq n:=by unfold dq;simp only[List.mem_append];exact .inl (.inl (.inl (.inl (.inl (List.mem_map.2 ⟨_,List.getElem_mem hk,rfl⟩)))))
  have e1:jA ((gt ae (n.au.map bL) (k:Int)).2.1,(v,()))=some (cw n.au[k].next v,()):=by rw[bn (σ:=ae) hx'];exact ql n.au[k].next v (sv hs hm)
  have hmix:((gK n v).take k++ls.drop k).set k (cw n.au[k].next v)=(gK n v).take (k+1)++ls.drop (k+1):=YR hs hn (by omega);have hml:((gK n v).take k++ls.drop k).length=n.au.length:=by rw[List.length_append,List.length_take,List.length_drop];omega
  have e:∀(a b:List Bool) (p q:Int),a=b->p=q->(some (.inl (n.au.map bL,(((n.au.map bL).length:Int),(p,mc n ord a rs (f,(bs,(v,()))))))):Option (TL AJ.σs⊕Out Ar))=some (.inl (n.au.map bL,(((n.au.map bL).length:Int),(q,mc n ord b rs (f,(bs,(v,()))))))):=by rintro _ _ _ _ rfl rfl;rfl
  unfold mc nt
  try dsimp only
  unfold AW;exact ao (aj (show(k:Int)<((n.au.map bL).length:Int) by omega)) (ak (aN ⟨by omega,by omega⟩) (ag e1 (ak (aN ⟨by omega,by omega⟩) (e _ _ _ _ hmix (bG (by omega) (by omega))))))
 .have hfin:(gK n v).take n.au.length++ls.drop n.au.length=gK n v:=by rw[List.drop_eq_nil_of_le (by omega),List.append_nil,List.take_of_length_le (by omega)]
  rw[hfin];unfold mc nt
  try dsimp only
  unfold AW;exact af (av (show ¬(n.au.length:Int)<((n.au.map bL).length:Int) by omega)) rfl
theorem adr(ord:List (bz×bp))(ls nl:List Bool)(cs:List (List aO)){K:Nat}(hK:K<=5000)(ok:iB n K ls cs)(f:Bool)(bs v:List Bool) :
  W2 (((bt n cs).length:Int),((0:Int),mc n ord nl (bt n cs) (f,(bs,(v,())))))=some (mc n ord nl (bt n (iu n cs v)) (f,(bs,()))):=by
 have hM:=hs.lens.2.2.2.2;have hcl:=ok.mA;have hz:(iu n cs v).length=n.aa.length:=by unfold iu;rw[List.length_zipWith];omega
 have hr1:=vA hcl;have hr2:=vA hz;unfold W2;delta u16;refine cP (fun k:Nat=>(((bt n cs).length:Int),((k:Int),mc n ord nl ((bt n (iu n cs v)).take k++(bt n cs).drop k) (f,(bs,(v,())))))) n.aa.length rfl ?_ ?_ (bA (by omega))
 .intro k hk;have hx:=List.getElem?_eq_getElem hk;have hkc:k<cs.length:=by omega
  have hy:=List.getElem?_eq_getElem hkc;have hn:(iu n cs v)[k]?=some (rP v n.aa[k] cs[k]):=by unfold iu;rw[List.getElem?_zipWith,hx,hy]
  have ha:=vD hx hy;have hb:=vD hx hn;have hmid:((bt n (iu n cs v)).take k++(bt n cs).drop k)[k]?=some (n.aa[k].addr,(n.aa[k].word,(cs[k],()))):=by rw[List.getElem?_append_right (by rw[List.length_take];omega),List.length_take,Nat.min_eq_left (by omega),Nat.sub_self,List.getElem?_drop];exact ha
  have ew:=ali hs ord nl ((bt n (iu n cs v)).take k++(bt n cs).drop k) v hx (ok.ok k _ _ hx hy) hK hmid;rw[YR hs hb (by omega)]at ew;have e:∀(p q:Int) (R:List cZ),p=q->(some (.inl (((bt n cs).length:Int),(p,mc n ord nl R (f,(bs,(v,())))))):Option (TL AH.σs⊕Out Aq))=some (.inl (((bt n cs).length:Int),(q,mc n ord nl R (f,(bs,(v,())))))):=by rintro _ _ _ rfl;rfl
  unfold mc nt
  try dsimp only
  unfold AU;exact ao (aj (show(k:Int)<((bt n cs).length:Int) by omega)) (ag ew (e _ _ _ (bG (by omega) (by omega))))
 .have hfin:(bt n (iu n cs v)).take n.aa.length++(bt n cs).drop n.aa.length=bt n (iu n cs v):=by rw[List.drop_eq_nil_of_le (by omega),List.append_nil,List.take_of_length_le (by omega)]
  rw[hfin];unfold mc nt
  try dsimp only
  unfold AU;exact af (av (show ¬(n.aa.length:Int)<((bt n cs).length:Int) by omega)) rfl
theorem Rb(ft:Fit n){K:Nat}(hK:K<=5000)(ls ins:List Bool)(cs:List (List aO))(ok:iB n K ls cs)(hi:ins.length=n.aJ.length) :
  mQ (ins,mc n (aU n V) ls (bt n cs) ())=some (oK n (jF n ls cs ins),((0:Int),mc n (aU n V) (gK n (jF n ls cs ins)) (bt n (iu n cs (jF n ls cs ins))) (j2 n (jF n ls cs ins),()))):=by
 have ev:=ak9 hs ft hK ls ins cs ok hi;generalize jF n ls cs ins=v at ev;exact ag ev (af rfl (ag (aez hs (aU n V) ls (bt n cs) v) (ag (adp hs (aU n V) ls (bt n cs) (oK n v) v) (ag (adq hs (aU n V) ls (bt n cs) (oK n v) (j2 n v) v ok.tL) (ag (adr hs (aU n V) ls (gK n v) cs hK ok (oK n v) (j2 n v) v) rfl)))))
theorem akT(ord:List (bz×bp))(ls ins:List Bool)(rs:List cZ)(hi:ins.length≠n.aJ.length) :
  WD (ins,mc n ord ls rs ())=some ((1:Int),mc n ord ls rs ([],())):=by
 have q1:(iQ (Int.ofNat (List.length ins)) (Int.ofNat (List.length n.aJ)))=false:=av (fun h=>hi (Int.ofNat.inj h));exact ao (show aQ false true (Bool.not (iQ (Int.ofNat (List.length ins)) (Int.ofNat (List.length n.aJ))))=true by rw[q1];rfl) rfl
theorem alm(ord:List (bz×bp))(ls ins:List Bool)(rs:List cZ)(hi:ins.length≠n.aJ.length) :
  mQ (ins,mc n ord ls rs ())=some (false,((1:Int),mc n ord ls rs ([],()))):=
 ag (akT hs ord ls ins rs hi) (ao rfl rfl)
end
theorem qU{L:List Int}(h:L.length<=1000000):rX (L,())=some (L,()):=ak (p9 (by decide) (by show L.length<=_;omega)) rfl
theorem clL{L:List ae.T}(h:L.length<=1000000):aiz (L,())=some (L,()):=ak (p9 (by decide) (by show L.length<=_;omega)) rfl
theorem clA{L:List ae.T}(h:L.length<=1000000):ai1 (L,())=some (L,()):=ak (p9 (by decide) (by show L.length<=_;omega)) rfl
theorem clM{L:List ab.T}(h:L.length<=1000000):ais (L,())=some (L,()):=ak (p9 (by decide) (by show([]++L).length<=_;rw[List.nil_append];omega)) rfl
theorem clR{L:List bO.T}(h:L.length<=1000000):ID (L,())=some (L,()):=ak (p9 (by decide) (by show([]++L).length<=_;rw[List.nil_append];omega)) rfl
theorem clW{L:List bE.T}(h:L.length<=1000000):Im (L,())=some (L,()):=ak (p9 (by decide) (by show([]++L).length<=_;rw[List.nil_append];omega)) rfl
theorem Oz{L:List Bool}(h:L.length<=1000000):I1 (L,())=some (L,()):=ak (p9 (by decide) (by show([]++L).length<=_;rw[List.nil_append];omega)) rfl
section
variable(i:Nat)(t41 t42 b00:Int)(b01:List Int)(b02:List ae.T)(b03 b04 b05:List Int)(b07:List ae.T)(b1:List ab.T)(m0 m1:Int)(m2:Bool)(rs:List bO.T)(ws:List bE.T)(z:Int)
theorem alB(hr:rs.length<=1000)(hrr:∀r∈rs,r.2.1.length<=100000) :
  Kz ((i:Int),(t41,(t42,((rs.length:Int),((0:Int),(b00,(b01,(b02,(b03,(b04,(b05,(b07,((i:Int),(b1,(m0,(m1,(m2,(rs,(ws,(z,()))))))))))))))))))))=some ((i:Int),(t41,(t42,(b00,(b01,(b02,(b03,(b04,(b05,(b07,((i:Int),(b1,(m0,(m1,(m2,(rs,(ws,(z,())))))))))))))))))):=by
 unfold Kz;delta nG;refine cP (fun k:Nat=>((i:Int),(t41,(t42,((rs.length:Int),((k:Int),(b00,(b01,(b02,(b03,(b04,(b05,(b07,((i:Int),(b1,(m0,(m1,(m2,(rs,(ws,(z,()))))))))))))))))))))) rs.length rfl ?_ ?_ (bA (by omega))
 .intro k hk;have hx:=List.getElem?_eq_getElem hk;have hg:gt bO rs (k:Int)=rs[k]:=bn (σ:=bO) hx;have e1:rX ((gt bO rs (k:Int)).2.1,())=some ((gt bO rs (k:Int)).2.1,()):=qU (by rw[hg];exact Nat.le_trans (hrr _ (List.getElem_mem hk)) (by decide));have e:∀(p q:Int) (A:List bO.T),p=q->A=rs->(some (.inl ((i:Int),(t41,(t42,((rs.length:Int),(p,(b00,(b01,(b02,(b03,(b04,(b05,(b07,((i:Int),(b1,(m0,(m1,(m2,(A,(ws,(z,()))))))))))))))))))))):Option (TL Bo.σs⊕Out Bj))=some (.inl ((i:Int),(t41,(t42,((rs.length:Int),(q,(b00,(b01,(b02,(b03,(b04,(b05,(b07,((i:Int),(b1,(m0,(m1,(m2,(rs,(ws,(z,()))))))))))))))))))))):=by rintro _ _ _ rfl rfl;rfl
  have hi:aw (k:Int) (List.length rs)=true:=aN ⟨by omega,by omega⟩
  try dsimp only
  unfold BA;exact ao (aj (show(k:Int)<(rs.length:Int) by omega)) (ak (by show Nat.beq i i=true;simp) (ak (by show Nat.beq i i=true;simp) (ak hi (ag e1 (ak hi (e _ _ _ (bG (by omega) (by omega)) (La (σ:=bO) hk rfl rfl)))))))
 .try dsimp only
  unfold BA;exact af (av (show ¬(rs.length:Int)<(rs.length:Int) by omega)) rfl
theorem alC(hr:ws.length<=1000)(hrr:∀r∈ws,r.2.1.length<=100000/\r.2.2.1.length<=100000) :
  Ky ((i:Int),(t41,(t42,((ws.length:Int),((0:Int),(b00,(b01,(b02,(b03,(b04,(b05,(b07,((i:Int),(b1,(m0,(m1,(m2,(rs,(ws,(z,()))))))))))))))))))))=some (t41,(t42,(b00,(b01,(b02,(b03,(b04,(b05,(b07,((i:Int),(b1,(m0,(m1,(m2,(rs,(ws,(z,())))))))))))))))) ):=by
 unfold Ky;delta nG;refine cP (fun k:Nat=>((i:Int),(t41,(t42,((ws.length:Int),((k:Int),(b00,(b01,(b02,(b03,(b04,(b05,(b07,((i:Int),(b1,(m0,(m1,(m2,(rs,(ws,(z,()))))))))))))))))))))) ws.length rfl ?_ ?_ (bA (by omega))
 .intro k hk;have hx:=List.getElem?_eq_getElem hk;have hg:gt bE ws (k:Int)=ws[k]:=bn (σ:=bE) hx;have hb:=hrr _ (List.getElem_mem hk);have e1:rX ((gt bE ws (k:Int)).2.1,())=some ((gt bE ws (k:Int)).2.1,()):=qU (by rw[hg];exact Nat.le_trans hb.1 (by decide));have e2:rX ((gt bE ws (k:Int)).2.2.1,())=some ((gt bE ws (k:Int)).2.2.1,()):=qU (by rw[hg];exact Nat.le_trans hb.2 (by decide));have e:∀(p q:Int) (A:List bE.T),p=q->A=ws->(some (.inl ((i:Int),(t41,(t42,((ws.length:Int),(p,(b00,(b01,(b02,(b03,(b04,(b05,(b07,((i:Int),(b1,(m0,(m1,(m2,(rs,(A,(z,()))))))))))))))))))))):Option (TL Bn.σs⊕Out Bi))=some (.inl ((i:Int),(t41,(t42,((ws.length:Int),(q,(b00,(b01,(b02,(b03,(b04,(b05,(b07,((i:Int),(b1,(m0,(m1,(m2,(rs,(ws,(z,()))))))))))))))))))))):=by rintro _ _ _ rfl rfl;rfl
  have hi:aw (k:Int) (List.length ws)=true:=aN ⟨by omega,by omega⟩;have hs1:List.set ws (Int.toNat (k:Int)) ((gt bE ws (k:Int)).1,((gt bE ws (k:Int)).2.1,((gt bE ws (k:Int)).2.2.1,())))=ws:=La (σ:=bE) hk rfl rfl;have hs2:∀A:List bE.T,A=ws->List.set A (Int.toNat (k:Int)) ((gt bE A (k:Int)).1,((gt bE A (k:Int)).2.1,((gt bE ws (k:Int)).2.2.1,())))=ws:=by rintro _ rfl;exact hs1
  try dsimp only
  unfold Bz;exact ao (aj (show(k:Int)<(ws.length:Int) by omega)) (ak (by show Nat.beq i i=true;simp) (ak hi (ag e1 (ag e2 (ak (aj rfl) (e _ _ _ (bG (by omega) (by omega)) (hs2 _ hs1)))))))
 .try dsimp only
  unfold Bz;exact af (av (show ¬(ws.length:Int)<(ws.length:Int) by omega)) rfl
end
theorem cl8{n:ax}(ft:Fit n)(b00:Int)(b01:List Int)(b02:List ae.T)(b03 b04 b05:List Int)(b07:List ae.T)(z:Int) :
  Yb (((n.aa.map aq).length:Int),((0:Int),(b00,(b01,(b02,(b03,(b04,(b05,(b07,(n.aa.map aq,(z,())))))))))))=some (b00,(b01,(b02,(b03,(b04,(b05,(b07,(n.aa.map aq,(z,()))))))))):=by
 have hL:(n.aa.map aq).length=n.aa.length:=List.length_map ..;have hM:=ft.aa.1;unfold Yb;delta jI;refine cP (fun k:Nat=>(((n.aa.map aq).length:Int),((k:Int),(b00,(b01,(b02,(b03,(b04,(b05,(b07,(n.aa.map aq,(z,()))))))))))) ) n.aa.length rfl ?_ ?_ (bA (by omega))
 .intro k hk;have hx:=List.getElem?_eq_getElem hk;have hx':(n.aa.map aq)[k]?=some (aq n.aa[k]):=by rw[List.getElem?_map,hx];rfl
  have hf:=ft.aa.2 _ (List.getElem_mem hk);generalize n.aa[k]=m at hx' hf;have hg:gt ab (n.aa.map aq) (k:Int)=aq m:=bn (σ:=ab) hx';have e1:ID ((gt ab (n.aa.map aq) (k:Int)).2.2.2.1,())=some (m.reads.map dv,()):=by rw[hg];exact clR (by show(m.reads.map dv).length<=_;rw[List.length_map];have:=hf.pH;omega)
  have e2:Im ((gt ab (n.aa.map aq) (k:Int)).2.2.2.2.1,())=some (m.writes.map dK,()):=by rw[hg];exact clW (by show(m.writes.map dK).length<=_;rw[List.length_map];have:=hf.tM;omega)
  have e13:=alB k ((n.aa.map aq).length:Int) (k:Int) b00 b01 b02 b03 b04 b05 b07 (n.aa.map aq) (gt ab (n.aa.map aq) (k:Int)).1 (gt ab (n.aa.map aq) (k:Int)).2.1 (gt ab (n.aa.map aq) (k:Int)).2.2.1 (m.reads.map dv) (m.writes.map dK) z (by rw[List.length_map];have:=hf.pH;omega) (fun r hr=>by obtain⟨r2,hr2,rfl⟩:=List.mem_map.1 hr;have:=(hf.jW r2 hr2).1;show r2.addr.length<=_;omega);have e18:=alC k ((n.aa.map aq).length:Int) (k:Int) b00 b01 b02 b03 b04 b05 b07 (n.aa.map aq) (gt ab (n.aa.map aq) (k:Int)).1 (gt ab (n.aa.map aq) (k:Int)).2.1 (gt ab (n.aa.map aq) (k:Int)).2.2.1 (m.reads.map dv) (m.writes.map dK) z (by rw[List.length_map];have:=hf.tM;omega) (fun r hr=>by obtain⟨r2,hr2,rfl⟩:=List.mem_map.1 hr;have:=hf.pJ r2 hr2;exact⟨by show r2.addr.length<=_;omega,by show r2.data.length<=_;omega⟩);have e:∀(p q:Int) (A:List ab.T),p=q->A=n.aa.map aq->(some (.inl (((n.aa.map aq).length:Int),(p,(b00,(b01,(b02,(b03,(b04,(b05,(b07,(A,(z,())))))))))))) :Option (TL Bs.σs⊕Out Bm))=some (.inl (((n.aa.map aq).length:Int),(q,(b00,(b01,(b02,(b03,(b04,(b05,(b07,(n.aa.map aq,(z,())))))))))))) :=by rintro _ _ _ rfl rfl;rfl
  have hst:List.set (n.aa.map aq) (Int.toNat (k:Int)) ((gt ab (n.aa.map aq) (k:Int)).1,((gt ab (n.aa.map aq) (k:Int)).2.1,((gt ab (n.aa.map aq) (k:Int)).2.2.1,(m.reads.map dv,(m.writes.map dK,())))))=n.aa.map aq:=La (σ:=ab) (by omega) (by rw[hg];rfl) rfl;have hi:aw (k:Int) (List.length (n.aa.map aq))=true:=aN ⟨by omega,by omega⟩;have nn:nQ (Int.toNat (k:Int)) (Int.toNat (k:Int))=true:=aj rfl;have nb:Nat.beq (Int.toNat (k:Int)) (Int.toNat (k:Int))=true:=by simp
  try dsimp only
  unfold BG;refine ao (aj (show(k:Int)<((n.aa.map aq).length:Int) by omega)) (ak hi (ag e1 (ak nn (ak nn (ak nn (ak nn (ak nn (ak (zd (fun x=>Sh.BM x) _) (ag e2 (ak nn (ak nn (ak nn (ak nb (ak nb (ag e13 (ak nb (ag e18 (e _ _ _ (bG (show(k:Int)+1=((k+1:Nat):Int) by omega) (by omega)) hst))))))))))))))))))
 .try dsimp only
  unfold BG;exact af (av (show ¬(n.aa.length:Int)<((n.aa.map aq).length:Int) by omega)) rfl
theorem acE{n:ax}(ft:Fit n):akQ (bc n,())=some (bc n,()):=by have e1:=qU (L:=n.aJ) (by have:=ft.ins.1;omega);have e2:=qU (L:=n.bJ) (by have:=ft.out.1;omega);have e3:=qU (L:=n.ba) (by have:=ft.bad.1;omega);have e4:=qU (L:=n.constraints) (by have:=ft.nA.1;omega);have e5:=clL (L:=n.au.map bL) (by rw[List.length_map];have:=ft.aB.1;omega);have e6:=clA (L:=n.aM.map dj) (by rw[List.length_map];have:=ft.aM.1;omega);have e7:=clM (L:=n.aa.map aq) (by rw[List.length_map];have:=ft.aa.1;omega);have e8:=cl8 ft n.vars n.aJ (n.au.map bL) n.bJ n.ba n.constraints (n.aM.map dj) (0:Int);exact ag e1 (ag e2 (ag e3 (ag e4 (ag e5 (ag e6 (ag e7 (ag e8 rfl)))))))
theorem R9(n:ax)(cs:List (List aO))(h:cs.length=n.aa.length):j4 (n.aa.map aq) cs (n.aa.map aq).length=bt n cs:=by
 refine List.ext_getElem? fun i=>?_;rcases Nat.lt_or_ge i n.aa.length with q|q
 .have hm:=List.getElem?_eq_getElem q;have hc:=List.getElem?_eq_getElem (l:=cs) (i:=i) (by omega);have hm':(n.aa.map aq)[i]?=some (aq n.aa[i]):=by rw[List.getElem?_map,hm];rfl
  rw[vD hm hc];unfold j4;rw[List.getElem?_map,List.getElem?_range (by rw[List.length_map];exact q)];have g1:gt ab (n.aa.map aq) (i:Int)=aq n.aa[i]:=bn (σ:=ab) hm';have g2:gt (.sl aC) cs (i:Int)=cs[i]:=bn (σ:=.sl aC) hc;show some (mM (gt ab (n.aa.map aq) (i:Int)).1 (gt ab (n.aa.map aq) (i:Int)).2.1 (gt (.sl aC) cs (i:Int)))=_;rw[g1,g2];rfl
 .have h1:(bt n cs)[i]?=none:=List.getElem?_eq_none (by rw[vA h];exact q);have h2:(j4 (n.aa.map aq) cs (n.aa.map aq).length)[i]?=none:=List.getElem?_eq_none (by unfold j4;rw[List.length_map,List.length_range,List.length_map];exact q);exact h2.trans h1.symm
theorem YT{x k:Int}(h0:0<=x)(h:ir x k=true):x<2^k.toNat:=by unfold ir at h;have h:=of_decide_eq_true h;have hp:(0:Int)<2^k.toNat:=Int.pow_pos (by decide);have e:=Int.emod_def x (2^k.toNat);rw[h,Int.mul_zero,Int.sub_zero]at e;have:=Int.emod_lt_of_pos x hp;omega
theorem sx{c:List aO}{i:Nat}{p:aO}(h:c[i]?=some p):dH c (i:Int)=p.1/\gY c (i:Int)=p.2.1:=by have g:gt aC c (i:Int)=p:=bn (σ:=aC) h;unfold dH gY;rw[g];exact⟨rfl,rfl⟩
theorem aly{m:bC}{c:List aO}(h:ik m.addr m.word c=true)(ok:pE c):mR m 4096 c:=by
 unfold ik at h;simp only[Bool.and_eq_true,decide_eq_true_eq]at h;obtain⟨⟨⟨⟨⟨h1,h2⟩,h3⟩,h4⟩,h5⟩,h6⟩:=h;have hs:=Tl h6;have h6':∀i,i<c.length->iR m.addr m.word c i=true:=fun i hi=>List.all_eq_true.1 h6 i (List.mem_range.2 hi);have hc:∀p∈c,(0<=p.1/\p.1<2^m.addr.toNat)/\0<p.2.1/\p.2.1<2^m.word.toNat:=by intro p hp;obtain⟨i,hi⟩:=List.getElem?_of_mem hp;have hil:=dy hi;obtain⟨e1,e2⟩:=sx hi;have hb:=h6' i hil;obtain⟨o1,o2⟩:=ok i hil;unfold iR at hb;simp only[Bool.and_eq_true,Bool.not_eq_true',decide_eq_false_iff_not]at hb;obtain⟨⟨⟨b1,b2⟩,b3⟩,_⟩:=hb;rw[e1]at o1 b2;rw[e2]at o2 b1 b3;exact⟨⟨o1.1,YT o1.1 b2⟩,by omega,YT o2.1 b3⟩
 refine⟨?_,h5,fun p hp=>(hc p hp).1,fun p hp=>(hc p hp).2⟩;refine List.pairwise_iff_getElem.2 fun i j hi hj hij=>?_;have:=hs j hj i hij;rw[(sx (List.getElem?_eq_getElem hi)).1,(sx (List.getElem?_eq_getElem hj)).1]at this;exact this
theorem YQ{n:ax}{ls:List Bool}{cs:List (List aO)}(h:dX (bc n) (ls,(cs,()))=true)(ok:nC cs):iB n 4096 ls cs:=by
 unfold dX at h;simp only[Bool.and_eq_true,decide_eq_true_eq]at h;obtain⟨⟨h1,h2⟩,h3⟩:=h;have h1':ls.length=n.au.length:=h1.trans (List.length_map ..);have h2':cs.length=n.aa.length:=h2.trans (List.length_map ..);refine⟨h1',h2',fun i m c hm hc=>?_⟩;have hil:=dy hm;have h3':∀i,i<(n.aa.map aq).length->jv (n.aa.map aq) cs i=true:=by have h3:(List.range (n.aa.map aq).length).all (jv (n.aa.map aq) cs)=true:=h3;exact fun i hi=>List.all_eq_true.1 h3 i (List.mem_range.2 hi)
 have hp:=h3' i (by rw[List.length_map];exact hil);unfold jv at hp;have hm':(n.aa.map aq)[i]?=some (aq m):=by rw[List.getElem?_map,hm];rfl
 have g1:gt ab (n.aa.map aq) (i:Int)=aq m:=bn (σ:=ab) hm';have g2:gt (.sl aC) cs (i:Int)=c:=bn (σ:=.sl aC) hc;rw[g1,g2]at hp;exact aly hp (ok c (List.mem_of_getElem? hc))
theorem Yq{n:ax}(h:Pl.cL n=0):∃V,cq n V/\dt n=0/\n.vars.toNat=V/\eO (aV n) V=true:=by
 unfold Pl.cL at h;by_cases h0:dt n=0
 .obtain⟨V,hs⟩:=oP h0;have hV:n.vars.toNat=V:=by rw[hs.vars];rfl
  rw[if_neg (by simpa using h0),hV]at h;refine⟨V,hs,h0,hV,?_⟩;cases q:eO (aV n) V
  .rw[q]at h;simp at h
  .rfl
 .rw[if_pos h0]at h;exact absurd h h0
section
variable{n:ax}(ft:Fit n)(ls:List Bool)(cs:List (List aO))
include ft
theorem afc(h:Pl.cL n≠0):KR (nt n (ls,(cs,())))=some (.inl (Pl.cL n,())):=ag (po ft) (ao (by simp[h]) rfl)
theorem Lf:Zq8 (nt n (ls,(cs,())))=some (match dX (bc n) (ls,(cs,()))with|true=>((0:Int),(j4 (n.aa.map aq) cs (n.aa.map aq).length,()))|false=>((14:Int),([],()))):=YV (bc n) (ls,(cs,())) (by show(n.aa.map aq).length<=_;rw[List.length_map];have:=ft.aa.1;omega)
theorem ael(h:Pl.cL n=0)(hf:dX (bc n) (ls,(cs,()))=false):KR (nt n (ls,(cs,())))=some (.inl ((14:Int),())):=by have el:=Lf ft ls cs;rw[hf]at el;exact ag (po ft) (af (by rw[h];rfl) (ag el (ao rfl rfl)))
theorem RW(h:Pl.cL n=0)(hf:dX (bc n) (ls,(cs,()))=true)(hb:ls.length<=1000000):KR (nt n (ls,(cs,())))=some (.inr ((0:Int),mc n (aU n n.vars.toNat) ls (bt n cs) ())):=by
 obtain⟨V,hs,h0,hV,ha⟩:=Yq h;have eo:=aky hs ft h0;rw[if_pos ha]at eo;rw[hV];have el:=Lf ft ls cs;rw[hf]at el;have hcs:cs.length=n.aa.length:=by unfold dX at hf;simp only[Bool.and_eq_true,decide_eq_true_eq]at hf;exact hf.1.2.trans (List.length_map ..)
 have hr:=R9 n cs hcs;have e:∀R R':List cZ,R=R'->(some (.inr ((0:Int),mc n (aU n V) ls R ())):Option (Out BF))=some (.inr ((0:Int),mc n (aU n V) ls R' ())):=by rintro _ _ rfl;rfl
 exact ag (po ft) (af (by rw[h];rfl) (ag el (af rfl (ag eo (ag (acE ft) (ag (Oz (L:=ls) hb) (ak (zd (fun x=>Sh.BM x) _) (e _ _ hr))))))))
end
abbrev mg:=List Bool×List (List aO)
abbrev j6:=List Bool×Bool×Unit
def stp(n:ax)(s:mg)(x:List Bool):mg:=(gK n (jF n s.1 s.2 x),iu n s.2 (jF n s.1 s.2 x))
def mB(n:ax)(s:mg)(x:List Bool):j6:=(j2 n (jF n s.1 s.2 x),(oK n (jF n s.1 s.2 x),()))
theorem afl(P:List j6)(z:j6)(h:P.length<=10000000):room 32 (List.length (P++(z::[])))=true:=by rw[List.length_append,List.length_cons,List.length_nil];exact kr (by omega) (by omega)
section
variable{n:ax}(ft:Fit n)
include ft
theorem YB:List.length (bc n).2.2.1<=100000/\List.length (bc n).2.2.2.2.2.2.1<=100000:=⟨by show(n.au.map bL).length<=_;rw[List.length_map];have:=ft.aB.1;omega,by show(n.aa.map aq).length<=_;rw[List.length_map];have:=ft.aa.1;omega⟩
theorem ot:Fit (dS (bc n)):=by rw[lE];exact ft
end
theorem alD{L:List Bool}(h:L.length<=1000000):akq (L,())=some (L,(L,())):=ag (Oz h) rfl
theorem acb(a w:Int)(c:List aO)(h:c.length<=1000000):ER (a,(w,(c,())))=some (c,(a,(w,(c,())))):=ak (aj h) rfl
theorem Ra{n:ax}{V K:Nat}(hs:cq n V)(ord:List (bz×bp)){ls:List Bool}{cs:List (List aO)}(hK:K<=100000)(ok:iB n K ls cs) :
  Pu (mc n ord ls (bt n cs) ())=some (mc n ord ls (bt n cs) (ls,(cs,()))):=by
 have hM:=hs.lens.2.2.2.2;have hL:=hs.lens;have hcl:=ok.mA;have hr:=vA hcl;have hls:ls.length<=1000000:=by have:=ok.tL;have:=hs.lens.2.1;omega
 have e5:Pv (((bt n cs).length:Int),((0:Int),mc n ord ls (bt n cs) (ls,([],()))))=some (mc n ord ls (bt n cs) (ls,(cs,()))):=by
  unfold Pv;delta dV;refine cP (fun k:Nat=>(((bt n cs).length:Int),((k:Int),mc n ord ls (bt n cs) (ls,(cs.take k,()))))) n.aa.length rfl ?_ ?_ (bA (by omega))
  .intro k hk;have hx:=List.getElem?_eq_getElem hk;have hkc:k<cs.length:=by omega
   have hy:=List.getElem?_eq_getElem hkc;have ha:=vD hx hy;have hlen:=(ok.ok k _ _ hx hy).len;have hg:List.getD (bt n cs) (Int.toNat (k:Int)) zR=(n.aa[k].addr,(n.aa[k].word,(cs[k],()))):=by rw[Int.toNat_natCast,List.getD_eq_getElem?_getD,ha];rfl
   have ec:ER ((List.getD (bt n cs) (Int.toNat (k:Int)) zR).1,((List.getD (bt n cs) (Int.toNat (k:Int)) zR).2.1,((List.getD (bt n cs) (Int.toNat (k:Int)) zR).2.2.1,())))=some (cs[k],(n.aa[k].addr,(n.aa[k].word,(cs[k],())))):=by rw[hg];exact acb _ _ _ (Nat.le_trans hlen (by omega))
   have hset:List.set (bt n cs) (Int.toNat (k:Int)) (n.aa[k].addr,(n.aa[k].word,(cs[k],())))=bt n cs:=by
    rw[Int.toNat_natCast];refine List.ext_getElem? fun i=>?_;rw[List.getElem?_set];split
    .rename_i q;subst q;split
     .exact ha.symm
     .rename_i q2;rw[List.getElem?_eq_none (by omega)]
    .rfl
   have hroom:room 24 (List.length (cs.take k++(cs[k]::[])))=true:=by rw[List.length_append,List.length_take];exact kr (by simp;omega) (by simp;omega)
   have ht:cs.take k++(cs[k]::[])=cs.take (k+1):=by rw[List.take_add_one,hy];rfl
   have e:∀(p q:Int) (R R':List cZ) (A B:List (List aO)),p=q->R=R'->A=B->(some (.inl (((bt n cs).length:Int),(p,mc n ord ls R (ls,(A,()))))):Option (TL tS.σs⊕Out tO))=some (.inl (((bt n cs).length:Int),(q,mc n ord ls R' (ls,(B,()))))):=by rintro _ _ _ _ _ _ rfl rfl rfl;rfl
   exact ao (aj (show(k:Int)<((bt n cs).length:Int) by omega)) (ak (show aw (k:Int) (List.length (bt n cs))=true from aN ⟨by omega,by omega⟩) (ag ec (ak hroom (e _ _ _ _ _ _ (bG (show(k:Int)+1=((k+1:Nat):Int) by omega) (by omega)) hset ht))))
  .have e:∀(A B:List (List aO)),A=B->(some (.inr (mc n ord ls (bt n cs) (ls,(A,())))):Option (TL tS.σs⊕Out tO))=some (.inr (mc n ord ls (bt n cs) (ls,(B,())))):=by rintro _ _ rfl;rfl
   exact af (av (show ¬(n.aa.length:Int)<((bt n cs).length:Int) by omega)) (e _ _ (List.take_of_length_le (by omega)))
 exact ag (alD hls) (ag e5 rfl)
theorem acD{n:ax}{K:Nat}{ls:List Bool}{cs:List (List aO)}(ok:iB n K ls cs):∀c∈cs,c.length<=K:=by intro c hc;obtain⟨i,hi⟩:=List.getElem?_of_mem hc;have hil:=dy hi;have hm:=List.getElem?_eq_getElem (l:=n.aa) (i:=i) (by have:=ok.mA;omega);exact(ok.ok i _ _ hm hi).len
theorem FM{n:ax}(v:List Bool):(j2 n v).length=n.ba.length:=by unfold j2;rw[List.length_map]
theorem Rf(x:Bool):@decide _ (Bool.decEq x x)=true:=by cases x<;>rfl
theorem SF{b:Bool}(h:b=true):aQ true b false=true:=by rw[h];rfl
theorem adT{n:ax}{ls:List Bool}{cs:List (List aO)}(h:Pl.cL n=0)(hf:dX (bc n) (ls,(cs,()))=true):iS (bc n) (ls,(cs,()))=0:=by unfold iS;rw[lE,if_neg (fun q=>q h),hf]
section
variable{n:ax}(ft:Fit n)
include ft
theorem aet(ord:List (bz×bp))(ls lt:List Bool)(rs:List cZ)(ct:List (List aO))(hct:ct.length=n.aa.length)(hf:dX (bc n) (lt,(ct,()))=true)(hb:lt.length<=1000000) :
  PK (lt,(ct,mc n ord ls rs ()))=some ((0:Int),mc n ord lt (bt n ct) ()):=by
 have el:=Lf ft lt ct;rw[hf]at el;have hr:=R9 n ct hct;have e:∀R R':List cZ,R=R'->(some ((0:Int),mc n ord lt R ()):Option (Out xH))=some ((0:Int),mc n ord lt R' ()):=by rintro _ _ rfl;rfl
 exact ag el (af rfl (ag (Oz hb) (e _ _ hr)))
end
def kz(p:Nat->Bool):Nat->Nat->Option Nat
 |0,_=>none|k+1,i=>if p i=true then some i else kz p k (i+1)
theorem YE(p:Nat->Bool):∀k i j,kz p k i=some j->i<=j/\j<i+k/\p j=true/\∀m,i<=m->m<j->p m=false:=by
 intro k
 induction k with
 |zero=>intro i j h;cases h
 |succ k ih=>
  intro i j h;unfold kz at h;by_cases q:p i=true
  .rw[if_pos q]at h;obtain rfl:i=j:=Option.some.inj h;exact⟨Nat.le_refl _,by omega,q,fun m h1 h2=>by omega⟩
  .rw[if_neg q]at h;obtain⟨h1,h2,h3,h4⟩:=ih (i+1) j h;refine⟨by omega,by omega,h3,fun m a b=>?_⟩;rcases Nat.lt_or_ge i m with c|c
   .exact h4 m c b
   .obtain rfl:m=i:=by omega
    simpa using q
theorem akD{D O:Type}{B:D->Option (D⊕O)}(f:Nat->D)(p:Nat->Bool)(g:Nat->O)(z:O)(n:Nat)(hs:∀i,i<n->p i=false->B (f i)=some (.inl (f (i+1))))(hf:∀i,i<n->p i=true->B (f i)=some (.inr (g i)))
  (he:B (f n)=some (.inr z)) {d:D}(hd:d=f 0) {N:Nat}(hN:n<N):aR B N d=some (match kz p n 0 with|some i=>g i|none=>z):=by
 subst hd;have main:∀k i,i+k=n->∀N,k<N->aR B N (f i)=some (match kz p k i with|some i=>g i|none=>z):=by
  intro k
  induction k with
  |zero=>
   intro i hi N hN;obtain rfl:i=n:=by omega
   obtain⟨N,rfl⟩:∃M,N=M+1:=⟨N-1,by omega⟩;simp only[aR,he,kz]
  |succ k ih=>intro i hi N hN;obtain⟨N,rfl⟩:∃M,N=M+1:=⟨N-1,by omega⟩;cases q:p i with|true=>simp only[aR,hf i (by omega) q,kz,q,if_true]|false=>have:=ih (i+1) (by omega) N (by omega);simp only[aR,hs i (by omega) q,kz,q];exact this
 exact main n 0 (by omega) N hN
def idx(L:List Bool):Int:=match kz (fun i=>L.getD i false) L.length 0 with|some i=>(i:Int)|none=>-1
theorem ae0{L:List Bool}(h:0<=idx L):∃k:Nat,idx L=(k:Int)/\k<L.length/\kz (fun i=>L.getD i false) L.length 0=some k:=by
 unfold idx at h |-;cases q:kz (fun i=>L.getD i false) L.length 0 with
 |some j=>obtain⟨h1,h2,h3,h4⟩:=YE _ _ _ _ q;exact⟨j,rfl,by omega,rfl⟩
 |none=>rw[q]at h;simp at h
theorem ad1(L:List Bool)(hL:L.length<=1000000):I0 (L,(true,((L.length:Int),((0:Int),()))))=some (match kz (fun i=>L.getD i false) L.length 0 with|some i=>.inl ((i:Int),())|none=>.inr ()):=by
 unfold I0;delta u4;refine akD (fun i:Nat=>(L,(true,((L.length:Int),((i:Int),()))))) (fun i=>L.getD i false) (fun i=>Sum.inl ((i:Int),())) (Sum.inr ()) L.length ?_ ?_ ?_ rfl (bA (by omega))
 .intro i hi hp;dsimp only at hp |-;unfold va;have e:∀p q:Int,p=q->(some (.inl (L,(true,((L.length:Int),(p,()))))):Option (TL z7.σs⊕Out z6))=some (.inl (L,(true,((L.length:Int),(q,()))))):=by rintro _ _ rfl;rfl
  have hg:gt .bool L (i:Int)=false:=(Ls (by omega)).trans hp;exact ao (aj (show(i:Int)<(L.length:Int) by omega)) (ak (aN ⟨by omega,by omega⟩) (af (by rw[hg];rfl) (e _ _ (bK (x:=(i:Int)+1) (by omega)))))
 .intro i hi hp;dsimp only at hp |-;unfold va;have hg:gt .bool L (i:Int)=true:=(Ls (by omega)).trans hp;exact ao (aj (show(i:Int)<(L.length:Int) by omega)) (ak (aN ⟨by omega,by omega⟩) (ao (by rw[hg];rfl) rfl))
 .try dsimp only
  unfold va;exact af (av (show ¬(L.length:Int)<(L.length:Int) by omega)) rfl
theorem ak7(L:List Bool)(hL:L.length<=1000000):We (L,(true,()))=some (idx L,()):=by have e:=ad1 L hL;have e':I0 (L,(true,((Int.ofNat (List.length L)),((0:Int),()))))=_:=e;unfold idx;cases q:kz (fun i=>L.getD i false) L.length 0 with|some i=>rw[q]at e';exact ag e' rfl|none=>rw[q]at e';exact ag e' rfl
def li(L:List Int)(k:Nat):Int:=L.getD k 0
