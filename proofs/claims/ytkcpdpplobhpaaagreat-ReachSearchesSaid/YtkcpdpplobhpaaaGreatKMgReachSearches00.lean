import Derived.Test.YtkcpdpplobhpaaaGreatKRi
set_option linter.unusedSectionVars false
set_option linter.unusedVariables false
set_option linter.unusedSimpArgs false
set_option linter.unnecessarySimpa false
section
namespace Go.Proofs.YtkcpdpplobhpaaaGreat.V
open Go Go.RowKit Go.Proofs.YtkcpdpplobhpaaaGreat.Pl
set_option maxRecDepth 10000
def lv(ν:Int->Bool)(l:Int):Bool:=Bool.xor (ν (l / 2)) (decide (l % 2=1))
def Cons(ν:Int->Bool)(A:List fT):Prop:=∀a∈A,ν a.var=(lv ν a.a&&lv ν a.b)
theorem Cons.of{ν:Int->Bool}{A B:List fT}(h:Cons ν (A++B)):Cons ν A:=fun a ha=>h a (List.mem_append_left _ ha)
section
variable(o b c:List Int)(m:List ab.T){s:Gk}{D:List Int}
def fJ(l:List dY)(j:Nat):Int:=((l[j]?).map (·.next)).getD 0
end
structure Ag(n:aD)(w bad:Nat):Prop where
 ok:Pl.dD n=0
 ins:n.aM=[]
 aa:n.aa=[]
 cons:n.constraints=[]
 vars:n.ax.map (·.var)=fr 0 w
 init:n.ax.map (·.init)=List.replicate w 0
 next:∀ν:Int->Bool,ν 0=false->Cons ν n.aP->∀i,i<w->lv ν (fJ n.ax i)=Bool.xor (ν ((i+1:Nat):Int)) ((List.range i).all fun j=>ν ((j+1:Nat):Int))
 bo:∃z,n.bo=[z]/\∀ν:Int->Bool,ν 0=false->Cons ν n.aP->lv ν z=(List.range w).all fun j=>decide (ν ((j+1:Nat):Int)=decide (bad / 2^j % 2=1))
def fp(v:List Bool)(l:List (Int×Bool)):List Bool:=l.foldl (fun v p=>v.set p.1.toNat p.2) v
theorem mS:∀(l:List (Int×Bool)) (v:List Bool),(fp v l).length=v.length
 |[],v=>rfl|p::l,v=>by show(fp (v.set p.1.toNat p.2) l).length=_;rw[mS l,List.length_set]
theorem tC(v:List Bool)(l:List (Int×Bool))(p:Int×Bool):fp v (l++[p])=(fp v l).set p.1.toNat p.2:=by unfold fp;rw[List.foldl_append];rfl
def nh(n:aD)(ls ins:List Bool):List Bool:=fp (fp (List.replicate (n.vars.toNat+1) false) (n.aM.zip ins)) ((n.ax.map (·.var)).zip ls)
def fu(n:aD)(cs:List (List aN))(v:List Bool)(x:bH×bF):List Bool:=
 if x.1.rd=false then v.set (x.2.to.headD 0).toNat (bB (x.2.aR.getD 0 0) v&&bB (x.2.aR.getD 1 0) v)
 else fp v (x.2.to.zip (di (rd (cs.getD x.1.mem []) (cF (x.2.aR.map (bB · v)))).toNat x.2.to.length))
theorem aoP(n:aD)(cs:List (List aN))(v:List Bool)(x:bH×bF):(fu n cs v x).length=v.length:=by
 unfold fu;split
 .rw[List.length_set]
 .rw[mS]
def mn(n:aD)(ls:List Bool)(cs:List (List aN))(ins:List Bool):List Bool:=(aX n n.vars.toNat).foldl (fu n cs) (nh n ls ins)
theorem NF(n:aD)(cs:List (List aN)):∀(l:List (bH×bF)) (v:List Bool),(l.foldl (fu n cs) v).length=v.length
 |[],v=>rfl|x::l,v=>by rw[List.foldl_cons,NF n cs l,aoP]
theorem abI(n:aD)(ls ins:List Bool):(nh n ls ins).length=n.vars.toNat+1:=by unfold nh;rw[mS,mS,mQ]
structure mf(m:bP)(k:Nat)(c:List aN):Prop where
 j3:o7 c
 len:c.length<=k
 at_:∀p∈c,0<=p.1/\p.1<2^m.addr.toNat
 wd:∀p∈c,0<p.2.1/\p.2.1<2^m.word.toNat
structure jF(n:aD)(k:Nat)(ls:List Bool)(cs:List (List aN)):Prop where
 qx:ls.length=n.ax.length
 mG:cs.length=n.aa.length
 ok:∀(i:Nat) (m:bP) (c:List aN),n.aa[i]?=some m->cs[i]?=some c->mf m k c
theorem aiF(c:List aN)(a:Int):rd c a=0\/∃p∈c,rd c a=p.2.1:=by
 induction c with
 |nil=>exact .inl rfl|cons p c ih=>
  rw[OI];by_cases q:p.1=a
  .rw[if_pos q];exact .inr ⟨p,by simp,rfl⟩
  .rw[if_neg q];rcases ih with h|⟨r,hr,h⟩
   .exact .inl h
   .exact .inr ⟨r,by simp[hr],h⟩
theorem VB{m:bP}{k:Nat}{c:List aN}(h:mf m k c)(hw:m.word<=64)(a:Int):0<=rd c a/\rd c a<18446744073709551616:=by
 rcases aiF c a with e|⟨p,hp,e⟩
 .omega
 .have:=h.wd p hp;have h2:(2:Int)^m.word.toNat<=2^64:=by
   have:=Nat.pow_le_pow_right (n:=2) (by decide) (show m.word.toNat<=64 by omega)
   exact_mod_cast this
  have h3:(2:Int)^64=18446744073709551616:=by decide
  omega
theorem acF{n:aD}{V:Nat}{x:bH×bF}(h:x∈aX n V):x∈n6 n:=by unfold aX at h;obtain⟨i,_,hx⟩:=List.mem_flatMap.1 h;exact(List.mem_filter.1 hx).1
theorem acG{n:aD}{V:Nat}(hs:cO n V):(aX n V).length<=9000000:=by have h:=(pJ hs).len;unfold aX;have:=Aq (fun(i:Nat)=>(n6 n).filter fun x=>decide (lk (lvl n V) x.2=(i:Int)+1)) (List.range (n6 n).length) 3000 (fun i _=>Nat.le_trans (List.length_filter_le _ _) h);rw[List.length_range]at this;have h2:(n6 n).length*3000<=3000*3000:=Nat.mul_le_mul_right _ h;omega
section
variable{n:aD}{V:Nat}(hs:cO n V)(ft:Fit n)
include hs
theorem ajw(ls ins:List Bool)(cs:List (List aN))(v:List Bool)(hv:v.length=V+1)(hi:ins.length=n.aM.length) :
  LG (ins,((0:Int),nt n (ls,(cs,(v,())))))=some (nt n (ls,(cs,(fp v (n.aM.zip ins),())))):=by
 have hl:=hs.lens.1;have hz:(n.aM.zip ins).length=n.aM.length:=by rw[List.length_zip];omega
 unfold LG;delta gZ;refine cu (fun k:Nat=>(ins,((k:Int),nt n (ls,(cs,(fp v ((n.aM.zip ins).take k),())))))) n.aM.length rfl ?_ ?_ (bt (by omega))
 .intro k hk;have h1:=aT hk;have h2:=List.getElem?_eq_getElem (l:=ins) (i:=k) (by omega);have h3:(n.aM.zip ins)[k]?=some (n.aM[k],ins[k]):=by rw[List.getElem?_zip_eq_some];exact⟨h1,h2⟩
  have hr:=hs.yp n.aM[k] (by unfold du;simp);have e:∀(a b:List Bool) (p q:Int),a=b->p=q->(some (.inl (ins,(p,nt n (ls,(cs,(a,())))))):Option (TL BK.σs⊕Out BA))=some (.inl (ins,(q,nt n (ls,(cs,(b,())))))):=by rintro _ _ _ _ rfl rfl;rfl
  unfold nt
  try dsimp only
  unfold Cm;have g1:gt (.int .i64) n.aM (k:Int)=n.aM[k]:=aZ (σ:=.int .i64) h1;refine ao (ak (show(k:Int)<(n.aM.length:Int) by omega)) (ai (aK ⟨by omega,by omega⟩) (ai (aK ⟨by omega,by omega⟩) (ai ?_ (e _ _ _ _ ?_ (bG (by omega) (by omega))))))
  .rw[g1];exact aK ⟨by omega,by rw[mS,hv];omega⟩
  .rw[Pl.cW h3,tC,g1];have g2:gt .bool ins (k:Int)=ins[k]:=aZ (σ:=.bool) h2;rw[g2];rfl
 .unfold nt
  try dsimp only
  unfold Cm;rw[<-hz,dt,hz];exact ag (aA (show ¬(n.aM.length:Int)<(n.aM.length:Int) by omega)) rfl
theorem ajx(ls:List Bool)(cs:List (List aN))(v:List Bool)(hv:v.length=V+1)(hi:ls.length=n.ax.length) :
  LF ((0:Int),nt n (ls,(cs,(v,()))))=some (nt n (ls,(cs,(fp v ((n.ax.map (·.var)).zip ls),())))):=by
 have hl:=hs.lens.2.1;have hz:((n.ax.map (·.var)).zip ls).length=n.ax.length:=by rw[List.length_zip,aO];omega
 unfold LF;delta iZ;refine cu (fun k:Nat=>((k:Int),nt n (ls,(cs,(fp v (((n.ax.map (·.var)).zip ls).take k),()))))) n.ax.length rfl ?_ ?_ (bt (by omega))
 .intro k hk;have h1:=aT hk;have h1':(n.ax.map bM)[k]?=some (bM n.ax[k]):=by rw[cg,h1];rfl
  have h2:=List.getElem?_eq_getElem (l:=ls) (i:=k) (by omega);have h3:((n.ax.map (·.var)).zip ls)[k]?=some (n.ax[k].var,ls[k]):=by rw[List.getElem?_zip_eq_some,cg,h1];exact⟨rfl,h2⟩
  have hr:=hs.yp n.ax[k].var (by unfold du;simp only[List.mem_append];exact .inl (.inl (.inr (List.mem_map.2 ⟨_,List.getElem_mem hk,rfl⟩))));have e:∀(a b:List Bool) (p q:Int),a=b->p=q->(some (.inl (p,nt n (ls,(cs,(a,()))))):Option (TL BJ.σs⊕Out Bz))=some (.inl (q,nt n (ls,(cs,(b,()))))):=by rintro _ _ _ _ rfl rfl;rfl
  have hL:((n.ax.map bM).length:Int)=(n.ax.length:Int):=by rw[aO]
  unfold nt
  try dsimp only
  unfold Cl;have g1:(gt ae (n.ax.map bM) (k:Int)).1=n.ax[k].var:=by rw[aZ (σ:=ae) h1'];rfl
  refine ao (ak (show(k:Int)<((n.ax.map bM).length:Int) by omega)) (ai (aK ⟨by omega,by omega⟩) (ai (aK ⟨by omega,by omega⟩) (ai ?_ (e _ _ _ _ ?_ (bG (by omega) (by omega))))))
  .rw[g1];exact aK ⟨by omega,by rw[mS,hv];omega⟩
  .rw[Pl.cW h3,tC,g1];have g2:gt .bool ls (k:Int)=ls[k]:=aZ (σ:=.bool) h2;rw[g2];rfl
 .have hL:((n.ax.map bM).length:Int)=(n.ax.length:Int):=by rw[aO]
  unfold nt
  try dsimp only
  unfold Cl;rw[<-hz,dt,hz];exact ag (aA (show ¬(n.ax.length:Int)<((n.ax.map bM).length:Int) by omega)) rfl
theorem aiP(ord:List bh.T)(i:Int)(bs:List Bool)(ls:List Bool)(cs:List (List aN))(v:List Bool)(hv:v.length=V+1){x:bH×bF}(hx:x∈n6 n)(hb:bs.length=x.2.to.length) :
  B1 (ord,(i,(bs,((0:Int),nt n (ls,(cs,(v,bq x)))))))=some (ord,(i,nt n (ls,(cs,(fp v (x.2.to.zip bs),()))))):=by
 have h6:=pJ hs;obtain⟨ht1,ht2⟩:=h6.to x hx;have hz:(x.2.to.zip bs).length=x.2.to.length:=by rw[List.length_zip];omega
 have hm:x.2∈fQ n:=by rw[<-oS];exact List.mem_map_of_mem hx
 unfold B1;delta lT;refine cu (fun k:Nat=>(ord,(i,(bs,((k:Int),nt n (ls,(cs,(fp v ((x.2.to.zip bs).take k),bq x)))))))) x.2.to.length rfl ?_ ?_ (bt (by omega))
 .intro k hk;have h1:=aT hk;have h2:=List.getElem?_eq_getElem (l:=bs) (i:=k) (by omega);have h3:(x.2.to.zip bs)[k]?=some (x.2.to[k],bs[k]):=by rw[List.getElem?_zip_eq_some];exact⟨h1,h2⟩
  have hr:=hs.ln hm (v:=x.2.to[k]) (List.getElem_mem hk);have e:∀(a b:List Bool) (p q:Int),a=b->p=q->(some (.inl (ord,(i,(bs,(p,nt n (ls,(cs,(a,bq x)))))))):Option (TL BB.σs⊕Out Bs))=some (.inl (ord,(i,(bs,(q,nt n (ls,(cs,(b,bq x)))))))):=by rintro _ _ _ _ rfl rfl;rfl
  unfold nt
  try dsimp only
  unfold B2;have g1:gt (.int .i64) x.2.to (k:Int)=x.2.to[k]:=aZ (σ:=.int .i64) h1;have c1:aq (gt (.int .i64) x.2.to (k:Int)) (List.length (fp v ((x.2.to.zip bs).take k)))=true:=by rw[g1];exact aK ⟨by omega,by rw[mS,hv];omega⟩
  refine ao (ak (show(k:Int)<(bs.length:Int) by omega)) (ai (aK ⟨by omega,show(k:Int)<(x.2.to.length:Int) by omega⟩) (ai (aK ⟨by omega,by omega⟩) (ai c1 (e _ _ _ _ ?_ (bG (by omega) (by omega))))));rw[Pl.cW h3,tC];have g2:gt .bool bs (k:Int)=bs[k]:=aZ (σ:=.bool) h2;have ee:∀(a b:Int) (c d:Bool) (w:List Bool),a=b->c=d->List.set w (Int.toNat a) c=List.set w (Int.toNat b) d:=by rintro _ _ _ _ _ rfl rfl;rfl
  exact ee _ _ _ _ _ g1 g2
 .unfold nt
  try dsimp only
  unfold B2;rw[<-hz,dt,hz];exact ag (aA (show ¬(x.2.to.length:Int)<(bs.length:Int) by omega)) rfl
include ft
theorem aiO{K:Nat}(hK:K<=5000)(ls:List Bool)(cs:List (List aN))(ok:jF n K ls cs)(v:List Bool)(hv:v.length=V+1) :
  Lq ((aX n V).map bq,((0:Int),nt n (ls,(cs,(v,())))))=some ((aX n V).foldl (fu n cs) v,()):=by
 have hol:=acG hs;have h6:=pJ hs;unfold Lq;delta gZ;refine cu (fun k:Nat=>((aX n V).map bq,((k:Int),nt n (ls,(cs,(((aX n V).take k).foldl (fu n cs) v,())))))) (aX n V).length rfl ?_ ?_ (bt (by omega))
 .intro k hk;have hx:=aT hk;have hm:=acF (List.getElem_mem hk);have hst:((aX n V).take (k+1)).foldl (fu n cs) v=fu n cs (((aX n V).take k).foldl (fu n cs) v) (aX n V)[k]:=by rw[Pl.cW hx,List.foldl_append];rfl
  have hlen:(((aX n V).take k).foldl (fu n cs) v).length=V+1:=by rw[NF,hv]
  generalize ((aX n V).take k).foldl (fu n cs) v=u at hst hlen;have hx':((aX n V).map bq)[k]?=some (bq (aX n V)[k]):=by rw[cg,hx];rfl
  generalize (aX n V)[k]=x at hx' hm hst;have hi:=dL hx';have his:=zX n hm;have hmI:x.2∈fQ n:=by rw[<-oS];exact List.mem_map_of_mem hm
  have hg:gt bh ((aX n V).map bq) (k:Int)=bq x:=aZ (σ:=bh) hx';have aY:aq (k:Int) (List.length ((aX n V).map bq))=true:=aK ⟨by omega,by omega⟩;have e:∀(a b:List Bool) (p q:Int),a=b->p=q->(some (.inl ((aX n V).map bq,(p,nt n (ls,(cs,(a,())))))):Option (TL BC.σs⊕Out Bt))=some (.inl ((aX n V).map bq,(q,nt n (ls,(cs,(b,())))))):=by rintro _ _ _ _ rfl rfl;rfl
  have hk1:IntKind.wrap .i64 ((k:Int)+(1:Int))=((k+1:Nat):Int):=bG (by omega) (by omega);rw[hst];unfold nt
  try dsimp only
  unfold B3;rw[hg];refine ao (ak (show(k:Int)<((((aX n V).map bq).length:Nat):Int) by omega)) (ai aY ?_);have hf:=h6.aR x hm;rcases his with⟨h,a,ha,hI⟩|⟨h,M,r,hM,hr,hI⟩
  .-- a gate
   have eH:x.2.to=[a.var]:=by rw[hI];rfl
   have hfr:x.2.aR=[a.a,a.b]:=by rw[hI];rfl
   have ra:=hf.2 a.a (by rw[hfr];simp);have rb:=hf.2 a.b (by rw[hfr];simp);have rv:=hs.ln hmI (v:=a.var) (by rw[eH];simp);have hv2:=hs.v2;refine ao (show Bool.not x.1.rd=true by rw[h];rfl) (ai (show aq (0:Int) (List.length x.2.to)=true by rw[eH];rfl) (ai (show aq (0:Int) (List.length x.2.aR)=true by rw[hfr];rfl) ?_));have g0:gt (.int .i64) x.2.aR (0:Int)=a.a:=aZ (σ:=.int .i64) (i:=0) (by rw[hfr];rfl);have g1:gt (.int .i64) x.2.aR (1:Int)=a.b:=aZ (σ:=.int .i64) (i:=1) (by rw[hfr];rfl);have gt0:gt (.int .i64) x.2.to (0:Int)=a.var:=aZ (σ:=.int .i64) (i:=0) (by rw[eH];rfl);have e0:j8 (gt (.int .i64) x.2.aR (0:Int),(u,()))=some (bB a.a u,()):=by rw[g0];exact ru _ _ (by omega)
   have e1:j8 (gt (.int .i64) x.2.aR (1:Int),(u,()))=some (bB a.b u,()):=by rw[g1];exact ru _ _ (by omega)
   have iv:aq (gt (.int .i64) x.2.to (0:Int)) (List.length u)=true:=by rw[gt0];exact aK ⟨by omega,by omega⟩
   have hn:fu n cs u x=u.set a.var.toNat (bB a.a u&&bB a.b u):=by unfold fu;rw[if_pos h,eH,hfr];rfl
   have ee:∀(p q:Int) (c d:Bool),p=q->c=d->List.set u (Int.toNat p) c=List.set u (Int.toNat q) d:=by rintro _ _ _ _ rfl rfl;rfl
   refine af e0 ?_;cases hA:bB a.a u with
   |true=>refine ao rfl (ai (show aq (1:Int) (List.length x.2.aR)=true by rw[hfr];rfl) (af e1 (ai iv (e _ _ _ _ ?_ hk1))));rw[hn,hA];exact ee _ _ _ _ gt0 (by cases bB a.b u<;>rfl)
   |false=>refine ag rfl (ai iv (e _ _ _ _ ?_ hk1));rw[hn,hA];exact ee _ _ _ _ gt0 rfl
  .-- a port
   have hMm:=dn hM;obtain⟨hm1,hm2,hm3,hm4,hm5,hm6,_⟩:=hs.aa M hMm;have hrm:=dn hr;have eH:x.2.to=de r.var M.word.toNat:=by rw[hI];rfl
   have hfr:x.2.aR=r.addr:=by rw[hI];rfl
   have hfl:=hm5 r hrm;have hml:=dL hM;have hcs:=ok.mG;have hcc:=List.getElem?_eq_getElem (l:=cs) (i:=x.1.mem) (by omega);have hcok:=ok.ok x.1.mem M cs[x.1.mem] hM hcc;have hM':(n.aa.map av)[x.1.mem]?=some (av M):=by rw[cg,hM];rfl
   have gM:(gt ab (n.aa.map av) (x.1.mem:Int)).2.1=M.word:=by rw[aZ (σ:=ab) hM'];rfl
   have gC:gt (.sl ar) cs (x.1.mem:Int)=cs[x.1.mem]:=aZ (σ:=.sl ar) hcc;obtain⟨W,hW⟩:=Int.eq_ofNat_of_zero_le (show 0<=M.word by omega);have htl:x.2.to.length=W:=by rw[eH,rS,hW];rfl
   have e2:q9 (x.2.aR,(u,()))=some ((cF (x.2.aR.map (bB · u)):Int),()):=Oe _ _ (by rw[hfr];omega) (fun l hl=>by have:=hf.2 l hl;have:=hs.v2;omega);have e1:tu (gt (.sl ar) cs (x.1.mem:Int),((cF (x.2.aR.map (bB · u)):Int),()))=some (rd cs[x.1.mem] (cF (x.2.aR.map (bB · u))),()):=by rw[gC];exact acP _ _ (by have:=hcok.len;omega)
   have hrr:=VB hcok (by omega) (cF (x.2.aR.map (bB · u)));obtain⟨q,hq⟩:=Int.eq_ofNat_of_zero_le hrr.1;have e0:oO (rd cs[x.1.mem] (cF (x.2.aR.map (bB · u))),((gt ab (n.aa.map av) (x.1.mem:Int)).2.1,()))=some (di q W,()):=by rw[gM,hq,hW];exact DI q W (by omega) (by omega)
   have e19:=aiP hs ((aX n V).map bq) (k:Int) (di q W) ls cs u hlen hm (by rw[kS,htl]);have hn:fu n cs u x=fp u (x.2.to.zip (di q W)):=by unfold fu;rw[if_neg (by rw[h];simp),dC,hcc,htl];show fp u (x.2.to.zip (di (rd cs[x.1.mem] _).toNat W))=_;rw[hq];rfl
   rw[hn];refine ag (show Bool.not x.1.rd=false by rw[h];rfl) (ai (show aq (x.1.mem:Int) (List.length cs)=true from aK ⟨by omega,by omega⟩) (ai (show aq (x.1.mem:Int) (List.length (n.aa.map av))=true from aK ⟨by omega,by rw[aO];omega⟩) (af e2 (af e1 (af e0 (af e19 (e _ _ _ _ rfl hk1)))))))
 .unfold nt
  try dsimp only
  unfold B3;rw[dt];exact ag (aA (show ¬((aX n V).length:Int)<((((aX n V).map bq).length:Nat):Int) by rw[aO];omega)) rfl
theorem aoW(h0:dM n=0)(ha:fh (bc n) V=true){K:Nat}(hK:K<=5000)(ls ins:List Bool)(cs:List (List aN))(ok:jF n K ls cs)(hi:ins.length=n.aM.length) :
  Yp (bz n,((ls,(cs,())),(ins,())))=some (mn n ls cs ins,()):=by
 have hv2:=hs.v2;have hV:n.vars.toNat=V:=by rw[hs.vars];rfl
 have hw:IntKind.wrap (.i64:IntKind) (n.vars+1)=((V+1:Nat):Int):=by rw[hs.vars,bZ (by omega)];omega
 have e3:=ajw hs ls ins cs (List.replicate (V+1) false) (by simp) hi;have e7:=ajx hs ls cs (fp (List.replicate (V+1) false) (n.aM.zip ins)) (by rw[mS];simp) ok.qx;have hval:fp (fp (List.replicate (V+1) false) (n.aM.zip ins)) ((n.ax.map (·.var)).zip ls)=nh n ls ins:=by unfold nh;rw[hV]
 rw[hval]at e7;have e12:=aiO hs ft hK ls cs ok (nh n ls ins) (by rw[abI,hV]);have e4:=aov hs ft h0;rw[if_pos ha]at e4;have hfin:(aX n V).foldl (fu n cs) (nh n ls ins)=mn n ls cs ins:=by unfold mn;rw[hV]
 rw[hfin]at e12;show Md oO tu q9 j8 aay LG LF Lq B1 (bz n) (ls,(cs,())) ins=_;unfold Md;have hw':IntKind.wrap (.i64:IntKind) (@HAdd.hAdd Int Int Int _ (bz n).1 (1:Int))=((V+1:Nat):Int):=hw;rw[hw'];refine ai (by show both (decide _) (both (decide _) (decide _))=true;rw[bg (by omega),bg (by omega),bg (by show(1:Int)*_<=_;omega)];rfl) (af e3 (af e7 (af e4 (af e12 rfl))))
end
def bX(n:aD)(cs:List (List aN)):List dB:=List.zipWith (fun(m:bP) (c:List aN)=>(m.addr,(m.word,(c,())))) n.aa cs
theorem wO{n:aD}{cs:List (List aN)}(h:cs.length=n.aa.length):(bX n cs).length=n.aa.length:=by unfold bX;rw[List.length_zipWith];omega
theorem wV{n:aD}{cs:List (List aN)}{i:Nat}{m:bP}{c:List aN}(h1:n.aa[i]?=some m)(h2:cs[i]?=some c):(bX n cs)[i]?=some (m.addr,(m.word,(c,()))):=by unfold bX;rw[List.getElem?_zipWith,h1,h2]
theorem apx{u A:List Bool}{b:Bool}{off:Nat}(h:off+A.length<u.length):jR u off (A++[b])=(jR u off A).set (off+A.length) b:=by
 unfold jR;have hd:=rq (L:=u) (i:=off+A.length) h;have e:u.take off++(A++u.drop (off+A.length))=(u.take off++A)++u[off+A.length]::u.drop (off+A.length+1):=by rw[hd];simp
 rw[e,tT (by rw[aW,da];omega)];simp[Nat.add_assoc]
theorem ag7{u bs:List Bool}{off:Nat}(h:off+bs.length<=u.length):jR u off bs=fp u ((de (off:Int) bs.length).zip bs):=by
 have hz:((de (off:Int) bs.length).zip bs).length=bs.length:=by rw[List.length_zip,rS];omega
 have main:∀k,k<=bs.length->jR u off (bs.take k)=fp u (((de (off:Int) bs.length).zip bs).take k):=by
  intro k
  induction k with
  |zero=>intro _;rw[List.take_zero,List.take_zero,acI];rfl|succ k ih=>
   intro hk;have h1:=List.getElem?_eq_getElem (l:=bs) (i:=k) (by omega);have h2:(de (off:Int) bs.length)[k]?=some ((off:Int)+(k:Int)):=by unfold de;rw[cg,List.getElem?_range (by omega)];rfl
   have h3:((de (off:Int) bs.length).zip bs)[k]?=some ((off:Int)+(k:Int),bs[k]):=by rw[List.getElem?_zip_eq_some];exact⟨h2,h1⟩
   have hl:(bs.take k).length=k:=by rw[da];omega
   rw[Pl.cW h1,Pl.cW h3,tC,<-ih (by omega),apx (by rw[hl];omega),hl];congr 1
 have:=main bs.length (Nat.le_refl _);rw[dt]at this;rw[this,List.take_of_length_le (Nat.le_of_eq hz)]
theorem apc(a ad w:Int)(M:List aN):uy (a,(ad,(w,(M,()))))=some (rd M a,(ad,(w,(M,())))):=by show QM a ad w M=_;unfold QM;exact congrArg (fun z:Int=>(some (z,(ad,(w,(M,())))):Option (Out xJ))) (IZ M a)
def mc{α:Type}(n:aD)(ord:List (bH×bF))(ls:List Bool)(rs:List dB)(r:α):=nt n (ord.map (fun x=>dE x.1),(ls,(rs,r)))
section
variable{n:aD}{V:Nat}(hs:cO n V)(ft:Fit n)
include hs
theorem apU(ord:List (bH×bF))(ls ins:List Bool)(rs:List dB)(v:List Bool)(hv:v.length=V+1)(hi:ins.length=n.aM.length) :
  L0 (ins,((ins.length:Int),((0:Int),mc n ord ls rs (v,()))))=some (mc n ord ls rs (fp v (n.aM.zip ins),())):=by
 have hl:=hs.lens.1;have hz:(n.aM.zip ins).length=n.aM.length:=by rw[List.length_zip];omega
 unfold L0;delta fg;refine cu (fun k:Nat=>(ins,((ins.length:Int),((k:Int),mc n ord ls rs (fp v ((n.aM.zip ins).take k),()))))) n.aM.length rfl ?_ ?_ (bt (by omega))
 .intro k hk;have h1:=aT hk;have h2:=List.getElem?_eq_getElem (l:=ins) (i:=k) (by omega);have h3:(n.aM.zip ins)[k]?=some (n.aM[k],ins[k]):=by rw[List.getElem?_zip_eq_some];exact⟨h1,h2⟩
  have hr:=hs.yp n.aM[k] (by unfold du;simp);have e:∀(a b:List Bool) (p q:Int),a=b->p=q->(some (.inl (ins,((ins.length:Int),(p,mc n ord ls rs (a,()))))):Option (TL BS.σs⊕Out BF))=some (.inl (ins,((ins.length:Int),(q,mc n ord ls rs (b,()))))):=by rintro _ _ _ _ rfl rfl;rfl
  unfold mc nt
  try dsimp only
  unfold Cy;have g1:gt (.int .i64) n.aM (k:Int)=n.aM[k]:=aZ (σ:=.int .i64) h1;refine ao (ak (show(k:Int)<(ins.length:Int) by omega)) (ai (aK ⟨by omega,by omega⟩) (ai (aK ⟨by omega,by omega⟩) (ai ?_ (e _ _ _ _ ?_ (bG (by omega) (by omega))))))
  .rw[g1];exact aK ⟨by omega,by rw[mS,hv];omega⟩
  .rw[Pl.cW h3,tC,g1];have g2:gt .bool ins (k:Int)=ins[k]:=aZ (σ:=.bool) h2;rw[g2];rfl
 .unfold mc nt
  try dsimp only
  unfold Cy;rw[<-hz,dt,hz];exact ag (aA (show ¬(n.aM.length:Int)<(ins.length:Int) by omega)) rfl
theorem ajz(ord:List (bH×bF))(ls:List Bool)(rs:List dB)(v:List Bool)(hv:v.length=V+1)(hi:ls.length=n.ax.length) :
  Lz ((ls.length:Int),((0:Int),mc n ord ls rs (v,())))=some (mc n ord ls rs (fp v ((n.ax.map (·.var)).zip ls),())):=by
 have hl:=hs.lens.2.1;have hz:((n.ax.map (·.var)).zip ls).length=n.ax.length:=by rw[List.length_zip,aO];omega
 unfold Lz;delta iu;refine cu (fun k:Nat=>((ls.length:Int),((k:Int),mc n ord ls rs (fp v (((n.ax.map (·.var)).zip ls).take k),())))) n.ax.length rfl ?_ ?_ (bt (by omega))
 .intro k hk;have h1:=aT hk;have h1':(n.ax.map bM)[k]?=some (bM n.ax[k]):=by rw[cg,h1];rfl
  have h2:=List.getElem?_eq_getElem (l:=ls) (i:=k) (by omega);have h3:((n.ax.map (·.var)).zip ls)[k]?=some (n.ax[k].var,ls[k]):=by rw[List.getElem?_zip_eq_some,cg,h1];exact⟨rfl,h2⟩
  have hr:=hs.yp n.ax[k].var (by unfold du;simp only[List.mem_append];exact .inl (.inl (.inr (List.mem_map.2 ⟨_,List.getElem_mem hk,rfl⟩))));have e:∀(a b:List Bool) (p q:Int),a=b->p=q->(some (.inl ((ls.length:Int),(p,mc n ord ls rs (a,())))):Option (TL BH.σs⊕Out Bv))=some (.inl ((ls.length:Int),(q,mc n ord ls rs (b,())))):=by rintro _ _ _ _ rfl rfl;rfl
  have hL:((n.ax.map bM).length:Int)=(n.ax.length:Int):=by rw[aO]
  unfold mc nt
  try dsimp only
  unfold Cg;have g1:(gt ae (n.ax.map bM) (k:Int)).1=n.ax[k].var:=by rw[aZ (σ:=ae) h1'];rfl
  refine ao (ak (show(k:Int)<(ls.length:Int) by omega)) (ai (aK ⟨by omega,by omega⟩) (ai (aK ⟨by omega,by omega⟩) (ai ?_ (e _ _ _ _ ?_ (bG (by omega) (by omega))))))
  .rw[g1];exact aK ⟨by omega,by rw[mS,hv];omega⟩
  .rw[Pl.cW h3,tC,g1];have g2:gt .bool ls (k:Int)=ls[k]:=aZ (σ:=.bool) h2;rw[g2];rfl
 .unfold mc nt
  try dsimp only
  unfold Cg;rw[<-hz,dt,hz];exact ag (aA (show ¬(n.ax.length:Int)<(ls.length:Int) by omega)) rfl
include ft
theorem ajA{K:Nat}(hK:K<=5000)(ls:List Bool)(cs:List (List aN))(ok:jF n K ls cs)(v:List Bool)(hv:v.length=V+1) :
  Ly ((aX n V).map (fun x=>dE x.1),(((aX n V).length:Int),((0:Int),mc n (aX n V) ls (bX n cs) (v,()))))=some (mc n (aX n V) ls (bX n cs) ((aX n V).foldl (fu n cs) v,())):=by
 have hol:=acG hs;have h6:=pJ hs;unfold Ly;delta fg;refine cu (fun k:Nat=>((aX n V).map (fun x=>dE x.1),(((aX n V).length:Int),((k:Int),mc n (aX n V) ls (bX n cs) (((aX n V).take k).foldl (fu n cs) v,()))))) (aX n V).length rfl ?_ ?_ (bt (by omega))
 .intro k hk;have hx:=aT hk;have hm:=acF (List.getElem_mem hk);have hst:((aX n V).take (k+1)).foldl (fu n cs) v=fu n cs (((aX n V).take k).foldl (fu n cs) v) (aX n V)[k]:=by rw[Pl.cW hx,List.foldl_append];rfl
  have hlen:(((aX n V).take k).foldl (fu n cs) v).length=V+1:=by rw[NF,hv]
  generalize ((aX n V).take k).foldl (fu n cs) v=u at hst hlen;have hx':((aX n V).map (fun x=>dE x.1))[k]?=some (dE (aX n V)[k].1):=by rw[cg,hx];rfl
  generalize (aX n V)[k]=x at hx' hm hst;have hi:=dL hx';have his:=zX n hm;have hmI:x.2∈fQ n:=by rw[<-oS];exact List.mem_map_of_mem hm
  have hg:gt au ((aX n V).map (fun x=>dE x.1)) (k:Int)=dE x.1:=aZ (σ:=au) hx';have aY:aq (k:Int) (List.length ((aX n V).map (fun x=>dE x.1)))=true:=aK ⟨by omega,by omega⟩;have e:∀(a b:List Bool) (p q:Int) (R R':List dB),a=b->p=q->R=R'->(some (.inl ((aX n V).map (fun x=>dE x.1),(((aX n V).length:Int),(p,mc n (aX n V) ls R (a,()))))):Option (TL BG.σs⊕Out Bu))=some (.inl ((aX n V).map (fun x=>dE x.1),(((aX n V).length:Int),(q,mc n (aX n V) ls R' (b,()))))):=by rintro _ _ _ _ _ _ rfl rfl rfl;rfl
  have hk1:IntKind.wrap .i64 ((k:Int)+(1:Int))=((k+1:Nat):Int):=bG (by omega) (by omega);rw[hst];unfold mc nt
  try dsimp only
  unfold Cf;rw[hg];refine ao (ak (show(k:Int)<((aX n V).length:Int) by omega)) (ai aY ?_);have hf:=h6.aR x hm;have hv2:=hs.v2;rcases his with⟨h,a,ha,hI⟩|⟨h,M,r,hM,hr,hI⟩
  .-- a gate
   have eH:x.2.to=[a.var]:=by rw[hI];rfl
   have hfr:x.2.aR=[a.a,a.b]:=by rw[hI];rfl
   have ra:=hf.2 a.a (by rw[hfr];simp);have rb:=hf.2 a.b (by rw[hfr];simp);have rv:=hs.ln hmI (v:=a.var) (by rw[eH];simp);have ha':(n.aP.map dW)[x.1.pos]?=some (dW a):=by rw[cg,ha];rfl
   have hal:=dL ha';have gA:gt ae (n.aP.map dW) (x.1.pos:Int)=dW a:=aZ (σ:=ae) ha';have e0:ka ((gt ae (n.aP.map dW) (x.1.pos:Int)).2.1,(u,()))=some (bB a.a u,()):=by rw[gA];exact ry a.a u (by omega)
   have e1:ka ((gt ae (n.aP.map dW) (x.1.pos:Int)).2.2.1,(u,()))=some (bB a.b u,()):=by rw[gA];exact ry a.b u (by omega)
   have gv:(gt ae (n.aP.map dW) (x.1.pos:Int)).1=a.var:=by rw[gA];rfl
   have iv:aq (gt ae (n.aP.map dW) (x.1.pos:Int)).1 (List.length u)=true:=by rw[gv];exact aK ⟨by omega,by omega⟩
   have hn:fu n cs u x=u.set a.var.toNat (bB a.a u&&bB a.b u):=by unfold fu;rw[if_pos h,eH,hfr];rfl
   have ee:∀(p q:Int) (c d:Bool),p=q->c=d->List.set u (Int.toNat p) c=List.set u (Int.toNat q) d:=by rintro _ _ _ _ rfl rfl;rfl
   refine ao (show Bool.not x.1.rd=true by rw[h];rfl) (ai (show aq (x.1.pos:Int) (List.length (n.aP.map dW))=true from aK ⟨by omega,by omega⟩) (af e0 ?_));cases hA:bB a.a u with
   |true=>refine ao rfl (ai (ak rfl) (af e1 (ai iv (ai (ak rfl) (e _ _ _ _ _ _ ?_ hk1 rfl)))));rw[hn,hA];exact ee _ _ _ _ gv (by cases bB a.b u<;>rfl)
   |false=>refine ag rfl (ai (ak rfl) (ai iv (e _ _ _ _ _ _ ?_ hk1 rfl)));rw[hn,hA];exact ee _ _ _ _ gv rfl
  .-- a port
   have hMm:=dn hM;obtain⟨hm1,hm2,hm3,hm4,hm5,hm6,_⟩:=hs.aa M hMm;have hrm:=dn hr;have eH:x.2.to=de r.var M.word.toNat:=by rw[hI];rfl
   have hfr:x.2.aR=r.addr:=by rw[hI];rfl
   have hfl:=hm5 r hrm;have hml:=dL hM;have hcs:=ok.mG;have hcc:=List.getElem?_eq_getElem (l:=cs) (i:=x.1.mem) (by omega);have hcok:=ok.ok x.1.mem M cs[x.1.mem] hM hcc;have hM':(n.aa.map av)[x.1.mem]?=some (av M):=by rw[cg,hM];rfl
   have hR':(M.reads.map dU)[x.1.pos]?=some (dU r):=by rw[cg,hr];rfl
   have hrl:=dL hR';have gM:gt ab (n.aa.map av) (x.1.mem:Int)=av M:=aZ (σ:=ab) hM';have gR:gt cj (gt ab (n.aa.map av) (x.1.mem:Int)).2.2.2.1 (x.1.pos:Int)=dU r:=by rw[gM];exact aZ (σ:=cj) hR'
   obtain⟨W,hW⟩:=Int.eq_ofNat_of_zero_le (show 0<=M.word by omega);have htl:x.2.to.length=W:=by rw[eH,rS,hW];rfl
   have rv0:=hs.ln hmI (v:=r.var) (by rw[eH];unfold de;exact List.mem_map.2 ⟨0,List.mem_range.2 (by omega),by simp⟩);have rv1:=hs.ln hmI (v:=r.var+((W-1:Nat):Int)) (by rw[eH];unfold de;exact List.mem_map.2 ⟨W-1,List.mem_range.2 (by omega),rfl⟩);obtain⟨p,hp⟩:=Int.eq_ofNat_of_zero_le (show 0<=r.var by omega);have e2:rl ((gt cj (gt ab (n.aa.map av) (x.1.mem:Int)).2.2.2.1 (x.1.pos:Int)).2.1,(u,()))=some ((cF (x.2.aR.map (bB · u)):Int),()):=by rw[gR,hfr];exact Oo r.addr u (by omega) (fun l hl=>by have:=hf.2 l (by rw[hfr];exact hl);omega)
   have hra:=wV (n:=n) (cs:=cs) hM hcc;have hrd:List.getD (bX n cs) (Int.toNat (x.1.mem:Int)) zR=(M.addr,(M.word,(cs[x.1.mem],()))):=by rw[dC,Int.toNat_natCast,hra];rfl
   have e1:uy ((cF (x.2.aR.map (bB · u)):Int),((List.getD (bX n cs) (Int.toNat (x.1.mem:Int)) zR).1,((List.getD (bX n cs) (Int.toNat (x.1.mem:Int)) zR).2.1,((List.getD (bX n cs) (Int.toNat (x.1.mem:Int)) zR).2.2.1,()))))=some (rd cs[x.1.mem] (cF (x.2.aR.map (bB · u))),(M.addr,(M.word,(cs[x.1.mem],())))):=by rw[hrd];exact apc _ _ _ _
   have hrr:=VB hcok (by omega) (cF (x.2.aR.map (bB · u)));obtain⟨q,hq⟩:=Int.eq_ofNat_of_zero_le hrr.1;have e0:mV (rd cs[x.1.mem] (cF (x.2.aR.map (bB · u))),((gt ab (n.aa.map av) (x.1.mem:Int)).2.1,()))=some (di q W,()):=by
    have gw:(gt ab (n.aa.map av) (x.1.mem:Int)).2.1=M.word:=by rw[gM];rfl
    rw[gw,hq,hW];exact vk q W (by omega) (by omega)
   have hn:fu n cs u x=fp u (x.2.to.zip (di q W)):=by unfold fu;rw[if_neg (by rw[h];simp),dC,hcc,htl];show fp u (x.2.to.zip (di (rd cs[x.1.mem] _).toNat W))=_;rw[hq];rfl
   have gvr:(gt cj (gt ab (n.aa.map av) (x.1.mem:Int)).2.2.2.1 (x.1.pos:Int)).1=(p:Int):=by rw[gR,<-hp];rfl
   have hcp:jR u p (List.take (u.length-p) (di q W))=fu n cs u x:=by rw[List.take_of_length_le (by rw[kS];omega),hn,ag7 (by rw[kS];omega),kS,eH,hp,hW];rfl
   have hset:List.set (bX n cs) (Int.toNat (x.1.mem:Int)) (M.addr,(M.word,(cs[x.1.mem],())))=bX n cs:=by rw[Int.toNat_natCast];have hlt:=dL hra;rw[aT hlt]at hra;injection hra with hra;rw[<-hra];exact List.set_getElem_self hlt
   have hb:∀y:Int,y=(p:Int)->both (iE (0:Int) y) (iE y (Int.ofNat (List.length u)))=true:=by rintro _ rfl;show both (decide _) (decide _)=true;rw[bg (by omega),bg (by show(p:Int)<=(u.length:Int);omega)];rfl
   have ee:∀(y:Int),y=(p:Int)->jR u (Int.toNat y) (List.take (u.length-Int.toNat y) (di q W))=fu n cs u x:=by rintro _ rfl;rw[Int.toNat_natCast];exact hcp
   refine ag (show Bool.not x.1.rd=false by rw[h];rfl) (ai (show aq (x.1.mem:Int) (List.length (n.aa.map av))=true from aK ⟨by omega,by rw[aO];omega⟩) (ai (show aq (x.1.pos:Int) (List.length (gt ab (n.aa.map av) (x.1.mem:Int)).2.2.2.1)=true by rw[gM];exact aK ⟨by omega,by show _<((M.reads.map dU).length:Int);omega⟩)
    (ai (show aq (x.1.mem:Int) (List.length (bX n cs))=true from aK ⟨by omega,by rw[wO ok.mG];omega⟩) (af e2 (af e1 (ai (hb _ gvr) (af e0 (e _ _ _ _ _ _ (ee _ gvr) hk1 hset))))))))
 .unfold mc nt
  try dsimp only
  unfold Cf;rw[dt];exact ag (aA (show ¬((aX n V).length:Int)<((aX n V).length:Int) by omega)) rfl
theorem apa{K:Nat}(hK:K<=5000)(ls ins:List Bool)(cs:List (List aN))(ok:jF n K ls cs)(hi:ins.length=n.aM.length) :
  amj (ins,mc n (aX n V) ls (bX n cs) ())=some ((0:Int),mc n (aX n V) ls (bX n cs) (mn n ls cs ins,())):=by
 have hv2:=hs.v2;have hV:n.vars.toNat=V:=by rw[hs.vars];rfl
 have hw:IntKind.wrap (.i64:IntKind) (n.vars+1)=((V+1:Nat):Int):=by rw[hs.vars,bZ (by omega)];omega
 have e5:=apU hs (aX n V) ls ins (bX n cs) (List.replicate (V+1) false) (by simp) hi;have e10:=ajz hs (aX n V) ls (bX n cs) (fp (List.replicate (V+1) false) (n.aM.zip ins)) (by rw[mS];simp) ok.qx;have hval:fp (fp (List.replicate (V+1) false) (n.aM.zip ins)) ((n.ax.map (·.var)).zip ls)=nh n ls ins:=by unfold nh;rw[hV]
 rw[hval]at e10;have e16:=ajA hs ft hK ls cs ok (nh n ls ins) (by rw[abI,hV]);have hfin:(aX n V).foldl (fu n cs) (nh n ls ins)=mn n ls cs ins:=by unfold mn;rw[hV]
 rw[hfin]at e16;have hol:((aX n V).length:Int)=((((aX n V).map (fun x=>dE x.1)).length:Nat):Int):=by rw[aO]
 rw[hol]at e16;show Mv ka mV rl uy L0 Lz Ly ins n.vars n.aM (n.ax.map bM) n.cf n.bo n.constraints (n.aa.map av) (n.aP.map dW) ((aX n V).map (fun x=>dE x.1)) ls (bX n cs)=_;unfold Mv;have q1:(iQ (Int.ofNat (List.length ins)) (Int.ofNat (List.length n.aM)))=true:=ak (by rw[hi]);rw[hw];refine ag (by rw[q1];rfl) (ai (by show both (decide _) (both (decide _) (decide _))=true;rw[bg (by omega),bg (by omega),bg (by show(1:Int)*_<=_;omega)];rfl) (af e5 (af e10 (af e16 rfl))))
end
def j4(v:List Bool)(c:List aN)(w:nA):List aN:=if bB w.on v=true then wr c (cF (w.addr.map (bB · v))) (cF (w.data.map (bB · v)))else c
def oJ(v:List Bool)(m:bP)(c:List aN):List aN:=m.writes.foldl (j4 v) c
def fR(n:aD)(v:List Bool):List Bool:=n.ax.map fun l=>bB l.next v
def fS(n:aD)(cs:List (List aN))(v:List Bool):List (List aN):=List.zipWith (oJ v) n.aa cs
def mM(n:aD)(v:List Bool):List Bool:=n.bo.map (bB · v)
def nN(n:aD)(v:List Bool):Bool:=n.constraints.all (bB · v)
theorem acK{a:Int}{q:aN}:∀{L:List aN},q∈mX a L->q∈L
 |[],h=>h|p::M,h=>by
  rw[wN]at h;split at h
  .simp[h]
  .rcases List.mem_cons.1 h with h|h
   .simp[h]
   .simp[acK h]
theorem acJ{a w:Int}{q:aN}:∀{L:List aN},q∈kU a w L->q=(a,w,())\/q∈L
 |[],h=>by have:q∈[((a,w,()):aN)]:=h;simp at this;exact .inl this|p::M,h=>by
  rw[tD]at h;split at h
  .rcases List.mem_cons.1 h with h|h
   .exact .inl h
   .exact .inr h
  .split at h
   .rcases List.mem_cons.1 h with h|h
    .exact .inl h
    .exact .inr (by simp[h])
   .rcases List.mem_cons.1 h with h|h
    .exact .inr (by simp[h])
    .rcases acJ h with h|h
     .exact .inl h
     .exact .inr (by simp[h])
theorem VO{a w:Int}{q:aN}{L:List aN}(h:q∈wr L a w):(w≠0/\q=(a,w,()))\/q∈L:=by
 unfold wr at h;split at h
 .exact .inr (acK h)
 .rename_i h0;rcases acJ h with h|h
  .exact .inl ⟨h0,h⟩
  .exact .inr h
theorem DD{l:List Bool}{k:Int}(h:(l.length:Int)=k):((cF l:Nat):Int)<2^k.toNat:=by
 have e:k.toNat=l.length:=by omega
 have:=mg l;rw[e]
 exact_mod_cast this
theorem aiV{m:bP}{k:Nat}{c:List aN}{v:List Bool}{w:nA}(h:mf m k c)(ha:(w.addr.length:Int)=m.addr)(hd:(w.data.length:Int)=m.word):mf m (k+1) (j4 v c w):=by
 unfold j4;split
 .refine⟨aiX h.j3,Nat.le_trans (aiW _ _ _) (by have:=h.len;omega),fun p hp=>?_,fun p hp=>?_⟩
  .rcases VO hp with⟨h0,rfl⟩|hp
   .exact⟨by show(0:Int)<=((cF _:Nat):Int);omega,DD (by rw[aO];exact ha)⟩
   .exact h.at_ p hp
  .rcases VO hp with⟨h0,rfl⟩|hp
   .exact⟨by show(0:Int)<((cF _:Nat):Int);omega,DD (by rw[aO];exact hd)⟩
   .exact h.wd p hp
 .exact⟨h.j3,by have:=h.len;omega,h.at_,h.wd⟩
theorem Ou{m:bP}{v:List Bool}:∀{l:List nA}{k:Nat}{c:List aN},mf m k c->(∀w∈l,(w.addr.length:Int)=m.addr/\(w.data.length:Int)=m.word)->mf m (k+l.length) (l.foldl (j4 v) c)
 |[],k,c,h,_=>h|w::l,k,c,h,hw=>by have:=Ou (v:=v) (l:=l) (aiV (v:=v) h (hw w (by simp)).1 (hw w (by simp)).2) (fun x hx=>hw x (by simp[hx]));rw[List.foldl_cons,ca];rw[show k+1+l.length=k+(l.length+1) by omega]at this;exact this
theorem acS{n:aD}{V:Nat}(hs:cO n V){K:Nat}{ls:List Bool}{cs:List (List aN)}(ok:jF n K ls cs)(v:List Bool):jF n (K+4) (fR n v) (fS n cs v):=by
 refine⟨by unfold fR;rw[aO],by unfold fS;rw[List.length_zipWith];have:=ok.mG;omega,fun i m c hm hc=>?_⟩;unfold fS at hc;rw[List.getElem?_zipWith,hm]at hc;have hlt:=dL hm;have hlc:i<cs.length:=by have:=ok.mG;omega
 have h2:=aT hlc;rw[h2]at hc;injection hc with hc;obtain⟨_,_,_,_,_,h6,_,h8⟩:=hs.aa m (dn hm);have:=Ou (v:=v) (ok.ok i m cs[i] hm h2) h6;rw[<-hc];exact⟨this.j3,by have:=this.len;unfold oJ;omega,this.at_,this.wd⟩
section
variable{n:aD}{V:Nat}(hs:cO n V)
include hs
theorem oT{l:Int}(h:l∈dr n):l<9223372036854775808:=by have:=hs.lits l h;have:=hs.v2;omega
theorem apA(v:List Bool):Yt (bz n,(v,()))=some (mM n v,()):=by
 have hl:=hs.lens.2.2.2.1;have e3:aaX (v,((0:Int),nt n ([],())))=some (mM n v,()):=by
  unfold aaX;delta jl;refine cu (fun k:Nat=>(v,((k:Int),nt n ((n.bo.take k).map (bB · v),())))) n.bo.length rfl ?_ ?_ (bt (by omega))
  .intro k hk;have hx:=aT hk;have hm:n.bo[k]∈dr n:=by unfold dr;simp only[List.mem_append];exact .inl (.inl (.inl (.inr (List.getElem_mem hk))))
   have e1:j8 (gt (.int .i64) n.bo (k:Int),(v,()))=some (bB n.bo[k] v,()):=by rw[aZ (σ:=.int .i64) hx];exact ru _ _ (oT hs hm)
   have ht:(n.bo.take (k+1)).map (bB · v)=(n.bo.take k).map (bB · v)++[bB n.bo[k] v]:=by rw[Pl.cW hx,dV];rfl
   have e:∀(a b:List Bool) (p q:Int),a=b->p=q->(some (.inl (v,(p,nt n (a,())))):Option (TL Cq.σs⊕Out B8))=some (.inl (v,(q,nt n (b,())))):=by rintro _ _ _ _ rfl rfl;rfl
   unfold nt
   try dsimp only
   unfold CN;exact ao (ak (show(k:Int)<(n.bo.length:Int) by omega)) (ai (aK ⟨by omega,by omega⟩) (af e1 (ai (sX _ _ (by rw[aO,da];omega)) (e _ _ _ _ ht.symm (bG (by omega) (by omega))))))
  .unfold nt
   try dsimp only
   unfold CN;rw[dt];exact ag (aA (show ¬(n.bo.length:Int)<(n.bo.length:Int) by omega)) rfl
 exact af e3 rfl
theorem apu(v:List Bool):Ys (bz n,(v,()))=some (nN n v,()):=by
 have hl:=hs.lens.2.2.2.1;have e2:aaU (v,((0:Int),nt n ()))=some (match(List.range n.constraints.length).all (fun k=>bB (n.constraints.getD k 0) v)with|true=>.inr ()|false=>.inl (false,())):=by
  unfold aaU;delta jO;have hev:∀k,k<n.constraints.length->j8 (gt (.int .i64) n.constraints (k:Int),(v,()))=some (bB (n.constraints.getD k 0) v,()):=by
   intro k hk;have hx:=aT hk;have hm:n.constraints[k]∈dr n:=by unfold dr;simp only[List.mem_append];exact .inl (.inl (.inr (List.getElem_mem hk)))
   have:n.constraints.getD k 0=n.constraints[k]:=by rw[dC,hx];rfl
   rw[aZ (σ:=.int .i64) hx,this];exact ru _ _ (oT hs hm)
  refine mD (fun k:Nat=>(v,((k:Int),nt n ()))) (fun k=>bB (n.constraints.getD k 0) v) n.constraints.length ?_ ?_ ?_ rfl (bt (by omega))
  .intro k hk hp;have e:∀(p q:Int),p=q->(some (.inl (v,(p,nt n ()))):Option (TL Cp.σs⊕Out B7))=some (.inl (v,(q,nt n ()))):=by rintro _ _ rfl;rfl
   unfold nt
   try dsimp only
   unfold wj;exact ao (ak (show(k:Int)<(n.constraints.length:Int) by omega)) (ai (aK ⟨by omega,by omega⟩) (af (hev k hk) (ag (by show Bool.not (bB _ v)=false;rw[hp];rfl) (e _ _ (bG (by omega) (by omega))))))
  .intro k hk hp;unfold nt
   try dsimp only
   unfold wj;exact ao (ak (show(k:Int)<(n.constraints.length:Int) by omega)) (ai (aK ⟨by omega,by omega⟩) (af (hev k hk) (ao (by show Bool.not (bB _ v)=true;rw[hp];rfl) rfl)))
  .unfold nt
   try dsimp only
   unfold wj;exact ag (aA (show ¬(n.constraints.length:Int)<(n.constraints.length:Int) by omega)) rfl
 have ha:(List.range n.constraints.length).all (fun k=>bB (n.constraints.getD k 0) v)=nN n v:=by
  unfold nN;rw[Bool.eq_iff_iff,List.all_eq_true,List.all_eq_true];constructor
  .intro h x hx;obtain⟨k,hk,rfl⟩:=List.getElem_of_mem hx;have:=h k (List.mem_range.2 hk)
   rwa [dC,aT hk]at this
  .intro h k hk;have hk:=List.mem_range.1 hk;rw[dC,aT hk];exact h _ (List.getElem_mem hk)
 rw[ha]at e2;cases hf:nN n v with|true=>rw[hf]at e2;exact af e2 rfl|false=>rw[hf]at e2;exact af e2 rfl
theorem ahO(P:List (List aN))(z:List aN)(h:P.length<=10000000):room 24 (List.length (P++(z::[])))=true:=by rw[aW,ca,List.length_nil];exact ks (by omega) (by omega)
theorem agy(ls:List Bool)(cs:List (List aN))(v:List Bool) :
  aaR (v,((0:Int),nt n (ls,(cs,([],())))))=some (v,nt n (ls,(cs,(fR n v,())))):=by
 have hl:=hs.lens.2.1;unfold aaR;delta gZ;refine cu (fun k:Nat=>(v,((k:Int),nt n (ls,(cs,((n.ax.take k).map (fun l=>bB l.next v),())))))) n.ax.length rfl ?_ ?_ (bt (by omega))
 .intro k hk;have hx:=aT hk;have hx':(n.ax.map bM)[k]?=some (bM n.ax[k]):=by rw[cg,hx];rfl
  have hL:((n.ax.map bM).length:Int)=(n.ax.length:Int):=by rw[aO]
  have hm:n.ax[k].next∈dr n:=by unfold dr;simp only[List.mem_append];exact .inl (.inl (.inl (.inl (.inl (List.mem_map.2 ⟨_,List.getElem_mem hk,rfl⟩)))))
  have e1:j8 ((gt ae (n.ax.map bM) (k:Int)).2.1,(v,()))=some (bB n.ax[k].next v,()):=by rw[aZ (σ:=ae) hx'];exact ru n.ax[k].next v (oT hs hm)
  have ht:(n.ax.take (k+1)).map (fun l=>bB l.next v)=(n.ax.take k).map (fun l=>bB l.next v)++[bB n.ax[k].next v]:=by rw[Pl.cW hx,dV];rfl
  have e:∀(a b:List Bool) (p q:Int),a=b->p=q->(some (.inl (v,(p,nt n (ls,(cs,(a,())))))):Option (TL Co.σs⊕Out B5))=some (.inl (v,(q,nt n (ls,(cs,(b,())))))):=by rintro _ _ _ _ rfl rfl;rfl
  unfold nt
  try dsimp only
  unfold CM;exact ao (ak (show(k:Int)<((n.ax.map bM).length:Int) by omega)) (ai (aK ⟨by omega,by omega⟩) (af e1 (ai (sX _ _ (by rw[aO,da];omega)) (e _ _ _ _ ht.symm (bG (by omega) (by omega))))))
 .have hL:((n.ax.map bM).length:Int)=(n.ax.length:Int):=by rw[aO]
  unfold nt
  try dsimp only
  unfold CM;rw[dt];exact ag (aA (show ¬(n.ax.length:Int)<((n.ax.map bM).length:Int) by omega)) rfl
theorem acs{m:bP}{w:nA}(hm:m∈n.aa)(hw:w∈m.writes):w.on<9223372036854775808/\(∀l∈w.addr,l<9223372036854775808)/\∀l∈w.data,l<9223372036854775808:=by
 have aY:∀l∈pQ w,l∈dr n:=fun l hl=>by unfold dr;simp only[List.mem_append];refine .inl (.inr (List.mem_flatMap.2 ⟨m,hm,?_⟩));unfold nY;rw[List.mem_append];exact .inr (List.mem_flatMap.2 ⟨w,hw,hl⟩)
 exact⟨oT hs (aY _ (by unfold pQ;simp)),fun l hl=>oT hs (aY _ (by unfold pQ;simp[hl])),fun l hl=>oT hs (aY _ (by unfold pQ;simp[hl]))⟩
theorem aps(nl ls:List Bool)(cs out:List (List aN))(v:List Bool){i K:Nat}{m:bP}{c:List aN}(hm:n.aa[i]?=some m)(hc:mf m K c)(hK:K<=5000) :
  Mf (v,((i:Int),(c,((0:Int),nt n (ls,(cs,(nl,(out,()))))))))=some (v,((i:Int),(oJ v m c,nt n (ls,(cs,(nl,(out,()))))))):=by
 have hmm:=dn hm;obtain⟨m1,m2,m3,m4,_,h6,_,h8⟩:=hs.aa m hmm;have hm':(n.aa.map av)[i]?=some (av m):=by rw[cg,hm];rfl
 have hi:=dL hm';have gM:gt ab (n.aa.map av) (i:Int)=av m:=aZ (σ:=ab) hm';have hii:aq (i:Int) (List.length (n.aa.map av))=true:=aK ⟨by omega,by omega⟩;have hW:(gt ab (n.aa.map av) (i:Int)).2.2.2.2.1=m.writes.map dZ:=by rw[gM];rfl
 unfold Mf;delta u16;refine cu (fun k:Nat=>(v,((i:Int),((m.writes.take k).foldl (j4 v) c,((k:Int),nt n (ls,(cs,(nl,(out,())))))))) ) m.writes.length rfl ?_ ?_ (bt (by omega))
 .intro k hk;have hx:=aT hk;have hwm:=List.getElem_mem hk;have hck:mf m (K+k) ((m.writes.take k).foldl (j4 v) c):=by
   have:=Ou (v:=v) (l:=m.writes.take k) hc (fun w hw=>h6 w (List.mem_of_mem_take hw))
   rwa [da,Nat.min_eq_left (by omega)]at this
  have hst:(m.writes.take (k+1)).foldl (j4 v) c=j4 v ((m.writes.take k).foldl (j4 v) c) m.writes[k]:=by rw[Pl.cW hx,List.foldl_append];rfl
  rw[hst];generalize (m.writes.take k).foldl (j4 v) c=u at hck;obtain⟨l1,l2,l3⟩:=acs hs hmm hwm;obtain⟨a1,a2⟩:=h6 _ hwm;have hw':(m.writes.map dZ)[k]?=some (dZ m.writes[k]):=by rw[cg,hx];rfl
  generalize m.writes[k]=w at l1 l2 l3 a1 a2 hw';have gW:gt bI (gt ab (n.aa.map av) (i:Int)).2.2.2.2.1 (k:Int)=dZ w:=by rw[hW];exact aZ (σ:=bI) hw'
  have e0:j8 ((gt bI (gt ab (n.aa.map av) (i:Int)).2.2.2.2.1 (k:Int)).1,(v,()))=some (bB w.on v,()):=by rw[gW];exact ru w.on v l1
  have e1:q9 ((gt bI (gt ab (n.aa.map av) (i:Int)).2.2.2.2.1 (k:Int)).2.1,(v,()))=some ((cF (w.addr.map (bB · v)):Int),()):=by rw[gW];exact Oe w.addr v (by omega) l2
  have e2:q9 ((gt bI (gt ab (n.aa.map av) (i:Int)).2.2.2.2.1 (k:Int)).2.2.1,(v,()))=some ((cF (w.data.map (bB · v)):Int),()):=by rw[gW];exact Oe w.data v (by omega) l3
  have e3:=ao9 u (cF (w.addr.map (bB · v))) (cF (w.data.map (bB · v))) (by have:=hck.len;omega) hck.j3;have e:∀(a b:List aN) (p q:Int),a=b->p=q->(some (.inl (v,((i:Int),(a,(p,nt n (ls,(cs,(nl,(out,()))))))))):Option (TL B6.σs⊕Out BL))=some (.inl (v,((i:Int),(b,(q,nt n (ls,(cs,(nl,(out,()))))))))):=by rintro _ _ _ _ rfl rfl;rfl
  have hlw:(k:Int)<Int.ofNat (List.length (gt ab (n.aa.map av) (i:Int)).2.2.2.2.1):=by rw[hW,aO];show(k:Int)<(m.writes.length:Int);omega
  have hiw:aq (k:Int) (List.length (gt ab (n.aa.map av) (i:Int)).2.2.2.2.1)=true:=aK ⟨by omega,hlw⟩;unfold nt
  try dsimp only
  unfold CC;refine ai hii (ao (ak hlw) (ai hii (ai hiw (af e0 ?_))));unfold j4;cases hon:bB w.on v with|true=>rw[if_pos rfl];exact ao rfl (af e1 (af e2 (af e3 (e _ _ _ _ rfl (bG (by omega) (by omega))))))|false=>rw[if_neg (by simp)];exact ag rfl (e _ _ _ _ rfl (bG (by omega) (by omega)))
 .have hlw:¬(m.writes.length:Int)<Int.ofNat (List.length (gt ab (n.aa.map av) (i:Int)).2.2.2.2.1):=by rw[hW,aO];show ¬(m.writes.length:Int)<(m.writes.length:Int);omega
  unfold nt
  try dsimp only
  unfold CC;rw[dt];exact ai hii (ag (aA hlw) rfl)
theorem aoI{α β γ:Type}{f:α->β->γ}{a:List α}{b:List β}{i:Nat}{x:α}{y:β}(h1:a[i]?=some x)(h2:b[i]?=some y):(List.zipWith f a b).take (i+1)=(List.zipWith f a b).take i++[f x y]:=by
 have h3:(List.zipWith f a b)[i]?=some (f x y):=by rw[List.getElem?_zipWith,h1,h2]
 exact Pl.cW h3
theorem apr{K:Nat}(hK:K<=5000)(ls:List Bool)(cs:List (List aN))(ok:jF n K ls cs)(v:List Bool) :
  Yr (bz n,((ls,(cs,())),(v,())))=some ((fR n v,(fS n cs v,())),()):=by
 have e3:=agy hs ls cs v;have hM:=hs.lens.2.2.2.2;have hcl:=ok.mG;have hz:(fS n cs v).length=n.aa.length:=by unfold fS;rw[List.length_zipWith];omega
 have hL:((n.aa.map av).length:Int)=(n.aa.length:Int):=by rw[aO]
 have e7:aaQ (v,((0:Int),nt n (ls,(cs,(fR n v,([],()))))))=some (fR n v,(fS n cs v,())):=by
  unfold aaQ;delta iu;refine cu (fun k:Nat=>(v,((k:Int),nt n (ls,(cs,(fR n v,((fS n cs v).take k,()))))))) n.aa.length rfl ?_ ?_ (bt (by omega))
  .intro k hk;have hx:=aT hk;have hkc:k<cs.length:=by omega
   have hy:=aT hkc;have e11:=aps hs (fR n v) ls cs ((fS n cs v).take k) v hx (ok.ok k _ _ hx hy) hK;have gC:gt (.sl ar) cs (k:Int)=cs[k]:=aZ (σ:=.sl ar) hy;rw[<-gC]at e11;have e:∀(a b:List (List aN)) (p q:Int),a=b->p=q->(some (.inl (v,(p,nt n (ls,(cs,(fR n v,(a,()))))))):Option (TL Cn.σs⊕Out B4))=some (.inl (v,(q,nt n (ls,(cs,(fR n v,(b,()))))))):=by rintro _ _ _ _ rfl rfl;rfl
   have hzs:(fS n cs v).take (k+1)=(fS n cs v).take k++[oJ v n.aa[k] cs[k]]:=aoI hs hx hy;unfold nt
   try dsimp only
   unfold CL;refine ao (ak (show(k:Int)<((n.aa.map av).length:Int) by omega)) (ai (aK ⟨by omega,show(k:Int)<(cs.length:Int) by omega⟩) (af e11 (ai (ahO hs ((fS n cs v).take k) _ (by rw[da];omega)) (e _ _ _ _ ?_ (bG (show(k:Int)+1=((k+1:Nat):Int) by omega) (by omega))))));rw[hzs];exact congrArg (fun c:List aN=>(fS n cs v).take k++[oJ v n.aa[k] c]) gC
  .unfold nt
   try dsimp only
   unfold CL;rw[<-hz,dt,hz];exact ag (aA (show ¬(n.aa.length:Int)<((n.aa.map av).length:Int) by omega)) rfl
 exact af e3 (af e7 rfl)
end
theorem DJ{x k:Int}(h0:0<=x)(h:x<2^k.toNat):jn x k=true:=by unfold jn;rw[bg (Int.ediv_eq_zero_of_lt h0 h)]
theorem aoZ{m:bP}{a w:Nat}{M:List aN}(m1:1<=m.addr/\m.addr<=62)(m2:1<=m.word/\m.word<=64)(ha:(a:Int)<2^m.addr.toNat)(hw:(w:Int)<2^m.word.toNat) :
  Rb ((a:Int),((w:Int),(m.addr,(m.word,(M,())))))=some (true,(m.addr,(m.word,(wr M a w,())))):=by
 have f1:=uF (v:=(a:Int)) (w:=m.addr) ⟨by omega,by omega⟩;have f2:=uF (v:=(w:Int)) (w:=m.word) ⟨by omega,by omega⟩;rw[DJ (by omega) ha]at f1;rw[DJ (by omega) hw]at f2;show QK Fp (a:Int) (w:Int) m.addr m.word M=_;unfold QK;have e:∀A B:List aN,A=B->(some (true,(m.addr,(m.word,(A,())))):Option (Out Fq))=some (true,(m.addr,(m.word,(B,())))):=by rintro _ _ rfl;rfl
 refine af f1 (ag rfl (af f2 (ag rfl ?_)));unfold wr;by_cases h0:(w:Int)=0
 .rw[if_pos h0];exact ao (ak h0) (e _ _ (OK _ _))
 .rw[if_neg h0];exact ag (aA h0) (e _ _ (OJ _ _ _))
section
variable{n:aD}{V:Nat}(hs:cO n V)
include hs
theorem agW(ord:List (bH×bF))(ls:List Bool)(rs:List dB)(v:List Bool){i K:Nat}{m:bP}{c:List aN}(hm:n.aa[i]?=some m)(hc:mf m K c)(hK:K<=5000)(hr:i<rs.length) :
  Mt ((i:Int),(m.writes.map dZ,((m.writes.length:Int),((0:Int),mc n ord ls (rs.set i (m.addr,(m.word,(c,())))) (v,())))))=some (mc n ord ls (rs.set i (m.addr,(m.word,(oJ v m c,())))) (v,())):=by
 have hmm:=dn hm;obtain⟨m1,m2,m3,m4,_,h6,_,h8⟩:=hs.aa m hmm;unfold Mt;delta u16;refine cu (fun k:Nat=>((i:Int),(m.writes.map dZ,((m.writes.length:Int),((k:Int),mc n ord ls (rs.set i (m.addr,(m.word,((m.writes.take k).foldl (j4 v) c,())))) (v,())))))) m.writes.length rfl ?_ ?_ (bt (by omega))
 .intro k hk;have hx:=aT hk;have hwm:=List.getElem_mem hk;have hst:(m.writes.take (k+1)).foldl (j4 v) c=j4 v ((m.writes.take k).foldl (j4 v) c) m.writes[k]:=by rw[Pl.cW hx,List.foldl_append];rfl
  rw[hst];generalize (m.writes.take k).foldl (j4 v) c=u;obtain⟨l1,l2,l3⟩:=acs hs hmm hwm;obtain⟨a1,a2⟩:=h6 _ hwm;have hw':(m.writes.map dZ)[k]?=some (dZ m.writes[k]):=by rw[cg,hx];rfl
  have hwl:=dL hw';generalize m.writes[k]=w at l1 l2 l3 a1 a2 hw';have gW:gt bI (m.writes.map dZ) (k:Int)=dZ w:=aZ (σ:=bI) hw';have e0:ka ((gt bI (m.writes.map dZ) (k:Int)).1,(v,()))=some (bB w.on v,()):=by rw[gW];exact ry w.on v l1
  have e1:rl ((gt bI (m.writes.map dZ) (k:Int)).2.1,(v,()))=some ((cF (w.addr.map (bB · v)):Int),()):=by rw[gW];exact Oo w.addr v (by omega) l2
  have e2:rl ((gt bI (m.writes.map dZ) (k:Int)).2.2.1,(v,()))=some ((cF (w.data.map (bB · v)):Int),()):=by rw[gW];exact Oo w.data v (by omega) l3
  have hg:List.getD (rs.set i (m.addr,(m.word,(u,())))) (Int.toNat (i:Int)) zR=(m.addr,(m.word,(u,()))):=by rw[dC,Int.toNat_natCast,List.getElem?_set_self hr];rfl
  have e3:Rb ((cF (w.addr.map (bB · v)):Int),((cF (w.data.map (bB · v)):Int),((List.getD (rs.set i (m.addr,(m.word,(u,())))) (Int.toNat (i:Int)) zR).1,((List.getD (rs.set i (m.addr,(m.word,(u,())))) (Int.toNat (i:Int)) zR).2.1,((List.getD (rs.set i (m.addr,(m.word,(u,())))) (Int.toNat (i:Int)) zR).2.2.1,())))))=some (true,(m.addr,(m.word,(wr u (cF (w.addr.map (bB · v))) (cF (w.data.map (bB · v))),())))):=by rw[hg];exact aoZ ⟨m1,m2⟩ ⟨m3,m4⟩ (DD (by rw[aO];exact a1)) (DD (by rw[aO];exact a2))
  have e:∀(A B:List dB) (p q:Int),A=B->p=q->(some (.inl ((i:Int),(m.writes.map dZ,((m.writes.length:Int),(p,mc n ord ls A (v,())))))):Option (TL Ce.σs⊕Out BR))=some (.inl ((i:Int),(m.writes.map dZ,((m.writes.length:Int),(q,mc n ord ls B (v,())))))):=by rintro _ _ _ _ rfl rfl;rfl
  unfold mc nt
  try dsimp only
  unfold CH;refine ao (ak (show(k:Int)<(m.writes.length:Int) by omega)) (ai (aK ⟨by omega,by omega⟩) (af e0 ?_));unfold j4;cases hon:bB w.on v with|true=>rw[if_pos rfl];refine ao rfl (af e1 (af e2 (af e3 (e _ _ _ _ ?_ (bG (by omega) (by omega))))));exact List.set_set _|false=>rw[if_neg (by simp)];exact ag rfl (e _ _ _ _ rfl (bG (by omega) (by omega)))
 .unfold mc nt
  try dsimp only
  unfold CH;rw[dt];exact ag (aA (show ¬(m.writes.length:Int)<(m.writes.length:Int) by omega)) rfl
theorem api(ord:List (bH×bF))(ls:List Bool)(rs:List dB)(v:List Bool){i K:Nat}{m:bP}{c:List aN}(hm:n.aa[i]?=some m)(hc:mf m K c)(hK:K<=5000)(hr:rs[i]?=some (m.addr,(m.word,(c,())))) :
  aaD ((i:Int),mc n ord ls rs (v,()))=some (mc n ord ls (rs.set i (m.addr,(m.word,(oJ v m c,())))) (v,())):=by
 have hm':(n.aa.map av)[i]?=some (av m):=by rw[cg,hm];rfl
 have hi:=dL hm';have hri:=dL hr;have hset:rs.set i (m.addr,(m.word,(c,())))=rs:=by rw[aT hri]at hr;injection hr with hr;rw[<-hr];exact List.set_getElem_self hri
 have e2:=agW hs ord ls rs v hm hc hK hri;rw[hset]at e2;have gM:gt ab (n.aa.map av) (i:Int)=av m:=aZ (σ:=ab) hm';have hwl:((gt ab (n.aa.map av) (i:Int)).2.2.2.2.1)=m.writes.map dZ:=by rw[gM];rfl
 have ee:∀(L:List bI.T),L=m.writes.map dZ->Mt ((Int.ofNat (Int.toNat (i:Int))),(L,((Int.ofNat L.length),((0:Int),mc n ord ls rs (v,())))))=some (mc n ord ls (rs.set i (m.addr,(m.word,(oJ v m c,())))) (v,())):=by
  rintro _ rfl;have hl:Int.ofNat (m.writes.map dZ).length=(m.writes.length:Int):=by rw[aO];rfl
  rw[hl];exact e2
 exact ai (show aq (i:Int) (List.length rs)=true from aK ⟨by omega,by omega⟩) (ai (show aq (i:Int) (List.length (n.aa.map av))=true from aK ⟨by omega,by omega⟩) (af (ee _ hwl) rfl))
theorem ahX(ord:List (bH×bF))(ls:List Bool)(rs:List dB)(v:List Bool) :
  abd (n.constraints,((n.constraints.length:Int),((0:Int),mc n ord ls rs (true,(v,())))))=some (mc n ord ls rs (nN n v,(v,()))):=by
 have hl:=hs.lens.2.2.2.1;unfold abd;delta u16;refine cu (fun k:Nat=>(n.constraints,((n.constraints.length:Int),((k:Int),mc n ord ls rs ((n.constraints.take k).all (bB · v),(v,())))))) n.constraints.length rfl ?_ ?_ (bt (by omega))
 .intro k hk;have hx:=aT hk;have hm:n.constraints[k]∈dr n:=by unfold dr;simp only[List.mem_append];exact .inl (.inl (.inr (List.getElem_mem hk)))
  have e1:ka (gt (.int .i64) n.constraints (k:Int),(v,()))=some (bB n.constraints[k] v,()):=by rw[aZ (σ:=.int .i64) hx];exact ry _ _ (oT hs hm)
  have ht:(n.constraints.take (k+1)).all (bB · v)=((n.constraints.take k).all (bB · v)&&bB n.constraints[k] v):=by rw[Pl.cW hx,List.all_append];simp
  have e:∀(a b:Bool) (p q:Int),a=b->p=q->(some (.inl (n.constraints,((n.constraints.length:Int),(p,mc n ord ls rs (a,(v,())))))):Option (TL Cz.σs⊕Out Ch))=some (.inl (n.constraints,((n.constraints.length:Int),(q,mc n ord ls rs (b,(v,())))))):=by rintro _ _ _ _ rfl rfl;rfl
  rw[ht];unfold mc nt
  try dsimp only
  unfold CV;refine ao (ak (show(k:Int)<(n.constraints.length:Int) by omega)) (ai (aK ⟨by omega,by omega⟩) ?_);cases(n.constraints.take k).all (bB · v)with
  |true=>exact ao rfl (af e1 (e _ _ _ _ (by cases bB n.constraints[k] v<;>rfl) (bG (by omega) (by omega))))
  |false=>exact ag rfl (e _ _ _ _ rfl (bG (by omega) (by omega)))
 .unfold mc nt
  try dsimp only
  unfold CV;rw[dt];exact ag (aA (show ¬(n.constraints.length:Int)<(n.constraints.length:Int) by omega)) rfl
theorem agK(ord:List (bH×bF))(ls:List Bool)(rs:List dB)(f:Bool)(v:List Bool) :
  aaM (n.bo,((n.bo.length:Int),((0:Int),mc n ord ls rs (f,([],(v,()))))))=some (mc n ord ls rs (f,(mM n v,(v,())))):=by
 have hl:=hs.lens.2.2.2.1;unfold aaM;delta nH;refine cu (fun k:Nat=>(n.bo,((n.bo.length:Int),((k:Int),mc n ord ls rs (f,((n.bo.take k).map (bB · v),(v,()))))))) n.bo.length rfl ?_ ?_ (bt (by omega))
 .intro k hk;have hx:=aT hk;have hm:n.bo[k]∈dr n:=by unfold dr;simp only[List.mem_append];exact .inl (.inl (.inl (.inr (List.getElem_mem hk))))
  have e1:ka (gt (.int .i64) n.bo (k:Int),(v,()))=some (bB n.bo[k] v,()):=by rw[aZ (σ:=.int .i64) hx];exact ry _ _ (oT hs hm)
  have ht:(n.bo.take (k+1)).map (bB · v)=(n.bo.take k).map (bB · v)++[bB n.bo[k] v]:=by rw[Pl.cW hx,dV];rfl
  have e:∀(a b:List Bool) (p q:Int),a=b->p=q->(some (.inl (n.bo,((n.bo.length:Int),(p,mc n ord ls rs (f,(a,(v,()))))))):Option (TL Ck.σs⊕Out BW))=some (.inl (n.bo,((n.bo.length:Int),(q,mc n ord ls rs (f,(b,(v,()))))))):=by rintro _ _ _ _ rfl rfl;rfl
  unfold mc nt
  try dsimp only
  unfold CK;exact ao (ak (show(k:Int)<(n.bo.length:Int) by omega)) (ai (aK ⟨by omega,by omega⟩) (af e1 (ai (sX _ _ (by rw[aO,da];omega)) (e _ _ _ _ ht.symm (bG (by omega) (by omega))))))
 .unfold mc nt
  try dsimp only
  unfold CK;rw[dt];exact ag (aA (show ¬(n.bo.length:Int)<(n.bo.length:Int) by omega)) rfl
theorem acN{α:Type}{A B:List α}{k:Nat}{x:α}(hA:A[k]?=some x)(hB:k<B.length):(A.take k++B.drop k).set k x=A.take (k+1)++B.drop (k+1):=by have hk:=(List.getElem?_eq_some_iff.1 hA).1;rw[rq hB,tT (by rw[da];omega),Pl.cW hA];simp
theorem agL(ord:List (bH×bF))(ls:List Bool)(rs:List dB)(f:Bool)(bs v:List Bool)(hls:ls.length=n.ax.length) :
  aaL (n.ax.map bM,(((n.ax.map bM).length:Int),((0:Int),mc n ord ls rs (f,(bs,(v,()))))))=some (mc n ord (fR n v) rs (f,(bs,(v,())))):=by
 have hl:=hs.lens.2.1;have hL:((n.ax.map bM).length:Int)=(n.ax.length:Int):=by rw[aO]
 have hnl:(fR n v).length=n.ax.length:=by unfold fR;rw[aO]
 unfold aaL;delta nH;refine cu (fun k:Nat=>(n.ax.map bM,(((n.ax.map bM).length:Int),((k:Int),mc n ord ((fR n v).take k++ls.drop k) rs (f,(bs,(v,()))))))) n.ax.length rfl ?_ ?_ (bt (by omega))
 .intro k hk;have hx:=aT hk;have hx':(n.ax.map bM)[k]?=some (bM n.ax[k]):=by rw[cg,hx];rfl
  have hn:(fR n v)[k]?=some (bB n.ax[k].next v):=by unfold fR;rw[cg,hx];rfl
  have hm:n.ax[k].next∈dr n:=by unfold dr;simp only[List.mem_append];exact .inl (.inl (.inl (.inl (.inl (List.mem_map.2 ⟨_,List.getElem_mem hk,rfl⟩)))))
  have e1:ka ((gt ae (n.ax.map bM) (k:Int)).2.1,(v,()))=some (bB n.ax[k].next v,()):=by rw[aZ (σ:=ae) hx'];exact ry n.ax[k].next v (oT hs hm)
  have hmix:((fR n v).take k++ls.drop k).set k (bB n.ax[k].next v)=(fR n v).take (k+1)++ls.drop (k+1):=acN hs hn (by omega);have hml:((fR n v).take k++ls.drop k).length=n.ax.length:=by rw[aW,da,List.length_drop];omega
  have e:∀(a b:List Bool) (p q:Int),a=b->p=q->(some (.inl (n.ax.map bM,(((n.ax.map bM).length:Int),(p,mc n ord a rs (f,(bs,(v,()))))))):Option (TL Cj.σs⊕Out BV))=some (.inl (n.ax.map bM,(((n.ax.map bM).length:Int),(q,mc n ord b rs (f,(bs,(v,()))))))):=by rintro _ _ _ _ rfl rfl;rfl
  unfold mc nt
  try dsimp only
  unfold CJ;exact ao (ak (show(k:Int)<((n.ax.map bM).length:Int) by omega)) (ai (aK ⟨by omega,by omega⟩) (af e1 (ai (aK ⟨by omega,by omega⟩) (e _ _ _ _ hmix (bG (by omega) (by omega))))))
 .have hfin:(fR n v).take n.ax.length++ls.drop n.ax.length=fR n v:=by rw[List.drop_eq_nil_of_le (by omega),dF,List.take_of_length_le (by omega)]
  rw[hfin];unfold mc nt
  try dsimp only
  unfold CJ;exact ag (aA (show ¬(n.ax.length:Int)<((n.ax.map bM).length:Int) by omega)) rfl
theorem agM(ord:List (bH×bF))(ls nl:List Bool)(cs:List (List aN)){K:Nat}(hK:K<=5000)(ok:jF n K ls cs)(f:Bool)(bs v:List Bool) :
  aaK (((bX n cs).length:Int),((0:Int),mc n ord nl (bX n cs) (f,(bs,(v,())))))=some (mc n ord nl (bX n (fS n cs v)) (f,(bs,()))):=by
 have hM:=hs.lens.2.2.2.2;have hcl:=ok.mG;have hz:(fS n cs v).length=n.aa.length:=by unfold fS;rw[List.length_zipWith];omega
 have hr1:=wO hcl;have hr2:=wO hz;unfold aaK;delta u16;refine cu (fun k:Nat=>(((bX n cs).length:Int),((k:Int),mc n ord nl ((bX n (fS n cs v)).take k++(bX n cs).drop k) (f,(bs,(v,())))))) n.aa.length rfl ?_ ?_ (bt (by omega))
 .intro k hk;have hx:=aT hk;have hkc:k<cs.length:=by omega
  have hy:=aT hkc;have hn:(fS n cs v)[k]?=some (oJ v n.aa[k] cs[k]):=by unfold fS;rw[List.getElem?_zipWith,hx,hy]
  have ha:=wV hx hy;have hb:=wV hx hn;have hmid:((bX n (fS n cs v)).take k++(bX n cs).drop k)[k]?=some (n.aa[k].addr,(n.aa[k].word,(cs[k],()))):=by rw[List.getElem?_append_right (by rw[da];omega),da,Nat.min_eq_left (by omega),Nat.sub_self,List.getElem?_drop];exact ha
  have ew:=api hs ord nl ((bX n (fS n cs v)).take k++(bX n cs).drop k) v hx (ok.ok k _ _ hx hy) hK hmid;rw[acN hs hb (by omega)]at ew;have e:∀(p q:Int) (R:List dB),p=q->(some (.inl (((bX n cs).length:Int),(p,mc n ord nl R (f,(bs,(v,())))))):Option (TL Ci.σs⊕Out BU))=some (.inl (((bX n cs).length:Int),(q,mc n ord nl R (f,(bs,(v,())))))):=by rintro _ _ _ rfl;rfl
  unfold mc nt
  try dsimp only
  unfold CI;exact ao (ak (show(k:Int)<((bX n cs).length:Int) by omega)) (af ew (e _ _ _ (bG (by omega) (by omega))))
 .have hfin:(bX n (fS n cs v)).take n.aa.length++(bX n cs).drop n.aa.length=bX n (fS n cs v):=by rw[List.drop_eq_nil_of_le (by omega),dF,List.take_of_length_le (by omega)]
  rw[hfin];unfold mc nt
  try dsimp only
  unfold CI;exact ag (aA (show ¬(n.aa.length:Int)<((bX n cs).length:Int) by omega)) rfl
theorem agN(ft:Fit n){K:Nat}(hK:K<=5000)(ls ins:List Bool)(cs:List (List aN))(ok:jF n K ls cs)(hi:ins.length=n.aM.length) :
  Yq (ins,mc n (aX n V) ls (bX n cs) ())=some (nN n (mn n ls cs ins),((0:Int),mc n (aX n V) (fR n (mn n ls cs ins)) (bX n (fS n cs (mn n ls cs ins))) (mM n (mn n ls cs ins),()))):=by
 have ev:=apa hs ft hK ls ins cs ok hi;generalize mn n ls cs ins=v at ev;exact af ev (ag rfl (af (ahX hs (aX n V) ls (bX n cs) v) (af (agK hs (aX n V) ls (bX n cs) (nN n v) v) (af (agL hs (aX n V) ls (bX n cs) (nN n v) (mM n v) v ok.qx) (af (agM hs (aX n V) ls (fR n v) cs hK ok (nN n v) (mM n v) v) rfl)))))
end
theorem r9{L:List Int}(h:L.length<=1000000):tf (L,())=some (L,()):=ai (qW (by decide) (by show L.length<=_;omega)) rfl
theorem clL{L:List ae.T}(h:L.length<=1000000):al1 (L,())=some (L,()):=ai (qW (by decide) (by show L.length<=_;omega)) rfl
theorem clA{L:List ae.T}(h:L.length<=1000000):amu (L,())=some (L,()):=ai (qW (by decide) (by show L.length<=_;omega)) rfl
theorem clM{L:List ab.T}(h:L.length<=1000000):alU (L,())=some (L,()):=ai (qW (by decide) (by show([]++L).length<=_;rw[List.nil_append];omega)) rfl
theorem clR{L:List cj.T}(h:L.length<=1000000):KU (L,())=some (L,()):=ai (qW (by decide) (by show([]++L).length<=_;rw[List.nil_append];omega)) rfl
theorem clW{L:List bI.T}(h:L.length<=1000000):KE (L,())=some (L,()):=ai (qW (by decide) (by show([]++L).length<=_;rw[List.nil_append];omega)) rfl
theorem RQ{L:List Bool}(h:L.length<=1000000):Lh (L,())=some (L,()):=ai (qW (by decide) (by show([]++L).length<=_;rw[List.nil_append];omega)) rfl
section
variable(i:Nat)(t41 t42 b00:Int)(b01:List Int)(b02:List ae.T)(b03 b04 b05:List Int)(b07:List ae.T)(b1:List ab.T)(m0 m1:Int)(m2:Bool)(rs:List cj.T)(ws:List bI.T)(z:Int)
theorem apD(hr:rs.length<=1000)(hrr:∀r∈rs,r.2.1.length<=100000) :
  NX ((i:Int),(t41,(t42,((rs.length:Int),((0:Int),(b00,(b01,(b02,(b03,(b04,(b05,(b07,((i:Int),(b1,(m0,(m1,(m2,(rs,(ws,(z,()))))))))))))))))))))=some ((i:Int),(t41,(t42,(b00,(b01,(b02,(b03,(b04,(b05,(b07,((i:Int),(b1,(m0,(m1,(m2,(rs,(ws,(z,())))))))))))))))))):=by
 unfold NX;delta lT;refine cu (fun k:Nat=>((i:Int),(t41,(t42,((rs.length:Int),((k:Int),(b00,(b01,(b02,(b03,(b04,(b05,(b07,((i:Int),(b1,(m0,(m1,(m2,(rs,(ws,(z,()))))))))))))))))))))) rs.length rfl ?_ ?_ (bt (by omega))
 .intro k hk;have hx:=aT hk;have hg:gt cj rs (k:Int)=rs[k]:=aZ (σ:=cj) hx;have e1:tf ((gt cj rs (k:Int)).2.1,())=some ((gt cj rs (k:Int)).2.1,()):=r9 (by rw[hg];exact Nat.le_trans (hrr _ (List.getElem_mem hk)) (by decide));have e:∀(p q:Int) (A:List cj.T),p=q->A=rs->(some (.inl ((i:Int),(t41,(t42,((rs.length:Int),(p,(b00,(b01,(b02,(b03,(b04,(b05,(b07,((i:Int),(b1,(m0,(m1,(m2,(A,(ws,(z,()))))))))))))))))))))):Option (TL Dg.σs⊕Out Db))=some (.inl ((i:Int),(t41,(t42,((rs.length:Int),(q,(b00,(b01,(b02,(b03,(b04,(b05,(b07,((i:Int),(b1,(m0,(m1,(m2,(rs,(ws,(z,()))))))))))))))))))))):=by rintro _ _ _ rfl rfl;rfl
  have hi:aq (k:Int) (List.length rs)=true:=aK ⟨by omega,by omega⟩
  try dsimp only
  unfold Ds;exact ao (ak (show(k:Int)<(rs.length:Int) by omega)) (ai (by show Nat.beq i i=true;simp) (ai (by show Nat.beq i i=true;simp) (ai hi (af e1 (ai hi (e _ _ _ (bG (by omega) (by omega)) (OH (σ:=cj) hk rfl rfl)))))))
 .try dsimp only
  unfold Ds;exact ag (aA (show ¬(rs.length:Int)<(rs.length:Int) by omega)) rfl
theorem apE(hr:ws.length<=1000)(hrr:∀r∈ws,r.2.1.length<=100000/\r.2.2.1.length<=100000) :
  NW ((i:Int),(t41,(t42,((ws.length:Int),((0:Int),(b00,(b01,(b02,(b03,(b04,(b05,(b07,((i:Int),(b1,(m0,(m1,(m2,(rs,(ws,(z,()))))))))))))))))))))=some (t41,(t42,(b00,(b01,(b02,(b03,(b04,(b05,(b07,((i:Int),(b1,(m0,(m1,(m2,(rs,(ws,(z,())))))))))))))))) ):=by
 unfold NW;delta lT;refine cu (fun k:Nat=>((i:Int),(t41,(t42,((ws.length:Int),((k:Int),(b00,(b01,(b02,(b03,(b04,(b05,(b07,((i:Int),(b1,(m0,(m1,(m2,(rs,(ws,(z,()))))))))))))))))))))) ws.length rfl ?_ ?_ (bt (by omega))
 .intro k hk;have hx:=aT hk;have hg:gt bI ws (k:Int)=ws[k]:=aZ (σ:=bI) hx;have hb:=hrr _ (List.getElem_mem hk);have e1:tf ((gt bI ws (k:Int)).2.1,())=some ((gt bI ws (k:Int)).2.1,()):=r9 (by rw[hg];exact Nat.le_trans hb.1 (by decide));have e2:tf ((gt bI ws (k:Int)).2.2.1,())=some ((gt bI ws (k:Int)).2.2.1,()):=r9 (by rw[hg];exact Nat.le_trans hb.2 (by decide));have e:∀(p q:Int) (A:List bI.T),p=q->A=ws->(some (.inl ((i:Int),(t41,(t42,((ws.length:Int),(p,(b00,(b01,(b02,(b03,(b04,(b05,(b07,((i:Int),(b1,(m0,(m1,(m2,(rs,(A,(z,()))))))))))))))))))))):Option (TL Df.σs⊕Out Da))=some (.inl ((i:Int),(t41,(t42,((ws.length:Int),(q,(b00,(b01,(b02,(b03,(b04,(b05,(b07,((i:Int),(b1,(m0,(m1,(m2,(rs,(ws,(z,()))))))))))))))))))))):=by rintro _ _ _ rfl rfl;rfl
  have hi:aq (k:Int) (List.length ws)=true:=aK ⟨by omega,by omega⟩;have hs1:List.set ws (Int.toNat (k:Int)) ((gt bI ws (k:Int)).1,((gt bI ws (k:Int)).2.1,((gt bI ws (k:Int)).2.2.1,())))=ws:=OH (σ:=bI) hk rfl rfl;have hs2:∀A:List bI.T,A=ws->List.set A (Int.toNat (k:Int)) ((gt bI A (k:Int)).1,((gt bI A (k:Int)).2.1,((gt bI ws (k:Int)).2.2.1,())))=ws:=by rintro _ rfl;exact hs1
  try dsimp only
  unfold Dr;exact ao (ak (show(k:Int)<(ws.length:Int) by omega)) (ai (by show Nat.beq i i=true;simp) (ai hi (af e1 (af e2 (ai (ak rfl) (e _ _ _ (bG (by omega) (by omega)) (hs2 _ hs1)))))))
 .try dsimp only
  unfold Dr;exact ag (aA (show ¬(ws.length:Int)<(ws.length:Int) by omega)) rfl
end
theorem cl8{n:aD}(ft:Fit n)(b00:Int)(b01:List Int)(b02:List ae.T)(b03 b04 b05:List Int)(b07:List ae.T)(z:Int) :
  ab1 (((n.aa.map av).length:Int),((0:Int),(b00,(b01,(b02,(b03,(b04,(b05,(b07,(n.aa.map av,(z,())))))))))))=some (b00,(b01,(b02,(b03,(b04,(b05,(b07,(n.aa.map av,(z,()))))))))):=by
 have hL:(n.aa.map av).length=n.aa.length:=aO ..;have hM:=ft.aa.1;unfold ab1;delta jl;refine cu (fun k:Nat=>(((n.aa.map av).length:Int),((k:Int),(b00,(b01,(b02,(b03,(b04,(b05,(b07,(n.aa.map av,(z,()))))))))))) ) n.aa.length rfl ?_ ?_ (bt (by omega))
 .intro k hk;have hx:=aT hk;have hx':(n.aa.map av)[k]?=some (av n.aa[k]):=by rw[cg,hx];rfl
  have hf:=ft.aa.2 _ (List.getElem_mem hk);generalize n.aa[k]=m at hx' hf;have hg:gt ab (n.aa.map av) (k:Int)=av m:=aZ (σ:=ab) hx';have e1:KU ((gt ab (n.aa.map av) (k:Int)).2.2.2.1,())=some (m.reads.map dU,()):=by rw[hg];exact clR (by show(m.reads.map dU).length<=_;rw[aO];have:=hf.qD;omega)
  have e2:KE ((gt ab (n.aa.map av) (k:Int)).2.2.2.2.1,())=some (m.writes.map dZ,()):=by rw[hg];exact clW (by show(m.writes.map dZ).length<=_;rw[aO];have:=hf.uN;omega)
  have e13:=apD k ((n.aa.map av).length:Int) (k:Int) b00 b01 b02 b03 b04 b05 b07 (n.aa.map av) (gt ab (n.aa.map av) (k:Int)).1 (gt ab (n.aa.map av) (k:Int)).2.1 (gt ab (n.aa.map av) (k:Int)).2.2.1 (m.reads.map dU) (m.writes.map dZ) z (by rw[aO];have:=hf.qD;omega) (fun r hr=>by obtain⟨r2,hr2,rfl⟩:=List.mem_map.1 hr;have:=(hf.kM r2 hr2).1;show r2.addr.length<=_;omega);have e18:=apE k ((n.aa.map av).length:Int) (k:Int) b00 b01 b02 b03 b04 b05 b07 (n.aa.map av) (gt ab (n.aa.map av) (k:Int)).1 (gt ab (n.aa.map av) (k:Int)).2.1 (gt ab (n.aa.map av) (k:Int)).2.2.1 (m.reads.map dU) (m.writes.map dZ) z (by rw[aO];have:=hf.uN;omega) (fun r hr=>by obtain⟨r2,hr2,rfl⟩:=List.mem_map.1 hr;have:=hf.qF r2 hr2;exact⟨by show r2.addr.length<=_;omega,by show r2.data.length<=_;omega⟩);have e:∀(p q:Int) (A:List ab.T),p=q->A=n.aa.map av->(some (.inl (((n.aa.map av).length:Int),(p,(b00,(b01,(b02,(b03,(b04,(b05,(b07,(A,(z,())))))))))))) :Option (TL Dl.σs⊕Out De))=some (.inl (((n.aa.map av).length:Int),(q,(b00,(b01,(b02,(b03,(b04,(b05,(b07,(n.aa.map av,(z,())))))))))))) :=by rintro _ _ _ rfl rfl;rfl
  have hst:List.set (n.aa.map av) (Int.toNat (k:Int)) ((gt ab (n.aa.map av) (k:Int)).1,((gt ab (n.aa.map av) (k:Int)).2.1,((gt ab (n.aa.map av) (k:Int)).2.2.1,(m.reads.map dU,(m.writes.map dZ,())))))=n.aa.map av:=OH (σ:=ab) (by omega) (by rw[hg];rfl) rfl;have hi:aq (k:Int) (List.length (n.aa.map av))=true:=aK ⟨by omega,by omega⟩;have nn:nQ (Int.toNat (k:Int)) (Int.toNat (k:Int))=true:=ak rfl;have nb:Nat.beq (Int.toNat (k:Int)) (Int.toNat (k:Int))=true:=by simp
  try dsimp only
  unfold Dy;refine ao (ak (show(k:Int)<((n.aa.map av).length:Int) by omega)) (ai hi (af e1 (ai nn (ai nn (ai nn (ai nn (ai nn (ai (Ax (fun x=>Sh.DE x) _) (af e2 (ai nn (ai nn (ai nn (ai nb (ai nb (af e13 (ai nb (af e18 (e _ _ _ (bG (show(k:Int)+1=((k+1:Nat):Int) by omega) (by omega)) hst))))))))))))))))))
 .try dsimp only
  unfold Dy;exact ag (aA (show ¬(n.aa.length:Int)<((n.aa.map av).length:Int) by omega)) rfl
theorem afY{n:aD}(ft:Fit n):aoS (bz n,())=some (bz n,()):=by have e1:=r9 (L:=n.aM) (by have:=ft.ins.1;omega);have e2:=r9 (L:=n.cf) (by have:=ft.out.1;omega);have e3:=r9 (L:=n.bo) (by have:=ft.bad.1;omega);have e4:=r9 (L:=n.constraints) (by have:=ft.ov.1;omega);have e5:=clL (L:=n.ax.map bM) (by rw[aO];have:=ft.aF.1;omega);have e6:=clA (L:=n.aP.map dW) (by rw[aO];have:=ft.aP.1;omega);have e7:=clM (L:=n.aa.map av) (by rw[aO];have:=ft.aa.1;omega);have e8:=cl8 ft n.vars n.aM (n.ax.map bM) n.cf n.bo n.constraints (n.aP.map dW) (0:Int);exact af e1 (af e2 (af e3 (af e4 (af e5 (af e6 (af e7 (af e8 rfl)))))))
theorem VD(n:aD)(cs:List (List aN))(h:cs.length=n.aa.length):kQ (n.aa.map av) cs (n.aa.map av).length=bX n cs:=by
 refine List.ext_getElem? fun i=>?_;rcases Nat.lt_or_ge i n.aa.length with q|q
 .have hm:=aT q;have hc:=List.getElem?_eq_getElem (l:=cs) (i:=i) (by omega);have hm':(n.aa.map av)[i]?=some (av n.aa[i]):=by rw[cg,hm];rfl
  rw[wV hm hc];unfold kQ;rw[cg,List.getElem?_range (by rw[aO];exact q)];have g1:gt ab (n.aa.map av) (i:Int)=av n.aa[i]:=aZ (σ:=ab) hm';have g2:gt (.sl ar) cs (i:Int)=cs[i]:=aZ (σ:=.sl ar) hc;show some (nP (gt ab (n.aa.map av) (i:Int)).1 (gt ab (n.aa.map av) (i:Int)).2.1 (gt (.sl ar) cs (i:Int)))=_;rw[g1,g2];rfl
 .have h1:(bX n cs)[i]?=none:=List.getElem?_eq_none (by rw[wO h];exact q);have h2:(kQ (n.aa.map av) cs (n.aa.map av).length)[i]?=none:=List.getElem?_eq_none (by unfold kQ;rw[aO,List.length_range,aO];exact q);exact h2.trans h1.symm
theorem acQ{x k:Int}(h0:0<=x)(h:jn x k=true):x<2^k.toNat:=by unfold jn at h;have h:=of_decide_eq_true h;have hp:(0:Int)<2^k.toNat:=Int.pow_pos (by decide);have e:=Int.emod_def x (2^k.toNat);rw[h,Int.mul_zero,Int.sub_zero]at e;have:=Int.emod_lt_of_pos x hp;omega
theorem tF{c:List aN}{i:Nat}{p:aN}(h:c[i]?=some p):eJ c (i:Int)=p.1/\i7 c (i:Int)=p.2.1:=by have g:gt ar c (i:Int)=p:=aZ (σ:=ar) h;unfold eJ i7;rw[g];exact⟨rfl,rfl⟩
theorem apz{m:bP}{c:List aN}(h:jj m.addr m.word c=true)(ok:qz c):mf m 4096 c:=by
 unfold jj at h;simp only[Bool.and_eq_true,decide_eq_true_eq]at h;obtain⟨⟨⟨⟨⟨h1,h2⟩,h3⟩,h4⟩,h5⟩,h6⟩:=h;have hs:=WY h6;have h6':∀i,i<c.length->jB m.addr m.word c i=true:=fun i hi=>List.all_eq_true.1 h6 i (List.mem_range.2 hi);have hc:∀p∈c,(0<=p.1/\p.1<2^m.addr.toNat)/\0<p.2.1/\p.2.1<2^m.word.toNat:=by intro p hp;obtain⟨i,hi⟩:=List.getElem?_of_mem hp;have hil:=dL hi;obtain⟨e1,e2⟩:=tF hi;have hb:=h6' i hil;obtain⟨o1,o2⟩:=ok i hil;unfold jB at hb;simp only[Bool.and_eq_true,Bool.not_eq_true',decide_eq_false_iff_not]at hb;obtain⟨⟨⟨b1,b2⟩,b3⟩,_⟩:=hb;rw[e1]at o1 b2;rw[e2]at o2 b1 b3;exact⟨⟨o1.1,acQ o1.1 b2⟩,by omega,acQ o2.1 b3⟩
 refine⟨?_,h5,fun p hp=>(hc p hp).1,fun p hp=>(hc p hp).2⟩;refine List.pairwise_iff_getElem.2 fun i j hi hj hij=>?_;have:=hs j hj i hij;rw[(tF (aT hi)).1,(tF (aT hj)).1]at this;exact this
theorem apm{n:aD}{ls:List Bool}{cs:List (List aN)}(h:gk (bz n) (ls,(cs,()))=true)(ok:px cs):jF n 4096 ls cs:=by
 unfold gk at h;simp only[Bool.and_eq_true,decide_eq_true_eq]at h;obtain⟨⟨h1,h2⟩,h3⟩:=h;have h1':ls.length=n.ax.length:=h1.trans (aO ..);have h2':cs.length=n.aa.length:=h2.trans (aO ..);refine⟨h1',h2',fun i m c hm hc=>?_⟩;have hil:=dL hm;have h3':∀i,i<(n.aa.map av).length->j6 (n.aa.map av) cs i=true:=by have h3:(List.range (n.aa.map av).length).all (j6 (n.aa.map av) cs)=true:=h3;exact fun i hi=>List.all_eq_true.1 h3 i (List.mem_range.2 hi)
 have hp:=h3' i (by rw[aO];exact hil);unfold j6 at hp;have hm':(n.aa.map av)[i]?=some (av m):=by rw[cg,hm];rfl
 have g1:gt ab (n.aa.map av) (i:Int)=av m:=aZ (σ:=ab) hm';have g2:gt (.sl ar) cs (i:Int)=c:=aZ (σ:=.sl ar) hc;rw[g1,g2]at hp;exact apz hp (ok c (dn hc))
theorem aos{n:aD}(h:Pl.dD n=0):∃V,cO n V/\dM n=0/\n.vars.toNat=V/\fh (bc n) V=true:=by
 unfold Pl.dD at h;by_cases h0:dM n=0
 .obtain⟨V,hs⟩:=pS h0;have hV:n.vars.toNat=V:=by rw[hs.vars];rfl
  rw[if_neg (by simpa using h0),hV]at h;refine⟨V,hs,h0,hV,?_⟩;cases q:fh (bc n) V
  .rw[q]at h;simp at h
  .rfl
 .rw[if_pos h0]at h;exact absurd h h0
section
variable{n:aD}(ft:Fit n)(ls:List Bool)(cs:List (List aN))
include ft
theorem acU:Zq8 (nt n (ls,(cs,())))=some (match gk (bz n) (ls,(cs,()))with|true=>((0:Int),(kQ (n.aa.map av) cs (n.aa.map av).length,()))|false=>((14:Int),([],()))):=acT (bz n) (ls,(cs,())) (by show(n.aa.map av).length<=_;rw[aO];have:=ft.aa.1;omega)
theorem aiC(h:Pl.dD n=0)(hf:gk (bz n) (ls,(cs,()))=true)(hb:ls.length<=1000000):aom (nt n (ls,(cs,())))=some (.inr ((0:Int),mc n (aX n n.vars.toNat) ls (bX n cs) ())):=by
 obtain⟨V,hs,h0,hV,ha⟩:=aos h;have eo:=aoA hs ft h0;rw[if_pos ha]at eo;rw[hV];have el:=acU ft ls cs;rw[hf]at el;have hcs:cs.length=n.aa.length:=by unfold gk at hf;simp only[Bool.and_eq_true,decide_eq_true_eq]at hf;exact hf.1.2.trans (aO ..)
 have hr:=VD n cs hcs;have e:∀R R':List dB,R=R'->(some (.inr ((0:Int),mc n (aX n V) ls R ())):Option (Out Dx))=some (.inr ((0:Int),mc n (aX n V) ls R' ())):=by rintro _ _ rfl;rfl
 exact af (ur ft) (ag (by rw[h];rfl) (af el (ag rfl (af eo (af (afY ft) (af (RQ (L:=ls) hb) (ai (Ax (fun x=>Sh.DE x) _) (e _ _ hr))))))))
end
theorem apF{L:List Bool}(h:L.length<=1000000):aoq (L,())=some (L,(L,())):=af (RQ h) rfl
theorem afA(a w:Int)(c:List aN)(h:c.length<=1000000):Hw (a,(w,(c,())))=some (c,(a,(w,(c,())))):=ai (ak h) rfl
theorem agJ{n:aD}{V K:Nat}(hs:cO n V)(ord:List (bH×bF)){ls:List Bool}{cs:List (List aN)}(hK:K<=100000)(ok:jF n K ls cs) :
  To (mc n ord ls (bX n cs) ())=some (mc n ord ls (bX n cs) (ls,(cs,()))):=by
 have hM:=hs.lens.2.2.2.2;have hL:=hs.lens;have hcl:=ok.mG;have hr:=wO hcl;have hls:ls.length<=1000000:=by have:=ok.qx;have:=hs.lens.2.1;omega
 have e5:Tp (((bX n cs).length:Int),((0:Int),mc n ord ls (bX n cs) (ls,([],()))))=some (mc n ord ls (bX n cs) (ls,(cs,()))):=by
  unfold Tp;delta fg;refine cu (fun k:Nat=>(((bX n cs).length:Int),((k:Int),mc n ord ls (bX n cs) (ls,(cs.take k,()))))) n.aa.length rfl ?_ ?_ (bt (by omega))
  .intro k hk;have hx:=aT hk;have hkc:k<cs.length:=by omega
   have hy:=aT hkc;have ha:=wV hx hy;have hlen:=(ok.ok k _ _ hx hy).len;have hg:List.getD (bX n cs) (Int.toNat (k:Int)) zR=(n.aa[k].addr,(n.aa[k].word,(cs[k],()))):=by rw[Int.toNat_natCast,dC,ha];rfl
   have ec:Hw ((List.getD (bX n cs) (Int.toNat (k:Int)) zR).1,((List.getD (bX n cs) (Int.toNat (k:Int)) zR).2.1,((List.getD (bX n cs) (Int.toNat (k:Int)) zR).2.2.1,())))=some (cs[k],(n.aa[k].addr,(n.aa[k].word,(cs[k],())))):=by rw[hg];exact afA _ _ _ (Nat.le_trans hlen (by omega))
   have hset:List.set (bX n cs) (Int.toNat (k:Int)) (n.aa[k].addr,(n.aa[k].word,(cs[k],())))=bX n cs:=by
    rw[Int.toNat_natCast];refine List.ext_getElem? fun i=>?_;rw[List.getElem?_set];split
    .rename_i q;subst q;split
     .exact ha.symm
     .rename_i q2;rw[List.getElem?_eq_none (by omega)]
    .rfl
   have hroom:room 24 (List.length (cs.take k++(cs[k]::[])))=true:=by rw[aW,da];exact ks (by simp;omega) (by simp;omega)
   have ht:cs.take k++(cs[k]::[])=cs.take (k+1):=by rw[List.take_add_one,hy];rfl
   have e:∀(p q:Int) (R R':List dB) (A B:List (List aN)),p=q->R=R'->A=B->(some (.inl (((bX n cs).length:Int),(p,mc n ord ls R (ls,(A,()))))):Option (TL uR.σs⊕Out uQ))=some (.inl (((bX n cs).length:Int),(q,mc n ord ls R' (ls,(B,()))))):=by rintro _ _ _ _ _ _ rfl rfl rfl;rfl
   exact ao (ak (show(k:Int)<((bX n cs).length:Int) by omega)) (ai (show aq (k:Int) (List.length (bX n cs))=true from aK ⟨by omega,by omega⟩) (af ec (ai hroom (e _ _ _ _ _ _ (bG (show(k:Int)+1=((k+1:Nat):Int) by omega) (by omega)) hset ht))))
  .have e:∀(A B:List (List aN)),A=B->(some (.inr (mc n ord ls (bX n cs) (ls,(A,())))):Option (TL uR.σs⊕Out uQ))=some (.inr (mc n ord ls (bX n cs) (ls,(B,())))):=by rintro _ _ rfl;rfl
   exact ag (aA (show ¬(n.aa.length:Int)<((bX n cs).length:Int) by omega)) (e _ _ (List.take_of_length_le (by omega)))
 exact af (apF hls) (af e5 rfl)
theorem UF{n:aD}{K:Nat}{ls:List Bool}{cs:List (List aN)}(ok:jF n K ls cs):∀c∈cs,c.length<=K:=by intro c hc;obtain⟨i,hi⟩:=List.getElem?_of_mem hc;have hil:=dL hi;have hm:=List.getElem?_eq_getElem (l:=n.aa) (i:=i) (by have:=ok.mG;omega);exact(ok.ok i _ _ hm hi).len
theorem Uw{n:aD}(v:List Bool):(mM n v).length=n.bo.length:=by unfold mM;rw[aO]
theorem zG(x:Bool):@decide _ (Bool.decEq x x)=true:=by cases x<;>rfl
theorem ajs{b:Bool}(h:b=true):aV true b false=true:=by rw[h];rfl
section
variable{n:aD}(ft:Fit n)
include ft
theorem ahP(ord:List (bH×bF))(ls lt:List Bool)(rs:List dB)(ct:List (List aN))(hct:ct.length=n.aa.length)(hf:gk (bz n) (lt,(ct,()))=true)(hb:lt.length<=1000000) :
  TB (lt,(ct,mc n ord ls rs ()))=some ((0:Int),mc n ord lt (bX n ct) ()):=by
 have el:=acU ft lt ct;rw[hf]at el;have hr:=VD n ct hct;have e:∀R R':List dB,R=R'->(some ((0:Int),mc n ord lt R ()):Option (Out y1))=some ((0:Int),mc n ord lt R' ()):=by rintro _ _ rfl;rfl
 exact af el (ag rfl (af (RQ hb) (e _ _ hr)))
end
def jS(p:Nat->Bool):Nat->Nat->Option Nat
 |0,_=>none|k+1,i=>if p i=true then some i else jS p k (i+1)
theorem acw(p:Nat->Bool):∀k i j,jS p k i=some j->i<=j/\j<i+k/\p j=true/\∀m,i<=m->m<j->p m=false:=by
 intro k
 induction k with
 |zero=>intro i j h;cases h
 |succ k ih=>
  intro i j h;unfold jS at h;by_cases q:p i=true
  .rw[if_pos q]at h;obtain rfl:i=j:=Option.some.inj h;exact⟨Nat.le_refl _,by omega,q,fun m h1 h2=>by omega⟩
  .rw[if_neg q]at h;obtain⟨h1,h2,h3,h4⟩:=ih (i+1) j h;refine⟨by omega,by omega,h3,fun m a b=>?_⟩;rcases Nat.lt_or_ge i m with c|c
   .exact h4 m c b
   .obtain rfl:m=i:=by omega
    simpa using q
theorem aoU(p:Nat->Bool):∀k i,jS p k i=none->∀m,i<=m->m<i+k->p m=false:=by
 intro k
 induction k with
 |zero=>intro i h m a b;omega|succ k ih=>
  intro i h m a b;unfold jS at h;by_cases q:p i=true
  .rw[if_pos q]at h;cases h
  .rw[if_neg q]at h;rcases Nat.lt_or_ge i m with c|c
   .exact ih (i+1) h m c (by omega)
   .obtain rfl:m=i:=by omega
    simpa using q
theorem aoF{D O:Type}{B:D->Option (D⊕O)}(f:Nat->D)(p:Nat->Bool)(g:Nat->O)(z:O)(n:Nat)(hs:∀i,i<n->p i=false->B (f i)=some (.inl (f (i+1))))(hf:∀i,i<n->p i=true->B (f i)=some (.inr (g i)))
  (he:B (f n)=some (.inr z)) {d:D}(hd:d=f 0) {N:Nat}(hN:n<N):aQ B N d=some (match jS p n 0 with|some i=>g i|none=>z):=by
 subst hd;have main:∀k i,i+k=n->∀N,k<N->aQ B N (f i)=some (match jS p k i with|some i=>g i|none=>z):=by
  intro k
  induction k with
  |zero=>
   intro i hi N hN;obtain rfl:i=n:=by omega
   obtain⟨N,rfl⟩:∃M,N=M+1:=⟨N-1,by omega⟩;simp only[aQ,he,jS]
  |succ k ih=>intro i hi N hN;obtain⟨N,rfl⟩:∃M,N=M+1:=⟨N-1,by omega⟩;cases q:p i with|true=>simp only[aQ,hf i (by omega) q,jS,q,if_true]|false=>have:=ih (i+1) (by omega) N (by omega);simp only[aQ,hs i (by omega) q,jS,q];exact this
 exact main n 0 (by omega) N hN
def idx(L:List Bool):Int:=match jS (fun i=>L.getD i false) L.length 0 with|some i=>(i:Int)|none=>-1
theorem air{L:List Bool}(h:0<=idx L):∃k:Nat,idx L=(k:Int)/\k<L.length/\jS (fun i=>L.getD i false) L.length 0=some k:=by
 unfold idx at h |-;cases q:jS (fun i=>L.getD i false) L.length 0 with
 |some j=>obtain⟨h1,h2,h3,h4⟩:=acw _ _ _ _ q;exact⟨j,rfl,by omega,rfl⟩
 |none=>rw[q]at h;simp at h
theorem agj{L:List Bool}(h:¬0<=idx L):idx L = -1/\jS (fun i=>L.getD i false) L.length 0=none:=by unfold idx at h |-;cases q:jS (fun i=>L.getD i false) L.length 0 with|some j=>rw[q]at h;exact absurd (Int.natCast_nonneg j) h|none=>exact⟨rfl,rfl⟩
theorem ahp(L:List Bool)(hL:L.length<=1000000):Lg (L,(true,((L.length:Int),((0:Int),()))))=some (match jS (fun i=>L.getD i false) L.length 0 with|some i=>.inl ((i:Int),())|none=>.inr ()):=by
 unfold Lg;delta u4;refine aoF (fun i:Nat=>(L,(true,((L.length:Int),((i:Int),()))))) (fun i=>L.getD i false) (fun i=>Sum.inl ((i:Int),())) (Sum.inr ()) L.length ?_ ?_ ?_ rfl (bt (by omega))
 .intro i hi hp;dsimp only at hp |-;unfold wb;have e:∀p q:Int,p=q->(some (.inl (L,(true,((L.length:Int),(p,()))))):Option (TL Bq.σs⊕Out Bp))=some (.inl (L,(true,((L.length:Int),(q,()))))):=by rintro _ _ rfl;rfl
  have hg:gt .bool L (i:Int)=false:=(DR (by omega)).trans hp;exact ao (ak (show(i:Int)<(L.length:Int) by omega)) (ai (aK ⟨by omega,by omega⟩) (ag (by rw[hg];rfl) (e _ _ (bZ (x:=(i:Int)+1) (by omega)))))
 .intro i hi hp;dsimp only at hp |-;unfold wb;have hg:gt .bool L (i:Int)=true:=(DR (by omega)).trans hp;exact ao (ak (show(i:Int)<(L.length:Int) by omega)) (ai (aK ⟨by omega,by omega⟩) (ao (by rw[hg];rfl) rfl))
 .try dsimp only
  unfold wb;exact ag (aA (show ¬(L.length:Int)<(L.length:Int) by omega)) rfl
theorem ao8(L:List Bool)(hL:L.length<=1000000):ZL (L,(true,()))=some (idx L,()):=by have e:=ahp L hL;have e':Lg (L,(true,((Int.ofNat (List.length L)),((0:Int),()))))=_:=e;unfold idx;cases q:jS (fun i=>L.getD i false) L.length 0 with|some i=>rw[q]at e';exact af e' rfl|none=>rw[q]at e';exact af e' rfl
def li(L:List Int)(k:Nat):Int:=L.getD k 0
