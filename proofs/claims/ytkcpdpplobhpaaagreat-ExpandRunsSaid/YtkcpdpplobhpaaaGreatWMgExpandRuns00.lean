import Derived.Test.YtkcpdpplobhpaaaGreatWRi
set_option linter.unusedSectionVars false
set_option linter.unusedVariables false
set_option linter.unusedSimpArgs false
set_option linter.unnecessarySimpa false
section
namespace Go.Proofs.YtkcpdpplobhpaaaGreat.V
open Go Go.RowKit Go.Proofs.YtkcpdpplobhpaaaGreat.Pl
def eH(v:List Bool)(l:List (Int×Bool)):List Bool:=l.foldl (fun v p=>v.set p.1.toNat p.2) v
theorem nO:∀(l:List (Int×Bool)) (v:List Bool),(eH v l).length=v.length
 |[],v=>rfl|p::l,v=>by show(eH (v.set p.1.toNat p.2) l).length=_;rw[nO l,List.length_set]
theorem Nh(v:List Bool)(l:List (Int×Bool))(p:Int×Bool):eH v (l++[p])=(eH v l).set p.1.toNat p.2:=by unfold eH;rw[List.foldl_append];rfl
def kQ(n:aB)(ls ins:List Bool):List Bool:=eH (eH (List.replicate (n.vars.toNat+1) false) (n.aL.zip ins)) ((n.aj.map (·.var)).zip ls)
def fD(n:aB)(cs:List (List aJ))(v:List Bool)(x:bE×bq):List Bool:=
 if x.1.rd=false then v.set (x.2.to.headD 0).toNat (bt (x.2.aQ.getD 0 0) v&&bt (x.2.aQ.getD 1 0) v)
 else eH v (x.2.to.zip (gG (rd (cs.getD x.1.mem []) (cd (x.2.aQ.map (bt · v)))).toNat x.2.to.length))
theorem anf(n:aB)(cs:List (List aJ))(v:List Bool)(x:bE×bq):(fD n cs v x).length=v.length:=by
 unfold fD;split
 .rw[List.length_set]
 .rw[nO]
def ct(n:aB)(ls:List Bool)(cs:List (List aJ))(ins:List Bool):List Bool:=(bK n n.vars.toNat).foldl (fD n cs) (kQ n ls ins)
theorem wT(n:aB)(cs:List (List aJ)):∀(l:List (bE×bq)) (v:List Bool),(l.foldl (fD n cs) v).length=v.length
 |[],v=>rfl|x::l,v=>by rw[List.foldl_cons,wT n cs l,anf]
theorem Dq(n:aB)(ls ins:List Bool):(kQ n ls ins).length=n.vars.toNat+1:=by unfold kQ;rw[nO,nO,sF]
theorem zU(n:aB)(ls:List Bool)(cs:List (List aJ))(ins:List Bool):(ct n ls cs ins).length=n.vars.toNat+1:=by unfold ct;rw[wT,Dq]
structure nP(m:aV)(k:Nat)(c:List aJ):Prop where
 rO:kq c
 len:c.length<=k
 at_:∀p∈c,0<=p.1/\p.1<2^m.addr.toNat
 wd:∀p∈c,0<p.2.1/\p.2.1<2^m.word.toNat
structure jG(n:aB)(k:Nat)(ls:List Bool)(cs:List (List aJ)):Prop where
 kS:ls.length=n.aj.length
 jU:cs.length=n.aa.length
 ok:∀(i:Nat) (m:aV) (c:List aJ),n.aa[i]?=some m->cs[i]?=some c->nP m k c
theorem Vf(c:List aJ)(a:Int):rd c a=0\/∃p∈c,rd c a=p.2.1:=by
 induction c with
 |nil=>exact .inl rfl|cons p c ih=>
  rw[mh];by_cases q:p.1=a
  .rw[if_pos q];exact .inr ⟨p,by simp,rfl⟩
  .rw[if_neg q];rcases ih with h|⟨r,hr,h⟩
   .exact .inl h
   .exact .inr ⟨r,by simp[hr],h⟩
theorem ahN{m:aV}{k:Nat}{c:List aJ}(h:nP m k c)(hw:m.word<=64)(a:Int):0<=rd c a/\rd c a<18446744073709551616:=by
 rcases Vf c a with e|⟨p,hp,e⟩
 .omega
 .have:=h.wd p hp;have h2:(2:Int)^m.word.toNat<=2^64:=by
   have:=Nat.pow_le_pow_right (n:=2) (by decide) (show m.word.toNat<=64 by omega)
   exact_mod_cast this
  have h3:(2:Int)^64=18446744073709551616:=by decide
  omega
theorem w7{n:aB}{V:Nat}{x:bE×bq}(h:x∈bK n V):x∈n6 n:=by unfold bK at h;obtain⟨i,_,hx⟩:=List.mem_flatMap.1 h;exact(List.mem_filter.1 hx).1
theorem anw{n:aB}{V:Nat}(hs:cr n V):(bK n V).length<=9000000:=by have h:=(AR hs).len;unfold bK;have:=Bd (fun(i:Nat)=>(n6 n).filter fun x=>decide (lk (lvl n V) x.2=(i:Int)+1)) (List.range (n6 n).length) 3000 (fun i _=>dK (List.length_filter_le _ _) h);rw[List.length_range]at this;have h2:(n6 n).length*3000<=3000*3000:=Nat.mul_le_mul_right _ h;omega
theorem getD_set_ne{v:List Bool}{i p:Nat}{b:Bool}(h:p≠i):(v.set i b).getD p false=v.getD p false:=by rw[bM,bM,List.getElem?_set_ne (fun e=>h e.symm)]
theorem Ad:∀(l:List (Int×Bool)) (v:List Bool) (p:Nat),(∀q∈l,q.1.toNat≠p)->(eH v l).getD p false=v.getD p false
 |[],v,p,_=>rfl|q::l,v,p,h=>by show(eH (v.set q.1.toNat q.2) l).getD p false=_;rw[Ad l _ p (fun r hr=>h r (eK _ hr)),getD_set_ne (fun e=>h q (List.mem_cons_self ..) e.symm)]
theorem IX{n:aB}{cs:List (List aJ)}{x:bE×bq}(v:List Bool){p:Nat}(hne:x.2.to≠[])(hp:p∉x.2.nd.to):(fD n cs v x).getD p false=v.getD p false:=by
 have hq:∀q∈x.2.to,q.toNat≠p:=fun q hq e=>hp (List.mem_map.2 ⟨q,hq,e⟩);unfold fD;split
 .refine getD_set_ne (fun e=>hq (x.2.to.headD 0) ?_ e.symm)
  match he:x.2.to with|[]=>exact absurd he hne|a::l=>simp
 .refine Ad _ _ _ (fun q h=>hq q.1 ?_);exact(List.of_mem_zip (show(q.1,q.2)∈_ from h)).1
theorem Aa{n:aB}{cs:List (List aJ)}{p:Nat}:∀(l:List (bE×bq)) (v:List Bool),(∀x∈l,x.2.to≠[]/\p∉x.2.nd.to)->(l.foldl (fD n cs) v).getD p false=v.getD p false
 |[],v,_=>rfl|x::l,v,h=>by rw[List.foldl_cons,Aa l _ (fun y hy=>h y (eK _ hy)),IX v (h x (List.mem_cons_self ..)).1 (h x (List.mem_cons_self ..)).2]
theorem z8{l:Int}{v w:List Bool}(h:v.getD (l / 2).toNat false=w.getD (l / 2).toNat false):bt l v=bt l w:=by unfold bt;rw[h]
section
variable{n:aB}{V:Nat}(hs:cr n V)(ha:eO (aR n) V=true)
include hs
theorem A5{x:bE×bq}(hx:x∈n6 n):x.2.to≠[]:=hs.DM (by rw[<-pG];exact List.mem_map_of_mem hx)
include ha
theorem AE{x:bE×bq}(hx:x∈n6 n){u:Nat}(hu:u∈x.2.nd.to):∃k:Nat,df (aR n) u k/\lk (lvl n V) x.2=(k:Int):=by obtain⟨h1,h2,h3⟩:=Dv hs hx;obtain⟨k,hk⟩:=(qJ hs.apart V).1 ha _ h1;refine⟨k,hk.tC hs.apart h3 h2 hu,?_⟩;unfold lk;exact Jh hs h1 hk
theorem agJ{x:bE×bq}(hx:x∈n6 n){u:Nat}(hu:u∈x.2.nd.aQ):∃k:Nat,df (aR n) u k/\(k:Int)<lk (lvl n V) x.2:=by obtain⟨h1,h2,h3⟩:=Dv hs hx;obtain⟨k,hk,e⟩:=AE hs ha hx h2;obtain⟨j,hj,h⟩:=hk.aQ hs.apart h3 h2 hu;exact⟨j,h,by rw[e];omega⟩
def Jl(x y:bE×bq):Prop:=(∀u∈x.2.nd.to,u∉y.2.nd.to)/\∀u∈x.2.nd.aQ,u∉y.2.nd.to
omit hs ha in
theorem afI(hs:cr n V):(n6 n).Pairwise fun x y=>∀u∈x.2.nd.to,u∉y.2.nd.to:=by
 rw[List.pairwise_iff_getElem];intro i j hi hj hij u h1 h2;have hi':(aR n)[i]?=some (n6 n)[i].2.nd:=by rw[<-px,bT,aN hi];rfl
 have hj':(aR n)[j]?=some (n6 n)[j].2.nd:=by rw[<-px,bT,aN hj];rfl
 have:=hs.apart i j _ _ u hi' hj' h1 h2;omega
theorem AD{x y:bE×bq}(hx:x∈n6 n)(hy:y∈n6 n)(h:lk (lvl n V) x.2<=lk (lvl n V) y.2){u:Nat}(h1:u∈x.2.nd.aQ):u∉y.2.nd.to:=by intro h2;obtain⟨k,e1,e2⟩:=agJ hs ha hx h1;obtain⟨j,e3,e4⟩:=AE hs ha hy h2;have:=e1.one hs.apart e3;omega
theorem TT:(bK n V).Pairwise Jl:=by
 unfold bK;rw[List.pairwise_flatMap];refine⟨fun i hi=>?_,?_⟩
 .have h:=(afI hs).filter (fun x=>decide (lk (lvl n V) x.2=(i:Int)+1));refine List.Pairwise.imp_of_mem (fun{x y} hx hy h=>⟨h,fun u h1=>?_⟩) h;obtain⟨mx,ex⟩:=List.mem_filter.1 hx;obtain⟨my,ey⟩:=List.mem_filter.1 hy;have ex:=of_decide_eq_true ex;have ey:=of_decide_eq_true ey;exact AD hs ha mx my (by rw[ex,ey];exact Int.le_refl _) h1
 .refine List.Pairwise.imp (fun{i j} hij=>?_) (List.pairwise_lt_range (n:=(n6 n).length));intro x hx y hy;obtain⟨mx,ex⟩:=List.mem_filter.1 hx;obtain⟨my,ey⟩:=List.mem_filter.1 hy;have ex:=of_decide_eq_true ex;have ey:=of_decide_eq_true ey;refine⟨fun u h1 h2=>?_,fun u h1=>AD hs ha mx my (by rw[ex,ey];omega) h1⟩;obtain⟨k,e1,e2⟩:=AE hs ha mx h1;obtain⟨l,e3,e4⟩:=AE hs ha my h2;have:=e1.one hs.apart e3;omega
theorem UE{x:bE×bq}(hx:x∈n6 n):x∈bK n V:=by have h:=U3 hs ha hx;unfold bK;refine List.mem_flatMap.2 ⟨(lk (lvl n V) x.2-1).toNat,List.mem_range.2 (by omega),List.mem_filter.2 ⟨hx,bG (by omega)⟩⟩
theorem Up(ls:List Bool)(cs:List (List aJ))(ins:List Bool){p:Nat}(h:∀x∈n6 n,p∉x.2.nd.to):(ct n ls cs ins).getD p false=(kQ n ls ins).getD p false:=by
 have hV:n.vars.toNat=V:=by rw[hs.vars];rfl
 unfold ct;exact Aa _ _ (fun x hx=>⟨A5 hs (w7 hx),h x (w7 hx)⟩)
theorem Uo(ls:List Bool)(cs:List (List aJ))(ins:List Bool){a:fw}(h:a∈n.aC):(ct n ls cs ins).getD a.var.toNat false=(bt a.a (ct n ls cs ins)&&bt a.b (ct n ls cs ins)):=by
 have hV:n.vars.toNat=V:=by rw[hs.vars];rfl
 obtain⟨i,hi⟩:=List.getElem?_of_mem h;have hil:i<n.aC.length:=dz hi;have hx:((⟨false,0,i⟩:bE),ij a)∈n6 n:=by refine List.mem_append_left _ ?_;refine List.mem_iff_getElem?.2 ⟨i,?_⟩;unfold A6;rw[List.getElem?_zip_eq_some,dS,bT,hi];refine⟨?_,rfl⟩;unfold j4;rw[bT,List.getElem?_range hil];rfl
 obtain⟨A,B,e⟩:=List.append_of_mem (UE hs ha hx);have hp:=TT hs ha;rw[e,List.pairwise_append]at hp;have hB:∀y∈B,Jl ((⟨false,0,i⟩:bE),ij a) y:=(List.pairwise_cons.1 hp.2.1).1;have mB:∀y∈B,y∈n6 n:=fun y hy=>w7 (V:=V) (by rw[e];simp[hy]);have ht:(ij a).nd.to=[a.var.toNat]:=rfl;have hf:(ij a).nd.aQ=[(a.a / 2).toNat,(a.b / 2).toNat]:=rfl;obtain⟨v,hv⟩:∃v,v=A.foldl (fD n cs) (kQ n ls ins):=⟨_,rfl⟩;have eF:ct n ls cs ins=B.foldl (fD n cs) (fD n cs v ((⟨false,0,i⟩:bE),ij a)):=by unfold ct;rw[hV,e,List.foldl_append,<-hv];rfl
 have lv:v.length=V+1:=by rw[hv,wT,Dq,hV]
 have hrng:a.var.toNat<v.length:=by have:=hs.jB a.var (by unfold bX;simp only[List.mem_append,List.mem_map];exact .inr ⟨a,h,rfl⟩);omega
 have bj:∀p,p∈(ij a).nd.aQ->(ct n ls cs ins).getD p false=v.getD p false:=by intro p hp';rw[eF,Aa B _ (fun y hy=>⟨A5 hs (mB y hy),(hB y hy).2 p hp'⟩)];exact IX (x:=((⟨false,0,i⟩:bE),ij a)) v (by simp[ij]) (AD hs ha hx hx (Int.le_refl _) hp')
 have k1:bt a.a (ct n ls cs ins)=bt a.a v:=z8 (bj _ (by rw[hf];simp));have k2:bt a.b (ct n ls cs ins)=bt a.b v:=z8 (bj _ (by rw[hf];simp));rw[k1,k2,eF,Aa B _ (fun y hy=>⟨A5 hs (mB y hy),(hB y hy).1 _ (by rw[ht];simp)⟩)];show(v.set a.var.toNat (bt a.a v&&bt a.b v)).getD a.var.toNat false=_;rw[bM,List.getElem?_set_self hrng];rfl
end
set_option maxRecDepth 10000
def lv(ν:Int->Bool)(l:Int):Bool:=Bool.xor (ν (l / 2)) (decide (l % 2=1))
def Cons(ν:Int->Bool)(A:List fw):Prop:=∀a∈A,ν a.var=(lv ν a.a&&lv ν a.b)
theorem Cons.of{ν:Int->Bool}{A B:List fw}(h:Cons ν (A++B)):Cons ν A:=fun a ha=>h a (List.mem_append_left _ ha)
section
variable(o b c:List Int)(m:List ab.T){s:Gk}{D:List Int}
def uz(l:List cu)(j:Nat):Int:=((l[j]?).map (·.next)).getD 0
end
structure A8(n:aB)(w bad:Nat):Prop where
 ok:Pl.dF n=0
 ins:n.aL=[]
 aa:n.aa=[]
 cons:n.constraints=[]
 vars:n.aj.map (·.var)=fr 0 w
 init:n.aj.map (·.init)=List.replicate w 0
 next:∀ν:Int->Bool,ν 0=false->Cons ν n.aC->∀i,i<w->lv ν (uz n.aj i)=Bool.xor (ν ((i+1:Nat):Int)) ((List.range i).all fun j=>ν ((j+1:Nat):Int))
 bc:∃z,n.bc=[z]/\∀ν:Int->Bool,ν 0=false->Cons ν n.aC->lv ν z=(List.range w).all fun j=>decide (ν ((j+1:Nat):Int)=decide (bad / 2^j % 2=1))
def bJ(n:aB)(cs:List (List aJ)):List eu:=List.zipWith (fun(m:aV) (c:List aJ)=>(m.addr,(m.word,(c,())))) n.aa cs
theorem wV{n:aB}{cs:List (List aJ)}(h:cs.length=n.aa.length):(bJ n cs).length=n.aa.length:=by unfold bJ;rw[List.length_zipWith];omega
theorem wY{n:aB}{cs:List (List aJ)}{i:Nat}{m:aV}{c:List aJ}(h1:n.aa[i]?=some m)(h2:cs[i]?=some c):(bJ n cs)[i]?=some (m.addr,(m.word,(c,()))):=by unfold bJ;rw[List.getElem?_zipWith,h1,h2]
theorem anS{u A:List Bool}{b:Bool}{off:Nat}(h:off+A.length<u.length):jZ u off (A++[b])=(jZ u off A).set (off+A.length) b:=by
 unfold jZ;have hd:=sZ (L:=u) (i:=off+A.length) h;have e:u.take off++(A++u.drop (off+A.length))=(u.take off++A)++u[off+A.length]::u.drop (off+A.length+1):=by rw[hd];simp
 rw[e,tE (by rw[aU,dx];omega)];simp[Nat.add_assoc]
theorem agi{u bs:List Bool}{off:Nat}(h:off+bs.length<=u.length):jZ u off bs=eH u ((bU (off:Int) bs.length).zip bs):=by
 have hz:((bU (off:Int) bs.length).zip bs).length=bs.length:=by rw[List.length_zip,nZ];omega
 have main:∀k,k<=bs.length->jZ u off (bs.take k)=eH u (((bU (off:Int) bs.length).zip bs).take k):=by
  intro k
  induction k with
  |zero=>intro _;rw[List.take_zero,List.take_zero,abn];rfl|succ k ih=>
   intro hk;have h1:=List.getElem?_eq_getElem (l:=bs) (i:=k) (by omega);have h2:(bU (off:Int) bs.length)[k]?=some ((off:Int)+(k:Int)):=by unfold bU;rw[bT,List.getElem?_range (by omega)];rfl
   have h3:((bU (off:Int) bs.length).zip bs)[k]?=some ((off:Int)+(k:Int),bs[k]):=by rw[List.getElem?_zip_eq_some];exact⟨h2,h1⟩
   have hl:(bs.take k).length=k:=by rw[dx];omega
   rw[Pl.dy h1,Pl.dy h3,Nh,<-ih (by omega),anS (by rw[hl];omega),hl];congr 1
 have:=main bs.length (aS _);rw[dS]at this;rw[this,fR (Nat.le_of_eq hz)]
theorem anA(a ad w:Int)(M:List aJ):rH (a,(ad,(w,(M,()))))=some (rd M a,(ad,(w,(M,())))):=by show P5 a ad w M=_;unfold P5;exact congrArg (fun z:Int=>(some (z,(ad,(w,(M,())))):Option (Out xL))) (vl M a)
def mc{α:Type}(n:aB)(ord:List (bE×bq))(ls:List Bool)(rs:List eu)(r:α):=nt n (ord.map (fun x=>dM x.1),(ls,(rs,r)))
section
variable{n:aB}{V:Nat}(hs:cr n V)(ft:Fit n)
include hs
theorem aou(ord:List (bE×bq))(ls ins:List Bool)(rs:List eu)(v:List Bool)(hv:v.length=V+1)(hi:ins.length=n.aL.length) :
  Mm (ins,((ins.length:Int),((0:Int),mc n ord ls rs (v,()))))=some (mc n ord ls rs (eH v (n.aL.zip ins),())):=by
 have hl:=hs.lens.1;have hz:(n.aL.zip ins).length=n.aL.length:=by rw[List.length_zip];omega
 unfold Mm;delta fB;refine dn (fun k:Nat=>(ins,((ins.length:Int),((k:Int),mc n ord ls rs (eH v ((n.aL.zip ins).take k),()))))) n.aL.length rfl ?_ ?_ (bL (by omega))
 .intro k hk;have h1:=aN hk;have h2:=List.getElem?_eq_getElem (l:=ins) (i:=k) (by omega);have h3:(n.aL.zip ins)[k]?=some (n.aL[k],ins[k]):=by rw[List.getElem?_zip_eq_some];exact⟨h1,h2⟩
  have hr:=hs.jB n.aL[k] (by unfold bX;simp);have e:∀(a b:List Bool) (p q:Int),a=b->p=q->(some (.inl (ins,((ins.length:Int),(p,mc n ord ls rs (a,()))))):Option (TL Cl.σs⊕Out Cg))=some (.inl (ins,((ins.length:Int),(q,mc n ord ls rs (b,()))))):=by rintro _ _ _ _ rfl rfl;rfl
  unfold mc nt
  try dsimp only
  unfold CF;have g1:gt (.int .i64) n.aL (k:Int)=n.aL[k]:=bF (σ:=.int .i64) h1;refine ax (ar (show(k:Int)<(ins.length:Int) by omega)) (ak (aK ⟨by omega,by omega⟩) (ak (aK ⟨by omega,by omega⟩) (ak ?_ (e _ _ _ _ ?_ (bR (by omega) (by omega))))))
  .rw[g1];exact aK ⟨by omega,by rw[nO,hv];omega⟩
  .rw[Pl.dy h3,Nh,g1];have g2:gt .bool ins (k:Int)=ins[k]:=bF (σ:=.bool) h2;rw[g2];rfl
 .unfold mc nt
  try dsimp only
  unfold CF;rw[<-hz,dS,hz];exact ag (au (show ¬(n.aL.length:Int)<(ins.length:Int) by omega)) rfl
theorem aiE(ord:List (bE×bq))(ls:List Bool)(rs:List eu)(v:List Bool)(hv:v.length=V+1)(hi:ls.length=n.aj.length) :
  Ma ((ls.length:Int),((0:Int),mc n ord ls rs (v,())))=some (mc n ord ls rs (eH v ((n.aj.map (·.var)).zip ls),())):=by
 have hl:=hs.lens.2.1;have hz:((n.aj.map (·.var)).zip ls).length=n.aj.length:=by rw[List.length_zip,aI];omega
 unfold Ma;delta i7;refine dn (fun k:Nat=>((ls.length:Int),((k:Int),mc n ord ls rs (eH v (((n.aj.map (·.var)).zip ls).take k),())))) n.aj.length rfl ?_ ?_ (bL (by omega))
 .intro k hk;have h1:=aN hk;have h1':(n.aj.map bf)[k]?=some (bf n.aj[k]):=by rw[bT,h1];rfl
  have h2:=List.getElem?_eq_getElem (l:=ls) (i:=k) (by omega);have h3:((n.aj.map (·.var)).zip ls)[k]?=some (n.aj[k].var,ls[k]):=by rw[List.getElem?_zip_eq_some,bT,h1];exact⟨rfl,h2⟩
  have hr:=hs.jB n.aj[k].var (by unfold bX;simp only[List.mem_append];exact .inl (.inl (.inr (List.mem_map.2 ⟨_,dk hk,rfl⟩))));have e:∀(a b:List Bool) (p q:Int),a=b->p=q->(some (.inl ((ls.length:Int),(p,mc n ord ls rs (a,())))):Option (TL Ci.σs⊕Out Cf))=some (.inl ((ls.length:Int),(q,mc n ord ls rs (b,())))):=by rintro _ _ _ _ rfl rfl;rfl
  have hL:((n.aj.map bf).length:Int)=(n.aj.length:Int):=by rw[aI]
  unfold mc nt
  try dsimp only
  unfold Cy;have g1:(gt ae (n.aj.map bf) (k:Int)).1=n.aj[k].var:=by rw[bF (σ:=ae) h1'];rfl
  refine ax (ar (show(k:Int)<(ls.length:Int) by omega)) (ak (aK ⟨by omega,by omega⟩) (ak (aK ⟨by omega,by omega⟩) (ak ?_ (e _ _ _ _ ?_ (bR (by omega) (by omega))))))
  .rw[g1];exact aK ⟨by omega,by rw[nO,hv];omega⟩
  .rw[Pl.dy h3,Nh,g1];have g2:gt .bool ls (k:Int)=ls[k]:=bF (σ:=.bool) h2;rw[g2];rfl
 .unfold mc nt
  try dsimp only
  unfold Cy;rw[<-hz,dS,hz];exact ag (au (show ¬(n.aj.length:Int)<(ls.length:Int) by omega)) rfl
include ft
theorem aiF{K:Nat}(hK:K<=5000)(ls:List Bool)(cs:List (List aJ))(ok:jG n K ls cs)(v:List Bool)(hv:v.length=V+1) :
  L0 ((bK n V).map (fun x=>dM x.1),(((bK n V).length:Int),((0:Int),mc n (bK n V) ls (bJ n cs) (v,()))))=some (mc n (bK n V) ls (bJ n cs) ((bK n V).foldl (fD n cs) v,())):=by
 have hol:=anw hs;have h6:=AR hs;unfold L0;delta fB;refine dn (fun k:Nat=>((bK n V).map (fun x=>dM x.1),(((bK n V).length:Int),((k:Int),mc n (bK n V) ls (bJ n cs) (((bK n V).take k).foldl (fD n cs) v,()))))) (bK n V).length rfl ?_ ?_ (bL (by omega))
 .intro k hk;have hx:=aN hk;have hm:=w7 (dk hk);have hst:((bK n V).take (k+1)).foldl (fD n cs) v=fD n cs (((bK n V).take k).foldl (fD n cs) v) (bK n V)[k]:=by rw[Pl.dy hx,List.foldl_append];rfl
  have hlen:(((bK n V).take k).foldl (fD n cs) v).length=V+1:=by rw[wT,hv]
  generalize ((bK n V).take k).foldl (fD n cs) v=u at hst hlen;have hx':((bK n V).map (fun x=>dM x.1))[k]?=some (dM (bK n V)[k].1):=by rw[bT,hx];rfl
  generalize (bK n V)[k]=x at hx' hm hst;have hi:=dz hx';have his:=qC n hm;have hmI:x.2∈fm n:=by rw[<-pG];exact List.mem_map_of_mem hm
  have hg:gt aq ((bK n V).map (fun x=>dM x.1)) (k:Int)=dM x.1:=bF (σ:=aq) hx';have aY:av (k:Int) (List.length ((bK n V).map (fun x=>dM x.1)))=true:=aK ⟨by omega,by omega⟩;have e:∀(a b:List Bool) (p q:Int) (R R':List eu),a=b->p=q->R=R'->(some (.inl ((bK n V).map (fun x=>dM x.1),(((bK n V).length:Int),(p,mc n (bK n V) ls R (a,()))))):Option (TL Ch.σs⊕Out Ce))=some (.inl ((bK n V).map (fun x=>dM x.1),(((bK n V).length:Int),(q,mc n (bK n V) ls R' (b,()))))):=by rintro _ _ _ _ _ _ rfl rfl rfl;rfl
  have hk1:IntKind.wrap .i64 ((k:Int)+(1:Int))=((k+1:Nat):Int):=bR (by omega) (by omega);rw[hst];unfold mc nt
  try dsimp only
  unfold Cw;rw[hg];refine ax (ar (show(k:Int)<((bK n V).length:Int) by omega)) (ak aY ?_);have hf:=h6.aQ x hm;have hv2:=hs.v2;rcases his with⟨h,a,ha,hI⟩|⟨h,M,r,hM,hr,hI⟩
  .-- a gate
   have gr:x.2.to=[a.var]:=by rw[hI];rfl
   have hfr:x.2.aQ=[a.a,a.b]:=by rw[hI];rfl
   have ra:=hf.2 a.a (by rw[hfr];simp);have rb:=hf.2 a.b (by rw[hfr];simp);have rv:=hs.lF hmI (v:=a.var) (by rw[gr];simp);have ha':(n.aC.map cG)[x.1.pos]?=some (cG a):=by rw[bT,ha];rfl
   have hal:=dz ha';have gA:gt ae (n.aC.map cG) (x.1.pos:Int)=cG a:=bF (σ:=ae) ha';have e0:kh ((gt ae (n.aC.map cG) (x.1.pos:Int)).2.1,(u,()))=some (bt a.a u,()):=by rw[gA];exact qV a.a u (by omega)
   have e1:kh ((gt ae (n.aC.map cG) (x.1.pos:Int)).2.2.1,(u,()))=some (bt a.b u,()):=by rw[gA];exact qV a.b u (by omega)
   have gv:(gt ae (n.aC.map cG) (x.1.pos:Int)).1=a.var:=by rw[gA];rfl
   have iv:av (gt ae (n.aC.map cG) (x.1.pos:Int)).1 (List.length u)=true:=by rw[gv];exact aK ⟨by omega,by omega⟩
   have hn:fD n cs u x=u.set a.var.toNat (bt a.a u&&bt a.b u):=by unfold fD;rw[if_pos h,gr,hfr];rfl
   have ee:∀(p q:Int) (c d:Bool),p=q->c=d->List.set u (Int.toNat p) c=List.set u (Int.toNat q) d:=by rintro _ _ _ _ rfl rfl;rfl
   refine ax (show Bool.not x.1.rd=true by rw[h];rfl) (ak (show av (x.1.pos:Int) (List.length (n.aC.map cG))=true from aK ⟨by omega,by omega⟩) (ah e0 ?_));cases hA:bt a.a u with
   |true=>refine ax rfl (ak (ar rfl) (ah e1 (ak iv (ak (ar rfl) (e _ _ _ _ _ _ ?_ hk1 rfl)))));rw[hn,hA];exact ee _ _ _ _ gv (by cases bt a.b u<;>rfl)
   |false=>refine ag rfl (ak (ar rfl) (ak iv (e _ _ _ _ _ _ ?_ hk1 rfl)));rw[hn,hA];exact ee _ _ _ _ gv rfl
  .-- a port
   have hMm:=dc hM;obtain⟨hm1,hm2,hm3,hm4,hm5,hm6,_⟩:=hs.aa M hMm;have hrm:=dc hr;have gr:x.2.to=bU r.var M.word.toNat:=by rw[hI];rfl
   have hfr:x.2.aQ=r.addr:=by rw[hI];rfl
   have hfl:=hm5 r hrm;have hml:=dz hM;have hcs:=ok.jU;have hcc:=List.getElem?_eq_getElem (l:=cs) (i:=x.1.mem) (by omega);have hcok:=ok.ok x.1.mem M cs[x.1.mem] hM hcc;have hM':(n.aa.map af)[x.1.mem]?=some (af M):=by rw[bT,hM];rfl
   have hR':(M.reads.map bW)[x.1.pos]?=some (bW r):=by rw[bT,hr];rfl
   have hrl:=dz hR';have gM:gt ab (n.aa.map af) (x.1.mem:Int)=af M:=bF (σ:=ab) hM';have gR:gt bg (gt ab (n.aa.map af) (x.1.mem:Int)).2.2.2.1 (x.1.pos:Int)=bW r:=by rw[gM];exact bF (σ:=bg) hR'
   obtain⟨W,hW⟩:=ie (show 0<=M.word by omega);have htl:x.2.to.length=W:=by rw[gr,nZ,hW];rfl
   have rv0:=hs.lF hmI (v:=r.var) (by rw[gr];unfold bU;exact List.mem_map.2 ⟨0,List.mem_range.2 (by omega),by simp⟩);have rv1:=hs.lF hmI (v:=r.var+((W-1:Nat):Int)) (by rw[gr];unfold bU;exact List.mem_map.2 ⟨W-1,List.mem_range.2 (by omega),rfl⟩);obtain⟨p,hp⟩:=ie (show 0<=r.var by omega);have e2:qM ((gt bg (gt ab (n.aa.map af) (x.1.mem:Int)).2.2.2.1 (x.1.pos:Int)).2.1,(u,()))=some ((cd (x.2.aQ.map (bt · u)):Int),()):=by rw[gR,hfr];exact NR r.addr u (by omega) (fun l hl=>by have:=hf.2 l (by rw[hfr];exact hl);omega)
   have hra:=wY (n:=n) (cs:=cs) hM hcc;have hrd:List.getD (bJ n cs) (Int.toNat (x.1.mem:Int)) zR=(M.addr,(M.word,(cs[x.1.mem],()))):=by rw[bM,eD,hra];rfl
   have e1:rH ((cd (x.2.aQ.map (bt · u)):Int),((List.getD (bJ n cs) (Int.toNat (x.1.mem:Int)) zR).1,((List.getD (bJ n cs) (Int.toNat (x.1.mem:Int)) zR).2.1,((List.getD (bJ n cs) (Int.toNat (x.1.mem:Int)) zR).2.2.1,()))))=some (rd cs[x.1.mem] (cd (x.2.aQ.map (bt · u))),(M.addr,(M.word,(cs[x.1.mem],())))):=by rw[hrd];exact anA _ _ _ _
   have hrr:=ahN hcok (by omega) (cd (x.2.aQ.map (bt · u)));obtain⟨q,hq⟩:=ie hrr.1;have e0:qS (rd cs[x.1.mem] (cd (x.2.aQ.map (bt · u))),((gt ab (n.aa.map af) (x.1.mem:Int)).2.1,()))=some (gG q W,()):=by
    have gw:(gt ab (n.aa.map af) (x.1.mem:Int)).2.1=M.word:=by rw[gM];rfl
    rw[gw,hq,hW];exact T3 q W (by omega) (by omega)
   have hn:fD n cs u x=eH u (x.2.to.zip (gG q W)):=by unfold fD;rw[if_neg (by rw[h];simp),bM,hcc,htl];show eH u (x.2.to.zip (gG (rd cs[x.1.mem] _).toNat W))=_;rw[hq];rfl
   have gvr:(gt bg (gt ab (n.aa.map af) (x.1.mem:Int)).2.2.2.1 (x.1.pos:Int)).1=(p:Int):=by rw[gR,<-hp];rfl
   have hcp:jZ u p (List.take (u.length-p) (gG q W))=fD n cs u x:=by rw[fR (by rw[qP];omega),hn,agi (by rw[qP];omega),qP,gr,hp,hW];rfl
   have hset:List.set (bJ n cs) (Int.toNat (x.1.mem:Int)) (M.addr,(M.word,(cs[x.1.mem],())))=bJ n cs:=by rw[eD];have hlt:=dz hra;rw[aN hlt]at hra;injection hra with hra;rw[<-hra];exact List.set_getElem_self hlt
   have hb:∀y:Int,y=(p:Int)->both (iE (0:Int) y) (iE y (Int.ofNat (List.length u)))=true:=by rintro _ rfl;show both (decide _) (decide _)=true;rw[bG (by omega),bG (by show(p:Int)<=(u.length:Int);omega)];rfl
   have ee:∀(y:Int),y=(p:Int)->jZ u (Int.toNat y) (List.take (u.length-Int.toNat y) (gG q W))=fD n cs u x:=by rintro _ rfl;rw[eD];exact hcp
   refine ag (show Bool.not x.1.rd=false by rw[h];rfl) (ak (show av (x.1.mem:Int) (List.length (n.aa.map af))=true from aK ⟨by omega,by rw[aI];omega⟩) (ak (show av (x.1.pos:Int) (List.length (gt ab (n.aa.map af) (x.1.mem:Int)).2.2.2.1)=true by rw[gM];exact aK ⟨by omega,by show _<((M.reads.map bW).length:Int);omega⟩)
    (ak (show av (x.1.mem:Int) (List.length (bJ n cs))=true from aK ⟨by omega,by rw[wV ok.jU];omega⟩) (ah e2 (ah e1 (ak (hb _ gvr) (ah e0 (e _ _ _ _ _ _ (ee _ gvr) hk1 hset))))))))
 .unfold mc nt
  try dsimp only
  unfold Cw;rw[dS];exact ag (au (show ¬((bK n V).length:Int)<((bK n V).length:Int) by omega)) rfl
theorem N3{K:Nat}(hK:K<=5000)(ls ins:List Bool)(cs:List (List aJ))(ok:jG n K ls cs)(hi:ins.length=n.aL.length) :
  qQ (ins,mc n (bK n V) ls (bJ n cs) ())=some ((0:Int),mc n (bK n V) ls (bJ n cs) (ct n ls cs ins,())):=by
 have hv2:=hs.v2;have hV:n.vars.toNat=V:=by rw[hs.vars];rfl
 have hw:IntKind.wrap (.i64:IntKind) (n.vars+1)=((V+1:Nat):Int):=by rw[hs.vars,cf (by omega)];omega
 have e5:=aou hs (bK n V) ls ins (bJ n cs) (List.replicate (V+1) false) (by simp) hi;have e10:=aiE hs (bK n V) ls (bJ n cs) (eH (List.replicate (V+1) false) (n.aL.zip ins)) (by rw[nO];simp) ok.kS;have hval:eH (eH (List.replicate (V+1) false) (n.aL.zip ins)) ((n.aj.map (·.var)).zip ls)=kQ n ls ins:=by unfold kQ;rw[hV]
 rw[hval]at e10;have e16:=aiF hs ft hK ls cs ok (kQ n ls ins) (by rw[Dq,hV]);have hfin:(bK n V).foldl (fD n cs) (kQ n ls ins)=ct n ls cs ins:=by unfold ct;rw[hV]
 rw[hfin]at e16;have hol:((bK n V).length:Int)=((((bK n V).map (fun x=>dM x.1)).length:Nat):Int):=by rw[aI]
 rw[hol]at e16;show Mt kh qS qM rH Mm Ma L0 ins n.vars n.aL (n.aj.map bf) n.bz n.bc n.constraints (n.aa.map af) (n.aC.map cG) ((bK n V).map (fun x=>dM x.1)) ls (bJ n cs)=_;unfold Mt;have q1:(iQ (Int.ofNat (List.length ins)) (Int.ofNat (List.length n.aL)))=true:=ar (by rw[hi]);rw[hw];refine ag (by rw[q1];rfl) (ak (by show both (decide _) (both (decide _) (decide _))=true;rw[bG (by omega),bG (by omega),bG (by show(1:Int)*_<=_;omega)];rfl) (ah e5 (ah e10 (ah e16 rfl))))
end
def jk(v:List Bool)(c:List aJ)(w:iw):List aJ:=if bt w.on v=true then wr c (cd (w.addr.map (bt · v))) (cd (w.data.map (bt · v)))else c
def nK(v:List Bool)(m:aV)(c:List aJ):List aJ:=m.writes.foldl (jk v) c
def dY(n:aB)(v:List Bool):List Bool:=n.aj.map fun l=>bt l.next v
def eI(n:aB)(cs:List (List aJ))(v:List Bool):List (List aJ):=List.zipWith (nK v) n.aa cs
def sw(n:aB)(v:List Bool):List Bool:=n.bc.map (bt · v)
def qA(n:aB)(v:List Bool):Bool:=n.constraints.all (bt · v)
theorem abp{a:Int}{q:aJ}:∀{L:List aJ},q∈nf a L->q∈L
 |[],h=>h|p::M,h=>by
  rw[aav]at h;split at h
  .simp[h]
  .rcases List.mem_cons.1 h with h|h
   .simp[h]
   .simp[abp h]
theorem abo{a w:Int}{q:aJ}:∀{L:List aJ},q∈oN a w L->q=(a,w,())\/q∈L
 |[],h=>by have:q∈[((a,w,()):aJ)]:=h;simp at this;exact .inl this|p::M,h=>by
  rw[Ni]at h;split at h
  .rcases List.mem_cons.1 h with h|h
   .exact .inl h
   .exact .inr h
  .split at h
   .rcases List.mem_cons.1 h with h|h
    .exact .inl h
    .exact .inr (by simp[h])
   .rcases List.mem_cons.1 h with h|h
    .exact .inr (by simp[h])
    .rcases abo h with h|h
     .exact .inl h
     .exact .inr (by simp[h])
theorem Vn{a w:Int}{q:aJ}{L:List aJ}(h:q∈wr L a w):(w≠0/\q=(a,w,()))\/q∈L:=by
 unfold wr at h;split at h
 .exact .inr (abp h)
 .rename_i h0;rcases abo h with h|h
  .exact .inl ⟨h0,h⟩
  .exact .inr h
theorem Dr{l:List Bool}{k:Int}(h:(l.length:Int)=k):((cd l:Nat):Int)<2^k.toNat:=by
 have e:k.toNat=l.length:=by omega
 have:=pH l;rw[e]
 exact_mod_cast this
theorem ah0{m:aV}{k:Nat}{c:List aJ}{v:List Bool}{w:iw}(h:nP m k c)(ha:(w.addr.length:Int)=m.addr)(hd:(w.data.length:Int)=m.word):nP m (k+1) (jk v c w):=by
 unfold jk;split
 .refine⟨Vo h.rO,dK (ah1 _ _ _) (by have:=h.len;omega),fun p hp=>?_,fun p hp=>?_⟩
  .rcases Vn hp with⟨h0,rfl⟩|hp
   .exact⟨by show(0:Int)<=((cd _:Nat):Int);omega,Dr (by rw[aI];exact ha)⟩
   .exact h.at_ p hp
  .rcases Vn hp with⟨h0,rfl⟩|hp
   .exact⟨by show(0:Int)<((cd _:Nat):Int);omega,Dr (by rw[aI];exact hd)⟩
   .exact h.wd p hp
 .exact⟨h.rO,by have:=h.len;omega,h.at_,h.wd⟩
theorem aa8{m:aV}{v:List Bool}:∀{l:List iw}{k:Nat}{c:List aJ},nP m k c->(∀w∈l,(w.addr.length:Int)=m.addr/\(w.data.length:Int)=m.word)->nP m (k+l.length) (l.foldl (jk v) c)
 |[],k,c,h,_=>h|w::l,k,c,h,hw=>by have:=aa8 (v:=v) (l:=l) (ah0 (v:=v) h (hw w (by simp)).1 (hw w (by simp)).2) (fun x hx=>hw x (by simp[hx]));rw[List.foldl_cons,cp];rw[show k+1+l.length=k+(l.length+1) by omega]at this;exact this
theorem abw{n:aB}{V:Nat}(hs:cr n V){K:Nat}{ls:List Bool}{cs:List (List aJ)}(ok:jG n K ls cs)(v:List Bool):jG n (K+4) (dY n v) (eI n cs v):=by
 refine⟨by unfold dY;rw[aI],by unfold eI;rw[List.length_zipWith];have:=ok.jU;omega,fun i m c hm hc=>?_⟩;unfold eI at hc;rw[List.getElem?_zipWith,hm]at hc;have hlt:=dz hm;have hlc:i<cs.length:=by have:=ok.jU;omega
 have h2:=aN hlc;rw[h2]at hc;injection hc with hc;obtain⟨_,_,_,_,_,h6,_,h8⟩:=hs.aa m (dc hm);have:=aa8 (v:=v) (ok.ok i m cs[i] hm h2) h6;rw[<-hc];exact⟨this.rO,by have:=this.len;unfold nK;omega,this.at_,this.wd⟩
section
variable{n:aB}{V:Nat}(hs:cr n V)
include hs
theorem tc{l:Int}(h:l∈cD n):l<9223372036854775808:=by have:=hs.lits l h;have:=hs.v2;omega
theorem ane{m:aV}{w:iw}(hm:m∈n.aa)(hw:w∈m.writes):w.on<9223372036854775808/\(∀l∈w.addr,l<9223372036854775808)/\∀l∈w.data,l<9223372036854775808:=by
 have aY:∀l∈mV w,l∈cD n:=fun l hl=>by unfold cD;simp only[List.mem_append];refine .inl (.inr (List.mem_flatMap.2 ⟨m,hm,?_⟩));unfold kP;rw[List.mem_append];exact .inr (List.mem_flatMap.2 ⟨w,hw,hl⟩)
 exact⟨tc hs (aY _ (by unfold mV;simp)),fun l hl=>tc hs (aY _ (by unfold mV;simp[hl])),fun l hl=>tc hs (aY _ (by unfold mV;simp[hl]))⟩
end
theorem I9:∀(l:List (Int×Bool)) (v:List Bool) (q:Int×Bool),(l.map fun p=>p.1.toNat).Nodup->q∈l->q.1.toNat<v.length->(eH v l).getD q.1.toNat false=q.2
 |[],_,_,_,h,_=>nomatch h
 |p::l,v,q,hn,h,hv=>by
  have hn:=List.nodup_cons.1 hn;show(eH (v.set p.1.toNat p.2) l).getD q.1.toNat false=_;rcases List.mem_cons.1 h with rfl|h
  .rw[Ad l _ _ (fun r hr e=>hn.1 (List.mem_map.2 ⟨r,hr,e⟩)),bM,List.getElem?_set_self hv];rfl
  .exact I9 l _ q hn.2 h (by rw[List.length_set];exact hv)
section
variable{n:aB}{w bad V:Nat}(C:A8 n w bad)(hs:cr n V)(ha:eO (aR n) V=true)
def mM(v:List Bool)(x:Int):Bool:=v.getD x.toNat false
include C hs ha
end
def vv(cs:List (List aJ))(i:Nat)(m:aV)(r:jb)(w:List Bool)(j:Nat):Bool:=(gG (rd (cs.getD i []) (cd (r.addr.map (bt · w)))).toNat m.word.toNat).getD j false
structure Vq(n:aB)(V:Nat)(ls:List Bool)(cs:List (List aJ))(ins w:List Bool):Prop where
 src:∀p,p<=V->(∀x∈n6 n,p∉x.2.nd.to)->(kQ n ls ins).getD p false=w.getD p false
 anW:∀a∈n.aC,w.getD a.var.toNat false=(bt a.a w&&bt a.b w)
 rd_:∀(i:Nat) (m:aV) (r:jb),n.aa[i]?=some m->r∈m.reads->∀j,j<m.word.toNat->w.getD (r.var+(j:Int)).toNat false=vv cs i m r w j
section
variable{n:aB}{V:Nat}(hs:cr n V)(ha:eO (aR n) V=true){ls:List Bool}{cs:List (List aJ)}{ins w:List Bool}(F:Vq n V ls cs ins w)
include hs ha F
theorem ahC{x:bE×bq}(hx:x∈n6 n){l:Int}(hl:l∈x.2.aQ):0<=l/\(l / 2).toNat<=V:=by
 have hi:=qC n hx;have key:l∈cD n:=by
  rcases hi with⟨_,a,h1,h2⟩|⟨_,m,r,h1,h2,h3⟩
  .rw[h2]at hl;have hm:=dc h1;have hl:l∈[a.a,a.b]:=hl;unfold cD;simp only[List.mem_append,List.mem_flatMap];exact .inr ⟨a,hm,hl⟩
  .rw[h3]at hl;have hm:=dc h1;have hr:=dc h2;unfold cD;simp only[List.mem_append,List.mem_flatMap];refine .inl (.inr ⟨m,hm,?_⟩);unfold kP;simp only[List.mem_append,List.mem_flatMap];exact .inl ⟨r,hr,hl⟩
 have:=hs.lits l key;exact⟨this.1,by omega⟩
theorem af2:∀(B A:List (bE×bq)),bK n V=A++B->∀p,p<=V->(∀y∈B,p∉y.2.nd.to)->(A.foldl (fD n cs) (kQ n ls ins)).getD p false=w.getD p false:=by
 have hV:n.vars.toNat=V:=by rw[hs.vars];rfl
 intro B A
 induction hk:A.length generalizing A B with
 |zero=>intro e p hp h;obtain rfl:A=[]:=jd hk;refine F.src p hp fun x hx=>h x ?_;have:=UE hs ha hx;rw[e]at this;exact this
 |succ k ih=>
  intro e p hp h;obtain⟨A',x,rfl⟩:∃A' x,A=A'++[x]:=by
   have hne:A≠[]:=by intro q;rw[q]at hk;simp at hk
   exact⟨A.dropLast,A.getLast hne,(List.dropLast_concat_getLast hne).symm⟩
  have hkl:A'.length=k:=by simp at hk;exact hk
  have e':bK n V=A'++(x::B):=by rw[e];simp
  have hx:x∈n6 n:=w7 (V:=V) (by rw[e'];simp);have hap:=TT hs ha;rw[e',List.pairwise_append]at hap;have hB:∀y∈B,Jl x y:=(List.pairwise_cons.1 hap.2.1).1;have ih':=ih (x::B) A' hkl e';rw[List.foldl_append];show(fD n cs (A'.foldl (fD n cs) (kQ n ls ins)) x).getD p false=_;by_cases hpx:p∈x.2.nd.to
  .obtain⟨v,hv⟩:∃v,v=A'.foldl (fD n cs) (kQ n ls ins):=⟨_,rfl⟩;rw[<-hv];have lv:v.length=V+1:=by rw[hv,wT,Dq,hV]
   have hev:∀l∈x.2.aQ,bt l v=bt l w:=by
    intro l hl;obtain⟨l1,l2⟩:=ahC hs ha F hx hl;refine z8 ?_;rw[hv];have hu:(l / 2).toNat∈x.2.nd.aQ:=List.mem_map.2 ⟨l,hl,rfl⟩;refine ih' _ l2 fun y hy=>?_;rcases List.mem_cons.1 hy with rfl|hy
    .exact AD hs ha hx hx (Int.le_refl _) hu
    .exact(hB y hy).2 _ hu
   rcases qC n hx with⟨h0,a,h1,h2⟩|⟨h0,m,r,h1,h2,h3⟩
   .rw[h2]at hpx hev;have hpx:p∈[a.var.toNat]:=hpx;have hpa:=List.mem_singleton.1 hpx;have e1:bt a.a v=bt a.a w:=hev a.a (by show a.a∈[a.a,a.b];simp);have e2:bt a.b v=bt a.b w:=hev a.b (by show a.b∈[a.a,a.b];simp);unfold fD;rw[if_pos h0,h2];show(v.set a.var.toNat (bt a.a v&&bt a.b v)).getD p false=_;rw[hpa,F.anW a (dc h1),e1,e2,bM,List.getElem?_set_self (by omega)];rfl
   .rw[h3]at hpx hev;have hr:=dc h2;have hmm:=dc h1;obtain⟨q,hq,hqp⟩:=List.mem_map.1 (show p∈(bU r.var m.word.toNat).map Int.toNat from hpx);obtain⟨j,hj,hjq⟩:=List.mem_map.1 (show q∈(List.range m.word.toNat).map fun i:Nat=>r.var+(i:Int)from hq);have hj:=List.mem_range.1 hj;have hjq:r.var+(j:Int)=q:=hjq;have hwd:cd (r.addr.map (bt · v))=cd (r.addr.map (bt · w)):=congrArg cd (List.map_congr_left fun l hl=>hev l hl);unfold fD;rw[if_neg (by rw[h0];simp),h3];show(eH v ((bU r.var m.word.toNat).zip (gG (rd (cs.getD x.1.mem []) (cd (r.addr.map (bt · v)))).toNat (bU r.var m.word.toNat).length))).getD p false=_;have hdl:(bU r.var m.word.toNat).length=m.word.toNat:=by unfold bU;rw[aI,List.length_range]
    rw[hdl,hwd,<-hqp,<-hjq,F.rd_ x.1.mem m r h1 hr j hj];have hrng:∀i:Nat,i<m.word.toNat->1<=r.var+(i:Int)/\r.var+(i:Int)<=(V:Int):=by intro i hi;refine hs.jB _ ?_;unfold bX;simp only[List.mem_append,List.mem_flatMap];refine .inl (.inr ⟨m,hmm,?_⟩);exact List.mem_flatMap.2 ⟨r,hr,List.mem_map.2 ⟨i,List.mem_range.2 hi,rfl⟩⟩
    have hb:(gG (rd (cs.getD x.1.mem []) (cd (r.addr.map (bt · w)))).toNat m.word.toNat).length=m.word.toNat:=qP _ _;have hz:((bU r.var m.word.toNat).zip (gG (rd (cs.getD x.1.mem []) (cd (r.addr.map (bt · w)))).toNat m.word.toNat))[j]?=some (r.var+(j:Int),vv cs x.1.mem m r w j):=by
     rw[List.getElem?_zip_eq_some];refine⟨?_,?_⟩
     .unfold bU;rw[bT,List.getElem?_range hj];rfl
     .unfold vv;exact(fun{L:List Bool}(h:j<L.length)=>(by rw[bM,aN h];rfl:L[j]?=some (L.getD j false))) (iS hj (Nat.le_of_eq hb.symm))
    have hnd:(((bU r.var m.word.toNat).zip (gG (rd (cs.getD x.1.mem []) (cd (r.addr.map (bt · w)))).toNat m.word.toNat)).map fun p=>p.1.toNat).Nodup:=by
     have e1:(((bU r.var m.word.toNat).zip (gG (rd (cs.getD x.1.mem []) (cd (r.addr.map (bt · w)))).toNat m.word.toNat)).map fun p=>p.1.toNat)=(bU r.var m.word.toNat).map Int.toNat:=by rw[show(fun p:Int×Bool=>p.1.toNat)=Int.toNat∘Prod.fst from rfl,<-List.map_map,List.map_fst_zip (by rw[hdl,hb];exact aS _)]
     rw[e1,List.nodup_iff_pairwise_ne];unfold bU;rw[List.map_map,List.pairwise_map];refine List.Pairwise.imp_of_mem (fun{a b} ha hb hab=>?_) (List.pairwise_lt_range (n:=m.word.toNat));have h1:=hrng a (List.mem_range.1 ha);have h2:=hrng b (List.mem_range.1 hb);show(r.var+(a:Int)).toNat≠(r.var+(b:Int)).toNat;omega
    have:=I9 _ v (r.var+(j:Int),vv cs x.1.mem m r w j) hnd (dc hz) (by have:=hrng j hj;show(r.var+(j:Int)).toNat<v.length;omega);exact this
  .rw[IX _ (A5 hs hx) hpx];exact ih' p hp fun y hy=>by
    rcases List.mem_cons.1 hy with rfl|hy
    .exact hpx
    .exact h y hy
theorem uniq{p:Nat}(hp:p<=V):(ct n ls cs ins).getD p false=w.getD p false:=by
 have hV:n.vars.toNat=V:=by rw[hs.vars];rfl
 unfold ct;rw[hV];exact af2 hs ha F [] (bK n V) (dB _).symm p hp (fun y hy=>nomatch hy)
end
def li(L:List Int)(k:Nat):Int:=L.getD k 0
def lg(C:List (List Int))(a j:Nat):Int:=li (C.getD a []) j
theorem pw{L:List Int}{k:Nat}(h:k<L.length):L[k]?=some (li L k)/\li L k∈L:=by
 have e:=aN h;have:li L k=L[k]:=by unfold li;rw[bM,e];rfl
 rw[this];exact⟨e,dk h⟩
theorem sE{L:List Int}{k:Nat}(h:k<L.length):gt (.int .i64) L (k:Int)=li L k:=bF (σ:=.int .i64) (pw h).1
theorem AG{C:List (List Int)}{a:Nat}(h:a<C.length):C[a]?=some (C.getD a [])/\C.getD a []∈C:=by
 have e:=aN h;have:C.getD a []=C[a]:=by rw[bM,e];rfl
 rw[this];exact⟨e,dk h⟩
theorem Jj{C:List (List Int)}{a:Nat}(h:a<C.length):gt (.sl (.int .i64)) C (a:Int)=C.getD a []:=bF (σ:=.sl (.int .i64)) (AG h).1
theorem I6{L:List Int}{x:Int}{k:Nat}:li (L++[x]) k=if k<L.length then li L k else if k=L.length then x else 0:=by
 unfold li;rw[bM,bM];by_cases h:k<L.length
 .rw[if_pos h,List.getElem?_append_left h]
 .rw[if_neg h,List.getElem?_append_right (by omega)];by_cases e:k=L.length
  .rw[if_pos e,e,Nat.sub_self];rfl
  .rw[if_neg e,ep (by simp;omega)];rfl
theorem VL{L:List Int}{x:Int}(h:L.length<=10000000):room 8 (List.length (L++(x::[])))=true:=qd (by omega) (by omega)
structure Jb(s t:Mk)(L:List Int)(k:Nat)(H:List Int):Prop where
 sp:Sp s t (k*L.length) []
 len:H.length=k
 ok:∀a,a<k->cQ t.v (li H a)
 val:∀a,a<k->∀val,Sat val t.a->aZ val (li H a)=decide (cd (L.map (aZ val))=a)
 dO:∀a,a<k->∀G,k8 G t.a->(∀x∈L,GL G x)->GL G (li H a)
structure Jm(s t:Mk)(H:List Int)(C:List (List Int))(j k:Nat)(z:Int):Prop where
 sp:Sp s t (2*k) []
 ok:cQ t.v z
 val:∀val,Sat val t.a->(aZ val z=true↔∃a,a<k/\aZ val (li H a)=true/\aZ val (lg C a j)=true)
 dO:∀G,k8 G t.a->(∀a,a<k->GL G (li H a)/\GL G (lg C a j))->GL G z
abbrev cF{α:Type}(i:List Int)(l:List ae.T)(o b c:List Int)(m:List ab.T)(s:Mk)(r:α):Int×List Int×List ae.T×List Int×List Int×List Int×List ab.T×List ae.T×α:=((s.v:Int),(i,(l,(o,(b,(c,(m,(s.a.map cG,r))))))))
section
variable(i:List Int)(l:List ae.T)(o b c:List Int)(m:List ab.T){s:Mk}
theorem aom(p:Int)(C:List (List Int))(L:List Int)(x0 x1:Int)(x2:Bool)(x3:List bg.T)(x4:List aH.T)(hC:C.length<=64)(hL:L.length<=64)(hp:C.length<=2^L.length)(hx:∀x∈L,cQ s.v x)
  (hv:s.v+C.length*L.length<=100000) (ha:s.a.length+C.length*L.length<=100000) :
  ∃(t:Mk) (H:List Int),uE (p,(C,(L,(((C.length:Nat):Int),((0:Int),cF i l o b c m s (x0,(x1,(x2,(x3,(x4,([],())))))))))))
   = some (p,(C,cF i l o b c m t (x0,(x1,(x2,(x3,(x4,(H,()))))))))/\Jb s t L C.length H:=by
 have key:∃q,uE (p,(C,(L,(((C.length:Nat):Int),((0:Int),cF i l o b c m s (x0,(x1,(x2,(x3,(x4,([],())))))))))))=some q/\∃(t:Mk) (H:List Int),q=(p,(C,cF i l o b c m t (x0,(x1,(x2,(x3,(x4,(H,()))))))))/\Jb s t L C.length H:=by
  unfold uE;delta uA;refine oD C.length (fun k d=>∃(t:Mk) (H:List Int),d=(p,(C,(L,(((C.length:Nat):Int),((k:Int),cF i l o b c m t (x0,(x1,(x2,(x3,(x4,(H,())))))))))))/\Jb s t L k H) ?_ ?_
   ⟨s,[],rfl,(Sp.refl s).more (by omega),rfl,fun a h=>by omega,fun a h=>by omega,fun a h=>by omega⟩ (bL (by omega))
  .rintro k d hk ⟨t,H,rfl,A⟩;have lo:=A.sp.lo;have hi:=A.sp.hi;have hlen:=A.sp.len;have hkl:k*L.length+L.length<=C.length*L.length:=by have:=Nat.mul_le_mul_right L.length (show k+1<=C.length from hk);rw[Nat.succ_mul k]at this;exact this
   have hw:IntKind.wrap .u64 (k:Int)=(k:Int):=mu (by omega);obtain⟨z,t',e2,B⟩:=U6 i l o b c m (s:=t) (L:=L) (w:=k) hL (by omega) (fun x h=>(hx x h).up lo) (by omega) (by simp at hlen;omega);have e2':qq (L,(IntKind.wrap .u64 (k:Int),dw i l o b c m t))=some (z,dw i l o b c m t'):=by rw[hw];exact e2
   have hk2:k<2^L.length:=by omega
   have ek:∀u v:Int,u=v->(some (.inl (p,(C,(L,(((C.length:Nat):Int),(u,cF i l o b c m t' (x0,(x1,(x2,(x3,(x4,(H++[z],()))))))))))) ):Option (TL yJ.σs⊕Out yF))=some (.inl (p,(C,(L,(((C.length:Nat):Int),(v,cF i l o b c m t' (x0,(x1,(x2,(x3,(x4,(H++[z],())))))))))))):=by rintro _ _ rfl;rfl
   have hl:=A.len;refine⟨_,ax (ar (show(k:Int)<((C.length:Nat):Int) by omega)) (ah e2' (ak (show room 8 (List.length (H++[z]))=true from VL (by omega)) (ek _ _ (bR (show(k:Int)+1=((k+1:Nat):Int) by omega) (by omega))))),t',H++[z],rfl,?_,?_,?_,?_,?_⟩
   .exact(A.sp.trans B.sp).more (by rw[Nat.succ_mul k];omega)
   .rw[aU,hl];rfl
   .intro a h;rw[I6,hl];by_cases q:a<k
    .rw[if_pos q];exact(A.ok a q).up B.sp.lo
    .rw[if_neg q,if_pos (by omega)];exact B.ok
   .intro a h val hs;rw[I6,hl];by_cases q:a<k
    .rw[if_pos q];exact A.val a q val (B.sp.sat hs)
    .obtain rfl:a=k:=by omega
     rw[if_neg q,if_pos rfl];exact B.word hk2 val hs
   .intro a h G hc hg;rw[I6,hl];by_cases q:a<k
    .rw[if_pos q];exact A.dO a q G (B.sp.dO hc) hg
    .rw[if_neg q,if_pos (by omega)];exact B.dO G hc hg
  .rintro d ⟨t,H,rfl,A⟩;exact⟨_,ag (au (show ¬((C.length:Nat):Int)<((C.length:Nat):Int) by omega)) rfl,t,H,rfl,A⟩
 obtain⟨q,e,t,H,rfl,A⟩:=key;exact⟨t,H,e,A⟩
theorem aiu(C:List (List Int))(H:List Int)(j:Nat)(v:Int)(D:List Int)(n:Int)(hC:C.length<=64)(hH:H.length=C.length)(hj:∀r∈C,j<r.length)(hx:∀r∈C,∀x∈r,cQ s.v x)(hy:∀x∈H,cQ s.v x)
  (hv:s.v+2*C.length<=100000) (ha:s.a.length+2*C.length<=100000) :
  ∃(t:Mk) (z:Int),rS (C,((j:Int),(v,((0:Int),(D,(n,((j:Int),(C,(((C.length:Nat):Int),((0:Int),cF i l o b c m s (H,())))))))))))
   = some (C,(v,(z,(D,(n,((j:Int),cF i l o b c m t (H,())))))))/\Jm s t H C j C.length z:=by
 have key:∃q,rS (C,((j:Int),(v,((0:Int),(D,(n,((j:Int),(C,(((C.length:Nat):Int),((0:Int),cF i l o b c m s (H,())))))))))))=some q/\∃(t:Mk) (z:Int),q=(C,(v,(z,(D,(n,((j:Int),cF i l o b c m t (H,())))))))/\Jm s t H C j C.length z:=by
  unfold rS;delta uA;refine oD C.length (fun k d=>∃(t:Mk) (z:Int),d=(C,((j:Int),(v,(z,(D,(n,((j:Int),(C,(((C.length:Nat):Int),((k:Int),cF i l o b c m t (H,())))))))))))/\Jm s t H C j k z) ?_ ?_
   ⟨s,0,rfl,(Sp.refl s).more (by omega),⟨by omega,by omega⟩,fun val _=>by rw[AO];exact⟨fun h=>(by cases h),fun⟨a,h,_⟩=>by omega⟩,fun G _ _=>.inl (by omega)⟩ (bL (by omega))
  .rintro k d hk ⟨t,z,rfl,A⟩;have lo:=A.sp.lo;have hi:=A.sp.hi;have hlen:=A.sp.len;have hlen:t.a.length<=s.a.length+2*k:=by simpa using hlen
   have hkH:k<H.length:=by omega
   have hr:=(AG hk).2;have hjr:=hj _ hr;have gH:gt (.int .i64) H (k:Int)=li H k:=sE hkH;have gC:gt (.int .i64) (gt (.sl (.int .i64)) C (k:Int)) (j:Int)=lg C k j:=by rw[Jj hk];exact sE hjr
   have okH:=(hy _ (pw hkH).2).up lo;have oh:cQ t.v (lg C k j):=(hx _ hr _ (pw hjr).2).up lo;obtain⟨y,t1,e1,B⟩:=si i l o b c m (s:=t) ⟨by omega,by omega⟩ okH oh;have e1':mR (gt (.int .i64) H (k:Int),(gt (.int .i64) (gt (.sl (.int .i64)) C (k:Int)) (j:Int),dw i l o b c m t))=some (y,dw i l o b c m t1):=by rw[gH,gC];exact e1
   have lo1:=B.sp.lo;have hi1:=B.sp.hi;have hl1:t1.a.length<=t.a.length+1:=by simpa using B.sp.len
   obtain⟨z',t2,e2,E⟩:=U7 i l o b c m (s:=t1) ⟨by omega,by omega⟩ (A.ok.up lo1) B.ok;have i1:av (k:Int) (List.length C)=true:=aK ⟨by omega,by omega⟩;have i2:av (k:Int) (List.length H)=true:=aK ⟨by omega,by omega⟩;have i3:av (j:Int) (List.length (gt (.sl (.int .i64)) C (k:Int)))=true:=by rw[Jj hk];exact aK ⟨by omega,Int.ofNat_lt.2 hjr⟩
   have ek:∀u w:Int,u=w->(some (.inl (C,((j:Int),(v,(z',(D,(n,((j:Int),(C,(((C.length:Nat):Int),(u,cF i l o b c m t2 (H,())))))))))))):Option (TL yE.σs⊕Out yx))=some (.inl (C,((j:Int),(v,(z',(D,(n,((j:Int),(C,(((C.length:Nat):Int),(w,cF i l o b c m t2 (H,())))))))))))):=by rintro _ _ rfl;rfl
   refine⟨_,ax (ar (show(k:Int)<((C.length:Nat):Int) by omega)) (ak i1 (ak i2 (ak i3 (ah e1' (ak (ar rfl) (ah e2 (ek _ _ (bR (show(k:Int)+1=((k+1:Nat):Int) by omega) (by omega))))))))),t2,z',rfl,?_,E.ok,?_,?_⟩
   .exact((A.sp.trans B.sp).trans E.sp).more (by omega)
   .intro val hs;have s1:=E.sp.sat hs;have s0:=B.sp.sat s1;rw[E.val val hs];show(aZ val z||aZ val y)=true↔_;rw[Bool.or_eq_true,A.val val s0,B.val val s1];show _\/(aZ val (li H k)&&aZ val (lg C k j))=true↔_;rw[Bool.and_eq_true];constructor
    .rintro(⟨a,h1,h2⟩|h)
     .exact⟨a,by omega,h2⟩
     .exact⟨k,by omega,h⟩
    .rintro⟨a,h1,h2⟩;by_cases q:a<k
     .exact .inl ⟨a,q,h2⟩
     .obtain rfl:a=k:=by omega
      exact .inr h2
   .intro G hc hg;have c1:=E.sp.dO hc;exact E.dO G hc (A.dO G (B.sp.dO c1) (fun a h=>hg a (by omega))) (B.dO G c1 (hg k (by omega)).1 (hg k (by omega)).2)
  .rintro d ⟨t,z,rfl,A⟩;exact⟨_,ag (au (show ¬((C.length:Nat):Int)<((C.length:Nat):Int) by omega)) rfl,t,z,rfl,A⟩
 obtain⟨q,e,t,z,rfl,A⟩:=key;exact⟨t,z,e,A⟩
structure Ja(s t:Mk)(H:List Int)(C:List (List Int))(D:List Int)(k:Nat):Prop where
 sp:Sp s t (k*(2*C.length)) (D.take k)
 val:∀j,j<k->∀val,Sat val t.a->(val (li D j)=true↔∃a,a<C.length/\aZ val (li H a)=true/\aZ val (lg C a j)=true)
 dO:∀j,j<k->∀G,k8 G t.a->(∀a,a<C.length->GL G (li H a)/\GL G (lg C a j))->G (li D j)
theorem aon(C:List (List Int))(H D:List Int)(hC:C.length<=64)(hH:H.length=C.length)(hD:D.length<=64)(hj:∀r∈C,D.length<=r.length)(hx:∀r∈C,∀x∈r,cQ s.v x)(hy:∀x∈H,cQ s.v x)
  (hv:s.v+D.length*(2*C.length)<=100000) (ha:s.a.length+D.length*(2*C.length)+D.length<=100000) :
  ∃(t:Mk),uF (C,(D,(((D.length:Nat):Int),((0:Int),cF i l o b c m s (H,())))))=some (dw i l o b c m t)/\Ja s t H C D D.length:=by
 have key:∃q,uF (C,(D,(((D.length:Nat):Int),((0:Int),cF i l o b c m s (H,())))))=some q/\∃(t:Mk),q=dw i l o b c m t/\Ja s t H C D D.length:=by
  unfold uF;delta ot;refine oD D.length (fun k d=>∃(t:Mk),d=(C,(D,(((D.length:Nat):Int),((k:Int),cF i l o b c m t (H,())))))/\Ja s t H C D k) ?_ ?_
   ⟨s,rfl,(Sp.refl s).more (dq _),fun j h=>absurd h (Nat.not_lt_zero j),fun j h=>absurd h (Nat.not_lt_zero j)⟩ (bL (by omega))
  .rintro k d hk ⟨t,rfl,A⟩;have lo:=A.sp.lo;have hi:=A.sp.hi;have htk:(D.take k).length=k:=by rw[dx];omega
   have hlen:t.a.length<=s.a.length+k+k*(2*C.length):=by have:=A.sp.len;rw[htk]at this;exact this
   have hkl:k*(2*C.length)+2*C.length<=D.length*(2*C.length):=by have:=Nat.mul_le_mul_right (2*C.length) (show k+1<=D.length from hk);rw[Nat.succ_mul k]at this;exact this
   obtain⟨t1,z,e1,B⟩:=aiu i l o b c m (s:=t) C H k (li D k) D ((D.length:Nat):Int) hC hH (fun r h=>by have:=hj r h;omega) (fun r h x h2=>(hx r h x h2).up lo) (fun x h=>(hy x h).up lo) (by omega) (by omega);have g:gt (.int .i64) D (k:Int)=li D k:=sE hk;have e1':rS (C,((k:Int),(gt (.int .i64) D (k:Int),((0:Int),(D,(((D.length:Nat):Int),((k:Int),(C,(((C.length:Nat):Int),((0:Int),cF i l o b c m t (H,())))))))))))=some (C,(li D k,(z,(D,(((D.length:Nat):Int),((k:Int),cF i l o b c m t1 (H,()))))))):=by rw[g];exact e1
   have hl1:t1.a.length<=t.a.length+2*C.length:=by simpa using B.sp.len
   have e2:=U4 i l o b c m (s:=t1) (by omega) (li D k) z z;have i1:av (k:Int) (List.length D)=true:=aK ⟨by omega,by omega⟩;have ek:∀u w:Int,u=w->(some (.inl (C,(D,(((D.length:Nat):Int),(u,cF i l o b c m ⟨t1.v,t1.a++[⟨li D k,z,z⟩]⟩ (H,())))))):Option (TL yK.σs⊕Out yG))=some (.inl (C,(D,(((D.length:Nat):Int),(w,cF i l o b c m ⟨t1.v,t1.a++[⟨li D k,z,z⟩]⟩ (H,())))))):=by rintro _ _ rfl;rfl
   have S2:Sp t1 ⟨t1.v,t1.a++[⟨li D k,z,z⟩]⟩ 0 [li D k]:=by
    refine⟨aS _,aS _,[⟨li D k,z,z⟩],rfl,?_,?_⟩
    .show[li D k].Perm ([li D k]++fr t1.v t1.v);rw[I5];exact List.Perm.refl _
    .intro x hx;obtain rfl:=List.mem_singleton.1 hx;exact⟨⟨B.ok,B.ok⟩,.inl (List.mem_singleton.2 rfl)⟩
   refine⟨_,ax (ar (show(k:Int)<((D.length:Nat):Int) by omega)) (ak i1 (ah e1' (ah e2 (ek _ _ (bR (show(k:Int)+1=((k+1:Nat):Int) by omega) (by omega)))))),⟨t1.v,t1.a++[⟨li D k,z,z⟩]⟩,rfl,?_,?_,?_⟩
   .have:=(A.sp.trans B.sp).trans S2;rw[dB,<-Pl.dy (pw hk).1]at this;exact this.more (by rw[Nat.succ_mul k];omega)
   .intro j h val hs;have s1:=S2.sat hs;by_cases q:j<k
    .exact A.val j q val (B.sp.sat s1)
    .obtain rfl:j=k:=by omega
     have:=hs ⟨li D j,z,z⟩ (List.mem_append_right _ (List.mem_singleton.2 rfl));have this:val (li D j)=(aZ val z&&aZ val z):=this;rw[this,Bool.and_self];exact B.val val s1
   .intro j h G hc hg;have c1:=S2.dO hc;by_cases q:j<k
    .exact A.dO j q G (B.sp.dO c1) hg
    .obtain rfl:j=k:=by omega
     have gz:=B.dO G c1 hg;exact hc ⟨li D j,z,z⟩ (List.mem_append_right _ (List.mem_singleton.2 rfl)) gz gz
  .rintro d ⟨t,rfl,A⟩;exact⟨_,ag (au (show ¬((D.length:Nat):Int)<((D.length:Nat):Int) by omega)) rfl,t,rfl,A⟩
 obtain⟨q,e,t,rfl,A⟩:=key;exact⟨t,e,A⟩
end
theorem agW{A:Nat}(h:2^A<=64):A<=6:=by
 rcases de 6 A with q|q
 .have:=Nat.pow_le_pow_right (n:=2) (by omega) (show 7<=A from q);omega
 .exact q
theorem Small.Q5{m:aV}(h:Small m):m.addr.toNat<=6:=agW h.jw
structure ph(M:aV)(v:Nat)(C:List (List Int)):Prop where
 len:C.length=2^M.addr.toNat
 row:∀r∈C,r.length=M.word.toNat
 ok:∀r∈C,∀x∈r,cQ v x
theorem ph.up{M:aV}{v w:Nat}{C:List (List Int)}(h:ph M v C)(hw:v<=w):ph M w C:=⟨h.len,h.row,fun r h1 x h2=>(h.ok r h1 x h2).up hw⟩
structure ahm(s t:Mk)(M:aV)(r:jb)(C:List (List Int)):Prop where
 sp:Sp s t (10*(2^M.addr.toNat*M.word.toNat)) (bU r.var M.word.toNat)
 val:∀val,Sat val t.a->∀j:Nat,j<M.word.toNat->val (r.var+(j:Int))=aZ val (lg C (cd (r.addr.map (aZ val))) j)
 dO:∀G,k8 G t.a->(∀x∈r.addr,GL G x)->(∀row∈C,∀x∈row,GL G x)->∀j:Nat,j<M.word.toNat->G (r.var+(j:Int))
theorem UB(v:Int)(W:Nat){j:Nat}(h:j<W):li (bU v W) j=v+(j:Int):=by unfold li bU;rw[bM,bT,List.getElem?_range h];rfl
section
variable(i:List Int)(l:List ae.T)(o b c:List Int)(m:List ab.T){s:Mk}
theorem afH{M:aV}{p:Nat}{r:jb}(hr:M.reads[p]?=some r)(hsm:Small M){C:List (List Int)}(K:ph M s.v C)(hal:r.addr.length=M.addr.toNat)(hx:∀x∈r.addr,cQ s.v x)
  (hvar:-1099511627776<=r.var/\r.var<=1099511627776) (hv:s.v<=50000) (ha:s.a.length<=50000) :
  ∃t:Mk,RU (M.addr,(M.word,(M.any,(M.reads.map bW,(M.writes.map bH,((p:Int),(C,dw i l o b c m s)))))))=some (dw i l o b c m t)/\ahm s t M r C:=by
 have hcn:=hsm.jw;obtain⟨hsz,hone⟩:=hsm.nat;have h6:=hsm.Q5;have w1:=hsm.w1;have w2:=hsm.w2;obtain⟨A,eA⟩:∃A,A=M.addr.toNat:=⟨_,rfl⟩;obtain⟨W,eW⟩:∃W,W=M.word.toNat:=⟨_,rfl⟩;have hCl:=K.len;rw[<-eA]at hCl hal hcn hsz h6 hone;rw[<-eW]at hsz;have hCA:C.length*r.addr.length<=384:=by rw[hal];exact Nat.mul_le_mul (show C.length<=64 by omega) h6
 have hWC:W*(2*C.length)<=128:=by rw[Nat.mul_left_comm,hCl,Nat.mul_comm W];omega
 obtain⟨t1,H,e1,B1⟩:=aom i l o b c m (s:=s) (p:Int) C r.addr M.addr M.word M.any (M.reads.map bW) (M.writes.map bH) (by omega) (by omega) (by rw[hCl,hal];exact aS _) hx (by omega) (by omega);have lo1:=B1.sp.lo;have hi1:=B1.sp.hi;have hl1:t1.a.length<=s.a.length+C.length*r.addr.length:=by simpa using B1.sp.len
 have hDl:(bU r.var W).length=W:=nZ _ _;obtain⟨t2,e2,B2⟩:=aon i l o b c m (s:=t1) C H (bU r.var W) (by omega) B1.len (by omega) (fun x h=>by rw[hDl,K.row x h,eW];exact aS _) (fun x h y h2=>(K.ok x h y h2).up lo1)
  (fun x h=>by obtain⟨k,hk⟩:=List.getElem?_of_mem h;have hk2:=dz hk;have:=(pw hk2).1;rw[hk]at this;have:=Option.some.inj this;rw[this];exact B1.ok k (by rw[<-B1.len];exact hk2)) (by rw[hDl];omega) (by rw[hDl];omega)
 rw[hDl]at e2 B2;have hrl:=dz hr;have hr':(M.reads.map bW)[p]?=some (bW r):=by rw[bT,hr];rfl
 have g:gt bg (M.reads.map bW) (p:Int)=bW r:=bF (σ:=bg) hr';have aY:av (p:Int) (List.length (M.reads.map bW))=true:=aK ⟨by omega,by rw[aI];omega⟩;have e1':uE ((p:Int),(C,((gt bg (M.reads.map bW) (p:Int)).2.1,(((C.length:Nat):Int),((0:Int),cF i l o b c m s (M.addr,(M.word,(M.any,(M.reads.map bW,(M.writes.map bH,([],())))))))))))=some ((p:Int),(C,cF i l o b c m t1 (M.addr,(M.word,(M.any,(M.reads.map bW,(M.writes.map bH,(H,())))))))):=by rw[g];exact e1
 have e0:xV (af M,((p:Int),()))=some (bU r.var W,()):=by rw[eW];exact J3 M p r hr ⟨by omega,by omega⟩ hvar
 have e2':uF (C,(bU r.var W,((((bU r.var W).length:Nat):Int),((0:Int),cF i l o b c m t1 (H,())))))=some (dw i l o b c m t2):=by rw[hDl];exact e2
 refine⟨t2,?_,?_,?_,?_⟩
 .show GP xV Hm uM mR qq uE uF rS M.addr M.word M.any (M.reads.map bW) (M.writes.map bH) (p:Int) C (s.v:Int) i l o b c m (s.a.map cG)=_;unfold GP;exact ak aY (ah e1' (ah e0 (ah e2' rfl)))
 .have:=B1.sp.trans B2.sp;rw[List.nil_append,fR (by rw[hDl];exact aS _),eW]at this;refine this.more ?_;rw[<-eW,<-eA,hal,hCl];obtain⟨N,eN⟩:∃N,N=2^A:=⟨_,rfl⟩;rw[<-eN];have h1:N*A<=N*8:=Nat.mul_le_mul_left _ (by omega);have h2:N*1<=N*W:=Nat.mul_le_mul_left _ (by omega);have h3:W*(2*N)=2*(N*W):=by rw[Nat.mul_left_comm,Nat.mul_comm W]
  omega
 .intro val hs j hj;have s1:=B2.sp.sat hs;have hj':j<W:=by omega
  have h:=B2.val j hj' val hs;rw[UB _ _ hj']at h;have hw:cd (r.addr.map (aZ val))<C.length:=by have:=pH (r.addr.map (aZ val));rw[aI,hal]at this;omega
  have key:(val (r.var+(j:Int))=true)↔aZ val (lg C (cd (r.addr.map (aZ val))) j)=true:=by
   rw[h];constructor
   .rintro⟨a,q1,q2,q3⟩;rw[B1.val a q1 val s1]at q2;have:=of_decide_eq_true q2;rw[this];exact q3
   .intro q;exact⟨_,hw,by rw[B1.val _ hw val s1];exact bG rfl,q⟩
  cases h1:val (r.var+(j:Int))<;>cases h2:aZ val (lg C (cd (r.addr.map (aZ val))) j)<;>simp_all
 .intro G hc hg hr2 j hj;have hj':j<W:=by omega
  have:=B2.dO j hj' G hc (fun a ha=>⟨B1.dO a ha G (B2.sp.dO hc) hg,?_⟩)
  .rw[UB _ _ hj']at this;exact this
  .have hra:=(AG ha).2;exact hr2 _ hra _ (pw (by rw[K.row _ hra];omega)).2
end
def dC(v n:Nat)(st:Int):List cu:=(List.range n).map fun q:Nat=>⟨((v+1+q:Nat):Int),0,st⟩
def kp(v k:Nat):List Int:=(List.range k).map fun j:Nat=>2*((v+1+j:Nat):Int)
def ia(v W N:Nat):List (List Int):=(List.range N).map fun a:Nat=>kp (v+a*W) W
theorem aeD(v n:Nat)(st:Int):dC v (n+1) st=dC v n st++[⟨((v+1+n:Nat):Int),0,st⟩]:=by unfold dC;rw[List.range_succ,eJ];rfl
theorem aeL(v k:Nat):kp v (k+1)=kp v k++[2*((v+1+k:Nat):Int)]:=by unfold kp;rw[List.range_succ,eJ];rfl
theorem adW(v W k:Nat):ia v W (k+1)=ia v W k++[kp (v+k*W) W]:=by unfold ia;rw[List.range_succ,eJ];rfl
theorem Uj(v k:Nat):(kp v k).length=k:=by simp[kp]
theorem TF(v W k:Nat):(ia v W k).length=k:=by simp[ia]
theorem Ah(v n:Nat)(st:Int):(dC v n st).length=n:=by simp[dC]
theorem TR{v W N a j:Nat}(ha:a<N)(hj:j<W):lg (ia v W N) a j=2*((v+a*W+1+j:Nat):Int):=by unfold lg li ia kp;rw[List.getD_eq_getElem?_getD (l:=(List.range N).map _),bT,List.getElem?_range ha];show((List.range W).map _).getD j 0=_;rw[bM,bT,List.getElem?_range hj];rfl
theorem aes{M:aV}(v:Nat):ph M (v+2^M.addr.toNat*M.word.toNat) (ia v M.word.toNat (2^M.addr.toNat)):=by
 refine⟨TF _ _ _,?_,?_⟩
 .intro r h;obtain⟨a,_,rfl⟩:=List.mem_map.1 h;exact Uj _ _
 .intro r h x hx;obtain⟨a,ha,rfl⟩:=List.mem_map.1 h;obtain⟨j,hj,rfl⟩:=List.mem_map.1 hx;have ha:=List.mem_range.1 ha;have hj:=List.mem_range.1 hj;have:=Nat.mul_le_mul_right M.word.toNat (show a+1<=2^M.addr.toNat from ha);rw[Nat.succ_mul a]at this;refine⟨by omega,?_⟩;rw[show(2:Int)*((v+a*M.word.toNat+1+j:Nat):Int) / 2=((v+a*M.word.toNat+1+j:Nat):Int) by omega];exact Int.ofNat_le.2 (by omega)
section
variable(i o b c:List Int)(l:List cu)(m:List ab.T)(a:List ae.T)
abbrev mL(α:Type)(i o b c:List Int)(m:List ab.T)(a:List ae.T)(v:Nat)(l:List cu)(r:α):Int×List Int×List Int×List Int×List Int×List ab.T×List ae.T×List ae.T×α:=((v:Int),(i,(o,(b,(c,(m,(a,(l.map bf,r))))))))
theorem an6(st:Int)(N q:Int)(v W:Nat)(x0:Int)(x2:Bool)(x3:List bg.T)(x4:List aH.T)(C:List (List Int))(hv:v+W<=90000)(hl:l.length<=90000)(hW:W<=64) :
  yS (st,(N,(q,((W:Int),((0:Int),mL _ i o b c m a v l (x0,((W:Int),(x2,(x3,(x4,(C,([],()))))))))))))
   = some (st,(N,(q,mL _ i o b c m a (v+W) (l++dC v W st) (x0,((W:Int),(x2,(x3,(x4,(C,(kp v W,())))))))))):=by
 unfold yS;delta ku;refine dn (fun k:Nat=>(st,(N,(q,((W:Int),((k:Int),mL _ i o b c m a (v+k) (l++dC v k st) (x0,((W:Int),(x2,(x3,(x4,(C,(kp v k,()))))))))))))) W ?_ ?_ ?_ (bL (by omega))
 .simp only[Nat.add_zero,dC,kp,List.range_zero,List.map_nil,dB];rfl
 .intro k hk;have e1:=TS i ((l++dC v k st).map bf) o b c m (s:=⟨v+k,[]⟩) (by show v+k<=_;omega);have e1':y6 (((v+k:Nat):Int),(i,((l++dC v k st).map bf,(o,(b,(c,(m,(a,()))))))))=some ((2*((v+k+1:Nat):Int)),(((v+k+1:Nat):Int),(i,((l++dC v k st).map bf,(o,(b,(c,(m,(a,()))))))))):=by
   have w:IntKind.wrap .i64 (((v+k:Nat):Int)+1)=((v+k+1:Nat):Int):=cf (x:=((v+k:Nat):Int)+1) (by omega);have e:va (IntKind.wrap .i64 (((v+k:Nat):Int)+1),(false,()))=some (2*((v+k+1:Nat):Int),()):=by rw[w];exact Tf (by omega) (by omega)
   show uL va ((v+k:Nat):Int) i ((l++dC v k st).map bf) o b c m a=_;unfold uL;refine ah e ?_;have kk:∀p q:Int,p=q->(some (2*((v+k+1:Nat):Int),(p,(i,((l++dC v k st).map bf,(o,(b,(c,(m,(a,()))))))))):Option (Out uG))=some (2*((v+k+1:Nat):Int),(q,(i,((l++dC v k st).map bf,(o,(b,(c,(m,(a,()))))))))):=by rintro _ _ rfl;rfl
   exact kk _ _ w
  have e2:oW (2*((v+k+1:Nat):Int),())=some (((v+k+1:Nat):Int),()):=FX (l:=2*((v+k+1:Nat):Int)) (q:=((v+k+1:Nat):Int)) (by omega);have hlk:((l++dC v k st).map bf).length=l.length+k:=by rw[aI,aU,Ah]
  have r1:room 24 (List.length ((l++dC v k st).map bf++[bf ⟨((v+k+1:Nat):Int),0,st⟩]))=true:=Vg (by omega);have r2:room 8 (List.length (kp v k++[2*((v+k+1:Nat):Int)]))=true:=VL (by rw[Uj];omega);have hL:(l++dC v (k+1) st).map bf=(l++dC v k st).map bf++[bf ⟨((v+k+1:Nat):Int),0,st⟩]:=by rw[aeD,<-cz,List.map_append (l₁:=l++dC v k st)];show _++[bf ⟨((v+1+k:Nat):Int),0,st⟩]=_;rw[show v+1+k=v+k+1 by omega]
  have hR:kp v (k+1)=kp v k++[2*((v+k+1:Nat):Int)]:=by rw[aeL,show v+1+k=v+k+1 by omega]
  have e:∀(u w:Int) (A B:List ae.T) (R R':List Int),u=w->A=B->R=R'->(some (.inl (st,(N,(q,((W:Int),(u,(((v+k+1:Nat):Int),(i,(o,(b,(c,(m,(a,(A,(x0,((W:Int),(x2,(x3,(x4,(C,(R,()))))))))))))))))))))):Option (TL yD.σs⊕Out yw))
    = some (.inl (st,(N,(q,((W:Int),(w,(((v+k+1:Nat):Int),(i,(o,(b,(c,(m,(a,(B,(x0,((W:Int),(x2,(x3,(x4,(C,(R',()))))))))))))))))))))):=by rintro _ _ _ _ _ _ rfl rfl rfl;rfl
  exact ax (ar (show(k:Int)<(W:Int) by omega)) (ah e1' (ah e2 (ak r1 (ak r2 (e _ _ _ _ _ _ (bR (show(k:Int)+1=((k+1:Nat):Int) by omega) (by omega)) hL.symm hR.symm)))))
 .exact ag (au (show ¬(W:Int)<(W:Int) by omega)) rfl
theorem an5(st:Int)(N v W:Nat)(x0:Int)(x2:Bool)(x3:List bg.T)(x4:List aH.T)(hv:v<=50000)(hl:l.length<=50000)(hW:W<=64)(hN:N<=64) :
  yR (st,((N:Int),((0:Int),mL _ i o b c m a v l (x0,((W:Int),(x2,(x3,(x4,([],())))))))))=some (mL _ i o b c m a (v+N*W) (l++dC v (N*W) st) (ia v W N,())):=by
 have hNW:N*W<=4096:=Nat.mul_le_mul hN hW;unfold yR;delta ka;refine dn (fun k:Nat=>(st,((N:Int),((k:Int),mL _ i o b c m a (v+k*W) (l++dC v (k*W) st) (x0,((W:Int),(x2,(x3,(x4,(ia v W k,())))))))))) N ?_ ?_ ?_ (bL (by omega))
 .simp only[Nat.zero_mul,Nat.add_zero,dC,ia,List.range_zero,List.map_nil,dB];rfl
 .intro k hk;have hkW:k*W+W<=N*W:=by have:=Nat.mul_le_mul_right W (show k+1<=N from hk);rw[Nat.succ_mul k]at this;exact this
  have e8:=an6 i o b c (l++dC v (k*W) st) m a st (N:Int) (k:Int) (v+k*W) W x0 x2 x3 x4 (ia v W k) (by omega) (by rw[aU,Ah];omega) hW;have r1:room 24 (List.length (ia v W k++[kp (v+k*W) W]))=true:=qd (a:=24) (L:=ia v W k) (x:=kp (v+k*W) W) (by rw[TF];omega) (by omega);have hlat:∀(L1 L2:List cu) (n:Nat),n=k*W->L1=dC v n st->L2=dC (v+n) W st->L1++L2=dC v (n+W) st:=by rintro _ _ n _ rfl rfl;unfold dC;rw[List.range_add,eJ,List.map_map];congr 1;apply List.map_congr_left;intro j _;simp only[Function.comp];rw[show v+n+1+j=v+1+(n+j) by omega]
  have hL:l++dC v (k*W) st++dC (v+k*W) W st=l++dC v ((k+1)*W) st:=by rw[cz,hlat _ _ (k*W) rfl rfl rfl,Nat.succ_mul k]
  have hV:v+k*W+W=v+(k+1)*W:=by rw[Nat.succ_mul k];omega
  have e:∀(u w:Int) (p p':Nat) (A B:List cu) (R R':List (List Int)),u=w->p=p'->A=B->R=R'->(some (.inl (st,((N:Int),(u,mL _ i o b c m a p A (x0,((W:Int),(x2,(x3,(x4,(R,())))))))))):Option (TL yC.σs⊕Out yv))
    = some (.inl (st,((N:Int),(w,mL _ i o b c m a p' B (x0,((W:Int),(x2,(x3,(x4,(R',())))))))))):=by rintro _ _ _ _ _ _ _ _ rfl rfl rfl rfl;rfl
  exact ax (ar (show(k:Int)<(N:Int) by omega)) (ah e8 (ak r1 (e _ _ _ _ _ _ _ _ (bR (show(k:Int)+1=((k+1:Nat):Int) by omega) (by omega)) hV hL (adW v W k).symm)))
 .exact ag (au (show ¬(N:Int)<(N:Int) by omega)) rfl
theorem aeF{M:aV}(hsm:Small M){s:Mk}(hv:s.v<=50000)(hl:l.length<=50000) :
  Gy (M.addr,(M.word,(M.any,(M.reads.map bW,(M.writes.map bH,dw i (l.map bf) o b c m s)))))
   = some (ia s.v M.word.toNat (2^M.addr.toNat),mL _ i o b c m (s.a.map cG) (s.v+2^M.addr.toNat*M.word.toNat) (l++dC s.v (2^M.addr.toNat*M.word.toNat) (if M.any then 2 else 0)) ()):=by
 have hcn:=hsm.jw;have w1:=hsm.w1;have w2:=hsm.w2;have a1:=hsm.a1;have eW:M.word=((M.word.toNat:Nat):Int):=by omega
 have hN:IntKind.wrap .i64 ((1:Int)*(HPow.hPow (2:Int) (Min.min (Int.toNat M.addr) 64)))=((2^M.addr.toNat:Nat):Int):=by
  have h6:=hsm.Q5;rw[Nat.min_eq_left (by omega),Int.one_mul];have:(2:Int)^M.addr.toNat=((2^M.addr.toNat:Nat):Int):=by push_cast;rfl
  rw[this];exact(show ∀N:Nat,N<=64->IntKind.wrap .i64 (N:Int)=(N:Int)from fun N h=>cf (by omega)) _ hcn
 have e5:∀st:Int,yR (st,(IntKind.wrap .i64 ((1:Int)*(HPow.hPow (2:Int) (Min.min (Int.toNat M.addr) 64))),((0:Int),mL _ i o b c m (s.a.map cG) s.v l (M.addr,(M.word,(M.any,(M.reads.map bW,(M.writes.map bH,([],())))))))))
   = some (mL _ i o b c m (s.a.map cG) (s.v+2^M.addr.toNat*M.word.toNat) (l++dC s.v (2^M.addr.toNat*M.word.toNat) st) (ia s.v M.word.toNat (2^M.addr.toNat),())):=by
  intro st;rw[hN];have:=an5 i o b c l m (s.a.map cG) st (2^M.addr.toNat) s.v M.word.toNat M.addr M.any (M.reads.map bW) (M.writes.map bH) hv hl (by omega) hcn;rw[<-eW]at this;exact this
 have hc:iE (0:Int) M.addr=true:=ar (show(0:Int)<=M.addr by omega);show GG oW y6 yR yS M.addr M.word M.any (M.reads.map bW) (M.writes.map bH) (s.v:Int) i (l.map bf) o b c m (s.a.map cG)=_;unfold GG;cases hany:M.any
 .have:=e5 0;rw[hany]at this;exact ag rfl (ak hc (ah this rfl))
 .have:=e5 2;rw[hany]at this;exact ax rfl (ak hc (ah this rfl))
end
theorem U2{L:List Int}{k j:Nat}{x:Int}(h:k<L.length):li (L.set k x) j=if j=k then x else li L j:=by
 unfold li;rw[bM,bM,List.getElem?_set];by_cases e:k=j
 .subst e;rw[if_pos rfl,if_pos h,if_pos rfl];rfl
 .rw[if_neg e,if_neg (fun q=>e q.symm)]
def qo(val:Int->Bool)(ws:List iw)(a j:Nat)(b:Bool):Bool:=ws.foldl (fun x w=>if aZ val w.on=true/\cd (w.addr.map (aZ val))=a then aZ val (li w.data j)else x) b
theorem af7(val:Int->Bool)(ws:List iw)(w:iw)(a j:Nat)(b:Bool):qo val (ws++[w]) a j b=if aZ val w.on=true/\cd (w.addr.map (aZ val))=a then aZ val (li w.data j)else qo val ws a j b:=by unfold qo;rw[List.foldl_append];rfl
structure JN(s t:Mk)(on:Int)(data nx nx':List Int)(k:Nat):Prop where
 sp:Sp s t (3*k) []
 len:nx'.length=nx.length
 ok:∀j,j<nx.length->cQ t.v (li nx' j)
 val:∀val,Sat val t.a->∀j,j<nx.length->aZ val (li nx' j)=(if j<k/\aZ val on=true then aZ val (li data j)else aZ val (li nx j))
structure JO(s t:Mk)(ws:List iw)(a:Nat)(nx nx':List Int)(A W q:Nat):Prop where
 sp:Sp s t (q*(A+1+3*W)) []
 len:nx'.length=W
 ok:∀j,j<W->cQ t.v (li nx' j)
 val:∀val,Sat val t.a->∀j,j<W->aZ val (li nx' j)=qo val (ws.take q) a j (aZ val (li nx j))
structure qI(v A W:Nat)(ws:List iw):Prop where
 ad:∀w∈ws,w.addr.length=A
 da:∀w∈ws,w.data.length=W
 on:∀w∈ws,cQ v w.on
 la:∀w∈ws,∀x∈w.addr,cQ v x
 ld:∀w∈ws,∀x∈w.data,cQ v x
def lz:cu:=⟨0,0,0⟩
def la(L:List cu)(p:Nat):cu:=L.getD p lz
def iU(L:List cu)(base:Nat)(nx:List Int):Nat->List cu
 |0=>L|k+1=>(iU L base nx k).set (base+k) ⟨(la (iU L base nx k) (base+k)).var,li nx k,(la (iU L base nx k) (base+k)).init⟩
theorem Ap(L:List cu)(base:Nat)(nx:List Int):∀k,(iU L base nx k).length=L.length
 |0=>rfl|k+1=>by rw[iU,List.length_set,Ap L base nx k]
theorem ahx{L:List cu}{k j:Nat}{x:cu}(h:k<L.length):la (L.set k x) j=if j=k then x else la L j:=by
 unfold la;rw[bM,bM,List.getElem?_set];by_cases e:k=j
 .subst e;rw[if_pos rfl,if_pos h,if_pos rfl];rfl
 .rw[if_neg e,if_neg (fun q=>e q.symm)]
theorem aio{L:List cu}{p:Nat}(h:p<L.length):gt ae (L.map bf) (p:Int)=bf (la L p):=by
 have e:=aN h;have:la L p=L[p]:=by unfold la;rw[bM,e];rfl
 exact bF (σ:=ae) (by rw[bT,e,this];rfl)
theorem UH(L:List cu)(base:Nat)(nx:List Int):∀k,base+k<=L.length->∀p,(la (iU L base nx k) p).var=(la L p).var/\(la (iU L base nx k) p).init=(la L p).init /\
  (la (iU L base nx k) p).next=if base<=p/\p<base+k then li nx (p-base)else(la L p).next
 |0,_,p=>⟨rfl,rfl,by rw[if_neg (by omega)];rfl⟩|k+1,h,p=>by
  have ih:=UH L base nx k (by omega);rw[iU,ahx (by rw[Ap];omega)];by_cases e:p=base+k
  .rw[if_pos e,if_pos (by omega)];subst e;obtain⟨a,b,_⟩:=ih (base+k);exact⟨a,b,by rw[Nat.add_sub_cancel_left]⟩
  .rw[if_neg e];obtain⟨a,b,c⟩:=ih p;refine⟨a,b,c.trans ?_⟩;by_cases q:base<=p/\p<base+k
   .rw[if_pos q,if_pos (by omega)]
   .rw[if_neg q,if_neg (by omega)]
section
variable(i:List Int)(l:List ae.T)(o b c:List Int)(m:List ab.T){s:Mk}
theorem aiI(f a0 on:Int)(C:List (List Int))(n0 a1:Int)(ws:List aH.T)(n1 q x0 x1:Int)(x2:Bool)(x3:List bg.T)(x4:List aH.T)(nx:List Int)(on':Int)(adr data:List Int)
  (hlen:data.length=nx.length) (hn:nx.length<=64) (hon:cQ s.v on) (hd:∀x∈data,cQ s.v x) (hnx:∀j,j<nx.length->cQ s.v (li nx j)) (hv:s.v+3*nx.length<=100000) (ha:s.a.length+3*nx.length<=100000) :
  ∃(t:Mk) (nx':List Int),rR (f,(a0,(on,(C,(n0,(a1,(ws,(n1,(q,(((nx.length:Nat):Int),((0:Int),cF i l o b c m s (x0,(x1,(x2,(x3,(x4,(nx,(on',(adr,(data,()))))))))))))))))))))
   = some (f,(a0,(C,(n0,(a1,(ws,(n1,(q,cF i l o b c m t (x0,(x1,(x2,(x3,(x4,(nx',()))))))))))))))/\JN s t on data nx nx' nx.length:=by
 have key:∃r,rR (f,(a0,(on,(C,(n0,(a1,(ws,(n1,(q,(((nx.length:Nat):Int),((0:Int),cF i l o b c m s (x0,(x1,(x2,(x3,(x4,(nx,(on',(adr,(data,()))))))))))))))))))))=some r /\
   ∃(t:Mk) (nx':List Int),r=(f,(a0,(C,(n0,(a1,(ws,(n1,(q,cF i l o b c m t (x0,(x1,(x2,(x3,(x4,(nx',()))))))))))))))/\JN s t on data nx nx' nx.length:=by
  unfold rR;refine oD nx.length (fun k d=>∃(t:Mk) (nx':List Int),d=(f,(a0,(on,(C,(n0,(a1,(ws,(n1,(q,(((nx.length:Nat):Int),((k:Int),cF i l o b c m t (x0,(x1,(x2,(x3,(x4,(nx',(on',(adr,(data,()))))))))))))))))))))/\JN s t on data nx nx' k) ?_ ?_
   ⟨s,nx,rfl,(Sp.refl s).more (by omega),rfl,hnx,fun val _ j _=>by rw[if_neg (fun q=>by omega)]⟩ (bL (by omega))
  .rintro k d hk ⟨t,nx',rfl,A⟩;have lo:=A.sp.lo;have hi:=A.sp.hi;have hl:t.a.length<=s.a.length+3*k:=by simpa using A.sp.len
   have hk':k<nx'.length:=by rw[A.len];exact hk
   have hkd:k<data.length:=by omega
   have g1:gt (.int .i64) data (k:Int)=li data k:=sE hkd;have g2:gt (.int .i64) nx' (k:Int)=li nx' k:=sE hk';obtain⟨z,t',e1,B⟩:=aef i l o b c m (s:=t) (by omega) (by omega) (hon.up lo) ((hd _ (pw hkd).2).up lo) (A.ok k hk);have e1':uI (on,(gt (.int .i64) data (k:Int),(gt (.int .i64) nx' (k:Int),dw i l o b c m t)))=some (z,dw i l o b c m t'):=by rw[g1,g2];exact e1
   have i1:av (k:Int) (List.length data)=true:=aK ⟨by omega,by omega⟩;have i2:av (k:Int) (List.length nx')=true:=aK ⟨by omega,by omega⟩;have ek:∀u w:Int,u=w->(some (.inl (f,(a0,(on,(C,(n0,(a1,(ws,(n1,(q,(((nx.length:Nat):Int),(u,cF i l o b c m t' (x0,(x1,(x2,(x3,(x4,(nx'.set k z,(on',(adr,(data,()))))))))))))))))))))):Option (TL yy.σs⊕Out yr))
     = some (.inl (f,(a0,(on,(C,(n0,(a1,(ws,(n1,(q,(((nx.length:Nat):Int),(w,cF i l o b c m t' (x0,(x1,(x2,(x3,(x4,(nx'.set k z,(on',(adr,(data,()))))))))))))))))))))):=by rintro _ _ rfl;rfl
   refine⟨_,ax (ar (show(k:Int)<((nx.length:Nat):Int) by omega)) (ak i1 (ak i2 (ah e1' (ak i2 (ak (ar rfl) (ek _ _ (bR (show(k:Int)+1=((k+1:Nat):Int) by omega) (by omega)))))))),t',nx'.set k z,rfl,?_,?_,?_,?_⟩
   .exact(A.sp.trans B.sp).more (by omega)
   .rw[List.length_set,A.len]
   .intro j hj;rw[U2 hk'];split
    .exact B.ok
    .exact(A.ok j hj).up B.sp.lo
   .intro val hs j hj;have s1:=B.sp.sat hs;have h0:=A.val val s1;rw[U2 hk'];by_cases e:j=k
    .rw[if_pos e,B.val val hs,h0 k hk,if_neg (show ¬(k<k/\aZ val on=true)from fun q=>by omega)];subst e;by_cases q:aZ val on=true
     .rw[if_pos q,if_pos ⟨by omega,q⟩]
     .rw[if_neg q,if_neg (fun r=>q r.2)]
    .rw[if_neg e,h0 j hj];by_cases q:j<k/\aZ val on=true
     .rw[if_pos q,if_pos ⟨by omega,q.2⟩]
     .rw[if_neg q,if_neg (fun r=>q ⟨by omega,r.2⟩)]
  .rintro d ⟨t,nx',rfl,A⟩;exact⟨_,ag (au (show ¬((nx.length:Nat):Int)<((nx.length:Nat):Int) by omega)) rfl,t,nx',rfl,A⟩
 obtain⟨r,e,t,nx',rfl,A⟩:=key;exact⟨t,nx',e,A⟩
theorem aow(f:Int)(a:Nat)(C:List (List Int))(n0 a1:Int)(ws:List iw)(x0 x1:Int)(x2:Bool)(x3:List bg.T)(x4:List aH.T)(nx:List Int){A W:Nat}
  (hw:qI s.v A W ws) (hn:nx.length=W) (hW:W<=64) (hA:A<=6) (haA:a<2^A) (hws:ws.length<=100) (hnx:∀x∈nx,cQ s.v x) (hv:s.v+ws.length*(A+1+3*W)<=100000) (ha:s.a.length+ws.length*(A+1+3*W)<=100000) :
  ∃(t:Mk) (nx':List Int),uD (f,((a:Int),(C,(n0,(a1,(ws.map bH,((((ws.map bH).length:Nat):Int),((0:Int),cF i l o b c m s (x0,(x1,(x2,(x3,(x4,(nx,()))))))))))))))
   = some (f,((a:Int),(C,(n0,(a1,cF i l o b c m t (x0,(x1,(x2,(x3,(x4,(nx',())))))))))))/\JO s t ws a nx nx' A W ws.length:=by
 have ha64:a<64:=by have:=Nat.pow_le_pow_right (n:=2) (by omega) hA;have h64:2^6=64:=rfl;omega
 have key:∃r,uD (f,((a:Int),(C,(n0,(a1,(ws.map bH,((((ws.map bH).length:Nat):Int),((0:Int),cF i l o b c m s (x0,(x1,(x2,(x3,(x4,(nx,()))))))))))))))=some r /\
   ∃(t:Mk) (nx':List Int),r=(f,((a:Int),(C,(n0,(a1,cF i l o b c m t (x0,(x1,(x2,(x3,(x4,(nx',())))))))))))/\JO s t ws a nx nx' A W ws.length:=by
  unfold uD;delta pf;refine oD ws.length (fun k d=>∃(t:Mk) (nx':List Int),d=(f,((a:Int),(C,(n0,(a1,(ws.map bH,((((ws.map bH).length:Nat):Int),((k:Int),cF i l o b c m t (x0,(x1,(x2,(x3,(x4,(nx',()))))))))))))))/\JO s t ws a nx nx' A W k) ?_ ?_
   ⟨s,nx,rfl,(Sp.refl s).more (by omega),hn,fun j hj=>hnx _ (pw (by omega)).2,fun val _ j _=>rfl⟩ (bL (by omega))
  .rintro k d hk ⟨t,nx',rfl,P⟩;have lo:=P.sp.lo;have hi:=P.sp.hi;have hl:t.a.length<=s.a.length+k*(A+1+3*W):=by simpa using P.sp.len
   have hkl:k*(A+1+3*W)+(A+1+3*W)<=ws.length*(A+1+3*W):=by have:=Nat.mul_le_mul_right (A+1+3*W) (show k+1<=ws.length from hk);rw[Nat.succ_mul k]at this;exact this
   obtain⟨w,hwk⟩:∃w,ws[k]?=some w:=⟨_,aN hk⟩;have hm:=dc hwk;have g:gt aH (ws.map bH) (k:Int)=bH w:=bF (σ:=aH) (by rw[bT,hwk];rfl);have hwa:=hw.ad w hm;have hwd:=hw.da w hm;have u64:IntKind.wrap .u64 (a:Int)=(a:Int):=mu (by omega);obtain⟨z,t1,e1,B1⟩:=U6 i l o b c m (s:=t) (L:=w.addr) (w:=a) (by omega) (by omega) (fun x h=>(hw.la w hm x h).up lo) (by omega) (by omega);have lo1:=B1.sp.lo;have hi1:=B1.sp.hi;have hl1:t1.a.length<=t.a.length+w.addr.length:=by simpa using B1.sp.len
   obtain⟨y,t2,e2,B2⟩:=si i l o b c m (s:=t1) ⟨by omega,by omega⟩ ((hw.on w hm).up (by omega)) B1.ok;have lo2:=B2.sp.lo;have hi2:=B2.sp.hi;have hl2:t2.a.length<=t1.a.length+1:=by simpa using B2.sp.len
   have hnl:=P.len;obtain⟨t3,nx2,e3,B3⟩:=aiI i l o b c m (s:=t2) f (a:Int) y C n0 a1 (ws.map bH) (((ws.map bH).length:Nat):Int) (k:Int) x0 x1 x2 x3 x4 nx' w.on w.addr w.data (by omega) (by omega) B2.ok (fun x h=>(hw.ld w hm x h).up (by omega)) (fun j hj=>(P.ok j (by omega)).up (by omega)) (by omega) (by omega);have e1':qq ((gt aH (ws.map bH) (k:Int)).2.1,(IntKind.wrap .u64 (a:Int),dw i l o b c m t))=some (z,dw i l o b c m t1):=by rw[g,u64];exact e1
   have e2':mR ((gt aH (ws.map bH) (k:Int)).1,(z,dw i l o b c m t1))=some (y,dw i l o b c m t2):=by rw[g];exact e2
   have e3':rR (f,((a:Int),(y,(C,(n0,(a1,(ws.map bH,((((ws.map bH).length:Nat):Int),((k:Int),(((nx'.length:Nat):Int),((0:Int),cF i l o b c m t2 (x0,(x1,(x2,(x3,(x4,(nx',((gt aH (ws.map bH) (k:Int)).1,((gt aH (ws.map bH) (k:Int)).2.1,((gt aH (ws.map bH) (k:Int)).2.2.1,()))))))))))))))))))))
     = some (f,((a:Int),(C,(n0,(a1,(ws.map bH,((((ws.map bH).length:Nat):Int),((k:Int),cF i l o b c m t3 (x0,(x1,(x2,(x3,(x4,(nx2,())))))))))))))):=by rw[g];exact e3
   have i1:av (k:Int) (List.length (ws.map bH))=true:=aK ⟨by omega,by rw[aI];omega⟩;have ek:∀u v:Int,u=v->(some (.inl (f,((a:Int),(C,(n0,(a1,(ws.map bH,((((ws.map bH).length:Nat):Int),(u,cF i l o b c m t3 (x0,(x1,(x2,(x3,(x4,(nx2,()))))))))))))) )):Option (TL yI.σs⊕Out yB))
     = some (.inl (f,((a:Int),(C,(n0,(a1,(ws.map bH,((((ws.map bH).length:Nat):Int),(v,cF i l o b c m t3 (x0,(x1,(x2,(x3,(x4,(nx2,()))))))))))))) )):=by rintro _ _ rfl;rfl
   refine⟨_,ax (ar (show(k:Int)<(((ws.map bH).length:Nat):Int) by rw[aI];omega)) (ak i1 (ah e1' (ak (ar rfl) (ah e2' (ah e3' (ek _ _ (bR (show(k:Int)+1=((k+1:Nat):Int) by omega) (by omega)))))))),t3,nx2,rfl,?_,?_,?_,?_⟩
   .refine(((P.sp.trans B1.sp).trans B2.sp).trans B3.sp).more ?_;rw[Nat.succ_mul k,hwa,hnl];omega
   .rw[B3.len,hnl]
   .intro j hj;exact B3.ok j (by omega)
   .intro val hs j hj;have s2:=B3.sp.sat hs;have s1:=B2.sp.sat s2;have s0:=B1.sp.sat s1;rw[Pl.dy hwk,af7,B3.val val hs j (by omega),P.val val s0 j hj,B2.val val s2];rw[B1.word (by rw[hwa];exact haA) val s1];by_cases q:aZ val w.on=true/\cd (w.addr.map (aZ val))=a
    .rw[if_pos q,if_pos ⟨by omega,by rw[q.1,bG q.2];rfl⟩]
    .rw[if_neg q,if_neg];rintro⟨_,h⟩;rw[Bool.and_eq_true]at h;exact q ⟨h.1,of_decide_eq_true h.2⟩
  .rintro d ⟨t,nx',rfl,P⟩;exact⟨_,ag (au (show ¬(ws.length:Int)<(((ws.map bH).length:Nat):Int) by rw[aI];omega)) rfl,t,nx',rfl,P⟩
 obtain⟨r,e,t,nx',rfl,P⟩:=key;exact⟨t,nx',e,P⟩
end
section
variable(i o b c:List Int)(m:List ab.T)(s:Mk)
theorem aiJ(L:List cu)(f a:Nat)(C:List (List Int))(n0 a1 x0:Int)(x2:Bool)(x3:List bg.T)(x4:List aH.T)(nx:List Int){W:Nat}(hn:nx.length=W)(hW:W<=64)(ha:a<=64)(hf:f<=100000)(hL:f+a*W+W<=L.length)(hl:L.length<=1000000) :
  yM ((f:Int),((a:Int),(C,(n0,(a1,(((nx.length:Nat):Int),((0:Int),cF i (L.map bf) o b c m s (x0,((W:Int),(x2,(x3,(x4,(nx,())))))))))))))
   = some ((f:Int),(C,(n0,(a1,cF i ((iU L (f+a*W) nx W).map bf) o b c m s (x0,((W:Int),(x2,(x3,(x4,()))))))))):=by
 have haW:a*W<=4096:=Nat.mul_le_mul ha hW;unfold yM;delta uB;refine dn (fun k:Nat=>((f:Int),((a:Int),(C,(n0,(a1,(((nx.length:Nat):Int),((k:Int),cF i ((iU L (f+a*W) nx k).map bf) o b c m s (x0,((W:Int),(x2,(x3,(x4,(nx,())))))))))))))) W rfl ?_ ?_ (bL (by omega))
 .intro k hk;have hidx:IntKind.wrap .i64 ((IntKind.wrap .i64 ((f:Int)+(IntKind.wrap .i64 ((a:Int)*(W:Int)))))+(k:Int))=((f+a*W+k:Nat):Int):=by
   have w1:IntKind.wrap .i64 ((a:Int)*(W:Int))=((a*W:Nat):Int):=by rw[<-Int.natCast_mul];exact cf (by omega)
   rw[w1];have w2:IntKind.wrap .i64 ((f:Int)+((a*W:Nat):Int))=((f+a*W:Nat):Int):=by rw[<-Int.natCast_add];exact cf (by omega)
   rw[w2,<-Int.natCast_add];exact cf (by omega)
  have hlen:=Ap L (f+a*W) nx k;have aY:f+a*W+k<(iU L (f+a*W) nx k).length:=by rw[hlen];omega
  have g1:=aio aY;have g2:gt (.int .i64) nx (k:Int)=li nx k:=sE (by omega);have i1:av (k:Int) (List.length nx)=true:=aK ⟨by omega,by omega⟩;have i2:av (IntKind.wrap .i64 ((IntKind.wrap .i64 ((f:Int)+(IntKind.wrap .i64 ((a:Int)*(W:Int)))))+(k:Int))) (List.length ((iU L (f+a*W) nx k).map bf))=true:=by rw[hidx];exact aK ⟨by omega,by rw[aI];exact Int.ofNat_lt.2 aY⟩
  have hset:(iU L (f+a*W) nx (k+1)).map bf=List.set ((iU L (f+a*W) nx k).map bf) (f+a*W+k) ((la (iU L (f+a*W) nx k) (f+a*W+k)).var,(li nx k,((la (iU L (f+a*W) nx k) (f+a*W+k)).init,()))):=by show((iU L (f+a*W) nx k).set (f+a*W+k) _).map bf=_;rw[List.map_set];rfl
  have e:∀(A B:List ae.T) (u w:Int),A=B->u=w->(some (.inl ((f:Int),((a:Int),(C,(n0,(a1,(((nx.length:Nat):Int),(u,cF i A o b c m s (x0,((W:Int),(x2,(x3,(x4,(nx,()))))))))))))) ):Option (TL yz.σs⊕Out yu))
    = some (.inl ((f:Int),((a:Int),(C,(n0,(a1,(((nx.length:Nat):Int),(w,cF i B o b c m s (x0,((W:Int),(x2,(x3,(x4,(nx,()))))))))))))) ):=by rintro _ _ _ _ rfl rfl;rfl
  refine ax (ar (show(k:Int)<((nx.length:Nat):Int) by omega)) (ak i1 (ak i2 (e _ _ _ _ ?_ (bR (show(k:Int)+1=((k+1:Nat):Int) by omega) (by omega)))));rw[hset,hidx,g1,g2,eD];rfl
 .exact ag (au (show ¬(W:Int)<((nx.length:Nat):Int) by omega)) rfl
end
structure vK(s t:Mk)(ws:List iw)(C:List (List Int))(L L':List cu)(f A W k:Nat):Prop where
 sp:Sp s t (k*(ws.length*(A+1+3*W))) []
 len:L'.length=L.length
 vi:∀p,(la L' p).var=(la L p).var/\(la L' p).init=(la L p).init
 out:∀p,p<f\/f+k*W<=p->(la L' p).next=(la L p).next
 uz:∀a,a<k->∀j,j<W->cQ t.v (la L' (f+a*W+j)).next/\∀val,Sat val t.a->aZ val (la L' (f+a*W+j)).next=qo val ws a j (aZ val (lg C a j))
section
variable(i o b c:List Int)(m:List ab.T){s:Mk}
theorem aov(L:List cu)(f:Nat)(C:List (List Int))(x0:Int)(x2:Bool)(x3:List bg.T)(ws:List iw){A W:Nat}(hw:qI s.v A W ws)(hCl:C.length=2^A)(hrow:∀r∈C,r.length=W)(hok:∀r∈C,∀x∈r,cQ s.v x)
  (hW:W<=64) (hA:A<=6) (hws:ws.length<=100) (hf:f<=50000) (hL:f+C.length*W<=L.length) (hl:L.length<=1000000)
  (hv:s.v+C.length*(ws.length*(A+1+3*W))<=100000) (ha:s.a.length+C.length*(ws.length*(A+1+3*W))<=100000) :
  ∃(t:Mk) (L':List cu),yV ((f:Int),(C,(((C.length:Nat):Int),((0:Int),cF i (L.map bf) o b c m s (x0,((W:Int),(x2,(x3,(ws.map bH,())))))))))=some (dw i (L'.map bf) o b c m t)/\vK s t ws C L L' f A W C.length:=by
 have hC64:C.length<=64:=by have:=Nat.pow_le_pow_right (n:=2) (by omega) hA;have h64:2^6=64:=rfl;omega
 have key:∃r,yV ((f:Int),(C,(((C.length:Nat):Int),((0:Int),cF i (L.map bf) o b c m s (x0,((W:Int),(x2,(x3,(ws.map bH,())))))))))=some r/\∃(t:Mk) (L':List cu),r=dw i (L'.map bf) o b c m t/\vK s t ws C L L' f A W C.length:=by
  unfold yV;delta ka;refine oD C.length (fun k d=>∃(t:Mk) (L':List cu),d=((f:Int),(C,(((C.length:Nat):Int),((k:Int),cF i (L'.map bf) o b c m t (x0,((W:Int),(x2,(x3,(ws.map bH,())))))))))/\vK s t ws C L L' f A W k) ?_ ?_
   ⟨s,L,rfl,(Sp.refl s).more (by omega),rfl,fun p=>⟨rfl,rfl⟩,fun p _=>rfl,fun a h=>by omega⟩ (bL (by omega))
  .rintro k d hk ⟨t,L',rfl,P⟩;obtain⟨Z,eZ⟩:∃Z,Z=ws.length*(A+1+3*W):=⟨_,rfl⟩;have lo:=P.sp.lo;have hi:=P.sp.hi;have hl':t.a.length<=s.a.length+k*(ws.length*(A+1+3*W)):=by simpa using P.sp.len
   rw[<-eZ]at hi hl' hv ha;have hkl:k*Z+Z<=C.length*Z:=by have:=Nat.mul_le_mul_right Z (show k+1<=C.length from hk);rw[Nat.succ_mul k]at this;exact this
   have hkW:k*W+W<=C.length*W:=by have:=Nat.mul_le_mul_right W (show k+1<=C.length from hk);rw[Nat.succ_mul k]at this;exact this
   have hr:=(AG hk).2;have hrl:=hrow _ hr;obtain⟨t1,nx,e6,B⟩:=aow i (L'.map bf) o b c m (s:=t) (f:Int) k C ((C.length:Nat):Int) (k:Int) ws x0 (W:Int) x2 x3 (ws.map bH) (C.getD k []) (A:=A) (W:=W)
    ⟨hw.ad,hw.da,fun w h=>(hw.on w h).up lo,fun w h x h2=>(hw.la w h x h2).up lo,fun w h x h2=>(hw.ld w h x h2).up lo⟩ hrl hW hA (by rw[<-hCl];exact hk) hws (fun x h=>(hok _ hr x h).up lo) (by rw[<-eZ];omega) (by rw[<-eZ];omega)
   have hPl:=P.len;have e16:=aiJ i o b c m t1 L' f k C ((C.length:Nat):Int) (k:Int) x0 x2 x3 (ws.map bH) nx (W:=W) B.len hW (by omega) (by omega) (by rw[hPl];omega) (by rw[hPl];omega);have ecl:ou (gt (.sl (.int .i64)) C (k:Int),())=some (C.getD k [],()):=by rw[Jj hk];exact ak (show room 8 (List.length ([]++C.getD k []))=true from l9 (by rw[List.nil_append,hrl];omega) (by rw[List.nil_append,hrl];omega)) rfl
   have i1:av (k:Int) (List.length C)=true:=aK ⟨by omega,by omega⟩;have ek:∀u v:Int,u=v->(some (.inl ((f:Int),(C,(((C.length:Nat):Int),(u,cF i ((iU L' (f+k*W) nx W).map bf) o b c m t1 (x0,((W:Int),(x2,(x3,(ws.map bH,()))))))))) ):Option (TL yH.σs⊕Out yA))
     = some (.inl ((f:Int),(C,(((C.length:Nat):Int),(v,cF i ((iU L' (f+k*W) nx W).map bf) o b c m t1 (x0,((W:Int),(x2,(x3,(ws.map bH,()))))))))) ):=by rintro _ _ rfl;rfl
   have hS:=UH L' (f+k*W) nx W (by rw[hPl];omega);refine⟨_,ax (ar (show(k:Int)<((C.length:Nat):Int) by omega)) (ak i1 (ah ecl (ah e6 (ah e16 (ek _ _ (bR (show(k:Int)+1=((k+1:Nat):Int) by omega) (by omega))))))),t1,iU L' (f+k*W) nx W,rfl,?_,?_,?_,?_,?_⟩
   .refine(P.sp.trans B.sp).more ?_;rw[Nat.succ_mul k];exact aS _
   .rw[Ap,hPl]
   .intro p;obtain⟨h1,h2,_⟩:=hS p;obtain⟨h3,h4⟩:=P.vi p;exact⟨h1.trans h3,h2.trans h4⟩
   .intro p hp;obtain⟨_,_,h3⟩:=hS p;rw[Nat.succ_mul k]at hp;rw[h3,if_neg (by omega),P.out p (by omega)]
   .intro a ha2 j hj;by_cases q:a<k
    .have haW:a*W+W<=k*W:=by have:=Nat.mul_le_mul_right W (show a+1<=k from q);rw[Nat.succ_mul a]at this;exact this
     obtain⟨h1,h2⟩:=P.uz a q j hj;have h3:=(hS (f+a*W+j)).2.2;rw[if_neg (by omega)]at h3;rw[h3];exact⟨h1.up B.sp.lo,fun val hs=>h2 val (B.sp.sat hs)⟩
    .obtain rfl:a=k:=by omega
     have h3:=(hS (f+a*W+j)).2.2;rw[if_pos (by omega),show f+a*W+j-(f+a*W)=j by omega]at h3;rw[h3];refine⟨B.ok j hj,fun val hs=>?_⟩;have:=B.val val hs j hj;rw[dS]at this;exact this
  .rintro d ⟨t,L',rfl,P⟩;exact⟨_,ag (au (show ¬((C.length:Nat):Int)<((C.length:Nat):Int) by omega)) rfl,t,L',rfl,P⟩
 obtain⟨r,e,t,L',rfl,P⟩:=key;exact⟨t,L',e,P⟩
theorem aeG{M:aV}(hsm:Small M)(L:List cu)(f:Nat){C:List (List Int)}(K:ph M s.v C)(hw:qI s.v M.addr.toNat M.word.toNat M.writes)(hws:M.writes.length<=4)(hf:f<=50000)(hL:f+2^M.addr.toNat*M.word.toNat<=L.length)(hl:L.length<=1000000)(hv:s.v<=50000)(ha:s.a.length<=50000) :
  ∃(t:Mk) (L':List cu),GC (M.addr,(M.word,(M.any,(M.reads.map bW,(M.writes.map bH,(C,((f:Int),dw i (L.map bf) o b c m s)))))))=some (dw i (L'.map bf) o b c m t) /\
   vK s t M.writes C L L' f M.addr.toNat M.word.toNat (2^M.addr.toNat)/\Sp s t (10*(2^M.addr.toNat*M.word.toNat)*M.writes.length) []:=by
 obtain⟨hsz,hone⟩:=hsm.nat;have h6:=hsm.Q5;have w1:=hsm.w1;have w2:=hsm.w2;have hCl:=K.len;obtain⟨N,eN⟩:∃N,N=2^M.addr.toNat:=⟨_,rfl⟩;obtain⟨W,eW⟩:∃W,W=M.word.toNat:=⟨_,rfl⟩;have eWi:M.word=(W:Int):=by omega
 have hbig:C.length*(M.writes.length*(M.addr.toNat+1+3*M.word.toNat))<=10*(2^M.addr.toNat*M.word.toNat)*M.writes.length:=by
  rw[hCl,<-eN,<-eW];have h1:M.addr.toNat+1+3*W<=10*W:=by omega
  calc N*(M.writes.length*(M.addr.toNat+1+3*W))<=N*(M.writes.length*(10*W)):=Nat.mul_le_mul_left _ (Nat.mul_le_mul_left _ h1)
   _=10*(N*W)*M.writes.length:=by rw[Nat.mul_comm M.writes.length,<-Nat.mul_assoc,Nat.mul_left_comm N 10 W]
 have hbig2:10*(2^M.addr.toNat*M.word.toNat)*M.writes.length<=2560:=by have:=Nat.mul_le_mul (show 10*(2^M.addr.toNat*M.word.toNat)<=640 by omega) hws;omega
 obtain⟨t,L',e,P⟩:=aov i o b c m (s:=s) L f C M.addr M.any (M.reads.map bW) M.writes (A:=M.addr.toNat) (W:=M.word.toNat) hw hCl K.row K.ok (by omega) h6 (by omega) hf (by rw[hCl];exact hL) hl (by omega) (by omega);rw[show((M.word.toNat:Nat):Int)=M.word by omega]at e;refine⟨t,L',?_,by rw[<-hCl];exact P,P.sp.more hbig⟩;show GM uI mR qq ou yV uD rR yM M.addr M.word M.any (M.reads.map bW) (M.writes.map bH) C (f:Int) (s.v:Int) i (L.map bf) o b c m (s.a.map cG)=_;unfold GM;exact ah e rfl
end
structure Bb(s t:Mk)(M:aV)(C:List (List Int))(k:Nat):Prop where
 sp:Sp s t (10*(2^M.addr.toNat*M.word.toNat)*k) ((M.reads.take k).flatMap fun r=>bU r.var M.word.toNat)
 val:∀val,Sat val t.a->∀(p:Nat) (r:jb),p<k->M.reads[p]?=some r->∀j:Nat,j<M.word.toNat->val (r.var+(j:Int))=aZ val (lg C (cd (r.addr.map (aZ val))) j)
 dO:∀G,k8 G t.a->(∀row∈C,∀x∈row,GL G x)->∀(p:Nat) (r:jb),p<k->M.reads[p]?=some r->(∀x∈r.addr,GL G x)->∀j:Nat,j<M.word.toNat->G (r.var+(j:Int))
structure so(v:Nat)(M:aV):Prop where
 sm:Small M
 rl:M.reads.length<=4
 wl:M.writes.length<=4
 ra:∀r∈M.reads,r.addr.length=M.addr.toNat/\(∀x∈r.addr,cQ v x)/\-1099511627776<=r.var/\r.var<=1099511627776
 ws:qI v M.addr.toNat M.word.toNat M.writes
theorem qI.up{v w A W:Nat}{ws:List iw}(h:qI v A W ws)(k:v<=w):qI w A W ws:=⟨h.ad,h.da,fun x q=>(h.on x q).up k,fun x q y r=>(h.la x q y r).up k,fun x q y r=>(h.ld x q y r).up k⟩
theorem so.up{v w:Nat}{M:aV}(h:so v M)(k:v<=w):so w M:=⟨h.sm,h.rl,h.wl,fun r q=>⟨(h.ra r q).1,fun x y=>((h.ra r q).2.1 x y).up k,(h.ra r q).2.2⟩,h.ws.up k⟩
section
variable(i o b c:List Int)(l:List ae.T)(m:List ab.T){s:Mk}
theorem aij(f:Int)(t55 t56 b00:Int)(ms:List ab.T){M:aV}(K:so s.v M){C:List (List Int)}(hC:ph M s.v C)(hv:s.v<=20000)(ha:s.a.length<=20000) :
  ∃t:Mk,uV (f,(C,(t55,(t56,((((M.reads.map bW).length:Nat):Int),((0:Int),(b00,cF i l o b c m s (M.addr,(M.word,(M.any,(M.reads.map bW,(M.writes.map bH,(ms,())))))))))))))
   = some (f,(C,(t55,(t56,(b00,cF i l o b c m t (M.addr,(M.word,(M.any,(M.reads.map bW,(M.writes.map bH,(ms,())))))))))))/\Bb s t M C M.reads.length:=by
 obtain⟨hsz,hone⟩:=K.sm.nat;obtain⟨Z,eZ⟩:∃Z,Z=2^M.addr.toNat*M.word.toNat:=⟨_,rfl⟩;have key:∃q,uV (f,(C,(t55,(t56,((((M.reads.map bW).length:Nat):Int),((0:Int),(b00,cF i l o b c m s (M.addr,(M.word,(M.any,(M.reads.map bW,(M.writes.map bH,(ms,())))))))))))))=some q /\
   ∃t:Mk,q=(f,(C,(t55,(t56,(b00,cF i l o b c m t (M.addr,(M.word,(M.any,(M.reads.map bW,(M.writes.map bH,(ms,())))))))))))/\Bb s t M C M.reads.length:=by
  unfold uV;delta uB;refine oD M.reads.length (fun k d=>∃t:Mk,d=(f,(C,(t55,(t56,((((M.reads.map bW).length:Nat):Int),((k:Int),(b00,cF i l o b c m t (M.addr,(M.word,(M.any,(M.reads.map bW,(M.writes.map bH,(ms,())))))))))))))/\Bb s t M C k) ?_ ?_
   ⟨s,rfl,(Sp.refl s).more (by omega),fun val _ p r h=>by omega,fun G _ _ p r h=>by omega⟩ (bL (by have:=K.rl;omega))
  .rintro k d hk ⟨t,rfl,A⟩;have hrl:=K.rl;have lo:=A.sp.lo;have hi:=A.sp.hi;rw[<-eZ]at hi hsz;have hZk:10*Z*k<=10*64*4:=Nat.mul_le_mul (by omega) (by omega);have hDl:((M.reads.take k).flatMap fun r=>bU r.var M.word.toNat).length<=4*64:=by
    have:∀(L:List jb),(L.flatMap fun r=>bU r.var M.word.toNat).length=L.length*M.word.toNat:=by
     intro L
     induction L with|nil=>simp|cons x L ih=>rw[List.flatMap_cons,aU,ih,nZ,cp,Nat.succ_mul,Nat.add_comm]
    rw[this,dx];exact Nat.mul_le_mul (by omega) (by have:=K.sm.w2;omega)
   have hl:=A.sp.len;rw[<-eZ]at hl;obtain⟨r,hr⟩:∃r,M.reads[k]?=some r:=⟨_,aN hk⟩;obtain⟨r1,r2,r3⟩:=K.ra r (dc hr);obtain⟨t',e,B⟩:=afH i l o b c m (s:=t) hr K.sm (hC.up lo) r1 (fun x h=>(r2 x h).up lo) r3 (by omega) (by omega);have ek:∀u v:Int,u=v->(some (.inl (f,(C,(t55,(t56,((((M.reads.map bW).length:Nat):Int),(u,(b00,cF i l o b c m t' (M.addr,(M.word,(M.any,(M.reads.map bW,(M.writes.map bH,(ms,())))))))))))))):Option (TL zu.σs⊕Out zo))
     = some (.inl (f,(C,(t55,(t56,((((M.reads.map bW).length:Nat):Int),(v,(b00,cF i l o b c m t' (M.addr,(M.word,(M.any,(M.reads.map bW,(M.writes.map bH,(ms,())))))))))))))):=by rintro _ _ rfl;rfl
   refine⟨_,ax (ar (show(k:Int)<(((M.reads.map bW).length:Nat):Int) by rw[aI];omega)) (ah e (ek _ _ (bR (show(k:Int)+1=((k+1:Nat):Int) by omega) (by omega)))),t',rfl,?_,?_,?_⟩
   .have:=A.sp.trans B.sp;rw[Pl.dy hr,List.flatMap_append];simp only[List.flatMap_cons,List.flatMap_nil,dB];exact this.more (by rw[Nat.mul_succ (10*_) k];exact aS _)
   .intro val hs p r' hp hr' j hj;by_cases q:p<k
    .exact A.val val (B.sp.sat hs) p r' q hr' j hj
    .obtain rfl:p=k:=by omega
     rw[hr]at hr';cases hr';exact B.val val hs j hj
   .intro G hc hg p r' hp hr' hx j hj;by_cases q:p<k
    .exact A.dO G (B.sp.dO hc) hg p r' q hr' hx j hj
    .obtain rfl:p=k:=by omega
     rw[hr]at hr';cases hr';exact B.dO G hc hx hg j hj
  .rintro d ⟨t,rfl,A⟩;exact⟨_,ag (au (show ¬(M.reads.length:Int)<(((M.reads.map bW).length:Nat):Int) by rw[aI];omega)) rfl,t,rfl,A⟩
 obtain⟨q,e,t,rfl,A⟩:=key;exact⟨t,e,A⟩
end
def lx(L:List aV):Nat:=L.foldl (fun a m=>a+(cq m+10*cq m*(m.reads.length+m.writes.length))) 0
theorem TG(f:aV->Nat)(L:List aV)(m:aV)(a:Nat):(L++[m]).foldl (fun a m=>a+f m) a=L.foldl (fun a m=>a+f m) a+f m:=by rw[List.foldl_append];rfl
structure lH(n:aB)(V k:Nat)(s:Mk)(L:List cu)(cv:Nat->Nat):Prop where
 lo:V<=s.v
 hi:s.v<=V+lx (n.aa.take k)
 new:∃N:List fw,s.a=n.aC++N/\(L.map (·.var)++N.map (·.var)).Perm (n.aj.map (·.var)++((n.aa.take k).flatMap iJ++fr V s.v)) /\
  ∀x∈N,(cQ s.v x.a/\cQ s.v x.b)/\(x.var∈(n.aa.take k).flatMap iJ\/(x.a / 2<x.var/\x.b / 2<x.var))
 len:L.length=n.aj.length+cj n k
 old:∀p,p<n.aj.length->la L p=la n.aj p
 nx:∀p,p<L.length->cQ s.v (la L p).next
 cell:∀(i:Nat) (M:aV),i<k->n.aa[i]?=some M->V<=cv i/\cv i+cq M<=s.v/\∀q,q<cq M->(la L (n.aj.length+cj n i+q)).var=((cv i+1+q:Nat):Int)/\(la L (n.aj.length+cj n i+q)).init=(if M.any then 2 else 0)
 rd:∀val,Sat val s.a->∀(i:Nat) (M:aV),i<k->n.aa[i]?=some M->∀r∈M.reads,∀j:Nat,j<M.word.toNat->val (r.var+(j:Int))=val ((cv i+1+(cd (r.addr.map (aZ val))*M.word.toNat+j):Nat):Int)
 wr:∀val,Sat val s.a->∀(i:Nat) (M:aV),i<k->n.aa[i]?=some M->∀a,a<2^M.addr.toNat->∀j,j<M.word.toNat->aZ val (la L (n.aj.length+cj n i+(a*M.word.toNat+j))).next=qo val M.writes a j (val ((cv i+1+(a*M.word.toNat+j):Nat):Int))
 dO:∀G,k8 G s.a->(∀(i:Nat) (M:aV),i<k->n.aa[i]?=some M->∀q,q<cq M->G ((cv i+1+q:Nat):Int))->∀(i:Nat) (M:aV),i<k->n.aa[i]?=some M->∀r∈M.reads,(∀x∈r.addr,GL G x)->∀j:Nat,j<M.word.toNat->G (r.var+(j:Int))
theorem T6(val:Int->Bool)(v:Nat):aZ val (2*((v+1:Nat):Int))=val ((v+1:Nat):Int):=by unfold aZ;rw[show 2*((v+1:Nat):Int) / 2=((v+1:Nat):Int) by omega,cw (show ¬2*((v+1:Nat):Int) % 2=1 by omega),bG (show(0:Int)<((v+1:Nat):Int) by omega)];simp
theorem afr{A B:List cu}{p:Nat}(h:p<A.length):la (A++B) p=la A p:=by unfold la;rw[bM,bM,List.getElem?_append_left h]
theorem afs{A B:List cu}{p:Nat}:la (A++B) (A.length+p)=la B p:=by unfold la;rw[bM,bM,List.getElem?_append_right (by omega),Nat.add_sub_cancel_left]
theorem agI{v n:Nat}{st:Int}{q:Nat}(h:q<n):la (dC v n st) q=⟨((v+1+q:Nat):Int),0,st⟩:=by unfold la dC;rw[bM,bT,List.getElem?_range h];rfl
theorem ahw{A B:List cu}(h:A.length=B.length)(hv:∀p,(la A p).var=(la B p).var):A.map (·.var)=B.map (·.var):=by
 apply List.ext_getElem?;intro p;rw[bT,bT];rcases de p A.length with q|q
 .have e1:=aN q;have e2:=aN (show p<B.length by omega);have:=hv p;unfold la at this;rw[bM,bM,e1,e2]at this;rw[e1,e2];exact congrArg some this
 .rw[ep q,ep (by omega)]
theorem aft(v n:Nat)(st:Int):(dC v n st).map (·.var)=fr v (v+n):=by unfold dC fr;rw[List.map_map,Nat.add_sub_cancel_left];rfl
