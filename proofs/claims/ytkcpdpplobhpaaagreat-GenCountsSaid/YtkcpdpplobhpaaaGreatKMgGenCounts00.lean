import Derived.Test.YtkcpdpplobhpaaaGreatKRi
set_option linter.unusedSectionVars false
set_option linter.unusedVariables false
set_option linter.unusedSimpArgs false
set_option linter.unnecessarySimpa false
section
namespace Go.Proofs.YtkcpdpplobhpaaaGreat.V
open Go Go.RowKit Go.Proofs.YtkcpdpplobhpaaaGreat.Pl
set_option maxRecDepth 10000
def lv(ν:Int->Bool)(l:Int):Bool:=Bool.xor (ν (l / 2)) (decide (l % 2=1))
def Cons(ν:Int->Bool)(A:List cM):Prop:=∀a∈A,ν a.var=(lv ν a.a&&lv ν a.b)
theorem Cons.of{ν:Int->Bool}{A B:List cM}(h:Cons ν (A++B)):Cons ν A:=fun a ha=>h a (List.mem_append_left _ ha)
theorem oq{ν:Int->Bool}{v:Nat}{l:Int}(h:bR v l):lv ν (gl l) = !lv ν l:=by
 have h1:=h.1;unfold lv;rw[(mU h).2];have e:decide (gl l % 2=1) = !decide (l % 2=1):=by
  unfold gl;by_cases q:l % 2=0
  .rw[if_pos q,decide_eq_true (by omega),decide_eq_false (by omega)];rfl
  .rw[if_neg q,decide_eq_false (by omega),decide_eq_true (by omega)];rfl
 rw[e];cases ν (l / 2)<;>cases decide (l % 2=1)<;>rfl
theorem qN{ν:Int->Bool}(v:Nat):lv ν (2*(v:Int))=ν (v:Int):=by unfold lv;rw[show 2*(v:Int) / 2=(v:Int) by omega,decide_eq_false (by omega)];cases ν (v:Int)<;>rfl
theorem Xy{ν:Int->Bool}(h:ν 0=false):lv ν 1=true:=by unfold lv;rw[show(1:Int) / 2=0 by decide,h];rfl
theorem DO{α β:Type}{f:α->β}(hf:∀p q,f p=f q->p=q):∀A B:List α,A.map f=B.map f->A=B
 |[],[],_=>rfl|[],_::_,h=>by simp at h|_::_,[],h=>by simp at h|x::A,y::B,h=>by have h:=List.cons.inj h;rw[hf x y h.1,DO hf A B h.2]
section
variable(o b c:List Int)(m:List ab.T){s:Gk}{D:List Int}
theorem sG(h:GI s D){x y:Int}(hx:bR s.v x)(hy:bR s.v y)(hv:s.v<=40000)(ha:s.a.length<=40000) :
  ∃(z:Int) (t:Gk),kJ (x,(y,gT o b c m s))=some (z,gT o b c m t)/\GO s D 1 t/\bR t.v z/\t.l=s.l/\(∃e,t.a=s.a++e)/\∀ν:Int->Bool,Cons ν t.a->lv ν z=(lv ν x&&lv ν y):=by
 obtain⟨z,t,e,G,ok⟩:=al6 o b c m h hx hy hv ha;have e':=Option.some.inj ((QZ o b c m (s:=s) x y (by omega) (by omega)).symm.trans e);have ez:2*((s.v+1:Nat):Int)=z:=congrArg Prod.fst e';have et:gT o b c m ⟨s.v+1,s.i,s.l,s.a++[kz (s.v+1) x y]⟩=gT o b c m t:=congrArg Prod.snd e';have f3:s.l.map aB=t.l.map aB:=congrArg (fun q=>q.2.2.1) et;have f4:(s.a++[kz (s.v+1) x y]).map aY=t.a.map aY:=congrArg (fun q=>q.2.2.2.2.2.2.2.1) et;have il:s.l=t.l:=DO (f:=aB) (fun p q h=>by have h1:p.var=q.var:=congrArg (fun q=>q.1) h;have h2:p.next=q.next:=congrArg (fun q=>q.2.1) h;have h3:p.init=q.init:=congrArg (fun q=>q.2.2.1) h;cases p;cases q;simp_all) _ _ f3;have ia:s.a++[kz (s.v+1) x y]=t.a:=DO (f:=aY) (fun p q h=>by have h1:p.var=q.var:=congrArg (fun q=>q.1) h;have h2:p.a=q.a:=congrArg (fun q=>q.2.1) h;have h3:p.b=q.b:=congrArg (fun q=>q.2.2.1) h;cases p;cases q;simp_all) _ _ f4;refine⟨z,t,e,G,ok,il.symm,⟨_,ia.symm⟩,fun ν hc=>?_⟩;rw[<-ez,qN];exact hc (kz (s.v+1) x y) (by rw[<-ia];exact List.mem_append_right _ (List.mem_singleton.2 rfl))
theorem sor(h:GI s D){x y:Int}(hx:bR s.v x)(hy:bR s.v y)(hv:s.v<=40000)(ha:s.a.length<=40000) :
  ∃(z:Int) (t:Gk),Oe (x,(y,gT o b c m s))=some (z,gT o b c m t)/\GO s D 1 t/\bR t.v z/\t.l=s.l/\(∃e,t.a=s.a++e)/\∀ν:Int->Bool,Cons ν t.a->lv ν z=(lv ν x||lv ν y):=by
 obtain⟨z,t,e,G,ok,hl,he,hs⟩:=sG o b c m h (mU hx).1 (mU hy).1 hv ha;have:=G.hi;refine⟨gl z,t,?_,G,(mU ok).1,hl,he,fun ν hc=>?_⟩
 .show CU vl kJ x y (s.v:Int) s.i (s.l.map aB) o b c m (s.a.map aY)=_;unfold CU;exact af (qD hx (by omega)) (af (qD hy (by omega)) (af e (af (qD ok (by omega)) rfl)))
 .rw[oq ok,hs ν hc,oq hx,oq hy];cases lv ν x<;>cases lv ν y<;>rfl
theorem aeZ(h:GI s D){u x y:Int}(hu:bR s.v u)(hx:bR s.v x)(hy:bR s.v y)(hv:s.v<=39000)(ha:s.a.length<=39000) :
  ∃(z:Int) (t:Gk),Cl (u,(x,(y,gT o b c m s)))=some (z,gT o b c m t)/\GO s D 3 t/\bR t.v z/\t.l=s.l/\(∃e,t.a=s.a++e)/\∀ν:Int->Bool,Cons ν t.a->lv ν z=(if lv ν u then lv ν x else lv ν y):=by
 obtain⟨p,s1,e1,G1,k1,l1,⟨x1,h1⟩,m1⟩:=sG o b c m h hu hx (by omega) (by omega);have a1:=G1.hi;have b1:=G1.len;have c1:=G1.lo;obtain⟨q,s2,e2,G2,k2,l2,⟨x2,h2⟩,m2⟩:=sG o b c m G1.gi ((mU hu).1.up c1) (hy.up c1) (by omega) (by omega);have a2:=G2.hi;have b2:=G2.len;have c2:=G2.lo;obtain⟨z,s3,e3,G3,k3,l3,⟨x3,h3⟩,m3⟩:=sor o b c m G2.gi (k1.up c2) k2 (by omega) (by omega);refine⟨z,s3,?_,(G1.trans G2 (Nat.le_refl _)).trans G3 (Nat.le_refl _),k3,l3.trans (l2.trans l1),⟨x1++x2++x3,by rw[h3,h2,h1];simp⟩,fun ν hc=>?_⟩
 .show CB vl Oe kJ u x y (s.v:Int) s.i (s.l.map aB) o b c m (s.a.map aY)=_;unfold CB;exact af e1 (af (qD hu (by omega)) (af e2 (af e3 rfl)))
 .have c2:Cons ν s2.a:=by rw[h3]at hc;exact hc.of
  have c1:Cons ν s1.a:=by rw[h2]at c2;exact c2.of
  rw[m3 ν hc,m1 ν c1,m2 ν c2,oq hu];cases lv ν u<;>cases lv ν x<;>cases lv ν y<;>rfl
theorem amj(h:GI s D){L:List Int}(hL:∀x∈L,bR s.v x)(hv:s.v+L.length<=40000)(ha:s.a.length+L.length<=40000) :
  ∃(z:Int) (t:Gk),aba (L,gT o b c m s)=some (z,gT o b c m t)/\GO s D L.length t/\bR t.v z/\t.l=s.l/\(∃e,t.a=s.a++e)/\∀ν:Int->Bool,ν 0=false->Cons ν t.a->lv ν z=L.all (lv ν):=by
 have hq:∃q,N9 ((1:Int),(L,((L.length:Int),((0:Int),gT o b c m s))))=some q/\∃(z:Int) (t:Gk),q=(z,gT o b c m t)/\GO s D L.length t/\bR t.v z/\t.l=s.l/\(∃e,t.a=s.a++e)/\∀ν:Int->Bool,ν 0=false->Cons ν t.a->lv ν z=L.all (lv ν):=by
  unfold N9;delta eI;refine Q6 L.length (fun k d=>∃(z:Int) (t:Gk),d=(z,(L,((L.length:Int),((k:Int),gT o b c m t))))/\GO s D k t/\bR t.v z/\t.l=s.l/\(∃e,t.a=s.a++e)/\∀ν:Int->Bool,ν 0=false->Cons ν t.a->lv ν z=(L.take k).all (lv ν)) ?_ ?_
   ⟨1,s,rfl,GO.refl h,⟨by omega,by omega⟩,rfl,⟨[],by simp⟩,fun ν h0 _=>Xy h0⟩ (aW (by omega))
  .rintro k _ hk ⟨z,t,rfl,G,ok,tl,⟨x1,ta⟩,hs⟩;have h1:=G.hi;have h2:=G.len;have h3:=G.lo;obtain⟨z',u,e,G',ok',ul,⟨x2,ua⟩,hs'⟩:=sG o b c m G.gi ok ((hL (L[k]) (List.getElem_mem hk)).up h3) (by omega) (by omega);have eg:gt (.int .i64) L (k:Int)=L[k]:=aS (σ:=.int .i64) (List.getElem?_eq_getElem hk);have e:kJ (z,(gt (.int .i64) L (k:Int),gT o b c m t))=some (z',gT o b c m u):=by rw[eg];exact e
   refine⟨_,av (al (show(k:Int)<(L.length:Int) by omega)) (aj (show ar (k:Int) (List.length L)=true from aA (by omega)) (af e rfl)),z',u,?_,G.trans G' (Nat.le_refl _),ok',ul.trans tl,⟨x1++x2,by rw[ua,ta];simp⟩,fun ν h0 hc=>?_⟩
   .show(z',(L,((L.length:Int),(IntKind.wrap .i64 ((k:Int)+1),gT o b c m u))))=_;rw[aZ (x:=(k:Int)+1) (n:=k+1) (by omega) (by omega)]
   .have ct:Cons ν t.a:=by rw[ua]at hc;exact hc.of
    rw[hs' ν hc,hs ν h0 ct,List.take_succ_eq_append_getElem hk,List.all_append];simp
  .rintro _ ⟨z,t,rfl,G,ok,tl,ta,hs⟩;refine⟨_,ao (aw (show ¬(L.length:Int)<(L.length:Int) by omega)) rfl,z,t,rfl,G,ok,tl,ta,fun ν h0 hc=>?_⟩;have:=hs ν h0 hc;rw[List.take_length]at this;exact this
 obtain⟨_,e,z,t,rfl,G⟩:=hq;exact⟨z,t,af e rfl,G⟩
def nxt(l:List bA)(j:Nat):Int:=((l[j]?).map (·.next)).getD 0
theorem PQ:∀(l:List bA) (k:Nat) (x:Int),k<l.length->nxt (setNx l k x) k=x
 |[],_,_,h=>by simp at h|d::l,0,x,_=>rfl|d::l,k+1,x,h=>PQ l k x (by simpa using h)
theorem PO:∀(l:List bA) (k j:Nat) (x:Int),j≠k->nxt (setNx l k x) j=nxt l j
 |[],_,_,_,_=>rfl|d::l,0,0,x,h=>absurd rfl h|d::l,0,j+1,x,_=>rfl|d::l,k+1,0,x,_=>rfl|d::l,k+1,j+1,x,h=>PO l k j x (fun e=>h (by omega))
theorem Pf:∀(l:List bA) (k:Nat) (x:Int),(setNx l k x).map (·.init)=l.map (·.init)
 |[],_,_=>rfl|d::l,0,x=>rfl|d::l,k+1,x=>congrArg (List.cons d.init) (Pf l k x)
theorem ae0(h:GI s D){L:List Int}(hL:∀x∈L,bR s.v x){f:Nat}{w₀:Int}(hw:bR s.v w₀)(hf:f+L.length<=s.l.length)(hv:s.v+4*L.length<=39000)(ha:s.a.length+4*L.length<=39000)(hl:s.l.length<=40000) :
  ∃t:Gk,aaw ((f:Int),(w₀,((s.v:Int),(s.i,(s.l.map aB,(o,(b,(c,(m,(s.a.map aY,(L,())))))))))))=some ((t.v:Int),(t.i,(t.l.map aB,(o,(b,(c,(m,(L,(t.a.map aY,())))))))))/\GO s D (4*L.length) t/\t.l.map (·.init)=s.l.map (·.init)/\(∃e,t.a=s.a++e) /\
   ∀ν:Int->Bool,Cons ν t.a->∀i,(hi:i<L.length)->lv ν (nxt t.l (f+i))=Bool.xor (lv ν L[i]) (lv ν w₀&&(L.take i).all (lv ν)):=by
 have hq:∃q,ND ((f:Int),(w₀,((L.length:Int),((0:Int),((s.v:Int),(s.i,(s.l.map aB,(o,(b,(c,(m,(L,(s.a.map aY,())))))))))))))=some q/\∃(t:Gk),q=((t.v:Int),(t.i,(t.l.map aB,(o,(b,(c,(m,(L,(t.a.map aY,())))))))))/\GO s D (4*L.length) t/\t.l.map (·.init)=s.l.map (·.init)/\(∃e,t.a=s.a++e) /\
   ∀ν:Int->Bool,Cons ν t.a->∀i,(hi:i<L.length)->lv ν (nxt t.l (f+i))=Bool.xor (lv ν L[i]) (lv ν w₀&&(L.take i).all (lv ν)):=by
  unfold ND;delta fC;refine Q6 L.length (fun k d=>∃(t:Gk) (w:Int),d=((f:Int),(w,((L.length:Int),((k:Int),((t.v:Int),(t.i,(t.l.map aB,(o,(b,(c,(m,(L,(t.a.map aY,())))))))))))))/\GO s D (4*k) t/\bR t.v w/\t.l.map (·.init)=s.l.map (·.init)/\(∃e,t.a=s.a++e) /\
   (∀ν:Int->Bool,Cons ν t.a->lv ν w=(lv ν w₀&&(L.take k).all (lv ν)))/\∀ν:Int->Bool,Cons ν t.a->∀i,(hi:i<L.length)->i<k->lv ν (nxt t.l (f+i))=Bool.xor (lv ν L[i]) (lv ν w₀&&(L.take i).all (lv ν))) ?_ ?_
   ⟨s,w₀,rfl,GO.refl h,hw,rfl,⟨[],by simp⟩,fun ν _=>by simp,fun ν _ i _ hi=>absurd hi (by omega)⟩ (aW (by omega))
  .rintro k _ hk ⟨t,w,rfl,G,ow,ti,⟨x1,ta⟩,hs,hn⟩;have h1:=G.hi;have h2:=G.len;have h3:=G.lo;have kx:=(hL (L[k]) (List.getElem_mem hk)).up h3;have eg:gt (.int .i64) L (k:Int)=L[k]:=aS (σ:=.int .i64) (List.getElem?_eq_getElem hk);obtain⟨z,s1,e1,G1,k1,l1,⟨x2,ha1⟩,m1⟩:=aeZ o b c m G.gi kx (mU ow).1 ow (by omega) (by omega);have a1:=G1.hi;have b1:=G1.len;have c1:=G1.lo;have hlen:s1.l.length=s.l.length:=by have:=congrArg List.length (G1.lav.trans G.lav);simpa using this
   have ew:IntKind.wrap .i64 ((f:Int)+(k:Int))=((f+k:Nat):Int):=aZ (x:=(f:Int)+(k:Int)) (n:=f+k) (by omega) (by omega);obtain⟨G2,es⟩:=al8 (k:=f+k) G1.gi ew (by omega) z k1;obtain⟨w',s3,e3,G3,k3,l3,⟨x3,ha3⟩,m3⟩:=sG o b c m G2.gi (kx.up c1) (ow.up c1) (show s1.v<=40000 by omega) (show s1.a.length<=40000 by omega);have l3:s3.l=setNx s1.l (f+k) z:=l3;have ha3:s3.a=s1.a++x3:=ha3;have e1:Cl (gt (.int .i64) L (k:Int),(gl w,(w,gT o b c m t)))=some (z,gT o b c m s1):=by rw[eg];exact e1
   have e3:kJ (gt (.int .i64) L (k:Int),(w,((s1.v:Int),(s1.i,(List.set (s1.l.map aB) (Int.toNat (IntKind.wrap .i64 ((f:Int)+(k:Int)))) ((gt aa (s1.l.map aB) (IntKind.wrap .i64 ((f:Int)+(k:Int)))).1,(z,((gt aa (s1.l.map aB) (IntKind.wrap .i64 ((f:Int)+(k:Int)))).2.2.1,()))),(o,(b,(c,(m,(s1.a.map aY,()))))))))))=some (w',gT o b c m s3):=by rw[eg,es];exact e3
   have q1:∀a:Int,iQ a a=true:=fun a=>decide_eq_true rfl;have i1:ar (k:Int) (List.length L)=true:=aA (by omega);have i2:ar (IntKind.wrap .i64 ((f:Int)+(k:Int))) (List.length (s1.l.map aB))=true:=by rw[ew];exact aA (by rw[List.length_map];omega)
   refine⟨_,av (al (show(k:Int)<(L.length:Int) by omega)) (aj i1 (af (qD ow (by omega)) (af e1 (aj i2 (aj (q1 _) (aj (q1 _) (aj (q1 _) (af e3 rfl)))))))),s3,w',?_,
    G.trans (G1.trans (G2.trans G3 (Nat.le_refl _)) (Nat.le_refl _)) (by omega),k3,?_,⟨x1++x2++x3,by rw[ha3,ha1,ta];simp⟩,fun ν hc=>?_,fun ν hc i hi hik=>?_⟩
   .show((f:Int),(w',((L.length:Int),(IntKind.wrap .i64 ((k:Int)+1),((s3.v:Int),(s3.i,(s3.l.map aB,(o,(b,(c,(m,(L,(s3.a.map aY,())))))))))))))=_;rw[aZ (x:=(k:Int)+1) (n:=k+1) (by omega) (by omega)]
   .rw[l3,Pf,l1,ti]
   .have cs1:Cons ν s1.a:=by rw[ha3]at hc;exact hc.of
    have ct:Cons ν t.a:=by rw[ha1]at cs1;exact cs1.of
    rw[m3 ν hc,hs ν ct,List.take_succ_eq_append_getElem hk,List.all_append];have e1:[L[k]].all (lv ν)=lv ν L[k]:=by simp
    rw[e1];cases lv ν L[k]<;>cases lv ν w₀<;>cases(L.take k).all (lv ν)<;>rfl
   .have cs1:Cons ν s1.a:=by rw[ha3]at hc;exact hc.of
    have ct:Cons ν t.a:=by rw[ha1]at cs1;exact cs1.of
    rw[l3];by_cases q:i=k
    .subst q;rw[PQ _ _ _ (by omega),m1 ν cs1,oq ow,hs ν ct];cases lv ν L[i]<;>cases lv ν w₀<;>cases(L.take i).all (lv ν)<;>rfl
    .rw[PO _ _ _ _ (by omega),l1];exact hn ν ct i hi (by omega)
  .rintro _ ⟨t,w,rfl,G,ow,ti,ta,hs,hn⟩;exact⟨_,ao (aw (show ¬(L.length:Int)<(L.length:Int) by omega)) rfl,t,rfl,G,ti,ta,fun ν hc i hi=>hn ν hc i hi hi⟩
 obtain⟨_,e,t,rfl,G⟩:=hq;exact⟨t,af e rfl,G⟩
end
structure nc(n:au)(w bad:Nat):Prop where
 ok:Pl.bP n=0
 ins:n.inputs=[]
 mems:n.mems=[]
 cons:n.constraints=[]
 vars:n.latches.map (·.var)=fr 0 w
 init:n.latches.map (·.init)=List.replicate w 0
 next:∀ν:Int->Bool,ν 0=false->Cons ν n.ands->∀i,i<w->lv ν (nxt n.latches i)=Bool.xor (ν ((i+1:Nat):Int)) ((List.range i).all fun j=>ν ((j+1:Nat):Int))
 bads:∃z,n.bads=[z]/\∀ν:Int->Bool,ν 0=false->Cons ν n.ands->lv ν z=(List.range w).all fun j=>decide (ν ((j+1:Nat):Int)=decide (bad / 2^j % 2=1))
def gU(bad k:Nat):List Int:=(List.range k).map fun i=>if bad / 2^i % 2=0 then gl (2*((i+1:Nat):Int))else 2*((i+1:Nat):Int)
theorem vu(bad k:Nat):(gU bad k).length=k:=by simp[gU]
theorem acx(bad k:Nat):gU bad (k+1)=gU bad k++[if bad / 2^k % 2=0 then gl (2*((k+1:Nat):Int))else 2*((k+1:Nat):Int)]:=by unfold gU;rw[List.range_succ,List.map_append];rfl
theorem zh{v j:Nat}(h:j+1<=v):bR v (2*((j+1:Nat):Int)):=⟨by omega,by omega⟩
theorem aec{bad k v:Nat}(h:k<=v):∀x∈gU bad k,bR v x:=by
 intro x hx;obtain⟨j,hj,rfl⟩:=List.mem_map.1 hx;have hj:=List.mem_range.1 hj;split
 .exact(mU (zh (v:=v) (by omega))).1
 .exact zh (by omega)
theorem PT{w k:Nat}(hk:k<(cN 0 w).length):(cN 0 w)[k]=2*((k+1:Nat):Int):=by
 have e:(cN 0 w)[k]?=some (2*((k+1:Nat):Int)):=by
  have hk':k<w:=by rw[j2]at hk;exact hk
  unfold cN;rw[List.getElem?_map,List.getElem?_range hk'];show some (2*((0+1+k:Nat):Int))=_;rw[show 0+1+k=k+1 by omega]
 obtain⟨_,h⟩:=List.getElem?_eq_some_iff.1 e;exact h
theorem acH(v k:Nat)(st:Int):(dz v k st).map (·.init)=List.replicate k st:=by induction k with|zero=>rfl|succ k ih=>rw[Pr,List.map_append,ih,List.replicate_succ'];rfl
theorem acz(o b c:List Int)(m:List ab.T){s:Gk}{w bad:Nat}(h2:w<=20)(hw:w<=s.v)(hv:s.v<=30000)(hb:bad<18446744073709551616) :
  C5 ((bad:Int),((w:Int),((0:Int),((0:Int),((s.v:Int),(s.i,(s.l.map aB,(o,(b,(c,(m,(s.a.map aY,(cN 0 w,())))))))))))))=some ((0:Int),((s.v:Int),(s.i,(s.l.map aB,(o,(b,(c,(m,(s.a.map aY,(gU bad w,())))))))))):=by
 unfold C5;delta fC;refine bN (fun k:Nat=>((bad:Int),((w:Int),((k:Int),((0:Int),((s.v:Int),(s.i,(s.l.map aB,(o,(b,(c,(m,(s.a.map aY,(gU bad k++(cN 0 w).drop k,())))))))))))))) w ?_ ?_ ?_ (aW (by omega))
 .rfl
 .intro k hk;have hk2:k<(cN 0 w).length:=by rw[j2];exact hk
  have ed:(cN 0 w).drop k=2*((k+1:Nat):Int)::(cN 0 w).drop (k+1):=by rw[List.drop_eq_getElem_cons hk2,PT hk2]
  have ex:=al9 o b c m (s:=s) (l:=2*((k+1:Nat):Int)) (X:=gU bad k) (T:=(cN 0 w).drop (k+1)) hk h2 hb (vu ..) (zh (by omega)) hv;rw[<-ed,<-acx]at ex;exact ex
 .have ed:gU bad w++(cN 0 w).drop w=gU bad w:=by rw[List.drop_of_length_le (by rw[j2];omega),List.append_nil]
  refine ao (aw (show ¬(w:Int)<(w:Int) by omega)) ?_;have e:∀A B:List Int,A=B->(some (.inr ((0:Int),((s.v:Int),(s.i,(s.l.map aB,(o,(b,(c,(m,(s.a.map aY,(A,()))))))))))):Option (TL qp.σs⊕Out qn))=some (.inr ((0:Int),((s.v:Int),(s.i,(s.l.map aB,(o,(b,(c,(m,(s.a.map aY,(B,()))))))))))):=by rintro _ _ rfl;rfl
  exact e _ _ ed
theorem adO(ν:Int->Bool)(i:Nat):(cN 0 i).all (lv ν)=(List.range i).all fun j=>ν ((j+1:Nat):Int):=by unfold cN;rw[List.all_map];congr 1;funext j;show lv ν (2*((0+1+j:Nat):Int))=_;rw[qN,show 0+1+j=j+1 by omega]
theorem acO{w i:Nat}(h:i<=w):(cN 0 w).take i=cN 0 i:=by unfold cN;rw[<-List.map_take,List.take_range,Nat.min_eq_left h]
theorem acW(ν:Int->Bool)(bad w:Nat):(gU bad w).all (lv ν)=(List.range w).all fun j=>decide (ν ((j+1:Nat):Int)=decide (bad / 2^j % 2=1)):=by
 unfold gU;rw[List.all_map];congr 1;funext j;show lv ν (if bad / 2^j % 2=0 then gl (2*((j+1:Nat):Int))else 2*((j+1:Nat):Int))=_;by_cases q:bad / 2^j % 2=0
 .rw[if_pos q,oq (zh (v:=j+1) (Nat.le_refl _)),qN,decide_eq_false (p:=bad / 2^j % 2=1) (by omega)];cases ν ((j+1:Nat):Int)<;>rfl
 .rw[if_neg q,qN,decide_eq_true (p:=bad / 2^j % 2=1) (by omega)];cases ν ((j+1:Nat):Int)<;>rfl
theorem ab0{w bad:Nat}(h1:1<=w)(h2:w<=20)(hb:bad<18446744073709551616):∃n:au,aby ((w:Int),((bad:Int),()))=some (aQ n,((0:Int),()))/\nc n w bad:=by
 have e1:aan ((w:Int),((0:Int),((0:Int),([],([],([],([],([],([],([],()))))))))))=some (((0+w:Nat):Int),([],([],([],([],([],([],((dz 0 w 0).map aB,(cN 0 w,()))))))))):=by have e:=adp [] [] [] [] (s:=ZN) w 0 (by show 0+w<=50000;omega) (by show 0+w<=50000;omega);exact af e rfl
 have G0:=al7 gi0 w (st:=0) (by omega) (by omega);have l0:([]++dz 0 w 0:List bA).length=w:=by rw[List.nil_append,PI]
 obtain⟨t,e2,G2,ti,_,hn⟩:=ae0 [] [] [] [] G0 (L:=cN 0 w) (f:=0) (w₀:=1) aeY ⟨by omega,by show(1:Int) / 2<=((0+w:Nat):Int);omega⟩ (by show 0+(cN 0 w).length<=([]++dz 0 w 0).length;rw[j2,l0];omega)
  (by rw[j2];show 0+w+4*w<=39000;omega) (by rw[j2];show 0+4*w<=39000;omega) (by show([]++dz 0 w 0).length<=40000;rw[l0];omega)
 rw[j2]at G2;have a2:=G2.hi;have b2:=G2.len;have c2:=G2.lo;have a2:t.v<=0+w+4*w:=a2;have b2:t.a.length<=0+4*w:=b2;have c2:0+w<=t.v:=c2;have lav:t.l.map (fun d:bA=>d.var)=fr 0 w:=by have:t.l.map (fun d:bA=>d.var)=([]++dz 0 w 0).map (fun d:bA=>d.var):=G2.lav;rw[this,List.nil_append,Ps,Nat.zero_add]
 have gF:t.l.map (fun d:bA=>d.init)=List.replicate w 0:=by have:t.l.map (fun d:bA=>d.init)=([]++dz 0 w 0).map (fun d:bA=>d.init):=ti;rw[this,List.nil_append,acH]
 have e3:=acz [] [] [] [] (s:=t) (bad:=bad) h2 (by omega) (by omega) hb;have e3:C5 ((bad:Int),(((cN 0 w).length:Int),((0:Int),((0:Int),((t.v:Int),(t.i,(t.l.map aB,([],([],([],([],(t.a.map aY,(cN 0 w,())))))))))))))=some ((0:Int),((t.v:Int),(t.i,(t.l.map aB,([],([],([],([],(t.a.map aY,(gU bad w,())))))))))):=by rw[j2];exact e3
 obtain⟨z,u,e4,G4,ok,ul,⟨x4,ua⟩,hz⟩:=amj [] [] [] [] G2.gi (L:=gU bad w) (aec (by omega)) (by rw[vu];omega) (by rw[vu];omega);rw[vu]at G4;have a4:=G4.hi;have b4:=G4.len;have q20:aR false true (iL 20 (w:Int))=false:=by have q:iL 20 (w:Int)=false:=aw (show ¬(20:Int)<(w:Int) by omega);rw[q];rfl
 have ui:u.i=[]:=G4.ins.trans G2.ins;refine⟨⟨u.v,u.i,u.l,[],[z],[],[],u.a⟩,?_,?_,ui,rfl,rfl,?_,?_,?_,z,rfl,?_⟩
 .exact ao (aw (show ¬(w:Int)<1 by omega)) (ao q20 (af e1 (af e2 (af e3 (af e4 (aj rfl rfl))))))
 .refine afz G4.gi (by omega) rfl (by simp) (by simp) (fun m hm=>nomatch hm) (fun x hx=>?_) (fun m hm=>nomatch hm);simp at hx;subst hx;exact ok
 .show u.l.map (fun d:bA=>d.var)=_;rw[ul];exact lav
 .show u.l.map (fun d:bA=>d.init)=_;rw[ul];exact gF
 .intro ν h0 hc i hi;have hc:Cons ν u.a:=hc;rw[ua]at hc;have h:=hn ν hc.of i (by rw[j2];exact hi);rw[Nat.zero_add,Xy h0,acO (by omega),adO,PT,qN,Bool.true_and]at h;show lv ν (nxt u.l i)=_;rw[ul];exact h
 .intro ν h0 hc;rw[hz ν h0 hc,acW]
def dJ(v:List Bool)(l:List (Int×Bool)):List Bool:=l.foldl (fun v p=>v.set p.1.toNat p.2) v
theorem nk:∀(l:List (Int×Bool)) (v:List Bool),(dJ v l).length=v.length
 |[],v=>rfl|p::l,v=>by show(dJ (v.set p.1.toNat p.2) l).length=_;rw[nk l,List.length_set]
theorem IA(v:List Bool)(l:List (Int×Bool))(p:Int×Bool):dJ v (l++[p])=(dJ v l).set p.1.toNat p.2:=by unfold dJ;rw[List.foldl_append];rfl
def jG(n:au)(ls ins:List Bool):List Bool:=dJ (dJ (List.replicate (n.vars.toNat+1) false) (n.inputs.zip ins)) ((n.latches.map (·.var)).zip ls)
def dF(n:au)(cs:List (List aD))(v:List Bool)(x:aP×aJ):List Bool:=
 if x.1.rd=false then v.set (x.2.to.headD 0).toNat (bg (x.2.frm.getD 0 0) v&&bg (x.2.frm.getD 1 0) v)
 else dJ v (x.2.to.zip (bh (rd (cs.getD x.1.mem []) (bF (x.2.frm.map (bg · v)))).toNat x.2.to.length))
theorem ald(n:au)(cs:List (List aD))(v:List Bool)(x:aP×aJ):(dF n cs v x).length=v.length:=by
 unfold dF;split
 .rw[List.length_set]
 .rw[nk]
def dg(n:au)(ls:List Bool)(cs:List (List aD))(ins:List Bool):List Bool:=(aM n n.vars.toNat).foldl (dF n cs) (jG n ls ins)
theorem Iu(n:au)(cs:List (List aD)):∀(l:List (aP×aJ)) (v:List Bool),(l.foldl (dF n cs) v).length=v.length
 |[],v=>rfl|x::l,v=>by rw[List.foldl_cons,Iu n cs l,ald]
theorem Wc(n:au)(ls ins:List Bool):(jG n ls ins).length=n.vars.toNat+1:=by unfold jG;rw[nk,nk,List.length_replicate]
structure kW(m:aX)(k:Nat)(c:List aD):Prop where
 sor:JV c
 len:c.length<=k
 at_:∀p∈c,0<=p.1/\p.1<2^m.addr.toNat
 wd:∀p∈c,0<p.2.1/\p.2.1<2^m.word.toNat
structure iW(n:au)(k:Nat)(ls:List Bool)(cs:List (List aD)):Prop where
 lsL:ls.length=n.latches.length
 csL:cs.length=n.mems.length
 ok:∀(i:Nat) (m:aX) (c:List aD),n.mems[i]?=some m->cs[i]?=some c->kW m k c
theorem afN(c:List aD)(a:Int):rd c a=0\/∃p∈c,rd c a=p.2.1:=by
 induction c with
 |nil=>exact .inl rfl|cons p c ih=>
  rw[Jn];by_cases q:p.1=a
  .rw[if_pos q];exact .inr ⟨p,by simp,rfl⟩
  .rw[if_neg q];rcases ih with h|⟨r,hr,h⟩
   .exact .inl h
   .exact .inr ⟨r,by simp[hr],h⟩
theorem afO{m:aX}{k:Nat}{c:List aD}(h:kW m k c)(hw:m.word<=64)(a:Int):0<=rd c a/\rd c a<18446744073709551616:=by
 rcases afN c a with e|⟨p,hp,e⟩
 .omega
 .have:=h.wd p hp;have h2:(2:Int)^m.word.toNat<=2^64:=by
   have:=Nat.pow_le_pow_right (n:=2) (by decide) (show m.word.toNat<=64 by omega)
   exact_mod_cast this
  have h3:(2:Int)^64=18446744073709551616:=by decide
  omega
theorem y4{n:au}{V:Nat}{x:aP×aJ}(h:x∈aM n V):x∈n6 n:=by unfold aM at h;obtain⟨i,_,hx⟩:=List.mem_flatMap.1 h;exact(List.mem_filter.1 hx).1
theorem alw{n:au}{V:Nat}(hs:bo n V):(aM n V).length<=9000000:=by have h:=(vV hs).len;unfold aM;have:=wi (fun(i:Nat)=>(n6 n).filter fun x=>decide (lk (lvl n V) x.2=(i:Int)+1)) (List.range (n6 n).length) 3000 (fun i _=>Nat.le_trans (List.length_filter_le _ _) h);rw[List.length_range]at this;have h2:(n6 n).length*3000<=3000*3000:=Nat.mul_le_mul_right _ h;omega
theorem getD_set_ne{v:List Bool}{i p:Nat}{b:Bool}(h:p≠i):(v.set i b).getD p false=v.getD p false:=by rw[List.getD_eq_getElem?_getD,List.getD_eq_getElem?_getD,List.getElem?_set_ne (fun e=>h e.symm)]
theorem vt:∀(l:List (Int×Bool)) (v:List Bool) (p:Nat),(∀q∈l,q.1.toNat≠p)->(dJ v l).getD p false=v.getD p false
 |[],v,p,_=>rfl|q::l,v,p,h=>by show(dJ (v.set q.1.toNat q.2) l).getD p false=_;rw[vt l _ p (fun r hr=>h r (List.mem_cons_of_mem _ hr)),getD_set_ne (fun e=>h q (List.mem_cons_self ..) e.symm)]
theorem Pd{n:au}{cs:List (List aD)}{x:aP×aJ}(v:List Bool){p:Nat}(hne:x.2.to≠[])(hp:p∉x.2.nd.to):(dF n cs v x).getD p false=v.getD p false:=by
 have hq:∀q∈x.2.to,q.toNat≠p:=fun q hq e=>hp (List.mem_map.2 ⟨q,hq,e⟩);unfold dF;split
 .refine getD_set_ne (fun e=>hq (x.2.to.headD 0) ?_ e.symm)
  match he:x.2.to with|[]=>exact absurd he hne|a::l=>simp
 .refine vt _ _ _ (fun q h=>hq q.1 ?_);exact(List.of_mem_zip (show(q.1,q.2)∈_ from h)).1
theorem vr{n:au}{cs:List (List aD)}{p:Nat}:∀(l:List (aP×aJ)) (v:List Bool),(∀x∈l,x.2.to≠[]/\p∉x.2.nd.to)->(l.foldl (dF n cs) v).getD p false=v.getD p false
 |[],v,_=>rfl|x::l,v,h=>by rw[List.foldl_cons,vr l _ (fun y hy=>h y (List.mem_cons_of_mem _ hy)),Pd v (h x (List.mem_cons_self ..)).1 (h x (List.mem_cons_self ..)).2]
theorem Pn{l:Int}{v w:List Bool}(h:v.getD (l / 2).toNat false=w.getD (l / 2).toNat false):bg l v=bg l w:=by unfold bg;rw[h]
section
variable{n:au}{V:Nat}(hs:bo n V)(ha:de (aF n) V=true)
include hs
theorem Ew{x:aP×aJ}(hx:x∈n6 n):x.2.to≠[]:=hs.toNe (by rw[<-md];exact List.mem_map_of_mem hx)
include ha
theorem vI{x:aP×aJ}(hx:x∈n6 n){u:Nat}(hu:u∈x.2.nd.to):∃k:Nat,bC (aF n) u k/\lk (lvl n V) x.2=(k:Int):=by obtain⟨h1,h2,h3⟩:=y6 hs hx;obtain⟨k,hk⟩:=(oG hs.apart V).1 ha _ h1;refine⟨k,hk.mate hs.apart h3 h2 hu,?_⟩;unfold lk;exact D6 hs h1 hk
theorem aeJ{x:aP×aJ}(hx:x∈n6 n){u:Nat}(hu:u∈x.2.nd.frm):∃k:Nat,bC (aF n) u k/\(k:Int)<lk (lvl n V) x.2:=by obtain⟨h1,h2,h3⟩:=y6 hs hx;obtain⟨k,hk,e⟩:=vI hs ha hx h2;obtain⟨j,hj,h⟩:=hk.frm hs.apart h3 h2 hu;exact⟨j,h,by rw[e];omega⟩
def QN(x y:aP×aJ):Prop:=(∀u∈x.2.nd.to,u∉y.2.nd.to)/\∀u∈x.2.nd.frm,u∉y.2.nd.to
omit hs ha in
theorem adH(hs:bo n V):(n6 n).Pairwise fun x y=>∀u∈x.2.nd.to,u∉y.2.nd.to:=by
 rw[List.pairwise_iff_getElem];intro i j hi hj hij u h1 h2;have hi':(aF n)[i]?=some (n6 n)[i].2.nd:=by rw[<-lT,List.getElem?_map,List.getElem?_eq_getElem hi];rfl
 have hj':(aF n)[j]?=some (n6 n)[j].2.nd:=by rw[<-lT,List.getElem?_map,List.getElem?_eq_getElem hj];rfl
 have:=hs.apart i j _ _ u hi' hj' h1 h2;omega
theorem DZ{x y:aP×aJ}(hx:x∈n6 n)(hy:y∈n6 n)(h:lk (lvl n V) x.2<=lk (lvl n V) y.2){u:Nat}(h1:u∈x.2.nd.frm):u∉y.2.nd.to:=by intro h2;obtain⟨k,e1,e2⟩:=aeJ hs ha hx h1;obtain⟨j,e3,e4⟩:=vI hs ha hy h2;have:=e1.one hs.apart e3;omega
theorem acK:(aM n V).Pairwise QN:=by
 unfold aM;rw[List.pairwise_flatMap];refine⟨fun i hi=>?_,?_⟩
 .have h:=(adH hs).filter (fun x=>decide (lk (lvl n V) x.2=(i:Int)+1));refine List.Pairwise.imp_of_mem (fun{x y} hx hy h=>⟨h,fun u h1=>?_⟩) h;obtain⟨mx,ex⟩:=List.mem_filter.1 hx;obtain⟨my,ey⟩:=List.mem_filter.1 hy;have ex:=of_decide_eq_true ex;have ey:=of_decide_eq_true ey;exact DZ hs ha mx my (by rw[ex,ey];exact Int.le_refl _) h1
 .refine List.Pairwise.imp (fun{i j} hij=>?_) (List.pairwise_lt_range (n:=(n6 n).length));intro x hx y hy;obtain⟨mx,ex⟩:=List.mem_filter.1 hx;obtain⟨my,ey⟩:=List.mem_filter.1 hy;have ex:=of_decide_eq_true ex;have ey:=of_decide_eq_true ey;refine⟨fun u h1 h2=>?_,fun u h1=>DZ hs ha mx my (by rw[ex,ey];omega) h1⟩;obtain⟨k,e1,e2⟩:=vI hs ha mx h1;obtain⟨l,e3,e4⟩:=vI hs ha my h2;have:=e1.one hs.apart e3;omega
theorem aeW{x:aP×aJ}(hx:x∈n6 n):x∈aM n V:=by have h:=QA hs ha hx;unfold aM;refine List.mem_flatMap.2 ⟨(lk (lvl n V) x.2-1).toNat,List.mem_range.2 (by omega),List.mem_filter.2 ⟨hx,decide_eq_true (by omega)⟩⟩
theorem PX(ls:List Bool)(cs:List (List aD))(ins:List Bool){p:Nat}(h:∀x∈n6 n,p∉x.2.nd.to):(dg n ls cs ins).getD p false=(jG n ls ins).getD p false:=by
 have hV:n.vars.toNat=V:=by rw[hs.vars];rfl
 unfold dg;exact vr _ _ (fun x hx=>⟨Ew hs (y4 hx),h x (y4 hx)⟩)
theorem ad2(ls:List Bool)(cs:List (List aD))(ins:List Bool){a:cM}(h:a∈n.ands):(dg n ls cs ins).getD a.var.toNat false=(bg a.a (dg n ls cs ins)&&bg a.b (dg n ls cs ins)):=by
 have hV:n.vars.toNat=V:=by rw[hs.vars];rfl
 obtain⟨i,hi⟩:=List.getElem?_of_mem h;have hil:i<n.ands.length:=cr hi;have hx:((⟨false,0,i⟩:aP),fm a)∈n6 n:=by refine List.mem_append_left _ ?_;refine List.mem_iff_getElem?.2 ⟨i,?_⟩;unfold A6;rw[List.getElem?_zip_eq_some,List.take_length,List.getElem?_map,hi];refine⟨?_,rfl⟩;unfold fZ;rw[List.getElem?_map,List.getElem?_range hil];rfl
 obtain⟨A,B,e⟩:=List.append_of_mem (aeW hs ha hx);have hp:=acK hs ha;rw[e,List.pairwise_append]at hp;have hB:∀y∈B,QN ((⟨false,0,i⟩:aP),fm a) y:=(List.pairwise_cons.1 hp.2.1).1;have mB:∀y∈B,y∈n6 n:=fun y hy=>y4 (V:=V) (by rw[e];simp[hy]);have ht:(fm a).nd.to=[a.var.toNat]:=rfl;have hf:(fm a).nd.frm=[(a.a / 2).toNat,(a.b / 2).toNat]:=rfl;obtain⟨v,hv⟩:∃v,v=A.foldl (dF n cs) (jG n ls ins):=⟨_,rfl⟩;have eF:dg n ls cs ins=B.foldl (dF n cs) (dF n cs v ((⟨false,0,i⟩:aP),fm a)):=by unfold dg;rw[hV,e,List.foldl_append,<-hv];rfl
 have lv:v.length=V+1:=by rw[hv,Iu,Wc,hV]
 have hrng:a.var.toNat<v.length:=by have:=hs.rng a.var (by unfold bp;simp only[List.mem_append,List.mem_map];exact .inr ⟨a,h,rfl⟩);omega
 have keep:∀p,p∈(fm a).nd.frm->(dg n ls cs ins).getD p false=v.getD p false:=by intro p hp';rw[eF,vr B _ (fun y hy=>⟨Ew hs (mB y hy),(hB y hy).2 p hp'⟩)];exact Pd (x:=((⟨false,0,i⟩:aP),fm a)) v (by simp[fm]) (DZ hs ha hx hx (Int.le_refl _) hp')
 have k1:bg a.a (dg n ls cs ins)=bg a.a v:=Pn (keep _ (by rw[hf];simp));have k2:bg a.b (dg n ls cs ins)=bg a.b v:=Pn (keep _ (by rw[hf];simp));rw[k1,k2,eF,vr B _ (fun y hy=>⟨Ew hs (mB y hy),(hB y hy).1 _ (by rw[ht];simp)⟩)];show(v.set a.var.toNat (bg a.a v&&bg a.b v)).getD a.var.toNat false=_;rw[List.getD_eq_getElem?_getD,List.getElem?_set_self hrng];rfl
end
def bc(n:au)(cs:List (List aD)):List cf:=List.zipWith (fun(m:aX) (c:List aD)=>(m.addr,(m.word,(c,())))) n.mems cs
theorem sd{n:au}{cs:List (List aD)}(h:cs.length=n.mems.length):(bc n cs).length=n.mems.length:=by unfold bc;rw[List.length_zipWith];omega
theorem si{n:au}{cs:List (List aD)}{i:Nat}{m:aX}{c:List aD}(h1:n.mems[i]?=some m)(h2:cs[i]?=some c):(bc n cs)[i]?=some (m.addr,(m.word,(c,()))):=by unfold bc;rw[List.getElem?_zipWith,h1,h2]
theorem alV{u A:List Bool}{b:Bool}{off:Nat}(h:off+A.length<u.length):fX u off (A++[b])=(fX u off A).set (off+A.length) b:=by
 unfold fX;have hd:=nv (L:=u) (i:=off+A.length) h;have e:u.take off++(A++u.drop (off+A.length))=(u.take off++A)++u[off+A.length]::u.drop (off+A.length+1):=by rw[hd];simp
 rw[e,ph (by rw[List.length_append,List.length_take];omega)];simp[Nat.add_assoc]
theorem aei{u bs:List Bool}{off:Nat}(h:off+bs.length<=u.length):fX u off bs=dJ u ((bL (off:Int) bs.length).zip bs):=by
 have hz:((bL (off:Int) bs.length).zip bs).length=bs.length:=by rw[List.length_zip,pI];omega
 have main:∀k,k<=bs.length->fX u off (bs.take k)=dJ u (((bL (off:Int) bs.length).zip bs).take k):=by
  intro k
  induction k with
  |zero=>intro _;rw[List.take_zero,List.take_zero,Xd];rfl|succ k ih=>
   intro hk;have h1:=List.getElem?_eq_getElem (l:=bs) (i:=k) (by omega);have h2:(bL (off:Int) bs.length)[k]?=some ((off:Int)+(k:Int)):=by unfold bL;rw[List.getElem?_map,List.getElem?_range (by omega)];rfl
   have h3:((bL (off:Int) bs.length).zip bs)[k]?=some ((off:Int)+(k:Int),bs[k]):=by rw[List.getElem?_zip_eq_some];exact⟨h2,h1⟩
   have hl:(bs.take k).length=k:=by rw[List.length_take];omega
   rw[Pl.cg h1,Pl.cg h3,IA,<-ih (by omega),alV (by rw[hl];omega),hl];congr 1
 have:=main bs.length (Nat.le_refl _);rw[List.take_length]at this;rw[this,List.take_of_length_le (Nat.le_of_eq hz)]
theorem alB(a ad w:Int)(M:List aD):pS (a,(ad,(w,(M,()))))=some (rd M a,(ad,(w,(M,())))):=by show Ll a ad w M=_;unfold Ll;exact congrArg (fun z:Int=>(some (z,(ad,(w,(M,())))):Option (Out tf))) (D7 M a)
def mc{α:Type}(n:au)(ord:List (aP×aJ))(ls:List Bool)(rs:List cf)(r:α):=nt n (ord.map (fun x=>cd x.1),(ls,(rs,r)))
section
variable{n:au}{V:Nat}(hs:bo n V)(ft:Fit n)
include hs
theorem amp(ord:List (aP×aJ))(ls ins:List Bool)(rs:List cf)(v:List Bool)(hv:v.length=V+1)(hi:ins.length=n.inputs.length) :
  Hf (ins,((ins.length:Int),((0:Int),mc n ord ls rs (v,()))))=some (mc n ord ls rs (dJ v (n.inputs.zip ins),())):=by
 have hl:=hs.lens.1;have hz:(n.inputs.zip ins).length=n.inputs.length:=by rw[List.length_zip];omega
 unfold Hf;delta dW;refine bN (fun k:Nat=>(ins,((ins.length:Int),((k:Int),mc n ord ls rs (dJ v ((n.inputs.zip ins).take k),()))))) n.inputs.length rfl ?_ ?_ (aW (by omega))
 .intro k hk;have h1:=List.getElem?_eq_getElem hk;have h2:=List.getElem?_eq_getElem (l:=ins) (i:=k) (by omega);have h3:(n.inputs.zip ins)[k]?=some (n.inputs[k],ins[k]):=by rw[List.getElem?_zip_eq_some];exact⟨h1,h2⟩
  have hr:=hs.rng n.inputs[k] (by unfold bp;simp);have e:∀(a b:List Bool) (p q:Int),a=b->p=q->(some (.inl (ins,((ins.length:Int),(p,mc n ord ls rs (a,()))))):Option (TL xE.σs⊕Out xy))=some (.inl (ins,((ins.length:Int),(q,mc n ord ls rs (b,()))))):=by rintro _ _ _ _ rfl rfl;rfl
  unfold mc nt
  try dsimp only
  unfold xY;have g1:gt (.int .i64) n.inputs (k:Int)=n.inputs[k]:=aS (σ:=.int .i64) h1;refine av (al (show(k:Int)<(ins.length:Int) by omega)) (aj (aA ⟨by omega,by omega⟩) (aj (aA ⟨by omega,by omega⟩) (aj ?_ (e _ _ _ _ ?_ (aZ (by omega) (by omega))))))
  .rw[g1];exact aA ⟨by omega,by rw[nk,hv];omega⟩
  .rw[Pl.cg h3,IA,g1];have g2:gt .bool ins (k:Int)=ins[k]:=aS (σ:=.bool) h2;rw[g2];rfl
 .unfold mc nt
  try dsimp only
  unfold xY;rw[<-hz,List.take_length,hz];exact ao (aw (show ¬(n.inputs.length:Int)<(ins.length:Int) by omega)) rfl
theorem agy(ord:List (aP×aJ))(ls:List Bool)(rs:List cf)(v:List Bool)(hv:v.length=V+1)(hi:ls.length=n.latches.length) :
  GY ((ls.length:Int),((0:Int),mc n ord ls rs (v,())))=some (mc n ord ls rs (dJ v ((n.latches.map (·.var)).zip ls),())):=by
 have hl:=hs.lens.2.1;have hz:((n.latches.map (·.var)).zip ls).length=n.latches.length:=by rw[List.length_zip,List.length_map];omega
 unfold GY;delta eJ;refine bN (fun k:Nat=>((ls.length:Int),((k:Int),mc n ord ls rs (dJ v (((n.latches.map (·.var)).zip ls).take k),())))) n.latches.length rfl ?_ ?_ (aW (by omega))
 .intro k hk;have h1:=List.getElem?_eq_getElem hk;have h1':(n.latches.map aB)[k]?=some (aB n.latches[k]):=by rw[List.getElem?_map,h1];rfl
  have h2:=List.getElem?_eq_getElem (l:=ls) (i:=k) (by omega);have h3:((n.latches.map (·.var)).zip ls)[k]?=some (n.latches[k].var,ls[k]):=by rw[List.getElem?_zip_eq_some,List.getElem?_map,h1];exact⟨rfl,h2⟩
  have hr:=hs.rng n.latches[k].var (by unfold bp;simp only[List.mem_append];exact .inl (.inl (.inr (List.mem_map.2 ⟨_,List.getElem_mem hk,rfl⟩))));have e:∀(a b:List Bool) (p q:Int),a=b->p=q->(some (.inl ((ls.length:Int),(p,mc n ord ls rs (a,())))):Option (TL xA.σs⊕Out xv))=some (.inl ((ls.length:Int),(q,mc n ord ls rs (b,())))):=by rintro _ _ _ _ rfl rfl;rfl
  have hL:((n.latches.map aB).length:Int)=(n.latches.length:Int):=by rw[List.length_map]
  unfold mc nt
  try dsimp only
  unfold xQ;have g1:(gt aa (n.latches.map aB) (k:Int)).1=n.latches[k].var:=by rw[aS (σ:=aa) h1'];rfl
  refine av (al (show(k:Int)<(ls.length:Int) by omega)) (aj (aA ⟨by omega,by omega⟩) (aj (aA ⟨by omega,by omega⟩) (aj ?_ (e _ _ _ _ ?_ (aZ (by omega) (by omega))))))
  .rw[g1];exact aA ⟨by omega,by rw[nk,hv];omega⟩
  .rw[Pl.cg h3,IA,g1];have g2:gt .bool ls (k:Int)=ls[k]:=aS (σ:=.bool) h2;rw[g2];rfl
 .unfold mc nt
  try dsimp only
  unfold xQ;rw[<-hz,List.take_length,hz];exact ao (aw (show ¬(n.latches.length:Int)<(ls.length:Int) by omega)) rfl
include ft
theorem agz{K:Nat}(hK:K<=5000)(ls:List Bool)(cs:List (List aD))(ok:iW n K ls cs)(v:List Bool)(hv:v.length=V+1) :
  GX ((aM n V).map (fun x=>cd x.1),(((aM n V).length:Int),((0:Int),mc n (aM n V) ls (bc n cs) (v,()))))=some (mc n (aM n V) ls (bc n cs) ((aM n V).foldl (dF n cs) v,())):=by
 have hol:=alw hs;have h6:=vV hs;unfold GX;delta dW;refine bN (fun k:Nat=>((aM n V).map (fun x=>cd x.1),(((aM n V).length:Int),((k:Int),mc n (aM n V) ls (bc n cs) (((aM n V).take k).foldl (dF n cs) v,()))))) (aM n V).length rfl ?_ ?_ (aW (by omega))
 .intro k hk;have hx:=List.getElem?_eq_getElem hk;have hm:=y4 (List.getElem_mem hk);have hst:((aM n V).take (k+1)).foldl (dF n cs) v=dF n cs (((aM n V).take k).foldl (dF n cs) v) (aM n V)[k]:=by rw[Pl.cg hx,List.foldl_append];rfl
  have hlen:(((aM n V).take k).foldl (dF n cs) v).length=V+1:=by rw[Iu,hv]
  generalize ((aM n V).take k).foldl (dF n cs) v=u at hst hlen;have hx':((aM n V).map (fun x=>cd x.1))[k]?=some (cd (aM n V)[k].1):=by rw[List.getElem?_map,hx];rfl
  generalize (aM n V)[k]=x at hx' hm hst;have hi:=cr hx';have his:=Eo n hm;have hmI:x.2∈cP n:=by rw[<-md];exact List.mem_map_of_mem hm
  have hg:gt ag ((aM n V).map (fun x=>cd x.1)) (k:Int)=cd x.1:=aS (σ:=ag) hx';have hin:ar (k:Int) (List.length ((aM n V).map (fun x=>cd x.1)))=true:=aA ⟨by omega,by omega⟩;have e:∀(a b:List Bool) (p q:Int) (R R':List cf),a=b->p=q->R=R'->(some (.inl ((aM n V).map (fun x=>cd x.1),(((aM n V).length:Int),(p,mc n (aM n V) ls R (a,()))))):Option (TL xz.σs⊕Out xu))=some (.inl ((aM n V).map (fun x=>cd x.1),(((aM n V).length:Int),(q,mc n (aM n V) ls R' (b,()))))):=by rintro _ _ _ _ _ _ rfl rfl rfl;rfl
  have hk1:IntKind.wrap .i64 ((k:Int)+(1:Int))=((k+1:Nat):Int):=aZ (by omega) (by omega);rw[hst];unfold mc nt
  try dsimp only
  unfold xP;rw[hg];refine av (al (show(k:Int)<((aM n V).length:Int) by omega)) (aj hin ?_);have hf:=h6.frm x hm;have hv2:=hs.v2;rcases his with⟨h,a,ha,hI⟩|⟨h,M,r,hM,hr,hI⟩
  .-- a gate
   have hto:x.2.to=[a.var]:=by rw[hI];rfl
   have hfr:x.2.frm=[a.a,a.b]:=by rw[hI];rfl
   have ra:=hf.2 a.a (by rw[hfr];simp);have rb:=hf.2 a.b (by rw[hfr];simp);have rv:=hs.toRng hmI (v:=a.var) (by rw[hto];simp);have ha':(n.ands.map aY)[x.1.pos]?=some (aY a):=by rw[List.getElem?_map,ha];rfl
   have hal:=cr ha';have gA:gt aa (n.ands.map aY) (x.1.pos:Int)=aY a:=aS (σ:=aa) ha';have e0:gr ((gt aa (n.ands.map aY) (x.1.pos:Int)).2.1,(u,()))=some (bg a.a u,()):=by rw[gA];exact nz a.a u (by omega)
   have e1:gr ((gt aa (n.ands.map aY) (x.1.pos:Int)).2.2.1,(u,()))=some (bg a.b u,()):=by rw[gA];exact nz a.b u (by omega)
   have gv:(gt aa (n.ands.map aY) (x.1.pos:Int)).1=a.var:=by rw[gA];rfl
   have iv:ar (gt aa (n.ands.map aY) (x.1.pos:Int)).1 (List.length u)=true:=by rw[gv];exact aA ⟨by omega,by omega⟩
   have hn:dF n cs u x=u.set a.var.toNat (bg a.a u&&bg a.b u):=by unfold dF;rw[if_pos h,hto,hfr];rfl
   have ee:∀(p q:Int) (c d:Bool),p=q->c=d->List.set u (Int.toNat p) c=List.set u (Int.toNat q) d:=by rintro _ _ _ _ rfl rfl;rfl
   refine av (show Bool.not x.1.rd=true by rw[h];rfl) (aj (show ar (x.1.pos:Int) (List.length (n.ands.map aY))=true from aA ⟨by omega,by omega⟩) (af e0 ?_));cases hA:bg a.a u with
   |true=>refine av rfl (aj (al rfl) (af e1 (aj iv (aj (al rfl) (e _ _ _ _ _ _ ?_ hk1 rfl)))));rw[hn,hA];exact ee _ _ _ _ gv (by cases bg a.b u<;>rfl)
   |false=>refine ao rfl (aj (al rfl) (aj iv (e _ _ _ _ _ _ ?_ hk1 rfl)));rw[hn,hA];exact ee _ _ _ _ gv rfl
  .-- a port
   have hMm:=List.mem_of_getElem? hM;obtain⟨hm1,hm2,hm3,hm4,hm5,hm6,_⟩:=hs.mems M hMm;have hrm:=List.mem_of_getElem? hr;have hto:x.2.to=bL r.var M.word.toNat:=by rw[hI];rfl
   have hfr:x.2.frm=r.addr:=by rw[hI];rfl
   have hfl:=hm5 r hrm;have hml:=cr hM;have hcs:=ok.csL;have hcc:=List.getElem?_eq_getElem (l:=cs) (i:=x.1.mem) (by omega);have hcok:=ok.ok x.1.mem M cs[x.1.mem] hM hcc;have hM':(n.mems.map ak)[x.1.mem]?=some (ak M):=by rw[List.getElem?_map,hM];rfl
   have hR':(M.reads.map cq)[x.1.pos]?=some (cq r):=by rw[List.getElem?_map,hr];rfl
   have hrl:=cr hR';have gM:gt ab (n.mems.map ak) (x.1.mem:Int)=ak M:=aS (σ:=ab) hM';have gR:gt bJ (gt ab (n.mems.map ak) (x.1.mem:Int)).2.2.2.1 (x.1.pos:Int)=cq r:=by rw[gM];exact aS (σ:=bJ) hR'
   obtain⟨W,hW⟩:=Int.eq_ofNat_of_zero_le (show 0<=M.word by omega);have htl:x.2.to.length=W:=by rw[hto,pI,hW];rfl
   have rv0:=hs.toRng hmI (v:=r.var) (by rw[hto];unfold bL;exact List.mem_map.2 ⟨0,List.mem_range.2 (by omega),by simp⟩);have rv1:=hs.toRng hmI (v:=r.var+((W-1:Nat):Int)) (by rw[hto];unfold bL;exact List.mem_map.2 ⟨W-1,List.mem_range.2 (by omega),rfl⟩);obtain⟨p,hp⟩:=Int.eq_ofNat_of_zero_le (show 0<=r.var by omega);have e2:nm ((gt bJ (gt ab (n.mems.map ak) (x.1.mem:Int)).2.2.2.1 (x.1.pos:Int)).2.1,(u,()))=some ((bF (x.2.frm.map (bg · u)):Int),()):=by rw[gR,hfr];exact Jd r.addr u (by omega) (fun l hl=>by have:=hf.2 l (by rw[hfr];exact hl);omega)
   have hra:=si (n:=n) (cs:=cs) hM hcc;have hrd:List.getD (bc n cs) (Int.toNat (x.1.mem:Int)) zR=(M.addr,(M.word,(cs[x.1.mem],()))):=by rw[List.getD_eq_getElem?_getD,Int.toNat_natCast,hra];rfl
   have e1:pS ((bF (x.2.frm.map (bg · u)):Int),((List.getD (bc n cs) (Int.toNat (x.1.mem:Int)) zR).1,((List.getD (bc n cs) (Int.toNat (x.1.mem:Int)) zR).2.1,((List.getD (bc n cs) (Int.toNat (x.1.mem:Int)) zR).2.2.1,()))))=some (rd cs[x.1.mem] (bF (x.2.frm.map (bg · u))),(M.addr,(M.word,(cs[x.1.mem],())))):=by rw[hrd];exact alB _ _ _ _
   have hrr:=afO hcok (by omega) (bF (x.2.frm.map (bg · u)));obtain⟨q,hq⟩:=Int.eq_ofNat_of_zero_le hrr.1;have e0:jw (rd cs[x.1.mem] (bF (x.2.frm.map (bg · u))),((gt ab (n.mems.map ak) (x.1.mem:Int)).2.1,()))=some (bh q W,()):=by
    have gw:(gt ab (n.mems.map ak) (x.1.mem:Int)).2.1=M.word:=by rw[gM];rfl
    rw[gw,hq,hW];exact qI q W (by omega) (by omega)
   have hn:dF n cs u x=dJ u (x.2.to.zip (bh q W)):=by unfold dF;rw[if_neg (by rw[h];simp),List.getD_eq_getElem?_getD,hcc,htl];show dJ u (x.2.to.zip (bh (rd cs[x.1.mem] _).toNat W))=_;rw[hq];rfl
   have gvr:(gt bJ (gt ab (n.mems.map ak) (x.1.mem:Int)).2.2.2.1 (x.1.pos:Int)).1=(p:Int):=by rw[gR,<-hp];rfl
   have hcp:fX u p (List.take (u.length-p) (bh q W))=dF n cs u x:=by rw[List.take_of_length_le (by rw[eZ];omega),hn,aei (by rw[eZ];omega),eZ,hto,hp,hW];rfl
   have hset:List.set (bc n cs) (Int.toNat (x.1.mem:Int)) (M.addr,(M.word,(cs[x.1.mem],())))=bc n cs:=by rw[Int.toNat_natCast];have hlt:=cr hra;rw[List.getElem?_eq_getElem hlt]at hra;injection hra with hra;rw[<-hra];exact List.set_getElem_self hlt
   have hb:∀y:Int,y=(p:Int)->both (iE (0:Int) y) (iE y (Int.ofNat (List.length u)))=true:=by rintro _ rfl;show both (decide _) (decide _)=true;rw[decide_eq_true (by omega),decide_eq_true (by show(p:Int)<=(u.length:Int);omega)];rfl
   have ee:∀(y:Int),y=(p:Int)->fX u (Int.toNat y) (List.take (u.length-Int.toNat y) (bh q W))=dF n cs u x:=by rintro _ rfl;rw[Int.toNat_natCast];exact hcp
   refine ao (show Bool.not x.1.rd=false by rw[h];rfl) (aj (show ar (x.1.mem:Int) (List.length (n.mems.map ak))=true from aA ⟨by omega,by rw[List.length_map];omega⟩) (aj (show ar (x.1.pos:Int) (List.length (gt ab (n.mems.map ak) (x.1.mem:Int)).2.2.2.1)=true by rw[gM];exact aA ⟨by omega,by show _<((M.reads.map cq).length:Int);omega⟩)
    (aj (show ar (x.1.mem:Int) (List.length (bc n cs))=true from aA ⟨by omega,by rw[sd ok.csL];omega⟩) (af e2 (af e1 (aj (hb _ gvr) (af e0 (e _ _ _ _ _ _ (ee _ gvr) hk1 hset))))))))
 .unfold mc nt
  try dsimp only
  unfold xP;rw[List.take_length];exact ao (aw (show ¬((aM n V).length:Int)<((aM n V).length:Int) by omega)) rfl
theorem alz{K:Nat}(hK:K<=5000)(ls ins:List Bool)(cs:List (List aD))(ok:iW n K ls cs)(hi:ins.length=n.inputs.length) :
  ajf (ins,mc n (aM n V) ls (bc n cs) ())=some ((0:Int),mc n (aM n V) ls (bc n cs) (dg n ls cs ins,())):=by
 have hv2:=hs.v2;have hV:n.vars.toNat=V:=by rw[hs.vars];rfl
 have hw:IntKind.wrap (.i64:IntKind) (n.vars+1)=((V+1:Nat):Int):=by rw[hs.vars,bf (by omega)];omega
 have e5:=amp hs (aM n V) ls ins (bc n cs) (List.replicate (V+1) false) (by simp) hi;have e10:=agy hs (aM n V) ls (bc n cs) (dJ (List.replicate (V+1) false) (n.inputs.zip ins)) (by rw[nk];simp) ok.lsL;have hval:dJ (dJ (List.replicate (V+1) false) (n.inputs.zip ins)) ((n.latches.map (·.var)).zip ls)=jG n ls ins:=by unfold jG;rw[hV]
 rw[hval]at e10;have e16:=agz hs ft hK ls cs ok (jG n ls ins) (by rw[Wc,hV]);have hfin:(aM n V).foldl (dF n cs) (jG n ls ins)=dg n ls cs ins:=by unfold dg;rw[hV]
 rw[hfin]at e16;have hol:((aM n V).length:Int)=((((aM n V).map (fun x=>cd x.1)).length:Nat):Int):=by rw[List.length_map]
 rw[hol]at e16;show Ho gr jw nm pS Hf GY GX ins n.vars n.inputs (n.latches.map aB) n.outputs n.bads n.constraints (n.mems.map ak) (n.ands.map aY) ((aM n V).map (fun x=>cd x.1)) ls (bc n cs)=_;unfold Ho;have q1:(iQ (Int.ofNat (List.length ins)) (Int.ofNat (List.length n.inputs)))=true:=al (by rw[hi]);rw[hw];refine ao (by rw[q1];rfl) (aj (by show both (decide _) (both (decide _) (decide _))=true;rw[decide_eq_true (by omega),decide_eq_true (by omega),decide_eq_true (by show(1:Int)*_<=_;omega)];rfl) (af e5 (af e10 (af e16 rfl))))
end
def kI(v:List Bool)(c:List aD)(w:jR):List aD:=if bg w.on v=true then wr c (bF (w.addr.map (bg · v))) (bF (w.data.map (bg · v)))else c
def oD(v:List Bool)(m:aX)(c:List aD):List aD:=m.writes.foldl (kI v) c
def dR(n:au)(v:List Bool):List Bool:=n.latches.map fun l=>bg l.next v
def d9(n:au)(cs:List (List aD))(v:List Bool):List (List aD):=List.zipWith (oD v) n.mems cs
def jr(n:au)(v:List Bool):List Bool:=n.bads.map (bg · v)
def kM(n:au)(v:List Bool):Bool:=n.constraints.all (bg · v)
theorem Xf{a:Int}{q:aD}:∀{L:List aD},q∈mf a L->q∈L
 |[],h=>h|p::M,h=>by
  rw[V9]at h;split at h
  .simp[h]
  .rcases List.mem_cons.1 h with h|h
   .simp[h]
   .simp[Xf h]
theorem Xe{a w:Int}{q:aD}:∀{L:List aD},q∈mg a w L->q=(a,w,())\/q∈L
 |[],h=>by have:q∈[((a,w,()):aD)]:=h;simp at this;exact .inl this|p::M,h=>by
  rw[VX]at h;split at h
  .rcases List.mem_cons.1 h with h|h
   .exact .inl h
   .exact .inr h
  .split at h
   .rcases List.mem_cons.1 h with h|h
    .exact .inl h
    .exact .inr (by simp[h])
   .rcases List.mem_cons.1 h with h|h
    .exact .inr (by simp[h])
    .rcases Xe h with h|h
     .exact .inl h
     .exact .inr (by simp[h])
theorem QM{a w:Int}{q:aD}{L:List aD}(h:q∈wr L a w):(w≠0/\q=(a,w,()))\/q∈L:=by
 unfold wr at h;split at h
 .exact .inr (Xf h)
 .rename_i h0;rcases Xe h with h|h
  .exact .inl ⟨h0,h⟩
  .exact .inr h
theorem yZ{l:List Bool}{k:Int}(h:(l.length:Int)=k):((bF l:Nat):Int)<2^k.toNat:=by
 have e:k.toNat=l.length:=by omega
 have:=me l;rw[e]
 exact_mod_cast this
theorem af0{m:aX}{k:Nat}{c:List aD}{v:List Bool}{w:jR}(h:kW m k c)(ha:(w.addr.length:Int)=m.addr)(hd:(w.data.length:Int)=m.word):kW m (k+1) (kI v c w):=by
 unfold kI;split
 .refine⟨af2 h.sor,Nat.le_trans (af1 _ _ _) (by have:=h.len;omega),fun p hp=>?_,fun p hp=>?_⟩
  .rcases QM hp with⟨h0,rfl⟩|hp
   .exact⟨by show(0:Int)<=((bF _:Nat):Int);omega,yZ (by rw[List.length_map];exact ha)⟩
   .exact h.at_ p hp
  .rcases QM hp with⟨h0,rfl⟩|hp
   .exact⟨by show(0:Int)<((bF _:Nat):Int);omega,yZ (by rw[List.length_map];exact hd)⟩
   .exact h.wd p hp
 .exact⟨h.sor,by have:=h.len;omega,h.at_,h.wd⟩
theorem WU{m:aX}{v:List Bool}:∀{l:List jR}{k:Nat}{c:List aD},kW m k c->(∀w∈l,(w.addr.length:Int)=m.addr/\(w.data.length:Int)=m.word)->kW m (k+l.length) (l.foldl (kI v) c)
 |[],k,c,h,_=>h|w::l,k,c,h,hw=>by have:=WU (v:=v) (l:=l) (af0 (v:=v) h (hw w (by simp)).1 (hw w (by simp)).2) (fun x hx=>hw x (by simp[hx]));rw[List.foldl_cons,List.length_cons];rw[show k+1+l.length=k+(l.length+1) by omega]at this;exact this
theorem alR{n:au}{V:Nat}(hs:bo n V){K:Nat}{ls:List Bool}{cs:List (List aD)}(ok:iW n K ls cs)(v:List Bool):iW n (K+4) (dR n v) (d9 n cs v):=by
 refine⟨by unfold dR;rw[List.length_map],by unfold d9;rw[List.length_zipWith];have:=ok.csL;omega,fun i m c hm hc=>?_⟩;unfold d9 at hc;rw[List.getElem?_zipWith,hm]at hc;have hlt:=cr hm;have hlc:i<cs.length:=by have:=ok.csL;omega
 have h2:=List.getElem?_eq_getElem hlc;rw[h2]at hc;injection hc with hc;obtain⟨_,_,_,_,_,h6,_,h8⟩:=hs.mems m (List.mem_of_getElem? hm);have:=WU (v:=v) (ok.ok i m cs[i] hm h2) h6;rw[<-hc];exact⟨this.sor,by have:=this.len;unfold oD;omega,this.at_,this.wd⟩
section
variable{n:au}{V:Nat}(hs:bo n V)
include hs
theorem oY{l:Int}(h:l∈bG n):l<9223372036854775808:=by have:=hs.lits l h;have:=hs.v2;omega
theorem alc{m:aX}{w:jR}(hm:m∈n.mems)(hw:w∈m.writes):w.on<9223372036854775808/\(∀l∈w.addr,l<9223372036854775808)/\∀l∈w.data,l<9223372036854775808:=by
 have hin:∀l∈j9 w,l∈bG n:=fun l hl=>by unfold bG;simp only[List.mem_append];refine .inl (.inr (List.mem_flatMap.2 ⟨m,hm,?_⟩));unfold h9;rw[List.mem_append];exact .inr (List.mem_flatMap.2 ⟨w,hw,hl⟩)
 exact⟨oY hs (hin _ (by unfold j9;simp)),fun l hl=>oY hs (hin _ (by unfold j9;simp[hl])),fun l hl=>oY hs (hin _ (by unfold j9;simp[hl]))⟩
end
def bt(k i:Nat):Bool:=decide (k / 2^i % 2=1)
theorem qK(k i:Nat):bt k (i+1)=bt (k / 2) i:=by unfold bt;rw[Nat.div_div_eq_div_mul,Nat.pow_succ,Nat.mul_comm]
theorem sk(k:Nat):bt k 0=decide (k % 2=1):=by unfold bt;rw[Nat.pow_zero,Nat.div_one]
theorem all_succ(f:Nat->Bool)(i:Nat):(List.range (i+1)).all f=(f 0&&(List.range i).all fun j=>f (j+1)):=by rw[List.range_succ_eq_map,List.all_cons,List.all_map];rfl
theorem Ql:∀i k:Nat,Bool.xor (bt k i) ((List.range i).all (bt k))=bt (k+1) i
 |0,k=>by
  rw[sk,sk];show Bool.xor _ true=_;by_cases q:k % 2=1
  .rw[decide_eq_true q,decide_eq_false (by omega)];rfl
  .rw[decide_eq_false q,decide_eq_true (by omega)];rfl
 |i+1,k=>by
  have e:(fun j=>bt k (j+1))=bt (k / 2):=by funext j;exact qK k j
  rw[all_succ,e,qK,qK,sk];by_cases q:k % 2=1
  .rw[decide_eq_true q,Bool.true_and,show(k+1) / 2=k / 2+1 by omega];exact Ql i (k / 2)
  .rw[decide_eq_false q,Bool.false_and,show(k+1) / 2=k / 2 by omega];cases bt (k / 2) i<;>rfl
theorem DX:∀w k b:Nat,((List.range w).all fun j=>decide (bt k j=bt b j))=decide (k % 2^w=b % 2^w)
 |0,k,b=>by rw[decide_eq_true (by rw[Nat.pow_zero,Nat.mod_one,Nat.mod_one])];rfl|w+1,k,b=>by
  have e:(fun j=>decide (bt k (j+1)=bt b (j+1)))=fun j=>decide (bt (k / 2) j=bt (b / 2) j):=by funext j;rw[qK,qK]
  rw[all_succ,e,DX w (k / 2) (b / 2),sk,sk];have hk:k % 2^(w+1)=k % 2+2*(k / 2 % 2^w):=by rw[Nat.pow_succ,Nat.mul_comm,Nat.mod_mul]
  have hb:b % 2^(w+1)=b % 2+2*(b / 2 % 2^w):=by rw[Nat.pow_succ,Nat.mul_comm,Nat.mod_mul]
  rw[hk,hb];generalize k / 2 % 2^w=x;generalize b / 2 % 2^w=y;by_cases q1:k % 2=1<;>by_cases q2:b % 2=1
  .rw[decide_eq_true q1,decide_eq_true q2,show decide (k % 2+2*x=b % 2+2*y)=decide (x=y)from decide_eq_decide.2 ⟨fun h=>by omega,fun h=>by omega⟩];cases decide (x=y)<;>rfl
  .rw[decide_eq_true q1,decide_eq_false q2,decide_eq_false (p:=k % 2+2*x=b % 2+2*y) (by omega)];rfl
  .rw[decide_eq_false q1,decide_eq_true q2,decide_eq_false (p:=k % 2+2*x=b % 2+2*y) (by omega)];rfl
  .rw[decide_eq_false q1,decide_eq_false q2,show decide (k % 2+2*x=b % 2+2*y)=decide (x=y)from decide_eq_decide.2 ⟨fun h=>by omega,fun h=>by omega⟩];cases decide (x=y)<;>rfl
theorem P9:∀(l:List (Int×Bool)) (v:List Bool) (q:Int×Bool),(l.map fun p=>p.1.toNat).Nodup->q∈l->q.1.toNat<v.length->(dJ v l).getD q.1.toNat false=q.2
 |[],_,_,_,h,_=>nomatch h
 |p::l,v,q,hn,h,hv=>by
  have hn:=List.nodup_cons.1 hn;show(dJ (v.set p.1.toNat p.2) l).getD q.1.toNat false=_;rcases List.mem_cons.1 h with rfl|h
  .rw[vt l _ _ (fun r hr e=>hn.1 (List.mem_map.2 ⟨r,hr,e⟩)),List.getD_eq_getElem?_getD,List.getElem?_set_self hv];rfl
  .exact P9 l _ q hn.2 h (by rw[List.length_set];exact hv)
section
variable{n:au}{w bad V:Nat}(C:nc n w bad)(hs:bo n V)(ha:de (aF n) V=true)
def nW(v:List Bool)(x:Int):Bool:=v.getD x.toNat false
theorem vH{v:List Bool}(h0:v.getD 0 false=false){l:Int}(hl:0<=l):bg l v=lv (nW v) l:=by
 unfold bg lv nW;rw[if_neg (by omega)];by_cases q:0<l / 2
 .rw[decide_eq_true q,Bool.true_and];cases decide (l % 2=1)<;>cases v.getD (l / 2).toNat false<;>rfl
 .rw[decide_eq_false q,Bool.false_and,show(l / 2).toNat=0 by omega,h0];cases decide (l % 2=1)<;>rfl
include C in
theorem Qn{x:aP×aJ}(hx:x∈n6 n):∃a∈n.ands,x.2.nd.to=[a.var.toNat]:=by
 have hm:x.2∈cP n:=by rw[<-md];exact List.mem_map_of_mem hx
 unfold cP at hm;rw[C.mems,List.flatMap_nil,List.append_nil]at hm;obtain⟨a,h,e⟩:=List.mem_map.1 hm;exact⟨a,h,by rw[<-e];rfl⟩
include C hs ha
theorem ac5{ls:List Bool}(hl:ls.length=w):(dg n ls [] []).getD 0 false=false/\(∀i,i<w->(dg n ls [] []).getD (i+1) false=ls.getD i false)/\Cons (nW (dg n ls [] [])) n.ands:=by
 have hd:bp n=n.latches.map (·.var)++n.ands.map (·.var):=by unfold bp;rw[C.ins,C.mems,List.flatMap_nil,List.append_nil,List.nil_append]
 have hrng:∀x∈bp n,1<=x/\x<=(V:Int):=hs.rng;have hV:n.vars.toNat=V:=by rw[hs.vars];rfl
 have hw:n.latches.length=w:=by have:=congrArg List.length C.vars;rw[List.length_map,qU]at this;omega
 have h0:(dg n ls [] []).getD 0 false=false:=by
  rw[PX hs ha ls [] [] (fun x hx=>?_)]
  .unfold jG;rw[C.ins,List.zip_nil_left];rw[vt _ _ _ (fun q hq e=>?_)]
   .show(List.replicate (n.vars.toNat+1) false).getD 0 false=false;rw[List.replicate_succ];rfl
   .have hq':=(List.of_mem_zip (show(q.1,q.2)∈_ from hq)).1;have:=hrng q.1 (by rw[hd];exact List.mem_append_left _ hq');omega
  .obtain⟨a,h,e⟩:=Qn C hx;rw[e];intro hm;have hm:=List.mem_singleton.1 hm;have:=hrng a.var (by rw[hd];exact List.mem_append_right _ (List.mem_map_of_mem h));omega
 refine⟨h0,fun i hi=>?_,fun a h=>?_⟩
 .have hmem:(((i+1:Nat):Int),ls.getD i false)∈(n.latches.map (·.var)).zip ls:=by
   refine List.mem_iff_getElem?.2 ⟨i,?_⟩;rw[List.getElem?_zip_eq_some,C.vars];refine⟨?_,?_⟩
   .unfold fr;rw[List.getElem?_map,List.getElem?_range (by omega)];show some ((0+1+i:Nat):Int)=_;rw[show 0+1+i=i+1 by omega]
   .rw[List.getD_eq_getElem?_getD,List.getElem?_eq_getElem (by omega)];rfl
  have hi1:((i+1:Nat):Int)∈bp n:=by rw[hd];exact List.mem_append_left _ (List.of_mem_zip hmem).1
  have hr:=hrng _ hi1;rw[PX hs ha ls [] [] (p:=i+1) (fun x hx=>?_)]
  .unfold jG;rw[C.ins,List.zip_nil_left];have hnd:(((n.latches.map (·.var)).zip ls).map fun p=>p.1.toNat).Nodup:=by
    have e:((n.latches.map (·.var)).zip ls).map (fun p=>p.1.toNat)=(fr 0 w).map Int.toNat:=by
     rw[C.vars];have:((fr 0 w).zip ls).map (fun p=>p.1.toNat)=(((fr 0 w).zip ls).map Prod.fst).map Int.toNat:=by rw[List.map_map];rfl
     rw[this,List.map_fst_zip (by rw[qU];omega)]
    rw[e];unfold fr;rw[List.map_map];show((List.range (w-0)).map fun j=>((0+1+j:Nat):Int).toNat).Nodup;unfold List.Nodup;rw[List.pairwise_map];exact List.Pairwise.imp (fun h e=>h (by omega)) (List.nodup_range (n:=w-0))
   have:=P9 ((n.latches.map (·.var)).zip ls) (dJ (List.replicate (n.vars.toNat+1) false) []) (((i+1:Nat):Int),ls.getD i false) hnd hmem (by show(i+1)<(List.replicate (n.vars.toNat+1) false).length;rw[List.length_replicate,hV];omega);exact this
  .obtain⟨a,h,e⟩:=Qn C hx;rw[e];intro hm;have hm:=List.mem_singleton.1 hm;have hnd:=hs.nodup;rw[hd]at hnd;have hdis:=(List.nodup_append.1 hnd).2.2;have r2:=hrng a.var (by rw[hd];exact List.mem_append_right _ (List.mem_map_of_mem h));exact hdis _ (List.of_mem_zip hmem).1 _ (List.mem_map_of_mem h) (by show((i+1:Nat):Int)=a.var;omega)
 .have hl':∀x∈fJ a,0<=x:=fun x hx=>(hs.lits x (by unfold bG;simp only[List.mem_append,List.mem_flatMap];exact .inr ⟨a,h,hx⟩)).1;have e:=ad2 hs ha ls [] [] h;rw[vH h0 (hl' a.a (by simp[fJ])),vH h0 (hl' a.b (by simp[fJ]))]at e;exact e
end
section
variable{n:au}{w bad V:Nat}(C:nc n w bad)(hs:bo n V)(ha:de (aF n) V=true)
theorem acA{k w i:Nat}(h:i<w):(bh k w).getD i false=bt k i:=by unfold bh;rw[List.getD_eq_getElem?_getD,List.getElem?_map,List.getElem?_range h];rfl
theorem Dn{f g:Nat->Bool}{i:Nat}(h:∀j,j<i->f j=g j):(List.range i).all f=(List.range i).all g:=by induction i with|zero=>rfl|succ i ih=>rw[List.range_succ,List.all_append,List.all_append,ih (fun j hj=>h j (by omega))];simp[h i (by omega)]
include C in
theorem qM:n.latches.length=w:=by have:=congrArg List.length C.vars;rw[List.length_map,qU]at this;omega
include C hs ha
theorem ac3(k:Nat):dR n (dg n (bh k w) [] [])=bh (k+1) w/\jr n (dg n (bh k w) [] [])=[decide (k % 2^w=bad % 2^w)]/\kM n (dg n (bh k w) [] [])=true:=by
 obtain⟨h0,h1,h2⟩:=ac5 C hs ha (eZ k w);obtain⟨v,hv⟩:∃v,v=dg n (bh k w) [] []:=⟨_,rfl⟩;rw[<-hv]at h0 h1 h2 |-;have nu0:nW v 0=false:=h0;have nu:∀i,i<w->nW v ((i+1:Nat):Int)=bt k i:=fun i hi=>by show v.getD (((i+1:Nat):Int)).toNat false=_;rw[Int.toNat_natCast,h1 i hi,acA hi]
 have hll:=qM C;refine⟨?_,?_,?_⟩
 .refine List.ext_getElem? fun i=>?_;unfold dR;by_cases hi:i<w
  .have hil:i<n.latches.length:=by omega
   have hn:=C.next (nW v) nu0 h2 i hi;have e1:nxt n.latches i=n.latches[i].next:=by unfold nxt;rw[List.getElem?_eq_getElem hil];rfl
   have hp:0<=n.latches[i].next:=(hs.lits _ (by unfold bG;simp only[List.mem_append,List.mem_map];exact .inl (.inl (.inl (.inl (.inl ⟨_,List.getElem_mem hil,rfl⟩)))))).1;rw[e1,nu i hi,Dn (g:=bt k) (fun j hj=>nu j (by omega)),Ql]at hn;rw[List.getElem?_map,List.getElem?_eq_getElem hil];show some (bg n.latches[i].next v)=_;rw[vH h0 hp,hn];unfold bh;rw[List.getElem?_map,List.getElem?_range hi];rfl
  .rw[List.getElem?_eq_none (by rw[List.length_map];omega),List.getElem?_eq_none (by rw[eZ];omega)]
 .obtain⟨z,hz,hb⟩:=C.bads;have hp:0<=z:=(hs.lits z (by unfold bG;rw[hz];simp)).1;unfold jr;rw[hz];show[bg z v]=_;rw[vH h0 hp,hb (nW v) nu0 h2,Dn (g:=fun j=>decide (bt k j=bt bad j)) (fun j hj=>by rw[nu j hj];rfl),DX]
 .unfold kM;rw[C.cons];rfl
end
theorem DB:∀w k:Nat,bF (bh k w)=k % 2^w
 |0,k=>by rw[Nat.pow_zero,Nat.mod_one];rfl|w+1,k=>by
  rw[Je,y0,DB w k,eZ,Nat.mod_pow_succ];have:k / 2^w % 2=0\/k / 2^w % 2=1:=by omega
  rcases this with h|h
  .rw[h,decide_eq_false (by omega)];simp
  .rw[h,decide_eq_true rfl];simp
section
variable{n:au}{w bad:Nat}(C:nc n w bad)
include C
theorem Pk:cw n=0:=by unfold cw;rw[if_neg (fun q=>q C.ok),C.mems];rfl
theorem vD:bq n=(w:Int)/\wid n=w:=by
 have h:=qM C;have e:bq n=(w:Int):=by unfold bq;rw[Pk C,h];omega
 exact⟨e,by unfold wid;rw[e];rfl⟩
theorem ac4(hw:w<=10):∃V,eY n V:=by refine afd ?_;unfold lK;rw[if_neg (fun q=>q C.ok),if_neg (by rw[C.ins];decide),(vD C).1,if_neg (by omega)]
theorem om{V:Nat}(t:eY n V)(k:Nat):bu n k=(bh k w,[]):=by unfold bu;rw[vQ t k,(vD C).2,C.mems];show((bh k w).take n.latches.length,_)=_;rw[qM C,List.take_of_length_le (by rw[eZ];omega)];rfl
theorem Pm(k:Nat):jQ (aQ n) (bh k w) []=if k % 2^w=0 then 0 else 14:=by
 have hll:=qM C;have hm:(aQ n).2.2.2.2.2.2.1=[]:=by show n.mems.map ak=[];rw[C.mems];rfl
 have hl:(aQ n).2.2.1=n.latches.map aB:=rfl;have f0:dO (aQ n) (bh k w,([],()))=0:=by
  unfold dO;rw[jP,if_neg (fun q=>q C.ok)];have:db (aQ n) (bh k w,([],()))=true:=by unfold db;rw[hm,hl];show(decide ((bh k w).length=(n.latches.map aB).length)&&decide (([]:List (List aq.T)).length=0)&&(List.range 0).all _)=true;rw[eZ,List.length_map,hll,decide_eq_true rfl];rfl
  rw[this]
 have f1:decide (dO (aQ n) (bh k w,(([]:List (List aq.T)),()))=0)=true:=decide_eq_true f0;have e:(List.range (n.latches.map aB).length).all (iu (n.latches.map aB) (bh k w))=decide (k % 2^w=0):=by
  rw[List.length_map,hll,Dn (g:=fun j=>decide (bt k j=bt 0 j)) (fun j hj=>?_),DX,Nat.zero_mod];have hjl:j<n.latches.length:=by omega
  have e0:(n.latches.map aB)[j]?=some (aB n.latches[j]):=by rw[List.getElem?_map,List.getElem?_eq_getElem hjl];rfl
  have ei:dc (n.latches.map aB) (j:Int)=0:=by
   have eg:gt aa (n.latches.map aB) (j:Int)=aB n.latches[j]:=aS (σ:=aa) e0;unfold dc;rw[eg];have hi:(n.latches.map (·.init))[j]?=some (0:Int):=by rw[C.init,List.getElem?_replicate,if_pos hj]
   rw[List.getElem?_map,List.getElem?_eq_getElem hjl]at hi;exact Option.some.inj hi
  have eb:fR (bh k w) (j:Int)=bt k j:=by
   have e1:(bh k w)[j]?=some (bt k j):=by unfold bh;rw[List.getElem?_map,List.getElem?_range hj];rfl
   exact aS (σ:=.bool) e1
  unfold iu;rw[ei,eb];have b0:bt 0 j=false:=by unfold bt;rw[Nat.zero_div];rfl
  rw[b0];cases bt k j<;>rfl
 have f2:(List.range (n.mems.map ak).length).all (pM (n.mems.map ak) ([]:List (List aq.T)))=true:=by rw[C.mems];rfl
 show(match decide (dO (aQ n) (bh k w,(([]:List (List aq.T)),()))=0)with|false=>dO (aQ n) (bh k w,(([]:List (List aq.T)),()))|true=>match(List.range (n.latches.map aB).length).all (iu (n.latches.map aB) (bh k w))with|false=>(14:Int)|true=>match(List.range (n.mems.map ak).length).all (pM (n.mems.map ak) ([]:List (List aq.T)))with|false=>14|true=>0)=_;rw[f1,e,f2];by_cases q:k % 2^w=0
 .rw[decide_eq_true q,if_pos q]
 .rw[decide_eq_false q,if_neg q]
theorem O8{V:Nat}(t:eY n V):∀k,1<=k->k<=2^w->eK n k=[0]
 |0,h,_=>by omega|1,_,_=>by
  rw[DA];have:jA n 0=true:=by unfold jA;rw[om C t 0];exact decide_eq_true ((Pm C 0).trans (if_pos (Nat.zero_mod _)))
  rw[if_pos this];rfl
 |k+2,_,h=>by
  rw[DA,O8 t (k+1) (by omega) (by omega)];have:jA n (k+1)=false:=by
   unfold jA;rw[om C t (k+1)];have hq:(k+1) % 2^w≠0:=by rw[Nat.mod_eq_of_lt (by omega)];omega
   have hl:jQ (aQ n) (bh (k+1) w) []=14:=(Pm C (k+1)).trans (if_neg hq);exact decide_eq_false (fun h=>by have h':jQ (aQ n) (bh (k+1) w) []=0:=h;rw[hl]at h';omega)
  rw[this];rfl
end
theorem Xp{x k:Int}(h0:0<=x)(h:x<2^k.toNat):fV x k=true:=by unfold fV;rw[decide_eq_true (Int.ediv_eq_zero_of_lt h0 h)]
theorem alm{m:aX}{a w:Nat}{M:List aD}(m1:1<=m.addr/\m.addr<=62)(m2:1<=m.word/\m.word<=64)(ha:(a:Int)<2^m.addr.toNat)(hw:(w:Int)<2^m.word.toNat) :
  LP ((a:Int),((w:Int),(m.addr,(m.word,(M,())))))=some (true,(m.addr,(m.word,(wr M a w,())))):=by
 have f1:=pY (v:=(a:Int)) (w:=m.addr) ⟨by omega,by omega⟩;have f2:=pY (v:=(w:Int)) (w:=m.word) ⟨by omega,by omega⟩;rw[Xp (by omega) ha]at f1;rw[Xp (by omega) hw]at f2;show Lj AJ (a:Int) (w:Int) m.addr m.word M=_;unfold Lj;have e:∀A B:List aD,A=B->(some (true,(m.addr,(m.word,(A,())))):Option (Out AK))=some (true,(m.addr,(m.word,(B,())))):=by rintro _ _ rfl;rfl
 refine af f1 (ao rfl (af f2 (ao rfl ?_)));unfold wr;by_cases h0:(w:Int)=0
 .rw[if_pos h0];exact av (al h0) (e _ _ (Jp _ _))
 .rw[if_neg h0];exact ao (aw h0) (e _ _ (Jo _ _ _))
section
variable{n:au}{V:Nat}(hs:bo n V)
include hs
theorem ad6(ord:List (aP×aJ))(ls:List Bool)(rs:List cf)(v:List Bool){i K:Nat}{m:aX}{c:List aD}(hm:n.mems[i]?=some m)(hc:kW m K c)(hK:K<=5000)(hr:i<rs.length) :
  Hl ((i:Int),(m.writes.map cK,((m.writes.length:Int),((0:Int),mc n ord ls (rs.set i (m.addr,(m.word,(c,())))) (v,())))))=some (mc n ord ls (rs.set i (m.addr,(m.word,(oD v m c,())))) (v,())):=by
 have hmm:=List.mem_of_getElem? hm;obtain⟨m1,m2,m3,m4,_,h6,_,h8⟩:=hs.mems m hmm;unfold Hl;delta u16;refine bN (fun k:Nat=>((i:Int),(m.writes.map cK,((m.writes.length:Int),((k:Int),mc n ord ls (rs.set i (m.addr,(m.word,((m.writes.take k).foldl (kI v) c,())))) (v,())))))) m.writes.length rfl ?_ ?_ (aW (by omega))
 .intro k hk;have hx:=List.getElem?_eq_getElem hk;have hwm:=List.getElem_mem hk;have hst:(m.writes.take (k+1)).foldl (kI v) c=kI v ((m.writes.take k).foldl (kI v) c) m.writes[k]:=by rw[Pl.cg hx,List.foldl_append];rfl
  rw[hst];generalize (m.writes.take k).foldl (kI v) c=u;obtain⟨l1,l2,l3⟩:=alc hs hmm hwm;obtain⟨a1,a2⟩:=h6 _ hwm;have hw':(m.writes.map cK)[k]?=some (cK m.writes[k]):=by rw[List.getElem?_map,hx];rfl
  have hwl:=cr hw';generalize m.writes[k]=w at l1 l2 l3 a1 a2 hw';have gW:gt bj (m.writes.map cK) (k:Int)=cK w:=aS (σ:=bj) hw';have e0:gr ((gt bj (m.writes.map cK) (k:Int)).1,(v,()))=some (bg w.on v,()):=by rw[gW];exact nz w.on v l1
  have e1:nm ((gt bj (m.writes.map cK) (k:Int)).2.1,(v,()))=some ((bF (w.addr.map (bg · v)):Int),()):=by rw[gW];exact Jd w.addr v (by omega) l2
  have e2:nm ((gt bj (m.writes.map cK) (k:Int)).2.2.1,(v,()))=some ((bF (w.data.map (bg · v)):Int),()):=by rw[gW];exact Jd w.data v (by omega) l3
  have hg:List.getD (rs.set i (m.addr,(m.word,(u,())))) (Int.toNat (i:Int)) zR=(m.addr,(m.word,(u,()))):=by rw[List.getD_eq_getElem?_getD,Int.toNat_natCast,List.getElem?_set_self hr];rfl
  have e3:LP ((bF (w.addr.map (bg · v)):Int),((bF (w.data.map (bg · v)):Int),((List.getD (rs.set i (m.addr,(m.word,(u,())))) (Int.toNat (i:Int)) zR).1,((List.getD (rs.set i (m.addr,(m.word,(u,())))) (Int.toNat (i:Int)) zR).2.1,((List.getD (rs.set i (m.addr,(m.word,(u,())))) (Int.toNat (i:Int)) zR).2.2.1,())))))=some (true,(m.addr,(m.word,(wr u (bF (w.addr.map (bg · v))) (bF (w.data.map (bg · v))),())))):=by rw[hg];exact alm ⟨m1,m2⟩ ⟨m3,m4⟩ (yZ (by rw[List.length_map];exact a1)) (yZ (by rw[List.length_map];exact a2))
  have e:∀(A B:List cf) (p q:Int),A=B->p=q->(some (.inl ((i:Int),(m.writes.map cK,((m.writes.length:Int),(p,mc n ord ls A (v,())))))):Option (TL xO.σs⊕Out xD))=some (.inl ((i:Int),(m.writes.map cK,((m.writes.length:Int),(q,mc n ord ls B (v,())))))):=by rintro _ _ _ _ rfl rfl;rfl
  unfold mc nt
  try dsimp only
  unfold yb;refine av (al (show(k:Int)<(m.writes.length:Int) by omega)) (aj (aA ⟨by omega,by omega⟩) (af e0 ?_));unfold kI;cases hon:bg w.on v with|true=>rw[if_pos rfl];refine av rfl (af e1 (af e2 (af e3 (e _ _ _ _ ?_ (aZ (by omega) (by omega))))));exact List.set_set _|false=>rw[if_neg (by simp)];exact ao rfl (e _ _ _ _ rfl (aZ (by omega) (by omega)))
 .unfold mc nt
  try dsimp only
  unfold yb;rw[List.take_length];exact ao (aw (show ¬(m.writes.length:Int)<(m.writes.length:Int) by omega)) rfl
theorem alI(ord:List (aP×aJ))(ls:List Bool)(rs:List cf)(v:List Bool){i K:Nat}{m:aX}{c:List aD}(hm:n.mems[i]?=some m)(hc:kW m K c)(hK:K<=5000)(hr:rs[i]?=some (m.addr,(m.word,(c,())))) :
  Vg ((i:Int),mc n ord ls rs (v,()))=some (mc n ord ls (rs.set i (m.addr,(m.word,(oD v m c,())))) (v,())):=by
 have hm':(n.mems.map ak)[i]?=some (ak m):=by rw[List.getElem?_map,hm];rfl
 have hi:=cr hm';have hri:=cr hr;have hset:rs.set i (m.addr,(m.word,(c,())))=rs:=by rw[List.getElem?_eq_getElem hri]at hr;injection hr with hr;rw[<-hr];exact List.set_getElem_self hri
 have e2:=ad6 hs ord ls rs v hm hc hK hri;rw[hset]at e2;have gM:gt ab (n.mems.map ak) (i:Int)=ak m:=aS (σ:=ab) hm';have hwl:((gt ab (n.mems.map ak) (i:Int)).2.2.2.2.1)=m.writes.map cK:=by rw[gM];rfl
 have ee:∀(L:List bj.T),L=m.writes.map cK->Hl ((Int.ofNat (Int.toNat (i:Int))),(L,((Int.ofNat L.length),((0:Int),mc n ord ls rs (v,())))))=some (mc n ord ls (rs.set i (m.addr,(m.word,(oD v m c,())))) (v,())):=by
  rintro _ rfl;have hl:Int.ofNat (m.writes.map cK).length=(m.writes.length:Int):=by rw[List.length_map];rfl
  rw[hl];exact e2
 exact aj (show ar (i:Int) (List.length rs)=true from aA ⟨by omega,by omega⟩) (aj (show ar (i:Int) (List.length (n.mems.map ak))=true from aA ⟨by omega,by omega⟩) (af (ee _ hwl) rfl))
theorem ae7(ord:List (aP×aJ))(ls:List Bool)(rs:List cf)(v:List Bool) :
  VD (n.constraints,((n.constraints.length:Int),((0:Int),mc n ord ls rs (true,(v,())))))=some (mc n ord ls rs (kM n v,(v,()))):=by
 have hl:=hs.lens.2.2.2.1;unfold VD;delta u16;refine bN (fun k:Nat=>(n.constraints,((n.constraints.length:Int),((k:Int),mc n ord ls rs ((n.constraints.take k).all (bg · v),(v,())))))) n.constraints.length rfl ?_ ?_ (aW (by omega))
 .intro k hk;have hx:=List.getElem?_eq_getElem hk;have hm:n.constraints[k]∈bG n:=by unfold bG;simp only[List.mem_append];exact .inl (.inl (.inr (List.getElem_mem hk)))
  have e1:gr (gt (.int .i64) n.constraints (k:Int),(v,()))=some (bg n.constraints[k] v,()):=by rw[aS (σ:=.int .i64) hx];exact nz _ _ (oY hs hm)
  have ht:(n.constraints.take (k+1)).all (bg · v)=((n.constraints.take k).all (bg · v)&&bg n.constraints[k] v):=by rw[Pl.cg hx,List.all_append];simp
  have e:∀(a b:Bool) (p q:Int),a=b->p=q->(some (.inl (n.constraints,((n.constraints.length:Int),(p,mc n ord ls rs (a,(v,())))))):Option (TL xZ.σs⊕Out xR))=some (.inl (n.constraints,((n.constraints.length:Int),(q,mc n ord ls rs (b,(v,())))))):=by rintro _ _ _ _ rfl rfl;rfl
  rw[ht];unfold mc nt
  try dsimp only
  unfold yk;refine av (al (show(k:Int)<(n.constraints.length:Int) by omega)) (aj (aA ⟨by omega,by omega⟩) ?_);cases(n.constraints.take k).all (bg · v)with
  |true=>exact av rfl (af e1 (e _ _ _ _ (by cases bg n.constraints[k] v<;>rfl) (aZ (by omega) (by omega))))
  |false=>exact ao rfl (e _ _ _ _ rfl (aZ (by omega) (by omega)))
 .unfold mc nt
  try dsimp only
  unfold yk;rw[List.take_length];exact ao (aw (show ¬(n.constraints.length:Int)<(n.constraints.length:Int) by omega)) rfl
theorem adU(ord:List (aP×aJ))(ls:List Bool)(rs:List cf)(f:Bool)(v:List Bool) :
  Vp (n.bads,((n.bads.length:Int),((0:Int),mc n ord ls rs (f,([],(v,()))))))=some (mc n ord ls rs (f,(jr n v,(v,())))):=by
 have hl:=hs.lens.2.2.2.1;unfold Vp;delta jW;refine bN (fun k:Nat=>(n.bads,((n.bads.length:Int),((k:Int),mc n ord ls rs (f,((n.bads.take k).map (bg · v),(v,()))))))) n.bads.length rfl ?_ ?_ (aW (by omega))
 .intro k hk;have hx:=List.getElem?_eq_getElem hk;have hm:n.bads[k]∈bG n:=by unfold bG;simp only[List.mem_append];exact .inl (.inl (.inl (.inr (List.getElem_mem hk))))
  have e1:gr (gt (.int .i64) n.bads (k:Int),(v,()))=some (bg n.bads[k] v,()):=by rw[aS (σ:=.int .i64) hx];exact nz _ _ (oY hs hm)
  have ht:(n.bads.take (k+1)).map (bg · v)=(n.bads.take k).map (bg · v)++[bg n.bads[k] v]:=by rw[Pl.cg hx,List.map_append];rfl
  have e:∀(a b:List Bool) (p q:Int),a=b->p=q->(some (.inl (n.bads,((n.bads.length:Int),(p,mc n ord ls rs (f,(a,(v,()))))))):Option (TL xU.σs⊕Out xH))=some (.inl (n.bads,((n.bads.length:Int),(q,mc n ord ls rs (f,(b,(v,()))))))):=by rintro _ _ _ _ rfl rfl;rfl
  unfold mc nt
  try dsimp only
  unfold ye;exact av (al (show(k:Int)<(n.bads.length:Int) by omega)) (aj (aA ⟨by omega,by omega⟩) (af e1 (aj (Er _ _ (by rw[List.length_map,List.length_take];omega)) (e _ _ _ _ ht.symm (aZ (by omega) (by omega))))))
 .unfold mc nt
  try dsimp only
  unfold ye;rw[List.take_length];exact ao (aw (show ¬(n.bads.length:Int)<(n.bads.length:Int) by omega)) rfl
theorem Xh{α:Type}{A B:List α}{k:Nat}{x:α}(hA:A[k]?=some x)(hB:k<B.length):(A.take k++B.drop k).set k x=A.take (k+1)++B.drop (k+1):=by have hk:=(List.getElem?_eq_some_iff.1 hA).1;rw[nv hB,ph (by rw[List.length_take];omega),Pl.cg hA];simp
theorem adV(ord:List (aP×aJ))(ls:List Bool)(rs:List cf)(f:Bool)(bs v:List Bool)(hls:ls.length=n.latches.length) :
  Vo (n.latches.map aB,(((n.latches.map aB).length:Int),((0:Int),mc n ord ls rs (f,(bs,(v,()))))))=some (mc n ord (dR n v) rs (f,(bs,(v,())))):=by
 have hl:=hs.lens.2.1;have hL:((n.latches.map aB).length:Int)=(n.latches.length:Int):=by rw[List.length_map]
 have hnl:(dR n v).length=n.latches.length:=by unfold dR;rw[List.length_map]
 unfold Vo;delta jW;refine bN (fun k:Nat=>(n.latches.map aB,(((n.latches.map aB).length:Int),((k:Int),mc n ord ((dR n v).take k++ls.drop k) rs (f,(bs,(v,()))))))) n.latches.length rfl ?_ ?_ (aW (by omega))
 .intro k hk;have hx:=List.getElem?_eq_getElem hk;have hx':(n.latches.map aB)[k]?=some (aB n.latches[k]):=by rw[List.getElem?_map,hx];rfl
  have hn:(dR n v)[k]?=some (bg n.latches[k].next v):=by unfold dR;rw[List.getElem?_map,hx];rfl
  have hm:n.latches[k].next∈bG n:=by unfold bG;simp only[List.mem_append];exact .inl (.inl (.inl (.inl (.inl (List.mem_map.2 ⟨_,List.getElem_mem hk,rfl⟩)))))
  have e1:gr ((gt aa (n.latches.map aB) (k:Int)).2.1,(v,()))=some (bg n.latches[k].next v,()):=by rw[aS (σ:=aa) hx'];exact nz n.latches[k].next v (oY hs hm)
  have hmix:((dR n v).take k++ls.drop k).set k (bg n.latches[k].next v)=(dR n v).take (k+1)++ls.drop (k+1):=Xh hs hn (by omega);have hml:((dR n v).take k++ls.drop k).length=n.latches.length:=by rw[List.length_append,List.length_take,List.length_drop];omega
  have e:∀(a b:List Bool) (p q:Int),a=b->p=q->(some (.inl (n.latches.map aB,(((n.latches.map aB).length:Int),(p,mc n ord a rs (f,(bs,(v,()))))))):Option (TL xT.σs⊕Out xG))=some (.inl (n.latches.map aB,(((n.latches.map aB).length:Int),(q,mc n ord b rs (f,(bs,(v,()))))))):=by rintro _ _ _ _ rfl rfl;rfl
  unfold mc nt
  try dsimp only
  unfold yd;exact av (al (show(k:Int)<((n.latches.map aB).length:Int) by omega)) (aj (aA ⟨by omega,by omega⟩) (af e1 (aj (aA ⟨by omega,by omega⟩) (e _ _ _ _ hmix (aZ (by omega) (by omega))))))
 .have hfin:(dR n v).take n.latches.length++ls.drop n.latches.length=dR n v:=by rw[List.drop_eq_nil_of_le (by omega),List.append_nil,List.take_of_length_le (by omega)]
  rw[hfin];unfold mc nt
  try dsimp only
  unfold yd;exact ao (aw (show ¬(n.latches.length:Int)<((n.latches.map aB).length:Int) by omega)) rfl
theorem adW(ord:List (aP×aJ))(ls nl:List Bool)(cs:List (List aD)){K:Nat}(hK:K<=5000)(ok:iW n K ls cs)(f:Bool)(bs v:List Bool) :
  Vn (((bc n cs).length:Int),((0:Int),mc n ord nl (bc n cs) (f,(bs,(v,())))))=some (mc n ord nl (bc n (d9 n cs v)) (f,(bs,()))):=by
 have hM:=hs.lens.2.2.2.2;have hcl:=ok.csL;have hz:(d9 n cs v).length=n.mems.length:=by unfold d9;rw[List.length_zipWith];omega
 have hr1:=sd hcl;have hr2:=sd hz;unfold Vn;delta u16;refine bN (fun k:Nat=>(((bc n cs).length:Int),((k:Int),mc n ord nl ((bc n (d9 n cs v)).take k++(bc n cs).drop k) (f,(bs,(v,())))))) n.mems.length rfl ?_ ?_ (aW (by omega))
 .intro k hk;have hx:=List.getElem?_eq_getElem hk;have hkc:k<cs.length:=by omega
  have hy:=List.getElem?_eq_getElem hkc;have hn:(d9 n cs v)[k]?=some (oD v n.mems[k] cs[k]):=by unfold d9;rw[List.getElem?_zipWith,hx,hy]
  have ha:=si hx hy;have hb:=si hx hn;have hmid:((bc n (d9 n cs v)).take k++(bc n cs).drop k)[k]?=some (n.mems[k].addr,(n.mems[k].word,(cs[k],()))):=by rw[List.getElem?_append_right (by rw[List.length_take];omega),List.length_take,Nat.min_eq_left (by omega),Nat.sub_self,List.getElem?_drop];exact ha
  have ew:=alI hs ord nl ((bc n (d9 n cs v)).take k++(bc n cs).drop k) v hx (ok.ok k _ _ hx hy) hK hmid;rw[Xh hs hb (by omega)]at ew;have e:∀(p q:Int) (R:List cf),p=q->(some (.inl (((bc n cs).length:Int),(p,mc n ord nl R (f,(bs,(v,())))))):Option (TL xS.σs⊕Out xF))=some (.inl (((bc n cs).length:Int),(q,mc n ord nl R (f,(bs,(v,())))))):=by rintro _ _ _ rfl;rfl
  unfold mc nt
  try dsimp only
  unfold yc;exact av (al (show(k:Int)<((bc n cs).length:Int) by omega)) (af ew (e _ _ _ (aZ (by omega) (by omega))))
 .have hfin:(bc n (d9 n cs v)).take n.mems.length++(bc n cs).drop n.mems.length=bc n (d9 n cs v):=by rw[List.drop_eq_nil_of_le (by omega),List.append_nil,List.take_of_length_le (by omega)]
  rw[hfin];unfold mc nt
  try dsimp only
  unfold yc;exact ao (aw (show ¬(n.mems.length:Int)<((bc n cs).length:Int) by omega)) rfl
theorem adX(ft:Fit n){K:Nat}(hK:K<=5000)(ls ins:List Bool)(cs:List (List aD))(ok:iW n K ls cs)(hi:ins.length=n.inputs.length) :
  Tj (ins,mc n (aM n V) ls (bc n cs) ())=some (kM n (dg n ls cs ins),((0:Int),mc n (aM n V) (dR n (dg n ls cs ins)) (bc n (d9 n cs (dg n ls cs ins))) (jr n (dg n ls cs ins),()))):=by
 have ev:=alz hs ft hK ls ins cs ok hi;generalize dg n ls cs ins=v at ev;exact af ev (ao rfl (af (ae7 hs (aM n V) ls (bc n cs) v) (af (adU hs (aM n V) ls (bc n cs) (kM n v) v) (af (adV hs (aM n V) ls (bc n cs) (kM n v) (jr n v) v ok.lsL) (af (adW hs (aM n V) ls (dR n v) cs hK ok (kM n v) (jr n v) v) rfl)))))
end
theorem nU{L:List Int}(h:L.length<=1000000):oN (L,())=some (L,()):=aj (m9 (by decide) (by show L.length<=_;omega)) rfl
theorem clL{L:List aa.T}(h:L.length<=1000000):aiX (L,())=some (L,()):=aj (m9 (by decide) (by show L.length<=_;omega)) rfl
theorem clA{L:List aa.T}(h:L.length<=1000000):ajq (L,())=some (L,()):=aj (m9 (by decide) (by show L.length<=_;omega)) rfl
theorem clM{L:List ab.T}(h:L.length<=1000000):aiQ (L,())=some (L,()):=aj (m9 (by decide) (by show([]++L).length<=_;rw[List.nil_append];omega)) rfl
theorem clR{L:List bJ.T}(h:L.length<=1000000):Gi (L,())=some (L,()):=aj (m9 (by decide) (by show([]++L).length<=_;rw[List.nil_append];omega)) rfl
theorem clW{L:List bj.T}(h:L.length<=1000000):FV (L,())=some (L,()):=aj (m9 (by decide) (by show([]++L).length<=_;rw[List.nil_append];omega)) rfl
theorem My{L:List Bool}(h:L.length<=1000000):GD (L,())=some (L,()):=aj (m9 (by decide) (by show([]++L).length<=_;rw[List.nil_append];omega)) rfl
section
variable(i:Nat)(t41 t42 b00:Int)(b01:List Int)(b02:List aa.T)(b03 b04 b05:List Int)(b07:List aa.T)(b1:List ab.T)(m0 m1:Int)(m2:Bool)(rs:List bJ.T)(ws:List bj.T)(z:Int)
theorem al0(hr:rs.length<=1000)(hrr:∀r∈rs,r.2.1.length<=100000) :
  IM ((i:Int),(t41,(t42,((rs.length:Int),((0:Int),(b00,(b01,(b02,(b03,(b04,(b05,(b07,((i:Int),(b1,(m0,(m1,(m2,(rs,(ws,(z,()))))))))))))))))))))=some ((i:Int),(t41,(t42,(b00,(b01,(b02,(b03,(b04,(b05,(b07,((i:Int),(b1,(m0,(m1,(m2,(rs,(ws,(z,())))))))))))))))))):=by
 unfold IM;delta kH;refine bN (fun k:Nat=>((i:Int),(t41,(t42,((rs.length:Int),((k:Int),(b00,(b01,(b02,(b03,(b04,(b05,(b07,((i:Int),(b1,(m0,(m1,(m2,(rs,(ws,(z,()))))))))))))))))))))) rs.length rfl ?_ ?_ (aW (by omega))
 .intro k hk;have hx:=List.getElem?_eq_getElem hk;have hg:gt bJ rs (k:Int)=rs[k]:=aS (σ:=bJ) hx;have e1:oN ((gt bJ rs (k:Int)).2.1,())=some ((gt bJ rs (k:Int)).2.1,()):=nU (by rw[hg];exact Nat.le_trans (hrr _ (List.getElem_mem hk)) (by decide));have e:∀(p q:Int) (A:List bJ.T),p=q->A=rs->(some (.inl ((i:Int),(t41,(t42,((rs.length:Int),(p,(b00,(b01,(b02,(b03,(b04,(b05,(b07,((i:Int),(b1,(m0,(m1,(m2,(A,(ws,(z,()))))))))))))))))))))):Option (TL yE.σs⊕Out yz))=some (.inl ((i:Int),(t41,(t42,((rs.length:Int),(q,(b00,(b01,(b02,(b03,(b04,(b05,(b07,((i:Int),(b1,(m0,(m1,(m2,(rs,(ws,(z,()))))))))))))))))))))):=by rintro _ _ _ rfl rfl;rfl
  have hi:ar (k:Int) (List.length rs)=true:=aA ⟨by omega,by omega⟩
  try dsimp only
  unfold yO;exact av (al (show(k:Int)<(rs.length:Int) by omega)) (aj (by show Nat.beq i i=true;simp) (aj (by show Nat.beq i i=true;simp) (aj hi (af e1 (aj hi (e _ _ _ (aZ (by omega) (by omega)) (Jm (σ:=bJ) hk rfl rfl)))))))
 .try dsimp only
  unfold yO;exact ao (aw (show ¬(rs.length:Int)<(rs.length:Int) by omega)) rfl
theorem al1(hr:ws.length<=1000)(hrr:∀r∈ws,r.2.1.length<=100000/\r.2.2.1.length<=100000) :
  IL ((i:Int),(t41,(t42,((ws.length:Int),((0:Int),(b00,(b01,(b02,(b03,(b04,(b05,(b07,((i:Int),(b1,(m0,(m1,(m2,(rs,(ws,(z,()))))))))))))))))))))=some (t41,(t42,(b00,(b01,(b02,(b03,(b04,(b05,(b07,((i:Int),(b1,(m0,(m1,(m2,(rs,(ws,(z,())))))))))))))))) ):=by
 unfold IL;delta kH;refine bN (fun k:Nat=>((i:Int),(t41,(t42,((ws.length:Int),((k:Int),(b00,(b01,(b02,(b03,(b04,(b05,(b07,((i:Int),(b1,(m0,(m1,(m2,(rs,(ws,(z,()))))))))))))))))))))) ws.length rfl ?_ ?_ (aW (by omega))
 .intro k hk;have hx:=List.getElem?_eq_getElem hk;have hg:gt bj ws (k:Int)=ws[k]:=aS (σ:=bj) hx;have hb:=hrr _ (List.getElem_mem hk);have e1:oN ((gt bj ws (k:Int)).2.1,())=some ((gt bj ws (k:Int)).2.1,()):=nU (by rw[hg];exact Nat.le_trans hb.1 (by decide));have e2:oN ((gt bj ws (k:Int)).2.2.1,())=some ((gt bj ws (k:Int)).2.2.1,()):=nU (by rw[hg];exact Nat.le_trans hb.2 (by decide));have e:∀(p q:Int) (A:List bj.T),p=q->A=ws->(some (.inl ((i:Int),(t41,(t42,((ws.length:Int),(p,(b00,(b01,(b02,(b03,(b04,(b05,(b07,((i:Int),(b1,(m0,(m1,(m2,(rs,(A,(z,()))))))))))))))))))))):Option (TL yD.σs⊕Out yy))=some (.inl ((i:Int),(t41,(t42,((ws.length:Int),(q,(b00,(b01,(b02,(b03,(b04,(b05,(b07,((i:Int),(b1,(m0,(m1,(m2,(rs,(ws,(z,()))))))))))))))))))))):=by rintro _ _ _ rfl rfl;rfl
  have hi:ar (k:Int) (List.length ws)=true:=aA ⟨by omega,by omega⟩;have hs1:List.set ws (Int.toNat (k:Int)) ((gt bj ws (k:Int)).1,((gt bj ws (k:Int)).2.1,((gt bj ws (k:Int)).2.2.1,())))=ws:=Jm (σ:=bj) hk rfl rfl;have hs2:∀A:List bj.T,A=ws->List.set A (Int.toNat (k:Int)) ((gt bj A (k:Int)).1,((gt bj A (k:Int)).2.1,((gt bj ws (k:Int)).2.2.1,())))=ws:=by rintro _ rfl;exact hs1
  try dsimp only
  unfold yN;exact av (al (show(k:Int)<(ws.length:Int) by omega)) (aj (by show Nat.beq i i=true;simp) (aj hi (af e1 (af e2 (aj (al rfl) (e _ _ _ (aZ (by omega) (by omega)) (hs2 _ hs1)))))))
 .try dsimp only
  unfold yN;exact ao (aw (show ¬(ws.length:Int)<(ws.length:Int) by omega)) rfl
end
theorem cl8{n:au}(ft:Fit n)(b00:Int)(b01:List Int)(b02:List aa.T)(b03 b04 b05:List Int)(b07:List aa.T)(z:Int) :
  Ww (((n.mems.map ak).length:Int),((0:Int),(b00,(b01,(b02,(b03,(b04,(b05,(b07,(n.mems.map ak,(z,())))))))))))=some (b00,(b01,(b02,(b03,(b04,(b05,(b07,(n.mems.map ak,(z,()))))))))):=by
 have hL:(n.mems.map ak).length=n.mems.length:=List.length_map ..;have hM:=ft.mems.1;unfold Ww;delta eH;refine bN (fun k:Nat=>(((n.mems.map ak).length:Int),((k:Int),(b00,(b01,(b02,(b03,(b04,(b05,(b07,(n.mems.map ak,(z,()))))))))))) ) n.mems.length rfl ?_ ?_ (aW (by omega))
 .intro k hk;have hx:=List.getElem?_eq_getElem hk;have hx':(n.mems.map ak)[k]?=some (ak n.mems[k]):=by rw[List.getElem?_map,hx];rfl
  have hf:=ft.mems.2 _ (List.getElem_mem hk);generalize n.mems[k]=m at hx' hf;have hg:gt ab (n.mems.map ak) (k:Int)=ak m:=aS (σ:=ab) hx';have e1:Gi ((gt ab (n.mems.map ak) (k:Int)).2.2.2.1,())=some (m.reads.map cq,()):=by rw[hg];exact clR (by show(m.reads.map cq).length<=_;rw[List.length_map];have:=hf.rdn;omega)
  have e2:FV ((gt ab (n.mems.map ak) (k:Int)).2.2.2.2.1,())=some (m.writes.map cK,()):=by rw[hg];exact clW (by show(m.writes.map cK).length<=_;rw[List.length_map];have:=hf.wrn;omega)
  have e13:=al0 k ((n.mems.map ak).length:Int) (k:Int) b00 b01 b02 b03 b04 b05 b07 (n.mems.map ak) (gt ab (n.mems.map ak) (k:Int)).1 (gt ab (n.mems.map ak) (k:Int)).2.1 (gt ab (n.mems.map ak) (k:Int)).2.2.1 (m.reads.map cq) (m.writes.map cK) z (by rw[List.length_map];have:=hf.rdn;omega) (fun r hr=>by obtain⟨r2,hr2,rfl⟩:=List.mem_map.1 hr;have:=(hf.rds r2 hr2).1;show r2.addr.length<=_;omega);have e18:=al1 k ((n.mems.map ak).length:Int) (k:Int) b00 b01 b02 b03 b04 b05 b07 (n.mems.map ak) (gt ab (n.mems.map ak) (k:Int)).1 (gt ab (n.mems.map ak) (k:Int)).2.1 (gt ab (n.mems.map ak) (k:Int)).2.2.1 (m.reads.map cq) (m.writes.map cK) z (by rw[List.length_map];have:=hf.wrn;omega) (fun r hr=>by obtain⟨r2,hr2,rfl⟩:=List.mem_map.1 hr;have:=hf.wrs r2 hr2;exact⟨by show r2.addr.length<=_;omega,by show r2.data.length<=_;omega⟩);have e:∀(p q:Int) (A:List ab.T),p=q->A=n.mems.map ak->(some (.inl (((n.mems.map ak).length:Int),(p,(b00,(b01,(b02,(b03,(b04,(b05,(b07,(A,(z,())))))))))))) :Option (TL yI.σs⊕Out yC))=some (.inl (((n.mems.map ak).length:Int),(q,(b00,(b01,(b02,(b03,(b04,(b05,(b07,(n.mems.map ak,(z,())))))))))))) :=by rintro _ _ _ rfl rfl;rfl
  have hst:List.set (n.mems.map ak) (Int.toNat (k:Int)) ((gt ab (n.mems.map ak) (k:Int)).1,((gt ab (n.mems.map ak) (k:Int)).2.1,((gt ab (n.mems.map ak) (k:Int)).2.2.1,(m.reads.map cq,(m.writes.map cK,())))))=n.mems.map ak:=Jm (σ:=ab) (by omega) (by rw[hg];rfl) rfl;have hi:ar (k:Int) (List.length (n.mems.map ak))=true:=aA ⟨by omega,by omega⟩;have nn:nQ (Int.toNat (k:Int)) (Int.toNat (k:Int))=true:=al rfl;have nb:Nat.beq (Int.toNat (k:Int)) (Int.toNat (k:Int))=true:=by simp
  try dsimp only
  unfold yU;refine av (al (show(k:Int)<((n.mems.map ak).length:Int) by omega)) (aj hi (af e1 (aj nn (aj nn (aj nn (aj nn (aj nn (aj (wq (fun x=>Sh.Zb5s x) _) (af e2 (aj nn (aj nn (aj nn (aj nb (aj nb (af e13 (aj nb (af e18 (e _ _ _ (aZ (show(k:Int)+1=((k+1:Nat):Int) by omega) (by omega)) hst))))))))))))))))))
 .try dsimp only
  unfold yU;exact ao (aw (show ¬(n.mems.length:Int)<((n.mems.map ak).length:Int) by omega)) rfl
theorem ac2{n:au}(ft:Fit n):alg (aQ n,())=some (aQ n,()):=by have e1:=nU (L:=n.inputs) (by have:=ft.ins.1;omega);have e2:=nU (L:=n.outputs) (by have:=ft.out.1;omega);have e3:=nU (L:=n.bads) (by have:=ft.bad.1;omega);have e4:=nU (L:=n.constraints) (by have:=ft.con.1;omega);have e5:=clL (L:=n.latches.map aB) (by rw[List.length_map];have:=ft.lat.1;omega);have e6:=clA (L:=n.ands.map aY) (by rw[List.length_map];have:=ft.ands.1;omega);have e7:=clM (L:=n.mems.map ak) (by rw[List.length_map];have:=ft.mems.1;omega);have e8:=cl8 ft n.vars n.inputs (n.latches.map aB) n.outputs n.bads n.constraints (n.ands.map aY) (0:Int);exact af e1 (af e2 (af e3 (af e4 (af e5 (af e6 (af e7 (af e8 rfl)))))))
theorem QF(n:au)(cs:List (List aD))(h:cs.length=n.mems.length):ij (n.mems.map ak) cs (n.mems.map ak).length=bc n cs:=by
 refine List.ext_getElem? fun i=>?_;rcases Nat.lt_or_ge i n.mems.length with q|q
 .have hm:=List.getElem?_eq_getElem q;have hc:=List.getElem?_eq_getElem (l:=cs) (i:=i) (by omega);have hm':(n.mems.map ak)[i]?=some (ak n.mems[i]):=by rw[List.getElem?_map,hm];rfl
  rw[si hm hc];unfold ij;rw[List.getElem?_map,List.getElem?_range (by rw[List.length_map];exact q)];have g1:gt ab (n.mems.map ak) (i:Int)=ak n.mems[i]:=aS (σ:=ab) hm';have g2:gt (.sl aq) cs (i:Int)=cs[i]:=aS (σ:=.sl aq) hc;show some (j6 (gt ab (n.mems.map ak) (i:Int)).1 (gt ab (n.mems.map ak) (i:Int)).2.1 (gt (.sl aq) cs (i:Int)))=_;rw[g1,g2];rfl
 .have h1:(bc n cs)[i]?=none:=List.getElem?_eq_none (by rw[sd h];exact q);have h2:(ij (n.mems.map ak) cs (n.mems.map ak).length)[i]?=none:=List.getElem?_eq_none (by unfold ij;rw[List.length_map,List.length_range,List.length_map];exact q);exact h2.trans h1.symm
theorem Xj{x k:Int}(h0:0<=x)(h:fV x k=true):x<2^k.toNat:=by unfold fV at h;have h:=of_decide_eq_true h;have hp:(0:Int)<2^k.toNat:=Int.pow_pos (by decide);have e:=Int.emod_def x (2^k.toNat);rw[h,Int.mul_zero,Int.sub_zero]at e;have:=Int.emod_lt_of_pos x hp;omega
theorem y2{c:List aD}{i:Nat}{p:aD}(h:c[i]?=some p):cR c (i:Int)=p.1/\fD c (i:Int)=p.2.1:=by have g:gt aq c (i:Int)=p:=aS (σ:=aq) h;unfold cR fD;rw[g];exact⟨rfl,rfl⟩
theorem alX{m:aX}{c:List aD}(h:gj m.addr m.word c=true)(ok:mM c):kW m 4096 c:=by
 unfold gj at h;simp only[Bool.and_eq_true,decide_eq_true_eq]at h;obtain⟨⟨⟨⟨⟨h1,h2⟩,h3⟩,h4⟩,h5⟩,h6⟩:=h;have hs:=RT h6;have h6':∀i,i<c.length->gm m.addr m.word c i=true:=fun i hi=>List.all_eq_true.1 h6 i (List.mem_range.2 hi);have hc:∀p∈c,(0<=p.1/\p.1<2^m.addr.toNat)/\0<p.2.1/\p.2.1<2^m.word.toNat:=by intro p hp;obtain⟨i,hi⟩:=List.getElem?_of_mem hp;have hil:=cr hi;obtain⟨e1,e2⟩:=y2 hi;have hb:=h6' i hil;obtain⟨o1,o2⟩:=ok i hil;unfold gm at hb;simp only[Bool.and_eq_true,Bool.not_eq_true',decide_eq_false_iff_not]at hb;obtain⟨⟨⟨b1,b2⟩,b3⟩,_⟩:=hb;rw[e1]at o1 b2;rw[e2]at o2 b1 b3;exact⟨⟨o1.1,Xj o1.1 b2⟩,by omega,Xj o2.1 b3⟩
 refine⟨?_,h5,fun p hp=>(hc p hp).1,fun p hp=>(hc p hp).2⟩;refine List.pairwise_iff_getElem.2 fun i j hi hj hij=>?_;have:=hs j hj i hij;rw[(y2 (List.getElem?_eq_getElem hi)).1,(y2 (List.getElem?_eq_getElem hj)).1]at this;exact this
theorem alM{n:au}{ls:List Bool}{cs:List (List aD)}(h:db (aQ n) (ls,(cs,()))=true)(ok:lG cs):iW n 4096 ls cs:=by
 unfold db at h;simp only[Bool.and_eq_true,decide_eq_true_eq]at h;obtain⟨⟨h1,h2⟩,h3⟩:=h;have h1':ls.length=n.latches.length:=h1.trans (List.length_map ..);have h2':cs.length=n.mems.length:=h2.trans (List.length_map ..);refine⟨h1',h2',fun i m c hm hc=>?_⟩;have hil:=cr hm;have h3':∀i,i<(n.mems.map ak).length->ig (n.mems.map ak) cs i=true:=by have h3:(List.range (n.mems.map ak).length).all (ig (n.mems.map ak) cs)=true:=h3;exact fun i hi=>List.all_eq_true.1 h3 i (List.mem_range.2 hi)
 have hp:=h3' i (by rw[List.length_map];exact hil);unfold ig at hp;have hm':(n.mems.map ak)[i]?=some (ak m):=by rw[List.getElem?_map,hm];rfl
 have g1:gt ab (n.mems.map ak) (i:Int)=ak m:=aS (σ:=ab) hm';have g2:gt (.sl aq) cs (i:Int)=c:=aS (σ:=.sl aq) hc;rw[g1,g2]at hp;exact alX hp (ok c (List.mem_of_getElem? hc))
theorem akR{n:au}(h:Pl.bP n=0):∃V,bo n V/\ca n=0/\n.vars.toNat=V/\de (aF n) V=true:=by
 unfold Pl.bP at h;by_cases h0:ca n=0
 .obtain⟨V,hs⟩:=lZ h0;have hV:n.vars.toNat=V:=by rw[hs.vars];rfl
  rw[if_neg (by simpa using h0),hV]at h;refine⟨V,hs,h0,hV,?_⟩;cases q:de (aF n) V
  .rw[q]at h;simp at h
  .rfl
 .rw[if_pos h0]at h;exact absurd h h0
section
variable{n:au}(ft:Fit n)(ls:List Bool)(cs:List (List aD))
include ft
theorem Xm:YM (nt n (ls,(cs,())))=some (match db (aQ n) (ls,(cs,()))with|true=>((0:Int),(ij (n.mems.map ak) cs (n.mems.map ak).length,()))|false=>((14:Int),([],()))):=Xl (aQ n) (ls,(cs,())) (by show(n.mems.map ak).length<=_;rw[List.length_map];have:=ft.mems.1;omega)
theorem afJ(h:Pl.bP n=0)(hf:db (aQ n) (ls,(cs,()))=true)(hb:ls.length<=1000000):akL (nt n (ls,(cs,())))=some (.inr ((0:Int),mc n (aM n n.vars.toNat) ls (bc n cs) ())):=by
 obtain⟨V,hs,h0,hV,ha⟩:=akR h;have eo:=akY hs ft h0;rw[if_pos ha]at eo;rw[hV];have el:=Xm ft ls cs;rw[hf]at el;have hcs:cs.length=n.mems.length:=by unfold db at hf;simp only[Bool.and_eq_true,decide_eq_true_eq]at hf;exact hf.1.2.trans (List.length_map ..)
 have hr:=QF n cs hcs;have e:∀R R':List cf,R=R'->(some (.inr ((0:Int),mc n (aM n V) ls R ())):Option (Out yT))=some (.inr ((0:Int),mc n (aM n V) ls R' ())):=by rintro _ _ rfl;rfl
 exact af (pN ft) (ao (by rw[h];rfl) (af el (ao rfl (af eo (af (ac2 ft) (af (My (L:=ls) hb) (aj (wq (fun x=>Sh.Zb5s x) _) (e _ _ hr))))))))
end
theorem al2{L:List Bool}(h:L.length<=1000000):akP (L,())=some (L,(L,())):=af (My h) rfl
theorem acB(a w:Int)(c:List aD)(h:c.length<=1000000):CO (a,(w,(c,())))=some (c,(a,(w,(c,())))):=aj (al h) rfl
theorem adT{n:au}{V K:Nat}(hs:bo n V)(ord:List (aP×aJ)){ls:List Bool}{cs:List (List aD)}(hK:K<=100000)(ok:iW n K ls cs) :
  Ny (mc n ord ls (bc n cs) ())=some (mc n ord ls (bc n cs) (ls,(cs,()))):=by
 have hM:=hs.lens.2.2.2.2;have hL:=hs.lens;have hcl:=ok.csL;have hr:=sd hcl;have hls:ls.length<=1000000:=by have:=ok.lsL;have:=hs.lens.2.1;omega
 have e5:Nz (((bc n cs).length:Int),((0:Int),mc n ord ls (bc n cs) (ls,([],()))))=some (mc n ord ls (bc n cs) (ls,(cs,()))):=by
  unfold Nz;delta dW;refine bN (fun k:Nat=>(((bc n cs).length:Int),((k:Int),mc n ord ls (bc n cs) (ls,(cs.take k,()))))) n.mems.length rfl ?_ ?_ (aW (by omega))
  .intro k hk;have hx:=List.getElem?_eq_getElem hk;have hkc:k<cs.length:=by omega
   have hy:=List.getElem?_eq_getElem hkc;have ha:=si hx hy;have hlen:=(ok.ok k _ _ hx hy).len;have hg:List.getD (bc n cs) (Int.toNat (k:Int)) zR=(n.mems[k].addr,(n.mems[k].word,(cs[k],()))):=by rw[Int.toNat_natCast,List.getD_eq_getElem?_getD,ha];rfl
   have ec:CO ((List.getD (bc n cs) (Int.toNat (k:Int)) zR).1,((List.getD (bc n cs) (Int.toNat (k:Int)) zR).2.1,((List.getD (bc n cs) (Int.toNat (k:Int)) zR).2.2.1,())))=some (cs[k],(n.mems[k].addr,(n.mems[k].word,(cs[k],())))):=by rw[hg];exact acB _ _ _ (Nat.le_trans hlen (by omega))
   have hset:List.set (bc n cs) (Int.toNat (k:Int)) (n.mems[k].addr,(n.mems[k].word,(cs[k],())))=bc n cs:=by
    rw[Int.toNat_natCast];refine List.ext_getElem? fun i=>?_;rw[List.getElem?_set];split
    .rename_i q;subst q;split
     .exact ha.symm
     .rename_i q2;rw[List.getElem?_eq_none (by omega)]
    .rfl
   have hroom:room 24 (List.length (cs.take k++(cs[k]::[])))=true:=by rw[List.length_append,List.length_take];exact iX (by simp;omega) (by simp;omega)
   have ht:cs.take k++(cs[k]::[])=cs.take (k+1):=by rw[List.take_add_one,hy];rfl
   have e:∀(p q:Int) (R R':List cf) (A B:List (List aD)),p=q->R=R'->A=B->(some (.inl (((bc n cs).length:Int),(p,mc n ord ls R (ls,(A,()))))):Option (TL qk.σs⊕Out qj))=some (.inl (((bc n cs).length:Int),(q,mc n ord ls R' (ls,(B,()))))):=by rintro _ _ _ _ _ _ rfl rfl rfl;rfl
   exact av (al (show(k:Int)<((bc n cs).length:Int) by omega)) (aj (show ar (k:Int) (List.length (bc n cs))=true from aA ⟨by omega,by omega⟩) (af ec (aj hroom (e _ _ _ _ _ _ (aZ (show(k:Int)+1=((k+1:Nat):Int) by omega) (by omega)) hset ht))))
  .have e:∀(A B:List (List aD)),A=B->(some (.inr (mc n ord ls (bc n cs) (ls,(A,())))):Option (TL qk.σs⊕Out qj))=some (.inr (mc n ord ls (bc n cs) (ls,(B,())))):=by rintro _ _ rfl;rfl
   exact ao (aw (show ¬(n.mems.length:Int)<((bc n cs).length:Int) by omega)) (e _ _ (List.take_of_length_le (by omega)))
 exact af (al2 hls) (af e5 rfl)
theorem ac0{n:au}{K:Nat}{ls:List Bool}{cs:List (List aD)}(ok:iW n K ls cs):∀c∈cs,c.length<=K:=by intro c hc;obtain⟨i,hi⟩:=List.getElem?_of_mem hc;have hil:=cr hi;have hm:=List.getElem?_eq_getElem (l:=n.mems) (i:=i) (by have:=ok.csL;omega);exact(ok.ok i _ _ hm hi).len
theorem acy{n:au}(v:List Bool):(jr n v).length=n.bads.length:=by unfold jr;rw[List.length_map]
theorem P0(x:Bool):@decide _ (Bool.decEq x x)=true:=by cases x<;>rfl
theorem Ra{b:Bool}(h:b=true):aR true b false=true:=by rw[h];rfl
section
variable{n:au}(ft:Fit n)
include ft
theorem ae1(ord:List (aP×aJ))(ls lt:List Bool)(rs:List cf)(ct:List (List aD))(hct:ct.length=n.mems.length)(hf:db (aQ n) (lt,(ct,()))=true)(hb:lt.length<=1000000) :
  N4 (lt,(ct,mc n ord ls rs ()))=some ((0:Int),mc n ord lt (bc n ct) ()):=by
 have el:=Xm ft lt ct;rw[hf]at el;have hr:=QF n ct hct;have e:∀R R':List cf,R=R'->(some ((0:Int),mc n ord lt R ()):Option (Out uC))=some ((0:Int),mc n ord lt R' ()):=by rintro _ _ rfl;rfl
 exact af el (ao rfl (af (My hb) (e _ _ hr)))
end
section
variable{n:au}{w bad V:Nat}(C:nc n w bad)(t:eY n V)(ft:Fit n)
include C
theorem PB{ls:List Bool}(h:ls.length=w):db (aQ n) (ls,(([]:List (List aq.T)),()))=true:=by
 have hm:(aQ n).2.2.2.2.2.2.1=[]:=by show n.mems.map ak=[];rw[C.mems];rfl
 have hl:(aQ n).2.2.1=n.latches.map aB:=rfl;unfold db;rw[hm,hl];show(decide (ls.length=(n.latches.map aB).length)&&decide (([]:List (List aq.T)).length=0)&&(List.range 0).all _)=true;rw[h,List.length_map,qM C,decide_eq_true rfl];rfl
include ft
end
def k9(p:Nat->Bool):Nat->Nat->Option Nat
 |0,_=>none|k+1,i=>if p i=true then some i else k9 p k (i+1)
theorem ak3{D O:Type}{B:D->Option (D⊕O)}(f:Nat->D)(p:Nat->Bool)(g:Nat->O)(z:O)(n:Nat)(hs:∀i,i<n->p i=false->B (f i)=some (.inl (f (i+1))))(hf:∀i,i<n->p i=true->B (f i)=some (.inr (g i)))
  (he:B (f n)=some (.inr z)) {d:D}(hd:d=f 0) {N:Nat}(hN:n<N):aE B N d=some (match k9 p n 0 with|some i=>g i|none=>z):=by
 subst hd;have main:∀k i,i+k=n->∀N,k<N->aE B N (f i)=some (match k9 p k i with|some i=>g i|none=>z):=by
  intro k
  induction k with
  |zero=>
   intro i hi N hN;obtain rfl:i=n:=by omega
   obtain⟨N,rfl⟩:∃M,N=M+1:=⟨N-1,by omega⟩;simp only[aE,he,k9]
  |succ k ih=>intro i hi N hN;obtain⟨N,rfl⟩:∃M,N=M+1:=⟨N-1,by omega⟩;cases q:p i with|true=>simp only[aE,hf i (by omega) q,k9,q,if_true]|false=>have:=ih (i+1) (by omega) N (by omega);simp only[aE,hs i (by omega) q,k9,q];exact this
 exact main n 0 (by omega) N hN
def idx(L:List Bool):Int:=match k9 (fun i=>L.getD i false) L.length 0 with|some i=>(i:Int)|none=>-1
theorem aex(L:List Bool)(hL:L.length<=1000000):GC (L,(true,((L.length:Int),((0:Int),()))))=some (match k9 (fun i=>L.getD i false) L.length 0 with|some i=>.inl ((i:Int),())|none=>.inr ()):=by
 unfold GC;delta u4;refine ak3 (fun i:Nat=>(L,(true,((L.length:Int),((i:Int),()))))) (fun i=>L.getD i false) (fun i=>Sum.inl ((i:Int),())) (Sum.inr ()) L.length ?_ ?_ ?_ rfl (aW (by omega))
 .intro i hi hp;dsimp only at hp |-;unfold rJ;have e:∀p q:Int,p=q->(some (.inl (L,(true,((L.length:Int),(p,()))))):Option (TL xt.σs⊕Out xr))=some (.inl (L,(true,((L.length:Int),(q,()))))):=by rintro _ _ rfl;rfl
  have hg:gt .bool L (i:Int)=false:=(JD (by omega)).trans hp;exact av (al (show(i:Int)<(L.length:Int) by omega)) (aj (aA ⟨by omega,by omega⟩) (ao (by rw[hg];rfl) (e _ _ (bf (x:=(i:Int)+1) (by omega)))))
 .intro i hi hp;dsimp only at hp |-;unfold rJ;have hg:gt .bool L (i:Int)=true:=(JD (by omega)).trans hp;exact av (al (show(i:Int)<(L.length:Int) by omega)) (aj (aA ⟨by omega,by omega⟩) (av (by rw[hg];rfl) rfl))
 .try dsimp only
  unfold rJ;exact ao (aw (show ¬(L.length:Int)<(L.length:Int) by omega)) rfl
theorem alx(L:List Bool)(hL:L.length<=1000000):UG (L,(true,()))=some (idx L,()):=by have e:=aex L hL;have e':GC (L,(true,((Int.ofNat (List.length L)),((0:Int),()))))=_:=e;unfold idx;cases q:k9 (fun i=>L.getD i false) L.length 0 with|some i=>rw[q]at e';exact af e' rfl|none=>rw[q]at e';exact af e' rfl
def li(L:List Int)(k:Nat):Int:=L.getD k 0
end Go.Proofs.YtkcpdpplobhpaaaGreat.V
end
