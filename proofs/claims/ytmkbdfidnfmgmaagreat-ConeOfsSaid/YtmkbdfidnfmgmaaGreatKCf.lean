import Derived.Test.YtmkbdfidnfmgmaaGreatKCc
import Derived.Test.YtmkbdfidnfmgmaaGreatKCe
import Derived.Test.YtmkbdfidnfmgmaaGreatKTd
set_option linter.all false
section
namespace Go.Proofs.YtmkbdfidnfmgmaaGreat.V
open Go Go.RowKit Go.Proofs.YtmkbdfidnfmgmaaGreat.Pl
set_option maxRecDepth 10000
structure Im(ts:jp)(V:Nat):Prop where
 len:ts.length=V+1
 eJ:∀v:Int,0<=v->v<=(V:Int)->0<=rv ts v/\rv ts v<=100000
section
variable{ts:jp}{V:Nat}(F:Im ts V)(hV:V<=2000)
include F hV
theorem xa{l:Int}(h0:0<=l)(h:l / 2<=(V:Int)):oc (l,ts,())=some (rl ts l,()):=by
 have e1:=abj h0 auc;have e2:=aa2 h0;have hr:=F.eJ (l / 2) auc h;have aS:an (l / 2) ts.length=true:=aP ⟨auc,by rw[F.len];omega⟩;have hm:0<=l % 2/\l % 2<=1:=auc
 have e3:CQ (gt .I ts (l / 2),decide (l % 2=1),())=some (rl ts l,()):=by
  show wj (rv ts (l / 2)) (decide (l % 2=1))=_;unfold wj;have w1:pu ((2:Int)*rv ts (l / 2))=2*rv ts (l / 2):=auk;have e:∀p q:Int,p=q->(some (p,()):Option (TL wh))=some (q,()):=by rintro _ _ rfl;rfl
  by_cases q:l % 2=1
  .refine ba (aF q) (e _ _ ?_);show pu (pu ((2:Int)*rv ts (l / 2))+1)=_;rw[w1];unfold rl;rw[q];exact auk
  .refine aN (aJ q) (e _ _ ?_);show pu ((2:Int)*rv ts (l / 2))=_;rw[w1];unfold rl;omega
 show MC CQ Rj qj l ts=_;unfold MC;exact aZ e1 (aK aS (aZ e2 (aZ e3 rfl)))
theorem wW(L:jp)(hL:∀l∈L,0<=l/\l / 2<=(V:Int))(hn:L.length<=100000):ua (L,ts,())=some (L.map (rl ts),()):=by
 have e3:XM (L,ts,(0:Int),[],())=some (L.map (rl ts),()):=by
  unfold XM;delta u4;refine cO (fun k:Nat=>(L,ts,(k:Int),(L.take k).map (rl ts),())) L.length rfl ?_ ?_ auh
  .intro k hk;have hx:=bA hk;obtain⟨l0,l1⟩:=hL _ (ut hk);have e1:oc (gt .I L (k:Int),ts,())=some (rl ts L[k],()):=by rw[bz (σ:=.I) hx];exact xa F hV l0 l1
   have ht:(L.take (k+1)).map (rl ts)=(L.take k).map (rl ts)++[rl ts L[k]]:=by rw[Pl.cK hx,cH];rfl
   have e:∀(a b:jp) (p q:Int),a=b->p=q->(aul (L,ts,p,a,()):am Cg BL)=aul (L,ts,q,b,()):=by intros;subst_vars;rfl
   exact ba (aF (show(k:Int)<((L.length:Nat):Int) by omega)) (aK (show an (k:Int) L.length=true from aug) (aZ e1 (aK (eX (by grind) auc) (e _ _ _ _ ht.symm (dD (show(k:Int)+1=((k+1:Nat):Int) by omega) auc)))))
  .rw[cV];exact aN (aJ (show ¬(L.length:Int)<(L.length:Int) by omega)) rfl
 exact aZ e3 rfl
end
abbrev pf{α:Type}(n:aB)(x:Int)(b c i:jp)(l:List ae.T)(ms:List ai.T)(r:α):=nt n ((0:Int),x,b,c,i,l,ms,r)
abbrev qy{α:Type}(m:cC)(r:α):=(m.addr,m.word,m.any,m.reads.map bS,m.writes.map bX,m.addr,m.word,m.any,r)
section
variable{n:aB}{V:Nat}(hs:cA { n with vars:=(V:Int) } V){t0:jp}(F0:jb t0 V){ts:jp}(F:Im ts V)
include hs F0 F
theorem aot(x:Int)(b c:jp):Wv (ts,(0:Int),nt n ((0:Int),x,b,c,[],()))=some (ts,nt n ((0:Int),x,b,c,n.ax.map (rv ts),())):=by
 have hl:n.ax.length<=2000:=hs.lens.1;have hV:=hs.v2;unfold Wv;delta fW u3 bV cy;refine cO (fun k:Nat=>(ts,(k:Int),nt n ((0:Int),x,b,c,(n.ax.take k).map (rv ts),()))) n.ax.length rfl ?_ ?_ auh
 .intro k hk;have hx:=bA hk;obtain⟨d1,d2⟩:=abo hs F0 _ (ut hk);have g:gt .I n.ax (k:Int)=n.ax[k]:=bz (σ:=.I) hx;have i2:an (gt .I n.ax (k:Int)) ts.length=true:=by rw[g];exact aP ⟨auc,by rw[F.len];omega⟩
  have ht:(n.ax.take k).map (rv ts)++([gt .I ts (gt .I n.ax (k:Int))]:jp)=(n.ax.take (k+1)).map (rv ts):=by rw[g,Pl.cK hx,cH];rfl
  have e:∀(a b':jp) (p q:Int),a=b'->p=q->(aul (ts,p,nt n ((0:Int),x,b,c,a,())):am Bi AU)=aul (ts,q,nt n ((0:Int),x,b,c,b',())):=by rintro _ _ _ _ rfl rfl;rfl
  have hroom:=eX (a:=8) (L:=(n.ax.take k).map (rv ts)) (x:=gt .I ts (gt .I n.ax (k:Int))) (by grind) auc;exact ba (aF (show(k:Int)<((n.ax.length:Nat):Int) by omega)) (aK (show an (k:Int) (List.length n.ax)=true from aug) (aK i2 (aK hroom (e _ _ _ _ ht (dD (show(k:Int)+1=((k+1:Nat):Int) by omega) auc)))))
 .rw[cV];exact aN (aJ (show ¬(n.ax.length:Int)<(n.ax.length:Int) by omega)) rfl
theorem aou(x:Int)(b c i':jp):Ww (ts,(0:Int),nt n ((0:Int),x,b,c,i',[],()))=some (ts,nt n ((0:Int),x,b,c,i',(n.ah.map (fF ts)).map aX,())):=by
 have hl:n.ah.length<=2000:=hs.lens.2.1;have hV:=hs.v2;unfold Ww;delta u16 u4 bV cy;have hL:((n.ah.map aX).length:Int)=(n.ah.length:Int):=by rw[aG]
 refine cO (fun k:Nat=>(ts,(k:Int),nt n ((0:Int),x,b,c,i',((n.ah.take k).map (fF ts)).map aX,()))) n.ah.length rfl ?_ ?_ auh
 .intro k hk;have hx:=bA hk;obtain⟨⟨d1,d2⟩,l1,l2⟩:=aaT hs F0 _ (ut hk);have hx':(n.ah.map aX)[k]?=some (aX n.ah[k]):=by rw[cW,hx];rfl
  have g:gt ae (n.ah.map aX) (k:Int)=aX n.ah[k]:=bz (σ:=ae) hx';have i2:an (gt ae (n.ah.map aX) (k:Int)).1 ts.length=true:=by rw[g];exact aP ⟨show 0<=n.ah[k].var by omega,show n.ah[k].var<_ by rw[F.len];omega⟩
  have el:oc ((gt ae (n.ah.map aX) (k:Int)).2.1,ts,())=some (rl ts n.ah[k].next,()):=by rw[g];exact xa F hV l1 l2
  have ht:((n.ah.take k).map (fF ts)).map aX++([(gt .I ts (gt ae (n.ah.map aX) (k:Int)).1,rl ts n.ah[k].next,(gt ae (n.ah.map aX) (k:Int)).2.2.1,())]:List ae.T)=((n.ah.take (k+1)).map (fF ts)).map aX:=by rw[g,Pl.cK hx,cH,cH];rfl
  have e:∀(a b':List ae.T) (p q:Int),a=b'->p=q->(aul (ts,p,nt n ((0:Int),x,b,c,i',a,())):am Bj AW)=aul (ts,q,nt n ((0:Int),x,b,c,i',b',())):=by rintro _ _ _ _ rfl rfl;rfl
  have hroom:=eX (a:=24) (L:=((n.ah.take k).map (fF ts)).map aX) (x:=(gt .I ts (gt ae (n.ah.map aX) (k:Int)).1,rl ts n.ah[k].next,(gt ae (n.ah.map aX) (k:Int)).2.2.1,())) (by grind) auc;exact ba (aF (show(k:Int)<((n.ah.map aX).length:Int) by omega)) (aK (show an (k:Int) (List.length (n.ah.map aX))=true from aug) (aK i2 (aZ el (aK hroom (e _ _ _ _ ht (dD (show(k:Int)+1=((k+1:Nat):Int) by omega) auc))))))
 .rw[cV];exact aN (aJ (show ¬(n.ah.length:Int)<((n.ah.map aX).length:Int) by omega)) rfl
theorem anK{m:cC}(hm:m∈n.af)(j x:Int)(b c i':jp)(l':List ae.T)(ms:List ai.T) :
  KJ (ts,j,(0:Int),pf n x b c i' l' ms (qy m ([],())))=some (ts,j,pf n x b c i' l' ms (qy m ((m.reads.map (ia ts)).map bS,()))):=by
 have hV:=hs.v2;obtain⟨m1,m2,m3,m4,m5,m6,m7,m8⟩:=hs.af m hm;unfold KJ;delta fW u3 bV cy;have hL:((m.reads.map bS).length:Int)=(m.reads.length:Int):=by rw[aG]
 refine cO (fun k:Nat=>(ts,j,(k:Int),pf n x b c i' l' ms (qy m (((m.reads.take k).map (ia ts)).map bS,())))) m.reads.length rfl ?_ ?_ auh
 .intro k hk;have hx:=bA hk;have hr:=ut hk;obtain⟨r1,r2⟩:=E2 hs F0 hm hr;have hal:=m5 _ hr;have hx':(m.reads.map bS)[k]?=some (bS m.reads[k]):=by rw[cW,hx];rfl
  have g:gt bO (m.reads.map bS) (k:Int)=bS m.reads[k]:=bz (σ:=bO) hx';have el:ua ((gt bO (m.reads.map bS) (k:Int)).2.1,ts,())=some (m.reads[k].addr.map (rl ts),()):=by rw[g];exact wW F hV m.reads[k].addr (aah hs F0 hm hr) auc
  have i2:an (gt bO (m.reads.map bS) (k:Int)).1 ts.length=true:=by rw[g];exact aP ⟨show 0<=m.reads[k].var by omega,show m.reads[k].var<_ by rw[F.len];omega⟩
  have ht:((m.reads.take k).map (ia ts)).map bS++([(gt .I ts (gt bO (m.reads.map bS) (k:Int)).1,m.reads[k].addr.map (rl ts),())]:List bO.T)=((m.reads.take (k+1)).map (ia ts)).map bS:=by rw[g,Pl.cK hx,cH,cH];rfl
  have e:∀(a b':List bO.T) (p q:Int),a=b'->p=q->(aul (ts,j,p,pf n x b c i' l' ms (qy m (a,()))):am AQ Au)=aul (ts,j,q,pf n x b c i' l' ms (qy m (b',()))):=by rintro _ _ _ _ rfl rfl;rfl
  have hroom:=eX (a:=32) (L:=((m.reads.take k).map (ia ts)).map bS) (x:=((gt .I ts (gt bO (m.reads.map bS) (k:Int)).1,m.reads[k].addr.map (rl ts),()):bO.T)) (by simp only[aG,dK];omega) auc;have aS:an (k:Int) (List.length (m.reads.map bS))=true:=aug;exact ba (aF (show(k:Int)<((m.reads.map bS).length:Int) by omega)) (aK aS (aK i2 (aK aS (aZ el (aK hroom (e _ _ _ _ ht (dD (show(k:Int)+1=((k+1:Nat):Int) by omega) auc)))))))
 .rw[cV];exact aN (aJ (show ¬(m.reads.length:Int)<((m.reads.map bS).length:Int) by omega)) rfl
theorem anL{m:cC}(hm:m∈n.af)(j x:Int)(b c i':jp)(l':List ae.T)(ms:List ai.T)(rs:List bO.T) :
  KK (ts,j,(0:Int),pf n x b c i' l' ms (qy m (rs,[],())))=some (ts,j,pf n x b c i' l' ms (m.addr,m.word,m.any,rs,(m.writes.map (iJ ts)).map bX,())):=by
 have hV:=hs.v2;obtain⟨m1,m2,m3,m4,m5,m6,m7,m8⟩:=hs.af m hm;unfold KK;delta u16 u4 bV cy;have hL:((m.writes.map bX).length:Int)=(m.writes.length:Int):=by rw[aG]
 refine cO (fun k:Nat=>(ts,j,(k:Int),pf n x b c i' l' ms (qy m (rs,((m.writes.take k).map (iJ ts)).map bX,())))) m.writes.length rfl ?_ ?_ auh
 .intro k hk;have hx:=bA hk;have hw:=ut hk;obtain⟨⟨o1,o2⟩,a1,d1⟩:=aar hs F0 hm hw;obtain⟨al,dl⟩:=m6 _ hw;have hx':(m.writes.map bX)[k]?=some (bX m.writes[k]):=by rw[cW,hx];rfl
  have g:gt bu (m.writes.map bX) (k:Int)=bX m.writes[k]:=bz (σ:=bu) hx';have e1:oc ((gt bu (m.writes.map bX) (k:Int)).1,ts,())=some (rl ts m.writes[k].on,()):=by rw[g];exact xa F hV o1 o2
  have e2:ua ((gt bu (m.writes.map bX) (k:Int)).2.1,ts,())=some (m.writes[k].addr.map (rl ts),()):=by rw[g];exact wW F hV m.writes[k].addr a1 auc
  have e3:ua ((gt bu (m.writes.map bX) (k:Int)).2.2.1,ts,())=some (m.writes[k].data.map (rl ts),()):=by rw[g];exact wW F hV m.writes[k].data d1 auc
  have ht:((m.writes.take (k+1)).map (iJ ts)).map bX=((m.writes.take k).map (iJ ts)).map bX++[bX (iJ ts m.writes[k])]:=by rw[Pl.cK hx,cH,cH];rfl
  have e:∀(a b':List bu.T) (p q:Int),a=b'->p=q->(aul (ts,j,p,pf n x b c i' l' ms (qy m (rs,a,()))):am AR Aw)=aul (ts,j,q,pf n x b c i' l' ms (qy m (rs,b',()))):=by rintro _ _ _ _ rfl rfl;rfl
  have hroom:=eX (a:=56) (L:=((m.writes.take k).map (iJ ts)).map bX) (x:=bX (iJ ts m.writes[k])) (by simp only[aG,dK];omega) auc;exact ba (aF (show(k:Int)<((m.writes.map bX).length:Int) by omega)) (aK (show an (k:Int) (List.length (m.writes.map bX))=true from aug) (aZ e1 (aZ e2 (aZ e3 (aK hroom (e _ _ _ _ ht.symm (dD (show(k:Int)+1=((k+1:Nat):Int) by omega) auc)))))))
 .rw[cV];exact aN (aJ (show ¬(m.writes.length:Int)<((m.writes.map bX).length:Int) by omega)) rfl
theorem anJ(x:Int)(b c i':jp)(l':List ae.T):VP (ts,(0:Int),pf n x b c i' l' [] ())=some (ts,pf n x b c i' l' ((n.af.map (fG ts)).map aM) ()):=by
 have hl:n.af.length<=100:=EQ hs.lens.2.2.2.2 auc;unfold VP;delta gK u5 bV cy;have hL:((n.af.map aM).length:Int)=(n.af.length:Int):=by rw[aG]
 refine cO (fun k:Nat=>(ts,(k:Int),pf n x b c i' l' (((n.af.take k).map (fG ts)).map aM) ())) n.af.length rfl ?_ ?_ auh
 .intro k hk;have hx:=bA hk;have hx':(n.af.map aM)[k]?=some (aM n.af[k]):=by rw[cW,hx];rfl
  have g:gt ai (n.af.map aM) (k:Int)=aM n.af[k]:=bz (σ:=ai) hx';obtain⟨A,hA⟩:∃A,A=((n.af.take k).map (fG ts)).map aM:=⟨_,rfl⟩;have e17:=anK hs F0 F (ut hk) (k:Int) x b c i' l' A;have e21:=anL hs F0 F (ut hk) (k:Int) x b c i' l' A ((n.af[k].reads.map (ia ts)).map bS);have ht:A++[aM (fG ts n.af[k])]=((n.af.take (k+1)).map (fG ts)).map aM:=by rw[hA,Pl.cK hx,cH,cH];rfl
  have hroom:=eX (a:=72) (L:=A) (x:=aM (fG ts n.af[k])) (by rw[hA];simp only[aG,dK];omega) auc;have e:∀(a b':List ai.T) (p q:Int),a=b'->p=q->(aul (ts,p,pf n x b c i' l' a ()):am AP At)=aul (ts,q,pf n x b c i' l' b' ()):=by rintro _ _ _ _ rfl rfl;rfl
  rw[<-hA];unfold pf nt
  try dsimp only
  unfold KG;rw[g];exact ba (aF (show(k:Int)<((n.af.map aM).length:Int) by omega)) (aK (show an (k:Int) (List.length (n.af.map aM))=true from aug) (aZ e17 (aZ e21 (aK hroom (e _ _ _ _ ht (dD (show(k:Int)+1=((k+1:Nat):Int) by omega) auc))))))
 .rw[cV];exact aN (aJ (show ¬(n.af.length:Int)<((n.af.map aM).length:Int) by omega)) rfl
theorem anM(x:Int)(b c i':jp)(l':List ae.T)(m':List ai.T):VQ (ts,(0:Int),pf n x b c i' l' m' ([],()))=some ((0:Int),x,b,c,i',l',m',(n.ag.map (fO ts)).map aL,()):=by
 have hl:n.ag.length<=2000:=hs.lens.2.2.1;have hV:=hs.v2;unfold VQ;delta mC u6 bV cy;have hL:((n.ag.map aL).length:Int)=(n.ag.length:Int):=by rw[aG]
 refine cO (fun k:Nat=>(ts,(k:Int),pf n x b c i' l' m' (((n.ag.take k).map (fO ts)).map aL,()))) n.ag.length rfl ?_ ?_ auh
 .intro k hk;have hx:=bA hk;obtain⟨⟨d1,d2⟩,⟨l1,l2⟩,l3,l4⟩:=Og hs F0 _ (ut hk);have hx':(n.ag.map aL)[k]?=some (aL n.ag[k]):=by rw[cW,hx];rfl
  have g:gt ae (n.ag.map aL) (k:Int)=aL n.ag[k]:=bz (σ:=ae) hx';have i2:an (gt ae (n.ag.map aL) (k:Int)).1 ts.length=true:=by rw[g];exact aP ⟨show 0<=n.ag[k].var by omega,show n.ag[k].var<_ by rw[F.len];omega⟩
  have el:oc ((gt ae (n.ag.map aL) (k:Int)).2.1,ts,())=some (rl ts n.ag[k].a,()):=by rw[g];exact xa F hV l1 l2
  have el2:oc ((gt ae (n.ag.map aL) (k:Int)).2.2.1,ts,())=some (rl ts n.ag[k].b,()):=by rw[g];exact xa F hV l3 l4
  have ht:((n.ag.take k).map (fO ts)).map aL++([(gt .I ts (gt ae (n.ag.map aL) (k:Int)).1,rl ts n.ag[k].a,rl ts n.ag[k].b,())]:List ae.T)=((n.ag.take (k+1)).map (fO ts)).map aL:=by rw[g,Pl.cK hx,cH,cH];rfl
  have e:∀(a b':List ae.T) (p q:Int),a=b'->p=q->(aul (ts,p,pf n x b c i' l' m' (a,())):am AS Ax)=aul (ts,q,pf n x b c i' l' m' (b',())):=by rintro _ _ _ _ rfl rfl;rfl
  have hroom:=eX (a:=24) (L:=((n.ag.take k).map (fO ts)).map aL) (x:=(gt .I ts (gt ae (n.ag.map aL) (k:Int)).1,rl ts n.ag[k].a,rl ts n.ag[k].b,())) (by grind) auc;exact ba (aF (show(k:Int)<((n.ag.map aL).length:Int) by omega)) (aK (show an (k:Int) (List.length (n.ag.map aL))=true from aug) (aK i2 (aZ el (aZ el2 (aK hroom (e _ _ _ _ ht (dD (show(k:Int)+1=((k+1:Nat):Int) by omega) auc)))))))
 .rw[cV];exact aN (aJ (show ¬(n.ag.length:Int)<((n.ag.map aL).length:Int) by omega)) rfl
theorem ajV:K6 (dn n,ts,())=some (dn { eS ts n with bk:=[] },()):=by have hl:=hs.lens.2.2.2.1;have hl:n.bk.length+n.aU.length+n.constraints.length<=1000:=hl;obtain⟨o1,o2,o3⟩:=aa4 hs F0;have e3:=wW F hs.v2 n.aU o2 auc;have e4:=wW F hs.v2 n.constraints o3 auc;exact aZ e3 (aZ e4 (aZ (aot hs F0 F _ _ _) (aZ (aou hs F0 F _ _ _ _) (aZ (anJ hs F0 F _ _ _ _ _) (aZ (anM hs F0 F _ _ _ _ _ _) rfl)))))
end
abbrev no{α:Type}(n:aB)(r:α):=(n.ag.map aL,n.vars,n.ax,n.ah.map aX,n.bk,n.aU,n.constraints,n.af.map aM,r)
section
variable{n:aB}{V:Nat}(hs:cA { n with vars:=(V:Int) } V){t0:jp}(F0:jb t0 V)
include hs F0
theorem aaU:Ks (dn n,())=some (bp n,()):=by obtain⟨l1,l2,l3,l4,l5⟩:=hs.lens;have hV:=hs.v2;refine aas ⟨EQ l1 auc,EQ l2 auc,EQ l3 auc,EQ l5 auc,fun m hm=>?_⟩;obtain⟨m1,m2,m3,m4,m5,m6,m7,m8⟩:=hs.af m hm;exact⟨⟨m3,m4⟩,auc,fun r hr=>by have:=E2 hs F0 hm hr;omega⟩
omit F0 in
theorem aoc(A:jp)(hA:A.length<=4000):UH ((0:Int),no n (A,()))=some (no n ((A++n.ah.map (·.var)),())):=by
 have hl:n.ah.length<=2000:=hs.lens.2.1;unfold UH;delta ei;have hL:(n.ah.map aX).length=n.ah.length:=aG _;refine cO (fun k:Nat=>((k:Int),no n ((A++(n.ah.take k).map (·.var)),()))) n.ah.length (by rw[WP,asr,di];rfl) ?_ ?_ auh
 .intro k hk;have hx:=bA hk;have hx':(n.ah.map aX)[k]?=some (aX n.ah[k]):=by rw[cW,hx];rfl
  have g:gt ae (n.ah.map aX) (k:Int)=aX n.ah[k]:=bz (σ:=ae) hx';have e:∀(a b:jp) (p q:Int),a=b->p=q->(aul (p,no n (a,())):am zI zA)=aul (q,no n (b,())):=by rintro _ _ _ _ rfl rfl;rfl
  have ht:(A++(n.ah.take k).map (·.var))++([(gt ae (n.ah.map aX) (k:Int)).1]:jp)=A++(n.ah.take (k+1)).map (·.var):=by rw[g,Pl.cK hx,cH,<-bM];rfl
  have hroom:=eX (a:=8) (L:=A++(n.ah.take k).map (·.var)) (x:=(gt ae (n.ah.map aX) (k:Int)).1) (by simp only[bF,aG,dK];omega) auc;exact ba (aF (show(k:Int)<((n.ah.map aX).length:Int) by omega)) (aK (show an (k:Int) (List.length (n.ah.map aX))=true from aug) (aK hroom (e _ _ _ _ ht (dD (show(k:Int)+1=((k+1:Nat):Int) by omega) auc))))
 .rw[cV];exact aN (aJ (show ¬(n.ah.length:Int)<((n.ah.map aX).length:Int) by omega)) rfl
theorem ane{j:Nat}{m:cC}(hm:n.af[j]?=some m)(A:jp)(hA:A.length<=10000):JW ((j:Int),(0:Int),no n (A,()))=some ((j:Int),no n ((A++dy m),())):=by
 have hj:=(rg.1 hm).1;have hmm:=d5 hm;obtain⟨m1,m2,m3,m4,m5,m6,m7,m8⟩:=hs.af m hmm;unfold JW;delta ju;have hL:((n.af.map aM).length:Int)=(n.af.length:Int):=by rw[aG]
 have hxm:(n.af.map aM)[j]?=some (aM m):=by rw[cW,hm];rfl
 have gm:gt ai (n.af.map aM) (j:Int)=aM m:=bz (σ:=ai) hxm;have aS:an (j:Int) (List.length (n.af.map aM))=true:=aug;have hR:(m.reads.map bS).length=m.reads.length:=aG _;refine cO (fun k:Nat=>((j:Int),(k:Int),no n ((A++(m.reads.take k).flatMap fun r=>cM r.var m.word.toNat),()))) m.reads.length (by rw[WP,NE,di];rfl) ?_ ?_ auh
 .intro k hk;have hx:=bA hk;have hr:=ut hk;obtain⟨r1,r2⟩:=E2 hs F0 hmm hr;have hV:=hs.v2;have ed:=N1 m k m.reads[k] hx auc auc;have e:∀(a b:jp) (p q:Int),a=b->p=q->(aul ((j:Int),p,no n (a,())):am zy zw)=aul ((j:Int),q,no n (b,())):=by rintro _ _ _ _ rfl rfl;rfl
  have ht:(A++(m.reads.take k).flatMap fun r=>cM r.var m.word.toNat)++cM m.reads[k].var m.word.toNat=A++(m.reads.take (k+1)).flatMap fun r=>cM r.var m.word.toNat:=by rw[Pl.cK hx,BT,<-bM,ast]
  have hd:∀r:fh,(cM r.var m.word.toNat).length<=64:=fun r=>by unfold cM;rw[aG,asi];omega
  have hb:=f9 (fun r:fh=>cM r.var m.word.toNat) 64 (m.reads.take k) fun r _=>hd r;rw[dK]at hb;have hroom:room 8 (List.length ((A++(m.reads.take k).flatMap fun r=>cM r.var m.word.toNat)++cM m.reads[k].var m.word.toNat))=true:=FC (by grind)
  try dsimp only
  unfold zX;rw[gm];exact aK aS (ba (aF (show(k:Int)<((m.reads.map bS).length:Int) by omega)) (aK aS (aZ ed (aK hroom (e _ _ _ _ ht (dD (show(k:Int)+1=((k+1:Nat):Int) by omega) auc))))))
 .rw[cV]
  try dsimp only
  unfold zX;rw[gm];exact aK aS (aN (aJ (show ¬(m.reads.length:Int)<((m.reads.map bS).length:Int) by omega)) rfl)
theorem aod(A:jp)(hA:A.length<=4000):UI ((0:Int),no n (A,()))=some (no n ((A++n.af.flatMap dy),())):=by
 have hl:n.af.length<=100:=EQ hs.lens.2.2.2.2 auc;unfold UI;delta ei;have hL:((n.af.map aM).length:Int)=(n.af.length:Int):=by rw[aG]
 refine cO (fun k:Nat=>((k:Int),no n ((A++(n.af.take k).flatMap dy),()))) n.af.length (by rw[WP,NE,di];rfl) ?_ ?_ auh
 .intro k hk;have hx:=bA hk;have hb:=f9 dy 256 (n.af.take k) fun m hm=>by
   obtain⟨m1,m2,m3,m4,m5,m6,m7,m8⟩:=hs.af m (asf hm);have h2:=f9 (fun r:fh=>cM r.var m.word.toNat) 64 m.reads fun r _=>by unfold cM;rw[aG,asi];omega
   unfold dy;omega
  rw[dK]at hb;have hl2:n.af.length<=20:=EQ hs.lens.2.2.2.2 auc;have e10:=ane hs F0 hx (A++(n.af.take k).flatMap dy) (by rw[bF];omega);have ht:(A++(n.af.take k).flatMap dy)++dy n.af[k]=A++(n.af.take (k+1)).flatMap dy:=by rw[Pl.cK hx,BT,<-bM,ast]
  have e:∀(a b:jp) (p q:Int),a=b->p=q->(aul (p,no n (a,())):am zJ zB)=aul (q,no n (b,())):=by rintro _ _ _ _ rfl rfl;rfl
  exact ba (aF (show(k:Int)<((n.af.map aM).length:Int) by omega)) (aZ e10 (e _ _ _ _ ht (dD (show(k:Int)+1=((k+1:Nat):Int) by omega) auc)))
 .rw[cV];exact aN (aJ (show ¬(n.af.length:Int)<((n.af.map aM).length:Int) by omega)) rfl
omit F0 in
theorem anf(A:jp)(hA:A.length<=100000):UA ((0:Int),no n (A,()))=some (n.ag.map aL,(A++n.ag.map (·.var)),()):=by
 have hl:n.ag.length<=2000:=hs.lens.2.2.1;unfold UA;delta ei;have hL:(n.ag.map aL).length=n.ag.length:=aG _;refine cO (fun k:Nat=>((k:Int),no n ((A++(n.ag.take k).map (·.var)),()))) n.ag.length (by rw[WP,asr,di];rfl) ?_ ?_ auh
 .intro k hk;have hx:=bA hk;have hx':(n.ag.map aL)[k]?=some (aL n.ag[k]):=by rw[cW,hx];rfl
  have g:gt ae (n.ag.map aL) (k:Int)=aL n.ag[k]:=bz (σ:=ae) hx';have e:∀(a b:jp) (p q:Int),a=b->p=q->(aul (p,no n (a,())):am zz zx)=aul (q,no n (b,())):=by rintro _ _ _ _ rfl rfl;rfl
  have ht:(A++(n.ag.take k).map (·.var))++([(gt ae (n.ag.map aL) (k:Int)).1]:jp)=A++(n.ag.take (k+1)).map (·.var):=by rw[g,Pl.cK hx,cH,<-bM];rfl
  have hroom:=eX (a:=8) (L:=A++(n.ag.take k).map (·.var)) (x:=(gt ae (n.ag.map aL) (k:Int)).1) (by simp only[bF,aG,dK];omega) auc;exact ba (aF (show(k:Int)<((n.ag.map aL).length:Int) by omega)) (aK (show an (k:Int) (List.length (n.ag.map aL))=true from aug) (aK hroom (e _ _ _ _ ht (dD (show(k:Int)+1=((k+1:Nat):Int) by omega) auc))))
 .rw[cV];exact aN (aJ (show ¬(n.ag.length:Int)<((n.ag.map aL).length:Int) by omega)) rfl
theorem akL:JZ (n.vars,n.ax,n.ah.map aX,n.bk,n.aU,n.constraints,n.af.map aM,n.ag.map aL,())=some (n.ag.map aL,bp n,()):=by
 have hl:n.ax.length<=2000:=hs.lens.1;have hl2:n.ah.length<=2000:=hs.lens.2.1;have hb:=f9 dy 256 n.af fun m hm=>by
  obtain⟨m1,m2,m3,m4,m5,m6,m7,m8⟩:=hs.af m hm;have h2:=f9 (fun r:fh=>cM r.var m.word.toNat) 64 m.reads fun r _=>by unfold cM;rw[aG,asi];omega
  unfold dy;omega
 have hl3:n.af.length<=20:=EQ hs.lens.2.2.2.2 auc;have hroom:room 8 (List.length (([]:jp)++n.ax))=true:=FC (by rw[PP];omega);exact aK hroom (aZ (aoc hs n.ax auc) (aZ (aod hs F0 (n.ax++n.ah.map (·.var)) (by rw[bF,aG];omega)) (aZ (anf hs (n.ax++n.ah.map (·.var)++n.af.flatMap dy) (by simp only[bF,aG];omega)) rfl)))
end
theorem E8(x:Nat):nQ x x=true:=aF rfl
def lM(ts:jp)(V:Nat):Nat->kw
 |0=>List.replicate (V+1) false|k+1=>(lM ts V k).set (rv ts ((k+1:Nat):Int)).toNat true
theorem ZI(ts:jp)(V:Nat):∀k,(lM ts V k).length=V+1
 |0=>fx|k+1=>by unfold lM;rw[aig,ZI ts V k]
theorem aaM{ts:jp}{V p:Nat}:∀k,On (lM ts V k) p->∃u:Nat,1<=u/\u<=k/\(rv ts (u:Int)).toNat=p
 |0,h=>absurd h nE|k+1,h=>by
  unfold lM at h;rcases jS.1 h with h|h
  .obtain⟨u,h1,h2,h3⟩:=aaM k h
   grind
  .exact⟨k+1,auc,auc,h.1⟩
section
variable{ts:jp}{V:Nat}(F:jb ts V)(hV:V<=2000)
include F
theorem jb.bd(hV:V<=2000):Im ts V:=⟨F.len,fun v a b=>by have:=F.le a b;omega⟩
include hV
theorem akj:aif ((V:Int),ts,())=some (true,ts,()):=by
 have hw:pu ((V:Int)+(1:Int))=((V+1:Nat):Int):=auk;have e5:LV ((V:Int),(1:Int),ts,List.replicate (V+1) false,())=aum (ts,()):=by
  unfold LV;delta u4;refine cO (fun k:Nat=>((V:Int),((k+1:Nat):Int),ts,lM ts V k,())) V rfl ?_ ?_ auh
  .intro k hk
   try dsimp only
   unfold CY;have hr:=F.eJ (k+1) auc auc;have aS:an ((k+1:Nat):Int) ts.length=true:=aP ⟨auc,by rw[F.len];omega⟩;obtain⟨z,hz⟩:∃z,z=rv ts ((k+1:Nat):Int):=⟨_,rfl⟩;have g:gt .I ts ((k+1:Nat):Int)=z:=hz.symm;rw[<-hz]at hr;have hns:(lM ts V k).getD z.toNat false=false:=by cases q:(lM ts V k).getD z.toNat false with|false=>rfl|true=>obtain⟨u,u1,u2,u3⟩:=aaM k q;have hu:=F.eJ u u1 auc;exact absurd (show rv ts (u:Int)=rv ts ((k+1:Nat):Int) by rw[<-hz];omega) (F.inj u (k+1) u1 auc auc)
   have hin2:an z (List.length (lM ts V k))=true:=aP ⟨auc,by rw[ZI];omega⟩;have ek:pu (((k+1:Nat):Int)+1)=((k+1+1:Nat):Int):=auk;rw[bR auj,aW aS,g,bC aui,aW aS];refine(bC (show bK false true (iL (V:Int) z)=false from aui)).trans ?_;rw[aW aS,aW hin2];refine(bC (show bK false true (gt .bool (lM ts V k) z)=false from ?_)).trans ?_
   .rw[show gt .bool (lM ts V k) z=false from(ar6 auc).trans hns];rfl
   rw[aW aS,aW hin2,ek];have fin:∀b:kw,b=lM ts V (k+1)->(aul ((V:Int),((k+1+1:Nat):Int),ts,b,()):am B7 BA)=aul ((V:Int),((k+1+1:Nat):Int),ts,lM ts V (k+1),()):=by intros;subst_vars;rfl
   exact fin _ (by show _=(lM ts V k).set (rv ts ((k+1:Nat):Int)).toNat true;rw[<-hz];rfl)
  .try dsimp only
   unfold CY;rw[bC aui];rfl
 have hb:both (iE (0:Int) ((V+1:Nat):Int)) (both (iE ((V+1:Nat):Int) ((V+1:Nat):Int)) (iE ((Int.ofNat 1)*((V+1:Nat):Int)) (281474976710656:Int)))=true:=nC auj (aF (atm _)) (aF (by grind));show Mt LV (V:Int) ts=_;unfold Mt;rw[hw];refine(bC (qU (aF (by show(List.length ts:Int)=_;rw[F.len])))).trans ((aW (aP ⟨auc,by rw[F.len];omega⟩)).trans ((bC (show bK false true (Bool.not (iQ (gt .I ts (0:Int)) (0:Int)))=false from qU (aF F.zero))).trans ((aW hb).trans ((bg e5).trans rfl))))
theorem w8{l:Int}(h0:0<=l)(h:l / 2<=(V:Int)):uc (l,ts,())=some (rl ts l,ts,()):=by
 have e1:=abj h0 auc;have e2:=aa2 h0;have hr:=F.le (v:=l / 2) auc h;have aS:an (l / 2) ts.length=true:=aP ⟨auc,by rw[F.len];omega⟩;have hm:0<=l % 2/\l % 2<=1:=auc
 have e3:CQ (gt .I ts (l / 2),decide (l % 2=1),())=some (rl ts l,()):=by
  show wj (rv ts (l / 2)) (decide (l % 2=1))=_;unfold wj;have w1:pu ((2:Int)*rv ts (l / 2))=2*rv ts (l / 2):=auk;have e:∀p q:Int,p=q->(some (p,()):Option (TL wh))=some (q,()):=by rintro _ _ rfl;rfl
  by_cases q:l % 2=1
  .refine ba (aF q) (e _ _ ?_);show pu (pu ((2:Int)*rv ts (l / 2))+1)=_;rw[w1];unfold rl;rw[q];exact auk
  .refine aN (aJ q) (e _ _ ?_);show pu ((2:Int)*rv ts (l / 2))=_;rw[w1];unfold rl;omega
 show Mz CQ Rj qj l ts=_;unfold Mz;exact aZ e1 (aK aS (aZ e2 (aZ e3 rfl)))
theorem uu(L:jp)(hL:∀l∈L,0<=l/\l / 2<=(V:Int))(hn:L.length<=100000):LY (L,ts,())=some (ts,L.map (rl ts),()):=by
 have e3:XG (L,(0:Int),ts,[],())=some (ts,L.map (rl ts),()):=by
  unfold XG;delta u4;refine cO (fun k:Nat=>(L,(k:Int),ts,(L.take k).map (rl ts),())) L.length rfl ?_ ?_ auh
  .intro k hk;have hx:=bA hk;obtain⟨l0,l1⟩:=hL _ (ut hk);have e1:uc (gt .I L (k:Int),ts,())=some (rl ts L[k],ts,()):=by rw[bz (σ:=.I) hx];exact w8 F hV l0 l1
   have ht:(L.take (k+1)).map (rl ts)=(L.take k).map (rl ts)++[rl ts L[k]]:=by rw[Pl.cK hx,cH];rfl
   have e:∀(a b:jp) (p q:Int),a=b->p=q->(aul (L,p,ts,a,()):am Ca BE)=aul (L,q,ts,b,()):=by intros;subst_vars;rfl
   exact ba (aF (show(k:Int)<((L.length:Nat):Int) by omega)) (aK (show an (k:Int) L.length=true from aug) (aZ e1 (aK (eX (by grind) auc) (e _ _ _ _ ht.symm (dD (show(k:Int)+1=((k+1:Nat):Int) by omega) auc)))))
  .rw[cV];exact aN (aJ (show ¬(L.length:Int)<(L.length:Int) by omega)) rfl
 exact aZ e3 rfl
abbrev ma{α:Type}(m:cC)(r:α):=(m.addr,m.word,m.any,m.reads.map bS,m.writes.map bX,(0:Int),(0:Int),false,m.addr,m.word,m.any,r)
theorem amc(m:cC)(k:Int)(acc:List bO.T)(r:fh)(hw:1<=m.word/\m.word<=64)(h1:1<=r.var)(h2:r.var+m.word-1<=(V:Int))(hc:pH ts m.word r=true) :
  KZ (k,(0:Int),ts,ma m (acc,r.var,r.addr,()))=aum (k,ts,ma m (acc,r.var,r.addr,())):=by
 unfold KZ;delta gK u5 bV cy;have hwn:((m.word.toNat:Nat):Int)=m.word:=auc
 unfold pH at hc;rw[acl]at hc;refine cO (fun i:Nat=>(k,(i:Int),ts,ma m (acc,r.var,r.addr,()))) m.word.toNat rfl ?_ ?_ auh
 .intro i hi;have hp:=asl (hc i (act.2 hi));have hr:=F.le (v:=r.var) auc auc;have w1:pu (r.var+(i:Int))=r.var+(i:Int):=auk;have w2:pu (rv ts r.var+(i:Int))=rv ts r.var+(i:Int):=auk;have hc:Bool.not (iQ (gt .I ts (pu (r.var+(i:Int)))) (pu (rv ts r.var+(i:Int))))=false:=qU (aF (by show rv ts (pu (r.var+(i:Int)))=pu (rv ts r.var+(i:Int));rw[w1,w2];exact hp));have i1:an (pu (r.var+(i:Int))) ts.length=true:=by rw[w1];exact aP ⟨auc,by rw[F.len];omega⟩
  have i2:an r.var ts.length=true:=aP ⟨auc,by rw[F.len];omega⟩;have e:∀p q:Int,p=q->(aul (k,p,ts,ma m (acc,r.var,r.addr,())):am Bc AN)=aul (k,q,ts,ma m (acc,r.var,r.addr,())):=by intros;subst_vars;rfl
  exact ba (aF (show(i:Int)<m.word by omega)) (aK i1 (aK i2 (aN hc (e _ _ (dD (show(i:Int)+1=((i+1:Nat):Int) by omega) auc)))))
 .exact aN (aJ (show ¬((m.word.toNat:Nat):Int)<m.word by omega)) rfl
end
section
variable{n:aB}{V:Nat}(hs:cA n V){ts:jp}(F:jb ts V)
include hs F
theorem amb{m:cC}(hm:m∈n.af)(hc:mg ts m=true) :
  Wl ((0:Int),ts,ma m ([],()))=aum (ts,ma m ((m.reads.map (ia ts)).map bS,())):=by
 have hV:=hs.v2;obtain⟨m1,m2,m3,m4,m5,m6,m7,m8⟩:=hs.af m hm;unfold mg at hc;rw[acl]at hc;unfold Wl;delta gA u2 bV cy;have hL:((m.reads.map bS).length:Int)=(m.reads.length:Int):=by rw[aG]
 refine cO (fun k:Nat=>((k:Int),ts,ma m (((m.reads.take k).map (ia ts)).map bS,()))) m.reads.length rfl ?_ ?_ auh
 .intro k hk;have hx:=bA hk;have hp:=hc k (act.2 hk);have hd:m.reads.getD k ⟨0,[]⟩=m.reads[k]:=by rw[ff,hx];rfl
  rw[hd]at hp;have hr:=ut hk;obtain⟨r1,r2⟩:=E2 hs F hm hr;have hal:=m5 _ hr;have hx':(m.reads.map bS)[k]?=some (bS m.reads[k]):=by rw[cW,hx];rfl
  have g:gt bO (m.reads.map bS) (k:Int)=bS m.reads[k]:=bz (σ:=bO) hx';obtain⟨r,hrr⟩:∃r,r=m.reads[k]:=⟨_,rfl⟩;rw[<-hrr]at hp r1 r2 hal g hr hx;have e7:=amc F hV m (k:Int) (((m.reads.take k).map (ia ts)).map bS) r ⟨m3,m4⟩ r1 r2 hp;have el:=uu F hV r.addr (aah hs F hm hr) auc;have i2:an r.var ts.length=true:=aP ⟨auc,by rw[F.len];omega⟩;have ht:((m.reads.take (k+1)).map (ia ts)).map bS=((m.reads.take k).map (ia ts)).map bS++[bS (ia ts r)]:=by rw[Pl.cK hx,cH,cH];rfl
  have e:∀(a b:List bO.T) (p q:Int),a=b->p=q->(aul (p,ts,ma m (a,())):am Bb AM)=aul (q,ts,ma m (b,())):=by rintro _ _ _ _ rfl rfl;rfl
  have hroom:=eX (a:=32) (L:=((m.reads.take k).map (ia ts)).map bS) (x:=bS (ia ts r)) (by simp only[aG,dK];omega) auc
  try dsimp only
  unfold KW;rw[g];exact ba (aF (show(k:Int)<((m.reads.map bS).length:Int) by omega)) (aK (show an (k:Int) (List.length (m.reads.map bS))=true from aug) (aZ e7 (aK i2 (aZ el (aK (jj _) (aK i2 (aK (E8 _) (aK (jj _) (aK hroom (e _ _ _ _ ht.symm (dD (show(k:Int)+1=((k+1:Nat):Int) by omega) auc)))))))))))
 .rw[cV];exact aN (aJ (show ¬(m.reads.length:Int)<((m.reads.map bS).length:Int) by omega)) rfl
theorem ak7{m:cC}(hm:m∈n.af)(acc:List bO.T) :
  VJ ((0:Int),ts,ma m (acc,[],()))=some (ts,(0:Int),(0:Int),false,m.addr,m.word,m.any,acc,(m.writes.map (iJ ts)).map bX,()):=by
 have hV:=hs.v2;obtain⟨m1,m2,m3,m4,m5,m6,m7,m8⟩:=hs.af m hm;unfold VJ;delta fW u3 bV cy;have hL:((m.writes.map bX).length:Int)=(m.writes.length:Int):=by rw[aG]
 refine cO (fun k:Nat=>((k:Int),ts,ma m (acc,((m.writes.take k).map (iJ ts)).map bX,()))) m.writes.length rfl ?_ ?_ auh
 .intro k hk;have hx:=bA hk;have hw:=ut hk;obtain⟨⟨o1,o2⟩,a1,d1⟩:=aar hs F hm hw;obtain⟨al,dl⟩:=m6 _ hw;have hx':(m.writes.map bX)[k]?=some (bX m.writes[k]):=by rw[cW,hx];rfl
  have g:gt bu (m.writes.map bX) (k:Int)=bX m.writes[k]:=bz (σ:=bu) hx';obtain⟨w,hww⟩:∃w,w=m.writes[k]:=⟨_,rfl⟩;rw[<-hww]at o1 o2 a1 d1 al dl g hx;have e1:=w8 F hV o1 o2;have e2:=uu F hV w.addr a1 auc;have e3:=uu F hV w.data d1 auc;have ht:((m.writes.take (k+1)).map (iJ ts)).map bX=((m.writes.take k).map (iJ ts)).map bX++[bX (iJ ts w)]:=by rw[Pl.cK hx,cH,cH];rfl
  have e:∀(a b:List bu.T) (p q:Int),a=b->p=q->(aul (p,ts,ma m (acc,a,())):am AL Aq)=aul (q,ts,ma m (acc,b,())):=by rintro _ _ _ _ rfl rfl;rfl
  have hroom:=eX (a:=56) (L:=((m.writes.take k).map (iJ ts)).map bX) (x:=bX (iJ ts w)) (by simp only[aG,dK];omega) auc
  try dsimp only
  unfold KE;rw[g];exact ba (aF (show(k:Int)<((m.writes.map bX).length:Int) by omega)) (aK (show an (k:Int) (List.length (m.writes.map bX))=true from aug) (aZ e1 (aK (qL _) (aK (qL _) (aZ e2 (aK (qL _) (aZ e3 (aK hroom (e _ _ _ _ ht.symm (dD (show(k:Int)+1=((k+1:Nat):Int) by omega) auc))))))))))
 .rw[cV];exact aN (aJ (show ¬(m.writes.length:Int)<((m.writes.map bX).length:Int) by omega)) rfl
theorem ajN{m:cC}(hm:m∈n.af)(hc:mg ts m=true):Wk (m.addr,m.word,m.any,m.reads.map bS,m.writes.map bX,ts,())=some (m.addr,m.word,m.any,true,ts,(m.reads.map (ia ts)).map bS,(m.writes.map (iJ ts)).map bX,()):=aZ (amb hs F hm hc) (aZ (ak7 hs F hm ((m.reads.map (ia ts)).map bS)) rfl)
theorem aos(o b c:jp):Wh ((0:Int),ts,nt n ((0:Int),n.vars,[],o,b,c,()))=some (ts,nt n ((0:Int),n.vars,n.ax.map (rv ts),o,b,c,())):=by
 have hl:=hs.lens.1;have hV:=hs.v2;unfold Wh;delta u16 u4 bV cy;refine cO (fun k:Nat=>((k:Int),ts,nt n ((0:Int),n.vars,(n.ax.take k).map (rv ts),o,b,c,()))) n.ax.length rfl ?_ ?_ auh
 .intro k hk;have hx:=bA hk;obtain⟨d1,d2⟩:=abo hs F _ (ut hk);have g:gt .I n.ax (k:Int)=n.ax[k]:=bz (σ:=.I) hx;have i2:an (gt .I n.ax (k:Int)) ts.length=true:=by rw[g];exact aP ⟨auc,by rw[F.len];omega⟩
  have ht:(n.ax.take k).map (rv ts)++([gt .I ts (gt .I n.ax (k:Int))]:jp)=(n.ax.take (k+1)).map (rv ts):=by rw[g,Pl.cK hx,cH];rfl
  have e:∀(a b':jp) (p q:Int),a=b'->p=q->(aul (p,ts,nt n ((0:Int),n.vars,a,o,b,c,())):am Ba AK)=aul (q,ts,nt n ((0:Int),n.vars,b',o,b,c,())):=by intros;subst_vars;rfl
  have hroom:=eX (a:=8) (L:=(n.ax.take k).map (rv ts)) (x:=gt .I ts (gt .I n.ax (k:Int))) (by grind) auc;exact ba (aF (show(k:Int)<((n.ax.length:Nat):Int) by omega)) (aK (show an (k:Int) (List.length n.ax)=true from aug) (aK i2 (aK hroom (e _ _ _ _ ht (dD (show(k:Int)+1=((k+1:Nat):Int) by omega) auc)))))
 .rw[cV];exact aN (aJ (show ¬(n.ax.length:Int)<(n.ax.length:Int) by omega)) rfl
theorem anG(i' o b c:jp):VB ((0:Int),ts,nt n ((0:Int),n.vars,i',[],o,b,c,()))=some (ts,nt n ((0:Int),n.vars,i',(n.ah.map (fF ts)).map aX,o,b,c,())):=by
 have hl:=hs.lens.2.1;have hV:=hs.v2;unfold VB;delta gK u5 bV cy;have hL:((n.ah.map aX).length:Int)=(n.ah.length:Int):=by rw[aG]
 refine cO (fun k:Nat=>((k:Int),ts,nt n ((0:Int),n.vars,i',((n.ah.take k).map (fF ts)).map aX,o,b,c,()))) n.ah.length rfl ?_ ?_ auh
 .intro k hk;have hx:=bA hk;obtain⟨⟨d1,d2⟩,l1,l2⟩:=aaT hs F _ (ut hk);have hx':(n.ah.map aX)[k]?=some (aX n.ah[k]):=by rw[cW,hx];rfl
  have g:gt ae (n.ah.map aX) (k:Int)=aX n.ah[k]:=bz (σ:=ae) hx';obtain⟨x,hxx⟩:∃x,x=n.ah[k]:=⟨_,rfl⟩;rw[<-hxx]at d1 d2 l1 l2 g hx;have i2:an (aX x).1 ts.length=true:=aP ⟨show 0<=x.var by omega,show x.var<_ by rw[F.len];omega⟩;have el:=w8 F hV l1 l2;have ht:((n.ah.take k).map (fF ts)).map aX++[aX (fF ts x)]=((n.ah.take (k+1)).map (fF ts)).map aX:=by rw[Pl.cK hx,cH,cH];rfl
  have e:∀(a b':List ae.T) (p q:Int),a=b'->p=q->(aul (p,ts,nt n ((0:Int),n.vars,i',a,o,b,c,())):am AG Aj)=aul (q,ts,nt n ((0:Int),n.vars,i',b',o,b,c,())):=by rintro _ _ _ _ rfl rfl;rfl
  have hroom:=eX (a:=24) (L:=((n.ah.take k).map (fF ts)).map aX) (x:=aX (fF ts x)) (by simp only[aG,dK];omega) auc;unfold nt
  try dsimp only
  unfold Ky;rw[g];exact ba (aF (show(k:Int)<((n.ah.map aX).length:Int) by omega)) (aK (show an (k:Int) (List.length (n.ah.map aX))=true from aug) (aK i2 (aZ el (aK (jj _) (aK i2 (aK (E8 _) (aK (jj _) (aK (jj _) (aK hroom (e _ _ _ _ ht (dD (show(k:Int)+1=((k+1:Nat):Int) by omega) auc)))))))))))
 .rw[cV];exact aN (aJ (show ¬(n.ah.length:Int)<((n.ah.map aX).length:Int) by omega)) rfl
theorem anH(hc:∀m∈n.af,mg ts m=true)(i':jp)(l':List ae.T)(o b c:jp):VC ((0:Int),(ts,nt n ((0:Int),n.vars,i',l',o,b,c,[],())) )=aum (ts,nt n ((0:Int),n.vars,i',l',o,b,c,(n.af.map (fG ts)).map aM,())):=by
 have hl:n.af.length<=100:=EQ hs.lens.2.2.2.2 auc;unfold VC;delta mC u6 bV cy;have hL:((n.af.map aM).length:Int)=(n.af.length:Int):=by rw[aG]
 refine cO (fun k:Nat=>((k:Int),ts,nt n ((0:Int),n.vars,i',l',o,b,c,((n.af.take k).map (fG ts)).map aM,()))) n.af.length rfl ?_ ?_ auh
 .intro k hk;have hx:=bA hk;have hmm:=ut hk;have hx':(n.af.map aM)[k]?=some (aM n.af[k]):=by rw[cW,hx];rfl
  have g:gt ai (n.af.map aM) (k:Int)=aM n.af[k]:=bz (σ:=ai) hx';obtain⟨m,hmx⟩:∃m,m=n.af[k]:=⟨_,rfl⟩;rw[<-hmx]at g hx hmm;have em:=ajN hs F hmm (hc m hmm);have ht:((n.af.take k).map (fG ts)).map aM++[aM (fG ts m)]=((n.af.take (k+1)).map (fG ts)).map aM:=by rw[Pl.cK hx,cH,cH];rfl
  have e:∀(a b':List ai.T) (p q:Int),a=b'->p=q->(aul (p,ts,nt n ((0:Int),n.vars,i',l',o,b,c,a,())):am AH Ak)=aul (q,ts,nt n ((0:Int),n.vars,i',l',o,b,c,b',())):=by rintro _ _ _ _ rfl rfl;rfl
  have hroom:=eX (a:=72) (L:=((n.af.take k).map (fG ts)).map aM) (x:=aM (fG ts m)) (by simp only[aG,dK];omega) auc;unfold nt
  try dsimp only
  unfold Kz;rw[g];exact ba (aF (show(k:Int)<((n.af.map aM).length:Int) by omega)) (aK (show an (k:Int) (List.length (n.af.map aM))=true from aug) (aZ em (aN rfl (aK hroom (e _ _ _ _ ht (dD (show(k:Int)+1=((k+1:Nat):Int) by omega) auc))))))
 .rw[cV];exact aN (aJ (show ¬(n.af.length:Int)<((n.af.map aM).length:Int) by omega)) rfl
theorem anI(i':jp)(l':List ae.T)(o b c:jp)(m':List ai.T):VD ((0:Int),ts,nt n ((0:Int),n.vars,i',l',o,b,c,m',[],()))=some (ts,(0:Int),n.vars,i',l',o,b,c,m',(n.ag.map (fO ts)).map aL,()):=by
 have hl:=hs.lens.2.2.1;have hV:=hs.v2;unfold VD;delta nq u7 bV cy;have hL:((n.ag.map aL).length:Int)=(n.ag.length:Int):=by rw[aG]
 refine cO (fun k:Nat=>((k:Int),ts,nt n ((0:Int),n.vars,i',l',o,b,c,m',((n.ag.take k).map (fO ts)).map aL,()))) n.ag.length rfl ?_ ?_ auh
 .intro k hk;have hx:=bA hk;obtain⟨⟨d1,d2⟩,⟨l1,l2⟩,l3,l4⟩:=Og hs F _ (ut hk);have hx':(n.ag.map aL)[k]?=some (aL n.ag[k]):=by rw[cW,hx];rfl
  have g:gt ae (n.ag.map aL) (k:Int)=aL n.ag[k]:=bz (σ:=ae) hx';obtain⟨x,hxx⟩:∃x,x=n.ag[k]:=⟨_,rfl⟩;rw[<-hxx]at d1 d2 l1 l2 l3 l4 g hx;have i2:an (aL x).1 ts.length=true:=aP ⟨show 0<=x.var by omega,show x.var<_ by rw[F.len];omega⟩;have el:=w8 F hV l1 l2;have el2:=w8 F hV l3 l4;have ht:((n.ag.take k).map (fO ts)).map aL++[aL (fO ts x)]=((n.ag.take (k+1)).map (fO ts)).map aL:=by rw[Pl.cK hx,cH,cH];rfl
  have e:∀(a b':List ae.T) (p q:Int),a=b'->p=q->(aul (p,ts,nt n ((0:Int),n.vars,i',l',o,b,c,m',a,())):am AJ Ap)=aul (q,ts,nt n ((0:Int),n.vars,i',l',o,b,c,m',b',())):=by rintro _ _ _ _ rfl rfl;rfl
  have hroom:=eX (a:=24) (L:=((n.ag.take k).map (fO ts)).map aL) (x:=aL (fO ts x)) (by simp only[aG,dK];omega) auc;unfold nt
  try dsimp only
  unfold KA;rw[g];exact ba (aF (show(k:Int)<((n.ag.map aL).length:Int) by omega)) (aK (show an (k:Int) (List.length (n.ag.map aL))=true from aug) (aK i2 (aZ el (aK (jj _) (aK i2 (aK (E8 _) (aK (jj _) (aK (jj _) (aZ el2 (aK (jj _) (aK i2 (aK (E8 _) (aK (jj _) (aK hroom (e _ _ _ _ ht (dD (show(k:Int)+1=((k+1:Nat):Int) by omega) auc))))))))))))))))
 .rw[cV];exact aN (aJ (show ¬(n.ag.length:Int)<((n.ag.map aL).length:Int) by omega)) rfl
theorem ajU(hck:Pl.gV n=0)(hc:∀m∈n.af,mg ts m=true):Wg (nt n (ts,()))=some (n.vars,(0:Int),ts,(eS ts n).ax,(eS ts n).ah.map aX,(eS ts n).bk,(eS ts n).aU,(eS ts n).constraints,(eS ts n).af.map aM,(eS ts n).ag.map aL,()):=by
 have ft:=pz hs;have ec:=Zxe ft;have q0:Bool.not (iQ (Pl.gV n) (0:Int))=false:=by grind
 have eb:=akj F hs.v2;rw[<-hs.vars]at eb;have hl:=hs.lens.2.2.2.1;obtain⟨o1,o2,o3⟩:=aa4 hs F;have e2:=uu F hs.v2 n.bk o1 auc;have e3:=uu F hs.v2 n.aU o2 auc;have e4:=uu F hs.v2 n.constraints o3 auc;have e8:=aos hs F (n.bk.map (rl ts)) (n.aU.map (rl ts)) (n.constraints.map (rl ts));have e12:=anG hs F (n.ax.map (rv ts)) (n.bk.map (rl ts)) (n.aU.map (rl ts)) (n.constraints.map (rl ts));have e17:=anH hs F hc (n.ax.map (rv ts)) ((n.ah.map (fF ts)).map aX) (n.bk.map (rl ts)) (n.aU.map (rl ts)) (n.constraints.map (rl ts));have e24:=anI hs F (n.ax.map (rv ts)) ((n.ah.map (fF ts)).map aX) (n.bk.map (rl ts)) (n.aU.map (rl ts)) (n.constraints.map (rl ts)) ((n.af.map (fG ts)).map aM);exact aZ ec (aN q0 (aZ eb (aN rfl (aZ e2 (aK (jj _) (aK (qL _) (aK (qL _) (aZ e3 (aK (jj _) (aK (qL _) (aZ e4 (aK (jj _) (aZ e8 (aZ e12 (aZ e17 (aZ e24 rfl))))))))))))))))
