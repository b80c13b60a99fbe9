import Derived.Test.YtmkbdfidnfmgmaaGreatKRc
import Derived.Test.YtmkbdfidnfmgmaaGreatKNe
set_option linter.all false
section
namespace Go.Proofs.YtmkbdfidnfmgmaaGreat.V
open Go Go.RowKit
set_option maxRecDepth 1000000
abbrev Dx:ak:=⟨[(0,.fz .I),(4,.hd 0 .I),(19,.fz .I),(20,.I),(21,.I)],[(0,.arr .I 3)],1⟩
abbrev Dq:List (Ev.Ex×ak):=[(.ret,⟨[(2,.aR),(3,.bool)],[],0⟩),((.exit 0),⟨[(4,.hd 0 .I)],[(0,.arr .I 3)],1⟩)]
abbrev Yx:=be Dx Dq
abbrev Yw:=Ld 0 49 (bI [0] (bt Tryz.f149)) Dx Dq
def MS(t0 t19:jp)(t20 t21:Int)(b0:jp):am Dx Dq:=
 br (iL t21 t20)
 (
  aj (an t21 t19.length)<|
  br (iQ t21 (0:Int))
  (
   aul (t0,t19,t20,(pu (t21+(1:Int))),b0,()))
  (
   br (iL (gt .I t19 t21) (1:Int))
   (
    aum (.inl (false,())))
   (
    br (bK false true (iE (Int.ofNat t0.length) (gt .I t19 t21)))
    (
     aum (.inl (false,())))
    (
     aj (an (gt .I t19 t21) b0.length)<|
     br (bK false true (Bool.not (iQ (gt .I b0 (gt .I t19 t21)) (0:Int))))
     (
      aum (.inl (false,())))
     (
      aj (an (gt .I t19 t21) b0.length)<|
      aul (t0,t19,t20,(pu (t21+(1:Int))),(List.set b0 (Int.toNat (gt .I t19 t21)) t21),()))))))
 (
  aum (.inr (b0,())))
def ai2  :Yw:=bJ (u5 MS) (pL k0 e0 1 l0 fun d=>aud)
def DS:Yx:=bj (u5 MS) NN
abbrev Yy:List Sh:=[(.sl .I)]
abbrev MU:List Sh:=[(.sl .I),.bool]
abbrev ajc:=TL Yy->Option (TL MU)
abbrev YS:=Kd 149 Yy MU
def Na(L5:Yx)(a0:jp):Option (TL MU):=
 br (iQ (Int.ofNat a0.length) (0:Int))
 (
  some ([],false,()))
 (
  aj (an (0:Int) a0.length)<|
  br (bK false true (Bool.not (iQ (gt .I a0 (0:Int)) (0:Int))))
  (
   some ([],false,()))
  (
   aj (both (iE (0:Int) (Int.ofNat a0.length)) (both (iE (Int.ofNat a0.length) (Int.ofNat a0.length)) (iE ((Int.ofNat 8)*(Int.ofNat a0.length)) (281474976710656:Int))))<|
   aA (L5 (a0,a0,(Int.ofNat a0.length),(0:Int),(List.replicate (Int.toNat (Int.ofNat a0.length)) (Sh.zero .I)),())) fun x0=>
   (match x0 with|.inl x1=>some ([],x1.1,())|.inr x1=>some (x1.1,true,())
   )))
def ajb(M5:Yw):YS:=⟨u1 (Na M5.L),pD Tryz.func149 49 k0 e0 1 (sS (sC M5 l0)) fun d=>aud⟩
def YT:YS:=ajb  ai2
def MT:ajc:=YT.F
open Go.Proofs.YtmkbdfidnfmgmaaGreat.Pl
open Go.Proofs.YtmkbdfidnfmgmaaGreat.Ev (Tr Tr.d6 nth fc Ex)
set_option maxRecDepth 100000
def gi(n:Nat)(x:Int):Bool:=decide (0<=x)&&decide (x / 2<n)
def rN(n:Nat)(x:Int):Bool:=decide (0<=x)&&decide (x<n)
def Hs(n:Nat)(d:aB):Bool:=d.ax.all (rN n)&&(d.ah.all (fun l=>rN n l.var&&gi n l.next)&&(d.bk.all (gi n)&&(d.aU.all (gi n)&&(d.constraints.all (gi n) &&
 (d.af.all (fun m=>m.reads.all fun r=>rN n r.var&&r.addr.all (gi n))&&(d.af.all (fun m=>m.writes.all fun x=>gi n x.on&&(x.addr.all (gi n)&&x.data.all (gi n)))&&d.ag.all fun a=>rN n a.var&&(gi n a.a&&gi n a.b)))))))
def Hr(tl:jp)(m:cC):Bool:=m.reads.all fun r=>(List.range m.word.toNat).all fun i=>decide (0<=r.var)&&(decide (r.var+i<tl.length)&&decide (tl.getD (r.var+i).toNat 0=tl.getD r.var.toNat 0+i))
def R8(tl:jp):Bool:=match MT (tl,())with|some (_,true,())=>true|_=>false
def preB(n:aB)(tl:jp):Bool:=rG n&&(decide (gV n=0)&&(decide ((tl.length:Int)=n.vars+1)&&(decide (tl.length<=1048576)&&(tl.all (fun y=>decide (0<=y)&&decide (y<=1000000))&&(Hs tl.length n&&(n.af.all (Hr tl)&&R8 tl))))))
variable{x:Int}{n:Nat}
theorem mF(h:gi n x=true):0<=x/\x / 2<n:=by simpa[gi]using h
theorem sL(h:rN n x=true):0<=x/\x<n:=by simpa[rN]using h
theorem amo{d:aB}(h:Hs n d=true):uJ n d:=by
 unfold Hs at h;simp only[asp,acl]at h;obtain⟨h1,h2,h3,h4,h5,h6,h7,h8⟩:=h;exact⟨fun x hx=>sL (h1 x hx),fun l hl=>⟨(sL (h2 l hl).1).1,(sL (h2 l hl).1).2,mF (h2 l hl).2⟩,fun x hx=>mF (h3 x hx),fun x hx=>mF (h4 x hx),fun x hx=>mF (h5 x hx),
  fun m hm r hr=>⟨(sL (h6 m hm r hr).1).1,(sL (h6 m hm r hr).1).2,fun y hy=>mF ((h6 m hm r hr).2 y hy)⟩,fun m hm x hx=>⟨(mF (h7 m hm x hx).1).1,(mF (h7 m hm x hx).1).2,fun y hy=>mF ((h7 m hm x hx).2.1 y hy),fun y hy=>mF ((h7 m hm x hx).2.2 y hy)⟩,
  fun a ha=>⟨(sL (h8 a ha).1).1,(sL (h8 a ha).1).2,(mF (h8 a ha).2.1).1,(mF (h8 a ha).2.1).2,mF (h8 a ha).2.2⟩⟩
variable{tl:jp}
theorem amd{m:cC}(h:Hr tl m=true):xy tl m:=by unfold Hr at h;simp only[asp,acl,act,IS]at h;exact fun r hr i hi=>h r hr i hi
def agd(f g:Int->Int)(r:fh):fh:=⟨f r.var,r.addr.map g⟩
def age(g:Int->Int)(x:n5):n5:=⟨g x.on,x.addr.map g,x.data.map g⟩
def agb(f g:Int->Int)(m:cC):cC:=⟨m.addr,m.word,m.any,m.reads.map (agd f g),m.writes.map (age g)⟩
def agc(f g:Int->Int)(n:aB):aB:=⟨n.vars,n.ax.map f,n.ah.map (fF f g),n.bk.map g,n.aU.map g,n.constraints.map g,n.af.map (agb f g),n.ag.map (fO f g)⟩
theorem aow(f g:Int->Int)(M:aY):(M.fu f g).d=agc f g M.d:=by show(⟨M.vars,M.ax.map f,M.ah.map (fF f g),M.bk.map g,M.aU.map g,M.constraints.map g,(M.af.map (aQ.fu f g)).map aQ.d,M.ag.map (fO f g)⟩:aB)=⟨M.vars,M.ax.map f,M.ah.map (fF f g),M.bk.map g,M.aU.map g,M.constraints.map g,(M.af.map aQ.d).map (agb f g),M.ag.map (fO f g)⟩;congr 1;rw[IR,IR];refine WF fun m _=>?_;show(⟨m.addr,m.word,m.any,(m.reads.map (bZ.fu f g)).map bZ.d,(m.writes.map (cj.fu g)).map cj.d⟩:cC)=⟨m.addr,m.word,m.any,(m.reads.map bZ.d).map (agd f g),(m.writes.map cj.d).map (age g)⟩;rw[IR,IR,IR,IR];rfl
abbrev DX:ak:=⟨[(0,.agg [.I,.fz .I,.fz ae,.fz .I,.fz .I,.fz .I,.fz ai,.fz ae]),(1,.fz .I)],[],0⟩
abbrev DH:List (Ev.Ex×ak):=[(.ret,⟨[(0,.agg [.I,.fz .I,.fz ae,.fz .I,.fz .I,.fz .I,.fz ai,.hd 0 ae]),(1,.I)],[(0,.arr ae 113)],1⟩)]
abbrev Zh:=be DX DH
abbrev Zf:=Kb 112 2 DX 2 DH
def HQ(tl:jp)(x:Int):Int:=tl.getD x.toNat 0
def tD(tl:jp)(n:aB):aB:=agc (HQ tl) (az tl) n
def uk(v:Int)(i:jp)(l:List ae.T)(o b c:jp)(m:List ai.T)(a:List ae.T)(tl:jp):Option (Out DH):=match preB (eH (v,i,l,o,b,c,m,a,())) tl with|true=>let r:=dn (tD tl (eH (v,i,l,o,b,c,m,a,())));some (r.1,r.2.1,r.2.2.1,r.2.2.2.1,r.2.2.2.2.1,r.2.2.2.2.2.1,r.2.2.2.2.2.2.1,(0:Int),r.2.2.2.2.2.2.2.1,())|false=>none
theorem aox(f g:Int->Int)(M:aY):(M.fu f g).v=M.v:=by show Value.agg #[_,.slice M.Ai (M.ax.map f).length M.ci,.slice M.Al (M.ah.map (fF f g)).length M.cl,.slice M.Ao (M.bk.map g).length M.co,.slice M.Ab (M.aU.map g).length M.cb,.slice M.Ac (M.constraints.map g).length M.cc,.slice M.Am (M.af.map (aQ.fu f g)).length M.cm,.slice M.An (M.ag.map (fO f g)).length M.cn]=_;simp only[aG];rfl
theorem Fc(f:Int->Int):∀(us:List fE) (w:World),(cN f w us).os=w.os/\(cN f w us).tape=w.tape/\(cN f w us).output=w.output
 |[],w=>⟨rfl,rfl,rfl⟩|u::us,w=>Fc f us (w.setCell u.ad (.int .i64 (f u.2.2)))
variable{w':World}{A:Nat->Prop}{w:World}
theorem ZJ(h:Below w.heap.size w w'):ka w A w' A:=fun b o hA hb=>⟨(h.block b (kr hb)).trans hb,hA⟩
variable{d:cJ.T}
theorem ZH{V1 V2:Value}(hA:∀b,A b->b<w.heap.size)(h1:ic w A cJ d V1)(h2:Cs w A (.sl .I) tl [V2])(hp:preB (eH d) tl=true) :
  Calls Tryz.prog 112 #[V1,V2] w fun e w'=>∃M:aY,e=.returned (.tuple #[M.v,.int .i64 0])/\M.d=tD tl (eH d)/\Below w.heap.size w w'/\M.own w' w.heap.size:=by
 unfold preB at hp;simp only[asp,IS,acl]at hp;obtain⟨p1,p2,p3,p4,p5,p6,p7,p8⟩:=hp;have ft:=E7 p1;obtain⟨N,rfl,hNd,hNo⟩:=Fi h1;have hck:=Jq ft;rw[Zri,p2]at hck;have hs0:da (eH d)=0:=by
  unfold Pl.gV at p2;by_cases q:da (eH d)=0
  .exact q
  .rw[IO q]at p2;exact absurd p2 q
 obtain⟨V,hsn⟩:=uS hs0;have hvv:=hsn.vars;have hpos:0<tl.length:=auc
 obtain⟨aa,len,cap,q1,rfl,q3,q4⟩:=h2;have h2:Cs w A (.sl .I) tl [.slice aa tl.length cap]:=⟨aa,_,cap,rfl,rfl,q3,q4⟩;simp only[atv,atF]at q1;subst q1;obtain⟨b',off',Y,rfl,_⟩:=q4 (fun e=>by rw[e]at hpos;exact Nat.lt_irrefl 0 hpos);obtain⟨a3,cap3,e3,hsl⟩:=rX h2;simp only[atv,atF,atk]at e3;obtain⟨rfl,_,rfl⟩:=e3;refine(akA (w:=w) (N:=N) (n:=tl.length) (b':=b') (off':=off') (c':=cap) (tl:=tl) hNo (hNd▸ft) hsl.1 (fun y hy=>p5 y hy) p4 hpos (by rw[show N.vars=(eH d).vars from OF aB.vars hNd];exact p3.symm) (hNd▸amo p6) (fun m hm=>amd (p7 m (hNd▸hm))) ?_ ?_).mono ?_
 .intro w' hb;have:=GY.ok.2 (d,()) ((0:Int),()) hck w' A [N.v] (fun b hb2=>arm (hA b hb2) hb.size) ⟨N.v,[],rfl,h1.bU (ZJ hb),rfl⟩;refine this.mono ?_;rintro e w2 ⟨vs,rfl,hb2,W1,r,rfl,hW,hr⟩;have hr:r=[]:=hr;subst hr;have hW1:W1.cells.toList=[.int .i64 0]:=hW.1;have hWv:W1=.int .i64 0:=by
   have hag:yo W1=false:=hW.2;have hc:W1.cells=#[W1]:=by cases W1<;>first|rfl|cases hag
   rw[hc]at hW1;exact(List.cons.inj hW1).1
  exact⟨by rw[hWv];rfl,hb2⟩
 .intro w' hb;have hinv:∃x,MT (tl,())=some (x,true,()):=by
   unfold R8 at p8;split at p8
   .rename_i x hx;exact⟨x,hx⟩
   .cases p8
  obtain⟨x,hx⟩:=hinv;have:=YT.ok.2 (tl,()) (x,true,()) hx w' A [.slice (some ⟨b',off',none⟩) tl.length cap] (fun b hb2=>arm (hA b hb2) hb.size) ⟨_,[],rfl,(show ic w A (.sl .I) tl (.slice (some ⟨b',off',none⟩) tl.length cap)from⟨h2,rfl⟩).bU (ZJ hb),rfl⟩;refine this.mono ?_;rintro e w2 ⟨vs,rfl,hb2,W1,r,rfl,hW,W2,r2,rfl,hW2,hr⟩;have hr:r2=[]:=hr;subst hr;have hW1:W2.cells.toList=[.bool true]:=hW2.1;have hWv:W2=.bool true:=by
   have hag:yo W2=false:=hW2.2;have hc:W2.cells=#[W2]:=by cases W2<;>first|rfl|cases hag
   rw[hc]at hW1;exact(List.cons.inj hW1).1
  exact⟨W1,by rw[hWv];rfl,hb2⟩
 .rintro e w' ⟨M,w0,hMd,rfl,hB0,hMo,hlow,hg⟩;have aS:=Oy (HQ tl) (az tl) hMo;have hR:=akf aS (fun b q=>⟨hMo.lt b q,by have:=hlow b q;omega⟩) hg;have hs:=hg.size;rw[mE]at hs;refine⟨M.fu (HQ tl) (az tl),by rw[aox],by rw[aow,hMd,hNd];rfl,⟨?_,?_,?_,EQ hB0.size hs,fun k hk=>?_⟩,aml hMo hR fun b q=>arm (hMo.lt b q) hs⟩
  .exact hg.os.trans ((Fc _ _ _).1.trans hB0.os)
  .exact hg.tape.trans ((Fc _ _ _).2.1.trans hB0.tape)
  .exact hg.output.trans ((Fc _ _ _).2.2.trans hB0.output)
  .have hk0:=hB0.size;refine(hg.block k (by rw[mE];omega) (fun e=>by have:=BY e;omega)).trans ((N0 id _ w0 k fun u hu e=>?_).trans (hB0.block k hk));obtain⟨p,hpm,rfl⟩:=rt.1 hu;have:=hlow _ (aS.at_ p hpm).2.2;have e:p.b=k:=e;omega
abbrev agE:ak:=⟨[(0,.agg [.I,.fz .I,.fz ae,.fz .I,.fz .I,.fz .I,.fz ai,.fz ae])],[],0⟩
abbrev El:ak:=agE
abbrev Ec:List (Ev.Ex×ak):=[(.ret,⟨[(0,.fz .I)],[],0⟩)]
abbrev ZD:=be El Ec
abbrev ZB:=Kb 111 1 El 1 Ec
abbrev DP:ak:=⟨[(0,.agg [.I,.fz .I,.fz ae,.fz .I,.fz .I,.fz .I,.fz ai,.hd 0 ae])],[(0,.arr ae 113)],1⟩
abbrev DF:List (Ev.Ex×ak):=[(.ret,⟨[(0,.fz .I)],[(0,.arr ae 113)],1⟩)]
abbrev Y9:=be DP DF
abbrev Y7:=Kb 111 1 DP 1 DF
def um(v:Int)(i:jp)(l:List ae.T)(o b c:jp)(m:List ai.T)(a:List ae.T):Option (Out Ec):=match rG (eH (v,i,l,o,b,c,m,a,()) )with|true=>some (bp (eH (v,i,l,o,b,c,m,a,()) ),())|false=>none
def ui(v:Int)(i:jp)(l:List ae.T)(o b c:jp)(m:List ai.T)(a:List ae.T):Option (Out DF):=match rG (eH (v,i,l,o,b,c,m,a,()) )with|true=>some (bp (eH (v,i,l,o,b,c,m,a,()) ),a,())|false=>none
theorem ZA{V:Value}(h1:ic w A cJ d V)(hp:rG (eH d)=true) :
  Calls Tryz.prog 111 #[V] w fun e w'=>∃A c,e=.returned (.slice A (bp (eH d)).length c)/\cX w' w.heap.size 3 1 cI A c (bp (eH d))/\Below w.heap.size w w':=by
 obtain⟨N,rfl,hNd,hNo⟩:=Fi h1;have:=ajL N w hNo (hNd▸E7 hp);rw[hNd]at this;exact this
theorem ajy:kM Tryz.prog 111 ⟨1,El,1,Ec,fun d=>um d.1 d.2.1 d.2.2.1 d.2.2.2.1 d.2.2.2.2.1 d.2.2.2.2.2.1 d.2.2.2.2.2.2.1 d.2.2.2.2.2.2.2.1⟩:=by
 refine⟨⟨Tryz.f111,bt Tryz.f111,Tryz.func111,aud,aud⟩,?_⟩;rintro⟨v,i,l,o,b,c,m,a,u⟩ out ho st e st' hput hs X vs args hX H hr hv R;have ho:um v i l o b c m a=some out:=ho;unfold um at ho;split at ho
 case h_2=>cases ho
 rename_i hp;have ho:=(BY ho).symm;subst ho;have e1:st=⟨.node (some (.agg [.int .i64 v,.fz .I i,.fz ae l,.fz .I o,.fz .I b,.fz .I c,.fz ai m,.fz ae a])) .nil .nil,⟨.nil,0⟩⟩:=by have:ak.put 1 El (v,i,l,o,b,c,m,a,u)=some ⟨.node (some (.agg [.int .i64 v,.fz .I i,.fz ae l,.fz .I o,.fz .I b,.fz .I c,.fz ai m,.fz ae a])) .nil .nil,⟨.nil,0⟩⟩:=rfl;rw[this]at hput;cases hput;rfl
 subst e1;have hX:X.h=⟨.nil,0⟩:=hX;have hv':some [AV.agg [.int .i64 v,.fz .I i,.fz ae l,.fz .I o,.fz .I b,.fz .I c,.fz ai m,.fz ae a]]=some vs:=hv;cases hv';obtain⟨V1,r1,rfl,R1,hr2⟩:=R;have:r1=[]:=hr2;subst this;have D1:ic X.w X.out cJ (v,i,l,o,b,c,m,a,()) V1:=by obtain⟨cs,rfl,q⟩:=R1;obtain⟨x0,y0,rfl,k0,q⟩:=q;obtain⟨x1,y1,rfl,k1,q⟩:=q;obtain⟨x2,y2,rfl,k2,q⟩:=q;obtain⟨x3,y3,rfl,k3,q⟩:=q;obtain⟨x4,y4,rfl,k4,q⟩:=q;obtain⟨x5,y5,rfl,k5,q⟩:=q;obtain⟨x6,y6,rfl,k6,q⟩:=q;obtain⟨x7,y7,rfl,k7,q⟩:=q;have:y7=[]:=q;subst this;have k0:x0=.int .i64 v:=k0;subst k0;exact⟨⟨[_],_,rfl,rfl,[_],_,rfl,k1,[_],_,rfl,k2,[_],_,rfl,k3,[_],_,rfl,k4,[_],_,rfl,k5,[_],_,rfl,k6,[_],[],rfl,k7,rfl⟩,rfl⟩
 refine(ZA D1 hp).mono ?_;rintro e2 w' ⟨A,cc,rfl,ho,hb⟩;obtain⟨h3,h4⟩:=aab H hb;have e3:(e,st')=(.ret,⟨.node (some (.fz .I (bp (eH (v,i,l,o,b,c,m,a,()))))) .nil .nil,⟨.nil,0⟩⟩):=by refine BY (hs.symm.trans ?_);rfl
 cases e3;refine⟨⟨X.s,X.h,w',X.A⟩,[.slice A (bp (eH (v,i,l,o,b,c,m,a,()))).length cc],rfl,rfl,hX,h3,h4,fun us hus=>?_⟩;have hus:some [AV.fz .I (bp (eH (v,i,l,o,b,c,m,a,())))]=some us:=hus;cases hus;refine⟨_,[],rfl,kP ho fun x hx q=>?_,rfl⟩;have h5:=(py ho x hx).1;rcases q with q|q
 .have:=H.alt x q;omega
 .have:=H.tj q;omega
def ZC:ZB:=⟨fun d=>um d.1 d.2.1 d.2.2.1 d.2.2.2.1 d.2.2.2.2.1 d.2.2.2.2.2.1 d.2.2.2.2.2.2.1 d.2.2.2.2.2.2.2.1,ajy⟩
def Zr:ZD:=ZC.F
theorem ai8:kM Tryz.prog 111 ⟨1,DP,1,DF,fun d=>ui d.1 d.2.1 d.2.2.1 d.2.2.2.1 d.2.2.2.2.1 d.2.2.2.2.2.1 d.2.2.2.2.2.2.1 d.2.2.2.2.2.2.2.1⟩:=by
 refine⟨⟨Tryz.f111,bt Tryz.f111,Tryz.func111,aud,aud⟩,?_⟩;rintro⟨v,i,l,o,b,c,m,a,u⟩ out ho st e st' hput hs X vs args hX H hr hv R;have ho:ui v i l o b c m a=some out:=ho;unfold ui at ho;split at ho
 case h_2=>cases ho
 rename_i hp;have ho:=(BY ho).symm;subst ho;have e1:st=⟨.node (some (.agg [.int .i64 v,.fz .I i,.fz ae l,.fz .I o,.fz .I b,.fz .I c,.fz ai m,.hd 0 ae])) .nil .nil,⟨.node (some (.arr ae a 113)) .nil .nil,1⟩⟩:=by have:ak.put 1 DP (v,i,l,o,b,c,m,a,u)=some ⟨.node (some (.agg [.int .i64 v,.fz .I i,.fz ae l,.fz .I o,.fz .I b,.fz .I c,.fz ai m,.hd 0 ae])) .nil .nil,⟨.node (some (.arr ae a 113)) .nil .nil,1⟩⟩:=rfl;rw[this]at hput;cases hput;rfl
 subst e1;have hX:X.h=⟨.node (some (.arr ae a 113)) .nil .nil,1⟩:=hX;have hg:X.h.tr.get 0=some (.arr ae a 113):=by rw[hX];rfl
 have hv':some [AV.agg [.int .i64 v,.fz .I i,.fz ae l,.fz .I o,.fz .I b,.fz .I c,.fz ai m,.hd 0 ae]]=some vs:=hv;cases hv';obtain⟨V1,r1,rfl,R1,hr2⟩:=R;have:r1=[]:=hr2;subst this;have D1:ic X.w (fun _=>False) cJ (v,i,l,o,b,c,m,a,()) V1:=by obtain⟨cs,rfl,q⟩:=R1;obtain⟨x0,y0,rfl,k0,q⟩:=q;obtain⟨x1,y1,rfl,k1,q⟩:=q;obtain⟨x2,y2,rfl,k2,q⟩:=q;obtain⟨x3,y3,rfl,k3,q⟩:=q;obtain⟨x4,y4,rfl,k4,q⟩:=q;obtain⟨x5,y5,rfl,k5,q⟩:=q;obtain⟨x6,y6,rfl,k6,q⟩:=q;obtain⟨x7,y7,rfl,k7,q⟩:=q;have:y7=[]:=q;subst this;have k0:x0=.int .i64 v:=k0;subst k0;obtain⟨lc,k8,k9,k10⟩:=k7;have k11:=k10 _ (jX hg);have k12:=abD H hg k8;rw[<-k11]at k12;have K:=NT X.w X.out;have k1:Cs X.w X.out (.sl .I) i [x1]:=k1;have k2:Cs X.w X.out (.sl ae) l [x2]:=k2;have k3:Cs X.w X.out (.sl .I) o [x3]:=k3;have k4:Cs X.w X.out (.sl .I) b [x4]:=k4;have k5:Cs X.w X.out (.sl .I) c [x5]:=k5;have k6:Cs X.w X.out (.sl ai) m [x6]:=k6;exact⟨⟨[_],_,rfl,rfl,[_],_,rfl,k1.bU K,[_],_,rfl,k2.bU K,[_],_,rfl,k3.bU K,[_],_,rfl,k4.bU K,[_],_,rfl,k5.bU K,[_],_,rfl,k6.bU K,[_],[],rfl,k12,rfl⟩,rfl⟩
 refine(ZA D1 hp).mono ?_;rintro e2 w' ⟨A,cc,rfl,ho,hb⟩;obtain⟨h3,h4⟩:=aab H hb;have e3:(e,st')=(.ret,⟨.node (some (.fz .I (bp (eH (v,i,l,o,b,c,m,a,()))))) .nil .nil,⟨.node (some (.arr ae a 113)) .nil .nil,1⟩⟩):=by refine BY (hs.symm.trans ?_);rfl
 cases e3;refine⟨⟨X.s,X.h,w',X.A⟩,[.slice A (bp (eH (v,i,l,o,b,c,m,a,()))).length cc],rfl,rfl,hX,h3,h4,fun us hus=>?_⟩;have hus:some [AV.fz .I (bp (eH (v,i,l,o,b,c,m,a,())))]=some us:=hus;cases hus;refine⟨_,[],rfl,kP ho fun x hx q=>?_,rfl⟩;have h5:=(py ho x hx).1;rcases q with q|q
 .have:=H.alt x q;omega
 .have:=H.tj q;omega
def Y8:Y7:=⟨fun d=>ui d.1 d.2.1 d.2.2.1 d.2.2.2.1 d.2.2.2.2.1 d.2.2.2.2.2.1 d.2.2.2.2.2.2.1 d.2.2.2.2.2.2.2.1,ai8⟩
def YP:Y9:=Y8.F
theorem aje:kM Tryz.prog 112 ⟨2,DX,2,DH,fun d=>uk d.1 d.2.1 d.2.2.1 d.2.2.2.1 d.2.2.2.2.1 d.2.2.2.2.2.1 d.2.2.2.2.2.2.1 d.2.2.2.2.2.2.2.1 d.2.2.2.2.2.2.2.2.1⟩:=by
 refine⟨⟨Tryz.f112,bt Tryz.f112,Tryz.func112,aud,aud⟩,?_⟩;rintro⟨v,i,l,o,b,c,m,a,tl,u⟩ out ho st e st' hput hs X vs args hX H hr hv R;have ho:uk v i l o b c m a tl=some out:=ho;unfold uk at ho;split at ho
 case h_2=>cases ho
 rename_i hp;have ho:=(BY ho).symm;have e1:st=⟨.node (some (.agg [.int .i64 v,.fz .I i,.fz ae l,.fz .I o,.fz .I b,.fz .I c,.fz ai m,.fz ae a])) (.node (some (.fz .I tl)) .nil .nil) .nil,⟨.nil,0⟩⟩:=by have:ak.put 2 DX (v,i,l,o,b,c,m,a,tl,u)=some ⟨.node (some (.agg [.int .i64 v,.fz .I i,.fz ae l,.fz .I o,.fz .I b,.fz .I c,.fz ai m,.fz ae a])) (.node (some (.fz .I tl)) .nil .nil) .nil,⟨.nil,0⟩⟩:=rfl;rw[this]at hput;cases hput;rfl
 subst e1;have hX:X.h=⟨.nil,0⟩:=hX;have hv':some [AV.agg [.int .i64 v,.fz .I i,.fz ae l,.fz .I o,.fz .I b,.fz .I c,.fz ai m,.fz ae a],.fz .I tl]=some vs:=hv;cases hv';obtain⟨V1,r1,rfl,R1,V2,r2,rfl,R2,hr2⟩:=R;have:r2=[]:=hr2;subst this;have noimg:∀b,¬X.dY b:=fun b ⟨i,o,l,_,q,_⟩=>by have:=H.eh i l q;rw[hX]at this;exact asn i this
 have hA:∀b,X.out b->b<X.w.heap.size:=fun b q=>q.elim (H.alt b) fun q=>absurd q (noimg b);have D1:ic X.w X.out cJ (v,i,l,o,b,c,m,a,()) V1:=by obtain⟨cs,rfl,q⟩:=R1;obtain⟨x0,y0,rfl,k0,q⟩:=q;obtain⟨x1,y1,rfl,k1,q⟩:=q;obtain⟨x2,y2,rfl,k2,q⟩:=q;obtain⟨x3,y3,rfl,k3,q⟩:=q;obtain⟨x4,y4,rfl,k4,q⟩:=q;obtain⟨x5,y5,rfl,k5,q⟩:=q;obtain⟨x6,y6,rfl,k6,q⟩:=q;obtain⟨x7,y7,rfl,k7,q⟩:=q;have:y7=[]:=q;subst this;have k0:x0=.int .i64 v:=k0;subst k0;exact⟨⟨[_],_,rfl,rfl,[_],_,rfl,k1,[_],_,rfl,k2,[_],_,rfl,k3,[_],_,rfl,k4,[_],_,rfl,k5,[_],_,rfl,k6,[_],[],rfl,k7,rfl⟩,rfl⟩
 refine(ZH hA D1 R2 hp).mono ?_;rintro e2 w' ⟨M,rfl,hMd,hb,hMo⟩;have hMT:dn (tD tl (eH (v,i,l,o,b,c,m,a,())))=dn M.d:=by rw[hMd]
 rw[hMT]at ho;subst ho;have e3:(e,st')=(.ret,⟨.node (some (.agg [.int .i64 M.vars,.fz .I M.ax,.fz ae (M.ah.map aX),.fz .I M.bk,.fz .I M.aU,.fz .I M.constraints,.fz ai ((M.af.map aQ.d).map aM),.hd 0 ae])) (.node (some (.int .i64 0)) .nil .nil) .nil,⟨.node (some (.arr ae (M.ag.map aL) 113)) .nil .nil,1⟩⟩):=by refine BY (hs.symm.trans ?_);rfl
 cases e3;have hloc:∀b,(jG M.An M.cn).own b->X.w.heap.size<=b/\b<w'.heap.size:=fun b q=>by
  have hb2:=uy q;have aS:b∈M.bs:=by unfold aY.bs aY.fl;simp only[qr];exact .inl (.inr (.inr (.inr (.inr (.inr (.inl hb2))))))
  exact⟨aY.iH hMo b aS,hMo.lt b aS⟩
 have hlr:=aaA (X:=tE X (.node (some (.arr ae (M.ag.map aL) 113)) .nil .nil) w' (jG M.An M.cn)) (B:=X.w.heap.size) hMo.and;obtain⟨h3,h4⟩:=amw H hX hb (tr:=.node (some (.arr ae (M.ag.map aL) 113)) .nil .nil) (σ:=ae) (L:=M.ag.map aL) (ty:=113) (loc:=jG M.An M.cn) rfl
  (fun j hj=>by cases j with|zero=>exact absurd rfl hj|succ j=>rw[Go.Proofs.YtmkbdfidnfmgmaaGreat.Ev.Tr.zd];split<;>rfl) hloc hlr.1
 refine⟨_,[M.v,.int .i64 0],rfl,rfl,rfl,h3,h4,fun us hus=>?_⟩;have hus:some [AV.agg [.int .i64 M.vars,.fz .I M.ax,.fz ae (M.ah.map aX),.fz .I M.bk,.fz .I M.aU,.fz .I M.constraints,.fz ai ((M.af.map aQ.d).map aM),.hd 0 ae],.int .i64 0]=some us:=hus;cases hus;have hnd:=hMo.nd;unfold aY.bs aY.fl at hnd;have d9:∀b∈M.bs,b∉aO M.An->¬(tE X (.node (some (.arr ae (M.ag.map aL) 113)) .nil .nil) w' (jG M.An M.cn)).out b:=by
  intro b hb2 hn q;rcases q with q|q
  .have:=H.alt b q;have:=aY.iH hMo b hb2;omega
  .exact hn (uy (aaL q))
 simp only[rx,qr]at hnd;obtain⟨⟨_,⟨_,⟨_,⟨_,⟨_,⟨_,_,x6⟩,x5⟩,x4⟩,x3⟩,x2⟩,x1⟩,_,x0⟩:=hnd;have an:∀b,b∈M.fl->b∈M.bs:=fun b q=>AI _ q;unfold aY.fl at an;simp only[qr]at an;have i1:=kP hMo.ins fun b q=>d9 b (an b (.inl q)) fun p=>x1 b q b (.inr (.inr (.inr (.inr (.inl p))))) rfl;have i2:=kP hMo.out fun b q=>d9 b (an b (.inr (.inl q))) fun p=>x2 b q b (.inr (.inr (.inr (.inl p)))) rfl;have i3:=kP hMo.fe fun b q=>d9 b (an b (.inr (.inr (.inl q)))) fun p=>x3 b q b (.inr (.inr (.inl p))) rfl;have i4:=kP hMo.ga fun b q=>d9 b (an b (.inr (.inr (.inr (.inl q))))) fun p=>x4 b q b (.inr (.inl p)) rfl;have i5:=oq (σ:=ae) (T:=aX) hMo.aT (fun x _=>Ov x) fun b q=>d9 b (an b (.inr (.inr (.inr (.inr (.inl q)))))) fun p=>x5 b q b (.inl p) rfl;have i6:=oq (σ:=ai) (T:=fun m:aQ=>aM m.d) hMo.mem (fun m hm=>Ox (hMo.kA m hm) fun b q=>d9 b (Fd _ (rc.2 ⟨m,hm,q⟩)) fun p=>x0 b (.inr (.inr (.inr (.inr (.inr (.inl p)))))) b (rc.2 ⟨m,hm,q⟩) rfl) fun b q=>d9 b (an b (.inr (.inr (.inr (.inr (.inr (.inr q))))))) fun p=>x6 b p b q rfl;have i6':∀P,Cs w' P (.sl ai) (M.af.map fun m:aQ=>aM m.d) [.slice M.Am M.af.length M.cm]->Cs w' P (.sl ai) ((M.af.map aQ.d).map aM) [.slice M.Am M.af.length M.cm]:=fun P h=>by rw[IR];exact h
 refine⟨M.v,_,rfl,⟨_,rfl,_,_,rfl,rfl,_,_,rfl,i1,_,_,rfl,i5,_,_,rfl,i2,_,_,rfl,i3,_,_,rfl,i4,_,_,rfl,i6' _ i6,_,_,rfl,⟨jG M.An M.cn,rfl,rfl,fun n hn=>?_⟩,rfl⟩,_,_,rfl,rfl,rfl⟩;have hn:some (M.ag.map aL).length=some n:=hn;cases hn;rw[aG];exact hlr.2
def Zg:Zf:=⟨fun d=>uk d.1 d.2.1 d.2.2.1 d.2.2.2.1 d.2.2.2.2.1 d.2.2.2.2.2.1 d.2.2.2.2.2.2.1 d.2.2.2.2.2.2.2.1 d.2.2.2.2.2.2.2.2.1,aje⟩
def YX:Zh:=Zg.F
theorem aaK{X:Cx}{tr:Tr cp}{loc:Loc}(h1:∀i,i≠X.h.next->tr.get i=X.h.tr.get i){b:Nat}(h:(mv X tr w' loc).dY b):X.dY b\/loc.own b:=by
 obtain⟨i,o,l,a,b2,c⟩:=h;have b2:dw X.s X.h.next loc i=some l:=b2;by_cases q:i=X.h.next
 .subst q;rw[iu]at b2;cases b2;exact .inr c
 .rw[fL _ _ _ q]at b2;have a:tr.get i=some o:=a;rw[h1 i q]at a;exact .inl ⟨i,o,l,a,b2,c⟩
abbrev Dz:ak:=⟨[(0,.agg [.I,.fz .I,.fz ae,.fz .I,.fz .I,.fz .I,.fz ai,.fz ae]),(1,.hd 0 .I)],[(0,.arr .I 3)],1⟩
abbrev Ds:List (Ev.Ex×ak):=[(.ret,⟨[(0,.agg [.I,.fz .I,.fz ae,.fz .I,.fz .I,.fz .I,.fz ai,.hd 1 ae]),(1,.I)],[(0,.arr .I 3),(1,.arr ae 113)],2⟩)]
abbrev YF:=be Dz Ds
abbrev YD:=Kb 112 2 Dz 2 Ds
def ug(v:Int)(i:jp)(l:List ae.T)(o b c:jp)(m:List ai.T)(a:List ae.T)(tl:jp):Option (Out Ds):=match preB (eH (v,i,l,o,b,c,m,a,())) tl with|true=>let r:=dn (tD tl (eH (v,i,l,o,b,c,m,a,())));some (r.1,r.2.1,r.2.2.1,r.2.2.2.1,r.2.2.2.2.1,r.2.2.2.2.2.1,r.2.2.2.2.2.2.1,(0:Int),tl,r.2.2.2.2.2.2.2.1,())|false=>none
theorem aiZ:kM Tryz.prog 112 ⟨2,Dz,2,Ds,fun d=>ug d.1 d.2.1 d.2.2.1 d.2.2.2.1 d.2.2.2.2.1 d.2.2.2.2.2.1 d.2.2.2.2.2.2.1 d.2.2.2.2.2.2.2.1 d.2.2.2.2.2.2.2.2.1⟩:=by
 refine⟨⟨Tryz.f112,bt Tryz.f112,Tryz.func112,aud,aud⟩,?_⟩;rintro⟨v,i,l,o,b,c,m,a,tl,u⟩ out ho st e st' hput hs X vs args hX H hr hv R;have ho:ug v i l o b c m a tl=some out:=ho;unfold ug at ho;split at ho
 case h_2=>cases ho
 rename_i hp;have ho:=(BY ho).symm;have e1:st=⟨.node (some (.agg [.int .i64 v,.fz .I i,.fz ae l,.fz .I o,.fz .I b,.fz .I c,.fz ai m,.fz ae a])) (.node (some (.hd 0 .I)) .nil .nil) .nil,⟨.node (some (.arr .I tl 3)) .nil .nil,1⟩⟩:=by have:ak.put 2 Dz (v,i,l,o,b,c,m,a,tl,u)=some ⟨.node (some (.agg [.int .i64 v,.fz .I i,.fz ae l,.fz .I o,.fz .I b,.fz .I c,.fz ai m,.fz ae a])) (.node (some (.hd 0 .I)) .nil .nil) .nil,⟨.node (some (.arr .I tl 3)) .nil .nil,1⟩⟩:=rfl;rw[this]at hput;cases hput;rfl
 subst e1;have hX:X.h=⟨.node (some (.arr .I tl 3)) .nil .nil,1⟩:=hX;have hX1:X.h.next=1:=by rw[hX]
 have hg:X.h.tr.get 0=some (.arr .I tl 3):=by rw[hX];rfl
 have hv':some [AV.agg [.int .i64 v,.fz .I i,.fz ae l,.fz .I o,.fz .I b,.fz .I c,.fz ai m,.fz ae a],.hd 0 .I]=some vs:=hv;cases hv';obtain⟨V1,r1,rfl,R1,V2,r2,rfl,R2,hr2⟩:=R;have:r2=[]:=hr2;subst this;have D1:ic X.w (fun _=>False) cJ (v,i,l,o,b,c,m,a,()) V1:=by obtain⟨cs,rfl,q⟩:=R1;obtain⟨x0,y0,rfl,k0,q⟩:=q;obtain⟨x1,y1,rfl,k1,q⟩:=q;obtain⟨x2,y2,rfl,k2,q⟩:=q;obtain⟨x3,y3,rfl,k3,q⟩:=q;obtain⟨x4,y4,rfl,k4,q⟩:=q;obtain⟨x5,y5,rfl,k5,q⟩:=q;obtain⟨x6,y6,rfl,k6,q⟩:=q;obtain⟨x7,y7,rfl,k7,q⟩:=q;have:y7=[]:=q;subst this;have k0:x0=.int .i64 v:=k0;subst k0;have K:=NT X.w X.out;have k1:Cs X.w X.out (.sl .I) i [x1]:=k1;have k2:Cs X.w X.out (.sl ae) l [x2]:=k2;have k3:Cs X.w X.out (.sl .I) o [x3]:=k3;have k4:Cs X.w X.out (.sl .I) b [x4]:=k4;have k5:Cs X.w X.out (.sl .I) c [x5]:=k5;have k6:Cs X.w X.out (.sl ai) m [x6]:=k6;have k7:Cs X.w X.out (.sl ae) a [x7]:=k7;exact⟨⟨[_],_,rfl,rfl,[_],_,rfl,k1.bU K,[_],_,rfl,k2.bU K,[_],_,rfl,k3.bU K,[_],_,rfl,k4.bU K,[_],_,rfl,k5.bU K,[_],_,rfl,k6.bU K,[_],[],rfl,k7.bU K,rfl⟩,rfl⟩
 have D2:Cs X.w (fun _=>False) (.sl .I) tl [V2]:=by
  obtain⟨lc,k8,k9,k10⟩:=R2;have k11:=k10 _ (jX hg);have k12:=abD H hg k8
  rwa [<-k11]at k12
 refine(ZH (A:=fun _=>False) (fun _ q=>q.elim) D1 D2 hp).mono ?_;rintro e2 w' ⟨M,rfl,hMd,hb,hMo⟩;have hMT:dn (tD tl (eH (v,i,l,o,b,c,m,a,())))=dn M.d:=by rw[hMd]
 rw[hMT]at ho;subst ho;have e3:(e,st')=(.ret,⟨.node (some (.agg [.int .i64 M.vars,.fz .I M.ax,.fz ae (M.ah.map aX),.fz .I M.bk,.fz .I M.aU,.fz .I M.constraints,.fz ai ((M.af.map aQ.d).map aM),.hd 1 ae])) (.node (some (.int .i64 0)) .nil .nil) .nil,⟨.node (some (.arr .I tl 3)) (.node (some (.arr ae (M.ag.map aL) 113)) .nil .nil) .nil,2⟩⟩):=by refine BY (hs.symm.trans ?_);rfl
 cases e3;obtain⟨tr,htr⟩:∃tr:Tr cp,tr=.node (some (.arr .I tl 3)) (.node (some (.arr ae (M.ag.map aL) 113)) .nil .nil) .nil:=⟨_,rfl⟩;have hset:Tr.set 5 X.h.tr 1 (some (.arr ae (M.ag.map aL) 113))=some tr:=by rw[hX,htr];rfl
 have hgs:=Tr.d6 5 X.h.tr 1 (some (.arr ae (M.ag.map aL) 113)) tr hset;have t0:tr.get X.h.next=some (.arr ae (M.ag.map aL) 113):=by rw[hX1,hgs,IO rfl]
 have t1:∀i,i≠X.h.next->tr.get i=X.h.tr.get i:=fun i q=>by rw[hgs,Fr (by rw[hX1]at q;exact q)]
 have hloc:∀b,(jG M.An M.cn).own b->X.w.heap.size<=b/\b<w'.heap.size:=fun b q=>by
  have hb2:=uy q;have aS:b∈M.bs:=by unfold aY.bs aY.fl;simp only[qr];exact .inl (.inr (.inr (.inr (.inr (.inr (.inl hb2))))))
  exact⟨aY.iH hMo b aS,hMo.lt b aS⟩
 have hlr:=aaA (X:=mv X tr w' (jG M.An M.cn)) (B:=X.w.heap.size) hMo.and;obtain⟨h3,h4⟩:=aaC H hb t0 t1 hloc hlr.1;refine⟨mv X tr w' (jG M.An M.cn),[M.v,.int .i64 0],rfl,rfl,?_,h3,h4,fun us hus=>?_⟩
 .show(⟨tr,X.h.next+1⟩:Hp)=_;rw[hX1,htr]
 have hus:some [AV.agg [.int .i64 M.vars,.fz .I M.ax,.fz ae (M.ah.map aX),.fz .I M.bk,.fz .I M.aU,.fz .I M.constraints,.fz ai ((M.af.map aQ.d).map aM),.hd 1 ae],.int .i64 0]=some us:=hus;cases hus;have hnd:=hMo.nd;unfold aY.bs aY.fl at hnd;have d9:∀b∈M.bs,b∉aO M.An->¬(mv X tr w' (jG M.An M.cn)).out b:=by
  intro b hb2 hn q;have:=aY.iH hMo b hb2;rcases q with q|q
  .have:=H.alt b q;omega
  .rcases aaK t1 q with q|q
   .have:=H.tj q;omega
   .exact hn (uy q)
 simp only[rx,qr]at hnd;obtain⟨⟨_,⟨_,⟨_,⟨_,⟨_,⟨_,_,x6⟩,x5⟩,x4⟩,x3⟩,x2⟩,x1⟩,_,x0⟩:=hnd;have an:∀b,b∈M.fl->b∈M.bs:=fun b q=>AI _ q;unfold aY.fl at an;simp only[qr]at an;have i1:=kP hMo.ins fun b q=>d9 b (an b (.inl q)) fun p=>x1 b q b (.inr (.inr (.inr (.inr (.inl p))))) rfl;have i2:=kP hMo.out fun b q=>d9 b (an b (.inr (.inl q))) fun p=>x2 b q b (.inr (.inr (.inr (.inl p)))) rfl;have i3:=kP hMo.fe fun b q=>d9 b (an b (.inr (.inr (.inl q)))) fun p=>x3 b q b (.inr (.inr (.inl p))) rfl;have i4:=kP hMo.ga fun b q=>d9 b (an b (.inr (.inr (.inr (.inl q))))) fun p=>x4 b q b (.inr (.inl p)) rfl;have i5:=oq (σ:=ae) (T:=aX) hMo.aT (fun x _=>Ov x) fun b q=>d9 b (an b (.inr (.inr (.inr (.inr (.inl q)))))) fun p=>x5 b q b (.inl p) rfl;have i6:=oq (σ:=ai) (T:=fun m:aQ=>aM m.d) hMo.mem (fun m hm=>Ox (hMo.kA m hm) fun b q=>d9 b (Fd _ (rc.2 ⟨m,hm,q⟩)) fun p=>x0 b (.inr (.inr (.inr (.inr (.inr (.inl p)))))) b (rc.2 ⟨m,hm,q⟩) rfl) fun b q=>d9 b (an b (.inr (.inr (.inr (.inr (.inr (.inr q))))))) fun p=>x6 b p b q rfl;have i6':∀P,Cs w' P (.sl ai) (M.af.map fun m:aQ=>aM m.d) [.slice M.Am M.af.length M.cm]->Cs w' P (.sl ai) ((M.af.map aQ.d).map aM) [.slice M.Am M.af.length M.cm]:=fun P h=>by rw[IR];exact h
 refine⟨M.v,_,rfl,⟨_,rfl,_,_,rfl,rfl,_,_,rfl,i1,_,_,rfl,i5,_,_,rfl,i2,_,_,rfl,i3,_,_,rfl,i4,_,_,rfl,i6' _ i6,_,_,rfl,⟨jG M.An M.cn,?_,rfl,fun n hn=>?_⟩,rfl⟩,_,_,rfl,rfl,rfl⟩
 .show dw X.s X.h.next _ 1=_;rw[hX1];exact iu _ _ _
 .have hr2:rowOf tr 1=some (M.ag.map aL).length:=by rw[hX1]at t0;exact jX t0
  have hn:rowOf tr 1=some n:=hn;rw[hr2]at hn;cases hn;rw[aG];exact hlr.2
def YE:YD:=⟨fun d=>ug d.1 d.2.1 d.2.2.1 d.2.2.2.1 d.2.2.2.2.1 d.2.2.2.2.2.1 d.2.2.2.2.2.2.1 d.2.2.2.2.2.2.2.1 d.2.2.2.2.2.2.2.2.1,aiZ⟩
def Yr:YF:=YE.F
abbrev Ek:ak:=agE
abbrev Eb:List (Ev.Ex×ak):=[(.ret,⟨[(0,.agg [.I,.hd 0 .I,.fz ae,.fz .I,.fz .I,.fz .I,.fz ai,.fz ae])],[(0,.arr .I 3)],1⟩)]
abbrev EG:=be Ek Eb
abbrev EE:=Kb 41 1 Ek 1 Eb
def od(v:Int)(i:jp)(l:List ae.T)(o b c:jp)(m:List ai.T)(a:List ae.T):Option (Out Eb):=match rG (eH (v,i,l,o,b,c,m,a,()) )with|true=>let r:=dn (eH (v,i,l,o,b,c,m,a,()));some (r.1,r.2.2.1,r.2.2.2.1,r.2.2.2.2.1,r.2.2.2.2.2.1,r.2.2.2.2.2.2.1,r.2.2.2.2.2.2.2.1,r.2.1,())|false=>none
theorem ajx:kM Tryz.prog 41 ⟨1,Ek,1,Eb,fun d=>od d.1 d.2.1 d.2.2.1 d.2.2.2.1 d.2.2.2.2.1 d.2.2.2.2.2.1 d.2.2.2.2.2.2.1 d.2.2.2.2.2.2.2.1⟩:=by
 refine⟨⟨Tryz.f41,bt Tryz.f41,Tryz.func41,aud,aud⟩,?_⟩;rintro⟨v,i,l,o,b,c,m,a,u⟩ out ho st e st' hput hs X vs args hX H hr hv R;have ho:od v i l o b c m a=some out:=ho;unfold od at ho;split at ho
 case h_2=>cases ho
 rename_i hp;have ho:=(BY ho).symm;have e1:st=⟨.node (some (.agg [.int .i64 v,.fz .I i,.fz ae l,.fz .I o,.fz .I b,.fz .I c,.fz ai m,.fz ae a])) .nil .nil,⟨.nil,0⟩⟩:=by have:ak.put 1 Ek (v,i,l,o,b,c,m,a,u)=some ⟨.node (some (.agg [.int .i64 v,.fz .I i,.fz ae l,.fz .I o,.fz .I b,.fz .I c,.fz ai m,.fz ae a])) .nil .nil,⟨.nil,0⟩⟩:=rfl;rw[this]at hput;cases hput;rfl
 subst e1;have hX:X.h=⟨.nil,0⟩:=hX;have hX1:X.h.next=0:=by rw[hX]
 have hv':some [AV.agg [.int .i64 v,.fz .I i,.fz ae l,.fz .I o,.fz .I b,.fz .I c,.fz ai m,.fz ae a]]=some vs:=hv;cases hv';obtain⟨V1,r1,rfl,R1,hr2⟩:=R;have:r1=[]:=hr2;subst this;have D1:ic X.w X.out cJ (v,i,l,o,b,c,m,a,()) V1:=by obtain⟨cs,rfl,q⟩:=R1;obtain⟨x0,y0,rfl,k0,q⟩:=q;obtain⟨x1,y1,rfl,k1,q⟩:=q;obtain⟨x2,y2,rfl,k2,q⟩:=q;obtain⟨x3,y3,rfl,k3,q⟩:=q;obtain⟨x4,y4,rfl,k4,q⟩:=q;obtain⟨x5,y5,rfl,k5,q⟩:=q;obtain⟨x6,y6,rfl,k6,q⟩:=q;obtain⟨x7,y7,rfl,k7,q⟩:=q;have:y7=[]:=q;subst this;have k0:x0=.int .i64 v:=k0;subst k0;exact⟨⟨[_],_,rfl,rfl,[_],_,rfl,k1,[_],_,rfl,k2,[_],_,rfl,k3,[_],_,rfl,k4,[_],_,rfl,k5,[_],_,rfl,k6,[_],[],rfl,k7,rfl⟩,rfl⟩
 obtain⟨N,rfl,hNd,hNo⟩:=Fi D1;refine(Z8 X.w N X.w.heap.size hNo (ro _) (hNd▸E7 hp)).mono ?_;rintro e2 w' ⟨M,hMd,rfl,hb,hMo⟩;have hMT:dn (eH (v,i,l,o,b,c,m,a,()))=dn M.d:=by rw[hMd,hNd]
 rw[hMT]at ho;subst ho;have e3:(e,st')=(.ret,⟨.node (some (.agg [.int .i64 M.vars,.hd 0 .I,.fz ae (M.ah.map aX),.fz .I M.bk,.fz .I M.aU,.fz .I M.constraints,.fz ai ((M.af.map aQ.d).map aM),.fz ae (M.ag.map aL)])) .nil .nil,⟨.node (some (.arr .I M.ax 3)) .nil .nil,1⟩⟩):=by refine BY (hs.symm.trans ?_);rfl
 cases e3;obtain⟨tr,htr⟩:∃tr:Tr cp,tr=.node (some (.arr .I M.ax 3)) .nil .nil:=⟨_,rfl⟩;have hset:Tr.set 5 X.h.tr 0 (some (.arr .I M.ax 3))=some tr:=by rw[hX,htr];rfl
 have hgs:=Tr.d6 5 X.h.tr 0 (some (.arr .I M.ax 3)) tr hset;have t0:tr.get X.h.next=some (.arr .I M.ax 3):=by rw[hX1,hgs,IO rfl]
 have t1:∀i,i≠X.h.next->tr.get i=X.h.tr.get i:=fun i q=>by rw[hgs,Fr (by rw[hX1]at q;exact q)]
 have hloc:∀b,(jG M.Ai M.ci).own b->X.w.heap.size<=b/\b<w'.heap.size:=fun b q=>by
  have hb2:=uy q;have aS:b∈M.bs:=by unfold aY.bs aY.fl;simp only[qr];exact .inl (.inl hb2)
  exact⟨aY.iH hMo b aS,hMo.lt b aS⟩
 have hlr:=ak2 (X:=mv X tr w' (jG M.Ai M.ci)) (B:=X.w.heap.size) hMo.ins;obtain⟨h3,h4⟩:=aaC H hb t0 t1 hloc hlr.1;refine⟨mv X tr w' (jG M.Ai M.ci),[M.v],rfl,rfl,?_,h3,h4,fun us hus=>?_⟩
 .show(⟨tr,X.h.next+1⟩:Hp)=_;rw[hX1,htr]
 have hus:some [AV.agg [.int .i64 M.vars,.hd 0 .I,.fz ae (M.ah.map aX),.fz .I M.bk,.fz .I M.aU,.fz .I M.constraints,.fz ai ((M.af.map aQ.d).map aM),.fz ae (M.ag.map aL)]]=some us:=hus;cases hus;have hnd:=hMo.nd;unfold aY.bs aY.fl at hnd;have d9:∀b∈M.bs,b∉aO M.Ai->¬(mv X tr w' (jG M.Ai M.ci)).out b:=by
  intro b hb2 hn q;have:=aY.iH hMo b hb2;rcases q with q|q
  .have:=H.alt b q;omega
  .rcases aaK t1 q with q|q
   .have:=H.tj q;omega
   .exact hn (uy q)
 simp only[rx,qr]at hnd;obtain⟨⟨_,⟨_,⟨_,⟨_,⟨_,⟨_,_,x6⟩,x5⟩,x4⟩,x3⟩,x2⟩,x1⟩,_,x0⟩:=hnd;have an:∀b,b∈M.fl->b∈M.bs:=fun b q=>AI _ q;unfold aY.fl at an;simp only[qr]at an;have i2:=kP hMo.out fun b q=>d9 b (an b (.inr (.inl q))) fun p=>x1 b p b (.inl q) rfl;have i3:=kP hMo.fe fun b q=>d9 b (an b (.inr (.inr (.inl q)))) fun p=>x1 b p b (.inr (.inl q)) rfl;have i4:=kP hMo.ga fun b q=>d9 b (an b (.inr (.inr (.inr (.inl q))))) fun p=>x1 b p b (.inr (.inr (.inl q))) rfl;have i5:=oq (σ:=ae) (T:=aX) hMo.aT (fun x _=>Ov x) fun b q=>d9 b (an b (.inr (.inr (.inr (.inr (.inl q)))))) fun p=>x1 b p b (.inr (.inr (.inr (.inl q)))) rfl;have i7:=oq (σ:=ae) (T:=aL) hMo.and (fun x _=>abn x) fun b q=>d9 b (an b (.inr (.inr (.inr (.inr (.inr (.inl q))))))) fun p=>x1 b p b (.inr (.inr (.inr (.inr (.inl q))))) rfl;have i6:=oq (σ:=ai) (T:=fun m:aQ=>aM m.d) hMo.mem (fun m hm=>Ox (hMo.kA m hm) fun b q=>d9 b (Fd _ (rc.2 ⟨m,hm,q⟩)) fun p=>x0 b (.inl p) b (rc.2 ⟨m,hm,q⟩) rfl) fun b q=>d9 b (an b (.inr (.inr (.inr (.inr (.inr (.inr q))))))) fun p=>x1 b p b (.inr (.inr (.inr (.inr (.inr q))))) rfl;have i6':∀P,Cs w' P (.sl ai) (M.af.map fun m:aQ=>aM m.d) [.slice M.Am M.af.length M.cm]->Cs w' P (.sl ai) ((M.af.map aQ.d).map aM) [.slice M.Am M.af.length M.cm]:=fun P h=>by rw[IR];exact h
 refine⟨M.v,_,rfl,⟨_,rfl,_,_,rfl,rfl,_,_,rfl,⟨jG M.Ai M.ci,?_,rfl,fun n hn=>?_⟩,_,_,rfl,i5,_,_,rfl,i2,_,_,rfl,i3,_,_,rfl,i4,_,_,rfl,i6' _ i6,_,_,rfl,i7,rfl⟩,rfl⟩
 .show dw X.s X.h.next _ 0=_;rw[hX1];exact iu _ _ _
 .have hr2:rowOf tr 0=some M.ax.length:=by rw[hX1]at t0;exact jX t0
  have hn:rowOf tr 0=some n:=hn;rw[hr2]at hn;cases hn;exact hlr.2
def EF:EE:=⟨fun d=>od d.1 d.2.1 d.2.2.1 d.2.2.2.1 d.2.2.2.2.1 d.2.2.2.2.2.1 d.2.2.2.2.2.2.1 d.2.2.2.2.2.2.2.1,ajx⟩
def sy:EG:=EF.F
