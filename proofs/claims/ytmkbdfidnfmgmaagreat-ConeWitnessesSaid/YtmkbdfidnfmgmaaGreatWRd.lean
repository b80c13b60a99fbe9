import Derived.Test.YtmkbdfidnfmgmaaGreatWRc
import Derived.Test.YtmkbdfidnfmgmaaGreatWNe
set_option linter.all false
section
namespace Go.Proofs.YtmkbdfidnfmgmaaGreat.V
open Go Go.RowKit
set_option maxRecDepth 1000000
abbrev Ca:ai:=⟨[(0,.fz .I),(4,.hd 0 .I),(19,.fz .I),(20,.I),(21,.I)],[(0,.arr .I 3)],1⟩
abbrev BW:List (Ev.Ex×ai):=[(.ret,⟨[(2,.bt),(3,.bool)],[],0⟩),((.exit 0),⟨[(4,.hd 0 .I)],[(0,.arr .I 3)],1⟩)]
abbrev Vp:=be Ca BW
abbrev Vo:=Ld 0 49 (cj [0] (bu Tryz.f149)) Ca BW
def KM(t0 t19:jp)(t20 t21:Int)(b0:jp):am Ca BW:=
 br (iL t21 t20)
 (
  au (aw t21 t19.length)<|
  br (iQ t21 (0:Int))
  (
   atY (t0,t19,t20,(qr (t21+(1:Int))),b0,()))
  (
   br (iL (gt .I t19 t21) (1:Int))
   (
    atZ (.inl (false,())))
   (
    br (bP false true (iE (Int.ofNat t0.length) (gt .I t19 t21)))
    (
     atZ (.inl (false,())))
    (
     au (aw (gt .I t19 t21) b0.length)<|
     br (bP false true (Bool.not (iQ (gt .I b0 (gt .I t19 t21)) (0:Int))))
     (
      atZ (.inl (false,())))
     (
      au (aw (gt .I t19 t21) b0.length)<|
      atY (t0,t19,t20,(qr (t21+(1:Int))),(List.set b0 (Int.toNat (gt .I t19 t21)) t21),()))))))
 (
  atZ (.inr (b0,())))
def agu  :Vo:=cu (u5 KM) (pL k0 e0 1 l0 fun d=>atP)
def Cw:Vp:=bp (u5 KM) NN
abbrev Vq:List Sh:=[(.sl .I)]
abbrev KP:List Sh:=[(.sl .I),.bool]
abbrev agE:=TL Vq->Option (TL KP)
abbrev VM:=Kd 149 Vq KP
def KV(L5:Vp)(a0:jp):Option (TL KP):=
 br (iQ (Int.ofNat a0.length) (0:Int))
 (
  some ([],false,()))
 (
  au (aw (0:Int) a0.length)<|
  br (bP false true (Bool.not (iQ (gt .I a0 (0:Int)) (0:Int))))
  (
   some ([],false,()))
  (
   au (both (iE (0:Int) (Int.ofNat a0.length)) (both (iE (Int.ofNat a0.length) (Int.ofNat a0.length)) (iE ((Int.ofNat 8)*(Int.ofNat a0.length)) (281474976710656:Int))))<|
   az (L5 (a0,a0,(Int.ofNat a0.length),(0:Int),(List.replicate (Int.toNat (Int.ofNat a0.length)) (Sh.zero .I)),())) fun x0=>
   (match x0 with|.inl x1=>some ([],x1.1,())|.inr x1=>some (x1.1,true,())
   )))
def agD(M5:Vo):VM:=⟨u1 (KV M5.L),pD Tryz.func149 49 k0 e0 1 (sS (sC M5 l0)) fun d=>atP⟩
def VN:VM:=agD  agu
def KO:agE:=VN.F
open Go.Proofs.YtmkbdfidnfmgmaaGreat.Pl
open Go.Proofs.YtmkbdfidnfmgmaaGreat.Ev (Tr Tr.dp nth fc Ex)
set_option maxRecDepth 100000
def iG(n:Nat)(x:Int):Bool:=decide (0<=x)&&decide (x / 2<n)
def sX(n:Nat)(x:Int):Bool:=decide (0<=x)&&decide (x<n)
def HQ(n:Nat)(d:ak):Bool:=d.al.all (sX n)&&(d.ag.all (fun l=>sX n l.var&&iG n l.next)&&(d.aZ.all (iG n)&&(d.aN.all (iG n)&&(d.constraints.all (iG n) &&
 (d.ae.all (fun m=>m.reads.all fun r=>sX n r.var&&r.addr.all (iG n))&&(d.ae.all (fun m=>m.writes.all fun x=>iG n x.on&&(x.addr.all (iG n)&&x.data.all (iG n)))&&d.aj.all fun a=>sX n a.var&&(iG n a.a&&iG n a.b)))))))
def HH(tl:jp)(m:cf):Bool:=m.reads.all fun r=>(List.range m.word.toNat).all fun i=>decide (0<=r.var)&&(decide (r.var+i<tl.length)&&decide (tl.getD (r.var+i).toNat 0=tl.getD r.var.toNat 0+i))
def RB(tl:jp):Bool:=match KO (tl,())with|some (_,true,())=>true|_=>false
def preB(n:ak)(tl:jp):Bool:=sO n&&(decide (eZ n=0)&&(decide ((tl.length:Int)=n.vars+1)&&(decide (tl.length<=1048576)&&(tl.all (fun y=>decide (0<=y)&&decide (y<=1000000))&&(HQ tl.length n&&(n.ae.all (HH tl)&&RB tl))))))
variable{x:Int}{n:Nat}
theorem nL(h:iG n x=true):0<=x/\x / 2<n:=by simpa[iG]using h
theorem uc(h:sX n x=true):0<=x/\x<n:=by simpa[sX]using h
theorem akn{d:ak}(h:HQ n d=true):vW n d:=by
 unfold HQ at h;simp only[act,In]at h;obtain⟨h1,h2,h3,h4,h5,h6,h7,h8⟩:=h;exact⟨fun x hx=>uc (h1 x hx),fun l hl=>⟨(uc (h2 l hl).1).1,(uc (h2 l hl).1).2,nL (h2 l hl).2⟩,fun x hx=>nL (h3 x hx),fun x hx=>nL (h4 x hx),fun x hx=>nL (h5 x hx),
  fun m hm r hr=>⟨(uc (h6 m hm r hr).1).1,(uc (h6 m hm r hr).1).2,fun y hy=>nL ((h6 m hm r hr).2 y hy)⟩,fun m hm x hx=>⟨(nL (h7 m hm x hx).1).1,(nL (h7 m hm x hx).1).2,fun y hy=>nL ((h7 m hm x hx).2.1 y hy),fun y hy=>nL ((h7 m hm x hx).2.2 y hy)⟩,
  fun a ha=>⟨(uc (h8 a ha).1).1,(uc (h8 a ha).1).2,(nL (h8 a ha).2.1).1,(nL (h8 a ha).2.1).2,nL (h8 a ha).2.2⟩⟩
variable{tl:jp}
theorem akd{m:cf}(h:HH tl m=true):yK tl m:=by unfold HH at h;simp only[act,In,Id,IR]at h;exact fun r hr i hi=>h r hr i hi
def afi(f g:Int->Int)(r:jz):jz:=⟨f r.var,r.addr.map g⟩
def afj(g:Int->Int)(x:l6):l6:=⟨g x.on,x.addr.map g,x.data.map g⟩
def afg(f g:Int->Int)(m:cf):cf:=⟨m.addr,m.word,m.any,m.reads.map (afi f g),m.writes.map (afj g)⟩
def afh(f g:Int->Int)(n:ak):ak:=⟨n.vars,n.al.map f,n.ag.map (jV f g),n.aZ.map g,n.aN.map g,n.constraints.map g,n.ae.map (afg f g),n.aj.map (jU f g)⟩
theorem amf(f g:Int->Int)(M:aT):(M.fO f g).d=afh f g M.d:=by show(⟨M.vars,M.al.map f,M.ag.map (jV f g),M.aZ.map g,M.aN.map g,M.constraints.map g,(M.ae.map (aL.fO f g)).map aL.d,M.aj.map (jU f g)⟩:ak)=⟨M.vars,M.al.map f,M.ag.map (jV f g),M.aZ.map g,M.aN.map g,M.constraints.map g,(M.ae.map aL.d).map (afg f g),M.aj.map (jU f g)⟩;congr 1;rw[Fn,Fn];refine are fun m _=>?_;show(⟨m.addr,m.word,m.any,(m.reads.map (bF.fO f g)).map bF.d,(m.writes.map (bL.fO g)).map bL.d⟩:cf)=⟨m.addr,m.word,m.any,(m.reads.map bF.d).map (afi f g),(m.writes.map bL.d).map (afj g)⟩;rw[Fn,Fn,Fn,Fn];rfl
abbrev CC:ai:=⟨[(0,.agg [.I,.fz .I,.fz af,.fz .I,.fz .I,.fz .I,.fz ah,.fz af]),(1,.fz .I)],[],0⟩
abbrev Ck:List (Ev.Ex×ai):=[(.ret,⟨[(0,.agg [.I,.fz .I,.fz af,.fz .I,.fz .I,.fz .I,.fz ah,.hd 0 af]),(1,.I)],[(0,.arr af 113)],1⟩)]
abbrev Wg:=be CC Ck
abbrev We:=Kb 112 2 CC 2 Ck
def Ij(tl:jp)(x:Int):Int:=tl.getD x.toNat 0
def uQ(tl:jp)(n:ak):ak:=afh (Ij tl) (av tl) n
def vA(v:Int)(i:jp)(l:List af.T)(o b c:jp)(m:List ah.T)(a:List af.T)(tl:jp):Option (Out Ck):=match preB (d8 (v,i,l,o,b,c,m,a,())) tl with|true=>let r:=bW (uQ tl (d8 (v,i,l,o,b,c,m,a,())));some (r.1,r.2.1,r.2.2.1,r.2.2.2.1,r.2.2.2.2.1,r.2.2.2.2.2.1,r.2.2.2.2.2.2.1,(0:Int),r.2.2.2.2.2.2.2.1,())|false=>none
theorem amg(f g:Int->Int)(M:aT):(M.fO f g).v=M.v:=by show Value.agg #[_,.slice M.Ai (M.al.map f).length M.ci,.slice M.Al (M.ag.map (jV f g)).length M.cl,.slice M.Ao (M.aZ.map g).length M.co,.slice M.Ab (M.aN.map g).length M.cb,.slice M.Ac (M.constraints.map g).length M.cc,.slice M.Am (M.ae.map (aL.fO f g)).length M.cm,.slice M.An (M.aj.map (jU f g)).length M.cn]=_;simp only[aP];rfl
theorem Ee(f:Int->Int):∀(us:List fT) (w:World),(cg f w us).os=w.os/\(cg f w us).tape=w.tape/\(cg f w us).output=w.output
 |[],w=>⟨rfl,rfl,rfl⟩|u::us,w=>Ee f us (w.setCell u.ad (.int .i64 (f u.2.2)))
variable{w:World}{A:Nat->Prop}{w':World}
theorem Xb(h:Below w.heap.size w w'):jF w A w' A:=fun b o hA hb=>⟨(h.block b (ka hb)).trans hb,hA⟩
variable{d:cA.T}
theorem W7{V1 V2:Value}(hA:∀b,A b->b<w.heap.size)(h1:iz w A cA d V1)(h2:Cs w A (.sl .I) tl [V2])(hp:preB (d8 d) tl=true) :
  Calls Tryz.prog 112 #[V1,V2] w fun e w'=>∃M:aT,e=.returned (.tuple #[M.v,.int .i64 0])/\M.d=uQ tl (d8 d)/\Below w.heap.size w w'/\M.own w' w.heap.size:=by
 unfold preB at hp;simp only[act,IR,In]at hp;obtain⟨p1,p2,p3,p4,p5,p6,p7,p8⟩:=hp;have ft:=D9 p1;obtain⟨N,rfl,hNd,hNo⟩:=Ej h1;have hck:=th ft;rw[Jr,p2]at hck;have hs0:cZ (d8 d)=0:=by
  unfold Pl.eZ at p2;by_cases q:cZ (d8 d)=0
  .exact q
  .rw[IO q]at p2;exact absurd p2 q
 obtain⟨V,hsn⟩:=zd hs0;have hvv:=hsn.vars;have hpos:0<tl.length:=atO
 obtain⟨aa,len,cap,q1,rfl,q3,q4⟩:=h2;have h2:Cs w A (.sl .I) tl [.slice aa tl.length cap]:=⟨aa,_,cap,rfl,rfl,q3,q4⟩;simp only[asH,asY]at q1;subst q1;obtain⟨b',off',Y,rfl,_⟩:=q4 (fun e=>by rw[e]at hpos;exact Nat.lt_irrefl 0 hpos);obtain⟨a3,cap3,e3,hsl⟩:=tt h2;simp only[asH,asY,asP]at e3;obtain⟨rfl,_,rfl⟩:=e3;refine(aim (w:=w) (N:=N) (n:=tl.length) (b':=b') (off':=off') (c':=cap) (tl:=tl) hNo (hNd▸ft) hsl.1 (fun y hy=>p5 y hy) p4 hpos (by rw[show N.vars=(d8 d).vars from PP ak.vars hNd];exact p3.symm) (hNd▸akn p6) (fun m hm=>akd (p7 m (hNd▸hm))) ?_ ?_).mono ?_
 .intro w' hb;have:=sy.ok.2 (d,()) ((0:Int),()) hck w' A [N.v] (fun b hb2=>WP (hA b hb2) hb.size) ⟨N.v,[],rfl,h1.bn (Xb hb),rfl⟩;refine this.mono ?_;rintro e w2 ⟨vs,rfl,hb2,W1,r,rfl,hW,hr⟩;have hr:r=[]:=hr;subst hr;have hW1:W1.cells.toList=[.int .i64 0]:=hW.1;have hWv:W1=.int .i64 0:=by
   have hag:zF W1=false:=hW.2;have hc:W1.cells=#[W1]:=by cases W1<;>first|rfl|cases hag
   rw[hc]at hW1;exact(List.cons.inj hW1).1
  exact⟨by rw[hWv];rfl,hb2⟩
 .intro w' hb;have hinv:∃x,KO (tl,())=some (x,true,()):=by
   unfold RB at p8;split at p8
   .rename_i x hx;exact⟨x,hx⟩
   .cases p8
  obtain⟨x,hx⟩:=hinv;have:=VN.ok.2 (tl,()) (x,true,()) hx w' A [.slice (some ⟨b',off',none⟩) tl.length cap] (fun b hb2=>WP (hA b hb2) hb.size) ⟨_,[],rfl,(show iz w A (.sl .I) tl (.slice (some ⟨b',off',none⟩) tl.length cap)from⟨h2,rfl⟩).bn (Xb hb),rfl⟩;refine this.mono ?_;rintro e w2 ⟨vs,rfl,hb2,W1,r,rfl,hW,W2,r2,rfl,hW2,hr⟩;have hr:r2=[]:=hr;subst hr;have hW1:W2.cells.toList=[.bool true]:=hW2.1;have hWv:W2=.bool true:=by
   have hag:zF W2=false:=hW2.2;have hc:W2.cells=#[W2]:=by cases W2<;>first|rfl|cases hag
   rw[hc]at hW1;exact(List.cons.inj hW1).1
  exact⟨W1,by rw[hWv];rfl,hb2⟩
 .rintro e w' ⟨M,w0,hMd,rfl,hB0,hMo,hlow,hg⟩;have bz:=Nb (Ij tl) (av tl) hMo;have hR:=ahU bz (fun b q=>⟨hMo.lt b q,by have:=hlow b q;omega⟩) hg;have hs:=hg.size;rw[nJ]at hs;refine⟨M.fO (Ij tl) (av tl),by rw[amg],by rw[amf,hMd,hNd];rfl,⟨?_,?_,?_,IS hB0.size hs,fun k hk=>?_⟩,akl hMo hR fun b q=>WP (hMo.lt b q) hs⟩
  .exact hg.os.trans ((Ee _ _ _).1.trans hB0.os)
  .exact hg.tape.trans ((Ee _ _ _).2.1.trans hB0.tape)
  .exact hg.output.trans ((Ee _ _ _).2.2.trans hB0.output)
  .have hk0:=hB0.size;refine(hg.block k (by rw[nJ];omega) (fun e=>by have:=Do e;omega)).trans ((Mq id _ w0 k fun u hu e=>?_).trans (hB0.block k hk));obtain⟨p,hpm,rfl⟩:=ro.1 hu;have:=hlow _ (bz.at_ p hpm).2.2;have e:p.b=k:=e;omega
abbrev afs:ai:=⟨[(0,.agg [.I,.fz .I,.fz af,.fz .I,.fz .I,.fz .I,.fz ah,.fz af])],[],0⟩
abbrev C8:ai:=afs
abbrev CR:List (Ev.Ex×ai):=[(.ret,⟨[(0,.fz .I)],[],0⟩)]
abbrev WK:=be C8 CR
abbrev WI:=Kb 111 1 C8 1 CR
abbrev Ct:ai:=⟨[(0,.agg [.I,.fz .I,.fz af,.fz .I,.fz .I,.fz .I,.fz ah,.hd 0 af])],[(0,.arr af 113)],1⟩
abbrev Ci:List (Ev.Ex×ai):=[(.ret,⟨[(0,.fz .I)],[(0,.arr af 113)],1⟩)]
abbrev V8:=be Ct Ci
abbrev V3:=Kb 111 1 Ct 1 Ci
def vB(v:Int)(i:jp)(l:List af.T)(o b c:jp)(m:List ah.T)(a:List af.T):Option (Out CR):=match sO (d8 (v,i,l,o,b,c,m,a,()) )with|true=>some (aX (d8 (v,i,l,o,b,c,m,a,()) ),())|false=>none
def vz(v:Int)(i:jp)(l:List af.T)(o b c:jp)(m:List ah.T)(a:List af.T):Option (Out Ci):=match sO (d8 (v,i,l,o,b,c,m,a,()) )with|true=>some (aX (d8 (v,i,l,o,b,c,m,a,()) ),a,())|false=>none
theorem WH{V:Value}(h1:iz w A cA d V)(hp:sO (d8 d)=true) :
  Calls Tryz.prog 111 #[V] w fun e w'=>∃A c,e=.returned (.slice A (aX (d8 d)).length c)/\cC w' w.heap.size 3 1 cI A c (aX (d8 d))/\Below w.heap.size w w':=by
 obtain⟨N,rfl,hNd,hNo⟩:=Ej h1;have:=ahs N w hNo (hNd▸D9 hp);rw[hNd]at this;exact this
theorem ag0:jD Tryz.prog 111 ⟨1,C8,1,CR,fun d=>vB d.1 d.2.1 d.2.2.1 d.2.2.2.1 d.2.2.2.2.1 d.2.2.2.2.2.1 d.2.2.2.2.2.2.1 d.2.2.2.2.2.2.2.1⟩:=by
 refine⟨⟨Tryz.f111,bu Tryz.f111,Tryz.func111,atP,atP⟩,?_⟩;rintro⟨v,i,l,o,b,c,m,a,u⟩ out ho st e st' hput hs X vs args hX H hr hv R;have ho:vB v i l o b c m a=some out:=ho;unfold vB at ho;split at ho
 case h_2=>cases ho
 rename_i hp;have ho:=(Do ho).symm;subst ho;have e1:st=⟨.node (some (.agg [.int .i64 v,.fz .I i,.fz af l,.fz .I o,.fz .I b,.fz .I c,.fz ah m,.fz af a])) .nil .nil,⟨.nil,0⟩⟩:=by have:ai.put 1 C8 (v,i,l,o,b,c,m,a,u)=some ⟨.node (some (.agg [.int .i64 v,.fz .I i,.fz af l,.fz .I o,.fz .I b,.fz .I c,.fz ah m,.fz af a])) .nil .nil,⟨.nil,0⟩⟩:=rfl;rw[this]at hput;cases hput;rfl
 subst e1;have hX:X.h=⟨.nil,0⟩:=hX;have hv':some [AV.agg [.int .i64 v,.fz .I i,.fz af l,.fz .I o,.fz .I b,.fz .I c,.fz ah m,.fz af a]]=some vs:=hv;cases hv';obtain⟨V1,r1,rfl,R1,hr2⟩:=R;have:r1=[]:=hr2;subst this;have D1:iz X.w X.out cA (v,i,l,o,b,c,m,a,()) V1:=by obtain⟨cs,rfl,q⟩:=R1;obtain⟨x0,y0,rfl,k0,q⟩:=q;obtain⟨x1,y1,rfl,k1,q⟩:=q;obtain⟨x2,y2,rfl,k2,q⟩:=q;obtain⟨x3,y3,rfl,k3,q⟩:=q;obtain⟨x4,y4,rfl,k4,q⟩:=q;obtain⟨x5,y5,rfl,k5,q⟩:=q;obtain⟨x6,y6,rfl,k6,q⟩:=q;obtain⟨x7,y7,rfl,k7,q⟩:=q;have:y7=[]:=q;subst this;have k0:x0=.int .i64 v:=k0;subst k0;exact⟨⟨[_],_,rfl,rfl,[_],_,rfl,k1,[_],_,rfl,k2,[_],_,rfl,k3,[_],_,rfl,k4,[_],_,rfl,k5,[_],_,rfl,k6,[_],[],rfl,k7,rfl⟩,rfl⟩
 refine(WH D1 hp).mono ?_;rintro e2 w' ⟨A,cc,rfl,ho,hb⟩;obtain⟨h3,h4⟩:=XH H hb;have e3:(e,st')=(.ret,⟨.node (some (.fz .I (aX (d8 (v,i,l,o,b,c,m,a,()))))) .nil .nil,⟨.nil,0⟩⟩):=by refine Do (hs.symm.trans ?_);rfl
 cases e3;refine⟨⟨X.s,X.h,w',X.A⟩,[.slice A (aX (d8 (v,i,l,o,b,c,m,a,()))).length cc],rfl,rfl,hX,h3,h4,fun us hus=>?_⟩;have hus:some [AV.fz .I (aX (d8 (v,i,l,o,b,c,m,a,())))]=some us:=hus;cases hus;refine⟨_,[],rfl,lN ho fun x hx q=>?_,rfl⟩;have h5:=(qI ho x hx).1;rcases q with q|q
 .have:=H.alt x q;omega
 .have:=H.so q;omega
def WJ:WI:=⟨fun d=>vB d.1 d.2.1 d.2.2.1 d.2.2.2.1 d.2.2.2.2.1 d.2.2.2.2.2.1 d.2.2.2.2.2.2.1 d.2.2.2.2.2.2.2.1,ag0⟩
def Wq:WK:=WJ.F
theorem agA:jD Tryz.prog 111 ⟨1,Ct,1,Ci,fun d=>vz d.1 d.2.1 d.2.2.1 d.2.2.2.1 d.2.2.2.2.1 d.2.2.2.2.2.1 d.2.2.2.2.2.2.1 d.2.2.2.2.2.2.2.1⟩:=by
 refine⟨⟨Tryz.f111,bu Tryz.f111,Tryz.func111,atP,atP⟩,?_⟩;rintro⟨v,i,l,o,b,c,m,a,u⟩ out ho st e st' hput hs X vs args hX H hr hv R;have ho:vz v i l o b c m a=some out:=ho;unfold vz at ho;split at ho
 case h_2=>cases ho
 rename_i hp;have ho:=(Do ho).symm;subst ho;have e1:st=⟨.node (some (.agg [.int .i64 v,.fz .I i,.fz af l,.fz .I o,.fz .I b,.fz .I c,.fz ah m,.hd 0 af])) .nil .nil,⟨.node (some (.arr af a 113)) .nil .nil,1⟩⟩:=by have:ai.put 1 Ct (v,i,l,o,b,c,m,a,u)=some ⟨.node (some (.agg [.int .i64 v,.fz .I i,.fz af l,.fz .I o,.fz .I b,.fz .I c,.fz ah m,.hd 0 af])) .nil .nil,⟨.node (some (.arr af a 113)) .nil .nil,1⟩⟩:=rfl;rw[this]at hput;cases hput;rfl
 subst e1;have hX:X.h=⟨.node (some (.arr af a 113)) .nil .nil,1⟩:=hX;have hg:X.h.tr.get 0=some (.arr af a 113):=by rw[hX];rfl
 have hv':some [AV.agg [.int .i64 v,.fz .I i,.fz af l,.fz .I o,.fz .I b,.fz .I c,.fz ah m,.hd 0 af]]=some vs:=hv;cases hv';obtain⟨V1,r1,rfl,R1,hr2⟩:=R;have:r1=[]:=hr2;subst this;have D1:iz X.w (fun _=>False) cA (v,i,l,o,b,c,m,a,()) V1:=by obtain⟨cs,rfl,q⟩:=R1;obtain⟨x0,y0,rfl,k0,q⟩:=q;obtain⟨x1,y1,rfl,k1,q⟩:=q;obtain⟨x2,y2,rfl,k2,q⟩:=q;obtain⟨x3,y3,rfl,k3,q⟩:=q;obtain⟨x4,y4,rfl,k4,q⟩:=q;obtain⟨x5,y5,rfl,k5,q⟩:=q;obtain⟨x6,y6,rfl,k6,q⟩:=q;obtain⟨x7,y7,rfl,k7,q⟩:=q;have:y7=[]:=q;subst this;have k0:x0=.int .i64 v:=k0;subst k0;obtain⟨lc,k8,k9,k10⟩:=k7;have k11:=k10 _ (je hg);have k12:=Y6 H hg k8;rw[<-k11]at k12;have K:=Mi X.w X.out;have k1:Cs X.w X.out (.sl .I) i [x1]:=k1;have k2:Cs X.w X.out (.sl af) l [x2]:=k2;have k3:Cs X.w X.out (.sl .I) o [x3]:=k3;have k4:Cs X.w X.out (.sl .I) b [x4]:=k4;have k5:Cs X.w X.out (.sl .I) c [x5]:=k5;have k6:Cs X.w X.out (.sl ah) m [x6]:=k6;exact⟨⟨[_],_,rfl,rfl,[_],_,rfl,k1.bn K,[_],_,rfl,k2.bn K,[_],_,rfl,k3.bn K,[_],_,rfl,k4.bn K,[_],_,rfl,k5.bn K,[_],_,rfl,k6.bn K,[_],[],rfl,k12,rfl⟩,rfl⟩
 refine(WH D1 hp).mono ?_;rintro e2 w' ⟨A,cc,rfl,ho,hb⟩;obtain⟨h3,h4⟩:=XH H hb;have e3:(e,st')=(.ret,⟨.node (some (.fz .I (aX (d8 (v,i,l,o,b,c,m,a,()))))) .nil .nil,⟨.node (some (.arr af a 113)) .nil .nil,1⟩⟩):=by refine Do (hs.symm.trans ?_);rfl
 cases e3;refine⟨⟨X.s,X.h,w',X.A⟩,[.slice A (aX (d8 (v,i,l,o,b,c,m,a,()))).length cc],rfl,rfl,hX,h3,h4,fun us hus=>?_⟩;have hus:some [AV.fz .I (aX (d8 (v,i,l,o,b,c,m,a,())))]=some us:=hus;cases hus;refine⟨_,[],rfl,lN ho fun x hx q=>?_,rfl⟩;have h5:=(qI ho x hx).1;rcases q with q|q
 .have:=H.alt x q;omega
 .have:=H.so q;omega
def V6:V3:=⟨fun d=>vz d.1 d.2.1 d.2.2.1 d.2.2.2.1 d.2.2.2.2.1 d.2.2.2.2.2.1 d.2.2.2.2.2.2.1 d.2.2.2.2.2.2.2.1,agA⟩
def VJ:V8:=V6.F
theorem agG:jD Tryz.prog 112 ⟨2,CC,2,Ck,fun d=>vA d.1 d.2.1 d.2.2.1 d.2.2.2.1 d.2.2.2.2.1 d.2.2.2.2.2.1 d.2.2.2.2.2.2.1 d.2.2.2.2.2.2.2.1 d.2.2.2.2.2.2.2.2.1⟩:=by
 refine⟨⟨Tryz.f112,bu Tryz.f112,Tryz.func112,atP,atP⟩,?_⟩;rintro⟨v,i,l,o,b,c,m,a,tl,u⟩ out ho st e st' hput hs X vs args hX H hr hv R;have ho:vA v i l o b c m a tl=some out:=ho;unfold vA at ho;split at ho
 case h_2=>cases ho
 rename_i hp;have ho:=(Do ho).symm;have e1:st=⟨.node (some (.agg [.int .i64 v,.fz .I i,.fz af l,.fz .I o,.fz .I b,.fz .I c,.fz ah m,.fz af a])) (.node (some (.fz .I tl)) .nil .nil) .nil,⟨.nil,0⟩⟩:=by have:ai.put 2 CC (v,i,l,o,b,c,m,a,tl,u)=some ⟨.node (some (.agg [.int .i64 v,.fz .I i,.fz af l,.fz .I o,.fz .I b,.fz .I c,.fz ah m,.fz af a])) (.node (some (.fz .I tl)) .nil .nil) .nil,⟨.nil,0⟩⟩:=rfl;rw[this]at hput;cases hput;rfl
 subst e1;have hX:X.h=⟨.nil,0⟩:=hX;have hv':some [AV.agg [.int .i64 v,.fz .I i,.fz af l,.fz .I o,.fz .I b,.fz .I c,.fz ah m,.fz af a],.fz .I tl]=some vs:=hv;cases hv';obtain⟨V1,r1,rfl,R1,V2,r2,rfl,R2,hr2⟩:=R;have:r2=[]:=hr2;subst this;have noimg:∀b,¬X.da b:=fun b ⟨i,o,l,_,q,_⟩=>by have:=H.dM i l q;rw[hX]at this;exact arL i this
 have hA:∀b,X.out b->b<X.w.heap.size:=fun b q=>q.elim (H.alt b) fun q=>absurd q (noimg b);have D1:iz X.w X.out cA (v,i,l,o,b,c,m,a,()) V1:=by obtain⟨cs,rfl,q⟩:=R1;obtain⟨x0,y0,rfl,k0,q⟩:=q;obtain⟨x1,y1,rfl,k1,q⟩:=q;obtain⟨x2,y2,rfl,k2,q⟩:=q;obtain⟨x3,y3,rfl,k3,q⟩:=q;obtain⟨x4,y4,rfl,k4,q⟩:=q;obtain⟨x5,y5,rfl,k5,q⟩:=q;obtain⟨x6,y6,rfl,k6,q⟩:=q;obtain⟨x7,y7,rfl,k7,q⟩:=q;have:y7=[]:=q;subst this;have k0:x0=.int .i64 v:=k0;subst k0;exact⟨⟨[_],_,rfl,rfl,[_],_,rfl,k1,[_],_,rfl,k2,[_],_,rfl,k3,[_],_,rfl,k4,[_],_,rfl,k5,[_],_,rfl,k6,[_],[],rfl,k7,rfl⟩,rfl⟩
 refine(W7 hA D1 R2 hp).mono ?_;rintro e2 w' ⟨M,rfl,hMd,hb,hMo⟩;have hMT:bW (uQ tl (d8 (v,i,l,o,b,c,m,a,())))=bW M.d:=by rw[hMd]
 rw[hMT]at ho;subst ho;have e3:(e,st')=(.ret,⟨.node (some (.agg [.int .i64 M.vars,.fz .I M.al,.fz af (M.ag.map bq),.fz .I M.aZ,.fz .I M.aN,.fz .I M.constraints,.fz ah ((M.ae.map aL.d).map aI),.hd 0 af])) (.node (some (.int .i64 0)) .nil .nil) .nil,⟨.node (some (.arr af (M.aj.map bc) 113)) .nil .nil,1⟩⟩):=by refine Do (hs.symm.trans ?_);rfl
 cases e3;have hloc:∀b,(j3 M.An M.cn).own b->X.w.heap.size<=b/\b<w'.heap.size:=fun b q=>by
  have hb2:=vM q;have bz:b∈M.bs:=by unfold aT.bs aT.fH;simp only[rc];exact .inl (.inr (.inr (.inr (.inr (.inr (.inl hb2))))))
  exact⟨aT.iY hMo b bz,hMo.lt b bz⟩
 have hlr:=X8 (X:=uR X (.node (some (.arr af (M.aj.map bc) 113)) .nil .nil) w' (j3 M.An M.cn)) (B:=X.w.heap.size) hMo.and;obtain⟨h3,h4⟩:=akq H hX hb (tr:=.node (some (.arr af (M.aj.map bc) 113)) .nil .nil) (σ:=af) (L:=M.aj.map bc) (ty:=113) (loc:=j3 M.An M.cn) rfl
  (fun j hj=>by cases j with|zero=>exact absurd rfl hj|succ j=>rw[Go.Proofs.YtmkbdfidnfmgmaaGreat.Ev.Tr.vd];split<;>rfl) hloc hlr.1
 refine⟨_,[M.v,.int .i64 0],rfl,rfl,rfl,h3,h4,fun us hus=>?_⟩;have hus:some [AV.agg [.int .i64 M.vars,.fz .I M.al,.fz af (M.ag.map bq),.fz .I M.aZ,.fz .I M.aN,.fz .I M.constraints,.fz ah ((M.ae.map aL.d).map aI),.hd 0 af],.int .i64 0]=some us:=hus;cases hus;have hnd:=hMo.nd;unfold aT.bs aT.fH at hnd;have eK:∀b∈M.bs,b∉aH M.An->¬(uR X (.node (some (.arr af (M.aj.map bc) 113)) .nil .nil) w' (j3 M.An M.cn)).out b:=by
  intro b hb2 hn q;rcases q with q|q
  .have:=H.alt b q;have:=aT.iY hMo b hb2;omega
  .exact hn (vM (Yj q))
 simp only[rx,rc]at hnd;obtain⟨⟨_,⟨_,⟨_,⟨_,⟨_,⟨_,_,x6⟩,x5⟩,x4⟩,x3⟩,x2⟩,x1⟩,_,x0⟩:=hnd;have aw:∀b,b∈M.fH->b∈M.bs:=fun b q=>AC _ q;unfold aT.fH at aw;simp only[rc]at aw;have i1:=lN hMo.ins fun b q=>eK b (aw b (.inl q)) fun p=>x1 b q b (.inr (.inr (.inr (.inr (.inl p))))) rfl;have i2:=lN hMo.out fun b q=>eK b (aw b (.inr (.inl q))) fun p=>x2 b q b (.inr (.inr (.inr (.inl p)))) rfl;have i3:=lN hMo.bad fun b q=>eK b (aw b (.inr (.inr (.inl q)))) fun p=>x3 b q b (.inr (.inr (.inl p))) rfl;have i4:=lN hMo.gG fun b q=>eK b (aw b (.inr (.inr (.inr (.inl q))))) fun p=>x4 b q b (.inr (.inl p)) rfl;have i5:=pJ (σ:=af) (T:=bq) hMo.aJ (fun x _=>MW x) fun b q=>eK b (aw b (.inr (.inr (.inr (.inr (.inl q)))))) fun p=>x5 b q b (.inl p) rfl;have i6:=pJ (σ:=ah) (T:=fun m:aL=>aI m.d) hMo.mem (fun m hm=>Na (hMo.kZ m hm) fun b q=>eK b (EQ _ (rg.2 ⟨m,hm,q⟩)) fun p=>x0 b (.inr (.inr (.inr (.inr (.inr (.inl p)))))) b (rg.2 ⟨m,hm,q⟩) rfl) fun b q=>eK b (aw b (.inr (.inr (.inr (.inr (.inr (.inr q))))))) fun p=>x6 b p b q rfl;have i6':∀P,Cs w' P (.sl ah) (M.ae.map fun m:aL=>aI m.d) [.slice M.Am M.ae.length M.cm]->Cs w' P (.sl ah) ((M.ae.map aL.d).map aI) [.slice M.Am M.ae.length M.cm]:=fun P h=>by rw[Fn];exact h
 refine⟨M.v,_,rfl,⟨_,rfl,_,_,rfl,rfl,_,_,rfl,i1,_,_,rfl,i5,_,_,rfl,i2,_,_,rfl,i3,_,_,rfl,i4,_,_,rfl,i6' _ i6,_,_,rfl,⟨j3 M.An M.cn,rfl,rfl,fun n hn=>?_⟩,rfl⟩,_,_,rfl,rfl,rfl⟩;have hn:some (M.aj.map bc).length=some n:=hn;cases hn;rw[aP];exact hlr.2
def Wf:We:=⟨fun d=>vA d.1 d.2.1 d.2.2.1 d.2.2.2.1 d.2.2.2.2.1 d.2.2.2.2.2.1 d.2.2.2.2.2.2.1 d.2.2.2.2.2.2.2.1 d.2.2.2.2.2.2.2.2.1,agG⟩
def VR:Wg:=Wf.F
theorem Yi{X:Cx}{tr:Tr bC}{loc:Loc}(h1:∀i,i≠X.h.next->tr.get i=X.h.tr.get i){b:Nat}(h:(nz X tr w' loc).da b):X.da b\/loc.own b:=by
 obtain⟨i,o,l,a,b2,c⟩:=h;have b2:cw X.s X.h.next loc i=some l:=b2;by_cases q:i=X.h.next
 .subst q;rw[fU]at b2;cases b2;exact .inr c
 .rw[eJ _ _ _ q]at b2;have a:tr.get i=some o:=a;rw[h1 i q]at a;exact .inl ⟨i,o,l,a,b2,c⟩
abbrev Cc:ai:=⟨[(0,.agg [.I,.fz .I,.fz af,.fz .I,.fz .I,.fz .I,.fz ah,.fz af]),(1,.hd 0 .I)],[(0,.arr .I 3)],1⟩
abbrev BZ:List (Ev.Ex×ai):=[(.ret,⟨[(0,.agg [.I,.fz .I,.fz af,.fz .I,.fz .I,.fz .I,.fz ah,.hd 1 af]),(1,.I)],[(0,.arr .I 3),(1,.arr af 113)],2⟩)]
abbrev Vy:=be Cc BZ
abbrev Vw:=Kb 112 2 Cc 2 BZ
def vu(v:Int)(i:jp)(l:List af.T)(o b c:jp)(m:List ah.T)(a:List af.T)(tl:jp):Option (Out BZ):=match preB (d8 (v,i,l,o,b,c,m,a,())) tl with|true=>let r:=bW (uQ tl (d8 (v,i,l,o,b,c,m,a,())));some (r.1,r.2.1,r.2.2.1,r.2.2.2.1,r.2.2.2.2.1,r.2.2.2.2.2.1,r.2.2.2.2.2.2.1,(0:Int),tl,r.2.2.2.2.2.2.2.1,())|false=>none
theorem agr:jD Tryz.prog 112 ⟨2,Cc,2,BZ,fun d=>vu d.1 d.2.1 d.2.2.1 d.2.2.2.1 d.2.2.2.2.1 d.2.2.2.2.2.1 d.2.2.2.2.2.2.1 d.2.2.2.2.2.2.2.1 d.2.2.2.2.2.2.2.2.1⟩:=by
 refine⟨⟨Tryz.f112,bu Tryz.f112,Tryz.func112,atP,atP⟩,?_⟩;rintro⟨v,i,l,o,b,c,m,a,tl,u⟩ out ho st e st' hput hs X vs args hX H hr hv R;have ho:vu v i l o b c m a tl=some out:=ho;unfold vu at ho;split at ho
 case h_2=>cases ho
 rename_i hp;have ho:=(Do ho).symm;have e1:st=⟨.node (some (.agg [.int .i64 v,.fz .I i,.fz af l,.fz .I o,.fz .I b,.fz .I c,.fz ah m,.fz af a])) (.node (some (.hd 0 .I)) .nil .nil) .nil,⟨.node (some (.arr .I tl 3)) .nil .nil,1⟩⟩:=by have:ai.put 2 Cc (v,i,l,o,b,c,m,a,tl,u)=some ⟨.node (some (.agg [.int .i64 v,.fz .I i,.fz af l,.fz .I o,.fz .I b,.fz .I c,.fz ah m,.fz af a])) (.node (some (.hd 0 .I)) .nil .nil) .nil,⟨.node (some (.arr .I tl 3)) .nil .nil,1⟩⟩:=rfl;rw[this]at hput;cases hput;rfl
 subst e1;have hX:X.h=⟨.node (some (.arr .I tl 3)) .nil .nil,1⟩:=hX;have hX1:X.h.next=1:=by rw[hX]
 have hg:X.h.tr.get 0=some (.arr .I tl 3):=by rw[hX];rfl
 have hv':some [AV.agg [.int .i64 v,.fz .I i,.fz af l,.fz .I o,.fz .I b,.fz .I c,.fz ah m,.fz af a],.hd 0 .I]=some vs:=hv;cases hv';obtain⟨V1,r1,rfl,R1,V2,r2,rfl,R2,hr2⟩:=R;have:r2=[]:=hr2;subst this;have D1:iz X.w (fun _=>False) cA (v,i,l,o,b,c,m,a,()) V1:=by obtain⟨cs,rfl,q⟩:=R1;obtain⟨x0,y0,rfl,k0,q⟩:=q;obtain⟨x1,y1,rfl,k1,q⟩:=q;obtain⟨x2,y2,rfl,k2,q⟩:=q;obtain⟨x3,y3,rfl,k3,q⟩:=q;obtain⟨x4,y4,rfl,k4,q⟩:=q;obtain⟨x5,y5,rfl,k5,q⟩:=q;obtain⟨x6,y6,rfl,k6,q⟩:=q;obtain⟨x7,y7,rfl,k7,q⟩:=q;have:y7=[]:=q;subst this;have k0:x0=.int .i64 v:=k0;subst k0;have K:=Mi X.w X.out;have k1:Cs X.w X.out (.sl .I) i [x1]:=k1;have k2:Cs X.w X.out (.sl af) l [x2]:=k2;have k3:Cs X.w X.out (.sl .I) o [x3]:=k3;have k4:Cs X.w X.out (.sl .I) b [x4]:=k4;have k5:Cs X.w X.out (.sl .I) c [x5]:=k5;have k6:Cs X.w X.out (.sl ah) m [x6]:=k6;have k7:Cs X.w X.out (.sl af) a [x7]:=k7;exact⟨⟨[_],_,rfl,rfl,[_],_,rfl,k1.bn K,[_],_,rfl,k2.bn K,[_],_,rfl,k3.bn K,[_],_,rfl,k4.bn K,[_],_,rfl,k5.bn K,[_],_,rfl,k6.bn K,[_],[],rfl,k7.bn K,rfl⟩,rfl⟩
 have D2:Cs X.w (fun _=>False) (.sl .I) tl [V2]:=by
  obtain⟨lc,k8,k9,k10⟩:=R2;have k11:=k10 _ (je hg);have k12:=Y6 H hg k8
  rwa [<-k11]at k12
 refine(W7 (A:=fun _=>False) (fun _ q=>q.elim) D1 D2 hp).mono ?_;rintro e2 w' ⟨M,rfl,hMd,hb,hMo⟩;have hMT:bW (uQ tl (d8 (v,i,l,o,b,c,m,a,())))=bW M.d:=by rw[hMd]
 rw[hMT]at ho;subst ho;have e3:(e,st')=(.ret,⟨.node (some (.agg [.int .i64 M.vars,.fz .I M.al,.fz af (M.ag.map bq),.fz .I M.aZ,.fz .I M.aN,.fz .I M.constraints,.fz ah ((M.ae.map aL.d).map aI),.hd 1 af])) (.node (some (.int .i64 0)) .nil .nil) .nil,⟨.node (some (.arr .I tl 3)) (.node (some (.arr af (M.aj.map bc) 113)) .nil .nil) .nil,2⟩⟩):=by refine Do (hs.symm.trans ?_);rfl
 cases e3;obtain⟨tr,htr⟩:∃tr:Tr bC,tr=.node (some (.arr .I tl 3)) (.node (some (.arr af (M.aj.map bc) 113)) .nil .nil) .nil:=⟨_,rfl⟩;have hset:Tr.set 5 X.h.tr 1 (some (.arr af (M.aj.map bc) 113))=some tr:=by rw[hX,htr];rfl
 have hgs:=Tr.dp 5 X.h.tr 1 (some (.arr af (M.aj.map bc) 113)) tr hset;have t0:tr.get X.h.next=some (.arr af (M.aj.map bc) 113):=by rw[hX1,hgs,IO rfl]
 have t1:∀i,i≠X.h.next->tr.get i=X.h.tr.get i:=fun i q=>by rw[hgs,BT (by rw[hX1]at q;exact q)]
 have hloc:∀b,(j3 M.An M.cn).own b->X.w.heap.size<=b/\b<w'.heap.size:=fun b q=>by
  have hb2:=vM q;have bz:b∈M.bs:=by unfold aT.bs aT.fH;simp only[rc];exact .inl (.inr (.inr (.inr (.inr (.inr (.inl hb2))))))
  exact⟨aT.iY hMo b bz,hMo.lt b bz⟩
 have hlr:=X8 (X:=nz X tr w' (j3 M.An M.cn)) (B:=X.w.heap.size) hMo.and;obtain⟨h3,h4⟩:=Ya H hb t0 t1 hloc hlr.1;refine⟨nz X tr w' (j3 M.An M.cn),[M.v,.int .i64 0],rfl,rfl,?_,h3,h4,fun us hus=>?_⟩
 .show(⟨tr,X.h.next+1⟩:Hp)=_;rw[hX1,htr]
 have hus:some [AV.agg [.int .i64 M.vars,.fz .I M.al,.fz af (M.ag.map bq),.fz .I M.aZ,.fz .I M.aN,.fz .I M.constraints,.fz ah ((M.ae.map aL.d).map aI),.hd 1 af],.int .i64 0]=some us:=hus;cases hus;have hnd:=hMo.nd;unfold aT.bs aT.fH at hnd;have eK:∀b∈M.bs,b∉aH M.An->¬(nz X tr w' (j3 M.An M.cn)).out b:=by
  intro b hb2 hn q;have:=aT.iY hMo b hb2;rcases q with q|q
  .have:=H.alt b q;omega
  .rcases Yi t1 q with q|q
   .have:=H.so q;omega
   .exact hn (vM q)
 simp only[rx,rc]at hnd;obtain⟨⟨_,⟨_,⟨_,⟨_,⟨_,⟨_,_,x6⟩,x5⟩,x4⟩,x3⟩,x2⟩,x1⟩,_,x0⟩:=hnd;have aw:∀b,b∈M.fH->b∈M.bs:=fun b q=>AC _ q;unfold aT.fH at aw;simp only[rc]at aw;have i1:=lN hMo.ins fun b q=>eK b (aw b (.inl q)) fun p=>x1 b q b (.inr (.inr (.inr (.inr (.inl p))))) rfl;have i2:=lN hMo.out fun b q=>eK b (aw b (.inr (.inl q))) fun p=>x2 b q b (.inr (.inr (.inr (.inl p)))) rfl;have i3:=lN hMo.bad fun b q=>eK b (aw b (.inr (.inr (.inl q)))) fun p=>x3 b q b (.inr (.inr (.inl p))) rfl;have i4:=lN hMo.gG fun b q=>eK b (aw b (.inr (.inr (.inr (.inl q))))) fun p=>x4 b q b (.inr (.inl p)) rfl;have i5:=pJ (σ:=af) (T:=bq) hMo.aJ (fun x _=>MW x) fun b q=>eK b (aw b (.inr (.inr (.inr (.inr (.inl q)))))) fun p=>x5 b q b (.inl p) rfl;have i6:=pJ (σ:=ah) (T:=fun m:aL=>aI m.d) hMo.mem (fun m hm=>Na (hMo.kZ m hm) fun b q=>eK b (EQ _ (rg.2 ⟨m,hm,q⟩)) fun p=>x0 b (.inr (.inr (.inr (.inr (.inr (.inl p)))))) b (rg.2 ⟨m,hm,q⟩) rfl) fun b q=>eK b (aw b (.inr (.inr (.inr (.inr (.inr (.inr q))))))) fun p=>x6 b p b q rfl;have i6':∀P,Cs w' P (.sl ah) (M.ae.map fun m:aL=>aI m.d) [.slice M.Am M.ae.length M.cm]->Cs w' P (.sl ah) ((M.ae.map aL.d).map aI) [.slice M.Am M.ae.length M.cm]:=fun P h=>by rw[Fn];exact h
 refine⟨M.v,_,rfl,⟨_,rfl,_,_,rfl,rfl,_,_,rfl,i1,_,_,rfl,i5,_,_,rfl,i2,_,_,rfl,i3,_,_,rfl,i4,_,_,rfl,i6' _ i6,_,_,rfl,⟨j3 M.An M.cn,?_,rfl,fun n hn=>?_⟩,rfl⟩,_,_,rfl,rfl,rfl⟩
 .show cw X.s X.h.next _ 1=_;rw[hX1];exact fU _ _ _
 .have hr2:rowOf tr 1=some (M.aj.map bc).length:=by rw[hX1]at t0;exact je t0
  have hn:rowOf tr 1=some n:=hn;rw[hr2]at hn;cases hn;rw[aP];exact hlr.2
def Vx:Vw:=⟨fun d=>vu d.1 d.2.1 d.2.2.1 d.2.2.2.1 d.2.2.2.2.1 d.2.2.2.2.2.1 d.2.2.2.2.2.2.1 d.2.2.2.2.2.2.2.1 d.2.2.2.2.2.2.2.2.1,agr⟩
def Vj:Vy:=Vx.F
abbrev C7:ai:=afs
abbrev CQ:List (Ev.Ex×ai):=[(.ret,⟨[(0,.agg [.I,.hd 0 .I,.fz af,.fz .I,.fz .I,.fz .I,.fz ah,.fz af])],[(0,.arr .I 3)],1⟩)]
abbrev Du:=be C7 CQ
abbrev Ds:=Kb 41 1 C7 1 CQ
def pC(v:Int)(i:jp)(l:List af.T)(o b c:jp)(m:List ah.T)(a:List af.T):Option (Out CQ):=match sO (d8 (v,i,l,o,b,c,m,a,()) )with|true=>let r:=bW (d8 (v,i,l,o,b,c,m,a,()));some (r.1,r.2.2.1,r.2.2.2.1,r.2.2.2.2.1,r.2.2.2.2.2.1,r.2.2.2.2.2.2.1,r.2.2.2.2.2.2.2.1,r.2.1,())|false=>none
theorem agZ:jD Tryz.prog 41 ⟨1,C7,1,CQ,fun d=>pC d.1 d.2.1 d.2.2.1 d.2.2.2.1 d.2.2.2.2.1 d.2.2.2.2.2.1 d.2.2.2.2.2.2.1 d.2.2.2.2.2.2.2.1⟩:=by
 refine⟨⟨Tryz.f41,bu Tryz.f41,Tryz.func41,atP,atP⟩,?_⟩;rintro⟨v,i,l,o,b,c,m,a,u⟩ out ho st e st' hput hs X vs args hX H hr hv R;have ho:pC v i l o b c m a=some out:=ho;unfold pC at ho;split at ho
 case h_2=>cases ho
 rename_i hp;have ho:=(Do ho).symm;have e1:st=⟨.node (some (.agg [.int .i64 v,.fz .I i,.fz af l,.fz .I o,.fz .I b,.fz .I c,.fz ah m,.fz af a])) .nil .nil,⟨.nil,0⟩⟩:=by have:ai.put 1 C7 (v,i,l,o,b,c,m,a,u)=some ⟨.node (some (.agg [.int .i64 v,.fz .I i,.fz af l,.fz .I o,.fz .I b,.fz .I c,.fz ah m,.fz af a])) .nil .nil,⟨.nil,0⟩⟩:=rfl;rw[this]at hput;cases hput;rfl
 subst e1;have hX:X.h=⟨.nil,0⟩:=hX;have hX1:X.h.next=0:=by rw[hX]
 have hv':some [AV.agg [.int .i64 v,.fz .I i,.fz af l,.fz .I o,.fz .I b,.fz .I c,.fz ah m,.fz af a]]=some vs:=hv;cases hv';obtain⟨V1,r1,rfl,R1,hr2⟩:=R;have:r1=[]:=hr2;subst this;have D1:iz X.w X.out cA (v,i,l,o,b,c,m,a,()) V1:=by obtain⟨cs,rfl,q⟩:=R1;obtain⟨x0,y0,rfl,k0,q⟩:=q;obtain⟨x1,y1,rfl,k1,q⟩:=q;obtain⟨x2,y2,rfl,k2,q⟩:=q;obtain⟨x3,y3,rfl,k3,q⟩:=q;obtain⟨x4,y4,rfl,k4,q⟩:=q;obtain⟨x5,y5,rfl,k5,q⟩:=q;obtain⟨x6,y6,rfl,k6,q⟩:=q;obtain⟨x7,y7,rfl,k7,q⟩:=q;have:y7=[]:=q;subst this;have k0:x0=.int .i64 v:=k0;subst k0;exact⟨⟨[_],_,rfl,rfl,[_],_,rfl,k1,[_],_,rfl,k2,[_],_,rfl,k3,[_],_,rfl,k4,[_],_,rfl,k5,[_],_,rfl,k6,[_],[],rfl,k7,rfl⟩,rfl⟩
 obtain⟨N,rfl,hNd,hNo⟩:=Ej D1;refine(XE X.w N X.w.heap.size hNo (rt _) (hNd▸D9 hp)).mono ?_;rintro e2 w' ⟨M,hMd,rfl,hb,hMo⟩;have hMT:bW (d8 (v,i,l,o,b,c,m,a,()))=bW M.d:=by rw[hMd,hNd]
 rw[hMT]at ho;subst ho;have e3:(e,st')=(.ret,⟨.node (some (.agg [.int .i64 M.vars,.hd 0 .I,.fz af (M.ag.map bq),.fz .I M.aZ,.fz .I M.aN,.fz .I M.constraints,.fz ah ((M.ae.map aL.d).map aI),.fz af (M.aj.map bc)])) .nil .nil,⟨.node (some (.arr .I M.al 3)) .nil .nil,1⟩⟩):=by refine Do (hs.symm.trans ?_);rfl
 cases e3;obtain⟨tr,htr⟩:∃tr:Tr bC,tr=.node (some (.arr .I M.al 3)) .nil .nil:=⟨_,rfl⟩;have hset:Tr.set 5 X.h.tr 0 (some (.arr .I M.al 3))=some tr:=by rw[hX,htr];rfl
 have hgs:=Tr.dp 5 X.h.tr 0 (some (.arr .I M.al 3)) tr hset;have t0:tr.get X.h.next=some (.arr .I M.al 3):=by rw[hX1,hgs,IO rfl]
 have t1:∀i,i≠X.h.next->tr.get i=X.h.tr.get i:=fun i q=>by rw[hgs,BT (by rw[hX1]at q;exact q)]
 have hloc:∀b,(j3 M.Ai M.ci).own b->X.w.heap.size<=b/\b<w'.heap.size:=fun b q=>by
  have hb2:=vM q;have bz:b∈M.bs:=by unfold aT.bs aT.fH;simp only[rc];exact .inl (.inl hb2)
  exact⟨aT.iY hMo b bz,hMo.lt b bz⟩
 have hlr:=aiQ (X:=nz X tr w' (j3 M.Ai M.ci)) (B:=X.w.heap.size) hMo.ins;obtain⟨h3,h4⟩:=Ya H hb t0 t1 hloc hlr.1;refine⟨nz X tr w' (j3 M.Ai M.ci),[M.v],rfl,rfl,?_,h3,h4,fun us hus=>?_⟩
 .show(⟨tr,X.h.next+1⟩:Hp)=_;rw[hX1,htr]
 have hus:some [AV.agg [.int .i64 M.vars,.hd 0 .I,.fz af (M.ag.map bq),.fz .I M.aZ,.fz .I M.aN,.fz .I M.constraints,.fz ah ((M.ae.map aL.d).map aI),.fz af (M.aj.map bc)]]=some us:=hus;cases hus;have hnd:=hMo.nd;unfold aT.bs aT.fH at hnd;have eK:∀b∈M.bs,b∉aH M.Ai->¬(nz X tr w' (j3 M.Ai M.ci)).out b:=by
  intro b hb2 hn q;have:=aT.iY hMo b hb2;rcases q with q|q
  .have:=H.alt b q;omega
  .rcases Yi t1 q with q|q
   .have:=H.so q;omega
   .exact hn (vM q)
 simp only[rx,rc]at hnd;obtain⟨⟨_,⟨_,⟨_,⟨_,⟨_,⟨_,_,x6⟩,x5⟩,x4⟩,x3⟩,x2⟩,x1⟩,_,x0⟩:=hnd;have aw:∀b,b∈M.fH->b∈M.bs:=fun b q=>AC _ q;unfold aT.fH at aw;simp only[rc]at aw;have i2:=lN hMo.out fun b q=>eK b (aw b (.inr (.inl q))) fun p=>x1 b p b (.inl q) rfl;have i3:=lN hMo.bad fun b q=>eK b (aw b (.inr (.inr (.inl q)))) fun p=>x1 b p b (.inr (.inl q)) rfl;have i4:=lN hMo.gG fun b q=>eK b (aw b (.inr (.inr (.inr (.inl q))))) fun p=>x1 b p b (.inr (.inr (.inl q))) rfl;have i5:=pJ (σ:=af) (T:=bq) hMo.aJ (fun x _=>MW x) fun b q=>eK b (aw b (.inr (.inr (.inr (.inr (.inl q)))))) fun p=>x1 b p b (.inr (.inr (.inr (.inl q)))) rfl;have i7:=pJ (σ:=af) (T:=bc) hMo.and (fun x _=>YO x) fun b q=>eK b (aw b (.inr (.inr (.inr (.inr (.inr (.inl q))))))) fun p=>x1 b p b (.inr (.inr (.inr (.inr (.inl q))))) rfl;have i6:=pJ (σ:=ah) (T:=fun m:aL=>aI m.d) hMo.mem (fun m hm=>Na (hMo.kZ m hm) fun b q=>eK b (EQ _ (rg.2 ⟨m,hm,q⟩)) fun p=>x0 b (.inl p) b (rg.2 ⟨m,hm,q⟩) rfl) fun b q=>eK b (aw b (.inr (.inr (.inr (.inr (.inr (.inr q))))))) fun p=>x1 b p b (.inr (.inr (.inr (.inr (.inr q))))) rfl;have i6':∀P,Cs w' P (.sl ah) (M.ae.map fun m:aL=>aI m.d) [.slice M.Am M.ae.length M.cm]->Cs w' P (.sl ah) ((M.ae.map aL.d).map aI) [.slice M.Am M.ae.length M.cm]:=fun P h=>by rw[Fn];exact h
 refine⟨M.v,_,rfl,⟨_,rfl,_,_,rfl,rfl,_,_,rfl,⟨j3 M.Ai M.ci,?_,rfl,fun n hn=>?_⟩,_,_,rfl,i5,_,_,rfl,i2,_,_,rfl,i3,_,_,rfl,i4,_,_,rfl,i6' _ i6,_,_,rfl,i7,rfl⟩,rfl⟩
 .show cw X.s X.h.next _ 0=_;rw[hX1];exact fU _ _ _
 .have hr2:rowOf tr 0=some M.al.length:=by rw[hX1]at t0;exact je t0
  have hn:rowOf tr 0=some n:=hn;rw[hr2]at hn;cases hn;exact hlr.2
def Dt:Ds:=⟨fun d=>pC d.1 d.2.1 d.2.2.1 d.2.2.2.1 d.2.2.2.2.1 d.2.2.2.2.2.1 d.2.2.2.2.2.2.1 d.2.2.2.2.2.2.2.1,agZ⟩
def tM:Du:=Dt.F
