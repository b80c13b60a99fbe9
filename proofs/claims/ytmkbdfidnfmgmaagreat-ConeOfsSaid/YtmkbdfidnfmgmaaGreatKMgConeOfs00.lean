import Derived.Test.YtmkbdfidnfmgmaaGreatKCi
set_option linter.all false
section
namespace Go.Proofs.YtmkbdfidnfmgmaaGreat.V
open Go Go.RowKit
set_option maxRecDepth 1000000
abbrev WC:List Sh:=[]
abbrev Cn:List Sh:=[.bool]
abbrev Xd:=TL WC->Option (TL Cn)
abbrev Lz:=Kd 17 WC Cn
def LC(F0:sk)(F1:NW)  :Option (TL Cn):=
 aA (F1 (((2:Int),[],(((1:Int),(3:Int),(0:Int),())::(((2:Int),(2:Int),(0:Int),())::[])),[],((2:Int)::[]),[],[],[],()),())) fun x0=>
 br (iQ x0.2.1 (0:Int))
 (
  br (bK true (iQ x0.1.1.1 (1:Int)) false)
  (
   aA (F0 (x0.1.2.2.1,((0:Int)::[]),())) fun x1=>
   br (bK true x1.1 false)
   (
    some ((bK true (iQ (Int.ofNat (List.length x0.1.1.2.2.2.2.1)) (1:Int)) false),()))
   (
    some (false,())))
  (
   some (false,())))
 (
  some (false,()))
def ah4(c0:qD)(c1:EO) :Lz:=⟨fun d=>LC c0.F c1.F  ,pZ Tryz.func17 33 (kD c0 (kD c1 k0)) e0 1 (sS l0) fun d=>aud⟩
def Xc:Lz:=ah4 sj NV
def K8:Xd:=Xc.F
abbrev Vf:List Sh:=[cJ]
abbrev Kq:List Sh:=[.bool]
abbrev ahr:=TL Vf->Option (TL Kq)
abbrev VV:=Kd 4 Vf Kq
def v9(F0:Vw)(F1:sk)(F2:XV)(F3:Yn)(F4:GF)(F5:NW)(F6:Xd)(F7:aep)(a0:Sh.T cJ):Option (TL Kq):=
 aA (F7 (a0,())) fun x0=>
 br (Bool.not x0.1)
 (
  aA (F6 ()) fun x1=>
  some (x1.1,()))
 (
  aA (F5 (a0,())) fun x1=>
  aA (F4 (a0,())) fun x2=>
  br (Bool.not (iQ x2.1 (0:Int)))
  (
   br (iQ x1.2.1 x2.1)
   (
    br (bK true (iQ x1.1.1.1 (0:Int)) false)
    (
     br (bK true (iQ (pu ((pu ((Int.ofNat (List.length x1.1.2.1))+(Int.ofNat (List.length x1.1.2.2.1))))+(Int.ofNat (List.length x1.1.2.2.2.1)))) (0:Int)) false)
     (
      aA (F6 ()) fun x3=>
      some ((bK true x3.1 false),()))
     (
      some (false,())))
    (
     some (false,())))
   (
    some (false,())))
  (
   aA (F3 (a0,())) fun x3=>
   br (iQ x1.2.1 (0:Int))
   (
    aA (F2 (x1.1.1,x3.1.1,())) fun x4=>
    br (bK true x4.1 false)
    (
     aA (F1 (x1.1.2.1,x3.1.2.1,())) fun x5=>
     br (bK true x5.1 false)
     (
      aA (F1 (x1.1.2.2.1,x3.1.2.2.1,())) fun x6=>
      br (bK true x6.1 false)
      (
       aA (F1 (x1.1.2.2.2.1,x3.1.2.2.2.1,())) fun x7=>
       br (bK true x7.1 false)
       (
        aA (F0 (x1.1.1,())) fun x8=>
        br (bK true x8.1 false)
        (
         aA (F6 ()) fun x9=>
         some ((bK true x9.1 false),()))
        (
         some (false,())))
       (
        some (false,())))
      (
       some (false,())))
     (
      some (false,())))
    (
     some (false,())))
   (
    some (false,()))))
def ahq(c0:Kw)(c1:qD)(c2:Ml)(c3:MG)(c4:yd)(c5:EO)(c6:Lz)(c7:Qi) :VV:=⟨u1 (v9 c0.F c1.F c2.F c3.F c4.F c5.F c6.F c7.F),pD Tryz.func4 86 (kD c0 (kD c1 (kD c2 (kD c3 (kD c4 (kD c5 (kD c6 (kD c7 k0)))))))) e0 1 (sS l0) fun d=>aud⟩
def VW:VV:=ahq Vv sj XU Ym GG NV Xc aeq
def ag0:ahr:=VW.F
open Go.Proofs.YtmkbdfidnfmgmaaGreat.Pl
set_option maxRecDepth 100000
def lJ:aB:=⟨2,[],[⟨1,3,0⟩,⟨2,2,0⟩],[],[2],[],[],[]⟩
theorem am7:(pG lJ (lg lJ 2) 2).vars=1/\ez (i9 lJ (lg lJ 2))=[0]/\(pG lJ (lg lJ 2) 2).aU.length=1:=⟨aud,aud,aud⟩
theorem NO:K8 ()=some (true,()):=by
 have hc:Pl.gV lJ=0:=aud
 obtain⟨V,hs,h0,_,ha⟩:=afH hc;obtain rfl:V=2:=by have:=hs.vars;have h:lJ.vars=2:=rfl;omega
 obtain⟨s,M,e⟩:=ab6 hs h0 ha;obtain rfl:=jk.one (aag hs) M;obtain⟨c1,c2,c3⟩:=am7;have hS:si (ez (i9 lJ (lg lJ 2)),([0]:jp),())=some (true,()):=by rw[c2];exact nu [0] auf
 have h3:bK true (iQ (Int.ofNat (List.length (pG lJ (lg lJ 2) 2).aU)) (1:Int)) false=true:=by rw[c3];rfl
 have h1:bK true (iQ (pG lJ (lg lJ 2) 2).vars (1:Int)) false=true:=by rw[c1];rfl
 show LC si wS=_;unfold LC;have fin:∀b:Bool,b=true->(some (b,()):Option (TL Cn))=some (true,()):=by rintro _ rfl;rfl
 exact(bg e).trans ((bR rfl).trans ((bR h1).trans ((bg hS).trans ((bR rfl).trans (fin _ h3)))))
theorem aj6(d:cJ.T)(hd:pa cJ d):ag0 (d,())=some (true,()):=by
 obtain⟨b,el,hb⟩:=apu d;cases b with
 |false=>exact aZ el (ba rfl (aZ NO rfl))|true=>
  have ft:=ang hd (hb rfl);obtain⟨n,hn⟩:∃n,n=eH d:=⟨_,rfl⟩;have hdn:d=dn n:=by rw[hn,Zri]
  rw[<-hn]at ft;rw[hdn]at el |-;have eC:=Zxe ft;by_cases hc:Pl.gV n=0
  .obtain⟨V,hs,h0,_,ha⟩:=afH hc;obtain⟨s,M,e⟩:=ab6 hs h0 ha;have e2:=amu hs h0 ha M;have hsm:=uw hs M h0;have hsa:=EW hs h0 ha M;have hs0:=wO hs M h0;have hcd:=amp hsm hsa hs0;have hco:=akn hsm hsa hs0;have hcs:=akH hs h0 ha M;rw[hc]at eC;have l1:(ez (jP n s)).length<=100000:=by rw[nB];exact EQ (uv _ _) (EQ hs.lens.1 auc)
   have l2:(ez (i9 n s)).length<=100000:=by rw[nB];exact EQ (uv _ _) (EQ hs.lens.2.1 auc)
   have l3:(ez (iz n s)).length<=100000:=by rw[nB];exact EQ (uv _ _) (EQ hs.lens.2.2.2.2 auc)
   have f1:=ajX hcs;have f2:=nu _ l1;have f3:=nu _ l2;have f4:=nu _ l3;have f5:=ajQ hcs hcd hco;have f6:=NO;obtain⟨c,hcc⟩:∃c,c=pG n s V:=⟨_,rfl⟩;obtain⟨i1,hi1⟩:∃c,c=ez (jP n s):=⟨_,rfl⟩;obtain⟨i2,hi2⟩:∃c,c=ez (i9 n s):=⟨_,rfl⟩;obtain⟨i3,hi3⟩:∃c,c=ez (iz n s):=⟨_,rfl⟩;rw[<-hcc]at e e2 f1 f5;rw[<-hi1]at e e2 f2;rw[<-hi2]at e e2 f3;rw[<-hi3]at e e2 f4;show v9 Kl si LG MA ID wS K8 SJ (dn n)=_;unfold v9;refine(bg el).trans ((bC rfl).trans ((bg e).trans ((bg eC).trans ((bC rfl).trans ((bg e2).trans ((bR rfl).trans ((bg f1).trans ((bR rfl).trans ?_))))))));refine(bg f2).trans ((bR rfl).trans ((bg f3).trans ((bR rfl).trans ((bg f4).trans ((bR rfl).trans ((bg f5).trans ((bR rfl).trans ((bg f6).trans rfl))))))))
  .have e:=anD ft hc;have hq:Bool.not (iQ (Pl.gV n) (0:Int))=true:=sZ (aJ hc);have f6:=NO;have hz:bK true (iQ (pu ((pu ((Int.ofNat (List.length ([]:jp)))+(Int.ofNat (List.length ([]:jp)))))+(Int.ofNat (List.length ([]:jp))))) (0:Int)) false=true:=aud
   show v9 Kl si LG MA ID wS K8 SJ (dn n)=_;unfold v9;exact(bg el).trans ((bC rfl).trans ((bg e).trans ((bg eC).trans ((bR hq).trans ((bR (jj _)).trans ((bR rfl).trans ((bR hz).trans ((bg f6).trans rfl))))))))
