import Derived.Test.YtdcnjfbffckblaaGreatKTa
import Derived.Test.YtdcnjfbffckblaaGreatKSb
set_option linter.unusedSectionVars false
set_option linter.unusedVariables false
set_option linter.unusedSimpArgs false
set_option linter.unnecessarySimpa false
section
namespace Go.Proofs.YtdcnjfbffckblaaGreat.V
open Go Go.RowKit
set_option maxRecDepth 1000000
abbrev Ov:List Sh:=[(.int .i64)]
abbrev DJ:List Sh:=[.bool]
abbrev OD:=TL Ov->Option (TL DJ)
abbrev DO:=Kd 102 Ov DJ
def DN(a0:Int):Option (TL DJ):=some ((iQ (qn .i64 a0 (1:Int)) (1:Int)),())
def ZF  :DO:=⟨u1 DN,pD Tryz.func102 6 k0 e0 1 (sS l0) fun d=>by kernel_rfl⟩
def OE:DO:=ZF
def Ow:OD:=OE.F
abbrev Oj:List Sh:=[(.int .i64),(.sl .bool)]
abbrev wc:List Sh:=[.bool]
abbrev Cb:=TL Oj->Option (TL wc)
abbrev vz:=Kd 93 Oj wc
def DL(F0:OD)(F1:we)(a0:Int)(a1:List Bool):Option (TL wc):=
 br (iL a0 (0:Int))
 (
  some (false,()))
 (
  az (F1 (a0,())) fun x0=>
  az (F0 (a0,())) fun x1=>
  br (iL (0:Int) x0.1)
  (
   br (bD true (iL x0.1 (Int.ofNat (List.length a1))) false)
   (
    ak (ah x0.1 (List.length a1))<|
    some ((Bool.not (@decide _ (Bool.decEq x1.1 (bD true (gt .bool a1 x0.1) false)))),()))
   (
    some ((Bool.not (@decide _ (Bool.decEq x1.1 false))),())))
  (
   some ((Bool.not (@decide _ (Bool.decEq x1.1 false))),())))
def Zy(c0:DO)(c1:rz) :vz:=⟨u2 (DL c0.F c1.F),pD Tryz.func93 27 (kD c0 (kD c1 k0)) e0 1 (sS l0) fun d=>by kernel_rfl⟩
def Cc:vz:=Zy OE wg
def uM:Cb:=Cc.F
abbrev v8:Lay:={ T:=[(1,.fz .bool),(4,.int .u64),(11,.fz (.int .i64)),(12,.int .i64),(13,.int .i64)],h:=[],nx:=0 }
abbrev v7:List (Ev.Ex×Lay):=[((.exit 0),{ T:=[(4,.int .u64)],h:=[],nx:=0 })]
abbrev N7:=TL v8.σs->Option (Out v7)
abbrev Dy:=Ld 0 27 (bL [0] (bw Tryz.f62)) v8 v7
def wb(F0:Cb)(t1:List Bool)(t4:Int)(t11:List Int)(t12 t13:Int):Option (TL v8.σs⊕Out v7):=
 br (iL t13 t12)
 (
  ak (ah t13 (List.length t11))<|
  az (F0 ((gt (.int .i64) t11 t13),(t1,()))) fun x0=>
  br x0.1
  (
   ak (iE (0:Int) t13)<|
   some (.inl (t1,((rE .u64 t4 (IntKind.wrap .u64 ((1:Int)*(HPow.hPow (2:Int) (Min.min (Int.toNat t13) 64))))),(t11,(t12,((IntKind.wrap .i64 (t13+(1:Int))),())))))))
  (
   some (.inl (t1,(t4,(t11,(t12,((IntKind.wrap .i64 (t13+(1:Int))),()))))))))
 (
  some (.inr (t4,())))
def Zf(c0:vz) :Dy:=bO (u5 (wb c0.F)) (pL (kD c0 k0) e0 1 l0 fun d=>by kernel_rfl)
def Ze:Dy:=Zf Cc
def wa:N7:=bj (u5 (wb uM)) NN
abbrev N5:List Sh:=[(.sl (.int .i64)),(.sl .bool)]
abbrev Dx:List Sh:=[(.int .u64)]
abbrev ru:=TL N5->Option (TL Dx)
abbrev oN:=Kd 62 N5 Dx
def DG(F0:Cb)(L2:N7)(a0:List Int)(a1:List Bool):Option (TL Dx):=
 ak (both (iE (0:Int) (fV (iL (64:Int) (Int.ofNat (List.length a0))) (64:Int) (Int.ofNat (List.length a0)))) (iE (fV (iL (64:Int) (Int.ofNat (List.length a0))) (64:Int) (Int.ofNat (List.length a0))) (Int.ofNat (List.length a0))))<|
 az (L2 (a1,((0:Int),((List.take (Int.toNat (fV (iL (64:Int) (Int.ofNat (List.length a0))) (64:Int) (Int.ofNat (List.length a0)))) a0),((Int.ofNat (List.length (List.take (Int.toNat (fV (iL (64:Int) (Int.ofNat (List.length a0))) (64:Int) (Int.ofNat (List.length a0)))) a0))),((0:Int),())))))) fun x0=>
 some (x0.1,())
def Zj(c0:vz)(M2:Dy):oN:=⟨u2 (DG c0.F M2.L),pD Tryz.func62 27 (kD c0 k0) e0 1 (sS (sC M2 l0)) fun d=>by kernel_rfl⟩
def ry:oN:=Zj Cc Ze
def vX:ru:=ry.F
abbrev NW:List Sh:=[(.int .i64)]
abbrev Dp:List Sh:=[.bool]
abbrev N1:=TL NW->Option (TL Dp)
abbrev Du:=Kd 107 NW Dp
def Dt(a0:Int):Option (TL Dp):=some ((iQ (Int.tmod a0 (2:Int)) (1:Int)),())
def Y7  :Du:=⟨u1 Dt,pD Tryz.func107 6 k0 e0 1 (sS l0) fun d=>by kernel_rfl⟩
def N2:Du:=Y7
def NX:N1:=N2.F
abbrev NM:List Sh:=[(.int .i64),(.sl .bool)]
abbrev vQ:List Sh:=[.bool]
abbrev jT:=TL NM->Option (TL vQ)
abbrev js:=Kd 41 NM vQ
def Dl(F0:N1)(F1:vY)(a0:Int)(a1:List Bool):Option (TL vQ):=
 br (iL a0 (0:Int))
 (
  some (false,()))
 (
  az (F1 (a0,())) fun x0=>
  br (iL (0:Int) x0.1)
  (
   br (bD true (iL x0.1 (Int.ofNat (List.length a1))) false)
   (
    ak (ah x0.1 (List.length a1))<|
    az (F0 (a0,())) fun x1=>
    some ((Bool.not (@decide _ (Bool.decEq (bD true (gt .bool a1 x0.1) false) x1.1))),()))
   (
    az (F0 (a0,())) fun x1=>
    some ((Bool.not (@decide _ (Bool.decEq false x1.1))),())))
  (
   az (F0 (a0,())) fun x1=>
   some ((Bool.not (@decide _ (Bool.decEq false x1.1))),())))
def Y1(c0:Du)(c1:rn) :js:=⟨u2 (Dl c0.F c1.F),pD Tryz.func41 29 (kD c0 (kD c1 k0)) e0 1 (sS l0) fun d=>by kernel_rfl⟩
def jU:js:=Y1 N2 vZ
def gr:jT:=jU.F
abbrev vu:Lay:={ T:=[(0,.fz .bool),(3,.int .u64),(4,.int .u64),(5,.int .i64)],h:=[],nx:=0 }
abbrev vj:List (Ev.Ex×Lay):=[((.exit 0),{ T:=[(3,.int .u64)],h:=[],nx:=0 })]
abbrev NJ:=TL vu.σs->Option (Out vj)
abbrev NL:=Ld 0 26 (bL [0] (bw Tryz.f129)) vu vj
def vP(t0:List Bool)(t3 t4 t5:Int):Option (TL vu.σs⊕Out vj):=
 br (iL t5 (Int.ofNat (List.length t0)))
 (
  br (bD true (iL t5 (64:Int)) false)
  (
   ak (ah t5 (List.length t0))<|
   br (gt .bool t0 t5)
   (
    some (.inl (t0,((IntKind.wrap .u64 (t3+t4)),((IntKind.wrap .u64 (t4*(2:Int))),((IntKind.wrap .i64 (t5+(1:Int))),()))))))
   (
    some (.inl (t0,(t3,((IntKind.wrap .u64 (t4*(2:Int))),((IntKind.wrap .i64 (t5+(1:Int))),())))))))
  (
   some (.inr (t3,()))))
 (
  some (.inr (t3,())))
def YO  :NL:=bO (u4 vP) (pL k0 e0 1 l0 fun d=>by kernel_rfl)
def C3:NJ:=bj (u4 vP) NN
abbrev NI:List Sh:=[(.sl .bool)]
abbrev C2:List Sh:=[(.int .u64)]
abbrev NU:=TL NI->Option (TL C2)
abbrev Dk:=Kd 129 NI C2
def Dj(L3:NJ)(a0:List Bool):Option (TL C2):=
 az (L3 (a0,((0:Int),((1:Int),((0:Int),()))))) fun x0=>
 some (x0.1,())
def Y0(M3:NL):Dk:=⟨u1 (Dj M3.L),pD Tryz.func129 26 k0 e0 1 (sS (sC M3 l0)) fun d=>by kernel_rfl⟩
def NV:Dk:=Y0  YO
def NK:NU:=NV.F
abbrev vk:Lay:={ T:=[(0,.int .u64),(1,.int .i64),(5,.hd 0 .bool),(6,.int .i64)],h:=[(0,.arr .bool 4)],nx:=1 }
abbrev u0:List (Ev.Ex×Lay):=[((.exit 0),{ T:=[(5,.hd 0 .bool)],h:=[(0,.arr .bool 4)],nx:=1 })]
abbrev Nn:=TL vk.σs->Option (Out u0)
abbrev Np:=Ld 0 25 (bL [0] (bw Tryz.f53)) vk u0
def vF(t0 t1 t6:Int)(b0:List Bool):Option (TL vk.σs⊕Out u0):=
 br (iL t6 t1)
 (
  br (bD true (iL t6 (64:Int)) false)
  (
   ak (room 1 (List.length (ap b0 ((iQ (Int.tmod t0 (2:Int)) (1:Int))::[]))))<|
   some (.inl ((IntKind.wrap .u64 (Int.tdiv t0 (2:Int))),(t1,((IntKind.wrap .i64 (t6+(1:Int))),((ap b0 ((iQ (Int.tmod t0 (2:Int)) (1:Int))::[])),()))))))
  (
   some (.inr (b0,()))))
 (
  some (.inr (b0,())))
def Yz  :Np:=bO (u4 vF) (pL k0 e0 1 l0 fun d=>by kernel_rfl)
def CO:Nn:=bj (u4 vF) NN
abbrev Nl:List Sh:=[(.int .u64),(.int .i64)]
abbrev CN:List Sh:=[(.sl .bool)]
abbrev C4:=TL Nl->Option (TL CN)
abbrev vR:=Kd 53 Nl CN
def C6(L3:Nn)(a0 a1:Int):Option (TL CN):=
 az (L3 (a0,(a1,((0:Int),([],()))))) fun x0=>
 some (x0.1,())
def YP(M3:Np):vR:=⟨u2 (C6 M3.L),pD Tryz.func53 25 k0 e0 1 (sS (sC M3 l0)) fun d=>by kernel_rfl⟩
def C5:vR:=YP  Yz
def vE:C4:=C5.F
abbrev uZ:Lay:={ T:=[(0,.fz (.int .i64)),(1,.fz .bool),(5,.hd 0 .bool),(6,.int .i64)],h:=[(0,.arr .bool 4)],nx:=1 }
abbrev uT:List (Ev.Ex×Lay):=[((.exit 0),{ T:=[(5,.hd 0 .bool)],h:=[(0,.arr .bool 4)],nx:=1 })]
abbrev MW:=TL uZ.σs->Option (Out uT)
abbrev Cr:=Ld 0 24 (bL [0] (bw Tryz.f55)) uZ uT
def vv(F1:jT)(t0:List Int)(t1:List Bool)(t6:Int)(b0:List Bool):Option (TL uZ.σs⊕Out uT):=
 br (iL t6 (Int.ofNat (List.length t0)))
 (
  ak (ah t6 (List.length t0))<|
  az (F1 ((gt (.int .i64) t0 t6),(t1,()))) fun x0=>
  ak (room 1 (List.length (ap b0 (x0.1::[]))))<|
  some (.inl (t0,(t1,((IntKind.wrap .i64 (t6+(1:Int))),((ap b0 (x0.1::[])),()))))))
 (
  some (.inr (b0,())))
def Ym(c1:js) :Cr:=bO (u4 (vv c1.F)) (pL (kD c1 k0) e0 1 l0 fun d=>by kernel_rfl)
def Yl:Cr:=Ym jU
def Cq:MW:=bj (u4 (vv gr)) NN
abbrev MV:List Sh:=[(.sl (.int .i64)),(.sl .bool)]
abbrev Cp:List Sh:=[(.int .u64)]
abbrev ri:=TL MV->Option (TL Cp)
abbrev oM:=Kd 55 MV Cp
def CM(F0:NU)(F1:jT)(L3:MW)(a0:List Int)(a1:List Bool):Option (TL Cp):=
 az (L3 (a0,(a1,((0:Int),([],()))))) fun x0=>
 az (F0 (x0.1,())) fun x1=>
 some (x1.1,())
def Yy(c0:Dk)(c1:js)(M3:Cr):oM:=⟨u2 (CM c0.F c1.F M3.L),pD Tryz.func55 24 (kD c0 (kD c1 k0)) e0 1 (sS (sC M3 l0)) fun d=>by kernel_rfl⟩
def rj:oM:=Yy NV jU Yl
def nf:ri:=rj.F
abbrev vt:Lay:={ T:=[(0,.fz ar),(1,.int .u64),(5,.int .i64)],h:=[],nx:=0 }
abbrev rh:List (Ev.Ex×Lay):=[(.ret,{ T:=[(4,.int .u64)],h:=[],nx:=0 }),((.exit 0),{ T:=[],h:=[],nx:=0 })]
abbrev NF:=TL vt.σs->Option (Out rh)
abbrev NH:=Ld 0 24 (bL [0] (bw Tryz.f54)) vt rh
def vO(t0:List (Sh.T ar))(t1 t5:Int):Option (TL vt.σs⊕Out rh):=
 br (iL t5 (Int.ofNat (List.length t0)))
 (
  ak (ah t5 (List.length t0))<|
  br (iQ (gt ar t0 t5).1 t1)
  (
   ak (ah t5 (List.length t0))<|
   some (.inr (.inl ((gt ar t0 t5).2.1,()))))
  (
   some (.inl (t0,(t1,((IntKind.wrap .i64 (t5+(1:Int))),()))))))
 (
  some (.inr (.inr ())))
def YN  :NH:=bO (u3 vO) (pL k0 e0 1 l0 fun d=>by kernel_rfl)
def NG:NF:=bj (u3 vO) NN
abbrev ND:List Sh:=[(.sl ar),(.int .u64)]
abbrev C1:List Sh:=[(.int .u64)]
abbrev Dg:=TL ND->Option (TL C1)
abbrev vV:=Kd 54 ND C1
def Di(L2:NF)(a0:List (Sh.T ar))(a1:Int):Option (TL C1):=
 az (L2 (a0,(a1,((0:Int),())))) fun x0=>
 (match x0 with|.inl x1=>some (x1.1,())|.inr x1=>some ((0:Int),())
 )
def YZ(M2:NH):vV:=⟨u2 (Di M2.L),pD Tryz.func54 24 k0 e0 1 (sS (sC M2 l0)) fun d=>by kernel_rfl⟩
def Dh:vV:=YZ  YN
def vN:Dg:=Dh.F
abbrev vi:Lay:={ T:=[(0,.fz ar),(1,.int .u64),(2,.int .u64),(7,.hd 0 ar),(8,.bool),(9,.int .i64)],h:=[(0,.arr ar 155)],nx:=1 }
abbrev uY:List (Ev.Ex×Lay):=[((.exit 0),{ T:=[(1,.int .u64),(2,.int .u64),(7,.hd 0 ar),(8,.bool)],h:=[(0,.arr ar 155)],nx:=1 })]
abbrev Ni:=TL vi.σs->Option (Out uY)
abbrev Nk:=Ld 0 58 (bL [0] (bw Tryz.f56)) vi uY
def vD(t0:List (Sh.T ar))(t1 t2:Int)(t8:Bool)(t9:Int)(b0:List (Sh.T ar)):Option (TL vi.σs⊕Out uY):=
 br (iL t9 (Int.ofNat (List.length t0)))
 (
  br (Bool.not t8)
  (
   ak (ah t9 (List.length t0))<|
   br (bD true (iE t1 (gt ar t0 t9).1) false)
   (
    ak (room 16 (List.length (ap b0 ((t1,(t2,()))::[]))))<|
    ak (ah t9 (List.length t0))<|
    br (Bool.not (iQ (gt ar t0 t9).1 t1))
    (
     ak (ah t9 (List.length t0))<|
     ak (room 16 (List.length (ap (ap b0 ((t1,(t2,()))::[])) (((gt ar t0 t9).1,((gt ar t0 t9).2.1,()))::[]))))<|
     some (.inl (t0,(t1,(t2,(true,((IntKind.wrap .i64 (t9+(1:Int))),((ap (ap b0 ((t1,(t2,()))::[])) (((gt ar t0 t9).1,((gt ar t0 t9).2.1,()))::[])),()))))))))
    (
     some (.inl (t0,(t1,(t2,(true,((IntKind.wrap .i64 (t9+(1:Int))),((ap b0 ((t1,(t2,()))::[])),())))))))))
   (
    ak (ah t9 (List.length t0))<|
    br (Bool.not (iQ (gt ar t0 t9).1 t1))
    (
     ak (ah t9 (List.length t0))<|
     ak (room 16 (List.length (ap b0 (((gt ar t0 t9).1,((gt ar t0 t9).2.1,()))::[]))))<|
     some (.inl (t0,(t1,(t2,(t8,((IntKind.wrap .i64 (t9+(1:Int))),((ap b0 (((gt ar t0 t9).1,((gt ar t0 t9).2.1,()))::[])),()))))))))
    (
     some (.inl (t0,(t1,(t2,(t8,((IntKind.wrap .i64 (t9+(1:Int))),(b0,()))))))))))
  (
   ak (ah t9 (List.length t0))<|
   br (Bool.not (iQ (gt ar t0 t9).1 t1))
   (
    ak (ah t9 (List.length t0))<|
    ak (room 16 (List.length (ap b0 (((gt ar t0 t9).1,((gt ar t0 t9).2.1,()))::[]))))<|
    some (.inl (t0,(t1,(t2,(t8,((IntKind.wrap .i64 (t9+(1:Int))),((ap b0 (((gt ar t0 t9).1,((gt ar t0 t9).2.1,()))::[])),()))))))))
   (
    some (.inl (t0,(t1,(t2,(t8,((IntKind.wrap .i64 (t9+(1:Int))),(b0,()))))))))))
 (
  some (.inr (t1,(t2,(t8,(b0,()))))))
def Yx  :Nk:=bO (u6 vD) (pL k0 e0 1 l0 fun d=>by kernel_rfl)
def CL:Ni:=bj (u6 vD) NN
abbrev Nh:List Sh:=[(.sl ar),(.int .u64),(.int .u64)]
abbrev CK:List Sh:=[(.sl ar)]
abbrev CY:=TL Nh->Option (TL CK)
abbrev vM:=Kd 56 Nh CK
def C0(L4:Ni)(a0:List (Sh.T ar))(a1 a2:Int):Option (TL CK):=
 az (L4 (a0,(a1,(a2,((iQ a2 (0:Int)),((0:Int),([],()))))))) fun x0=>
 br (Bool.not x0.2.2.1)
 (
  ak (room 16 (List.length (ap (gJ x0) ((x0.1,(x0.2.1,()))::[]))))<|
  some ((ap (gJ x0) ((x0.1,(x0.2.1,()))::[])),()))
 (
  some (gJ x0,()))
def YM(M4:Nk):vM:=⟨u3 (C0 M4.L),pD Tryz.func56 58 k0 e0 1 (sS (sC M4 l0)) fun d=>by kernel_rfl⟩
def CZ:vM:=YM  Yx
def Nj:CY:=CZ.F
def bo(l:Int)(v:List Bool):Bool:=if l<0 then false else(decide (l % 2=1)) != (decide (0<l / 2)&&(v.getD (l / 2).toNat false))
theorem SP{l:Int}(h:0<=l)(h2:l<9223372036854775808):qn .i64 l 1=l % 2:=by
 obtain⟨n,rfl⟩:=Int.eq_ofNat_of_zero_le h;unfold qn;have e:(BitVec.ofInt (IntKind.i64).bits (n:Int) &&& BitVec.ofInt (IntKind.i64).bits 1).toNat=n % 2:=by
  rw[BitVec.toNat_and,BitVec.toNat_ofInt,BitVec.toNat_ofInt];have e1:(((n:Int) % ((2^(IntKind.i64).bits:Nat):Int)).toNat)=n:=by rw[Int.emod_eq_of_lt (by omega) (by show(n:Int)<((2^64:Nat):Int);omega)];rfl
  rw[e1];show n &&& 1=n % 2;exact Nat.and_one_is_mod n
 rw[e,bR (by omega)];omega
theorem UQ{l:Int}(h:0<=l)(h2:l<9223372036854775808):Ow (l,())=some (decide (l % 2=1),()):=by show DN l=_;unfold DN;rw[SP h h2];rfl
theorem T6{l:Int}(h:0<=l):NX (l,())=some (decide (l % 2=1),()):=by show Dt l=_;unfold Dt;rw[Int.tmod_eq_emod_of_nonneg h];rfl
theorem Uq{l:Int}(h:0<=l)(h2:l<9223372036854775808):nG (l,())=some (l / 2,()):=by show sx l=_;unfold sx;rw[Int.tdiv_eq_ediv_of_nonneg h,bR (by omega)];rfl
theorem O7{v:List Bool}{i:Int}(h:0<=i):gt .bool v i=v.getD i.toNat false:=by unfold gt;rfl
theorem Y9(l:Int)(v:List Bool)(h2:l<9223372036854775808):uM (l,(v,()))=some (bo l v,()):=by
 show DL Ow sv l v=_;unfold DL bo;by_cases h:l<0
 .rw[if_pos h];exact ao (ax h) rfl
 .rw[if_neg h];refine ag (aj h) (aE (Ks l) (aE (UQ (by omega) h2) ?_));have e:∀a b c:Bool,b=c->(some (Bool.not (@decide _ (Bool.decEq a b)),()):Option (TL wc))=some (a != c,()):=by rintro a b _ rfl;cases a<;>cases b<;>rfl
  by_cases h0:0<l / 2
  .refine ao (ax h0) ?_;by_cases h1:l / 2<(v.length:Int)
   .refine ao (ax h1) (ai (aP ⟨by omega,h1⟩) (e _ _ _ ?_));rw[bF h0];show gt .bool v (l / 2)=_;rw[O7 (by omega)];rfl
   .refine ag (aj h1) (e _ _ _ ?_);rw[bF h0,dP,List.getElem?_eq_none (by omega)];rfl
  .refine ag (aj h0) (e _ _ _ ?_);rw[cw h0];rfl
theorem ng(l:Int)(v:List Bool)(h2:l<9223372036854775808):gr (l,(v,()))=some (bo l v,()):=by
 show Dl NX nG l v=_;unfold Dl bo;by_cases h:l<0
 .rw[if_pos h];exact ao (ax h) rfl
 .rw[if_neg h];have hn:=T6 (l:=l) (by omega);refine ag (aj h) (aE (Uq (by omega) h2) ?_);have e:∀a b c:Bool,b=c->(some (Bool.not (@decide _ (Bool.decEq b a)),()):Option (TL vQ))=some (a != c,()):=by rintro a b _ rfl;cases a<;>cases b<;>rfl
  by_cases h0:0<l / 2
  .refine ao (ax h0) ?_;by_cases h1:l / 2<(v.length:Int)
   .refine ao (ax h1) (ai (aP ⟨by omega,h1⟩) (aE hn (e _ _ _ ?_)));rw[bF h0];show gt .bool v (l / 2)=_;rw[O7 (by omega)];rfl
   .refine ag (aj h1) (aE hn (e _ _ _ ?_));rw[bF h0,dP,List.getElem?_eq_none (by omega)];rfl
  .refine ag (aj h0) (aE hn (e _ _ _ ?_));rw[cw h0];rfl
def cH:List Bool->Nat
 |[]=>0|b::l=>(if b then 1 else 0)+2*cH l
theorem Oz(l:List Bool)(b:Bool):cH (l++[b])=cH l+(if b then 2^l.length else 0):=by
 induction l with
 |nil=>cases b<;>rfl
 |cons c l ih=>rw[List.cons_append,cH,ih,cH,cx,Nat.pow_succ];cases b<;>simp<;>omega
theorem DP(l:List Bool):cH l<2^l.length:=by induction l with|nil=>decide|cons c l ih=>rw[cH,cx,Nat.pow_succ];split<;>omega
theorem Ak{i:Nat}(h:i<64):(2:Nat)^i<=9223372036854775808:=by have:(2:Nat)^i<=2^63:=Nat.pow_le_pow_right (by decide) (by omega);exact this
theorem TF{w i:Nat}(hi:i<64)(hw:w<2^i):rE .u64 (w:Int) (IntKind.wrap .u64 ((1:Int)*(HPow.hPow (2:Int) (Min.min (Int.toNat (i:Int)) 64))))=((w+2^i:Nat):Int):=by
 have hp:=Ak hi;have e1:((1:Int)*(HPow.hPow (2:Int) (Min.min (Int.toNat (i:Int)) 64)))=((2^i:Nat):Int):=by rw[Int.one_mul,Int.toNat_natCast,Nat.min_eq_left (by omega)];simp
 rw[e1,o7 (by omega)];unfold rE;have e2:∀n:Nat,n<18446744073709551616->(BitVec.ofInt (IntKind.u64).bits (n:Int)).toNat=n:=by intro n hn;rw[BitVec.toNat_ofInt,Int.emod_eq_of_lt (by omega) (by show(n:Int)<((2^64:Nat):Int);omega)];rfl
 have e3:w ||| 2^i=w+2^i:=by rw[Nat.or_comm,Nat.add_comm];have:=Nat.two_pow_add_eq_or_of_lt hw 1;rw[Nat.mul_one]at this;exact this.symm
 rw[BitVec.toNat_or,e2 _ (by omega),e2 _ (by omega),e3,o7 (by omega)]
theorem Ox(l:List Int)(v:List Bool)(hl:l.length<=64)(hr:∀x∈l,x<9223372036854775808):vX (l,(v,()))=some ((cH (l.map (bo · v)):Int),()):=by
 show DG uM wa l v=_;unfold DG;have es:fV (iL (64:Int) (Int.ofNat (List.length l))) (64:Int) (Int.ofNat (List.length l))=(l.length:Int):=by have q:iL (64:Int) (Int.ofNat (List.length l))=false:=aj (by show ¬(64:Int)<(l.length:Int);omega);rw[q];rfl
 have et:List.take (Int.toNat (fV (iL (64:Int) (Int.ofNat (List.length l))) (64:Int) (Int.ofNat (List.length l)))) l=l:=by rw[es,Int.toNat_natCast,dC]
 have eL:wa (v,((0:Int),(l,((l.length:Int),((0:Int),())))))=some ((cH (l.map (bo · v)):Int),()):=by
  unfold wa;delta u5;refine dg (fun k:Nat=>(v,((cH ((l.take k).map (bo · v)):Int),(l,((l.length:Int),((k:Int),())))))) l.length rfl ?_ ?_ (bM (by omega))
  .intro k hk;have hx:=bu hk;have hm:=hr _ (List.getElem_mem hk)
   try dsimp only
   unfold wb;have e1:=Y9 l[k] v hm;have e1':uM ((gt (.int .i64) l (k:Int)),(v,()))=some (bo l[k] v,()):=by rw[bn (σ:=.int .i64) hx];exact e1
   have ht:(l.take (k+1)).map (bo · v)=(l.take k).map (bo · v)++[bo l[k] v]:=by rw[Pl.cN hx,dN];rfl
   have hk2:((l.take k).map (bo · v)).length=k:=by rw[aK,df];omega
   have hw:=DP ((l.take k).map (bo · v));rw[hk2]at hw;have e:∀(a b p q:Int),a=b->p=q->(some (.inl (v,(a,(l,((l.length:Int),(p,())))))):Option (TL v8.σs⊕Out v7))=some (.inl (v,(b,(l,((l.length:Int),(q,())))))):=by rintro _ _ _ _ rfl rfl;rfl
   refine ao (ax (by omega)) (ai (aP ⟨by omega,by omega⟩) (aE e1' ?_));rw[ht,Oz,hk2];cases hb:bo l[k] v
   .refine ag rfl (e _ _ _ _ ?_ (dD (by omega) (by omega)));rfl
   .refine ao rfl (ai (ax (by omega)) (e _ _ _ _ (TF (by omega) hw) (dD (by omega) (by omega))))
  .try dsimp only
   unfold wb;rw[dC];exact ag (aj (by omega)) rfl
 refine ai ?_ ?_
 .rw[es];show both (decide _) (decide _)=true;rw[bF (by omega),bF (by show(l.length:Int)<=(l.length:Int);omega)];rfl
 .have eT:∀L:List Int,L=l->wa (v,((0:Int),(L,((Int.ofNat (List.length L)),((0:Int),())))))=some ((cH (l.map (bo · v)):Int),()):=by rintro _ rfl;exact eL
  exact aE (eT _ et) rfl
theorem ZJ(l:List Bool)(hl:l.length<=64):NK (l,())=some ((cH l:Int),()):=by
 have eL:C3 (l,((0:Int),((1:Int),((0:Int),()))))=some ((cH l:Int),()):=by
  unfold C3;delta u4;refine dg (fun k:Nat=>(l,((cH (l.take k):Int),((if k=64 then(0:Int)else((2^k:Nat):Int)),((k:Int),()))))) l.length rfl ?_ ?_ (bM (by omega))
  .intro k hk;have hx:=bu hk;have ht:l.take (k+1)=l.take k++[l[k]]:=Pl.cN hx;have hk2:(l.take k).length=k:=by rw[df];omega
   have hw:=DP (l.take k);rw[hk2]at hw;have hp:=Ak (i:=k) (by omega);have e:∀(a b c c' p q:Int),a=b->c=c'->p=q->(some (.inl (l,(a,(c,(p,()))))):Option (TL vu.σs⊕Out vj))=some (.inl (l,(b,(c',(q,()))))):=by rintro _ _ _ _ _ _ rfl rfl rfl;rfl
   try dsimp only
   rw[if_neg (show ¬k=64 by omega)];unfold vP;refine ao (ax (show(k:Int)<(l.length:Int) by omega)) (ao (ax (show(k:Int)<64 by omega)) (ai (aP ⟨by omega,by omega⟩) ?_));have g:gt .bool l (k:Int)=l[k]:=bn (σ:=.bool) hx;have e2:IntKind.wrap .u64 (((2^k:Nat):Int)*(2:Int))=(if k+1=64 then(0:Int)else((2^(k+1):Nat):Int)):=by
    by_cases q:k+1=64
    .have:k=63:=by omega
     subst this;rfl
    .rw[if_neg q];have:=Ak (i:=k+1) (by omega);rw[Nat.pow_succ]at this |-;rw[o7 (by omega)];omega
   rw[ht,Oz,hk2,g];cases l[k]
   .exact ag rfl (e _ _ _ _ _ _ rfl e2 (dD (by omega) (by omega)))
   .exact ao rfl (e _ _ _ _ _ _ (by rw[o7 (by omega)];simp) e2 (dD (by omega) (by omega)))
  .try dsimp only
   unfold vP;rw[dC];exact ag (aj (show ¬(l.length:Int)<(l.length:Int) by omega)) rfl
 show Dj C3 l=_;unfold Dj;exact aE eL rfl
theorem Ap(P:List Bool)(z:Bool)(h:P.length<=10000000):room 1 (List.length (P++(z::[])))=true:=by rw[bA,cx,List.length_nil];exact mX (by omega) (by omega)
theorem DK(l:List Int)(v:List Bool)(hl:l.length<=64)(hr:∀x∈l,x<9223372036854775808):nf (l,(v,()))=some ((cH (l.map (bo · v)):Int),()):=by
 have eL:Cq (l,(v,((0:Int),([],()))))=some (l.map (bo · v),()):=by
  unfold Cq;delta u4;refine dg (fun k:Nat=>(l,(v,((k:Int),((l.take k).map (bo · v),()))))) l.length rfl ?_ ?_ (bM (by omega))
  .intro k hk;have hx:=bu hk;have hm:=hr _ (List.getElem_mem hk)
   try dsimp only
   unfold vv;have e1:=ng l[k] v hm;have e1':gr ((gt (.int .i64) l (k:Int)),(v,()))=some (bo l[k] v,()):=by rw[bn (σ:=.int .i64) hx];exact e1
   have ht:(l.take (k+1)).map (bo · v)=(l.take k).map (bo · v)++[bo l[k] v]:=by rw[Pl.cN hx,dN];rfl
   have e:∀(a b:List Bool) (p q:Int),a=b->p=q->(some (.inl (l,(v,(p,(a,()))))):Option (TL uZ.σs⊕Out uT))=some (.inl (l,(v,(q,(b,()))))):=by rintro _ _ _ _ rfl rfl;rfl
   exact ao (ax (show(k:Int)<(l.length:Int) by omega)) (ai (aP ⟨by omega,by omega⟩) (aE e1' (ai (Ap _ _ (by rw[aK,df];omega)) (e _ _ _ _ ht.symm (dD (by omega) (by omega))))))
  .try dsimp only
   unfold vv;rw[dC];exact ag (aj (show ¬(l.length:Int)<(l.length:Int) by omega)) rfl
 show CM NK gr Cq l v=_;unfold CM;exact aE eL (aE (ZJ _ (by rw[aK];exact hl)) rfl)
def ib(w n:Nat):List Bool:=(List.range n).map fun i=>decide (w / 2^i % 2=1)
theorem MI(w n:Nat):(ib w n).length=n:=by simp[ib]
theorem Zc(w n:Nat):ib w (n+1)=ib w n++[decide (w / 2^n % 2=1)]:=by unfold ib;rw[List.range_succ,dN];rfl
theorem Ui(q:Nat):(iQ (Int.tmod (q:Int) (2:Int)) (1:Int))=decide (q % 2=1):=by rw[Int.tmod_eq_emod_of_nonneg (by omega)];show decide _=decide _;congr 1;apply propext;omega
theorem Uh{q:Nat}(h:q<18446744073709551616):IntKind.wrap .u64 (Int.tdiv (q:Int) (2:Int))=((q / 2:Nat):Int):=by rw[Int.tdiv_eq_ediv_of_nonneg (by omega),o7 (by omega)];omega
theorem ZH(w n:Nat)(hn:n<=64)(hw:w<18446744073709551616):vE ((w:Int),((n:Int),()))=some (ib w n,()):=by
 have eL:CO ((w:Int),((n:Int),((0:Int),([],()))))=some (ib w n,()):=by
  unfold CO;delta u4;refine dg (fun k:Nat=>(((w / 2^k:Nat):Int),((n:Int),((k:Int),(ib w k,()))))) n (by rw[Nat.pow_zero,Nat.div_one];rfl) ?_ ?_ (bM (by omega))
  .intro k hk
   try dsimp only
   unfold vF;have hlt:w / 2^k<=w:=Nat.div_le_self _ _;have hb:(iQ (Int.tmod ((w / 2^k:Nat):Int) (2:Int)) (1:Int))=decide (w / 2^k % 2=1):=by exact Ui _
   have hd:IntKind.wrap .u64 (Int.tdiv ((w / 2^k:Nat):Int) (2:Int))=((w / 2^(k+1):Nat):Int):=by rw[Nat.pow_succ,<-Nat.div_div_eq_div_mul];exact Uh (by omega)
   have e:∀(a b:List Bool) (c d p q:Int),a=b->c=d->p=q->(some (.inl (c,((n:Int),(p,(a,()))))):Option (TL vk.σs⊕Out u0))=some (.inl (d,((n:Int),(q,(b,()))))):=by rintro _ _ _ _ _ _ rfl rfl rfl;rfl
   refine ao (ax (show(k:Int)<(n:Int) by omega)) (ao (ax (show(k:Int)<64 by omega)) (ai (Ap _ _ (by rw[MI];omega)) (e _ _ _ _ _ _ ?_ hd (dD (by omega) (by omega)))));rw[Zc];exact congrArg (fun b:Bool=>ib w k++[b]) hb
  .try dsimp only
   unfold vF;exact ag (aj (by omega)) rfl
 show C6 CO (w:Int) (n:Int)=_;unfold C6;exact aE eL rfl
abbrev aV:=Int×Int×Unit
def nE(L:List aV):Prop:=L.Pairwise (fun p q=>p.1<q.1)
def rd(M:List aV)(k:Int):Int:=match M with|[]=>0|p::M=>match decide (p.1=k)with|true=>p.2.1|false=>rd M k
def ic(k v:Int)(M:List aV):List aV:=match M with|[]=>[(k,v,())]|p::M=>match decide (k<p.1)with|true=>(k,v,())::p::M|false=>match decide (p.1=k)with|true=>(k,v,())::M|false=>p::ic k v M
def ju(k:Int)(M:List aV):List aV:=match M with|[]=>[]|p::M=>match decide (p.1=k)with|true=>M|false=>p::ju k M
theorem OW(k v:Int):∀(M:List aV),@fE (.int .u64) k v M=ic k v M
 |[]=>rfl|p::M=>congrArg (fun z:List aV=>match decide (k<p.1)with|true=>(k,v,())::p::M|false=>match decide (p.1=k)with|true=>(k,v,())::M|false=>p::z) (OW k v M)
theorem OX(k:Int):∀(M:List aV),@gB (.int .u64) k M=ju k M
 |[]=>rfl|p::M=>congrArg (fun z:List aV=>match decide (p.1=k)with|true=>M|false=>p::z) (OX k M)
def wr(L:List aV)(a w:Int):List aV:=if w=0 then ju a L else ic a w L
theorem Vb{L:List aV}{a w:Int}(h:nE L):nE (wr L a w):=by
 unfold wr;split
 .exact OX a L▸Kr (σ:=.int .u64) (k:=a) h
 .exact OW a w L▸GM (σ:=.int .u64) (k:=a) (v:=w) h
theorem OT(p:aV)(M:List aV)(a:Int):rd (p::M) a=if p.1=a then p.2.1 else rd M a:=by
 rw[rd];by_cases q:p.1=a
 .rw[bF q,if_pos q]
 .rw[cw q,if_neg q]
theorem rA(p:aV)(M:List aV)(a:Int):ju a (p::M)=if p.1=a then M else p::ju a M:=by
 rw[ju];by_cases q:p.1=a
 .rw[bF q,if_pos q]
 .rw[cw q,if_neg q]
theorem oO(p:aV)(M:List aV)(a w:Int):ic a w (p::M)=if a<p.1 then(a,w,())::p::M else if p.1=a then(a,w,())::M else p::ic a w M:=by
 rw[ic];by_cases q:a<p.1
 .rw[bF q,if_pos q]
 .rw[cw q,if_neg q];by_cases r:p.1=a
  .rw[bF r,if_pos r]
  .rw[cw r,if_neg r]
theorem DT(a:Int):∀L:List aV,(ju a L).length<=L.length
 |[]=>Nat.le_refl _|p::M=>by rw[rA];have:=DT a M;split<;>simp only[cx]<;>omega
theorem DS(a w:Int):∀L:List aV,(ic a w L).length<=L.length+1
 |[]=>Nat.le_refl _|p::M=>by
  rw[oO];have:=DS a w M;split
  .simp only[cx];omega
  .split<;>simp only[cx]<;>omega
theorem Va(L:List aV)(a w:Int):(wr L a w).length<=L.length+1:=by unfold wr;have:=DT a L;have:=DS a w L;split<;>omega
theorem OO{a w:Int}{B:List aV}:∀{A:List aV},(∃p∈A,a<=p.1)->ic a w (A++B)=ic a w A++B
 |[],h=>by obtain⟨p,hp,_⟩:=h;cases hp
 |q::A,h=>by
  rw[List.cons_append,oO,oO];by_cases r:a<q.1
  .rw[if_pos r,if_pos r];rfl
  .rw[if_neg r,if_neg r];by_cases s:q.1=a
   .rw[if_pos s,if_pos s];rfl
   .rw[if_neg s,if_neg s,OO (A:=A)]
    .rfl
    .obtain⟨p,hp,h2⟩:=h;rcases List.mem_cons.1 hp with rfl|hp
     .omega
     .exact⟨p,hp,h2⟩
theorem DR{a w:Int}{B:List aV}:∀{A:List aV},(∀p∈A,p.1<a)->ic a w (A++B)=A++ic a w B
 |[],h=>rfl|q::A,h=>by have:=h q (by simp);rw[List.cons_append,oO,if_neg (by omega),if_neg (by omega),DR (A:=A) (fun p hp=>h p (by simp[hp]))];rfl
theorem OJ{a:Int}{x:aV}:∀{A:List aV},nE (A++[x])->ju a (A++[x])=ju a A++(if x.1=a then[]else[x])
 |[],h=>by rw[List.nil_append,rA];split<;>rfl|q::A,h=>by
  have h2:=List.pairwise_cons.1 h;have h1:=h2.1 x (by simp);rw[List.cons_append,rA,rA];by_cases r:q.1=a
  .rw[if_pos r,if_pos r,if_neg (by omega)]
  .rw[if_neg r,if_neg r,OJ h2.2];rfl
def iY(a w:Int)(A:List aV):Bool:=decide (w=0)||A.any (fun p=>decide (a<=p.1))
def gV(a w:Int)(A:List aV):List aV:=if w=0 then ju a A else if A.any (fun p=>decide (a<=p.1))=true then ic a w A else A
theorem OL(a w:Int)(A:List aV):(gV a w A).length<=A.length+1:=by
 unfold gV;have:=DT a A;have:=DS a w A;split
 .omega
 .split<;>omega
theorem ZM(L:List aV)(a:Int)(hl:L.length<=100000):vN (L,(a,()))=some (rd L a,()):=by
 have hL:=uF (B:=fun d=>vO   d.1 d.2.1 d.2.2.1)
  (I:=fun d:List aV×Int×Int×Unit=>∃k:Nat,d=(L,(a,((k:Int),())))/\k<=L.length/\rd L a=rd (L.drop k) a)
  (Q:=fun o:Out rh=>o=.inl (rd L a,())\/(o=.inr ()/\rd L a=0))
  (μ:=fun d=>L.length-d.2.2.1.toNat) ?_ NN (L,(a,((0:Int),()))) ⟨0,rfl,by omega,by rw[List.drop_zero]⟩ (bM (by show L.length-_<=_;omega))
 .obtain⟨o,ho,hq⟩:=hL;have ho':NG (L,(a,((0:Int),())))=some o:=ho;show Di NG L a=_;unfold Di;rcases hq with rfl|⟨rfl,hz⟩
  .exact aE ho' rfl
  .rw[hz];exact aE ho' rfl
 .rintro _ ⟨k,rfl,hk,hr⟩
  try dsimp only
  unfold vO;by_cases q:k<L.length
  .have hx:=bu q;have hg:gt ar L (k:Int)=L[k]:=bn (σ:=ar) hx;have hi:ah (k:Int) (List.length L)=true:=aP ⟨by omega,by omega⟩;rw[Yc q,OT]at hr;by_cases r:L[k].1=a
   .left;rw[if_pos r]at hr;refine⟨_,ao (ax (show(k:Int)<(L.length:Int) by omega)) (ai hi (ao (ax (by rw[hg];exact r)) (ai hi rfl))),.inl ?_⟩;rw[hg,<-hr]
   .right;rw[if_neg r]at hr;have e:∀p q:Int,p=q->(some (.inl (L,(a,(p,())))):Option (TL vt.σs⊕Out rh))=some (.inl (L,(a,(q,())))):=by rintro _ _ rfl;rfl
    refine⟨(L,(a,(((k+1:Nat):Int),()))),ao (ax (show(k:Int)<(L.length:Int) by omega)) (ai hi (ag (aj (by rw[hg];exact r)) (e _ _ (dD (by omega) (by omega))))),⟨k+1,rfl,by omega,hr⟩,?_⟩;show L.length-(((k+1:Nat):Int)).toNat<L.length-((k:Int)).toNat;omega
  .left;refine⟨_,ag (aj (show ¬(k:Int)<(L.length:Int) by omega)) rfl,.inr ⟨rfl,?_⟩⟩;rw[hr,List.drop_eq_nil_of_le (by omega)];rfl
theorem wj(P:List aV)(z:aV)(h:P.length<=10000000):room 16 (List.length (P++(z::[])))=true:=by rw[bA,cx,List.length_nil];exact mX (by omega) (by omega)
theorem rB{a:Int}{A:List aV}:A.any (fun p=>decide (a<=p.1))=true↔∃p∈A,a<=p.1:=by simp
theorem ZI{a w:Int}{A:List aV}{x:aV}(h:nE (A++[x])) :
  iY a w (A++[x])=(iY a w A||decide (a<=x.1)) /\
  gV a w (A++[x])=(if iY a w A=false/\a<=x.1 then gV a w A++[(a,w,())]else gV a w A)++(if x.1=a then[]else[x]):=by
 have hlt:∀p∈A,p.1<x.1:=fun p hp=>(List.pairwise_append.1 h).2.2 p hp x (by simp);unfold iY gV;by_cases h0:w=0
 .rw[bF h0,if_pos h0,if_pos h0];refine⟨rfl,?_⟩;rw[if_neg (by simp)];exact OJ h
 .rw[cw h0,if_neg h0,if_neg h0];refine⟨by simp,?_⟩;by_cases h1:A.any (fun p=>decide (a<=p.1))=true
  .have h2:(A++[x]).any (fun p=>decide (a<=p.1))=true:=by rw[List.any_append,h1];rfl
   rw[if_pos h2,if_pos h1,if_neg (by rw[h1];simp),OO (rB.1 h1)];obtain⟨p,hp,hpa⟩:=rB.1 h1;have:=hlt p hp;rw[if_neg (by omega)]
  .have hf:A.any (fun p=>decide (a<=p.1))=false:=by simpa using h1
   have hA:∀p∈A,p.1<a:=fun p hp=>by
    rcases Classical.em (p.1<a)with q|q
    .exact q
    .exact absurd (rB.2 ⟨p,hp,by omega⟩) h1
   rw[if_neg h1,hf];by_cases hx:a<=x.1
   .have h2:(A++[x]).any (fun p=>decide (a<=p.1))=true:=rB.2 ⟨x,by simp,hx⟩;rw[if_pos h2,if_pos ⟨rfl,hx⟩,DR hA,oO];by_cases q:a<x.1
    .rw[if_pos q,if_neg (by omega)];simp
    .rw[if_neg q,if_pos (by omega),if_pos (by omega)];simp[ic]
   .have h2:¬(A++[x]).any (fun p=>decide (a<=p.1))=true:=by rw[List.any_append,hf];simp;omega
    rw[if_neg h2,if_neg (by simp[hx]),if_neg (by omega)]
theorem Ut{L:List aV}{a w:Int}:wr L a w=if iY a w L=true then gV a w L else gV a w L++[(a,w,())]:=by
 unfold wr iY gV;by_cases h0:w=0
 .rw[bF h0,if_pos h0,if_pos h0];rfl
 .rw[cw h0,if_neg h0,if_neg h0];by_cases h1:L.any (fun p=>decide (a<=p.1))=true
  .rw[if_pos h1,h1];rfl
  .have hf:L.any (fun p=>decide (a<=p.1))=false:=by simpa using h1
   rw[if_neg h1,hf];have hA:∀p∈L,p.1<a:=fun p hp=>by
    rcases Classical.em (p.1<a)with q|q
    .exact q
    .exact absurd (rB.2 ⟨p,hp,by omega⟩) h1
   have:=DR (a:=a) (w:=w) (B:=[]) hA;rw[fR]at this;rw[this];rfl
theorem ZB(L:List aV)(a w:Int)(hl:L.length<=100000)(hs:nE L):Nj (L,(a,(w,())))=some (wr L a w,()):=by
 have eL:CL (L,(a,(w,((iQ w (0:Int)),((0:Int),([],()))))))=some (a,(w,(iY a w L,(gV a w L,())))):=by
  unfold CL;delta u6;refine dg (fun k:Nat=>(L,(a,(w,(iY a w (L.take k),((k:Int),(gV a w (L.take k),()))))))) L.length ?_ ?_ ?_ (bM (by omega))
  .have e1:iY a w (L.take 0)=iQ w (0:Int):=by unfold iY;rw[List.take_zero];simp
   have e2:gV a w (L.take 0)=[]:=by unfold gV;rw[List.take_zero];split<;>rfl
   rw[e1,e2];rfl
  .intro k hk;have hx:=bu hk;have hg:gt ar L (k:Int)=L[k]:=bn (σ:=ar) hx;have hi:ah (k:Int) (List.length L)=true:=aP ⟨by omega,by omega⟩;have ht:L.take (k+1)=L.take k++[L[k]]:=Pl.cN hx;have hsk:nE (L.take k++[L[k]]):=by rw[<-ht];exact List.Pairwise.sublist (List.take_sublist _ _) hs
   obtain⟨p1,p2⟩:=ZI (a:=a) (w:=w) hsk;rw[<-ht]at p1 p2;have hlen:=OL a w (L.take k);have hlk:(L.take k).length<=100000:=by rw[df];omega
   have e:∀(b b':Bool) (p q:Int) (A B:List aV),b=b'->p=q->A=B->(some (.inl (L,(a,(w,(b,(p,(A,()))))))):Option (TL vi.σs⊕Out uY))=some (.inl (L,(a,(w,(b',(q,(B,()))))))):=by rintro _ _ _ _ _ _ rfl rfl rfl;rfl
   have hk1:IntKind.wrap .i64 ((k:Int)+(1:Int))=((k+1:Nat):Int):=dD (by omega) (by omega);have ga:(gt ar L (k:Int)).1=L[k].1:=by rw[hg]
   have gx:(((gt ar L (k:Int)).1,((gt ar L (k:Int)).2.1,())):aV)=L[k]:=by rw[hg]
   try dsimp only
   unfold vD;refine ao (ax (show(k:Int)<(L.length:Int) by omega)) ?_;generalize iY a w (L.take k)=b at p1 p2;generalize gV a w (L.take k)=O at p2 hlen;rw[p1];have r1:=wj O (a,(w,())) (by omega);have r3:∀z,room 16 (List.length (O++(z::[])))=true:=fun z=>wj O z (by omega);have r2:∀z,room 16 (List.length ((O++((a,(w,()))::[]))++(z::[])))=true:=fun z=>wj _ z (by rw[bA,cx,List.length_nil];omega);cases b with
   |false=>
    refine ao rfl (ai hi ?_);by_cases q:a<=L[k].1
    .have q':(iE a (gt ar L (k:Int)).1)=true:=ax (by rw[ga];exact q);rw[if_pos ⟨rfl,q⟩]at p2;refine ao (by rw[q'];rfl) (ai r1 (ai hi ?_));by_cases r:L[k].1=a
     .have r':(iQ (gt ar L (k:Int)).1 a)=true:=ax (by rw[ga];exact r);rw[if_pos r,fR]at p2;exact ag (by rw[r'];rfl) (e _ _ _ _ _ _ (by rw[bF q];rfl) hk1 p2.symm)
     .have r':(iQ (gt ar L (k:Int)).1 a)=false:=aj (by rw[ga];exact r);rw[if_neg r]at p2;exact ao (by rw[r'];rfl) (ai hi (ai (r2 _) (e _ _ _ _ _ _ (by rw[bF q];rfl) hk1 ((congrArg (fun z:aV=>(O++[(a,w,())])++[z]) gx).trans p2.symm))))
    .have q':(iE a (gt ar L (k:Int)).1)=false:=aj (by rw[ga];exact q);rw[if_neg (by simp[q])]at p2;refine ag (by rw[q'];rfl) (ai hi ?_);by_cases r:L[k].1=a
     .omega
     .have r':(iQ (gt ar L (k:Int)).1 a)=false:=aj (by rw[ga];exact r);rw[if_neg r]at p2;exact ao (by rw[r'];rfl) (ai hi (ai (r3 _) (e _ _ _ _ _ _ (by rw[cw q];rfl) hk1 ((congrArg (fun z:aV=>O++[z]) gx).trans p2.symm))))
   |true=>
    rw[if_neg (by simp)]at p2;refine ag rfl (ai hi ?_);by_cases r:L[k].1=a
    .have r':(iQ (gt ar L (k:Int)).1 a)=true:=ax (by rw[ga];exact r);rw[if_pos r,fR]at p2;exact ag (by rw[r'];rfl) (e _ _ _ _ _ _ rfl hk1 p2.symm)
    .have r':(iQ (gt ar L (k:Int)).1 a)=false:=aj (by rw[ga];exact r);rw[if_neg r]at p2;exact ao (by rw[r'];rfl) (ai hi (ai (r3 _) (e _ _ _ _ _ _ rfl hk1 ((congrArg (fun z:aV=>O++[z]) gx).trans p2.symm))))
  .try dsimp only
   unfold vD;rw[dC];exact ag (aj (show ¬(L.length:Int)<(L.length:Int) by omega)) rfl
 have hlen:=OL a w L;have r1:=wj (gV a w L) (a,(w,())) (by omega);show C0 CL L a w=_;unfold C0;refine aE eL ?_;have hw:=Ut (L:=L) (a:=a) (w:=w);cases hb:iY a w L with|false=>rw[hb,if_neg (by simp)]at hw;rw[hw];exact ao rfl (ai r1 rfl)|true=>rw[hb,if_pos rfl]at hw;rw[hw];exact ag rfl rfl
