import Derived.Test.YtmkbdfidnfmgmaaGreatWCi
set_option linter.all false
section
namespace Go.Proofs.YtmkbdfidnfmgmaaGreat.V
open Go Go.RowKit
set_option maxRecDepth 1000000
abbrev BB:ai:=⟨[(0,.fz .I),(1,.fz .I),(12,.I),(13,.I)],[],0⟩
abbrev B8:List LA:=[.I,.fz .I,.fz af,.fz .I,.fz .I,.fz .I,.fz ah,.fz af,.fz .I,.fz .I,.fz .I]
abbrev KD:List (Nat×LO):=[(0,.cells fR 27),(1,.cells B8 46),(2,.cells [.fz .bool,.fz (.sl bk),.fz (.sl .bool),.I] 55),(3,.cells [.hd 4 .bool,.hd 5 (.sl bk),.bt,.I] 55),(4,.arr .bool 4),(5,.arr (.sl bk) 76)]
abbrev xO:List (Nat×LO):=[(0,.cells [.func 157 [] []] 227),(1,.cells [.func 158 [] []] 228)]
abbrev Ve:List (Nat×LO):=[(0,.cells fR 27),(1,.cells B8 46),(2,.cells [.hd 3 .bool,.hd 4 (.sl bk),.hd 5 (.sl .bool),.I] 55),(3,.arr .bool 4),(4,.arr (.sl bk) 76),(5,.arr (.sl .bool) 28),(6,.arr .bool 4)]
abbrev vt:List (Nat×LO):=[(0,.cells B8 46)]
abbrev Vf:ai:=⟨[(3,.ptr 0 0),(4,.ptr 1 0),(5,.ptr 2 0),(6,.ptr 3 0)],KD,6⟩
abbrev xP:ai:=⟨[],[],0⟩
abbrev Vg:ai:=⟨[(0,.fz (.sl .bool)),(1,.func 67 [] [.ptr 0 0])],vt,1⟩
abbrev Vh:ai:=⟨[(0,.fz af),(1,.fz af),(12,.I),(13,.I)],[],0⟩
abbrev BA:List (Ev.Ex×ai):=[(.ret,⟨[(4,.bool)],[],0⟩),((.exit 0),xP)]
abbrev UP:=be BB BA
abbrev UN:=Ld 0 26 (cj [0] (bu Tryz.f124)) BB BA
def BE(t0 t1:jp)(t12 t13:Int):am BB BA:=
 br (iL t13 t12)
 (
  au (aw t13 t0.length)<|
  au (aw t13 t1.length)<|
  br (Bool.not (iQ (gt .I t0 t13) (gt .I t1 t13)))
  (
   atZ (.inl (false,())))
  (
   atY (t0,t1,t12,(qr (t13+(1:Int))),())))
 (
  atZ (.inr ()))
def af5  :UN:=cu (u4 BE) (pL k0 e0 1 l0 fun d=>atP)
def UO:UP:=bp (u4 BE) NN
abbrev UQ:List Sh:=[(.sl .I),(.sl .I)]
abbrev Ke:List Sh:=[.bool]
abbrev xJ:=TL UQ->Option (TL Ke)
abbrev vp:=Kd 124 UQ Ke
def af6(L4:UP)(a0 a1:jp):Option (TL Ke):=
 br (Bool.not (iQ (Int.ofNat a0.length) (Int.ofNat a1.length)))
 (
  some (false,()))
 (
  az (L4 (a0,a1,(Int.ofNat a0.length),(0:Int),())) fun x0=>
  (match x0 with|.inl x1=>some (x1.1,())|.inr x1=>some (true,())
  ))
def af7(M4:UN):vp:=⟨u2 (af6 M4.L),pD Tryz.func124 26 k0 e0 1 (sS (sC M4 l0)) fun d=>atP⟩
def xI:vp:=af7  af5
def af4:xJ:=xI.F
abbrev WM:List Sh:=[cF,cF]
abbrev LF:List Sh:=[.bool]
abbrev LS:=TL WM->Option (TL LF)
abbrev Dv:=Kd 157 WM LF
def ahd(F0:xJ)(a0 a1:Sh.T cF):Option (TL LF):=
 br (iQ a0.1 a1.1)
 (
  az (F0 (a0.2.1,a1.2.1,())) fun x0=>
  some ((bP true x0.1 false),()))
 (
  some (false,()))
def ahe(c0:vp) :Dv:=⟨u2 (ahd c0.F),pD Tryz.func157 17 (kD c0 k0) e0 1 (sS l0) fun d=>atP⟩
def LQ:Dv:=ahe xI
def WL:LS:=LQ.F
abbrev WO:List Sh:=[bD,bD]
abbrev LG:List Sh:=[.bool]
abbrev LV:=TL WO->Option (TL LG)
abbrev Dw:=Kd 158 WO LG
def ahf(F0:xJ)(a0 a1:Sh.T bD):Option (TL LG):=
 br (iQ a0.1 a1.1)
 (
  az (F0 (a0.2.1,a1.2.1,())) fun x0=>
  br (bP true x0.1 false)
  (
   az (F0 (a0.2.2.1,a1.2.2.1,())) fun x1=>
   some ((bP true x1.1 false),()))
  (
   some (false,())))
 (
  some (false,()))
def ahg(c0:vp) :Dw:=⟨u2 (ahf c0.F),pD Tryz.func158 24 (kD c0 k0) e0 1 (sS l0) fun d=>atP⟩
def LU:Dw:=ahg xI
def WN:LV:=LU.F
abbrev Br:ai:=Vh
abbrev Bq:List (Ev.Ex×ai):=[(.ret,⟨[(4,.bool)],[],0⟩),((.exit 0),xP)]
abbrev Ur:=be Br Bq
abbrev Up:=Ld 0 26 (cj [0] (bu Tryz.f162)) Br Bq
def Bu(t0 t1:bv)(t12 t13:Int):am Br Bq:=
 br (iL t13 t12)
 (
  au (aw t13 t0.length)<|
  au (aw t13 t1.length)<|
  br (Bool.not (both (iQ (gt af t0 t13).1 (gt af t1 t13).1) (both (iQ (gt af t0 t13).2.1 (gt af t1 t13).2.1) (both (iQ (gt af t0 t13).2.2.1 (gt af t1 t13).2.2.1) true))))
  (
   atZ (.inl (false,())))
  (
   atY (t0,t1,t12,(qr (t13+(1:Int))),())))
 (
  atZ (.inr ()))
def afR  :Up:=cu (u4 Bu) (pL k0 e0 1 l0 fun d=>atP)
def Uq:Ur:=bp (u4 Bu) NN
abbrev Us:List Sh:=[(.sl af),(.sl af)]
abbrev J6:List Sh:=[.bool]
abbrev Uv:=TL Us->Option (TL J6)
abbrev J7:=Kd 162 Us J6
def afS(L4:Ur)(a0 a1:bv):Option (TL J6):=
 br (Bool.not (iQ (Int.ofNat a0.length) (Int.ofNat a1.length)))
 (
  some (false,()))
 (
  az (L4 (a0,a1,(Int.ofNat a0.length),(0:Int),())) fun x0=>
  (match x0 with|.inl x1=>some (x1.1,())|.inr x1=>some (true,())
  ))
def afT(M4:Up):J7:=⟨u2 (afS M4.L),pD Tryz.func162 26 k0 e0 1 (sS (sC M4 l0)) fun d=>atP⟩
def Uu:J7:=afT  afR
def afQ:Uv:=Uu.F
abbrev Bw:ai:=Vh
abbrev Bv:List (Ev.Ex×ai):=[(.ret,⟨[(4,.bool)],[],0⟩),((.exit 0),xP)]
abbrev UF:=be Bw Bv
abbrev UD:=Ld 0 26 (cj [0] (bu Tryz.f163)) Bw Bv
def Bz(t0 t1:bv)(t12 t13:Int):am Bw Bv:=
 br (iL t13 t12)
 (
  au (aw t13 t0.length)<|
  au (aw t13 t1.length)<|
  br (Bool.not (both (iQ (gt af t0 t13).1 (gt af t1 t13).1) (both (iQ (gt af t0 t13).2.1 (gt af t1 t13).2.1) (both (iQ (gt af t0 t13).2.2.1 (gt af t1 t13).2.2.1) true))))
  (
   atZ (.inl (false,())))
  (
   atY (t0,t1,t12,(qr (t13+(1:Int))),())))
 (
  atZ (.inr ()))
def afY  :UD:=cu (u4 Bz) (pL k0 e0 1 l0 fun d=>atP)
def UE:UF:=bp (u4 Bz) NN
abbrev UG:List Sh:=[(.sl af),(.sl af)]
abbrev J9:List Sh:=[.bool]
abbrev UI:=TL UG->Option (TL J9)
abbrev Ka:=Kd 163 UG J9
def afZ(L4:UF)(a0 a1:bv):Option (TL J9):=
 br (Bool.not (iQ (Int.ofNat a0.length) (Int.ofNat a1.length)))
 (
  some (false,()))
 (
  az (L4 (a0,a1,(Int.ofNat a0.length),(0:Int),())) fun x0=>
  (match x0 with|.inl x1=>some (x1.1,())|.inr x1=>some (true,())
  ))
def af0(M4:UD):Ka:=⟨u2 (afZ M4.L),pD Tryz.func163 26 k0 e0 1 (sS (sC M4 l0)) fun d=>atP⟩
def UH:Ka:=af0  afY
def afX:UI:=UH.F
abbrev Ui:ai:=⟨[(0,.fz cF),(1,.fz cF),(2,.func 157 [] [])],[],0⟩
abbrev JZ:List (Ev.Ex×ai):=[(.ret,⟨[(0,.bool)],[],0⟩)]
abbrev Bo:=be Ui JZ
abbrev xG:=Kb 160 3 Ui 1 JZ
abbrev Bl:ai:=⟨[(1,.fz cF),(2,.func 157 [] []),(15,.fz cF),(16,.I),(17,.I)],[],0⟩
abbrev Bi:List (Ev.Ex×ai):=[(.ret,⟨[(6,.bool)],[],0⟩),((.exit 0),xP)]
abbrev Ul:=be Bl Bi
abbrev J0:=Ld 0 32 (cj [0] (bu Tryz.f160)) Bl Bi
def Bm(F0:LS)(t1 t15:ip)(t16 t17:Int):am Bl Bi:=
 br (iL t17 t16)
 (
  au (aw t17 t15.length)<|
  au (aw t17 t1.length)<|
  az (F0 ((gt cF t15 t17),(gt cF t1 t17),())) fun x0=>
  br (Bool.not x0.1)
  (
   atZ (.inl (false,())))
  (
   atY (t1,t15,t16,(qr (t17+(1:Int))),())))
 (
  atZ (.inr ()))
def afJ(c0:Dv) :J0:=cu (u4 (Bm c0.F)) (pL (kD c0 k0) e0 1 l0 fun d=>atP)
def afK:J0:=afJ LQ
def Uk:Ul:=bp (u4 (Bm WL)) NN
def afL(F0:LS)(L4:Ul)(t0 t1:ip):Option (Out JZ):=
 br (Bool.not (iQ (Int.ofNat t0.length) (Int.ofNat t1.length)))
 (
  some (false,()))
 (
  az (L4 (t1,t0,(Int.ofNat t0.length),(0:Int),())) fun x0=>
  (match x0 with|.inl x1=>some (x1.1,())|.inr x1=>some (true,())
  ))
def afM(c0:Dv)(M4:J0):xG:=⟨u2 (afL c0.F M4.L),pB Tryz.func160 32 (kD c0 k0) e0 1 (sS (sC M4 l0)) fun d=>atP⟩
def Bn:xG:=afM LQ afK
def Uj:Bo:=Bn.F
abbrev Ue:ai:=⟨[(0,.fz bD),(1,.fz bD),(2,.func 158 [] [])],[],0⟩
abbrev JX:List (Ev.Ex×ai):=[(.ret,⟨[(0,.bool)],[],0⟩)]
abbrev Bk:=be Ue JX
abbrev xF:=Kb 161 3 Ue 1 JX
abbrev Bg:ai:=⟨[(1,.fz bD),(2,.func 158 [] []),(15,.fz bD),(16,.I),(17,.I)],[],0⟩
abbrev Bf:List (Ev.Ex×ai):=[(.ret,⟨[(6,.bool)],[],0⟩),((.exit 0),xP)]
abbrev Uh:=be Bg Bf
abbrev JY:=Ld 0 32 (cj [0] (bu Tryz.f161)) Bg Bf
def Bh(F0:LV)(t1 t15:io)(t16 t17:Int):am Bg Bf:=
 br (iL t17 t16)
 (
  au (aw t17 t15.length)<|
  au (aw t17 t1.length)<|
  az (F0 ((gt bD t15 t17),(gt bD t1 t17),())) fun x0=>
  br (Bool.not x0.1)
  (
   atZ (.inl (false,())))
  (
   atY (t1,t15,t16,(qr (t17+(1:Int))),())))
 (
  atZ (.inr ()))
def afF(c0:Dw) :JY:=cu (u4 (Bh c0.F)) (pL (kD c0 k0) e0 1 l0 fun d=>atP)
def afG:JY:=afF LU
def Ug:Uh:=bp (u4 (Bh WN)) NN
def afH(F0:LV)(L4:Uh)(t0 t1:io):Option (Out JX):=
 br (Bool.not (iQ (Int.ofNat t0.length) (Int.ofNat t1.length)))
 (
  some (false,()))
 (
  az (L4 (t1,t0,(Int.ofNat t0.length),(0:Int),())) fun x0=>
  (match x0 with|.inl x1=>some (x1.1,())|.inr x1=>some (true,())
  ))
def afI(c0:Dw)(M4:JY):xF:=⟨u2 (afH c0.F M4.L),pB Tryz.func161 32 (kD c0 k0) e0 1 (sS (sC M4 l0)) fun d=>atP⟩
def Bj:xF:=afI LU afG
def Uf:Bk:=Bj.F
abbrev T9:ai:=⟨[(0,.fz ah),(1,.fz ah),(2,.func 159 [] [.ptr 0 0,.ptr 1 0])],xO,2⟩
abbrev JU:List (Ev.Ex×ai):=[(.ret,⟨[(0,.bool)],xO,2⟩)]
abbrev Ud:=be T9 JU
abbrev JW:=Kb 164 3 T9 1 JU
abbrev Bd:ai:=⟨[(1,.fz ah),(2,.func 159 [] [.ptr 0 0,.ptr 1 0]),(15,.fz ah),(16,.I),(17,.I)],xO,2⟩
abbrev Bc:List (Ev.Ex×ai):=[(.ret,⟨[(6,.bool)],xO,2⟩),((.exit 0),⟨[],xO,2⟩)]
abbrev Ub:=be Bd Bc
abbrev JV:=Ld 2 32 (cj [0] (bu Tryz.f164)) Bd Bc
def Be(F0:Bk)(F1:Bo)(t1 t15:ce)(t16 t17:Int):am Bd Bc:=
 br (iL t17 t16)
 (
  au (aw t17 t15.length)<|
  au (aw t17 t1.length)<|
  br (iQ (gt ah t15 t17).1 (gt ah t1 t17).1)
  (
   br (bP true (iQ (gt ah t15 t17).2.1 (gt ah t1 t17).2.1) false)
   (
    br (bP true (@decide _ (Bool.decEq (gt ah t15 t17).2.2.1 (gt ah t1 t17).2.2.1)) false)
    (
     az (F1 ((gt ah t15 t17).2.2.2.1,(gt ah t1 t17).2.2.2.1,())) fun x0=>
     br (bP true x0.1 false)
     (
      az (F0 ((gt ah t15 t17).2.2.2.2.1,(gt ah t1 t17).2.2.2.2.1,())) fun x1=>
      br (Bool.not (bP true x1.1 false))
      (
       atZ (.inl (false,())))
      (
       atY (t1,t15,t16,(qr (t17+(1:Int))),())))
     (
      atZ (.inl (false,()))))
    (
     atZ (.inl (false,()))))
   (
    atZ (.inl (false,()))))
  (
   atZ (.inl (false,()))))
 (
  atZ (.inr ()))
def afB(c0:xF)(c1:xG) :JV:=cu (u4 (Be c0.F c1.F)) (pL (kB c0 (kB c1 k0)) (eC Tryz.func159 atP e0) 5 l0 fun d=>atP)
def afC:JV:=afB Bj Bn
def Ua:Ub:=bp (u4 (Be Uf Uj)) NN
def afD(F0:Bk)(F1:Bo)(L4:Ub)(t0 t1:ce):Option (Out JU):=
 br (Bool.not (iQ (Int.ofNat t0.length) (Int.ofNat t1.length)))
 (
  some (false,()))
 (
  az (L4 (t1,t0,(Int.ofNat t0.length),(0:Int),())) fun x0=>
  (match x0 with|.inl x1=>some (x1.1,())|.inr x1=>some (true,())
  ))
def afE(c0:xF)(c1:xG)(M4:JV):JW:=⟨u2 (afD c0.F c1.F M4.L),pB Tryz.func164 32 (kB c0 (kB c1 k0)) (eC Tryz.func159 atP e0) 5 (sS (sC M4 l0)) fun d=>atP⟩
def Uc:JW:=afE Bj Bn afC
def afA:Ud:=Uc.F
abbrev Xp:List Sh:=[cA,cA]
abbrev Mb:List Sh:=[.bool]
abbrev Xy:=TL Xp->Option (TL Mb)
abbrev Mj:=Kd 123 Xp Mb
def ahQ(F0:UI)(F1:Uv)(F2:xJ)(F3:Bk)(F4:Bo)(F5:Ud)(a0 a1:Sh.T cA):Option (TL Mb):=
 br (Bool.not (iQ a0.1 a1.1))
 (
  some (false,()))
 (
  az (F2 (a0.2.1,a1.2.1,())) fun x0=>
  br (bP false true (Bool.not x0.1))
  (
   some (false,()))
  (
   az (F1 (a0.2.2.1,a1.2.2.1,())) fun x1=>
   br (bP false true (Bool.not x1.1))
   (
    some (false,()))
   (
    az (F2 (cT a0,cT a1,())) fun x2=>
    br (Bool.not x2.1)
    (
     some (false,()))
    (
     az (F2 (cQ a0,cQ a1,())) fun x3=>
     br (bP false true (Bool.not x3.1))
     (
      some (false,()))
     (
      az (F2 (cK a0,cK a1,())) fun x4=>
      br (bP false true (Bool.not x4.1))
      (
       some (false,()))
      (
       az (F0 (dz a0,dz a1,())) fun x5=>
       br x5.1
       (
        az (F5 (cU a0,cU a1,())) fun x6=>
        some ((bP true x6.1 false),()))
       (
        some (false,()))))))))
def ahR(c0:Ka)(c1:J7)(c2:vp)(c3:xF)(c4:xG)(c5:JW) :Mj:=⟨u2 (ahQ c0.F c1.F c2.F c3.F c4.F c5.F),pD Tryz.func123 67 (kD c0 (kD c1 (kD c2 (kB c3 (kB c4 (kB c5 k0)))))) (eC Tryz.func159 atP e0) 5 (sS l0) fun d=>atP⟩
def Xx:Mj:=ahR UH Uu xI Bj Bn Uc
def aht:Xy:=Xx.F
abbrev W5:List Sh:=[cA,vG]
abbrev LM:List Sh:=[.bool]
abbrev Xo:=TL W5->Option (TL LM)
abbrev LZ:=Kd 64 W5 LM
def ahq(F0:xJ)(F1:Xy)(F2:DM)(a0:Sh.T cA)(a1:Sh.T vG):Option (TL LM):=
 az (F2 (a0,())) fun x0=>
 br (iQ x0.2.1 (0:Int))
 (
  az (F1 (x0.1.1,a1.1,())) fun x1=>
  br (bP true x1.1 false)
  (
   az (F0 (x0.1.2.1,a1.2.1,())) fun x2=>
   br (bP true x2.1 false)
   (
    az (F0 (x0.1.2.2.1,a1.2.2.1,())) fun x3=>
    br (bP true x3.1 false)
    (
     az (F0 (x0.1.2.2.2.1,cT a1,())) fun x4=>
     some ((bP true x4.1 false),()))
    (
     some (false,())))
   (
    some (false,())))
  (
   some (false,())))
 (
  some (false,()))
def ahr(c0:vp)(c1:Mj)(c2:yf) :LZ:=⟨u2 (ahq c0.F c1.F c2.F),pD Tryz.func64 42 (kD c0 (kD c1 (kD c2 k0))) e0 1 (sS l0) fun d=>atP⟩
def Xm:LZ:=ahr xI Xx DL
def WZ:Xo:=Xm.F
open Go.Proofs.YtmkbdfidnfmgmaaGreat.Pl
set_option maxRecDepth 10000
theorem pF(L:jp)(hL:L.length<=100000):af4 (L,L,())=some (true,()):=by
 have eL:UO (L,L,(L.length:Int),(0:Int),())=atZ ():=by
  unfold UO;delta u4;refine d9 (fun i:Nat=>(L,L,(L.length:Int),(i:Int),())) L.length rfl ?_ ?_ atU
  .intro i hi
   try dsimp only
   unfold BE;have e:∀p q:Int,p=q->(atY (L,L,(L.length:Int),p,()):am BB BA)=atY (L,L,(L.length:Int),q,()):=by rintro _ _ rfl;rfl
   exact aR (aD (show(i:Int)<(L.length:Int) by omega)) (aS atT (aS atT (ax (pE _) (e _ _ (cH (x:=(i:Int)+1) atO)))))
  .try dsimp only
   unfold BE;exact ax (aF (show ¬(L.length:Int)<(L.length:Int) by omega)) rfl
 exact ax (pE _) (aB eL rfl)
theorem ajp(L:List af.T)(hL:L.length<=100000):afQ (L,L,())=some (true,()):=by
 have eL:Uq (L,L,(L.length:Int),(0:Int),())=atZ ():=by
  unfold Uq;delta u4;refine d9 (fun i:Nat=>(L,L,(L.length:Int),(i:Int),())) L.length rfl ?_ ?_ atU
  .intro i hi
   try dsimp only
   unfold Bu;have e:∀p q:Int,p=q->(atY (L,L,(L.length:Int),p,()):am Br Bq)=atY (L,L,(L.length:Int),q,()):=by rintro _ _ rfl;rfl
   exact aR (aD (show(i:Int)<(L.length:Int) by omega)) (aS atT (aS atT (ax (nb3 _ _ _) (e _ _ (cH (x:=(i:Int)+1) atO)))))
  .try dsimp only
   unfold Bu;exact ax (aF (show ¬(L.length:Int)<(L.length:Int) by omega)) rfl
 exact ax (pE _) (aB eL rfl)
theorem ajo(L:List af.T)(hL:L.length<=100000):afX (L,L,())=some (true,()):=by
 have eL:UE (L,L,(L.length:Int),(0:Int),())=atZ ():=by
  unfold UE;delta u4;refine d9 (fun i:Nat=>(L,L,(L.length:Int),(i:Int),())) L.length rfl ?_ ?_ atU
  .intro i hi
   try dsimp only
   unfold Bz;have e:∀p q:Int,p=q->(atY (L,L,(L.length:Int),p,()):am Bw Bv)=atY (L,L,(L.length:Int),q,()):=by rintro _ _ rfl;rfl
   exact aR (aD (show(i:Int)<(L.length:Int) by omega)) (aS atT (aS atT (ax (nb3 _ _ _) (e _ _ (cH (x:=(i:Int)+1) atO)))))
  .try dsimp only
   unfold Bz;exact ax (aF (show ¬(L.length:Int)<(L.length:Int) by omega)) rfl
 exact ax (pE _) (aB eL rfl)
theorem akC(L:List cF.T)(hL:L.length<=1000)(h:∀r∈L,r.2.1.length<=100000):Uj (L,L,())=some (true,()):=by
 have eL:Uk (L,L,(L.length:Int),(0:Int),())=atZ ():=by
  unfold Uk;delta u4;refine d9 (fun i:Nat=>(L,L,(L.length:Int),(i:Int),())) L.length rfl ?_ ?_ atU
  .intro i hi
   try dsimp only
   unfold Bm;have e:∀p q:Int,p=q->(atY (L,L,(L.length:Int),p,()):am Bl Bi)=atY (L,L,(L.length:Int),q,()):=by rintro _ _ rfl;rfl
   rw[bI (σ:=cF) (ba hi)];have hr:=h _ (By hi);generalize L[i]=r at hr |-;have e1:WL ((r.1,r.2.1,()),(r.1,r.2.1,()),())=some (true,()):=aR (qH _) (aB (pF _ hr) rfl);exact aR (aD (show(i:Int)<(L.length:Int) by omega)) (aS atT (aS atT (aB e1 (ax rfl (e _ _ (cH (x:=(i:Int)+1) atO))))))
  .try dsimp only
   unfold Bm;exact ax (aF (show ¬(L.length:Int)<(L.length:Int) by omega)) rfl
 exact ax (pE _) (aB eL rfl)
theorem akD(L:List bD.T)(hL:L.length<=1000)(h:∀r∈L,r.2.1.length<=100000/\r.2.2.1.length<=100000):Uf (L,L,())=some (true,()):=by
 have eL:Ug (L,L,(L.length:Int),(0:Int),())=atZ ():=by
  unfold Ug;delta u4;refine d9 (fun i:Nat=>(L,L,(L.length:Int),(i:Int),())) L.length rfl ?_ ?_ atU
  .intro i hi
   try dsimp only
   unfold Bh;have e:∀p q:Int,p=q->(atY (L,L,(L.length:Int),p,()):am Bg Bf)=atY (L,L,(L.length:Int),q,()):=by rintro _ _ rfl;rfl
   rw[bI (σ:=bD) (ba hi)];have hr:=h _ (By hi);generalize L[i]=r at hr |-;have e1:WN ((r.1,r.2.1,r.2.2.1,()),(r.1,r.2.1,r.2.2.1,()),())=some (true,()):=aR (qH _) (aB (pF _ hr.1) (aR rfl (aB (pF _ hr.2) rfl)));exact aR (aD (show(i:Int)<(L.length:Int) by omega)) (aS atT (aS atT (aB e1 (ax rfl (e _ _ (cH (x:=(i:Int)+1) atO))))))
  .try dsimp only
   unfold Bh;exact ax (aF (show ¬(L.length:Int)<(L.length:Int) by omega)) rfl
 exact ax (pE _) (aB eL rfl)
theorem aky(x:Bool):bP true (@decide _ (Bool.decEq x x)) false=true:=by cases x<;>rfl
theorem akB(x:Int):bP true (iQ x x) false=true:=by rw[qH];rfl
section
variable{n:ak}{V:Nat}(hs:bR n V)
include hs
theorem ajq:afA (n.ae.map aI,n.ae.map aI,())=some (true,()):=by
 obtain⟨a1,a2,a3,a4,a5⟩:=hs.lens;obtain⟨L,hL⟩:∃L,L=n.ae.map aI:=⟨_,rfl⟩;have hl:L.length=n.ae.length:=by rw[hL,aP]
 rw[<-hL];have eL:Ua (L,L,(L.length:Int),(0:Int),())=atZ ():=by
  unfold Ua;delta u4;refine d9 (fun i:Nat=>(L,L,(L.length:Int),(i:Int),())) L.length rfl ?_ ?_ atU
  .intro i hi
   try dsimp only
   unfold Be;have e:∀p q:Int,p=q->(atY (L,L,(L.length:Int),p,()):am Bd Bc)=atY (L,L,(L.length:Int),q,()):=by rintro _ _ rfl;rfl
   have hi':i<n.ae.length:=atO
   have hx:L[i]?=some (aI n.ae[i]):=by rw[hL,ct,ba hi'];rfl
   obtain⟨m1,m2,m3,m4,m5,m6,m7,m8⟩:=hs.ae _ (By hi');rw[bI (σ:=ah) hx];generalize n.ae[i]=m at m1 m2 m3 m4 m5 m6 m7 m8 |-;have e1:=akC (m.reads.map fC) (by rw[aP];omega) (fun r hr=>by obtain⟨r0,hr0,rfl⟩:=ro.1 hr;have:=m5 r0 hr0;show r0.addr.length<=100000;omega);have e2:=akD (m.writes.map fy) (by rw[aP];omega) (fun r hr=>by obtain⟨r0,hr0,rfl⟩:=ro.1 hr;have:=m6 r0 hr0;show r0.addr.length<=100000/\r0.data.length<=100000;omega);exact aR (aD (show(i:Int)<(L.length:Int) by omega)) (aS atT (aS atT (aR (qH _) (aR (akB _) (aR (aky _) (aB e1 (aR rfl (aB e2 (ax rfl (e _ _ (cH (x:=(i:Int)+1) atO)))))))))))
  .try dsimp only
   unfold Be;exact ax (aF (show ¬(L.length:Int)<(L.length:Int) by omega)) rfl
 exact ax (pE _) (aB eL rfl)
theorem ahc:aht (bW n,bW n,())=some (true,()):=by obtain⟨a1,a2,a3,a4,a5⟩:=hs.lens;have f1:=pF n.al atO;have f2:=ajp (n.ag.map bq) (by rw[aP];omega);have f3:=pF n.aZ atO;have f4:=pF n.aN atO;have f5:=pF n.constraints atO;have f6:=ajo (n.aj.map bc) (by rw[aP];omega);have f7:=ajq hs;exact ax (pE _) (aB f1 (ax rfl (aB f2 (ax rfl (aB f3 (ax rfl (aB f4 (ax rfl (aB f5 (ax rfl (aB f6 (aR rfl (aB f7 rfl)))))))))))))
end
abbrev pN(n:ak)(s:S2)(V:Nat):vG.T:=(bW (dW n s V),cJ (dm n s),cJ (de n s),cJ (cL n s),())
section
variable{n:ak}{V:Nat}{s:S2}(hs:bR n V)(h0:cZ n=0)(ha:dT (aY n) V=true)(M:iZ n V s)
include hs h0 ha M
theorem ofC:DG (bW n,())=some (pN n s V,(0:Int),()):=by obtain⟨s2,M2,e⟩:=ND hs h0 ha;obtain rfl:=iZ.one M2 M;exact e
theorem XX:WZ (bW n,pN n s V,())=some (true,()):=by have e:=ofC hs h0 ha M;unfold pN at e |-;obtain⟨a1,a2,a3,a4,a5⟩:=hs.lens;have f1:=ahc (vK hs h0 ha M);have f2:=pF (cJ (dm n s)) (by rw[kK];exact IS (qF _ _) atO);have f3:=pF (cJ (de n s)) (by rw[kK];exact IS (qF _ _) atO);have f4:=pF (cJ (cL n s)) (by rw[kK];exact IS (qF _ _) atO);generalize dW n s V=c at e f1 |-;generalize cJ (dm n s)=i1 at e f2 |-;generalize cJ (de n s)=i2 at e f3 |-;generalize cJ (cL n s)=i3 at e f4 |-;show WZ (bW n,(bW c,i1,i2,i3,()),())=some (true,());exact aB e (aR rfl (aB f1 (aR rfl (aB f2 (aR rfl (aB f3 (aR rfl (aB f4 rfl))))))))
end
theorem aj2{v:Nat}{l:Int}(h:0<=l/\l / 2<=(v:Int))(hv:v<=2000):dD l:=by obtain⟨h1,h2⟩:=h;unfold dD;omega
theorem Ea{n:ak}{V:Nat}(S:bR n V):Fit n:=by
 have hv:=S.v2;have hr:∀x∈aX n,dD x:=fun x hx=>by have:=S.dY x hx;unfold dD;omega
 have hl:∀x∈bJ n,dD x:=fun x hx=>aj2 (S.lits x hx) hv;obtain⟨l1,l2,l3,l4,l5⟩:=S.lens;have hmem:∀m∈n.ae,∀x∈fi m,dD x:=fun m hm x hx=>hl x (by unfold bJ;simp only[rc,rg];exact .inl (.inr ⟨m,hm,hx⟩));refine⟨by rw[S.vars];unfold dD;omega,⟨atO,fun x hx=>hr x ?_⟩,⟨atO,fun l h=>⟨hr _ ?_,hl _ ?_,?_⟩⟩,⟨atO,fun x hx=>hl x ?_⟩,⟨atO,fun x hx=>hl x ?_⟩,⟨atO,fun x hx=>hl x ?_⟩,⟨atO,fun m hm=>?_⟩,⟨atO,fun a h=>⟨hr _ ?_,hl _ ?_,hl _ ?_⟩⟩⟩
 .unfold aX;simp only[rc];exact .inl (.inl (.inl hx))
 .unfold aX;simp only[rc,ro];exact .inl (.inl (.inr ⟨l,h,rfl⟩))
 .unfold bJ;simp only[rc,ro];exact .inl (.inl (.inl (.inl (.inl ⟨l,h,rfl⟩))))
 .have:=S.init l h;unfold dD;omega
 .unfold bJ;simp only[rc];exact .inl (.inl (.inl (.inl (.inr hx))))
 .unfold bJ;simp only[rc];exact .inl (.inl (.inl (.inr hx)))
 .unfold bJ;simp only[rc];exact .inl (.inl (.inr hx))
 .obtain⟨a1,a2,w1,w2,hrd,hwr,p1,p2⟩:=S.ae m hm;refine⟨⟨by unfold dD;omega,atO⟩,by unfold dD;omega,atO,atO,fun r hr'=>?_,fun x hx=>?_⟩
  .have hd:r.var∈aX n:=by unfold aX;simp only[rc,rg];refine .inl (.inr ⟨m,hm,?_⟩);unfold fv;refine rg.2 ⟨r,hr',?_⟩;unfold bZ;exact ro.2 ⟨0,Id.2 atO,by show r.var+((0:Nat):Int)=r.var;omega⟩
   have:=S.dY _ hd;have:=hrd r hr';refine⟨atO,atO,atO,fun y hy=>hmem m hm y ?_⟩;unfold fi;exact AC _ (rg.2 ⟨r,hr',hy⟩)
  .have hq:=hwr x hx;have hy:∀y∈iP x,dD y:=fun y hy=>hmem m hm y (by unfold fi;exact EQ _ (rg.2 ⟨x,hx,hy⟩));unfold iP at hy;exact⟨atO,atO,hy _ (IN ..),fun y h=>hy y (FS _ (AC _ h)),fun y h=>hy y (FS _ (EQ _ h))⟩
 .unfold aX;simp only[rc,ro];exact .inr ⟨a,h,rfl⟩
 .unfold bJ;simp only[rc,rg];exact .inr ⟨a,h,by simp[js]⟩
 .unfold bJ;simp only[rc,rg];exact .inr ⟨a,h,by simp[js]⟩
variable{K:Nat}
theorem aje{m:cf}{c:List bA}(m1:1<=m.addr)(m2:m.addr<=62)(m3:1<=m.word)(m4:m.word<=64)(h:pW m K c)(hl:c.length<=4096):nF m.addr m.word c=true:=by
 unfold nF;rw[dt m1,dt m2,dt m3,dt m4,dt (show List.length (α:=bk.T) c<=4096 from hl)];show(List.range c.length).all (na m.addr m.word c)=true;rw[In];intro i hi;have hi:=Id.1 hi;have hp:=ba hi;obtain⟨e1,e2⟩:=zC hp;have h1:=h.at_ _ (By hi);have h2:=h.wd _ (By hi);have b1:decide (m9 c (i:Int)=0)=false:=eY (by rw[e2];omega);have b2:nM (jT c (i:Int)) m.addr=true:=by rw[e1];exact Hf h1.1 h1.2
 have b3:nM (m9 c (i:Int)) m.word=true:=by rw[e2];exact Hf atO h2.2
 have b4:(decide (i=0)||decide (jT c ((i:Int)-1)<jT c (i:Int)))=true:=by
  by_cases q:i=0
  .rw[dt q];rfl
  .have hj:i-1<c.length:=atO
   have e3:=(zC (ba hj)).1;have ei:((i:Int)-1)=((i-1:Nat):Int):=atO
   have hs:=asb.1 h.Ba (i-1) i hj hi atO;rw[ei,e3,e1,dt hs,Bool.or_true]
 unfold na;rw[b1,b2,b3,b4];rfl
theorem ak9{n:ak}{V:Nat}(hs:bR n V)(hK:K<=4096){ls:md}{cs:List (List bA)}(ok:nR n K ls cs):lu (bW n) (ls,cs,())=true:=by
 unfold lu;show(decide (ls.length=(n.ag.map bq).length)&&decide (List.length cs=(n.ae.map aI).length)&&(List.range (n.ae.map aI).length).all (sc (n.ae.map aI) cs))=true;rw[aP,aP,dt ok.rK,dt ok.rI];show(List.range n.ae.length).all _=true;rw[In];intro i hi;have hi:=Id.1 hi;have hx:=ba hi;have hcl:cs.length=n.ae.length:=ok.rI;have hic:i<cs.length:=atO
 have hy:=ba hic;obtain⟨m1,m2,m3,m4,_⟩:=hs.ae _ (By hi);have ko:=ok.ok i _ _ hx hy;have g1:gt ah (n.ae.map aI) (i:Int)=aI n.ae[i]:=bI (σ:=ah) (by rw[ct,hx];rfl);have g2:gt (.sl bk) cs (i:Int)=cs[i]:=bI (σ:=.sl bk) hy;unfold sc;rw[g1];exact(PP (nF (aI n.ae[i]).1 (aI n.ae[i]).2.1) g2).trans (aje m1 m2 m3 m4 ko (IS ko.len hK))
abbrev aof:ai:=⟨[(0,.fJ bk)],[],0⟩
abbrev abv:List (Ev.Ex×ai):=[(.ret,⟨[(0,.hd 0 bk)],[(0,.arr bk 127)],1⟩)]
abbrev acr:=Kb 66 1 aof 1 abv
def ao4(t0z:Bool)(t0:ii):Option (Out abv):=
 br t0z
 (
  some ([],()))
 (
  au (room 16 (List.length (ap [] t0)))<|
  some ((ap [] t0),()))
def ao3  :acr:=⟨u2 ao4,pB Tryz.func66 8 k0 e0 1 (sS l0) fun d=>atP⟩
def aok:acr:=ao3
abbrev acu:List Sh:=[.sl bk]
abbrev acs:List Sh:=[.sl bk]
abbrev Pn:=TL acu->Option (TL acs)
abbrev Pp:=Kd 66 acu acs
def Po:Pp:=⟨_,GX aok.ok rfl (fun L=>rfl) (fun L=>⟨_,_,rfl,rfl,rfl⟩)⟩
def aby:Pn:=Po.F
def pw(n:ak)(s:S2)(ls:md):md:=(de n s).map fun i=>ls.getD i false
def oB(n:ak)(s:S2)(cs:List (List bA)):List (List bA):=(cL n s).map fun i=>cs.getD i []
def eh{α:Type}:mt->List α->List α->List α
 |i::I,t::T,L=>eh I T (L.set i t)|_,_,L=>L
theorem ua{α:Type}:∀(I:mt) (T L:List α),(eh I T L).length=L.length
 |[],_,_=>rfl|_::_,[],_=>rfl|i::I,t::T,L=>(ua I T (L.set i t)).trans (acl ..)
theorem yw{α:Type}{j:Nat}:∀(I:mt) (T L:List α),j∉I->(eh I T L)[j]?=L[j]?
 |[],_,_,_=>rfl|_::_,[],_,_=>rfl|i::I,t::T,L,h=>by rw[eh,yw I T _ (fun q=>h (FS _ q)),atu (fun q:i=j=>h (by rw[q];exact IN ..))]
theorem yC{α:Type}:∀{k:Nat}(I:mt) (T L:List α),I.Nodup->(∀i∈I,i<L.length)->∀{i:Nat}{t:α},I[k]?=some i->T[k]?=some t->(eh I T L)[i]?=some t
 |_,[],_,_,_,_,_,_,h,_=>by cases h
 |_,_::_,[],_,_,_,_,_,_,h=>by cases h
 |0,i::I,t::T,L,hn,hl,_,_,h1,h2=>by cases h1;cases h2;rw[eh,yw I T _ (arU.1 hn).1,arK (hl _ (IN ..))]
 |k+1,i::I,t::T,L,hn,hl,_,_,h1,h2=>by rw[eh];exact yC (k:=k) I T _ (arU.1 hn).2 (fun j hj=>by rw[acl];exact hl j (FS _ hj)) h1 h2
theorem DZ{α:Type}:∀{k:Nat}(I:mt) (T L:List α) {i:Nat}{t:α},I[k]?=some i->T[k]?=some t->eh (I.take (k+1)) T L=(eh (I.take k) T L).set i t
 |_,[],_,_,_,_,h,_=>by cases h
 |_,_::_,[],_,_,_,_,h=>by cases h
 |0,i::I,t::T,L,_,_,h1,h2=>by cases h1;cases h2;rfl
 |k+1,i::I,t::T,L,_,_,h1,h2=>by show eh (I.take (k+1)) T (L.set i t)=_;exact DZ I T _ h1 h2
variable{α:Type}
theorem Mv{d:α}{I:mt}{T L:List α}(hn:I.Nodup)(hl:∀i∈I,i<L.length)(hT:T.length=I.length):I.map (fun i=>(eh I T L).getD i d)=T:=by
 refine arW fun k=>?_;rw[ct];by_cases q:k<I.length
 .have h1:=ba q;have h2:=ba (show k<T.length by omega);rw[h1,h2];show some ((eh I T L).getD I[k] d)=_;rw[eu,yC I T L hn hl h1 h2];rfl
 .rw[abs atO,abs atO];rfl
theorem Yz{α:Type}{x:α}:∀(I:mt) (T L:List α),x∈eh I T L->x∈T\/x∈L
 |[],_,_,h=>.inr h|_::_,[],_,h=>.inr h|i::I,t::T,L,h=>by
  rcases Yz I T (L.set i t) h with h|h
  .exact .inl (FS _ h)
  .rcases List.mem_or_eq_of_mem_set h with h|h
   .exact .inr h
   .exact .inl (h▸IN ..)
theorem vE(L:List α)(p:Nat->Bool):(qS L p).Nodup:=List.Pairwise.filter _ List.nodup_range
abbrev Ut:ai:=Vg
abbrev J5:List (Ev.Ex×ai):=[(.ret,⟨[(0,.I)],vt,1⟩)]
abbrev UC:=be Ut J5
abbrev J8:=Kb 125 2 Ut 1 J5
abbrev Bt:ai:=⟨[(0,.fz (.sl .bool)),(1,.func 67 [] [.ptr 0 0]),(7,.I),(8,.I)],vt,1⟩
abbrev xH:List (Ev.Ex×ai):=[(.ret,⟨[(4,.I)],vt,1⟩),((.exit 0),⟨[],vt,1⟩)]
abbrev UA:=be Bt xH
abbrev Ux:=Ld 1 19 (cj [0] (bu Tryz.f125)) Bt xH
def Uw(t0:List md)(t7 t8 aA:Int)(aC:jp)(aK:bv)(aM aO aQ:jp)(aE:ce)(aG:bv)(fh uK uk:jp):am Bt xH:=
 br (iL t8 t7)
 (
  au (aw t8 t0.length)<|
  br (Bool.not (iQ (Int.ofNat (List.length (gt (.sl .bool) t0 t8))) (Int.ofNat fh.length)))
  (
   atZ (.inl (t8,aA,aC,aK,aM,aO,aQ,aE,aG,fh,uK,uk,())))
  (
   atY (t0,t7,(qr (t8+(1:Int))),aA,aC,aK,aM,aO,aQ,aE,aG,fh,uK,uk,())))
 (
  atZ (.inr (aA,aC,aK,aM,aO,aQ,aE,aG,fh,uK,uk,())))
def afU  :Ux:=cu (iC Uw) (pL k0 (eC Tryz.func67 atP e0) 5 l0 fun d=>atP)
def Uz:UA:=bp (iC Uw) NN
def afV(L2:UA)(t0:List md)(aA:Int)(aC:jp)(aK:bv)(aM aO aQ:jp)(aE:ce)(aG:bv)(fh uK uk:jp):Option (Out J5):=
 az (L2 (t0,(Int.ofNat t0.length),(0:Int),aA,aC,aK,aM,aO,aQ,aE,aG,fh,uK,uk,())) fun x0=>
 (match x0 with|.inl x1=>some x1|.inr x1=>some ((Int.negSucc 0),x1)
 )
def afW(M2:Ux):J8:=⟨bM (afV M2.L),pB Tryz.func125 19 k0 (eC Tryz.func67 atP e0) 5 (sS (sC M2 l0)) fun d=>atP⟩
def UB:J8:=afW  afU
def Uy:UC:=UB.F
abbrev Um:ai:=Vg
abbrev Bp:List (Ev.Ex×ai):=[(.ret,⟨[(0,.bool)],vt,1⟩)]
abbrev Uo:=be Um Bp
abbrev J4:=Kb 68 2 Um 1 Bp
def afO(F0:UC)(t0:List md)(aA:Int)(aC:jp)(aK:bv)(aM aO aQ:jp)(aE:ce)(aG:bv)(fh uK uk:jp):Option (Out Bp):=
 az (F0 (t0,aA,aC,aK,aM,aO,aQ,aE,aG,fh,uK,uk,())) fun x0=>
 some ((iE (0:Int) x0.1),x0.2)
def afP(c0:J8) :J4:=⟨bM (afO c0.F),pB Tryz.func68 9 (kB c0 k0) (eC Tryz.func67 atP e0) 5 (sS l0) fun d=>atP⟩
def Un:J4:=afP UB
def afN:Uo:=Un.F
abbrev WQ:ai:=⟨[(0,.agg fR)],[],0⟩
abbrev Dk:List (Ev.Ex×ai):=[(.ret,⟨[(0,.agg [.hd 0 .bool,.hd 1 (.sl bk)])],[(0,.arr .bool 4),(1,.arr (.sl bk) 76)],2⟩)]
abbrev Xs:=be WQ Dk
abbrev Mc:=Kb 37 1 WQ 1 Dk
abbrev Dj:ai:=⟨[(1,.ptr 0 0),(2,.ptr 1 0),(10,.fz af),(11,.I),(12,.I)],[(0,.cells fR 27),(1,.cells [.hd 2 .bool,.bt] 31),(2,.arr .bool 4)],3⟩
abbrev C9:List (Ev.Ex×ai):=[((.exit 0),⟨[(1,.ptr 0 0),(2,.ptr 1 0)],[(0,.cells fR 27),(1,.cells [.hd 2 .bool,.bt] 31),(2,.arr .bool 4)],3⟩)]
abbrev Xa:=be Dj C9
abbrev W8:=Ld 0 31 (cj [0] (bu Tryz.f37)) Dj C9
def Dx(t10:bv)(t11 t12 aA:Int)(aC:jp)(aK:bv)(aM aO aQ:jp)(aE:ce)(aG:bv)(b2:md):am Dj C9:=
 br (iL t12 t11)
 (
  au (aw t12 t10.length)<|
  au (room 1 (List.length (ap b2 ((iQ (gt af t10 t12).2.2.1 (1:Int))::[]))))<|
  atY (t10,t11,(qr (t12+(1:Int))),aA,aC,aK,aM,aO,aQ,aE,aG,(ap b2 ((iQ (gt af t10 t12).2.2.1 (1:Int))::[])),()))
 (
  atZ (aA,aC,aK,aM,aO,aQ,aE,aG,b2,()))
def ahi  :W8:=cu (bM Dx) (pL k0 e0 1 l0 fun d=>atP)
def W9:Xa:=bp (bM Dx) NN
def ahz(F0:uG)(L4:Xa)(fp:Int)(jN:jp)(iH:bv)(kr ku kA:jp)(iw:ce)(j8:bv):Option (Out Dk):=
 az (F0 ((fp,jN,iH,kr,ku,kA,iw,j8,()),())) fun x0=>
 br (Bool.not (iQ x0.1 (0:Int)))
 (
  some ([],[],()))
 (
  az (L4 (iH,(Int.ofNat iH.length),(0:Int),fp,jN,iH,kr,ku,kA,iw,j8,[],())) fun x1=>
  au (both (iE (0:Int) (Int.ofNat (List.length (cU x1)))) (both (iE (Int.ofNat (List.length (cU x1))) (Int.ofNat (List.length (cU x1)))) (iE ((Int.ofNat 24)*(Int.ofNat (List.length (cU x1)))) (281474976710656:Int))))<|
  some (dZ x1,(List.replicate (Int.toNat (Int.ofNat (List.length (cU x1)))) (Sh.zero (.sl bk))),()))
def ahA(c0:sx)(M4:W8):Mc:=⟨u8 (ahz c0.F M4.L),pB Tryz.func37 31 (kD c0 k0) e0 1 (sS (sC M4 l0)) fun d=>atP⟩
def Xr:Mc:=ahA sy ahi
def ahh:Xs:=Xr.F
abbrev CY:ai:=⟨[(3,.ptr 0 0),(4,.ptr 1 0),(6,.ptr 2 0),(85,.fz (.sl .bool)),(86,.I),(87,.I)],[(0,.cells fR 27),(1,.cells B8 46),(2,.cells [.hd 3 .bool,.hd 4 (.sl bk),.hd 5 (.sl .bool),.I] 55),(3,.arr .bool 4),(4,.arr (.sl bk) 76),(5,.arr (.sl .bool) 28)],6⟩
abbrev CE:List (Ev.Ex×ai):=[((.exit 4),⟨[(6,.ptr 0 0)],[(0,.cells [.hd 1 .bool,.hd 2 (.sl bk),.hd 3 (.sl .bool),.I] 55),(1,.arr .bool 4),(2,.arr (.sl bk) 76),(3,.arr (.sl .bool) 28)],4⟩)]
abbrev Wz:=be CY CE
abbrev Ls:=Ld 0 119 (cj [2] (bu Tryz.f26)) CY CE
abbrev CZ:ai:=⟨[(3,.ptr 0 0),(4,.ptr 1 0),(6,.ptr 2 0),(14,.fz .bool),(15,.hd 6 .bool),(85,.fz (.sl .bool)),(86,.I),(87,.I),(96,.fz .I),(97,.I),(98,.I)],Ve,7⟩
abbrev CF:List (Ev.Ex×ai):=[((.exit 6),⟨[(3,.ptr 0 0),(4,.ptr 1 0),(6,.ptr 2 0),(15,.hd 6 .bool),(85,.fz (.sl .bool)),(86,.I),(87,.I)],Ve,7⟩)]
abbrev Lv:=be CZ CF
abbrev Lt:=Ld 0 119 (cj [2,0] (bu Tryz.f26)) CZ CF
abbrev CX:ai:=⟨[(3,.ptr 0 0),(4,.ptr 1 0),(5,.ptr 2 0),(6,.ptr 3 0),(64,.fz .I),(65,.I),(66,.I)],KD,6⟩
abbrev CD:List (Ev.Ex×ai):=[((.exit 2),Vf)]
abbrev Wy:=be CX CD
abbrev Lr:=Ld 0 119 (cj [1] (bu Tryz.f26)) CX CD
abbrev Db:ai:=⟨[(3,.ptr 0 0),(4,.ptr 1 0),(5,.ptr 2 0),(6,.ptr 3 0),(44,.fz .I),(45,.I),(46,.I)],KD,6⟩
abbrev C0:List (Ev.Ex×ai):=[((.exit 0),Vf)]
abbrev WU:=be Db C0
abbrev WR:=Ld 0 119 (cj [0] (bu Tryz.f26)) Db C0
def LH(t44:jp)(t45 t46 aA:Int)(aC:jp)(aK:bv)(aM aO aQ:jp)(aE:ce)(aG:bv)(bN:Int)(cW:jp)(dg:bv)(db dk dN:jp)(dO:ce)(dV:bv)(mI qb pK:jp)(cP:md)(cX:List ii)(c9:List md)(cO kQ:Int)(b4:md)(b5:List ii):am Db C0:=
 br (iL t46 t45)
 (
  au (aw t46 t44.length)<|
  au (aw t46 cP.length)<|
  au (aw (gt .I t44 t46) b4.length)<|
  atY (t44,t45,(qr (t46+(1:Int))),aA,aC,aK,aM,aO,aQ,aE,aG,bN,cW,dg,db,dk,dN,dO,dV,mI,qb,pK,cP,cX,c9,cO,kQ,(List.set b4 (Int.toNat (gt .I t44 t46)) (gt .bool cP t46)),b5,()))
 (
  atZ (aA,aC,aK,aM,aO,aQ,aE,aG,bN,cW,dg,db,dk,dN,dO,dV,mI,qb,pK,cP,cX,c9,cO,kQ,b4,b5,()))
def ag9  :WR:=cu (fun d=>jv (bM LH d) (bX d)) (pL k0 (eC Tryz.func67 atP e0) 5 l0 fun d=>atP)
def WS:WU:=bp (fun d=>jv (bM LH d) (bX d)) NN
def Lp(F0:Pn)(t64:jp)(t65 t66 aA:Int)(aC:jp)(aK:bv)(aM aO aQ:jp)(aE:ce)(aG:bv)(bN:Int)(cW:jp)(dg:bv)(db dk dN:jp)(dO:ce)(dV:bv)(mI qb pK:jp)(cP:md)(cX:List ii)(c9:List md)(cO kQ:Int)(b4:md)(b5:List ii):am CX CD:=
 br (iL t66 t65)
 (
  au (aw t66 t64.length)<|
  au (aw t66 cX.length)<|
  az (F0 ((gt (.sl bk) cX t66),())) fun x0=>
  au (aw (gt .I t64 t66) b5.length)<|
  atY (t64,t65,(qr (t66+(1:Int))),aA,aC,aK,aM,aO,aQ,aE,aG,bN,cW,dg,db,dk,dN,dO,dV,mI,qb,pK,cP,cX,c9,cO,kQ,b4,(List.set b5 (Int.toNat (gt .I t64 t66)) x0.1),()))
 (
  atZ (aA,aC,aK,aM,aO,aQ,aE,aG,bN,cW,dg,db,dk,dN,dO,dV,mI,qb,pK,cP,cX,c9,cO,kQ,b4,b5,()))
def ag2(c0:Pp) :Lr:=cu (fun d=>jv (bM (Lp c0.F) d) (bX d)) (pL (kD c0 k0) (eC Tryz.func67 atP e0) 5 l0 fun d=>atP)
def ag4:Lr:=ag2 Po
def Wv:Wy:=bp (fun d=>jv (bM (Lp aby) d) (bX d)) NN
def Lq(t14:md)(t85:List md)(t86 t87:Int)(t96:jp)(t97 t98 aA:Int)(aC:jp)(aK:bv)(aM aO aQ:jp)(aE:ce)(aG:bv)(bN:Int)(cW:jp)(dg:bv)(db dk dN:jp)(dO:ce)(dV:bv)(mI qb pK:jp)(cO:Int)(b3:md)(b4:List ii)(b5:List md)(b6:md):am CZ CF:=
 br (iL t98 t97)
 (
  au (aw t98 t96.length)<|
  au (aw t98 t14.length)<|
  au (aw (gt .I t96 t98) b6.length)<|
  atY (t14,t85,t86,t87,t96,t97,(qr (t98+(1:Int))),aA,aC,aK,aM,aO,aQ,aE,aG,bN,cW,dg,db,dk,dN,dO,dV,mI,qb,pK,cO,b3,b4,b5,(List.set b6 (Int.toNat (gt .I t96 t98)) (gt .bool t14 t98)),()))
 (
  atZ (t85,t86,t87,aA,aC,aK,aM,aO,aQ,aE,aG,bN,cW,dg,db,dk,dN,dO,dV,mI,qb,pK,cO,b3,b4,b5,b6,()))
def Wx  :Lt:=cu (fun d=>rN (bM Lq d) (bX d)) (pL k0 (eC Tryz.func67 atP e0) 5 l0 fun d=>atP)
def Lu:Lv:=bp (fun d=>rN (bM Lq d) (bX d)) NN
def Wu(L20:Lv)(t85:List md)(t86 t87 aA:Int)(aC:jp)(aK:bv)(aM aO aQ:jp)(aE:ce)(aG:bv)(bN:Int)(cW:jp)(dg:bv)(db dk dN:jp)(dO:ce)(dV:bv)(mI qb pK:jp)(cO:Int)(b3:md)(b4:List ii)(b5:List md):am CY CE:=
 br (iL t87 t86)
 (
  au (aw t87 t85.length)<|
  au (both (iE (0:Int) (Int.ofNat aC.length)) (both (iE (Int.ofNat aC.length) (Int.ofNat aC.length)) (iE ((Int.ofNat 1)*(Int.ofNat aC.length)) (281474976710656:Int))))<|
  az (L20 ((gt (.sl .bool) t85 t87),t85,t86,t87,mI,(Int.ofNat mI.length),(0:Int),aA,aC,aK,aM,aO,aQ,aE,aG,bN,cW,dg,db,dk,dN,dO,dV,mI,qb,pK,cO,b3,b4,b5,(List.replicate (Int.toNat (Int.ofNat aC.length)) (Sh.zero .bool)),())) fun x0=>
  au (room 24 (List.length (ap (aW (aW x0)).2.1 ((aW (aW x0)).2.2.1::[]))))<|
  atY (x0.1,x0.2.1,(qr (pp x0.2.2.1 (1:Int))),cT x0,cQ x0,cK x0,cU x0,dz x0,dZ x0,eS x0,dH x0,fW x0,fK x0,(aW x0).2.1,(aW x0).2.2.1,cT (aW x0),cQ (aW x0),cK (aW x0),cU (aW x0),dz (aW x0),dZ (aW x0),eS (aW x0),dH (aW x0),fW (aW x0),fK (aW x0),(ap (aW (aW x0)).2.1 ((aW (aW x0)).2.2.1::[])),()))
 (
  atZ (cO,b3,b4,b5,()))
def ag3(M20:Lt):Ls:=cu (fun d=>iC (bM (Wu M20.L) d) (bX d)) (pL k0 (eC Tryz.func67 atP e0) 5 (sC M20 l0) fun d=>atP)
def ag5:Ls:=ag3  Wx
def Ww:Wz:=bp (fun d=>iC (bM (Wu Lu) d) (bX d)) NN
abbrev WW:List Sh:=[cA,vG,nm]
abbrev LJ:List Sh:=[nm,.I]
abbrev Xe:=TL WW->Option (TL LJ)
abbrev LX:=Kd 26 WW LJ
def ahj(F0:Pn)(F1:QD)(F2:Xo)(F3:Xs)(F4:Uo)(L6:WU)(L11:Wy)(L16:Wz)(L20:Lv)(a0:Sh.T cA)(a1:Sh.T vG)(a2:Sh.T nm):Option (TL LJ):=
 az (F2 (a0,(a1.1,a1.2),())) fun x0=>
 br (Bool.not x0.1)
 (
  some ((([],[],()),[],(0:Int),()),(1:Int),()))
 (
  az (F1 (a1.1,(a2.1.1,a2.1.2.1,()),())) fun x1=>
  br (bP false true (Bool.not (iQ x1.1 (0:Int))))
  (
   some ((([],[],()),[],(0:Int),()),(1:Int),()))
  (
   az (F4 (a2.2.1,a1.1.1,a1.1.2.1,a1.1.2.2.1,a1.1.2.2.2.1,a1.1.2.2.2.2.1,a1.1.2.2.2.2.2.1,a1.1.2.2.2.2.2.2.1,a1.1.2.2.2.2.2.2.2.1,a1.2)) fun x2=>
   br (bP false true x2.1)
   (
    some ((([],[],()),[],(0:Int),()),(1:Int),()))
   (
    az (F3 a0) fun x3=>
    au (iQ a2.2.2.1 a2.2.2.1)<|
    az (L6 (dH x2,(Int.ofNat (List.length (dH x2))),(0:Int),a0.1,a0.2.1,a0.2.2.1,cT a0,cQ a0,cK a0,cU a0,dz a0,x2.2.1,x2.2.2.1,cT x2,cQ x2,cK x2,cU x2,dz x2,dZ x2,eS x2,dH x2,fW x2,a2.1.1,a2.1.2.1,a2.2.1,a2.2.2.1,a2.2.2.1,x3)) fun x4=>
    az (L11 (cU (aW x4),(Int.ofNat (List.length (cU (aW x4)))),(0:Int),x4)) fun x5=>
    az (L16 (eS (aW x5),(Int.ofNat (List.length (eS (aW x5)))),(0:Int),x5.1,x5.2.1,x5.2.2.1,cT x5,cQ x5,cK x5,cU x5,dz x5,dZ x5,eS x5,dH x5,fW x5,fK x5,(aW x5).2.1,(aW x5).2.2.1,cT (aW x5),cQ (aW x5),cK (aW x5),cU (aW x5),fW (aW x5),fK (aW x5),(aW (aW x5)).2.1,[],())) fun x6=>
    some (((x6.2.1,x6.2.2.1,()),cT x6,x6.1,()),(0:Int),()))))
def ahk(c0:Pp)(c1:GH)(c2:LZ)(c3:Mc)(c4:J4)(M6:WR)(M11:Lr)(M16:Ls)(M20:Lt):LX:=⟨u3 (ahj c0.F c1.F c2.F c3.F c4.F M6.L M11.L M16.L M20.L),pD Tryz.func26 119 (kD c0 (kD c1 (kD c2 (kB c3 (kB c4 k0))))) (eC Tryz.func67 atP e0) 5 (sS (sC M6 (sC M11 (sC M16 l0)))) fun d=>atP⟩
def Xd:LX:=ahk Po QE Xm Xr Un ag9 ag4 ag5 Wx
def xY:Xe:=Xd.F
abbrev fN{α:Type}(C:ak)(I La Me:mt)(r:α):=nt C (cJ I,cJ La,cJ Me,r)
def wid(I:mt)(ti:List md):Bool:=ti.all fun x=>decide (x.length=I.length)
theorem aeM(C:ak)(I La Me:mt)(ti:List md)(ht:ti.length<=1000) :
  afN (ti,fN C I La Me ())=some (!wid I ti,fN C I La Me ()):=by
 have hL:∃o,Uz (ti,(ti.length:Int),(0:Int),fN C I La Me ())=some o/\((wid I ti=false/\∃k:Nat,o=(Sum.inl ((k:Int),fN C I La Me ()):Out xH))\/(wid I ti=true/\o=Sum.inr (fN C I La Me ()))):=by
  unfold Uz;delta iC u2 bM bX;refine kp (fun d=>∃k:Nat,k<=ti.length/\(∀j x,j<k->ti[j]?=some x->x.length=I.length)/\d=(ti,(ti.length:Int),(k:Int),fN C I La Me ())) _ (fun d=>ti.length-d.2.2.1.toNat) ?_ NN _ ⟨0,atO,fun j x h=>atO,rfl⟩ (cp (by show ti.length-0<=_;omega));rintro _ ⟨k,hk,hall,rfl⟩;by_cases hk2:k<ti.length
  .have hx:=ba hk2;have hxm:=By hk2;generalize ti[k]=x at hx hxm;have g:gt (.sl .bool) ti (k:Int)=x:=bI (σ:=.sl .bool) hx;have q0:iL (k:Int) (ti.length:Int)=true:=atW;have q1:aw (k:Int) ti.length=true:=atT;by_cases hl:x.length=I.length
   .have c0:Bool.not (iQ (Int.ofNat (List.length (gt (.sl .bool) ti (k:Int)))) (Int.ofNat (List.length (cJ I))))=false:=by rw[g];exact ED (aD (show((x.length:Nat):Int)=(((cJ I).length:Nat):Int) by rw[kK,hl]))
    refine .inr ⟨_,?_,⟨k+1,atO,fun j y hj hy=>?_,rfl⟩,?_⟩
    .have e:∀(p q:Int),p=q->(atY (ti,(ti.length:Int),p,fN C I La Me ()):am Bt xH)=atY (ti,(ti.length:Int),q,fN C I La Me ()):=by rintro _ _ rfl;rfl
     exact aR q0 (aS q1 (ax c0 (e _ _ (dL (show(k:Int)+1=((k+1:Nat):Int) by omega) atO))))
    .by_cases hjk:j<k
     .exact hall j y hjk hy
     .obtain rfl:j=k:=atO
      rw[hx]at hy;cases hy;exact hl
    .show ti.length-((k+1:Nat):Int).toNat<ti.length-((k:Nat):Int).toNat;omega
   .have c0:Bool.not (iQ (Int.ofNat (List.length (gt (.sl .bool) ti (k:Int)))) (Int.ofNat (List.length (cJ I))))=true:=by rw[g];exact qQ (aF (show ¬((x.length:Nat):Int)=(((cJ I).length:Nat):Int) by rw[kK];omega))
    refine .inl ⟨_,aR q0 (aS q1 (aR c0 rfl)),.inl ⟨?_,k,rfl⟩⟩;unfold wid;rw[List.all_eq_false];exact⟨x,hxm,by simp[hl]⟩
  .refine .inl ⟨_,ax (aF (show ¬(k:Int)<(ti.length:Int) by omega)) rfl,.inr ⟨?_,rfl⟩⟩;unfold wid;rw[In];intro x hx;obtain⟨j,hj⟩:=Fr hx;have hjl:=(ut.1 hj).1;exact dt (hall j x atO hj)
 obtain⟨o,e,h⟩:=hL;rcases h with⟨hw,k,rfl⟩|⟨hw,rfl⟩
 .rw[hw];have e2:Uy (ti,fN C I La Me ())=some ((k:Int),fN C I La Me ()):=aB e rfl;have e3:∀b:Bool,b=true->(some (b,fN C I La Me ()):Option (Out Bp))=some (!false,fN C I La Me ()):=by rintro _ rfl;rfl
  exact aB e2 (e3 _ atW)
 .rw[hw];have e2:Uy (ti,fN C I La Me ())=some ((Int.negSucc 0),fN C I La Me ()):=aB e rfl;exact aB e2 rfl
theorem ahY(d:cA.T)(T:List af.T)(hL:T.length<=100000):W9 (T,(T.length:Int),(0:Int),nx d ([],()))=some (nx d (qx T T.length,())):=by
 unfold W9;delta bM;refine d9 (fun i:Nat=>(T,(T.length:Int),(i:Int),nx d (qx T i,()))) T.length rfl ?_ ?_ atU
 .intro i hi;unfold nx
  try dsimp only
  unfold Dx;refine aR (aD (show(i:Int)<(T.length:Int) by omega)) (aS atT (aS (lM (L:=qx T i) (by rw[JE];omega) atS) ?_));have e:∀(p q:Int) (M M':md),p=q->M=M'->(atY (T,(T.length:Int),p,nx d (M,())):am Dj C9)=atY (T,(T.length:Int),q,nx d (M',())):=by rintro _ _ _ _ rfl rfl;rfl
  exact e _ _ _ _ (cH (x:=(i:Int)+1) atO) (am6 _ _).symm
 .unfold nx
  try dsimp only
  unfold Dx;exact ax (aF (show ¬(T.length:Int)<(T.length:Int) by omega)) rfl
def iB(n:ak):md:=qx (n.ag.map bq) (n.ag.map bq).length
def gV(n:ak):List (List bA):=List.replicate n.ae.length []
theorem ajJ{n:ak}(ft:Fit n)(hc:Pl.eZ n=0):ahh (bW n)=some (iB n,gV n,()):=by
 have e1:=th ft;rw[hc]at e1;have hl:(n.ag.map bq).length<=100000:=by rw[aP];have:=ft.aJ.1;omega
 have hm:(n.ae.map aI).length=n.ae.length:=aP _;have hm2:(n.ae.map aI).length<=100000:=by rw[hm];have:=ft.ae.1;omega
 have e4:=ahY (bW n) (n.ag.map bq) hl;have e:∀(A:List (List bA)),A=gV n->(some (iB n,A,()):Option (Out Dk))=some (iB n,gV n,()):=by rintro _ rfl;rfl
 exact aB e1 (ax rfl (aB e4 (aS (arz hm2) (e _ (by unfold gV;rw[<-hm];rfl)))))
section
variable{n C:ak}(I La Me:mt)(tl:md)(tm:List (List bA))(ti:List md)(bad bad2:Int)
theorem alh(hLa:La.length<=100000)(L:md)(M:List (List bA))(ht:tl.length=La.length)(hL:∀i∈La,i<L.length) :
  WS (cJ La,(La.length:Int),(0:Int),nt n (fN C I La Me (tl,tm,ti,bad,bad2,L,M,())))=some (nt n (fN C I La Me (tl,tm,ti,bad,bad2,eh La tl L,M,()))):=by
 unfold WS;delta jv u5 bM bX;refine d9 (fun k:Nat=>(cJ La,(La.length:Int),(k:Int),nt n (fN C I La Me (tl,tm,ti,bad,bad2,eh (La.take k) tl L,M,())))) La.length rfl ?_ ?_ atU
 .intro k hk;have hx:=ba hk;have bz:=hL _ (By hk);generalize La[k]=i at hx bz;have hy:=ba (show k<tl.length by omega);generalize tl[k]' atO=b at hy;have g1:gt .I (cJ La) (k:Int)=(i:Int):=bI (σ:=.I) (vN hx);have g2:gt .bool tl (k:Int)=b:=bI (σ:=.bool) hy;have q1:aw (k:Int) (List.length (cJ La))=true:=aU ⟨atO,by rw[kK];omega⟩;have q2:aw (k:Int) tl.length=true:=atT;have q3:aw (i:Int) (List.length (eh (La.take k) tl L))=true:=aU ⟨atO,by rw[ua];omega⟩;have hs:=DZ La tl L hx hy;have e:∀(p q:Int) (A B:md),p=q->A=B->(atY (cJ La,(La.length:Int),p,nt n (fN C I La Me (tl,tm,ti,bad,bad2,A,M,()))):am Db C0)=atY (cJ La,(La.length:Int),q,nt n (fN C I La Me (tl,tm,ti,bad,bad2,B,M,()))):=by rintro _ _ _ _ rfl rfl;rfl
  unfold fN nt
  try dsimp only
  unfold LH;rw[g1,g2];exact aR (aD (show(k:Int)<(La.length:Int) by omega)) (aS q1 (aS q2 (aS q3 (e _ _ _ _ (cH (x:=(k:Int)+1) atO) hs.symm))))
 .have ht:La.take La.length=La:=If atO
  try dsimp only
  rw[ht];exact ax (aF (show ¬(La.length:Int)<(La.length:Int) by omega)) rfl
theorem aj9(hMe:Me.length<=100000)(L:md)(M:List (List bA))(ht:tm.length=Me.length)(hc:∀c∈tm,c.length<=100000)(hM:∀i∈Me,i<M.length) :
  Wv (cJ Me,(Me.length:Int),(0:Int),nt n (fN C I La Me (tl,tm,ti,bad,bad2,L,M,())))=some (nt n (fN C I La Me (tl,tm,ti,bad,bad2,L,eh Me tm M,()))):=by
 unfold Wv;delta jv u5 bM bX;refine d9 (fun k:Nat=>(cJ Me,(Me.length:Int),(k:Int),nt n (fN C I La Me (tl,tm,ti,bad,bad2,L,eh (Me.take k) tm M,())))) Me.length rfl ?_ ?_ atU
 .intro k hk;have hx:=ba hk;have bz:=hM _ (By hk);generalize Me[k]=i at hx bz;have hkt:k<tm.length:=atO
  have hy:=ba hkt;have hcc:=hc _ (By hkt);generalize tm[k]=c at hy hcc;have g1:gt .I (cJ Me) (k:Int)=(i:Int):=bI (σ:=.I) (vN hx);have g2:gt (.sl bk) tm (k:Int)=c:=bI (σ:=.sl bk) hy;have q1:aw (k:Int) (List.length (cJ Me))=true:=aU ⟨atO,by rw[kK];omega⟩;have q2:aw (k:Int) tm.length=true:=atT;have q3:aw (i:Int) (List.length (eh (Me.take k) tm M))=true:=aU ⟨atO,by rw[ua];omega⟩;have hs:=DZ Me tm M hx hy;have e1:aby (c,())=some (c,()):=aS (se atS (by show([]++c).length<=_;rw[UV];omega)) rfl;have e:∀(p q:Int) (A B:List (List bA)),p=q->A=B->(atY (cJ Me,(Me.length:Int),p,nt n (fN C I La Me (tl,tm,ti,bad,bad2,L,A,()))):am CX CD)=atY (cJ Me,(Me.length:Int),q,nt n (fN C I La Me (tl,tm,ti,bad,bad2,L,B,()))):=by rintro _ _ _ _ rfl rfl;rfl
  unfold fN nt
  try dsimp only
  unfold Lp;rw[g1,g2];exact aR (aD (show(k:Int)<(Me.length:Int) by omega)) (aS q1 (aS q2 (aB e1 (aS q3 (e _ _ _ _ (cH (x:=(k:Int)+1) atO) hs.symm)))))
 .have ht:Me.take Me.length=Me:=If atO
  try dsimp only
  rw[ht];exact ax (aF (show ¬(Me.length:Int)<(Me.length:Int) by omega)) rfl
theorem akb(hI:I.length<=100000)(x:md)(c k:Int)(L:md)(M:List (List bA))(O:List md)(B:md)(hx:x.length=I.length)(hB:∀i∈I,i<B.length) :
  Lu (x,ti,c,k,cJ I,(I.length:Int),(0:Int),nt n (fN C I La Me (bad,L,M,O,B,())))=some (ti,c,k,nt n (fN C I La Me (bad,L,M,O,eh I x B,()))):=by
 unfold Lu;delta rN u7 bM bX;refine d9 (fun j:Nat=>(x,ti,c,k,cJ I,(I.length:Int),(j:Int),nt n (fN C I La Me (bad,L,M,O,eh (I.take j) x B,())))) I.length rfl ?_ ?_ atU
 .intro j hj;have hz:=ba hj;have bz:=hB _ (By hj);generalize I[j]=i at hz bz;have hy:=ba (show j<x.length by omega);generalize x[j]' atO=b at hy;have g1:gt .I (cJ I) (j:Int)=(i:Int):=bI (σ:=.I) (vN hz);have g2:gt .bool x (j:Int)=b:=bI (σ:=.bool) hy;have q1:aw (j:Int) (List.length (cJ I))=true:=aU ⟨atO,by rw[kK];omega⟩;have q2:aw (j:Int) x.length=true:=atT;have q3:aw (i:Int) (List.length (eh (I.take j) x B))=true:=aU ⟨atO,by rw[ua];omega⟩;have hs:=DZ I x B hz hy;have e:∀(p q:Int) (A A':md),p=q->A=A'->(atY (x,ti,c,k,cJ I,(I.length:Int),p,nt n (fN C I La Me (bad,L,M,O,A,()))):am CZ CF)=atY (x,ti,c,k,cJ I,(I.length:Int),q,nt n (fN C I La Me (bad,L,M,O,A',()))):=by rintro _ _ _ _ rfl rfl;rfl
  unfold fN nt
  try dsimp only
  unfold Lq;rw[g1,g2];exact aR (aD (show(j:Int)<(I.length:Int) by omega)) (aS q1 (aS q2 (aS q3 (e _ _ _ _ (cH (x:=(j:Int)+1) atO) hs.symm))))
 .have ht:I.take I.length=I:=If atO
  try dsimp only
  rw[ht];exact ax (aF (show ¬(I.length:Int)<(I.length:Int) by omega)) rfl
def iK(n:ak)(I:mt)(x:md):md:=eh I x (List.replicate n.al.length false)
theorem aka(hI:I.length<=100000)(hn:n.al.length<=100000)(hIn:∀i∈I,i<n.al.length)(hti:ti.length<=1000)(hw:∀x∈ti,x.length=I.length)(L:md)(M:List (List bA)) :
  Ww (ti,(ti.length:Int),(0:Int),nt n (fN C I La Me (bad,L,M,([]:List md),())))=some (bad,L,M,ti.map (iK n I),()):=by
 unfold Ww;delta iC u2 bM bX;refine d9 (fun k:Nat=>(ti,(ti.length:Int),(k:Int),nt n (fN C I La Me (bad,L,M,(ti.map (iK n I)).take k,())))) ti.length rfl ?_ ?_ atU
 .intro k hk;have hx:=ba hk;have hxl:=hw _ (By hk);generalize ti[k]=x at hx hxl;have g1:gt (.sl .bool) ti (k:Int)=x:=bI (σ:=.sl .bool) hx;have q1:aw (k:Int) ti.length=true:=atT;have e20:=akb (n:=n) (C:=C) I La Me ti bad hI x (ti.length:Int) (k:Int) L M ((ti.map (iK n I)).take k) (List.replicate n.al.length false) hxl (fun i hi=>by rw[gp];exact hIn i hi);have hs:(ti.map (iK n I)).take (k+1)=(ti.map (iK n I)).take k++[iK n I x]:=eE (by rw[ct,hx];rfl);have hlen:(ti.map (iK n I)).length=ti.length:=aP _;have q3:room 24 (List.length ((ti.map (iK n I)).take k++(iK n I x::[])))=true:=lM (by rw[fx];omega) atS;have q2:both (iE (0:Int) (Int.ofNat (List.length n.al))) (both (iE (Int.ofNat (List.length n.al)) (Int.ofNat (List.length n.al))) (iE ((Int.ofNat 1)*(Int.ofNat (List.length n.al))) (281474976710656:Int)))=true:=by have a1:iE (0:Int) (Int.ofNat (List.length n.al))=true:=aD (by show(0:Int)<=((n.al.length:Nat):Int);omega);have a2:iE (Int.ofNat (List.length n.al)) (Int.ofNat (List.length n.al))=true:=aD (asQ _);have a3:iE ((Int.ofNat 1)*(Int.ofNat (List.length n.al))) (281474976710656:Int)=true:=aD (by show(1:Int)*((n.al.length:Nat):Int)<=_;omega);rw[a1,a2,a3];rfl
  have l1:(Int.ofNat (List.length (cJ I)))=(I.length:Int):=by rw[kK];rfl
  rw[<-l1]at e20;have e:∀(p q:Int) (A A':List md),p=q->A=A'->(atY (ti,(ti.length:Int),p,nt n (fN C I La Me (bad,L,M,A,()))):am CY CE)=atY (ti,(ti.length:Int),q,nt n (fN C I La Me (bad,L,M,A',()))):=by rintro _ _ _ _ rfl rfl;rfl
  rw[<-g1]at e20;exact aR (aD (show(k:Int)<(ti.length:Int) by omega)) (aS q1 (aS q2 (aB e20 (aS (by rw[g1];exact q3) (e _ _ _ _ (cH (x:=(k:Int)+1) atO) (by rw[g1];exact hs.symm))))))
 .have ht:(ti.map (iK n I)).take ti.length=ti.map (iK n I):=If (by rw[aP];omega)
  try dsimp only
  rw[ht];exact ax (aF (show ¬(ti.length:Int)<(ti.length:Int) by omega)) rfl
end
abbrev xE(ls:md)(cs:List (List bA))(ins:List md)(bad:Int):nm.T:=((ls,cs,()),ins,bad,())
section
variable{n:ak}{V:Nat}{s:S2}(hs:bR n V)(h0:cZ n=0)(ha:dT (aY n) V=true)(M:iZ n V s)(tl:md)(tm:List (List bA))(ti:List md)(bad:Int)(hti:ti.length<=1000)
include hs h0 ha M hti
theorem Yt(h:jG (bW (dW n s V)) (tl,tm,())≠0\/wid (dm n s) ti=false):xY (bW n,pN n s V,xE tl tm ti bad,())=some (xE [] [] [] 0,(1:Int),()):=by
 have e1:=XX hs h0 ha M;have C:=vK hs h0 ha M;have e2:=TN (bW (dW n s V)) (tl,tm,()) (by rw[lZ];exact Ea C) (by show((dW n s V).ae.map aI).length<=_;rw[aP];have:=C.lens;omega);have e3:=aeM (dW n s V) (dm n s) (de n s) (cL n s) ti hti;unfold pN at e1 |-;clear C;generalize dW n s V=D at *
 generalize dm n s=I at *
 generalize de n s=La at *
 generalize cL n s=Me at *
 show xY (bW n,(bW D,cJ I,cJ La,cJ Me,()),((tl,tm,()),ti,bad,()),())=_;by_cases q:jG (bW D) (tl,tm,())=0
 .rw[q]at e2;rw[h.resolve_left (fun p=>p q)]at e3;exact aB e1 (ax rfl (aB e2 (ax rfl (aB e3 (aR rfl rfl)))))
 .have hq:bP false true (Bool.not (iQ (jG (bW D) (tl,tm,())) (0:Int)))=true:=qQ (aF q);generalize jG (bW D) (tl,tm,())=z at *
  exact aB e1 (ax rfl (aB e2 (aR hq rfl)))
theorem Ys(h:jG (bW (dW n s V)) (tl,tm,())=0)(hw:wid (dm n s) ti=true)(hc:∀c∈tm,c.length<=100000) :
  xY (bW n,pN n s V,xE tl tm ti bad,())=some (xE (eh (de n s) tl (iB n)) (eh (cL n s) tm (gV n)) (ti.map (iK n (dm n s))) bad,(0:Int),()):=by
 have e1:=XX hs h0 ha M;have C:=vK hs h0 ha M;have E:=vJ hs h0 ha M;have ft:=Ea hs;have hch:Pl.eZ n=0:=rS hs h0 fun v hv=>(jL hs.apart _).1 ha v hv;have e2:=TN (bW (dW n s V)) (tl,tm,()) (by rw[lZ];exact Ea C) (by show((dW n s V).ae.map aI).length<=_;rw[aP];have:=C.lens;omega);rw[h]at e2;have e3:=aeM (dW n s V) (dm n s) (de n s) (cL n s) ti hti;rw[hw]at e3;have ez:=ajJ ft hch;obtain⟨_,k1,k2⟩:=TO h;have k1:tl.length=(de n s).length:=by have:tl.length=((dW n s V).ag.map bq).length:=k1;rw[this,aP,E.aJ,aP]
 have k2:tm.length=(cL n s).length:=by have:List.length tm=((dW n s V).ae.map aI).length:=k2;rw[this,aP,E.mem,aP]
 have hl:=hs.lens;have b1:(dm n s).length<=100000:=IS (qF _ _) atO;have b2:(de n s).length<=100000:=IS (qF _ _) atO;have b3:(cL n s).length<=100000:=IS (qF _ _) atO;have hls:(iB n).length=n.ag.length:=by unfold iB;rw[JE,aP]
 have hcs:(gV n).length=n.ae.length:=gp;have e6:=alh (n:=n) (C:=dW n s V) (dm n s) (de n s) (cL n s) tl tm ti bad bad b2 (iB n) (gV n) k1 (fun i hi=>by rw[hls];exact nK hi);have e11:=aj9 (n:=n) (C:=dW n s V) (dm n s) (de n s) (cL n s) tl tm ti bad bad b3 (eh (de n s) tl (iB n)) (gV n) k2 hc (fun i hi=>by rw[hcs];exact nK hi);have e16:=aka (n:=n) (C:=dW n s V) (dm n s) (de n s) (cL n s) ti bad b1 atO (fun i hi=>nK hi) hti (fun x hx=>by unfold wid at hw;have:=In.1 hw x hx;exact aig this) (eh (de n s) tl (iB n)) (eh (cL n s) tm (gV n));have l1:(Int.ofNat (List.length (cJ (de n s))))=((de n s).length:Int):=by rw[kK];rfl
 have l2:(Int.ofNat (List.length (cJ (cL n s))))=((cL n s).length:Int):=by rw[kK];rfl
 rw[<-l1]at e6;rw[<-l2]at e11;unfold pN at e1 |-;clear C E ft hch hl b1 b2 b3 hls hcs k1 k2 hc hw h l1 l2;generalize dW n s V=D at *
 generalize eh (de n s) tl (iB n)=L1 at *
 generalize eh (cL n s) tm (gV n)=M1 at *
 generalize dm n s=I at *
 generalize de n s=La at *
 generalize cL n s=Me at *
 generalize iB n=L0 at *
 generalize gV n=M0 at *
 show xY (bW n,(bW D,cJ I,cJ La,cJ Me,()),((tl,tm,()),ti,bad,()),())=_;exact aB e1 (ax rfl (aB e2 (ax rfl (aB e3 (ax rfl (aB ez (aS (qH _) (aB e6 (aB e11 (aB e16 rfl))))))))))
end
abbrev adS:ai:=⟨[(0,.agg fR),(1,.agg [.fz .bool,.fz (.sl bk),.fz (.sl .bool),.I])],[],0⟩
abbrev Qu:List (Ev.Ex×ai):=[(.ret,⟨[(0,.hd 0 kO),(1,.I),(2,.I)],[(0,.arr kO 67)],1⟩)]
abbrev ad3:=be adS Qu
abbrev QM:=Kb 127 2 adS 3 Qu
abbrev Gw:ai:=⟨[(4,.hd 0 kO),(8,.func 30 [.ptr 1 0] []),(26,.fz (.sl .bool)),(27,.I),(28,.I)],[(0,.arr kO 67),(1,.cells [.I,.fz .I,.fz af,.fz .I,.fz .I,.fz .I,.fz ah,.fz af,.fz an,.hd 2 .bool,.fB 3] 92),(2,.arr .bool 4),(3,.fu 179)],4⟩
abbrev Gq:List (Ev.Ex×ai):=[(.ret,⟨[(4,.hd 0 kO),(5,.I),(6,.I)],[(0,.arr kO 67)],1⟩),((.exit 0),⟨[(4,.hd 0 kO)],[(0,.arr kO 67)],1⟩)]
abbrev adV:=be Gw Gq
abbrev QA:=Ld 0 56 (cj [0] (bu Tryz.f127)) Gw Gq
def oT(F0:Qb)(t26:List md)(t27 t28:Int)(b0:List (Sh.T kO))(bN:Int)(cW:jp)(dg:bv)(db dk dN:jp)(dO:ce)(dV:bv)(mI:eq)(b2:md)(b3:List (Sh.T (.agg [.I,.I,(.sl bk)]))):am Gw Gq:=
 br (iL t28 t27)
 (
  au (aw t28 t26.length)<|
  az (F0 ((gt (.sl .bool) t26 t28),bN,cW,dg,db,dk,dN,dO,dV,mI,b2,b3,())) fun x0=>
  br (Bool.not (iQ x0.2.1 (0:Int)))
  (
   atZ (.inl (t28,(9:Int),b0,())))
  (
   br (Bool.not x0.1)
   (
    atZ (.inl (t28,(16:Int),b0,())))
   (
    au (room 32 (List.length (ap b0 (((aW x0).2.1,x0.1,())::[]))))<|
    atY (t26,t27,(qr (t28+(1:Int))),(ap b0 (((aW x0).2.1,x0.1,())::[])),x0.2.2.1,cT x0,cQ x0,cK x0,cU x0,dz x0,dZ x0,eS x0,dH x0,fW x0,fK x0,()))))
 (
  atZ (.inr (b0,())))
def aqm(c0:Gk) :QA:=cu (gm (oT c0.F)) (pL (kB c0 k0) e0 1 l0 fun d=>atP)
def aql:QA:=aqm Qc
def aqn:adV:=bp (gm (oT pV)) NN
def aqz(F0:Qb)(F1:aeH)(L6:adV)(fp:Int)(jN:jp)(iH:bv)(kr ku kA:jp)(iw:ce)(j8:bv)(mu:md)(jO:List ii)(lW:List md)(arG:Int):Option (Out Qu):=
 az (F1 (fp,jN,iH,kr,ku,kA,iw,j8,mu,jO,())) fun x0=>
 (match x0 with
 |.inl x1=>
  au (Bool.not (iQ x1.1 (0:Int)))<|
  some ((Int.negSucc 0),x1.1,[],())
 |.inr x1=>
  br (Bool.not (iQ x1.1 (0:Int)))
  (
   some ((Int.negSucc 0),x1.1,[],()))
  (
   az (L6 (lW,(Int.ofNat lW.length),(0:Int),[],x1.2)) fun x2=>
   (match x2 with|.inl x3=>some x3|.inr x3=>some ((Int.negSucc 0),(0:Int),x3.1,())
   ))
 )
def aqy(c0:Gk)(c1:Rc)(M6:QA):QM:=⟨bM (aqz c0.F c1.F M6.L),pB Tryz.func127 56 (kB c0 (kB c1 k0)) e0 1 (sS (sC M6 l0)) fun d=>atP⟩
def ad4:QM:=aqy Qc aeI aql
def aqo:ad3:=ad4.F
abbrev adJ:List Sh:=[cA,nm]
abbrev Gr:List Sh:=[(.sl kO),.I,.I]
abbrev adv:=TL adJ->Option (TL Gr)
abbrev Qg:=Kd 70 adJ Gr
def aqf(F0:adN)(F1:uG)(F2:ad3)(a0:Sh.T cA)(a1:Sh.T nm):Option (TL Gr):=
 az (F1 (a0,())) fun x0=>
 br (Bool.not (iQ x0.1 (0:Int)))
 (
  some ([],(Int.negSucc 0),x0.1,()))
 (
  br (iL a1.2.2.1 (0:Int))
  (
   some ([],(Int.negSucc 0),(1:Int),()))
  (
   br (bP false true (iE (Int.ofNat (List.length (cQ a0))) a1.2.2.1))
   (
    some ([],(Int.negSucc 0),(1:Int),()))
   (
    br (bP false true (iQ (Int.ofNat (List.length a1.2.1)) (0:Int)))
    (
     some ([],(Int.negSucc 0),(1:Int),()))
    (
     az (F0 (a0,(a1.1.1,a1.1.2.1,()),())) fun x1=>
     br (Bool.not (iQ x1.1 (0:Int)))
     (
      some ([],(Int.negSucc 0),(14:Int),()))
     (
      az (F2 (a0.1,a0.2.1,a0.2.2.1,cT a0,cQ a0,cK a0,cU a0,dz a0,a1.1.1,a1.1.2.1,a1.2)) fun x2=>
      br (Bool.not (iQ x2.2.1 (0:Int)))
      (
       some ([],x2.1,x2.2.1,()))
      (
       au (aw (qr ((Int.ofNat (List.length x2.2.2.1))-(1:Int))) (List.length x2.2.2.1))<|
       au (aw a1.2.2.1 (List.length (gt kO x2.2.2.1 (qr ((Int.ofNat (List.length x2.2.2.1))-(1:Int)))).1))<|
       br (Bool.not (gt .bool (gt kO x2.2.2.1 (qr ((Int.ofNat (List.length x2.2.2.1))-(1:Int)))).1 a1.2.2.1))
       (
        some ([],(qr ((Int.ofNat (List.length x2.2.2.1))-(1:Int))),(16:Int),()))
       (
        some (x2.2.2.1,(Int.negSucc 0),(0:Int),()))))))))
def aqe(c0:Qm)(c1:sx)(c2:QM) :Qg:=⟨u2 (aqf c0.F c1.F c2.F),pD Tryz.func70 67 (kD c0 (kD c1 (kB c2 k0))) e0 1 (sS l0) fun d=>atP⟩
def adw:Qg:=aqe adO sy ad4
def aqb:adv:=adw.F
abbrev adT:List Sh:=[cA,nm]
abbrev Qz:List Sh:=[.I,.I]
abbrev adH:=TL adT->Option (TL Qz)
abbrev Qr:=Kd 29 adT Qz
def aqq(F0:adv)(a0:Sh.T cA)(a1:Sh.T nm):Option (TL Qz):=
 az (F0 (a0,((a1.1.1,a1.1.2.1,()),a1.2),())) fun x0=>
 some x0.2
def aqp(c0:Qg) :Qr:=⟨u2 (aqq c0.F),pD Tryz.func29 18 (kD c0 k0) e0 1 (sS l0) fun d=>atP⟩
def adI:Qr:=aqp adw
def aqh:adH:=adI.F
def fm(n:ak):List md->Nat->qj->List qT->List qT×Int×Int
 |[],i,s,acc=>(acc,-1,0)|x::xs,i,s,acc=>if x.length≠n.al.length then(acc,(i:Int),9)else if kh n (cz n s.1 s.2 x)=false then(acc,(i:Int),16)else fm n xs (i+1) (kH n s x) (acc++[tD n s x])
section
variable{n:ak}{V:Nat}(hs:bR n V)(ft:Fit n)
include hs ft
theorem alz(ins:List md)(hI:ins.length<=200):∀(xs:List md) (i:Nat) (s:qj) (acc:List qT) (N:Nat),ins.drop i=xs->i+xs.length=ins.length->xs.length<N->nR n (4096+4*i) s.1 s.2->acc.length<=i ->
  bp (fun d=>oT pV d.1 d.2.1 d.2.2.1 d.2.2.2.1 d.2.2.2.2.1 d.2.2.2.2.2.1 d.2.2.2.2.2.2.1 d.2.2.2.2.2.2.2.1 d.2.2.2.2.2.2.2.2.1 d.2.2.2.2.2.2.2.2.2.1 d.2.2.2.2.2.2.2.2.2.2.1 d.2.2.2.2.2.2.2.2.2.2.2.1 d.2.2.2.2.2.2.2.2.2.2.2.2.1 d.2.2.2.2.2.2.2.2.2.2.2.2.2.1 d.2.2.2.2.2.2.2.2.2.2.2.2.2.2.1) N (ins,(ins.length:Int),(i:Int),acc,mc n (cG n V) s.1 (dK n s.2) ()) =
   some (if(fm n xs i s acc).2.2=0 then .inr ((fm n xs i s acc).1,())else .inl ((fm n xs i s acc).2.1,(fm n xs i s acc).2.2,(fm n xs i s acc).1,())):=by
 intro xs
 induction xs with
 |nil=>
  intro i s acc N hd hl hN ok ha;obtain⟨N,rfl⟩:∃M,N=M+1:=⟨N-1,by simp at hN;omega⟩;have hil:¬(i:Int)<(ins.length:Int):=by simp at hl;omega
  have hB:oT pV ins (ins.length:Int) (i:Int) acc n.vars n.al (n.ag.map bq) n.aZ n.aN n.constraints (n.ae.map aI) (n.aj.map bc) ((cG n V).map (fun x=>dC x.1)) s.1 (dK n s.2)=atZ (.inr (acc,())):=by unfold oT;exact ax (aF hil) rfl
  unfold mc nt;simp only[bp,hB,fm];rfl
 |cons x xs ih=>
  intro i s acc N hd hl hN ok ha;rw[di]at hl hN;obtain⟨N,rfl⟩:∃M,N=M+1:=⟨N-1,atO⟩;have hil:i<ins.length:=atO
  have hx:ins[i]?=some x:=by have:=PP (fun l:List md=>l[0]?) hd;simpa using this
  have hd':ins.drop (i+1)=xs:=by have:=PP List.tail hd;simpa using this
  have g:gt (.sl .bool) ins (i:Int)=x:=bI (σ:=.sl .bool) hx;have bz:aw (i:Int) ins.length=true:=atT;have hlt:iL (i:Int) (ins.length:Int)=true:=atW;by_cases hw:x.length≠n.al.length
  .have es:pV (gt (.sl .bool) ins (i:Int),mc n (cG n V) s.1 (dK n s.2) ())=some (false,(1:Int),mc n (cG n V) s.1 (dK n s.2) ([],())):=by rw[g];exact ard hs (cG n V) s.1 x (dK n s.2) hw
   have hB:oT pV ins (ins.length:Int) (i:Int) acc n.vars n.al (n.ag.map bq) n.aZ n.aN n.constraints (n.ae.map aI) (n.aj.map bc) ((cG n V).map (fun x=>dC x.1)) s.1 (dK n s.2)=atZ (.inl ((i:Int),(9:Int),acc,())):=by unfold oT;exact aR hlt (aS bz (aB es (aR rfl rfl)))
   unfold mc nt;simp only[bp,hB,fm,IO hw];rfl
  .have hw':x.length=n.al.length:=by simpa using hw
   have es:pV (gt (.sl .bool) ins (i:Int),mc n (cG n V) s.1 (dK n s.2) ())=some (kh n (cz n s.1 s.2 x),(0:Int),mc n (cG n V) (kH n s x).1 (dK n (kH n s x).2) (lj n (cz n s.1 s.2 x),())):=by rw[g];exact ajw hs ft atO s.1 x s.2 ok hw'
   have okn:=ae2 hs ok (cz n s.1 s.2 x);cases hf:kh n (cz n s.1 s.2 x)with
   |false=>
    have hB:oT pV ins (ins.length:Int) (i:Int) acc n.vars n.al (n.ag.map bq) n.aZ n.aN n.constraints (n.ae.map aI) (n.aj.map bc) ((cG n V).map (fun x=>dC x.1)) s.1 (dK n s.2)=atZ (.inl ((i:Int),(16:Int),acc,())):=by unfold oT;exact aR hlt (aS bz (aB es (ax rfl (aR (show Bool.not (kh n (cz n s.1 s.2 x))=true by rw[hf];rfl) rfl))))
    unfold mc nt;simp only[bp,hB,fm,BT hw,IO hf];rfl
   |true=>
    have hB:oT pV ins (ins.length:Int) (i:Int) acc n.vars n.al (n.ag.map bq) n.aZ n.aN n.constraints (n.ae.map aI) (n.aj.map bc) ((cG n V).map (fun x=>dC x.1)) s.1 (dK n s.2)=atY (ins,(ins.length:Int),((i+1:Nat):Int),acc++[tD n s x],mc n (cG n V) (kH n s x).1 (dK n (kH n s x).2) ()):=by
     unfold oT;have e:∀(p q:Int) (A B:List qT),p=q->A=B->(atY (ins,(ins.length:Int),p,A,mc n (cG n V) (kH n s x).1 (dK n (kH n s x).2) ()):am Gw Gq)=atY (ins,(ins.length:Int),q,B,mc n (cG n V) (kH n s x).1 (dK n (kH n s x).2) ()):=by rintro _ _ _ _ rfl rfl;rfl
     exact aR hlt (aS bz (aB es (ax rfl (ax (show Bool.not (kh n (cz n s.1 s.2 x))=false by rw[hf];rfl) (aS (alH acc _ atO) (e _ _ _ _ (dL atO atO) rfl))))))
    have hI2:=ih (i+1) (kH n s x) (acc++[tD n s x]) N hd' atO atO (by rw[show 4096+4*(i+1)=4096+4*i+4 by omega];exact okn) (by rw[bU];simp;omega);have hp:fm n (x::xs) i s acc=fm n xs (i+1) (kH n s x) (acc++[tD n s x]):=by rw[fm,BT hw,BT (by rw[hf];simp)]
    rw[hp,<-hI2];unfold mc nt at hB |-;simp only[bp,hB]<;>rfl
end
def kT(n:ak)(bad:Int):List md->Nat->qj->Int×Int
 |[],i,s=>(-1,0)|x::xs,i,s=>if x.length≠n.al.length then((i:Int),9)else if kh n (cz n s.1 s.2 x)=false then((i:Int),16)
  else if xs=[]/\(lj n (cz n s.1 s.2 x)).getD bad.toNat false=false then((i:Int),16)else kT n bad xs (i+1) (kH n s x)
theorem ad5(n:ak)(bad:Int):∀(xs:List md) (i:Nat) (s:qj) (acc:List qT),
  ((fm n xs i s acc).2.2≠0->kT n bad xs i s=((fm n xs i s acc).2.1,(fm n xs i s acc).2.2)) /\
  ((fm n xs i s acc).2.2=0->(fm n xs i s acc).2.1 = -1/\(fm n xs i s acc).1.length=acc.length+xs.length/\(xs≠[]->∃c,(fm n xs i s acc).1[acc.length+xs.length-1]?=some c/\c.1.length=n.aN.length/\kT n bad xs i s=if c.1.getD bad.toNat false=false then(((i+xs.length-1:Nat):Int),16)else(-1,0))):=by
 intro xs
 induction xs with
 |nil=>intro i s acc;exact⟨fun h=>absurd rfl h,fun _=>⟨rfl,rfl,fun h=>absurd rfl h⟩⟩|cons x xs ih=>
  intro i s acc;by_cases hw:x.length≠n.al.length
  .rw[fm,kT,IO hw,IO hw];exact⟨fun _=>rfl,fun h=>by simp at h⟩
  .by_cases hf:kh n (cz n s.1 s.2 x)=false
   .rw[fm,kT,BT hw,BT hw,IO hf,IO hf];exact⟨fun _=>rfl,fun h=>by simp at h⟩
   .obtain⟨h1,h2⟩:=ih (i+1) (kH n s x) (acc++[tD n s x]);have hp:fm n (x::xs) i s acc=fm n xs (i+1) (kH n s x) (acc++[tD n s x]):=by rw[fm,BT hw,BT hf]
    rw[hp];cases xs with
    |nil=>
     refine⟨fun h=>absurd rfl h,fun _=>⟨rfl,by simp[fm],fun _=>⟨tD n s x,by simp[fm],by unfold tD lj;simp,?_⟩⟩⟩;rw[kT,BT hw,BT hf];by_cases hb:(lj n (cz n s.1 s.2 x)).getD bad.toNat false=false
     .rw[IO ⟨rfl,hb⟩];show((i:Int),(16:Int))=if(lj n (cz n s.1 s.2 x)).getD bad.toNat false=false then((i:Int),(16:Int))else((-1:Int),(0:Int))
      rw[IO hb]
     .rw[BT (fun h=>hb h.2)];show((-1:Int),(0:Int))=if(lj n (cz n s.1 s.2 x)).getD bad.toNat false=false then((i:Int),(16:Int))else((-1:Int),(0:Int))
      rw[BT hb]
    |cons y ys=>
     have hr:kT n bad (x::y::ys) i s=kT n bad (y::ys) (i+1) (kH n s x):=by rw[kT,BT hw,BT hf,BT atQ]
     rw[hr];refine⟨h1,fun h=>?_⟩;obtain⟨a1,a2,a3⟩:=h2 h;obtain⟨c,c1,c2,c3⟩:=a3 atQ;refine⟨a1,by rw[a2];simp;omega,fun _=>⟨c,?_,c2,?_⟩⟩
     .rw[<-c1];congr 1;simp;omega
     .rw[c3];simp only[di];rw[show i+1+(ys.length+1)-1=i+(ys.length+1+1)-1 by omega]
def ke(n:ak)(ls:md)(cs:List (List bA))(ins:List md)(bad:Int):Int×Int:=
 if Pl.eZ n≠0 then(-1,Pl.eZ n)else if bad<0\/(n.aN.length:Int)<=bad\/ins=[]then(-1,1)
 else if mT (bW n) ls cs≠0 then(-1,14)else kT n bad ins 0 (ls,cs)
theorem al0{n:ak}{ls:md}{cs:List (List bA)}{ins:List md}{bad:Int}(h:Pl.eZ n≠0):ke n ls cs ins bad=(-1,Pl.eZ n):=by unfold ke;rw[IO h]
theorem Ey{n:ak}{ls:md}{cs:List (List bA)}{ins:List md}{bad:Int}(h:Pl.eZ n=0)(h1:bad<0\/(n.aN.length:Int)<=bad\/ins=[]):ke n ls cs ins bad=(-1,1):=by unfold ke;rw[BT (fun q=>q h),IO h1]
theorem Zr{n:ak}{ls:md}{cs:List (List bA)}{ins:List md}{bad:Int}(h:Pl.eZ n=0)(h1:¬(bad<0\/(n.aN.length:Int)<=bad\/ins=[]))(h2:mT (bW n) ls cs≠0):ke n ls cs ins bad=(-1,14):=by unfold ke;rw[BT (fun q=>q h),BT h1,IO h2]
theorem Nq{n:ak}{ls:md}{cs:List (List bA)}{ins:List md}{bad:Int}(h:Pl.eZ n=0)(h1:¬(bad<0\/(n.aN.length:Int)<=bad\/ins=[]))(h2:mT (bW n) ls cs=0):ke n ls cs ins bad=kT n bad ins 0 (ls,cs):=by unfold ke;rw[BT (fun q=>q h),BT h1,BT (fun q=>q h2)]
theorem ad8{n:ak}{ls:md}{cs:List (List bA)}(h:mT (bW n) ls cs=0):Pl.eZ n=0/\lu (bW n) (ls,cs,())=true:=by
 unfold mT at h;by_cases q:jG (bW n) (ls,cs,())=0
 .have hz:=TO q;rw[lZ]at hz;refine⟨hz.1,?_⟩;unfold jG at q;rw[lZ,BT (fun w=>w hz.1)]at q;cases hf:lu (bW n) (ls,cs,())with|true=>rfl|false=>rw[hf]at q;simp at q
 .rw[eY q]at h;exact absurd h q
section
variable{n:ak}(ft:Fit n)(ls:md)(cs:List (List bA))(ins:List md)(bad:Int)
include ft
theorem akt(hok:tF cs)(hI:ins.length<=200)(hb:ls.length<=1000000)(hc:Pl.eZ n=0)(hf:lu (bW n) (ls,cs,())=true) :
  aqo (nt n (ls,cs,ins,bad,()))=some ((fm n ins 0 (ls,cs) []).2.1,(fm n ins 0 (ls,cs) []).2.2,(fm n ins 0 (ls,cs) []).1,()):=by
 obtain⟨V,hs,h0,hV,ha⟩:=G7 hc;have e1:=alu ft ls cs hc hf hb;rw[hV]at e1;have ok:=aeX hf hok;have e6:=alz hs ft ins hI ins 0 (ls,cs) [] NN rfl atO atU ok (rt _);have e6':aqn (ins,(Int.ofNat ins.length),(0:Int),[],mc n (cG n V) ls (dK n cs) ())=some (if(fm n ins 0 (ls,cs) []).2.2=0 then .inr ((fm n ins 0 (ls,cs) []).1,())else .inl ((fm n ins 0 (ls,cs) []).2.1,(fm n ins 0 (ls,cs) []).2.2,(fm n ins 0 (ls,cs) []).1,())):=e6;have hp:=(ad5 n bad ins 0 (ls,cs) []).2;by_cases hz:(fm n ins 0 (ls,cs) []).2.2=0
 .replace e6':=e6'.trans (PP some (IO hz))
  rw[hz,(hp hz).1];exact aB e1 (ax rfl (aB e6' rfl))
 .replace e6':=e6'.trans (PP some (BT hz))
  exact aB e1 (ax rfl (aB e6' rfl))
theorem aqu(hok:tF cs)(hI:ins.length<=200)(hb:ls.length<=1000000) :
  aqb (bW n,((ls,cs,()),ins,bad,()),())=some (if(ke n ls cs ins bad).2=0 then(fm n ins 0 (ls,cs) []).1 else[],(ke n ls cs ins bad).1,(ke n ls cs ins bad).2,()):=by
 have ec:=th ft;by_cases hc:Pl.eZ n=0
 .skip
  have hc1:Bool.not (iQ (Pl.eZ n) (0:Int))=false:=by rw[hc];rfl
  by_cases h1:bad<0
  .rw[Ey hc (.inl h1)];exact aB ec (ax hc1 (aR (aD h1) rfl))
  .have e1:iL bad (0:Int)=false:=aF h1;by_cases h2:(n.aN.length:Int)<=bad
   .rw[Ey hc (.inr (.inl h2))];exact aB ec (ax hc1 (ax e1 (aR (show bP false true (iE (Int.ofNat (List.length n.aN)) bad)=true from aD h2) rfl)))
   .have e2:bP false true (iE (Int.ofNat (List.length n.aN)) bad)=false:=aF h2;by_cases h3:ins=[]
    .rw[Ey hc (.inr (.inr h3))];exact aB ec (ax hc1 (ax e1 (ax e2 (aR (show bP false true (iQ (Int.ofNat ins.length) (0:Int))=true by rw[h3];rfl) rfl))))
    .have hl0:ins.length≠0:=fun h=>h3 (ww h);have e3:bP false true (iQ (Int.ofNat ins.length) (0:Int))=false:=aF (by show ¬(ins.length:Int)=0;omega);have hno:¬(bad<0\/(n.aN.length:Int)<=bad\/ins=[]):=fun h=>by
      rcases h with h|h|h
      .exact h1 h
      .exact h2 h
      .exact h3 h
     have el:=amS (bW n) ls cs (ft' ft) (aeG ft).1 (aeG ft).2;by_cases h4:mT (bW n) ls cs=0
     .rw[Nq hc hno h4];obtain⟨_,hf⟩:=ad8 h4;have ep:=akt ft ls cs ins bad hok hI hb hc hf;obtain⟨p1,p2⟩:=ad5 n bad ins 0 (ls,cs) [];have e4:Bool.not (iQ (mT (bW n) ls cs) (0:Int))=false:=by rw[h4];rfl
      by_cases hz:(fm n ins 0 (ls,cs) []).2.2=0
      .obtain⟨q1,q2,q3⟩:=p2 hz;obtain⟨c,c1,c2,c3⟩:=q3 h3;have hl:(fm n ins 0 (ls,cs) []).1.length=ins.length:=by rw[q2];simp
       have hc0:([]:List qT).length+ins.length-1=ins.length-1:=atQ
       rw[hc0]at c1;rw[show 0+ins.length-1=ins.length-1 by omega]at c3;rw[c3];generalize fm n ins 0 (ls,cs) []=P at ep hz hl c1;obtain⟨PL,P1,P2⟩:=P;simp only at hz hl c1;subst hz;have hw1:qr ((Int.ofNat PL.length)-(1:Int))=((ins.length-1:Nat):Int):=dL (by show(PL.length:Int)-1=_;omega) atO;have gL:gt kO PL (qr ((Int.ofNat PL.length)-(1:Int)))=c:=by rw[hw1];exact bI (σ:=kO) c1
       have i1:aw (qr ((Int.ofNat PL.length)-(1:Int))) PL.length=true:=by rw[hw1];exact atT
       have i2:aw bad (List.length (gt kO PL (qr ((Int.ofNat PL.length)-(1:Int)))).1)=true:=by rw[gL];exact aU ⟨atO,by show bad<((c.1.length:Nat):Int);omega⟩
       have gb:gt .bool (gt kO PL (qr ((Int.ofNat PL.length)-(1:Int)))).1 bad=c.1.getD bad.toNat false:=by rw[gL];exact afd atO
       by_cases hcb:c.1.getD bad.toNat false=false
       .rw[IO hcb];have e:∀p q:Int,p=q->(some ([],p,(16:Int),()):Option (TL Gr))=some ([],q,(16:Int),()):=by rintro _ _ rfl;rfl
        exact aB ec (ax hc1 (ax e1 (ax e2 (ax e3 (aB el (ax e4 (aB ep (ax rfl (aS i1 (aS i2 (aR (show Bool.not (gt .bool (gt kO PL (qr ((Int.ofNat PL.length)-(1:Int)))).1 bad)=true by rw[gb,hcb];rfl) (e _ _ hw1))))))))))))
       .rw[BT hcb];have hcb':c.1.getD bad.toNat false=true:=by simpa using hcb
        exact aB ec (ax hc1 (ax e1 (ax e2 (ax e3 (aB el (ax e4 (aB ep (ax rfl (aS i1 (aS i2 (ax (show Bool.not (gt .bool (gt kO PL (qr ((Int.ofNat PL.length)-(1:Int)))).1 bad)=false by rw[gb,hcb'];rfl) rfl)))))))))))
      .rw[p1 hz,BT (show ¬((fm n ins 0 (ls,cs) []).2.1,(fm n ins 0 (ls,cs) []).2.2).2=0 from hz)];exact aB ec (ax hc1 (ax e1 (ax e2 (ax e3 (aB el (ax e4 (aB ep (aR (by show Bool.not (decide _)=true;rw[eY hz];rfl) rfl))))))))
     .rw[Zr hc hno h4];exact aB ec (ax hc1 (ax e1 (ax e2 (ax e3 (aB el (aR (by show Bool.not (decide _)=true;rw[eY h4];rfl) rfl))))))
 .rw[al0 hc,BT (show ¬((-1:Int),Pl.eZ n).2=0 from hc)];exact aB ec (aR (by show Bool.not (decide _)=true;rw[eY hc];rfl) rfl)
theorem XW(hok:tF cs)(hI:ins.length<=200)(hb:ls.length<=1000000) :
  aqh (bW n,((ls,cs,()),ins,bad,()),())=some ((ke n ls cs ins bad).1,(ke n ls cs ins bad).2,()):=aB (aqu ft ls cs ins bad hok hI hb) rfl
end
def xC(I:mt)(x:md):md:=I.map fun i=>x.getD i false
section
variable{n:ak}{V:Nat}{s:S2}(hs:bR n V)(h0:cZ n=0)(ha:dT (aY n) V=true)(M:iZ n V s)
include hs h0 ha M
theorem ah1{ls:md}{cs:List (List bA)}(ok:nR n K ls cs){x:md}(hx:x.length=n.al.length) :
  lj (dW n s V) (cz (dW n s V) (pw n s ls) (oB n s cs) (xC (dm n s) x))=lj n (cz n ls cs x) /\
  kh (dW n s V) (cz (dW n s V) (pw n s ls) (oB n s cs) (xC (dm n s) x))=kh n (cz n ls cs x) /\
  jI (dW n s V) (cz (dW n s V) (pw n s ls) (oB n s cs) (xC (dm n s) x))=pw n s (jI n (cz n ls cs x)) /\
  jY (dW n s V) (oB n s cs) (cz (dW n s V) (pw n s ls) (oB n s cs) (xC (dm n s) x))=oB n s (jY n cs (cz n ls cs x)):=
 have E:=vJ hs h0 ha M;have C:=vK hs h0 ha M;have A:=XY hs h0 ha M
 ⟨aiB hs h0 M E ha C A ok.rK hx,aiC hs h0 M E ha C A ok.rK hx,ah3 hs h0 M E ha C A ok.rK hx,ah4 hs h0 M E ha C A ok.rK hx ok.rI⟩
end
abbrev US:List Sh:=[]
abbrev BM:List Sh:=[.bool]
abbrev UX:=TL US->Option (TL BM)
abbrev Kl:=Kd 17 US BM
def Km(F0:U6)(F1:DM)  :Option (TL BM):=
 az (F1 (((2:Int),[],(((1:Int),(3:Int),(0:Int),())::(((2:Int),(2:Int),(0:Int),())::[])),[],((2:Int)::[]),[],[],[],()),())) fun x0=>
 br (iQ x0.2.1 (0:Int))
 (
  br (bP true (iQ x0.1.1.1 (1:Int)) false)
  (
   az (F0 (x0.1.2.2.1,((0:Int)::[]),())) fun x1=>
   br (bP true x1.1 false)
   (
    some ((bP true (iQ (Int.ofNat (List.length x0.1.1.2.2.2.2.1)) (1:Int)) false),()))
   (
    some (false,())))
  (
   some (false,())))
 (
  some (false,()))
def agd(c0:Ku)(c1:yf) :Kl:=⟨fun d=>Km c0.F c1.F  ,pZ Tryz.func17 33 (kD c0 (kD c1 k0)) e0 1 (sS l0) fun d=>atP⟩
def UW:Kl:=agd U5 DL
def af8:UX:=UW.F
set_option maxRecDepth 100000
def mC:ak:=⟨2,[],[⟨1,3,0⟩,⟨2,2,0⟩],[],[2],[],[],[]⟩
theorem ak5:(dW mC (oL mC 2) 2).vars=1/\cJ (de mC (oL mC 2))=[0]/\(dW mC (oL mC 2) 2).aN.length=1:=⟨atP,atP,atP⟩
theorem DE:af8 ()=some (true,()):=by
 have hc:Pl.eZ mC=0:=atP
 obtain⟨V,hs,h0,_,ha⟩:=G7 hc;obtain rfl:V=2:=by have:=hs.vars;have h:mC.vars=2:=rfl;omega
 obtain⟨s,M,e⟩:=ND hs h0 ha;obtain rfl:=iZ.one (aia hs) M;obtain⟨c1,c2,c3⟩:=ak5;have hS:Ko (cJ (de mC (oL mC 2)),([0]:jp),())=some (true,()):=by rw[c2];exact ahx [0] atS
 have h3:bP true (iQ (Int.ofNat (List.length (dW mC (oL mC 2) 2).aN)) (1:Int)) false=true:=by rw[c3];rfl
 have h1:bP true (iQ (dW mC (oL mC 2) 2).vars (1:Int)) false=true:=by rw[c1];rfl
 show Km Ko DG=_;unfold Km;have fin:∀b:Bool,b=true->(some (b,()):Option (TL BM))=some (true,()):=by rintro _ rfl;rfl
 exact(bS e).trans ((dc rfl).trans ((dc h1).trans ((bS hS).trans ((dc rfl).trans (fin _ h3)))))
abbrev UK:List Sh:=[cA,nm]
abbrev Kc:List Sh:=[.bool]
abbrev af3:=TL UK->Option (TL Kc)
abbrev UL:=Kd 6 UK Kc
def af1(F0:Xe)(F1:adH)(F2:DM)(F3:UX)(F4:acx)(a0:Sh.T cA)(a1:Sh.T nm):Option (TL Kc):=
 az (F4 (a0,(a1.1.1,a1.1.2.1,()),a1.2.1,())) fun x0=>
 br (Bool.not x0.1)
 (
  az (F3 ()) fun x1=>
  some (x1.1,()))
 (
  az (F2 (a0,())) fun x1=>
  br (Bool.not (iQ x1.2.1 (0:Int)))
  (
   az (F3 ()) fun x2=>
   some (x2.1,()))
  (
   az (F1 (x1.1.1,((a1.1.1,a1.1.2.1,()),a1.2),())) fun x2=>
   az (F0 (a0,(x1.1.1,x1.1.2.1,x1.1.2.2.1,x1.1.2.2.2.1,()),((a1.1.1,a1.1.2.1,()),a1.2),())) fun x3=>
   br (Bool.not (iQ x2.2.1 (0:Int)))
   (
    az (F3 ()) fun x4=>
    some (x4.1,()))
   (
    az (F1 (a0,((x3.1.1.1,x3.1.1.2.1,()),x3.1.2.1,x3.1.2.2.1,()),())) fun x4=>
    br (iQ x3.2.1 (0:Int))
    (
     br (bP true (iQ x4.2.1 (0:Int)) false)
     (
      az (F3 ()) fun x5=>
      some ((bP true x5.1 false),()))
     (
      some (false,())))
    (
     some (false,())))))
def af2(c0:LX)(c1:Qr)(c2:yf)(c3:Kl)(c4:O9) :UL:=⟨u2 (af1 c0.F c1.F c2.F c3.F c4.F),pD Tryz.func6 61 (kD c0 (kD c1 (kD c2 (kD c3 (kD c4 k0))))) e0 1 (sS l0) fun d=>atP⟩
def UM:UL:=af2 Xd adI DL UW acy
def UJ:af3:=UM.F
