import Derived.Test.YtkcpdpplobhpaaaGreatKNd
set_option linter.unusedVariables false
set_option linter.unusedSimpArgs false
set_option linter.unnecessarySimpa false
/- memories, states of netlists, the documents beside them (printed by VTool.lean). -/
namespace Go.Proofs.YtkcpdpplobhpaaaGreat.V
open Go Go.RowKit
set_option maxRecDepth 1000000
abbrev YI:List Sh:=[(.int .i64)]
abbrev La:List Sh:=[(.int .i64)]
abbrev Ig:=TL YI->Option (TL La)
abbrev ym:=Kd 126 YI La
def tw(a0:Int):Option (TL La):=some ((bO (iL (bO (iL (64:Int) a0) (64:Int) a0) (0:Int)) (0:Int) (bO (iL (64:Int) a0) (64:Int) a0)),())
def ajU  :ym:=⟨u1 tw,pD Tryz.func126 6 k0 e0 1 (sS l0) fun d=>by kernel_rfl⟩
def Ih:ym:=ajU
def AO:Ig:=Ih.F
abbrev YQ:List Sh:=[(.int .u64),(.int .i64)]
abbrev Li:List Sh:=[.bool]
abbrev yr:=TL YQ->Option (TL Li)
abbrev rO:=Kd 196 YQ Li
def Lx(F0:Ig)(a0 a1:Int):Option (TL Li):=
 ai (F0 (a1,())) fun x0=>
 ah (iE (0:Int) x0.1)<|
 some ((iQ (Int.fdiv a0 (HPow.hPow (2:Int) (Min.min (Int.toNat x0.1) 64))) (0:Int)),())
def akG(c0:ym) :rO:=⟨u2 (Lx c0.F),pD Tryz.func196 10 (kD c0 k0) e0 1 (sS l0) fun d=>by kernel_rfl⟩
def yu:rO:=akG Ih
def AJ:yr:=yu.F
abbrev Ay:ae:={ T:=[(0,.int .i64),(1,.int .i64),(2,.fz aq),(28,.fz aq),(29,.int .i64),(30,.int .i64)],h:=[],nx:=0 }
abbrev pt:List (Nat×LO):=[(0,.cells ep 27),(1,.cells [.fz .bool,.fz (.sl aq)] 40)]
abbrev sO:List (Nat×LO):=[(0,.cells [.int .i64,.int .i64,.mp 1] 220),(1,.map .u64 (.int .u64))]
abbrev sP:ae:={ T:=[(4,.int .i64)],h:=[],nx:=0 }
abbrev sQ:ae:={ T:=[],h:=[],nx:=0 }
abbrev Ah:List (Ev.Ex×ae):=[(.ret,{ T:=[(6,.bool)],h:=[],nx:=0 }),((.exit 0),sQ)]
abbrev VG:=TL Ay.σs->Option (Out Ah)
abbrev H2:=Ld 0 68 (aT [0] (aG Tryz.f144)) Ay Ah
def tu(F0:yr)(t0 t1:Int)(t2 t28:List (Sh.T aq))(t29 t30:Int):Option (TL Ay.σs⊕Out Ah):=
 br (iL t30 t29)
 (
  ah (ar t30 (List.length t28))<|
  br (iQ (gt aq t28 t30).2.1 (0:Int))
  (
   some (.inr (.inl (false,()))))
  (
   ai (F0 ((gt aq t28 t30).1,(t0,()))) fun x0=>
   br (aR false true (Bool.not x0.1))
   (
    some (.inr (.inl (false,()))))
   (
    ai (F0 ((gt aq t28 t30).2.1,(t1,()))) fun x1=>
    br (aR false true (Bool.not x1.1))
    (
     some (.inr (.inl (false,()))))
    (
     br (iL (0:Int) t30)
     (
      ah (ar (IntKind.wrap .i64 (t30-(1:Int))) (List.length t2))<|
      br (aR false true (aR true (iE (gt aq t28 t30).1 (gt aq t2 (IntKind.wrap .i64 (t30-(1:Int)))).1) false))
      (
       some (.inr (.inl (false,()))))
      (
       some (.inl (t0,(t1,(t2,(t28,(t29,((IntKind.wrap .i64 (t30+(1:Int))),())))))))))
     (
      some (.inl (t0,(t1,(t2,(t28,(t29,((IntKind.wrap .i64 (t30+(1:Int))),()))))))))))))
 (
  some (.inr (.inr ())))
def akp(c0:rO) :H2:=aU (u6 (tu c0.F)) (pL (kD c0 k0) e0 1 l0 fun d=>by kernel_rfl)
def ako:H2:=akp yu
def K5:VG:=aE (u6 (tu AJ)) NN
abbrev YP:List Sh:=[(.int .i64),(.int .i64),(.sl aq)]
abbrev Lh:List Sh:=[.bool]
abbrev VQ:=TL YP->Option (TL Lh)
abbrev Ik:=Kd 144 YP Lh
def Lq(F0:yr)(L4:VG)(a0 a1:Int)(a2:List (Sh.T aq)):Option (TL Lh):=
 br (iL a0 (1:Int))
 (
  some (false,()))
 (
  br (aR false true (iL (62:Int) a0))
  (
   some (false,()))
  (
   br (aR false true (iL a1 (1:Int)))
   (
    some (false,()))
   (
    br (aR false true (iL (64:Int) a1))
    (
     some (false,()))
    (
     br (aR false true (iL (4096:Int) (Int.ofNat (List.length a2))))
     (
      some (false,()))
     (
      ai (L4 (a0,(a1,(a2,(a2,((Int.ofNat (List.length a2)),((0:Int),()))))))) fun x0=>
      (match x0 with|.inl x1=>some (x1.1,())|.inr x1=>some (true,())
      ))))))
def akE(c0:rO)(M4:H2):Ik:=⟨u3 (Lq c0.F M4.L),pD Tryz.func144 68 (kD c0 k0) e0 1 (sS (sC M4 l0)) fun d=>by kernel_rfl⟩
def VR:Ik:=akE yu ako
def Yv:VQ:=VR.F
abbrev Yl:ae:={ T:=[(0,.int .i64),(1,.int .i64),(2,.fz aq)],h:=[],nx:=0 }
abbrev Kw:List (Ev.Ex×ae):=[(.ret,{ T:=[(0,.nilp),(1,.int .i64)],h:=[],nx:=0 }),(.ret,{ T:=[(0,.ptr 0 0),(1,.int .i64)],h:=sO,nx:=2 })]
abbrev rV:=TL Yl.σs->Option (Out Kw)
abbrev oV:=Kb 74 3 Yl 2 Kw
abbrev AH:ae:={ T:=[(8,.ptr 0 0),(21,.fz aq),(22,.int .i64),(23,.int .i64)],h:=sO,nx:=2 }
abbrev Az:List (Ev.Ex×ae):=[((.exit 0),{ T:=[(8,.ptr 0 0)],h:=sO,nx:=2 })]
abbrev VS:=TL AH.σs->Option (Out Az)
abbrev VT:=Ld 0 37 (aT [0] (aG Tryz.f74)) AH Az
def A4(t21:List (Sh.T aq))(t22 t23 b0_0 b0_1:Int)(b1:List (Sh.T aq)):Option (TL AH.σs⊕Out Az):=
 br (iL t23 t22)
 (
  ah (ar t23 (List.length t21))<|
  some (.inl (t21,(t22,((IntKind.wrap .i64 (t23+(1:Int))),(b0_0,(b0_1,((@cu (.int .u64) (gt aq t21 t23).1 (gt aq t21 t23).2.1 b1),()))))))))
 (
  some (.inr (b0_0,(b0_1,(b1,())))))
def akF  :VT:=aU (u6 A4) (pL k0 e0 1 l0 fun d=>by kernel_rfl)
def K7:VS:=aE (u6 A4) NN
def LC(F0:VQ)(L5:VS)(t0 t1:Int)(t2:List (Sh.T aq)):Option (Out Kw):=
 ai (F0 (t0,(t1,(t2,())))) fun x0=>
 br (Bool.not x0.1)
 (
  some (.inl ((14:Int),())))
 (
  ai (L5 (t2,((Int.ofNat (List.length t2)),((0:Int),(t0,(t1,([],()))))))) fun x1=>
  some (.inr ((0:Int),x1)))
def akN(c0:Ik)(M5:VT):oV:=⟨u3 (LC c0.F M5.L),pB Tryz.func74 37 (kD c0 k0) e0 1 (sS (sC M5 l0)) fun d=>by kernel_rfl⟩
def rW:oV:=akN VR akF
def th:rV:=rW.F
abbrev Yz:ae:={ T:=[(0,.ptr 0 0),(1,.int .u64),(2,.int .u64)],h:=sO,nx:=2 }
abbrev AK:List (Ev.Ex×ae):=[(.ret,{ T:=[(0,.bool)],h:=sO,nx:=2 })]
abbrev GP:=TL Yz.σs->Option (Out AK)
abbrev xB:=Kb 150 3 Yz 1 AK
def Lj(F0:yr)(t1 t2 b0_0 b0_1:Int)(b1:List (Sh.T aq)):Option (Out AK):=
 ai (F0 (t1,(b0_0,()))) fun x0=>
 br (aR false true (Bool.not x0.1))
 (
  some (false,(b0_0,(b0_1,(b1,())))))
 (
  ai (F0 (t2,(b0_1,()))) fun x1=>
  br (aR false true (Bool.not x1.1))
  (
   some (false,(b0_0,(b0_1,(b1,())))))
  (
   br (iQ t2 (0:Int))
   (
    some (true,(b0_0,(b0_1,((@fY (.int .u64) t1 b1),())))))
   (
    some (true,(b0_0,(b0_1,((@cu (.int .u64) t1 t2 b1),())))))))
def ajv(c0:rO) :xB:=⟨u5 (Lj c0.F),pB Tryz.func150 42 (kD c0 k0) e0 1 (sS l0) fun d=>by kernel_rfl⟩
def GQ:xB:=ajv yu
def LP:GP:=GQ.F
abbrev YB:ae:={ T:=[(0,.agg ep),(1,.agg [.fz .bool,.fz (.sl aq)])],h:=[],nx:=0 }
abbrev KY:List (Ev.Ex×ae):=[(.ret,{ T:=[(0,.rhd 0),(1,.int .i64)],h:=[(0,.rams 220)],nx:=1 })]
abbrev yQ:=TL YB.σs->Option (Out KY)
abbrev rS:=Kb 77 2 YB 2 KY
abbrev AF:ae:={ T:=[(3,.ptr 0 0),(4,.rhd 1),(27,.fz ab),(28,.int .i64),(29,.int .i64)],h:=[(0,.cells [.fz .bool,.fz (.sl aq)] 40),(1,.rams 220)],nx:=2 }
abbrev Au:List (Ev.Ex×ae):=[(.ret,{ T:=[(4,.nils),(5,.int .i64)],h:=[],nx:=0 }),((.exit 0),{ T:=[(4,.rhd 0)],h:=[(0,.rams 220)],nx:=1 })]
abbrev VN:=TL AF.σs->Option (Out Au)
abbrev Ij:=Ld 0 56 (aT [0] (aG Tryz.f77)) AF Au
def tz(F0:rV)(t27:List (Sh.T ab))(t28 t29:Int)(b0_0:List Bool)(b0_1:List (List (Sh.T aq)))(b1:List (Sh.T (.agg [(.int .i64),(.int .i64),(.sl aq)]))):Option (TL AF.σs⊕Out Au):=
 br (iL t29 t28)
 (
  ah (ar t29 (List.length t27))<|
  ah (ar t29 (List.length b0_1))<|
  ai (F0 ((gt ab t27 t29).1,((gt ab t27 t29).2.1,((gt (.sl aq) b0_1 t29),())))) fun x0=>
  (match x0 with
  |.inl x1=>
   ah (Bool.not (iQ x1.1 (0:Int)))<|
   some (.inr (.inl (x1.1,())))
  |.inr x1=>
   br (Bool.not (iQ x1.1 (0:Int)))
   (
    some (.inr (.inl (x1.1,()))))
   (
    ah (room 8 (List.length (ap b1 ((j6 x1.2.1 x1.2.2.1 x1.2.2.2.1)::[]))))<|
    some (.inl (t27,(t28,((IntKind.wrap .i64 (t29+(1:Int))),(b0_0,(b0_1,((ap b1 ((j6 x1.2.1 x1.2.2.1 x1.2.2.2.1)::[])),()))))))))
  ))
 (
  some (.inr (.inr (b1,()))))
def akB(c0:oV) :Ij:=aU (u6 (tz c0.F)) (pL (kB c0 k0) e0 1 l0 fun d=>by kernel_rfl)
def akA:Ij:=akB rW
def K6:VN:=aE (u6 (tz th)) NN
def Lz(F0:rV)(L4:VN)(t0_0:Int)(t0_1:List Int)(t0_2:List (Sh.T aa))(t0_3 t0_4 t0_5:List Int)(t0_6:List (Sh.T ab))(t0_7:List (Sh.T aa))(t1_0:List Bool)(t1_1:List (List (Sh.T aq))):Option (Out KY):=
 br (Bool.not (iQ (Int.ofNat (List.length t1_0)) (Int.ofNat (List.length t0_2))))
 (
  some ((14:Int),([],())))
 (
  br (aR false true (Bool.not (iQ (Int.ofNat (List.length t1_1)) (Int.ofNat (List.length t0_6)))))
  (
   some ((14:Int),([],())))
  (
   ai (L4 (t0_6,((Int.ofNat (List.length t0_6)),((0:Int),(t1_0,(t1_1,([],()))))))) fun x0=>
   (match x0 with|.inl x1=>some (x1.1,([],()))|.inr x1=>some ((0:Int),(x1.1,()))
   )))
def akJ(c0:oV)(M4:Ij):rS:=⟨gG (Lz c0.F M4.L),pB Tryz.func77 56 (kB c0 k0) e0 1 (sS (sC M4 l0)) fun d=>by kernel_rfl⟩
def yR:rS:=akJ rW akA
def YM:yQ:=yR.F
abbrev YT:List Sh:=[ba,bZ]
abbrev Lo:List Sh:=[(.int .i64)]
abbrev Iy:=TL YT->Option (TL Lo)
abbrev yH:=Kd 72 YT Lo
def Zy5(F0:nq)(F1:yQ)(a0:Sh.T ba)(a1:Sh.T bZ):Option (TL Lo):=
 ai (F0 (a0,())) fun x0=>
 br (Bool.not (iQ x0.1 (0:Int)))
 (
  some (x0.1,()))
 (
  ai (F1 (a0.1,(a0.2.1,(a0.2.2.1,(a0.2.2.2.1,(a0.2.2.2.2.1,(a0.2.2.2.2.2.1,(a0.2.2.2.2.2.2.1,(a0.2.2.2.2.2.2.2.1,a1))))))))) fun x1=>
  some (x1.1,()))
def akM(c0:ma)(c1:rS) :yH:=⟨u2 (Zy5 c0.F c1.F),pD Tryz.func72 20 (kD c0 (kB c1 k0)) e0 1 (sS l0) fun d=>by kernel_rfl⟩
def Iz:yH:=akM ns yR
def Zhp:Iy:=Iz.F
abbrev Ag:ae:={ T:=[(3,.ptr 0 0),(40,.fz ab),(41,.int .i64),(42,.int .i64)],h:=[(0,.cells [.fz .bool,.fz (.sl aq)] 40)],nx:=1 }
abbrev z7:List (Ev.Ex×ae):=[(.ret,sP),((.exit 2),sQ)]
abbrev U6:=TL Ag.σs->Option (Out z7)
abbrev U7:=Ld 0 60 (aT [1] (aG Tryz.f54)) Ag z7
abbrev Ax:ae:={ T:=[(2,.ptr 0 0),(3,.ptr 1 0),(17,.fz aa),(18,.int .i64),(19,.int .i64)],h:=pt,nx:=2 }
abbrev Af:List (Ev.Ex×ae):=[(.ret,sP),((.exit 0),{ T:=[(2,.ptr 0 0),(3,.ptr 1 0)],h:=pt,nx:=2 })]
abbrev VE:=TL Ax.σs->Option (Out Af)
abbrev VF:=Ld 0 60 (aT [0] (aG Tryz.f54)) Ax Af
def tt(t17:List (Sh.T aa))(t18 t19 b0_0:Int)(b0_1:List Int)(b0_2:List (Sh.T aa))(b0_3 b0_4 b0_5:List Int)(b0_6:List (Sh.T ab))(b0_7:List (Sh.T aa))(b1_0:List Bool)(b1_1:List (List (Sh.T aq))):Option (TL Ax.σs⊕Out Af):=
 br (iL t19 t18)
 (
  ah (ar t19 (List.length t17))<|
  br (Bool.not (iQ (gt aa t17 t19).2.2.1 (2:Int)))
  (
   ah (ar t19 (List.length b1_0))<|
   br (aR true (Bool.not (@decide _ (Bool.decEq (iQ (gt aa t17 t19).2.2.1 (1:Int)) (gt .bool b1_0 t19)))) false)
   (
    some (.inr (.inl ((14:Int),()))))
   (
    some (.inl (t17,(t18,((IntKind.wrap .i64 (t19+(1:Int))),(b0_0,(b0_1,(b0_2,(b0_3,(b0_4,(b0_5,(b0_6,(b0_7,(b1_0,(b1_1,()))))))))))))))))
  (
   some (.inl (t17,(t18,((IntKind.wrap .i64 (t19+(1:Int))),(b0_0,(b0_1,(b0_2,(b0_3,(b0_4,(b0_5,(b0_6,(b0_7,(b1_0,(b1_1,()))))))))))))))))
 (
  some (.inr (.inr (b0_0,(b0_1,(b0_2,(b0_3,(b0_4,(b0_5,(b0_6,(b0_7,(b1_0,(b1_1,())))))))))))))
def akn  :VF:=aU (fC tt) (pL k0 e0 1 l0 fun d=>by kernel_rfl)
def YF:VE:=aE (fC tt) NN
def tp(t40:List (Sh.T ab))(t41 t42:Int)(b0_0:List Bool)(b0_1:List (List (Sh.T aq))):Option (TL Ag.σs⊕Out z7):=
 br (iL t42 t41)
 (
  ah (ar t42 (List.length t40))<|
  br (Bool.not (gt ab t40 t42).2.2.1)
  (
   ah (ar t42 (List.length b0_1))<|
   br (aR true (iL (0:Int) (Int.ofNat (List.length (gt (.sl aq) b0_1 t42)))) false)
   (
    some (.inr (.inl ((14:Int),()))))
   (
    some (.inl (t40,(t41,((IntKind.wrap .i64 (t42+(1:Int))),(b0_0,(b0_1,()))))))))
  (
   some (.inl (t40,(t41,((IntKind.wrap .i64 (t42+(1:Int))),(b0_0,(b0_1,()))))))))
 (
  some (.inr (.inr ())))
def ajT  :U7:=aU (u5 tp) (pL k0 e0 1 l0 fun d=>by kernel_rfl)
def YC:U6:=aE (u5 tp) NN
abbrev YO:List Sh:=[ba,bZ]
abbrev Lf:List Sh:=[(.int .i64)]
abbrev IH:=TL YO->Option (TL Lf)
abbrev yG:=Kd 54 YO Lf
def Zwg(F0:Iy)(L5:VE)(L11:U6)(a0:Sh.T ba)(a1:Sh.T bZ):Option (TL Lf):=
 ai (F0 (a0,(a1,()))) fun x0=>
 br (Bool.not (iQ x0.1 (0:Int)))
 (
  some (x0.1,()))
 (
  ai (L5 (a0.2.2.1,((Int.ofNat (List.length a0.2.2.1)),((0:Int),(a0.1,(a0.2.1,(a0.2.2.1,(a0.2.2.2.1,(a0.2.2.2.2.1,(a0.2.2.2.2.2.1,(a0.2.2.2.2.2.2.1,(a0.2.2.2.2.2.2.2.1,a1)))))))))))) fun x1=>
  (match x1 with
  |.inl x2=>some (x2.1,())|.inr x2=>
   ai (L11 (x2.2.2.2.2.2.2.1,((Int.ofNat (List.length x2.2.2.2.2.2.2.1)),((0:Int),x2.2.2.2.2.2.2.2.2)))) fun x3=>
   (match x3 with|.inl x4=>some (x4.1,())|.inr x4=>some ((0:Int),())
   )
  ))
def akD(c0:yH)(M5:VF)(M11:U7):yG:=⟨u2 (Zwg c0.F M5.L M11.L),pD Tryz.func54 60 (kD c0 k0) e0 1 (sS (sC M5 (sC M11 l0))) fun d=>by kernel_rfl⟩
def II:yG:=akD Iz akn ajT
def Lg:IH:=II.F
abbrev AG:ae:={ T:=[(1,.ptr 0 0),(2,.ptr 1 0),(10,.fz aa),(11,.int .i64),(12,.int .i64)],h:=[(0,.cells ep 27),(1,.cells [.hd 2 .bool,.nils] 40),(2,.arr .bool 4)],nx:=3 }
abbrev Aw:List (Ev.Ex×ae):=[((.exit 0),{ T:=[(1,.ptr 0 0),(2,.ptr 1 0)],h:=[(0,.cells ep 27),(1,.cells [.hd 2 .bool,.nils] 40),(2,.arr .bool 4)],nx:=3 })]
abbrev VO:=TL AG.σs->Option (Out Aw)
abbrev VP:=Ld 0 31 (aT [0] (aG Tryz.f117)) AG Aw
def AZ(t10:List (Sh.T aa))(t11 t12 b0_0:Int)(b0_1:List Int)(b0_2:List (Sh.T aa))(b0_3 b0_4 b0_5:List Int)(b0_6:List (Sh.T ab))(b0_7:List (Sh.T aa))(b2:List Bool):Option (TL AG.σs⊕Out Aw):=
 br (iL t12 t11)
 (
  ah (ar t12 (List.length t10))<|
  ah (room 1 (List.length (ap b2 ((iQ (gt aa t10 t12).2.2.1 (1:Int))::[]))))<|
  some (.inl (t10,(t11,((IntKind.wrap .i64 (t12+(1:Int))),(b0_0,(b0_1,(b0_2,(b0_3,(b0_4,(b0_5,(b0_6,(b0_7,((ap b2 ((iQ (gt aa t10 t12).2.2.1 (1:Int))::[])),()))))))))))))))
 (
  some (.inr (b0_0,(b0_1,(b0_2,(b0_3,(b0_4,(b0_5,(b0_6,(b0_7,(b2,())))))))))))
def akC  :VP:=aU (eI AZ) (pL k0 e0 1 l0 fun d=>by kernel_rfl)
def YG:VO:=aE (eI AZ) NN
abbrev YS:List Sh:=[ba]
abbrev Ln:List Sh:=[bZ]
abbrev Wm:=TL YS->Option (TL Ln)
abbrev Ix:=Kd 117 YS Ln
def Zy4(F0:nq)(L4:VO)(a0:Sh.T ba):Option (TL Ln):=
 ai (F0 (a0,())) fun x0=>
 br (Bool.not (iQ x0.1 (0:Int)))
 (
  some (([],([],())),()))
 (
  ai (L4 (a0.2.2.1,((Int.ofNat (List.length a0.2.2.1)),((0:Int),(a0.1,(a0.2.1,(a0.2.2.1,(a0.2.2.2.1,(a0.2.2.2.2.1,(a0.2.2.2.2.2.1,(a0.2.2.2.2.2.2.1,(a0.2.2.2.2.2.2.2.1,([],()))))))))))))) fun x1=>
  ah (both (iE (0:Int) (Int.ofNat (List.length x1.2.2.2.2.2.2.1))) (both (iE (Int.ofNat (List.length x1.2.2.2.2.2.2.1)) (Int.ofNat (List.length x1.2.2.2.2.2.2.1))) (iE ((Int.ofNat 24)*(Int.ofNat (List.length x1.2.2.2.2.2.2.1))) (281474976710656:Int))))<|
  some ((x1.2.2.2.2.2.2.2.2.1,((List.replicate (Int.toNat (Int.ofNat (List.length x1.2.2.2.2.2.2.1))) (Sh.zero (.sl aq))),())),()))
def akK(c0:ma)(M4:VP):Ix:=⟨u1 (Zy4 c0.F M4.L),pD Tryz.func117 31 (kD c0 k0) e0 1 (sS (sC M4 l0)) fun d=>by kernel_rfl⟩
def Wn:Ix:=akK ns akC
def Zqa:Wm:=Wn.F
abbrev Kc:ae:={ T:=[(0,.int .u64),(1,.int .i64),(5,.int .i64)],h:=[],nx:=0 }
abbrev J8:List (Ev.Ex×ae):=[((.exit 0),{ T:=[(0,.int .u64)],h:=[],nx:=0 })]
abbrev TF:=TL Kc.σs->Option (Out J8)
abbrev TG:=Ld 0 19 (aT [0] (aG Tryz.f127)) Kc J8
def AA(t0 t1 t5:Int):Option (TL Kc.σs⊕Out J8):=
 br (iL t5 t1)
 (
  br (aR true (iL t5 (64:Int)) false)
  (
   some (.inl ((IntKind.wrap .u64 (Int.tdiv t0 (2:Int))),(t1,((IntKind.wrap .i64 (t5+(1:Int))),())))))
  (
   some (.inr (t0,()))))
 (
  some (.inr (t0,())))
def aiJ  :TG:=aU (u3 AA) (pL k0 e0 1 l0 fun d=>by kernel_rfl)
def Yj:TF:=aE (u3 AA) NN
abbrev Yt:List Sh:=[(.int .u64),(.int .i64)]
abbrev tc:List Sh:=[.bool]
abbrev ni:=TL Yt->Option (TL tc)
abbrev l8:=Kd 127 Yt tc
def Zm0(L2:TF)(a0 a1:Int):Option (TL tc):=
 ai (L2 (a0,(a1,((0:Int),())))) fun x0=>
 some ((iQ x0.1 (0:Int)),())
def aiS(M2:TG):l8:=⟨u2 (Zm0 M2.L),pD Tryz.func127 19 k0 e0 1 (sS (sC M2 l0)) fun d=>by kernel_rfl⟩
def nj:l8:=aiS  aiJ
def nH:ni:=nj.F
abbrev zV:ae:={ T:=[(0,.int .i64),(1,.int .i64),(2,.fz aq),(7,.int .i64)],h:=[],nx:=0 }
abbrev zO:List (Ev.Ex×ae):=[(.ret,{ T:=[(6,.bool)],h:=[],nx:=0 }),((.exit 0),sQ)]
abbrev Tw:=TL zV.σs->Option (Out zO)
abbrev FH:=Ld 0 77 (aT [0] (aG Tryz.f65)) zV zO
def s9(F0:ni)(t0 t1:Int)(t2:List (Sh.T aq))(t7:Int):Option (TL zV.σs⊕Out zO):=
 br (iL t7 (Int.ofNat (List.length t2)))
 (
  br (iL (0:Int) t7)
  (
   ah (ar t7 (List.length t2))<|
   ah (ar (IntKind.wrap .i64 (t7-(1:Int))) (List.length t2))<|
   br (aR true (iE (gt aq t2 t7).1 (gt aq t2 (IntKind.wrap .i64 (t7-(1:Int)))).1) false)
   (
    some (.inr (.inl (false,()))))
   (
    ah (ar t7 (List.length t2))<|
    ai (F0 ((gt aq t2 t7).1,(t0,()))) fun x0=>
    br (aR false true (Bool.not x0.1))
    (
     some (.inr (.inl (false,()))))
    (
     ah (ar t7 (List.length t2))<|
     ai (F0 ((gt aq t2 t7).2.1,(t1,()))) fun x1=>
     br (aR false true (Bool.not x1.1))
     (
      some (.inr (.inl (false,()))))
     (
      ah (ar t7 (List.length t2))<|
      br (aR false true (iQ (gt aq t2 t7).2.1 (0:Int)))
      (
       some (.inr (.inl (false,()))))
      (
       some (.inl (t0,(t1,(t2,((IntKind.wrap .i64 (t7+(1:Int))),()))))))))))
  (
   ah (ar t7 (List.length t2))<|
   ai (F0 ((gt aq t2 t7).1,(t0,()))) fun x0=>
   br (aR false true (Bool.not x0.1))
   (
    some (.inr (.inl (false,()))))
   (
    ah (ar t7 (List.length t2))<|
    ai (F0 ((gt aq t2 t7).2.1,(t1,()))) fun x1=>
    br (aR false true (Bool.not x1.1))
    (
     some (.inr (.inl (false,()))))
    (
     ah (ar t7 (List.length t2))<|
     br (aR false true (iQ (gt aq t2 t7).2.1 (0:Int)))
     (
      some (.inr (.inl (false,()))))
     (
      some (.inl (t0,(t1,(t2,((IntKind.wrap .i64 (t7+(1:Int))),()))))))))))
 (
  some (.inr (.inr ())))
def aiB(c0:l8) :FH:=aU (u4 (s9 c0.F)) (pL (kD c0 k0) e0 1 l0 fun d=>by kernel_rfl)
def aiA:FH:=aiB nj
def Kr:Tw:=aE (u4 (s9 nH)) NN
abbrev Yo:List Sh:=[(.int .i64),(.int .i64),(.sl aq)]
abbrev KB:List Sh:=[.bool]
abbrev FN:=TL Yo->Option (TL KB)
abbrev wK:=Kd 65 Yo KB
def KK(F0:ni)(L4:Tw)(a0 a1:Int)(a2:List (Sh.T aq)):Option (TL KB):=
 br (iL a0 (1:Int))
 (
  some (false,()))
 (
  br (aR false true (iL (62:Int) a0))
  (
   some (false,()))
  (
   br (aR false true (iL a1 (1:Int)))
   (
    some (false,()))
   (
    br (aR false true (iL (64:Int) a1))
    (
     some (false,()))
    (
     br (aR false true (iL (4096:Int) (Int.ofNat (List.length a2))))
     (
      some (false,()))
     (
      ai (L4 (a0,(a1,(a2,((0:Int),()))))) fun x0=>
      (match x0 with|.inl x1=>some (x1.1,())|.inr x1=>some (true,())
      ))))))
def aiI(c0:l8)(M4:FH):wK:=⟨u3 (KK c0.F M4.L),pD Tryz.func65 77 (kD c0 k0) e0 1 (sS (sC M4 l0)) fun d=>by kernel_rfl⟩
def FO:wK:=aiI nj aiA
def Yc:FN:=FO.F
abbrev zY:ae:={ T:=[(2,.ptr 0 0),(3,.ptr 1 0),(6,.int .i64)],h:=pt,nx:=2 }
abbrev zU:List (Ev.Ex×ae):=[(.ret,sP),((.exit 0),sQ)]
abbrev TE:=TL zY.σs->Option (Out zU)
abbrev FM:=Ld 0 54 (aT [0] (aG Tryz.f26)) zY zU
def tb(F0:FN)(t6 b0_0:Int)(b0_1:List Int)(b0_2:List (Sh.T aa))(b0_3 b0_4 b0_5:List Int)(b0_6:List (Sh.T ab))(b0_7:List (Sh.T aa))(b1_0:List Bool)(b1_1:List (List (Sh.T aq))):Option (TL zY.σs⊕Out zU):=
 br (iL t6 (Int.ofNat (List.length b0_6)))
 (
  ah (ar t6 (List.length b0_6))<|
  ah (ar t6 (List.length b0_6))<|
  ah (ar t6 (List.length b1_1))<|
  ai (F0 ((gt ab b0_6 t6).1,((gt ab b0_6 t6).2.1,((gt (.sl aq) b1_1 t6),())))) fun x0=>
  br (Bool.not x0.1)
  (
   some (.inr (.inl ((14:Int),()))))
  (
   some (.inl ((IntKind.wrap .i64 (t6+(1:Int))),(b0_0,(b0_1,(b0_2,(b0_3,(b0_4,(b0_5,(b0_6,(b0_7,(b1_0,(b1_1,()))))))))))))))
 (
  some (.inr (.inr ())))
def aiH(c0:wK) :FM:=aU (eH (tb c0.F)) (pL (kD c0 k0) e0 1 l0 fun d=>by kernel_rfl)
def aiG:FM:=aiH FO
def Yi:TE:=aE (eH (tb Yc)) NN
abbrev Ys:List Sh:=[ba,bZ]
abbrev KJ:List Sh:=[(.int .i64)]
abbrev Gz:=TL Ys->Option (TL KJ)
abbrev xq:=Kd 26 Ys KJ
def Zlx(F0:FN)(F1:rK)(L7:TE)(a0:Sh.T ba)(a1:Sh.T bZ):Option (TL KJ):=
 ai (F1 (a0,())) fun x0=>
 br (Bool.not (iQ x0.1 (0:Int)))
 (
  some (x0.1,()))
 (
  br (Bool.not (iQ (Int.ofNat (List.length a1.1)) (Int.ofNat (List.length a0.2.2.1))))
  (
   some ((14:Int),()))
  (
   br (aR false true (Bool.not (iQ (Int.ofNat (List.length a1.2.1)) (Int.ofNat (List.length a0.2.2.2.2.2.2.1)))))
   (
    some ((14:Int),()))
   (
    ai (L7 ((0:Int),(a0.1,(a0.2.1,(a0.2.2.1,(a0.2.2.2.1,(a0.2.2.2.2.1,(a0.2.2.2.2.2.1,(a0.2.2.2.2.2.2.1,(a0.2.2.2.2.2.2.2.1,a1)))))))))) fun x1=>
    (match x1 with|.inl x2=>some (x2.1,())|.inr x2=>some ((0:Int),())
    ))))
def aiR(c0:wK)(c1:oO)(M7:FM):xq:=⟨u2 (Zlx c0.F c1.F M7.L),pD Tryz.func26 54 (kD c0 (kD c1 k0)) e0 1 (sS (sC M7 l0)) fun d=>by kernel_rfl⟩
def GA:xq:=aiR FO rL aiG
def Zbn:Gz:=GA.F
abbrev zN:ae:={ T:=[(2,.ptr 0 0),(3,.ptr 1 0),(7,.int .i64)],h:=pt,nx:=2 }
abbrev zI:List (Ev.Ex×ae):=[(.ret,sP),((.exit 2),sQ)]
abbrev Ts:=TL zN.σs->Option (Out zI)
abbrev Tt:=Ld 0 75 (aT [1] (aG Tryz.f22)) zN zI
abbrev zT:ae:={ T:=[(2,.ptr 0 0),(3,.ptr 1 0),(6,.int .i64)],h:=pt,nx:=2 }
abbrev zM:List (Ev.Ex×ae):=[(.ret,sP),((.exit 0),{ T:=[(2,.ptr 0 0),(3,.ptr 1 0)],h:=pt,nx:=2 })]
abbrev Tu:=TL zT.σs->Option (Out zM)
abbrev Tv:=Ld 0 75 (aT [0] (aG Tryz.f22)) zT zM
def sZ(t6 b0_0:Int)(b0_1:List Int)(b0_2:List (Sh.T aa))(b0_3 b0_4 b0_5:List Int)(b0_6:List (Sh.T ab))(b0_7:List (Sh.T aa))(b1_0:List Bool)(b1_1:List (List (Sh.T aq))):Option (TL zT.σs⊕Out zM):=
 br (iL t6 (Int.ofNat (List.length b0_2)))
 (
  ah (ar t6 (List.length b0_2))<|
  br (iQ (gt aa b0_2 t6).2.2.1 (0:Int))
  (
   ah (ar t6 (List.length b1_0))<|
   br (aR true (gt .bool b1_0 t6) false)
   (
    some (.inr (.inl ((14:Int),()))))
   (
    ah (ar t6 (List.length b0_2))<|
    br (iQ (gt aa b0_2 t6).2.2.1 (1:Int))
    (
     ah (ar t6 (List.length b1_0))<|
     br (aR false true (aR true (Bool.not (gt .bool b1_0 t6)) false))
     (
      some (.inr (.inl ((14:Int),()))))
     (
      some (.inl ((IntKind.wrap .i64 (t6+(1:Int))),(b0_0,(b0_1,(b0_2,(b0_3,(b0_4,(b0_5,(b0_6,(b0_7,(b1_0,(b1_1,()))))))))))))))
    (
     some (.inl ((IntKind.wrap .i64 (t6+(1:Int))),(b0_0,(b0_1,(b0_2,(b0_3,(b0_4,(b0_5,(b0_6,(b0_7,(b1_0,(b1_1,())))))))))))))))
  (
   ah (ar t6 (List.length b0_2))<|
   br (iQ (gt aa b0_2 t6).2.2.1 (1:Int))
   (
    ah (ar t6 (List.length b1_0))<|
    br (aR false true (aR true (Bool.not (gt .bool b1_0 t6)) false))
    (
     some (.inr (.inl ((14:Int),()))))
    (
     some (.inl ((IntKind.wrap .i64 (t6+(1:Int))),(b0_0,(b0_1,(b0_2,(b0_3,(b0_4,(b0_5,(b0_6,(b0_7,(b1_0,(b1_1,()))))))))))))))
   (
    some (.inl ((IntKind.wrap .i64 (t6+(1:Int))),(b0_0,(b0_1,(b0_2,(b0_3,(b0_4,(b0_5,(b0_6,(b0_7,(b1_0,(b1_1,())))))))))))))))
 (
  some (.inr (.inr (b0_0,(b0_1,(b0_2,(b0_3,(b0_4,(b0_5,(b0_6,(b0_7,(b1_0,(b1_1,())))))))))))))
def aiz  :Tv:=aU (eH sZ) (pL k0 e0 1 l0 fun d=>by kernel_rfl)
def Yf:Tu:=aE (eH sZ) NN
def sY(t7 b0_0:Int)(b0_1:List Int)(b0_2:List (Sh.T aa))(b0_3 b0_4 b0_5:List Int)(b0_6:List (Sh.T ab))(b0_7:List (Sh.T aa))(b1_0:List Bool)(b1_1:List (List (Sh.T aq))):Option (TL zN.σs⊕Out zI):=
 br (iL t7 (Int.ofNat (List.length b0_6)))
 (
  ah (ar t7 (List.length b0_6))<|
  br (Bool.not (gt ab b0_6 t7).2.2.1)
  (
   ah (ar t7 (List.length b1_1))<|
   br (aR true (iL (0:Int) (Int.ofNat (List.length (gt (.sl aq) b1_1 t7)))) false)
   (
    some (.inr (.inl ((14:Int),()))))
   (
    some (.inl ((IntKind.wrap .i64 (t7+(1:Int))),(b0_0,(b0_1,(b0_2,(b0_3,(b0_4,(b0_5,(b0_6,(b0_7,(b1_0,(b1_1,()))))))))))))))
  (
   some (.inl ((IntKind.wrap .i64 (t7+(1:Int))),(b0_0,(b0_1,(b0_2,(b0_3,(b0_4,(b0_5,(b0_6,(b0_7,(b1_0,(b1_1,()))))))))))))))
 (
  some (.inr (.inr ())))
def aix  :Tt:=aU (eH sY) (pL k0 e0 1 l0 fun d=>by kernel_rfl)
def Ye:Ts:=aE (eH sY) NN
abbrev Yn:List Sh:=[ba,bZ]
abbrev KA:List Sh:=[(.int .i64)]
abbrev air:=TL Yn->Option (TL KA)
abbrev To:=Kd 22 Yn KA
def Zl5(F0:Gz)(L5:Tu)(L10:Ts)(a0:Sh.T ba)(a1:Sh.T bZ):Option (TL KA):=
 ai (F0 (a0,(a1,()))) fun x0=>
 br (Bool.not (iQ x0.1 (0:Int)))
 (
  some (x0.1,()))
 (
  ai (L5 ((0:Int),(a0.1,(a0.2.1,(a0.2.2.1,(a0.2.2.2.1,(a0.2.2.2.2.1,(a0.2.2.2.2.2.1,(a0.2.2.2.2.2.2.1,(a0.2.2.2.2.2.2.2.1,a1)))))))))) fun x1=>
  (match x1 with
  |.inl x2=>some (x2.1,())|.inr x2=>
   ai (L10 ((0:Int),x2)) fun x3=>
   (match x3 with|.inl x4=>some (x4.1,())|.inr x4=>some ((0:Int),())
   )
  ))
def aiF(c0:xq)(M5:Tv)(M10:Tt):To:=⟨u2 (Zl5 c0.F M5.L M10.L),pD Tryz.func22 75 (kD c0 k0) e0 1 (sS (sC M5 (sC M10 l0))) fun d=>by kernel_rfl⟩
def ais:To:=aiF GA aiz aix
def Yk:air:=ais.F
end Go.Proofs.YtkcpdpplobhpaaaGreat.V
