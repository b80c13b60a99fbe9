import Derived.Test.YtkcpdpplobhpaaaGreatWMgExpandRuns01
set_option linter.unusedSectionVars false
set_option linter.unusedVariables false
set_option linter.unusedSimpArgs false
set_option linter.unnecessarySimpa false
section
namespace Go.Proofs.YtkcpdpplobhpaaaGreat.V
open Go Go.RowKit
set_option maxRecDepth 1000000
abbrev R9:List Sh:=[]
abbrev GU:List Sh:=[.bool]
abbrev Hc:=TL R9->Option (TL GU)
abbrev y8:=Kd 27 R9 GU
def acR(F0:uU)(F1:Iv)  :Option (TL GU):=
 ao (F1 (((0:Int),([],([],([],([],([],((((1:Int),((1:Int),(true,([],([],())))))::[]),([],())))))))),())) fun x0=>
 ao (F0 (((0:Int),([],([],([],([],([],((((1:Int),((1:Int),(true,([],([],())))))::[]),([],())))))))),())) fun x1=>
 br (iQ x1.1 (2:Int))
 (
  br (bn true (iQ x0.2.1 (0:Int)) false)
  (
   br (bn true (iQ (Int.ofNat (List.length x0.1.2.2.1)) (2:Int)) false)
   (
    br (bn true (iQ (Int.ofNat (List.length x0.1.2.2.2.2.2.2.1)) (0:Int)) false)
    (
     ai (av (0:Int) (List.length x0.1.2.2.1))<|
     some ((bn true (iQ (gt ae x0.1.2.2.1 (0:Int)).2.2.1 (2:Int)) false),()))
    (
     some (false,())))
   (
    some (false,())))
  (
   some (false,())))
 (
  some (false,()))
def acS(c0:rY)(c1:zP) :y8:=⟨fun d=>acR c0.F c1.F  ,pZ Tryz.func27 39 (kD c0 (kD c1 k0)) e0 1 (sS l0) fun d=>by kernel_rfl⟩
def Hb:y8:=acS uT Iu
def R8:Hc:=Hb.F
theorem TD:R8 ()=some (true,()):=by kernel_rfl
abbrev SG:Lay:={ T:=[(0,.agg jf),(1,.agg [.fz .bool,.fz (.sl aA)])],h:=[],nx:=0 }
abbrev Hz:List (Ev.Ex×Lay):=[(.ret,{ T:=[(0,.agg [.fz .bool,.bk]),(1,.int .i64)],h:=[],nx:=0 })]
abbrev H6:=TL SG.σs->Option (Out Hz)
abbrev zB:=Kb 29 2 SG 2 Hz
abbrev SL:Lay:={ T:=[(3,.ptr 0 0),(4,.ptr 1 0),(29,.fz ab),(30,.int .i64),(31,.int .i64)],h:=[(0,.cells [.fz .bool,.fz (.sl aA)] 40),(1,.cells [.hd 2 .bool,.bk] 40),(2,.arr .bool 4)],nx:=3 }
abbrev Hy:Lay:=SL
abbrev Ht:List (Ev.Ex×Lay):=[((.exit 0),{ T:=[(4,.ptr 0 0)],h:=[(0,.cells [.hd 1 .bool,.bk] 40),(1,.arr .bool 4)],nx:=2 })]
abbrev SK:=TL Hy.σs->Option (Out Ht)
abbrev HT:=Ld 0 70 (bI [0] (bh Tryz.f29)) Hy Ht
abbrev Hs:Lay:={ T:=[(3,.ptr 0 0),(4,.ptr 1 0),(8,.ptr 3 0),(11,.func 75 [.ptr 4 0] []),(29,.fz ab),(30,.int .i64),(31,.int .i64),(53,.int .u64),(54,.int .u64)],h:=[(0,.cells [.fz .bool,.fz (.sl aA)] 40),(1,.cells [.hd 2 .bool,.bk] 40),(2,.arr .bool 4),(3,.cells [.int .i64,.int .i64,.bool,.fz bg,.fz aH] 116),(4,.cells [.int .i64,.int .i64,.mp 5] 220),(5,.map .u64 (.int .u64))],nx:=6 }
abbrev Hl:List (Ev.Ex×Lay):=[((.exit 2),SL)]
abbrev HK:=TL Hs.σs->Option (Out Hl)
abbrev zp:=Ld 0 70 (bI [0,0] (bh Tryz.f29)) Hs Hl
def SE(F0:tb)(F3:s9)(t29:List (Sh.T ab))(t30 t31 t53 t54:Int)(aw:List Bool)(aG:List (List (Sh.T aA)))(b2:List Bool)(ti fg:Int)(tj:Bool)(tm:List (Sh.T bg))(tp:List (Sh.T aH))(mZ w9:Int)(b5:List (Sh.T aA)):Option (TL Hs.σs⊕Out Hl):=
 br (iL t54 t53)
 (
  ao (F3 (t54,(mZ,(w9,(b5,()))))) fun x0=>
  ai (iQ fg fg)<|
  ao (F0 (x0.1,(fg,()))) fun x1=>
  ai (room 1 (List.length (ap b2 x1.1)))<|
  some (.inl (t29,(t30,(t31,(t53,((IntKind.wrap .u64 (t54+(1:Int))),(aw,(aG,((ap b2 x1.1),(ti,(fg,(tj,(tm,(tp,x0.2)))))))))))))))
 (
  some (.inr (t29,(t30,(t31,(aw,(aG,(b2,()))))))))
def adg(c0:ta)(c3:sX) :zp:=bN (u16 (SE c0.F c3.F)) (pL (kD c0 (kB c3 k0)) e0 1 l0 fun d=>by kernel_rfl)
def SF:zp:=adg wU wN
def adf:HK:=aX (u16 (SE qS rH)) NN
def SI(F4:sY)(L13:HK)(t29:List (Sh.T ab))(t30 t31:Int)(aw:List Bool)(aG:List (List (Sh.T aA)))(b2:List Bool):Option (TL Hy.σs⊕Out Ht):=
 br (iL t31 t30)
 (
  ai (av t31 (List.length t29))<|
  ai (av t31 (List.length aG))<|
  ao (F4 ((gt ab t29 t31).1,((gt ab t29 t31).2.1,((gt (.sl aA) aG t31),())))) fun x0=>
  (match x0 with
  |.inl x1=>
   ai (iE (0:Int) (gt ab t29 t31).1)<|
   none
  |.inr x1=>
   ai (iE (0:Int) (gt ab t29 t31).1)<|
   ao (L13 (t29,(t30,(t31,((IntKind.wrap .u64 ((1:Int)*(HPow.hPow (2:Int) (Min.min (Int.toNat (gt ab t29 t31).1) 64)))),((0:Int),(aw,(aG,(b2,((gt ab t29 t31).1,((gt ab t29 t31).2.1,((gt ab t29 t31).2.2.1,((gt ab t29 t31).2.2.2.1,((gt ab t29 t31).2.2.2.2.1,x1.2)))))))))))))) fun x2=>
   some (.inl (x2.1,(x2.2.1,((IntKind.wrap .i64 (@HAdd.hAdd (Int) (Int) (Int) _ x2.2.2.1 (1:Int))),rN x2))))
  ))
 (
  some (.inr (b2,())))
def adj(c4:sV)(M13:zp):HT:=bN (u6 (SI c4.F M13.L)) (pL (kB c4 k0) e0 1 (sC M13 l0) fun d=>by kernel_rfl)
def adk:HT:=adj wM SF
def adi:SK:=aX (u6 (SI tV adf)) NN
def ads(F0:tb)(F1:uU)(F2:aao)(F3:s9)(F4:sY)(F5:wC)(F6:wz)(L8:SK)(L13:HK)(eX:Int)(jh:List Int)(iV:List (Sh.T ae))(jL jM jN:List Int)(fA:List (Sh.T ab))(iW:List (Sh.T ae))(fW:List Bool)(fT:List (List (Sh.T aA))):Option (Out Hz):=
 ao (F2 ((eX,(jh,(iV,(jL,(jM,(jN,(fA,(iW,())))))))),((fW,(fT,())),()))) fun x0=>
 br (Bool.not (iQ x0.1 (0:Int)))
 (
  some ([],(x0.1,())))
 (
  ao (F1 ((eX,(jh,(iV,(jL,(jM,(jN,(fA,(iW,())))))))),())) fun x1=>
  br (iL (64:Int) x1.1)
  (
   some ([],((17:Int),())))
  (
   ao (F6 (fW,())) fun x2=>
   ao (L8 (fA,((Int.ofNat (List.length fA)),((0:Int),(fW,(fT,(x2.1,()))))))) fun x3=>
   some (x3.1,((0:Int),()))))
def adt(c0:ta)(c1:rY)(c2:MX)(c3:sX)(c4:sV)(c5:wE)(c6:wA)(M8:HT)(M13:zp):zB:=⟨kU (ads c0.F c1.F c2.F c3.F c4.F c5.F c6.F M8.L M13.L),pB Tryz.func29 70 (kD c0 (kD c1 (kD c2 (kB c3 (kB c4 (kB c5 (kB c6 k0))))))) e0 1 (sS (sC M8 l0)) fun d=>by kernel_rfl⟩
def H5:zB:=adt wU uT aap wN wM wD sO adk SF
def SJ:H6:=H5.F
abbrev rQ:Lay:={ T:=[(2,.fz (.sl .bool)),(3,.ptr 0 0),(13,.ptr 1 0),(15,.ptr 4 0),(17,.int .i64)],h:=[(0,.cells jf 27),(1,.cells [.int .i64,.fz (.int .i64),.fz ae,.fz (.int .i64),.fz (.int .i64),.fz (.int .i64),.fz ab,.fz ae,.fz aq,.hd 2 .bool,.dW 3] 145),(2,.arr .bool 4),(3,.dL 220),(4,.cells [.int .i64,.fz (.int .i64),.fz ae,.fz (.int .i64),.fz (.int .i64),.fz (.int .i64),.fz ab,.fz ae,.fz aq,.hd 5 .bool,.dW 6] 145),(5,.arr .bool 4),(6,.dL 220)],nx:=7 }
abbrev rP:List (Ev.Ex×Lay):=[(.ret,{ T:=[(6,.bool)],h:=[],nx:=0 }),((.exit 0),{ T:=[],h:=[],nx:=0 })]
abbrev Rk:=TL rQ.σs->Option (Out rP)
abbrev Gn:=Ld 0 167 (bI [0] (bh Tryz.f7)) rQ rP
def Rj(F0:B9)(F1:LM)(F4:Hc)(F7:Hk)(F8:MM)(F9:Da)(F11:H6)(t2:List (List Bool))(t17 aw:Int)(aG:List Int)(aT:List (Sh.T ae))(aP aW ba:List Int)(aD:List (Sh.T ab))(aM:List (Sh.T ae))(ff:Int)(fx:List Int)(ik:List (Sh.T ae))(gU iB mi:List Int)(mj:List (Sh.T ab))(mn:List (Sh.T ae))(anX:List (Sh.T aq))(b2:List Bool)(b3:List (Sh.T (.agg [(.int .i64),(.int .i64),(.sl aA)])))(mZ:Int)(w9:List Int)(anY:List (Sh.T ae))(anZ an0 an1:List Int)(an2:List (Sh.T ab))(an3:List (Sh.T ae))(an4:List (Sh.T aq))(b5:List Bool)(b6:List (Sh.T (.agg [(.int .i64),(.int .i64),(.sl aA)]))):Option (TL rQ.σs⊕Out rP):=
 br (iL t17 (Int.ofNat (List.length t2)))
 (
  ai (av t17 (List.length t2))<|
  ao (F9 ((gt (.sl .bool) t2 t17),(ff,(fx,(ik,(gU,(iB,(mi,(mj,(mn,(anX,(b2,(b3,()))))))))))))) fun x0=>
  ai (av t17 (List.length t2))<|
  ao (F9 ((gt (.sl .bool) t2 t17),(mZ,(w9,(anY,(anZ,(an0,(an1,(an2,(an3,(an4,(b5,(b6,()))))))))))))) fun x1=>
  br (Bool.not (iQ x0.1 (0:Int)))
  (
   br (iQ x1.1 x0.1)
   (
    ao (F4 ()) fun x2=>
    some (.inr (.inl ((bn true x2.1 false),()))))
   (
    some (.inr (.inl (false,())))))
  (
   br (Bool.not (iQ x1.1 (0:Int)))
   (
    some (.inr (.inl (false,()))))
   (
    br (bn false true (iL (Int.ofNat (List.length (fF x1))) (Int.ofNat (List.length (fF x0)))))
    (
     some (.inr (.inl (false,()))))
    (
     ai (both (iE (0:Int) (Int.ofNat (List.length (fF x0)))) (iE (Int.ofNat (List.length (fF x0))) (Int.ofNat (List.length (fF x1)))))<|
     ao (F0 (fF x0,((List.take (@HSub.hSub (Nat) (Nat) (Nat) _ (Int.toNat (Int.ofNat (List.length (fF x0)))) 0) (List.drop 0 (fF x1))),()))) fun x2=>
     br (bn false true (Bool.not x2.1))
     (
      some (.inr (.inl (false,()))))
     (
      ai (av t17 (List.length t2))<|
      ao (F8 ((gt (.sl .bool) t2 t17),(x0.2.1,(x0.2.2.1,(cJ x0,(cK x0,(cT x0,(cO x0,(dt x0,(dX x0,(fu x0,(dD x0,(jg x0,()))))))))))))) fun x3=>
      ai (av t17 (List.length t2))<|
      ao (F8 ((gt (.sl .bool) t2 t17),(x1.2.1,(x1.2.2.1,(cJ x1,(cK x1,(cT x1,(cO x1,(dt x1,(dX x1,(fu x1,(dD x1,(jg x1,()))))))))))))) fun x4=>
      ao (F7 (x3.2.2.1,(cJ x3,(cK x3,(cT x3,(cO x3,(dt x3,(dX x3,(fu x3,(dD x3,(jg x3,(fF x3,())))))))))))) fun x5=>
      ai (both (iQ aw aw) (both (fp (Sh.beq (.int .i64)) aG aG) (both (fp (Sh.beq ae) aT aT) (both (fp (Sh.beq (.int .i64)) aP aP) (both (fp (Sh.beq (.int .i64)) aW aW) (both (fp (Sh.beq (.int .i64)) ba ba) (both (fp (Sh.beq ab) aD aD) (both (fp (Sh.beq ae) aM aM) true))))))))<|
      ao (F11 (aw,(aG,(aT,(aP,(aW,(ba,(aD,(aM,ni x5))))))))) fun x6=>
      ai (iQ x6.2.1 x6.2.1)<|
      br (Bool.not (iQ x6.2.1 (0:Int)))
      (
       some (.inr (.inl (false,()))))
      (
       ao (F7 (x4.2.2.1,(cJ x4,(cK x4,(cT x4,(cO x4,(dt x4,(dX x4,(fu x4,(dD x4,(jg x4,(fF x4,())))))))))))) fun x7=>
       ai (both (fp (Sh.beq .bool) x6.1 x6.1) (both true true))<|
       ao (F1 ((x6.1,([],())),(ni x7,()))) fun x8=>
       br (bn false true (Bool.not x8.1))
       (
        some (.inr (.inl (false,()))))
       (
        some (.inl (t2,((IntKind.wrap .i64 (t17+(1:Int))),(aw,(aG,(aT,(aP,(aW,(ba,(aD,(aM,(x5.1,(x5.2.1,(x5.2.2.1,(cJ x5,(cK x5,(cT x5,(cO x5,(dt x5,(dX x5,(fu x5,(dD x5,(x7.1,(x7.2.1,(x7.2.2.1,(cJ x7,(cK x7,(cT x7,(cO x7,(dt x7,(dX x7,(fu x7,(dD x7,()))))))))))))))))))))))))))))))))))))))))
 (
  some (.inr (.inr ())))
def ack(c0:wg)(c1:Cd)(c4:y8)(c7:ze)(c8:CT)(c9:wJ)(c11:zB) :Gn:=bN (fun d=>Rj c0.F c1.F c4.F c7.F c8.F c9.F c11.F  d.1 d.2.1 d.2.2.1 d.2.2.2.1 d.2.2.2.2.1 d.2.2.2.2.2.1 d.2.2.2.2.2.2.1 d.2.2.2.2.2.2.2.1 d.2.2.2.2.2.2.2.2.1 d.2.2.2.2.2.2.2.2.2.1 d.2.2.2.2.2.2.2.2.2.2.1 d.2.2.2.2.2.2.2.2.2.2.2.1 d.2.2.2.2.2.2.2.2.2.2.2.2.1 d.2.2.2.2.2.2.2.2.2.2.2.2.2.1 d.2.2.2.2.2.2.2.2.2.2.2.2.2.2.1 d.2.2.2.2.2.2.2.2.2.2.2.2.2.2.2.1 d.2.2.2.2.2.2.2.2.2.2.2.2.2.2.2.2.1 d.2.2.2.2.2.2.2.2.2.2.2.2.2.2.2.2.2.1 d.2.2.2.2.2.2.2.2.2.2.2.2.2.2.2.2.2.2.1 d.2.2.2.2.2.2.2.2.2.2.2.2.2.2.2.2.2.2.2.1 d.2.2.2.2.2.2.2.2.2.2.2.2.2.2.2.2.2.2.2.2.1 d.2.2.2.2.2.2.2.2.2.2.2.2.2.2.2.2.2.2.2.2.2.1 d.2.2.2.2.2.2.2.2.2.2.2.2.2.2.2.2.2.2.2.2.2.2.1 d.2.2.2.2.2.2.2.2.2.2.2.2.2.2.2.2.2.2.2.2.2.2.2.1 d.2.2.2.2.2.2.2.2.2.2.2.2.2.2.2.2.2.2.2.2.2.2.2.2.1 d.2.2.2.2.2.2.2.2.2.2.2.2.2.2.2.2.2.2.2.2.2.2.2.2.2.1 d.2.2.2.2.2.2.2.2.2.2.2.2.2.2.2.2.2.2.2.2.2.2.2.2.2.2.1 d.2.2.2.2.2.2.2.2.2.2.2.2.2.2.2.2.2.2.2.2.2.2.2.2.2.2.2.1 d.2.2.2.2.2.2.2.2.2.2.2.2.2.2.2.2.2.2.2.2.2.2.2.2.2.2.2.2.1 d.2.2.2.2.2.2.2.2.2.2.2.2.2.2.2.2.2.2.2.2.2.2.2.2.2.2.2.2.2.1 d.2.2.2.2.2.2.2.2.2.2.2.2.2.2.2.2.2.2.2.2.2.2.2.2.2.2.2.2.2.2.1 d.2.2.2.2.2.2.2.2.2.2.2.2.2.2.2.2.2.2.2.2.2.2.2.2.2.2.2.2.2.2.2.1) (pL (kD c0 (kD c1 (kD c4 (kB c7 (kB c8 (kB c9 (kB c11 k0))))))) e0 1 l0 fun d=>by kernel_rfl)
def acm:Gn:=ack Ca LP Hb Hj MN Db H5
def Gp:Rk:=aX (fun d=>Rj EK Zgi R8 Sv Bs qQ SJ  d.1 d.2.1 d.2.2.1 d.2.2.2.1 d.2.2.2.2.1 d.2.2.2.2.2.1 d.2.2.2.2.2.2.1 d.2.2.2.2.2.2.2.1 d.2.2.2.2.2.2.2.2.1 d.2.2.2.2.2.2.2.2.2.1 d.2.2.2.2.2.2.2.2.2.2.1 d.2.2.2.2.2.2.2.2.2.2.2.1 d.2.2.2.2.2.2.2.2.2.2.2.2.1 d.2.2.2.2.2.2.2.2.2.2.2.2.2.1 d.2.2.2.2.2.2.2.2.2.2.2.2.2.2.1 d.2.2.2.2.2.2.2.2.2.2.2.2.2.2.2.1 d.2.2.2.2.2.2.2.2.2.2.2.2.2.2.2.2.1 d.2.2.2.2.2.2.2.2.2.2.2.2.2.2.2.2.2.1 d.2.2.2.2.2.2.2.2.2.2.2.2.2.2.2.2.2.2.1 d.2.2.2.2.2.2.2.2.2.2.2.2.2.2.2.2.2.2.2.1 d.2.2.2.2.2.2.2.2.2.2.2.2.2.2.2.2.2.2.2.2.1 d.2.2.2.2.2.2.2.2.2.2.2.2.2.2.2.2.2.2.2.2.2.1 d.2.2.2.2.2.2.2.2.2.2.2.2.2.2.2.2.2.2.2.2.2.2.1 d.2.2.2.2.2.2.2.2.2.2.2.2.2.2.2.2.2.2.2.2.2.2.2.1 d.2.2.2.2.2.2.2.2.2.2.2.2.2.2.2.2.2.2.2.2.2.2.2.2.1 d.2.2.2.2.2.2.2.2.2.2.2.2.2.2.2.2.2.2.2.2.2.2.2.2.2.1 d.2.2.2.2.2.2.2.2.2.2.2.2.2.2.2.2.2.2.2.2.2.2.2.2.2.2.1 d.2.2.2.2.2.2.2.2.2.2.2.2.2.2.2.2.2.2.2.2.2.2.2.2.2.2.2.1 d.2.2.2.2.2.2.2.2.2.2.2.2.2.2.2.2.2.2.2.2.2.2.2.2.2.2.2.2.1 d.2.2.2.2.2.2.2.2.2.2.2.2.2.2.2.2.2.2.2.2.2.2.2.2.2.2.2.2.2.1 d.2.2.2.2.2.2.2.2.2.2.2.2.2.2.2.2.2.2.2.2.2.2.2.2.2.2.2.2.2.2.1 d.2.2.2.2.2.2.2.2.2.2.2.2.2.2.2.2.2.2.2.2.2.2.2.2.2.2.2.2.2.2.2.1) NN
abbrev Ro:List Sh:=[ca,gK,(.sl (.sl .bool))]
abbrev Gq:List Sh:=[.bool]
abbrev acq:=TL Ro->Option (TL Gq)
abbrev Rq:=Kd 7 Ro Gq
def aco(F0:B9)(F1:LM)(F2:S6)(F3:Iv)(F4:Hc)(F5:Yz)(F6:Y1)(F7:Hk)(F8:MM)(F9:Da)(F10:abb)(F11:H6)(L13:Rk)(a0:Sh.T ca)(a1:Sh.T gK)(a2:List (List Bool)):Option (TL Gq):=
 ao (F6 (a0,(a1,(a2,())))) fun x0=>
 br (Bool.not x0.1)
 (
  ao (F4 ()) fun x1=>
  some (x1.1,()))
 (
  ao (F5 (a0,(a1,()))) fun x1=>
  br (bn false true (Bool.not (iQ x1.1 (0:Int))))
  (
   ao (F4 ()) fun x2=>
   some (x2.1,()))
  (
   ao (F3 (a0,())) fun x2=>
   br (Bool.not (iQ x2.2.1 (0:Int)))
   (
    ao (F4 ()) fun x3=>
    some (x3.1,()))
   (
    ao (F11 (a0.1,(a0.2.1,(a0.2.2.1,(cJ a0,(cK a0,(cT a0,(cO a0,(dt a0,a1))))))))) fun x3=>
    ao (F2 (a0,((x3.1,([],())),()))) fun x4=>
    ao (F10 (a0.1,(a0.2.1,(a0.2.2.1,(cJ a0,(cK a0,(cT a0,(cO a0,(dt a0,a1))))))))) fun x5=>
    (match x5 with
    |.inl x6=>
     ao (F10 (x2.1.1,(x2.1.2.1,(x2.1.2.2.1,(x2.1.2.2.2.1,(x2.1.2.2.2.2.1,(x2.1.2.2.2.2.2.1,(x2.1.2.2.2.2.2.2.1,(x2.1.2.2.2.2.2.2.2.1,(x3.1,([],()))))))))))) fun x7=>
     (match x7 with
     |.inl x8=>
      br (Bool.not (iQ x3.2.1 (0:Int)))
      (
       some (false,()))
      (
       br (bn false true (Bool.not (iQ x4.2.1 (0:Int))))
       (
        some (false,()))
       (
        ao (F1 ((x4.1.1,(x4.1.2.1,())),(a1,()))) fun x9=>
        br (bn false true (Bool.not x9.1))
        (
         some (false,()))
        (
         br (bn false true (Bool.not (iQ x6.1 (0:Int))))
         (
          some (false,()))
         (
          ai (bn false true (Bool.not (iQ x8.1 (0:Int))))<|
          some (false,())))))
     |.inr x8=>
      br (Bool.not (iQ x3.2.1 (0:Int)))
      (
       some (false,()))
      (
       br (bn false true (Bool.not (iQ x4.2.1 (0:Int))))
       (
        some (false,()))
       (
        ao (F1 ((x4.1.1,(x4.1.2.1,())),(a1,()))) fun x9=>
        br (bn false true (Bool.not x9.1))
        (
         some (false,()))
        (
         br (bn false true (Bool.not (iQ x6.1 (0:Int))))
         (
          some (false,()))
         (
          ai (bn false true (Bool.not (iQ x8.1 (0:Int))))<|
          some (false,())))))
     )
    |.inr x6=>
     ao (F10 (x2.1.1,(x2.1.2.1,(x2.1.2.2.1,(x2.1.2.2.2.1,(x2.1.2.2.2.2.1,(x2.1.2.2.2.2.2.1,(x2.1.2.2.2.2.2.2.1,(x2.1.2.2.2.2.2.2.2.1,(x3.1,([],()))))))))))) fun x7=>
     (match x7 with
     |.inl x8=>
      br (Bool.not (iQ x3.2.1 (0:Int)))
      (
       some (false,()))
      (
       br (bn false true (Bool.not (iQ x4.2.1 (0:Int))))
       (
        some (false,()))
       (
        ao (F1 ((x4.1.1,(x4.1.2.1,())),(a1,()))) fun x9=>
        br (bn false true (Bool.not x9.1))
        (
         some (false,()))
        (
         br (bn false true (Bool.not (iQ x6.1 (0:Int))))
         (
          some (false,()))
         (
          ai (bn false true (Bool.not (iQ x8.1 (0:Int))))<|
          some (false,())))))
     |.inr x8=>
      br (Bool.not (iQ x3.2.1 (0:Int)))
      (
       some (false,()))
      (
       br (bn false true (Bool.not (iQ x4.2.1 (0:Int))))
       (
        some (false,()))
       (
        ao (F1 ((x4.1.1,(x4.1.2.1,())),(a1,()))) fun x9=>
        br (bn false true (Bool.not x9.1))
        (
         some (false,()))
        (
         br (bn false true (Bool.not (iQ x6.1 (0:Int))))
         (
          some (false,()))
         (
          br (bn false true (Bool.not (iQ x8.1 (0:Int))))
          (
           some (false,()))
          (
           ao (L13 (a2,((0:Int),(a0.1,(a0.2.1,(a0.2.2.1,(cJ a0,(cK a0,(cT a0,(cO a0,(dt a0,(x6.2.1,(x6.2.2.1,(cJ x6,(cK x6,(cT x6,(cO x6,(dt x6,(dX x6,(fu x6,(dD x6,(jg x6,x8.2)))))))))))))))))))))) fun x10=>
           (match x10 with
           |.inl x11=>some (x11.1,())|.inr x11=>
            ao (F4 ()) fun x12=>
            some (x12.1,())
           ))))))
     )
    ))))
def acp(c0:wg)(c1:Cd)(c2:Ij)(c3:zP)(c4:y8)(c5:K9)(c6:Li)(c7:ze)(c8:CT)(c9:wJ)(c10:NQ)(c11:zB)(M13:Gn):Rq:=⟨u3 (aco c0.F c1.F c2.F c3.F c4.F c5.F c6.F c7.F c8.F c9.F c10.F c11.F M13.L),pD Tryz.func7 167 (kD c0 (kD c1 (kD c2 (kD c3 (kD c4 (kD c5 (kD c6 (kB c7 (kB c8 (kB c9 (kB c10 (kB c11 k0)))))))))))) e0 1 (sS (sC M13 l0)) fun d=>by kernel_rfl⟩
def Rr:Rq:=acp Ca LP S5 Iu Hb YA Y2 Hj MN Db abc H5 acm
def Rm:acq:=Rr.F
open Go.Proofs.YtkcpdpplobhpaaaGreat.Pl
set_option maxRecDepth 10000
theorem aoq:adi=H4:=rfl
theorem TW{n:aB}(ft:Fit n){ls:List Bool}{cs:List (List aJ)}(h0:kb (cH n) (ls,(cs,()))=0)(h1:¬64<dA n)(hok:pb cs)(hl:ls.length<=100000) :
  SJ (nt n (ls,(cs,())))=some (bS n ls cs n.aa.length,((0:Int),())):=by
 have qj:Fit (js (cH n)):=by rw[o9];exact ft
 have hT:List.length (cH n).2.2.2.2.2.2.1<=100000:=by show(n.aa.map af).length<=_;rw[aI];have:=ft.aa.1;omega
 have e1:=Zy6 (cH n) (ls,(cs,())) qj hT;have c1:=I0 ft;obtain⟨hc,hf⟩:=Vy h0;obtain⟨V,hs,hcl2⟩:=VM hc;have hsm:=Aq hs (by rw[<-hcl2];omega);have e8:=aoo hs ls cs hsm hok hf hl;rw[<-aoq]at e8;have hcb:LH (ls,())=some (ls,()):=ak (Ji ls hl) rfl;exact ah e1 (ag (fQ (ar h0)) (ah c1 (ag (au h1) (ah hcb (ah e8 rfl)))))
section
variable{n:aB}{V:Nat}(hs:cr n V)(hc:Pl.dF n=0)(h64:¬64<dA n)
include hs hc h64
theorem TM:(∀m∈n.aa,Small m)/\dA n=((cj n n.aa.length:Nat):Int):=by
 have hcl:dA n=iT (fy n.aa):=by unfold dA;rw[if_neg (fun q=>q hc)]
 have hsm:=Aq hs (by rw[<-hcl];omega);have hsum:((ir n.aa:Nat):Int)=fy n.aa:=I2 n.aa 0 hsm;have h3:cj n n.aa.length=ir n.aa:=by unfold cj;rw[dS]
 refine⟨hsm,?_⟩;rw[h3,hsum,hcl];rw[hcl]at h64;unfold iT at h64 |-;split
 .rename_i q;rw[if_pos q]at h64;omega
 .rfl
theorem ags{K:Nat}{ls:List Bool}{cs:List (List aJ)}(ok:jG n K ls cs):iN (cH n) (ls,(cs,()))=true:=by
 obtain⟨hsm,_⟩:=TM hs hc h64;unfold iN;show(decide (ls.length=(n.aj.map bf).length)&&decide (List.length cs=(n.aa.map af).length)&&(List.range (n.aa.map af).length).all (kY (n.aa.map af) cs))=true;rw[aI,aI,bG ok.kS,bG ok.jU];show(List.range n.aa.length).all _=true;rw[List.all_eq_true];intro i hi;have hi:=List.mem_range.1 hi;have hx:=aN hi;have hcl:cs.length=n.aa.length:=ok.jU;have hic:i<cs.length:=by omega
 have hy:=aN hic;obtain⟨m1,m2,m3,m4,_⟩:=hs.aa _ (dk hi);have ko:=ok.ok i _ _ hx hy;have sm:=hsm _ (dk hi);have g1:gt ab (n.aa.map af) (i:Int)=af n.aa[i]:=bF (σ:=ab) (by rw[bT,hx];rfl);have g2:gt (.sl aA) cs (i:Int)=cs[i]:=bF (σ:=.sl aA) hy;have hlen:cs[i].length<=4096:=by have h2:=sm.nat;have hw:=sm.w1;have hle:2^n.aa[i].addr.toNat<=2^n.aa[i].addr.toNat*n.aa[i].word.toNat:=Nat.le_mul_of_pos_right _ (by omega);have:=UI cs[i] 0 ((2^n.aa[i].addr.toNat:Nat):Int) (by omega) ko.rO (fun p hp=>by have:=ko.at_ p hp;rw[vg]at this;exact this);omega
 unfold kY;rw[g1];exact(congrArg (jT (af n.aa[i]).1 (af n.aa[i]).2.1) g2).trans (afO m1 m2 m3 m4 ko hlen)
theorem agf{K:Nat}{ls:List Bool}{cs:List (List aJ)}(ok:jG n K ls cs):oe n (bS n ls cs n.aa.length) []=(0,(ls,cs)):=by
 obtain⟨hsm,hoff⟩:=TM hs hc h64;have hcl:cs.length=n.aa.length:=ok.jU;have hll:=ok.kS;obtain⟨L,hL⟩:∃L,L=bS n ls cs n.aa.length:=⟨_,rfl⟩;have hlen:L.length=n.aj.length+cj n n.aa.length:=by have h1:=vh ls cs hcl n.aa.length (aS _);rw[hL];omega
 unfold oe;rw[if_neg (fun q=>q hc),if_neg h64,<-hL,if_pos ⟨by rw[hlen,hoff];omega,rfl⟩];have hbit:=vn (n:=n) ls cs hcl n.aa.length (aS _);rw[<-hL]at hbit;have e1:L.take n.aj.length=ls:=by rw[hL,<-hll];unfold bS;exact List.take_left
 refine Prod.ext rfl (Prod.ext e1 (List.ext_getElem? fun i=>?_));show(i6 n (L.drop n.aj.length) n.aa.length)[i]?=cs[i]?;by_cases hi:i<n.aa.length
 .have hx:=aN hi;have hy:=aN (show i<cs.length by omega);obtain⟨m,hm⟩:∃m,m=n.aa[i]:=⟨_,rfl⟩;obtain⟨c,hcc⟩:∃c,c=cs[i]'(by omega):=⟨_,rfl⟩;rw[<-hm]at hx;rw[<-hcc]at hy;have ko:=ok.ok i m c hx hy;have hg:n.aa.getD i mz=m:=by rw[bM,hx];rfl
  unfold i6;rw[bT,List.getElem?_range hi,hy];show some (iK (n.aa.getD i mz).word.toNat ((L.drop n.aj.length).drop (cj n i)) (2^(n.aa.getD i mz).addr.toNat))=some c;rw[hg];refine congrArg some (canon (I4 _ _ _) ko.rO (fun p hp=>?_) (fun p hp=>by have:=ko.wd p hp;omega) fun a=>?_)
  .obtain⟨x,_,h0,rfl⟩:=Aw hp;show((cellAt _ _ x:Nat):Int)≠0;omega
  .by_cases ha:0<=a/\a<((2^m.addr.toNat:Nat):Int)
   .obtain⟨x,rfl⟩:∃x:Nat,a=(x:Int):=⟨a.toNat,by omega⟩;have hx2:x<2^m.addr.toNat:=by omega
    have hr0:0<=rd c (x:Int)/\rd c (x:Int)<2^m.word.toNat:=by
     rcases Vf c (x:Int)with e|⟨p,hp,e⟩
     .rw[e,vg];have:=Nat.two_pow_pos m.word.toNat;omega
     .have:=ko.wd p hp;rw[e];exact⟨by omega,this.2⟩
    have hoff:cj n i+2^m.addr.toNat*m.word.toNat<=cj n n.aa.length:=by have h1:=lZ n hx;have h2:=vf n (show i+1<=n.aa.length by omega);unfold cq at h1;omega
    have hmul:=Nat.mul_le_mul_right m.word.toNat (show x+1<=2^m.addr.toNat from hx2);rw[Nat.succ_mul x]at hmul;have hcell:cellAt m.word.toNat ((L.drop n.aj.length).drop (cj n i)) x=(rd c (x:Int)).toNat:=by
     unfold cellAt;have hl2:((((L.drop n.aj.length).drop (cj n i)).drop (x*m.word.toNat)).take m.word.toNat).length=m.word.toNat:=by rw[dx,List.length_drop,List.length_drop,List.length_drop];omega
     refine Uq ?_ fun j hj=>?_
     .rw[hl2];have:=hr0.2;rw[vg]at this;omega
     .rw[hl2]at hj;have hb:=hbit i m c hi hx hy x j hx2 hj;rw[<-hb,hll];rw[bM,bM,List.getElem?_take,if_pos hj,List.getElem?_drop,List.getElem?_drop,List.getElem?_drop];congr 2;omega
    by_cases hz:cellAt m.word.toNat ((L.drop n.aj.length).drop (cj n i)) x=0
    .rw[AF (fun p hp=>by
      obtain⟨y,_,h0,rfl⟩:=Aw hp;show(y:Int)≠(x:Int);intro e;have:y=x:=by omega
      subst this;exact h0 hz)]
     rw[hcell]at hz;omega
    .have hm2:((x:Int),(((cellAt m.word.toNat ((L.drop n.aj.length).drop (cj n i)) x:Nat):Int),()))∈iK m.word.toNat ((L.drop n.aj.length).drop (cj n i)) (2^m.addr.toNat):=by unfold iK;refine List.mem_flatMap.2 ⟨x,List.mem_range.2 hx2,?_⟩;rw[if_neg hz];exact List.mem_singleton.2 rfl
     rw[JG (I4 _ _ _) hm2];show((cellAt _ _ x:Nat):Int)=_;rw[hcell];omega
   .rw[AF (fun p hp=>by
      obtain⟨y,hy2,h0,rfl⟩:=Aw hp;show(y:Int)≠a;intro e;exact ha (by omega)),AF (fun p hp=>by
      have:=ko.at_ p hp;rw[vg]at this;intro e;exact ha (by omega))]
 .unfold i6;rw[bT,ep (by simpa using hi),ep (by omega)];rfl
end
section
variable{n:aB}{V:Nat}(ft:Fit n)(hs:cr n V)(h0:dv n=0)(ha:eO (aR n) V=true){s:Mk}{L:List cu}{cv:Nat->Nat}(P:lH n V n.aa.length s L cv)(hv:s.v<=2000)(hc:Pl.dF n=0)(h64:¬64<dA n)
include hs h0 ha P hv
theorem Q0{K:Nat}{ls:List Bool}{cs:List (List aJ)}(ok:jG n K ls cs):jG (bC n s L) 0 (bS n ls cs n.aa.length) []:=⟨VO hs h0 ha P hv ok,rfl,fun i m c hm _=>by have hm:([]:List aV)[i]?=some m:=hm;simp at hm⟩
theorem afJ:both (iQ n.vars n.vars) (both (fp (Sh.beq (.int .i64)) n.aL n.aL) (both (fp (Sh.beq ae) (n.aj.map bf) (n.aj.map bf)) (both (fp (Sh.beq (.int .i64)) n.bz n.bz) (both (fp (Sh.beq (.int .i64)) n.bc n.bc) (both (fp (Sh.beq (.int .i64)) n.constraints n.constraints) (both (fp (Sh.beq ab) (n.aa.map af) (n.aa.map af)) (both (fp (Sh.beq ae) (n.aC.map cG) (n.aC.map cG)) true)))))))=true:=kW (ar rfl) (kW (jX (fun x=>Sh.jY x) _) (kW (jX (fun x=>Sh.jY x) _) (kW (jX (fun x=>Sh.jY x) _) (kW (jX (fun x=>Sh.jY x) _) (kW (jX (fun x=>Sh.jY x) _) (kW (jX (fun x=>Sh.jY x) _) (kW (jX (fun x=>Sh.jY x) _) rfl)))))))
include ft hc h64
theorem agX(I:List (List Bool))(hI:I.length<=40){ls:List Bool}{cs:List (List aJ)}(ok:jG n 4096 ls cs) :
  ∃o,Gp (I,((0:Int),nt n (mc n (bK n V) ls (bJ n cs) (mc (bC n s L) (bK (bC n s L) s.v) (bS n ls cs n.aa.length) (bJ (bC n s L) []) ()))))=some o/\(o=.inl (true,())\/o=.inr ()):=by
 have hs':=oA hs P hv;have qj:=Ux ft hs P hv;have ha':=Ay hs h0 ha P hv;have hlo:=P.lo;have al:=TD;unfold Gp;refine mW (fun d:TL rQ.σs=>∃(k:Nat) (ls:List Bool) (cs:List (List aJ)),k<=I.length/\jG n (4096+4*k) ls cs/\d=(I,((k:Int),nt n (mc n (bK n V) ls (bJ n cs) (mc (bC n s L) (bK (bC n s L) s.v) (bS n ls cs n.aa.length) (bJ (bC n s L) []) ()))))) (fun o:Out rP=>o=.inl (true,())\/o=.inr ()) (fun d:TL rQ.σs=>I.length-Int.toNat (show Int from d.2.1)) ?_ NN _ ⟨0,ls,cs,dq _,ok,rfl⟩ (bL (by omega));rintro _ ⟨k,ls,cs,hk,ok,rfl⟩;by_cases hlt:k<I.length
 .have hx:=aN hlt;have g:gt (.sl .bool) I (k:Int)=I[k]:=bF (σ:=.sl .bool) hx;have aY:av (k:Int) (List.length I)=true:=aK ⟨by omega,by omega⟩;obtain⟨x,hxe⟩:∃x,x=I[k]:=⟨_,rfl⟩;rw[<-hxe]at g;have okE':=Q0 hs h0 ha P hv ok;by_cases hw:x.length=n.aL.length
  .have eV1:=N3 hs ft (by omega) ls x cs ok hw;have eV2:=N3 hs' qj (by omega) (bS n ls cs n.aa.length) x [] okE' hw;have eS1:=Un hs ft (by omega) ls x cs ok hw;have eS2:=Un hs' qj (by omega) (bS n ls cs n.aa.length) x [] okE' hw;have hnx:=afb hs h0 ha P hv ok x;have htk:=afc hs h0 ha P hv ok x hlo;have lv:(ct n ls cs x).length=V+1:=by rw[zU,hs.vars];rfl
   have lv':(ct (bC n s L) (bS n ls cs n.aa.length) [] x).length=s.v+1:=by rw[zU];show((s.v:Int)).toNat+1=_;omega
   have ok2:=abw hs ok (ct n ls cs x);have okE2:=Q0 hs h0 ha P hv ok2;have hnm:eI (bC n s L) [] (ct (bC n s L) (bS n ls cs n.aa.length) [] x)=[]:=by unfold eI;exact List.zipWith_nil_right
   rw[hnm,hnx]at eS2;generalize hvv:ct n ls cs x=v at *
   generalize hvw:ct (bC n s L) (bS n ls cs n.aa.length) [] x=w at *
   have eT1:=Um hs (bK n V) (by omega) ok2;have eT2:=Um hs' (bK (bC n s L) s.v) (by omega) okE2;have hll2:(dY n v).length<=100000:=by have:=ok2.kS;have:=hs.lens.2.1;omega
   have hff:kb (cH n) (dY n v,(eI n cs v,()))=0:=agr hc (ags hs hc h64 ok2);have eZ:=TW ft hff h64 (ahM hs ok2) hll2;have eSm10:EK (v,((List.take (@HSub.hSub Nat Nat Nat _ (Int.toNat (Int.ofNat (List.length v))) 0) (List.drop 0 w)),()))=some (true,()):=by
    have e:List.take (@HSub.hSub Nat Nat Nat _ (Int.toNat (Int.ofNat (List.length v))) 0) (List.drop 0 w)=v:=by rw[List.drop_zero];show List.take (v.length-0) w=v;rw[Nat.sub_zero];exact htk
    exact(congrArg (fun z:List Bool=>EK (v,(z,()))) e).trans (WD v (by have:=hs.v2;omega))
   have hl2:(bS n (dY n v) (eI n cs v) n.aa.length).length<=100000:=by rw[okE2.kS];have:=hs'.lens.2.1;omega
   have eSm12:=WC (bS n (dY n v) (eI n cs v) n.aa.length) [] hl2 (dq _) (fun c hc=>nomatch hc);have q1:bn false true (iL (Int.ofNat (List.length w)) (Int.ofNat (List.length v)))=false:=by have:iL (Int.ofNat (List.length w)) (Int.ofNat (List.length v))=false:=au (by show ¬(w.length:Int)<(v.length:Int);omega);rw[this];rfl
   have q2:both (iE 0 (Int.ofNat (List.length v))) (iE (Int.ofNat (List.length v)) (Int.ofNat (List.length w)))=true:=kW (ar (by show(0:Int)<=(v.length:Int);omega)) (ar (by show(v.length:Int)<=(w.length:Int);omega));have q3:=afJ hs h0 ha P hv;have q4:both (fp (Sh.beq .bool) (bS n (dY n v) (eI n cs v) n.aa.length) (bS n (dY n v) (eI n cs v) n.aa.length)) (both true true)=true:=kW (jX (fun x=>Sh.jY x) _) rfl;have hk1:IntKind.wrap .i64 ((k:Int)+1)=((k+1:Nat):Int):=bR (x:=(k:Int)+1) (n:=k+1) (by omega) (by omega);have eV1':∀z:List Bool,z=x->qQ (z,mc n (bK n V) ls (bJ n cs) ())=some ((0:Int),mc n (bK n V) ls (bJ n cs) (v,())):=by rintro _ rfl;exact eV1
   have eV2':∀z:List Bool,z=x->qQ (z,mc (bC n s L) (bK (bC n s L) s.v) (bS n ls cs n.aa.length) (bJ (bC n s L) []) ())=some ((0:Int),mc (bC n s L) (bK (bC n s L) s.v) (bS n ls cs n.aa.length) (bJ (bC n s L) []) (w,())):=by rintro _ rfl;exact eV2
   have eS1':∀z:List Bool,z=x->Bs (z,mc n (bK n V) ls (bJ n cs) ())=some (qA n v,((0:Int),mc n (bK n V) (dY n v) (bJ n (eI n cs v)) (sw n v,()))):=by rintro _ rfl;exact eS1
   have eS2':∀z:List Bool,z=x->Bs (z,mc (bC n s L) (bK (bC n s L) s.v) (bS n ls cs n.aa.length) (bJ (bC n s L) []) ())=some (qA (bC n s L) w,((0:Int),mc (bC n s L) (bK (bC n s L) s.v) (bS n (dY n v) (eI n cs v) n.aa.length) (bJ (bC n s L) []) (sw (bC n s L) w,()))):=by rintro _ rfl;exact eS2
   have e:∀(p q:Int),p=q->(some (.inl (I,(p,nt n (mc n (bK n V) (dY n v) (bJ n (eI n cs v)) (mc (bC n s L) (bK (bC n s L) s.v) (bS n (dY n v) (eI n cs v) n.aa.length) (bJ (bC n s L) []) ()))))):Option (TL rQ.σs⊕Out rP))=some (.inl (I,(q,nt n (mc n (bK n V) (dY n v) (bJ n (eI n cs v)) (mc (bC n s L) (bK (bC n s L) s.v) (bS n (dY n v) (eI n cs v) n.aa.length) (bJ (bC n s L) []) ()))))):=by rintro _ _ rfl;rfl
   refine .inr ⟨(I,(((k+1:Nat):Int),nt n (mc n (bK n V) (dY n v) (bJ n (eI n cs v)) (mc (bC n s L) (bK (bC n s L) s.v) (bS n (dY n v) (eI n cs v) n.aa.length) (bJ (bC n s L) []) ())))),?_,⟨k+1,dY n v,eI n cs v,hlt,by rw[show 4096+4*(k+1)=4096+4*k+4 by omega];exact ok2,rfl⟩,?_⟩
   .exact ax (ar (show(k:Int)<(I.length:Int) by omega)) (ak aY (ah (eV1' _ g) (ak aY (ah (eV2' _ g) (ag (fQ (ar rfl)) (ag (fQ (ar rfl)) (ag q1 (ak q2 (ah eSm10 (ag rfl (ak aY (ah (eS1' _ g) (ak aY (ah (eS2' _ g) (ah eT1 (ak q3 (ah eZ (ak (ar rfl) (ag (fQ (ar rfl)) (ah eT2 (ak q4 (ah eSm12 (ag rfl (e _ _ hk1))))))))))))))))))))))))
   .show I.length-Int.toNat ((k+1:Nat):Int)<I.length-Int.toNat (k:Int);rw[eD,eD];omega
  .have eV1:=abg hs (bK n V) ls x (bJ n cs) hw;have eV2:=abg hs' (bK (bC n s L) s.v) (bS n ls cs n.aa.length) x (bJ (bC n s L) []) hw;have eV1':∀z:List Bool,z=x->qQ (z,mc n (bK n V) ls (bJ n cs) ())=some ((1:Int),mc n (bK n V) ls (bJ n cs) ([],())):=by rintro _ rfl;exact eV1
   have eV2':∀z:List Bool,z=x->qQ (z,mc (bC n s L) (bK (bC n s L) s.v) (bS n ls cs n.aa.length) (bJ (bC n s L) []) ())=some ((1:Int),mc (bC n s L) (bK (bC n s L) s.v) (bS n ls cs n.aa.length) (bJ (bC n s L) []) ([],())):=by rintro _ rfl;exact eV2
   exact .inl ⟨.inl (true,()),ax (ar (show(k:Int)<(I.length:Int) by omega)) (ak aY (ah (eV1' _ g) (ak aY (ah (eV2' _ g) (ax (ke (au (show ¬((1:Int)=0) by decide))) (ax (ar rfl) (ah al rfl))))))),.inl rfl⟩
 .exact .inl ⟨.inr (),ag (au (show ¬(k:Int)<(I.length:Int) by omega)) rfl,.inr rfl⟩
end
theorem adD(d:ca.T)(s:gK.T)(ins:List (List Bool))(hd:lj ca d)(hs:lj gK s)(hi:lj (.sl (.sl .bool)) ins):Rm (d,(s,(ins,())))=some (true,()):=by
 obtain⟨ls,cs,⟨⟩⟩:=s;obtain⟨b,eb,hb⟩:=ajA d ls cs ins;have al:=TD;cases b with
 |false=>exact ah eb (ax rfl (ah al rfl))|true=>
  obtain⟨h5,hL⟩:=hb rfl;have ft:=ahr hd h5;obtain⟨n,rfl⟩:∃n,d=cH n:=⟨js d,(Qh d).symm⟩;rw[o9]at ft;have hok:pb cs:=ahL hs.2.1;have ef:=aeJ ft (ls:=ls) hok;by_cases h0:kb (cH n) (ls,(cs,()))=0
  .obtain⟨hc,hf⟩:=Vy h0;have qf:bn false true (Bool.not (iQ (kb (cH n) (ls,(cs,()))) 0))=false:=by have:iQ (kb (cH n) (ls,(cs,()))) 0=true:=ar h0;rw[this];rfl
   obtain⟨_,x2,x3,x4⟩:=adG ft;by_cases h64:64<dA n
   .exact ah eb (ag rfl (ah ef (ag qf (ah (x2 hc h64) (ax (ke (au (by decide))) (ah al rfl))))))
   .cases hm:JD n with
    |true=>exact ah eb (ag rfl (ah ef (ag qf (ah (x3 hc h64 hm) (ax (ke (au (by decide))) (ah al rfl))))))|false=>
     obtain⟨V,s,L,cv,en,hsn,hs0,ha,hsm,P,hv⟩:=x4 hc h64 hm;have ok:=anK hf hok;have hls:=hL.1;have eZ:=TW ft h0 h64 hok (by omega);have hs':=oA hsn P hv;have qj:=Ux ft hsn P hv;have hcE:=TN hsn hs0 ha P hv;have okE':=Q0 hsn hs0 ha P hv ok;have hlE:(bS n ls cs n.aa.length).length<=100000:=by rw[okE'.kS];have:=hs'.lens.2.1;omega
     have eB:=(aeq ft (bS n ls cs n.aa.length) [] hlE).1;rw[agf hsn hc h64 ok]at eB;have eN1:=Vb ft ls cs hc hf (by omega);have hfE:iN (cH (bC n s L)) (bS n ls cs n.aa.length,([],()))=true:=by have e1:decide (List.length (bS n ls cs n.aa.length)=(cH (bC n s L)).2.2.1.length)=true:=bG (okE'.kS.trans (aI ..).symm);unfold iN;show(decide (List.length (bS n ls cs n.aa.length)=(cH (bC n s L)).2.2.1.length)&&true&&true)=true;rw[e1];rfl
     have eN2:=Vb qj (bS n ls cs n.aa.length) [] hcE hfE (by omega);have hV:n.vars.toNat=V:=by rw[hsn.vars];rfl
     have hVE:(bC n s L).vars.toNat=s.v:=by show((s.v:Int)).toNat=_;omega
     rw[hV]at eN1;rw[hVE]at eN2;have hcl:∀c∈(show List (List aJ)from cs),List.length c<=100000:=fun c hc=>dK (aeW ok c hc) (by omega);have eSm:=WC ls cs (by omega) (dK (Nat.le_of_eq ok.jU) (by have:=hsn.lens.2.2.2.2;omega)) hcl;obtain⟨o,eo,ho⟩:=agX ft hsn hs0 ha P hv hc h64 ins hL.2.2.1 ok;have fin:∀o:Out rP,(o=.inl (true,())\/o=.inr ())->Gp (ins,((0:Int),nt n (mc n (bK n V) ls (bJ n cs) (mc (bC n s L) (bK (bC n s L) s.v) (bS n ls cs n.aa.length) (bJ (bC n s L) []) ()))))=some o->Rm (cH n,((ls,(cs,())),(ins,())))=some (true,()):=by
      rintro o (rfl|rfl) eo
      .exact ah eb (ag rfl (ah ef (ag qf (ah en (ag (fQ (ar rfl)) (ah eZ (ah eB (ah eN1 (ah eN2 (ag (fQ (ar rfl)) (ag rfl (ah eSm (ag rfl (ag rfl (ag rfl (ah eo rfl))))))))))))))))
      .exact ah eb (ag rfl (ah ef (ag qf (ah en (ag (fQ (ar rfl)) (ah eZ (ah eB (ah eN1 (ah eN2 (ag (fQ (ar rfl)) (ag rfl (ah eSm (ag rfl (ag rfl (ag rfl (ah eo (ah al rfl)))))))))))))))))
     exact fin o ho eo
  .have qf:bn false true (Bool.not (iQ (kb (cH n) (ls,(cs,()))) 0))=true:=by have:iQ (kb (cH n) (ls,(cs,()))) 0=false:=au h0;rw[this];rfl
   exact ah eb (ag rfl (ah ef (ax qf (ah al rfl))))
