import Derived.Test.YtkcpdpplobhpaaaGreatKNc
import Derived.Test.YtkcpdpplobhpaaaGreatKNd
import Derived.Test.YtkcpdpplobhpaaaGreatKMf
set_option linter.unusedVariables false
set_option linter.unusedSimpArgs false
set_option linter.unnecessarySimpa false
/- memories, states of netlists, the documents beside them (printed by VTool.lean). -/
namespace Go.Proofs.YtkcpdpplobhpaaaGreat.V
open Go Go.RowKit
set_option maxRecDepth 1000000
abbrev Zos:List Sh:=[(.int .i64)]
abbrev Zlp:List Sh:=[(.int .i64)]
abbrev Zarf:=TL Zos→Option (TL Zlp)
abbrev Zalf:=Kd 126 Zos Zlp
def Zmd (a0:Int):Option (TL Zlp):=
 some ((selI (iL (selI (iL (64:Int) a0) (64:Int) a0) (0:Int)) (0:Int) (selI (iL (64:Int) a0) (64:Int) a0)),())
def Zb0d  :Zalf:=⟨u1 Zmd,pD Tryz.func126 6 k0 e0 1 (sS l0) fun d=>by kernel_rfl⟩
def Zarg:Zalf:=Zb0d  
abbrev Zrm:List Sh:=[(.int .u64),(.int .i64)]
abbrev Zon:List Sh:=[.bool]
abbrev Zan5:=TL Zrm→Option (TL Zon)
abbrev Zak2:=Kd 196 Zrm Zon
def Zqz (F0:Zarf) (a0 a1:Int):Option (TL Zon):=
 bnd (F0 (a1,())) fun x0=>
 chk (iE (0:Int) x0.1)<|
 some ((iQ (Int.fdiv a0 (HPow.hPow (2:Int) (Min.min (Int.toNat x0.1) 64))) (0:Int)),())
def Zb4a (c0:Zalf) :Zak2:=⟨u2 (Zqz c0.F),pD Tryz.func196 10 (kD c0 k0) e0 1 (sS l0) fun d=>by kernel_rfl⟩
def Zan6:Zak2:=Zb4a Zarg 
abbrev Zg6:Lay:={ T:=[(0,.int .i64),(1,.int .i64),(2,.fz Za3),(28,.fz Za3),(29,.int .i64),(30,.int .i64)],h:=[],nx:=0 }
abbrev ySa0:List (Nat×LO):=[(0,.cells lNet 27),(1,.cells [.fz .bool,.fz (.sl Za3)] 40)]
abbrev ySa1:List (Nat×LO):=[(0,.cells [.int .i64,.int .i64,.mp 1] 220),(1,.map .u64 (.int .u64))]
abbrev ySa2:Lay:={ T:=[(4,.int .i64)],h:=[],nx:=0 }
abbrev ySa3:Lay:={ T:=[],h:=[],nx:=0 }
abbrev Zfc:List (Ev.Ex×Lay):=[(.ret,{ T:=[(6,.bool)],h:=[],nx:=0 }),((.exit 0),ySa3)]
abbrev Zawp:=TL Zg6.σs→Option (Out Zfc)
abbrev Zaq9:=Ld 0 68 (Zb5 [0] (Zaa Tryz.f144)) Zg6 Zfc
def Zls (F0:Zan5) (t0 t1:Int) (t2 t28:List (Sh.T Za3)) (t29 t30:Int):Option (TL Zg6.σs⊕Out Zfc):=
 br (iL t30 t29)
 (
  chk (inb t30 (List.length t28))<|
  br (iQ (gt Za3 t28 t30).2.1 (0:Int))
  (
   some (.inr (.inl (false,()))))
  (
   bnd (F0 ((gt Za3 t28 t30).1,(t0,()))) fun x0=>
   br (selB false true (Bool.not x0.1))
   (
    some (.inr (.inl (false,()))))
   (
    bnd (F0 ((gt Za3 t28 t30).2.1,(t1,()))) fun x1=>
    br (selB false true (Bool.not x1.1))
    (
     some (.inr (.inl (false,()))))
    (
     br (iL (0:Int) t30)
     (
      chk (inb (IntKind.wrap .i64 (t30 - (1:Int))) (List.length t2))<|
      br (selB false true (selB true (iE (gt Za3 t28 t30).1 (gt Za3 t2 (IntKind.wrap .i64 (t30 - (1:Int)))).1) false))
      (
       some (.inr (.inl (false,()))))
      (
       some (.inl (t0,(t1,(t2,(t28,(t29,((IntKind.wrap .i64 (t30+(1:Int))),())))))))))
     (
      some (.inl (t0,(t1,(t2,(t28,(t29,((IntKind.wrap .i64 (t30+(1:Int))),()))))))))))))
 (
  some (.inr (.inr ())))
def Zb2p (c0:Zak2) :Zaq9:=mkL (u6 (Zls c0.F)) (pL (kD c0 k0) e0 1 l0 fun d=>by kernel_rfl)
def Zb2o:Zaq9:=Zb2p Zan6 
abbrev Zrd:List Sh:=[(.int .i64),(.int .i64),(.sl Za3)]
abbrev Zog:List Sh:=[.bool]
abbrev Zay9:=TL Zrd→Option (TL Zog)
abbrev Zasu:=Kd 144 Zrd Zog
def Zqh (F0:Zan5) (L4:Zawp) (a0 a1:Int) (a2:List (Sh.T Za3)):Option (TL Zog):=
 br (iL a0 (1:Int))
 (
  some (false,()))
 (
  br (selB false true (iL (62:Int) a0))
  (
   some (false,()))
  (
   br (selB false true (iL a1 (1:Int)))
   (
    some (false,()))
   (
    br (selB false true (iL (64:Int) a1))
    (
     some (false,()))
    (
     br (selB false true (iL (4096:Int) (Int.ofNat (List.length a2))))
     (
      some (false,()))
     (
      bnd (L4 (a0,(a1,(a2,(a2,((Int.ofNat (List.length a2)),((0:Int),()))))))) fun x0=>
      (match x0 with
      | .inl x1=>
       some (x1.1,())
      | .inr x1=>
       some (true,())
      ))))))
def Zb44 (c0:Zak2) (M4:Zaq9):Zasu:=⟨u3 (Zqh c0.F M4.L),pD Tryz.func144 68 (kD c0 k0) e0 1 (sS (sC M4 l0)) fun d=>by kernel_rfl⟩
def Zaya:Zasu:=Zb44 Zan6 Zb2o
abbrev Zh9:Lay:={ T:=[(0,.int .i64),(1,.int .i64),(2,.fz Za3)],h:=[],nx:=0 }
abbrev Zf1:List (Ev.Ex×Lay):=[(.ret,{ T:=[(0,.nilp),(1,.int .i64)],h:=[],nx:=0 }),(.ret,{ T:=[(0,.ptr 0 0),(1,.int .i64)],h:=ySa1,nx:=2 })]
abbrev Zawc:=TL Zh9.σs→Option (Out Zf1)
abbrev Zarc:=Kb 74 3 Zh9 2 Zf1
abbrev Zh8:Lay:={ T:=[(8,.ptr 0 0),(21,.fz Za3),(22,.int .i64),(23,.int .i64)],h:=ySa1,nx:=2 }
abbrev Zg7:List (Ev.Ex×Lay):=[((.exit 0),{ T:=[(8,.ptr 0 0)],h:=ySa1,nx:=2 })]
abbrev Zayb:=TL Zh8.σs→Option (Out Zg7)
abbrev Zayc:=Ld 0 37 (Zb5 [0] (Zaa Tryz.f74)) Zh8 Zg7
def Zqi (t21:List (Sh.T Za3)) (t22 t23 b0_0 b0_1:Int) (b1:List (Sh.T Za3)):Option (TL Zh8.σs⊕Out Zg7):=
 br (iL t23 t22)
 (
  chk (inb t23 (List.length t21))<|
  some (.inl (t21,(t22,((IntKind.wrap .i64 (t23+(1:Int))),(b0_0,(b0_1,((@mput (.int .u64) (gt Za3 t21 t23).1 (gt Za3 t21 t23).2.1 b1),()))))))))
 (
  some (.inr (b0_0,(b0_1,(b1,())))))
def Zb45  :Zayc:=mkL (u6 Zqi) (pL k0 e0 1 l0 fun d=>by kernel_rfl)
def Zrt (F0:Zay9) (L5:Zayb) (t0 t1:Int) (t2:List (Sh.T Za3)):Option (Out Zf1):=
 bnd (F0 (t0,(t1,(t2,())))) fun x0=>
 br (Bool.not x0.1)
 (
  some (.inl ((14:Int),())))
 (
  bnd (L5 (t2,((Int.ofNat (List.length t2)),((0:Int),(t0,(t1,([],()))))))) fun x1=>
  some (.inr ((0:Int),x1)))
def Zb52 (c0:Zasu) (M5:Zayc):Zarc:=⟨u3 (Zrt c0.F M5.L),pB Tryz.func74 37 (kD c0 k0) e0 1 (sS (sC M5 l0)) fun d=>by kernel_rfl⟩
def Zawd:Zarc:=Zb52 Zaya Zb45
abbrev Zjo:Lay:={ T:=[(0,.ptr 0 0),(1,.int .u64),(2,.int .u64)],h:=ySa1,nx:=2 }
abbrev Zhk:List (Ev.Ex×Lay):=[(.ret,{ T:=[(0,.bool)],h:=ySa1,nx:=2 })]
abbrev Zalo:=TL Zjo.σs→Option (Out Zhk)
abbrev Zafl:=Kb 150 3 Zjo 1 Zhk
def Zoo (F0:Zan5) (t1 t2 b0_0 b0_1:Int) (b1:List (Sh.T Za3)):Option (Out Zhk):=
 bnd (F0 (t1,(b0_0,()))) fun x0=>
 br (selB false true (Bool.not x0.1))
 (
  some (false,(b0_0,(b0_1,(b1,())))))
 (
  bnd (F0 (t2,(b0_1,()))) fun x1=>
  br (selB false true (Bool.not x1.1))
  (
   some (false,(b0_0,(b0_1,(b1,())))))
  (
   br (iQ t2 (0:Int))
   (
    some (true,(b0_0,(b0_1,((@mdel (.int .u64) t1 b1),())))))
   (
    some (true,(b0_0,(b0_1,((@mput (.int .u64) t1 t2 b1),())))))))
def Zav9 (c0:Zak2) :Zafl:=⟨u5 (Zoo c0.F),pB Tryz.func150 42 (kD c0 k0) e0 1 (sS l0) fun d=>by kernel_rfl⟩
def Zalp:Zafl:=Zav9 Zan6 
abbrev Zkg:Lay:={ T:=[(0,.agg lNet),(1,.agg [.fz .bool,.fz (.sl Za3)])],h:=[],nx:=0 }
abbrev Zia:List (Ev.Ex×Lay):=[(.ret,{ T:=[(0,.rhd 0),(1,.int .i64)],h:=[(0,.rams 220)],nx:=1 })]
abbrev Zaxx:=TL Zkg.σs→Option (Out Zia)
abbrev Zasw:=Kb 77 2 Zkg 2 Zia
abbrev Zh6:Lay:={ T:=[(3,.ptr 0 0),(4,.rhd 1),(27,.fz Za1),(28,.int .i64),(29,.int .i64)],h:=[(0,.cells [.fz .bool,.fz (.sl Za3)] 40),(1,.rams 220)],nx:=2 }
abbrev Zg3:List (Ev.Ex×Lay):=[(.ret,{ T:=[(4,.nils),(5,.int .i64)],h:=[],nx:=0 }),((.exit 0),{ T:=[(4,.rhd 0)],h:=[(0,.rams 220)],nx:=1 })]
abbrev Zay2:=TL Zh6.σs→Option (Out Zg3)
abbrev Zast:=Ld 0 56 (Zb5 [0] (Zaa Tryz.f77)) Zh6 Zg3
def Zms (F0:Zawc) (t27:List (Sh.T Za1)) (t28 t29:Int) (b0_0:List Bool) (b0_1:List (List (Sh.T Za3))) (b1:List (Sh.T (.agg [(.int .i64),(.int .i64),(.sl Za3)]))):Option (TL Zh6.σs⊕Out Zg3):=
 br (iL t29 t28)
 (
  chk (inb t29 (List.length t27))<|
  chk (inb t29 (List.length b0_1))<|
  bnd (F0 ((gt Za1 t27 t29).1,((gt Za1 t27 t29).2.1,((gt (.sl Za3) b0_1 t29),())))) fun x0=>
  (match x0 with
  | .inl x1=>
   chk (Bool.not (iQ x1.1 (0:Int)))<|
   some (.inr (.inl (x1.1,())))
  | .inr x1=>
   br (Bool.not (iQ x1.1 (0:Int)))
   (
    some (.inr (.inl (x1.1,()))))
   (
    chk (room 8 (List.length (ap b1 ((mkRam x1.2.1 x1.2.2.1 x1.2.2.2.1) :: []))))<|
    some (.inl (t27,(t28,((IntKind.wrap .i64 (t29+(1:Int))),(b0_0,(b0_1,((ap b1 ((mkRam x1.2.1 x1.2.2.1 x1.2.2.2.1) :: [])),()))))))))
  ))
 (
  some (.inr (.inr (b1,()))))
def Zb41 (c0:Zarc) :Zast:=mkL (u6 (Zms c0.F)) (pL (kB c0 k0) e0 1 l0 fun d=>by kernel_rfl)
def Zb40:Zast:=Zb41 Zawd 
def Zrp (F0:Zawc) (L4:Zay2) (t0_0:Int) (t0_1:List Int) (t0_2:List (Sh.T Za0)) (t0_3 t0_4 t0_5:List Int) (t0_6:List (Sh.T Za1)) (t0_7:List (Sh.T Za0)) (t1_0:List Bool) (t1_1:List (List (Sh.T Za3))):Option (Out Zia):=
 br (Bool.not (iQ (Int.ofNat (List.length t1_0)) (Int.ofNat (List.length t0_2))))
 (
  some ((14:Int),([],())))
 (
  br (selB false true (Bool.not (iQ (Int.ofNat (List.length t1_1)) (Int.ofNat (List.length t0_6)))))
  (
   some ((14:Int),([],())))
  (
   bnd (L4 (t0_6,((Int.ofNat (List.length t0_6)),((0:Int),(t1_0,(t1_1,([],()))))))) fun x0=>
   (match x0 with
   | .inl x1=>
    some (x1.1,([],()))
   | .inr x1=>
    some ((0:Int),(x1.1,()))
   )))
def Zb4v (c0:Zarc) (M4:Zast):Zasw:=⟨u10 (Zrp c0.F M4.L),pB Tryz.func77 56 (kB c0 k0) e0 1 (sS (sC M4 l0)) fun d=>by kernel_rfl⟩
def Zaxy:Zasw:=Zb4v Zawd Zb40
abbrev Zsj:List Sh:=[Za5,Zab]
abbrev Zqc:List Sh:=[(.int .i64)]
abbrev Zaz6:=TL Zsj→Option (TL Zqc)
abbrev Zawa:=Kd 72 Zsj Zqc
def Zy5 (F0:Zaq7) (F1:Zaxx) (a0:Sh.T Za5) (a1:Sh.T Zab):Option (TL Zqc):=
 bnd (F0 (a0,())) fun x0=>
 br (Bool.not (iQ x0.1 (0:Int)))
 (
  some (x0.1,()))
 (
  bnd (F1 (a0.1,(a0.2.1,(a0.2.2.1,(a0.2.2.2.1,(a0.2.2.2.2.1,(a0.2.2.2.2.2.1,(a0.2.2.2.2.2.2.1,(a0.2.2.2.2.2.2.2.1,a1))))))))) fun x1=>
  some (x1.1,()))
def Zb50 (c0:Zamw) (c1:Zasw) :Zawa:=⟨u2 (Zy5 c0.F c1.F),pD Tryz.func72 20 (kD c0 (kB c1 k0)) e0 1 (sS l0) fun d=>by kernel_rfl⟩
def Zaz7:Zawa:=Zb50 Zaq8 Zaxy 
abbrev Zfa:Lay:={ T:=[(3,.ptr 0 0),(40,.fz Za1),(41,.int .i64),(42,.int .i64)],h:=[(0,.cells [.fz .bool,.fz (.sl Za3)] 40)],nx:=1 }
abbrev Zep:List (Ev.Ex×Lay):=[(.ret,ySa2),((.exit 2),ySa3)]
abbrev Zatx:=TL Zfa.σs→Option (Out Zep)
abbrev Zaty:=Ld 0 60 (Zb5 [1] (Zaa Tryz.f54)) Zfa Zep
abbrev Zg5:Lay:={ T:=[(2,.ptr 0 0),(3,.ptr 1 0),(17,.fz Za0),(18,.int .i64),(19,.int .i64)],h:=ySa0,nx:=2 }
abbrev Zf9:List (Ev.Ex×Lay):=[(.ret,ySa2),((.exit 0),{ T:=[(2,.ptr 0 0),(3,.ptr 1 0)],h:=ySa0,nx:=2 })]
abbrev Zawn:=TL Zg5.σs→Option (Out Zf9)
abbrev Zawo:=Ld 0 60 (Zb5 [0] (Zaa Tryz.f54)) Zg5 Zf9
def Zlr (t17:List (Sh.T Za0)) (t18 t19 b0_0:Int) (b0_1:List Int) (b0_2:List (Sh.T Za0)) (b0_3 b0_4 b0_5:List Int) (b0_6:List (Sh.T Za1)) (b0_7:List (Sh.T Za0)) (b1_0:List Bool) (b1_1:List (List (Sh.T Za3))):Option (TL Zg5.σs⊕Out Zf9):=
 br (iL t19 t18)
 (
  chk (inb t19 (List.length t17))<|
  br (Bool.not (iQ (gt Za0 t17 t19).2.2.1 (2:Int)))
  (
   chk (inb t19 (List.length b1_0))<|
   br (selB true (Bool.not (@decide _ (Bool.decEq (iQ (gt Za0 t17 t19).2.2.1 (1:Int)) (gt .bool b1_0 t19)))) false)
   (
    some (.inr (.inl ((14:Int),()))))
   (
    some (.inl (t17,(t18,((IntKind.wrap .i64 (t19+(1:Int))),(b0_0,(b0_1,(b0_2,(b0_3,(b0_4,(b0_5,(b0_6,(b0_7,(b1_0,(b1_1,()))))))))))))))))
  (
   some (.inl (t17,(t18,((IntKind.wrap .i64 (t19+(1:Int))),(b0_0,(b0_1,(b0_2,(b0_3,(b0_4,(b0_5,(b0_6,(b0_7,(b1_0,(b1_1,()))))))))))))))))
 (
  some (.inr (.inr (b0_0,(b0_1,(b0_2,(b0_3,(b0_4,(b0_5,(b0_6,(b0_7,(b1_0,(b1_1,())))))))))))))
def Zb2f  :Zawo:=mkL (u13 Zlr) (pL k0 e0 1 l0 fun d=>by kernel_rfl)
def Zkv (t40:List (Sh.T Za1)) (t41 t42:Int) (b0_0:List Bool) (b0_1:List (List (Sh.T Za3))):Option (TL Zfa.σs⊕Out Zep):=
 br (iL t42 t41)
 (
  chk (inb t42 (List.length t40))<|
  br (Bool.not (gt Za1 t40 t42).2.2.1)
  (
   chk (inb t42 (List.length b0_1))<|
   br (selB true (iL (0:Int) (Int.ofNat (List.length (gt (.sl Za3) b0_1 t42)))) false)
   (
    some (.inr (.inl ((14:Int),()))))
   (
    some (.inl (t40,(t41,((IntKind.wrap .i64 (t42+(1:Int))),(b0_0,(b0_1,()))))))))
  (
   some (.inl (t40,(t41,((IntKind.wrap .i64 (t42+(1:Int))),(b0_0,(b0_1,()))))))))
 (
  some (.inr (.inr ())))
def Zb05  :Zaty:=mkL (u5 Zkv) (pL k0 e0 1 l0 fun d=>by kernel_rfl)
abbrev Zr9:List Sh:=[Za5,Zab]
abbrev Zoc:List Sh:=[(.int .i64)]
abbrev Zb04:=TL Zr9→Option (TL Zoc)
abbrev Zaw9:=Kd 54 Zr9 Zoc
def Zwg (F0:Zaz6) (L5:Zawn) (L11:Zatx) (a0:Sh.T Za5) (a1:Sh.T Zab):Option (TL Zoc):=
 bnd (F0 (a0,(a1,()))) fun x0=>
 br (Bool.not (iQ x0.1 (0:Int)))
 (
  some (x0.1,()))
 (
  bnd (L5 (a0.2.2.1,((Int.ofNat (List.length a0.2.2.1)),((0:Int),(a0.1,(a0.2.1,(a0.2.2.1,(a0.2.2.2.1,(a0.2.2.2.2.1,(a0.2.2.2.2.2.1,(a0.2.2.2.2.2.2.1,(a0.2.2.2.2.2.2.2.1,a1)))))))))))) fun x1=>
  (match x1 with
  | .inl x2=>
   some (x2.1,())
  | .inr x2=>
   bnd (L11 (x2.2.2.2.2.2.2.1,((Int.ofNat (List.length x2.2.2.2.2.2.2.1)),((0:Int),x2.2.2.2.2.2.2.2.2)))) fun x3=>
   (match x3 with
   | .inl x4=>
    some (x4.1,())
   | .inr x4=>
    some ((0:Int),())
   )
  ))
def Zb43 (c0:Zawa) (M5:Zawo) (M11:Zaty):Zaw9:=⟨u2 (Zwg c0.F M5.L M11.L),pD Tryz.func54 60 (kD c0 k0) e0 1 (sS (sC M5 (sC M11 l0))) fun d=>by kernel_rfl⟩
def Zb06:Zaw9:=Zb43 Zaz7 Zb2f Zb05
def Zod:Zb04:=Zb06.F
abbrev Zh7:Lay:={ T:=[(1,.ptr 0 0),(2,.ptr 1 0),(10,.fz Za0),(11,.int .i64),(12,.int .i64)],h:=[(0,.cells lNet 27),(1,.cells [.hd 2 .bool,.nils] 40),(2,.arr .bool 4)],nx:=3 }
abbrev Zg4:List (Ev.Ex×Lay):=[((.exit 0),{ T:=[(1,.ptr 0 0),(2,.ptr 1 0)],h:=[(0,.cells lNet 27),(1,.cells [.hd 2 .bool,.nils] 40),(2,.arr .bool 4)],nx:=3 })]
abbrev Zay3:=TL Zh7.σs→Option (Out Zg4)
abbrev Zay4:=Ld 0 31 (Zb5 [0] (Zaa Tryz.f117)) Zh7 Zg4
def Zqb (t10:List (Sh.T Za0)) (t11 t12 b0_0:Int) (b0_1:List Int) (b0_2:List (Sh.T Za0)) (b0_3 b0_4 b0_5:List Int) (b0_6:List (Sh.T Za1)) (b0_7:List (Sh.T Za0)) (b2:List Bool):Option (TL Zh7.σs⊕Out Zg4):=
 br (iL t12 t11)
 (
  chk (inb t12 (List.length t10))<|
  chk (room 1 (List.length (ap b2 ((iQ (gt Za0 t10 t12).2.2.1 (1:Int)) :: []))))<|
  some (.inl (t10,(t11,((IntKind.wrap .i64 (t12+(1:Int))),(b0_0,(b0_1,(b0_2,(b0_3,(b0_4,(b0_5,(b0_6,(b0_7,((ap b2 ((iQ (gt Za0 t10 t12).2.2.1 (1:Int)) :: [])),()))))))))))))))
 (
  some (.inr (b0_0,(b0_1,(b0_2,(b0_3,(b0_4,(b0_5,(b0_6,(b0_7,(b2,())))))))))))
def Zb42  :Zay4:=mkL (u12 Zqb) (pL k0 e0 1 l0 fun d=>by kernel_rfl)
abbrev Zsi:List Sh:=[Za5]
abbrev Zq9:List Sh:=[Zab]
abbrev Zb4w:=TL Zsi→Option (TL Zq9)
abbrev Zaz5:=Kd 117 Zsi Zq9
def Zy4 (F0:Zaq7) (L4:Zay3) (a0:Sh.T Za5):Option (TL Zq9):=
 bnd (F0 (a0,())) fun x0=>
 br (Bool.not (iQ x0.1 (0:Int)))
 (
  some (([],([],())),()))
 (
  bnd (L4 (a0.2.2.1,((Int.ofNat (List.length a0.2.2.1)),((0:Int),(a0.1,(a0.2.1,(a0.2.2.1,(a0.2.2.2.1,(a0.2.2.2.2.1,(a0.2.2.2.2.2.1,(a0.2.2.2.2.2.2.1,(a0.2.2.2.2.2.2.2.1,([],()))))))))))))) fun x1=>
  chk (both (iE (0:Int) (Int.ofNat (List.length x1.2.2.2.2.2.2.1))) (both (iE (Int.ofNat (List.length x1.2.2.2.2.2.2.1)) (Int.ofNat (List.length x1.2.2.2.2.2.2.1))) (iE ((Int.ofNat 24)*(Int.ofNat (List.length x1.2.2.2.2.2.2.1))) (281474976710656:Int))))<|
  some ((x1.2.2.2.2.2.2.2.2.1,((List.replicate (Int.toNat (Int.ofNat (List.length x1.2.2.2.2.2.2.1))) (Sh.zero (.sl Za3))),())),()))
def Zb4y (c0:Zamw) (M4:Zay4):Zaz5:=⟨u1 (Zy4 c0.F M4.L),pD Tryz.func117 31 (kD c0 k0) e0 1 (sS (sC M4 l0)) fun d=>by kernel_rfl⟩
def Zb4x:Zaz5:=Zb4y Zaq8 Zb42
def Zqa:Zb4w:=Zb4x.F
abbrev Zd2:Lay:={ T:=[(0,.int .u64),(1,.int .i64),(5,.int .i64)],h:=[],nx:=0 }
abbrev Zcx:List (Ev.Ex×Lay):=[((.exit 0),{ T:=[(0,.int .u64)],h:=[],nx:=0 })]
abbrev Zagl:=TL Zd2.σs→Option (Out Zcx)
abbrev Zagm:=Ld 0 19 (Zb5 [0] (Zaa Tryz.f127)) Zd2 Zcx
def Zgr (t0 t1 t5:Int):Option (TL Zd2.σs⊕Out Zcx):=
 br (iL t5 t1)
 (
  br (selB true (iL t5 (64:Int)) false)
  (
   some (.inl ((IntKind.wrap .u64 (Int.tdiv t0 (2:Int))),(t1,((IntKind.wrap .i64 (t5+(1:Int))),())))))
  (
   some (.inr (t0,()))))
 (
  some (.inr (t0,())))
def Zap9  :Zagm:=mkL (u3 Zgr) (pL k0 e0 1 l0 fun d=>by kernel_rfl)
abbrev Ziy:List Sh:=[(.int .u64),(.int .i64)]
abbrev Zgq:List Sh:=[.bool]
abbrev Zad5:=TL Ziy→Option (TL Zgq)
abbrev Zabf:=Kd 127 Ziy Zgq
def Zm0 (L2:Zagl) (a0 a1:Int):Option (TL Zgq):=
 bnd (L2 (a0,(a1,((0:Int),())))) fun x0=>
 some ((iQ x0.1 (0:Int)),())
def Zaqu (M2:Zagm):Zabf:=⟨u2 (Zm0 M2.L),pD Tryz.func127 19 k0 e0 1 (sS (sC M2 l0)) fun d=>by kernel_rfl⟩
def Zad6:Zabf:=Zaqu  Zap9
abbrev Zc9:Lay:={ T:=[(0,.int .i64),(1,.int .i64),(2,.fz Za3),(7,.int .i64)],h:=[],nx:=0 }
abbrev Zbr:List (Ev.Ex×Lay):=[(.ret,{ T:=[(6,.bool)],h:=[],nx:=0 }),((.exit 0),ySa3)]
abbrev Zaf8:=TL Zc9.σs→Option (Out Zbr)
abbrev Zac8:=Ld 0 77 (Zb5 [0] (Zaa Tryz.f65)) Zc9 Zbr
def Zee (F0:Zad5) (t0 t1:Int) (t2:List (Sh.T Za3)) (t7:Int):Option (TL Zc9.σs⊕Out Zbr):=
 br (iL t7 (Int.ofNat (List.length t2)))
 (
  br (iL (0:Int) t7)
  (
   chk (inb t7 (List.length t2))<|
   chk (inb (IntKind.wrap .i64 (t7 - (1:Int))) (List.length t2))<|
   br (selB true (iE (gt Za3 t2 t7).1 (gt Za3 t2 (IntKind.wrap .i64 (t7 - (1:Int)))).1) false)
   (
    some (.inr (.inl (false,()))))
   (
    chk (inb t7 (List.length t2))<|
    bnd (F0 ((gt Za3 t2 t7).1,(t0,()))) fun x0=>
    br (selB false true (Bool.not x0.1))
    (
     some (.inr (.inl (false,()))))
    (
     chk (inb t7 (List.length t2))<|
     bnd (F0 ((gt Za3 t2 t7).2.1,(t1,()))) fun x1=>
     br (selB false true (Bool.not x1.1))
     (
      some (.inr (.inl (false,()))))
     (
      chk (inb t7 (List.length t2))<|
      br (selB false true (iQ (gt Za3 t2 t7).2.1 (0:Int)))
      (
       some (.inr (.inl (false,()))))
      (
       some (.inl (t0,(t1,(t2,((IntKind.wrap .i64 (t7+(1:Int))),()))))))))))
  (
   chk (inb t7 (List.length t2))<|
   bnd (F0 ((gt Za3 t2 t7).1,(t0,()))) fun x0=>
   br (selB false true (Bool.not x0.1))
   (
    some (.inr (.inl (false,()))))
   (
    chk (inb t7 (List.length t2))<|
    bnd (F0 ((gt Za3 t2 t7).2.1,(t1,()))) fun x1=>
    br (selB false true (Bool.not x1.1))
    (
     some (.inr (.inl (false,()))))
    (
     chk (inb t7 (List.length t2))<|
     br (selB false true (iQ (gt Za3 t2 t7).2.1 (0:Int)))
     (
      some (.inr (.inl (false,()))))
     (
      some (.inl (t0,(t1,(t2,((IntKind.wrap .i64 (t7+(1:Int))),()))))))))))
 (
  some (.inr (.inr ())))
def Zanm (c0:Zabf) :Zac8:=mkL (u4 (Zee c0.F)) (pL (kD c0 k0) e0 1 l0 fun d=>by kernel_rfl)
def Zanl:Zac8:=Zanm Zad6 
abbrev Zih:List Sh:=[(.int .i64),(.int .i64),(.sl Za3)]
abbrev Zfq:List Sh:=[.bool]
abbrev Zacp:=TL Zih→Option (TL Zfq)
abbrev Zaay:=Kd 65 Zih Zfq
def Zgn (F0:Zad5) (L4:Zaf8) (a0 a1:Int) (a2:List (Sh.T Za3)):Option (TL Zfq):=
 br (iL a0 (1:Int))
 (
  some (false,()))
 (
  br (selB false true (iL (62:Int) a0))
  (
   some (false,()))
  (
   br (selB false true (iL a1 (1:Int)))
   (
    some (false,()))
   (
    br (selB false true (iL (64:Int) a1))
    (
     some (false,()))
    (
     br (selB false true (iL (4096:Int) (Int.ofNat (List.length a2))))
     (
      some (false,()))
     (
      bnd (L4 (a0,(a1,(a2,((0:Int),()))))) fun x0=>
      (match x0 with
      | .inl x1=>
       some (x1.1,())
      | .inr x1=>
       some (true,())
      ))))))
def Zap4 (c0:Zabf) (M4:Zac8):Zaay:=⟨u3 (Zgn c0.F M4.L),pD Tryz.func65 77 (kD c0 k0) e0 1 (sS (sC M4 l0)) fun d=>by kernel_rfl⟩
def Zacq:Zaay:=Zap4 Zad6 Zanl
abbrev Zcn:Lay:={ T:=[(2,.ptr 0 0),(3,.ptr 1 0),(6,.int .i64)],h:=ySa0,nx:=2 }
abbrev Zc7:List (Ev.Ex×Lay):=[(.ret,ySa2),((.exit 0),ySa3)]
abbrev Zagf:=TL Zcn.σs→Option (Out Zc7)
abbrev Zaco:=Ld 0 54 (Zb5 [0] (Zaa Tryz.f26)) Zcn Zc7
def Zex (F0:Zacp) (t6 b0_0:Int) (b0_1:List Int) (b0_2:List (Sh.T Za0)) (b0_3 b0_4 b0_5:List Int) (b0_6:List (Sh.T Za1)) (b0_7:List (Sh.T Za0)) (b1_0:List Bool) (b1_1:List (List (Sh.T Za3))):Option (TL Zcn.σs⊕Out Zc7):=
 br (iL t6 (Int.ofNat (List.length b0_6)))
 (
  chk (inb t6 (List.length b0_6))<|
  chk (inb t6 (List.length b0_6))<|
  chk (inb t6 (List.length b1_1))<|
  bnd (F0 ((gt Za1 b0_6 t6).1,((gt Za1 b0_6 t6).2.1,((gt (.sl Za3) b1_1 t6),())))) fun x0=>
  br (Bool.not x0.1)
  (
   some (.inr (.inl ((14:Int),()))))
  (
   some (.inl ((IntKind.wrap .i64 (t6+(1:Int))),(b0_0,(b0_1,(b0_2,(b0_3,(b0_4,(b0_5,(b0_6,(b0_7,(b1_0,(b1_1,()))))))))))))))
 (
  some (.inr (.inr ())))
def Zaov (c0:Zaay) :Zaco:=mkL (u11 (Zex c0.F)) (pL (kD c0 k0) e0 1 l0 fun d=>by kernel_rfl)
def Zaou:Zaco:=Zaov Zacq 
abbrev Ziv:List Sh:=[Za5,Zab]
abbrev Zgk:List Sh:=[(.int .i64)]
abbrev Zahu:=TL Ziv→Option (TL Zgk)
abbrev Zad0:=Kd 26 Ziv Zgk
def Zlx (F0:Zacp) (F1:Zadp) (L7:Zagf) (a0:Sh.T Za5) (a1:Sh.T Zab):Option (TL Zgk):=
 bnd (F1 (a0,())) fun x0=>
 br (Bool.not (iQ x0.1 (0:Int)))
 (
  some (x0.1,()))
 (
  br (Bool.not (iQ (Int.ofNat (List.length a1.1)) (Int.ofNat (List.length a0.2.2.1))))
  (
   some ((14:Int),()))
  (
   br (selB false true (Bool.not (iQ (Int.ofNat (List.length a1.2.1)) (Int.ofNat (List.length a0.2.2.2.2.2.2.1)))))
   (
    some ((14:Int),()))
   (
    bnd (L7 ((0:Int),(a0.1,(a0.2.1,(a0.2.2.1,(a0.2.2.2.1,(a0.2.2.2.2.1,(a0.2.2.2.2.2.1,(a0.2.2.2.2.2.2.1,(a0.2.2.2.2.2.2.2.1,a1)))))))))) fun x1=>
    (match x1 with
    | .inl x2=>
     some (x2.1,())
    | .inr x2=>
     some ((0:Int),())
    ))))
def Zaqi (c0:Zaay) (c1:Zacr) (M7:Zaco):Zad0:=⟨u2 (Zlx c0.F c1.F M7.L),pD Tryz.func26 54 (kD c0 (kD c1 k0)) e0 1 (sS (sC M7 l0)) fun d=>by kernel_rfl⟩
def Zahv:Zad0:=Zaqi Zacq Zadq Zaou
abbrev Zbq:Lay:={ T:=[(2,.ptr 0 0),(3,.ptr 1 0),(7,.int .i64)],h:=ySa0,nx:=2 }
abbrev Zbi:List (Ev.Ex×Lay):=[(.ret,ySa2),((.exit 2),ySa3)]
abbrev Zaed:=TL Zbq.σs→Option (Out Zbi)
abbrev Zaee:=Ld 0 75 (Zb5 [1] (Zaa Tryz.f22)) Zbq Zbi
abbrev Zc6:Lay:={ T:=[(2,.ptr 0 0),(3,.ptr 1 0),(6,.int .i64)],h:=ySa0,nx:=2 }
abbrev Zbp:List (Ev.Ex×Lay):=[(.ret,ySa2),((.exit 0),{ T:=[(2,.ptr 0 0),(3,.ptr 1 0)],h:=ySa0,nx:=2 })]
abbrev Zaf6:=TL Zc6.σs→Option (Out Zbp)
abbrev Zaf7:=Ld 0 75 (Zb5 [0] (Zaa Tryz.f22)) Zc6 Zbp
def Zed (t6 b0_0:Int) (b0_1:List Int) (b0_2:List (Sh.T Za0)) (b0_3 b0_4 b0_5:List Int) (b0_6:List (Sh.T Za1)) (b0_7:List (Sh.T Za0)) (b1_0:List Bool) (b1_1:List (List (Sh.T Za3))):Option (TL Zc6.σs⊕Out Zbp):=
 br (iL t6 (Int.ofNat (List.length b0_2)))
 (
  chk (inb t6 (List.length b0_2))<|
  br (iQ (gt Za0 b0_2 t6).2.2.1 (0:Int))
  (
   chk (inb t6 (List.length b1_0))<|
   br (selB true (gt .bool b1_0 t6) false)
   (
    some (.inr (.inl ((14:Int),()))))
   (
    chk (inb t6 (List.length b0_2))<|
    br (iQ (gt Za0 b0_2 t6).2.2.1 (1:Int))
    (
     chk (inb t6 (List.length b1_0))<|
     br (selB false true (selB true (Bool.not (gt .bool b1_0 t6)) false))
     (
      some (.inr (.inl ((14:Int),()))))
     (
      some (.inl ((IntKind.wrap .i64 (t6+(1:Int))),(b0_0,(b0_1,(b0_2,(b0_3,(b0_4,(b0_5,(b0_6,(b0_7,(b1_0,(b1_1,()))))))))))))))
    (
     some (.inl ((IntKind.wrap .i64 (t6+(1:Int))),(b0_0,(b0_1,(b0_2,(b0_3,(b0_4,(b0_5,(b0_6,(b0_7,(b1_0,(b1_1,())))))))))))))))
  (
   chk (inb t6 (List.length b0_2))<|
   br (iQ (gt Za0 b0_2 t6).2.2.1 (1:Int))
   (
    chk (inb t6 (List.length b1_0))<|
    br (selB false true (selB true (Bool.not (gt .bool b1_0 t6)) false))
    (
     some (.inr (.inl ((14:Int),()))))
    (
     some (.inl ((IntKind.wrap .i64 (t6+(1:Int))),(b0_0,(b0_1,(b0_2,(b0_3,(b0_4,(b0_5,(b0_6,(b0_7,(b1_0,(b1_1,()))))))))))))))
   (
    some (.inl ((IntKind.wrap .i64 (t6+(1:Int))),(b0_0,(b0_1,(b0_2,(b0_3,(b0_4,(b0_5,(b0_6,(b0_7,(b1_0,(b1_1,())))))))))))))))
 (
  some (.inr (.inr (b0_0,(b0_1,(b0_2,(b0_3,(b0_4,(b0_5,(b0_6,(b0_7,(b1_0,(b1_1,())))))))))))))
def Zani  :Zaf7:=mkL (u11 Zed) (pL k0 e0 1 l0 fun d=>by kernel_rfl)
def Ze5 (t7 b0_0:Int) (b0_1:List Int) (b0_2:List (Sh.T Za0)) (b0_3 b0_4 b0_5:List Int) (b0_6:List (Sh.T Za1)) (b0_7:List (Sh.T Za0)) (b1_0:List Bool) (b1_1:List (List (Sh.T Za3))):Option (TL Zbq.σs⊕Out Zbi):=
 br (iL t7 (Int.ofNat (List.length b0_6)))
 (
  chk (inb t7 (List.length b0_6))<|
  br (Bool.not (gt Za1 b0_6 t7).2.2.1)
  (
   chk (inb t7 (List.length b1_1))<|
   br (selB true (iL (0:Int) (Int.ofNat (List.length (gt (.sl Za3) b1_1 t7)))) false)
   (
    some (.inr (.inl ((14:Int),()))))
   (
    some (.inl ((IntKind.wrap .i64 (t7+(1:Int))),(b0_0,(b0_1,(b0_2,(b0_3,(b0_4,(b0_5,(b0_6,(b0_7,(b1_0,(b1_1,()))))))))))))))
  (
   some (.inl ((IntKind.wrap .i64 (t7+(1:Int))),(b0_0,(b0_1,(b0_2,(b0_3,(b0_4,(b0_5,(b0_6,(b0_7,(b1_0,(b1_1,()))))))))))))))
 (
  some (.inr (.inr ())))
def Zamg  :Zaee:=mkL (u11 Ze5) (pL k0 e0 1 l0 fun d=>by kernel_rfl)
abbrev Zig:List Sh:=[Za5,Zab]
abbrev Zfo:List Sh:=[(.int .i64)]
abbrev Zakd:=TL Zig→Option (TL Zfo)
abbrev Zado:=Kd 22 Zig Zfo
def Zl5 (F0:Zahu) (L5:Zaf6) (L10:Zaed) (a0:Sh.T Za5) (a1:Sh.T Zab):Option (TL Zfo):=
 bnd (F0 (a0,(a1,()))) fun x0=>
 br (Bool.not (iQ x0.1 (0:Int)))
 (
  some (x0.1,()))
 (
  bnd (L5 ((0:Int),(a0.1,(a0.2.1,(a0.2.2.1,(a0.2.2.2.1,(a0.2.2.2.2.1,(a0.2.2.2.2.2.1,(a0.2.2.2.2.2.2.1,(a0.2.2.2.2.2.2.2.1,a1)))))))))) fun x1=>
  (match x1 with
  | .inl x2=>
   some (x2.1,())
  | .inr x2=>
   bnd (L10 ((0:Int),x2)) fun x3=>
   (match x3 with
   | .inl x4=>
    some (x4.1,())
   | .inr x4=>
    some ((0:Int),())
   )
  ))
def Zaot (c0:Zad0) (M5:Zaf7) (M10:Zaee):Zado:=⟨u2 (Zl5 c0.F M5.L M10.L),pD Tryz.func22 75 (kD c0 k0) e0 1 (sS (sC M5 (sC M10 l0))) fun d=>by kernel_rfl⟩
def Zake:Zado:=Zaot Zahv Zani Zamg
def Zfp:Zakd:=Zake.F
end Go.Proofs.YtkcpdpplobhpaaaGreat.V
