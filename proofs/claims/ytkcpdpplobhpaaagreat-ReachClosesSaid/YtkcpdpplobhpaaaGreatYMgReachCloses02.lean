import Derived.Test.YtkcpdpplobhpaaaGreatYMgReachCloses01
set_option linter.unusedSectionVars false
set_option linter.unusedVariables false
set_option linter.unusedSimpArgs false
set_option linter.unnecessarySimpa false
section
namespace Go.Proofs.YtkcpdpplobhpaaaGreat.V
open Go Go.RowKit
set_option maxRecDepth 1000000
abbrev Pt:List (Nat×LO):=[(0,.arr fJ 55),(1,.cells [.bz,.bz] 40),(2,.cells [.int .i64,.fz (.int .i64),.fz ae,.fz (.int .i64),.fz (.int .i64),.fz (.int .i64),.fz ab,.fz ae,.fz ah,.hd 3 .bool,.cT 4] 145),(3,.arr .bool 4),(4,.cQ 220)]
abbrev Pu:Lay:={ T:=[(3,.int .i64),(9,.ptr 0 0),(11,.fz fJ),(14,.int .i64)],h:=[(0,.cells [.bool,.int .i64,.bool,.int .i64] 42)],nx:=1 }
abbrev yd:Lay:={ T:=[(6,.hd 0 fJ),(7,.ptr 1 0),(9,.ptr 2 0),(24,.fz (.sl .bool)),(25,.int .i64),(26,.int .i64)],h:=Pt,nx:=5 }
abbrev ya:List (Ev.Ex×Lay):=[(.ret,{ T:=[(6,.bz),(7,.ptr 0 0),(8,.int .i64)],h:=[(0,.cells [.bz,.bz] 40)],nx:=1 }),((.exit 0),{ T:=[(6,.hd 0 fJ),(7,.ptr 1 0),(9,.ptr 2 0)],h:=Pt,nx:=5 })]
abbrev Qn:=TL yd.σs->Option (Out ya)
abbrev Fu:=Ld 0 48 (bp [0] (aW Tryz.f23)) yd ya
def nF(F1:va)(t24:List (List Bool))(t25 t26:Int)(b0:List (Sh.T fJ))(bN:Int)(bS:List Int)(bT:List (Sh.T ae))(bU bV bW:List Int)(bX:List (Sh.T ab))(bZ:List (Sh.T ae))(sj:List (Sh.T ah))(b3:List Bool)(b4:List (Sh.T (.agg [(.int .i64),(.int .i64),(.sl aB)]))):Option (TL yd.σs⊕Out ya):=
 br (iL t26 t25)
 (
  ai (aA t26 (List.length t24))<|
  ar (F1 ((gt (.sl .bool) t24 t26),(bN,(bS,(bT,(bU,(bV,(bW,(bX,(bZ,(sj,(b3,(b4,()))))))))))))) fun x0=>
  br (Bool.not (iQ x0.2.1 (0:Int)))
  (
   ai (iQ x0.2.1 x0.2.1)<|
   some (.inr (.inl (x0.2.1,()))))
  (
   ai (room 32 (List.length (ap b0 ((x0.2.2.2.2.2.2.2.2.2.2.2.2.2.1,(x0.1,()))::[]))))<|
   some (.inl (t24,(t25,((IntKind.wrap .i64 (t26+(1:Int))),((ap b0 ((x0.2.2.2.2.2.2.2.2.2.2.2.2.2.1,(x0.1,()))::[])),(x0.2.2.1,(x0.2.2.2.1,(x0.2.2.2.2.1,(x0.2.2.2.2.2.1,(x0.2.2.2.2.2.2.1,(x0.2.2.2.2.2.2.2.1,(x0.2.2.2.2.2.2.2.2.1,(x0.2.2.2.2.2.2.2.2.2.1,(x0.2.2.2.2.2.2.2.2.2.2.1,(x0.2.2.2.2.2.2.2.2.2.2.2.1,(x0.2.2.2.2.2.2.2.2.2.2.2.2.1,()))))))))))))))))))
 (
  some (.inr (.inr (b0,(bN,(bS,(bT,(bU,(bV,(bW,(bX,(bZ,(sj,(b3,(b4,())))))))))))))))
def abY(c1:rX) :Fu:=bw (dT (nF c1.F)) (pL (kB c1 k0) e0 1 l0 fun d=>by kernel_rfl)
def abZ:Fu:=abY vb
def abX:Qn:=aQ (dT (nF mN)) NN
abbrev Qo:List Sh:=[bf,cF,(.sl (.sl .bool))]
abbrev Fv:List Sh:=[(.sl fJ),cF,(.int .i64)]
abbrev Qz:=TL Qo->Option (TL Fv)
abbrev FB:=Kd 23 Qo Fv
def ach(F0:xC)(F1:va)(F2:KO)(L5:Qn)(a0:Sh.T bf)(a1:Sh.T cF)(a2:List (List Bool)):Option (TL Fv):=
 ar (F2 (a0.1,(a0.2.1,(a0.2.2.1,(a0.2.2.2.1,(a0.2.2.2.2.1,(a0.2.2.2.2.2.1,(a0.2.2.2.2.2.2.1,(a0.2.2.2.2.2.2.2.1,a1))))))))) fun x0=>
 (match x0 with
 |.inl x1=>
  ai (Bool.not (iQ x1.1 (0:Int)))<|
  ai (iQ x1.1 x1.1)<|
  some ([],(([],([],())),(x1.1,())))
 |.inr x1=>
  br (Bool.not (iQ x1.1 (0:Int)))
  (
   ai (iQ x1.1 x1.1)<|
   some ([],(([],([],())),(x1.1,()))))
  (
   ar (L5 (a2,((Int.ofNat (List.length a2)),((0:Int),([],x1.2))))) fun x2=>
   (match x2 with
   |.inl x3=>some ([],(([],([],())),(x3.1,())))|.inr x3=>
    ar (F0 x3.2) fun x4=>
    some (x3.1,(x4.2.2.2.2.2.2.2.2.2.2.2,((0:Int),())))
   ))
 )
def aci(c0:tI)(c1:rX)(c2:Bz)(M5:Fu):FB:=⟨u3 (ach c0.F c1.F c2.F M5.L),pD Tryz.func23 48 (kB c0 (kB c1 (kB c2 k0))) e0 1 (sS (sC M5 l0)) fun d=>by kernel_rfl⟩
def Qy:FB:=aci xB vb KP abZ
def abW:Qz:=Qy.F
open Go.Proofs.YtkcpdpplobhpaaaGreat.Pl
def gd(n:av):List (List Bool)->iI->List jf->Option (List jf×iI)
 |[],s,acc=>some (acc,s)|x::xs,s,acc=>if x.length≠n.aM.length then none else gd n xs (stp n s x) (acc++[lH n s x])
theorem afi{n:av}{V:Nat}(hs:cj n V):∀(xs:List (List Bool)) (s:iI) (acc:List jf) (K:Nat) (r:List jf×iI),fW n K s.1 s.2->gd n xs s acc=some r->fW n (K+4*xs.length) r.2.1 r.2.2:=by
 intro xs
 induction xs with
 |nil=>intro s acc K r ok h;rw[gd]at h;obtain rfl:=Option.some.inj h;exact ok
 |cons x xs ih=>
  intro s acc K r ok h;rw[gd]at h;by_cases hw:x.length≠n.aM.length
  .rw[if_pos hw]at h;cases h
  .rw[if_neg hw]at h;have:=ih (stp n s x) _ (K+4) r (BC hs ok _) h;rw[List.length_cons,show K+4*(xs.length+1)=K+4+4*xs.length by omega];exact this
theorem aew{n:av}:∀(xs:List (List Bool)) (s:iI) (acc:List jf) (r:List jf×iI),gd n xs s acc=some r->(∀c∈acc,c.1.length=n.bh.length)->r.1.length=acc.length+xs.length/\∀c∈r.1,c.1.length=n.bh.length:=by
 intro xs
 induction xs with
 |nil=>intro s acc r h ha;rw[gd]at h;obtain rfl:=Option.some.inj h;exact⟨rfl,ha⟩
 |cons x xs ih=>
  intro s acc r h ha;rw[gd]at h;by_cases hw:x.length≠n.aM.length
  .rw[if_pos hw]at h;cases h
  .rw[if_neg hw]at h;obtain⟨h1,h2⟩:=ih (stp n s x) _ r h (by
    intro c hc;rw[List.mem_append]at hc;rcases hc with hc|hc
    .exact ha c hc
    .obtain rfl:=List.mem_singleton.1 hc;exact Fy _)
   refine⟨?_,h2⟩;rw[h1,List.length_append,List.length_cons,List.length_cons,List.length_nil];omega
def jw(n:av)(ls:List Bool)(cs:List (List aO))(ins:List (List Bool)):List jf×iI×Int:=if Pl.cK n≠0 then([],([],[]),Pl.cK n)else if dV (ba n) (ls,(cs,()))=false then([],([],[]),14)else match gd n ins (ls,cs) []with|none=>([],([],[]),1)|some r=>(r.1,r.2,0)
section
variable{n:av}{V:Nat}(hs:cj n V)(ft:Fit n)
include hs ft
theorem afS(ins:List (List Bool))(hI:ins.length<=200):∀(xs:List (List Bool)) (i:Nat) (s:iI) (acc:List jf) (N:Nat),ins.drop i=xs->i+xs.length=ins.length->xs.length<N->fW n (4096+4*i) s.1 s.2->acc.length<=i ->
  aQ (fun d=>nF mN d.1 d.2.1 d.2.2.1 d.2.2.2.1 d.2.2.2.2.1 d.2.2.2.2.2.1 d.2.2.2.2.2.2.1 d.2.2.2.2.2.2.2.1 d.2.2.2.2.2.2.2.2.1 d.2.2.2.2.2.2.2.2.2.1 d.2.2.2.2.2.2.2.2.2.2.1 d.2.2.2.2.2.2.2.2.2.2.2.1 d.2.2.2.2.2.2.2.2.2.2.2.2.1 d.2.2.2.2.2.2.2.2.2.2.2.2.2.1 d.2.2.2.2.2.2.2.2.2.2.2.2.2.2.1) N (ins,((ins.length:Int),((i:Int),(acc,mc n (aU n V) s.1 (bq n s.2) ())))) =
   some (match gd n xs s acc with|none=>.inl ((1:Int),())|some r=>.inr (r.1,mc n (aU n V) r.2.1 (bq n r.2.2) ())):=by
 intro xs
 induction xs with
 |nil=>
  intro i s acc N hd hl hN ok ha;obtain⟨N,rfl⟩:∃M,N=M+1:=⟨N-1,by simp at hN;omega⟩;have hil:¬(i:Int)<(ins.length:Int):=by simp at hl;omega
  have hB:nF mN ins (ins.length:Int) (i:Int) acc n.vars n.aM (n.aw.map bK) n.bI n.bh n.constraints (n.aa.map aq) (n.aL.map dg) ((aU n V).map (fun x=>cU x.1)) s.1 (bq n s.2)=some (.inr (.inr (acc,mc n (aU n V) s.1 (bq n s.2) ()))):=by unfold nF;exact af (au hil) rfl
  unfold mc nt at hB |-;simp only[aQ,hB,gd]
 |cons x xs ih=>
  intro i s acc N hd hl hN ok ha;rw[List.length_cons]at hl hN;obtain⟨N,rfl⟩:∃M,N=M+1:=⟨N-1,by omega⟩;have hil:i<ins.length:=by omega
  have hx:ins[i]?=some x:=by have:=congrArg (fun l:List (List Bool)=>l[0]?) hd;simpa using this
  have hd':ins.drop (i+1)=xs:=by have:=congrArg List.tail hd;simpa using this
  have g:gt (.sl .bool) ins (i:Int)=x:=bn (σ:=.sl .bool) hx;have aT:aA (i:Int) (List.length ins)=true:=aN ⟨by omega,by omega⟩;have hlt:iL (i:Int) (ins.length:Int)=true:=aj (by omega);by_cases hw:x.length≠n.aM.length
  .have es:mN (gt (.sl .bool) ins (i:Int),mc n (aU n V) s.1 (bq n s.2) ())=some (false,((1:Int),mc n (aU n V) s.1 (bq n s.2) ([],()))):=by rw[g];exact ali hs (aU n V) s.1 x (bq n s.2) hw
   have hB:nF mN ins (ins.length:Int) (i:Int) acc n.vars n.aM (n.aw.map bK) n.bI n.bh n.constraints (n.aa.map aq) (n.aL.map dg) ((aU n V).map (fun x=>cU x.1)) s.1 (bq n s.2)=some (.inr (.inl ((1:Int),()))):=by unfold nF;exact ao hlt (ak aT (ag es (ao rfl (ak rfl rfl))))
   unfold mc nt;simp only[aQ,hB,gd,if_pos hw]
  .have hw':x.length=n.aM.length:=by simpa using hw
   have es:mN (gt (.sl .bool) ins (i:Int),mc n (aU n V) s.1 (bq n s.2) ())=some (kO n (fB n s.1 s.2 x),((0:Int),mc n (aU n V) (stp n s x).1 (bq n (stp n s x).2) (jF n (fB n s.1 s.2 x),()))):=by rw[g];exact QU hs ft (by omega) s.1 x s.2 ok hw'
   have okn:=BC hs ok (fB n s.1 s.2 x);have hB:nF mN ins (ins.length:Int) (i:Int) acc n.vars n.aM (n.aw.map bK) n.bI n.bh n.constraints (n.aa.map aq) (n.aL.map dg) ((aU n V).map (fun x=>cU x.1)) s.1 (bq n s.2)=some (.inl (ins,((ins.length:Int),(((i+1:Nat):Int),(acc++[lH n s x],mc n (aU n V) (stp n s x).1 (bq n (stp n s x).2) ()))))):=by
    unfold nF;have e:∀(p q:Int) (A B:List jf),p=q->A=B->(some (.inl (ins,((ins.length:Int),(p,(A,mc n (aU n V) (stp n s x).1 (bq n (stp n s x).2) ()))))):Option (TL yd.σs⊕Out ya))=some (.inl (ins,((ins.length:Int),(q,(B,mc n (aU n V) (stp n s x).1 (bq n (stp n s x).2) ()))))):=by rintro _ _ _ _ rfl rfl;rfl
    exact ao hlt (ak aT (ag es (af rfl (ak (afc acc _ (by omega)) (e _ _ _ _ (bF (show(i:Int)+1=((i+1:Nat):Int) by omega) (by omega)) rfl)))))
   have hI2:=ih (i+1) (stp n s x) (acc++[lH n s x]) N hd' (by omega) (by omega) (by rw[show 4096+4*(i+1)=4096+4*i+4 by omega];exact okn) (by rw[List.length_append];simp;omega);have hp:gd n (x::xs) s acc=gd n xs (stp n s x) (acc++[lH n s x]):=by rw[gd,if_neg hw]
   rw[hp,<-hI2];unfold mc nt at hB |-;simp only[aQ,hB]
end
section
variable{n:av}(ft:Fit n)(ls:List Bool)(cs:List (List aO))(ins:List (List Bool))
include ft
theorem aff(hok:lJ cs)(hI:ins.length<=200)(hb:ls.length<=1000000) :
  abW (ba n,((ls,(cs,())),(ins,())))=some ((jw n ls cs ins).1,(((jw n ls cs ins).2.1.1,((jw n ls cs ins).2.1.2,())),((jw n ls cs ins).2.2,()))):=by
 by_cases hc:Pl.cK n=0
 .cases hf:dV (ba n) (ls,(cs,()))with
  |false=>
   have hr:jw n ls cs ins=([],([],[]),14):=by unfold jw;rw[if_neg (fun q=>q hc),if_pos hf]
   rw[hr];exact ag (ad9 ft ls cs hc hf) (ak rfl (ak rfl rfl))
  |true=>
   obtain⟨V,hs,h0,hV,ha⟩:=Yl hc;have en:=RG ft ls cs hc hf hb;rw[hV]at en;have ok:=KV hf hok;have e5:=afS hs ft ins hI ins 0 (ls,cs) [] NN rfl (by omega) (bt (by omega)) ok (Nat.le_refl _);have e5':abX (ins,((Int.ofNat (List.length ins)),((0:Int),([],mc n (aU n V) ls (bq n cs) ()))))=some (match gd n ins (ls,cs) []with|none=>.inl ((1:Int),())|some r=>.inr (r.1,mc n (aU n V) r.2.1 (bq n r.2.2) ())):=e5;cases hr:gd n ins (ls,cs) []with
   |none=>
    have hR:jw n ls cs ins=([],([],[]),1):=by unfold jw;rw[if_neg (fun q=>q hc),if_neg (by rw[hf];simp),hr]
    rw[hr]at e5';rw[hR];exact ag en (af rfl (ag e5' rfl))
   |some r=>
    have hR:jw n ls cs ins=(r.1,r.2,0):=by unfold jw;rw[if_neg (fun q=>q hc),if_neg (by rw[hf];simp),hr]
    rw[hr]at e5';rw[hR];have okr:=afi hs ins (ls,cs) [] 4096 r ok hr;have es:=QT hs (aU n V) (K:=4096+4*ins.length) (by omega) okr;exact ag en (af rfl (ag e5' (ag es rfl)))
 .have hr:jw n ls cs ins=([],([],[]),Pl.cK n):=by unfold jw;rw[if_pos hc]
  rw[hr];exact ag (ae2 ft ls cs hc) (ak (fg (au hc)) (ak (aj rfl) rfl))
end
abbrev xa:Lay:=Pu
abbrev w8:List (Ev.Ex×Lay):=[((.exit 0),{ T:=[],h:=[],nx:=0 }),(.ret,{ T:=[(8,.bool)],h:=[],nx:=0 })]
abbrev aac:=TL xa.σs->Option (Out w8)
abbrev DZ:=Ld 0 109 (bp [0] (aW Tryz.f5)) xa w8
abbrev xb:Lay:={ T:=[(3,.int .i64),(9,.ptr 0 0),(11,.fz fJ),(14,.int .i64),(15,.int .i64)],h:=[(0,.cells [.bool,.int .i64,.bool,.int .i64] 42)],nx:=1 }
abbrev w9:List (Ev.Ex×Lay):=[(.ret,{ T:=[(8,.bool)],h:=[],nx:=0 }),((.exit 2),Pu)]
abbrev D5:=TL xb.σs->Option (Out w9)
abbrev D4:=Ld 0 109 (bp [0,0] (aW Tryz.f5)) xb w9
def OD(t3:Int)(t11:List (Sh.T fJ))(t14 t15:Int)(aE:Bool)(aD:Int)(aF:Bool)(aH:Int):Option (TL xb.σs⊕Out w9):=
 ai (aA t14 (List.length t11))<|
 br (iL t15 (Int.ofNat (List.length (gt fJ t11 t14).1)))
 (
  ai (aA t14 (List.length t11))<|
  ai (aA t15 (List.length (gt fJ t11 t14).1))<|
  br (gt .bool (gt fJ t11 t14).1 t15)
  (
   br aF
   (
    some (.inr (.inl (false,()))))
   (
    br aE
    (
     br (aR false true (aR true (iL (IntKind.wrap .i64 (t14+(1:Int))) aD) false))
     (
      some (.inr (.inl (false,()))))
     (
      br (Bool.not aE)
      (
       br (aR true (aR false true (aR true (iE (IntKind.wrap .i64 (t14+(1:Int))) t3) false)) false)
       (
        some (.inr (.inl (false,()))))
       (
        some (.inl (t3,(t11,(t14,((IntKind.wrap .i64 (t15+(1:Int))),(aE,(aD,(aF,(aH,())))))))))))
      (
       some (.inl (t3,(t11,(t14,((IntKind.wrap .i64 (t15+(1:Int))),(aE,(aD,(aF,(aH,()))))))))))))
    (
     br (Bool.not aE)
     (
      br (aR true (aR false true (aR true (iE (IntKind.wrap .i64 (t14+(1:Int))) t3) false)) false)
      (
       some (.inr (.inl (false,()))))
      (
       some (.inl (t3,(t11,(t14,((IntKind.wrap .i64 (t15+(1:Int))),(aE,(aD,(aF,(aH,())))))))))))
     (
      some (.inl (t3,(t11,(t14,((IntKind.wrap .i64 (t15+(1:Int))),(aE,(aD,(aF,(aH,())))))))))))))
  (
   some (.inl (t3,(t11,(t14,((IntKind.wrap .i64 (t15+(1:Int))),(aE,(aD,(aF,(aH,())))))))))))
 (
  some (.inr (.inr (t3,(t11,(t14,(aE,(aD,(aF,(aH,()))))))))))
def OE  :D4:=bw (u8 OD) (pL k0 e0 1 l0 fun d=>by kernel_rfl)
def qV:D5:=aQ (u8 OD) NN
def tC(L14:D5)(t3:Int)(t11:List (Sh.T fJ))(t14:Int)(aE:Bool)(aD:Int)(aF:Bool)(aH:Int):Option (TL xa.σs⊕Out w8):=
 br (iL t14 (Int.ofNat (List.length t11)))
 (
  ai (aA t14 (List.length t11))<|
  br (Bool.not (gt fJ t11 t14).2.1)
  (
   some (.inr (.inl ())))
  (
   ar (L14 (t3,(t11,(t14,((0:Int),(aE,(aD,(aF,(aH,()))))))))) fun x0=>
   (match x0 with|.inl x1=>some (.inr (.inr (x1.1,())))|.inr x1=>some (.inl (x1.1,(x1.2.1,((IntKind.wrap .i64 (@HAdd.hAdd (Int) (Int) (Int) _ x1.2.2.1 (1:Int))),x1.2.2.2))))
   )))
 (
  some (.inr (.inl ())))
def aaa(M14:D4):DZ:=bw (u7 (tC M14.L)) (pL k0 e0 1 (sC M14 l0) fun d=>by kernel_rfl)
def aab:DZ:=aaa  OE
abbrev OH:List Sh:=[bf,cF,(.sl (.sl .bool)),(.int .i64)]
abbrev D6:List Sh:=[.bool]
abbrev aag:=TL OH->Option (TL D6)
abbrev OI:=Kd 5 OH D6
def aae(F0:Qz)(F1:Vz)(F2:E4)(F3:O9)(F4:VB)(L10:aac)(L14:D5)(a0:Sh.T bf)(a1:Sh.T cF)(a2:List (List Bool))(a3:Int):Option (TL D6):=
 ar (F4 (a0,(a1,(a2,())))) fun x0=>
 br (Bool.not x0.1)
 (
  ar (F3 ()) fun x1=>
  some (x1.1,()))
 (
  br (aR false true (iL (40:Int) a3))
  (
   ar (F3 ()) fun x1=>
   some (x1.1,()))
  (
   ar (F2 (a0,(a3,()))) fun x1=>
   br (Bool.not (iQ x1.2.1 (0:Int)))
   (
    ar (F3 ()) fun x2=>
    some (x2.1,()))
   (
    ar (F1 (a0,(a1,()))) fun x2=>
    br (aR false true (Bool.not (iQ x2.1 (0:Int))))
    (
     ar (F3 ()) fun x3=>
     some (x3.1,()))
    (
     ar (F0 (a0,(a1,(a2,())))) fun x3=>
     br (Bool.not (iQ x3.2.2.1 (0:Int)))
     (
      ar (F3 ()) fun x4=>
      some (x4.1,()))
     (
      ar (L10 (a3,(x3.1,((0:Int),(x1.1.1,(x1.1.2.1,(x1.1.2.2.1,(x1.1.2.2.2.1,())))))))) fun x4=>
      (match x4 with
      |.inl x5=>
       ar (F3 ()) fun x6=>
       some (x6.1,())
      |.inr x5=>some (x5.1,())
      ))))))
def aaf(c0:FB)(c1:Ih)(c2:xY)(c3:Ew)(c4:Ii)(M10:DZ)(M14:D4):OI:=⟨u4 (aae c0.F c1.F c2.F c3.F c4.F M10.L M14.L),pD Tryz.func5 109 (kD c0 (kD c1 (kD c2 (kD c3 (kD c4 k0))))) e0 1 (sS (sC M10 l0)) fun d=>by kernel_rfl⟩
def OJ:OI:=aaf Qy VA E0 O8 VC aab OE
def aad:aag:=OJ.F
set_option maxRecDepth 10000
theorem abU{n:av}(ft:Fit n)(h:j8 n≠0)(d:Int):xV (ba n,(d,()))=some ((false,((0:Int),(false,((0:Int),())))),(j8 n,())):=by have e1:PU (nt n ())=some (.inl (j8 n,())):=ag (aco ft h) (ao (fg (au h)) rfl);exact ag e1 (ao (fg (au h)) rfl)
theorem abH{n:av}{V:Nat}(t:fX n V)(ft:Fit n){d:Int}(h:d<0):xV (ba n,(d,()))=some ((false,((0:Int),(false,((0:Int),())))),((1:Int),())):=ag (QC t ft) (af (dn (aj rfl)) (ao (aj h) rfl))
theorem abL{n:av}{ls:List Bool}{cs:List (List aO)}(h:jB (ba n) ls cs=0):gU (ba n) (ls,(cs,()))=0:=by
 unfold jB at h;by_cases q:gU (ba n) (ls,(cs,()))=0
 .exact q
 .rw[decide_eq_false q]at h;exact absurd h q
theorem Rh{n:av}:∀(xs:List (List Bool)) (s:iI) (acc:List jf) (r:List jf×iI),gd n xs s acc=some r->∃e,r.1=acc++e
 |[],s,acc,r,h=>by rw[gd]at h;obtain rfl:=Option.some.inj h;exact⟨[],(List.append_nil _).symm⟩
 |x::xs,s,acc,r,h=>by
  rw[gd]at h;by_cases hw:x.length≠n.aM.length
  .rw[if_pos hw]at h;cases h
  .rw[if_neg hw]at h;obtain⟨e,he⟩:=Rh xs _ _ r h;exact⟨lH n s x::e,by rw[he,List.append_assoc];rfl⟩
section
variable{n:av}{V:Nat}(t:fX n V)
include t
def gJ(n:av)(s:iI):Nat:=bG (fx n s.1 s.2).2
theorem QV{K:Nat}{s:iI}(ok:fW n K s.1 s.2){x:List Bool}(hx:x.length=n.aM.length) :
  bG x<2^n.aM.length/\(cf n).fi (gJ n s) (bG x)=kO n (fB n s.1 s.2 x)/\(cf n).bd (gJ n s) (bG x)=idx (jF n (fB n s.1 s.2 x))/\(cf n).nx (gJ n s) (bG x)=gJ n (stp n s x):=by
 have hb:bM n (gJ n s)=s:=Re t ok;have hv:jC n (gJ n s) (bG x)=fB n s.1 s.2 x:=by unfold jC;rw[hb,<-hx,Qg]
 refine⟨by rw[<-hx];exact kZ x,?_,?_,?_⟩
 .show kO n (jC n (gJ n s) (bG x))=_;rw[hv]
 .show idx (jF n (jC n (gJ n s) (bG x)))=_;rw[hv]
 .show bG (fx n (gk n (jC n (gJ n s) (bG x))) (gV n (bM n (gJ n s)).2 (jC n (gJ n s) (bG x)))).2=_;rw[hv,hb];rfl
theorem acm{K:Nat}{s:iI}(ok:fW n K s.1 s.2)(h:jB (ba n) s.1 s.2=0)(m:Nat):n4 n (cf n) m 0 (gJ n s):=by
 have hb:bM n (gJ n s)=s:=Re t ok;have hlt:gJ n s<2^wid n:=Nat.lt_of_lt_of_le (kZ _) (Nat.pow_le_pow_right (by omega) (ub t _ ok.qT));refine⟨gJ n s,?_,?_⟩
 .unfold gB;rw[List.mem_filter,List.mem_range];refine⟨hlt,?_⟩;unfold oX;rw[hb];exact decide_eq_true h
 .show bG (fx n (bM n (gJ n s)).1 (bM n (gJ n s)).2).2=_;rw[hb];rfl
variable{d:Nat}{b:Bool}{L:Int}{cl:Bool}{sn:Int}
 (h1:cl=true->∀j,kM n (cf n) (2^n.aM.length) j)
 (h2:b=true->∀j:Nat,((j+1:Nat):Int)<L->kM n (cf n) (2^n.aM.length) j)
 (h3:b=false->∀j:Nat,((j+1:Nat):Int)<=(d:Int)->kM n (cf n) (2^n.aM.length) j)
include h1 h2 h3
theorem ab5(C:List jf){i:Nat}(hi:i<1000){s:iI}{K:Nat}(ok:fW n K s.1 s.2)(hr:n4 n (cf n) (2^n.aM.length) i (gJ n s)){x:List Bool}(hx:x.length=n.aM.length)(hc:C[i]?=some (lH n s x))(hf:kO n (fB n s.1 s.2 x)=true) :
  qV ((d:Int),(C,((i:Int),((0:Int),(b,(L,(cl,(sn,()))))))))=some (.inr ((d:Int),(C,((i:Int),(b,(L,(cl,(sn,())))))))):=by
 obtain⟨r1,r2,r3,_⟩:=QV t ok hx;have g:gt fJ C (i:Int)=lH n s x:=bn (σ:=fJ) hc;have hci:aA (i:Int) (List.length C)=true:=aN ⟨by omega,by have:=dr hc;omega⟩;have hi1:IntKind.wrap .i64 ((i:Int)+1)=((i+1:Nat):Int):=bF (x:=(i:Int)+1) (n:=i+1) (by omega) (by omega);have hb:=Fy (n:=n) (fB n s.1 s.2 x);have hbl:(jF n (fB n s.1 s.2 x)).length<=100000:=by rw[hb];have:=t.hs.lens.2.2.2.1;omega
 have gb:(gt fJ C (i:Int)).1=jF n (fB n s.1 s.2 x):=by rw[g];rfl
 generalize hB:jF n (fB n s.1 s.2 x)=B at r3 hbl gb;unfold qV;delta u8;refine cP (fun k:Nat=>((d:Int),(C,((i:Int),((k:Int),(b,(L,(cl,(sn,()))))))))) B.length rfl ?_ ?_ (bt (by omega))
 .intro k hk;have hx:=List.getElem?_eq_getElem hk;have hk1:IntKind.wrap .i64 ((k:Int)+1)=((k+1:Nat):Int):=bF (x:=(k:Int)+1) (n:=k+1) (by omega) (by omega);have e:∀p q:Int,p=q->(some (.inl ((d:Int),(C,((i:Int),(p,(b,(L,(cl,(sn,()))))))))):Option (TL xb.σs⊕Out w9))=some (.inl ((d:Int),(C,((i:Int),(q,(b,(L,(cl,(sn,()))))))))):=by rintro _ _ rfl;rfl
  have t1:iL (k:Int) (Int.ofNat (List.length (gt fJ C (i:Int)).1))=true:=by rw[gb];exact aj (show(k:Int)<(B.length:Int) by omega)
  have t2:aA (k:Int) (List.length (gt fJ C (i:Int)).1)=true:=by rw[gb];exact aN ⟨Int.natCast_nonneg k,Int.ofNat_lt.2 hk⟩
  have t3:gt .bool (gt fJ C (i:Int)).1 (k:Int)=B[k]:=by rw[gb];exact bn (σ:=.bool) hx
  refine ak hci (ao t1 (ak hci (ak t2 ?_)));cases hbk:B[k]with
  |false=>exact af (t3.trans hbk) (e _ _ hk1)|true=>
   have hit:mZ (cf n) (gJ n s) (bG x):=⟨by rw[r2];exact hf,by rw[r3];exact aeP (i:=k) (by rw[List.getD_eq_getElem?_getD,hx,hbk];rfl)⟩;have c1:cl=false:=by cases hcl:cl with|false=>rfl|true=>exact absurd hit (h1 hcl i _ _ hr r1)
   refine ao (t3.trans hbk) (af c1 ?_);cases hbb:b with
   |true=>
    have c2:¬((i+1:Nat):Int)<L:=fun a=>h2 hbb i a _ _ hr r1 hit;have c3:aR false true (aR true (iL (IntKind.wrap .i64 ((i:Int)+1)) L) false)=false:=by
     have:iL (IntKind.wrap .i64 ((i:Int)+1)) L=false:=by rw[hi1];exact au c2
     rw[this];rfl
    rw[hbb]at e;exact ao rfl (af c3 (af rfl (e _ _ hk1)))
   |false=>
    have c2:¬((i+1:Nat):Int)<=(d:Int):=fun a=>h3 hbb i a _ _ hr r1 hit;have c3:aR true (aR false true (aR true (iE (IntKind.wrap .i64 ((i:Int)+1)) (d:Int)) false)) false=false:=by
     have:iE (IntKind.wrap .i64 ((i:Int)+1)) (d:Int)=false:=by rw[hi1];exact au c2
     rw[this];rfl
    rw[hbb]at e;exact af rfl (ao rfl (af c3 (e _ _ hk1)))
 .have t1:iL (B.length:Int) (Int.ofNat (List.length (gt fJ C (i:Int)).1))=false:=by rw[gb];exact au (show ¬(B.length:Int)<(B.length:Int) by omega)
  exact ak hci (af t1 rfl)
theorem Qt(C:List jf)(hC:C.length<=500):∀(xs:List (List Bool)) (s:iI) (acc:List jf) (e:iI) (K N:Nat),gd n xs s acc=some (C,e)->fW n K s.1 s.2->n4 n (cf n) (2^n.aM.length) acc.length (gJ n s)->xs.length<N ->
  aQ (fun q=>tC qV q.1 q.2.1 q.2.2.1 q.2.2.2.1 q.2.2.2.2.1 q.2.2.2.2.2.1 q.2.2.2.2.2.2.1) N ((d:Int),(C,((acc.length:Int),(b,(L,(cl,(sn,())))))))=some (.inl ())
 |xs,s,acc,e,K,0,h,ok,hr,hN=>by omega|[],s,acc,e,K,N+1,h,ok,hr,hN=>by rw[gd]at h;obtain⟨rfl,_⟩:=Prod.mk.inj (Option.some.inj h);have hB:tC qV (d:Int) acc (acc.length:Int) b L cl sn=some (.inr (.inl ())):=af (au (show ¬(acc.length:Int)<(acc.length:Int) by omega)) rfl;simp only[aQ,hB]
 |x::xs,s,acc,e,K,N+1,h,ok,hr,hN=>by
  rw[gd]at h;by_cases hw:x.length≠n.aM.length
  .rw[if_pos hw]at h;cases h
  .rw[if_neg hw]at h;have hx:x.length=n.aM.length:=Decidable.not_not.1 hw;obtain⟨p,hp⟩:=Rh xs _ _ _ h;have hp:C=(acc++[lH n s x])++p:=hp;have hci:C[acc.length]?=some (lH n s x):=by rw[hp,List.append_assoc,List.getElem?_append_right (Nat.le_refl _),Nat.sub_self];rfl
   have hl:=dr hci;have g:gt fJ C (acc.length:Int)=lH n s x:=bn (σ:=fJ) hci;have t1:aA (acc.length:Int) (List.length C)=true:=aN ⟨by omega,by omega⟩;cases hf:kO n (fB n s.1 s.2 x)with
   |false=>have hB:tC qV (d:Int) C (acc.length:Int) b L cl sn=some (.inr (.inl ())):=ao (aj (show(acc.length:Int)<(C.length:Int) by omega)) (ak t1 (ao (fg (show(gt fJ C (acc.length:Int)).2.1=false from by rw[g];exact hf)) rfl));simp only[aQ,hB]|true=>
    have e14:=ab5 t h1 h2 h3 (sn:=sn) C (by omega) ok hr hx hci hf;have hi1:IntKind.wrap .i64 ((acc.length:Int)+1)=((acc.length+1:Nat):Int):=bF (x:=(acc.length:Int)+1) (n:=acc.length+1) (by omega) (by omega);have ee:∀p q:Int,p=q->(some (.inl ((d:Int),(C,(p,(b,(L,(cl,(sn,())))))))):Option (TL xa.σs⊕Out w8))=some (.inl ((d:Int),(C,(q,(b,(L,(cl,(sn,())))))))):=by rintro _ _ rfl;rfl
    have hB:tC qV (d:Int) C (acc.length:Int) b L cl sn=some (.inl ((d:Int),(C,(((acc.length+1:Nat):Int),(b,(L,(cl,(sn,())))))))):=ao (aj (show(acc.length:Int)<(C.length:Int) by omega)) (ak t1 (af (dn (show(gt fJ C (acc.length:Int)).2.1=true from by rw[g];exact hf)) (ag e14 (ee _ _ hi1))));obtain⟨r1,r2,r3,r4⟩:=QV t ok hx;have hl2:(acc++[lH n s x]).length=acc.length+1:=List.length_append;have ih:=Qt C hC xs (stp n s x) (acc++[lH n s x]) e (K+4) N h (BC t.hs ok _) (by rw[hl2];exact⟨gJ n s,bG x,hr,r1,by rw[r2];exact hf,r4⟩) (by simp only[List.length_cons]at hN;omega);rw[hl2]at ih;simp only[aQ,hB];exact ih
end
theorem abc(d:bf.T)(s:cF.T)(ins:List (List Bool))(k:Int)(hd:jU bf d)(hs:jU cF s)(hi:jU (.sl (.sl .bool)) ins)(hk0:jU (.int .i64) k):aad (d,(s,(ins,(k,()))))=some (true,()):=by
 obtain⟨ls,cs,⟨⟩⟩:=s;obtain⟨b,eb,hb⟩:=agW d ls cs ins;have al:=abJ;cases b with
 |false=>exact ag eb (ao rfl (ag al rfl))|true=>
  obtain⟨h5,hL⟩:=hb rfl;have ft:=aeO hd h5;obtain⟨n,rfl⟩:∃n,d=ba n:=⟨dO d,(Ds d).symm⟩;rw[lG]at ft;have hok:lJ cs:=ae6 hs.2.1;by_cases h40:40<k
  .refine ag eb (af rfl (ao ?_ (ag al rfl)));have q:iL 40 k=true:=aj h40;show aR false true (iL 40 k)=true;rw[q];rfl
  have q40:aR false true (iL 40 k)=false:=by have q:iL 40 k=false:=au h40;rw[q];rfl
  by_cases hsm:j8 n=0
  .obtain⟨V,t⟩:=aet hsm;by_cases hk:k<0
   .exact ag eb (af rfl (af q40 (ag (abH t ft hk) (ao (fg (au (by decide))) (ag al rfl)))))
   .obtain⟨j,rfl⟩:∃j:Nat,k=(j:Int):=⟨k.toNat,by omega⟩;obtain⟨b,L,cl,sn,e1,h1,h2,h3⟩:=abV t ft (d:=j) (by omega);have el:=Tf (ba n) ls cs (oq ft) (Yw ft).1 (Yw ft).2 hok;by_cases hl:jB (ba n) ls cs=0
    .have hf:=(FW (abL hl)).2;have ok:=KV hf hok;have er:=aff ft ls cs ins hok (by have:=hL.2.2.1;omega) (by have:=hL.1;omega);have ql:aR false true (Bool.not (iQ (jB (ba n) ls cs) 0))=false:=by have:iQ (jB (ba n) ls cs) 0=true:=aj hl;rw[this];rfl
     cases hr:gd n ins (ls,cs) []with
     |none=>
      have hR:jw n ls cs ins=([],([],[]),1):=by unfold jw;rw[if_neg (fun q=>q t.hc),if_neg (by rw[hf];simp),hr]
      rw[hR]at er;exact ag eb (af rfl (af q40 (ag e1 (af (dn (aj rfl)) (ag el (af ql (ag er (ao (fg (au (by decide))) (ag al rfl)))))))))
     |some r=>
      have hR:jw n ls cs ins=(r.1,r.2,0):=by unfold jw;rw[if_neg (fun q=>q t.hc),if_neg (by rw[hf];simp),hr]
      rw[hR]at er;obtain⟨k1,_⟩:=aew ins (ls,cs) [] r hr (fun c hc=>nomatch hc);have hI:=hL.2.2.1;have e10:=Qt t h1 h2 h3 (sn:=sn) r.1 (by rw[k1];simp;omega) ins (ls,cs) [] r.2 4096 NN hr ok (acm t ok hl _) (bt (by omega));exact ag eb (af rfl (af q40 (ag e1 (af (dn (aj rfl)) (ag el (af ql (ag er (af (dn (aj rfl)) (ag e10 (ag al rfl))))))))))
    .have ql:aR false true (Bool.not (iQ (jB (ba n) ls cs) 0))=true:=by have:iQ (jB (ba n) ls cs) 0=false:=au hl;rw[this];rfl
     exact ag eb (af rfl (af q40 (ag e1 (af (dn (aj rfl)) (ag el (ao ql (ag al rfl)))))))
  .exact ag eb (af rfl (af q40 (ag (abU ft hsm k) (ao (fg (au hsm)) (ag al rfl)))))
