import Derived.Test.YtdcnjfbffckblaaGreatKTd
import Derived.Shelf.SlSortCmp.NoneTotal
import Derived.Shelf.Lay
import Derived.Lib.Walk
import Derived.Laws.IdiomRangeMap
set_option linter.unusedSectionVars false
set_option linter.unusedVariables false
set_option linter.unusedSimpArgs false
set_option linter.unnecessarySimpa false
section
namespace Go.Proofs.YtdcnjfbffckblaaGreat.V
open Go Go.Sort
abbrev ClT:=Int×Int×Unit
open Go.RowKit Go.Shelf
set_option maxRecDepth 1000000
abbrev aca:FuncId:=143
abbrev acb:FuncId:=144
abbrev ab9:Lay:={ T:=[(0,.hd 0 ar),(1,.func acb [] [])],h:=[(0,.arr ar 155)],nx:=1 }
abbrev ab8:List (Ev.Ex×Lay):=[(.ret,{ T:=[],h:=[(0,.arr ar 155)],nx:=1 })]
open Go.Proofs.YtdcnjfbffckblaaGreat.Ev (Tr Tr.bz nth bI Ex)
noncomputable abbrev pP:Program:=Tryz.prog
noncomputable abbrev shP:TypeId->Option Sh:=l8 Tryz.prog 20
noncomputable abbrev tyC:TypeId:=155
noncomputable def cl(K:KN){R:Type}:fj R:=qp pP shP K.kn (kU e0.l) 1
noncomputable def rk(K:KN){R:Type}(c:Code)(st:St)(k:Ex->St->Option R):Option R:=runK pP shP (cl K) (ab7 R) 26 c st k
noncomputable def re(K:KN){R:Type}(ops:Array Oper)(l:List Oper)(st:St)(k:St->Option R):Option R:=uB pP shP (cl K) 26 ops l st k
noncomputable def qL:Code->Code|.seq a _=>a|c=>c
noncomputable def qR:Code->Code|.seq _ b=>b|c=>c
noncomputable def qB:Code->Code|.block _ b=>b|.loop b=>b|c=>c
noncomputable def qO:Code->Array Oper|.region _ o _=>o|_=>#[]
noncomputable abbrev cC:Code:=bw Tryz.f70
noncomputable def cA:Code:=qL cC
noncomputable def cB:Code:=qL (qR cC)
noncomputable def o3:Array Oper:=qO (qL (qL (qR (qR cC))))
noncomputable def qo:Code:=qB (qB (qR (qL (qR (qR cC)))))
noncomputable def OY:Code:=qR (qR (qR cC))
noncomputable def o4:Array Oper:=qO (qL qo)
noncomputable def o5:Array Oper:=qO (qL (qB (qR (qR qo))))
noncomputable def c6:Code:=qR (qB (qR (qR qo)))
theorem shC:cC=.seq cA (.seq cB (.seq (.seq (.region 3 o3 false) (.block 0 (.loop qo))) OY)):=by kernel_rfl
theorem shB:qo=.seq (.region 4 o4 false) (.seq (.cond (.tmp 13) .skip (.exit 0)) (.block 1 (.seq (.region 5 o5 false) c6))):=by kernel_rfl
noncomputable def tl4:List Oper:=o4.toList.drop 1
noncomputable def tl5:List Oper:=o5.toList.drop 1
noncomputable def TA:Tr AV:=.node (some (.ptr 0 0)) .nil .nil
noncomputable def hpL(a b:Int)(M:List ClT):Hp:=⟨.node (some (.cells [.int .i64 a,.int .i64 b,.mp 1] 232)) (.node (some (.map .u64 (.int .u64) M)) .nil .nil) .nil,2⟩
noncomputable def TL0:Tr AV:=.node none (.node none (.node none .nil (.node (some (.ptr 0 0)) .nil .nil)) .nil) (.node (some (.hd 1 ar)) .nil .nil)
noncomputable def hL(N:List ClT):Hp:=⟨.node none (.node (some (.arr ar N tyC)) .nil .nil) .nil,2⟩
noncomputable def kE{R:Type}(f:List ClT->Option R)(e:Ex)(st:St):Option R:=match e,fq pP st Tryz.f70.results.toList with
 |.ret,some [.hd j _]=>match st.h.tr.get j with
  |some (.arr σ L t)=>match h:σ.eqv ar,Nat.beq t tyC with|true,true=>f (gg h L)|_,_=>none
  |_=>none
 |_,_=>none
noncomputable def kN{R:Type}(f:List ClT->Option R)(e:Ex)(st:St):Option R:=match e,st.T.get 2,st.T.get 11 with
 |.normal,some (.hd j _),some (.ptr 0 0)=>match st.h.tr.get j with
  |some (.arr σ L t)=>match h:σ.eqv ar,Nat.beq t tyC with|true,true=>f (gg h L)|_,_=>none
  |_=>none
 |_,_,_=>none
noncomputable def kT(k v:Int)(st:St):Option (List ClT):=match st.T.get 13,st.T.get 11 with
 |some (.bool true),some (.ptr 0 0)=>match cI 26 st.T (some 14) (.bk [.int .u64 k,.int .u64 v])with|some T=>re k0 o5 tl5 ⟨T,st.h⟩ fun st=>rk k0 c6 st (kN some)|none=>none
 |_,_=>none
noncomputable def kF(K:Kb aca 2 ab9 0 ab8)(st:St):Option (List ClT):=match st.T.get 13 with|some (.bool false)=>rk (kB K k0) OY st (kE some)|_=>none
noncomputable def g4(N:List ClT)(v:AV)(K:KN)(k:St->Option (List ClT)):Option (List ClT):=match cI 26 TL0 (some 12) v with|some T=>re K o4 tl4 ⟨T,hL N⟩ k|none=>none
noncomputable def kA1(st:St):Option Hp:=match st.T.get 2,st.T.get 10 with|some .av,some (.mp 1)=>some st.h|_,_=>none
noncomputable def kA(e:Ex)(st:St):Option Hp:=match e with|.normal=>re k0 o3 (o3.toList.take 4) st kA1|_=>none
def ZY(e:MapEntry):ClT:=((match e.key with|.int _ n=>n|_=>0),((match e.val with|.int _ n=>n|_=>0),()))
def got(es:List MapEntry)(seen:Array Nat):List ClT:=(es.filter (fun e=>seen.contains e.born)).map ZY
open Go.Proofs.YtdcnjfbffckblaaGreat.Pl
theorem SQ{n:aG}{K:Nat}{ls:List Bool}{cs:List (List aV)}(ok:iB n K ls cs):∀c∈cs,c.length<=K:=by intro c hc;obtain⟨i,hi⟩:=List.getElem?_of_mem hc;have hil:=dR hi;have hm:=List.getElem?_eq_getElem (l:=n.aa) (i:=i) (by have:=ok.oo;omega);exact(ok.ok i _ _ hm hi).len
theorem SL{n:aG}(ft:Fit n){K:Nat}(hK:K<=100000){ls:List Bool}{cs:List (List aV)}(ok:iB n K ls cs):Ft ((ls,(cs,())),((ls,(cs,())),()))=some (true,()):=Wh ls cs (Nat.le_trans (Nat.le_of_eq ok.za) (by have:=ft.au.1;omega)) (Nat.le_trans (Nat.le_of_eq ok.oo) (by have:=ft.aa.1;omega)) (fun c hc=>Nat.le_trans (SQ ok c hc) hK)
theorem TP{n:aG}{ls:List Bool}{cs:List (List aV)}(h:Pl.fH n≠0):kz (cP n) (ls,(cs,()))=Pl.fH n:=by unfold kz;rw[oi,if_pos h]
theorem TQ{n:aG}{ls:List Bool}{cs:List (List aV)}(h:Pl.fH n=0)(hf:mP (cP n) (ls,(cs,()))=false):kz (cP n) (ls,(cs,()))=14:=by unfold kz;rw[oi,if_neg (fun q=>q h),hf]
theorem TR{n:aG}{ls:List Bool}{cs:List (List aV)}(h:Pl.fH n=0)(hf:mP (cP n) (ls,(cs,()))=true):kz (cP n) (ls,(cs,()))=0:=by unfold kz;rw[oi,if_neg (fun q=>q h),hf]
section
variable{n:aG}(ft:Fit n)
include ft
theorem SK{ls:List Bool}{cs:List (List aV)}(hok:pT cs):PQ (cP n,((ls,(cs,())),()))=some (kz (cP n) (ls,(cs,())),()):=Zya (cP n) (ls,(cs,())) (ft' ft) (Zi ft).2 hok
