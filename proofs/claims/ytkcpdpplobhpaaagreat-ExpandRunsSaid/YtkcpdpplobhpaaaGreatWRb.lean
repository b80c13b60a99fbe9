import Derived.Test.YtkcpdpplobhpaaaGreatWRa
import Derived.Shelf.SlSortCmp.NoneTotal
import Derived.Shelf.Lay
import Derived.Lib.Walk
import Derived.Laws.IdiomRangeMap
set_option linter.unusedVariables false
set_option linter.unusedSimpArgs false
set_option linter.unnecessarySimpa false
section
namespace Go.Proofs.YtkcpdpplobhpaaaGreat.V
open Go Go.Sort
abbrev dm:=Int×Int×Unit
abbrev abL:Sh:=.agg [.int .u64,.int .u64]
def jq(p:dm):List Value:=[.int .u64 p.1,.int .u64 p.2.1]
def gN(L:List dm):List Value:=L.flatMap jq
theorem r9(p:dm)(L:List dm):gN (p::L)=.int .u64 p.1::.int .u64 p.2.1::gN L:=by unfold gN;rw[List.flatMap_cons];rfl
theorem rZ:∀L:List dm,(gN L).length=L.length*2
 |[]=>rfl|p::L=>by rw[r9,cp,cp,rZ L,cp];omega
theorem Vx{w:World}{A:Nat->Prop}{p:dm}{c:List Value}:Cs w A abL p c↔c=jq p:=by
 constructor
 .rintro⟨c1,r1,rfl,h1,c2,r2,rfl,h2,h3⟩;rw[show c1=[.int .u64 p.1]from h1,show c2=[.int .u64 p.2.1]from h2,show r2=[]from h3];rfl
 .rintro rfl;exact⟨[.int .u64 p.1],[.int .u64 p.2.1],rfl,rfl,[.int .u64 p.2.1],[],rfl,rfl,rfl⟩
theorem se{w:World}{A:Nat->Prop}:∀{L:List dm}{cs:List Value},bw (Cs w A abL) L cs↔cs=gN L
 |[],cs=>Iff.rfl|p::L,cs=>by
  constructor
  .rintro⟨c,r,rfl,h1,h2⟩;rw[Vx.1 h1,se.1 h2,r9];rfl
  .rintro rfl;exact⟨jq p,gN L,by rw[r9];rfl,Vx.2 rfl,se.2 rfl⟩
theorem TP:∀(L:List dm) (t:Nat),t<L.length*2->(gN L)[t]?=some ((jq (L[t / 2]!))[t % 2]!)
 |[],t,h=>by simp at h|p::L,0,h=>by rw[r9];rfl|p::L,1,h=>by rw[r9];rfl|p::L,t+2,h=>by rw[r9,List.getElem?_cons_succ,List.getElem?_cons_succ,TP L t (by rw[cp]at h;omega)];rw[show(t+2) / 2=t / 2+1 by omega,show(t+2) % 2=t % 2 by omega];rfl
theorem T9(L:List dm):flatK jq 2 L.toArray=(gN L).toArray:=by
 apply Array.ext_getElem?;intro t;rcases de t (L.length*2)with q|q
 .have h1:=TP L t q;have h2:t<L.toArray.size*2:=by simpa using q
  have h3:=get_flatK jq 2 L.toArray t h2;have h4:t<(flatK jq 2 L.toArray).size:=by rw[size_flatK];exact h2
  rw[Array.getElem?_eq_getElem h4,<-getElem!_pos _ t h4,h3];rw[List.getElem?_toArray,h1];simp
 .rw[Array.getElem?_eq_none (by rw[size_flatK];simpa using q),Array.getElem?_eq_none (by simp[rZ];omega)]
def rK(x y:dm):Int:=Lib.compareInt x.1 y.1
theorem Ge(x y:dm):ltOf rK x y=decide (x.1<y.1):=by
 unfold ltOf rK Lib.compareInt;by_cases h1:x.1<y.1
 .simp[h1]
 .by_cases h2:y.1<x.1<;>simp[h1,h2]
theorem aop:SWO (ltOf rK) where
 irrefl x:=by rw[Ge];simp
 trans x y z h1 h2:=by rw[Ge]at *;simp at *;omega
 ntrans x y z h1 h2:=by rw[Ge]at *;simp at *;omega
def gO(L:List dm):List dm:=L.mergeSort (fun p q=>decide (p.1<=q.1))
theorem IY(L:List dm):(gO L).Perm L:=List.mergeSort_perm _ _
theorem Uk(L:List dm):(gO L).Pairwise (fun p q=>p.1<=q.1):=by have:=List.pairwise_mergeSort (le:=fun p q:dm=>decide (p.1<=q.1)) (fun a b c h1 h2=>by simp at *;omega) (fun a b=>by simp;omega) L;exact this.imp (fun h=>of_decide_eq_true h)
theorem Ul{L A B:List dm}(hn:(L.map (fun p=>p.1)).Nodup)(ha:A.Perm L)(hb:B.Perm L)(sa:A.Pairwise (fun p q=>p.1<=q.1))(sb:B.Pairwise (fun p q=>p.1<=q.1)):A=B:=by
 refine List.Perm.eq_of_pairwise (le:=fun p q:dm=>p.1<=q.1) ?_ sa sb (ha.trans hb.symm);intro a b h1 h2 h3 h4;have e:a.1=b.1:=Int.le_antisymm h3 h4;have m1:=ha.mem_iff.1 h1;have m2:=hb.mem_iff.1 h2;obtain⟨i,hi⟩:=List.getElem?_of_mem m1;obtain⟨j,hj⟩:=List.getElem?_of_mem m2;have hi':(L.map (fun p=>p.1))[i]?=some a.1:=by rw[bT,hi];rfl
 have hj':(L.map (fun p=>p.1))[j]?=some a.1:=by rw[bT,hj,e];rfl
 have hlt:i<(L.map (fun p=>p.1)).length:=by
  rcases de i (L.map (fun p=>p.1)).length with q|q
  .exact q
  .rw[ep q]at hi';cases hi'
 have:i=j:=(List.getElem?_inj hlt hn).1 (hi'.trans hj'.symm);subst this;rw[hi]at hj;exact Option.some.inj hj
theorem aeC{w:World}{b:Nat}{L:List dm}{tail:List Value}{ty:TypeId}(h:w.heap[b]?=some (.cells (List.toArray (gN L++tail)) ty (0,0))):HoldsK jq 2 w b 0 L.toArray:=by
 unfold HoldsK;rw[T9];intro j hj;have hj':j<(gN L).length:=by simpa using hj
 constructor
 .unfold World.cell?
  try dsimp only
  rw[h];simp only[Option.isSome_none,Bool.false_eq_true,if_false,Nat.zero_add];rw[List.getElem?_toArray,List.getElem?_append_left hj'];rw[aN hj'];simp[hj']
 .unfold World.frozen?
  try dsimp only
  rw[h];simp
theorem adu{w:World}{b n:Nat}{L L':List dm}{os:Array Obj}{tail:List Value}{ty:TypeId}(hl:L'.length=L.length)(h:w.heap[b]?=some (.cells (List.toArray (gN L++tail)) ty (0,0))) :
  (sortWorldK jq 2 w b 0 n L'.toArray os).heap[b]?=some (.cells (List.toArray (gN L'++tail)) ty (0,0))/\(∀k,k<w.heap.size->k≠b->(sortWorldK jq 2 w b 0 n L'.toArray os).heap[k]?=w.heap[k]?) /\
  (sortWorldK jq 2 w b 0 n L'.toArray os).os=w.os/\(sortWorldK jq 2 w b 0 n L'.toArray os).tape=w.tape/\(sortWorldK jq 2 w b 0 n L'.toArray os).output=w.output/\w.heap.size<=(sortWorldK jq 2 w b 0 n L'.toArray os).heap.size:=by
 have hb:b<w.heap.size:=by
  rcases de b w.heap.size with q|q
  .exact q
  .rw[Array.getElem?_eq_none q]at h;cases h
 have key:∀k,k<w.heap.size->(sortWorldK jq 2 w b 0 n L'.toArray os).heap[k]?=if b=k then(w.heap[k]?).map (onCells (putCells id 0 (gN L').toArray))else w.heap[k]?:=by
  intro k hk;unfold sortWorldK Sort.grow putRowK putRow mapBlock;rw[T9];show(((Go.Sort.ahead w n).heap.modify b _)++os)[k]?=_;have hk':k<((Go.Sort.ahead w n).heap.modify b (onCells (putCells id 0 (gN L').toArray))).size:=by rw[Array.size_modify];exact hk
  rw[Array.getElem?_append_left hk',Array.getElem?_modify];show(if b=k then(onCells _) <$> w.heap[k]? else w.heap[k]?)=_;rfl
 refine⟨?_,?_,rfl,rfl,rfl,?_⟩
 .rw[key b hb,if_pos rfl,h];show some (Obj.cells (putCells id 0 (gN L').toArray (List.toArray (gN L++tail))) ty (0,0))=_;congr 2;apply Array.ext_getElem?;intro t;unfold putCells;rw[Array.getElem?_mapIdx];simp only[Nat.zero_add,dq,true_and,Nat.sub_zero,id];have hlen:(gN L').length=(gN L).length:=by rw[rZ,rZ,hl]
  rcases de t (gN L').length with q|q
  .rw[List.getElem?_toArray,List.getElem?_toArray,List.getElem?_append_left (by omega),List.getElem?_append_left q,aN (by omega:t<(gN L).length),aN q];simp[q]
  .rw[List.getElem?_toArray,List.getElem?_toArray,List.getElem?_append_right (by omega),List.getElem?_append_right q,hlen];cases tail[t-(gN L).length]? with
   |none=>rfl|some x=>
    have:¬t<(gN L').toArray.size:=by simp;omega
    simp[Nat.not_lt.2 q]
 .intro k hk hne;rw[key k hk,if_neg (fun e=>hne e.symm)]
 .unfold sortWorldK grow putRowK putRow mapBlock;show _<=(((Go.Sort.ahead w n).heap.modify b _)++os).size;rw[Array.size_append,Array.size_modify];exact Nat.le_add_right _ _
theorem aeO{L:List dm}{d':Array dm}(hn:(L.map (fun p=>p.1)).Nodup)(hp:PermIn 0 L.toArray.size L.toArray d')(hs:SortedIn (ltOf rK) 0 L.toArray.size d'):d'=(gO L).toArray:=by
 obtain⟨h1,_,h3⟩:=hp;have hsz:d'.size=L.length:=by simpa using h1
 have hperm:d'.toList.Perm L:=by
  have a1:(d'.extract 0 L.toArray.size)=d':=by apply Array.ext_getElem?;intro i;simp[Array.getElem?_extract];intro hi;omega
  have a2:(L.toArray.extract 0 L.toArray.size)=L.toArray:=by simp
  rw[a1,a2]at h3;simpa using h3
 have hsort:d'.toList.Pairwise (fun p q=>p.1<=q.1):=by
  refine List.pairwise_iff_getElem.2 fun i j hi hj hij=>?_;have hi':i<d'.size:=by simpa using hi
  have hj':j<d'.size:=by simpa using hj
  have:=hs i j (dq _) hij (by rw[hsz]at hj';simpa using hj');rw[Ge,getElem!_pos d' i hi',getElem!_pos d' j hj']at this;have:=of_decide_eq_false this;rw[Array.getElem_toList,Array.getElem_toList];omega
 have:=Ul hn hperm (IY L) hsort (Uk L);rw[<-this]
open Go.RowKit Go.Shelf
set_option maxRecDepth 1000000
def agY:Go.Shelf.Ren:=⟨fun|6=>151|15=>200|14=>199|28=>237|29=>238|20=>229|21=>230|22=>231|23=>232|24=>233|25=>234|26=>235|27=>236|46=>258|47=>259|48=>260|49=>261|50=>262|57=>266|n=>n,fun|22=>104|24=>137|25=>230|3=>3|39=>83|0=>0|53=>290|55=>77|4=>4|46=>284|45=>283|50=>261|5=>5|9=>9|66=>305|70=>271|76=>312|77=>313|n=>n,fun|n=>n⟩
theorem UJ:Go.Proofs.SlLaysF0.n6 Tryz.prog agY:={
 mixed:=by kernel_rfl
 f6:=⟨Tryz.f151.name,by decide,Tryz.func151.trans (congrArg some (by kernel_rfl))⟩
 f14:=⟨Tryz.f199.name,by decide,Tryz.func199.trans (congrArg some (by kernel_rfl))⟩
 f15:=Tryz.func200.trans (congrArg some (by kernel_rfl))
 f20:=⟨Tryz.f229.name,by decide,Tryz.func229.trans (congrArg some (by kernel_rfl))⟩
 f21:=⟨Tryz.f230.name,by decide,Tryz.func230.trans (congrArg some (by kernel_rfl))⟩
 f22:=⟨Tryz.f231.name,by decide,Tryz.func231.trans (congrArg some (by kernel_rfl))⟩
 f23:=⟨Tryz.f232.name,by decide,Tryz.func232.trans (congrArg some (by kernel_rfl))⟩
 f24:=⟨Tryz.f233.name,by decide,Tryz.func233.trans (congrArg some (by kernel_rfl))⟩
 f25:=⟨Tryz.f234.name,by decide,Tryz.func234.trans (congrArg some (by kernel_rfl))⟩
 f26:=⟨Tryz.f235.name,by decide,Tryz.func235.trans (congrArg some (by kernel_rfl))⟩
 f27:=⟨Tryz.f236.name,by decide,Tryz.func236.trans (congrArg some (by kernel_rfl))⟩
 f28:=Tryz.func237.trans (congrArg some (by kernel_rfl))
 f29:=Tryz.func238.trans (congrArg some (by kernel_rfl))
 f46:=⟨Tryz.f258.name,by decide,Tryz.func258.trans (congrArg some (by kernel_rfl))⟩
 f47:=Tryz.func259.trans (congrArg some (by kernel_rfl))
 f48:=Tryz.func260.trans (congrArg some (by kernel_rfl))
 f49:=⟨Tryz.f261.name,by decide,Tryz.func261.trans (congrArg some (by kernel_rfl))⟩
 f50:=⟨Tryz.f262.name,by decide,Tryz.func262.trans (congrArg some (by kernel_rfl))⟩
 f57:=⟨Tryz.f266.name,by decide,Tryz.func266.trans (congrArg some (by kernel_rfl))⟩
 t0:=Tryz.underlying0
 a0:=Tryz.isAgg0
 z0:=Tryz.sizeOf0
 v0:=Tryz.zeroValue0
 t3:=Tryz.underlying3
 a3:=Tryz.isAgg3
 z3:=Tryz.sizeOf3
 v3:=Tryz.zeroValue3
 t4:=Tryz.underlying4
 a4:=Tryz.isAgg4
 z4:=Tryz.sizeOf4
 v4:=Tryz.zeroValue4
 t5:=Tryz.underlying5
 a5:=Tryz.isAgg5
 z5:=Tryz.sizeOf5
 v5:=Tryz.zeroValue5
 t9:=Tryz.underlying9
 a9:=Tryz.isAgg9
 z9:=Tryz.sizeOf9
 v9:=Tryz.zeroValue9
 t22:=Tryz.underlying104
 a22:=Tryz.isAgg104
 z22:=Tryz.sizeOf104
 v22:=Tryz.zeroValue104
 t25:=Tryz.underlying230
 a25:=Tryz.isAgg230
 z25:=Tryz.sizeOf230
 v25:=Tryz.zeroValue230
 t39:=Tryz.underlying83
 a39:=Tryz.isAgg83
 z39:=Tryz.sizeOf83
 v39:=Tryz.zeroValue83
 t45:=Tryz.underlying283
 a45:=Tryz.isAgg283
 z45:=Tryz.sizeOf283
 v45:=Tryz.zeroValue283
 t46:=Tryz.underlying284
 a46:=Tryz.isAgg284
 z46:=Tryz.sizeOf284
 v46:=Tryz.zeroValue284
 t50:=Tryz.underlying261
 a50:=Tryz.isAgg261
 z50:=Tryz.sizeOf261
 v50:=Tryz.zeroValue261
 t53:=Tryz.underlying290
 a53:=Tryz.isAgg290
 z53:=Tryz.sizeOf290
 v53:=Tryz.zeroValue290
 t55:=Tryz.underlying77
 a55:=Tryz.isAgg77
 z55:=Tryz.sizeOf77
 v55:=Tryz.zeroValue77
 t66:=Tryz.underlying305
 a66:=Tryz.isAgg305
 z66:=Tryz.sizeOf305
 v66:=Tryz.zeroValue305
 t70:=Tryz.underlying271
 a70:=Tryz.isAgg271
 z70:=Tryz.sizeOf271
 v70:=Tryz.zeroValue271
 t76:=Tryz.underlying312
 a76:=Tryz.isAgg312
 z76:=Tryz.sizeOf312
 v76:=Tryz.zeroValue312
 t77:=Tryz.underlying313
 a77:=Tryz.isAgg313
 z77:=Tryz.sizeOf313
 v77:=Tryz.zeroValue313 }
set_option maxHeartbeats 2000000
theorem agA(x:Int)(w:World):Calls Tryz.prog 201 #[.int .u64 x] w fun e w'=>e=.returned (.bool false)/\w'=w:=by
 go_enter Tryz.func201,Tryz.ntmps201
 go_wp2
 go_ret
 exact⟨by simp,rfl⟩
theorem aev(x y:Int)(w:World):Calls Tryz.prog 153 #[.int .u64 x,.int .u64 y] w fun e w'=>e=.returned (.int .i64 (Lib.compareInt x y))/\w'=w:=by
 have hc:=fun x w=>agA x w
 go_enter Tryz.func153,Tryz.ntmps153
 go_wp2_with (go_at_call 201;refine(hc _ _).mono ?_;rintro e w' ⟨rfl,rfl⟩)
 all_goals (go_ret;refine⟨?_,rfl⟩;unfold Lib.compareInt;(repeat' split)<;>first|rfl|(exfalso;omega))
theorem aeu(x y:dm)(W:World):Calls Tryz.prog 152 #[.agg #[.int .u64 x.1,.int .u64 x.2.1],.agg #[.int .u64 y.1,.int .u64 y.2.1]] W fun e w'=>e=.returned (.int .i64 (rK x y))/\∃q os',w'=grow (W.drewN q) os':=by
 have hcon:=fun W'=>aev x.1 y.1 W';unfold rK;generalize Lib.compareInt x.1 y.1=r at hcon |-
 go_enter Tryz.func152,Tryz.ntmps152
 go_wp2_with (go_at_call 153;refine(hcon _).mono ?_;rintro e w' ⟨rfl,rfl⟩)
 go_ret
 exact⟨rfl,0,_,by rw[alloc_eq_grow,alloc_eq_grow,grow_grow];rfl⟩
abbrev qy:FuncId:=151
abbrev ng:FuncId:=152
theorem aeo(blk cap:Nat)(L:List dm)(w:World)(hH:HoldsK jq 2 w blk 0 L.toArray)(hblk:blk<w.heap.size)(hsz:L.length<=1000000)(hn:(L.map (fun p=>p.1)).Nodup) :
  Calls Tryz.prog qy #[.slice (some ⟨blk,0,none⟩) L.length cap,.func (.func ng) #[] #[]] w fun e w'=>e=.returned (.tuple #[])/\∃n os,w'=sortWorldK jq 2 w blk 0 n (gO L).toArray os:=by
 have eg:∀args w,(callFunc ng args).run Tryz.prog w=.ok (.enter ng args) w:=enters_of Tryz.func152 (by kernel_rfl) rfl;have hcon:=AnyQ.slices_SortFunc UJ 2 Tryz.isAgg137 Tryz.sizeOf137 jq (fun _=>rfl) (fun x v hv=>by simp[jq]at hv;rcases hv with rfl|rfl<;>rfl) rK aop ng #[] blk 0 cap L.toArray w eg (fun _ _ _ _ x y=>aeu x y _) hH hblk (by simp;omega);change Calls Tryz.prog qy #[.slice (some ⟨blk,0,none⟩) (L.toArray.size:Nat) cap,.func (.func ng) #[] #[]] w _ at hcon;refine hcon.mono ?_;rintro e w' ⟨rfl,d',n,os,hp,hs,rfl⟩;exact⟨rfl,n,os,by rw[aeO hn hp hs]⟩
theorem aeN(p:Option Addr)(cap:Nat)(fv:Value)(w:World):Calls Tryz.prog qy #[.slice p 0 cap,fv] w fun e w'=>e=.returned (.tuple #[])/\w'=w:=AnyF.slices_SortFunc_none UJ p cap fv w
theorem afv{α:Type}(o:α)(j:Nat):(Ev.Tr.node (some o) .nil .nil).get j=if j=0 then some o else none:=by cases j with|zero=>rfl|succ m=>simp only[Ev.Tr.get];split<;>rfl
abbrev sf:Lay:={ T:=[(0,.hd 0 aA),(1,.func ng [] [])],h:=[(0,.arr aA 137)],nx:=1 }
abbrev sc:List (Ev.Ex×Lay):=[(.ret,{ T:=[],h:=[(0,.arr aA 137)],nx:=1 })]
def vm(L:List dm):Bool:=decide ((L.map (fun p=>p.1)).Nodup)&&decide (L.length<=1000000)
def VN(d:TL sf.σs):Option (Out sc):=ai (vm d.1) (some (gO d.1,()))
theorem aep:jv Tryz.prog qy ⟨2,sf,0,sc,VN⟩:=by
 refine⟨⟨Tryz.f151,bh Tryz.f151,Tryz.func151,by kernel_rfl,by kernel_rfl⟩,?_⟩;rintro⟨L,u⟩ o ho st e st' hput hs X vs args hX H hr hv R;obtain⟨hok,ho⟩:=nB ho
 replace hok:vm L=true:=hok
 replace ho:some (gO L,())=some o:=ho
 obtain rfl:=Option.some.inj ho;unfold vm at hok;simp only[Bool.and_eq_true,decide_eq_true_eq]at hok;obtain⟨hn,hlen⟩:=hok;have e1:st=⟨.node (some (.hd 0 aA)) (.node (some (.func ng [] [])) .nil .nil) .nil,⟨.node (some (.arr aA L 137)) .nil .nil,1⟩⟩:=by
  have:Lay.put 2 sf (L,u)=some ⟨.node (some (.hd 0 aA)) (.node (some (.func ng [] [])) .nil .nil) .nil,⟨.node (some (.arr aA L 137)) .nil .nil,1⟩⟩:=by kernel_rfl
  rw[this]at hput;cases hput;rfl
 subst e1;have e2:(e,st')=(.ret,⟨.nil,⟨.node (some (.arr aA (gO L) 137)) .nil .nil,1⟩⟩):=by
  have:kz 0 sc (gO L,())=some (.ret,⟨.nil,⟨.node (some (.arr aA (gO L) 137)) .nil .nil,1⟩⟩):=by kernel_rfl
  exact Option.some.inj (hs.symm.trans this)
 cases e2;have hv':some [AV.hd 0 aA,AV.func ng [] []]=some vs:=hv;cases hv';obtain⟨V0,r0,rfl,R0,V1,r1,rfl,R1,R2⟩:=R;have:r1=[]:=R2;subst this;obtain⟨xs,cs,rfl,hx1,hx2⟩:=R1;have:xs=[]:=hx1;subst this;have:cs=[]:=hx2;subst this;obtain⟨l,hs0,hone,hsl⟩:=R0;have hget:X.h.tr.get 0=some (.arr aA L 137):=by rw[hX];rfl
 have hV0:V0=l.slice L.length:=hsl _ (gF hget);subst hV0;have ho:=H.obj 0 _ l hget hs0;have tget:∀j,(Ev.Tr.node (some (bu.arr aA (gO L) 137)) .nil .nil).get j=if j=0 then some (.arr aA (gO L) 137)else none:=afv _
 have hlS:(gO L).length=L.length:=(IY L).length_eq;have fin:∀w':World,w'.os=X.w.os->w'.tape=X.w.tape->w'.output=X.w.output->X.w.heap.size<=w'.heap.size->(∀k,k<X.w.heap.size->¬l.own k->w'.heap[k]?=X.w.heap[k]?)->jc ⟨X.s,⟨.node (some (.arr aA (gO L) 137)) .nil .nil,1⟩,w',X.A⟩ l (.arr aA (gO L) 137) ->
   ∃X' Vs,Ending.returned (.tuple #[])=.returned (lM Vs)/\X'.w=w'/\X'.h=⟨.node (some (.arr aA (gO L) 137)) .nil .nil,1⟩/\aF X'/\aO X X'/\∀us,l8 (Ev.Tr.nil:Ev.Tr AV) 0 0=some us->bB X' us Vs:=by
  intro w' q1 q2 q3 q4 q5 q6;refine⟨⟨X.s,⟨.node (some (.arr aA (gO L) 137)) .nil .nil,1⟩,w',X.A⟩,[],rfl,rfl,rfl,?_,?_,?_⟩
  .refine⟨?_,?_,?_,?_,?_,?_⟩
   .intro i o l' hi hl';rw[show(Cx.mk X.s _ w' X.A).h.tr.get i=_ from tget i]at hi;by_cases hz:i=0
    .subst hz;rw[if_pos rfl]at hi;cases hi;have:l'=l:=Option.some.inj (hl'.symm.trans hs0);subst this;exact q6
    .rw[if_neg hz]at hi;cases hi
   .intro i j o o' l1 l2 b hi hj _ _ _ _;rw[show(Cx.mk X.s _ w' X.A).h.tr.get i=_ from tget i]at hi;rw[show(Cx.mk X.s _ w' X.A).h.tr.get j=_ from tget j]at hj;by_cases hz:i=0
    .by_cases hz':j=0
     .rw[hz,hz']
     .rw[if_neg hz']at hj;cases hj
    .rw[if_neg hz]at hi;cases hi
   .intro i o hi;rw[show(Cx.mk X.s _ w' X.A).h.tr.get i=_ from tget i]at hi;by_cases hz:i=0
    .subst hz;exact Nat.zero_lt_one
    .rw[if_neg hz]at hi;cases hi
   .intro i l' hi;have:=H.di i l' hi;rw[hX]at this;exact this
   .intro b hb;exact iS (H.alt b hb) q4
   .intro i o l' b hi hl' hb hA;rw[show(Cx.mk X.s _ w' X.A).h.tr.get i=_ from tget i]at hi;by_cases hz:i=0
    .subst hz;exact H.loc 0 _ l' b hget hl' hb hA
    .rw[if_neg hz]at hi;cases hi
  .refine⟨q1,q2,q3,q4,fun _ _ h=>h,fun _ _ _ h=>h,by rw[hX];exact aS _,?_,?_,?_,?_,rfl⟩
   .intro b hb hni;exact q5 b hb (fun q=>hni ⟨0,_,l,hget,hs0,q⟩)
   .rintro b ⟨i,o,l',hi,hl',hb⟩;left;rw[show(Cx.mk X.s _ w' X.A).h.tr.get i=_ from tget i]at hi;by_cases hz:i=0
    .subst hz;exact⟨0,_,l',hget,hl',hb⟩
    .rw[if_neg hz]at hi;cases hi
   .intro j n hj hrow;obtain⟨o,h1,h2⟩:=ki hrow;rw[tget j]at h1;by_cases hz:j=0
    .subst hz;rw[if_pos rfl]at h1;cases h1;rw[gF hget];have:some (gO L).length=some n:=h2;rw[<-this,hlS]
    .rw[if_neg hz]at h1;cases h1
   .intro i hi hsi;by_cases hz:i=0
    .subst hz;rw[hs0]at hsi;cases hsi
    .have:X.h.next=1:=by rw[hX]
     omega
  .intro us hus;cases hus;rfl
 cases l with
 |nil=>have hL:L=[]:=ho;subst hL;show Calls _ _ #[.slice none 0 0,.func (.func ng) #[] #[]] _ _;refine(aeN none 0 _ X.w).mono ?_;rintro e' w' ⟨rfl,rfl⟩;refine fin X.w rfl rfl rfl (aS _) (fun _ _ _=>rfl) ?_;exact(List.mergeSort_nil:gO []=[])
 |cE b c m=>exact(ho:False).elim|«at» b c=>obtain⟨cs,tail,h1,h2,h3,h4⟩:=ho;have hcs:cs=gN L:=se.1 h2;subst hcs;have hb:b<X.w.heap.size:=fN h1;show Calls _ _ #[.slice (some ⟨b,0,none⟩) L.length c,.func (.func ng) #[] #[]] _ _;refine(aeo b c L X.w (aeC h1) hb hlen hn).mono ?_;rintro e' w' ⟨rfl,n,os,rfl⟩;obtain⟨f1,f2,f3,f4,f5,f6⟩:=adu (n:=n) (os:=os) hlS h1;refine fin _ f3 f4 f5 f6 (fun k hk hne=>f2 k hk hne) ?_;exact⟨gN (gO L),tail,f1,se.2 rfl,by rw[(rZ (gO L)).trans ((congrArg (·*2) hlS).trans (rZ L).symm)];exact h3,dK (Nat.le_of_eq hlS) h4⟩
def pj:Kb qy 2 sf 0 sc:=⟨VN,aep⟩
theorem agR{P:Program}(w:World)(ty:TypeId)(it bm since c0:Nat)(seen:Array Nat)(es:Array MapEntry)(clock:Nat)(hit:w.heap[it]?=some (.mapIter (some bm) since seen c0))(hb:w.heap[bm]?=some (.map es clock))
  (hold:∀x∈es.toList,x.born<since) (hsc:since<=c0) :
  ((leftOf es seen).size=0/\(Instr.next (.pointer (some ⟨it,0,none⟩)) false ty).run P w=.ok (.tuple #[.bool false]) w) \/
  ∃e∈(leftOf es seen).toList,∃d:Nat,(Instr.next (.pointer (some ⟨it,0,none⟩)) false ty).run P w=.ok (.tuple #[.bool true,e.key,e.val]) { w with heap:=w.heap.setIfInBounds it (.mapIter (some bm) since (seen.push e.born) clock),drawn:=d }:=by
 simp only[Instr.next,getObj,Sem.run_bind,Sem.run,hit,hb,Result.andThen,next_test_false seen es since c0 hold hsc,Bool.false_eq_true,if_false];unfold leftOf;have hmem:∀x∈(Array.filter (fun e=>!seen.contains e.born) es).toList,x.born<since:=fun x hx=>hold x (by simp at hx |-;exact hx.1);generalize Array.filter (fun e=>!seen.contains e.born) es=L at hmem |-;have e1:L.filter (fun x=>decide (x.born<since))=L:=Array.filter_eq_self.2 (fun x hx=>by simpa using hmem x (by simpa using hx));have e2:L.filter (fun x=>decide (x.born>=since))=#[]:=by rw[Array.filter_eq_empty_iff];intro x hx;have:=hmem x (by simpa using hx);simp;omega
 simp only[e1,e2,Array.append_empty];by_cases h0:L.size=0
 .left;have:L=#[]:=Array.eq_empty_of_size_eq_zero h0;subst this;refine⟨rfl,?_⟩;simp[choose,Sem.run,Question.forced]
 .right;have hne:L.isEmpty=false:=by simp[Array.isEmpty,h0]
  simp only[hne,Bool.false_eq_true,if_false,Array.empty_append,Array.size_map];have hch:∃(j:Nat) (d:Nat),j<L.size/\(choose (Question.mapNext L.size)).run P w=.ok j { w with drawn:=d }:=by
   by_cases hf:L.size<=1
   .exact⟨0,w.drawn,by omega,by simp[choose,Sem.run,Question.forced,hf]⟩
   .exact⟨w.tape w.drawn (Question.mapNext L.size) % L.size,w.drawn+1,Nat.mod_lt _ (by omega),by simp only[choose,Sem.run,Question.forced,decide_eq_true_eq,hf,if_false,Question.cut]⟩
  obtain⟨j,d,hj,hrun⟩:=hch;refine⟨L[j],by simp,d,?_⟩;have hset:∀o':Obj,(setObj it o').run P { w with drawn:=d }=.ok () { w with heap:=w.heap.setIfInBounds it o',drawn:=d }:=fun o'=>by simp only[setObj,Sem.run];have:({ w with drawn:=d }:World).heap[it]?=some (.mapIter (some bm) since seen c0):=hit;rw[this]
  simp only[hrun,Array.getElem?_map,Array.getElem?_eq_getElem hj,Option.map_some,Sem.run_bind,hset,Result.andThen];rfl
theorem ae7{P:Program}(w:World)(it bm since:Nat)(seen:Array Nat)(es:Array MapEntry)(clock:Nat)(e:MapEntry)(hit:w.heap[it]?=some (.mapIter (some bm) since (seen.push e.born) clock))(hb:w.heap[bm]?=some (.map es clock))(he:e∈es.toList)(hn:(es.toList.map (·.born)).Nodup) :
  (Instr.entry (.pointer (some ⟨it,0,none⟩))).run P w=.ok (.tuple #[e.key,e.val]) w:=by
 have hf:es.find? (·.born == e.born)=some e:=by rw[<-Array.find?_toList];exact find_born e es.toList hn he
 simp only[Instr.entry,getObj,Sem.run_bind,Sem.run,hit,hb,Result.andThen,Array.back?_push,bne_self_eq_false,Bool.false_eq_true,if_false,hf];rfl
open Go.Proofs.YtkcpdpplobhpaaaGreat.Ev (Tr Tr.cI nth dI Ex)
noncomputable abbrev pP:Program:=Tryz.prog
noncomputable abbrev Q4:TypeId->Option Sh:=nm Tryz.prog 20
noncomputable abbrev pc:TypeId:=137
noncomputable def cl(K:KN){R:Type}:iM R:=qx pP Q4 K.kn (lK e0.l) 1
noncomputable def rk(K:KN){R:Type}(c:Code)(st:St)(k:Ex->St->Option R):Option R:=runK pP Q4 (cl K) (abN R) 26 c st k
noncomputable def re(K:KN){R:Type}(ops:Array Oper)(l:List Oper)(st:St)(k:St->Option R):Option R:=sI pP Q4 (cl K) 26 ops l st k
theorem Vw(K:KN){R:Type}:kf pP (cl (R:=R) K):=um rn K.ok (ru e0.h) 1
noncomputable def Tk(c:Code)(st:St)(e:Ex)(st':St):Prop:=∀X a,aF X->RF X 26 st a->∀Q:Exit->Act->World->Prop,(∀X' a',RF X' 26 st' a'->aO X X'->Q e.to a' X'.w)->c.wp pP Q a X.w
theorem AZ(K:KN){R:Type}{c:Code}(hl:fb c=[]){st:St}{k:Ex->St->Option R}{r:R}(h:rk K c st k=some r):∃e st',k e st'=some r/\Tk c st e st':=by obtain⟨e,st',h1,h2⟩:=uw (G:=fun _=>True) (base:=st.h.next) rn (Vw K) c (by rw[hl];intro x hx;cases hx) st k r h;exact⟨e,st',h1,fun X a H RR Q hQ=>h2 X X a ⟨by rw[RR.h],trivial⟩ H (aO.refl X) RR Q hQ⟩
theorem vA(K:KN){R:Type}{ops:Array Oper}:∀(l:List Oper) (j:Nat) (st:St) (k:St->Option R) (r:R),re K ops l st k=some r->(∀i,i<l.length->l[i]?=ops[j+i]?) ->
  ∃st',k st'=some r/\∀X a,RF X 26 st a->∀(m:Nat) (Q:Exit->Act->World->Prop),(∀X' a',RF X' 26 st' a'->aO X X'->wpOps pP ops Q (List.range' (j+l.length) m) a' X'.w)->wpOps pP ops Q (List.range' j (l.length+m)) a X.w
 |[],j,st,k,r,e,_=>⟨st,e,fun X a RR m Q hQ=>by simpa using hQ X a RR (aO.refl X)⟩|o::l,j,st,k,r,e,hl=>by unfold re at e;simp only[sI]at e;obtain⟨st₁,e,S⟩:=Xk (Vw K) e (i:=j) (by have:=hl 0 (by simp);simpa using this.symm);obtain⟨st',hk,rest⟩:=vA K l (j+1) st₁ k r e (by intro i hi;have:=hl (i+1) (by simpa using hi);simp only[List.getElem?_cons_succ]at this;rw[this];congr 1;omega);refine⟨st',hk,?_⟩;intro X a RR m Q hQ;rw[cp,show l.length+1+m=(l.length+m)+1 by omega,List.range'_succ,wpOps_cons];refine S X a RR _ _ ?_;intro X' a' R' E';refine rest X' a' R' m Q ?_;intro X'' a'' R'' E'';have:=hQ X'' a'' R'' (E'.trans E'');rw[cp,show j+(l.length+1)=j+1+l.length by omega]at this;exact this
theorem AY{ops:Array Oper}{i m:Nat}{o:Oper}{a:Act}{w w':World}{V:Value}{Q:Exit->Act->World->Prop}(ho:ops[i]?=some o)(hg:o.guard=none)(hr:(execOp a.eval o).run pP w=.ok (.value V) w')(h:wpOps pP ops Q (List.range' (i+1) m) (a.put o.dst V) w') :
  wpOps pP ops Q (List.range' i (m+1)) a w:=by
 rw[List.range'_succ,wpOps_cons];unfold wpOp;rw[ho];have hw:Region.wanted o (yielded ops a.tmps)=true:=by unfold Region.wanted;rw[hg]
 simp only[hw,if_true];left;unfold Oper.wp;rw[hr];exact h
noncomputable def qL:Code->Code|.seq a _=>a|c=>c
noncomputable def qR:Code->Code|.seq _ b=>b|c=>c
noncomputable def qB:Code->Code|.block _ b=>b|.loop b=>b|c=>c
noncomputable def qO:Code->Array Oper|.region _ o _=>o|_=>#[]
noncomputable abbrev cC:Code:=bh Tryz.f83
noncomputable def cA:Code:=qL cC
noncomputable def cB:Code:=qL (qR cC)
noncomputable def o3:Array Oper:=qO (qL (qL (qR (qR cC))))
noncomputable def qw:Code:=qB (qB (qR (qL (qR (qR cC)))))
noncomputable def tu:Code:=qR (qR (qR cC))
noncomputable def o4:Array Oper:=qO (qL qw)
noncomputable def o5:Array Oper:=qO (qL (qB (qR (qR qw))))
noncomputable def c6:Code:=qR (qB (qR (qR qw)))
theorem shC:cC=.seq cA (.seq cB (.seq (.seq (.region 3 o3 false) (.block 0 (.loop qw))) tu)):=by kernel_rfl
theorem shB:qw=.seq (.region 4 o4 false) (.seq (.cond (.tmp 13) .skip (.exit 0)) (.block 1 (.seq (.region 5 o5 false) c6))):=by kernel_rfl
noncomputable def qn:List Oper:=o4.toList.drop 1
noncomputable def oq:List Oper:=o5.toList.drop 1
noncomputable def TA:Tr AV:=.node (some (.ptr 0 0)) .nil .nil
noncomputable def nD(a b:Int)(M:List dm):Hp:=⟨.node (some (.cells [.int .i64 a,.int .i64 b,.mp 1] 220)) (.node (some (.map .u64 (.int .u64) M)) .nil .nil) .nil,2⟩
noncomputable def xy:Tr AV:=.node none (.node none (.node none .nil (.node (some (.ptr 0 0)) .nil .nil)) .nil) (.node (some (.hd 1 aA)) .nil .nil)
noncomputable def hL(N:List dm):Hp:=⟨.node none (.node (some (.arr aA N pc)) .nil .nil) .nil,2⟩
noncomputable def kE{R:Type}(f:List dm->Option R)(e:Ex)(st:St):Option R:=match e,lV pP st Tryz.f83.results.toList with
 |.ret,some [.hd j _]=>match st.h.tr.get j with
  |some (.arr σ L t)=>match h:σ.eqv aA,Nat.beq t pc with|true,true=>f (jW h L)|_,_=>none
  |_=>none
 |_,_=>none
noncomputable def kN{R:Type}(f:List dm->Option R)(e:Ex)(st:St):Option R:=match e,st.T.get 2,st.T.get 11 with
 |.normal,some (.hd j _),some (.ptr 0 0)=>match st.h.tr.get j with
  |some (.arr σ L t)=>match h:σ.eqv aA,Nat.beq t pc with|true,true=>f (jW h L)|_,_=>none
  |_=>none
 |_,_,_=>none
noncomputable def kT(k v:Int)(st:St):Option (List dm):=match st.T.get 13,st.T.get 11 with
 |some (.bool true),some (.ptr 0 0)=>match gm 26 st.T (some 14) (.cM [.int .u64 k,.int .u64 v])with|some T=>re k0 o5 oq ⟨T,st.h⟩ fun st=>rk k0 c6 st (kN some)|none=>none
 |_,_=>none
noncomputable def kF(K:Kb qy 2 sf 0 sc)(st:St):Option (List dm):=match st.T.get 13 with|some (.bool false)=>rk (kB K k0) tu st (kE some)|_=>none
noncomputable def g4(N:List dm)(v:AV)(K:KN)(k:St->Option (List dm)):Option (List dm):=match gm 26 xy (some 12) v with|some T=>re K o4 qn ⟨T,hL N⟩ k|none=>none
noncomputable def Gd(st:St):Option Hp:=match st.T.get 2,st.T.get 10 with|some .bk,some (.mp 1)=>some st.h|_,_=>none
noncomputable def kA(e:Ex)(st:St):Option Hp:=match e with|.normal=>re k0 o3 (o3.toList.take 4) st Gd|_=>none
theorem eqA(a b:Int)(M:List dm):rk k0 cA ⟨TA,nD a b M⟩ (fun e st=>match e with|.normal=>rk k0 cB st kA|_=>none)=some (nD a b M):=by kernel_rfl
theorem eqT(N:List dm)(k v:Int):g4 N (.cM [.bool true,.int .u64 k,.int .u64 v]) k0 (kT k v)=ai (room 16 (List.length (N++[(k,(v,()))]))) (some (N++[(k,(v,()))])):=by kernel_rfl
theorem eqF(N:List dm)(K:Kb qy 2 sf 0 sc):g4 N (.cM [.bool false]) (kB K k0) (kF K)=ao (K.F (N,())) fun o=>some o.1:=by kernel_rfl
theorem aoi:∃o,o3[4]?=some o/\o.guard=none/\o.dst=some 11/\o.op=.range 218 (.tmp 10):=⟨_,rfl,rfl,rfl,rfl⟩
theorem aoj:∃o,o4[0]?=some o/\o.guard=none/\o.dst=some 12/\o.op=.next (.tmp 11) false:=⟨_,rfl,rfl,rfl,rfl⟩
theorem aok:∃o,o5[0]?=some o/\o.guard=none/\o.dst=some 14/\o.op=.entry (.tmp 11):=⟨_,rfl,rfl,rfl,rfl⟩
theorem VE{α:Type}(o:α)(j:Nat):(Tr.node none (.node (some o) .nil .nil) .nil).get j=if j=1 then some o else none:=by
 rcases j with _|_|j
 .rfl
 .rfl
 .rw[if_neg (by omega)];simp only[Tr.get];split
  .rename_i h;have h:=bD h;obtain⟨m,hm⟩:∃m,(j+1) / 2=m+1:=⟨(j+1) / 2-1,by omega⟩;rw[hm];simp only[];split<;>rfl
  .rfl
theorem Ur(t:Nat)(v:AV)(h:xy.get t=some v):(t=2/\v=.hd 1 aA)\/(t=11/\v=.ptr 0 0):=by
 have h1:Tr.set FT (Tr.node none .nil (.node (some (AV.hd 1 aA)) .nil .nil)) 11 (some (.ptr 0 0))=some xy:=by kernel_rfl
 have h2:Tr.set FT (Tr.nil:Tr AV) 2 (some (.hd 1 aA))=some (Tr.node none .nil (.node (some (AV.hd 1 aA)) .nil .nil)):=by kernel_rfl
 rw[Tr.cI _ _ _ _ _ h1 t]at h;by_cases q:t=11
 .rw[if_pos q]at h;exact .inr ⟨q,(Option.some.inj h).symm⟩
 .rw[if_neg q,Tr.cI _ _ _ _ _ h2 t]at h;by_cases q2:t=2
  .rw[if_pos q2]at h;exact .inl ⟨q2,(Option.some.inj h).symm⟩
  .rw[if_neg q2]at h;cases h
theorem mT(N:List dm)(j:Nat):(hL N).tr.get j=if j=1 then some (.arr aA N pc)else none:=VE _ j
def cR(e:MapEntry):dm:=((match e.key with|.int _ n=>n|_=>0),((match e.val with|.int _ n=>n|_=>0),()))
theorem T5{w:World}{A:Nat->Prop}:∀{es:List MapEntry}{N:dN (.int .u64)},iH w A .u64 (.int .u64) es N->es.map cR=N/\∀e∈es,e.key=.int .u64 (cR e).1/\e.val=.int .u64 (cR e).2.1
 |[],N,h=>⟨(show N=[]from h).symm,fun e he=>by cases he⟩
 |e::es,N,h=>by
  cases N with
  |nil=>exact h.elim|cons p N=>
   obtain⟨h1,h2,h3⟩:=h;obtain⟨g1,g2⟩:=T5 h3;obtain⟨q1,q2⟩:=h2;have hv:e.val=.int .u64 p.2.1:=by
    have q1:e.val.cells.toList=[.int .u64 p.2.1]:=q1;have hc:e.val.cells=#[e.val]:=by cases hx:e.val<;>first|rfl|(rw[hx]at q2;cases q2)
    rw[hc]at q1;exact(List.cons.inj q1).1
   have he:cR e=p:=by unfold cR;rw[h1,hv];rfl
   refine⟨?_,?_⟩
   .rw[List.map_cons,g1,he];rfl
   .intro x hx;rcases List.mem_cons.1 hx with rfl|hx
    .rw[he];exact⟨h1,hv⟩
    .exact g2 x hx
def mK(es:List MapEntry)(seen:Array Nat):List dm:=(es.filter (fun e=>seen.contains e.born)).map cR
theorem afm(es:List MapEntry):mK es #[]=[]:=by unfold mK;rw[List.filter_eq_nil_iff.2 (by intro x _;simp)];rfl
theorem Ub{seen:Array Nat}{e:MapEntry}(hs:seen.contains e.born=false):∀{es:List MapEntry},es.Pairwise (fun e f=>e.born≠f.born)->e∈es->(mK es (seen.push e.born)).Perm (mK es seen++[cR e])
 |x::l,hp,he=>by
  obtain⟨p1,p2⟩:=List.pairwise_cons.1 hp;rcases List.mem_cons.1 he with rfl|hl
  .have hsame:l.filter (fun y=>(seen.push e.born).contains y.born)=l.filter (fun y=>seen.contains y.born):=by
    refine List.filter_congr fun y hy=>?_;rw[contains_push];have:(y.born == e.born)=false:=by cases hc:y.born == e.born with|false=>rfl|true=>exact absurd (beq_iff_eq.1 hc).symm (p1 y hy)
    rw[this,Bool.or_false]
   unfold mK;rw[List.filter_cons_of_pos (by rw[contains_push];simp),List.filter_cons_of_neg (by rw[hs];decide),hsame,List.map_cons];exact(List.perm_append_singleton _ _).symm
  .have ih:=Ub hs p2 hl;have hx:(x.born == e.born)=false:=by cases hc:x.born == e.born with|false=>rfl|true=>exact absurd (beq_iff_eq.1 hc) (p1 e hl)
   unfold mK at ih |-;by_cases q:seen.contains x.born=true
   .rw[List.filter_cons_of_pos (by rw[contains_push,hx,q];rfl),List.filter_cons_of_pos (p:=fun e:MapEntry=>seen.contains e.born) q,List.map_cons,List.map_cons,List.cons_append];exact ih.cons _
   .rw[List.filter_cons_of_neg (by rw[contains_push,hx,Bool.or_false];exact q),List.filter_cons_of_neg (p:=fun e:MapEntry=>seen.contains e.born) q];exact ih
theorem agy{es:Array MapEntry}{seen:Array Nat}(h:(leftOf es seen).size=0):mK es.toList seen=es.toList.map cR:=by unfold mK;rw[List.filter_eq_self.2 (fun x hx=>all_seen es seen h x hx)]
section
variable{X₂:Cx}{bm it clk:Nat}{es:Array MapEntry}{x:Nat}
structure LI(X₂:Cx)(x bm it clk:Nat)(es:Array MapEntry)(N:List dm)(seen:Array Nat)(W:Cx)(a:Act):Prop where
 rf:RF W 26 ⟨xy,hL N⟩ a
 s0:W.s 0=some (.at it 0)
 A:W.A=fun b=>X₂.A b\/b=x\/b=bm\/b=it
 os:W.w.os=X₂.w.os
 tape:W.w.tape=X₂.w.tape
 out:W.w.output=X₂.w.output
 old:∀b,b<X₂.w.heap.size->W.w.heap[b]?=X₂.w.heap[b]?
 iter:W.w.heap[it]?=some (.mapIter (some bm) clk seen clk)
 bO:∀b,W.bO b->it<b
 perm:N.Perm (mK es.toList seen)
structure LX(X₂:Cx)(x bm it:Nat)(W:Cx)(st:St)(a:Act):Prop where
 rf:RF W 26 st a
 A:W.A=fun b=>X₂.A b\/b=x\/b=bm\/b=it
 os:W.w.os=X₂.w.os
 tape:W.w.tape=X₂.w.tape
 out:W.w.output=X₂.w.output
 old:∀b,b<X₂.w.heap.size->W.w.heap[b]?=X₂.w.heap[b]?
 bO:∀b,W.bO b->it<b
 cE:it<W.w.heap.size
theorem aeM{T:Tr AV}{t:Tmp}{v:AV}{R:Type}{f:Tr AV->Option R}{r:R}(h:(match gm 26 T (some t) v with|some T=>f T|none=>none)=some r):∃T',gm 26 T (some t) v=some T'/\f T'=some r:=by
 split at h
 .rename_i T' hT;exact⟨T',hT,h⟩
 .cases h
theorem Uz{N:List dm}{v:AV}{K:KN}{k:St->Option (List dm)}{r:List dm}(h:g4 N v K k=some r):∃T,gm 26 xy (some 12) v=some T/\re K o4 qn ⟨T,hL N⟩ k=some r:=by
 unfold g4 at h;split at h
 .rename_i T' hT;exact⟨T',hT,h⟩
 .cases h
theorem aor{W:Cx}{u:AV}{V:Value}(h:Rel W u V):Rel W (.cM [u]) (.tuple #[V]):=⟨[V],rfl,V,[],rfl,h,rfl⟩
theorem aos{W:Cx}{u u':AV}{V V':Value}(h:Rel W u V)(h':Rel W u' V'):Rel W (.cM [u,u']) (.tuple #[V,V']):=⟨[V,V'],rfl,V,[V'],rfl,h,V',[],rfl,h',rfl⟩
theorem aot{W:Cx}{u u' u'':AV}{V V' V'':Value}(h:Rel W u V)(h':Rel W u' V')(h'':Rel W u'' V''):Rel W (.cM [u,u',u'']) (.tuple #[V,V',V'']):=⟨[V,V',V''],rfl,V,[V',V''],rfl,h,V',[V''],rfl,h',V'',[],rfl,h'',rfl⟩
theorem Ui{W:Cx}{T:Tr AV}{a:Act}{it:Nat}(R:kI W 26 T a)(h:T.get 11=some (.ptr 0 0))(s0:W.s 0=some (.at it 0)):a.eval (.tmp 11)=.pointer (some ⟨it,0,none⟩):=by obtain⟨y,c,h1,h2⟩:=sH R (c:=.tmp 11) (v:=.ptr 0 0) h;rw[s0]at h1;cases h1;exact h2
theorem agG{e:Ex}{st:St}{N':List dm}(h:kN some e st=some N'):e=.normal/\st.T.get 11=some (.ptr 0 0)/\∃j τ,st.T.get 2=some (.hd j τ)/\st.h.tr.get j=some (.arr aA N' pc):=by
 unfold kN at h;split at h<;>try cases h
 rename_i j τ h2 h11;split at h<;>try cases h
 rename_i σ L t hg;split at h<;>try cases h
 rename_i he ht;have ht:=bD ht;subst ht;obtain rfl:=Sh.fK he;exact⟨rfl,h11,j,τ,h2,hg⟩
theorem agE{e:Ex}{st:St}{N':List dm}(h:kE some e st=some N'):e=.ret/\∃j τ,lV pP st Tryz.f83.results.toList=some [.hd j τ]/\st.h.tr.get j=some (.arr aA N' pc):=by
 unfold kE at h;split at h<;>try cases h
 rename_i j τ hr;split at h<;>try cases h
 rename_i σ L t hg;split at h<;>try cases h
 rename_i he ht;have ht:=bD ht;subst ht;obtain rfl:=Sh.fK he;exact⟨rfl,j,τ,hr,hg⟩
theorem agF{st:St}{N':List dm}(h:kF pj st=some N'):st.T.get 13=some (.bool false)/\rk (kB pj k0) tu st (kE some)=some N':=by
 unfold kF at h;split at h<;>try cases h
 rename_i h13;exact⟨h13,h⟩
theorem agH{k v:Int}{st:St}{N':List dm}(h:kT k v st=some N'):st.T.get 13=some (.bool true)/\st.T.get 11=some (.ptr 0 0)/\∃T,gm 26 st.T (some 14) (.cM [.int .u64 k,.int .u64 v])=some T/\re k0 o5 oq ⟨T,st.h⟩ (fun st=>rk k0 c6 st (kN some))=some N':=by
 unfold kT at h;split at h<;>try cases h
 rename_i h13 h11;exact⟨h13,h11,aeM h⟩
theorem r4:List.range o4.size=List.range' 0 (1+1):=by kernel_rfl
theorem r5:List.range o5.size=List.range' 0 (4+1):=by kernel_rfl
theorem t4(i:Nat)(hi:i<qn.length):qn[i]?=o4[1+i]?:=by
 have:qn.length=1:=by kernel_rfl
 have h0:qn[0]?=o4[1]?:=by kernel_rfl
 obtain rfl:i=0:=by omega
 exact h0
theorem t5(i:Nat)(hi:i<oq.length):oq[i]?=o5[1+i]?:=by
 have:oq.length=4:=by kernel_rfl
 have h0:oq[0]?=o5[1]?:=by kernel_rfl
 have h1:oq[1]?=o5[2]?:=by kernel_rfl
 have h2:oq[2]?=o5[3]?:=by kernel_rfl
 have h3:oq[3]?=o5[4]?:=by kernel_rfl
 rcases i with _|_|_|_|i
 .exact h0
 .exact h1
 .exact h2
 .exact h3
 .omega
theorem Ue{a:Act}{o:Oper}{w w':World}{V:Value}{it:Nat}(hop:o.op=.next (.tmp 11) false)(hev:a.eval (.tmp 11)=.pointer (some ⟨it,0,none⟩))(h:(Instr.next (.pointer (some ⟨it,0,none⟩)) false o.type).run pP w=.ok V w'):(execOp a.eval o).run pP w=.ok (.value V) w':=by simp only[execOp,hop,hev,Sem.run_bind,h,Result.andThen_ok,Sem.run_pure]
theorem aew{a:Act}{o:Oper}{w w':World}{V:Value}{it:Nat}(hop:o.op=.entry (.tmp 11))(hev:a.eval (.tmp 11)=.pointer (some ⟨it,0,none⟩))(h:(Instr.entry (.pointer (some ⟨it,0,none⟩))).run pP w=.ok V w'):(execOp a.eval o).run pP w=.ok (.value V) w':=by simp only[execOp,hop,hev,Sem.run_bind,h,Result.andThen_ok,Sem.run_pure]
theorem aeK(hb:X₂.w.heap[bm]?=some (.map es clk))(hit:it=X₂.w.heap.size)(hst:∀e∈es.toList,e.born<clk)(hnd:es.toList.Pairwise (fun e f=>e.born≠f.born))(hdat:∀e∈es.toList,e.key=.int .u64 (cR e).1/\e.val=.int .u64 (cR e).2.1)(hlen:es.size<=1000000)
  (hkey:((es.toList.map cR).map (fun p=>p.1)).Nodup) {Q:Exit->Act->World->Prop}(hQ:∀N W st a,N.Perm (es.toList.map cR)->LX X₂ x bm it W st a->rk (kB pj k0) tu st (kE some)=some (gO N)->Q (.exit 0) a W.w) :
  ∀(m:Nat) (N:List dm) (seen:Array Nat) (W:Cx) (a:Act),LI X₂ x bm it clk es N seen W a->(leftOf es seen).size<m->Code.rounds pP qw Q m a W.w:=by
 have hbm:bm<X₂.w.heap.size:=fN hb;intro m
 induction m with
 |zero=>intro N seen W a L h;omega|succ m ih=>
  intro N seen W a L hm;have hitW:it<W.w.heap.size:=fN L.iter;have hb':W.w.heap[bm]?=some (.map es clk):=(L.old bm hbm).trans hb;have hev:=Ui L.rf.T (by rfl) L.s0;have hNl:N.length<=1000000:=by rw[L.perm.length_eq];unfold mK;rw[aI];exact dK (List.length_filter_le _ _) (by rw[Array.length_toList];exact hlen)
  rw[rounds_succ,shB];refine wp_seq (wp_region ?_);rw[r4];obtain⟨o,ho,hg,hd,hop⟩:=aoj;rcases agR (P:=pP) W.w o.type it bm clk clk seen es clk L.iter hb' hst (aS _)with⟨hz,hrun⟩|⟨e,he,d,hrun⟩
  .-- all have come
   have hall:N.Perm (es.toList.map cR):=by have:=L.perm;rw[agy hz]at this;exact this
   have hok:vm N=true:=by unfold vm;simp only[Bool.and_eq_true,decide_eq_true_eq];exact⟨((hall.map _).nodup_iff).2 hkey,hNl⟩
   have hE:g4 N (.cM [.bool false]) (kB pj k0) (kF pj)=some (gO N):=by rw[eqF];have:pj.F (N,())=some (gO N,()):=ak hok rfl;exact ah this rfl
   obtain⟨T,hT,hre⟩:=Uz hE;obtain⟨st',hk,step⟩:=vA (kB pj k0) qn 1 _ _ _ hre t4;obtain⟨h13,hend⟩:=agF hk;refine AY ho hg (Ue hop hev hrun) ?_;rw[hd];refine step W _ ⟨L.rf.h,L.rf.T.put (aor (u:=.bool false) (V:=.bool false) rfl) hT,L.rf.H⟩ 0 _ ?_;intro X' a' R' E';refine wp_seq (wp_cond_false (sH R'.T (c:=.tmp 13) (v:=.bool false) h13) (wp_exit ?_));refine hQ N X' st' a' hall ⟨R',by rw[E'.A,L.A],E'.os.trans L.os,E'.tape.trans L.tape,E'.output.trans L.out,?_,?_,iS hitW E'.size⟩ hend
   .intro b hb2;exact(E'.frame b (iS (by omega) (Nat.le_of_lt hitW)) (fun q=>by have:=L.bO b q;omega)).trans (L.old b hb2)
   .intro b q;rcases E'.bO b q with q|q
    .exact L.bO b q
    .omega
  .-- one more
   obtain⟨m1,m2⟩:=mem_left he;obtain⟨ek,ev⟩:=hdat e m1;obtain⟨w',hw'⟩:∃w':World,w'={ W.w with heap:=W.w.heap.setIfInBounds it (.mapIter (some bm) clk (seen.push e.born) clk),drawn:=d }:=⟨_,rfl⟩;rw[<-hw',ek,ev]at hrun;have hget:∀b,b≠it->w'.heap[b]?=W.w.heap[b]?:=by intro b hne;rw[hw'];show(W.w.heap.setIfInBounds it _)[b]?=_;rw[Array.getElem?_setIfInBounds,if_neg (fun q=>hne q.symm)]
   have hiter:w'.heap[it]?=some (.mapIter (some bm) clk (seen.push e.born) clk):=by rw[hw'];show(W.w.heap.setIfInBounds it _)[it]?=_;rw[Array.getElem?_setIfInBounds,if_pos rfl,if_pos hitW]
   have hsz:w'.heap.size=W.w.heap.size:=by rw[hw'];show(W.w.heap.setIfInBounds it _).size=_;rw[Array.size_setIfInBounds]
   have hitA:W.A it:=by rw[L.A];exact .inr (.inr (.inr rfl))
   have RE:gl W { W with w:=w' }:=⟨fun _ _ h=>h,fun b o q r=>⟨(hget b (fun h=>by subst h;exact q (.inl hitA))).trans r,q⟩,fun j l n _ q=>q⟩;have H':aF { W with w:=w' }:=by
    refine⟨fun i o l hi hl=>((L.rf.H).obj i o l hi hl).ext RE (fun b hb=>hget b ?_),L.rf.H.inj,L.rf.H.lt,L.rf.H.di,?_,L.rf.H.loc⟩
    .have:=L.bO b ⟨i,o,l,hi,hl,hb⟩;omega
    .intro b q;show b<w'.heap.size;rw[hsz];exact L.rf.H.alt b q
   have hcl:mK es.toList (seen.push e.born)=mK es.toList (seen.push e.born):=rfl;have hlen':List.length (N++[((cR e).1,((cR e).2.1,()))])<=1000001:=by rw[aU];simp;omega
   have hT':g4 N (.cM [.bool true,.int .u64 (cR e).1,.int .u64 (cR e).2.1]) k0 (kT (cR e).1 (cR e).2.1)=some (N++[((cR e).1,((cR e).2.1,()))]):=by rw[eqT];exact ak (l9 (by omega) (by omega)) rfl
   obtain⟨T,hT,hre⟩:=Uz hT';obtain⟨st1,hk1,step1⟩:=vA k0 qn 1 _ _ _ hre t4;obtain⟨h13,h11,T14,hT14,hre5⟩:=agH hk1;refine AY ho hg (Ue hop hev hrun) ?_;rw[hd];refine step1 { W with w:=w' } _ ⟨L.rf.h,(L.rf.T.ext RE).put (aot (u:=.bool true) (V:=.bool true) (u':=.int .u64 (cR e).1) (V':=.int .u64 (cR e).1) (u'':=.int .u64 (cR e).2.1) (V'':=.int .u64 (cR e).2.1) rfl rfl rfl) hT,H'⟩ 0 _ ?_;intro X1 a1 R1 E1;have hnimg:¬Cx.bO { W with w:=w' } it:=fun q=>by have:=L.bO it q;omega
   have hiter1:X1.w.heap[it]?=some (.mapIter (some bm) clk (seen.push e.born) clk):=(E1.frame it (by show it<w'.heap.size;rw[hsz];exact hitW) hnimg).trans hiter;have hold1:∀b,b<X₂.w.heap.size->X1.w.heap[b]?=X₂.w.heap[b]?:=by intro b hb2;refine(E1.frame b (by show b<w'.heap.size;rw[hsz];omega) (fun q=>by have:=L.bO b q;omega)).trans ?_;exact(hget b (by omega)).trans (L.old b hb2)
   have himg1:∀b,X1.bO b->it<b:=by
    intro b q;rcases E1.bO b q with q|q
    .exact L.bO b q
    .have q:w'.heap.size<=b:=q;omega
   have hs1:X1.s 0=some (.at it 0):=E1.sg 0 _ L.s0;refine wp_seq (wp_cond_true (sH R1.T (c:=.tmp 13) (v:=.bool true) h13) (wp_skip ?_));refine wp_block (wp_seq (wp_region ?_));rw[r5];obtain⟨o',ho',hg',hd',hop'⟩:=aok;have hev1:=Ui R1.T h11 hs1;have hent:=ae7 (P:=pP) X1.w it bm clk seen es clk e hiter1 ((hold1 bm hbm).trans hb) m1 (by have:=hnd;rw[List.Nodup,List.pairwise_map];exact this);rw[ek,ev]at hent;obtain⟨st2,hk2,step2⟩:=vA k0 oq 1 _ _ _ hre5 t5;obtain⟨ex,st3,hk3,Tk3⟩:=AZ k0 (c:=c6) (by kernel_rfl) hk2;obtain⟨rfl,h11',j,τ,h2',hj⟩:=agG hk3;refine AY ho' hg' (aew hop' hev1 hent) ?_;rw[hd'];refine step2 X1 _ ⟨R1.h,R1.T.put (aos (u:=.int .u64 (cR e).1) (V:=.int .u64 (cR e).1) (u':=.int .u64 (cR e).2.1) (V':=.int .u64 (cR e).2.1) rfl rfl) hT14,R1.H⟩ 0 _ ?_;intro X2' a2 R2 E2;refine Tk3 X2' a2 R2.H R2 _ ?_;intro X3 a3 R3 E3;have E13:=E2.trans E3;obtain⟨V2,b1,l,hl,hone,hsl⟩:=R3.T.get 2 _ h2';have hj':X3.h.tr.get j=some (.arr aA (N++[((cR e).1,((cR e).2.1,()))]) pc):=by rw[R3.h];exact hj
   have hV2:=hsl _ (gF hj');obtain⟨V11,b11,hp⟩:=R3.T.get 11 _ h11';have hs3:X3.s 0=some (.at it 0):=E13.sg 0 _ hs1;obtain⟨y,c,hp1,hp2⟩:=hp;rw[hs3]at hp1;cases hp1
   let W3:Cx:=⟨fun i=>if i=0 then some (.at it 0)else if i=1 then some l else none,hL (N++[((cR e).1,((cR e).2.1,()))]),X3.w,X3.A⟩
   have hout:∀b,W3.out b->X3.out b:=by
    rintro b (q|⟨i,o2,l2,q1,q2,q3⟩)
    .exact .inl q
    .have q1:(hL (N++[((cR e).1,((cR e).2.1,()))])).tr.get i=some o2:=q1;rw[mT]at q1;by_cases hi:i=1
     .subst hi;have q2:some l=some l2:=q2;cases q2;exact .inr ⟨j,_,l,hj',hl,q3⟩
     .rw[if_neg hi]at q1;cases q1
   have hobj:jc W3 l (.arr aA (N++[((cR e).1,((cR e).2.1,()))]) pc):=by have:=R3.H.obj j _ l hj' hl;cases l with|nil=>exact this|cE b c m=>exact this.elim|«at» b c=>obtain⟨cs,tail,q1,q2,q3,q4⟩:=this;exact⟨cs,tail,q1,q2.mono (fun x d q=>q.bj (fun b o r s=>⟨s,fun z=>r (hout b z)⟩)),q3,q4⟩
   have hA3:X3.A=fun b=>X₂.A b\/b=x\/b=bm\/b=it:=by rw[E13.A,E1.A];exact L.A
   have H3:aF W3:=by
    refine⟨?_,?_,?_,?_,?_,?_⟩
    .intro i o2 l2 q1 q2;have q1:(hL (N++[((cR e).1,((cR e).2.1,()))])).tr.get i=some o2:=q1;rw[mT]at q1;by_cases hi:i=1
     .subst hi;rw[if_pos rfl]at q1;cases q1;have q2:some l=some l2:=q2;cases q2;exact hobj
     .rw[if_neg hi]at q1;cases q1
    .intro i i' o2 o3 l2 l3 b q1 q1' _ _ _ _;have q1:(hL (N++[((cR e).1,((cR e).2.1,()))])).tr.get i=some o2:=q1;have q1':(hL (N++[((cR e).1,((cR e).2.1,()))])).tr.get i'=some o3:=q1';rw[mT]at q1 q1';by_cases hi:i=1
     .by_cases hi':i'=1
      .rw[hi,hi']
      .rw[if_neg hi']at q1';cases q1'
     .rw[if_neg hi]at q1;cases q1
    .intro i o2 q1;have q1:(hL (N++[((cR e).1,((cR e).2.1,()))])).tr.get i=some o2:=q1;rw[mT]at q1;by_cases hi:i=1
     .subst hi;show 1<2;omega
     .rw[if_neg hi]at q1;cases q1
    .intro i l2 q;show i<2;rcases i with _|_|i
     .omega
     .omega
     .have q:(if i+1+1=0 then some (Loc.at it 0)else if i+1+1=1 then some l else none)=some l2:=q;rw[if_neg (by omega),if_neg (by omega)]at q;cases q
    .exact R3.H.alt
    .intro i o2 l2 b q1 q2 q3;have q1:(hL (N++[((cR e).1,((cR e).2.1,()))])).tr.get i=some o2:=q1;rw[mT]at q1;by_cases hi:i=1
     .subst hi;have q2:some l=some l2:=q2;cases q2;exact R3.H.loc j _ l b hj' hl q3
     .rw[if_neg hi]at q1;cases q1
   have himg3:∀b,X3.bO b->it<b:=by
    intro b q;rcases E13.bO b q with q|q
    .exact himg1 b q
    .have:=fN hiter1;omega
   refine ih (N++[((cR e).1,((cR e).2.1,()))]) (seen.push e.born) W3 a3 ⟨⟨rfl,⟨R3.T.size,R3.T.defers,?_⟩,H3⟩,rfl,hA3,?_,?_,?_,?_,?_,?_,?_⟩ ?_
   .intro t v ht;rcases Ur t v ht with⟨rfl,rfl⟩|⟨rfl,rfl⟩
    .refine⟨V2,b1,l,rfl,hone,?_⟩;intro n hn;have hn:rowOf (hL (N++[((cR e).1,((cR e).2.1,()))])).tr 1=some n:=hn;have hn2:=(gF ((mT (N++[((cR e).1,((cR e).2.1,()))]) 1).trans (if_pos rfl))).symm.trans hn;rw[<-Option.some.inj hn2];exact hV2
    .exact⟨V11,b11,it,0,rfl,hp2⟩
   .exact E13.os.trans (E1.os.trans ((by rw[hw']:w'.os=W.w.os).trans L.os))
   .exact E13.tape.trans (E1.tape.trans ((by rw[hw']:w'.tape=W.w.tape).trans L.tape))
   .exact E13.output.trans (E1.output.trans ((by rw[hw']:w'.output=W.w.output).trans L.out))
   .intro b hb2;refine(E13.frame b ?_ (fun q=>by have:=himg1 b q;omega)).trans (hold1 b hb2);have:=fN hiter1;omega
   .exact(E13.frame it (fN hiter1) (fun q=>by have:=himg1 it q;omega)).trans hiter1
   .rintro b ⟨i,o2,l2,q1,q2,q3⟩;have q1:(hL (N++[((cR e).1,((cR e).2.1,()))])).tr.get i=some o2:=q1;rw[mT]at q1;by_cases hi:i=1
    .subst hi;have q2:some l=some l2:=q2;cases q2;exact himg3 b ⟨j,_,l,hj',hl,q3⟩
    .rw[if_neg hi]at q1;cases q1
   .exact(L.perm.append_right _).trans (Ub m2 hnd m1).symm
   .have:=left_shrinks es seen e he;omega
end
theorem Ug{M:List dm}(h:M.Pairwise (fun p q=>p.1<q.1)):(M.map (fun p=>p.1)).Nodup:=by rw[List.Nodup,List.pairwise_map];exact h.imp (fun h=>Int.ne_of_lt h)
def UQ(d:TL wS.σs):Option (Out wO):=ai (decide (List.length d.2.2.1<=1000000)) (some (d.2.2.1,(d.1,(d.2.1,(d.2.2.1,())))))
theorem r3:List.range o3.size=List.range' 0 (4+1):=by kernel_rfl
theorem l3:(o3.toList.take 4).length=4:=by kernel_rfl
theorem t3(i:Nat)(hi:i<(o3.toList.take 4).length):(o3.toList.take 4)[i]?=o3[0+i]?:=by
 rw[l3]at hi;have h0:(o3.toList.take 4)[0]?=o3[0]?:=by kernel_rfl
 have h1:(o3.toList.take 4)[1]?=o3[1]?:=by kernel_rfl
 have h2:(o3.toList.take 4)[2]?=o3[2]?:=by kernel_rfl
 have h3:(o3.toList.take 4)[3]?=o3[3]?:=by kernel_rfl
 rcases i with _|_|_|_|i
 .exact h0
 .exact h1
 .exact h2
 .exact h3
 .omega
theorem UA(a b:Int)(M:List dm)(j:Nat):(nD a b M).tr.get j=if j=0 then some (.cells [.int .i64 a,.int .i64 b,.mp 1] 220)else if j=1 then some (.map .u64 (.int .u64) M)else none:=by
 rcases j with _|_|j
 .rfl
 .rfl
 .have h1:(nD a b M).tr.get (j+1+1)=(Tr.node none (.node (some (bu.map .u64 (.int .u64) M)) .nil .nil) .nil).get (j+1+1):=rfl;rw[h1,VE,if_neg (by omega),if_neg (by omega)]
theorem aeI{a:Act}{o:Oper}{w w':World}{V:Value}{t:TypeId}{bm:Nat}(hop:o.op=.range t (.tmp 10))(hev:a.eval (.tmp 10)=.map (some bm))(h:(Instr.range t (.map (some bm))).run pP w=.ok V w'):(execOp a.eval o).run pP w=.ok (.value V) w':=by simp only[execOp,hop,hev,Sem.run_bind,h,Result.andThen_ok,Sem.run_pure]
theorem agC{e:Ex}{st:St}{h:Hp}(q:kA e st=some h):e=.normal/\re k0 o3 (o3.toList.take 4) st Gd=some h:=by
 unfold kA at q;split at q
 .exact⟨rfl,q⟩
 .cases q
theorem afq{st:St}{h:Hp}(q:Gd st=some h):st.T.get 2=some .bk/\st.T.get 10=some (.mp 1)/\st.h=h:=by
 unfold Gd at q;split at q<;>try cases q
 rename_i h1 h2;exact⟨h1,h2,rfl⟩
theorem agD{st:St}{e:Ex}{h:Hp}(q:(match e with|.normal=>rk k0 cB st kA|_=>none)=some h):e=.normal/\rk k0 cB st kA=some h:=by
 split at q
 .exact⟨rfl,q⟩
 .cases q
theorem adX:jv pP 83 ⟨1,wS,1,wO,UQ⟩:=by
 refine⟨⟨Tryz.f83,cC,Tryz.func83,by kernel_rfl,by kernel_rfl⟩,?_⟩;rintro⟨a,b,M,u⟩ oo ho st e st' hput hs X vs args hX H hr hv R;obtain⟨hok,ho⟩:=nB ho;have hlM:M.length<=1000000:=of_decide_eq_true hok
 replace ho:some (M,(a,(b,(M,()))))=some oo:=ho
 obtain rfl:=Option.some.inj ho;have e1:st=⟨.node (some (.ptr 0 0)) .nil .nil,nD a b M⟩:=by
  have:Lay.put 1 wS (a,(b,(M,u)))=some ⟨.node (some (.ptr 0 0)) .nil .nil,nD a b M⟩:=by kernel_rfl
  exact Option.some.inj (hput.symm.trans this)
 subst e1;have e2:(e,st')=(.ret,⟨.node (some (.fz aA M)) .nil .nil,nD a b M⟩):=by
  have:kz 1 wO (M,(a,(b,(M,()))))=some (.ret,⟨.node (some (.fz aA M)) .nil .nil,nD a b M⟩):=by kernel_rfl
  exact Option.some.inj (hs.symm.trans this)
 cases e2;have hv':some [AV.ptr 0 0]=some vs:=hv;cases hv';have hXh:X.h=nD a b M:=hX;have hT:kX 26 [AV.ptr 0 0] 0 .nil=some TA:=by kernel_rfl
 refine calls_of_wp (c:=cC) Tryz.func83 (by kernel_rfl) ?_;have S0:=uc H hT R;rw[hXh]at S0;rw[shC];obtain⟨ex,st1,q1,Tk1⟩:=AZ k0 (c:=cA) (by kernel_rfl) (eqA a b M);obtain⟨rfl,q1⟩:=agD q1;obtain⟨ex,st2,q2,Tk2⟩:=AZ k0 (c:=cB) (by kernel_rfl) q1;obtain⟨rfl,q2⟩:=agC q2;obtain⟨st3,q3,step3⟩:=vA k0 (o3.toList.take 4) 0 _ _ _ q2 t3;obtain⟨g2,g10,gh⟩:=afq q3;refine wp_seq (Tk1 X _ H S0 _ ?_);intro X1 a1 R1 E1;refine wp_seq (Tk2 X1 a1 R1.H R1 _ ?_);intro X2 a2 R2 E2;refine wp_seq (wp_seq (wp_region ?_));rw[r3,<-l3];refine step3 X2 a2 R2 1 _ ?_;intro Y ay RY EY;rw[l3];have EXY:aO X Y:=(E1.trans E2).trans EY;have hYh:Y.h=nD a b M:=RY.h.trans gh;obtain⟨V0,r0,rfl,⟨x,c,hs0,rfl⟩,hr0⟩:=R;have:r0=[]:=hr0;subst this;have hs0Y:Y.s 0=some (.at x c):=EXY.sg 0 _ hs0;obtain⟨V2,v1,v2⟩:=RY.T.get 2 _ g2;have v2:V2=.slice none 0 0:=v2;subst v2;have hev10:=sH RY.T (c:=.tmp 10) (v:=.mp 1) g10;obtain⟨bm,c1,hs1Y,hev⟩:=hev10;have ho0:=RY.H.obj 0 _ _ (by rw[hYh];exact(UA a b M 0).trans (if_pos rfl)) hs0Y;have ho1:=RY.H.obj 1 _ _ (by rw[hYh];exact((UA a b M 1).trans (if_neg (by decide))).trans (if_pos rfl)) hs1Y;obtain⟨bx,cx,cs0,ebx,hbx,_⟩:=ho0;cases ebx;obtain⟨bm',cm,es,clk,ebm,hbm,N0,hperm,hents,hsort,hst,hnd⟩:=ho1;cases ebm;obtain⟨hdat1,hdat2⟩:=T5 hents;have hxlt:x<Y.w.heap.size:=fN hbx;have hblt:bm<Y.w.heap.size:=fN hbm;obtain⟨o,hoo,hg,hd,hop⟩:=aoi;refine AY hoo hg (aeI hop hev (run_range_map Y.w _ _ _ bm es clk Tryz.underlying218 hbm)) ?_;rw[hd]
 let it:=Y.w.heap.size
 let A3:Nat->Prop:=fun z=>Y.A z\/z=x\/z=bm\/z=it
 let w3:World:=Y.w.alloc (.mapIter (some bm) clk #[] clk)
 let W:Cx:=⟨fun i=>if i=0 then some (.at it 0)else if i=1 then some .nil else none,hL [],w3,A3⟩
 have hsz3:w3.heap.size=Y.w.heap.size+1:=by show(Y.w.heap.push _).size=_;rw[Array.size_push]
 have hold3:∀z,z<Y.w.heap.size->w3.heap[z]?=Y.w.heap[z]?:=fun z hz=>heap_alloc_old Y.w _ hz;have hnimg:∀z,¬W.bO z:=by
  rintro z ⟨i,o2,l2,p1,p2,p3⟩;have p1:(hL []).tr.get i=some o2:=p1;rw[mT]at p1;by_cases hi:i=1
  .subst hi;have p2:some Loc.nil=some l2:=p2;cases p2;exact p3
  .rw[if_neg hi]at p1;cases p1
 have HW:aF W:=by
  refine⟨?_,?_,?_,?_,?_,?_⟩
  .intro i o2 l2 p1 p2;have p1:(hL []).tr.get i=some o2:=p1;rw[mT]at p1;by_cases hi:i=1
   .subst hi;rw[if_pos rfl]at p1;cases p1;have p2:some Loc.nil=some l2:=p2;cases p2;exact(rfl:([]:List dm)=[])
   .rw[if_neg hi]at p1;cases p1
  .intro i i' o2 o3 l2 l3 z p1 p1' p2 _ p3 _;exact absurd ⟨i,o2,l2,p1,p2,p3⟩ (hnimg z)
  .intro i o2 p1;have p1:(hL []).tr.get i=some o2:=p1;rw[mT]at p1;by_cases hi:i=1
   .subst hi;show 1<2;omega
   .rw[if_neg hi]at p1;cases p1
  .intro i l2 q;show i<2;rcases i with _|_|i
   .omega
   .omega
   .have q:(if i+1+1=0 then some (Loc.at it 0)else if i+1+1=1 then some .nil else none)=some l2:=q;rw[if_neg (by omega),if_neg (by omega)]at q;cases q
  .intro z hz;show z<w3.heap.size;rw[hsz3];rcases hz with hz|rfl|rfl|rfl
   .have:=RY.H.alt z hz;omega
   .omega
   .omega
   .show Y.w.heap.size<_;omega
  .intro i o2 l2 z p1 p2 p3;exact absurd ⟨i,o2,l2,p1,p2,p3⟩ (hnimg z)
 have hput:∀t,t≠11->∀v,(ay.put (some 11) v).tmps[t]?=ay.tmps[t]?:=by intro t ht v;unfold Act.put;simp only[];rw[Array.getElem?_setIfInBounds,if_neg (fun q=>ht q.symm)]
 have LI0:LI Y x bm it clk es [] #[] W (ay.put (some 11) (.pointer (some ⟨it,0,none⟩))):=by
  refine⟨⟨rfl,⟨?_,RY.T.defers,?_⟩,HW⟩,rfl,rfl,rfl,rfl,rfl,hold3,?_,fun z hz=>absurd hz (hnimg z),?_⟩
  .have:=RY.T.size;unfold Act.put;simp only[];rw[Array.size_setIfInBounds];exact this
  .intro t v ht;rcases Ur t v ht with⟨rfl,rfl⟩|⟨rfl,rfl⟩
   .refine⟨.slice none 0 0,(hput 2 (by decide) _).trans v1,.nil,rfl,rfl,?_⟩;intro n hn;have hn:rowOf (hL []).tr 1=some n:=hn;have hn2:=(gF ((mT [] 1).trans (if_pos rfl))).symm.trans hn;rw[<-Option.some.inj hn2];rfl
   .refine⟨.pointer (some ⟨it,0,none⟩),?_,it,0,rfl,rfl⟩;unfold Act.put;simp only[];rw[Array.getElem?_setIfInBounds,if_pos rfl,if_pos (by rw[RY.T.size];decide)]
  .exact heap_alloc_new Y.w _
  .rw[afm]
 have hkey:((es.toList.map cR).map (fun p=>p.1)).Nodup:=by rw[hdat1];refine((hperm.map _).nodup_iff).2 ?_;exact Ug hsort
 have hesl:es.size<=1000000:=by
  have h1:(es.toList.map cR).length=M.length:=by rw[hdat1];exact hperm.length_eq
  rw[aI,Array.length_toList]at h1;omega
 show Code.wp pP (.block 0 (.loop qw)) _ _ w3;refine wp_block (wp_loop_rounds (es.size+1) ?_);refine aeK (X₂:=Y) (x:=x) hbm rfl hst hnd hdat2 hesl hkey ?_ (es.size+1) [] #[] W _ LI0 ?_
 .intro N Z stz az hN LZ hend;obtain⟨ex,st5,k5,Tk5⟩:=AZ (kB pj k0) (c:=tu) (by kernel_rfl) hend;obtain⟨rfl,j,τ,hres,hj⟩:=agE k5;show Code.wp pP tu _ az Z.w;refine Tk5 Z az LZ.rf.H LZ.rf _ ?_;intro Z' az' RZ' EZ;have hM:gO N=M:=by
   have h1:N.Perm M:=by rw[hdat1]at hN;exact hN.trans hperm
   have hkM:(M.map (fun p=>p.1)).Nodup:=Ug hsort;exact Ul hkM ((IY N).trans h1) (List.Perm.refl M) (Uk N) (hsort.imp (fun h=>Int.le_of_lt h))
  rw[hM]at hj;obtain⟨Vs,hrun,hrel⟩:=FF RZ' hres;obtain⟨V,r,rfl,⟨l,hl,hone,hsl⟩,hr2⟩:=hrel;have:r=[]:=hr2;subst this;have hj':Z'.h.tr.get j=some (.arr aA M pc):=by rw[RZ'.h];exact hj
  have hV:=hsl _ (gF hj');have himg:∀z,Z'.bO z->it<z:=by
   intro z q;rcases EZ.bO z q with q|q
   .exact LZ.bO z q
   .have:=LZ.cE;omega
  have hold:∀z,z<Y.w.heap.size->Z'.w.heap[z]?=Y.w.heap[z]?:=by intro z hz;refine(EZ.frame z (by have:=LZ.cE;omega) (fun q=>by have:=LZ.bO z q;omega)).trans (LZ.old z hz)
  have hsize:Y.w.heap.size<=Z'.w.heap.size:=by have:=EZ.size;have:=LZ.cE;omega
  let X':Cx:=⟨Y.s,nD a b M,Z'.w,Y.A⟩
  have himgX:∀z,X'.bO z↔Y.bO z:=by
   intro z;constructor
   .rintro⟨i,o2,l2,p1,p2,p3⟩;exact⟨i,o2,l2,by rw[hYh];exact p1,p2,p3⟩
   .rintro⟨i,o2,l2,p1,p2,p3⟩;exact⟨i,o2,l2,by rw[hYh]at p1;exact p1,p2,p3⟩
  have RX:gl Y X':=by
   refine⟨fun _ _ h=>h,?_,?_⟩
   .intro z ob p1 p2;refine⟨(hold z (fN p2)).trans p2,?_⟩;rintro(q|q)
    .exact p1 (.inl q)
    .exact p1 (.inr ((himgX z).1 q))
   .intro i l2 n _ q;rw[hYh];exact q
  have HX':aF X':=by
   refine⟨?_,?_,?_,?_,?_,?_⟩
   .intro i o2 l2 p1 p2;have p1':Y.h.tr.get i=some o2:=by rw[hYh];exact p1
    exact(RY.H.obj i o2 l2 p1' p2).ext RX (fun z hz=>hold z (RY.H.jj p1' p2 hz))
   .intro i i' o2 o3 l2 l3 z p1 p1';exact RY.H.inj i i' o2 o3 l2 l3 z (by rw[hYh];exact p1) (by rw[hYh];exact p1')
   .intro i o2 p1;have:=RY.H.lt i o2 (by rw[hYh];exact p1);rw[hYh]at this;exact this
   .intro i l2 p1;have:=RY.H.di i l2 p1;rw[hYh]at this;exact this
   .intro z hz;exact iS (RY.H.alt z hz) hsize
   .intro i o2 l2 z p1;exact RY.H.loc i o2 l2 z (by rw[hYh];exact p1)
  have EYX:aO Y X':=by
   refine⟨EZ.os.trans LZ.os,EZ.tape.trans LZ.tape,EZ.output.trans LZ.out,hsize,fun _ _ h=>h,fun _ _ _ h=>h,by rw[hYh];exact aS _,fun z hz _=>hold z hz,fun z hz=>.inl ((himgX z).1 hz),?_,?_,rfl⟩
   .intro i n _ q;rw[hYh];exact q
   .intro i _ _;rw[hYh]
  refine⟨RZ'.T.defers,V,hrun,X',[V],rfl,rfl,rfl,HX',EXY.trans EYX,?_⟩;intro us hus;have hus:some [AV.fz aA M]=some us:=hus;cases hus;refine⟨V,[],rfl,?_,rfl⟩;have ob:=RZ'.H.obj j _ l hj' hl;show Cs Z'.w X'.out (.sl aA) M [V];have hV:V=l.slice M.length:=hV;cases l with
  |nil=>have hMn:M=[]:=ob;subst hMn;exact⟨none,0,0,by rw[hV];rfl,rfl,aS _,fun q=>absurd rfl q⟩|cE bb cc mm=>exact(ob:False).elim|«at» bb cc=>
   obtain⟨cs,tail,p1,p2,p3,p4⟩:=ob;have hbb:it<bb:=himg bb ⟨j,_,_,hj',hl,rfl⟩;refine⟨some ⟨bb,0,none⟩,M.length,cc,by rw[hV];rfl,rfl,p4,fun _=>⟨bb,0,cs,rfl,?_,se.2 (se.1 p2),⟨_,_,_,p1,?_⟩⟩⟩
   .rintro(q|q)
    .have:=RY.H.alt bb q;omega
    .have:=RY.H.vX ((himgX bb).1 q);omega
   .intro i u hu;rw[Nat.zero_add,List.getElem?_toArray,List.getElem?_append_left (by
     rcases de i cs.length with q|q
     .exact q
     .rw[ep q]at hu;cases hu)]
    exact hu
 .refine Nat.lt_succ_of_le ?_;unfold leftOf;exact Array.size_filter_le
def HQ:N2:=⟨UQ,adX⟩
def HA:N1:=HQ.F
abbrev aaT:Lay:={ T:=[(0,.agg jf),(1,.agg [.fz .bool,.fz (.sl aA)])],h:=[],nx:=0 }
abbrev pT:List LA:=[.int .i64,.fz (.int .i64),.fz ae,.fz (.int .i64),.fz (.int .i64),.fz (.int .i64),.fz ab,.fz ae,.fz aq,.hd 1 .bool,.dW 2]
abbrev xt:List (Nat×LO):=[(0,.cells pT 145),(1,.arr .bool 4),(2,.dL 220),(3,.cells [.hd 4 .bool,.bool] 55),(4,.arr .bool 4),(5,.arr .bool 4)]
abbrev tJ:List (Nat×LO):=[(0,.cells pT 145),(1,.arr .bool 4),(2,.dL 220),(3,.cells [.hd 4 .bool] 37),(4,.arr .bool 4)]
abbrev tK:List (Nat×LO):=[(0,.cells pT 145),(1,.arr .bool 4),(2,.dL 220),(3,.arr .bool 4)]
abbrev DS:List (Nat×LO):=[(0,.cells pT 145),(1,.arr .bool 4),(2,.dL 220)]
abbrev ab1:List (Nat×LO):=[(0,.cells pT 145),(1,.arr .bool 4),(2,.dL 220),(3,.cells [.hd 4 .bool,.hd 5 (.sl aA)] 40),(4,.arr .bool 4),(5,.arr (.sl aA) 104)]
abbrev ab2:List (Nat×LO):=[(0,.cells pT 145),(1,.arr .bool 4),(2,.dL 220),(3,.cells [.bk,.bool] 55),(4,.arr .bool 4)]
abbrev Dl:List (Ev.Ex×Lay):=[(.ret,{ T:=[(0,.ed),(1,.int .i64)],h:=[],nx:=0 }),(.ret,{ T:=[(0,.ptr 0 0),(1,.int .i64)],h:=DS,nx:=3 })]
abbrev abb:=TL aaT.σs->Option (Out Dl)
abbrev NQ:=Kb 31 2 aaT 2 Dl
def anN(F0:aaY)(F1:aaK)(F2:sT)(F3:wC)(F4:wz)(F5:Nb)(eX:Int)(jh:List Int)(iV:List (Sh.T ae))(jL jM jN:List Int)(fA:List (Sh.T ab))(iW:List (Sh.T ae))(fW:List Bool)(fT:List (List (Sh.T aA))):Option (Out Dl):=
 ao (F2 ((eX,(jh,(iV,(jL,(jM,(jN,(fA,(iW,())))))))),())) fun x0=>
 br (Bool.not (iQ x0.1 (0:Int)))
 (
  some (.inl (x0.1,())))
 (
  ao (F5 (eX,(jh,(iV,(jL,(jM,(jN,(fA,(iW,(fW,(fT,()))))))))))) fun x1=>
  br (Bool.not (iQ x1.1 (0:Int)))
  (
   some (.inl (x1.1,())))
  (
   ao (F1 ((eX,(jh,(iV,(jL,(jM,(jN,(fA,(iW,())))))))),())) fun x2=>
   ao (F0 ((eX,(jh,(iV,(jL,(jM,(jN,(fA,(iW,())))))))),())) fun x3=>
   ao (F4 (fW,())) fun x4=>
   ai (fp (Sh.beq aq) x2.1 x2.1)<|
   some (.inr ((0:Int),(x3.1.1,(x3.1.2.1,(x3.1.2.2.1,(x3.1.2.2.2.1,(x3.1.2.2.2.2.1,(x3.1.2.2.2.2.2.1,(x3.1.2.2.2.2.2.2.1,(x3.1.2.2.2.2.2.2.2.1,(x2.1,(x4.1,(x1.2.1,())))))))))))))))
def anM(c0:NI)(c1:NA)(c2:qN)(c3:wE)(c4:wA)(c5:C5) :NQ:=⟨kU (anN c0.F c1.F c2.F c3.F c4.F c5.F),pB Tryz.func31 39 (kD c0 (kD c1 (kD c2 (kB c3 (kB c4 (kB c5 k0)))))) e0 1 (sS l0) fun d=>by kernel_rfl⟩
def abc:NQ:=anM aaZ aaL sU wD sO Nc
def amM:abb:=abc.F
abbrev ZA:Lay:={ T:=[(0,.ptr 0 0),(1,.fz .bool)],h:=DS,nx:=3 }
abbrev LL:List (Ev.Ex×Lay):=[(.ret,{ T:=[(0,.hd 3 .bool),(1,.int .i64)],h:=tK,nx:=4 })]
abbrev Da:=TL ZA.σs->Option (Out LL)
abbrev wJ:=Kb 32 2 ZA 2 LL
abbrev Ch:Lay:={ T:=[(0,.ptr 0 0),(6,.ptr 3 0),(11,.func 79 [] [.ptr 3 0]),(84,.fz aq),(85,.int .i64),(86,.int .i64)],h:=tJ,nx:=5 }
abbrev Ce:List (Ev.Ex×Lay):=[((.exit 4),{ T:=[(6,.ptr 3 0)],h:=tJ,nx:=5 })]
abbrev ZB:=TL Ch.σs->Option (Out Ce)
abbrev Mb:=Ld 3 155 (bI [2] (bh Tryz.f32)) Ch Ce
abbrev Ci:Lay:={ T:=[(0,.ptr 0 0),(6,.ptr 3 0),(60,.hd 1 .bool),(61,.int .i64),(62,.int .i64)],h:=tJ,nx:=5 }
abbrev Cf:List (Ev.Ex×Lay):=[((.exit 2),{ T:=[(0,.ptr 0 0),(6,.ptr 3 0)],h:=tJ,nx:=5 })]
abbrev ZC:=TL Ci.σs->Option (Out Cf)
abbrev ZD:=Ld 3 155 (bI [1] (bh Tryz.f32)) Ci Cf
abbrev Cl:Lay:={ T:=[(0,.ptr 0 0),(6,.ptr 3 0),(38,.fz .bool),(39,.int .i64),(40,.int .i64)],h:=tJ,nx:=5 }
abbrev Cg:List (Ev.Ex×Lay):=[((.exit 0),{ T:=[(0,.ptr 0 0),(6,.ptr 3 0)],h:=tJ,nx:=5 })]
abbrev ZM:=TL Cl.σs->Option (Out Cg)
abbrev ZN:=Ld 3 155 (bI [0] (bh Tryz.f32)) Cl Cg
def CF(t38:List Bool)(t39 t40 aw:Int)(aG:List Int)(aT:List (Sh.T ae))(aP aW ba:List Int)(aD:List (Sh.T ab))(aM:List (Sh.T ae))(dZ:List (Sh.T aq))(b1:List Bool)(b2:List (Sh.T (.agg [(.int .i64),(.int .i64),(.sl aA)])))(b4:List Bool):Option (TL Cl.σs⊕Out Cg):=
 br (iL t40 t39)
 (
  ai (av t40 (List.length t38))<|
  ai (av t40 (List.length aG))<|
  ai (av (gt (.int .i64) aG t40) (List.length b4))<|
  some (.inl (t38,(t39,((IntKind.wrap .i64 (t40+(1:Int))),(aw,(aG,(aT,(aP,(aW,(ba,(aD,(aM,(dZ,(b1,(b2,((List.set b4 (Int.toNat (gt (.int .i64) aG t40)) (gt .bool t38 t40)),())))))))))))))))))
 (
  some (.inr (aw,(aG,(aT,(aP,(aW,(ba,(aD,(aM,(dZ,(b1,(b2,(b4,()))))))))))))))
def al2  :ZN:=bN (fB CF) (pL k0 (eC Tryz.func79 (by kernel_rfl) e0) 5 l0 fun d=>by kernel_rfl)
def Mm:ZM:=aX (fB CF) NN
def Cy(t61 t62 aw:Int)(aG:List Int)(aT:List (Sh.T ae))(aP aW ba:List Int)(aD:List (Sh.T ab))(aM:List (Sh.T ae))(dZ:List (Sh.T aq))(b1:List Bool)(b2:List (Sh.T (.agg [(.int .i64),(.int .i64),(.sl aA)])))(b4:List Bool):Option (TL Ci.σs⊕Out Cf):=
 br (iL t62 t61)
 (
  ai (av t62 (List.length b1))<|
  ai (av t62 (List.length aT))<|
  ai (av (gt ae aT t62).1 (List.length b4))<|
  some (.inl (t61,((IntKind.wrap .i64 (t62+(1:Int))),(aw,(aG,(aT,(aP,(aW,(ba,(aD,(aM,(dZ,(b1,(b2,((List.set b4 (Int.toNat (gt ae aT t62).1) (gt .bool b1 t62)),()))))))))))))))))
 (
  some (.inr (aw,(aG,(aT,(aP,(aW,(ba,(aD,(aM,(dZ,(b1,(b2,(b4,()))))))))))))))
def alS  :ZD:=bN (i7 Cy) (pL k0 (eC Tryz.func79 (by kernel_rfl) e0) 5 l0 fun d=>by kernel_rfl)
def Ma:ZC:=aX (i7 Cy) NN
def Cw(F0:mX)(F1:tb)(F2:wK)(F3:s9)(t84:List (Sh.T aq))(t85 t86 aw:Int)(aG:List Int)(aT:List (Sh.T ae))(aP aW ba:List Int)(aD:List (Sh.T ab))(aM:List (Sh.T ae))(dZ:List (Sh.T aq))(b1:List Bool)(b2:List (Sh.T (.agg [(.int .i64),(.int .i64),(.sl aA)])))(b4:List Bool):Option (TL Ch.σs⊕Out Ce):=
 br (iL t86 t85)
 (
  ai (av t86 (List.length t84))<|
  br (Bool.not (gt aq t84 t86).1)
  (
   ai (av (gt aq t84 t86).2.2.1 (List.length aM))<|
   ao (F0 ((gt ae aM (gt aq t84 t86).2.2.1).2.1,(b4,()))) fun x0=>
   br x0.1
   (
    ai (iQ (gt ae aM (gt aq t84 t86).2.2.1).1 (gt ae aM (gt aq t84 t86).2.2.1).1)<|
    ao (F0 ((gt ae aM (gt aq t84 t86).2.2.1).2.2.1,(b4,()))) fun x1=>
    ai (av (gt ae aM (gt aq t84 t86).2.2.1).1 (List.length b4))<|
    ai (iQ (gt ae aM (gt aq t84 t86).2.2.1).1 (gt ae aM (gt aq t84 t86).2.2.1).1)<|
    some (.inl (t84,(t85,((IntKind.wrap .i64 (t86+(1:Int))),(aw,(aG,(aT,(aP,(aW,(ba,(aD,(aM,(dZ,(b1,(b2,((List.set b4 (Int.toNat (gt ae aM (gt aq t84 t86).2.2.1).1) (bn true x1.1 false)),())))))))))))))))))
   (
    ai (iQ (gt ae aM (gt aq t84 t86).2.2.1).1 (gt ae aM (gt aq t84 t86).2.2.1).1)<|
    ai (av (gt ae aM (gt aq t84 t86).2.2.1).1 (List.length b4))<|
    some (.inl (t84,(t85,((IntKind.wrap .i64 (t86+(1:Int))),(aw,(aG,(aT,(aP,(aW,(ba,(aD,(aM,(dZ,(b1,(b2,((List.set b4 (Int.toNat (gt ae aM (gt aq t84 t86).2.2.1).1) false),()))))))))))))))))))
  (
   ai (av (gt aq t84 t86).2.1 (List.length aD))<|
   ai (av (gt aq t84 t86).2.2.1 (List.length (gt ab aD (gt aq t84 t86).2.1).2.2.2.1))<|
   ai (av (gt aq t84 t86).2.1 (List.length b2))<|
   ao (F2 ((gt bg (gt ab aD (gt aq t84 t86).2.1).2.2.2.1 (gt aq t84 t86).2.2.1).2.1,(b4,()))) fun x0=>
   ao (F3 (x0.1,((List.getD b2 (Int.toNat (gt aq t84 t86).2.1) (zR)).1,((List.getD b2 (Int.toNat (gt aq t84 t86).2.1) (zR)).2.1,((List.getD b2 (Int.toNat (gt aq t84 t86).2.1) (zR)).2.2.1,()))))) fun x1=>
   ai (both (iE (0:Int) (gt bg (gt ab aD (gt aq t84 t86).2.1).2.2.2.1 (gt aq t84 t86).2.2.1).1) (iE (gt bg (gt ab aD (gt aq t84 t86).2.1).2.2.2.1 (gt aq t84 t86).2.2.1).1 (Int.ofNat (List.length b4))))<|
   ao (F1 (x1.1,((gt ab aD (gt aq t84 t86).2.1).2.1,()))) fun x2=>
   some (.inl (t84,(t85,((IntKind.wrap .i64 (t86+(1:Int))),(aw,(aG,(aT,(aP,(aW,(ba,(aD,(aM,(dZ,(b1,((List.set b2 (Int.toNat (gt aq t84 t86).2.1) x1.2),((jZ b4 (Int.toNat (gt bg (gt ab aD (gt aq t84 t86).2.1).2.2.2.1 (gt aq t84 t86).2.2.1).1) (List.take (@HSub.hSub (Nat) (Nat) (Nat) _ (List.length b4) (Int.toNat (gt bg (gt ab aD (gt aq t84 t86).2.1).2.2.2.1 (gt aq t84 t86).2.2.1).1)) x2.1)),()))))))))))))))))))
 (
  some (.inr (aw,(aG,(aT,(aP,(aW,(ba,(aD,(aM,(dZ,(b1,(b2,(b4,()))))))))))))))
def alT(c0:mf)(c1:ta)(c2:sW)(c3:sX) :Mb:=bN (fB (Cw c0.F c1.F c2.F c3.F)) (pL (kD c0 (kD c1 (kD c2 (kB c3 k0)))) (eC Tryz.func79 (by kernel_rfl) e0) 5 l0 fun d=>by kernel_rfl)
def alR:Mb:=alT mY wU wL wN
def L0:ZB:=aX (fB (Cw kh qS qM rH)) NN
def Mt(F0:mX)(F1:tb)(F2:wK)(F3:s9)(L5:ZM)(L10:ZC)(L16:ZB)(t1:List Bool)(aw:Int)(aG:List Int)(aT:List (Sh.T ae))(aP aW ba:List Int)(aD:List (Sh.T ab))(aM:List (Sh.T ae))(dZ:List (Sh.T aq))(b1:List Bool)(b2:List (Sh.T (.agg [(.int .i64),(.int .i64),(.sl aA)]))):Option (Out LL):=
 br (bn false true (Bool.not (iQ (Int.ofNat (List.length t1)) (Int.ofNat (List.length aG)))))
 (
  some ((1:Int),(aw,(aG,(aT,(aP,(aW,(ba,(aD,(aM,(dZ,(b1,(b2,([],()))))))))))))))
 (
  ai (both (iE (0:Int) (IntKind.wrap .i64 (aw+(1:Int)))) (both (iE (IntKind.wrap .i64 (aw+(1:Int))) (IntKind.wrap .i64 (aw+(1:Int)))) (iE ((Int.ofNat 1)*(IntKind.wrap .i64 (aw+(1:Int)))) (281474976710656:Int))))<|
  ao (L5 (t1,((Int.ofNat (List.length t1)),((0:Int),(aw,(aG,(aT,(aP,(aW,(ba,(aD,(aM,(dZ,(b1,(b2,((List.replicate (Int.toNat (IntKind.wrap .i64 (aw+(1:Int)))) (Sh.zero .bool)),())))))))))))))))) fun x0=>
  ao (L10 ((Int.ofNat (List.length (fu x0))),((0:Int),x0))) fun x1=>
  ao (L16 (dX x1,((Int.ofNat (List.length (dX x1))),((0:Int),x1)))) fun x2=>
  some ((0:Int),x2))
def amc(c0:mf)(c1:ta)(c2:sW)(c3:sX)(M5:ZN)(M10:ZD)(M16:Mb):wJ:=⟨mO (Mt c0.F c1.F c2.F c3.F M5.L M10.L M16.L),pB Tryz.func32 155 (kD c0 (kD c1 (kD c2 (kB c3 k0)))) (eC Tryz.func79 (by kernel_rfl) e0) 5 (sS (sC M5 (sC M10 (sC M16 l0)))) fun d=>by kernel_rfl⟩
def Db:wJ:=amc mY wU wL wN al2 alS alR
def qQ:Da:=Db.F
abbrev ZL:Lay:={ T:=[(0,.ptr 0 0),(1,.int .i64),(2,.hd 3 .bool)],h:=tK,nx:=4 }
abbrev LY:List (Ev.Ex×Lay):=[(.ret,{ T:=[],h:=tK,nx:=4 })]
abbrev MD:=TL ZL.σs->Option (Out LY)
abbrev CO:=Kb 82 3 ZL 0 LY
abbrev Cv:Lay:={ T:=[(2,.hd 3 .bool),(6,.func 150 [.rp 2] []),(25,.fz aH),(26,.int .i64),(27,.int .i64)],h:=tK,nx:=4 }
abbrev Ck:List (Ev.Ex×Lay):=[((.exit 0),{ T:=[],h:=tK,nx:=4 })]
abbrev ZS:=TL Cv.σs->Option (Out Ck)
abbrev Mr:=Ld 4 46 (bI [0] (bh Tryz.f82)) Cv Ck
def CI(F0:wK)(F1:mX)(F2:LQ)(tH:Int)(t25:List (Sh.T aH))(t26 t27 aw:Int)(aG:List Int)(aT:List (Sh.T ae))(aP aW ba:List Int)(aD:List (Sh.T ab))(aM:List (Sh.T ae))(dZ:List (Sh.T aq))(b1:List Bool)(b2:List (Sh.T (.agg [(.int .i64),(.int .i64),(.sl aA)])))(b3:List Bool):Option (TL Cv.σs⊕Out Ck):=
 br (iL t27 t26)
 (
  ai (av t27 (List.length t25))<|
  ao (F1 ((gt aH t25 t27).1,(b3,()))) fun x0=>
  br x0.1
  (
   ao (F0 ((gt aH t25 t27).2.1,(b3,()))) fun x1=>
   ao (F0 ((gt aH t25 t27).2.2.1,(b3,()))) fun x2=>
   ao (F2 (x1.1,(x2.1,((List.getD b2 (Int.toNat tH) (zR)).1,((List.getD b2 (Int.toNat tH) (zR)).2.1,((List.getD b2 (Int.toNat tH) (zR)).2.2.1,())))))) fun x3=>
   some (.inl ((Int.ofNat (Int.toNat tH)),(t25,(t26,((IntKind.wrap .i64 (t27+(1:Int))),(aw,(aG,(aT,(aP,(aW,(ba,(aD,(aM,(dZ,(b1,((List.set b2 (Int.toNat tH) x3.2),(b3,()))))))))))))))))))
  (
   some (.inl ((Int.ofNat (Int.toNat tH)),(t25,(t26,((IntKind.wrap .i64 (t27+(1:Int))),(aw,(aG,(aT,(aP,(aW,(ba,(aD,(aM,(dZ,(b1,(b2,(b3,())))))))))))))))))))
 (
  some (.inr (aw,(aG,(aT,(aP,(aW,(ba,(aD,(aM,(dZ,(b1,(b2,(b3,()))))))))))))))
def amb(c0:sW)(c1:mf)(c2:Cj) :Mr:=bN (u16 (CI c0.F c1.F c2.F)) (pL (kD c0 (kD c1 (kB c2 k0))) e0 1 l0 fun d=>by kernel_rfl)
def ama:Mr:=amb wL mY LR
def Mq:ZS:=aX (u16 (CI qM kh Qs)) NN
def amq(F0:wK)(F1:mX)(F2:LQ)(L2:ZS)(t1 aw:Int)(aG:List Int)(aT:List (Sh.T ae))(aP aW ba:List Int)(aD:List (Sh.T ab))(aM:List (Sh.T ae))(dZ:List (Sh.T aq))(b1:List Bool)(b2:List (Sh.T (.agg [(.int .i64),(.int .i64),(.sl aA)])))(b3:List Bool):Option (Out LY):=
 ai (av t1 (List.length b2))<|
 ai (av t1 (List.length aD))<|
 ao (L2 ((Int.ofNat (Int.toNat t1)),((gt ab aD t1).2.2.2.2.1,((Int.ofNat (List.length (gt ab aD t1).2.2.2.2.1)),((0:Int),(aw,(aG,(aT,(aP,(aW,(ba,(aD,(aM,(dZ,(b1,(b2,(b3,()))))))))))))))))) fun x0=>
 some x0
def amp(c0:sW)(c1:mf)(c2:Cj)(M2:Mr):CO:=⟨ot (amq c0.F c1.F c2.F M2.L),pB Tryz.func82 46 (kD c0 (kD c1 (kB c2 k0))) e0 1 (sS (sC M2 l0)) fun d=>by kernel_rfl⟩
def ME:CO:=amp wL mY LR ama
def ZT:MD:=ME.F
abbrev ZU:Lay:={ T:=[(0,.ptr 0 0),(1,.fz .bool)],h:=DS,nx:=3 }
abbrev Mn:List (Ev.Ex×Lay):=[(.ret,{ T:=[(0,.agg [.hd 3 .bool,.bool]),(1,.int .i64)],h:=tK,nx:=4 })]
abbrev MM:=TL ZU.σs->Option (Out Mn)
abbrev CT:=Kb 34 2 ZU 2 Mn
abbrev CA:Lay:={ T:=[(0,.ptr 0 0),(4,.ptr 3 0),(6,.hd 5 .bool),(89,.int .i64),(90,.int .i64)],h:=xt,nx:=6 }
abbrev Cm:List (Ev.Ex×Lay):=[((.exit 6),{ T:=[(4,.ptr 3 0)],h:=[(0,.cells pT 145),(1,.arr .bool 4),(2,.dL 220),(3,.cells [.hd 4 .bool,.bool] 55),(4,.arr .bool 4)],nx:=5 })]
abbrev ZV:=TL CA.σs->Option (Out Cm)
abbrev Mu:=Ld 3 99 (bI [3] (bh Tryz.f34)) CA Cm
abbrev CB:Lay:={ T:=[(0,.ptr 0 0),(4,.ptr 3 0),(6,.hd 5 .bool),(67,.fz ae),(68,.int .i64),(69,.int .i64)],h:=xt,nx:=6 }
abbrev Cn:List (Ev.Ex×Lay):=[((.exit 4),{ T:=[(0,.ptr 0 0),(4,.ptr 3 0),(6,.hd 5 .bool)],h:=xt,nx:=6 })]
abbrev ZW:=TL CB.σs->Option (Out Cn)
abbrev Mv:=Ld 3 99 (bI [2] (bh Tryz.f34)) CB Cn
abbrev CC:Lay:={ T:=[(0,.ptr 0 0),(4,.ptr 3 0),(6,.hd 5 .bool),(48,.fz (.int .i64)),(49,.int .i64),(50,.int .i64)],h:=xt,nx:=6 }
abbrev Co:List (Ev.Ex×Lay):=[((.exit 2),{ T:=[(0,.ptr 0 0),(4,.ptr 3 0),(6,.hd 5 .bool)],h:=xt,nx:=6 })]
abbrev ZX:=TL CC.σs->Option (Out Co)
abbrev Mw:=Ld 3 99 (bI [1] (bh Tryz.f34)) CC Co
abbrev CG:Lay:={ T:=[(0,.ptr 0 0),(4,.ptr 3 0),(6,.hd 4 .bool),(29,.fz (.int .i64)),(30,.int .i64),(31,.int .i64)],h:=ab2,nx:=5 }
abbrev Cz:List (Ev.Ex×Lay):=[((.exit 0),{ T:=[(0,.ptr 0 0),(4,.ptr 3 0),(6,.hd 4 .bool)],h:=ab2,nx:=5 })]
abbrev Z8:=TL CG.σs->Option (Out Cz)
abbrev MF:=Ld 3 99 (bI [0] (bh Tryz.f34)) CG Cz
def CP(F0:mX)(t29:List Int)(t30 t31 aw:Int)(aG:List Int)(aT:List (Sh.T ae))(aP aW ba:List Int)(aD:List (Sh.T ab))(aM:List (Sh.T ae))(dZ:List (Sh.T aq))(b1:List Bool)(b2:List (Sh.T (.agg [(.int .i64),(.int .i64),(.sl aA)])))(fg:Bool)(b4:List Bool):Option (TL CG.σs⊕Out Cz):=
 br (iL t31 t30)
 (
  ai (av t31 (List.length t29))<|
  br fg
  (
   ao (F0 ((gt (.int .i64) t29 t31),(b4,()))) fun x0=>
   some (.inl (t29,(t30,((IntKind.wrap .i64 (t31+(1:Int))),(aw,(aG,(aT,(aP,(aW,(ba,(aD,(aM,(dZ,(b1,(b2,((bn true x0.1 false),(b4,()))))))))))))))))))
  (
   some (.inl (t29,(t30,((IntKind.wrap .i64 (t31+(1:Int))),(aw,(aG,(aT,(aP,(aW,(ba,(aD,(aM,(dZ,(b1,(b2,(false,(b4,())))))))))))))))))))
 (
  some (.inr (aw,(aG,(aT,(aP,(aW,(ba,(aD,(aM,(dZ,(b1,(b2,(fg,(b4,())))))))))))))))
def ams(c0:mf) :MF:=bN (u16 (CP c0.F)) (pL (kD c0 k0) e0 1 l0 fun d=>by kernel_rfl)
def amr:MF:=ams mY
def Z9:Z8:=aX (u16 (CP kh)) NN
def CL(F0:mX)(t48:List Int)(t49 t50 aw:Int)(aG:List Int)(aT:List (Sh.T ae))(aP aW ba:List Int)(aD:List (Sh.T ab))(aM:List (Sh.T ae))(dZ:List (Sh.T aq))(b1:List Bool)(b2:List (Sh.T (.agg [(.int .i64),(.int .i64),(.sl aA)])))(fg:Bool)(b4 b5:List Bool):Option (TL CC.σs⊕Out Co):=
 br (iL t50 t49)
 (
  ai (av t50 (List.length t48))<|
  ao (F0 ((gt (.int .i64) t48 t50),(b5,()))) fun x0=>
  ai (room 1 (List.length (ap b4 (x0.1::[]))))<|
  some (.inl (t48,(t49,((IntKind.wrap .i64 (t50+(1:Int))),(aw,(aG,(aT,(aP,(aW,(ba,(aD,(aM,(dZ,(b1,(b2,(fg,((ap b4 (x0.1::[])),(b5,())))))))))))))))))))
 (
  some (.inr (aw,(aG,(aT,(aP,(aW,(ba,(aD,(aM,(dZ,(b1,(b2,(fg,(b4,(b5,()))))))))))))))))
def ami(c0:mf) :Mw:=bN (ka (CL c0.F)) (pL (kD c0 k0) e0 1 l0 fun d=>by kernel_rfl)
def amf:Mw:=ami mY
def Z0:ZX:=aX (ka (CL kh)) NN
def CK(F0:mX)(t67:List (Sh.T ae))(t68 t69 aw:Int)(aG:List Int)(aT:List (Sh.T ae))(aP aW ba:List Int)(aD:List (Sh.T ab))(aM:List (Sh.T ae))(dZ:List (Sh.T aq))(b1:List Bool)(b2:List (Sh.T (.agg [(.int .i64),(.int .i64),(.sl aA)])))(fg:Bool)(b4 b5:List Bool):Option (TL CB.σs⊕Out Cn):=
 br (iL t69 t68)
 (
  ai (av t69 (List.length t67))<|
  ao (F0 ((gt ae t67 t69).2.1,(b5,()))) fun x0=>
  ai (av t69 (List.length b1))<|
  some (.inl (t67,(t68,((IntKind.wrap .i64 (t69+(1:Int))),(aw,(aG,(aT,(aP,(aW,(ba,(aD,(aM,(dZ,((List.set b1 (Int.toNat t69) x0.1),(b2,(fg,(b4,(b5,())))))))))))))))))))
 (
  some (.inr (aw,(aG,(aT,(aP,(aW,(ba,(aD,(aM,(dZ,(b1,(b2,(fg,(b4,(b5,()))))))))))))))))
def amh(c0:mf) :Mv:=bN (ka (CK c0.F)) (pL (kD c0 k0) e0 1 l0 fun d=>by kernel_rfl)
def ame:Mv:=amh mY
def ZZ:ZW:=aX (ka (CK kh)) NN
def CJ(F1:MD)(t89 t90 aw:Int)(aG:List Int)(aT:List (Sh.T ae))(aP aW ba:List Int)(aD:List (Sh.T ab))(aM:List (Sh.T ae))(dZ:List (Sh.T aq))(b1:List Bool)(b2:List (Sh.T (.agg [(.int .i64),(.int .i64),(.sl aA)])))(fg:Bool)(b4 b5:List Bool):Option (TL CA.σs⊕Out Cm):=
 br (iL t90 t89)
 (
  ao (F1 (t90,(aw,(aG,(aT,(aP,(aW,(ba,(aD,(aM,(dZ,(b1,(b2,(b5,())))))))))))))) fun x0=>
  some (.inl (t89,((IntKind.wrap .i64 (t90+(1:Int))),(x0.1,(x0.2.1,(x0.2.2.1,(cJ x0,(cK x0,(cT x0,(cO x0,(dt x0,(dX x0,(fu x0,(dD x0,(fg,(b4,(jg x0,()))))))))))))))))))
 (
  some (.inr (aw,(aG,(aT,(aP,(aW,(ba,(aD,(aM,(dZ,(b1,(b2,(fg,(b4,())))))))))))))))
def amg(c1:CO) :Mu:=bN (u16 (CJ c1.F)) (pL (kB c1 k0) e0 1 l0 fun d=>by kernel_rfl)
def amd:Mu:=amg ME
def ZY:ZV:=aX (u16 (CJ ZT)) NN
def amB(F0:mX)(F1:MD)(F2:Da)(L6:Z8)(L11:ZX)(L16:ZW)(L21:ZV)(t1:List Bool)(aw:Int)(aG:List Int)(aT:List (Sh.T ae))(aP aW ba:List Int)(aD:List (Sh.T ab))(aM:List (Sh.T ae))(dZ:List (Sh.T aq))(b1:List Bool)(b2:List (Sh.T (.agg [(.int .i64),(.int .i64),(.sl aA)]))):Option (Out Mn):=
 ao (F2 (t1,(aw,(aG,(aT,(aP,(aW,(ba,(aD,(aM,(dZ,(b1,(b2,()))))))))))))) fun x0=>
 br (Bool.not (iQ x0.1 (0:Int)))
 (
  some (false,(x0.1,(x0.2.1,(x0.2.2.1,(cJ x0,(cK x0,(cT x0,(cO x0,(dt x0,(dX x0,(fu x0,(dD x0,(jg x0,([],())))))))))))))))
 (
  ao (L6 (cO x0,((Int.ofNat (List.length (cO x0))),((0:Int),(x0.2.1,(x0.2.2.1,(cJ x0,(cK x0,(cT x0,(cO x0,(dt x0,(dX x0,(fu x0,(dD x0,(jg x0,(true,(fF x0,()))))))))))))))))) fun x1=>
  ao (L11 (cK x1,((Int.ofNat (List.length (cK x1))),((0:Int),(x1.1,(x1.2.1,(x1.2.2.1,(cJ x1,(cK x1,(cT x1,(cO x1,(dt x1,(dX x1,(fu x1,(dD x1,(jg x1,([],(fF x1,())))))))))))))))))) fun x2=>
  ao (L16 (x2.2.2.1,((Int.ofNat (List.length x2.2.2.1)),((0:Int),x2)))) fun x3=>
  ao (L21 ((Int.ofNat (List.length (dD x3))),((0:Int),x3))) fun x4=>
  some (jg x4,((0:Int),(x4.1,(x4.2.1,(x4.2.2.1,(cJ x4,(cK x4,(cT x4,(cO x4,(dt x4,(dX x4,(fu x4,(dD x4,(fF x4,())))))))))))))))
def amA(c0:mf)(c1:CO)(c2:wJ)(M6:MF)(M11:Mw)(M16:Mv)(M21:Mu):CT:=⟨mO (amB c0.F c1.F c2.F M6.L M11.L M16.L M21.L),pB Tryz.func34 99 (kD c0 (kB c1 (kB c2 k0))) e0 1 (sS (sC M6 (sC M11 (sC M16 (sC M21 l0))))) fun d=>by kernel_rfl⟩
def MN:CT:=amA mY ME Db amr amf ame amd
def Bs:MM:=MN.F
abbrev Sm:Lay:={ T:=[(0,.ptr 0 0)],h:=DS,nx:=3 }
abbrev GS:List (Ev.Ex×Lay):=[(.ret,{ T:=[(0,.agg [.hd 3 .bool,.hd 4 (.sl aA)])],h:=[(0,.cells pT 145),(1,.arr .bool 4),(2,.dL 220),(3,.arr .bool 4),(4,.arr (.sl aA) 104)],nx:=5 })]
abbrev Hk:=TL Sm.σs->Option (Out GS)
abbrev ze:=Kb 35 1 Sm 1 GS
abbrev uJ:Lay:={ T:=[(2,.ptr 3 0),(17,.dW 2),(18,.int .i64),(19,.int .i64)],h:=ab1,nx:=6 }
abbrev uH:List (Ev.Ex×Lay):=[((.exit 0),{ T:=[(2,.ptr 3 0)],h:=ab1,nx:=6 })]
abbrev Sx:=TL uJ.σs->Option (Out uH)
abbrev Hi:=Ld 3 32 (bI [0] (bh Tryz.f35)) uJ uH
def Su(F0:N1)(t18 t19 aw:Int)(aG:List Int)(aT:List (Sh.T ae))(aP aW ba:List Int)(aD:List (Sh.T ab))(aM:List (Sh.T ae))(dZ:List (Sh.T aq))(b1:List Bool)(b2:List (Sh.T (.agg [(.int .i64),(.int .i64),(.sl aA)])))(b4:List Bool)(b5:List (List (Sh.T aA))):Option (TL uJ.σs⊕Out uH):=
 br (iL t19 t18)
 (
  ai (av t19 (List.length b2))<|
  ao (F0 ((List.getD b2 (Int.toNat t19) (zR)).1,((List.getD b2 (Int.toNat t19) (zR)).2.1,((List.getD b2 (Int.toNat t19) (zR)).2.2.1,())))) fun x0=>
  ai (room 24 (List.length (ap b5 (x0.1::[]))))<|
  some (.inl (t18,((IntKind.wrap .i64 (t19+(1:Int))),(aw,(aG,(aT,(aP,(aW,(ba,(aD,(aM,(dZ,(b1,((List.set b2 (Int.toNat t19) x0.2),(b4,((ap b5 (x0.1::[])),())))))))))))))))))
 (
  some (.inr (aw,(aG,(aT,(aP,(aW,(ba,(aD,(aM,(dZ,(b1,(b2,(b4,(b5,())))))))))))))))
def acX(c0:N2) :Hi:=bN (fB (Su c0.F)) (pL (kB c0 k0) e0 1 l0 fun d=>by kernel_rfl)
def acY:Hi:=acX HQ
def Sw:Sx:=aX (fB (Su HA)) NN
def ac3(F0:N1)(F1:wC)(F2:wz)(L5:Sx)(aw:Int)(aG:List Int)(aT:List (Sh.T ae))(aP aW ba:List Int)(aD:List (Sh.T ab))(aM:List (Sh.T ae))(dZ:List (Sh.T aq))(b1:List Bool)(b2:List (Sh.T (.agg [(.int .i64),(.int .i64),(.sl aA)]))):Option (Out GS):=
 ao (F1 (b1,())) fun x0=>
 ao (L5 ((Int.ofNat (List.length b2)),((0:Int),(aw,(aG,(aT,(aP,(aW,(ba,(aD,(aM,(dZ,(x0.1,(b2,(x0.2.1,([],())))))))))))))))) fun x1=>
 some x1
def ac4(c0:N2)(c1:wE)(c2:wA)(M5:Hi):ze:=⟨kV (ac3 c0.F c1.F c2.F M5.L),pB Tryz.func35 32 (kB c0 (kB c1 (kB c2 k0))) e0 1 (sS (sC M5 l0)) fun d=>by kernel_rfl⟩
def Hj:ze:=ac4 HQ wD sO acY
def Sv:Hk:=Hj.F
