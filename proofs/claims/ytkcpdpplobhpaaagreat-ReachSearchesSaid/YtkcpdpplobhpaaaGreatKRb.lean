import Derived.Test.YtkcpdpplobhpaaaGreatKRa
import Derived.Shelf.SlSortCmp.NoneTotal
import Derived.Shelf.Lay
import Derived.Lib.Walk
import Derived.Laws.IdiomRangeMap
set_option linter.unusedVariables false
set_option linter.unusedSimpArgs false
set_option linter.unnecessarySimpa false
section
namespace Go.Proofs.YtkcpdpplobhpaaaGreat.V
open Go Go.Sort
abbrev c9:=Int×Int×Unit
abbrev ac8:Sh:=.agg [.int .u64,.int .u64]
def js(p:c9):List Value:=[.int .u64 p.1,.int .u64 p.2.1]
def ia(L:List c9):List Value:=L.flatMap js
theorem sI(p:c9)(L:List c9):ia (p::L)=.int .u64 p.1::.int .u64 p.2.1::ia L:=by unfold ia;rw[List.flatMap_cons];rfl
theorem sH:∀L:List c9,(ia L).length=L.length*2
 |[]=>rfl|p::L=>by rw[sI,ca,ca,sH L,ca];omega
theorem VV{w:World}{A:Nat->Prop}{p:c9}{c:List Value}:Cs w A ac8 p c↔c=js p:=by
 constructor
 .rintro⟨c1,r1,rfl,h1,c2,r2,rfl,h2,h3⟩;rw[show c1=[.int .u64 p.1]from h1,show c2=[.int .u64 p.2.1]from h2,show r2=[]from h3];rfl
 .rintro rfl;exact⟨[.int .u64 p.1],[.int .u64 p.2.1],rfl,rfl,[.int .u64 p.2.1],[],rfl,rfl,rfl⟩
theorem sK{w:World}{A:Nat->Prop}:∀{L:List c9}{cs:List Value},bA (Cs w A ac8) L cs↔cs=ia L
 |[],cs=>Iff.rfl|p::L,cs=>by
  constructor
  .rintro⟨c,r,rfl,h1,h2⟩;rw[VV.1 h1,sK.1 h2,sI];rfl
  .rintro rfl;exact⟨js p,ia L,by rw[sI];rfl,VV.2 rfl,sK.2 rfl⟩
theorem Uy:∀(L:List c9) (t:Nat),t<L.length*2->(ia L)[t]?=some ((js (L[t / 2]!))[t % 2]!)
 |[],t,h=>by simp at h|p::L,0,h=>by rw[sI];rfl|p::L,1,h=>by rw[sI];rfl|p::L,t+2,h=>by rw[sI,List.getElem?_cons_succ,List.getElem?_cons_succ,Uy L t (by rw[ca]at h;omega)];rw[show(t+2) / 2=t / 2+1 by omega,show(t+2) % 2=t % 2 by omega];rfl
theorem UH(L:List c9):flatK js 2 L.toArray=(ia L).toArray:=by
 apply Array.ext_getElem?;intro t;rcases Nat.lt_or_ge t (L.length*2)with q|q
 .have h1:=Uy L t q;have h2:t<L.toArray.size*2:=by simpa using q
  have h3:=get_flatK js 2 L.toArray t h2;have h4:t<(flatK js 2 L.toArray).size:=by rw[size_flatK];exact h2
  rw[Array.getElem?_eq_getElem h4,<-getElem!_pos _ t h4,h3];rw[List.getElem?_toArray,h1];simp
 .rw[Array.getElem?_eq_none (by rw[size_flatK];simpa using q),Array.getElem?_eq_none (by simp[sH];omega)]
def rZ(x y:c9):Int:=Lib.compareInt x.1 y.1
theorem Gm(x y:c9):ltOf rZ x y=decide (x.1<y.1):=by
 unfold ltOf rZ Lib.compareInt;by_cases h1:x.1<y.1
 .simp[h1]
 .by_cases h2:y.1<x.1<;>simp[h1,h2]
theorem apQ:SWO (ltOf rZ) where
 irrefl x:=by rw[Gm];simp
 trans x y z h1 h2:=by rw[Gm]at *;simp at *;omega
 ntrans x y z h1 h2:=by rw[Gm]at *;simp at *;omega
def ib(L:List c9):List c9:=L.mergeSort (fun p q=>decide (p.1<=q.1))
theorem Ix(L:List c9):(ib L).Perm L:=List.mergeSort_perm _ _
theorem US(L:List c9):(ib L).Pairwise (fun p q=>p.1<=q.1):=by have:=List.pairwise_mergeSort (le:=fun p q:c9=>decide (p.1<=q.1)) (fun a b c h1 h2=>by simp at *;omega) (fun a b=>by simp;omega) L;exact this.imp (fun h=>of_decide_eq_true h)
theorem UT{L A B:List c9}(hn:(L.map (fun p=>p.1)).Nodup)(ha:A.Perm L)(hb:B.Perm L)(sa:A.Pairwise (fun p q=>p.1<=q.1))(sb:B.Pairwise (fun p q=>p.1<=q.1)):A=B:=by
 refine List.Perm.eq_of_pairwise (le:=fun p q:c9=>p.1<=q.1) ?_ sa sb (ha.trans hb.symm);intro a b h1 h2 h3 h4;have e:a.1=b.1:=Int.le_antisymm h3 h4;have m1:=ha.mem_iff.1 h1;have m2:=hb.mem_iff.1 h2;obtain⟨i,hi⟩:=List.getElem?_of_mem m1;obtain⟨j,hj⟩:=List.getElem?_of_mem m2;have hi':(L.map (fun p=>p.1))[i]?=some a.1:=by rw[cg,hi];rfl
 have hj':(L.map (fun p=>p.1))[j]?=some a.1:=by rw[cg,hj,e];rfl
 have hlt:i<(L.map (fun p=>p.1)).length:=by
  rcases Nat.lt_or_ge i (L.map (fun p=>p.1)).length with q|q
  .exact q
  .rw[List.getElem?_eq_none q]at hi';cases hi'
 have:i=j:=(List.getElem?_inj hlt hn).1 (hi'.trans hj'.symm);subst this;rw[hi]at hj;exact Option.some.inj hj
theorem afG{w:World}{b:Nat}{L:List c9}{tail:List Value}{ty:TypeId}(h:w.heap[b]?=some (.cells (List.toArray (ia L++tail)) ty (0,0))):HoldsK js 2 w b 0 L.toArray:=by
 unfold HoldsK;rw[UH];intro j hj;have hj':j<(ia L).length:=by simpa using hj
 constructor
 .unfold World.cell?
  try dsimp only
  rw[h];simp only[Option.isSome_none,Bool.false_eq_true,if_false,Nat.zero_add];rw[List.getElem?_toArray,List.getElem?_append_left hj'];rw[aT hj'];simp[hj']
 .unfold World.frozen?
  try dsimp only
  rw[h];simp
theorem aeK{w:World}{b n:Nat}{L L':List c9}{os:Array Obj}{tail:List Value}{ty:TypeId}(hl:L'.length=L.length)(h:w.heap[b]?=some (.cells (List.toArray (ia L++tail)) ty (0,0))) :
  (sortWorldK js 2 w b 0 n L'.toArray os).heap[b]?=some (.cells (List.toArray (ia L'++tail)) ty (0,0))/\(∀k,k<w.heap.size->k≠b->(sortWorldK js 2 w b 0 n L'.toArray os).heap[k]?=w.heap[k]?) /\
  (sortWorldK js 2 w b 0 n L'.toArray os).os=w.os/\(sortWorldK js 2 w b 0 n L'.toArray os).tape=w.tape/\(sortWorldK js 2 w b 0 n L'.toArray os).output=w.output/\w.heap.size<=(sortWorldK js 2 w b 0 n L'.toArray os).heap.size:=by
 have hb:b<w.heap.size:=by
  rcases Nat.lt_or_ge b w.heap.size with q|q
  .exact q
  .rw[Array.getElem?_eq_none q]at h;cases h
 have key:∀k,k<w.heap.size->(sortWorldK js 2 w b 0 n L'.toArray os).heap[k]?=if b=k then(w.heap[k]?).map (onCells (putCells id 0 (ia L').toArray))else w.heap[k]?:=by
  intro k hk;unfold sortWorldK Sort.grow putRowK putRow mapBlock;rw[UH];show(((Go.Sort.ahead w n).heap.modify b _)++os)[k]?=_;have hk':k<((Go.Sort.ahead w n).heap.modify b (onCells (putCells id 0 (ia L').toArray))).size:=by rw[Array.size_modify];exact hk
  rw[Array.getElem?_append_left hk',Array.getElem?_modify];show(if b=k then(onCells _) <$> w.heap[k]? else w.heap[k]?)=_;rfl
 refine⟨?_,?_,rfl,rfl,rfl,?_⟩
 .rw[key b hb,if_pos rfl,h];show some (Obj.cells (putCells id 0 (ia L').toArray (List.toArray (ia L++tail))) ty (0,0))=_;congr 2;apply Array.ext_getElem?;intro t;unfold putCells;rw[Array.getElem?_mapIdx];simp only[Nat.zero_add,Nat.zero_le,true_and,Nat.sub_zero,id];have hlen:(ia L').length=(ia L).length:=by rw[sH,sH,hl]
  rcases Nat.lt_or_ge t (ia L').length with q|q
  .rw[List.getElem?_toArray,List.getElem?_toArray,List.getElem?_append_left (by omega),List.getElem?_append_left q,aT (by omega:t<(ia L).length),aT q];simp[q]
  .rw[List.getElem?_toArray,List.getElem?_toArray,List.getElem?_append_right (by omega),List.getElem?_append_right q,hlen];cases tail[t-(ia L).length]? with
   |none=>rfl|some x=>
    have:¬t<(ia L').toArray.size:=by simp;omega
    simp[Nat.not_lt.2 q]
 .intro k hk hne;rw[key k hk,if_neg (fun e=>hne e.symm)]
 .unfold sortWorldK grow putRowK putRow mapBlock;show _<=(((Go.Sort.ahead w n).heap.modify b _)++os).size;rw[Array.size_append,Array.size_modify];exact Nat.le_add_right _ _
theorem afQ{L:List c9}{d':Array c9}(hn:(L.map (fun p=>p.1)).Nodup)(hp:PermIn 0 L.toArray.size L.toArray d')(hs:SortedIn (ltOf rZ) 0 L.toArray.size d'):d'=(ib L).toArray:=by
 obtain⟨h1,_,h3⟩:=hp;have hsz:d'.size=L.length:=by simpa using h1
 have hperm:d'.toList.Perm L:=by
  have a1:(d'.extract 0 L.toArray.size)=d':=by apply Array.ext_getElem?;intro i;simp[Array.getElem?_extract];intro hi;omega
  have a2:(L.toArray.extract 0 L.toArray.size)=L.toArray:=by simp
  rw[a1,a2]at h3;simpa using h3
 have hsort:d'.toList.Pairwise (fun p q=>p.1<=q.1):=by
  refine List.pairwise_iff_getElem.2 fun i j hi hj hij=>?_;have hi':i<d'.size:=by simpa using hi
  have hj':j<d'.size:=by simpa using hj
  have:=hs i j (Nat.zero_le _) hij (by rw[hsz]at hj';simpa using hj');rw[Gm,getElem!_pos d' i hi',getElem!_pos d' j hj']at this;have:=of_decide_eq_false this;rw[Array.getElem_toList,Array.getElem_toList];omega
 have:=UT hn hperm (Ix L) hsort (US L);rw[<-this]
open Go.RowKit Go.Shelf
set_option maxRecDepth 1000000
def ahQ:Go.Shelf.Ren:=⟨fun|6=>151|15=>200|14=>199|28=>237|29=>238|20=>229|21=>230|22=>231|23=>232|24=>233|25=>234|26=>235|27=>236|46=>258|47=>259|48=>260|49=>261|50=>262|57=>266|n=>n,fun|22=>104|24=>137|25=>230|3=>3|39=>83|0=>0|53=>290|55=>77|4=>4|46=>284|45=>283|50=>261|5=>5|9=>9|66=>305|70=>271|76=>312|77=>313|n=>n,fun|n=>n⟩
theorem U9:Go.Proofs.SlLaysF0.n6 Tryz.prog ahQ:={
 mixed:=by kernel_rfl
 f6:=⟨Tryz.f151.name,by decide,Tryz.func151.trans (congrArg some (by kernel_rfl))⟩
 f14:=⟨Tryz.f199.name,by decide,Tryz.func199.trans (congrArg some (by kernel_rfl))⟩
 f15:=Tryz.func200.trans (congrArg some (by kernel_rfl))
 f20:=⟨Tryz.f229.name,by decide,Tryz.func229.trans (congrArg some (by kernel_rfl))⟩
 f21:=⟨Tryz.f230.name,by decide,Tryz.func230.trans (congrArg some (by kernel_rfl))⟩
 f22:=⟨Tryz.f231.name,by decide,Tryz.func231.trans (congrArg some (by kernel_rfl))⟩
 f23:=⟨Tryz.f232.name,by decide,Tryz.func232.trans (congrArg some (by kernel_rfl))⟩
 f24:=⟨Tryz.f233.name,by decide,Tryz.func233.trans (congrArg some (by kernel_rfl))⟩
 f25:=⟨Tryz.f234.name,by decide,Tryz.func234.trans (congrArg some (by kernel_rfl))⟩
 f26:=⟨Tryz.f235.name,by decide,Tryz.func235.trans (congrArg some (by kernel_rfl))⟩
 f27:=⟨Tryz.f236.name,by decide,Tryz.func236.trans (congrArg some (by kernel_rfl))⟩
 f28:=Tryz.func237.trans (congrArg some (by kernel_rfl))
 f29:=Tryz.func238.trans (congrArg some (by kernel_rfl))
 f46:=⟨Tryz.f258.name,by decide,Tryz.func258.trans (congrArg some (by kernel_rfl))⟩
 f47:=Tryz.func259.trans (congrArg some (by kernel_rfl))
 f48:=Tryz.func260.trans (congrArg some (by kernel_rfl))
 f49:=⟨Tryz.f261.name,by decide,Tryz.func261.trans (congrArg some (by kernel_rfl))⟩
 f50:=⟨Tryz.f262.name,by decide,Tryz.func262.trans (congrArg some (by kernel_rfl))⟩
 f57:=⟨Tryz.f266.name,by decide,Tryz.func266.trans (congrArg some (by kernel_rfl))⟩
 t0:=Tryz.underlying0
 a0:=Tryz.isAgg0
 z0:=Tryz.sizeOf0
 v0:=Tryz.zeroValue0
 t3:=Tryz.underlying3
 a3:=Tryz.isAgg3
 z3:=Tryz.sizeOf3
 v3:=Tryz.zeroValue3
 t4:=Tryz.underlying4
 a4:=Tryz.isAgg4
 z4:=Tryz.sizeOf4
 v4:=Tryz.zeroValue4
 t5:=Tryz.underlying5
 a5:=Tryz.isAgg5
 z5:=Tryz.sizeOf5
 v5:=Tryz.zeroValue5
 t9:=Tryz.underlying9
 a9:=Tryz.isAgg9
 z9:=Tryz.sizeOf9
 v9:=Tryz.zeroValue9
 t22:=Tryz.underlying104
 a22:=Tryz.isAgg104
 z22:=Tryz.sizeOf104
 v22:=Tryz.zeroValue104
 t25:=Tryz.underlying230
 a25:=Tryz.isAgg230
 z25:=Tryz.sizeOf230
 v25:=Tryz.zeroValue230
 t39:=Tryz.underlying83
 a39:=Tryz.isAgg83
 z39:=Tryz.sizeOf83
 v39:=Tryz.zeroValue83
 t45:=Tryz.underlying283
 a45:=Tryz.isAgg283
 z45:=Tryz.sizeOf283
 v45:=Tryz.zeroValue283
 t46:=Tryz.underlying284
 a46:=Tryz.isAgg284
 z46:=Tryz.sizeOf284
 v46:=Tryz.zeroValue284
 t50:=Tryz.underlying261
 a50:=Tryz.isAgg261
 z50:=Tryz.sizeOf261
 v50:=Tryz.zeroValue261
 t53:=Tryz.underlying290
 a53:=Tryz.isAgg290
 z53:=Tryz.sizeOf290
 v53:=Tryz.zeroValue290
 t55:=Tryz.underlying77
 a55:=Tryz.isAgg77
 z55:=Tryz.sizeOf77
 v55:=Tryz.zeroValue77
 t66:=Tryz.underlying305
 a66:=Tryz.isAgg305
 z66:=Tryz.sizeOf305
 v66:=Tryz.zeroValue305
 t70:=Tryz.underlying271
 a70:=Tryz.isAgg271
 z70:=Tryz.sizeOf271
 v70:=Tryz.zeroValue271
 t76:=Tryz.underlying312
 a76:=Tryz.isAgg312
 z76:=Tryz.sizeOf312
 v76:=Tryz.zeroValue312
 t77:=Tryz.underlying313
 a77:=Tryz.isAgg313
 z77:=Tryz.sizeOf313
 v77:=Tryz.zeroValue313 }
set_option maxHeartbeats 2000000
theorem aht(x:Int)(w:World):Calls Tryz.prog 201 #[.int .u64 x] w fun e w'=>e=.returned (.bool false)/\w'=w:=by
 go_enter Tryz.func201,Tryz.ntmps201
 go_wp2
 go_ret
 exact⟨by simp,rfl⟩
theorem afE(x y:Int)(w:World):Calls Tryz.prog 153 #[.int .u64 x,.int .u64 y] w fun e w'=>e=.returned (.int .i64 (Lib.compareInt x y))/\w'=w:=by
 have hc:=fun x w=>aht x w
 go_enter Tryz.func153,Tryz.ntmps153
 go_wp2_with (go_at_call 201;refine(hc _ _).mono ?_;rintro e w' ⟨rfl,rfl⟩)
 all_goals (go_ret;refine⟨?_,rfl⟩;unfold Lib.compareInt;(repeat' split)<;>first|rfl|(exfalso;omega))
theorem afC(x y:c9)(W:World):Calls Tryz.prog 152 #[.agg #[.int .u64 x.1,.int .u64 x.2.1],.agg #[.int .u64 y.1,.int .u64 y.2.1]] W fun e w'=>e=.returned (.int .i64 (rZ x y))/\∃q os',w'=grow (W.drewN q) os':=by
 have hcon:=fun W'=>afE x.1 y.1 W';unfold rZ;generalize Lib.compareInt x.1 y.1=r at hcon |-
 go_enter Tryz.func152,Tryz.ntmps152
 go_wp2_with (go_at_call 153;refine(hcon _).mono ?_;rintro e w' ⟨rfl,rfl⟩)
 go_ret
 exact⟨rfl,0,_,by rw[alloc_eq_grow,alloc_eq_grow,grow_grow];rfl⟩
abbrev qS:FuncId:=151
abbrev mY:FuncId:=152
theorem afw(blk cap:Nat)(L:List c9)(w:World)(hH:HoldsK js 2 w blk 0 L.toArray)(hblk:blk<w.heap.size)(hsz:L.length<=1000000)(hn:(L.map (fun p=>p.1)).Nodup) :
  Calls Tryz.prog qS #[.slice (some ⟨blk,0,none⟩) L.length cap,.func (.func mY) #[] #[]] w fun e w'=>e=.returned (.tuple #[])/\∃n os,w'=sortWorldK js 2 w blk 0 n (ib L).toArray os:=by
 have eg:∀args w,(callFunc mY args).run Tryz.prog w=.ok (.enter mY args) w:=enters_of Tryz.func152 (by kernel_rfl) rfl;have hcon:=AnyQ.slices_SortFunc U9 2 Tryz.isAgg137 Tryz.sizeOf137 js (fun _=>rfl) (fun x v hv=>by simp[js]at hv;rcases hv with rfl|rfl<;>rfl) rZ apQ mY #[] blk 0 cap L.toArray w eg (fun _ _ _ _ x y=>afC x y _) hH hblk (by simp;omega);change Calls Tryz.prog qS #[.slice (some ⟨blk,0,none⟩) (L.toArray.size:Nat) cap,.func (.func mY) #[] #[]] w _ at hcon;refine hcon.mono ?_;rintro e w' ⟨rfl,d',n,os,hp,hs,rfl⟩;exact⟨rfl,n,os,by rw[afQ hn hp hs]⟩
theorem afP(p:Option Addr)(cap:Nat)(fv:Value)(w:World):Calls Tryz.prog qS #[.slice p 0 cap,fv] w fun e w'=>e=.returned (.tuple #[])/\w'=w:=AnyF.slices_SortFunc_none U9 p cap fv w
theorem ago{α:Type}(o:α)(j:Nat):(Ev.Tr.node (some o) .nil .nil).get j=if j=0 then some o else none:=by cases j with|zero=>rfl|succ m=>simp only[Ev.Tr.get];split<;>rfl
abbrev sL:Lay:={ T:=[(0,.hd 0 ar),(1,.func mY [] [])],h:=[(0,.arr ar 137)],nx:=1 }
abbrev sJ:List (Ev.Ex×Lay):=[(.ret,{ T:=[],h:=[(0,.arr ar 137)],nx:=1 })]
def vq(L:List c9):Bool:=decide ((L.map (fun p=>p.1)).Nodup)&&decide (L.length<=1000000)
def Wg(d:TL sL.σs):Option (Out sJ):=ah (vq d.1) (some (ib d.1,()))
theorem afx:jv Tryz.prog qS ⟨2,sL,0,sJ,Wg⟩:=by
 refine⟨⟨Tryz.f151,aU Tryz.f151,Tryz.func151,by kernel_rfl,by kernel_rfl⟩,?_⟩;rintro⟨L,u⟩ o ho st e st' hput hs X vs args hX H hr hv R;obtain⟨hok,ho⟩:=nz ho
 replace hok:vq L=true:=hok
 replace ho:some (ib L,())=some o:=ho
 obtain rfl:=Option.some.inj ho;unfold vq at hok;simp only[Bool.and_eq_true,decide_eq_true_eq]at hok;obtain⟨hn,hlen⟩:=hok;have e1:st=⟨.node (some (.hd 0 ar)) (.node (some (.func mY [] [])) .nil .nil) .nil,⟨.node (some (.arr ar L 137)) .nil .nil,1⟩⟩:=by
  have:Lay.put 2 sL (L,u)=some ⟨.node (some (.hd 0 ar)) (.node (some (.func mY [] [])) .nil .nil) .nil,⟨.node (some (.arr ar L 137)) .nil .nil,1⟩⟩:=by kernel_rfl
  rw[this]at hput;cases hput;rfl
 subst e1;have e2:(e,st')=(.ret,⟨.nil,⟨.node (some (.arr ar (ib L) 137)) .nil .nil,1⟩⟩):=by
  have:km 0 sJ (ib L,())=some (.ret,⟨.nil,⟨.node (some (.arr ar (ib L) 137)) .nil .nil,1⟩⟩):=by kernel_rfl
  exact Option.some.inj (hs.symm.trans this)
 cases e2;have hv':some [AV.hd 0 ar,AV.func mY [] []]=some vs:=hv;cases hv';obtain⟨V0,r0,rfl,R0,V1,r1,rfl,R1,R2⟩:=R;have:r1=[]:=R2;subst this;obtain⟨xs,cs,rfl,hx1,hx2⟩:=R1;have:xs=[]:=hx1;subst this;have:cs=[]:=hx2;subst this;obtain⟨l,hs0,hone,hsl⟩:=R0;have hget:X.h.tr.get 0=some (.arr ar L 137):=by rw[hX];rfl
 have hV0:V0=l.slice L.length:=hsl _ (gK hget);subst hV0;have ho:=H.obj 0 _ l hget hs0;have tget:∀j,(Ev.Tr.node (some (bw.arr ar (ib L) 137)) .nil .nil).get j=if j=0 then some (.arr ar (ib L) 137)else none:=ago _
 have hlS:(ib L).length=L.length:=(Ix L).length_eq;have fin:∀w':World,w'.os=X.w.os->w'.tape=X.w.tape->w'.output=X.w.output->X.w.heap.size<=w'.heap.size->(∀k,k<X.w.heap.size->¬l.own k->w'.heap[k]?=X.w.heap[k]?)->ja ⟨X.s,⟨.node (some (.arr ar (ib L) 137)) .nil .nil,1⟩,w',X.A⟩ l (.arr ar (ib L) 137) ->
   ∃X' Vs,Ending.returned (.tuple #[])=.returned (lI Vs)/\X'.w=w'/\X'.h=⟨.node (some (.arr ar (ib L) 137)) .nil .nil,1⟩/\aL X'/\aS X X'/\∀us,lW (Ev.Tr.nil:Ev.Tr AV) 0 0=some us->bD X' us Vs:=by
  intro w' q1 q2 q3 q4 q5 q6;refine⟨⟨X.s,⟨.node (some (.arr ar (ib L) 137)) .nil .nil,1⟩,w',X.A⟩,[],rfl,rfl,rfl,?_,?_,?_⟩
  .refine⟨?_,?_,?_,?_,?_,?_⟩
   .intro i o l' hi hl';rw[show(Cx.mk X.s _ w' X.A).h.tr.get i=_ from tget i]at hi;by_cases hz:i=0
    .subst hz;rw[if_pos rfl]at hi;cases hi;have:l'=l:=Option.some.inj (hl'.symm.trans hs0);subst this;exact q6
    .rw[if_neg hz]at hi;cases hi
   .intro i j o o' l1 l2 b hi hj _ _ _ _;rw[show(Cx.mk X.s _ w' X.A).h.tr.get i=_ from tget i]at hi;rw[show(Cx.mk X.s _ w' X.A).h.tr.get j=_ from tget j]at hj;by_cases hz:i=0
    .by_cases hz':j=0
     .rw[hz,hz']
     .rw[if_neg hz']at hj;cases hj
    .rw[if_neg hz]at hi;cases hi
   .intro i o hi;rw[show(Cx.mk X.s _ w' X.A).h.tr.get i=_ from tget i]at hi;by_cases hz:i=0
    .subst hz;exact Nat.zero_lt_one
    .rw[if_neg hz]at hi;cases hi
   .intro i l' hi;have:=H.cZ i l' hi;rw[hX]at this;exact this
   .intro b hb;exact Nat.lt_of_lt_of_le (H.alt b hb) q4
   .intro i o l' b hi hl' hb hA;rw[show(Cx.mk X.s _ w' X.A).h.tr.get i=_ from tget i]at hi;by_cases hz:i=0
    .subst hz;exact H.loc 0 _ l' b hget hl' hb hA
    .rw[if_neg hz]at hi;cases hi
  .refine⟨q1,q2,q3,q4,fun _ _ h=>h,fun _ _ _ h=>h,by rw[hX];exact Nat.le_refl _,?_,?_,?_,?_,rfl⟩
   .intro b hb hni;exact q5 b hb (fun q=>hni ⟨0,_,l,hget,hs0,q⟩)
   .rintro b ⟨i,o,l',hi,hl',hb⟩;left;rw[show(Cx.mk X.s _ w' X.A).h.tr.get i=_ from tget i]at hi;by_cases hz:i=0
    .subst hz;exact⟨0,_,l',hget,hl',hb⟩
    .rw[if_neg hz]at hi;cases hi
   .intro j n hj hrow;obtain⟨o,h1,h2⟩:=kb hrow;rw[tget j]at h1;by_cases hz:j=0
    .subst hz;rw[if_pos rfl]at h1;cases h1;rw[gK hget];have:some (ib L).length=some n:=h2;rw[<-this,hlS]
    .rw[if_neg hz]at h1;cases h1
   .intro i hi hsi;by_cases hz:i=0
    .subst hz;rw[hs0]at hsi;cases hsi
    .have:X.h.next=1:=by rw[hX]
     omega
  .intro us hus;cases hus;rfl
 cases l with
 |nil=>have hL:L=[]:=ho;subst hL;show Calls _ _ #[.slice none 0 0,.func (.func mY) #[] #[]] _ _;refine(afP none 0 _ X.w).mono ?_;rintro e' w' ⟨rfl,rfl⟩;refine fin X.w rfl rfl rfl (Nat.le_refl _) (fun _ _ _=>rfl) ?_;exact(List.mergeSort_nil:ib []=[])
 |cq b c m=>exact(ho:False).elim|«at» b c=>obtain⟨cs,tail,h1,h2,h3,h4⟩:=ho;have hcs:cs=ia L:=sK.1 h2;subst hcs;have hb:b<X.w.heap.size:=fG h1;show Calls _ _ #[.slice (some ⟨b,0,none⟩) L.length c,.func (.func mY) #[] #[]] _ _;refine(afw b c L X.w (afG h1) hb hlen hn).mono ?_;rintro e' w' ⟨rfl,n,os,rfl⟩;obtain⟨f1,f2,f3,f4,f5,f6⟩:=aeK (n:=n) (os:=os) hlS h1;refine fin _ f3 f4 f5 f6 (fun k hk hne=>f2 k hk hne) ?_;exact⟨ia (ib L),tail,f1,sK.2 rfl,by rw[(sH (ib L)).trans ((congrArg (·*2) hlS).trans (sH L).symm)];exact h3,Nat.le_trans (Nat.le_of_eq hlS) h4⟩
def pC:Kb qS 2 sL 0 sJ:=⟨Wg,afx⟩
theorem ahJ{P:Program}(w:World)(ty:TypeId)(it bm since c0:Nat)(seen:Array Nat)(es:Array MapEntry)(clock:Nat)(hit:w.heap[it]?=some (.mapIter (some bm) since seen c0))(hb:w.heap[bm]?=some (.map es clock))
  (hold:∀x∈es.toList,x.born<since) (hsc:since<=c0) :
  ((leftOf es seen).size=0/\(Instr.next (.pointer (some ⟨it,0,none⟩)) false ty).run P w=.ok (.tuple #[.bool false]) w) \/
  ∃e∈(leftOf es seen).toList,∃d:Nat,(Instr.next (.pointer (some ⟨it,0,none⟩)) false ty).run P w=.ok (.tuple #[.bool true,e.key,e.val]) { w with heap:=w.heap.setIfInBounds it (.mapIter (some bm) since (seen.push e.born) clock),drawn:=d }:=by
 simp only[Instr.next,getObj,Sem.run_bind,Sem.run,hit,hb,Result.andThen,next_test_false seen es since c0 hold hsc,Bool.false_eq_true,if_false];unfold leftOf;have hmem:∀x∈(Array.filter (fun e=>!seen.contains e.born) es).toList,x.born<since:=fun x hx=>hold x (by simp at hx |-;exact hx.1);generalize Array.filter (fun e=>!seen.contains e.born) es=L at hmem |-;have e1:L.filter (fun x=>decide (x.born<since))=L:=Array.filter_eq_self.2 (fun x hx=>by simpa using hmem x (by simpa using hx));have e2:L.filter (fun x=>decide (x.born>=since))=#[]:=by rw[Array.filter_eq_empty_iff];intro x hx;have:=hmem x (by simpa using hx);simp;omega
 simp only[e1,e2,Array.append_empty];by_cases h0:L.size=0
 .left;have:L=#[]:=Array.eq_empty_of_size_eq_zero h0;subst this;refine⟨rfl,?_⟩;simp[choose,Sem.run,Question.forced]
 .right;have hne:L.isEmpty=false:=by simp[Array.isEmpty,h0]
  simp only[hne,Bool.false_eq_true,if_false,Array.empty_append,Array.size_map];have hch:∃(j:Nat) (d:Nat),j<L.size/\(choose (Question.mapNext L.size)).run P w=.ok j { w with drawn:=d }:=by
   by_cases hf:L.size<=1
   .exact⟨0,w.drawn,by omega,by simp[choose,Sem.run,Question.forced,hf]⟩
   .exact⟨w.tape w.drawn (Question.mapNext L.size) % L.size,w.drawn+1,Nat.mod_lt _ (by omega),by simp only[choose,Sem.run,Question.forced,decide_eq_true_eq,hf,if_false,Question.cut]⟩
  obtain⟨j,d,hj,hrun⟩:=hch;refine⟨L[j],by simp,d,?_⟩;have hset:∀o':Obj,(setObj it o').run P { w with drawn:=d }=.ok () { w with heap:=w.heap.setIfInBounds it o',drawn:=d }:=fun o'=>by simp only[setObj,Sem.run];have:({ w with drawn:=d }:World).heap[it]?=some (.mapIter (some bm) since seen c0):=hit;rw[this]
  simp only[hrun,Array.getElem?_map,Array.getElem?_eq_getElem hj,Option.map_some,Sem.run_bind,hset,Result.andThen];rfl
theorem af7{P:Program}(w:World)(it bm since:Nat)(seen:Array Nat)(es:Array MapEntry)(clock:Nat)(e:MapEntry)(hit:w.heap[it]?=some (.mapIter (some bm) since (seen.push e.born) clock))(hb:w.heap[bm]?=some (.map es clock))(he:e∈es.toList)(hn:(es.toList.map (·.born)).Nodup) :
  (Instr.entry (.pointer (some ⟨it,0,none⟩))).run P w=.ok (.tuple #[e.key,e.val]) w:=by
 have hf:es.find? (·.born == e.born)=some e:=by rw[<-Array.find?_toList];exact find_born e es.toList hn he
 simp only[Instr.entry,getObj,Sem.run_bind,Sem.run,hit,hb,Result.andThen,Array.back?_push,bne_self_eq_false,Bool.false_eq_true,if_false,hf];rfl
open Go.Proofs.YtkcpdpplobhpaaaGreat.Ev (Tr Tr.cD nth dz Ex)
noncomputable abbrev pP:Program:=Tryz.prog
noncomputable abbrev R8:TypeId->Option Sh:=ng Tryz.prog 20
noncomputable abbrev py:TypeId:=137
noncomputable def cl(K:KN){R:Type}:iO R:=qQ pP R8 K.kn (lE e0.l) 1
noncomputable def rk(K:KN){R:Type}(c:Code)(st:St)(k:Ex->St->Option R):Option R:=runK pP R8 (cl K) (ada R) 26 c st k
noncomputable def re(K:KN){R:Type}(ops:Array Oper)(l:List Oper)(st:St)(k:St->Option R):Option R:=ta pP R8 (cl K) 26 ops l st k
theorem VU(K:KN){R:Type}:j7 pP (cl (R:=R) K):=uE rJ K.ok (rK e0.h) 1
noncomputable def Tk(c:Code)(st:St)(e:Ex)(st':St):Prop:=∀X a,aL X->RF X 26 st a->∀Q:Exit->Act->World->Prop,(∀X' a',RF X' 26 st' a'->aS X X'->Q e.to a' X'.w)->c.wp pP Q a X.w
theorem Ad(K:KN){R:Type}{c:Code}(hl:eF c=[]){st:St}{k:Ex->St->Option R}{r:R}(h:rk K c st k=some r):∃e st',k e st'=some r/\Tk c st e st':=by obtain⟨e,st',h1,h2⟩:=uK (G:=fun _=>True) (base:=st.h.next) rJ (VU K) c (by rw[hl];intro x hx;cases hx) st k r h;exact⟨e,st',h1,fun X a H RR Q hQ=>h2 X X a ⟨by rw[RR.h],trivial⟩ H (aS.refl X) RR Q hQ⟩
theorem vA(K:KN){R:Type}{ops:Array Oper}:∀(l:List Oper) (j:Nat) (st:St) (k:St->Option R) (r:R),re K ops l st k=some r->(∀i,i<l.length->l[i]?=ops[j+i]?) ->
  ∃st',k st'=some r/\∀X a,RF X 26 st a->∀(m:Nat) (Q:Exit->Act->World->Prop),(∀X' a',RF X' 26 st' a'->aS X X'->wpOps pP ops Q (List.range' (j+l.length) m) a' X'.w)->wpOps pP ops Q (List.range' j (l.length+m)) a X.w
 |[],j,st,k,r,e,_=>⟨st,e,fun X a RR m Q hQ=>by simpa using hQ X a RR (aS.refl X)⟩|o::l,j,st,k,r,e,hl=>by unfold re at e;simp only[ta]at e;obtain⟨st₁,e,S⟩:=XI (VU K) e (i:=j) (by have:=hl 0 (by simp);simpa using this.symm);obtain⟨st',hk,rest⟩:=vA K l (j+1) st₁ k r e (by intro i hi;have:=hl (i+1) (by simpa using hi);simp only[List.getElem?_cons_succ]at this;rw[this];congr 1;omega);refine⟨st',hk,?_⟩;intro X a RR m Q hQ;rw[ca,show l.length+1+m=(l.length+m)+1 by omega,List.range'_succ,wpOps_cons];refine S X a RR _ _ ?_;intro X' a' R' E';refine rest X' a' R' m Q ?_;intro X'' a'' R'' E'';have:=hQ X'' a'' R'' (E'.trans E'');rw[ca,show j+(l.length+1)=j+1+l.length by omega]at this;exact this
theorem z8{ops:Array Oper}{i m:Nat}{o:Oper}{a:Act}{w w':World}{V:Value}{Q:Exit->Act->World->Prop}(ho:ops[i]?=some o)(hg:o.guard=none)(hr:(execOp a.eval o).run pP w=.ok (.value V) w')(h:wpOps pP ops Q (List.range' (i+1) m) (a.put o.dst V) w') :
  wpOps pP ops Q (List.range' i (m+1)) a w:=by
 rw[List.range'_succ,wpOps_cons];unfold wpOp;rw[ho];have hw:Region.wanted o (yielded ops a.tmps)=true:=by unfold Region.wanted;rw[hg]
 simp only[hw,if_true];left;unfold Oper.wp;rw[hr];exact h
noncomputable def qL:Code->Code|.seq a _=>a|c=>c
noncomputable def qR:Code->Code|.seq _ b=>b|c=>c
noncomputable def qB:Code->Code|.block _ b=>b|.loop b=>b|c=>c
noncomputable def qO:Code->Array Oper|.region _ o _=>o|_=>#[]
noncomputable abbrev cC:Code:=aU Tryz.f83
noncomputable def cA:Code:=qL cC
noncomputable def cB:Code:=qL (qR cC)
noncomputable def o3:Array Oper:=qO (qL (qL (qR (qR cC))))
noncomputable def qP:Code:=qB (qB (qR (qL (qR (qR cC)))))
noncomputable def tJ:Code:=qR (qR (qR cC))
noncomputable def o4:Array Oper:=qO (qL qP)
noncomputable def o5:Array Oper:=qO (qL (qB (qR (qR qP))))
noncomputable def c6:Code:=qR (qB (qR (qR qP)))
theorem shC:cC=.seq cA (.seq cB (.seq (.seq (.region 3 o3 false) (.block 0 (.loop qP))) tJ)):=by kernel_rfl
theorem shB:qP=.seq (.region 4 o4 false) (.seq (.cond (.tmp 13) .skip (.exit 0)) (.block 1 (.seq (.region 5 o5 false) c6))):=by kernel_rfl
noncomputable def qE:List Oper:=o4.toList.drop 1
noncomputable def oB:List Oper:=o5.toList.drop 1
noncomputable def TA:Tr AV:=.node (some (.ptr 0 0)) .nil .nil
noncomputable def nD(a b:Int)(M:List c9):Hp:=⟨.node (some (.cells [.int .i64 a,.int .i64 b,.mp 1] 220)) (.node (some (.map .u64 (.int .u64) M)) .nil .nil) .nil,2⟩
noncomputable def xu:Tr AV:=.node none (.node none (.node none .nil (.node (some (.ptr 0 0)) .nil .nil)) .nil) (.node (some (.hd 1 ar)) .nil .nil)
noncomputable def hL(N:List c9):Hp:=⟨.node none (.node (some (.arr ar N py)) .nil .nil) .nil,2⟩
noncomputable def kE{R:Type}(f:List c9->Option R)(e:Ex)(st:St):Option R:=match e,lN pP st Tryz.f83.results.toList with
 |.ret,some [.hd j _]=>match st.h.tr.get j with
  |some (.arr σ L t)=>match h:σ.eqv ar,Nat.beq t py with|true,true=>f (jP h L)|_,_=>none
  |_=>none
 |_,_=>none
noncomputable def kN{R:Type}(f:List c9->Option R)(e:Ex)(st:St):Option R:=match e,st.T.get 2,st.T.get 11 with
 |.normal,some (.hd j _),some (.ptr 0 0)=>match st.h.tr.get j with
  |some (.arr σ L t)=>match h:σ.eqv ar,Nat.beq t py with|true,true=>f (jP h L)|_,_=>none
  |_=>none
 |_,_,_=>none
noncomputable def kT(k v:Int)(st:St):Option (List c9):=match st.T.get 13,st.T.get 11 with
 |some (.bool true),some (.ptr 0 0)=>match gz 26 st.T (some 14) (.cG [.int .u64 k,.int .u64 v])with|some T=>re k0 o5 oB ⟨T,st.h⟩ fun st=>rk k0 c6 st (kN some)|none=>none
 |_,_=>none
noncomputable def kF(K:Kb qS 2 sL 0 sJ)(st:St):Option (List c9):=match st.T.get 13 with|some (.bool false)=>rk (kB K k0) tJ st (kE some)|_=>none
noncomputable def g4(N:List c9)(v:AV)(K:KN)(k:St->Option (List c9)):Option (List c9):=match gz 26 xu (some 12) v with|some T=>re K o4 qE ⟨T,hL N⟩ k|none=>none
noncomputable def Gl(st:St):Option Hp:=match st.T.get 2,st.T.get 10 with|some .bJ,some (.mp 1)=>some st.h|_,_=>none
noncomputable def kA(e:Ex)(st:St):Option Hp:=match e with|.normal=>re k0 o3 (o3.toList.take 4) st Gl|_=>none
theorem eqA(a b:Int)(M:List c9):rk k0 cA ⟨TA,nD a b M⟩ (fun e st=>match e with|.normal=>rk k0 cB st kA|_=>none)=some (nD a b M):=by kernel_rfl
theorem eqT(N:List c9)(k v:Int):g4 N (.cG [.bool true,.int .u64 k,.int .u64 v]) k0 (kT k v)=ah (room 16 (List.length (N++[(k,(v,()))]))) (some (N++[(k,(v,()))])):=by kernel_rfl
theorem eqF(N:List c9)(K:Kb qS 2 sL 0 sJ):g4 N (.cG [.bool false]) (kB K k0) (kF K)=aj (K.F (N,())) fun o=>some o.1:=by kernel_rfl
theorem apK:∃o,o3[4]?=some o/\o.guard=none/\o.dst=some 11/\o.op=.range 218 (.tmp 10):=⟨_,rfl,rfl,rfl,rfl⟩
theorem apL:∃o,o4[0]?=some o/\o.guard=none/\o.dst=some 12/\o.op=.next (.tmp 11) false:=⟨_,rfl,rfl,rfl,rfl⟩
theorem apM:∃o,o5[0]?=some o/\o.guard=none/\o.dst=some 14/\o.op=.entry (.tmp 11):=⟨_,rfl,rfl,rfl,rfl⟩
theorem V9{α:Type}(o:α)(j:Nat):(Tr.node none (.node (some o) .nil .nil) .nil).get j=if j=1 then some o else none:=by
 rcases j with _|_|j
 .rfl
 .rfl
 .rw[if_neg (by omega)];simp only[Tr.get];split
  .rename_i h;have h:=bE h;obtain⟨m,hm⟩:∃m,(j+1) / 2=m+1:=⟨(j+1) / 2-1,by omega⟩;rw[hm];simp only[];split<;>rfl
  .rfl
theorem UW(t:Nat)(v:AV)(h:xu.get t=some v):(t=2/\v=.hd 1 ar)\/(t=11/\v=.ptr 0 0):=by
 have h1:Tr.set FT (Tr.node none .nil (.node (some (AV.hd 1 ar)) .nil .nil)) 11 (some (.ptr 0 0))=some xu:=by kernel_rfl
 have h2:Tr.set FT (Tr.nil:Tr AV) 2 (some (.hd 1 ar))=some (Tr.node none .nil (.node (some (AV.hd 1 ar)) .nil .nil)):=by kernel_rfl
 rw[Tr.cD _ _ _ _ _ h1 t]at h;by_cases q:t=11
 .rw[if_pos q]at h;exact .inr ⟨q,(Option.some.inj h).symm⟩
 .rw[if_neg q,Tr.cD _ _ _ _ _ h2 t]at h;by_cases q2:t=2
  .rw[if_pos q2]at h;exact .inl ⟨q2,(Option.some.inj h).symm⟩
  .rw[if_neg q2]at h;cases h
theorem mL(N:List c9)(j:Nat):(hL N).tr.get j=if j=1 then some (.arr ar N py)else none:=V9 _ j
def cU(e:MapEntry):c9:=((match e.key with|.int _ n=>n|_=>0),((match e.val with|.int _ n=>n|_=>0),()))
theorem UG{w:World}{A:Nat->Prop}:∀{es:List MapEntry}{N:dp (.int .u64)},iN w A .u64 (.int .u64) es N->es.map cU=N/\∀e∈es,e.key=.int .u64 (cU e).1/\e.val=.int .u64 (cU e).2.1
 |[],N,h=>⟨(show N=[]from h).symm,fun e he=>by cases he⟩
 |e::es,N,h=>by
  cases N with
  |nil=>exact h.elim|cons p N=>
   obtain⟨h1,h2,h3⟩:=h;obtain⟨g1,g2⟩:=UG h3;obtain⟨q1,q2⟩:=h2;have hv:e.val=.int .u64 p.2.1:=by
    have q1:e.val.cells.toList=[.int .u64 p.2.1]:=q1;have hc:e.val.cells=#[e.val]:=by cases hx:e.val<;>first|rfl|(rw[hx]at q2;cases q2)
    rw[hc]at q1;exact(List.cons.inj q1).1
   have he:cU e=p:=by unfold cU;rw[h1,hv];rfl
   refine⟨?_,?_⟩
   .rw[List.map_cons,g1,he];rfl
   .intro x hx;rcases List.mem_cons.1 hx with rfl|hx
    .rw[he];exact⟨h1,hv⟩
    .exact g2 x hx
def mH(es:List MapEntry)(seen:Array Nat):List c9:=(es.filter (fun e=>seen.contains e.born)).map cU
theorem agi(es:List MapEntry):mH es #[]=[]:=by unfold mH;rw[List.filter_eq_nil_iff.2 (by intro x _;simp)];rfl
theorem UJ{seen:Array Nat}{e:MapEntry}(hs:seen.contains e.born=false):∀{es:List MapEntry},es.Pairwise (fun e f=>e.born≠f.born)->e∈es->(mH es (seen.push e.born)).Perm (mH es seen++[cU e])
 |x::l,hp,he=>by
  obtain⟨p1,p2⟩:=List.pairwise_cons.1 hp;rcases List.mem_cons.1 he with rfl|hl
  .have hsame:l.filter (fun y=>(seen.push e.born).contains y.born)=l.filter (fun y=>seen.contains y.born):=by
    refine List.filter_congr fun y hy=>?_;rw[contains_push];have:(y.born == e.born)=false:=by cases hc:y.born == e.born with|false=>rfl|true=>exact absurd (beq_iff_eq.1 hc).symm (p1 y hy)
    rw[this,Bool.or_false]
   unfold mH;rw[List.filter_cons_of_pos (by rw[contains_push];simp),List.filter_cons_of_neg (by rw[hs];decide),hsame,List.map_cons];exact(List.perm_append_singleton _ _).symm
  .have ih:=UJ hs p2 hl;have hx:(x.born == e.born)=false:=by cases hc:x.born == e.born with|false=>rfl|true=>exact absurd (beq_iff_eq.1 hc) (p1 e hl)
   unfold mH at ih |-;by_cases q:seen.contains x.born=true
   .rw[List.filter_cons_of_pos (by rw[contains_push,hx,q];rfl),List.filter_cons_of_pos (p:=fun e:MapEntry=>seen.contains e.born) q,List.map_cons,List.map_cons,List.cons_append];exact ih.cons _
   .rw[List.filter_cons_of_neg (by rw[contains_push,hx,Bool.or_false];exact q),List.filter_cons_of_neg (p:=fun e:MapEntry=>seen.contains e.born) q];exact ih
theorem aho{es:Array MapEntry}{seen:Array Nat}(h:(leftOf es seen).size=0):mH es.toList seen=es.toList.map cU:=by unfold mH;rw[List.filter_eq_self.2 (fun x hx=>all_seen es seen h x hx)]
section
variable{X₂:Cx}{bm it clk:Nat}{es:Array MapEntry}{x:Nat}
structure LI(X₂:Cx)(x bm it clk:Nat)(es:Array MapEntry)(N:List c9)(seen:Array Nat)(W:Cx)(a:Act):Prop where
 rf:RF W 26 ⟨xu,hL N⟩ a
 s0:W.s 0=some (.at it 0)
 A:W.A=fun b=>X₂.A b\/b=x\/b=bm\/b=it
 os:W.w.os=X₂.w.os
 tape:W.w.tape=X₂.w.tape
 out:W.w.output=X₂.w.output
 old:∀b,b<X₂.w.heap.size->W.w.heap[b]?=X₂.w.heap[b]?
 iter:W.w.heap[it]?=some (.mapIter (some bm) clk seen clk)
 bK:∀b,W.bK b->it<b
 perm:N.Perm (mH es.toList seen)
structure LX(X₂:Cx)(x bm it:Nat)(W:Cx)(st:St)(a:Act):Prop where
 rf:RF W 26 st a
 A:W.A=fun b=>X₂.A b\/b=x\/b=bm\/b=it
 os:W.w.os=X₂.w.os
 tape:W.w.tape=X₂.w.tape
 out:W.w.output=X₂.w.output
 old:∀b,b<X₂.w.heap.size->W.w.heap[b]?=X₂.w.heap[b]?
 bK:∀b,W.bK b->it<b
 cq:it<W.w.heap.size
theorem afO{T:Tr AV}{t:Tmp}{v:AV}{R:Type}{f:Tr AV->Option R}{r:R}(h:(match gz 26 T (some t) v with|some T=>f T|none=>none)=some r):∃T',gz 26 T (some t) v=some T'/\f T'=some r:=by
 split at h
 .rename_i T' hT;exact⟨T',hT,h⟩
 .cases h
theorem U1{N:List c9}{v:AV}{K:KN}{k:St->Option (List c9)}{r:List c9}(h:g4 N v K k=some r):∃T,gz 26 xu (some 12) v=some T/\re K o4 qE ⟨T,hL N⟩ k=some r:=by
 unfold g4 at h;split at h
 .rename_i T' hT;exact⟨T',hT,h⟩
 .cases h
theorem apR{W:Cx}{u:AV}{V:Value}(h:Rel W u V):Rel W (.cG [u]) (.tuple #[V]):=⟨[V],rfl,V,[],rfl,h,rfl⟩
theorem apS{W:Cx}{u u':AV}{V V':Value}(h:Rel W u V)(h':Rel W u' V'):Rel W (.cG [u,u']) (.tuple #[V,V']):=⟨[V,V'],rfl,V,[V'],rfl,h,V',[],rfl,h',rfl⟩
theorem apT{W:Cx}{u u' u'':AV}{V V' V'':Value}(h:Rel W u V)(h':Rel W u' V')(h'':Rel W u'' V''):Rel W (.cG [u,u',u'']) (.tuple #[V,V',V'']):=⟨[V,V',V''],rfl,V,[V',V''],rfl,h,V',[V''],rfl,h',V'',[],rfl,h'',rfl⟩
theorem UR{W:Cx}{T:Tr AV}{a:Act}{it:Nat}(R:kr W 26 T a)(h:T.get 11=some (.ptr 0 0))(s0:W.s 0=some (.at it 0)):a.eval (.tmp 11)=.pointer (some ⟨it,0,none⟩):=by obtain⟨y,c,h1,h2⟩:=s9 R (c:=.tmp 11) (v:=.ptr 0 0) h;rw[s0]at h1;cases h1;exact h2
theorem ahz{e:Ex}{st:St}{N':List c9}(h:kN some e st=some N'):e=.normal/\st.T.get 11=some (.ptr 0 0)/\∃j τ,st.T.get 2=some (.hd j τ)/\st.h.tr.get j=some (.arr ar N' py):=by
 unfold kN at h;split at h<;>try cases h
 rename_i j τ h2 h11;split at h<;>try cases h
 rename_i σ L t hg;split at h<;>try cases h
 rename_i he ht;have ht:=bE ht;subst ht;obtain rfl:=Sh.fE he;exact⟨rfl,h11,j,τ,h2,hg⟩
theorem ahx{e:Ex}{st:St}{N':List c9}(h:kE some e st=some N'):e=.ret/\∃j τ,lN pP st Tryz.f83.results.toList=some [.hd j τ]/\st.h.tr.get j=some (.arr ar N' py):=by
 unfold kE at h;split at h<;>try cases h
 rename_i j τ hr;split at h<;>try cases h
 rename_i σ L t hg;split at h<;>try cases h
 rename_i he ht;have ht:=bE ht;subst ht;obtain rfl:=Sh.fE he;exact⟨rfl,j,τ,hr,hg⟩
theorem ahy{st:St}{N':List c9}(h:kF pC st=some N'):st.T.get 13=some (.bool false)/\rk (kB pC k0) tJ st (kE some)=some N':=by
 unfold kF at h;split at h<;>try cases h
 rename_i h13;exact⟨h13,h⟩
theorem ahA{k v:Int}{st:St}{N':List c9}(h:kT k v st=some N'):st.T.get 13=some (.bool true)/\st.T.get 11=some (.ptr 0 0)/\∃T,gz 26 st.T (some 14) (.cG [.int .u64 k,.int .u64 v])=some T/\re k0 o5 oB ⟨T,st.h⟩ (fun st=>rk k0 c6 st (kN some))=some N':=by
 unfold kT at h;split at h<;>try cases h
 rename_i h13 h11;exact⟨h13,h11,afO h⟩
theorem r4:List.range o4.size=List.range' 0 (1+1):=by kernel_rfl
theorem r5:List.range o5.size=List.range' 0 (4+1):=by kernel_rfl
theorem t4(i:Nat)(hi:i<qE.length):qE[i]?=o4[1+i]?:=by
 have:qE.length=1:=by kernel_rfl
 have h0:qE[0]?=o4[1]?:=by kernel_rfl
 obtain rfl:i=0:=by omega
 exact h0
theorem t5(i:Nat)(hi:i<oB.length):oB[i]?=o5[1+i]?:=by
 have:oB.length=4:=by kernel_rfl
 have h0:oB[0]?=o5[1]?:=by kernel_rfl
 have h1:oB[1]?=o5[2]?:=by kernel_rfl
 have h2:oB[2]?=o5[3]?:=by kernel_rfl
 have h3:oB[3]?=o5[4]?:=by kernel_rfl
 rcases i with _|_|_|_|i
 .exact h0
 .exact h1
 .exact h2
 .exact h3
 .omega
theorem UN{a:Act}{o:Oper}{w w':World}{V:Value}{it:Nat}(hop:o.op=.next (.tmp 11) false)(hev:a.eval (.tmp 11)=.pointer (some ⟨it,0,none⟩))(h:(Instr.next (.pointer (some ⟨it,0,none⟩)) false o.type).run pP w=.ok V w'):(execOp a.eval o).run pP w=.ok (.value V) w':=by simp only[execOp,hop,hev,Sem.run_bind,h,Result.andThen_ok,Sem.run_pure]
theorem afF{a:Act}{o:Oper}{w w':World}{V:Value}{it:Nat}(hop:o.op=.entry (.tmp 11))(hev:a.eval (.tmp 11)=.pointer (some ⟨it,0,none⟩))(h:(Instr.entry (.pointer (some ⟨it,0,none⟩))).run pP w=.ok V w'):(execOp a.eval o).run pP w=.ok (.value V) w':=by simp only[execOp,hop,hev,Sem.run_bind,h,Result.andThen_ok,Sem.run_pure]
theorem afL(hb:X₂.w.heap[bm]?=some (.map es clk))(hit:it=X₂.w.heap.size)(hst:∀e∈es.toList,e.born<clk)(hnd:es.toList.Pairwise (fun e f=>e.born≠f.born))(hdat:∀e∈es.toList,e.key=.int .u64 (cU e).1/\e.val=.int .u64 (cU e).2.1)(hlen:es.size<=1000000)
  (hkey:((es.toList.map cU).map (fun p=>p.1)).Nodup) {Q:Exit->Act->World->Prop}(hQ:∀N W st a,N.Perm (es.toList.map cU)->LX X₂ x bm it W st a->rk (kB pC k0) tJ st (kE some)=some (ib N)->Q (.exit 0) a W.w) :
  ∀(m:Nat) (N:List c9) (seen:Array Nat) (W:Cx) (a:Act),LI X₂ x bm it clk es N seen W a->(leftOf es seen).size<m->Code.rounds pP qP Q m a W.w:=by
 have hbm:bm<X₂.w.heap.size:=fG hb;intro m
 induction m with
 |zero=>intro N seen W a L h;omega|succ m ih=>
  intro N seen W a L hm;have hitW:it<W.w.heap.size:=fG L.iter;have hb':W.w.heap[bm]?=some (.map es clk):=(L.old bm hbm).trans hb;have hev:=UR L.rf.T (by rfl) L.s0;have hNl:N.length<=1000000:=by rw[L.perm.length_eq];unfold mH;rw[aO];exact Nat.le_trans (List.length_filter_le _ _) (by rw[Array.length_toList];exact hlen)
  rw[rounds_succ,shB];refine wp_seq (wp_region ?_);rw[r4];obtain⟨o,ho,hg,hd,hop⟩:=apL;rcases ahJ (P:=pP) W.w o.type it bm clk clk seen es clk L.iter hb' hst (Nat.le_refl _)with⟨hz,hrun⟩|⟨e,he,d,hrun⟩
  .-- all have come
   have hall:N.Perm (es.toList.map cU):=by have:=L.perm;rw[aho hz]at this;exact this
   have hok:vq N=true:=by unfold vq;simp only[Bool.and_eq_true,decide_eq_true_eq];exact⟨((hall.map _).nodup_iff).2 hkey,hNl⟩
   have hE:g4 N (.cG [.bool false]) (kB pC k0) (kF pC)=some (ib N):=by rw[eqF];have:pC.F (N,())=some (ib N,()):=ai hok rfl;exact af this rfl
   obtain⟨T,hT,hre⟩:=U1 hE;obtain⟨st',hk,step⟩:=vA (kB pC k0) qE 1 _ _ _ hre t4;obtain⟨h13,hend⟩:=ahy hk;refine z8 ho hg (UN hop hev hrun) ?_;rw[hd];refine step W _ ⟨L.rf.h,L.rf.T.put (apR (u:=.bool false) (V:=.bool false) rfl) hT,L.rf.H⟩ 0 _ ?_;intro X' a' R' E';refine wp_seq (wp_cond_false (s9 R'.T (c:=.tmp 13) (v:=.bool false) h13) (wp_exit ?_));refine hQ N X' st' a' hall ⟨R',by rw[E'.A,L.A],E'.os.trans L.os,E'.tape.trans L.tape,E'.output.trans L.out,?_,?_,Nat.lt_of_lt_of_le hitW E'.size⟩ hend
   .intro b hb2;exact(E'.frame b (Nat.lt_of_lt_of_le (by omega) (Nat.le_of_lt hitW)) (fun q=>by have:=L.bK b q;omega)).trans (L.old b hb2)
   .intro b q;rcases E'.bK b q with q|q
    .exact L.bK b q
    .omega
  .-- one more
   obtain⟨m1,m2⟩:=mem_left he;obtain⟨ek,ev⟩:=hdat e m1;obtain⟨w',hw'⟩:∃w':World,w'={ W.w with heap:=W.w.heap.setIfInBounds it (.mapIter (some bm) clk (seen.push e.born) clk),drawn:=d }:=⟨_,rfl⟩;rw[<-hw',ek,ev]at hrun;have hget:∀b,b≠it->w'.heap[b]?=W.w.heap[b]?:=by intro b hne;rw[hw'];show(W.w.heap.setIfInBounds it _)[b]?=_;rw[Array.getElem?_setIfInBounds,if_neg (fun q=>hne q.symm)]
   have hiter:w'.heap[it]?=some (.mapIter (some bm) clk (seen.push e.born) clk):=by rw[hw'];show(W.w.heap.setIfInBounds it _)[it]?=_;rw[Array.getElem?_setIfInBounds,if_pos rfl,if_pos hitW]
   have hsz:w'.heap.size=W.w.heap.size:=by rw[hw'];show(W.w.heap.setIfInBounds it _).size=_;rw[Array.size_setIfInBounds]
   have hitA:W.A it:=by rw[L.A];exact .inr (.inr (.inr rfl))
   have RE:gp W { W with w:=w' }:=⟨fun _ _ h=>h,fun b o q r=>⟨(hget b (fun h=>by subst h;exact q (.inl hitA))).trans r,q⟩,fun j l n _ q=>q⟩;have H':aL { W with w:=w' }:=by
    refine⟨fun i o l hi hl=>((L.rf.H).obj i o l hi hl).ext RE (fun b hb=>hget b ?_),L.rf.H.inj,L.rf.H.lt,L.rf.H.cZ,?_,L.rf.H.loc⟩
    .have:=L.bK b ⟨i,o,l,hi,hl,hb⟩;omega
    .intro b q;show b<w'.heap.size;rw[hsz];exact L.rf.H.alt b q
   have hcl:mH es.toList (seen.push e.born)=mH es.toList (seen.push e.born):=rfl;have hlen':List.length (N++[((cU e).1,((cU e).2.1,()))])<=1000001:=by rw[aW];simp;omega
   have hT':g4 N (.cG [.bool true,.int .u64 (cU e).1,.int .u64 (cU e).2.1]) k0 (kT (cU e).1 (cU e).2.1)=some (N++[((cU e).1,((cU e).2.1,()))]):=by rw[eqT];exact ai (ks (by omega) (by omega)) rfl
   obtain⟨T,hT,hre⟩:=U1 hT';obtain⟨st1,hk1,step1⟩:=vA k0 qE 1 _ _ _ hre t4;obtain⟨h13,h11,T14,hT14,hre5⟩:=ahA hk1;refine z8 ho hg (UN hop hev hrun) ?_;rw[hd];refine step1 { W with w:=w' } _ ⟨L.rf.h,(L.rf.T.ext RE).put (apT (u:=.bool true) (V:=.bool true) (u':=.int .u64 (cU e).1) (V':=.int .u64 (cU e).1) (u'':=.int .u64 (cU e).2.1) (V'':=.int .u64 (cU e).2.1) rfl rfl rfl) hT,H'⟩ 0 _ ?_;intro X1 a1 R1 E1;have hnimg:¬Cx.bK { W with w:=w' } it:=fun q=>by have:=L.bK it q;omega
   have hiter1:X1.w.heap[it]?=some (.mapIter (some bm) clk (seen.push e.born) clk):=(E1.frame it (by show it<w'.heap.size;rw[hsz];exact hitW) hnimg).trans hiter;have hold1:∀b,b<X₂.w.heap.size->X1.w.heap[b]?=X₂.w.heap[b]?:=by intro b hb2;refine(E1.frame b (by show b<w'.heap.size;rw[hsz];omega) (fun q=>by have:=L.bK b q;omega)).trans ?_;exact(hget b (by omega)).trans (L.old b hb2)
   have himg1:∀b,X1.bK b->it<b:=by
    intro b q;rcases E1.bK b q with q|q
    .exact L.bK b q
    .have q:w'.heap.size<=b:=q;omega
   have hs1:X1.s 0=some (.at it 0):=E1.sg 0 _ L.s0;refine wp_seq (wp_cond_true (s9 R1.T (c:=.tmp 13) (v:=.bool true) h13) (wp_skip ?_));refine wp_block (wp_seq (wp_region ?_));rw[r5];obtain⟨o',ho',hg',hd',hop'⟩:=apM;have hev1:=UR R1.T h11 hs1;have hent:=af7 (P:=pP) X1.w it bm clk seen es clk e hiter1 ((hold1 bm hbm).trans hb) m1 (by have:=hnd;rw[List.Nodup,List.pairwise_map];exact this);rw[ek,ev]at hent;obtain⟨st2,hk2,step2⟩:=vA k0 oB 1 _ _ _ hre5 t5;obtain⟨ex,st3,hk3,Tk3⟩:=Ad k0 (c:=c6) (by kernel_rfl) hk2;obtain⟨rfl,h11',j,τ,h2',hj⟩:=ahz hk3;refine z8 ho' hg' (afF hop' hev1 hent) ?_;rw[hd'];refine step2 X1 _ ⟨R1.h,R1.T.put (apS (u:=.int .u64 (cU e).1) (V:=.int .u64 (cU e).1) (u':=.int .u64 (cU e).2.1) (V':=.int .u64 (cU e).2.1) rfl rfl) hT14,R1.H⟩ 0 _ ?_;intro X2' a2 R2 E2;refine Tk3 X2' a2 R2.H R2 _ ?_;intro X3 a3 R3 E3;have E13:=E2.trans E3;obtain⟨V2,b1,l,hl,hone,hsl⟩:=R3.T.get 2 _ h2';have hj':X3.h.tr.get j=some (.arr ar (N++[((cU e).1,((cU e).2.1,()))]) py):=by rw[R3.h];exact hj
   have hV2:=hsl _ (gK hj');obtain⟨V11,b11,hp⟩:=R3.T.get 11 _ h11';have hs3:X3.s 0=some (.at it 0):=E13.sg 0 _ hs1;obtain⟨y,c,hp1,hp2⟩:=hp;rw[hs3]at hp1;cases hp1
   let W3:Cx:=⟨fun i=>if i=0 then some (.at it 0)else if i=1 then some l else none,hL (N++[((cU e).1,((cU e).2.1,()))]),X3.w,X3.A⟩
   have hout:∀b,W3.out b->X3.out b:=by
    rintro b (q|⟨i,o2,l2,q1,q2,q3⟩)
    .exact .inl q
    .have q1:(hL (N++[((cU e).1,((cU e).2.1,()))])).tr.get i=some o2:=q1;rw[mL]at q1;by_cases hi:i=1
     .subst hi;have q2:some l=some l2:=q2;cases q2;exact .inr ⟨j,_,l,hj',hl,q3⟩
     .rw[if_neg hi]at q1;cases q1
   have hobj:ja W3 l (.arr ar (N++[((cU e).1,((cU e).2.1,()))]) py):=by have:=R3.H.obj j _ l hj' hl;cases l with|nil=>exact this|cq b c m=>exact this.elim|«at» b c=>obtain⟨cs,tail,q1,q2,q3,q4⟩:=this;exact⟨cs,tail,q1,q2.mono (fun x d q=>q.bj (fun b o r s=>⟨s,fun z=>r (hout b z)⟩)),q3,q4⟩
   have hA3:X3.A=fun b=>X₂.A b\/b=x\/b=bm\/b=it:=by rw[E13.A,E1.A];exact L.A
   have H3:aL W3:=by
    refine⟨?_,?_,?_,?_,?_,?_⟩
    .intro i o2 l2 q1 q2;have q1:(hL (N++[((cU e).1,((cU e).2.1,()))])).tr.get i=some o2:=q1;rw[mL]at q1;by_cases hi:i=1
     .subst hi;rw[if_pos rfl]at q1;cases q1;have q2:some l=some l2:=q2;cases q2;exact hobj
     .rw[if_neg hi]at q1;cases q1
    .intro i i' o2 o3 l2 l3 b q1 q1' _ _ _ _;have q1:(hL (N++[((cU e).1,((cU e).2.1,()))])).tr.get i=some o2:=q1;have q1':(hL (N++[((cU e).1,((cU e).2.1,()))])).tr.get i'=some o3:=q1';rw[mL]at q1 q1';by_cases hi:i=1
     .by_cases hi':i'=1
      .rw[hi,hi']
      .rw[if_neg hi']at q1';cases q1'
     .rw[if_neg hi]at q1;cases q1
    .intro i o2 q1;have q1:(hL (N++[((cU e).1,((cU e).2.1,()))])).tr.get i=some o2:=q1;rw[mL]at q1;by_cases hi:i=1
     .subst hi;show 1<2;omega
     .rw[if_neg hi]at q1;cases q1
    .intro i l2 q;show i<2;rcases i with _|_|i
     .omega
     .omega
     .have q:(if i+1+1=0 then some (Loc.at it 0)else if i+1+1=1 then some l else none)=some l2:=q;rw[if_neg (by omega),if_neg (by omega)]at q;cases q
    .exact R3.H.alt
    .intro i o2 l2 b q1 q2 q3;have q1:(hL (N++[((cU e).1,((cU e).2.1,()))])).tr.get i=some o2:=q1;rw[mL]at q1;by_cases hi:i=1
     .subst hi;have q2:some l=some l2:=q2;cases q2;exact R3.H.loc j _ l b hj' hl q3
     .rw[if_neg hi]at q1;cases q1
   have himg3:∀b,X3.bK b->it<b:=by
    intro b q;rcases E13.bK b q with q|q
    .exact himg1 b q
    .have:=fG hiter1;omega
   refine ih (N++[((cU e).1,((cU e).2.1,()))]) (seen.push e.born) W3 a3 ⟨⟨rfl,⟨R3.T.size,R3.T.defers,?_⟩,H3⟩,rfl,hA3,?_,?_,?_,?_,?_,?_,?_⟩ ?_
   .intro t v ht;rcases UW t v ht with⟨rfl,rfl⟩|⟨rfl,rfl⟩
    .refine⟨V2,b1,l,rfl,hone,?_⟩;intro n hn;have hn:rowOf (hL (N++[((cU e).1,((cU e).2.1,()))])).tr 1=some n:=hn;have hn2:=(gK ((mL (N++[((cU e).1,((cU e).2.1,()))]) 1).trans (if_pos rfl))).symm.trans hn;rw[<-Option.some.inj hn2];exact hV2
    .exact⟨V11,b11,it,0,rfl,hp2⟩
   .exact E13.os.trans (E1.os.trans ((by rw[hw']:w'.os=W.w.os).trans L.os))
   .exact E13.tape.trans (E1.tape.trans ((by rw[hw']:w'.tape=W.w.tape).trans L.tape))
   .exact E13.output.trans (E1.output.trans ((by rw[hw']:w'.output=W.w.output).trans L.out))
   .intro b hb2;refine(E13.frame b ?_ (fun q=>by have:=himg1 b q;omega)).trans (hold1 b hb2);have:=fG hiter1;omega
   .exact(E13.frame it (fG hiter1) (fun q=>by have:=himg1 it q;omega)).trans hiter1
   .rintro b ⟨i,o2,l2,q1,q2,q3⟩;have q1:(hL (N++[((cU e).1,((cU e).2.1,()))])).tr.get i=some o2:=q1;rw[mL]at q1;by_cases hi:i=1
    .subst hi;have q2:some l=some l2:=q2;cases q2;exact himg3 b ⟨j,_,l,hj',hl,q3⟩
    .rw[if_neg hi]at q1;cases q1
   .exact(L.perm.append_right _).trans (UJ m2 hnd m1).symm
   .have:=left_shrinks es seen e he;omega
end
theorem UP{M:List c9}(h:M.Pairwise (fun p q=>p.1<q.1)):(M.map (fun p=>p.1)).Nodup:=by rw[List.Nodup,List.pairwise_map];exact h.imp (fun h=>Int.ne_of_lt h)
def Vh(d:TL wL.σs):Option (Out wK):=ah (decide (List.length d.2.2.1<=1000000)) (some (d.2.2.1,(d.1,(d.2.1,(d.2.2.1,())))))
theorem r3:List.range o3.size=List.range' 0 (4+1):=by kernel_rfl
theorem l3:(o3.toList.take 4).length=4:=by kernel_rfl
theorem t3(i:Nat)(hi:i<(o3.toList.take 4).length):(o3.toList.take 4)[i]?=o3[0+i]?:=by
 rw[l3]at hi;have h0:(o3.toList.take 4)[0]?=o3[0]?:=by kernel_rfl
 have h1:(o3.toList.take 4)[1]?=o3[1]?:=by kernel_rfl
 have h2:(o3.toList.take 4)[2]?=o3[2]?:=by kernel_rfl
 have h3:(o3.toList.take 4)[3]?=o3[3]?:=by kernel_rfl
 rcases i with _|_|_|_|i
 .exact h0
 .exact h1
 .exact h2
 .exact h3
 .omega
theorem U4(a b:Int)(M:List c9)(j:Nat):(nD a b M).tr.get j=if j=0 then some (.cells [.int .i64 a,.int .i64 b,.mp 1] 220)else if j=1 then some (.map .u64 (.int .u64) M)else none:=by
 rcases j with _|_|j
 .rfl
 .rfl
 .have h1:(nD a b M).tr.get (j+1+1)=(Tr.node none (.node (some (bw.map .u64 (.int .u64) M)) .nil .nil) .nil).get (j+1+1):=rfl;rw[h1,V9,if_neg (by omega),if_neg (by omega)]
theorem afK{a:Act}{o:Oper}{w w':World}{V:Value}{t:TypeId}{bm:Nat}(hop:o.op=.range t (.tmp 10))(hev:a.eval (.tmp 10)=.map (some bm))(h:(Instr.range t (.map (some bm))).run pP w=.ok V w'):(execOp a.eval o).run pP w=.ok (.value V) w':=by simp only[execOp,hop,hev,Sem.run_bind,h,Result.andThen_ok,Sem.run_pure]
theorem ahv{e:Ex}{st:St}{h:Hp}(q:kA e st=some h):e=.normal/\re k0 o3 (o3.toList.take 4) st Gl=some h:=by
 unfold kA at q;split at q
 .exact⟨rfl,q⟩
 .cases q
theorem agn{st:St}{h:Hp}(q:Gl st=some h):st.T.get 2=some .bJ/\st.T.get 10=some (.mp 1)/\st.h=h:=by
 unfold Gl at q;split at q<;>try cases q
 rename_i h1 h2;exact⟨h1,h2,rfl⟩
theorem ahw{st:St}{e:Ex}{h:Hp}(q:(match e with|.normal=>rk k0 cB st kA|_=>none)=some h):e=.normal/\rk k0 cB st kA=some h:=by
 split at q
 .exact⟨rfl,q⟩
 .cases q
theorem afa:jv pP 83 ⟨1,wL,1,wK,Vh⟩:=by
 refine⟨⟨Tryz.f83,cC,Tryz.func83,by kernel_rfl,by kernel_rfl⟩,?_⟩;rintro⟨a,b,M,u⟩ oo ho st e st' hput hs X vs args hX H hr hv R;obtain⟨hok,ho⟩:=nz ho;have hlM:M.length<=1000000:=of_decide_eq_true hok
 replace ho:some (M,(a,(b,(M,()))))=some oo:=ho
 obtain rfl:=Option.some.inj ho;have e1:st=⟨.node (some (.ptr 0 0)) .nil .nil,nD a b M⟩:=by
  have:Lay.put 1 wL (a,(b,(M,u)))=some ⟨.node (some (.ptr 0 0)) .nil .nil,nD a b M⟩:=by kernel_rfl
  exact Option.some.inj (hput.symm.trans this)
 subst e1;have e2:(e,st')=(.ret,⟨.node (some (.fz ar M)) .nil .nil,nD a b M⟩):=by
  have:km 1 wK (M,(a,(b,(M,()))))=some (.ret,⟨.node (some (.fz ar M)) .nil .nil,nD a b M⟩):=by kernel_rfl
  exact Option.some.inj (hs.symm.trans this)
 cases e2;have hv':some [AV.ptr 0 0]=some vs:=hv;cases hv';have hXh:X.h=nD a b M:=hX;have hT:kP 26 [AV.ptr 0 0] 0 .nil=some TA:=by kernel_rfl
 refine calls_of_wp (c:=cC) Tryz.func83 (by kernel_rfl) ?_;have S0:=uu H hT R;rw[hXh]at S0;rw[shC];obtain⟨ex,st1,q1,Tk1⟩:=Ad k0 (c:=cA) (by kernel_rfl) (eqA a b M);obtain⟨rfl,q1⟩:=ahw q1;obtain⟨ex,st2,q2,Tk2⟩:=Ad k0 (c:=cB) (by kernel_rfl) q1;obtain⟨rfl,q2⟩:=ahv q2;obtain⟨st3,q3,step3⟩:=vA k0 (o3.toList.take 4) 0 _ _ _ q2 t3;obtain⟨g2,g10,gh⟩:=agn q3;refine wp_seq (Tk1 X _ H S0 _ ?_);intro X1 a1 R1 E1;refine wp_seq (Tk2 X1 a1 R1.H R1 _ ?_);intro X2 a2 R2 E2;refine wp_seq (wp_seq (wp_region ?_));rw[r3,<-l3];refine step3 X2 a2 R2 1 _ ?_;intro Y ay RY EY;rw[l3];have EXY:aS X Y:=(E1.trans E2).trans EY;have hYh:Y.h=nD a b M:=RY.h.trans gh;obtain⟨V0,r0,rfl,⟨x,c,hs0,rfl⟩,hr0⟩:=R;have:r0=[]:=hr0;subst this;have hs0Y:Y.s 0=some (.at x c):=EXY.sg 0 _ hs0;obtain⟨V2,v1,v2⟩:=RY.T.get 2 _ g2;have v2:V2=.slice none 0 0:=v2;subst v2;have hev10:=s9 RY.T (c:=.tmp 10) (v:=.mp 1) g10;obtain⟨bm,c1,hs1Y,hev⟩:=hev10;have ho0:=RY.H.obj 0 _ _ (by rw[hYh];exact(U4 a b M 0).trans (if_pos rfl)) hs0Y;have ho1:=RY.H.obj 1 _ _ (by rw[hYh];exact((U4 a b M 1).trans (if_neg (by decide))).trans (if_pos rfl)) hs1Y;obtain⟨bx,cx,cs0,ebx,hbx,_⟩:=ho0;cases ebx;obtain⟨bm',cm,es,clk,ebm,hbm,N0,hperm,hents,hsort,hst,hnd⟩:=ho1;cases ebm;obtain⟨hdat1,hdat2⟩:=UG hents;have hxlt:x<Y.w.heap.size:=fG hbx;have hblt:bm<Y.w.heap.size:=fG hbm;obtain⟨o,hoo,hg,hd,hop⟩:=apK;refine z8 hoo hg (afK hop hev (run_range_map Y.w _ _ _ bm es clk Tryz.underlying218 hbm)) ?_;rw[hd]
 let it:=Y.w.heap.size
 let A3:Nat->Prop:=fun z=>Y.A z\/z=x\/z=bm\/z=it
 let w3:World:=Y.w.alloc (.mapIter (some bm) clk #[] clk)
 let W:Cx:=⟨fun i=>if i=0 then some (.at it 0)else if i=1 then some .nil else none,hL [],w3,A3⟩
 have hsz3:w3.heap.size=Y.w.heap.size+1:=by show(Y.w.heap.push _).size=_;rw[Array.size_push]
 have hold3:∀z,z<Y.w.heap.size->w3.heap[z]?=Y.w.heap[z]?:=fun z hz=>heap_alloc_old Y.w _ hz;have hnimg:∀z,¬W.bK z:=by
  rintro z ⟨i,o2,l2,p1,p2,p3⟩;have p1:(hL []).tr.get i=some o2:=p1;rw[mL]at p1;by_cases hi:i=1
  .subst hi;have p2:some Loc.nil=some l2:=p2;cases p2;exact p3
  .rw[if_neg hi]at p1;cases p1
 have HW:aL W:=by
  refine⟨?_,?_,?_,?_,?_,?_⟩
  .intro i o2 l2 p1 p2;have p1:(hL []).tr.get i=some o2:=p1;rw[mL]at p1;by_cases hi:i=1
   .subst hi;rw[if_pos rfl]at p1;cases p1;have p2:some Loc.nil=some l2:=p2;cases p2;exact(rfl:([]:List c9)=[])
   .rw[if_neg hi]at p1;cases p1
  .intro i i' o2 o3 l2 l3 z p1 p1' p2 _ p3 _;exact absurd ⟨i,o2,l2,p1,p2,p3⟩ (hnimg z)
  .intro i o2 p1;have p1:(hL []).tr.get i=some o2:=p1;rw[mL]at p1;by_cases hi:i=1
   .subst hi;show 1<2;omega
   .rw[if_neg hi]at p1;cases p1
  .intro i l2 q;show i<2;rcases i with _|_|i
   .omega
   .omega
   .have q:(if i+1+1=0 then some (Loc.at it 0)else if i+1+1=1 then some .nil else none)=some l2:=q;rw[if_neg (by omega),if_neg (by omega)]at q;cases q
  .intro z hz;show z<w3.heap.size;rw[hsz3];rcases hz with hz|rfl|rfl|rfl
   .have:=RY.H.alt z hz;omega
   .omega
   .omega
   .show Y.w.heap.size<_;omega
  .intro i o2 l2 z p1 p2 p3;exact absurd ⟨i,o2,l2,p1,p2,p3⟩ (hnimg z)
 have hput:∀t,t≠11->∀v,(ay.put (some 11) v).tmps[t]?=ay.tmps[t]?:=by intro t ht v;unfold Act.put;simp only[];rw[Array.getElem?_setIfInBounds,if_neg (fun q=>ht q.symm)]
 have LI0:LI Y x bm it clk es [] #[] W (ay.put (some 11) (.pointer (some ⟨it,0,none⟩))):=by
  refine⟨⟨rfl,⟨?_,RY.T.defers,?_⟩,HW⟩,rfl,rfl,rfl,rfl,rfl,hold3,?_,fun z hz=>absurd hz (hnimg z),?_⟩
  .have:=RY.T.size;unfold Act.put;simp only[];rw[Array.size_setIfInBounds];exact this
  .intro t v ht;rcases UW t v ht with⟨rfl,rfl⟩|⟨rfl,rfl⟩
   .refine⟨.slice none 0 0,(hput 2 (by decide) _).trans v1,.nil,rfl,rfl,?_⟩;intro n hn;have hn:rowOf (hL []).tr 1=some n:=hn;have hn2:=(gK ((mL [] 1).trans (if_pos rfl))).symm.trans hn;rw[<-Option.some.inj hn2];rfl
   .refine⟨.pointer (some ⟨it,0,none⟩),?_,it,0,rfl,rfl⟩;unfold Act.put;simp only[];rw[Array.getElem?_setIfInBounds,if_pos rfl,if_pos (by rw[RY.T.size];decide)]
  .exact heap_alloc_new Y.w _
  .rw[agi]
 have hkey:((es.toList.map cU).map (fun p=>p.1)).Nodup:=by rw[hdat1];refine((hperm.map _).nodup_iff).2 ?_;exact UP hsort
 have hesl:es.size<=1000000:=by
  have h1:(es.toList.map cU).length=M.length:=by rw[hdat1];exact hperm.length_eq
  rw[aO,Array.length_toList]at h1;omega
 show Code.wp pP (.block 0 (.loop qP)) _ _ w3;refine wp_block (wp_loop_rounds (es.size+1) ?_);refine afL (X₂:=Y) (x:=x) hbm rfl hst hnd hdat2 hesl hkey ?_ (es.size+1) [] #[] W _ LI0 ?_
 .intro N Z stz az hN LZ hend;obtain⟨ex,st5,k5,Tk5⟩:=Ad (kB pC k0) (c:=tJ) (by kernel_rfl) hend;obtain⟨rfl,j,τ,hres,hj⟩:=ahx k5;show Code.wp pP tJ _ az Z.w;refine Tk5 Z az LZ.rf.H LZ.rf _ ?_;intro Z' az' RZ' EZ;have hM:ib N=M:=by
   have h1:N.Perm M:=by rw[hdat1]at hN;exact hN.trans hperm
   have hkM:(M.map (fun p=>p.1)).Nodup:=UP hsort;exact UT hkM ((Ix N).trans h1) (List.Perm.refl M) (US N) (hsort.imp (fun h=>Int.le_of_lt h))
  rw[hM]at hj;obtain⟨Vs,hrun,hrel⟩:=FO RZ' hres;obtain⟨V,r,rfl,⟨l,hl,hone,hsl⟩,hr2⟩:=hrel;have:r=[]:=hr2;subst this;have hj':Z'.h.tr.get j=some (.arr ar M py):=by rw[RZ'.h];exact hj
  have hV:=hsl _ (gK hj');have himg:∀z,Z'.bK z->it<z:=by
   intro z q;rcases EZ.bK z q with q|q
   .exact LZ.bK z q
   .have:=LZ.cq;omega
  have hold:∀z,z<Y.w.heap.size->Z'.w.heap[z]?=Y.w.heap[z]?:=by intro z hz;refine(EZ.frame z (by have:=LZ.cq;omega) (fun q=>by have:=LZ.bK z q;omega)).trans (LZ.old z hz)
  have hsize:Y.w.heap.size<=Z'.w.heap.size:=by have:=EZ.size;have:=LZ.cq;omega
  let X':Cx:=⟨Y.s,nD a b M,Z'.w,Y.A⟩
  have himgX:∀z,X'.bK z↔Y.bK z:=by
   intro z;constructor
   .rintro⟨i,o2,l2,p1,p2,p3⟩;exact⟨i,o2,l2,by rw[hYh];exact p1,p2,p3⟩
   .rintro⟨i,o2,l2,p1,p2,p3⟩;exact⟨i,o2,l2,by rw[hYh]at p1;exact p1,p2,p3⟩
  have RX:gp Y X':=by
   refine⟨fun _ _ h=>h,?_,?_⟩
   .intro z ob p1 p2;refine⟨(hold z (fG p2)).trans p2,?_⟩;rintro(q|q)
    .exact p1 (.inl q)
    .exact p1 (.inr ((himgX z).1 q))
   .intro i l2 n _ q;rw[hYh];exact q
  have HX':aL X':=by
   refine⟨?_,?_,?_,?_,?_,?_⟩
   .intro i o2 l2 p1 p2;have p1':Y.h.tr.get i=some o2:=by rw[hYh];exact p1
    exact(RY.H.obj i o2 l2 p1' p2).ext RX (fun z hz=>hold z (RY.H.ji p1' p2 hz))
   .intro i i' o2 o3 l2 l3 z p1 p1';exact RY.H.inj i i' o2 o3 l2 l3 z (by rw[hYh];exact p1) (by rw[hYh];exact p1')
   .intro i o2 p1;have:=RY.H.lt i o2 (by rw[hYh];exact p1);rw[hYh]at this;exact this
   .intro i l2 p1;have:=RY.H.cZ i l2 p1;rw[hYh]at this;exact this
   .intro z hz;exact Nat.lt_of_lt_of_le (RY.H.alt z hz) hsize
   .intro i o2 l2 z p1;exact RY.H.loc i o2 l2 z (by rw[hYh];exact p1)
  have EYX:aS Y X':=by
   refine⟨EZ.os.trans LZ.os,EZ.tape.trans LZ.tape,EZ.output.trans LZ.out,hsize,fun _ _ h=>h,fun _ _ _ h=>h,by rw[hYh];exact Nat.le_refl _,fun z hz _=>hold z hz,fun z hz=>.inl ((himgX z).1 hz),?_,?_,rfl⟩
   .intro i n _ q;rw[hYh];exact q
   .intro i _ _;rw[hYh]
  refine⟨RZ'.T.defers,V,hrun,X',[V],rfl,rfl,rfl,HX',EXY.trans EYX,?_⟩;intro us hus;have hus:some [AV.fz ar M]=some us:=hus;cases hus;refine⟨V,[],rfl,?_,rfl⟩;have ob:=RZ'.H.obj j _ l hj' hl;show Cs Z'.w X'.out (.sl ar) M [V];have hV:V=l.slice M.length:=hV;cases l with
  |nil=>have hMn:M=[]:=ob;subst hMn;exact⟨none,0,0,by rw[hV];rfl,rfl,Nat.le_refl _,fun q=>absurd rfl q⟩|cq bb cc mm=>exact(ob:False).elim|«at» bb cc=>
   obtain⟨cs,tail,p1,p2,p3,p4⟩:=ob;have hbb:it<bb:=himg bb ⟨j,_,_,hj',hl,rfl⟩;refine⟨some ⟨bb,0,none⟩,M.length,cc,by rw[hV];rfl,rfl,p4,fun _=>⟨bb,0,cs,rfl,?_,sK.2 (sK.1 p2),⟨_,_,_,p1,?_⟩⟩⟩
   .rintro(q|q)
    .have:=RY.H.alt bb q;omega
    .have:=RY.H.vU ((himgX bb).1 q);omega
   .intro i u hu;rw[Nat.zero_add,List.getElem?_toArray,List.getElem?_append_left (by
     rcases Nat.lt_or_ge i cs.length with q|q
     .exact q
     .rw[List.getElem?_eq_none q]at hu;cases hu)]
    exact hu
 .refine Nat.lt_succ_of_le ?_;unfold leftOf;exact Array.size_filter_le
def Hy:OD:=⟨Vh,afa⟩
def Hw:OC:=Hy.F
abbrev qh:List LA:=[.int .i64,.fz (.int .i64),.fz ae,.fz (.int .i64),.fz (.int .i64),.fz (.int .i64),.fz ab,.fz ae,.fz au,.hd 1 .bool,.dw 2]
abbrev xn:List (Nat×LO):=[(0,.cells qh 145),(1,.arr .bool 4),(2,.dm 220),(3,.cells [.hd 4 .bool,.bool] 55),(4,.arr .bool 4),(5,.arr .bool 4)]
abbrev tY:List (Nat×LO):=[(0,.cells qh 145),(1,.arr .bool 4),(2,.dm 220),(3,.cells [.hd 4 .bool] 37),(4,.arr .bool 4)]
abbrev xo:List (Nat×LO):=[(0,.cells ej 27),(1,.cells [.fz .bool,.fz (.sl ar)] 40),(2,.arr .bool 4)]
abbrev Pb:List (Nat×LO):=[(0,.cells ej 27),(1,.cells [.fz .bool,.fz (.sl ar)] 40),(2,.cells [.bJ,.bJ] 40),(3,.cells [.hd 4 .bool,.hd 5 (.sl ar)] 40),(4,.arr .bool 4),(5,.arr (.sl ar) 104)]
abbrev tZ:List (Nat×LO):=[(0,.cells qh 145),(1,.arr .bool 4),(2,.dm 220),(3,.arr .bool 4)]
abbrev Ea:List (Nat×LO):=[(0,.cells qh 145),(1,.arr .bool 4),(2,.dm 220)]
abbrev adp:List (Nat×LO):=[(0,.cells ej 27),(1,.cells [.fz .bool,.fz (.sl ar)] 40),(2,.cells [.bJ,.bJ] 40),(3,.cells [.hd 4 .bool,.bJ] 40),(4,.arr .bool 4)]
abbrev adq:List (Nat×LO):=[(0,.cells qh 145),(1,.arr .bool 4),(2,.dm 220),(3,.cells [.hd 4 .bool,.hd 5 (.sl ar)] 40),(4,.arr .bool 4),(5,.arr (.sl ar) 104)]
abbrev adr:Lay:={ T:=[(3,.ptr 0 0),(4,.ptr 1 0),(7,.hd 2 .bool),(10,.fz bh),(12,.int .i64)],h:=xo,nx:=3 }
abbrev Wn:List (Nat×LO):=[(0,.cells qh 145),(1,.arr .bool 4),(2,.dm 220),(3,.cells [.bJ,.bool] 55),(4,.arr .bool 4)]
abbrev BC:Lay:=adr
abbrev Bt:List (Ev.Ex×Lay):=[((.exit 4),{ T:=[(7,.hd 0 .bool)],h:=[(0,.arr .bool 4)],nx:=1 })]
abbrev ZR:=TL BC.σs->Option (Out Bt)
abbrev Ls:=Ld 0 133 (bp [2] (aU Tryz.f122)) BC Bt
abbrev BB:Lay:={ T:=[(3,.ptr 0 0),(4,.ptr 1 0),(7,.hd 2 .bool),(10,.fz bh),(12,.int .i64),(13,.ptr 3 0),(14,.fz .bool),(15,.int .i64)],h:=[(0,.cells ej 27),(1,.cells [.fz .bool,.fz (.sl ar)] 40),(2,.arr .bool 4),(3,.cells [.bool,.int .i64,.int .i64,.fz (.int .i64),.fz (.int .i64)] 237)],nx:=4 }
abbrev Bs:List (Ev.Ex×Lay):=[((.exit 6),adr)]
abbrev Lp:=TL BB.σs->Option (Out Bs)
abbrev Lr:=Ld 0 133 (bp [2,0] (aU Tryz.f122)) BB Bs
abbrev BJ:Lay:={ T:=[(3,.ptr 0 0),(4,.ptr 1 0),(7,.hd 2 .bool),(9,.int .i64)],h:=xo,nx:=3 }
abbrev Bz:List (Ev.Ex×Lay):=[((.exit 2),{ T:=[(3,.ptr 0 0),(4,.ptr 1 0),(7,.hd 2 .bool)],h:=xo,nx:=3 })]
abbrev Z3:=TL BJ.σs->Option (Out Bz)
abbrev Z5:=Ld 0 133 (bp [1] (aU Tryz.f122)) BJ Bz
abbrev BK:Lay:={ T:=[(2,.fz .bool),(3,.ptr 0 0),(4,.ptr 1 0),(7,.hd 2 .bool),(8,.int .i64)],h:=xo,nx:=3 }
abbrev BA:List (Ev.Ex×Lay):=[((.exit 0),{ T:=[(3,.ptr 0 0),(4,.ptr 1 0),(7,.hd 2 .bool)],h:=xo,nx:=3 })]
abbrev Z4:=TL BK.σs->Option (Out BA)
abbrev Z6:=Ld 0 133 (bp [0] (aU Tryz.f122)) BK BA
def Cm(t2:List Bool)(t8 aC:Int)(aB:List Int)(aG:List (Sh.T ae))(aH aI aJ:List Int)(aw:List (Sh.T ab))(aE:List (Sh.T ae))(bO:List Bool)(bL:List (List (Sh.T ar)))(b2:List Bool):Option (TL BK.σs⊕Out BA):=
 br (iL t8 (Int.ofNat (List.length aB)))
 (
  ah (aq t8 (List.length aB))<|
  ah (aq t8 (List.length t2))<|
  ah (aq (gt (.int .i64) aB t8) (List.length b2))<|
  some (.inl (t2,((IntKind.wrap .i64 (t8+(1:Int))),(aC,(aB,(aG,(aH,(aI,(aJ,(aw,(aE,(bO,(bL,((List.set b2 (Int.toNat (gt (.int .i64) aB t8)) (gt .bool t2 t8)),())))))))))))))))
 (
  some (.inr (aC,(aB,(aG,(aH,(aI,(aJ,(aw,(aE,(bO,(bL,(b2,())))))))))))))
def amR  :Z6:=bu (gZ Cm) (pL k0 e0 1 l0 fun d=>by kernel_rfl)
def LG:Z4:=aQ (gZ Cm) NN
def Cl(t9 aC:Int)(aB:List Int)(aG:List (Sh.T ae))(aH aI aJ:List Int)(aw:List (Sh.T ab))(aE:List (Sh.T ae))(bO:List Bool)(bL:List (List (Sh.T ar)))(b2:List Bool):Option (TL BJ.σs⊕Out Bz):=
 br (iL t9 (Int.ofNat (List.length aG)))
 (
  ah (aq t9 (List.length aG))<|
  ah (aq t9 (List.length bO))<|
  ah (aq (gt ae aG t9).1 (List.length b2))<|
  some (.inl ((IntKind.wrap .i64 (t9+(1:Int))),(aC,(aB,(aG,(aH,(aI,(aJ,(aw,(aE,(bO,(bL,((List.set b2 (Int.toNat (gt ae aG t9).1) (gt .bool bO t9)),()))))))))))))))
 (
  some (.inr (aC,(aB,(aG,(aH,(aI,(aJ,(aw,(aE,(bO,(bL,(b2,())))))))))))))
def amQ  :Z5:=bu (iZ Cl) (pL k0 e0 1 l0 fun d=>by kernel_rfl)
def LF:Z3:=aQ (iZ Cl) NN
def B2(t10:List (Sh.T bh))(t12:Int)(t14:List Bool)(t15 aC:Int)(aB:List Int)(aG:List (Sh.T ae))(aH aI aJ:List Int)(aw:List (Sh.T ab))(aE:List (Sh.T ae))(bO:List Bool)(bL:List (List (Sh.T ar)))(b2:List Bool)(iG:Bool)(dq iH:Int)(iI gL:List Int):Option (TL BB.σs⊕Out Bs):=
 br (iL t15 (Int.ofNat (List.length t14)))
 (
  ah (aq t15 (List.length gL))<|
  ah (aq t15 (List.length t14))<|
  ah (aq (gt (.int .i64) gL t15) (List.length b2))<|
  some (.inl (t10,(t12,(t14,((IntKind.wrap .i64 (t15+(1:Int))),(aC,(aB,(aG,(aH,(aI,(aJ,(aw,(aE,(bO,(bL,((List.set b2 (Int.toNat (gt (.int .i64) gL t15)) (gt .bool t14 t15)),(iG,(dq,(iH,(iI,(gL,()))))))))))))))))))))))
 (
  some (.inr (t10,(t12,(aC,(aB,(aG,(aH,(aI,(aJ,(aw,(aE,(bO,(bL,(b2,())))))))))))))))
def ZS  :Lr:=bu (lT B2) (pL k0 e0 1 l0 fun d=>by kernel_rfl)
def B1:Lp:=aQ (lT B2) NN
def B3(F0:pX)(F1:wz)(F2:wh)(F3:l6)(L19:Lp)(t10:List (Sh.T bh))(t12 aC:Int)(aB:List Int)(aG:List (Sh.T ae))(aH aI aJ:List Int)(aw:List (Sh.T ab))(aE:List (Sh.T ae))(bO:List Bool)(bL:List (List (Sh.T ar)))(b2:List Bool):Option (TL BC.σs⊕Out Bt):=
 br (iL t12 (Int.ofNat (List.length t10)))
 (
  ah (aq t12 (List.length t10))<|
  br (Bool.not (gt bh t10 t12).1)
  (
   ah (aq (0:Int) (List.length (gt bh t10 t12).2.2.2.2.1))<|
   ah (aq (0:Int) (List.length (gt bh t10 t12).2.2.2.1))<|
   aj (F3 ((gt (.int .i64) (gt bh t10 t12).2.2.2.1 (0:Int)),(b2,()))) fun x0=>
   br x0.1
   (
    ah (aq (1:Int) (List.length (gt bh t10 t12).2.2.2.1))<|
    aj (F3 ((gt (.int .i64) (gt bh t10 t12).2.2.2.1 (1:Int)),(b2,()))) fun x1=>
    ah (aq (gt (.int .i64) (gt bh t10 t12).2.2.2.2.1 (0:Int)) (List.length b2))<|
    some (.inl (t10,((IntKind.wrap .i64 (t12+(1:Int))),(aC,(aB,(aG,(aH,(aI,(aJ,(aw,(aE,(bO,(bL,((List.set b2 (Int.toNat (gt (.int .i64) (gt bh t10 t12).2.2.2.2.1 (0:Int))) (aV true x1.1 false)),())))))))))))))))
   (
    ah (aq (gt (.int .i64) (gt bh t10 t12).2.2.2.2.1 (0:Int)) (List.length b2))<|
    some (.inl (t10,((IntKind.wrap .i64 (t12+(1:Int))),(aC,(aB,(aG,(aH,(aI,(aJ,(aw,(aE,(bO,(bL,((List.set b2 (Int.toNat (gt (.int .i64) (gt bh t10 t12).2.2.2.2.1 (0:Int))) false),()))))))))))))))))
  (
   ah (aq (gt bh t10 t12).2.1 (List.length bL))<|
   ah (aq (gt bh t10 t12).2.1 (List.length aw))<|
   aj (F2 ((gt bh t10 t12).2.2.2.1,(b2,()))) fun x0=>
   aj (F1 ((gt (.sl ar) bL (gt bh t10 t12).2.1),(x0.1,()))) fun x1=>
   aj (F0 (x1.1,((gt ab aw (gt bh t10 t12).2.1).2.1,()))) fun x2=>
   aj (L19 (t10,(t12,(x2.1,((0:Int),(aC,(aB,(aG,(aH,(aI,(aJ,(aw,(aE,(bO,(bL,(b2,((gt bh t10 t12).1,((gt bh t10 t12).2.1,((gt bh t10 t12).2.2.1,((gt bh t10 t12).2.2.2.1,((gt bh t10 t12).2.2.2.2.1,()))))))))))))))))))))) fun x3=>
   some (.inl (x3.1,((IntKind.wrap .i64 (@HAdd.hAdd (Int) (Int) (Int) _ x3.2.1 (1:Int))),x3.2.2)))))
 (
  some (.inr (b2,())))
def amI(c0:oP)(c1:tv)(c2:th)(c3:lx)(M19:Lr):Ls:=bu (gZ (B3 c0.F c1.F c2.F c3.F M19.L)) (pL (kD c0 (kD c1 (kD c2 (kD c3 k0)))) e0 1 (sC M19 l0) fun d=>by kernel_rfl)
def amH:Ls:=amI pY wA wi l8 ZS
def Lq:ZR:=aQ (gZ (B3 oO tu q9 j8 B1)) NN
abbrev Z2:List Sh:=[ba,cr,(.sl .bool)]
abbrev LD:List Sh:=[(.sl .bool)]
abbrev Mb:=TL Z2->Option (TL LD)
abbrev CA:=Kd 122 Z2 LD
def Md(F0:pX)(F1:wz)(F2:wh)(F3:l6)(F4:aa6)(L3:Z4)(L7:Z3)(L12:ZR)(L19:Lp)(a0:Sh.T ba)(a1:Sh.T cr)(a2:List Bool):Option (TL LD):=
 ah (both (iE (0:Int) (IntKind.wrap .i64 (@HAdd.hAdd (Int) (Int) (Int) _ a0.1 (1:Int)))) (both (iE (IntKind.wrap .i64 (@HAdd.hAdd (Int) (Int) (Int) _ a0.1 (1:Int))) (IntKind.wrap .i64 (@HAdd.hAdd (Int) (Int) (Int) _ a0.1 (1:Int)))) (iE ((Int.ofNat 1)*(IntKind.wrap .i64 (@HAdd.hAdd (Int) (Int) (Int) _ a0.1 (1:Int)))) (281474976710656:Int))))<|
 aj (L3 (a2,((0:Int),(a0.1,(a0.2.1,(a0.2.2.1,(cQ a0,(cR a0,(cX a0,(cT a0,(dc a0,(a1.1,(a1.2.1,((List.replicate (Int.toNat (IntKind.wrap .i64 (@HAdd.hAdd (Int) (Int) (Int) _ a0.1 (1:Int)))) (Sh.zero .bool)),())))))))))))))) fun x0=>
 aj (L7 ((0:Int),x0)) fun x1=>
 aj (F4 ((x1.1,(x1.2.1,(x1.2.2.1,(cQ x1,(cR x1,(cX x1,(cT x1,(dc x1,())))))))),())) fun x2=>
 aj (L12 (x2.1,((0:Int),x1))) fun x3=>
 some (x3.1,())
def am5(c0:oP)(c1:tv)(c2:th)(c3:lx)(c4:MQ)(M3:Z6)(M7:Z5)(M12:Ls)(M19:Lr):CA:=⟨u3 (Md c0.F c1.F c2.F c3.F c4.F M3.L M7.L M12.L M19.L),pD Tryz.func122 133 (kD c0 (kD c1 (kD c2 (kD c3 (kD c4 k0))))) e0 1 (sS (sC M3 (sC M7 (sC M12 l0)))) fun d=>by kernel_rfl⟩
def Mc:CA:=am5 pY wA wi l8 aa7 amR amQ amH ZS
def Yp:Mb:=Mc.F
abbrev Cn:Lay:={ T:=[(2,.fz .bool),(3,.ptr 0 0),(4,.ptr 1 0),(6,.ptr 2 0),(7,.ptr 3 0),(9,.int .i64)],h:=Pb,nx:=6 }
abbrev B4:List (Ev.Ex×Lay):=[((.exit 2),{ T:=[(6,.ptr 0 0),(7,.ptr 1 0)],h:=[(0,.cells [.bJ,.bJ] 40),(1,.cells [.hd 2 .bool,.hd 3 (.sl ar)] 40),(2,.arr .bool 4),(3,.arr (.sl ar) 104)],nx:=4 })]
abbrev aaO:=TL Cn.σs->Option (Out B4)
abbrev MB:=Ld 0 86 (bp [1] (aU Tryz.f125)) Cn B4
abbrev B6:Lay:={ T:=[(2,.fz .bool),(3,.ptr 0 0),(4,.ptr 1 0),(6,.ptr 2 0),(7,.ptr 3 0),(9,.int .i64),(10,.fz ar),(11,.int .i64)],h:=Pb,nx:=6 }
abbrev BL:List (Ev.Ex×Lay):=[((.exit 4),{ T:=[(2,.fz .bool),(3,.ptr 0 0),(4,.ptr 1 0),(6,.ptr 2 0),(7,.ptr 3 0),(9,.int .i64),(10,.fz ar)],h:=Pb,nx:=6 })]
abbrev Me:=TL B6.σs->Option (Out BL)
abbrev CB:=Ld 0 86 (bp [1,0] (aU Tryz.f125)) B6 BL
abbrev Co:Lay:={ T:=[(2,.fz .bool),(3,.ptr 0 0),(4,.ptr 1 0),(6,.ptr 2 0),(7,.ptr 3 0),(8,.int .i64)],h:=adp,nx:=5 }
abbrev B5:List (Ev.Ex×Lay):=[((.exit 0),{ T:=[(2,.fz .bool),(3,.ptr 0 0),(4,.ptr 1 0),(6,.ptr 2 0),(7,.ptr 3 0)],h:=adp,nx:=5 })]
abbrev aaP:=TL Co.σs->Option (Out B5)
abbrev MC:=Ld 0 86 (bp [0] (aU Tryz.f125)) Co B5
def CM(F2:l6)(t2:List Bool)(t8 aC:Int)(aB:List Int)(aG:List (Sh.T ae))(aH aI aJ:List Int)(aw:List (Sh.T ab))(aE:List (Sh.T ae))(bO:List Bool)(bL:List (List (Sh.T ar)))(b4:List Bool):Option (TL Co.σs⊕Out B5):=
 br (iL t8 (Int.ofNat (List.length aG)))
 (
  ah (aq t8 (List.length aG))<|
  aj (F2 ((gt ae aG t8).2.1,(t2,()))) fun x0=>
  ah (room 1 (List.length (ap b4 (x0.1::[]))))<|
  some (.inl (t2,((IntKind.wrap .i64 (t8+(1:Int))),(aC,(aB,(aG,(aH,(aI,(aJ,(aw,(aE,(bO,(bL,((ap b4 (x0.1::[])),())))))))))))))))
 (
  some (.inr (t2,(aC,(aB,(aG,(aH,(aI,(aJ,(aw,(aE,(bO,(bL,(b4,()))))))))))))))
def anv(c2:lx) :MC:=bu (gZ (CM c2.F)) (pL (kD c2 k0) e0 1 l0 fun d=>by kernel_rfl)
def ant:MC:=anv l8
def aaR:aaP:=aQ (gZ (CM j8)) NN
def CC(F0:MH)(F1:wh)(F2:l6)(t2:List Bool)(t9:Int)(t10:List (Sh.T ar))(t11 aC:Int)(aB:List Int)(aG:List (Sh.T ae))(aH aI aJ:List Int)(aw:List (Sh.T ab))(aE:List (Sh.T ae))(bO:List Bool)(bL:List (List (Sh.T ar)))(b4:List Bool)(b5:List (List (Sh.T ar))):Option (TL B6.σs⊕Out BL):=
 ah (aq t9 (List.length aw))<|
 br (iL t11 (Int.ofNat (List.length (gt ab aw t9).2.2.2.2.1)))
 (
  ah (aq t9 (List.length aw))<|
  ah (aq t11 (List.length (gt ab aw t9).2.2.2.2.1))<|
  aj (F2 ((gt bI (gt ab aw t9).2.2.2.2.1 t11).1,(t2,()))) fun x0=>
  br x0.1
  (
   aj (F1 ((gt bI (gt ab aw t9).2.2.2.2.1 t11).2.1,(t2,()))) fun x1=>
   aj (F1 ((gt bI (gt ab aw t9).2.2.2.2.1 t11).2.2.1,(t2,()))) fun x2=>
   aj (F0 (t10,(x1.1,(x2.1,())))) fun x3=>
   some (.inl (t2,(t9,(x3.1,((IntKind.wrap .i64 (t11+(1:Int))),(aC,(aB,(aG,(aH,(aI,(aJ,(aw,(aE,(bO,(bL,(b4,(b5,()))))))))))))))))))
  (
   some (.inl (t2,(t9,(t10,((IntKind.wrap .i64 (t11+(1:Int))),(aC,(aB,(aG,(aH,(aI,(aJ,(aw,(aE,(bO,(bL,(b4,(b5,())))))))))))))))))))
 (
  some (.inr (t2,(t9,(t10,(aC,(aB,(aG,(aH,(aI,(aJ,(aw,(aE,(bO,(bL,(b4,(b5,())))))))))))))))))
def am6(c0:CO)(c1:th)(c2:lx) :CB:=bu (u16 (CC c0.F c1.F c2.F)) (pL (kD c0 (kD c1 (kD c2 k0))) e0 1 l0 fun d=>by kernel_rfl)
def aam:CB:=am6 MI wi l8
def Mf:Me:=aQ (u16 (CC aap q9 j8)) NN
def CL(L11:Me)(t2:List Bool)(t9 aC:Int)(aB:List Int)(aG:List (Sh.T ae))(aH aI aJ:List Int)(aw:List (Sh.T ab))(aE:List (Sh.T ae))(bO:List Bool)(bL:List (List (Sh.T ar)))(b4:List Bool)(b5:List (List (Sh.T ar))):Option (TL Cn.σs⊕Out B4):=
 br (iL t9 (Int.ofNat (List.length aw)))
 (
  ah (aq t9 (List.length bL))<|
  aj (L11 (t2,(t9,((gt (.sl ar) bL t9),((0:Int),(aC,(aB,(aG,(aH,(aI,(aJ,(aw,(aE,(bO,(bL,(b4,(b5,()))))))))))))))))) fun x0=>
  ah (room 24 (List.length (ap (bf x0).2.2.1 (x0.2.2.1::[]))))<|
  some (.inl (x0.1,((IntKind.wrap .i64 (@HAdd.hAdd (Int) (Int) (Int) _ x0.2.1 (1:Int))),(cQ x0,(cR x0,(cX x0,(cT x0,(dc x0,(dG x0,(dN x0,(cY x0,(fO x0,(fm x0,((bf x0).2.1,((ap (bf x0).2.2.1 (x0.2.2.1::[])),()))))))))))))))))
 (
  some (.inr (b4,(b5,()))))
def anu(M11:CB):MB:=bu (iu (CL M11.L)) (pL k0 e0 1 (sC M11 l0) fun d=>by kernel_rfl)
def ans:MB:=anu  aam
def aaQ:aaO:=aQ (iu (CL Mf)) NN
abbrev aaN:List Sh:=[ba,cr,(.sl .bool)]
abbrev MA:List Sh:=[cr]
abbrev MZ:=TL aaN->Option (TL MA)
abbrev CY:=Kd 125 aaN MA
def anU(F0:MH)(F1:wh)(F2:l6)(L3:aaP)(L7:aaO)(L11:Me)(a0:Sh.T ba)(a1:Sh.T cr)(a2:List Bool):Option (TL MA):=
 aj (L3 (a2,((0:Int),(a0.1,(a0.2.1,(a0.2.2.1,(cQ a0,(cR a0,(cX a0,(cT a0,(dc a0,(a1.1,(a1.2.1,([],())))))))))))))) fun x0=>
 aj (L7 (x0.1,((0:Int),(x0.2.1,(x0.2.2.1,(cQ x0,(cR x0,(cX x0,(cT x0,(dc x0,(dG x0,(dN x0,(cY x0,(fO x0,([],()))))))))))))))) fun x1=>
 some (x1,())
def anT(c0:CO)(c1:th)(c2:lx)(M3:MC)(M7:MB)(M11:CB):CY:=⟨u3 (anU c0.F c1.F c2.F M3.L M7.L M11.L),pD Tryz.func125 86 (kD c0 (kD c1 (kD c2 k0))) e0 1 (sS (sC M3 (sC M7 l0))) fun d=>by kernel_rfl⟩
def M0:CY:=anT MI wi l8 ant ans aam
def Yr:MZ:=M0.F
abbrev Cq:Lay:={ T:=[(1,.fz .bool),(2,.ptr 0 0),(5,.hd 1 .bool),(6,.int .i64)],h:=[(0,.cells ej 27),(1,.arr .bool 4)],nx:=2 }
abbrev B8:List (Ev.Ex×Lay):=[((.exit 0),{ T:=[(5,.hd 0 .bool)],h:=[(0,.arr .bool 4)],nx:=1 })]
abbrev aaW:=TL Cq.σs->Option (Out B8)
abbrev MG:=Ld 0 25 (bp [0] (aU Tryz.f124)) Cq B8
def CN(F0:l6)(t1:List Bool)(t6 aC:Int)(aB:List Int)(aG:List (Sh.T ae))(aH aI aJ:List Int)(aw:List (Sh.T ab))(aE:List (Sh.T ae))(b1:List Bool):Option (TL Cq.σs⊕Out B8):=
 br (iL t6 (Int.ofNat (List.length aI)))
 (
  ah (aq t6 (List.length aI))<|
  aj (F0 ((gt (.int .i64) aI t6),(t1,()))) fun x0=>
  ah (room 1 (List.length (ap b1 (x0.1::[]))))<|
  some (.inl (t1,((IntKind.wrap .i64 (t6+(1:Int))),(aC,(aB,(aG,(aH,(aI,(aJ,(aw,(aE,((ap b1 (x0.1::[])),())))))))))))))
 (
  some (.inr (b1,())))
def anA(c0:lx) :MG:=bu (jl (CN c0.F)) (pL (kD c0 k0) e0 1 l0 fun d=>by kernel_rfl)
def anz:MG:=anA l8
def aaX:aaW:=aQ (jl (CN j8)) NN
abbrev aaV:List Sh:=[ba,(.sl .bool)]
abbrev MF:List Sh:=[(.sl .bool)]
abbrev Nc:=TL aaV->Option (TL MF)
abbrev C0:=Kd 124 aaV MF
def anY(F0:l6)(L3:aaW)(a0:Sh.T ba)(a1:List Bool):Option (TL MF):=
 aj (L3 (a1,((0:Int),(a0.1,(a0.2.1,(a0.2.2.1,(cQ a0,(cR a0,(cX a0,(cT a0,(dc a0,([],())))))))))))) fun x0=>
 some (x0.1,())
def anX(c0:lx)(M3:MG):C0:=⟨u2 (anY c0.F M3.L),pD Tryz.func124 25 (kD c0 k0) e0 1 (sS (sC M3 l0)) fun d=>by kernel_rfl⟩
def Nf:C0:=anX l8 anz
def Yt:Nc:=Nf.F
abbrev Cp:Lay:={ T:=[(1,.fz .bool),(2,.ptr 0 0),(5,.int .i64)],h:=[(0,.cells ej 27)],nx:=1 }
abbrev B7:List (Ev.Ex×Lay):=[(.ret,{ T:=[(4,.bool)],h:=[],nx:=0 }),((.exit 0),{ T:=[],h:=[],nx:=0 })]
abbrev aaT:=TL Cp.σs->Option (Out B7)
abbrev ME:=Ld 0 21 (bp [0] (aU Tryz.f123)) Cp B7
def wj(F0:l6)(t1:List Bool)(t5 aC:Int)(aB:List Int)(aG:List (Sh.T ae))(aH aI aJ:List Int)(aw:List (Sh.T ab))(aE:List (Sh.T ae)):Option (TL Cp.σs⊕Out B7):=
 br (iL t5 (Int.ofNat (List.length aJ)))
 (
  ah (aq t5 (List.length aJ))<|
  aj (F0 ((gt (.int .i64) aJ t5),(t1,()))) fun x0=>
  br (Bool.not x0.1)
  (
   some (.inr (.inl (false,()))))
  (
   some (.inl (t1,((IntKind.wrap .i64 (t5+(1:Int))),(aC,(aB,(aG,(aH,(aI,(aJ,(aw,(aE,())))))))))))))
 (
  some (.inr (.inr ())))
def anx(c0:lx) :ME:=bu (jO (wj c0.F)) (pL (kD c0 k0) e0 1 l0 fun d=>by kernel_rfl)
def anw:ME:=anx l8
def aaU:aaT:=aQ (jO (wj j8)) NN
abbrev aaS:List Sh:=[ba,(.sl .bool)]
abbrev MD:List Sh:=[.bool]
abbrev Na:=TL aaS->Option (TL MD)
abbrev CZ:=Kd 123 aaS MD
def anW(F0:l6)(L2:aaT)(a0:Sh.T ba)(a1:List Bool):Option (TL MD):=
 aj (L2 (a1,((0:Int),a0))) fun x0=>
 (match x0 with|.inl x1=>some (x1.1,())|.inr x1=>some (true,())
 )
def anV(c0:lx)(M2:ME):CZ:=⟨u2 (anW c0.F M2.L),pD Tryz.func123 21 (kD c0 k0) e0 1 (sS (sC M2 l0)) fun d=>by kernel_rfl⟩
def Nb:CZ:=anV l8 anw
def Ys:Na:=Nb.F
abbrev ab6:Lay:={ T:=[(0,.agg ej),(1,.agg [.fz .bool,.fz (.sl ar)])],h:=[],nx:=0 }
abbrev Dx:List (Ev.Ex×Lay):=[(.ret,{ T:=[(0,.dJ),(1,.int .i64)],h:=[],nx:=0 }),(.ret,{ T:=[(0,.ptr 0 0),(1,.int .i64)],h:=Ea,nx:=3 })]
abbrev acp:=TL ab6.σs->Option (Out Dx)
abbrev Om:=Kb 31 2 ab6 2 Dx
def apq(F0:acb)(F1:abX)(F2:rm)(F3:tp)(F4:ti)(F5:Du)(dK:Int)(gB:List Int)(fV:List (Sh.T ae))(ig ij ik:List Int)(eO:List (Sh.T ab))(gO:List (Sh.T ae))(iM:List Bool)(gD:List (List (Sh.T ar))):Option (Out Dx):=
 aj (F2 ((dK,(gB,(fV,(ig,(ij,(ik,(eO,(gO,())))))))),())) fun x0=>
 br (Bool.not (iQ x0.1 (0:Int)))
 (
  some (.inl (x0.1,())))
 (
  aj (F5 (dK,(gB,(fV,(ig,(ij,(ik,(eO,(gO,(iM,(gD,()))))))))))) fun x1=>
  br (Bool.not (iQ x1.1 (0:Int)))
  (
   some (.inl (x1.1,())))
  (
   aj (F1 ((dK,(gB,(fV,(ig,(ij,(ik,(eO,(gO,())))))))),())) fun x2=>
   aj (F0 ((dK,(gB,(fV,(ig,(ij,(ik,(eO,(gO,())))))))),())) fun x3=>
   aj (F4 (iM,())) fun x4=>
   ah (nu (Sh.beq au) x2.1 x2.1)<|
   some (.inr ((0:Int),(x3.1.1,(x3.1.2.1,(x3.1.2.2.1,(x3.1.2.2.2.1,(x3.1.2.2.2.2.1,(x3.1.2.2.2.2.2.1,(x3.1.2.2.2.2.2.2.1,(x3.1.2.2.2.2.2.2.2.1,(x2.1,(x4.1,(x1.2.1,())))))))))))))))
def apo(c0:Oc)(c1:N4)(c2:pW)(c3:tt)(c4:tj)(c5:wB) :Om:=⟨jO (apq c0.F c1.F c2.F c3.F c4.F c5.F),pB Tryz.func31 39 (kD c0 (kD c1 (kD c2 (kB c3 (kB c4 (kB c5 k0)))))) e0 1 (sS l0) fun d=>by kernel_rfl⟩
def acq:Om:=apo acd abY rn tq rh Dv
def aom:acp:=acq.F
abbrev ZY:Lay:={ T:=[(0,.ptr 0 0),(1,.fz .bool)],h:=Ea,nx:=3 }
abbrev Lm:List (Ev.Ex×Lay):=[(.ret,{ T:=[(0,.hd 3 .bool),(1,.int .i64)],h:=tZ,nx:=4 })]
abbrev aaE:=TL ZY.σs->Option (Out Lm)
abbrev Mw:=Kb 32 2 ZY 2 Lm
abbrev BG:Lay:={ T:=[(0,.ptr 0 0),(6,.ptr 3 0),(11,.func 79 [] [.ptr 3 0]),(84,.fz au),(85,.int .i64),(86,.int .i64)],h:=tY,nx:=5 }
abbrev Bu:List (Ev.Ex×Lay):=[((.exit 4),{ T:=[(6,.ptr 3 0)],h:=tY,nx:=5 })]
abbrev ZZ:=TL BG.σs->Option (Out Bu)
abbrev LC:=Ld 3 155 (bp [2] (aU Tryz.f32)) BG Bu
abbrev BH:Lay:={ T:=[(0,.ptr 0 0),(6,.ptr 3 0),(60,.hd 1 .bool),(61,.int .i64),(62,.int .i64)],h:=tY,nx:=5 }
abbrev Bv:List (Ev.Ex×Lay):=[((.exit 2),{ T:=[(0,.ptr 0 0),(6,.ptr 3 0)],h:=tY,nx:=5 })]
abbrev Z0:=TL BH.σs->Option (Out Bv)
abbrev Z1:=Ld 3 155 (bp [1] (aU Tryz.f32)) BH Bv
abbrev BS:Lay:={ T:=[(0,.ptr 0 0),(6,.ptr 3 0),(38,.fz .bool),(39,.int .i64),(40,.int .i64)],h:=tY,nx:=5 }
abbrev BF:List (Ev.Ex×Lay):=[((.exit 0),{ T:=[(0,.ptr 0 0),(6,.ptr 3 0)],h:=tY,nx:=5 })]
abbrev aai:=TL BS.σs->Option (Out BF)
abbrev aaj:=Ld 3 155 (bp [0] (aU Tryz.f32)) BS BF
def Cy(t38:List Bool)(t39 t40 aC:Int)(aB:List Int)(aG:List (Sh.T ae))(aH aI aJ:List Int)(aw:List (Sh.T ab))(aE:List (Sh.T ae))(cE:List (Sh.T au))(b1:List Bool)(b2:List (Sh.T (.agg [(.int .i64),(.int .i64),(.sl ar)])))(b4:List Bool):Option (TL BS.σs⊕Out BF):=
 br (iL t40 t39)
 (
  ah (aq t40 (List.length t38))<|
  ah (aq t40 (List.length aB))<|
  ah (aq (gt (.int .i64) aB t40) (List.length b4))<|
  some (.inl (t38,(t39,((IntKind.wrap .i64 (t40+(1:Int))),(aC,(aB,(aG,(aH,(aI,(aJ,(aw,(aE,(cE,(b1,(b2,((List.set b4 (Int.toNat (gt (.int .i64) aB t40)) (gt .bool t38 t40)),())))))))))))))))))
 (
  some (.inr (aC,(aB,(aG,(aH,(aI,(aJ,(aw,(aE,(cE,(b1,(b2,(b4,()))))))))))))))
def am2  :aaj:=bu (fg Cy) (pL k0 (eC Tryz.func79 (by kernel_rfl) e0) 5 l0 fun d=>by kernel_rfl)
def L0:aai:=aQ (fg Cy) NN
def Cg(t61 t62 aC:Int)(aB:List Int)(aG:List (Sh.T ae))(aH aI aJ:List Int)(aw:List (Sh.T ab))(aE:List (Sh.T ae))(cE:List (Sh.T au))(b1:List Bool)(b2:List (Sh.T (.agg [(.int .i64),(.int .i64),(.sl ar)])))(b4:List Bool):Option (TL BH.σs⊕Out Bv):=
 br (iL t62 t61)
 (
  ah (aq t62 (List.length b1))<|
  ah (aq t62 (List.length aG))<|
  ah (aq (gt ae aG t62).1 (List.length b4))<|
  some (.inl (t61,((IntKind.wrap .i64 (t62+(1:Int))),(aC,(aB,(aG,(aH,(aI,(aJ,(aw,(aE,(cE,(b1,(b2,((List.set b4 (Int.toNat (gt ae aG t62).1) (gt .bool b1 t62)),()))))))))))))))))
 (
  some (.inr (aC,(aB,(aG,(aH,(aI,(aJ,(aw,(aE,(cE,(b1,(b2,(b4,()))))))))))))))
def amO  :Z1:=bu (iu Cg) (pL k0 (eC Tryz.func79 (by kernel_rfl) e0) 5 l0 fun d=>by kernel_rfl)
def Lz:Z0:=aQ (iu Cg) NN
def Cf(F0:mT)(F1:oQ)(F2:wC)(F3:wG)(t84:List (Sh.T au))(t85 t86 aC:Int)(aB:List Int)(aG:List (Sh.T ae))(aH aI aJ:List Int)(aw:List (Sh.T ab))(aE:List (Sh.T ae))(cE:List (Sh.T au))(b1:List Bool)(b2:List (Sh.T (.agg [(.int .i64),(.int .i64),(.sl ar)])))(b4:List Bool):Option (TL BG.σs⊕Out Bu):=
 br (iL t86 t85)
 (
  ah (aq t86 (List.length t84))<|
  br (Bool.not (gt au t84 t86).1)
  (
   ah (aq (gt au t84 t86).2.2.1 (List.length aE))<|
   aj (F0 ((gt ae aE (gt au t84 t86).2.2.1).2.1,(b4,()))) fun x0=>
   br x0.1
   (
    ah (iQ (gt ae aE (gt au t84 t86).2.2.1).1 (gt ae aE (gt au t84 t86).2.2.1).1)<|
    aj (F0 ((gt ae aE (gt au t84 t86).2.2.1).2.2.1,(b4,()))) fun x1=>
    ah (aq (gt ae aE (gt au t84 t86).2.2.1).1 (List.length b4))<|
    ah (iQ (gt ae aE (gt au t84 t86).2.2.1).1 (gt ae aE (gt au t84 t86).2.2.1).1)<|
    some (.inl (t84,(t85,((IntKind.wrap .i64 (t86+(1:Int))),(aC,(aB,(aG,(aH,(aI,(aJ,(aw,(aE,(cE,(b1,(b2,((List.set b4 (Int.toNat (gt ae aE (gt au t84 t86).2.2.1).1) (aV true x1.1 false)),())))))))))))))))))
   (
    ah (iQ (gt ae aE (gt au t84 t86).2.2.1).1 (gt ae aE (gt au t84 t86).2.2.1).1)<|
    ah (aq (gt ae aE (gt au t84 t86).2.2.1).1 (List.length b4))<|
    some (.inl (t84,(t85,((IntKind.wrap .i64 (t86+(1:Int))),(aC,(aB,(aG,(aH,(aI,(aJ,(aw,(aE,(cE,(b1,(b2,((List.set b4 (Int.toNat (gt ae aE (gt au t84 t86).2.2.1).1) false),()))))))))))))))))))
  (
   ah (aq (gt au t84 t86).2.1 (List.length aw))<|
   ah (aq (gt au t84 t86).2.2.1 (List.length (gt ab aw (gt au t84 t86).2.1).2.2.2.1))<|
   ah (aq (gt au t84 t86).2.1 (List.length b2))<|
   aj (F2 ((gt cj (gt ab aw (gt au t84 t86).2.1).2.2.2.1 (gt au t84 t86).2.2.1).2.1,(b4,()))) fun x0=>
   aj (F3 (x0.1,((List.getD b2 (Int.toNat (gt au t84 t86).2.1) (zR)).1,((List.getD b2 (Int.toNat (gt au t84 t86).2.1) (zR)).2.1,((List.getD b2 (Int.toNat (gt au t84 t86).2.1) (zR)).2.2.1,()))))) fun x1=>
   ah (both (iE (0:Int) (gt cj (gt ab aw (gt au t84 t86).2.1).2.2.2.1 (gt au t84 t86).2.2.1).1) (iE (gt cj (gt ab aw (gt au t84 t86).2.1).2.2.2.1 (gt au t84 t86).2.2.1).1 (Int.ofNat (List.length b4))))<|
   aj (F1 (x1.1,((gt ab aw (gt au t84 t86).2.1).2.1,()))) fun x2=>
   some (.inl (t84,(t85,((IntKind.wrap .i64 (t86+(1:Int))),(aC,(aB,(aG,(aH,(aI,(aJ,(aw,(aE,(cE,(b1,((List.set b2 (Int.toNat (gt au t84 t86).2.1) x1.2),((jR b4 (Int.toNat (gt cj (gt ab aw (gt au t84 t86).2.1).2.2.2.1 (gt au t84 t86).2.2.1).1) (List.take (@HSub.hSub (Nat) (Nat) (Nat) _ (List.length b4) (Int.toNat (gt cj (gt ab aw (gt au t84 t86).2.1).2.2.2.1 (gt au t84 t86).2.2.1).1)) x2.1)),()))))))))))))))))))
 (
  some (.inr (aC,(aB,(aG,(aH,(aI,(aJ,(aw,(aE,(cE,(b1,(b2,(b4,()))))))))))))))
def amP(c0:mb)(c1:nU)(c2:tA)(c3:tB) :LC:=bu (fg (Cf c0.F c1.F c2.F c3.F)) (pL (kD c0 (kD c1 (kD c2 (kB c3 k0)))) (eC Tryz.func79 (by kernel_rfl) e0) 5 l0 fun d=>by kernel_rfl)
def amN:LC:=amP mU oR wD wH
def Ly:ZZ:=aQ (fg (Cf ka mV rl uy)) NN
def Mv(F0:mT)(F1:oQ)(F2:wC)(F3:wG)(L5:aai)(L10:Z0)(L16:ZZ)(t1:List Bool)(aC:Int)(aB:List Int)(aG:List (Sh.T ae))(aH aI aJ:List Int)(aw:List (Sh.T ab))(aE:List (Sh.T ae))(cE:List (Sh.T au))(b1:List Bool)(b2:List (Sh.T (.agg [(.int .i64),(.int .i64),(.sl ar)]))):Option (Out Lm):=
 br (aV false true (Bool.not (iQ (Int.ofNat (List.length t1)) (Int.ofNat (List.length aB)))))
 (
  some ((1:Int),(aC,(aB,(aG,(aH,(aI,(aJ,(aw,(aE,(cE,(b1,(b2,([],()))))))))))))))
 (
  ah (both (iE (0:Int) (IntKind.wrap .i64 (aC+(1:Int)))) (both (iE (IntKind.wrap .i64 (aC+(1:Int))) (IntKind.wrap .i64 (aC+(1:Int)))) (iE ((Int.ofNat 1)*(IntKind.wrap .i64 (aC+(1:Int)))) (281474976710656:Int))))<|
  aj (L5 (t1,((Int.ofNat (List.length t1)),((0:Int),(aC,(aB,(aG,(aH,(aI,(aJ,(aw,(aE,(cE,(b1,(b2,((List.replicate (Int.toNat (IntKind.wrap .i64 (aC+(1:Int)))) (Sh.zero .bool)),())))))))))))))))) fun x0=>
  aj (L10 ((Int.ofNat (List.length (dN x0))),((0:Int),x0))) fun x1=>
  aj (L16 (dG x1,((Int.ofNat (List.length (dG x1))),((0:Int),x1)))) fun x2=>
  some ((0:Int),x2))
def anl(c0:mb)(c1:nU)(c2:tA)(c3:tB)(M5:aaj)(M10:Z1)(M16:LC):Mw:=⟨iZ (Mv c0.F c1.F c2.F c3.F M5.L M10.L M16.L),pB Tryz.func32 155 (kD c0 (kD c1 (kD c2 (kB c3 k0)))) (eC Tryz.func79 (by kernel_rfl) e0) 5 (sS (sC M5 (sC M10 (sC M16 l0)))) fun d=>by kernel_rfl⟩
def aaF:Mw:=anl mU oR wD wH am2 amO amN
def amj:aaE:=aaF.F
abbrev aah:Lay:={ T:=[(0,.ptr 0 0),(1,.int .i64),(2,.hd 3 .bool)],h:=tZ,nx:=4 }
abbrev Lx:List (Ev.Ex×Lay):=[(.ret,{ T:=[],h:=tZ,nx:=4 })]
abbrev MV:=TL aah.σs->Option (Out Lx)
abbrev CU:=Kb 82 3 aah 0 Lx
abbrev Ce:Lay:={ T:=[(2,.hd 3 .bool),(6,.func 150 [.rp 2] []),(25,.fz bI),(26,.int .i64),(27,.int .i64)],h:=tZ,nx:=4 }
abbrev BR:List (Ev.Ex×Lay):=[((.exit 0),{ T:=[],h:=tZ,nx:=4 })]
abbrev aaC:=TL Ce.σs->Option (Out BR)
abbrev Mu:=Ld 4 46 (bp [0] (aU Tryz.f82)) Ce BR
def CH(F0:wC)(F1:mT)(F2:Ln)(tW:Int)(t25:List (Sh.T bI))(t26 t27 aC:Int)(aB:List Int)(aG:List (Sh.T ae))(aH aI aJ:List Int)(aw:List (Sh.T ab))(aE:List (Sh.T ae))(cE:List (Sh.T au))(b1:List Bool)(b2:List (Sh.T (.agg [(.int .i64),(.int .i64),(.sl ar)])))(b3:List Bool):Option (TL Ce.σs⊕Out BR):=
 br (iL t27 t26)
 (
  ah (aq t27 (List.length t25))<|
  aj (F1 ((gt bI t25 t27).1,(b3,()))) fun x0=>
  br x0.1
  (
   aj (F0 ((gt bI t25 t27).2.1,(b3,()))) fun x1=>
   aj (F0 ((gt bI t25 t27).2.2.1,(b3,()))) fun x2=>
   aj (F2 (x1.1,(x2.1,((List.getD b2 (Int.toNat tW) (zR)).1,((List.getD b2 (Int.toNat tW) (zR)).2.1,((List.getD b2 (Int.toNat tW) (zR)).2.2.1,())))))) fun x3=>
   some (.inl ((Int.ofNat (Int.toNat tW)),(t25,(t26,((IntKind.wrap .i64 (t27+(1:Int))),(aC,(aB,(aG,(aH,(aI,(aJ,(aw,(aE,(cE,(b1,((List.set b2 (Int.toNat tW) x3.2),(b3,()))))))))))))))))))
  (
   some (.inl ((Int.ofNat (Int.toNat tW)),(t25,(t26,((IntKind.wrap .i64 (t27+(1:Int))),(aC,(aB,(aG,(aH,(aI,(aJ,(aw,(aE,(cE,(b1,(b2,(b3,())))))))))))))))))))
 (
  some (.inr (aC,(aB,(aG,(aH,(aI,(aJ,(aw,(aE,(cE,(b1,(b2,(b3,()))))))))))))))
def ank(c0:tA)(c1:mb)(c2:BI) :Mu:=bu (u16 (CH c0.F c1.F c2.F)) (pL (kD c0 (kD c1 (kB c2 k0))) e0 1 l0 fun d=>by kernel_rfl)
def anj:Mu:=ank wD mU Lo
def Mt:aaC:=aQ (u16 (CH rl ka Rb)) NN
def anN(F0:wC)(F1:mT)(F2:Ln)(L2:aaC)(t1 aC:Int)(aB:List Int)(aG:List (Sh.T ae))(aH aI aJ:List Int)(aw:List (Sh.T ab))(aE:List (Sh.T ae))(cE:List (Sh.T au))(b1:List Bool)(b2:List (Sh.T (.agg [(.int .i64),(.int .i64),(.sl ar)])))(b3:List Bool):Option (Out Lx):=
 ah (aq t1 (List.length b2))<|
 ah (aq t1 (List.length aw))<|
 aj (L2 ((Int.ofNat (Int.toNat t1)),((gt ab aw t1).2.2.2.2.1,((Int.ofNat (List.length (gt ab aw t1).2.2.2.2.1)),((0:Int),(aC,(aB,(aG,(aH,(aI,(aJ,(aw,(aE,(cE,(b1,(b2,(b3,()))))))))))))))))) fun x0=>
 some x0
def anM(c0:tA)(c1:mb)(c2:BI)(M2:Mu):CU:=⟨gZ (anN c0.F c1.F c2.F M2.L),pB Tryz.func82 46 (kD c0 (kD c1 (kB c2 k0))) e0 1 (sS (sC M2 l0)) fun d=>by kernel_rfl⟩
def MW:CU:=anM wD mU Lo anj
def aaD:MV:=MW.F
abbrev aaG:Lay:={ T:=[(0,.ptr 0 0),(1,.fz .bool)],h:=Ea,nx:=3 }
abbrev Ma:List (Ev.Ex×Lay):=[(.ret,{ T:=[(0,.agg [.hd 3 .bool,.bool]),(1,.int .i64)],h:=tZ,nx:=4 })]
abbrev Nq:=TL aaG.σs->Option (Out Ma)
abbrev C2:=Kb 34 2 aaG 2 Ma
abbrev Ci:Lay:={ T:=[(0,.ptr 0 0),(4,.ptr 3 0),(6,.hd 5 .bool),(89,.int .i64),(90,.int .i64)],h:=xn,nx:=6 }
abbrev BU:List (Ev.Ex×Lay):=[((.exit 6),{ T:=[(4,.ptr 3 0)],h:=[(0,.cells qh 145),(1,.arr .bool 4),(2,.dm 220),(3,.cells [.hd 4 .bool,.bool] 55),(4,.arr .bool 4)],nx:=5 })]
abbrev aaH:=TL Ci.σs->Option (Out BU)
abbrev Mx:=Ld 3 99 (bp [3] (aU Tryz.f34)) Ci BU
abbrev Cj:Lay:={ T:=[(0,.ptr 0 0),(4,.ptr 3 0),(6,.hd 5 .bool),(67,.fz ae),(68,.int .i64),(69,.int .i64)],h:=xn,nx:=6 }
abbrev BV:List (Ev.Ex×Lay):=[((.exit 4),{ T:=[(0,.ptr 0 0),(4,.ptr 3 0),(6,.hd 5 .bool)],h:=xn,nx:=6 })]
abbrev aaI:=TL Cj.σs->Option (Out BV)
abbrev My:=Ld 3 99 (bp [2] (aU Tryz.f34)) Cj BV
abbrev Ck:Lay:={ T:=[(0,.ptr 0 0),(4,.ptr 3 0),(6,.hd 5 .bool),(48,.fz (.int .i64)),(49,.int .i64),(50,.int .i64)],h:=xn,nx:=6 }
abbrev BW:List (Ev.Ex×Lay):=[((.exit 2),{ T:=[(0,.ptr 0 0),(4,.ptr 3 0),(6,.hd 5 .bool)],h:=xn,nx:=6 })]
abbrev aaJ:=TL Ck.σs->Option (Out BW)
abbrev Mz:=Ld 3 99 (bp [1] (aU Tryz.f34)) Ck BW
abbrev Cz:Lay:={ T:=[(0,.ptr 0 0),(4,.ptr 3 0),(6,.hd 4 .bool),(29,.fz (.int .i64)),(30,.int .i64),(31,.int .i64)],h:=Wn,nx:=5 }
abbrev Ch:List (Ev.Ex×Lay):=[((.exit 0),{ T:=[(0,.ptr 0 0),(4,.ptr 3 0),(6,.hd 4 .bool)],h:=Wn,nx:=5 })]
abbrev abc:=TL Cz.σs->Option (Out Ch)
abbrev MX:=Ld 3 99 (bp [0] (aU Tryz.f34)) Cz Ch
def CV(F0:mT)(t29:List Int)(t30 t31 aC:Int)(aB:List Int)(aG:List (Sh.T ae))(aH aI aJ:List Int)(aw:List (Sh.T ab))(aE:List (Sh.T ae))(cE:List (Sh.T au))(b1:List Bool)(b2:List (Sh.T (.agg [(.int .i64),(.int .i64),(.sl ar)])))(dq:Bool)(b4:List Bool):Option (TL Cz.σs⊕Out Ch):=
 br (iL t31 t30)
 (
  ah (aq t31 (List.length t29))<|
  br dq
  (
   aj (F0 ((gt (.int .i64) t29 t31),(b4,()))) fun x0=>
   some (.inl (t29,(t30,((IntKind.wrap .i64 (t31+(1:Int))),(aC,(aB,(aG,(aH,(aI,(aJ,(aw,(aE,(cE,(b1,(b2,((aV true x0.1 false),(b4,()))))))))))))))))))
  (
   some (.inl (t29,(t30,((IntKind.wrap .i64 (t31+(1:Int))),(aC,(aB,(aG,(aH,(aI,(aJ,(aw,(aE,(cE,(b1,(b2,(false,(b4,())))))))))))))))))))
 (
  some (.inr (aC,(aB,(aG,(aH,(aI,(aJ,(aw,(aE,(cE,(b1,(b2,(dq,(b4,())))))))))))))))
def anP(c0:mb) :MX:=bu (u16 (CV c0.F)) (pL (kD c0 k0) e0 1 l0 fun d=>by kernel_rfl)
def anO:MX:=anP mU
def abd:abc:=aQ (u16 (CV ka)) NN
def CK(F0:mT)(t48:List Int)(t49 t50 aC:Int)(aB:List Int)(aG:List (Sh.T ae))(aH aI aJ:List Int)(aw:List (Sh.T ab))(aE:List (Sh.T ae))(cE:List (Sh.T au))(b1:List Bool)(b2:List (Sh.T (.agg [(.int .i64),(.int .i64),(.sl ar)])))(dq:Bool)(b4 b5:List Bool):Option (TL Ck.σs⊕Out BW):=
 br (iL t50 t49)
 (
  ah (aq t50 (List.length t48))<|
  aj (F0 ((gt (.int .i64) t48 t50),(b5,()))) fun x0=>
  ah (room 1 (List.length (ap b4 (x0.1::[]))))<|
  some (.inl (t48,(t49,((IntKind.wrap .i64 (t50+(1:Int))),(aC,(aB,(aG,(aH,(aI,(aJ,(aw,(aE,(cE,(b1,(b2,(dq,((ap b4 (x0.1::[])),(b5,())))))))))))))))))))
 (
  some (.inr (aC,(aB,(aG,(aH,(aI,(aJ,(aw,(aE,(cE,(b1,(b2,(dq,(b4,(b5,()))))))))))))))))
def anr(c0:mb) :Mz:=bu (nH (CK c0.F)) (pL (kD c0 k0) e0 1 l0 fun d=>by kernel_rfl)
def ano:Mz:=anr mU
def aaM:aaJ:=aQ (nH (CK ka)) NN
def CJ(F0:mT)(t67:List (Sh.T ae))(t68 t69 aC:Int)(aB:List Int)(aG:List (Sh.T ae))(aH aI aJ:List Int)(aw:List (Sh.T ab))(aE:List (Sh.T ae))(cE:List (Sh.T au))(b1:List Bool)(b2:List (Sh.T (.agg [(.int .i64),(.int .i64),(.sl ar)])))(dq:Bool)(b4 b5:List Bool):Option (TL Cj.σs⊕Out BV):=
 br (iL t69 t68)
 (
  ah (aq t69 (List.length t67))<|
  aj (F0 ((gt ae t67 t69).2.1,(b5,()))) fun x0=>
  ah (aq t69 (List.length b1))<|
  some (.inl (t67,(t68,((IntKind.wrap .i64 (t69+(1:Int))),(aC,(aB,(aG,(aH,(aI,(aJ,(aw,(aE,(cE,((List.set b1 (Int.toNat t69) x0.1),(b2,(dq,(b4,(b5,())))))))))))))))))))
 (
  some (.inr (aC,(aB,(aG,(aH,(aI,(aJ,(aw,(aE,(cE,(b1,(b2,(dq,(b4,(b5,()))))))))))))))))
def anq(c0:mb) :My:=bu (nH (CJ c0.F)) (pL (kD c0 k0) e0 1 l0 fun d=>by kernel_rfl)
def ann:My:=anq mU
def aaL:aaI:=aQ (nH (CJ ka)) NN
def CI(F1:MV)(t89 t90 aC:Int)(aB:List Int)(aG:List (Sh.T ae))(aH aI aJ:List Int)(aw:List (Sh.T ab))(aE:List (Sh.T ae))(cE:List (Sh.T au))(b1:List Bool)(b2:List (Sh.T (.agg [(.int .i64),(.int .i64),(.sl ar)])))(dq:Bool)(b4 b5:List Bool):Option (TL Ci.σs⊕Out BU):=
 br (iL t90 t89)
 (
  aj (F1 (t90,(aC,(aB,(aG,(aH,(aI,(aJ,(aw,(aE,(cE,(b1,(b2,(b5,())))))))))))))) fun x0=>
  some (.inl (t89,((IntKind.wrap .i64 (t90+(1:Int))),(x0.1,(x0.2.1,(x0.2.2.1,(cQ x0,(cR x0,(cX x0,(cT x0,(dc x0,(dG x0,(dN x0,(cY x0,(dq,(b4,(fO x0,()))))))))))))))))))
 (
  some (.inr (aC,(aB,(aG,(aH,(aI,(aJ,(aw,(aE,(cE,(b1,(b2,(dq,(b4,())))))))))))))))
def anp(c1:CU) :Mx:=bu (u16 (CI c1.F)) (pL (kB c1 k0) e0 1 l0 fun d=>by kernel_rfl)
def anm:Mx:=anp MW
def aaK:aaH:=aQ (u16 (CI aaD)) NN
def an7(F0:mT)(F1:MV)(F2:aaE)(L6:abc)(L11:aaJ)(L16:aaI)(L21:aaH)(t1:List Bool)(aC:Int)(aB:List Int)(aG:List (Sh.T ae))(aH aI aJ:List Int)(aw:List (Sh.T ab))(aE:List (Sh.T ae))(cE:List (Sh.T au))(b1:List Bool)(b2:List (Sh.T (.agg [(.int .i64),(.int .i64),(.sl ar)]))):Option (Out Ma):=
 aj (F2 (t1,(aC,(aB,(aG,(aH,(aI,(aJ,(aw,(aE,(cE,(b1,(b2,()))))))))))))) fun x0=>
 br (Bool.not (iQ x0.1 (0:Int)))
 (
  some (false,(x0.1,(x0.2.1,(x0.2.2.1,(cQ x0,(cR x0,(cX x0,(cT x0,(dc x0,(dG x0,(dN x0,(cY x0,(fO x0,([],())))))))))))))))
 (
  aj (L6 (cT x0,((Int.ofNat (List.length (cT x0))),((0:Int),(x0.2.1,(x0.2.2.1,(cQ x0,(cR x0,(cX x0,(cT x0,(dc x0,(dG x0,(dN x0,(cY x0,(fO x0,(true,(fm x0,()))))))))))))))))) fun x1=>
  aj (L11 (cR x1,((Int.ofNat (List.length (cR x1))),((0:Int),(x1.1,(x1.2.1,(x1.2.2.1,(cQ x1,(cR x1,(cX x1,(cT x1,(dc x1,(dG x1,(dN x1,(cY x1,(fO x1,([],(fm x1,())))))))))))))))))) fun x2=>
  aj (L16 (x2.2.2.1,((Int.ofNat (List.length x2.2.2.1)),((0:Int),x2)))) fun x3=>
  aj (L21 ((Int.ofNat (List.length (cY x3))),((0:Int),x3))) fun x4=>
  some (fO x4,((0:Int),(x4.1,(x4.2.1,(x4.2.2.1,(cQ x4,(cR x4,(cX x4,(cT x4,(dc x4,(dG x4,(dN x4,(cY x4,(fm x4,())))))))))))))))
def an6(c0:mb)(c1:CU)(c2:Mw)(M6:MX)(M11:Mz)(M16:My)(M21:Mx):C2:=⟨iZ (an7 c0.F c1.F c2.F M6.L M11.L M16.L M21.L),pB Tryz.func34 99 (kD c0 (kB c1 (kB c2 k0))) e0 1 (sS (sC M6 (sC M11 (sC M16 (sC M21 l0))))) fun d=>by kernel_rfl⟩
def Nr:C2:=an6 mU MW aaF anO ano ann anm
def Yq:Nq:=Nr.F
abbrev Tb:Lay:={ T:=[(0,.ptr 0 0)],h:=Ea,nx:=3 }
abbrev GF:List (Ev.Ex×Lay):=[(.ret,{ T:=[(0,.agg [.hd 3 .bool,.hd 4 (.sl ar)])],h:=[(0,.cells qh 145),(1,.arr .bool 4),(2,.dm 220),(3,.arr .bool 4),(4,.arr (.sl ar) 104)],nx:=5 })]
abbrev Hs:=TL Tb.σs->Option (Out GF)
abbrev y2:=Kb 35 1 Tb 1 GF
abbrev uR:Lay:={ T:=[(2,.ptr 3 0),(17,.dw 2),(18,.int .i64),(19,.int .i64)],h:=adq,nx:=6 }
abbrev uQ:List (Ev.Ex×Lay):=[((.exit 0),{ T:=[(2,.ptr 3 0)],h:=adq,nx:=6 })]
abbrev Tq:=TL uR.σs->Option (Out uQ)
abbrev Hl:=Ld 3 32 (bp [0] (aU Tryz.f35)) uR uQ
def Tn(F0:OC)(t18 t19 aC:Int)(aB:List Int)(aG:List (Sh.T ae))(aH aI aJ:List Int)(aw:List (Sh.T ab))(aE:List (Sh.T ae))(cE:List (Sh.T au))(b1:List Bool)(b2:List (Sh.T (.agg [(.int .i64),(.int .i64),(.sl ar)])))(b4:List Bool)(b5:List (List (Sh.T ar))):Option (TL uR.σs⊕Out uQ):=
 br (iL t19 t18)
 (
  ah (aq t19 (List.length b2))<|
  aj (F0 ((List.getD b2 (Int.toNat t19) (zR)).1,((List.getD b2 (Int.toNat t19) (zR)).2.1,((List.getD b2 (Int.toNat t19) (zR)).2.2.1,())))) fun x0=>
  ah (room 24 (List.length (ap b5 (x0.1::[]))))<|
  some (.inl (t18,((IntKind.wrap .i64 (t19+(1:Int))),(aC,(aB,(aG,(aH,(aI,(aJ,(aw,(aE,(cE,(b1,((List.set b2 (Int.toNat t19) x0.2),(b4,((ap b5 (x0.1::[])),())))))))))))))))))
 (
  some (.inr (aC,(aB,(aG,(aH,(aI,(aJ,(aw,(aE,(cE,(b1,(b2,(b4,(b5,())))))))))))))))
def aem(c0:OD) :Hl:=bu (fg (Tn c0.F)) (pL (kB c0 k0) e0 1 l0 fun d=>by kernel_rfl)
def aen:Hl:=aem Hy
def Tp:Tq:=aQ (fg (Tn Hw)) NN
def aeu(F0:OC)(F1:tp)(F2:ti)(L5:Tq)(aC:Int)(aB:List Int)(aG:List (Sh.T ae))(aH aI aJ:List Int)(aw:List (Sh.T ab))(aE:List (Sh.T ae))(cE:List (Sh.T au))(b1:List Bool)(b2:List (Sh.T (.agg [(.int .i64),(.int .i64),(.sl ar)]))):Option (Out GF):=
 aj (F1 (b1,())) fun x0=>
 aj (L5 ((Int.ofNat (List.length b2)),((0:Int),(aC,(aB,(aG,(aH,(aI,(aJ,(aw,(aE,(cE,(x0.1,(b2,(x0.2.1,([],())))))))))))))))) fun x1=>
 some x1
def aev(c0:OD)(c1:tt)(c2:tj)(M5:Hl):y2:=⟨jl (aeu c0.F c1.F c2.F M5.L),pB Tryz.func35 32 (kB c0 (kB c1 (kB c2 k0))) e0 1 (sS (sC M5 l0)) fun d=>by kernel_rfl⟩
def Hr:y2:=aev Hy tq rh aen
def To:Hs:=Hr.F
abbrev gj:Sh:=(.agg [(.int .i64),(.int .i64)])
abbrev ae4:Sh:=(.agg [.bool,(.int .i64),.bool,(.int .i64)])
