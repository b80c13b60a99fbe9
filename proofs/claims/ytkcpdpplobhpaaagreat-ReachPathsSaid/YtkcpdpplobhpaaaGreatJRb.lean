import Derived.Test.YtkcpdpplobhpaaaGreatJRa
import Derived.Shelf.SlSortCmp.NoneTotal
import Derived.Shelf.Lay
import Derived.Lib.Walk
import Derived.Laws.IdiomRangeMap
set_option linter.unusedVariables false
set_option linter.unusedSimpArgs false
set_option linter.unnecessarySimpa false
section
namespace Go.Proofs.YtkcpdpplobhpaaaGreat.V
open Go Go.Sort
abbrev cH:=Int×Int×Unit
abbrev Zi:Sh:=.agg [.int .u64,.int .u64]
def iC(p:cH):List Value:=[.int .u64 p.1,.int .u64 p.2.1]
def fJ(L:List cH):List Value:=L.flatMap iC
theorem ry(p:cH)(L:List cH):fJ (p::L)=.int .u64 p.1::.int .u64 p.2.1::fJ L:=by unfold fJ;rw[List.flatMap_cons];rfl
theorem ru:∀L:List cH,(fJ L).length=L.length*2
 |[]=>rfl|p::L=>by rw[ry,List.length_cons,List.length_cons,ru L,List.length_cons];omega
theorem Sr{w:World}{A:Nat->Prop}{p:cH}{c:List Value}:Cs w A Zi p c↔c=iC p:=by
 constructor
 .rintro⟨c1,r1,rfl,h1,c2,r2,rfl,h2,h3⟩;rw[show c1=[.int .u64 p.1]from h1,show c2=[.int .u64 p.2.1]from h2,show r2=[]from h3];rfl
 .rintro rfl;exact⟨[.int .u64 p.1],[.int .u64 p.2.1],rfl,rfl,[.int .u64 p.2.1],[],rfl,rfl,rfl⟩
theorem rD{w:World}{A:Nat->Prop}:∀{L:List cH}{cs:List Value},bh (Cs w A Zi) L cs↔cs=fJ L
 |[],cs=>Iff.rfl|p::L,cs=>by
  constructor
  .rintro⟨c,r,rfl,h1,h2⟩;rw[Sr.1 h1,rD.1 h2,ry];rfl
  .rintro rfl;exact⟨iC p,fJ L,by rw[ry];rfl,Sr.2 rfl,rD.2 rfl⟩
theorem QJ:∀(L:List cH) (t:Nat),t<L.length*2->(fJ L)[t]?=some ((iC (L[t / 2]!))[t % 2]!)
 |[],t,h=>by simp at h|p::L,0,h=>by rw[ry];rfl|p::L,1,h=>by rw[ry];rfl|p::L,t+2,h=>by rw[ry,List.getElem?_cons_succ,List.getElem?_cons_succ,QJ L t (by rw[List.length_cons]at h;omega)];rw[show(t+2) / 2=t / 2+1 by omega,show(t+2) % 2=t % 2 by omega];rfl
theorem QU(L:List cH):flatK iC 2 L.toArray=(fJ L).toArray:=by
 apply Array.ext_getElem?;intro t;rcases Nat.lt_or_ge t (L.length*2)with q|q
 .have h1:=QJ L t q;have h2:t<L.toArray.size*2:=by simpa using q
  have h3:=get_flatK iC 2 L.toArray t h2;have h4:t<(flatK iC 2 L.toArray).size:=by rw[size_flatK];exact h2
  rw[Array.getElem?_eq_getElem h4,<-getElem!_pos _ t h4,h3];rw[List.getElem?_toArray,h1];simp
 .rw[Array.getElem?_eq_none (by rw[size_flatK];simpa using q),Array.getElem?_eq_none (by simp[ru];omega)]
def qT(x y:cH):Int:=Lib.compareInt x.1 y.1
theorem D5(x y:cH):ltOf qT x y=decide (x.1<y.1):=by
 unfold ltOf qT Lib.compareInt;by_cases h1:x.1<y.1
 .simp[h1]
 .by_cases h2:y.1<x.1<;>simp[h1,h2]
theorem alO:SWO (ltOf qT) where
 irrefl x:=by rw[D5];simp
 trans x y z h1 h2:=by rw[D5]at *;simp at *;omega
 ntrans x y z h1 h2:=by rw[D5]at *;simp at *;omega
def fK(L:List cH):List cH:=L.mergeSort (fun p q=>decide (p.1<=q.1))
theorem FJ(L:List cH):(fK L).Perm L:=List.mergeSort_perm _ _
theorem Q8(L:List cH):(fK L).Pairwise (fun p q=>p.1<=q.1):=by have:=List.pairwise_mergeSort (le:=fun p q:cH=>decide (p.1<=q.1)) (fun a b c h1 h2=>by simp at *;omega) (fun a b=>by simp;omega) L;exact this.imp (fun h=>of_decide_eq_true h)
theorem Q9{L A B:List cH}(hn:(L.map (fun p=>p.1)).Nodup)(ha:A.Perm L)(hb:B.Perm L)(sa:A.Pairwise (fun p q=>p.1<=q.1))(sb:B.Pairwise (fun p q=>p.1<=q.1)):A=B:=by
 refine List.Perm.eq_of_pairwise (le:=fun p q:cH=>p.1<=q.1) ?_ sa sb (ha.trans hb.symm);intro a b h1 h2 h3 h4;have e:a.1=b.1:=Int.le_antisymm h3 h4;have m1:=ha.mem_iff.1 h1;have m2:=hb.mem_iff.1 h2;obtain⟨i,hi⟩:=List.getElem?_of_mem m1;obtain⟨j,hj⟩:=List.getElem?_of_mem m2;have hi':(L.map (fun p=>p.1))[i]?=some a.1:=by rw[List.getElem?_map,hi];rfl
 have hj':(L.map (fun p=>p.1))[j]?=some a.1:=by rw[List.getElem?_map,hj,e];rfl
 have hlt:i<(L.map (fun p=>p.1)).length:=by
  rcases Nat.lt_or_ge i (L.map (fun p=>p.1)).length with q|q
  .exact q
  .rw[List.getElem?_eq_none q]at hi';cases hi'
 have:i=j:=(List.getElem?_inj hlt hn).1 (hi'.trans hj'.symm);subst this;rw[hi]at hj;exact Option.some.inj hj
theorem acg{w:World}{b:Nat}{L:List cH}{tail:List Value}{ty:TypeId}(h:w.heap[b]?=some (.cells (List.toArray (fJ L++tail)) ty (0,0))):HoldsK iC 2 w b 0 L.toArray:=by
 unfold HoldsK;rw[QU];intro j hj;have hj':j<(fJ L).length:=by simpa using hj
 constructor
 .unfold World.cell?
  try dsimp only
  rw[h];simp only[Option.isSome_none,Bool.false_eq_true,if_false,Nat.zero_add];rw[List.getElem?_toArray,List.getElem?_append_left hj'];rw[List.getElem?_eq_getElem hj'];simp[hj']
 .unfold World.frozen?
  try dsimp only
  rw[h];simp
theorem abb{w:World}{b n:Nat}{L L':List cH}{os:Array Obj}{tail:List Value}{ty:TypeId}(hl:L'.length=L.length)(h:w.heap[b]?=some (.cells (List.toArray (fJ L++tail)) ty (0,0))) :
  (sortWorldK iC 2 w b 0 n L'.toArray os).heap[b]?=some (.cells (List.toArray (fJ L'++tail)) ty (0,0))/\(∀k,k<w.heap.size->k≠b->(sortWorldK iC 2 w b 0 n L'.toArray os).heap[k]?=w.heap[k]?) /\
  (sortWorldK iC 2 w b 0 n L'.toArray os).os=w.os/\(sortWorldK iC 2 w b 0 n L'.toArray os).tape=w.tape/\(sortWorldK iC 2 w b 0 n L'.toArray os).output=w.output/\w.heap.size<=(sortWorldK iC 2 w b 0 n L'.toArray os).heap.size:=by
 have hb:b<w.heap.size:=by
  rcases Nat.lt_or_ge b w.heap.size with q|q
  .exact q
  .rw[Array.getElem?_eq_none q]at h;cases h
 have key:∀k,k<w.heap.size->(sortWorldK iC 2 w b 0 n L'.toArray os).heap[k]?=if b=k then(w.heap[k]?).map (onCells (putCells id 0 (fJ L').toArray))else w.heap[k]?:=by
  intro k hk;unfold sortWorldK Sort.grow putRowK putRow mapBlock;rw[QU];show(((Go.Sort.ahead w n).heap.modify b _)++os)[k]?=_;have hk':k<((Go.Sort.ahead w n).heap.modify b (onCells (putCells id 0 (fJ L').toArray))).size:=by rw[Array.size_modify];exact hk
  rw[Array.getElem?_append_left hk',Array.getElem?_modify];show(if b=k then(onCells _) <$> w.heap[k]? else w.heap[k]?)=_;rfl
 refine⟨?_,?_,rfl,rfl,rfl,?_⟩
 .rw[key b hb,if_pos rfl,h];show some (Obj.cells (putCells id 0 (fJ L').toArray (List.toArray (fJ L++tail))) ty (0,0))=_;congr 2;apply Array.ext_getElem?;intro t;unfold putCells;rw[Array.getElem?_mapIdx];simp only[Nat.zero_add,Nat.zero_le,true_and,Nat.sub_zero,id];have hlen:(fJ L').length=(fJ L).length:=by rw[ru,ru,hl]
  rcases Nat.lt_or_ge t (fJ L').length with q|q
  .rw[List.getElem?_toArray,List.getElem?_toArray,List.getElem?_append_left (by omega),List.getElem?_append_left q,List.getElem?_eq_getElem (by omega:t<(fJ L).length),List.getElem?_eq_getElem q];simp[q]
  .rw[List.getElem?_toArray,List.getElem?_toArray,List.getElem?_append_right (by omega),List.getElem?_append_right q,hlen];cases tail[t-(fJ L).length]? with
   |none=>rfl|some x=>
    have:¬t<(fJ L').toArray.size:=by simp;omega
    simp[Nat.not_lt.2 q]
 .intro k hk hne;rw[key k hk,if_neg (fun e=>hne e.symm)]
 .unfold sortWorldK grow putRowK putRow mapBlock;show _<=(((Go.Sort.ahead w n).heap.modify b _)++os).size;rw[Array.size_append,Array.size_modify];exact Nat.le_add_right _ _
theorem acu{L:List cH}{d':Array cH}(hn:(L.map (fun p=>p.1)).Nodup)(hp:PermIn 0 L.toArray.size L.toArray d')(hs:SortedIn (ltOf qT) 0 L.toArray.size d'):d'=(fK L).toArray:=by
 obtain⟨h1,_,h3⟩:=hp;have hsz:d'.size=L.length:=by simpa using h1
 have hperm:d'.toList.Perm L:=by
  have a1:(d'.extract 0 L.toArray.size)=d':=by apply Array.ext_getElem?;intro i;simp[Array.getElem?_extract];intro hi;omega
  have a2:(L.toArray.extract 0 L.toArray.size)=L.toArray:=by simp
  rw[a1,a2]at h3;simpa using h3
 have hsort:d'.toList.Pairwise (fun p q=>p.1<=q.1):=by
  refine List.pairwise_iff_getElem.2 fun i j hi hj hij=>?_;have hi':i<d'.size:=by simpa using hi
  have hj':j<d'.size:=by simpa using hj
  have:=hs i j (Nat.zero_le _) hij (by rw[hsz]at hj';simpa using hj');rw[D5,getElem!_pos d' i hi',getElem!_pos d' j hj']at this;have:=of_decide_eq_false this;rw[Array.getElem_toList,Array.getElem_toList];omega
 have:=Q9 hn hperm (FJ L) hsort (Q8 L);rw[<-this]
open Go.RowKit Go.Shelf
set_option maxRecDepth 1000000
def aeu:Go.Shelf.Ren:=⟨fun|6=>151|15=>200|14=>199|28=>237|29=>238|20=>229|21=>230|22=>231|23=>232|24=>233|25=>234|26=>235|27=>236|46=>258|47=>259|48=>260|49=>261|50=>262|57=>266|n=>n,fun|22=>104|24=>137|25=>230|3=>3|39=>83|0=>0|53=>290|55=>77|4=>4|46=>284|45=>283|50=>261|5=>5|9=>9|66=>305|70=>271|76=>312|77=>313|n=>n,fun|n=>n⟩
theorem Ro:Go.Proofs.SlLaysF0.n6 Tryz.prog aeu:={
 mixed:=by kernel_rfl
 f6:=⟨Tryz.f151.name,by decide,Tryz.func151.trans (congrArg some (by kernel_rfl))⟩
 f14:=⟨Tryz.f199.name,by decide,Tryz.func199.trans (congrArg some (by kernel_rfl))⟩
 f15:=Tryz.func200.trans (congrArg some (by kernel_rfl))
 f20:=⟨Tryz.f229.name,by decide,Tryz.func229.trans (congrArg some (by kernel_rfl))⟩
 f21:=⟨Tryz.f230.name,by decide,Tryz.func230.trans (congrArg some (by kernel_rfl))⟩
 f22:=⟨Tryz.f231.name,by decide,Tryz.func231.trans (congrArg some (by kernel_rfl))⟩
 f23:=⟨Tryz.f232.name,by decide,Tryz.func232.trans (congrArg some (by kernel_rfl))⟩
 f24:=⟨Tryz.f233.name,by decide,Tryz.func233.trans (congrArg some (by kernel_rfl))⟩
 f25:=⟨Tryz.f234.name,by decide,Tryz.func234.trans (congrArg some (by kernel_rfl))⟩
 f26:=⟨Tryz.f235.name,by decide,Tryz.func235.trans (congrArg some (by kernel_rfl))⟩
 f27:=⟨Tryz.f236.name,by decide,Tryz.func236.trans (congrArg some (by kernel_rfl))⟩
 f28:=Tryz.func237.trans (congrArg some (by kernel_rfl))
 f29:=Tryz.func238.trans (congrArg some (by kernel_rfl))
 f46:=⟨Tryz.f258.name,by decide,Tryz.func258.trans (congrArg some (by kernel_rfl))⟩
 f47:=Tryz.func259.trans (congrArg some (by kernel_rfl))
 f48:=Tryz.func260.trans (congrArg some (by kernel_rfl))
 f49:=⟨Tryz.f261.name,by decide,Tryz.func261.trans (congrArg some (by kernel_rfl))⟩
 f50:=⟨Tryz.f262.name,by decide,Tryz.func262.trans (congrArg some (by kernel_rfl))⟩
 f57:=⟨Tryz.f266.name,by decide,Tryz.func266.trans (congrArg some (by kernel_rfl))⟩
 t0:=Tryz.underlying0
 a0:=Tryz.isAgg0
 z0:=Tryz.sizeOf0
 v0:=Tryz.zeroValue0
 t3:=Tryz.underlying3
 a3:=Tryz.isAgg3
 z3:=Tryz.sizeOf3
 v3:=Tryz.zeroValue3
 t4:=Tryz.underlying4
 a4:=Tryz.isAgg4
 z4:=Tryz.sizeOf4
 v4:=Tryz.zeroValue4
 t5:=Tryz.underlying5
 a5:=Tryz.isAgg5
 z5:=Tryz.sizeOf5
 v5:=Tryz.zeroValue5
 t9:=Tryz.underlying9
 a9:=Tryz.isAgg9
 z9:=Tryz.sizeOf9
 v9:=Tryz.zeroValue9
 t22:=Tryz.underlying104
 a22:=Tryz.isAgg104
 z22:=Tryz.sizeOf104
 v22:=Tryz.zeroValue104
 t25:=Tryz.underlying230
 a25:=Tryz.isAgg230
 z25:=Tryz.sizeOf230
 v25:=Tryz.zeroValue230
 t39:=Tryz.underlying83
 a39:=Tryz.isAgg83
 z39:=Tryz.sizeOf83
 v39:=Tryz.zeroValue83
 t45:=Tryz.underlying283
 a45:=Tryz.isAgg283
 z45:=Tryz.sizeOf283
 v45:=Tryz.zeroValue283
 t46:=Tryz.underlying284
 a46:=Tryz.isAgg284
 z46:=Tryz.sizeOf284
 v46:=Tryz.zeroValue284
 t50:=Tryz.underlying261
 a50:=Tryz.isAgg261
 z50:=Tryz.sizeOf261
 v50:=Tryz.zeroValue261
 t53:=Tryz.underlying290
 a53:=Tryz.isAgg290
 z53:=Tryz.sizeOf290
 v53:=Tryz.zeroValue290
 t55:=Tryz.underlying77
 a55:=Tryz.isAgg77
 z55:=Tryz.sizeOf77
 v55:=Tryz.zeroValue77
 t66:=Tryz.underlying305
 a66:=Tryz.isAgg305
 z66:=Tryz.sizeOf305
 v66:=Tryz.zeroValue305
 t70:=Tryz.underlying271
 a70:=Tryz.isAgg271
 z70:=Tryz.sizeOf271
 v70:=Tryz.zeroValue271
 t76:=Tryz.underlying312
 a76:=Tryz.isAgg312
 z76:=Tryz.sizeOf312
 v76:=Tryz.zeroValue312
 t77:=Tryz.underlying313
 a77:=Tryz.isAgg313
 z77:=Tryz.sizeOf313
 v77:=Tryz.zeroValue313 }
set_option maxHeartbeats 2000000
theorem ad5(x:Int)(w:World):Calls Tryz.prog 201 #[.int .u64 x] w fun e w'=>e=.returned (.bool false)/\w'=w:=by
 go_enter Tryz.func201,Tryz.ntmps201
 go_wp2
 go_ret
 exact⟨by simp,rfl⟩
theorem ace(x y:Int)(w:World):Calls Tryz.prog 153 #[.int .u64 x,.int .u64 y] w fun e w'=>e=.returned (.int .i64 (Lib.compareInt x y))/\w'=w:=by
 have hc:=fun x w=>ad5 x w
 go_enter Tryz.func153,Tryz.ntmps153
 go_wp2_with (go_at_call 201;refine(hc _ _).mono ?_;rintro e w' ⟨rfl,rfl⟩)
 all_goals (go_ret;refine⟨?_,rfl⟩;unfold Lib.compareInt;(repeat' split)<;>first|rfl|(exfalso;omega))
theorem acd(x y:cH)(W:World):Calls Tryz.prog 152 #[.agg #[.int .u64 x.1,.int .u64 x.2.1],.agg #[.int .u64 y.1,.int .u64 y.2.1]] W fun e w'=>e=.returned (.int .i64 (qT x y))/\∃q os',w'=grow (W.drewN q) os':=by
 have hcon:=fun W'=>ace x.1 y.1 W';unfold qT;generalize Lib.compareInt x.1 y.1=r at hcon |-
 go_enter Tryz.func152,Tryz.ntmps152
 go_wp2_with (go_at_call 153;refine(hcon _).mono ?_;rintro e w' ⟨rfl,rfl⟩)
 go_ret
 exact⟨rfl,0,_,by rw[alloc_eq_grow,alloc_eq_grow,grow_grow];rfl⟩
abbrev pV:FuncId:=151
abbrev l8:FuncId:=152
theorem ab7(blk cap:Nat)(L:List cH)(w:World)(hH:HoldsK iC 2 w blk 0 L.toArray)(hblk:blk<w.heap.size)(hsz:L.length<=1000000)(hn:(L.map (fun p=>p.1)).Nodup) :
  Calls Tryz.prog pV #[.slice (some ⟨blk,0,none⟩) L.length cap,.func (.func l8) #[] #[]] w fun e w'=>e=.returned (.tuple #[])/\∃n os,w'=sortWorldK iC 2 w blk 0 n (fK L).toArray os:=by
 have eg:∀args w,(callFunc l8 args).run Tryz.prog w=.ok (.enter l8 args) w:=enters_of Tryz.func152 (by kernel_rfl) rfl;have hcon:=AnyQ.slices_SortFunc Ro 2 Tryz.isAgg137 Tryz.sizeOf137 iC (fun _=>rfl) (fun x v hv=>by simp[iC]at hv;rcases hv with rfl|rfl<;>rfl) qT alO l8 #[] blk 0 cap L.toArray w eg (fun _ _ _ _ x y=>acd x y _) hH hblk (by simp;omega);change Calls Tryz.prog pV #[.slice (some ⟨blk,0,none⟩) (L.toArray.size:Nat) cap,.func (.func l8) #[] #[]] w _ at hcon;refine hcon.mono ?_;rintro e w' ⟨rfl,d',n,os,hp,hs,rfl⟩;exact⟨rfl,n,os,by rw[acu hn hp hs]⟩
theorem acs(p:Option Addr)(cap:Nat)(fv:Value)(w:World):Calls Tryz.prog pV #[.slice p 0 cap,fv] w fun e w'=>e=.returned (.tuple #[])/\w'=w:=AnyF.slices_SortFunc_none Ro p cap fv w
theorem ac2{α:Type}(o:α)(j:Nat):(Ev.Tr.node (some o) .nil .nil).get j=if j=0 then some o else none:=by cases j with|zero=>rfl|succ m=>simp only[Ev.Tr.get];split<;>rfl
abbrev rE:Lay:={ T:=[(0,.hd 0 aC),(1,.func l8 [] [])],h:=[(0,.arr aC 137)],nx:=1 }
abbrev rA:List (Ev.Ex×Lay):=[(.ret,{ T:=[],h:=[(0,.arr aC 137)],nx:=1 })]
def uo(L:List cH):Bool:=decide ((L.map (fun p=>p.1)).Nodup)&&decide (L.length<=1000000)
def SH(d:TL rE.σs):Option (Out rA):=ai (uo d.1) (some (fK d.1,()))
theorem ab8:iK Tryz.prog pV ⟨2,rE,0,rA,SH⟩:=by
 refine⟨⟨Tryz.f151,aW Tryz.f151,Tryz.func151,by kernel_rfl,by kernel_rfl⟩,?_⟩;rintro⟨L,u⟩ o ho st e st' hput hs X vs args hX H hr hv R;obtain⟨hok,ho⟩:=mv ho
 replace hok:uo L=true:=hok
 replace ho:some (fK L,())=some o:=ho
 obtain rfl:=Option.some.inj ho;unfold uo at hok;simp only[Bool.and_eq_true,decide_eq_true_eq]at hok;obtain⟨hn,hlen⟩:=hok;have e1:st=⟨.node (some (.hd 0 aC)) (.node (some (.func l8 [] [])) .nil .nil) .nil,⟨.node (some (.arr aC L 137)) .nil .nil,1⟩⟩:=by
  have:Lay.put 2 rE (L,u)=some ⟨.node (some (.hd 0 aC)) (.node (some (.func l8 [] [])) .nil .nil) .nil,⟨.node (some (.arr aC L 137)) .nil .nil,1⟩⟩:=by kernel_rfl
  rw[this]at hput;cases hput;rfl
 subst e1;have e2:(e,st')=(.ret,⟨.nil,⟨.node (some (.arr aC (fK L) 137)) .nil .nil,1⟩⟩):=by
  have:jJ 0 rA (fK L,())=some (.ret,⟨.nil,⟨.node (some (.arr aC (fK L) 137)) .nil .nil,1⟩⟩):=by kernel_rfl
  exact Option.some.inj (hs.symm.trans this)
 cases e2;have hv':some [AV.hd 0 aC,AV.func l8 [] []]=some vs:=hv;cases hv';obtain⟨V0,r0,rfl,R0,V1,r1,rfl,R1,R2⟩:=R;have:r1=[]:=R2;subst this;obtain⟨xs,cs,rfl,hx1,hx2⟩:=R1;have:xs=[]:=hx1;subst this;have:cs=[]:=hx2;subst this;obtain⟨l,hs0,hone,hsl⟩:=R0;have hget:X.h.tr.get 0=some (.arr aC L 137):=by rw[hX];rfl
 have hV0:V0=l.slice L.length:=hsl _ (fE hget);subst hV0;have ho:=H.obj 0 _ l hget hs0;have tget:∀j,(Ev.Tr.node (some (bf.arr aC (fK L) 137)) .nil .nil).get j=if j=0 then some (.arr aC (fK L) 137)else none:=ac2 _
 have hlS:(fK L).length=L.length:=(FJ L).length_eq;have fin:∀w':World,w'.os=X.w.os->w'.tape=X.w.tape->w'.output=X.w.output->X.w.heap.size<=w'.heap.size->(∀k,k<X.w.heap.size->¬l.own k->w'.heap[k]?=X.w.heap[k]?)->gZ ⟨X.s,⟨.node (some (.arr aC (fK L) 137)) .nil .nil,1⟩,w',X.A⟩ l (.arr aC (fK L) 137) ->
   ∃X' Vs,Ending.returned (.tuple #[])=.returned (kH Vs)/\X'.w=w'/\X'.h=⟨.node (some (.arr aC (fK L) 137)) .nil .nil,1⟩/\aK X'/\aP X X'/\∀us,kR (Ev.Tr.nil:Ev.Tr AV) 0 0=some us->bk X' us Vs:=by
  intro w' q1 q2 q3 q4 q5 q6;refine⟨⟨X.s,⟨.node (some (.arr aC (fK L) 137)) .nil .nil,1⟩,w',X.A⟩,[],rfl,rfl,rfl,?_,?_,?_⟩
  .refine⟨?_,?_,?_,?_,?_,?_⟩
   .intro i o l' hi hl';rw[show(Cx.mk X.s _ w' X.A).h.tr.get i=_ from tget i]at hi;by_cases hz:i=0
    .subst hz;rw[if_pos rfl]at hi;cases hi;have:l'=l:=Option.some.inj (hl'.symm.trans hs0);subst this;exact q6
    .rw[if_neg hz]at hi;cases hi
   .intro i j o o' l1 l2 b hi hj _ _ _ _;rw[show(Cx.mk X.s _ w' X.A).h.tr.get i=_ from tget i]at hi;rw[show(Cx.mk X.s _ w' X.A).h.tr.get j=_ from tget j]at hj;by_cases hz:i=0
    .by_cases hz':j=0
     .rw[hz,hz']
     .rw[if_neg hz']at hj;cases hj
    .rw[if_neg hz]at hi;cases hi
   .intro i o hi;rw[show(Cx.mk X.s _ w' X.A).h.tr.get i=_ from tget i]at hi;by_cases hz:i=0
    .subst hz;exact Nat.zero_lt_one
    .rw[if_neg hz]at hi;cases hi
   .intro i l' hi;have:=H.cE i l' hi;rw[hX]at this;exact this
   .intro b hb;exact Nat.lt_of_lt_of_le (H.alt b hb) q4
   .intro i o l' b hi hl' hb hA;rw[show(Cx.mk X.s _ w' X.A).h.tr.get i=_ from tget i]at hi;by_cases hz:i=0
    .subst hz;exact H.loc 0 _ l' b hget hl' hb hA
    .rw[if_neg hz]at hi;cases hi
  .refine⟨q1,q2,q3,q4,fun _ _ h=>h,fun _ _ _ h=>h,by rw[hX];exact Nat.le_refl _,?_,?_,?_,?_,rfl⟩
   .intro b hb hni;exact q5 b hb (fun q=>hni ⟨0,_,l,hget,hs0,q⟩)
   .rintro b ⟨i,o,l',hi,hl',hb⟩;left;rw[show(Cx.mk X.s _ w' X.A).h.tr.get i=_ from tget i]at hi;by_cases hz:i=0
    .subst hz;exact⟨0,_,l',hget,hl',hb⟩
    .rw[if_neg hz]at hi;cases hi
   .intro j n hj hrow;obtain⟨o,h1,h2⟩:=jB hrow;rw[tget j]at h1;by_cases hz:j=0
    .subst hz;rw[if_pos rfl]at h1;cases h1;rw[fE hget];have:some (fK L).length=some n:=h2;rw[<-this,hlS]
    .rw[if_neg hz]at h1;cases h1
   .intro i hi hsi;by_cases hz:i=0
    .subst hz;rw[hs0]at hsi;cases hsi
    .have:X.h.next=1:=by rw[hX]
     omega
  .intro us hus;cases hus;rfl
 cases l with
 |nil=>have hL:L=[]:=ho;subst hL;show Calls _ _ #[.slice none 0 0,.func (.func l8) #[] #[]] _ _;refine(acs none 0 _ X.w).mono ?_;rintro e' w' ⟨rfl,rfl⟩;refine fin X.w rfl rfl rfl (Nat.le_refl _) (fun _ _ _=>rfl) ?_;exact(List.mergeSort_nil:fK []=[])
 |bS b c m=>exact(ho:False).elim|«at» b c=>obtain⟨cs,tail,h1,h2,h3,h4⟩:=ho;have hcs:cs=fJ L:=rD.1 h2;subst hcs;have hb:b<X.w.heap.size:=eD h1;show Calls _ _ #[.slice (some ⟨b,0,none⟩) L.length c,.func (.func l8) #[] #[]] _ _;refine(ab7 b c L X.w (acg h1) hb hlen hn).mono ?_;rintro e' w' ⟨rfl,n,os,rfl⟩;obtain⟨f1,f2,f3,f4,f5,f6⟩:=abb (n:=n) (os:=os) hlS h1;refine fin _ f3 f4 f5 f6 (fun k hk hne=>f2 k hk hne) ?_;exact⟨fJ (fK L),tail,f1,rD.2 rfl,by rw[(ru (fK L)).trans ((congrArg (·*2) hlS).trans (ru L).symm)];exact h3,Nat.le_trans (Nat.le_of_eq hlS) h4⟩
def oE:Kb pV 2 rE 0 rA:=⟨SH,ab8⟩
theorem aem{P:Program}(w:World)(ty:TypeId)(it bm since c0:Nat)(seen:Array Nat)(es:Array MapEntry)(clock:Nat)(hit:w.heap[it]?=some (.mapIter (some bm) since seen c0))(hb:w.heap[bm]?=some (.map es clock))
  (hold:∀x∈es.toList,x.born<since) (hsc:since<=c0) :
  ((leftOf es seen).size=0/\(Instr.next (.pointer (some ⟨it,0,none⟩)) false ty).run P w=.ok (.tuple #[.bool false]) w) \/
  ∃e∈(leftOf es seen).toList,∃d:Nat,(Instr.next (.pointer (some ⟨it,0,none⟩)) false ty).run P w=.ok (.tuple #[.bool true,e.key,e.val]) { w with heap:=w.heap.setIfInBounds it (.mapIter (some bm) since (seen.push e.born) clock),drawn:=d }:=by
 simp only[Instr.next,getObj,Sem.run_bind,Sem.run,hit,hb,Result.andThen,next_test_false seen es since c0 hold hsc,Bool.false_eq_true,if_false];unfold leftOf;have hmem:∀x∈(Array.filter (fun e=>!seen.contains e.born) es).toList,x.born<since:=fun x hx=>hold x (by simp at hx |-;exact hx.1);generalize Array.filter (fun e=>!seen.contains e.born) es=L at hmem |-;have e1:L.filter (fun x=>decide (x.born<since))=L:=Array.filter_eq_self.2 (fun x hx=>by simpa using hmem x (by simpa using hx));have e2:L.filter (fun x=>decide (x.born>=since))=#[]:=by rw[Array.filter_eq_empty_iff];intro x hx;have:=hmem x (by simpa using hx);simp;omega
 simp only[e1,e2,Array.append_empty];by_cases h0:L.size=0
 .left;have:L=#[]:=Array.eq_empty_of_size_eq_zero h0;subst this;refine⟨rfl,?_⟩;simp[choose,Sem.run,Question.forced]
 .right;have hne:L.isEmpty=false:=by simp[Array.isEmpty,h0]
  simp only[hne,Bool.false_eq_true,if_false,Array.empty_append,Array.size_map];have hch:∃(j:Nat) (d:Nat),j<L.size/\(choose (Question.mapNext L.size)).run P w=.ok j { w with drawn:=d }:=by
   by_cases hf:L.size<=1
   .exact⟨0,w.drawn,by omega,by simp[choose,Sem.run,Question.forced,hf]⟩
   .exact⟨w.tape w.drawn (Question.mapNext L.size) % L.size,w.drawn+1,Nat.mod_lt _ (by omega),by simp only[choose,Sem.run,Question.forced,decide_eq_true_eq,hf,if_false,Question.cut]⟩
  obtain⟨j,d,hj,hrun⟩:=hch;refine⟨L[j],by simp,d,?_⟩;have hset:∀o':Obj,(setObj it o').run P { w with drawn:=d }=.ok () { w with heap:=w.heap.setIfInBounds it o',drawn:=d }:=fun o'=>by simp only[setObj,Sem.run];have:({ w with drawn:=d }:World).heap[it]?=some (.mapIter (some bm) since seen c0):=hit;rw[this]
  simp only[hrun,Array.getElem?_map,Array.getElem?_eq_getElem hj,Option.map_some,Sem.run_bind,hset,Result.andThen];rfl
theorem acN{P:Program}(w:World)(it bm since:Nat)(seen:Array Nat)(es:Array MapEntry)(clock:Nat)(e:MapEntry)(hit:w.heap[it]?=some (.mapIter (some bm) since (seen.push e.born) clock))(hb:w.heap[bm]?=some (.map es clock))(he:e∈es.toList)(hn:(es.toList.map (·.born)).Nodup) :
  (Instr.entry (.pointer (some ⟨it,0,none⟩))).run P w=.ok (.tuple #[e.key,e.val]) w:=by
 have hf:es.find? (·.born == e.born)=some e:=by rw[<-Array.find?_toList];exact find_born e es.toList hn he
 simp only[Instr.entry,getObj,Sem.run_bind,Sem.run,hit,hb,Result.andThen,Array.back?_push,bne_self_eq_false,Bool.false_eq_true,if_false,hf];rfl
open Go.Proofs.YtkcpdpplobhpaaaGreat.Ev (Tr Tr.cf nth dc Ex)
noncomputable abbrev pP:Program:=Tryz.prog
noncomputable abbrev OL:TypeId->Option Sh:=mb Tryz.prog 20
noncomputable abbrev ov:TypeId:=137
noncomputable def cl(K:KN){R:Type}:gJ R:=pU pP OL K.kn (kv e0.l) 1
noncomputable def rk(K:KN){R:Type}(c:Code)(st:St)(k:Ex->St->Option R):Option R:=runK pP OL (cl K) (Zk R) 26 c st k
noncomputable def re(K:KN){R:Type}(ops:Array Oper)(l:List Oper)(st:St)(k:St->Option R):Option R:=rT pP OL (cl K) 26 ops l st k
theorem Sq(K:KN){R:Type}:jw pP (cl (R:=R) K):=tB qC K.ok (qD e0.h) 1
noncomputable def Tk(c:Code)(st:St)(e:Ex)(st':St):Prop:=∀X a,aK X->RF X 26 st a->∀Q:Exit->Act->World->Prop,(∀X' a',RF X' 26 st' a'->aP X X'->Q e.to a' X'.w)->c.wp pP Q a X.w
theorem yZ(K:KN){R:Type}{c:Code}(hl:dD c=[]){st:St}{k:Ex->St->Option R}{r:R}(h:rk K c st k=some r):∃e st',k e st'=some r/\Tk c st e st':=by obtain⟨e,st',h1,h2⟩:=tH (G:=fun _=>True) (base:=st.h.next) qC (Sq K) c (by rw[hl];intro x hx;cases hx) st k r h;exact⟨e,st',h1,fun X a H RR Q hQ=>h2 X X a ⟨by rw[RR.h],trivial⟩ H (aP.refl X) RR Q hQ⟩
theorem uy(K:KN){R:Type}{ops:Array Oper}:∀(l:List Oper) (j:Nat) (st:St) (k:St->Option R) (r:R),re K ops l st k=some r->(∀i,i<l.length->l[i]?=ops[j+i]?) ->
  ∃st',k st'=some r/\∀X a,RF X 26 st a->∀(m:Nat) (Q:Exit->Act->World->Prop),(∀X' a',RF X' 26 st' a'->aP X X'->wpOps pP ops Q (List.range' (j+l.length) m) a' X'.w)->wpOps pP ops Q (List.range' j (l.length+m)) a X.w
 |[],j,st,k,r,e,_=>⟨st,e,fun X a RR m Q hQ=>by simpa using hQ X a RR (aP.refl X)⟩|o::l,j,st,k,r,e,hl=>by unfold re at e;simp only[rT]at e;obtain⟨st₁,e,S⟩:=T7 (Sq K) e (i:=j) (by have:=hl 0 (by simp);simpa using this.symm);obtain⟨st',hk,rest⟩:=uy K l (j+1) st₁ k r e (by intro i hi;have:=hl (i+1) (by simpa using hi);simp only[List.getElem?_cons_succ]at this;rw[this];congr 1;omega);refine⟨st',hk,?_⟩;intro X a RR m Q hQ;rw[List.length_cons,show l.length+1+m=(l.length+m)+1 by omega,List.range'_succ,wpOps_cons];refine S X a RR _ _ ?_;intro X' a' R' E';refine rest X' a' R' m Q ?_;intro X'' a'' R'' E'';have:=hQ X'' a'' R'' (E'.trans E'');rw[List.length_cons,show j+(l.length+1)=j+1+l.length by omega]at this;exact this
theorem yY{ops:Array Oper}{i m:Nat}{o:Oper}{a:Act}{w w':World}{V:Value}{Q:Exit->Act->World->Prop}(ho:ops[i]?=some o)(hg:o.guard=none)(hr:(execOp a.eval o).run pP w=.ok (.value V) w')(h:wpOps pP ops Q (List.range' (i+1) m) (a.put o.dst V) w') :
  wpOps pP ops Q (List.range' i (m+1)) a w:=by
 rw[List.range'_succ,wpOps_cons];unfold wpOp;rw[ho];have hw:Region.wanted o (yielded ops a.tmps)=true:=by unfold Region.wanted;rw[hg]
 simp only[hw,if_true];left;unfold Oper.wp;rw[hr];exact h
noncomputable def qL:Code->Code|.seq a _=>a|c=>c
noncomputable def qR:Code->Code|.seq _ b=>b|c=>c
noncomputable def qB:Code->Code|.block _ b=>b|.loop b=>b|c=>c
noncomputable def qO:Code->Array Oper|.region _ o _=>o|_=>#[]
noncomputable abbrev cC:Code:=aW Tryz.f83
noncomputable def cA:Code:=qL cC
noncomputable def cB:Code:=qL (qR cC)
noncomputable def o3:Array Oper:=qO (qL (qL (qR (qR cC))))
noncomputable def pT:Code:=qB (qB (qR (qL (qR (qR cC)))))
noncomputable def sF:Code:=qR (qR (qR cC))
noncomputable def o4:Array Oper:=qO (qL pT)
noncomputable def o5:Array Oper:=qO (qL (qB (qR (qR pT))))
noncomputable def c6:Code:=qR (qB (qR (qR pT)))
theorem shC:cC=.seq cA (.seq cB (.seq (.seq (.region 3 o3 false) (.block 0 (.loop pT))) sF)):=by kernel_rfl
theorem shB:pT=.seq (.region 4 o4 false) (.seq (.cond (.tmp 13) .skip (.exit 0)) (.block 1 (.seq (.region 5 o5 false) c6))):=by kernel_rfl
noncomputable def pI:List Oper:=o4.toList.drop 1
noncomputable def nE:List Oper:=o5.toList.drop 1
noncomputable def TA:Tr AV:=.node (some (.ptr 0 0)) .nil .nil
noncomputable def mD(a b:Int)(M:List cH):Hp:=⟨.node (some (.cells [.int .i64 a,.int .i64 b,.mp 1] 220)) (.node (some (.map .u64 (.int .u64) M)) .nil .nil) .nil,2⟩
noncomputable def vZ:Tr AV:=.node none (.node none (.node none .nil (.node (some (.ptr 0 0)) .nil .nil)) .nil) (.node (some (.hd 1 aC)) .nil .nil)
noncomputable def hL(N:List cH):Hp:=⟨.node none (.node (some (.arr aC N ov)) .nil .nil) .nil,2⟩
noncomputable def kE{R:Type}(f:List cH->Option R)(e:Ex)(st:St):Option R:=match e,kM pP st Tryz.f83.results.toList with
 |.ret,some [.hd j _]=>match st.h.tr.get j with
  |some (.arr σ L t)=>match h:σ.eqv aC,Nat.beq t ov with|true,true=>f (jk h L)|_,_=>none
  |_=>none
 |_,_=>none
noncomputable def kN{R:Type}(f:List cH->Option R)(e:Ex)(st:St):Option R:=match e,st.T.get 2,st.T.get 11 with
 |.normal,some (.hd j _),some (.ptr 0 0)=>match st.h.tr.get j with
  |some (.arr σ L t)=>match h:σ.eqv aC,Nat.beq t ov with|true,true=>f (jk h L)|_,_=>none
  |_=>none
 |_,_,_=>none
noncomputable def kT(k v:Int)(st:St):Option (List cH):=match st.T.get 13,st.T.get 11 with
 |some (.bool true),some (.ptr 0 0)=>match fu 26 st.T (some 14) (.cj [.int .u64 k,.int .u64 v])with|some T=>re k0 o5 nE ⟨T,st.h⟩ fun st=>rk k0 c6 st (kN some)|none=>none
 |_,_=>none
noncomputable def kF(K:Kb pV 2 rE 0 rA)(st:St):Option (List cH):=match st.T.get 13 with|some (.bool false)=>rk (kB K k0) sF st (kE some)|_=>none
noncomputable def g4(N:List cH)(v:AV)(K:KN)(k:St->Option (List cH)):Option (List cH):=match fu 26 vZ (some 12) v with|some T=>re K o4 pI ⟨T,hL N⟩ k|none=>none
noncomputable def D4(st:St):Option Hp:=match st.T.get 2,st.T.get 10 with|some .bq,some (.mp 1)=>some st.h|_,_=>none
noncomputable def kA(e:Ex)(st:St):Option Hp:=match e with|.normal=>re k0 o3 (o3.toList.take 4) st D4|_=>none
theorem eqA(a b:Int)(M:List cH):rk k0 cA ⟨TA,mD a b M⟩ (fun e st=>match e with|.normal=>rk k0 cB st kA|_=>none)=some (mD a b M):=by kernel_rfl
theorem eqT(N:List cH)(k v:Int):g4 N (.cj [.bool true,.int .u64 k,.int .u64 v]) k0 (kT k v)=ai (room 16 (List.length (N++[(k,(v,()))]))) (some (N++[(k,(v,()))])):=by kernel_rfl
theorem eqF(N:List cH)(K:Kb pV 2 rE 0 rA):g4 N (.cj [.bool false]) (kB K k0) (kF K)=ar (K.F (N,())) fun o=>some o.1:=by kernel_rfl
theorem alI:∃o,o3[4]?=some o/\o.guard=none/\o.dst=some 11/\o.op=.range 218 (.tmp 10):=⟨_,rfl,rfl,rfl,rfl⟩
theorem alJ:∃o,o4[0]?=some o/\o.guard=none/\o.dst=some 12/\o.op=.next (.tmp 11) false:=⟨_,rfl,rfl,rfl,rfl⟩
theorem alK:∃o,o5[0]?=some o/\o.guard=none/\o.dst=some 14/\o.op=.entry (.tmp 11):=⟨_,rfl,rfl,rfl,rfl⟩
theorem SA{α:Type}(o:α)(j:Nat):(Tr.node none (.node (some o) .nil .nil) .nil).get j=if j=1 then some o else none:=by
 rcases j with _|_|j
 .rfl
 .rfl
 .rw[if_neg (by omega)];simp only[Tr.get];split
  .rename_i h;have h:=Nat.eq_of_beq_eq_true h;obtain⟨m,hm⟩:∃m,(j+1) / 2=m+1:=⟨(j+1) / 2-1,by omega⟩;rw[hm];simp only[];split<;>rfl
  .rfl
theorem Rc(t:Nat)(v:AV)(h:vZ.get t=some v):(t=2/\v=.hd 1 aC)\/(t=11/\v=.ptr 0 0):=by
 have h1:Tr.set FT (Tr.node none .nil (.node (some (AV.hd 1 aC)) .nil .nil)) 11 (some (.ptr 0 0))=some vZ:=by kernel_rfl
 have h2:Tr.set FT (Tr.nil:Tr AV) 2 (some (.hd 1 aC))=some (Tr.node none .nil (.node (some (AV.hd 1 aC)) .nil .nil)):=by kernel_rfl
 rw[Tr.cf _ _ _ _ _ h1 t]at h;by_cases q:t=11
 .rw[if_pos q]at h;exact .inr ⟨q,(Option.some.inj h).symm⟩
 .rw[if_neg q,Tr.cf _ _ _ _ _ h2 t]at h;by_cases q2:t=2
  .rw[if_pos q2]at h;exact .inl ⟨q2,(Option.some.inj h).symm⟩
  .rw[if_neg q2]at h;cases h
theorem lK(N:List cH)(j:Nat):(hL N).tr.get j=if j=1 then some (.arr aC N ov)else none:=SA _ j
def cu(e:MapEntry):cH:=((match e.key with|.int _ n=>n|_=>0),((match e.val with|.int _ n=>n|_=>0),()))
theorem QT{w:World}{A:Nat->Prop}:∀{es:List MapEntry}{N:cW (.int .u64)},gG w A .u64 (.int .u64) es N->es.map cu=N/\∀e∈es,e.key=.int .u64 (cu e).1/\e.val=.int .u64 (cu e).2.1
 |[],N,h=>⟨(show N=[]from h).symm,fun e he=>by cases he⟩
 |e::es,N,h=>by
  cases N with
  |nil=>exact h.elim|cons p N=>
   obtain⟨h1,h2,h3⟩:=h;obtain⟨g1,g2⟩:=QT h3;obtain⟨q1,q2⟩:=h2;have hv:e.val=.int .u64 p.2.1:=by
    have q1:e.val.cells.toList=[.int .u64 p.2.1]:=q1;have hc:e.val.cells=#[e.val]:=by cases hx:e.val<;>first|rfl|(rw[hx]at q2;cases q2)
    rw[hc]at q1;exact(List.cons.inj q1).1
   have he:cu e=p:=by unfold cu;rw[h1,hv];rfl
   refine⟨?_,?_⟩
   .rw[List.map_cons,g1,he];rfl
   .intro x hx;rcases List.mem_cons.1 hx with rfl|hx
    .rw[he];exact⟨h1,hv⟩
    .exact g2 x hx
def lF(es:List MapEntry)(seen:Array Nat):List cH:=(es.filter (fun e=>seen.contains e.born)).map cu
theorem acX(es:List MapEntry):lF es #[]=[]:=by unfold lF;rw[List.filter_eq_nil_iff.2 (by intro x _;simp)];rfl
theorem QW{seen:Array Nat}{e:MapEntry}(hs:seen.contains e.born=false):∀{es:List MapEntry},es.Pairwise (fun e f=>e.born≠f.born)->e∈es->(lF es (seen.push e.born)).Perm (lF es seen++[cu e])
 |x::l,hp,he=>by
  obtain⟨p1,p2⟩:=List.pairwise_cons.1 hp;rcases List.mem_cons.1 he with rfl|hl
  .have hsame:l.filter (fun y=>(seen.push e.born).contains y.born)=l.filter (fun y=>seen.contains y.born):=by
    refine List.filter_congr fun y hy=>?_;rw[contains_push];have:(y.born == e.born)=false:=by cases hc:y.born == e.born with|false=>rfl|true=>exact absurd (beq_iff_eq.1 hc).symm (p1 y hy)
    rw[this,Bool.or_false]
   unfold lF;rw[List.filter_cons_of_pos (by rw[contains_push];simp),List.filter_cons_of_neg (by rw[hs];decide),hsame,List.map_cons];exact(List.perm_append_singleton _ _).symm
  .have ih:=QW hs p2 hl;have hx:(x.born == e.born)=false:=by cases hc:x.born == e.born with|false=>rfl|true=>exact absurd (beq_iff_eq.1 hc) (p1 e hl)
   unfold lF at ih |-;by_cases q:seen.contains x.born=true
   .rw[List.filter_cons_of_pos (by rw[contains_push,hx,q];rfl),List.filter_cons_of_pos (p:=fun e:MapEntry=>seen.contains e.born) q,List.map_cons,List.map_cons,List.cons_append];exact ih.cons _
   .rw[List.filter_cons_of_neg (by rw[contains_push,hx,Bool.or_false];exact q),List.filter_cons_of_neg (p:=fun e:MapEntry=>seen.contains e.born) q];exact ih
theorem ad0{es:Array MapEntry}{seen:Array Nat}(h:(leftOf es seen).size=0):lF es.toList seen=es.toList.map cu:=by unfold lF;rw[List.filter_eq_self.2 (fun x hx=>all_seen es seen h x hx)]
section
variable{X₂:Cx}{bm it clk:Nat}{es:Array MapEntry}{x:Nat}
structure LI(X₂:Cx)(x bm it clk:Nat)(es:Array MapEntry)(N:List cH)(seen:Array Nat)(W:Cx)(a:Act):Prop where
 rf:RF W 26 ⟨vZ,hL N⟩ a
 s0:W.s 0=some (.at it 0)
 A:W.A=fun b=>X₂.A b\/b=x\/b=bm\/b=it
 os:W.w.os=X₂.w.os
 tape:W.w.tape=X₂.w.tape
 out:W.w.output=X₂.w.output
 old:∀b,b<X₂.w.heap.size->W.w.heap[b]?=X₂.w.heap[b]?
 iter:W.w.heap[it]?=some (.mapIter (some bm) clk seen clk)
 bw:∀b,W.bw b->it<b
 perm:N.Perm (lF es.toList seen)
structure LX(X₂:Cx)(x bm it:Nat)(W:Cx)(st:St)(a:Act):Prop where
 rf:RF W 26 st a
 A:W.A=fun b=>X₂.A b\/b=x\/b=bm\/b=it
 os:W.w.os=X₂.w.os
 tape:W.w.tape=X₂.w.tape
 out:W.w.output=X₂.w.output
 old:∀b,b<X₂.w.heap.size->W.w.heap[b]?=X₂.w.heap[b]?
 bw:∀b,W.bw b->it<b
 bS:it<W.w.heap.size
theorem acp{T:Tr AV}{t:Tmp}{v:AV}{R:Type}{f:Tr AV->Option R}{r:R}(h:(match fu 26 T (some t) v with|some T=>f T|none=>none)=some r):∃T',fu 26 T (some t) v=some T'/\f T'=some r:=by
 split at h
 .rename_i T' hT;exact⟨T',hT,h⟩
 .cases h
theorem Rh{N:List cH}{v:AV}{K:KN}{k:St->Option (List cH)}{r:List cH}(h:g4 N v K k=some r):∃T,fu 26 vZ (some 12) v=some T/\re K o4 pI ⟨T,hL N⟩ k=some r:=by
 unfold g4 at h;split at h
 .rename_i T' hT;exact⟨T',hT,h⟩
 .cases h
theorem alP{W:Cx}{u:AV}{V:Value}(h:Rel W u V):Rel W (.cj [u]) (.tuple #[V]):=⟨[V],rfl,V,[],rfl,h,rfl⟩
theorem alQ{W:Cx}{u u':AV}{V V':Value}(h:Rel W u V)(h':Rel W u' V'):Rel W (.cj [u,u']) (.tuple #[V,V']):=⟨[V,V'],rfl,V,[V'],rfl,h,V',[],rfl,h',rfl⟩
theorem alR{W:Cx}{u u' u'':AV}{V V' V'':Value}(h:Rel W u V)(h':Rel W u' V')(h'':Rel W u'' V''):Rel W (.cj [u,u',u'']) (.tuple #[V,V',V'']):=⟨[V,V',V''],rfl,V,[V',V''],rfl,h,V',[V''],rfl,h',V'',[],rfl,h'',rfl⟩
theorem Q6{W:Cx}{T:Tr AV}{a:Act}{it:Nat}(R:jN W 26 T a)(h:T.get 11=some (.ptr 0 0))(s0:W.s 0=some (.at it 0)):a.eval (.tmp 11)=.pointer (some ⟨it,0,none⟩):=by obtain⟨y,c,h1,h2⟩:=rS R (c:=.tmp 11) (v:=.ptr 0 0) h;rw[s0]at h1;cases h1;exact h2
theorem aeb{e:Ex}{st:St}{N':List cH}(h:kN some e st=some N'):e=.normal/\st.T.get 11=some (.ptr 0 0)/\∃j τ,st.T.get 2=some (.hd j τ)/\st.h.tr.get j=some (.arr aC N' ov):=by
 unfold kN at h;split at h<;>try cases h
 rename_i j τ h2 h11;split at h<;>try cases h
 rename_i σ L t hg;split at h<;>try cases h
 rename_i he ht;have ht:=Nat.eq_of_beq_eq_true ht;subst ht;obtain rfl:=Sh.eu he;exact⟨rfl,h11,j,τ,h2,hg⟩
theorem ad9{e:Ex}{st:St}{N':List cH}(h:kE some e st=some N'):e=.ret/\∃j τ,kM pP st Tryz.f83.results.toList=some [.hd j τ]/\st.h.tr.get j=some (.arr aC N' ov):=by
 unfold kE at h;split at h<;>try cases h
 rename_i j τ hr;split at h<;>try cases h
 rename_i σ L t hg;split at h<;>try cases h
 rename_i he ht;have ht:=Nat.eq_of_beq_eq_true ht;subst ht;obtain rfl:=Sh.eu he;exact⟨rfl,j,τ,hr,hg⟩
theorem aea{st:St}{N':List cH}(h:kF oE st=some N'):st.T.get 13=some (.bool false)/\rk (kB oE k0) sF st (kE some)=some N':=by
 unfold kF at h;split at h<;>try cases h
 rename_i h13;exact⟨h13,h⟩
theorem aec{k v:Int}{st:St}{N':List cH}(h:kT k v st=some N'):st.T.get 13=some (.bool true)/\st.T.get 11=some (.ptr 0 0)/\∃T,fu 26 st.T (some 14) (.cj [.int .u64 k,.int .u64 v])=some T/\re k0 o5 nE ⟨T,st.h⟩ (fun st=>rk k0 c6 st (kN some))=some N':=by
 unfold kT at h;split at h<;>try cases h
 rename_i h13 h11;exact⟨h13,h11,acp h⟩
theorem r4:List.range o4.size=List.range' 0 (1+1):=by kernel_rfl
theorem r5:List.range o5.size=List.range' 0 (4+1):=by kernel_rfl
theorem t4(i:Nat)(hi:i<pI.length):pI[i]?=o4[1+i]?:=by
 have:pI.length=1:=by kernel_rfl
 have h0:pI[0]?=o4[1]?:=by kernel_rfl
 obtain rfl:i=0:=by omega
 exact h0
theorem t5(i:Nat)(hi:i<nE.length):nE[i]?=o5[1+i]?:=by
 have:nE.length=4:=by kernel_rfl
 have h0:nE[0]?=o5[1]?:=by kernel_rfl
 have h1:nE[1]?=o5[2]?:=by kernel_rfl
 have h2:nE[2]?=o5[3]?:=by kernel_rfl
 have h3:nE[3]?=o5[4]?:=by kernel_rfl
 rcases i with _|_|_|_|i
 .exact h0
 .exact h1
 .exact h2
 .exact h3
 .omega
theorem QZ{a:Act}{o:Oper}{w w':World}{V:Value}{it:Nat}(hop:o.op=.next (.tmp 11) false)(hev:a.eval (.tmp 11)=.pointer (some ⟨it,0,none⟩))(h:(Instr.next (.pointer (some ⟨it,0,none⟩)) false o.type).run pP w=.ok V w'):(execOp a.eval o).run pP w=.ok (.value V) w':=by simp only[execOp,hop,hev,Sem.run_bind,h,Result.andThen_ok,Sem.run_pure]
theorem acf{a:Act}{o:Oper}{w w':World}{V:Value}{it:Nat}(hop:o.op=.entry (.tmp 11))(hev:a.eval (.tmp 11)=.pointer (some ⟨it,0,none⟩))(h:(Instr.entry (.pointer (some ⟨it,0,none⟩))).run pP w=.ok V w'):(execOp a.eval o).run pP w=.ok (.value V) w':=by simp only[execOp,hop,hev,Sem.run_bind,h,Result.andThen_ok,Sem.run_pure]
theorem acn(hb:X₂.w.heap[bm]?=some (.map es clk))(hit:it=X₂.w.heap.size)(hst:∀e∈es.toList,e.born<clk)(hnd:es.toList.Pairwise (fun e f=>e.born≠f.born))(hdat:∀e∈es.toList,e.key=.int .u64 (cu e).1/\e.val=.int .u64 (cu e).2.1)(hlen:es.size<=1000000)
  (hkey:((es.toList.map cu).map (fun p=>p.1)).Nodup) {Q:Exit->Act->World->Prop}(hQ:∀N W st a,N.Perm (es.toList.map cu)->LX X₂ x bm it W st a->rk (kB oE k0) sF st (kE some)=some (fK N)->Q (.exit 0) a W.w) :
  ∀(m:Nat) (N:List cH) (seen:Array Nat) (W:Cx) (a:Act),LI X₂ x bm it clk es N seen W a->(leftOf es seen).size<m->Code.rounds pP pT Q m a W.w:=by
 have hbm:bm<X₂.w.heap.size:=eD hb;intro m
 induction m with
 |zero=>intro N seen W a L h;omega|succ m ih=>
  intro N seen W a L hm;have hitW:it<W.w.heap.size:=eD L.iter;have hb':W.w.heap[bm]?=some (.map es clk):=(L.old bm hbm).trans hb;have hev:=Q6 L.rf.T (by rfl) L.s0;have hNl:N.length<=1000000:=by rw[L.perm.length_eq];unfold lF;rw[List.length_map];exact Nat.le_trans (List.length_filter_le _ _) (by rw[Array.length_toList];exact hlen)
  rw[rounds_succ,shB];refine wp_seq (wp_region ?_);rw[r4];obtain⟨o,ho,hg,hd,hop⟩:=alJ;rcases aem (P:=pP) W.w o.type it bm clk clk seen es clk L.iter hb' hst (Nat.le_refl _)with⟨hz,hrun⟩|⟨e,he,d,hrun⟩
  .-- all have come
   have hall:N.Perm (es.toList.map cu):=by have:=L.perm;rw[ad0 hz]at this;exact this
   have hok:uo N=true:=by unfold uo;simp only[Bool.and_eq_true,decide_eq_true_eq];exact⟨((hall.map _).nodup_iff).2 hkey,hNl⟩
   have hE:g4 N (.cj [.bool false]) (kB oE k0) (kF oE)=some (fK N):=by rw[eqF];have:oE.F (N,())=some (fK N,()):=ak hok rfl;exact ag this rfl
   obtain⟨T,hT,hre⟩:=Rh hE;obtain⟨st',hk,step⟩:=uy (kB oE k0) pI 1 _ _ _ hre t4;obtain⟨h13,hend⟩:=aea hk;refine yY ho hg (QZ hop hev hrun) ?_;rw[hd];refine step W _ ⟨L.rf.h,L.rf.T.put (alP (u:=.bool false) (V:=.bool false) rfl) hT,L.rf.H⟩ 0 _ ?_;intro X' a' R' E';refine wp_seq (wp_cond_false (rS R'.T (c:=.tmp 13) (v:=.bool false) h13) (wp_exit ?_));refine hQ N X' st' a' hall ⟨R',by rw[E'.A,L.A],E'.os.trans L.os,E'.tape.trans L.tape,E'.output.trans L.out,?_,?_,Nat.lt_of_lt_of_le hitW E'.size⟩ hend
   .intro b hb2;exact(E'.frame b (Nat.lt_of_lt_of_le (by omega) (Nat.le_of_lt hitW)) (fun q=>by have:=L.bw b q;omega)).trans (L.old b hb2)
   .intro b q;rcases E'.bw b q with q|q
    .exact L.bw b q
    .omega
  .-- one more
   obtain⟨m1,m2⟩:=mem_left he;obtain⟨ek,ev⟩:=hdat e m1;obtain⟨w',hw'⟩:∃w':World,w'={ W.w with heap:=W.w.heap.setIfInBounds it (.mapIter (some bm) clk (seen.push e.born) clk),drawn:=d }:=⟨_,rfl⟩;rw[<-hw',ek,ev]at hrun;have hget:∀b,b≠it->w'.heap[b]?=W.w.heap[b]?:=by intro b hne;rw[hw'];show(W.w.heap.setIfInBounds it _)[b]?=_;rw[Array.getElem?_setIfInBounds,if_neg (fun q=>hne q.symm)]
   have hiter:w'.heap[it]?=some (.mapIter (some bm) clk (seen.push e.born) clk):=by rw[hw'];show(W.w.heap.setIfInBounds it _)[it]?=_;rw[Array.getElem?_setIfInBounds,if_pos rfl,if_pos hitW]
   have hsz:w'.heap.size=W.w.heap.size:=by rw[hw'];show(W.w.heap.setIfInBounds it _).size=_;rw[Array.size_setIfInBounds]
   have hitA:W.A it:=by rw[L.A];exact .inr (.inr (.inr rfl))
   have RE:fp W { W with w:=w' }:=⟨fun _ _ h=>h,fun b o q r=>⟨(hget b (fun h=>by subst h;exact q (.inl hitA))).trans r,q⟩,fun j l n _ q=>q⟩;have H':aK { W with w:=w' }:=by
    refine⟨fun i o l hi hl=>((L.rf.H).obj i o l hi hl).ext RE (fun b hb=>hget b ?_),L.rf.H.inj,L.rf.H.lt,L.rf.H.cE,?_,L.rf.H.loc⟩
    .have:=L.bw b ⟨i,o,l,hi,hl,hb⟩;omega
    .intro b q;show b<w'.heap.size;rw[hsz];exact L.rf.H.alt b q
   have hcl:lF es.toList (seen.push e.born)=lF es.toList (seen.push e.born):=rfl;have hlen':List.length (N++[((cu e).1,((cu e).2.1,()))])<=1000001:=by rw[List.length_append];simp;omega
   have hT':g4 N (.cj [.bool true,.int .u64 (cu e).1,.int .u64 (cu e).2.1]) k0 (kT (cu e).1 (cu e).2.1)=some (N++[((cu e).1,((cu e).2.1,()))]):=by rw[eqT];exact ak (kr (by omega) (by omega)) rfl
   obtain⟨T,hT,hre⟩:=Rh hT';obtain⟨st1,hk1,step1⟩:=uy k0 pI 1 _ _ _ hre t4;obtain⟨h13,h11,T14,hT14,hre5⟩:=aec hk1;refine yY ho hg (QZ hop hev hrun) ?_;rw[hd];refine step1 { W with w:=w' } _ ⟨L.rf.h,(L.rf.T.ext RE).put (alR (u:=.bool true) (V:=.bool true) (u':=.int .u64 (cu e).1) (V':=.int .u64 (cu e).1) (u'':=.int .u64 (cu e).2.1) (V'':=.int .u64 (cu e).2.1) rfl rfl rfl) hT,H'⟩ 0 _ ?_;intro X1 a1 R1 E1;have hnimg:¬Cx.bw { W with w:=w' } it:=fun q=>by have:=L.bw it q;omega
   have hiter1:X1.w.heap[it]?=some (.mapIter (some bm) clk (seen.push e.born) clk):=(E1.frame it (by show it<w'.heap.size;rw[hsz];exact hitW) hnimg).trans hiter;have hold1:∀b,b<X₂.w.heap.size->X1.w.heap[b]?=X₂.w.heap[b]?:=by intro b hb2;refine(E1.frame b (by show b<w'.heap.size;rw[hsz];omega) (fun q=>by have:=L.bw b q;omega)).trans ?_;exact(hget b (by omega)).trans (L.old b hb2)
   have himg1:∀b,X1.bw b->it<b:=by
    intro b q;rcases E1.bw b q with q|q
    .exact L.bw b q
    .have q:w'.heap.size<=b:=q;omega
   have hs1:X1.s 0=some (.at it 0):=E1.sg 0 _ L.s0;refine wp_seq (wp_cond_true (rS R1.T (c:=.tmp 13) (v:=.bool true) h13) (wp_skip ?_));refine wp_block (wp_seq (wp_region ?_));rw[r5];obtain⟨o',ho',hg',hd',hop'⟩:=alK;have hev1:=Q6 R1.T h11 hs1;have hent:=acN (P:=pP) X1.w it bm clk seen es clk e hiter1 ((hold1 bm hbm).trans hb) m1 (by have:=hnd;rw[List.Nodup,List.pairwise_map];exact this);rw[ek,ev]at hent;obtain⟨st2,hk2,step2⟩:=uy k0 nE 1 _ _ _ hre5 t5;obtain⟨ex,st3,hk3,Tk3⟩:=yZ k0 (c:=c6) (by kernel_rfl) hk2;obtain⟨rfl,h11',j,τ,h2',hj⟩:=aeb hk3;refine yY ho' hg' (acf hop' hev1 hent) ?_;rw[hd'];refine step2 X1 _ ⟨R1.h,R1.T.put (alQ (u:=.int .u64 (cu e).1) (V:=.int .u64 (cu e).1) (u':=.int .u64 (cu e).2.1) (V':=.int .u64 (cu e).2.1) rfl rfl) hT14,R1.H⟩ 0 _ ?_;intro X2' a2 R2 E2;refine Tk3 X2' a2 R2.H R2 _ ?_;intro X3 a3 R3 E3;have E13:=E2.trans E3;obtain⟨V2,b1,l,hl,hone,hsl⟩:=R3.T.get 2 _ h2';have hj':X3.h.tr.get j=some (.arr aC (N++[((cu e).1,((cu e).2.1,()))]) ov):=by rw[R3.h];exact hj
   have hV2:=hsl _ (fE hj');obtain⟨V11,b11,hp⟩:=R3.T.get 11 _ h11';have hs3:X3.s 0=some (.at it 0):=E13.sg 0 _ hs1;obtain⟨y,c,hp1,hp2⟩:=hp;rw[hs3]at hp1;cases hp1
   let W3:Cx:=⟨fun i=>if i=0 then some (.at it 0)else if i=1 then some l else none,hL (N++[((cu e).1,((cu e).2.1,()))]),X3.w,X3.A⟩
   have hout:∀b,W3.out b->X3.out b:=by
    rintro b (q|⟨i,o2,l2,q1,q2,q3⟩)
    .exact .inl q
    .have q1:(hL (N++[((cu e).1,((cu e).2.1,()))])).tr.get i=some o2:=q1;rw[lK]at q1;by_cases hi:i=1
     .subst hi;have q2:some l=some l2:=q2;cases q2;exact .inr ⟨j,_,l,hj',hl,q3⟩
     .rw[if_neg hi]at q1;cases q1
   have hobj:gZ W3 l (.arr aC (N++[((cu e).1,((cu e).2.1,()))]) ov):=by have:=R3.H.obj j _ l hj' hl;cases l with|nil=>exact this|bS b c m=>exact this.elim|«at» b c=>obtain⟨cs,tail,q1,q2,q3,q4⟩:=this;exact⟨cs,tail,q1,q2.mono (fun x d q=>q.aX (fun b o r s=>⟨s,fun z=>r (hout b z)⟩)),q3,q4⟩
   have hA3:X3.A=fun b=>X₂.A b\/b=x\/b=bm\/b=it:=by rw[E13.A,E1.A];exact L.A
   have H3:aK W3:=by
    refine⟨?_,?_,?_,?_,?_,?_⟩
    .intro i o2 l2 q1 q2;have q1:(hL (N++[((cu e).1,((cu e).2.1,()))])).tr.get i=some o2:=q1;rw[lK]at q1;by_cases hi:i=1
     .subst hi;rw[if_pos rfl]at q1;cases q1;have q2:some l=some l2:=q2;cases q2;exact hobj
     .rw[if_neg hi]at q1;cases q1
    .intro i i' o2 o3 l2 l3 b q1 q1' _ _ _ _;have q1:(hL (N++[((cu e).1,((cu e).2.1,()))])).tr.get i=some o2:=q1;have q1':(hL (N++[((cu e).1,((cu e).2.1,()))])).tr.get i'=some o3:=q1';rw[lK]at q1 q1';by_cases hi:i=1
     .by_cases hi':i'=1
      .rw[hi,hi']
      .rw[if_neg hi']at q1';cases q1'
     .rw[if_neg hi]at q1;cases q1
    .intro i o2 q1;have q1:(hL (N++[((cu e).1,((cu e).2.1,()))])).tr.get i=some o2:=q1;rw[lK]at q1;by_cases hi:i=1
     .subst hi;show 1<2;omega
     .rw[if_neg hi]at q1;cases q1
    .intro i l2 q;show i<2;rcases i with _|_|i
     .omega
     .omega
     .have q:(if i+1+1=0 then some (Loc.at it 0)else if i+1+1=1 then some l else none)=some l2:=q;rw[if_neg (by omega),if_neg (by omega)]at q;cases q
    .exact R3.H.alt
    .intro i o2 l2 b q1 q2 q3;have q1:(hL (N++[((cu e).1,((cu e).2.1,()))])).tr.get i=some o2:=q1;rw[lK]at q1;by_cases hi:i=1
     .subst hi;have q2:some l=some l2:=q2;cases q2;exact R3.H.loc j _ l b hj' hl q3
     .rw[if_neg hi]at q1;cases q1
   have himg3:∀b,X3.bw b->it<b:=by
    intro b q;rcases E13.bw b q with q|q
    .exact himg1 b q
    .have:=eD hiter1;omega
   refine ih (N++[((cu e).1,((cu e).2.1,()))]) (seen.push e.born) W3 a3 ⟨⟨rfl,⟨R3.T.size,R3.T.defers,?_⟩,H3⟩,rfl,hA3,?_,?_,?_,?_,?_,?_,?_⟩ ?_
   .intro t v ht;rcases Rc t v ht with⟨rfl,rfl⟩|⟨rfl,rfl⟩
    .refine⟨V2,b1,l,rfl,hone,?_⟩;intro n hn;have hn:rowOf (hL (N++[((cu e).1,((cu e).2.1,()))])).tr 1=some n:=hn;have hn2:=(fE ((lK (N++[((cu e).1,((cu e).2.1,()))]) 1).trans (if_pos rfl))).symm.trans hn;rw[<-Option.some.inj hn2];exact hV2
    .exact⟨V11,b11,it,0,rfl,hp2⟩
   .exact E13.os.trans (E1.os.trans ((by rw[hw']:w'.os=W.w.os).trans L.os))
   .exact E13.tape.trans (E1.tape.trans ((by rw[hw']:w'.tape=W.w.tape).trans L.tape))
   .exact E13.output.trans (E1.output.trans ((by rw[hw']:w'.output=W.w.output).trans L.out))
   .intro b hb2;refine(E13.frame b ?_ (fun q=>by have:=himg1 b q;omega)).trans (hold1 b hb2);have:=eD hiter1;omega
   .exact(E13.frame it (eD hiter1) (fun q=>by have:=himg1 it q;omega)).trans hiter1
   .rintro b ⟨i,o2,l2,q1,q2,q3⟩;have q1:(hL (N++[((cu e).1,((cu e).2.1,()))])).tr.get i=some o2:=q1;rw[lK]at q1;by_cases hi:i=1
    .subst hi;have q2:some l=some l2:=q2;cases q2;exact himg3 b ⟨j,_,l,hj',hl,q3⟩
    .rw[if_neg hi]at q1;cases q1
   .exact(L.perm.append_right _).trans (QW m2 hnd m1).symm
   .have:=left_shrinks es seen e he;omega
end
theorem Q3{M:List cH}(h:M.Pairwise (fun p q=>p.1<q.1)):(M.map (fun p=>p.1)).Nodup:=by rw[List.Nodup,List.pairwise_map];exact h.imp (fun h=>Int.ne_of_lt h)
def Rz(d:TL vv.σs):Option (Out vu):=ai (decide (List.length d.2.2.1<=1000000)) (some (d.2.2.1,(d.1,(d.2.1,(d.2.2.1,())))))
theorem r3:List.range o3.size=List.range' 0 (4+1):=by kernel_rfl
theorem l3:(o3.toList.take 4).length=4:=by kernel_rfl
theorem t3(i:Nat)(hi:i<(o3.toList.take 4).length):(o3.toList.take 4)[i]?=o3[0+i]?:=by
 rw[l3]at hi;have h0:(o3.toList.take 4)[0]?=o3[0]?:=by kernel_rfl
 have h1:(o3.toList.take 4)[1]?=o3[1]?:=by kernel_rfl
 have h2:(o3.toList.take 4)[2]?=o3[2]?:=by kernel_rfl
 have h3:(o3.toList.take 4)[3]?=o3[3]?:=by kernel_rfl
 rcases i with _|_|_|_|i
 .exact h0
 .exact h1
 .exact h2
 .exact h3
 .omega
theorem Rk(a b:Int)(M:List cH)(j:Nat):(mD a b M).tr.get j=if j=0 then some (.cells [.int .i64 a,.int .i64 b,.mp 1] 220)else if j=1 then some (.map .u64 (.int .u64) M)else none:=by
 rcases j with _|_|j
 .rfl
 .rfl
 .have h1:(mD a b M).tr.get (j+1+1)=(Tr.node none (.node (some (bf.map .u64 (.int .u64) M)) .nil .nil) .nil).get (j+1+1):=rfl;rw[h1,SA,if_neg (by omega),if_neg (by omega)]
theorem ack{a:Act}{o:Oper}{w w':World}{V:Value}{t:TypeId}{bm:Nat}(hop:o.op=.range t (.tmp 10))(hev:a.eval (.tmp 10)=.map (some bm))(h:(Instr.range t (.map (some bm))).run pP w=.ok V w'):(execOp a.eval o).run pP w=.ok (.value V) w':=by simp only[execOp,hop,hev,Sem.run_bind,h,Result.andThen_ok,Sem.run_pure]
theorem ad7{e:Ex}{st:St}{h:Hp}(q:kA e st=some h):e=.normal/\re k0 o3 (o3.toList.take 4) st D4=some h:=by
 unfold kA at q;split at q
 .exact⟨rfl,q⟩
 .cases q
theorem ac1{st:St}{h:Hp}(q:D4 st=some h):st.T.get 2=some .bq/\st.T.get 10=some (.mp 1)/\st.h=h:=by
 unfold D4 at q;split at q<;>try cases q
 rename_i h1 h2;exact⟨h1,h2,rfl⟩
theorem ad8{st:St}{e:Ex}{h:Hp}(q:(match e with|.normal=>rk k0 cB st kA|_=>none)=some h):e=.normal/\rk k0 cB st kA=some h:=by
 split at q
 .exact⟨rfl,q⟩
 .cases q
theorem abH:iK pP 83 ⟨1,vv,1,vu,Rz⟩:=by
 refine⟨⟨Tryz.f83,cC,Tryz.func83,by kernel_rfl,by kernel_rfl⟩,?_⟩;rintro⟨a,b,M,u⟩ oo ho st e st' hput hs X vs args hX H hr hv R;obtain⟨hok,ho⟩:=mv ho;have hlM:M.length<=1000000:=of_decide_eq_true hok
 replace ho:some (M,(a,(b,(M,()))))=some oo:=ho
 obtain rfl:=Option.some.inj ho;have e1:st=⟨.node (some (.ptr 0 0)) .nil .nil,mD a b M⟩:=by
  have:Lay.put 1 vv (a,(b,(M,u)))=some ⟨.node (some (.ptr 0 0)) .nil .nil,mD a b M⟩:=by kernel_rfl
  exact Option.some.inj (hput.symm.trans this)
 subst e1;have e2:(e,st')=(.ret,⟨.node (some (.fz aC M)) .nil .nil,mD a b M⟩):=by
  have:jJ 1 vu (M,(a,(b,(M,()))))=some (.ret,⟨.node (some (.fz aC M)) .nil .nil,mD a b M⟩):=by kernel_rfl
  exact Option.some.inj (hs.symm.trans this)
 cases e2;have hv':some [AV.ptr 0 0]=some vs:=hv;cases hv';have hXh:X.h=mD a b M:=hX;have hT:j3 26 [AV.ptr 0 0] 0 .nil=some TA:=by kernel_rfl
 refine calls_of_wp (c:=cC) Tryz.func83 (by kernel_rfl) ?_;have S0:=tj H hT R;rw[hXh]at S0;rw[shC];obtain⟨ex,st1,q1,Tk1⟩:=yZ k0 (c:=cA) (by kernel_rfl) (eqA a b M);obtain⟨rfl,q1⟩:=ad8 q1;obtain⟨ex,st2,q2,Tk2⟩:=yZ k0 (c:=cB) (by kernel_rfl) q1;obtain⟨rfl,q2⟩:=ad7 q2;obtain⟨st3,q3,step3⟩:=uy k0 (o3.toList.take 4) 0 _ _ _ q2 t3;obtain⟨g2,g10,gh⟩:=ac1 q3;refine wp_seq (Tk1 X _ H S0 _ ?_);intro X1 a1 R1 E1;refine wp_seq (Tk2 X1 a1 R1.H R1 _ ?_);intro X2 a2 R2 E2;refine wp_seq (wp_seq (wp_region ?_));rw[r3,<-l3];refine step3 X2 a2 R2 1 _ ?_;intro Y ay RY EY;rw[l3];have EXY:aP X Y:=(E1.trans E2).trans EY;have hYh:Y.h=mD a b M:=RY.h.trans gh;obtain⟨V0,r0,rfl,⟨x,c,hs0,rfl⟩,hr0⟩:=R;have:r0=[]:=hr0;subst this;have hs0Y:Y.s 0=some (.at x c):=EXY.sg 0 _ hs0;obtain⟨V2,v1,v2⟩:=RY.T.get 2 _ g2;have v2:V2=.slice none 0 0:=v2;subst v2;have hev10:=rS RY.T (c:=.tmp 10) (v:=.mp 1) g10;obtain⟨bm,c1,hs1Y,hev⟩:=hev10;have ho0:=RY.H.obj 0 _ _ (by rw[hYh];exact(Rk a b M 0).trans (if_pos rfl)) hs0Y;have ho1:=RY.H.obj 1 _ _ (by rw[hYh];exact((Rk a b M 1).trans (if_neg (by decide))).trans (if_pos rfl)) hs1Y;obtain⟨bx,cx,cs0,ebx,hbx,_⟩:=ho0;cases ebx;obtain⟨bm',cm,es,clk,ebm,hbm,N0,hperm,hents,hsort,hst,hnd⟩:=ho1;cases ebm;obtain⟨hdat1,hdat2⟩:=QT hents;have hxlt:x<Y.w.heap.size:=eD hbx;have hblt:bm<Y.w.heap.size:=eD hbm;obtain⟨o,hoo,hg,hd,hop⟩:=alI;refine yY hoo hg (ack hop hev (run_range_map Y.w _ _ _ bm es clk Tryz.underlying218 hbm)) ?_;rw[hd]
 let it:=Y.w.heap.size
 let A3:Nat->Prop:=fun z=>Y.A z\/z=x\/z=bm\/z=it
 let w3:World:=Y.w.alloc (.mapIter (some bm) clk #[] clk)
 let W:Cx:=⟨fun i=>if i=0 then some (.at it 0)else if i=1 then some .nil else none,hL [],w3,A3⟩
 have hsz3:w3.heap.size=Y.w.heap.size+1:=by show(Y.w.heap.push _).size=_;rw[Array.size_push]
 have hold3:∀z,z<Y.w.heap.size->w3.heap[z]?=Y.w.heap[z]?:=fun z hz=>heap_alloc_old Y.w _ hz;have hnimg:∀z,¬W.bw z:=by
  rintro z ⟨i,o2,l2,p1,p2,p3⟩;have p1:(hL []).tr.get i=some o2:=p1;rw[lK]at p1;by_cases hi:i=1
  .subst hi;have p2:some Loc.nil=some l2:=p2;cases p2;exact p3
  .rw[if_neg hi]at p1;cases p1
 have HW:aK W:=by
  refine⟨?_,?_,?_,?_,?_,?_⟩
  .intro i o2 l2 p1 p2;have p1:(hL []).tr.get i=some o2:=p1;rw[lK]at p1;by_cases hi:i=1
   .subst hi;rw[if_pos rfl]at p1;cases p1;have p2:some Loc.nil=some l2:=p2;cases p2;exact(rfl:([]:List cH)=[])
   .rw[if_neg hi]at p1;cases p1
  .intro i i' o2 o3 l2 l3 z p1 p1' p2 _ p3 _;exact absurd ⟨i,o2,l2,p1,p2,p3⟩ (hnimg z)
  .intro i o2 p1;have p1:(hL []).tr.get i=some o2:=p1;rw[lK]at p1;by_cases hi:i=1
   .subst hi;show 1<2;omega
   .rw[if_neg hi]at p1;cases p1
  .intro i l2 q;show i<2;rcases i with _|_|i
   .omega
   .omega
   .have q:(if i+1+1=0 then some (Loc.at it 0)else if i+1+1=1 then some .nil else none)=some l2:=q;rw[if_neg (by omega),if_neg (by omega)]at q;cases q
  .intro z hz;show z<w3.heap.size;rw[hsz3];rcases hz with hz|rfl|rfl|rfl
   .have:=RY.H.alt z hz;omega
   .omega
   .omega
   .show Y.w.heap.size<_;omega
  .intro i o2 l2 z p1 p2 p3;exact absurd ⟨i,o2,l2,p1,p2,p3⟩ (hnimg z)
 have hput:∀t,t≠11->∀v,(ay.put (some 11) v).tmps[t]?=ay.tmps[t]?:=by intro t ht v;unfold Act.put;simp only[];rw[Array.getElem?_setIfInBounds,if_neg (fun q=>ht q.symm)]
 have LI0:LI Y x bm it clk es [] #[] W (ay.put (some 11) (.pointer (some ⟨it,0,none⟩))):=by
  refine⟨⟨rfl,⟨?_,RY.T.defers,?_⟩,HW⟩,rfl,rfl,rfl,rfl,rfl,hold3,?_,fun z hz=>absurd hz (hnimg z),?_⟩
  .have:=RY.T.size;unfold Act.put;simp only[];rw[Array.size_setIfInBounds];exact this
  .intro t v ht;rcases Rc t v ht with⟨rfl,rfl⟩|⟨rfl,rfl⟩
   .refine⟨.slice none 0 0,(hput 2 (by decide) _).trans v1,.nil,rfl,rfl,?_⟩;intro n hn;have hn:rowOf (hL []).tr 1=some n:=hn;have hn2:=(fE ((lK [] 1).trans (if_pos rfl))).symm.trans hn;rw[<-Option.some.inj hn2];rfl
   .refine⟨.pointer (some ⟨it,0,none⟩),?_,it,0,rfl,rfl⟩;unfold Act.put;simp only[];rw[Array.getElem?_setIfInBounds,if_pos rfl,if_pos (by rw[RY.T.size];decide)]
  .exact heap_alloc_new Y.w _
  .rw[acX]
 have hkey:((es.toList.map cu).map (fun p=>p.1)).Nodup:=by rw[hdat1];refine((hperm.map _).nodup_iff).2 ?_;exact Q3 hsort
 have hesl:es.size<=1000000:=by
  have h1:(es.toList.map cu).length=M.length:=by rw[hdat1];exact hperm.length_eq
  rw[List.length_map,Array.length_toList]at h1;omega
 show Code.wp pP (.block 0 (.loop pT)) _ _ w3;refine wp_block (wp_loop_rounds (es.size+1) ?_);refine acn (X₂:=Y) (x:=x) hbm rfl hst hnd hdat2 hesl hkey ?_ (es.size+1) [] #[] W _ LI0 ?_
 .intro N Z stz az hN LZ hend;obtain⟨ex,st5,k5,Tk5⟩:=yZ (kB oE k0) (c:=sF) (by kernel_rfl) hend;obtain⟨rfl,j,τ,hres,hj⟩:=ad9 k5;show Code.wp pP sF _ az Z.w;refine Tk5 Z az LZ.rf.H LZ.rf _ ?_;intro Z' az' RZ' EZ;have hM:fK N=M:=by
   have h1:N.Perm M:=by rw[hdat1]at hN;exact hN.trans hperm
   have hkM:(M.map (fun p=>p.1)).Nodup:=Q3 hsort;exact Q9 hkM ((FJ N).trans h1) (List.Perm.refl M) (Q8 N) (hsort.imp (fun h=>Int.le_of_lt h))
  rw[hM]at hj;obtain⟨Vs,hrun,hrel⟩:=DG RZ' hres;obtain⟨V,r,rfl,⟨l,hl,hone,hsl⟩,hr2⟩:=hrel;have:r=[]:=hr2;subst this;have hj':Z'.h.tr.get j=some (.arr aC M ov):=by rw[RZ'.h];exact hj
  have hV:=hsl _ (fE hj');have himg:∀z,Z'.bw z->it<z:=by
   intro z q;rcases EZ.bw z q with q|q
   .exact LZ.bw z q
   .have:=LZ.bS;omega
  have hold:∀z,z<Y.w.heap.size->Z'.w.heap[z]?=Y.w.heap[z]?:=by intro z hz;refine(EZ.frame z (by have:=LZ.bS;omega) (fun q=>by have:=LZ.bw z q;omega)).trans (LZ.old z hz)
  have hsize:Y.w.heap.size<=Z'.w.heap.size:=by have:=EZ.size;have:=LZ.bS;omega
  let X':Cx:=⟨Y.s,mD a b M,Z'.w,Y.A⟩
  have himgX:∀z,X'.bw z↔Y.bw z:=by
   intro z;constructor
   .rintro⟨i,o2,l2,p1,p2,p3⟩;exact⟨i,o2,l2,by rw[hYh];exact p1,p2,p3⟩
   .rintro⟨i,o2,l2,p1,p2,p3⟩;exact⟨i,o2,l2,by rw[hYh]at p1;exact p1,p2,p3⟩
  have RX:fp Y X':=by
   refine⟨fun _ _ h=>h,?_,?_⟩
   .intro z ob p1 p2;refine⟨(hold z (eD p2)).trans p2,?_⟩;rintro(q|q)
    .exact p1 (.inl q)
    .exact p1 (.inr ((himgX z).1 q))
   .intro i l2 n _ q;rw[hYh];exact q
  have HX':aK X':=by
   refine⟨?_,?_,?_,?_,?_,?_⟩
   .intro i o2 l2 p1 p2;have p1':Y.h.tr.get i=some o2:=by rw[hYh];exact p1
    exact(RY.H.obj i o2 l2 p1' p2).ext RX (fun z hz=>hold z (RY.H.ij p1' p2 hz))
   .intro i i' o2 o3 l2 l3 z p1 p1';exact RY.H.inj i i' o2 o3 l2 l3 z (by rw[hYh];exact p1) (by rw[hYh];exact p1')
   .intro i o2 p1;have:=RY.H.lt i o2 (by rw[hYh];exact p1);rw[hYh]at this;exact this
   .intro i l2 p1;have:=RY.H.cE i l2 p1;rw[hYh]at this;exact this
   .intro z hz;exact Nat.lt_of_lt_of_le (RY.H.alt z hz) hsize
   .intro i o2 l2 z p1;exact RY.H.loc i o2 l2 z (by rw[hYh];exact p1)
  have EYX:aP Y X':=by
   refine⟨EZ.os.trans LZ.os,EZ.tape.trans LZ.tape,EZ.output.trans LZ.out,hsize,fun _ _ h=>h,fun _ _ _ h=>h,by rw[hYh];exact Nat.le_refl _,fun z hz _=>hold z hz,fun z hz=>.inl ((himgX z).1 hz),?_,?_,rfl⟩
   .intro i n _ q;rw[hYh];exact q
   .intro i _ _;rw[hYh]
  refine⟨RZ'.T.defers,V,hrun,X',[V],rfl,rfl,rfl,HX',EXY.trans EYX,?_⟩;intro us hus;have hus:some [AV.fz aC M]=some us:=hus;cases hus;refine⟨V,[],rfl,?_,rfl⟩;have ob:=RZ'.H.obj j _ l hj' hl;show Cs Z'.w X'.out (.sl aC) M [V];have hV:V=l.slice M.length:=hV;cases l with
  |nil=>have hMn:M=[]:=ob;subst hMn;exact⟨none,0,0,by rw[hV];rfl,rfl,Nat.le_refl _,fun q=>absurd rfl q⟩|bS bb cc mm=>exact(ob:False).elim|«at» bb cc=>
   obtain⟨cs,tail,p1,p2,p3,p4⟩:=ob;have hbb:it<bb:=himg bb ⟨j,_,_,hj',hl,rfl⟩;refine⟨some ⟨bb,0,none⟩,M.length,cc,by rw[hV];rfl,rfl,p4,fun _=>⟨bb,0,cs,rfl,?_,rD.2 (rD.1 p2),⟨_,_,_,p1,?_⟩⟩⟩
   .rintro(q|q)
    .have:=RY.H.alt bb q;omega
    .have:=RY.H.uR ((himgX bb).1 q);omega
   .intro i u hu;rw[Nat.zero_add,List.getElem?_toArray,List.getElem?_append_left (by
     rcases Nat.lt_or_ge i cs.length with q|q
     .exact q
     .rw[List.getElem?_eq_none q]at hu;cases hu)]
    exact hu
 .refine Nat.lt_succ_of_le ?_;unfold leftOf;exact Array.size_filter_le
def ET:K9:=⟨Rz,abH⟩
def ER:K8:=ET.F
abbrev Yg:Lay:={ T:=[(0,.agg fq),(1,.agg [.fz .bool,.fz (.sl aC)])],h:=[],nx:=0 }
abbrev pb:List LA:=[.int .i64,.fz (.int .i64),.fz ae,.fz (.int .i64),.fz (.int .i64),.fz (.int .i64),.fz ab,.fz ae,.fz ah,.hd 1 .bool,.cS 2]
abbrev vU:List (Nat×LO):=[(0,.cells pb 145),(1,.arr .bool 4),(2,.cO 220),(3,.cells [.hd 4 .bool,.bool] 55),(4,.arr .bool 4),(5,.arr .bool 4)]
abbrev sQ:List (Nat×LO):=[(0,.cells pb 145),(1,.arr .bool 4),(2,.cO 220),(3,.cells [.hd 4 .bool] 37),(4,.arr .bool 4)]
abbrev sR:List (Nat×LO):=[(0,.cells pb 145),(1,.arr .bool 4),(2,.cO 220),(3,.arr .bool 4)]
abbrev Cg:List (Nat×LO):=[(0,.cells pb 145),(1,.arr .bool 4),(2,.cO 220)]
abbrev Zx:List (Nat×LO):=[(0,.cells pb 145),(1,.arr .bool 4),(2,.cO 220),(3,.cells [.hd 4 .bool,.hd 5 (.sl aC)] 40),(4,.arr .bool 4),(5,.arr (.sl aC) 104)]
abbrev Zy:List (Nat×LO):=[(0,.cells pb 145),(1,.arr .bool 4),(2,.cO 220),(3,.cells [.bq,.bool] 55),(4,.arr .bool 4)]
abbrev BF:List (Ev.Ex×Lay):=[(.ret,{ T:=[(0,.dk),(1,.int .i64)],h:=[],nx:=0 }),(.ret,{ T:=[(0,.ptr 0 0),(1,.int .i64)],h:=Cg,nx:=3 })]
abbrev K3:=TL Yg.σs->Option (Out BF)
abbrev BN:=Kb 31 2 Yg 2 BF
def alq(F0:Yl)(F1:X6)(F2:qi)(F3:sd)(F4:rZ)(F5:BC)(dr:Int)(fR:List Int)(fx:List (Sh.T ae))(gC gD gF:List Int)(dU:List (Sh.T ab))(gm:List (Sh.T ae))(ic:List Bool)(fS:List (List (Sh.T aC))):Option (Out BF):=
 ar (F2 ((dr,(fR,(fx,(gC,(gD,(gF,(dU,(gm,())))))))),())) fun x0=>
 br (Bool.not (iQ x0.1 (0:Int)))
 (
  some (.inl (x0.1,())))
 (
  ar (F5 (dr,(fR,(fx,(gC,(gD,(gF,(dU,(gm,(ic,(fS,()))))))))))) fun x1=>
  br (Bool.not (iQ x1.1 (0:Int)))
  (
   some (.inl (x1.1,())))
  (
   ar (F1 ((dr,(fR,(fx,(gC,(gD,(gF,(dU,(gm,())))))))),())) fun x2=>
   ar (F0 ((dr,(fR,(fx,(gC,(gD,(gF,(dU,(gm,())))))))),())) fun x3=>
   ar (F4 (ic,())) fun x4=>
   ai (mq (Sh.beq ah) x2.1 x2.1)<|
   some (.inr ((0:Int),(x3.1.1,(x3.1.2.1,(x3.1.2.2.1,(x3.1.2.2.2.1,(x3.1.2.2.2.2.1,(x3.1.2.2.2.2.2.1,(x3.1.2.2.2.2.2.2.1,(x3.1.2.2.2.2.2.2.2.1,(x2.1,(x4.1,(x1.2.1,())))))))))))))))
def alp(c0:KM)(c1:KF)(c2:oT)(c3:sf)(c4:r9)(c5:vl) :BN:=⟨lH (alq c0.F c1.F c2.F c3.F c4.F c5.F),pB Tryz.func31 39 (kD c0 (kD c1 (kD c2 (kB c3 (kB c4 (kB c5 k0)))))) e0 1 (sS l0) fun d=>by kernel_rfl⟩
def K4:BN:=alp Ym X8 qj se qd BD
def KR:K3:=K4.F
abbrev Wp:Lay:={ T:=[(0,.ptr 0 0),(1,.fz .bool)],h:=Cg,nx:=3 }
abbrev I8:List (Ev.Ex×Lay):=[(.ret,{ T:=[(0,.hd 3 .bool),(1,.int .i64)],h:=sR,nx:=4 })]
abbrev WS:=TL Wp.σs->Option (Out I8)
abbrev JC:=Kb 32 2 Wp 2 I8
abbrev Af:Lay:={ T:=[(0,.ptr 0 0),(6,.ptr 3 0),(11,.func 79 [] [.ptr 3 0]),(84,.fz ah),(85,.int .i64),(86,.int .i64)],h:=sQ,nx:=5 }
abbrev z8:List (Ev.Ex×Lay):=[((.exit 4),{ T:=[(6,.ptr 3 0)],h:=sQ,nx:=5 })]
abbrev Wq:=TL Af.σs->Option (Out z8)
abbrev Ji:=Ld 3 155 (bu [2] (aW Tryz.f32)) Af z8
abbrev Ag:Lay:={ T:=[(0,.ptr 0 0),(6,.ptr 3 0),(60,.hd 1 .bool),(61,.int .i64),(62,.int .i64)],h:=sQ,nx:=5 }
abbrev Aa:List (Ev.Ex×Lay):=[((.exit 2),{ T:=[(0,.ptr 0 0),(6,.ptr 3 0)],h:=sQ,nx:=5 })]
abbrev Wr:=TL Ag.σs->Option (Out Aa)
abbrev Wt:=Ld 3 155 (bu [1] (aW Tryz.f32)) Ag Aa
abbrev Ap:Lay:={ T:=[(0,.ptr 0 0),(6,.ptr 3 0),(38,.fz .bool),(39,.int .i64),(40,.int .i64)],h:=sQ,nx:=5 }
abbrev Ae:List (Ev.Ex×Lay):=[((.exit 0),{ T:=[(0,.ptr 0 0),(6,.ptr 3 0)],h:=sQ,nx:=5 })]
abbrev WC:=TL Ap.σs->Option (Out Ae)
abbrev WE:=Ld 3 155 (bu [0] (aW Tryz.f32)) Ap Ae
def AO(t38:List Bool)(t39 t40 aE:Int)(aD:List Int)(aG:List (Sh.T ae))(aH aI aL:List Int)(aA:List (Sh.T ab))(aF:List (Sh.T ae))(cg:List (Sh.T ah))(b1:List Bool)(b2:List (Sh.T (.agg [(.int .i64),(.int .i64),(.sl aC)])))(b4:List Bool):Option (TL Ap.σs⊕Out Ae):=
 br (iL t40 t39)
 (
  ai (aw t40 (List.length t38))<|
  ai (aw t40 (List.length aD))<|
  ai (aw (gt (.int .i64) aD t40) (List.length b4))<|
  some (.inl (t38,(t39,((IntKind.wrap .i64 (t40+(1:Int))),(aE,(aD,(aG,(aH,(aI,(aL,(aA,(aF,(cg,(b1,(b2,((List.set b4 (Int.toNat (gt (.int .i64) aD t40)) (gt .bool t38 t40)),())))))))))))))))))
 (
  some (.inr (aE,(aD,(aG,(aH,(aI,(aL,(aA,(aF,(cg,(b1,(b2,(b4,()))))))))))))))
def ajt  :WE:=bB (dV AO) (pL k0 (eC Tryz.func79 (by kernel_rfl) e0) 5 l0 fun d=>by kernel_rfl)
def Js:WC:=aR (dV AO) NN
def AF(t61 t62 aE:Int)(aD:List Int)(aG:List (Sh.T ae))(aH aI aL:List Int)(aA:List (Sh.T ab))(aF:List (Sh.T ae))(cg:List (Sh.T ah))(b1:List Bool)(b2:List (Sh.T (.agg [(.int .i64),(.int .i64),(.sl aC)])))(b4:List Bool):Option (TL Ag.σs⊕Out Aa):=
 br (iL t62 t61)
 (
  ai (aw t62 (List.length b1))<|
  ai (aw t62 (List.length aG))<|
  ai (aw (gt ae aG t62).1 (List.length b4))<|
  some (.inl (t61,((IntKind.wrap .i64 (t62+(1:Int))),(aE,(aD,(aG,(aH,(aI,(aL,(aA,(aF,(cg,(b1,(b2,((List.set b4 (Int.toNat (gt ae aG t62).1) (gt .bool b1 t62)),()))))))))))))))))
 (
  some (.inr (aE,(aD,(aG,(aH,(aI,(aL,(aA,(aF,(cg,(b1,(b2,(b4,()))))))))))))))
def ajj  :Wt:=bB (fX AF) (pL k0 (eC Tryz.func79 (by kernel_rfl) e0) 5 l0 fun d=>by kernel_rfl)
def Jh:Wr:=aR (fX AF) NN
def AE(F0:lT)(F1:lW)(F2:vm)(F3:vr)(t84:List (Sh.T ah))(t85 t86 aE:Int)(aD:List Int)(aG:List (Sh.T ae))(aH aI aL:List Int)(aA:List (Sh.T ab))(aF:List (Sh.T ae))(cg:List (Sh.T ah))(b1:List Bool)(b2:List (Sh.T (.agg [(.int .i64),(.int .i64),(.sl aC)])))(b4:List Bool):Option (TL Af.σs⊕Out z8):=
 br (iL t86 t85)
 (
  ai (aw t86 (List.length t84))<|
  br (Bool.not (gt ah t84 t86).1)
  (
   ai (aw (gt ah t84 t86).2.2.1 (List.length aF))<|
   ar (F0 ((gt ae aF (gt ah t84 t86).2.2.1).2.1,(b4,()))) fun x0=>
   br x0.1
   (
    ai (iQ (gt ae aF (gt ah t84 t86).2.2.1).1 (gt ae aF (gt ah t84 t86).2.2.1).1)<|
    ar (F0 ((gt ae aF (gt ah t84 t86).2.2.1).2.2.1,(b4,()))) fun x1=>
    ai (aw (gt ae aF (gt ah t84 t86).2.2.1).1 (List.length b4))<|
    ai (iQ (gt ae aF (gt ah t84 t86).2.2.1).1 (gt ae aF (gt ah t84 t86).2.2.1).1)<|
    some (.inl (t84,(t85,((IntKind.wrap .i64 (t86+(1:Int))),(aE,(aD,(aG,(aH,(aI,(aL,(aA,(aF,(cg,(b1,(b2,((List.set b4 (Int.toNat (gt ae aF (gt ah t84 t86).2.2.1).1) (aQ true x1.1 false)),())))))))))))))))))
   (
    ai (iQ (gt ae aF (gt ah t84 t86).2.2.1).1 (gt ae aF (gt ah t84 t86).2.2.1).1)<|
    ai (aw (gt ae aF (gt ah t84 t86).2.2.1).1 (List.length b4))<|
    some (.inl (t84,(t85,((IntKind.wrap .i64 (t86+(1:Int))),(aE,(aD,(aG,(aH,(aI,(aL,(aA,(aF,(cg,(b1,(b2,((List.set b4 (Int.toNat (gt ae aF (gt ah t84 t86).2.2.1).1) false),()))))))))))))))))))
  (
   ai (aw (gt ah t84 t86).2.1 (List.length aA))<|
   ai (aw (gt ah t84 t86).2.2.1 (List.length (gt ab aA (gt ah t84 t86).2.1).2.2.2.1))<|
   ai (aw (gt ah t84 t86).2.1 (List.length b2))<|
   ar (F2 ((gt bO (gt ab aA (gt ah t84 t86).2.1).2.2.2.1 (gt ah t84 t86).2.2.1).2.1,(b4,()))) fun x0=>
   ar (F3 (x0.1,((List.getD b2 (Int.toNat (gt ah t84 t86).2.1) (zR)).1,((List.getD b2 (Int.toNat (gt ah t84 t86).2.1) (zR)).2.1,((List.getD b2 (Int.toNat (gt ah t84 t86).2.1) (zR)).2.2.1,()))))) fun x1=>
   ai (both (iE (0:Int) (gt bO (gt ab aA (gt ah t84 t86).2.1).2.2.2.1 (gt ah t84 t86).2.2.1).1) (iE (gt bO (gt ab aA (gt ah t84 t86).2.1).2.2.2.1 (gt ah t84 t86).2.2.1).1 (Int.ofNat (List.length b4))))<|
   ar (F1 (x1.1,((gt ab aA (gt ah t84 t86).2.1).2.1,()))) fun x2=>
   some (.inl (t84,(t85,((IntKind.wrap .i64 (t86+(1:Int))),(aE,(aD,(aG,(aH,(aI,(aL,(aA,(aF,(cg,(b1,((List.set b2 (Int.toNat (gt ah t84 t86).2.1) x1.2),((jm b4 (Int.toNat (gt bO (gt ab aA (gt ah t84 t86).2.1).2.2.2.1 (gt ah t84 t86).2.2.1).1) (List.take (@HSub.hSub (Nat) (Nat) (Nat) _ (List.length b4) (Int.toNat (gt bO (gt ab aA (gt ah t84 t86).2.1).2.2.2.1 (gt ah t84 t86).2.2.1).1)) x2.1)),()))))))))))))))))))
 (
  some (.inr (aE,(aD,(aG,(aH,(aI,(aL,(aA,(aF,(cg,(b1,(b2,(b4,()))))))))))))))
def ajk(c0:kW)(c1:kY)(c2:sk)(c3:so) :Ji:=bB (dV (AE c0.F c1.F c2.F c3.F)) (pL (kD c0 (kD c1 (kD c2 (kB c3 k0)))) (eC Tryz.func79 (by kernel_rfl) e0) 5 l0 fun d=>by kernel_rfl)
def aji:Ji:=ajk lV lY vn vt
def Jg:Wq:=aR (dV (AE jA iZ qh tt)) NN
def JB(F0:lT)(F1:lW)(F2:vm)(F3:vr)(L5:WC)(L10:Wr)(L16:Wq)(t1:List Bool)(aE:Int)(aD:List Int)(aG:List (Sh.T ae))(aH aI aL:List Int)(aA:List (Sh.T ab))(aF:List (Sh.T ae))(cg:List (Sh.T ah))(b1:List Bool)(b2:List (Sh.T (.agg [(.int .i64),(.int .i64),(.sl aC)]))):Option (Out I8):=
 br (aQ false true (Bool.not (iQ (Int.ofNat (List.length t1)) (Int.ofNat (List.length aD)))))
 (
  some ((1:Int),(aE,(aD,(aG,(aH,(aI,(aL,(aA,(aF,(cg,(b1,(b2,([],()))))))))))))))
 (
  ai (both (iE (0:Int) (IntKind.wrap .i64 (aE+(1:Int)))) (both (iE (IntKind.wrap .i64 (aE+(1:Int))) (IntKind.wrap .i64 (aE+(1:Int)))) (iE ((Int.ofNat 1)*(IntKind.wrap .i64 (aE+(1:Int)))) (281474976710656:Int))))<|
  ar (L5 (t1,((Int.ofNat (List.length t1)),((0:Int),(aE,(aD,(aG,(aH,(aI,(aL,(aA,(aF,(cg,(b1,(b2,((List.replicate (Int.toNat (IntKind.wrap .i64 (aE+(1:Int)))) (Sh.zero .bool)),())))))))))))))))) fun x0=>
  ar (L10 ((Int.ofNat (List.length x0.2.2.2.2.2.2.2.2.2.1)),((0:Int),x0))) fun x1=>
  ar (L16 (x1.2.2.2.2.2.2.2.2.1,((Int.ofNat (List.length x1.2.2.2.2.2.2.2.2.1)),((0:Int),x1)))) fun x2=>
  some ((0:Int),x2))
def ajF(c0:kW)(c1:kY)(c2:sk)(c3:so)(M5:WE)(M10:Wt)(M16:Ji):JC:=⟨jY (JB c0.F c1.F c2.F c3.F M5.L M10.L M16.L),pB Tryz.func32 155 (kD c0 (kD c1 (kD c2 (kB c3 k0)))) (eC Tryz.func79 (by kernel_rfl) e0) 5 (sS (sC M5 (sC M10 (sC M16 l0)))) fun d=>by kernel_rfl⟩
def WU:JC:=ajF lV lY vn vt ajt ajj aji
def WD:WS:=WU.F
abbrev WB:Lay:={ T:=[(0,.ptr 0 0),(1,.int .i64),(2,.hd 3 .bool)],h:=sR,nx:=4 }
abbrev Jf:List (Ev.Ex×Lay):=[(.ret,{ T:=[],h:=sR,nx:=4 })]
abbrev JQ:=TL WB.σs->Option (Out Jf)
abbrev A5:=Kb 82 3 WB 0 Jf
abbrev AD:Lay:={ T:=[(2,.hd 3 .bool),(6,.func 150 [.rp 2] []),(25,.fz bE),(26,.int .i64),(27,.int .i64)],h:=sR,nx:=4 }
abbrev Ak:List (Ev.Ex×Lay):=[((.exit 0),{ T:=[],h:=sR,nx:=4 })]
abbrev WQ:=TL AD.σs->Option (Out Ak)
abbrev JA:=Ld 4 46 (bu [0] (aW Tryz.f82)) AD Ak
def AS(F0:vm)(F1:lT)(F2:I9)(sO:Int)(t25:List (Sh.T bE))(t26 t27 aE:Int)(aD:List Int)(aG:List (Sh.T ae))(aH aI aL:List Int)(aA:List (Sh.T ab))(aF:List (Sh.T ae))(cg:List (Sh.T ah))(b1:List Bool)(b2:List (Sh.T (.agg [(.int .i64),(.int .i64),(.sl aC)])))(b3:List Bool):Option (TL AD.σs⊕Out Ak):=
 br (iL t27 t26)
 (
  ai (aw t27 (List.length t25))<|
  ar (F1 ((gt bE t25 t27).1,(b3,()))) fun x0=>
  br x0.1
  (
   ar (F0 ((gt bE t25 t27).2.1,(b3,()))) fun x1=>
   ar (F0 ((gt bE t25 t27).2.2.1,(b3,()))) fun x2=>
   ar (F2 (x1.1,(x2.1,((List.getD b2 (Int.toNat sO) (zR)).1,((List.getD b2 (Int.toNat sO) (zR)).2.1,((List.getD b2 (Int.toNat sO) (zR)).2.2.1,())))))) fun x3=>
   some (.inl ((Int.ofNat (Int.toNat sO)),(t25,(t26,((IntKind.wrap .i64 (t27+(1:Int))),(aE,(aD,(aG,(aH,(aI,(aL,(aA,(aF,(cg,(b1,((List.set b2 (Int.toNat sO) x3.2),(b3,()))))))))))))))))))
  (
   some (.inl ((Int.ofNat (Int.toNat sO)),(t25,(t26,((IntKind.wrap .i64 (t27+(1:Int))),(aE,(aD,(aG,(aH,(aI,(aL,(aA,(aF,(cg,(b1,(b2,(b3,())))))))))))))))))))
 (
  some (.inr (aE,(aD,(aG,(aH,(aI,(aL,(aA,(aF,(cg,(b1,(b2,(b3,()))))))))))))))
def ajE(c0:sk)(c1:kW)(c2:Ah) :JA:=bB (u16 (AS c0.F c1.F c2.F)) (pL (kD c0 (kD c1 (kB c2 k0))) e0 1 l0 fun d=>by kernel_rfl)
def ajD:JA:=ajE vn lV Ja
def Jz:WQ:=aR (u16 (AS qh jA NY)) NN
def ajV(F0:vm)(F1:lT)(F2:I9)(L2:WQ)(t1 aE:Int)(aD:List Int)(aG:List (Sh.T ae))(aH aI aL:List Int)(aA:List (Sh.T ab))(aF:List (Sh.T ae))(cg:List (Sh.T ah))(b1:List Bool)(b2:List (Sh.T (.agg [(.int .i64),(.int .i64),(.sl aC)])))(b3:List Bool):Option (Out Jf):=
 ai (aw t1 (List.length b2))<|
 ai (aw t1 (List.length aA))<|
 ar (L2 ((Int.ofNat (Int.toNat t1)),((gt ab aA t1).2.2.2.2.1,((Int.ofNat (List.length (gt ab aA t1).2.2.2.2.1)),((0:Int),(aE,(aD,(aG,(aH,(aI,(aL,(aA,(aF,(cg,(b1,(b2,(b3,()))))))))))))))))) fun x0=>
 some x0
def ajU(c0:sk)(c1:kW)(c2:Ah)(M2:JA):A5:=⟨nF (ajV c0.F c1.F c2.F M2.L),pB Tryz.func82 46 (kD c0 (kD c1 (kB c2 k0))) e0 1 (sS (sC M2 l0)) fun d=>by kernel_rfl⟩
def JR:A5:=ajU vn lV Ja ajD
def WR:JQ:=JR.F
abbrev WW:Lay:={ T:=[(0,.ptr 0 0),(1,.fz .bool)],h:=Cg,nx:=3 }
abbrev Jt:List (Ev.Ex×Lay):=[(.ret,{ T:=[(0,.agg [.hd 3 .bool,.bool]),(1,.int .i64)],h:=sR,nx:=4 })]
abbrev vj:=TL WW.σs->Option (Out Jt)
abbrev si:=Kb 34 2 WW 2 Jt
abbrev AH:Lay:={ T:=[(0,.ptr 0 0),(4,.ptr 3 0),(6,.hd 5 .bool),(89,.int .i64),(90,.int .i64)],h:=vU,nx:=6 }
abbrev Aq:List (Ev.Ex×Lay):=[((.exit 6),{ T:=[(4,.ptr 3 0)],h:=[(0,.cells pb 145),(1,.arr .bool 4),(2,.cO 220),(3,.cells [.hd 4 .bool,.bool] 55),(4,.arr .bool 4)],nx:=5 })]
abbrev WX:=TL AH.σs->Option (Out Aq)
abbrev JD:=Ld 3 99 (bu [3] (aW Tryz.f34)) AH Aq
abbrev AJ:Lay:={ T:=[(0,.ptr 0 0),(4,.ptr 3 0),(6,.hd 5 .bool),(67,.fz ae),(68,.int .i64),(69,.int .i64)],h:=vU,nx:=6 }
abbrev Ar:List (Ev.Ex×Lay):=[((.exit 4),{ T:=[(0,.ptr 0 0),(4,.ptr 3 0),(6,.hd 5 .bool)],h:=vU,nx:=6 })]
abbrev WY:=TL AJ.σs->Option (Out Ar)
abbrev JE:=Ld 3 99 (bu [2] (aW Tryz.f34)) AJ Ar
abbrev AK:Lay:={ T:=[(0,.ptr 0 0),(4,.ptr 3 0),(6,.hd 5 .bool),(48,.fz (.int .i64)),(49,.int .i64),(50,.int .i64)],h:=vU,nx:=6 }
abbrev Au:List (Ev.Ex×Lay):=[((.exit 2),{ T:=[(0,.ptr 0 0),(4,.ptr 3 0),(6,.hd 5 .bool)],h:=vU,nx:=6 })]
abbrev WZ:=TL AK.σs->Option (Out Au)
abbrev JF:=Ld 3 99 (bu [1] (aW Tryz.f34)) AK Au
abbrev AP:Lay:={ T:=[(0,.ptr 0 0),(4,.ptr 3 0),(6,.hd 4 .bool),(29,.fz (.int .i64)),(30,.int .i64),(31,.int .i64)],h:=Zy,nx:=5 }
abbrev AG:List (Ev.Ex×Lay):=[((.exit 0),{ T:=[(0,.ptr 0 0),(4,.ptr 3 0),(6,.hd 4 .bool)],h:=Zy,nx:=5 })]
abbrev Xi:=TL AP.σs->Option (Out AG)
abbrev JS:=Ld 3 99 (bu [0] (aW Tryz.f34)) AP AG
def A7(F0:lT)(t29:List Int)(t30 t31 aE:Int)(aD:List Int)(aG:List (Sh.T ae))(aH aI aL:List Int)(aA:List (Sh.T ab))(aF:List (Sh.T ae))(cg:List (Sh.T ah))(b1:List Bool)(b2:List (Sh.T (.agg [(.int .i64),(.int .i64),(.sl aC)])))(cT:Bool)(b4:List Bool):Option (TL AP.σs⊕Out AG):=
 br (iL t31 t30)
 (
  ai (aw t31 (List.length t29))<|
  br cT
  (
   ar (F0 ((gt (.int .i64) t29 t31),(b4,()))) fun x0=>
   some (.inl (t29,(t30,((IntKind.wrap .i64 (t31+(1:Int))),(aE,(aD,(aG,(aH,(aI,(aL,(aA,(aF,(cg,(b1,(b2,((aQ true x0.1 false),(b4,()))))))))))))))))))
  (
   some (.inl (t29,(t30,((IntKind.wrap .i64 (t31+(1:Int))),(aE,(aD,(aG,(aH,(aI,(aL,(aA,(aF,(cg,(b1,(b2,(false,(b4,())))))))))))))))))))
 (
  some (.inr (aE,(aD,(aG,(aH,(aI,(aL,(aA,(aF,(cg,(b1,(b2,(cT,(b4,())))))))))))))))
def ajX(c0:kW) :JS:=bB (u16 (A7 c0.F)) (pL (kD c0 k0) e0 1 l0 fun d=>by kernel_rfl)
def ajW:JS:=ajX lV
def Xj:Xi:=aR (u16 (A7 jA)) NN
def AX(F0:lT)(t48:List Int)(t49 t50 aE:Int)(aD:List Int)(aG:List (Sh.T ae))(aH aI aL:List Int)(aA:List (Sh.T ab))(aF:List (Sh.T ae))(cg:List (Sh.T ah))(b1:List Bool)(b2:List (Sh.T (.agg [(.int .i64),(.int .i64),(.sl aC)])))(cT:Bool)(b4 b5:List Bool):Option (TL AK.σs⊕Out Au):=
 br (iL t50 t49)
 (
  ai (aw t50 (List.length t48))<|
  ar (F0 ((gt (.int .i64) t48 t50),(b5,()))) fun x0=>
  ai (room 1 (List.length (ap b4 (x0.1::[]))))<|
  some (.inl (t48,(t49,((IntKind.wrap .i64 (t50+(1:Int))),(aE,(aD,(aG,(aH,(aI,(aL,(aA,(aF,(cg,(b1,(b2,(cT,((ap b4 (x0.1::[])),(b5,())))))))))))))))))))
 (
  some (.inr (aE,(aD,(aG,(aH,(aI,(aL,(aA,(aF,(cg,(b1,(b2,(cT,(b4,(b5,()))))))))))))))))
def ajL(c0:kW) :JF:=bB (mH (AX c0.F)) (pL (kD c0 k0) e0 1 l0 fun d=>by kernel_rfl)
def ajI:JF:=ajL lV
def W6:WZ:=aR (mH (AX jA)) NN
def AW(F0:lT)(t67:List (Sh.T ae))(t68 t69 aE:Int)(aD:List Int)(aG:List (Sh.T ae))(aH aI aL:List Int)(aA:List (Sh.T ab))(aF:List (Sh.T ae))(cg:List (Sh.T ah))(b1:List Bool)(b2:List (Sh.T (.agg [(.int .i64),(.int .i64),(.sl aC)])))(cT:Bool)(b4 b5:List Bool):Option (TL AJ.σs⊕Out Ar):=
 br (iL t69 t68)
 (
  ai (aw t69 (List.length t67))<|
  ar (F0 ((gt ae t67 t69).2.1,(b5,()))) fun x0=>
  ai (aw t69 (List.length b1))<|
  some (.inl (t67,(t68,((IntKind.wrap .i64 (t69+(1:Int))),(aE,(aD,(aG,(aH,(aI,(aL,(aA,(aF,(cg,((List.set b1 (Int.toNat t69) x0.1),(b2,(cT,(b4,(b5,())))))))))))))))))))
 (
  some (.inr (aE,(aD,(aG,(aH,(aI,(aL,(aA,(aF,(cg,(b1,(b2,(cT,(b4,(b5,()))))))))))))))))
def ajK(c0:kW) :JE:=bB (mH (AW c0.F)) (pL (kD c0 k0) e0 1 l0 fun d=>by kernel_rfl)
def ajH:JE:=ajK lV
def W5:WY:=aR (mH (AW jA)) NN
def AU(F1:JQ)(t89 t90 aE:Int)(aD:List Int)(aG:List (Sh.T ae))(aH aI aL:List Int)(aA:List (Sh.T ab))(aF:List (Sh.T ae))(cg:List (Sh.T ah))(b1:List Bool)(b2:List (Sh.T (.agg [(.int .i64),(.int .i64),(.sl aC)])))(cT:Bool)(b4 b5:List Bool):Option (TL AH.σs⊕Out Aq):=
 br (iL t90 t89)
 (
  ar (F1 (t90,(aE,(aD,(aG,(aH,(aI,(aL,(aA,(aF,(cg,(b1,(b2,(b5,())))))))))))))) fun x0=>
  some (.inl (t89,((IntKind.wrap .i64 (t90+(1:Int))),(x0.1,(x0.2.1,(x0.2.2.1,(x0.2.2.2.1,(x0.2.2.2.2.1,(x0.2.2.2.2.2.1,(x0.2.2.2.2.2.2.1,(x0.2.2.2.2.2.2.2.1,(x0.2.2.2.2.2.2.2.2.1,(x0.2.2.2.2.2.2.2.2.2.1,(x0.2.2.2.2.2.2.2.2.2.2.1,(cT,(b4,(x0.2.2.2.2.2.2.2.2.2.2.2.1,()))))))))))))))))))
 (
  some (.inr (aE,(aD,(aG,(aH,(aI,(aL,(aA,(aF,(cg,(b1,(b2,(cT,(b4,())))))))))))))))
def ajJ(c1:A5) :JD:=bB (u16 (AU c1.F)) (pL (kB c1 k0) e0 1 l0 fun d=>by kernel_rfl)
def ajG:JD:=ajJ JR
def W2:WX:=aR (u16 (AU WR)) NN
def aj8(F0:lT)(F1:JQ)(F2:WS)(L6:Xi)(L11:WZ)(L16:WY)(L21:WX)(t1:List Bool)(aE:Int)(aD:List Int)(aG:List (Sh.T ae))(aH aI aL:List Int)(aA:List (Sh.T ab))(aF:List (Sh.T ae))(cg:List (Sh.T ah))(b1:List Bool)(b2:List (Sh.T (.agg [(.int .i64),(.int .i64),(.sl aC)]))):Option (Out Jt):=
 ar (F2 (t1,(aE,(aD,(aG,(aH,(aI,(aL,(aA,(aF,(cg,(b1,(b2,()))))))))))))) fun x0=>
 br (Bool.not (iQ x0.1 (0:Int)))
 (
  some (false,(x0.1,(x0.2.1,(x0.2.2.1,(x0.2.2.2.1,(x0.2.2.2.2.1,(x0.2.2.2.2.2.1,(x0.2.2.2.2.2.2.1,(x0.2.2.2.2.2.2.2.1,(x0.2.2.2.2.2.2.2.2.1,(x0.2.2.2.2.2.2.2.2.2.1,(x0.2.2.2.2.2.2.2.2.2.2.1,(x0.2.2.2.2.2.2.2.2.2.2.2.1,([],())))))))))))))))
 (
  ar (L6 (x0.2.2.2.2.2.2.1,((Int.ofNat (List.length x0.2.2.2.2.2.2.1)),((0:Int),(x0.2.1,(x0.2.2.1,(x0.2.2.2.1,(x0.2.2.2.2.1,(x0.2.2.2.2.2.1,(x0.2.2.2.2.2.2.1,(x0.2.2.2.2.2.2.2.1,(x0.2.2.2.2.2.2.2.2.1,(x0.2.2.2.2.2.2.2.2.2.1,(x0.2.2.2.2.2.2.2.2.2.2.1,(x0.2.2.2.2.2.2.2.2.2.2.2.1,(true,(x0.2.2.2.2.2.2.2.2.2.2.2.2.1,()))))))))))))))))) fun x1=>
  ar (L11 (x1.2.2.2.2.1,((Int.ofNat (List.length x1.2.2.2.2.1)),((0:Int),(x1.1,(x1.2.1,(x1.2.2.1,(x1.2.2.2.1,(x1.2.2.2.2.1,(x1.2.2.2.2.2.1,(x1.2.2.2.2.2.2.1,(x1.2.2.2.2.2.2.2.1,(x1.2.2.2.2.2.2.2.2.1,(x1.2.2.2.2.2.2.2.2.2.1,(x1.2.2.2.2.2.2.2.2.2.2.1,(x1.2.2.2.2.2.2.2.2.2.2.2.1,([],(x1.2.2.2.2.2.2.2.2.2.2.2.2.1,())))))))))))))))))) fun x2=>
  ar (L16 (x2.2.2.1,((Int.ofNat (List.length x2.2.2.1)),((0:Int),x2)))) fun x3=>
  ar (L21 ((Int.ofNat (List.length x3.2.2.2.2.2.2.2.2.2.2.1)),((0:Int),x3))) fun x4=>
  some (x4.2.2.2.2.2.2.2.2.2.2.2.1,((0:Int),(x4.1,(x4.2.1,(x4.2.2.1,(x4.2.2.2.1,(x4.2.2.2.2.1,(x4.2.2.2.2.2.1,(x4.2.2.2.2.2.2.1,(x4.2.2.2.2.2.2.2.1,(x4.2.2.2.2.2.2.2.2.1,(x4.2.2.2.2.2.2.2.2.2.1,(x4.2.2.2.2.2.2.2.2.2.2.1,(x4.2.2.2.2.2.2.2.2.2.2.2.2.1,())))))))))))))))
def aj7(c0:kW)(c1:A5)(c2:JC)(M6:JS)(M11:JF)(M16:JE)(M21:JD):si:=⟨jY (aj8 c0.F c1.F c2.F M6.L M11.L M16.L M21.L),pB Tryz.func34 99 (kD c0 (kB c1 (kB c2 k0))) e0 1 (sS (sC M6 (sC M11 (sC M16 (sC M21 l0))))) fun d=>by kernel_rfl⟩
def vk:si:=aj7 lV JR WU ajW ajI ajH ajG
def mQ:vj:=vk.F
abbrev Pk:Lay:={ T:=[(0,.ptr 0 0)],h:=Cg,nx:=3 }
abbrev Ei:List (Ev.Ex×Lay):=[(.ret,{ T:=[(0,.agg [.hd 3 .bool,.hd 4 (.sl aC)])],h:=[(0,.cells pb 145),(1,.arr .bool 4),(2,.cO 220),(3,.arr .bool 4),(4,.arr (.sl aC) 104)],nx:=5 })]
abbrev xK:=TL Pk.σs->Option (Out Ei)
abbrev tW:=Kb 35 1 Pk 1 Ei
abbrev tS:Lay:={ T:=[(2,.ptr 3 0),(17,.cS 2),(18,.int .i64),(19,.int .i64)],h:=Zx,nx:=6 }
abbrev tO:List (Ev.Ex×Lay):=[((.exit 0),{ T:=[(2,.ptr 3 0)],h:=Zx,nx:=6 })]
abbrev Pw:=TL tS.σs->Option (Out tO)
abbrev EI:=Ld 3 32 (bu [0] (aW Tryz.f35)) tS tO
def Pt(F0:K8)(t18 t19 aE:Int)(aD:List Int)(aG:List (Sh.T ae))(aH aI aL:List Int)(aA:List (Sh.T ab))(aF:List (Sh.T ae))(cg:List (Sh.T ah))(b1:List Bool)(b2:List (Sh.T (.agg [(.int .i64),(.int .i64),(.sl aC)])))(b4:List Bool)(b5:List (List (Sh.T aC))):Option (TL tS.σs⊕Out tO):=
 br (iL t19 t18)
 (
  ai (aw t19 (List.length b2))<|
  ar (F0 ((List.getD b2 (Int.toNat t19) (zR)).1,((List.getD b2 (Int.toNat t19) (zR)).2.1,((List.getD b2 (Int.toNat t19) (zR)).2.2.1,())))) fun x0=>
  ai (room 24 (List.length (ap b5 (x0.1::[]))))<|
  some (.inl (t18,((IntKind.wrap .i64 (t19+(1:Int))),(aE,(aD,(aG,(aH,(aI,(aL,(aA,(aF,(cg,(b1,((List.set b2 (Int.toNat t19) x0.2),(b4,((ap b5 (x0.1::[])),())))))))))))))))))
 (
  some (.inr (aE,(aD,(aG,(aH,(aI,(aL,(aA,(aF,(cg,(b1,(b2,(b4,(b5,())))))))))))))))
def aaK(c0:K9) :EI:=bB (dV (Pt c0.F)) (pL (kB c0 k0) e0 1 l0 fun d=>by kernel_rfl)
def aaL:EI:=aaK ET
def Pv:Pw:=aR (dV (Pt ER)) NN
def aaU(F0:K8)(F1:sd)(F2:rZ)(L5:Pw)(aE:Int)(aD:List Int)(aG:List (Sh.T ae))(aH aI aL:List Int)(aA:List (Sh.T ab))(aF:List (Sh.T ae))(cg:List (Sh.T ah))(b1:List Bool)(b2:List (Sh.T (.agg [(.int .i64),(.int .i64),(.sl aC)]))):Option (Out Ei):=
 ar (F1 (b1,())) fun x0=>
 ar (L5 ((Int.ofNat (List.length b2)),((0:Int),(aE,(aD,(aG,(aH,(aI,(aL,(aA,(aF,(cg,(x0.1,(b2,(x0.2.1,([],())))))))))))))))) fun x1=>
 some x1
def aaV(c0:K9)(c1:sf)(c2:r9)(M5:EI):tW:=⟨jI (aaU c0.F c1.F c2.F M5.L),pB Tryz.func35 32 (kB c0 (kB c1 (kB c2 k0))) e0 1 (sS (sC M5 l0)) fun d=>by kernel_rfl⟩
def xJ:tW:=aaV ET se qd aaL
def Pu:xK:=xJ.F
abbrev cX:Sh:=(.agg [(.int .i64),(.int .i64)])
abbrev abA:Sh:=(.agg [.bool,(.int .i64),.bool,(.int .i64)])
