import Derived.Test.YtkcpdpplobhpaaaGreatKMe
import Derived.Test.YtkcpdpplobhpaaaGreatKMf
import Derived.Test.YtkcpdpplobhpaaaGreatKRa
import Derived.Test.YtkcpdpplobhpaaaGreatKSa
import Derived.Shelf.SlSortCmp.NoneTotal
import Derived.Shelf.Lay
import Derived.Lib.Walk
import Derived.Laws.IdiomRangeMap
set_option linter.unusedVariables false
set_option linter.unusedSimpArgs false
set_option linter.unnecessarySimpa false
section
namespace Go.Proofs.YtkcpdpplobhpaaaGreat.V
open Go Go.Sort
abbrev ClT:=Int×Int×Unit
abbrev shCl:Sh:=.agg [.int .u64,.int .u64]
def encC (p:ClT):List Value:=[.int .u64 p.1,.int .u64 p.2.1]
def flatC (L:List ClT):List Value:=L.flatMap encC
theorem flatC_cons (p:ClT) (L:List ClT):flatC (p :: L)=.int .u64 p.1 :: .int .u64 p.2.1 :: flatC L:=by unfold flatC;rw [List.flatMap_cons];rfl
theorem flatC_length:∀L:List ClT,(flatC L).length=L.length*2
 | []=>rfl
 | p :: L=>by rw [flatC_cons,List.length_cons,List.length_cons,flatC_length L,List.length_cons];omega
theorem cs_cl {w:World} {A:Nat→Prop} {p:ClT} {c:List Value}:Cs w A shCl p c↔c=encC p:=by
 constructor
 ·rintro ⟨c1,r1,rfl,h1,c2,r2,rfl,h2,h3⟩
  rw [show c1=[.int .u64 p.1] from h1,show c2=[.int .u64 p.2.1] from h2,show r2=[] from h3];rfl
 ·rintro rfl
  exact ⟨[.int .u64 p.1],[.int .u64 p.2.1],rfl,rfl,[.int .u64 p.2.1],[],rfl,rfl,rfl⟩
theorem flat_cl {w:World} {A:Nat→Prop}:∀{L:List ClT} {cs:List Value},FlatL (Cs w A shCl) L cs↔cs=flatC L
 | [],cs=>Iff.rfl
 | p :: L,cs=>by
  constructor
  ·rintro ⟨c,r,rfl,h1,h2⟩
   rw [cs_cl.1 h1,flat_cl.1 h2,flatC_cons];rfl
  ·rintro rfl
   exact ⟨encC p,flatC L,by rw [flatC_cons];rfl,cs_cl.2 rfl,flat_cl.2 rfl⟩
theorem flatC_get:∀(L:List ClT) (t:Nat),t<L.length*2→(flatC L)[t]?=some ((encC (L[t / 2]!))[t % 2]!)
 | [],t,h=>by simp at h
 | p :: L,0,h=>by rw [flatC_cons];rfl
 | p :: L,1,h=>by rw [flatC_cons];rfl
 | p :: L,t+2,h=>by
  rw [flatC_cons,List.getElem?_cons_succ,List.getElem?_cons_succ,flatC_get L t (by rw [List.length_cons] at h;omega)]
  rw [show (t+2) / 2=t / 2+1 by omega,show (t+2) % 2=t % 2 by omega]
  rfl
theorem flatK_eq (L:List ClT):flatK encC 2 L.toArray=(flatC L).toArray:=by
 apply Array.ext_getElem?
 intro t
 rcases Nat.lt_or_ge t (L.length*2) with q | q
 ·have h1:=flatC_get L t q
  have h2:t<L.toArray.size*2:=by simpa using q
  have h3:=get_flatK encC 2 L.toArray t h2
  have h4:t<(flatK encC 2 L.toArray).size:=by rw [size_flatK];exact h2
  rw [Array.getElem?_eq_getElem h4,←getElem!_pos _ t h4,h3]
  rw [List.getElem?_toArray,h1]
  simp
 ·rw [Array.getElem?_eq_none (by rw [size_flatK];simpa using q),Array.getElem?_eq_none (by simp [flatC_length];omega)]
def cfC (x y:ClT):Int:=Lib.compareInt x.1 y.1
theorem ltC (x y:ClT):ltOf cfC x y=decide (x.1<y.1):=by
 unfold ltOf cfC Lib.compareInt
 by_cases h1:x.1<y.1
 ·simp [h1]
 ·by_cases h2:y.1<x.1<;>simp [h1,h2]
theorem swoC:SWO (ltOf cfC) where
 irrefl x:=by rw [ltC];simp
 trans x y z h1 h2:=by rw [ltC] at *;simp at *;omega
 ntrans x y z h1 h2:=by rw [ltC] at *;simp at *;omega
def sortL (L:List ClT):List ClT:=L.mergeSort (fun p q=>decide (p.1≤q.1))
theorem sortL_perm (L:List ClT):(sortL L).Perm L:=List.mergeSort_perm _ _
theorem sortL_le (L:List ClT):(sortL L).Pairwise (fun p q=>p.1≤q.1):=by
 have:=List.pairwise_mergeSort (le:=fun p q:ClT=>decide (p.1≤q.1)) (fun a b c h1 h2=>by simp at *;omega) (fun a b=>by simp;omega) L
 exact this.imp (fun h=>of_decide_eq_true h)
theorem sort_one {L A B:List ClT} (hn:(L.map (fun p=>p.1)).Nodup) (ha:A.Perm L) (hb:B.Perm L) (sa:A.Pairwise (fun p q=>p.1≤q.1)) (sb:B.Pairwise (fun p q=>p.1≤q.1)):A=B:=by
 refine List.Perm.eq_of_pairwise (le:=fun p q:ClT=>p.1≤q.1) ?_ sa sb (ha.trans hb.symm)
 intro a b h1 h2 h3 h4
 have e:a.1=b.1:=Int.le_antisymm h3 h4
 have m1:=ha.mem_iff.1 h1
 have m2:=hb.mem_iff.1 h2
 obtain ⟨i,hi⟩:=List.getElem?_of_mem m1
 obtain ⟨j,hj⟩:=List.getElem?_of_mem m2
 have hi':(L.map (fun p=>p.1))[i]?=some a.1:=by rw [List.getElem?_map,hi];rfl
 have hj':(L.map (fun p=>p.1))[j]?=some a.1:=by rw [List.getElem?_map,hj,e];rfl
 have hlt:i<(L.map (fun p=>p.1)).length:=by
  rcases Nat.lt_or_ge i (L.map (fun p=>p.1)).length with q | q
  ·exact q
  ·rw [List.getElem?_eq_none q] at hi';cases hi'
 have:i=j:=(List.getElem?_inj hlt hn).1 (hi'.trans hj'.symm)
 subst this
 rw [hi] at hj
 exact Option.some.inj hj
theorem holds_row {w:World} {b:Nat} {L:List ClT} {tail:List Value} {ty:TypeId} (h:w.heap[b]?=some (.cells (List.toArray (flatC L++tail)) ty (0,0))):HoldsK encC 2 w b 0 L.toArray:=by
 unfold HoldsK
 rw [flatK_eq]
 intro j hj
 have hj':j<(flatC L).length:=by simpa using hj
 constructor
 ·unfold World.cell?
  try dsimp only
  rw [h]
  simp only [Option.isSome_none,Bool.false_eq_true,if_false,Nat.zero_add]
  rw [List.getElem?_toArray,List.getElem?_append_left hj']
  rw [List.getElem?_eq_getElem hj']
  simp [hj']
 ·unfold World.frozen?
  try dsimp only
  rw [h]
  simp
theorem sortWorld_facts {w:World} {b n:Nat} {L L':List ClT} {os:Array Obj} {tail:List Value} {ty:TypeId} (hl:L'.length=L.length) (h:w.heap[b]?=some (.cells (List.toArray (flatC L++tail)) ty (0,0))) :
  (sortWorldK encC 2 w b 0 n L'.toArray os).heap[b]?=some (.cells (List.toArray (flatC L'++tail)) ty (0,0))∧(∀k,k<w.heap.size→k≠b→(sortWorldK encC 2 w b 0 n L'.toArray os).heap[k]?=w.heap[k]?) ∧
  (sortWorldK encC 2 w b 0 n L'.toArray os).os=w.os∧(sortWorldK encC 2 w b 0 n L'.toArray os).tape=w.tape∧(sortWorldK encC 2 w b 0 n L'.toArray os).output=w.output∧w.heap.size≤(sortWorldK encC 2 w b 0 n L'.toArray os).heap.size:=by
 have hb:b<w.heap.size:=by
  rcases Nat.lt_or_ge b w.heap.size with q | q
  ·exact q
  ·rw [Array.getElem?_eq_none q] at h;cases h
 have key:∀k,k<w.heap.size→(sortWorldK encC 2 w b 0 n L'.toArray os).heap[k]?=if b=k then (w.heap[k]?).map (onCells (putCells id 0 (flatC L').toArray)) else w.heap[k]?:=by
  intro k hk
  unfold sortWorldK Sort.grow putRowK putRow mapBlock
  rw [flatK_eq]
  show (((Go.Sort.ahead w n).heap.modify b _)++os)[k]?=_
  have hk':k<((Go.Sort.ahead w n).heap.modify b (onCells (putCells id 0 (flatC L').toArray))).size:=by rw [Array.size_modify];exact hk
  rw [Array.getElem?_append_left hk',Array.getElem?_modify]
  show (if b=k then (onCells _) <$> w.heap[k]? else w.heap[k]?)=_
  rfl
 refine ⟨?_,?_,rfl,rfl,rfl,?_⟩
 ·rw [key b hb,if_pos rfl,h]
  show some (Obj.cells (putCells id 0 (flatC L').toArray (List.toArray (flatC L++tail))) ty (0,0))=_
  congr 2
  apply Array.ext_getElem?
  intro t
  unfold putCells
  rw [Array.getElem?_mapIdx]
  simp only [Nat.zero_add,Nat.zero_le,true_and,Nat.sub_zero,id]
  have hlen:(flatC L').length=(flatC L).length:=by rw [flatC_length,flatC_length,hl]
  rcases Nat.lt_or_ge t (flatC L').length with q | q
  ·rw [List.getElem?_toArray,List.getElem?_toArray,List.getElem?_append_left (by omega),List.getElem?_append_left q,List.getElem?_eq_getElem (by omega:t<(flatC L).length),List.getElem?_eq_getElem q]
   simp [q]
  ·rw [List.getElem?_toArray,List.getElem?_toArray,List.getElem?_append_right (by omega),List.getElem?_append_right q,hlen]
   cases tail[t - (flatC L).length]? with
   | none=>rfl
   | some x=>
    have:¬t<(flatC L').toArray.size:=by simp;omega
    simp [Nat.not_lt.2 q]
 ·intro k hk hne
  rw [key k hk,if_neg (fun e=>hne e.symm)]
 ·unfold sortWorldK grow putRowK putRow mapBlock
  show _≤(((Go.Sort.ahead w n).heap.modify b _)++os).size
  rw [Array.size_append,Array.size_modify]
  exact Nat.le_add_right _ _
theorem sorted_is {L:List ClT} {d':Array ClT} (hn:(L.map (fun p=>p.1)).Nodup) (hp:PermIn 0 L.toArray.size L.toArray d') (hs:SortedIn (ltOf cfC) 0 L.toArray.size d'):d'=(sortL L).toArray:=by
 obtain ⟨h1,_,h3⟩:=hp
 have hsz:d'.size=L.length:=by simpa using h1
 have hperm:d'.toList.Perm L:=by
  have a1:(d'.extract 0 L.toArray.size)=d':=by
   apply Array.ext_getElem?
   intro i
   simp [Array.getElem?_extract]
   intro hi
   omega
  have a2:(L.toArray.extract 0 L.toArray.size)=L.toArray:=by simp
  rw [a1,a2] at h3
  simpa using h3
 have hsort:d'.toList.Pairwise (fun p q=>p.1≤q.1):=by
  refine List.pairwise_iff_getElem.2 fun i j hi hj hij=>?_
  have hi':i<d'.size:=by simpa using hi
  have hj':j<d'.size:=by simpa using hj
  have:=hs i j (Nat.zero_le _) hij (by rw [hsz] at hj';simpa using hj')
  rw [ltC,getElem!_pos d' i hi',getElem!_pos d' j hj'] at this
  have:=of_decide_eq_false this
  rw [Array.getElem_toList,Array.getElem_toList]
  omega
 have:=sort_one hn hperm (sortL_perm L) hsort (sortL_le L)
 rw [←this]
end Go.Proofs.YtkcpdpplobhpaaaGreat.V
end
section
namespace Go.Proofs.YtkcpdpplobhpaaaGreat.V
open Go Go.RowKit Go.Shelf Go.Sort
set_option maxRecDepth 1000000
def sortRen:Go.Shelf.Ren:=⟨fun | 6=>151 | 15=>200 | 14=>199 | 28=>237 | 29=>238 | 20=>229 | 21=>230 | 22=>231 | 23=>232 | 24=>233 | 25=>234 | 26=>235 | 27=>236 | 46=>258 | 47=>259 | 48=>260 | 49=>261 | 50=>262 | 57=>266 | n=>n,fun | 22=>104 | 24=>137 | 25=>230 | 3=>3 | 39=>83 | 0=>0 | 53=>290 | 55=>77 | 4=>4 | 46=>284 | 45=>283 | 50=>261 | 5=>5 | 9=>9 | 66=>305 | 70=>271 | 76=>312 | 77=>313 | n=>n,fun | n=>n⟩
theorem sortLay:Go.Proofs.SlLaysF0.n6 Tryz.prog sortRen:={
 mixed:=by kernel_rfl
 f6:=⟨Tryz.f151.name,by decide,Tryz.func151.trans (congrArg some (by kernel_rfl))⟩
 f14:=⟨Tryz.f199.name,by decide,Tryz.func199.trans (congrArg some (by kernel_rfl))⟩
 f15:=Tryz.func200.trans (congrArg some (by kernel_rfl))
 f20:=⟨Tryz.f229.name,by decide,Tryz.func229.trans (congrArg some (by kernel_rfl))⟩
 f21:=⟨Tryz.f230.name,by decide,Tryz.func230.trans (congrArg some (by kernel_rfl))⟩
 f22:=⟨Tryz.f231.name,by decide,Tryz.func231.trans (congrArg some (by kernel_rfl))⟩
 f23:=⟨Tryz.f232.name,by decide,Tryz.func232.trans (congrArg some (by kernel_rfl))⟩
 f24:=⟨Tryz.f233.name,by decide,Tryz.func233.trans (congrArg some (by kernel_rfl))⟩
 f25:=⟨Tryz.f234.name,by decide,Tryz.func234.trans (congrArg some (by kernel_rfl))⟩
 f26:=⟨Tryz.f235.name,by decide,Tryz.func235.trans (congrArg some (by kernel_rfl))⟩
 f27:=⟨Tryz.f236.name,by decide,Tryz.func236.trans (congrArg some (by kernel_rfl))⟩
 f28:=Tryz.func237.trans (congrArg some (by kernel_rfl))
 f29:=Tryz.func238.trans (congrArg some (by kernel_rfl))
 f46:=⟨Tryz.f258.name,by decide,Tryz.func258.trans (congrArg some (by kernel_rfl))⟩
 f47:=Tryz.func259.trans (congrArg some (by kernel_rfl))
 f48:=Tryz.func260.trans (congrArg some (by kernel_rfl))
 f49:=⟨Tryz.f261.name,by decide,Tryz.func261.trans (congrArg some (by kernel_rfl))⟩
 f50:=⟨Tryz.f262.name,by decide,Tryz.func262.trans (congrArg some (by kernel_rfl))⟩
 f57:=⟨Tryz.f266.name,by decide,Tryz.func266.trans (congrArg some (by kernel_rfl))⟩
 t0:=Tryz.underlying0
 a0:=Tryz.isAgg0
 z0:=Tryz.sizeOf0
 v0:=Tryz.zeroValue0
 t3:=Tryz.underlying3
 a3:=Tryz.isAgg3
 z3:=Tryz.sizeOf3
 v3:=Tryz.zeroValue3
 t4:=Tryz.underlying4
 a4:=Tryz.isAgg4
 z4:=Tryz.sizeOf4
 v4:=Tryz.zeroValue4
 t5:=Tryz.underlying5
 a5:=Tryz.isAgg5
 z5:=Tryz.sizeOf5
 v5:=Tryz.zeroValue5
 t9:=Tryz.underlying9
 a9:=Tryz.isAgg9
 z9:=Tryz.sizeOf9
 v9:=Tryz.zeroValue9
 t22:=Tryz.underlying104
 a22:=Tryz.isAgg104
 z22:=Tryz.sizeOf104
 v22:=Tryz.zeroValue104
 t25:=Tryz.underlying230
 a25:=Tryz.isAgg230
 z25:=Tryz.sizeOf230
 v25:=Tryz.zeroValue230
 t39:=Tryz.underlying83
 a39:=Tryz.isAgg83
 z39:=Tryz.sizeOf83
 v39:=Tryz.zeroValue83
 t45:=Tryz.underlying283
 a45:=Tryz.isAgg283
 z45:=Tryz.sizeOf283
 v45:=Tryz.zeroValue283
 t46:=Tryz.underlying284
 a46:=Tryz.isAgg284
 z46:=Tryz.sizeOf284
 v46:=Tryz.zeroValue284
 t50:=Tryz.underlying261
 a50:=Tryz.isAgg261
 z50:=Tryz.sizeOf261
 v50:=Tryz.zeroValue261
 t53:=Tryz.underlying290
 a53:=Tryz.isAgg290
 z53:=Tryz.sizeOf290
 v53:=Tryz.zeroValue290
 t55:=Tryz.underlying77
 a55:=Tryz.isAgg77
 z55:=Tryz.sizeOf77
 v55:=Tryz.zeroValue77
 t66:=Tryz.underlying305
 a66:=Tryz.isAgg305
 z66:=Tryz.sizeOf305
 v66:=Tryz.zeroValue305
 t70:=Tryz.underlying271
 a70:=Tryz.isAgg271
 z70:=Tryz.sizeOf271
 v70:=Tryz.zeroValue271
 t76:=Tryz.underlying312
 a76:=Tryz.isAgg312
 z76:=Tryz.sizeOf312
 v76:=Tryz.zeroValue312
 t77:=Tryz.underlying313
 a77:=Tryz.isAgg313
 z77:=Tryz.sizeOf313
 v77:=Tryz.zeroValue313 }
set_option maxHeartbeats 2000000 in
theorem isNaN_c (x:Int) (w:World):Calls Tryz.prog 201 #[.int .u64 x] w fun e w'=>e=.returned (.bool false)∧w'=w:=by
 go_enter Tryz.func201,Tryz.ntmps201
 go_wp2
 go_ret
 exact ⟨by simp,rfl⟩
set_option maxHeartbeats 2000000 in
theorem compare_c (x y:Int) (w:World):Calls Tryz.prog 153 #[.int .u64 x,.int .u64 y] w fun e w'=>e=.returned (.int .i64 (Lib.compareInt x y))∧w'=w:=by
 have hc:=fun x w=>isNaN_c x w
 go_enter Tryz.func153,Tryz.ntmps153
 go_wp2_with (go_at_call 201;refine (hc _ _).mono ?_;rintro e w' ⟨rfl,rfl⟩)
 all_goals (go_ret;refine ⟨?_,rfl⟩;unfold Lib.compareInt;(repeat' split)<;>first | rfl | (exfalso;omega))
set_option maxHeartbeats 2000000 in
theorem closure_c (x y:ClT) (W:World):Calls Tryz.prog 152 #[.agg #[.int .u64 x.1,.int .u64 x.2.1],.agg #[.int .u64 y.1,.int .u64 y.2.1]] W fun e w'=>e=.returned (.int .i64 (cfC x y))∧∃q os',w'=grow (W.drewN q) os':=by
 have hcon:=fun W'=>compare_c x.1 y.1 W'
 unfold cfC
 generalize Lib.compareInt x.1 y.1=r at hcon ⊢
 go_enter Tryz.func152,Tryz.ntmps152
 go_wp2_with (go_at_call 153;refine (hcon _).mono ?_;rintro e w' ⟨rfl,rfl⟩)
 go_ret
 exact ⟨rfl,0,_,by rw [alloc_eq_grow,alloc_eq_grow,grow_grow];rfl⟩
abbrev fSort:FuncId:=151
abbrev fCmp:FuncId:=152
theorem sort_calls (blk cap:Nat) (L:List ClT) (w:World) (hH:HoldsK encC 2 w blk 0 L.toArray) (hblk:blk<w.heap.size) (hsz:L.length≤1000000) (hn:(L.map (fun p=>p.1)).Nodup) :
  Calls Tryz.prog fSort #[.slice (some ⟨blk,0,none⟩) L.length cap,.func (.func fCmp) #[] #[]] w fun e w'=>e=.returned (.tuple #[])∧∃n os,w'=sortWorldK encC 2 w blk 0 n (sortL L).toArray os:=by
 have eg:∀args w,(callFunc fCmp args).run Tryz.prog w=.ok (.enter fCmp args) w:=enters_of Tryz.func152 (by kernel_rfl) rfl
 have hcon:=AnyQ.slices_SortFunc sortLay 2 Tryz.isAgg137 Tryz.sizeOf137 encC (fun _=>rfl) (fun x v hv=>by simp [encC] at hv;rcases hv with rfl | rfl<;>rfl) cfC swoC fCmp #[] blk 0 cap L.toArray w eg (fun _ _ _ _ x y=>closure_c x y _) hH hblk (by simp;omega)
 change Calls Tryz.prog fSort #[.slice (some ⟨blk,0,none⟩) (L.toArray.size:Nat) cap,.func (.func fCmp) #[] #[]] w _ at hcon
 refine hcon.mono ?_
 rintro e w' ⟨rfl,d',n,os,hp,hs,rfl⟩
 exact ⟨rfl,n,os,by rw [sorted_is hn hp hs]⟩
theorem sort_none (p:Option Addr) (cap:Nat) (fv:Value) (w:World):Calls Tryz.prog fSort #[.slice p 0 cap,fv] w fun e w'=>e=.returned (.tuple #[])∧w'=w:=AnyF.slices_SortFunc_none sortLay p cap fv w
theorem leaf_get {α:Type} (o:α) (j:Nat):(Ev.Tr.node (some o) .nil .nil).get j=if j=0 then some o else none:=by
 cases j with
 | zero=>rfl
 | succ m=>
  simp only [Ev.Tr.get]
  split<;>rfl
abbrev laySort:Lay:={ T:=[(0,.hd 0 Za3),(1,.func fCmp [] [])],h:=[(0,.arr Za3 137)],nx:=1 }
abbrev outsSort:List (Ev.Ex×Lay):=[(.ret,{ T:=[],h:=[(0,.arr Za3 137)],nx:=1 })]
def sortOk (L:List ClT):Bool:=decide ((L.map (fun p=>p.1)).Nodup)&&decide (L.length≤1000000)
def sortF (d:TL laySort.σs):Option (Out outsSort):=chk (sortOk d.1) (some (sortL d.1,()))
theorem sort_comes:Zi7 Tryz.prog fSort ⟨2,laySort,0,outsSort,sortF⟩:=by
 refine ⟨⟨Tryz.f151,Zaa Tryz.f151,Tryz.func151,by kernel_rfl,by kernel_rfl⟩,?_⟩
 rintro ⟨L,u⟩ o ho st e st' hput hs X vs args hX H hr hv R
 obtain ⟨hok,ho⟩:=Zv1 ho
 replace hok:sortOk L=true:=hok
 replace ho:some (sortL L,())=some o:=ho
 obtain rfl:=Option.some.inj ho
 unfold sortOk at hok
 simp only [Bool.and_eq_true,decide_eq_true_eq] at hok
 obtain ⟨hn,hlen⟩:=hok
 have e1:st=⟨.node (some (.hd 0 Za3)) (.node (some (.func fCmp [] [])) .nil .nil) .nil,⟨.node (some (.arr Za3 L 137)) .nil .nil,1⟩⟩:=by
  have:Lay.put 2 laySort (L,u)=some ⟨.node (some (.hd 0 Za3)) (.node (some (.func fCmp [] [])) .nil .nil) .nil,⟨.node (some (.arr Za3 L 137)) .nil .nil,1⟩⟩:=by kernel_rfl
  rw [this] at hput;cases hput;rfl
 subst e1
 have e2:(e,st')=(.ret,⟨.nil,⟨.node (some (.arr Za3 (sortL L) 137)) .nil .nil,1⟩⟩):=by
  have:outSt 0 outsSort (sortL L,())=some (.ret,⟨.nil,⟨.node (some (.arr Za3 (sortL L) 137)) .nil .nil,1⟩⟩):=by kernel_rfl
  exact Option.some.inj (hs.symm.trans this)
 cases e2
 have hv':some [AV.hd 0 Za3,AV.func fCmp [] []]=some vs:=hv
 cases hv'
 obtain ⟨V0,r0,rfl,R0,V1,r1,rfl,R1,R2⟩:=R
 have:r1=[]:=R2
 subst this
 obtain ⟨xs,cs,rfl,hx1,hx2⟩:=R1
 have:xs=[]:=hx1
 subst this
 have:cs=[]:=hx2
 subst this
 obtain ⟨l,hs0,hone,hsl⟩:=R0
 have hget:X.h.tr.get 0=some (.arr Za3 L 137):=by rw [hX];rfl
 have hV0:V0=l.slice L.length:=hsl _ (Zaf0 hget)
 subst hV0
 have ho:=H.obj 0 _ l hget hs0
 have tget:∀j,(Ev.Tr.node (some (AObj.arr Za3 (sortL L) 137)) .nil .nil).get j=if j=0 then some (.arr Za3 (sortL L) 137) else none:=leaf_get _
 have hlS:(sortL L).length=L.length:=(sortL_perm L).length_eq
 have fin:∀w':World,w'.os=X.w.os→w'.tape=X.w.tape→w'.output=X.w.output→X.w.heap.size≤w'.heap.size→(∀k,k<X.w.heap.size→¬l.own k→w'.heap[k]?=X.w.heap[k]?)→ORel ⟨X.s,⟨.node (some (.arr Za3 (sortL L) 137)) .nil .nil,1⟩,w',X.A⟩ l (.arr Za3 (sortL L) 137) →
   ∃X' Vs,Ending.returned (.tuple #[])=.returned (tupV Vs)∧X'.w=w'∧X'.h=⟨.node (some (.arr Za3 (sortL L) 137)) .nil .nil,1⟩∧HRel X'∧SExt X X'∧∀us,valsT (Ev.Tr.nil:Ev.Tr AV) 0 0=some us→RelL X' us Vs:=by
  intro w' q1 q2 q3 q4 q5 q6
  refine ⟨⟨X.s,⟨.node (some (.arr Za3 (sortL L) 137)) .nil .nil,1⟩,w',X.A⟩,[],rfl,rfl,rfl,?_,?_,?_⟩
  ·refine ⟨?_,?_,?_,?_,?_,?_⟩
   ·intro i o l' hi hl'
    rw [show (Cx.mk X.s _ w' X.A).h.tr.get i=_ from tget i] at hi
    by_cases hz:i=0
    ·subst hz
     rw [if_pos rfl] at hi
     cases hi
     have:l'=l:=Option.some.inj (hl'.symm.trans hs0)
     subst this
     exact q6
    ·rw [if_neg hz] at hi;cases hi
   ·intro i j o o' l1 l2 b hi hj _ _ _ _
    rw [show (Cx.mk X.s _ w' X.A).h.tr.get i=_ from tget i] at hi
    rw [show (Cx.mk X.s _ w' X.A).h.tr.get j=_ from tget j] at hj
    by_cases hz:i=0
    ·by_cases hz':j=0
     ·rw [hz,hz']
     ·rw [if_neg hz'] at hj;cases hj
    ·rw [if_neg hz] at hi;cases hi
   ·intro i o hi
    rw [show (Cx.mk X.s _ w' X.A).h.tr.get i=_ from tget i] at hi
    by_cases hz:i=0
    ·subst hz;exact Nat.zero_lt_one
    ·rw [if_neg hz] at hi;cases hi
   ·intro i l' hi
    have:=H.dom i l' hi
    rw [hX] at this
    exact this
   ·intro b hb
    exact Nat.lt_of_lt_of_le (H.alt b hb) q4
   ·intro i o l' b hi hl' hb hA
    rw [show (Cx.mk X.s _ w' X.A).h.tr.get i=_ from tget i] at hi
    by_cases hz:i=0
    ·subst hz
     exact H.loc 0 _ l' b hget hl' hb hA
    ·rw [if_neg hz] at hi;cases hi
  ·refine ⟨q1,q2,q3,q4,fun _ _ h=>h,fun _ _ _ h=>h,by rw [hX];exact Nat.le_refl _,?_,?_,?_,?_,rfl⟩
   ·intro b hb hni
    exact q5 b hb (fun q=>hni ⟨0,_,l,hget,hs0,q⟩)
   ·rintro b ⟨i,o,l',hi,hl',hb⟩
    left
    rw [show (Cx.mk X.s _ w' X.A).h.tr.get i=_ from tget i] at hi
    by_cases hz:i=0
    ·subst hz;exact ⟨0,_,l',hget,hl',hb⟩
    ·rw [if_neg hz] at hi;cases hi
   ·intro j n hj hrow
    obtain ⟨o,h1,h2⟩:=Zai8 hrow
    rw [tget j] at h1
    by_cases hz:j=0
    ·subst hz
     rw [if_pos rfl] at h1
     cases h1
     rw [Zaf0 hget]
     have:some (sortL L).length=some n:=h2
     rw [←this,hlS]
    ·rw [if_neg hz] at h1;cases h1
   ·intro i hi hsi
    by_cases hz:i=0
    ·subst hz;rw [hs0] at hsi;cases hsi
    ·have:X.h.next=1:=by rw [hX]
     omega
  ·intro us hus
   cases hus
   rfl
 cases l with
 | nil=>
  have hL:L=[]:=ho
  subst hL
  show Calls _ _ #[.slice none 0 0,.func (.func fCmp) #[] #[]] _ _
  refine (sort_none none 0 _ X.w).mono ?_
  rintro e' w' ⟨rfl,rfl⟩
  refine fin X.w rfl rfl rfl (Nat.le_refl _) (fun _ _ _=>rfl) ?_
  exact (List.mergeSort_nil:sortL []=[])
 | big b c m=>exact (ho:False).elim
 | «at» b c=>
  obtain ⟨cs,tail,h1,h2,h3,h4⟩:=ho
  have hcs:cs=flatC L:=flat_cl.1 h2
  subst hcs
  have hb:b<X.w.heap.size:=Zi9 h1
  show Calls _ _ #[.slice (some ⟨b,0,none⟩) L.length c,.func (.func fCmp) #[] #[]] _ _
  refine (sort_calls b c L X.w (holds_row h1) hb hlen hn).mono ?_
  rintro e' w' ⟨rfl,n,os,rfl⟩
  obtain ⟨f1,f2,f3,f4,f5,f6⟩:=sortWorld_facts (n:=n) (os:=os) hlS h1
  refine fin _ f3 f4 f5 f6 (fun k hk hne=>f2 k hk hne) ?_
  exact ⟨flatC (sortL L),tail,f1,flat_cl.2 rfl,by rw [(flatC_length (sortL L)).trans ((congrArg (·*2) hlS).trans (flatC_length L).symm)];exact h3,Nat.le_trans (Nat.le_of_eq hlS) h4⟩
def sort_K:Kb fSort 2 laySort 0 outsSort:=⟨sortF,sort_comes⟩
end Go.Proofs.YtkcpdpplobhpaaaGreat.V
end
section
namespace Go.Proofs.YtkcpdpplobhpaaaGreat.V
open Go
theorem next_at {P:Program} (w:World) (ty:TypeId) (it bm since c0:Nat) (seen:Array Nat) (es:Array MapEntry) (clock:Nat) (hit:w.heap[it]?=some (.mapIter (some bm) since seen c0)) (hb:w.heap[bm]?=some (.map es clock))
  (hold:∀x∈es.toList,x.born<since) (hsc:since≤c0) :
  ((leftOf es seen).size=0∧(Instr.next (.pointer (some ⟨it,0,none⟩)) false ty).run P w=.ok (.tuple #[.bool false]) w) ∨
  ∃e∈(leftOf es seen).toList,∃d:Nat,(Instr.next (.pointer (some ⟨it,0,none⟩)) false ty).run P w=.ok (.tuple #[.bool true,e.key,e.val]) { w with heap:=w.heap.setIfInBounds it (.mapIter (some bm) since (seen.push e.born) clock),drawn:=d }:=by
 simp only [Instr.next,getObj,Sem.run_bind,Sem.run,hit,hb,Result.andThen,next_test_false seen es since c0 hold hsc,Bool.false_eq_true,if_false]
 unfold leftOf
 have hmem:∀x∈(Array.filter (fun e=>!seen.contains e.born) es).toList,x.born<since:=fun x hx=>hold x (by simp at hx ⊢;exact hx.1)
 generalize Array.filter (fun e=>!seen.contains e.born) es=L at hmem ⊢
 have e1:L.filter (fun x=>decide (x.born<since))=L:=Array.filter_eq_self.2 (fun x hx=>by simpa using hmem x (by simpa using hx))
 have e2:L.filter (fun x=>decide (x.born≥since))=#[]:=by
  rw [Array.filter_eq_empty_iff]
  intro x hx
  have:=hmem x (by simpa using hx)
  simp
  omega
 simp only [e1,e2,Array.append_empty]
 by_cases h0:L.size=0
 ·left
  have:L=#[]:=Array.eq_empty_of_size_eq_zero h0
  subst this
  refine ⟨rfl,?_⟩
  simp [choose,Sem.run,Question.forced]
 ·right
  have hne:L.isEmpty=false:=by simp [Array.isEmpty,h0]
  simp only [hne,Bool.false_eq_true,if_false,Array.empty_append,Array.size_map]
  have hch:∃(j:Nat) (d:Nat),j<L.size∧(choose (Question.mapNext L.size)).run P w=.ok j { w with drawn:=d }:=by
   by_cases hf:L.size≤1
   ·exact ⟨0,w.drawn,by omega,by simp [choose,Sem.run,Question.forced,hf]⟩
   ·exact ⟨w.tape w.drawn (Question.mapNext L.size) % L.size,w.drawn+1,Nat.mod_lt _ (by omega),by
     simp only [choose,Sem.run,Question.forced,decide_eq_true_eq,hf,if_false,Question.cut]⟩
  obtain ⟨j,d,hj,hrun⟩:=hch
  refine ⟨L[j],by simp,d,?_⟩
  have hset:∀o':Obj,(setObj it o').run P { w with drawn:=d }=.ok () { w with heap:=w.heap.setIfInBounds it o',drawn:=d }:=fun o'=>by
   simp only [setObj,Sem.run]
   have:({ w with drawn:=d }:World).heap[it]?=some (.mapIter (some bm) since seen c0):=hit
   rw [this]
  simp only [hrun,Array.getElem?_map,Array.getElem?_eq_getElem hj,Option.map_some,Sem.run_bind,hset,Result.andThen]
  rfl
theorem entry_at {P:Program} (w:World) (it bm since:Nat) (seen:Array Nat) (es:Array MapEntry) (clock:Nat) (e:MapEntry) (hit:w.heap[it]?=some (.mapIter (some bm) since (seen.push e.born) clock)) (hb:w.heap[bm]?=some (.map es clock)) (he:e∈es.toList) (hn:(es.toList.map (·.born)).Nodup) :
  (Instr.entry (.pointer (some ⟨it,0,none⟩))).run P w=.ok (.tuple #[e.key,e.val]) w:=by
 have hf:es.find? (·.born == e.born)=some e:=by rw [←Array.find?_toList];exact find_born e es.toList hn he
 simp only [Instr.entry,getObj,Sem.run_bind,Sem.run,hit,hb,Result.andThen,Array.back?_push,bne_self_eq_false,Bool.false_eq_true,if_false,hf]
 rfl
end Go.Proofs.YtkcpdpplobhpaaaGreat.V
end
section
namespace Go.Proofs.YtkcpdpplobhpaaaGreat.V
open Go Go.RowKit
open Go.Proofs.YtkcpdpplobhpaaaGreat.Ev (Tr Tr.Zao nth Zcg Ex)
set_option maxRecDepth 1000000
noncomputable abbrev pP:Program:=Tryz.prog
noncomputable abbrev shP:TypeId→Option Sh:=shOf Tryz.prog 20
noncomputable abbrev tyC:TypeId:=137
noncomputable def cl (K:KN) {R:Type}:CallK R:=callK pP shP K.kn (envT e0.l) 1
noncomputable def rk (K:KN) {R:Type} (c:Code) (st:St) (k:Ex→St→Option R):Option R:=runK pP shP (cl K) (tab0 R) 26 c st k
noncomputable def re (K:KN) {R:Type} (ops:Array Oper) (l:List Oper) (st:St) (k:St→Option R):Option R:=Za5i pP shP (cl K) 26 ops l st k
theorem cl_ok (K:KN) {R:Type}:ClOk pP (cl (R:=R) K):=Zvt Zac K.ok (Zak e0.h) 1
noncomputable def Tk (c:Code) (st:St) (e:Ex) (st':St):Prop:=∀X a,HRel X→RF X 26 st a→∀Q:Exit→Act→World→Prop,(∀X' a',RF X' 26 st' a'→SExt X X'→Q e.to a' X'.w)→c.wp pP Q a X.w
theorem rk_ok (K:KN) {R:Type} {c:Code} (hl:Zgw c=[]) {st:St} {k:Ex→St→Option R} {r:R} (h:rk K c st k=some r):∃e st',k e st'=some r∧Tk c st e st':=by
 obtain ⟨e,st',h1,h2⟩:=Zzd (G:=fun _=>True) (base:=st.h.next) Zac (cl_ok K) c (by rw [hl];intro x hx;cases hx) st k r h
 exact ⟨e,st',h1,fun X a H RR Q hQ=>h2 X X a ⟨by rw [RR.h],trivial⟩ H (SExt.refl X) RR Q hQ⟩
theorem re_ok (K:KN) {R:Type} {ops:Array Oper}:∀(l:List Oper) (j:Nat) (st:St) (k:St→Option R) (r:R),re K ops l st k=some r→(∀i,i<l.length→l[i]?=ops[j+i]?) →
  ∃st',k st'=some r∧∀X a,RF X 26 st a→∀(m:Nat) (Q:Exit→Act→World→Prop),(∀X' a',RF X' 26 st' a'→SExt X X'→wpOps pP ops Q (List.range' (j+l.length) m) a' X'.w)→wpOps pP ops Q (List.range' j (l.length+m)) a X.w
 | [],j,st,k,r,e,_=>⟨st,e,fun X a RR m Q hQ=>by simpa using hQ X a RR (SExt.refl X)⟩
 | o :: l,j,st,k,r,e,hl=>by
  unfold re at e
  simp only [Za5i] at e
  obtain ⟨st₁,e,S⟩:=Za6h (cl_ok K) e (i:=j) (by have:=hl 0 (by simp);simpa using this.symm)
  obtain ⟨st',hk,rest⟩:=re_ok K l (j+1) st₁ k r e (by
   intro i hi
   have:=hl (i+1) (by simpa using hi)
   simp only [List.getElem?_cons_succ] at this
   rw [this];congr 1;omega)
  refine ⟨st',hk,?_⟩
  intro X a RR m Q hQ
  rw [List.length_cons,show l.length+1+m=(l.length+m)+1 by omega,List.range'_succ,wpOps_cons]
  refine S X a RR _ _ ?_
  intro X' a' R' E'
  refine rest X' a' R' m Q ?_
  intro X'' a'' R'' E''
  have:=hQ X'' a'' R'' (E'.trans E'')
  rw [List.length_cons,show j+(l.length+1)=j+1+l.length by omega] at this
  exact this
theorem op_do {ops:Array Oper} {i m:Nat} {o:Oper} {a:Act} {w w':World} {V:Value} {Q:Exit→Act→World→Prop} (ho:ops[i]?=some o) (hg:o.guard=none) (hr:(execOp a.eval o).run pP w=.ok (.value V) w') (h:wpOps pP ops Q (List.range' (i+1) m) (a.put o.dst V) w') :
  wpOps pP ops Q (List.range' i (m+1)) a w:=by
 rw [List.range'_succ,wpOps_cons]
 unfold wpOp
 rw [ho]
 have hw:Region.wanted o (yielded ops a.tmps)=true:=by unfold Region.wanted;rw [hg]
 simp only [hw,if_true]
 left
 unfold Oper.wp
 rw [hr]
 exact h
noncomputable def qL:Code→Code | .seq a _=>a | c=>c
noncomputable def qR:Code→Code | .seq _ b=>b | c=>c
noncomputable def qB:Code→Code | .block _ b=>b | .loop b=>b | c=>c
noncomputable def qO:Code→Array Oper | .region _ o _=>o | _=>#[]
noncomputable abbrev cC:Code:=Zaa Tryz.f83
noncomputable def cA:Code:=qL cC
noncomputable def cB:Code:=qL (qR cC)
noncomputable def o3:Array Oper:=qO (qL (qL (qR (qR cC))))
noncomputable def cBody:Code:=qB (qB (qR (qL (qR (qR cC)))))
noncomputable def cEnd:Code:=qR (qR (qR cC))
noncomputable def o4:Array Oper:=qO (qL cBody)
noncomputable def o5:Array Oper:=qO (qL (qB (qR (qR cBody))))
noncomputable def c6:Code:=qR (qB (qR (qR cBody)))
theorem shC:cC=.seq cA (.seq cB (.seq (.seq (.region 3 o3 false) (.block 0 (.loop cBody))) cEnd)):=by kernel_rfl
theorem shB:cBody=.seq (.region 4 o4 false) (.seq (.cond (.tmp 13) .skip (.exit 0)) (.block 1 (.seq (.region 5 o5 false) c6))):=by kernel_rfl
noncomputable def tl4:List Oper:=o4.toList.drop 1
noncomputable def tl5:List Oper:=o5.toList.drop 1
noncomputable def TA:Tr AV:=.node (some (.ptr 0 0)) .nil .nil
noncomputable def hpL (a b:Int) (M:List ClT):Hp:=⟨.node (some (.cells [.int .i64 a,.int .i64 b,.mp 1] 220)) (.node (some (.map .u64 (.int .u64) M)) .nil .nil) .nil,2⟩
noncomputable def TL0:Tr AV:=.node none (.node none (.node none .nil (.node (some (.ptr 0 0)) .nil .nil)) .nil) (.node (some (.hd 1 Za3)) .nil .nil)
noncomputable def hL (N:List ClT):Hp:=⟨.node none (.node (some (.arr Za3 N tyC)) .nil .nil) .nil,2⟩
noncomputable def kE {R:Type} (f:List ClT→Option R) (e:Ex) (st:St):Option R:=match e,Zea pP st Tryz.f83.results.toList with
 | .ret,some [.hd j _]=>match st.h.tr.get j with
  | some (.arr σ L t)=>match h:σ.eqv Za3,Nat.beq t tyC with
   | true,true=>f (castL h L)
   | _,_=>none
  | _=>none
 | _,_=>none
noncomputable def kN {R:Type} (f:List ClT→Option R) (e:Ex) (st:St):Option R:=match e,st.T.get 2,st.T.get 11 with
 | .normal,some (.hd j _),some (.ptr 0 0)=>match st.h.tr.get j with
  | some (.arr σ L t)=>match h:σ.eqv Za3,Nat.beq t tyC with
   | true,true=>f (castL h L)
   | _,_=>none
  | _=>none
 | _,_,_=>none
noncomputable def kT (k v:Int) (st:St):Option (List ClT):=match st.T.get 13,st.T.get 11 with
 | some (.bool true),some (.ptr 0 0)=>match setT 26 st.T (some 14) (.tup [.int .u64 k,.int .u64 v]) with
  | some T=>re k0 o5 tl5 ⟨T,st.h⟩ fun st=>rk k0 c6 st (kN some)
  | none=>none
 | _,_=>none
noncomputable def kF (K:Kb fSort 2 laySort 0 outsSort) (st:St):Option (List ClT):=match st.T.get 13 with
 | some (.bool false)=>rk (kB K k0) cEnd st (kE some)
 | _=>none
noncomputable def g4 (N:List ClT) (v:AV) (K:KN) (k:St→Option (List ClT)):Option (List ClT):=match setT 26 TL0 (some 12) v with
 | some T=>re K o4 tl4 ⟨T,hL N⟩ k
 | none=>none
noncomputable def kA1 (st:St):Option Hp:=match st.T.get 2,st.T.get 10 with
 | some .nils,some (.mp 1)=>some st.h
 | _,_=>none
noncomputable def kA (e:Ex) (st:St):Option Hp:=match e with
 | .normal=>re k0 o3 (o3.toList.take 4) st kA1
 | _=>none
theorem eqA (a b:Int) (M:List ClT):rk k0 cA ⟨TA,hpL a b M⟩ (fun e st=>match e with | .normal=>rk k0 cB st kA | _=>none)=some (hpL a b M):=by kernel_rfl
theorem eqT (N:List ClT) (k v:Int):g4 N (.tup [.bool true,.int .u64 k,.int .u64 v]) k0 (kT k v)=chk (room 16 (List.length (N++[(k,(v,()))]))) (some (N++[(k,(v,()))])):=by kernel_rfl
theorem eqF (N:List ClT) (K:Kb fSort 2 laySort 0 outsSort):g4 N (.tup [.bool false]) (kB K k0) (kF K)=bnd (K.F (N,())) fun o=>some o.1:=by kernel_rfl
theorem ops3:∃o,o3[4]?=some o∧o.guard=none∧o.dst=some 11∧o.op=.range 218 (.tmp 10):=⟨_,rfl,rfl,rfl,rfl⟩
theorem ops4:∃o,o4[0]?=some o∧o.guard=none∧o.dst=some 12∧o.op=.next (.tmp 11) false:=⟨_,rfl,rfl,rfl,rfl⟩
theorem ops5:∃o,o5[0]?=some o∧o.guard=none∧o.dst=some 14∧o.op=.entry (.tmp 11):=⟨_,rfl,rfl,rfl,rfl⟩
theorem leaf2 {α:Type} (o:α) (j:Nat):(Tr.node none (.node (some o) .nil .nil) .nil).get j=if j=1 then some o else none:=by
 rcases j with _ | _ | j
 ·rfl
 ·rfl
 ·rw [if_neg (by omega)]
  simp only [Tr.get]
  split
  ·rename_i h
   have h:=Nat.eq_of_beq_eq_true h
   obtain ⟨m,hm⟩:∃m,(j+1) / 2=m+1:=⟨(j+1) / 2 - 1,by omega⟩
   rw [hm]
   simp only []
   split<;>rfl
  ·rfl
theorem TL0_get (t:Nat) (v:AV) (h:TL0.get t=some v):(t=2∧v=.hd 1 Za3)∨(t=11∧v=.ptr 0 0):=by
 have h1:Tr.set FT (Tr.node none .nil (.node (some (AV.hd 1 Za3)) .nil .nil)) 11 (some (.ptr 0 0))=some TL0:=by kernel_rfl
 have h2:Tr.set FT (Tr.nil:Tr AV) 2 (some (.hd 1 Za3))=some (Tr.node none .nil (.node (some (AV.hd 1 Za3)) .nil .nil)):=by kernel_rfl
 rw [Tr.Zao _ _ _ _ _ h1 t] at h
 by_cases q:t=11
 ·rw [if_pos q] at h
  exact .inr ⟨q,(Option.some.inj h).symm⟩
 ·rw [if_neg q,Tr.Zao _ _ _ _ _ h2 t] at h
  by_cases q2:t=2
  ·rw [if_pos q2] at h
   exact .inl ⟨q2,(Option.some.inj h).symm⟩
  ·rw [if_neg q2] at h
   cases h
theorem hL_get (N:List ClT) (j:Nat):(hL N).tr.get j=if j=1 then some (.arr Za3 N tyC) else none:=leaf2 _ j
def eDat (e:MapEntry):ClT:=((match e.key with | .int _ n=>n | _=>0),((match e.val with | .int _ n=>n | _=>0),()))
theorem ents_dat {w:World} {A:Nat→Prop}:∀{es:List MapEntry} {N:MapT (.int .u64)},Zhv w A .u64 (.int .u64) es N→es.map eDat=N∧∀e∈es,e.key=.int .u64 (eDat e).1∧e.val=.int .u64 (eDat e).2.1
 | [],N,h=>⟨(show N=[] from h).symm,fun e he=>by cases he⟩
 | e :: es,N,h=>by
  cases N with
  | nil=>exact h.elim
  | cons p N=>
   obtain ⟨h1,h2,h3⟩:=h
   obtain ⟨g1,g2⟩:=ents_dat h3
   obtain ⟨q1,q2⟩:=h2
   have hv:e.val=.int .u64 p.2.1:=by
    have q1:e.val.cells.toList=[.int .u64 p.2.1]:=q1
    have hc:e.val.cells=#[e.val]:=by
     cases hx:e.val<;>first | rfl | (rw [hx] at q2;cases q2)
    rw [hc] at q1
    exact (List.cons.inj q1).1
   have he:eDat e=p:=by unfold eDat;rw [h1,hv];rfl
   refine ⟨?_,?_⟩
   ·rw [List.map_cons,g1,he];rfl
   ·intro x hx
    rcases List.mem_cons.1 hx with rfl | hx
    ·rw [he];exact ⟨h1,hv⟩
    ·exact g2 x hx
def got (es:List MapEntry) (seen:Array Nat):List ClT:=(es.filter (fun e=>seen.contains e.born)).map eDat
theorem got_none (es:List MapEntry):got es #[]=[]:=by
 unfold got
 rw [List.filter_eq_nil_iff.2 (by intro x _;simp)];rfl
theorem got_push {seen:Array Nat} {e:MapEntry} (hs:seen.contains e.born=false):∀{es:List MapEntry},es.Pairwise (fun e f=>e.born≠f.born)→e∈es→(got es (seen.push e.born)).Perm (got es seen++[eDat e])
 | x :: l,hp,he=>by
  obtain ⟨p1,p2⟩:=List.pairwise_cons.1 hp
  rcases List.mem_cons.1 he with rfl | hl
  ·have hsame:l.filter (fun y=>(seen.push e.born).contains y.born)=l.filter (fun y=>seen.contains y.born):=by
    refine List.filter_congr fun y hy=>?_
    rw [contains_push]
    have:(y.born == e.born)=false:=by
     cases hc:y.born == e.born with
     | false=>rfl
     | true=>exact absurd (beq_iff_eq.1 hc).symm (p1 y hy)
    rw [this,Bool.or_false]
   unfold got
   rw [List.filter_cons_of_pos (by rw [contains_push];simp),List.filter_cons_of_neg (by rw [hs];decide),hsame,List.map_cons]
   exact (List.perm_append_singleton _ _).symm
  ·have ih:=got_push hs p2 hl
   have hx:(x.born == e.born)=false:=by
    cases hc:x.born == e.born with
    | false=>rfl
    | true=>exact absurd (beq_iff_eq.1 hc) (p1 e hl)
   unfold got at ih ⊢
   by_cases q:seen.contains x.born=true
   ·rw [List.filter_cons_of_pos (by rw [contains_push,hx,q];rfl),List.filter_cons_of_pos (p:=fun e:MapEntry=>seen.contains e.born) q,List.map_cons,List.map_cons,List.cons_append]
    exact ih.cons _
   ·rw [List.filter_cons_of_neg (by rw [contains_push,hx,Bool.or_false];exact q),List.filter_cons_of_neg (p:=fun e:MapEntry=>seen.contains e.born) q]
    exact ih
theorem got_all {es:Array MapEntry} {seen:Array Nat} (h:(leftOf es seen).size=0):got es.toList seen=es.toList.map eDat:=by
 unfold got
 rw [List.filter_eq_self.2 (fun x hx=>all_seen es seen h x hx)]
section
variable {X₂:Cx} {bm it clk:Nat} {es:Array MapEntry} {x:Nat}
structure LI (X₂:Cx) (x bm it clk:Nat) (es:Array MapEntry) (N:List ClT) (seen:Array Nat) (W:Cx) (a:Act):Prop where
 rf:RF W 26 ⟨TL0,hL N⟩ a
 s0:W.s 0=some (.at it 0)
 A:W.A=fun b=>X₂.A b∨b=x∨b=bm∨b=it
 os:W.w.os=X₂.w.os
 tape:W.w.tape=X₂.w.tape
 out:W.w.output=X₂.w.output
 old:∀b,b<X₂.w.heap.size→W.w.heap[b]?=X₂.w.heap[b]?
 iter:W.w.heap[it]?=some (.mapIter (some bm) clk seen clk)
 img:∀b,W.img b→it<b
 perm:N.Perm (got es.toList seen)
structure LX (X₂:Cx) (x bm it:Nat) (W:Cx) (st:St) (a:Act):Prop where
 rf:RF W 26 st a
 A:W.A=fun b=>X₂.A b∨b=x∨b=bm∨b=it
 os:W.w.os=X₂.w.os
 tape:W.w.tape=X₂.w.tape
 out:W.w.output=X₂.w.output
 old:∀b,b<X₂.w.heap.size→W.w.heap[b]?=X₂.w.heap[b]?
 img:∀b,W.img b→it<b
 big:it<W.w.heap.size
theorem setT_some {T:Tr AV} {t:Tmp} {v:AV} {R:Type} {f:Tr AV→Option R} {r:R} (h:(match setT 26 T (some t) v with | some T=>f T | none=>none)=some r):∃T',setT 26 T (some t) v=some T'∧f T'=some r:=by
 split at h
 ·rename_i T' hT;exact ⟨T',hT,h⟩
 ·cases h
theorem g4_some {N:List ClT} {v:AV} {K:KN} {k:St→Option (List ClT)} {r:List ClT} (h:g4 N v K k=some r):∃T,setT 26 TL0 (some 12) v=some T∧re K o4 tl4 ⟨T,hL N⟩ k=some r:=by
 unfold g4 at h
 split at h
 ·rename_i T' hT;exact ⟨T',hT,h⟩
 ·cases h
theorem tup1 {W:Cx} {u:AV} {V:Value} (h:Rel W u V):Rel W (.tup [u]) (.tuple #[V]):=⟨[V],rfl,V,[],rfl,h,rfl⟩
theorem tup2 {W:Cx} {u u':AV} {V V':Value} (h:Rel W u V) (h':Rel W u' V'):Rel W (.tup [u,u']) (.tuple #[V,V']):=⟨[V,V'],rfl,V,[V'],rfl,h,V',[],rfl,h',rfl⟩
theorem tup3 {W:Cx} {u u' u'':AV} {V V' V'':Value} (h:Rel W u V) (h':Rel W u' V') (h'':Rel W u'' V''):Rel W (.tup [u,u',u'']) (.tuple #[V,V',V'']):=⟨[V,V',V''],rfl,V,[V',V''],rfl,h,V',[V''],rfl,h',V'',[],rfl,h'',rfl⟩
theorem ptr_eval {W:Cx} {T:Tr AV} {a:Act} {it:Nat} (R:TRel W 26 T a) (h:T.get 11=some (.ptr 0 0)) (s0:W.s 0=some (.at it 0)):a.eval (.tmp 11)=.pointer (some ⟨it,0,none⟩):=by
 obtain ⟨y,c,h1,h2⟩:=Za5f R (c:=.tmp 11) (v:=.ptr 0 0) h
 rw [s0] at h1
 cases h1
 exact h2
theorem kN_some {e:Ex} {st:St} {N':List ClT} (h:kN some e st=some N'):e=.normal∧st.T.get 11=some (.ptr 0 0)∧∃j τ,st.T.get 2=some (.hd j τ)∧st.h.tr.get j=some (.arr Za3 N' tyC):=by
 unfold kN at h
 split at h<;>try cases h
 rename_i j τ h2 h11
 split at h<;>try cases h
 rename_i σ L t hg
 split at h<;>try cases h
 rename_i he ht
 have ht:=Nat.eq_of_beq_eq_true ht
 subst ht
 obtain rfl:=Sh.Zhz he
 exact ⟨rfl,h11,j,τ,h2,hg⟩
theorem kE_some {e:Ex} {st:St} {N':List ClT} (h:kE some e st=some N'):e=.ret∧∃j τ,Zea pP st Tryz.f83.results.toList=some [.hd j τ]∧st.h.tr.get j=some (.arr Za3 N' tyC):=by
 unfold kE at h
 split at h<;>try cases h
 rename_i j τ hr
 split at h<;>try cases h
 rename_i σ L t hg
 split at h<;>try cases h
 rename_i he ht
 have ht:=Nat.eq_of_beq_eq_true ht
 subst ht
 obtain rfl:=Sh.Zhz he
 exact ⟨rfl,j,τ,hr,hg⟩
theorem kF_some {st:St} {N':List ClT} (h:kF sort_K st=some N'):st.T.get 13=some (.bool false)∧rk (kB sort_K k0) cEnd st (kE some)=some N':=by
 unfold kF at h
 split at h<;>try cases h
 rename_i h13
 exact ⟨h13,h⟩
theorem kT_some {k v:Int} {st:St} {N':List ClT} (h:kT k v st=some N'):st.T.get 13=some (.bool true)∧st.T.get 11=some (.ptr 0 0)∧∃T,setT 26 st.T (some 14) (.tup [.int .u64 k,.int .u64 v])=some T∧re k0 o5 tl5 ⟨T,st.h⟩ (fun st=>rk k0 c6 st (kN some))=some N':=by
 unfold kT at h
 split at h<;>try cases h
 rename_i h13 h11
 exact ⟨h13,h11,setT_some h⟩
theorem r4:List.range o4.size=List.range' 0 (1+1):=by kernel_rfl
theorem r5:List.range o5.size=List.range' 0 (4+1):=by kernel_rfl
theorem t4 (i:Nat) (hi:i<tl4.length):tl4[i]?=o4[1+i]?:=by
 have:tl4.length=1:=by kernel_rfl
 have h0:tl4[0]?=o4[1]?:=by kernel_rfl
 obtain rfl:i=0:=by omega
 exact h0
theorem t5 (i:Nat) (hi:i<tl5.length):tl5[i]?=o5[1+i]?:=by
 have:tl5.length=4:=by kernel_rfl
 have h0:tl5[0]?=o5[1]?:=by kernel_rfl
 have h1:tl5[1]?=o5[2]?:=by kernel_rfl
 have h2:tl5[2]?=o5[3]?:=by kernel_rfl
 have h3:tl5[3]?=o5[4]?:=by kernel_rfl
 rcases i with _ | _ | _ | _ | i
 ·exact h0
 ·exact h1
 ·exact h2
 ·exact h3
 ·omega
theorem next_run {a:Act} {o:Oper} {w w':World} {V:Value} {it:Nat} (hop:o.op=.next (.tmp 11) false) (hev:a.eval (.tmp 11)=.pointer (some ⟨it,0,none⟩)) (h:(Instr.next (.pointer (some ⟨it,0,none⟩)) false o.type).run pP w=.ok V w'):(execOp a.eval o).run pP w=.ok (.value V) w':=by
 simp only [execOp,hop,hev,Sem.run_bind,h,Result.andThen_ok,Sem.run_pure]
theorem entry_run {a:Act} {o:Oper} {w w':World} {V:Value} {it:Nat} (hop:o.op=.entry (.tmp 11)) (hev:a.eval (.tmp 11)=.pointer (some ⟨it,0,none⟩)) (h:(Instr.entry (.pointer (some ⟨it,0,none⟩))).run pP w=.ok V w'):(execOp a.eval o).run pP w=.ok (.value V) w':=by
 simp only [execOp,hop,hev,Sem.run_bind,h,Result.andThen_ok,Sem.run_pure]
theorem rounds_ok (hb:X₂.w.heap[bm]?=some (.map es clk)) (hit:it=X₂.w.heap.size) (hst:∀e∈es.toList,e.born<clk) (hnd:es.toList.Pairwise (fun e f=>e.born≠f.born)) (hdat:∀e∈es.toList,e.key=.int .u64 (eDat e).1∧e.val=.int .u64 (eDat e).2.1) (hlen:es.size≤1000000)
  (hkey:((es.toList.map eDat).map (fun p=>p.1)).Nodup) {Q:Exit→Act→World→Prop} (hQ:∀N W st a,N.Perm (es.toList.map eDat)→LX X₂ x bm it W st a→rk (kB sort_K k0) cEnd st (kE some)=some (sortL N)→Q (.exit 0) a W.w) :
  ∀(m:Nat) (N:List ClT) (seen:Array Nat) (W:Cx) (a:Act),LI X₂ x bm it clk es N seen W a→(leftOf es seen).size<m→Code.rounds pP cBody Q m a W.w:=by
 have hbm:bm<X₂.w.heap.size:=Zi9 hb
 intro m
 induction m with
 | zero=>intro N seen W a L h;omega
 | succ m ih=>
  intro N seen W a L hm
  have hitW:it<W.w.heap.size:=Zi9 L.iter
  have hb':W.w.heap[bm]?=some (.map es clk):=(L.old bm hbm).trans hb
  have hev:=ptr_eval L.rf.T (by rfl) L.s0
  have hNl:N.length≤1000000:=by
   rw [L.perm.length_eq]
   unfold got
   rw [List.length_map]
   exact Nat.le_trans (List.length_filter_le _ _) (by rw [Array.length_toList];exact hlen)
  rw [rounds_succ,shB]
  refine wp_seq (wp_region ?_)
  rw [r4]
  obtain ⟨o,ho,hg,hd,hop⟩:=ops4
  rcases next_at (P:=pP) W.w o.type it bm clk clk seen es clk L.iter hb' hst (Nat.le_refl _) with ⟨hz,hrun⟩ | ⟨e,he,d,hrun⟩
  ·-- all have come
   have hall:N.Perm (es.toList.map eDat):=by have:=L.perm;rw [got_all hz] at this;exact this
   have hok:sortOk N=true:=by
    unfold sortOk
    simp only [Bool.and_eq_true,decide_eq_true_eq]
    exact ⟨((hall.map _).nodup_iff).2 hkey,hNl⟩
   have hE:g4 N (.tup [.bool false]) (kB sort_K k0) (kF sort_K)=some (sortL N):=by
    rw [eqF]
    have:sort_K.F (N,())=some (sortL N,()):=Zaj hok rfl
    exact Zba this rfl
   obtain ⟨T,hT,hre⟩:=g4_some hE
   obtain ⟨st',hk,step⟩:=re_ok (kB sort_K k0) tl4 1 _ _ _ hre t4
   obtain ⟨h13,hend⟩:=kF_some hk
   refine op_do ho hg (next_run hop hev hrun) ?_
   rw [hd]
   refine step W _ ⟨L.rf.h,L.rf.T.put (tup1 (u:=.bool false) (V:=.bool false) rfl) hT,L.rf.H⟩ 0 _ ?_
   intro X' a' R' E'
   refine wp_seq (wp_cond_false (Za5f R'.T (c:=.tmp 13) (v:=.bool false) h13) (wp_exit ?_))
   refine hQ N X' st' a' hall ⟨R',by rw [E'.A,L.A],E'.os.trans L.os,E'.tape.trans L.tape,E'.output.trans L.out,?_,?_,Nat.lt_of_lt_of_le hitW E'.size⟩ hend
   ·intro b hb2
    exact (E'.frame b (Nat.lt_of_lt_of_le (by omega) (Nat.le_of_lt hitW)) (fun q=>by have:=L.img b q;omega)).trans (L.old b hb2)
   ·intro b q
    rcases E'.img b q with q | q
    ·exact L.img b q
    ·omega
  ·-- one more
   obtain ⟨m1,m2⟩:=mem_left he
   obtain ⟨ek,ev⟩:=hdat e m1
   obtain ⟨w',hw'⟩:∃w':World,w'={ W.w with heap:=W.w.heap.setIfInBounds it (.mapIter (some bm) clk (seen.push e.born) clk),drawn:=d }:=⟨_,rfl⟩
   rw [←hw',ek,ev] at hrun
   have hget:∀b,b≠it→w'.heap[b]?=W.w.heap[b]?:=by
    intro b hne
    rw [hw']
    show (W.w.heap.setIfInBounds it _)[b]?=_
    rw [Array.getElem?_setIfInBounds,if_neg (fun q=>hne q.symm)]
   have hiter:w'.heap[it]?=some (.mapIter (some bm) clk (seen.push e.born) clk):=by
    rw [hw']
    show (W.w.heap.setIfInBounds it _)[it]?=_
    rw [Array.getElem?_setIfInBounds,if_pos rfl,if_pos hitW]
   have hsz:w'.heap.size=W.w.heap.size:=by
    rw [hw']
    show (W.w.heap.setIfInBounds it _).size=_
    rw [Array.size_setIfInBounds]
   have hitA:W.A it:=by rw [L.A];exact .inr (.inr (.inr rfl))
   have RE:RExt W { W with w:=w' }:=⟨fun _ _ h=>h,fun b o q r=>⟨(hget b (fun h=>by subst h;exact q (.inl hitA))).trans r,q⟩,fun j l n _ q=>q⟩
   have H':HRel { W with w:=w' }:=by
    refine ⟨fun i o l hi hl=>((L.rf.H).obj i o l hi hl).ext RE (fun b hb=>hget b ?_),L.rf.H.inj,L.rf.H.lt,L.rf.H.dom,?_,L.rf.H.loc⟩
    ·have:=L.img b ⟨i,o,l,hi,hl,hb⟩
     omega
    ·intro b q
     show b<w'.heap.size
     rw [hsz];exact L.rf.H.alt b q
   have hcl:got es.toList (seen.push e.born)=got es.toList (seen.push e.born):=rfl
   have hlen':List.length (N++[((eDat e).1,((eDat e).2.1,()))])≤1000001:=by rw [List.length_append];simp;omega
   have hT':g4 N (.tup [.bool true,.int .u64 (eDat e).1,.int .u64 (eDat e).2.1]) k0 (kT (eDat e).1 (eDat e).2.1)=some (N++[((eDat e).1,((eDat e).2.1,()))]):=by
    rw [eqT]
    exact Zaj (Za3a (by omega) (by omega)) rfl
   obtain ⟨T,hT,hre⟩:=g4_some hT'
   obtain ⟨st1,hk1,step1⟩:=re_ok k0 tl4 1 _ _ _ hre t4
   obtain ⟨h13,h11,T14,hT14,hre5⟩:=kT_some hk1
   refine op_do ho hg (next_run hop hev hrun) ?_
   rw [hd]
   refine step1 { W with w:=w' } _ ⟨L.rf.h,(L.rf.T.ext RE).put (tup3 (u:=.bool true) (V:=.bool true) (u':=.int .u64 (eDat e).1) (V':=.int .u64 (eDat e).1) (u'':=.int .u64 (eDat e).2.1) (V'':=.int .u64 (eDat e).2.1) rfl rfl rfl) hT,H'⟩ 0 _ ?_
   intro X1 a1 R1 E1
   have hnimg:¬Cx.img { W with w:=w' } it:=fun q=>by have:=L.img it q;omega
   have hiter1:X1.w.heap[it]?=some (.mapIter (some bm) clk (seen.push e.born) clk):=(E1.frame it (by show it<w'.heap.size;rw [hsz];exact hitW) hnimg).trans hiter
   have hold1:∀b,b<X₂.w.heap.size→X1.w.heap[b]?=X₂.w.heap[b]?:=by
    intro b hb2
    refine (E1.frame b (by show b<w'.heap.size;rw [hsz];omega) (fun q=>by have:=L.img b q;omega)).trans ?_
    exact (hget b (by omega)).trans (L.old b hb2)
   have himg1:∀b,X1.img b→it<b:=by
    intro b q
    rcases E1.img b q with q | q
    ·exact L.img b q
    ·have q:w'.heap.size≤b:=q
     omega
   have hs1:X1.s 0=some (.at it 0):=E1.sg 0 _ L.s0
   refine wp_seq (wp_cond_true (Za5f R1.T (c:=.tmp 13) (v:=.bool true) h13) (wp_skip ?_))
   refine wp_block (wp_seq (wp_region ?_))
   rw [r5]
   obtain ⟨o',ho',hg',hd',hop'⟩:=ops5
   have hev1:=ptr_eval R1.T h11 hs1
   have hent:=entry_at (P:=pP) X1.w it bm clk seen es clk e hiter1 ((hold1 bm hbm).trans hb) m1 (by
    have:=hnd
    rw [List.Nodup,List.pairwise_map]
    exact this)
   rw [ek,ev] at hent
   obtain ⟨st2,hk2,step2⟩:=re_ok k0 tl5 1 _ _ _ hre5 t5
   obtain ⟨ex,st3,hk3,Tk3⟩:=rk_ok k0 (c:=c6) (by kernel_rfl) hk2
   obtain ⟨rfl,h11',j,τ,h2',hj⟩:=kN_some hk3
   refine op_do ho' hg' (entry_run hop' hev1 hent) ?_
   rw [hd']
   refine step2 X1 _ ⟨R1.h,R1.T.put (tup2 (u:=.int .u64 (eDat e).1) (V:=.int .u64 (eDat e).1) (u':=.int .u64 (eDat e).2.1) (V':=.int .u64 (eDat e).2.1) rfl rfl) hT14,R1.H⟩ 0 _ ?_
   intro X2' a2 R2 E2
   refine Tk3 X2' a2 R2.H R2 _ ?_
   intro X3 a3 R3 E3
   have E13:=E2.trans E3
   obtain ⟨V2,b1,l,hl,hone,hsl⟩:=R3.T.get 2 _ h2'
   have hj':X3.h.tr.get j=some (.arr Za3 (N++[((eDat e).1,((eDat e).2.1,()))]) tyC):=by rw [R3.h];exact hj
   have hV2:=hsl _ (Zaf0 hj')
   obtain ⟨V11,b11,hp⟩:=R3.T.get 11 _ h11'
   have hs3:X3.s 0=some (.at it 0):=E13.sg 0 _ hs1
   obtain ⟨y,c,hp1,hp2⟩:=hp
   rw [hs3] at hp1
   cases hp1
   let W3:Cx:=⟨fun i=>if i=0 then some (.at it 0) else if i=1 then some l else none,hL (N++[((eDat e).1,((eDat e).2.1,()))]),X3.w,X3.A⟩
   have hout:∀b,W3.out b→X3.out b:=by
    rintro b (q | ⟨i,o2,l2,q1,q2,q3⟩)
    ·exact .inl q
    ·have q1:(hL (N++[((eDat e).1,((eDat e).2.1,()))])).tr.get i=some o2:=q1
     rw [hL_get] at q1
     by_cases hi:i=1
     ·subst hi
      have q2:some l=some l2:=q2
      cases q2
      exact .inr ⟨j,_,l,hj',hl,q3⟩
     ·rw [if_neg hi] at q1;cases q1
   have hobj:ORel W3 l (.arr Za3 (N++[((eDat e).1,((eDat e).2.1,()))]) tyC):=by
    have:=R3.H.obj j _ l hj' hl
    cases l with
    | nil=>exact this
    | big b c m=>exact this.elim
    | «at» b c=>
     obtain ⟨cs,tail,q1,q2,q3,q4⟩:=this
     exact ⟨cs,tail,q1,q2.mono (fun x d q=>q.keep (fun b o r s=>⟨s,fun z=>r (hout b z)⟩)),q3,q4⟩
   have hA3:X3.A=fun b=>X₂.A b∨b=x∨b=bm∨b=it:=by
    rw [E13.A,E1.A];exact L.A
   have H3:HRel W3:=by
    refine ⟨?_,?_,?_,?_,?_,?_⟩
    ·intro i o2 l2 q1 q2
     have q1:(hL (N++[((eDat e).1,((eDat e).2.1,()))])).tr.get i=some o2:=q1
     rw [hL_get] at q1
     by_cases hi:i=1
     ·subst hi
      rw [if_pos rfl] at q1
      cases q1
      have q2:some l=some l2:=q2
      cases q2
      exact hobj
     ·rw [if_neg hi] at q1;cases q1
    ·intro i i' o2 o3 l2 l3 b q1 q1' _ _ _ _
     have q1:(hL (N++[((eDat e).1,((eDat e).2.1,()))])).tr.get i=some o2:=q1
     have q1':(hL (N++[((eDat e).1,((eDat e).2.1,()))])).tr.get i'=some o3:=q1'
     rw [hL_get] at q1 q1'
     by_cases hi:i=1
     ·by_cases hi':i'=1
      ·rw [hi,hi']
      ·rw [if_neg hi'] at q1';cases q1'
     ·rw [if_neg hi] at q1;cases q1
    ·intro i o2 q1
     have q1:(hL (N++[((eDat e).1,((eDat e).2.1,()))])).tr.get i=some o2:=q1
     rw [hL_get] at q1
     by_cases hi:i=1
     ·subst hi;show 1<2;omega
     ·rw [if_neg hi] at q1;cases q1
    ·intro i l2 q
     show i<2
     rcases i with _ | _ | i
     ·omega
     ·omega
     ·have q:(if i+1+1=0 then some (Loc.at it 0) else if i+1+1=1 then some l else none)=some l2:=q
      rw [if_neg (by omega),if_neg (by omega)] at q
      cases q
    ·exact R3.H.alt
    ·intro i o2 l2 b q1 q2 q3
     have q1:(hL (N++[((eDat e).1,((eDat e).2.1,()))])).tr.get i=some o2:=q1
     rw [hL_get] at q1
     by_cases hi:i=1
     ·subst hi
      have q2:some l=some l2:=q2
      cases q2
      exact R3.H.loc j _ l b hj' hl q3
     ·rw [if_neg hi] at q1;cases q1
   have himg3:∀b,X3.img b→it<b:=by
    intro b q
    rcases E13.img b q with q | q
    ·exact himg1 b q
    ·have:=Zi9 hiter1
     omega
   refine ih (N++[((eDat e).1,((eDat e).2.1,()))]) (seen.push e.born) W3 a3 ⟨⟨rfl,⟨R3.T.size,R3.T.defers,?_⟩,H3⟩,rfl,hA3,?_,?_,?_,?_,?_,?_,?_⟩ ?_
   ·intro t v ht
    rcases TL0_get t v ht with ⟨rfl,rfl⟩ | ⟨rfl,rfl⟩
    ·refine ⟨V2,b1,l,rfl,hone,?_⟩
     intro n hn
     have hn:rowOf (hL (N++[((eDat e).1,((eDat e).2.1,()))])).tr 1=some n:=hn
     have hn2:=(Zaf0 ((hL_get (N++[((eDat e).1,((eDat e).2.1,()))]) 1).trans (if_pos rfl))).symm.trans hn
     rw [←Option.some.inj hn2]
     exact hV2
    ·exact ⟨V11,b11,it,0,rfl,hp2⟩
   ·exact E13.os.trans (E1.os.trans ((by rw [hw']:w'.os=W.w.os).trans L.os))
   ·exact E13.tape.trans (E1.tape.trans ((by rw [hw']:w'.tape=W.w.tape).trans L.tape))
   ·exact E13.output.trans (E1.output.trans ((by rw [hw']:w'.output=W.w.output).trans L.out))
   ·intro b hb2
    refine (E13.frame b ?_ (fun q=>by have:=himg1 b q;omega)).trans (hold1 b hb2)
    have:=Zi9 hiter1
    omega
   ·exact (E13.frame it (Zi9 hiter1) (fun q=>by have:=himg1 it q;omega)).trans hiter1
   ·rintro b ⟨i,o2,l2,q1,q2,q3⟩
    have q1:(hL (N++[((eDat e).1,((eDat e).2.1,()))])).tr.get i=some o2:=q1
    rw [hL_get] at q1
    by_cases hi:i=1
    ·subst hi
     have q2:some l=some l2:=q2
     cases q2
     exact himg3 b ⟨j,_,l,hj',hl,q3⟩
    ·rw [if_neg hi] at q1;cases q1
   ·exact (L.perm.append_right _).trans (got_push m2 hnd m1).symm
   ·have:=left_shrinks es seen e he
    omega
end
theorem nodup_of {M:List ClT} (h:M.Pairwise (fun p q=>p.1<q.1)):(M.map (fun p=>p.1)).Nodup:=by
 rw [List.Nodup,List.pairwise_map]
 exact h.imp (fun h=>Int.ne_of_lt h)
def cellsF (d:TL Zaxm.σs):Option (Out Zax1):=chk (decide (List.length d.2.2.1≤1000000)) (some (d.2.2.1,(d.1,(d.2.1,(d.2.2.1,())))))
theorem r3:List.range o3.size=List.range' 0 (4+1):=by kernel_rfl
theorem l3:(o3.toList.take 4).length=4:=by kernel_rfl
theorem t3 (i:Nat) (hi:i<(o3.toList.take 4).length):(o3.toList.take 4)[i]?=o3[0+i]?:=by
 rw [l3] at hi
 have h0:(o3.toList.take 4)[0]?=o3[0]?:=by kernel_rfl
 have h1:(o3.toList.take 4)[1]?=o3[1]?:=by kernel_rfl
 have h2:(o3.toList.take 4)[2]?=o3[2]?:=by kernel_rfl
 have h3:(o3.toList.take 4)[3]?=o3[3]?:=by kernel_rfl
 rcases i with _ | _ | _ | _ | i
 ·exact h0
 ·exact h1
 ·exact h2
 ·exact h3
 ·omega
theorem hpL_get (a b:Int) (M:List ClT) (j:Nat):(hpL a b M).tr.get j=if j=0 then some (.cells [.int .i64 a,.int .i64 b,.mp 1] 220) else if j=1 then some (.map .u64 (.int .u64) M) else none:=by
 rcases j with _ | _ | j
 ·rfl
 ·rfl
 ·have h1:(hpL a b M).tr.get (j+1+1)=(Tr.node none (.node (some (AObj.map .u64 (.int .u64) M)) .nil .nil) .nil).get (j+1+1):=rfl
  rw [h1,leaf2,if_neg (by omega),if_neg (by omega)]
theorem range_run {a:Act} {o:Oper} {w w':World} {V:Value} {t:TypeId} {bm:Nat} (hop:o.op=.range t (.tmp 10)) (hev:a.eval (.tmp 10)=.map (some bm)) (h:(Instr.range t (.map (some bm))).run pP w=.ok V w'):(execOp a.eval o).run pP w=.ok (.value V) w':=by
 simp only [execOp,hop,hev,Sem.run_bind,h,Result.andThen_ok,Sem.run_pure]
theorem kA_some {e:Ex} {st:St} {h:Hp} (q:kA e st=some h):e=.normal∧re k0 o3 (o3.toList.take 4) st kA1=some h:=by
 unfold kA at q
 split at q
 ·exact ⟨rfl,q⟩
 ·cases q
theorem kA1_some {st:St} {h:Hp} (q:kA1 st=some h):st.T.get 2=some .nils∧st.T.get 10=some (.mp 1)∧st.h=h:=by
 unfold kA1 at q
 split at q<;>try cases q
 rename_i h1 h2
 exact ⟨h1,h2,rfl⟩
theorem kB_some {st:St} {e:Ex} {h:Hp} (q:(match e with | .normal=>rk k0 cB st kA | _=>none)=some h):e=.normal∧rk k0 cB st kA=some h:=by
 split at q
 ·exact ⟨rfl,q⟩
 ·cases q
theorem cells_comes:Zi7 pP 83 ⟨1,Zaxm,1,Zax1,cellsF⟩:=by
 refine ⟨⟨Tryz.f83,cC,Tryz.func83,by kernel_rfl,by kernel_rfl⟩,?_⟩
 rintro ⟨a,b,M,u⟩ oo ho st e st' hput hs X vs args hX H hr hv R
 obtain ⟨hok,ho⟩:=Zv1 ho
 have hlM:M.length≤1000000:=of_decide_eq_true hok
 replace ho:some (M,(a,(b,(M,()))))=some oo:=ho
 obtain rfl:=Option.some.inj ho
 have e1:st=⟨.node (some (.ptr 0 0)) .nil .nil,hpL a b M⟩:=by
  have:Lay.put 1 Zaxm (a,(b,(M,u)))=some ⟨.node (some (.ptr 0 0)) .nil .nil,hpL a b M⟩:=by kernel_rfl
  exact Option.some.inj (hput.symm.trans this)
 subst e1
 have e2:(e,st')=(.ret,⟨.node (some (.fz Za3 M)) .nil .nil,hpL a b M⟩):=by
  have:outSt 1 Zax1 (M,(a,(b,(M,()))))=some (.ret,⟨.node (some (.fz Za3 M)) .nil .nil,hpL a b M⟩):=by kernel_rfl
  exact Option.some.inj (hs.symm.trans this)
 cases e2
 have hv':some [AV.ptr 0 0]=some vs:=hv
 cases hv'
 have hXh:X.h=hpL a b M:=hX
 have hT:initT 26 [AV.ptr 0 0] 0 .nil=some TA:=by kernel_rfl
 refine calls_of_wp (c:=cC) Tryz.func83 (by kernel_rfl) ?_
 have S0:=Zr8 H hT R
 rw [hXh] at S0
 rw [shC]
 obtain ⟨ex,st1,q1,Tk1⟩:=rk_ok k0 (c:=cA) (by kernel_rfl) (eqA a b M)
 obtain ⟨rfl,q1⟩:=kB_some q1
 obtain ⟨ex,st2,q2,Tk2⟩:=rk_ok k0 (c:=cB) (by kernel_rfl) q1
 obtain ⟨rfl,q2⟩:=kA_some q2
 obtain ⟨st3,q3,step3⟩:=re_ok k0 (o3.toList.take 4) 0 _ _ _ q2 t3
 obtain ⟨g2,g10,gh⟩:=kA1_some q3
 refine wp_seq (Tk1 X _ H S0 _ ?_)
 intro X1 a1 R1 E1
 refine wp_seq (Tk2 X1 a1 R1.H R1 _ ?_)
 intro X2 a2 R2 E2
 refine wp_seq (wp_seq (wp_region ?_))
 rw [r3,←l3]
 refine step3 X2 a2 R2 1 _ ?_
 intro Y ay RY EY
 rw [l3]
 have EXY:SExt X Y:=(E1.trans E2).trans EY
 have hYh:Y.h=hpL a b M:=RY.h.trans gh
 obtain ⟨V0,r0,rfl,⟨x,c,hs0,rfl⟩,hr0⟩:=R
 have:r0=[]:=hr0
 subst this
 have hs0Y:Y.s 0=some (.at x c):=EXY.sg 0 _ hs0
 obtain ⟨V2,v1,v2⟩:=RY.T.get 2 _ g2
 have v2:V2=.slice none 0 0:=v2
 subst v2
 have hev10:=Za5f RY.T (c:=.tmp 10) (v:=.mp 1) g10
 obtain ⟨bm,c1,hs1Y,hev⟩:=hev10
 have ho0:=RY.H.obj 0 _ _ (by rw [hYh];exact (hpL_get a b M 0).trans (if_pos rfl)) hs0Y
 have ho1:=RY.H.obj 1 _ _ (by rw [hYh];exact ((hpL_get a b M 1).trans (if_neg (by decide))).trans (if_pos rfl)) hs1Y
 obtain ⟨bx,cx,cs0,ebx,hbx,_⟩:=ho0
 cases ebx
 obtain ⟨bm',cm,es,clk,ebm,hbm,N0,hperm,hents,hsort,hst,hnd⟩:=ho1
 cases ebm
 obtain ⟨hdat1,hdat2⟩:=ents_dat hents
 have hxlt:x<Y.w.heap.size:=Zi9 hbx
 have hblt:bm<Y.w.heap.size:=Zi9 hbm
 obtain ⟨o,hoo,hg,hd,hop⟩:=ops3
 refine op_do hoo hg (range_run hop hev (run_range_map Y.w _ _ _ bm es clk Tryz.underlying218 hbm)) ?_
 rw [hd]
 let it:=Y.w.heap.size
 let A3:Nat→Prop:=fun z=>Y.A z∨z=x∨z=bm∨z=it
 let w3:World:=Y.w.alloc (.mapIter (some bm) clk #[] clk)
 let W:Cx:=⟨fun i=>if i=0 then some (.at it 0) else if i=1 then some .nil else none,hL [],w3,A3⟩
 have hsz3:w3.heap.size=Y.w.heap.size+1:=by show (Y.w.heap.push _).size=_;rw [Array.size_push]
 have hold3:∀z,z<Y.w.heap.size→w3.heap[z]?=Y.w.heap[z]?:=fun z hz=>heap_alloc_old Y.w _ hz
 have hnimg:∀z,¬W.img z:=by
  rintro z ⟨i,o2,l2,p1,p2,p3⟩
  have p1:(hL []).tr.get i=some o2:=p1
  rw [hL_get] at p1
  by_cases hi:i=1
  ·subst hi
   have p2:some Loc.nil=some l2:=p2
   cases p2
   exact p3
  ·rw [if_neg hi] at p1;cases p1
 have HW:HRel W:=by
  refine ⟨?_,?_,?_,?_,?_,?_⟩
  ·intro i o2 l2 p1 p2
   have p1:(hL []).tr.get i=some o2:=p1
   rw [hL_get] at p1
   by_cases hi:i=1
   ·subst hi
    rw [if_pos rfl] at p1
    cases p1
    have p2:some Loc.nil=some l2:=p2
    cases p2
    exact (rfl:([]:List ClT)=[])
   ·rw [if_neg hi] at p1;cases p1
  ·intro i i' o2 o3 l2 l3 z p1 p1' p2 _ p3 _
   exact absurd ⟨i,o2,l2,p1,p2,p3⟩ (hnimg z)
  ·intro i o2 p1
   have p1:(hL []).tr.get i=some o2:=p1
   rw [hL_get] at p1
   by_cases hi:i=1
   ·subst hi;show 1<2;omega
   ·rw [if_neg hi] at p1;cases p1
  ·intro i l2 q
   show i<2
   rcases i with _ | _ | i
   ·omega
   ·omega
   ·have q:(if i+1+1=0 then some (Loc.at it 0) else if i+1+1=1 then some .nil else none)=some l2:=q
    rw [if_neg (by omega),if_neg (by omega)] at q
    cases q
  ·intro z hz
   show z<w3.heap.size
   rw [hsz3]
   rcases hz with hz | rfl | rfl | rfl
   ·have:=RY.H.alt z hz;omega
   ·omega
   ·omega
   ·show Y.w.heap.size<_;omega
  ·intro i o2 l2 z p1 p2 p3
   exact absurd ⟨i,o2,l2,p1,p2,p3⟩ (hnimg z)
 have hput:∀t,t≠11→∀v,(ay.put (some 11) v).tmps[t]?=ay.tmps[t]?:=by
  intro t ht v
  unfold Act.put
  simp only []
  rw [Array.getElem?_setIfInBounds,if_neg (fun q=>ht q.symm)]
 have LI0:LI Y x bm it clk es [] #[] W (ay.put (some 11) (.pointer (some ⟨it,0,none⟩))):=by
  refine ⟨⟨rfl,⟨?_,RY.T.defers,?_⟩,HW⟩,rfl,rfl,rfl,rfl,rfl,hold3,?_,fun z hz=>absurd hz (hnimg z),?_⟩
  ·have:=RY.T.size
   unfold Act.put
   simp only []
   rw [Array.size_setIfInBounds];exact this
  ·intro t v ht
   rcases TL0_get t v ht with ⟨rfl,rfl⟩ | ⟨rfl,rfl⟩
   ·refine ⟨.slice none 0 0,(hput 2 (by decide) _).trans v1,.nil,rfl,rfl,?_⟩
    intro n hn
    have hn:rowOf (hL []).tr 1=some n:=hn
    have hn2:=(Zaf0 ((hL_get [] 1).trans (if_pos rfl))).symm.trans hn
    rw [←Option.some.inj hn2];rfl
   ·refine ⟨.pointer (some ⟨it,0,none⟩),?_,it,0,rfl,rfl⟩
    unfold Act.put
    simp only []
    rw [Array.getElem?_setIfInBounds,if_pos rfl,if_pos (by rw [RY.T.size];decide)]
  ·exact heap_alloc_new Y.w _
  ·rw [got_none]
 have hkey:((es.toList.map eDat).map (fun p=>p.1)).Nodup:=by
  rw [hdat1]
  refine ((hperm.map _).nodup_iff).2 ?_
  exact nodup_of hsort
 have hesl:es.size≤1000000:=by
  have h1:(es.toList.map eDat).length=M.length:=by rw [hdat1];exact hperm.length_eq
  rw [List.length_map,Array.length_toList] at h1
  omega
 show Code.wp pP (.block 0 (.loop cBody)) _ _ w3
 refine wp_block (wp_loop_rounds (es.size+1) ?_)
 refine rounds_ok (X₂:=Y) (x:=x) hbm rfl hst hnd hdat2 hesl hkey ?_ (es.size+1) [] #[] W _ LI0 ?_
 ·intro N Z stz az hN LZ hend
  obtain ⟨ex,st5,k5,Tk5⟩:=rk_ok (kB sort_K k0) (c:=cEnd) (by kernel_rfl) hend
  obtain ⟨rfl,j,τ,hres,hj⟩:=kE_some k5
  show Code.wp pP cEnd _ az Z.w
  refine Tk5 Z az LZ.rf.H LZ.rf _ ?_
  intro Z' az' RZ' EZ
  have hM:sortL N=M:=by
   have h1:N.Perm M:=by rw [hdat1] at hN;exact hN.trans hperm
   have hkM:(M.map (fun p=>p.1)).Nodup:=nodup_of hsort
   exact sort_one hkM ((sortL_perm N).trans h1) (List.Perm.refl M) (sortL_le N) (hsort.imp (fun h=>Int.le_of_lt h))
  rw [hM] at hj
  obtain ⟨Vs,hrun,hrel⟩:=Zsk RZ' hres
  obtain ⟨V,r,rfl,⟨l,hl,hone,hsl⟩,hr2⟩:=hrel
  have:r=[]:=hr2
  subst this
  have hj':Z'.h.tr.get j=some (.arr Za3 M tyC):=by rw [RZ'.h];exact hj
  have hV:=hsl _ (Zaf0 hj')
  have himg:∀z,Z'.img z→it<z:=by
   intro z q
   rcases EZ.img z q with q | q
   ·exact LZ.img z q
   ·have:=LZ.big;omega
  have hold:∀z,z<Y.w.heap.size→Z'.w.heap[z]?=Y.w.heap[z]?:=by
   intro z hz
   refine (EZ.frame z (by have:=LZ.big;omega) (fun q=>by have:=LZ.img z q;omega)).trans (LZ.old z hz)
  have hsize:Y.w.heap.size≤Z'.w.heap.size:=by have:=EZ.size;have:=LZ.big;omega
  let X':Cx:=⟨Y.s,hpL a b M,Z'.w,Y.A⟩
  have himgX:∀z,X'.img z↔Y.img z:=by
   intro z
   constructor
   ·rintro ⟨i,o2,l2,p1,p2,p3⟩
    exact ⟨i,o2,l2,by rw [hYh];exact p1,p2,p3⟩
   ·rintro ⟨i,o2,l2,p1,p2,p3⟩
    exact ⟨i,o2,l2,by rw [hYh] at p1;exact p1,p2,p3⟩
  have RX:RExt Y X':=by
   refine ⟨fun _ _ h=>h,?_,?_⟩
   ·intro z ob p1 p2
    refine ⟨(hold z (Zi9 p2)).trans p2,?_⟩
    rintro (q | q)
    ·exact p1 (.inl q)
    ·exact p1 (.inr ((himgX z).1 q))
   ·intro i l2 n _ q
    rw [hYh];exact q
  have HX':HRel X':=by
   refine ⟨?_,?_,?_,?_,?_,?_⟩
   ·intro i o2 l2 p1 p2
    have p1':Y.h.tr.get i=some o2:=by rw [hYh];exact p1
    exact (RY.H.obj i o2 l2 p1' p2).ext RX (fun z hz=>hold z (RY.H.Zn3 p1' p2 hz))
   ·intro i i' o2 o3 l2 l3 z p1 p1'
    exact RY.H.inj i i' o2 o3 l2 l3 z (by rw [hYh];exact p1) (by rw [hYh];exact p1')
   ·intro i o2 p1
    have:=RY.H.lt i o2 (by rw [hYh];exact p1)
    rw [hYh] at this;exact this
   ·intro i l2 p1
    have:=RY.H.dom i l2 p1
    rw [hYh] at this;exact this
   ·intro z hz
    exact Nat.lt_of_lt_of_le (RY.H.alt z hz) hsize
   ·intro i o2 l2 z p1
    exact RY.H.loc i o2 l2 z (by rw [hYh];exact p1)
  have EYX:SExt Y X':=by
   refine ⟨EZ.os.trans LZ.os,EZ.tape.trans LZ.tape,EZ.output.trans LZ.out,hsize,fun _ _ h=>h,fun _ _ _ h=>h,by rw [hYh];exact Nat.le_refl _,fun z hz _=>hold z hz,fun z hz=>.inl ((himgX z).1 hz),?_,?_,rfl⟩
   ·intro i n _ q;rw [hYh];exact q
   ·intro i _ _;rw [hYh]
  refine ⟨RZ'.T.defers,V,hrun,X',[V],rfl,rfl,rfl,HX',EXY.trans EYX,?_⟩
  intro us hus
  have hus:some [AV.fz Za3 M]=some us:=hus
  cases hus
  refine ⟨V,[],rfl,?_,rfl⟩
  have ob:=RZ'.H.obj j _ l hj' hl
  show Cs Z'.w X'.out (.sl Za3) M [V]
  have hV:V=l.slice M.length:=hV
  cases l with
  | nil=>
   have hMn:M=[]:=ob
   subst hMn
   exact ⟨none,0,0,by rw [hV];rfl,rfl,Nat.le_refl _,fun q=>absurd rfl q⟩
  | big bb cc mm=>exact (ob:False).elim
  | «at» bb cc=>
   obtain ⟨cs,tail,p1,p2,p3,p4⟩:=ob
   have hbb:it<bb:=himg bb ⟨j,_,_,hj',hl,rfl⟩
   refine ⟨some ⟨bb,0,none⟩,M.length,cc,by rw [hV];rfl,rfl,p4,fun _=>⟨bb,0,cs,rfl,?_,flat_cl.2 (flat_cl.1 p2),⟨_,_,_,p1,?_⟩⟩⟩
   ·rintro (q | q)
    ·have:=RY.H.alt bb q
     omega
    ·have:=RY.H.Za8l ((himgX bb).1 q)
     omega
   ·intro i u hu
    rw [Nat.zero_add,List.getElem?_toArray,List.getElem?_append_left (by
     rcases Nat.lt_or_ge i cs.length with q | q
     ·exact q
     ·rw [List.getElem?_eq_none q] at hu;cases hu)]
    exact hu
 ·refine Nat.lt_succ_of_le ?_
  unfold leftOf
  exact Array.size_filter_le
def nram_Ram__Cells_K:Zb9k:=⟨cellsF,cells_comes⟩
end Go.Proofs.YtkcpdpplobhpaaaGreat.V
end
section
namespace Go.Proofs.YtkcpdpplobhpaaaGreat.V
open Go Go.RowKit
set_option maxRecDepth 1000000
abbrev yRb0:List LA:=[.int .i64,.fz (.int .i64),.fz Za0,.fz (.int .i64),.fz (.int .i64),.fz (.int .i64),.fz Za1,.fz Za0,.fz Za4,.hd 1 .bool,.rhd 2]
abbrev yRb1:List (Nat×LO):=[(0,.cells yRb0 145),(1,.arr .bool 4),(2,.rams 220),(3,.cells [.hd 4 .bool,.bool] 55),(4,.arr .bool 4),(5,.arr .bool 4)]
abbrev yRb2:List (Nat×LO):=[(0,.cells yRb0 145),(1,.arr .bool 4),(2,.rams 220),(3,.cells [.hd 4 .bool] 37),(4,.arr .bool 4)]
abbrev yRb3:List (Nat×LO):=[(0,.cells lNet 27),(1,.cells [.fz .bool,.fz (.sl Za3)] 40),(2,.arr .bool 4)]
abbrev yRb4:List (Nat×LO):=[(0,.cells lNet 27),(1,.cells [.fz .bool,.fz (.sl Za3)] 40),(2,.cells [.nils,.nils] 40),(3,.cells [.hd 4 .bool,.hd 5 (.sl Za3)] 40),(4,.arr .bool 4),(5,.arr (.sl Za3) 104)]
abbrev yRb5:List (Nat×LO):=[(0,.cells yRb0 145),(1,.arr .bool 4),(2,.rams 220),(3,.arr .bool 4)]
abbrev yRb6:List (Nat×LO):=[(0,.cells yRb0 145),(1,.arr .bool 4),(2,.rams 220)]
abbrev yRb7:List (Nat×LO):=[(0,.cells lNet 27),(1,.cells [.fz .bool,.fz (.sl Za3)] 40),(2,.cells [.nils,.nils] 40),(3,.cells [.hd 4 .bool,.nils] 40),(4,.arr .bool 4)]
abbrev yRb8:List (Nat×LO):=[(0,.cells yRb0 145),(1,.arr .bool 4),(2,.rams 220),(3,.cells [.hd 4 .bool,.hd 5 (.sl Za3)] 40),(4,.arr .bool 4),(5,.arr (.sl Za3) 104)]
abbrev yRb9:Lay:={ T:=[(3,.ptr 0 0),(4,.ptr 1 0),(7,.hd 2 .bool),(10,.fz Za2),(12,.int .i64)],h:=yRb3,nx:=3 }
abbrev yRb10:List (Nat×LO):=[(0,.cells yRb0 145),(1,.arr .bool 4),(2,.rams 220),(3,.cells [.nils,.bool] 55),(4,.arr .bool 4)]
abbrev Zaf5:Lay:=yRb9
abbrev Zaei:List (Ev.Ex×Lay):=[((.exit 4),{ T:=[(7,.hd 0 .bool)],h:=[(0,.arr .bool 4)],nx:=1 })]
abbrev Zasa:=TL Zaf5.σs→Option (Out Zaei)
abbrev Zalv:=Ld 0 133 (Zb5 [2] (Zaa Tryz.f122)) Zaf5 Zaei
abbrev Zaf4:Lay:={ T:=[(3,.ptr 0 0),(4,.ptr 1 0),(7,.hd 2 .bool),(10,.fz Za2),(12,.int .i64),(13,.ptr 3 0),(14,.fz .bool),(15,.int .i64)],h:=[(0,.cells lNet 27),(1,.cells [.fz .bool,.fz (.sl Za3)] 40),(2,.arr .bool 4),(3,.cells [.bool,.int .i64,.int .i64,.fz (.int .i64),.fz (.int .i64)] 237)],nx:=4 }
abbrev Zaeh:List (Ev.Ex×Lay):=[((.exit 6),yRb9)]
abbrev Zals:=TL Zaf4.σs→Option (Out Zaeh)
abbrev Zalu:=Ld 0 133 (Zb5 [2,0] (Zaa Tryz.f122)) Zaf4 Zaeh
abbrev Zafs:Lay:={ T:=[(3,.ptr 0 0),(4,.ptr 1 0),(7,.hd 2 .bool),(9,.int .i64)],h:=yRb3,nx:=3 }
abbrev Zaf2:List (Ev.Ex×Lay):=[((.exit 2),{ T:=[(3,.ptr 0 0),(4,.ptr 1 0),(7,.hd 2 .bool)],h:=yRb3,nx:=3 })]
abbrev Zasz:=TL Zafs.σs→Option (Out Zaf2)
abbrev Zat1:=Ld 0 133 (Zb5 [1] (Zaa Tryz.f122)) Zafs Zaf2
abbrev Zaft:Lay:={ T:=[(2,.fz .bool),(3,.ptr 0 0),(4,.ptr 1 0),(7,.hd 2 .bool),(8,.int .i64)],h:=yRb3,nx:=3 }
abbrev Zaf3:List (Ev.Ex×Lay):=[((.exit 0),{ T:=[(3,.ptr 0 0),(4,.ptr 1 0),(7,.hd 2 .bool)],h:=yRb3,nx:=3 })]
abbrev Zat0:=TL Zaft.σs→Option (Out Zaf3)
abbrev Zat2:=Ld 0 133 (Zb5 [0] (Zaa Tryz.f122)) Zaft Zaf3
def Zaib (t2:List Bool) (t8 b0_0:Int) (b0_1:List Int) (b0_2:List (Sh.T Za0)) (b0_3 b0_4 b0_5:List Int) (b0_6:List (Sh.T Za1)) (b0_7:List (Sh.T Za0)) (b1_0:List Bool) (b1_1:List (List (Sh.T Za3))) (b2:List Bool):Option (TL Zaft.σs⊕Out Zaf3):=
 br (iL t8 (Int.ofNat (List.length b0_1)))
 (
  chk (inb t8 (List.length b0_1))<|
  chk (inb t8 (List.length t2))<|
  chk (inb (gt (.int .i64) b0_1 t8) (List.length b2))<|
  some (.inl (t2,((IntKind.wrap .i64 (t8+(1:Int))),(b0_0,(b0_1,(b0_2,(b0_3,(b0_4,(b0_5,(b0_6,(b0_7,(b1_0,(b1_1,((List.set b2 (Int.toNat (gt (.int .i64) b0_1 t8)) (gt .bool t2 t8)),())))))))))))))))
 (
  some (.inr (b0_0,(b0_1,(b0_2,(b0_3,(b0_4,(b0_5,(b0_6,(b0_7,(b1_0,(b1_1,(b2,())))))))))))))
def Zazl  :Zat2:=mkL (u13 Zaib) (pL k0 e0 1 l0 fun d=>by kernel_rfl)
def Zaia (t9 b0_0:Int) (b0_1:List Int) (b0_2:List (Sh.T Za0)) (b0_3 b0_4 b0_5:List Int) (b0_6:List (Sh.T Za1)) (b0_7:List (Sh.T Za0)) (b1_0:List Bool) (b1_1:List (List (Sh.T Za3))) (b2:List Bool):Option (TL Zafs.σs⊕Out Zaf2):=
 br (iL t9 (Int.ofNat (List.length b0_2)))
 (
  chk (inb t9 (List.length b0_2))<|
  chk (inb t9 (List.length b1_0))<|
  chk (inb (gt Za0 b0_2 t9).1 (List.length b2))<|
  some (.inl ((IntKind.wrap .i64 (t9+(1:Int))),(b0_0,(b0_1,(b0_2,(b0_3,(b0_4,(b0_5,(b0_6,(b0_7,(b1_0,(b1_1,((List.set b2 (Int.toNat (gt Za0 b0_2 t9).1) (gt .bool b1_0 t9)),()))))))))))))))
 (
  some (.inr (b0_0,(b0_1,(b0_2,(b0_3,(b0_4,(b0_5,(b0_6,(b0_7,(b1_0,(b1_1,(b2,())))))))))))))
def Zazk  :Zat1:=mkL (u12 Zaia) (pL k0 e0 1 l0 fun d=>by kernel_rfl)
def Zah5 (t10:List (Sh.T Za2)) (t12:Int) (t14:List Bool) (t15 b0_0:Int) (b0_1:List Int) (b0_2:List (Sh.T Za0)) (b0_3 b0_4 b0_5:List Int) (b0_6:List (Sh.T Za1)) (b0_7:List (Sh.T Za0)) (b1_0:List Bool) (b1_1:List (List (Sh.T Za3))) (b2:List Bool) (b3_0:Bool) (b3_1 b3_2:Int) (b3_3 b3_4:List Int):Option (TL Zaf4.σs⊕Out Zaeh):=
 br (iL t15 (Int.ofNat (List.length t14)))
 (
  chk (inb t15 (List.length b3_4))<|
  chk (inb t15 (List.length t14))<|
  chk (inb (gt (.int .i64) b3_4 t15) (List.length b2))<|
  some (.inl (t10,(t12,(t14,((IntKind.wrap .i64 (t15+(1:Int))),(b0_0,(b0_1,(b0_2,(b0_3,(b0_4,(b0_5,(b0_6,(b0_7,(b1_0,(b1_1,((List.set b2 (Int.toNat (gt (.int .i64) b3_4 t15)) (gt .bool t14 t15)),(b3_0,(b3_1,(b3_2,(b3_3,(b3_4,()))))))))))))))))))))))
 (
  some (.inr (t10,(t12,(b0_0,(b0_1,(b0_2,(b0_3,(b0_4,(b0_5,(b0_6,(b0_7,(b1_0,(b1_1,(b2,())))))))))))))))
def Zasb  :Zalu:=mkL (u20 Zah5) (pL k0 e0 1 l0 fun d=>by kernel_rfl)
def Zah6 (F0:Zapa) (F1:Zaqo) (F2:Zafa) (F3:Zaae) (L19:Zals) (t10:List (Sh.T Za2)) (t12 b0_0:Int) (b0_1:List Int) (b0_2:List (Sh.T Za0)) (b0_3 b0_4 b0_5:List Int) (b0_6:List (Sh.T Za1)) (b0_7:List (Sh.T Za0)) (b1_0:List Bool) (b1_1:List (List (Sh.T Za3))) (b2:List Bool):Option (TL Zaf5.σs⊕Out Zaei):=
 br (iL t12 (Int.ofNat (List.length t10)))
 (
  chk (inb t12 (List.length t10))<|
  br (Bool.not (gt Za2 t10 t12).1)
  (
   chk (inb (0:Int) (List.length (gt Za2 t10 t12).2.2.2.2.1))<|
   chk (inb (0:Int) (List.length (gt Za2 t10 t12).2.2.2.1))<|
   bnd (F3 ((gt (.int .i64) (gt Za2 t10 t12).2.2.2.1 (0:Int)),(b2,()))) fun x0=>
   br x0.1
   (
    chk (inb (1:Int) (List.length (gt Za2 t10 t12).2.2.2.1))<|
    bnd (F3 ((gt (.int .i64) (gt Za2 t10 t12).2.2.2.1 (1:Int)),(b2,()))) fun x1=>
    chk (inb (gt (.int .i64) (gt Za2 t10 t12).2.2.2.2.1 (0:Int)) (List.length b2))<|
    some (.inl (t10,((IntKind.wrap .i64 (t12+(1:Int))),(b0_0,(b0_1,(b0_2,(b0_3,(b0_4,(b0_5,(b0_6,(b0_7,(b1_0,(b1_1,((List.set b2 (Int.toNat (gt (.int .i64) (gt Za2 t10 t12).2.2.2.2.1 (0:Int))) (selB true x1.1 false)),())))))))))))))))
   (
    chk (inb (gt (.int .i64) (gt Za2 t10 t12).2.2.2.2.1 (0:Int)) (List.length b2))<|
    some (.inl (t10,((IntKind.wrap .i64 (t12+(1:Int))),(b0_0,(b0_1,(b0_2,(b0_3,(b0_4,(b0_5,(b0_6,(b0_7,(b1_0,(b1_1,((List.set b2 (Int.toNat (gt (.int .i64) (gt Za2 t10 t12).2.2.2.2.1 (0:Int))) false),()))))))))))))))))
  (
   chk (inb (gt Za2 t10 t12).2.1 (List.length b1_1))<|
   chk (inb (gt Za2 t10 t12).2.1 (List.length b0_6))<|
   bnd (F2 ((gt Za2 t10 t12).2.2.2.1,(b2,()))) fun x0=>
   bnd (F1 ((gt (.sl Za3) b1_1 (gt Za2 t10 t12).2.1),(x0.1,()))) fun x1=>
   bnd (F0 (x1.1,((gt Za1 b0_6 (gt Za2 t10 t12).2.1).2.1,()))) fun x2=>
   bnd (L19 (t10,(t12,(x2.1,((0:Int),(b0_0,(b0_1,(b0_2,(b0_3,(b0_4,(b0_5,(b0_6,(b0_7,(b1_0,(b1_1,(b2,((gt Za2 t10 t12).1,((gt Za2 t10 t12).2.1,((gt Za2 t10 t12).2.2.1,((gt Za2 t10 t12).2.2.2.1,((gt Za2 t10 t12).2.2.2.2.1,()))))))))))))))))))))) fun x3=>
   some (.inl (x3.1,((IntKind.wrap .i64 (@HAdd.hAdd (Int) (Int) (Int) _ x3.2.1 (1:Int))),x3.2.2)))))
 (
  some (.inr (b2,())))
def Zayx (c0:Zakl) (c1:Zall) (c2:Zadc) (c3:Zaa8) (M19:Zalu):Zalv:=mkL (u13 (Zah6 c0.F c1.F c2.F c3.F M19.L)) (pL (kD c0 (kD c1 (kD c2 (kD c3 k0)))) e0 1 (sC M19 l0) fun d=>by kernel_rfl)
def Zayw:Zalv:=Zayx Zapb Zaqp Zafb Zaaf Zasb
abbrev Zasy:List Sh:=[Za5,Zab,(.sl .bool)]
abbrev Zamd:List Sh:=[(.sl .bool)]
abbrev Zand:=TL Zasy→Option (TL Zamd)
abbrev Zajb:=Kd 122 Zasy Zamd
def Zanf (F0:Zapa) (F1:Zaqo) (F2:Zafa) (F3:Zaae) (F4:Zavz) (L3:Zat0) (L7:Zasz) (L12:Zasa) (L19:Zals) (a0:Sh.T Za5) (a1:Sh.T Zab) (a2:List Bool):Option (TL Zamd):=
 chk (both (iE (0:Int) (IntKind.wrap .i64 (@HAdd.hAdd (Int) (Int) (Int) _ a0.1 (1:Int)))) (both (iE (IntKind.wrap .i64 (@HAdd.hAdd (Int) (Int) (Int) _ a0.1 (1:Int))) (IntKind.wrap .i64 (@HAdd.hAdd (Int) (Int) (Int) _ a0.1 (1:Int)))) (iE ((Int.ofNat 1)*(IntKind.wrap .i64 (@HAdd.hAdd (Int) (Int) (Int) _ a0.1 (1:Int)))) (281474976710656:Int))))<|
 bnd (L3 (a2,((0:Int),(a0.1,(a0.2.1,(a0.2.2.1,(a0.2.2.2.1,(a0.2.2.2.2.1,(a0.2.2.2.2.2.1,(a0.2.2.2.2.2.2.1,(a0.2.2.2.2.2.2.2.1,(a1.1,(a1.2.1,((List.replicate (Int.toNat (IntKind.wrap .i64 (@HAdd.hAdd (Int) (Int) (Int) _ a0.1 (1:Int)))) (Sh.zero .bool)),())))))))))))))) fun x0=>
 bnd (L7 ((0:Int),x0)) fun x1=>
 bnd (F4 ((x1.1,(x1.2.1,(x1.2.2.1,(x1.2.2.2.1,(x1.2.2.2.2.1,(x1.2.2.2.2.2.1,(x1.2.2.2.2.2.2.1,(x1.2.2.2.2.2.2.2.1,())))))))),())) fun x2=>
 bnd (L12 (x2.1,((0:Int),x1))) fun x3=>
 some (x3.1,())
def Zb0l (c0:Zakl) (c1:Zall) (c2:Zadc) (c3:Zaa8) (c4:Zapf) (M3:Zat2) (M7:Zat1) (M12:Zalv) (M19:Zalu):Zajb:=⟨u3 (Zanf c0.F c1.F c2.F c3.F c4.F M3.L M7.L M12.L M19.L),pD Tryz.func122 133 (kD c0 (kD c1 (kD c2 (kD c3 (kD c4 k0))))) e0 1 (sS (sC M3 (sC M7 (sC M12 l0)))) fun d=>by kernel_rfl⟩
def Zane:Zajb:=Zb0l Zapb Zaqp Zafb Zaaf Zaw0 Zazl Zazk Zayw Zasb
def Zaaj:Zand:=Zane.F
abbrev Zaic:Lay:={ T:=[(2,.fz .bool),(3,.ptr 0 0),(4,.ptr 1 0),(6,.ptr 2 0),(7,.ptr 3 0),(9,.int .i64)],h:=yRb4,nx:=6 }
abbrev Zah7:List (Ev.Ex×Lay):=[((.exit 2),{ T:=[(6,.ptr 0 0),(7,.ptr 1 0)],h:=[(0,.cells [.nils,.nils] 40),(1,.cells [.hd 2 .bool,.hd 3 (.sl Za3)] 40),(2,.arr .bool 4),(3,.arr (.sl Za3) 104)],nx:=4 })]
abbrev Zavg:=TL Zaic.σs→Option (Out Zah7)
abbrev Zaor:=Ld 0 86 (Zb5 [1] (Zaa Tryz.f125)) Zaic Zah7
abbrev Zah9:Lay:={ T:=[(2,.fz .bool),(3,.ptr 0 0),(4,.ptr 1 0),(6,.ptr 2 0),(7,.ptr 3 0),(9,.int .i64),(10,.fz Za3),(11,.int .i64)],h:=yRb4,nx:=6 }
abbrev Zafu:List (Ev.Ex×Lay):=[((.exit 4),{ T:=[(2,.fz .bool),(3,.ptr 0 0),(4,.ptr 1 0),(6,.ptr 2 0),(7,.ptr 3 0),(9,.int .i64),(10,.fz Za3)],h:=yRb4,nx:=6 })]
abbrev Zang:=TL Zah9.σs→Option (Out Zafu)
abbrev Zajc:=Ld 0 86 (Zb5 [1,0] (Zaa Tryz.f125)) Zah9 Zafu
abbrev Zaid:Lay:={ T:=[(2,.fz .bool),(3,.ptr 0 0),(4,.ptr 1 0),(6,.ptr 2 0),(7,.ptr 3 0),(8,.int .i64)],h:=yRb7,nx:=5 }
abbrev Zah8:List (Ev.Ex×Lay):=[((.exit 0),{ T:=[(2,.fz .bool),(3,.ptr 0 0),(4,.ptr 1 0),(6,.ptr 2 0),(7,.ptr 3 0)],h:=yRb7,nx:=5 })]
abbrev Zavh:=TL Zaid.σs→Option (Out Zah8)
abbrev Zaos:=Ld 0 86 (Zb5 [0] (Zaa Tryz.f125)) Zaid Zah8
def Zakc (F2:Zaae) (t2:List Bool) (t8 b0_0:Int) (b0_1:List Int) (b0_2:List (Sh.T Za0)) (b0_3 b0_4 b0_5:List Int) (b0_6:List (Sh.T Za1)) (b0_7:List (Sh.T Za0)) (b1_0:List Bool) (b1_1:List (List (Sh.T Za3))) (b4:List Bool):Option (TL Zaid.σs⊕Out Zah8):=
 br (iL t8 (Int.ofNat (List.length b0_2)))
 (
  chk (inb t8 (List.length b0_2))<|
  bnd (F2 ((gt Za0 b0_2 t8).2.1,(t2,()))) fun x0=>
  chk (room 1 (List.length (ap b4 (x0.1 :: []))))<|
  some (.inl (t2,((IntKind.wrap .i64 (t8+(1:Int))),(b0_0,(b0_1,(b0_2,(b0_3,(b0_4,(b0_5,(b0_6,(b0_7,(b1_0,(b1_1,((ap b4 (x0.1 :: [])),())))))))))))))))
 (
  some (.inr (t2,(b0_0,(b0_1,(b0_2,(b0_3,(b0_4,(b0_5,(b0_6,(b0_7,(b1_0,(b1_1,(b4,()))))))))))))))
def Zb1m (c2:Zaa8) :Zaos:=mkL (u13 (Zakc c2.F)) (pL (kD c2 k0) e0 1 l0 fun d=>by kernel_rfl)
def Zb1k:Zaos:=Zb1m Zaaf 
def Zajd (F0:Zap0) (F1:Zafa) (F2:Zaae) (t2:List Bool) (t9:Int) (t10:List (Sh.T Za3)) (t11 b0_0:Int) (b0_1:List Int) (b0_2:List (Sh.T Za0)) (b0_3 b0_4 b0_5:List Int) (b0_6:List (Sh.T Za1)) (b0_7:List (Sh.T Za0)) (b1_0:List Bool) (b1_1:List (List (Sh.T Za3))) (b4:List Bool) (b5:List (List (Sh.T Za3))):Option (TL Zah9.σs⊕Out Zafu):=
 chk (inb t9 (List.length b0_6))<|
 br (iL t11 (Int.ofNat (List.length (gt Za1 b0_6 t9).2.2.2.2.1)))
 (
  chk (inb t9 (List.length b0_6))<|
  chk (inb t11 (List.length (gt Za1 b0_6 t9).2.2.2.2.1))<|
  bnd (F2 ((gt Zb8 (gt Za1 b0_6 t9).2.2.2.2.1 t11).1,(t2,()))) fun x0=>
  br x0.1
  (
   bnd (F1 ((gt Zb8 (gt Za1 b0_6 t9).2.2.2.2.1 t11).2.1,(t2,()))) fun x1=>
   bnd (F1 ((gt Zb8 (gt Za1 b0_6 t9).2.2.2.2.1 t11).2.2.1,(t2,()))) fun x2=>
   bnd (F0 (t10,(x1.1,(x2.1,())))) fun x3=>
   some (.inl (t2,(t9,(x3.1,((IntKind.wrap .i64 (t11+(1:Int))),(b0_0,(b0_1,(b0_2,(b0_3,(b0_4,(b0_5,(b0_6,(b0_7,(b1_0,(b1_1,(b4,(b5,()))))))))))))))))))
  (
   some (.inl (t2,(t9,(t10,((IntKind.wrap .i64 (t11+(1:Int))),(b0_0,(b0_1,(b0_2,(b0_3,(b0_4,(b0_5,(b0_6,(b0_7,(b1_0,(b1_1,(b4,(b5,())))))))))))))))))))
 (
  some (.inr (t2,(t9,(t10,(b0_0,(b0_1,(b0_2,(b0_3,(b0_4,(b0_5,(b0_6,(b0_7,(b1_0,(b1_1,(b4,(b5,())))))))))))))))))
def Zb0m (c0:Zakg) (c1:Zadc) (c2:Zaa8) :Zajc:=mkL (u16 (Zajd c0.F c1.F c2.F)) (pL (kD c0 (kD c1 (kD c2 k0))) e0 1 l0 fun d=>by kernel_rfl)
def Zauf:Zajc:=Zb0m Zap1 Zafb Zaaf 
def Zakb (L11:Zang) (t2:List Bool) (t9 b0_0:Int) (b0_1:List Int) (b0_2:List (Sh.T Za0)) (b0_3 b0_4 b0_5:List Int) (b0_6:List (Sh.T Za1)) (b0_7:List (Sh.T Za0)) (b1_0:List Bool) (b1_1:List (List (Sh.T Za3))) (b4:List Bool) (b5:List (List (Sh.T Za3))):Option (TL Zaic.σs⊕Out Zah7):=
 br (iL t9 (Int.ofNat (List.length b0_6)))
 (
  chk (inb t9 (List.length b1_1))<|
  bnd (L11 (t2,(t9,((gt (.sl Za3) b1_1 t9),((0:Int),(b0_0,(b0_1,(b0_2,(b0_3,(b0_4,(b0_5,(b0_6,(b0_7,(b1_0,(b1_1,(b4,(b5,()))))))))))))))))) fun x0=>
  chk (room 24 (List.length (ap x0.2.2.2.2.2.2.2.2.2.2.2.2.2.2.1 (x0.2.2.1 :: []))))<|
  some (.inl (x0.1,((IntKind.wrap .i64 (@HAdd.hAdd (Int) (Int) (Int) _ x0.2.1 (1:Int))),(x0.2.2.2.1,(x0.2.2.2.2.1,(x0.2.2.2.2.2.1,(x0.2.2.2.2.2.2.1,(x0.2.2.2.2.2.2.2.1,(x0.2.2.2.2.2.2.2.2.1,(x0.2.2.2.2.2.2.2.2.2.1,(x0.2.2.2.2.2.2.2.2.2.2.1,(x0.2.2.2.2.2.2.2.2.2.2.2.1,(x0.2.2.2.2.2.2.2.2.2.2.2.2.1,(x0.2.2.2.2.2.2.2.2.2.2.2.2.2.1,((ap x0.2.2.2.2.2.2.2.2.2.2.2.2.2.2.1 (x0.2.2.1 :: [])),()))))))))))))))))
 (
  some (.inr (b4,(b5,()))))
def Zb1l (M11:Zajc):Zaor:=mkL (u14 (Zakb M11.L)) (pL k0 e0 1 (sC M11 l0) fun d=>by kernel_rfl)
def Zb1j:Zaor:=Zb1l  Zauf
abbrev Zavf:List Sh:=[Za5,Zab,(.sl .bool)]
abbrev Zaoq:List Sh:=[Zab]
abbrev Zaqg:=TL Zavf→Option (TL Zaoq)
abbrev Zali:=Kd 125 Zavf Zaoq
def Zb30 (F0:Zap0) (F1:Zafa) (F2:Zaae) (L3:Zavh) (L7:Zavg) (L11:Zang) (a0:Sh.T Za5) (a1:Sh.T Zab) (a2:List Bool):Option (TL Zaoq):=
 bnd (L3 (a2,((0:Int),(a0.1,(a0.2.1,(a0.2.2.1,(a0.2.2.2.1,(a0.2.2.2.2.1,(a0.2.2.2.2.2.1,(a0.2.2.2.2.2.2.1,(a0.2.2.2.2.2.2.2.1,(a1.1,(a1.2.1,([],())))))))))))))) fun x0=>
 bnd (L7 (x0.1,((0:Int),(x0.2.1,(x0.2.2.1,(x0.2.2.2.1,(x0.2.2.2.2.1,(x0.2.2.2.2.2.1,(x0.2.2.2.2.2.2.1,(x0.2.2.2.2.2.2.2.1,(x0.2.2.2.2.2.2.2.2.1,(x0.2.2.2.2.2.2.2.2.2.1,(x0.2.2.2.2.2.2.2.2.2.2.1,(x0.2.2.2.2.2.2.2.2.2.2.2.1,([],()))))))))))))))) fun x1=>
 some (x1,())
def Zb2z (c0:Zakg) (c1:Zadc) (c2:Zaa8) (M3:Zaos) (M7:Zaor) (M11:Zajc):Zali:=⟨u3 (Zb30 c0.F c1.F c2.F M3.L M7.L M11.L),pD Tryz.func125 86 (kD c0 (kD c1 (kD c2 k0))) e0 1 (sS (sC M3 (sC M7 l0))) fun d=>by kernel_rfl⟩
def Zaqh:Zali:=Zb2z Zap1 Zafb Zaaf Zb1k Zb1j Zauf
def Zabk:Zaqg:=Zaqh.F
abbrev Zaif:Lay:={ T:=[(1,.fz .bool),(2,.ptr 0 0),(5,.hd 1 .bool),(6,.int .i64)],h:=[(0,.cells lNet 27),(1,.arr .bool 4)],nx:=2 }
abbrev Zahb:List (Ev.Ex×Lay):=[((.exit 0),{ T:=[(5,.hd 0 .bool)],h:=[(0,.arr .bool 4)],nx:=1 })]
abbrev Zavo:=TL Zaif.σs→Option (Out Zahb)
abbrev Zaoz:=Ld 0 25 (Zb5 [0] (Zaa Tryz.f124)) Zaif Zahb
def Zakf (F0:Zaae) (t1:List Bool) (t6 b0_0:Int) (b0_1:List Int) (b0_2:List (Sh.T Za0)) (b0_3 b0_4 b0_5:List Int) (b0_6:List (Sh.T Za1)) (b0_7:List (Sh.T Za0)) (b1:List Bool):Option (TL Zaif.σs⊕Out Zahb):=
 br (iL t6 (Int.ofNat (List.length b0_4)))
 (
  chk (inb t6 (List.length b0_4))<|
  bnd (F0 ((gt (.int .i64) b0_4 t6),(t1,()))) fun x0=>
  chk (room 1 (List.length (ap b1 (x0.1 :: []))))<|
  some (.inl (t1,((IntKind.wrap .i64 (t6+(1:Int))),(b0_0,(b0_1,(b0_2,(b0_3,(b0_4,(b0_5,(b0_6,(b0_7,((ap b1 (x0.1 :: [])),())))))))))))))
 (
  some (.inr (b1,())))
def Zb1q (c0:Zaa8) :Zaoz:=mkL (u11 (Zakf c0.F)) (pL (kD c0 k0) e0 1 l0 fun d=>by kernel_rfl)
def Zb1p:Zaoz:=Zb1q Zaaf 
abbrev Zavn:List Sh:=[Za5,(.sl .bool)]
abbrev Zaoy:List Sh:=[(.sl .bool)]
abbrev Zaql:=TL Zavn→Option (TL Zaoy)
abbrev Zalk:=Kd 124 Zavn Zaoy
def Zb34 (F0:Zaae) (L3:Zavo) (a0:Sh.T Za5) (a1:List Bool):Option (TL Zaoy):=
 bnd (L3 (a1,((0:Int),(a0.1,(a0.2.1,(a0.2.2.1,(a0.2.2.2.1,(a0.2.2.2.2.1,(a0.2.2.2.2.2.1,(a0.2.2.2.2.2.2.1,(a0.2.2.2.2.2.2.2.1,([],())))))))))))) fun x0=>
 some (x0.1,())
def Zb33 (c0:Zaa8) (M3:Zaoz):Zalk:=⟨u2 (Zb34 c0.F M3.L),pD Tryz.func124 25 (kD c0 k0) e0 1 (sS (sC M3 l0)) fun d=>by kernel_rfl⟩
def Zaqm:Zalk:=Zb33 Zaaf Zb1p
def Zabm:Zaql:=Zaqm.F
abbrev Zaie:Lay:={ T:=[(1,.fz .bool),(2,.ptr 0 0),(5,.int .i64)],h:=[(0,.cells lNet 27)],nx:=1 }
abbrev Zaha:List (Ev.Ex×Lay):=[(.ret,{ T:=[(4,.bool)],h:=[],nx:=0 }),((.exit 0),{ T:=[],h:=[],nx:=0 })]
abbrev Zavl:=TL Zaie.σs→Option (Out Zaha)
abbrev Zaox:=Ld 0 21 (Zb5 [0] (Zaa Tryz.f123)) Zaie Zaha
def Zagg (F0:Zaae) (t1:List Bool) (t5 b0_0:Int) (b0_1:List Int) (b0_2:List (Sh.T Za0)) (b0_3 b0_4 b0_5:List Int) (b0_6:List (Sh.T Za1)) (b0_7:List (Sh.T Za0)):Option (TL Zaie.σs⊕Out Zaha):=
 br (iL t5 (Int.ofNat (List.length b0_5)))
 (
  chk (inb t5 (List.length b0_5))<|
  bnd (F0 ((gt (.int .i64) b0_5 t5),(t1,()))) fun x0=>
  br (Bool.not x0.1)
  (
   some (.inr (.inl (false,()))))
  (
   some (.inl (t1,((IntKind.wrap .i64 (t5+(1:Int))),(b0_0,(b0_1,(b0_2,(b0_3,(b0_4,(b0_5,(b0_6,(b0_7,())))))))))))))
 (
  some (.inr (.inr ())))
def Zb1o (c0:Zaa8) :Zaox:=mkL (u10 (Zagg c0.F)) (pL (kD c0 k0) e0 1 l0 fun d=>by kernel_rfl)
def Zb1n:Zaox:=Zb1o Zaaf 
abbrev Zavk:List Sh:=[Za5,(.sl .bool)]
abbrev Zaow:List Sh:=[.bool]
abbrev Zaqj:=TL Zavk→Option (TL Zaow)
abbrev Zalj:=Kd 123 Zavk Zaow
def Zb32 (F0:Zaae) (L2:Zavl) (a0:Sh.T Za5) (a1:List Bool):Option (TL Zaow):=
 bnd (L2 (a1,((0:Int),a0))) fun x0=>
 (match x0 with
 | .inl x1=>
  some (x1.1,())
 | .inr x1=>
  some (true,())
 )
def Zb31 (c0:Zaa8) (M2:Zaox):Zalj:=⟨u2 (Zb32 c0.F M2.L),pD Tryz.func123 21 (kD c0 k0) e0 1 (sS (sC M2 l0)) fun d=>by kernel_rfl⟩
def Zaqk:Zalj:=Zb31 Zaaf Zb1n
def Zabl:Zaqj:=Zaqk.F
abbrev Zb5w:Lay:={ T:=[(0,.agg lNet),(1,.agg [.fz .bool,.fz (.sl Za3)])],h:=[],nx:=0 }
abbrev Zayi:List (Ev.Ex×Lay):=[(.ret,{ T:=[(0,.nilp),(1,.int .i64)],h:=[],nx:=0 }),(.ret,{ T:=[(0,.ptr 0 0),(1,.int .i64)],h:=yRb6,nx:=3 })]
abbrev Zb7x:=TL Zb5w.σs→Option (Out Zayi)
abbrev Zb5x:=Kb 31 2 Zb5w 2 Zayi
def Zba9 (F0:Zb69) (F1:Zb5d) (F2:Zaq7) (F3:Zaj5) (F4:Zaey) (F5:Zaxx) (t0_0:Int) (t0_1:List Int) (t0_2:List (Sh.T Za0)) (t0_3 t0_4 t0_5:List Int) (t0_6:List (Sh.T Za1)) (t0_7:List (Sh.T Za0)) (t1_0:List Bool) (t1_1:List (List (Sh.T Za3))):Option (Out Zayi):=
 bnd (F2 ((t0_0,(t0_1,(t0_2,(t0_3,(t0_4,(t0_5,(t0_6,(t0_7,())))))))),())) fun x0=>
 br (Bool.not (iQ x0.1 (0:Int)))
 (
  some (.inl (x0.1,())))
 (
  bnd (F5 (t0_0,(t0_1,(t0_2,(t0_3,(t0_4,(t0_5,(t0_6,(t0_7,(t1_0,(t1_1,()))))))))))) fun x1=>
  br (Bool.not (iQ x1.1 (0:Int)))
  (
   some (.inl (x1.1,())))
  (
   bnd (F1 ((t0_0,(t0_1,(t0_2,(t0_3,(t0_4,(t0_5,(t0_6,(t0_7,())))))))),())) fun x2=>
   bnd (F0 ((t0_0,(t0_1,(t0_2,(t0_3,(t0_4,(t0_5,(t0_6,(t0_7,())))))))),())) fun x3=>
   bnd (F4 (t1_0,())) fun x4=>
   chk (Zqo (Sh.beq Za4) x2.1 x2.1)<|
   some (.inr ((0:Int),(x3.1.1,(x3.1.2.1,(x3.1.2.2.1,(x3.1.2.2.2.1,(x3.1.2.2.2.2.1,(x3.1.2.2.2.2.2.1,(x3.1.2.2.2.2.2.2.1,(x3.1.2.2.2.2.2.2.2.1,(x2.1,(x4.1,(x1.2.1,())))))))))))))))
def Zba8 (c0:Zb46) (c1:Zb2b) (c2:Zamw) (c3:Zaj7) (c4:Zaez) (c5:Zasw) :Zb5x:=⟨u10 (Zba9 c0.F c1.F c2.F c3.F c4.F c5.F),pB Tryz.func31 39 (kD c0 (kD c1 (kD c2 (kB c3 (kB c4 (kB c5 k0)))))) e0 1 (sS l0) fun d=>by kernel_rfl⟩
def Zb7y:Zb5x:=Zba8 Zb6a Zb5e Zaq8 Zaj6 Zacy Zaxy 
def Zb4z:Zb7x:=Zb7y.F
abbrev Zash:Lay:={ T:=[(0,.ptr 0 0),(1,.fz .bool)],h:=yRb6,nx:=3 }
abbrev Zal4:List (Ev.Ex×Lay):=[(.ret,{ T:=[(0,.hd 3 .bool),(1,.int .i64)],h:=yRb5,nx:=4 })]
abbrev Zav0:=TL Zash.σs→Option (Out Zal4)
abbrev Zao5:=Kb 32 2 Zash 2 Zal4
abbrev Zafj:Lay:={ T:=[(0,.ptr 0 0),(6,.ptr 3 0),(11,.func 79 [] [.ptr 3 0]),(84,.fz Za4),(85,.int .i64),(86,.int .i64)],h:=yRb2,nx:=5 }
abbrev Zaej:List (Ev.Ex×Lay):=[((.exit 4),{ T:=[(6,.ptr 3 0)],h:=yRb2,nx:=5 })]
abbrev Zasi:=TL Zafj.σs→Option (Out Zaej)
abbrev Zam3:=Ld 3 155 (Zb5 [2] (Zaa Tryz.f32)) Zafj Zaej
abbrev Zafk:Lay:={ T:=[(0,.ptr 0 0),(6,.ptr 3 0),(60,.hd 1 .bool),(61,.int .i64),(62,.int .i64)],h:=yRb2,nx:=5 }
abbrev Zaek:List (Ev.Ex×Lay):=[((.exit 2),{ T:=[(0,.ptr 0 0),(6,.ptr 3 0)],h:=yRb2,nx:=5 })]
abbrev Zasj:=TL Zafk.σs→Option (Out Zaek)
abbrev Zask:=Ld 3 155 (Zb5 [1] (Zaa Tryz.f32)) Zafk Zaek
abbrev Zag1:Lay:={ T:=[(0,.ptr 0 0),(6,.ptr 3 0),(38,.fz .bool),(39,.int .i64),(40,.int .i64)],h:=yRb2,nx:=5 }
abbrev Zafi:List (Ev.Ex×Lay):=[((.exit 0),{ T:=[(0,.ptr 0 0),(6,.ptr 3 0)],h:=yRb2,nx:=5 })]
abbrev Zate:=TL Zag1.σs→Option (Out Zafi)
abbrev Zatg:=Ld 3 155 (Zb5 [0] (Zaa Tryz.f32)) Zag1 Zafi
def Zail (t38:List Bool) (t39 t40 b0_0:Int) (b0_1:List Int) (b0_2:List (Sh.T Za0)) (b0_3 b0_4 b0_5:List Int) (b0_6:List (Sh.T Za1)) (b0_7:List (Sh.T Za0)) (b0_8:List (Sh.T Za4)) (b1:List Bool) (b2:List (Sh.T (.agg [(.int .i64),(.int .i64),(.sl Za3)]))) (b4:List Bool):Option (TL Zag1.σs⊕Out Zafi):=
 br (iL t40 t39)
 (
  chk (inb t40 (List.length t38))<|
  chk (inb t40 (List.length b0_1))<|
  chk (inb (gt (.int .i64) b0_1 t40) (List.length b4))<|
  some (.inl (t38,(t39,((IntKind.wrap .i64 (t40+(1:Int))),(b0_0,(b0_1,(b0_2,(b0_3,(b0_4,(b0_5,(b0_6,(b0_7,(b0_8,(b1,(b2,((List.set b4 (Int.toNat (gt (.int .i64) b0_1 t40)) (gt .bool t38 t40)),())))))))))))))))))
 (
  some (.inr (b0_0,(b0_1,(b0_2,(b0_3,(b0_4,(b0_5,(b0_6,(b0_7,(b0_8,(b1,(b2,(b4,()))))))))))))))
def Zazw  :Zatg:=mkL (u15 Zail) (pL k0 (eC Tryz.func79 (by kernel_rfl) e0) 5 l0 fun d=>by kernel_rfl)
def Zahj (t61 t62 b0_0:Int) (b0_1:List Int) (b0_2:List (Sh.T Za0)) (b0_3 b0_4 b0_5:List Int) (b0_6:List (Sh.T Za1)) (b0_7:List (Sh.T Za0)) (b0_8:List (Sh.T Za4)) (b1:List Bool) (b2:List (Sh.T (.agg [(.int .i64),(.int .i64),(.sl Za3)]))) (b4:List Bool):Option (TL Zafk.σs⊕Out Zaek):=
 br (iL t62 t61)
 (
  chk (inb t62 (List.length b1))<|
  chk (inb t62 (List.length b0_2))<|
  chk (inb (gt Za0 b0_2 t62).1 (List.length b4))<|
  some (.inl (t61,((IntKind.wrap .i64 (t62+(1:Int))),(b0_0,(b0_1,(b0_2,(b0_3,(b0_4,(b0_5,(b0_6,(b0_7,(b0_8,(b1,(b2,((List.set b4 (Int.toNat (gt Za0 b0_2 t62).1) (gt .bool b1 t62)),()))))))))))))))))
 (
  some (.inr (b0_0,(b0_1,(b0_2,(b0_3,(b0_4,(b0_5,(b0_6,(b0_7,(b0_8,(b1,(b2,(b4,()))))))))))))))
def Zaz3  :Zask:=mkL (u14 Zahj) (pL k0 (eC Tryz.func79 (by kernel_rfl) e0) 5 l0 fun d=>by kernel_rfl)
def Zahi (F0:Zak3) (F1:Zb2u) (F2:Zau6) (F3:Zawf) (t84:List (Sh.T Za4)) (t85 t86 b0_0:Int) (b0_1:List Int) (b0_2:List (Sh.T Za0)) (b0_3 b0_4 b0_5:List Int) (b0_6:List (Sh.T Za1)) (b0_7:List (Sh.T Za0)) (b0_8:List (Sh.T Za4)) (b1:List Bool) (b2:List (Sh.T (.agg [(.int .i64),(.int .i64),(.sl Za3)]))) (b4:List Bool):Option (TL Zafj.σs⊕Out Zaej):=
 br (iL t86 t85)
 (
  chk (inb t86 (List.length t84))<|
  br (Bool.not (gt Za4 t84 t86).1)
  (
   chk (inb (gt Za4 t84 t86).2.2.1 (List.length b0_7))<|
   bnd (F0 ((gt Za0 b0_7 (gt Za4 t84 t86).2.2.1).2.1,(b4,()))) fun x0=>
   br x0.1
   (
    chk (iQ (gt Za0 b0_7 (gt Za4 t84 t86).2.2.1).1 (gt Za0 b0_7 (gt Za4 t84 t86).2.2.1).1)<|
    bnd (F0 ((gt Za0 b0_7 (gt Za4 t84 t86).2.2.1).2.2.1,(b4,()))) fun x1=>
    chk (inb (gt Za0 b0_7 (gt Za4 t84 t86).2.2.1).1 (List.length b4))<|
    chk (iQ (gt Za0 b0_7 (gt Za4 t84 t86).2.2.1).1 (gt Za0 b0_7 (gt Za4 t84 t86).2.2.1).1)<|
    some (.inl (t84,(t85,((IntKind.wrap .i64 (t86+(1:Int))),(b0_0,(b0_1,(b0_2,(b0_3,(b0_4,(b0_5,(b0_6,(b0_7,(b0_8,(b1,(b2,((List.set b4 (Int.toNat (gt Za0 b0_7 (gt Za4 t84 t86).2.2.1).1) (selB true x1.1 false)),())))))))))))))))))
   (
    chk (iQ (gt Za0 b0_7 (gt Za4 t84 t86).2.2.1).1 (gt Za0 b0_7 (gt Za4 t84 t86).2.2.1).1)<|
    chk (inb (gt Za0 b0_7 (gt Za4 t84 t86).2.2.1).1 (List.length b4))<|
    some (.inl (t84,(t85,((IntKind.wrap .i64 (t86+(1:Int))),(b0_0,(b0_1,(b0_2,(b0_3,(b0_4,(b0_5,(b0_6,(b0_7,(b0_8,(b1,(b2,((List.set b4 (Int.toNat (gt Za0 b0_7 (gt Za4 t84 t86).2.2.1).1) false),()))))))))))))))))))
  (
   chk (inb (gt Za4 t84 t86).2.1 (List.length b0_6))<|
   chk (inb (gt Za4 t84 t86).2.2.1 (List.length (gt Za1 b0_6 (gt Za4 t84 t86).2.1).2.2.2.1))<|
   chk (inb (gt Za4 t84 t86).2.1 (List.length b2))<|
   bnd (F2 ((gt Zb3 (gt Za1 b0_6 (gt Za4 t84 t86).2.1).2.2.2.1 (gt Za4 t84 t86).2.2.1).2.1,(b4,()))) fun x0=>
   bnd (F3 (x0.1,((List.getD b2 (Int.toNat (gt Za4 t84 t86).2.1) (zR)).1,((List.getD b2 (Int.toNat (gt Za4 t84 t86).2.1) (zR)).2.1,((List.getD b2 (Int.toNat (gt Za4 t84 t86).2.1) (zR)).2.2.1,()))))) fun x1=>
   chk (both (iE (0:Int) (gt Zb3 (gt Za1 b0_6 (gt Za4 t84 t86).2.1).2.2.2.1 (gt Za4 t84 t86).2.2.1).1) (iE (gt Zb3 (gt Za1 b0_6 (gt Za4 t84 t86).2.1).2.2.2.1 (gt Za4 t84 t86).2.2.1).1 (Int.ofNat (List.length b4))))<|
   bnd (F1 (x1.1,((gt Za1 b0_6 (gt Za4 t84 t86).2.1).2.1,()))) fun x2=>
   some (.inl (t84,(t85,((IntKind.wrap .i64 (t86+(1:Int))),(b0_0,(b0_1,(b0_2,(b0_3,(b0_4,(b0_5,(b0_6,(b0_7,(b0_8,(b1,((List.set b2 (Int.toNat (gt Za4 t84 t86).2.1) x1.2),((cpyL b4 (Int.toNat (gt Zb3 (gt Za1 b0_6 (gt Za4 t84 t86).2.1).2.2.2.1 (gt Za4 t84 t86).2.2.1).1) (List.take (@HSub.hSub (Nat) (Nat) (Nat) _ (List.length b4) (Int.toNat (gt Zb3 (gt Za1 b0_6 (gt Za4 t84 t86).2.1).2.2.2.1 (gt Za4 t84 t86).2.2.1).1)) x2.1)),()))))))))))))))))))
 (
  some (.inr (b0_0,(b0_1,(b0_2,(b0_3,(b0_4,(b0_5,(b0_6,(b0_7,(b0_8,(b1,(b2,(b4,()))))))))))))))
def Zaz4 (c0:Zaio) (c1:Zayo) (c2:Zari) (c3:Zarj) :Zam3:=mkL (u15 (Zahi c0.F c1.F c2.F c3.F)) (pL (kD c0 (kD c1 (kD c2 (kB c3 k0)))) (eC Tryz.func79 (by kernel_rfl) e0) 5 l0 fun d=>by kernel_rfl)
def Zaz2:Zam3:=Zaz4 Zak4 Zb2v Zau7 Zawg 
def Zao4 (F0:Zak3) (F1:Zb2u) (F2:Zau6) (F3:Zawf) (L5:Zate) (L10:Zasj) (L16:Zasi) (t1:List Bool) (b0_0:Int) (b0_1:List Int) (b0_2:List (Sh.T Za0)) (b0_3 b0_4 b0_5:List Int) (b0_6:List (Sh.T Za1)) (b0_7:List (Sh.T Za0)) (b0_8:List (Sh.T Za4)) (b1:List Bool) (b2:List (Sh.T (.agg [(.int .i64),(.int .i64),(.sl Za3)]))):Option (Out Zal4):=
 br (selB false true (Bool.not (iQ (Int.ofNat (List.length t1)) (Int.ofNat (List.length b0_1)))))
 (
  some ((1:Int),(b0_0,(b0_1,(b0_2,(b0_3,(b0_4,(b0_5,(b0_6,(b0_7,(b0_8,(b1,(b2,([],()))))))))))))))
 (
  chk (both (iE (0:Int) (IntKind.wrap .i64 (b0_0+(1:Int)))) (both (iE (IntKind.wrap .i64 (b0_0+(1:Int))) (IntKind.wrap .i64 (b0_0+(1:Int)))) (iE ((Int.ofNat 1)*(IntKind.wrap .i64 (b0_0+(1:Int)))) (281474976710656:Int))))<|
  bnd (L5 (t1,((Int.ofNat (List.length t1)),((0:Int),(b0_0,(b0_1,(b0_2,(b0_3,(b0_4,(b0_5,(b0_6,(b0_7,(b0_8,(b1,(b2,((List.replicate (Int.toNat (IntKind.wrap .i64 (b0_0+(1:Int)))) (Sh.zero .bool)),())))))))))))))))) fun x0=>
  bnd (L10 ((Int.ofNat (List.length x0.2.2.2.2.2.2.2.2.2.1)),((0:Int),x0))) fun x1=>
  bnd (L16 (x1.2.2.2.2.2.2.2.2.1,((Int.ofNat (List.length x1.2.2.2.2.2.2.2.2.1)),((0:Int),x1)))) fun x2=>
  some ((0:Int),x2))
def Zb11 (c0:Zaio) (c1:Zayo) (c2:Zari) (c3:Zarj) (M5:Zatg) (M10:Zask) (M16:Zam3):Zao5:=⟨u12 (Zao4 c0.F c1.F c2.F c3.F M5.L M10.L M16.L),pB Tryz.func32 155 (kD c0 (kD c1 (kD c2 (kB c3 k0)))) (eC Tryz.func79 (by kernel_rfl) e0) 5 (sS (sC M5 (sC M10 (sC M16 l0)))) fun d=>by kernel_rfl⟩
def Zav1:Zao5:=Zb11 Zak4 Zb2v Zau7 Zawg Zazw Zaz3 Zaz2
abbrev Zatd:Lay:={ T:=[(0,.ptr 0 0),(1,.int .i64),(2,.hd 3 .bool)],h:=yRb5,nx:=4 }
abbrev Zam0:List (Ev.Ex×Lay):=[(.ret,{ T:=[],h:=yRb5,nx:=4 })]
abbrev Zapr:=TL Zatd.σs→Option (Out Zam0)
abbrev Zaks:=Kb 82 3 Zatd 0 Zam0
abbrev Zahh:Lay:={ T:=[(2,.hd 3 .bool),(6,.func 150 [.rp 2] []),(25,.fz Zb8),(26,.int .i64),(27,.int .i64)],h:=yRb5,nx:=4 }
abbrev Zag0:List (Ev.Ex×Lay):=[((.exit 0),{ T:=[],h:=yRb5,nx:=4 })]
abbrev Zauy:=TL Zahh.σs→Option (Out Zag0)
abbrev Zao3:=Ld 4 46 (Zb5 [0] (Zaa Tryz.f82)) Zahh Zag0
def Zajj (F0:Zau6) (F1:Zak3) (F2:Zalo) (t6_0:Int) (t25:List (Sh.T Zb8)) (t26 t27 b0_0:Int) (b0_1:List Int) (b0_2:List (Sh.T Za0)) (b0_3 b0_4 b0_5:List Int) (b0_6:List (Sh.T Za1)) (b0_7:List (Sh.T Za0)) (b0_8:List (Sh.T Za4)) (b1:List Bool) (b2:List (Sh.T (.agg [(.int .i64),(.int .i64),(.sl Za3)]))) (b3:List Bool):Option (TL Zahh.σs⊕Out Zag0):=
 br (iL t27 t26)
 (
  chk (inb t27 (List.length t25))<|
  bnd (F1 ((gt Zb8 t25 t27).1,(b3,()))) fun x0=>
  br x0.1
  (
   bnd (F0 ((gt Zb8 t25 t27).2.1,(b3,()))) fun x1=>
   bnd (F0 ((gt Zb8 t25 t27).2.2.1,(b3,()))) fun x2=>
   bnd (F2 (x1.1,(x2.1,((List.getD b2 (Int.toNat t6_0) (zR)).1,((List.getD b2 (Int.toNat t6_0) (zR)).2.1,((List.getD b2 (Int.toNat t6_0) (zR)).2.2.1,())))))) fun x3=>
   some (.inl ((Int.ofNat (Int.toNat t6_0)),(t25,(t26,((IntKind.wrap .i64 (t27+(1:Int))),(b0_0,(b0_1,(b0_2,(b0_3,(b0_4,(b0_5,(b0_6,(b0_7,(b0_8,(b1,((List.set b2 (Int.toNat t6_0) x3.2),(b3,()))))))))))))))))))
  (
   some (.inl ((Int.ofNat (Int.toNat t6_0)),(t25,(t26,((IntKind.wrap .i64 (t27+(1:Int))),(b0_0,(b0_1,(b0_2,(b0_3,(b0_4,(b0_5,(b0_6,(b0_7,(b0_8,(b1,(b2,(b3,())))))))))))))))))))
 (
  some (.inr (b0_0,(b0_1,(b0_2,(b0_3,(b0_4,(b0_5,(b0_6,(b0_7,(b0_8,(b1,(b2,(b3,()))))))))))))))
def Zb10 (c0:Zari) (c1:Zaio) (c2:Zafl) :Zao3:=mkL (u16 (Zajj c0.F c1.F c2.F)) (pL (kD c0 (kD c1 (kB c2 k0))) e0 1 l0 fun d=>by kernel_rfl)
def Zb0z:Zao3:=Zb10 Zau7 Zak4 Zalp 
def Zb27 (F0:Zau6) (F1:Zak3) (F2:Zalo) (L2:Zauy) (t1 b0_0:Int) (b0_1:List Int) (b0_2:List (Sh.T Za0)) (b0_3 b0_4 b0_5:List Int) (b0_6:List (Sh.T Za1)) (b0_7:List (Sh.T Za0)) (b0_8:List (Sh.T Za4)) (b1:List Bool) (b2:List (Sh.T (.agg [(.int .i64),(.int .i64),(.sl Za3)]))) (b3:List Bool):Option (Out Zam0):=
 chk (inb t1 (List.length b2))<|
 chk (inb t1 (List.length b0_6))<|
 bnd (L2 ((Int.ofNat (Int.toNat t1)),((gt Za1 b0_6 t1).2.2.2.2.1,((Int.ofNat (List.length (gt Za1 b0_6 t1).2.2.2.2.1)),((0:Int),(b0_0,(b0_1,(b0_2,(b0_3,(b0_4,(b0_5,(b0_6,(b0_7,(b0_8,(b1,(b2,(b3,()))))))))))))))))) fun x0=>
 some x0
def Zb26 (c0:Zari) (c1:Zaio) (c2:Zafl) (M2:Zao3):Zaks:=⟨u13 (Zb27 c0.F c1.F c2.F M2.L),pB Tryz.func82 46 (kD c0 (kD c1 (kB c2 k0))) e0 1 (sS (sC M2 l0)) fun d=>by kernel_rfl⟩
def Zaps:Zaks:=Zb26 Zau7 Zak4 Zalp Zb0z
abbrev Zav2:Lay:={ T:=[(0,.ptr 0 0),(1,.fz .bool)],h:=yRb6,nx:=3 }
abbrev Zamv:List (Ev.Ex×Lay):=[(.ret,{ T:=[(0,.agg [.hd 3 .bool,.bool]),(1,.int .i64)],h:=yRb5,nx:=4 })]
abbrev Zar1:=TL Zav2.σs→Option (Out Zamv)
abbrev Zaln:=Kb 34 2 Zav2 2 Zamv
abbrev Zahl:Lay:={ T:=[(0,.ptr 0 0),(4,.ptr 3 0),(6,.hd 5 .bool),(89,.int .i64),(90,.int .i64)],h:=yRb1,nx:=6 }
abbrev Zag2:List (Ev.Ex×Lay):=[((.exit 6),{ T:=[(4,.ptr 3 0)],h:=[(0,.cells yRb0 145),(1,.arr .bool 4),(2,.rams 220),(3,.cells [.hd 4 .bool,.bool] 55),(4,.arr .bool 4)],nx:=5 })]
abbrev Zav3:=TL Zahl.σs→Option (Out Zag2)
abbrev Zao6:=Ld 3 99 (Zb5 [3] (Zaa Tryz.f34)) Zahl Zag2
abbrev Zahm:Lay:={ T:=[(0,.ptr 0 0),(4,.ptr 3 0),(6,.hd 5 .bool),(67,.fz Za0),(68,.int .i64),(69,.int .i64)],h:=yRb1,nx:=6 }
abbrev Zag3:List (Ev.Ex×Lay):=[((.exit 4),{ T:=[(0,.ptr 0 0),(4,.ptr 3 0),(6,.hd 5 .bool)],h:=yRb1,nx:=6 })]
abbrev Zav4:=TL Zahm.σs→Option (Out Zag3)
abbrev Zao7:=Ld 3 99 (Zb5 [2] (Zaa Tryz.f34)) Zahm Zag3
abbrev Zahn:Lay:={ T:=[(0,.ptr 0 0),(4,.ptr 3 0),(6,.hd 5 .bool),(48,.fz (.int .i64)),(49,.int .i64),(50,.int .i64)],h:=yRb1,nx:=6 }
abbrev Zag4:List (Ev.Ex×Lay):=[((.exit 2),{ T:=[(0,.ptr 0 0),(4,.ptr 3 0),(6,.hd 5 .bool)],h:=yRb1,nx:=6 })]
abbrev Zav5:=TL Zahn.σs→Option (Out Zag4)
abbrev Zao8:=Ld 3 99 (Zb5 [1] (Zaa Tryz.f34)) Zahn Zag4
abbrev Zaim:Lay:={ T:=[(0,.ptr 0 0),(4,.ptr 3 0),(6,.hd 4 .bool),(29,.fz (.int .i64)),(30,.int .i64),(31,.int .i64)],h:=yRb10,nx:=5 }
abbrev Zahk:List (Ev.Ex×Lay):=[((.exit 0),{ T:=[(0,.ptr 0 0),(4,.ptr 3 0),(6,.hd 4 .bool)],h:=yRb10,nx:=5 })]
abbrev Zaw5:=TL Zaim.σs→Option (Out Zahk)
abbrev Zapt:=Ld 3 99 (Zb5 [0] (Zaa Tryz.f34)) Zaim Zahk
def Zakt (F0:Zak3) (t29:List Int) (t30 t31 b0_0:Int) (b0_1:List Int) (b0_2:List (Sh.T Za0)) (b0_3 b0_4 b0_5:List Int) (b0_6:List (Sh.T Za1)) (b0_7:List (Sh.T Za0)) (b0_8:List (Sh.T Za4)) (b1:List Bool) (b2:List (Sh.T (.agg [(.int .i64),(.int .i64),(.sl Za3)]))) (b3_1:Bool) (b4:List Bool):Option (TL Zaim.σs⊕Out Zahk):=
 br (iL t31 t30)
 (
  chk (inb t31 (List.length t29))<|
  br b3_1
  (
   bnd (F0 ((gt (.int .i64) t29 t31),(b4,()))) fun x0=>
   some (.inl (t29,(t30,((IntKind.wrap .i64 (t31+(1:Int))),(b0_0,(b0_1,(b0_2,(b0_3,(b0_4,(b0_5,(b0_6,(b0_7,(b0_8,(b1,(b2,((selB true x0.1 false),(b4,()))))))))))))))))))
  (
   some (.inl (t29,(t30,((IntKind.wrap .i64 (t31+(1:Int))),(b0_0,(b0_1,(b0_2,(b0_3,(b0_4,(b0_5,(b0_6,(b0_7,(b0_8,(b1,(b2,(false,(b4,())))))))))))))))))))
 (
  some (.inr (b0_0,(b0_1,(b0_2,(b0_3,(b0_4,(b0_5,(b0_6,(b0_7,(b0_8,(b1,(b2,(b3_1,(b4,())))))))))))))))
def Zb29 (c0:Zaio) :Zapt:=mkL (u16 (Zakt c0.F)) (pL (kD c0 k0) e0 1 l0 fun d=>by kernel_rfl)
def Zb28:Zapt:=Zb29 Zak4 
def Zajm (F0:Zak3) (t48:List Int) (t49 t50 b0_0:Int) (b0_1:List Int) (b0_2:List (Sh.T Za0)) (b0_3 b0_4 b0_5:List Int) (b0_6:List (Sh.T Za1)) (b0_7:List (Sh.T Za0)) (b0_8:List (Sh.T Za4)) (b1:List Bool) (b2:List (Sh.T (.agg [(.int .i64),(.int .i64),(.sl Za3)]))) (b3_1:Bool) (b4 b5:List Bool):Option (TL Zahn.σs⊕Out Zag4):=
 br (iL t50 t49)
 (
  chk (inb t50 (List.length t48))<|
  bnd (F0 ((gt (.int .i64) t48 t50),(b5,()))) fun x0=>
  chk (room 1 (List.length (ap b4 (x0.1 :: []))))<|
  some (.inl (t48,(t49,((IntKind.wrap .i64 (t50+(1:Int))),(b0_0,(b0_1,(b0_2,(b0_3,(b0_4,(b0_5,(b0_6,(b0_7,(b0_8,(b1,(b2,(b3_1,((ap b4 (x0.1 :: [])),(b5,())))))))))))))))))))
 (
  some (.inr (b0_0,(b0_1,(b0_2,(b0_3,(b0_4,(b0_5,(b0_6,(b0_7,(b0_8,(b1,(b2,(b3_1,(b4,(b5,()))))))))))))))))
def Zb17 (c0:Zaio) :Zao8:=mkL (u17 (Zajm c0.F)) (pL (kD c0 k0) e0 1 l0 fun d=>by kernel_rfl)
def Zb14:Zao8:=Zb17 Zak4 
def Zajl (F0:Zak3) (t67:List (Sh.T Za0)) (t68 t69 b0_0:Int) (b0_1:List Int) (b0_2:List (Sh.T Za0)) (b0_3 b0_4 b0_5:List Int) (b0_6:List (Sh.T Za1)) (b0_7:List (Sh.T Za0)) (b0_8:List (Sh.T Za4)) (b1:List Bool) (b2:List (Sh.T (.agg [(.int .i64),(.int .i64),(.sl Za3)]))) (b3_1:Bool) (b4 b5:List Bool):Option (TL Zahm.σs⊕Out Zag3):=
 br (iL t69 t68)
 (
  chk (inb t69 (List.length t67))<|
  bnd (F0 ((gt Za0 t67 t69).2.1,(b5,()))) fun x0=>
  chk (inb t69 (List.length b1))<|
  some (.inl (t67,(t68,((IntKind.wrap .i64 (t69+(1:Int))),(b0_0,(b0_1,(b0_2,(b0_3,(b0_4,(b0_5,(b0_6,(b0_7,(b0_8,((List.set b1 (Int.toNat t69) x0.1),(b2,(b3_1,(b4,(b5,())))))))))))))))))))
 (
  some (.inr (b0_0,(b0_1,(b0_2,(b0_3,(b0_4,(b0_5,(b0_6,(b0_7,(b0_8,(b1,(b2,(b3_1,(b4,(b5,()))))))))))))))))
def Zb16 (c0:Zaio) :Zao7:=mkL (u17 (Zajl c0.F)) (pL (kD c0 k0) e0 1 l0 fun d=>by kernel_rfl)
def Zb13:Zao7:=Zb16 Zak4 
def Zajk (F1:Zapr) (t89 t90 b0_0:Int) (b0_1:List Int) (b0_2:List (Sh.T Za0)) (b0_3 b0_4 b0_5:List Int) (b0_6:List (Sh.T Za1)) (b0_7:List (Sh.T Za0)) (b0_8:List (Sh.T Za4)) (b1:List Bool) (b2:List (Sh.T (.agg [(.int .i64),(.int .i64),(.sl Za3)]))) (b3_1:Bool) (b4 b5:List Bool):Option (TL Zahl.σs⊕Out Zag2):=
 br (iL t90 t89)
 (
  bnd (F1 (t90,(b0_0,(b0_1,(b0_2,(b0_3,(b0_4,(b0_5,(b0_6,(b0_7,(b0_8,(b1,(b2,(b5,())))))))))))))) fun x0=>
  some (.inl (t89,((IntKind.wrap .i64 (t90+(1:Int))),(x0.1,(x0.2.1,(x0.2.2.1,(x0.2.2.2.1,(x0.2.2.2.2.1,(x0.2.2.2.2.2.1,(x0.2.2.2.2.2.2.1,(x0.2.2.2.2.2.2.2.1,(x0.2.2.2.2.2.2.2.2.1,(x0.2.2.2.2.2.2.2.2.2.1,(x0.2.2.2.2.2.2.2.2.2.2.1,(b3_1,(b4,(x0.2.2.2.2.2.2.2.2.2.2.2.1,()))))))))))))))))))
 (
  some (.inr (b0_0,(b0_1,(b0_2,(b0_3,(b0_4,(b0_5,(b0_6,(b0_7,(b0_8,(b1,(b2,(b3_1,(b4,())))))))))))))))
def Zb15 (c1:Zaks) :Zao6:=mkL (u16 (Zajk c1.F)) (pL (kB c1 k0) e0 1 l0 fun d=>by kernel_rfl)
def Zb12:Zao6:=Zb15 Zaps 
def Zb3d (F0:Zak3) (F1:Zapr) (F2:Zav0) (L6:Zaw5) (L11:Zav5) (L16:Zav4) (L21:Zav3) (t1:List Bool) (b0_0:Int) (b0_1:List Int) (b0_2:List (Sh.T Za0)) (b0_3 b0_4 b0_5:List Int) (b0_6:List (Sh.T Za1)) (b0_7:List (Sh.T Za0)) (b0_8:List (Sh.T Za4)) (b1:List Bool) (b2:List (Sh.T (.agg [(.int .i64),(.int .i64),(.sl Za3)]))):Option (Out Zamv):=
 bnd (F2 (t1,(b0_0,(b0_1,(b0_2,(b0_3,(b0_4,(b0_5,(b0_6,(b0_7,(b0_8,(b1,(b2,()))))))))))))) fun x0=>
 br (Bool.not (iQ x0.1 (0:Int)))
 (
  some (false,(x0.1,(x0.2.1,(x0.2.2.1,(x0.2.2.2.1,(x0.2.2.2.2.1,(x0.2.2.2.2.2.1,(x0.2.2.2.2.2.2.1,(x0.2.2.2.2.2.2.2.1,(x0.2.2.2.2.2.2.2.2.1,(x0.2.2.2.2.2.2.2.2.2.1,(x0.2.2.2.2.2.2.2.2.2.2.1,(x0.2.2.2.2.2.2.2.2.2.2.2.1,([],())))))))))))))))
 (
  bnd (L6 (x0.2.2.2.2.2.2.1,((Int.ofNat (List.length x0.2.2.2.2.2.2.1)),((0:Int),(x0.2.1,(x0.2.2.1,(x0.2.2.2.1,(x0.2.2.2.2.1,(x0.2.2.2.2.2.1,(x0.2.2.2.2.2.2.1,(x0.2.2.2.2.2.2.2.1,(x0.2.2.2.2.2.2.2.2.1,(x0.2.2.2.2.2.2.2.2.2.1,(x0.2.2.2.2.2.2.2.2.2.2.1,(x0.2.2.2.2.2.2.2.2.2.2.2.1,(true,(x0.2.2.2.2.2.2.2.2.2.2.2.2.1,()))))))))))))))))) fun x1=>
  bnd (L11 (x1.2.2.2.2.1,((Int.ofNat (List.length x1.2.2.2.2.1)),((0:Int),(x1.1,(x1.2.1,(x1.2.2.1,(x1.2.2.2.1,(x1.2.2.2.2.1,(x1.2.2.2.2.2.1,(x1.2.2.2.2.2.2.1,(x1.2.2.2.2.2.2.2.1,(x1.2.2.2.2.2.2.2.2.1,(x1.2.2.2.2.2.2.2.2.2.1,(x1.2.2.2.2.2.2.2.2.2.2.1,(x1.2.2.2.2.2.2.2.2.2.2.2.1,([],(x1.2.2.2.2.2.2.2.2.2.2.2.2.1,())))))))))))))))))) fun x2=>
  bnd (L16 (x2.2.2.1,((Int.ofNat (List.length x2.2.2.1)),((0:Int),x2)))) fun x3=>
  bnd (L21 ((Int.ofNat (List.length x3.2.2.2.2.2.2.2.2.2.2.1)),((0:Int),x3))) fun x4=>
  some (x4.2.2.2.2.2.2.2.2.2.2.2.1,((0:Int),(x4.1,(x4.2.1,(x4.2.2.1,(x4.2.2.2.1,(x4.2.2.2.2.1,(x4.2.2.2.2.2.1,(x4.2.2.2.2.2.2.1,(x4.2.2.2.2.2.2.2.1,(x4.2.2.2.2.2.2.2.2.1,(x4.2.2.2.2.2.2.2.2.2.1,(x4.2.2.2.2.2.2.2.2.2.2.1,(x4.2.2.2.2.2.2.2.2.2.2.2.2.1,())))))))))))))))
def Zb3c (c0:Zaio) (c1:Zaks) (c2:Zao5) (M6:Zapt) (M11:Zao8) (M16:Zao7) (M21:Zao6):Zaln:=⟨u12 (Zb3d c0.F c1.F c2.F M6.L M11.L M16.L M21.L),pB Tryz.func34 99 (kD c0 (kB c1 (kB c2 k0))) e0 1 (sS (sC M6 (sC M11 (sC M16 (sC M21 l0))))) fun d=>by kernel_rfl⟩
def Zar2:Zaln:=Zb3c Zak4 Zaps Zav1 Zb28 Zb14 Zb13 Zb12
def Zaak:Zar1:=Zar2.F
abbrev nsim_Machine__State_lay:Lay:={ T:=[(0,.ptr 0 0)],h:=yRb6,nx:=3 }
abbrev nsim_Machine__State_outs:List (Ev.Ex×Lay):=[(.ret,{ T:=[(0,.agg [.hd 3 .bool,.hd 4 (.sl Za3)])],h:=[(0,.cells yRb0 145),(1,.arr .bool 4),(2,.rams 220),(3,.arr .bool 4),(4,.arr (.sl Za3) 104)],nx:=5 })]
abbrev nsim_Machine__State_T:=TL nsim_Machine__State_lay.σs→Option (Out nsim_Machine__State_outs)
abbrev nsim_Machine__State_D:=Kb 35 1 nsim_Machine__State_lay 1 nsim_Machine__State_outs
abbrev nsim_Machine__State_lay5:Lay:={ T:=[(2,.ptr 3 0),(17,.rhd 2),(18,.int .i64),(19,.int .i64)],h:=yRb8,nx:=6 }
abbrev nsim_Machine__State_outs5:List (Ev.Ex×Lay):=[((.exit 0),{ T:=[(2,.ptr 3 0)],h:=yRb8,nx:=6 })]
abbrev nsim_Machine__State_T5:=TL nsim_Machine__State_lay5.σs→Option (Out nsim_Machine__State_outs5)
abbrev nsim_Machine__State_D5:=Ld 3 32 (Zb5 [0] (Zaa Tryz.f35)) nsim_Machine__State_lay5 nsim_Machine__State_outs5
def nsim_Machine__State_B5 (F0:Zb9j) (t18 t19 b0_0:Int) (b0_1:List Int) (b0_2:List (Sh.T Za0)) (b0_3 b0_4 b0_5:List Int) (b0_6:List (Sh.T Za1)) (b0_7:List (Sh.T Za0)) (b0_8:List (Sh.T Za4)) (b1:List Bool) (b2:List (Sh.T (.agg [(.int .i64),(.int .i64),(.sl Za3)]))) (b4:List Bool) (b5:List (List (Sh.T Za3))):Option (TL nsim_Machine__State_lay5.σs⊕Out nsim_Machine__State_outs5):=
 br (iL t19 t18)
 (
  chk (inb t19 (List.length b2))<|
  bnd (F0 ((List.getD b2 (Int.toNat t19) (zR)).1,((List.getD b2 (Int.toNat t19) (zR)).2.1,((List.getD b2 (Int.toNat t19) (zR)).2.2.1,())))) fun x0=>
  chk (room 24 (List.length (ap b5 (x0.1 :: []))))<|
  some (.inl (t18,((IntKind.wrap .i64 (t19+(1:Int))),(b0_0,(b0_1,(b0_2,(b0_3,(b0_4,(b0_5,(b0_6,(b0_7,(b0_8,(b1,((List.set b2 (Int.toNat t19) x0.2),(b4,((ap b5 (x0.1 :: [])),())))))))))))))))))
 (
  some (.inr (b0_0,(b0_1,(b0_2,(b0_3,(b0_4,(b0_5,(b0_6,(b0_7,(b0_8,(b1,(b2,(b4,(b5,())))))))))))))))
def nsim_Machine__State_M5 (c0:Zb9k) :nsim_Machine__State_D5:=mkL (u15 (nsim_Machine__State_B5 c0.F)) (pL (kB c0 k0) e0 1 l0 fun d=>by kernel_rfl)
def nsim_Machine__State_N5:nsim_Machine__State_D5:=nsim_Machine__State_M5 nram_Ram__Cells_K 
def nsim_Machine__State_F (F0:Zb9j) (F1:Zaj5) (F2:Zaey) (L5:nsim_Machine__State_T5) (b0_0:Int) (b0_1:List Int) (b0_2:List (Sh.T Za0)) (b0_3 b0_4 b0_5:List Int) (b0_6:List (Sh.T Za1)) (b0_7:List (Sh.T Za0)) (b0_8:List (Sh.T Za4)) (b1:List Bool) (b2:List (Sh.T (.agg [(.int .i64),(.int .i64),(.sl Za3)]))):Option (Out nsim_Machine__State_outs):=
 bnd (F1 (b1,())) fun x0=>
 bnd (L5 ((Int.ofNat (List.length b2)),((0:Int),(b0_0,(b0_1,(b0_2,(b0_3,(b0_4,(b0_5,(b0_6,(b0_7,(b0_8,(x0.1,(b2,(x0.2.1,([],())))))))))))))))) fun x1=>
 some x1
def nsim_Machine__State_G (c0:Zb9k) (c1:Zaj7) (c2:Zaez) (M5:nsim_Machine__State_D5):nsim_Machine__State_D:=⟨u11 (nsim_Machine__State_F c0.F c1.F c2.F M5.L),pB Tryz.func35 32 (kB c0 (kB c1 (kB c2 k0))) e0 1 (sS (sC M5 l0)) fun d=>by kernel_rfl⟩
def nsim_Machine__State_K:nsim_Machine__State_D:=nsim_Machine__State_G nram_Ram__Cells_K Zaj6 Zacy nsim_Machine__State_N5
def nsim_Machine__State_FF:nsim_Machine__State_T:=nsim_Machine__State_K.F
end Go.Proofs.YtkcpdpplobhpaaaGreat.V
end
section
namespace Go.Proofs.YtkcpdpplobhpaaaGreat.V
open Go Go.RowKit
abbrev sreach_step:Sh:=(.agg [(.int .i64),(.int .i64)])
abbrev sreach_Result:Sh:=(.agg [.bool,(.int .i64),.bool,(.int .i64)])
end Go.Proofs.YtkcpdpplobhpaaaGreat.V
end
