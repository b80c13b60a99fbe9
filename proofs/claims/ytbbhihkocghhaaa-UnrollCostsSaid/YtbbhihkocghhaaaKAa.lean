import Derived.KernelRfl
import Derived.LoopN
set_option linter.all false
namespace Go.Proofs.Ytbbhihkocghhaaa
theorem acs{p:Prop}(h:p:=by omega):p:=h
theorem acu{p:Prop}(h:p:=by kernel_rfl):p:=h
theorem acv{p:Prop}(h:p:=by simp):p:=h
theorem acw{p:Prop}(h:p:=by decide):p:=h
@[match_pattern] abbrev acB{α β:Type}(a:α):Option (α⊕β):=some (.inl a)
@[match_pattern] abbrev acC{α β:Type}(a:β):Option (α⊕β):=some (.inr a)
abbrev io:=List Int
abbrev ip:=List Bool
abbrev jp:=List Nat
abbrev kw:=List Go.Value
abbrev lc:=Option Go.Addr
abbrev lw(a b:Int):Int:=a+b
abbrev md(l:List Int)(x:Int):Int:=l.getD x.toNat 0
abbrev mt(x:Int):Int:=Go.IntKind.wrap .i64 x
def ol:=@Nat.le_refl
def pi:=@Nat.le_of_ble_eq_true
def pm:=@List.getElem?_cons_zero
def pp:=@Nat.le_trans
def pu:=@List.getElem?_toArray
def qr:=@if_neg
def rc:=@beq_eq_false_iff_ne
def rg:=@Nat.lt_of_lt_of_le
def ro:=@List.eq_nil_of_length_eq_zero
def rt:=@Nat.lt_or_ge
def rx:=@List.getElem?_cons_succ
def ut:=@if_pos
def wn:=@List.getElem?_eq_some_iff
def ww:=@Prod.mk.injEq
def AC:=@List.mem_append
def AI:=@Int.eq_ofNat_of_zero_le
def AT:=@List.getElem_mem
def By:=@List.take_of_length_le
def BT:=@List.length_nil
def BY:=@List.mem_cons
def Do:=@List.getElem?_eq_none
def EQ:=@List.take_append_drop
def Fd:=@List.getElem?_append_left
def Fn:=@Nat.zero_le
def Fr:=@Int.toNat_natCast
def FS:=@decide_eq_true_eq
def GE:=@Bool.false_eq_true
def GT:=@List.flatMap_cons
def Id:=@Array.getElem?_setIfInBounds
def If:=@Nat.eq_zero_or_pos
def In:=@Array.getD_eq_getD_getElem?
def IN:=@List.mem_map
def IO:=@List.flatMap_append
def IR:=@List.getElem?_append_right
def IS:=@Array.toList_inj
def IT:=@Nat.ne_of_beq_eq_false
def LT:=@List.nil_append
def Ne:=@Nat.add_mul
def NE:=@Array.length_toList
def Or:=@List.mem_flatMap
def OF:=@Nat.mul_le_mul_right
def Pi:=@List.map_cons
def PP:=@List.cons_append
def ST:=@Go.Result.ok.injEq
def UV:=@List.mem_map_of_mem
def WF:=@of_decide_eq_true
def WP:=@Nat.blt_eq
def aaN:=@Option.some.inj
def aaO:=@List.ext_getElem?
def aaP:=@List.drop_eq_getElem_cons
def aaQ:=@List.take_zero
def aaR:=@Array.toArray_toList
def aaS:=@List.mem_of_mem_take
def aaT:=@Array.getElem?_eq_none
def aaU:=@List.drop_eq_nil_of_le
def aaV:=@List.pairwise_cons
def aaW:=@Nat.add_zero
def aaX:=@List.drop_length_add_append
def aaY:=@Nat.ble_eq_true_of_le
def aaZ:=@Nat.add_assoc
def aba:=@Array.mem_toList_iff
def abb:=@List.getElem?_of_mem
def abc:=@of_decide_eq_false
def abd:=@List.flatMap_singleton
def abe:=@List.flatMap_map
def abf:=@List.any_eq_true
def abg:=@List.take_append_of_le_length
def abh:=@Option.isSome_none
def abi:=@Nat.lt_irrefl
def abj:=@and_true
def abk:=@List.prefix_append
def abl:=@List.mem_cons_of_mem
def abm:=@List.flatMap_nil
def abn:=@Bool.and_eq_true
def abo:=@List.take_succ_eq_append_getElem
def abp:=@congrArg
def abq:=@List.IsPrefix.trans
def abr:=@List.nodup_cons
def abs:=@List.all_eq_true
def abt:=@List.length_drop
def abu:=@if_false
def abv:=@List.length_range
def abw:=@Nat.mul_lt_mul_of_pos_right
def abx:=@List.sum_append
def aby:=@List.range_succ
def abz:=@List.take_length_add_append
def abA:=@Array.getElem?_push
def abB:=@Array.getElem?_eq_some_iff
def abC:=@List.mem_toArray
def abD:=@List.set_eq_take_append_cons_drop
def abE:=@if_true
def abF:=@List.mem_take_iff_getElem
def abG:=@List.mem_drop_iff_getElem
def abH:=@Bool.or_eq_false_iff
def abI:=@Option.map_some
def abJ:=@Option.map_none
def abK:=@List.cons.injEq
def abL:=@Go.Value.slice.injEq
def abM:=@List.nodup_append
def abN:=@List.map_map
def abO:=@List.getElem?_replicate
def abP:=@Nat.mod_eq_of_lt
def abQ:=@Array.mem_append
def abR:=@List.getElem?_take
def abS:=@List.mem_singleton
def abT:=@List.map_nil
def abU:=@List.length_set
def abV:=@List.getElem?_set
def abW:=@beq_iff_eq
def abX:=@List.foldl_append
def abY:=@List.setIfInBounds_toArray
def abZ:=@Nat.mul_le_mul
def aca:=@Decidable.byContradiction
def acb:=@Array.mapM_eq_mapM_toList
def acd:=@List.map_congr_left
def ace:=@List.getElem?_range
def acf:=@List.forall_mem_nil
def acg:=@Nat.zero_add
def ach:=@Nat.mod_eq_sub_mod
def aci:=@Bool.false_ne_true
def acj:=@Nat.min_eq_left
def ack:=@List.filter_eq_nil_iff
def acl:=@List.any_eq_false
def acm:=@List.drop_drop
def acn:=@Nat.le_add_right
def aco:=@Go.Next.value.injEq
def acp:=@Bool.false_or
def acq:=@List.sum_cons
def acr:=@true_and
variable{α:Type _}{l:List α}{i:Nat}
theorem bF(h:i<l.length):l[i]?=some l[i]:=List.getElem?_eq_getElem h
variable{β:Type _}
theorem aT(f:α->β):(l.map f).length=l.length:=List.length_map f
variable{m:List α}
theorem aP:(l++m).length=l.length+m.length:=List.length_append
theorem aW{n m:Nat}:Nat.beq n m=true->n=m:=Nat.eq_of_beq_eq_true
variable{a:α}
theorem gC:l.getD i a=l[i]?.getD a:=List.getD_eq_getElem?_getD
variable{f:α->β}
theorem dx:(l.map f)[i]?=Option.map f l[i]?:=List.getElem?_map
theorem cq:(a::l).length=l.length+1:=List.length_cons
theorem bJ(a b c:List α):a++b++c=a++(b++c):=List.append_assoc a b c
theorem d8(h:l[i]?=some a):a∈l:=List.mem_of_getElem? h
theorem ep:(l.take i).length=min i l.length:=List.length_take
theorem fl:l.take l.length=l:=List.take_length
theorem dE(l:List α):l++[]=l:=List.append_nil l
theorem dN:(l++m).map f=l.map f++m.map f:=List.map_append
theorem bf(a b:α):(some a=some b)=(a=b):=Option.some.injEq a b
variable{p:Prop}
theorem gO[Decidable p]:p->decide p=true:=decide_eq_true
theorem iK[Decidable p]:¬p->decide p=false:=decide_eq_false
abbrev eZ{A B C D E:Type}(x:A×B×C×D×E):D:=x.2.2.2.1
abbrev zI{A B C D:Type}(x:A×B×C×D):D:=x.2.2.2
abbrev fj{A B C D E F:Type}(x:A×B×C×D×E×F):E:=x.2.2.2.2.1
abbrev gi{A B C D E F G:Type}(x:A×B×C×D×E×F×G):F:=x.2.2.2.2.2.1
abbrev iH{A B C D E F G H:Type}(x:A×B×C×D×E×F×G×H):G:=x.2.2.2.2.2.2.1
abbrev iI{A B C D E F G H I:Type}(x:A×B×C×D×E×F×G×H×I):H:=x.2.2.2.2.2.2.2.1
abbrev jo{A B C D E F G H I J:Type}(x:A×B×C×D×E×F×G×H×I×J):I:=x.2.2.2.2.2.2.2.2.1
abbrev kS{A B C D E F G H I J K:Type}(x:A×B×C×D×E×F×G×H×I×J×K):J:=x.2.2.2.2.2.2.2.2.2.1
abbrev ff{A B C D E F G H I J K L:Type}(x:A×B×C×D×E×F×G×H×I×J×K×L):K:=x.2.2.2.2.2.2.2.2.2.2.1
abbrev my{A B C D E F G H I J K L:Type}(x:A×B×C×D×E×F×G×H×I×J×K×L):L:=x.2.2.2.2.2.2.2.2.2.2.2
abbrev Py{A B C D E F G H I J K L M:Type}(x:A×B×C×D×E×F×G×H×I×J×K×L×M):L:=x.2.2.2.2.2.2.2.2.2.2.2.1
abbrev mA{A B C D E F G H I J K L M N:Type}(x:A×B×C×D×E×F×G×H×I×J×K×L×M×N):M:=x.2.2.2.2.2.2.2.2.2.2.2.2.1
abbrev lE{A B C D E F G H I J K L M:Type}(x:A×B×C×D×E×F×G×H×I×J×K×L×M):M:=x.2.2.2.2.2.2.2.2.2.2.2.2
