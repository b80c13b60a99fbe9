import Derived.KernelRfl
import Derived.LoopN
set_option linter.all false
namespace Go.Proofs.YtjflbmpepamfjaaGreat
theorem aGl{p:Prop}(h:p:=by omega):p:=h
theorem aGm{p:Prop}(h:p:=by kernel_rfl):p:=h
theorem aGn{p:Prop}(h:p:=by simp):p:=h
theorem aGo{p:Prop}(h:p:=by decide):p:=h
@[match_pattern] abbrev aGt{α β:Type}(a:α):Option (α⊕β):=some (.inl a)
@[match_pattern] abbrev aGu{α β:Type}(a:β):Option (α⊕β):=some (.inr a)
abbrev io:=List Int
abbrev ip:=List Bool
abbrev jp:=List Nat
abbrev kw:=List Go.Value
abbrev lc:=Option Go.Addr
abbrev md(a b:Int):Int:=a+b
abbrev mt(l:List Int)(x:Int):Int:=l.getD x.toNat 0
abbrev ol(x:Int):Int:=Go.IntKind.wrap .i64 x
def pi:=@Nat.le_refl
def pm:=@List.getElem?_cons_zero
def pp:=@List.getElem?_toArray
def pu:=@beq_eq_false_iff_ne
def qr:=@Nat.le_of_ble_eq_true
def rg:=@List.getElem?_cons_succ
def ro:=@Nat.lt_of_lt_of_le
def rt:=@Nat.le_trans
def rx:=@if_neg
def ut:=@List.eq_nil_of_length_eq_zero
def ww:=@Nat.lt_or_ge
def At:=@List.mem_append
def AC:=@List.getElem?_eq_some_iff
def AI:=@Nat.zero_le
def AT:=@List.mem_cons
def By:=@List.take_of_length_le
def BT:=@List.getElem?_eq_none
def BY:=@if_pos
def Do:=@Prod.mk.injEq
def EQ:=@List.getElem_mem
def Fd:=@Int.eq_ofNat_of_zero_le
def Fn:=@List.flatMap_cons
def Fr:=@List.getElem?_append_left
def FS:=@List.take_append_drop
def GE:=@Bool.false_eq_true
def GT:=@List.length_nil
def Id:=@Int.toNat_natCast
def If:=@Nat.eq_zero_or_pos
def In:=@decide_eq_true_eq
def IN:=@List.mem_map
def IO:=@List.getElem?_append_right
def IR:=@Array.getElem?_setIfInBounds
def IS:=@List.map_cons
def IT:=@congrArg
def LT:=@Array.getD_eq_getD_getElem?
def Ne:=@List.flatMap_append
def Nm:=@List.nil_append
def NE:=@Nat.ne_of_beq_eq_false
def Or:=@Nat.lt_irrefl
def OF:=@List.mem_singleton
def Pi:=@of_decide_eq_true
def PP:=@Array.length_toList
def Rd:=@Array.toList_inj
def So:=@Nat.add_mul
def ST:=@List.cons_append
def UV:=@Nat.mul_le_mul_right
def WF:=@Go.Result.ok.injEq
def WP:=@List.mem_flatMap
def abs:=@List.mem_map_of_mem
def acl:=@Nat.blt_eq
def adc:=@Nat.add_assoc
def afE:=@Option.some.inj
def aig:=@List.ext_getElem?
def aiT:=@List.drop_eq_getElem_cons
def are:=@List.take_zero
def arg:=@Array.toArray_toList
def arm:=@List.mem_of_mem_take
def arC:=@Array.getElem?_eq_none
def ask:=@List.drop_eq_nil_of_le
def atR:=@List.pairwise_cons
def aux:=@Nat.add_zero
def avq:=@List.drop_length_add_append
def avC:=@Nat.ble_eq_true_of_le
def aEQ:=@List.any_eq_true
def aER:=@List.flatMap_nil
def aES:=@Array.mem_toList_iff
def aET:=@Option.isSome_none
def aEU:=@of_decide_eq_false
def aEV:=@List.flatMap_singleton
def aEW:=@List.sum_append
def aEX:=@List.flatMap_map
def aEY:=@List.all_eq_true
def aEZ:=@List.take_append_of_le_length
def aFa:=@and_true
def aFb:=@List.prefix_append
def aFc:=@beq_iff_eq
def aFd:=@List.getElem?_of_mem
def aFe:=@Int.le_of_lt
def aFf:=@Bool.and_eq_true
def aFg:=@List.take_succ_eq_append_getElem
def aFh:=@List.IsPrefix.trans
def aFi:=@List.map_nil
def aFj:=@List.range_succ
def aFk:=@if_false
def aFl:=@List.mem_cons_of_mem
def aFm:=@Nat.zero_add
def aFn:=@List.any_eq_false
def aFo:=@List.nodup_append
def aFp:=@List.length_range
def aFq:=@Nat.mul_lt_mul_of_pos_right
def aFr:=@List.take_length_add_append
def aFs:=@Array.getElem?_eq_some_iff
def aFt:=@List.mem_toArray
def aFu:=@List.length_drop
def aFv:=@List.getElem?_take
def aFw:=@List.set_eq_take_append_cons_drop
def aFx:=@if_true
def aFy:=@List.mem_take_iff_getElem
def aFz:=@List.mem_drop_iff_getElem
def aFA:=@Bool.or_eq_false_iff
def aFB:=@List.length_set
def aFC:=@Option.map_none
def aFD:=@List.cons.injEq
def aFE:=@Go.Value.slice.injEq
def aFF:=@List.map_map
def aFG:=@List.getElem?_replicate
def aFH:=@List.getElem?_range
def aFI:=@Array.getElem?_push
def aFJ:=@Nat.mod_eq_of_lt
def aFK:=@Array.mem_append
def aFL:=@Int.not_lt
def aFM:=@Array.getElem?_modify
def aFN:=@Option.map_some
def aFO:=@List.getElem?_set
def aFP:=@List.foldl_append
def aFQ:=@List.setIfInBounds_toArray
def aFR:=@Array.getElem?_append_left
def aFS:=@Decidable.byContradiction
def aFT:=@List.mem_range
def aFU:=@Array.mapM_eq_mapM_toList
def aFV:=@List.getElem_of_mem
def aFW:=@List.map_congr_left
def aFX:=@List.forall_mem_nil
def aFY:=@Nat.mod_eq_sub_mod
def aFZ:=@List.getElem?_drop
def aGa:=@Bool.false_or
def aGb:=@List.sum_cons
def aGc:=@Bool.false_ne_true
def aGd:=@Nat.min_eq_left
def aGe:=@List.filter_eq_nil_iff
def aGf:=@List.take_add_one
def aGg:=@List.size_toArray
def aGh:=@List.drop_drop
def aGi:=@Nat.le_add_right
def aGj:=@Go.Next.value.injEq
def aGk:=@true_and
variable{α:Type _}{l:List α}{i:Nat}
theorem bF(h:i<l.length):l[i]?=some l[i]:=List.getElem?_eq_getElem h
variable{β:Type _}
theorem aR(f:α->β):(l.map f).length=l.length:=List.length_map f
variable{m:List α}
theorem aO:(l++m).length=l.length+m.length:=List.length_append
theorem aK{n m:Nat}:Nat.beq n m=true->n=m:=Nat.eq_of_beq_eq_true
variable{a:α}
theorem fq:l.getD i a=l[i]?.getD a:=List.getD_eq_getElem?_getD
variable{f:α->β}
theorem dO:(l.map f)[i]?=Option.map f l[i]?:=List.getElem?_map
theorem cF:(a::l).length=l.length+1:=List.length_cons
theorem bV(a b c:List α):a++b++c=a++(b++c):=List.append_assoc a b c
theorem ep(h:l[i]?=some a):a∈l:=List.mem_of_getElem? h
theorem fD:(l.take i).length=min i l.length:=List.length_take
theorem gb:l.take l.length=l:=List.take_length
theorem dJ(l:List α):l++[]=l:=List.append_nil l
theorem dE:(l++m).map f=l.map f++m.map f:=List.map_append
theorem bo(a b:α):(some a=some b)=(a=b):=Option.some.injEq a b
variable{p:Prop}
theorem iU[Decidable p]:p->decide p=true:=decide_eq_true
theorem jG[Decidable p]:¬p->decide p=false:=decide_eq_false
abbrev fW{A B C D E:Type}(x:A×B×C×D×E):D:=x.2.2.2.1
abbrev EC{A B C D:Type}(x:A×B×C×D):D:=x.2.2.2
abbrev gp{A B C D E F:Type}(x:A×B×C×D×E×F):E:=x.2.2.2.2.1
abbrev iA{A B C D E F G:Type}(x:A×B×C×D×E×F×G):F:=x.2.2.2.2.2.1
abbrev jE{A B C D E F G H:Type}(x:A×B×C×D×E×F×G×H):G:=x.2.2.2.2.2.2.1
abbrev jF{A B C D E F G H I:Type}(x:A×B×C×D×E×F×G×H×I):H:=x.2.2.2.2.2.2.2.1
abbrev kz{A B C D E F G H I J:Type}(x:A×B×C×D×E×F×G×H×I×J):I:=x.2.2.2.2.2.2.2.2.1
abbrev nM{A B C D E F G H I J K:Type}(x:A×B×C×D×E×F×G×H×I×J×K):J:=x.2.2.2.2.2.2.2.2.2.1
abbrev gi{A B C D E F G H I J K L:Type}(x:A×B×C×D×E×F×G×H×I×J×K×L):K:=x.2.2.2.2.2.2.2.2.2.2.1
abbrev pz{A B C D E F G H I J K L:Type}(x:A×B×C×D×E×F×G×H×I×J×K×L):L:=x.2.2.2.2.2.2.2.2.2.2.2
abbrev Zw{A B C D E F G H I J K L M:Type}(x:A×B×C×D×E×F×G×H×I×J×K×L×M):L:=x.2.2.2.2.2.2.2.2.2.2.2.1
abbrev pA{A B C D E F G H I J K L M N:Type}(x:A×B×C×D×E×F×G×H×I×J×K×L×M×N):M:=x.2.2.2.2.2.2.2.2.2.2.2.2.1
abbrev ot{A B C D E F G H I J K L M:Type}(x:A×B×C×D×E×F×G×H×I×J×K×L×M):M:=x.2.2.2.2.2.2.2.2.2.2.2.2
