import Derived.KernelRfl
import Derived.LoopN
set_option linter.all false
namespace Go.Proofs.YtmkbdfidnfmgmaaGreat
theorem atO{p:Prop}(h:p:=by omega):p:=h
theorem atP{p:Prop}(h:p:=by kernel_rfl):p:=h
theorem atQ{p:Prop}(h:p:=by simp):p:=h
theorem atS{p:Prop}(h:p:=by decide):p:=h
@[match_pattern] abbrev atY{α β:Type}(a:α):Option (α⊕β):=some (.inl a)
@[match_pattern] abbrev atZ{α β:Type}(a:β):Option (α⊕β):=some (.inr a)
abbrev jp:=List Int
abbrev md:=List Bool
abbrev mt:=List Nat
abbrev pi:=List Go.Value
abbrev pm:=Option Go.Addr
abbrev pp(a b:Int):Int:=a+b
abbrev pu(l:List Int)(x:Int):Int:=l.getD x.toNat 0
abbrev qr(x:Int):Int:=Go.IntKind.wrap .i64 x
def rc:=@List.mem_append
def rg:=@List.mem_flatMap
def ro:=@List.mem_map
def rt:=@Nat.le_refl
def rx:=@List.nodup_append
def ut:=@List.getElem?_eq_some_iff
def ww:=@List.eq_nil_of_length_eq_zero
def AC:=@List.mem_append_left
def AI:=@List.mem_map_of_mem
def AT:=@List.flatMap_cons
def By:=@List.getElem_mem
def BT:=@if_neg
def BY:=@Int.eq_ofNat_of_zero_le
def Do:=@Option.some.inj
def EQ:=@List.mem_append_right
def Fd:=@List.getElem?_cons_zero
def Fn:=@List.map_map
def Fr:=@List.getElem?_of_mem
def FS:=@List.mem_cons_of_mem
def GE:=@List.mem_cons
def GT:=@Nat.zero_le
def Id:=@List.mem_range
def If:=@List.take_of_length_le
def In:=@List.all_eq_true
def IN:=@List.mem_cons_self
def IO:=@if_pos
def IR:=@decide_eq_true_eq
def IS:=@Nat.le_trans
def IT:=@List.length_nil
def LT:=@List.take_append_drop
def Ne:=@Int.toNat_natCast
def NE:=@List.mem_singleton
def Or:=@List.getElem?_toArray
def OF:=@List.flatMap_append
def Pi:=@List.getElem?_append_left
def PP:=@congrArg
def ST:=@Nat.eq_zero_or_pos
def UV:=@List.nil_append
def WF:=@List.getElem?_append_right
def WP:=@Nat.lt_of_lt_of_le
def abs:=@List.getElem?_eq_none
def acl:=@List.length_set
def act:=@Bool.and_eq_true
def adc:=@Nat.le_of_ble_eq_true
def aig:=@of_decide_eq_true
def are:=@List.map_congr_left
def arg:=@List.mem_filter
def arm:=@Nat.lt_or_ge
def arH:=@List.mem_zipIdx_iff_getElem?
def arI:=@List.map_cons
def arJ:=@Prod.mk.injEq
def arK:=@List.getElem?_set_self
def arL:=@Nat.not_lt_zero
def arM:=@List.cons_append
def arN:=@List.nodup_iff_pairwise_ne
def arO:=@List.getElem_of_mem
def arP:=@Nat.mul_le_mul_right
def arQ:=@List.getElem?_zip_eq_some
def arR:=@List.take_zero
def arS:=@Int.toNat_of_nonneg
def arT:=@List.getElem?_range
def arU:=@List.nodup_cons
def arV:=@List.getElem?_cons_succ
def arW:=@List.ext_getElem?
def arX:=@List.pairwise_cons
def arY:=@List.fst_mem_of_mem_zipIdx
def arZ:=@List.flatMap_nil
def asa:=@List.filter_append
def asb:=@List.pairwise_iff_getElem
def asc:=@Nat.add_mul
def asd:=@List.foldl_append
def ase:=@Nat.zero_add
def asf:=@Array.getElem?_eq_some_iff
def asg:=@List.range_succ
def ash:=@List.mem_of_mem_take
def asi:=@Nat.ne_of_beq_eq_false
def asj:=@Option.map_eq_some_iff
def ask:=@List.drop_length_add_append
def asl:=@List.length_drop
def asm:=@Array.toList_inj
def asn:=@List.flatMap_map
def aso:=@List.drop_eq_nil_of_le
def asp:=@Nat.add_assoc
def asq:=@List.filter_cons
def asr:=@List.take_append_of_le_length
def ass:=@Array.length_toList
def ast:=@List.getElem?_eq_getElem
def asu:=@List.pairwise_map
def asv:=@List.Perm.append_left
def asw:=@Array.getElem?_setIfInBounds
def asx:=@Nat.min_eq_left
def asy:=@List.take_length_add_append
def asz:=@Bool.false_eq_true
def asA:=@Array.getD_eq_getD_getElem?
def asB:=@List.prefix_append
def asC:=@List.any_eq_true
def asD:=@List.take_succ_eq_append_getElem
def asE:=@List.IsPrefix.trans
def asF:=@Nat.add_zero
def asG:=@List.map_nil
def asH:=@List.cons.injEq
def asI:=@List.append_of_mem
def asJ:=@List.Pairwise.imp_of_mem
def asK:=@of_decide_eq_false
def asL:=@Array.mem_toList_iff
def asM:=@Bool.or_eq_false_iff
def asN:=@Nat.succ_mul
def asO:=@List.length_range
def asP:=@Go.Value.slice.injEq
def asQ:=@Int.le_refl
def asR:=@Go.Result.ok.injEq
def asS:=@Nat.le_of_lt
def asT:=@List.getElem?_zipWith
def asU:=@List.set_eq_take_append_cons_drop
def asV:=@List.drop_eq_getElem_cons
def asW:=@List.mem_take_iff_getElem
def asX:=@List.mem_drop_iff_getElem
def asY:=@and_true
def asZ:=@Array.toArray_toList
def ata:=@Array.replicate_succ
def atb:=@Array.replicate_zero
def atc:=@List.any_map
def atd:=@List.filter_sublist
def ate:=@decide_eq_false_iff_not
def atf:=@List.getElem?_replicate
def atg:=@List.append_toArray
def ath:=@List.getElem_map
def ati:=@List.map_fst_zip
def atj:=@List.filter_eq_nil_iff
def atk:=@List.getElem?_take
def atl:=@List.getElem?_drop
def atm:=@BitVec.toNat_ofInt
def atn:=@List.foldl_cons
def ato:=@Nat.le_of_eq
def atp:=@List.size_toArray
def atq:=@List.push_toArray
def atr:=@Array.toList_setIfInBounds
def ats:=@List.setIfInBounds_toArray
def att:=@Int.fdiv_eq_ediv_of_nonneg
def atu:=@List.getElem?_set_ne
def atv:=@List.pairwise_append
def atw:=@List.take_left
def atx:=@List.drop_drop
def aty:=@List.nodup_nil
def atz:=@List.forall_mem_nil
def atA:=@Nat.blt_eq
def atB:=@List.take_append_getElem
def atC:=@Nat.add_sub_cancel_left
def atD:=@Bool.eq_iff_iff
def atE:=@List.set_cons_zero
def atF:=@Array.getElem?_eq_none
def atG:=@List.pairwise_lt_range
def atH:=@Bool.not_eq_true'
def atI:=@Nat.add_comm
def atJ:=@Nat.mod_eq_of_lt
def atK:=@List.ext_getElem
def atL:=@List.not_mem_nil
def atM:=@List.mem_toArray
def atN:=@Array.mem_append
variable{i:Nat}{α:Type _}{l:List α}
theorem ba(h:i<l.length):l[i]?=some l[i]:=List.getElem?_eq_getElem h
variable{β:Type _}
theorem aP(f:α->β):(l.map f).length=l.length:=List.length_map f
variable{m:List α}
theorem bU:(l++m).length=l.length+m.length:=List.length_append
variable{n:Nat}
theorem cB{m:Nat}:Nat.beq n m=true->n=m:=Nat.eq_of_beq_eq_true
variable{a:α}
theorem eu:l.getD i a=l[i]?.getD a:=List.getD_eq_getElem?_getD
variable{f:α->β}
theorem ct:(l.map f)[i]?=Option.map f l[i]?:=List.getElem?_map
theorem di:(a::l).length=l.length+1:=List.length_cons
theorem bB(a b c:List α):a++b++c=a++(b++c):=List.append_assoc a b c
theorem dy(h:l[i]?=some a):a∈l:=List.mem_of_getElem? h
theorem fx:(l.take i).length=min i l.length:=List.length_take
theorem eX:l.take l.length=l:=List.take_length
theorem d6(l:List α):l++[]=l:=List.append_nil l
theorem gp:(List.replicate n a).length=n:=List.length_replicate
theorem d7:(l++m).map f=l.map f++m.map f:=List.map_append
theorem cM(a b:α):(some a=some b)=(a=b):=Option.some.injEq a b
variable{p:Prop}
theorem dt[Decidable p]:p->decide p=true:=decide_eq_true
theorem eY[Decidable p]:¬p->decide p=false:=decide_eq_false
abbrev cT{A B C D E:Type}(x:A×B×C×D×E):D:=x.2.2.2.1
abbrev xD{A B C D:Type}(x:A×B×C×D):D:=x.2.2.2
abbrev cQ{A B C D E F:Type}(x:A×B×C×D×E×F):E:=x.2.2.2.2.1
abbrev cK{A B C D E F G:Type}(x:A×B×C×D×E×F×G):F:=x.2.2.2.2.2.1
abbrev cU{A B C D E F G H:Type}(x:A×B×C×D×E×F×G×H):G:=x.2.2.2.2.2.2.1
abbrev qq6{A B C D E F G:Type}(x:A×B×C×D×E×F×G):G:=x.2.2.2.2.2.2
abbrev dz{A B C D E F G H I:Type}(x:A×B×C×D×E×F×G×H×I):H:=x.2.2.2.2.2.2.2.1
abbrev dZ{A B C D E F G H I J:Type}(x:A×B×C×D×E×F×G×H×I×J):I:=x.2.2.2.2.2.2.2.2.1
abbrev T6{A B C D E F G H I J:Type}(x:A×B×C×D×E×F×G×H×I×J):J:=x.2.2.2.2.2.2.2.2.2
abbrev eS{A B C D E F G H I J K:Type}(x:A×B×C×D×E×F×G×H×I×J×K):J:=x.2.2.2.2.2.2.2.2.2.1
abbrev dH{A B C D E F G H I J K L:Type}(x:A×B×C×D×E×F×G×H×I×J×K×L):K:=x.2.2.2.2.2.2.2.2.2.2.1
abbrev fW{A B C D E F G H I J K L M:Type}(x:A×B×C×D×E×F×G×H×I×J×K×L×M):L:=x.2.2.2.2.2.2.2.2.2.2.2.1
abbrev rj{A B C D E F G H I J K L:Type}(x:A×B×C×D×E×F×G×H×I×J×K×L):L:=x.2.2.2.2.2.2.2.2.2.2.2
abbrev fK{A B C D E F G H I J K L M N:Type}(x:A×B×C×D×E×F×G×H×I×J×K×L×M×N):M:=x.2.2.2.2.2.2.2.2.2.2.2.2.1
abbrev aW{A B C D E F G H I J K L M:Type}(x:A×B×C×D×E×F×G×H×I×J×K×L×M):M:=x.2.2.2.2.2.2.2.2.2.2.2.2
