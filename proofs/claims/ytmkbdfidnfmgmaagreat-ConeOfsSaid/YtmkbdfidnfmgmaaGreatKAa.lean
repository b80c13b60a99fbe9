import Derived.KernelRfl
import Derived.LoopN
set_option linter.all false
namespace Go.Proofs.YtmkbdfidnfmgmaaGreat
theorem auc{p:Prop}(h:p:=by omega):p:=h
theorem aud{p:Prop}(h:p:=by kernel_rfl):p:=h
theorem aue{p:Prop}(h:p:=by simp):p:=h
theorem auf{p:Prop}(h:p:=by decide):p:=h
@[match_pattern] abbrev aul{α β:Type}(a:α):Option (α⊕β):=some (.inl a)
@[match_pattern] abbrev aum{α β:Type}(a:β):Option (α⊕β):=some (.inr a)
abbrev jp:=List Int
abbrev kw:=List Bool
abbrev md:=List Nat
abbrev mt:=List Go.Value
abbrev pi:=Option Go.Addr
abbrev pm(a b:Int):Int:=a+b
abbrev pp(l:List Int)(x:Int):Int:=l.getD x.toNat 0
abbrev pu(x:Int):Int:=Go.IntKind.wrap .i64 x
def qr:=@List.mem_append
def rc:=@List.mem_flatMap
def rg:=@List.getElem?_eq_some_iff
def ro:=@Nat.le_refl
def rt:=@List.mem_map
def rx:=@List.nodup_append
def ut:=@List.getElem_mem
def ww:=@List.flatMap_cons
def AC:=@List.eq_nil_of_length_eq_zero
def AI:=@List.mem_append_left
def AT:=@List.mem_map_of_mem
def By:=@Int.eq_ofNat_of_zero_le
def BT:=@List.flatMap_append
def BY:=@Option.some.inj
def Do:=@Nat.zero_le
def EQ:=@Nat.le_trans
def Fd:=@List.mem_append_right
def Fn:=@List.mem_cons
def Fr:=@if_neg
def FS:=@List.getElem?_cons_zero
def GE:=@List.mem_singleton
def GT:=@List.take_append_drop
def Id:=@List.mem_cons_of_mem
def If:=@List.length_nil
def In:=@List.getElem?_append_right
def IN:=@List.getElem?_toArray
def IO:=@if_pos
def IR:=@List.map_map
def IS:=@decide_eq_true_eq
def IT:=@List.take_of_length_le
def LT:=@List.getElem?_of_mem
def Ne:=@List.getElem?_append_left
def NE:=@List.flatMap_nil
def Or:=@Nat.eq_zero_or_pos
def OF:=@congrArg
def Pi:=@List.mem_cons_self
def PP:=@List.nil_append
def ST:=@Int.toNat_natCast
def UV:=@List.map_cons
def WF:=@List.map_congr_left
def WP:=@List.take_zero
def abs:=@Nat.le_of_ble_eq_true
def acl:=@List.all_eq_true
def act:=@List.mem_range
def adc:=@Nat.lt_or_ge
def aig:=@List.length_set
def are:=@List.filter_append
def arg:=@List.mem_zipIdx_iff_getElem?
def arm:=@Nat.lt_of_lt_of_le
def asf:=@List.mem_of_mem_take
def asg:=@Prod.mk.injEq
def ash:=@List.getElem_of_mem
def asi:=@List.length_range
def asj:=@List.getElem?_eq_none
def ask:=@List.cons_append
def asl:=@of_decide_eq_true
def asm:=@Nat.mul_le_mul_right
def asn:=@Nat.not_lt_zero
def aso:=@List.foldl_append
def asp:=@Bool.and_eq_true
def asq:=@List.filter_cons
def asr:=@List.map_nil
def ass:=@List.drop_eq_getElem_cons
def ast:=@List.flatMap_singleton
def asu:=@List.fst_mem_of_mem_zipIdx
def asv:=@List.mem_filter
def asw:=@List.getElem?_cons_succ
def asx:=@Int.toNat_of_nonneg
def asy:=@Option.map_eq_some_iff
def asz:=@Nat.zero_add
def asA:=@List.range_succ
def asB:=@Array.getElem?_eq_some_iff
def asC:=@Nat.add_mul
def asD:=@List.ext_getElem?
def asE:=@List.getElem?_set_self
def asF:=@Nat.ne_of_beq_eq_false
def asG:=@List.drop_eq_nil_of_le
def asH:=@List.pairwise_cons
def asI:=@List.filter_sublist
def asJ:=@List.drop_length_add_append
def asK:=@List.flatMap_map
def asL:=@Bool.false_eq_true
def asM:=@of_decide_eq_false
def asN:=@List.pairwise_iff_getElem
def asO:=@Nat.min_eq_left
def asP:=@Nat.add_assoc
def asQ:=@List.any_eq_true
def asR:=@List.length_drop
def asS:=@List.take_append_of_le_length
def asT:=@Array.length_toList
def asU:=@List.Perm.append_left
def asV:=@Array.getElem?_setIfInBounds
def asW:=@List.take_length_add_append
def asX:=@Array.getD_eq_getD_getElem?
def asY:=@List.prefix_append
def asZ:=@Nat.le_of_lt
def ata:=@Array.toList_inj
def atb:=@List.take_succ_eq_append_getElem
def atc:=@List.nodup_iff_pairwise_ne
def atd:=@List.getElem?_range
def ate:=@List.IsPrefix.trans
def atf:=@Nat.add_zero
def atg:=@List.filter_nil
def ath:=@Array.mem_toList_iff
def ati:=@List.getElem?_replicate
def atj:=@Nat.succ_mul
def atk:=@Go.Value.slice.injEq
def atl:=@List.set_eq_take_append_cons_drop
def atm:=@Int.le_refl
def atn:=@List.mem_take_iff_getElem
def ato:=@List.mem_drop_iff_getElem
def atp:=@Array.toArray_toList
def atq:=@Array.replicate_succ
def atr:=@Array.replicate_zero
def ats:=@Bool.or_eq_false_iff
def att:=@List.nodup_cons
def atu:=@List.pairwise_map
def atv:=@List.cons.injEq
def atw:=@Go.Result.ok.injEq
def atx:=@List.any_map
def aty:=@Nat.add_sub_cancel_left
def atz:=@List.append_toArray
def atA:=@List.getElem_map
def atB:=@List.filter_eq_nil_iff
def atC:=@List.getElem?_take
def atD:=@List.append_of_mem
def atE:=@List.getElem?_drop
def atF:=@and_true
def atG:=@List.size_toArray
def atH:=@List.push_toArray
def atI:=@Array.toList_setIfInBounds
def atJ:=@List.setIfInBounds_toArray
def atK:=@List.getElem?_zip_eq_some
def atL:=@List.take_left
def atM:=@List.drop_drop
def atN:=@List.nodup_nil
def atO:=@List.forall_mem_nil
def atP:=@Nat.blt_eq
def atQ:=@List.take_append_getElem
def atR:=@Bool.eq_iff_iff
def atS:=@List.set_cons_zero
def atT:=@Array.getElem?_eq_none
def atU:=@Nat.le_of_eq
def atV:=@Nat.mod_eq_of_lt
def atW:=@List.ext_getElem
def atX:=@List.not_mem_nil
def atY:=@List.mem_toArray
def atZ:=@Array.mem_append
def aua:=@if_false
def aub:=@if_true
variable{i:Nat}{α:Type _}{l:List α}
theorem bA(h:i<l.length):l[i]?=some l[i]:=List.getElem?_eq_getElem h
variable{β:Type _}
theorem aG(f:α->β):(l.map f).length=l.length:=List.length_map f
variable{m:List α}
theorem bF:(l++m).length=l.length+m.length:=List.length_append
variable{n:Nat}
theorem db{m:Nat}:Nat.beq n m=true->n=m:=Nat.eq_of_beq_eq_true
variable{a:α}
theorem ff:l.getD i a=l[i]?.getD a:=List.getD_eq_getElem?_getD
variable{f:α->β}
theorem cW:(l.map f)[i]?=Option.map f l[i]?:=List.getElem?_map
theorem dG:(a::l).length=l.length+1:=List.length_cons
theorem bM(a b c:List α):a++b++c=a++(b++c):=List.append_assoc a b c
theorem d5(h:l[i]?=some a):a∈l:=List.mem_of_getElem? h
theorem dK:(l.take i).length=min i l.length:=List.length_take
theorem cV:l.take l.length=l:=List.take_length
theorem di(l:List α):l++[]=l:=List.append_nil l
theorem fx:(List.replicate n a).length=n:=List.length_replicate
theorem cH:(l++m).map f=l.map f++m.map f:=List.map_append
theorem dm(a b:α):(some a=some b)=(a=b):=Option.some.injEq a b
variable{p:Prop}
theorem fm[Decidable p]:p->decide p=true:=decide_eq_true
theorem jC[Decidable p]:¬p->decide p=false:=decide_eq_false
abbrev cu{A B C D E:Type}(x:A×B×C×D×E):D:=x.2.2.2.1
abbrev nk{A B C D:Type}(x:A×B×C×D):D:=x.2.2.2
abbrev cB{A B C D E F:Type}(x:A×B×C×D×E×F):E:=x.2.2.2.2.1
abbrev qq4{A B C D E:Type}(x:A×B×C×D×E):E:=x.2.2.2.2
abbrev cG{A B C D E F G:Type}(x:A×B×C×D×E×F×G):F:=x.2.2.2.2.2.1
abbrev JS{A B C D E F:Type}(x:A×B×C×D×E×F):F:=x.2.2.2.2.2
abbrev c9{A B C D E F G H:Type}(x:A×B×C×D×E×F×G×H):G:=x.2.2.2.2.2.2.1
abbrev Uv{A B C D E F G:Type}(x:A×B×C×D×E×F×G):G:=x.2.2.2.2.2.2
abbrev dj{A B C D E F G H I:Type}(x:A×B×C×D×E×F×G×H×I):H:=x.2.2.2.2.2.2.2.1
abbrev qq7{A B C D E F G H:Type}(x:A×B×C×D×E×F×G×H):H:=x.2.2.2.2.2.2.2
abbrev dN{A B C D E F G H I J:Type}(x:A×B×C×D×E×F×G×H×I×J):I:=x.2.2.2.2.2.2.2.2.1
abbrev ef{A B C D E F G H I J K:Type}(x:A×B×C×D×E×F×G×H×I×J×K):J:=x.2.2.2.2.2.2.2.2.2.1
abbrev JT{A B C D E F G H I J:Type}(x:A×B×C×D×E×F×G×H×I×J):J:=x.2.2.2.2.2.2.2.2.2
abbrev dE{A B C D E F G H I J K L:Type}(x:A×B×C×D×E×F×G×H×I×J×K×L):K:=x.2.2.2.2.2.2.2.2.2.2.1
abbrev fj{A B C D E F G H I J K L M:Type}(x:A×B×C×D×E×F×G×H×I×J×K×L×M):L:=x.2.2.2.2.2.2.2.2.2.2.2.1
abbrev qe{A B C D E F G H I J K L:Type}(x:A×B×C×D×E×F×G×H×I×J×K×L):L:=x.2.2.2.2.2.2.2.2.2.2.2
abbrev aV{A B C D E F G H I J K L M:Type}(x:A×B×C×D×E×F×G×H×I×J×K×L×M):M:=x.2.2.2.2.2.2.2.2.2.2.2.2
abbrev eW{A B C D E F G H I J K L M N:Type}(x:A×B×C×D×E×F×G×H×I×J×K×L×M×N):M:=x.2.2.2.2.2.2.2.2.2.2.2.2.1
