import Derived.LoopN
set_option linter.unusedVariables false
namespace Go.Proofs.YtkcpdpplobhpaaaGreat
theorem aN{α:Type _}{l:List α}{i:Nat}(h:i<l.length):l[i]?=some l[i]:=List.getElem?_eq_getElem h
theorem aI{α β:Type _}{l:List α}(f:α->β):(l.map f).length=l.length:=List.length_map f
theorem aU{α:Type _}{l m:List α}:(l++m).length=l.length+m.length:=List.length_append
theorem bD{n m:Nat}:Nat.beq n m=true->n=m:=Nat.eq_of_beq_eq_true
theorem bM{α:Type _}{l:List α}{i:Nat}{a:α}:l.getD i a=l[i]?.getD a:=List.getD_eq_getElem?_getD
theorem bT{α β:Type _}{f:α->β}{l:List α}{i:Nat}:(l.map f)[i]?=Option.map f l[i]?:=List.getElem?_map
theorem cp{α:Type _}{a:α}{l:List α}:(a::l).length=l.length+1:=List.length_cons
theorem cz{α:Type _}(a b c:List α):a++b++c=a++(b++c):=List.append_assoc a b c
theorem dc{α:Type _}{l:List α}{i:Nat}{a:α}(h:l[i]?=some a):a∈l:=List.mem_of_getElem? h
theorem dx{α:Type _}{i:Nat}{l:List α}:(l.take i).length=min i l.length:=List.length_take
theorem dS{α:Type _}{l:List α}:l.take l.length=l:=List.take_length
theorem dB{α:Type _}(l:List α):l++[]=l:=List.append_nil l
theorem sF{α:Type _}{n:Nat}{a:α}:(List.replicate n a).length=n:=List.length_replicate
theorem eJ{α β:Type _}{f:α->β}{l m:List α}:(l++m).map f=l.map f++m.map f:=List.map_append
theorem bV{α:Type _}(a b:α):(some a=some b)=(a=b):=Option.some.injEq a b
theorem bG{p:Prop}[Decidable p]:p->decide p=true:=decide_eq_true
theorem cw{p:Prop}[Decidable p]:¬p->decide p=false:=decide_eq_false
theorem aS(n:Nat):n<=n:=Nat.le_refl n
theorem dq(n:Nat):0<=n:=Nat.zero_le n
theorem dk{α:Type _}{l:List α}{n:Nat}(h:n<l.length):l[n]∈l:=List.getElem_mem h
theorem iS{n m k:Nat}:n<m->m<=k->n<k:=Nat.lt_of_lt_of_le
theorem dK{n m k:Nat}:n<=m->m<=k->n<=k:=Nat.le_trans
theorem eD(n:Nat):(n:Int).toNat=n:=Int.toNat_natCast n
theorem ep{α:Type _}{l:List α}{i:Nat}(h:l.length<=i):l[i]?=none:=List.getElem?_eq_none h
theorem jd{α:Type _}{l:List α}:l.length=0->l=[]:=List.eq_nil_of_length_eq_zero
theorem ie{a:Int}(h:0<=a):∃n:Nat,a=n:=Int.eq_ofNat_of_zero_le h
theorem de(a b:Nat):a<b\/a>=b:=Nat.lt_or_ge a b
theorem eK{α:Type _}(y:α){a:α}{l:List α}:a∈l->a∈y::l:=List.mem_cons_of_mem y
theorem fR{α:Type _}{i:Nat}{l:List α}(h:l.length<=i):l.take i=l:=List.take_of_length_le h
abbrev rN{A B C D:Type}(x:A×B×C×D):D:=x.2.2.2
abbrev cJ{A B C D E:Type}(x:A×B×C×D×E):D:=x.2.2.2.1
abbrev cK{A B C D E F:Type}(x:A×B×C×D×E×F):E:=x.2.2.2.2.1
abbrev qq4{A B C D E:Type}(x:A×B×C×D×E):E:=x.2.2.2.2
abbrev cT{A B C D E F G:Type}(x:A×B×C×D×E×F×G):F:=x.2.2.2.2.2.1
abbrev qq5{A B C D E F:Type}(x:A×B×C×D×E×F):F:=x.2.2.2.2.2
abbrev cO{A B C D E F G H:Type}(x:A×B×C×D×E×F×G×H):G:=x.2.2.2.2.2.2.1
abbrev dt{A B C D E F G H I:Type}(x:A×B×C×D×E×F×G×H×I):H:=x.2.2.2.2.2.2.2.1
abbrev dX{A B C D E F G H I J:Type}(x:A×B×C×D×E×F×G×H×I×J):I:=x.2.2.2.2.2.2.2.2.1
abbrev qq8{A B C D E F G H I:Type}(x:A×B×C×D×E×F×G×H×I):I:=x.2.2.2.2.2.2.2.2
abbrev fu{A B C D E F G H I J K:Type}(x:A×B×C×D×E×F×G×H×I×J×K):J:=x.2.2.2.2.2.2.2.2.2.1
abbrev dD{A B C D E F G H I J K L:Type}(x:A×B×C×D×E×F×G×H×I×J×K×L):K:=x.2.2.2.2.2.2.2.2.2.2.1
abbrev jg{A B C D E F G H I J K L M:Type}(x:A×B×C×D×E×F×G×H×I×J×K×L×M):L:=x.2.2.2.2.2.2.2.2.2.2.2.1
abbrev ni{A B C D E F G H I J K L:Type}(x:A×B×C×D×E×F×G×H×I×J×K×L):L:=x.2.2.2.2.2.2.2.2.2.2.2
abbrev fF{A B C D E F G H I J K L M N:Type}(x:A×B×C×D×E×F×G×H×I×J×K×L×M×N):M:=x.2.2.2.2.2.2.2.2.2.2.2.2.1
abbrev eh{A B C D E F G H I J K L M:Type}(x:A×B×C×D×E×F×G×H×I×J×K×L×M):M:=x.2.2.2.2.2.2.2.2.2.2.2.2
