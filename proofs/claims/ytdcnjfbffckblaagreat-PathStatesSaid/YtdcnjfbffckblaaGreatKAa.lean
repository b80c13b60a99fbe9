import Derived.LoopN
set_option linter.unusedVariables false
namespace Go.Proofs.YtdcnjfbffckblaaGreat
theorem bu{α:Type _}{l:List α}{i:Nat}(h:i<l.length):l[i]?=some l[i]:=List.getElem?_eq_getElem h
theorem aK{α β:Type _}{l:List α}(f:α->β):(l.map f).length=l.length:=List.length_map f
theorem bA{α:Type _}{l m:List α}:(l++m).length=l.length+m.length:=List.length_append
theorem aA{n m:Nat}:Nat.beq n m=true->n=m:=Nat.eq_of_beq_eq_true
theorem dP{α:Type _}{l:List α}{i:Nat}{a:α}:l.getD i a=l[i]?.getD a:=List.getD_eq_getElem?_getD
theorem bT{α β:Type _}{f:α->β}{l:List α}{i:Nat}:(l.map f)[i]?=Option.map f l[i]?:=List.getElem?_map
theorem cx{α:Type _}{a:α}{l:List α}:(a::l).length=l.length+1:=List.length_cons
theorem dn{α:Type _}(a b c:List α):a++b++c=a++(b++c):=List.append_assoc a b c
theorem cK{α:Type _}{l:List α}{i:Nat}{a:α}(h:l[i]?=some a):a∈l:=List.mem_of_getElem? h
theorem df{α:Type _}{i:Nat}{l:List α}:(l.take i).length=min i l.length:=List.length_take
theorem dC{α:Type _}{l:List α}:l.take l.length=l:=List.take_length
theorem fR{α:Type _}(l:List α):l++[]=l:=List.append_nil l
theorem dN{α β:Type _}{f:α->β}{l m:List α}:(l++m).map f=l.map f++m.map f:=List.map_append
theorem aX{α:Type _}(a b:α):(some a=some b)=(a=b):=Option.some.injEq a b
theorem bF{p:Prop}[Decidable p]:p->decide p=true:=decide_eq_true
theorem cw{p:Prop}[Decidable p]:¬p->decide p=false:=decide_eq_false
abbrev gJ{A B C D E:Type}(x:A×B×C×D×E):D:=x.2.2.2.1
abbrev RK{A B C D:Type}(x:A×B×C×D):D:=x.2.2.2
abbrev qq4{A B C D E:Type}(x:A×B×C×D×E):E:=x.2.2.2.2
abbrev mE{A B C D E F:Type}(x:A×B×C×D×E×F):E:=x.2.2.2.2.1
abbrev mF{A B C D E F G:Type}(x:A×B×C×D×E×F×G):F:=x.2.2.2.2.2.1
abbrev kq{A B C D E F G H:Type}(x:A×B×C×D×E×F×G×H):G:=x.2.2.2.2.2.2.1
abbrev mG{A B C D E F G H I:Type}(x:A×B×C×D×E×F×G×H×I):H:=x.2.2.2.2.2.2.2.1
abbrev ze{A B C D E F G H I J:Type}(x:A×B×C×D×E×F×G×H×I×J):I:=x.2.2.2.2.2.2.2.2.1
abbrev zf{A B C D E F G H I J K:Type}(x:A×B×C×D×E×F×G×H×I×J×K):J:=x.2.2.2.2.2.2.2.2.2.1
abbrev l6{A B C D E F G H I J K L:Type}(x:A×B×C×D×E×F×G×H×I×J×K×L):K:=x.2.2.2.2.2.2.2.2.2.2.1
abbrev k7{A B C D E F G H I J K L M:Type}(x:A×B×C×D×E×F×G×H×I×J×K×L×M):L:=x.2.2.2.2.2.2.2.2.2.2.2.1
abbrev Ei{A B C D E F G H I J K L M:Type}(x:A×B×C×D×E×F×G×H×I×J×K×L×M):M:=x.2.2.2.2.2.2.2.2.2.2.2.2
abbrev Z2{A B C D E F G H I J K L M N:Type}(x:A×B×C×D×E×F×G×H×I×J×K×L×M×N):M:=x.2.2.2.2.2.2.2.2.2.2.2.2.1
