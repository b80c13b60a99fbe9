import Derived.LoopN
set_option linter.unusedVariables false
namespace Go.Proofs.YtkcpdpplobhpaaaGreat
theorem aT{α:Type _}{l:List α}{i:Nat}(h:i<l.length):l[i]?=some l[i]:=List.getElem?_eq_getElem h
theorem aO{α β:Type _}{l:List α}(f:α->β):(l.map f).length=l.length:=List.length_map f
theorem aW{α:Type _}{l m:List α}:(l++m).length=l.length+m.length:=List.length_append
theorem bE{n m:Nat}:Nat.beq n m=true->n=m:=Nat.eq_of_beq_eq_true
theorem dC{α:Type _}{l:List α}{i:Nat}{a:α}:l.getD i a=l[i]?.getD a:=List.getD_eq_getElem?_getD
theorem cg{α β:Type _}{f:α->β}{l:List α}{i:Nat}:(l.map f)[i]?=Option.map f l[i]?:=List.getElem?_map
theorem ca{α:Type _}{a:α}{l:List α}:(a::l).length=l.length+1:=List.length_cons
theorem cN{α:Type _}(a b c:List α):a++b++c=a++(b++c):=List.append_assoc a b c
theorem dn{α:Type _}{l:List α}{i:Nat}{a:α}(h:l[i]?=some a):a∈l:=List.mem_of_getElem? h
theorem da{α:Type _}{i:Nat}{l:List α}:(l.take i).length=min i l.length:=List.length_take
theorem dt{α:Type _}{l:List α}:l.take l.length=l:=List.take_length
theorem dF{α:Type _}(l:List α):l++[]=l:=List.append_nil l
theorem mQ{α:Type _}{n:Nat}{a:α}:(List.replicate n a).length=n:=List.length_replicate
theorem dV{α β:Type _}{f:α->β}{l m:List α}:(l++m).map f=l.map f++m.map f:=List.map_append
theorem bR{α:Type _}(a b:α):(some a=some b)=(a=b):=Option.some.injEq a b
theorem bg{p:Prop}[Decidable p]:p->decide p=true:=decide_eq_true
theorem bU{p:Prop}[Decidable p]:¬p->decide p=false:=decide_eq_false
abbrev cQ{A B C D E:Type}(x:A×B×C×D×E):D:=x.2.2.2.1
abbrev sd{A B C D:Type}(x:A×B×C×D):D:=x.2.2.2
abbrev cR{A B C D E F:Type}(x:A×B×C×D×E×F):E:=x.2.2.2.2.1
abbrev qq4{A B C D E:Type}(x:A×B×C×D×E):E:=x.2.2.2.2
abbrev cX{A B C D E F G:Type}(x:A×B×C×D×E×F×G):F:=x.2.2.2.2.2.1
abbrev cT{A B C D E F G H:Type}(x:A×B×C×D×E×F×G×H):G:=x.2.2.2.2.2.2.1
abbrev dc{A B C D E F G H I:Type}(x:A×B×C×D×E×F×G×H×I):H:=x.2.2.2.2.2.2.2.1
abbrev dG{A B C D E F G H I J:Type}(x:A×B×C×D×E×F×G×H×I×J):I:=x.2.2.2.2.2.2.2.2.1
abbrev dN{A B C D E F G H I J K:Type}(x:A×B×C×D×E×F×G×H×I×J×K):J:=x.2.2.2.2.2.2.2.2.2.1
abbrev cY{A B C D E F G H I J K L:Type}(x:A×B×C×D×E×F×G×H×I×J×K×L):K:=x.2.2.2.2.2.2.2.2.2.2.1
abbrev nc{A B C D E F G H I J K L:Type}(x:A×B×C×D×E×F×G×H×I×J×K×L):L:=x.2.2.2.2.2.2.2.2.2.2.2
abbrev fO{A B C D E F G H I J K L M:Type}(x:A×B×C×D×E×F×G×H×I×J×K×L×M):L:=x.2.2.2.2.2.2.2.2.2.2.2.1
abbrev fm{A B C D E F G H I J K L M N:Type}(x:A×B×C×D×E×F×G×H×I×J×K×L×M×N):M:=x.2.2.2.2.2.2.2.2.2.2.2.2.1
abbrev bf{A B C D E F G H I J K L M:Type}(x:A×B×C×D×E×F×G×H×I×J×K×L×M):M:=x.2.2.2.2.2.2.2.2.2.2.2.2
