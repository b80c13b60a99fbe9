import Derived.Test.YtjflbmpepamfjaaGreatKAa
import Derived.Orders
import Derived.Below
import Derived.Scope
import Derived.KernelRfl
import Derived.Laws.Sem
set_option linter.all false
section
namespace Go.Proofs.YtjflbmpepamfjaaGreat.Ev
open Go Go.RowKit
inductive Tr(α:Type) where
 |nil
 |node (v:Option α) (l r:Tr α)
def Tr.get{α:Type}:Tr α->Nat->Option α
 |.nil,_=>none|.node v l r,n=>match n with|0=>v|m+1=>match Nat.beq (m % 2) 0 with|true=>l.get (m / 2)|false=>r.get (m / 2)
def Tr.val{α:Type}:Tr α->Option α|.nil=>none|.node v _ _=>v
def Tr.left{α:Type}:Tr α->Tr α|.nil=>.nil|.node _ l _=>l
def Tr.right{α:Type}:Tr α->Tr α|.nil=>.nil|.node _ _ r=>r
def Tr.set{α:Type}:Nat->Tr α->Nat->Option α->Option (Tr α)
 |0,_,_,_=>none|f+1,t,n,a=>match n with
  |0=>some (.node a t.left t.right)|m+1=>match Nat.beq (m % 2) 0 with
   |true=>match Tr.set f t.left (m / 2) a with|some x=>some (.node t.val x t.right)|none=>none
   |false=>match Tr.set f t.right (m / 2) a with|some x=>some (.node t.val t.left x)|none=>none
theorem Tr.ya{α:Type}(v:Option α)(l r:Tr α)(m:Nat):(Tr.node v l r).get (m+1)=if m % 2=0 then l.get (m / 2)else r.get (m / 2):=by
 simp only[Tr.get];cases hm:Nat.beq (m % 2) 0
 .rw[rx (NE hm)]
 simp_all
theorem Tr.bM{α:Type}:∀(f:Nat) (t:Tr α) (n:Nat) (a:Option α) (t':Tr α),Tr.set f t n a=some t' ->
  ∀m,t'.get m=if m=n then a else t.get m:=by
 intro f
 induction f with
 |zero=>intro t n a t' h;simp[Tr.set]at h|succ f ih=>
  intro t n a t' h m;have hn:∀m,t.get m=(Tr.node t.val t.left t.right).get m:=by
   intro m;cases t with
   |nil=>cases m with|zero=>rfl|succ m=>simp only[Tr.ya,Tr.left,Tr.right];simp[Tr.get]
   |node v l r=>rfl
  rw[hn];cases n with
  |zero=>simp only[Tr.set,bo]at h;subst h;cases m with|zero=>simp[Tr.get]|succ m=>simp only[Tr.ya];rw[rx (by omega:¬m+1=0)]
  |succ n=>
   simp only[Tr.set]at h;cases hb:Nat.beq (n % 2) 0<;>simp only[hb]at h
   .have hb':=NE hb;cases hs:Tr.set f t.right (n / 2) a<;>simp only[hs]at h
    .cases h
    simp only[bo]at h;subst h;cases m with
    |zero=>simp[Tr.get]|succ m=>
     have e:=ih _ _ _ _ hs (m / 2);simp only[Tr.ya];by_cases hm:m % 2=0
     .rw[BY hm,BY hm,rx aGl]
     .rw[rx hm,rx hm,e];by_cases q:m / 2=n / 2
      .rw[BY q,BY aGl]
      .rw[rx q,rx aGl]
   .have hb':=aK hb;cases hs:Tr.set f t.left (n / 2) a<;>simp only[hs]at h
    .cases h
    simp only[bo]at h;subst h;cases m with
    |zero=>simp[Tr.get]|succ m=>
     have e:=ih _ _ _ _ hs (m / 2);simp only[Tr.ya];by_cases hm:m % 2=0
     .rw[BY hm,BY hm,e];by_cases q:m / 2=n / 2
      .rw[BY q,BY aGl]
      .rw[rx q,rx aGl]
     .rw[rx hm,rx hm,rx aGl]
inductive AV where
 |bool (b:Bool)
 |int (k:IntKind) (n:Int)
 |str (s:ByteArray)
 |cX
 |ptr (b off:Nat)
 |ai
 |slice (b off len:Nat) (u:Bool) (c:Nat)
 |se (a:lc) (len cap:Nat)
 |lW (b off off' c:Nat)
 |dt
 |map (b:Nat)
 |func (f:FuncId) (first cap:List AV)
 |dn
 |dW
 |agg (l:List AV)
 |bB (l:List AV)
abbrev Sg:=Nat->Nat×Nat
mutual
def ah(s:Sg):AV->Value
 |.bool b=>.bool b|.int k n=>.int k n|.str x=>.string x|.cX=>.pointer none|.ptr b off=>.pointer (some ⟨(s b).1,off,none⟩)|.ai=>.slice none 0 0|.slice b off len u c=>.slice (some ⟨(s b).1,off,none⟩) len (match u with|true=>(s b).2-c|false=>c)
 |.se a len cap=>.slice a len cap|.lW b off off' c=>.slice (some ⟨(s b).1,(match Nat.beq (s b).2 c with|true=>off|false=>off'),none⟩) 0 ((s b).2-c)
 |.dt=>.map none|.map b=>.map (some (s b).1)|.func f x c=>.func (.func f) (aG s x).toArray (aG s c).toArray|.dn=>.nilFunc|.dW=>.nilIface|.agg l=>.agg (aG s l).toArray|.bB l=>.tuple (aG s l).toArray
termination_by structural x=>x
def aG(s:Sg):List AV->kw
 |[]=>[]|x::l=>ah s x::aG s l
termination_by structural x=>x
end
mutual
def ws(n:Nat):AV->Bool
 |.bool _|.int _ _|.str _|.cX|.ai|.se _ _ _|.dt|.dn|.dW=>true|.ptr b _=>Nat.blt b n|.slice b _ _ _ _=>Nat.blt b n|.lW b _ _ _=>Nat.blt b n|.map b=>Nat.blt b n|.func _ x c=>match cV n x with|true=>cV n c|false=>false
 |.agg l=>cV n l|.bB l=>cV n l
termination_by structural x=>x
def cV(n:Nat):List AV->Bool
 |[]=>true|x::l=>match ws n x with|true=>cV n l|false=>false
termination_by structural x=>x
end
theorem sM(s:Sg)(l:List AV):aG s l=l.map (ah s):=by induction l with|nil=>rfl|cons x l ih=>simp[aG,ih]
theorem yg(n:Nat)(l:List AV):cV n l=true↔∀x∈l,ws n x=true:=by
 induction l with
 |nil=>simp[cV]|cons x l ih=>
  simp only[cV]
  grind
mutual
theorem sH{s s':Sg}{n:Nat}(hs:∀i,i<n->s i=s' i):∀v:AV,ws n v=true->ah s v=ah s' v
 |.bool _,_|.int _ _,_|.str _,_|.cX,_|.ai,_|.se _ _ _,_|.dt,_|.dn,_|.dW,_=>rfl|.ptr b off,h=>by simp only[ws,acl]at h;simp only[ah,hs b h]|.slice b _ _ _ _,h=>by simp only[ws,acl]at h;simp only[ah,hs b h]|.lW b _ _ _,h=>by simp only[ws,acl]at h;simp only[ah,hs b h]|.map b,h=>by simp only[ws,acl]at h;simp only[ah,hs b h]|.func f x c,h=>by
  simp only[ws]at h;cases hx:cV n x<;>simp only[hx]at h
  .cases h
  simp only[ah,sF hs x hx,sF hs c h]
 |.agg l,h=>by simp only[ws]at h;simp only[ah,sF hs l h]|.bB l,h=>by simp only[ws]at h;simp only[ah,sF hs l h]
theorem sF{s s':Sg}{n:Nat}(hs:∀i,i<n->s i=s' i):∀l:List AV,cV n l=true->aG s l=aG s' l
 |[],_=>rfl|x::l,h=>by
  simp only[cV]at h;cases hx:ws n x<;>simp only[hx]at h
  .cases h
  simp only[aG,sH hs x hx,sF hs l h]
end
mutual
theorem pO{n m:Nat}(hs:n<=m):∀v:AV,ws n v=true->ws m v=true
 |.bool _,_|.int _ _,_|.str _,_|.cX,_|.ai,_|.se _ _ _,_|.dt,_|.dn,_|.dW,_=>rfl|.ptr b off,h=>by simp only[ws,acl]at h |-;omega|.slice b _ _ _ _,h=>by simp only[ws,acl]at h |-;omega|.lW b _ _ _,h=>by simp only[ws,acl]at h |-;omega|.map b,h=>by simp only[ws,acl]at h |-;omega|.func f x c,h=>by
  simp only[ws]at h;cases hx:cV n x<;>simp only[hx]at h
  .cases h
  simp only[ws,uN hs x hx,uN hs c h]
 |.agg l,h=>by simp only[ws]at h;simp only[ws,uN hs l h]|.bB l,h=>by simp only[ws]at h;simp only[ws,uN hs l h]
theorem uN{n m:Nat}(hs:n<=m):∀l:List AV,cV n l=true->cV m l=true
 |[],_=>rfl|x::l,h=>by
  simp only[cV]at h;cases hx:ws n x<;>simp only[hx]at h
  .cases h
  simp only[cV,pO hs x hx,uN hs l h]
end
def IntKind.num:IntKind->Nat
 |.i8=>0|.i16=>1|.i32=>2|.i64=>3|.u8=>4|.u16=>5|.u32=>6|.u64=>7
theorem IntKind.uR{a b:IntKind}(h:IntKind.num a=IntKind.num b):a=b:=by cases a<;>cases b<;>first|rfl|(exact absurd h aGo)
def Int.eqv:Int->Int->Bool
 |.ofNat a,.ofNat b=>Nat.beq a b|.negSucc a,.negSucc b=>Nat.beq a b|_,_=>false
theorem Int.ej{a b:Int}(h:Int.eqv a b=true):a=b:=by cases a<;>cases b<;>simp[Int.eqv,Nat.beq_eq]at h<;>subst h<;>rfl
def qV(a b:List UInt8):Bool:=match a,b with
 |[],[]=>true|x::a,y::b=>match Nat.beq x.toNat y.toNat with|true=>qV a b|false=>false
 |_,_=>false
theorem Zz2:∀{a b:List UInt8},qV a b=true->a=b
 |[],[],_=>rfl|x::a,y::b,h=>by
  simp only[qV]at h;cases hx:Nat.beq x.toNat y.toNat<;>simp only[hx]at h
  .cases h
  rw[Zz2 h,UInt8.toNat_inj.1 (aK hx)]
 |[],_::_,h=>by simp[qV]at h|_::_,[],h=>by simp[qV]at h
def vO(a b:ByteArray):Bool:=qV a.data.toList b.data.toList
theorem N2{a b:ByteArray}(h:vO a b=true):a=b:=by have:=Zz2 h;cases a;simp_all
mutual
def AV.eqv:AV->AV->Bool
 |.bool a,b=>match b with|.bool b=>(match a,b with|true,true=>true|false,false=>true|_,_=>false)|_=>false
 |.int k n,b=>match b with|.int k' n'=>(match Nat.beq (IntKind.num k) (IntKind.num k')with|true=>Int.eqv n n'|false=>false)|_=>false
 |.str a,b=>match b with|.str b=>vO a b|_=>false
 |.cX,b=>match b with|.cX=>true|_=>false
 |.ptr x y,b=>match b with|.ptr x' y'=>(match Nat.beq x x' with|true=>Nat.beq y y'|false=>false)|_=>false
 |.ai,b=>match b with|.ai=>true|_=>false
 |.slice x y l u c,b=>match b with
  |.slice x' y' l' u' c'=>(match Nat.beq x x',Nat.beq y y',Nat.beq l l',u,u' with|true,true,true,true,true=>Nat.beq c c'|true,true,true,false,false=>Nat.beq c c'|_,_,_,_,_=>false)
  |_=>false
 |.se _ _ _,_=>false|.lW _ _ _ _,_=>false|.dt,b=>match b with|.dt=>true|_=>false
 |.map x,b=>match b with|.map y=>Nat.beq x y|_=>false
 |.func f x c,b=>match b with
  |.func f' x' c'=>(match Nat.beq f f',AV.jV x x' with|true,true=>AV.jV c c'|_,_=>false)
  |_=>false
 |.dn,b=>match b with|.dn=>true|_=>false
 |.dW,b=>match b with|.dW=>true|_=>false
 |.agg l,b=>match b with|.agg l'=>AV.jV l l'|_=>false
 |.bB l,b=>match b with|.bB l'=>AV.jV l l'|_=>false
termination_by structural x=>x
def AV.jV:List AV->List AV->Bool
 |[],m=>match m with|[]=>true|_=>false
 |x::l,m=>match m with
  |y::m=>(match AV.eqv x y with|true=>AV.jV l m|false=>false)
  |[]=>false
termination_by structural x=>x
end
mutual
theorem AV.ej:∀{a b:AV},AV.eqv a b=true->a=b
 |.bool a,b,h=>by cases b<;>simp only[AV.eqv]at h<;>first|cases h|(rename_i b;cases a<;>cases b<;>first|rfl|cases h)
 |.int k n,b,h=>by
  cases b<;>simp only[AV.eqv]at h<;>first|cases h|skip
  rename_i k' n';cases hk:Nat.beq (IntKind.num k) (IntKind.num k')<;>simp only[hk]at h
  .cases h
  rw[IntKind.uR (aK hk),Int.ej h]
 |.str a,b,h=>by cases b<;>simp only[AV.eqv]at h<;>first|cases h|(rw[N2 h])
 |.cX,b,h=>by cases b<;>simp only[AV.eqv]at h<;>first|rfl|cases h
 |.ptr x y,b,h=>by
  cases b<;>simp only[AV.eqv]at h<;>first|cases h|skip
  rename_i x' y';cases hk:Nat.beq x x'<;>simp only[hk]at h
  .cases h
  rw[aK hk,aK h]
 |.ai,b,h=>by cases b<;>simp only[AV.eqv]at h<;>first|rfl|cases h
 |.slice x y l u c,b,h=>by
  cases b<;>simp only[AV.eqv]at h<;>first|cases h|skip
  rename_i x' y' l' u' c';cases h1:Nat.beq x x'<;>cases h2:Nat.beq y y'<;>cases h3:Nat.beq l l'<;>cases u<;>cases u'<;>simp only[h1,h2,h3]at h <;>
   first|cases h|(rw[aK h1,aK h2,aK h3,aK h])
 |.se _ _ _,b,h=>by simp only[AV.eqv]at h;cases h
 |.lW _ _ _ _,b,h=>by simp only[AV.eqv]at h;cases h
 |.dt,b,h=>by cases b<;>simp only[AV.eqv]at h<;>first|rfl|cases h
 |.map x,b,h=>by cases b<;>simp only[AV.eqv]at h<;>first|cases h|(rw[aK h])
 |.func f x c,b,h=>by
  cases b<;>simp only[AV.eqv]at h<;>first|cases h|skip
  rename_i f' x' c';cases h1:Nat.beq f f'<;>cases h2:AV.jV x x'<;>simp only[h1,h2]at h<;>first|cases h|skip
  rw[aK h1,AV.pS h2,AV.pS h]
 |.dn,b,h=>by cases b<;>simp only[AV.eqv]at h<;>first|rfl|cases h
 |.dW,b,h=>by cases b<;>simp only[AV.eqv]at h<;>first|rfl|cases h
 |.agg l,b,h=>by cases b<;>simp only[AV.eqv]at h<;>first|cases h|(rw[AV.pS h])
 |.bB l,b,h=>by cases b<;>simp only[AV.eqv]at h<;>first|cases h|(rw[AV.pS h])
theorem AV.pS:∀{a b:List AV},AV.jV a b=true->a=b
 |[],b,h=>by cases b<;>simp only[AV.jV]at h<;>first|rfl|cases h
 |x::l,b,h=>by
  cases b<;>simp only[AV.jV]at h<;>first|cases h|skip
  rename_i y m;cases hx:AV.eqv x y<;>simp only[hx]at h
  .cases h
  rw[AV.ej hx,AV.pS h]
end
def still{α:Type}(P:Program):Nat->Sem α->Option α
 |0,_=>none|n+1,s=>match s with|.pure a=>some a|.program k=>still P n (k P)|_=>none
theorem gW{α:Type}{P:Program}:∀{n:Nat}{s:Sem α}{a:α},still P n s=some a->∀w,s.run P w=.ok a w
 |0,_,_,h,_=>by simp[still]at h|n+1,.pure a,_,h,w=>by simp[still]at h;subst h;rfl|n+1,.program k,a,h,w=>by simp only[still]at h;exact gW h w|n+1,.load ..,_,h,_|n+1,.store ..,_,h,_|n+1,.new ..,_,h,_|n+1,.shape ..,_,h,_|n+1,.freeze ..,_,h,_|n+1,.frozen ..,_,h,_|n+1,.getObj ..,_,h,_|n+1,.setObj ..,_,h,_|n+1,.choose ..,_,h,_|n+1,.sys ..,_,h,_|n+1,.mark ..,_,h,_|n+1,.halt ..,_,h,_=>by simp[still]at h
def vL:AV->Option Value
 |.bool b=>some (.bool b)|.int k n=>some (.int k n)|.str s=>some (.string s)|.cX=>some (.pointer none)|.ai=>some (.slice none 0 0)|.dt=>some (.map none)|.dn=>some .nilFunc|.dW=>some .nilIface|_=>none
def oZ:List AV->Option kw
 |[]=>some []|x::l=>match vL x with
  |some v=>match oZ l with|some vs=>some (v::vs)|none=>none
  |none=>none
def iJ:AV->Option Value
 |.agg l=>match oZ l with|some vs=>some (.agg vs.toArray)|none=>none
 |v=>vL v
theorem Zy7{v:AV}{x:Value}(h:vL v=some x)(s:Sg):ah s v=x:=by cases v<;>simp[vL]at h<;>subst h<;>rfl
theorem DI:∀{l:List AV}{x:kw},oZ l=some x->∀s:Sg,aG s l=x
 |[],x,h,s=>by simp[oZ]at h;subst h;rfl|v::l,x,h,s=>by
  simp only[oZ]at h;cases hv:vL v<;>simp only[hv]at h
  .cases h
  cases hl:oZ l<;>simp only[hl]at h
  .cases h
  simp at h;subst h;simp[aG,Zy7 hv,DI hl]
theorem jL{v:AV}{x:Value}(h:iJ v=some x)(s:Sg):ah s v=x:=by
 cases v with
 |agg l=>
  simp only[iJ]at h;cases hl:oZ l<;>simp only[hl]at h
  .cases h
  simp at h;subst h;simp[ah,DI hl]
 |_=>simp only[iJ]at h;exact Zy7 h s
def gD:Value->Option AV
 |.bool b=>some (.bool b)|.int k n=>some (.int k n)|.string s=>some (.str s)|.pointer a=>match a with|none=>some .cX|some _=>none
 |.slice a len cap=>match a,len,cap with|none,0,0=>some .ai|_,_,_=>none
 |.map a=>match a with|none=>some .dt|some _=>none
 |.nilFunc=>some .dn|.nilIface=>some .dW|_=>none
def fZ:kw->Option (List AV)
 |[]=>some []|x::l=>match gD x with
  |some v=>match fZ l with|some vs=>some (v::vs)|none=>none
  |none=>none
def back:Value->Option AV
 |.agg l=>match fZ l.toList with|some vs=>some (.agg vs)|none=>none
 |.tuple l=>match fZ l.toList with|some vs=>some (.bB vs)|none=>none
 |v=>gD v
theorem Zz5{x:Value}{v:AV}(h:gD x=some v)(s:Sg):ah s v=x:=by
 cases x with
 |pointer a=>cases a<;>simp[gD]at h;subst h;rfl
 |map a=>cases a<;>simp[gD]at h;subst h;rfl
 |slice a l c=>
  simp only[gD]at h;split at h
  .simp at h;subst h;rfl
  .cases h
 |_=>simp[gD]at h<;>subst h<;>rfl
theorem NJ:∀{x:kw}{l:List AV},fZ x=some l->∀s:Sg,aG s l=x
 |[],l,h,s=>by simp[fZ]at h;subst h;rfl|x::xs,l,h,s=>by
  simp only[fZ]at h;cases hv:gD x<;>simp only[hv]at h
  .cases h
  cases hl:fZ xs<;>simp only[hl]at h
  .cases h
  simp at h;subst h;simp[aG,Zz5 hv,NJ hl]
theorem nj{x:Value}{v:AV}(h:back x=some v)(s:Sg):ah s v=x:=by
 cases x with
 |agg l=>
  simp only[back]at h;cases hl:fZ l.toList<;>simp only[hl]at h
  .cases h
  simp at h;subst h;simp[ah,NJ hl]
 |tuple l=>
  simp only[back]at h;cases hl:fZ l.toList<;>simp only[hl]at h
  .cases h
  simp at h;subst h;simp[ah,NJ hl]
 |_=>simp only[back]at h;exact Zz5 h s
def aQ(T:Tr AV):Operand->Option AV
 |.tmp t=>T.get t|.const v=>back v|.func f=>some (.func f [] [])|.global _=>none
def gF(s:Sg)(T:Tr AV)(a:Act)(o:Op):Prop:=∀x∈o.operands,∀u,aQ T x=some u->a.eval x=ah s u
theorem sU{s:Sg}{T:Tr AV}{a:Act}{o:Op}(h:∀t,.tmp t∈o.operands->∀u,T.get t=some u->a.tmps[t]?=some (ah s u)):gF s T a o:=by intro x hx u hu;cases x with|tmp t=>have:=h t hx u hu;simp[Act.eval,LT,this]|const v=>simp only[aQ]at hu;exact(nj hu s).symm|func f=>simp[aQ]at hu;subst hu;rfl|global g=>simp[aQ]at hu
def dU(T:Tr AV):List Operand->Option (List AV)
 |[]=>some []|x::l=>match aQ T x with
  |some v=>match dU T l with|some vs=>some (v::vs)|none=>none
  |none=>none
theorem Va{s:Sg}{T:Tr AV}{a:Act}:∀{l:List Operand}{vs:List AV},dU T l=some vs->(∀x∈l,∀u,aQ T x=some u->a.eval x=ah s u) ->
  l.map a.eval=aG s vs
 |[],vs,h,_=>by simp[dU]at h;subst h;rfl|x::l,vs,h,hr=>by
  simp only[dU]at h;cases hv:aQ T x<;>simp only[hv]at h
  .cases h
  cases hl:dU T l<;>simp only[hl]at h
  .cases h
  simp at h;subst h;simp[aG,hr x aGn _ hv,Va hl (fun y hy=>hr y (by simp[hy]))]
def cP(P:Program)(t:TypeId):Option Nat:=match P.info? t with|some i=>some i.size|none=>none
def eS(P:Program)(t:TypeId):Option AV:=match P.info? t with
 |some i=>match i.zero with|some v=>back v|none=>none
 |none=>none
theorem run_underlying{P:Program}{t:TypeId}{d:TypeDesc}(h:P.underlying t=some d)(w:World):(underlying t).run P w=.ok d w:=by simp[underlying,h]
theorem run_typeInfo{P:Program}{t:TypeId}{d:TypeInfo}(h:P.info? t=some d)(w:World):(typeInfo t).run P w=.ok d w:=by simp[typeInfo,h]
theorem run_sizeOf{P:Program}{t:TypeId}{n:Nat}(h:cP P t=some n)(w:World):(Go.sizeOf t).run P w=.ok n w:=by unfold cP at h;cases hi:P.info? t<;>simp[hi]at h;subst h;simp[Go.sizeOf,run_typeInfo hi]
theorem iu{P:Program}{t:TypeId}{v:AV}(h:eS P t=some v)(s:Sg)(w:World):(zeroValue t).run P w=.ok (ah s v) w:=by
 unfold eS at h;cases hi:P.info? t<;>simp only[hi]at h
 .cases h
 rename_i i;cases hz:i.zero<;>simp only[hz]at h
 .cases h
 simp[zeroValue,run_typeInfo hi,hz,nj h]
def cr:AV->List AV
 |.agg l=>l|v=>[v]
theorem lB(s:Sg)(v:AV):(ah s v).cells.toList=aG s (cr v):=by cases v<;>simp[ah,Value.cells,cr,aG]
theorem fQ(s:Sg)(l:List AV):(aG s l).length=l.length:=by simp[sM]
theorem DY(s:Sg)(l:List AV)(i:Nat):(aG s l)[i]?=(l[i]?).map (ah s):=by simp[sM]
theorem sE(s:Sg)(l m:List AV):aG s (l++m)=aG s l++aG s m:=by simp[sM]
theorem qO(s:Sg)(l:List AV)(n:Nat):aG s (l.take n)=(aG s l).take n:=by simp[sM,List.map_take]
theorem sK(s:Sg)(l:List AV)(n:Nat):aG s (l.drop n)=(aG s l).drop n:=by simp[sM,List.map_drop]
def nth{α:Type}:List α->Nat->Option α
 |[],_=>none|x::l,n=>match n with|0=>some x|n+1=>nth l n
theorem ct{α:Type}:∀(l:List α) (n:Nat),nth l n=l[n]?
 |[],_=>by simp[nth]|x::l,0=>by simp[nth]|x::l,n+1=>by simp[nth,ct l n]
def takeN{α:Type}:Nat->List α->List α
 |0,_=>[]|n+1,l=>match l with|[]=>[]|x::l=>x::takeN n l
def eh{α:Type}:Nat->List α->List α
 |0,l=>l|n+1,l=>match l with|[]=>[]|_::l=>eh n l
theorem fu{α:Type}:∀(n:Nat) (l:List α),takeN n l=l.take n
 |0,_=>by simp[takeN]|n+1,[]=>by simp[takeN]|n+1,x::l=>by simp[takeN,fu n l]
theorem fK{α:Type}:∀(n:Nat) (l:List α),eh n l=l.drop n
 |0,_=>by simp[eh]|n+1,[]=>by simp[eh]|n+1,x::l=>by simp[eh,fK n l]
theorem DO(off:Nat):∀(vs:kw) (k:Nat) (cells:Array Value),off+k+vs.length<=cells.size ->
  ((vs.zipIdx k).foldl (fun cs (x:Value×Nat)=>cs.setIfInBounds (off+x.2) x.1) cells).toList=cells.toList.take (off+k)++vs++cells.toList.drop (off+k+vs.length)
 |[],k,cells,_=>by simp|v::vs,k,cells,h=>by
  simp only[cF]at h;rw[List.zipIdx_cons,List.foldl_cons,DO off vs (k+1) _ (by simp;omega)];simp only[cF];have hs:cells.toList.length=cells.size:=PP;have e:cells.toList.set (off+k) v=(cells.toList.take (off+k)++[v])++cells.toList.drop (off+k+1):=by rw[aFw,BY aGl];simp
  have hA:(cells.toList.take (off+k)++[v]).length=off+(k+1):=by simp[hs];omega
  rw[Array.toList_setIfInBounds,e,List.take_left' hA];rw[show off+(k+1)+vs.length=(cells.toList.take (off+k)++[v]).length+vs.length by omega,avq,aGh];simp[adc,Nat.add_comm,Nat.add_left_comm]
def jf(place:Nat->Option (Nat×Nat)):List AV->List (Nat×AV)->Option (List AV)
 |cells,[]=>some cells|cells,(i,v)::rest=>match place i with|none=>none|some (off,size)=>match Nat.beq (cr v).length size,Nat.ble (off+size) cells.length with|true,true=>jf place (takeN off cells++(cr v++eh (off+size) cells)) rest|_,_=>none
theorem DP(s:Sg)(place:Nat->Option (Nat×Nat)):∀(parts:List (Nat×AV)) (cells r:List AV),jf place cells parts=some r ->
  Instr.fill place (aG s cells).toArray (parts.map fun x=>(x.1,ah s x.2))=some (aG s r).toArray
 |[],cells,r,h=>by simp[jf]at h;subst h;rfl|(i,v)::rest,cells,r,h=>by
  simp only[jf]at h;cases hp:place i<;>simp only[hp]at h
  .cases h
  rename_i q;obtain⟨off,size⟩:=q;simp only[]at h;cases h1:Nat.beq (cr v).length size<;>cases h2:Nat.ble (off+size) cells.length<;>simp only[h1,h2]at h<;>first|cases h|skip
  have h1:=aK h1;have h2:=qr h2;have hl:(ah s v).cells.size=size:=by rw[<-PP,lB,fQ,h1]
  simp only[IS,Instr.fill,hp];rw[rx (by simp[hl,fQ];omega)];have ih:=DP s place rest _ r h;rw[<-ih];congr 1;apply Rd.1;have hz:(ah s v).cells.zipIdx.foldl (fun cs (x:Value×Nat)=>cs.setIfInBounds (off+x.2) x.1) (aG s cells).toArray
    = ((ah s v).cells.toList.zipIdx 0).foldl (fun cs (x:Value×Nat)=>cs.setIfInBounds (off+x.2) x.1) (aG s cells).toArray:=by
   rw[<-Array.foldl_toList];simp
  have:=DO off (ah s v).cells.toList 0 (aG s cells).toArray (by simp[hl,fQ];omega);rw[hz,this];simp only[fu,fK,sE,qO,sK,lB,bV,aux,fQ,h1]
def nC(P:Program)(t:TypeId)(l:List AV)(off:Nat):Option AV:=match P.underlying t with
 |some (.struct _)=>match cP P t with|some n=>some (.agg (takeN n (eh off l)))|none=>none
 |some (.array _ _)=>match cP P t with|some n=>some (.agg (takeN n (eh off l)))|none=>none
 |some _=>nth l off|none=>none
theorem xT{P:Program}{t:TypeId}{l:List AV}{off:Nat}{v:AV}(h:nC P t l off=some v)(s:Sg)(w:World) :
  (part t (aG s l).toArray off).run P w=.ok (ah s v) w:=by
 unfold nC at h;cases hu:P.underlying t with
 |none=>simp[hu]at h|some d=>
  have hr:=run_underlying hu w;cases d<;>simp only[hu]at h
  case struct|array=>cases hs:cP P t<;>simp[hs]at h;subst h;simp[part,isAgg,hr,run_sizeOf hs,ah,fu,fK,qO,sK,List.extract_eq_take_drop]
  all_goals
   rw[ct]at h;simp[part,isAgg,hr,DY,h]
def sX(P:Program)(t:TypeId)(u:AV)(f:Nat):Option AV:=match P.underlying t with
 |some (.struct fields)=>match nth fields.toList f with
  |some fd=>match u with|.agg l=>nC P fd.type l fd.offset|_=>none
  |none=>none
 |_=>none
theorem Nv{P:Program}{t:TypeId}{u v:AV}{f:Nat}(h:sX P t u f=some v)(s:Sg)(w:World) :
  (Instr.field t (ah s u) f).run P w=.ok (ah s v) w:=by
 unfold sX at h;cases hu:P.underlying t with
 |none=>simp[hu]at h|some d=>
  have hr:=run_underlying hu w;cases d<;>simp only[hu]at h<;>try cases h
  rename_i fields;cases hf:nth fields.toList f<;>simp only[hf]at h
  .cases h
  rename_i fd;rw[ct]at hf;cases u<;>simp only[]at h<;>try cases h
  have hf':fields[f]?=some fd:=by grind
  simp[Instr.field,hr,hf',asAgg,ah,xT h]
def sL(P:Program)(t:TypeId)(u:AV)(f:Nat):Option AV:=match P.underlying t with
 |some (.struct fields)=>match nth fields.toList f with
  |some fd=>match u,cP P fd.type with|.ptr b off,some (n+1)=>some (.ptr b (off+fd.offset))|_,_=>none
  |none=>none
 |_=>none
theorem dR(b off n:Nat):(Addr.mk b off none).add n=⟨b,off+n,none⟩:=by unfold Addr.add;grind
theorem Ng{P:Program}{t:TypeId}{u v:AV}{f:Nat}(h:sL P t u f=some v)(s:Sg)(w:World) :
  (Instr.fieldAt t (ah s u) f).run P w=.ok (ah s v) w:=by
 unfold sL at h;cases hu:P.underlying t with
 |none=>simp[hu]at h|some d=>
  have hr:=run_underlying hu w;cases d<;>simp only[hu]at h<;>try cases h
  rename_i fields;cases hf:nth fields.toList f<;>simp only[hf]at h
  .cases h
  rename_i fd;rw[ct]at hf;have hf':fields[f]?=some fd:=by grind
  split at h<;>try cases h
  rename_i b off n hs;simp[Instr.fieldAt,hr,hf',Instr.sureAddr,ah,fieldPlace,run_sizeOf hs,dR]
def oC(P:Program)(t:TypeId)(u i:AV):Option AV:=match i with
 |.int k n=>match n with
  |.ofNat n=>match P.underlying t with
   |some (.slice elem)=>match u,cP P elem with
    |.slice b off len _ _,some sz=>match Nat.blt n len with|true=>some (.ptr b (off+n*sz))|false=>none
    |_,_=>none
   |some (.array len elem)=>match u,cP P elem with
    |.ptr b off,some sz=>match Nat.blt n len with|true=>some (.ptr b (off+n*sz))|false=>none
    |_,_=>none
   |_=>none
  |.negSucc _=>none
 |_=>none
theorem Nf{P:Program}{t:TypeId}{u i v:AV}(h:oC P t u i=some v)(s:Sg)(w:World) :
  (Instr.indexAt t (ah s u) (ah s i)).run P w=.ok (ah s v) w:=by
 unfold oC at h;cases i<;>simp only[]at h<;>try cases h
 rename_i k n;cases n<;>simp only[]at h<;>try cases h
 rename_i n;cases hu:P.underlying t with
 |none=>simp[hu]at h|some d=>
  have hr:=run_underlying hu w;cases d<;>simp only[hu]at h<;>try cases h
  .split at h<;>try cases h
   rename_i b off len _ _ sz hs;split at h<;>try cases h
   rename_i hb;rw[acl]at hb;simp[Instr.indexAt,asIntOf,ah,hr,run_sizeOf hs,dR,hb]
  .split at h<;>try cases h
   rename_i b off sz hs;split at h<;>try cases h
   rename_i hb;rw[acl]at hb;simp[Instr.indexAt,asIntOf,ah,hr,run_sizeOf hs,dR,hb,Instr.sureAddr]
def sameKind:TypeDesc->AV->AV->Bool
 |.pointer _,.cX,.ptr _ _|.pointer _,.ptr _ _,.cX=>true|.slice _,.ai,.slice _ _ _ _ _|.slice _,.slice _ _ _ _ _,.ai=>true|.map _ _,.dt,.map _|.map _ _,.map _,.dt=>true|.func _ _ _,.dn,.func _ _ _|.func _ _ _,.func _ _ _,.dn=>true|_,_,_=>false
theorem af5{P:Program}{t:TypeId}{x y:Operand}{X Y:Value}{r:Bool}{w:World}(hg:eqGuard .eql t x y X Y=pure ())
  (hb:binOp .eql t X Y=(do pure (.bool (<- Op.equal t X Y)))) (he:(Op.equal t X Y).run P w=.ok r w) :
  (do eqGuard .eql t x y X Y;binOp .eql t X Y).run P w=.ok (.bool r) w:=by simp[hg,hb,he]
theorem agx{P:Program}{t:TypeId}{x y:Operand}{X Y:Value}{r:Bool}{w:World}(hg:eqGuard .neq t x y X Y=pure ())
  (hb:binOp .neq t X Y=(do pure (.bool (!(<- Op.equal t X Y))))) (he:(Op.equal t X Y).run P w=.ok r w) :
  (do eqGuard .neq t x y X Y;binOp .neq t X Y).run P w=.ok (.bool (!r)) w:=by simp[hg,hb,he]
theorem as9{P:Program}{t:TypeId}{d:TypeDesc}{u v:AV}(hu:P.underlying t=some d)(hk:sameKind d u v=true)(s:Sg)(w:World) :
  ∀n,(Op.equalIn (n+1) t (ah s u) (ah s v)).run P w=.ok false w:=by
 intro n;have hr:=run_underlying hu w;unfold sameKind at hk;split at hk<;>first|contradiction|simp[Op.equalIn,ah,hr]
def rN(P:Program)(op:BinOp)(t:TypeId)(x y:Operand)(u v:AV):Option AV:=match iJ u,iJ v with
 |some a,some b=>match still P 4000 (do eqGuard op t x y a b;binOp op t a b)with|some r=>back r|none=>none
 |_,_=>match P.underlying t with
  |some d=>match sameKind d u v with
   |true=>match op with|.eql=>some (.bool false)|.neq=>some (.bool true)|_=>none
   |false=>none
  |none=>none
theorem NW{P:Program}{op:BinOp}{t:TypeId}{x y:Operand}{u v r:AV}(h:rN P op t x y u v=some r)(s:Sg)(w:World) :
  (do eqGuard op t x y (ah s u) (ah s v);binOp op t (ah s u) (ah s v)).run P w=.ok (ah s r) w:=by
 unfold rN at h;split at h
 .rename_i a b ha hb;rw[jL ha,jL hb];split at h<;>try cases h
  rename_i q hq;rw[gW hq,nj h]
 .cases hu:P.underlying t with
  |none=>simp[hu]at h|some d=>
   simp only[hu]at h;cases hk:sameKind d u v<;>simp only[hk]at h
   .cases h
   have he:(Op.equal t (ah s u) (ah s v)).run P w=.ok false w:=as9 hu hk s w 9999;cases op<;>simp only[]at h<;>try cases h
   .refine af5 ?_ ?_ he<;>(unfold sameKind at hk;split at hk<;>first|contradiction|rfl)
   .refine agx ?_ ?_ he<;>(unfold sameKind at hk;split at hk<;>first|contradiction|rfl)
end Go.Proofs.YtjflbmpepamfjaaGreat.Ev
end
section
namespace Go.Proofs.YtjflbmpepamfjaaGreat.V
open Go Go.RowKit
open Go.Proofs.YtjflbmpepamfjaaGreat.Ev (Tr nth ct takeN eh fu fK)
inductive Sh where
 |int (k:IntKind)
 |bool
 |str
 |agg (l:List Sh)
 |sl (s:Sh)
@[match_pattern] abbrev Sh.I:Sh:=.int .i64
mutual
def Sh.T:Sh->Type
 |.int _=>Int|.bool=>Bool|.str=>ByteArray|.agg l=>TL l|.sl s=>List s.T
termination_by structural x=>x
def TL:List Sh->Type
 |[]=>Unit|s::l=>s.T×TL l
termination_by structural x=>x
end
mutual
def Sh.zero:(s:Sh)->s.T
 |.int _=>(0:Int)|.bool=>false|.str=>ByteArray.empty|.agg l=>GH l|.sl _=>[]
termination_by structural x=>x
def GH:(l:List Sh)->TL l
 |[]=>()|s::l=>(s.zero,GH l)
termination_by structural x=>x
end
mutual
def Sh.size:Sh->Nat
 |.int _=>1|.bool=>1|.str=>1|.agg l=>rR l|.sl _=>1
termination_by structural x=>x
def rR:List Sh->Nat
 |[]=>0|s::l=>s.size+rR l
termination_by structural x=>x
end
mutual
def Sh.eqv:Sh->Sh->Bool
 |.int k,b=>match b with|.int k'=>Nat.beq (Ev.IntKind.num k) (Ev.IntKind.num k')|_=>false
 |.bool,b=>match b with|.bool=>true|_=>false
 |.str,b=>match b with|.str=>true|_=>false
 |.agg l,b=>match b with|.agg m=>jV l m|_=>false
 |.sl s,b=>match b with|.sl t=>s.eqv t|_=>false
termination_by structural x=>x
def jV:List Sh->List Sh->Bool
 |[],m=>match m with|[]=>true|_=>false
 |s::l,m=>match m with
  |t::m=>(match s.eqv t with|true=>jV l m|false=>false)
  |[]=>false
termination_by structural x=>x
end
mutual
theorem Sh.ej:∀{a b:Sh},a.eqv b=true->a=b
 |.int k,b,h=>by
  cases b<;>simp only[Sh.eqv]at h<;>first|cases h|skip
  rw[Ev.IntKind.uR (aK h)]
 |.bool,b,h=>by cases b<;>simp only[Sh.eqv]at h<;>first|rfl|cases h
 |.str,b,h=>by cases b<;>simp only[Sh.eqv]at h<;>first|rfl|cases h
 |.agg l,b,h=>by cases b<;>simp only[Sh.eqv]at h<;>first|cases h|(rw[pS h])
 |.sl s,b,h=>by cases b<;>simp only[Sh.eqv]at h<;>first|cases h|(rw[Sh.ej h])
theorem pS:∀{a b:List Sh},jV a b=true->a=b
 |[],b,h=>by cases b<;>simp only[jV]at h<;>first|rfl|cases h
 |s::l,b,h=>by
  cases b<;>simp only[jV]at h<;>first|cases h|skip
  rename_i t m;cases hx:s.eqv t<;>simp only[hx]at h
  .cases h
  rw[Sh.ej hx,pS h]
end
def aY{α:Type}(R:α->kw->Prop):List α->kw->Prop
 |[],cs=>cs=[]|x::L,cs=>∃c r,cs=c++r/\R x c/\aY R L r
theorem aY.mono{α:Type}{R R':α->kw->Prop}(h:∀x c,R x c->R' x c):∀{L:List α}{cs:kw},aY R L cs->aY R' L cs
 |[],_,q=>q|x::L,_,⟨c,r,e,q,t⟩=>⟨c,r,e,h x c q,aY.mono h t⟩
theorem aY.append{α:Type}{R:α->kw->Prop}:∀{L M:List α}{c d:kw},aY R L c->aY R M d->aY R (L++M) (c++d)
 |[],M,_,d,rfl,q=>q|x::L,M,_,d,⟨c,r,rfl,q,t⟩,u=>⟨c,r++d,aGn,q,aY.append t u⟩
theorem aY.take{α:Type}{R:α->kw->Prop}{z:Nat}(hz:∀x c,R x c->c.length=z):∀{L:List α}{cs:kw}(n:Nat),aY R L cs->aY R (L.take n) (cs.take (n*z))
 |[],_,n,rfl=>by simp[aY]|x::L,_,0,_=>by simp[aY]|x::L,_,n+1,⟨c,r,rfl,q,t⟩=>by refine⟨c,r.take (n*z),?_,q,aY.take hz n t⟩;have hc:=hz x c q;rw[show(n+1)*z=c.length+n*z by rw[hc,So];omega,aFr]
theorem aY.drop{α:Type}{R:α->kw->Prop}{z:Nat}(hz:∀x c,R x c->c.length=z):∀{L:List α}{cs:kw}(n:Nat),aY R L cs->aY R (L.drop n) (cs.drop (n*z))
 |[],_,n,rfl=>by simp[aY]|x::L,cs,0,h=>by grind|x::L,_,n+1,⟨c,r,rfl,q,t⟩=>by
  have:=aY.drop hz n t;have hc:=hz x c q;have e:(c++r).drop ((n+1)*z)=r.drop (n*z):=by rw[show(n+1)*z=c.length+n*z by rw[hc,So];omega,avq]
  rw[e];simpa using this
theorem aY.length{α:Type}{R:α->kw->Prop}{z:Nat}(hz:∀x c,R x c->c.length=z):∀{L:List α}{cs:kw},aY R L cs->cs.length=L.length*z
 |[],_,rfl=>by simp|x::L,_,⟨c,r,rfl,q,t⟩=>by rw[aO,hz x c q,aY.length hz t,cF,So];omega
theorem aY.get{α:Type}{R:α->kw->Prop}{z:Nat}(hz:∀x c,R x c->c.length=z):∀{L:List α}{cs:kw}{i:Nat}{x:α},aY R L cs->L[i]?=some x ->
  ∃c,R x c/\∀j,j<z->cs[i*z+j]?=c[j]?
 |[],_,i,x,_,h=>by simp at h|y::L,_,0,x,⟨c,r,rfl,q,t⟩,h=>by grind|y::L,_,i+1,x,⟨c,r,rfl,q,t⟩,h=>by
  obtain⟨d,h1,h2⟩:=aY.get hz t (by simpa using h)
  grind
theorem aY.set{α:Type}{R:α->kw->Prop}{z:Nat}(hz:∀x c,R x c->c.length=z):∀{L:List α}{cs:kw}{i:Nat}{x:α}{c:kw},aY R L cs->i<L.length->R x c ->
  aY R (L.set i x) (cs.take (i*z)++c++cs.drop (i*z+z))
 |[],_,i,x,c,_,h,_=>by simp at h|y::L,_,0,x,c,⟨d,r,rfl,q,t⟩,h,hc=>by
  refine⟨c,r,?_,hc,t⟩
  grind
 |y::L,_,i+1,x,c,⟨d,r,rfl,q,t⟩,h,hc=>by
  refine⟨d,r.take (i*z)++c++r.drop (i*z+z),?_,q,aY.set hz t (by grind) hc⟩;have hd:=hz y d q;have e1:(d++r).take ((i+1)*z)=d++r.take (i*z):=by rw[show(i+1)*z=d.length+i*z by rw[hd,So];omega,aFr]
  have e2:(d++r).drop ((i+1)*z+z)=r.drop (i*z+z):=by rw[show(i+1)*z+z=d.length+(i*z+z) by rw[hd,So];omega,avq]
  rw[e1,e2];simp
def yl(w:World)(b o:Nat)(cs:kw):Prop:=∃c ty fr,w.heap[b]?=some (.cells c ty fr)/\∀j u,cs[j]?=some u->c[o+j]?=some u
mutual
def Cs(w:World)(A:Nat->Prop):(σ:Sh)->σ.T->kw->Prop
 |.int k,n,cs=>cs=[.int k n]|.bool,b,cs=>cs=[.bool b]|.str,s,cs=>cs=[.string s]|.agg l,d,cs=>gj w A l d cs|.sl s,L,cs=>∃a len cap,cs=[.slice a len cap]/\len=List.length L/\len<=cap/\(L≠[]->∃b o X,a=some ⟨b,o,none⟩/\¬A b/\aY (Cs w A s) L X/\yl w b o X)
termination_by structural x=>x
def gj(w:World)(A:Nat->Prop):(l:List Sh)->TL l->kw->Prop
 |[],_,cs=>cs=[]|s::l,d,cs=>∃c r,cs=c++r/\Cs w A s d.1 c/\gj w A l d.2 r
termination_by structural x=>x
end
mutual
theorem Cs.length{w:World}{A:Nat->Prop}:∀{σ:Sh}{d:σ.T}{cs:kw},Cs w A σ d cs->cs.length=σ.size
 |.int k,n,cs,h=>by rw[show cs=[.int k n]from h];rfl|.bool,b,cs,h=>by rw[show cs=[.bool b]from h];rfl|.str,s,cs,h=>by rw[show cs=[.string s]from h];rfl|.agg l,d,cs,h=>gj.length h|.sl s,L,cs,⟨a,len,cap,h,_⟩=>by rw[h];rfl
theorem gj.length{w:World}{A:Nat->Prop}:∀{l:List Sh}{d:TL l}{cs:kw},gj w A l d cs->cs.length=rR l
 |[],_,cs,h=>by rw[show cs=[]from h];rfl|s::l,d,cs,⟨c,r,e,h1,h2⟩=>by rw[e,aO,Cs.length h1,gj.length h2];rfl
end
def ib(w:World)(A:Nat->Prop)(w':World)(A':Nat->Prop):Prop:=∀b o,¬A b->w.heap[b]?=some o->w'.heap[b]?=some o/\¬A' b
theorem ib.trans{w w' w'':World}{A A' A'':Nat->Prop}(a:ib w A w' A')(b:ib w' A' w'' A''):ib w A w'' A'':=fun k o h q=>let⟨h1,h2⟩:=a k o h q;b k o h2 h1
theorem yl.keep{w w':World}{A A':Nat->Prop}(K:ib w A w' A'){b o:Nat}{cs:kw}(h:yl w b o cs)(ha:¬A b):yl w' b o cs/\¬A' b:=by obtain⟨c,ty,fr,h1,h2⟩:=h;obtain⟨k1,k2⟩:=K b _ ha h1;exact⟨⟨c,ty,fr,k1,h2⟩,k2⟩
mutual
theorem Cs.keep{w w':World}{A A':Nat->Prop}(K:ib w A w' A'):∀{σ:Sh}{d:σ.T}{cs:kw},Cs w A σ d cs->Cs w' A' σ d cs
 |.int k,n,cs,h=>h|.bool,b,cs,h=>h|.str,s,cs,h=>h|.agg l,d,cs,h=>gj.keep K (l:=l) h|.sl s,L,cs,⟨a,len,cap,h1,h2,h3,h4⟩=>⟨a,len,cap,h1,h2,h3,fun hL=>by obtain⟨b,o,X,e1,e2,e3,e4⟩:=h4 hL;obtain⟨k1,k2⟩:=e4.keep K e2;exact⟨b,o,X,e1,k2,e3.mono (fun x c q=>Cs.keep K q),k1⟩⟩
theorem gj.keep{w w':World}{A A':Nat->Prop}(K:ib w A w' A'):∀{l:List Sh}{d:TL l}{cs:kw},gj w A l d cs->gj w' A' l d cs
 |[],_,cs,h=>h|s::l,d,cs,⟨c,r,e,h1,h2⟩=>⟨c,r,e,Cs.keep K h1,gj.keep K h2⟩
end
end Go.Proofs.YtjflbmpepamfjaaGreat.V
end
section
namespace Go.Proofs.YtjflbmpepamfjaaGreat.Ev
open Go Go.RowKit
inductive aE where
 |cells (l:List AV) (ty:TypeId) (op:Option Nat)
 |map (es:List (AV×AV×Nat)) (clock:Nat)
structure Hp where
 tr:Tr aE
 next:Nat
def tB(n:Nat):List (AV×AV×Nat)->Bool
 |[]=>true|e::l=>match ws n e.1,ws n e.2.1 with|true,true=>tB n l|_,_=>false
def jQ(n:Nat):aE->Bool
 |.cells l _ _=>cV n l|.map es _=>tB n es
theorem qS(n:Nat)(l:List (AV×AV×Nat)):tB n l=true↔∀e∈l,ws n e.1=true/\ws n e.2.1=true:=by
 induction l with
 |nil=>simp[tB]|cons e l ih=>
  simp only[tB]
  grind
variable{n:Nat}{o:aE}
theorem qP{m:Nat}(h:n<=m)(ho:jQ n o=true):jQ m o=true:=by cases o with|cells l ty op=>exact uN h l ho|map es c=>simp only[jQ,qS]at ho |-;exact fun e he=>⟨pO h _ (ho e he).1,pO h _ (ho e he).2⟩
def eE(s:Sg)(es:List (AV×AV×Nat)):List MapEntry:=es.map fun e=>⟨ah s e.1,ah s e.2.1,e.2.2⟩
def cj(s:Sg)(i:Nat):aE->Option Obj->Prop
 |.cells l ty none,ob=>ob=some (.cells (aG s l).toArray ty (0,0))|.cells l ty (some sz),ob=>∃tail:kw,ob=some (.cells (aG s l++tail).toArray ty (0,0))/\l.length+tail.length=(s i).2*sz/\(s i).2<=9223372036854775807|.map es clock,ob=>ob=some (.map (eE s es).toArray clock)
variable{s:Sg}{i:Nat}{ob:Option Obj}
theorem cj.there(h:cj s i o ob):∃x,ob=some x:=by
 cases o with
 |cells l ty op=>cases op with|none=>exact⟨_,h⟩|some sz=>obtain⟨t,h,_⟩:=h;exact⟨_,h⟩
 |map es c=>exact⟨_,h⟩
variable{s':Sg}
theorem cj.congr(h:cj s i o ob)(hs:∀j,j<n->s' j=s j)(hi:i<n)(hw:jQ n o=true):cj s' i o ob:=by
 cases o with
 |cells l ty op=>have e:aG s' l=aG s l:=sF hs l hw;cases op with|none=>simp only[cj]at h |-;rw[e];exact h|some sz=>simp only[cj]at h |-;rw[e,hs i hi];exact h
 |map es c=>
  have e:eE s' es=eE s es:=by simp only[jQ,qS]at hw;apply aFW;intro x hx;rw[sH hs _ (hw x hx).1,sH hs _ (hw x hx).2]
  simp only[cj]at h |-;rw[e];exact h
structure ab(s:Sg)(h:Hp)(w:World):Prop where
 obj:∀i o,h.tr.get i=some o->cj s i o w.heap[(s i).1]?
 inj:∀i j o o',h.tr.get i=some o->h.tr.get j=some o'->(s i).1=(s j).1->i=j
 lt:∀i o,h.tr.get i=some o->i<h.next
 ia:∀i o,h.tr.get i=some o->jQ h.next o=true
variable{w:World}{h:Hp}
theorem ab.bound(H:ab s h w)(hi:h.tr.get i=some o):(s i).1<w.heap.size:=by
 obtain⟨x,hx⟩:=(H.obj i o hi).there
 grind
structure Ext(s:Sg)(h:Hp)(w:World)(s':Sg)(h':Hp)(w':World):Prop where
 os:w'.os=w.os
 tape:w'.tape=w.tape
 output:w'.output=w.output
 size:w.heap.size<=w'.heap.size
 sg:∀i,i<h.next->s' i=s i
 next:h.next<=h'.next
 frame:∀b,b<w.heap.size->(∀i o,h.tr.get i=some o->(s i).1≠b)->w'.heap[b]?=w.heap[b]?
 bI:∀j o,h'.tr.get j=some o->(∃i o',h.tr.get i=some o'/\(s i).1=(s' j).1)\/w.heap.size<=(s' j).1
 keep:∀j o,h'.tr.get j=some o->j<h.next->∃o',h.tr.get j=some o'
theorem Ext.refl(s:Sg)(h:Hp)(w:World):Ext s h w s h w:=⟨rfl,rfl,rfl,pi _,fun _ _=>rfl,pi _,fun _ _ _=>rfl,fun j o hj=>.inl ⟨j,o,hj,rfl⟩,fun j o hj _=>⟨o,hj⟩⟩
theorem Ext.drew(s:Sg)(h:Hp)(w:World)(d:Nat):Ext s h w s h { w with drawn:=d }:=⟨rfl,rfl,rfl,pi _,fun _ _=>rfl,pi _,fun _ _ _=>rfl,fun j o hj=>.inl ⟨j,o,hj,rfl⟩,fun j o hj _=>⟨o,hj⟩⟩
theorem Ext.trans{s'':Sg}{h' h'':Hp}{w' w'':World}(a:Ext s h w s' h' w')(b:Ext s' h' w' s'' h'' w''):Ext s h w s'' h'' w'' where
 os:=b.os.trans a.os
 tape:=b.tape.trans a.tape
 output:=b.output.trans a.output
 size:=rt a.size b.size
 sg i hi:=(b.sg i (ro hi a.next)).trans (a.sg i hi)
 next:=rt a.next b.next
 frame k hk hn:=by
  refine(b.frame k (ro hk a.size) ?_).trans (a.frame k hk hn);intro j o hj e;rcases a.bI j o hj with⟨i,o',hi,q⟩|q
  .exact hn i o' hi (q.trans e)
  .omega
 bI j o hj:=by
  rcases b.bI j o hj with⟨i,o',hi,q⟩|q
  .rcases a.bI i o' hi with⟨k,o'',hk,r⟩|r
   .exact .inl ⟨k,o'',hk,r.trans q⟩
   .exact .inr aGl
  .exact .inr (rt a.size q)
 keep j o hj hlt:=by obtain⟨o',ho'⟩:=b.keep j o hj (ro hlt a.next);exact a.keep j o' ho' hlt
def cq(w:World)(b:Nat)(o:Obj):World:={ w with heap:=w.heap.setIfInBounds b o }
theorem eO(w:World)(b:Nat)(o:Obj)(k:Nat):(cq w b o).heap[k]?=if k=b/\b<w.heap.size then some o else w.heap[k]?:=by
 simp only[cq,IR]
 grind
theorem jr(w:World)(b:Nat)(o:Obj):(cq w b o).heap.size=w.heap.size:=by simp[cq]
theorem asL(w:World)(b:Nat)(o o':Obj):cq (cq w b o) b o'=cq w b o':=by
 simp only[cq]
 simp_all
variable{ty:TypeId}{c:Array Value}{off:Nat}{b:Nat}
theorem setCell_eq{fr:Nat×Nat}(h:w.heap[b]?=some (.cells c ty fr))(v:Value) :
  w.setCell ⟨b,off,none⟩ v=cq w b (.cells (c.setIfInBounds off v) ty fr):=by
 unfold World.setCell cq;congr 1
 grind
def lF:Value->Bool
 |.agg _|.tuple _=>false|_=>true
def one:AV->Bool
 |.agg _|.bB _=>false|_=>true
def kh:List AV->Bool
 |[]=>true|x::l=>match one x with|true=>kh l|false=>false
theorem VA{v:AV}(h:one v=true):lF (ah s v)=true:=by cases v<;>simp[one]at h<;>rfl
theorem VB(l:List AV):kh l=true↔∀x∈l,one x=true:=by induction l with|nil=>simp[kh]|cons x l ih=>simp only[kh];grind
theorem Zzc{P:Program}{v:Value}(h:w.heap[b]?=some (.cells c ty (0,0)))(ho:off<c.size)
  (hv:lF v=true):(store ⟨b,off,none⟩ v).run P w=.ok () (cq w b (.cells (c.setIfInBounds off v) ty (0,0))):=by
 have hc:w.cell? ⟨b,off,none⟩=some c[off]:=by simp[World.cell?,h,ho]
 have hf:w.frozen? ⟨b,off,none⟩=false:=by simp[World.frozen?,h]
 rw[<-setCell_eq h v];cases v<;>simp[lF]at hv<;>simp[store,Sem.run,hc,hf]
theorem kj{P:Program}{b off:Nat}{ty:TypeId}:∀(vs:kw) (k:Nat) (w:World) (c:Array Value),w.heap[b]?=some (.cells c ty (0,0)) ->
  off+k+vs.length<=c.size->(∀v∈vs,lF v=true) ->
  ∃c',c'.toList=c.toList.take (off+k)++vs++c.toList.drop (off+k+vs.length) /\
   (storeCells ⟨b,off,none⟩ vs k).run P w=.ok () (cq w b (.cells c' ty (0,0)))
 |[],k,w,c,h,hl,_=>by
  refine⟨c,aGn,?_⟩;simp only[storeCells,Sem.run_pure];congr 1;unfold cq;have:w.heap.setIfInBounds b (.cells c ty (0,0))=w.heap:=by grind
  rw[this]
 |v::vs,k,w,c,h,hl,ho=>by
  simp only[cF]at hl;have hb:b<w.heap.size:=by
   rcases ww b w.heap.size with q|q
   .exact q
   .rw[arC q]at h;cases h
  have h1:=Zzc (P:=P) h (off:=off+k) aGl (ho v aGn);obtain⟨c',hc',hr⟩:=kj (P:=P) (off:=off) vs (k+1) (cq w b (.cells (c.setIfInBounds (off+k) v) ty (0,0))) (c.setIfInBounds (off+k) v)
   (by rw[eO,BY ⟨rfl,hb⟩]) (by simp;omega) (fun x hx=>ho x (by simp[hx]))
  rw[asL]at hr;refine⟨c',?_,?_⟩
  .rw[hc'];simp only[cF];have hs:c.toList.length=c.size:=PP;have e:c.toList.set (off+k) v=(c.toList.take (off+k)++[v])++c.toList.drop (off+k+1):=by rw[aFw,BY aGl];simp
   have hA:(c.toList.take (off+k)++[v]).length=off+(k+1):=by simp[hs];omega
   rw[Array.toList_setIfInBounds,e,List.take_left' hA];rw[show off+(k+1)+vs.length=(c.toList.take (off+k)++[v]).length+vs.length by omega,avq,aGh];simp[adc,Nat.add_comm,Nat.add_left_comm]
  .simp only[storeCells,Sem.run_bind,dR,h1,Result.andThen_ok,hr]
theorem run_loadCells{P:Program}{b off:Nat}{ty:TypeId}{w:World}{c:Array Value}{fr:Nat×Nat}(h:w.heap[b]?=some (.cells c ty fr)) :
  ∀(n i:Nat) (acc:Array Value),off+i+n<=c.size ->
  (loadCellsFrom ⟨b,off,none⟩ i n acc).run P w=.ok (acc.toList++(c.toList.drop (off+i)).take n).toArray w
 |0,i,acc,_=>by simp[loadCellsFrom]|n+1,i,acc,hl=>by
  have hc:w.cell? ⟨b,off+i,none⟩=some c[off+i]:=by simp[World.cell?,h,show off+i<c.size by omega]
  simp only[loadCellsFrom,Sem.run_bind,dR,run_load,hc,Result.andThen_ok];rw[run_loadCells h n (i+1) _ aGl];congr 2;have hd:c.toList.drop (off+i)=c[off+i]::c.toList.drop (off+(i+1)):=by rw[aiT (by simp;omega)];simp[adc]
  rw[hd];simp
variable{o':aE}{tr':Tr aE}{f:Nat}
theorem ab.put(H:ab s h w){ob:Obj}(hi:h.tr.get i=some o)(hb:w.heap.size=w.heap.size)
  (ho:cj s i o' (some ob)) (hw:jQ h.next o'=true) (ht:Tr.set f h.tr i (some o')=some tr') :
  ab s ⟨tr',h.next⟩ (cq w (s i).1 ob)/\Ext s h w s ⟨tr',h.next⟩ (cq w (s i).1 ob):=by
 have hg:=Tr.bM f h.tr i (some o') tr' ht;have aU:=H.bound hi;have alt:∀j aIk,tr'.get j=some aIk->∃aIl,h.tr.get j=some aIl:=by grind
 refine⟨⟨?_,?_,?_,?_⟩,⟨rfl,rfl,rfl,by rw[jr];exact pi _,fun _ _=>rfl,pi _,?_,?_,fun j aIk hj _=>alt j aIk hj⟩⟩
 .intro j aIk hj;simp only[hg j]at hj;by_cases q:j=i
  .subst q;simp only[aFx,bo]at hj;subst hj;rw[eO,BY ⟨rfl,aU⟩];exact ho
  .rw[rx q]at hj;rw[eO,rx (fun r=>q (H.inj j i aIk o hj hi r.1))];exact H.obj j aIk hj
 .intro j k aIk aIl hj hk e;obtain⟨p,hp⟩:=alt j aIk hj;obtain⟨q,hq⟩:=alt k aIl hk;exact H.inj j k p q hp hq e
 .intro j aIk hj;obtain⟨p,hp⟩:=alt j aIk hj;exact H.lt j p hp
 .intro j aIk hj;simp only[hg j]at hj;by_cases q:j=i
  .subst q
   grind
  .rw[rx q]at hj;exact H.ia j aIk hj
 .intro k hk hn;rw[eO,rx (fun r=>hn i o hi r.1.symm)]
 grind
def aW(s:Sg)(i:Nat)(x:Nat×Nat):Sg:=fun j=>if j=i then x else s j
theorem cU(s:Sg)(i:Nat)(x:Nat×Nat):aW s i x i=x:=by simp[aW]
theorem uV(s:Sg)(i:Nat)(x:Nat×Nat){j:Nat}(h:j<i):aW s i x j=s j:=by simp[aW];omega
theorem ab.new(H:ab s h w){c:Nat}{ob:Obj}
  (ho:cj (aW s h.next (w.heap.size,c)) h.next o' (some ob)) (hw:jQ (h.next+1) o'=true) (ht:Tr.set f h.tr h.next (some o')=some tr') :
  ab (aW s h.next (w.heap.size,c)) ⟨tr',h.next+1⟩ { w with heap:=w.heap.push ob } /\
  Ext s h w (aW s h.next (w.heap.size,c)) ⟨tr',h.next+1⟩ { w with heap:=w.heap.push ob }:=by
 have hg:=Tr.bM f h.tr h.next (some o') tr' ht;have old:∀j aIk,h.tr.get j=some aIk->aW s h.next (w.heap.size,c) j=s j:=fun j aIk hj=>uV s _ _ (H.lt j aIk hj);refine⟨⟨?_,?_,?_,?_⟩,⟨rfl,rfl,rfl,aGn,fun i hi=>uV s _ _ hi,aGn,?_,?_,fun j aIk hj hlt=>by grind⟩⟩
 .intro j aIk hj;simp only[hg j]at hj;by_cases q:j=h.next
  .subst q;simp only[aFx,bo]at hj;subst hj;rw[cU];simpa using ho
  .rw[rx q]at hj;have hb:=H.bound hj;rw[old j aIk hj];show cj _ _ _ ((w.heap.push ob)[(s j).1]?);rw[aFI,rx aGl];exact(H.obj j aIk hj).congr (fun k hk=>uV s _ _ hk) (H.lt j aIk hj) (H.ia j aIk hj)
 .intro j k aIk aIl hj hk e;simp only[hg j]at hj;simp only[hg k]at hk;by_cases q:j=h.next
  .by_cases r:k=h.next
   .rw[q,r]
   .rw[rx r]at hk;rw[q,cU,old k aIl hk]at e;have:=H.bound hk;simp only[]at e;omega
  .rw[rx q]at hj;by_cases r:k=h.next
   .rw[r,cU,old j aIk hj]at e;have:=H.bound hj;simp only[]at e;omega
   .rw[rx r]at hk;rw[old j aIk hj,old k aIl hk]at e;exact H.inj j k aIk aIl hj hk e
 .intro j aIk hj;simp only[hg j]at hj;by_cases q:j=h.next
  .simp[q]
  .rw[rx q]at hj;have:=H.lt j aIk hj;simp only;omega
 .intro j aIk hj;simp only[hg j]at hj;by_cases q:j=h.next
  .subst q;simp only[aFx,bo]at hj;subst hj;exact hw
  .rw[rx q]at hj;exact qP aGn (H.ia j aIk hj)
 .intro k hk hn
  grind
 .intro j aIk hj;simp only[hg j]at hj;by_cases q:j=h.next
  .subst q;right;rw[cU];exact pi _
  .rw[rx q]at hj;exact .inl ⟨j,aIk,hj,by rw[old j aIk hj]⟩
theorem ab.kill(H:ab s h w)(ht:Tr.set f h.tr i none=some tr'):ab s ⟨tr',h.next⟩ w/\Ext s h w s ⟨tr',h.next⟩ w:=by
 have hg:=Tr.bM f h.tr i none tr' ht;have sub:∀j o,tr'.get j=some o->h.tr.get j=some o:=by grind
 refine⟨⟨fun j o hj=>H.obj j o (sub j o hj),fun j k o o' hj hk=>H.inj j k o o' (sub j o hj) (sub k o' hk),fun j o hj=>H.lt j o (sub j o hj),fun j o hj=>H.ia j o (sub j o hj)⟩,
  ⟨rfl,rfl,rfl,pi _,fun _ _=>rfl,pi _,fun _ _ _=>rfl,fun j o hj=>.inl ⟨j,o,sub j o hj,rfl⟩,fun j o hj _=>⟨o,sub j o hj⟩⟩⟩
end Go.Proofs.YtjflbmpepamfjaaGreat.Ev
end
section
namespace Go.Proofs.YtjflbmpepamfjaaGreat.V
open Go Go.RowKit
open Go.Proofs.YtjflbmpepamfjaaGreat.Ev (Tr Tr.bM nth ct takeN eh fu fK cq eO jr)
def ug:Sh->Bool|.agg _=>true|_=>false
def Kx:Value->Bool|.agg _=>true|_=>false
def bR(w:World)(A:Nat->Prop)(σ:Sh)(d:σ.T)(V:Value):Prop:=Cs w A σ d V.cells.toList/\Kx V=ug σ
variable{σ:Sh}{A':Nat->Prop}{w:World}{w':World}{A:Nat->Prop}
theorem bR.keep(K:ib w A w' A'){d:σ.T}{V:Value}(h:bR w A σ d V):bR w' A' σ d V:=⟨h.1.keep K,h.2⟩
abbrev dD(σ:Sh):=List (Int×σ.T×Unit)
def iz(w:World)(A:Nat->Prop)(κ:IntKind)(σ:Sh):List MapEntry->dD σ->Prop
 |[],N=>N=[]|e::es,N=>match N with|p::N=>e.key=.int κ p.1/\bR w A σ p.2.1 e.val/\iz w A κ σ es N|[]=>False
variable{κ:IntKind}
theorem iz.keep(K:ib w A w' A'):∀{es:List MapEntry}{N:dD σ},iz w A κ σ es N->iz w' A' κ σ es N
 |[],_,h=>h|e::es,N,h=>by cases N with|nil=>exact h|cons p N=>exact⟨h.1,h.2.1.keep K,h.2.2.keep K⟩
def iC(w:World)(A:Nat->Prop)(κ:IntKind)(σ:Sh)(es:Array MapEntry)(clock:Nat)(M:dD σ):Prop:=∃N:dD σ,N.Perm M/\iz w A κ σ es.toList N/\M.Pairwise (fun p q=>p.1<q.1)/\(∀e∈es.toList,e.born<clock)/\es.toList.Pairwise (fun e f=>e.born≠f.born)
theorem iC.keep(K:ib w A w' A'){es:Array MapEntry}{clock:Nat}{M:dD σ}(h:iC w A κ σ es clock M):iC w' A' κ σ es clock M:=by obtain⟨N,h1,h2,h3⟩:=h;exact⟨N,h1,h2.keep K,h3⟩
abbrev iV:=Int×Int×List (Int×Int×Unit)×Unit
inductive AV where
 |bool (b:Bool)
 |int (k:IntKind) (n:Int)
 |str (s:ByteArray)
 |cX
 |ai
 |dt
 |dn
 |dW
 |jl
 |ptr (b off:Nat)
 |dK (b i z o:Nat)
 |fF (σ:Sh) (d:σ.T) (o:Nat)
 |hd (b:Nat) (τ:Sh)
 |vw (b:Nat) (τ:Sh) (off len:Nat)
 |fz (τ:Sh) (L:List τ.T)
 |func (f:FuncId) (first cap:List AV)
 |eg (τ:Sh) (z:Bool) (L:List τ.T)
 |mp (b:Nat)
 |ez (b:Nat)
 |rp (b i:Nat)
 |ra (b i:Nat)
 |agg (l:List AV)
 |bB (l:List AV)
inductive aE where
 |cells (l:List AV) (ty:TypeId)
 |arr (τ:Sh) (L:List τ.T) (ty:TypeId)
 |map (κ:IntKind) (σ:Sh) (M:dD σ)
 |fl (L:List iV) (ty:TypeId)
 |dA (τ:Sh) (i:Nat) (L:List τ.T) (vs:List AV) (ty:TypeId)
structure Hp where
 tr:Tr aE
 next:Nat
def aE.row:aE->Option Nat
 |.arr _ L _=>some L.length|.dA _ _ L _ _=>some L.length|_=>none
def rowOf(t:Tr aE)(b:Nat):Option Nat:=match t.get b with|some o=>o.row|none=>none
variable{ty:TypeId}{t:Tr aE}{τ:Sh}{b:Nat}{L:List τ.T}
theorem jH(h:t.get b=some (.arr τ L ty)):rowOf t b=some L.length:=by unfold rowOf;rw[h];rfl
theorem Y6{i:Nat}{vs:List AV}(h:t.get b=some (.dA τ i L vs ty)):rowOf t b=some L.length:=by unfold rowOf;rw[h];rfl
theorem kb{n:Nat}(h:rowOf t b=some n):∃o,t.get b=some o/\o.row=some n:=by
 unfold rowOf at h
 grind
theorem ji{o:aE}(h:t.get b=some o):rowOf t b=o.row:=by unfold rowOf;rw[h]
theorem YX{t':Tr aE}{b':Nat}(h:t.get b=t'.get b'):rowOf t b=rowOf t' b':=by unfold rowOf;rw[h]
inductive Loc where
 |at (b cap:Nat)
 |cu (b cap:Nat) (m:List (Nat×Nat))
 |nil
abbrev Sg:=Nat->Option Loc
def Loc.slice:Loc->Nat->Value
 |.at b c,n=>.slice (some ⟨b,0,none⟩) n c|.cu b c _,n=>.slice (some ⟨b,0,none⟩) n c|.nil,n=>.slice none n 0
def Loc.QH:Loc->Value
 |.cu b c m=>.slice (some ⟨b,0,none⟩) m.length c|_=>.slice none 0 0
def Loc.own:Loc->Nat->Prop
 |.at b _,x=>x=b|.cu b _ m,x=>x=b\/∃p∈m,x=p.1\/x=p.2|.nil,_=>False
def rJ(w:World)(A:Nat->Prop)(p:Nat×Nat)(d:iV)(ty:TypeId):Prop:=w.heap[p.1]?=some (.cells #[.int .i64 d.1,.int .i64 d.2.1,.map (some p.2)] ty (0,0))/\∃es clock,w.heap[p.2]?=some (.map es clock)/\iC w A .u64 (.int .u64) es clock d.2.2.1
def fL(w:World)(A:Nat->Prop)(ty:TypeId):List (Nat×Nat)->List iV->Prop
 |[],L=>L=[]|p::m,L=>match L with|d::L=>rJ w A p d ty/\fL w A ty m L|[]=>False
def jw(m:List (Nat×Nat)):kw:=m.map fun p=>.pointer (some ⟨p.1,0,none⟩)
def fR(m:List (Nat×Nat)):jp:=m.flatMap fun p=>[p.1,p.2]
structure Cx where
 s:Sg
 h:Hp
 w:World
 A:Nat->Prop
def Cx.bI(X:Cx)(b:Nat):Prop:=∃i o l,X.h.tr.get i=some o/\X.s i=some l/\l.own b
def Cx.out(X:Cx)(b:Nat):Prop:=X.A b\/X.bI b
mutual
def Rel(X:Cx):AV->Value->Prop
 |.bool b,V=>V=.bool b|.int k n,V=>V=.int k n|.str s,V=>V=.string s|.cX,V=>V=.pointer none|.ai,V=>V=.slice none 0 0|.dt,V=>V=.map none|.dn,V=>V=.nilFunc|.dW,V=>V=.nilIface|.jl,V=>Ev.lF V=true|.ptr b off,V=>∃x c,X.s b=some (.at x c)/\V=.pointer (some ⟨x,off,none⟩)|.dK b i z o,V=>∃x c,X.s b=some (.at x c)/\V=.pointer (some ⟨x,i*z+o,none⟩)/\∀n,rowOf X.h.tr b=some n->i<n|.fF σ d o,V=>∃b off cs,V=.pointer (some ⟨b,off+o,none⟩)/\¬X.out b/\Cs X.w X.out σ d cs/\yl X.w b off cs|.hd b τ,V=>∃l,X.s b=some l/\Ev.lF V=true/\∀n,rowOf X.h.tr b=some n->V=l.slice n|.vw b τ off len,V=>∃l a c,X.s b=some l/\V=.slice a len c/\len<=c/\(0<len->∃x k,l=.at x k/\a=some ⟨x,off*τ.size,none⟩)/\(off=0->V=l.slice len) /\
   ∀n,rowOf X.h.tr b=some n->off+len<=n
 |.fz τ L,V=>Cs X.w X.out (.sl τ) L [V]|.func f x c,V=>∃xs cs,V=.func (.func f) (List.toArray xs) (List.toArray cs)/\bm X x xs/\bm X c cs|.eg τ z L,V=>Cs X.w X.out (.sl τ) L [V]/\∃a l c,V=.slice a l c/\a.isNone=z|.mp b,V=>∃x c,X.s b=some (.at x c)/\V=.map (some x)|.ez b,V=>∃l,X.s b=some l/\V=l.QH|.rp b i,V=>∃x c m p,X.s b=some (.cu x c m)/\m[i]?=some p/\V=.pointer (some ⟨p.1,0,none⟩)|.ra b i,V=>∃x c m,X.s b=some (.cu x c m)/\i<m.length/\V=.pointer (some ⟨x,i,none⟩)|.agg l,V=>∃cs,V=.agg (List.toArray cs)/\bm X l cs|.bB l,V=>∃cs,V=.tuple (List.toArray cs)/\bm X l cs
termination_by structural x=>x
def bm(X:Cx):List AV->kw->Prop
 |[],cs=>cs=[]|x::l,cs=>∃v r,cs=v::r/\Rel X x v/\bm X l r
termination_by structural x=>x
end
structure gw(X X':Cx):Prop where
 sg:∀i l,X.s i=some l->X'.s i=some l
 K:ib X.w X.out X'.w X'.out
 len:∀j l n,X.s j=some l->rowOf X'.h.tr j=some n->rowOf X.h.tr j=some n
theorem gw.refl(X:Cx):gw X X:=⟨fun _ _ h=>h,fun b o h q=>⟨q,h⟩,fun j l n _ h=>h⟩
mutual
theorem Rel.ext{X X':Cx}(E:gw X X'):∀{v:AV}{V:Value},Rel X v V->Rel X' v V
 |.bool _,_,h|.int _ _,_,h|.str _,_,h|.cX,_,h|.ai,_,h|.dt,_,h|.dn,_,h|.dW,_,h|.jl,_,h=>h|.ptr b off,V,⟨x,c,h1,h2⟩=>⟨x,c,E.sg _ _ h1,h2⟩|.dK b i z o,V,⟨x,c,h1,h2,h3⟩=>⟨x,c,E.sg _ _ h1,h2,fun n q=>h3 n (E.len b _ n h1 q)⟩|.fF σ d o,V,⟨b,off,cs,h1,h2,h3,h4⟩=>by obtain⟨k1,k2⟩:=h4.keep E.K h2;exact⟨b,off,cs,h1,k2,h3.keep E.K,k1⟩
 |.hd b τ,V,⟨l,h1,hc,h2⟩=>⟨l,E.sg _ _ h1,hc,fun n q=>h2 n (E.len b _ n h1 q)⟩|.vw b τ off len,V,⟨l,a,c,h1,h2,h3,h4,h5,h6⟩=>⟨l,a,c,E.sg _ _ h1,h2,h3,h4,h5,fun n q=>h6 n (E.len b _ n h1 q)⟩|.fz τ L,V,h=>Cs.keep E.K (σ:=.sl τ) h|.func f x c,V,⟨xs,cs,h1,h2,h3⟩=>⟨xs,cs,h1,bm.ext E h2,bm.ext E h3⟩|.eg τ z L,V,h=>⟨Cs.keep E.K (σ:=.sl τ) h.1,h.2⟩|.mp b,V,⟨x,c,h1,h2⟩=>⟨x,c,E.sg _ _ h1,h2⟩|.ez b,V,⟨l,h1,h2⟩=>⟨l,E.sg _ _ h1,h2⟩|.rp b i,V,⟨x,c,m,p,h1,h2⟩=>⟨x,c,m,p,E.sg _ _ h1,h2⟩|.ra b i,V,⟨x,c,m,h1,h2⟩=>⟨x,c,m,E.sg _ _ h1,h2⟩|.agg l,V,⟨cs,h1,h2⟩=>⟨cs,h1,bm.ext E h2⟩|.bB l,V,⟨cs,h1,h2⟩=>⟨cs,h1,bm.ext E h2⟩
theorem bm.ext{X X':Cx}(E:gw X X'):∀{l:List AV}{cs:kw},bm X l cs->bm X' l cs
 |[],_,h=>h|x::l,_,⟨v,r,e,h1,h2⟩=>⟨v,r,e,Rel.ext E h1,bm.ext E h2⟩
end
theorem bm.length{X:Cx}:∀{l:List AV}{cs:kw},bm X l cs->cs.length=l.length
 |[],_,h=>by rw[show _=[]from h];rfl|x::l,_,⟨v,r,e,h1,h2⟩=>by rw[e,cF,cF,h2.length]
theorem bm.append{X:Cx}:∀{l m:List AV}{cs ds:kw},bm X l cs->bm X m ds->bm X (l++m) (cs++ds)
 |[],m,_,ds,h,q=>by rw[show _=[]from h];simpa using q|x::l,m,_,ds,⟨v,r,e,h1,h2⟩,q=>⟨v,r++ds,by rw[e];rfl,h1,h2.append q⟩
theorem bm.take{X:Cx}:∀{l:List AV}{cs:kw}(n:Nat),bm X l cs->bm X (l.take n) (cs.take n)
 |[],_,n,h=>by rw[show _=[]from h];simp[bm]|x::l,_,0,h=>by simp[bm]|x::l,_,n+1,⟨v,r,e,h1,h2⟩=>⟨v,r.take n,by rw[e];rfl,h1,h2.take n⟩
theorem bm.drop{X:Cx}:∀{l:List AV}{cs:kw}(n:Nat),bm X l cs->bm X (l.drop n) (cs.drop n)
 |[],_,n,h=>by rw[show _=[]from h];simp[bm]|x::l,_,0,h=>by grind|x::l,_,n+1,⟨v,r,e,h1,h2⟩=>by rw[e];simpa using h2.drop n
theorem bm.get{X:Cx}:∀{l:List AV}{cs:kw}{i:Nat}{v:AV},bm X l cs->l[i]?=some v->∃V,cs[i]?=some V/\Rel X v V
 |[],_,i,v,h,q=>by simp at q|x::l,_,0,v,⟨u,r,e,h1,h2⟩,q=>by grind|x::l,_,i+1,v,⟨u,r,e,h1,h2⟩,q=>by
  obtain⟨V,a,b⟩:=h2.get (by simpa using q)
  grind
def cj(X:Cx)(l:Loc):aE->Prop
 |.cells vs ty=>∃b c cs,l=.at b c/\X.w.heap[b]?=some (.cells (List.toArray cs) ty (0,0))/\bm X vs cs|.arr τ L ty=>match l with|.nil=>L=[]|.at b c=>∃cs tail,X.w.heap[b]?=some (.cells (List.toArray (cs++tail)) ty (0,0))/\aY (Cs X.w X.out τ) L cs/\cs.length+tail.length=c*τ.size/\L.length<=c|.cu _ _ _=>False
 |.map κ σ M=>∃x c es clk,l=.at x c/\X.w.heap[x]?=some (.map es clk)/\iC X.w X.out κ σ es clk M|.fl L ty=>match l with|.nil=>L=[]|.cu b c m=>∃tail ty',X.w.heap[b]?=some (.cells (List.toArray (jw m++tail)) ty' (0,0))/\m.length+tail.length=c/\fL X.w X.out ty m L/\(b::fR m).Nodup|.at _ _=>False
 |.dA τ i L vs ty=>∃b c pre mid post tail,l=.at b c/\X.w.heap[b]?=some (.cells (List.toArray (pre++(mid++(post++tail)))) ty (0,0))/\aY (Cs X.w X.out τ) (L.take i) pre/\bm X vs mid/\aY (Cs X.w X.out τ) (L.drop (i+1)) post /\
   i<L.length/\mid.length=τ.size/\pre.length+(mid.length+(post.length+tail.length))=c*τ.size/\L.length<=c
theorem rJ.ext{w w':World}{A A':Nat->Prop}(K:ib w A w' A'){p:Nat×Nat}{d:iV}{ty:TypeId}(h1:w'.heap[p.1]?=w.heap[p.1]?)(h2:w'.heap[p.2]?=w.heap[p.2]?)(h:rJ w A p d ty):rJ w' A' p d ty:=by obtain⟨a,es,clk,b,c⟩:=h;exact⟨h1.trans a,es,clk,h2.trans b,c.keep K⟩
theorem fL.ext{w w':World}{A A':Nat->Prop}(K:ib w A w' A'){ty:TypeId}:∀{m:List (Nat×Nat)}{L:List iV},(∀p∈m,w'.heap[p.1]?=w.heap[p.1]?/\w'.heap[p.2]?=w.heap[p.2]?)->fL w A ty m L->fL w' A' ty m L
 |[],L,_,h=>h|p::m,L,hb,h=>by cases L with|nil=>exact h|cons d L=>exact⟨h.1.ext K (hb p aGn).1 (hb p aGn).2,fL.ext K (fun q hq=>hb q (by simp[hq])) h.2⟩
theorem fL.there{w:World}{A:Nat->Prop}{ty:TypeId}:∀{m:List (Nat×Nat)}{L:List iV},fL w A ty m L->∀p∈m,(∃ob,w.heap[p.1]?=some ob)/\∃ob,w.heap[p.2]?=some ob
 |[],L,h,p,hp=>by cases hp
 |q::m,L,h,p,hp=>by
  cases L with
  |nil=>exact h.elim|cons d L=>
   rcases AT.1 hp with rfl|hp
   .obtain⟨⟨a,es,clk,b,c⟩,_⟩:=h
    grind
   .exact fL.there h.2 p hp
theorem fL.len{w:World}{A:Nat->Prop}{ty:TypeId}:∀{m:List (Nat×Nat)}{L:List iV},fL w A ty m L->m.length=L.length
 |[],L,h=>by rw[show L=[]from h];rfl|p::m,L,h=>by cases L with|nil=>exact h.elim|cons d L=>rw[cF,cF,fL.len h.2]
theorem cj.ext{X X':Cx}(E:gw X X'){l:Loc}{o:aE}(hb:∀b,l.own b->X'.w.heap[b]?=X.w.heap[b]?)(h:cj X l o):cj X' l o:=by
 cases o with
 |cells vs ty=>obtain⟨b,c,cs,h1,h2,h3⟩:=h;exact⟨b,c,cs,h1,(hb b (by rw[h1];rfl)).trans h2,h3.ext E⟩
 |arr τ L ty=>
  cases l with
  |nil=>exact h|«at» b c=>obtain⟨cs,tail,h1,h2,h3,h4⟩:=h;exact⟨cs,tail,(hb b rfl).trans h1,h2.mono (fun x d q=>q.keep E.K),h3,h4⟩
  |cu b c m=>exact h.elim
 |map κ σ M=>obtain⟨x,c,es,clk,rfl,h2,h3⟩:=h;exact⟨x,c,es,clk,rfl,(hb _ rfl).trans h2,h3.keep E.K⟩
 |fl L ty=>cases l with|nil=>exact h|«at» b c=>exact h.elim|cu b c m=>obtain⟨tail,ty',h1,h2,h3,h4⟩:=h;exact⟨tail,ty',(hb b (.inl rfl)).trans h1,h2,h3.ext E.K (fun p hp=>⟨hb _ (.inr ⟨p,hp,.inl rfl⟩),hb _ (.inr ⟨p,hp,.inr rfl⟩)⟩),h4⟩
 |dA τ i L vs ty=>obtain⟨b,c,pre,mid,post,tail,rfl,h1,h2,h3,h4,h5⟩:=h;exact⟨b,c,pre,mid,post,tail,rfl,(hb b rfl).trans h1,h2.mono (fun x d q=>q.keep E.K),h3.ext E,h4.mono (fun x d q=>q.keep E.K),h5⟩
theorem cj.there{X:Cx}{l:Loc}{b:Nat}{o:aE}(h:cj X l o)(hb:l.own b):∃ob,X.w.heap[b]?=some ob:=by
 cases o with
 |cells vs ty=>obtain⟨b',c',cs,rfl,h2,h3⟩:=h;cases hb;exact⟨_,h2⟩
 |arr τ L ty=>
  cases l with
  |nil=>exact hb.elim|«at» b' c=>obtain⟨cs,tail,h1,h2,h3,h4⟩:=h;cases hb;exact⟨_,h1⟩
  |cu b c m=>exact h.elim
 |map κ σ M=>obtain⟨x,c,es,clk,rfl,h2,h3⟩:=h;cases hb;exact⟨_,h2⟩
 |fl L ty=>
  cases l with
  |nil=>exact hb.elim|«at» b c=>exact h.elim|cu b' c m=>
   obtain⟨tail,ty',h1,h2,h3,h4⟩:=h;rcases hb with rfl|⟨q,hq,rfl|rfl⟩
   .exact⟨_,h1⟩
   .exact(h3.there q hq).1
   .exact(h3.there q hq).2
 |dA τ i L vs ty=>obtain⟨b',c,pre,mid,post,tail,rfl,h1,_⟩:=h;cases hb;exact⟨_,h1⟩
structure ab(X:Cx):Prop where
 obj:∀i o l,X.h.tr.get i=some o->X.s i=some l->cj X l o
 inj:∀i j o o' l l' b,X.h.tr.get i=some o->X.h.tr.get j=some o'->X.s i=some l->X.s j=some l'->l.own b->l'.own b->i=j
 lt:∀i o,X.h.tr.get i=some o->i<X.h.next
 cJ:∀i l,X.s i=some l->i<X.h.next
 alt:∀b,X.A b->b<X.w.heap.size
 loc:∀i o l b,X.h.tr.get i=some o->X.s i=some l->l.own b->¬X.A b
theorem iY{α:Type}{a:Array α}{i:Nat}{x:α}(h:a[i]?=some x):i<a.size:=by grind
theorem ab.jZ{X:Cx}(H:ab X){i:Nat}{o:aE}{l:Loc}{b:Nat}(hi:X.h.tr.get i=some o)(hs:X.s i=some l)(hb:l.own b):b<X.w.heap.size:=by obtain⟨ob,h⟩:=(H.obj i o _ hi hs).there hb;exact iY h
theorem ab.bound{X:Cx}(H:ab X){i:Nat}{o:aE}{b c:Nat}(hi:X.h.tr.get i=some o)(hs:X.s i=some (.at b c)):b<X.w.heap.size:=H.jZ hi hs rfl
theorem ab.AD{X:Cx}(H:ab X){b:Nat}(h:X.bI b):b<X.w.heap.size:=by obtain⟨i,o,l,h1,h2,h3⟩:=h;exact H.jZ h1 h2 h3
structure aH(X X':Cx):Prop where
 os:X'.w.os=X.w.os
 tape:X'.w.tape=X.w.tape
 output:X'.w.output=X.w.output
 size:X.w.heap.size<=X'.w.heap.size
 sg:∀i l,X.s i=some l->X'.s i=some l
 cJ:∀i l,i<X.h.next->X'.s i=some l->X.s i=some l
 next:X.h.next<=X'.h.next
 frame:∀b,b<X.w.heap.size->¬X.bI b->X'.w.heap[b]?=X.w.heap[b]?
 bI:∀b,X'.bI b->X.bI b\/X.w.heap.size<=b
 len:∀j n,j<X.h.next->rowOf X'.h.tr j=some n->rowOf X.h.tr j=some n
 same:∀i,i<X.h.next->X.s i=none->X'.h.tr.get i=X.h.tr.get i
 A:X'.A=X.A
theorem aH.refl(X:Cx):aH X X:=⟨rfl,rfl,rfl,pi _,fun _ _ h=>h,fun _ _ _ h=>h,pi _,fun _ _ _=>rfl,fun _ h=>.inl h,fun j n _ h=>h,fun _ _ _=>rfl,rfl⟩
theorem aH.trans{X X' X'':Cx}(a:aH X X')(b:aH X' X''):aH X X'' where
 os:=b.os.trans a.os
 tape:=b.tape.trans a.tape
 output:=b.output.trans a.output
 size:=rt a.size b.size
 sg i l h:=b.sg i l (a.sg i l h)
 cJ i l hi h:=a.cJ i l hi (b.cJ i l (ro hi a.next) h)
 next:=rt a.next b.next
 frame k hk hn:=by
  refine(b.frame k (ro hk a.size) fun q=>?_).trans (a.frame k hk hn);rcases a.bI k q with q|q
  .exact hn q
  .omega
 bI k h:=by
  rcases b.bI k h with q|q
  .exact a.bI k q
  .exact .inr (rt a.size q)
 len j n hj h:=a.len j n hj (b.len j n (ro hj a.next) h)
 same i hi hs:=by
  have:X'.s i=none:=by cases q:X'.s i with|none=>rfl|some l=>rw[a.cJ i l hi q]at hs;cases hs
  exact(b.same i (ro hi a.next) this).trans (a.same i hi hs)
 A:=b.A.trans a.A
theorem aH.keeps{X X':Cx}(E:aH X X'):ib X.w X.out X'.w X'.out:=by
 intro b o h q;have hb:=iY q;refine⟨(E.frame b hb fun r=>h (.inr r)).trans q,?_⟩;rintro(r|r)
 .rw[E.A]at r;exact h (.inl r)
 .rcases E.bI b r with r|r
  .exact h (.inr r)
  .omega
theorem aH.ei{X X':Cx}(E:aH X X')(H:ab X):gw X X':=⟨E.sg,E.keeps,fun j l n h q=>E.len j n (H.cJ j l h) q⟩
theorem aH.drew(X:Cx)(d:Nat):aH X { X with w:={ X.w with drawn:=d } }:=⟨rfl,rfl,rfl,pi _,fun _ _ h=>h,fun _ _ _ h=>h,pi _,fun _ _ _=>rfl,fun _ h=>.inl h,fun j n _ h=>h,fun _ _ _=>rfl,rfl⟩
theorem gw.of_heap{X:Cx}{w:World}(h:w.heap=X.w.heap):gw X { X with w:=w }:=⟨fun _ _ h=>h,fun b o q r=>⟨by grind,q⟩,fun j l n _ q=>q⟩
theorem ab.drew{X:Cx}(H:ab X)(d:Nat):ab { X with w:={ X.w with drawn:=d } }:=⟨fun i o l h q=>(H.obj i o l h q).ext (gw.of_heap (X:=X) (w:={ X.w with drawn:=d }) rfl) (fun _ _=>rfl),H.inj,H.lt,H.cJ,H.alt,H.loc⟩
theorem aH.put{X:Cx}(H:ab X){i f:Nat}{o o':aE}{b c:Nat}{ob:Obj}{tr':Tr aE}(hi:X.h.tr.get i=some o)(hs:X.s i=some (.at b c))
  (hl:∀n,o'.row=some n->o.row=some n) (ht:Tr.set f X.h.tr i (some o')=some tr') :
  aH X ⟨X.s,⟨tr',X.h.next⟩,cq X.w b ob,X.A⟩:=by
 have hg:=Tr.bM f X.h.tr i (some o') tr' ht;refine⟨rfl,rfl,rfl,by rw[jr];exact pi _,fun _ _ h=>h,fun _ _ _ h=>h,pi _,?_,?_,?_,?_,rfl⟩
 .intro k hk hn;show(cq X.w b ob).heap[k]?=_;rw[eO,rx];rintro⟨rfl,_⟩;exact hn ⟨i,o,_,hi,hs,rfl⟩
 .rintro k ⟨j,aIk,aHd,h1,h2⟩;left;simp only[hg j]at h1;by_cases q:j=i
  .subst q;exact⟨j,o,aHd,hi,h2⟩
  .rw[rx q]at h1;exact⟨j,aIk,aHd,h1,h2⟩
 .intro j n hj h
  replace h:rowOf tr' j=some n:=h
  unfold rowOf at h;rw[hg j]at h;by_cases q:j=i
  .subst q;rw[BY rfl]at h;show rowOf X.h.tr j=some n;rw[ji hi];exact hl n h
  .rw[rx q]at h;exact h
 grind
theorem ab.put{X:Cx}(H:ab X){i f:Nat}{o o':aE}{b c:Nat}{ob:Obj}{tr':Tr aE}(hi:X.h.tr.get i=some o)(hs:X.s i=some (.at b c))
  (hl:∀n,o'.row=some n->o.row=some n) (ht:Tr.set f X.h.tr i (some o')=some tr')
  (ho:cj ⟨X.s,⟨tr',X.h.next⟩,cq X.w b ob,X.A⟩ (.at b c) o'):ab ⟨X.s,⟨tr',X.h.next⟩,cq X.w b ob,X.A⟩:=by
 have E:=aH.put (ob:=ob) H hi hs hl ht;have hg:=Tr.bM f X.h.tr i (some o') tr' ht;have alt:∀j aIk,tr'.get j=some aIk->∃aIl,X.h.tr.get j=some aIl:=by grind
 refine⟨?_,?_,?_,H.cJ,by rw[show(cq X.w b ob).heap.size=X.w.heap.size from jr _ _ _];exact H.alt,?_⟩
 .intro j aIk l hj hl';simp only[hg j]at hj;by_cases q:j=i
  .subst q
   grind
  .rw[rx q]at hj;refine(H.obj j aIk l hj hl').ext (E.ei H) ?_;intro b' hb';show(cq X.w b ob).heap[b']?=_;rw[eO,rx];rintro⟨rfl,_⟩;exact q (H.inj j i aIk o l _ b' hj hi hl' hs hb' rfl)
 .intro j k aIk aIl l₁ aId x hj hk e1 e2;obtain⟨p,hp⟩:=alt j aIk hj;obtain⟨q,hq⟩:=alt k aIl hk;exact H.inj j k p q l₁ aId x hp hq e1 e2
 .intro j aIk hj;obtain⟨p,hp⟩:=alt j aIk hj;exact H.lt j p hp
 .intro j aIk l₁ x hj e;obtain⟨p,hp⟩:=alt j aIk hj;exact H.loc j p l₁ x hp e
def aW(s:Sg)(i:Nat)(x:Loc):Sg:=fun j=>if j=i then some x else s j
theorem cU(s:Sg)(i:Nat)(x:Loc):aW s i x i=some x:=by simp[aW]
theorem cZ(s:Sg)(i:Nat)(x:Loc){j:Nat}(h:j≠i):aW s i x j=s j:=by simp[aW,h]
theorem gw.real{X:Cx}(H:ab X){i:Nat}{c:Nat}{ob:Obj}(hs:X.s i=none):gw X ⟨aW X.s i (.at X.w.heap.size c),X.h,{ X.w with heap:=X.w.heap.push ob },X.A⟩:=by
 have hne:∀j l,X.s j=some l->j≠i:=by grind
 refine⟨fun j l h=>by show aW X.s i _ j=_;rw[cZ _ _ _ (hne j l h)];exact h,?_,fun j l n _ q=>q⟩;intro b o h q;have hb:=iY q;refine⟨by grind,?_⟩;rintro(r|⟨j,aIk,aHd,h1,h2⟩)
 .exact h (.inl r)
 .obtain⟨h2,h3⟩:=h2
  replace h2:aW X.s i (.at X.w.heap.size c) j=some aHd:=h2
  by_cases q:j=i
  .subst q;rw[cU]at h2;cases h2;have:b=X.w.heap.size:=h3;omega
  .rw[cZ _ _ _ q]at h2;exact h (.inr ⟨j,aIk,aHd,h1,h2,h3⟩)
theorem ab.real{X:Cx}(H:ab X){i:Nat}{c:Nat}{ob:Obj}(hs:X.s i=none)(hi:i<X.h.next)
  (ho:∀o,X.h.tr.get i=some o->cj ⟨aW X.s i (.at X.w.heap.size c),X.h,{ X.w with heap:=X.w.heap.push ob },X.A⟩ (.at X.w.heap.size c) o) :
  ab ⟨aW X.s i (.at X.w.heap.size c),X.h,{ X.w with heap:=X.w.heap.push ob },X.A⟩:=by
 have E:=gw.real (c:=c) (ob:=ob) H hs;refine⟨?_,?_,H.lt,?_,fun b hb=>by have:=H.alt b hb;simp;omega,?_⟩
 .intro j o l hj hl
  replace hl:aW X.s i (.at X.w.heap.size c) j=some l:=hl
  by_cases q:j=i
  .subst q;rw[cU]at hl
   grind
  .rw[cZ _ _ _ q]at hl;refine(H.obj j o l hj hl).ext E ?_;intro b hb;have:=H.jZ hj hl hb
   grind
 .intro j k o o' aHd aHe b hj hk e1 e2 f1 f2
  replace e1:aW X.s i (.at X.w.heap.size c) j=some aHd:=e1
  replace e2:aW X.s i (.at X.w.heap.size c) k=some aHe:=e2
  by_cases q:j=i
  .by_cases r:k=i
   .rw[q,r]
   .rw[cZ _ _ _ r]at e2;subst q;rw[cU]at e1;cases e1;have:=H.jZ hk e2 f2;have:b=X.w.heap.size:=f1;omega
  .rw[cZ _ _ _ q]at e1;by_cases r:k=i
   .subst r;rw[cU]at e2;cases e2;have:=H.jZ hj e1 f1;have:b=X.w.heap.size:=f2;omega
   .rw[cZ _ _ _ r]at e2;exact H.inj j k o o' aHd aHe b hj hk e1 e2 f1 f2
 .intro j l hl
  replace hl:aW X.s i (.at X.w.heap.size c) j=some l:=hl
  by_cases q:j=i
  .subst q;exact hi
  .rw[cZ _ _ _ q]at hl;exact H.cJ j l hl
 .intro j o aHd b hj e f
  replace e:aW X.s i (.at X.w.heap.size c) j=some aHd:=e
  by_cases q:j=i
  .subst q;rw[cU]at e;cases e;intro ha;have:=H.alt b ha;have:b=X.w.heap.size:=f;omega
  .rw[cZ _ _ _ q]at e;exact H.loc j o aHd b hj e f
theorem aH.more{X:Cx}(H:ab X){f:Nat}{o:aE}{tr':Tr aE}(ht:Tr.set f X.h.tr X.h.next (some o)=some tr'):aH X ⟨X.s,⟨tr',X.h.next+1⟩,X.w,X.A⟩/\ab ⟨X.s,⟨tr',X.h.next+1⟩,X.w,X.A⟩:=by
 have hg:=Tr.bM f X.h.tr X.h.next (some o) tr' ht;have hn:X.s X.h.next=none:=by cases q:X.s X.h.next with|none=>rfl|some l=>have:=H.cJ _ _ q;omega
 have old:∀j l,X.s j=some l->tr'.get j=X.h.tr.get j:=by grind
 have E:aH X ⟨X.s,⟨tr',X.h.next+1⟩,X.w,X.A⟩:=by
  refine⟨rfl,rfl,rfl,pi _,fun _ _ h=>h,fun _ _ _ h=>h,aGn,fun _ _ _=>rfl,?_,?_,?_,rfl⟩
  .rintro b ⟨i,aIk,c,h1,h2,h3⟩;exact .inl ⟨i,aIk,c,by grind,h2,h3⟩
  .intro j n hj h
   replace h:rowOf tr' j=some n:=h
   unfold rowOf at h;rw[hg j,rx aGl]at h;exact h
  grind
 refine⟨E,⟨?_,?_,?_,?_,H.alt,?_⟩⟩
 .intro j aIk l hj hl
  replace hj:tr'.get j=some aIk:=hj
  rw[old j l hl]at hj;exact(H.obj j aIk l hj hl).ext (E.ei H) (fun _ _=>rfl)
 .intro j k aIk aIl b aHd aHe hj hk e1 e2
  replace hj:tr'.get j=some aIk:=hj
  replace hk:tr'.get k=some aIl:=hk
  rw[old j _ e1]at hj;rw[old k _ e2]at hk;exact H.inj j k aIk aIl b aHd aHe hj hk e1 e2
 .intro j aIk hj;simp only[hg j]at hj;by_cases q:j=X.h.next
  .simp[q]
  .rw[rx q]at hj;have:=H.lt j aIk hj;simp only;omega
 .intro j l h;have:=H.cJ j l h;simp only;omega
 .intro j aIk b c hj e
  replace hj:tr'.get j=some aIk:=hj
  rw[old j _ e]at hj;exact H.loc j aIk b c hj e
theorem Wh{X:Cx}(H:ab X){f c:Nat}{o:aE}{ob:Obj}{tr':Tr aE}(ht:Tr.set f X.h.tr X.h.next (some o)=some tr') :
  aH X ⟨aW X.s X.h.next (.at X.w.heap.size c),⟨tr',X.h.next+1⟩,{ X.w with heap:=X.w.heap.push ob },X.A⟩:=by
 obtain⟨E,H'⟩:=aH.more H ht;have hn:X.s X.h.next=none:=by cases q:X.s X.h.next with|none=>rfl|some l=>have:=H.cJ _ _ q;omega
 refine⟨rfl,rfl,rfl,aGn,?_,?_,aGn,?_,?_,E.len,E.same,rfl⟩
 .intro i l h;have:=H.cJ i l h;show aW X.s _ _ i=_;rw[cZ _ _ _ aGl];exact h
 .intro i l hi h
  replace h:aW X.s X.h.next _ i=some l:=h
  rw[cZ _ _ _ aGl]at h;exact h
 .intro b hb _
  grind
 .rintro b ⟨i,aIk,aHd,h1,h2,h3⟩
  replace h2:aW X.s X.h.next (.at X.w.heap.size c) i=some aHd:=h2
  by_cases q:i=X.h.next
  .subst q;rw[cU]at h2;cases h2;have:b=X.w.heap.size:=h3;right;omega
  .rw[cZ _ _ _ q]at h2;exact E.bI b ⟨i,aIk,aHd,h1,h2,h3⟩
theorem ab.new{X:Cx}(H:ab X){f c:Nat}{o:aE}{ob:Obj}{tr':Tr aE}(ht:Tr.set f X.h.tr X.h.next (some o)=some tr')
  (ho:cj ⟨aW X.s X.h.next (.at X.w.heap.size c),⟨tr',X.h.next+1⟩,{ X.w with heap:=X.w.heap.push ob },X.A⟩ (.at X.w.heap.size c) o) :
  ab ⟨aW X.s X.h.next (.at X.w.heap.size c),⟨tr',X.h.next+1⟩,{ X.w with heap:=X.w.heap.push ob },X.A⟩:=by
 obtain⟨E,H'⟩:=aH.more H ht;have hn:X.s X.h.next=none:=by cases q:X.s X.h.next with|none=>rfl|some l=>have:=H.cJ _ _ q;omega
 have hg:=Tr.bM f X.h.tr X.h.next (some o) tr' ht;refine ab.real H' hn aGn ?_
 grind
theorem ab.UA{X:Cx}(H:ab X){f:Nat}{vo:aE}{tr':Tr aE}(ht:Tr.set f X.h.tr X.h.next (some vo)=some tr')(hv:∀X',cj X' .nil vo) :
  aH X ⟨aW X.s X.h.next .nil,⟨tr',X.h.next+1⟩,X.w,X.A⟩/\ab ⟨aW X.s X.h.next .nil,⟨tr',X.h.next+1⟩,X.w,X.A⟩:=by
 obtain⟨E,H'⟩:=aH.more H ht;have hn:X.s X.h.next=none:=by cases q:X.s X.h.next with|none=>rfl|some l=>have:=H.cJ _ _ q;omega
 have hg:=Tr.bM f X.h.tr X.h.next (some vo) tr' ht;have ne:∀j l b,aW X.s X.h.next .nil j=some l->l.own b->X.s j=some l:=by
  intro j l b h hb;by_cases q:j=X.h.next
  .subst q;rw[cU]at h;cases h;exact hb.elim
  .rwa [cZ _ _ _ q]at h
 have S:aH X ⟨aW X.s X.h.next .nil,⟨tr',X.h.next+1⟩,X.w,X.A⟩:=by
  refine⟨rfl,rfl,rfl,pi _,?_,?_,aGn,fun _ _ _=>rfl,?_,E.len,E.same,rfl⟩
  .intro i l h;have:=H.cJ i l h;show aW X.s _ _ i=_;rw[cZ _ _ _ aGl];exact h
  .intro i l hi h
   replace h:aW X.s X.h.next _ i=some l:=h
   rw[cZ _ _ _ aGl]at h;exact h
  .rintro b ⟨i,aIk,aHd,h1,h2,h3⟩;exact E.bI b ⟨i,aIk,aHd,h1,ne _ _ _ h2 h3,h3⟩
 refine⟨S,⟨?_,?_,H'.lt,?_,H.alt,?_⟩⟩
 .intro j o l hj hl
  replace hl:aW X.s X.h.next .nil j=some l:=hl
  replace hj:tr'.get j=some o:=hj
  by_cases q:j=X.h.next
  .subst q;rw[cU]at hl
   grind
  .rw[cZ _ _ _ q]at hl;rw[hg,rx q]at hj;exact(H.obj j o l hj hl).ext (S.ei H) (fun _ _=>rfl)
 .intro j k o o' aHd aHe b hj hk e1 e2 f1 f2;exact H'.inj j k o o' aHd aHe b hj hk (ne _ _ _ e1 f1) (ne _ _ _ e2 f2) f1 f2
 .intro j l hl
  replace hl:aW X.s X.h.next .nil j=some l:=hl
  by_cases q:j=X.h.next
  .simp[q]
  .rw[cZ _ _ _ q]at hl;have:=H.cJ j l hl;simp only;omega
 .intro j o l b hj e f;exact H'.loc j o l b hj (ne _ _ _ e f) f
theorem ab.void{X:Cx}(H:ab X){f:Nat}{τ:Sh}{ty:TypeId}{tr':Tr aE}(ht:Tr.set f X.h.tr X.h.next (some (.arr τ [] ty))=some tr') :
  aH X ⟨aW X.s X.h.next .nil,⟨tr',X.h.next+1⟩,X.w,X.A⟩/\ab ⟨aW X.s X.h.next .nil,⟨tr',X.h.next+1⟩,X.w,X.A⟩:=H.UA ht fun _=>rfl
theorem ab.kill{X:Cx}(H:ab X){i f:Nat}{l:Loc}{tr':Tr aE}(hs:X.s i=some l)(ht:Tr.set f X.h.tr i none=some tr') :
  aH X ⟨X.s,⟨tr',X.h.next⟩,X.w,X.A⟩/\ab ⟨X.s,⟨tr',X.h.next⟩,X.w,X.A⟩:=by
 have hg:=Tr.bM f X.h.tr i none tr' ht;have sub:∀j o,tr'.get j=some o->X.h.tr.get j=some o/\j≠i:=by grind
 have E:aH X ⟨X.s,⟨tr',X.h.next⟩,X.w,X.A⟩:=by
  refine⟨rfl,rfl,rfl,pi _,fun _ _ h=>h,fun _ _ _ h=>h,pi _,fun _ _ _=>rfl,?_,?_,?_,rfl⟩
  .rintro b ⟨j,o,c,h1,h2⟩;exact .inl ⟨j,o,c,(sub j o h1).1,h2⟩
  .intro j n hj h;obtain⟨o,h1,h2⟩:=kb h;show rowOf X.h.tr j=some n;rw[ji (sub j o h1).1];exact h2
  grind
 exact⟨E,⟨fun j o l hj hl=>(H.obj j o l (sub j o hj).1 hl).ext (E.ei H) (fun _ _=>rfl),fun j k o o' l l' b hj hk=>H.inj j k o o' l l' b (sub j o hj).1 (sub k o' hk).1,
  fun j o hj=>H.lt j o (sub j o hj).1,H.cJ,H.alt,fun j o l b hj=>H.loc j o l b (sub j o hj).1⟩⟩
theorem ab.freeze{X:Cx}(H:ab X){i f:Nat}{l:Loc}{τ:Sh}{L:List τ.T}{ty:TypeId}{tr':Tr aE}(hi:X.h.tr.get i=some (.arr τ L ty))(hs:X.s i=some l)(ht:Tr.set f X.h.tr i none=some tr') :
  Cs X.w (Cx.out ⟨X.s,⟨tr',X.h.next⟩,X.w,X.A⟩) (.sl τ) L [l.slice L.length]:=by
 obtain⟨E,H'⟩:=H.kill hs ht;have hg:=Tr.bM f X.h.tr i none tr' ht;have ho:=H.obj i _ l hi hs;cases l with
 |nil=>have:L=[]:=ho;subst this;exact⟨none,0,0,rfl,rfl,pi _,fun h=>absurd rfl h⟩|«at» b c=>
  obtain⟨cs,tail,h1,h2,h3,h4⟩:=ho;refine⟨some ⟨b,0,none⟩,L.length,c,rfl,rfl,h4,fun _=>⟨b,0,cs,rfl,?_,h2.mono (fun x d q=>q.keep E.keeps),⟨_,ty,_,h1,?_⟩⟩⟩
  .rintro(q|⟨j,o,c',q1,q2,q3⟩)
   .exact H.loc i _ _ b hi hs rfl q
   .replace q1:tr'.get j=some o:=q1
    rw[hg j]at q1;by_cases r:j=i
    .rw[BY r]at q1;cases q1
    .rw[rx r]at q1;exact r (H.inj j i o _ c' _ b q1 hi q2 hs q3 rfl)
  grind
 |cu b c m=>exact ho.elim
end Go.Proofs.YtjflbmpepamfjaaGreat.V
end
section
namespace Go.Proofs.YtjflbmpepamfjaaGreat.Ev
open Go Go.RowKit
def FT:Nat:=30
variable{l:List AV}{w:World}{b:Nat}{h:Hp}{ty:TypeId}{op:Option Nat}{s:Sg}
theorem ab.cells(H:ab s h w)(hb:h.tr.get b=some (.cells l ty op)) :
  ∃tail:kw,w.heap[(s b).1]?=some (.cells (aG s l++tail).toArray ty (0,0))/\(op=none->tail=[])/\(∀sz,op=some sz->(l.length+tail.length=(s b).2*sz/\(s b).2<=9223372036854775807)):=by
 have:=H.obj b _ hb;cases op with
 |none=>exact⟨[],by simpa[cj]using this,fun _=>rfl,(fun _ h=>by cases h)⟩
 |some sz=>
  obtain⟨tail,h1,h2⟩:=this
  grind
theorem cj.agB{tail:kw}(h1:op=none->tail=[])(h2:∀sz,op=some sz->(l.length+tail.length=(s b).2*sz/\(s b).2<=9223372036854775807)) :
  cj s b (.cells l ty op) (some (.cells (aG s l++tail).toArray ty (0,0))):=by
 cases op with|none=>simp[cj,h1 rfl]|some sz=>exact⟨tail,rfl,h2 sz rfl⟩
def nZ(P:Program)(t:TypeId):Option Bool:=match P.underlying t with|some (.struct _)=>some true|some (.array _ _)=>some true|some _=>some false|none=>none
variable{t:TypeId}{P:Program}
theorem lD{b:Bool}(h:nZ P t=some b)(w:World):(isAgg t).run P w=.ok b w:=by unfold nZ at h;cases hu:P.underlying t with|none=>simp[hu]at h|some d=>cases d<;>simp[hu]at h<;>subst h<;>simp[isAgg,run_underlying hu]
def lH(P:Program)(h:Hp)(t:TypeId)(u:AV):Option AV:=match u with
 |.ptr b off=>match h.tr.get b with
  |some (.cells l _ _)=>match nZ P t with
   |some true=>match cP P t with
    |some n=>match Nat.ble (off+n) l.length with|true=>some (.agg (takeN n (eh off l)))|false=>none
    |none=>none
   |some false=>nth l off|none=>none
  |_=>none
 |_=>none
variable{v:AV}{u:AV}
theorem xU(e:lH P h t u=some v)(H:ab s h w) :
  (Instr.loadAt t (ah s u)).run P w=.ok (ah s v) w:=by
 unfold lH at e;split at e<;>try cases e
 rename_i b off;split at e<;>try cases e
 rename_i l ty op hb;obtain⟨tail,hw,_,_⟩:=H.cells hb;split at e
 .rename_i ha;split at e<;>try cases e
  rename_i n hn;split at e<;>try cases e
  rename_i hl;have hl:=qr hl;have hL:=fQ s l;simp only[Instr.loadAt,ah,Instr.sureAddr,Sem.run_bind,Sem.run_pure,Result.andThen_ok,loadVar,lD ha,aFx,run_sizeOf hn,loadCells];rw[run_loadCells hw n 0 #[] (by simp;omega)];simp only[Result.andThen_ok,Sem.run_pure];congr 3;simp only[aux,fu,fK,qO,sK]
  grind
 .rename_i ha;rw[ct]at e;have hlt:off<l.length:=by grind
  have hc:w.cell? ⟨(s b).1,off,none⟩=some (ah s v):=by have hL:=fQ s l;simp only[World.cell?,hw,aET,GE,aFk];simp only[pp];rw[Fr aGl,DY,e];rfl
  simp[Instr.loadAt,ah,Instr.sureAddr,loadVar,lD ha,run_load,hc]
 .cases e
variable{n:Nat}
theorem pI{a b:List AV}(ha:cV n a=true)(hb:cV n b=true):cV n (a++b)=true:=by
 rw[yg]at *
 grind
variable{k:Nat}
theorem DT{a:List AV}(ha:cV n a=true):cV n (takeN k a)=true:=by rw[fu];rw[yg]at *;grind
theorem NL{a:List AV}(ha:cV n a=true):cV n (eh k a)=true:=by rw[fK];rw[yg]at *;grind
theorem sI(h:ws n v=true):cV n (cr v)=true:=by cases v<;>simp only[cr,cV,h]<;>exact h
def pR(h:Hp)(b off:Nat)(vs:List AV):Option Hp:=match h.tr.get b with
 |some (.cells l ty op)=>match Nat.ble (off+vs.length) l.length,kh vs with
  |true,true=>match Tr.set FT h.tr b (some (.cells (takeN off l++(vs++eh (off+vs.length) l)) ty op))with|some tr=>some ⟨tr,h.next⟩|none=>none
  |_,_=>none
 |_=>none
variable{h':Hp}
theorem xR{off:Nat}{vs:List AV}(e:pR h b off vs=some h')(H:ab s h w)(hv:cV h.next vs=true) :
  ∃w',(storeCells ⟨(s b).1,off,none⟩ (aG s vs)).run P w=.ok () w'/\ab s h' w'/\Ext s h w s h' w':=by
 unfold pR at e;split at e<;>try cases e
 rename_i l ty op hb;split at e<;>try cases e
 rename_i hl ho;split at e<;>try cases e
 rename_i tr ht;have hl:=qr hl;obtain⟨tail,hw,h1,h2⟩:=H.cells hb;have hL:=fQ s l;have hV:=fQ s vs;obtain⟨c',hc',hr⟩:=kj (P:=P) (off:=off) (aG s vs) 0 w _ hw (by simp;omega) (by intro v hv;rw[sM]at hv;obtain⟨x,hx,rfl⟩:=IN.1 hv;exact VA ((VB vs).1 ho x hx));have hc:c'=(aG s (takeN off l++(vs++eh (off+vs.length) l))++tail).toArray:=by
  apply Rd.1;rw[hc'];simp only[aux,fu,fK,sE,qO,sK,hV]
  grind
 subst hc;have hlen:(takeN off l++(vs++eh (off+vs.length) l)).length=l.length:=by simp[fu,fK];omega
 have:=H.put (ob:=.cells (aG s (takeN off l++(vs++eh (off+vs.length) l))++tail).toArray ty (0,0)) hb rfl
  (cj.agB (ty:=ty) (op:=op) h1 (by rw[hlen];exact h2))
  (by have:=H.ia _ _ hb;simp only[jQ]at this |-;exact pI (DT this) (pI hv (NL this))) ht
 grind
def Hf(P:Program)(h:Hp)(t:TypeId)(u v:AV):Option Hp:=match u with
 |.ptr b off=>match cP P t with
  |some n=>match Nat.beq (cr v).length n with|true=>pR h b off (cr v)|false=>none
  |none=>none
 |_=>none
theorem ar6(e:Hf P h t u v=some h')(H:ab s h w)(hv:ws h.next v=true) :
  ∃w',(Instr.storeAt t (ah s u) (ah s v)).run P w=.ok () w'/\ab s h' w'/\Ext s h w s h' w':=by
 unfold Hf at e;split at e<;>try cases e
 rename_i b off;split at e<;>try cases e
 rename_i n hn;split at e<;>try cases e
 rename_i hl;have hl:=aK hl;obtain⟨w',hr,hH,hE⟩:=xR (P:=P) e H (sI hv);refine⟨w',?_,hH,hE⟩;have hsz:(ah s v).cells.size=n:=by rw[<-PP,lB,fQ,hl]
 simp only[Instr.storeAt,ah,Instr.sureAddr,Sem.run_bind,Sem.run_pure,Result.andThen_ok,storeVar,run_sizeOf hn];rw[rx (by simp[hsz])];simp only[Sem.run_pure,Result.andThen_ok,lB];exact hr
def rep:Nat->List AV->List AV
 |0,_=>[]|n+1,z=>z++rep n z
theorem DK(n:Nat)(z:List AV):(rep n z).length=n*z.length:=by induction n with|zero=>simp[rep]|succ n ih=>simp[rep,ih,So,Nat.add_comm]
theorem Wd(s:Sg)(z:List AV):∀(n i:Nat),i<n*z.length->(aG s (rep n z))[i]?=(aG s z)[i % z.length]?
 |0,i,h=>by omega|n+1,i,h=>by
  have hz:=fQ s z;simp only[rep,sE];rcases ww i z.length with q|q
  .rw[Fr aGl,aFJ q]
  .rw[IO aGl,hz,Wd s z n (i-z.length) (by grind)];congr 1;rw[<-aFY q]
theorem NO(s:Sg)(z:List AV)(n k:Nat)(zero:Array Value)(hz:zero.toList=aG s z)(hk:k=n*z.length) :
  ((Array.range k).map (zero[· % zero.size]!))=(aG s (rep n z)).toArray:=by
 have hs:zero.size=z.length:=by rw[<-PP,hz,fQ]
 apply Rd.1;apply aig;intro i;simp only[Array.toList_map,Array.toList_range,dO,List.toList_toArray];rcases ww i k with q|q
 .have hz0:0<z.length:=by grind
  rw[aFH q,aFN,Wd s z n i aGl,<-hz,hs];have hm:=Nat.mod_lt i hz0;simp[hs,hm]
 .rw[BT (by grind),BT (by rw[fQ,DK];omega)];rfl
theorem GZ{z:List AV}(h:cV n z=true)(k:Nat):cV n (rep k z)=true:=by induction k with|zero=>simp[rep,cV]|succ k ih=>exact pI h ih
theorem VZ{x:Value}(h:gD x=some v)(n:Nat):ws n v=true:=by
 cases x with
 |pointer a=>cases a<;>simp[gD]at h;subst h;rfl
 |map a=>cases a<;>simp[gD]at h;subst h;rfl
 |slice a l c=>
  simp only[gD]at h;split at h
  .simp at h;subst h;rfl
  .cases h
 |_=>simp[gD]at h<;>subst h<;>rfl
theorem GW:∀{x:kw}{l:List AV},fZ x=some l->∀n,cV n l=true
 |[],l,h,n=>by simp[fZ]at h;subst h;rfl|x::xs,l,h,n=>by
  simp only[fZ]at h;cases hv:gD x<;>simp only[hv]at h
  .cases h
  cases hl:fZ xs<;>simp only[hl]at h
  .cases h
  simp at h;subst h;simp[cV,VZ hv,GW hl]
theorem Hl{x:Value}(h:back x=some v)(n:Nat):ws n v=true:=by
 cases x with
 |agg l=>
  simp only[back]at h;cases hl:fZ l.toList<;>simp only[hl]at h
  .cases h
  simp at h;subst h;simp[ws,GW hl]
 |tuple l=>
  simp only[back]at h;cases hl:fZ l.toList<;>simp only[hl]at h
  .cases h
  simp at h;subst h;simp[ws,GW hl]
 |_=>simp only[back]at h;exact VZ h n
theorem Dy(h:eS P t=some v)(n:Nat):ws n v=true:=by
 unfold eS at h;split at h<;>try cases h
 split at h<;>try cases h
 exact Hl h n
def F9:AV->Option Nat
 |.int _ (.ofNat n)=>some n|_=>none
theorem asj(h:F9 v=some n)(s:Sg):∃k,ah s v=.int k (n:Int):=by
 unfold F9 at h;split at h<;>try cases h
 exact⟨_,rfl⟩
theorem pJ{k:IntKind}{y:Nat}{code:BoundsCode}(h:n<=y)(w:World):(Instr.sliceBound (.int k (n:Int)) y code).run P w=.ok n w:=by simp[Instr.sliceBound,asIntOf,h]
def dN(T:Tr AV)(x:Option Operand)(d:Nat):Option Nat:=match x with|none=>some d|some x=>match aQ T x with|some v=>F9 v|none=>none
variable{hi:Option Operand}{mx:Option Operand}{m:Nat}{lo:Option Operand}{T:Tr AV}{a:Act}
theorem qN{len cap l h:Nat}(hr:∀x,(lo=some x\/hi=some x\/mx=some x)->∀u,aQ T x=some u->a.eval x=ah s u)
  (h1:dN T lo 0=some l) (h2:dN T hi len=some h) (h3:dN T mx cap=some m) (q1:l<=h) (q2:h<=m) (q3:m<=cap) (q4:hi=none->mx=none) (w:World) :
  (Instr.sliceBounds true len cap (lo.map a.eval) (hi.map a.eval) (mx.map a.eval)).run P w=.ok (l,h,m) w:=by
 have val:∀x d r,(lo=some x\/hi=some x\/mx=some x)->dN T (some x) d=some r->∃k,a.eval x=.int k (r:Int):=by
  intro x d r hx he;unfold dN at he;simp only[]at he;split at he<;>try cases he
  rename_i v hv;obtain⟨k,hk⟩:=asj he s
  grind
 have hm:mx=none->m=cap:=by intro q;subst q;simpa[dN]using h3.symm
 have hh:hi=none->h=len:=by intro q;subst q;simpa[dN]using h2.symm
 have hl:lo=none->l=0:=by intro q;subst q;simpa[dN]using h1.symm
 unfold Instr.sliceBounds;cases mx with
 |none=>
  have hm:=hm rfl;subst hm;cases hi with
  |none=>have hh:=hh rfl;subst hh;cases lo with|none=>have:=hl rfl;subst this;simp|some x=>obtain⟨k,e⟩:=val x 0 l (.inl rfl) h1;simp[e,pJ q1]
  |some y=>obtain⟨k',e'⟩:=val y len h (.inr (.inl rfl)) h2;cases lo with|none=>have:=hl rfl;subst this;simp[e',pJ q2]|some x=>obtain⟨k,e⟩:=val x 0 l (.inl rfl) h1;simp[e,e',pJ q1,pJ q2]
 |some z=>
  obtain⟨k'',e''⟩:=val z cap m (.inr (.inr rfl)) h3;cases hi with
  |none=>cases q4 rfl
  |some y=>obtain⟨k',e'⟩:=val y len h (.inr (.inl rfl)) h2;cases lo with|none=>have:=hl rfl;subst this;simp[e',e'',pJ q2,pJ q3]|some x=>obtain⟨k,e⟩:=val x 0 l (.inl rfl) h1;simp[e,e',e'',pJ q1,pJ q2,pJ q3]
def isNone{α:Type}:Option α->Bool|none=>true|some _=>false
def oF(P:Program)(h:Hp)(T:Tr AV)(t:TypeId)(u:AV)(lo hi mx:Option Operand):Option AV:=match P.underlying t with
 |some (.slice elem)=>match cP P elem,u with
  |some sz,.slice b off len false c=>match dN T lo 0,dN T hi len,dN T mx c with
   |some l,some r,some m=>match Nat.ble l r,Nat.ble r m,Nat.ble m c,(isNone mx||!isNone hi)with
    |true,true,true,true=>some (.slice b (match Nat.beq m l with|true=>off|false=>off+l*sz) (r-l) false (m-l))
    |_,_,_,_=>none
   |_,_,_=>none
  |some sz,.slice b off len true c=>match h.tr.get b with
   |some (.cells cs _ (some z))=>match Nat.beq z sz,sz with
    |true,sz+1=>match mx with
     |some x=>match dN T lo 0,dN T hi len,dN T (some x) 0 with
      |some l,some r,some m=>match Nat.ble l r,Nat.ble r m,Nat.ble ((c+m)*(sz+1)) cs.length,!isNone hi with
       |true,true,true,true=>some (.slice b (match Nat.beq m l with|true=>off|false=>off+l*(sz+1)) (r-l) false (m-l))
       |_,_,_,_=>none
      |_,_,_=>none
     |none=>match dN T lo 0,dN T hi len with
      |some l,some r=>match Nat.ble l r,Nat.ble ((c+r)*(sz+1)) cs.length,(Nat.beq l 0||Nat.blt ((c+l)*(sz+1)) cs.length)with
       |true,true,true=>some (.slice b (off+l*(sz+1)) (r-l) true (c+l))|true,true,false=>(match Nat.beq r l with|true=>some (.lW b off (off+l*(sz+1)) (c+l))|false=>none)
       |_,_,_=>none
      |_,_=>none
    |_,_=>none
   |_=>none
  |some sz,.ai=>match dN T lo 0,dN T hi 0,dN T mx 0 with
   |some 0,some 0,some 0=>match(isNone mx||!isNone hi)with|true=>some .ai|false=>none
   |_,_,_=>none
  |_,_=>none
 |some .string=>match u with
  |.str x=>match lo.elim (some none) (fun y=>(aQ T y).bind fun v=>(iJ v).map some),hi.elim (some none) (fun y=>(aQ T y).bind fun v=>(iJ v).map some),mx with
   |some l,some r,none=>match still P 4000 (Instr.sliceAt t (.string x) l r none)with|some q=>back q|none=>none
   |_,_,_=>none
  |_=>none
 |_=>none
theorem Vz{x:Option Operand}{l:Option Value}(h:x.elim (some none) (fun y=>(aQ T y).bind fun v=>(iJ v).map some)=some l)
  (hr:∀y,x=some y->∀u,aQ T y=some u->a.eval y=ah s u):x.map a.eval=l:=by
 cases x with|none=>simpa using h|some y=>simp only[Option.elim]at h;cases hv:aQ T y<;>simp[hv]at h;rename_i v;obtain⟨q,hq,rfl⟩:=h;simp[hr y rfl v hv,jL hq]
theorem Ns(e:oF P h T t u lo hi mx=some v)(H:ab s h w)
  (hr:∀x,(lo=some x\/hi=some x\/mx=some x)->∀u,aQ T x=some u->a.eval x=ah s u) :
  (Instr.sliceAt t (ah s u) (lo.map a.eval) (hi.map a.eval) (mx.map a.eval)).run P w=.ok (ah s v) w:=by
 unfold oF at e;split at e
 .rename_i elem hu;have hru:=run_underlying hu w;split at e
  .rename_i sz b off len c hs;split at e<;>try cases e
   rename_i l r m h1 h2 h3;split at e<;>try cases e
   rename_i q1 q2 q3 q4;have q1:=qr q1;have q2:=qr q2;have q3:=qr q3;have q4:hi=none->mx=none:=by
    intro q;subst q;cases mx
    .rfl
    .simp[isNone]at q4
   have hb:=qN hr h1 h2 h3 q1 q2 q3 q4 w (P:=P);simp only[Instr.sliceAt,Instr.slice,ah,Sem.run_bind,hru,Result.andThen_ok,hb,run_sizeOf hs,Sem.run_pure];cases hml:Nat.beq m l
   .have:=NE hml;simp[this,dR]
   .have:=aK hml;simp[this]
  .rename_i sz b off len c hs;split at e<;>try cases e
   rename_i cs ty z hb;split at e<;>try cases e
   rename_i sz' sz hz;have hz:=aK hz;subst hz;obtain⟨tail,hw,_,h2⟩:=H.cells hb;have h2:cs.length+tail.length=(s b).2*(sz+1):=(h2 _ rfl).1;split at e
   .rename_i x;split at e<;>try cases e
    rename_i l r m h1 h2' h3;split at e<;>try cases e
    rename_i q1 q2 q3 q4;have q1:=qr q1;have q2:=qr q2;have q3:=qr q3;have hcap:c+m<=(s b).2:=by
     rcases ww (s b).2 (c+m)with q|q
     .have:=aFq q (show 0<sz+1 by omega);omega
     .exact q
    have hb':=qN (cap:=(s b).2-c) (mx:=some x) hr h1 h2' (show dN T (some x) ((s b).2-c)=some m from h3) q1 q2 aGl (by intro q;subst q;simp[isNone]at q4) w (P:=P);simp only[Instr.sliceAt,Instr.slice,ah,Sem.run_bind,hru,Result.andThen_ok,hb',run_sizeOf hs,Sem.run_pure];cases hml:Nat.beq m l
    .have:=NE hml;simp[this,dR]
    .have:=aK hml;simp[this]
   .split at e<;>try cases e
    rename_i l r h1 h2';split at e<;>try cases e
    .rename_i q1 q3 q4;have q1:=qr q1;have q3:=qr q3;have hcap:c+r<=(s b).2:=by
      rcases ww (s b).2 (c+r)with q|q
      .have:=aFq q (show 0<sz+1 by omega);omega
      .exact q
     have hb':=qN (cap:=(s b).2-c) (mx:=none) hr h1 h2' (show dN T none ((s b).2-c)=some ((s b).2-c)from rfl) q1 aGl (pi _) (fun _=>rfl) w (P:=P);simp only[Instr.sliceAt,Instr.slice,ah,Sem.run_bind,hru,Result.andThen_ok,hb',run_sizeOf hs,Sem.run_pure];have hne:(s b).2-c≠l\/l=0:=by
      rcases If l with q|q
      .exact .inr q
      .left;have hbl:Nat.beq l 0=false:=by cases hq:Nat.beq l 0 with|false=>rfl|true=>have:=aK hq;omega
       simp only[hbl,aGa,acl]at q4;have:c+l<(s b).2:=by
        rcases ww (c+l) (s b).2 with q'|q'
        .exact q'
        .have:=UV (sz+1) q';omega
       omega
     congr 2
     .by_cases q:(s b).2-c=l
      .rcases hne with q'|q'
       .exact absurd q q'
       .subst q';simp[q]
      .simp[q,dR]
     .omega
    .rename_i q1 q3 q4;split at e<;>try cases e
     rename_i q5;have q5:=aK q5;subst q5;have q1:=qr q1;have q3:=qr q3;have hcap:c+r<=(s b).2:=by
      rcases ww (s b).2 (c+r)with q|q
      .have:=aFq q (show 0<sz+1 by omega);omega
      .exact q
     have hb':=qN (cap:=(s b).2-c) (mx:=none) hr h1 h2' (show dN T none ((s b).2-c)=some ((s b).2-c)from rfl) q1 aGl (pi _) (fun _=>rfl) w (P:=P);simp only[Instr.sliceAt,Instr.slice,ah,Sem.run_bind,hru,Result.andThen_ok,hb',run_sizeOf hs,Sem.run_pure];congr 2
     .by_cases q:(s b).2-c=r
      .have hq:Nat.beq (s b).2 (c+r)=true:=by rw[show(s b).2=c+r by omega];exact Nat.beq_refl _
       rw[hq];simp[q]
      .have hq:Nat.beq (s b).2 (c+r)=false:=by cases h:Nat.beq (s b).2 (c+r)with|false=>rfl|true=>exact absurd (aK h) aGl
       rw[hq];simp[q,dR]
     .omega
     .omega
  .rename_i sz hs;split at e<;>try cases e
   rename_i h1 h2 h3;split at e<;>try cases e
   rename_i q4;have q4:hi=none->mx=none:=by
    intro q;subst q;cases mx
    .rfl
    .simp[isNone]at q4
   have hb:=qN hr h1 h2 h3 (pi 0) (pi 0) (pi 0) q4 w (P:=P);simp only[Instr.sliceAt,Instr.slice,ah,Sem.run_bind,hru,Result.andThen_ok,hb,run_sizeOf hs,Sem.run_pure];rfl
  .cases e
 .rename_i hu;split at e<;>try cases e
  split at e<;>try cases e
  rename_i x l r h1 h2;split at e<;>try cases e
  rename_i q hq;rw[Vz h1 (fun y hy=>hr y (.inl hy)),Vz h2 (fun y hy=>hr y (.inr (.inl hy)))];simp only[ah,aFC];rw[gW hq,nj e]
 .cases e
def gX(T:Tr AV):List (Nat×Operand)->Option (List (Nat×AV))
 |[]=>some []|(i,x)::l=>match aQ T x with
  |some v=>match gX T l with|some vs=>some ((i,v)::vs)|none=>none
  |none=>none
theorem Nj{s:Sg}{T:Tr AV}{a:Act}:∀{l:List (Nat×Operand)}{vs:List (Nat×AV)},gX T l=some vs ->
  (∀x∈l.map (·.2),∀u,aQ T x=some u->a.eval x=ah s u)->l.map (fun x=>(x.1,a.eval x.2))=vs.map fun x=>(x.1,ah s x.2)
 |[],vs,h,_=>by simp[gX]at h;subst h;rfl|(i,x)::l,vs,h,hr=>by
  simp only[gX]at h;cases hv:aQ T x<;>simp only[hv]at h
  .cases h
  cases hl:gX T l<;>simp only[hl]at h
  .cases h
  simp at h;subst h;simp only[IS];rw[hr x aGn _ hv,Nj hl (fun y hy=>hr y (by grind))]
theorem Zyw{T:Tr AV}{n:Nat}:∀{l:List (Nat×Operand)}{vs:List (Nat×AV)},gX T l=some vs ->
  (∀x∈l.map (·.2),∀u,aQ T x=some u->ws n u=true)->∀x∈vs,ws n x.2=true
 |[],vs,h,_=>by simp[gX]at h;subst h;simp|(i,x)::l,vs,h,hr=>by
  simp only[gX]at h;cases hv:aQ T x<;>simp only[hv]at h
  .cases h
  cases hl:gX T l<;>simp only[hl]at h
  .cases h
  simp at h;subst h;intro y hy;rcases AT.1 hy with rfl|hy
  .exact hr x aGn _ hv
  .exact Zyw hl (fun z hz=>hr z (by grind)) y hy
theorem Zvn{n:Nat}(place:Nat->Option (Nat×Nat)):∀(parts:List (Nat×AV)) (cells r:List AV),jf place cells parts=some r->cV n cells=true ->
  (∀x∈parts,ws n x.2=true)->cV n r=true
 |[],cells,r,h,hc,_=>by simp[jf]at h;subst h;exact hc|(i,v)::rest,cells,r,h,hc,hp=>by
  simp only[jf]at h;split at h<;>try cases h
  split at h<;>try cases h
  exact Zvn place rest _ r h (pI (DT hc) (pI (sI (hp (i,v) aGn)) (NL hc))) (fun x hx=>hp x (by simp[hx]))
def places(P:Program):List Field->Option (List (Nat×Nat))
 |[]=>some []|f::l=>match cP P f.type with
  |some n=>match places P l with|some r=>some ((f.offset,n)::r)|none=>none
  |none=>none
theorem run_places{P:Program}{w:World}:∀{l:List Field}{r:List (Nat×Nat)},places P l=some r ->
  (l.mapM (fun f=>do pure (f.offset,<-Go.sizeOf f.type):Field->Sem (Nat×Nat))).run P w=.ok r w
 |[],r,h=>by simp[places]at h;subst h;simp|f::l,r,h=>by
  simp only[places]at h;split at h<;>try cases h
  rename_i n hn;split at h<;>try cases h
  rename_i q hq;rw[List.mapM_cons];simp only[Sem.run_bind,run_sizeOf hn,Result.andThen_ok,Sem.run_pure];rw[run_places hq];rfl
theorem pH{l:Array Field}{r:List (Nat×Nat)}(h:places P l.toList=some r) :
  (l.mapM (fun f=>do pure (f.offset,<-Go.sizeOf f.type):Field->Sem (Nat×Nat))).run P w=.ok r.toArray w:=by
 have:=run_places (w:=w) h;rw[aFU,Sem.run_map,this];rfl
def sP(P:Program)(t:TypeId)(parts:List (Nat×AV)):Option AV:=match P.underlying t with
 |some (.struct fields)=>match eS P t,places P fields.toList with
  |some z,some ps=>match jf (fun i=>nth ps i) (cr z) parts with|some r=>some (.agg r)|none=>none
  |_,_=>none
 |some (.array _ elem)=>match eS P t,cP P elem with
  |some z,some sz=>match jf (fun i=>some (i*sz,sz)) (cr z) parts with|some r=>some (.agg r)|none=>none
  |_,_=>none
 |_=>none
theorem Nw{parts:List (Nat×AV)}(e:sP P t parts=some v)(s:Sg)(w:World)(ps:Array (Nat×Value))
  (hp:ps.toList=parts.map fun x=>(x.1,ah s x.2)):(Instr.build t ps).run P w=.ok (ah s v) w:=by
 unfold sP at e;split at e
 .rename_i fields hu;split at e<;>try cases e
  rename_i z q hz hq;split at e<;>try cases e
  rename_i r hr;have hf:=DP s _ _ _ _ hr;rw[<-lB,arg]at hf;have hfun:(fun i=>(q.toArray:Array (Nat×Nat))[i]?)=fun i=>nth q i:=by funext i;rw[ct];simp
  simp only[Instr.build,Sem.run_bind,iu hz s,Result.andThen_ok,run_underlying hu,pH hq,hp,Sem.run_pure];rw[hfun,hf];simp[ah]
 .rename_i k elem hu;split at e<;>try cases e
  rename_i z sz hz hs;split at e<;>try cases e
  rename_i r hr;have hf:=DP s _ _ _ _ hr;rw[<-lB,arg]at hf;simp only[Instr.build,Sem.run_bind,iu hz s,Result.andThen_ok,run_underlying hu,run_sizeOf hs,hp,Sem.run_pure];rw[hf];simp[ah]
 .cases e
def iw(P:Program)(t:TypeId):Option Nat:=match P.info? t with|some i=>some i.bytes|none=>none
def ja(P:Program)(T:Tr AV)(n:Nat):Op->Option (aE×AV)
 |.alloc elem=>match eS P elem with|some z=>some (.cells (cr z) elem none,.ptr n 0)|none=>none
 |.box elem x=>match aQ T x with|some u=>some (.cells (cr u) elem none,.ptr n 0)|none=>none
 |.makeSlice t l c=>match P.underlying t,aQ T l,aQ T c with
  |some (.slice elem),some (.int _ li),some (.int _ ci)=>match IntKind.i64.wrap li,IntKind.i64.wrap ci,iw P elem,cP P elem,eS P elem with
   |.ofNat l,.ofNat c,some by_,some sz,some z=>match Nat.ble l c,Nat.ble (by_*c) 281474976710656,Nat.beq (cr z).length sz with|true,true,true=>some (.cells (rep c (cr z)) elem none,.slice n 0 l false c)|_,_,_=>none
   |_,_,_,_,_=>none
  |_,_,_=>none
 |.buildSlice t len parts=>match P.underlying t,gX T parts.toList with
  |some (.slice elem),some ps=>match cP P elem,eS P elem with
   |some sz,some z=>match Nat.ble (len*sz) 16777216,Nat.beq (cr z).length sz with
    |true,true=>match jf (fun i=>some (i*sz,sz)) (rep len (cr z)) ps with|some r=>some (.cells r elem none,.slice n 0 len false len)|none=>none
    |_,_=>none
   |_,_=>none
  |_,_=>none
 |.makeMap t r=>match r with|none=>some (.map [] 0,.map n)|some x=>match P.underlying t,aQ T x with|some (.map _ _),some (.int _ _)=>some (.map [] 0,.map n)|_,_=>none
 |_=>none
variable{x:Nat×Nat}
theorem aeR(h:ws n v=true):ah (aW s n x) v=ah s v:=sH (fun i hi=>uV s n x hi) v h
theorem Vb{v:List AV}(h:cV n v=true):aG (aW s n x) v=aG s v:=sF (fun i hi=>uV s n x hi) v h
theorem Zy1{z:AV}(hz:eS P t=some z) :
  ∃zero:Array Value,((if k=0 then pure #[]else do pure (<- zeroValue t).cells:Sem (Array Value)).run P w=.ok zero w)/\(k≠0->zero.toList=aG s (cr z)):=by
 by_cases hk:k=0
 .exact⟨#[],by simp[hk],fun h=>absurd hk h⟩
 .refine⟨(ah s z).cells,?_,fun _=>lB s z⟩;rw[rx hk];simp[iu hz s]
variable{ob:aE}{o:Oper}
theorem GS(e:ja P T n o.op=some (ob,v))(hO:gF s T a o.op)
  (w:World) (hs':s n=(w.heap.size,0)) :
  ∃ob',(execOp a.eval o).run P w=.ok (.value (ah s v)) { w with heap:=w.heap.push ob' }/\cj s n ob (some ob'):=by
 unfold ja at e;unfold execOp;split at e
 .rename_i elem ho;split at e<;>try cases e
  rename_i z hz;refine⟨.cells (aG s (cr z)).toArray elem (0,0),?_,?_⟩
  .rw[ho];simp only[Instr.alloc,Sem.run_bind,iu hz s,Result.andThen_ok,newVar,newRow,run_newObj,Sem.run_pure,ah,hs'];rw[<-lB,arg]
  .simp only[cj]
 .rename_i elem x ho;split at e<;>try cases e
  rename_i u hu;rw[ho]at hO;have hx:=hO x (by simp[Op.operands]) u hu;refine⟨.cells (aG s (cr u)).toArray elem (0,0),?_,?_⟩
  .rw[ho];simp only[Instr.box,Sem.run_bind,hx,Result.andThen_ok,newVar,newRow,run_newObj,Sem.run_pure,ah,hs'];rw[<-lB,arg]
  .simp only[cj]
 .rename_i t l c ho;rw[ho]at hO;split at e<;>try cases e
  rename_i elem kl li kc ci hu hl hc;have hl':=hO l (by simp[Op.operands]) _ hl;have hc':=hO c (by simp[Op.operands]) _ hc;split at e<;>try cases e
  rename_i l' c' by_ sz z hwl hwc hb hs hz;split at e<;>try cases e
  rename_i q1 q2 q3;have q1:=qr q1;have q2:=qr q2;have q3:=aK q3;obtain⟨info,hi,rfl⟩:∃info,P.info? elem=some info/\info.bytes=by_:=by unfold iw at hb;cases hi:P.info? elem<;>simp[hi]at hb;exact⟨_,rfl,hb⟩
  obtain⟨zero,hz1,hz2⟩:=Zy1 (k:=c'*sz) (s:=s) (w:=w) hz;refine⟨.cells (aG s (rep c' (cr z))).toArray elem (0,0),?_,?_⟩
  .rw[ho];simp only[hl',hc',ah];have hcell:(Array.range (c'*sz)).map (zero[· % zero.size]!)=(aG s (rep c' (cr z))).toArray:=by
    by_cases hk:c'*sz=0
    .have:rep c' (cr z)=[]:=ut (by rw[DK,q3];exact hk);rw[this,hk];simp[aG]
    .exact NO s _ c' _ zero (hz2 hk) (by rw[q3])
   have hnot:¬(((decide ((Int.ofNat c')<0)||decide ((info.bytes:Int)*(Int.ofNat c') > 2^48))||decide ((Int.ofNat l')<0)||decide ((Int.ofNat l') > (Int.ofNat c')))=true):=by
    have hm:(info.bytes:Int)*(c':Int)=((info.bytes*c':Nat):Int):=(Int.natCast_mul _ _).symm;have hq:(info.bytes:Int)*(c':Int)<=281474976710656:=by rw[hm];omega
    have h1:decide ((Int.ofNat c')<0)=false:=jG (by show ¬((c':Int)<0);omega);have h2:decide ((info.bytes:Int)*(Int.ofNat c') > 2^48)=false:=jG (by show ¬((281474976710656:Int)<(info.bytes:Int)*(c':Int));omega);have h3:decide ((Int.ofNat l')<0)=false:=jG (by show ¬((l':Int)<0);omega);have h4:decide ((Int.ofNat l') > (Int.ofNat c'))=false:=jG (by show ¬((c':Int)<(l':Int));omega);rw[h1,h2,h3,h4];decide
   simp only[Instr.makeSlice,asInt,asIntOf,Sem.run_bind,run_underlying hu,Result.andThen_ok,Sem.run_pure,run_typeInfo hi,hwl,hwc];rw[rx hnot];simp only[Int.ofNat_eq_natCast,Id,run_askRoom,Result.andThen_ok,run_sizeOf hs,Sem.run_bind,Sem.run_pure];by_cases hk:c'*sz=0
   .rw[BY hk]at hz1 |-;simp only[Sem.run_pure,WF,aFa]at hz1;subst hz1;simp only[Sem.run_bind,Sem.run_pure,Result.andThen_ok,newRow,run_newObj,hcell,hs']
   .rw[rx hk]at hz1 |-;simp only[Sem.run_bind,iu hz s,Result.andThen_ok,Sem.run_pure,WF,aFa]at hz1 |-;subst hz1;simp only[newRow,Sem.run_bind,run_newObj,Sem.run_pure,Result.andThen_ok,hcell,hs']
  .simp only[cj]
 .rename_i t len parts ho;rw[ho]at hO;split at e<;>try cases e
  rename_i elem ps hu hps;split at e<;>try cases e
  rename_i sz z hs hz;split at e<;>try cases e
  rename_i q1 q2;have q1:=qr q1;have q2:=aK q2;split at e<;>try cases e
  rename_i r hr;have hmem:∀x∈parts.toList.map (·.2),x∈(Op.buildSlice t len parts).operands:=by intro x hx;simp only[Op.operands,aFt];exact hx
  have hconc:=Nj hps (fun x hx=>hO x (hmem x hx));obtain⟨zero,hz1,hz2⟩:=Zy1 (k:=len*sz) (s:=s) (w:=w) hz;refine⟨.cells (aG s r).toArray elem (0,0),?_,?_⟩
  .rw[ho];have hcell:(Array.range (len*sz)).map (zero[· % zero.size]!)=(aG s (rep len (cr z))).toArray:=by
    by_cases hk:len*sz=0
    .have:rep len (cr z)=[]:=ut (by rw[DK,q2];exact hk);rw[this,hk];simp[aG]
    .exact NO s _ len _ zero (hz2 hk) (by rw[q2])
   have hp:((parts.map fun x=>(x.1,a.eval x.2)).toList)=ps.map fun x=>(x.1,ah s x.2):=by simpa using hconc
   simp only[Instr.buildSlice,Sem.run_bind,run_underlying hu,Result.andThen_ok,run_sizeOf hs];rw[rx aGl];simp only[Sem.run_pure,Result.andThen_ok,Sem.run_bind];rw[hp];have hf:=DP s _ _ _ _ hr;by_cases hk:len*sz=0
   .rw[BY hk]at hz1 |-;simp only[Sem.run_pure,WF,aFa]at hz1;subst hz1;simp only[Sem.run_bind,Sem.run_pure,Result.andThen_ok,hcell,hf,newRow,run_newObj,ah,hs']
   .rw[rx hk]at hz1 |-;simp only[Sem.run_bind,iu hz s,Result.andThen_ok,Sem.run_pure,WF,aFa]at hz1 |-;subst hz1;simp only[hcell,hf,newRow,Sem.run_bind,run_newObj,Sem.run_pure,Result.andThen_ok,ah,hs']
  .simp only[cj]
 .rename_i t r ho;rw[ho]at hO;split at e
  .simp only[bo,Do]at e;obtain⟨rfl,rfl⟩:=e;refine⟨.map #[] 0,?_,by simp[cj,eE]⟩;rw[ho];simp[Instr.makeMap,ah,hs']
  .rename_i x;split at e<;>try cases e
   rename_i k1 k2 k3 k4 hu hx;have hx':=hO x (by simp[Op.operands]) _ hx;refine⟨.map #[] 0,?_,by simp[cj,eE]⟩;rw[ho];simp[Instr.makeMap,ah,hs',hx',run_underlying hu,asInt,asIntOf]
 .cases e
theorem Qs(e:ja P T n o.op=some (ob,v))(hnm:n<m)
  (hW:∀x∈o.op.operands,∀u,aQ T x=some u->ws m u=true):jQ m ob=true/\ws m v=true:=by
 unfold ja at e;split at e
 .rename_i elem ho;split at e<;>try cases e
  rename_i z hz;exact⟨sI (Dy hz m),by simp[ws,hnm]⟩
 .rename_i elem x ho;split at e<;>try cases e
  rename_i u hu;rw[ho]at hW;exact⟨sI (hW x (by simp[Op.operands]) u hu),by simp[ws,hnm]⟩
 .rename_i t l c ho;split at e<;>try cases e
  split at e<;>try cases e
  rename_i l' c' by_ sz z hwl hwc hb hs hz;split at e<;>try cases e
  exact⟨GZ (sI (Dy hz m)) c',by simp[ws,hnm]⟩
 .rename_i t len parts ho;rw[ho]at hW;split at e<;>try cases e
  rename_i elem ps hu hps;split at e<;>try cases e
  rename_i sz z hs hz;split at e<;>try cases e
  split at e<;>try cases e
  rename_i r hr;have hmem:∀x∈parts.toList.map (·.2),x∈(Op.buildSlice t len parts).operands:=by intro x hx;simp only[Op.operands,aFt];exact hx
  exact⟨Zvn _ _ _ _ hr (GZ (sI (Dy hz m)) len) (Zyw hps (fun x hx=>hW x (hmem x hx))),by simp[ws,hnm]⟩
 .split at e
  .simp only[bo,Do]at e;obtain⟨rfl,rfl⟩:=e;exact⟨rfl,by simp[ws,hnm]⟩
  .split at e<;>try cases e
   exact⟨rfl,by simp[ws,hnm]⟩
 .cases e
theorem afo{o:Op}(hO:gF s T a o)(hW:∀y∈o.operands,∀u,aQ T y=some u->ws n u=true):gF (aW s n x) T a o:=by intro y hy u hu;rw[hO y hy u hu,aeR (hW y hy u hu)]
theorem yj(e:ja P T n o.op=some (ob,v))(hO:gF s T a o.op)
  (hW:∀x∈o.op.operands,∀u,aQ T x=some u->ws n u=true) (w:World) :
  ∃ob',(execOp a.eval o).run P w=.ok (.value (ah (aW s n (w.heap.size,0)) v)) { w with heap:=w.heap.push ob' } /\
   cj (aW s n (w.heap.size,0)) n ob (some ob')/\jQ (n+1) ob=true/\ws (n+1) v=true:=by
 obtain⟨ob',h1,h2⟩:=GS e (afo hO hW) w (cU _ _ _);have:=Qs (m:=n+1) e aGl (fun x hx u hu=>pO aGl _ (hW x hx u hu))
 grind
