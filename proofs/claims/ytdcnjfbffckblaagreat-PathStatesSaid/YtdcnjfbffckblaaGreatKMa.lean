import Derived.Test.YtdcnjfbffckblaaGreatKAa
import Derived.Orders
import Derived.Below
import Derived.Scope
import Derived.KernelRfl
import Derived.Laws.Sem
set_option linter.unusedVariables false
set_option linter.unusedSimpArgs false
set_option linter.unnecessarySimpa false
section
namespace Go.Proofs.YtdcnjfbffckblaaGreat.Ev
open Go Go.RowKit
inductive Tr(α:Type) where
 |nil
 |node (v:Option α) (l r:Tr α)
def Tr.get{α:Type}:Tr α->Nat->Option α
 |.nil,_=>none|.node v l r,n=>match n with|0=>v|m+1=>match Nat.beq (m % 2) 0 with|true=>l.get (m / 2)|false=>r.get (m / 2)
def Tr.val{α:Type}:Tr α->Option α|.nil=>none|.node v _ _=>v
def Tr.left{α:Type}:Tr α->Tr α|.nil=>.nil|.node _ l _=>l
def Tr.right{α:Type}:Tr α->Tr α|.nil=>.nil|.node _ _ r=>r
def Tr.set{α:Type}:Nat->Tr α->Nat->Option α->Option (Tr α)
 |0,_,_,_=>none|f+1,t,n,a=>match n with
  |0=>some (.node a t.left t.right)|m+1=>match Nat.beq (m % 2) 0 with
   |true=>match Tr.set f t.left (m / 2) a with|some x=>some (.node t.val x t.right)|none=>none
   |false=>match Tr.set f t.right (m / 2) a with|some x=>some (.node t.val t.left x)|none=>none
theorem Tr.sT{α:Type}(v:Option α)(l r:Tr α)(m:Nat):(Tr.node v l r).get (m+1)=if m % 2=0 then l.get (m / 2)else r.get (m / 2):=by
 simp only[Tr.get];cases hm:Nat.beq (m % 2) 0
 .rw[if_neg (Nat.ne_of_beq_eq_false hm)]
 .rw[if_pos (aA hm)]
theorem Tr.bz{α:Type}:∀(f:Nat) (t:Tr α) (n:Nat) (a:Option α) (t':Tr α),Tr.set f t n a=some t' ->
  ∀m,t'.get m=if m=n then a else t.get m:=by
 intro f
 induction f with
 |zero=>intro t n a t' h;simp[Tr.set]at h|succ f ih=>
  intro t n a t' h m;have hn:∀m,t.get m=(Tr.node t.val t.left t.right).get m:=by
   intro m;cases t with
   |nil=>cases m with|zero=>rfl|succ m=>simp only[Tr.sT,Tr.left,Tr.right];simp[Tr.get]
   |node v l r=>rfl
  rw[hn];cases n with
  |zero=>simp only[Tr.set,aX]at h;subst h;cases m with|zero=>simp[Tr.get]|succ m=>simp only[Tr.sT];rw[if_neg (by omega:¬m+1=0)]
  |succ n=>
   simp only[Tr.set]at h;cases hb:Nat.beq (n % 2) 0<;>simp only[hb]at h
   .have hb':=Nat.ne_of_beq_eq_false hb;cases hs:Tr.set f t.right (n / 2) a<;>simp only[hs]at h
    .cases h
    simp only[aX]at h;subst h;cases m with
    |zero=>simp[Tr.get]|succ m=>
     have e:=ih _ _ _ _ hs (m / 2);simp only[Tr.sT];by_cases hm:m % 2=0
     .rw[if_pos hm,if_pos hm,if_neg (by omega)]
     .rw[if_neg hm,if_neg hm,e];by_cases q:m / 2=n / 2
      .rw[if_pos q,if_pos (by omega)]
      .rw[if_neg q,if_neg (by omega)]
   .have hb':=aA hb;cases hs:Tr.set f t.left (n / 2) a<;>simp only[hs]at h
    .cases h
    simp only[aX]at h;subst h;cases m with
    |zero=>simp[Tr.get]|succ m=>
     have e:=ih _ _ _ _ hs (m / 2);simp only[Tr.sT];by_cases hm:m % 2=0
     .rw[if_pos hm,if_pos hm,e];by_cases q:m / 2=n / 2
      .rw[if_pos q,if_pos (by omega)]
      .rw[if_neg q,if_neg (by omega)]
     .rw[if_neg hm,if_neg hm,if_neg (by omega)]
inductive AV where
 |bool (b:Bool)
 |int (k:IntKind) (n:Int)
 |str (s:ByteArray)
 |cg
 |ptr (b off:Nat)
 |av
 |slice (b off len:Nat) (u:Bool) (c:Nat)
 |nA (a:Option Addr) (len cap:Nat)
 |iU (b off off' c:Nat)
 |cE
 |map (b:Nat)
 |func (f:FuncId) (first cap:List AV)
 |cD
 |cZ
 |agg (l:List AV)
 |bk (l:List AV)
abbrev Sg:=Nat->Nat×Nat
mutual
def ae(s:Sg):AV->Value
 |.bool b=>.bool b|.int k n=>.int k n|.str x=>.string x|.cg=>.pointer none|.ptr b off=>.pointer (some ⟨(s b).1,off,none⟩)|.av=>.slice none 0 0|.slice b off len u c=>.slice (some ⟨(s b).1,off,none⟩) len (match u with|true=>(s b).2-c|false=>c)
 |.nA a len cap=>.slice a len cap|.iU b off off' c=>.slice (some ⟨(s b).1,(match Nat.beq (s b).2 c with|true=>off|false=>off'),none⟩) 0 ((s b).2-c)
 |.cE=>.map none|.map b=>.map (some (s b).1)|.func f x c=>.func (.func f) (aD s x).toArray (aD s c).toArray|.cD=>.nilFunc|.cZ=>.nilIface|.agg l=>.agg (aD s l).toArray|.bk l=>.tuple (aD s l).toArray
termination_by structural x=>x
def aD(s:Sg):List AV->List Value
 |[]=>[]|x::l=>ae s x::aD s l
termination_by structural x=>x
end
mutual
def ws(n:Nat):AV->Bool
 |.bool _|.int _ _|.str _|.cg|.av|.nA _ _ _|.cE|.cD|.cZ=>true|.ptr b _=>Nat.blt b n|.slice b _ _ _ _=>Nat.blt b n|.iU b _ _ _=>Nat.blt b n|.map b=>Nat.blt b n|.func _ x c=>match cf n x with|true=>cf n c|false=>false
 |.agg l=>cf n l|.bk l=>cf n l
termination_by structural x=>x
def cf(n:Nat):List AV->Bool
 |[]=>true|x::l=>match ws n x with|true=>cf n l|false=>false
termination_by structural x=>x
end
theorem nT(s:Sg)(l:List AV):aD s l=l.map (ae s):=by induction l with|nil=>rfl|cons x l ih=>simp[aD,ih]
theorem sY(n:Nat)(l:List AV):cf n l=true↔∀x∈l,ws n x=true:=by induction l with|nil=>simp[cf]|cons x l ih=>simp only[cf];cases h:ws n x<;>simp[h,ih]
mutual
theorem nN{s s':Sg}{n:Nat}(hs:∀i,i<n->s i=s' i):∀v:AV,ws n v=true->ae s v=ae s' v
 |.bool _,_|.int _ _,_|.str _,_|.cg,_|.av,_|.nA _ _ _,_|.cE,_|.cD,_|.cZ,_=>rfl|.ptr b off,h=>by simp only[ws,Nat.blt_eq]at h;simp only[ae,hs b h]|.slice b _ _ _ _,h=>by simp only[ws,Nat.blt_eq]at h;simp only[ae,hs b h]|.iU b _ _ _,h=>by simp only[ws,Nat.blt_eq]at h;simp only[ae,hs b h]|.map b,h=>by simp only[ws,Nat.blt_eq]at h;simp only[ae,hs b h]|.func f x c,h=>by
  simp only[ws]at h;cases hx:cf n x<;>simp only[hx]at h
  .cases h
  simp only[ae,nK hs x hx,nK hs c h]
 |.agg l,h=>by simp only[ws]at h;simp only[ae,nK hs l h]|.bk l,h=>by simp only[ws]at h;simp only[ae,nK hs l h]
theorem nK{s s':Sg}{n:Nat}(hs:∀i,i<n->s i=s' i):∀l:List AV,cf n l=true->aD s l=aD s' l
 |[],_=>rfl|x::l,h=>by
  simp only[cf]at h;cases hx:ws n x<;>simp only[hx]at h
  .cases h
  simp only[aD,nN hs x hx,nK hs l h]
end
mutual
theorem lx{n m:Nat}(hs:n<=m):∀v:AV,ws n v=true->ws m v=true
 |.bool _,_|.int _ _,_|.str _,_|.cg,_|.av,_|.nA _ _ _,_|.cE,_|.cD,_|.cZ,_=>rfl|.ptr b off,h=>by simp only[ws,Nat.blt_eq]at h |-;omega|.slice b _ _ _ _,h=>by simp only[ws,Nat.blt_eq]at h |-;omega|.iU b _ _ _,h=>by simp only[ws,Nat.blt_eq]at h |-;omega|.map b,h=>by simp only[ws,Nat.blt_eq]at h |-;omega|.func f x c,h=>by
  simp only[ws]at h;cases hx:cf n x<;>simp only[hx]at h
  .cases h
  simp only[ws,pq hs x hx,pq hs c h]
 |.agg l,h=>by simp only[ws]at h;simp only[ws,pq hs l h]|.bk l,h=>by simp only[ws]at h;simp only[ws,pq hs l h]
theorem pq{n m:Nat}(hs:n<=m):∀l:List AV,cf n l=true->cf m l=true
 |[],_=>rfl|x::l,h=>by
  simp only[cf]at h;cases hx:ws n x<;>simp only[hx]at h
  .cases h
  simp only[cf,lx hs x hx,pq hs l h]
end
def IntKind.num:IntKind->Nat
 |.i8=>0|.i16=>1|.i32=>2|.i64=>3|.u8=>4|.u16=>5|.u32=>6|.u64=>7
theorem IntKind.px{a b:IntKind}(h:IntKind.num a=IntKind.num b):a=b:=by cases a<;>cases b<;>first|rfl|(exact absurd h (by decide))
def Int.eqv:Int->Int->Bool
 |.ofNat a,.ofNat b=>Nat.beq a b|.negSucc a,.negSucc b=>Nat.beq a b|_,_=>false
theorem Int.dc{a b:Int}(h:Int.eqv a b=true):a=b:=by cases a<;>cases b<;>simp[Int.eqv,Nat.beq_eq]at h<;>subst h<;>rfl
def mu(a b:List UInt8):Bool:=match a,b with
 |[],[]=>true|x::a,y::b=>match Nat.beq x.toNat y.toNat with|true=>mu a b|false=>false
 |_,_=>false
theorem Rk:∀{a b:List UInt8},mu a b=true->a=b
 |[],[],_=>rfl|x::a,y::b,h=>by
  simp only[mu]at h;cases hx:Nat.beq x.toNat y.toNat<;>simp only[hx]at h
  .cases h
  rw[Rk h,UInt8.toNat_inj.1 (aA hx)]
 |[],_::_,h=>by simp[mu]at h|_::_,[],h=>by simp[mu]at h
def qH(a b:ByteArray):Bool:=mu a.data.toList b.data.toList
theorem GW{a b:ByteArray}(h:qH a b=true):a=b:=by have:=Rk h;cases a;cases b;simp at this;subst this;rfl
mutual
def AV.eqv:AV->AV->Bool
 |.bool a,b=>match b with|.bool b=>(match a,b with|true,true=>true|false,false=>true|_,_=>false)|_=>false
 |.int k n,b=>match b with|.int k' n'=>(match Nat.beq (IntKind.num k) (IntKind.num k')with|true=>Int.eqv n n'|false=>false)|_=>false
 |.str a,b=>match b with|.str b=>qH a b|_=>false
 |.cg,b=>match b with|.cg=>true|_=>false
 |.ptr x y,b=>match b with|.ptr x' y'=>(match Nat.beq x x' with|true=>Nat.beq y y'|false=>false)|_=>false
 |.av,b=>match b with|.av=>true|_=>false
 |.slice x y l u c,b=>match b with
  |.slice x' y' l' u' c'=>(match Nat.beq x x',Nat.beq y y',Nat.beq l l',u,u' with|true,true,true,true,true=>Nat.beq c c'|true,true,true,false,false=>Nat.beq c c'|_,_,_,_,_=>false)
  |_=>false
 |.nA _ _ _,_=>false|.iU _ _ _ _,_=>false|.cE,b=>match b with|.cE=>true|_=>false
 |.map x,b=>match b with|.map y=>Nat.beq x y|_=>false
 |.func f x c,b=>match b with
  |.func f' x' c'=>(match Nat.beq f f',AV.gA x x' with|true,true=>AV.gA c c'|_,_=>false)
  |_=>false
 |.cD,b=>match b with|.cD=>true|_=>false
 |.cZ,b=>match b with|.cZ=>true|_=>false
 |.agg l,b=>match b with|.agg l'=>AV.gA l l'|_=>false
 |.bk l,b=>match b with|.bk l'=>AV.gA l l'|_=>false
termination_by structural x=>x
def AV.gA:List AV->List AV->Bool
 |[],m=>match m with|[]=>true|_=>false
 |x::l,m=>match m with
  |y::m=>(match AV.eqv x y with|true=>AV.gA l m|false=>false)
  |[]=>false
termination_by structural x=>x
end
mutual
theorem AV.dc:∀{a b:AV},AV.eqv a b=true->a=b
 |.bool a,b,h=>by cases b<;>simp only[AV.eqv]at h<;>first|cases h|(rename_i b;cases a<;>cases b<;>first|rfl|cases h)
 |.int k n,b,h=>by
  cases b<;>simp only[AV.eqv]at h<;>first|cases h|skip
  rename_i k' n';cases hk:Nat.beq (IntKind.num k) (IntKind.num k')<;>simp only[hk]at h
  .cases h
  rw[IntKind.px (aA hk),Int.dc h]
 |.str a,b,h=>by cases b<;>simp only[AV.eqv]at h<;>first|cases h|(rw[GW h])
 |.cg,b,h=>by cases b<;>simp only[AV.eqv]at h<;>first|rfl|cases h
 |.ptr x y,b,h=>by
  cases b<;>simp only[AV.eqv]at h<;>first|cases h|skip
  rename_i x' y';cases hk:Nat.beq x x'<;>simp only[hk]at h
  .cases h
  rw[aA hk,aA h]
 |.av,b,h=>by cases b<;>simp only[AV.eqv]at h<;>first|rfl|cases h
 |.slice x y l u c,b,h=>by
  cases b<;>simp only[AV.eqv]at h<;>first|cases h|skip
  rename_i x' y' l' u' c';cases h1:Nat.beq x x'<;>cases h2:Nat.beq y y'<;>cases h3:Nat.beq l l'<;>cases u<;>cases u'<;>simp only[h1,h2,h3]at h <;>
   first|cases h|(rw[aA h1,aA h2,aA h3,aA h])
 |.nA _ _ _,b,h=>by simp only[AV.eqv]at h;cases h
 |.iU _ _ _ _,b,h=>by simp only[AV.eqv]at h;cases h
 |.cE,b,h=>by cases b<;>simp only[AV.eqv]at h<;>first|rfl|cases h
 |.map x,b,h=>by cases b<;>simp only[AV.eqv]at h<;>first|cases h|(rw[aA h])
 |.func f x c,b,h=>by
  cases b<;>simp only[AV.eqv]at h<;>first|cases h|skip
  rename_i f' x' c';cases h1:Nat.beq f f'<;>cases h2:AV.gA x x'<;>simp only[h1,h2]at h<;>first|cases h|skip
  rw[aA h1,AV.lE h2,AV.lE h]
 |.cD,b,h=>by cases b<;>simp only[AV.eqv]at h<;>first|rfl|cases h
 |.cZ,b,h=>by cases b<;>simp only[AV.eqv]at h<;>first|rfl|cases h
 |.agg l,b,h=>by cases b<;>simp only[AV.eqv]at h<;>first|cases h|(rw[AV.lE h])
 |.bk l,b,h=>by cases b<;>simp only[AV.eqv]at h<;>first|cases h|(rw[AV.lE h])
theorem AV.lE:∀{a b:List AV},AV.gA a b=true->a=b
 |[],b,h=>by cases b<;>simp only[AV.gA]at h<;>first|rfl|cases h
 |x::l,b,h=>by
  cases b<;>simp only[AV.gA]at h<;>first|cases h|skip
  rename_i y m;cases hx:AV.eqv x y<;>simp only[hx]at h
  .cases h
  rw[AV.dc hx,AV.lE h]
end
def still{α:Type}(P:Program):Nat->Sem α->Option α
 |0,_=>none|n+1,s=>match s with|.pure a=>some a|.program k=>still P n (k P)|_=>none
theorem eS{α:Type}{P:Program}:∀{n:Nat}{s:Sem α}{a:α},still P n s=some a->∀w,s.run P w=.ok a w
 |0,_,_,h,_=>by simp[still]at h|n+1,.pure a,_,h,w=>by simp[still]at h;subst h;rfl|n+1,.program k,a,h,w=>by simp only[still]at h;exact eS h w|n+1,.load ..,_,h,_|n+1,.store ..,_,h,_|n+1,.new ..,_,h,_|n+1,.shape ..,_,h,_|n+1,.freeze ..,_,h,_|n+1,.frozen ..,_,h,_|n+1,.getObj ..,_,h,_|n+1,.setObj ..,_,h,_|n+1,.choose ..,_,h,_|n+1,.sys ..,_,h,_|n+1,.mark ..,_,h,_|n+1,.halt ..,_,h,_=>by simp[still]at h
def qE:AV->Option Value
 |.bool b=>some (.bool b)|.int k n=>some (.int k n)|.str s=>some (.string s)|.cg=>some (.pointer none)|.av=>some (.slice none 0 0)|.cE=>some (.map none)|.cD=>some .nilFunc|.cZ=>some .nilIface|_=>none
def kL:List AV->Option (List Value)
 |[]=>some []|x::l=>match qE x with
  |some v=>match kL l with|some vs=>some (v::vs)|none=>none
  |none=>none
def fm:AV->Option Value
 |.agg l=>match kL l with|some vs=>some (.agg vs.toArray)|none=>none
 |v=>qE v
theorem QY{v:AV}{x:Value}(h:qE v=some x)(s:Sg):ae s v=x:=by cases v<;>simp[qE]at h<;>subst h<;>rfl
theorem yl:∀{l:List AV}{x:List Value},kL l=some x->∀s:Sg,aD s l=x
 |[],x,h,s=>by simp[kL]at h;subst h;rfl|v::l,x,h,s=>by
  simp only[kL]at h;cases hv:qE v<;>simp only[hv]at h
  .cases h
  cases hl:kL l<;>simp only[hl]at h
  .cases h
  simp at h;subst h;simp[aD,QY hv,yl hl]
theorem gk{v:AV}{x:Value}(h:fm v=some x)(s:Sg):ae s v=x:=by
 cases v with
 |agg l=>
  simp only[fm]at h;cases hl:kL l<;>simp only[hl]at h
  .cases h
  simp at h;subst h;simp[ae,yl hl]
 |_=>simp only[fm]at h;exact QY h s
def eI:Value->Option AV
 |.bool b=>some (.bool b)|.int k n=>some (.int k n)|.string s=>some (.str s)|.pointer a=>match a with|none=>some .cg|some _=>none
 |.slice a len cap=>match a,len,cap with|none,0,0=>some .av|_,_,_=>none
 |.map a=>match a with|none=>some .cE|some _=>none
 |.nilFunc=>some .cD|.nilIface=>some .cZ|_=>none
def ek:List Value->Option (List AV)
 |[]=>some []|x::l=>match eI x with
  |some v=>match ek l with|some vs=>some (v::vs)|none=>none
  |none=>none
def back:Value->Option AV
 |.agg l=>match ek l.toList with|some vs=>some (.agg vs)|none=>none
 |.tuple l=>match ek l.toList with|some vs=>some (.bk vs)|none=>none
 |v=>eI v
theorem Rm{x:Value}{v:AV}(h:eI x=some v)(s:Sg):ae s v=x:=by
 cases x with
 |pointer a=>cases a<;>simp[eI]at h;subst h;rfl
 |map a=>cases a<;>simp[eI]at h;subst h;rfl
 |slice a l c=>
  simp only[eI]at h;split at h
  .simp at h;subst h;rfl
  .cases h
 |_=>simp[eI]at h<;>subst h<;>rfl
theorem GA:∀{x:List Value}{l:List AV},ek x=some l->∀s:Sg,aD s l=x
 |[],l,h,s=>by simp[ek]at h;subst h;rfl|x::xs,l,h,s=>by
  simp only[ek]at h;cases hv:eI x<;>simp only[hv]at h
  .cases h
  cases hl:ek xs<;>simp only[hl]at h
  .cases h
  simp at h;subst h;simp[aD,Rm hv,GA hl]
theorem jB{x:Value}{v:AV}(h:back x=some v)(s:Sg):ae s v=x:=by
 cases x with
 |agg l=>
  simp only[back]at h;cases hl:ek l.toList<;>simp only[hl]at h
  .cases h
  simp at h;subst h;simp[ae,GA hl]
 |tuple l=>
  simp only[back]at h;cases hl:ek l.toList<;>simp only[hl]at h
  .cases h
  simp at h;subst h;simp[ae,GA hl]
 |_=>simp only[back]at h;exact Rm h s
def aM(T:Tr AV):Operand->Option AV
 |.tmp t=>T.get t|.const v=>back v|.func f=>some (.func f [] [])|.global _=>none
def eJ(s:Sg)(T:Tr AV)(a:Act)(o:Op):Prop:=∀x∈o.operands,∀u,aM T x=some u->a.eval x=ae s u
theorem oa{s:Sg}{T:Tr AV}{a:Act}{o:Op}(h:∀t,.tmp t∈o.operands->∀u,T.get t=some u->a.tmps[t]?=some (ae s u)):eJ s T a o:=by intro x hx u hu;cases x with|tmp t=>have:=h t hx u hu;simp[Act.eval,Array.getD_eq_getD_getElem?,this]|const v=>simp only[aM]at hu;exact(jB hu s).symm|func f=>simp[aM]at hu;subst hu;rfl|global g=>simp[aM]at hu
def cY(T:Tr AV):List Operand->Option (List AV)
 |[]=>some []|x::l=>match aM T x with
  |some v=>match cY T l with|some vs=>some (v::vs)|none=>none
  |none=>none
theorem Ki{s:Sg}{T:Tr AV}{a:Act}:∀{l:List Operand}{vs:List AV},cY T l=some vs->(∀x∈l,∀u,aM T x=some u->a.eval x=ae s u) ->
  l.map a.eval=aD s vs
 |[],vs,h,_=>by simp[cY]at h;subst h;rfl|x::l,vs,h,hr=>by
  simp only[cY]at h;cases hv:aM T x<;>simp only[hv]at h
  .cases h
  cases hl:cY T l<;>simp only[hl]at h
  .cases h
  simp at h;subst h;simp[aD,hr x (by simp) _ hv,Ki hl (fun y hy=>hr y (by simp[hy]))]
def bY(P:Program)(t:TypeId):Option Nat:=match P.info? t with|some i=>some i.size|none=>none
def dx(P:Program)(t:TypeId):Option AV:=match P.info? t with
 |some i=>match i.zero with|some v=>back v|none=>none
 |none=>none
theorem run_underlying{P:Program}{t:TypeId}{d:TypeDesc}(h:P.underlying t=some d)(w:World):(underlying t).run P w=.ok d w:=by simp[underlying,h]
theorem run_typeInfo{P:Program}{t:TypeId}{d:TypeInfo}(h:P.info? t=some d)(w:World):(typeInfo t).run P w=.ok d w:=by simp[typeInfo,h]
theorem run_sizeOf{P:Program}{t:TypeId}{n:Nat}(h:bY P t=some n)(w:World):(Go.sizeOf t).run P w=.ok n w:=by unfold bY at h;cases hi:P.info? t<;>simp[hi]at h;subst h;simp[Go.sizeOf,run_typeInfo hi]
theorem fc{P:Program}{t:TypeId}{v:AV}(h:dx P t=some v)(s:Sg)(w:World):(zeroValue t).run P w=.ok (ae s v) w:=by
 unfold dx at h;cases hi:P.info? t<;>simp only[hi]at h
 .cases h
 rename_i i;cases hz:i.zero<;>simp only[hz]at h
 .cases h
 simp[zeroValue,run_typeInfo hi,hz,jB h]
def bK:AV->List AV
 |.agg l=>l|v=>[v]
theorem iH(s:Sg)(v:AV):(ae s v).cells.toList=aD s (bK v):=by cases v<;>simp[ae,Value.cells,bK,aD]
theorem dY(s:Sg)(l:List AV):(aD s l).length=l.length:=by simp[nT]
theorem yD(s:Sg)(l:List AV)(i:Nat):(aD s l)[i]?=(l[i]?).map (ae s):=by simp[nT]
theorem nI(s:Sg)(l m:List AV):aD s (l++m)=aD s l++aD s m:=by simp[nT]
theorem mh(s:Sg)(l:List AV)(n:Nat):aD s (l.take n)=(aD s l).take n:=by simp[nT,List.map_take]
theorem nQ(s:Sg)(l:List AV)(n:Nat):aD s (l.drop n)=(aD s l).drop n:=by simp[nT,List.map_drop]
def nth{α:Type}:List α->Nat->Option α
 |[],_=>none|x::l,n=>match n with|0=>some x|n+1=>nth l n
theorem bI{α:Type}:∀(l:List α) (n:Nat),nth l n=l[n]?
 |[],_=>by simp[nth]|x::l,0=>by simp[nth]|x::l,n+1=>by simp[nth,bI l n]
def takeN{α:Type}:Nat->List α->List α
 |0,_=>[]|n+1,l=>match l with|[]=>[]|x::l=>x::takeN n l
def c9{α:Type}:Nat->List α->List α
 |0,l=>l|n+1,l=>match l with|[]=>[]|_::l=>c9 n l
theorem dH{α:Type}:∀(n:Nat) (l:List α),takeN n l=l.take n
 |0,_=>by simp[takeN]|n+1,[]=>by simp[takeN]|n+1,x::l=>by simp[takeN,dH n l]
theorem dQ{α:Type}:∀(n:Nat) (l:List α),c9 n l=l.drop n
 |0,_=>by simp[c9]|n+1,[]=>by simp[c9]|n+1,x::l=>by simp[c9,dQ n l]
theorem yq(off:Nat):∀(vs:List Value) (k:Nat) (cells:Array Value),off+k+vs.length<=cells.size ->
  ((vs.zipIdx k).foldl (fun cs (x:Value×Nat)=>cs.setIfInBounds (off+x.2) x.1) cells).toList=cells.toList.take (off+k)++vs++cells.toList.drop (off+k+vs.length)
 |[],k,cells,_=>by simp|v::vs,k,cells,h=>by
  simp only[cx]at h;rw[List.zipIdx_cons,List.foldl_cons,yq off vs (k+1) _ (by simp;omega)];simp only[cx];have hs:cells.toList.length=cells.size:=Array.length_toList;have e:cells.toList.set (off+k) v=(cells.toList.take (off+k)++[v])++cells.toList.drop (off+k+1):=by rw[List.set_eq_take_append_cons_drop,if_pos (by omega)];simp
  have hA:(cells.toList.take (off+k)++[v]).length=off+(k+1):=by simp[hs];omega
  rw[Array.toList_setIfInBounds,e,List.take_left' hA];rw[show off+(k+1)+vs.length=(cells.toList.take (off+k)++[v]).length+vs.length by omega,List.drop_length_add_append,List.drop_drop];simp[Nat.add_assoc,Nat.add_comm,Nat.add_left_comm]
def fN(place:Nat->Option (Nat×Nat)):List AV->List (Nat×AV)->Option (List AV)
 |cells,[]=>some cells|cells,(i,v)::rest=>match place i with|none=>none|some (off,size)=>match Nat.beq (bK v).length size,Nat.ble (off+size) cells.length with|true,true=>fN place (takeN off cells++(bK v++c9 (off+size) cells)) rest|_,_=>none
theorem yr(s:Sg)(place:Nat->Option (Nat×Nat)):∀(parts:List (Nat×AV)) (cells r:List AV),fN place cells parts=some r ->
  Instr.fill place (aD s cells).toArray (parts.map fun x=>(x.1,ae s x.2))=some (aD s r).toArray
 |[],cells,r,h=>by simp[fN]at h;subst h;rfl|(i,v)::rest,cells,r,h=>by
  simp only[fN]at h;cases hp:place i<;>simp only[hp]at h
  .cases h
  rename_i q;obtain⟨off,size⟩:=q;simp only[]at h;cases h1:Nat.beq (bK v).length size<;>cases h2:Nat.ble (off+size) cells.length<;>simp only[h1,h2]at h<;>first|cases h|skip
  have h1:=aA h1;have h2:=Nat.le_of_ble_eq_true h2;have hl:(ae s v).cells.size=size:=by rw[<-Array.length_toList,iH,dY,h1]
  simp only[List.map_cons,Instr.fill,hp];rw[if_neg (by simp[hl,dY];omega)];have ih:=yr s place rest _ r h;rw[<-ih];congr 1;apply Array.toList_inj.1;have hz:(ae s v).cells.zipIdx.foldl (fun cs (x:Value×Nat)=>cs.setIfInBounds (off+x.2) x.1) (aD s cells).toArray
    = ((ae s v).cells.toList.zipIdx 0).foldl (fun cs (x:Value×Nat)=>cs.setIfInBounds (off+x.2) x.1) (aD s cells).toArray:=by
   rw[<-Array.foldl_toList];simp
  have:=yq off (ae s v).cells.toList 0 (aD s cells).toArray (by simp[hl,dY];omega);rw[hz,this];simp only[dH,dQ,nI,mh,nQ,iH,dn,Nat.add_zero,dY,h1]
def jI(P:Program)(t:TypeId)(l:List AV)(off:Nat):Option AV:=match P.underlying t with
 |some (.struct _)=>match bY P t with|some n=>some (.agg (takeN n (c9 off l)))|none=>none
 |some (.array _ _)=>match bY P t with|some n=>some (.agg (takeN n (c9 off l)))|none=>none
 |some _=>nth l off|none=>none
theorem sJ{P:Program}{t:TypeId}{l:List AV}{off:Nat}{v:AV}(h:jI P t l off=some v)(s:Sg)(w:World) :
  (part t (aD s l).toArray off).run P w=.ok (ae s v) w:=by
 unfold jI at h;cases hu:P.underlying t with
 |none=>simp[hu]at h|some d=>
  have hr:=run_underlying hu w;cases d<;>simp only[hu]at h
  case struct|array=>cases hs:bY P t<;>simp[hs]at h;subst h;simp[part,isAgg,hr,run_sizeOf hs,ae,dH,dQ,mh,nQ,List.extract_eq_take_drop]
  all_goals
   rw[bI]at h;simp[part,isAgg,hr,yD,h]
def od(P:Program)(t:TypeId)(u:AV)(f:Nat):Option AV:=match P.underlying t with
 |some (.struct fields)=>match nth fields.toList f with
  |some fd=>match u with|.agg l=>jI P fd.type l fd.offset|_=>none
  |none=>none
 |_=>none
theorem Gm{P:Program}{t:TypeId}{u v:AV}{f:Nat}(h:od P t u f=some v)(s:Sg)(w:World) :
  (Instr.field t (ae s u) f).run P w=.ok (ae s v) w:=by
 unfold od at h;cases hu:P.underlying t with
 |none=>simp[hu]at h|some d=>
  have hr:=run_underlying hu w;cases d<;>simp only[hu]at h<;>try cases h
  rename_i fields;cases hf:nth fields.toList f<;>simp only[hf]at h
  .cases h
  rename_i fd;rw[bI]at hf;cases u<;>simp only[]at h<;>try cases h
  have hf':fields[f]?=some fd:=by simpa using hf
  simp[Instr.field,hr,hf',asAgg,ae,sJ h]
def nS(P:Program)(t:TypeId)(u:AV)(f:Nat):Option AV:=match P.underlying t with
 |some (.struct fields)=>match nth fields.toList f with
  |some fd=>match u,bY P fd.type with|.ptr b off,some (n+1)=>some (.ptr b (off+fd.offset))|_,_=>none
  |none=>none
 |_=>none
theorem cX(b off n:Nat):(Addr.mk b off none).add n=⟨b,off+n,none⟩:=by
 unfold Addr.add;split
 .subst_vars;rfl
 .rfl
theorem Ga{P:Program}{t:TypeId}{u v:AV}{f:Nat}(h:nS P t u f=some v)(s:Sg)(w:World) :
  (Instr.fieldAt t (ae s u) f).run P w=.ok (ae s v) w:=by
 unfold nS at h;cases hu:P.underlying t with
 |none=>simp[hu]at h|some d=>
  have hr:=run_underlying hu w;cases d<;>simp only[hu]at h<;>try cases h
  rename_i fields;cases hf:nth fields.toList f<;>simp only[hf]at h
  .cases h
  rename_i fd;rw[bI]at hf;have hf':fields[f]?=some fd:=by simpa using hf
  split at h<;>try cases h
  rename_i b off n hs;simp[Instr.fieldAt,hr,hf',Instr.sureAddr,ae,fieldPlace,run_sizeOf hs,cX]
def j8(P:Program)(t:TypeId)(u i:AV):Option AV:=match i with
 |.int k n=>match n with
  |.ofNat n=>match P.underlying t with
   |some (.slice elem)=>match u,bY P elem with
    |.slice b off len _ _,some sz=>match Nat.blt n len with|true=>some (.ptr b (off+n*sz))|false=>none
    |_,_=>none
   |some (.array len elem)=>match u,bY P elem with
    |.ptr b off,some sz=>match Nat.blt n len with|true=>some (.ptr b (off+n*sz))|false=>none
    |_,_=>none
   |_=>none
  |.negSucc _=>none
 |_=>none
theorem F9{P:Program}{t:TypeId}{u i v:AV}(h:j8 P t u i=some v)(s:Sg)(w:World) :
  (Instr.indexAt t (ae s u) (ae s i)).run P w=.ok (ae s v) w:=by
 unfold j8 at h;cases i<;>simp only[]at h<;>try cases h
 rename_i k n;cases n<;>simp only[]at h<;>try cases h
 rename_i n;cases hu:P.underlying t with
 |none=>simp[hu]at h|some d=>
  have hr:=run_underlying hu w;cases d<;>simp only[hu]at h<;>try cases h
  .split at h<;>try cases h
   rename_i b off len _ _ sz hs;split at h<;>try cases h
   rename_i hb;rw[Nat.blt_eq]at hb;simp[Instr.indexAt,asIntOf,ae,hr,run_sizeOf hs,cX,hb]
  .split at h<;>try cases h
   rename_i b off sz hs;split at h<;>try cases h
   rename_i hb;rw[Nat.blt_eq]at hb;simp[Instr.indexAt,asIntOf,ae,hr,run_sizeOf hs,cX,hb,Instr.sureAddr]
def sameKind:TypeDesc->AV->AV->Bool
 |.pointer _,.cg,.ptr _ _|.pointer _,.ptr _ _,.cg=>true|.slice _,.av,.slice _ _ _ _ _|.slice _,.slice _ _ _ _ _,.av=>true|.map _ _,.cE,.map _|.map _ _,.map _,.cE=>true|.func _ _ _,.cD,.func _ _ _|.func _ _ _,.func _ _ _,.cD=>true|_,_,_=>false
theorem TM{P:Program}{t:TypeId}{x y:Operand}{X Y:Value}{r:Bool}{w:World}(hg:eqGuard .eql t x y X Y=pure ())
  (hb:binOp .eql t X Y=(do pure (.bool (<- Op.equal t X Y)))) (he:(Op.equal t X Y).run P w=.ok r w) :
  (do eqGuard .eql t x y X Y;binOp .eql t X Y).run P w=.ok (.bool r) w:=by simp[hg,hb,he]
theorem T7{P:Program}{t:TypeId}{x y:Operand}{X Y:Value}{r:Bool}{w:World}(hg:eqGuard .neq t x y X Y=pure ())
  (hb:binOp .neq t X Y=(do pure (.bool (!(<- Op.equal t X Y))))) (he:(Op.equal t X Y).run P w=.ok r w) :
  (do eqGuard .neq t x y X Y;binOp .neq t X Y).run P w=.ok (.bool (!r)) w:=by simp[hg,hb,he]
theorem XE{P:Program}{t:TypeId}{d:TypeDesc}{u v:AV}(hu:P.underlying t=some d)(hk:sameKind d u v=true)(s:Sg)(w:World) :
  ∀n,(Op.equalIn (n+1) t (ae s u) (ae s v)).run P w=.ok false w:=by
 intro n;have hr:=run_underlying hu w;unfold sameKind at hk;split at hk<;>first|contradiction|simp[Op.equalIn,ae,hr]
def mO(P:Program)(op:BinOp)(t:TypeId)(x y:Operand)(u v:AV):Option AV:=match fm u,fm v with
 |some a,some b=>match still P 4000 (do eqGuard op t x y a b;binOp op t a b)with|some r=>back r|none=>none
 |_,_=>match P.underlying t with
  |some d=>match sameKind d u v with
   |true=>match op with|.eql=>some (.bool false)|.neq=>some (.bool true)|_=>none
   |false=>none
  |none=>none
theorem GQ{P:Program}{op:BinOp}{t:TypeId}{x y:Operand}{u v r:AV}(h:mO P op t x y u v=some r)(s:Sg)(w:World) :
  (do eqGuard op t x y (ae s u) (ae s v);binOp op t (ae s u) (ae s v)).run P w=.ok (ae s r) w:=by
 unfold mO at h;split at h
 .rename_i a b ha hb;rw[gk ha,gk hb];split at h<;>try cases h
  rename_i q hq;rw[eS hq,jB h]
 .cases hu:P.underlying t with
  |none=>simp[hu]at h|some d=>
   simp only[hu]at h;cases hk:sameKind d u v<;>simp only[hk]at h
   .cases h
   have he:(Op.equal t (ae s u) (ae s v)).run P w=.ok false w:=XE hu hk s w 9999;cases op<;>simp only[]at h<;>try cases h
   .refine TM ?_ ?_ he<;>(unfold sameKind at hk;split at hk<;>first|contradiction|rfl)
   .refine T7 ?_ ?_ he<;>(unfold sameKind at hk;split at hk<;>first|contradiction|rfl)
end Go.Proofs.YtdcnjfbffckblaaGreat.Ev
end
section
namespace Go.Proofs.YtdcnjfbffckblaaGreat.V
open Go Go.RowKit
open Go.Proofs.YtdcnjfbffckblaaGreat.Ev (Tr nth bI takeN c9 dH dQ)
inductive Sh where
 |int (k:IntKind)
 |bool
 |str
 |agg (l:List Sh)
 |sl (s:Sh)
mutual
def Sh.T:Sh->Type
 |.int _=>Int|.bool=>Bool|.str=>ByteArray|.agg l=>TL l|.sl s=>List s.T
termination_by structural x=>x
def TL:List Sh->Type
 |[]=>Unit|s::l=>s.T×TL l
termination_by structural x=>x
end
mutual
def Sh.zero:(s:Sh)->s.T
 |.int _=>(0:Int)|.bool=>false|.str=>ByteArray.empty|.agg l=>Aw l|.sl _=>[]
termination_by structural x=>x
def Aw:(l:List Sh)->TL l
 |[]=>()|s::l=>(s.zero,Aw l)
termination_by structural x=>x
end
mutual
def Sh.size:Sh->Nat
 |.int _=>1|.bool=>1|.str=>1|.agg l=>mU l|.sl _=>1
termination_by structural x=>x
def mU:List Sh->Nat
 |[]=>0|s::l=>s.size+mU l
termination_by structural x=>x
end
mutual
def Sh.eqv:Sh->Sh->Bool
 |.int k,b=>match b with|.int k'=>Nat.beq (Ev.IntKind.num k) (Ev.IntKind.num k')|_=>false
 |.bool,b=>match b with|.bool=>true|_=>false
 |.str,b=>match b with|.str=>true|_=>false
 |.agg l,b=>match b with|.agg m=>gA l m|_=>false
 |.sl s,b=>match b with|.sl t=>s.eqv t|_=>false
termination_by structural x=>x
def gA:List Sh->List Sh->Bool
 |[],m=>match m with|[]=>true|_=>false
 |s::l,m=>match m with
  |t::m=>(match s.eqv t with|true=>gA l m|false=>false)
  |[]=>false
termination_by structural x=>x
end
mutual
theorem Sh.dc:∀{a b:Sh},a.eqv b=true->a=b
 |.int k,b,h=>by
  cases b<;>simp only[Sh.eqv]at h<;>first|cases h|skip
  rw[Ev.IntKind.px (aA h)]
 |.bool,b,h=>by cases b<;>simp only[Sh.eqv]at h<;>first|rfl|cases h
 |.str,b,h=>by cases b<;>simp only[Sh.eqv]at h<;>first|rfl|cases h
 |.agg l,b,h=>by cases b<;>simp only[Sh.eqv]at h<;>first|cases h|(rw[lE h])
 |.sl s,b,h=>by cases b<;>simp only[Sh.eqv]at h<;>first|cases h|(rw[Sh.dc h])
theorem lE:∀{a b:List Sh},gA a b=true->a=b
 |[],b,h=>by cases b<;>simp only[gA]at h<;>first|rfl|cases h
 |s::l,b,h=>by
  cases b<;>simp only[gA]at h<;>first|cases h|skip
  rename_i t m;cases hx:s.eqv t<;>simp only[hx]at h
  .cases h
  rw[Sh.dc hx,lE h]
end
def bc{α:Type}(R:α->List Value->Prop):List α->List Value->Prop
 |[],cs=>cs=[]|x::L,cs=>∃c r,cs=c++r/\R x c/\bc R L r
theorem bc.mono{α:Type}{R R':α->List Value->Prop}(h:∀x c,R x c->R' x c):∀{L:List α}{cs:List Value},bc R L cs->bc R' L cs
 |[],_,q=>q|x::L,_,⟨c,r,e,q,t⟩=>⟨c,r,e,h x c q,bc.mono h t⟩
theorem bc.append{α:Type}{R:α->List Value->Prop}:∀{L M:List α}{c d:List Value},bc R L c->bc R M d->bc R (L++M) (c++d)
 |[],M,_,d,rfl,q=>q|x::L,M,_,d,⟨c,r,rfl,q,t⟩,u=>⟨c,r++d,by simp,q,bc.append t u⟩
theorem bc.take{α:Type}{R:α->List Value->Prop}{z:Nat}(hz:∀x c,R x c->c.length=z):∀{L:List α}{cs:List Value}(n:Nat),bc R L cs->bc R (L.take n) (cs.take (n*z))
 |[],_,n,rfl=>by simp[bc]|x::L,_,0,_=>by simp[bc]|x::L,_,n+1,⟨c,r,rfl,q,t⟩=>by refine⟨c,r.take (n*z),?_,q,bc.take hz n t⟩;have hc:=hz x c q;rw[show(n+1)*z=c.length+n*z by rw[hc,Nat.add_mul];omega,List.take_length_add_append]
theorem bc.drop{α:Type}{R:α->List Value->Prop}{z:Nat}(hz:∀x c,R x c->c.length=z):∀{L:List α}{cs:List Value}(n:Nat),bc R L cs->bc R (L.drop n) (cs.drop (n*z))
 |[],_,n,rfl=>by simp[bc]|x::L,cs,0,h=>by simpa using h|x::L,_,n+1,⟨c,r,rfl,q,t⟩=>by
  have:=bc.drop hz n t;have hc:=hz x c q;have e:(c++r).drop ((n+1)*z)=r.drop (n*z):=by rw[show(n+1)*z=c.length+n*z by rw[hc,Nat.add_mul];omega,List.drop_length_add_append]
  rw[e];simpa using this
theorem bc.length{α:Type}{R:α->List Value->Prop}{z:Nat}(hz:∀x c,R x c->c.length=z):∀{L:List α}{cs:List Value},bc R L cs->cs.length=L.length*z
 |[],_,rfl=>by simp|x::L,_,⟨c,r,rfl,q,t⟩=>by rw[bA,hz x c q,bc.length hz t,cx,Nat.add_mul];omega
theorem bc.get{α:Type}{R:α->List Value->Prop}{z:Nat}(hz:∀x c,R x c->c.length=z):∀{L:List α}{cs:List Value}{i:Nat}{x:α},bc R L cs->L[i]?=some x ->
  ∃c,R x c/\∀j,j<z->cs[i*z+j]?=c[j]?
 |[],_,i,x,_,h=>by simp at h|y::L,_,0,x,⟨c,r,rfl,q,t⟩,h=>by simp at h;subst h;exact⟨c,q,fun j hj=>by rw[Nat.zero_mul,Nat.zero_add,List.getElem?_append_left (by rw[hz _ _ q];exact hj)]⟩|y::L,_,i+1,x,⟨c,r,rfl,q,t⟩,h=>by obtain⟨d,h1,h2⟩:=bc.get hz t (by simpa using h);refine⟨d,h1,fun j hj=>?_⟩;rw[List.getElem?_append_right (by rw[hz _ _ q,Nat.add_mul];omega),hz _ _ q,<-h2 j hj];congr 1;rw[Nat.add_mul];omega
theorem bc.set{α:Type}{R:α->List Value->Prop}{z:Nat}(hz:∀x c,R x c->c.length=z):∀{L:List α}{cs:List Value}{i:Nat}{x:α}{c:List Value},bc R L cs->i<L.length->R x c ->
  bc R (L.set i x) (cs.take (i*z)++c++cs.drop (i*z+z))
 |[],_,i,x,c,_,h,_=>by simp at h|y::L,_,0,x,c,⟨d,r,rfl,q,t⟩,h,hc=>by refine⟨c,r,?_,hc,t⟩;rw[Nat.zero_mul,Nat.zero_add,<-hz y d q];simp|y::L,_,i+1,x,c,⟨d,r,rfl,q,t⟩,h,hc=>by
  refine⟨d,r.take (i*z)++c++r.drop (i*z+z),?_,q,bc.set hz t (by simpa using h) hc⟩;have hd:=hz y d q;have e1:(d++r).take ((i+1)*z)=d++r.take (i*z):=by rw[show(i+1)*z=d.length+i*z by rw[hd,Nat.add_mul];omega,List.take_length_add_append]
  have e2:(d++r).drop ((i+1)*z+z)=r.drop (i*z+z):=by rw[show(i+1)*z+z=d.length+(i*z+z) by rw[hd,Nat.add_mul];omega,List.drop_length_add_append]
  rw[e1,e2];simp
def ta(w:World)(b o:Nat)(cs:List Value):Prop:=∃c ty fr,w.heap[b]?=some (.cells c ty fr)/\∀j u,cs[j]?=some u->c[o+j]?=some u
mutual
def Cs(w:World)(A:Nat->Prop):(σ:Sh)->σ.T->List Value->Prop
 |.int k,n,cs=>cs=[.int k n]|.bool,b,cs=>cs=[.bool b]|.str,s,cs=>cs=[.string s]|.agg l,d,cs=>eD w A l d cs|.sl s,L,cs=>∃a len cap,cs=[.slice a len cap]/\len=List.length L/\len<=cap/\(L≠[]->∃b o X,a=some ⟨b,o,none⟩/\¬A b/\bc (Cs w A s) L X/\ta w b o X)
termination_by structural x=>x
def eD(w:World)(A:Nat->Prop):(l:List Sh)->TL l->List Value->Prop
 |[],_,cs=>cs=[]|s::l,d,cs=>∃c r,cs=c++r/\Cs w A s d.1 c/\eD w A l d.2 r
termination_by structural x=>x
end
mutual
theorem Cs.length{w:World}{A:Nat->Prop}:∀{σ:Sh}{d:σ.T}{cs:List Value},Cs w A σ d cs->cs.length=σ.size
 |.int k,n,cs,h=>by rw[show cs=[.int k n]from h];rfl|.bool,b,cs,h=>by rw[show cs=[.bool b]from h];rfl|.str,s,cs,h=>by rw[show cs=[.string s]from h];rfl|.agg l,d,cs,h=>eD.length h|.sl s,L,cs,⟨a,len,cap,h,_⟩=>by rw[h];rfl
theorem eD.length{w:World}{A:Nat->Prop}:∀{l:List Sh}{d:TL l}{cs:List Value},eD w A l d cs->cs.length=mU l
 |[],_,cs,h=>by rw[show cs=[]from h];rfl|s::l,d,cs,⟨c,r,e,h1,h2⟩=>by rw[e,bA,Cs.length h1,eD.length h2];rfl
end
def fw(w:World)(A:Nat->Prop)(w':World)(A':Nat->Prop):Prop:=∀b o,¬A b->w.heap[b]?=some o->w'.heap[b]?=some o/\¬A' b
theorem fw.trans{w w' w'':World}{A A' A'':Nat->Prop}(a:fw w A w' A')(b:fw w' A' w'' A''):fw w A w'' A'':=fun k o h q=>let⟨h1,h2⟩:=a k o h q;b k o h2 h1
theorem ta.aN{w w':World}{A A':Nat->Prop}(K:fw w A w' A'){b o:Nat}{cs:List Value}(h:ta w b o cs)(ha:¬A b):ta w' b o cs/\¬A' b:=by obtain⟨c,ty,fr,h1,h2⟩:=h;obtain⟨k1,k2⟩:=K b _ ha h1;exact⟨⟨c,ty,fr,k1,h2⟩,k2⟩
mutual
theorem Cs.aN{w w':World}{A A':Nat->Prop}(K:fw w A w' A'):∀{σ:Sh}{d:σ.T}{cs:List Value},Cs w A σ d cs->Cs w' A' σ d cs
 |.int k,n,cs,h=>h|.bool,b,cs,h=>h|.str,s,cs,h=>h|.agg l,d,cs,h=>eD.aN K (l:=l) h|.sl s,L,cs,⟨a,len,cap,h1,h2,h3,h4⟩=>⟨a,len,cap,h1,h2,h3,fun hL=>by obtain⟨b,o,X,e1,e2,e3,e4⟩:=h4 hL;obtain⟨k1,k2⟩:=e4.aN K e2;exact⟨b,o,X,e1,k2,e3.mono (fun x c q=>Cs.aN K q),k1⟩⟩
theorem eD.aN{w w':World}{A A':Nat->Prop}(K:fw w A w' A'):∀{l:List Sh}{d:TL l}{cs:List Value},eD w A l d cs->eD w' A' l d cs
 |[],_,cs,h=>h|s::l,d,cs,⟨c,r,e,h1,h2⟩=>⟨c,r,e,Cs.aN K h1,eD.aN K h2⟩
end
end Go.Proofs.YtdcnjfbffckblaaGreat.V
end
section
namespace Go.Proofs.YtdcnjfbffckblaaGreat.Ev
open Go Go.RowKit
inductive aC where
 |cells (l:List AV) (ty:TypeId) (op:Option Nat)
 |map (es:List (AV×AV×Nat)) (clock:Nat)
structure Hp where
 tr:Tr aC
 next:Nat
def ot(n:Nat):List (AV×AV×Nat)->Bool
 |[]=>true|e::l=>match ws n e.1,ws n e.2.1 with|true,true=>ot n l|_,_=>false
def gp(n:Nat):aC->Bool
 |.cells l _ _=>cf n l|.map es _=>ot n es
theorem mo(n:Nat)(l:List (AV×AV×Nat)):ot n l=true↔∀e∈l,ws n e.1=true/\ws n e.2.1=true:=by induction l with|nil=>simp[ot]|cons e l ih=>simp only[ot];cases h1:ws n e.1<;>cases h2:ws n e.2.1<;>simp[h1,h2,ih]
theorem mi{n m:Nat}(h:n<=m){o:aC}(ho:gp n o=true):gp m o=true:=by cases o with|cells l ty op=>exact pq h l ho|map es c=>simp only[gp,mo]at ho |-;exact fun e he=>⟨lx h _ (ho e he).1,lx h _ (ho e he).2⟩
def de(s:Sg)(es:List (AV×AV×Nat)):List MapEntry:=es.map fun e=>⟨ae s e.1,ae s e.2.1,e.2.2⟩
def bG(s:Sg)(i:Nat):aC->Option Obj->Prop
 |.cells l ty none,ob=>ob=some (.cells (aD s l).toArray ty (0,0))|.cells l ty (some sz),ob=>∃tail:List Value,ob=some (.cells (aD s l++tail).toArray ty (0,0))/\l.length+tail.length=(s i).2*sz/\(s i).2<=9223372036854775807|.map es clock,ob=>ob=some (.map (de s es).toArray clock)
theorem bG.there{s:Sg}{i:Nat}{o:aC}{ob:Option Obj}(h:bG s i o ob):∃x,ob=some x:=by
 cases o with
 |cells l ty op=>cases op with|none=>exact⟨_,h⟩|some sz=>obtain⟨t,h,_⟩:=h;exact⟨_,h⟩
 |map es c=>exact⟨_,h⟩
theorem bG.congr{s s':Sg}{n i:Nat}{o:aC}{ob:Option Obj}(h:bG s i o ob)(hs:∀j,j<n->s' j=s j)(hi:i<n)(hw:gp n o=true):bG s' i o ob:=by
 cases o with
 |cells l ty op=>have e:aD s' l=aD s l:=nK hs l hw;cases op with|none=>simp only[bG]at h |-;rw[e];exact h|some sz=>simp only[bG]at h |-;rw[e,hs i hi];exact h
 |map es c=>
  have e:de s' es=de s es:=by simp only[gp,mo]at hw;apply List.map_congr_left;intro x hx;rw[nN hs _ (hw x hx).1,nN hs _ (hw x hx).2]
  simp only[bG]at h |-;rw[e];exact h
structure ab(s:Sg)(h:Hp)(w:World):Prop where
 obj:∀i o,h.tr.get i=some o->bG s i o w.heap[(s i).1]?
 inj:∀i j o o',h.tr.get i=some o->h.tr.get j=some o'->(s i).1=(s j).1->i=j
 lt:∀i o,h.tr.get i=some o->i<h.next
 eX:∀i o,h.tr.get i=some o->gp h.next o=true
theorem ab.bound{s:Sg}{h:Hp}{w:World}(H:ab s h w){i:Nat}{o:aC}(hi:h.tr.get i=some o):(s i).1<w.heap.size:=by
 obtain⟨x,hx⟩:=(H.obj i o hi).there;rcases Nat.lt_or_ge (s i).1 w.heap.size with q|q
 .exact q
 .rw[Array.getElem?_eq_none q]at hx;cases hx
structure Ext(s:Sg)(h:Hp)(w:World)(s':Sg)(h':Hp)(w':World):Prop where
 os:w'.os=w.os
 tape:w'.tape=w.tape
 output:w'.output=w.output
 size:w.heap.size<=w'.heap.size
 sg:∀i,i<h.next->s' i=s i
 next:h.next<=h'.next
 frame:∀b,b<w.heap.size->(∀i o,h.tr.get i=some o->(s i).1≠b)->w'.heap[b]?=w.heap[b]?
 bx:∀j o,h'.tr.get j=some o->(∃i o',h.tr.get i=some o'/\(s i).1=(s' j).1)\/w.heap.size<=(s' j).1
 aN:∀j o,h'.tr.get j=some o->j<h.next->∃o',h.tr.get j=some o'
theorem Ext.refl(s:Sg)(h:Hp)(w:World):Ext s h w s h w:=⟨rfl,rfl,rfl,Nat.le_refl _,fun _ _=>rfl,Nat.le_refl _,fun _ _ _=>rfl,fun j o hj=>.inl ⟨j,o,hj,rfl⟩,fun j o hj _=>⟨o,hj⟩⟩
theorem Ext.drew(s:Sg)(h:Hp)(w:World)(d:Nat):Ext s h w s h { w with drawn:=d }:=⟨rfl,rfl,rfl,Nat.le_refl _,fun _ _=>rfl,Nat.le_refl _,fun _ _ _=>rfl,fun j o hj=>.inl ⟨j,o,hj,rfl⟩,fun j o hj _=>⟨o,hj⟩⟩
theorem Ext.trans{s s' s'':Sg}{h h' h'':Hp}{w w' w'':World}(a:Ext s h w s' h' w')(b:Ext s' h' w' s'' h'' w''):Ext s h w s'' h'' w'' where
 os:=b.os.trans a.os
 tape:=b.tape.trans a.tape
 output:=b.output.trans a.output
 size:=Nat.le_trans a.size b.size
 sg i hi:=(b.sg i (Nat.lt_of_lt_of_le hi a.next)).trans (a.sg i hi)
 next:=Nat.le_trans a.next b.next
 frame k hk hn:=by
  refine(b.frame k (Nat.lt_of_lt_of_le hk a.size) ?_).trans (a.frame k hk hn);intro j o hj e;rcases a.bx j o hj with⟨i,o',hi,q⟩|q
  .exact hn i o' hi (q.trans e)
  .omega
 bx j o hj:=by
  rcases b.bx j o hj with⟨i,o',hi,q⟩|q
  .rcases a.bx i o' hi with⟨k,o'',hk,r⟩|r
   .exact .inl ⟨k,o'',hk,r.trans q⟩
   .exact .inr (by omega)
  .exact .inr (Nat.le_trans a.size q)
 aN j o hj hlt:=by obtain⟨o',ho'⟩:=b.aN j o hj (Nat.lt_of_lt_of_le hlt a.next);exact a.aN j o' ho' hlt
def bJ(w:World)(b:Nat)(o:Obj):World:={ w with heap:=w.heap.setIfInBounds b o }
theorem dw(w:World)(b:Nat)(o:Obj)(k:Nat):(bJ w b o).heap[k]?=if k=b/\b<w.heap.size then some o else w.heap[k]?:=by
 simp only[bJ,Array.getElem?_setIfInBounds];by_cases h:b=k
 .subst h;by_cases hb:b<w.heap.size
  .simp[hb]
  .simp[hb]
 .rw[if_neg h,if_neg (fun q=>h q.1.symm)]
theorem fX(w:World)(b:Nat)(o:Obj):(bJ w b o).heap.size=w.heap.size:=by simp[bJ]
theorem Xg(w:World)(b:Nat)(o o':Obj):bJ (bJ w b o) b o'=bJ w b o':=by
 simp only[bJ];congr 1;apply Array.ext_getElem?;intro i;simp only[Array.getElem?_setIfInBounds,Array.size_setIfInBounds];by_cases h:b=i
 .simp[h]
 .simp[h]
theorem setCell_eq{w:World}{b off:Nat}{c:Array Value}{ty:TypeId}{fr:Nat×Nat}(h:w.heap[b]?=some (.cells c ty fr))(v:Value) :
  w.setCell ⟨b,off,none⟩ v=bJ w b (.cells (c.setIfInBounds off v) ty fr):=by
 unfold World.setCell bJ;congr 1;apply Array.ext_getElem?;intro i;rw[Array.getElem?_modify,Array.getElem?_setIfInBounds];by_cases q:b=i
 .subst q;have hb:b<w.heap.size:=by
   rcases Nat.lt_or_ge b w.heap.size with q|q
   .exact q
   .rw[Array.getElem?_eq_none q]at h;cases h
  have hx:w.heap[b]=.cells c ty fr:=by simpa[Array.getElem?_eq_getElem hb]using h
  simp[h,hb,hx]
 .simp[q]
def iK:Value->Bool
 |.agg _|.tuple _=>false|_=>true
def one:AV->Bool
 |.agg _|.bk _=>false|_=>true
def gU:List AV->Bool
 |[]=>true|x::l=>match one x with|true=>gU l|false=>false
theorem KF{s:Sg}{v:AV}(h:one v=true):iK (ae s v)=true:=by cases v<;>simp[one]at h<;>rfl
theorem KG(l:List AV):gU l=true↔∀x∈l,one x=true:=by induction l with|nil=>simp[gU]|cons x l ih=>simp only[gU];cases h:one x<;>simp[h,ih]
theorem Zzc{P:Program}{w:World}{b off:Nat}{c:Array Value}{ty:TypeId}{v:Value}(h:w.heap[b]?=some (.cells c ty (0,0)))(ho:off<c.size)
  (hv:iK v=true):(store ⟨b,off,none⟩ v).run P w=.ok () (bJ w b (.cells (c.setIfInBounds off v) ty (0,0))):=by
 have hc:w.cell? ⟨b,off,none⟩=some c[off]:=by simp[World.cell?,h,ho]
 have hf:w.frozen? ⟨b,off,none⟩=false:=by simp[World.frozen?,h]
 rw[<-setCell_eq h v];cases v<;>simp[iK]at hv<;>simp[store,Sem.run,hc,hf]
theorem gX{P:Program}{b off:Nat}{ty:TypeId}:∀(vs:List Value) (k:Nat) (w:World) (c:Array Value),w.heap[b]?=some (.cells c ty (0,0)) ->
  off+k+vs.length<=c.size->(∀v∈vs,iK v=true) ->
  ∃c',c'.toList=c.toList.take (off+k)++vs++c.toList.drop (off+k+vs.length) /\
   (storeCells ⟨b,off,none⟩ vs k).run P w=.ok () (bJ w b (.cells c' ty (0,0)))
 |[],k,w,c,h,hl,_=>by
  refine⟨c,by simp,?_⟩;simp only[storeCells,Sem.run_pure];congr 1;unfold bJ;have:w.heap.setIfInBounds b (.cells c ty (0,0))=w.heap:=by
   apply Array.ext_getElem?;intro i;rw[Array.getElem?_setIfInBounds];by_cases q:b=i
   .subst q;have hb:b<w.heap.size:=by
     rcases Nat.lt_or_ge b w.heap.size with q|q
     .exact q
     .rw[Array.getElem?_eq_none q]at h;cases h
    simp only[if_true,hb];exact h.symm
   .simp[q]
  rw[this]
 |v::vs,k,w,c,h,hl,ho=>by
  simp only[cx]at hl;have hb:b<w.heap.size:=by
   rcases Nat.lt_or_ge b w.heap.size with q|q
   .exact q
   .rw[Array.getElem?_eq_none q]at h;cases h
  have h1:=Zzc (P:=P) h (off:=off+k) (by omega) (ho v (by simp));obtain⟨c',hc',hr⟩:=gX (P:=P) (off:=off) vs (k+1) (bJ w b (.cells (c.setIfInBounds (off+k) v) ty (0,0))) (c.setIfInBounds (off+k) v)
   (by rw[dw,if_pos ⟨rfl,hb⟩]) (by simp;omega) (fun x hx=>ho x (by simp[hx]))
  rw[Xg]at hr;refine⟨c',?_,?_⟩
  .rw[hc'];simp only[cx];have hs:c.toList.length=c.size:=Array.length_toList;have e:c.toList.set (off+k) v=(c.toList.take (off+k)++[v])++c.toList.drop (off+k+1):=by rw[List.set_eq_take_append_cons_drop,if_pos (by omega)];simp
   have hA:(c.toList.take (off+k)++[v]).length=off+(k+1):=by simp[hs];omega
   rw[Array.toList_setIfInBounds,e,List.take_left' hA];rw[show off+(k+1)+vs.length=(c.toList.take (off+k)++[v]).length+vs.length by omega,List.drop_length_add_append,List.drop_drop];simp[Nat.add_assoc,Nat.add_comm,Nat.add_left_comm]
  .simp only[storeCells,Sem.run_bind,cX,h1,Result.andThen_ok,hr]
theorem run_loadCells{P:Program}{b off:Nat}{ty:TypeId}{w:World}{c:Array Value}{fr:Nat×Nat}(h:w.heap[b]?=some (.cells c ty fr)) :
  ∀(n i:Nat) (acc:Array Value),off+i+n<=c.size ->
  (loadCellsFrom ⟨b,off,none⟩ i n acc).run P w=.ok (acc.toList++(c.toList.drop (off+i)).take n).toArray w
 |0,i,acc,_=>by simp[loadCellsFrom]|n+1,i,acc,hl=>by
  have hc:w.cell? ⟨b,off+i,none⟩=some c[off+i]:=by simp[World.cell?,h,show off+i<c.size by omega]
  simp only[loadCellsFrom,Sem.run_bind,cX,run_load,hc,Result.andThen_ok];rw[run_loadCells h n (i+1) _ (by omega)];congr 2;have hd:c.toList.drop (off+i)=c[off+i]::c.toList.drop (off+(i+1)):=by rw[List.drop_eq_getElem_cons (by simp;omega)];simp[Nat.add_assoc]
  rw[hd];simp
theorem ab.put{s:Sg}{h:Hp}{w:World}(H:ab s h w){i f:Nat}{o o':aC}{ob:Obj}{tr':Tr aC}(hi:h.tr.get i=some o)(hb:w.heap.size=w.heap.size)
  (ho:bG s i o' (some ob)) (hw:gp h.next o'=true) (ht:Tr.set f h.tr i (some o')=some tr') :
  ab s ⟨tr',h.next⟩ (bJ w (s i).1 ob)/\Ext s h w s ⟨tr',h.next⟩ (bJ w (s i).1 ob):=by
 have hg:=Tr.bz f h.tr i (some o') tr' ht;have ba:=H.bound hi;have alt:∀j o₁,tr'.get j=some o₁->∃o₂,h.tr.get j=some o₂:=by
  intro j o₁ hj;rw[hg j]at hj;by_cases q:j=i
  .subst q;exact⟨o,hi⟩
  .rw[if_neg q]at hj;exact⟨_,hj⟩
 refine⟨⟨?_,?_,?_,?_⟩,⟨rfl,rfl,rfl,by rw[fX];exact Nat.le_refl _,fun _ _=>rfl,Nat.le_refl _,?_,?_,fun j o₁ hj _=>alt j o₁ hj⟩⟩
 .intro j o₁ hj;simp only[hg j]at hj;by_cases q:j=i
  .subst q;simp only[if_true,aX]at hj;subst hj;rw[dw,if_pos ⟨rfl,ba⟩];exact ho
  .rw[if_neg q]at hj;rw[dw,if_neg (fun r=>q (H.inj j i o₁ o hj hi r.1))];exact H.obj j o₁ hj
 .intro j k o₁ o₂ hj hk e;obtain⟨p,hp⟩:=alt j o₁ hj;obtain⟨q,hq⟩:=alt k o₂ hk;exact H.inj j k p q hp hq e
 .intro j o₁ hj;obtain⟨p,hp⟩:=alt j o₁ hj;exact H.lt j p hp
 .intro j o₁ hj;simp only[hg j]at hj;by_cases q:j=i
  .subst q;simp only[if_true,aX]at hj;subst hj;exact hw
  .rw[if_neg q]at hj;exact H.eX j o₁ hj
 .intro k hk hn;rw[dw,if_neg (fun r=>hn i o hi r.1.symm)]
 .intro j o₁ hj;obtain⟨p,hp⟩:=alt j o₁ hj;exact .inl ⟨j,p,hp,rfl⟩
def aT(s:Sg)(i:Nat)(x:Nat×Nat):Sg:=fun j=>if j=i then x else s j
theorem cd(s:Sg)(i:Nat)(x:Nat×Nat):aT s i x i=x:=by simp[aT]
theorem pE(s:Sg)(i:Nat)(x:Nat×Nat){j:Nat}(h:j<i):aT s i x j=s j:=by simp[aT];omega
theorem ab.new{s:Sg}{h:Hp}{w:World}(H:ab s h w){f c:Nat}{o':aC}{ob:Obj}{tr':Tr aC}
  (ho:bG (aT s h.next (w.heap.size,c)) h.next o' (some ob)) (hw:gp (h.next+1) o'=true) (ht:Tr.set f h.tr h.next (some o')=some tr') :
  ab (aT s h.next (w.heap.size,c)) ⟨tr',h.next+1⟩ { w with heap:=w.heap.push ob } /\
  Ext s h w (aT s h.next (w.heap.size,c)) ⟨tr',h.next+1⟩ { w with heap:=w.heap.push ob }:=by
 have hg:=Tr.bz f h.tr h.next (some o') tr' ht;have old:∀j o₁,h.tr.get j=some o₁->aT s h.next (w.heap.size,c) j=s j:=fun j o₁ hj=>pE s _ _ (H.lt j o₁ hj);refine⟨⟨?_,?_,?_,?_⟩,⟨rfl,rfl,rfl,by simp,fun i hi=>pE s _ _ hi,by simp,?_,?_,fun j o₁ hj hlt=>by simp only[hg j]at hj;rw[if_neg (by omega)]at hj;exact⟨o₁,hj⟩⟩⟩
 .intro j o₁ hj;simp only[hg j]at hj;by_cases q:j=h.next
  .subst q;simp only[if_true,aX]at hj;subst hj;rw[cd];simpa using ho
  .rw[if_neg q]at hj;have hb:=H.bound hj;rw[old j o₁ hj];show bG _ _ _ ((w.heap.push ob)[(s j).1]?);rw[Array.getElem?_push,if_neg (by omega)];exact(H.obj j o₁ hj).congr (fun k hk=>pE s _ _ hk) (H.lt j o₁ hj) (H.eX j o₁ hj)
 .intro j k o₁ o₂ hj hk e;simp only[hg j]at hj;simp only[hg k]at hk;by_cases q:j=h.next
  .by_cases r:k=h.next
   .rw[q,r]
   .rw[if_neg r]at hk;rw[q,cd,old k o₂ hk]at e;have:=H.bound hk;simp only[]at e;omega
  .rw[if_neg q]at hj;by_cases r:k=h.next
   .rw[r,cd,old j o₁ hj]at e;have:=H.bound hj;simp only[]at e;omega
   .rw[if_neg r]at hk;rw[old j o₁ hj,old k o₂ hk]at e;exact H.inj j k o₁ o₂ hj hk e
 .intro j o₁ hj;simp only[hg j]at hj;by_cases q:j=h.next
  .simp[q]
  .rw[if_neg q]at hj;have:=H.lt j o₁ hj;simp only;omega
 .intro j o₁ hj;simp only[hg j]at hj;by_cases q:j=h.next
  .subst q;simp only[if_true,aX]at hj;subst hj;exact hw
  .rw[if_neg q]at hj;exact mi (by simp) (H.eX j o₁ hj)
 .intro k hk hn;show(w.heap.push ob)[k]?=_;rw[Array.getElem?_push,if_neg (by omega)]
 .intro j o₁ hj;simp only[hg j]at hj;by_cases q:j=h.next
  .subst q;right;rw[cd];exact Nat.le_refl _
  .rw[if_neg q]at hj;exact .inl ⟨j,o₁,hj,by rw[old j o₁ hj]⟩
theorem ab.kill{s:Sg}{h:Hp}{w:World}(H:ab s h w){i f:Nat}{tr':Tr aC}(ht:Tr.set f h.tr i none=some tr'):ab s ⟨tr',h.next⟩ w/\Ext s h w s ⟨tr',h.next⟩ w:=by
 have hg:=Tr.bz f h.tr i none tr' ht;have sub:∀j o,tr'.get j=some o->h.tr.get j=some o:=by
  intro j o hj;rw[hg j]at hj;by_cases q:j=i
  .rw[if_pos q]at hj;cases hj
  .rw[if_neg q]at hj;exact hj
 refine⟨⟨fun j o hj=>H.obj j o (sub j o hj),fun j k o o' hj hk=>H.inj j k o o' (sub j o hj) (sub k o' hk),fun j o hj=>H.lt j o (sub j o hj),fun j o hj=>H.eX j o (sub j o hj)⟩,
  ⟨rfl,rfl,rfl,Nat.le_refl _,fun _ _=>rfl,Nat.le_refl _,fun _ _ _=>rfl,fun j o hj=>.inl ⟨j,o,sub j o hj,rfl⟩,fun j o hj _=>⟨o,sub j o hj⟩⟩⟩
end Go.Proofs.YtdcnjfbffckblaaGreat.Ev
end
section
namespace Go.Proofs.YtdcnjfbffckblaaGreat.V
open Go Go.RowKit
open Go.Proofs.YtdcnjfbffckblaaGreat.Ev (Tr Tr.bz nth bI takeN c9 dH dQ bJ dw fX)
def oP:Sh->Bool|.agg _=>true|_=>false
def DZ:Value->Bool|.agg _=>true|_=>false
def fG(w:World)(A:Nat->Prop)(σ:Sh)(d:σ.T)(V:Value):Prop:=Cs w A σ d V.cells.toList/\DZ V=oP σ
theorem fG.aN{w w':World}{A A':Nat->Prop}(K:fw w A w' A'){σ:Sh}{d:σ.T}{V:Value}(h:fG w A σ d V):fG w' A' σ d V:=⟨h.1.aN K,h.2⟩
abbrev cO(σ:Sh):=List (Int×σ.T×Unit)
def fh(w:World)(A:Nat->Prop)(κ:IntKind)(σ:Sh):List MapEntry->cO σ->Prop
 |[],N=>N=[]|e::es,N=>match N with|p::N=>e.key=.int κ p.1/\fG w A σ p.2.1 e.val/\fh w A κ σ es N|[]=>False
theorem fh.aN{w w':World}{A A':Nat->Prop}(K:fw w A w' A'){κ:IntKind}{σ:Sh}:∀{es:List MapEntry}{N:cO σ},fh w A κ σ es N->fh w' A' κ σ es N
 |[],_,h=>h|e::es,N,h=>by cases N with|nil=>exact h|cons p N=>exact⟨h.1,h.2.1.aN K,h.2.2.aN K⟩
def fk(w:World)(A:Nat->Prop)(κ:IntKind)(σ:Sh)(es:Array MapEntry)(clock:Nat)(M:cO σ):Prop:=∃N:cO σ,N.Perm M/\fh w A κ σ es.toList N/\M.Pairwise (fun p q=>p.1<q.1)/\(∀e∈es.toList,e.born<clock)/\es.toList.Pairwise (fun e f=>e.born≠f.born)
theorem fk.aN{w w':World}{A A':Nat->Prop}(K:fw w A w' A'){κ:IntKind}{σ:Sh}{es:Array MapEntry}{clock:Nat}{M:cO σ}(h:fk w A κ σ es clock M):fk w' A' κ σ es clock M:=by obtain⟨N,h1,h2,h3⟩:=h;exact⟨N,h1,h2.aN K,h3⟩
abbrev fC:=Int×Int×List (Int×Int×Unit)×Unit
inductive AV where
 |bool (b:Bool)
 |int (k:IntKind) (n:Int)
 |str (s:ByteArray)
 |cg
 |av
 |cE
 |cD
 |cZ
 |fU
 |ptr (b off:Nat)
 |da (b i z o:Nat)
 |dO (σ:Sh) (d:σ.T) (o:Nat)
 |hd (b:Nat) (τ:Sh)
 |vw (b:Nat) (τ:Sh) (off len:Nat)
 |fz (τ:Sh) (L:List τ.T)
 |func (f:FuncId) (first cap:List AV)
 |eW (τ:Sh) (z:Bool) (L:List τ.T)
 |mp (b:Nat)
 |dk (b:Nat)
 |rp (b i:Nat)
 |ra (b i:Nat)
 |agg (l:List AV)
 |bk (l:List AV)
inductive aC where
 |cells (l:List AV) (ty:TypeId)
 |arr (τ:Sh) (L:List τ.T) (ty:TypeId)
 |map (κ:IntKind) (σ:Sh) (M:cO σ)
 |dG (L:List fC) (ty:TypeId)
 |cR (τ:Sh) (i:Nat) (L:List τ.T) (vs:List AV) (ty:TypeId)
structure Hp where
 tr:Tr aC
 next:Nat
def aC.row:aC->Option Nat
 |.arr _ L _=>some L.length|.cR _ _ L _ _=>some L.length|_=>none
def rowOf(t:Tr aC)(b:Nat):Option Nat:=match t.get b with|some o=>o.row|none=>none
theorem gu{t:Tr aC}{b:Nat}{τ:Sh}{L:List τ.T}{ty:TypeId}(h:t.get b=some (.arr τ L ty)):rowOf t b=some L.length:=by unfold rowOf;rw[h];rfl
theorem OI{t:Tr aC}{b i:Nat}{τ:Sh}{L:List τ.T}{vs:List AV}{ty:TypeId}(h:t.get b=some (.cR τ i L vs ty)):rowOf t b=some L.length:=by unfold rowOf;rw[h];rfl
theorem gO{t:Tr aC}{b n:Nat}(h:rowOf t b=some n):∃o,t.get b=some o/\o.row=some n:=by
 unfold rowOf at h;split at h
 .rename_i o ho;exact⟨o,ho,h⟩
 .cases h
theorem fS{t:Tr aC}{b:Nat}{o:aC}(h:t.get b=some o):rowOf t b=o.row:=by unfold rowOf;rw[h]
theorem Oo{t t':Tr aC}{b b':Nat}(h:t.get b=t'.get b'):rowOf t b=rowOf t' b':=by unfold rowOf;rw[h]
inductive Loc where
 |at (b cap:Nat)
 |bN (b cap:Nat) (m:List (Nat×Nat))
 |nil
abbrev Sg:=Nat->Option Loc
def Loc.slice:Loc->Nat->Value
 |.at b c,n=>.slice (some ⟨b,0,none⟩) n c|.bN b c _,n=>.slice (some ⟨b,0,none⟩) n c|.nil,n=>.slice none n 0
def Loc.Jl:Loc->Value
 |.bN b c m=>.slice (some ⟨b,0,none⟩) m.length c|_=>.slice none 0 0
def Loc.own:Loc->Nat->Prop
 |.at b _,x=>x=b|.bN b _ m,x=>x=b\/∃p∈m,x=p.1\/x=p.2|.nil,_=>False
def mM(w:World)(A:Nat->Prop)(p:Nat×Nat)(d:fC)(ty:TypeId):Prop:=w.heap[p.1]?=some (.cells #[.int .i64 d.1,.int .i64 d.2.1,.map (some p.2)] ty (0,0))/\∃es clock,w.heap[p.2]?=some (.map es clock)/\fk w A .u64 (.int .u64) es clock d.2.2.1
def dS(w:World)(A:Nat->Prop)(ty:TypeId):List (Nat×Nat)->List fC->Prop
 |[],L=>L=[]|p::m,L=>match L with|d::L=>mM w A p d ty/\dS w A ty m L|[]=>False
def fZ(m:List (Nat×Nat)):List Value:=m.map fun p=>.pointer (some ⟨p.1,0,none⟩)
def dZ(m:List (Nat×Nat)):List Nat:=m.flatMap fun p=>[p.1,p.2]
structure Cx where
 s:Sg
 h:Hp
 w:World
 A:Nat->Prop
def Cx.bx(X:Cx)(b:Nat):Prop:=∃i o l,X.h.tr.get i=some o/\X.s i=some l/\l.own b
def Cx.out(X:Cx)(b:Nat):Prop:=X.A b\/X.bx b
mutual
def Rel(X:Cx):AV->Value->Prop
 |.bool b,V=>V=.bool b|.int k n,V=>V=.int k n|.str s,V=>V=.string s|.cg,V=>V=.pointer none|.av,V=>V=.slice none 0 0|.cE,V=>V=.map none|.cD,V=>V=.nilFunc|.cZ,V=>V=.nilIface|.fU,V=>Ev.iK V=true|.ptr b off,V=>∃x c,X.s b=some (.at x c)/\V=.pointer (some ⟨x,off,none⟩)|.da b i z o,V=>∃x c,X.s b=some (.at x c)/\V=.pointer (some ⟨x,i*z+o,none⟩)/\∀n,rowOf X.h.tr b=some n->i<n|.dO σ d o,V=>∃b off cs,V=.pointer (some ⟨b,off+o,none⟩)/\¬X.out b/\Cs X.w X.out σ d cs/\ta X.w b off cs|.hd b τ,V=>∃l,X.s b=some l/\Ev.iK V=true/\∀n,rowOf X.h.tr b=some n->V=l.slice n|.vw b τ off len,V=>∃l a c,X.s b=some l/\V=.slice a len c/\len<=c/\(0<len->∃x k,l=.at x k/\a=some ⟨x,off*τ.size,none⟩)/\(off=0->V=l.slice len) /\
   ∀n,rowOf X.h.tr b=some n->off+len<=n
 |.fz τ L,V=>Cs X.w X.out (.sl τ) L [V]|.func f x c,V=>∃xs cs,V=.func (.func f) (List.toArray xs) (List.toArray cs)/\bg X x xs/\bg X c cs|.eW τ z L,V=>Cs X.w X.out (.sl τ) L [V]/\∃a l c,V=.slice a l c/\a.isNone=z|.mp b,V=>∃x c,X.s b=some (.at x c)/\V=.map (some x)|.dk b,V=>∃l,X.s b=some l/\V=l.Jl|.rp b i,V=>∃x c m p,X.s b=some (.bN x c m)/\m[i]?=some p/\V=.pointer (some ⟨p.1,0,none⟩)|.ra b i,V=>∃x c m,X.s b=some (.bN x c m)/\i<m.length/\V=.pointer (some ⟨x,i,none⟩)|.agg l,V=>∃cs,V=.agg (List.toArray cs)/\bg X l cs|.bk l,V=>∃cs,V=.tuple (List.toArray cs)/\bg X l cs
termination_by structural x=>x
def bg(X:Cx):List AV->List Value->Prop
 |[],cs=>cs=[]|x::l,cs=>∃v r,cs=v::r/\Rel X x v/\bg X l r
termination_by structural x=>x
end
structure ez(X X':Cx):Prop where
 sg:∀i l,X.s i=some l->X'.s i=some l
 K:fw X.w X.out X'.w X'.out
 len:∀j l n,X.s j=some l->rowOf X'.h.tr j=some n->rowOf X.h.tr j=some n
theorem ez.refl(X:Cx):ez X X:=⟨fun _ _ h=>h,fun b o h q=>⟨q,h⟩,fun j l n _ h=>h⟩
mutual
theorem Rel.ext{X X':Cx}(E:ez X X'):∀{v:AV}{V:Value},Rel X v V->Rel X' v V
 |.bool _,_,h|.int _ _,_,h|.str _,_,h|.cg,_,h|.av,_,h|.cE,_,h|.cD,_,h|.cZ,_,h|.fU,_,h=>h|.ptr b off,V,⟨x,c,h1,h2⟩=>⟨x,c,E.sg _ _ h1,h2⟩|.da b i z o,V,⟨x,c,h1,h2,h3⟩=>⟨x,c,E.sg _ _ h1,h2,fun n q=>h3 n (E.len b _ n h1 q)⟩|.dO σ d o,V,⟨b,off,cs,h1,h2,h3,h4⟩=>by obtain⟨k1,k2⟩:=h4.aN E.K h2;exact⟨b,off,cs,h1,k2,h3.aN E.K,k1⟩
 |.hd b τ,V,⟨l,h1,hc,h2⟩=>⟨l,E.sg _ _ h1,hc,fun n q=>h2 n (E.len b _ n h1 q)⟩|.vw b τ off len,V,⟨l,a,c,h1,h2,h3,h4,h5,h6⟩=>⟨l,a,c,E.sg _ _ h1,h2,h3,h4,h5,fun n q=>h6 n (E.len b _ n h1 q)⟩|.fz τ L,V,h=>Cs.aN E.K (σ:=.sl τ) h|.func f x c,V,⟨xs,cs,h1,h2,h3⟩=>⟨xs,cs,h1,bg.ext E h2,bg.ext E h3⟩|.eW τ z L,V,h=>⟨Cs.aN E.K (σ:=.sl τ) h.1,h.2⟩|.mp b,V,⟨x,c,h1,h2⟩=>⟨x,c,E.sg _ _ h1,h2⟩|.dk b,V,⟨l,h1,h2⟩=>⟨l,E.sg _ _ h1,h2⟩|.rp b i,V,⟨x,c,m,p,h1,h2⟩=>⟨x,c,m,p,E.sg _ _ h1,h2⟩|.ra b i,V,⟨x,c,m,h1,h2⟩=>⟨x,c,m,E.sg _ _ h1,h2⟩|.agg l,V,⟨cs,h1,h2⟩=>⟨cs,h1,bg.ext E h2⟩|.bk l,V,⟨cs,h1,h2⟩=>⟨cs,h1,bg.ext E h2⟩
theorem bg.ext{X X':Cx}(E:ez X X'):∀{l:List AV}{cs:List Value},bg X l cs->bg X' l cs
 |[],_,h=>h|x::l,_,⟨v,r,e,h1,h2⟩=>⟨v,r,e,Rel.ext E h1,bg.ext E h2⟩
end
theorem bg.length{X:Cx}:∀{l:List AV}{cs:List Value},bg X l cs->cs.length=l.length
 |[],_,h=>by rw[show _=[]from h];rfl|x::l,_,⟨v,r,e,h1,h2⟩=>by rw[e,cx,cx,h2.length]
theorem bg.append{X:Cx}:∀{l m:List AV}{cs ds:List Value},bg X l cs->bg X m ds->bg X (l++m) (cs++ds)
 |[],m,_,ds,h,q=>by rw[show _=[]from h];simpa using q|x::l,m,_,ds,⟨v,r,e,h1,h2⟩,q=>⟨v,r++ds,by rw[e];rfl,h1,h2.append q⟩
theorem bg.take{X:Cx}:∀{l:List AV}{cs:List Value}(n:Nat),bg X l cs->bg X (l.take n) (cs.take n)
 |[],_,n,h=>by rw[show _=[]from h];simp[bg]|x::l,_,0,h=>by simp[bg]|x::l,_,n+1,⟨v,r,e,h1,h2⟩=>⟨v,r.take n,by rw[e];rfl,h1,h2.take n⟩
theorem bg.drop{X:Cx}:∀{l:List AV}{cs:List Value}(n:Nat),bg X l cs->bg X (l.drop n) (cs.drop n)
 |[],_,n,h=>by rw[show _=[]from h];simp[bg]|x::l,_,0,h=>by simpa using h|x::l,_,n+1,⟨v,r,e,h1,h2⟩=>by rw[e];simpa using h2.drop n
theorem bg.get{X:Cx}:∀{l:List AV}{cs:List Value}{i:Nat}{v:AV},bg X l cs->l[i]?=some v->∃V,cs[i]?=some V/\Rel X v V
 |[],_,i,v,h,q=>by simp at q|x::l,_,0,v,⟨u,r,e,h1,h2⟩,q=>by simp at q;subst q;exact⟨u,by rw[e];rfl,h1⟩|x::l,_,i+1,v,⟨u,r,e,h1,h2⟩,q=>by obtain⟨V,a,b⟩:=h2.get (by simpa using q);exact⟨V,by rw[e];simpa using a,b⟩
def bG(X:Cx)(l:Loc):aC->Prop
 |.cells vs ty=>∃b c cs,l=.at b c/\X.w.heap[b]?=some (.cells (List.toArray cs) ty (0,0))/\bg X vs cs|.arr τ L ty=>match l with|.nil=>L=[]|.at b c=>∃cs tail,X.w.heap[b]?=some (.cells (List.toArray (cs++tail)) ty (0,0))/\bc (Cs X.w X.out τ) L cs/\cs.length+tail.length=c*τ.size/\L.length<=c|.bN _ _ _=>False
 |.map κ σ M=>∃x c es clk,l=.at x c/\X.w.heap[x]?=some (.map es clk)/\fk X.w X.out κ σ es clk M|.dG L ty=>match l with|.nil=>L=[]|.bN b c m=>∃tail ty',X.w.heap[b]?=some (.cells (List.toArray (fZ m++tail)) ty' (0,0))/\m.length+tail.length=c/\dS X.w X.out ty m L/\(b::dZ m).Nodup|.at _ _=>False
 |.cR τ i L vs ty=>∃b c pre mid post tail,l=.at b c/\X.w.heap[b]?=some (.cells (List.toArray (pre++(mid++(post++tail)))) ty (0,0))/\bc (Cs X.w X.out τ) (L.take i) pre/\bg X vs mid/\bc (Cs X.w X.out τ) (L.drop (i+1)) post /\
   i<L.length/\mid.length=τ.size/\pre.length+(mid.length+(post.length+tail.length))=c*τ.size/\L.length<=c
theorem mM.ext{w w':World}{A A':Nat->Prop}(K:fw w A w' A'){p:Nat×Nat}{d:fC}{ty:TypeId}(h1:w'.heap[p.1]?=w.heap[p.1]?)(h2:w'.heap[p.2]?=w.heap[p.2]?)(h:mM w A p d ty):mM w' A' p d ty:=by obtain⟨a,es,clk,b,c⟩:=h;exact⟨h1.trans a,es,clk,h2.trans b,c.aN K⟩
theorem dS.ext{w w':World}{A A':Nat->Prop}(K:fw w A w' A'){ty:TypeId}:∀{m:List (Nat×Nat)}{L:List fC},(∀p∈m,w'.heap[p.1]?=w.heap[p.1]?/\w'.heap[p.2]?=w.heap[p.2]?)->dS w A ty m L->dS w' A' ty m L
 |[],L,_,h=>h|p::m,L,hb,h=>by cases L with|nil=>exact h|cons d L=>exact⟨h.1.ext K (hb p (by simp)).1 (hb p (by simp)).2,dS.ext K (fun q hq=>hb q (by simp[hq])) h.2⟩
theorem dS.there{w:World}{A:Nat->Prop}{ty:TypeId}:∀{m:List (Nat×Nat)}{L:List fC},dS w A ty m L->∀p∈m,(∃ob,w.heap[p.1]?=some ob)/\∃ob,w.heap[p.2]?=some ob
 |[],L,h,p,hp=>by cases hp
 |q::m,L,h,p,hp=>by
  cases L with
  |nil=>exact h.elim|cons d L=>
   rcases List.mem_cons.1 hp with rfl|hp
   .obtain⟨⟨a,es,clk,b,c⟩,_⟩:=h;exact⟨⟨_,a⟩,⟨_,b⟩⟩
   .exact dS.there h.2 p hp
theorem dS.len{w:World}{A:Nat->Prop}{ty:TypeId}:∀{m:List (Nat×Nat)}{L:List fC},dS w A ty m L->m.length=L.length
 |[],L,h=>by rw[show L=[]from h];rfl|p::m,L,h=>by cases L with|nil=>exact h.elim|cons d L=>rw[cx,cx,dS.len h.2]
theorem bG.ext{X X':Cx}(E:ez X X'){l:Loc}{o:aC}(hb:∀b,l.own b->X'.w.heap[b]?=X.w.heap[b]?)(h:bG X l o):bG X' l o:=by
 cases o with
 |cells vs ty=>obtain⟨b,c,cs,h1,h2,h3⟩:=h;exact⟨b,c,cs,h1,(hb b (by rw[h1];rfl)).trans h2,h3.ext E⟩
 |arr τ L ty=>
  cases l with
  |nil=>exact h|«at» b c=>obtain⟨cs,tail,h1,h2,h3,h4⟩:=h;exact⟨cs,tail,(hb b rfl).trans h1,h2.mono (fun x d q=>q.aN E.K),h3,h4⟩
  |bN b c m=>exact h.elim
 |map κ σ M=>obtain⟨x,c,es,clk,rfl,h2,h3⟩:=h;exact⟨x,c,es,clk,rfl,(hb _ rfl).trans h2,h3.aN E.K⟩
 |dG L ty=>cases l with|nil=>exact h|«at» b c=>exact h.elim|bN b c m=>obtain⟨tail,ty',h1,h2,h3,h4⟩:=h;exact⟨tail,ty',(hb b (.inl rfl)).trans h1,h2,h3.ext E.K (fun p hp=>⟨hb _ (.inr ⟨p,hp,.inl rfl⟩),hb _ (.inr ⟨p,hp,.inr rfl⟩)⟩),h4⟩
 |cR τ i L vs ty=>obtain⟨b,c,pre,mid,post,tail,rfl,h1,h2,h3,h4,h5⟩:=h;exact⟨b,c,pre,mid,post,tail,rfl,(hb b rfl).trans h1,h2.mono (fun x d q=>q.aN E.K),h3.ext E,h4.mono (fun x d q=>q.aN E.K),h5⟩
theorem bG.there{X:Cx}{l:Loc}{b:Nat}{o:aC}(h:bG X l o)(hb:l.own b):∃ob,X.w.heap[b]?=some ob:=by
 cases o with
 |cells vs ty=>obtain⟨b',c',cs,rfl,h2,h3⟩:=h;cases hb;exact⟨_,h2⟩
 |arr τ L ty=>
  cases l with
  |nil=>exact hb.elim|«at» b' c=>obtain⟨cs,tail,h1,h2,h3,h4⟩:=h;cases hb;exact⟨_,h1⟩
  |bN b c m=>exact h.elim
 |map κ σ M=>obtain⟨x,c,es,clk,rfl,h2,h3⟩:=h;cases hb;exact⟨_,h2⟩
 |dG L ty=>
  cases l with
  |nil=>exact hb.elim|«at» b c=>exact h.elim|bN b' c m=>
   obtain⟨tail,ty',h1,h2,h3,h4⟩:=h;rcases hb with rfl|⟨q,hq,rfl|rfl⟩
   .exact⟨_,h1⟩
   .exact(h3.there q hq).1
   .exact(h3.there q hq).2
 |cR τ i L vs ty=>obtain⟨b',c,pre,mid,post,tail,rfl,h1,_⟩:=h;cases hb;exact⟨_,h1⟩
structure ab(X:Cx):Prop where
 obj:∀i o l,X.h.tr.get i=some o->X.s i=some l->bG X l o
 inj:∀i j o o' l l' b,X.h.tr.get i=some o->X.h.tr.get j=some o'->X.s i=some l->X.s j=some l'->l.own b->l'.own b->i=j
 lt:∀i o,X.h.tr.get i=some o->i<X.h.next
 bZ:∀i l,X.s i=some l->i<X.h.next
 alt:∀b,X.A b->b<X.w.heap.size
 loc:∀i o l b,X.h.tr.get i=some o->X.s i=some l->l.own b->¬X.A b
theorem fi{α:Type}{a:Array α}{i:Nat}{x:α}(h:a[i]?=some x):i<a.size:=by
 rcases Nat.lt_or_ge i a.size with q|q
 .exact q
 .rw[Array.getElem?_eq_none q]at h;cases h
theorem ab.gG{X:Cx}(H:ab X){i:Nat}{o:aC}{l:Loc}{b:Nat}(hi:X.h.tr.get i=some o)(hs:X.s i=some l)(hb:l.own b):b<X.w.heap.size:=by obtain⟨ob,h⟩:=(H.obj i o _ hi hs).there hb;exact fi h
theorem ab.bound{X:Cx}(H:ab X){i:Nat}{o:aC}{b c:Nat}(hi:X.h.tr.get i=some o)(hs:X.s i=some (.at b c)):b<X.w.heap.size:=H.gG hi hs rfl
theorem ab.uG{X:Cx}(H:ab X){b:Nat}(h:X.bx b):b<X.w.heap.size:=by obtain⟨i,o,l,h1,h2,h3⟩:=h;exact H.gG h1 h2 h3
structure aH(X X':Cx):Prop where
 os:X'.w.os=X.w.os
 tape:X'.w.tape=X.w.tape
 output:X'.w.output=X.w.output
 size:X.w.heap.size<=X'.w.heap.size
 sg:∀i l,X.s i=some l->X'.s i=some l
 bZ:∀i l,i<X.h.next->X'.s i=some l->X.s i=some l
 next:X.h.next<=X'.h.next
 frame:∀b,b<X.w.heap.size->¬X.bx b->X'.w.heap[b]?=X.w.heap[b]?
 bx:∀b,X'.bx b->X.bx b\/X.w.heap.size<=b
 len:∀j n,j<X.h.next->rowOf X'.h.tr j=some n->rowOf X.h.tr j=some n
 same:∀i,i<X.h.next->X.s i=none->X'.h.tr.get i=X.h.tr.get i
 A:X'.A=X.A
theorem aH.refl(X:Cx):aH X X:=⟨rfl,rfl,rfl,Nat.le_refl _,fun _ _ h=>h,fun _ _ _ h=>h,Nat.le_refl _,fun _ _ _=>rfl,fun _ h=>.inl h,fun j n _ h=>h,fun _ _ _=>rfl,rfl⟩
theorem aH.trans{X X' X'':Cx}(a:aH X X')(b:aH X' X''):aH X X'' where
 os:=b.os.trans a.os
 tape:=b.tape.trans a.tape
 output:=b.output.trans a.output
 size:=Nat.le_trans a.size b.size
 sg i l h:=b.sg i l (a.sg i l h)
 bZ i l hi h:=a.bZ i l hi (b.bZ i l (Nat.lt_of_lt_of_le hi a.next) h)
 next:=Nat.le_trans a.next b.next
 frame k hk hn:=by
  refine(b.frame k (Nat.lt_of_lt_of_le hk a.size) fun q=>?_).trans (a.frame k hk hn);rcases a.bx k q with q|q
  .exact hn q
  .omega
 bx k h:=by
  rcases b.bx k h with q|q
  .exact a.bx k q
  .exact .inr (Nat.le_trans a.size q)
 len j n hj h:=a.len j n hj (b.len j n (Nat.lt_of_lt_of_le hj a.next) h)
 same i hi hs:=by
  have:X'.s i=none:=by cases q:X'.s i with|none=>rfl|some l=>rw[a.bZ i l hi q]at hs;cases hs
  exact(b.same i (Nat.lt_of_lt_of_le hi a.next) this).trans (a.same i hi hs)
 A:=b.A.trans a.A
theorem aH.keeps{X X':Cx}(E:aH X X'):fw X.w X.out X'.w X'.out:=by
 intro b o h q;have hb:=fi q;refine⟨(E.frame b hb fun r=>h (.inr r)).trans q,?_⟩;rintro(r|r)
 .rw[E.A]at r;exact h (.inl r)
 .rcases E.bx b r with r|r
  .exact h (.inr r)
  .omega
theorem aH.db{X X':Cx}(E:aH X X')(H:ab X):ez X X':=⟨E.sg,E.keeps,fun j l n h q=>E.len j n (H.bZ j l h) q⟩
theorem aH.drew(X:Cx)(d:Nat):aH X { X with w:={ X.w with drawn:=d } }:=⟨rfl,rfl,rfl,Nat.le_refl _,fun _ _ h=>h,fun _ _ _ h=>h,Nat.le_refl _,fun _ _ _=>rfl,fun _ h=>.inl h,fun j n _ h=>h,fun _ _ _=>rfl,rfl⟩
theorem ez.of_heap{X:Cx}{w:World}(h:w.heap=X.w.heap):ez X { X with w:=w }:=⟨fun _ _ h=>h,fun b o q r=>⟨by show w.heap[b]?=_;rw[h];exact r,q⟩,fun j l n _ q=>q⟩
theorem ab.drew{X:Cx}(H:ab X)(d:Nat):ab { X with w:={ X.w with drawn:=d } }:=⟨fun i o l h q=>(H.obj i o l h q).ext (ez.of_heap (X:=X) (w:={ X.w with drawn:=d }) rfl) (fun _ _=>rfl),H.inj,H.lt,H.bZ,H.alt,H.loc⟩
theorem aH.put{X:Cx}(H:ab X){i f:Nat}{o o':aC}{b c:Nat}{ob:Obj}{tr':Tr aC}(hi:X.h.tr.get i=some o)(hs:X.s i=some (.at b c))
  (hl:∀n,o'.row=some n->o.row=some n) (ht:Tr.set f X.h.tr i (some o')=some tr') :
  aH X ⟨X.s,⟨tr',X.h.next⟩,bJ X.w b ob,X.A⟩:=by
 have hg:=Tr.bz f X.h.tr i (some o') tr' ht;refine⟨rfl,rfl,rfl,by rw[fX];exact Nat.le_refl _,fun _ _ h=>h,fun _ _ _ h=>h,Nat.le_refl _,?_,?_,?_,?_,rfl⟩
 .intro k hk hn;show(bJ X.w b ob).heap[k]?=_;rw[dw,if_neg];rintro⟨rfl,_⟩;exact hn ⟨i,o,_,hi,hs,rfl⟩
 .rintro k ⟨j,o₁,c₁,h1,h2⟩;left;simp only[hg j]at h1;by_cases q:j=i
  .subst q;exact⟨j,o,c₁,hi,h2⟩
  .rw[if_neg q]at h1;exact⟨j,o₁,c₁,h1,h2⟩
 .intro j n hj h
  replace h:rowOf tr' j=some n:=h
  unfold rowOf at h;rw[hg j]at h;by_cases q:j=i
  .subst q;rw[if_pos rfl]at h;show rowOf X.h.tr j=some n;rw[fS hi];exact hl n h
  .rw[if_neg q]at h;exact h
 .intro j hj hn;show tr'.get j=_;rw[hg j,if_neg];rintro rfl;rw[hs]at hn;cases hn
theorem ab.put{X:Cx}(H:ab X){i f:Nat}{o o':aC}{b c:Nat}{ob:Obj}{tr':Tr aC}(hi:X.h.tr.get i=some o)(hs:X.s i=some (.at b c))
  (hl:∀n,o'.row=some n->o.row=some n) (ht:Tr.set f X.h.tr i (some o')=some tr')
  (ho:bG ⟨X.s,⟨tr',X.h.next⟩,bJ X.w b ob,X.A⟩ (.at b c) o'):ab ⟨X.s,⟨tr',X.h.next⟩,bJ X.w b ob,X.A⟩:=by
 have E:=aH.put (ob:=ob) H hi hs hl ht;have hg:=Tr.bz f X.h.tr i (some o') tr' ht;have alt:∀j o₁,tr'.get j=some o₁->∃o₂,X.h.tr.get j=some o₂:=by
  intro j o₁ hj;rw[hg j]at hj;by_cases q:j=i
  .subst q;exact⟨o,hi⟩
  .rw[if_neg q]at hj;exact⟨_,hj⟩
 refine⟨?_,?_,?_,H.bZ,by rw[show(bJ X.w b ob).heap.size=X.w.heap.size from fX _ _ _];exact H.alt,?_⟩
 .intro j o₁ l hj hl';simp only[hg j]at hj;by_cases q:j=i
  .subst q;simp only[if_true,aX]at hj;subst hj;have:l=.at b c:=by have:=hl'.symm.trans hs;simpa using this
   subst this;exact ho
  .rw[if_neg q]at hj;refine(H.obj j o₁ l hj hl').ext (E.db H) ?_;intro b' hb';show(bJ X.w b ob).heap[b']?=_;rw[dw,if_neg];rintro⟨rfl,_⟩;exact q (H.inj j i o₁ o l _ b' hj hi hl' hs hb' rfl)
 .intro j k o₁ o₂ l₁ l₂ x hj hk e1 e2;obtain⟨p,hp⟩:=alt j o₁ hj;obtain⟨q,hq⟩:=alt k o₂ hk;exact H.inj j k p q l₁ l₂ x hp hq e1 e2
 .intro j o₁ hj;obtain⟨p,hp⟩:=alt j o₁ hj;exact H.lt j p hp
 .intro j o₁ l₁ x hj e;obtain⟨p,hp⟩:=alt j o₁ hj;exact H.loc j p l₁ x hp e
def aT(s:Sg)(i:Nat)(x:Loc):Sg:=fun j=>if j=i then some x else s j
theorem cd(s:Sg)(i:Nat)(x:Loc):aT s i x i=some x:=by simp[aT]
theorem cp(s:Sg)(i:Nat)(x:Loc){j:Nat}(h:j≠i):aT s i x j=s j:=by simp[aT,h]
theorem ez.real{X:Cx}(H:ab X){i:Nat}{c:Nat}{ob:Obj}(hs:X.s i=none):ez X ⟨aT X.s i (.at X.w.heap.size c),X.h,{ X.w with heap:=X.w.heap.push ob },X.A⟩:=by
 have hne:∀j l,X.s j=some l->j≠i:=by rintro j l h rfl;rw[hs]at h;cases h
 refine⟨fun j l h=>by show aT X.s i _ j=_;rw[cp _ _ _ (hne j l h)];exact h,?_,fun j l n _ q=>q⟩;intro b o h q;have hb:=fi q;refine⟨by show(X.w.heap.push ob)[b]?=_;rw[Array.getElem?_push,if_neg (by omega)];exact q,?_⟩;rintro(r|⟨j,o₁,c₁,h1,h2⟩)
 .exact h (.inl r)
 .obtain⟨h2,h3⟩:=h2
  replace h2:aT X.s i (.at X.w.heap.size c) j=some c₁:=h2
  by_cases q:j=i
  .subst q;rw[cd]at h2;cases h2;have:b=X.w.heap.size:=h3;omega
  .rw[cp _ _ _ q]at h2;exact h (.inr ⟨j,o₁,c₁,h1,h2,h3⟩)
theorem ab.real{X:Cx}(H:ab X){i:Nat}{c:Nat}{ob:Obj}(hs:X.s i=none)(hi:i<X.h.next)
  (ho:∀o,X.h.tr.get i=some o->bG ⟨aT X.s i (.at X.w.heap.size c),X.h,{ X.w with heap:=X.w.heap.push ob },X.A⟩ (.at X.w.heap.size c) o) :
  ab ⟨aT X.s i (.at X.w.heap.size c),X.h,{ X.w with heap:=X.w.heap.push ob },X.A⟩:=by
 have E:=ez.real (c:=c) (ob:=ob) H hs;refine⟨?_,?_,H.lt,?_,fun b hb=>by have:=H.alt b hb;simp;omega,?_⟩
 .intro j o l hj hl
  replace hl:aT X.s i (.at X.w.heap.size c) j=some l:=hl
  by_cases q:j=i
  .subst q;rw[cd]at hl;simp only[aX]at hl;subst hl;exact ho o hj
  .rw[cp _ _ _ q]at hl;refine(H.obj j o l hj hl).ext E ?_;intro b hb;have:=H.gG hj hl hb;show(X.w.heap.push ob)[b]?=_;rw[Array.getElem?_push,if_neg (by omega)]
 .intro j k o o' c₁ c₂ b hj hk e1 e2 f1 f2
  replace e1:aT X.s i (.at X.w.heap.size c) j=some c₁:=e1
  replace e2:aT X.s i (.at X.w.heap.size c) k=some c₂:=e2
  by_cases q:j=i
  .by_cases r:k=i
   .rw[q,r]
   .rw[cp _ _ _ r]at e2;subst q;rw[cd]at e1;cases e1;have:=H.gG hk e2 f2;have:b=X.w.heap.size:=f1;omega
  .rw[cp _ _ _ q]at e1;by_cases r:k=i
   .subst r;rw[cd]at e2;cases e2;have:=H.gG hj e1 f1;have:b=X.w.heap.size:=f2;omega
   .rw[cp _ _ _ r]at e2;exact H.inj j k o o' c₁ c₂ b hj hk e1 e2 f1 f2
 .intro j l hl
  replace hl:aT X.s i (.at X.w.heap.size c) j=some l:=hl
  by_cases q:j=i
  .subst q;exact hi
  .rw[cp _ _ _ q]at hl;exact H.bZ j l hl
 .intro j o c₁ b hj e f
  replace e:aT X.s i (.at X.w.heap.size c) j=some c₁:=e
  by_cases q:j=i
  .subst q;rw[cd]at e;cases e;intro ha;have:=H.alt b ha;have:b=X.w.heap.size:=f;omega
  .rw[cp _ _ _ q]at e;exact H.loc j o c₁ b hj e f
theorem aH.more{X:Cx}(H:ab X){f:Nat}{o:aC}{tr':Tr aC}(ht:Tr.set f X.h.tr X.h.next (some o)=some tr'):aH X ⟨X.s,⟨tr',X.h.next+1⟩,X.w,X.A⟩/\ab ⟨X.s,⟨tr',X.h.next+1⟩,X.w,X.A⟩:=by
 have hg:=Tr.bz f X.h.tr X.h.next (some o) tr' ht;have hn:X.s X.h.next=none:=by cases q:X.s X.h.next with|none=>rfl|some l=>have:=H.bZ _ _ q;omega
 have old:∀j l,X.s j=some l->tr'.get j=X.h.tr.get j:=by intro j l h;rw[hg j,if_neg];rintro rfl;rw[hn]at h;cases h
 have E:aH X ⟨X.s,⟨tr',X.h.next+1⟩,X.w,X.A⟩:=by
  refine⟨rfl,rfl,rfl,Nat.le_refl _,fun _ _ h=>h,fun _ _ _ h=>h,by simp,fun _ _ _=>rfl,?_,?_,?_,rfl⟩
  .rintro b ⟨i,o₁,c,h1,h2,h3⟩;exact .inl ⟨i,o₁,c,by rw[<-old i _ h2];exact h1,h2,h3⟩
  .intro j n hj h
   replace h:rowOf tr' j=some n:=h
   unfold rowOf at h;rw[hg j,if_neg (by omega)]at h;exact h
  .intro j hj _;show tr'.get j=_;rw[hg j,if_neg (by omega)]
 refine⟨E,⟨?_,?_,?_,?_,H.alt,?_⟩⟩
 .intro j o₁ l hj hl
  replace hj:tr'.get j=some o₁:=hj
  rw[old j l hl]at hj;exact(H.obj j o₁ l hj hl).ext (E.db H) (fun _ _=>rfl)
 .intro j k o₁ o₂ b c₁ c₂ hj hk e1 e2
  replace hj:tr'.get j=some o₁:=hj
  replace hk:tr'.get k=some o₂:=hk
  rw[old j _ e1]at hj;rw[old k _ e2]at hk;exact H.inj j k o₁ o₂ b c₁ c₂ hj hk e1 e2
 .intro j o₁ hj;simp only[hg j]at hj;by_cases q:j=X.h.next
  .simp[q]
  .rw[if_neg q]at hj;have:=H.lt j o₁ hj;simp only;omega
 .intro j l h;have:=H.bZ j l h;simp only;omega
 .intro j o₁ b c hj e
  replace hj:tr'.get j=some o₁:=hj
  rw[old j _ e]at hj;exact H.loc j o₁ b c hj e
theorem Lr{X:Cx}(H:ab X){f c:Nat}{o:aC}{ob:Obj}{tr':Tr aC}(ht:Tr.set f X.h.tr X.h.next (some o)=some tr') :
  aH X ⟨aT X.s X.h.next (.at X.w.heap.size c),⟨tr',X.h.next+1⟩,{ X.w with heap:=X.w.heap.push ob },X.A⟩:=by
 obtain⟨E,H'⟩:=aH.more H ht;have hn:X.s X.h.next=none:=by cases q:X.s X.h.next with|none=>rfl|some l=>have:=H.bZ _ _ q;omega
 refine⟨rfl,rfl,rfl,by simp,?_,?_,by simp,?_,?_,E.len,E.same,rfl⟩
 .intro i l h;have:=H.bZ i l h;show aT X.s _ _ i=_;rw[cp _ _ _ (by omega)];exact h
 .intro i l hi h
  replace h:aT X.s X.h.next _ i=some l:=h
  rw[cp _ _ _ (by omega)]at h;exact h
 .intro b hb _;show(X.w.heap.push ob)[b]?=_;rw[Array.getElem?_push,if_neg (by omega)]
 .rintro b ⟨i,o₁,c₁,h1,h2,h3⟩
  replace h2:aT X.s X.h.next (.at X.w.heap.size c) i=some c₁:=h2
  by_cases q:i=X.h.next
  .subst q;rw[cd]at h2;cases h2;have:b=X.w.heap.size:=h3;right;omega
  .rw[cp _ _ _ q]at h2;exact E.bx b ⟨i,o₁,c₁,h1,h2,h3⟩
theorem ab.new{X:Cx}(H:ab X){f c:Nat}{o:aC}{ob:Obj}{tr':Tr aC}(ht:Tr.set f X.h.tr X.h.next (some o)=some tr')
  (ho:bG ⟨aT X.s X.h.next (.at X.w.heap.size c),⟨tr',X.h.next+1⟩,{ X.w with heap:=X.w.heap.push ob },X.A⟩ (.at X.w.heap.size c) o) :
  ab ⟨aT X.s X.h.next (.at X.w.heap.size c),⟨tr',X.h.next+1⟩,{ X.w with heap:=X.w.heap.push ob },X.A⟩:=by
 obtain⟨E,H'⟩:=aH.more H ht;have hn:X.s X.h.next=none:=by cases q:X.s X.h.next with|none=>rfl|some l=>have:=H.bZ _ _ q;omega
 have hg:=Tr.bz f X.h.tr X.h.next (some o) tr' ht;refine ab.real H' hn (by simp) ?_;intro o₁ h₁
 replace h₁:tr'.get X.h.next=some o₁:=h₁
 rw[hg,if_pos rfl]at h₁;simp only[aX]at h₁;subst h₁;exact ho
theorem ab.JG{X:Cx}(H:ab X){f:Nat}{vo:aC}{tr':Tr aC}(ht:Tr.set f X.h.tr X.h.next (some vo)=some tr')(hv:∀X',bG X' .nil vo) :
  aH X ⟨aT X.s X.h.next .nil,⟨tr',X.h.next+1⟩,X.w,X.A⟩/\ab ⟨aT X.s X.h.next .nil,⟨tr',X.h.next+1⟩,X.w,X.A⟩:=by
 obtain⟨E,H'⟩:=aH.more H ht;have hn:X.s X.h.next=none:=by cases q:X.s X.h.next with|none=>rfl|some l=>have:=H.bZ _ _ q;omega
 have hg:=Tr.bz f X.h.tr X.h.next (some vo) tr' ht;have ne:∀j l b,aT X.s X.h.next .nil j=some l->l.own b->X.s j=some l:=by
  intro j l b h hb;by_cases q:j=X.h.next
  .subst q;rw[cd]at h;cases h;exact hb.elim
  .rwa [cp _ _ _ q]at h
 have S:aH X ⟨aT X.s X.h.next .nil,⟨tr',X.h.next+1⟩,X.w,X.A⟩:=by
  refine⟨rfl,rfl,rfl,Nat.le_refl _,?_,?_,by simp,fun _ _ _=>rfl,?_,E.len,E.same,rfl⟩
  .intro i l h;have:=H.bZ i l h;show aT X.s _ _ i=_;rw[cp _ _ _ (by omega)];exact h
  .intro i l hi h
   replace h:aT X.s X.h.next _ i=some l:=h
   rw[cp _ _ _ (by omega)]at h;exact h
  .rintro b ⟨i,o₁,c₁,h1,h2,h3⟩;exact E.bx b ⟨i,o₁,c₁,h1,ne _ _ _ h2 h3,h3⟩
 refine⟨S,⟨?_,?_,H'.lt,?_,H.alt,?_⟩⟩
 .intro j o l hj hl
  replace hl:aT X.s X.h.next .nil j=some l:=hl
  replace hj:tr'.get j=some o:=hj
  by_cases q:j=X.h.next
  .subst q;rw[cd]at hl;simp only[aX]at hl;subst hl;rw[hg,if_pos rfl]at hj;simp only[aX]at hj;subst hj;exact hv _
  .rw[cp _ _ _ q]at hl;rw[hg,if_neg q]at hj;exact(H.obj j o l hj hl).ext (S.db H) (fun _ _=>rfl)
 .intro j k o o' c₁ c₂ b hj hk e1 e2 f1 f2;exact H'.inj j k o o' c₁ c₂ b hj hk (ne _ _ _ e1 f1) (ne _ _ _ e2 f2) f1 f2
 .intro j l hl
  replace hl:aT X.s X.h.next .nil j=some l:=hl
  by_cases q:j=X.h.next
  .simp[q]
  .rw[cp _ _ _ q]at hl;have:=H.bZ j l hl;simp only;omega
 .intro j o l b hj e f;exact H'.loc j o l b hj (ne _ _ _ e f) f
theorem ab.void{X:Cx}(H:ab X){f:Nat}{τ:Sh}{ty:TypeId}{tr':Tr aC}(ht:Tr.set f X.h.tr X.h.next (some (.arr τ [] ty))=some tr') :
  aH X ⟨aT X.s X.h.next .nil,⟨tr',X.h.next+1⟩,X.w,X.A⟩/\ab ⟨aT X.s X.h.next .nil,⟨tr',X.h.next+1⟩,X.w,X.A⟩:=H.JG ht fun _=>rfl
theorem ab.kill{X:Cx}(H:ab X){i f:Nat}{l:Loc}{tr':Tr aC}(hs:X.s i=some l)(ht:Tr.set f X.h.tr i none=some tr') :
  aH X ⟨X.s,⟨tr',X.h.next⟩,X.w,X.A⟩/\ab ⟨X.s,⟨tr',X.h.next⟩,X.w,X.A⟩:=by
 have hg:=Tr.bz f X.h.tr i none tr' ht;have sub:∀j o,tr'.get j=some o->X.h.tr.get j=some o/\j≠i:=by
  intro j o hj;rw[hg j]at hj;by_cases q:j=i
  .rw[if_pos q]at hj;cases hj
  .rw[if_neg q]at hj;exact⟨hj,q⟩
 have E:aH X ⟨X.s,⟨tr',X.h.next⟩,X.w,X.A⟩:=by
  refine⟨rfl,rfl,rfl,Nat.le_refl _,fun _ _ h=>h,fun _ _ _ h=>h,Nat.le_refl _,fun _ _ _=>rfl,?_,?_,?_,rfl⟩
  .rintro b ⟨j,o,c,h1,h2⟩;exact .inl ⟨j,o,c,(sub j o h1).1,h2⟩
  .intro j n hj h;obtain⟨o,h1,h2⟩:=gO h;show rowOf X.h.tr j=some n;rw[fS (sub j o h1).1];exact h2
  .intro j hj hn;show tr'.get j=_;rw[hg j,if_neg];rintro rfl;rw[hs]at hn;cases hn
 exact⟨E,⟨fun j o l hj hl=>(H.obj j o l (sub j o hj).1 hl).ext (E.db H) (fun _ _=>rfl),fun j k o o' l l' b hj hk=>H.inj j k o o' l l' b (sub j o hj).1 (sub k o' hk).1,
  fun j o hj=>H.lt j o (sub j o hj).1,H.bZ,H.alt,fun j o l b hj=>H.loc j o l b (sub j o hj).1⟩⟩
theorem ab.freeze{X:Cx}(H:ab X){i f:Nat}{l:Loc}{τ:Sh}{L:List τ.T}{ty:TypeId}{tr':Tr aC}(hi:X.h.tr.get i=some (.arr τ L ty))(hs:X.s i=some l)(ht:Tr.set f X.h.tr i none=some tr') :
  Cs X.w (Cx.out ⟨X.s,⟨tr',X.h.next⟩,X.w,X.A⟩) (.sl τ) L [l.slice L.length]:=by
 obtain⟨E,H'⟩:=H.kill hs ht;have hg:=Tr.bz f X.h.tr i none tr' ht;have ho:=H.obj i _ l hi hs;cases l with
 |nil=>have:L=[]:=ho;subst this;exact⟨none,0,0,rfl,rfl,Nat.le_refl _,fun h=>absurd rfl h⟩|«at» b c=>
  obtain⟨cs,tail,h1,h2,h3,h4⟩:=ho;refine⟨some ⟨b,0,none⟩,L.length,c,rfl,rfl,h4,fun _=>⟨b,0,cs,rfl,?_,h2.mono (fun x d q=>q.aN E.keeps),⟨_,ty,_,h1,?_⟩⟩⟩
  .rintro(q|⟨j,o,c',q1,q2,q3⟩)
   .exact H.loc i _ _ b hi hs rfl q
   .replace q1:tr'.get j=some o:=q1
    rw[hg j]at q1;by_cases r:j=i
    .rw[if_pos r]at q1;cases q1
    .rw[if_neg r]at q1;exact r (H.inj j i o _ c' _ b q1 hi q2 hs q3 rfl)
  .intro j u hu;rw[Nat.zero_add];simp only[List.getElem?_toArray];rw[List.getElem?_append_left]
   .exact hu
   .rcases Nat.lt_or_ge j cs.length with q|q
    .exact q
    .rw[List.getElem?_eq_none q]at hu;cases hu
 |bN b c m=>exact ho.elim
end Go.Proofs.YtdcnjfbffckblaaGreat.V
end
section
namespace Go.Proofs.YtdcnjfbffckblaaGreat.Ev
open Go Go.RowKit
def FT:Nat:=30
theorem ab.cells{s:Sg}{h:Hp}{w:World}(H:ab s h w){b:Nat}{l:List AV}{ty:TypeId}{op:Option Nat}(hb:h.tr.get b=some (.cells l ty op)) :
  ∃tail:List Value,w.heap[(s b).1]?=some (.cells (aD s l++tail).toArray ty (0,0))/\(op=none->tail=[])/\(∀sz,op=some sz->(l.length+tail.length=(s b).2*sz/\(s b).2<=9223372036854775807)):=by
 have:=H.obj b _ hb;cases op with
 |none=>exact⟨[],by simpa[bG]using this,fun _=>rfl,(fun _ h=>by cases h)⟩
 |some sz=>obtain⟨tail,h1,h2⟩:=this;exact⟨tail,h1,(fun h=>by cases h),(fun z hz=>by cases hz;exact h2)⟩
theorem bG.Uc{s:Sg}{b:Nat}{l:List AV}{ty:TypeId}{op:Option Nat}{tail:List Value}(h1:op=none->tail=[])(h2:∀sz,op=some sz->(l.length+tail.length=(s b).2*sz/\(s b).2<=9223372036854775807)) :
  bG s b (.cells l ty op) (some (.cells (aD s l++tail).toArray ty (0,0))):=by
 cases op with|none=>simp[bG,h1 rfl]|some sz=>exact⟨tail,rfl,h2 sz rfl⟩
def jV(P:Program)(t:TypeId):Option Bool:=match P.underlying t with|some (.struct _)=>some true|some (.array _ _)=>some true|some _=>some false|none=>none
theorem iI{P:Program}{t:TypeId}{b:Bool}(h:jV P t=some b)(w:World):(isAgg t).run P w=.ok b w:=by unfold jV at h;cases hu:P.underlying t with|none=>simp[hu]at h|some d=>cases d<;>simp[hu]at h<;>subst h<;>simp[isAgg,run_underlying hu]
def iM(P:Program)(h:Hp)(t:TypeId)(u:AV):Option AV:=match u with
 |.ptr b off=>match h.tr.get b with
  |some (.cells l _ _)=>match jV P t with
   |some true=>match bY P t with
    |some n=>match Nat.ble (off+n) l.length with|true=>some (.agg (takeN n (c9 off l)))|false=>none
    |none=>none
   |some false=>nth l off|none=>none
  |_=>none
 |_=>none
theorem sK{P:Program}{h:Hp}{t:TypeId}{u v:AV}(e:iM P h t u=some v){s:Sg}{w:World}(H:ab s h w) :
  (Instr.loadAt t (ae s u)).run P w=.ok (ae s v) w:=by
 unfold iM at e;split at e<;>try cases e
 rename_i b off;split at e<;>try cases e
 rename_i l ty op hb;obtain⟨tail,hw,_,_⟩:=H.cells hb;split at e
 .rename_i ha;split at e<;>try cases e
  rename_i n hn;split at e<;>try cases e
  rename_i hl;have hl:=Nat.le_of_ble_eq_true hl;have hL:=dY s l;simp only[Instr.loadAt,ae,Instr.sureAddr,Sem.run_bind,Sem.run_pure,Result.andThen_ok,loadVar,iI ha,if_true,run_sizeOf hn,loadCells];rw[run_loadCells hw n 0 #[] (by simp;omega)];simp only[Result.andThen_ok,Sem.run_pure];congr 3;simp only[Nat.add_zero,dH,dQ,mh,nQ];simp only[List.toList_toArray,List.nil_append];rw[List.drop_append_of_le_length (by omega),List.take_append_of_le_length (by simp;omega)]
 .rename_i ha;rw[bI]at e;have hlt:off<l.length:=by
   rcases Nat.lt_or_ge off l.length with q|q
   .exact q
   .rw[List.getElem?_eq_none q]at e;cases e
  have hc:w.cell? ⟨(s b).1,off,none⟩=some (ae s v):=by have hL:=dY s l;simp only[World.cell?,hw,Option.isSome_none,Bool.false_eq_true,if_false];simp only[List.getElem?_toArray];rw[List.getElem?_append_left (by omega),yD,e];rfl
  simp[Instr.loadAt,ae,Instr.sureAddr,loadVar,iI ha,run_load,hc]
 .cases e
theorem ln{n:Nat}{a b:List AV}(ha:cf n a=true)(hb:cf n b=true):cf n (a++b)=true:=by
 rw[sY]at *
 intro x hx;rcases List.mem_append.1 hx with q|q
 .exact ha x q
 .exact hb x q
theorem yy{n k:Nat}{a:List AV}(ha:cf n a=true):cf n (takeN k a)=true:=by rw[dH];rw[sY]at *;exact fun x hx=>ha x (List.mem_of_mem_take hx)
theorem GD{n k:Nat}{a:List AV}(ha:cf n a=true):cf n (c9 k a)=true:=by rw[dQ];rw[sY]at *;exact fun x hx=>ha x (List.mem_of_mem_drop hx)
theorem nO{n:Nat}{v:AV}(h:ws n v=true):cf n (bK v)=true:=by cases v<;>simp only[bK,cf,h]<;>exact h
def lD(h:Hp)(b off:Nat)(vs:List AV):Option Hp:=match h.tr.get b with
 |some (.cells l ty op)=>match Nat.ble (off+vs.length) l.length,gU vs with
  |true,true=>match Tr.set FT h.tr b (some (.cells (takeN off l++(vs++c9 (off+vs.length) l)) ty op))with|some tr=>some ⟨tr,h.next⟩|none=>none
  |_,_=>none
 |_=>none
theorem sG{P:Program}{h h':Hp}{b off:Nat}{vs:List AV}(e:lD h b off vs=some h'){s:Sg}{w:World}(H:ab s h w)(hv:cf h.next vs=true) :
  ∃w',(storeCells ⟨(s b).1,off,none⟩ (aD s vs)).run P w=.ok () w'/\ab s h' w'/\Ext s h w s h' w':=by
 unfold lD at e;split at e<;>try cases e
 rename_i l ty op hb;split at e<;>try cases e
 rename_i hl ho;split at e<;>try cases e
 rename_i tr ht;have hl:=Nat.le_of_ble_eq_true hl;obtain⟨tail,hw,h1,h2⟩:=H.cells hb;have hL:=dY s l;have hV:=dY s vs;obtain⟨c',hc',hr⟩:=gX (P:=P) (off:=off) (aD s vs) 0 w _ hw (by simp;omega) (by intro v hv;rw[nT]at hv;obtain⟨x,hx,rfl⟩:=List.mem_map.1 hv;exact KF ((KG vs).1 ho x hx));have hc:c'=(aD s (takeN off l++(vs++c9 (off+vs.length) l))++tail).toArray:=by apply Array.toList_inj.1;rw[hc'];simp only[Nat.add_zero,dH,dQ,nI,mh,nQ,hV];rw[List.take_append_of_le_length (by omega),List.drop_append_of_le_length (by omega)];simp
 subst hc;have hlen:(takeN off l++(vs++c9 (off+vs.length) l)).length=l.length:=by simp[dH,dQ];omega
 have:=H.put (ob:=.cells (aD s (takeN off l++(vs++c9 (off+vs.length) l))++tail).toArray ty (0,0)) hb rfl
  (bG.Uc (ty:=ty) (op:=op) h1 (by rw[hlen];exact h2))
  (by have:=H.eX _ _ hb;simp only[gp]at this |-;exact ln (yy this) (ln hv (GD this))) ht
 exact⟨_,hr,this.1,this.2⟩
def A8(P:Program)(h:Hp)(t:TypeId)(u v:AV):Option Hp:=match u with
 |.ptr b off=>match bY P t with
  |some n=>match Nat.beq (bK v).length n with|true=>lD h b off (bK v)|false=>none
  |none=>none
 |_=>none
theorem Ww{P:Program}{h h':Hp}{t:TypeId}{u v:AV}(e:A8 P h t u v=some h'){s:Sg}{w:World}(H:ab s h w)(hv:ws h.next v=true) :
  ∃w',(Instr.storeAt t (ae s u) (ae s v)).run P w=.ok () w'/\ab s h' w'/\Ext s h w s h' w':=by
 unfold A8 at e;split at e<;>try cases e
 rename_i b off;split at e<;>try cases e
 rename_i n hn;split at e<;>try cases e
 rename_i hl;have hl:=aA hl;obtain⟨w',hr,hH,hE⟩:=sG (P:=P) e H (nO hv);refine⟨w',?_,hH,hE⟩;have hsz:(ae s v).cells.size=n:=by rw[<-Array.length_toList,iH,dY,hl]
 simp only[Instr.storeAt,ae,Instr.sureAddr,Sem.run_bind,Sem.run_pure,Result.andThen_ok,storeVar,run_sizeOf hn];rw[if_neg (by simp[hsz])];simp only[Sem.run_pure,Result.andThen_ok,iH];exact hr
def rep:Nat->List AV->List AV
 |0,_=>[]|n+1,z=>z++rep n z
theorem yn(n:Nat)(z:List AV):(rep n z).length=n*z.length:=by induction n with|zero=>simp[rep]|succ n ih=>simp[rep,ih,Nat.add_mul,Nat.add_comm]
theorem Ln(s:Sg)(z:List AV):∀(n i:Nat),i<n*z.length->(aD s (rep n z))[i]?=(aD s z)[i % z.length]?
 |0,i,h=>by omega|n+1,i,h=>by
  have hz:=dY s z;simp only[rep,nI];rcases Nat.lt_or_ge i z.length with q|q
  .rw[List.getElem?_append_left (by omega),Nat.mod_eq_of_lt q]
  .rw[List.getElem?_append_right (by omega),hz,Ln s z n (i-z.length) (by rw[Nat.add_mul]at h;omega)];congr 1;rw[<-Nat.mod_eq_sub_mod q]
theorem GG(s:Sg)(z:List AV)(n k:Nat)(zero:Array Value)(hz:zero.toList=aD s z)(hk:k=n*z.length) :
  ((Array.range k).map (zero[· % zero.size]!))=(aD s (rep n z)).toArray:=by
 have hs:zero.size=z.length:=by rw[<-Array.length_toList,hz,dY]
 apply Array.toList_inj.1;apply List.ext_getElem?;intro i;simp only[Array.toList_map,Array.toList_range,bT,List.toList_toArray];rcases Nat.lt_or_ge i k with q|q
 .have hz0:0<z.length:=by
   rcases Nat.eq_zero_or_pos z.length with r|r
   .rw[r]at hk;omega
   .exact r
  rw[List.getElem?_range q,Option.map_some,Ln s z n i (by omega),<-hz,hs];have hm:=Nat.mod_lt i hz0;simp[hs,hm]
 .rw[List.getElem?_eq_none (by simpa using q),List.getElem?_eq_none (by rw[dY,yn];omega)];rfl
theorem AM{n:Nat}{z:List AV}(h:cf n z=true)(k:Nat):cf n (rep k z)=true:=by induction k with|zero=>simp[rep,cf]|succ k ih=>exact ln h ih
theorem La{x:Value}{v:AV}(h:eI x=some v)(n:Nat):ws n v=true:=by
 cases x with
 |pointer a=>cases a<;>simp[eI]at h;subst h;rfl
 |map a=>cases a<;>simp[eI]at h;subst h;rfl
 |slice a l c=>
  simp only[eI]at h;split at h
  .simp at h;subst h;rfl
  .cases h
 |_=>simp[eI]at h<;>subst h<;>rfl
theorem AK:∀{x:List Value}{l:List AV},ek x=some l->∀n,cf n l=true
 |[],l,h,n=>by simp[ek]at h;subst h;rfl|x::xs,l,h,n=>by
  simp only[ek]at h;cases hv:eI x<;>simp only[hv]at h
  .cases h
  cases hl:ek xs<;>simp only[hl]at h
  .cases h
  simp at h;subst h;simp[cf,La hv,AK hl]
theorem Be{x:Value}{v:AV}(h:back x=some v)(n:Nat):ws n v=true:=by
 cases x with
 |agg l=>
  simp only[back]at h;cases hl:ek l.toList<;>simp only[hl]at h
  .cases h
  simp at h;subst h;simp[ws,AK hl]
 |tuple l=>
  simp only[back]at h;cases hl:ek l.toList<;>simp only[hl]at h
  .cases h
  simp at h;subst h;simp[ws,AK hl]
 |_=>simp only[back]at h;exact La h n
theorem yd{P:Program}{t:TypeId}{v:AV}(h:dx P t=some v)(n:Nat):ws n v=true:=by
 unfold dx at h;split at h<;>try cases h
 split at h<;>try cases h
 exact Be h n
def Ag:AV->Option Nat
 |.int _ (.ofNat n)=>some n|_=>none
theorem WL{v:AV}{n:Nat}(h:Ag v=some n)(s:Sg):∃k,ae s v=.int k (n:Int):=by
 unfold Ag at h;split at h<;>try cases h
 exact⟨_,rfl⟩
theorem lp{P:Program}{k:IntKind}{n y:Nat}{code:BoundsCode}(h:n<=y)(w:World):(Instr.sliceBound (.int k (n:Int)) y code).run P w=.ok n w:=by simp[Instr.sliceBound,asIntOf,h]
def cU(T:Tr AV)(x:Option Operand)(d:Nat):Option Nat:=match x with|none=>some d|some x=>match aM T x with|some v=>Ag v|none=>none
theorem mg{P:Program}{T:Tr AV}{s:Sg}{a:Act}{lo hi mx:Option Operand}{len cap l h m:Nat}(hr:∀x,(lo=some x\/hi=some x\/mx=some x)->∀u,aM T x=some u->a.eval x=ae s u)
  (h1:cU T lo 0=some l) (h2:cU T hi len=some h) (h3:cU T mx cap=some m) (q1:l<=h) (q2:h<=m) (q3:m<=cap) (q4:hi=none->mx=none) (w:World) :
  (Instr.sliceBounds true len cap (lo.map a.eval) (hi.map a.eval) (mx.map a.eval)).run P w=.ok (l,h,m) w:=by
 have val:∀x d r,(lo=some x\/hi=some x\/mx=some x)->cU T (some x) d=some r->∃k,a.eval x=.int k (r:Int):=by
  intro x d r hx he;unfold cU at he;simp only[]at he;split at he<;>try cases he
  rename_i v hv;obtain⟨k,hk⟩:=WL he s;exact⟨k,(hr x hx v hv).trans hk⟩
 have hm:mx=none->m=cap:=by intro q;subst q;simpa[cU]using h3.symm
 have hh:hi=none->h=len:=by intro q;subst q;simpa[cU]using h2.symm
 have hl:lo=none->l=0:=by intro q;subst q;simpa[cU]using h1.symm
 unfold Instr.sliceBounds;cases mx with
 |none=>
  have hm:=hm rfl;subst hm;cases hi with
  |none=>have hh:=hh rfl;subst hh;cases lo with|none=>have:=hl rfl;subst this;simp|some x=>obtain⟨k,e⟩:=val x 0 l (.inl rfl) h1;simp[e,lp q1]
  |some y=>obtain⟨k',e'⟩:=val y len h (.inr (.inl rfl)) h2;cases lo with|none=>have:=hl rfl;subst this;simp[e',lp q2]|some x=>obtain⟨k,e⟩:=val x 0 l (.inl rfl) h1;simp[e,e',lp q1,lp q2]
 |some z=>
  obtain⟨k'',e''⟩:=val z cap m (.inr (.inr rfl)) h3;cases hi with
  |none=>cases q4 rfl
  |some y=>obtain⟨k',e'⟩:=val y len h (.inr (.inl rfl)) h2;cases lo with|none=>have:=hl rfl;subst this;simp[e',e'',lp q2,lp q3]|some x=>obtain⟨k,e⟩:=val x 0 l (.inl rfl) h1;simp[e,e',e'',lp q1,lp q2,lp q3]
def isNone{α:Type}:Option α->Bool|none=>true|some _=>false
def kf(P:Program)(h:Hp)(T:Tr AV)(t:TypeId)(u:AV)(lo hi mx:Option Operand):Option AV:=match P.underlying t with
 |some (.slice elem)=>match bY P elem,u with
  |some sz,.slice b off len false c=>match cU T lo 0,cU T hi len,cU T mx c with
   |some l,some r,some m=>match Nat.ble l r,Nat.ble r m,Nat.ble m c,(isNone mx||!isNone hi)with
    |true,true,true,true=>some (.slice b (match Nat.beq m l with|true=>off|false=>off+l*sz) (r-l) false (m-l))
    |_,_,_,_=>none
   |_,_,_=>none
  |some sz,.slice b off len true c=>match h.tr.get b with
   |some (.cells cs _ (some z))=>match Nat.beq z sz,sz with
    |true,sz+1=>match mx with
     |some x=>match cU T lo 0,cU T hi len,cU T (some x) 0 with
      |some l,some r,some m=>match Nat.ble l r,Nat.ble r m,Nat.ble ((c+m)*(sz+1)) cs.length,!isNone hi with
       |true,true,true,true=>some (.slice b (match Nat.beq m l with|true=>off|false=>off+l*(sz+1)) (r-l) false (m-l))
       |_,_,_,_=>none
      |_,_,_=>none
     |none=>match cU T lo 0,cU T hi len with
      |some l,some r=>match Nat.ble l r,Nat.ble ((c+r)*(sz+1)) cs.length,(Nat.beq l 0||Nat.blt ((c+l)*(sz+1)) cs.length)with
       |true,true,true=>some (.slice b (off+l*(sz+1)) (r-l) true (c+l))|true,true,false=>(match Nat.beq r l with|true=>some (.iU b off (off+l*(sz+1)) (c+l))|false=>none)
       |_,_,_=>none
      |_,_=>none
    |_,_=>none
   |_=>none
  |some sz,.av=>match cU T lo 0,cU T hi 0,cU T mx 0 with
   |some 0,some 0,some 0=>match(isNone mx||!isNone hi)with|true=>some .av|false=>none
   |_,_,_=>none
  |_,_=>none
 |some .string=>match u with
  |.str x=>match lo.elim (some none) (fun y=>(aM T y).bind fun v=>(fm v).map some),hi.elim (some none) (fun y=>(aM T y).bind fun v=>(fm v).map some),mx with
   |some l,some r,none=>match still P 4000 (Instr.sliceAt t (.string x) l r none)with|some q=>back q|none=>none
   |_,_,_=>none
  |_=>none
 |_=>none
theorem KE{T:Tr AV}{s:Sg}{a:Act}{x:Option Operand}{l:Option Value}(h:x.elim (some none) (fun y=>(aM T y).bind fun v=>(fm v).map some)=some l)
  (hr:∀y,x=some y->∀u,aM T y=some u->a.eval y=ae s u):x.map a.eval=l:=by
 cases x with|none=>simpa using h|some y=>simp only[Option.elim]at h;cases hv:aM T y<;>simp[hv]at h;rename_i v;obtain⟨q,hq,rfl⟩:=h;simp[hr y rfl v hv,gk hq]
theorem Gj{P:Program}{h:Hp}{T:Tr AV}{t:TypeId}{u v:AV}{lo hi mx:Option Operand}(e:kf P h T t u lo hi mx=some v){s:Sg}{w:World}{a:Act}(H:ab s h w)
  (hr:∀x,(lo=some x\/hi=some x\/mx=some x)->∀u,aM T x=some u->a.eval x=ae s u) :
  (Instr.sliceAt t (ae s u) (lo.map a.eval) (hi.map a.eval) (mx.map a.eval)).run P w=.ok (ae s v) w:=by
 unfold kf at e;split at e
 .rename_i elem hu;have hru:=run_underlying hu w;split at e
  .rename_i sz b off len c hs;split at e<;>try cases e
   rename_i l r m h1 h2 h3;split at e<;>try cases e
   rename_i q1 q2 q3 q4;have q1:=Nat.le_of_ble_eq_true q1;have q2:=Nat.le_of_ble_eq_true q2;have q3:=Nat.le_of_ble_eq_true q3;have q4:hi=none->mx=none:=by
    intro q;subst q;cases mx
    .rfl
    .simp[isNone]at q4
   have hb:=mg hr h1 h2 h3 q1 q2 q3 q4 w (P:=P);simp only[Instr.sliceAt,Instr.slice,ae,Sem.run_bind,hru,Result.andThen_ok,hb,run_sizeOf hs,Sem.run_pure];cases hml:Nat.beq m l
   .have:=Nat.ne_of_beq_eq_false hml;simp[this,cX]
   .have:=aA hml;simp[this]
  .rename_i sz b off len c hs;split at e<;>try cases e
   rename_i cs ty z hb;split at e<;>try cases e
   rename_i sz' sz hz;have hz:=aA hz;subst hz;obtain⟨tail,hw,_,h2⟩:=H.cells hb;have h2:cs.length+tail.length=(s b).2*(sz+1):=(h2 _ rfl).1;split at e
   .rename_i x;split at e<;>try cases e
    rename_i l r m h1 h2' h3;split at e<;>try cases e
    rename_i q1 q2 q3 q4;have q1:=Nat.le_of_ble_eq_true q1;have q2:=Nat.le_of_ble_eq_true q2;have q3:=Nat.le_of_ble_eq_true q3;have hcap:c+m<=(s b).2:=by
     rcases Nat.lt_or_ge (s b).2 (c+m)with q|q
     .have:=Nat.mul_lt_mul_of_pos_right q (show 0<sz+1 by omega);omega
     .exact q
    have hb':=mg (cap:=(s b).2-c) (mx:=some x) hr h1 h2' (show cU T (some x) ((s b).2-c)=some m from h3) q1 q2 (by omega) (by intro q;subst q;simp[isNone]at q4) w (P:=P);simp only[Instr.sliceAt,Instr.slice,ae,Sem.run_bind,hru,Result.andThen_ok,hb',run_sizeOf hs,Sem.run_pure];cases hml:Nat.beq m l
    .have:=Nat.ne_of_beq_eq_false hml;simp[this,cX]
    .have:=aA hml;simp[this]
   .split at e<;>try cases e
    rename_i l r h1 h2';split at e<;>try cases e
    .rename_i q1 q3 q4;have q1:=Nat.le_of_ble_eq_true q1;have q3:=Nat.le_of_ble_eq_true q3;have hcap:c+r<=(s b).2:=by
      rcases Nat.lt_or_ge (s b).2 (c+r)with q|q
      .have:=Nat.mul_lt_mul_of_pos_right q (show 0<sz+1 by omega);omega
      .exact q
     have hb':=mg (cap:=(s b).2-c) (mx:=none) hr h1 h2' (show cU T none ((s b).2-c)=some ((s b).2-c)from rfl) q1 (by omega) (Nat.le_refl _) (fun _=>rfl) w (P:=P);simp only[Instr.sliceAt,Instr.slice,ae,Sem.run_bind,hru,Result.andThen_ok,hb',run_sizeOf hs,Sem.run_pure];have hne:(s b).2-c≠l\/l=0:=by
      rcases Nat.eq_zero_or_pos l with q|q
      .exact .inr q
      .left;have hbl:Nat.beq l 0=false:=by cases hq:Nat.beq l 0 with|false=>rfl|true=>have:=aA hq;omega
       simp only[hbl,Bool.false_or,Nat.blt_eq]at q4;have:c+l<(s b).2:=by
        rcases Nat.lt_or_ge (c+l) (s b).2 with q'|q'
        .exact q'
        .have:=Nat.mul_le_mul_right (sz+1) q';omega
       omega
     congr 2
     .by_cases q:(s b).2-c=l
      .rcases hne with q'|q'
       .exact absurd q q'
       .subst q';simp[q]
      .simp[q,cX]
     .omega
    .rename_i q1 q3 q4;split at e<;>try cases e
     rename_i q5;have q5:=aA q5;subst q5;have q1:=Nat.le_of_ble_eq_true q1;have q3:=Nat.le_of_ble_eq_true q3;have hcap:c+r<=(s b).2:=by
      rcases Nat.lt_or_ge (s b).2 (c+r)with q|q
      .have:=Nat.mul_lt_mul_of_pos_right q (show 0<sz+1 by omega);omega
      .exact q
     have hb':=mg (cap:=(s b).2-c) (mx:=none) hr h1 h2' (show cU T none ((s b).2-c)=some ((s b).2-c)from rfl) q1 (by omega) (Nat.le_refl _) (fun _=>rfl) w (P:=P);simp only[Instr.sliceAt,Instr.slice,ae,Sem.run_bind,hru,Result.andThen_ok,hb',run_sizeOf hs,Sem.run_pure];congr 2
     .by_cases q:(s b).2-c=r
      .have hq:Nat.beq (s b).2 (c+r)=true:=by rw[show(s b).2=c+r by omega];exact Nat.beq_refl _
       rw[hq];simp[q]
      .have hq:Nat.beq (s b).2 (c+r)=false:=by cases h:Nat.beq (s b).2 (c+r)with|false=>rfl|true=>exact absurd (aA h) (by omega)
       rw[hq];simp[q,cX]
     .omega
     .omega
  .rename_i sz hs;split at e<;>try cases e
   rename_i h1 h2 h3;split at e<;>try cases e
   rename_i q4;have q4:hi=none->mx=none:=by
    intro q;subst q;cases mx
    .rfl
    .simp[isNone]at q4
   have hb:=mg hr h1 h2 h3 (Nat.le_refl 0) (Nat.le_refl 0) (Nat.le_refl 0) q4 w (P:=P);simp only[Instr.sliceAt,Instr.slice,ae,Sem.run_bind,hru,Result.andThen_ok,hb,run_sizeOf hs,Sem.run_pure];rfl
  .cases e
 .rename_i hu;split at e<;>try cases e
  split at e<;>try cases e
  rename_i x l r h1 h2;split at e<;>try cases e
  rename_i q hq;rw[KE h1 (fun y hy=>hr y (.inl hy)),KE h2 (fun y hy=>hr y (.inr (.inl hy)))];simp only[ae,Option.map_none];rw[eS hq,jB e]
 .cases e
def eU(T:Tr AV):List (Nat×Operand)->Option (List (Nat×AV))
 |[]=>some []|(i,x)::l=>match aM T x with
  |some v=>match eU T l with|some vs=>some ((i,v)::vs)|none=>none
  |none=>none
theorem Ge{s:Sg}{T:Tr AV}{a:Act}:∀{l:List (Nat×Operand)}{vs:List (Nat×AV)},eU T l=some vs ->
  (∀x∈l.map (·.2),∀u,aM T x=some u->a.eval x=ae s u)->l.map (fun x=>(x.1,a.eval x.2))=vs.map fun x=>(x.1,ae s x.2)
 |[],vs,h,_=>by simp[eU]at h;subst h;rfl|(i,x)::l,vs,h,hr=>by
  simp only[eU]at h;cases hv:aM T x<;>simp only[hv]at h
  .cases h
  cases hl:eU T l<;>simp only[hl]at h
  .cases h
  simp at h;subst h;simp only[List.map_cons];rw[hr x (by simp) _ hv,Ge hl (fun y hy=>hr y (by simp only[List.map_cons];exact List.mem_cons_of_mem _ hy))]
theorem Rg{T:Tr AV}{n:Nat}:∀{l:List (Nat×Operand)}{vs:List (Nat×AV)},eU T l=some vs ->
  (∀x∈l.map (·.2),∀u,aM T x=some u->ws n u=true)->∀x∈vs,ws n x.2=true
 |[],vs,h,_=>by simp[eU]at h;subst h;simp|(i,x)::l,vs,h,hr=>by
  simp only[eU]at h;cases hv:aM T x<;>simp only[hv]at h
  .cases h
  cases hl:eU T l<;>simp only[hl]at h
  .cases h
  simp at h;subst h;intro y hy;rcases List.mem_cons.1 hy with rfl|hy
  .exact hr x (by simp) _ hv
  .exact Rg hl (fun z hz=>hr z (by simp only[List.map_cons];exact List.mem_cons_of_mem _ hz)) y hy
theorem QL{n:Nat}(place:Nat->Option (Nat×Nat)):∀(parts:List (Nat×AV)) (cells r:List AV),fN place cells parts=some r->cf n cells=true ->
  (∀x∈parts,ws n x.2=true)->cf n r=true
 |[],cells,r,h,hc,_=>by simp[fN]at h;subst h;exact hc|(i,v)::rest,cells,r,h,hc,hp=>by
  simp only[fN]at h;split at h<;>try cases h
  split at h<;>try cases h
  exact QL place rest _ r h (ln (yy hc) (ln (nO (hp (i,v) (by simp))) (GD hc))) (fun x hx=>hp x (by simp[hx]))
def places(P:Program):List Field->Option (List (Nat×Nat))
 |[]=>some []|f::l=>match bY P f.type with
  |some n=>match places P l with|some r=>some ((f.offset,n)::r)|none=>none
  |none=>none
theorem run_places{P:Program}{w:World}:∀{l:List Field}{r:List (Nat×Nat)},places P l=some r ->
  (l.mapM (fun f=>do pure (f.offset,<-Go.sizeOf f.type):Field->Sem (Nat×Nat))).run P w=.ok r w
 |[],r,h=>by simp[places]at h;subst h;simp|f::l,r,h=>by
  simp only[places]at h;split at h<;>try cases h
  rename_i n hn;split at h<;>try cases h
  rename_i q hq;rw[List.mapM_cons];simp only[Sem.run_bind,run_sizeOf hn,Result.andThen_ok,Sem.run_pure];rw[run_places hq];rfl
theorem lj{P:Program}{w:World}{l:Array Field}{r:List (Nat×Nat)}(h:places P l.toList=some r) :
  (l.mapM (fun f=>do pure (f.offset,<-Go.sizeOf f.type):Field->Sem (Nat×Nat))).run P w=.ok r.toArray w:=by
 have:=run_places (w:=w) h;rw[Array.mapM_eq_mapM_toList,Sem.run_map,this];rfl
def nX(P:Program)(t:TypeId)(parts:List (Nat×AV)):Option AV:=match P.underlying t with
 |some (.struct fields)=>match dx P t,places P fields.toList with
  |some z,some ps=>match fN (fun i=>nth ps i) (bK z) parts with|some r=>some (.agg r)|none=>none
  |_,_=>none
 |some (.array _ elem)=>match dx P t,bY P elem with
  |some z,some sz=>match fN (fun i=>some (i*sz,sz)) (bK z) parts with|some r=>some (.agg r)|none=>none
  |_,_=>none
 |_=>none
theorem Gn{P:Program}{t:TypeId}{parts:List (Nat×AV)}{v:AV}(e:nX P t parts=some v)(s:Sg)(w:World)(ps:Array (Nat×Value))
  (hp:ps.toList=parts.map fun x=>(x.1,ae s x.2)):(Instr.build t ps).run P w=.ok (ae s v) w:=by
 unfold nX at e;split at e
 .rename_i fields hu;split at e<;>try cases e
  rename_i z q hz hq;split at e<;>try cases e
  rename_i r hr;have hf:=yr s _ _ _ _ hr;rw[<-iH,Array.toArray_toList]at hf;have hfun:(fun i=>(q.toArray:Array (Nat×Nat))[i]?)=fun i=>nth q i:=by funext i;rw[bI];simp
  simp only[Instr.build,Sem.run_bind,fc hz s,Result.andThen_ok,run_underlying hu,lj hq,hp,Sem.run_pure];rw[hfun,hf];simp[ae]
 .rename_i k elem hu;split at e<;>try cases e
  rename_i z sz hz hs;split at e<;>try cases e
  rename_i r hr;have hf:=yr s _ _ _ _ hr;rw[<-iH,Array.toArray_toList]at hf;simp only[Instr.build,Sem.run_bind,fc hz s,Result.andThen_ok,run_underlying hu,run_sizeOf hs,hp,Sem.run_pure];rw[hf];simp[ae]
 .cases e
def fe(P:Program)(t:TypeId):Option Nat:=match P.info? t with|some i=>some i.bytes|none=>none
def fJ(P:Program)(T:Tr AV)(n:Nat):Op->Option (aC×AV)
 |.alloc elem=>match dx P elem with|some z=>some (.cells (bK z) elem none,.ptr n 0)|none=>none
 |.box elem x=>match aM T x with|some u=>some (.cells (bK u) elem none,.ptr n 0)|none=>none
 |.makeSlice t l c=>match P.underlying t,aM T l,aM T c with
  |some (.slice elem),some (.int _ li),some (.int _ ci)=>match IntKind.i64.wrap li,IntKind.i64.wrap ci,fe P elem,bY P elem,dx P elem with
   |.ofNat l,.ofNat c,some by_,some sz,some z=>match Nat.ble l c,Nat.ble (by_*c) 281474976710656,Nat.beq (bK z).length sz with|true,true,true=>some (.cells (rep c (bK z)) elem none,.slice n 0 l false c)|_,_,_=>none
   |_,_,_,_,_=>none
  |_,_,_=>none
 |.buildSlice t len parts=>match P.underlying t,eU T parts.toList with
  |some (.slice elem),some ps=>match bY P elem,dx P elem with
   |some sz,some z=>match Nat.ble (len*sz) 16777216,Nat.beq (bK z).length sz with
    |true,true=>match fN (fun i=>some (i*sz,sz)) (rep len (bK z)) ps with|some r=>some (.cells r elem none,.slice n 0 len false len)|none=>none
    |_,_=>none
   |_,_=>none
  |_,_=>none
 |.makeMap t r=>match r with|none=>some (.map [] 0,.map n)|some x=>match P.underlying t,aM T x with|some (.map _ _),some (.int _ _)=>some (.map [] 0,.map n)|_,_=>none
 |_=>none
theorem SR{s:Sg}{n:Nat}{x:Nat×Nat}{v:AV}(h:ws n v=true):ae (aT s n x) v=ae s v:=nN (fun i hi=>pE s n x hi) v h
theorem Kj{s:Sg}{n:Nat}{x:Nat×Nat}{v:List AV}(h:cf n v=true):aD (aT s n x) v=aD s v:=nK (fun i hi=>pE s n x hi) v h
theorem QW{P:Program}{t:TypeId}{z:AV}{s:Sg}{k:Nat}{w:World}(hz:dx P t=some z) :
  ∃zero:Array Value,((if k=0 then pure #[]else do pure (<- zeroValue t).cells:Sem (Array Value)).run P w=.ok zero w)/\(k≠0->zero.toList=aD s (bK z)):=by
 by_cases hk:k=0
 .exact⟨#[],by simp[hk],fun h=>absurd hk h⟩
 .refine⟨(ae s z).cells,?_,fun _=>iH s z⟩;rw[if_neg hk];simp[fc hz s]
theorem AG{P:Program}{T:Tr AV}{n:Nat}{o:Oper}{ob:aC}{v:AV}(e:fJ P T n o.op=some (ob,v)){s:Sg}{a:Act}(hO:eJ s T a o.op)
  (w:World) (hs':s n=(w.heap.size,0)) :
  ∃ob',(execOp a.eval o).run P w=.ok (.value (ae s v)) { w with heap:=w.heap.push ob' }/\bG s n ob (some ob'):=by
 unfold fJ at e;unfold execOp;split at e
 .rename_i elem ho;split at e<;>try cases e
  rename_i z hz;refine⟨.cells (aD s (bK z)).toArray elem (0,0),?_,?_⟩
  .rw[ho];simp only[Instr.alloc,Sem.run_bind,fc hz s,Result.andThen_ok,newVar,newRow,run_newObj,Sem.run_pure,ae,hs'];rw[<-iH,Array.toArray_toList]
  .simp only[bG]
 .rename_i elem x ho;split at e<;>try cases e
  rename_i u hu;rw[ho]at hO;have hx:=hO x (by simp[Op.operands]) u hu;refine⟨.cells (aD s (bK u)).toArray elem (0,0),?_,?_⟩
  .rw[ho];simp only[Instr.box,Sem.run_bind,hx,Result.andThen_ok,newVar,newRow,run_newObj,Sem.run_pure,ae,hs'];rw[<-iH,Array.toArray_toList]
  .simp only[bG]
 .rename_i t l c ho;rw[ho]at hO;split at e<;>try cases e
  rename_i elem kl li kc ci hu hl hc;have hl':=hO l (by simp[Op.operands]) _ hl;have hc':=hO c (by simp[Op.operands]) _ hc;split at e<;>try cases e
  rename_i l' c' by_ sz z hwl hwc hb hs hz;split at e<;>try cases e
  rename_i q1 q2 q3;have q1:=Nat.le_of_ble_eq_true q1;have q2:=Nat.le_of_ble_eq_true q2;have q3:=aA q3;obtain⟨info,hi,rfl⟩:∃info,P.info? elem=some info/\info.bytes=by_:=by unfold fe at hb;cases hi:P.info? elem<;>simp[hi]at hb;exact⟨_,rfl,hb⟩
  obtain⟨zero,hz1,hz2⟩:=QW (k:=c'*sz) (s:=s) (w:=w) hz;refine⟨.cells (aD s (rep c' (bK z))).toArray elem (0,0),?_,?_⟩
  .rw[ho];simp only[hl',hc',ae];have hcell:(Array.range (c'*sz)).map (zero[· % zero.size]!)=(aD s (rep c' (bK z))).toArray:=by
    by_cases hk:c'*sz=0
    .have:rep c' (bK z)=[]:=List.eq_nil_of_length_eq_zero (by rw[yn,q3];exact hk);rw[this,hk];simp[aD]
    .exact GG s _ c' _ zero (hz2 hk) (by rw[q3])
   have hnot:¬(((decide ((Int.ofNat c')<0)||decide ((info.bytes:Int)*(Int.ofNat c') > 2^48))||decide ((Int.ofNat l')<0)||decide ((Int.ofNat l') > (Int.ofNat c')))=true):=by
    have hm:(info.bytes:Int)*(c':Int)=((info.bytes*c':Nat):Int):=(Int.natCast_mul _ _).symm;have hq:(info.bytes:Int)*(c':Int)<=281474976710656:=by rw[hm];omega
    have h1:decide ((Int.ofNat c')<0)=false:=cw (by show ¬((c':Int)<0);omega);have h2:decide ((info.bytes:Int)*(Int.ofNat c') > 2^48)=false:=cw (by show ¬((281474976710656:Int)<(info.bytes:Int)*(c':Int));omega);have h3:decide ((Int.ofNat l')<0)=false:=cw (by show ¬((l':Int)<0);omega);have h4:decide ((Int.ofNat l') > (Int.ofNat c'))=false:=cw (by show ¬((c':Int)<(l':Int));omega);rw[h1,h2,h3,h4];decide
   simp only[Instr.makeSlice,asInt,asIntOf,Sem.run_bind,run_underlying hu,Result.andThen_ok,Sem.run_pure,run_typeInfo hi,hwl,hwc];rw[if_neg hnot];simp only[Int.ofNat_eq_natCast,Int.toNat_natCast,run_askRoom,Result.andThen_ok,run_sizeOf hs,Sem.run_bind,Sem.run_pure];by_cases hk:c'*sz=0
   .rw[if_pos hk]at hz1 |-;simp only[Sem.run_pure,Result.ok.injEq,and_true]at hz1;subst hz1;simp only[Sem.run_bind,Sem.run_pure,Result.andThen_ok,newRow,run_newObj,hcell,hs']
   .rw[if_neg hk]at hz1 |-;simp only[Sem.run_bind,fc hz s,Result.andThen_ok,Sem.run_pure,Result.ok.injEq,and_true]at hz1 |-;subst hz1;simp only[newRow,Sem.run_bind,run_newObj,Sem.run_pure,Result.andThen_ok,hcell,hs']
  .simp only[bG]
 .rename_i t len parts ho;rw[ho]at hO;split at e<;>try cases e
  rename_i elem ps hu hps;split at e<;>try cases e
  rename_i sz z hs hz;split at e<;>try cases e
  rename_i q1 q2;have q1:=Nat.le_of_ble_eq_true q1;have q2:=aA q2;split at e<;>try cases e
  rename_i r hr;have hmem:∀x∈parts.toList.map (·.2),x∈(Op.buildSlice t len parts).operands:=by intro x hx;simp only[Op.operands,List.mem_toArray];exact hx
  have hconc:=Ge hps (fun x hx=>hO x (hmem x hx));obtain⟨zero,hz1,hz2⟩:=QW (k:=len*sz) (s:=s) (w:=w) hz;refine⟨.cells (aD s r).toArray elem (0,0),?_,?_⟩
  .rw[ho];have hcell:(Array.range (len*sz)).map (zero[· % zero.size]!)=(aD s (rep len (bK z))).toArray:=by
    by_cases hk:len*sz=0
    .have:rep len (bK z)=[]:=List.eq_nil_of_length_eq_zero (by rw[yn,q2];exact hk);rw[this,hk];simp[aD]
    .exact GG s _ len _ zero (hz2 hk) (by rw[q2])
   have hp:((parts.map fun x=>(x.1,a.eval x.2)).toList)=ps.map fun x=>(x.1,ae s x.2):=by simpa using hconc
   simp only[Instr.buildSlice,Sem.run_bind,run_underlying hu,Result.andThen_ok,run_sizeOf hs];rw[if_neg (by omega)];simp only[Sem.run_pure,Result.andThen_ok,Sem.run_bind];rw[hp];have hf:=yr s _ _ _ _ hr;by_cases hk:len*sz=0
   .rw[if_pos hk]at hz1 |-;simp only[Sem.run_pure,Result.ok.injEq,and_true]at hz1;subst hz1;simp only[Sem.run_bind,Sem.run_pure,Result.andThen_ok,hcell,hf,newRow,run_newObj,ae,hs']
   .rw[if_neg hk]at hz1 |-;simp only[Sem.run_bind,fc hz s,Result.andThen_ok,Sem.run_pure,Result.ok.injEq,and_true]at hz1 |-;subst hz1;simp only[hcell,hf,newRow,Sem.run_bind,run_newObj,Sem.run_pure,Result.andThen_ok,ae,hs']
  .simp only[bG]
 .rename_i t r ho;rw[ho]at hO;split at e
  .simp only[aX,Prod.mk.injEq]at e;obtain⟨rfl,rfl⟩:=e;refine⟨.map #[] 0,?_,by simp[bG,de]⟩;rw[ho];simp[Instr.makeMap,ae,hs']
  .rename_i x;split at e<;>try cases e
   rename_i k1 k2 k3 k4 hu hx;have hx':=hO x (by simp[Op.operands]) _ hx;refine⟨.map #[] 0,?_,by simp[bG,de]⟩;rw[ho];simp[Instr.makeMap,ae,hs',hx',run_underlying hu,asInt,asIntOf]
 .cases e
theorem I9{P:Program}{T:Tr AV}{n:Nat}{o:Oper}{ob:aC}{v:AV}(e:fJ P T n o.op=some (ob,v)){m:Nat}(hnm:n<m)
  (hW:∀x∈o.op.operands,∀u,aM T x=some u->ws m u=true):gp m ob=true/\ws m v=true:=by
 unfold fJ at e;split at e
 .rename_i elem ho;split at e<;>try cases e
  rename_i z hz;exact⟨nO (yd hz m),by simp[ws,hnm]⟩
 .rename_i elem x ho;split at e<;>try cases e
  rename_i u hu;rw[ho]at hW;exact⟨nO (hW x (by simp[Op.operands]) u hu),by simp[ws,hnm]⟩
 .rename_i t l c ho;split at e<;>try cases e
  split at e<;>try cases e
  rename_i l' c' by_ sz z hwl hwc hb hs hz;split at e<;>try cases e
  exact⟨AM (nO (yd hz m)) c',by simp[ws,hnm]⟩
 .rename_i t len parts ho;rw[ho]at hW;split at e<;>try cases e
  rename_i elem ps hu hps;split at e<;>try cases e
  rename_i sz z hs hz;split at e<;>try cases e
  split at e<;>try cases e
  rename_i r hr;have hmem:∀x∈parts.toList.map (·.2),x∈(Op.buildSlice t len parts).operands:=by intro x hx;simp only[Op.operands,List.mem_toArray];exact hx
  exact⟨QL _ _ _ _ hr (AM (nO (yd hz m)) len) (Rg hps (fun x hx=>hW x (hmem x hx))),by simp[ws,hnm]⟩
 .split at e
  .simp only[aX,Prod.mk.injEq]at e;obtain⟨rfl,rfl⟩:=e;exact⟨rfl,by simp[ws,hnm]⟩
  .split at e<;>try cases e
   exact⟨rfl,by simp[ws,hnm]⟩
 .cases e
theorem Tl{s:Sg}{T:Tr AV}{a:Act}{o:Op}{n:Nat}{x:Nat×Nat}(hO:eJ s T a o)(hW:∀y∈o.operands,∀u,aM T y=some u->ws n u=true):eJ (aT s n x) T a o:=by intro y hy u hu;rw[hO y hy u hu,SR (hW y hy u hu)]
theorem s0{P:Program}{T:Tr AV}{n:Nat}{o:Oper}{ob:aC}{v:AV}(e:fJ P T n o.op=some (ob,v)){s:Sg}{a:Act}(hO:eJ s T a o.op)
  (hW:∀x∈o.op.operands,∀u,aM T x=some u->ws n u=true) (w:World) :
  ∃ob',(execOp a.eval o).run P w=.ok (.value (ae (aT s n (w.heap.size,0)) v)) { w with heap:=w.heap.push ob' } /\
   bG (aT s n (w.heap.size,0)) n ob (some ob')/\gp (n+1) ob=true/\ws (n+1) v=true:=by
 obtain⟨ob',h1,h2⟩:=AG e (Tl hO hW) w (cd _ _ _);have:=I9 (m:=n+1) e (by omega) (fun x hx u hu=>lx (by omega) _ (hW x hx u hu));exact⟨ob',h1,h2,this.1,this.2⟩
