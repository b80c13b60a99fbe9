import Derived.Test.YtbbhihkocghhaaaKAa
import Derived.Orders
import Derived.Below
import Derived.Scope
import Derived.KernelRfl
import Derived.Laws.Sem
set_option linter.all false
section
namespace Go.Proofs.Ytbbhihkocghhaaa.Ev
open Go Go.RowKit
inductive Tr(α:Type) where
 |nil
 |node (v:Option α) (l r:Tr α)
def Tr.get{α:Type}:Tr α->Nat->Option α
 |.nil,_=>none|.node v l r,n=>match n with|0=>v|m+1=>match Nat.beq (m % 2) 0 with|true=>l.get (m / 2)|false=>r.get (m / 2)
def Tr.val{α:Type}:Tr α->Option α|.nil=>none|.node v _ _=>v
def Tr.left{α:Type}:Tr α->Tr α|.nil=>.nil|.node _ l _=>l
def Tr.right{α:Type}:Tr α->Tr α|.nil=>.nil|.node _ _ r=>r
def Tr.set{α:Type}:Nat->Tr α->Nat->Option α->Option (Tr α)
 |0,_,_,_=>none|f+1,t,n,a=>match n with
  |0=>some (.node a t.left t.right)|m+1=>match Nat.beq (m % 2) 0 with
   |true=>match Tr.set f t.left (m / 2) a with|some x=>some (.node t.val x t.right)|none=>none
   |false=>match Tr.set f t.right (m / 2) a with|some x=>some (.node t.val t.left x)|none=>none
theorem Tr.tF{α:Type}(v:Option α)(l r:Tr α)(m:Nat):(Tr.node v l r).get (m+1)=if m % 2=0 then l.get (m / 2)else r.get (m / 2):=by
 simp only[Tr.get];cases hm:Nat.beq (m % 2) 0
 .rw[qr (IT hm)]
 simp_all
theorem Tr.bE{α:Type}:∀(f:Nat) (t:Tr α) (n:Nat) (a:Option α) (t':Tr α),Tr.set f t n a=some t' ->
  ∀m,t'.get m=if m=n then a else t.get m:=by
 intro f
 induction f with
 |zero=>intro t n a t' h;simp[Tr.set]at h|succ f ih=>
  intro t n a t' h m;have hn:∀m,t.get m=(Tr.node t.val t.left t.right).get m:=by
   intro m;cases t with
   |nil=>cases m with|zero=>rfl|succ m=>simp only[Tr.tF,Tr.left,Tr.right];simp[Tr.get]
   |node v l r=>rfl
  rw[hn];cases n with
  |zero=>simp only[Tr.set,bf]at h;subst h;cases m with|zero=>simp[Tr.get]|succ m=>simp only[Tr.tF];rw[qr (by omega:¬m+1=0)]
  |succ n=>
   simp only[Tr.set]at h;cases hb:Nat.beq (n % 2) 0<;>simp only[hb]at h
   .have hb':=IT hb;cases hs:Tr.set f t.right (n / 2) a<;>simp only[hs]at h
    .cases h
    simp only[bf]at h;subst h;cases m with
    |zero=>simp[Tr.get]|succ m=>
     have e:=ih _ _ _ _ hs (m / 2);simp only[Tr.tF];by_cases hm:m % 2=0
     .rw[ut hm,ut hm,qr acs]
     .rw[qr hm,qr hm,e];by_cases q:m / 2=n / 2
      .rw[ut q,ut acs]
      .rw[qr q,qr acs]
   .have hb':=aW hb;cases hs:Tr.set f t.left (n / 2) a<;>simp only[hs]at h
    .cases h
    simp only[bf]at h;subst h;cases m with
    |zero=>simp[Tr.get]|succ m=>
     have e:=ih _ _ _ _ hs (m / 2);simp only[Tr.tF];by_cases hm:m % 2=0
     .rw[ut hm,ut hm,e];by_cases q:m / 2=n / 2
      .rw[ut q,ut acs]
      .rw[qr q,qr acs]
     .rw[qr hm,qr hm,qr acs]
inductive AV where
 |bool (b:Bool)
 |int (k:IntKind) (n:Int)
 |str (s:ByteArray)
 |cK
 |ptr (b off:Nat)
 |bu
 |slice (b off len:Nat) (u:Bool) (c:Nat)
 |oH (a:lc) (len cap:Nat)
 |m8 (b off off' c:Nat)
 |cR
 |map (b:Nat)
 |func (f:FuncId) (first cap:List AV)
 |cQ
 |dy
 |agg (l:List AV)
 |bD (l:List AV)
abbrev Sg:=Nat->Nat×Nat
mutual
def ah(s:Sg):AV->Value
 |.bool b=>.bool b|.int k n=>.int k n|.str x=>.string x|.cK=>.pointer none|.ptr b off=>.pointer (some ⟨(s b).1,off,none⟩)|.bu=>.slice none 0 0|.slice b off len u c=>.slice (some ⟨(s b).1,off,none⟩) len (match u with|true=>(s b).2-c|false=>c)
 |.oH a len cap=>.slice a len cap|.m8 b off off' c=>.slice (some ⟨(s b).1,(match Nat.beq (s b).2 c with|true=>off|false=>off'),none⟩) 0 ((s b).2-c)
 |.cR=>.map none|.map b=>.map (some (s b).1)|.func f x c=>.func (.func f) (aL s x).toArray (aL s c).toArray|.cQ=>.nilFunc|.dy=>.nilIface|.agg l=>.agg (aL s l).toArray|.bD l=>.tuple (aL s l).toArray
termination_by structural x=>x
def aL(s:Sg):List AV->kw
 |[]=>[]|x::l=>ah s x::aL s l
termination_by structural x=>x
end
mutual
def ws(n:Nat):AV->Bool
 |.bool _|.int _ _|.str _|.cK|.bu|.oH _ _ _|.cR|.cQ|.dy=>true|.ptr b _=>Nat.blt b n|.slice b _ _ _ _=>Nat.blt b n|.m8 b _ _ _=>Nat.blt b n|.map b=>Nat.blt b n|.func _ x c=>match cC n x with|true=>cC n c|false=>false
 |.agg l=>cC n l|.bD l=>cC n l
termination_by structural x=>x
def cC(n:Nat):List AV->Bool
 |[]=>true|x::l=>match ws n x with|true=>cC n l|false=>false
termination_by structural x=>x
end
theorem oW(s:Sg)(l:List AV):aL s l=l.map (ah s):=by induction l with|nil=>rfl|cons x l ih=>simp[aL,ih]
theorem tL(n:Nat)(l:List AV):cC n l=true↔∀x∈l,ws n x=true:=by
 induction l with
 |nil=>simp[cC]|cons x l ih=>
  simp only[cC]
  grind
mutual
theorem oQ{s s':Sg}{n:Nat}(hs:∀i,i<n->s i=s' i):∀v:AV,ws n v=true->ah s v=ah s' v
 |.bool _,_|.int _ _,_|.str _,_|.cK,_|.bu,_|.oH _ _ _,_|.cR,_|.cQ,_|.dy,_=>rfl|.ptr b off,h=>by simp only[ws,WP]at h;simp only[ah,hs b h]|.slice b _ _ _ _,h=>by simp only[ws,WP]at h;simp only[ah,hs b h]|.m8 b _ _ _,h=>by simp only[ws,WP]at h;simp only[ah,hs b h]|.map b,h=>by simp only[ws,WP]at h;simp only[ah,hs b h]|.func f x c,h=>by
  simp only[ws]at h;cases hx:cC n x<;>simp only[hx]at h
  .cases h
  simp only[ah,oO hs x hx,oO hs c h]
 |.agg l,h=>by simp only[ws]at h;simp only[ah,oO hs l h]|.bD l,h=>by simp only[ws]at h;simp only[ah,oO hs l h]
theorem oO{s s':Sg}{n:Nat}(hs:∀i,i<n->s i=s' i):∀l:List AV,cC n l=true->aL s l=aL s' l
 |[],_=>rfl|x::l,h=>by
  simp only[cC]at h;cases hx:ws n x<;>simp only[hx]at h
  .cases h
  simp only[aL,oQ hs x hx,oO hs l h]
end
mutual
theorem mJ{n m:Nat}(hs:n<=m):∀v:AV,ws n v=true->ws m v=true
 |.bool _,_|.int _ _,_|.str _,_|.cK,_|.bu,_|.oH _ _ _,_|.cR,_|.cQ,_|.dy,_=>rfl|.ptr b off,h=>by simp only[ws,WP]at h |-;omega|.slice b _ _ _ _,h=>by simp only[ws,WP]at h |-;omega|.m8 b _ _ _,h=>by simp only[ws,WP]at h |-;omega|.map b,h=>by simp only[ws,WP]at h |-;omega|.func f x c,h=>by
  simp only[ws]at h;cases hx:cC n x<;>simp only[hx]at h
  .cases h
  simp only[ws,qv hs x hx,qv hs c h]
 |.agg l,h=>by simp only[ws]at h;simp only[ws,qv hs l h]|.bD l,h=>by simp only[ws]at h;simp only[ws,qv hs l h]
theorem qv{n m:Nat}(hs:n<=m):∀l:List AV,cC n l=true->cC m l=true
 |[],_=>rfl|x::l,h=>by
  simp only[cC]at h;cases hx:ws n x<;>simp only[hx]at h
  .cases h
  simp only[cC,mJ hs x hx,qv hs l h]
end
def IntKind.num:IntKind->Nat
 |.i8=>0|.i16=>1|.i32=>2|.i64=>3|.u8=>4|.u16=>5|.u32=>6|.u64=>7
theorem IntKind.qz{a b:IntKind}(h:IntKind.num a=IntKind.num b):a=b:=by cases a<;>cases b<;>first|rfl|(exact absurd h acw)
def Int.eqv:Int->Int->Bool
 |.ofNat a,.ofNat b=>Nat.beq a b|.negSucc a,.negSucc b=>Nat.beq a b|_,_=>false
theorem Int.eg{a b:Int}(h:Int.eqv a b=true):a=b:=by cases a<;>cases b<;>simp[Int.eqv,Nat.beq_eq]at h<;>subst h<;>rfl
def nT(a b:List UInt8):Bool:=match a,b with
 |[],[]=>true|x::a,y::b=>match Nat.beq x.toNat y.toNat with|true=>nT a b|false=>false
 |_,_=>false
theorem Q9:∀{a b:List UInt8},nT a b=true->a=b
 |[],[],_=>rfl|x::a,y::b,h=>by
  simp only[nT]at h;cases hx:Nat.beq x.toNat y.toNat<;>simp only[hx]at h
  .cases h
  rw[Q9 h,UInt8.toNat_inj.1 (aW hx)]
 |[],_::_,h=>by simp[nT]at h|_::_,[],h=>by simp[nT]at h
def rz(a b:ByteArray):Bool:=nT a.data.toList b.data.toList
theorem Hv{a b:ByteArray}(h:rz a b=true):a=b:=by have:=Q9 h;cases a;simp_all
mutual
def AV.eqv:AV->AV->Bool
 |.bool a,b=>match b with|.bool b=>(match a,b with|true,true=>true|false,false=>true|_,_=>false)|_=>false
 |.int k n,b=>match b with|.int k' n'=>(match Nat.beq (IntKind.num k) (IntKind.num k')with|true=>Int.eqv n n'|false=>false)|_=>false
 |.str a,b=>match b with|.str b=>rz a b|_=>false
 |.cK,b=>match b with|.cK=>true|_=>false
 |.ptr x y,b=>match b with|.ptr x' y'=>(match Nat.beq x x' with|true=>Nat.beq y y'|false=>false)|_=>false
 |.bu,b=>match b with|.bu=>true|_=>false
 |.slice x y l u c,b=>match b with
  |.slice x' y' l' u' c'=>(match Nat.beq x x',Nat.beq y y',Nat.beq l l',u,u' with|true,true,true,true,true=>Nat.beq c c'|true,true,true,false,false=>Nat.beq c c'|_,_,_,_,_=>false)
  |_=>false
 |.oH _ _ _,_=>false|.m8 _ _ _ _,_=>false|.cR,b=>match b with|.cR=>true|_=>false
 |.map x,b=>match b with|.map y=>Nat.beq x y|_=>false
 |.func f x c,b=>match b with
  |.func f' x' c'=>(match Nat.beq f f',AV.iY x x' with|true,true=>AV.iY c c'|_,_=>false)
  |_=>false
 |.cQ,b=>match b with|.cQ=>true|_=>false
 |.dy,b=>match b with|.dy=>true|_=>false
 |.agg l,b=>match b with|.agg l'=>AV.iY l l'|_=>false
 |.bD l,b=>match b with|.bD l'=>AV.iY l l'|_=>false
termination_by structural x=>x
def AV.iY:List AV->List AV->Bool
 |[],m=>match m with|[]=>true|_=>false
 |x::l,m=>match m with
  |y::m=>(match AV.eqv x y with|true=>AV.iY l m|false=>false)
  |[]=>false
termination_by structural x=>x
end
mutual
theorem AV.eg:∀{a b:AV},AV.eqv a b=true->a=b
 |.bool a,b,h=>by cases b<;>simp only[AV.eqv]at h<;>first|cases h|(rename_i b;cases a<;>cases b<;>first|rfl|cases h)
 |.int k n,b,h=>by
  cases b<;>simp only[AV.eqv]at h<;>first|cases h|skip
  rename_i k' n';cases hk:Nat.beq (IntKind.num k) (IntKind.num k')<;>simp only[hk]at h
  .cases h
  rw[IntKind.qz (aW hk),Int.eg h]
 |.str a,b,h=>by cases b<;>simp only[AV.eqv]at h<;>first|cases h|(rw[Hv h])
 |.cK,b,h=>by cases b<;>simp only[AV.eqv]at h<;>first|rfl|cases h
 |.ptr x y,b,h=>by
  cases b<;>simp only[AV.eqv]at h<;>first|cases h|skip
  rename_i x' y';cases hk:Nat.beq x x'<;>simp only[hk]at h
  .cases h
  rw[aW hk,aW h]
 |.bu,b,h=>by cases b<;>simp only[AV.eqv]at h<;>first|rfl|cases h
 |.slice x y l u c,b,h=>by
  cases b<;>simp only[AV.eqv]at h<;>first|cases h|skip
  rename_i x' y' l' u' c';cases h1:Nat.beq x x'<;>cases h2:Nat.beq y y'<;>cases h3:Nat.beq l l'<;>cases u<;>cases u'<;>simp only[h1,h2,h3]at h <;>
   first|cases h|(rw[aW h1,aW h2,aW h3,aW h])
 |.oH _ _ _,b,h=>by simp only[AV.eqv]at h;cases h
 |.m8 _ _ _ _,b,h=>by simp only[AV.eqv]at h;cases h
 |.cR,b,h=>by cases b<;>simp only[AV.eqv]at h<;>first|rfl|cases h
 |.map x,b,h=>by cases b<;>simp only[AV.eqv]at h<;>first|cases h|(rw[aW h])
 |.func f x c,b,h=>by
  cases b<;>simp only[AV.eqv]at h<;>first|cases h|skip
  rename_i f' x' c';cases h1:Nat.beq f f'<;>cases h2:AV.iY x x'<;>simp only[h1,h2]at h<;>first|cases h|skip
  rw[aW h1,AV.mN h2,AV.mN h]
 |.cQ,b,h=>by cases b<;>simp only[AV.eqv]at h<;>first|rfl|cases h
 |.dy,b,h=>by cases b<;>simp only[AV.eqv]at h<;>first|rfl|cases h
 |.agg l,b,h=>by cases b<;>simp only[AV.eqv]at h<;>first|cases h|(rw[AV.mN h])
 |.bD l,b,h=>by cases b<;>simp only[AV.eqv]at h<;>first|cases h|(rw[AV.mN h])
theorem AV.mN:∀{a b:List AV},AV.iY a b=true->a=b
 |[],b,h=>by cases b<;>simp only[AV.iY]at h<;>first|rfl|cases h
 |x::l,b,h=>by
  cases b<;>simp only[AV.iY]at h<;>first|cases h|skip
  rename_i y m;cases hx:AV.eqv x y<;>simp only[hx]at h
  .cases h
  rw[AV.eg hx,AV.mN h]
end
def still{α:Type}(P:Program):Nat->Sem α->Option α
 |0,_=>none|n+1,s=>match s with|.pure a=>some a|.program k=>still P n (k P)|_=>none
theorem fK{α:Type}{P:Program}:∀{n:Nat}{s:Sem α}{a:α},still P n s=some a->∀w,s.run P w=.ok a w
 |0,_,_,h,_=>by simp[still]at h|n+1,.pure a,_,h,w=>by simp[still]at h;subst h;rfl|n+1,.program k,a,h,w=>by simp only[still]at h;exact fK h w|n+1,.load ..,_,h,_|n+1,.store ..,_,h,_|n+1,.new ..,_,h,_|n+1,.shape ..,_,h,_|n+1,.freeze ..,_,h,_|n+1,.frozen ..,_,h,_|n+1,.getObj ..,_,h,_|n+1,.setObj ..,_,h,_|n+1,.choose ..,_,h,_|n+1,.sys ..,_,h,_|n+1,.mark ..,_,h,_|n+1,.halt ..,_,h,_=>by simp[still]at h
def rq:AV->Option Value
 |.bool b=>some (.bool b)|.int k n=>some (.int k n)|.str s=>some (.string s)|.cK=>some (.pointer none)|.bu=>some (.slice none 0 0)|.cR=>some (.map none)|.cQ=>some .nilFunc|.dy=>some .nilIface|_=>none
def me:List AV->Option kw
 |[]=>some []|x::l=>match rq x with
  |some v=>match me l with|some vs=>some (v::vs)|none=>none
  |none=>none
def gB:AV->Option Value
 |.agg l=>match me l with|some vs=>some (.agg vs.toArray)|none=>none
 |v=>rq v
theorem QM{v:AV}{x:Value}(h:rq v=some x)(s:Sg):ah s v=x:=by cases v<;>simp[rq]at h<;>subst h<;>rfl
theorem y6:∀{l:List AV}{x:kw},me l=some x->∀s:Sg,aL s l=x
 |[],x,h,s=>by simp[me]at h;subst h;rfl|v::l,x,h,s=>by
  simp only[me]at h;cases hv:rq v<;>simp only[hv]at h
  .cases h
  cases hl:me l<;>simp only[hl]at h
  .cases h
  simp at h;subst h;simp[aL,QM hv,y6 hl]
theorem iS{v:AV}{x:Value}(h:gB v=some x)(s:Sg):ah s v=x:=by
 cases v with
 |agg l=>
  simp only[gB]at h;cases hl:me l<;>simp only[hl]at h
  .cases h
  simp at h;subst h;simp[ah,y6 hl]
 |_=>simp only[gB]at h;exact QM h s
def fy:Value->Option AV
 |.bool b=>some (.bool b)|.int k n=>some (.int k n)|.string s=>some (.str s)|.pointer a=>match a with|none=>some .cK|some _=>none
 |.slice a len cap=>match a,len,cap with|none,0,0=>some .bu|_,_,_=>none
 |.map a=>match a with|none=>some .cR|some _=>none
 |.nilFunc=>some .cQ|.nilIface=>some .dy|_=>none
def fc:kw->Option (List AV)
 |[]=>some []|x::l=>match fy x with
  |some v=>match fc l with|some vs=>some (v::vs)|none=>none
  |none=>none
def back:Value->Option AV
 |.agg l=>match fc l.toList with|some vs=>some (.agg vs)|none=>none
 |.tuple l=>match fc l.toList with|some vs=>some (.bD vs)|none=>none
 |v=>fy v
theorem Rb{x:Value}{v:AV}(h:fy x=some v)(s:Sg):ah s v=x:=by
 cases x with
 |pointer a=>cases a<;>simp[fy]at h;subst h;rfl
 |map a=>cases a<;>simp[fy]at h;subst h;rfl
 |slice a l c=>
  simp only[fy]at h;split at h
  .simp at h;subst h;rfl
  .cases h
 |_=>simp[fy]at h<;>subst h<;>rfl
theorem Hb:∀{x:kw}{l:List AV},fc x=some l->∀s:Sg,aL s l=x
 |[],l,h,s=>by simp[fc]at h;subst h;rfl|x::xs,l,h,s=>by
  simp only[fc]at h;cases hv:fy x<;>simp only[hv]at h
  .cases h
  cases hl:fc xs<;>simp only[hl]at h
  .cases h
  simp at h;subst h;simp[aL,Rb hv,Hb hl]
theorem kI{x:Value}{v:AV}(h:back x=some v)(s:Sg):ah s v=x:=by
 cases x with
 |agg l=>
  simp only[back]at h;cases hl:fc l.toList<;>simp only[hl]at h
  .cases h
  simp at h;subst h;simp[ah,Hb hl]
 |tuple l=>
  simp only[back]at h;cases hl:fc l.toList<;>simp only[hl]at h
  .cases h
  simp at h;subst h;simp[ah,Hb hl]
 |_=>simp only[back]at h;exact Rb h s
def aK(T:Tr AV):Operand->Option AV
 |.tmp t=>T.get t|.const v=>back v|.func f=>some (.func f [] [])|.global _=>none
def fA(s:Sg)(T:Tr AV)(a:Act)(o:Op):Prop:=∀x∈o.operands,∀u,aK T x=some u->a.eval x=ah s u
theorem o9{s:Sg}{T:Tr AV}{a:Act}{o:Op}(h:∀t,.tmp t∈o.operands->∀u,T.get t=some u->a.tmps[t]?=some (ah s u)):fA s T a o:=by intro x hx u hu;cases x with|tmp t=>have:=h t hx u hu;simp[Act.eval,In,this]|const v=>simp only[aK]at hu;exact(kI hu s).symm|func f=>simp[aK]at hu;subst hu;rfl|global g=>simp[aK]at hu
def di(T:Tr AV):List Operand->Option (List AV)
 |[]=>some []|x::l=>match aK T x with
  |some v=>match di T l with|some vs=>some (v::vs)|none=>none
  |none=>none
theorem KY{s:Sg}{T:Tr AV}{a:Act}:∀{l:List Operand}{vs:List AV},di T l=some vs->(∀x∈l,∀u,aK T x=some u->a.eval x=ah s u) ->
  l.map a.eval=aL s vs
 |[],vs,h,_=>by simp[di]at h;subst h;rfl|x::l,vs,h,hr=>by
  simp only[di]at h;cases hv:aK T x<;>simp only[hv]at h
  .cases h
  cases hl:di T l<;>simp only[hl]at h
  .cases h
  simp at h;subst h;simp[aL,hr x acv _ hv,KY hl (fun y hy=>hr y (by simp[hy]))]
def cz(P:Program)(t:TypeId):Option Nat:=match P.info? t with|some i=>some i.size|none=>none
def dL(P:Program)(t:TypeId):Option AV:=match P.info? t with
 |some i=>match i.zero with|some v=>back v|none=>none
 |none=>none
theorem run_underlying{P:Program}{t:TypeId}{d:TypeDesc}(h:P.underlying t=some d)(w:World):(underlying t).run P w=.ok d w:=by simp[underlying,h]
theorem run_typeInfo{P:Program}{t:TypeId}{d:TypeInfo}(h:P.info? t=some d)(w:World):(typeInfo t).run P w=.ok d w:=by simp[typeInfo,h]
theorem run_sizeOf{P:Program}{t:TypeId}{n:Nat}(h:cz P t=some n)(w:World):(Go.sizeOf t).run P w=.ok n w:=by unfold cz at h;cases hi:P.info? t<;>simp[hi]at h;subst h;simp[Go.sizeOf,run_typeInfo hi]
theorem fZ{P:Program}{t:TypeId}{v:AV}(h:dL P t=some v)(s:Sg)(w:World):(zeroValue t).run P w=.ok (ah s v) w:=by
 unfold dL at h;cases hi:P.info? t<;>simp only[hi]at h
 .cases h
 rename_i i;cases hz:i.zero<;>simp only[hz]at h
 .cases h
 simp[zeroValue,run_typeInfo hi,hz,kI h]
def bV:AV->List AV
 |.agg l=>l|v=>[v]
theorem jL(s:Sg)(v:AV):(ah s v).cells.toList=aL s (bV v):=by cases v<;>simp[ah,Value.cells,bV,aL]
theorem ga(s:Sg)(l:List AV):(aL s l).length=l.length:=by simp[oW]
theorem zm(s:Sg)(l:List AV)(i:Nat):(aL s l)[i]?=(l[i]?).map (ah s):=by simp[oW]
theorem oN(s:Sg)(l m:List AV):aL s (l++m)=aL s l++aL s m:=by simp[oW]
theorem oR(s:Sg)(l:List AV)(n:Nat):aL s (l.take n)=(aL s l).take n:=by simp[oW,List.map_take]
theorem qm(s:Sg)(l:List AV)(n:Nat):aL s (l.drop n)=(aL s l).drop n:=by simp[oW,List.map_drop]
def nth{α:Type}:List α->Nat->Option α
 |[],_=>none|x::l,n=>match n with|0=>some x|n+1=>nth l n
theorem bW{α:Type}:∀(l:List α) (n:Nat),nth l n=l[n]?
 |[],_=>by simp[nth]|x::l,0=>by simp[nth]|x::l,n+1=>by simp[nth,bW l n]
def takeN{α:Type}:Nat->List α->List α
 |0,_=>[]|n+1,l=>match l with|[]=>[]|x::l=>x::takeN n l
def du{α:Type}:Nat->List α->List α
 |0,l=>l|n+1,l=>match l with|[]=>[]|_::l=>du n l
theorem eu{α:Type}:∀(n:Nat) (l:List α),takeN n l=l.take n
 |0,_=>by simp[takeN]|n+1,[]=>by simp[takeN]|n+1,x::l=>by simp[takeN,eu n l]
theorem eW{α:Type}:∀(n:Nat) (l:List α),du n l=l.drop n
 |0,_=>by simp[du]|n+1,[]=>by simp[du]|n+1,x::l=>by simp[du,eW n l]
theorem zb(off:Nat):∀(vs:kw) (k:Nat) (cells:Array Value),off+k+vs.length<=cells.size ->
  ((vs.zipIdx k).foldl (fun cs (x:Value×Nat)=>cs.setIfInBounds (off+x.2) x.1) cells).toList=cells.toList.take (off+k)++vs++cells.toList.drop (off+k+vs.length)
 |[],k,cells,_=>by simp|v::vs,k,cells,h=>by
  simp only[cq]at h;rw[List.zipIdx_cons,List.foldl_cons,zb off vs (k+1) _ (by simp;omega)];simp only[cq];have hs:cells.toList.length=cells.size:=NE;have e:cells.toList.set (off+k) v=(cells.toList.take (off+k)++[v])++cells.toList.drop (off+k+1):=by rw[abD,ut acs];simp
  have hA:(cells.toList.take (off+k)++[v]).length=off+(k+1):=by simp[hs];omega
  rw[Array.toList_setIfInBounds,e,List.take_left' hA];rw[show off+(k+1)+vs.length=(cells.toList.take (off+k)++[v]).length+vs.length by omega,aaX,acm];simp[aaZ,Nat.add_comm,Nat.add_left_comm]
def ia(place:Nat->Option (Nat×Nat)):List AV->List (Nat×AV)->Option (List AV)
 |cells,[]=>some cells|cells,(i,v)::rest=>match place i with|none=>none|some (off,size)=>match Nat.beq (bV v).length size,Nat.ble (off+size) cells.length with|true,true=>ia place (takeN off cells++(bV v++du (off+size) cells)) rest|_,_=>none
theorem zd(s:Sg)(place:Nat->Option (Nat×Nat)):∀(parts:List (Nat×AV)) (cells r:List AV),ia place cells parts=some r ->
  Instr.fill place (aL s cells).toArray (parts.map fun x=>(x.1,ah s x.2))=some (aL s r).toArray
 |[],cells,r,h=>by simp[ia]at h;subst h;rfl|(i,v)::rest,cells,r,h=>by
  simp only[ia]at h;cases hp:place i<;>simp only[hp]at h
  .cases h
  rename_i q;obtain⟨off,size⟩:=q;simp only[]at h;cases h1:Nat.beq (bV v).length size<;>cases h2:Nat.ble (off+size) cells.length<;>simp only[h1,h2]at h<;>first|cases h|skip
  have h1:=aW h1;have h2:=pi h2;have hl:(ah s v).cells.size=size:=by rw[<-NE,jL,ga,h1]
  simp only[Pi,Instr.fill,hp];rw[qr (by simp[hl,ga];omega)];have ih:=zd s place rest _ r h;rw[<-ih];congr 1;apply IS.1;have hz:(ah s v).cells.zipIdx.foldl (fun cs (x:Value×Nat)=>cs.setIfInBounds (off+x.2) x.1) (aL s cells).toArray
    = ((ah s v).cells.toList.zipIdx 0).foldl (fun cs (x:Value×Nat)=>cs.setIfInBounds (off+x.2) x.1) (aL s cells).toArray:=by
   rw[<-Array.foldl_toList];simp
  have:=zb off (ah s v).cells.toList 0 (aL s cells).toArray (by simp[hl,ga];omega);rw[hz,this];simp only[eu,eW,oN,oR,qm,jL,bJ,aaW,ga,h1]
def kN(P:Program)(t:TypeId)(l:List AV)(off:Nat):Option AV:=match P.underlying t with
 |some (.struct _)=>match cz P t with|some n=>some (.agg (takeN n (du off l)))|none=>none
 |some (.array _ _)=>match cz P t with|some n=>some (.agg (takeN n (du off l)))|none=>none
 |some _=>nth l off|none=>none
theorem tu{P:Program}{t:TypeId}{l:List AV}{off:Nat}{v:AV}(h:kN P t l off=some v)(s:Sg)(w:World) :
  (part t (aL s l).toArray off).run P w=.ok (ah s v) w:=by
 unfold kN at h;cases hu:P.underlying t with
 |none=>simp[hu]at h|some d=>
  have hr:=run_underlying hu w;cases d<;>simp only[hu]at h
  case struct|array=>cases hs:cz P t<;>simp[hs]at h;subst h;simp[part,isAgg,hr,run_sizeOf hs,ah,eu,eW,oR,qm,List.extract_eq_take_drop]
  all_goals
   rw[bW]at h;simp[part,isAgg,hr,zm,h]
def pf(P:Program)(t:TypeId)(u:AV)(f:Nat):Option AV:=match P.underlying t with
 |some (.struct fields)=>match nth fields.toList f with
  |some fd=>match u with|.agg l=>kN P fd.type l fd.offset|_=>none
  |none=>none
 |_=>none
theorem GV{P:Program}{t:TypeId}{u v:AV}{f:Nat}(h:pf P t u f=some v)(s:Sg)(w:World) :
  (Instr.field t (ah s u) f).run P w=.ok (ah s v) w:=by
 unfold pf at h;cases hu:P.underlying t with
 |none=>simp[hu]at h|some d=>
  have hr:=run_underlying hu w;cases d<;>simp only[hu]at h<;>try cases h
  rename_i fields;cases hf:nth fields.toList f<;>simp only[hf]at h
  .cases h
  rename_i fd;rw[bW]at hf;cases u<;>simp only[]at h<;>try cases h
  have hf':fields[f]?=some fd:=by grind
  simp[Instr.field,hr,hf',asAgg,ah,tu h]
def oV(P:Program)(t:TypeId)(u:AV)(f:Nat):Option AV:=match P.underlying t with
 |some (.struct fields)=>match nth fields.toList f with
  |some fd=>match u,cz P fd.type with|.ptr b off,some (n+1)=>some (.ptr b (off+fd.offset))|_,_=>none
  |none=>none
 |_=>none
theorem dk(b off n:Nat):(Addr.mk b off none).add n=⟨b,off+n,none⟩:=by unfold Addr.add;grind
theorem GG{P:Program}{t:TypeId}{u v:AV}{f:Nat}(h:oV P t u f=some v)(s:Sg)(w:World) :
  (Instr.fieldAt t (ah s u) f).run P w=.ok (ah s v) w:=by
 unfold oV at h;cases hu:P.underlying t with
 |none=>simp[hu]at h|some d=>
  have hr:=run_underlying hu w;cases d<;>simp only[hu]at h<;>try cases h
  rename_i fields;cases hf:nth fields.toList f<;>simp only[hf]at h
  .cases h
  rename_i fd;rw[bW]at hf;have hf':fields[f]?=some fd:=by grind
  split at h<;>try cases h
  rename_i b off n hs;simp[Instr.fieldAt,hr,hf',Instr.sureAddr,ah,fieldPlace,run_sizeOf hs,dk]
def lI(P:Program)(t:TypeId)(u i:AV):Option AV:=match i with
 |.int k n=>match n with
  |.ofNat n=>match P.underlying t with
   |some (.slice elem)=>match u,cz P elem with
    |.slice b off len _ _,some sz=>match Nat.blt n len with|true=>some (.ptr b (off+n*sz))|false=>none
    |_,_=>none
   |some (.array len elem)=>match u,cz P elem with
    |.ptr b off,some sz=>match Nat.blt n len with|true=>some (.ptr b (off+n*sz))|false=>none
    |_,_=>none
   |_=>none
  |.negSucc _=>none
 |_=>none
theorem GF{P:Program}{t:TypeId}{u i v:AV}(h:lI P t u i=some v)(s:Sg)(w:World) :
  (Instr.indexAt t (ah s u) (ah s i)).run P w=.ok (ah s v) w:=by
 unfold lI at h;cases i<;>simp only[]at h<;>try cases h
 rename_i k n;cases n<;>simp only[]at h<;>try cases h
 rename_i n;cases hu:P.underlying t with
 |none=>simp[hu]at h|some d=>
  have hr:=run_underlying hu w;cases d<;>simp only[hu]at h<;>try cases h
  .split at h<;>try cases h
   rename_i b off len _ _ sz hs;split at h<;>try cases h
   rename_i hb;rw[WP]at hb;simp[Instr.indexAt,asIntOf,ah,hr,run_sizeOf hs,dk,hb]
  .split at h<;>try cases h
   rename_i b off sz hs;split at h<;>try cases h
   rename_i hb;rw[WP]at hb;simp[Instr.indexAt,asIntOf,ah,hr,run_sizeOf hs,dk,hb,Instr.sureAddr]
def sameKind:TypeDesc->AV->AV->Bool
 |.pointer _,.cK,.ptr _ _|.pointer _,.ptr _ _,.cK=>true|.slice _,.bu,.slice _ _ _ _ _|.slice _,.slice _ _ _ _ _,.bu=>true|.map _ _,.cR,.map _|.map _ _,.map _,.cR=>true|.func _ _ _,.cQ,.func _ _ _|.func _ _ _,.func _ _ _,.cQ=>true|_,_,_=>false
theorem TU{P:Program}{t:TypeId}{x y:Operand}{X Y:Value}{r:Bool}{w:World}(hg:eqGuard .eql t x y X Y=pure ())
  (hb:binOp .eql t X Y=(do pure (.bool (<- Op.equal t X Y)))) (he:(Op.equal t X Y).run P w=.ok r w) :
  (do eqGuard .eql t x y X Y;binOp .eql t X Y).run P w=.ok (.bool r) w:=by simp[hg,hb,he]
theorem Uj{P:Program}{t:TypeId}{x y:Operand}{X Y:Value}{r:Bool}{w:World}(hg:eqGuard .neq t x y X Y=pure ())
  (hb:binOp .neq t X Y=(do pure (.bool (!(<- Op.equal t X Y))))) (he:(Op.equal t X Y).run P w=.ok r w) :
  (do eqGuard .neq t x y X Y;binOp .neq t X Y).run P w=.ok (.bool (!r)) w:=by simp[hg,hb,he]
theorem Yd{P:Program}{t:TypeId}{d:TypeDesc}{u v:AV}(hu:P.underlying t=some d)(hk:sameKind d u v=true)(s:Sg)(w:World) :
  ∀n,(Op.equalIn (n+1) t (ah s u) (ah s v)).run P w=.ok false w:=by
 intro n;have hr:=run_underlying hu w;unfold sameKind at hk;split at hk<;>first|contradiction|simp[Op.equalIn,ah,hr]
def og(P:Program)(op:BinOp)(t:TypeId)(x y:Operand)(u v:AV):Option AV:=match gB u,gB v with
 |some a,some b=>match still P 4000 (do eqGuard op t x y a b;binOp op t a b)with|some r=>back r|none=>none
 |_,_=>match P.underlying t with
  |some d=>match sameKind d u v with
   |true=>match op with|.eql=>some (.bool false)|.neq=>some (.bool true)|_=>none
   |false=>none
  |none=>none
theorem Hq{P:Program}{op:BinOp}{t:TypeId}{x y:Operand}{u v r:AV}(h:og P op t x y u v=some r)(s:Sg)(w:World) :
  (do eqGuard op t x y (ah s u) (ah s v);binOp op t (ah s u) (ah s v)).run P w=.ok (ah s r) w:=by
 unfold og at h;split at h
 .rename_i a b ha hb;rw[iS ha,iS hb];split at h<;>try cases h
  rename_i q hq;rw[fK hq,kI h]
 .cases hu:P.underlying t with
  |none=>simp[hu]at h|some d=>
   simp only[hu]at h;cases hk:sameKind d u v<;>simp only[hk]at h
   .cases h
   have he:(Op.equal t (ah s u) (ah s v)).run P w=.ok false w:=Yd hu hk s w 9999;cases op<;>simp only[]at h<;>try cases h
   .refine TU ?_ ?_ he<;>(unfold sameKind at hk;split at hk<;>first|contradiction|rfl)
   .refine Uj ?_ ?_ he<;>(unfold sameKind at hk;split at hk<;>first|contradiction|rfl)
end Go.Proofs.Ytbbhihkocghhaaa.Ev
end
section
namespace Go.Proofs.Ytbbhihkocghhaaa.V
open Go Go.RowKit
open Go.Proofs.Ytbbhihkocghhaaa.Ev (Tr nth bW takeN du eu eW)
inductive Sh where
 |int (k:IntKind)
 |bool
 |str
 |agg (l:List Sh)
 |sl (s:Sh)
@[match_pattern] abbrev Sh.I:Sh:=.int .i64
mutual
def Sh.T:Sh->Type
 |.int _=>Int|.bool=>Bool|.str=>ByteArray|.agg l=>TL l|.sl s=>List s.T
termination_by structural x=>x
def TL:List Sh->Type
 |[]=>Unit|s::l=>s.T×TL l
termination_by structural x=>x
end
mutual
def Sh.zero:(s:Sh)->s.T
 |.int _=>(0:Int)|.bool=>false|.str=>ByteArray.empty|.agg l=>Br l|.sl _=>[]
termination_by structural x=>x
def Br:(l:List Sh)->TL l
 |[]=>()|s::l=>(s.zero,Br l)
termination_by structural x=>x
end
mutual
def Sh.size:Sh->Nat
 |.int _=>1|.bool=>1|.str=>1|.agg l=>oo l|.sl _=>1
termination_by structural x=>x
def oo:List Sh->Nat
 |[]=>0|s::l=>s.size+oo l
termination_by structural x=>x
end
mutual
def Sh.eqv:Sh->Sh->Bool
 |.int k,b=>match b with|.int k'=>Nat.beq (Ev.IntKind.num k) (Ev.IntKind.num k')|_=>false
 |.bool,b=>match b with|.bool=>true|_=>false
 |.str,b=>match b with|.str=>true|_=>false
 |.agg l,b=>match b with|.agg m=>iY l m|_=>false
 |.sl s,b=>match b with|.sl t=>s.eqv t|_=>false
termination_by structural x=>x
def iY:List Sh->List Sh->Bool
 |[],m=>match m with|[]=>true|_=>false
 |s::l,m=>match m with
  |t::m=>(match s.eqv t with|true=>iY l m|false=>false)
  |[]=>false
termination_by structural x=>x
end
mutual
theorem Sh.eg:∀{a b:Sh},a.eqv b=true->a=b
 |.int k,b,h=>by
  cases b<;>simp only[Sh.eqv]at h<;>first|cases h|skip
  rw[Ev.IntKind.qz (aW h)]
 |.bool,b,h=>by cases b<;>simp only[Sh.eqv]at h<;>first|rfl|cases h
 |.str,b,h=>by cases b<;>simp only[Sh.eqv]at h<;>first|rfl|cases h
 |.agg l,b,h=>by cases b<;>simp only[Sh.eqv]at h<;>first|cases h|(rw[mN h])
 |.sl s,b,h=>by cases b<;>simp only[Sh.eqv]at h<;>first|cases h|(rw[Sh.eg h])
theorem mN:∀{a b:List Sh},iY a b=true->a=b
 |[],b,h=>by cases b<;>simp only[iY]at h<;>first|rfl|cases h
 |s::l,b,h=>by
  cases b<;>simp only[iY]at h<;>first|cases h|skip
  rename_i t m;cases hx:s.eqv t<;>simp only[hx]at h
  .cases h
  rw[Sh.eg hx,mN h]
end
def aV{α:Type}(R:α->kw->Prop):List α->kw->Prop
 |[],cs=>cs=[]|x::L,cs=>∃c r,cs=c++r/\R x c/\aV R L r
theorem aV.mono{α:Type}{R R':α->kw->Prop}(h:∀x c,R x c->R' x c):∀{L:List α}{cs:kw},aV R L cs->aV R' L cs
 |[],_,q=>q|x::L,_,⟨c,r,e,q,t⟩=>⟨c,r,e,h x c q,aV.mono h t⟩
theorem aV.append{α:Type}{R:α->kw->Prop}:∀{L M:List α}{c d:kw},aV R L c->aV R M d->aV R (L++M) (c++d)
 |[],M,_,d,rfl,q=>q|x::L,M,_,d,⟨c,r,rfl,q,t⟩,u=>⟨c,r++d,acv,q,aV.append t u⟩
theorem aV.take{α:Type}{R:α->kw->Prop}{z:Nat}(hz:∀x c,R x c->c.length=z):∀{L:List α}{cs:kw}(n:Nat),aV R L cs->aV R (L.take n) (cs.take (n*z))
 |[],_,n,rfl=>by simp[aV]|x::L,_,0,_=>by simp[aV]|x::L,_,n+1,⟨c,r,rfl,q,t⟩=>by refine⟨c,r.take (n*z),?_,q,aV.take hz n t⟩;have hc:=hz x c q;rw[show(n+1)*z=c.length+n*z by rw[hc,Ne];omega,abz]
theorem aV.drop{α:Type}{R:α->kw->Prop}{z:Nat}(hz:∀x c,R x c->c.length=z):∀{L:List α}{cs:kw}(n:Nat),aV R L cs->aV R (L.drop n) (cs.drop (n*z))
 |[],_,n,rfl=>by simp[aV]|x::L,cs,0,h=>by grind|x::L,_,n+1,⟨c,r,rfl,q,t⟩=>by
  have:=aV.drop hz n t;have hc:=hz x c q;have e:(c++r).drop ((n+1)*z)=r.drop (n*z):=by rw[show(n+1)*z=c.length+n*z by rw[hc,Ne];omega,aaX]
  rw[e];simpa using this
theorem aV.length{α:Type}{R:α->kw->Prop}{z:Nat}(hz:∀x c,R x c->c.length=z):∀{L:List α}{cs:kw},aV R L cs->cs.length=L.length*z
 |[],_,rfl=>by simp|x::L,_,⟨c,r,rfl,q,t⟩=>by rw[aP,hz x c q,aV.length hz t,cq,Ne];omega
theorem aV.get{α:Type}{R:α->kw->Prop}{z:Nat}(hz:∀x c,R x c->c.length=z):∀{L:List α}{cs:kw}{i:Nat}{x:α},aV R L cs->L[i]?=some x ->
  ∃c,R x c/\∀j,j<z->cs[i*z+j]?=c[j]?
 |[],_,i,x,_,h=>by simp at h|y::L,_,0,x,⟨c,r,rfl,q,t⟩,h=>by grind|y::L,_,i+1,x,⟨c,r,rfl,q,t⟩,h=>by
  obtain⟨d,h1,h2⟩:=aV.get hz t (by simpa using h)
  grind
theorem aV.set{α:Type}{R:α->kw->Prop}{z:Nat}(hz:∀x c,R x c->c.length=z):∀{L:List α}{cs:kw}{i:Nat}{x:α}{c:kw},aV R L cs->i<L.length->R x c ->
  aV R (L.set i x) (cs.take (i*z)++c++cs.drop (i*z+z))
 |[],_,i,x,c,_,h,_=>by simp at h|y::L,_,0,x,c,⟨d,r,rfl,q,t⟩,h,hc=>by
  refine⟨c,r,?_,hc,t⟩
  grind
 |y::L,_,i+1,x,c,⟨d,r,rfl,q,t⟩,h,hc=>by
  refine⟨d,r.take (i*z)++c++r.drop (i*z+z),?_,q,aV.set hz t (by grind) hc⟩;have hd:=hz y d q;have e1:(d++r).take ((i+1)*z)=d++r.take (i*z):=by rw[show(i+1)*z=d.length+i*z by rw[hd,Ne];omega,abz]
  have e2:(d++r).drop ((i+1)*z+z)=r.drop (i*z+z):=by rw[show(i+1)*z+z=d.length+(i*z+z) by rw[hd,Ne];omega,aaX]
  rw[e1,e2];simp
def tT(w:World)(b o:Nat)(cs:kw):Prop:=∃c ty fr,w.heap[b]?=some (.cells c ty fr)/\∀j u,cs[j]?=some u->c[o+j]?=some u
mutual
def Cs(w:World)(A:Nat->Prop):(σ:Sh)->σ.T->kw->Prop
 |.int k,n,cs=>cs=[.int k n]|.bool,b,cs=>cs=[.bool b]|.str,s,cs=>cs=[.string s]|.agg l,d,cs=>fg w A l d cs|.sl s,L,cs=>∃a len cap,cs=[.slice a len cap]/\len=List.length L/\len<=cap/\(L≠[]->∃b o X,a=some ⟨b,o,none⟩/\¬A b/\aV (Cs w A s) L X/\tT w b o X)
termination_by structural x=>x
def fg(w:World)(A:Nat->Prop):(l:List Sh)->TL l->kw->Prop
 |[],_,cs=>cs=[]|s::l,d,cs=>∃c r,cs=c++r/\Cs w A s d.1 c/\fg w A l d.2 r
termination_by structural x=>x
end
mutual
theorem Cs.length{w:World}{A:Nat->Prop}:∀{σ:Sh}{d:σ.T}{cs:kw},Cs w A σ d cs->cs.length=σ.size
 |.int k,n,cs,h=>by rw[show cs=[.int k n]from h];rfl|.bool,b,cs,h=>by rw[show cs=[.bool b]from h];rfl|.str,s,cs,h=>by rw[show cs=[.string s]from h];rfl|.agg l,d,cs,h=>fg.length h|.sl s,L,cs,⟨a,len,cap,h,_⟩=>by rw[h];rfl
theorem fg.length{w:World}{A:Nat->Prop}:∀{l:List Sh}{d:TL l}{cs:kw},fg w A l d cs->cs.length=oo l
 |[],_,cs,h=>by rw[show cs=[]from h];rfl|s::l,d,cs,⟨c,r,e,h1,h2⟩=>by rw[e,aP,Cs.length h1,fg.length h2];rfl
end
def fP(w:World)(A:Nat->Prop)(w':World)(A':Nat->Prop):Prop:=∀b o,¬A b->w.heap[b]?=some o->w'.heap[b]?=some o/\¬A' b
theorem fP.trans{w w' w'':World}{A A' A'':Nat->Prop}(a:fP w A w' A')(b:fP w' A' w'' A''):fP w A w'' A'':=fun k o h q=>let⟨h1,h2⟩:=a k o h q;b k o h2 h1
theorem tT.aH{w w':World}{A A':Nat->Prop}(K:fP w A w' A'){b o:Nat}{cs:kw}(h:tT w b o cs)(ha:¬A b):tT w' b o cs/\¬A' b:=by obtain⟨c,ty,fr,h1,h2⟩:=h;obtain⟨k1,k2⟩:=K b _ ha h1;exact⟨⟨c,ty,fr,k1,h2⟩,k2⟩
mutual
theorem Cs.aH{w w':World}{A A':Nat->Prop}(K:fP w A w' A'):∀{σ:Sh}{d:σ.T}{cs:kw},Cs w A σ d cs->Cs w' A' σ d cs
 |.int k,n,cs,h=>h|.bool,b,cs,h=>h|.str,s,cs,h=>h|.agg l,d,cs,h=>fg.aH K (l:=l) h|.sl s,L,cs,⟨a,len,cap,h1,h2,h3,h4⟩=>⟨a,len,cap,h1,h2,h3,fun hL=>by obtain⟨b,o,X,e1,e2,e3,e4⟩:=h4 hL;obtain⟨k1,k2⟩:=e4.aH K e2;exact⟨b,o,X,e1,k2,e3.mono (fun x c q=>Cs.aH K q),k1⟩⟩
theorem fg.aH{w w':World}{A A':Nat->Prop}(K:fP w A w' A'):∀{l:List Sh}{d:TL l}{cs:kw},fg w A l d cs->fg w' A' l d cs
 |[],_,cs,h=>h|s::l,d,cs,⟨c,r,e,h1,h2⟩=>⟨c,r,e,Cs.aH K h1,fg.aH K h2⟩
end
end Go.Proofs.Ytbbhihkocghhaaa.V
end
section
namespace Go.Proofs.Ytbbhihkocghhaaa.Ev
open Go Go.RowKit
inductive aI where
 |cells (l:List AV) (ty:TypeId) (op:Option Nat)
 |map (es:List (AV×AV×Nat)) (clock:Nat)
structure Hp where
 tr:Tr aI
 next:Nat
def pq(n:Nat):List (AV×AV×Nat)->Bool
 |[]=>true|e::l=>match ws n e.1,ws n e.2.1 with|true,true=>pq n l|_,_=>false
def iV(n:Nat):aI->Bool
 |.cells l _ _=>cC n l|.map es _=>pq n es
theorem nP(n:Nat)(l:List (AV×AV×Nat)):pq n l=true↔∀e∈l,ws n e.1=true/\ws n e.2.1=true:=by
 induction l with
 |nil=>simp[pq]|cons e l ih=>
  simp only[pq]
  grind
variable{o:aI}{n:Nat}
theorem nM{m:Nat}(h:n<=m)(ho:iV n o=true):iV m o=true:=by cases o with|cells l ty op=>exact qv h l ho|map es c=>simp only[iV,nP]at ho |-;exact fun e he=>⟨mJ h _ (ho e he).1,mJ h _ (ho e he).2⟩
def dD(s:Sg)(es:List (AV×AV×Nat)):List MapEntry:=es.map fun e=>⟨ah s e.1,ah s e.2.1,e.2.2⟩
def bS(s:Sg)(i:Nat):aI->Option Obj->Prop
 |.cells l ty none,ob=>ob=some (.cells (aL s l).toArray ty (0,0))|.cells l ty (some sz),ob=>∃tail:kw,ob=some (.cells (aL s l++tail).toArray ty (0,0))/\l.length+tail.length=(s i).2*sz/\(s i).2<=9223372036854775807|.map es clock,ob=>ob=some (.map (dD s es).toArray clock)
variable{ob:Option Obj}{s:Sg}{i:Nat}
theorem bS.there(h:bS s i o ob):∃x,ob=some x:=by
 cases o with
 |cells l ty op=>cases op with|none=>exact⟨_,h⟩|some sz=>obtain⟨t,h,_⟩:=h;exact⟨_,h⟩
 |map es c=>exact⟨_,h⟩
variable{s':Sg}
theorem bS.congr(h:bS s i o ob)(hs:∀j,j<n->s' j=s j)(hi:i<n)(hw:iV n o=true):bS s' i o ob:=by
 cases o with
 |cells l ty op=>have e:aL s' l=aL s l:=oO hs l hw;cases op with|none=>simp only[bS]at h |-;rw[e];exact h|some sz=>simp only[bS]at h |-;rw[e,hs i hi];exact h
 |map es c=>
  have e:dD s' es=dD s es:=by simp only[iV,nP]at hw;apply acd;intro x hx;rw[oQ hs _ (hw x hx).1,oQ hs _ (hw x hx).2]
  simp only[bS]at h |-;rw[e];exact h
structure ab(s:Sg)(h:Hp)(w:World):Prop where
 obj:∀i o,h.tr.get i=some o->bS s i o w.heap[(s i).1]?
 inj:∀i j o o',h.tr.get i=some o->h.tr.get j=some o'->(s i).1=(s j).1->i=j
 lt:∀i o,h.tr.get i=some o->i<h.next
 fO:∀i o,h.tr.get i=some o->iV h.next o=true
variable{w:World}{h:Hp}
theorem ab.bound(H:ab s h w)(hi:h.tr.get i=some o):(s i).1<w.heap.size:=by
 obtain⟨x,hx⟩:=(H.obj i o hi).there
 grind
structure Ext(s:Sg)(h:Hp)(w:World)(s':Sg)(h':Hp)(w':World):Prop where
 os:w'.os=w.os
 tape:w'.tape=w.tape
 output:w'.output=w.output
 size:w.heap.size<=w'.heap.size
 sg:∀i,i<h.next->s' i=s i
 next:h.next<=h'.next
 frame:∀b,b<w.heap.size->(∀i o,h.tr.get i=some o->(s i).1≠b)->w'.heap[b]?=w.heap[b]?
 bz:∀j o,h'.tr.get j=some o->(∃i o',h.tr.get i=some o'/\(s i).1=(s' j).1)\/w.heap.size<=(s' j).1
 aH:∀j o,h'.tr.get j=some o->j<h.next->∃o',h.tr.get j=some o'
theorem Ext.refl(s:Sg)(h:Hp)(w:World):Ext s h w s h w:=⟨rfl,rfl,rfl,ol _,fun _ _=>rfl,ol _,fun _ _ _=>rfl,fun j o hj=>.inl ⟨j,o,hj,rfl⟩,fun j o hj _=>⟨o,hj⟩⟩
theorem Ext.drew(s:Sg)(h:Hp)(w:World)(d:Nat):Ext s h w s h { w with drawn:=d }:=⟨rfl,rfl,rfl,ol _,fun _ _=>rfl,ol _,fun _ _ _=>rfl,fun j o hj=>.inl ⟨j,o,hj,rfl⟩,fun j o hj _=>⟨o,hj⟩⟩
theorem Ext.trans{s'':Sg}{h' h'':Hp}{w' w'':World}(a:Ext s h w s' h' w')(b:Ext s' h' w' s'' h'' w''):Ext s h w s'' h'' w'' where
 os:=b.os.trans a.os
 tape:=b.tape.trans a.tape
 output:=b.output.trans a.output
 size:=pp a.size b.size
 sg i hi:=(b.sg i (rg hi a.next)).trans (a.sg i hi)
 next:=pp a.next b.next
 frame k hk hn:=by
  refine(b.frame k (rg hk a.size) ?_).trans (a.frame k hk hn);intro j o hj e;rcases a.bz j o hj with⟨i,o',hi,q⟩|q
  .exact hn i o' hi (q.trans e)
  .omega
 bz j o hj:=by
  rcases b.bz j o hj with⟨i,o',hi,q⟩|q
  .rcases a.bz i o' hi with⟨k,o'',hk,r⟩|r
   .exact .inl ⟨k,o'',hk,r.trans q⟩
   .exact .inr acs
  .exact .inr (pp a.size q)
 aH j o hj hlt:=by obtain⟨o',ho'⟩:=b.aH j o hj (rg hlt a.next);exact a.aH j o' ho' hlt
def bU(w:World)(b:Nat)(o:Obj):World:={ w with heap:=w.heap.setIfInBounds b o }
theorem dK(w:World)(b:Nat)(o:Obj)(k:Nat):(bU w b o).heap[k]?=if k=b/\b<w.heap.size then some o else w.heap[k]?:=by
 simp only[bU,Id]
 grind
theorem ir(w:World)(b:Nat)(o:Obj):(bU w b o).heap.size=w.heap.size:=by simp[bU]
theorem XI(w:World)(b:Nat)(o o':Obj):bU (bU w b o) b o'=bU w b o':=by
 simp only[bU]
 simp_all
variable{off:Nat}{b:Nat}{c:Array Value}{ty:TypeId}
theorem setCell_eq{fr:Nat×Nat}(h:w.heap[b]?=some (.cells c ty fr))(v:Value) :
  w.setCell ⟨b,off,none⟩ v=bU w b (.cells (c.setIfInBounds off v) ty fr):=by
 unfold World.setCell bU;congr 1
 grind
def jO:Value->Bool
 |.agg _|.tuple _=>false|_=>true
def one:AV->Bool
 |.agg _|.bD _=>false|_=>true
def jh:List AV->Bool
 |[]=>true|x::l=>match one x with|true=>jh l|false=>false
theorem Lq{v:AV}(h:one v=true):jO (ah s v)=true:=by cases v<;>simp[one]at h<;>rfl
theorem Lr(l:List AV):jh l=true↔∀x∈l,one x=true:=by induction l with|nil=>simp[jh]|cons x l ih=>simp only[jh];grind
theorem Zzc{P:Program}{v:Value}(h:w.heap[b]?=some (.cells c ty (0,0)))(ho:off<c.size)
  (hv:jO v=true):(store ⟨b,off,none⟩ v).run P w=.ok () (bU w b (.cells (c.setIfInBounds off v) ty (0,0))):=by
 have hc:w.cell? ⟨b,off,none⟩=some c[off]:=by simp[World.cell?,h,ho]
 have hf:w.frozen? ⟨b,off,none⟩=false:=by simp[World.frozen?,h]
 rw[<-setCell_eq h v];cases v<;>simp[jO]at hv<;>simp[store,Sem.run,hc,hf]
theorem jj{P:Program}{b off:Nat}{ty:TypeId}:∀(vs:kw) (k:Nat) (w:World) (c:Array Value),w.heap[b]?=some (.cells c ty (0,0)) ->
  off+k+vs.length<=c.size->(∀v∈vs,jO v=true) ->
  ∃c',c'.toList=c.toList.take (off+k)++vs++c.toList.drop (off+k+vs.length) /\
   (storeCells ⟨b,off,none⟩ vs k).run P w=.ok () (bU w b (.cells c' ty (0,0)))
 |[],k,w,c,h,hl,_=>by
  refine⟨c,acv,?_⟩;simp only[storeCells,Sem.run_pure];congr 1;unfold bU;have:w.heap.setIfInBounds b (.cells c ty (0,0))=w.heap:=by grind
  rw[this]
 |v::vs,k,w,c,h,hl,ho=>by
  simp only[cq]at hl;have hb:b<w.heap.size:=by
   rcases rt b w.heap.size with q|q
   .exact q
   .rw[aaT q]at h;cases h
  have h1:=Zzc (P:=P) h (off:=off+k) acs (ho v acv);obtain⟨c',hc',hr⟩:=jj (P:=P) (off:=off) vs (k+1) (bU w b (.cells (c.setIfInBounds (off+k) v) ty (0,0))) (c.setIfInBounds (off+k) v)
   (by rw[dK,ut ⟨rfl,hb⟩]) (by simp;omega) (fun x hx=>ho x (by simp[hx]))
  rw[XI]at hr;refine⟨c',?_,?_⟩
  .rw[hc'];simp only[cq];have hs:c.toList.length=c.size:=NE;have e:c.toList.set (off+k) v=(c.toList.take (off+k)++[v])++c.toList.drop (off+k+1):=by rw[abD,ut acs];simp
   have hA:(c.toList.take (off+k)++[v]).length=off+(k+1):=by simp[hs];omega
   rw[Array.toList_setIfInBounds,e,List.take_left' hA];rw[show off+(k+1)+vs.length=(c.toList.take (off+k)++[v]).length+vs.length by omega,aaX,acm];simp[aaZ,Nat.add_comm,Nat.add_left_comm]
  .simp only[storeCells,Sem.run_bind,dk,h1,Result.andThen_ok,hr]
theorem run_loadCells{P:Program}{b off:Nat}{ty:TypeId}{w:World}{c:Array Value}{fr:Nat×Nat}(h:w.heap[b]?=some (.cells c ty fr)) :
  ∀(n i:Nat) (acc:Array Value),off+i+n<=c.size ->
  (loadCellsFrom ⟨b,off,none⟩ i n acc).run P w=.ok (acc.toList++(c.toList.drop (off+i)).take n).toArray w
 |0,i,acc,_=>by simp[loadCellsFrom]|n+1,i,acc,hl=>by
  have hc:w.cell? ⟨b,off+i,none⟩=some c[off+i]:=by simp[World.cell?,h,show off+i<c.size by omega]
  simp only[loadCellsFrom,Sem.run_bind,dk,run_load,hc,Result.andThen_ok];rw[run_loadCells h n (i+1) _ acs];congr 2;have hd:c.toList.drop (off+i)=c[off+i]::c.toList.drop (off+(i+1)):=by rw[aaP (by simp;omega)];simp[aaZ]
  rw[hd];simp
variable{f:Nat}{o':aI}{tr':Tr aI}
theorem ab.put(H:ab s h w){ob:Obj}(hi:h.tr.get i=some o)(hb:w.heap.size=w.heap.size)
  (ho:bS s i o' (some ob)) (hw:iV h.next o'=true) (ht:Tr.set f h.tr i (some o')=some tr') :
  ab s ⟨tr',h.next⟩ (bU w (s i).1 ob)/\Ext s h w s ⟨tr',h.next⟩ (bU w (s i).1 ob):=by
 have hg:=Tr.bE f h.tr i (some o') tr' ht;have aR:=H.bound hi;have alt:∀j aex,tr'.get j=some aex->∃aey,h.tr.get j=some aey:=by grind
 refine⟨⟨?_,?_,?_,?_⟩,⟨rfl,rfl,rfl,by rw[ir];exact ol _,fun _ _=>rfl,ol _,?_,?_,fun j aex hj _=>alt j aex hj⟩⟩
 .intro j aex hj;simp only[hg j]at hj;by_cases q:j=i
  .subst q;simp only[abE,bf]at hj;subst hj;rw[dK,ut ⟨rfl,aR⟩];exact ho
  .rw[qr q]at hj;rw[dK,qr (fun r=>q (H.inj j i aex o hj hi r.1))];exact H.obj j aex hj
 .intro j k aex aey hj hk e;obtain⟨p,hp⟩:=alt j aex hj;obtain⟨q,hq⟩:=alt k aey hk;exact H.inj j k p q hp hq e
 .intro j aex hj;obtain⟨p,hp⟩:=alt j aex hj;exact H.lt j p hp
 .intro j aex hj;simp only[hg j]at hj;by_cases q:j=i
  .subst q
   grind
  .rw[qr q]at hj;exact H.fO j aex hj
 .intro k hk hn;rw[dK,qr (fun r=>hn i o hi r.1.symm)]
 grind
def aQ(s:Sg)(i:Nat)(x:Nat×Nat):Sg:=fun j=>if j=i then x else s j
theorem cE(s:Sg)(i:Nat)(x:Nat×Nat):aQ s i x i=x:=by simp[aQ]
theorem qG(s:Sg)(i:Nat)(x:Nat×Nat){j:Nat}(h:j<i):aQ s i x j=s j:=by simp[aQ];omega
theorem ab.new(H:ab s h w){c:Nat}{ob:Obj}
  (ho:bS (aQ s h.next (w.heap.size,c)) h.next o' (some ob)) (hw:iV (h.next+1) o'=true) (ht:Tr.set f h.tr h.next (some o')=some tr') :
  ab (aQ s h.next (w.heap.size,c)) ⟨tr',h.next+1⟩ { w with heap:=w.heap.push ob } /\
  Ext s h w (aQ s h.next (w.heap.size,c)) ⟨tr',h.next+1⟩ { w with heap:=w.heap.push ob }:=by
 have hg:=Tr.bE f h.tr h.next (some o') tr' ht;have old:∀j aex,h.tr.get j=some aex->aQ s h.next (w.heap.size,c) j=s j:=fun j aex hj=>qG s _ _ (H.lt j aex hj);refine⟨⟨?_,?_,?_,?_⟩,⟨rfl,rfl,rfl,acv,fun i hi=>qG s _ _ hi,acv,?_,?_,fun j aex hj hlt=>by grind⟩⟩
 .intro j aex hj;simp only[hg j]at hj;by_cases q:j=h.next
  .subst q;simp only[abE,bf]at hj;subst hj;rw[cE];simpa using ho
  .rw[qr q]at hj;have hb:=H.bound hj;rw[old j aex hj];show bS _ _ _ ((w.heap.push ob)[(s j).1]?);rw[abA,qr acs];exact(H.obj j aex hj).congr (fun k hk=>qG s _ _ hk) (H.lt j aex hj) (H.fO j aex hj)
 .intro j k aex aey hj hk e;simp only[hg j]at hj;simp only[hg k]at hk;by_cases q:j=h.next
  .by_cases r:k=h.next
   .rw[q,r]
   .rw[qr r]at hk;rw[q,cE,old k aey hk]at e;have:=H.bound hk;simp only[]at e;omega
  .rw[qr q]at hj;by_cases r:k=h.next
   .rw[r,cE,old j aex hj]at e;have:=H.bound hj;simp only[]at e;omega
   .rw[qr r]at hk;rw[old j aex hj,old k aey hk]at e;exact H.inj j k aex aey hj hk e
 .intro j aex hj;simp only[hg j]at hj;by_cases q:j=h.next
  .simp[q]
  .rw[qr q]at hj;have:=H.lt j aex hj;simp only;omega
 .intro j aex hj;simp only[hg j]at hj;by_cases q:j=h.next
  .subst q;simp only[abE,bf]at hj;subst hj;exact hw
  .rw[qr q]at hj;exact nM acv (H.fO j aex hj)
 .intro k hk hn
  grind
 .intro j aex hj;simp only[hg j]at hj;by_cases q:j=h.next
  .subst q;right;rw[cE];exact ol _
  .rw[qr q]at hj;exact .inl ⟨j,aex,hj,by rw[old j aex hj]⟩
theorem ab.kill(H:ab s h w)(ht:Tr.set f h.tr i none=some tr'):ab s ⟨tr',h.next⟩ w/\Ext s h w s ⟨tr',h.next⟩ w:=by
 have hg:=Tr.bE f h.tr i none tr' ht;have sub:∀j o,tr'.get j=some o->h.tr.get j=some o:=by grind
 refine⟨⟨fun j o hj=>H.obj j o (sub j o hj),fun j k o o' hj hk=>H.inj j k o o' (sub j o hj) (sub k o' hk),fun j o hj=>H.lt j o (sub j o hj),fun j o hj=>H.fO j o (sub j o hj)⟩,
  ⟨rfl,rfl,rfl,ol _,fun _ _=>rfl,ol _,fun _ _ _=>rfl,fun j o hj=>.inl ⟨j,o,sub j o hj,rfl⟩,fun j o hj _=>⟨o,sub j o hj⟩⟩⟩
end Go.Proofs.Ytbbhihkocghhaaa.Ev
end
section
namespace Go.Proofs.Ytbbhihkocghhaaa.V
open Go Go.RowKit
open Go.Proofs.Ytbbhihkocghhaaa.Ev (Tr Tr.bE nth bW takeN du eu eW bU dK ir)
def pV:Sh->Bool|.agg _=>true|_=>false
def ER:Value->Bool|.agg _=>true|_=>false
def cH(w:World)(A:Nat->Prop)(σ:Sh)(d:σ.T)(V:Value):Prop:=Cs w A σ d V.cells.toList/\ER V=pV σ
variable{A:Nat->Prop}{w:World}{σ:Sh}{w':World}{A':Nat->Prop}
theorem cH.aH(K:fP w A w' A'){d:σ.T}{V:Value}(h:cH w A σ d V):cH w' A' σ d V:=⟨h.1.aH K,h.2⟩
abbrev cU(σ:Sh):=List (Int×σ.T×Unit)
def gg(w:World)(A:Nat->Prop)(κ:IntKind)(σ:Sh):List MapEntry->cU σ->Prop
 |[],N=>N=[]|e::es,N=>match N with|p::N=>e.key=.int κ p.1/\cH w A σ p.2.1 e.val/\gg w A κ σ es N|[]=>False
variable{κ:IntKind}
theorem gg.aH(K:fP w A w' A'):∀{es:List MapEntry}{N:cU σ},gg w A κ σ es N->gg w' A' κ σ es N
 |[],_,h=>h|e::es,N,h=>by cases N with|nil=>exact h|cons p N=>exact⟨h.1,h.2.1.aH K,h.2.2.aH K⟩
def gn(w:World)(A:Nat->Prop)(κ:IntKind)(σ:Sh)(es:Array MapEntry)(clock:Nat)(M:cU σ):Prop:=∃N:cU σ,N.Perm M/\gg w A κ σ es.toList N/\M.Pairwise (fun p q=>p.1<q.1)/\(∀e∈es.toList,e.born<clock)/\es.toList.Pairwise (fun e f=>e.born≠f.born)
theorem gn.aH(K:fP w A w' A'){es:Array MapEntry}{clock:Nat}{M:cU σ}(h:gn w A κ σ es clock M):gn w' A' κ σ es clock M:=by obtain⟨N,h1,h2,h3⟩:=h;exact⟨N,h1,h2.aH K,h3⟩
abbrev gR:=Int×Int×List (Int×Int×Unit)×Unit
inductive AV where
 |bool (b:Bool)
 |int (k:IntKind) (n:Int)
 |str (s:ByteArray)
 |cK
 |bu
 |cR
 |cQ
 |dy
 |ij
 |ptr (b off:Nat)
 |cY (b i z o:Nat)
 |eC (σ:Sh) (d:σ.T) (o:Nat)
 |hd (b:Nat) (τ:Sh)
 |vw (b:Nat) (τ:Sh) (off len:Nat)
 |fz (τ:Sh) (L:List τ.T)
 |func (f:FuncId) (first cap:List AV)
 |dt (τ:Sh) (z:Bool) (L:List τ.T)
 |mp (b:Nat)
 |dA (b:Nat)
 |rp (b i:Nat)
 |ra (b i:Nat)
 |agg (l:List AV)
 |bD (l:List AV)
inductive aI where
 |cells (l:List AV) (ty:TypeId)
 |arr (τ:Sh) (L:List τ.T) (ty:TypeId)
 |map (κ:IntKind) (σ:Sh) (M:cU σ)
 |d7 (L:List gR) (ty:TypeId)
 |cT (τ:Sh) (i:Nat) (L:List τ.T) (vs:List AV) (ty:TypeId)
structure Hp where
 tr:Tr aI
 next:Nat
def aI.row:aI->Option Nat
 |.arr _ L _=>some L.length|.cT _ _ L _ _=>some L.length|_=>none
def rowOf(t:Tr aI)(b:Nat):Option Nat:=match t.get b with|some o=>o.row|none=>none
variable{τ:Sh}{L:List τ.T}{b:Nat}{t:Tr aI}{ty:TypeId}
theorem iM(h:t.get b=some (.arr τ L ty)):rowOf t b=some L.length:=by unfold rowOf;rw[h];rfl
theorem O7{i:Nat}{vs:List AV}(h:t.get b=some (.cT τ i L vs ty)):rowOf t b=some L.length:=by unfold rowOf;rw[h];rfl
theorem jd{n:Nat}(h:rowOf t b=some n):∃o,t.get b=some o/\o.row=some n:=by
 unfold rowOf at h
 grind
theorem ie{o:aI}(h:t.get b=some o):rowOf t b=o.row:=by unfold rowOf;rw[h]
theorem OY{t':Tr aI}{b':Nat}(h:t.get b=t'.get b'):rowOf t b=rowOf t' b':=by unfold rowOf;rw[h]
inductive Loc where
 |at (b cap:Nat)
 |bX (b cap:Nat) (m:List (Nat×Nat))
 |nil
abbrev Sg:=Nat->Option Loc
def Loc.slice:Loc->Nat->Value
 |.at b c,n=>.slice (some ⟨b,0,none⟩) n c|.bX b c _,n=>.slice (some ⟨b,0,none⟩) n c|.nil,n=>.slice none n 0
def Loc.J0:Loc->Value
 |.bX b c m=>.slice (some ⟨b,0,none⟩) m.length c|_=>.slice none 0 0
def Loc.own:Loc->Nat->Prop
 |.at b _,x=>x=b|.bX b _ m,x=>x=b\/∃p∈m,x=p.1\/x=p.2|.nil,_=>False
def od(w:World)(A:Nat->Prop)(p:Nat×Nat)(d:gR)(ty:TypeId):Prop:=w.heap[p.1]?=some (.cells #[.int .i64 d.1,.int .i64 d.2.1,.map (some p.2)] ty (0,0))/\∃es clock,w.heap[p.2]?=some (.map es clock)/\gn w A .u64 (.int .u64) es clock d.2.2.1
def eJ(w:World)(A:Nat->Prop)(ty:TypeId):List (Nat×Nat)->List gR->Prop
 |[],L=>L=[]|p::m,L=>match L with|d::L=>od w A p d ty/\eJ w A ty m L|[]=>False
def iC(m:List (Nat×Nat)):kw:=m.map fun p=>.pointer (some ⟨p.1,0,none⟩)
def eT(m:List (Nat×Nat)):jp:=m.flatMap fun p=>[p.1,p.2]
structure Cx where
 s:Sg
 h:Hp
 w:World
 A:Nat->Prop
def Cx.bz(X:Cx)(b:Nat):Prop:=∃i o l,X.h.tr.get i=some o/\X.s i=some l/\l.own b
def Cx.out(X:Cx)(b:Nat):Prop:=X.A b\/X.bz b
mutual
def Rel(X:Cx):AV->Value->Prop
 |.bool b,V=>V=.bool b|.int k n,V=>V=.int k n|.str s,V=>V=.string s|.cK,V=>V=.pointer none|.bu,V=>V=.slice none 0 0|.cR,V=>V=.map none|.cQ,V=>V=.nilFunc|.dy,V=>V=.nilIface|.ij,V=>Ev.jO V=true|.ptr b off,V=>∃x c,X.s b=some (.at x c)/\V=.pointer (some ⟨x,off,none⟩)|.cY b i z o,V=>∃x c,X.s b=some (.at x c)/\V=.pointer (some ⟨x,i*z+o,none⟩)/\∀n,rowOf X.h.tr b=some n->i<n|.eC σ d o,V=>∃b off cs,V=.pointer (some ⟨b,off+o,none⟩)/\¬X.out b/\Cs X.w X.out σ d cs/\tT X.w b off cs|.hd b τ,V=>∃l,X.s b=some l/\Ev.jO V=true/\∀n,rowOf X.h.tr b=some n->V=l.slice n|.vw b τ off len,V=>∃l a c,X.s b=some l/\V=.slice a len c/\len<=c/\(0<len->∃x k,l=.at x k/\a=some ⟨x,off*τ.size,none⟩)/\(off=0->V=l.slice len) /\
   ∀n,rowOf X.h.tr b=some n->off+len<=n
 |.fz τ L,V=>Cs X.w X.out (.sl τ) L [V]|.func f x c,V=>∃xs cs,V=.func (.func f) (List.toArray xs) (List.toArray cs)/\bc X x xs/\bc X c cs|.dt τ z L,V=>Cs X.w X.out (.sl τ) L [V]/\∃a l c,V=.slice a l c/\a.isNone=z|.mp b,V=>∃x c,X.s b=some (.at x c)/\V=.map (some x)|.dA b,V=>∃l,X.s b=some l/\V=l.J0|.rp b i,V=>∃x c m p,X.s b=some (.bX x c m)/\m[i]?=some p/\V=.pointer (some ⟨p.1,0,none⟩)|.ra b i,V=>∃x c m,X.s b=some (.bX x c m)/\i<m.length/\V=.pointer (some ⟨x,i,none⟩)|.agg l,V=>∃cs,V=.agg (List.toArray cs)/\bc X l cs|.bD l,V=>∃cs,V=.tuple (List.toArray cs)/\bc X l cs
termination_by structural x=>x
def bc(X:Cx):List AV->kw->Prop
 |[],cs=>cs=[]|x::l,cs=>∃v r,cs=v::r/\Rel X x v/\bc X l r
termination_by structural x=>x
end
structure fp(X X':Cx):Prop where
 sg:∀i l,X.s i=some l->X'.s i=some l
 K:fP X.w X.out X'.w X'.out
 len:∀j l n,X.s j=some l->rowOf X'.h.tr j=some n->rowOf X.h.tr j=some n
theorem fp.refl(X:Cx):fp X X:=⟨fun _ _ h=>h,fun b o h q=>⟨q,h⟩,fun j l n _ h=>h⟩
mutual
theorem Rel.ext{X X':Cx}(E:fp X X'):∀{v:AV}{V:Value},Rel X v V->Rel X' v V
 |.bool _,_,h|.int _ _,_,h|.str _,_,h|.cK,_,h|.bu,_,h|.cR,_,h|.cQ,_,h|.dy,_,h|.ij,_,h=>h|.ptr b off,V,⟨x,c,h1,h2⟩=>⟨x,c,E.sg _ _ h1,h2⟩|.cY b i z o,V,⟨x,c,h1,h2,h3⟩=>⟨x,c,E.sg _ _ h1,h2,fun n q=>h3 n (E.len b _ n h1 q)⟩|.eC σ d o,V,⟨b,off,cs,h1,h2,h3,h4⟩=>by obtain⟨k1,k2⟩:=h4.aH E.K h2;exact⟨b,off,cs,h1,k2,h3.aH E.K,k1⟩
 |.hd b τ,V,⟨l,h1,hc,h2⟩=>⟨l,E.sg _ _ h1,hc,fun n q=>h2 n (E.len b _ n h1 q)⟩|.vw b τ off len,V,⟨l,a,c,h1,h2,h3,h4,h5,h6⟩=>⟨l,a,c,E.sg _ _ h1,h2,h3,h4,h5,fun n q=>h6 n (E.len b _ n h1 q)⟩|.fz τ L,V,h=>Cs.aH E.K (σ:=.sl τ) h|.func f x c,V,⟨xs,cs,h1,h2,h3⟩=>⟨xs,cs,h1,bc.ext E h2,bc.ext E h3⟩|.dt τ z L,V,h=>⟨Cs.aH E.K (σ:=.sl τ) h.1,h.2⟩|.mp b,V,⟨x,c,h1,h2⟩=>⟨x,c,E.sg _ _ h1,h2⟩|.dA b,V,⟨l,h1,h2⟩=>⟨l,E.sg _ _ h1,h2⟩|.rp b i,V,⟨x,c,m,p,h1,h2⟩=>⟨x,c,m,p,E.sg _ _ h1,h2⟩|.ra b i,V,⟨x,c,m,h1,h2⟩=>⟨x,c,m,E.sg _ _ h1,h2⟩|.agg l,V,⟨cs,h1,h2⟩=>⟨cs,h1,bc.ext E h2⟩|.bD l,V,⟨cs,h1,h2⟩=>⟨cs,h1,bc.ext E h2⟩
theorem bc.ext{X X':Cx}(E:fp X X'):∀{l:List AV}{cs:kw},bc X l cs->bc X' l cs
 |[],_,h=>h|x::l,_,⟨v,r,e,h1,h2⟩=>⟨v,r,e,Rel.ext E h1,bc.ext E h2⟩
end
theorem bc.length{X:Cx}:∀{l:List AV}{cs:kw},bc X l cs->cs.length=l.length
 |[],_,h=>by rw[show _=[]from h];rfl|x::l,_,⟨v,r,e,h1,h2⟩=>by rw[e,cq,cq,h2.length]
theorem bc.append{X:Cx}:∀{l m:List AV}{cs ds:kw},bc X l cs->bc X m ds->bc X (l++m) (cs++ds)
 |[],m,_,ds,h,q=>by rw[show _=[]from h];simpa using q|x::l,m,_,ds,⟨v,r,e,h1,h2⟩,q=>⟨v,r++ds,by rw[e];rfl,h1,h2.append q⟩
theorem bc.take{X:Cx}:∀{l:List AV}{cs:kw}(n:Nat),bc X l cs->bc X (l.take n) (cs.take n)
 |[],_,n,h=>by rw[show _=[]from h];simp[bc]|x::l,_,0,h=>by simp[bc]|x::l,_,n+1,⟨v,r,e,h1,h2⟩=>⟨v,r.take n,by rw[e];rfl,h1,h2.take n⟩
theorem bc.drop{X:Cx}:∀{l:List AV}{cs:kw}(n:Nat),bc X l cs->bc X (l.drop n) (cs.drop n)
 |[],_,n,h=>by rw[show _=[]from h];simp[bc]|x::l,_,0,h=>by grind|x::l,_,n+1,⟨v,r,e,h1,h2⟩=>by rw[e];simpa using h2.drop n
theorem bc.get{X:Cx}:∀{l:List AV}{cs:kw}{i:Nat}{v:AV},bc X l cs->l[i]?=some v->∃V,cs[i]?=some V/\Rel X v V
 |[],_,i,v,h,q=>by simp at q|x::l,_,0,v,⟨u,r,e,h1,h2⟩,q=>by grind|x::l,_,i+1,v,⟨u,r,e,h1,h2⟩,q=>by
  obtain⟨V,a,b⟩:=h2.get (by simpa using q)
  grind
def bS(X:Cx)(l:Loc):aI->Prop
 |.cells vs ty=>∃b c cs,l=.at b c/\X.w.heap[b]?=some (.cells (List.toArray cs) ty (0,0))/\bc X vs cs|.arr τ L ty=>match l with|.nil=>L=[]|.at b c=>∃cs tail,X.w.heap[b]?=some (.cells (List.toArray (cs++tail)) ty (0,0))/\aV (Cs X.w X.out τ) L cs/\cs.length+tail.length=c*τ.size/\L.length<=c|.bX _ _ _=>False
 |.map κ σ M=>∃x c es clk,l=.at x c/\X.w.heap[x]?=some (.map es clk)/\gn X.w X.out κ σ es clk M|.d7 L ty=>match l with|.nil=>L=[]|.bX b c m=>∃tail ty',X.w.heap[b]?=some (.cells (List.toArray (iC m++tail)) ty' (0,0))/\m.length+tail.length=c/\eJ X.w X.out ty m L/\(b::eT m).Nodup|.at _ _=>False
 |.cT τ i L vs ty=>∃b c pre mid post tail,l=.at b c/\X.w.heap[b]?=some (.cells (List.toArray (pre++(mid++(post++tail)))) ty (0,0))/\aV (Cs X.w X.out τ) (L.take i) pre/\bc X vs mid/\aV (Cs X.w X.out τ) (L.drop (i+1)) post /\
   i<L.length/\mid.length=τ.size/\pre.length+(mid.length+(post.length+tail.length))=c*τ.size/\L.length<=c
theorem od.ext{w w':World}{A A':Nat->Prop}(K:fP w A w' A'){p:Nat×Nat}{d:gR}{ty:TypeId}(h1:w'.heap[p.1]?=w.heap[p.1]?)(h2:w'.heap[p.2]?=w.heap[p.2]?)(h:od w A p d ty):od w' A' p d ty:=by obtain⟨a,es,clk,b,c⟩:=h;exact⟨h1.trans a,es,clk,h2.trans b,c.aH K⟩
theorem eJ.ext{w w':World}{A A':Nat->Prop}(K:fP w A w' A'){ty:TypeId}:∀{m:List (Nat×Nat)}{L:List gR},(∀p∈m,w'.heap[p.1]?=w.heap[p.1]?/\w'.heap[p.2]?=w.heap[p.2]?)->eJ w A ty m L->eJ w' A' ty m L
 |[],L,_,h=>h|p::m,L,hb,h=>by cases L with|nil=>exact h|cons d L=>exact⟨h.1.ext K (hb p acv).1 (hb p acv).2,eJ.ext K (fun q hq=>hb q (by simp[hq])) h.2⟩
theorem eJ.there{w:World}{A:Nat->Prop}{ty:TypeId}:∀{m:List (Nat×Nat)}{L:List gR},eJ w A ty m L->∀p∈m,(∃ob,w.heap[p.1]?=some ob)/\∃ob,w.heap[p.2]?=some ob
 |[],L,h,p,hp=>by cases hp
 |q::m,L,h,p,hp=>by
  cases L with
  |nil=>exact h.elim|cons d L=>
   rcases BY.1 hp with rfl|hp
   .obtain⟨⟨a,es,clk,b,c⟩,_⟩:=h
    grind
   .exact eJ.there h.2 p hp
theorem eJ.len{w:World}{A:Nat->Prop}{ty:TypeId}:∀{m:List (Nat×Nat)}{L:List gR},eJ w A ty m L->m.length=L.length
 |[],L,h=>by rw[show L=[]from h];rfl|p::m,L,h=>by cases L with|nil=>exact h.elim|cons d L=>rw[cq,cq,eJ.len h.2]
theorem bS.ext{X X':Cx}(E:fp X X'){l:Loc}{o:aI}(hb:∀b,l.own b->X'.w.heap[b]?=X.w.heap[b]?)(h:bS X l o):bS X' l o:=by
 cases o with
 |cells vs ty=>obtain⟨b,c,cs,h1,h2,h3⟩:=h;exact⟨b,c,cs,h1,(hb b (by rw[h1];rfl)).trans h2,h3.ext E⟩
 |arr τ L ty=>
  cases l with
  |nil=>exact h|«at» b c=>obtain⟨cs,tail,h1,h2,h3,h4⟩:=h;exact⟨cs,tail,(hb b rfl).trans h1,h2.mono (fun x d q=>q.aH E.K),h3,h4⟩
  |bX b c m=>exact h.elim
 |map κ σ M=>obtain⟨x,c,es,clk,rfl,h2,h3⟩:=h;exact⟨x,c,es,clk,rfl,(hb _ rfl).trans h2,h3.aH E.K⟩
 |d7 L ty=>cases l with|nil=>exact h|«at» b c=>exact h.elim|bX b c m=>obtain⟨tail,ty',h1,h2,h3,h4⟩:=h;exact⟨tail,ty',(hb b (.inl rfl)).trans h1,h2,h3.ext E.K (fun p hp=>⟨hb _ (.inr ⟨p,hp,.inl rfl⟩),hb _ (.inr ⟨p,hp,.inr rfl⟩)⟩),h4⟩
 |cT τ i L vs ty=>obtain⟨b,c,pre,mid,post,tail,rfl,h1,h2,h3,h4,h5⟩:=h;exact⟨b,c,pre,mid,post,tail,rfl,(hb b rfl).trans h1,h2.mono (fun x d q=>q.aH E.K),h3.ext E,h4.mono (fun x d q=>q.aH E.K),h5⟩
theorem bS.there{X:Cx}{l:Loc}{b:Nat}{o:aI}(h:bS X l o)(hb:l.own b):∃ob,X.w.heap[b]?=some ob:=by
 cases o with
 |cells vs ty=>obtain⟨b',c',cs,rfl,h2,h3⟩:=h;cases hb;exact⟨_,h2⟩
 |arr τ L ty=>
  cases l with
  |nil=>exact hb.elim|«at» b' c=>obtain⟨cs,tail,h1,h2,h3,h4⟩:=h;cases hb;exact⟨_,h1⟩
  |bX b c m=>exact h.elim
 |map κ σ M=>obtain⟨x,c,es,clk,rfl,h2,h3⟩:=h;cases hb;exact⟨_,h2⟩
 |d7 L ty=>
  cases l with
  |nil=>exact hb.elim|«at» b c=>exact h.elim|bX b' c m=>
   obtain⟨tail,ty',h1,h2,h3,h4⟩:=h;rcases hb with rfl|⟨q,hq,rfl|rfl⟩
   .exact⟨_,h1⟩
   .exact(h3.there q hq).1
   .exact(h3.there q hq).2
 |cT τ i L vs ty=>obtain⟨b',c,pre,mid,post,tail,rfl,h1,_⟩:=h;cases hb;exact⟨_,h1⟩
structure ab(X:Cx):Prop where
 obj:∀i o l,X.h.tr.get i=some o->X.s i=some l->bS X l o
 inj:∀i j o o' l l' b,X.h.tr.get i=some o->X.h.tr.get j=some o'->X.s i=some l->X.s j=some l'->l.own b->l'.own b->i=j
 lt:∀i o,X.h.tr.get i=some o->i<X.h.next
 cr:∀i l,X.s i=some l->i<X.h.next
 alt:∀b,X.A b->b<X.w.heap.size
 loc:∀i o l b,X.h.tr.get i=some o->X.s i=some l->l.own b->¬X.A b
theorem gW{α:Type}{a:Array α}{i:Nat}{x:α}(h:a[i]?=some x):i<a.size:=by grind
theorem ab.i6{X:Cx}(H:ab X){i:Nat}{o:aI}{l:Loc}{b:Nat}(hi:X.h.tr.get i=some o)(hs:X.s i=some l)(hb:l.own b):b<X.w.heap.size:=by obtain⟨ob,h⟩:=(H.obj i o _ hi hs).there hb;exact gW h
theorem ab.bound{X:Cx}(H:ab X){i:Nat}{o:aI}{b c:Nat}(hi:X.h.tr.get i=some o)(hs:X.s i=some (.at b c)):b<X.w.heap.size:=H.i6 hi hs rfl
theorem ab.vX{X:Cx}(H:ab X){b:Nat}(h:X.bz b):b<X.w.heap.size:=by obtain⟨i,o,l,h1,h2,h3⟩:=h;exact H.i6 h1 h2 h3
structure aB(X X':Cx):Prop where
 os:X'.w.os=X.w.os
 tape:X'.w.tape=X.w.tape
 output:X'.w.output=X.w.output
 size:X.w.heap.size<=X'.w.heap.size
 sg:∀i l,X.s i=some l->X'.s i=some l
 cr:∀i l,i<X.h.next->X'.s i=some l->X.s i=some l
 next:X.h.next<=X'.h.next
 frame:∀b,b<X.w.heap.size->¬X.bz b->X'.w.heap[b]?=X.w.heap[b]?
 bz:∀b,X'.bz b->X.bz b\/X.w.heap.size<=b
 len:∀j n,j<X.h.next->rowOf X'.h.tr j=some n->rowOf X.h.tr j=some n
 same:∀i,i<X.h.next->X.s i=none->X'.h.tr.get i=X.h.tr.get i
 A:X'.A=X.A
theorem aB.refl(X:Cx):aB X X:=⟨rfl,rfl,rfl,ol _,fun _ _ h=>h,fun _ _ _ h=>h,ol _,fun _ _ _=>rfl,fun _ h=>.inl h,fun j n _ h=>h,fun _ _ _=>rfl,rfl⟩
theorem aB.trans{X X' X'':Cx}(a:aB X X')(b:aB X' X''):aB X X'' where
 os:=b.os.trans a.os
 tape:=b.tape.trans a.tape
 output:=b.output.trans a.output
 size:=pp a.size b.size
 sg i l h:=b.sg i l (a.sg i l h)
 cr i l hi h:=a.cr i l hi (b.cr i l (rg hi a.next) h)
 next:=pp a.next b.next
 frame k hk hn:=by
  refine(b.frame k (rg hk a.size) fun q=>?_).trans (a.frame k hk hn);rcases a.bz k q with q|q
  .exact hn q
  .omega
 bz k h:=by
  rcases b.bz k h with q|q
  .exact a.bz k q
  .exact .inr (pp a.size q)
 len j n hj h:=a.len j n hj (b.len j n (rg hj a.next) h)
 same i hi hs:=by
  have:X'.s i=none:=by cases q:X'.s i with|none=>rfl|some l=>rw[a.cr i l hi q]at hs;cases hs
  exact(b.same i (rg hi a.next) this).trans (a.same i hi hs)
 A:=b.A.trans a.A
theorem aB.keeps{X X':Cx}(E:aB X X'):fP X.w X.out X'.w X'.out:=by
 intro b o h q;have hb:=gW q;refine⟨(E.frame b hb fun r=>h (.inr r)).trans q,?_⟩;rintro(r|r)
 .rw[E.A]at r;exact h (.inl r)
 .rcases E.bz b r with r|r
  .exact h (.inr r)
  .omega
theorem aB.dw{X X':Cx}(E:aB X X')(H:ab X):fp X X':=⟨E.sg,E.keeps,fun j l n h q=>E.len j n (H.cr j l h) q⟩
theorem aB.drew(X:Cx)(d:Nat):aB X { X with w:={ X.w with drawn:=d } }:=⟨rfl,rfl,rfl,ol _,fun _ _ h=>h,fun _ _ _ h=>h,ol _,fun _ _ _=>rfl,fun _ h=>.inl h,fun j n _ h=>h,fun _ _ _=>rfl,rfl⟩
theorem fp.of_heap{X:Cx}{w:World}(h:w.heap=X.w.heap):fp X { X with w:=w }:=⟨fun _ _ h=>h,fun b o q r=>⟨by grind,q⟩,fun j l n _ q=>q⟩
theorem ab.drew{X:Cx}(H:ab X)(d:Nat):ab { X with w:={ X.w with drawn:=d } }:=⟨fun i o l h q=>(H.obj i o l h q).ext (fp.of_heap (X:=X) (w:={ X.w with drawn:=d }) rfl) (fun _ _=>rfl),H.inj,H.lt,H.cr,H.alt,H.loc⟩
theorem aB.put{X:Cx}(H:ab X){i f:Nat}{o o':aI}{b c:Nat}{ob:Obj}{tr':Tr aI}(hi:X.h.tr.get i=some o)(hs:X.s i=some (.at b c))
  (hl:∀n,o'.row=some n->o.row=some n) (ht:Tr.set f X.h.tr i (some o')=some tr') :
  aB X ⟨X.s,⟨tr',X.h.next⟩,bU X.w b ob,X.A⟩:=by
 have hg:=Tr.bE f X.h.tr i (some o') tr' ht;refine⟨rfl,rfl,rfl,by rw[ir];exact ol _,fun _ _ h=>h,fun _ _ _ h=>h,ol _,?_,?_,?_,?_,rfl⟩
 .intro k hk hn;show(bU X.w b ob).heap[k]?=_;rw[dK,qr];rintro⟨rfl,_⟩;exact hn ⟨i,o,_,hi,hs,rfl⟩
 .rintro k ⟨j,aex,adq,h1,h2⟩;left;simp only[hg j]at h1;by_cases q:j=i
  .subst q;exact⟨j,o,adq,hi,h2⟩
  .rw[qr q]at h1;exact⟨j,aex,adq,h1,h2⟩
 .intro j n hj h
  replace h:rowOf tr' j=some n:=h
  unfold rowOf at h;rw[hg j]at h;by_cases q:j=i
  .subst q;rw[ut rfl]at h;show rowOf X.h.tr j=some n;rw[ie hi];exact hl n h
  .rw[qr q]at h;exact h
 grind
theorem ab.put{X:Cx}(H:ab X){i f:Nat}{o o':aI}{b c:Nat}{ob:Obj}{tr':Tr aI}(hi:X.h.tr.get i=some o)(hs:X.s i=some (.at b c))
  (hl:∀n,o'.row=some n->o.row=some n) (ht:Tr.set f X.h.tr i (some o')=some tr')
  (ho:bS ⟨X.s,⟨tr',X.h.next⟩,bU X.w b ob,X.A⟩ (.at b c) o'):ab ⟨X.s,⟨tr',X.h.next⟩,bU X.w b ob,X.A⟩:=by
 have E:=aB.put (ob:=ob) H hi hs hl ht;have hg:=Tr.bE f X.h.tr i (some o') tr' ht;have alt:∀j aex,tr'.get j=some aex->∃aey,X.h.tr.get j=some aey:=by grind
 refine⟨?_,?_,?_,H.cr,by rw[show(bU X.w b ob).heap.size=X.w.heap.size from ir _ _ _];exact H.alt,?_⟩
 .intro j aex l hj hl';simp only[hg j]at hj;by_cases q:j=i
  .subst q
   grind
  .rw[qr q]at hj;refine(H.obj j aex l hj hl').ext (E.dw H) ?_;intro b' hb';show(bU X.w b ob).heap[b']?=_;rw[dK,qr];rintro⟨rfl,_⟩;exact q (H.inj j i aex o l _ b' hj hi hl' hs hb' rfl)
 .intro j k aex aey l₁ aeq x hj hk e1 e2;obtain⟨p,hp⟩:=alt j aex hj;obtain⟨q,hq⟩:=alt k aey hk;exact H.inj j k p q l₁ aeq x hp hq e1 e2
 .intro j aex hj;obtain⟨p,hp⟩:=alt j aex hj;exact H.lt j p hp
 .intro j aex l₁ x hj e;obtain⟨p,hp⟩:=alt j aex hj;exact H.loc j p l₁ x hp e
def aQ(s:Sg)(i:Nat)(x:Loc):Sg:=fun j=>if j=i then some x else s j
theorem cE(s:Sg)(i:Nat)(x:Loc):aQ s i x i=some x:=by simp[aQ]
theorem cI(s:Sg)(i:Nat)(x:Loc){j:Nat}(h:j≠i):aQ s i x j=s j:=by simp[aQ,h]
theorem fp.real{X:Cx}(H:ab X){i:Nat}{c:Nat}{ob:Obj}(hs:X.s i=none):fp X ⟨aQ X.s i (.at X.w.heap.size c),X.h,{ X.w with heap:=X.w.heap.push ob },X.A⟩:=by
 have hne:∀j l,X.s j=some l->j≠i:=by grind
 refine⟨fun j l h=>by show aQ X.s i _ j=_;rw[cI _ _ _ (hne j l h)];exact h,?_,fun j l n _ q=>q⟩;intro b o h q;have hb:=gW q;refine⟨by grind,?_⟩;rintro(r|⟨j,aex,adq,h1,h2⟩)
 .exact h (.inl r)
 .obtain⟨h2,h3⟩:=h2
  replace h2:aQ X.s i (.at X.w.heap.size c) j=some adq:=h2
  by_cases q:j=i
  .subst q;rw[cE]at h2;cases h2;have:b=X.w.heap.size:=h3;omega
  .rw[cI _ _ _ q]at h2;exact h (.inr ⟨j,aex,adq,h1,h2,h3⟩)
theorem ab.real{X:Cx}(H:ab X){i:Nat}{c:Nat}{ob:Obj}(hs:X.s i=none)(hi:i<X.h.next)
  (ho:∀o,X.h.tr.get i=some o->bS ⟨aQ X.s i (.at X.w.heap.size c),X.h,{ X.w with heap:=X.w.heap.push ob },X.A⟩ (.at X.w.heap.size c) o) :
  ab ⟨aQ X.s i (.at X.w.heap.size c),X.h,{ X.w with heap:=X.w.heap.push ob },X.A⟩:=by
 have E:=fp.real (c:=c) (ob:=ob) H hs;refine⟨?_,?_,H.lt,?_,fun b hb=>by have:=H.alt b hb;simp;omega,?_⟩
 .intro j o l hj hl
  replace hl:aQ X.s i (.at X.w.heap.size c) j=some l:=hl
  by_cases q:j=i
  .subst q;rw[cE]at hl
   grind
  .rw[cI _ _ _ q]at hl;refine(H.obj j o l hj hl).ext E ?_;intro b hb;have:=H.i6 hj hl hb
   grind
 .intro j k o o' adq adr b hj hk e1 e2 f1 f2
  replace e1:aQ X.s i (.at X.w.heap.size c) j=some adq:=e1
  replace e2:aQ X.s i (.at X.w.heap.size c) k=some adr:=e2
  by_cases q:j=i
  .by_cases r:k=i
   .rw[q,r]
   .rw[cI _ _ _ r]at e2;subst q;rw[cE]at e1;cases e1;have:=H.i6 hk e2 f2;have:b=X.w.heap.size:=f1;omega
  .rw[cI _ _ _ q]at e1;by_cases r:k=i
   .subst r;rw[cE]at e2;cases e2;have:=H.i6 hj e1 f1;have:b=X.w.heap.size:=f2;omega
   .rw[cI _ _ _ r]at e2;exact H.inj j k o o' adq adr b hj hk e1 e2 f1 f2
 .intro j l hl
  replace hl:aQ X.s i (.at X.w.heap.size c) j=some l:=hl
  by_cases q:j=i
  .subst q;exact hi
  .rw[cI _ _ _ q]at hl;exact H.cr j l hl
 .intro j o adq b hj e f
  replace e:aQ X.s i (.at X.w.heap.size c) j=some adq:=e
  by_cases q:j=i
  .subst q;rw[cE]at e;cases e;intro ha;have:=H.alt b ha;have:b=X.w.heap.size:=f;omega
  .rw[cI _ _ _ q]at e;exact H.loc j o adq b hj e f
theorem aB.more{X:Cx}(H:ab X){f:Nat}{o:aI}{tr':Tr aI}(ht:Tr.set f X.h.tr X.h.next (some o)=some tr'):aB X ⟨X.s,⟨tr',X.h.next+1⟩,X.w,X.A⟩/\ab ⟨X.s,⟨tr',X.h.next+1⟩,X.w,X.A⟩:=by
 have hg:=Tr.bE f X.h.tr X.h.next (some o) tr' ht;have hn:X.s X.h.next=none:=by cases q:X.s X.h.next with|none=>rfl|some l=>have:=H.cr _ _ q;omega
 have old:∀j l,X.s j=some l->tr'.get j=X.h.tr.get j:=by grind
 have E:aB X ⟨X.s,⟨tr',X.h.next+1⟩,X.w,X.A⟩:=by
  refine⟨rfl,rfl,rfl,ol _,fun _ _ h=>h,fun _ _ _ h=>h,acv,fun _ _ _=>rfl,?_,?_,?_,rfl⟩
  .rintro b ⟨i,aex,c,h1,h2,h3⟩;exact .inl ⟨i,aex,c,by grind,h2,h3⟩
  .intro j n hj h
   replace h:rowOf tr' j=some n:=h
   unfold rowOf at h;rw[hg j,qr acs]at h;exact h
  grind
 refine⟨E,⟨?_,?_,?_,?_,H.alt,?_⟩⟩
 .intro j aex l hj hl
  replace hj:tr'.get j=some aex:=hj
  rw[old j l hl]at hj;exact(H.obj j aex l hj hl).ext (E.dw H) (fun _ _=>rfl)
 .intro j k aex aey b adq adr hj hk e1 e2
  replace hj:tr'.get j=some aex:=hj
  replace hk:tr'.get k=some aey:=hk
  rw[old j _ e1]at hj;rw[old k _ e2]at hk;exact H.inj j k aex aey b adq adr hj hk e1 e2
 .intro j aex hj;simp only[hg j]at hj;by_cases q:j=X.h.next
  .simp[q]
  .rw[qr q]at hj;have:=H.lt j aex hj;simp only;omega
 .intro j l h;have:=H.cr j l h;simp only;omega
 .intro j aex b c hj e
  replace hj:tr'.get j=some aex:=hj
  rw[old j _ e]at hj;exact H.loc j aex b c hj e
theorem Md{X:Cx}(H:ab X){f c:Nat}{o:aI}{ob:Obj}{tr':Tr aI}(ht:Tr.set f X.h.tr X.h.next (some o)=some tr') :
  aB X ⟨aQ X.s X.h.next (.at X.w.heap.size c),⟨tr',X.h.next+1⟩,{ X.w with heap:=X.w.heap.push ob },X.A⟩:=by
 obtain⟨E,H'⟩:=aB.more H ht;have hn:X.s X.h.next=none:=by cases q:X.s X.h.next with|none=>rfl|some l=>have:=H.cr _ _ q;omega
 refine⟨rfl,rfl,rfl,acv,?_,?_,acv,?_,?_,E.len,E.same,rfl⟩
 .intro i l h;have:=H.cr i l h;show aQ X.s _ _ i=_;rw[cI _ _ _ acs];exact h
 .intro i l hi h
  replace h:aQ X.s X.h.next _ i=some l:=h
  rw[cI _ _ _ acs]at h;exact h
 .intro b hb _
  grind
 .rintro b ⟨i,aex,adq,h1,h2,h3⟩
  replace h2:aQ X.s X.h.next (.at X.w.heap.size c) i=some adq:=h2
  by_cases q:i=X.h.next
  .subst q;rw[cE]at h2;cases h2;have:b=X.w.heap.size:=h3;right;omega
  .rw[cI _ _ _ q]at h2;exact E.bz b ⟨i,aex,adq,h1,h2,h3⟩
theorem ab.new{X:Cx}(H:ab X){f c:Nat}{o:aI}{ob:Obj}{tr':Tr aI}(ht:Tr.set f X.h.tr X.h.next (some o)=some tr')
  (ho:bS ⟨aQ X.s X.h.next (.at X.w.heap.size c),⟨tr',X.h.next+1⟩,{ X.w with heap:=X.w.heap.push ob },X.A⟩ (.at X.w.heap.size c) o) :
  ab ⟨aQ X.s X.h.next (.at X.w.heap.size c),⟨tr',X.h.next+1⟩,{ X.w with heap:=X.w.heap.push ob },X.A⟩:=by
 obtain⟨E,H'⟩:=aB.more H ht;have hn:X.s X.h.next=none:=by cases q:X.s X.h.next with|none=>rfl|some l=>have:=H.cr _ _ q;omega
 have hg:=Tr.bE f X.h.tr X.h.next (some o) tr' ht;refine ab.real H' hn acv ?_
 grind
theorem ab.Kq{X:Cx}(H:ab X){f:Nat}{vo:aI}{tr':Tr aI}(ht:Tr.set f X.h.tr X.h.next (some vo)=some tr')(hv:∀X',bS X' .nil vo) :
  aB X ⟨aQ X.s X.h.next .nil,⟨tr',X.h.next+1⟩,X.w,X.A⟩/\ab ⟨aQ X.s X.h.next .nil,⟨tr',X.h.next+1⟩,X.w,X.A⟩:=by
 obtain⟨E,H'⟩:=aB.more H ht;have hn:X.s X.h.next=none:=by cases q:X.s X.h.next with|none=>rfl|some l=>have:=H.cr _ _ q;omega
 have hg:=Tr.bE f X.h.tr X.h.next (some vo) tr' ht;have ne:∀j l b,aQ X.s X.h.next .nil j=some l->l.own b->X.s j=some l:=by
  intro j l b h hb;by_cases q:j=X.h.next
  .subst q;rw[cE]at h;cases h;exact hb.elim
  .rwa [cI _ _ _ q]at h
 have S:aB X ⟨aQ X.s X.h.next .nil,⟨tr',X.h.next+1⟩,X.w,X.A⟩:=by
  refine⟨rfl,rfl,rfl,ol _,?_,?_,acv,fun _ _ _=>rfl,?_,E.len,E.same,rfl⟩
  .intro i l h;have:=H.cr i l h;show aQ X.s _ _ i=_;rw[cI _ _ _ acs];exact h
  .intro i l hi h
   replace h:aQ X.s X.h.next _ i=some l:=h
   rw[cI _ _ _ acs]at h;exact h
  .rintro b ⟨i,aex,adq,h1,h2,h3⟩;exact E.bz b ⟨i,aex,adq,h1,ne _ _ _ h2 h3,h3⟩
 refine⟨S,⟨?_,?_,H'.lt,?_,H.alt,?_⟩⟩
 .intro j o l hj hl
  replace hl:aQ X.s X.h.next .nil j=some l:=hl
  replace hj:tr'.get j=some o:=hj
  by_cases q:j=X.h.next
  .subst q;rw[cE]at hl
   grind
  .rw[cI _ _ _ q]at hl;rw[hg,qr q]at hj;exact(H.obj j o l hj hl).ext (S.dw H) (fun _ _=>rfl)
 .intro j k o o' adq adr b hj hk e1 e2 f1 f2;exact H'.inj j k o o' adq adr b hj hk (ne _ _ _ e1 f1) (ne _ _ _ e2 f2) f1 f2
 .intro j l hl
  replace hl:aQ X.s X.h.next .nil j=some l:=hl
  by_cases q:j=X.h.next
  .simp[q]
  .rw[cI _ _ _ q]at hl;have:=H.cr j l hl;simp only;omega
 .intro j o l b hj e f;exact H'.loc j o l b hj (ne _ _ _ e f) f
theorem ab.void{X:Cx}(H:ab X){f:Nat}{τ:Sh}{ty:TypeId}{tr':Tr aI}(ht:Tr.set f X.h.tr X.h.next (some (.arr τ [] ty))=some tr') :
  aB X ⟨aQ X.s X.h.next .nil,⟨tr',X.h.next+1⟩,X.w,X.A⟩/\ab ⟨aQ X.s X.h.next .nil,⟨tr',X.h.next+1⟩,X.w,X.A⟩:=H.Kq ht fun _=>rfl
theorem ab.kill{X:Cx}(H:ab X){i f:Nat}{l:Loc}{tr':Tr aI}(hs:X.s i=some l)(ht:Tr.set f X.h.tr i none=some tr') :
  aB X ⟨X.s,⟨tr',X.h.next⟩,X.w,X.A⟩/\ab ⟨X.s,⟨tr',X.h.next⟩,X.w,X.A⟩:=by
 have hg:=Tr.bE f X.h.tr i none tr' ht;have sub:∀j o,tr'.get j=some o->X.h.tr.get j=some o/\j≠i:=by grind
 have E:aB X ⟨X.s,⟨tr',X.h.next⟩,X.w,X.A⟩:=by
  refine⟨rfl,rfl,rfl,ol _,fun _ _ h=>h,fun _ _ _ h=>h,ol _,fun _ _ _=>rfl,?_,?_,?_,rfl⟩
  .rintro b ⟨j,o,c,h1,h2⟩;exact .inl ⟨j,o,c,(sub j o h1).1,h2⟩
  .intro j n hj h;obtain⟨o,h1,h2⟩:=jd h;show rowOf X.h.tr j=some n;rw[ie (sub j o h1).1];exact h2
  grind
 exact⟨E,⟨fun j o l hj hl=>(H.obj j o l (sub j o hj).1 hl).ext (E.dw H) (fun _ _=>rfl),fun j k o o' l l' b hj hk=>H.inj j k o o' l l' b (sub j o hj).1 (sub k o' hk).1,
  fun j o hj=>H.lt j o (sub j o hj).1,H.cr,H.alt,fun j o l b hj=>H.loc j o l b (sub j o hj).1⟩⟩
theorem ab.freeze{X:Cx}(H:ab X){i f:Nat}{l:Loc}{τ:Sh}{L:List τ.T}{ty:TypeId}{tr':Tr aI}(hi:X.h.tr.get i=some (.arr τ L ty))(hs:X.s i=some l)(ht:Tr.set f X.h.tr i none=some tr') :
  Cs X.w (Cx.out ⟨X.s,⟨tr',X.h.next⟩,X.w,X.A⟩) (.sl τ) L [l.slice L.length]:=by
 obtain⟨E,H'⟩:=H.kill hs ht;have hg:=Tr.bE f X.h.tr i none tr' ht;have ho:=H.obj i _ l hi hs;cases l with
 |nil=>have:L=[]:=ho;subst this;exact⟨none,0,0,rfl,rfl,ol _,fun h=>absurd rfl h⟩|«at» b c=>
  obtain⟨cs,tail,h1,h2,h3,h4⟩:=ho;refine⟨some ⟨b,0,none⟩,L.length,c,rfl,rfl,h4,fun _=>⟨b,0,cs,rfl,?_,h2.mono (fun x d q=>q.aH E.keeps),⟨_,ty,_,h1,?_⟩⟩⟩
  .rintro(q|⟨j,o,c',q1,q2,q3⟩)
   .exact H.loc i _ _ b hi hs rfl q
   .replace q1:tr'.get j=some o:=q1
    rw[hg j]at q1;by_cases r:j=i
    .rw[ut r]at q1;cases q1
    .rw[qr r]at q1;exact r (H.inj j i o _ c' _ b q1 hi q2 hs q3 rfl)
  grind
 |bX b c m=>exact ho.elim
end Go.Proofs.Ytbbhihkocghhaaa.V
end
section
namespace Go.Proofs.Ytbbhihkocghhaaa.Ev
open Go Go.RowKit
def FT:Nat:=30
variable{w:World}{ty:TypeId}{s:Sg}{op:Option Nat}{h:Hp}{b:Nat}{l:List AV}
theorem ab.cells(H:ab s h w)(hb:h.tr.get b=some (.cells l ty op)) :
  ∃tail:kw,w.heap[(s b).1]?=some (.cells (aL s l++tail).toArray ty (0,0))/\(op=none->tail=[])/\(∀sz,op=some sz->(l.length+tail.length=(s b).2*sz/\(s b).2<=9223372036854775807)):=by
 have:=H.obj b _ hb;cases op with
 |none=>exact⟨[],by simpa[bS]using this,fun _=>rfl,(fun _ h=>by cases h)⟩
 |some sz=>
  obtain⟨tail,h1,h2⟩:=this
  grind
theorem bS.Un{tail:kw}(h1:op=none->tail=[])(h2:∀sz,op=some sz->(l.length+tail.length=(s b).2*sz/\(s b).2<=9223372036854775807)) :
  bS s b (.cells l ty op) (some (.cells (aL s l++tail).toArray ty (0,0))):=by
 cases op with|none=>simp[bS,h1 rfl]|some sz=>exact⟨tail,rfl,h2 sz rfl⟩
def ld(P:Program)(t:TypeId):Option Bool:=match P.underlying t with|some (.struct _)=>some true|some (.array _ _)=>some true|some _=>some false|none=>none
variable{P:Program}{t:TypeId}
theorem jM{b:Bool}(h:ld P t=some b)(w:World):(isAgg t).run P w=.ok b w:=by unfold ld at h;cases hu:P.underlying t with|none=>simp[hu]at h|some d=>cases d<;>simp[hu]at h<;>subst h<;>simp[isAgg,run_underlying hu]
def jP(P:Program)(h:Hp)(t:TypeId)(u:AV):Option AV:=match u with
 |.ptr b off=>match h.tr.get b with
  |some (.cells l _ _)=>match ld P t with
   |some true=>match cz P t with
    |some n=>match Nat.ble (off+n) l.length with|true=>some (.agg (takeN n (du off l)))|false=>none
    |none=>none
   |some false=>nth l off|none=>none
  |_=>none
 |_=>none
variable{u:AV}{v:AV}
theorem tw(e:jP P h t u=some v)(H:ab s h w) :
  (Instr.loadAt t (ah s u)).run P w=.ok (ah s v) w:=by
 unfold jP at e;split at e<;>try cases e
 rename_i b off;split at e<;>try cases e
 rename_i l ty op hb;obtain⟨tail,hw,_,_⟩:=H.cells hb;split at e
 .rename_i ha;split at e<;>try cases e
  rename_i n hn;split at e<;>try cases e
  rename_i hl;have hl:=pi hl;have hL:=ga s l;simp only[Instr.loadAt,ah,Instr.sureAddr,Sem.run_bind,Sem.run_pure,Result.andThen_ok,loadVar,jM ha,abE,run_sizeOf hn,loadCells];rw[run_loadCells hw n 0 #[] (by simp;omega)];simp only[Result.andThen_ok,Sem.run_pure];congr 3;simp only[aaW,eu,eW,oR,qm]
  grind
 .rename_i ha;rw[bW]at e;have hlt:off<l.length:=by grind
  have hc:w.cell? ⟨(s b).1,off,none⟩=some (ah s v):=by have hL:=ga s l;simp only[World.cell?,hw,abh,GE,abu];simp only[pu];rw[Fd acs,zm,e];rfl
  simp[Instr.loadAt,ah,Instr.sureAddr,loadVar,jM ha,run_load,hc]
 .cases e
variable{n:Nat}
theorem mE{a b:List AV}(ha:cC n a=true)(hb:cC n b=true):cC n (a++b)=true:=by
 rw[tL]at *
 grind
variable{k:Nat}
theorem zh{a:List AV}(ha:cC n a=true):cC n (takeN k a)=true:=by rw[eu];rw[tL]at *;grind
theorem He{a:List AV}(ha:cC n a=true):cC n (du k a)=true:=by rw[eW];rw[tL]at *;grind
theorem oS(h:ws n v=true):cC n (bV v)=true:=by cases v<;>simp only[bV,cC,h]<;>exact h
def mM(h:Hp)(b off:Nat)(vs:List AV):Option Hp:=match h.tr.get b with
 |some (.cells l ty op)=>match Nat.ble (off+vs.length) l.length,jh vs with
  |true,true=>match Tr.set FT h.tr b (some (.cells (takeN off l++(vs++du (off+vs.length) l)) ty op))with|some tr=>some ⟨tr,h.next⟩|none=>none
  |_,_=>none
 |_=>none
variable{h':Hp}
theorem tq{off:Nat}{vs:List AV}(e:mM h b off vs=some h')(H:ab s h w)(hv:cC h.next vs=true) :
  ∃w',(storeCells ⟨(s b).1,off,none⟩ (aL s vs)).run P w=.ok () w'/\ab s h' w'/\Ext s h w s h' w':=by
 unfold mM at e;split at e<;>try cases e
 rename_i l ty op hb;split at e<;>try cases e
 rename_i hl ho;split at e<;>try cases e
 rename_i tr ht;have hl:=pi hl;obtain⟨tail,hw,h1,h2⟩:=H.cells hb;have hL:=ga s l;have hV:=ga s vs;obtain⟨c',hc',hr⟩:=jj (P:=P) (off:=off) (aL s vs) 0 w _ hw (by simp;omega) (by intro v hv;rw[oW]at hv;obtain⟨x,hx,rfl⟩:=IN.1 hv;exact Lq ((Lr vs).1 ho x hx));have hc:c'=(aL s (takeN off l++(vs++du (off+vs.length) l))++tail).toArray:=by
  apply IS.1;rw[hc'];simp only[aaW,eu,eW,oN,oR,qm,hV]
  grind
 subst hc;have hlen:(takeN off l++(vs++du (off+vs.length) l)).length=l.length:=by simp[eu,eW];omega
 have:=H.put (ob:=.cells (aL s (takeN off l++(vs++du (off+vs.length) l))++tail).toArray ty (0,0)) hb rfl
  (bS.Un (ty:=ty) (op:=op) h1 (by rw[hlen];exact h2))
  (by have:=H.fO _ _ hb;simp only[iV]at this |-;exact mE (zh this) (mE hv (He this))) ht
 grind
def BR(P:Program)(h:Hp)(t:TypeId)(u v:AV):Option Hp:=match u with
 |.ptr b off=>match cz P t with
  |some n=>match Nat.beq (bV v).length n with|true=>mM h b off (bV v)|false=>none
  |none=>none
 |_=>none
theorem WY(e:BR P h t u v=some h')(H:ab s h w)(hv:ws h.next v=true) :
  ∃w',(Instr.storeAt t (ah s u) (ah s v)).run P w=.ok () w'/\ab s h' w'/\Ext s h w s h' w':=by
 unfold BR at e;split at e<;>try cases e
 rename_i b off;split at e<;>try cases e
 rename_i n hn;split at e<;>try cases e
 rename_i hl;have hl:=aW hl;obtain⟨w',hr,hH,hE⟩:=tq (P:=P) e H (oS hv);refine⟨w',?_,hH,hE⟩;have hsz:(ah s v).cells.size=n:=by rw[<-NE,jL,ga,hl]
 simp only[Instr.storeAt,ah,Instr.sureAddr,Sem.run_bind,Sem.run_pure,Result.andThen_ok,storeVar,run_sizeOf hn];rw[qr (by simp[hsz])];simp only[Sem.run_pure,Result.andThen_ok,jL];exact hr
def rep:Nat->List AV->List AV
 |0,_=>[]|n+1,z=>z++rep n z
theorem y8(n:Nat)(z:List AV):(rep n z).length=n*z.length:=by induction n with|zero=>simp[rep]|succ n ih=>simp[rep,ih,Ne,Nat.add_comm]
theorem Ma(s:Sg)(z:List AV):∀(n i:Nat),i<n*z.length->(aL s (rep n z))[i]?=(aL s z)[i % z.length]?
 |0,i,h=>by omega|n+1,i,h=>by
  have hz:=ga s z;simp only[rep,oN];rcases rt i z.length with q|q
  .rw[Fd acs,abP q]
  .rw[IR acs,hz,Ma s z n (i-z.length) (by grind)];congr 1;rw[<-ach q]
theorem Hg(s:Sg)(z:List AV)(n k:Nat)(zero:Array Value)(hz:zero.toList=aL s z)(hk:k=n*z.length) :
  ((Array.range k).map (zero[· % zero.size]!))=(aL s (rep n z)).toArray:=by
 have hs:zero.size=z.length:=by rw[<-NE,hz,ga]
 apply IS.1;apply aaO;intro i;simp only[Array.toList_map,Array.toList_range,dx,List.toList_toArray];rcases rt i k with q|q
 .have hz0:0<z.length:=by grind
  rw[ace q,abI,Ma s z n i acs,<-hz,hs];have hm:=Nat.mod_lt i hz0;simp[hs,hm]
 .rw[Do (by grind),Do (by rw[ga,y8];omega)];rfl
theorem BH{z:List AV}(h:cC n z=true)(k:Nat):cC n (rep k z)=true:=by induction k with|zero=>simp[rep,cC]|succ k ih=>exact mE h ih
theorem LU{x:Value}(h:fy x=some v)(n:Nat):ws n v=true:=by
 cases x with
 |pointer a=>cases a<;>simp[fy]at h;subst h;rfl
 |map a=>cases a<;>simp[fy]at h;subst h;rfl
 |slice a l c=>
  simp only[fy]at h;split at h
  .simp at h;subst h;rfl
  .cases h
 |_=>simp[fy]at h<;>subst h<;>rfl
theorem BF:∀{x:kw}{l:List AV},fc x=some l->∀n,cC n l=true
 |[],l,h,n=>by simp[fc]at h;subst h;rfl|x::xs,l,h,n=>by
  simp only[fc]at h;cases hv:fy x<;>simp only[hv]at h
  .cases h
  cases hl:fc xs<;>simp only[hl]at h
  .cases h
  simp at h;subst h;simp[cC,LU hv,BF hl]
theorem BZ{x:Value}(h:back x=some v)(n:Nat):ws n v=true:=by
 cases x with
 |agg l=>
  simp only[back]at h;cases hl:fc l.toList<;>simp only[hl]at h
  .cases h
  simp at h;subst h;simp[ws,BF hl]
 |tuple l=>
  simp only[back]at h;cases hl:fc l.toList<;>simp only[hl]at h
  .cases h
  simp at h;subst h;simp[ws,BF hl]
 |_=>simp only[back]at h;exact LU h n
theorem yS(h:dL P t=some v)(n:Nat):ws n v=true:=by
 unfold dL at h;split at h<;>try cases h
 split at h<;>try cases h
 exact BZ h n
def Bl:AV->Option Nat
 |.int _ (.ofNat n)=>some n|_=>none
theorem Xg(h:Bl v=some n)(s:Sg):∃k,ah s v=.int k (n:Int):=by
 unfold Bl at h;split at h<;>try cases h
 exact⟨_,rfl⟩
theorem mF{k:IntKind}{y:Nat}{code:BoundsCode}(h:n<=y)(w:World):(Instr.sliceBound (.int k (n:Int)) y code).run P w=.ok n w:=by simp[Instr.sliceBound,asIntOf,h]
def da(T:Tr AV)(x:Option Operand)(d:Nat):Option Nat:=match x with|none=>some d|some x=>match aK T x with|some v=>Bl v|none=>none
variable{mx:Option Operand}{lo:Option Operand}{hi:Option Operand}{a:Act}{m:Nat}{T:Tr AV}
theorem nL{len cap l h:Nat}(hr:∀x,(lo=some x\/hi=some x\/mx=some x)->∀u,aK T x=some u->a.eval x=ah s u)
  (h1:da T lo 0=some l) (h2:da T hi len=some h) (h3:da T mx cap=some m) (q1:l<=h) (q2:h<=m) (q3:m<=cap) (q4:hi=none->mx=none) (w:World) :
  (Instr.sliceBounds true len cap (lo.map a.eval) (hi.map a.eval) (mx.map a.eval)).run P w=.ok (l,h,m) w:=by
 have val:∀x d r,(lo=some x\/hi=some x\/mx=some x)->da T (some x) d=some r->∃k,a.eval x=.int k (r:Int):=by
  intro x d r hx he;unfold da at he;simp only[]at he;split at he<;>try cases he
  rename_i v hv;obtain⟨k,hk⟩:=Xg he s
  grind
 have hm:mx=none->m=cap:=by intro q;subst q;simpa[da]using h3.symm
 have hh:hi=none->h=len:=by intro q;subst q;simpa[da]using h2.symm
 have hl:lo=none->l=0:=by intro q;subst q;simpa[da]using h1.symm
 unfold Instr.sliceBounds;cases mx with
 |none=>
  have hm:=hm rfl;subst hm;cases hi with
  |none=>have hh:=hh rfl;subst hh;cases lo with|none=>have:=hl rfl;subst this;simp|some x=>obtain⟨k,e⟩:=val x 0 l (.inl rfl) h1;simp[e,mF q1]
  |some y=>obtain⟨k',e'⟩:=val y len h (.inr (.inl rfl)) h2;cases lo with|none=>have:=hl rfl;subst this;simp[e',mF q2]|some x=>obtain⟨k,e⟩:=val x 0 l (.inl rfl) h1;simp[e,e',mF q1,mF q2]
 |some z=>
  obtain⟨k'',e''⟩:=val z cap m (.inr (.inr rfl)) h3;cases hi with
  |none=>cases q4 rfl
  |some y=>obtain⟨k',e'⟩:=val y len h (.inr (.inl rfl)) h2;cases lo with|none=>have:=hl rfl;subst this;simp[e',e'',mF q2,mF q3]|some x=>obtain⟨k,e⟩:=val x 0 l (.inl rfl) h1;simp[e,e',e'',mF q1,mF q2,mF q3]
def isNone{α:Type}:Option α->Bool|none=>true|some _=>false
def lN(P:Program)(h:Hp)(T:Tr AV)(t:TypeId)(u:AV)(lo hi mx:Option Operand):Option AV:=match P.underlying t with
 |some (.slice elem)=>match cz P elem,u with
  |some sz,.slice b off len false c=>match da T lo 0,da T hi len,da T mx c with
   |some l,some r,some m=>match Nat.ble l r,Nat.ble r m,Nat.ble m c,(isNone mx||!isNone hi)with
    |true,true,true,true=>some (.slice b (match Nat.beq m l with|true=>off|false=>off+l*sz) (r-l) false (m-l))
    |_,_,_,_=>none
   |_,_,_=>none
  |some sz,.slice b off len true c=>match h.tr.get b with
   |some (.cells cs _ (some z))=>match Nat.beq z sz,sz with
    |true,sz+1=>match mx with
     |some x=>match da T lo 0,da T hi len,da T (some x) 0 with
      |some l,some r,some m=>match Nat.ble l r,Nat.ble r m,Nat.ble ((c+m)*(sz+1)) cs.length,!isNone hi with
       |true,true,true,true=>some (.slice b (match Nat.beq m l with|true=>off|false=>off+l*(sz+1)) (r-l) false (m-l))
       |_,_,_,_=>none
      |_,_,_=>none
     |none=>match da T lo 0,da T hi len with
      |some l,some r=>match Nat.ble l r,Nat.ble ((c+r)*(sz+1)) cs.length,(Nat.beq l 0||Nat.blt ((c+l)*(sz+1)) cs.length)with
       |true,true,true=>some (.slice b (off+l*(sz+1)) (r-l) true (c+l))|true,true,false=>(match Nat.beq r l with|true=>some (.m8 b off (off+l*(sz+1)) (c+l))|false=>none)
       |_,_,_=>none
      |_,_=>none
    |_,_=>none
   |_=>none
  |some sz,.bu=>match da T lo 0,da T hi 0,da T mx 0 with
   |some 0,some 0,some 0=>match(isNone mx||!isNone hi)with|true=>some .bu|false=>none
   |_,_,_=>none
  |_,_=>none
 |some .string=>match u with
  |.str x=>match lo.elim (some none) (fun y=>(aK T y).bind fun v=>(gB v).map some),hi.elim (some none) (fun y=>(aK T y).bind fun v=>(gB v).map some),mx with
   |some l,some r,none=>match still P 4000 (Instr.sliceAt t (.string x) l r none)with|some q=>back q|none=>none
   |_,_,_=>none
  |_=>none
 |_=>none
theorem Lp{x:Option Operand}{l:Option Value}(h:x.elim (some none) (fun y=>(aK T y).bind fun v=>(gB v).map some)=some l)
  (hr:∀y,x=some y->∀u,aK T y=some u->a.eval y=ah s u):x.map a.eval=l:=by
 cases x with|none=>simpa using h|some y=>simp only[Option.elim]at h;cases hv:aK T y<;>simp[hv]at h;rename_i v;obtain⟨q,hq,rfl⟩:=h;simp[hr y rfl v hv,iS hq]
theorem GR(e:lN P h T t u lo hi mx=some v)(H:ab s h w)
  (hr:∀x,(lo=some x\/hi=some x\/mx=some x)->∀u,aK T x=some u->a.eval x=ah s u) :
  (Instr.sliceAt t (ah s u) (lo.map a.eval) (hi.map a.eval) (mx.map a.eval)).run P w=.ok (ah s v) w:=by
 unfold lN at e;split at e
 .rename_i elem hu;have hru:=run_underlying hu w;split at e
  .rename_i sz b off len c hs;split at e<;>try cases e
   rename_i l r m h1 h2 h3;split at e<;>try cases e
   rename_i q1 q2 q3 q4;have q1:=pi q1;have q2:=pi q2;have q3:=pi q3;have q4:hi=none->mx=none:=by
    intro q;subst q;cases mx
    .rfl
    .simp[isNone]at q4
   have hb:=nL hr h1 h2 h3 q1 q2 q3 q4 w (P:=P);simp only[Instr.sliceAt,Instr.slice,ah,Sem.run_bind,hru,Result.andThen_ok,hb,run_sizeOf hs,Sem.run_pure];cases hml:Nat.beq m l
   .have:=IT hml;simp[this,dk]
   .have:=aW hml;simp[this]
  .rename_i sz b off len c hs;split at e<;>try cases e
   rename_i cs ty z hb;split at e<;>try cases e
   rename_i sz' sz hz;have hz:=aW hz;subst hz;obtain⟨tail,hw,_,h2⟩:=H.cells hb;have h2:cs.length+tail.length=(s b).2*(sz+1):=(h2 _ rfl).1;split at e
   .rename_i x;split at e<;>try cases e
    rename_i l r m h1 h2' h3;split at e<;>try cases e
    rename_i q1 q2 q3 q4;have q1:=pi q1;have q2:=pi q2;have q3:=pi q3;have hcap:c+m<=(s b).2:=by
     rcases rt (s b).2 (c+m)with q|q
     .have:=abw q (show 0<sz+1 by omega);omega
     .exact q
    have hb':=nL (cap:=(s b).2-c) (mx:=some x) hr h1 h2' (show da T (some x) ((s b).2-c)=some m from h3) q1 q2 acs (by intro q;subst q;simp[isNone]at q4) w (P:=P);simp only[Instr.sliceAt,Instr.slice,ah,Sem.run_bind,hru,Result.andThen_ok,hb',run_sizeOf hs,Sem.run_pure];cases hml:Nat.beq m l
    .have:=IT hml;simp[this,dk]
    .have:=aW hml;simp[this]
   .split at e<;>try cases e
    rename_i l r h1 h2';split at e<;>try cases e
    .rename_i q1 q3 q4;have q1:=pi q1;have q3:=pi q3;have hcap:c+r<=(s b).2:=by
      rcases rt (s b).2 (c+r)with q|q
      .have:=abw q (show 0<sz+1 by omega);omega
      .exact q
     have hb':=nL (cap:=(s b).2-c) (mx:=none) hr h1 h2' (show da T none ((s b).2-c)=some ((s b).2-c)from rfl) q1 acs (ol _) (fun _=>rfl) w (P:=P);simp only[Instr.sliceAt,Instr.slice,ah,Sem.run_bind,hru,Result.andThen_ok,hb',run_sizeOf hs,Sem.run_pure];have hne:(s b).2-c≠l\/l=0:=by
      rcases If l with q|q
      .exact .inr q
      .left;have hbl:Nat.beq l 0=false:=by cases hq:Nat.beq l 0 with|false=>rfl|true=>have:=aW hq;omega
       simp only[hbl,acp,WP]at q4;have:c+l<(s b).2:=by
        rcases rt (c+l) (s b).2 with q'|q'
        .exact q'
        .have:=OF (sz+1) q';omega
       omega
     congr 2
     .by_cases q:(s b).2-c=l
      .rcases hne with q'|q'
       .exact absurd q q'
       .subst q';simp[q]
      .simp[q,dk]
     .omega
    .rename_i q1 q3 q4;split at e<;>try cases e
     rename_i q5;have q5:=aW q5;subst q5;have q1:=pi q1;have q3:=pi q3;have hcap:c+r<=(s b).2:=by
      rcases rt (s b).2 (c+r)with q|q
      .have:=abw q (show 0<sz+1 by omega);omega
      .exact q
     have hb':=nL (cap:=(s b).2-c) (mx:=none) hr h1 h2' (show da T none ((s b).2-c)=some ((s b).2-c)from rfl) q1 acs (ol _) (fun _=>rfl) w (P:=P);simp only[Instr.sliceAt,Instr.slice,ah,Sem.run_bind,hru,Result.andThen_ok,hb',run_sizeOf hs,Sem.run_pure];congr 2
     .by_cases q:(s b).2-c=r
      .have hq:Nat.beq (s b).2 (c+r)=true:=by rw[show(s b).2=c+r by omega];exact Nat.beq_refl _
       rw[hq];simp[q]
      .have hq:Nat.beq (s b).2 (c+r)=false:=by cases h:Nat.beq (s b).2 (c+r)with|false=>rfl|true=>exact absurd (aW h) acs
       rw[hq];simp[q,dk]
     .omega
     .omega
  .rename_i sz hs;split at e<;>try cases e
   rename_i h1 h2 h3;split at e<;>try cases e
   rename_i q4;have q4:hi=none->mx=none:=by
    intro q;subst q;cases mx
    .rfl
    .simp[isNone]at q4
   have hb:=nL hr h1 h2 h3 (ol 0) (ol 0) (ol 0) q4 w (P:=P);simp only[Instr.sliceAt,Instr.slice,ah,Sem.run_bind,hru,Result.andThen_ok,hb,run_sizeOf hs,Sem.run_pure];rfl
  .cases e
 .rename_i hu;split at e<;>try cases e
  split at e<;>try cases e
  rename_i x l r h1 h2;split at e<;>try cases e
  rename_i q hq;rw[Lp h1 (fun y hy=>hr y (.inl hy)),Lp h2 (fun y hy=>hr y (.inr (.inl hy)))];simp only[ah,abJ];rw[fK hq,kI e]
 .cases e
def fL(T:Tr AV):List (Nat×Operand)->Option (List (Nat×AV))
 |[]=>some []|(i,x)::l=>match aK T x with
  |some v=>match fL T l with|some vs=>some ((i,v)::vs)|none=>none
  |none=>none
theorem GJ{s:Sg}{T:Tr AV}{a:Act}:∀{l:List (Nat×Operand)}{vs:List (Nat×AV)},fL T l=some vs ->
  (∀x∈l.map (·.2),∀u,aK T x=some u->a.eval x=ah s u)->l.map (fun x=>(x.1,a.eval x.2))=vs.map fun x=>(x.1,ah s x.2)
 |[],vs,h,_=>by simp[fL]at h;subst h;rfl|(i,x)::l,vs,h,hr=>by
  simp only[fL]at h;cases hv:aK T x<;>simp only[hv]at h
  .cases h
  cases hl:fL T l<;>simp only[hl]at h
  .cases h
  simp at h;subst h;simp only[Pi];rw[hr x acv _ hv,GJ hl (fun y hy=>hr y (by grind))]
theorem Q5{T:Tr AV}{n:Nat}:∀{l:List (Nat×Operand)}{vs:List (Nat×AV)},fL T l=some vs ->
  (∀x∈l.map (·.2),∀u,aK T x=some u->ws n u=true)->∀x∈vs,ws n x.2=true
 |[],vs,h,_=>by simp[fL]at h;subst h;simp|(i,x)::l,vs,h,hr=>by
  simp only[fL]at h;cases hv:aK T x<;>simp only[hv]at h
  .cases h
  cases hl:fL T l<;>simp only[hl]at h
  .cases h
  simp at h;subst h;intro y hy;rcases BY.1 hy with rfl|hy
  .exact hr x acv _ hv
  .exact Q5 hl (fun z hz=>hr z (by grind)) y hy
theorem QA{n:Nat}(place:Nat->Option (Nat×Nat)):∀(parts:List (Nat×AV)) (cells r:List AV),ia place cells parts=some r->cC n cells=true ->
  (∀x∈parts,ws n x.2=true)->cC n r=true
 |[],cells,r,h,hc,_=>by simp[ia]at h;subst h;exact hc|(i,v)::rest,cells,r,h,hc,hp=>by
  simp only[ia]at h;split at h<;>try cases h
  split at h<;>try cases h
  exact QA place rest _ r h (mE (zh hc) (mE (oS (hp (i,v) acv)) (He hc))) (fun x hx=>hp x (by simp[hx]))
def places(P:Program):List Field->Option (List (Nat×Nat))
 |[]=>some []|f::l=>match cz P f.type with
  |some n=>match places P l with|some r=>some ((f.offset,n)::r)|none=>none
  |none=>none
theorem run_places{P:Program}{w:World}:∀{l:List Field}{r:List (Nat×Nat)},places P l=some r ->
  (l.mapM (fun f=>do pure (f.offset,<-Go.sizeOf f.type):Field->Sem (Nat×Nat))).run P w=.ok r w
 |[],r,h=>by simp[places]at h;subst h;simp|f::l,r,h=>by
  simp only[places]at h;split at h<;>try cases h
  rename_i n hn;split at h<;>try cases h
  rename_i q hq;rw[List.mapM_cons];simp only[Sem.run_bind,run_sizeOf hn,Result.andThen_ok,Sem.run_pure];rw[run_places hq];rfl
theorem mD{l:Array Field}{r:List (Nat×Nat)}(h:places P l.toList=some r) :
  (l.mapM (fun f=>do pure (f.offset,<-Go.sizeOf f.type):Field->Sem (Nat×Nat))).run P w=.ok r.toArray w:=by
 have:=run_places (w:=w) h;rw[acb,Sem.run_map,this];rfl
def oZ(P:Program)(t:TypeId)(parts:List (Nat×AV)):Option AV:=match P.underlying t with
 |some (.struct fields)=>match dL P t,places P fields.toList with
  |some z,some ps=>match ia (fun i=>nth ps i) (bV z) parts with|some r=>some (.agg r)|none=>none
  |_,_=>none
 |some (.array _ elem)=>match dL P t,cz P elem with
  |some z,some sz=>match ia (fun i=>some (i*sz,sz)) (bV z) parts with|some r=>some (.agg r)|none=>none
  |_,_=>none
 |_=>none
theorem GW{parts:List (Nat×AV)}(e:oZ P t parts=some v)(s:Sg)(w:World)(ps:Array (Nat×Value))
  (hp:ps.toList=parts.map fun x=>(x.1,ah s x.2)):(Instr.build t ps).run P w=.ok (ah s v) w:=by
 unfold oZ at e;split at e
 .rename_i fields hu;split at e<;>try cases e
  rename_i z q hz hq;split at e<;>try cases e
  rename_i r hr;have hf:=zd s _ _ _ _ hr;rw[<-jL,aaR]at hf;have hfun:(fun i=>(q.toArray:Array (Nat×Nat))[i]?)=fun i=>nth q i:=by funext i;rw[bW];simp
  simp only[Instr.build,Sem.run_bind,fZ hz s,Result.andThen_ok,run_underlying hu,mD hq,hp,Sem.run_pure];rw[hfun,hf];simp[ah]
 .rename_i k elem hu;split at e<;>try cases e
  rename_i z sz hz hs;split at e<;>try cases e
  rename_i r hr;have hf:=zd s _ _ _ _ hr;rw[<-jL,aaR]at hf;simp only[Instr.build,Sem.run_bind,fZ hz s,Result.andThen_ok,run_underlying hu,run_sizeOf hs,hp,Sem.run_pure];rw[hf];simp[ah]
 .cases e
def gb(P:Program)(t:TypeId):Option Nat:=match P.info? t with|some i=>some i.bytes|none=>none
def gX(P:Program)(T:Tr AV)(n:Nat):Op->Option (aI×AV)
 |.alloc elem=>match dL P elem with|some z=>some (.cells (bV z) elem none,.ptr n 0)|none=>none
 |.box elem x=>match aK T x with|some u=>some (.cells (bV u) elem none,.ptr n 0)|none=>none
 |.makeSlice t l c=>match P.underlying t,aK T l,aK T c with
  |some (.slice elem),some (.int _ li),some (.int _ ci)=>match IntKind.i64.wrap li,IntKind.i64.wrap ci,gb P elem,cz P elem,dL P elem with
   |.ofNat l,.ofNat c,some by_,some sz,some z=>match Nat.ble l c,Nat.ble (by_*c) 281474976710656,Nat.beq (bV z).length sz with|true,true,true=>some (.cells (rep c (bV z)) elem none,.slice n 0 l false c)|_,_,_=>none
   |_,_,_,_,_=>none
  |_,_,_=>none
 |.buildSlice t len parts=>match P.underlying t,fL T parts.toList with
  |some (.slice elem),some ps=>match cz P elem,dL P elem with
   |some sz,some z=>match Nat.ble (len*sz) 16777216,Nat.beq (bV z).length sz with
    |true,true=>match ia (fun i=>some (i*sz,sz)) (rep len (bV z)) ps with|some r=>some (.cells r elem none,.slice n 0 len false len)|none=>none
    |_,_=>none
   |_,_=>none
  |_,_=>none
 |.makeMap t r=>match r with|none=>some (.map [] 0,.map n)|some x=>match P.underlying t,aK T x with|some (.map _ _),some (.int _ _)=>some (.map [] 0,.map n)|_,_=>none
 |_=>none
variable{x:Nat×Nat}
theorem SK(h:ws n v=true):ah (aQ s n x) v=ah s v:=oQ (fun i hi=>qG s n x hi) v h
theorem KZ{v:List AV}(h:cC n v=true):aL (aQ s n x) v=aL s v:=oO (fun i hi=>qG s n x hi) v h
theorem QK{z:AV}(hz:dL P t=some z) :
  ∃zero:Array Value,((if k=0 then pure #[]else do pure (<- zeroValue t).cells:Sem (Array Value)).run P w=.ok zero w)/\(k≠0->zero.toList=aL s (bV z)):=by
 by_cases hk:k=0
 .exact⟨#[],by simp[hk],fun h=>absurd hk h⟩
 .refine⟨(ah s z).cells,?_,fun _=>jL s z⟩;rw[qr hk];simp[fZ hz s]
variable{ob:aI}{o:Oper}
theorem BC(e:gX P T n o.op=some (ob,v))(hO:fA s T a o.op)
  (w:World) (hs':s n=(w.heap.size,0)) :
  ∃ob',(execOp a.eval o).run P w=.ok (.value (ah s v)) { w with heap:=w.heap.push ob' }/\bS s n ob (some ob'):=by
 unfold gX at e;unfold execOp;split at e
 .rename_i elem ho;split at e<;>try cases e
  rename_i z hz;refine⟨.cells (aL s (bV z)).toArray elem (0,0),?_,?_⟩
  .rw[ho];simp only[Instr.alloc,Sem.run_bind,fZ hz s,Result.andThen_ok,newVar,newRow,run_newObj,Sem.run_pure,ah,hs'];rw[<-jL,aaR]
  .simp only[bS]
 .rename_i elem x ho;split at e<;>try cases e
  rename_i u hu;rw[ho]at hO;have hx:=hO x (by simp[Op.operands]) u hu;refine⟨.cells (aL s (bV u)).toArray elem (0,0),?_,?_⟩
  .rw[ho];simp only[Instr.box,Sem.run_bind,hx,Result.andThen_ok,newVar,newRow,run_newObj,Sem.run_pure,ah,hs'];rw[<-jL,aaR]
  .simp only[bS]
 .rename_i t l c ho;rw[ho]at hO;split at e<;>try cases e
  rename_i elem kl li kc ci hu hl hc;have hl':=hO l (by simp[Op.operands]) _ hl;have hc':=hO c (by simp[Op.operands]) _ hc;split at e<;>try cases e
  rename_i l' c' by_ sz z hwl hwc hb hs hz;split at e<;>try cases e
  rename_i q1 q2 q3;have q1:=pi q1;have q2:=pi q2;have q3:=aW q3;obtain⟨info,hi,rfl⟩:∃info,P.info? elem=some info/\info.bytes=by_:=by unfold gb at hb;cases hi:P.info? elem<;>simp[hi]at hb;exact⟨_,rfl,hb⟩
  obtain⟨zero,hz1,hz2⟩:=QK (k:=c'*sz) (s:=s) (w:=w) hz;refine⟨.cells (aL s (rep c' (bV z))).toArray elem (0,0),?_,?_⟩
  .rw[ho];simp only[hl',hc',ah];have hcell:(Array.range (c'*sz)).map (zero[· % zero.size]!)=(aL s (rep c' (bV z))).toArray:=by
    by_cases hk:c'*sz=0
    .have:rep c' (bV z)=[]:=ro (by rw[y8,q3];exact hk);rw[this,hk];simp[aL]
    .exact Hg s _ c' _ zero (hz2 hk) (by rw[q3])
   have hnot:¬(((decide ((Int.ofNat c')<0)||decide ((info.bytes:Int)*(Int.ofNat c') > 2^48))||decide ((Int.ofNat l')<0)||decide ((Int.ofNat l') > (Int.ofNat c')))=true):=by
    have hm:(info.bytes:Int)*(c':Int)=((info.bytes*c':Nat):Int):=(Int.natCast_mul _ _).symm;have hq:(info.bytes:Int)*(c':Int)<=281474976710656:=by rw[hm];omega
    have h1:decide ((Int.ofNat c')<0)=false:=iK (by show ¬((c':Int)<0);omega);have h2:decide ((info.bytes:Int)*(Int.ofNat c') > 2^48)=false:=iK (by show ¬((281474976710656:Int)<(info.bytes:Int)*(c':Int));omega);have h3:decide ((Int.ofNat l')<0)=false:=iK (by show ¬((l':Int)<0);omega);have h4:decide ((Int.ofNat l') > (Int.ofNat c'))=false:=iK (by show ¬((c':Int)<(l':Int));omega);rw[h1,h2,h3,h4];decide
   simp only[Instr.makeSlice,asInt,asIntOf,Sem.run_bind,run_underlying hu,Result.andThen_ok,Sem.run_pure,run_typeInfo hi,hwl,hwc];rw[qr hnot];simp only[Int.ofNat_eq_natCast,Fr,run_askRoom,Result.andThen_ok,run_sizeOf hs,Sem.run_bind,Sem.run_pure];by_cases hk:c'*sz=0
   .rw[ut hk]at hz1 |-;simp only[Sem.run_pure,ST,abj]at hz1;subst hz1;simp only[Sem.run_bind,Sem.run_pure,Result.andThen_ok,newRow,run_newObj,hcell,hs']
   .rw[qr hk]at hz1 |-;simp only[Sem.run_bind,fZ hz s,Result.andThen_ok,Sem.run_pure,ST,abj]at hz1 |-;subst hz1;simp only[newRow,Sem.run_bind,run_newObj,Sem.run_pure,Result.andThen_ok,hcell,hs']
  .simp only[bS]
 .rename_i t len parts ho;rw[ho]at hO;split at e<;>try cases e
  rename_i elem ps hu hps;split at e<;>try cases e
  rename_i sz z hs hz;split at e<;>try cases e
  rename_i q1 q2;have q1:=pi q1;have q2:=aW q2;split at e<;>try cases e
  rename_i r hr;have hmem:∀x∈parts.toList.map (·.2),x∈(Op.buildSlice t len parts).operands:=by intro x hx;simp only[Op.operands,abC];exact hx
  have hconc:=GJ hps (fun x hx=>hO x (hmem x hx));obtain⟨zero,hz1,hz2⟩:=QK (k:=len*sz) (s:=s) (w:=w) hz;refine⟨.cells (aL s r).toArray elem (0,0),?_,?_⟩
  .rw[ho];have hcell:(Array.range (len*sz)).map (zero[· % zero.size]!)=(aL s (rep len (bV z))).toArray:=by
    by_cases hk:len*sz=0
    .have:rep len (bV z)=[]:=ro (by rw[y8,q2];exact hk);rw[this,hk];simp[aL]
    .exact Hg s _ len _ zero (hz2 hk) (by rw[q2])
   have hp:((parts.map fun x=>(x.1,a.eval x.2)).toList)=ps.map fun x=>(x.1,ah s x.2):=by simpa using hconc
   simp only[Instr.buildSlice,Sem.run_bind,run_underlying hu,Result.andThen_ok,run_sizeOf hs];rw[qr acs];simp only[Sem.run_pure,Result.andThen_ok,Sem.run_bind];rw[hp];have hf:=zd s _ _ _ _ hr;by_cases hk:len*sz=0
   .rw[ut hk]at hz1 |-;simp only[Sem.run_pure,ST,abj]at hz1;subst hz1;simp only[Sem.run_bind,Sem.run_pure,Result.andThen_ok,hcell,hf,newRow,run_newObj,ah,hs']
   .rw[qr hk]at hz1 |-;simp only[Sem.run_bind,fZ hz s,Result.andThen_ok,Sem.run_pure,ST,abj]at hz1 |-;subst hz1;simp only[hcell,hf,newRow,Sem.run_bind,run_newObj,Sem.run_pure,Result.andThen_ok,ah,hs']
  .simp only[bS]
 .rename_i t r ho;rw[ho]at hO;split at e
  .simp only[bf,ww]at e;obtain⟨rfl,rfl⟩:=e;refine⟨.map #[] 0,?_,by simp[bS,dD]⟩;rw[ho];simp[Instr.makeMap,ah,hs']
  .rename_i x;split at e<;>try cases e
   rename_i k1 k2 k3 k4 hu hx;have hx':=hO x (by simp[Op.operands]) _ hx;refine⟨.map #[] 0,?_,by simp[bS,dD]⟩;rw[ho];simp[Instr.makeMap,ah,hs',hx',run_underlying hu,asInt,asIntOf]
 .cases e
theorem JK(e:gX P T n o.op=some (ob,v))(hnm:n<m)
  (hW:∀x∈o.op.operands,∀u,aK T x=some u->ws m u=true):iV m ob=true/\ws m v=true:=by
 unfold gX at e;split at e
 .rename_i elem ho;split at e<;>try cases e
  rename_i z hz;exact⟨oS (yS hz m),by simp[ws,hnm]⟩
 .rename_i elem x ho;split at e<;>try cases e
  rename_i u hu;rw[ho]at hW;exact⟨oS (hW x (by simp[Op.operands]) u hu),by simp[ws,hnm]⟩
 .rename_i t l c ho;split at e<;>try cases e
  split at e<;>try cases e
  rename_i l' c' by_ sz z hwl hwc hb hs hz;split at e<;>try cases e
  exact⟨BH (oS (yS hz m)) c',by simp[ws,hnm]⟩
 .rename_i t len parts ho;rw[ho]at hW;split at e<;>try cases e
  rename_i elem ps hu hps;split at e<;>try cases e
  rename_i sz z hs hz;split at e<;>try cases e
  split at e<;>try cases e
  rename_i r hr;have hmem:∀x∈parts.toList.map (·.2),x∈(Op.buildSlice t len parts).operands:=by intro x hx;simp only[Op.operands,abC];exact hx
  exact⟨QA _ _ _ _ hr (BH (oS (yS hz m)) len) (Q5 hps (fun x hx=>hW x (hmem x hx))),by simp[ws,hnm]⟩
 .split at e
  .simp only[bf,ww]at e;obtain⟨rfl,rfl⟩:=e;exact⟨rfl,by simp[ws,hnm]⟩
  .split at e<;>try cases e
   exact⟨rfl,by simp[ws,hnm]⟩
 .cases e
theorem Ti{o:Op}(hO:fA s T a o)(hW:∀y∈o.operands,∀u,aK T y=some u->ws n u=true):fA (aQ s n x) T a o:=by intro y hy u hu;rw[hO y hy u hu,SK (hW y hy u hu)]
theorem tO(e:gX P T n o.op=some (ob,v))(hO:fA s T a o.op)
  (hW:∀x∈o.op.operands,∀u,aK T x=some u->ws n u=true) (w:World) :
  ∃ob',(execOp a.eval o).run P w=.ok (.value (ah (aQ s n (w.heap.size,0)) v)) { w with heap:=w.heap.push ob' } /\
   bS (aQ s n (w.heap.size,0)) n ob (some ob')/\iV (n+1) ob=true/\ws (n+1) v=true:=by
 obtain⟨ob',h1,h2⟩:=BC e (Ti hO hW) w (cE _ _ _);have:=JK (m:=n+1) e acs (fun x hx u hu=>mJ acs _ (hW x hx u hu))
 grind
