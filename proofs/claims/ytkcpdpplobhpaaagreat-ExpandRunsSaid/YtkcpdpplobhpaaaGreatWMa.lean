import Derived.Test.YtkcpdpplobhpaaaGreatWAa
import Derived.Orders
import Derived.Below
import Derived.Scope
import Derived.KernelRfl
import Derived.Laws.Sem
set_option linter.unusedVariables false
set_option linter.unusedSimpArgs false
set_option linter.unnecessarySimpa false
section
namespace Go.Proofs.YtkcpdpplobhpaaaGreat.Ev
open Go Go.RowKit
inductive Tr(α:Type) where
 |nil
 |node (v:Option α) (l r:Tr α)
def Tr.get{α:Type}:Tr α->Nat->Option α
 |.nil,_=>none|.node v l r,n=>match n with|0=>v|m+1=>match Nat.beq (m % 2) 0 with|true=>l.get (m / 2)|false=>r.get (m / 2)
def Tr.val{α:Type}:Tr α->Option α|.nil=>none|.node v _ _=>v
def Tr.left{α:Type}:Tr α->Tr α|.nil=>.nil|.node _ l _=>l
def Tr.right{α:Type}:Tr α->Tr α|.nil=>.nil|.node _ _ r=>r
def Tr.set{α:Type}:Nat->Tr α->Nat->Option α->Option (Tr α)
 |0,_,_,_=>none|f+1,t,n,a=>match n with
  |0=>some (.node a t.left t.right)|m+1=>match Nat.beq (m % 2) 0 with
   |true=>match Tr.set f t.left (m / 2) a with|some x=>some (.node t.val x t.right)|none=>none
   |false=>match Tr.set f t.right (m / 2) a with|some x=>some (.node t.val t.left x)|none=>none
theorem Tr.uf{α:Type}(v:Option α)(l r:Tr α)(m:Nat):(Tr.node v l r).get (m+1)=if m % 2=0 then l.get (m / 2)else r.get (m / 2):=by
 simp only[Tr.get];cases hm:Nat.beq (m % 2) 0
 .rw[if_neg (Nat.ne_of_beq_eq_false hm)]
 .rw[if_pos (bD hm)]
theorem Tr.cI{α:Type}:∀(f:Nat) (t:Tr α) (n:Nat) (a:Option α) (t':Tr α),Tr.set f t n a=some t' ->
  ∀m,t'.get m=if m=n then a else t.get m:=by
 intro f
 induction f with
 |zero=>intro t n a t' h;simp[Tr.set]at h|succ f ih=>
  intro t n a t' h m;have hn:∀m,t.get m=(Tr.node t.val t.left t.right).get m:=by
   intro m;cases t with
   |nil=>cases m with|zero=>rfl|succ m=>simp only[Tr.uf,Tr.left,Tr.right];simp[Tr.get]
   |node v l r=>rfl
  rw[hn];cases n with
  |zero=>simp only[Tr.set,bV]at h;subst h;cases m with|zero=>simp[Tr.get]|succ m=>simp only[Tr.uf];rw[if_neg (by omega:¬m+1=0)]
  |succ n=>
   simp only[Tr.set]at h;cases hb:Nat.beq (n % 2) 0<;>simp only[hb]at h
   .have hb':=Nat.ne_of_beq_eq_false hb;cases hs:Tr.set f t.right (n / 2) a<;>simp only[hs]at h
    .cases h
    simp only[bV]at h;subst h;cases m with
    |zero=>simp[Tr.get]|succ m=>
     have e:=ih _ _ _ _ hs (m / 2);simp only[Tr.uf];by_cases hm:m % 2=0
     .rw[if_pos hm,if_pos hm,if_neg (by omega)]
     .rw[if_neg hm,if_neg hm,e];by_cases q:m / 2=n / 2
      .rw[if_pos q,if_pos (by omega)]
      .rw[if_neg q,if_neg (by omega)]
   .have hb':=bD hb;cases hs:Tr.set f t.left (n / 2) a<;>simp only[hs]at h
    .cases h
    simp only[bV]at h;subst h;cases m with
    |zero=>simp[Tr.get]|succ m=>
     have e:=ih _ _ _ _ hs (m / 2);simp only[Tr.uf];by_cases hm:m % 2=0
     .rw[if_pos hm,if_pos hm,e];by_cases q:m / 2=n / 2
      .rw[if_pos q,if_pos (by omega)]
      .rw[if_neg q,if_neg (by omega)]
     .rw[if_neg hm,if_neg hm,if_neg (by omega)]
inductive AV where
 |bool (b:Bool)
 |int (k:IntKind) (n:Int)
 |str (s:ByteArray)
 |ed
 |ptr (b off:Nat)
 |bk
 |slice (b off len:Nat) (u:Bool) (c:Nat)
 |On (a:Option Addr) (len cap:Nat)
 |JJ (b off off' c:Nat)
 |fE
 |map (b:Nat)
 |func (f:FuncId) (first cap:List AV)
 |fj
 |fV
 |agg (l:List AV)
 |cM (l:List AV)
abbrev Sg:=Nat->Nat×Nat
mutual
def ws(n:Nat):AV->Bool
 |.bool _|.int _ _|.str _|.ed|.bk|.On _ _ _|.fE|.fj|.fV=>true|.ptr b _=>Nat.blt b n|.slice b _ _ _ _=>Nat.blt b n|.JJ b _ _ _=>Nat.blt b n|.map b=>Nat.blt b n|.func _ x c=>match yq n x with|true=>yq n c|false=>false
 |.agg l=>yq n l|.cM l=>yq n l
termination_by structural x=>x
def yq(n:Nat):List AV->Bool
 |[]=>true|x::l=>match ws n x with|true=>yq n l|false=>false
termination_by structural x=>x
end
def IntKind.num:IntKind->Nat
 |.i8=>0|.i16=>1|.i32=>2|.i64=>3|.u8=>4|.u16=>5|.u32=>6|.u64=>7
theorem IntKind.uh{a b:IntKind}(h:IntKind.num a=IntKind.num b):a=b:=by cases a<;>cases b<;>first|rfl|(exact absurd h (by decide))
def Int.eqv:Int->Int->Bool
 |.ofNat a,.ofNat b=>Nat.beq a b|.negSucc a,.negSucc b=>Nat.beq a b|_,_=>false
theorem Int.fK{a b:Int}(h:Int.eqv a b=true):a=b:=by cases a<;>cases b<;>simp[Int.eqv,Nat.beq_eq]at h<;>subst h<;>rfl
def qg(a b:List UInt8):Bool:=match a,b with
 |[],[]=>true|x::a,y::b=>match Nat.beq x.toNat y.toNat with|true=>qg a b|false=>false
 |_,_=>false
theorem Zz2:∀{a b:List UInt8},qg a b=true->a=b
 |[],[],_=>rfl|x::a,y::b,h=>by
  simp only[qg]at h;cases hx:Nat.beq x.toNat y.toNat<;>simp only[hx]at h
  .cases h
  rw[Zz2 h,UInt8.toNat_inj.1 (bD hx)]
 |[],_::_,h=>by simp[qg]at h|_::_,[],h=>by simp[qg]at h
def vE(a b:ByteArray):Bool:=qg a.data.toList b.data.toList
theorem QS{a b:ByteArray}(h:vE a b=true):a=b:=by have:=Zz2 h;cases a;cases b;simp at this;subst this;rfl
mutual
def AV.eqv:AV->AV->Bool
 |.bool a,b=>match b with|.bool b=>(match a,b with|true,true=>true|false,false=>true|_,_=>false)|_=>false
 |.int k n,b=>match b with|.int k' n'=>(match Nat.beq (IntKind.num k) (IntKind.num k')with|true=>Int.eqv n n'|false=>false)|_=>false
 |.str a,b=>match b with|.str b=>vE a b|_=>false
 |.ed,b=>match b with|.ed=>true|_=>false
 |.ptr x y,b=>match b with|.ptr x' y'=>(match Nat.beq x x' with|true=>Nat.beq y y'|false=>false)|_=>false
 |.bk,b=>match b with|.bk=>true|_=>false
 |.slice x y l u c,b=>match b with
  |.slice x' y' l' u' c'=>(match Nat.beq x x',Nat.beq y y',Nat.beq l l',u,u' with|true,true,true,true,true=>Nat.beq c c'|true,true,true,false,false=>Nat.beq c c'|_,_,_,_,_=>false)
  |_=>false
 |.On _ _ _,_=>false|.JJ _ _ _ _,_=>false|.fE,b=>match b with|.fE=>true|_=>false
 |.map x,b=>match b with|.map y=>Nat.beq x y|_=>false
 |.func f x c,b=>match b with
  |.func f' x' c'=>(match Nat.beq f f',AV.kK x x' with|true,true=>AV.kK c c'|_,_=>false)
  |_=>false
 |.fj,b=>match b with|.fj=>true|_=>false
 |.fV,b=>match b with|.fV=>true|_=>false
 |.agg l,b=>match b with|.agg l'=>AV.kK l l'|_=>false
 |.cM l,b=>match b with|.cM l'=>AV.kK l l'|_=>false
termination_by structural x=>x
def AV.kK:List AV->List AV->Bool
 |[],m=>match m with|[]=>true|_=>false
 |x::l,m=>match m with
  |y::m=>(match AV.eqv x y with|true=>AV.kK l m|false=>false)
  |[]=>false
termination_by structural x=>x
end
mutual
theorem AV.fK:∀{a b:AV},AV.eqv a b=true->a=b
 |.bool a,b,h=>by cases b<;>simp only[AV.eqv]at h<;>first|cases h|(rename_i b;cases a<;>cases b<;>first|rfl|cases h)
 |.int k n,b,h=>by
  cases b<;>simp only[AV.eqv]at h<;>first|cases h|skip
  rename_i k' n';cases hk:Nat.beq (IntKind.num k) (IntKind.num k')<;>simp only[hk]at h
  .cases h
  rw[IntKind.uh (bD hk),Int.fK h]
 |.str a,b,h=>by cases b<;>simp only[AV.eqv]at h<;>first|cases h|(rw[QS h])
 |.ed,b,h=>by cases b<;>simp only[AV.eqv]at h<;>first|rfl|cases h
 |.ptr x y,b,h=>by
  cases b<;>simp only[AV.eqv]at h<;>first|cases h|skip
  rename_i x' y';cases hk:Nat.beq x x'<;>simp only[hk]at h
  .cases h
  rw[bD hk,bD h]
 |.bk,b,h=>by cases b<;>simp only[AV.eqv]at h<;>first|rfl|cases h
 |.slice x y l u c,b,h=>by
  cases b<;>simp only[AV.eqv]at h<;>first|cases h|skip
  rename_i x' y' l' u' c';cases h1:Nat.beq x x'<;>cases h2:Nat.beq y y'<;>cases h3:Nat.beq l l'<;>cases u<;>cases u'<;>simp only[h1,h2,h3]at h <;>
   first|cases h|(rw[bD h1,bD h2,bD h3,bD h])
 |.On _ _ _,b,h=>by simp only[AV.eqv]at h;cases h
 |.JJ _ _ _ _,b,h=>by simp only[AV.eqv]at h;cases h
 |.fE,b,h=>by cases b<;>simp only[AV.eqv]at h<;>first|rfl|cases h
 |.map x,b,h=>by cases b<;>simp only[AV.eqv]at h<;>first|cases h|(rw[bD h])
 |.func f x c,b,h=>by
  cases b<;>simp only[AV.eqv]at h<;>first|cases h|skip
  rename_i f' x' c';cases h1:Nat.beq f f'<;>cases h2:AV.kK x x'<;>simp only[h1,h2]at h<;>first|cases h|skip
  rw[bD h1,AV.qb h2,AV.qb h]
 |.fj,b,h=>by cases b<;>simp only[AV.eqv]at h<;>first|rfl|cases h
 |.fV,b,h=>by cases b<;>simp only[AV.eqv]at h<;>first|rfl|cases h
 |.agg l,b,h=>by cases b<;>simp only[AV.eqv]at h<;>first|cases h|(rw[AV.qb h])
 |.cM l,b,h=>by cases b<;>simp only[AV.eqv]at h<;>first|cases h|(rw[AV.qb h])
theorem AV.qb:∀{a b:List AV},AV.kK a b=true->a=b
 |[],b,h=>by cases b<;>simp only[AV.kK]at h<;>first|rfl|cases h
 |x::l,b,h=>by
  cases b<;>simp only[AV.kK]at h<;>first|cases h|skip
  rename_i y m;cases hx:AV.eqv x y<;>simp only[hx]at h
  .cases h
  rw[AV.fK hx,AV.qb h]
end
def fJ(P:Program)(t:TypeId):Option Nat:=match P.info? t with|some i=>some i.size|none=>none
theorem run_underlying{P:Program}{t:TypeId}{d:TypeDesc}(h:P.underlying t=some d)(w:World):(underlying t).run P w=.ok d w:=by simp[underlying,h]
theorem run_typeInfo{P:Program}{t:TypeId}{d:TypeInfo}(h:P.info? t=some d)(w:World):(typeInfo t).run P w=.ok d w:=by simp[typeInfo,h]
theorem run_sizeOf{P:Program}{t:TypeId}{n:Nat}(h:fJ P t=some n)(w:World):(Go.sizeOf t).run P w=.ok n w:=by unfold fJ at h;cases hi:P.info? t<;>simp[hi]at h;subst h;simp[Go.sizeOf,run_typeInfo hi]
def nth{α:Type}:List α->Nat->Option α
 |[],_=>none|x::l,n=>match n with|0=>some x|n+1=>nth l n
theorem dI{α:Type}:∀(l:List α) (n:Nat),nth l n=l[n]?
 |[],_=>by simp[nth]|x::l,0=>by simp[nth]|x::l,n+1=>by simp[nth,dI l n]
def takeN{α:Type}:Nat->List α->List α
 |0,_=>[]|n+1,l=>match l with|[]=>[]|x::l=>x::takeN n l
def ic{α:Type}:Nat->List α->List α
 |0,l=>l|n+1,l=>match l with|[]=>[]|_::l=>ic n l
theorem j6{α:Type}:∀(n:Nat) (l:List α),takeN n l=l.take n
 |0,_=>by simp[takeN]|n+1,[]=>by simp[takeN]|n+1,x::l=>by simp[takeN,j6 n l]
theorem j7{α:Type}:∀(n:Nat) (l:List α),ic n l=l.drop n
 |0,_=>by simp[ic]|n+1,[]=>by simp[ic]|n+1,x::l=>by simp[ic,j7 n l]
theorem Qm(off:Nat):∀(vs:List Value) (k:Nat) (cells:Array Value),off+k+vs.length<=cells.size ->
  ((vs.zipIdx k).foldl (fun cs (x:Value×Nat)=>cs.setIfInBounds (off+x.2) x.1) cells).toList=cells.toList.take (off+k)++vs++cells.toList.drop (off+k+vs.length)
 |[],k,cells,_=>by simp|v::vs,k,cells,h=>by
  simp only[cp]at h;rw[List.zipIdx_cons,List.foldl_cons,Qm off vs (k+1) _ (by simp;omega)];simp only[cp];have hs:cells.toList.length=cells.size:=Array.length_toList;have e:cells.toList.set (off+k) v=(cells.toList.take (off+k)++[v])++cells.toList.drop (off+k+1):=by rw[List.set_eq_take_append_cons_drop,if_pos (by omega)];simp
  have hA:(cells.toList.take (off+k)++[v]).length=off+(k+1):=by simp[hs];omega
  rw[Array.toList_setIfInBounds,e,List.take_left' hA];rw[show off+(k+1)+vs.length=(cells.toList.take (off+k)++[v]).length+vs.length by omega,List.drop_length_add_append,List.drop_drop];simp[Nat.add_assoc,Nat.add_comm,Nat.add_left_comm]
theorem h9(b off n:Nat):(Addr.mk b off none).add n=⟨b,off+n,none⟩:=by
 unfold Addr.add;split
 .subst_vars;rfl
 .rfl
end Go.Proofs.YtkcpdpplobhpaaaGreat.Ev
end
section
namespace Go.Proofs.YtkcpdpplobhpaaaGreat.V
open Go Go.RowKit
open Go.Proofs.YtkcpdpplobhpaaaGreat.Ev (Tr nth dI takeN ic j6 j7)
inductive Sh where
 |int (k:IntKind)
 |bool
 |str
 |agg (l:List Sh)
 |sl (s:Sh)
mutual
def Sh.T:Sh->Type
 |.int _=>Int|.bool=>Bool|.str=>ByteArray|.agg l=>TL l|.sl s=>List s.T
termination_by structural x=>x
def TL:List Sh->Type
 |[]=>Unit|s::l=>s.T×TL l
termination_by structural x=>x
end
mutual
def Sh.zero:(s:Sh)->s.T
 |.int _=>(0:Int)|.bool=>false|.str=>ByteArray.empty|.agg l=>JM l|.sl _=>[]
termination_by structural x=>x
def JM:(l:List Sh)->TL l
 |[]=>()|s::l=>(s.zero,JM l)
termination_by structural x=>x
end
mutual
def Sh.size:Sh->Nat
 |.int _=>1|.bool=>1|.str=>1|.agg l=>qF l|.sl _=>1
termination_by structural x=>x
def qF:List Sh->Nat
 |[]=>0|s::l=>s.size+qF l
termination_by structural x=>x
end
mutual
def Sh.eqv:Sh->Sh->Bool
 |.int k,b=>match b with|.int k'=>Nat.beq (Ev.IntKind.num k) (Ev.IntKind.num k')|_=>false
 |.bool,b=>match b with|.bool=>true|_=>false
 |.str,b=>match b with|.str=>true|_=>false
 |.agg l,b=>match b with|.agg m=>kK l m|_=>false
 |.sl s,b=>match b with|.sl t=>s.eqv t|_=>false
termination_by structural x=>x
def kK:List Sh->List Sh->Bool
 |[],m=>match m with|[]=>true|_=>false
 |s::l,m=>match m with
  |t::m=>(match s.eqv t with|true=>kK l m|false=>false)
  |[]=>false
termination_by structural x=>x
end
mutual
theorem Sh.fK:∀{a b:Sh},a.eqv b=true->a=b
 |.int k,b,h=>by
  cases b<;>simp only[Sh.eqv]at h<;>first|cases h|skip
  rw[Ev.IntKind.uh (bD h)]
 |.bool,b,h=>by cases b<;>simp only[Sh.eqv]at h<;>first|rfl|cases h
 |.str,b,h=>by cases b<;>simp only[Sh.eqv]at h<;>first|rfl|cases h
 |.agg l,b,h=>by cases b<;>simp only[Sh.eqv]at h<;>first|cases h|(rw[qb h])
 |.sl s,b,h=>by cases b<;>simp only[Sh.eqv]at h<;>first|cases h|(rw[Sh.fK h])
theorem qb:∀{a b:List Sh},kK a b=true->a=b
 |[],b,h=>by cases b<;>simp only[kK]at h<;>first|rfl|cases h
 |s::l,b,h=>by
  cases b<;>simp only[kK]at h<;>first|cases h|skip
  rename_i t m;cases hx:s.eqv t<;>simp only[hx]at h
  .cases h
  rw[Sh.fK hx,qb h]
end
def bw{α:Type}(R:α->List Value->Prop):List α->List Value->Prop
 |[],cs=>cs=[]|x::L,cs=>∃c r,cs=c++r/\R x c/\bw R L r
theorem bw.mono{α:Type}{R R':α->List Value->Prop}(h:∀x c,R x c->R' x c):∀{L:List α}{cs:List Value},bw R L cs->bw R' L cs
 |[],_,q=>q|x::L,_,⟨c,r,e,q,t⟩=>⟨c,r,e,h x c q,bw.mono h t⟩
theorem bw.append{α:Type}{R:α->List Value->Prop}:∀{L M:List α}{c d:List Value},bw R L c->bw R M d->bw R (L++M) (c++d)
 |[],M,_,d,rfl,q=>q|x::L,M,_,d,⟨c,r,rfl,q,t⟩,u=>⟨c,r++d,by simp,q,bw.append t u⟩
theorem bw.take{α:Type}{R:α->List Value->Prop}{z:Nat}(hz:∀x c,R x c->c.length=z):∀{L:List α}{cs:List Value}(n:Nat),bw R L cs->bw R (L.take n) (cs.take (n*z))
 |[],_,n,rfl=>by simp[bw]|x::L,_,0,_=>by simp[bw]|x::L,_,n+1,⟨c,r,rfl,q,t⟩=>by refine⟨c,r.take (n*z),?_,q,bw.take hz n t⟩;have hc:=hz x c q;rw[show(n+1)*z=c.length+n*z by rw[hc,Nat.add_mul];omega,List.take_length_add_append]
theorem bw.drop{α:Type}{R:α->List Value->Prop}{z:Nat}(hz:∀x c,R x c->c.length=z):∀{L:List α}{cs:List Value}(n:Nat),bw R L cs->bw R (L.drop n) (cs.drop (n*z))
 |[],_,n,rfl=>by simp[bw]|x::L,cs,0,h=>by simpa using h|x::L,_,n+1,⟨c,r,rfl,q,t⟩=>by
  have:=bw.drop hz n t;have hc:=hz x c q;have e:(c++r).drop ((n+1)*z)=r.drop (n*z):=by rw[show(n+1)*z=c.length+n*z by rw[hc,Nat.add_mul];omega,List.drop_length_add_append]
  rw[e];simpa using this
theorem bw.length{α:Type}{R:α->List Value->Prop}{z:Nat}(hz:∀x c,R x c->c.length=z):∀{L:List α}{cs:List Value},bw R L cs->cs.length=L.length*z
 |[],_,rfl=>by simp|x::L,_,⟨c,r,rfl,q,t⟩=>by rw[aU,hz x c q,bw.length hz t,cp,Nat.add_mul];omega
theorem bw.get{α:Type}{R:α->List Value->Prop}{z:Nat}(hz:∀x c,R x c->c.length=z):∀{L:List α}{cs:List Value}{i:Nat}{x:α},bw R L cs->L[i]?=some x ->
  ∃c,R x c/\∀j,j<z->cs[i*z+j]?=c[j]?
 |[],_,i,x,_,h=>by simp at h|y::L,_,0,x,⟨c,r,rfl,q,t⟩,h=>by simp at h;subst h;exact⟨c,q,fun j hj=>by rw[Nat.zero_mul,Nat.zero_add,List.getElem?_append_left (by rw[hz _ _ q];exact hj)]⟩|y::L,_,i+1,x,⟨c,r,rfl,q,t⟩,h=>by obtain⟨d,h1,h2⟩:=bw.get hz t (by simpa using h);refine⟨d,h1,fun j hj=>?_⟩;rw[List.getElem?_append_right (by rw[hz _ _ q,Nat.add_mul];omega),hz _ _ q,<-h2 j hj];congr 1;rw[Nat.add_mul];omega
theorem bw.set{α:Type}{R:α->List Value->Prop}{z:Nat}(hz:∀x c,R x c->c.length=z):∀{L:List α}{cs:List Value}{i:Nat}{x:α}{c:List Value},bw R L cs->i<L.length->R x c ->
  bw R (L.set i x) (cs.take (i*z)++c++cs.drop (i*z+z))
 |[],_,i,x,c,_,h,_=>by simp at h|y::L,_,0,x,c,⟨d,r,rfl,q,t⟩,h,hc=>by refine⟨c,r,?_,hc,t⟩;rw[Nat.zero_mul,Nat.zero_add,<-hz y d q];simp|y::L,_,i+1,x,c,⟨d,r,rfl,q,t⟩,h,hc=>by
  refine⟨d,r.take (i*z)++c++r.drop (i*z+z),?_,q,bw.set hz t (by simpa using h) hc⟩;have hd:=hz y d q;have e1:(d++r).take ((i+1)*z)=d++r.take (i*z):=by rw[show(i+1)*z=d.length+i*z by rw[hd,Nat.add_mul];omega,List.take_length_add_append]
  have e2:(d++r).drop ((i+1)*z+z)=r.drop (i*z+z):=by rw[show(i+1)*z+z=d.length+(i*z+z) by rw[hd,Nat.add_mul];omega,List.drop_length_add_append]
  rw[e1,e2];simp
def yl(w:World)(b o:Nat)(cs:List Value):Prop:=∃c ty fr,w.heap[b]?=some (.cells c ty fr)/\∀j u,cs[j]?=some u->c[o+j]?=some u
mutual
def Cs(w:World)(A:Nat->Prop):(σ:Sh)->σ.T->List Value->Prop
 |.int k,n,cs=>cs=[.int k n]|.bool,b,cs=>cs=[.bool b]|.str,s,cs=>cs=[.string s]|.agg l,d,cs=>gZ w A l d cs|.sl s,L,cs=>∃a len cap,cs=[.slice a len cap]/\len=List.length L/\len<=cap/\(L≠[]->∃b o X,a=some ⟨b,o,none⟩/\¬A b/\bw (Cs w A s) L X/\yl w b o X)
termination_by structural x=>x
def gZ(w:World)(A:Nat->Prop):(l:List Sh)->TL l->List Value->Prop
 |[],_,cs=>cs=[]|s::l,d,cs=>∃c r,cs=c++r/\Cs w A s d.1 c/\gZ w A l d.2 r
termination_by structural x=>x
end
mutual
theorem Cs.length{w:World}{A:Nat->Prop}:∀{σ:Sh}{d:σ.T}{cs:List Value},Cs w A σ d cs->cs.length=σ.size
 |.int k,n,cs,h=>by rw[show cs=[.int k n]from h];rfl|.bool,b,cs,h=>by rw[show cs=[.bool b]from h];rfl|.str,s,cs,h=>by rw[show cs=[.string s]from h];rfl|.agg l,d,cs,h=>gZ.length h|.sl s,L,cs,⟨a,len,cap,h,_⟩=>by rw[h];rfl
theorem gZ.length{w:World}{A:Nat->Prop}:∀{l:List Sh}{d:TL l}{cs:List Value},gZ w A l d cs->cs.length=qF l
 |[],_,cs,h=>by rw[show cs=[]from h];rfl|s::l,d,cs,⟨c,r,e,h1,h2⟩=>by rw[e,aU,Cs.length h1,gZ.length h2];rfl
end
def jl(w:World)(A:Nat->Prop)(w':World)(A':Nat->Prop):Prop:=∀b o,¬A b->w.heap[b]?=some o->w'.heap[b]?=some o/\¬A' b
theorem jl.trans{w w' w'':World}{A A' A'':Nat->Prop}(a:jl w A w' A')(b:jl w' A' w'' A''):jl w A w'' A'':=fun k o h q=>let⟨h1,h2⟩:=a k o h q;b k o h2 h1
theorem yl.bj{w w':World}{A A':Nat->Prop}(K:jl w A w' A'){b o:Nat}{cs:List Value}(h:yl w b o cs)(ha:¬A b):yl w' b o cs/\¬A' b:=by obtain⟨c,ty,fr,h1,h2⟩:=h;obtain⟨k1,k2⟩:=K b _ ha h1;exact⟨⟨c,ty,fr,k1,h2⟩,k2⟩
mutual
theorem Cs.bj{w w':World}{A A':Nat->Prop}(K:jl w A w' A'):∀{σ:Sh}{d:σ.T}{cs:List Value},Cs w A σ d cs->Cs w' A' σ d cs
 |.int k,n,cs,h=>h|.bool,b,cs,h=>h|.str,s,cs,h=>h|.agg l,d,cs,h=>gZ.bj K (l:=l) h|.sl s,L,cs,⟨a,len,cap,h1,h2,h3,h4⟩=>⟨a,len,cap,h1,h2,h3,fun hL=>by obtain⟨b,o,X,e1,e2,e3,e4⟩:=h4 hL;obtain⟨k1,k2⟩:=e4.bj K e2;exact⟨b,o,X,e1,k2,e3.mono (fun x c q=>Cs.bj K q),k1⟩⟩
theorem gZ.bj{w w':World}{A A':Nat->Prop}(K:jl w A w' A'):∀{l:List Sh}{d:TL l}{cs:List Value},gZ w A l d cs->gZ w' A' l d cs
 |[],_,cs,h=>h|s::l,d,cs,⟨c,r,e,h1,h2⟩=>⟨c,r,e,Cs.bj K h1,gZ.bj K h2⟩
end
end Go.Proofs.YtkcpdpplobhpaaaGreat.V
end
section
namespace Go.Proofs.YtkcpdpplobhpaaaGreat.Ev
open Go Go.RowKit
inductive bu where
 |cells (l:List AV) (ty:TypeId) (op:Option Nat)
 |map (es:List (AV×AV×Nat)) (clock:Nat)
structure Hp where
 tr:Tr bu
 next:Nat
def dr(w:World)(b:Nat)(o:Obj):World:={ w with heap:=w.heap.setIfInBounds b o }
theorem gL(w:World)(b:Nat)(o:Obj)(k:Nat):(dr w b o).heap[k]?=if k=b/\b<w.heap.size then some o else w.heap[k]?:=by
 simp only[dr,Array.getElem?_setIfInBounds];by_cases h:b=k
 .subst h;by_cases hb:b<w.heap.size
  .simp[hb]
  .simp[hb]
 .rw[if_neg h,if_neg (fun q=>h q.1.symm)]
theorem kr(w:World)(b:Nat)(o:Obj):(dr w b o).heap.size=w.heap.size:=by simp[dr]
theorem ajU(w:World)(b:Nat)(o o':Obj):dr (dr w b o) b o'=dr w b o':=by
 simp only[dr];congr 1;apply Array.ext_getElem?;intro i;simp only[Array.getElem?_setIfInBounds,Array.size_setIfInBounds];by_cases h:b=i
 .simp[h]
 .simp[h]
theorem setCell_eq{w:World}{b off:Nat}{c:Array Value}{ty:TypeId}{fr:Nat×Nat}(h:w.heap[b]?=some (.cells c ty fr))(v:Value) :
  w.setCell ⟨b,off,none⟩ v=dr w b (.cells (c.setIfInBounds off v) ty fr):=by
 unfold World.setCell dr;congr 1;apply Array.ext_getElem?;intro i;rw[Array.getElem?_modify,Array.getElem?_setIfInBounds];by_cases q:b=i
 .subst q;have hb:b<w.heap.size:=by
   rcases de b w.heap.size with q|q
   .exact q
   .rw[Array.getElem?_eq_none q]at h;cases h
  have hx:w.heap[b]=.cells c ty fr:=by simpa[Array.getElem?_eq_getElem hb]using h
  simp[h,hb,hx]
 .simp[q]
def mG:Value->Bool
 |.agg _|.tuple _=>false|_=>true
theorem Zzc{P:Program}{w:World}{b off:Nat}{c:Array Value}{ty:TypeId}{v:Value}(h:w.heap[b]?=some (.cells c ty (0,0)))(ho:off<c.size)
  (hv:mG v=true):(store ⟨b,off,none⟩ v).run P w=.ok () (dr w b (.cells (c.setIfInBounds off v) ty (0,0))):=by
 have hc:w.cell? ⟨b,off,none⟩=some c[off]:=by simp[World.cell?,h,ho]
 have hf:w.frozen? ⟨b,off,none⟩=false:=by simp[World.frozen?,h]
 rw[<-setCell_eq h v];cases v<;>simp[mG]at hv<;>simp[store,Sem.run,hc,hf]
theorem lP{P:Program}{b off:Nat}{ty:TypeId}:∀(vs:List Value) (k:Nat) (w:World) (c:Array Value),w.heap[b]?=some (.cells c ty (0,0)) ->
  off+k+vs.length<=c.size->(∀v∈vs,mG v=true) ->
  ∃c',c'.toList=c.toList.take (off+k)++vs++c.toList.drop (off+k+vs.length) /\
   (storeCells ⟨b,off,none⟩ vs k).run P w=.ok () (dr w b (.cells c' ty (0,0)))
 |[],k,w,c,h,hl,_=>by
  refine⟨c,by simp,?_⟩;simp only[storeCells,Sem.run_pure];congr 1;unfold dr;have:w.heap.setIfInBounds b (.cells c ty (0,0))=w.heap:=by
   apply Array.ext_getElem?;intro i;rw[Array.getElem?_setIfInBounds];by_cases q:b=i
   .subst q;have hb:b<w.heap.size:=by
     rcases de b w.heap.size with q|q
     .exact q
     .rw[Array.getElem?_eq_none q]at h;cases h
    simp only[if_true,hb];exact h.symm
   .simp[q]
  rw[this]
 |v::vs,k,w,c,h,hl,ho=>by
  simp only[cp]at hl;have hb:b<w.heap.size:=by
   rcases de b w.heap.size with q|q
   .exact q
   .rw[Array.getElem?_eq_none q]at h;cases h
  have h1:=Zzc (P:=P) h (off:=off+k) (by omega) (ho v (by simp));obtain⟨c',hc',hr⟩:=lP (P:=P) (off:=off) vs (k+1) (dr w b (.cells (c.setIfInBounds (off+k) v) ty (0,0))) (c.setIfInBounds (off+k) v)
   (by rw[gL,if_pos ⟨rfl,hb⟩]) (by simp;omega) (fun x hx=>ho x (by simp[hx]))
  rw[ajU]at hr;refine⟨c',?_,?_⟩
  .rw[hc'];simp only[cp];have hs:c.toList.length=c.size:=Array.length_toList;have e:c.toList.set (off+k) v=(c.toList.take (off+k)++[v])++c.toList.drop (off+k+1):=by rw[List.set_eq_take_append_cons_drop,if_pos (by omega)];simp
   have hA:(c.toList.take (off+k)++[v]).length=off+(k+1):=by simp[hs];omega
   rw[Array.toList_setIfInBounds,e,List.take_left' hA];rw[show off+(k+1)+vs.length=(c.toList.take (off+k)++[v]).length+vs.length by omega,List.drop_length_add_append,List.drop_drop];simp[Nat.add_assoc,Nat.add_comm,Nat.add_left_comm]
  .simp only[storeCells,Sem.run_bind,h9,h1,Result.andThen_ok,hr]
theorem run_loadCells{P:Program}{b off:Nat}{ty:TypeId}{w:World}{c:Array Value}{fr:Nat×Nat}(h:w.heap[b]?=some (.cells c ty fr)) :
  ∀(n i:Nat) (acc:Array Value),off+i+n<=c.size ->
  (loadCellsFrom ⟨b,off,none⟩ i n acc).run P w=.ok (acc.toList++(c.toList.drop (off+i)).take n).toArray w
 |0,i,acc,_=>by simp[loadCellsFrom]|n+1,i,acc,hl=>by
  have hc:w.cell? ⟨b,off+i,none⟩=some c[off+i]:=by simp[World.cell?,h,show off+i<c.size by omega]
  simp only[loadCellsFrom,Sem.run_bind,h9,run_load,hc,Result.andThen_ok];rw[run_loadCells h n (i+1) _ (by omega)];congr 2;have hd:c.toList.drop (off+i)=c[off+i]::c.toList.drop (off+(i+1)):=by rw[List.drop_eq_getElem_cons (by simp;omega)];simp[Nat.add_assoc]
  rw[hd];simp
end Go.Proofs.YtkcpdpplobhpaaaGreat.Ev
end
section
namespace Go.Proofs.YtkcpdpplobhpaaaGreat.V
open Go Go.RowKit
open Go.Proofs.YtkcpdpplobhpaaaGreat.Ev (Tr Tr.cI nth dI takeN ic j6 j7 dr gL kr)
def th:Sh->Bool|.agg _=>true|_=>false
def N9:Value->Bool|.agg _=>true|_=>false
def ju(w:World)(A:Nat->Prop)(σ:Sh)(d:σ.T)(V:Value):Prop:=Cs w A σ d V.cells.toList/\N9 V=th σ
theorem ju.bj{w w':World}{A A':Nat->Prop}(K:jl w A w' A'){σ:Sh}{d:σ.T}{V:Value}(h:ju w A σ d V):ju w' A' σ d V:=⟨h.1.bj K,h.2⟩
abbrev dN(σ:Sh):=List (Int×σ.T×Unit)
def iH(w:World)(A:Nat->Prop)(κ:IntKind)(σ:Sh):List MapEntry->dN σ->Prop
 |[],N=>N=[]|e::es,N=>match N with|p::N=>e.key=.int κ p.1/\ju w A σ p.2.1 e.val/\iH w A κ σ es N|[]=>False
theorem iH.bj{w w':World}{A A':Nat->Prop}(K:jl w A w' A'){κ:IntKind}{σ:Sh}:∀{es:List MapEntry}{N:dN σ},iH w A κ σ es N->iH w' A' κ σ es N
 |[],_,h=>h|e::es,N,h=>by cases N with|nil=>exact h|cons p N=>exact⟨h.1,h.2.1.bj K,h.2.2.bj K⟩
def ja(w:World)(A:Nat->Prop)(κ:IntKind)(σ:Sh)(es:Array MapEntry)(clock:Nat)(M:dN σ):Prop:=∃N:dN σ,N.Perm M/\iH w A κ σ es.toList N/\M.Pairwise (fun p q=>p.1<q.1)/\(∀e∈es.toList,e.born<clock)/\es.toList.Pairwise (fun e f=>e.born≠f.born)
theorem ja.bj{w w':World}{A A':Nat->Prop}(K:jl w A w' A'){κ:IntKind}{σ:Sh}{es:Array MapEntry}{clock:Nat}{M:dN σ}(h:ja w A κ σ es clock M):ja w' A' κ σ es clock M:=by obtain⟨N,h1,h2,h3⟩:=h;exact⟨N,h1,h2.bj K,h3⟩
abbrev eu:=Int×Int×List (Int×Int×Unit)×Unit
inductive AV where
 |bool (b:Bool)
 |int (k:IntKind) (n:Int)
 |str (s:ByteArray)
 |ed
 |bk
 |fE
 |fj
 |fV
 |jK
 |ptr (b off:Nat)
 |dT (b i z o:Nat)
 |fX (σ:Sh) (d:σ.T) (o:Nat)
 |hd (b:Nat) (τ:Sh)
 |vw (b:Nat) (τ:Sh) (off len:Nat)
 |fz (τ:Sh) (L:List τ.T)
 |func (f:FuncId) (first cap:List AV)
 |ej (τ:Sh) (z:Bool) (L:List τ.T)
 |mp (b:Nat)
 |dW (b:Nat)
 |rp (b i:Nat)
 |ra (b i:Nat)
 |agg (l:List AV)
 |cM (l:List AV)
inductive bu where
 |cells (l:List AV) (ty:TypeId)
 |arr (τ:Sh) (L:List τ.T) (ty:TypeId)
 |map (κ:IntKind) (σ:Sh) (M:dN σ)
 |dL (L:List eu) (ty:TypeId)
 |dV (τ:Sh) (i:Nat) (L:List τ.T) (vs:List AV) (ty:TypeId)
structure Hp where
 tr:Tr bu
 next:Nat
def bu.row:bu->Option Nat
 |.arr _ L _=>some L.length|.dV _ _ L _ _=>some L.length|_=>none
def rowOf(t:Tr bu)(b:Nat):Option Nat:=match t.get b with|some o=>o.row|none=>none
theorem gF{t:Tr bu}{b:Nat}{τ:Sh}{L:List τ.T}{ty:TypeId}(h:t.get b=some (.arr τ L ty)):rowOf t b=some L.length:=by unfold rowOf;rw[h];rfl
theorem abd{t:Tr bu}{b i:Nat}{τ:Sh}{L:List τ.T}{vs:List AV}{ty:TypeId}(h:t.get b=some (.dV τ i L vs ty)):rowOf t b=some L.length:=by unfold rowOf;rw[h];rfl
theorem ki{t:Tr bu}{b n:Nat}(h:rowOf t b=some n):∃o,t.get b=some o/\o.row=some n:=by
 unfold rowOf at h;split at h
 .rename_i o ho;exact⟨o,ho,h⟩
 .cases h
theorem jI{t:Tr bu}{b:Nat}{o:bu}(h:t.get b=some o):rowOf t b=o.row:=by unfold rowOf;rw[h]
theorem aaU{t t':Tr bu}{b b':Nat}(h:t.get b=t'.get b'):rowOf t b=rowOf t' b':=by unfold rowOf;rw[h]
inductive Loc where
 |at (b cap:Nat)
 |cE (b cap:Nat) (m:List (Nat×Nat))
 |nil
abbrev Sg:=Nat->Option Loc
def Loc.slice:Loc->Nat->Value
 |.at b c,n=>.slice (some ⟨b,0,none⟩) n c|.cE b c _,n=>.slice (some ⟨b,0,none⟩) n c|.nil,n=>.slice none n 0
def Loc.Vh:Loc->Value
 |.cE b c m=>.slice (some ⟨b,0,none⟩) m.length c|_=>.slice none 0 0
def Loc.own:Loc->Nat->Prop
 |.at b _,x=>x=b|.cE b _ m,x=>x=b\/∃p∈m,x=p.1\/x=p.2|.nil,_=>False
def qu(w:World)(A:Nat->Prop)(p:Nat×Nat)(d:eu)(ty:TypeId):Prop:=w.heap[p.1]?=some (.cells #[.int .i64 d.1,.int .i64 d.2.1,.map (some p.2)] ty (0,0))/\∃es clock,w.heap[p.2]?=some (.map es clock)/\ja w A .u64 (.int .u64) es clock d.2.2.1
def gg(w:World)(A:Nat->Prop)(ty:TypeId):List (Nat×Nat)->List eu->Prop
 |[],L=>L=[]|p::m,L=>match L with|d::L=>qu w A p d ty/\gg w A ty m L|[]=>False
def jR(m:List (Nat×Nat)):List Value:=m.map fun p=>.pointer (some ⟨p.1,0,none⟩)
def gn(m:List (Nat×Nat)):List Nat:=m.flatMap fun p=>[p.1,p.2]
structure Cx where
 s:Sg
 h:Hp
 w:World
 A:Nat->Prop
def Cx.bO(X:Cx)(b:Nat):Prop:=∃i o l,X.h.tr.get i=some o/\X.s i=some l/\l.own b
def Cx.out(X:Cx)(b:Nat):Prop:=X.A b\/X.bO b
mutual
def Rel(X:Cx):AV->Value->Prop
 |.bool b,V=>V=.bool b|.int k n,V=>V=.int k n|.str s,V=>V=.string s|.ed,V=>V=.pointer none|.bk,V=>V=.slice none 0 0|.fE,V=>V=.map none|.fj,V=>V=.nilFunc|.fV,V=>V=.nilIface|.jK,V=>Ev.mG V=true|.ptr b off,V=>∃x c,X.s b=some (.at x c)/\V=.pointer (some ⟨x,off,none⟩)|.dT b i z o,V=>∃x c,X.s b=some (.at x c)/\V=.pointer (some ⟨x,i*z+o,none⟩)/\∀n,rowOf X.h.tr b=some n->i<n|.fX σ d o,V=>∃b off cs,V=.pointer (some ⟨b,off+o,none⟩)/\¬X.out b/\Cs X.w X.out σ d cs/\yl X.w b off cs|.hd b τ,V=>∃l,X.s b=some l/\Ev.mG V=true/\∀n,rowOf X.h.tr b=some n->V=l.slice n|.vw b τ off len,V=>∃l a c,X.s b=some l/\V=.slice a len c/\len<=c/\(0<len->∃x k,l=.at x k/\a=some ⟨x,off*τ.size,none⟩)/\(off=0->V=l.slice len) /\
   ∀n,rowOf X.h.tr b=some n->off+len<=n
 |.fz τ L,V=>Cs X.w X.out (.sl τ) L [V]|.func f x c,V=>∃xs cs,V=.func (.func f) (List.toArray xs) (List.toArray cs)/\bB X x xs/\bB X c cs|.ej τ z L,V=>Cs X.w X.out (.sl τ) L [V]/\∃a l c,V=.slice a l c/\a.isNone=z|.mp b,V=>∃x c,X.s b=some (.at x c)/\V=.map (some x)|.dW b,V=>∃l,X.s b=some l/\V=l.Vh|.rp b i,V=>∃x c m p,X.s b=some (.cE x c m)/\m[i]?=some p/\V=.pointer (some ⟨p.1,0,none⟩)|.ra b i,V=>∃x c m,X.s b=some (.cE x c m)/\i<m.length/\V=.pointer (some ⟨x,i,none⟩)|.agg l,V=>∃cs,V=.agg (List.toArray cs)/\bB X l cs|.cM l,V=>∃cs,V=.tuple (List.toArray cs)/\bB X l cs
termination_by structural x=>x
def bB(X:Cx):List AV->List Value->Prop
 |[],cs=>cs=[]|x::l,cs=>∃v r,cs=v::r/\Rel X x v/\bB X l r
termination_by structural x=>x
end
structure gl(X X':Cx):Prop where
 sg:∀i l,X.s i=some l->X'.s i=some l
 K:jl X.w X.out X'.w X'.out
 len:∀j l n,X.s j=some l->rowOf X'.h.tr j=some n->rowOf X.h.tr j=some n
theorem gl.refl(X:Cx):gl X X:=⟨fun _ _ h=>h,fun b o h q=>⟨q,h⟩,fun j l n _ h=>h⟩
mutual
theorem Rel.ext{X X':Cx}(E:gl X X'):∀{v:AV}{V:Value},Rel X v V->Rel X' v V
 |.bool _,_,h|.int _ _,_,h|.str _,_,h|.ed,_,h|.bk,_,h|.fE,_,h|.fj,_,h|.fV,_,h|.jK,_,h=>h|.ptr b off,V,⟨x,c,h1,h2⟩=>⟨x,c,E.sg _ _ h1,h2⟩|.dT b i z o,V,⟨x,c,h1,h2,h3⟩=>⟨x,c,E.sg _ _ h1,h2,fun n q=>h3 n (E.len b _ n h1 q)⟩|.fX σ d o,V,⟨b,off,cs,h1,h2,h3,h4⟩=>by obtain⟨k1,k2⟩:=h4.bj E.K h2;exact⟨b,off,cs,h1,k2,h3.bj E.K,k1⟩
 |.hd b τ,V,⟨l,h1,hc,h2⟩=>⟨l,E.sg _ _ h1,hc,fun n q=>h2 n (E.len b _ n h1 q)⟩|.vw b τ off len,V,⟨l,a,c,h1,h2,h3,h4,h5,h6⟩=>⟨l,a,c,E.sg _ _ h1,h2,h3,h4,h5,fun n q=>h6 n (E.len b _ n h1 q)⟩|.fz τ L,V,h=>Cs.bj E.K (σ:=.sl τ) h|.func f x c,V,⟨xs,cs,h1,h2,h3⟩=>⟨xs,cs,h1,bB.ext E h2,bB.ext E h3⟩|.ej τ z L,V,h=>⟨Cs.bj E.K (σ:=.sl τ) h.1,h.2⟩|.mp b,V,⟨x,c,h1,h2⟩=>⟨x,c,E.sg _ _ h1,h2⟩|.dW b,V,⟨l,h1,h2⟩=>⟨l,E.sg _ _ h1,h2⟩|.rp b i,V,⟨x,c,m,p,h1,h2⟩=>⟨x,c,m,p,E.sg _ _ h1,h2⟩|.ra b i,V,⟨x,c,m,h1,h2⟩=>⟨x,c,m,E.sg _ _ h1,h2⟩|.agg l,V,⟨cs,h1,h2⟩=>⟨cs,h1,bB.ext E h2⟩|.cM l,V,⟨cs,h1,h2⟩=>⟨cs,h1,bB.ext E h2⟩
theorem bB.ext{X X':Cx}(E:gl X X'):∀{l:List AV}{cs:List Value},bB X l cs->bB X' l cs
 |[],_,h=>h|x::l,_,⟨v,r,e,h1,h2⟩=>⟨v,r,e,Rel.ext E h1,bB.ext E h2⟩
end
theorem bB.length{X:Cx}:∀{l:List AV}{cs:List Value},bB X l cs->cs.length=l.length
 |[],_,h=>by rw[show _=[]from h];rfl|x::l,_,⟨v,r,e,h1,h2⟩=>by rw[e,cp,cp,h2.length]
theorem bB.append{X:Cx}:∀{l m:List AV}{cs ds:List Value},bB X l cs->bB X m ds->bB X (l++m) (cs++ds)
 |[],m,_,ds,h,q=>by rw[show _=[]from h];simpa using q|x::l,m,_,ds,⟨v,r,e,h1,h2⟩,q=>⟨v,r++ds,by rw[e];rfl,h1,h2.append q⟩
theorem bB.take{X:Cx}:∀{l:List AV}{cs:List Value}(n:Nat),bB X l cs->bB X (l.take n) (cs.take n)
 |[],_,n,h=>by rw[show _=[]from h];simp[bB]|x::l,_,0,h=>by simp[bB]|x::l,_,n+1,⟨v,r,e,h1,h2⟩=>⟨v,r.take n,by rw[e];rfl,h1,h2.take n⟩
theorem bB.drop{X:Cx}:∀{l:List AV}{cs:List Value}(n:Nat),bB X l cs->bB X (l.drop n) (cs.drop n)
 |[],_,n,h=>by rw[show _=[]from h];simp[bB]|x::l,_,0,h=>by simpa using h|x::l,_,n+1,⟨v,r,e,h1,h2⟩=>by rw[e];simpa using h2.drop n
theorem bB.get{X:Cx}:∀{l:List AV}{cs:List Value}{i:Nat}{v:AV},bB X l cs->l[i]?=some v->∃V,cs[i]?=some V/\Rel X v V
 |[],_,i,v,h,q=>by simp at q|x::l,_,0,v,⟨u,r,e,h1,h2⟩,q=>by simp at q;subst q;exact⟨u,by rw[e];rfl,h1⟩|x::l,_,i+1,v,⟨u,r,e,h1,h2⟩,q=>by obtain⟨V,a,b⟩:=h2.get (by simpa using q);exact⟨V,by rw[e];simpa using a,b⟩
def jc(X:Cx)(l:Loc):bu->Prop
 |.cells vs ty=>∃b c cs,l=.at b c/\X.w.heap[b]?=some (.cells (List.toArray cs) ty (0,0))/\bB X vs cs|.arr τ L ty=>match l with|.nil=>L=[]|.at b c=>∃cs tail,X.w.heap[b]?=some (.cells (List.toArray (cs++tail)) ty (0,0))/\bw (Cs X.w X.out τ) L cs/\cs.length+tail.length=c*τ.size/\L.length<=c|.cE _ _ _=>False
 |.map κ σ M=>∃x c es clk,l=.at x c/\X.w.heap[x]?=some (.map es clk)/\ja X.w X.out κ σ es clk M|.dL L ty=>match l with|.nil=>L=[]|.cE b c m=>∃tail ty',X.w.heap[b]?=some (.cells (List.toArray (jR m++tail)) ty' (0,0))/\m.length+tail.length=c/\gg X.w X.out ty m L/\(b::gn m).Nodup|.at _ _=>False
 |.dV τ i L vs ty=>∃b c pre mid post tail,l=.at b c/\X.w.heap[b]?=some (.cells (List.toArray (pre++(mid++(post++tail)))) ty (0,0))/\bw (Cs X.w X.out τ) (L.take i) pre/\bB X vs mid/\bw (Cs X.w X.out τ) (L.drop (i+1)) post /\
   i<L.length/\mid.length=τ.size/\pre.length+(mid.length+(post.length+tail.length))=c*τ.size/\L.length<=c
theorem qu.ext{w w':World}{A A':Nat->Prop}(K:jl w A w' A'){p:Nat×Nat}{d:eu}{ty:TypeId}(h1:w'.heap[p.1]?=w.heap[p.1]?)(h2:w'.heap[p.2]?=w.heap[p.2]?)(h:qu w A p d ty):qu w' A' p d ty:=by obtain⟨a,es,clk,b,c⟩:=h;exact⟨h1.trans a,es,clk,h2.trans b,c.bj K⟩
theorem gg.ext{w w':World}{A A':Nat->Prop}(K:jl w A w' A'){ty:TypeId}:∀{m:List (Nat×Nat)}{L:List eu},(∀p∈m,w'.heap[p.1]?=w.heap[p.1]?/\w'.heap[p.2]?=w.heap[p.2]?)->gg w A ty m L->gg w' A' ty m L
 |[],L,_,h=>h|p::m,L,hb,h=>by cases L with|nil=>exact h|cons d L=>exact⟨h.1.ext K (hb p (by simp)).1 (hb p (by simp)).2,gg.ext K (fun q hq=>hb q (by simp[hq])) h.2⟩
theorem gg.there{w:World}{A:Nat->Prop}{ty:TypeId}:∀{m:List (Nat×Nat)}{L:List eu},gg w A ty m L->∀p∈m,(∃ob,w.heap[p.1]?=some ob)/\∃ob,w.heap[p.2]?=some ob
 |[],L,h,p,hp=>by cases hp
 |q::m,L,h,p,hp=>by
  cases L with
  |nil=>exact h.elim|cons d L=>
   rcases List.mem_cons.1 hp with rfl|hp
   .obtain⟨⟨a,es,clk,b,c⟩,_⟩:=h;exact⟨⟨_,a⟩,⟨_,b⟩⟩
   .exact gg.there h.2 p hp
theorem gg.len{w:World}{A:Nat->Prop}{ty:TypeId}:∀{m:List (Nat×Nat)}{L:List eu},gg w A ty m L->m.length=L.length
 |[],L,h=>by rw[show L=[]from h];rfl|p::m,L,h=>by cases L with|nil=>exact h.elim|cons d L=>rw[cp,cp,gg.len h.2]
theorem jc.ext{X X':Cx}(E:gl X X'){l:Loc}{o:bu}(hb:∀b,l.own b->X'.w.heap[b]?=X.w.heap[b]?)(h:jc X l o):jc X' l o:=by
 cases o with
 |cells vs ty=>obtain⟨b,c,cs,h1,h2,h3⟩:=h;exact⟨b,c,cs,h1,(hb b (by rw[h1];rfl)).trans h2,h3.ext E⟩
 |arr τ L ty=>
  cases l with
  |nil=>exact h|«at» b c=>obtain⟨cs,tail,h1,h2,h3,h4⟩:=h;exact⟨cs,tail,(hb b rfl).trans h1,h2.mono (fun x d q=>q.bj E.K),h3,h4⟩
  |cE b c m=>exact h.elim
 |map κ σ M=>obtain⟨x,c,es,clk,rfl,h2,h3⟩:=h;exact⟨x,c,es,clk,rfl,(hb _ rfl).trans h2,h3.bj E.K⟩
 |dL L ty=>cases l with|nil=>exact h|«at» b c=>exact h.elim|cE b c m=>obtain⟨tail,ty',h1,h2,h3,h4⟩:=h;exact⟨tail,ty',(hb b (.inl rfl)).trans h1,h2,h3.ext E.K (fun p hp=>⟨hb _ (.inr ⟨p,hp,.inl rfl⟩),hb _ (.inr ⟨p,hp,.inr rfl⟩)⟩),h4⟩
 |dV τ i L vs ty=>obtain⟨b,c,pre,mid,post,tail,rfl,h1,h2,h3,h4,h5⟩:=h;exact⟨b,c,pre,mid,post,tail,rfl,(hb b rfl).trans h1,h2.mono (fun x d q=>q.bj E.K),h3.ext E,h4.mono (fun x d q=>q.bj E.K),h5⟩
theorem jc.there{X:Cx}{l:Loc}{b:Nat}{o:bu}(h:jc X l o)(hb:l.own b):∃ob,X.w.heap[b]?=some ob:=by
 cases o with
 |cells vs ty=>obtain⟨b',c',cs,rfl,h2,h3⟩:=h;cases hb;exact⟨_,h2⟩
 |arr τ L ty=>
  cases l with
  |nil=>exact hb.elim|«at» b' c=>obtain⟨cs,tail,h1,h2,h3,h4⟩:=h;cases hb;exact⟨_,h1⟩
  |cE b c m=>exact h.elim
 |map κ σ M=>obtain⟨x,c,es,clk,rfl,h2,h3⟩:=h;cases hb;exact⟨_,h2⟩
 |dL L ty=>
  cases l with
  |nil=>exact hb.elim|«at» b c=>exact h.elim|cE b' c m=>
   obtain⟨tail,ty',h1,h2,h3,h4⟩:=h;rcases hb with rfl|⟨q,hq,rfl|rfl⟩
   .exact⟨_,h1⟩
   .exact(h3.there q hq).1
   .exact(h3.there q hq).2
 |dV τ i L vs ty=>obtain⟨b',c,pre,mid,post,tail,rfl,h1,_⟩:=h;cases hb;exact⟨_,h1⟩
structure aF(X:Cx):Prop where
 obj:∀i o l,X.h.tr.get i=some o->X.s i=some l->jc X l o
 inj:∀i j o o' l l' b,X.h.tr.get i=some o->X.h.tr.get j=some o'->X.s i=some l->X.s j=some l'->l.own b->l'.own b->i=j
 lt:∀i o,X.h.tr.get i=some o->i<X.h.next
 di:∀i l,X.s i=some l->i<X.h.next
 alt:∀b,X.A b->b<X.w.heap.size
 loc:∀i o l b,X.h.tr.get i=some o->X.s i=some l->l.own b->¬X.A b
theorem fN{α:Type}{a:Array α}{i:Nat}{x:α}(h:a[i]?=some x):i<a.size:=by
 rcases de i a.size with q|q
 .exact q
 .rw[Array.getElem?_eq_none q]at h;cases h
theorem aF.jj{X:Cx}(H:aF X){i:Nat}{o:bu}{l:Loc}{b:Nat}(hi:X.h.tr.get i=some o)(hs:X.s i=some l)(hb:l.own b):b<X.w.heap.size:=by obtain⟨ob,h⟩:=(H.obj i o _ hi hs).there hb;exact fN h
theorem aF.bound{X:Cx}(H:aF X){i:Nat}{o:bu}{b c:Nat}(hi:X.h.tr.get i=some o)(hs:X.s i=some (.at b c)):b<X.w.heap.size:=H.jj hi hs rfl
theorem aF.vX{X:Cx}(H:aF X){b:Nat}(h:X.bO b):b<X.w.heap.size:=by obtain⟨i,o,l,h1,h2,h3⟩:=h;exact H.jj h1 h2 h3
structure aO(X X':Cx):Prop where
 os:X'.w.os=X.w.os
 tape:X'.w.tape=X.w.tape
 output:X'.w.output=X.w.output
 size:X.w.heap.size<=X'.w.heap.size
 sg:∀i l,X.s i=some l->X'.s i=some l
 di:∀i l,i<X.h.next->X'.s i=some l->X.s i=some l
 next:X.h.next<=X'.h.next
 frame:∀b,b<X.w.heap.size->¬X.bO b->X'.w.heap[b]?=X.w.heap[b]?
 bO:∀b,X'.bO b->X.bO b\/X.w.heap.size<=b
 len:∀j n,j<X.h.next->rowOf X'.h.tr j=some n->rowOf X.h.tr j=some n
 same:∀i,i<X.h.next->X.s i=none->X'.h.tr.get i=X.h.tr.get i
 A:X'.A=X.A
theorem aO.refl(X:Cx):aO X X:=⟨rfl,rfl,rfl,aS _,fun _ _ h=>h,fun _ _ _ h=>h,aS _,fun _ _ _=>rfl,fun _ h=>.inl h,fun j n _ h=>h,fun _ _ _=>rfl,rfl⟩
theorem aO.trans{X X' X'':Cx}(a:aO X X')(b:aO X' X''):aO X X'' where
 os:=b.os.trans a.os
 tape:=b.tape.trans a.tape
 output:=b.output.trans a.output
 size:=dK a.size b.size
 sg i l h:=b.sg i l (a.sg i l h)
 di i l hi h:=a.di i l hi (b.di i l (iS hi a.next) h)
 next:=dK a.next b.next
 frame k hk hn:=by
  refine(b.frame k (iS hk a.size) fun q=>?_).trans (a.frame k hk hn);rcases a.bO k q with q|q
  .exact hn q
  .omega
 bO k h:=by
  rcases b.bO k h with q|q
  .exact a.bO k q
  .exact .inr (dK a.size q)
 len j n hj h:=a.len j n hj (b.len j n (iS hj a.next) h)
 same i hi hs:=by
  have:X'.s i=none:=by cases q:X'.s i with|none=>rfl|some l=>rw[a.di i l hi q]at hs;cases hs
  exact(b.same i (iS hi a.next) this).trans (a.same i hi hs)
 A:=b.A.trans a.A
theorem aO.keeps{X X':Cx}(E:aO X X'):jl X.w X.out X'.w X'.out:=by
 intro b o h q;have hb:=fN q;refine⟨(E.frame b hb fun r=>h (.inr r)).trans q,?_⟩;rintro(r|r)
 .rw[E.A]at r;exact h (.inl r)
 .rcases E.bO b r with r|r
  .exact h (.inr r)
  .omega
theorem aO.eS{X X':Cx}(E:aO X X')(H:aF X):gl X X':=⟨E.sg,E.keeps,fun j l n h q=>E.len j n (H.di j l h) q⟩
theorem aO.drew(X:Cx)(d:Nat):aO X { X with w:={ X.w with drawn:=d } }:=⟨rfl,rfl,rfl,aS _,fun _ _ h=>h,fun _ _ _ h=>h,aS _,fun _ _ _=>rfl,fun _ h=>.inl h,fun j n _ h=>h,fun _ _ _=>rfl,rfl⟩
theorem gl.of_heap{X:Cx}{w:World}(h:w.heap=X.w.heap):gl X { X with w:=w }:=⟨fun _ _ h=>h,fun b o q r=>⟨by show w.heap[b]?=_;rw[h];exact r,q⟩,fun j l n _ q=>q⟩
theorem aF.drew{X:Cx}(H:aF X)(d:Nat):aF { X with w:={ X.w with drawn:=d } }:=⟨fun i o l h q=>(H.obj i o l h q).ext (gl.of_heap (X:=X) (w:={ X.w with drawn:=d }) rfl) (fun _ _=>rfl),H.inj,H.lt,H.di,H.alt,H.loc⟩
theorem aO.put{X:Cx}(H:aF X){i f:Nat}{o o':bu}{b c:Nat}{ob:Obj}{tr':Tr bu}(hi:X.h.tr.get i=some o)(hs:X.s i=some (.at b c))
  (hl:∀n,o'.row=some n->o.row=some n) (ht:Tr.set f X.h.tr i (some o')=some tr') :
  aO X ⟨X.s,⟨tr',X.h.next⟩,dr X.w b ob,X.A⟩:=by
 have hg:=Tr.cI f X.h.tr i (some o') tr' ht;refine⟨rfl,rfl,rfl,by rw[kr];exact aS _,fun _ _ h=>h,fun _ _ _ h=>h,aS _,?_,?_,?_,?_,rfl⟩
 .intro k hk hn;show(dr X.w b ob).heap[k]?=_;rw[gL,if_neg];rintro⟨rfl,_⟩;exact hn ⟨i,o,_,hi,hs,rfl⟩
 .rintro k ⟨j,o₁,c₁,h1,h2⟩;left;simp only[hg j]at h1;by_cases q:j=i
  .subst q;exact⟨j,o,c₁,hi,h2⟩
  .rw[if_neg q]at h1;exact⟨j,o₁,c₁,h1,h2⟩
 .intro j n hj h
  replace h:rowOf tr' j=some n:=h
  unfold rowOf at h;rw[hg j]at h;by_cases q:j=i
  .subst q;rw[if_pos rfl]at h;show rowOf X.h.tr j=some n;rw[jI hi];exact hl n h
  .rw[if_neg q]at h;exact h
 .intro j hj hn;show tr'.get j=_;rw[hg j,if_neg];rintro rfl;rw[hs]at hn;cases hn
theorem aF.put{X:Cx}(H:aF X){i f:Nat}{o o':bu}{b c:Nat}{ob:Obj}{tr':Tr bu}(hi:X.h.tr.get i=some o)(hs:X.s i=some (.at b c))
  (hl:∀n,o'.row=some n->o.row=some n) (ht:Tr.set f X.h.tr i (some o')=some tr')
  (ho:jc ⟨X.s,⟨tr',X.h.next⟩,dr X.w b ob,X.A⟩ (.at b c) o'):aF ⟨X.s,⟨tr',X.h.next⟩,dr X.w b ob,X.A⟩:=by
 have E:=aO.put (ob:=ob) H hi hs hl ht;have hg:=Tr.cI f X.h.tr i (some o') tr' ht;have alt:∀j o₁,tr'.get j=some o₁->∃o₂,X.h.tr.get j=some o₂:=by
  intro j o₁ hj;rw[hg j]at hj;by_cases q:j=i
  .subst q;exact⟨o,hi⟩
  .rw[if_neg q]at hj;exact⟨_,hj⟩
 refine⟨?_,?_,?_,H.di,by rw[show(dr X.w b ob).heap.size=X.w.heap.size from kr _ _ _];exact H.alt,?_⟩
 .intro j o₁ l hj hl';simp only[hg j]at hj;by_cases q:j=i
  .subst q;simp only[if_true,bV]at hj;subst hj;have:l=.at b c:=by have:=hl'.symm.trans hs;simpa using this
   subst this;exact ho
  .rw[if_neg q]at hj;refine(H.obj j o₁ l hj hl').ext (E.eS H) ?_;intro b' hb';show(dr X.w b ob).heap[b']?=_;rw[gL,if_neg];rintro⟨rfl,_⟩;exact q (H.inj j i o₁ o l _ b' hj hi hl' hs hb' rfl)
 .intro j k o₁ o₂ l₁ l₂ x hj hk e1 e2;obtain⟨p,hp⟩:=alt j o₁ hj;obtain⟨q,hq⟩:=alt k o₂ hk;exact H.inj j k p q l₁ l₂ x hp hq e1 e2
 .intro j o₁ hj;obtain⟨p,hp⟩:=alt j o₁ hj;exact H.lt j p hp
 .intro j o₁ l₁ x hj e;obtain⟨p,hp⟩:=alt j o₁ hj;exact H.loc j p l₁ x hp e
def bZ(s:Sg)(i:Nat)(x:Loc):Sg:=fun j=>if j=i then some x else s j
theorem fG(s:Sg)(i:Nat)(x:Loc):bZ s i x i=some x:=by simp[bZ]
theorem dE(s:Sg)(i:Nat)(x:Loc){j:Nat}(h:j≠i):bZ s i x j=s j:=by simp[bZ,h]
theorem gl.real{X:Cx}(H:aF X){i:Nat}{c:Nat}{ob:Obj}(hs:X.s i=none):gl X ⟨bZ X.s i (.at X.w.heap.size c),X.h,{ X.w with heap:=X.w.heap.push ob },X.A⟩:=by
 have hne:∀j l,X.s j=some l->j≠i:=by rintro j l h rfl;rw[hs]at h;cases h
 refine⟨fun j l h=>by show bZ X.s i _ j=_;rw[dE _ _ _ (hne j l h)];exact h,?_,fun j l n _ q=>q⟩;intro b o h q;have hb:=fN q;refine⟨by show(X.w.heap.push ob)[b]?=_;rw[Array.getElem?_push,if_neg (by omega)];exact q,?_⟩;rintro(r|⟨j,o₁,c₁,h1,h2⟩)
 .exact h (.inl r)
 .obtain⟨h2,h3⟩:=h2
  replace h2:bZ X.s i (.at X.w.heap.size c) j=some c₁:=h2
  by_cases q:j=i
  .subst q;rw[fG]at h2;cases h2;have:b=X.w.heap.size:=h3;omega
  .rw[dE _ _ _ q]at h2;exact h (.inr ⟨j,o₁,c₁,h1,h2,h3⟩)
theorem aF.real{X:Cx}(H:aF X){i:Nat}{c:Nat}{ob:Obj}(hs:X.s i=none)(hi:i<X.h.next)
  (ho:∀o,X.h.tr.get i=some o->jc ⟨bZ X.s i (.at X.w.heap.size c),X.h,{ X.w with heap:=X.w.heap.push ob },X.A⟩ (.at X.w.heap.size c) o) :
  aF ⟨bZ X.s i (.at X.w.heap.size c),X.h,{ X.w with heap:=X.w.heap.push ob },X.A⟩:=by
 have E:=gl.real (c:=c) (ob:=ob) H hs;refine⟨?_,?_,H.lt,?_,fun b hb=>by have:=H.alt b hb;simp;omega,?_⟩
 .intro j o l hj hl
  replace hl:bZ X.s i (.at X.w.heap.size c) j=some l:=hl
  by_cases q:j=i
  .subst q;rw[fG]at hl;simp only[bV]at hl;subst hl;exact ho o hj
  .rw[dE _ _ _ q]at hl;refine(H.obj j o l hj hl).ext E ?_;intro b hb;have:=H.jj hj hl hb;show(X.w.heap.push ob)[b]?=_;rw[Array.getElem?_push,if_neg (by omega)]
 .intro j k o o' c₁ c₂ b hj hk e1 e2 f1 f2
  replace e1:bZ X.s i (.at X.w.heap.size c) j=some c₁:=e1
  replace e2:bZ X.s i (.at X.w.heap.size c) k=some c₂:=e2
  by_cases q:j=i
  .by_cases r:k=i
   .rw[q,r]
   .rw[dE _ _ _ r]at e2;subst q;rw[fG]at e1;cases e1;have:=H.jj hk e2 f2;have:b=X.w.heap.size:=f1;omega
  .rw[dE _ _ _ q]at e1;by_cases r:k=i
   .subst r;rw[fG]at e2;cases e2;have:=H.jj hj e1 f1;have:b=X.w.heap.size:=f2;omega
   .rw[dE _ _ _ r]at e2;exact H.inj j k o o' c₁ c₂ b hj hk e1 e2 f1 f2
 .intro j l hl
  replace hl:bZ X.s i (.at X.w.heap.size c) j=some l:=hl
  by_cases q:j=i
  .subst q;exact hi
  .rw[dE _ _ _ q]at hl;exact H.di j l hl
 .intro j o c₁ b hj e f
  replace e:bZ X.s i (.at X.w.heap.size c) j=some c₁:=e
  by_cases q:j=i
  .subst q;rw[fG]at e;cases e;intro ha;have:=H.alt b ha;have:b=X.w.heap.size:=f;omega
  .rw[dE _ _ _ q]at e;exact H.loc j o c₁ b hj e f
theorem aO.more{X:Cx}(H:aF X){f:Nat}{o:bu}{tr':Tr bu}(ht:Tr.set f X.h.tr X.h.next (some o)=some tr'):aO X ⟨X.s,⟨tr',X.h.next+1⟩,X.w,X.A⟩/\aF ⟨X.s,⟨tr',X.h.next+1⟩,X.w,X.A⟩:=by
 have hg:=Tr.cI f X.h.tr X.h.next (some o) tr' ht;have hn:X.s X.h.next=none:=by cases q:X.s X.h.next with|none=>rfl|some l=>have:=H.di _ _ q;omega
 have old:∀j l,X.s j=some l->tr'.get j=X.h.tr.get j:=by intro j l h;rw[hg j,if_neg];rintro rfl;rw[hn]at h;cases h
 have E:aO X ⟨X.s,⟨tr',X.h.next+1⟩,X.w,X.A⟩:=by
  refine⟨rfl,rfl,rfl,aS _,fun _ _ h=>h,fun _ _ _ h=>h,by simp,fun _ _ _=>rfl,?_,?_,?_,rfl⟩
  .rintro b ⟨i,o₁,c,h1,h2,h3⟩;exact .inl ⟨i,o₁,c,by rw[<-old i _ h2];exact h1,h2,h3⟩
  .intro j n hj h
   replace h:rowOf tr' j=some n:=h
   unfold rowOf at h;rw[hg j,if_neg (by omega)]at h;exact h
  .intro j hj _;show tr'.get j=_;rw[hg j,if_neg (by omega)]
 refine⟨E,⟨?_,?_,?_,?_,H.alt,?_⟩⟩
 .intro j o₁ l hj hl
  replace hj:tr'.get j=some o₁:=hj
  rw[old j l hl]at hj;exact(H.obj j o₁ l hj hl).ext (E.eS H) (fun _ _=>rfl)
 .intro j k o₁ o₂ b c₁ c₂ hj hk e1 e2
  replace hj:tr'.get j=some o₁:=hj
  replace hk:tr'.get k=some o₂:=hk
  rw[old j _ e1]at hj;rw[old k _ e2]at hk;exact H.inj j k o₁ o₂ b c₁ c₂ hj hk e1 e2
 .intro j o₁ hj;simp only[hg j]at hj;by_cases q:j=X.h.next
  .simp[q]
  .rw[if_neg q]at hj;have:=H.lt j o₁ hj;simp only;omega
 .intro j l h;have:=H.di j l h;simp only;omega
 .intro j o₁ b c hj e
  replace hj:tr'.get j=some o₁:=hj
  rw[old j _ e]at hj;exact H.loc j o₁ b c hj e
theorem Xw{X:Cx}(H:aF X){f c:Nat}{o:bu}{ob:Obj}{tr':Tr bu}(ht:Tr.set f X.h.tr X.h.next (some o)=some tr') :
  aO X ⟨bZ X.s X.h.next (.at X.w.heap.size c),⟨tr',X.h.next+1⟩,{ X.w with heap:=X.w.heap.push ob },X.A⟩:=by
 obtain⟨E,H'⟩:=aO.more H ht;have hn:X.s X.h.next=none:=by cases q:X.s X.h.next with|none=>rfl|some l=>have:=H.di _ _ q;omega
 refine⟨rfl,rfl,rfl,by simp,?_,?_,by simp,?_,?_,E.len,E.same,rfl⟩
 .intro i l h;have:=H.di i l h;show bZ X.s _ _ i=_;rw[dE _ _ _ (by omega)];exact h
 .intro i l hi h
  replace h:bZ X.s X.h.next _ i=some l:=h
  rw[dE _ _ _ (by omega)]at h;exact h
 .intro b hb _;show(X.w.heap.push ob)[b]?=_;rw[Array.getElem?_push,if_neg (by omega)]
 .rintro b ⟨i,o₁,c₁,h1,h2,h3⟩
  replace h2:bZ X.s X.h.next (.at X.w.heap.size c) i=some c₁:=h2
  by_cases q:i=X.h.next
  .subst q;rw[fG]at h2;cases h2;have:b=X.w.heap.size:=h3;right;omega
  .rw[dE _ _ _ q]at h2;exact E.bO b ⟨i,o₁,c₁,h1,h2,h3⟩
theorem aF.new{X:Cx}(H:aF X){f c:Nat}{o:bu}{ob:Obj}{tr':Tr bu}(ht:Tr.set f X.h.tr X.h.next (some o)=some tr')
  (ho:jc ⟨bZ X.s X.h.next (.at X.w.heap.size c),⟨tr',X.h.next+1⟩,{ X.w with heap:=X.w.heap.push ob },X.A⟩ (.at X.w.heap.size c) o) :
  aF ⟨bZ X.s X.h.next (.at X.w.heap.size c),⟨tr',X.h.next+1⟩,{ X.w with heap:=X.w.heap.push ob },X.A⟩:=by
 obtain⟨E,H'⟩:=aO.more H ht;have hn:X.s X.h.next=none:=by cases q:X.s X.h.next with|none=>rfl|some l=>have:=H.di _ _ q;omega
 have hg:=Tr.cI f X.h.tr X.h.next (some o) tr' ht;refine aF.real H' hn (by simp) ?_;intro o₁ h₁
 replace h₁:tr'.get X.h.next=some o₁:=h₁
 rw[hg,if_pos rfl]at h₁;simp only[bV]at h₁;subst h₁;exact ho
theorem aF.VS{X:Cx}(H:aF X){f:Nat}{vo:bu}{tr':Tr bu}(ht:Tr.set f X.h.tr X.h.next (some vo)=some tr')(hv:∀X',jc X' .nil vo) :
  aO X ⟨bZ X.s X.h.next .nil,⟨tr',X.h.next+1⟩,X.w,X.A⟩/\aF ⟨bZ X.s X.h.next .nil,⟨tr',X.h.next+1⟩,X.w,X.A⟩:=by
 obtain⟨E,H'⟩:=aO.more H ht;have hn:X.s X.h.next=none:=by cases q:X.s X.h.next with|none=>rfl|some l=>have:=H.di _ _ q;omega
 have hg:=Tr.cI f X.h.tr X.h.next (some vo) tr' ht;have ne:∀j l b,bZ X.s X.h.next .nil j=some l->l.own b->X.s j=some l:=by
  intro j l b h hb;by_cases q:j=X.h.next
  .subst q;rw[fG]at h;cases h;exact hb.elim
  .rwa [dE _ _ _ q]at h
 have S:aO X ⟨bZ X.s X.h.next .nil,⟨tr',X.h.next+1⟩,X.w,X.A⟩:=by
  refine⟨rfl,rfl,rfl,aS _,?_,?_,by simp,fun _ _ _=>rfl,?_,E.len,E.same,rfl⟩
  .intro i l h;have:=H.di i l h;show bZ X.s _ _ i=_;rw[dE _ _ _ (by omega)];exact h
  .intro i l hi h
   replace h:bZ X.s X.h.next _ i=some l:=h
   rw[dE _ _ _ (by omega)]at h;exact h
  .rintro b ⟨i,o₁,c₁,h1,h2,h3⟩;exact E.bO b ⟨i,o₁,c₁,h1,ne _ _ _ h2 h3,h3⟩
 refine⟨S,⟨?_,?_,H'.lt,?_,H.alt,?_⟩⟩
 .intro j o l hj hl
  replace hl:bZ X.s X.h.next .nil j=some l:=hl
  replace hj:tr'.get j=some o:=hj
  by_cases q:j=X.h.next
  .subst q;rw[fG]at hl;simp only[bV]at hl;subst hl;rw[hg,if_pos rfl]at hj;simp only[bV]at hj;subst hj;exact hv _
  .rw[dE _ _ _ q]at hl;rw[hg,if_neg q]at hj;exact(H.obj j o l hj hl).ext (S.eS H) (fun _ _=>rfl)
 .intro j k o o' c₁ c₂ b hj hk e1 e2 f1 f2;exact H'.inj j k o o' c₁ c₂ b hj hk (ne _ _ _ e1 f1) (ne _ _ _ e2 f2) f1 f2
 .intro j l hl
  replace hl:bZ X.s X.h.next .nil j=some l:=hl
  by_cases q:j=X.h.next
  .simp[q]
  .rw[dE _ _ _ q]at hl;have:=H.di j l hl;simp only;omega
 .intro j o l b hj e f;exact H'.loc j o l b hj (ne _ _ _ e f) f
theorem aF.void{X:Cx}(H:aF X){f:Nat}{τ:Sh}{ty:TypeId}{tr':Tr bu}(ht:Tr.set f X.h.tr X.h.next (some (.arr τ [] ty))=some tr') :
  aO X ⟨bZ X.s X.h.next .nil,⟨tr',X.h.next+1⟩,X.w,X.A⟩/\aF ⟨bZ X.s X.h.next .nil,⟨tr',X.h.next+1⟩,X.w,X.A⟩:=H.VS ht fun _=>rfl
theorem aF.kill{X:Cx}(H:aF X){i f:Nat}{l:Loc}{tr':Tr bu}(hs:X.s i=some l)(ht:Tr.set f X.h.tr i none=some tr') :
  aO X ⟨X.s,⟨tr',X.h.next⟩,X.w,X.A⟩/\aF ⟨X.s,⟨tr',X.h.next⟩,X.w,X.A⟩:=by
 have hg:=Tr.cI f X.h.tr i none tr' ht;have sub:∀j o,tr'.get j=some o->X.h.tr.get j=some o/\j≠i:=by
  intro j o hj;rw[hg j]at hj;by_cases q:j=i
  .rw[if_pos q]at hj;cases hj
  .rw[if_neg q]at hj;exact⟨hj,q⟩
 have E:aO X ⟨X.s,⟨tr',X.h.next⟩,X.w,X.A⟩:=by
  refine⟨rfl,rfl,rfl,aS _,fun _ _ h=>h,fun _ _ _ h=>h,aS _,fun _ _ _=>rfl,?_,?_,?_,rfl⟩
  .rintro b ⟨j,o,c,h1,h2⟩;exact .inl ⟨j,o,c,(sub j o h1).1,h2⟩
  .intro j n hj h;obtain⟨o,h1,h2⟩:=ki h;show rowOf X.h.tr j=some n;rw[jI (sub j o h1).1];exact h2
  .intro j hj hn;show tr'.get j=_;rw[hg j,if_neg];rintro rfl;rw[hs]at hn;cases hn
 exact⟨E,⟨fun j o l hj hl=>(H.obj j o l (sub j o hj).1 hl).ext (E.eS H) (fun _ _=>rfl),fun j k o o' l l' b hj hk=>H.inj j k o o' l l' b (sub j o hj).1 (sub k o' hk).1,
  fun j o hj=>H.lt j o (sub j o hj).1,H.di,H.alt,fun j o l b hj=>H.loc j o l b (sub j o hj).1⟩⟩
theorem aF.freeze{X:Cx}(H:aF X){i f:Nat}{l:Loc}{τ:Sh}{L:List τ.T}{ty:TypeId}{tr':Tr bu}(hi:X.h.tr.get i=some (.arr τ L ty))(hs:X.s i=some l)(ht:Tr.set f X.h.tr i none=some tr') :
  Cs X.w (Cx.out ⟨X.s,⟨tr',X.h.next⟩,X.w,X.A⟩) (.sl τ) L [l.slice L.length]:=by
 obtain⟨E,H'⟩:=H.kill hs ht;have hg:=Tr.cI f X.h.tr i none tr' ht;have ho:=H.obj i _ l hi hs;cases l with
 |nil=>have:L=[]:=ho;subst this;exact⟨none,0,0,rfl,rfl,aS _,fun h=>absurd rfl h⟩|«at» b c=>
  obtain⟨cs,tail,h1,h2,h3,h4⟩:=ho;refine⟨some ⟨b,0,none⟩,L.length,c,rfl,rfl,h4,fun _=>⟨b,0,cs,rfl,?_,h2.mono (fun x d q=>q.bj E.keeps),⟨_,ty,_,h1,?_⟩⟩⟩
  .rintro(q|⟨j,o,c',q1,q2,q3⟩)
   .exact H.loc i _ _ b hi hs rfl q
   .replace q1:tr'.get j=some o:=q1
    rw[hg j]at q1;by_cases r:j=i
    .rw[if_pos r]at q1;cases q1
    .rw[if_neg r]at q1;exact r (H.inj j i o _ c' _ b q1 hi q2 hs q3 rfl)
  .intro j u hu;rw[Nat.zero_add];simp only[List.getElem?_toArray];rw[List.getElem?_append_left]
   .exact hu
   .rcases de j cs.length with q|q
    .exact q
    .rw[ep q]at hu;cases hu
 |cE b c m=>exact ho.elim
end Go.Proofs.YtkcpdpplobhpaaaGreat.V
end
section
namespace Go.Proofs.YtkcpdpplobhpaaaGreat.Ev
open Go Go.RowKit
def oL(P:Program)(t:TypeId):Option Bool:=match P.underlying t with|some (.struct _)=>some true|some (.array _ _)=>some true|some _=>some false|none=>none
theorem ns{P:Program}{t:TypeId}{b:Bool}(h:oL P t=some b)(w:World):(isAgg t).run P w=.ok b w:=by unfold oL at h;cases hu:P.underlying t with|none=>simp[hu]at h|some d=>cases d<;>simp[hu]at h<;>subst h<;>simp[isAgg,run_underlying hu]
def places(P:Program):List Field->Option (List (Nat×Nat))
 |[]=>some []|f::l=>match fJ P f.type with
  |some n=>match places P l with|some r=>some ((f.offset,n)::r)|none=>none
  |none=>none
theorem run_places{P:Program}{w:World}:∀{l:List Field}{r:List (Nat×Nat)},places P l=some r ->
  (l.mapM (fun f=>do pure (f.offset,<-Go.sizeOf f.type):Field->Sem (Nat×Nat))).run P w=.ok r w
 |[],r,h=>by simp[places]at h;subst h;simp|f::l,r,h=>by
  simp only[places]at h;split at h<;>try cases h
  rename_i n hn;split at h<;>try cases h
  rename_i q hq;rw[List.mapM_cons];simp only[Sem.run_bind,run_sizeOf hn,Result.andThen_ok,Sem.run_pure];rw[run_places hq];rfl
theorem pW{P:Program}{w:World}{l:Array Field}{r:List (Nat×Nat)}(h:places P l.toList=some r) :
  (l.mapM (fun f=>do pure (f.offset,<-Go.sizeOf f.type):Field->Sem (Nat×Nat))).run P w=.ok r.toArray w:=by
 have:=run_places (w:=w) h;rw[Array.mapM_eq_mapM_toList,Sem.run_map,this];rfl
def j8(P:Program)(t:TypeId):Option Nat:=match P.info? t with|some i=>some i.bytes|none=>none
