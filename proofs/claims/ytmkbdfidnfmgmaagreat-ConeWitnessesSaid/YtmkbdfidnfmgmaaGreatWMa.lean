import Derived.Test.YtmkbdfidnfmgmaaGreatWAa
import Derived.Orders
import Derived.Below
import Derived.Scope
import Derived.KernelRfl
import Derived.Laws.Sem
set_option linter.all false
section
namespace Go.Proofs.YtmkbdfidnfmgmaaGreat.Ev
open Go Go.RowKit
inductive Tr(α:Type) where
 |nil
 |node (v:Option α) (l r:Tr α)
def Tr.get{α:Type}:Tr α->Nat->Option α
 |.nil,_=>none|.node v l r,n=>match n with|0=>v|m+1=>match Nat.beq (m % 2) 0 with|true=>l.get (m / 2)|false=>r.get (m / 2)
def Tr.val{α:Type}:Tr α->Option α|.nil=>none|.node v _ _=>v
def Tr.left{α:Type}:Tr α->Tr α|.nil=>.nil|.node _ l _=>l
def Tr.right{α:Type}:Tr α->Tr α|.nil=>.nil|.node _ _ r=>r
def Tr.set{α:Type}:Nat->Tr α->Nat->Option α->Option (Tr α)
 |0,_,_,_=>none|f+1,t,n,a=>match n with
  |0=>some (.node a t.left t.right)|m+1=>match Nat.beq (m % 2) 0 with
   |true=>match Tr.set f t.left (m / 2) a with|some x=>some (.node t.val x t.right)|none=>none
   |false=>match Tr.set f t.right (m / 2) a with|some x=>some (.node t.val t.left x)|none=>none
theorem Tr.vd{α:Type}(v:Option α)(l r:Tr α)(m:Nat):(Tr.node v l r).get (m+1)=if m % 2=0 then l.get (m / 2)else r.get (m / 2):=by
 simp only[Tr.get];cases hm:Nat.beq (m % 2) 0
 .rw[BT (asi hm)]
 simp_all
theorem Tr.dp{α:Type}:∀(f:Nat) (t:Tr α) (n:Nat) (a:Option α) (t':Tr α),Tr.set f t n a=some t' ->
  ∀m,t'.get m=if m=n then a else t.get m:=by
 intro f
 induction f with
 |zero=>intro t n a t' h;simp[Tr.set]at h|succ f ih=>
  intro t n a t' h m;have hn:∀m,t.get m=(Tr.node t.val t.left t.right).get m:=by
   intro m;cases t with
   |nil=>cases m with|zero=>rfl|succ m=>simp only[Tr.vd,Tr.left,Tr.right];simp[Tr.get]
   |node v l r=>rfl
  rw[hn];cases n with
  |zero=>simp only[Tr.set,cM]at h;subst h;cases m with|zero=>simp[Tr.get]|succ m=>simp only[Tr.vd];rw[BT (by omega:¬m+1=0)]
  |succ n=>
   simp only[Tr.set]at h;cases hb:Nat.beq (n % 2) 0<;>simp only[hb]at h
   .have hb':=asi hb;cases hs:Tr.set f t.right (n / 2) a<;>simp only[hs]at h
    .cases h
    simp only[cM]at h;subst h;cases m with
    |zero=>simp[Tr.get]|succ m=>
     have e:=ih _ _ _ _ hs (m / 2);simp only[Tr.vd];by_cases hm:m % 2=0
     .rw[IO hm,IO hm,BT atO]
     .rw[BT hm,BT hm,e];by_cases q:m / 2=n / 2
      .rw[IO q,IO atO]
      .rw[BT q,BT atO]
   .have hb':=cB hb;cases hs:Tr.set f t.left (n / 2) a<;>simp only[hs]at h
    .cases h
    simp only[cM]at h;subst h;cases m with
    |zero=>simp[Tr.get]|succ m=>
     have e:=ih _ _ _ _ hs (m / 2);simp only[Tr.vd];by_cases hm:m % 2=0
     .rw[IO hm,IO hm,e];by_cases q:m / 2=n / 2
      .rw[IO q,IO atO]
      .rw[BT q,BT atO]
     .rw[BT hm,BT hm,BT atO]
inductive AV where
 |bool (b:Bool)
 |int (k:IntKind) (n:Int)
 |str (s:ByteArray)
 |fw
 |ptr (b off:Nat)
 |bt
 |slice (b off len:Nat) (u:Bool) (c:Nat)
 |RH (a:pm) (len cap:Nat)
 |NI (b off off' c:Nat)
 |gr
 |map (b:Nat)
 |func (f:FuncId) (first cap:List AV)
 |ga
 |gZ
 |agg (l:List AV)
 |d5 (l:List AV)
abbrev Sg:=Nat->Nat×Nat
mutual
def ws(n:Nat):AV->Bool
 |.bool _|.int _ _|.str _|.fw|.bt|.RH _ _ _|.gr|.ga|.gZ=>true|.ptr b _=>Nat.blt b n|.slice b _ _ _ _=>Nat.blt b n|.NI b _ _ _=>Nat.blt b n|.map b=>Nat.blt b n|.func _ x c=>match Bb n x with|true=>Bb n c|false=>false
 |.agg l=>Bb n l|.d5 l=>Bb n l
termination_by structural x=>x
def Bb(n:Nat):List AV->Bool
 |[]=>true|x::l=>match ws n x with|true=>Bb n l|false=>false
termination_by structural x=>x
end
def IntKind.num:IntKind->Nat
 |.i8=>0|.i16=>1|.i32=>2|.i64=>3|.u8=>4|.u16=>5|.u32=>6|.u64=>7
theorem IntKind.xp{a b:IntKind}(h:IntKind.num a=IntKind.num b):a=b:=by cases a<;>cases b<;>first|rfl|(exact absurd h atS)
def Int.eqv:Int->Int->Bool
 |.ofNat a,.ofNat b=>Nat.beq a b|.negSucc a,.negSucc b=>Nat.beq a b|_,_=>false
theorem Int.ic{a b:Int}(h:Int.eqv a b=true):a=b:=by cases a<;>cases b<;>simp[Int.eqv,Nat.beq_eq]at h<;>subst h<;>rfl
def tv(a b:List UInt8):Bool:=match a,b with
 |[],[]=>true|x::a,y::b=>match Nat.beq x.toNat y.toNat with|true=>tv a b|false=>false
 |_,_=>false
theorem Zz2:∀{a b:List UInt8},tv a b=true->a=b
 |[],[],_=>rfl|x::a,y::b,h=>by
  simp only[tv]at h;cases hx:Nat.beq x.toNat y.toNat<;>simp only[hx]at h
  .cases h
  rw[Zz2 h,UInt8.toNat_inj.1 (cB hx)]
 |[],_::_,h=>by simp[tv]at h|_::_,[],h=>by simp[tv]at h
def yQ(a b:ByteArray):Bool:=tv a.data.toList b.data.toList
theorem TP{a b:ByteArray}(h:yQ a b=true):a=b:=by have:=Zz2 h;cases a;simp_all
mutual
def AV.eqv:AV->AV->Bool
 |.bool a,b=>match b with|.bool b=>(match a,b with|true,true=>true|false,false=>true|_,_=>false)|_=>false
 |.int k n,b=>match b with|.int k' n'=>(match Nat.beq (IntKind.num k) (IntKind.num k')with|true=>Int.eqv n n'|false=>false)|_=>false
 |.str a,b=>match b with|.str b=>yQ a b|_=>false
 |.fw,b=>match b with|.fw=>true|_=>false
 |.ptr x y,b=>match b with|.ptr x' y'=>(match Nat.beq x x' with|true=>Nat.beq y y'|false=>false)|_=>false
 |.bt,b=>match b with|.bt=>true|_=>false
 |.slice x y l u c,b=>match b with
  |.slice x' y' l' u' c'=>(match Nat.beq x x',Nat.beq y y',Nat.beq l l',u,u' with|true,true,true,true,true=>Nat.beq c c'|true,true,true,false,false=>Nat.beq c c'|_,_,_,_,_=>false)
  |_=>false
 |.RH _ _ _,_=>false|.NI _ _ _ _,_=>false|.gr,b=>match b with|.gr=>true|_=>false
 |.map x,b=>match b with|.map y=>Nat.beq x y|_=>false
 |.func f x c,b=>match b with
  |.func f' x' c'=>(match Nat.beq f f',AV.mi x x' with|true,true=>AV.mi c c'|_,_=>false)
  |_=>false
 |.ga,b=>match b with|.ga=>true|_=>false
 |.gZ,b=>match b with|.gZ=>true|_=>false
 |.agg l,b=>match b with|.agg l'=>AV.mi l l'|_=>false
 |.d5 l,b=>match b with|.d5 l'=>AV.mi l l'|_=>false
termination_by structural x=>x
def AV.mi:List AV->List AV->Bool
 |[],m=>match m with|[]=>true|_=>false
 |x::l,m=>match m with
  |y::m=>(match AV.eqv x y with|true=>AV.mi l m|false=>false)
  |[]=>false
termination_by structural x=>x
end
mutual
theorem AV.ic:∀{a b:AV},AV.eqv a b=true->a=b
 |.bool a,b,h=>by cases b<;>simp only[AV.eqv]at h<;>first|cases h|(rename_i b;cases a<;>cases b<;>first|rfl|cases h)
 |.int k n,b,h=>by
  cases b<;>simp only[AV.eqv]at h<;>first|cases h|skip
  rename_i k' n';cases hk:Nat.beq (IntKind.num k) (IntKind.num k')<;>simp only[hk]at h
  .cases h
  rw[IntKind.xp (cB hk),Int.ic h]
 |.str a,b,h=>by cases b<;>simp only[AV.eqv]at h<;>first|cases h|(rw[TP h])
 |.fw,b,h=>by cases b<;>simp only[AV.eqv]at h<;>first|rfl|cases h
 |.ptr x y,b,h=>by
  cases b<;>simp only[AV.eqv]at h<;>first|cases h|skip
  rename_i x' y';cases hk:Nat.beq x x'<;>simp only[hk]at h
  .cases h
  rw[cB hk,cB h]
 |.bt,b,h=>by cases b<;>simp only[AV.eqv]at h<;>first|rfl|cases h
 |.slice x y l u c,b,h=>by
  cases b<;>simp only[AV.eqv]at h<;>first|cases h|skip
  rename_i x' y' l' u' c';cases h1:Nat.beq x x'<;>cases h2:Nat.beq y y'<;>cases h3:Nat.beq l l'<;>cases u<;>cases u'<;>simp only[h1,h2,h3]at h <;>
   first|cases h|(rw[cB h1,cB h2,cB h3,cB h])
 |.RH _ _ _,b,h=>by simp only[AV.eqv]at h;cases h
 |.NI _ _ _ _,b,h=>by simp only[AV.eqv]at h;cases h
 |.gr,b,h=>by cases b<;>simp only[AV.eqv]at h<;>first|rfl|cases h
 |.map x,b,h=>by cases b<;>simp only[AV.eqv]at h<;>first|cases h|(rw[cB h])
 |.func f x c,b,h=>by
  cases b<;>simp only[AV.eqv]at h<;>first|cases h|skip
  rename_i f' x' c';cases h1:Nat.beq f f'<;>cases h2:AV.mi x x'<;>simp only[h1,h2]at h<;>first|cases h|skip
  rw[cB h1,AV.tn h2,AV.tn h]
 |.ga,b,h=>by cases b<;>simp only[AV.eqv]at h<;>first|rfl|cases h
 |.gZ,b,h=>by cases b<;>simp only[AV.eqv]at h<;>first|rfl|cases h
 |.agg l,b,h=>by cases b<;>simp only[AV.eqv]at h<;>first|cases h|(rw[AV.tn h])
 |.d5 l,b,h=>by cases b<;>simp only[AV.eqv]at h<;>first|cases h|(rw[AV.tn h])
theorem AV.tn:∀{a b:List AV},AV.mi a b=true->a=b
 |[],b,h=>by cases b<;>simp only[AV.mi]at h<;>first|rfl|cases h
 |x::l,b,h=>by
  cases b<;>simp only[AV.mi]at h<;>first|cases h|skip
  rename_i y m;cases hx:AV.eqv x y<;>simp only[hx]at h
  .cases h
  rw[AV.ic hx,AV.tn h]
end
def gD(P:Program)(t:TypeId):Option Nat:=match P.info? t with|some i=>some i.size|none=>none
theorem run_underlying{P:Program}{t:TypeId}{d:TypeDesc}(h:P.underlying t=some d)(w:World):(underlying t).run P w=.ok d w:=by simp[underlying,h]
theorem run_typeInfo{P:Program}{t:TypeId}{d:TypeInfo}(h:P.info? t=some d)(w:World):(typeInfo t).run P w=.ok d w:=by simp[typeInfo,h]
theorem run_sizeOf{P:Program}{t:TypeId}{n:Nat}(h:gD P t=some n)(w:World):(Go.sizeOf t).run P w=.ok n w:=by unfold gD at h;cases hi:P.info? t<;>simp[hi]at h;subst h;simp[Go.sizeOf,run_typeInfo hi]
def nth{α:Type}:List α->Nat->Option α
 |[],_=>none|x::l,n=>match n with|0=>some x|n+1=>nth l n
theorem fc{α:Type}:∀(l:List α) (n:Nat),nth l n=l[n]?
 |[],_=>by simp[nth]|x::l,0=>by simp[nth]|x::l,n+1=>by simp[nth,fc l n]
def takeN{α:Type}:Nat->List α->List α
 |0,_=>[]|n+1,l=>match l with|[]=>[]|x::l=>x::takeN n l
def jm{α:Type}:Nat->List α->List α
 |0,l=>l|n+1,l=>match l with|[]=>[]|_::l=>jm n l
theorem lH{α:Type}:∀(n:Nat) (l:List α),takeN n l=l.take n
 |0,_=>by simp[takeN]|n+1,[]=>by simp[takeN]|n+1,x::l=>by simp[takeN,lH n l]
theorem lI{α:Type}:∀(n:Nat) (l:List α),jm n l=l.drop n
 |0,_=>by simp[jm]|n+1,[]=>by simp[jm]|n+1,x::l=>by simp[jm,lI n l]
theorem Tl(off:Nat):∀(vs:pi) (k:Nat) (cells:Array Value),off+k+vs.length<=cells.size ->
  ((vs.zipIdx k).foldl (fun cs (x:Value×Nat)=>cs.setIfInBounds (off+x.2) x.1) cells).toList=cells.toList.take (off+k)++vs++cells.toList.drop (off+k+vs.length)
 |[],k,cells,_=>by simp|v::vs,k,cells,h=>by
  simp only[di]at h;rw[List.zipIdx_cons,atn,Tl off vs (k+1) _ (by simp;omega)];simp only[di];have hs:cells.toList.length=cells.size:=ass;have e:cells.toList.set (off+k) v=(cells.toList.take (off+k)++[v])++cells.toList.drop (off+k+1):=by rw[asU,IO atO];simp
  have hA:(cells.toList.take (off+k)++[v]).length=off+(k+1):=by simp[hs];omega
  rw[atr,e,List.take_left' hA];rw[show off+(k+1)+vs.length=(cells.toList.take (off+k)++[v]).length+vs.length by omega,ask,atx];simp[asp,atI,Nat.add_left_comm]
theorem ji(b off n:Nat):(Addr.mk b off none).add n=⟨b,off+n,none⟩:=by unfold Addr.add;grind
end Go.Proofs.YtmkbdfidnfmgmaaGreat.Ev
end
section
namespace Go.Proofs.YtmkbdfidnfmgmaaGreat.V
open Go Go.RowKit
open Go.Proofs.YtmkbdfidnfmgmaaGreat.Ev (Tr nth fc takeN jm lH lI)
inductive Sh where
 |int (k:IntKind)
 |bool
 |str
 |agg (l:List Sh)
 |sl (s:Sh)
@[match_pattern] abbrev Sh.I:Sh:=.int .i64
mutual
def Sh.T:Sh->Type
 |.int _=>Int|.bool=>Bool|.str=>ByteArray|.agg l=>TL l|.sl s=>List s.T
termination_by structural x=>x
def TL:List Sh->Type
 |[]=>Unit|s::l=>s.T×TL l
termination_by structural x=>x
end
mutual
def Sh.zero:(s:Sh)->s.T
 |.int _=>(0:Int)|.bool=>false|.str=>ByteArray.empty|.agg l=>NO l|.sl _=>[]
termination_by structural x=>x
def NO:(l:List Sh)->TL l
 |[]=>()|s::l=>(s.zero,NO l)
termination_by structural x=>x
end
mutual
def Sh.size:Sh->Nat
 |.int _=>1|.bool=>1|.str=>1|.agg l=>uA l|.sl _=>1
termination_by structural x=>x
def uA:List Sh->Nat
 |[]=>0|s::l=>s.size+uA l
termination_by structural x=>x
end
mutual
def Sh.eqv:Sh->Sh->Bool
 |.int k,b=>match b with|.int k'=>Nat.beq (Ev.IntKind.num k) (Ev.IntKind.num k')|_=>false
 |.bool,b=>match b with|.bool=>true|_=>false
 |.str,b=>match b with|.str=>true|_=>false
 |.agg l,b=>match b with|.agg m=>mi l m|_=>false
 |.sl s,b=>match b with|.sl t=>s.eqv t|_=>false
termination_by structural x=>x
def mi:List Sh->List Sh->Bool
 |[],m=>match m with|[]=>true|_=>false
 |s::l,m=>match m with
  |t::m=>(match s.eqv t with|true=>mi l m|false=>false)
  |[]=>false
termination_by structural x=>x
end
mutual
theorem Sh.ic:∀{a b:Sh},a.eqv b=true->a=b
 |.int k,b,h=>by
  cases b<;>simp only[Sh.eqv]at h<;>first|cases h|skip
  rw[Ev.IntKind.xp (cB h)]
 |.bool,b,h=>by cases b<;>simp only[Sh.eqv]at h<;>first|rfl|cases h
 |.str,b,h=>by cases b<;>simp only[Sh.eqv]at h<;>first|rfl|cases h
 |.agg l,b,h=>by cases b<;>simp only[Sh.eqv]at h<;>first|cases h|(rw[tn h])
 |.sl s,b,h=>by cases b<;>simp only[Sh.eqv]at h<;>first|cases h|(rw[Sh.ic h])
theorem tn:∀{a b:List Sh},mi a b=true->a=b
 |[],b,h=>by cases b<;>simp only[mi]at h<;>first|rfl|cases h
 |s::l,b,h=>by
  cases b<;>simp only[mi]at h<;>first|cases h|skip
  rename_i t m;cases hx:s.eqv t<;>simp only[hx]at h
  .cases h
  rw[Sh.ic hx,tn h]
end
def bK{α:Type}(R:α->pi->Prop):List α->pi->Prop
 |[],cs=>cs=[]|x::L,cs=>∃c r,cs=c++r/\R x c/\bK R L r
theorem bK.mono{α:Type}{R R':α->pi->Prop}(h:∀x c,R x c->R' x c):∀{L:List α}{cs:pi},bK R L cs->bK R' L cs
 |[],_,q=>q|x::L,_,⟨c,r,e,q,t⟩=>⟨c,r,e,h x c q,bK.mono h t⟩
theorem bK.append{α:Type}{R:α->pi->Prop}:∀{L M:List α}{c d:pi},bK R L c->bK R M d->bK R (L++M) (c++d)
 |[],M,_,d,rfl,q=>q|x::L,M,_,d,⟨c,r,rfl,q,t⟩,u=>⟨c,r++d,atQ,q,bK.append t u⟩
theorem bK.take{α:Type}{R:α->pi->Prop}{z:Nat}(hz:∀x c,R x c->c.length=z):∀{L:List α}{cs:pi}(n:Nat),bK R L cs->bK R (L.take n) (cs.take (n*z))
 |[],_,n,rfl=>by simp[bK]|x::L,_,0,_=>by simp[bK]|x::L,_,n+1,⟨c,r,rfl,q,t⟩=>by refine⟨c,r.take (n*z),?_,q,bK.take hz n t⟩;have hc:=hz x c q;rw[show(n+1)*z=c.length+n*z by rw[hc,asc];omega,asy]
theorem bK.drop{α:Type}{R:α->pi->Prop}{z:Nat}(hz:∀x c,R x c->c.length=z):∀{L:List α}{cs:pi}(n:Nat),bK R L cs->bK R (L.drop n) (cs.drop (n*z))
 |[],_,n,rfl=>by simp[bK]|x::L,cs,0,h=>by grind|x::L,_,n+1,⟨c,r,rfl,q,t⟩=>by
  have:=bK.drop hz n t;have hc:=hz x c q;have e:(c++r).drop ((n+1)*z)=r.drop (n*z):=by rw[show(n+1)*z=c.length+n*z by rw[hc,asc];omega,ask]
  rw[e];simpa using this
theorem bK.length{α:Type}{R:α->pi->Prop}{z:Nat}(hz:∀x c,R x c->c.length=z):∀{L:List α}{cs:pi},bK R L cs->cs.length=L.length*z
 |[],_,rfl=>by simp|x::L,_,⟨c,r,rfl,q,t⟩=>by rw[bU,hz x c q,bK.length hz t,di,asc];omega
theorem bK.get{α:Type}{R:α->pi->Prop}{z:Nat}(hz:∀x c,R x c->c.length=z):∀{L:List α}{cs:pi}{i:Nat}{x:α},bK R L cs->L[i]?=some x ->
  ∃c,R x c/\∀j,j<z->cs[i*z+j]?=c[j]?
 |[],_,i,x,_,h=>by simp at h|y::L,_,0,x,⟨c,r,rfl,q,t⟩,h=>by grind|y::L,_,i+1,x,⟨c,r,rfl,q,t⟩,h=>by
  obtain⟨d,h1,h2⟩:=bK.get hz t (by simpa using h)
  grind
theorem bK.set{α:Type}{R:α->pi->Prop}{z:Nat}(hz:∀x c,R x c->c.length=z):∀{L:List α}{cs:pi}{i:Nat}{x:α}{c:pi},bK R L cs->i<L.length->R x c ->
  bK R (L.set i x) (cs.take (i*z)++c++cs.drop (i*z+z))
 |[],_,i,x,c,_,h,_=>by simp at h|y::L,_,0,x,c,⟨d,r,rfl,q,t⟩,h,hc=>by
  refine⟨c,r,?_,hc,t⟩
  grind
 |y::L,_,i+1,x,c,⟨d,r,rfl,q,t⟩,h,hc=>by
  refine⟨d,r.take (i*z)++c++r.drop (i*z+z),?_,q,bK.set hz t (by grind) hc⟩;have hd:=hz y d q;have e1:(d++r).take ((i+1)*z)=d++r.take (i*z):=by rw[show(i+1)*z=d.length+i*z by rw[hd,asc];omega,asy]
  have e2:(d++r).drop ((i+1)*z+z)=r.drop (i*z+z):=by rw[show(i+1)*z+z=d.length+(i*z+z) by rw[hd,asc];omega,ask]
  rw[e1,e2];simp
def AX(w:World)(b o:Nat)(cs:pi):Prop:=∃c ty fr,w.heap[b]?=some (.cells c ty fr)/\∀j u,cs[j]?=some u->c[o+j]?=some u
mutual
def Cs(w:World)(A:Nat->Prop):(σ:Sh)->σ.T->pi->Prop
 |.int k,n,cs=>cs=[.int k n]|.bool,b,cs=>cs=[.bool b]|.str,s,cs=>cs=[.string s]|.agg l,d,cs=>jh w A l d cs|.sl s,L,cs=>∃a len cap,cs=[.slice a len cap]/\len=List.length L/\len<=cap/\(L≠[]->∃b o X,a=some ⟨b,o,none⟩/\¬A b/\bK (Cs w A s) L X/\AX w b o X)
termination_by structural x=>x
def jh(w:World)(A:Nat->Prop):(l:List Sh)->TL l->pi->Prop
 |[],_,cs=>cs=[]|s::l,d,cs=>∃c r,cs=c++r/\Cs w A s d.1 c/\jh w A l d.2 r
termination_by structural x=>x
end
mutual
theorem Cs.length{w:World}{A:Nat->Prop}:∀{σ:Sh}{d:σ.T}{cs:pi},Cs w A σ d cs->cs.length=σ.size
 |.int k,n,cs,h=>by rw[show cs=[.int k n]from h];rfl|.bool,b,cs,h=>by rw[show cs=[.bool b]from h];rfl|.str,s,cs,h=>by rw[show cs=[.string s]from h];rfl|.agg l,d,cs,h=>jh.length h|.sl s,L,cs,⟨a,len,cap,h,_⟩=>by rw[h];rfl
theorem jh.length{w:World}{A:Nat->Prop}:∀{l:List Sh}{d:TL l}{cs:pi},jh w A l d cs->cs.length=uA l
 |[],_,cs,h=>by rw[show cs=[]from h];rfl|s::l,d,cs,⟨c,r,e,h1,h2⟩=>by rw[e,bU,Cs.length h1,jh.length h2];rfl
end
def jF(w:World)(A:Nat->Prop)(w':World)(A':Nat->Prop):Prop:=∀b o,¬A b->w.heap[b]?=some o->w'.heap[b]?=some o/\¬A' b
theorem jF.trans{w w' w'':World}{A A' A'':Nat->Prop}(a:jF w A w' A')(b:jF w' A' w'' A''):jF w A w'' A'':=fun k o h q=>let⟨h1,h2⟩:=a k o h q;b k o h2 h1
theorem AX.bn{w w':World}{A A':Nat->Prop}(K:jF w A w' A'){b o:Nat}{cs:pi}(h:AX w b o cs)(ha:¬A b):AX w' b o cs/\¬A' b:=by obtain⟨c,ty,fr,h1,h2⟩:=h;obtain⟨k1,k2⟩:=K b _ ha h1;exact⟨⟨c,ty,fr,k1,h2⟩,k2⟩
mutual
theorem Cs.bn{w w':World}{A A':Nat->Prop}(K:jF w A w' A'):∀{σ:Sh}{d:σ.T}{cs:pi},Cs w A σ d cs->Cs w' A' σ d cs
 |.int k,n,cs,h=>h|.bool,b,cs,h=>h|.str,s,cs,h=>h|.agg l,d,cs,h=>jh.bn K (l:=l) h|.sl s,L,cs,⟨a,len,cap,h1,h2,h3,h4⟩=>⟨a,len,cap,h1,h2,h3,fun hL=>by obtain⟨b,o,X,e1,e2,e3,e4⟩:=h4 hL;obtain⟨k1,k2⟩:=e4.bn K e2;exact⟨b,o,X,e1,k2,e3.mono (fun x c q=>Cs.bn K q),k1⟩⟩
theorem jh.bn{w w':World}{A A':Nat->Prop}(K:jF w A w' A'):∀{l:List Sh}{d:TL l}{cs:pi},jh w A l d cs->jh w' A' l d cs
 |[],_,cs,h=>h|s::l,d,cs,⟨c,r,e,h1,h2⟩=>⟨c,r,e,Cs.bn K h1,jh.bn K h2⟩
end
end Go.Proofs.YtmkbdfidnfmgmaaGreat.V
end
section
namespace Go.Proofs.YtmkbdfidnfmgmaaGreat.Ev
open Go Go.RowKit
inductive bC where
 |cells (l:List AV) (ty:TypeId) (op:Option Nat)
 |map (es:List (AV×AV×Nat)) (clock:Nat)
structure Hp where
 tr:Tr bC
 next:Nat
def cS(w:World)(b:Nat)(o:Obj):World:={ w with heap:=w.heap.setIfInBounds b o }
theorem iU(w:World)(b:Nat)(o:Obj)(k:Nat):(cS w b o).heap[k]?=if k=b/\b<w.heap.size then some o else w.heap[k]?:=by
 simp only[cS,asw]
 grind
theorem lY(w:World)(b:Nat)(o:Obj):(cS w b o).heap.size=w.heap.size:=by simp[cS]
theorem anE(w:World)(b:Nat)(o o':Obj):cS (cS w b o) b o'=cS w b o':=by
 simp only[cS]
 simp_all
variable{c:Array Value}{w:World}{b:Nat}{off:Nat}{ty:TypeId}
theorem setCell_eq{fr:Nat×Nat}(h:w.heap[b]?=some (.cells c ty fr))(v:Value) :
  w.setCell ⟨b,off,none⟩ v=cS w b (.cells (c.setIfInBounds off v) ty fr):=by
 unfold World.setCell cS;congr 1
 grind
def ou:Value->Bool
 |.agg _|.tuple _=>false|_=>true
theorem Zzc{P:Program}{v:Value}(h:w.heap[b]?=some (.cells c ty (0,0)))(ho:off<c.size)
  (hv:ou v=true):(store ⟨b,off,none⟩ v).run P w=.ok () (cS w b (.cells (c.setIfInBounds off v) ty (0,0))):=by
 have hc:w.cell? ⟨b,off,none⟩=some c[off]:=by simp[World.cell?,h,ho]
 have hf:w.frozen? ⟨b,off,none⟩=false:=by simp[World.frozen?,h]
 rw[<-setCell_eq h v];cases v<;>simp[ou]at hv<;>simp[store,Sem.run,hc,hf]
theorem nD{P:Program}{b off:Nat}{ty:TypeId}:∀(vs:pi) (k:Nat) (w:World) (c:Array Value),w.heap[b]?=some (.cells c ty (0,0)) ->
  off+k+vs.length<=c.size->(∀v∈vs,ou v=true) ->
  ∃c',c'.toList=c.toList.take (off+k)++vs++c.toList.drop (off+k+vs.length) /\
   (storeCells ⟨b,off,none⟩ vs k).run P w=.ok () (cS w b (.cells c' ty (0,0)))
 |[],k,w,c,h,hl,_=>by
  refine⟨c,atQ,?_⟩;simp only[storeCells,Sem.run_pure];congr 1;unfold cS;have:w.heap.setIfInBounds b (.cells c ty (0,0))=w.heap:=by grind
  rw[this]
 |v::vs,k,w,c,h,hl,ho=>by
  simp only[di]at hl;have hb:b<w.heap.size:=by
   rcases arm b w.heap.size with q|q
   .exact q
   .rw[atF q]at h;cases h
  have h1:=Zzc (P:=P) h (off:=off+k) atO (ho v atQ);obtain⟨c',hc',hr⟩:=nD (P:=P) (off:=off) vs (k+1) (cS w b (.cells (c.setIfInBounds (off+k) v) ty (0,0))) (c.setIfInBounds (off+k) v)
   (by rw[iU,IO ⟨rfl,hb⟩]) (by simp;omega) (fun x hx=>ho x (by simp[hx]))
  rw[anE]at hr;refine⟨c',?_,?_⟩
  .rw[hc'];simp only[di];have hs:c.toList.length=c.size:=ass;have e:c.toList.set (off+k) v=(c.toList.take (off+k)++[v])++c.toList.drop (off+k+1):=by rw[asU,IO atO];simp
   have hA:(c.toList.take (off+k)++[v]).length=off+(k+1):=by simp[hs];omega
   rw[atr,e,List.take_left' hA];rw[show off+(k+1)+vs.length=(c.toList.take (off+k)++[v]).length+vs.length by omega,ask,atx];simp[asp,atI,Nat.add_left_comm]
  .simp only[storeCells,Sem.run_bind,ji,h1,Result.andThen_ok,hr]
theorem run_loadCells{P:Program}{b off:Nat}{ty:TypeId}{w:World}{c:Array Value}{fr:Nat×Nat}(h:w.heap[b]?=some (.cells c ty fr)) :
  ∀(n i:Nat) (acc:Array Value),off+i+n<=c.size ->
  (loadCellsFrom ⟨b,off,none⟩ i n acc).run P w=.ok (acc.toList++(c.toList.drop (off+i)).take n).toArray w
 |0,i,acc,_=>by simp[loadCellsFrom]|n+1,i,acc,hl=>by
  have hc:w.cell? ⟨b,off+i,none⟩=some c[off+i]:=by simp[World.cell?,h,show off+i<c.size by omega]
  simp only[loadCellsFrom,Sem.run_bind,ji,run_load,hc,Result.andThen_ok];rw[run_loadCells h n (i+1) _ atO];congr 2;have hd:c.toList.drop (off+i)=c[off+i]::c.toList.drop (off+(i+1)):=by rw[asV (by simp;omega)];simp[asp]
  rw[hd];simp
end Go.Proofs.YtmkbdfidnfmgmaaGreat.Ev
end
section
namespace Go.Proofs.YtmkbdfidnfmgmaaGreat.V
open Go Go.RowKit
open Go.Proofs.YtmkbdfidnfmgmaaGreat.Ev (Tr Tr.dp nth fc takeN jm lH lI cS iU lY)
def wD:Sh->Bool|.agg _=>true|_=>false
def zF:Value->Bool|.agg _=>true|_=>false
def iz(w:World)(A:Nat->Prop)(σ:Sh)(d:σ.T)(V:Value):Prop:=Cs w A σ d V.cells.toList/\zF V=wD σ
variable{A':Nat->Prop}{w:World}{A:Nat->Prop}{σ:Sh}{w':World}
theorem iz.bn(K:jF w A w' A'){d:σ.T}{V:Value}(h:iz w A σ d V):iz w' A' σ d V:=⟨h.1.bn K,h.2⟩
abbrev fl(σ:Sh):=List (Int×σ.T×Unit)
def jR(w:World)(A:Nat->Prop)(κ:IntKind)(σ:Sh):List MapEntry->fl σ->Prop
 |[],N=>N=[]|e::es,N=>match N with|p::N=>e.key=.int κ p.1/\iz w A σ p.2.1 e.val/\jR w A κ σ es N|[]=>False
variable{κ:IntKind}
theorem jR.bn(K:jF w A w' A'):∀{es:List MapEntry}{N:fl σ},jR w A κ σ es N->jR w' A' κ σ es N
 |[],_,h=>h|e::es,N,h=>by cases N with|nil=>exact h|cons p N=>exact⟨h.1,h.2.1.bn K,h.2.2.bn K⟩
def jX(w:World)(A:Nat->Prop)(κ:IntKind)(σ:Sh)(es:Array MapEntry)(clock:Nat)(M:fl σ):Prop:=∃N:fl σ,N.Perm M/\jR w A κ σ es.toList N/\M.Pairwise (fun p q=>p.1<q.1)/\(∀e∈es.toList,e.born<clock)/\es.toList.Pairwise (fun e f=>e.born≠f.born)
theorem jX.bn(K:jF w A w' A'){es:Array MapEntry}{clock:Nat}{M:fl σ}(h:jX w A κ σ es clock M):jX w' A' κ σ es clock M:=by obtain⟨N,h1,h2,h3⟩:=h;exact⟨N,h1,h2.bn K,h3⟩
abbrev fD:=Int×Int×List (Int×Int×Unit)×Unit
inductive AV where
 |bool (b:Bool)
 |int (k:IntKind) (n:Int)
 |str (s:ByteArray)
 |fw
 |bt
 |gr
 |ga
 |gZ
 |kS
 |ptr (b off:Nat)
 |fE (b i z o:Nat)
 |ie (σ:Sh) (d:σ.T) (o:Nat)
 |hd (b:Nat) (τ:Sh)
 |vw (b:Nat) (τ:Sh) (off len:Nat)
 |fz (τ:Sh) (L:List τ.T)
 |func (f:FuncId) (first cap:List AV)
 |fJ (τ:Sh) (z:Bool) (L:List τ.T)
 |mp (b:Nat)
 |fB (b:Nat)
 |rp (b i:Nat)
 |ra (b i:Nat)
 |agg (l:List AV)
 |d5 (l:List AV)
inductive bC where
 |cells (l:List AV) (ty:TypeId)
 |arr (τ:Sh) (L:List τ.T) (ty:TypeId)
 |map (κ:IntKind) (σ:Sh) (M:fl σ)
 |fu (L:List fD) (ty:TypeId)
 |fA (τ:Sh) (i:Nat) (L:List τ.T) (vs:List AV) (ty:TypeId)
structure Hp where
 tr:Tr bC
 next:Nat
def bC.row:bC->Option Nat
 |.arr _ L _=>some L.length|.fA _ _ L _ _=>some L.length|_=>none
def rowOf(t:Tr bC)(b:Nat):Option Nat:=match t.get b with|some o=>o.row|none=>none
variable{t:Tr bC}{ty:TypeId}{b:Nat}{τ:Sh}{L:List τ.T}
theorem je(h:t.get b=some (.arr τ L ty)):rowOf t b=some L.length:=by unfold rowOf;rw[h];rfl
theorem aeJ{i:Nat}{vs:List AV}(h:t.get b=some (.fA τ i L vs ty)):rowOf t b=some L.length:=by unfold rowOf;rw[h];rfl
theorem mh{n:Nat}(h:rowOf t b=some n):∃o,t.get b=some o/\o.row=some n:=by
 unfold rowOf at h
 grind
theorem kP{o:bC}(h:t.get b=some o):rowOf t b=o.row:=by unfold rowOf;rw[h]
theorem aen{t':Tr bC}{b':Nat}(h:t.get b=t'.get b'):rowOf t b=rowOf t' b':=by unfold rowOf;rw[h]
inductive Loc where
 |at (b cap:Nat)
 |dE (b cap:Nat) (m:List (Nat×Nat))
 |nil
abbrev Sg:=Nat->Option Loc
def Loc.slice:Loc->Nat->Value
 |.at b c,n=>.slice (some ⟨b,0,none⟩) n c|.dE b c _,n=>.slice (some ⟨b,0,none⟩) n c|.nil,n=>.slice none n 0
def Loc.Y8:Loc->Value
 |.dE b c m=>.slice (some ⟨b,0,none⟩) m.length c|_=>.slice none 0 0
def Loc.own:Loc->Nat->Prop
 |.at b _,x=>x=b|.dE b _ m,x=>x=b\/∃p∈m,x=p.1\/x=p.2|.nil,_=>False
def ui(w:World)(A:Nat->Prop)(p:Nat×Nat)(d:fD)(ty:TypeId):Prop:=w.heap[p.1]?=some (.cells #[.int .i64 d.1,.int .i64 d.2.1,.map (some p.2)] ty (0,0))/\∃es clock,w.heap[p.2]?=some (.map es clock)/\jX w A .u64 (.int .u64) es clock d.2.2.1
def iA(w:World)(A:Nat->Prop)(ty:TypeId):List (Nat×Nat)->List fD->Prop
 |[],L=>L=[]|p::m,L=>match L with|d::L=>ui w A p d ty/\iA w A ty m L|[]=>False
def kW(m:List (Nat×Nat)):pi:=m.map fun p=>.pointer (some ⟨p.1,0,none⟩)
def iI(m:List (Nat×Nat)):mt:=m.flatMap fun p=>[p.1,p.2]
structure Cx where
 s:Sg
 h:Hp
 w:World
 A:Nat->Prop
def Cx.da(X:Cx)(b:Nat):Prop:=∃i o l,X.h.tr.get i=some o/\X.s i=some l/\l.own b
def Cx.out(X:Cx)(b:Nat):Prop:=X.A b\/X.da b
mutual
def Rel(X:Cx):AV->Value->Prop
 |.bool b,V=>V=.bool b|.int k n,V=>V=.int k n|.str s,V=>V=.string s|.fw,V=>V=.pointer none|.bt,V=>V=.slice none 0 0|.gr,V=>V=.map none|.ga,V=>V=.nilFunc|.gZ,V=>V=.nilIface|.kS,V=>Ev.ou V=true|.ptr b off,V=>∃x c,X.s b=some (.at x c)/\V=.pointer (some ⟨x,off,none⟩)|.fE b i z o,V=>∃x c,X.s b=some (.at x c)/\V=.pointer (some ⟨x,i*z+o,none⟩)/\∀n,rowOf X.h.tr b=some n->i<n|.ie σ d o,V=>∃b off cs,V=.pointer (some ⟨b,off+o,none⟩)/\¬X.out b/\Cs X.w X.out σ d cs/\AX X.w b off cs|.hd b τ,V=>∃l,X.s b=some l/\Ev.ou V=true/\∀n,rowOf X.h.tr b=some n->V=l.slice n|.vw b τ off len,V=>∃l a c,X.s b=some l/\V=.slice a len c/\len<=c/\(0<len->∃x k,l=.at x k/\a=some ⟨x,off*τ.size,none⟩)/\(off=0->V=l.slice len) /\
   ∀n,rowOf X.h.tr b=some n->off+len<=n
 |.fz τ L,V=>Cs X.w X.out (.sl τ) L [V]|.func f x c,V=>∃xs cs,V=.func (.func f) (List.toArray xs) (List.toArray cs)/\bT X x xs/\bT X c cs|.fJ τ z L,V=>Cs X.w X.out (.sl τ) L [V]/\∃a l c,V=.slice a l c/\a.isNone=z|.mp b,V=>∃x c,X.s b=some (.at x c)/\V=.map (some x)|.fB b,V=>∃l,X.s b=some l/\V=l.Y8|.rp b i,V=>∃x c m p,X.s b=some (.dE x c m)/\m[i]?=some p/\V=.pointer (some ⟨p.1,0,none⟩)|.ra b i,V=>∃x c m,X.s b=some (.dE x c m)/\i<m.length/\V=.pointer (some ⟨x,i,none⟩)|.agg l,V=>∃cs,V=.agg (List.toArray cs)/\bT X l cs|.d5 l,V=>∃cs,V=.tuple (List.toArray cs)/\bT X l cs
termination_by structural x=>x
def bT(X:Cx):List AV->pi->Prop
 |[],cs=>cs=[]|x::l,cs=>∃v r,cs=v::r/\Rel X x v/\bT X l r
termination_by structural x=>x
end
structure jd(X X':Cx):Prop where
 sg:∀i l,X.s i=some l->X'.s i=some l
 K:jF X.w X.out X'.w X'.out
 len:∀j l n,X.s j=some l->rowOf X'.h.tr j=some n->rowOf X.h.tr j=some n
theorem jd.refl(X:Cx):jd X X:=⟨fun _ _ h=>h,fun b o h q=>⟨q,h⟩,fun j l n _ h=>h⟩
mutual
theorem Rel.ext{X X':Cx}(E:jd X X'):∀{v:AV}{V:Value},Rel X v V->Rel X' v V
 |.bool _,_,h|.int _ _,_,h|.str _,_,h|.fw,_,h|.bt,_,h|.gr,_,h|.ga,_,h|.gZ,_,h|.kS,_,h=>h|.ptr b off,V,⟨x,c,h1,h2⟩=>⟨x,c,E.sg _ _ h1,h2⟩|.fE b i z o,V,⟨x,c,h1,h2,h3⟩=>⟨x,c,E.sg _ _ h1,h2,fun n q=>h3 n (E.len b _ n h1 q)⟩|.ie σ d o,V,⟨b,off,cs,h1,h2,h3,h4⟩=>by obtain⟨k1,k2⟩:=h4.bn E.K h2;exact⟨b,off,cs,h1,k2,h3.bn E.K,k1⟩
 |.hd b τ,V,⟨l,h1,hc,h2⟩=>⟨l,E.sg _ _ h1,hc,fun n q=>h2 n (E.len b _ n h1 q)⟩|.vw b τ off len,V,⟨l,a,c,h1,h2,h3,h4,h5,h6⟩=>⟨l,a,c,E.sg _ _ h1,h2,h3,h4,h5,fun n q=>h6 n (E.len b _ n h1 q)⟩|.fz τ L,V,h=>Cs.bn E.K (σ:=.sl τ) h|.func f x c,V,⟨xs,cs,h1,h2,h3⟩=>⟨xs,cs,h1,bT.ext E h2,bT.ext E h3⟩|.fJ τ z L,V,h=>⟨Cs.bn E.K (σ:=.sl τ) h.1,h.2⟩|.mp b,V,⟨x,c,h1,h2⟩=>⟨x,c,E.sg _ _ h1,h2⟩|.fB b,V,⟨l,h1,h2⟩=>⟨l,E.sg _ _ h1,h2⟩|.rp b i,V,⟨x,c,m,p,h1,h2⟩=>⟨x,c,m,p,E.sg _ _ h1,h2⟩|.ra b i,V,⟨x,c,m,h1,h2⟩=>⟨x,c,m,E.sg _ _ h1,h2⟩|.agg l,V,⟨cs,h1,h2⟩=>⟨cs,h1,bT.ext E h2⟩|.d5 l,V,⟨cs,h1,h2⟩=>⟨cs,h1,bT.ext E h2⟩
theorem bT.ext{X X':Cx}(E:jd X X'):∀{l:List AV}{cs:pi},bT X l cs->bT X' l cs
 |[],_,h=>h|x::l,_,⟨v,r,e,h1,h2⟩=>⟨v,r,e,Rel.ext E h1,bT.ext E h2⟩
end
theorem bT.length{X:Cx}:∀{l:List AV}{cs:pi},bT X l cs->cs.length=l.length
 |[],_,h=>by rw[show _=[]from h];rfl|x::l,_,⟨v,r,e,h1,h2⟩=>by rw[e,di,di,h2.length]
theorem bT.append{X:Cx}:∀{l m:List AV}{cs ds:pi},bT X l cs->bT X m ds->bT X (l++m) (cs++ds)
 |[],m,_,ds,h,q=>by rw[show _=[]from h];simpa using q|x::l,m,_,ds,⟨v,r,e,h1,h2⟩,q=>⟨v,r++ds,by rw[e];rfl,h1,h2.append q⟩
theorem bT.take{X:Cx}:∀{l:List AV}{cs:pi}(n:Nat),bT X l cs->bT X (l.take n) (cs.take n)
 |[],_,n,h=>by rw[show _=[]from h];simp[bT]|x::l,_,0,h=>by simp[bT]|x::l,_,n+1,⟨v,r,e,h1,h2⟩=>⟨v,r.take n,by rw[e];rfl,h1,h2.take n⟩
theorem bT.drop{X:Cx}:∀{l:List AV}{cs:pi}(n:Nat),bT X l cs->bT X (l.drop n) (cs.drop n)
 |[],_,n,h=>by rw[show _=[]from h];simp[bT]|x::l,_,0,h=>by grind|x::l,_,n+1,⟨v,r,e,h1,h2⟩=>by rw[e];simpa using h2.drop n
theorem bT.get{X:Cx}:∀{l:List AV}{cs:pi}{i:Nat}{v:AV},bT X l cs->l[i]?=some v->∃V,cs[i]?=some V/\Rel X v V
 |[],_,i,v,h,q=>by simp at q|x::l,_,0,v,⟨u,r,e,h1,h2⟩,q=>by grind|x::l,_,i+1,v,⟨u,r,e,h1,h2⟩,q=>by
  obtain⟨V,a,b⟩:=h2.get (by simpa using q)
  grind
def jA(X:Cx)(l:Loc):bC->Prop
 |.cells vs ty=>∃b c cs,l=.at b c/\X.w.heap[b]?=some (.cells (List.toArray cs) ty (0,0))/\bT X vs cs|.arr τ L ty=>match l with|.nil=>L=[]|.at b c=>∃cs tail,X.w.heap[b]?=some (.cells (List.toArray (cs++tail)) ty (0,0))/\bK (Cs X.w X.out τ) L cs/\cs.length+tail.length=c*τ.size/\L.length<=c|.dE _ _ _=>False
 |.map κ σ M=>∃x c es clk,l=.at x c/\X.w.heap[x]?=some (.map es clk)/\jX X.w X.out κ σ es clk M|.fu L ty=>match l with|.nil=>L=[]|.dE b c m=>∃tail ty',X.w.heap[b]?=some (.cells (List.toArray (kW m++tail)) ty' (0,0))/\m.length+tail.length=c/\iA X.w X.out ty m L/\(b::iI m).Nodup|.at _ _=>False
 |.fA τ i L vs ty=>∃b c pre mid post tail,l=.at b c/\X.w.heap[b]?=some (.cells (List.toArray (pre++(mid++(post++tail)))) ty (0,0))/\bK (Cs X.w X.out τ) (L.take i) pre/\bT X vs mid/\bK (Cs X.w X.out τ) (L.drop (i+1)) post /\
   i<L.length/\mid.length=τ.size/\pre.length+(mid.length+(post.length+tail.length))=c*τ.size/\L.length<=c
theorem ui.ext{w w':World}{A A':Nat->Prop}(K:jF w A w' A'){p:Nat×Nat}{d:fD}{ty:TypeId}(h1:w'.heap[p.1]?=w.heap[p.1]?)(h2:w'.heap[p.2]?=w.heap[p.2]?)(h:ui w A p d ty):ui w' A' p d ty:=by obtain⟨a,es,clk,b,c⟩:=h;exact⟨h1.trans a,es,clk,h2.trans b,c.bn K⟩
theorem iA.ext{w w':World}{A A':Nat->Prop}(K:jF w A w' A'){ty:TypeId}:∀{m:List (Nat×Nat)}{L:List fD},(∀p∈m,w'.heap[p.1]?=w.heap[p.1]?/\w'.heap[p.2]?=w.heap[p.2]?)->iA w A ty m L->iA w' A' ty m L
 |[],L,_,h=>h|p::m,L,hb,h=>by cases L with|nil=>exact h|cons d L=>exact⟨h.1.ext K (hb p atQ).1 (hb p atQ).2,iA.ext K (fun q hq=>hb q (by simp[hq])) h.2⟩
theorem iA.there{w:World}{A:Nat->Prop}{ty:TypeId}:∀{m:List (Nat×Nat)}{L:List fD},iA w A ty m L->∀p∈m,(∃ob,w.heap[p.1]?=some ob)/\∃ob,w.heap[p.2]?=some ob
 |[],L,h,p,hp=>by cases hp
 |q::m,L,h,p,hp=>by
  cases L with
  |nil=>exact h.elim|cons d L=>
   rcases GE.1 hp with rfl|hp
   .obtain⟨⟨a,es,clk,b,c⟩,_⟩:=h
    grind
   .exact iA.there h.2 p hp
theorem iA.len{w:World}{A:Nat->Prop}{ty:TypeId}:∀{m:List (Nat×Nat)}{L:List fD},iA w A ty m L->m.length=L.length
 |[],L,h=>by rw[show L=[]from h];rfl|p::m,L,h=>by cases L with|nil=>exact h.elim|cons d L=>rw[di,di,iA.len h.2]
theorem jA.ext{X X':Cx}(E:jd X X'){l:Loc}{o:bC}(hb:∀b,l.own b->X'.w.heap[b]?=X.w.heap[b]?)(h:jA X l o):jA X' l o:=by
 cases o with
 |cells vs ty=>obtain⟨b,c,cs,h1,h2,h3⟩:=h;exact⟨b,c,cs,h1,(hb b (by rw[h1];rfl)).trans h2,h3.ext E⟩
 |arr τ L ty=>
  cases l with
  |nil=>exact h|«at» b c=>obtain⟨cs,tail,h1,h2,h3,h4⟩:=h;exact⟨cs,tail,(hb b rfl).trans h1,h2.mono (fun x d q=>q.bn E.K),h3,h4⟩
  |dE b c m=>exact h.elim
 |map κ σ M=>obtain⟨x,c,es,clk,rfl,h2,h3⟩:=h;exact⟨x,c,es,clk,rfl,(hb _ rfl).trans h2,h3.bn E.K⟩
 |fu L ty=>cases l with|nil=>exact h|«at» b c=>exact h.elim|dE b c m=>obtain⟨tail,ty',h1,h2,h3,h4⟩:=h;exact⟨tail,ty',(hb b (.inl rfl)).trans h1,h2,h3.ext E.K (fun p hp=>⟨hb _ (.inr ⟨p,hp,.inl rfl⟩),hb _ (.inr ⟨p,hp,.inr rfl⟩)⟩),h4⟩
 |fA τ i L vs ty=>obtain⟨b,c,pre,mid,post,tail,rfl,h1,h2,h3,h4,h5⟩:=h;exact⟨b,c,pre,mid,post,tail,rfl,(hb b rfl).trans h1,h2.mono (fun x d q=>q.bn E.K),h3.ext E,h4.mono (fun x d q=>q.bn E.K),h5⟩
theorem jA.there{X:Cx}{l:Loc}{b:Nat}{o:bC}(h:jA X l o)(hb:l.own b):∃ob,X.w.heap[b]?=some ob:=by
 cases o with
 |cells vs ty=>obtain⟨b',c',cs,rfl,h2,h3⟩:=h;cases hb;exact⟨_,h2⟩
 |arr τ L ty=>
  cases l with
  |nil=>exact hb.elim|«at» b' c=>obtain⟨cs,tail,h1,h2,h3,h4⟩:=h;cases hb;exact⟨_,h1⟩
  |dE b c m=>exact h.elim
 |map κ σ M=>obtain⟨x,c,es,clk,rfl,h2,h3⟩:=h;cases hb;exact⟨_,h2⟩
 |fu L ty=>
  cases l with
  |nil=>exact hb.elim|«at» b c=>exact h.elim|dE b' c m=>
   obtain⟨tail,ty',h1,h2,h3,h4⟩:=h;rcases hb with rfl|⟨q,hq,rfl|rfl⟩
   .exact⟨_,h1⟩
   .exact(h3.there q hq).1
   .exact(h3.there q hq).2
 |fA τ i L vs ty=>obtain⟨b',c,pre,mid,post,tail,rfl,h1,_⟩:=h;cases hb;exact⟨_,h1⟩
structure aV(X:Cx):Prop where
 obj:∀i o l,X.h.tr.get i=some o->X.s i=some l->jA X l o
 inj:∀i j o o' l l' b,X.h.tr.get i=some o->X.h.tr.get j=some o'->X.s i=some l->X.s j=some l'->l.own b->l'.own b->i=j
 lt:∀i o,X.h.tr.get i=some o->i<X.h.next
 dM:∀i l,X.s i=some l->i<X.h.next
 alt:∀b,X.A b->b<X.w.heap.size
 loc:∀i o l b,X.h.tr.get i=some o->X.s i=some l->l.own b->¬X.A b
theorem ka{α:Type}{a:Array α}{i:Nat}{x:α}(h:a[i]?=some x):i<a.size:=by grind
theorem aV.ju{X:Cx}(H:aV X){i:Nat}{o:bC}{l:Loc}{b:Nat}(hi:X.h.tr.get i=some o)(hs:X.s i=some l)(hb:l.own b):b<X.w.heap.size:=by obtain⟨ob,h⟩:=(H.obj i o _ hi hs).there hb;exact ka h
theorem aV.bound{X:Cx}(H:aV X){i:Nat}{o:bC}{b c:Nat}(hi:X.h.tr.get i=some o)(hs:X.s i=some (.at b c)):b<X.w.heap.size:=H.ju hi hs rfl
theorem aV.so{X:Cx}(H:aV X){b:Nat}(h:X.da b):b<X.w.heap.size:=by obtain⟨i,o,l,h1,h2,h3⟩:=h;exact H.ju h1 h2 h3
structure bh(X X':Cx):Prop where
 os:X'.w.os=X.w.os
 tape:X'.w.tape=X.w.tape
 output:X'.w.output=X.w.output
 size:X.w.heap.size<=X'.w.heap.size
 sg:∀i l,X.s i=some l->X'.s i=some l
 dM:∀i l,i<X.h.next->X'.s i=some l->X.s i=some l
 next:X.h.next<=X'.h.next
 frame:∀b,b<X.w.heap.size->¬X.da b->X'.w.heap[b]?=X.w.heap[b]?
 da:∀b,X'.da b->X.da b\/X.w.heap.size<=b
 len:∀j n,j<X.h.next->rowOf X'.h.tr j=some n->rowOf X.h.tr j=some n
 same:∀i,i<X.h.next->X.s i=none->X'.h.tr.get i=X.h.tr.get i
 A:X'.A=X.A
theorem bh.refl(X:Cx):bh X X:=⟨rfl,rfl,rfl,rt _,fun _ _ h=>h,fun _ _ _ h=>h,rt _,fun _ _ _=>rfl,fun _ h=>.inl h,fun j n _ h=>h,fun _ _ _=>rfl,rfl⟩
theorem bh.trans{X X' X'':Cx}(a:bh X X')(b:bh X' X''):bh X X'' where
 os:=b.os.trans a.os
 tape:=b.tape.trans a.tape
 output:=b.output.trans a.output
 size:=IS a.size b.size
 sg i l h:=b.sg i l (a.sg i l h)
 dM i l hi h:=a.dM i l hi (b.dM i l (WP hi a.next) h)
 next:=IS a.next b.next
 frame k hk hn:=by
  refine(b.frame k (WP hk a.size) fun q=>?_).trans (a.frame k hk hn);rcases a.da k q with q|q
  .exact hn q
  .omega
 da k h:=by
  rcases b.da k h with q|q
  .exact a.da k q
  .exact .inr (IS a.size q)
 len j n hj h:=a.len j n hj (b.len j n (WP hj a.next) h)
 same i hi hs:=by
  have:X'.s i=none:=by cases q:X'.s i with|none=>rfl|some l=>rw[a.dM i l hi q]at hs;cases hs
  exact(b.same i (WP hi a.next) this).trans (a.same i hi hs)
 A:=b.A.trans a.A
theorem bh.keeps{X X':Cx}(E:bh X X'):jF X.w X.out X'.w X'.out:=by
 intro b o h q;have hb:=ka q;refine⟨(E.frame b hb fun r=>h (.inr r)).trans q,?_⟩;rintro(r|r)
 .rw[E.A]at r;exact h (.inl r)
 .rcases E.da b r with r|r
  .exact h (.inr r)
  .omega
theorem bh.fG{X X':Cx}(E:bh X X')(H:aV X):jd X X':=⟨E.sg,E.keeps,fun j l n h q=>E.len j n (H.dM j l h) q⟩
theorem bh.drew(X:Cx)(d:Nat):bh X { X with w:={ X.w with drawn:=d } }:=⟨rfl,rfl,rfl,rt _,fun _ _ h=>h,fun _ _ _ h=>h,rt _,fun _ _ _=>rfl,fun _ h=>.inl h,fun j n _ h=>h,fun _ _ _=>rfl,rfl⟩
theorem jd.of_heap{X:Cx}{w:World}(h:w.heap=X.w.heap):jd X { X with w:=w }:=⟨fun _ _ h=>h,fun b o q r=>⟨by grind,q⟩,fun j l n _ q=>q⟩
theorem aV.drew{X:Cx}(H:aV X)(d:Nat):aV { X with w:={ X.w with drawn:=d } }:=⟨fun i o l h q=>(H.obj i o l h q).ext (jd.of_heap (X:=X) (w:={ X.w with drawn:=d }) rfl) (fun _ _=>rfl),H.inj,H.lt,H.dM,H.alt,H.loc⟩
theorem bh.put{X:Cx}(H:aV X){i f:Nat}{o o':bC}{b c:Nat}{ob:Obj}{tr':Tr bC}(hi:X.h.tr.get i=some o)(hs:X.s i=some (.at b c))
  (hl:∀n,o'.row=some n->o.row=some n) (ht:Tr.set f X.h.tr i (some o')=some tr') :
  bh X ⟨X.s,⟨tr',X.h.next⟩,cS X.w b ob,X.A⟩:=by
 have hg:=Tr.dp f X.h.tr i (some o') tr' ht;refine⟨rfl,rfl,rfl,by rw[lY];exact rt _,fun _ _ h=>h,fun _ _ _ h=>h,rt _,?_,?_,?_,?_,rfl⟩
 .intro k hk hn;show(cS X.w b ob).heap[k]?=_;rw[iU,BT];rintro⟨rfl,_⟩;exact hn ⟨i,o,_,hi,hs,rfl⟩
 .rintro k ⟨j,avF,auL,h1,h2⟩;left;simp only[hg j]at h1;by_cases q:j=i
  .subst q;exact⟨j,o,auL,hi,h2⟩
  .rw[BT q]at h1;exact⟨j,avF,auL,h1,h2⟩
 .intro j n hj h
  replace h:rowOf tr' j=some n:=h
  unfold rowOf at h;rw[hg j]at h;by_cases q:j=i
  .subst q;rw[IO rfl]at h;show rowOf X.h.tr j=some n;rw[kP hi];exact hl n h
  .rw[BT q]at h;exact h
 grind
theorem aV.put{X:Cx}(H:aV X){i f:Nat}{o o':bC}{b c:Nat}{ob:Obj}{tr':Tr bC}(hi:X.h.tr.get i=some o)(hs:X.s i=some (.at b c))
  (hl:∀n,o'.row=some n->o.row=some n) (ht:Tr.set f X.h.tr i (some o')=some tr')
  (ho:jA ⟨X.s,⟨tr',X.h.next⟩,cS X.w b ob,X.A⟩ (.at b c) o'):aV ⟨X.s,⟨tr',X.h.next⟩,cS X.w b ob,X.A⟩:=by
 have E:=bh.put (ob:=ob) H hi hs hl ht;have hg:=Tr.dp f X.h.tr i (some o') tr' ht;have alt:∀j avF,tr'.get j=some avF->∃avG,X.h.tr.get j=some avG:=by grind
 refine⟨?_,?_,?_,H.dM,by rw[show(cS X.w b ob).heap.size=X.w.heap.size from lY _ _ _];exact H.alt,?_⟩
 .intro j avF l hj hl';simp only[hg j]at hj;by_cases q:j=i
  .subst q
   grind
  .rw[BT q]at hj;refine(H.obj j avF l hj hl').ext (E.fG H) ?_;intro b' hb';show(cS X.w b ob).heap[b']?=_;rw[iU,BT];rintro⟨rfl,_⟩;exact q (H.inj j i avF o l _ b' hj hi hl' hs hb' rfl)
 .intro j k avF avG l₁ avy x hj hk e1 e2;obtain⟨p,hp⟩:=alt j avF hj;obtain⟨q,hq⟩:=alt k avG hk;exact H.inj j k p q l₁ avy x hp hq e1 e2
 .intro j avF hj;obtain⟨p,hp⟩:=alt j avF hj;exact H.lt j p hp
 .intro j avF l₁ x hj e;obtain⟨p,hp⟩:=alt j avF hj;exact H.loc j p l₁ x hp e
def cw(s:Sg)(i:Nat)(x:Loc):Sg:=fun j=>if j=i then some x else s j
theorem fU(s:Sg)(i:Nat)(x:Loc):cw s i x i=some x:=by simp[cw]
theorem eJ(s:Sg)(i:Nat)(x:Loc){j:Nat}(h:j≠i):cw s i x j=s j:=by simp[cw,h]
theorem jd.real{X:Cx}(H:aV X){i:Nat}{c:Nat}{ob:Obj}(hs:X.s i=none):jd X ⟨cw X.s i (.at X.w.heap.size c),X.h,{ X.w with heap:=X.w.heap.push ob },X.A⟩:=by
 have hne:∀j l,X.s j=some l->j≠i:=by grind
 refine⟨fun j l h=>by show cw X.s i _ j=_;rw[eJ _ _ _ (hne j l h)];exact h,?_,fun j l n _ q=>q⟩;intro b o h q;have hb:=ka q;refine⟨by grind,?_⟩;rintro(r|⟨j,avF,auL,h1,h2⟩)
 .exact h (.inl r)
 .obtain⟨h2,h3⟩:=h2
  replace h2:cw X.s i (.at X.w.heap.size c) j=some auL:=h2
  by_cases q:j=i
  .subst q;rw[fU]at h2;cases h2;have:b=X.w.heap.size:=h3;omega
  .rw[eJ _ _ _ q]at h2;exact h (.inr ⟨j,avF,auL,h1,h2,h3⟩)
theorem aV.real{X:Cx}(H:aV X){i:Nat}{c:Nat}{ob:Obj}(hs:X.s i=none)(hi:i<X.h.next)
  (ho:∀o,X.h.tr.get i=some o->jA ⟨cw X.s i (.at X.w.heap.size c),X.h,{ X.w with heap:=X.w.heap.push ob },X.A⟩ (.at X.w.heap.size c) o) :
  aV ⟨cw X.s i (.at X.w.heap.size c),X.h,{ X.w with heap:=X.w.heap.push ob },X.A⟩:=by
 have E:=jd.real (c:=c) (ob:=ob) H hs;refine⟨?_,?_,H.lt,?_,fun b hb=>by have:=H.alt b hb;simp;omega,?_⟩
 .intro j o l hj hl
  replace hl:cw X.s i (.at X.w.heap.size c) j=some l:=hl
  by_cases q:j=i
  .subst q;rw[fU]at hl
   grind
  .rw[eJ _ _ _ q]at hl;refine(H.obj j o l hj hl).ext E ?_;intro b hb;have:=H.ju hj hl hb
   grind
 .intro j k o o' auL auM b hj hk e1 e2 f1 f2
  replace e1:cw X.s i (.at X.w.heap.size c) j=some auL:=e1
  replace e2:cw X.s i (.at X.w.heap.size c) k=some auM:=e2
  by_cases q:j=i
  .by_cases r:k=i
   .rw[q,r]
   .rw[eJ _ _ _ r]at e2;subst q;rw[fU]at e1;cases e1;have:=H.ju hk e2 f2;have:b=X.w.heap.size:=f1;omega
  .rw[eJ _ _ _ q]at e1;by_cases r:k=i
   .subst r;rw[fU]at e2;cases e2;have:=H.ju hj e1 f1;have:b=X.w.heap.size:=f2;omega
   .rw[eJ _ _ _ r]at e2;exact H.inj j k o o' auL auM b hj hk e1 e2 f1 f2
 .intro j l hl
  replace hl:cw X.s i (.at X.w.heap.size c) j=some l:=hl
  by_cases q:j=i
  .subst q;exact hi
  .rw[eJ _ _ _ q]at hl;exact H.dM j l hl
 .intro j o auL b hj e f
  replace e:cw X.s i (.at X.w.heap.size c) j=some auL:=e
  by_cases q:j=i
  .subst q;rw[fU]at e;cases e;intro ha;have:=H.alt b ha;have:b=X.w.heap.size:=f;omega
  .rw[eJ _ _ _ q]at e;exact H.loc j o auL b hj e f
theorem bh.more{X:Cx}(H:aV X){f:Nat}{o:bC}{tr':Tr bC}(ht:Tr.set f X.h.tr X.h.next (some o)=some tr'):bh X ⟨X.s,⟨tr',X.h.next+1⟩,X.w,X.A⟩/\aV ⟨X.s,⟨tr',X.h.next+1⟩,X.w,X.A⟩:=by
 have hg:=Tr.dp f X.h.tr X.h.next (some o) tr' ht;have hn:X.s X.h.next=none:=by cases q:X.s X.h.next with|none=>rfl|some l=>have:=H.dM _ _ q;omega
 have old:∀j l,X.s j=some l->tr'.get j=X.h.tr.get j:=by grind
 have E:bh X ⟨X.s,⟨tr',X.h.next+1⟩,X.w,X.A⟩:=by
  refine⟨rfl,rfl,rfl,rt _,fun _ _ h=>h,fun _ _ _ h=>h,atQ,fun _ _ _=>rfl,?_,?_,?_,rfl⟩
  .rintro b ⟨i,avF,c,h1,h2,h3⟩;exact .inl ⟨i,avF,c,by grind,h2,h3⟩
  .intro j n hj h
   replace h:rowOf tr' j=some n:=h
   unfold rowOf at h;rw[hg j,BT atO]at h;exact h
  grind
 refine⟨E,⟨?_,?_,?_,?_,H.alt,?_⟩⟩
 .intro j avF l hj hl
  replace hj:tr'.get j=some avF:=hj
  rw[old j l hl]at hj;exact(H.obj j avF l hj hl).ext (E.fG H) (fun _ _=>rfl)
 .intro j k avF avG b auL auM hj hk e1 e2
  replace hj:tr'.get j=some avF:=hj
  replace hk:tr'.get k=some avG:=hk
  rw[old j _ e1]at hj;rw[old k _ e2]at hk;exact H.inj j k avF avG b auL auM hj hk e1 e2
 .intro j avF hj;simp only[hg j]at hj;by_cases q:j=X.h.next
  .simp[q]
  .rw[BT q]at hj;have:=H.lt j avF hj;simp only;omega
 .intro j l h;have:=H.dM j l h;simp only;omega
 .intro j avF b c hj e
  replace hj:tr'.get j=some avF:=hj
  rw[old j _ e]at hj;exact H.loc j avF b c hj e
theorem aa9{X:Cx}(H:aV X){f c:Nat}{o:bC}{ob:Obj}{tr':Tr bC}(ht:Tr.set f X.h.tr X.h.next (some o)=some tr') :
  bh X ⟨cw X.s X.h.next (.at X.w.heap.size c),⟨tr',X.h.next+1⟩,{ X.w with heap:=X.w.heap.push ob },X.A⟩:=by
 obtain⟨E,H'⟩:=bh.more H ht;have hn:X.s X.h.next=none:=by cases q:X.s X.h.next with|none=>rfl|some l=>have:=H.dM _ _ q;omega
 refine⟨rfl,rfl,rfl,atQ,?_,?_,atQ,?_,?_,E.len,E.same,rfl⟩
 .intro i l h;have:=H.dM i l h;show cw X.s _ _ i=_;rw[eJ _ _ _ atO];exact h
 .intro i l hi h
  replace h:cw X.s X.h.next _ i=some l:=h
  rw[eJ _ _ _ atO]at h;exact h
 .intro b hb _
  grind
 .rintro b ⟨i,avF,auL,h1,h2,h3⟩
  replace h2:cw X.s X.h.next (.at X.w.heap.size c) i=some auL:=h2
  by_cases q:i=X.h.next
  .subst q;rw[fU]at h2;cases h2;have:b=X.w.heap.size:=h3;right;omega
  .rw[eJ _ _ _ q]at h2;exact E.da b ⟨i,avF,auL,h1,h2,h3⟩
theorem aV.new{X:Cx}(H:aV X){f c:Nat}{o:bC}{ob:Obj}{tr':Tr bC}(ht:Tr.set f X.h.tr X.h.next (some o)=some tr')
  (ho:jA ⟨cw X.s X.h.next (.at X.w.heap.size c),⟨tr',X.h.next+1⟩,{ X.w with heap:=X.w.heap.push ob },X.A⟩ (.at X.w.heap.size c) o) :
  aV ⟨cw X.s X.h.next (.at X.w.heap.size c),⟨tr',X.h.next+1⟩,{ X.w with heap:=X.w.heap.push ob },X.A⟩:=by
 obtain⟨E,H'⟩:=bh.more H ht;have hn:X.s X.h.next=none:=by cases q:X.s X.h.next with|none=>rfl|some l=>have:=H.dM _ _ q;omega
 have hg:=Tr.dp f X.h.tr X.h.next (some o) tr' ht;refine aV.real H' hn atQ ?_
 grind
theorem aV.ZH{X:Cx}(H:aV X){f:Nat}{vo:bC}{tr':Tr bC}(ht:Tr.set f X.h.tr X.h.next (some vo)=some tr')(hv:∀X',jA X' .nil vo) :
  bh X ⟨cw X.s X.h.next .nil,⟨tr',X.h.next+1⟩,X.w,X.A⟩/\aV ⟨cw X.s X.h.next .nil,⟨tr',X.h.next+1⟩,X.w,X.A⟩:=by
 obtain⟨E,H'⟩:=bh.more H ht;have hn:X.s X.h.next=none:=by cases q:X.s X.h.next with|none=>rfl|some l=>have:=H.dM _ _ q;omega
 have hg:=Tr.dp f X.h.tr X.h.next (some vo) tr' ht;have ne:∀j l b,cw X.s X.h.next .nil j=some l->l.own b->X.s j=some l:=by
  intro j l b h hb;by_cases q:j=X.h.next
  .subst q;rw[fU]at h;cases h;exact hb.elim
  .rwa [eJ _ _ _ q]at h
 have S:bh X ⟨cw X.s X.h.next .nil,⟨tr',X.h.next+1⟩,X.w,X.A⟩:=by
  refine⟨rfl,rfl,rfl,rt _,?_,?_,atQ,fun _ _ _=>rfl,?_,E.len,E.same,rfl⟩
  .intro i l h;have:=H.dM i l h;show cw X.s _ _ i=_;rw[eJ _ _ _ atO];exact h
  .intro i l hi h
   replace h:cw X.s X.h.next _ i=some l:=h
   rw[eJ _ _ _ atO]at h;exact h
  .rintro b ⟨i,avF,auL,h1,h2,h3⟩;exact E.da b ⟨i,avF,auL,h1,ne _ _ _ h2 h3,h3⟩
 refine⟨S,⟨?_,?_,H'.lt,?_,H.alt,?_⟩⟩
 .intro j o l hj hl
  replace hl:cw X.s X.h.next .nil j=some l:=hl
  replace hj:tr'.get j=some o:=hj
  by_cases q:j=X.h.next
  .subst q;rw[fU]at hl
   grind
  .rw[eJ _ _ _ q]at hl;rw[hg,BT q]at hj;exact(H.obj j o l hj hl).ext (S.fG H) (fun _ _=>rfl)
 .intro j k o o' auL auM b hj hk e1 e2 f1 f2;exact H'.inj j k o o' auL auM b hj hk (ne _ _ _ e1 f1) (ne _ _ _ e2 f2) f1 f2
 .intro j l hl
  replace hl:cw X.s X.h.next .nil j=some l:=hl
  by_cases q:j=X.h.next
  .simp[q]
  .rw[eJ _ _ _ q]at hl;have:=H.dM j l hl;simp only;omega
 .intro j o l b hj e f;exact H'.loc j o l b hj (ne _ _ _ e f) f
theorem aV.void{X:Cx}(H:aV X){f:Nat}{τ:Sh}{ty:TypeId}{tr':Tr bC}(ht:Tr.set f X.h.tr X.h.next (some (.arr τ [] ty))=some tr') :
  bh X ⟨cw X.s X.h.next .nil,⟨tr',X.h.next+1⟩,X.w,X.A⟩/\aV ⟨cw X.s X.h.next .nil,⟨tr',X.h.next+1⟩,X.w,X.A⟩:=H.ZH ht fun _=>rfl
theorem aV.kill{X:Cx}(H:aV X){i f:Nat}{l:Loc}{tr':Tr bC}(hs:X.s i=some l)(ht:Tr.set f X.h.tr i none=some tr') :
  bh X ⟨X.s,⟨tr',X.h.next⟩,X.w,X.A⟩/\aV ⟨X.s,⟨tr',X.h.next⟩,X.w,X.A⟩:=by
 have hg:=Tr.dp f X.h.tr i none tr' ht;have sub:∀j o,tr'.get j=some o->X.h.tr.get j=some o/\j≠i:=by grind
 have E:bh X ⟨X.s,⟨tr',X.h.next⟩,X.w,X.A⟩:=by
  refine⟨rfl,rfl,rfl,rt _,fun _ _ h=>h,fun _ _ _ h=>h,rt _,fun _ _ _=>rfl,?_,?_,?_,rfl⟩
  .rintro b ⟨j,o,c,h1,h2⟩;exact .inl ⟨j,o,c,(sub j o h1).1,h2⟩
  .intro j n hj h;obtain⟨o,h1,h2⟩:=mh h;show rowOf X.h.tr j=some n;rw[kP (sub j o h1).1];exact h2
  grind
 exact⟨E,⟨fun j o l hj hl=>(H.obj j o l (sub j o hj).1 hl).ext (E.fG H) (fun _ _=>rfl),fun j k o o' l l' b hj hk=>H.inj j k o o' l l' b (sub j o hj).1 (sub k o' hk).1,
  fun j o hj=>H.lt j o (sub j o hj).1,H.dM,H.alt,fun j o l b hj=>H.loc j o l b (sub j o hj).1⟩⟩
theorem aV.freeze{X:Cx}(H:aV X){i f:Nat}{l:Loc}{τ:Sh}{L:List τ.T}{ty:TypeId}{tr':Tr bC}(hi:X.h.tr.get i=some (.arr τ L ty))(hs:X.s i=some l)(ht:Tr.set f X.h.tr i none=some tr') :
  Cs X.w (Cx.out ⟨X.s,⟨tr',X.h.next⟩,X.w,X.A⟩) (.sl τ) L [l.slice L.length]:=by
 obtain⟨E,H'⟩:=H.kill hs ht;have hg:=Tr.dp f X.h.tr i none tr' ht;have ho:=H.obj i _ l hi hs;cases l with
 |nil=>have:L=[]:=ho;subst this;exact⟨none,0,0,rfl,rfl,rt _,fun h=>absurd rfl h⟩|«at» b c=>
  obtain⟨cs,tail,h1,h2,h3,h4⟩:=ho;refine⟨some ⟨b,0,none⟩,L.length,c,rfl,rfl,h4,fun _=>⟨b,0,cs,rfl,?_,h2.mono (fun x d q=>q.bn E.keeps),⟨_,ty,_,h1,?_⟩⟩⟩
  .rintro(q|⟨j,o,c',q1,q2,q3⟩)
   .exact H.loc i _ _ b hi hs rfl q
   .replace q1:tr'.get j=some o:=q1
    rw[hg j]at q1;by_cases r:j=i
    .rw[IO r]at q1;cases q1
    .rw[BT r]at q1;exact r (H.inj j i o _ c' _ b q1 hi q2 hs q3 rfl)
  grind
 |dE b c m=>exact ho.elim
end Go.Proofs.YtmkbdfidnfmgmaaGreat.V
end
section
namespace Go.Proofs.YtmkbdfidnfmgmaaGreat.Ev
open Go Go.RowKit
def qY(P:Program)(t:TypeId):Option Bool:=match P.underlying t with|some (.struct _)=>some true|some (.array _ _)=>some true|some _=>some false|none=>none
variable{P:Program}
theorem pj{t:TypeId}{b:Bool}(h:qY P t=some b)(w:World):(isAgg t).run P w=.ok b w:=by unfold qY at h;cases hu:P.underlying t with|none=>simp[hu]at h|some d=>cases d<;>simp[hu]at h<;>subst h<;>simp[isAgg,run_underlying hu]
def places(P:Program):List Field->Option (List (Nat×Nat))
 |[]=>some []|f::l=>match gD P f.type with
  |some n=>match places P l with|some r=>some ((f.offset,n)::r)|none=>none
  |none=>none
theorem run_places{P:Program}{w:World}:∀{l:List Field}{r:List (Nat×Nat)},places P l=some r ->
  (l.mapM (fun f=>do pure (f.offset,<-Go.sizeOf f.type):Field->Sem (Nat×Nat))).run P w=.ok r w
 |[],r,h=>by simp[places]at h;subst h;simp|f::l,r,h=>by
  simp only[places]at h;split at h<;>try cases h
  rename_i n hn;split at h<;>try cases h
  rename_i q hq;rw[List.mapM_cons];simp only[Sem.run_bind,run_sizeOf hn,Result.andThen_ok,Sem.run_pure];rw[run_places hq];rfl
theorem ta{w:World}{l:Array Field}{r:List (Nat×Nat)}(h:places P l.toList=some r) :
  (l.mapM (fun f=>do pure (f.offset,<-Go.sizeOf f.type):Field->Sem (Nat×Nat))).run P w=.ok r.toArray w:=by
 have:=run_places (w:=w) h;rw[Array.mapM_eq_mapM_toList,Sem.run_map,this];rfl
def lJ(P:Program)(t:TypeId):Option Nat:=match P.info? t with|some i=>some i.bytes|none=>none
