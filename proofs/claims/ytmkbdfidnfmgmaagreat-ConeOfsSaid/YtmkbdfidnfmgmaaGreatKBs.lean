import Derived.Test.YtmkbdfidnfmgmaaGreatKAa
import Derived.Test.YtmkbdfidnfmgmaaGreatRows
import Derived.WalkKit
import Derived.ProofKit
import Derived.OpenShut
import Derived.ShutString
import Derived.ChangeOld
import Derived.Below
import Derived.Laws.OwnMore
import Derived.Laws.Rows
import Derived.Deep.AppendLies
import Derived.Deep.Draws
import Derived.Deep.OwnRows
import Derived.Deep.QuietTactic
import Derived.BigQuiet
import Derived.Maps.AppendAt
import Derived.RegionTactic
import Derived.OwnWalk
import Derived.Lib.Hide
import Derived.WalkLawsBesides
import Derived.WalkSpells
import Derived.IntWalk
import Derived.Laws.IdiomStrings
import Derived.Deep.Slices
import Derived.Deep.Fields
import Derived.ChangeSame
set_option linter.all false
section
namespace Go.Proofs.YtmkbdfidnfmgmaaGreat
open Go.RowKit
theorem own:ownKnob Tryz.prog.godebug=none:=aud
theorem laidOut:laidOutB Tryz.prog=true:=aud
variable{b:Int}
theorem Zm2{k:IntKind}{a:Int}(h:a=b):Ending.returned (.int k a)=.returned (.int k b):=by rw[h]
theorem yV{a b:Bool}(h:a=b):Ending.returned (.bool a)=.returned (.bool b):=by rw[h]
theorem Zrl(a:Addr)(n:Nat):(a.add n).block=a.block:=by unfold Addr.add;split<;>rfl
theorem Zuk(a:Addr)(i j:Nat):(a.add i).add j=a.add (i+j):=by unfold Addr.add;by_cases hi:i=0<;>by_cases hj:j=0<;>simp[hi,hj,asP]
def Reads(w:World)(B size:Nat)(A:pi)(n:Nat)(xs:mt):Prop:=xs.length=n*size/\(0<n->∃ad,A=some ad/\ad.block<B/\∀j u,xs[j]?=some u->w.cell? (ad.add j)=some u)
section
variable{w w':World}{B B' size n:Nat}{A:pi}{xs:mt}
theorem Reads.at_{k:Nat}(h:Reads w B 1 A n xs)(hk:k<n):∃ad u,A=some ad/\ad.block<B/\xs[k]?=some u/\w.cell? (ad.add k)=some u:=by
 obtain⟨ad,e,hb,hc⟩:=h.2 auc;have hl:k<xs.length:=by have:=h.1;omega
 exact⟨ad,xs[k],e,hb,bA hl,hc k _ (bA hl)⟩
theorem Reads.bU(h:Reads w B size A n xs)(hk:∀p:Addr,p.block<B->w'.cell? p=w.cell? p):Reads w' B size A n xs:=⟨h.1,fun hn=>by obtain⟨ad,e,hb,hc⟩:=h.2 hn;exact⟨ad,e,hb,fun j u hu=>(hk _ (by rw[Zrl];exact hb)).trans (hc j u hu)⟩⟩
theorem Reads.more(h:Reads w B size A n xs)(hB:B<=B'):Reads w B' size A n xs:=⟨h.1,fun hn=>by obtain⟨ad,e,hb,hc⟩:=h.2 hn;exact⟨ad,e,auc,hc⟩⟩
theorem Reads.below(h:Reads w B size A n xs)(hb:Below B w w'):Reads w' B size A n xs:=h.bU fun _ hp=>hb.cell hp
theorem Reads.alloc(h:Reads w B size A n xs)(hB:B<=w.heap.size)(o:Obj):Reads (w.alloc o) B size A n xs:=h.bU fun p hp=>World.cell?_alloc_lt w o p auc
theorem Reads.take(h:Reads w B 1 A n xs){k:Nat}(hk:k<=n):Reads w B 1 A k (xs.take k):=by
 refine⟨by rw[dK,h.1];omega,fun hn=>?_⟩;obtain⟨ad,e,hb,hc⟩:=h.2 auc;refine⟨ad,e,hb,fun j u hu=>hc j u ?_⟩;rw[atC]at hu;split at hu
 .exact hu
 .cases hu
theorem Reads.abA{base:Nat}{e:TypeId}{c:Nat}(h:w.ownsRow base e size (.slice A n c) n xs):Reads w w.heap.size size A n xs:=by
 refine⟨h.1,fun hn=>?_⟩;obtain⟨g,cap,hv,_,hlt⟩:=h.form hn;have hA:A=some ⟨g,0,none⟩:=by injection hv
 subst hA;exact⟨_,rfl,hlt,h.cells (g:=g) rfl⟩
end
variable{e:TypeId}{k:Nat}{base:Nat}
theorem acX(kd:IntKind)(l:jp)(k:Nat)(hk:k<l.length):(l.map (Value.int kd))[k]?=some (.int kd (l.getD k 0)):=by rw[cW,bA hk,ff,bA hk];rfl
theorem Reads.pJ{kd:IntKind}{w:World}{B n:Nat}{A:pi}{l:jp}(h:Reads w B 1 A n (l.map (Value.int kd)))(hk:k<n) :
  ∃b off,A=some ⟨b,off,none⟩/\b<B/\w.cell? ⟨b,off+k,none⟩=some (.int kd (l.getD k 0)):=by
 have hl:n=l.length:=by have:=h.1;simpa using this.symm
 obtain⟨ad,u,e,hb,hx,hc⟩:=h.at_ hk;rw[acX kd l k auc]at hx;injection hx with hx;subst hx;obtain⟨b,off,spot⟩:=ad;have h0:=h.2 auc;obtain⟨ad',e',_,hc'⟩:=h0;rw[e]at e';injection e' with e';subst e';have h00:=hc' 0 _ (acX kd l 0 auc);have hs:spot=none:=by simpa[Addr.add]using World.cell?_spot h00
 subst hs;exact⟨b,off,e,hb,by
  unfold Addr.add at hc;split at hc
  .rename_i h0;subst h0;exact hc
  .exact hc⟩
def bD(w:World)(g:Nat)(t:TypeId)(cs:Array Value):Prop:=w.heap[g]?=some (.cells cs t (0,0))
section
variable{w w':World}{g:Nat}{t:TypeId}{cs:Array Value}
theorem bD.lt(h:bD w g t cs):g<w.heap.size:=by
 rcases adc g w.heap.size with hlt|hge
 .exact hlt
 .unfold bD at h;rw[atT hge]at h;cases h
theorem bD.cell(h:bD w g t cs)(i:Nat):w.cell? ⟨g,i,none⟩=cs[i]?:=cell_of_row w g i cs t (0,0) h
theorem bD.frozen(h:bD w g t cs)(i:Nat):w.frozen? ⟨g,i,none⟩=false:=by unfold bD at h;simp[World.frozen?,h]
theorem bD.new(w:World)(t:TypeId)(cs:Array Value):bD (w.alloc (.cells cs t)) w.heap.size t cs:=heap_alloc_new w _
theorem bD.alloc(h:bD w g t cs)(o:Obj):bD (w.alloc o) g t cs:=(Below.heap_alloc w o g h.lt).trans h
theorem bD.gO(h:bD w g t cs)(i:Nat)(u:Value):bD (w.setCell ⟨g,i,none⟩ u) g t (cs.setIfInBounds i u):=by unfold bD at h |-;simp[World.setCell,Array.getElem?_modify,h]
theorem bD.d9(h:bD w g t cs){p:Addr}(hp:g≠p.block)(u:Value):bD (w.setCell p u) g t cs:=(Below.heap_setCell w p u g hp).trans h
theorem bD.below{B:Nat}(h:bD w g t cs)(hb:Below B w w')(hg:g<B):bD w' g t cs:=(hb.block g hg).trans h
theorem bD.grown{row:Option Nat}(h:bD w g t cs)(hb:w.grownBy w' row)(hg:some g≠row):bD w' g t cs:=(hb.block g h.lt hg).trans h
theorem bD.ne_{g':Nat}{t':TypeId}{cs':Array Value}(h:bD w g t cs)(h':bD w g' t' cs')(hne:t≠t'):g≠g':=by rintro rfl;unfold bD at h h';rw[h]at h';injection h' with h';injection h' with _ ht;exact hne ht
theorem yY{size n:Nat}{v:Value}{xs:mt}(h:w.ownsRow base e size v n xs)(hg:bD w g t cs)(hne:e≠t):v.ownBlock≠some g:=by
 rcases h.2 with⟨rfl,_⟩|⟨g',cap,cur,rfl,_,hh,_⟩
 .simp[Value.ownBlock]
 .intro he;have:g'=g:=by simpa[Value.ownBlock]using he
  subst this;exact bD.ne_ (t:=e) hh hg hne rfl
end
variable{v:Value}
theorem below_drewN{B:Nat}{a w:World}(h:Below B a w)(n:Nat):Below B a (w.drewN n):=⟨h.os,h.tape,h.output,h.size,h.block⟩
theorem Zsc{P:Program}{f:FuncId}{args:Array Value}{w:World}{a n:Nat}
  (h:Calls P f args (w.drewN (a+n)) fun e w'=>e=.returned v/\w.drewN (a+n)=w') :
  Calls P f args (w.drewN (a+n)) fun e w''=>e=.returned v/\∃m,w''=w.drewN (a+m):=
 h.mono fun _ _ ⟨he,hm⟩=>⟨he,n,hm.symm⟩
theorem aoT:(Tryz.prog.info? 4).map (fun i=>(i.zero,i.size,i.bytes))=some (some (.bool false),1,1):=aud
theorem FQ:(Tryz.prog.info? 3).map (fun i=>(i.zero,i.size,i.bytes))=some (some (.int .i64 0),1,8):=aud
theorem y9{w:World}{size:Nat}{n:Nat}{xs:mt}(h:w.ownsRow base e size v n xs) :
  ∃A c,v=.slice A n c/\n<=c/\c<=maxLen/\Reads w w.heap.size size A n xs:=by
 rcases h.2 with⟨rfl,rfl⟩|⟨g,cap,cur,rfl,hb,hh,hl,hm,hs,ht⟩
 .exact⟨none,0,rfl,ro _,by simp[maxLen],.abA h⟩
 .exact⟨_,cap,rfl,hl,hm,.abA h⟩
def tS(e:TypeId)(w:World)(xs:mt)(en:Ending)(w':World):Prop:=∃A c,en=.returned (.slice A xs.length c)/\xs.length<=c/\c<=maxLen/\w'.ownsRow w.heap.size e 1 (.slice A xs.length c) xs.length xs/\Below w.heap.size w w'
theorem tS.mk{w w':World}{xs:mt}{n:Nat}(hn:n=xs.length)(h:w'.ownsRow w.heap.size e 1 v n xs)(hb:Below w.heap.size w w'):tS e w xs (.returned v) w':=by subst hn;obtain⟨A,c,rfl,h1,h2,_⟩:=y9 h;exact⟨A,c,rfl,h1,h2,h,hb⟩
theorem Zv2(W:World)(us:Array Value)(e:TypeId)(j:Nat)(u:Value)(h:us.toList[j]?=some u):(W.alloc (.cells us e)).cell? ((⟨W.heap.size,0,none⟩:Addr).add j)=some u:=by
 have:=(bD.new W e us).cell j;unfold Addr.add;split
 .rename_i h0;subst h0;simpa using this.trans (by simpa using h)
 .simpa using this.trans (by simpa using h)
theorem amv{k:IntKind}:∀u∈(#[Value.int k b]:Array Value).toList,u.oneCell'=true:=by intro u hu;simp at hu;subst hu;rfl
variable{a:Act}{Q:Exit->Act->World->Prop}{o:Oper}{ops:Array Oper}{rest:List Oper}
theorem apm{P:Program}(W:World)(hgd:o.guard=none)(s x:Operand)(t:TypeId)
  (ho:o.op=.call { callee:=.builtin .append,args:=#[s,x],argTypes:=#[t,t] })
  (base:Nat) (e:TypeId) (z:Value) (size bytes:Nat) (ht:P.underlying t=some (.slice e)) (hi:(P.info? e).map (fun i=>(i.zero,i.size,i.bytes))=some (some z,size,bytes))
  (hzs:z.cells.size=size) (hsz:0<size)
  (v:Value) (n:Nat) (xs:mt) (hs:a.eval s=v) (hown:W.ownsRow base e size v n xs)
  (us:Array Value) (hx:a.eval x=.slice (some ⟨W.heap.size,0,none⟩) 1 1) (hus:us.size=size) (h1:∀u∈us.toList,u.oneCell'=true)
  (hbytes:(n+1)*bytes<=140737488355328) (h63:n+1<=maxLen) (hbase:base<=W.heap.size)
  (h:∀v' w',w'.ownsRow base e size v' (n+1) (xs++us.toList)->W.grownBy w' v.ownBlock->Below base W w'->wpList P ops Q rest (a.put o.dst v') w'):wpList P ops Q (o::rest) a (W.alloc (.cells us e)):=by
 obtain⟨i0,hi0,hz0,hz1,hz2⟩:=info_parts hi;refine wpList_append_own _ hgd s x t ho base e i0 z size bytes ht hi0 hz0 hz1 hz2 hzs hsz v n xs hs (hown.alloc _) ⟨W.heap.size,0,none⟩ 1 1 us.toList hx (by simp[hus]) (Zv2 W us e) h1 h63 hbytes (by simp;omega) ?_;intro v' w' h2 h3 _;have hg:W.grownBy w' v.ownBlock:=⟨h3.os,h3.tape,h3.output,EQ aue h3.size,fun i hi hne=>(h3.block i (by simp;omega) hne).trans (Below.heap_alloc W _ i hi)⟩;refine h v' w' h2 hg ?_;refine⟨hg.os,hg.tape,hg.output,?_,fun i hi=>hg.block i auc ?_⟩
 .exact hg.size
 .intro e;have:=(hown.lt i e.symm).1;omega
theorem bD.reads{w:World}{g:Nat}{t:TypeId}{xs:mt}(h:bD w g t xs.toArray):Reads w w.heap.size 1 (some ⟨g,0,none⟩) xs.length xs:=by
 refine⟨aue,fun _=>⟨_,rfl,h.lt,fun j u hu=>?_⟩⟩;have e:(⟨g,0,none⟩:Addr).add j=⟨g,j,none⟩:=by
  unfold Addr.add;split
  .simp
  .simp
 rw[e,h.cell j];simpa using hu
open Go.ChangeShapes Go.WideShapes Go.Deep
section
variable{H:Type}{enc:TypeId×Value->H}{P:Program}{W:World}
theorem ac8{α:Type}(f:α->mt)(C:Nat)(hC:0<C)(hf:∀x,(f x).length=C):∀(l:List α) (k:Nat),(l.flatMap f)[k]?=l[k / C]?.bind fun x=>(f x)[k % C]?
 |[],k=>by simp|x::l,k=>by
  rw[ww];by_cases hk:k<C
  .rw[Ne (by rw[hf];exact hk),Nat.div_eq_of_lt hk,atV hk];simp
  .rw[In (by rw[hf];omega),hf,ac8 f C hC hf l (k-C)];have e1:k / C=(k-C) / C+1:=by rw[Nat.div_eq_sub_div hC auc]
   have e2:(k-C) % C=k % C:=by rw[<-Nat.mod_eq_sub_mod auc]
   rw[e1,e2];simp
theorem Zst{α:Type}(f:α->mt)(C:Nat)(hf:∀x,(f x).length=C)(l:List α):(l.flatMap f).length=l.length*C:=by induction l with|nil=>simp|cons x l ih=>rw[ww,bF,hf,ih,dG,atj];omega
theorem ac6{α:Type}{p:Nat->α->Prop}:∀n:Nat,(∀i,i<n->∃x,p i x)->∃l:List α,l.length=n/\∀i x,l[i]?=some x->p i x
 |0,_=>⟨[],rfl,fun i x h=>by simp at h⟩|n+1,h=>by
  obtain⟨l,hl,hp⟩:=ac6 n fun i hi=>h i auc;obtain⟨x,hx⟩:=h n auc;refine⟨l++[x],by simp[hl],fun i y hy=>?_⟩;rcases adc i n with hi|hi
  .rw[Ne auc]at hy;exact hp i y hy
  .rw[In auc]at hy;have hi':i-l.length=0:=by
    rcases Or (i-l.length)with h0|h0
    .exact h0
    .rw[asj (by simp;omega)]at hy;cases hy
   rw[hi']at hy;simp at hy;subst hy;obtain rfl:i=n:=auc
   exact hx
end
variable{α:Type}
theorem Reads.elem{f:α->mt}{C:Nat}{w:World}{B n:Nat}{A:pi}{l:List α}(h:Reads w B C A n (l.flatMap f))(hC:0<C)(hf:∀x,(f x).length=C)(hl:l.length=n)(hk:k<n) :
  ∃b off x,A=some ⟨b,off,none⟩/\b<B/\l[k]?=some x/\∀j u,(f x)[j]?=some u->w.cell? ⟨b,off+(k*C+j),none⟩=some u:=by
 obtain⟨ad,e,hb,hc⟩:=h.2 auc;have hx:l[k]?=some (l[k]' auc):=bA auc;have key:∀j u,(f (l[k]' auc))[j]?=some u->w.cell? (ad.add (k*C+j))=some u:=fun j u hu=>by
  have hj:j<C:=by
   have:=(rg.1 hu).1
   rwa [hf]at this
  refine hc _ u ?_;rw[ac8 f C hC hf];have e1:(k*C+j) / C=k:=by rw[Nat.mul_comm,Nat.mul_add_div hC,Nat.div_eq_of_lt hj,atf]
  have e2:(k*C+j) % C=j:=by rw[Nat.mul_comm,Nat.mul_add_mod,atV hj]
  rw[e1,e2,hx];exact hu
 obtain⟨b,off,spot⟩:=ad;have hs:spot=none:=by
  have h0:0<(l.flatMap f).length:=by rw[Zst f C hf,hl];exact Nat.mul_pos auc hC
  simpa[Addr.add]using World.cell?_spot (hc 0 _ (bA h0))
 subst hs;refine⟨b,off,_,e,hb,hx,fun j u hu=>?_⟩;have:=key j u hu;unfold Addr.add at this;split at this
 .rename_i h0;rw[h0];exact this
 .exact this
section
variable{P:Program}(w:World)
theorem Ztz(base:Nat)(t ty e:TypeId)(i:TypeInfo)(size:Nat)(ht:P.underlying t=some (.slice e))(hi:P.info? e=some i)
  (v:Value) (n:Nat) (xs:mt) (hown:w.ownsRow base e size v n xs) (c:Nat):(Builtin.append_ #[t,t] ty #[v,.slice none 0 c]).run P w=.ok v w:=by
 rcases hown.2 with⟨rfl,rfl⟩|⟨g,cap,cur,rfl,_,_,hnc,_⟩
 .simp[Builtin.append_,run_underlying ht,sizeOf,typeInfo,hi,Builtin.lenOf,Builtin.firstCells]
 .simp[Builtin.append_,run_underlying ht,sizeOf,typeInfo,hi,Builtin.lenOf,Builtin.firstCells,hnc,storeCells]
theorem Zxq(base:Nat)(t ty e:TypeId)(i:TypeInfo)(z:Value)(size bytes:Nat)(ht:P.underlying t=some (.slice e))(hi:P.info? e=some i)(hz:i.zero=some z)
  (hsize:i.size=size) (hby:i.bytes=bytes) (hzs:z.cells.size=size) (hsz:0<size)
  (v:Value) (n:Nat) (xs:mt) (hown:w.ownsRow base e size v n xs)
  (B:Nat) (A:pi) (m c:Nat) (news:mt) (hr:Reads w B size A m news) (h1:∀u∈news,u.oneCell'=true)
  (h63:n+m<=maxLen) (hbytes:(n+m)*bytes<=140737488355328) (hbase:base<=w.heap.size) :
  ∃v' w',(Builtin.append_ #[t,t] ty #[v,.slice A m c]).run P w=.ok v' w'/\w'.ownsRow base e size v' (n+m) (xs++news)/\w.grownBy w' v.ownBlock /\
   (v'.ownBlock=v.ownBlock\/v'.ownBlock=some w.heap.size):=by
 rcases A with _|ad
 .have hm:m=0:=by
   rcases Or m with h0|h0
   .exact h0
   .obtain⟨ad,h,_⟩:=hr.2 h0;cases h
  subst hm;have hn:news=[]:=AC (by simpa using hr.1);subst hn;exact⟨v,w,Ztz w base t ty e i size ht hi v n xs hown c,by simpa using hown,World.grownBy.refl w _,.inl rfl⟩
 .have hcells:∀j u,news[j]?=some u->w.cell? (ad.add j)=some u:=by
   intro j u hu;rcases Or m with h0|h0
   .subst h0;have hn:news=[]:=AC (by simpa using hr.1);subst hn;simp at hu
   .obtain⟨ad',h,_,hc⟩:=hr.2 h0;injection h with h;subst h;exact hc j u hu
  obtain⟨v',w',hrun,h2,h3,_,h5⟩:=run_append_own_at (P:=P) w base t ty e i z size bytes ht hi hz hsize hby hzs hsz v n xs hown ad m c news hr.1 hcells h1 h63 hbytes hbase;exact⟨v',w',hrun,h2,h3,h5⟩
theorem Zt5{K:Act->World->Prop}(s x:Operand)(t:TypeId)
  (ho:o.op=.call { callee:=.builtin .append,args:=#[s,x],argTypes:=#[t,t] })
  (base:Nat) (e:TypeId) (i:TypeInfo) (z:Value) (size bytes:Nat) (ht:P.underlying t=some (.slice e)) (hi:P.info? e=some i) (hz:i.zero=some z)
  (hsize:i.size=size) (hby:i.bytes=bytes) (hzs:z.cells.size=size) (hsz:0<size)
  (v:Value) (n:Nat) (xs:mt) (hs:a.eval s=v) (hown:w.ownsRow base e size v n xs)
  (B:Nat) (A:pi) (m c:Nat) (news:mt) (hx:a.eval x=.slice A m c) (hr:Reads w B size A m news) (h1:∀u∈news,u.oneCell'=true)
  (h63:n+m<=maxLen) (hbytes:(n+m)*bytes<=140737488355328) (hbase:base<=w.heap.size)
  (h:∀v' w',w'.ownsRow base e size v' (n+m) (xs++news)->w.grownBy w' v.ownBlock->(v'.ownBlock=v.ownBlock\/v'.ownBlock=some w.heap.size)->K (a.put o.dst v') w'):o.wp P a w K Q:=by
 obtain⟨v',w',hrun,h2,h3,h4⟩:=Zxq (P:=P) w base t o.type e i z size bytes ht hi hz hsize hby hzs hsz v n xs hown B A m c news hr h1 h63 hbytes hbase;unfold Oper.wp execOp;simp only[ho,resolve,invoke,builtin,Sem.run_bind,Sem.run_pure,Result.andThen_ok,List.map_toArray,UV,asr,hs,hx,hrun];exact h v' w' h2 h3 h4
theorem tL(hgd:o.guard=none)(s x:Operand)(t:TypeId)
  (ho:o.op=.call { callee:=.builtin .append,args:=#[s,x],argTypes:=#[t,t] })
  (base:Nat) (e:TypeId) (i:TypeInfo) (z:Value) (size bytes:Nat) (ht:P.underlying t=some (.slice e)) (hi:P.info? e=some i) (hz:i.zero=some z)
  (hsize:i.size=size) (hby:i.bytes=bytes) (hzs:z.cells.size=size) (hsz:0<size)
  (v:Value) (n:Nat) (xs:mt) (hs:a.eval s=v) (hown:w.ownsRow base e size v n xs)
  (B:Nat) (A:pi) (m c:Nat) (news:mt) (hx:a.eval x=.slice A m c) (hr:Reads w B size A m news) (h1:∀u∈news,u.oneCell'=true)
  (h63:n+m<=maxLen) (hbytes:(n+m)*bytes<=140737488355328) (hbase:base<=w.heap.size)
  (h:∀v' w',w'.ownsRow base e size v' (n+m) (xs++news)->w.grownBy w' v.ownBlock->(v'.ownBlock=v.ownBlock\/v'.ownBlock=some w.heap.size)->wpList P ops Q rest (a.put o.dst v') w'):wpList P ops Q (o::rest) a w:=
 wpList_plain hgd fun _ hK=>Zt5 w s x t ho base e i z size bytes ht hi hz hsize hby hzs hsz v n xs hs hown B A m c news hx hr h1 h63 hbytes hbase fun v' w' h2 h3 h4=>hK _ _ (h v' w' h2 h3 h4)
