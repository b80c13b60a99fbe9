import Derived.Test.YtmkbdfidnfmgmaaGreatWAa
import Derived.Test.YtmkbdfidnfmgmaaGreatRows
import Derived.WalkKit
import Derived.ProofKit
import Derived.OpenShut
import Derived.ShutString
import Derived.ChangeOld
import Derived.Below
import Derived.Laws.OwnMore
import Derived.Laws.Rows
import Derived.Deep.AppendLies
import Derived.Deep.Draws
import Derived.Deep.OwnRows
import Derived.Deep.QuietTactic
import Derived.BigQuiet
import Derived.Maps.AppendAt
import Derived.RegionTactic
import Derived.OwnWalk
import Derived.Lib.Hide
import Derived.WalkLawsBesides
import Derived.WalkSpells
import Derived.IntWalk
import Derived.Laws.IdiomStrings
import Derived.Deep.Slices
import Derived.Deep.Fields
import Derived.ChangeSame
set_option linter.all false
section
namespace Go.Proofs.YtmkbdfidnfmgmaaGreat
open Go.RowKit
theorem own:ownKnob Tryz.prog.godebug=none:=atP
theorem laidOut:laidOutB Tryz.prog=true:=atP
variable{b:Int}
theorem Zm2{k:IntKind}{a:Int}(h:a=b):Ending.returned (.int k a)=.returned (.int k b):=by rw[h]
theorem AA{a b:Bool}(h:a=b):Ending.returned (.bool a)=.returned (.bool b):=by rw[h]
theorem Zrl(a:Addr)(n:Nat):(a.add n).block=a.block:=by unfold Addr.add;split<;>rfl
theorem Zuk(a:Addr)(i j:Nat):(a.add i).add j=a.add (i+j):=by unfold Addr.add;by_cases hi:i=0<;>by_cases hj:j=0<;>simp[hi,hj,asp]
def Reads(w:World)(B size:Nat)(A:pm)(n:Nat)(xs:pi):Prop:=xs.length=n*size/\(0<n->∃ad,A=some ad/\ad.block<B/\∀j u,xs[j]?=some u->w.cell? (ad.add j)=some u)
section
variable{w w':World}{B B' size n:Nat}{A:pm}{xs:pi}
theorem Reads.at_{k:Nat}(h:Reads w B 1 A n xs)(hk:k<n):∃ad u,A=some ad/\ad.block<B/\xs[k]?=some u/\w.cell? (ad.add k)=some u:=by
 obtain⟨ad,e,hb,hc⟩:=h.2 atO;have hl:k<xs.length:=by have:=h.1;omega
 exact⟨ad,xs[k],e,hb,ba hl,hc k _ (ba hl)⟩
theorem Reads.bn(h:Reads w B size A n xs)(hk:∀p:Addr,p.block<B->w'.cell? p=w.cell? p):Reads w' B size A n xs:=⟨h.1,fun hn=>by obtain⟨ad,e,hb,hc⟩:=h.2 hn;exact⟨ad,e,hb,fun j u hu=>(hk _ (by rw[Zrl];exact hb)).trans (hc j u hu)⟩⟩
theorem Reads.more(h:Reads w B size A n xs)(hB:B<=B'):Reads w B' size A n xs:=⟨h.1,fun hn=>by obtain⟨ad,e,hb,hc⟩:=h.2 hn;exact⟨ad,e,atO,hc⟩⟩
theorem Reads.below(h:Reads w B size A n xs)(hb:Below B w w'):Reads w' B size A n xs:=h.bn fun _ hp=>hb.cell hp
theorem Reads.alloc(h:Reads w B size A n xs)(hB:B<=w.heap.size)(o:Obj):Reads (w.alloc o) B size A n xs:=h.bn fun p hp=>World.cell?_alloc_lt w o p atO
theorem Reads.take(h:Reads w B 1 A n xs){k:Nat}(hk:k<=n):Reads w B 1 A k (xs.take k):=by
 refine⟨by rw[fx,h.1];omega,fun hn=>?_⟩;obtain⟨ad,e,hb,hc⟩:=h.2 atO;refine⟨ad,e,hb,fun j u hu=>hc j u ?_⟩;rw[atk]at hu;split at hu
 .exact hu
 .cases hu
theorem Reads.Y3{base:Nat}{e:TypeId}{c:Nat}(h:w.ownsRow base e size (.slice A n c) n xs):Reads w w.heap.size size A n xs:=by
 refine⟨h.1,fun hn=>?_⟩;obtain⟨g,cap,hv,_,hlt⟩:=h.form hn;have hA:A=some ⟨g,0,none⟩:=by injection hv
 subst hA;exact⟨_,rfl,hlt,h.cells (g:=g) rfl⟩
end
variable{e:TypeId}{base:Nat}{k:Nat}
theorem aah(kd:IntKind)(l:jp)(k:Nat)(hk:k<l.length):(l.map (Value.int kd))[k]?=some (.int kd (l.getD k 0)):=by rw[ct,ba hk,eu,ba hk];rfl
theorem Reads.qO{kd:IntKind}{w:World}{B n:Nat}{A:pm}{l:jp}(h:Reads w B 1 A n (l.map (Value.int kd)))(hk:k<n) :
  ∃b off,A=some ⟨b,off,none⟩/\b<B/\w.cell? ⟨b,off+k,none⟩=some (.int kd (l.getD k 0)):=by
 have hl:n=l.length:=by have:=h.1;simpa using this.symm
 obtain⟨ad,u,e,hb,hx,hc⟩:=h.at_ hk;rw[aah kd l k atO]at hx;injection hx with hx;subst hx;obtain⟨b,off,spot⟩:=ad;have h0:=h.2 atO;obtain⟨ad',e',_,hc'⟩:=h0;rw[e]at e';injection e' with e';subst e';have h00:=hc' 0 _ (aah kd l 0 atO);have hs:spot=none:=by simpa[Addr.add]using World.cell?_spot h00
 subst hs;exact⟨b,off,e,hb,by
  unfold Addr.add at hc;split at hc
  .rename_i h0;subst h0;exact hc
  .exact hc⟩
def bg(w:World)(g:Nat)(t:TypeId)(cs:Array Value):Prop:=w.heap[g]?=some (.cells cs t (0,0))
section
variable{w w':World}{g:Nat}{t:TypeId}{cs:Array Value}
theorem bg.lt(h:bg w g t cs):g<w.heap.size:=by
 rcases arm g w.heap.size with hlt|hge
 .exact hlt
 .unfold bg at h;rw[atF hge]at h;cases h
theorem bg.cell(h:bg w g t cs)(i:Nat):w.cell? ⟨g,i,none⟩=cs[i]?:=cell_of_row w g i cs t (0,0) h
theorem bg.frozen(h:bg w g t cs)(i:Nat):w.frozen? ⟨g,i,none⟩=false:=by unfold bg at h;simp[World.frozen?,h]
theorem bg.new(w:World)(t:TypeId)(cs:Array Value):bg (w.alloc (.cells cs t)) w.heap.size t cs:=heap_alloc_new w _
theorem bg.alloc(h:bg w g t cs)(o:Obj):bg (w.alloc o) g t cs:=(Below.heap_alloc w o g h.lt).trans h
theorem bg.ia(h:bg w g t cs)(i:Nat)(u:Value):bg (w.setCell ⟨g,i,none⟩ u) g t (cs.setIfInBounds i u):=by unfold bg at h |-;simp[World.setCell,Array.getElem?_modify,h]
theorem bg.eK(h:bg w g t cs){p:Addr}(hp:g≠p.block)(u:Value):bg (w.setCell p u) g t cs:=(Below.heap_setCell w p u g hp).trans h
theorem bg.below{B:Nat}(h:bg w g t cs)(hb:Below B w w')(hg:g<B):bg w' g t cs:=(hb.block g hg).trans h
theorem bg.grown{row:Option Nat}(h:bg w g t cs)(hb:w.grownBy w' row)(hg:some g≠row):bg w' g t cs:=(hb.block g h.lt hg).trans h
theorem bg.ne_{g':Nat}{t':TypeId}{cs':Array Value}(h:bg w g t cs)(h':bg w g' t' cs')(hne:t≠t'):g≠g':=by rintro rfl;unfold bg at h h';rw[h]at h';injection h' with h';injection h' with _ ht;exact hne ht
theorem AE{size n:Nat}{v:Value}{xs:pi}(h:w.ownsRow base e size v n xs)(hg:bg w g t cs)(hne:e≠t):v.ownBlock≠some g:=by
 rcases h.2 with⟨rfl,_⟩|⟨g',cap,cur,rfl,_,hh,_⟩
 .simp[Value.ownBlock]
 .intro he;have:g'=g:=by simpa[Value.ownBlock]using he
  subst this;exact bg.ne_ (t:=e) hh hg hne rfl
end
variable{v:Value}
theorem below_drewN{B:Nat}{a w:World}(h:Below B a w)(n:Nat):Below B a (w.drewN n):=⟨h.os,h.tape,h.output,h.size,h.block⟩
theorem Zsc{P:Program}{f:FuncId}{args:Array Value}{w:World}{a n:Nat}
  (h:Calls P f args (w.drewN (a+n)) fun e w'=>e=.returned v/\w.drewN (a+n)=w') :
  Calls P f args (w.drewN (a+n)) fun e w''=>e=.returned v/\∃m,w''=w.drewN (a+m):=
 h.mono fun _ _ ⟨he,hm⟩=>⟨he,n,hm.symm⟩
theorem amG:(Tryz.prog.info? 4).map (fun i=>(i.zero,i.size,i.bytes))=some (some (.bool false),1,1):=atP
theorem EY:(Tryz.prog.info? 3).map (fun i=>(i.zero,i.size,i.bytes))=some (some (.int .i64 0),1,8):=atP
theorem AH{w:World}{size:Nat}{n:Nat}{xs:pi}(h:w.ownsRow base e size v n xs) :
  ∃A c,v=.slice A n c/\n<=c/\c<=maxLen/\Reads w w.heap.size size A n xs:=by
 rcases h.2 with⟨rfl,rfl⟩|⟨g,cap,cur,rfl,hb,hh,hl,hm,hs,ht⟩
 .exact⟨none,0,rfl,rt _,by simp[maxLen],.Y3 h⟩
 .exact⟨_,cap,rfl,hl,hm,.Y3 h⟩
def vc(e:TypeId)(w:World)(xs:pi)(en:Ending)(w':World):Prop:=∃A c,en=.returned (.slice A xs.length c)/\xs.length<=c/\c<=maxLen/\w'.ownsRow w.heap.size e 1 (.slice A xs.length c) xs.length xs/\Below w.heap.size w w'
theorem vc.mk{w w':World}{xs:pi}{n:Nat}(hn:n=xs.length)(h:w'.ownsRow w.heap.size e 1 v n xs)(hb:Below w.heap.size w w'):vc e w xs (.returned v) w':=by subst hn;obtain⟨A,c,rfl,h1,h2,_⟩:=AH h;exact⟨A,c,rfl,h1,h2,h,hb⟩
theorem Zv2(W:World)(us:Array Value)(e:TypeId)(j:Nat)(u:Value)(h:us.toList[j]?=some u):(W.alloc (.cells us e)).cell? ((⟨W.heap.size,0,none⟩:Addr).add j)=some u:=by
 have:=(bg.new W e us).cell j;unfold Addr.add;split
 .rename_i h0;subst h0;simpa using this.trans (by simpa using h)
 .simpa using this.trans (by simpa using h)
theorem akp{k:IntKind}:∀u∈(#[Value.int k b]:Array Value).toList,u.oneCell'=true:=by intro u hu;simp at hu;subst hu;rfl
variable{rest:List Oper}{o:Oper}{a:Act}{ops:Array Oper}{Q:Exit->Act->World->Prop}
theorem am8{P:Program}(W:World)(hgd:o.guard=none)(s x:Operand)(t:TypeId)
  (ho:o.op=.call { callee:=.builtin .append,args:=#[s,x],argTypes:=#[t,t] })
  (base:Nat) (e:TypeId) (z:Value) (size bytes:Nat) (ht:P.underlying t=some (.slice e)) (hi:(P.info? e).map (fun i=>(i.zero,i.size,i.bytes))=some (some z,size,bytes))
  (hzs:z.cells.size=size) (hsz:0<size)
  (v:Value) (n:Nat) (xs:pi) (hs:a.eval s=v) (hown:W.ownsRow base e size v n xs)
  (us:Array Value) (hx:a.eval x=.slice (some ⟨W.heap.size,0,none⟩) 1 1) (hus:us.size=size) (h1:∀u∈us.toList,u.oneCell'=true)
  (hbytes:(n+1)*bytes<=140737488355328) (h63:n+1<=maxLen) (hbase:base<=W.heap.size)
  (h:∀v' w',w'.ownsRow base e size v' (n+1) (xs++us.toList)->W.grownBy w' v.ownBlock->Below base W w'->wpList P ops Q rest (a.put o.dst v') w'):wpList P ops Q (o::rest) a (W.alloc (.cells us e)):=by
 obtain⟨i0,hi0,hz0,hz1,hz2⟩:=info_parts hi;refine wpList_append_own _ hgd s x t ho base e i0 z size bytes ht hi0 hz0 hz1 hz2 hzs hsz v n xs hs (hown.alloc _) ⟨W.heap.size,0,none⟩ 1 1 us.toList hx (by simp[hus]) (Zv2 W us e) h1 h63 hbytes (by simp;omega) ?_;intro v' w' h2 h3 _;have hg:W.grownBy w' v.ownBlock:=⟨h3.os,h3.tape,h3.output,IS atQ h3.size,fun i hi hne=>(h3.block i (by simp;omega) hne).trans (Below.heap_alloc W _ i hi)⟩;refine h v' w' h2 hg ?_;refine⟨hg.os,hg.tape,hg.output,?_,fun i hi=>hg.block i atO ?_⟩
 .exact hg.size
 .intro e;have:=(hown.lt i e.symm).1;omega
theorem bg.reads{w:World}{g:Nat}{t:TypeId}{xs:pi}(h:bg w g t xs.toArray):Reads w w.heap.size 1 (some ⟨g,0,none⟩) xs.length xs:=by
 refine⟨atQ,fun _=>⟨_,rfl,h.lt,fun j u hu=>?_⟩⟩;have e:(⟨g,0,none⟩:Addr).add j=⟨g,j,none⟩:=by
  unfold Addr.add;split
  .simp
  .simp
 rw[e,h.cell j];simpa using hu
open Go.ChangeShapes Go.WideShapes Go.Deep
section
variable{H:Type}{enc:TypeId×Value->H}{P:Program}{W:World}
theorem aav{α:Type}(f:α->pi)(C:Nat)(hC:0<C)(hf:∀x,(f x).length=C):∀(l:List α) (k:Nat),(l.flatMap f)[k]?=l[k / C]?.bind fun x=>(f x)[k % C]?
 |[],k=>by simp|x::l,k=>by
  rw[AT];by_cases hk:k<C
  .rw[Pi (by rw[hf];exact hk),Nat.div_eq_of_lt hk,atJ hk];simp
  .rw[WF (by rw[hf];omega),hf,aav f C hC hf l (k-C)];have e1:k / C=(k-C) / C+1:=by rw[Nat.div_eq_sub_div hC atO]
   have e2:(k-C) % C=k % C:=by rw[<-Nat.mod_eq_sub_mod atO]
   rw[e1,e2];simp
theorem Zst{α:Type}(f:α->pi)(C:Nat)(hf:∀x,(f x).length=C)(l:List α):(l.flatMap f).length=l.length*C:=by induction l with|nil=>simp|cons x l ih=>rw[AT,bU,hf,ih,di,asN];omega
theorem aat{α:Type}{p:Nat->α->Prop}:∀n:Nat,(∀i,i<n->∃x,p i x)->∃l:List α,l.length=n/\∀i x,l[i]?=some x->p i x
 |0,_=>⟨[],rfl,fun i x h=>by simp at h⟩|n+1,h=>by
  obtain⟨l,hl,hp⟩:=aat n fun i hi=>h i atO;obtain⟨x,hx⟩:=h n atO;refine⟨l++[x],by simp[hl],fun i y hy=>?_⟩;rcases arm i n with hi|hi
  .rw[Pi atO]at hy;exact hp i y hy
  .rw[WF atO]at hy;have hi':i-l.length=0:=by
    rcases ST (i-l.length)with h0|h0
    .exact h0
    .rw[abs (by simp;omega)]at hy;cases hy
   rw[hi']at hy;simp at hy;subst hy;obtain rfl:i=n:=atO
   exact hx
end
variable{α:Type}
theorem Reads.elem{f:α->pi}{C:Nat}{w:World}{B n:Nat}{A:pm}{l:List α}(h:Reads w B C A n (l.flatMap f))(hC:0<C)(hf:∀x,(f x).length=C)(hl:l.length=n)(hk:k<n) :
  ∃b off x,A=some ⟨b,off,none⟩/\b<B/\l[k]?=some x/\∀j u,(f x)[j]?=some u->w.cell? ⟨b,off+(k*C+j),none⟩=some u:=by
 obtain⟨ad,e,hb,hc⟩:=h.2 atO;have hx:l[k]?=some (l[k]' atO):=ba atO;have key:∀j u,(f (l[k]' atO))[j]?=some u->w.cell? (ad.add (k*C+j))=some u:=fun j u hu=>by
  have hj:j<C:=by
   have:=(ut.1 hu).1
   rwa [hf]at this
  refine hc _ u ?_;rw[aav f C hC hf];have e1:(k*C+j) / C=k:=by rw[Nat.mul_comm,Nat.mul_add_div hC,Nat.div_eq_of_lt hj,asF]
  have e2:(k*C+j) % C=j:=by rw[Nat.mul_comm,Nat.mul_add_mod,atJ hj]
  rw[e1,e2,hx];exact hu
 obtain⟨b,off,spot⟩:=ad;have hs:spot=none:=by
  have h0:0<(l.flatMap f).length:=by rw[Zst f C hf,hl];exact Nat.mul_pos atO hC
  simpa[Addr.add]using World.cell?_spot (hc 0 _ (ba h0))
 subst hs;refine⟨b,off,_,e,hb,hx,fun j u hu=>?_⟩;have:=key j u hu;unfold Addr.add at this;split at this
 .rename_i h0;rw[h0];exact this
 .exact this
section
variable{P:Program}(w:World)
theorem Ztz(base:Nat)(t ty e:TypeId)(i:TypeInfo)(size:Nat)(ht:P.underlying t=some (.slice e))(hi:P.info? e=some i)
  (v:Value) (n:Nat) (xs:pi) (hown:w.ownsRow base e size v n xs) (c:Nat):(Builtin.append_ #[t,t] ty #[v,.slice none 0 c]).run P w=.ok v w:=by
 rcases hown.2 with⟨rfl,rfl⟩|⟨g,cap,cur,rfl,_,_,hnc,_⟩
 .simp[Builtin.append_,run_underlying ht,sizeOf,typeInfo,hi,Builtin.lenOf,Builtin.firstCells]
 .simp[Builtin.append_,run_underlying ht,sizeOf,typeInfo,hi,Builtin.lenOf,Builtin.firstCells,hnc,storeCells]
theorem Zxq(base:Nat)(t ty e:TypeId)(i:TypeInfo)(z:Value)(size bytes:Nat)(ht:P.underlying t=some (.slice e))(hi:P.info? e=some i)(hz:i.zero=some z)
  (hsize:i.size=size) (hby:i.bytes=bytes) (hzs:z.cells.size=size) (hsz:0<size)
  (v:Value) (n:Nat) (xs:pi) (hown:w.ownsRow base e size v n xs)
  (B:Nat) (A:pm) (m c:Nat) (news:pi) (hr:Reads w B size A m news) (h1:∀u∈news,u.oneCell'=true)
  (h63:n+m<=maxLen) (hbytes:(n+m)*bytes<=140737488355328) (hbase:base<=w.heap.size) :
  ∃v' w',(Builtin.append_ #[t,t] ty #[v,.slice A m c]).run P w=.ok v' w'/\w'.ownsRow base e size v' (n+m) (xs++news)/\w.grownBy w' v.ownBlock /\
   (v'.ownBlock=v.ownBlock\/v'.ownBlock=some w.heap.size):=by
 rcases A with _|ad
 .have hm:m=0:=by
   rcases ST m with h0|h0
   .exact h0
   .obtain⟨ad,h,_⟩:=hr.2 h0;cases h
  subst hm;have hn:news=[]:=ww (by simpa using hr.1);subst hn;exact⟨v,w,Ztz w base t ty e i size ht hi v n xs hown c,by simpa using hown,World.grownBy.refl w _,.inl rfl⟩
 .have hcells:∀j u,news[j]?=some u->w.cell? (ad.add j)=some u:=by
   intro j u hu;rcases ST m with h0|h0
   .subst h0;have hn:news=[]:=ww (by simpa using hr.1);subst hn;simp at hu
   .obtain⟨ad',h,_,hc⟩:=hr.2 h0;injection h with h;subst h;exact hc j u hu
  obtain⟨v',w',hrun,h2,h3,_,h5⟩:=run_append_own_at (P:=P) w base t ty e i z size bytes ht hi hz hsize hby hzs hsz v n xs hown ad m c news hr.1 hcells h1 h63 hbytes hbase;exact⟨v',w',hrun,h2,h3,h5⟩
theorem Zt5{K:Act->World->Prop}(s x:Operand)(t:TypeId)
  (ho:o.op=.call { callee:=.builtin .append,args:=#[s,x],argTypes:=#[t,t] })
  (base:Nat) (e:TypeId) (i:TypeInfo) (z:Value) (size bytes:Nat) (ht:P.underlying t=some (.slice e)) (hi:P.info? e=some i) (hz:i.zero=some z)
  (hsize:i.size=size) (hby:i.bytes=bytes) (hzs:z.cells.size=size) (hsz:0<size)
  (v:Value) (n:Nat) (xs:pi) (hs:a.eval s=v) (hown:w.ownsRow base e size v n xs)
  (B:Nat) (A:pm) (m c:Nat) (news:pi) (hx:a.eval x=.slice A m c) (hr:Reads w B size A m news) (h1:∀u∈news,u.oneCell'=true)
  (h63:n+m<=maxLen) (hbytes:(n+m)*bytes<=140737488355328) (hbase:base<=w.heap.size)
  (h:∀v' w',w'.ownsRow base e size v' (n+m) (xs++news)->w.grownBy w' v.ownBlock->(v'.ownBlock=v.ownBlock\/v'.ownBlock=some w.heap.size)->K (a.put o.dst v') w'):o.wp P a w K Q:=by
 obtain⟨v',w',hrun,h2,h3,h4⟩:=Zxq (P:=P) w base t o.type e i z size bytes ht hi hz hsize hby hzs hsz v n xs hown B A m c news hr h1 h63 hbytes hbase;unfold Oper.wp execOp;simp only[ho,resolve,invoke,builtin,Sem.run_bind,Sem.run_pure,Result.andThen_ok,List.map_toArray,arI,asG,hs,hx,hrun];exact h v' w' h2 h3 h4
theorem uW(hgd:o.guard=none)(s x:Operand)(t:TypeId)
  (ho:o.op=.call { callee:=.builtin .append,args:=#[s,x],argTypes:=#[t,t] })
  (base:Nat) (e:TypeId) (i:TypeInfo) (z:Value) (size bytes:Nat) (ht:P.underlying t=some (.slice e)) (hi:P.info? e=some i) (hz:i.zero=some z)
  (hsize:i.size=size) (hby:i.bytes=bytes) (hzs:z.cells.size=size) (hsz:0<size)
  (v:Value) (n:Nat) (xs:pi) (hs:a.eval s=v) (hown:w.ownsRow base e size v n xs)
  (B:Nat) (A:pm) (m c:Nat) (news:pi) (hx:a.eval x=.slice A m c) (hr:Reads w B size A m news) (h1:∀u∈news,u.oneCell'=true)
  (h63:n+m<=maxLen) (hbytes:(n+m)*bytes<=140737488355328) (hbase:base<=w.heap.size)
  (h:∀v' w',w'.ownsRow base e size v' (n+m) (xs++news)->w.grownBy w' v.ownBlock->(v'.ownBlock=v.ownBlock\/v'.ownBlock=some w.heap.size)->wpList P ops Q rest (a.put o.dst v') w'):wpList P ops Q (o::rest) a w:=
 wpList_plain hgd fun _ hK=>Zt5 w s x t ho base e i z size bytes ht hi hz hsize hby hzs hsz v n xs hs hown B A m c news hx hr h1 h63 hbytes hbase fun v' w' h2 h3 h4=>hK _ _ (h v' w' h2 h3 h4)
