import Derived.Test.YtjflbmpepamfjaaGreatKAa
import Derived.Test.YtjflbmpepamfjaaGreatRows
import Derived.WalkKit
import Derived.ProofKit
import Derived.OpenShut
import Derived.ShutString
import Derived.ChangeOld
import Derived.Below
import Derived.Laws.OwnMore
import Derived.Laws.Rows
import Derived.Deep.AppendLies
import Derived.Deep.Draws
import Derived.Deep.OwnRows
import Derived.Deep.QuietTactic
import Derived.BigQuiet
import Derived.Maps.AppendAt
import Derived.RegionTactic
import Derived.OwnWalk
import Derived.Lib.Hide
import Derived.WalkLawsBesides
import Derived.WalkSpells
import Derived.IntWalk
import Derived.Laws.IdiomStrings
import Derived.Deep.Slices
import Derived.Deep.Fields
import Derived.ChangeSame
set_option linter.all false
section
namespace Go.Proofs.YtjflbmpepamfjaaGreat
open Go.RowKit
theorem own:ownKnob Tryz.prog.godebug=none:=aGm
theorem laidOut:laidOutB Tryz.prog=true:=aGm
theorem uH{k:IntKind}{a b:Int}(h:a=b):Ending.returned (.int k a)=.returned (.int k b):=by rw[h]
theorem lG{a b:Bool}(h:a=b):Ending.returned (.bool a)=.returned (.bool b):=by rw[h]
theorem Zrl(a:Addr)(n:Nat):(a.add n).block=a.block:=by unfold Addr.add;split<;>rfl
theorem Zuk(a:Addr)(i j:Nat):(a.add i).add j=a.add (i+j):=by unfold Addr.add;by_cases hi:i=0<;>by_cases hj:j=0<;>simp[hi,hj,adc]
def Reads(w:World)(B size:Nat)(A:lc)(n:Nat)(xs:kw):Prop:=xs.length=n*size/\(0<n->∃ad,A=some ad/\ad.block<B/\∀j u,xs[j]?=some u->w.cell? (ad.add j)=some u)
section
variable{w w':World}{B B' size n:Nat}{A:lc}{xs:kw}
theorem Reads.at_{k:Nat}(h:Reads w B 1 A n xs)(hk:k<n):∃ad u,A=some ad/\ad.block<B/\xs[k]?=some u/\w.cell? (ad.add k)=some u:=by
 obtain⟨ad,e,hb,hc⟩:=h.2 aGl;have hl:k<xs.length:=by have:=h.1;omega
 exact⟨ad,xs[k],e,hb,bF hl,hc k _ (bF hl)⟩
theorem Reads.keep(h:Reads w B size A n xs)(hk:∀p:Addr,p.block<B->w'.cell? p=w.cell? p):Reads w' B size A n xs:=⟨h.1,fun hn=>by obtain⟨ad,e,hb,hc⟩:=h.2 hn;exact⟨ad,e,hb,fun j u hu=>(hk _ (by rw[Zrl];exact hb)).trans (hc j u hu)⟩⟩
theorem Reads.more(h:Reads w B size A n xs)(hB:B<=B'):Reads w B' size A n xs:=⟨h.1,fun hn=>by obtain⟨ad,e,hb,hc⟩:=h.2 hn;exact⟨ad,e,aGl,hc⟩⟩
theorem Reads.below(h:Reads w B size A n xs)(hb:Below B w w'):Reads w' B size A n xs:=h.keep fun _ hp=>hb.cell hp
theorem Reads.drew(h:Reads w B size A n xs):Reads w.drew B size A n xs:=h
theorem Reads.alloc(h:Reads w B size A n xs)(hB:B<=w.heap.size)(o:Obj):Reads (w.alloc o) B size A n xs:=h.keep fun p hp=>World.cell?_alloc_lt w o p aGl
theorem Reads.take(h:Reads w B 1 A n xs){k:Nat}(hk:k<=n):Reads w B 1 A k (xs.take k):=by
 refine⟨by rw[fD,h.1];omega,fun hn=>?_⟩;obtain⟨ad,e,hb,hc⟩:=h.2 aGl;refine⟨ad,e,hb,fun j u hu=>hc j u ?_⟩;rw[aFv]at hu;split at hu
 .exact hu
 .cases hu
theorem Reads.j5{base:Nat}{e:TypeId}{c:Nat}(h:w.ownsRow base e size (.slice A n c) n xs):Reads w w.heap.size size A n xs:=by
 refine⟨h.1,fun hn=>?_⟩;obtain⟨g,cap,hv,_,hlt⟩:=h.form hn;have hA:A=some ⟨g,0,none⟩:=by injection hv
 subst hA;exact⟨_,rfl,hlt,h.cells (g:=g) rfl⟩
end
variable{k:Nat}{base:Nat}{e:TypeId}
theorem GY(kd:IntKind)(l:io)(k:Nat)(hk:k<l.length):(l.map (Value.int kd))[k]?=some (.int kd (l.getD k 0)):=by rw[dO,bF hk,fq,bF hk];rfl
theorem Reads.oU{kd:IntKind}{w:World}{B n:Nat}{A:lc}{l:io}(h:Reads w B 1 A n (l.map (Value.int kd)))(hk:k<n) :
  ∃b off,A=some ⟨b,off,none⟩/\b<B/\w.cell? ⟨b,off+k,none⟩=some (.int kd (l.getD k 0)):=by
 have hl:n=l.length:=by have:=h.1;simpa using this.symm
 obtain⟨ad,u,e,hb,hx,hc⟩:=h.at_ hk;rw[GY kd l k aGl]at hx;injection hx with hx;subst hx;obtain⟨b,off,spot⟩:=ad;have h0:=h.2 aGl;obtain⟨ad',e',_,hc'⟩:=h0;rw[e]at e';injection e' with e';subst e';have h00:=hc' 0 _ (GY kd l 0 aGl);have hs:spot=none:=by simpa[Addr.add]using World.cell?_spot h00
 subst hs;exact⟨b,off,e,hb,by
  unfold Addr.add at hc;split at hc
  .rename_i h0;subst h0;exact hc
  .exact hc⟩
def af(w:World)(g:Nat)(t:TypeId)(cs:Array Value):Prop:=w.heap[g]?=some (.cells cs t (0,0))
section
variable{w w':World}{g:Nat}{t:TypeId}{cs:Array Value}
theorem af.lt(h:af w g t cs):g<w.heap.size:=by
 rcases ww g w.heap.size with hlt|hge
 .exact hlt
 .unfold af at h;rw[arC hge]at h;cases h
theorem af.cell(h:af w g t cs)(i:Nat):w.cell? ⟨g,i,none⟩=cs[i]?:=cell_of_row w g i cs t (0,0) h
theorem af.frozen(h:af w g t cs)(i:Nat):w.frozen? ⟨g,i,none⟩=false:=by unfold af at h;simp[World.frozen?,h]
theorem af.new(w:World)(t:TypeId)(cs:Array Value):af (w.alloc (.cells cs t)) w.heap.size t cs:=heap_alloc_new w _
theorem af.drew(h:af w g t cs):af w.drew g t cs:=h
theorem af.drewN(h:af w g t cs)(n:Nat):af (w.drewN n) g t cs:=h
theorem af.alloc(h:af w g t cs)(o:Obj):af (w.alloc o) g t cs:=(Below.heap_alloc w o g h.lt).trans h
theorem af.dL(h:af w g t cs)(i:Nat)(u:Value):af (w.setCell ⟨g,i,none⟩ u) g t (cs.setIfInBounds i u):=by unfold af at h |-;simp[World.setCell,aFM,h]
theorem af.dz(h:af w g t cs){p:Addr}(hp:g≠p.block)(u:Value):af (w.setCell p u) g t cs:=(Below.heap_setCell w p u g hp).trans h
theorem af.below{B:Nat}(h:af w g t cs)(hb:Below B w w')(hg:g<B):af w' g t cs:=(hb.block g hg).trans h
theorem af.grown{row:Option Nat}(h:af w g t cs)(hb:w.grownBy w' row)(hg:some g≠row):af w' g t cs:=(hb.block g h.lt hg).trans h
theorem af.ku{g':Nat}{t':TypeId}{cs':Array Value}(h:af w g t cs)(h':af w g' t' cs')(hne:t≠t'):g≠g':=by rintro rfl;unfold af at h h';rw[h]at h';injection h' with h';injection h' with _ ht;exact hne ht
theorem dZ{size n:Nat}{v:Value}{xs:kw}(h:w.ownsRow base e size v n xs)(hg:af w g t cs)(hne:e≠t):v.ownBlock≠some g:=by
 rcases h.2 with⟨rfl,_⟩|⟨g',cap,cur,rfl,_,hh,_⟩
 .simp[Value.ownBlock]
 .intro he;have:g'=g:=by simpa[Value.ownBlock]using he
  subst this;exact af.ku (t:=e) hh hg hne rfl
end
variable{v:Value}
theorem below_drewN{B:Nat}{a w:World}(h:Below B a w)(n:Nat):Below B a (w.drewN n):=⟨h.os,h.tape,h.output,h.size,h.block⟩
variable{args:Array Value}{f:FuncId}
theorem Np{P:Program}{w:World}{a n:Nat}
  (h:Calls P f args (w.drewN (a+n)) fun e w'=>e=.returned v/\w.drewN (a+n)=w') :
  Calls P f args (w.drewN (a+n)) fun e w''=>e=.returned v/\∃m,w''=w.drewN (a+m):=
 h.mono fun _ _ ⟨he,hm⟩=>⟨he,n,hm.symm⟩
theorem kO{P:Program}{w:World}{n:Nat}
  (h:Calls P f args (w.drewN n) fun e w'=>e=.returned v/\w.drewN n=w'):Calls P f args (w.drewN n) fun e w''=>e=.returned v/\∃m,w''=w.drewN m:=
 h.mono fun _ _ ⟨he,hm⟩=>⟨he,n,hm.symm⟩
theorem arI:(Tryz.prog.info? 4).map (fun i=>(i.zero,i.size,i.bytes))=some (some (.bool false),1,1):=aGm
theorem ka:(Tryz.prog.info? 3).map (fun i=>(i.zero,i.size,i.bytes))=some (some (.int .i64 0),1,8):=aGm
theorem eo{w:World}{size:Nat}{n:Nat}{xs:kw}(h:w.ownsRow base e size v n xs) :
  ∃A c,v=.slice A n c/\n<=c/\c<=maxLen/\Reads w w.heap.size size A n xs:=by
 rcases h.2 with⟨rfl,rfl⟩|⟨g,cap,cur,rfl,hb,hh,hl,hm,hs,ht⟩
 .exact⟨none,0,rfl,pi _,by simp[maxLen],.j5 h⟩
 .exact⟨_,cap,rfl,hl,hm,.j5 h⟩
def DS(e:TypeId)(w:World)(xs:kw)(en:Ending)(w':World):Prop:=∃A c,en=.returned (.slice A xs.length c)/\xs.length<=c/\c<=maxLen/\w'.ownsRow w.heap.size e 1 (.slice A xs.length c) xs.length xs/\Below w.heap.size w w'
theorem DS.mk{w w':World}{xs:kw}{n:Nat}(hn:n=xs.length)(h:w'.ownsRow w.heap.size e 1 v n xs)(hb:Below w.heap.size w w'):DS e w xs (.returned v) w':=by subst hn;obtain⟨A,c,rfl,h1,h2,_⟩:=eo h;exact⟨A,c,rfl,h1,h2,h,hb⟩
variable{ops:Array Oper}{a:Act}{Q:Exit->Act->World->Prop}{o:Oper}{rest:List Oper}
theorem Zw0{P:Program}(w:World)
  (hg:o.guard=none) (l c:Operand) (t:TypeId) (hop:o.op=Op.makeSlice t l c) (e:TypeId) (z:Value) (bytes:Nat) (ht:P.underlying t=some (.slice e))
  (hi:(P.info? e).map (fun i=>(i.zero,i.size,i.bytes))=some (some z,1,bytes)) (hzc:z.cells=#[z])
  (kl kc:IntKind) (L C:Int) (n:Nat) (hl:a.eval l=.int kl L) (hc:a.eval c=.int kc C) (hL:L=(n:Int)) (hC:C=(n:Int)) (b2:bytes*n<=281474976710656) (b3:n<=9223372036854775807)
  (hK:∀w1,af w1 w.heap.size e (List.replicate n z).toArray->Below w.heap.size w w1->w1.heap.size=w.heap.size+1->wpList P ops Q rest (a.put o.dst (.slice (some ⟨w.heap.size,0,none⟩) n n)) w1) :
  wpList P ops Q (o::rest) a w:=by
 obtain⟨i0,hi0,hz0,hz1,hz2⟩:=info_parts hi;refine wpList_plain hg fun K hK'=>?_;have hb:(i0.bytes:Int)*(n:Int)<=281474976710656:=by
  have h:((i0.bytes*n:Nat):Int)<=281474976710656:=by rw[hz2];omega
  rwa [Int.natCast_mul]at h
 have hr:=run_make (P:=P) w t e i0 z ht hi0 hz0 kl kc n n aGl (Int.le_refl _) hb aGl;simp only[Id]at hr;subst hL;subst hC;unfold Oper.wp;simp[execOp,hop,hl,hc,hr,Result.andThen];refine hK' _ _ (hK _ ?_ ((Below.refl _ _).alloc (pi _) _) aGn);rw[hz1,hzc,Nat.mul_one];have:madeCells #[z] n=(List.replicate n z).toArray:=by apply Rd.1;rw[toList_madeCells_one]
 rw[this];exact af.new _ _ _
def rB(l:List UInt8):kw:=l.map fun b=>Value.int .u8 (b.toNat:Int)
theorem ah7(l:List UInt8)(j:Nat)(hj:j<l.length):(rB l)[j]?=some (.int .u8 (l[j].toNat:Int)):=by simp[rB,hj]
theorem ad8{P:Program}(w:World)(src dst e:TypeId)(A:lc)(n c B:Nat)(bs:List UInt8)(hR:Reads w B 1 A n (rB bs))
  (hs:P.underlying src=some (.slice e)) (he:P.underlying e=some (.int .u8)) (hd:P.underlying dst=some .string) :
  (convert src dst (.slice A n c)).run P w=.ok (.string ⟨bs.toArray⟩) w:=by
 have hn:n=bs.length:=by have:=hR.1;simpa[rB]using this.symm
 subst hn;rcases A with _|ad
 .have h0:bs=[]:=by
   rcases If bs.length with h|h
   .exact ut h
   .obtain⟨ad,h,_⟩:=hR.2 h;cases h
  subst h0;rw[run_convert_bytes_string w src dst e _ _ c hs he hd];simp[Conv.bytesToString];rfl
 .refine run_convert_bytes_back w src dst e ad c bs hs he hd fun j hj=>?_;obtain⟨ad',e',_,hc⟩:=hR.2 aGl;injection e' with e'
  subst e';exact hc j _ (ah7 bs j hj)
theorem af.reads{w:World}{g:Nat}{t:TypeId}{xs:kw}(h:af w g t xs.toArray):Reads w w.heap.size 1 (some ⟨g,0,none⟩) xs.length xs:=by
 refine⟨aGn,fun _=>⟨_,rfl,h.lt,fun j u hu=>?_⟩⟩;have e:(⟨g,0,none⟩:Addr).add j=⟨g,j,none⟩:=by
  unfold Addr.add;split
  .simp
  .simp
 rw[e,h.cell j];simpa using hu
theorem agl:(Tryz.prog.info? 5).map (fun i=>(i.zero,i.size,i.bytes))=some (some (.int .u8 0),1,1):=aGm
open Go.ChangeShapes Go.WideShapes Go.Deep
section
variable{H:Type}{enc:TypeId×Value->H}{P:Program}{W:World}
theorem Vm{α:Type}(f:α->kw)(C:Nat)(hC:0<C)(hf:∀x,(f x).length=C):∀(l:List α) (k:Nat),(l.flatMap f)[k]?=l[k / C]?.bind fun x=>(f x)[k % C]?
 |[],k=>by simp|x::l,k=>by
  rw[Fn];by_cases hk:k<C
  .rw[Fr (by rw[hf];exact hk),Nat.div_eq_of_lt hk,aFJ hk];simp
  .rw[IO (by rw[hf];omega),hf,Vm f C hC hf l (k-C)];have e1:k / C=(k-C) / C+1:=by rw[Nat.div_eq_sub_div hC aGl]
   have e2:(k-C) % C=k % C:=by rw[<-aFY aGl]
   rw[e1,e2];simp
theorem Zst{α:Type}(f:α->kw)(C:Nat)(hf:∀x,(f x).length=C)(l:List α):(l.flatMap f).length=l.length*C:=by induction l with|nil=>simp|cons x l ih=>rw[Fn,aO,hf,ih,cF,Nat.succ_mul];omega
theorem Vk{α:Type}{p:Nat->α->Prop}:∀n:Nat,(∀i,i<n->∃x,p i x)->∃l:List α,l.length=n/\∀i x,l[i]?=some x->p i x
 |0,_=>⟨[],rfl,fun i x h=>by simp at h⟩|n+1,h=>by
  obtain⟨l,hl,hp⟩:=Vk n fun i hi=>h i aGl;obtain⟨x,hx⟩:=h n aGl;refine⟨l++[x],by simp[hl],fun i y hy=>?_⟩;rcases ww i n with hi|hi
  .rw[Fr aGl]at hy;exact hp i y hy
  .rw[IO aGl]at hy;have hi':i-l.length=0:=by
    rcases If (i-l.length)with h0|h0
    .exact h0
    .rw[BT (by simp;omega)]at hy;cases hy
   rw[hi']at hy;simp at hy;subst hy;obtain rfl:i=n:=aGl
   exact hx
end
variable{α:Type}
theorem Reads.elem{f:α->kw}{C:Nat}{w:World}{B n:Nat}{A:lc}{l:List α}(h:Reads w B C A n (l.flatMap f))(hC:0<C)(hf:∀x,(f x).length=C)(hl:l.length=n)(hk:k<n) :
  ∃b off x,A=some ⟨b,off,none⟩/\b<B/\l[k]?=some x/\∀j u,(f x)[j]?=some u->w.cell? ⟨b,off+(k*C+j),none⟩=some u:=by
 obtain⟨ad,e,hb,hc⟩:=h.2 aGl;have hx:l[k]?=some (l[k]' aGl):=bF aGl;have key:∀j u,(f (l[k]' aGl))[j]?=some u->w.cell? (ad.add (k*C+j))=some u:=fun j u hu=>by
  have hj:j<C:=by
   have:=(AC.1 hu).1
   rwa [hf]at this
  refine hc _ u ?_;rw[Vm f C hC hf];have e1:(k*C+j) / C=k:=by rw[Nat.mul_comm,Nat.mul_add_div hC,Nat.div_eq_of_lt hj,aux]
  have e2:(k*C+j) % C=j:=by rw[Nat.mul_comm,Nat.mul_add_mod,aFJ hj]
  rw[e1,e2,hx];exact hu
 obtain⟨b,off,spot⟩:=ad;have hs:spot=none:=by
  have h0:0<(l.flatMap f).length:=by rw[Zst f C hf,hl];exact Nat.mul_pos aGl hC
  simpa[Addr.add]using World.cell?_spot (hc 0 _ (bF h0))
 subst hs;refine⟨b,off,_,e,hb,hx,fun j u hu=>?_⟩;have:=key j u hu;unfold Addr.add at this;split at this
 .rename_i h0;rw[h0];exact this
 .exact this
section
variable{P:Program}(w:World)
theorem Ztz(base:Nat)(t ty e:TypeId)(i:TypeInfo)(size:Nat)(ht:P.underlying t=some (.slice e))(hi:P.info? e=some i)
  (v:Value) (n:Nat) (xs:kw) (hown:w.ownsRow base e size v n xs) (c:Nat):(Builtin.append_ #[t,t] ty #[v,.slice none 0 c]).run P w=.ok v w:=by
 rcases hown.2 with⟨rfl,rfl⟩|⟨g,cap,cur,rfl,_,_,hnc,_⟩
 .simp[Builtin.append_,run_underlying ht,sizeOf,typeInfo,hi,Builtin.lenOf,Builtin.firstCells]
 .simp[Builtin.append_,run_underlying ht,sizeOf,typeInfo,hi,Builtin.lenOf,Builtin.firstCells,hnc,storeCells]
theorem Zxq(base:Nat)(t ty e:TypeId)(i:TypeInfo)(z:Value)(size bytes:Nat)(ht:P.underlying t=some (.slice e))(hi:P.info? e=some i)(hz:i.zero=some z)
  (hsize:i.size=size) (hby:i.bytes=bytes) (hzs:z.cells.size=size) (hsz:0<size)
  (v:Value) (n:Nat) (xs:kw) (hown:w.ownsRow base e size v n xs)
  (B:Nat) (A:lc) (m c:Nat) (news:kw) (hr:Reads w B size A m news) (h1:∀u∈news,u.oneCell'=true)
  (h63:n+m<=maxLen) (hbytes:(n+m)*bytes<=140737488355328) (hbase:base<=w.heap.size) :
  ∃v' w',(Builtin.append_ #[t,t] ty #[v,.slice A m c]).run P w=.ok v' w'/\w'.ownsRow base e size v' (n+m) (xs++news)/\w.grownBy w' v.ownBlock /\
   (v'.ownBlock=v.ownBlock\/v'.ownBlock=some w.heap.size):=by
 rcases A with _|ad
 .have hm:m=0:=by
   rcases If m with h0|h0
   .exact h0
   .obtain⟨ad,h,_⟩:=hr.2 h0;cases h
  subst hm;have hn:news=[]:=ut (by simpa using hr.1);subst hn;exact⟨v,w,Ztz w base t ty e i size ht hi v n xs hown c,by simpa using hown,World.grownBy.refl w _,.inl rfl⟩
 .have hcells:∀j u,news[j]?=some u->w.cell? (ad.add j)=some u:=by
   intro j u hu;rcases If m with h0|h0
   .subst h0;have hn:news=[]:=ut (by simpa using hr.1);subst hn;simp at hu
   .obtain⟨ad',h,_,hc⟩:=hr.2 h0;injection h with h;subst h;exact hc j u hu
  obtain⟨v',w',hrun,h2,h3,_,h5⟩:=run_append_own_at (P:=P) w base t ty e i z size bytes ht hi hz hsize hby hzs hsz v n xs hown ad m c news hr.1 hcells h1 h63 hbytes hbase;exact⟨v',w',hrun,h2,h3,h5⟩
variable{K:Act->World->Prop}
theorem Zt5(s x:Operand)(t:TypeId)
  (ho:o.op=.call { callee:=.builtin .append,args:=#[s,x],argTypes:=#[t,t] })
  (base:Nat) (e:TypeId) (i:TypeInfo) (z:Value) (size bytes:Nat) (ht:P.underlying t=some (.slice e)) (hi:P.info? e=some i) (hz:i.zero=some z)
  (hsize:i.size=size) (hby:i.bytes=bytes) (hzs:z.cells.size=size) (hsz:0<size)
  (v:Value) (n:Nat) (xs:kw) (hs:a.eval s=v) (hown:w.ownsRow base e size v n xs)
  (B:Nat) (A:lc) (m c:Nat) (news:kw) (hx:a.eval x=.slice A m c) (hr:Reads w B size A m news) (h1:∀u∈news,u.oneCell'=true)
  (h63:n+m<=maxLen) (hbytes:(n+m)*bytes<=140737488355328) (hbase:base<=w.heap.size)
  (h:∀v' w',w'.ownsRow base e size v' (n+m) (xs++news)->w.grownBy w' v.ownBlock->(v'.ownBlock=v.ownBlock\/v'.ownBlock=some w.heap.size)->K (a.put o.dst v') w'):o.wp P a w K Q:=by
 obtain⟨v',w',hrun,h2,h3,h4⟩:=Zxq (P:=P) w base t o.type e i z size bytes ht hi hz hsize hby hzs hsz v n xs hown B A m c news hr h1 h63 hbytes hbase;unfold Oper.wp execOp;simp only[ho,resolve,invoke,builtin,Sem.run_bind,Sem.run_pure,Result.andThen_ok,List.map_toArray,IS,aFi,hs,hx,hrun];exact h v' w' h2 h3 h4
theorem xN(hgd:o.guard=none)(s x:Operand)(t:TypeId)
  (ho:o.op=.call { callee:=.builtin .append,args:=#[s,x],argTypes:=#[t,t] })
  (base:Nat) (e:TypeId) (i:TypeInfo) (z:Value) (size bytes:Nat) (ht:P.underlying t=some (.slice e)) (hi:P.info? e=some i) (hz:i.zero=some z)
  (hsize:i.size=size) (hby:i.bytes=bytes) (hzs:z.cells.size=size) (hsz:0<size)
  (v:Value) (n:Nat) (xs:kw) (hs:a.eval s=v) (hown:w.ownsRow base e size v n xs)
  (B:Nat) (A:lc) (m c:Nat) (news:kw) (hx:a.eval x=.slice A m c) (hr:Reads w B size A m news) (h1:∀u∈news,u.oneCell'=true)
  (h63:n+m<=maxLen) (hbytes:(n+m)*bytes<=140737488355328) (hbase:base<=w.heap.size)
  (h:∀v' w',w'.ownsRow base e size v' (n+m) (xs++news)->w.grownBy w' v.ownBlock->(v'.ownBlock=v.ownBlock\/v'.ownBlock=some w.heap.size)->wpList P ops Q rest (a.put o.dst v') w'):wpList P ops Q (o::rest) a w:=
 wpList_plain hgd fun _ hK=>Zt5 w s x t ho base e i z size bytes ht hi hz hsize hby hzs hsz v n xs hs hown B A m c news hx hr h1 h63 hbytes hbase fun v' w' h2 h3 h4=>hK _ _ (h v' w' h2 h3 h4)
theorem Zwa{E:Prop}(hgd:o.guard=none)(s x:Operand)(t:TypeId)
  (ho:o.op=.call { callee:=.builtin .append,args:=#[s,x],argTypes:=#[t,t] })
  (base:Nat) (e:TypeId) (i:TypeInfo) (z:Value) (size bytes:Nat) (ht:P.underlying t=some (.slice e)) (hi:P.info? e=some i) (hz:i.zero=some z)
  (hsize:i.size=size) (hby:i.bytes=bytes) (hzs:z.cells.size=size) (hsz:0<size)
  (v:Value) (n:Nat) (xs:kw) (hs:a.eval s=v) (hown:w.ownsRow base e size v n xs)
  (B:Nat) (A:lc) (m c:Nat) (news:kw) (hx:a.eval x=.slice A m c) (hr:Reads w B size A m news) (h1:∀u∈news,u.oneCell'=true)
  (h63:n+m<=maxLen) (hbytes:(n+m)*bytes<=140737488355328) (hbase:base<=w.heap.size)
  (h:∀v' w',w'.ownsRow base e size v' (n+m) (xs++news)->w.grownBy w' v.ownBlock->(v'.ownBlock=v.ownBlock\/v'.ownBlock=some w.heap.size)->K (a.put o.dst v') w') :
  if Region.wanted o (yielded ops a.tmps)=true then Oper.wp P o a w K Q else E:=by
 have hw:Region.wanted o (yielded ops a.tmps)=true:=by simp[Region.wanted,hgd]
 rw[BY hw];exact Zt5 w s x t ho base e i z size bytes ht hi hz hsize hby hzs hsz v n xs hs hown B A m c news hx hr h1 h63 hbytes hbase h
