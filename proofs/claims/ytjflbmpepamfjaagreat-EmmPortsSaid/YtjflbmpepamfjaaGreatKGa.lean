import Derived.Test.YtjflbmpepamfjaaGreatKBs
set_option linter.all false
section
namespace Go.Proofs.YtjflbmpepamfjaaGreat
namespace Pl
def at_(l:io)(i:Nat):Int:=l.getD i 0
theorem Qm(l:io)(i j:Nat)(x:Int):at_ (l.set i x) j=if i=j/\j<l.length then x else at_ l j:=by
 unfold at_;rw[fq,aFO,fq];by_cases h:i=j
 .subst h;by_cases h2:i<l.length
  .simp[h2]
  .simp[h2]
 .simp[h]
end Pl
open Go Go.RowKit Pl
def mV(l:io):kw:=l.map (Value.int .i64)
theorem agi(l:io)(i:Nat)(h:i<l.length):(mV l)[i]?=some (.int .i64 (at_ l i)):=by unfold mV at_;rw[dO,bF h,fq,bF h];rfl
theorem PW(l:io)(i:Nat)(x:Int):(mV l).set i (.int .i64 x)=mV (l.set i x):=by simp[mV,List.map_set]
variable{v:Value}{u:Value}{p:Addr}{xs:kw}{n:Nat}{e:TypeId}
theorem jR{w:World}{base:Nat}(h:w.ownsRow base e 1 v n xs)(hne:v.ownBlock≠some p.block):(w.setCell p u).ownsRow base e 1 v n xs:=by refine h.kept (row:=some p.block) ?_ (.inr hne);exact⟨rfl,rfl,rfl,by simp[World.setCell],fun i hi hn=>Below.heap_setCell w p u i (fun e=>hn (by rw[e]))⟩
def pf(n:Nat):io:=List.replicate n 0
theorem aeK(n:Nat):(pf n).length=n:=by simp[pf]
theorem afK(n i:Nat):at_ (pf n) i=0:=by unfold at_ pf;rw[fq,aFG];split<;>rfl
theorem PO(a:Nat)(ha:a<9223372036854775808):(BitVec.ofInt 64 (a:Int)).toNat=a:=by rw[BitVec.ofInt_natCast,BitVec.toNat_ofNat];exact aFJ aGl
theorem aeg(a b:Nat)(ha:a<9223372036854775808)(hb:b<9223372036854775808):bits .and .i64 (a:Int) (b:Int)=((a &&& b:Nat):Int):=by have hx:a &&& b<2^63:=Nat.and_lt_two_pow _ aGl;show IntKind.i64.wrap ((BitVec.ofInt 64 (a:Int) &&& BitVec.ofInt 64 (b:Int)).toNat:Int)=_;rw[BitVec.toNat_and,PO a ha,PO b hb,IntKind.wrap_i64];omega
theorem aeh(x:Int)(h:0<=x)(h':x<=9223372036854775807):bits .and .i64 x 1=x % 2:=by obtain⟨n,rfl⟩:=Fd h;rw[show(1:Int)=((1:Nat):Int) by rfl,aeg n 1 aGl aGl,Nat.and_one_is_mod];omega
theorem Qh(x:Int)(w:World)(h:0<=x)(h':x<=9223372036854775807):Calls Tryz.prog 74 #[.int .i64 x] w fun e w'=>e=.returned (.int .i64 (x / 2))/\w=w':=by
 go_enter Tryz.func74,Tryz.ntmps74
 go_wp2
 go_ret
 exact⟨rfl,rfl⟩
theorem agw(x:Int)(w:World)(h:0<=x)(h':x<=9223372036854775807):Calls Tryz.prog 75 #[.int .i64 x] w fun e w'=>e=.returned (.bool (x % 2 == 1))/\w=w':=by
 go_enter Tryz.func75,Tryz.ntmps75
 go_wp2
 go_ret
 exact⟨by rw[aeh x h h'];rfl,rfl⟩
open Go.RowKit Pl
def nT(V:Nat)(fs:List (Nat×io)):kw:=fs.map fun f=>Value.slice (some ⟨f.1,0,none⟩) (V+1) (V+1)
structure Tb(w:World)(base V g:Nat)(lv:Value)(fs:List (Nat×io)):Prop where
 hd:af w g 126 #[.int .i64 V,lv]
 own:w.ownsRow base 22 1 lv fs.length (nT V fs)
 fr:∀(i:Nat) (f:Nat×io),fs[i]?=some f->af w f.1 3 (mV f.2).toArray/\f.2.length=V+1/\base<=f.1/\∀v,-65536<=at_ f.2 v/\at_ f.2 v<=65536
 inj:∀(i j:Nat) (f f':Nat×io),fs[i]?=some f->fs[j]?=some f'->f.1=f'.1->i=j
 bg:base<=g
 hv:V<=2000
 ll:fs.length<=1000000
section
variable{w w':World}{base V g:Nat}{lv:Value}{fs:List (Nat×io)}
theorem Tb.c0(h:Tb w base V g lv fs):w.cell? ⟨g,0,none⟩=some (.int .i64 V):=by simpa using h.hd.cell 0
theorem Tb.c1(h:Tb w base V g lv fs):w.cell? ⟨g,1,none⟩=some lv:=by simpa using h.hd.cell 1
theorem Tb.slc(h:Tb w base V g lv fs):∃A c,lv=.slice A fs.length c/\fs.length<=c/\c<=maxLen:=by obtain⟨A,c,e,h1,h2,_⟩:=eo h.own;exact⟨A,c,e,h1,h2⟩
theorem Tb.Zk(h:Tb w base V g lv fs){i:Nat}(hi:i<fs.length):∃gl c f,lv=.slice (some ⟨gl,0,none⟩) fs.length c/\fs.length<=c/\fs[i]?=some f/\gl≠f.1/\gl≠g/\f.1≠g /\
  w.cell? ⟨gl,i,none⟩=some (.slice (some ⟨f.1,0,none⟩) (V+1) (V+1))/\∀v,v<=V->w.cell? ⟨f.1,v,none⟩=some (.int .i64 (at_ f.2 v))/\w.frozen? ⟨f.1,v,none⟩=false:=by
 rcases h.own.2 with⟨_,h0⟩|⟨gl,cap,cur,rfl,hb,hh,hl,hm,hs,ht⟩
 .omega
 .have hB:af w gl 22 cur:=hh;have hf:fs[i]?=some fs[i]:=bF hi;obtain⟨b1,b2,b3,b4⟩:=h.fr i _ hf;refine⟨gl,cap,fs[i],rfl,hl,hf,hB.ku b1 aGo,hB.ku h.hd aGo,b1.ku h.hd aGo,?_,fun v hv=>⟨?_,b1.frozen v⟩⟩
  .rw[hB.cell i];have h1:(nT V fs)[i]?=some (.slice (some ⟨fs[i].1,0,none⟩) (V+1) (V+1)):=by unfold nT;rw[dO,hf];rfl
   rw[<-ht]at h1;rw[aFv,BY aGl]at h1;simpa using h1
  .rw[b1.cell v];simpa using agi fs[i].2 v aGl
theorem Tb.drewN(h:Tb w base V g lv fs)(q:Nat):Tb (w.drewN q) base V g lv fs:=⟨h.hd,h.own,h.fr,h.inj,h.bg,h.hv,h.ll⟩
theorem Tb.aiW{i v:Nat}{f:Nat×io}{x:Int}(h:Tb w base V g lv fs)(hf:fs[i]?=some f)(hv:v<=V)(hx:-65536<=x)(hx':x<=65536) :
  Tb (w.setCell ⟨f.1,v,none⟩ (.int .i64 x)) base V g lv (fs.set i (f.1,f.2.set v x)):=by
 obtain⟨b1,b2,b3,b4⟩:=h.fr i f hf;have hil:i<fs.length:=(AC.1 hf).1;have hne:g≠f.1:=h.hd.ku b1 aGo;have hno:lv.ownBlock≠some f.1:=dZ h.own b1 aGo;have key:∀j f',(fs.set i (f.1,f.2.set v x))[j]?=some f'->(j=i/\f'=(f.1,f.2.set v x))\/(j≠i/\fs[j]?=some f'):=fun j f' hj=>by
  rw[aFO]at hj;by_cases e:i=j
  .subst e;rw[BY rfl,BY hil]at hj;injection hj with hj;exact .inl ⟨rfl,hj.symm⟩
  .rw[rx e]at hj;exact .inr ⟨fun e'=>e e'.symm,hj⟩
 refine⟨h.hd.dz hne _,?_,fun j f' hj=>?_,fun j k f1 f2 h1 h2 e=>?_,h.bg,h.hv,by simpa using h.ll⟩
 .have ev:nT V (fs.set i (f.1,f.2.set v x))=nT V fs:=by
   unfold nT;apply aig;intro k;rw[dO,dO,aFO];by_cases e:i=k
   .subst e;rw[BY rfl,BY hil,hf];rfl
   .rw[rx e]
  rw[ev,aFB];exact jR h.own hno
 .rcases key j f' hj with⟨_,rfl⟩|⟨hji,hj'⟩
  .refine⟨?_,by simpa using b2,b3,fun u=>?_⟩
   .have:=b1.dL v (.int .i64 x)
    rwa [aFQ,PW]at this
   .rw[Qm];split
    .exact⟨hx,hx'⟩
    .exact b4 u
  .obtain⟨c1,c2,c3,c4⟩:=h.fr j f' hj';exact⟨c1.dz (fun e=>hji (h.inj j i f' f hj' hf e)) _,c2,c3,c4⟩
 .rcases key j f1 h1 with⟨rfl,rfl⟩|⟨h3,h4⟩<;>rcases key k f2 h2 with⟨rfl,rfl⟩|⟨h5,h6⟩
  .rfl
  .exact h.inj _ _ _ _ hf h6 e
  .exact h.inj _ _ _ _ h4 hf e
  .exact h.inj _ _ _ _ h4 h6 e
end
def TS(w:World)(base V g:Nat)(frames:List io):Prop:=∃(lv:Value) (fs:List (Nat×io)),Tb w base V g lv fs/\fs.map (·.2)=frames
variable{frames:List io}
theorem TS.drewN{w:World}{base V g:Nat}(h:TS w base V g frames)(q:Nat):TS (w.drewN q) base V g frames:=by obtain⟨lv,fs,h,e⟩:=h;exact⟨lv,fs,h.drewN q,e⟩
theorem lO{w:World}{base V g:Nat}(h:TS w base V g frames) :
  Calls Tryz.prog 73 #[.pointer (some ⟨g,0,none⟩)] w fun e w'=>e=.returned (.int .i64 (frames.length:Nat))/\w=w':=by
 obtain⟨lv,fs,h,rfl⟩:=h;rw[aR];have c1:=h.c1;have hl:=h.ll;obtain⟨A,c,rfl,_,_⟩:=h.slc;clear h
 go_enter Tryz.func73,Tryz.ntmps73
 go_wp2
 go_ret
 exact⟨rfl,rfl⟩
def FK(w:World)(V:Nat)(e:Ending)(w':World):Prop:=∃g,e=.returned (.pointer (some ⟨g,0,none⟩))/\TS w' w.heap.size V g []/\Below w.heap.size w w'
theorem aeb(V:Nat)(w:World)(hV:V<=2000):Calls Tryz.prog 28 #[.int .i64 V] w (FK w V):=by
 go_enter Tryz.func28,Tryz.ntmps28
 go_wp2
 go_ret
 exact⟨w.heap.size,rfl,⟨.slice none 0 0,[],⟨af.new _ _ _,World.ownsRow_nil _ _ _ _,fun i f h=>by simp at h,fun i j f f' h=>by simp at h,pi _,hV,aGn⟩,rfl⟩,(Below.refl _ _).alloc (pi _) _⟩
theorem aeB:(Tryz.prog.info? 22).map (fun i=>(i.zero,i.size,i.bytes))=some (some (.slice none 0 0),1,24):=aGm
theorem ad7{P:Program}(W:World){ops:Array Oper}{rest:List Oper}{o:Oper}{a:Act}{Q:Exit->Act->World->Prop}(hgd:o.guard=none)(s x:Operand)(t:TypeId)
  (ho:o.op=.call { callee:=.builtin .append,args:=#[s,x],argTypes:=#[t,t] })
  (base:Nat) (e:TypeId) (z:Value) (bytes:Nat) (ht:P.underlying t=some (.slice e)) (hi:(P.info? e).map (fun i=>(i.zero,i.size,i.bytes))=some (some z,1,bytes)) (hz:z.cells.size=1)
  (v:Value) (n:Nat) (xs:kw) (hs:a.eval s=v) (hown:W.ownsRow base e 1 v n xs)
  (u:Value) (hu:u.oneCell'=true) (m:Nat) (hx:a.eval x=.slice (some ⟨m,0,none⟩) 1 1) (hm:m=W.heap.size) (hn:n<=1000000) (hby:bytes<=1000) (hbase:base<=W.heap.size)
  (h:∀v' w',w'.ownsRow base e 1 v' (n+1) (xs++[u])->W.grownBy w' v.ownBlock->Below base W w'->(v'.ownBlock=v.ownBlock\/v'.ownBlock=some (W.heap.size+1))->wpList P ops Q rest (a.put o.dst v') w'):wpList P ops Q (o::rest) a (W.alloc (.cells #[u] e)):=by
 subst hm;obtain⟨i0,hi0,hz0,hz1,hz2⟩:=info_parts hi;have hr:Reads (W.alloc (.cells #[u] e)) (W.heap.size+1) 1 (some ⟨W.heap.size,0,none⟩) 1 [u]:=by have:=(af.new W e #[u]).reads (xs:=[u]);simpa using this
 have hbb:(n+1)*bytes<=1000001*1000:=Nat.mul_le_mul aGl hby;refine xN _ hgd s x t ho base e i0 z 1 bytes ht hi0 hz0 hz1 hz2 hz aGl v n xs hs (hown.alloc _) _ _ 1 1 [u] hx hr (by intro u' hu';simp at hu';subst hu';exact hu) (by unfold maxLen;omega) aGl (by simp;omega) ?_;intro v' w' h2 h3 h4;have hg:W.grownBy w' v.ownBlock:=⟨h3.os,h3.tape,h3.output,rt aGn h3.size,fun i hi hne=>(h3.block i (by simp;omega) hne).trans (Below.heap_alloc W _ i hi)⟩;refine h v' w' h2 hg ?_ (by simpa using h4);refine⟨hg.os,hg.tape,hg.output,hg.size,fun i hi=>hg.block i aGl ?_⟩;intro e;have:=(hown.lt i e.symm).1;omega
def oN(V:Nat):io:=(pf (V+1)).set 0 (-1)
theorem aez(V v:Nat):at_ (oN V) v=if v=0 then -1 else 0:=by
 unfold oN;rw[Qm,aeK,afK];by_cases h:v=0
 .rw[BY ⟨h.symm,aGl⟩,BY h]
 .rw[rx (fun e=>h e.1.symm),rx h]
variable{w1:World}{w3:World}
theorem Tb.ah0{w:World}{base V g:Nat}{lv v':Value}{fs:List (Nat×io)}(h:Tb w base V g lv fs)(hl:fs.length<1000000)
  (hB:af w1 w.heap.size 3 (mV (pf (V+1))).toArray) (hb:Below w.heap.size w w1)
  (ho:w3.ownsRow base 22 1 v' (fs.length+1) (nT V fs++[.slice (some ⟨w.heap.size,0,none⟩) (V+1) (V+1)])) (hg:(w1.setCell ⟨w.heap.size,0,none⟩ (.int .i64 (-1))).grownBy w3 lv.ownBlock) :
  Tb (w3.setCell ⟨g,1,none⟩ v') base V g v' (fs++[(w.heap.size,oN V)]):=by
 have hbase:base<=w.heap.size:=rt h.bg (Nat.le_of_lt h.hd.lt);have hgl:=h.hd.lt;have b1:af w3 g 126 #[.int .i64 V,lv]:=((h.hd.below hb hgl).dz (p:=⟨w.heap.size,0,none⟩) (by show g≠w.heap.size;omega) _).grown hg (fun e=>dZ h.own h.hd aGo e.symm);have b2:af w3 w.heap.size 3 (mV (oN V)).toArray:=by have:=hB.dL 0 (.int .i64 (-1));rw[aFQ,PW]at this;exact this.grown hg (fun e=>by have:=h.own.lt _ e.symm;omega)
 have fr3:∀(i:Nat) (f:Nat×io),fs[i]?=some f->af w3 f.1 3 (mV f.2).toArray:=fun i f hf=>by obtain⟨c1,_⟩:=h.fr i f hf;have:=c1.lt;exact((c1.below hb this).dz (p:=⟨w.heap.size,0,none⟩) (by show f.1≠w.heap.size;omega) _).grown hg (fun e=>dZ h.own c1 aGo e.symm)
 have key:∀(j:Nat) (f':Nat×io),(fs++[(w.heap.size,oN V)])[j]?=some f'->(j=fs.length/\f'=(w.heap.size,oN V))\/fs[j]?=some f':=fun j f' hj=>by
  rcases ww j fs.length with h1|h1
  .rw[Fr h1]at hj;exact .inr hj
  .rw[IO h1]at hj;have h0:j-fs.length=0:=by
    rcases If (j-fs.length)with h2|h2
    .exact h2
    .rw[BT (by simp;omega)]at hj;cases hj
   rw[h0]at hj;simp at hj;exact .inl ⟨aGl,hj.symm⟩
 refine⟨?_,?_,fun j f hj=>?_,fun j k f f' hj hk e=>?_,h.bg,h.hv,by simp;omega⟩
 .have:=b1.dL 1 v';simpa using this
 .have ev:nT V (fs++[(w.heap.size,oN V)])=nT V fs++[.slice (some ⟨w.heap.size,0,none⟩) (V+1) (V+1)]:=by simp[nT]
  rw[ev,aO];exact jR ho (dZ ho b1 aGo)
 .rcases key j f hj with⟨_,rfl⟩|hj
  .refine⟨b2.dz (by show w.heap.size≠g;omega) _,by simp[oN,pf],hbase,fun v=>?_⟩;rw[aez];split<;>omega
  .obtain⟨c1,c2,c3,c4⟩:=h.fr j f hj;exact⟨(fr3 j f hj).dz (c1.ku h.hd aGo) _,c2,c3,c4⟩
 .have lt1:∀(j:Nat) (f:Nat×io),fs[j]?=some f->f.1<w.heap.size:=fun j f hf=>(h.fr j f hf).1.lt;rcases key j f hj with⟨rfl,rfl⟩|hj<;>rcases key k f' hk with⟨rfl,rfl⟩|hk
  .rfl
  .have:=lt1 k f' hk;simp at e;omega
  .have:=lt1 j f hj;simp at e;omega
  .exact h.inj j k f f' hj hk e
theorem aew(n:Nat):mV (pf n)=List.replicate n (.int .i64 0):=by simp[mV,pf]
theorem Tb.Oz{w:World}{base V g:Nat}{lv:Value}{fs:List (Nat×io)}(h:Tb w base V g lv fs)(hb:Below w.heap.size w w1)(hg:(w1.setCell ⟨w.heap.size,0,none⟩ (.int .i64 (-1))).grownBy w3 lv.ownBlock) :
  w3.cell? ⟨g,1,none⟩=some lv/\w3.frozen? ⟨g,1,none⟩=false:=by
 have hgl:=h.hd.lt;have b1:af w3 g 126 #[.int .i64 V,lv]:=((h.hd.below hb hgl).dz (p:=⟨w.heap.size,0,none⟩) (by show g≠w.heap.size;omega) _).grown hg (fun e=>dZ h.own h.hd aGo e.symm);exact⟨by simpa using b1.cell 1,b1.frozen 1⟩
def zT(n V:Nat)(frame v l:Int):Prop:=0<=frame/\frame<n/\1<=v/\v<=V/\l≠0/\-65536<=l/\l<=65536
def wX(frames:List io)(frame v l:Int):List io:=frames.set frame.toNat ((frames.getD frame.toNat []).set v.toNat l)
set_option maxHeartbeats 800000
theorem agO{w:World}{base V g:Nat}(frame v l:Int)(h:TS w base V g frames)(hno:¬zT frames.length V frame v l) :
  Calls Tryz.prog 39 #[.pointer (some ⟨g,0,none⟩),.int .i64 frame,.int .i64 v,.int .i64 l] w fun e w'=>e=.returned (.bool false)/\w=w':=by
 unfold zT at hno;have HT:=Lib.hid h;obtain⟨lv,fs,h,hfs⟩:=h;have c0:=h.c0;have hV:=h.hv;have hn:frames.length<=1000000:=by rw[<-hfs,aR];exact h.ll
 clear h hfs;obtain⟨n,hnn⟩:∃n,n=frames.length:=⟨_,rfl⟩;rw[<-hnn]at hno hn;have HN:=Lib.hid hnn;clear hnn;rcases(show frame<0\/(0<=frame/\(n:Int)<=frame)\/(0<=frame/\frame<n/\v<1)\/(0<=frame/\frame<n/\1<=v/\(V:Int)<v)\/(0<=frame/\frame<n/\1<=v/\v<=V/\l=0)\/(0<=frame/\frame<n/\1<=v/\v<=V/\l≠0/\65536<l)\/(0<=frame/\frame<n/\1<=v/\v<=V/\l≠0/\l < -65536)from by omega)with h1|⟨h1,h2⟩|⟨h1,h2,h3⟩|⟨h1,h2,h3,h4⟩|⟨h1,h2,h3,h4,h5⟩|⟨h1,h2,h3,h4,h5,h6⟩|⟨h1,h2,h3,h4,h5,h6⟩
 .clear hno
  go_enter Tryz.func39,Tryz.ntmps39
  go_wp2_with fail
  go_ret
  exact⟨rfl,rfl⟩
 .clear hno
  go_enter Tryz.func39,Tryz.ntmps39
  go_wp2_with fail
  refine(lO HT.out).mono ?_;rw[<-HN.out];rintro e w' ⟨rfl,rfl⟩
  go_wp2_with fail
  go_ret
  exact⟨rfl,rfl⟩
 .clear hno
  go_enter Tryz.func39,Tryz.ntmps39
  go_wp2_with fail
  refine(lO HT.out).mono ?_;rw[<-HN.out];rintro e w' ⟨rfl,rfl⟩
  go_wp2_with fail
  go_ret
  exact⟨rfl,rfl⟩
 .clear hno
  go_enter Tryz.func39,Tryz.ntmps39
  go_wp2_with fail
  refine(lO HT.out).mono ?_;rw[<-HN.out];rintro e w' ⟨rfl,rfl⟩
  go_wp2_with fail
  go_ret
  exact⟨rfl,rfl⟩
 .clear hno;have h5':(l == 0)=true:=aFc.2 h5;clear h5
  go_enter Tryz.func39,Tryz.ntmps39
  go_wp2_with fail
  refine(lO HT.out).mono ?_;rw[<-HN.out];rintro e w' ⟨rfl,rfl⟩
  go_wp2_with fail
  go_ret
  exact⟨rfl,rfl⟩
 .clear hno;have h5':(l == 0)=false:=pu.2 h5;clear h5
  go_enter Tryz.func39,Tryz.ntmps39
  go_wp2_with fail
  refine(lO HT.out).mono ?_;rw[<-HN.out];rintro e w' ⟨rfl,rfl⟩
  go_wp2_with fail
  go_ret
  exact⟨rfl,rfl⟩
 .clear hno;have h5':(l == 0)=false:=pu.2 h5;clear h5
  go_enter Tryz.func39,Tryz.ntmps39
  go_wp2_with fail
  refine(lO HT.out).mono ?_;rw[<-HN.out];rintro e w' ⟨rfl,rfl⟩
  go_wp2_with fail
  go_ret
  exact⟨rfl,rfl⟩
theorem ae5(fs:List (Nat×io))(i v:Nat)(x:Int)(f:Nat×io)(hf:fs[i]?=some f):(fs.set i (f.1,f.2.set v x)).map (·.2)=wX (fs.map (·.2)) (i:Int) (v:Int) x:=by unfold wX;rw[List.map_set,Id,Id,fq,dO,hf];rfl
def kg(V:Nat)(frames:List io)(frame l:Int):Int:=if frame<0\/(frames.length:Int)<=frame\/l<0\/(V:Int)<l / 2 then 0 else if l % 2=1 then-at_ (frames.getD frame.toNat []) (l / 2).toNat else at_ (frames.getD frame.toNat []) (l / 2).toNat
theorem afF{w:World}{base V g:Nat}(frame l:Int)(h:TS w base V g frames)(hl:l<=9223372036854775807) :
  Calls Tryz.prog 37 #[.pointer (some ⟨g,0,none⟩),.int .i64 frame,.int .i64 l] w fun e w'=>e=.returned (.int .i64 (kg V frames frame l))/\∃q,w'=w.drewN q:=by
 have HT:=Lib.hid h;obtain⟨lv,fs,h,hfs⟩:=h;have c0:=h.c0;have c1:=h.c1;have hV:=h.hv;have hn:frames.length<=1000000:=by rw[<-hfs,aR];exact h.ll
 obtain⟨n,hnn⟩:∃n,n=frames.length:=⟨_,rfl⟩;have hnf:n=fs.length:=by rw[hnn,<-hfs,aR]
 rw[<-hnn]at hn;have HN:=Lib.hid hnn;clear hnn;rcases(show frame<0\/(0<=frame/\(n:Int)<=frame)\/(0<=frame/\frame<n/\l<0)\/(0<=frame/\frame<n/\0<=l/\(V:Int)<l / 2)\/(0<=frame/\frame<n/\0<=l/\l / 2<=V)from by omega)with h1|⟨h1,h2⟩|⟨h1,h2,h3⟩|⟨h1,h2,h3,h4⟩|⟨h1,h2,h3,h4⟩
 .have HE:=Lib.hid (show kg V frames frame l=0 from by rw[kg,BY (.inl h1)]);have d1:decide (frame<0)=true:=by simpa using h1
  clear h hfs hnf
  go_enter Tryz.func37,Tryz.ntmps37
  go_wp2_with fail
  go_quiet (fail)
  go_wp2_with fail
  go_ret
  exact⟨by rw[HE.out];rfl,nq,rfl⟩
 .have HE:=Lib.hid (show kg V frames frame l=0 from by rw[kg,<-HN.out,BY (.inr (.inl h2))]);have d1:decide (frame<0)=false:=by simpa using h1
  have d2:decide ((n:Int)<=frame)=true:=by simpa using h2
  have HF:Hid (∀q,Calls Tryz.prog 73 #[.pointer (some ⟨g,0,none⟩)] (w.drewN q) fun e w'=>e=.returned (.int .i64 (n:Int))/\w.drewN q=w'):=fun q=>by rw[HN.out];exact lO (HT.out.drewN q)
  clear h hfs hnf
  go_enter Tryz.func37,Tryz.ntmps37
  go_wp2_with fail
  go_quiet ((first|(go_at_call 73;exact kO (HF.out _))))
  go_wp2_with fail
  go_ret
  exact⟨by rw[HE.out];rfl,nq,rfl⟩
 .have HE:=Lib.hid (show kg V frames frame l=0 from by rw[kg,BY (.inr (.inr (.inl h3)))]);have d1:decide (frame<0)=false:=by simpa using h1
  have d2:decide ((n:Int)<=frame)=false:=by simpa using h2
  have d3:decide (l<0)=true:=by simpa using h3
  have HF:Hid (∀q,Calls Tryz.prog 73 #[.pointer (some ⟨g,0,none⟩)] (w.drewN q) fun e w'=>e=.returned (.int .i64 (n:Int))/\w.drewN q=w'):=fun q=>by rw[HN.out];exact lO (HT.out.drewN q)
  clear h hfs hnf
  go_enter Tryz.func37,Tryz.ntmps37
  go_wp2_with fail
  go_quiet ((first|(go_at_call 73;exact kO (HF.out _))))
  go_wp2_with fail
  go_ret
  exact⟨by rw[HE.out];rfl,nq,rfl⟩
 .have HE:=Lib.hid (show kg V frames frame l=0 from by rw[kg,BY (.inr (.inr (.inr h4)))]);have d1:decide (frame<0)=false:=by simpa using h1
  have d2:decide ((n:Int)<=frame)=false:=by simpa using h2
  have d3:decide (l<0)=false:=by simpa using h3
  have d4:decide ((V:Int)<l / 2)=true:=by simpa using h4
  have HF:Hid (∀q,Calls Tryz.prog 73 #[.pointer (some ⟨g,0,none⟩)] (w.drewN q) fun e w'=>e=.returned (.int .i64 (n:Int))/\w.drewN q=w'):=fun q=>by rw[HN.out];exact lO (HT.out.drewN q)
  have HV:Hid (∀q,Calls Tryz.prog 74 #[.int .i64 l] (w.drewN q) fun e w'=>e=.returned (.int .i64 (l / 2))/\w.drewN q=w'):=fun q=>Qh l _ h3 hl;clear h hfs hnf
  go_enter Tryz.func37,Tryz.ntmps37
  go_wp2_with fail
  go_quiet ((first|(go_at_call 73;exact kO (HF.out _))|(go_at_call 74;exact kO (HV.out _))))
  go_wp2_with fail
  go_ret
  exact⟨by rw[HE.out];rfl,nq,rfl⟩
 .obtain⟨i,rfl⟩:=Fd h1;obtain⟨v,hv⟩:=Fd (show 0<=l / 2 by omega);obtain⟨gl,c,f,rfl,hlc,hf,n1,n2,n3,hci,hcv⟩:=h.Zk (i:=i) aGl;obtain⟨hcv,hfv⟩:=hcv v aGl;have hb:=(h.fr i f hf).2.2.2 v;have HE:=Lib.hid (show kg V frames i l=if l % 2=1 then-at_ f.2 v else at_ f.2 v from by rw[kg,rx (by rw[<-HN.out];omega),hv,Id,Id,<-hfs,fq,dO,hf];rfl);have d1:decide ((i:Int)<0)=false:=aGn
  have d2:decide ((n:Int)<=i)=false:=by simp;omega
  have d3:decide (l<0)=false:=by simpa using h3
  have d4:decide ((V:Int)<l / 2)=false:=by simpa using h4
  rw[<-hnf]at c1 hlc;have HF:Hid (∀q,Calls Tryz.prog 73 #[.pointer (some ⟨g,0,none⟩)] (w.drewN q) fun e w'=>e=.returned (.int .i64 (n:Int))/\w.drewN q=w'):=fun q=>by rw[HN.out];exact lO (HT.out.drewN q)
  have HV:Hid (∀q,Calls Tryz.prog 74 #[.int .i64 l] (w.drewN q) fun e w'=>e=.returned (.int .i64 (l / 2))/\w.drewN q=w'):=fun q=>Qh l _ h3 hl;have HV2:Hid (∀q,Calls Tryz.prog 74 #[.int .i64 l] (w.drewN q) fun e w'=>e=.returned (.int .i64 (v:Int))/\w.drewN q=w'):=fun q=>by have:=HV.out q;rw[hv]at this;exact this
  generalize at_ f.2 v=x at *
  have aU:i<n:=aGl
  have hvn:v<V+1:=aGl
  clear h hfs hnf hf hv hfv
  go_enter Tryz.func37,Tryz.ntmps37
  go_wp2_with fail
  go_quiet ((first|(go_at_call 73;exact kO (HF.out _))|(go_at_call 74;exact kO (HV.out _))))
  go_wp2_with fail
  go_quiet ((go_at_call 74;exact Np (HV2.out _)))
  go_wp2_with fail
  refine(agw l _ h3 hl).mono ?_;rintro e w1 ⟨rfl,rfl⟩;rcases hp:(l % 2 == 1)with _|_
  .have HP:=Lib.hid hp;clear hp
   go_wp2_with fail
   go_ret
   refine⟨uH ?_,_,rfl⟩;rw[HE.out,rx (by simpa using HP.out)]
  .have HP:=Lib.hid hp;clear hp
   go_wp2_with fail
   go_ret
   refine⟨uH ?_,_,rfl⟩;rw[HE.out,BY (by simpa using HP.out)]
structure ak(D:Nat->Prop)(w w':World):Prop where
 os:w'.os=w.os
 tape:w'.tape=w.tape
 output:w'.output=w.output
 size:w.heap.size<=w'.heap.size
 block:∀b,b<w.heap.size->¬D b->w'.heap[b]?=w.heap[b]?
section
variable{D:Nat->Prop}{a w w':World}
theorem ak.refl(D:Nat->Prop)(w:World):ak D w w:=⟨rfl,rfl,rfl,pi _,fun _ _ _=>rfl⟩
theorem ak.cR(h:Below a.heap.size a w):ak D a w:=⟨h.os,h.tape,h.output,h.size,fun b hb _=>h.block b hb⟩
theorem ak.setCell(h:ak D a w)(hp:D p.block):ak D a (w.setCell p u):=⟨h.os,h.tape,h.output,by simpa[World.setCell]using h.size,fun b hb hn=>(Below.heap_setCell w p u b (fun e=>hn (e▸hp))).trans (h.block b hb hn)⟩
theorem ak.ael(h:ak D a w)(hp:a.heap.size<=p.block):ak D a (w.setCell p u):=⟨h.os,h.tape,h.output,by simpa[World.setCell]using h.size,fun b hb hn=>(Below.heap_setCell w p u b aGl).trans (h.block b hb hn)⟩
theorem ak.grown(h:ak D a w){row:Option Nat}(hg:w.grownBy w' row)(hr:∀b,row=some b->D b):ak D a w':=⟨hg.os.trans h.os,hg.tape.trans h.tape,hg.output.trans h.output,rt h.size hg.size,fun b hb hn=>(hg.block b (ro hb h.size) (fun e=>hn (hr b e.symm))).trans (h.block b hb hn)⟩
theorem ak.drewN(h:ak D a w)(n:Nat):ak D a (w.drewN n):=⟨h.os,h.tape,h.output,h.size,h.block⟩
theorem ak.drew(h:ak D a w):ak D a w.drew:=⟨h.os,h.tape,h.output,h.size,h.block⟩
theorem ak.below(h:ak D w w'){B:Nat}(hB:B<=w.heap.size)(hD:∀b,D b->B<=b):Below B w w':=⟨h.os,h.tape,h.output,h.size,fun b hb=>h.block b aGl (fun hd=>by have:=hD b hd;omega)⟩
theorem ak.cell(h:ak D w w')(hp:p.block<w.heap.size)(hn:¬D p.block):w'.cell? p=w.cell? p:=World.cell?_of_block (h.block _ hp hn)
theorem ak.cC(h:ak D w w'){g:Nat}{t:TypeId}{cs:Array Value}(hb:af w g t cs)(hn:¬D g):af w' g t cs:=(h.block g hb.lt hn).trans hb
theorem ak.own(h:ak D w w'){base:Nat}{size:Nat}(ho:w.ownsRow base e size v n xs)(hn:∀b,v.ownBlock=some b->¬D b):w'.ownsRow base e size v n xs:=by
 refine⟨ho.1,?_⟩;rcases ho.2 with h1|⟨g,cap,cur,rfl,hb,hh,hl,hm,hs,ht⟩
 .exact .inl h1
 .have hB:af w g e cur:=hh;exact .inr ⟨g,cap,cur,rfl,hb,h.cC hB (hn g rfl),hl,hm,hs,ht⟩
end
theorem Tb.ail{w:World}{base V g:Nat}{lv:Value}{fs:List (Nat×io)}(h:Tb w base V g lv fs):Tb w 0 V g lv fs:=by
 refine⟨h.hd,⟨h.own.1,?_⟩,fun i f hf=>?_,h.inj,AI _,h.hv,h.ll⟩
 .rcases h.own.2 with h1|⟨g,cap,cur,e,hb,r⟩
  .exact .inl h1
  .exact .inr ⟨g,cap,cur,e,AI _,r⟩
 .obtain⟨b1,b2,b3,b4⟩:=h.fr i f hf;exact⟨b1,b2,AI _,b4⟩
def TD(w:World)(V g:Nat)(frames:List io)(D:Nat->Prop):Prop:=∃(lv:Value) (fs:List (Nat×io)),Tb w 0 V g lv fs/\fs.map (·.2)=frames/\D g/\(∀b,lv.ownBlock=some b->D b)/\∀(i:Nat) (f:Nat×io),fs[i]?=some f->D f.1
theorem TD.ts{w:World}{V g:Nat}{D:Nat->Prop}(h:TD w V g frames D):TS w 0 V g frames:=by obtain⟨lv,fs,h,e,_⟩:=h;exact⟨lv,fs,h,e⟩
theorem TD.an{w w':World}{V g:Nat}{D D':Nat->Prop}(h:TD w V g frames D)(hf:ak D' w w')(hd:∀b,D b->¬D' b):TD w' V g frames D:=by obtain⟨lv,fs,h,e,d1,d2,d3⟩:=h;refine⟨lv,fs,⟨hf.cC h.hd (hd _ d1),hf.own h.own (fun b hb=>hd b (d2 b hb)),fun i f hi=>?_,h.inj,h.bg,h.hv,h.ll⟩,e,d1,d2,d3⟩;obtain⟨b1,b2⟩:=h.fr i f hi;exact⟨hf.cC b1 (hd _ (d3 i f hi)),b2⟩
theorem FK.td{w w':World}{V g:Nat}(h:TS w' w.heap.size V g []):TD w' V g [] (fun b=>w.heap.size<=b):=by obtain⟨lv,fs,h,e⟩:=h;refine⟨lv,fs,h.ail,e,h.bg,fun b hb=>(h.own.lt b hb).1,fun i f hf=>(h.fr i f hf).2.2.1⟩
def aeL(w:World)(V g:Nat)(frames:List io)(D:Nat->Prop)(e:Ending)(w':World):Prop:=e=.returned (.int .i64 (frames.length:Nat))/\∃D':Nat->Prop,TD w' V g (frames++[oN V]) D'/\(∀b,D' b->D b\/w.heap.size<=b)/\ak D w w'
theorem aev{w:World}{V g:Nat}{D:Nat->Prop}(h:TD w V g frames D)(hl:frames.length<1000000) :
  Calls Tryz.prog 36 #[.pointer (some ⟨g,0,none⟩)] w (aeL w V g frames D):=by
 obtain⟨lv,fs,h,rfl,d1,d2,d3⟩:=h;have HD1:=Lib.hid d1;have HD2:=Lib.hid d2;have HD3:=Lib.hid d3;clear d1 d2 d3;rw[aR]at hl;have hV:=h.hv;have c0:=h.c0;have hown:=h.own;have hbase:0<=w.heap.size:=AI _;have hbg:=h.bg;have hgl:=h.hd.lt;have HH:=Lib.hid h;clear h
 go_enter Tryz.func36,Tryz.ntmps36
 go_wp2_with (first
  |(at_make;refine Zw0 _ rfl _ _ 22 rfl 3 (.int .i64 0) 8 Tryz.underlying22 ka rfl _ _ _ _ (V+1) rfl rfl aGl aGl aGl aGl ?_;intro w1 hbk hbl hz;have HZ:=Lib.hid hz;clear hz;have HBL:=Lib.hid hbl;have hc00:w1.cell? ⟨w.heap.size,0,none⟩=some (.int .i64 0):=(by rw[hbk.cell 0];simp[List.replicate_succ]);have hf00:=hbk.frozen 0;have HBK:=Lib.hid hbk;have hc1:(w1.setCell ⟨w.heap.size,0,none⟩ (.int .i64 (-1))).cell? ⟨g,1,none⟩=some lv:=(by rw[World.cell?_setCell_other _ _ _ _ (by intro e;injection e;omega),hbl.cell (by exact hgl)];exact HH.out.c1);have hown1:=hown.kept (row:=none) ⟨hbl.os,hbl.tape,hbl.output,hbl.size,fun i hi _=>hbl.block i hi⟩ (by rcases lv.ownBlock with _|k;exact .inl rfl;exact .inr aGn);have hown2:=jR (p:=⟨w.heap.size,0,none⟩) (u:=.int .i64 (-1)) hown1 (fun e=>by have:=hown.lt _ e;simp at this);clear hbk hbl hown1)
  |(at_builtin;(refine ad7 _ rfl _ _ 99 rfl 0 22 (.slice none 0 0) 24 Tryz.underlying99 aeB rfl lv _ _ rfl hown2 _ rfl _ rfl aGn aGl aGl (AI _) ?_);intro v' w3 hown' hg' hb' hat';obtain⟨hcg,hfg⟩:=HH.out.Oz HBL.out hg';have HP:=Lib.hid (HH.out.ah0 hl (by rw[aew];exact HBK.out) HBL.out hown' hg');have HG3:=Lib.hid hg';have HAT:=Lib.hid hat';obtain⟨A',c',rfl,hc1',hc2',_⟩:=eo hown';clear hown' hg' hb' hat'))
 go_ret
 refine⟨by rw[aR];rfl,fun b=>D b\/w.heap.size<=b,⟨_,_,HP.out,aGn,.inl HD1.out,fun b hb=>?_,fun j f hj=>?_⟩,fun b hb=>hb,?_⟩
 .rcases HAT.out with e|e
  .exact .inl (HD2.out b (by rw[<-e];exact hb))
  .rw[hb]at e;injection e with e;have h1:=HZ.out;simp at e;exact .inr aGl
 .rcases ww j fs.length with h1|h1
  .rw[Fr h1]at hj;exact .inl (HD3.out j f hj)
  .rw[IO h1]at hj;have h0:j-fs.length=0:=by
    rcases If (j-fs.length)with h2|h2
    .exact h2
    .rw[BT (by simp;omega)]at hj;cases hj
   rw[h0]at hj;simp at hj;subst hj;exact .inr (pi _)
 .refine ak.setCell (ak.grown (ak.ael (ak.cR HBL.out) (pi _)) HG3.out (fun b hb=>HD2.out b hb)) HD1.out
theorem aeJ{w:World}{V g:Nat}{D:Nat->Prop}(frame v l:Int)(h:TD w V g frames D)(bw:zT frames.length V frame v l) :
  Calls Tryz.prog 39 #[.pointer (some ⟨g,0,none⟩),.int .i64 frame,.int .i64 v,.int .i64 l] w fun e w'=>e=.returned (.bool true)/\TD w' V g (wX frames frame v l) D/\ak D w w':=by
 obtain⟨h1,h2,h3,h4,h5,h6,h7⟩:=bw;have HT:=Lib.hid h.ts;obtain⟨lv,fs,h,rfl,d1,d2,d3⟩:=h;have c0:=h.c0;have hV:=h.hv;have hn:=h.ll;rw[aR]at h2;obtain⟨i,rfl⟩:=Fd h1;obtain⟨v,rfl⟩:=Fd (show 0<=v by omega);have c1:=h.c1;obtain⟨gl,c,f,rfl,hlc,hf,n1,n2,n3,hci,hcv⟩:=h.Zk (i:=i) aGl;obtain⟨hcv,hfv⟩:=hcv v aGl;have HS2:Hid (TD (w.setCell ⟨f.1,v,none⟩ (.int .i64 l)) V g (wX (fs.map (·.2)) i v l) D):=⟨_,_,h.aiW hf aGl h6 h7,ae5 fs i v l f hf,d1,d2,fun j f' hj=>by
  rw[aFO]at hj;split at hj
  .split at hj
   .injection hj with hj;subst hj;exact d3 i f hf
   .cases hj
  .exact d3 j f' hj⟩
 have hdf:Hid (D f.1):=d3 i f hf;obtain⟨n,hnn⟩:∃n,n=fs.length:=⟨_,rfl⟩;rw[<-hnn]at h2 hn c1 hlc;have HN:=Lib.hid hnn;have h5':(l == 0)=false:=pu.2 h5;have aU:i<n:=aGl
 have hvn:v<V+1:=aGl
 clear h hnn h5 hf d1 d2 d3
 go_enter Tryz.func39,Tryz.ntmps39
 go_wp2_with fail
 refine(lO HT.out).mono ?_;rw[aR,<-HN.out];rintro e w' ⟨rfl,rfl⟩
 go_wp2_with fail
 go_ret
 exact⟨rfl,HS2.out,(ak.refl _ _).setCell hdf.out⟩
