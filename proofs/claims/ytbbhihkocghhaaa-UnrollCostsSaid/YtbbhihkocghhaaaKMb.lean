import Derived.Test.YtbbhihkocghhaaaKMa
import Derived.IntWalk
set_option linter.all false
section
namespace Go.Proofs.Ytbbhihkocghhaaa.Ev
open Go Go.RowKit
variable{w:World}{s:Sg}{h:Hp}{b:Nat}
theorem ab.move(H:ab s h w){f g:Nat}{o o':aI}{ob:Obj}{aeM aeN:Tr aI}(hb:h.tr.get b=some o)
  (aeb:Tr.set f h.tr b none=some aeM) (aec:Tr.set g aeM h.next (some o')=some aeN) (ho:bS (aQ s h.next (s b)) h.next o' (some ob)) (hw:iV h.next o'=true) :
  ab (aQ s h.next (s b)) ⟨aeN,h.next+1⟩ (bU w (s b).1 ob)/\Ext s h w (aQ s h.next (s b)) ⟨aeN,h.next+1⟩ (bU w (s b).1 ob):=by
 have adI:=Tr.bE f h.tr b none aeM aeb;have adJ:=Tr.bE g aeM h.next (some o') aeN aec;have aR:=H.bound hb;have hbn:=H.lt b o hb;have old:∀j,j<h.next->aQ s h.next (s b) j=s j:=fun j hj=>qG s _ _ hj;have alt:∀j aex,aeN.get j=some aex->(j=h.next/\aex=o')\/(h.tr.get j=some aex/\j≠b/\j<h.next):=by
  intro j aex hj;rw[adJ j]at hj;by_cases q:j=h.next
  .rw[ut q]at hj;grind
  .rw[qr q,adI j]at hj;by_cases r:j=b
   .rw[ut r]at hj;cases hj
   .rw[qr r]at hj;exact .inr ⟨hj,r,H.lt j aex hj⟩
 refine⟨⟨?_,?_,?_,?_⟩,⟨rfl,rfl,rfl,by rw[ir];exact ol _,old,acv,?_,?_,fun j aex hj hlt=>by grind⟩⟩
 .intro j aex hj;rcases alt j aex hj with⟨rfl,rfl⟩|⟨hj,hne,hlt⟩
  .rw[cE,dK,ut ⟨rfl,aR⟩];exact ho
  .rw[old j hlt,dK,qr (fun r=>hne (H.inj j b aex o hj hb r.1))];exact(H.obj j aex hj).congr old hlt (H.fO j aex hj)
 .intro j k aex aey hj hk e;rcases alt j aex hj with⟨rfl,rfl⟩|⟨hj,hne,hlt⟩<;>rcases alt k aey hk with⟨rfl,rfl⟩|⟨hk,hne',hlt'⟩
  .rfl
  .rw[cE,old k hlt']at e;exact absurd (H.inj k b aey o hk hb e.symm) hne'
  .rw[cE,old j hlt]at e;exact absurd (H.inj j b aex o hj hb e) hne
  .rw[old j hlt,old k hlt']at e;exact H.inj j k aex aey hj hk e
 .intro j aex hj
  grind
 .intro j aex hj;rcases alt j aex hj with⟨rfl,rfl⟩|⟨hj,hne,hlt⟩
  .exact nM acv hw
  .exact nM acv (H.fO j aex hj)
 .intro k hk hn;rw[dK,qr (fun r=>hn b o hb r.1.symm)]
 .intro j aex hj;rcases alt j aex hj with⟨rfl,rfl⟩|⟨hj,hne,hlt⟩
  .exact .inl ⟨b,o,hb,by rw[cE]⟩
  grind
def mI(h:Hp)(sz:Nat):AV->Option (Nat×List AV)
 |.bu=>some (0,[])|.slice b off n _ _=>match h.tr.get b with
  |some (.cells l _ _)=>match Nat.ble (off+n*sz) l.length with|true=>some (n,takeN (n*sz) (du off l))|false=>none
  |_=>none
 |_=>none
variable{P:Program}{x:AV}{sz:Nat}{n:Nat}{l:List AV}
theorem nH(e:mI h sz x=some (n,l))(H:ab s h w) :
  (Builtin.lenOf (ah s x)).run P w=.ok n w/\(Builtin.firstCells sz n (ah s x)).run P w=.ok (aL s l).toArray w/\cC h.next l=true/\l.length=n*sz:=by
 unfold mI at e;split at e
 .obtain⟨rfl,rfl⟩:=e;simp[ah,Builtin.lenOf,Builtin.firstCells,aL,cC]
 .rename_i b off n' u c;split at e<;>try cases e
  rename_i cs ty op hb;split at e<;>try cases e
  rename_i hl;have hl:=pi hl;obtain⟨tail,hw,_,_⟩:=H.cells hb;have hL:=ga s cs;have hws:=H.fO _ _ hb;refine⟨by simp[ah,Builtin.lenOf],?_,zh (He hws),by simp[eu,eW];omega⟩;simp only[ah,Builtin.firstCells,loadCells];rw[run_loadCells hw _ 0 #[] (by simp;omega)];congr 2;simp only[aaW,eu,eW,oR,qm,List.toList_toArray,LT]
  grind
 .cases e
theorem KQ(m:Nat):∀(r c:Nat),c<=2*m+192->Builtin.growBy m r c<=2*m+192
 |0,c,h=>by simpa[Builtin.growBy]using h|r+1,c,h=>by
  simp only[Builtin.growBy];split
  .exact h
  .exact KQ m r _ acs
variable{need:Nat}
theorem qC{old:Nat}(h:old<need):Builtin.nextslicecap need old<=2*need+192:=by
 unfold Builtin.nextslicecap;split
 .omega
 .split
  .omega
  .exact KQ _ _ _ acs
theorem JI(need old:Nat)(el:TypeId)(t:Nat)(h:need<=1099511627776):(Question.appendCap need old el).cut t<=9223372036854775807:=by have:=Nat.mod_lt t (show 0<2^63-need by omega);show need+t % (2^63-need)<=_;omega
variable{sLen:Nat}{new:List AV}{base:lc}{d1:TypeDesc}{sCap:Nat}{t1:TypeId}{t0:TypeId}{info:TypeInfo}{old:List AV}{ts:Array TypeId}{z:AV}{X:Value}{elem:TypeId}{ty:TypeId}
theorem tE
  (ht0:ts[0]?=some t0) (ht1:ts[1]?=some t1) (hu0:P.underlying t0=some (.slice elem)) (hu1:P.underlying t1=some d1) (hd:∀k,d1≠.int k) (hs:cz P elem=some sz) (hz:dL P elem=some z)
  (hi:P.info? elem=some info) (hzl:(bV z).length=sz) (hn:(Builtin.lenOf X).run P w=.ok n w) (hnot:sCap<sLen+n) (hb:(2*(sLen+n)+192)*info.bytes<=281474976710656) (hne:sLen+n<=1099511627776)
  (hold:∀d,(Builtin.firstCells sz sLen (.slice base sLen sCap)).run P { w with drawn:=d }=.ok (aL s old).toArray { w with drawn:=d })
  (hnew:∀d,(Builtin.firstCells sz n X).run P { w with drawn:=d }=.ok (aL s new).toArray { w with drawn:=d }) :
  ∃c,sLen+n<=c/\c<=9223372036854775807/\∃d,∃rest:kw,rest.length=(c-(sLen+n))*sz/\(Builtin.append_ ts ty #[.slice base sLen sCap,X]).run P w =
   .ok (.slice (some ⟨w.heap.size,0,none⟩) (sLen+n) c) { w with drawn:=d,heap:=w.heap.push (.cells (aL s old++aL s new++rest).toArray elem (0,0)) }:=by
 refine⟨(Question.appendCap (sLen+n) sCap elem).cut (w.tape w.drawn (.appendCap (sLen+n) sCap elem)),by simp[Question.cut],JI _ _ _ _ acs,w.drawn+1,?_⟩;have hz0:=fZ hz s;have hzs:(ah s z).cells.size=sz:=by rw[<-NE,jL,ga,hzl]
 generalize hc:(Question.appendCap (sLen+n) sCap elem).cut (w.tape w.drawn (.appendCap (sLen+n) sCap elem))=c;refine⟨(Builtin.zeroCells (ah s z).cells (c-(sLen+n))).toList,by simp[Builtin.zeroCells,hzs],?_⟩;have hbig:¬(Builtin.nextslicecap (sLen+n) sCap*info.bytes > 2^48):=by have:=OF info.bytes (qC hnot);show ¬(281474976710656<_);omega
 have hk:(match d1 with|.int _=>true|_=>false)=false:=acv
 have hmax:¬(((sLen+n:Nat):Int) > IntKind.i64.max/\(false=true\/info.bytes=0)):=by
  intro q;have h1:=q.1;have:IntKind.i64.max=9223372036854775807:=acw
  rw[this]at h1;omega
 unfold Builtin.append_;simp only[ht0,ht1,pu,pm,rx,Sem.run_bind,run_underlying hu0,run_underlying hu1,Result.andThen_ok,run_sizeOf hs,Sem.run_pure,run_typeInfo hi];rw[qr aci];simp only[Sem.run_bind,hn,Result.andThen_ok];rw[qr (by omega:¬sLen+n<=sCap)];simp only[Sem.run_bind,run_typeInfo hi,Result.andThen_ok];rw[qr hmax];simp only[Sem.run_bind,run_typeInfo hi,Result.andThen_ok];rw[qr hbig];simp only[Sem.run_bind,run_choose,Question.forced,GE,abu,Result.andThen_ok,run_typeInfo hi,run_askRoom,hold,hc,Bool.not_false,abE,hnew,hz0,newRow,run_newObj,Sem.run_pure];congr 3
 simp_all
variable{w':World}{off:Nat}
theorem zt
  (ht0:ts[0]?=some t0) (ht1:ts[1]?=some t1) (hu0:P.underlying t0=some (.slice elem)) (hu1:P.underlying t1=some d1) (hd:∀k,d1≠.int k) (hs:cz P elem=some sz)
  (hn:(Builtin.lenOf X).run P w=.ok n w) (hfit:sLen+n<=sCap) (hnew:(Builtin.firstCells sz n X).run P w=.ok (aL s new).toArray w)
  (hst:(storeCells ⟨b,off+sLen*sz,none⟩ (aL s new)).run P w=.ok () w') :
  (Builtin.append_ ts ty #[.slice (some ⟨b,off,none⟩) sLen sCap,X]).run P w=.ok (.slice (some ⟨b,off,none⟩) (sLen+n) sCap) w':=by
 have hk:(match d1 with|.int _=>true|_=>false)=false:=acv
 unfold Builtin.append_;simp only[ht0,ht1,pu,pm,rx,Sem.run_bind,run_underlying hu0,run_underlying hu1,Result.andThen_ok,run_sizeOf hs,Sem.run_pure];rw[qr aci];simp only[Sem.run_bind,hn,Result.andThen_ok];rw[ut hfit];simp only[Sem.run_bind,Bool.not_false,abE,hnew,Result.andThen_ok,dk,hst,Sem.run_pure]
theorem GI
  (ht0:ts[0]?=some t0) (ht1:ts[1]?=some t1) (hu0:P.underlying t0=some (.slice elem)) (hu1:P.underlying t1=some d1) (hd:∀k,d1≠.int k) (hs:cz P elem=some sz)
  (hn:(Builtin.lenOf X).run P w=.ok 0 w) (hnew:(Builtin.firstCells sz 0 X).run P w=.ok (aL s l).toArray w) :
  (Builtin.append_ ts ty #[.slice none 0 0,X]).run P w=.ok (.slice none 0 0) w:=by
 have hk:(match d1 with|.int _=>true|_=>false)=false:=acv
 unfold Builtin.append_;simp only[ht0,ht1,pu,pm,rx,Sem.run_bind,run_underlying hu0,run_underlying hu1,Result.andThen_ok,run_sizeOf hs,Sem.run_pure]
 simp_all
theorem Qm(hzl:(bV z).length=sz):Builtin.zeroCells (ah s z).cells n=(aL s (rep n (bV z))).toArray:=by refine Hg s _ n _ _ (jL s z) ?_;rw[<-NE,jL,ga]
variable{ki:IntKind}{kx:IntKind}{xi:Int}
theorem XK
  (ht0:ts[0]?=some t0) (ht1:ts[1]?=some t1) (hu0:P.underlying t0=some (.slice elem)) (hu1:P.underlying t1=some (.int ki)) (hs:cz P elem=some sz) (hz:dL P elem=some z)
  (hi:P.info? elem=some info) (hzl:(bV z).length=sz) (hpos:0<sz) (hn:IntKind.i64.wrap xi=(n:Int)) (hnb:n*info.bytes<=281474976710656) (hnot:sCap<sLen+n) (hb:(2*(sLen+n)+192)*info.bytes<=281474976710656) (hne:sLen+n<=1099511627776)
  (hold:∀d,(Builtin.firstCells sz sLen (.slice base sLen sCap)).run P { w with drawn:=d }=.ok (aL s old).toArray { w with drawn:=d }) :
  ∃c,sLen+n<=c/\c<=9223372036854775807/\∃d,∃rest:kw,rest.length=(c-(sLen+n))*sz/\(Builtin.append_ ts ty #[.slice base sLen sCap,.int kx xi]).run P w =
   .ok (.slice (some ⟨w.heap.size,0,none⟩) (sLen+n) c) { w with drawn:=d,heap:=w.heap.push (.cells (aL s old++aL s (rep n (bV z))++rest).toArray elem (0,0)) }:=by
 refine⟨(Question.appendCap (sLen+n) sCap elem).cut (w.tape w.drawn (.appendCap (sLen+n) sCap elem)),by simp[Question.cut],JI _ _ _ _ acs,w.drawn+1,?_⟩;have hz0:=fZ hz s;have hzs:(ah s z).cells.size=sz:=by rw[<-NE,jL,ga,hzl]
 generalize hc:(Question.appendCap (sLen+n) sCap elem).cut (w.tape w.drawn (.appendCap (sLen+n) sCap elem))=c;refine⟨(Builtin.zeroCells (ah s z).cells (c-(sLen+n))).toList,by simp[Builtin.zeroCells,hzs],?_⟩;have hbig:¬(Builtin.nextslicecap (sLen+n) sCap*info.bytes > 2^48):=by have:=OF info.bytes (qC hnot);show ¬(281474976710656<_);omega
 have hmax:¬(((sLen+n:Nat):Int) > IntKind.i64.max/\(True\/info.bytes=0)):=by
  intro q;have h1:=q.1;have:IntKind.i64.max=9223372036854775807:=acw
  rw[this]at h1;omega
 have hlow:¬((n:Int)<0):=acs
 have hhigh:¬((n:Int)*(info.bytes:Int) > 2^48):=acs
 have hsz:n≠0->¬(n*sz=0):=fun h q=>by rcases Nat.mul_eq_zero.1 q with r|r<;>omega
 unfold Builtin.append_;simp only[ht0,ht1,pu,pm,rx,Sem.run_bind,run_underlying hu0,run_underlying hu1,Result.andThen_ok,run_sizeOf hs,Sem.run_pure,run_typeInfo hi];rw[ut trivial];simp only[asInt,asIntOf,Sem.run_bind,Sem.run_pure,Result.andThen_ok,hn];rw[qr hlow];simp only[Sem.run_bind,run_typeInfo hi,Result.andThen_ok];rw[qr hhigh];simp only[Sem.run_bind,Sem.run_pure,Result.andThen_ok,Fr];rw[qr (by omega:¬sLen+n<=sCap)];simp only[Sem.run_bind,run_typeInfo hi,Result.andThen_ok];rw[qr hmax];simp only[Sem.run_bind,run_typeInfo hi,Result.andThen_ok];rw[qr hbig];simp only[Sem.run_bind,run_choose,Question.forced,GE,abu,Result.andThen_ok,run_typeInfo hi,run_askRoom,hold,hc,Bool.not_true];by_cases hn0:n*sz=0
 .have hn1:n=0:=by rcases Nat.mul_eq_zero.1 hn0 with r|r<;>omega
  subst hn1;rw[ut hn0];simp only[Sem.run_pure,Result.andThen_ok,hz0,Sem.run_bind,newRow,run_newObj];congr 3;apply abp (fun x=>Obj.cells x elem (0,0));apply IS.1;simp[rep,aL]
 .rw[qr hn0];simp only[Sem.run_bind,Sem.run_pure,Result.andThen_ok,hz0,newRow,run_newObj];congr 3;apply abp (fun x=>Obj.cells x elem (0,0));apply IS.1;rw[Qm (n:=n) hzl];simp
theorem XL
  (ht0:ts[0]?=some t0) (ht1:ts[1]?=some t1) (hu0:P.underlying t0=some (.slice elem)) (hu1:P.underlying t1=some (.int ki)) (hs:cz P elem=some sz) (hz:dL P elem=some z)
  (hi:P.info? elem=some info) (hzl:(bV z).length=sz) (hpos:0<sz) (hn:IntKind.i64.wrap xi=(n:Int)) (hnb:n*info.bytes<=281474976710656) (hfit:sLen+n<=sCap)
  (hst:(storeCells ⟨b,off+sLen*sz,none⟩ (aL s (rep n (bV z)))).run P w=.ok () w') :
  (Builtin.append_ ts ty #[.slice (some ⟨b,off,none⟩) sLen sCap,.int kx xi]).run P w=.ok (.slice (some ⟨b,off,none⟩) (sLen+n) sCap) w':=by
 have hz0:=fZ hz s;have hlow:¬((n:Int)<0):=acs
 have hhigh:¬((n:Int)*(info.bytes:Int) > 2^48):=acs
 unfold Builtin.append_;simp only[ht0,ht1,pu,pm,rx,Sem.run_bind,run_underlying hu0,run_underlying hu1,Result.andThen_ok,run_sizeOf hs,Sem.run_pure,run_typeInfo hi];rw[ut trivial];simp only[asInt,asIntOf,Sem.run_bind,Sem.run_pure,Result.andThen_ok,hn];rw[qr hlow];simp only[Sem.run_bind,run_typeInfo hi,Result.andThen_ok];rw[qr hhigh];simp only[Sem.run_bind,Sem.run_pure,Result.andThen_ok,Fr];rw[ut hfit];simp only[Sem.run_bind,Bool.not_true,GE,abu];by_cases hn0:n*sz=0
 .have hn1:n=0:=by rcases Nat.mul_eq_zero.1 hn0 with r|r<;>omega
  subst hn1;rw[ut hn0];simp only[rep,aL]at hst;simp only[Sem.run_pure,Result.andThen_ok,dk,Sem.run_bind,hst]
 .rw[qr hn0];simp only[Sem.run_bind,Sem.run_pure,Result.andThen_ok,hz0,Qm (n:=n) hzl,dk,hst]
def JC(h:Hp)(d:TypeDesc)(sz by_:Nat)(z x:AV):Option (Nat×List AV):=match d with
 |.int _=>match x with
  |.int _ xi=>match IntKind.i64.wrap xi with
   |.ofNat n=>match Nat.ble (n*by_) 281474976710656 with|true=>some (n,rep n (bV z))|false=>none
   |.negSucc _=>none
  |_=>none
 |_=>mI h sz x
def vR:TypeDesc->Bool|.int _=>false|_=>true
def nW(h:Hp)(elem sz by_ need:Nat)(l:List AV):Option (AV×Hp):=match Nat.ble ((2*need+192)*by_) 281474976710656,Nat.ble need 1099511627776 with
 |true,true=>match Tr.set FT h.tr h.next (some (.cells l elem (some sz)))with|some tr=>some (.slice h.next 0 need true 0,⟨tr,h.next+1⟩)|none=>none
 |_,_=>none
def nN(P:Program)(h:Hp)(ts:Array TypeId)(su x:AV):Option (AV×Hp):=match nth ts.toList 0,nth ts.toList 1 with
 |some t0,some t1=>match P.underlying t0,P.underlying t1 with
  |some (.slice elem),some d1=>match cz P elem,dL P elem,gb P elem with
   |some sz,some z,some by_=>match Nat.beq (bV z).length sz,Nat.blt 0 sz,JC h d1 sz by_ z x with
    |true,true,some (n,new)=>match su with
     |.bu=>match n,vR d1 with|0,true=>some (.bu,h)|0,false=>none|n+1,_=>nW h elem sz by_ (n+1) new
     |.slice b off len false c=>match Nat.ble (len+n) c with
      |true=>match mM h b (off+len*sz) new with|some h'=>some (.slice b off (len+n) false c,h')|none=>none
      |false=>match mI h sz (.slice b off len false c)with|some (_,old)=>nW h elem sz by_ (len+n) (old++new)|none=>none
     |.slice b 0 len true 0=>match h.tr.get b with
      |some (.cells l ty (some z'))=>match Nat.beq z' sz,Nat.beq ty elem,Nat.ble (len*sz) l.length,jh new,Nat.ble ((2*(len+n)+192)*by_) 281474976710656,Nat.ble (len+n) 1099511627776 with
       |true,true,true,true,true,true=>match Tr.set FT h.tr b none with
        |some tr=>match Tr.set FT tr h.next (some (.cells (takeN (len*sz) l++new) elem (some sz)))with|some tr=>some (.slice h.next 0 (len+n) true 0,⟨tr,h.next+1⟩)|none=>none
        |none=>none
       |_,_,_,_,_,_=>none
      |_=>none
     |_=>none
    |_,_,_=>none
   |_,_,_=>none
  |_,_=>none
 |_,_=>none
theorem ab.drew(H:ab s h w)(d:Nat):ab s h { w with drawn:=d }:=⟨H.obj,H.inj,H.lt,H.fO⟩
variable{h':Hp}{v:AV}{c:Nat}
theorem GU{elem by_ d:Nat}(e:nW h elem sz by_ need l=some (v,h'))(H:ab s h w){rest:kw}
  (hl:l.length=need*sz) (hc:need<=c) (hcm:c<=9223372036854775807) (hr:rest.length=(c-need)*sz) (hw:cC h.next l=true) :
  ab (aQ s h.next (w.heap.size,c)) h' { w with drawn:=d,heap:=w.heap.push (.cells (aL s l++rest).toArray elem (0,0)) } /\
  Ext s h w (aQ s h.next (w.heap.size,c)) h' { w with drawn:=d,heap:=w.heap.push (.cells (aL s l++rest).toArray elem (0,0)) } /\
  ah (aQ s h.next (w.heap.size,c)) v=.slice (some ⟨w.heap.size,0,none⟩) need c/\ws h'.next v=true:=by
 unfold nW at e;split at e<;>try cases e
 split at e<;>try cases e
 rename_i tr ht;have hn:=(H.drew d).new (c:=c) (o':=.cells l elem (some sz)) (by
  refine⟨rest,?_,?_,?_⟩
  .rw[KZ hw]
  .rw[cE,hl,hr,<-Ne];congr 1;omega
  .rw[cE];exact hcm) (nM acv hw) ht
 exact⟨hn.1,(Ext.drew s h w d).trans hn.2,by simp[ah,cE],by simp[ws]⟩
theorem yW{su:AV}(e:nN P h ts su x=some (v,h'))(H:ab s h w)(hws:ws h.next su=true) :
  ∃s' w',(Builtin.append_ ts ty #[ah s su,ah s x]).run P w=.ok (ah s' v) w'/\ab s' h' w'/\Ext s h w s' h' w'/\ws h'.next v=true:=by
 unfold nN at e;split at e<;>try cases e
 rename_i t0 t1 ht0 ht1;have ht0:ts[0]?=some t0:=by rw[bW]at ht0;simpa using ht0
 have ht1:ts[1]?=some t1:=by rw[bW]at ht1;simpa using ht1
 split at e<;>try cases e
 rename_i elem d1 hu0 hu1;split at e<;>try cases e
 rename_i sz z by_ hs hz hb;obtain⟨info,hi,rfl⟩:∃info,P.info? elem=some info/\info.bytes=by_:=by unfold gb at hb;cases hi:P.info? elem<;>simp[hi]at hb;exact⟨_,rfl,hb⟩
 split at e<;>try cases e
 rename_i n new hzl hpos hsrc;have hzl:=aW hzl;rw[WP]at hpos;have src:cC h.next new=true/\new.length=n*sz /\
   (∀(base:lc) (sLen sCap:Nat) (old:List AV),sCap<sLen+n->(2*(sLen+n)+192)*info.bytes<=281474976710656->sLen+n<=1099511627776 ->
    (∀d,(Builtin.firstCells sz sLen (.slice base sLen sCap)).run P { w with drawn:=d }=.ok (aL s old).toArray { w with drawn:=d }) ->
    ∃c,sLen+n<=c/\c<=9223372036854775807/\∃d,∃rest:kw,rest.length=(c-(sLen+n))*sz/\(Builtin.append_ ts ty #[.slice base sLen sCap,ah s x]).run P w =
     .ok (.slice (some ⟨w.heap.size,0,none⟩) (sLen+n) c) { w with drawn:=d,heap:=w.heap.push (.cells (aL s old++aL s new++rest).toArray elem (0,0)) }) /\
   (∀(b off sLen sCap:Nat) (w':World),sLen+n<=sCap->(storeCells ⟨b,off+sLen*sz,none⟩ (aL s new)).run P w=.ok () w' ->
    (Builtin.append_ ts ty #[.slice (some ⟨b,off,none⟩) sLen sCap,ah s x]).run P w=.ok (.slice (some ⟨b,off,none⟩) (sLen+n) sCap) w') /\
   (n=0->(∀k,d1≠.int k)->(Builtin.append_ ts ty #[.slice none 0 0,ah s x]).run P w=.ok (.slice none 0 0) w):=by
  unfold JC at hsrc;split at hsrc
  .rename_i ki;split at hsrc<;>try cases hsrc
   rename_i kx xi;split at hsrc<;>try cases hsrc
   rename_i n' hwr;split at hsrc<;>try cases hsrc
   rename_i hnb;have hnb:=pi hnb;refine⟨BH (oS (yS hz _)) _,by rw[y8,hzl],?_,?_,?_⟩
   .intro base sLen sCap old h1 h2 h3 h4;exact XK ht0 ht1 hu0 hu1 hs hz hi hzl hpos hwr hnb h1 h2 h3 h4
   .intro b off sLen sCap w' h1 h2;exact XL ht0 ht1 hu0 hu1 hs hz hi hzl hpos hwr hnb h1 h2
   .intro _ h;exact absurd rfl (h ki)
  .rename_i hni;have hd:∀k,d1≠.int k:=fun k q=>hni k q;obtain⟨hlen,hfirst,hneww,hnewl⟩:=nH (P:=P) hsrc H;have hfirstd:∀d,(Builtin.firstCells sz n (ah s x)).run P { w with drawn:=d }=.ok (aL s new).toArray { w with drawn:=d }:=fun d=>(nH (P:=P) hsrc (H.drew d)).2.1;refine⟨hneww,hnewl,?_,?_,?_⟩
   .intro base sLen sCap old h1 h2 h3 h4;exact tE ht0 ht1 hu0 hu1 hd hs hz hi hzl hlen h1 h2 h3 h4 hfirstd
   .intro b off sLen sCap w' h1 h2;exact zt ht0 ht1 hu0 hu1 hd hs hlen h1 hfirst h2
   .intro h0 _;subst h0;exact GI ht0 ht1 hu0 hu1 hd hs hlen hfirst
 obtain⟨hneww,hnewl,Grow,Fits,Nil⟩:=src;split at e
 .split at e
  .rename_i hni;simp only[bf,ww]at e;obtain⟨rfl,rfl⟩:=e;exact⟨s,w,Nil rfl (fun k q=>by subst q;cases hni),H,Ext.refl _ _ _,rfl⟩
  .cases e
  .rename_i n _ _;have hg:=e;unfold nW at hg;split at hg<;>try cases hg
   rename_i q1 q2;have q1:=pi q1;have q2:=pi q2;obtain⟨c,hc,hcm,d,rest,hr,hrun⟩:=Grow none 0 0 [] acs (by simpa using q1) acs (fun d=>by simp[Builtin.firstCells,aL]);simp only[acg]at hc hr hrun;obtain⟨h1,h2,h3,h4⟩:=GU (d:=d) (rest:=rest) e H hnewl hc hcm hr hneww;refine⟨_,_,?_,h1,h2,h4⟩;rw[h3];simpa[ah,aL]using hrun
 .rename_i b off len c;split at e
  .rename_i hf;have hf:=pi hf;split at e<;>try cases e
   rename_i hw;obtain⟨w',hr,hH,hE⟩:=tq (P:=P) hw H hneww;refine⟨s,w',?_,hH,hE,mJ hE.next _ (by simpa[ws]using hws)⟩;exact Fits _ _ _ _ _ hf hr
  .rename_i hf;have hf:¬len+n<=c:=fun q=>by rw[aaY q]at hf;cases hf
   split at e<;>try cases e
   rename_i k old hold;obtain⟨hl2,hf2,ho2,hol⟩:=nH (P:=P) hold H;have hk:k=len:=by simp only[ah,Builtin.lenOf,Sem.run_pure,ST,abj]at hl2;exact hl2.symm
   subst hk;have hg:=e;unfold nW at hg;split at hg<;>try cases hg
   rename_i q1 q2;have q1:=pi q1;have q2:=pi q2;obtain⟨cc,hc,hcm,d,rest,hr,hrun⟩:=Grow (some ⟨(s b).1,off,none⟩) k c old acs (by simpa using q1) acs (fun d=>(nH (P:=P) hold (H.drew d)).2.1);obtain⟨h1,h2,h3,h4⟩:=GU (d:=d) (rest:=rest) e H (by rw[aP,hol,hnewl,Ne]) hc hcm hr (mE ho2 hneww);refine⟨_,_,?_,h1,h2,h4⟩;rw[h3];simpa[ah,oN]using hrun
 .rename_i b len;split at e<;>try cases e
  rename_i l ty' z' hgb;split at e<;>try cases e
  rename_i q1 q2 q3 q4 q5 q6;have q1:=aW q1;have q2:=aW q2;have q3:=pi q3;have q5:=pi q5;have q6:=pi q6;subst q1 q2;split at e<;>try cases e
  rename_i aeM aeb;split at e<;>try cases e
  rename_i aeN aec;obtain⟨tail,hw,_,htl⟩:=H.cells hgb;obtain⟨htl,hcs⟩:=htl _ rfl;have hL:=ga s l;have hN:=ga s new;have hlw:cC h.next l=true:=H.fO _ _ hgb;have hall:cC h.next (takeN (len*z') l++new)=true:=mE (zh hlw) hneww;by_cases hfit:len+n<=(s b).2
  .have hsz:(len+n)*z'<=(s b).2*z':=OF _ hfit;rw[Ne]at hsz;obtain⟨c',hc',hr⟩:=jj (P:=P) (off:=len*z') (aL s new) 0 w _ hw (by simp;omega) (by intro v hv;rw[oW]at hv;obtain⟨y,hy,rfl⟩:=IN.1 hv;exact Lq ((Lr new).1 q4 y hy));have hmv:=H.move (ob:=.cells c' ty' (0,0)) (o':=.cells (takeN (len*z') l++new) ty' (some z')) hgb aeb aec (by
    refine⟨c'.toList.drop ((len+n)*z'),?_,?_,by rw[cE];exact hcs⟩
    .rw[KZ hall];congr 2;apply IS.1;simp only[List.toList_toArray];rw[hc',oN,eu,oR];simp only[aaW];rw[abg acs,bJ]
     conv=>rhs;rw[bJ]
     congr 2;rw[Ne,<-bJ];rw[show len*z'+n*z'=((aL s l).take (len*z')++aL s new).length by simp;omega];rw[List.drop_left]
    .have h1:c'.toList.length=(s b).2*z':=by rw[hc'];simp;omega
     rw[cE,abt,h1,aP,eu,ep,hnewl,acj q3,Ne];omega) hall
   refine⟨_,_,?_,hmv.1,hmv.2,by simp[ws]⟩;have:=Fits (s b).1 0 len ((s b).2-0) (bU w (s b).1 (.cells c' ty' (0,0))) acs (by simpa using hr);simpa[ah,cE]using this
  .have hold:mI h z' (.slice b 0 len true 0)=some (len,takeN (len*z') l):=by simp only[mI,hgb];rw[show Nat.ble (0+len*z') l.length=true from aaY acs];simp[du]
   obtain⟨hl2,hf2,ho2,hol⟩:=nH (P:=P) hold H;obtain⟨cc,hc,hcm,d,rest,hr,hrun⟩:=Grow (some ⟨(s b).1,0,none⟩) len ((s b).2-0) (takeN (len*z') l) acs (by simpa using q5) acs (fun d=>(nH (P:=P) hold (H.drew d)).2.1);have hk:=H.kill aeb;have he:nW ⟨aeM,h.next⟩ ty' z' info.bytes (len+n) (takeN (len*z') l++new)=some (.slice h.next 0 (len+n) true 0,⟨aeN,h.next+1⟩):=by unfold nW;rw[aaY q5,aaY q6];simp only[aec]
   obtain⟨h1,h2,h3,h4⟩:=GU (d:=d) (rest:=rest) he hk.1 (by rw[aP,hol,hnewl,Ne]) hc hcm hr hall;refine⟨_,_,?_,h1,hk.2.trans h2,h4⟩;rw[h3];simpa[ah,oN]using hrun
 .cases e
def oB(P:Program)(h:Hp)(ts:Array TypeId)(d x:AV):Option (AV×Hp):=match nth ts.toList 0 with
 |some t0=>match P.underlying t0 with
  |some (.slice elem)=>match cz P elem with
   |some sz=>match x with
    |.bu=>match d with
     |.bu=>some (.int .i64 0,h)|.slice b _ _ _ _=>match h.tr.get b with|some (.cells _ _ _)=>some (.int .i64 0,h)|_=>none
     |_=>none
    |.slice b off m u c=>match d with
     |.slice b2 off2 dLen _ _=>match mI h sz (.slice b off (Nat.min m dLen) u c)with
      |some (n,l)=>match mM h b2 off2 l with|some h'=>some (.int .i64 (n:Int),h')|none=>none
      |none=>none
     |_=>none
    |_=>none
   |none=>none
  |_=>none
 |none=>none
theorem Cc{d:AV}(e:oB P h ts d x=some (v,h'))(H:ab s h w) :
  ∃w',(Builtin.copy_ ts ty #[ah s d,ah s x]).run P w=.ok (ah s v) w'/\ab s h' w'/\Ext s h w s h' w'/\ws h'.next v=true:=by
 unfold oB at e;split at e<;>try cases e
 rename_i t0 ht0;have ht0:ts[0]?=some t0:=by rw[bW]at ht0;simpa using ht0
 split at e<;>try cases e
 rename_i elem hu;split at e<;>try cases e
 rename_i sz hs;split at e
 .split at e
  .obtain⟨rfl,rfl⟩:=e;refine⟨w,?_,H,Ext.refl _ _ _,rfl⟩;simp[Builtin.copy_,ht0,run_underlying hu,ah,Builtin.lenOf,run_sizeOf hs,Builtin.firstCells,goInt]
  .split at e<;>try cases e
   refine⟨w,?_,H,Ext.refl _ _ _,rfl⟩;simp[Builtin.copy_,ht0,run_underlying hu,ah,Builtin.lenOf,run_sizeOf hs,Builtin.firstCells,goInt,storeCells]
  .cases e
 .rename_i b off m u c;split at e<;>try cases e
  rename_i b2 off2 dLen u2 c2;split at e<;>try cases e
  rename_i n l hsrc;split at e<;>try cases e
  rename_i hw;obtain⟨h1,h2,h3,h4⟩:=nH (P:=P) hsrc H;have hn:n=Nat.min m dLen:=by simp only[ah,Builtin.lenOf,Sem.run_pure,ST,abj]at h1;exact h1.symm
  subst hn;obtain⟨w',hr,hH,hE⟩:=tq (P:=P) hw H h3;refine⟨w',?_,hH,hE,rfl⟩;have h2':(Builtin.firstCells sz (Nat.min m dLen) (ah s (.slice b off m u c))).run P w=.ok (aL s l).toArray w:=h2;have hlen:(Builtin.lenOf (ah s (.slice b off m u c))).run P w=.ok m w:=rfl;have hd:ah s (.slice b2 off2 dLen u2 c2)=.slice (some ⟨(s b2).1,off2,none⟩) dLen (match u2 with|true=>(s b2).2-c2|false=>c2):=rfl;simp only[Builtin.copy_,ht0,pu,pm,rx,Sem.run_bind,run_underlying hu,Result.andThen_ok,hd,hlen,run_sizeOf hs,h2',hr,Sem.run_pure];simp[ah,goInt]
 .cases e
def pC(d:TypeDesc)(k:Value):List (AV×AV×Nat)->Nat->Option (Option (Nat×AV))
 |[],_=>some none|e::es,i=>match gB e.1 with
  |some x=>match Instr.sameNow d k x with|some true=>some (some (i,e.2.1))|some false=>pC d k es (i+1)|none=>none
  |none=>none
theorem KW{d:TypeDesc}{k:Value}(s:Sg):∀{es:List (AV×AV×Nat)}{i:Nat}{r:Option (Nat×AV)},pC d k es i=some r ->
  Instr.findNow d k (dD s es) i=some (r.map fun p=>(p.1,ah s p.2))
 |[],i,r,h=>by simp[pC]at h;subst h;rfl|e::es,i,r,h=>by
  simp only[pC]at h;split at h<;>try cases h
  rename_i x hx;simp only[dD,Pi,Instr.findNow,iS hx];split at h
  .rename_i q;simp at h;subst h;simp[q]
  .rename_i q;simp_all;exact KW s h
  .cases h
def rf(P:Program)(kt:TypeId)(k:Value):List (AV×AV×Nat)->Nat->Option (Option (Nat×AV))
 |[],_=>some none|e::es,i=>match gB e.1 with
  |some x=>match still P 4000 (Op.equal kt k x)with|some true=>some (some (i,e.2.1))|some false=>rf P kt k es (i+1)|none=>none
  |none=>none
theorem KV{P:Program}{kt:TypeId}{k:Value}(s:Sg)(w:World):∀{es:List (AV×AV×Nat)}{i:Nat}{r:Option (Nat×AV)},rf P kt k es i=some r ->
  (Instr.findAsking kt k (dD s es) i).run P w=.ok (r.map fun p=>(p.1,ah s p.2)) w
 |[],i,r,h=>by simp[rf]at h;subst h;rfl|e::es,i,r,h=>by
  simp only[rf]at h;split at h<;>try cases h
  rename_i x hx;simp only[dD,Pi,Instr.findAsking,iS hx];split at h
  .rename_i q;simp at h;subst h;simp[fK q]
  .rename_i q;simp only[Sem.run_bind,fK q,Result.andThen_ok];exact KV s w h
  .cases h
def qK(P:Program)(kt:TypeId)(k:Value)(es:List (AV×AV×Nat)):Option (Option (Nat×AV)):=match P.underlying kt with
 |some d=>match pC d k es 0 with
  |some r=>some r|none=>match es with
   |e::_=>match gB e.1 with
    |some x=>match Instr.sameNow d k x with|none=>rf P kt k es 0|some _=>none
    |none=>none
   |[]=>none
 |none=>none
theorem G9{kt:TypeId}{k:Value}{es:List (AV×AV×Nat)}{r:Option (Nat×AV)}(e:qK P kt k es=some r)(s:Sg)(w:World) :
  (Instr.findKey kt k (dD s es)).run P w=.ok (r.map fun p=>(p.1,ah s p.2)) w:=by
 unfold qK at e;split at e<;>try cases e
 rename_i d hu;split at e
 .rename_i q hq;simp at e;subst e;simp[Instr.findKey,run_underlying hu,KW s hq]
 .split at e<;>try cases e
  rename_i e0 es0 hfa;split at e<;>try cases e
  rename_i x hx;split at e<;>try cases e
  rename_i hn;have h0:Instr.findNow d k (dD s (e0::es0)) 0=none:=by simp[dD,Instr.findNow,iS hx,hn]
  have:=KV s w e;simp only[Instr.findKey,Sem.run_bind,run_underlying hu,Result.andThen_ok,h0];exact this
def entriesOf(h:Hp):AV->Option (List (AV×AV×Nat))
 |.cR=>some []|.map b=>match h.tr.get b with|some (.map es _)=>some es|_=>none
 |_=>none
def rh{α:Type}:List α->Bool|[]=>true|_=>false
def Bw(P:Program)(h:Hp)(t:TypeId)(u k:AV)(ok:Bool):Option AV:=match P.underlying t,entriesOf h u,gB k with
 |some (.map kt et),some es,some kv=>match still P 4000 (Instr.checkKey (rh es) 10000 kt kv),qK P kt kv es with
  |some _,some r=>match r with
   |some (_,v)=>some (match ok with|true=>.bD [v,.bool true]|false=>v)
   |none=>match dL P et with
    |some z=>some (match ok with|true=>.bD [z,.bool false]|false=>z)
    |none=>none
  |_,_=>none
 |_,_,_=>none
theorem G7(s:Sg)(es:List (AV×AV×Nat)):(dD s es).toArray.isEmpty=rh es:=by cases es<;>simp[dD,rh]
variable{u:AV}{k:AV}{t:TypeId}
theorem WD{ok:Bool}(e:Bw P h t u k ok=some v)(H:ab s h w) :
  (Instr.lookup t (ah s u) (ah s k) ok).run P w=.ok (ah s v) w:=by
 unfold Bw at e;split at e<;>try cases e
 rename_i kt et es kv hu he hk;split at e<;>try cases e
 rename_i un r hck hf;have hes:(match ah s u with
  |.map none=>pure #[]|.map (some r)=>do
   let .map es _ <- getObj r|stuck "Lookup: map expected"
   pure es
  |_=>stuck "Lookup: map expected":Sem (Array MapEntry)).run P w=.ok (dD s es).toArray w:=by
  unfold entriesOf at he;split at he
  .simp at he;subst he;rfl
  .rename_i b;split at he<;>try cases he
   rename_i c hb;have:=H.obj b _ hb;simp only[bS]at this;simp[ah,getObj,Sem.run,this]
  .cases he
 have hck':(Instr.checkKey (rh es) 10000 kt kv).run P w=.ok un w:=fK hck w;have hf':=G9 hf s w;have key:∀(x:Value) (b:Bool),(match r with|some (_,v)=>(ah s v,true)|none=>(x,false)).1=(match r with|some (_,v)=>ah s v|none=>x):=by intro x b;cases r<;>rfl
 simp only[Instr.lookup,Sem.run_bind,run_underlying hu,Result.andThen_ok,iS hk]at hes |-;cases u with
 |cR=>
  have hE:es=[]:=by simpa[entriesOf]using he.symm
  subst hE;have hr:r=none:=by unfold qK at hf;cases hd:P.underlying kt with|none=>simp[hd]at hf|some d=>simp[hd,pC]at hf;exact hf.symm
  subst hr;simp only[ah,Sem.run_bind,Sem.run_pure,Result.andThen_ok];have h1:(Instr.checkKey (#[]:Array MapEntry).isEmpty 10000 kt kv).run P w=.ok un w:=hck';have h2:(Instr.findKey kt kv (#[]:Array MapEntry).toList).run P w=.ok none w:=hf';simp only[h1,h2,Result.andThen_ok];simp only[]at e;cases hz:dL P et<;>simp only[hz]at e
  .cases e
  simp only[bf]at e;subst e;cases ok<;>simp[fZ hz s,ah,aL]
 |map b=>
  unfold entriesOf at he;simp only[]at he;split at he<;>try cases he
  rename_i c hb;have ho:=H.obj b _ hb;simp only[bS]at ho;have hg:(getObj (s b).1).run P w=.ok (.map (dD s es).toArray c) w:=by simp[getObj,Sem.run,ho]
  have h1:(Instr.checkKey (dD s es).toArray.isEmpty 10000 kt kv).run P w=.ok un w:=by rw[G7];exact hck'
  simp only[ah,Sem.run_bind,hg,Result.andThen_ok,Sem.run_pure,h1,hf'];cases r with
  |some q=>simp only[bf]at e;subst e;cases ok<;>simp[ah,aL]
  |none=>
   simp only[]at e;cases hz:dL P et<;>simp only[hz]at e
   .cases e
   simp only[bf]at e;subst e;cases ok<;>simp[fZ hz s,ah,aL]
 |_=>simp[entriesOf]at he
def oE:List (AV×AV×Nat)->Nat->AV->AV->List (AV×AV×Nat)
 |[],_,_,_=>[]|e::es,n,k,v=>match n with|0=>(k,v,e.2.2)::es|n+1=>e::oE es n k v
theorem KH(s:Sg)(k v:AV):∀(es:List (AV×AV×Nat)) (i:Nat),dD s (oE es i k v)=(dD s es).modify i (fun e=>{ e with key:=ah s k,val:=ah s v })
 |[],i=>by cases i<;>rfl
 |e::es,0=>by simp[oE,dD]|e::es,i+1=>by have:=KH s k v es i;simp only[dD]at this;simp[oE,dD,this]
theorem Mf{n:Nat}{k v:AV}(hk:ws n k=true)(hv:ws n v=true):∀{es:List (AV×AV×Nat)}{i:Nat},pq n es=true->pq n (oE es i k v)=true
 |[],i,h=>by cases i<;>exact h
 |e::es,0,h=>by
  simp only[nP]at h |-;intro x hx;rcases BY.1 hx with rfl|hx
  .exact⟨hk,hv⟩
  grind
 |e::es,i+1,h=>by
  simp only[nP]at h;have:=Mf hk hv (i:=i) ((nP n es).2 (fun x hx=>h x (abl _ hx)));simp only[nP]at this |-;intro x hx;rcases BY.1 hx with rfl|hx
  .exact h _ acv
  .exact this x hx
def zz(P:Program)(h:Hp)(t:TypeId)(m k v:AV):Option Hp:=match m with
 |.map b=>match P.underlying t,h.tr.get b,gB k with
  |some (.map kt _),some (.map es c),some kv=>match still P 4000 (Instr.checkKey false 10000 kt kv),qK P kt kv es with
   |some _,some r=>match r with
    |some (i,_)=>match nth es i with
     |some e=>match gB e.1 with
      |some ok=>match still P 4000 (Instr.keyThatStays ok kv)with
       |some kk=>match back kk with
        |some kk=>match Tr.set FT h.tr b (some (.map (oE es i kk v) c))with|some tr=>some ⟨tr,h.next⟩|none=>none
        |none=>none
       |none=>none
      |none=>none
     |none=>none
    |none=>match Tr.set FT h.tr b (some (.map (es++[(k,v,c)]) (c+1)))with|some tr=>some ⟨tr,h.next⟩|none=>none
   |_,_=>none
  |_,_,_=>none
 |_=>none
theorem y7{r:Nat}{es:Array MapEntry}{o:Obj}(h:w.heap[r]?=some (.map es c)):(setObj r o).run P w=.ok () (bU w r o):=by simp[setObj,Sem.run,h,bU]
variable{m:AV}
theorem Qx(e:zz P h t m k v=some h')(H:ab s h w)(hk:ws h.next k=true)(hv:ws h.next v=true) :
  ∃w',(Instr.mapUpdate t (ah s m) (ah s k) (ah s v)).run P w=.ok () w'/\ab s h' w'/\Ext s h w s h' w':=by
 unfold zz at e;split at e<;>try cases e
 rename_i b;split at e<;>try cases e
 rename_i kt et es c kv hu hb hsk;split at e<;>try cases e
 rename_i un r hck hf;have hck':=fK hck w;have hf':=G9 hf s w;have ho:=H.obj b _ hb;have hwe:=H.fO b _ hb;simp only[bS]at ho;have hg:(getObj (s b).1).run P w=.ok (.map (dD s es).toArray c) w:=by simp[getObj,Sem.run,ho]
 cases r with
 |some q=>
  obtain⟨i,x⟩:=q;simp only[]at e;split at e<;>try cases e
  rename_i e0 he0;split at e<;>try cases e
  rename_i okv bM;split at e<;>try cases e
  rename_i kk hkk;split at e<;>try cases e
  rename_i kk' hkk';split at e<;>try cases e
  rename_i tr ht;have hks:=fK hkk w;have hkey:(((dD s es).toArray[i]?).map (·.key)).getD kv=okv:=by rw[bW]at he0;simp[dD,he0,iS bM]
  have:=H.put (ob:=.map ((dD s es).toArray.modify i fun e=>{ e with key:=kk,val:=ah s v }) c) hb rfl
   (o':=.map (oE es i kk' v) c) (by simp only[bS];rw[KH,kI hkk'];simp) (Mf (BZ hkk' _) hv hwe) ht
  refine⟨_,?_,this.1,this.2⟩;simp only[Instr.mapUpdate,ah,Sem.run_bind,run_underlying hu,Result.andThen_ok,hg,iS hsk,hck',hf',abI,hkey,hks,y7 ho]
 |none=>
  simp only[]at e;split at e<;>try cases e
  rename_i tr ht;have:=H.put (ob:=.map ((dD s es).toArray.push { key:=ah s k,val:=ah s v,born:=c }) (c+1)) hb rfl
   (o':=.map (es++[(k,v,c)]) (c+1)) (by simp[bS,dD]) (by
    simp only[iV,nP]at hwe |-
    grind) ht
  refine⟨_,?_,this.1,this.2⟩;simp only[Instr.mapUpdate,ah,Sem.run_bind,run_underlying hu,Result.andThen_ok,hg,iS hsk,hck',hf',abJ];rw[y7 ho]
def sw:List (AV×AV×Nat)->Nat->List (AV×AV×Nat)
 |[],_=>[]|e::es,n=>match n with|0=>es|n+1=>e::sw es n
theorem BW:∀(es:List (AV×AV×Nat)) (i:Nat),sw es i=es.eraseIdx i
 |[],i=>by cases i<;>rfl
 |e::es,0=>rfl|e::es,i+1=>by simp[sw,BW es i]
theorem KI{α β:Type}(f:α->β):∀(l:List α) (i:Nat),(l.map f).eraseIdx i=(l.eraseIdx i).map f
 |[],i=>by simp|x::l,0=>by simp|x::l,i+1=>by simp[KI f l i]
def Bz(P:Program)(h:Hp)(ts:Array TypeId)(m k:AV):Option Hp:=match nth ts.toList 0 with
 |some t=>match m with
  |.map b=>match P.underlying t,h.tr.get b,gB k with
   |some (.map kt _),some (.map es c),some kv=>match still P 4000 (Instr.checkKey (rh es) 10000 kt kv),qK P kt kv es with
    |some _,some r=>match r with
     |some (i,_)=>match Tr.set FT h.tr b (some (.map (sw es i) c))with|some tr=>some ⟨tr,h.next⟩|none=>none
     |none=>match Tr.set FT h.tr b (some (.map es c))with|some tr=>some ⟨tr,h.next⟩|none=>none
    |_,_=>none
   |_,_,_=>none
  |_=>none
 |none=>none
theorem WG(e:Bz P h ts m k=some h')(H:ab s h w) :
  ∃w',(Builtin.delete_ ts ty #[ah s m,ah s k]).run P w=.ok (.tuple #[]) w'/\ab s h' w'/\Ext s h w s h' w':=by
 unfold Bz at e;split at e<;>try cases e
 rename_i t ht0;have ht0:ts[0]?=some t:=by rw[bW]at ht0;simpa using ht0
 split at e<;>try cases e
 rename_i b;split at e<;>try cases e
 rename_i kt et es c kv hu hb hsk;split at e<;>try cases e
 rename_i un r hck hf;have hck':=fK hck w;have hf':=G9 hf s w;have ho:=H.obj b _ hb;have hwe:=H.fO b _ hb;simp only[bS]at ho;have hg:(getObj (s b).1).run P w=.ok (.map (dD s es).toArray c) w:=by simp[getObj,Sem.run,ho]
 cases r with
 |some q=>
  obtain⟨i,x⟩:=q;simp only[]at e;split at e<;>try cases e
  rename_i tr ht;have:=H.put (ob:=.map ((dD s es).toArray.eraseIdxIfInBounds i) c) hb rfl (o':=.map (sw es i) c) (by
    simp only[bS];rw[BW];simp only[dD,<-KI]
    grind) (by
    simp only[iV,nP,BW]at hwe |-;exact fun x hx=>hwe x (List.mem_of_mem_eraseIdx hx)) ht
  refine⟨_,?_,this.1,this.2⟩;simp only[Builtin.delete_,ht0,pu,pm,rx,ah,Sem.run_bind,run_underlying hu,Result.andThen_ok,hg,iS hsk,G7,hck',hf',abI,y7 ho,Sem.run_pure]
 |none=>
  simp only[]at e;split at e<;>try cases e
  rename_i tr ht;have:=H.put hb rfl (o':=.map es c) rfl hwe ht;refine⟨_,?_,this.1,this.2⟩;simp only[Builtin.delete_,ht0,pu,pm,rx,ah,Sem.run_bind,run_underlying hu,Result.andThen_ok,hg,iS hsk,G7,hck',hf',abJ,y7 ho,Sem.run_pure]
def lJ(P:Program)(b:Builtin)(ts:Array TypeId)(ty:TypeId)(vs:List AV):Option AV:=match b with
 |.len=>match vs with
  |[u]=>match nth ts.toList 0 with
   |some t=>match P.underlying t with
    |some (.slice _)=>match u with|.slice _ _ n _ _=>some (.int .i64 (n:Int))|.bu=>some (.int .i64 0)|.oH _ n _=>some (.int .i64 (n:Int))|.m8 _ _ _ _=>some (.int .i64 0)|_=>none
    |some .string=>match u with|.str x=>some (.int .i64 (x.size:Int))|_=>none
    |some (.array n _)=>some (.int .i64 (n:Int))|_=>none
   |none=>none
  |_=>none
 |.max=>match me vs with
  |some xs=>match still P 4000 (Builtin.max_ ts ty xs.toArray)with|some r=>back r|none=>none
  |none=>none
 |.min=>match me vs with
  |some xs=>match still P 4000 (Builtin.min_ ts ty xs.toArray)with|some r=>back r|none=>none
  |none=>none
 |_=>none
def rL(P:Program)(T:Tr AV)(o:Oper):Option AV:=match o.op with
 |.move x=>aK T x|.pick c a b=>match aK T c with|some (.bool true)=>aK T a|some (.bool false)=>aK T b|_=>none
 |.nilCheck x=>match aK T x with|some (.ptr b off)=>some (.ptr b off)|some (.func f a c)=>some (.func f a c)|_=>none
 |.binOp op t x y _=>match aK T x,aK T y with|some u,some v=>og P op t x y u v|_,_=>none
 |.unOp op _ x=>match aK T x with
  |some u=>match gB u with
   |some a=>match still P 100 (Op.unary op a)with|some r=>back r|none=>none
   |none=>none
  |none=>none
 |.convert src dst x=>match aK T x with
  |some u=>match gB u with
   |some a=>match still P 4000 (convert src dst a)with|some r=>back r|none=>none
   |none=>none
  |none=>none
 |.extract t i=>match aK T t with|some (.bD l)=>nth l i|_=>none
 |.field t x f=>match aK T x with|some u=>pf P t u f|none=>none
 |.fieldAddr t x f=>match aK T x with|some u=>oV P t u f|none=>none
 |.indexAddr t x i=>match aK T x,aK T i with|some u,some v=>lI P t u v|_,_=>none
 |.index t x i=>match aK T x,aK T i with
  |some u,some v=>match gB u,gB v with
   |some a,some b=>match still P 4000 (Instr.index t a b)with|some r=>back r|none=>none
   |_,_=>none
  |_,_=>none
 |.makeFunc fn first cap=>match fn with
  |.func f=>match di T first.toList,di T cap.toList with|some a,some c=>some (.func f a c)|_,_=>none
  |_=>none
 |.build t parts=>match fL T parts.toList with|some ps=>oZ P t ps|none=>none
 |.call c=>match c.callee with
  |.builtin b=>match di T c.args.toList with|some vs=>lJ P b c.argTypes o.type vs|none=>none
  |_=>none
 |_=>none
variable{vs:List AV}
theorem GH{b:Builtin}{cs:Array Bool}(e:lJ P b ts ty vs=some v)(s:Sg)(w:World) :
  (builtin b ts ty cs (aL s vs).toArray).run P w=.ok (.value (ah s v)) w:=by
 unfold lJ at e;split at e
 .split at e<;>try cases e
  rename_i u;split at e<;>try cases e
  rename_i t ht;have ht:ts[0]?=some t:=by rw[bW]at ht;simpa using ht
  split at e
  .rename_i hu;split at e<;>try cases e
   .simp[builtin,Builtin.len_,ht,aL,run_underlying hu,ah,goInt]
   .simp[builtin,Builtin.len_,ht,aL,run_underlying hu,ah,goInt]
   .simp[builtin,Builtin.len_,ht,aL,run_underlying hu,ah,goInt]
   .simp[builtin,Builtin.len_,ht,aL,run_underlying hu,ah,goInt]
  .rename_i hu;split at e<;>try cases e
   simp[builtin,Builtin.len_,ht,aL,run_underlying hu,ah,goInt]
  .rename_i hu;cases e;simp[builtin,Builtin.len_,ht,aL,run_underlying hu,ah,goInt]
  .cases e
 .split at e<;>try cases e
  rename_i xs hx;split at e<;>try cases e
  rename_i r hr;simp[builtin,y6 hx,fK hr,kI e]
 .split at e<;>try cases e
  rename_i xs hx;split at e<;>try cases e
  rename_i r hr;simp[builtin,y6 hx,fK hr,kI e]
 .cases e
variable{o:Oper}{a:Act}
theorem kH{c:Call}{b:Builtin}(ho:o.op=.call c)(hc:c.callee=.builtin b) :
  (execOp a.eval o).run P w=(builtin b c.argTypes o.type (c.args.map fun|.const _=>true|_=>false) (c.args.map a.eval)).run P w:=by
 unfold execOp;rw[ho];simp only[resolve,hc,Sem.run_bind,Sem.run_pure,Result.andThen_ok,invoke];rfl
variable{T:Tr AV}
theorem qu{o:Op}{l:Array Operand}(h:di T l.toList=some vs)(hO:fA s T a o)(hm:∀x∈l.toList,x∈o.operands) :
  l.map a.eval=(aL s vs).toArray:=by
 apply IS.1;have:=KY h (fun x hx=>hO x (hm x hx));simpa using this
theorem G8(e:rL P T o=some v)(hO:fA s T a o.op)(w:World) :
  (execOp a.eval o).run P w=.ok (.value (ah s v)) w:=by
 unfold rL at e;split at e<;>rename_i ho
 .rename_i x;rw[ho]at hO;simp[execOp,ho,hO x (by simp[Op.operands]) v e]
 .rename_i c x y;rw[ho]at hO;split at e
  .rename_i hc;have h1:=hO c (by simp[Op.operands]) _ hc;simp[execOp,ho,h1,ah,asBool,hO x (by simp[Op.operands]) v e]
  .rename_i hc;have h1:=hO c (by simp[Op.operands]) _ hc;simp[execOp,ho,h1,ah,asBool,hO y (by simp[Op.operands]) v e]
  .cases e
 .rename_i x;rw[ho]at hO;split at e<;>try cases e
  .rename_i hx;simp[execOp,ho,hO x (by simp[Op.operands]) _ hx,ah]
  .rename_i hx;simp[execOp,ho,hO x (by simp[Op.operands]) _ hx,ah]
 .rename_i op t x y yt;rw[ho]at hO;split at e<;>try cases e
  rename_i u u' hx hy;have h1:=hO x (by simp[Op.operands]) _ hx;have h2:=hO y (by simp[Op.operands]) _ hy;have:=Hq e s w;simp only[execOp,ho,h1,h2];rw[Sem.run_bind,this];rfl
 .rename_i op t x;rw[ho]at hO;split at e<;>try cases e
  rename_i u hx;split at e<;>try cases e
  rename_i q hq;split at e<;>try cases e
  rename_i r hr;simp[execOp,ho,hO x (by simp[Op.operands]) _ hx,iS hq,fK hr,kI e]
 .rename_i src dst x;rw[ho]at hO;split at e<;>try cases e
  rename_i u hx;split at e<;>try cases e
  rename_i q hq;split at e<;>try cases e
  rename_i r hr;simp[execOp,ho,hO x (by simp[Op.operands]) _ hx,iS hq,fK hr,kI e]
 .rename_i t i;rw[ho]at hO;split at e<;>try cases e
  rename_i l hx;rw[bW]at e;simp[execOp,ho,hO t (by simp[Op.operands]) _ hx,ah,Instr.extract,zm,e]
 .rename_i t x f;rw[ho]at hO;split at e<;>try cases e
  rename_i u hx;simp[execOp,ho,hO x (by simp[Op.operands]) _ hx,GV e]
 .rename_i t x f;rw[ho]at hO;split at e<;>try cases e
  rename_i u hx;simp[execOp,ho,hO x (by simp[Op.operands]) _ hx,GG e]
 .rename_i t x i;rw[ho]at hO;split at e<;>try cases e
  rename_i u u' hx hi;simp[execOp,ho,hO x (by simp[Op.operands]) _ hx,hO i (by simp[Op.operands]) _ hi,GF e]
 .rename_i t x i;rw[ho]at hO;split at e<;>try cases e
  rename_i u u' hx hi;split at e<;>try cases e
  rename_i q q' hq hq';split at e<;>try cases e
  rename_i r hr;simp[execOp,ho,hO x (by simp[Op.operands]) _ hx,hO i (by simp[Op.operands]) _ hi,iS hq,iS hq',fK hr,kI e]
 .rename_i fn first cap
  rw[ho]at hO;split at e<;>try cases e
  split at e<;>try cases e
  rename_i f x y hx hy;have h1:=qu hx hO (by intro z hz;simp only[Op.operands];exact abQ.2 (.inl (aba.1 hz)));have h2:=qu hy hO (by intro z hz;simp only[Op.operands];exact abQ.2 (.inr (aba.1 hz)));simp[execOp,ho,Instr.makeFunc,h1,h2,ah]
 .rename_i t parts;rw[ho]at hO;split at e<;>try cases e
  rename_i ps hps;have:=GJ hps (fun x hx=>hO x (by simp only[Op.operands,abC];exact hx));simp[execOp,ho,GW e s w (parts.map fun x=>(x.1,a.eval x.2)) (by simpa using this)]
 .rename_i c;split at e<;>try cases e
  rename_i b hb;split at e<;>try cases e
  rename_i vs hv;rw[ho]at hO;have h1:=qu hv hO (by intro z hz;simp only[Op.operands,Call.operands,hb];simpa using hz);rw[kH ho hb,h1,GH e]
 .cases e
def iD(P:Program)(T:Tr AV)(h:Hp)(o:Oper):Option AV:=match o.op with
 |.load t x=>match aK T x with|some u=>jP P h t u|none=>none
 |.slice t x lo hi mx=>match aK T x with|some u=>lN P h T t u lo hi mx|none=>none
 |.lookup t x i ok=>match aK T x,aK T i with|some u,some k=>Bw P h t u k ok|_,_=>none
 |.call c=>match c.callee with
  |.builtin .len=>match di T c.args.toList with
   |some [.map m]=>match h.tr.get m,nth c.argTypes.toList 0 with
    |some (.map es _),some t=>match P.underlying t with|some (.map _ _)=>some (.int .i64 (es.length:Int))|_=>none
    |_,_=>none
   |_=>rL P T o
  |_=>rL P T o
 |_=>rL P T o
theorem oP(e:iD P T h o=some v)(hO:fA s T a o.op)(H:ab s h w) :
  (execOp a.eval o).run P w=.ok (.value (ah s v)) w:=by
 unfold iD at e;split at e<;>try (rename_i ho)
 .rename_i t x;rw[ho]at hO;split at e<;>try cases e
  rename_i u hx;simp[execOp,ho,hO x (by simp[Op.operands]) _ hx,tw e H]
 .rename_i t x lo hi mx;rw[ho]at hO;split at e<;>try cases e
  rename_i u hx;have:=GR (a:=a) e H (by intro y hy;apply hO y;simp only[Op.operands];rcases hy with rfl|rfl|rfl<;>simp);simp[execOp,ho,hO x (by simp[Op.operands]) _ hx,this]
 .rename_i t x i ok;rw[ho]at hO;split at e<;>try cases e
  rename_i u k hx hi;simp[execOp,ho,hO x (by simp[Op.operands]) _ hx,hO i (by simp[Op.operands]) _ hi,WD e H]
 .rename_i c;split at e
  .rename_i hb;split at e
   .rename_i m hv;rw[ho]at hO;have h1:=qu hv hO (by intro z hz;simp only[Op.operands,Call.operands,hb];simpa using hz);rw[kH ho hb,h1];split at e<;>try cases e
    rename_i es cl t hm ht;have ht:c.argTypes[0]?=some t:=by rw[bW]at ht;simpa using ht
    split at e<;>try cases e
    rename_i hu;have hob:=H.obj m _ hm;simp only[bS]at hob;simp[builtin,Builtin.len_,ht,run_underlying hu,aL,ah,getObj,Sem.run,hob,dD,goInt]
   .exact G8 e hO w
  .exact G8 e hO w
 .exact G8 e hO w
def nv(P:Program)(T:Tr AV)(h:Hp)(o:Oper):Option (AV×Hp):=match o.op with
 |.assign x=>match aK T x with|some v=>some (v,h)|none=>none
 |.store t x y=>match aK T x,aK T y with
  |some u,some v=>match BR P h t u v with|some h'=>some (.bD [],h')|none=>none
  |_,_=>none
 |.mapUpdate t m k x=>match aK T m,aK T k,aK T x with
  |some m,some k,some v=>match zz P h t m k v with|some h'=>some (.bD [],h')|none=>none
  |_,_,_=>none
 |.insert t m k x=>match aK T m,aK T k,aK T x with
  |some m,some k,some v=>match zz P h t m k v with|some h'=>some (.bD [],h')|none=>none
  |_,_,_=>none
 |.call c=>match c.callee with
  |.builtin b=>match di T c.args.toList with
   |some [u,x]=>match b with
    |.append=>nN P h c.argTypes u x|.copy=>oB P h c.argTypes u x|.delete=>match Bz P h c.argTypes u x with|some h'=>some (.bD [],h')|none=>none
    |_=>none
   |_=>none
  |_=>none
 |_=>none
def qX(v:Value)(n:Next):Prop:=n=.value v\/(n=.skip/\v=undef)
theorem lQ(hT:∀t v,T.get t=some v->ws n v=true){x:Operand}(h:aK T x=some u):ws n u=true:=by cases x with|tmp t=>exact hT t u h|const v=>exact BZ h n|func f=>simp[aK]at h;subst h;rfl|global g=>simp[aK]at h
theorem BU{T:Tr AV}{n:Nat}(hT:∀t v,T.get t=some v->ws n v=true):∀{l:List Operand}{vs:List AV},di T l=some vs->cC n vs=true
 |[],vs,h=>by simp[di]at h;subst h;rfl|x::l,vs,h=>by
  simp only[di]at h;cases hv:aK T x<;>simp only[hv]at h
  .cases h
  cases hl:di T l<;>simp only[hl]at h
  .cases h
  simp at h;subst h;simp[cC,lQ hT hv,BU hT hl]
theorem zy(e:nv P T h o=some (v,h'))(hO:fA s T a o.op)(hT:∀t v,T.get t=some v->ws h.next v=true)
  (H:ab s h w) :
  ∃n s' w',(execOp a.eval o).run P w=.ok n w'/\qX (ah s' v) n/\ab s' h' w'/\Ext s h w s' h' w':=by
 unfold nv at e;split at e<;>try (rename_i ho)
 .rename_i x;rw[ho]at hO;split at e<;>try cases e
  rename_i hx;exact⟨_,s,w,by simp only[execOp,ho,hO x (by simp[Op.operands]) _ hx];rfl,.inl rfl,H,Ext.refl _ _ _⟩
 .rename_i t x y;rw[ho]at hO;split at e<;>try cases e
  rename_i u u' hx hy;split at e<;>try cases e
  rename_i hst;obtain⟨w',hr,hH,hE⟩:=WY (P:=P) hst H (lQ hT hy);exact⟨.skip,s,w',by simp[execOp,ho,hO x (by simp[Op.operands]) _ hx,hO y (by simp[Op.operands]) _ hy,hr],.inr ⟨rfl,rfl⟩,hH,hE⟩
 .rename_i t m k x;rw[ho]at hO;split at e<;>try cases e
  rename_i m' k' v' hm hk hx;split at e<;>try cases e
  rename_i hst;obtain⟨w',hr,hH,hE⟩:=Qx (P:=P) hst H (lQ hT hk) (lQ hT hx);exact⟨.skip,s,w',by simp[execOp,ho,hO m (by simp[Op.operands]) _ hm,hO k (by simp[Op.operands]) _ hk,hO x (by simp[Op.operands]) _ hx,hr],.inr ⟨rfl,rfl⟩,hH,hE⟩
 .rename_i t m k x;rw[ho]at hO;split at e<;>try cases e
  rename_i m' k' v' hm hk hx;split at e<;>try cases e
  rename_i hst;obtain⟨w',hr,hH,hE⟩:=Qx (P:=P) hst H (lQ hT hk) (lQ hT hx);exact⟨.skip,s,w',by simp[execOp,ho,hO m (by simp[Op.operands]) _ hm,hO k (by simp[Op.operands]) _ hk,hO x (by simp[Op.operands]) _ hx,hr],.inr ⟨rfl,rfl⟩,hH,hE⟩
 .rename_i c;split at e<;>try cases e
  rename_i b hb;rw[ho]at hO;split at e
  .rename_i u x hv;have h1:=qu hv hO (by intro z hz;simp only[Op.operands,Call.operands,hb];simpa using hz);have hws:=BU hT hv;have hwu:ws h.next u=true:=(tL _ _).1 hws u acv;rw[kH ho hb,h1];simp only[aL];split at e
   .obtain⟨s',w',hr,hH,hE,_⟩:=yW (ty:=o.type) e H hwu;exact⟨_,s',w',by simp only[builtin,Sem.run_bind,hr,Result.andThen_ok,Sem.run_pure],.inl rfl,hH,hE⟩
   .obtain⟨w',hr,hH,hE,_⟩:=Cc (ty:=o.type) e H;exact⟨_,s,w',by simp only[builtin,Sem.run_bind,hr,Result.andThen_ok,Sem.run_pure],.inl rfl,hH,hE⟩
   .split at e<;>try cases e
    rename_i hd;obtain⟨w',hr,hH,hE⟩:=WG (P:=P) (ty:=o.type) hd H;exact⟨.value (.tuple #[]),s,w',by simp only[builtin,Sem.run_bind,hr,Result.andThen_ok,Sem.run_pure],.inl rfl,hH,hE⟩
   .cases e
  .cases e
 .cases e
def mP(T:Tr AV)(o:Oper):Option (FuncId×List AV):=match o.op with
 |.call c=>match c.callee with
  |.value f=>match aK T f,di T c.args.toList with|some (.func g a cap),some vs=>some (g,a++(vs++cap))|_,_=>none
  |_=>none
 |_=>none
variable{f:FuncId}
theorem ze(e:mP T o=some (f,vs))(hO:fA s T a o.op){fn:Func}(hf:P.funcs[f]?=some fn)
  (hn:(fn.name == "runtime.NumGoroutine")=false) {c:Code}(hb:fn.body=some c) (w:World) :
  (execOp a.eval o).run P w=.ok (.enter f (aL s vs).toArray) w:=by
 unfold mP at e;split at e<;>try cases e
 rename_i cl ho;rw[ho]at hO;split at e<;>try cases e
 rename_i fo hc;split at e<;>try cases e
 rename_i fa cap xs hxs hfo;have h1:=hO fo (by simp[Op.operands,Call.operands,hc]) _ hfo;have h2:=qu hxs hO (by intro z hz;simp only[Op.operands,Call.operands,hc];grind);simp only[execOp,ho,resolve,hc,h1,h2,ah,Deferred.ofValue,Sem.run_bind,Sem.run_pure,Result.andThen_ok,invoke,callFunc,run_program,hf,hn,hb];simp[oN]
theorem X6(e:mP T o=some (f,vs))(hT:∀t v,T.get t=some v->ws n v=true):cC n vs=true:=by
 unfold mP at e;split at e<;>try cases e
 split at e<;>try cases e
 split at e<;>try cases e
 rename_i fa cap xs hxs hfo;have:=lQ hT hfo;simp only[ws]at this;cases h1:cC n fa<;>simp only[h1]at this
 .cases this
 exact mE h1 (mE (BU hT hxs) this)
end Go.Proofs.Ytbbhihkocghhaaa.Ev
end
section
namespace Go.Proofs.Ytbbhihkocghhaaa.V
open Go Go.RowKit
open Go.Proofs.Ytbbhihkocghhaaa.Ev (Tr Tr.bE nth bW takeN du eu eW bU dK ir still fK run_underlying run_typeInfo run_sizeOf cz dk places mD gb)
def FT:Nat:=30
mutual
def kL:(σ:Sh)->σ.T->List AV
 |.int k,n=>[.int k n]|.bool,b=>[.bool b]|.str,s=>[.str s]|.agg l,d=>GX l d|.sl s,L=>[.fz s L]
termination_by structural x=>x
def GX:(l:List Sh)->TL l->List AV
 |[],_=>[]|s::l,d=>kL s d.1++GX l d.2
termination_by structural x=>x
end
mutual
theorem qn{X:Cx}:∀{σ:Sh}{d:σ.T}{cs:kw},Cs X.w X.out σ d cs->bc X (kL σ d) cs
 |.int k,n,cs,h=>⟨_,[],h,rfl,rfl⟩|.bool,b,cs,h=>⟨_,[],h,rfl,rfl⟩|.str,s,cs,h=>⟨_,[],h,rfl,rfl⟩|.agg l,d,cs,h=>Qq (l:=l) h|.sl s,L,cs,h=>by obtain⟨a,len,cap,e,q⟩:=h;exact⟨_,[],e,⟨a,len,cap,rfl,q⟩,rfl⟩
theorem Qq{X:Cx}:∀{l:List Sh}{d:TL l}{cs:kw},fg X.w X.out l d cs->bc X (GX l d) cs
 |[],_,cs,h=>h|s::l,d,cs,⟨c,r,e,h1,h2⟩=>by rw[e];exact(qn h1).append (Qq h2)
end
def ja{τ τ':Sh}(h:τ.eqv τ'=true)(L:List τ.T):List τ'.T:=Sh.eg h▸L
def sy{α:Type}(F:Hp->List AV->Option (α×List AV×Hp)):Nat->Hp->List AV->Option (List α×Hp)
 |0,h,l=>match l with|[]=>some ([],h)|_=>none
 |n+1,h,l=>match F h l with
  |some (x,r,h)=>match sy F n h r with|some (xs,h)=>some (x::xs,h)|none=>none
  |none=>none
mutual
def dz(kl:Bool)(h:Hp):(σ:Sh)->List AV->Option (σ.T×List AV×Hp)
 |.int k,l=>match l with
  |.int k' n::r=>match Nat.beq (Ev.IntKind.num k') (Ev.IntKind.num k)with|true=>some (n,r,h)|false=>none
  |_=>none
 |.bool,l=>match l with|.bool b::r=>some (b,r,h)|_=>none
 |.str,l=>match l with|.str s::r=>some (s,r,h)|_=>none
 |.agg ss,l=>je kl h ss l|.sl s,l=>match l with
  |.bu::r=>some ([],r,h)|.fz τ L::r=>match e:τ.eqv s with|true=>some (ja e L,r,h)|false=>none
  |.hd b _::r=>match h.tr.get b with
   |some (.arr τ L _)=>match e:τ.eqv s,kl,Tr.set FT h.tr b none with|true,true,some tr=>some (ja e L,r,⟨tr,h.next⟩)|_,_,_=>none
   |_=>none
  |.vw b afn off len::r=>match h.tr.get b with
   |some (.arr τ L _)=>match e:τ.eqv s,afn.eqv s,kl,Tr.set FT h.tr b none with|true,true,true,some tr=>some (ja e ((L.drop off).take len),r,⟨tr,h.next⟩)|_,_,_,_=>none
   |some (.cells vs _)=>match kl,off,Tr.set FT h.tr b none with
    |true,0,some tr=>match sy (fun h l=>dz true h s l) len ⟨tr,h.next⟩ vs with|some (L,h')=>some (L,r,h')|none=>none
    |_,_,_=>none
   |_=>none
  |_=>none
termination_by structural x=>x
def je(kl:Bool)(h:Hp):(l:List Sh)->List AV->Option (TL l×List AV×Hp)
 |[],r=>some ((),r,h)|s::l,r=>match dz kl h s r with
  |some (d,r,h)=>match je kl h l r with|some (e,r,h)=>some ((d,e),r,h)|none=>none
  |none=>none
termination_by structural x=>x
end
structure dS(X:Cx)(h':Hp):Prop where
 E:aB X ⟨X.s,h',X.w,X.A⟩
 H:ab ⟨X.s,h',X.w,X.A⟩
 sub:∀i o,h'.tr.get i=some o->X.h.tr.get i=some o
theorem dS.refl{X:Cx}(H:ab X):dS X X.h:=⟨aB.refl X,H,fun _ _ h=>h⟩
theorem dS.trans{X:Cx}{h' h'':Hp}(a:dS X h')(b:dS ⟨X.s,h',X.w,X.A⟩ h''):dS X h'':=⟨a.E.trans b.E,b.H,fun i o q=>a.sub i o (b.sub i o q)⟩
theorem dS.kill{X:Cx}(H:ab X){b:Nat}{l:Loc}{tr:Tr aI}(hs:X.s b=some l)(ht:Tr.set FT X.h.tr b none=some tr):dS X ⟨tr,X.h.next⟩:=by
 obtain⟨E,H'⟩:=H.kill hs ht;refine⟨E,H',?_⟩;intro i o q;have:=Tr.bE FT X.h.tr b none tr ht i
 grind
theorem zC{w:World}{A:Nat->Prop}{τ τ':Sh}(h:τ.eqv τ'=true){L:List τ.T}{V:Value}(q:Cs w A (.sl τ) L [V]):Cs w A (.sl τ') (ja h L) [V]:=by have:=Sh.eg h;subst this;exact q
theorem Up{w:World}{A:Nat->Prop}{τ:Sh}{L:List τ.T}{x:Nat}{ty:TypeId}{cs tail:kw}{fr:Nat×Nat}(hw:w.heap[x]?=some (.cells (List.toArray (cs++tail)) ty fr))(ha:¬A x)(hf:aV (Cs w A τ) L cs)
  {off len cap:Nat}{a:lc}(hl:off+len<=L.length) (hc:len<=cap) (hA:0<len->a=some ⟨x,off*τ.size,none⟩):Cs w A (.sl τ) ((L.drop off).take len) [.slice a len cap]:=by
 refine⟨a,len,cap,rfl,by simp;omega,hc,fun hne=>?_⟩;have hpos:0<len:=by grind
 refine⟨x,off*τ.size,(cs.drop (off*τ.size)).take (len*τ.size),hA hpos,ha,aV.take (fun x c=>Cs.length) len (aV.drop (fun x c=>Cs.length) off hf),_,ty,_,hw,?_⟩
 grind
theorem Jl{τ:Sh}{F:Hp->List AV->Option (τ.T×List AV×Hp)}(hF:∀{X:Cx},ab X->∀{l:List AV}{d:τ.T}{r:List AV}{h':Hp},F X.h l=some (d,r,h')->∀{cs:kw},bc X l cs ->
  dS X h'/\∃c e,cs=c++e/\Cs X.w (Cx.out ⟨X.s,h',X.w,X.A⟩) τ d c/\bc ⟨X.s,h',X.w,X.A⟩ r e):∀{n:Nat}{l:List AV}{X:Cx}{L:List τ.T}{h':Hp}{cs:kw},ab X->sy F n X.h l=some (L,h')->bc X l cs ->
  dS X h'/\L.length=n/\aV (Cs X.w (Cx.out ⟨X.s,h',X.w,X.A⟩) τ) L cs
 |0,l,X,L,h',cs,H,e,R=>by simp only[sy]at e;split at e<;>cases e;exact⟨dS.refl H,rfl,R⟩
 |n+1,l,X,L,h',cs,H,e,R=>by
  simp only[sy]at e;split at e<;>try cases e
  rename_i x r h₁ hf;split at e<;>cases e;rename_i xs hx;obtain⟨acN,c,t,rfl,q1,q2⟩:=hF H hf R;obtain⟨acO,k1,k2⟩:=Jl hF acN.H hx q2;exact⟨acN.trans acO,by simp[k1],c,t,rfl,q1.aH acO.E.keeps,k2⟩
mutual
theorem nS{kl:Bool}{X:Cx}(H:ab X):∀{σ:Sh}{l:List AV}{d:σ.T}{r:List AV}{h':Hp},dz kl X.h σ l=some (d,r,h')->∀{cs:kw},bc X l cs ->
  dS X h'/\∃c e,cs=c++e/\Cs X.w (Cx.out ⟨X.s,h',X.w,X.A⟩) σ d c/\bc ⟨X.s,h',X.w,X.A⟩ r e
 |.int k,l,d,r,h',e,cs,R=>by
  simp only[dz]at e;split at e<;>try cases e
  rename_i k' n r';split at e<;>try cases e
  rename_i hk;obtain⟨v,t,rfl,h1,h2⟩:=R;have:=Ev.IntKind.qz (aW hk);subst this;exact⟨dS.refl H,[v],t,rfl,by rw[show v=_ from h1];rfl,h2⟩
 |.bool,l,d,r,h',e,cs,R=>by
  simp only[dz]at e;split at e<;>try cases e
  obtain⟨v,t,rfl,h1,h2⟩:=R;exact⟨dS.refl H,[v],t,rfl,by rw[show v=_ from h1];rfl,h2⟩
 |.str,l,d,r,h',e,cs,R=>by
  simp only[dz]at e;split at e<;>try cases e
  obtain⟨v,t,rfl,h1,h2⟩:=R;exact⟨dS.refl H,[v],t,rfl,by rw[show v=_ from h1];rfl,h2⟩
 |.agg ss,l,d,r,h',e,cs,R=>LC H (ss:=ss) e R|.sl s,l,d,r,h',e,cs,R=>by
  simp only[dz]at e;split at e<;>try cases e
  .obtain⟨v,t,rfl,h1,h2⟩:=R;exact⟨dS.refl H,[v],t,rfl,⟨none,0,0,by rw[show v=_ from h1],rfl,ol _,fun q=>absurd rfl q⟩,h2⟩
  .rename_i τ L r';split at e<;>try cases e
   rename_i he;obtain⟨v,t,rfl,h1,h2⟩:=R;exact⟨dS.refl H,[v],t,rfl,zC he h1,h2⟩
  .rename_i b afn r';split at e<;>try cases e
   rename_i τ L ty hb;split at e<;>try cases e
   rename_i tr he ht;obtain⟨v,t,rfl,⟨aep,g1,gc,g2⟩,h2⟩:=R;have F:=dS.kill H g1 ht;have:=H.freeze hb g1 ht;rw[g2 _ (iM hb)];exact⟨F,[_],t,rfl,zC he this,h2.ext (F.E.dw H)⟩
  .rename_i b afn off len r';split at e<;>try cases e
   .rename_i τ L ty hb;split at e<;>try cases e
    rename_i tr he adH ht;obtain⟨v,t,rfl,⟨aep,a,c,g1,g2,g3,g4,g5,g6⟩,h2⟩:=R;have F:=dS.kill H g1 ht;have hfz:=H.freeze hb g1 ht;have:=Sh.eg adH;subst this;have:=Sh.eg he;subst this;refine⟨F,[v],t,rfl,zC he ?_,h2.ext (F.E.dw H)⟩;have hle:=g6 _ (iM hb);rw[g2];cases aep with
    |nil=>
     have hL:L=[]:=H.obj b _ _ hb g1;subst hL;simp only[BT]at hle;have:len=0:=acs
     subst this;exact⟨a,0,c,rfl,acv,g3,fun q=>by rw[aaQ]at q;exact absurd rfl q⟩
    |«at» x k=>
     obtain⟨cs,tail,q1,q2,q3,q4⟩:=H.obj b _ _ hb g1;refine Up (w:=X.w) q1 ?_ (q2.mono (fun x d q=>q.aH F.E.keeps)) hle g3 (fun hp=>?_)
     .rintro(q|⟨j,o,c',p1,p2,p3⟩)
      .exact H.loc b _ _ x hb g1 rfl q
      .have hj:=F.sub j o p1;have hg:=Tr.bE FT X.h.tr b none tr ht j;have:=H.inj j b o _ c' _ x hj hb p2 g1 p3 rfl;subst this
       replace p1:tr.get j=some o:=p1
       rw[hg,ut rfl]at p1;cases p1
     .obtain⟨x',k',e1,e2⟩:=g4 hp;cases e1;exact e2
    |bX x k m=>exact(H.obj b _ _ hb g1:False).elim
   .rename_i vs ty hb;split at e<;>try cases e
    rename_i tr ht;split at e<;>cases e;rename_i hr;obtain⟨v,t,rfl,⟨aep,a,c,g1,rfl,g3,g4,g5,g6⟩,h2⟩:=R;obtain⟨x,k,cs,rfl,q1,q2⟩:=H.obj b _ _ hb g1;have F:=dS.kill H g1 ht;obtain⟨acO,k1,k2⟩:=Jl (F:=fun h l=>dz true h s l) (fun H=>nS H) (X:=⟨X.s,⟨tr,X.h.next⟩,X.w,X.A⟩) F.H hr (q2.ext (F.E.dw H));have acP:=F.trans acO;refine⟨acP,[_],t,rfl,⟨a,len,c,rfl,k1.symm,g3,fun hne=>?_⟩,h2.ext (acP.E.dw H)⟩;have hpos:0<len:=by
     rcases If len with r|r
     .subst r;exact absurd (ro k1) hne
     .exact r
    obtain⟨x',k',e1,e2⟩:=g4 hpos;cases e1;refine⟨x,0,cs,by rw[e2];simp,?_,k2,_,ty,_,q1,fun j u hu=>by rw[acg];simpa using hu⟩;rintro(r|⟨j,o',c',p1,p2,p3⟩)
    .exact H.loc b _ _ x hb g1 rfl r
    .have p1':=acO.sub j o' p1;have hg:=Tr.bE FT X.h.tr b none tr ht j
     replace p1':tr.get j=some o':=p1'
     rw[hg]at p1';by_cases hj:j=b
     .rw[ut hj]at p1';cases p1'
     .rw[qr hj]at p1';exact hj (H.inj j b o' _ c' _ x p1' hb p2 g1 p3 rfl)
theorem LC{kl:Bool}{X:Cx}(H:ab X):∀{ss:List Sh}{l:List AV}{d:TL ss}{r:List AV}{h':Hp},je kl X.h ss l=some (d,r,h')->∀{cs:kw},bc X l cs ->
  dS X h'/\∃c e,cs=c++e/\fg X.w (Cx.out ⟨X.s,h',X.w,X.A⟩) ss d c/\bc ⟨X.s,h',X.w,X.A⟩ r e
 |[],l,d,r,h',e,cs,R=>by simp only[je,bf,ww]at e;obtain⟨rfl,rfl,rfl⟩:=e;exact⟨dS.refl H,[],cs,rfl,rfl,R⟩
 |s::ss,l,d,r,h',e,cs,R=>by
  simp only[je]at e;split at e<;>try cases e
  rename_i ads aeC h₁ adv;split at e<;>try cases e
  rename_i adt aeD h₂ adw;obtain⟨acN,c,t,rfl,q1,q2⟩:=nS H adv R;obtain⟨acO,c',t',rfl,q3,q4⟩:=LC (X:=⟨X.s,h₁,X.w,X.A⟩) acN.H adw q2;exact⟨acN.trans acO,c++c',t',acv,⟨c,c',rfl,q1.aH acO.E.keeps,q3⟩,q4⟩
end
def fy:Value->Option AV
 |.bool b=>some (.bool b)|.int k n=>some (.int k n)|.string s=>some (.str s)|.pointer a=>match a with|none=>some .cK|some _=>none
 |.slice a len cap=>match a,len,cap with|none,0,0=>some .bu|_,_,_=>none
 |.map a=>match a with|none=>some .cR|some _=>none
 |.nilFunc=>some .cQ|.nilIface=>some .dy|_=>none
def fc:kw->Option (List AV)
 |[]=>some []|x::l=>match fy x with
  |some v=>match fc l with|some vs=>some (v::vs)|none=>none
  |none=>none
def back:Value->Option AV
 |.agg l=>match fc l.toList with|some vs=>some (.agg vs)|none=>none
 |.tuple l=>match fc l.toList with|some vs=>some (.bD vs)|none=>none
 |v=>fy v
theorem K7{x:Value}{v:AV}(h:fy x=some v)(X:Cx):Rel X v x:=by
 cases x with
 |pointer a=>cases a<;>simp[fy]at h;subst h;rfl
 |map a=>cases a<;>simp[fy]at h;subst h;rfl
 |slice a l c=>
  simp only[fy]at h;split at h
  .simp at h;subst h;rfl
  .cases h
 |_=>simp[fy]at h<;>subst h<;>rfl
theorem Hu:∀{x:kw}{l:List AV},fc x=some l->∀X:Cx,bc X l x
 |[],l,h,X=>by simp[fc]at h;subst h;rfl|x::xs,l,h,X=>by
  simp only[fc]at h;cases hv:fy x<;>simp only[hv]at h
  .cases h
  cases hl:fc xs<;>simp only[hl]at h
  .cases h
  simp at h;subst h;exact⟨x,xs,rfl,K7 hv X,Hu hl X⟩
theorem BE{x:Value}{v:AV}(h:back x=some v)(X:Cx):Rel X v x:=by
 cases x with
 |agg l=>
  simp only[back]at h;cases hl:fc l.toList<;>simp only[hl]at h
  .cases h
  simp at h;subst h;exact⟨l.toList,acv,Hu hl X⟩
 |tuple l=>
  simp only[back]at h;cases hl:fc l.toList<;>simp only[hl]at h
  .cases h
  simp at h;subst h;exact⟨l.toList,acv,Hu hl X⟩
 |_=>simp only[back]at h;exact K7 h X
def aK(T:Tr AV):Operand->Option AV
 |.tmp t=>T.get t|.const v=>back v|.func f=>some (.func f [] [])|.global _=>none
def fA(X:Cx)(T:Tr AV)(a:Act)(o:Op):Prop:=∀x∈o.operands,∀u,aK T x=some u->Rel X u (a.eval x)
theorem o9{X:Cx}{T:Tr AV}{a:Act}{o:Op}(h:∀t,.tmp t∈o.operands->∀u,T.get t=some u->∃V,a.tmps[t]?=some V/\Rel X u V):fA X T a o:=by
 intro x hx u hu;cases x with
 |tmp t=>obtain⟨V,h1,h2⟩:=h t hx u hu;simpa[Act.eval,h1]using h2
 |const v=>exact BE hu X|func f=>simp[aK]at hu;subst hu;exact⟨[],[],rfl,rfl,rfl⟩|global g=>simp[aK]at hu
def di(T:Tr AV):List Operand->Option (List AV)
 |[]=>some []|x::l=>match aK T x with
  |some v=>match di T l with|some vs=>some (v::vs)|none=>none
  |none=>none
theorem LK{X:Cx}{T:Tr AV}{a:Act}:∀{l:List Operand}{vs:List AV},di T l=some vs->(∀x∈l,∀u,aK T x=some u->Rel X u (a.eval x))->bc X vs (l.map a.eval)
 |[],vs,h,_=>by simp[di]at h;subst h;rfl|x::l,vs,h,hr=>by
  simp only[di]at h;cases hv:aK T x<;>simp only[hv]at h
  .cases h
  cases hl:di T l<;>simp only[hl]at h
  .cases h
  simp at h;subst h;exact⟨_,_,rfl,hr x acv _ hv,LK hl (fun y hy=>hr y (by simp[hy]))⟩
def dL(P:Program)(t:TypeId):Option AV:=match P.info? t with
 |some i=>match i.zero with|some v=>back v|none=>none
 |none=>none
theorem fZ{P:Program}{t:TypeId}{v:AV}(h:dL P t=some v)(X:Cx)(w:World):∃V,(zeroValue t).run P w=.ok V w/\Rel X v V:=by
 unfold dL at h;cases hi:P.info? t<;>simp only[hi]at h
 .cases h
 rename_i i;cases hz:i.zero<;>simp only[hz]at h
 .cases h
 exact⟨_,by simp only[zeroValue,Sem.run_bind,run_typeInfo hi,Result.andThen_ok,hz,Sem.run_pure],BE h X⟩
def bV:AV->List AV
 |.agg l=>l|v=>[v]
theorem KD{V:Value}(h:Ev.jO V=true):V.cells=#[V]:=by cases V<;>first|rfl|cases h
theorem ju{X:Cx}{v:AV}{V:Value}(h:Rel X v V):bc X (bV v) V.cells.toList:=by
 have single:∀{u:AV}{U:Value},Rel X u U->U.cells=#[U]->bc X [u] U.cells.toList:=fun{u U} q e=>by rw[e];exact⟨U,[],rfl,q,rfl⟩
 cases v with
 |agg l=>obtain⟨cs,rfl,h2⟩:=h;simpa[bV,Value.cells]using h2
 |bD l=>exact single h (by obtain⟨cs,rfl,h2⟩:=h;rfl)
 |ij=>exact single h (KD h)|bool b=>exact single h (by rw[show V=_ from h];rfl)|int k n=>exact single h (by rw[show V=_ from h];rfl)|str s=>exact single h (by rw[show V=_ from h];rfl)|cK=>exact single h (by rw[show V=_ from h];rfl)|bu=>exact single h (by rw[show V=_ from h];rfl)|cR=>exact single h (by rw[show V=_ from h];rfl)|cQ=>exact single h (by rw[show V=_ from h];rfl)|dy=>exact single h (by rw[show V=_ from h];rfl)|ptr b off=>exact single h (by obtain⟨x,c,h1,rfl⟩:=h;rfl)
 |cY b i z o=>exact single h (by obtain⟨x,c,h1,rfl,_⟩:=h;rfl)
 |eC σ d o=>exact single h (by obtain⟨b,off,cs,rfl,_⟩:=h;rfl)
 |hd b τ=>exact single h (by obtain⟨l,h1,hc,_⟩:=h;exact KD hc)
 |vw b τ off len=>exact single h (by obtain⟨l,a,c,h1,rfl,_⟩:=h;rfl)
 |fz τ L=>exact single h (by obtain⟨a,len,cap,e,_⟩:=h;simp at e;rw[e];rfl)
 |func f x c=>exact single h (by obtain⟨xs,cs,rfl,_⟩:=h;rfl)
 |dt τ z L=>exact single h (by obtain⟨_,a,l,c,rfl,_⟩:=h;rfl)
 |mp b=>exact single h (by obtain⟨x,c,h1,rfl⟩:=h;rfl)
 |dA b=>exact single h (by obtain⟨l,h1,rfl⟩:=h;cases l<;>rfl)
 |rp b i=>exact single h (by obtain⟨x,c,m,p,h1,h2,rfl⟩:=h;rfl)
 |ra b i=>exact single h (by obtain⟨x,c,m,h1,h2,rfl⟩:=h;rfl)
def one:AV->Bool
 |.agg _|.bD _=>false|_=>true
def jh:List AV->Bool
 |[]=>true|x::l=>match one x with|true=>jh l|false=>false
theorem Mb{X:Cx}{v:AV}{V:Value}(h:one v=true)(R:Rel X v V):Ev.jO V=true:=by
 cases v with
 |agg l=>cases h
 |bD l=>cases h
 |ij=>exact R|bool b=>rw[R];rfl|int k n=>rw[R];rfl|str s=>rw[R];rfl|cK=>rw[R];rfl|bu=>rw[R];rfl|cR=>rw[R];rfl|cQ=>rw[R];rfl|dy=>rw[R];rfl|ptr b off=>obtain⟨x,c,h1,rfl⟩:=R;rfl
 |cY b i z o=>obtain⟨x,c,h1,rfl,_⟩:=R;rfl
 |eC σ d o=>obtain⟨b,off,cs,rfl,_⟩:=R;rfl
 |hd b τ=>obtain⟨l,h1,hc,_⟩:=R;exact hc
 |vw b τ off len=>obtain⟨l,a,c,h1,rfl,_⟩:=R;rfl
 |fz τ L=>obtain⟨a,len,cap,e,_⟩:=R;simp at e;rw[e];rfl
 |func f x c=>obtain⟨xs,cs,rfl,_⟩:=R;rfl
 |dt τ z L=>obtain⟨_,a,l,c,rfl,_⟩:=R;rfl
 |mp b=>obtain⟨x,c,h1,rfl⟩:=R;rfl
 |dA b=>obtain⟨l,h1,rfl⟩:=R;cases l<;>rfl
 |rp b i=>obtain⟨x,c,m,p,h1,h2,rfl⟩:=R;rfl
 |ra b i=>obtain⟨x,c,m,h1,h2,rfl⟩:=R;rfl
theorem zE{X:Cx}:∀{l:List AV}{cs:kw},jh l=true->bc X l cs->∀V∈cs,Ev.jO V=true
 |[],cs,_,R,V,hV=>by rw[R]at hV;cases hV
 |x::l,_,h,⟨v,r,rfl,h1,h2⟩,V,hV=>by
  simp only[jh]at h;split at h<;>try cases h
  rename_i hx;rcases BY.1 hV with rfl|hV
  .exact Mb hx h1
  .exact zE h h2 V hV
open Go.Proofs.Ytbbhihkocghhaaa.Ev (Tr Tr.bE nth bW takeN du eu eW bU dK ir still fK run_underlying run_typeInfo run_sizeOf cz dk places mD gb ld jM)
def al(n:Int)(len:Nat):Bool:=decide (0<=n)&&decide (n<(len:Int))
theorem pK{n:Int}{len:Nat}(h:al n len=true):∃m:Nat,n=m/\m<len:=by simp only[al,abn,FS]at h;exact⟨n.toNat,acs,acs⟩
def both(a b:Bool):Bool:=match a with|true=>b|false=>false
theorem kK{a b:Bool}(h:both a b=true):a=true/\b=true:=by cases a<;>simp_all [both]
def bw(c a b:Bool):Bool:=match c with|true=>a|false=>b
def j9(c:Bool)(a b:Int):Int:=match c with|true=>a|false=>b
def jc(a b:IntKind):Bool:=Nat.beq (Ev.IntKind.num a) (Ev.IntKind.num b)
theorem kf{a b:IntKind}(h:jc a b=true):a=b:=Ev.IntKind.qz (aW h)
def J4(k:IntKind)(a b:Int):Int:=k.wrap ((BitVec.ofInt k.bits a &&& BitVec.ofInt k.bits b).toNat:Int)
def Po(k:IntKind)(a b:Int):Int:=k.wrap ((BitVec.ofInt k.bits a ||| BitVec.ofInt k.bits b).toNat:Int)
def J8(k:IntKind)(a b:Int):Int:=k.wrap ((BitVec.ofInt k.bits a ^^^ BitVec.ofInt k.bits b).toNat:Int)
def J7(k:IntKind)(a b:Int):Int:=k.wrap ((BitVec.ofInt k.bits a &&& ~~~ (BitVec.ofInt k.bits b)).toNat:Int)
def arith(op:BinOp)(k:IntKind)(a b:Int):Option (Bool×AV):=match op with|.add=>some (true,.int k (k.wrap (a+b)))|.sub=>some (true,.int k (k.wrap (a-b)))|.mul=>some (true,.int k (k.wrap (a*b)))|.quo=>some (!(decide (b=0)),.int k (k.wrap (a.tdiv b)))|.rem=>some (!(decide (b=0)),.int k (a.tmod b))|.and=>some (true,.int k (J4 k a b))|.or=>some (true,.int k (Po k a b))|.xor=>some (true,.int k (J8 k a b))|.andNot=>some (true,.int k (J7 k a b))|.eql=>some (true,.bool (a == b))|.neq=>some (true,.bool (a != b))|.lss=>some (true,.bool (decide (a<b)))|.leq=>some (true,.bool (decide (a<=b)))|.gtr=>some (true,.bool (decide (a > b)))|.geq=>some (true,.bool (decide (a>=b)))|_=>none
def Ce(op:BinOp)(k:IntKind)(a b:Int):Option (Bool×AV):=match op with|.shl=>some (decide (0<=b),.int k (k.wrap (a*2^(min b.toNat k.bits))))|.shr=>some (decide (0<=b),.int k (a.fdiv (2^(min b.toNat k.bits))))|_=>none
def Mq:BinOp->Bool|.shl|.shr=>true|_=>false
def Bp(op:BinOp)(a b:ByteArray):Option (Bool×AV):=match op with|.add=>some (decide (((a.size+b.size:Nat):Int)<=IntKind.i64.max),.str (a++b))|.eql=>some (true,.bool (a.toList == b.toList))|.neq=>some (true,.bool (!(a.toList == b.toList)))|.lss=>some (true,.bool (Op.bytesLess a.toList b.toList))|_=>none
def Cj:TypeDesc->AV->AV->Option Bool
 |.pointer _,.cK,.cK=>some true|.pointer _,.cK,.ptr _ _|.pointer _,.ptr _ _,.cK|.pointer _,.cK,.cY _ _ _ _|.pointer _,.cY _ _ _ _,.cK|.pointer _,.cK,.eC _ _ _|.pointer _,.eC _ _ _,.cK=>some false|.slice _,.bu,.bu=>some true|.slice _,.dt _ z _,.bu=>some z|.slice _,.bu,.dt _ z _=>some z|.map _ _,.cR,.cR=>some true|.func _ _ _,.cQ,.cQ=>some true|.func _ _ _,.cQ,.func _ _ _|.func _ _ _,.func _ _ _,.cQ=>some false|.bool,.bool a,.bool b=>some (a == b)|_,_,_=>none
def og(P:Program)(op:BinOp)(t:TypeId)(u v:AV):Option (Bool×AV):=match u,v with
 |.int k a,.int k' b=>match Mq op with|true=>Ce op k a b|false=>match jc k k' with|true=>arith op k a b|false=>none
 |.str a,.str b=>Bp op a b|u,v=>match P.underlying t with
  |some d=>match Cj d u v with
   |some b=>match op with|.eql=>some (true,.bool b)|.neq=>some (true,.bool (!b))|_=>none
   |none=>none
  |none=>none
theorem Yj{P:Program}{op:BinOp}{k:IntKind}{a b:Int}{g:Bool}{v:AV}(e:arith op k a b=some (g,v))(hg:g=true)(hs:Mq op=false)(t:TypeId)(x y:Operand)(X:Cx)(w:World) :
  ∃V,(do eqGuard op t x y (.int k a) (.int k b);binOp op t (.int k a) (.int k b)).run P w=.ok V w/\Rel X v V:=by
 cases op<;>simp only[arith,bf,ww]at e<;>first|(cases e;done)|skip
 all_goals
  obtain⟨e1,rfl⟩:=e;refine⟨_,?_,rfl⟩
  first
  |(have hb:¬b=0:=(by grind);simp[eqGuard,binOp,Op.intArith,Op.intDiv,Op.intBits,Op.intCmp,hb])
  |simp[eqGuard,binOp,Op.intArith,Op.intDiv,Op.intBits,Op.intCmp,J4,Po,J8,J7]
theorem Xd{P:Program}{op:BinOp}{k k':IntKind}{a b:Int}{g:Bool}{v:AV}(e:Ce op k a b=some (g,v))(hg:g=true)(t:TypeId)(x y:Operand)(X:Cx)(w:World) :
  ∃V,(do eqGuard op t x y (.int k a) (.int k' b);binOp op t (.int k a) (.int k' b)).run P w=.ok V w/\Rel X v V:=by
 cases op<;>simp only[Ce,bf,ww]at e<;>first|(cases e;done)|skip
 all_goals
  obtain⟨e1,rfl⟩:=e;have hb:¬b<0:=by grind
  exact⟨_,by simp[eqGuard,binOp,Op.shift,hb],rfl⟩
theorem XH{P:Program}{op:BinOp}{a b:ByteArray}{g:Bool}{v:AV}(e:Bp op a b=some (g,v))(hg:g=true)(t:TypeId)(x y:Operand)(X:Cx)(w:World) :
  ∃V,(do eqGuard op t x y (.string a) (.string b);binOp op t (.string a) (.string b)).run P w=.ok V w/\Rel X v V:=by
 cases op<;>simp only[Bp,bf,ww]at e<;>first|(cases e;done)|skip
 all_goals
  obtain⟨e1,rfl⟩:=e;refine⟨_,?_,rfl⟩
  first
  |(have hb:¬(((a.size+b.size:Nat)) > IntKind.i64.max):=(by grind);have hs:(Op.stringOp .add a b)=pure (.string (a++b)):=(by unfold Op.stringOp;rw[qr hb]);simp[eqGuard,binOp,hs];done)
  |simp[eqGuard,binOp,Op.stringOp]
theorem Xl{P:Program}{t:TypeId}{d:TypeDesc}{u v:AV}{b:Bool}(hu:P.underlying t=some d)(h:Cj d u v=some b){X:Cx}{U V:Value}(h1:Rel X u U)(h2:Rel X v V)(w:World)(x y:Operand) :
  (do eqGuard .eql t x y U V;binOp .eql t U V).run P w=.ok (.bool b) w/\(do eqGuard .neq t x y U V;binOp .neq t U V).run P w=.ok (.bool (!b)) w:=by
 have hr:=run_underlying hu w;have fin:∀{U V:Value},eqGuard .eql t x y U V=pure ()->eqGuard .neq t x y U V=pure ()->binOp .eql t U V=(do pure (.bool (<- Op.equal t U V)))->binOp .neq t U V=(do pure (.bool (!(<- Op.equal t U V)))) ->
   (∀n,(Op.equalIn (n+1) t U V).run P w=.ok b w) ->
   (do eqGuard .eql t x y U V;binOp .eql t U V).run P w=.ok (.bool b) w/\(do eqGuard .neq t x y U V;binOp .neq t U V).run P w=.ok (.bool (!b)) w:=by
  intro U V g1 g2 g3 g4 g5;have g5:(Op.equal t U V).run P w=.ok b w:=g5 9999;exact⟨by simp[g1,g3,g5],by simp[g2,g4,g5]⟩
 unfold Cj at h;split at h<;>first|(cases h;done)|skip
 all_goals
  simp only[bf]at h;subst h
 .rw[show U=_ from h1,show V=_ from h2];exact fin rfl rfl rfl rfl (fun n=>by simp[Op.equalIn,hr])
 .obtain⟨afk,adq,-,rfl⟩:=h2;rw[show U=_ from h1];exact fin rfl rfl rfl rfl (fun n=>by simp[Op.equalIn,hr])
 .obtain⟨afk,adq,-,rfl⟩:=h1;rw[show V=_ from h2];exact fin rfl rfl rfl rfl (fun n=>by simp[Op.equalIn,hr])
 .obtain⟨afk,adq,-,rfl,-⟩:=h2;rw[show U=_ from h1];exact fin rfl rfl rfl rfl (fun n=>by simp[Op.equalIn,hr])
 .obtain⟨afk,adq,-,rfl,-⟩:=h1;rw[show V=_ from h2];exact fin rfl rfl rfl rfl (fun n=>by simp[Op.equalIn,hr])
 .obtain⟨afk,adq,adr,rfl,-⟩:=h2;rw[show U=_ from h1];exact fin rfl rfl rfl rfl (fun n=>by simp[Op.equalIn,hr])
 .obtain⟨afk,adq,adr,rfl,-⟩:=h1;rw[show V=_ from h2];exact fin rfl rfl rfl rfl (fun n=>by simp[Op.equalIn,hr])
 .rw[show U=_ from h1,show V=_ from h2];exact fin rfl rfl rfl rfl (fun n=>by simp[Op.equalIn,hr])
 .obtain⟨-,a,l,c,rfl,hz⟩:=h1;rw[show V=_ from h2];exact fin rfl rfl rfl rfl (fun n=>by cases a<;>simp at hz<;>simp[Op.equalIn,hr,hz])
 .obtain⟨-,a,l,c,rfl,hz⟩:=h2;rw[show U=_ from h1];exact fin rfl rfl rfl rfl (fun n=>by cases a<;>simp at hz<;>simp[Op.equalIn,hr,hz])
 .rw[show U=_ from h1,show V=_ from h2];exact fin rfl rfl rfl rfl (fun n=>by simp[Op.equalIn,hr])
 .rw[show U=_ from h1,show V=_ from h2];exact fin rfl rfl rfl rfl (fun n=>by simp[Op.equalIn,hr])
 .obtain⟨xs,cs,rfl,-⟩:=h2;rw[show U=_ from h1];exact fin rfl rfl rfl rfl (fun n=>by simp[Op.equalIn,hr])
 .obtain⟨xs,cs,rfl,-⟩:=h1;rw[show V=_ from h2];exact fin rfl rfl rfl rfl (fun n=>by simp[Op.equalIn,hr])
 .rw[show U=_ from h1,show V=_ from h2];exact fin rfl rfl rfl rfl (fun n=>by simp[Op.equalIn,hr])
theorem Hq{P:Program}{op:BinOp}{t:TypeId}{u v r:AV}{g:Bool}(e:og P op t u v=some (g,r))(hg:g=true){X:Cx}{U V:Value}(h1:Rel X u U)(h2:Rel X v V)(x y:Operand)(w:World) :
  ∃R,(do eqGuard op t x y U V;binOp op t U V).run P w=.ok R w/\Rel X r R:=by
 unfold og at e;split at e
 .rename_i k a k' b;rw[h1,h2];split at e
  .exact Xd e hg t x y X w
  .rename_i hs;split at e<;>try cases e
   rename_i hk;have:=kf hk;subst this;exact Yj e hg hs t x y X w
 .rename_i a b;rw[h1,show V=_ from h2];exact XH e hg t x y X w
 .split at e<;>try cases e
  rename_i d hu;split at e<;>try cases e
  rename_i b hb;obtain⟨q1,q2⟩:=Xl hu hb h1 h2 w x y;split at e<;>first|(cases e;done)|(cases e;exact⟨_,q1,rfl⟩)|(cases e;exact⟨_,q2,rfl⟩)
def qE(h:Hp):AV->Option (Bool×List AV×Nat)
 |.ptr b off=>match h.tr.get b with|some (.cells l _)=>some (true,l,off)|_=>none
 |.cY b i z o=>match h.tr.get b with
  |some (.arr τ L _)=>match Nat.beq z τ.size with|true=>some (true,kL τ (L.getD i τ.zero),o)|false=>none
  |some (.cT τ k L vs _)=>match Nat.beq z τ.size with|true=>some (Nat.beq i k,vs,o)|false=>none
  |_=>none
 |.eC σ d o=>some (true,kL σ d,o)|.ra b i=>match h.tr.get b with|some (.d7 _ _)=>some (true,[.rp b i],0)|_=>none
 |_=>none
theorem QJ{X:Cx}(H:ab X){u:AV}{g:Bool}{l:List AV}{o:Nat}{U:Value}(e:qE X.h u=some (g,l,o))(hg:g=true)(R:Rel X u U) :
  ∃b off c ty fr cs,U=.pointer (some ⟨b,off+o,none⟩)/\X.w.heap[b]?=some (.cells c ty fr)/\bc X l cs/\∀j v,cs[j]?=some v->c[off+j]?=some v:=by
 unfold qE at e;split at e<;>try cases e
 .rename_i b off;split at e<;>try cases e
  rename_i ty hb;obtain⟨x,c,h1,rfl⟩:=R;obtain⟨x',c',cs,e1,e2,e3⟩:=H.obj b _ _ hb h1;cases e1;exact⟨x,0,_,ty,_,cs,acv,e2,e3,fun j v q=>by simpa using q⟩
 .rename_i b i z o';split at e<;>try cases e
  .rename_i τ L ty hb;split at e<;>try cases e
   rename_i hz;have hz:=aW hz;subst hz;obtain⟨x,c,h1,rfl,h3⟩:=R;have hi:=h3 _ (iM hb);obtain⟨cs,tail,q1,q2,q3,q4⟩:=H.obj b _ _ hb h1;obtain⟨d,p1,p2⟩:=aV.get (fun x c=>Cs.length) q2 (bF hi);refine⟨x,i*τ.size,_,ty,_,d,rfl,q1,?_,?_⟩
   .rw[gC,bF hi];exact qn p1
   .intro j v hv;have hj:j<τ.size:=by
     rw[<-Cs.length p1];rcases rt j d.length with q|q
     .exact q
     .rw[Do q]at hv;cases hv
    rw[<-p2 j hj]at hv;simp only[pu];rw[Fd]
    .exact hv
    .rcases rt (i*τ.size+j) cs.length with q|q
     .exact q
     .rw[Do q]at hv;cases hv
  .rename_i τ k L vs ty hb;split at e<;>try cases e
   rename_i hz;have hz:=aW hz;subst hz;have hg:=aW hg;subst hg;obtain⟨x,c,h1,rfl,h3⟩:=R;obtain⟨x',c',pre,mid,post,tail,e1,q1,q2,q3,q4,q5,q6,q7,q8⟩:=H.obj b _ _ hb h1;cases e1;have hpre:pre.length=i*τ.size:=by rw[aV.length (fun x c=>Cs.length) q2,ep,acj acs]
   grind
 .rename_i σ d;obtain⟨b,off,cs,rfl,h2,h3,c,ty,fr,h4,h5⟩:=R;exact⟨b,off,c,ty,fr,cs,rfl,h4,qn h3,h5⟩
 .rename_i b i;split at e<;>cases e;rename_i L ty hb;obtain⟨x,c,m,h1,h2,rfl⟩:=R;obtain⟨tail,ty',q1,q2,q3,q4⟩:=H.obj b _ _ hb h1;have hp:=bF h2;refine⟨x,i,_,ty',_,[.pointer (some ⟨m[i].1,0,none⟩)],rfl,q1,⟨_,[],rfl,⟨x,c,m,m[i],h1,hp,rfl⟩,rfl⟩,?_⟩;intro j v hv;cases j with|zero=>simp only[pm,bf]at hv;subst hv;rw[aaW,pu,Fd (by unfold iC;simpa using h2)];unfold iC;rw[dx,hp];rfl|succ j=>simp at hv
def kN(P:Program)(t:TypeId)(l:List AV)(off:Nat):Option AV:=match ld P t with
 |some true=>match cz P t with
  |some n=>match Nat.ble (off+n) l.length with|true=>some (.agg (takeN n (du off l)))|false=>none
  |none=>none
 |some false=>nth l off|none=>none
theorem tu{P:Program}{t:TypeId}{l:List AV}{off:Nat}{v:AV}(e:kN P t l off=some v){X:Cx}{cs:kw}(R:bc X l cs)(w:World) :
  ∃V,(part t cs.toArray off).run P w=.ok V w/\Rel X v V:=by
 unfold kN at e;split at e
 .rename_i ha;split at e<;>try cases e
  rename_i n hn;split at e<;>try cases e
  refine⟨.agg ((cs.drop off).take n).toArray,?_,⟨_,rfl,by rw[eu,eW];exact(R.drop off).take n⟩⟩;simp[part,jM ha,run_sizeOf hn,List.extract_eq_take_drop]
 .rename_i ha;rw[bW]at e;obtain⟨V,h1,h2⟩:=R.get e;exact⟨V,by simp[part,jM ha,h1],h2⟩
 .cases e
def jP(P:Program)(h:Hp)(t:TypeId)(u:AV):Option (Bool×AV):=match qE h u with
 |some (g,l,o)=>match kN P t l o with|some v=>some (g,v)|none=>none
 |none=>none
theorem tw{P:Program}{t:TypeId}{u v:AV}{g:Bool}{X:Cx}(H:ab X)(e:jP P X.h t u=some (g,v))(hg:g=true){U:Value}(R:Rel X u U) :
  ∃V,(Instr.loadAt t U).run P X.w=.ok V X.w/\Rel X v V:=by
 unfold jP at e;split at e<;>try cases e
 rename_i g' l o hc;split at e<;>cases e;rename_i e;obtain⟨b,off,c,ty,fr,cs,rfl,h1,h2,h3⟩:=QJ H hc hg R;unfold kN at e;split at e
 .rename_i ha;split at e<;>try cases e
  rename_i n hn;split at e<;>try cases e
  rename_i hle;have hle:=pi hle;have hcl:=h2.length;rcases If n with hz|hz
  .subst hz;exact⟨.agg #[],by simp[Instr.loadAt,Instr.sureAddr,loadVar,jM ha,run_sizeOf hn,loadCells,loadCellsFrom],[],rfl,by simp[takeN,bc]⟩
  have hsz:off+o+n<=c.size:=by have:=h3 (o+n-1) cs[o+n-1] (bF acs);have:=gW this;omega
  refine⟨.agg ((cs.drop o).take n).toArray,?_,⟨_,rfl,by rw[eu,eW];exact(h2.drop o).take n⟩⟩;simp only[Instr.loadAt,Instr.sureAddr,Sem.run_bind,Sem.run_pure,Result.andThen_ok,loadVar,jM ha,abE,run_sizeOf hn,loadCells];rw[Ev.run_loadCells (P:=P) h1 n 0 #[] acs];simp only[Result.andThen_ok,Sem.run_pure,aaW];congr 3;simp only[LT];apply aaO
  grind
 .rename_i ha;rw[bW]at e;obtain⟨V,q1,q2⟩:=h2.get e;refine⟨V,?_,q2⟩;have hc:X.w.cell? ⟨b,off+o,none⟩=some V:=by simp only[World.cell?,h1,abh,GE,abu];exact h3 o V q1
  simp[Instr.loadAt,Instr.sureAddr,loadVar,jM ha,run_load,hc]
 .cases e
def pf(P:Program)(t:TypeId)(u:AV)(f:Nat):Option AV:=match P.underlying t with
 |some (.struct fields)=>match nth fields.toList f with
  |some fd=>match u with|.agg l=>kN P fd.type l fd.offset|_=>none
  |none=>none
 |_=>none
theorem GV{P:Program}{t:TypeId}{u v:AV}{f:Nat}(h:pf P t u f=some v){X:Cx}{U:Value}(R:Rel X u U)(w:World) :
  ∃V,(Instr.field t U f).run P w=.ok V w/\Rel X v V:=by
 unfold pf at h;cases hu:P.underlying t with
 |none=>simp[hu]at h|some d=>
  have hr:=run_underlying hu w;cases d<;>simp_all<;>try cases h
  rename_i fields;cases hf:nth fields.toList f<;>simp only[hf]at h
  .cases h
  rename_i fd;rw[bW]at hf;cases u<;>simp at h<;>try cases h
  have hf':fields[f]?=some fd:=by grind
  obtain⟨cs,rfl,R'⟩:=R;obtain⟨V,q1,q2⟩:=tu h R' w;exact⟨V,by simp[Instr.field,hr,hf',asAgg,q1],q2⟩
def CB:AV->Nat->Option AV
 |.ptr b off,n=>some (.ptr b (off+n))|.cY b i z o,n=>some (.cY b i z (o+n))|.eC σ d o,n=>some (.eC σ d (o+n))|_,_=>none
theorem Xz{X:Cx}{u v:AV}{n:Nat}{U:Value}(e:CB u n=some v)(R:Rel X u U):∃b o,U=.pointer (some ⟨b,o,none⟩)/\Rel X v (.pointer (some ⟨b,o+n,none⟩)):=by
 unfold CB at e;split at e<;>cases e
 .obtain⟨x,c,h1,rfl⟩:=R;exact⟨_,_,rfl,x,c,h1,rfl⟩
 .obtain⟨x,c,h1,rfl,h3⟩:=R;exact⟨_,_,rfl,x,c,h1,by grind,h3⟩
 .obtain⟨b,off,cs,rfl,h⟩:=R;exact⟨_,_,rfl,b,off,cs,by grind,h⟩
def oV(P:Program)(t:TypeId)(u:AV)(f:Nat):Option AV:=match P.underlying t with
 |some (.struct fields)=>match nth fields.toList f with
  |some fd=>match cz P fd.type with|some (n+1)=>CB u fd.offset|_=>none
  |none=>none
 |_=>none
theorem GG{P:Program}{t:TypeId}{u v:AV}{f:Nat}(h:oV P t u f=some v){X:Cx}{U:Value}(R:Rel X u U)(w:World) :
  ∃V,(Instr.fieldAt t U f).run P w=.ok V w/\Rel X v V:=by
 unfold oV at h;cases hu:P.underlying t with
 |none=>simp[hu]at h|some d=>
  have hr:=run_underlying hu w;cases d<;>simp_all<;>try cases h
  rename_i fields;cases hf:nth fields.toList f<;>simp only[hf]at h
  .cases h
  rename_i fd;rw[bW]at hf;have hf':fields[f]?=some fd:=by grind
  split at h<;>try cases h
  rename_i n hs;obtain⟨b,o,rfl,q⟩:=Xz h R;exact⟨_,by simp[Instr.fieldAt,hr,hf',Instr.sureAddr,fieldPlace,run_sizeOf hs,dk],q⟩
def lI(P:Program)(h:Hp)(t:TypeId)(u i:AV):Option (Bool×AV):=match i with
 |.int k n=>match P.underlying t with
  |some (.slice elem)=>match cz P elem with
   |some sz=>match u with
    |.hd b _=>match h.tr.get b with
     |some (.arr τ L _)=>match Nat.beq sz τ.size with|true=>some (al n L.length,.cY b n.toNat sz 0)|false=>none
     |some (.cT τ _ L _ _)=>match Nat.beq sz τ.size with|true=>some (al n L.length,.cY b n.toNat sz 0)|false=>none
     |_=>none
    |.vw b τ off len=>match Nat.beq sz τ.size with
     |true=>match h.tr.get b with|some (.cells _ _)=>some (al n len,.ptr b ((off+n.toNat)*sz))|some (.arr _ _ _)=>some (al n len,.cY b (off+n.toNat) sz 0)|_=>none
     |false=>none
    |.fz τ L=>match Nat.beq sz τ.size with|true=>some (al n L.length,.eC τ (L.getD n.toNat τ.zero) 0)|false=>none
    |.dA b=>match h.tr.get b with
     |some (.d7 L _)=>match Nat.beq sz 1 with|true=>some (al n L.length,.ra b n.toNat)|false=>none
     |_=>none
    |_=>none
   |none=>none
  |some (.array len elem)=>match n with
   |.ofNat n=>match u,cz P elem with
    |.ptr b off,some sz=>match Nat.blt n len with|true=>some (true,.ptr b (off+n*sz))|false=>none
    |_,_=>none
   |_=>none
  |_=>none
 |_=>none
theorem GF{P:Program}{t:TypeId}{u i v:AV}{g:Bool}{X:Cx}(H:ab X)(h:lI P X.h t u i=some (g,v))(hg:g=true){U I:Value}(R:Rel X u U)(RI:Rel X i I)(w:World) :
  ∃V,(Instr.indexAt t U I).run P w=.ok V w/\Rel X v V:=by
 subst hg;unfold lI at h;cases i<;>simp only[]at h<;>try cases h
 rename_i k n;rw[show I=_ from RI];cases hu:P.underlying t with
 |none=>simp[hu]at h|some d=>
  have hr:=run_underlying hu w;cases d<;>simp only[hu]at h<;>try cases h
  .rename_i elem;split at h<;>try cases h
   rename_i sz hs;split at h<;>try cases h
   .rename_i b afn;have fin:∀(n':Nat),rowOf X.h.tr b=some n'->al n n'=true->(∀l,X.s b=some l->∃x c,l=.at x c\/n'=0)->∃V,(Instr.indexAt t U (.int k n)).run P w=.ok V w/\Rel X (.cY b n.toNat sz 0) V:=by
     intro n' hrow aR hl;obtain⟨m,rfl,hm⟩:=pK aR;obtain⟨l,h1,_,h2⟩:=R;have hV:=h2 n' hrow;obtain⟨x,c,rfl|rfl⟩:=hl l h1
     .subst hV;refine⟨.pointer (some ⟨x,m*sz,none⟩),by simp[Loc.slice,Instr.indexAt,asIntOf,hr,run_sizeOf hs,dk,hm],x,c,h1,acv,?_⟩;intro aev q;rw[hrow]at q;cases q;simpa using hm
     .exact absurd hm acs
    split at h<;>try cases h
    .rename_i τ L ty hb;split at h<;>try cases h
     rename_i hz;simp only[bf,ww]at h;obtain⟨aR,rfl⟩:=h;refine fin _ (iM hb) aR fun l h1=>?_;cases l with|nil=>have hL:L=[]:=H.obj b _ _ hb h1;subst hL;exact⟨0,0,.inr rfl⟩|bX _ _ _=>exact(H.obj b _ _ hb h1:False).elim|«at» x c=>exact⟨x,c,.inl rfl⟩
    .rename_i τ aek L vs ty hb;split at h<;>try cases h
     rename_i hz;simp only[bf,ww]at h;obtain⟨aR,rfl⟩:=h;refine fin _ (O7 hb) aR fun l h1=>?_;obtain⟨x,c,pre,mid,post,tail,e1,_⟩:=H.obj b _ _ hb h1;exact⟨x,c,.inl e1⟩
   .rename_i b τ off len;split at h<;>try cases h
    rename_i hz;have hz:=aW hz;subst hz;obtain⟨l,a,c,h1,rfl,h3,h4,h5,h6⟩:=R;split at h<;>try cases h
    .simp only[bf,ww]at h;obtain⟨aR,rfl⟩:=h;obtain⟨m,rfl,hm⟩:=pK aR;obtain⟨x,k',rfl,rfl⟩:=h4 acs;exact⟨.pointer (some ⟨x,off*τ.size+m*τ.size,none⟩),by simp[Instr.indexAt,asIntOf,hr,run_sizeOf hs,dk,hm],x,k',h1,by simp[Ne]⟩
    .simp only[bf,ww]at h;obtain⟨aR,rfl⟩:=h;obtain⟨m,rfl,hm⟩:=pK aR;obtain⟨x,k',rfl,rfl⟩:=h4 acs;refine⟨.pointer (some ⟨x,off*τ.size+m*τ.size,none⟩),by simp[Instr.indexAt,asIntOf,hr,run_sizeOf hs,dk,hm],x,k',h1,by simp[Ne],?_⟩;intro n' q;have:=h6 n' q;simp;omega
   .rename_i τ L;split at h<;>try cases h
    rename_i hz;have hz:=aW hz;subst hz;simp only[bf,ww]at h;obtain⟨aR,rfl⟩:=h;obtain⟨m,rfl,hm⟩:=pK aR;obtain⟨a,len,cap,e1,e2,e3,e4⟩:=R;simp only[abK,abj]at e1;subst e1;obtain⟨b,o,Y,rfl,q2,q3,q4⟩:=e4 (by intro q;subst q;simp at hm);subst e2;have hget:L[m]?=some L[m]:=bF hm;obtain⟨d,p1,p2⟩:=aV.get (fun x c=>Cs.length) q3 hget;obtain⟨c,ty,fr,r1,r2⟩:=q4;refine⟨.pointer (some ⟨b,o+m*τ.size,none⟩),by simp[Instr.indexAt,asIntOf,hr,run_sizeOf hs,dk,hm],b,o+m*τ.size,d,acv,q2,?_,c,ty,fr,r1,?_⟩
    .rw[Fr,gC,hget];exact p1
    .intro j u hj;have hj':j<τ.size:=by
      rw[<-Cs.length p1];rcases rt j d.length with q|q
      .exact q
      .rw[Do q]at hj;cases hj
     rw[<-p2 j hj']at hj;have:=r2 _ _ hj;rw[aaZ];exact this
   .rename_i b;split at h<;>try cases h
    rename_i L ty hb;split at h<;>try cases h
    rename_i hz;have hz:=aW hz;subst hz;simp only[bf,ww]at h;obtain⟨aR,rfl⟩:=h;obtain⟨m,rfl,hm⟩:=pK aR;obtain⟨l,h1,rfl⟩:=R;cases l with|nil=>have hL:L=[]:=H.obj b _ _ hb h1;subst hL;simp at hm|«at» x c=>exact(H.obj b _ _ hb h1:False).elim|bX x c ps=>obtain⟨tail,ty',q1,q2,q3,q4⟩:=H.obj b _ _ hb h1;have hl:=q3.len;exact⟨.pointer (some ⟨x,m,none⟩),by simp[Loc.J0,Instr.indexAt,asIntOf,hr,run_sizeOf hs,dk,hl,hm],x,c,ps,h1,by simp;omega,acv⟩
  .split at h<;>try cases h
   rename_i n;split at h<;>try cases h
   rename_i b off sz hs;split at h<;>try cases h
   rename_i hb;rw[WP]at hb;obtain⟨x,c,h1,rfl⟩:=R;exact⟨_,by simp[Instr.indexAt,asIntOf,hr,run_sizeOf hs,dk,hb,Instr.sureAddr],x,c,h1,rfl⟩
open Go.Proofs.Ytbbhihkocghhaaa.Ev (Tr Tr.bE nth bW takeN du eu eW bU dK ir still fK run_underlying run_typeInfo run_sizeOf cz dk places mD gb ld jM kH zb)
def da(T:Tr AV)(x:Option Operand):Option (Option Int):=match x with|none=>some none|some x=>match aK T x with|some (.int _ n)=>some (some n)|_=>none
theorem BB{T:Tr AV}{x:Option Operand}(h:da T x=some none):x=none:=by
 unfold da at h
 grind
theorem BA{X:Cx}{T:Tr AV}{a:Act}{x:Option Operand}{n:Int}(h:da T x=some (some n))(hr:∀y,x=some y->∀u,aK T y=some u->Rel X u (a.eval y)):∃y k,x=some y/\a.eval y=.int k n:=by
 unfold da at h;split at h
 .cases h
 .rename_i y;split at h<;>try cases h
  rename_i k hy;exact⟨y,k,rfl,hr y rfl _ hy⟩
def lenOf(h:Hp):AV->Option Nat
 |.hd b _=>match h.tr.get b with|some (.arr _ L _)=>some L.length|some (.cT _ _ L _ _)=>some L.length|_=>none
 |.vw _ _ _ len=>some len|.fz _ L=>some L.length|.dt _ _ L=>some L.length|.bu=>some 0|.dA b=>match h.tr.get b with|some (.d7 L _)=>some L.length|_=>none
 |_=>none
theorem KM{X:Cx}(H:ab X){u:AV}{n:Nat}{U:Value}(e:lenOf X.h u=some n)(R:Rel X u U):∃a c,U=.slice a n c/\n<=c:=by
 unfold lenOf at e;split at e<;>try cases e
 .rename_i b τ;split at e<;>try cases e
  .rename_i τ' L ty hb;obtain⟨l,h1,_,h2⟩:=R;rw[h2 _ (iM hb)];cases l with|nil=>have hL:L=[]:=H.obj b _ _ hb h1;subst hL;exact⟨none,0,rfl,ol _⟩|bX _ _ _=>exact(H.obj b _ _ hb h1:False).elim|«at» x c=>obtain⟨cs,tail,q1,q2,q3,q4⟩:=H.obj b _ _ hb h1;exact⟨_,c,rfl,q4⟩
  .rename_i τ' i' L vs ty hb;obtain⟨l,h1,_,h2⟩:=R;rw[h2 _ (O7 hb)];obtain⟨x,c,pre,mid,post,tail,rfl,_,_,_,_,_,_,_,q⟩:=H.obj b _ _ hb h1;exact⟨_,c,rfl,q⟩
 .obtain⟨l,a,c,h1,rfl,h3,_⟩:=R;exact⟨a,c,rfl,h3⟩
 .obtain⟨a,len,cap,e1,e2,e3,_⟩:=R
  grind
 .obtain⟨⟨a,len,cap,e1,e2,e3,_⟩,_⟩:=R
  grind
 .rw[show U=_ from R];grind
 .rename_i b;split at e<;>cases e;rename_i L ty hb;obtain⟨l,h1,rfl⟩:=R;cases l with|nil=>have hL:L=[]:=H.obj b _ _ hb h1;subst hL;exact⟨none,0,rfl,ol _⟩|«at» x c=>exact(H.obj b _ _ hb h1:False).elim|bX x c m=>obtain⟨tail,ty',q1,q2,q3,q4⟩:=H.obj b _ _ hb h1;exact⟨some ⟨x,0,none⟩,c,by rw[<-q3.len];rfl,by rw[<-q3.len];omega⟩
def okB(lo hi:Option Int)(len:Nat):Bool:=match lo,hi with|none,none=>true|some l,none=>both (decide (0<=l)) (decide (l<=(len:Int)))|none,some r=>both (decide (0<=r)) (decide (r<=(len:Int)))|some l,some r=>both (decide (0<=l)) (both (decide (l<=r)) (decide (r<=(len:Int))))
def dH:Option Int->Nat|none=>0|some l=>l.toNat
def dT:Option Int->Nat->Nat|none,n=>n|some r,_=>r.toNat
theorem rG{lo hi:Option Int}{len:Nat}(h:okB lo hi len=true):dH lo<=dT hi len/\dT hi len<=len/\(∀l,lo=some l->l=(dH lo:Int))/\(∀r,hi=some r->r=(dT hi len:Int)):=by
 cases lo<;>cases hi<;>simp only[okB]at h
 .exact⟨by simp[dH],by simp[dT],acv,acv⟩
 .rename_i r;obtain⟨h1,h2⟩:=kK h;simp only[FS]at h1 h2;refine⟨by simp[dH],by simp only[dT];omega,acv,?_⟩;rintro r' q;cases q;simp only[dT];omega
 .rename_i l;obtain⟨h1,h2⟩:=kK h;simp only[FS]at h1 h2;refine⟨by simp only[dH,dT];omega,by simp[dT],?_,acv⟩;rintro l' q;cases q;simp only[dH];omega
 .rename_i l r;obtain⟨h1,h2⟩:=kK h;obtain⟨h2,h3⟩:=kK h2;simp at h1 h2 h3;refine⟨by simp only[dH,dT];omega,by simp only[dT];omega,?_,?_⟩
  .rintro l' q;cases q;simp only[dH];omega
  .rintro r' q;cases q;simp only[dT];omega
theorem nL{P:Program}{X:Cx}{T:Tr AV}{a:Act}{lo hi:Option Operand}{l h:Option Int}{len cap:Nat}(hr:∀x,(lo=some x\/hi=some x)->∀u,aK T x=some u->Rel X u (a.eval x))
  (h1:da T lo=some l) (h2:da T hi=some h) (bM:okB l h len=true) (hc:len<=cap) (b:Bool) (w:World) :
  (Instr.sliceBounds b len cap (lo.map a.eval) (hi.map a.eval) none).run P w=.ok (dH l,dT h len,cap) w:=by
 obtain⟨q1,q2,q3,q4⟩:=rG bM;have bd:∀(k:IntKind) (n y:Nat) (code:BoundsCode),n<=y->(Instr.sliceBound (.int k (n:Int)) y code).run P w=.ok n w:=fun k n y code h=>by simp[Instr.sliceBound,asIntOf,h]
 unfold Instr.sliceBounds;cases l with
 |none=>
  have:=BB h1;subst this;cases h with
  |none=>have:=BB h2;subst this;simp[dH,dT]|some r=>
   obtain⟨y,k,rfl,hy⟩:=BA h2 (fun y hy=>hr y (.inr hy));obtain⟨m,rfl⟩:∃m:Nat,r=(m:Int):=⟨_,q4 r rfl⟩;have hm:dT (some (m:Int)) len=m:=by simp[dT]
   rw[hm]at q2 |-;simp only[abI,abJ,hy];simp[bd,dH,pp q2 hc]
 |some l=>
  obtain⟨x,kx,rfl,hx⟩:=BA h1 (fun y hy=>hr y (.inl hy));obtain⟨ml,rfl⟩:∃m:Nat,l=(m:Int):=⟨_,q3 l rfl⟩;have hml:dH (some (ml:Int))=ml:=by simp[dH]
  rw[hml]at q1 |-;cases h with
  |none=>have:=BB h2;subst this;simp only[abI,abJ,hx];simp only[dT]at q1;simp[bd,dT,q1]|some r=>
   obtain⟨y,k,rfl,hy⟩:=BA h2 (fun y hy=>hr y (.inr hy));obtain⟨m,rfl⟩:∃m:Nat,r=(m:Int):=⟨_,q4 r rfl⟩;have hm:dT (some (m:Int)) len=m:=by simp[dT]
   rw[hm]at q1 q2 |-;simp only[abI,hx,hy];simp[bd,q1,pp q2 hc]
def ET{α:Type}(lo hi:Option Int)(L:List α):List α:=match lo,hi with|none,none=>L|some l,none=>L.drop l.toNat|none,some r=>L.take r.toNat|some l,some r=>(L.drop l.toNat).take (r.toNat-l.toNat)
theorem TO{α:Type}(lo hi:Option Int)(L:List α):ET lo hi L=(L.drop (dH lo)).take (dT hi L.length-dH lo):=by
 cases lo<;>cases hi<;>simp[ET,dH,dT]
 .rw[By acv]
def lN(P:Program)(h:Hp)(T:Tr AV)(t:TypeId)(u:AV)(lo hi:Option Operand):Option (Bool×AV):=match da T lo,da T hi with
 |some l,some r=>match P.underlying t with
  |some (.slice elem)=>match cz P elem with
   |some sz=>match u with
    |.hd b τ=>match h.tr.get b with
     |some (.arr τ' L _)=>match Nat.beq sz τ.size with|true=>some (okB l r L.length,.vw b τ (dH l) (dT r L.length-dH l))|false=>none
     |_=>none
    |.vw b τ off len=>match Nat.beq sz τ.size with|true=>some (okB l r len,.vw b τ (off+dH l) (dT r len-dH l))|false=>none
    |.fz τ L=>match Nat.beq sz τ.size with|true=>some (okB l r L.length,.fz τ (ET l r L))|false=>none
    |.bu=>some (okB l r 0,.bu)|_=>none
   |none=>none
  |some .string=>match u with|.str x=>some (okB l r x.size,.str (x.extract (dH l) (dT r x.size)))|_=>none
  |_=>none
 |_,_=>none
theorem Hj(x o n sz m l:Nat)(h:l<m):(if m=l then(some ⟨x,o,none⟩:lc)else(some ⟨x,o,none⟩:lc).map (·.add (l*sz)))=some ⟨x,o+l*sz,none⟩:=by rw[qr acs];simp[dk]
theorem GR{P:Program}{T:Tr AV}{t:TypeId}{u v:AV}{lo hi:Option Operand}{g:Bool}{X:Cx}(H:ab X)(e:lN P X.h T t u lo hi=some (g,v))(hg:g=true){U:Value}(R:Rel X u U){a:Act}
  (hr:∀x,(lo=some x\/hi=some x)->∀u,aK T x=some u->Rel X u (a.eval x)) (w:World) :
  ∃V,(Instr.sliceAt t U (lo.map a.eval) (hi.map a.eval) none).run P w=.ok V w/\Rel X v V:=by
 subst hg;unfold lN at e;split at e<;>try cases e
 rename_i l r h1 h2;split at e
 .rename_i elem hu;have hru:=run_underlying hu w;split at e<;>try cases e
  rename_i sz hs;have main:∀(A:lc) (len cap:Nat),okB l r len=true->len<=cap->(Instr.sliceAt t (.slice A len cap) (lo.map a.eval) (hi.map a.eval) none).run P w =
    .ok (.slice (if cap=dH l then A else A.map (·.add (dH l*sz))) (dT r len-dH l) (cap-dH l)) w:=by
   intro A len cap bM hc;simp only[Instr.sliceAt,Instr.slice,Sem.run_bind,hru,Result.andThen_ok,nL hr h1 h2 bM hc true w,run_sizeOf hs,Sem.run_pure]
  split at e<;>try cases e
  .rename_i b τ;split at e<;>try cases e
   rename_i τ' L ty hb;split at e<;>try cases e
   rename_i hz;have hz:=aW hz;subst hz;simp only[bf,ww]at e;obtain⟨bM,rfl⟩:=e;obtain⟨q1,q2,_,_⟩:=rG bM;obtain⟨A,c,rfl,hc⟩:=KM H (show lenOf X.h (.hd b τ)=some L.length by simp[lenOf,hb]) R;obtain⟨k,g1,_,g2⟩:=R;have g3:=g2 _ (iM hb);refine⟨_,main A L.length c bM hc,k,_,_,g1,rfl,acs,?_,?_,?_⟩
   .intro hp;cases k with|nil=>simp[Loc.slice]at g3;omega|bX _ _ _=>exact(H.obj b _ _ hb g1:False).elim|«at» x k=>simp only[Loc.slice,abL,acr]at g3;obtain⟨rfl,rfl⟩:=g3;exact⟨x,c,rfl,by rw[Hj x 0 0 _ _ _ acs];simp⟩
   .intro h0;rw[h0];cases k with
    |nil=>simp only[Loc.slice,abL,acr]at g3;obtain⟨rfl,rfl⟩:=g3;simp[Loc.slice]
    |bX _ _ _=>exact(H.obj b _ _ hb g1:False).elim|«at» x k=>simp only[Loc.slice,abL,acr]at g3;obtain⟨rfl,rfl⟩:=g3;simp[Loc.slice,dk]
   .intro aeu q;rw[iM hb]at q;cases q;omega
  .rename_i b τ off len;split at e<;>try cases e
   rename_i hz;have hz:=aW hz;subst hz;simp only[bf,ww]at e;obtain⟨bM,rfl⟩:=e;obtain⟨q1,q2,_,_⟩:=rG bM;obtain⟨k,A,c,g1,rfl,g3,g4,g5,g6⟩:=R;refine⟨_,main A len c bM g3,k,_,_,g1,rfl,acs,?_,?_,?_⟩
   .intro hp;obtain⟨x,k',rfl,rfl⟩:=g4 acs;exact⟨x,k',rfl,by rw[Hj x _ 0 _ _ _ acs];simp[Ne]⟩
   .intro h0;have h01:off=0:=acs
    have h02:dH l=0:=acs
    have g5:=g5 h01;rw[h02];cases k with
    |nil=>simp only[Loc.slice,abL,acr]at g5;obtain⟨rfl,rfl⟩:=g5;simp[Loc.slice]
    |bX x k m=>simp only[Loc.slice,abL,acr]at g5;obtain⟨rfl,rfl⟩:=g5;simp[Loc.slice,dk]
    |«at» x k=>simp only[Loc.slice,abL,acr]at g5;obtain⟨rfl,rfl⟩:=g5;simp[Loc.slice,dk]
   .intro aeu q;have:=g6 _ q;omega
  .rename_i τ L;split at e<;>try cases e
   rename_i hz;have hz:=aW hz;subst hz;simp only[bf,ww]at e;obtain⟨bM,rfl⟩:=e;obtain⟨q1,q2,_,_⟩:=rG bM;obtain⟨A,len,cap,e1,e2,e3,e4⟩:=R;simp only[abK,abj]at e1;subst e1;subst e2;refine⟨_,main A _ cap bM e3,?_⟩;rw[TO];refine⟨_,_,_,rfl,by simp;omega,acs,fun hne=>?_⟩;have hpos:dH l<dT r L.length:=by
    rcases rt (dH l) (dT r L.length)with q|q
    .exact q
    .rw[show dT r L.length-dH l=0 by omega,aaQ]at hne;exact absurd rfl hne
   have hL:L≠[]:=by rintro rfl;simp only[BT]at q1 q2 hpos;omega
   obtain⟨b,o,Y,rfl,p2,p3,c,ty,fr,p4,p5⟩:=e4 hL;refine⟨b,o+dH l*τ.size,(Y.drop (dH l*τ.size)).take ((dT r L.length-dH l)*τ.size),Hj _ _ 0 _ _ _ acs,p2,aV.take (fun x c=>Cs.length) _ (aV.drop (fun x c=>Cs.length) _ p3),c,ty,fr,p4,?_⟩;intro j v hv;rw[abR]at hv;split at hv
   .rw[List.getElem?_drop]at hv;have:=p5 _ _ hv;rw[aaZ];exact this
   .cases hv
  .simp only[bf,ww]at e;obtain⟨bM,rfl⟩:=e;obtain⟨q1,q2,_,_⟩:=rG bM;rw[show U=_ from R];refine⟨_,main none 0 0 bM (ol _),?_⟩;show _=_;have:dT r 0=0:=acs
   simp[this]
 .rename_i hu;have hru:=run_underlying hu w;split at e<;>try cases e
  rename_i x;simp only[bf,ww]at e;obtain⟨bM,rfl⟩:=e;rw[show U=_ from R];refine⟨_,?_,rfl⟩;simp only[Instr.sliceAt,Instr.slice,Sem.run_bind,hru,Result.andThen_ok,abh,GE,abu,Sem.run_pure];simp only[nL hr h1 h2 bM (ol _) false w,Result.andThen_ok,Sem.run_pure]
 .cases e
def ia(place:Nat->Option (Nat×Nat)):List AV->List (Nat×AV)->Option (List AV)
 |cells,[]=>some cells|cells,(i,v)::rest=>match place i with|none=>none|some (off,size)=>match Nat.beq (bV v).length size,Nat.ble (off+size) cells.length with|true,true=>ia place (takeN off cells++(bV v++du (off+size) cells)) rest|_,_=>none
def vK(X:Cx):List (Nat×AV)->List (Nat×Value)->Prop
 |[],ps=>ps=[]|x::l,ps=>∃V r,ps=(x.1,V)::r/\Rel X x.2 V/\vK X l r
theorem zl{X:Cx}(place:Nat->Option (Nat×Nat)):∀(parts:List (Nat×AV)) (ps:List (Nat×Value)) (cells r:List AV) (cs:kw),ia place cells parts=some r->vK X parts ps->bc X cells cs ->
  ∃rs,Instr.fill place cs.toArray ps=some rs.toArray/\bc X r rs
 |[],ps,cells,r,cs,h,hp,hc=>by simp[ia]at h;subst h;rw[show ps=[]from hp];exact⟨cs,rfl,hc⟩|(i,v)::rest,ps,cells,r,cs,h,hp,hc=>by
  obtain⟨V,qs,rfl,hv,hq⟩:=hp;simp only[ia]at h;cases hpl:place i<;>simp only[hpl]at h
  .cases h
  rename_i q;obtain⟨off,size⟩:=q;simp only[]at h;cases h1:Nat.beq (bV v).length size<;>cases h2:Nat.ble (off+size) cells.length<;>simp only[h1,h2]at h<;>first|cases h|skip
  have h1:=aW h1;have h2:=pi h2;have hvl:=ju hv;have hl:V.cells.size=size:=by rw[<-NE,hvl.length,h1]
  have hcl:=hc.length;rw[eu,eW]at h;obtain⟨rs,q1,q2⟩:=zl place rest qs _ r (cs.take off++(V.cells.toList++cs.drop (off+size))) h hq ((hc.take off).append (hvl.append (hc.drop (off+size))));refine⟨rs,?_,q2⟩;simp only[Instr.fill,hpl];rw[qr (by simp[hl];omega),<-q1];congr 1;apply IS.1;have hz:V.cells.zipIdx.foldl (fun cs (x:Value×Nat)=>cs.setIfInBounds (off+x.2) x.1) cs.toArray
    = (V.cells.toList.zipIdx 0).foldl (fun cs (x:Value×Nat)=>cs.setIfInBounds (off+x.2) x.1) cs.toArray:=by
   rw[<-Array.foldl_toList];simp
  have:=zb off V.cells.toList 0 cs.toArray (by simp[hl];omega);rw[hz,this];simp[hl]
def fL(T:Tr AV):List (Nat×Operand)->Option (List (Nat×AV))
 |[]=>some []|(i,x)::l=>match aK T x with
  |some v=>match fL T l with|some vs=>some ((i,v)::vs)|none=>none
  |none=>none
theorem GS{X:Cx}{T:Tr AV}{a:Act}:∀{l:List (Nat×Operand)}{vs:List (Nat×AV)},fL T l=some vs ->
  (∀x∈l.map (·.2),∀u,aK T x=some u->Rel X u (a.eval x))->vK X vs (l.map fun x=>(x.1,a.eval x.2))
 |[],vs,h,_=>by simp[fL]at h;subst h;rfl|(i,x)::l,vs,h,hr=>by
  simp only[fL]at h;cases hv:aK T x<;>simp only[hv]at h
  .cases h
  cases hl:fL T l<;>simp only[hl]at h
  .cases h
  simp at h;subst h;exact⟨_,_,rfl,hr x acv _ hv,GS hl (fun y hy=>hr y (by grind))⟩
def oZ(P:Program)(t:TypeId)(parts:List (Nat×AV)):Option AV:=match P.underlying t with
 |some (.struct fields)=>match dL P t,places P fields.toList with
  |some z,some ps=>match ia (fun i=>nth ps i) (bV z) parts with|some r=>some (.agg r)|none=>none
  |_,_=>none
 |some (.array _ elem)=>match dL P t,cz P elem with
  |some z,some sz=>match ia (fun i=>some (i*sz,sz)) (bV z) parts with|some r=>some (.agg r)|none=>none
  |_,_=>none
 |_=>none
theorem GW{P:Program}{t:TypeId}{parts:List (Nat×AV)}{v:AV}(e:oZ P t parts=some v){X:Cx}(w:World)(ps:Array (Nat×Value))(hp:vK X parts ps.toList) :
  ∃V,(Instr.build t ps).run P w=.ok V w/\Rel X v V:=by
 unfold oZ at e;split at e
 .rename_i fields hu;split at e<;>try cases e
  rename_i z q hz hq;split at e<;>try cases e
  rename_i r hr;obtain⟨Z,hZ,RZ⟩:=fZ hz X w;obtain⟨rs,f1,f2⟩:=zl _ _ _ _ _ _ hr hp (ju RZ);have hfun:(fun i=>(q.toArray:Array (Nat×Nat))[i]?)=fun i=>nth q i:=by funext i;rw[bW];simp
  refine⟨.agg rs.toArray,?_,rs,rfl,f2⟩;rw[aaR]at f1;simp only[Instr.build,Sem.run_bind,hZ,Result.andThen_ok,run_underlying hu,mD hq,Sem.run_pure];rw[hfun,f1];simp
 .rename_i k elem hu;split at e<;>try cases e
  rename_i z sz hz hs;split at e<;>try cases e
  rename_i r hr;obtain⟨Z,hZ,RZ⟩:=fZ hz X w;obtain⟨rs,f1,f2⟩:=zl _ _ _ _ _ _ hr hp (ju RZ);refine⟨.agg rs.toArray,?_,rs,rfl,f2⟩;rw[aaR]at f1;simp only[Instr.build,Sem.run_bind,hZ,Result.andThen_ok,run_underlying hu,run_sizeOf hs,Sem.run_pure];rw[f1];simp
 .cases e
def pA(P:Program)(h:Hp)(ts:Array TypeId)(u:AV):Option AV:=match nth ts.toList 0 with
 |some t=>match P.underlying t with
  |some (.slice _)=>match lenOf h u with|some n=>some (.int .i64 (n:Int))|none=>none
  |some .string=>match u with|.str x=>some (.int .i64 (x.size:Int))|_=>none
  |some (.array n _)=>some (.int .i64 (n:Int))|_=>none
 |none=>none
theorem Ya{P:Program}{ts:Array TypeId}{u v:AV}{X:Cx}(H:ab X)(e:pA P X.h ts u=some v){U:Value}(R:Rel X u U)(ty:TypeId)(w:World) :
  ∃V,(Builtin.len_ ts ty #[U]).run P w=.ok V w/\Rel X v V:=by
 unfold pA at e;split at e<;>try cases e
 rename_i t ht;have ht:ts[0]?=some t:=by rw[bW]at ht;simpa using ht
 split at e
 .rename_i hu;split at e<;>try cases e
  rename_i n hn;obtain⟨A,c,rfl,_⟩:=KM H hn R;exact⟨_,by simp[Builtin.len_,ht,run_underlying hu,goInt],rfl⟩
 .rename_i hu;split at e<;>try cases e
  rw[show U=_ from R];exact⟨_,by simp[Builtin.len_,ht,run_underlying hu,goInt],rfl⟩
 .rename_i hu;cases e;exact⟨_,by simp[Builtin.len_,ht,run_underlying hu,goInt],rfl⟩
 .cases e
def sD(k:IntKind):Int->List AV->Option Int
 |a,[]=>some a|a,v::l=>match v with|.int _ b=>sD k (j9 (decide (b > a)) b a) l|_=>none
def sE(k:IntKind):Int->List AV->Option Int
 |a,[]=>some a|a,v::l=>match v with|.int _ b=>sE k (j9 (decide (b<a)) b a) l|_=>none
open Go.Proofs.Ytbbhihkocghhaaa.Ev (Tr Tr.bE nth bW takeN du eu eW bU dK ir still fK run_underlying run_typeInfo run_sizeOf cz dk places mD gb ld jM jj)
mutual
theorem zw{h:Hp}:∀{σ:Sh}{l:List AV}{d:σ.T}{r:List AV}{h':Hp},dz false h σ l=some (d,r,h')->h'=h
 |.int k,l,d,r,h',e=>by
  simp only[dz]at e;split at e<;>try cases e
  split at e<;>cases e;rfl
 |.bool,l,d,r,h',e=>by simp only[dz]at e;split at e<;>cases e;rfl
 |.str,l,d,r,h',e=>by simp only[dz]at e;split at e<;>cases e;rfl
 |.agg ss,l,d,r,h',e=>KT (ss:=ss) e|.sl s,l,d,r,h',e=>by
  simp only[dz]at e;split at e<;>try cases e
  .rfl
  .split at e<;>cases e;rfl
  .split at e<;>try cases e
   split at e<;>first|(cases e;done)|(rename_i q _;cases q)
  .split at e<;>try cases e
   split at e<;>first|(cases e;done)|(rename_i q _;cases q)
theorem KT{h:Hp}:∀{ss:List Sh}{l:List AV}{d:TL ss}{r:List AV}{h':Hp},je false h ss l=some (d,r,h')->h'=h
 |[],l,d,r,h',e=>by simp only[je,bf,ww]at e;cases e;rfl
 |s::ss,l,d,r,h',e=>by
  simp only[je]at e;split at e<;>try cases e
  rename_i ads aeC h₁ adv;split at e<;>try cases e
  rename_i adt aeD h₂ adw;rw[KT adw,zw adv]
end
def mM(h:Hp)(b off:Nat)(vs:List AV):Option Hp:=match h.tr.get b with
 |some (.cells l ty)=>match Nat.ble (off+vs.length) l.length,jh vs with
  |true,true=>match Tr.set FT h.tr b (some (.cells (takeN off l++(vs++du (off+vs.length) l)) ty))with|some tr=>some ⟨tr,h.next⟩|none=>none
  |_,_=>none
 |_=>none
theorem tq{P:Program}{X:Cx}(H:ab X){h':Hp}{b x c off:Nat}{vs:List AV}{Vs:kw}(e:mM X.h b off vs=some h')(hs:X.s b=some (.at x c))(R:bc X vs Vs) :
  ∃w',(storeCells ⟨x,off,none⟩ Vs).run P X.w=.ok () w'/\ab ⟨X.s,h',w',X.A⟩/\aB X ⟨X.s,h',w',X.A⟩:=by
 unfold mM at e;split at e<;>try cases e
 rename_i l ty hb;split at e<;>try cases e
 rename_i hl ho;split at e<;>try cases e
 rename_i tr ht;have hl:=pi hl;obtain⟨x',c',cs,e1,e2,e3⟩:=H.obj b _ _ hb hs;cases e1;have hL:=e3.length;have hV:=R.length;obtain⟨d,hd,hr⟩:=jj (P:=P) (off:=off) Vs 0 X.w _ e2 (by simp;omega) (zE ho R);have hd:d=(cs.take off++(Vs++cs.drop (off+Vs.length))).toArray:=by grind
 subst hd;have E:=aB.put (ob:=.cells (cs.take off++(Vs++cs.drop (off+Vs.length))).toArray ty (0,0)) H hb hs (by intro n q;cases q) ht;refine⟨_,hr,H.put hb hs (by intro n q;cases q) ht ⟨x,c,_,rfl,by show(bU X.w x _).heap[x]?=_;rw[dK,ut ⟨rfl,gW e2⟩],?_⟩,E⟩;have R':=(e3.take off).append (R.append (e3.drop (off+vs.length)));rw[eu,eW,<-hV]at *
 exact R'.ext (E.dw H)
def Cp(h:Hp)(b i z o:Nat)(vs:List AV):Option Hp:=match h.tr.get b with
 |some (.arr τ L ty)=>match Nat.beq z τ.size,Nat.ble (o+vs.length) z,jh vs,dz true h τ (takeN o (kL τ (L.getD i τ.zero))++(vs++du (o+vs.length) (kL τ (L.getD i τ.zero))))with
  |true,true,true,some (x,[],h₁)=>match h₁.tr.get b with
   |some _=>match Tr.set FT h₁.tr b (some (.arr τ (L.set i x) ty))with|some tr=>some ⟨tr,h₁.next⟩|none=>none
   |none=>none
  |_,_,_,_=>none
 |_=>none
theorem Xr{P:Program}{X:Cx}(H:ab X){h':Hp}{b x c i z o:Nat}{vs:List AV}{Vs:kw}(e:Cp X.h b i z o vs=some h')(hs:X.s b=some (.at x c))
  (hi:∀n,rowOf X.h.tr b=some n->i<n) (R:bc X vs Vs) :
  ∃w',(storeCells ⟨x,i*z+o,none⟩ Vs).run P X.w=.ok () w'/\ab ⟨X.s,h',w',X.A⟩/\aB X ⟨X.s,h',w',X.A⟩:=by
 unfold Cp at e;split at e<;>try cases e
 rename_i τ L ty hb;split at e<;>try cases e
 rename_i y h₁ hz hle ho hf;split at e<;>try cases e
 rename_i aew adF;split at e<;>try cases e
 rename_i tr ht;have hz:=aW hz;subst hz;have hle:=pi hle;have hi:=hi _ (iM hb);obtain⟨cs,tail,q1,q2,q3,q4⟩:=H.obj b _ _ hb hs;have hget:L[i]?=some L[i]:=bF hi;obtain⟨d,p1,p2⟩:=aV.get (fun x c=>Cs.length) q2 hget;have hd:=Cs.length p1;have hcs:=aV.length (fun x c=>Cs.length) q2;have hiz:i*τ.size+τ.size<=cs.length:=by rw[hcs];have:=OF τ.size (show i+1<=L.length by omega);rw[Ne]at this;omega
 have hV:=R.length;have RD:bc X (kL τ (L.getD i τ.zero)) d:=by rw[gC,hget];exact qn p1
 have Rn:=(RD.take o).append (R.append (RD.drop (o+vs.length)));rw[<-eu,<-eW]at Rn;obtain⟨F,adq,aeC,k1,k2,k3⟩:=nS H hf Rn;have adV:aeC=[]:=k3;subst adV;rw[dE]at k1;have adG:h₁.tr.get b=some (.arr τ L ty):=by have:=F.sub b _ adF;rw[hb]at this;rw[adF,<-this]
 obtain⟨e',he',hrun⟩:=jj (P:=P) (off:=i*τ.size+o) Vs 0 X.w _ q1 (by simp;omega) (zE ho R);have hdd:d=(cs.drop (i*τ.size)).take τ.size:=by
  apply aaO;intro j;rw[abR];split
  .rename_i hj;rw[List.getElem?_drop];exact(p2 j hj).symm
  .rw[Do acs]
 have hsplit:cs=cs.take (i*τ.size)++(d++cs.drop (i*τ.size+τ.size)):=by rw[hdd,<-acm,EQ,EQ]
 have hal:(cs.take (i*τ.size)).length=i*τ.size:=by simp;omega
 have hlist:e'=(cs.take (i*τ.size)++adq++cs.drop (i*τ.size+τ.size)++tail).toArray:=by
  apply IS.1;rw[he',<-k1];simp only[aaW];generalize cs.take (i*τ.size)=A at hsplit hal |-;generalize cs.drop (i*τ.size+τ.size)=B at hsplit |-;subst hsplit;have t1:(A++(d++B)++tail).take (i*τ.size+o)=A++d.take o:=by rw[<-hal,bJ,abz,bJ,abg acs]
  have t2:(A++(d++B)++tail).drop (i*τ.size+o+Vs.length)=d.drop (o+vs.length)++(B++tail):=by rw[<-hal,aaZ,bJ,aaX,bJ,hV,List.drop_append_of_le_length acs]
  rw[t1,t2];simp
 subst hlist;have E:=aB.put (X:=⟨X.s,h₁,X.w,X.A⟩) (ob:=.cells (cs.take (i*τ.size)++adq++cs.drop (i*τ.size+τ.size)++tail).toArray ty (0,0)) F.H adG hs (by intro n q;simpa[aI.row]using q) ht;refine⟨_,hrun,ab.put (X:=⟨X.s,h₁,X.w,X.A⟩) F.H adG hs (by intro n q;simpa[aI.row]using q) ht ?_,F.E.trans E⟩;have K:=E.keeps;refine⟨cs.take (i*τ.size)++adq++cs.drop (i*τ.size+τ.size),tail,?_,?_,?_,by simpa using q4⟩
 .show(bU X.w x _).heap[x]?=_;rw[dK,ut ⟨rfl,gW q1⟩]
 .have s1:aV (Cs X.w (Cx.out ⟨X.s,h₁,X.w,X.A⟩) τ) L cs:=q2.mono (fun x c q=>q.aH F.E.keeps);have s2:aV (Cs X.w (Cx.out ⟨X.s,h₁,X.w,X.A⟩) τ) (L.set i y) (cs.take (i*τ.size)++adq++cs.drop (i*τ.size+τ.size)):=aV.set (fun x c=>Cs.length) s1 hi k2;exact s2.mono (fun x c q=>q.aH K)
 .have:=Cs.length k2;simp only[aP,ep,abt,this];omega
def Ke:Sh->Bool
 |.sl _=>true|.agg l=>hasSlL l|_=>false
where hasSlL:List Sh->Bool
 |[]=>false|s::l=>match Ke s with|true=>true|false=>hasSlL l
def EL:List AV->Bool
 |[]=>false|.hd _ τ::l=>match Ke τ with|true=>true|false=>EL l
 |_::l=>EL l
def xy(h:Hp)(b i z o:Nat)(vs:List AV):Option (Bool×Hp):=match h.tr.get b with
 |some (.arr τ L ty)=>match Nat.beq z τ.size,Nat.ble (o+vs.length) z,jh vs with
  |true,true,true=>match Tr.set FT h.tr b (some (.cT τ i L (takeN o (kL τ (L.getD i τ.zero))++(vs++du (o+vs.length) (kL τ (L.getD i τ.zero)))) ty))with|some tr=>some (true,⟨tr,h.next⟩)|none=>none
  |_,_,_=>none
 |some (.cT τ k L us ty)=>match Nat.beq z τ.size,Nat.ble (o+vs.length) z,jh vs with
  |true,true,true=>match Tr.set FT h.tr b (some (.cT τ k L (takeN o us++(vs++du (o+vs.length) us)) ty))with|some tr=>some (Nat.beq i k,⟨tr,h.next⟩)|none=>none
  |_,_,_=>none
 |_=>none
theorem O4{P:Program}{X:Cx}(H:ab X){b x c i o:Nat}{ob:aI}{τ:Sh}{L:List τ.T}{us vs:List AV}{ty:TypeId}{Vs:kw}{tr:Tr aI}(hb:X.h.tr.get b=some ob)(hrow:ob.row=some L.length)(hs:X.s b=some (.at x c))
  {pre mid post tail:kw}(q1:X.w.heap[x]?=some (.cells (List.toArray (pre++(mid++(post++tail)))) ty (0,0))) (q2:aV (Cs X.w X.out τ) (L.take i) pre) (q3:bc X us mid) (q4:aV (Cs X.w X.out τ) (L.drop (i+1)) post)
  (hi:i<L.length) (hm:mid.length=τ.size) (hsum:pre.length+(mid.length+(post.length+tail.length))=c*τ.size) (hc:L.length<=c) (hle:o+vs.length<=τ.size) (ho:jh vs=true) (R:bc X vs Vs)
  (ht:Tr.set FT X.h.tr b (some (.cT τ i L (takeN o us++(vs++du (o+vs.length) us)) ty))=some tr) :
  ∃w',(storeCells ⟨x,i*τ.size+o,none⟩ Vs).run P X.w=.ok () w'/\ab ⟨X.s,⟨tr,X.h.next⟩,w',X.A⟩/\aB X ⟨X.s,⟨tr,X.h.next⟩,w',X.A⟩:=by
 have hV:=R.length;have hpre:pre.length=i*τ.size:=by rw[aV.length (fun x c=>Cs.length) q2,ep,acj acs]
 obtain⟨e',he',hrun⟩:=jj (P:=P) (off:=i*τ.size+o) Vs 0 X.w _ q1 (by simp;omega) (zE ho R);have hlist:e'=(pre++((mid.take o++(Vs++mid.drop (o+vs.length)))++(post++tail))).toArray:=by apply IS.1;rw[he'];simp only[aaW];rw[<-hpre,<-hV,abz,aaZ,aaX,abg acs,List.drop_append_of_le_length acs];simp
 subst hlist;have hrw:∀n,(aI.cT τ i L (takeN o us++(vs++du (o+vs.length) us)) ty).row=some n->ob.row=some n:=by intro n q;rw[hrow];exact q
 have E:=aB.put (ob:=.cells (pre++((mid.take o++(Vs++mid.drop (o+vs.length)))++(post++tail))).toArray ty (0,0)) H hb hs hrw ht;have K:=E.keeps;refine⟨_,hrun,ab.put H hb hs hrw ht ?_,E⟩;refine⟨x,c,pre,mid.take o++(Vs++mid.drop (o+vs.length)),post,tail,rfl,?_,q2.mono (fun x d q=>q.aH K),?_,q4.mono (fun x d q=>q.aH K),hi,?_,?_,hc⟩
 .show(bU X.w x _).heap[x]?=_;rw[dK,ut ⟨rfl,gW q1⟩]
 .have R':=(q3.take o).append (R.append (q3.drop (o+vs.length)));rw[eu,eW];exact R'.ext (E.dw H)
 .simp only[aP,ep,abt];omega
 grind
theorem O6{P:Program}{X:Cx}(H:ab X){h':Hp}{b x c i z o:Nat}{g:Bool}{vs:List AV}{Vs:kw}(e:xy X.h b i z o vs=some (g,h'))(hg:g=true)(hs:X.s b=some (.at x c))
  (hi:∀n,rowOf X.h.tr b=some n->i<n) (R:bc X vs Vs) :
  ∃w',(storeCells ⟨x,i*z+o,none⟩ Vs).run P X.w=.ok () w'/\ab ⟨X.s,h',w',X.A⟩/\aB X ⟨X.s,h',w',X.A⟩:=by
 subst hg;unfold xy at e;split at e<;>try cases e
 .rename_i τ L ty hb;split at e<;>try cases e
  rename_i hz hle ho;split at e<;>cases e;rename_i tr ht;have hz:=aW hz;subst hz;have hle:=pi hle;have hi:=hi _ (iM hb);obtain⟨cs,tail,q1,q2,q3,q4⟩:=H.obj b _ _ hb hs;have hget:L[i]?=some L[i]:=bF hi;obtain⟨d,p1,p2⟩:=aV.get (fun x c=>Cs.length) q2 hget;have hd:=Cs.length p1;have hcs:=aV.length (fun x c=>Cs.length) q2;have hiz:i*τ.size+τ.size<=cs.length:=by rw[hcs];have:=OF τ.size (show i+1<=L.length by omega);rw[Ne]at this;omega
  have RD:bc X (kL τ (L.getD i τ.zero)) d:=by rw[gC,hget];exact qn p1
  have hdd:d=(cs.drop (i*τ.size)).take τ.size:=by
   apply aaO
   grind
  have hsplit:cs++tail=cs.take (i*τ.size)++(d++(cs.drop ((i+1)*τ.size)++tail)):=by rw[hdd,Ne,Nat.one_mul,<-bJ,<-bJ,<-acm,bJ (cs.take _),EQ,EQ]
  rw[hsplit]at q1;refine O4 H hb rfl hs q1 (aV.take (fun x c=>Cs.length) i q2) RD (aV.drop (fun x c=>Cs.length) (i+1) q2) hi hd ?_ q4 hle ho R ht
  grind
 .rename_i τ k L us ty hb;split at e<;>try cases e
  rename_i hz hle ho;split at e<;>try cases e
  rename_i tr ht;simp only[bf,ww]at e;obtain⟨hik,rfl⟩:=e;have hik:=aW hik;subst hik;have hz:=aW hz;subst hz;have hle:=pi hle;obtain⟨x',c',pre,mid,post,tail,e1,q1,q2,q3,q4,q5,q6,q7,q8⟩:=H.obj b _ _ hb hs;cases e1;exact O4 H hb rfl hs q1 q2 q3 q4 q5 q6 q7 q8 hle ho R ht
def Bc(h:Hp)(b i z o:Nat)(vs:List AV):Option (Bool×Hp):=match h.tr.get b with|some (.cT _ _ _ _ _)=>xy h b i z o vs|_=>match EL vs with|true=>xy h b i z o vs|false=>match Cp h b i z o vs with|some h'=>some (true,h')|none=>none
theorem aaD{P:Program}{X:Cx}(H:ab X){h':Hp}{b x c i z o:Nat}{g:Bool}{vs:List AV}{Vs:kw}(e:Bc X.h b i z o vs=some (g,h'))(hg:g=true)(hs:X.s b=some (.at x c))
  (hi:∀n,rowOf X.h.tr b=some n->i<n) (R:bc X vs Vs) :
  ∃w',(storeCells ⟨x,i*z+o,none⟩ Vs).run P X.w=.ok () w'/\ab ⟨X.s,h',w',X.A⟩/\aB X ⟨X.s,h',w',X.A⟩:=by
 unfold Bc at e;split at e
 .exact O6 H e hg hs hi R
 .split at e
  .exact O6 H e hg hs hi R
  .split at e<;>cases e;rename_i hp;exact Xr H hp hs hi R
