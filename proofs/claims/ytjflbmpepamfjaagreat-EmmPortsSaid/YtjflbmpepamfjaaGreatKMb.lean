import Derived.Test.YtjflbmpepamfjaaGreatKMa
import Derived.IntWalk
set_option linter.all false
section
namespace Go.Proofs.YtjflbmpepamfjaaGreat.Ev
open Go Go.RowKit
variable{w:World}{b:Nat}{h:Hp}{s:Sg}
theorem ab.move(H:ab s h w){f g:Nat}{o o':aE}{ob:Obj}{aIA aIB:Tr aE}(hb:h.tr.get b=some o)
  (aHO:Tr.set f h.tr b none=some aIA) (aHP:Tr.set g aIA h.next (some o')=some aIB) (ho:cj (aW s h.next (s b)) h.next o' (some ob)) (hw:jQ h.next o'=true) :
  ab (aW s h.next (s b)) ⟨aIB,h.next+1⟩ (cq w (s b).1 ob)/\Ext s h w (aW s h.next (s b)) ⟨aIB,h.next+1⟩ (cq w (s b).1 ob):=by
 have aHv:=Tr.bM f h.tr b none aIA aHO;have aHw:=Tr.bM g aIA h.next (some o') aIB aHP;have aU:=H.bound hb;have hbn:=H.lt b o hb;have old:∀j,j<h.next->aW s h.next (s b) j=s j:=fun j hj=>uV s _ _ hj;have alt:∀j aIk,aIB.get j=some aIk->(j=h.next/\aIk=o')\/(h.tr.get j=some aIk/\j≠b/\j<h.next):=by
  intro j aIk hj;rw[aHw j]at hj;by_cases q:j=h.next
  .rw[BY q]at hj;grind
  .rw[rx q,aHv j]at hj;by_cases r:j=b
   .rw[BY r]at hj;cases hj
   .rw[rx r]at hj;exact .inr ⟨hj,r,H.lt j aIk hj⟩
 refine⟨⟨?_,?_,?_,?_⟩,⟨rfl,rfl,rfl,by rw[jr];exact pi _,old,aGn,?_,?_,fun j aIk hj hlt=>by grind⟩⟩
 .intro j aIk hj;rcases alt j aIk hj with⟨rfl,rfl⟩|⟨hj,hne,hlt⟩
  .rw[cU,eO,BY ⟨rfl,aU⟩];exact ho
  .rw[old j hlt,eO,rx (fun r=>hne (H.inj j b aIk o hj hb r.1))];exact(H.obj j aIk hj).congr old hlt (H.ia j aIk hj)
 .intro j k aIk aIl hj hk e;rcases alt j aIk hj with⟨rfl,rfl⟩|⟨hj,hne,hlt⟩<;>rcases alt k aIl hk with⟨rfl,rfl⟩|⟨hk,hne',hlt'⟩
  .rfl
  .rw[cU,old k hlt']at e;exact absurd (H.inj k b aIl o hk hb e.symm) hne'
  .rw[cU,old j hlt]at e;exact absurd (H.inj j b aIk o hj hb e) hne
  .rw[old j hlt,old k hlt']at e;exact H.inj j k aIk aIl hj hk e
 .intro j aIk hj
  grind
 .intro j aIk hj;rcases alt j aIk hj with⟨rfl,rfl⟩|⟨hj,hne,hlt⟩
  .exact qP aGn hw
  .exact qP aGn (H.ia j aIk hj)
 .intro k hk hn;rw[eO,rx (fun r=>hn b o hb r.1.symm)]
 .intro j aIk hj;rcases alt j aIk hj with⟨rfl,rfl⟩|⟨hj,hne,hlt⟩
  .exact .inl ⟨b,o,hb,by rw[cU]⟩
  grind
def nk(h:Hp)(sz:Nat):AV->Option (Nat×List AV)
 |.ai=>some (0,[])|.slice b off n _ _=>match h.tr.get b with
  |some (.cells l _ _)=>match Nat.ble (off+n*sz) l.length with|true=>some (n,takeN (n*sz) (eh off l))|false=>none
  |_=>none
 |_=>none
variable{x:AV}{l:List AV}{sz:Nat}{P:Program}{n:Nat}
theorem pG(e:nk h sz x=some (n,l))(H:ab s h w) :
  (Builtin.lenOf (ah s x)).run P w=.ok n w/\(Builtin.firstCells sz n (ah s x)).run P w=.ok (aG s l).toArray w/\cV h.next l=true/\l.length=n*sz:=by
 unfold nk at e;split at e
 .obtain⟨rfl,rfl⟩:=e;simp[ah,Builtin.lenOf,Builtin.firstCells,aG,cV]
 .rename_i b off n' u c;split at e<;>try cases e
  rename_i cs ty op hb;split at e<;>try cases e
  rename_i hl;have hl:=qr hl;obtain⟨tail,hw,_,_⟩:=H.cells hb;have hL:=fQ s cs;have hws:=H.ia _ _ hb;refine⟨by simp[ah,Builtin.lenOf],?_,DT (NL hws),by simp[fu,fK];omega⟩;simp only[ah,Builtin.firstCells,loadCells];rw[run_loadCells hw _ 0 #[] (by simp;omega)];congr 2;simp only[aux,fu,fK,qO,sK,List.toList_toArray,Nm]
  grind
 .cases e
theorem U3(m:Nat):∀(r c:Nat),c<=2*m+192->Builtin.growBy m r c<=2*m+192
 |0,c,h=>by simpa[Builtin.growBy]using h|r+1,c,h=>by
  simp only[Builtin.growBy];split
  .exact h
  .exact U3 m r _ aGl
variable{need:Nat}
theorem uS{old:Nat}(h:old<need):Builtin.nextslicecap need old<=2*need+192:=by
 unfold Builtin.nextslicecap;split
 .omega
 .split
  .omega
  .exact U3 _ _ _ aGl
theorem Qo(need old:Nat)(el:TypeId)(t:Nat)(h:need<=1099511627776):(Question.appendCap need old el).cut t<=9223372036854775807:=by have:=Nat.mod_lt t (show 0<2^63-need by omega);show need+t % (2^63-need)<=_;omega
variable{elem:TypeId}{old:List AV}{X:Value}{base:lc}{new:List AV}{z:AV}{sCap:Nat}{ts:Array TypeId}{t1:TypeId}{t0:TypeId}{sLen:Nat}{info:TypeInfo}{ty:TypeId}{d1:TypeDesc}
theorem x9
  (ht0:ts[0]?=some t0) (ht1:ts[1]?=some t1) (hu0:P.underlying t0=some (.slice elem)) (hu1:P.underlying t1=some d1) (hd:∀k,d1≠.int k) (hs:cP P elem=some sz) (hz:eS P elem=some z)
  (hi:P.info? elem=some info) (hzl:(cr z).length=sz) (hn:(Builtin.lenOf X).run P w=.ok n w) (hnot:sCap<sLen+n) (hb:(2*(sLen+n)+192)*info.bytes<=281474976710656) (hne:sLen+n<=1099511627776)
  (hold:∀d,(Builtin.firstCells sz sLen (.slice base sLen sCap)).run P { w with drawn:=d }=.ok (aG s old).toArray { w with drawn:=d })
  (hnew:∀d,(Builtin.firstCells sz n X).run P { w with drawn:=d }=.ok (aG s new).toArray { w with drawn:=d }) :
  ∃c,sLen+n<=c/\c<=9223372036854775807/\∃d,∃rest:kw,rest.length=(c-(sLen+n))*sz/\(Builtin.append_ ts ty #[.slice base sLen sCap,X]).run P w =
   .ok (.slice (some ⟨w.heap.size,0,none⟩) (sLen+n) c) { w with drawn:=d,heap:=w.heap.push (.cells (aG s old++aG s new++rest).toArray elem (0,0)) }:=by
 refine⟨(Question.appendCap (sLen+n) sCap elem).cut (w.tape w.drawn (.appendCap (sLen+n) sCap elem)),by simp[Question.cut],Qo _ _ _ _ aGl,w.drawn+1,?_⟩;have hz0:=iu hz s;have hzs:(ah s z).cells.size=sz:=by rw[<-PP,lB,fQ,hzl]
 generalize hc:(Question.appendCap (sLen+n) sCap elem).cut (w.tape w.drawn (.appendCap (sLen+n) sCap elem))=c;refine⟨(Builtin.zeroCells (ah s z).cells (c-(sLen+n))).toList,by simp[Builtin.zeroCells,hzs],?_⟩;have hbig:¬(Builtin.nextslicecap (sLen+n) sCap*info.bytes > 2^48):=by have:=UV info.bytes (uS hnot);show ¬(281474976710656<_);omega
 have hk:(match d1 with|.int _=>true|_=>false)=false:=aGn
 have hmax:¬(((sLen+n:Nat):Int) > IntKind.i64.max/\(false=true\/info.bytes=0)):=by
  intro q;have h1:=q.1;have:IntKind.i64.max=9223372036854775807:=aGo
  rw[this]at h1;omega
 unfold Builtin.append_;simp only[ht0,ht1,pp,pm,rg,Sem.run_bind,run_underlying hu0,run_underlying hu1,Result.andThen_ok,run_sizeOf hs,Sem.run_pure,run_typeInfo hi];rw[rx aGc];simp only[Sem.run_bind,hn,Result.andThen_ok];rw[rx (by omega:¬sLen+n<=sCap)];simp only[Sem.run_bind,run_typeInfo hi,Result.andThen_ok];rw[rx hmax];simp only[Sem.run_bind,run_typeInfo hi,Result.andThen_ok];rw[rx hbig];simp only[Sem.run_bind,run_choose,Question.forced,GE,aFk,Result.andThen_ok,run_typeInfo hi,run_askRoom,hold,hc,Bool.not_false,aFx,hnew,hz0,newRow,run_newObj,Sem.run_pure];congr 3
 simp_all
variable{off:Nat}{w':World}
theorem Ec
  (ht0:ts[0]?=some t0) (ht1:ts[1]?=some t1) (hu0:P.underlying t0=some (.slice elem)) (hu1:P.underlying t1=some d1) (hd:∀k,d1≠.int k) (hs:cP P elem=some sz)
  (hn:(Builtin.lenOf X).run P w=.ok n w) (hfit:sLen+n<=sCap) (hnew:(Builtin.firstCells sz n X).run P w=.ok (aG s new).toArray w)
  (hst:(storeCells ⟨b,off+sLen*sz,none⟩ (aG s new)).run P w=.ok () w') :
  (Builtin.append_ ts ty #[.slice (some ⟨b,off,none⟩) sLen sCap,X]).run P w=.ok (.slice (some ⟨b,off,none⟩) (sLen+n) sCap) w':=by
 have hk:(match d1 with|.int _=>true|_=>false)=false:=aGn
 unfold Builtin.append_;simp only[ht0,ht1,pp,pm,rg,Sem.run_bind,run_underlying hu0,run_underlying hu1,Result.andThen_ok,run_sizeOf hs,Sem.run_pure];rw[rx aGc];simp only[Sem.run_bind,hn,Result.andThen_ok];rw[BY hfit];simp only[Sem.run_bind,Bool.not_false,aFx,hnew,Result.andThen_ok,dR,hst,Sem.run_pure]
theorem Ni
  (ht0:ts[0]?=some t0) (ht1:ts[1]?=some t1) (hu0:P.underlying t0=some (.slice elem)) (hu1:P.underlying t1=some d1) (hd:∀k,d1≠.int k) (hs:cP P elem=some sz)
  (hn:(Builtin.lenOf X).run P w=.ok 0 w) (hnew:(Builtin.firstCells sz 0 X).run P w=.ok (aG s l).toArray w) :
  (Builtin.append_ ts ty #[.slice none 0 0,X]).run P w=.ok (.slice none 0 0) w:=by
 have hk:(match d1 with|.int _=>true|_=>false)=false:=aGn
 unfold Builtin.append_;simp only[ht0,ht1,pp,pm,rg,Sem.run_bind,run_underlying hu0,run_underlying hu1,Result.andThen_ok,run_sizeOf hs,Sem.run_pure]
 simp_all
theorem Zt2(hzl:(cr z).length=sz):Builtin.zeroCells (ah s z).cells n=(aG s (rep n (cr z))).toArray:=by refine NO s _ n _ _ (lB s z) ?_;rw[<-PP,lB,fQ]
variable{ki:IntKind}{kx:IntKind}{xi:Int}
theorem asN
  (ht0:ts[0]?=some t0) (ht1:ts[1]?=some t1) (hu0:P.underlying t0=some (.slice elem)) (hu1:P.underlying t1=some (.int ki)) (hs:cP P elem=some sz) (hz:eS P elem=some z)
  (hi:P.info? elem=some info) (hzl:(cr z).length=sz) (hpos:0<sz) (hn:IntKind.i64.wrap xi=(n:Int)) (hnb:n*info.bytes<=281474976710656) (hnot:sCap<sLen+n) (hb:(2*(sLen+n)+192)*info.bytes<=281474976710656) (hne:sLen+n<=1099511627776)
  (hold:∀d,(Builtin.firstCells sz sLen (.slice base sLen sCap)).run P { w with drawn:=d }=.ok (aG s old).toArray { w with drawn:=d }) :
  ∃c,sLen+n<=c/\c<=9223372036854775807/\∃d,∃rest:kw,rest.length=(c-(sLen+n))*sz/\(Builtin.append_ ts ty #[.slice base sLen sCap,.int kx xi]).run P w =
   .ok (.slice (some ⟨w.heap.size,0,none⟩) (sLen+n) c) { w with drawn:=d,heap:=w.heap.push (.cells (aG s old++aG s (rep n (cr z))++rest).toArray elem (0,0)) }:=by
 refine⟨(Question.appendCap (sLen+n) sCap elem).cut (w.tape w.drawn (.appendCap (sLen+n) sCap elem)),by simp[Question.cut],Qo _ _ _ _ aGl,w.drawn+1,?_⟩;have hz0:=iu hz s;have hzs:(ah s z).cells.size=sz:=by rw[<-PP,lB,fQ,hzl]
 generalize hc:(Question.appendCap (sLen+n) sCap elem).cut (w.tape w.drawn (.appendCap (sLen+n) sCap elem))=c;refine⟨(Builtin.zeroCells (ah s z).cells (c-(sLen+n))).toList,by simp[Builtin.zeroCells,hzs],?_⟩;have hbig:¬(Builtin.nextslicecap (sLen+n) sCap*info.bytes > 2^48):=by have:=UV info.bytes (uS hnot);show ¬(281474976710656<_);omega
 have hmax:¬(((sLen+n:Nat):Int) > IntKind.i64.max/\(True\/info.bytes=0)):=by
  intro q;have h1:=q.1;have:IntKind.i64.max=9223372036854775807:=aGo
  rw[this]at h1;omega
 have hlow:¬((n:Int)<0):=aGl
 have hhigh:¬((n:Int)*(info.bytes:Int) > 2^48):=aGl
 have hsz:n≠0->¬(n*sz=0):=fun h q=>by rcases Nat.mul_eq_zero.1 q with r|r<;>omega
 unfold Builtin.append_;simp only[ht0,ht1,pp,pm,rg,Sem.run_bind,run_underlying hu0,run_underlying hu1,Result.andThen_ok,run_sizeOf hs,Sem.run_pure,run_typeInfo hi];rw[BY trivial];simp only[asInt,asIntOf,Sem.run_bind,Sem.run_pure,Result.andThen_ok,hn];rw[rx hlow];simp only[Sem.run_bind,run_typeInfo hi,Result.andThen_ok];rw[rx hhigh];simp only[Sem.run_bind,Sem.run_pure,Result.andThen_ok,Id];rw[rx (by omega:¬sLen+n<=sCap)];simp only[Sem.run_bind,run_typeInfo hi,Result.andThen_ok];rw[rx hmax];simp only[Sem.run_bind,run_typeInfo hi,Result.andThen_ok];rw[rx hbig];simp only[Sem.run_bind,run_choose,Question.forced,GE,aFk,Result.andThen_ok,run_typeInfo hi,run_askRoom,hold,hc,Bool.not_true];by_cases hn0:n*sz=0
 .have hn1:n=0:=by rcases Nat.mul_eq_zero.1 hn0 with r|r<;>omega
  subst hn1;rw[BY hn0];simp only[Sem.run_pure,Result.andThen_ok,hz0,Sem.run_bind,newRow,run_newObj];congr 3;apply IT (fun x=>Obj.cells x elem (0,0));apply Rd.1;simp[rep,aG]
 .rw[rx hn0];simp only[Sem.run_bind,Sem.run_pure,Result.andThen_ok,hz0,newRow,run_newObj];congr 3;apply IT (fun x=>Obj.cells x elem (0,0));apply Rd.1;rw[Zt2 (n:=n) hzl];simp
theorem asO
  (ht0:ts[0]?=some t0) (ht1:ts[1]?=some t1) (hu0:P.underlying t0=some (.slice elem)) (hu1:P.underlying t1=some (.int ki)) (hs:cP P elem=some sz) (hz:eS P elem=some z)
  (hi:P.info? elem=some info) (hzl:(cr z).length=sz) (hpos:0<sz) (hn:IntKind.i64.wrap xi=(n:Int)) (hnb:n*info.bytes<=281474976710656) (hfit:sLen+n<=sCap)
  (hst:(storeCells ⟨b,off+sLen*sz,none⟩ (aG s (rep n (cr z)))).run P w=.ok () w') :
  (Builtin.append_ ts ty #[.slice (some ⟨b,off,none⟩) sLen sCap,.int kx xi]).run P w=.ok (.slice (some ⟨b,off,none⟩) (sLen+n) sCap) w':=by
 have hz0:=iu hz s;have hlow:¬((n:Int)<0):=aGl
 have hhigh:¬((n:Int)*(info.bytes:Int) > 2^48):=aGl
 unfold Builtin.append_;simp only[ht0,ht1,pp,pm,rg,Sem.run_bind,run_underlying hu0,run_underlying hu1,Result.andThen_ok,run_sizeOf hs,Sem.run_pure,run_typeInfo hi];rw[BY trivial];simp only[asInt,asIntOf,Sem.run_bind,Sem.run_pure,Result.andThen_ok,hn];rw[rx hlow];simp only[Sem.run_bind,run_typeInfo hi,Result.andThen_ok];rw[rx hhigh];simp only[Sem.run_bind,Sem.run_pure,Result.andThen_ok,Id];rw[BY hfit];simp only[Sem.run_bind,Bool.not_true,GE,aFk];by_cases hn0:n*sz=0
 .have hn1:n=0:=by rcases Nat.mul_eq_zero.1 hn0 with r|r<;>omega
  subst hn1;rw[BY hn0];simp only[rep,aG]at hst;simp only[Sem.run_pure,Result.andThen_ok,dR,Sem.run_bind,hst]
 .rw[rx hn0];simp only[Sem.run_bind,Sem.run_pure,Result.andThen_ok,hz0,Zt2 (n:=n) hzl,dR,hst]
def Ql(h:Hp)(d:TypeDesc)(sz by_:Nat)(z x:AV):Option (Nat×List AV):=match d with
 |.int _=>match x with
  |.int _ xi=>match IntKind.i64.wrap xi with
   |.ofNat n=>match Nat.ble (n*by_) 281474976710656 with|true=>some (n,rep n (cr z))|false=>none
   |.negSucc _=>none
  |_=>none
 |_=>nk h sz x
def Aw:TypeDesc->Bool|.int _=>false|_=>true
def qY(h:Hp)(elem sz by_ need:Nat)(l:List AV):Option (AV×Hp):=match Nat.ble ((2*need+192)*by_) 281474976710656,Nat.ble need 1099511627776 with
 |true,true=>match Tr.set FT h.tr h.next (some (.cells l elem (some sz)))with|some tr=>some (.slice h.next 0 need true 0,⟨tr,h.next+1⟩)|none=>none
 |_,_=>none
def qQ(P:Program)(h:Hp)(ts:Array TypeId)(su x:AV):Option (AV×Hp):=match nth ts.toList 0,nth ts.toList 1 with
 |some t0,some t1=>match P.underlying t0,P.underlying t1 with
  |some (.slice elem),some d1=>match cP P elem,eS P elem,iw P elem with
   |some sz,some z,some by_=>match Nat.beq (cr z).length sz,Nat.blt 0 sz,Ql h d1 sz by_ z x with
    |true,true,some (n,new)=>match su with
     |.ai=>match n,Aw d1 with|0,true=>some (.ai,h)|0,false=>none|n+1,_=>qY h elem sz by_ (n+1) new
     |.slice b off len false c=>match Nat.ble (len+n) c with
      |true=>match pR h b (off+len*sz) new with|some h'=>some (.slice b off (len+n) false c,h')|none=>none
      |false=>match nk h sz (.slice b off len false c)with|some (_,old)=>qY h elem sz by_ (len+n) (old++new)|none=>none
     |.slice b 0 len true 0=>match h.tr.get b with
      |some (.cells l ty (some z'))=>match Nat.beq z' sz,Nat.beq ty elem,Nat.ble (len*sz) l.length,kh new,Nat.ble ((2*(len+n)+192)*by_) 281474976710656,Nat.ble (len+n) 1099511627776 with
       |true,true,true,true,true,true=>match Tr.set FT h.tr b none with
        |some tr=>match Tr.set FT tr h.next (some (.cells (takeN (len*sz) l++new) elem (some sz)))with|some tr=>some (.slice h.next 0 (len+n) true 0,⟨tr,h.next+1⟩)|none=>none
        |none=>none
       |_,_,_,_,_,_=>none
      |_=>none
     |_=>none
    |_,_,_=>none
   |_,_,_=>none
  |_,_=>none
 |_,_=>none
theorem ab.drew(H:ab s h w)(d:Nat):ab s h { w with drawn:=d }:=⟨H.obj,H.inj,H.lt,H.ia⟩
variable{v:AV}{c:Nat}{h':Hp}
theorem Nu{elem by_ d:Nat}(e:qY h elem sz by_ need l=some (v,h'))(H:ab s h w){rest:kw}
  (hl:l.length=need*sz) (hc:need<=c) (hcm:c<=9223372036854775807) (hr:rest.length=(c-need)*sz) (hw:cV h.next l=true) :
  ab (aW s h.next (w.heap.size,c)) h' { w with drawn:=d,heap:=w.heap.push (.cells (aG s l++rest).toArray elem (0,0)) } /\
  Ext s h w (aW s h.next (w.heap.size,c)) h' { w with drawn:=d,heap:=w.heap.push (.cells (aG s l++rest).toArray elem (0,0)) } /\
  ah (aW s h.next (w.heap.size,c)) v=.slice (some ⟨w.heap.size,0,none⟩) need c/\ws h'.next v=true:=by
 unfold qY at e;split at e<;>try cases e
 split at e<;>try cases e
 rename_i tr ht;have hn:=(H.drew d).new (c:=c) (o':=.cells l elem (some sz)) (by
  refine⟨rest,?_,?_,?_⟩
  .rw[Vb hw]
  .rw[cU,hl,hr,<-So];congr 1;omega
  .rw[cU];exact hcm) (qP aGn hw) ht
 exact⟨hn.1,(Ext.drew s h w d).trans hn.2,by simp[ah,cU],by simp[ws]⟩
theorem DC{su:AV}(e:qQ P h ts su x=some (v,h'))(H:ab s h w)(hws:ws h.next su=true) :
  ∃s' w',(Builtin.append_ ts ty #[ah s su,ah s x]).run P w=.ok (ah s' v) w'/\ab s' h' w'/\Ext s h w s' h' w'/\ws h'.next v=true:=by
 unfold qQ at e;split at e<;>try cases e
 rename_i t0 t1 ht0 ht1;have ht0:ts[0]?=some t0:=by rw[ct]at ht0;simpa using ht0
 have ht1:ts[1]?=some t1:=by rw[ct]at ht1;simpa using ht1
 split at e<;>try cases e
 rename_i elem d1 hu0 hu1;split at e<;>try cases e
 rename_i sz z by_ hs hz hb;obtain⟨info,hi,rfl⟩:∃info,P.info? elem=some info/\info.bytes=by_:=by unfold iw at hb;cases hi:P.info? elem<;>simp[hi]at hb;exact⟨_,rfl,hb⟩
 split at e<;>try cases e
 rename_i n new hzl hpos hsrc;have hzl:=aK hzl;rw[acl]at hpos;have src:cV h.next new=true/\new.length=n*sz /\
   (∀(base:lc) (sLen sCap:Nat) (old:List AV),sCap<sLen+n->(2*(sLen+n)+192)*info.bytes<=281474976710656->sLen+n<=1099511627776 ->
    (∀d,(Builtin.firstCells sz sLen (.slice base sLen sCap)).run P { w with drawn:=d }=.ok (aG s old).toArray { w with drawn:=d }) ->
    ∃c,sLen+n<=c/\c<=9223372036854775807/\∃d,∃rest:kw,rest.length=(c-(sLen+n))*sz/\(Builtin.append_ ts ty #[.slice base sLen sCap,ah s x]).run P w =
     .ok (.slice (some ⟨w.heap.size,0,none⟩) (sLen+n) c) { w with drawn:=d,heap:=w.heap.push (.cells (aG s old++aG s new++rest).toArray elem (0,0)) }) /\
   (∀(b off sLen sCap:Nat) (w':World),sLen+n<=sCap->(storeCells ⟨b,off+sLen*sz,none⟩ (aG s new)).run P w=.ok () w' ->
    (Builtin.append_ ts ty #[.slice (some ⟨b,off,none⟩) sLen sCap,ah s x]).run P w=.ok (.slice (some ⟨b,off,none⟩) (sLen+n) sCap) w') /\
   (n=0->(∀k,d1≠.int k)->(Builtin.append_ ts ty #[.slice none 0 0,ah s x]).run P w=.ok (.slice none 0 0) w):=by
  unfold Ql at hsrc;split at hsrc
  .rename_i ki;split at hsrc<;>try cases hsrc
   rename_i kx xi;split at hsrc<;>try cases hsrc
   rename_i n' hwr;split at hsrc<;>try cases hsrc
   rename_i hnb;have hnb:=qr hnb;refine⟨GZ (sI (Dy hz _)) _,by rw[DK,hzl],?_,?_,?_⟩
   .intro base sLen sCap old h1 h2 h3 h4;exact asN ht0 ht1 hu0 hu1 hs hz hi hzl hpos hwr hnb h1 h2 h3 h4
   .intro b off sLen sCap w' h1 h2;exact asO ht0 ht1 hu0 hu1 hs hz hi hzl hpos hwr hnb h1 h2
   .intro _ h;exact absurd rfl (h ki)
  .rename_i hni;have hd:∀k,d1≠.int k:=fun k q=>hni k q;obtain⟨hlen,hfirst,hneww,hnewl⟩:=pG (P:=P) hsrc H;have hfirstd:∀d,(Builtin.firstCells sz n (ah s x)).run P { w with drawn:=d }=.ok (aG s new).toArray { w with drawn:=d }:=fun d=>(pG (P:=P) hsrc (H.drew d)).2.1;refine⟨hneww,hnewl,?_,?_,?_⟩
   .intro base sLen sCap old h1 h2 h3 h4;exact x9 ht0 ht1 hu0 hu1 hd hs hz hi hzl hlen h1 h2 h3 h4 hfirstd
   .intro b off sLen sCap w' h1 h2;exact Ec ht0 ht1 hu0 hu1 hd hs hlen h1 hfirst h2
   .intro h0 _;subst h0;exact Ni ht0 ht1 hu0 hu1 hd hs hlen hfirst
 obtain⟨hneww,hnewl,Grow,Fits,Nil⟩:=src;split at e
 .split at e
  .rename_i hni;simp only[bo,Do]at e;obtain⟨rfl,rfl⟩:=e;exact⟨s,w,Nil rfl (fun k q=>by subst q;cases hni),H,Ext.refl _ _ _,rfl⟩
  .cases e
  .rename_i n _ _;have hg:=e;unfold qY at hg;split at hg<;>try cases hg
   rename_i q1 q2;have q1:=qr q1;have q2:=qr q2;obtain⟨c,hc,hcm,d,rest,hr,hrun⟩:=Grow none 0 0 [] aGl (by simpa using q1) aGl (fun d=>by simp[Builtin.firstCells,aG]);simp only[aFm]at hc hr hrun;obtain⟨h1,h2,h3,h4⟩:=Nu (d:=d) (rest:=rest) e H hnewl hc hcm hr hneww;refine⟨_,_,?_,h1,h2,h4⟩;rw[h3];simpa[ah,aG]using hrun
 .rename_i b off len c;split at e
  .rename_i hf;have hf:=qr hf;split at e<;>try cases e
   rename_i hw;obtain⟨w',hr,hH,hE⟩:=xR (P:=P) hw H hneww;refine⟨s,w',?_,hH,hE,pO hE.next _ (by simpa[ws]using hws)⟩;exact Fits _ _ _ _ _ hf hr
  .rename_i hf;have hf:¬len+n<=c:=fun q=>by rw[avC q]at hf;cases hf
   split at e<;>try cases e
   rename_i k old hold;obtain⟨hl2,hf2,ho2,hol⟩:=pG (P:=P) hold H;have hk:k=len:=by simp only[ah,Builtin.lenOf,Sem.run_pure,WF,aFa]at hl2;exact hl2.symm
   subst hk;have hg:=e;unfold qY at hg;split at hg<;>try cases hg
   rename_i q1 q2;have q1:=qr q1;have q2:=qr q2;obtain⟨cc,hc,hcm,d,rest,hr,hrun⟩:=Grow (some ⟨(s b).1,off,none⟩) k c old aGl (by simpa using q1) aGl (fun d=>(pG (P:=P) hold (H.drew d)).2.1);obtain⟨h1,h2,h3,h4⟩:=Nu (d:=d) (rest:=rest) e H (by rw[aO,hol,hnewl,So]) hc hcm hr (pI ho2 hneww);refine⟨_,_,?_,h1,h2,h4⟩;rw[h3];simpa[ah,sE]using hrun
 .rename_i b len;split at e<;>try cases e
  rename_i l ty' z' hgb;split at e<;>try cases e
  rename_i q1 q2 q3 q4 q5 q6;have q1:=aK q1;have q2:=aK q2;have q3:=qr q3;have q5:=qr q5;have q6:=qr q6;subst q1 q2;split at e<;>try cases e
  rename_i aIA aHO;split at e<;>try cases e
  rename_i aIB aHP;obtain⟨tail,hw,_,htl⟩:=H.cells hgb;obtain⟨htl,hcs⟩:=htl _ rfl;have hL:=fQ s l;have hN:=fQ s new;have hlw:cV h.next l=true:=H.ia _ _ hgb;have hall:cV h.next (takeN (len*z') l++new)=true:=pI (DT hlw) hneww;by_cases hfit:len+n<=(s b).2
  .have hsz:(len+n)*z'<=(s b).2*z':=UV _ hfit;rw[So]at hsz;obtain⟨c',hc',hr⟩:=kj (P:=P) (off:=len*z') (aG s new) 0 w _ hw (by simp;omega) (by intro v hv;rw[sM]at hv;obtain⟨y,hy,rfl⟩:=IN.1 hv;exact VA ((VB new).1 q4 y hy));have hmv:=H.move (ob:=.cells c' ty' (0,0)) (o':=.cells (takeN (len*z') l++new) ty' (some z')) hgb aHO aHP (by
    refine⟨c'.toList.drop ((len+n)*z'),?_,?_,by rw[cU];exact hcs⟩
    .rw[Vb hall];congr 2;apply Rd.1;simp only[List.toList_toArray];rw[hc',sE,fu,qO];simp only[aux];rw[aEZ aGl,bV]
     conv=>rhs;rw[bV]
     congr 2;rw[So,<-bV];rw[show len*z'+n*z'=((aG s l).take (len*z')++aG s new).length by simp;omega];rw[List.drop_left]
    .have h1:c'.toList.length=(s b).2*z':=by rw[hc'];simp;omega
     rw[cU,aFu,h1,aO,fu,fD,hnewl,aGd q3,So];omega) hall
   refine⟨_,_,?_,hmv.1,hmv.2,by simp[ws]⟩;have:=Fits (s b).1 0 len ((s b).2-0) (cq w (s b).1 (.cells c' ty' (0,0))) aGl (by simpa using hr);simpa[ah,cU]using this
  .have hold:nk h z' (.slice b 0 len true 0)=some (len,takeN (len*z') l):=by simp only[nk,hgb];rw[show Nat.ble (0+len*z') l.length=true from avC aGl];simp[eh]
   obtain⟨hl2,hf2,ho2,hol⟩:=pG (P:=P) hold H;obtain⟨cc,hc,hcm,d,rest,hr,hrun⟩:=Grow (some ⟨(s b).1,0,none⟩) len ((s b).2-0) (takeN (len*z') l) aGl (by simpa using q5) aGl (fun d=>(pG (P:=P) hold (H.drew d)).2.1);have hk:=H.kill aHO;have he:qY ⟨aIA,h.next⟩ ty' z' info.bytes (len+n) (takeN (len*z') l++new)=some (.slice h.next 0 (len+n) true 0,⟨aIB,h.next+1⟩):=by unfold qY;rw[avC q5,avC q6];simp only[aHP]
   obtain⟨h1,h2,h3,h4⟩:=Nu (d:=d) (rest:=rest) he hk.1 (by rw[aO,hol,hnewl,So]) hc hcm hr hall;refine⟨_,_,?_,h1,hk.2.trans h2,h4⟩;rw[h3];simpa[ah,sE]using hrun
 .cases e
def rV(P:Program)(h:Hp)(ts:Array TypeId)(d x:AV):Option (AV×Hp):=match nth ts.toList 0 with
 |some t0=>match P.underlying t0 with
  |some (.slice elem)=>match cP P elem with
   |some sz=>match x with
    |.ai=>match d with
     |.ai=>some (.int .i64 0,h)|.slice b _ _ _ _=>match h.tr.get b with|some (.cells _ _ _)=>some (.int .i64 0,h)|_=>none
     |_=>none
    |.slice b off m u c=>match d with
     |.slice b2 off2 dLen _ _=>match nk h sz (.slice b off (Nat.min m dLen) u c)with
      |some (n,l)=>match pR h b2 off2 l with|some h'=>some (.int .i64 (n:Int),h')|none=>none
      |none=>none
     |_=>none
    |_=>none
   |none=>none
  |_=>none
 |none=>none
theorem Hs{d:AV}(e:rV P h ts d x=some (v,h'))(H:ab s h w) :
  ∃w',(Builtin.copy_ ts ty #[ah s d,ah s x]).run P w=.ok (ah s v) w'/\ab s h' w'/\Ext s h w s h' w'/\ws h'.next v=true:=by
 unfold rV at e;split at e<;>try cases e
 rename_i t0 ht0;have ht0:ts[0]?=some t0:=by rw[ct]at ht0;simpa using ht0
 split at e<;>try cases e
 rename_i elem hu;split at e<;>try cases e
 rename_i sz hs;split at e
 .split at e
  .obtain⟨rfl,rfl⟩:=e;refine⟨w,?_,H,Ext.refl _ _ _,rfl⟩;simp[Builtin.copy_,ht0,run_underlying hu,ah,Builtin.lenOf,run_sizeOf hs,Builtin.firstCells,goInt]
  .split at e<;>try cases e
   refine⟨w,?_,H,Ext.refl _ _ _,rfl⟩;simp[Builtin.copy_,ht0,run_underlying hu,ah,Builtin.lenOf,run_sizeOf hs,Builtin.firstCells,goInt,storeCells]
  .cases e
 .rename_i b off m u c;split at e<;>try cases e
  rename_i b2 off2 dLen u2 c2;split at e<;>try cases e
  rename_i n l hsrc;split at e<;>try cases e
  rename_i hw;obtain⟨h1,h2,h3,h4⟩:=pG (P:=P) hsrc H;have hn:n=Nat.min m dLen:=by simp only[ah,Builtin.lenOf,Sem.run_pure,WF,aFa]at h1;exact h1.symm
  subst hn;obtain⟨w',hr,hH,hE⟩:=xR (P:=P) hw H h3;refine⟨w',?_,hH,hE,rfl⟩;have h2':(Builtin.firstCells sz (Nat.min m dLen) (ah s (.slice b off m u c))).run P w=.ok (aG s l).toArray w:=h2;have hlen:(Builtin.lenOf (ah s (.slice b off m u c))).run P w=.ok m w:=rfl;have hd:ah s (.slice b2 off2 dLen u2 c2)=.slice (some ⟨(s b2).1,off2,none⟩) dLen (match u2 with|true=>(s b2).2-c2|false=>c2):=rfl;simp only[Builtin.copy_,ht0,pp,pm,rg,Sem.run_bind,run_underlying hu,Result.andThen_ok,hd,hlen,run_sizeOf hs,h2',hr,Sem.run_pure];simp[ah,goInt]
 .cases e
def tM(d:TypeDesc)(k:Value):List (AV×AV×Nat)->Nat->Option (Option (Nat×AV))
 |[],_=>some none|e::es,i=>match iJ e.1 with
  |some x=>match Instr.sameNow d k x with|some true=>some (some (i,e.2.1))|some false=>tM d k es (i+1)|none=>none
  |none=>none
theorem U8{d:TypeDesc}{k:Value}(s:Sg):∀{es:List (AV×AV×Nat)}{i:Nat}{r:Option (Nat×AV)},tM d k es i=some r ->
  Instr.findNow d k (eE s es) i=some (r.map fun p=>(p.1,ah s p.2))
 |[],i,r,h=>by simp[tM]at h;subst h;rfl|e::es,i,r,h=>by
  simp only[tM]at h;split at h<;>try cases h
  rename_i x hx;simp only[eE,IS,Instr.findNow,jL hx];split at h
  .rename_i q;simp at h;subst h;simp[q]
  .rename_i q;simp_all;exact U8 s h
  .cases h
def vE(P:Program)(kt:TypeId)(k:Value):List (AV×AV×Nat)->Nat->Option (Option (Nat×AV))
 |[],_=>some none|e::es,i=>match iJ e.1 with
  |some x=>match still P 4000 (Op.equal kt k x)with|some true=>some (some (i,e.2.1))|some false=>vE P kt k es (i+1)|none=>none
  |none=>none
theorem U7{P:Program}{kt:TypeId}{k:Value}(s:Sg)(w:World):∀{es:List (AV×AV×Nat)}{i:Nat}{r:Option (Nat×AV)},vE P kt k es i=some r ->
  (Instr.findAsking kt k (eE s es) i).run P w=.ok (r.map fun p=>(p.1,ah s p.2)) w
 |[],i,r,h=>by simp[vE]at h;subst h;rfl|e::es,i,r,h=>by
  simp only[vE]at h;split at h<;>try cases h
  rename_i x hx;simp only[eE,IS,Instr.findAsking,jL hx];split at h
  .rename_i q;simp at h;subst h;simp[gW q]
  .rename_i q;simp only[Sem.run_bind,gW q,Result.andThen_ok];exact U7 s w h
  .cases h
def uZ(P:Program)(kt:TypeId)(k:Value)(es:List (AV×AV×Nat)):Option (Option (Nat×AV)):=match P.underlying kt with
 |some d=>match tM d k es 0 with
  |some r=>some r|none=>match es with
   |e::_=>match iJ e.1 with
    |some x=>match Instr.sameNow d k x with|none=>vE P kt k es 0|some _=>none
    |none=>none
   |[]=>none
 |none=>none
theorem NH{kt:TypeId}{k:Value}{es:List (AV×AV×Nat)}{r:Option (Nat×AV)}(e:uZ P kt k es=some r)(s:Sg)(w:World) :
  (Instr.findKey kt k (eE s es)).run P w=.ok (r.map fun p=>(p.1,ah s p.2)) w:=by
 unfold uZ at e;split at e<;>try cases e
 rename_i d hu;split at e
 .rename_i q hq;simp at e;subst e;simp[Instr.findKey,run_underlying hu,U8 s hq]
 .split at e<;>try cases e
  rename_i e0 es0 hfa;split at e<;>try cases e
  rename_i x hx;split at e<;>try cases e
  rename_i hn;have h0:Instr.findNow d k (eE s (e0::es0)) 0=none:=by simp[eE,Instr.findNow,jL hx,hn]
  have:=U7 s w e;simp only[Instr.findKey,Sem.run_bind,run_underlying hu,Result.andThen_ok,h0];exact this
def entriesOf(h:Hp):AV->Option (List (AV×AV×Nat))
 |.dt=>some []|.map b=>match h.tr.get b with|some (.map es _)=>some es|_=>none
 |_=>none
def vF{α:Type}:List α->Bool|[]=>true|_=>false
def GO(P:Program)(h:Hp)(t:TypeId)(u k:AV)(ok:Bool):Option AV:=match P.underlying t,entriesOf h u,iJ k with
 |some (.map kt et),some es,some kv=>match still P 4000 (Instr.checkKey (vF es) 10000 kt kv),uZ P kt kv es with
  |some _,some r=>match r with
   |some (_,v)=>some (match ok with|true=>.bB [v,.bool true]|false=>v)
   |none=>match eS P et with
    |some z=>some (match ok with|true=>.bB [z,.bool false]|false=>z)
    |none=>none
  |_,_=>none
 |_,_,_=>none
theorem NF(s:Sg)(es:List (AV×AV×Nat)):(eE s es).toArray.isEmpty=vF es:=by cases es<;>simp[eE,vF]
variable{u:AV}{t:TypeId}{k:AV}
theorem arP{ok:Bool}(e:GO P h t u k ok=some v)(H:ab s h w) :
  (Instr.lookup t (ah s u) (ah s k) ok).run P w=.ok (ah s v) w:=by
 unfold GO at e;split at e<;>try cases e
 rename_i kt et es kv hu he hk;split at e<;>try cases e
 rename_i un r hck hf;have hes:(match ah s u with
  |.map none=>pure #[]|.map (some r)=>do
   let .map es _ <- getObj r|stuck "Lookup: map expected"
   pure es
  |_=>stuck "Lookup: map expected":Sem (Array MapEntry)).run P w=.ok (eE s es).toArray w:=by
  unfold entriesOf at he;split at he
  .simp at he;subst he;rfl
  .rename_i b;split at he<;>try cases he
   rename_i c hb;have:=H.obj b _ hb;simp only[cj]at this;simp[ah,getObj,Sem.run,this]
  .cases he
 have hck':(Instr.checkKey (vF es) 10000 kt kv).run P w=.ok un w:=gW hck w;have hf':=NH hf s w;have key:∀(x:Value) (b:Bool),(match r with|some (_,v)=>(ah s v,true)|none=>(x,false)).1=(match r with|some (_,v)=>ah s v|none=>x):=by intro x b;cases r<;>rfl
 simp only[Instr.lookup,Sem.run_bind,run_underlying hu,Result.andThen_ok,jL hk]at hes |-;cases u with
 |dt=>
  have hE:es=[]:=by simpa[entriesOf]using he.symm
  subst hE;have hr:r=none:=by unfold uZ at hf;cases hd:P.underlying kt with|none=>simp[hd]at hf|some d=>simp[hd,tM]at hf;exact hf.symm
  subst hr;simp only[ah,Sem.run_bind,Sem.run_pure,Result.andThen_ok];have h1:(Instr.checkKey (#[]:Array MapEntry).isEmpty 10000 kt kv).run P w=.ok un w:=hck';have h2:(Instr.findKey kt kv (#[]:Array MapEntry).toList).run P w=.ok none w:=hf';simp only[h1,h2,Result.andThen_ok];simp only[]at e;cases hz:eS P et<;>simp only[hz]at e
  .cases e
  simp only[bo]at e;subst e;cases ok<;>simp[iu hz s,ah,aG]
 |map b=>
  unfold entriesOf at he;simp only[]at he;split at he<;>try cases he
  rename_i c hb;have ho:=H.obj b _ hb;simp only[cj]at ho;have hg:(getObj (s b).1).run P w=.ok (.map (eE s es).toArray c) w:=by simp[getObj,Sem.run,ho]
  have h1:(Instr.checkKey (eE s es).toArray.isEmpty 10000 kt kv).run P w=.ok un w:=by rw[NF];exact hck'
  simp only[ah,Sem.run_bind,hg,Result.andThen_ok,Sem.run_pure,h1,hf'];cases r with
  |some q=>simp only[bo]at e;subst e;cases ok<;>simp[ah,aG]
  |none=>
   simp only[]at e;cases hz:eS P et<;>simp only[hz]at e
   .cases e
   simp only[bo]at e;subst e;cases ok<;>simp[iu hz s,ah,aG]
 |_=>simp[entriesOf]at he
def rY:List (AV×AV×Nat)->Nat->AV->AV->List (AV×AV×Nat)
 |[],_,_,_=>[]|e::es,n,k,v=>match n with|0=>(k,v,e.2.2)::es|n+1=>e::rY es n k v
theorem UU(s:Sg)(k v:AV):∀(es:List (AV×AV×Nat)) (i:Nat),eE s (rY es i k v)=(eE s es).modify i (fun e=>{ e with key:=ah s k,val:=ah s v })
 |[],i=>by cases i<;>rfl
 |e::es,0=>by simp[rY,eE]|e::es,i+1=>by have:=UU s k v es i;simp only[eE]at this;simp[rY,eE,this]
theorem Wj{n:Nat}{k v:AV}(hk:ws n k=true)(hv:ws n v=true):∀{es:List (AV×AV×Nat)}{i:Nat},tB n es=true->tB n (rY es i k v)=true
 |[],i,h=>by cases i<;>exact h
 |e::es,0,h=>by
  simp only[qS]at h |-;intro x hx;rcases AT.1 hx with rfl|hx
  .exact⟨hk,hv⟩
  grind
 |e::es,i+1,h=>by
  simp only[qS]at h;have:=Wj hk hv (i:=i) ((qS n es).2 (fun x hx=>h x (aFl _ hx)));simp only[qS]at this |-;intro x hx;rcases AT.1 hx with rfl|hx
  .exact h _ aGn
  .exact this x hx
def Ei(P:Program)(h:Hp)(t:TypeId)(m k v:AV):Option Hp:=match m with
 |.map b=>match P.underlying t,h.tr.get b,iJ k with
  |some (.map kt _),some (.map es c),some kv=>match still P 4000 (Instr.checkKey false 10000 kt kv),uZ P kt kv es with
   |some _,some r=>match r with
    |some (i,_)=>match nth es i with
     |some e=>match iJ e.1 with
      |some ok=>match still P 4000 (Instr.keyThatStays ok kv)with
       |some kk=>match back kk with
        |some kk=>match Tr.set FT h.tr b (some (.map (rY es i kk v) c))with|some tr=>some ⟨tr,h.next⟩|none=>none
        |none=>none
       |none=>none
      |none=>none
     |none=>none
    |none=>match Tr.set FT h.tr b (some (.map (es++[(k,v,c)]) (c+1)))with|some tr=>some ⟨tr,h.next⟩|none=>none
   |_,_=>none
  |_,_,_=>none
 |_=>none
theorem DJ{r:Nat}{es:Array MapEntry}{o:Obj}(h:w.heap[r]?=some (.map es c)):(setObj r o).run P w=.ok () (cq w r o):=by simp[setObj,Sem.run,h,cq]
variable{m:AV}
theorem Zuz(e:Ei P h t m k v=some h')(H:ab s h w)(hk:ws h.next k=true)(hv:ws h.next v=true) :
  ∃w',(Instr.mapUpdate t (ah s m) (ah s k) (ah s v)).run P w=.ok () w'/\ab s h' w'/\Ext s h w s h' w':=by
 unfold Ei at e;split at e<;>try cases e
 rename_i b;split at e<;>try cases e
 rename_i kt et es c kv hu hb hsk;split at e<;>try cases e
 rename_i un r hck hf;have hck':=gW hck w;have hf':=NH hf s w;have ho:=H.obj b _ hb;have hwe:=H.ia b _ hb;simp only[cj]at ho;have hg:(getObj (s b).1).run P w=.ok (.map (eE s es).toArray c) w:=by simp[getObj,Sem.run,ho]
 cases r with
 |some q=>
  obtain⟨i,x⟩:=q;simp only[]at e;split at e<;>try cases e
  rename_i e0 he0;split at e<;>try cases e
  rename_i okv bw;split at e<;>try cases e
  rename_i kk hkk;split at e<;>try cases e
  rename_i kk' hkk';split at e<;>try cases e
  rename_i tr ht;have hks:=gW hkk w;have hkey:(((eE s es).toArray[i]?).map (·.key)).getD kv=okv:=by rw[ct]at he0;simp[eE,he0,jL bw]
  have:=H.put (ob:=.map ((eE s es).toArray.modify i fun e=>{ e with key:=kk,val:=ah s v }) c) hb rfl
   (o':=.map (rY es i kk' v) c) (by simp only[cj];rw[UU,nj hkk'];simp) (Wj (Hl hkk' _) hv hwe) ht
  refine⟨_,?_,this.1,this.2⟩;simp only[Instr.mapUpdate,ah,Sem.run_bind,run_underlying hu,Result.andThen_ok,hg,jL hsk,hck',hf',aFN,hkey,hks,DJ ho]
 |none=>
  simp only[]at e;split at e<;>try cases e
  rename_i tr ht;have:=H.put (ob:=.map ((eE s es).toArray.push { key:=ah s k,val:=ah s v,born:=c }) (c+1)) hb rfl
   (o':=.map (es++[(k,v,c)]) (c+1)) (by simp[cj,eE]) (by
    simp only[jQ,qS]at hwe |-
    grind) ht
  refine⟨_,?_,this.1,this.2⟩;simp only[Instr.mapUpdate,ah,Sem.run_bind,run_underlying hu,Result.andThen_ok,hg,jL hsk,hck',hf',aFC];rw[DJ ho]
def wU:List (AV×AV×Nat)->Nat->List (AV×AV×Nat)
 |[],_=>[]|e::es,n=>match n with|0=>es|n+1=>e::wU es n
theorem Hj:∀(es:List (AV×AV×Nat)) (i:Nat),wU es i=es.eraseIdx i
 |[],i=>by cases i<;>rfl
 |e::es,0=>rfl|e::es,i+1=>by simp[wU,Hj es i]
theorem UW{α β:Type}(f:α->β):∀(l:List α) (i:Nat),(l.map f).eraseIdx i=(l.eraseIdx i).map f
 |[],i=>by simp|x::l,0=>by simp|x::l,i+1=>by simp[UW f l i]
def GP(P:Program)(h:Hp)(ts:Array TypeId)(m k:AV):Option Hp:=match nth ts.toList 0 with
 |some t=>match m with
  |.map b=>match P.underlying t,h.tr.get b,iJ k with
   |some (.map kt _),some (.map es c),some kv=>match still P 4000 (Instr.checkKey (vF es) 10000 kt kv),uZ P kt kv es with
    |some _,some r=>match r with
     |some (i,_)=>match Tr.set FT h.tr b (some (.map (wU es i) c))with|some tr=>some ⟨tr,h.next⟩|none=>none
     |none=>match Tr.set FT h.tr b (some (.map es c))with|some tr=>some ⟨tr,h.next⟩|none=>none
    |_,_=>none
   |_,_,_=>none
  |_=>none
 |none=>none
theorem arR(e:GP P h ts m k=some h')(H:ab s h w) :
  ∃w',(Builtin.delete_ ts ty #[ah s m,ah s k]).run P w=.ok (.tuple #[]) w'/\ab s h' w'/\Ext s h w s h' w':=by
 unfold GP at e;split at e<;>try cases e
 rename_i t ht0;have ht0:ts[0]?=some t:=by rw[ct]at ht0;simpa using ht0
 split at e<;>try cases e
 rename_i b;split at e<;>try cases e
 rename_i kt et es c kv hu hb hsk;split at e<;>try cases e
 rename_i un r hck hf;have hck':=gW hck w;have hf':=NH hf s w;have ho:=H.obj b _ hb;have hwe:=H.ia b _ hb;simp only[cj]at ho;have hg:(getObj (s b).1).run P w=.ok (.map (eE s es).toArray c) w:=by simp[getObj,Sem.run,ho]
 cases r with
 |some q=>
  obtain⟨i,x⟩:=q;simp only[]at e;split at e<;>try cases e
  rename_i tr ht;have:=H.put (ob:=.map ((eE s es).toArray.eraseIdxIfInBounds i) c) hb rfl (o':=.map (wU es i) c) (by
    simp only[cj];rw[Hj];simp only[eE,<-UW]
    grind) (by
    simp only[jQ,qS,Hj]at hwe |-;exact fun x hx=>hwe x (List.mem_of_mem_eraseIdx hx)) ht
  refine⟨_,?_,this.1,this.2⟩;simp only[Builtin.delete_,ht0,pp,pm,rg,ah,Sem.run_bind,run_underlying hu,Result.andThen_ok,hg,jL hsk,NF,hck',hf',aFN,DJ ho,Sem.run_pure]
 |none=>
  simp only[]at e;split at e<;>try cases e
  rename_i tr ht;have:=H.put hb rfl (o':=.map es c) rfl hwe ht;refine⟨_,?_,this.1,this.2⟩;simp only[Builtin.delete_,ht0,pp,pm,rg,ah,Sem.run_bind,run_underlying hu,Result.andThen_ok,hg,jL hsk,NF,hck',hf',aFC,DJ ho,Sem.run_pure]
def oD(P:Program)(b:Builtin)(ts:Array TypeId)(ty:TypeId)(vs:List AV):Option AV:=match b with
 |.len=>match vs with
  |[u]=>match nth ts.toList 0 with
   |some t=>match P.underlying t with
    |some (.slice _)=>match u with|.slice _ _ n _ _=>some (.int .i64 (n:Int))|.ai=>some (.int .i64 0)|.se _ n _=>some (.int .i64 (n:Int))|.lW _ _ _ _=>some (.int .i64 0)|_=>none
    |some .string=>match u with|.str x=>some (.int .i64 (x.size:Int))|_=>none
    |some (.array n _)=>some (.int .i64 (n:Int))|_=>none
   |none=>none
  |_=>none
 |.max=>match oZ vs with
  |some xs=>match still P 4000 (Builtin.max_ ts ty xs.toArray)with|some r=>back r|none=>none
  |none=>none
 |.min=>match oZ vs with
  |some xs=>match still P 4000 (Builtin.min_ ts ty xs.toArray)with|some r=>back r|none=>none
  |none=>none
 |_=>none
def we(P:Program)(T:Tr AV)(o:Oper):Option AV:=match o.op with
 |.move x=>aQ T x|.pick c a b=>match aQ T c with|some (.bool true)=>aQ T a|some (.bool false)=>aQ T b|_=>none
 |.nilCheck x=>match aQ T x with|some (.ptr b off)=>some (.ptr b off)|some (.func f a c)=>some (.func f a c)|_=>none
 |.binOp op t x y _=>match aQ T x,aQ T y with|some u,some v=>rN P op t x y u v|_,_=>none
 |.unOp op _ x=>match aQ T x with
  |some u=>match iJ u with
   |some a=>match still P 100 (Op.unary op a)with|some r=>back r|none=>none
   |none=>none
  |none=>none
 |.convert src dst x=>match aQ T x with
  |some u=>match iJ u with
   |some a=>match still P 4000 (convert src dst a)with|some r=>back r|none=>none
   |none=>none
  |none=>none
 |.extract t i=>match aQ T t with|some (.bB l)=>nth l i|_=>none
 |.field t x f=>match aQ T x with|some u=>sX P t u f|none=>none
 |.fieldAddr t x f=>match aQ T x with|some u=>sL P t u f|none=>none
 |.indexAddr t x i=>match aQ T x,aQ T i with|some u,some v=>oC P t u v|_,_=>none
 |.index t x i=>match aQ T x,aQ T i with
  |some u,some v=>match iJ u,iJ v with
   |some a,some b=>match still P 4000 (Instr.index t a b)with|some r=>back r|none=>none
   |_,_=>none
  |_,_=>none
 |.makeFunc fn first cap=>match fn with
  |.func f=>match dU T first.toList,dU T cap.toList with|some a,some c=>some (.func f a c)|_,_=>none
  |_=>none
 |.build t parts=>match gX T parts.toList with|some ps=>sP P t ps|none=>none
 |.call c=>match c.callee with
  |.builtin b=>match dU T c.args.toList with|some vs=>oD P b c.argTypes o.type vs|none=>none
  |_=>none
 |_=>none
variable{vs:List AV}
theorem Nh{b:Builtin}{cs:Array Bool}(e:oD P b ts ty vs=some v)(s:Sg)(w:World) :
  (builtin b ts ty cs (aG s vs).toArray).run P w=.ok (.value (ah s v)) w:=by
 unfold oD at e;split at e
 .split at e<;>try cases e
  rename_i u;split at e<;>try cases e
  rename_i t ht;have ht:ts[0]?=some t:=by rw[ct]at ht;simpa using ht
  split at e
  .rename_i hu;split at e<;>try cases e
   .simp[builtin,Builtin.len_,ht,aG,run_underlying hu,ah,goInt]
   .simp[builtin,Builtin.len_,ht,aG,run_underlying hu,ah,goInt]
   .simp[builtin,Builtin.len_,ht,aG,run_underlying hu,ah,goInt]
   .simp[builtin,Builtin.len_,ht,aG,run_underlying hu,ah,goInt]
  .rename_i hu;split at e<;>try cases e
   simp[builtin,Builtin.len_,ht,aG,run_underlying hu,ah,goInt]
  .rename_i hu;cases e;simp[builtin,Builtin.len_,ht,aG,run_underlying hu,ah,goInt]
  .cases e
 .split at e<;>try cases e
  rename_i xs hx;split at e<;>try cases e
  rename_i r hr;simp[builtin,DI hx,gW hr,nj e]
 .split at e<;>try cases e
  rename_i xs hx;split at e<;>try cases e
  rename_i r hr;simp[builtin,DI hx,gW hr,nj e]
 .cases e
variable{o:Oper}{a:Act}
theorem nf{c:Call}{b:Builtin}(ho:o.op=.call c)(hc:c.callee=.builtin b) :
  (execOp a.eval o).run P w=(builtin b c.argTypes o.type (c.args.map fun|.const _=>true|_=>false) (c.args.map a.eval)).run P w:=by
 unfold execOp;rw[ho];simp only[resolve,hc,Sem.run_bind,Sem.run_pure,Result.andThen_ok,invoke];rfl
variable{T:Tr AV}
theorem uM{o:Op}{l:Array Operand}(h:dU T l.toList=some vs)(hO:gF s T a o)(hm:∀x∈l.toList,x∈o.operands) :
  l.map a.eval=(aG s vs).toArray:=by
 apply Rd.1;have:=Va h (fun x hx=>hO x (hm x hx));simpa using this
theorem NG(e:we P T o=some v)(hO:gF s T a o.op)(w:World) :
  (execOp a.eval o).run P w=.ok (.value (ah s v)) w:=by
 unfold we at e;split at e<;>rename_i ho
 .rename_i x;rw[ho]at hO;simp[execOp,ho,hO x (by simp[Op.operands]) v e]
 .rename_i c x y;rw[ho]at hO;split at e
  .rename_i hc;have h1:=hO c (by simp[Op.operands]) _ hc;simp[execOp,ho,h1,ah,asBool,hO x (by simp[Op.operands]) v e]
  .rename_i hc;have h1:=hO c (by simp[Op.operands]) _ hc;simp[execOp,ho,h1,ah,asBool,hO y (by simp[Op.operands]) v e]
  .cases e
 .rename_i x;rw[ho]at hO;split at e<;>try cases e
  .rename_i hx;simp[execOp,ho,hO x (by simp[Op.operands]) _ hx,ah]
  .rename_i hx;simp[execOp,ho,hO x (by simp[Op.operands]) _ hx,ah]
 .rename_i op t x y yt;rw[ho]at hO;split at e<;>try cases e
  rename_i u u' hx hy;have h1:=hO x (by simp[Op.operands]) _ hx;have h2:=hO y (by simp[Op.operands]) _ hy;have:=NW e s w;simp only[execOp,ho,h1,h2];rw[Sem.run_bind,this];rfl
 .rename_i op t x;rw[ho]at hO;split at e<;>try cases e
  rename_i u hx;split at e<;>try cases e
  rename_i q hq;split at e<;>try cases e
  rename_i r hr;simp[execOp,ho,hO x (by simp[Op.operands]) _ hx,jL hq,gW hr,nj e]
 .rename_i src dst x;rw[ho]at hO;split at e<;>try cases e
  rename_i u hx;split at e<;>try cases e
  rename_i q hq;split at e<;>try cases e
  rename_i r hr;simp[execOp,ho,hO x (by simp[Op.operands]) _ hx,jL hq,gW hr,nj e]
 .rename_i t i;rw[ho]at hO;split at e<;>try cases e
  rename_i l hx;rw[ct]at e;simp[execOp,ho,hO t (by simp[Op.operands]) _ hx,ah,Instr.extract,DY,e]
 .rename_i t x f;rw[ho]at hO;split at e<;>try cases e
  rename_i u hx;simp[execOp,ho,hO x (by simp[Op.operands]) _ hx,Nv e]
 .rename_i t x f;rw[ho]at hO;split at e<;>try cases e
  rename_i u hx;simp[execOp,ho,hO x (by simp[Op.operands]) _ hx,Ng e]
 .rename_i t x i;rw[ho]at hO;split at e<;>try cases e
  rename_i u u' hx hi;simp[execOp,ho,hO x (by simp[Op.operands]) _ hx,hO i (by simp[Op.operands]) _ hi,Nf e]
 .rename_i t x i;rw[ho]at hO;split at e<;>try cases e
  rename_i u u' hx hi;split at e<;>try cases e
  rename_i q q' hq hq';split at e<;>try cases e
  rename_i r hr;simp[execOp,ho,hO x (by simp[Op.operands]) _ hx,hO i (by simp[Op.operands]) _ hi,jL hq,jL hq',gW hr,nj e]
 .rename_i fn first cap
  rw[ho]at hO;split at e<;>try cases e
  split at e<;>try cases e
  rename_i f x y hx hy;have h1:=uM hx hO (by intro z hz;simp only[Op.operands];exact aFK.2 (.inl (aES.1 hz)));have h2:=uM hy hO (by intro z hz;simp only[Op.operands];exact aFK.2 (.inr (aES.1 hz)));simp[execOp,ho,Instr.makeFunc,h1,h2,ah]
 .rename_i t parts;rw[ho]at hO;split at e<;>try cases e
  rename_i ps hps;have:=Nj hps (fun x hx=>hO x (by simp only[Op.operands,aFt];exact hx));simp[execOp,ho,Nw e s w (parts.map fun x=>(x.1,a.eval x.2)) (by simpa using this)]
 .rename_i c;split at e<;>try cases e
  rename_i b hb;split at e<;>try cases e
  rename_i vs hv;rw[ho]at hO;have h1:=uM hv hO (by intro z hz;simp only[Op.operands,Call.operands,hb];simpa using hz);rw[nf ho hb,h1,Nh e]
 .cases e
def jz(P:Program)(T:Tr AV)(h:Hp)(o:Oper):Option AV:=match o.op with
 |.load t x=>match aQ T x with|some u=>lH P h t u|none=>none
 |.slice t x lo hi mx=>match aQ T x with|some u=>oF P h T t u lo hi mx|none=>none
 |.lookup t x i ok=>match aQ T x,aQ T i with|some u,some k=>GO P h t u k ok|_,_=>none
 |.call c=>match c.callee with
  |.builtin .len=>match dU T c.args.toList with
   |some [.map m]=>match h.tr.get m,nth c.argTypes.toList 0 with
    |some (.map es _),some t=>match P.underlying t with|some (.map _ _)=>some (.int .i64 (es.length:Int))|_=>none
    |_,_=>none
   |_=>we P T o
  |_=>we P T o
 |_=>we P T o
theorem sG(e:jz P T h o=some v)(hO:gF s T a o.op)(H:ab s h w) :
  (execOp a.eval o).run P w=.ok (.value (ah s v)) w:=by
 unfold jz at e;split at e<;>try (rename_i ho)
 .rename_i t x;rw[ho]at hO;split at e<;>try cases e
  rename_i u hx;simp[execOp,ho,hO x (by simp[Op.operands]) _ hx,xU e H]
 .rename_i t x lo hi mx;rw[ho]at hO;split at e<;>try cases e
  rename_i u hx;have:=Ns (a:=a) e H (by intro y hy;apply hO y;simp only[Op.operands];rcases hy with rfl|rfl|rfl<;>simp);simp[execOp,ho,hO x (by simp[Op.operands]) _ hx,this]
 .rename_i t x i ok;rw[ho]at hO;split at e<;>try cases e
  rename_i u k hx hi;simp[execOp,ho,hO x (by simp[Op.operands]) _ hx,hO i (by simp[Op.operands]) _ hi,arP e H]
 .rename_i c;split at e
  .rename_i hb;split at e
   .rename_i m hv;rw[ho]at hO;have h1:=uM hv hO (by intro z hz;simp only[Op.operands,Call.operands,hb];simpa using hz);rw[nf ho hb,h1];split at e<;>try cases e
    rename_i es cl t hm ht;have ht:c.argTypes[0]?=some t:=by rw[ct]at ht;simpa using ht
    split at e<;>try cases e
    rename_i hu;have hob:=H.obj m _ hm;simp only[cj]at hob;simp[builtin,Builtin.len_,ht,run_underlying hu,aG,ah,getObj,Sem.run,hob,eE,goInt]
   .exact NG e hO w
  .exact NG e hO w
 .exact NG e hO w
def qx(P:Program)(T:Tr AV)(h:Hp)(o:Oper):Option (AV×Hp):=match o.op with
 |.assign x=>match aQ T x with|some v=>some (v,h)|none=>none
 |.store t x y=>match aQ T x,aQ T y with
  |some u,some v=>match Hf P h t u v with|some h'=>some (.bB [],h')|none=>none
  |_,_=>none
 |.mapUpdate t m k x=>match aQ T m,aQ T k,aQ T x with
  |some m,some k,some v=>match Ei P h t m k v with|some h'=>some (.bB [],h')|none=>none
  |_,_,_=>none
 |.insert t m k x=>match aQ T m,aQ T k,aQ T x with
  |some m,some k,some v=>match Ei P h t m k v with|some h'=>some (.bB [],h')|none=>none
  |_,_,_=>none
 |.call c=>match c.callee with
  |.builtin b=>match dU T c.args.toList with
   |some [u,x]=>match b with
    |.append=>qQ P h c.argTypes u x|.copy=>rV P h c.argTypes u x|.delete=>match GP P h c.argTypes u x with|some h'=>some (.bB [],h')|none=>none
    |_=>none
   |_=>none
  |_=>none
 |_=>none
def vv(v:Value)(n:Next):Prop:=n=.value v\/(n=.skip/\v=undef)
theorem oI(hT:∀t v,T.get t=some v->ws n v=true){x:Operand}(h:aQ T x=some u):ws n u=true:=by cases x with|tmp t=>exact hT t u h|const v=>exact Hl h n|func f=>simp[aQ]at h;subst h;rfl|global g=>simp[aQ]at h
theorem Hh{T:Tr AV}{n:Nat}(hT:∀t v,T.get t=some v->ws n v=true):∀{l:List Operand}{vs:List AV},dU T l=some vs->cV n vs=true
 |[],vs,h=>by simp[dU]at h;subst h;rfl|x::l,vs,h=>by
  simp only[dU]at h;cases hv:aQ T x<;>simp only[hv]at h
  .cases h
  cases hl:dU T l<;>simp only[hl]at h
  .cases h
  simp at h;subst h;simp[cV,oI hT hv,Hh hT hl]
theorem Eh(e:qx P T h o=some (v,h'))(hO:gF s T a o.op)(hT:∀t v,T.get t=some v->ws h.next v=true)
  (H:ab s h w) :
  ∃n s' w',(execOp a.eval o).run P w=.ok n w'/\vv (ah s' v) n/\ab s' h' w'/\Ext s h w s' h' w':=by
 unfold qx at e;split at e<;>try (rename_i ho)
 .rename_i x;rw[ho]at hO;split at e<;>try cases e
  rename_i hx;exact⟨_,s,w,by simp only[execOp,ho,hO x (by simp[Op.operands]) _ hx];rfl,.inl rfl,H,Ext.refl _ _ _⟩
 .rename_i t x y;rw[ho]at hO;split at e<;>try cases e
  rename_i u u' hx hy;split at e<;>try cases e
  rename_i hst;obtain⟨w',hr,hH,hE⟩:=ar6 (P:=P) hst H (oI hT hy);exact⟨.skip,s,w',by simp[execOp,ho,hO x (by simp[Op.operands]) _ hx,hO y (by simp[Op.operands]) _ hy,hr],.inr ⟨rfl,rfl⟩,hH,hE⟩
 .rename_i t m k x;rw[ho]at hO;split at e<;>try cases e
  rename_i m' k' v' hm hk hx;split at e<;>try cases e
  rename_i hst;obtain⟨w',hr,hH,hE⟩:=Zuz (P:=P) hst H (oI hT hk) (oI hT hx);exact⟨.skip,s,w',by simp[execOp,ho,hO m (by simp[Op.operands]) _ hm,hO k (by simp[Op.operands]) _ hk,hO x (by simp[Op.operands]) _ hx,hr],.inr ⟨rfl,rfl⟩,hH,hE⟩
 .rename_i t m k x;rw[ho]at hO;split at e<;>try cases e
  rename_i m' k' v' hm hk hx;split at e<;>try cases e
  rename_i hst;obtain⟨w',hr,hH,hE⟩:=Zuz (P:=P) hst H (oI hT hk) (oI hT hx);exact⟨.skip,s,w',by simp[execOp,ho,hO m (by simp[Op.operands]) _ hm,hO k (by simp[Op.operands]) _ hk,hO x (by simp[Op.operands]) _ hx,hr],.inr ⟨rfl,rfl⟩,hH,hE⟩
 .rename_i c;split at e<;>try cases e
  rename_i b hb;rw[ho]at hO;split at e
  .rename_i u x hv;have h1:=uM hv hO (by intro z hz;simp only[Op.operands,Call.operands,hb];simpa using hz);have hws:=Hh hT hv;have hwu:ws h.next u=true:=(yg _ _).1 hws u aGn;rw[nf ho hb,h1];simp only[aG];split at e
   .obtain⟨s',w',hr,hH,hE,_⟩:=DC (ty:=o.type) e H hwu;exact⟨_,s',w',by simp only[builtin,Sem.run_bind,hr,Result.andThen_ok,Sem.run_pure],.inl rfl,hH,hE⟩
   .obtain⟨w',hr,hH,hE,_⟩:=Hs (ty:=o.type) e H;exact⟨_,s,w',by simp only[builtin,Sem.run_bind,hr,Result.andThen_ok,Sem.run_pure],.inl rfl,hH,hE⟩
   .split at e<;>try cases e
    rename_i hd;obtain⟨w',hr,hH,hE⟩:=arR (P:=P) (ty:=o.type) hd H;exact⟨.value (.tuple #[]),s,w',by simp only[builtin,Sem.run_bind,hr,Result.andThen_ok,Sem.run_pure],.inl rfl,hH,hE⟩
   .cases e
  .cases e
 .cases e
def pU(T:Tr AV)(o:Oper):Option (FuncId×List AV):=match o.op with
 |.call c=>match c.callee with
  |.value f=>match aQ T f,dU T c.args.toList with|some (.func g a cap),some vs=>some (g,a++(vs++cap))|_,_=>none
  |_=>none
 |_=>none
variable{f:FuncId}
theorem DQ(e:pU T o=some (f,vs))(hO:gF s T a o.op){fn:Func}(hf:P.funcs[f]?=some fn)
  (hn:(fn.name == "runtime.NumGoroutine")=false) {c:Code}(hb:fn.body=some c) (w:World) :
  (execOp a.eval o).run P w=.ok (.enter f (aG s vs).toArray) w:=by
 unfold pU at e;split at e<;>try cases e
 rename_i cl ho;rw[ho]at hO;split at e<;>try cases e
 rename_i fo hc;split at e<;>try cases e
 rename_i fa cap xs hxs hfo;have h1:=hO fo (by simp[Op.operands,Call.operands,hc]) _ hfo;have h2:=uM hxs hO (by intro z hz;simp only[Op.operands,Call.operands,hc];grind);simp only[execOp,ho,resolve,hc,h1,h2,ah,Deferred.ofValue,Sem.run_bind,Sem.run_pure,Result.andThen_ok,invoke,callFunc,run_program,hf,hn,hb];simp[sE]
theorem as4(e:pU T o=some (f,vs))(hT:∀t v,T.get t=some v->ws n v=true):cV n vs=true:=by
 unfold pU at e;split at e<;>try cases e
 split at e<;>try cases e
 split at e<;>try cases e
 rename_i fa cap xs hxs hfo;have:=oI hT hfo;simp only[ws]at this;cases h1:cV n fa<;>simp only[h1]at this
 .cases this
 exact pI h1 (pI (Hh hT hxs) this)
end Go.Proofs.YtjflbmpepamfjaaGreat.Ev
end
section
namespace Go.Proofs.YtjflbmpepamfjaaGreat.V
open Go Go.RowKit
open Go.Proofs.YtjflbmpepamfjaaGreat.Ev (Tr Tr.bM nth ct takeN eh fu fK cq eO jr still gW run_underlying run_typeInfo run_sizeOf cP dR places pH iw)
def FT:Nat:=30
mutual
def nA:(σ:Sh)->σ.T->List AV
 |.int k,n=>[.int k n]|.bool,b=>[.bool b]|.str,s=>[.str s]|.agg l,d=>Nx l d|.sl s,L=>[.fz s L]
termination_by structural x=>x
def Nx:(l:List Sh)->TL l->List AV
 |[],_=>[]|s::l,d=>nA s d.1++Nx l d.2
termination_by structural x=>x
end
mutual
theorem uI{X:Cx}:∀{σ:Sh}{d:σ.T}{cs:kw},Cs X.w X.out σ d cs->bm X (nA σ d) cs
 |.int k,n,cs,h=>⟨_,[],h,rfl,rfl⟩|.bool,b,cs,h=>⟨_,[],h,rfl,rfl⟩|.str,s,cs,h=>⟨_,[],h,rfl,rfl⟩|.agg l,d,cs,h=>Zum (l:=l) h|.sl s,L,cs,h=>by obtain⟨a,len,cap,e,q⟩:=h;exact⟨_,[],e,⟨a,len,cap,rfl,q⟩,rfl⟩
theorem Zum{X:Cx}:∀{l:List Sh}{d:TL l}{cs:kw},gj X.w X.out l d cs->bm X (Nx l d) cs
 |[],_,cs,h=>h|s::l,d,cs,⟨c,r,e,h1,h2⟩=>by rw[e];exact(uI h1).append (Zum h2)
end
def j7{τ τ':Sh}(h:τ.eqv τ'=true)(L:List τ.T):List τ'.T:=Sh.ej h▸L
def wW{α:Type}(F:Hp->List AV->Option (α×List AV×Hp)):Nat->Hp->List AV->Option (List α×Hp)
 |0,h,l=>match l with|[]=>some ([],h)|_=>none
 |n+1,h,l=>match F h l with
  |some (x,r,h)=>match wW F n h r with|some (xs,h)=>some (x::xs,h)|none=>none
  |none=>none
mutual
def eu(kl:Bool)(h:Hp):(σ:Sh)->List AV->Option (σ.T×List AV×Hp)
 |.int k,l=>match l with
  |.int k' n::r=>match Nat.beq (Ev.IntKind.num k') (Ev.IntKind.num k)with|true=>some (n,r,h)|false=>none
  |_=>none
 |.bool,l=>match l with|.bool b::r=>some (b,r,h)|_=>none
 |.str,l=>match l with|.str s::r=>some (s,r,h)|_=>none
 |.agg ss,l=>ke kl h ss l|.sl s,l=>match l with
  |.ai::r=>some ([],r,h)|.fz τ L::r=>match e:τ.eqv s with|true=>some (j7 e L,r,h)|false=>none
  |.hd b _::r=>match h.tr.get b with
   |some (.arr τ L _)=>match e:τ.eqv s,kl,Tr.set FT h.tr b none with|true,true,some tr=>some (j7 e L,r,⟨tr,h.next⟩)|_,_,_=>none
   |_=>none
  |.vw b aIU off len::r=>match h.tr.get b with
   |some (.arr τ L _)=>match e:τ.eqv s,aIU.eqv s,kl,Tr.set FT h.tr b none with|true,true,true,some tr=>some (j7 e ((L.drop off).take len),r,⟨tr,h.next⟩)|_,_,_,_=>none
   |some (.cells vs _)=>match kl,off,Tr.set FT h.tr b none with
    |true,0,some tr=>match wW (fun h l=>eu true h s l) len ⟨tr,h.next⟩ vs with|some (L,h')=>some (L,r,h')|none=>none
    |_,_,_=>none
   |_=>none
  |_=>none
termination_by structural x=>x
def ke(kl:Bool)(h:Hp):(l:List Sh)->List AV->Option (TL l×List AV×Hp)
 |[],r=>some ((),r,h)|s::l,r=>match eu kl h s r with
  |some (d,r,h)=>match ke kl h l r with|some (e,r,h)=>some ((d,e),r,h)|none=>none
  |none=>none
termination_by structural x=>x
end
structure fb(X:Cx)(h':Hp):Prop where
 E:aH X ⟨X.s,h',X.w,X.A⟩
 H:ab ⟨X.s,h',X.w,X.A⟩
 sub:∀i o,h'.tr.get i=some o->X.h.tr.get i=some o
theorem fb.refl{X:Cx}(H:ab X):fb X X.h:=⟨aH.refl X,H,fun _ _ h=>h⟩
theorem fb.trans{X:Cx}{h' h'':Hp}(a:fb X h')(b:fb ⟨X.s,h',X.w,X.A⟩ h''):fb X h'':=⟨a.E.trans b.E,b.H,fun i o q=>a.sub i o (b.sub i o q)⟩
theorem fb.kill{X:Cx}(H:ab X){b:Nat}{l:Loc}{tr:Tr aE}(hs:X.s b=some l)(ht:Tr.set FT X.h.tr b none=some tr):fb X ⟨tr,X.h.next⟩:=by
 obtain⟨E,H'⟩:=H.kill hs ht;refine⟨E,H',?_⟩;intro i o q;have:=Tr.bM FT X.h.tr b none tr ht i
 grind
theorem El{w:World}{A:Nat->Prop}{τ τ':Sh}(h:τ.eqv τ'=true){L:List τ.T}{V:Value}(q:Cs w A (.sl τ) L [V]):Cs w A (.sl τ') (j7 h L) [V]:=by have:=Sh.ej h;subst this;exact q
theorem agE{w:World}{A:Nat->Prop}{τ:Sh}{L:List τ.T}{x:Nat}{ty:TypeId}{cs tail:kw}{fr:Nat×Nat}(hw:w.heap[x]?=some (.cells (List.toArray (cs++tail)) ty fr))(ha:¬A x)(hf:aY (Cs w A τ) L cs)
  {off len cap:Nat}{a:lc}(hl:off+len<=L.length) (hc:len<=cap) (hA:0<len->a=some ⟨x,off*τ.size,none⟩):Cs w A (.sl τ) ((L.drop off).take len) [.slice a len cap]:=by
 refine⟨a,len,cap,rfl,by simp;omega,hc,fun hne=>?_⟩;have hpos:0<len:=by grind
 refine⟨x,off*τ.size,(cs.drop (off*τ.size)).take (len*τ.size),hA hpos,ha,aY.take (fun x c=>Cs.length) len (aY.drop (fun x c=>Cs.length) off hf),_,ty,_,hw,?_⟩
 grind
theorem PV{τ:Sh}{F:Hp->List AV->Option (τ.T×List AV×Hp)}(hF:∀{X:Cx},ab X->∀{l:List AV}{d:τ.T}{r:List AV}{h':Hp},F X.h l=some (d,r,h')->∀{cs:kw},bm X l cs ->
  fb X h'/\∃c e,cs=c++e/\Cs X.w (Cx.out ⟨X.s,h',X.w,X.A⟩) τ d c/\bm ⟨X.s,h',X.w,X.A⟩ r e):∀{n:Nat}{l:List AV}{X:Cx}{L:List τ.T}{h':Hp}{cs:kw},ab X->wW F n X.h l=some (L,h')->bm X l cs ->
  fb X h'/\L.length=n/\aY (Cs X.w (Cx.out ⟨X.s,h',X.w,X.A⟩) τ) L cs
 |0,l,X,L,h',cs,H,e,R=>by simp only[wW]at e;split at e<;>cases e;exact⟨fb.refl H,rfl,R⟩
 |n+1,l,X,L,h',cs,H,e,R=>by
  simp only[wW]at e;split at e<;>try cases e
  rename_i x r h₁ hf;split at e<;>cases e;rename_i xs hx;obtain⟨aGF,c,t,rfl,q1,q2⟩:=hF H hf R;obtain⟨aGG,k1,k2⟩:=PV hF aGF.H hx q2;exact⟨aGF.trans aGG,by simp[k1],c,t,rfl,q1.keep aGG.E.keeps,k2⟩
mutual
theorem qU{kl:Bool}{X:Cx}(H:ab X):∀{σ:Sh}{l:List AV}{d:σ.T}{r:List AV}{h':Hp},eu kl X.h σ l=some (d,r,h')->∀{cs:kw},bm X l cs ->
  fb X h'/\∃c e,cs=c++e/\Cs X.w (Cx.out ⟨X.s,h',X.w,X.A⟩) σ d c/\bm ⟨X.s,h',X.w,X.A⟩ r e
 |.int k,l,d,r,h',e,cs,R=>by
  simp only[eu]at e;split at e<;>try cases e
  rename_i k' n r';split at e<;>try cases e
  rename_i hk;obtain⟨v,t,rfl,h1,h2⟩:=R;have:=Ev.IntKind.uR (aK hk);subst this;exact⟨fb.refl H,[v],t,rfl,by rw[show v=_ from h1];rfl,h2⟩
 |.bool,l,d,r,h',e,cs,R=>by
  simp only[eu]at e;split at e<;>try cases e
  obtain⟨v,t,rfl,h1,h2⟩:=R;exact⟨fb.refl H,[v],t,rfl,by rw[show v=_ from h1];rfl,h2⟩
 |.str,l,d,r,h',e,cs,R=>by
  simp only[eu]at e;split at e<;>try cases e
  obtain⟨v,t,rfl,h1,h2⟩:=R;exact⟨fb.refl H,[v],t,rfl,by rw[show v=_ from h1];rfl,h2⟩
 |.agg ss,l,d,r,h',e,cs,R=>VL H (ss:=ss) e R|.sl s,l,d,r,h',e,cs,R=>by
  simp only[eu]at e;split at e<;>try cases e
  .obtain⟨v,t,rfl,h1,h2⟩:=R;exact⟨fb.refl H,[v],t,rfl,⟨none,0,0,by rw[show v=_ from h1],rfl,pi _,fun q=>absurd rfl q⟩,h2⟩
  .rename_i τ L r';split at e<;>try cases e
   rename_i he;obtain⟨v,t,rfl,h1,h2⟩:=R;exact⟨fb.refl H,[v],t,rfl,El he h1,h2⟩
  .rename_i b aIU r';split at e<;>try cases e
   rename_i τ L ty hb;split at e<;>try cases e
   rename_i tr he ht;obtain⟨v,t,rfl,⟨aIc,g1,gc,g2⟩,h2⟩:=R;have F:=fb.kill H g1 ht;have:=H.freeze hb g1 ht;rw[g2 _ (jH hb)];exact⟨F,[_],t,rfl,El he this,h2.ext (F.E.ei H)⟩
  .rename_i b aIU off len r';split at e<;>try cases e
   .rename_i τ L ty hb;split at e<;>try cases e
    rename_i tr he aHu ht;obtain⟨v,t,rfl,⟨aIc,a,c,g1,g2,g3,g4,g5,g6⟩,h2⟩:=R;have F:=fb.kill H g1 ht;have hfz:=H.freeze hb g1 ht;have:=Sh.ej aHu;subst this;have:=Sh.ej he;subst this;refine⟨F,[v],t,rfl,El he ?_,h2.ext (F.E.ei H)⟩;have hle:=g6 _ (jH hb);rw[g2];cases aIc with
    |nil=>
     have hL:L=[]:=H.obj b _ _ hb g1;subst hL;simp only[GT]at hle;have:len=0:=aGl
     subst this;exact⟨a,0,c,rfl,aGn,g3,fun q=>by rw[are]at q;exact absurd rfl q⟩
    |«at» x k=>
     obtain⟨cs,tail,q1,q2,q3,q4⟩:=H.obj b _ _ hb g1;refine agE (w:=X.w) q1 ?_ (q2.mono (fun x d q=>q.keep F.E.keeps)) hle g3 (fun hp=>?_)
     .rintro(q|⟨j,o,c',p1,p2,p3⟩)
      .exact H.loc b _ _ x hb g1 rfl q
      .have hj:=F.sub j o p1;have hg:=Tr.bM FT X.h.tr b none tr ht j;have:=H.inj j b o _ c' _ x hj hb p2 g1 p3 rfl;subst this
       replace p1:tr.get j=some o:=p1
       rw[hg,BY rfl]at p1;cases p1
     .obtain⟨x',k',e1,e2⟩:=g4 hp;cases e1;exact e2
    |cu x k m=>exact(H.obj b _ _ hb g1:False).elim
   .rename_i vs ty hb;split at e<;>try cases e
    rename_i tr ht;split at e<;>cases e;rename_i hr;obtain⟨v,t,rfl,⟨aIc,a,c,g1,rfl,g3,g4,g5,g6⟩,h2⟩:=R;obtain⟨x,k,cs,rfl,q1,q2⟩:=H.obj b _ _ hb g1;have F:=fb.kill H g1 ht;obtain⟨aGG,k1,k2⟩:=PV (F:=fun h l=>eu true h s l) (fun H=>qU H) (X:=⟨X.s,⟨tr,X.h.next⟩,X.w,X.A⟩) F.H hr (q2.ext (F.E.ei H));have aGH:=F.trans aGG;refine⟨aGH,[_],t,rfl,⟨a,len,c,rfl,k1.symm,g3,fun hne=>?_⟩,h2.ext (aGH.E.ei H)⟩;have hpos:0<len:=by
     rcases If len with r|r
     .subst r;exact absurd (ut k1) hne
     .exact r
    obtain⟨x',k',e1,e2⟩:=g4 hpos;cases e1;refine⟨x,0,cs,by rw[e2];simp,?_,k2,_,ty,_,q1,fun j u hu=>by rw[aFm];simpa using hu⟩;rintro(r|⟨j,o',c',p1,p2,p3⟩)
    .exact H.loc b _ _ x hb g1 rfl r
    .have p1':=aGG.sub j o' p1;have hg:=Tr.bM FT X.h.tr b none tr ht j
     replace p1':tr.get j=some o':=p1'
     rw[hg]at p1';by_cases hj:j=b
     .rw[BY hj]at p1';cases p1'
     .rw[rx hj]at p1';exact hj (H.inj j b o' _ c' _ x p1' hb p2 g1 p3 rfl)
theorem VL{kl:Bool}{X:Cx}(H:ab X):∀{ss:List Sh}{l:List AV}{d:TL ss}{r:List AV}{h':Hp},ke kl X.h ss l=some (d,r,h')->∀{cs:kw},bm X l cs ->
  fb X h'/\∃c e,cs=c++e/\gj X.w (Cx.out ⟨X.s,h',X.w,X.A⟩) ss d c/\bm ⟨X.s,h',X.w,X.A⟩ r e
 |[],l,d,r,h',e,cs,R=>by simp only[ke,bo,Do]at e;obtain⟨rfl,rfl,rfl⟩:=e;exact⟨fb.refl H,[],cs,rfl,rfl,R⟩
 |s::ss,l,d,r,h',e,cs,R=>by
  simp only[ke]at e;split at e<;>try cases e
  rename_i aHf aIq h₁ aHi;split at e<;>try cases e
  rename_i aHg aIr h₂ aHj;obtain⟨aGF,c,t,rfl,q1,q2⟩:=qU H aHi R;obtain⟨aGG,c',t',rfl,q3,q4⟩:=VL (X:=⟨X.s,h₁,X.w,X.A⟩) aGF.H aHj q2;exact⟨aGF.trans aGG,c++c',t',aGn,⟨c,c',rfl,q1.keep aGG.E.keeps,q3⟩,q4⟩
end
def gD:Value->Option AV
 |.bool b=>some (.bool b)|.int k n=>some (.int k n)|.string s=>some (.str s)|.pointer a=>match a with|none=>some .cX|some _=>none
 |.slice a len cap=>match a,len,cap with|none,0,0=>some .ai|_,_,_=>none
 |.map a=>match a with|none=>some .dt|some _=>none
 |.nilFunc=>some .dn|.nilIface=>some .dW|_=>none
def fZ:kw->Option (List AV)
 |[]=>some []|x::l=>match gD x with
  |some v=>match fZ l with|some vs=>some (v::vs)|none=>none
  |none=>none
def back:Value->Option AV
 |.agg l=>match fZ l.toList with|some vs=>some (.agg vs)|none=>none
 |.tuple l=>match fZ l.toList with|some vs=>some (.bB vs)|none=>none
 |v=>gD v
theorem Vg{x:Value}{v:AV}(h:gD x=some v)(X:Cx):Rel X v x:=by
 cases x with
 |pointer a=>cases a<;>simp[gD]at h;subst h;rfl
 |map a=>cases a<;>simp[gD]at h;subst h;rfl
 |slice a l c=>
  simp only[gD]at h;split at h
  .simp at h;subst h;rfl
  .cases h
 |_=>simp[gD]at h<;>subst h<;>rfl
theorem N1:∀{x:kw}{l:List AV},fZ x=some l->∀X:Cx,bm X l x
 |[],l,h,X=>by simp[fZ]at h;subst h;rfl|x::xs,l,h,X=>by
  simp only[fZ]at h;cases hv:gD x<;>simp only[hv]at h
  .cases h
  cases hl:fZ xs<;>simp only[hl]at h
  .cases h
  simp at h;subst h;exact⟨x,xs,rfl,Vg hv X,N1 hl X⟩
theorem GV{x:Value}{v:AV}(h:back x=some v)(X:Cx):Rel X v x:=by
 cases x with
 |agg l=>
  simp only[back]at h;cases hl:fZ l.toList<;>simp only[hl]at h
  .cases h
  simp at h;subst h;exact⟨l.toList,aGn,N1 hl X⟩
 |tuple l=>
  simp only[back]at h;cases hl:fZ l.toList<;>simp only[hl]at h
  .cases h
  simp at h;subst h;exact⟨l.toList,aGn,N1 hl X⟩
 |_=>simp only[back]at h;exact Vg h X
def aQ(T:Tr AV):Operand->Option AV
 |.tmp t=>T.get t|.const v=>back v|.func f=>some (.func f [] [])|.global _=>none
def gF(X:Cx)(T:Tr AV)(a:Act)(o:Op):Prop:=∀x∈o.operands,∀u,aQ T x=some u->Rel X u (a.eval x)
theorem sU{X:Cx}{T:Tr AV}{a:Act}{o:Op}(h:∀t,.tmp t∈o.operands->∀u,T.get t=some u->∃V,a.tmps[t]?=some V/\Rel X u V):gF X T a o:=by
 intro x hx u hu;cases x with
 |tmp t=>obtain⟨V,h1,h2⟩:=h t hx u hu;simpa[Act.eval,h1]using h2
 |const v=>exact GV hu X|func f=>simp[aQ]at hu;subst hu;exact⟨[],[],rfl,rfl,rfl⟩|global g=>simp[aQ]at hu
def dU(T:Tr AV):List Operand->Option (List AV)
 |[]=>some []|x::l=>match aQ T x with
  |some v=>match dU T l with|some vs=>some (v::vs)|none=>none
  |none=>none
theorem VS{X:Cx}{T:Tr AV}{a:Act}:∀{l:List Operand}{vs:List AV},dU T l=some vs->(∀x∈l,∀u,aQ T x=some u->Rel X u (a.eval x))->bm X vs (l.map a.eval)
 |[],vs,h,_=>by simp[dU]at h;subst h;rfl|x::l,vs,h,hr=>by
  simp only[dU]at h;cases hv:aQ T x<;>simp only[hv]at h
  .cases h
  cases hl:dU T l<;>simp only[hl]at h
  .cases h
  simp at h;subst h;exact⟨_,_,rfl,hr x aGn _ hv,VS hl (fun y hy=>hr y (by simp[hy]))⟩
def eS(P:Program)(t:TypeId):Option AV:=match P.info? t with
 |some i=>match i.zero with|some v=>back v|none=>none
 |none=>none
theorem iu{P:Program}{t:TypeId}{v:AV}(h:eS P t=some v)(X:Cx)(w:World):∃V,(zeroValue t).run P w=.ok V w/\Rel X v V:=by
 unfold eS at h;cases hi:P.info? t<;>simp only[hi]at h
 .cases h
 rename_i i;cases hz:i.zero<;>simp only[hz]at h
 .cases h
 exact⟨_,by simp only[zeroValue,Sem.run_bind,run_typeInfo hi,Result.andThen_ok,hz,Sem.run_pure],GV h X⟩
def cr:AV->List AV
 |.agg l=>l|v=>[v]
theorem UO{V:Value}(h:Ev.lF V=true):V.cells=#[V]:=by cases V<;>first|rfl|cases h
theorem kK{X:Cx}{v:AV}{V:Value}(h:Rel X v V):bm X (cr v) V.cells.toList:=by
 have single:∀{u:AV}{U:Value},Rel X u U->U.cells=#[U]->bm X [u] U.cells.toList:=fun{u U} q e=>by rw[e];exact⟨U,[],rfl,q,rfl⟩
 cases v with
 |agg l=>obtain⟨cs,rfl,h2⟩:=h;simpa[cr,Value.cells]using h2
 |bB l=>exact single h (by obtain⟨cs,rfl,h2⟩:=h;rfl)
 |jl=>exact single h (UO h)|bool b=>exact single h (by rw[show V=_ from h];rfl)|int k n=>exact single h (by rw[show V=_ from h];rfl)|str s=>exact single h (by rw[show V=_ from h];rfl)|cX=>exact single h (by rw[show V=_ from h];rfl)|ai=>exact single h (by rw[show V=_ from h];rfl)|dt=>exact single h (by rw[show V=_ from h];rfl)|dn=>exact single h (by rw[show V=_ from h];rfl)|dW=>exact single h (by rw[show V=_ from h];rfl)|ptr b off=>exact single h (by obtain⟨x,c,h1,rfl⟩:=h;rfl)
 |dK b i z o=>exact single h (by obtain⟨x,c,h1,rfl,_⟩:=h;rfl)
 |fF σ d o=>exact single h (by obtain⟨b,off,cs,rfl,_⟩:=h;rfl)
 |hd b τ=>exact single h (by obtain⟨l,h1,hc,_⟩:=h;exact UO hc)
 |vw b τ off len=>exact single h (by obtain⟨l,a,c,h1,rfl,_⟩:=h;rfl)
 |fz τ L=>exact single h (by obtain⟨a,len,cap,e,_⟩:=h;simp at e;rw[e];rfl)
 |func f x c=>exact single h (by obtain⟨xs,cs,rfl,_⟩:=h;rfl)
 |eg τ z L=>exact single h (by obtain⟨_,a,l,c,rfl,_⟩:=h;rfl)
 |mp b=>exact single h (by obtain⟨x,c,h1,rfl⟩:=h;rfl)
 |ez b=>exact single h (by obtain⟨l,h1,rfl⟩:=h;cases l<;>rfl)
 |rp b i=>exact single h (by obtain⟨x,c,m,p,h1,h2,rfl⟩:=h;rfl)
 |ra b i=>exact single h (by obtain⟨x,c,m,h1,h2,rfl⟩:=h;rfl)
def one:AV->Bool
 |.agg _|.bB _=>false|_=>true
def kh:List AV->Bool
 |[]=>true|x::l=>match one x with|true=>kh l|false=>false
theorem Wf{X:Cx}{v:AV}{V:Value}(h:one v=true)(R:Rel X v V):Ev.lF V=true:=by
 cases v with
 |agg l=>cases h
 |bB l=>cases h
 |jl=>exact R|bool b=>rw[R];rfl|int k n=>rw[R];rfl|str s=>rw[R];rfl|cX=>rw[R];rfl|ai=>rw[R];rfl|dt=>rw[R];rfl|dn=>rw[R];rfl|dW=>rw[R];rfl|ptr b off=>obtain⟨x,c,h1,rfl⟩:=R;rfl
 |dK b i z o=>obtain⟨x,c,h1,rfl,_⟩:=R;rfl
 |fF σ d o=>obtain⟨b,off,cs,rfl,_⟩:=R;rfl
 |hd b τ=>obtain⟨l,h1,hc,_⟩:=R;exact hc
 |vw b τ off len=>obtain⟨l,a,c,h1,rfl,_⟩:=R;rfl
 |fz τ L=>obtain⟨a,len,cap,e,_⟩:=R;simp at e;rw[e];rfl
 |func f x c=>obtain⟨xs,cs,rfl,_⟩:=R;rfl
 |eg τ z L=>obtain⟨_,a,l,c,rfl,_⟩:=R;rfl
 |mp b=>obtain⟨x,c,h1,rfl⟩:=R;rfl
 |ez b=>obtain⟨l,h1,rfl⟩:=R;cases l<;>rfl
 |rp b i=>obtain⟨x,c,m,p,h1,h2,rfl⟩:=R;rfl
 |ra b i=>obtain⟨x,c,m,h1,h2,rfl⟩:=R;rfl
theorem Eo{X:Cx}:∀{l:List AV}{cs:kw},kh l=true->bm X l cs->∀V∈cs,Ev.lF V=true
 |[],cs,_,R,V,hV=>by rw[R]at hV;cases hV
 |x::l,_,h,⟨v,r,rfl,h1,h2⟩,V,hV=>by
  simp only[kh]at h;split at h<;>try cases h
  rename_i hx;rcases AT.1 hV with rfl|hV
  .exact Wf hx h1
  .exact Eo h h2 V hV
open Go.Proofs.YtjflbmpepamfjaaGreat.Ev (Tr Tr.bM nth ct takeN eh fu fK cq eO jr still gW run_underlying run_typeInfo run_sizeOf cP dR places pH iw nZ lD)
def ar(n:Int)(len:Nat):Bool:=decide (0<=n)&&decide (n<(len:Int))
theorem tV{n:Int}{len:Nat}(h:ar n len=true):∃m:Nat,n=m/\m<len:=by simp only[ar,aFf,In]at h;exact⟨n.toNat,aGl,aGl⟩
def both(a b:Bool):Bool:=match a with|true=>b|false=>false
theorem nz{a b:Bool}(h:both a b=true):a=true/\b=true:=by cases a<;>simp_all [both]
def bH(c a b:Bool):Bool:=match c with|true=>a|false=>b
def mn(c:Bool)(a b:Int):Int:=match c with|true=>a|false=>b
def j9(a b:IntKind):Bool:=Nat.beq (Ev.IntKind.num a) (Ev.IntKind.num b)
theorem my{a b:IntKind}(h:j9 a b=true):a=b:=Ev.IntKind.uR (aK h)
def QL(k:IntKind)(a b:Int):Int:=k.wrap ((BitVec.ofInt k.bits a &&& BitVec.ofInt k.bits b).toNat:Int)
def Zm(k:IntKind)(a b:Int):Int:=k.wrap ((BitVec.ofInt k.bits a ||| BitVec.ofInt k.bits b).toNat:Int)
def QP(k:IntKind)(a b:Int):Int:=k.wrap ((BitVec.ofInt k.bits a ^^^ BitVec.ofInt k.bits b).toNat:Int)
def QO(k:IntKind)(a b:Int):Int:=k.wrap ((BitVec.ofInt k.bits a &&& ~~~ (BitVec.ofInt k.bits b)).toNat:Int)
def arith(op:BinOp)(k:IntKind)(a b:Int):Option (Bool×AV):=match op with|.add=>some (true,.int k (k.wrap (a+b)))|.sub=>some (true,.int k (k.wrap (a-b)))|.mul=>some (true,.int k (k.wrap (a*b)))|.quo=>some (!(decide (b=0)),.int k (k.wrap (a.tdiv b)))|.rem=>some (!(decide (b=0)),.int k (a.tmod b))|.and=>some (true,.int k (QL k a b))|.or=>some (true,.int k (Zm k a b))|.xor=>some (true,.int k (QP k a b))|.andNot=>some (true,.int k (QO k a b))|.eql=>some (true,.bool (a == b))|.neq=>some (true,.bool (a != b))|.lss=>some (true,.bool (decide (a<b)))|.leq=>some (true,.bool (decide (a<=b)))|.gtr=>some (true,.bool (decide (a > b)))|.geq=>some (true,.bool (decide (a>=b)))|_=>none
def Hu(op:BinOp)(k:IntKind)(a b:Int):Option (Bool×AV):=match op with|.shl=>some (decide (0<=b),.int k (k.wrap (a*2^(min b.toNat k.bits))))|.shr=>some (decide (0<=b),.int k (a.fdiv (2^(min b.toNat k.bits))))|_=>none
def Wu:BinOp->Bool|.shl|.shr=>true|_=>false
def Gd(op:BinOp)(a b:ByteArray):Option (Bool×AV):=match op with|.add=>some (decide (((a.size+b.size:Nat):Int)<=IntKind.i64.max),.str (a++b))|.eql=>some (true,.bool (a.toList == b.toList))|.neq=>some (true,.bool (!(a.toList == b.toList)))|.lss=>some (true,.bool (Op.bytesLess a.toList b.toList))|_=>none
def HQ:TypeDesc->AV->AV->Option Bool
 |.pointer _,.cX,.cX=>some true|.pointer _,.cX,.ptr _ _|.pointer _,.ptr _ _,.cX|.pointer _,.cX,.dK _ _ _ _|.pointer _,.dK _ _ _ _,.cX|.pointer _,.cX,.fF _ _ _|.pointer _,.fF _ _ _,.cX=>some false|.slice _,.ai,.ai=>some true|.slice _,.eg _ z _,.ai=>some z|.slice _,.ai,.eg _ z _=>some z|.map _ _,.dt,.dt=>some true|.func _ _ _,.dn,.dn=>some true|.func _ _ _,.dn,.func _ _ _|.func _ _ _,.func _ _ _,.dn=>some false|.bool,.bool a,.bool b=>some (a == b)|_,_,_=>none
def rN(P:Program)(op:BinOp)(t:TypeId)(u v:AV):Option (Bool×AV):=match u,v with
 |.int k a,.int k' b=>match Wu op with|true=>Hu op k a b|false=>match j9 k k' with|true=>arith op k a b|false=>none
 |.str a,.str b=>Gd op a b|u,v=>match P.underlying t with
  |some d=>match HQ d u v with
   |some b=>match op with|.eql=>some (true,.bool b)|.neq=>some (true,.bool (!b))|_=>none
   |none=>none
  |none=>none
theorem atf{P:Program}{op:BinOp}{k:IntKind}{a b:Int}{g:Bool}{v:AV}(e:arith op k a b=some (g,v))(hg:g=true)(hs:Wu op=false)(t:TypeId)(x y:Operand)(X:Cx)(w:World) :
  ∃V,(do eqGuard op t x y (.int k a) (.int k b);binOp op t (.int k a) (.int k b)).run P w=.ok V w/\Rel X v V:=by
 cases op<;>simp only[arith,bo,Do]at e<;>first|(cases e;done)|skip
 all_goals
  obtain⟨e1,rfl⟩:=e;refine⟨_,?_,rfl⟩
  first
  |(have hb:¬b=0:=(by grind);simp[eqGuard,binOp,Op.intArith,Op.intDiv,Op.intBits,Op.intCmp,hb])
  |simp[eqGuard,binOp,Op.intArith,Op.intDiv,Op.intBits,Op.intCmp,QL,Zm,QP,QO]
theorem asg{P:Program}{op:BinOp}{k k':IntKind}{a b:Int}{g:Bool}{v:AV}(e:Hu op k a b=some (g,v))(hg:g=true)(t:TypeId)(x y:Operand)(X:Cx)(w:World) :
  ∃V,(do eqGuard op t x y (.int k a) (.int k' b);binOp op t (.int k a) (.int k' b)).run P w=.ok V w/\Rel X v V:=by
 cases op<;>simp only[Hu,bo,Do]at e<;>first|(cases e;done)|skip
 all_goals
  obtain⟨e1,rfl⟩:=e;have hb:¬b<0:=by grind
  exact⟨_,by simp[eqGuard,binOp,Op.shift,hb],rfl⟩
theorem asK{P:Program}{op:BinOp}{a b:ByteArray}{g:Bool}{v:AV}(e:Gd op a b=some (g,v))(hg:g=true)(t:TypeId)(x y:Operand)(X:Cx)(w:World) :
  ∃V,(do eqGuard op t x y (.string a) (.string b);binOp op t (.string a) (.string b)).run P w=.ok V w/\Rel X v V:=by
 cases op<;>simp only[Gd,bo,Do]at e<;>first|(cases e;done)|skip
 all_goals
  obtain⟨e1,rfl⟩:=e;refine⟨_,?_,rfl⟩
  first
  |(have hb:¬(((a.size+b.size:Nat)) > IntKind.i64.max):=(by grind);have hs:(Op.stringOp .add a b)=pure (.string (a++b)):=(by unfold Op.stringOp;rw[rx hb]);simp[eqGuard,binOp,hs];done)
  |simp[eqGuard,binOp,Op.stringOp]
theorem asp{P:Program}{t:TypeId}{d:TypeDesc}{u v:AV}{b:Bool}(hu:P.underlying t=some d)(h:HQ d u v=some b){X:Cx}{U V:Value}(h1:Rel X u U)(h2:Rel X v V)(w:World)(x y:Operand) :
  (do eqGuard .eql t x y U V;binOp .eql t U V).run P w=.ok (.bool b) w/\(do eqGuard .neq t x y U V;binOp .neq t U V).run P w=.ok (.bool (!b)) w:=by
 have hr:=run_underlying hu w;have fin:∀{U V:Value},eqGuard .eql t x y U V=pure ()->eqGuard .neq t x y U V=pure ()->binOp .eql t U V=(do pure (.bool (<- Op.equal t U V)))->binOp .neq t U V=(do pure (.bool (!(<- Op.equal t U V)))) ->
   (∀n,(Op.equalIn (n+1) t U V).run P w=.ok b w) ->
   (do eqGuard .eql t x y U V;binOp .eql t U V).run P w=.ok (.bool b) w/\(do eqGuard .neq t x y U V;binOp .neq t U V).run P w=.ok (.bool (!b)) w:=by
  intro U V g1 g2 g3 g4 g5;have g5:(Op.equal t U V).run P w=.ok b w:=g5 9999;exact⟨by simp[g1,g3,g5],by simp[g2,g4,g5]⟩
 unfold HQ at h;split at h<;>first|(cases h;done)|skip
 all_goals
  simp only[bo]at h;subst h
 .rw[show U=_ from h1,show V=_ from h2];exact fin rfl rfl rfl rfl (fun n=>by simp[Op.equalIn,hr])
 .obtain⟨aIR,aHd,-,rfl⟩:=h2;rw[show U=_ from h1];exact fin rfl rfl rfl rfl (fun n=>by simp[Op.equalIn,hr])
 .obtain⟨aIR,aHd,-,rfl⟩:=h1;rw[show V=_ from h2];exact fin rfl rfl rfl rfl (fun n=>by simp[Op.equalIn,hr])
 .obtain⟨aIR,aHd,-,rfl,-⟩:=h2;rw[show U=_ from h1];exact fin rfl rfl rfl rfl (fun n=>by simp[Op.equalIn,hr])
 .obtain⟨aIR,aHd,-,rfl,-⟩:=h1;rw[show V=_ from h2];exact fin rfl rfl rfl rfl (fun n=>by simp[Op.equalIn,hr])
 .obtain⟨aIR,aHd,aHe,rfl,-⟩:=h2;rw[show U=_ from h1];exact fin rfl rfl rfl rfl (fun n=>by simp[Op.equalIn,hr])
 .obtain⟨aIR,aHd,aHe,rfl,-⟩:=h1;rw[show V=_ from h2];exact fin rfl rfl rfl rfl (fun n=>by simp[Op.equalIn,hr])
 .rw[show U=_ from h1,show V=_ from h2];exact fin rfl rfl rfl rfl (fun n=>by simp[Op.equalIn,hr])
 .obtain⟨-,a,l,c,rfl,hz⟩:=h1;rw[show V=_ from h2];exact fin rfl rfl rfl rfl (fun n=>by cases a<;>simp at hz<;>simp[Op.equalIn,hr,hz])
 .obtain⟨-,a,l,c,rfl,hz⟩:=h2;rw[show U=_ from h1];exact fin rfl rfl rfl rfl (fun n=>by cases a<;>simp at hz<;>simp[Op.equalIn,hr,hz])
 .rw[show U=_ from h1,show V=_ from h2];exact fin rfl rfl rfl rfl (fun n=>by simp[Op.equalIn,hr])
 .rw[show U=_ from h1,show V=_ from h2];exact fin rfl rfl rfl rfl (fun n=>by simp[Op.equalIn,hr])
 .obtain⟨xs,cs,rfl,-⟩:=h2;rw[show U=_ from h1];exact fin rfl rfl rfl rfl (fun n=>by simp[Op.equalIn,hr])
 .obtain⟨xs,cs,rfl,-⟩:=h1;rw[show V=_ from h2];exact fin rfl rfl rfl rfl (fun n=>by simp[Op.equalIn,hr])
 .rw[show U=_ from h1,show V=_ from h2];exact fin rfl rfl rfl rfl (fun n=>by simp[Op.equalIn,hr])
theorem NW{P:Program}{op:BinOp}{t:TypeId}{u v r:AV}{g:Bool}(e:rN P op t u v=some (g,r))(hg:g=true){X:Cx}{U V:Value}(h1:Rel X u U)(h2:Rel X v V)(x y:Operand)(w:World) :
  ∃R,(do eqGuard op t x y U V;binOp op t U V).run P w=.ok R w/\Rel X r R:=by
 unfold rN at e;split at e
 .rename_i k a k' b;rw[h1,h2];split at e
  .exact asg e hg t x y X w
  .rename_i hs;split at e<;>try cases e
   rename_i hk;have:=my hk;subst this;exact atf e hg hs t x y X w
 .rename_i a b;rw[h1,show V=_ from h2];exact asK e hg t x y X w
 .split at e<;>try cases e
  rename_i d hu;split at e<;>try cases e
  rename_i b hb;obtain⟨q1,q2⟩:=asp hu hb h1 h2 w x y;split at e<;>first|(cases e;done)|(cases e;exact⟨_,q1,rfl⟩)|(cases e;exact⟨_,q2,rfl⟩)
def uT(h:Hp):AV->Option (Bool×List AV×Nat)
 |.ptr b off=>match h.tr.get b with|some (.cells l _)=>some (true,l,off)|_=>none
 |.dK b i z o=>match h.tr.get b with
  |some (.arr τ L _)=>match Nat.beq z τ.size with|true=>some (true,nA τ (L.getD i τ.zero),o)|false=>none
  |some (.dA τ k L vs _)=>match Nat.beq z τ.size with|true=>some (Nat.beq i k,vs,o)|false=>none
  |_=>none
 |.fF σ d o=>some (true,nA σ d,o)|.ra b i=>match h.tr.get b with|some (.fl _ _)=>some (true,[.rp b i],0)|_=>none
 |_=>none
theorem Zxc{X:Cx}(H:ab X){u:AV}{g:Bool}{l:List AV}{o:Nat}{U:Value}(e:uT X.h u=some (g,l,o))(hg:g=true)(R:Rel X u U) :
  ∃b off c ty fr cs,U=.pointer (some ⟨b,off+o,none⟩)/\X.w.heap[b]?=some (.cells c ty fr)/\bm X l cs/\∀j v,cs[j]?=some v->c[off+j]?=some v:=by
 unfold uT at e;split at e<;>try cases e
 .rename_i b off;split at e<;>try cases e
  rename_i ty hb;obtain⟨x,c,h1,rfl⟩:=R;obtain⟨x',c',cs,e1,e2,e3⟩:=H.obj b _ _ hb h1;cases e1;exact⟨x,0,_,ty,_,cs,aGn,e2,e3,fun j v q=>by simpa using q⟩
 .rename_i b i z o';split at e<;>try cases e
  .rename_i τ L ty hb;split at e<;>try cases e
   rename_i hz;have hz:=aK hz;subst hz;obtain⟨x,c,h1,rfl,h3⟩:=R;have hi:=h3 _ (jH hb);obtain⟨cs,tail,q1,q2,q3,q4⟩:=H.obj b _ _ hb h1;obtain⟨d,p1,p2⟩:=aY.get (fun x c=>Cs.length) q2 (bF hi);refine⟨x,i*τ.size,_,ty,_,d,rfl,q1,?_,?_⟩
   .rw[fq,bF hi];exact uI p1
   .intro j v hv;have hj:j<τ.size:=by
     rw[<-Cs.length p1];rcases ww j d.length with q|q
     .exact q
     .rw[BT q]at hv;cases hv
    rw[<-p2 j hj]at hv;simp only[pp];rw[Fr]
    .exact hv
    .rcases ww (i*τ.size+j) cs.length with q|q
     .exact q
     .rw[BT q]at hv;cases hv
  .rename_i τ k L vs ty hb;split at e<;>try cases e
   rename_i hz;have hz:=aK hz;subst hz;have hg:=aK hg;subst hg;obtain⟨x,c,h1,rfl,h3⟩:=R;obtain⟨x',c',pre,mid,post,tail,e1,q1,q2,q3,q4,q5,q6,q7,q8⟩:=H.obj b _ _ hb h1;cases e1;have hpre:pre.length=i*τ.size:=by rw[aY.length (fun x c=>Cs.length) q2,fD,aGd aGl]
   grind
 .rename_i σ d;obtain⟨b,off,cs,rfl,h2,h3,c,ty,fr,h4,h5⟩:=R;exact⟨b,off,c,ty,fr,cs,rfl,h4,uI h3,h5⟩
 .rename_i b i;split at e<;>cases e;rename_i L ty hb;obtain⟨x,c,m,h1,h2,rfl⟩:=R;obtain⟨tail,ty',q1,q2,q3,q4⟩:=H.obj b _ _ hb h1;have hp:=bF h2;refine⟨x,i,_,ty',_,[.pointer (some ⟨m[i].1,0,none⟩)],rfl,q1,⟨_,[],rfl,⟨x,c,m,m[i],h1,hp,rfl⟩,rfl⟩,?_⟩;intro j v hv;cases j with|zero=>simp only[pm,bo]at hv;subst hv;rw[aux,pp,Fr (by unfold jw;simpa using h2)];unfold jw;rw[dO,hp];rfl|succ j=>simp at hv
def nC(P:Program)(t:TypeId)(l:List AV)(off:Nat):Option AV:=match nZ P t with
 |some true=>match cP P t with
  |some n=>match Nat.ble (off+n) l.length with|true=>some (.agg (takeN n (eh off l)))|false=>none
  |none=>none
 |some false=>nth l off|none=>none
theorem xT{P:Program}{t:TypeId}{l:List AV}{off:Nat}{v:AV}(e:nC P t l off=some v){X:Cx}{cs:kw}(R:bm X l cs)(w:World) :
  ∃V,(part t cs.toArray off).run P w=.ok V w/\Rel X v V:=by
 unfold nC at e;split at e
 .rename_i ha;split at e<;>try cases e
  rename_i n hn;split at e<;>try cases e
  refine⟨.agg ((cs.drop off).take n).toArray,?_,⟨_,rfl,by rw[fu,fK];exact(R.drop off).take n⟩⟩;simp[part,lD ha,run_sizeOf hn,List.extract_eq_take_drop]
 .rename_i ha;rw[ct]at e;obtain⟨V,h1,h2⟩:=R.get e;exact⟨V,by simp[part,lD ha,h1],h2⟩
 .cases e
def lH(P:Program)(h:Hp)(t:TypeId)(u:AV):Option (Bool×AV):=match uT h u with
 |some (g,l,o)=>match nC P t l o with|some v=>some (g,v)|none=>none
 |none=>none
theorem xU{P:Program}{t:TypeId}{u v:AV}{g:Bool}{X:Cx}(H:ab X)(e:lH P X.h t u=some (g,v))(hg:g=true){U:Value}(R:Rel X u U) :
  ∃V,(Instr.loadAt t U).run P X.w=.ok V X.w/\Rel X v V:=by
 unfold lH at e;split at e<;>try cases e
 rename_i g' l o hc;split at e<;>cases e;rename_i e;obtain⟨b,off,c,ty,fr,cs,rfl,h1,h2,h3⟩:=Zxc H hc hg R;unfold nC at e;split at e
 .rename_i ha;split at e<;>try cases e
  rename_i n hn;split at e<;>try cases e
  rename_i hle;have hle:=qr hle;have hcl:=h2.length;rcases If n with hz|hz
  .subst hz;exact⟨.agg #[],by simp[Instr.loadAt,Instr.sureAddr,loadVar,lD ha,run_sizeOf hn,loadCells,loadCellsFrom],[],rfl,by simp[takeN,bm]⟩
  have hsz:off+o+n<=c.size:=by have:=h3 (o+n-1) cs[o+n-1] (bF aGl);have:=iY this;omega
  refine⟨.agg ((cs.drop o).take n).toArray,?_,⟨_,rfl,by rw[fu,fK];exact(h2.drop o).take n⟩⟩;simp only[Instr.loadAt,Instr.sureAddr,Sem.run_bind,Sem.run_pure,Result.andThen_ok,loadVar,lD ha,aFx,run_sizeOf hn,loadCells];rw[Ev.run_loadCells (P:=P) h1 n 0 #[] aGl];simp only[Result.andThen_ok,Sem.run_pure,aux];congr 3;simp only[Nm];apply aig
  grind
 .rename_i ha;rw[ct]at e;obtain⟨V,q1,q2⟩:=h2.get e;refine⟨V,?_,q2⟩;have hc:X.w.cell? ⟨b,off+o,none⟩=some V:=by simp only[World.cell?,h1,aET,GE,aFk];exact h3 o V q1
  simp[Instr.loadAt,Instr.sureAddr,loadVar,lD ha,run_load,hc]
 .cases e
def sX(P:Program)(t:TypeId)(u:AV)(f:Nat):Option AV:=match P.underlying t with
 |some (.struct fields)=>match nth fields.toList f with
  |some fd=>match u with|.agg l=>nC P fd.type l fd.offset|_=>none
  |none=>none
 |_=>none
theorem Nv{P:Program}{t:TypeId}{u v:AV}{f:Nat}(h:sX P t u f=some v){X:Cx}{U:Value}(R:Rel X u U)(w:World) :
  ∃V,(Instr.field t U f).run P w=.ok V w/\Rel X v V:=by
 unfold sX at h;cases hu:P.underlying t with
 |none=>simp[hu]at h|some d=>
  have hr:=run_underlying hu w;cases d<;>simp_all<;>try cases h
  rename_i fields;cases hf:nth fields.toList f<;>simp only[hf]at h
  .cases h
  rename_i fd;rw[ct]at hf;cases u<;>simp at h<;>try cases h
  have hf':fields[f]?=some fd:=by grind
  obtain⟨cs,rfl,R'⟩:=R;obtain⟨V,q1,q2⟩:=xT h R' w;exact⟨V,by simp[Instr.field,hr,hf',asAgg,q1],q2⟩
def Io:AV->Nat->Option AV
 |.ptr b off,n=>some (.ptr b (off+n))|.dK b i z o,n=>some (.dK b i z (o+n))|.fF σ d o,n=>some (.fF σ d (o+n))|_,_=>none
theorem asC{X:Cx}{u v:AV}{n:Nat}{U:Value}(e:Io u n=some v)(R:Rel X u U):∃b o,U=.pointer (some ⟨b,o,none⟩)/\Rel X v (.pointer (some ⟨b,o+n,none⟩)):=by
 unfold Io at e;split at e<;>cases e
 .obtain⟨x,c,h1,rfl⟩:=R;exact⟨_,_,rfl,x,c,h1,rfl⟩
 .obtain⟨x,c,h1,rfl,h3⟩:=R;exact⟨_,_,rfl,x,c,h1,by grind,h3⟩
 .obtain⟨b,off,cs,rfl,h⟩:=R;exact⟨_,_,rfl,b,off,cs,by grind,h⟩
def sL(P:Program)(t:TypeId)(u:AV)(f:Nat):Option AV:=match P.underlying t with
 |some (.struct fields)=>match nth fields.toList f with
  |some fd=>match cP P fd.type with|some (n+1)=>Io u fd.offset|_=>none
  |none=>none
 |_=>none
theorem Ng{P:Program}{t:TypeId}{u v:AV}{f:Nat}(h:sL P t u f=some v){X:Cx}{U:Value}(R:Rel X u U)(w:World) :
  ∃V,(Instr.fieldAt t U f).run P w=.ok V w/\Rel X v V:=by
 unfold sL at h;cases hu:P.underlying t with
 |none=>simp[hu]at h|some d=>
  have hr:=run_underlying hu w;cases d<;>simp_all<;>try cases h
  rename_i fields;cases hf:nth fields.toList f<;>simp only[hf]at h
  .cases h
  rename_i fd;rw[ct]at hf;have hf':fields[f]?=some fd:=by grind
  split at h<;>try cases h
  rename_i n hs;obtain⟨b,o,rfl,q⟩:=asC h R;exact⟨_,by simp[Instr.fieldAt,hr,hf',Instr.sureAddr,fieldPlace,run_sizeOf hs,dR],q⟩
def oC(P:Program)(h:Hp)(t:TypeId)(u i:AV):Option (Bool×AV):=match i with
 |.int k n=>match P.underlying t with
  |some (.slice elem)=>match cP P elem with
   |some sz=>match u with
    |.hd b _=>match h.tr.get b with
     |some (.arr τ L _)=>match Nat.beq sz τ.size with|true=>some (ar n L.length,.dK b n.toNat sz 0)|false=>none
     |some (.dA τ _ L _ _)=>match Nat.beq sz τ.size with|true=>some (ar n L.length,.dK b n.toNat sz 0)|false=>none
     |_=>none
    |.vw b τ off len=>match Nat.beq sz τ.size with
     |true=>match h.tr.get b with|some (.cells _ _)=>some (ar n len,.ptr b ((off+n.toNat)*sz))|some (.arr _ _ _)=>some (ar n len,.dK b (off+n.toNat) sz 0)|_=>none
     |false=>none
    |.fz τ L=>match Nat.beq sz τ.size with|true=>some (ar n L.length,.fF τ (L.getD n.toNat τ.zero) 0)|false=>none
    |.ez b=>match h.tr.get b with
     |some (.fl L _)=>match Nat.beq sz 1 with|true=>some (ar n L.length,.ra b n.toNat)|false=>none
     |_=>none
    |_=>none
   |none=>none
  |some (.array len elem)=>match n with
   |.ofNat n=>match u,cP P elem with
    |.ptr b off,some sz=>match Nat.blt n len with|true=>some (true,.ptr b (off+n*sz))|false=>none
    |_,_=>none
   |_=>none
  |_=>none
 |_=>none
theorem Nf{P:Program}{t:TypeId}{u i v:AV}{g:Bool}{X:Cx}(H:ab X)(h:oC P X.h t u i=some (g,v))(hg:g=true){U I:Value}(R:Rel X u U)(RI:Rel X i I)(w:World) :
  ∃V,(Instr.indexAt t U I).run P w=.ok V w/\Rel X v V:=by
 subst hg;unfold oC at h;cases i<;>simp only[]at h<;>try cases h
 rename_i k n;rw[show I=_ from RI];cases hu:P.underlying t with
 |none=>simp[hu]at h|some d=>
  have hr:=run_underlying hu w;cases d<;>simp only[hu]at h<;>try cases h
  .rename_i elem;split at h<;>try cases h
   rename_i sz hs;split at h<;>try cases h
   .rename_i b aIU;have fin:∀(n':Nat),rowOf X.h.tr b=some n'->ar n n'=true->(∀l,X.s b=some l->∃x c,l=.at x c\/n'=0)->∃V,(Instr.indexAt t U (.int k n)).run P w=.ok V w/\Rel X (.dK b n.toNat sz 0) V:=by
     intro n' hrow aU hl;obtain⟨m,rfl,hm⟩:=tV aU;obtain⟨l,h1,_,h2⟩:=R;have hV:=h2 n' hrow;obtain⟨x,c,rfl|rfl⟩:=hl l h1
     .subst hV;refine⟨.pointer (some ⟨x,m*sz,none⟩),by simp[Loc.slice,Instr.indexAt,asIntOf,hr,run_sizeOf hs,dR,hm],x,c,h1,aGn,?_⟩;intro aIi q;rw[hrow]at q;cases q;simpa using hm
     .exact absurd hm aGl
    split at h<;>try cases h
    .rename_i τ L ty hb;split at h<;>try cases h
     rename_i hz;simp only[bo,Do]at h;obtain⟨aU,rfl⟩:=h;refine fin _ (jH hb) aU fun l h1=>?_;cases l with|nil=>have hL:L=[]:=H.obj b _ _ hb h1;subst hL;exact⟨0,0,.inr rfl⟩|cu _ _ _=>exact(H.obj b _ _ hb h1:False).elim|«at» x c=>exact⟨x,c,.inl rfl⟩
    .rename_i τ aHX L vs ty hb;split at h<;>try cases h
     rename_i hz;simp only[bo,Do]at h;obtain⟨aU,rfl⟩:=h;refine fin _ (Y6 hb) aU fun l h1=>?_;obtain⟨x,c,pre,mid,post,tail,e1,_⟩:=H.obj b _ _ hb h1;exact⟨x,c,.inl e1⟩
   .rename_i b τ off len;split at h<;>try cases h
    rename_i hz;have hz:=aK hz;subst hz;obtain⟨l,a,c,h1,rfl,h3,h4,h5,h6⟩:=R;split at h<;>try cases h
    .simp only[bo,Do]at h;obtain⟨aU,rfl⟩:=h;obtain⟨m,rfl,hm⟩:=tV aU;obtain⟨x,k',rfl,rfl⟩:=h4 aGl;exact⟨.pointer (some ⟨x,off*τ.size+m*τ.size,none⟩),by simp[Instr.indexAt,asIntOf,hr,run_sizeOf hs,dR,hm],x,k',h1,by simp[So]⟩
    .simp only[bo,Do]at h;obtain⟨aU,rfl⟩:=h;obtain⟨m,rfl,hm⟩:=tV aU;obtain⟨x,k',rfl,rfl⟩:=h4 aGl;refine⟨.pointer (some ⟨x,off*τ.size+m*τ.size,none⟩),by simp[Instr.indexAt,asIntOf,hr,run_sizeOf hs,dR,hm],x,k',h1,by simp[So],?_⟩;intro n' q;have:=h6 n' q;simp;omega
   .rename_i τ L;split at h<;>try cases h
    rename_i hz;have hz:=aK hz;subst hz;simp only[bo,Do]at h;obtain⟨aU,rfl⟩:=h;obtain⟨m,rfl,hm⟩:=tV aU;obtain⟨a,len,cap,e1,e2,e3,e4⟩:=R;simp only[aFD,aFa]at e1;subst e1;obtain⟨b,o,Y,rfl,q2,q3,q4⟩:=e4 (by intro q;subst q;simp at hm);subst e2;have hget:L[m]?=some L[m]:=bF hm;obtain⟨d,p1,p2⟩:=aY.get (fun x c=>Cs.length) q3 hget;obtain⟨c,ty,fr,r1,r2⟩:=q4;refine⟨.pointer (some ⟨b,o+m*τ.size,none⟩),by simp[Instr.indexAt,asIntOf,hr,run_sizeOf hs,dR,hm],b,o+m*τ.size,d,aGn,q2,?_,c,ty,fr,r1,?_⟩
    .rw[Id,fq,hget];exact p1
    .intro j u hj;have hj':j<τ.size:=by
      rw[<-Cs.length p1];rcases ww j d.length with q|q
      .exact q
      .rw[BT q]at hj;cases hj
     rw[<-p2 j hj']at hj;have:=r2 _ _ hj;rw[adc];exact this
   .rename_i b;split at h<;>try cases h
    rename_i L ty hb;split at h<;>try cases h
    rename_i hz;have hz:=aK hz;subst hz;simp only[bo,Do]at h;obtain⟨aU,rfl⟩:=h;obtain⟨m,rfl,hm⟩:=tV aU;obtain⟨l,h1,rfl⟩:=R;cases l with|nil=>have hL:L=[]:=H.obj b _ _ hb h1;subst hL;simp at hm|«at» x c=>exact(H.obj b _ _ hb h1:False).elim|cu x c ps=>obtain⟨tail,ty',q1,q2,q3,q4⟩:=H.obj b _ _ hb h1;have hl:=q3.len;exact⟨.pointer (some ⟨x,m,none⟩),by simp[Loc.QH,Instr.indexAt,asIntOf,hr,run_sizeOf hs,dR,hl,hm],x,c,ps,h1,by simp;omega,aGn⟩
  .split at h<;>try cases h
   rename_i n;split at h<;>try cases h
   rename_i b off sz hs;split at h<;>try cases h
   rename_i hb;rw[acl]at hb;obtain⟨x,c,h1,rfl⟩:=R;exact⟨_,by simp[Instr.indexAt,asIntOf,hr,run_sizeOf hs,dR,hb,Instr.sureAddr],x,c,h1,rfl⟩
open Go.Proofs.YtjflbmpepamfjaaGreat.Ev (Tr Tr.bM nth ct takeN eh fu fK cq eO jr still gW run_underlying run_typeInfo run_sizeOf cP dR places pH iw nZ lD nf DO)
def dN(T:Tr AV)(x:Option Operand):Option (Option Int):=match x with|none=>some none|some x=>match aQ T x with|some (.int _ n)=>some (some n)|_=>none
theorem GR{T:Tr AV}{x:Option Operand}(h:dN T x=some none):x=none:=by
 unfold dN at h
 grind
theorem GQ{X:Cx}{T:Tr AV}{a:Act}{x:Option Operand}{n:Int}(h:dN T x=some (some n))(hr:∀y,x=some y->∀u,aQ T y=some u->Rel X u (a.eval y)):∃y k,x=some y/\a.eval y=.int k n:=by
 unfold dN at h;split at h
 .cases h
 .rename_i y;split at h<;>try cases h
  rename_i k hy;exact⟨y,k,rfl,hr y rfl _ hy⟩
def lenOf(h:Hp):AV->Option Nat
 |.hd b _=>match h.tr.get b with|some (.arr _ L _)=>some L.length|some (.dA _ _ L _ _)=>some L.length|_=>none
 |.vw _ _ _ len=>some len|.fz _ L=>some L.length|.eg _ _ L=>some L.length|.ai=>some 0|.ez b=>match h.tr.get b with|some (.fl L _)=>some L.length|_=>none
 |_=>none
theorem U0{X:Cx}(H:ab X){u:AV}{n:Nat}{U:Value}(e:lenOf X.h u=some n)(R:Rel X u U):∃a c,U=.slice a n c/\n<=c:=by
 unfold lenOf at e;split at e<;>try cases e
 .rename_i b τ;split at e<;>try cases e
  .rename_i τ' L ty hb;obtain⟨l,h1,_,h2⟩:=R;rw[h2 _ (jH hb)];cases l with|nil=>have hL:L=[]:=H.obj b _ _ hb h1;subst hL;exact⟨none,0,rfl,pi _⟩|cu _ _ _=>exact(H.obj b _ _ hb h1:False).elim|«at» x c=>obtain⟨cs,tail,q1,q2,q3,q4⟩:=H.obj b _ _ hb h1;exact⟨_,c,rfl,q4⟩
  .rename_i τ' i' L vs ty hb;obtain⟨l,h1,_,h2⟩:=R;rw[h2 _ (Y6 hb)];obtain⟨x,c,pre,mid,post,tail,rfl,_,_,_,_,_,_,_,q⟩:=H.obj b _ _ hb h1;exact⟨_,c,rfl,q⟩
 .obtain⟨l,a,c,h1,rfl,h3,_⟩:=R;exact⟨a,c,rfl,h3⟩
 .obtain⟨a,len,cap,e1,e2,e3,_⟩:=R
  grind
 .obtain⟨⟨a,len,cap,e1,e2,e3,_⟩,_⟩:=R
  grind
 .rw[show U=_ from R];grind
 .rename_i b;split at e<;>cases e;rename_i L ty hb;obtain⟨l,h1,rfl⟩:=R;cases l with|nil=>have hL:L=[]:=H.obj b _ _ hb h1;subst hL;exact⟨none,0,rfl,pi _⟩|«at» x c=>exact(H.obj b _ _ hb h1:False).elim|cu x c m=>obtain⟨tail,ty',q1,q2,q3,q4⟩:=H.obj b _ _ hb h1;exact⟨some ⟨x,0,none⟩,c,by rw[<-q3.len];rfl,by rw[<-q3.len];omega⟩
def okB(lo hi:Option Int)(len:Nat):Bool:=match lo,hi with|none,none=>true|some l,none=>both (decide (0<=l)) (decide (l<=(len:Int)))|none,some r=>both (decide (0<=r)) (decide (r<=(len:Int)))|some l,some r=>both (decide (0<=l)) (both (decide (l<=r)) (decide (r<=(len:Int))))
def eI:Option Int->Nat|none=>0|some l=>l.toNat
def fc:Option Int->Nat->Nat|none,n=>n|some r,_=>r.toNat
theorem vX{lo hi:Option Int}{len:Nat}(h:okB lo hi len=true):eI lo<=fc hi len/\fc hi len<=len/\(∀l,lo=some l->l=(eI lo:Int))/\(∀r,hi=some r->r=(fc hi len:Int)):=by
 cases lo<;>cases hi<;>simp only[okB]at h
 .exact⟨by simp[eI],by simp[fc],aGn,aGn⟩
 .rename_i r;obtain⟨h1,h2⟩:=nz h;simp only[In]at h1 h2;refine⟨by simp[eI],by simp only[fc];omega,aGn,?_⟩;rintro r' q;cases q;simp only[fc];omega
 .rename_i l;obtain⟨h1,h2⟩:=nz h;simp only[In]at h1 h2;refine⟨by simp only[eI,fc];omega,by simp[fc],?_,aGn⟩;rintro l' q;cases q;simp only[eI];omega
 .rename_i l r;obtain⟨h1,h2⟩:=nz h;obtain⟨h2,h3⟩:=nz h2;simp at h1 h2 h3;refine⟨by simp only[eI,fc];omega,by simp only[fc];omega,?_,?_⟩
  .rintro l' q;cases q;simp only[eI];omega
  .rintro r' q;cases q;simp only[fc];omega
theorem qN{P:Program}{X:Cx}{T:Tr AV}{a:Act}{lo hi:Option Operand}{l h:Option Int}{len cap:Nat}(hr:∀x,(lo=some x\/hi=some x)->∀u,aQ T x=some u->Rel X u (a.eval x))
  (h1:dN T lo=some l) (h2:dN T hi=some h) (bw:okB l h len=true) (hc:len<=cap) (b:Bool) (w:World) :
  (Instr.sliceBounds b len cap (lo.map a.eval) (hi.map a.eval) none).run P w=.ok (eI l,fc h len,cap) w:=by
 obtain⟨q1,q2,q3,q4⟩:=vX bw;have bd:∀(k:IntKind) (n y:Nat) (code:BoundsCode),n<=y->(Instr.sliceBound (.int k (n:Int)) y code).run P w=.ok n w:=fun k n y code h=>by simp[Instr.sliceBound,asIntOf,h]
 unfold Instr.sliceBounds;cases l with
 |none=>
  have:=GR h1;subst this;cases h with
  |none=>have:=GR h2;subst this;simp[eI,fc]|some r=>
   obtain⟨y,k,rfl,hy⟩:=GQ h2 (fun y hy=>hr y (.inr hy));obtain⟨m,rfl⟩:∃m:Nat,r=(m:Int):=⟨_,q4 r rfl⟩;have hm:fc (some (m:Int)) len=m:=by simp[fc]
   rw[hm]at q2 |-;simp only[aFN,aFC,hy];simp[bd,eI,rt q2 hc]
 |some l=>
  obtain⟨x,kx,rfl,hx⟩:=GQ h1 (fun y hy=>hr y (.inl hy));obtain⟨ml,rfl⟩:∃m:Nat,l=(m:Int):=⟨_,q3 l rfl⟩;have hml:eI (some (ml:Int))=ml:=by simp[eI]
  rw[hml]at q1 |-;cases h with
  |none=>have:=GR h2;subst this;simp only[aFN,aFC,hx];simp only[fc]at q1;simp[bd,fc,q1]|some r=>
   obtain⟨y,k,rfl,hy⟩:=GQ h2 (fun y hy=>hr y (.inr hy));obtain⟨m,rfl⟩:∃m:Nat,r=(m:Int):=⟨_,q4 r rfl⟩;have hm:fc (some (m:Int)) len=m:=by simp[fc]
   rw[hm]at q1 q2 |-;simp only[aFN,hx,hy];simp[bd,q1,rt q2 hc]
def KP{α:Type}(lo hi:Option Int)(L:List α):List α:=match lo,hi with|none,none=>L|some l,none=>L.drop l.toNat|none,some r=>L.take r.toNat|some l,some r=>(L.drop l.toNat).take (r.toNat-l.toNat)
theorem afW{α:Type}(lo hi:Option Int)(L:List α):KP lo hi L=(L.drop (eI lo)).take (fc hi L.length-eI lo):=by
 cases lo<;>cases hi<;>simp[KP,eI,fc]
 .rw[By aGn]
def oF(P:Program)(h:Hp)(T:Tr AV)(t:TypeId)(u:AV)(lo hi:Option Operand):Option (Bool×AV):=match dN T lo,dN T hi with
 |some l,some r=>match P.underlying t with
  |some (.slice elem)=>match cP P elem with
   |some sz=>match u with
    |.hd b τ=>match h.tr.get b with
     |some (.arr τ' L _)=>match Nat.beq sz τ.size with|true=>some (okB l r L.length,.vw b τ (eI l) (fc r L.length-eI l))|false=>none
     |_=>none
    |.vw b τ off len=>match Nat.beq sz τ.size with|true=>some (okB l r len,.vw b τ (off+eI l) (fc r len-eI l))|false=>none
    |.fz τ L=>match Nat.beq sz τ.size with|true=>some (okB l r L.length,.fz τ (KP l r L))|false=>none
    |.ai=>some (okB l r 0,.ai)|_=>none
   |none=>none
  |some .string=>match u with|.str x=>some (okB l r x.size,.str (x.extract (eI l) (fc r x.size)))|_=>none
  |_=>none
 |_,_=>none
theorem NR(x o n sz m l:Nat)(h:l<m):(if m=l then(some ⟨x,o,none⟩:lc)else(some ⟨x,o,none⟩:lc).map (·.add (l*sz)))=some ⟨x,o+l*sz,none⟩:=by rw[rx aGl];simp[dR]
theorem Ns{P:Program}{T:Tr AV}{t:TypeId}{u v:AV}{lo hi:Option Operand}{g:Bool}{X:Cx}(H:ab X)(e:oF P X.h T t u lo hi=some (g,v))(hg:g=true){U:Value}(R:Rel X u U){a:Act}
  (hr:∀x,(lo=some x\/hi=some x)->∀u,aQ T x=some u->Rel X u (a.eval x)) (w:World) :
  ∃V,(Instr.sliceAt t U (lo.map a.eval) (hi.map a.eval) none).run P w=.ok V w/\Rel X v V:=by
 subst hg;unfold oF at e;split at e<;>try cases e
 rename_i l r h1 h2;split at e
 .rename_i elem hu;have hru:=run_underlying hu w;split at e<;>try cases e
  rename_i sz hs;have main:∀(A:lc) (len cap:Nat),okB l r len=true->len<=cap->(Instr.sliceAt t (.slice A len cap) (lo.map a.eval) (hi.map a.eval) none).run P w =
    .ok (.slice (if cap=eI l then A else A.map (·.add (eI l*sz))) (fc r len-eI l) (cap-eI l)) w:=by
   intro A len cap bw hc;simp only[Instr.sliceAt,Instr.slice,Sem.run_bind,hru,Result.andThen_ok,qN hr h1 h2 bw hc true w,run_sizeOf hs,Sem.run_pure]
  split at e<;>try cases e
  .rename_i b τ;split at e<;>try cases e
   rename_i τ' L ty hb;split at e<;>try cases e
   rename_i hz;have hz:=aK hz;subst hz;simp only[bo,Do]at e;obtain⟨bw,rfl⟩:=e;obtain⟨q1,q2,_,_⟩:=vX bw;obtain⟨A,c,rfl,hc⟩:=U0 H (show lenOf X.h (.hd b τ)=some L.length by simp[lenOf,hb]) R;obtain⟨k,g1,_,g2⟩:=R;have g3:=g2 _ (jH hb);refine⟨_,main A L.length c bw hc,k,_,_,g1,rfl,aGl,?_,?_,?_⟩
   .intro hp;cases k with|nil=>simp[Loc.slice]at g3;omega|cu _ _ _=>exact(H.obj b _ _ hb g1:False).elim|«at» x k=>simp only[Loc.slice,aFE,aGk]at g3;obtain⟨rfl,rfl⟩:=g3;exact⟨x,c,rfl,by rw[NR x 0 0 _ _ _ aGl];simp⟩
   .intro h0;rw[h0];cases k with
    |nil=>simp only[Loc.slice,aFE,aGk]at g3;obtain⟨rfl,rfl⟩:=g3;simp[Loc.slice]
    |cu _ _ _=>exact(H.obj b _ _ hb g1:False).elim|«at» x k=>simp only[Loc.slice,aFE,aGk]at g3;obtain⟨rfl,rfl⟩:=g3;simp[Loc.slice,dR]
   .intro aIh q;rw[jH hb]at q;cases q;omega
  .rename_i b τ off len;split at e<;>try cases e
   rename_i hz;have hz:=aK hz;subst hz;simp only[bo,Do]at e;obtain⟨bw,rfl⟩:=e;obtain⟨q1,q2,_,_⟩:=vX bw;obtain⟨k,A,c,g1,rfl,g3,g4,g5,g6⟩:=R;refine⟨_,main A len c bw g3,k,_,_,g1,rfl,aGl,?_,?_,?_⟩
   .intro hp;obtain⟨x,k',rfl,rfl⟩:=g4 aGl;exact⟨x,k',rfl,by rw[NR x _ 0 _ _ _ aGl];simp[So]⟩
   .intro h0;have h01:off=0:=aGl
    have h02:eI l=0:=aGl
    have g5:=g5 h01;rw[h02];cases k with
    |nil=>simp only[Loc.slice,aFE,aGk]at g5;obtain⟨rfl,rfl⟩:=g5;simp[Loc.slice]
    |cu x k m=>simp only[Loc.slice,aFE,aGk]at g5;obtain⟨rfl,rfl⟩:=g5;simp[Loc.slice,dR]
    |«at» x k=>simp only[Loc.slice,aFE,aGk]at g5;obtain⟨rfl,rfl⟩:=g5;simp[Loc.slice,dR]
   .intro aIh q;have:=g6 _ q;omega
  .rename_i τ L;split at e<;>try cases e
   rename_i hz;have hz:=aK hz;subst hz;simp only[bo,Do]at e;obtain⟨bw,rfl⟩:=e;obtain⟨q1,q2,_,_⟩:=vX bw;obtain⟨A,len,cap,e1,e2,e3,e4⟩:=R;simp only[aFD,aFa]at e1;subst e1;subst e2;refine⟨_,main A _ cap bw e3,?_⟩;rw[afW];refine⟨_,_,_,rfl,by simp;omega,aGl,fun hne=>?_⟩;have hpos:eI l<fc r L.length:=by
    rcases ww (eI l) (fc r L.length)with q|q
    .exact q
    .rw[show fc r L.length-eI l=0 by omega,are]at hne;exact absurd rfl hne
   have hL:L≠[]:=by rintro rfl;simp only[GT]at q1 q2 hpos;omega
   obtain⟨b,o,Y,rfl,p2,p3,c,ty,fr,p4,p5⟩:=e4 hL;refine⟨b,o+eI l*τ.size,(Y.drop (eI l*τ.size)).take ((fc r L.length-eI l)*τ.size),NR _ _ 0 _ _ _ aGl,p2,aY.take (fun x c=>Cs.length) _ (aY.drop (fun x c=>Cs.length) _ p3),c,ty,fr,p4,?_⟩;intro j v hv;rw[aFv]at hv;split at hv
   .rw[aFZ]at hv;have:=p5 _ _ hv;rw[adc];exact this
   .cases hv
  .simp only[bo,Do]at e;obtain⟨bw,rfl⟩:=e;obtain⟨q1,q2,_,_⟩:=vX bw;rw[show U=_ from R];refine⟨_,main none 0 0 bw (pi _),?_⟩;show _=_;have:fc r 0=0:=aGl
   simp[this]
 .rename_i hu;have hru:=run_underlying hu w;split at e<;>try cases e
  rename_i x;simp only[bo,Do]at e;obtain⟨bw,rfl⟩:=e;rw[show U=_ from R];refine⟨_,?_,rfl⟩;simp only[Instr.sliceAt,Instr.slice,Sem.run_bind,hru,Result.andThen_ok,aET,GE,aFk,Sem.run_pure];simp only[qN hr h1 h2 bw (pi _) false w,Result.andThen_ok,Sem.run_pure]
 .cases e
def jf(place:Nat->Option (Nat×Nat)):List AV->List (Nat×AV)->Option (List AV)
 |cells,[]=>some cells|cells,(i,v)::rest=>match place i with|none=>none|some (off,size)=>match Nat.beq (cr v).length size,Nat.ble (off+size) cells.length with|true,true=>jf place (takeN off cells++(cr v++eh (off+size) cells)) rest|_,_=>none
def Af(X:Cx):List (Nat×AV)->List (Nat×Value)->Prop
 |[],ps=>ps=[]|x::l,ps=>∃V r,ps=(x.1,V)::r/\Rel X x.2 V/\Af X l r
theorem DX{X:Cx}(place:Nat->Option (Nat×Nat)):∀(parts:List (Nat×AV)) (ps:List (Nat×Value)) (cells r:List AV) (cs:kw),jf place cells parts=some r->Af X parts ps->bm X cells cs ->
  ∃rs,Instr.fill place cs.toArray ps=some rs.toArray/\bm X r rs
 |[],ps,cells,r,cs,h,hp,hc=>by simp[jf]at h;subst h;rw[show ps=[]from hp];exact⟨cs,rfl,hc⟩|(i,v)::rest,ps,cells,r,cs,h,hp,hc=>by
  obtain⟨V,qs,rfl,hv,hq⟩:=hp;simp only[jf]at h;cases hpl:place i<;>simp only[hpl]at h
  .cases h
  rename_i q;obtain⟨off,size⟩:=q;simp only[]at h;cases h1:Nat.beq (cr v).length size<;>cases h2:Nat.ble (off+size) cells.length<;>simp only[h1,h2]at h<;>first|cases h|skip
  have h1:=aK h1;have h2:=qr h2;have hvl:=kK hv;have hl:V.cells.size=size:=by rw[<-PP,hvl.length,h1]
  have hcl:=hc.length;rw[fu,fK]at h;obtain⟨rs,q1,q2⟩:=DX place rest qs _ r (cs.take off++(V.cells.toList++cs.drop (off+size))) h hq ((hc.take off).append (hvl.append (hc.drop (off+size))));refine⟨rs,?_,q2⟩;simp only[Instr.fill,hpl];rw[rx (by simp[hl];omega),<-q1];congr 1;apply Rd.1;have hz:V.cells.zipIdx.foldl (fun cs (x:Value×Nat)=>cs.setIfInBounds (off+x.2) x.1) cs.toArray
    = (V.cells.toList.zipIdx 0).foldl (fun cs (x:Value×Nat)=>cs.setIfInBounds (off+x.2) x.1) cs.toArray:=by
   rw[<-Array.foldl_toList];simp
  have:=DO off V.cells.toList 0 cs.toArray (by simp[hl];omega);rw[hz,this];simp[hl]
def gX(T:Tr AV):List (Nat×Operand)->Option (List (Nat×AV))
 |[]=>some []|(i,x)::l=>match aQ T x with
  |some v=>match gX T l with|some vs=>some ((i,v)::vs)|none=>none
  |none=>none
theorem Nt{X:Cx}{T:Tr AV}{a:Act}:∀{l:List (Nat×Operand)}{vs:List (Nat×AV)},gX T l=some vs ->
  (∀x∈l.map (·.2),∀u,aQ T x=some u->Rel X u (a.eval x))->Af X vs (l.map fun x=>(x.1,a.eval x.2))
 |[],vs,h,_=>by simp[gX]at h;subst h;rfl|(i,x)::l,vs,h,hr=>by
  simp only[gX]at h;cases hv:aQ T x<;>simp only[hv]at h
  .cases h
  cases hl:gX T l<;>simp only[hl]at h
  .cases h
  simp at h;subst h;exact⟨_,_,rfl,hr x aGn _ hv,Nt hl (fun y hy=>hr y (by grind))⟩
def sP(P:Program)(t:TypeId)(parts:List (Nat×AV)):Option AV:=match P.underlying t with
 |some (.struct fields)=>match eS P t,places P fields.toList with
  |some z,some ps=>match jf (fun i=>nth ps i) (cr z) parts with|some r=>some (.agg r)|none=>none
  |_,_=>none
 |some (.array _ elem)=>match eS P t,cP P elem with
  |some z,some sz=>match jf (fun i=>some (i*sz,sz)) (cr z) parts with|some r=>some (.agg r)|none=>none
  |_,_=>none
 |_=>none
theorem Nw{P:Program}{t:TypeId}{parts:List (Nat×AV)}{v:AV}(e:sP P t parts=some v){X:Cx}(w:World)(ps:Array (Nat×Value))(hp:Af X parts ps.toList) :
  ∃V,(Instr.build t ps).run P w=.ok V w/\Rel X v V:=by
 unfold sP at e;split at e
 .rename_i fields hu;split at e<;>try cases e
  rename_i z q hz hq;split at e<;>try cases e
  rename_i r hr;obtain⟨Z,hZ,RZ⟩:=iu hz X w;obtain⟨rs,f1,f2⟩:=DX _ _ _ _ _ _ hr hp (kK RZ);have hfun:(fun i=>(q.toArray:Array (Nat×Nat))[i]?)=fun i=>nth q i:=by funext i;rw[ct];simp
  refine⟨.agg rs.toArray,?_,rs,rfl,f2⟩;rw[arg]at f1;simp only[Instr.build,Sem.run_bind,hZ,Result.andThen_ok,run_underlying hu,pH hq,Sem.run_pure];rw[hfun,f1];simp
 .rename_i k elem hu;split at e<;>try cases e
  rename_i z sz hz hs;split at e<;>try cases e
  rename_i r hr;obtain⟨Z,hZ,RZ⟩:=iu hz X w;obtain⟨rs,f1,f2⟩:=DX _ _ _ _ _ _ hr hp (kK RZ);refine⟨.agg rs.toArray,?_,rs,rfl,f2⟩;rw[arg]at f1;simp only[Instr.build,Sem.run_bind,hZ,Result.andThen_ok,run_underlying hu,run_sizeOf hs,Sem.run_pure];rw[f1];simp
 .cases e
def tL(P:Program)(h:Hp)(ts:Array TypeId)(u:AV):Option AV:=match nth ts.toList 0 with
 |some t=>match P.underlying t with
  |some (.slice _)=>match lenOf h u with|some n=>some (.int .i64 (n:Int))|none=>none
  |some .string=>match u with|.str x=>some (.int .i64 (x.size:Int))|_=>none
  |some (.array n _)=>some (.int .i64 (n:Int))|_=>none
 |none=>none
theorem as7{P:Program}{ts:Array TypeId}{u v:AV}{X:Cx}(H:ab X)(e:tL P X.h ts u=some v){U:Value}(R:Rel X u U)(ty:TypeId)(w:World) :
  ∃V,(Builtin.len_ ts ty #[U]).run P w=.ok V w/\Rel X v V:=by
 unfold tL at e;split at e<;>try cases e
 rename_i t ht;have ht:ts[0]?=some t:=by rw[ct]at ht;simpa using ht
 split at e
 .rename_i hu;split at e<;>try cases e
  rename_i n hn;obtain⟨A,c,rfl,_⟩:=U0 H hn R;exact⟨_,by simp[Builtin.len_,ht,run_underlying hu,goInt],rfl⟩
 .rename_i hu;split at e<;>try cases e
  rw[show U=_ from R];exact⟨_,by simp[Builtin.len_,ht,run_underlying hu,goInt],rfl⟩
 .rename_i hu;cases e;exact⟨_,by simp[Builtin.len_,ht,run_underlying hu,goInt],rfl⟩
 .cases e
def xa(k:IntKind):Int->List AV->Option Int
 |a,[]=>some a|a,v::l=>match v with|.int _ b=>xa k (mn (decide (b > a)) b a) l|_=>none
def xc(k:IntKind):Int->List AV->Option Int
 |a,[]=>some a|a,v::l=>match v with|.int _ b=>xc k (mn (decide (b<a)) b a) l|_=>none
open Go.Proofs.YtjflbmpepamfjaaGreat.Ev (Tr Tr.bM nth ct takeN eh fu fK cq eO jr still gW run_underlying run_typeInfo run_sizeOf cP dR places pH iw nZ lD kj)
mutual
theorem Eg{h:Hp}:∀{σ:Sh}{l:List AV}{d:σ.T}{r:List AV}{h':Hp},eu false h σ l=some (d,r,h')->h'=h
 |.int k,l,d,r,h',e=>by
  simp only[eu]at e;split at e<;>try cases e
  split at e<;>cases e;rfl
 |.bool,l,d,r,h',e=>by simp only[eu]at e;split at e<;>cases e;rfl
 |.str,l,d,r,h',e=>by simp only[eu]at e;split at e<;>cases e;rfl
 |.agg ss,l,d,r,h',e=>U5 (ss:=ss) e|.sl s,l,d,r,h',e=>by
  simp only[eu]at e;split at e<;>try cases e
  .rfl
  .split at e<;>cases e;rfl
  .split at e<;>try cases e
   split at e<;>first|(cases e;done)|(rename_i q _;cases q)
  .split at e<;>try cases e
   split at e<;>first|(cases e;done)|(rename_i q _;cases q)
theorem U5{h:Hp}:∀{ss:List Sh}{l:List AV}{d:TL ss}{r:List AV}{h':Hp},ke false h ss l=some (d,r,h')->h'=h
 |[],l,d,r,h',e=>by simp only[ke,bo,Do]at e;cases e;rfl
 |s::ss,l,d,r,h',e=>by
  simp only[ke]at e;split at e<;>try cases e
  rename_i aHf aIq h₁ aHi;split at e<;>try cases e
  rename_i aHg aIr h₂ aHj;rw[U5 aHj,Eg aHi]
end
def pR(h:Hp)(b off:Nat)(vs:List AV):Option Hp:=match h.tr.get b with
 |some (.cells l ty)=>match Nat.ble (off+vs.length) l.length,kh vs with
  |true,true=>match Tr.set FT h.tr b (some (.cells (takeN off l++(vs++eh (off+vs.length) l)) ty))with|some tr=>some ⟨tr,h.next⟩|none=>none
  |_,_=>none
 |_=>none
theorem xR{P:Program}{X:Cx}(H:ab X){h':Hp}{b x c off:Nat}{vs:List AV}{Vs:kw}(e:pR X.h b off vs=some h')(hs:X.s b=some (.at x c))(R:bm X vs Vs) :
  ∃w',(storeCells ⟨x,off,none⟩ Vs).run P X.w=.ok () w'/\ab ⟨X.s,h',w',X.A⟩/\aH X ⟨X.s,h',w',X.A⟩:=by
 unfold pR at e;split at e<;>try cases e
 rename_i l ty hb;split at e<;>try cases e
 rename_i hl ho;split at e<;>try cases e
 rename_i tr ht;have hl:=qr hl;obtain⟨x',c',cs,e1,e2,e3⟩:=H.obj b _ _ hb hs;cases e1;have hL:=e3.length;have hV:=R.length;obtain⟨d,hd,hr⟩:=kj (P:=P) (off:=off) Vs 0 X.w _ e2 (by simp;omega) (Eo ho R);have hd:d=(cs.take off++(Vs++cs.drop (off+Vs.length))).toArray:=by grind
 subst hd;have E:=aH.put (ob:=.cells (cs.take off++(Vs++cs.drop (off+Vs.length))).toArray ty (0,0)) H hb hs (by intro n q;cases q) ht;refine⟨_,hr,H.put hb hs (by intro n q;cases q) ht ⟨x,c,_,rfl,by show(cq X.w x _).heap[x]?=_;rw[eO,BY ⟨rfl,iY e2⟩],?_⟩,E⟩;have R':=(e3.take off).append (R.append (e3.drop (off+vs.length)));rw[fu,fK,<-hV]at *
 exact R'.ext (E.ei H)
def Ic(h:Hp)(b i z o:Nat)(vs:List AV):Option Hp:=match h.tr.get b with
 |some (.arr τ L ty)=>match Nat.beq z τ.size,Nat.ble (o+vs.length) z,kh vs,eu true h τ (takeN o (nA τ (L.getD i τ.zero))++(vs++eh (o+vs.length) (nA τ (L.getD i τ.zero))))with
  |true,true,true,some (x,[],h₁)=>match h₁.tr.get b with
   |some _=>match Tr.set FT h₁.tr b (some (.arr τ (L.set i x) ty))with|some tr=>some ⟨tr,h₁.next⟩|none=>none
   |none=>none
  |_,_,_,_=>none
 |_=>none
theorem asu{P:Program}{X:Cx}(H:ab X){h':Hp}{b x c i z o:Nat}{vs:List AV}{Vs:kw}(e:Ic X.h b i z o vs=some h')(hs:X.s b=some (.at x c))
  (hi:∀n,rowOf X.h.tr b=some n->i<n) (R:bm X vs Vs) :
  ∃w',(storeCells ⟨x,i*z+o,none⟩ Vs).run P X.w=.ok () w'/\ab ⟨X.s,h',w',X.A⟩/\aH X ⟨X.s,h',w',X.A⟩:=by
 unfold Ic at e;split at e<;>try cases e
 rename_i τ L ty hb;split at e<;>try cases e
 rename_i y h₁ hz hle ho hf;split at e<;>try cases e
 rename_i aIj aHs;split at e<;>try cases e
 rename_i tr ht;have hz:=aK hz;subst hz;have hle:=qr hle;have hi:=hi _ (jH hb);obtain⟨cs,tail,q1,q2,q3,q4⟩:=H.obj b _ _ hb hs;have hget:L[i]?=some L[i]:=bF hi;obtain⟨d,p1,p2⟩:=aY.get (fun x c=>Cs.length) q2 hget;have hd:=Cs.length p1;have hcs:=aY.length (fun x c=>Cs.length) q2;have hiz:i*τ.size+τ.size<=cs.length:=by rw[hcs];have:=UV τ.size (show i+1<=L.length by omega);rw[So]at this;omega
 have hV:=R.length;have RD:bm X (nA τ (L.getD i τ.zero)) d:=by rw[fq,hget];exact uI p1
 have Rn:=(RD.take o).append (R.append (RD.drop (o+vs.length)));rw[<-fu,<-fK]at Rn;obtain⟨F,aHd,aIq,k1,k2,k3⟩:=qU H hf Rn;have aHI:aIq=[]:=k3;subst aHI;rw[dJ]at k1;have aHt:h₁.tr.get b=some (.arr τ L ty):=by have:=F.sub b _ aHs;rw[hb]at this;rw[aHs,<-this]
 obtain⟨e',he',hrun⟩:=kj (P:=P) (off:=i*τ.size+o) Vs 0 X.w _ q1 (by simp;omega) (Eo ho R);have hdd:d=(cs.drop (i*τ.size)).take τ.size:=by
  apply aig;intro j;rw[aFv];split
  .rename_i hj;rw[aFZ];exact(p2 j hj).symm
  .rw[BT aGl]
 have hsplit:cs=cs.take (i*τ.size)++(d++cs.drop (i*τ.size+τ.size)):=by rw[hdd,<-aGh,FS,FS]
 have hal:(cs.take (i*τ.size)).length=i*τ.size:=by simp;omega
 have hlist:e'=(cs.take (i*τ.size)++aHd++cs.drop (i*τ.size+τ.size)++tail).toArray:=by
  apply Rd.1;rw[he',<-k1];simp only[aux];generalize cs.take (i*τ.size)=A at hsplit hal |-;generalize cs.drop (i*τ.size+τ.size)=B at hsplit |-;subst hsplit;have t1:(A++(d++B)++tail).take (i*τ.size+o)=A++d.take o:=by rw[<-hal,bV,aFr,bV,aEZ aGl]
  have t2:(A++(d++B)++tail).drop (i*τ.size+o+Vs.length)=d.drop (o+vs.length)++(B++tail):=by rw[<-hal,adc,bV,avq,bV,hV,List.drop_append_of_le_length aGl]
  rw[t1,t2];simp
 subst hlist;have E:=aH.put (X:=⟨X.s,h₁,X.w,X.A⟩) (ob:=.cells (cs.take (i*τ.size)++aHd++cs.drop (i*τ.size+τ.size)++tail).toArray ty (0,0)) F.H aHt hs (by intro n q;simpa[aE.row]using q) ht;refine⟨_,hrun,ab.put (X:=⟨X.s,h₁,X.w,X.A⟩) F.H aHt hs (by intro n q;simpa[aE.row]using q) ht ?_,F.E.trans E⟩;have K:=E.keeps;refine⟨cs.take (i*τ.size)++aHd++cs.drop (i*τ.size+τ.size),tail,?_,?_,?_,by simpa using q4⟩
 .show(cq X.w x _).heap[x]?=_;rw[eO,BY ⟨rfl,iY q1⟩]
 .have s1:aY (Cs X.w (Cx.out ⟨X.s,h₁,X.w,X.A⟩) τ) L cs:=q2.mono (fun x c q=>q.keep F.E.keeps);have s2:aY (Cs X.w (Cx.out ⟨X.s,h₁,X.w,X.A⟩) τ) (L.set i y) (cs.take (i*τ.size)++aHd++cs.drop (i*τ.size+τ.size)):=aY.set (fun x c=>Cs.length) s1 hi k2;exact s2.mono (fun x c q=>q.keep K)
 .have:=Cs.length k2;simp only[aO,fD,aFu,this];omega
def QW:Sh->Bool
 |.sl _=>true|.agg l=>hasSlL l|_=>false
where hasSlL:List Sh->Bool
 |[]=>false|s::l=>match QW s with|true=>true|false=>hasSlL l
def Kt:List AV->Bool
 |[]=>false|.hd _ τ::l=>match QW τ with|true=>true|false=>Kt l
 |_::l=>Kt l
def BR(h:Hp)(b i z o:Nat)(vs:List AV):Option (Bool×Hp):=match h.tr.get b with
 |some (.arr τ L ty)=>match Nat.beq z τ.size,Nat.ble (o+vs.length) z,kh vs with
  |true,true,true=>match Tr.set FT h.tr b (some (.dA τ i L (takeN o (nA τ (L.getD i τ.zero))++(vs++eh (o+vs.length) (nA τ (L.getD i τ.zero)))) ty))with|some tr=>some (true,⟨tr,h.next⟩)|none=>none
  |_,_,_=>none
 |some (.dA τ k L us ty)=>match Nat.beq z τ.size,Nat.ble (o+vs.length) z,kh vs with
  |true,true,true=>match Tr.set FT h.tr b (some (.dA τ k L (takeN o us++(vs++eh (o+vs.length) us)) ty))with|some tr=>some (Nat.beq i k,⟨tr,h.next⟩)|none=>none
  |_,_,_=>none
 |_=>none
theorem Y3{P:Program}{X:Cx}(H:ab X){b x c i o:Nat}{ob:aE}{τ:Sh}{L:List τ.T}{us vs:List AV}{ty:TypeId}{Vs:kw}{tr:Tr aE}(hb:X.h.tr.get b=some ob)(hrow:ob.row=some L.length)(hs:X.s b=some (.at x c))
  {pre mid post tail:kw}(q1:X.w.heap[x]?=some (.cells (List.toArray (pre++(mid++(post++tail)))) ty (0,0))) (q2:aY (Cs X.w X.out τ) (L.take i) pre) (q3:bm X us mid) (q4:aY (Cs X.w X.out τ) (L.drop (i+1)) post)
  (hi:i<L.length) (hm:mid.length=τ.size) (hsum:pre.length+(mid.length+(post.length+tail.length))=c*τ.size) (hc:L.length<=c) (hle:o+vs.length<=τ.size) (ho:kh vs=true) (R:bm X vs Vs)
  (ht:Tr.set FT X.h.tr b (some (.dA τ i L (takeN o us++(vs++eh (o+vs.length) us)) ty))=some tr) :
  ∃w',(storeCells ⟨x,i*τ.size+o,none⟩ Vs).run P X.w=.ok () w'/\ab ⟨X.s,⟨tr,X.h.next⟩,w',X.A⟩/\aH X ⟨X.s,⟨tr,X.h.next⟩,w',X.A⟩:=by
 have hV:=R.length;have hpre:pre.length=i*τ.size:=by rw[aY.length (fun x c=>Cs.length) q2,fD,aGd aGl]
 obtain⟨e',he',hrun⟩:=kj (P:=P) (off:=i*τ.size+o) Vs 0 X.w _ q1 (by simp;omega) (Eo ho R);have hlist:e'=(pre++((mid.take o++(Vs++mid.drop (o+vs.length)))++(post++tail))).toArray:=by apply Rd.1;rw[he'];simp only[aux];rw[<-hpre,<-hV,aFr,adc,avq,aEZ aGl,List.drop_append_of_le_length aGl];simp
 subst hlist;have hrw:∀n,(aE.dA τ i L (takeN o us++(vs++eh (o+vs.length) us)) ty).row=some n->ob.row=some n:=by intro n q;rw[hrow];exact q
 have E:=aH.put (ob:=.cells (pre++((mid.take o++(Vs++mid.drop (o+vs.length)))++(post++tail))).toArray ty (0,0)) H hb hs hrw ht;have K:=E.keeps;refine⟨_,hrun,ab.put H hb hs hrw ht ?_,E⟩;refine⟨x,c,pre,mid.take o++(Vs++mid.drop (o+vs.length)),post,tail,rfl,?_,q2.mono (fun x d q=>q.keep K),?_,q4.mono (fun x d q=>q.keep K),hi,?_,?_,hc⟩
 .show(cq X.w x _).heap[x]?=_;rw[eO,BY ⟨rfl,iY q1⟩]
 .have R':=(q3.take o).append (R.append (q3.drop (o+vs.length)));rw[fu,fK];exact R'.ext (E.ei H)
 .simp only[aO,fD,aFu];omega
 grind
theorem Y5{P:Program}{X:Cx}(H:ab X){h':Hp}{b x c i z o:Nat}{g:Bool}{vs:List AV}{Vs:kw}(e:BR X.h b i z o vs=some (g,h'))(hg:g=true)(hs:X.s b=some (.at x c))
  (hi:∀n,rowOf X.h.tr b=some n->i<n) (R:bm X vs Vs) :
  ∃w',(storeCells ⟨x,i*z+o,none⟩ Vs).run P X.w=.ok () w'/\ab ⟨X.s,h',w',X.A⟩/\aH X ⟨X.s,h',w',X.A⟩:=by
 subst hg;unfold BR at e;split at e<;>try cases e
 .rename_i τ L ty hb;split at e<;>try cases e
  rename_i hz hle ho;split at e<;>cases e;rename_i tr ht;have hz:=aK hz;subst hz;have hle:=qr hle;have hi:=hi _ (jH hb);obtain⟨cs,tail,q1,q2,q3,q4⟩:=H.obj b _ _ hb hs;have hget:L[i]?=some L[i]:=bF hi;obtain⟨d,p1,p2⟩:=aY.get (fun x c=>Cs.length) q2 hget;have hd:=Cs.length p1;have hcs:=aY.length (fun x c=>Cs.length) q2;have hiz:i*τ.size+τ.size<=cs.length:=by rw[hcs];have:=UV τ.size (show i+1<=L.length by omega);rw[So]at this;omega
  have RD:bm X (nA τ (L.getD i τ.zero)) d:=by rw[fq,hget];exact uI p1
  have hdd:d=(cs.drop (i*τ.size)).take τ.size:=by
   apply aig
   grind
  have hsplit:cs++tail=cs.take (i*τ.size)++(d++(cs.drop ((i+1)*τ.size)++tail)):=by rw[hdd,So,Nat.one_mul,<-bV,<-bV,<-aGh,bV (cs.take _),FS,FS]
  rw[hsplit]at q1;refine Y3 H hb rfl hs q1 (aY.take (fun x c=>Cs.length) i q2) RD (aY.drop (fun x c=>Cs.length) (i+1) q2) hi hd ?_ q4 hle ho R ht
  grind
 .rename_i τ k L us ty hb;split at e<;>try cases e
  rename_i hz hle ho;split at e<;>try cases e
  rename_i tr ht;simp only[bo,Do]at e;obtain⟨hik,rfl⟩:=e;have hik:=aK hik;subst hik;have hz:=aK hz;subst hz;have hle:=qr hle;obtain⟨x',c',pre,mid,post,tail,e1,q1,q2,q3,q4,q5,q6,q7,q8⟩:=H.obj b _ _ hb hs;cases e1;exact Y3 H hb rfl hs q1 q2 q3 q4 q5 q6 q7 q8 hle ho R ht
def FR(h:Hp)(b i z o:Nat)(vs:List AV):Option (Bool×Hp):=match h.tr.get b with|some (.dA _ _ _ _ _)=>BR h b i z o vs|_=>match Kt vs with|true=>BR h b i z o vs|false=>match Ic h b i z o vs with|some h'=>some (true,h')|none=>none
theorem avB{P:Program}{X:Cx}(H:ab X){h':Hp}{b x c i z o:Nat}{g:Bool}{vs:List AV}{Vs:kw}(e:FR X.h b i z o vs=some (g,h'))(hg:g=true)(hs:X.s b=some (.at x c))
  (hi:∀n,rowOf X.h.tr b=some n->i<n) (R:bm X vs Vs) :
  ∃w',(storeCells ⟨x,i*z+o,none⟩ Vs).run P X.w=.ok () w'/\ab ⟨X.s,h',w',X.A⟩/\aH X ⟨X.s,h',w',X.A⟩:=by
 unfold FR at e;split at e
 .exact Y5 H e hg hs hi R
 .split at e
  .exact Y5 H e hg hs hi R
  .split at e<;>cases e;rename_i hp;exact asu H hp hs hi R
