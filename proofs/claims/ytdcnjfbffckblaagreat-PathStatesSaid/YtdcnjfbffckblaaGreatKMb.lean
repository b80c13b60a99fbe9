import Derived.Test.YtdcnjfbffckblaaGreatKMa
import Derived.IntWalk
set_option linter.unusedVariables false
set_option linter.unusedSimpArgs false
set_option linter.unnecessarySimpa false
section
namespace Go.Proofs.YtdcnjfbffckblaaGreat.Ev
open Go Go.RowKit
theorem ab.move{s:Sg}{h:Hp}{w:World}(H:ab s h w){b f g:Nat}{o o':aC}{ob:Obj}{tr₁ tr₂:Tr aC}(hb:h.tr.get b=some o)
  (ht₁:Tr.set f h.tr b none=some tr₁) (ht₂:Tr.set g tr₁ h.next (some o')=some tr₂) (ho:bG (aT s h.next (s b)) h.next o' (some ob)) (hw:gp h.next o'=true) :
  ab (aT s h.next (s b)) ⟨tr₂,h.next+1⟩ (bJ w (s b).1 ob)/\Ext s h w (aT s h.next (s b)) ⟨tr₂,h.next+1⟩ (bJ w (s b).1 ob):=by
 have hg₁:=Tr.bz f h.tr b none tr₁ ht₁;have hg₂:=Tr.bz g tr₁ h.next (some o') tr₂ ht₂;have ba:=H.bound hb;have hbn:=H.lt b o hb;have old:∀j,j<h.next->aT s h.next (s b) j=s j:=fun j hj=>pE s _ _ hj;have alt:∀j o₁,tr₂.get j=some o₁->(j=h.next/\o₁=o')\/(h.tr.get j=some o₁/\j≠b/\j<h.next):=by
  intro j o₁ hj;rw[hg₂ j]at hj;by_cases q:j=h.next
  .rw[if_pos q]at hj;exact .inl ⟨q,by simpa using hj.symm⟩
  .rw[if_neg q,hg₁ j]at hj;by_cases r:j=b
   .rw[if_pos r]at hj;cases hj
   .rw[if_neg r]at hj;exact .inr ⟨hj,r,H.lt j o₁ hj⟩
 refine⟨⟨?_,?_,?_,?_⟩,⟨rfl,rfl,rfl,by rw[fX];exact Nat.le_refl _,old,by simp,?_,?_,fun j o₁ hj hlt=>by
  rcases alt j o₁ hj with⟨rfl,rfl⟩|⟨hj,_,_⟩
  .omega
  .exact⟨o₁,hj⟩⟩⟩
 .intro j o₁ hj;rcases alt j o₁ hj with⟨rfl,rfl⟩|⟨hj,hne,hlt⟩
  .rw[cd,dw,if_pos ⟨rfl,ba⟩];exact ho
  .rw[old j hlt,dw,if_neg (fun r=>hne (H.inj j b o₁ o hj hb r.1))];exact(H.obj j o₁ hj).congr old hlt (H.eX j o₁ hj)
 .intro j k o₁ o₂ hj hk e;rcases alt j o₁ hj with⟨rfl,rfl⟩|⟨hj,hne,hlt⟩<;>rcases alt k o₂ hk with⟨rfl,rfl⟩|⟨hk,hne',hlt'⟩
  .rfl
  .rw[cd,old k hlt']at e;exact absurd (H.inj k b o₂ o hk hb e.symm) hne'
  .rw[cd,old j hlt]at e;exact absurd (H.inj j b o₁ o hj hb e) hne
  .rw[old j hlt,old k hlt']at e;exact H.inj j k o₁ o₂ hj hk e
 .intro j o₁ hj;rcases alt j o₁ hj with⟨rfl,rfl⟩|⟨hj,hne,hlt⟩
  .simp
  .simp only;omega
 .intro j o₁ hj;rcases alt j o₁ hj with⟨rfl,rfl⟩|⟨hj,hne,hlt⟩
  .exact mi (by simp) hw
  .exact mi (by simp) (H.eX j o₁ hj)
 .intro k hk hn;rw[dw,if_neg (fun r=>hn b o hb r.1.symm)]
 .intro j o₁ hj;rcases alt j o₁ hj with⟨rfl,rfl⟩|⟨hj,hne,hlt⟩
  .exact .inl ⟨b,o,hb,by rw[cd]⟩
  .exact .inl ⟨j,o₁,hj,by rw[old j hlt]⟩
def jD(h:Hp)(sz:Nat):AV->Option (Nat×List AV)
 |.av=>some (0,[])|.slice b off n _ _=>match h.tr.get b with
  |some (.cells l _ _)=>match Nat.ble (off+n*sz) l.length with|true=>some (n,takeN (n*sz) (c9 off l))|false=>none
  |_=>none
 |_=>none
theorem lg{P:Program}{h:Hp}{sz:Nat}{x:AV}{n:Nat}{l:List AV}(e:jD h sz x=some (n,l)){s:Sg}{w:World}(H:ab s h w) :
  (Builtin.lenOf (ae s x)).run P w=.ok n w/\(Builtin.firstCells sz n (ae s x)).run P w=.ok (aD s l).toArray w/\cf h.next l=true/\l.length=n*sz:=by
 unfold jD at e;split at e
 .simp at e;obtain⟨rfl,rfl⟩:=e;simp[ae,Builtin.lenOf,Builtin.firstCells,aD,cf]
 .rename_i b off n' u c;split at e<;>try cases e
  rename_i cs ty op hb;split at e<;>try cases e
  rename_i hl;have hl:=Nat.le_of_ble_eq_true hl;obtain⟨tail,hw,_,_⟩:=H.cells hb;have hL:=dY s cs;have hws:=H.eX _ _ hb;refine⟨by simp[ae,Builtin.lenOf],?_,yy (GD hws),by simp[dH,dQ];omega⟩;simp only[ae,Builtin.firstCells,loadCells];rw[run_loadCells hw _ 0 #[] (by simp;omega)];congr 2;simp only[Nat.add_zero,dH,dQ,mh,nQ,List.toList_toArray,List.nil_append];rw[List.drop_append_of_le_length (by omega),List.take_append_of_le_length (by simp;omega)]
 .cases e
theorem J8(m:Nat):∀(r c:Nat),c<=2*m+192->Builtin.growBy m r c<=2*m+192
 |0,c,h=>by simpa[Builtin.growBy]using h|r+1,c,h=>by
  simp only[Builtin.growBy];split
  .exact h
  .exact J8 m r _ (by omega)
theorem py{need old:Nat}(h:old<need):Builtin.nextslicecap need old<=2*need+192:=by
 unfold Builtin.nextslicecap;split
 .omega
 .split
  .omega
  .exact J8 _ _ _ (by omega)
theorem I6(need old:Nat)(el:TypeId)(t:Nat)(h:need<=1099511627776):(Question.appendCap need old el).cut t<=9223372036854775807:=by have:=Nat.mod_lt t (show 0<2^63-need by omega);show need+t % (2^63-need)<=_;omega
theorem sQ{P:Program}{t0 t1 ty:TypeId}{ts:Array TypeId}{elem:TypeId}{d1:TypeDesc}{sz n:Nat}{z:AV}{s:Sg}{info:TypeInfo}{base:Option Addr}{sLen sCap:Nat}{X:Value}{old new:List AV}{w:World}
  (ht0:ts[0]?=some t0) (ht1:ts[1]?=some t1) (hu0:P.underlying t0=some (.slice elem)) (hu1:P.underlying t1=some d1) (hd:∀k,d1≠.int k) (hs:bY P elem=some sz) (hz:dx P elem=some z)
  (hi:P.info? elem=some info) (hzl:(bK z).length=sz) (hn:(Builtin.lenOf X).run P w=.ok n w) (hnot:sCap<sLen+n) (hb:(2*(sLen+n)+192)*info.bytes<=281474976710656) (hne:sLen+n<=1099511627776)
  (hold:∀d,(Builtin.firstCells sz sLen (.slice base sLen sCap)).run P { w with drawn:=d }=.ok (aD s old).toArray { w with drawn:=d })
  (hnew:∀d,(Builtin.firstCells sz n X).run P { w with drawn:=d }=.ok (aD s new).toArray { w with drawn:=d }) :
  ∃c,sLen+n<=c/\c<=9223372036854775807/\∃d,∃rest:List Value,rest.length=(c-(sLen+n))*sz/\(Builtin.append_ ts ty #[.slice base sLen sCap,X]).run P w =
   .ok (.slice (some ⟨w.heap.size,0,none⟩) (sLen+n) c) { w with drawn:=d,heap:=w.heap.push (.cells (aD s old++aD s new++rest).toArray elem (0,0)) }:=by
 refine⟨(Question.appendCap (sLen+n) sCap elem).cut (w.tape w.drawn (.appendCap (sLen+n) sCap elem)),by simp[Question.cut],I6 _ _ _ _ (by omega),w.drawn+1,?_⟩;have hz0:=fc hz s;have hzs:(ae s z).cells.size=sz:=by rw[<-Array.length_toList,iH,dY,hzl]
 generalize hc:(Question.appendCap (sLen+n) sCap elem).cut (w.tape w.drawn (.appendCap (sLen+n) sCap elem))=c;refine⟨(Builtin.zeroCells (ae s z).cells (c-(sLen+n))).toList,by simp[Builtin.zeroCells,hzs],?_⟩;have hbig:¬(Builtin.nextslicecap (sLen+n) sCap*info.bytes > 2^48):=by have:=Nat.mul_le_mul_right info.bytes (py hnot);show ¬(281474976710656<_);omega
 have hk:(match d1 with|.int _=>true|_=>false)=false:=by cases d1<;>first|rfl|exact absurd rfl (hd _)
 have hmax:¬(((sLen+n:Nat):Int) > IntKind.i64.max/\(false=true\/info.bytes=0)):=by
  intro q;have h1:=q.1;have:IntKind.i64.max=9223372036854775807:=by decide
  rw[this]at h1;omega
 unfold Builtin.append_;simp only[ht0,ht1,List.getElem?_toArray,List.getElem?_cons_zero,List.getElem?_cons_succ,Sem.run_bind,run_underlying hu0,run_underlying hu1,Result.andThen_ok,run_sizeOf hs,Sem.run_pure,run_typeInfo hi];rw[if_neg Bool.false_ne_true];simp only[Sem.run_bind,hn,Result.andThen_ok];rw[if_neg (by omega:¬sLen+n<=sCap)];simp only[Sem.run_bind,run_typeInfo hi,Result.andThen_ok];rw[if_neg hmax];simp only[Sem.run_bind,run_typeInfo hi,Result.andThen_ok];rw[if_neg hbig];simp only[Sem.run_bind,run_choose,Question.forced,Bool.false_eq_true,if_false,Result.andThen_ok,run_typeInfo hi,run_askRoom,hold,hc,Bool.not_false,if_true,hnew,hz0,newRow,run_newObj,Sem.run_pure];congr 3;apply congrArg (fun x=>Obj.cells x elem (0,0));apply Array.toList_inj.1;simp
theorem yJ{P:Program}{t0 t1 ty:TypeId}{ts:Array TypeId}{elem:TypeId}{d1:TypeDesc}{sz n:Nat}{s:Sg}{b off:Nat}{sLen sCap:Nat}{X:Value}{new:List AV}{w w':World}
  (ht0:ts[0]?=some t0) (ht1:ts[1]?=some t1) (hu0:P.underlying t0=some (.slice elem)) (hu1:P.underlying t1=some d1) (hd:∀k,d1≠.int k) (hs:bY P elem=some sz)
  (hn:(Builtin.lenOf X).run P w=.ok n w) (hfit:sLen+n<=sCap) (hnew:(Builtin.firstCells sz n X).run P w=.ok (aD s new).toArray w)
  (hst:(storeCells ⟨b,off+sLen*sz,none⟩ (aD s new)).run P w=.ok () w') :
  (Builtin.append_ ts ty #[.slice (some ⟨b,off,none⟩) sLen sCap,X]).run P w=.ok (.slice (some ⟨b,off,none⟩) (sLen+n) sCap) w':=by
 have hk:(match d1 with|.int _=>true|_=>false)=false:=by cases d1<;>first|rfl|exact absurd rfl (hd _)
 unfold Builtin.append_;simp only[ht0,ht1,List.getElem?_toArray,List.getElem?_cons_zero,List.getElem?_cons_succ,Sem.run_bind,run_underlying hu0,run_underlying hu1,Result.andThen_ok,run_sizeOf hs,Sem.run_pure];rw[if_neg Bool.false_ne_true];simp only[Sem.run_bind,hn,Result.andThen_ok];rw[if_pos hfit];simp only[Sem.run_bind,Bool.not_false,if_true,hnew,Result.andThen_ok,cX,hst,Sem.run_pure]
theorem Gc{P:Program}{t0 t1 ty:TypeId}{ts:Array TypeId}{elem:TypeId}{d1:TypeDesc}{sz:Nat}{s:Sg}{X:Value}{w:World}
  (ht0:ts[0]?=some t0) (ht1:ts[1]?=some t1) (hu0:P.underlying t0=some (.slice elem)) (hu1:P.underlying t1=some d1) (hd:∀k,d1≠.int k) (hs:bY P elem=some sz)
  (hn:(Builtin.lenOf X).run P w=.ok 0 w) {l:List AV}(hnew:(Builtin.firstCells sz 0 X).run P w=.ok (aD s l).toArray w) :
  (Builtin.append_ ts ty #[.slice none 0 0,X]).run P w=.ok (.slice none 0 0) w:=by
 have hk:(match d1 with|.int _=>true|_=>false)=false:=by cases d1<;>first|rfl|exact absurd rfl (hd _)
 unfold Builtin.append_;simp only[ht0,ht1,List.getElem?_toArray,List.getElem?_cons_zero,List.getElem?_cons_succ,Sem.run_bind,run_underlying hu0,run_underlying hu1,Result.andThen_ok,run_sizeOf hs,Sem.run_pure];rw[if_neg Bool.false_ne_true];simp only[Sem.run_bind,hn,Result.andThen_ok];rw[if_pos (by omega)];simp only[Sem.run_bind,Bool.not_false,if_true,hnew,Result.andThen_ok,Sem.run_pure]
theorem Qu{z:AV}{s:Sg}{sz n:Nat}(hzl:(bK z).length=sz):Builtin.zeroCells (ae s z).cells n=(aD s (rep n (bK z))).toArray:=by unfold Builtin.zeroCells;refine GG s _ n _ _ (iH s z) ?_;rw[<-Array.length_toList,iH,dY]
theorem Xi{P:Program}{t0 t1 ty:TypeId}{ts:Array TypeId}{elem:TypeId}{ki kx:IntKind}{xi:Int}{sz n:Nat}{z:AV}{s:Sg}{info:TypeInfo}{base:Option Addr}{sLen sCap:Nat}{old:List AV}{w:World}
  (ht0:ts[0]?=some t0) (ht1:ts[1]?=some t1) (hu0:P.underlying t0=some (.slice elem)) (hu1:P.underlying t1=some (.int ki)) (hs:bY P elem=some sz) (hz:dx P elem=some z)
  (hi:P.info? elem=some info) (hzl:(bK z).length=sz) (hpos:0<sz) (hn:IntKind.i64.wrap xi=(n:Int)) (hnb:n*info.bytes<=281474976710656) (hnot:sCap<sLen+n) (hb:(2*(sLen+n)+192)*info.bytes<=281474976710656) (hne:sLen+n<=1099511627776)
  (hold:∀d,(Builtin.firstCells sz sLen (.slice base sLen sCap)).run P { w with drawn:=d }=.ok (aD s old).toArray { w with drawn:=d }) :
  ∃c,sLen+n<=c/\c<=9223372036854775807/\∃d,∃rest:List Value,rest.length=(c-(sLen+n))*sz/\(Builtin.append_ ts ty #[.slice base sLen sCap,.int kx xi]).run P w =
   .ok (.slice (some ⟨w.heap.size,0,none⟩) (sLen+n) c) { w with drawn:=d,heap:=w.heap.push (.cells (aD s old++aD s (rep n (bK z))++rest).toArray elem (0,0)) }:=by
 refine⟨(Question.appendCap (sLen+n) sCap elem).cut (w.tape w.drawn (.appendCap (sLen+n) sCap elem)),by simp[Question.cut],I6 _ _ _ _ (by omega),w.drawn+1,?_⟩;have hz0:=fc hz s;have hzs:(ae s z).cells.size=sz:=by rw[<-Array.length_toList,iH,dY,hzl]
 generalize hc:(Question.appendCap (sLen+n) sCap elem).cut (w.tape w.drawn (.appendCap (sLen+n) sCap elem))=c;refine⟨(Builtin.zeroCells (ae s z).cells (c-(sLen+n))).toList,by simp[Builtin.zeroCells,hzs],?_⟩;have hbig:¬(Builtin.nextslicecap (sLen+n) sCap*info.bytes > 2^48):=by have:=Nat.mul_le_mul_right info.bytes (py hnot);show ¬(281474976710656<_);omega
 have hmax:¬(((sLen+n:Nat):Int) > IntKind.i64.max/\(True\/info.bytes=0)):=by
  intro q;have h1:=q.1;have:IntKind.i64.max=9223372036854775807:=by decide
  rw[this]at h1;omega
 have hlow:¬((n:Int)<0):=by omega
 have hhigh:¬((n:Int)*(info.bytes:Int) > 2^48):=by have hm:(n:Int)*(info.bytes:Int)=((n*info.bytes:Nat):Int):=(Int.natCast_mul _ _).symm;rw[hm];show ¬((281474976710656:Int)<_);omega
 have hsz:n≠0->¬(n*sz=0):=fun h q=>by rcases Nat.mul_eq_zero.1 q with r|r<;>omega
 unfold Builtin.append_;simp only[ht0,ht1,List.getElem?_toArray,List.getElem?_cons_zero,List.getElem?_cons_succ,Sem.run_bind,run_underlying hu0,run_underlying hu1,Result.andThen_ok,run_sizeOf hs,Sem.run_pure,run_typeInfo hi];rw[if_pos trivial];simp only[asInt,asIntOf,Sem.run_bind,Sem.run_pure,Result.andThen_ok,hn];rw[if_neg hlow];simp only[Sem.run_bind,run_typeInfo hi,Result.andThen_ok];rw[if_neg hhigh];simp only[Sem.run_bind,Sem.run_pure,Result.andThen_ok,Int.toNat_natCast];rw[if_neg (by omega:¬sLen+n<=sCap)];simp only[Sem.run_bind,run_typeInfo hi,Result.andThen_ok];rw[if_neg hmax];simp only[Sem.run_bind,run_typeInfo hi,Result.andThen_ok];rw[if_neg hbig];simp only[Sem.run_bind,run_choose,Question.forced,Bool.false_eq_true,if_false,Result.andThen_ok,run_typeInfo hi,run_askRoom,hold,hc,Bool.not_true];by_cases hn0:n*sz=0
 .have hn1:n=0:=by rcases Nat.mul_eq_zero.1 hn0 with r|r<;>omega
  subst hn1;rw[if_pos hn0];simp only[Sem.run_pure,Result.andThen_ok,hz0,Sem.run_bind,newRow,run_newObj];congr 3;apply congrArg (fun x=>Obj.cells x elem (0,0));apply Array.toList_inj.1;simp[rep,aD]
 .rw[if_neg hn0];simp only[Sem.run_bind,Sem.run_pure,Result.andThen_ok,hz0,newRow,run_newObj];congr 3;apply congrArg (fun x=>Obj.cells x elem (0,0));apply Array.toList_inj.1;rw[Qu (n:=n) hzl];simp
theorem Xj{P:Program}{t0 t1 ty:TypeId}{ts:Array TypeId}{elem:TypeId}{ki kx:IntKind}{xi:Int}{sz n:Nat}{z:AV}{s:Sg}{info:TypeInfo}{b off:Nat}{sLen sCap:Nat}{w w':World}
  (ht0:ts[0]?=some t0) (ht1:ts[1]?=some t1) (hu0:P.underlying t0=some (.slice elem)) (hu1:P.underlying t1=some (.int ki)) (hs:bY P elem=some sz) (hz:dx P elem=some z)
  (hi:P.info? elem=some info) (hzl:(bK z).length=sz) (hpos:0<sz) (hn:IntKind.i64.wrap xi=(n:Int)) (hnb:n*info.bytes<=281474976710656) (hfit:sLen+n<=sCap)
  (hst:(storeCells ⟨b,off+sLen*sz,none⟩ (aD s (rep n (bK z)))).run P w=.ok () w') :
  (Builtin.append_ ts ty #[.slice (some ⟨b,off,none⟩) sLen sCap,.int kx xi]).run P w=.ok (.slice (some ⟨b,off,none⟩) (sLen+n) sCap) w':=by
 have hz0:=fc hz s;have hlow:¬((n:Int)<0):=by omega
 have hhigh:¬((n:Int)*(info.bytes:Int) > 2^48):=by have hm:(n:Int)*(info.bytes:Int)=((n*info.bytes:Nat):Int):=(Int.natCast_mul _ _).symm;rw[hm];show ¬((281474976710656:Int)<_);omega
 unfold Builtin.append_;simp only[ht0,ht1,List.getElem?_toArray,List.getElem?_cons_zero,List.getElem?_cons_succ,Sem.run_bind,run_underlying hu0,run_underlying hu1,Result.andThen_ok,run_sizeOf hs,Sem.run_pure,run_typeInfo hi];rw[if_pos trivial];simp only[asInt,asIntOf,Sem.run_bind,Sem.run_pure,Result.andThen_ok,hn];rw[if_neg hlow];simp only[Sem.run_bind,run_typeInfo hi,Result.andThen_ok];rw[if_neg hhigh];simp only[Sem.run_bind,Sem.run_pure,Result.andThen_ok,Int.toNat_natCast];rw[if_pos hfit];simp only[Sem.run_bind,Bool.not_true,Bool.false_eq_true,if_false];by_cases hn0:n*sz=0
 .have hn1:n=0:=by rcases Nat.mul_eq_zero.1 hn0 with r|r<;>omega
  subst hn1;rw[if_pos hn0];simp only[rep,aD]at hst;simp only[Sem.run_pure,Result.andThen_ok,cX,Sem.run_bind,hst]
 .rw[if_neg hn0];simp only[Sem.run_bind,Sem.run_pure,Result.andThen_ok,hz0,Qu (n:=n) hzl,cX,hst]
def I5(h:Hp)(d:TypeDesc)(sz by_:Nat)(z x:AV):Option (Nat×List AV):=match d with
 |.int _=>match x with
  |.int _ xi=>match IntKind.i64.wrap xi with
   |.ofNat n=>match Nat.ble (n*by_) 281474976710656 with|true=>some (n,rep n (bK z))|false=>none
   |.negSucc _=>none
  |_=>none
 |_=>jD h sz x
def uz:TypeDesc->Bool|.int _=>false|_=>true
def my(h:Hp)(elem sz by_ need:Nat)(l:List AV):Option (AV×Hp):=match Nat.ble ((2*need+192)*by_) 281474976710656,Nat.ble need 1099511627776 with
 |true,true=>match Tr.set FT h.tr h.next (some (.cells l elem (some sz)))with|some tr=>some (.slice h.next 0 need true 0,⟨tr,h.next+1⟩)|none=>none
 |_,_=>none
def mm(P:Program)(h:Hp)(ts:Array TypeId)(su x:AV):Option (AV×Hp):=match nth ts.toList 0,nth ts.toList 1 with
 |some t0,some t1=>match P.underlying t0,P.underlying t1 with
  |some (.slice elem),some d1=>match bY P elem,dx P elem,fe P elem with
   |some sz,some z,some by_=>match Nat.beq (bK z).length sz,Nat.blt 0 sz,I5 h d1 sz by_ z x with
    |true,true,some (n,new)=>match su with
     |.av=>match n,uz d1 with|0,true=>some (.av,h)|0,false=>none|n+1,_=>my h elem sz by_ (n+1) new
     |.slice b off len false c=>match Nat.ble (len+n) c with
      |true=>match lD h b (off+len*sz) new with|some h'=>some (.slice b off (len+n) false c,h')|none=>none
      |false=>match jD h sz (.slice b off len false c)with|some (_,old)=>my h elem sz by_ (len+n) (old++new)|none=>none
     |.slice b 0 len true 0=>match h.tr.get b with
      |some (.cells l ty (some z'))=>match Nat.beq z' sz,Nat.beq ty elem,Nat.ble (len*sz) l.length,gU new,Nat.ble ((2*(len+n)+192)*by_) 281474976710656,Nat.ble (len+n) 1099511627776 with
       |true,true,true,true,true,true=>match Tr.set FT h.tr b none with
        |some tr=>match Tr.set FT tr h.next (some (.cells (takeN (len*sz) l++new) elem (some sz)))with|some tr=>some (.slice h.next 0 (len+n) true 0,⟨tr,h.next+1⟩)|none=>none
        |none=>none
       |_,_,_,_,_,_=>none
      |_=>none
     |_=>none
    |_,_,_=>none
   |_,_,_=>none
  |_,_=>none
 |_,_=>none
theorem ab.drew{s:Sg}{h:Hp}{w:World}(H:ab s h w)(d:Nat):ab s h { w with drawn:=d }:=⟨H.obj,H.inj,H.lt,H.eX⟩
theorem Gl{h h':Hp}{elem sz by_ need c d:Nat}{l:List AV}{v:AV}(e:my h elem sz by_ need l=some (v,h')){s:Sg}{w:World}(H:ab s h w){rest:List Value}
  (hl:l.length=need*sz) (hc:need<=c) (hcm:c<=9223372036854775807) (hr:rest.length=(c-need)*sz) (hw:cf h.next l=true) :
  ab (aT s h.next (w.heap.size,c)) h' { w with drawn:=d,heap:=w.heap.push (.cells (aD s l++rest).toArray elem (0,0)) } /\
  Ext s h w (aT s h.next (w.heap.size,c)) h' { w with drawn:=d,heap:=w.heap.push (.cells (aD s l++rest).toArray elem (0,0)) } /\
  ae (aT s h.next (w.heap.size,c)) v=.slice (some ⟨w.heap.size,0,none⟩) need c/\ws h'.next v=true:=by
 unfold my at e;split at e<;>try cases e
 split at e<;>try cases e
 rename_i tr ht;have hn:=(H.drew d).new (c:=c) (o':=.cells l elem (some sz)) (ob:=.cells (aD s l++rest).toArray elem (0,0)) (tr':=tr) (f:=FT) (by
  refine⟨rest,?_,?_,?_⟩
  .rw[Kj hw]
  .rw[cd,hl,hr,<-Nat.add_mul];congr 1;omega
  .rw[cd];exact hcm) (mi (n:=h.next) (by simp) hw) ht
 exact⟨hn.1,(Ext.drew s h w d).trans hn.2,by simp[ae,cd],by simp[ws]⟩
theorem yh{P:Program}{h h':Hp}{ts:Array TypeId}{ty:TypeId}{su x v:AV}(e:mm P h ts su x=some (v,h')){s:Sg}{w:World}(H:ab s h w)(hws:ws h.next su=true) :
  ∃s' w',(Builtin.append_ ts ty #[ae s su,ae s x]).run P w=.ok (ae s' v) w'/\ab s' h' w'/\Ext s h w s' h' w'/\ws h'.next v=true:=by
 unfold mm at e;split at e<;>try cases e
 rename_i t0 t1 ht0 ht1;have ht0:ts[0]?=some t0:=by rw[bI]at ht0;simpa using ht0
 have ht1:ts[1]?=some t1:=by rw[bI]at ht1;simpa using ht1
 split at e<;>try cases e
 rename_i elem d1 hu0 hu1;split at e<;>try cases e
 rename_i sz z by_ hs hz hb;obtain⟨info,hi,rfl⟩:∃info,P.info? elem=some info/\info.bytes=by_:=by unfold fe at hb;cases hi:P.info? elem<;>simp[hi]at hb;exact⟨_,rfl,hb⟩
 split at e<;>try cases e
 rename_i n new hzl hpos hsrc;have hzl:=aA hzl;rw[Nat.blt_eq]at hpos;have src:cf h.next new=true/\new.length=n*sz /\
   (∀(base:Option Addr) (sLen sCap:Nat) (old:List AV),sCap<sLen+n->(2*(sLen+n)+192)*info.bytes<=281474976710656->sLen+n<=1099511627776 ->
    (∀d,(Builtin.firstCells sz sLen (.slice base sLen sCap)).run P { w with drawn:=d }=.ok (aD s old).toArray { w with drawn:=d }) ->
    ∃c,sLen+n<=c/\c<=9223372036854775807/\∃d,∃rest:List Value,rest.length=(c-(sLen+n))*sz/\(Builtin.append_ ts ty #[.slice base sLen sCap,ae s x]).run P w =
     .ok (.slice (some ⟨w.heap.size,0,none⟩) (sLen+n) c) { w with drawn:=d,heap:=w.heap.push (.cells (aD s old++aD s new++rest).toArray elem (0,0)) }) /\
   (∀(b off sLen sCap:Nat) (w':World),sLen+n<=sCap->(storeCells ⟨b,off+sLen*sz,none⟩ (aD s new)).run P w=.ok () w' ->
    (Builtin.append_ ts ty #[.slice (some ⟨b,off,none⟩) sLen sCap,ae s x]).run P w=.ok (.slice (some ⟨b,off,none⟩) (sLen+n) sCap) w') /\
   (n=0->(∀k,d1≠.int k)->(Builtin.append_ ts ty #[.slice none 0 0,ae s x]).run P w=.ok (.slice none 0 0) w):=by
  unfold I5 at hsrc;split at hsrc
  .rename_i ki;split at hsrc<;>try cases hsrc
   rename_i kx xi;split at hsrc<;>try cases hsrc
   rename_i n' hwr;split at hsrc<;>try cases hsrc
   rename_i hnb;have hnb:=Nat.le_of_ble_eq_true hnb;refine⟨AM (nO (yd hz _)) _,by rw[yn,hzl],?_,?_,?_⟩
   .intro base sLen sCap old h1 h2 h3 h4;exact Xi ht0 ht1 hu0 hu1 hs hz hi hzl hpos hwr hnb h1 h2 h3 h4
   .intro b off sLen sCap w' h1 h2;exact Xj ht0 ht1 hu0 hu1 hs hz hi hzl hpos hwr hnb h1 h2
   .intro _ h;exact absurd rfl (h ki)
  .rename_i hni;have hd:∀k,d1≠.int k:=fun k q=>hni k q;obtain⟨hlen,hfirst,hneww,hnewl⟩:=lg (P:=P) hsrc H;have hfirstd:∀d,(Builtin.firstCells sz n (ae s x)).run P { w with drawn:=d }=.ok (aD s new).toArray { w with drawn:=d }:=fun d=>(lg (P:=P) hsrc (H.drew d)).2.1;refine⟨hneww,hnewl,?_,?_,?_⟩
   .intro base sLen sCap old h1 h2 h3 h4;exact sQ ht0 ht1 hu0 hu1 hd hs hz hi hzl hlen h1 h2 h3 h4 hfirstd
   .intro b off sLen sCap w' h1 h2;exact yJ ht0 ht1 hu0 hu1 hd hs hlen h1 hfirst h2
   .intro h0 _;subst h0;exact Gc ht0 ht1 hu0 hu1 hd hs hlen hfirst
 obtain⟨hneww,hnewl,Grow,Fits,Nil⟩:=src;split at e
 .split at e
  .rename_i hni;simp only[aX,Prod.mk.injEq]at e;obtain⟨rfl,rfl⟩:=e;exact⟨s,w,Nil rfl (fun k q=>by subst q;cases hni),H,Ext.refl _ _ _,rfl⟩
  .cases e
  .rename_i n _ _;have hg:=e;unfold my at hg;split at hg<;>try cases hg
   rename_i q1 q2;have q1:=Nat.le_of_ble_eq_true q1;have q2:=Nat.le_of_ble_eq_true q2;obtain⟨c,hc,hcm,d,rest,hr,hrun⟩:=Grow none 0 0 [] (by omega) (by simpa using q1) (by omega) (fun d=>by simp[Builtin.firstCells,aD]);simp only[Nat.zero_add]at hc hr hrun;obtain⟨h1,h2,h3,h4⟩:=Gl (d:=d) (rest:=rest) e H hnewl hc hcm hr hneww;refine⟨_,_,?_,h1,h2,h4⟩;rw[h3];simpa[ae,aD]using hrun
 .rename_i b off len c;split at e
  .rename_i hf;have hf:=Nat.le_of_ble_eq_true hf;split at e<;>try cases e
   rename_i hw;obtain⟨w',hr,hH,hE⟩:=sG (P:=P) hw H hneww;refine⟨s,w',?_,hH,hE,lx hE.next _ (by simpa[ws]using hws)⟩;exact Fits _ _ _ _ _ hf hr
  .rename_i hf;have hf:¬len+n<=c:=fun q=>by rw[Nat.ble_eq_true_of_le q]at hf;cases hf
   split at e<;>try cases e
   rename_i k old hold;obtain⟨hl2,hf2,ho2,hol⟩:=lg (P:=P) hold H;have hk:k=len:=by simp only[ae,Builtin.lenOf,Sem.run_pure,Result.ok.injEq,and_true]at hl2;exact hl2.symm
   subst hk;have hg:=e;unfold my at hg;split at hg<;>try cases hg
   rename_i q1 q2;have q1:=Nat.le_of_ble_eq_true q1;have q2:=Nat.le_of_ble_eq_true q2;obtain⟨cc,hc,hcm,d,rest,hr,hrun⟩:=Grow (some ⟨(s b).1,off,none⟩) k c old (by omega) (by simpa using q1) (by omega) (fun d=>(lg (P:=P) hold (H.drew d)).2.1);obtain⟨h1,h2,h3,h4⟩:=Gl (d:=d) (rest:=rest) e H (by rw[bA,hol,hnewl,Nat.add_mul]) hc hcm hr (ln ho2 hneww);refine⟨_,_,?_,h1,h2,h4⟩;rw[h3];simpa[ae,nI]using hrun
 .rename_i b len;split at e<;>try cases e
  rename_i l ty' z' hgb;split at e<;>try cases e
  rename_i q1 q2 q3 q4 q5 q6;have q1:=aA q1;have q2:=aA q2;have q3:=Nat.le_of_ble_eq_true q3;have q5:=Nat.le_of_ble_eq_true q5;have q6:=Nat.le_of_ble_eq_true q6;subst q1 q2;split at e<;>try cases e
  rename_i tr₁ ht₁;split at e<;>try cases e
  rename_i tr₂ ht₂;obtain⟨tail,hw,_,htl⟩:=H.cells hgb;obtain⟨htl,hcs⟩:=htl _ rfl;have hL:=dY s l;have hN:=dY s new;have hlw:cf h.next l=true:=H.eX _ _ hgb;have hall:cf h.next (takeN (len*z') l++new)=true:=ln (yy hlw) hneww;by_cases hfit:len+n<=(s b).2
  .have hsz:(len+n)*z'<=(s b).2*z':=Nat.mul_le_mul_right _ hfit;rw[Nat.add_mul]at hsz;obtain⟨c',hc',hr⟩:=gX (P:=P) (off:=len*z') (aD s new) 0 w _ hw (by simp;omega) (by intro v hv;rw[nT]at hv;obtain⟨y,hy,rfl⟩:=List.mem_map.1 hv;exact KF ((KG new).1 q4 y hy));have hmv:=H.move (ob:=.cells c' ty' (0,0)) (o':=.cells (takeN (len*z') l++new) ty' (some z')) hgb ht₁ ht₂ (by
    refine⟨c'.toList.drop ((len+n)*z'),?_,?_,by rw[cd];exact hcs⟩
    .rw[Kj hall];congr 2;apply Array.toList_inj.1;simp only[List.toList_toArray];rw[hc',nI,dH,mh];simp only[Nat.add_zero];rw[List.take_append_of_le_length (by omega),dn]
     conv=>rhs;rw[dn]
     congr 2;rw[Nat.add_mul,<-dn];rw[show len*z'+n*z'=((aD s l).take (len*z')++aD s new).length by simp;omega];rw[List.drop_left]
    .have h1:c'.toList.length=(s b).2*z':=by rw[hc'];simp;omega
     rw[cd,List.length_drop,h1,bA,dH,df,hnewl,Nat.min_eq_left q3,Nat.add_mul];omega) hall
   refine⟨_,_,?_,hmv.1,hmv.2,by simp[ws]⟩;have:=Fits (s b).1 0 len ((s b).2-0) (bJ w (s b).1 (.cells c' ty' (0,0))) (by omega) (by simpa using hr);simpa[ae,cd]using this
  .have hold:jD h z' (.slice b 0 len true 0)=some (len,takeN (len*z') l):=by simp only[jD,hgb];rw[show Nat.ble (0+len*z') l.length=true from Nat.ble_eq_true_of_le (by omega)];simp[c9]
   obtain⟨hl2,hf2,ho2,hol⟩:=lg (P:=P) hold H;obtain⟨cc,hc,hcm,d,rest,hr,hrun⟩:=Grow (some ⟨(s b).1,0,none⟩) len ((s b).2-0) (takeN (len*z') l) (by omega) (by simpa using q5) (by omega) (fun d=>(lg (P:=P) hold (H.drew d)).2.1);have hk:=H.kill ht₁;have he:my ⟨tr₁,h.next⟩ ty' z' info.bytes (len+n) (takeN (len*z') l++new)=some (.slice h.next 0 (len+n) true 0,⟨tr₂,h.next+1⟩):=by unfold my;rw[Nat.ble_eq_true_of_le q5,Nat.ble_eq_true_of_le q6];simp only[ht₂]
   obtain⟨h1,h2,h3,h4⟩:=Gl (d:=d) (rest:=rest) he hk.1 (by rw[bA,hol,hnewl,Nat.add_mul]) hc hcm hr hall;refine⟨_,_,?_,h1,hk.2.trans h2,h4⟩;rw[h3];simpa[ae,nI]using hrun
 .cases e
def mZ(P:Program)(h:Hp)(ts:Array TypeId)(d x:AV):Option (AV×Hp):=match nth ts.toList 0 with
 |some t0=>match P.underlying t0 with
  |some (.slice elem)=>match bY P elem with
   |some sz=>match x with
    |.av=>match d with
     |.av=>some (.int .i64 0,h)|.slice b _ _ _ _=>match h.tr.get b with|some (.cells _ _ _)=>some (.int .i64 0,h)|_=>none
     |_=>none
    |.slice b off m u c=>match d with
     |.slice b2 off2 dLen _ _=>match jD h sz (.slice b off (Nat.min m dLen) u c)with
      |some (n,l)=>match lD h b2 off2 l with|some h'=>some (.int .i64 (n:Int),h')|none=>none
      |none=>none
     |_=>none
    |_=>none
   |none=>none
  |_=>none
 |none=>none
theorem Bj{P:Program}{h h':Hp}{ts:Array TypeId}{ty:TypeId}{d x v:AV}(e:mZ P h ts d x=some (v,h')){s:Sg}{w:World}(H:ab s h w) :
  ∃w',(Builtin.copy_ ts ty #[ae s d,ae s x]).run P w=.ok (ae s v) w'/\ab s h' w'/\Ext s h w s h' w'/\ws h'.next v=true:=by
 unfold mZ at e;split at e<;>try cases e
 rename_i t0 ht0;have ht0:ts[0]?=some t0:=by rw[bI]at ht0;simpa using ht0
 split at e<;>try cases e
 rename_i elem hu;split at e<;>try cases e
 rename_i sz hs;split at e
 .split at e
  .simp only[aX,Prod.mk.injEq]at e;obtain⟨rfl,rfl⟩:=e;refine⟨w,?_,H,Ext.refl _ _ _,rfl⟩;simp[Builtin.copy_,ht0,run_underlying hu,ae,Builtin.lenOf,run_sizeOf hs,Builtin.firstCells,goInt]
  .split at e<;>try cases e
   refine⟨w,?_,H,Ext.refl _ _ _,rfl⟩;simp[Builtin.copy_,ht0,run_underlying hu,ae,Builtin.lenOf,run_sizeOf hs,Builtin.firstCells,goInt,storeCells]
  .cases e
 .rename_i b off m u c;split at e<;>try cases e
  rename_i b2 off2 dLen u2 c2;split at e<;>try cases e
  rename_i n l hsrc;split at e<;>try cases e
  rename_i hw;obtain⟨h1,h2,h3,h4⟩:=lg (P:=P) hsrc H;have hn:n=Nat.min m dLen:=by simp only[ae,Builtin.lenOf,Sem.run_pure,Result.ok.injEq,and_true]at h1;exact h1.symm
  subst hn;obtain⟨w',hr,hH,hE⟩:=sG (P:=P) hw H h3;refine⟨w',?_,hH,hE,rfl⟩;have h2':(Builtin.firstCells sz (Nat.min m dLen) (ae s (.slice b off m u c))).run P w=.ok (aD s l).toArray w:=h2;have hlen:(Builtin.lenOf (ae s (.slice b off m u c))).run P w=.ok m w:=rfl;have hd:ae s (.slice b2 off2 dLen u2 c2)=.slice (some ⟨(s b2).1,off2,none⟩) dLen (match u2 with|true=>(s b2).2-c2|false=>c2):=rfl;simp only[Builtin.copy_,ht0,List.getElem?_toArray,List.getElem?_cons_zero,List.getElem?_cons_succ,Sem.run_bind,run_underlying hu,Result.andThen_ok,hd,hlen,run_sizeOf hs,h2',hr,Sem.run_pure];simp[ae,goInt]
 .cases e
def oE(d:TypeDesc)(k:Value):List (AV×AV×Nat)->Nat->Option (Option (Nat×AV))
 |[],_=>some none|e::es,i=>match fm e.1 with
  |some x=>match Instr.sameNow d k x with|some true=>some (some (i,e.2.1))|some false=>oE d k es (i+1)|none=>none
  |none=>none
theorem Kg{d:TypeDesc}{k:Value}(s:Sg):∀{es:List (AV×AV×Nat)}{i:Nat}{r:Option (Nat×AV)},oE d k es i=some r ->
  Instr.findNow d k (de s es) i=some (r.map fun p=>(p.1,ae s p.2))
 |[],i,r,h=>by simp[oE]at h;subst h;rfl|e::es,i,r,h=>by
  simp only[oE]at h;split at h<;>try cases h
  rename_i x hx;simp only[de,List.map_cons,Instr.findNow,gk hx];split at h
  .rename_i q;simp at h;subst h;simp[q]
  .rename_i q;simp only[q];exact Kg s h
  .cases h
def qw(P:Program)(kt:TypeId)(k:Value):List (AV×AV×Nat)->Nat->Option (Option (Nat×AV))
 |[],_=>some none|e::es,i=>match fm e.1 with
  |some x=>match still P 4000 (Op.equal kt k x)with|some true=>some (some (i,e.2.1))|some false=>qw P kt k es (i+1)|none=>none
  |none=>none
theorem Kf{P:Program}{kt:TypeId}{k:Value}(s:Sg)(w:World):∀{es:List (AV×AV×Nat)}{i:Nat}{r:Option (Nat×AV)},qw P kt k es i=some r ->
  (Instr.findAsking kt k (de s es) i).run P w=.ok (r.map fun p=>(p.1,ae s p.2)) w
 |[],i,r,h=>by simp[qw]at h;subst h;rfl|e::es,i,r,h=>by
  simp only[qw]at h;split at h<;>try cases h
  rename_i x hx;simp only[de,List.map_cons,Instr.findAsking,gk hx];split at h
  .rename_i q;simp at h;subst h;simp[eS q]
  .rename_i q;simp only[Sem.run_bind,eS q,Result.andThen_ok];exact Kf s w h
  .cases h
def pJ(P:Program)(kt:TypeId)(k:Value)(es:List (AV×AV×Nat)):Option (Option (Nat×AV)):=match P.underlying kt with
 |some d=>match oE d k es 0 with
  |some r=>some r|none=>match es with
   |e::_=>match fm e.1 with
    |some x=>match Instr.sameNow d k x with|none=>qw P kt k es 0|some _=>none
    |none=>none
   |[]=>none
 |none=>none
theorem Gy{P:Program}{kt:TypeId}{k:Value}{es:List (AV×AV×Nat)}{r:Option (Nat×AV)}(e:pJ P kt k es=some r)(s:Sg)(w:World) :
  (Instr.findKey kt k (de s es)).run P w=.ok (r.map fun p=>(p.1,ae s p.2)) w:=by
 unfold pJ at e;split at e<;>try cases e
 rename_i d hu;split at e
 .rename_i q hq;simp at e;subst e;simp[Instr.findKey,run_underlying hu,Kg s hq]
 .split at e<;>try cases e
  rename_i e0 es0 hfa;split at e<;>try cases e
  rename_i x hx;split at e<;>try cases e
  rename_i hn;have h0:Instr.findNow d k (de s (e0::es0)) 0=none:=by simp[de,Instr.findNow,gk hx,hn]
  have:=Kf s w e;simp only[Instr.findKey,Sem.run_bind,run_underlying hu,Result.andThen_ok,h0];exact this
def entriesOf(h:Hp):AV->Option (List (AV×AV×Nat))
 |.cE=>some []|.map b=>match h.tr.get b with|some (.map es _)=>some es|_=>none
 |_=>none
def qx{α:Type}:List α->Bool|[]=>true|_=>false
def AB(P:Program)(h:Hp)(t:TypeId)(u k:AV)(ok:Bool):Option AV:=match P.underlying t,entriesOf h u,fm k with
 |some (.map kt et),some es,some kv=>match still P 4000 (Instr.checkKey (qx es) 10000 kt kv),pJ P kt kv es with
  |some _,some r=>match r with
   |some (_,v)=>some (match ok with|true=>.bk [v,.bool true]|false=>v)
   |none=>match dx P et with
    |some z=>some (match ok with|true=>.bk [z,.bool false]|false=>z)
    |none=>none
  |_,_=>none
 |_,_,_=>none
theorem Gw(s:Sg)(es:List (AV×AV×Nat)):(de s es).toArray.isEmpty=qx es:=by cases es<;>simp[de,qx]
theorem V8{P:Program}{h:Hp}{t:TypeId}{u k v:AV}{ok:Bool}(e:AB P h t u k ok=some v){s:Sg}{w:World}(H:ab s h w) :
  (Instr.lookup t (ae s u) (ae s k) ok).run P w=.ok (ae s v) w:=by
 unfold AB at e;split at e<;>try cases e
 rename_i kt et es kv hu he hk;split at e<;>try cases e
 rename_i un r hck hf;have hes:(match ae s u with
  |.map none=>pure #[]|.map (some r)=>do
   let .map es _ <- getObj r|stuck "Lookup: map expected"
   pure es
  |_=>stuck "Lookup: map expected":Sem (Array MapEntry)).run P w=.ok (de s es).toArray w:=by
  unfold entriesOf at he;split at he
  .simp at he;subst he;rfl
  .rename_i b;split at he<;>try cases he
   rename_i c hb;have:=H.obj b _ hb;simp only[bG]at this;simp[ae,getObj,Sem.run,this]
  .cases he
 have hck':(Instr.checkKey (qx es) 10000 kt kv).run P w=.ok un w:=eS hck w;have hf':=Gy hf s w;have key:∀(x:Value) (b:Bool),(match r with|some (_,v)=>(ae s v,true)|none=>(x,false)).1=(match r with|some (_,v)=>ae s v|none=>x):=by intro x b;cases r<;>rfl
 simp only[Instr.lookup,Sem.run_bind,run_underlying hu,Result.andThen_ok,gk hk]at hes |-;cases u with
 |cE=>
  have hE:es=[]:=by simpa[entriesOf]using he.symm
  subst hE;have hr:r=none:=by unfold pJ at hf;cases hd:P.underlying kt with|none=>simp[hd]at hf|some d=>simp[hd,oE]at hf;exact hf.symm
  subst hr;simp only[ae,Sem.run_bind,Sem.run_pure,Result.andThen_ok];have h1:(Instr.checkKey (#[]:Array MapEntry).isEmpty 10000 kt kv).run P w=.ok un w:=hck';have h2:(Instr.findKey kt kv (#[]:Array MapEntry).toList).run P w=.ok none w:=hf';simp only[h1,h2,Result.andThen_ok];simp only[]at e;cases hz:dx P et<;>simp only[hz]at e
  .cases e
  simp only[aX]at e;subst e;cases ok<;>simp[fc hz s,ae,aD]
 |map b=>
  unfold entriesOf at he;simp only[]at he;split at he<;>try cases he
  rename_i c hb;have ho:=H.obj b _ hb;simp only[bG]at ho;have hg:(getObj (s b).1).run P w=.ok (.map (de s es).toArray c) w:=by simp[getObj,Sem.run,ho]
  have h1:(Instr.checkKey (de s es).toArray.isEmpty 10000 kt kv).run P w=.ok un w:=by rw[Gw];exact hck'
  simp only[ae,Sem.run_bind,hg,Result.andThen_ok,Sem.run_pure,h1,hf'];cases r with
  |some q=>simp only[aX]at e;subst e;cases ok<;>simp[ae,aD]
  |none=>
   simp only[]at e;cases hz:dx P et<;>simp only[hz]at e
   .cases e
   simp only[aX]at e;subst e;cases ok<;>simp[fc hz s,ae,aD]
 |_=>simp[entriesOf]at he
def nv:List (AV×AV×Nat)->Nat->AV->AV->List (AV×AV×Nat)
 |[],_,_,_=>[]|e::es,n,k,v=>match n with|0=>(k,v,e.2.2)::es|n+1=>e::nv es n k v
theorem JX(s:Sg)(k v:AV):∀(es:List (AV×AV×Nat)) (i:Nat),de s (nv es i k v)=(de s es).modify i (fun e=>{ e with key:=ae s k,val:=ae s v })
 |[],i=>by cases i<;>rfl
 |e::es,0=>by simp[nv,de]|e::es,i+1=>by have:=JX s k v es i;simp only[de]at this;simp[nv,de,this]
theorem Lt{n:Nat}{k v:AV}(hk:ws n k=true)(hv:ws n v=true):∀{es:List (AV×AV×Nat)}{i:Nat},ot n es=true->ot n (nv es i k v)=true
 |[],i,h=>by cases i<;>exact h
 |e::es,0,h=>by
  simp only[mo]at h |-;intro x hx;rcases List.mem_cons.1 hx with rfl|hx
  .exact⟨hk,hv⟩
  .exact h x (List.mem_cons_of_mem _ hx)
 |e::es,i+1,h=>by
  simp only[mo]at h;have:=Lt hk hv (es:=es) (i:=i) ((mo n es).2 (fun x hx=>h x (List.mem_cons_of_mem _ hx)));simp only[mo]at this |-;intro x hx;rcases List.mem_cons.1 hx with rfl|hx
  .exact h _ (by simp)
  .exact this x hx
def yP(P:Program)(h:Hp)(t:TypeId)(m k v:AV):Option Hp:=match m with
 |.map b=>match P.underlying t,h.tr.get b,fm k with
  |some (.map kt _),some (.map es c),some kv=>match still P 4000 (Instr.checkKey false 10000 kt kv),pJ P kt kv es with
   |some _,some r=>match r with
    |some (i,_)=>match nth es i with
     |some e=>match fm e.1 with
      |some ok=>match still P 4000 (Instr.keyThatStays ok kv)with
       |some kk=>match back kk with
        |some kk=>match Tr.set FT h.tr b (some (.map (nv es i kk v) c))with|some tr=>some ⟨tr,h.next⟩|none=>none
        |none=>none
       |none=>none
      |none=>none
     |none=>none
    |none=>match Tr.set FT h.tr b (some (.map (es++[(k,v,c)]) (c+1)))with|some tr=>some ⟨tr,h.next⟩|none=>none
   |_,_=>none
  |_,_,_=>none
 |_=>none
theorem ym{P:Program}{w:World}{r:Nat}{es:Array MapEntry}{c:Nat}{o:Obj}(h:w.heap[r]?=some (.map es c)):(setObj r o).run P w=.ok () (bJ w r o):=by simp[setObj,Sem.run,h,bJ]
theorem QH{P:Program}{h h':Hp}{t:TypeId}{m k v:AV}(e:yP P h t m k v=some h'){s:Sg}{w:World}(H:ab s h w)(hk:ws h.next k=true)(hv:ws h.next v=true) :
  ∃w',(Instr.mapUpdate t (ae s m) (ae s k) (ae s v)).run P w=.ok () w'/\ab s h' w'/\Ext s h w s h' w':=by
 unfold yP at e;split at e<;>try cases e
 rename_i b;split at e<;>try cases e
 rename_i kt et es c kv hu hb hsk;split at e<;>try cases e
 rename_i un r hck hf;have hck':=eS hck w;have hf':=Gy hf s w;have ho:=H.obj b _ hb;have hwe:=H.eX b _ hb;simp only[bG]at ho;have hg:(getObj (s b).1).run P w=.ok (.map (de s es).toArray c) w:=by simp[getObj,Sem.run,ho]
 cases r with
 |some q=>
  obtain⟨i,x⟩:=q;simp only[]at e;split at e<;>try cases e
  rename_i e0 he0;split at e<;>try cases e
  rename_i okv hok;split at e<;>try cases e
  rename_i kk hkk;split at e<;>try cases e
  rename_i kk' hkk';split at e<;>try cases e
  rename_i tr ht;have hks:=eS hkk w;have hkey:(((de s es).toArray[i]?).map (·.key)).getD kv=okv:=by rw[bI]at he0;simp[de,he0,gk hok]
  have:=H.put (ob:=.map ((de s es).toArray.modify i fun e=>{ e with key:=kk,val:=ae s v }) c) hb rfl
   (o':=.map (nv es i kk' v) c) (by simp only[bG];rw[JX,jB hkk'];simp) (Lt (Be hkk' _) hv hwe) ht
  refine⟨_,?_,this.1,this.2⟩;simp only[Instr.mapUpdate,ae,Sem.run_bind,run_underlying hu,Result.andThen_ok,hg,gk hsk,hck',hf',Option.map_some,hkey,hks,ym ho]
 |none=>
  simp only[]at e;split at e<;>try cases e
  rename_i tr ht;have:=H.put (ob:=.map ((de s es).toArray.push { key:=ae s k,val:=ae s v,born:=c }) (c+1)) hb rfl
   (o':=.map (es++[(k,v,c)]) (c+1)) (by simp[bG,de]) (by
    simp only[gp,mo]at hwe |-;intro x hx;rcases List.mem_append.1 hx with hx|hx
    .exact hwe x hx
    .simp at hx;subst hx;exact⟨hk,hv⟩) ht
  refine⟨_,?_,this.1,this.2⟩;simp only[Instr.mapUpdate,ae,Sem.run_bind,run_underlying hu,Result.andThen_ok,hg,gk hsk,hck',hf',Option.map_none];rw[ym ho]
def rF:List (AV×AV×Nat)->Nat->List (AV×AV×Nat)
 |[],_=>[]|e::es,n=>match n with|0=>es|n+1=>e::rF es n
theorem Bc:∀(es:List (AV×AV×Nat)) (i:Nat),rF es i=es.eraseIdx i
 |[],i=>by cases i<;>rfl
 |e::es,0=>rfl|e::es,i+1=>by simp[rF,Bc es i]
theorem JY{α β:Type}(f:α->β):∀(l:List α) (i:Nat),(l.map f).eraseIdx i=(l.eraseIdx i).map f
 |[],i=>by simp|x::l,0=>by simp|x::l,i+1=>by simp[JY f l i]
def AD(P:Program)(h:Hp)(ts:Array TypeId)(m k:AV):Option Hp:=match nth ts.toList 0 with
 |some t=>match m with
  |.map b=>match P.underlying t,h.tr.get b,fm k with
   |some (.map kt _),some (.map es c),some kv=>match still P 4000 (Instr.checkKey (qx es) 10000 kt kv),pJ P kt kv es with
    |some _,some r=>match r with
     |some (i,_)=>match Tr.set FT h.tr b (some (.map (rF es i) c))with|some tr=>some ⟨tr,h.next⟩|none=>none
     |none=>match Tr.set FT h.tr b (some (.map es c))with|some tr=>some ⟨tr,h.next⟩|none=>none
    |_,_=>none
   |_,_,_=>none
  |_=>none
 |none=>none
theorem Wa{P:Program}{h h':Hp}{ts:Array TypeId}{ty:TypeId}{m k:AV}(e:AD P h ts m k=some h'){s:Sg}{w:World}(H:ab s h w) :
  ∃w',(Builtin.delete_ ts ty #[ae s m,ae s k]).run P w=.ok (.tuple #[]) w'/\ab s h' w'/\Ext s h w s h' w':=by
 unfold AD at e;split at e<;>try cases e
 rename_i t ht0;have ht0:ts[0]?=some t:=by rw[bI]at ht0;simpa using ht0
 split at e<;>try cases e
 rename_i b;split at e<;>try cases e
 rename_i kt et es c kv hu hb hsk;split at e<;>try cases e
 rename_i un r hck hf;have hck':=eS hck w;have hf':=Gy hf s w;have ho:=H.obj b _ hb;have hwe:=H.eX b _ hb;simp only[bG]at ho;have hg:(getObj (s b).1).run P w=.ok (.map (de s es).toArray c) w:=by simp[getObj,Sem.run,ho]
 cases r with
 |some q=>
  obtain⟨i,x⟩:=q;simp only[]at e;split at e<;>try cases e
  rename_i tr ht;have:=H.put (ob:=.map ((de s es).toArray.eraseIdxIfInBounds i) c) hb rfl (o':=.map (rF es i) c) (by
    simp only[bG];rw[Bc];simp only[de,<-JY];congr 2;apply Array.toList_inj.1;unfold Array.eraseIdxIfInBounds;split
    .simp
    .rename_i q;simp at q;rw[List.eraseIdx_of_length_le (by simpa using q)]) (by
    simp only[gp,mo,Bc]at hwe |-;exact fun x hx=>hwe x (List.mem_of_mem_eraseIdx hx)) ht
  refine⟨_,?_,this.1,this.2⟩;simp only[Builtin.delete_,ht0,List.getElem?_toArray,List.getElem?_cons_zero,List.getElem?_cons_succ,ae,Sem.run_bind,run_underlying hu,Result.andThen_ok,hg,gk hsk,Gw,hck',hf',Option.map_some,ym ho,Sem.run_pure]
 |none=>
  simp only[]at e;split at e<;>try cases e
  rename_i tr ht;have:=H.put (ob:=.map (de s es).toArray c) hb rfl (o':=.map es c) rfl hwe ht;refine⟨_,?_,this.1,this.2⟩;simp only[Builtin.delete_,ht0,List.getElem?_toArray,List.getElem?_cons_zero,List.getElem?_cons_succ,ae,Sem.run_bind,run_underlying hu,Result.andThen_ok,hg,gk hsk,Gw,hck',hf',Option.map_none,ym ho,Sem.run_pure]
def j9(P:Program)(b:Builtin)(ts:Array TypeId)(ty:TypeId)(vs:List AV):Option AV:=match b with
 |.len=>match vs with
  |[u]=>match nth ts.toList 0 with
   |some t=>match P.underlying t with
    |some (.slice _)=>match u with|.slice _ _ n _ _=>some (.int .i64 (n:Int))|.av=>some (.int .i64 0)|.nA _ n _=>some (.int .i64 (n:Int))|.iU _ _ _ _=>some (.int .i64 0)|_=>none
    |some .string=>match u with|.str x=>some (.int .i64 (x.size:Int))|_=>none
    |some (.array n _)=>some (.int .i64 (n:Int))|_=>none
   |none=>none
  |_=>none
 |.max=>match kL vs with
  |some xs=>match still P 4000 (Builtin.max_ ts ty xs.toArray)with|some r=>back r|none=>none
  |none=>none
 |.min=>match kL vs with
  |some xs=>match still P 4000 (Builtin.min_ ts ty xs.toArray)with|some r=>back r|none=>none
  |none=>none
 |_=>none
def qX(P:Program)(T:Tr AV)(o:Oper):Option AV:=match o.op with
 |.move x=>aM T x|.pick c a b=>match aM T c with|some (.bool true)=>aM T a|some (.bool false)=>aM T b|_=>none
 |.nilCheck x=>match aM T x with|some (.ptr b off)=>some (.ptr b off)|some (.func f a c)=>some (.func f a c)|_=>none
 |.binOp op t x y _=>match aM T x,aM T y with|some u,some v=>mO P op t x y u v|_,_=>none
 |.unOp op _ x=>match aM T x with
  |some u=>match fm u with
   |some a=>match still P 100 (Op.unary op a)with|some r=>back r|none=>none
   |none=>none
  |none=>none
 |.convert src dst x=>match aM T x with
  |some u=>match fm u with
   |some a=>match still P 4000 (convert src dst a)with|some r=>back r|none=>none
   |none=>none
  |none=>none
 |.extract t i=>match aM T t with|some (.bk l)=>nth l i|_=>none
 |.field t x f=>match aM T x with|some u=>od P t u f|none=>none
 |.fieldAddr t x f=>match aM T x with|some u=>nS P t u f|none=>none
 |.indexAddr t x i=>match aM T x,aM T i with|some u,some v=>j8 P t u v|_,_=>none
 |.index t x i=>match aM T x,aM T i with
  |some u,some v=>match fm u,fm v with
   |some a,some b=>match still P 4000 (Instr.index t a b)with|some r=>back r|none=>none
   |_,_=>none
  |_,_=>none
 |.makeFunc fn first cap=>match fn with
  |.func f=>match cY T first.toList,cY T cap.toList with|some a,some c=>some (.func f a c)|_,_=>none
  |_=>none
 |.build t parts=>match eU T parts.toList with|some ps=>nX P t ps|none=>none
 |.call c=>match c.callee with
  |.builtin b=>match cY T c.args.toList with|some vs=>j9 P b c.argTypes o.type vs|none=>none
  |_=>none
 |_=>none
theorem Gb{P:Program}{b:Builtin}{ts:Array TypeId}{ty:TypeId}{cs:Array Bool}{vs:List AV}{v:AV}(e:j9 P b ts ty vs=some v)(s:Sg)(w:World) :
  (builtin b ts ty cs (aD s vs).toArray).run P w=.ok (.value (ae s v)) w:=by
 unfold j9 at e;split at e
 .split at e<;>try cases e
  rename_i u;split at e<;>try cases e
  rename_i t ht;have ht:ts[0]?=some t:=by rw[bI]at ht;simpa using ht
  split at e
  .rename_i hu;split at e<;>try cases e
   .simp[builtin,Builtin.len_,ht,aD,run_underlying hu,ae,goInt]
   .simp[builtin,Builtin.len_,ht,aD,run_underlying hu,ae,goInt]
   .simp[builtin,Builtin.len_,ht,aD,run_underlying hu,ae,goInt]
   .simp[builtin,Builtin.len_,ht,aD,run_underlying hu,ae,goInt]
  .rename_i hu;split at e<;>try cases e
   simp[builtin,Builtin.len_,ht,aD,run_underlying hu,ae,goInt]
  .rename_i hu;cases e;simp[builtin,Builtin.len_,ht,aD,run_underlying hu,ae,goInt]
  .cases e
 .split at e<;>try cases e
  rename_i xs hx;split at e<;>try cases e
  rename_i r hr;simp[builtin,yl hx,eS hr,jB e]
 .split at e<;>try cases e
  rename_i xs hx;split at e<;>try cases e
  rename_i r hr;simp[builtin,yl hx,eS hr,jB e]
 .cases e
theorem jA{P:Program}{o:Oper}{c:Call}{b:Builtin}{a:Act}{w:World}(ho:o.op=.call c)(hc:c.callee=.builtin b) :
  (execOp a.eval o).run P w=(builtin b c.argTypes o.type (c.args.map fun|.const _=>true|_=>false) (c.args.map a.eval)).run P w:=by
 unfold execOp;rw[ho];simp only[resolve,hc,Sem.run_bind,Sem.run_pure,Result.andThen_ok,invoke];rfl
theorem po{s:Sg}{T:Tr AV}{a:Act}{o:Op}{l:Array Operand}{vs:List AV}(h:cY T l.toList=some vs)(hO:eJ s T a o)(hm:∀x∈l.toList,x∈o.operands) :
  l.map a.eval=(aD s vs).toArray:=by
 apply Array.toList_inj.1;have:=Ki h (fun x hx=>hO x (hm x hx));simpa using this
theorem Gx{P:Program}{T:Tr AV}{o:Oper}{v:AV}(e:qX P T o=some v){s:Sg}{a:Act}(hO:eJ s T a o.op)(w:World) :
  (execOp a.eval o).run P w=.ok (.value (ae s v)) w:=by
 unfold qX at e;split at e<;>rename_i ho
 .rename_i x;rw[ho]at hO;simp[execOp,ho,hO x (by simp[Op.operands]) v e]
 .rename_i c x y;rw[ho]at hO;split at e
  .rename_i hc;have h1:=hO c (by simp[Op.operands]) _ hc;simp[execOp,ho,h1,ae,asBool,hO x (by simp[Op.operands]) v e]
  .rename_i hc;have h1:=hO c (by simp[Op.operands]) _ hc;simp[execOp,ho,h1,ae,asBool,hO y (by simp[Op.operands]) v e]
  .cases e
 .rename_i x;rw[ho]at hO;split at e<;>try cases e
  .rename_i hx;simp[execOp,ho,hO x (by simp[Op.operands]) _ hx,ae]
  .rename_i hx;simp[execOp,ho,hO x (by simp[Op.operands]) _ hx,ae]
 .rename_i op t x y yt;rw[ho]at hO;split at e<;>try cases e
  rename_i u u' hx hy;have h1:=hO x (by simp[Op.operands]) _ hx;have h2:=hO y (by simp[Op.operands]) _ hy;have:=GQ e s w;simp only[execOp,ho,h1,h2];rw[Sem.run_bind,this];rfl
 .rename_i op t x;rw[ho]at hO;split at e<;>try cases e
  rename_i u hx;split at e<;>try cases e
  rename_i q hq;split at e<;>try cases e
  rename_i r hr;simp[execOp,ho,hO x (by simp[Op.operands]) _ hx,gk hq,eS hr,jB e]
 .rename_i src dst x;rw[ho]at hO;split at e<;>try cases e
  rename_i u hx;split at e<;>try cases e
  rename_i q hq;split at e<;>try cases e
  rename_i r hr;simp[execOp,ho,hO x (by simp[Op.operands]) _ hx,gk hq,eS hr,jB e]
 .rename_i t i;rw[ho]at hO;split at e<;>try cases e
  rename_i l hx;rw[bI]at e;simp[execOp,ho,hO t (by simp[Op.operands]) _ hx,ae,Instr.extract,yD,e]
 .rename_i t x f;rw[ho]at hO;split at e<;>try cases e
  rename_i u hx;simp[execOp,ho,hO x (by simp[Op.operands]) _ hx,Gm e]
 .rename_i t x f;rw[ho]at hO;split at e<;>try cases e
  rename_i u hx;simp[execOp,ho,hO x (by simp[Op.operands]) _ hx,Ga e]
 .rename_i t x i;rw[ho]at hO;split at e<;>try cases e
  rename_i u u' hx hi;simp[execOp,ho,hO x (by simp[Op.operands]) _ hx,hO i (by simp[Op.operands]) _ hi,F9 e]
 .rename_i t x i;rw[ho]at hO;split at e<;>try cases e
  rename_i u u' hx hi;split at e<;>try cases e
  rename_i q q' hq hq';split at e<;>try cases e
  rename_i r hr;simp[execOp,ho,hO x (by simp[Op.operands]) _ hx,hO i (by simp[Op.operands]) _ hi,gk hq,gk hq',eS hr,jB e]
 .rename_i fn first cap
  rw[ho]at hO;split at e<;>try cases e
  split at e<;>try cases e
  rename_i f x y hx hy;have h1:=po hx hO (by intro z hz;simp only[Op.operands];exact Array.mem_append.2 (.inl (Array.mem_toList_iff.1 hz)));have h2:=po hy hO (by intro z hz;simp only[Op.operands];exact Array.mem_append.2 (.inr (Array.mem_toList_iff.1 hz)));simp[execOp,ho,Instr.makeFunc,h1,h2,ae]
 .rename_i t parts;rw[ho]at hO;split at e<;>try cases e
  rename_i ps hps;have:=Ge hps (fun x hx=>hO x (by simp only[Op.operands,List.mem_toArray];exact hx));simp[execOp,ho,Gn e s w (parts.map fun x=>(x.1,a.eval x.2)) (by simpa using this)]
 .rename_i c;split at e<;>try cases e
  rename_i b hb;split at e<;>try cases e
  rename_i vs hv;rw[ho]at hO;have h1:=po hv hO (by intro z hz;simp only[Op.operands,Call.operands,hb];simpa using hz);rw[jA ho hb,h1,Gb e]
 .cases e
def gb(P:Program)(T:Tr AV)(h:Hp)(o:Oper):Option AV:=match o.op with
 |.load t x=>match aM T x with|some u=>iM P h t u|none=>none
 |.slice t x lo hi mx=>match aM T x with|some u=>kf P h T t u lo hi mx|none=>none
 |.lookup t x i ok=>match aM T x,aM T i with|some u,some k=>AB P h t u k ok|_,_=>none
 |.call c=>match c.callee with
  |.builtin .len=>match cY T c.args.toList with
   |some [.map m]=>match h.tr.get m,nth c.argTypes.toList 0 with
    |some (.map es _),some t=>match P.underlying t with|some (.map _ _)=>some (.int .i64 (es.length:Int))|_=>none
    |_,_=>none
   |_=>qX P T o
  |_=>qX P T o
 |_=>qX P T o
theorem nM{P:Program}{T:Tr AV}{h:Hp}{o:Oper}{v:AV}(e:gb P T h o=some v){s:Sg}{a:Act}(hO:eJ s T a o.op){w:World}(H:ab s h w) :
  (execOp a.eval o).run P w=.ok (.value (ae s v)) w:=by
 unfold gb at e;split at e<;>try (rename_i ho)
 .rename_i t x;rw[ho]at hO;split at e<;>try cases e
  rename_i u hx;simp[execOp,ho,hO x (by simp[Op.operands]) _ hx,sK e H]
 .rename_i t x lo hi mx;rw[ho]at hO;split at e<;>try cases e
  rename_i u hx;have:=Gj (a:=a) e H (by intro y hy;apply hO y;simp only[Op.operands];rcases hy with rfl|rfl|rfl<;>simp);simp[execOp,ho,hO x (by simp[Op.operands]) _ hx,this]
 .rename_i t x i ok;rw[ho]at hO;split at e<;>try cases e
  rename_i u k hx hi;simp[execOp,ho,hO x (by simp[Op.operands]) _ hx,hO i (by simp[Op.operands]) _ hi,V8 e H]
 .rename_i c;split at e
  .rename_i hb;split at e
   .rename_i m hv;rw[ho]at hO;have h1:=po hv hO (by intro z hz;simp only[Op.operands,Call.operands,hb];simpa using hz);rw[jA ho hb,h1];split at e<;>try cases e
    rename_i es cl t hm ht;have ht:c.argTypes[0]?=some t:=by rw[bI]at ht;simpa using ht
    split at e<;>try cases e
    rename_i hu;have hob:=H.obj m _ hm;simp only[bG]at hob;simp[builtin,Builtin.len_,ht,run_underlying hu,aD,ae,getObj,Sem.run,hob,de,goInt]
   .exact Gx e hO w
  .exact Gx e hO w
 .exact Gx e hO w
def lV(P:Program)(T:Tr AV)(h:Hp)(o:Oper):Option (AV×Hp):=match o.op with
 |.assign x=>match aM T x with|some v=>some (v,h)|none=>none
 |.store t x y=>match aM T x,aM T y with
  |some u,some v=>match A8 P h t u v with|some h'=>some (.bk [],h')|none=>none
  |_,_=>none
 |.mapUpdate t m k x=>match aM T m,aM T k,aM T x with
  |some m,some k,some v=>match yP P h t m k v with|some h'=>some (.bk [],h')|none=>none
  |_,_,_=>none
 |.insert t m k x=>match aM T m,aM T k,aM T x with
  |some m,some k,some v=>match yP P h t m k v with|some h'=>some (.bk [],h')|none=>none
  |_,_,_=>none
 |.call c=>match c.callee with
  |.builtin b=>match cY T c.args.toList with
   |some [u,x]=>match b with
    |.append=>mm P h c.argTypes u x|.copy=>mZ P h c.argTypes u x|.delete=>match AD P h c.argTypes u x with|some h'=>some (.bk [],h')|none=>none
    |_=>none
   |_=>none
  |_=>none
 |_=>none
def qj(v:Value)(n:Next):Prop:=n=.value v\/(n=.skip/\v=undef)
theorem kh{T:Tr AV}{n:Nat}(hT:∀t v,T.get t=some v->ws n v=true){x:Operand}{u:AV}(h:aM T x=some u):ws n u=true:=by cases x with|tmp t=>exact hT t u h|const v=>exact Be h n|func f=>simp[aM]at h;subst h;rfl|global g=>simp[aM]at h
theorem Ba{T:Tr AV}{n:Nat}(hT:∀t v,T.get t=some v->ws n v=true):∀{l:List Operand}{vs:List AV},cY T l=some vs->cf n vs=true
 |[],vs,h=>by simp[cY]at h;subst h;rfl|x::l,vs,h=>by
  simp only[cY]at h;cases hv:aM T x<;>simp only[hv]at h
  .cases h
  cases hl:cY T l<;>simp only[hl]at h
  .cases h
  simp at h;subst h;simp[cf,kh hT hv,Ba hT hl]
theorem yO{P:Program}{T:Tr AV}{h h':Hp}{o:Oper}{v:AV}(e:lV P T h o=some (v,h')){s:Sg}{a:Act}(hO:eJ s T a o.op)(hT:∀t v,T.get t=some v->ws h.next v=true)
  {w:World}(H:ab s h w) :
  ∃n s' w',(execOp a.eval o).run P w=.ok n w'/\qj (ae s' v) n/\ab s' h' w'/\Ext s h w s' h' w':=by
 unfold lV at e;split at e<;>try (rename_i ho)
 .rename_i x;rw[ho]at hO;split at e<;>try cases e
  rename_i hx;exact⟨_,s,w,by simp only[execOp,ho,hO x (by simp[Op.operands]) _ hx];rfl,.inl rfl,H,Ext.refl _ _ _⟩
 .rename_i t x y;rw[ho]at hO;split at e<;>try cases e
  rename_i u u' hx hy;split at e<;>try cases e
  rename_i hst;obtain⟨w',hr,hH,hE⟩:=Ww (P:=P) hst H (kh hT hy);exact⟨.skip,s,w',by simp[execOp,ho,hO x (by simp[Op.operands]) _ hx,hO y (by simp[Op.operands]) _ hy,hr],.inr ⟨rfl,rfl⟩,hH,hE⟩
 .rename_i t m k x;rw[ho]at hO;split at e<;>try cases e
  rename_i m' k' v' hm hk hx;split at e<;>try cases e
  rename_i hst;obtain⟨w',hr,hH,hE⟩:=QH (P:=P) hst H (kh hT hk) (kh hT hx);exact⟨.skip,s,w',by simp[execOp,ho,hO m (by simp[Op.operands]) _ hm,hO k (by simp[Op.operands]) _ hk,hO x (by simp[Op.operands]) _ hx,hr],.inr ⟨rfl,rfl⟩,hH,hE⟩
 .rename_i t m k x;rw[ho]at hO;split at e<;>try cases e
  rename_i m' k' v' hm hk hx;split at e<;>try cases e
  rename_i hst;obtain⟨w',hr,hH,hE⟩:=QH (P:=P) hst H (kh hT hk) (kh hT hx);exact⟨.skip,s,w',by simp[execOp,ho,hO m (by simp[Op.operands]) _ hm,hO k (by simp[Op.operands]) _ hk,hO x (by simp[Op.operands]) _ hx,hr],.inr ⟨rfl,rfl⟩,hH,hE⟩
 .rename_i c;split at e<;>try cases e
  rename_i b hb;rw[ho]at hO;split at e
  .rename_i u x hv;have h1:=po hv hO (by intro z hz;simp only[Op.operands,Call.operands,hb];simpa using hz);have hws:=Ba hT hv;have hwu:ws h.next u=true:=(sY _ _).1 hws u (by simp);rw[jA ho hb,h1];simp only[aD];split at e
   .obtain⟨s',w',hr,hH,hE,_⟩:=yh (ty:=o.type) e H hwu;exact⟨_,s',w',by simp only[builtin,Sem.run_bind,hr,Result.andThen_ok,Sem.run_pure],.inl rfl,hH,hE⟩
   .obtain⟨w',hr,hH,hE,_⟩:=Bj (ty:=o.type) e H;exact⟨_,s,w',by simp only[builtin,Sem.run_bind,hr,Result.andThen_ok,Sem.run_pure],.inl rfl,hH,hE⟩
   .split at e<;>try cases e
    rename_i hd;obtain⟨w',hr,hH,hE⟩:=Wa (P:=P) (ty:=o.type) hd H;exact⟨.value (.tuple #[]),s,w',by simp only[builtin,Sem.run_bind,hr,Result.andThen_ok,Sem.run_pure],.inl rfl,hH,hE⟩
   .cases e
  .cases e
 .cases e
def lG(T:Tr AV)(o:Oper):Option (FuncId×List AV):=match o.op with
 |.call c=>match c.callee with
  |.value f=>match aM T f,cY T c.args.toList with|some (.func g a cap),some vs=>some (g,a++(vs++cap))|_,_=>none
  |_=>none
 |_=>none
theorem yu{P:Program}{T:Tr AV}{o:Oper}{f:FuncId}{vs:List AV}(e:lG T o=some (f,vs)){s:Sg}{a:Act}(hO:eJ s T a o.op){fn:Func}(hf:P.funcs[f]?=some fn)
  (hn:(fn.name == "runtime.NumGoroutine")=false) {c:Code}(hb:fn.body=some c) (w:World) :
  (execOp a.eval o).run P w=.ok (.enter f (aD s vs).toArray) w:=by
 unfold lG at e;split at e<;>try cases e
 rename_i cl ho;rw[ho]at hO;split at e<;>try cases e
 rename_i fo hc;split at e<;>try cases e
 rename_i fa cap xs hxs hfo;have h1:=hO fo (by simp[Op.operands,Call.operands,hc]) _ hfo;have h2:=po hxs hO (by intro z hz;simp only[Op.operands,Call.operands,hc];exact Array.mem_append.2 (.inr (Array.mem_toList_iff.1 hz)));simp only[execOp,ho,resolve,hc,h1,h2,ae,Deferred.ofValue,Sem.run_bind,Sem.run_pure,Result.andThen_ok,invoke,callFunc,run_program,hf,hn,hb];simp[nI]
theorem Xz{T:Tr AV}{o:Oper}{f:FuncId}{vs:List AV}{n:Nat}(e:lG T o=some (f,vs))(hT:∀t v,T.get t=some v->ws n v=true):cf n vs=true:=by
 unfold lG at e;split at e<;>try cases e
 split at e<;>try cases e
 split at e<;>try cases e
 rename_i fa cap xs hxs hfo;have:=kh hT hfo;simp only[ws]at this;cases h1:cf n fa<;>simp only[h1]at this
 .cases this
 exact ln h1 (ln (Ba hT hxs) this)
end Go.Proofs.YtdcnjfbffckblaaGreat.Ev
end
section
namespace Go.Proofs.YtdcnjfbffckblaaGreat.V
open Go Go.RowKit
open Go.Proofs.YtdcnjfbffckblaaGreat.Ev (Tr Tr.bz nth bI takeN c9 dH dQ bJ dw fX still eS run_underlying run_typeInfo run_sizeOf bY cX places lj fe)
def FT:Nat:=30
mutual
def jG:(σ:Sh)->σ.T->List AV
 |.int k,n=>[.int k n]|.bool,b=>[.bool b]|.str,s=>[.str s]|.agg l,d=>Gp l d|.sl s,L=>[.fz s L]
termination_by structural x=>x
def Gp:(l:List Sh)->TL l->List AV
 |[],_=>[]|s::l,d=>jG s d.1++Gp l d.2
termination_by structural x=>x
end
mutual
theorem pg{X:Cx}:∀{σ:Sh}{d:σ.T}{cs:List Value},Cs X.w X.out σ d cs->bg X (jG σ d) cs
 |.int k,n,cs,h=>⟨_,[],h,rfl,rfl⟩|.bool,b,cs,h=>⟨_,[],h,rfl,rfl⟩|.str,s,cs,h=>⟨_,[],h,rfl,rfl⟩|.agg l,d,cs,h=>Qy (l:=l) h|.sl s,L,cs,h=>by obtain⟨a,len,cap,e,q⟩:=h;exact⟨_,[],e,⟨a,len,cap,rfl,q⟩,rfl⟩
theorem Qy{X:Cx}:∀{l:List Sh}{d:TL l}{cs:List Value},eD X.w X.out l d cs->bg X (Gp l d) cs
 |[],_,cs,h=>h|s::l,d,cs,⟨c,r,e,h1,h2⟩=>by rw[e];exact(pg h1).append (Qy h2)
end
def gg{τ τ':Sh}(h:τ.eqv τ'=true)(L:List τ.T):List τ'.T:=Sh.dc h▸L
def rH{α:Type}(F:Hp->List AV->Option (α×List AV×Hp)):Nat->Hp->List AV->Option (List α×Hp)
 |0,h,l=>match l with|[]=>some ([],h)|_=>none
 |n+1,h,l=>match F h l with
  |some (x,r,h)=>match rH F n h r with|some (xs,h)=>some (x::xs,h)|none=>none
  |none=>none
mutual
def di(kl:Bool)(h:Hp):(σ:Sh)->List AV->Option (σ.T×List AV×Hp)
 |.int k,l=>match l with
  |.int k' n::r=>match Nat.beq (Ev.IntKind.num k') (Ev.IntKind.num k)with|true=>some (n,r,h)|false=>none
  |_=>none
 |.bool,l=>match l with|.bool b::r=>some (b,r,h)|_=>none
 |.str,l=>match l with|.str s::r=>some (s,r,h)|_=>none
 |.agg ss,l=>gP kl h ss l|.sl s,l=>match l with
  |.av::r=>some ([],r,h)|.fz τ L::r=>match e:τ.eqv s with|true=>some (gg e L,r,h)|false=>none
  |.hd b _::r=>match h.tr.get b with
   |some (.arr τ L _)=>match e:τ.eqv s,kl,Tr.set FT h.tr b none with|true,true,some tr=>some (gg e L,r,⟨tr,h.next⟩)|_,_,_=>none
   |_=>none
  |.vw b τ₀ off len::r=>match h.tr.get b with
   |some (.arr τ L _)=>match e:τ.eqv s,τ₀.eqv s,kl,Tr.set FT h.tr b none with|true,true,true,some tr=>some (gg e ((L.drop off).take len),r,⟨tr,h.next⟩)|_,_,_,_=>none
   |some (.cells vs _)=>match kl,off,Tr.set FT h.tr b none with
    |true,0,some tr=>match rH (fun h l=>di true h s l) len ⟨tr,h.next⟩ vs with|some (L,h')=>some (L,r,h')|none=>none
    |_,_,_=>none
   |_=>none
  |_=>none
termination_by structural x=>x
def gP(kl:Bool)(h:Hp):(l:List Sh)->List AV->Option (TL l×List AV×Hp)
 |[],r=>some ((),r,h)|s::l,r=>match di kl h s r with
  |some (d,r,h)=>match gP kl h l r with|some (e,r,h)=>some ((d,e),r,h)|none=>none
  |none=>none
termination_by structural x=>x
end
structure dA(X:Cx)(h':Hp):Prop where
 E:aH X ⟨X.s,h',X.w,X.A⟩
 H:ab ⟨X.s,h',X.w,X.A⟩
 sub:∀i o,h'.tr.get i=some o->X.h.tr.get i=some o
theorem dA.refl{X:Cx}(H:ab X):dA X X.h:=⟨aH.refl X,H,fun _ _ h=>h⟩
theorem dA.trans{X:Cx}{h' h'':Hp}(a:dA X h')(b:dA ⟨X.s,h',X.w,X.A⟩ h''):dA X h'':=⟨a.E.trans b.E,b.H,fun i o q=>a.sub i o (b.sub i o q)⟩
theorem dA.kill{X:Cx}(H:ab X){b:Nat}{l:Loc}{tr:Tr aC}(hs:X.s b=some l)(ht:Tr.set FT X.h.tr b none=some tr):dA X ⟨tr,X.h.next⟩:=by
 obtain⟨E,H'⟩:=H.kill hs ht;refine⟨E,H',?_⟩;intro i o q;have:=Tr.bz FT X.h.tr b none tr ht i
 replace q:tr.get i=some o:=q
 rw[this]at q;by_cases r:i=b
 .rw[if_pos r]at q;cases q
 .rwa [if_neg r]at q
theorem yS{w:World}{A:Nat->Prop}{τ τ':Sh}(h:τ.eqv τ'=true){L:List τ.T}{V:Value}(q:Cs w A (.sl τ) L [V]):Cs w A (.sl τ') (gg h L) [V]:=by have:=Sh.dc h;subst this;exact q
theorem Uf{w:World}{A:Nat->Prop}{τ:Sh}{L:List τ.T}{x:Nat}{ty:TypeId}{cs tail:List Value}{fr:Nat×Nat}(hw:w.heap[x]?=some (.cells (List.toArray (cs++tail)) ty fr))(ha:¬A x)(hf:bc (Cs w A τ) L cs)
  {off len cap:Nat}{a:Option Addr}(hl:off+len<=L.length) (hc:len<=cap) (hA:0<len->a=some ⟨x,off*τ.size,none⟩):Cs w A (.sl τ) ((L.drop off).take len) [.slice a len cap]:=by
 refine⟨a,len,cap,rfl,by simp;omega,hc,fun hne=>?_⟩;have hpos:0<len:=by
  rcases Nat.eq_zero_or_pos len with q|q
  .subst q;rw[List.take_zero]at hne;exact absurd rfl hne
  .exact q
 refine⟨x,off*τ.size,(cs.drop (off*τ.size)).take (len*τ.size),hA hpos,ha,bc.take (fun x c=>Cs.length) len (bc.drop (fun x c=>Cs.length) off hf),_,ty,_,hw,?_⟩;intro j u hu;rw[List.getElem?_take]at hu;split at hu
 .rw[List.getElem?_drop]at hu;simp only[List.getElem?_toArray];rw[List.getElem?_append_left]
  .exact hu
  .rcases Nat.lt_or_ge (off*τ.size+j) cs.length with q|q
   .exact q
   .rw[List.getElem?_eq_none q]at hu;cases hu
 .cases hu
theorem IX{τ:Sh}{F:Hp->List AV->Option (τ.T×List AV×Hp)}(hF:∀{X:Cx},ab X->∀{l:List AV}{d:τ.T}{r:List AV}{h':Hp},F X.h l=some (d,r,h')->∀{cs:List Value},bg X l cs ->
  dA X h'/\∃c e,cs=c++e/\Cs X.w (Cx.out ⟨X.s,h',X.w,X.A⟩) τ d c/\bg ⟨X.s,h',X.w,X.A⟩ r e):∀{n:Nat}{l:List AV}{X:Cx}{L:List τ.T}{h':Hp}{cs:List Value},ab X->rH F n X.h l=some (L,h')->bg X l cs ->
  dA X h'/\L.length=n/\bc (Cs X.w (Cx.out ⟨X.s,h',X.w,X.A⟩) τ) L cs
 |0,l,X,L,h',cs,H,e,R=>by simp only[rH]at e;split at e<;>cases e;exact⟨dA.refl H,rfl,R⟩
 |n+1,l,X,L,h',cs,H,e,R=>by
  simp only[rH]at e;split at e<;>try cases e
  rename_i x r h₁ hf;split at e<;>cases e;rename_i xs hx;obtain⟨F₁,c,t,rfl,q1,q2⟩:=hF H hf R;obtain⟨F₂,k1,k2⟩:=IX hF (X:=⟨X.s,h₁,X.w,X.A⟩) F₁.H hx q2;exact⟨F₁.trans F₂,by simp[k1],c,t,rfl,q1.aN F₂.E.keeps,k2⟩
mutual
theorem mr{kl:Bool}{X:Cx}(H:ab X):∀{σ:Sh}{l:List AV}{d:σ.T}{r:List AV}{h':Hp},di kl X.h σ l=some (d,r,h')->∀{cs:List Value},bg X l cs ->
  dA X h'/\∃c e,cs=c++e/\Cs X.w (Cx.out ⟨X.s,h',X.w,X.A⟩) σ d c/\bg ⟨X.s,h',X.w,X.A⟩ r e
 |.int k,l,d,r,h',e,cs,R=>by
  simp only[di]at e;split at e<;>try cases e
  rename_i k' n r';split at e<;>try cases e
  rename_i hk;obtain⟨v,t,rfl,h1,h2⟩:=R;have:=Ev.IntKind.px (aA hk);subst this;exact⟨dA.refl H,[v],t,rfl,by rw[show v=_ from h1];rfl,h2⟩
 |.bool,l,d,r,h',e,cs,R=>by
  simp only[di]at e;split at e<;>try cases e
  obtain⟨v,t,rfl,h1,h2⟩:=R;exact⟨dA.refl H,[v],t,rfl,by rw[show v=_ from h1];rfl,h2⟩
 |.str,l,d,r,h',e,cs,R=>by
  simp only[di]at e;split at e<;>try cases e
  obtain⟨v,t,rfl,h1,h2⟩:=R;exact⟨dA.refl H,[v],t,rfl,by rw[show v=_ from h1];rfl,h2⟩
 |.agg ss,l,d,r,h',e,cs,R=>KQ H (ss:=ss) e R|.sl s,l,d,r,h',e,cs,R=>by
  simp only[di]at e;split at e<;>try cases e
  .obtain⟨v,t,rfl,h1,h2⟩:=R;exact⟨dA.refl H,[v],t,rfl,⟨none,0,0,by rw[show v=_ from h1],rfl,Nat.le_refl _,fun q=>absurd rfl q⟩,h2⟩
  .rename_i τ L r';split at e<;>try cases e
   rename_i he;obtain⟨v,t,rfl,h1,h2⟩:=R;exact⟨dA.refl H,[v],t,rfl,yS he h1,h2⟩
  .rename_i b τ₀ r';split at e<;>try cases e
   rename_i τ L ty hb;split at e<;>try cases e
   rename_i tr he ht;obtain⟨v,t,rfl,⟨l₀,g1,gc,g2⟩,h2⟩:=R;have F:=dA.kill H g1 ht;have:=H.freeze hb g1 ht;rw[g2 _ (gu hb)];exact⟨F,[_],t,rfl,yS he this,h2.ext (F.E.db H)⟩
  .rename_i b τ₀ off len r';split at e<;>try cases e
   .rename_i τ L ty hb;split at e<;>try cases e
    rename_i tr he he₀ ht;obtain⟨v,t,rfl,⟨l₀,a,c,g1,g2,g3,g4,g5,g6⟩,h2⟩:=R;have F:=dA.kill H g1 ht;have hfz:=H.freeze hb g1 ht;have:=Sh.dc he₀;subst this;have:=Sh.dc he;subst this;refine⟨F,[v],t,rfl,yS he ?_,h2.ext (F.E.db H)⟩;have hle:=g6 _ (gu hb);rw[g2];cases l₀ with
    |nil=>
     have hL:L=[]:=H.obj b _ _ hb g1;subst hL;simp only[List.length_nil]at hle;have:len=0:=by omega
     subst this;exact⟨a,0,c,rfl,by simp,g3,fun q=>by rw[List.take_zero]at q;exact absurd rfl q⟩
    |«at» x k=>
     obtain⟨cs,tail,q1,q2,q3,q4⟩:=H.obj b _ _ hb g1;refine Uf (w:=X.w) q1 ?_ (q2.mono (fun x d q=>q.aN F.E.keeps)) hle g3 (fun hp=>?_)
     .rintro(q|⟨j,o,c',p1,p2,p3⟩)
      .exact H.loc b _ _ x hb g1 rfl q
      .have hj:=F.sub j o p1;have hg:=Tr.bz FT X.h.tr b none tr ht j;have:=H.inj j b o _ c' _ x hj hb p2 g1 p3 rfl;subst this
       replace p1:tr.get j=some o:=p1
       rw[hg,if_pos rfl]at p1;cases p1
     .obtain⟨x',k',e1,e2⟩:=g4 hp;cases e1;exact e2
    |bN x k m=>exact(H.obj b _ _ hb g1:False).elim
   .rename_i vs ty hb;split at e<;>try cases e
    rename_i tr ht;split at e<;>cases e;rename_i hr;obtain⟨v,t,rfl,⟨l₀,a,c,g1,rfl,g3,g4,g5,g6⟩,h2⟩:=R;obtain⟨x,k,cs,rfl,q1,q2⟩:=H.obj b _ _ hb g1;have F:=dA.kill H g1 ht;obtain⟨F₂,k1,k2⟩:=IX (F:=fun h l=>di true h s l) (fun H=>mr H) (X:=⟨X.s,⟨tr,X.h.next⟩,X.w,X.A⟩) F.H hr (q2.ext (F.E.db H));have F₃:=F.trans F₂;refine⟨F₃,[_],t,rfl,⟨a,len,c,rfl,k1.symm,g3,fun hne=>?_⟩,h2.ext (F₃.E.db H)⟩;have hpos:0<len:=by
     rcases Nat.eq_zero_or_pos len with r|r
     .subst r;exact absurd (List.eq_nil_of_length_eq_zero k1) hne
     .exact r
    obtain⟨x',k',e1,e2⟩:=g4 hpos;cases e1;refine⟨x,0,cs,by rw[e2];simp,?_,k2,_,ty,_,q1,fun j u hu=>by rw[Nat.zero_add];simpa using hu⟩;rintro(r|⟨j,o',c',p1,p2,p3⟩)
    .exact H.loc b _ _ x hb g1 rfl r
    .have p1':=F₂.sub j o' p1;have hg:=Tr.bz FT X.h.tr b none tr ht j
     replace p1':tr.get j=some o':=p1'
     rw[hg]at p1';by_cases hj:j=b
     .rw[if_pos hj]at p1';cases p1'
     .rw[if_neg hj]at p1';exact hj (H.inj j b o' _ c' _ x p1' hb p2 g1 p3 rfl)
theorem KQ{kl:Bool}{X:Cx}(H:ab X):∀{ss:List Sh}{l:List AV}{d:TL ss}{r:List AV}{h':Hp},gP kl X.h ss l=some (d,r,h')->∀{cs:List Value},bg X l cs ->
  dA X h'/\∃c e,cs=c++e/\eD X.w (Cx.out ⟨X.s,h',X.w,X.A⟩) ss d c/\bg ⟨X.s,h',X.w,X.A⟩ r e
 |[],l,d,r,h',e,cs,R=>by simp only[gP,aX,Prod.mk.injEq]at e;obtain⟨rfl,rfl,rfl⟩:=e;exact⟨dA.refl H,[],cs,rfl,rfl,R⟩
 |s::ss,l,d,r,h',e,cs,R=>by
  simp only[gP]at e;split at e<;>try cases e
  rename_i d₁ r₁ h₁ e₁;split at e<;>try cases e
  rename_i d₂ r₂ h₂ e₂;obtain⟨F₁,c,t,rfl,q1,q2⟩:=mr H e₁ R;obtain⟨F₂,c',t',rfl,q3,q4⟩:=KQ (X:=⟨X.s,h₁,X.w,X.A⟩) F₁.H e₂ q2;exact⟨F₁.trans F₂,c++c',t',by simp,⟨c,c',rfl,q1.aN F₂.E.keeps,q3⟩,q4⟩
end
def eI:Value->Option AV
 |.bool b=>some (.bool b)|.int k n=>some (.int k n)|.string s=>some (.str s)|.pointer a=>match a with|none=>some .cg|some _=>none
 |.slice a len cap=>match a,len,cap with|none,0,0=>some .av|_,_,_=>none
 |.map a=>match a with|none=>some .cE|some _=>none
 |.nilFunc=>some .cD|.nilIface=>some .cZ|_=>none
def ek:List Value->Option (List AV)
 |[]=>some []|x::l=>match eI x with
  |some v=>match ek l with|some vs=>some (v::vs)|none=>none
  |none=>none
def back:Value->Option AV
 |.agg l=>match ek l.toList with|some vs=>some (.agg vs)|none=>none
 |.tuple l=>match ek l.toList with|some vs=>some (.bk vs)|none=>none
 |v=>eI v
theorem Kp{x:Value}{v:AV}(h:eI x=some v)(X:Cx):Rel X v x:=by
 cases x with
 |pointer a=>cases a<;>simp[eI]at h;subst h;rfl
 |map a=>cases a<;>simp[eI]at h;subst h;rfl
 |slice a l c=>
  simp only[eI]at h;split at h
  .simp at h;subst h;rfl
  .cases h
 |_=>simp[eI]at h<;>subst h<;>rfl
theorem GV:∀{x:List Value}{l:List AV},ek x=some l->∀X:Cx,bg X l x
 |[],l,h,X=>by simp[ek]at h;subst h;rfl|x::xs,l,h,X=>by
  simp only[ek]at h;cases hv:eI x<;>simp only[hv]at h
  .cases h
  cases hl:ek xs<;>simp only[hl]at h
  .cases h
  simp at h;subst h;exact⟨x,xs,rfl,Kp hv X,GV hl X⟩
theorem AJ{x:Value}{v:AV}(h:back x=some v)(X:Cx):Rel X v x:=by
 cases x with
 |agg l=>
  simp only[back]at h;cases hl:ek l.toList<;>simp only[hl]at h
  .cases h
  simp at h;subst h;exact⟨l.toList,by simp,GV hl X⟩
 |tuple l=>
  simp only[back]at h;cases hl:ek l.toList<;>simp only[hl]at h
  .cases h
  simp at h;subst h;exact⟨l.toList,by simp,GV hl X⟩
 |_=>simp only[back]at h;exact Kp h X
def aM(T:Tr AV):Operand->Option AV
 |.tmp t=>T.get t|.const v=>back v|.func f=>some (.func f [] [])|.global _=>none
def eJ(X:Cx)(T:Tr AV)(a:Act)(o:Op):Prop:=∀x∈o.operands,∀u,aM T x=some u->Rel X u (a.eval x)
theorem oa{X:Cx}{T:Tr AV}{a:Act}{o:Op}(h:∀t,.tmp t∈o.operands->∀u,T.get t=some u->∃V,a.tmps[t]?=some V/\Rel X u V):eJ X T a o:=by
 intro x hx u hu;cases x with
 |tmp t=>obtain⟨V,h1,h2⟩:=h t hx u hu;simpa[Act.eval,Array.getD_eq_getD_getElem?,h1]using h2
 |const v=>exact AJ hu X|func f=>simp[aM]at hu;subst hu;exact⟨[],[],rfl,rfl,rfl⟩|global g=>simp[aM]at hu
def cY(T:Tr AV):List Operand->Option (List AV)
 |[]=>some []|x::l=>match aM T x with
  |some v=>match cY T l with|some vs=>some (v::vs)|none=>none
  |none=>none
theorem KY{X:Cx}{T:Tr AV}{a:Act}:∀{l:List Operand}{vs:List AV},cY T l=some vs->(∀x∈l,∀u,aM T x=some u->Rel X u (a.eval x))->bg X vs (l.map a.eval)
 |[],vs,h,_=>by simp[cY]at h;subst h;rfl|x::l,vs,h,hr=>by
  simp only[cY]at h;cases hv:aM T x<;>simp only[hv]at h
  .cases h
  cases hl:cY T l<;>simp only[hl]at h
  .cases h
  simp at h;subst h;exact⟨_,_,rfl,hr x (by simp) _ hv,KY hl (fun y hy=>hr y (by simp[hy]))⟩
def dx(P:Program)(t:TypeId):Option AV:=match P.info? t with
 |some i=>match i.zero with|some v=>back v|none=>none
 |none=>none
theorem fc{P:Program}{t:TypeId}{v:AV}(h:dx P t=some v)(X:Cx)(w:World):∃V,(zeroValue t).run P w=.ok V w/\Rel X v V:=by
 unfold dx at h;cases hi:P.info? t<;>simp only[hi]at h
 .cases h
 rename_i i;cases hz:i.zero<;>simp only[hz]at h
 .cases h
 exact⟨_,by simp only[zeroValue,Sem.run_bind,run_typeInfo hi,Result.andThen_ok,hz,Sem.run_pure],AJ h X⟩
def bK:AV->List AV
 |.agg l=>l|v=>[v]
theorem JT{V:Value}(h:Ev.iK V=true):V.cells=#[V]:=by cases V<;>first|rfl|cases h
theorem ij{X:Cx}{v:AV}{V:Value}(h:Rel X v V):bg X (bK v) V.cells.toList:=by
 have single:∀{u:AV}{U:Value},Rel X u U->U.cells=#[U]->bg X [u] U.cells.toList:=fun{u U} q e=>by rw[e];exact⟨U,[],rfl,q,rfl⟩
 cases v with
 |agg l=>obtain⟨cs,rfl,h2⟩:=h;simpa[bK,Value.cells]using h2
 |bk l=>exact single h (by obtain⟨cs,rfl,h2⟩:=h;rfl)
 |fU=>exact single h (JT h)|bool b=>exact single h (by rw[show V=_ from h];rfl)|int k n=>exact single h (by rw[show V=_ from h];rfl)|str s=>exact single h (by rw[show V=_ from h];rfl)|cg=>exact single h (by rw[show V=_ from h];rfl)|av=>exact single h (by rw[show V=_ from h];rfl)|cE=>exact single h (by rw[show V=_ from h];rfl)|cD=>exact single h (by rw[show V=_ from h];rfl)|cZ=>exact single h (by rw[show V=_ from h];rfl)|ptr b off=>exact single h (by obtain⟨x,c,h1,rfl⟩:=h;rfl)
 |da b i z o=>exact single h (by obtain⟨x,c,h1,rfl,_⟩:=h;rfl)
 |dO σ d o=>exact single h (by obtain⟨b,off,cs,rfl,_⟩:=h;rfl)
 |hd b τ=>exact single h (by obtain⟨l,h1,hc,_⟩:=h;exact JT hc)
 |vw b τ off len=>exact single h (by obtain⟨l,a,c,h1,rfl,_⟩:=h;rfl)
 |fz τ L=>exact single h (by obtain⟨a,len,cap,e,_⟩:=h;simp only[List.cons.injEq,and_true]at e;rw[e];rfl)
 |func f x c=>exact single h (by obtain⟨xs,cs,rfl,_⟩:=h;rfl)
 |eW τ z L=>exact single h (by obtain⟨_,a,l,c,rfl,_⟩:=h;rfl)
 |mp b=>exact single h (by obtain⟨x,c,h1,rfl⟩:=h;rfl)
 |dk b=>exact single h (by obtain⟨l,h1,rfl⟩:=h;cases l<;>rfl)
 |rp b i=>exact single h (by obtain⟨x,c,m,p,h1,h2,rfl⟩:=h;rfl)
 |ra b i=>exact single h (by obtain⟨x,c,m,h1,h2,rfl⟩:=h;rfl)
def one:AV->Bool
 |.agg _|.bk _=>false|_=>true
def gU:List AV->Bool
 |[]=>true|x::l=>match one x with|true=>gU l|false=>false
theorem Lp{X:Cx}{v:AV}{V:Value}(h:one v=true)(R:Rel X v V):Ev.iK V=true:=by
 cases v with
 |agg l=>cases h
 |bk l=>cases h
 |fU=>exact R|bool b=>rw[show V=_ from R];rfl|int k n=>rw[show V=_ from R];rfl|str s=>rw[show V=_ from R];rfl|cg=>rw[show V=_ from R];rfl|av=>rw[show V=_ from R];rfl|cE=>rw[show V=_ from R];rfl|cD=>rw[show V=_ from R];rfl|cZ=>rw[show V=_ from R];rfl|ptr b off=>obtain⟨x,c,h1,rfl⟩:=R;rfl
 |da b i z o=>obtain⟨x,c,h1,rfl,_⟩:=R;rfl
 |dO σ d o=>obtain⟨b,off,cs,rfl,_⟩:=R;rfl
 |hd b τ=>obtain⟨l,h1,hc,_⟩:=R;exact hc
 |vw b τ off len=>obtain⟨l,a,c,h1,rfl,_⟩:=R;rfl
 |fz τ L=>obtain⟨a,len,cap,e,_⟩:=R;simp only[List.cons.injEq,and_true]at e;rw[e];rfl
 |func f x c=>obtain⟨xs,cs,rfl,_⟩:=R;rfl
 |eW τ z L=>obtain⟨_,a,l,c,rfl,_⟩:=R;rfl
 |mp b=>obtain⟨x,c,h1,rfl⟩:=R;rfl
 |dk b=>obtain⟨l,h1,rfl⟩:=R;cases l<;>rfl
 |rp b i=>obtain⟨x,c,m,p,h1,h2,rfl⟩:=R;rfl
 |ra b i=>obtain⟨x,c,m,h1,h2,rfl⟩:=R;rfl
theorem yW{X:Cx}:∀{l:List AV}{cs:List Value},gU l=true->bg X l cs->∀V∈cs,Ev.iK V=true
 |[],cs,_,R,V,hV=>by rw[show cs=[]from R]at hV;cases hV
 |x::l,_,h,⟨v,r,rfl,h1,h2⟩,V,hV=>by
  simp only[gU]at h;split at h<;>try cases h
  rename_i hx;rcases List.mem_cons.1 hV with rfl|hV
  .exact Lp hx h1
  .exact yW h h2 V hV
open Go.Proofs.YtdcnjfbffckblaaGreat.Ev (Tr Tr.bz nth bI takeN c9 dH dQ bJ dw fX still eS run_underlying run_typeInfo run_sizeOf bY cX places lj fe jV iI)
def ah(n:Int)(len:Nat):Bool:=decide (0<=n)&&decide (n<(len:Int))
theorem oL{n:Int}{len:Nat}(h:ah n len=true):∃m:Nat,n=(m:Int)/\m<len:=by simp only[ah,Bool.and_eq_true,decide_eq_true_eq]at h;exact⟨n.toNat,by omega,by omega⟩
def both(a b:Bool):Bool:=match a with|true=>b|false=>false
theorem jF{a b:Bool}(h:both a b=true):a=true/\b=true:=by cases a<;>simp_all [both]
def bD(c a b:Bool):Bool:=match c with|true=>a|false=>b
def fV(c:Bool)(a b:Int):Int:=match c with|true=>a|false=>b
def gL(a b:IntKind):Bool:=Nat.beq (Ev.IntKind.num a) (Ev.IntKind.num b)
theorem jc{a b:IntKind}(h:gL a b=true):a=b:=Ev.IntKind.px (aA h)
def qn(k:IntKind)(a b:Int):Int:=k.wrap ((BitVec.ofInt k.bits a &&& BitVec.ofInt k.bits b).toNat:Int)
def rE(k:IntKind)(a b:Int):Int:=k.wrap ((BitVec.ofInt k.bits a ||| BitVec.ofInt k.bits b).toNat:Int)
def Jt(k:IntKind)(a b:Int):Int:=k.wrap ((BitVec.ofInt k.bits a ^^^ BitVec.ofInt k.bits b).toNat:Int)
def Js(k:IntKind)(a b:Int):Int:=k.wrap ((BitVec.ofInt k.bits a &&& ~~~ (BitVec.ofInt k.bits b)).toNat:Int)
def arith(op:BinOp)(k:IntKind)(a b:Int):Option (Bool×AV):=match op with|.add=>some (true,.int k (k.wrap (a+b)))|.sub=>some (true,.int k (k.wrap (a-b)))|.mul=>some (true,.int k (k.wrap (a*b)))|.quo=>some (!(decide (b=0)),.int k (k.wrap (a.tdiv b)))|.rem=>some (!(decide (b=0)),.int k (a.tmod b))|.and=>some (true,.int k (qn k a b))|.or=>some (true,.int k (rE k a b))|.xor=>some (true,.int k (Jt k a b))|.andNot=>some (true,.int k (Js k a b))|.eql=>some (true,.bool (a == b))|.neq=>some (true,.bool (a != b))|.lss=>some (true,.bool (decide (a<b)))|.leq=>some (true,.bool (decide (a<=b)))|.gtr=>some (true,.bool (decide (a > b)))|.geq=>some (true,.bool (decide (a>=b)))|_=>none
def Bm(op:BinOp)(k:IntKind)(a b:Int):Option (Bool×AV):=match op with|.shl=>some (decide (0<=b),.int k (k.wrap (a*2^(min b.toNat k.bits))))|.shr=>some (decide (0<=b),.int k (a.fdiv (2^(min b.toNat k.bits))))|_=>none
def LK:BinOp->Bool|.shl|.shr=>true|_=>false
def Ar(op:BinOp)(a b:ByteArray):Option (Bool×AV):=match op with|.add=>some (decide (((a.size+b.size:Nat):Int)<=IntKind.i64.max),.str (a++b))|.eql=>some (true,.bool (a.toList == b.toList))|.neq=>some (true,.bool (!(a.toList == b.toList)))|.lss=>some (true,.bool (Op.bytesLess a.toList b.toList))|_=>none
def Bt:TypeDesc->AV->AV->Option Bool
 |.pointer _,.cg,.cg=>some true|.pointer _,.cg,.ptr _ _|.pointer _,.ptr _ _,.cg|.pointer _,.cg,.da _ _ _ _|.pointer _,.da _ _ _ _,.cg|.pointer _,.cg,.dO _ _ _|.pointer _,.dO _ _ _,.cg=>some false|.slice _,.av,.av=>some true|.slice _,.eW _ z _,.av=>some z|.slice _,.av,.eW _ z _=>some z|.map _ _,.cE,.cE=>some true|.func _ _ _,.cD,.cD=>some true|.func _ _ _,.cD,.func _ _ _|.func _ _ _,.func _ _ _,.cD=>some false|.bool,.bool a,.bool b=>some (a == b)|_,_,_=>none
def mO(P:Program)(op:BinOp)(t:TypeId)(u v:AV):Option (Bool×AV):=match u,v with
 |.int k a,.int k' b=>match LK op with|true=>Bm op k a b|false=>match gL k k' with|true=>arith op k a b|false=>none
 |.str a,.str b=>Ar op a b|u,v=>match P.underlying t with
  |some d=>match Bt d u v with
   |some b=>match op with|.eql=>some (true,.bool b)|.neq=>some (true,.bool (!b))|_=>none
   |none=>none
  |none=>none
theorem XK{P:Program}{op:BinOp}{k:IntKind}{a b:Int}{g:Bool}{v:AV}(e:arith op k a b=some (g,v))(hg:g=true)(hs:LK op=false)(t:TypeId)(x y:Operand)(X:Cx)(w:World) :
  ∃V,(do eqGuard op t x y (.int k a) (.int k b);binOp op t (.int k a) (.int k b)).run P w=.ok V w/\Rel X v V:=by
 subst hg;cases op<;>simp only[arith,aX,Prod.mk.injEq]at e<;>first|(cases e;done)|skip
 all_goals
  obtain⟨e1,rfl⟩:=e;refine⟨_,?_,rfl⟩
  first
  |(have hb:¬b=0:=(by simpa using e1);simp[eqGuard,binOp,Op.intArith,Op.intDiv,Op.intBits,Op.intCmp,hb])
  |simp[eqGuard,binOp,Op.intArith,Op.intDiv,Op.intBits,Op.intCmp,qn,rE,Jt,Js]
theorem WH{P:Program}{op:BinOp}{k k':IntKind}{a b:Int}{g:Bool}{v:AV}(e:Bm op k a b=some (g,v))(hg:g=true)(t:TypeId)(x y:Operand)(X:Cx)(w:World) :
  ∃V,(do eqGuard op t x y (.int k a) (.int k' b);binOp op t (.int k a) (.int k' b)).run P w=.ok V w/\Rel X v V:=by
 subst hg;cases op<;>simp only[Bm,aX,Prod.mk.injEq]at e<;>first|(cases e;done)|skip
 all_goals
  obtain⟨e1,rfl⟩:=e;have hb:¬b<0:=by have:=of_decide_eq_true e1;omega
  exact⟨_,by simp[eqGuard,binOp,Op.shift,hb],rfl⟩
theorem Xf{P:Program}{op:BinOp}{a b:ByteArray}{g:Bool}{v:AV}(e:Ar op a b=some (g,v))(hg:g=true)(t:TypeId)(x y:Operand)(X:Cx)(w:World) :
  ∃V,(do eqGuard op t x y (.string a) (.string b);binOp op t (.string a) (.string b)).run P w=.ok V w/\Rel X v V:=by
 subst hg;cases op<;>simp only[Ar,aX,Prod.mk.injEq]at e<;>first|(cases e;done)|skip
 all_goals
  obtain⟨e1,rfl⟩:=e;refine⟨_,?_,rfl⟩
  first
  |(have hb:¬(((a.size+b.size:Nat):Int) > IntKind.i64.max):=(by have:=of_decide_eq_true e1;omega);have hs:(Op.stringOp .add a b)=pure (.string (a++b)):=(by unfold Op.stringOp;simp only[];rw[if_neg hb]);simp[eqGuard,binOp,hs];done)
  |simp[eqGuard,binOp,Op.stringOp]
theorem WS{P:Program}{t:TypeId}{d:TypeDesc}{u v:AV}{b:Bool}(hu:P.underlying t=some d)(h:Bt d u v=some b){X:Cx}{U V:Value}(h1:Rel X u U)(h2:Rel X v V)(w:World)(x y:Operand) :
  (do eqGuard .eql t x y U V;binOp .eql t U V).run P w=.ok (.bool b) w/\(do eqGuard .neq t x y U V;binOp .neq t U V).run P w=.ok (.bool (!b)) w:=by
 have hr:=run_underlying hu w;have fin:∀{U V:Value},eqGuard .eql t x y U V=pure ()->eqGuard .neq t x y U V=pure ()->binOp .eql t U V=(do pure (.bool (<- Op.equal t U V)))->binOp .neq t U V=(do pure (.bool (!(<- Op.equal t U V)))) ->
   (∀n,(Op.equalIn (n+1) t U V).run P w=.ok b w) ->
   (do eqGuard .eql t x y U V;binOp .eql t U V).run P w=.ok (.bool b) w/\(do eqGuard .neq t x y U V;binOp .neq t U V).run P w=.ok (.bool (!b)) w:=by
  intro U V g1 g2 g3 g4 g5;have g5:(Op.equal t U V).run P w=.ok b w:=g5 9999;exact⟨by simp[g1,g3,g5],by simp[g2,g4,g5]⟩
 unfold Bt at h;split at h<;>first|(cases h;done)|skip
 all_goals
  simp only[aX]at h;subst h
 .rw[show U=_ from h1,show V=_ from h2];exact fin rfl rfl rfl rfl (fun n=>by simp[Op.equalIn,hr])
 .obtain⟨x₁,c₁,-,rfl⟩:=h2;rw[show U=_ from h1];exact fin rfl rfl rfl rfl (fun n=>by simp[Op.equalIn,hr])
 .obtain⟨x₁,c₁,-,rfl⟩:=h1;rw[show V=_ from h2];exact fin rfl rfl rfl rfl (fun n=>by simp[Op.equalIn,hr])
 .obtain⟨x₁,c₁,-,rfl,-⟩:=h2;rw[show U=_ from h1];exact fin rfl rfl rfl rfl (fun n=>by simp[Op.equalIn,hr])
 .obtain⟨x₁,c₁,-,rfl,-⟩:=h1;rw[show V=_ from h2];exact fin rfl rfl rfl rfl (fun n=>by simp[Op.equalIn,hr])
 .obtain⟨x₁,c₁,c₂,rfl,-⟩:=h2;rw[show U=_ from h1];exact fin rfl rfl rfl rfl (fun n=>by simp[Op.equalIn,hr])
 .obtain⟨x₁,c₁,c₂,rfl,-⟩:=h1;rw[show V=_ from h2];exact fin rfl rfl rfl rfl (fun n=>by simp[Op.equalIn,hr])
 .rw[show U=_ from h1,show V=_ from h2];exact fin rfl rfl rfl rfl (fun n=>by simp[Op.equalIn,hr])
 .obtain⟨-,a,l,c,rfl,hz⟩:=h1;rw[show V=_ from h2];exact fin rfl rfl rfl rfl (fun n=>by cases a<;>simp at hz<;>simp[Op.equalIn,hr,hz])
 .obtain⟨-,a,l,c,rfl,hz⟩:=h2;rw[show U=_ from h1];exact fin rfl rfl rfl rfl (fun n=>by cases a<;>simp at hz<;>simp[Op.equalIn,hr,hz])
 .rw[show U=_ from h1,show V=_ from h2];exact fin rfl rfl rfl rfl (fun n=>by simp[Op.equalIn,hr])
 .rw[show U=_ from h1,show V=_ from h2];exact fin rfl rfl rfl rfl (fun n=>by simp[Op.equalIn,hr])
 .obtain⟨xs,cs,rfl,-⟩:=h2;rw[show U=_ from h1];exact fin rfl rfl rfl rfl (fun n=>by simp[Op.equalIn,hr])
 .obtain⟨xs,cs,rfl,-⟩:=h1;rw[show V=_ from h2];exact fin rfl rfl rfl rfl (fun n=>by simp[Op.equalIn,hr])
 .rw[show U=_ from h1,show V=_ from h2];exact fin rfl rfl rfl rfl (fun n=>by simp[Op.equalIn,hr])
theorem GQ{P:Program}{op:BinOp}{t:TypeId}{u v r:AV}{g:Bool}(e:mO P op t u v=some (g,r))(hg:g=true){X:Cx}{U V:Value}(h1:Rel X u U)(h2:Rel X v V)(x y:Operand)(w:World) :
  ∃R,(do eqGuard op t x y U V;binOp op t U V).run P w=.ok R w/\Rel X r R:=by
 unfold mO at e;split at e
 .rename_i k a k' b;rw[show U=_ from h1,show V=_ from h2];split at e
  .exact WH e hg t x y X w
  .rename_i hs;split at e<;>try cases e
   rename_i hk;have:=jc hk;subst this;exact XK e hg hs t x y X w
 .rename_i a b;rw[show U=_ from h1,show V=_ from h2];exact Xf e hg t x y X w
 .split at e<;>try cases e
  rename_i d hu;split at e<;>try cases e
  rename_i b hb;obtain⟨q1,q2⟩:=WS hu hb h1 h2 w x y;split at e<;>first|(cases e;done)|(cases e;exact⟨_,q1,rfl⟩)|(cases e;exact⟨_,q2,rfl⟩)
def pA(h:Hp):AV->Option (Bool×List AV×Nat)
 |.ptr b off=>match h.tr.get b with|some (.cells l _)=>some (true,l,off)|_=>none
 |.da b i z o=>match h.tr.get b with
  |some (.arr τ L _)=>match Nat.beq z τ.size with|true=>some (true,jG τ (L.getD i τ.zero),o)|false=>none
  |some (.cR τ k L vs _)=>match Nat.beq z τ.size with|true=>some (Nat.beq i k,vs,o)|false=>none
  |_=>none
 |.dO σ d o=>some (true,jG σ d,o)|.ra b i=>match h.tr.get b with|some (.dG _ _)=>some (true,[.rp b i],0)|_=>none
 |_=>none
theorem QV{X:Cx}(H:ab X){u:AV}{g:Bool}{l:List AV}{o:Nat}{U:Value}(e:pA X.h u=some (g,l,o))(hg:g=true)(R:Rel X u U) :
  ∃b off c ty fr cs,U=.pointer (some ⟨b,off+o,none⟩)/\X.w.heap[b]?=some (.cells c ty fr)/\bg X l cs/\∀j v,cs[j]?=some v->c[off+j]?=some v:=by
 unfold pA at e;split at e<;>try cases e
 .rename_i b off;split at e<;>try cases e
  rename_i ty hb;obtain⟨x,c,h1,rfl⟩:=R;obtain⟨x',c',cs,e1,e2,e3⟩:=H.obj b _ _ hb h1;cases e1;exact⟨x,0,_,ty,_,cs,by simp,e2,e3,fun j v q=>by simpa using q⟩
 .rename_i b i z o';split at e<;>try cases e
  .rename_i τ L ty hb;split at e<;>try cases e
   rename_i hz;have hz:=aA hz;subst hz;obtain⟨x,c,h1,rfl,h3⟩:=R;have hi:=h3 _ (gu hb);obtain⟨cs,tail,q1,q2,q3,q4⟩:=H.obj b _ _ hb h1;obtain⟨d,p1,p2⟩:=bc.get (fun x c=>Cs.length) q2 (bu hi);refine⟨x,i*τ.size,_,ty,_,d,rfl,q1,?_,?_⟩
   .rw[dP,bu hi];exact pg p1
   .intro j v hv;have hj:j<τ.size:=by
     rw[<-Cs.length p1];rcases Nat.lt_or_ge j d.length with q|q
     .exact q
     .rw[List.getElem?_eq_none q]at hv;cases hv
    rw[<-p2 j hj]at hv;simp only[List.getElem?_toArray];rw[List.getElem?_append_left]
    .exact hv
    .rcases Nat.lt_or_ge (i*τ.size+j) cs.length with q|q
     .exact q
     .rw[List.getElem?_eq_none q]at hv;cases hv
  .rename_i τ k L vs ty hb;split at e<;>try cases e
   rename_i hz;have hz:=aA hz;subst hz;have hg:=aA hg;subst hg;obtain⟨x,c,h1,rfl,h3⟩:=R;obtain⟨x',c',pre,mid,post,tail,e1,q1,q2,q3,q4,q5,q6,q7,q8⟩:=H.obj b _ _ hb h1;cases e1;have hpre:pre.length=i*τ.size:=by rw[bc.length (fun x c=>Cs.length) q2,df,Nat.min_eq_left (by omega)]
   refine⟨x,i*τ.size,_,ty,_,mid,rfl,q1,q3,?_⟩;intro j v hv;simp only[List.getElem?_toArray];rw[<-hpre,List.getElem?_append_right (by omega),Nat.add_sub_cancel_left,List.getElem?_append_left]
   .exact hv
   .rcases Nat.lt_or_ge j mid.length with q|q
    .exact q
    .rw[List.getElem?_eq_none q]at hv;cases hv
 .rename_i σ d;obtain⟨b,off,cs,rfl,h2,h3,c,ty,fr,h4,h5⟩:=R;exact⟨b,off,c,ty,fr,cs,rfl,h4,pg h3,h5⟩
 .rename_i b i;split at e<;>cases e;rename_i L ty hb;obtain⟨x,c,m,h1,h2,rfl⟩:=R;obtain⟨tail,ty',q1,q2,q3,q4⟩:=H.obj b _ _ hb h1;have hp:=bu h2;refine⟨x,i,_,ty',_,[.pointer (some ⟨m[i].1,0,none⟩)],rfl,q1,⟨_,[],rfl,⟨x,c,m,m[i],h1,hp,rfl⟩,rfl⟩,?_⟩;intro j v hv;cases j with|zero=>simp only[List.getElem?_cons_zero,aX]at hv;subst hv;rw[Nat.add_zero,List.getElem?_toArray,List.getElem?_append_left (by unfold fZ;simpa using h2)];unfold fZ;rw[bT,hp];rfl|succ j=>simp at hv
def jI(P:Program)(t:TypeId)(l:List AV)(off:Nat):Option AV:=match jV P t with
 |some true=>match bY P t with
  |some n=>match Nat.ble (off+n) l.length with|true=>some (.agg (takeN n (c9 off l)))|false=>none
  |none=>none
 |some false=>nth l off|none=>none
theorem sJ{P:Program}{t:TypeId}{l:List AV}{off:Nat}{v:AV}(e:jI P t l off=some v){X:Cx}{cs:List Value}(R:bg X l cs)(w:World) :
  ∃V,(part t cs.toArray off).run P w=.ok V w/\Rel X v V:=by
 unfold jI at e;split at e
 .rename_i ha;split at e<;>try cases e
  rename_i n hn;split at e<;>try cases e
  refine⟨.agg ((cs.drop off).take n).toArray,?_,⟨_,rfl,by rw[dH,dQ];exact(R.drop off).take n⟩⟩;simp[part,iI ha,run_sizeOf hn,List.extract_eq_take_drop]
 .rename_i ha;rw[bI]at e;obtain⟨V,h1,h2⟩:=R.get e;exact⟨V,by simp[part,iI ha,h1],h2⟩
 .cases e
def iM(P:Program)(h:Hp)(t:TypeId)(u:AV):Option (Bool×AV):=match pA h u with
 |some (g,l,o)=>match jI P t l o with|some v=>some (g,v)|none=>none
 |none=>none
theorem sK{P:Program}{t:TypeId}{u v:AV}{g:Bool}{X:Cx}(H:ab X)(e:iM P X.h t u=some (g,v))(hg:g=true){U:Value}(R:Rel X u U) :
  ∃V,(Instr.loadAt t U).run P X.w=.ok V X.w/\Rel X v V:=by
 unfold iM at e;split at e<;>try cases e
 rename_i g' l o hc;split at e<;>cases e;rename_i e;obtain⟨b,off,c,ty,fr,cs,rfl,h1,h2,h3⟩:=QV H hc hg R;unfold jI at e;split at e
 .rename_i ha;split at e<;>try cases e
  rename_i n hn;split at e<;>try cases e
  rename_i hle;have hle:=Nat.le_of_ble_eq_true hle;have hcl:=h2.length;rcases Nat.eq_zero_or_pos n with hz|hz
  .subst hz;exact⟨.agg #[],by simp[Instr.loadAt,Instr.sureAddr,loadVar,iI ha,run_sizeOf hn,loadCells,loadCellsFrom],[],rfl,by simp[takeN,bg]⟩
  have hsz:off+o+n<=c.size:=by have:=h3 (o+n-1) cs[o+n-1] (bu (by omega));have:=fi this;omega
  refine⟨.agg ((cs.drop o).take n).toArray,?_,⟨_,rfl,by rw[dH,dQ];exact(h2.drop o).take n⟩⟩;simp only[Instr.loadAt,Instr.sureAddr,Sem.run_bind,Sem.run_pure,Result.andThen_ok,loadVar,iI ha,if_true,run_sizeOf hn,loadCells];rw[Ev.run_loadCells (P:=P) h1 n 0 #[] (by omega)];simp only[Result.andThen_ok,Sem.run_pure,Nat.add_zero];congr 3;simp only[List.nil_append];apply List.ext_getElem?;intro j;rw[List.getElem?_take,List.getElem?_take];split
  .rename_i hj;rw[List.getElem?_drop,List.getElem?_drop];have:=h3 (o+j) cs[o+j] (bu (by omega));rw[bu (by omega:o+j<cs.length),<-this];simp[Nat.add_assoc]
  .rfl
 .rename_i ha;rw[bI]at e;obtain⟨V,q1,q2⟩:=h2.get e;refine⟨V,?_,q2⟩;have hc:X.w.cell? ⟨b,off+o,none⟩=some V:=by simp only[World.cell?,h1,Option.isSome_none,Bool.false_eq_true,if_false];exact h3 o V q1
  simp[Instr.loadAt,Instr.sureAddr,loadVar,iI ha,run_load,hc]
 .cases e
def od(P:Program)(t:TypeId)(u:AV)(f:Nat):Option AV:=match P.underlying t with
 |some (.struct fields)=>match nth fields.toList f with
  |some fd=>match u with|.agg l=>jI P fd.type l fd.offset|_=>none
  |none=>none
 |_=>none
theorem Gm{P:Program}{t:TypeId}{u v:AV}{f:Nat}(h:od P t u f=some v){X:Cx}{U:Value}(R:Rel X u U)(w:World) :
  ∃V,(Instr.field t U f).run P w=.ok V w/\Rel X v V:=by
 unfold od at h;cases hu:P.underlying t with
 |none=>simp[hu]at h|some d=>
  have hr:=run_underlying hu w;cases d<;>simp only[hu]at h<;>try cases h
  rename_i fields;cases hf:nth fields.toList f<;>simp only[hf]at h
  .cases h
  rename_i fd;rw[bI]at hf;cases u<;>simp only[]at h<;>try cases h
  have hf':fields[f]?=some fd:=by simpa using hf
  obtain⟨cs,rfl,R'⟩:=R;obtain⟨V,q1,q2⟩:=sJ h R' w;exact⟨V,by simp[Instr.field,hr,hf',asAgg,q1],q2⟩
def BK:AV->Nat->Option AV
 |.ptr b off,n=>some (.ptr b (off+n))|.da b i z o,n=>some (.da b i z (o+n))|.dO σ d o,n=>some (.dO σ d (o+n))|_,_=>none
theorem Xc{X:Cx}{u v:AV}{n:Nat}{U:Value}(e:BK u n=some v)(R:Rel X u U):∃b o,U=.pointer (some ⟨b,o,none⟩)/\Rel X v (.pointer (some ⟨b,o+n,none⟩)):=by
 unfold BK at e;split at e<;>cases e
 .obtain⟨x,c,h1,rfl⟩:=R;exact⟨_,_,rfl,x,c,h1,rfl⟩
 .obtain⟨x,c,h1,rfl,h3⟩:=R;exact⟨_,_,rfl,x,c,h1,by simp[Nat.add_assoc],h3⟩
 .obtain⟨b,off,cs,rfl,h⟩:=R;exact⟨_,_,rfl,b,off,cs,by simp[Nat.add_assoc],h⟩
def nS(P:Program)(t:TypeId)(u:AV)(f:Nat):Option AV:=match P.underlying t with
 |some (.struct fields)=>match nth fields.toList f with
  |some fd=>match bY P fd.type with|some (n+1)=>BK u fd.offset|_=>none
  |none=>none
 |_=>none
theorem Ga{P:Program}{t:TypeId}{u v:AV}{f:Nat}(h:nS P t u f=some v){X:Cx}{U:Value}(R:Rel X u U)(w:World) :
  ∃V,(Instr.fieldAt t U f).run P w=.ok V w/\Rel X v V:=by
 unfold nS at h;cases hu:P.underlying t with
 |none=>simp[hu]at h|some d=>
  have hr:=run_underlying hu w;cases d<;>simp only[hu]at h<;>try cases h
  rename_i fields;cases hf:nth fields.toList f<;>simp only[hf]at h
  .cases h
  rename_i fd;rw[bI]at hf;have hf':fields[f]?=some fd:=by simpa using hf
  split at h<;>try cases h
  rename_i n hs;obtain⟨b,o,rfl,q⟩:=Xc h R;exact⟨_,by simp[Instr.fieldAt,hr,hf',Instr.sureAddr,fieldPlace,run_sizeOf hs,cX],q⟩
def j8(P:Program)(h:Hp)(t:TypeId)(u i:AV):Option (Bool×AV):=match i with
 |.int k n=>match P.underlying t with
  |some (.slice elem)=>match bY P elem with
   |some sz=>match u with
    |.hd b _=>match h.tr.get b with
     |some (.arr τ L _)=>match Nat.beq sz τ.size with|true=>some (ah n L.length,.da b n.toNat sz 0)|false=>none
     |some (.cR τ _ L _ _)=>match Nat.beq sz τ.size with|true=>some (ah n L.length,.da b n.toNat sz 0)|false=>none
     |_=>none
    |.vw b τ off len=>match Nat.beq sz τ.size with
     |true=>match h.tr.get b with|some (.cells _ _)=>some (ah n len,.ptr b ((off+n.toNat)*sz))|some (.arr _ _ _)=>some (ah n len,.da b (off+n.toNat) sz 0)|_=>none
     |false=>none
    |.fz τ L=>match Nat.beq sz τ.size with|true=>some (ah n L.length,.dO τ (L.getD n.toNat τ.zero) 0)|false=>none
    |.dk b=>match h.tr.get b with
     |some (.dG L _)=>match Nat.beq sz 1 with|true=>some (ah n L.length,.ra b n.toNat)|false=>none
     |_=>none
    |_=>none
   |none=>none
  |some (.array len elem)=>match n with
   |.ofNat n=>match u,bY P elem with
    |.ptr b off,some sz=>match Nat.blt n len with|true=>some (true,.ptr b (off+n*sz))|false=>none
    |_,_=>none
   |_=>none
  |_=>none
 |_=>none
theorem F9{P:Program}{t:TypeId}{u i v:AV}{g:Bool}{X:Cx}(H:ab X)(h:j8 P X.h t u i=some (g,v))(hg:g=true){U I:Value}(R:Rel X u U)(RI:Rel X i I)(w:World) :
  ∃V,(Instr.indexAt t U I).run P w=.ok V w/\Rel X v V:=by
 subst hg;unfold j8 at h;cases i<;>simp only[]at h<;>try cases h
 rename_i k n;rw[show I=_ from RI];cases hu:P.underlying t with
 |none=>simp[hu]at h|some d=>
  have hr:=run_underlying hu w;cases d<;>simp only[hu]at h<;>try cases h
  .rename_i elem;split at h<;>try cases h
   rename_i sz hs;split at h<;>try cases h
   .rename_i b τ₀;have fin:∀(n':Nat),rowOf X.h.tr b=some n'->ah n n'=true->(∀l,X.s b=some l->∃x c,l=.at x c\/n'=0)->∃V,(Instr.indexAt t U (.int k n)).run P w=.ok V w/\Rel X (.da b n.toNat sz 0) V:=by
     intro n' hrow ba hl;obtain⟨m,rfl,hm⟩:=oL ba;obtain⟨l,h1,_,h2⟩:=R;have hV:=h2 n' hrow;obtain⟨x,c,rfl|rfl⟩:=hl l h1
     .subst hV;refine⟨.pointer (some ⟨x,m*sz,none⟩),by simp[Loc.slice,Instr.indexAt,asIntOf,hr,run_sizeOf hs,cX,hm],x,c,h1,by simp,?_⟩;intro n₂ q;rw[hrow]at q;cases q;simpa using hm
     .exact absurd hm (by omega)
    split at h<;>try cases h
    .rename_i τ L ty hb;split at h<;>try cases h
     rename_i hz;simp only[aX,Prod.mk.injEq]at h;obtain⟨ba,rfl⟩:=h;refine fin _ (gu hb) ba fun l h1=>?_;cases l with|nil=>have hL:L=[]:=H.obj b _ _ hb h1;subst hL;exact⟨0,0,.inr rfl⟩|bN _ _ _=>exact(H.obj b _ _ hb h1:False).elim|«at» x c=>exact⟨x,c,.inl rfl⟩
    .rename_i τ i₀ L vs ty hb;split at h<;>try cases h
     rename_i hz;simp only[aX,Prod.mk.injEq]at h;obtain⟨ba,rfl⟩:=h;refine fin _ (OI hb) ba fun l h1=>?_;obtain⟨x,c,pre,mid,post,tail,e1,_⟩:=H.obj b _ _ hb h1;exact⟨x,c,.inl e1⟩
   .rename_i b τ off len;split at h<;>try cases h
    rename_i hz;have hz:=aA hz;subst hz;obtain⟨l,a,c,h1,rfl,h3,h4,h5,h6⟩:=R;split at h<;>try cases h
    .simp only[aX,Prod.mk.injEq]at h;obtain⟨ba,rfl⟩:=h;obtain⟨m,rfl,hm⟩:=oL ba;obtain⟨x,k',rfl,rfl⟩:=h4 (by omega);exact⟨.pointer (some ⟨x,off*τ.size+m*τ.size,none⟩),by simp[Instr.indexAt,asIntOf,hr,run_sizeOf hs,cX,hm],x,k',h1,by simp[Nat.add_mul]⟩
    .simp only[aX,Prod.mk.injEq]at h;obtain⟨ba,rfl⟩:=h;obtain⟨m,rfl,hm⟩:=oL ba;obtain⟨x,k',rfl,rfl⟩:=h4 (by omega);refine⟨.pointer (some ⟨x,off*τ.size+m*τ.size,none⟩),by simp[Instr.indexAt,asIntOf,hr,run_sizeOf hs,cX,hm],x,k',h1,by simp[Nat.add_mul],?_⟩;intro n' q;have:=h6 n' q;simp;omega
   .rename_i τ L;split at h<;>try cases h
    rename_i hz;have hz:=aA hz;subst hz;simp only[aX,Prod.mk.injEq]at h;obtain⟨ba,rfl⟩:=h;obtain⟨m,rfl,hm⟩:=oL ba;obtain⟨a,len,cap,e1,e2,e3,e4⟩:=R;simp only[List.cons.injEq,and_true]at e1;subst e1;obtain⟨b,o,Y,rfl,q2,q3,q4⟩:=e4 (by intro q;subst q;simp at hm);subst e2;have hget:L[m]?=some L[m]:=bu hm;obtain⟨d,p1,p2⟩:=bc.get (fun x c=>Cs.length) q3 hget;obtain⟨c,ty,fr,r1,r2⟩:=q4;refine⟨.pointer (some ⟨b,o+m*τ.size,none⟩),by simp[Instr.indexAt,asIntOf,hr,run_sizeOf hs,cX,hm],b,o+m*τ.size,d,by simp,q2,?_,c,ty,fr,r1,?_⟩
    .rw[Int.toNat_natCast,dP,hget];exact p1
    .intro j u hj;have hj':j<τ.size:=by
      rw[<-Cs.length p1];rcases Nat.lt_or_ge j d.length with q|q
      .exact q
      .rw[List.getElem?_eq_none q]at hj;cases hj
     rw[<-p2 j hj']at hj;have:=r2 _ _ hj;rw[Nat.add_assoc];exact this
   .rename_i b;split at h<;>try cases h
    rename_i L ty hb;split at h<;>try cases h
    rename_i hz;have hz:=aA hz;subst hz;simp only[aX,Prod.mk.injEq]at h;obtain⟨ba,rfl⟩:=h;obtain⟨m,rfl,hm⟩:=oL ba;obtain⟨l,h1,rfl⟩:=R;cases l with|nil=>have hL:L=[]:=H.obj b _ _ hb h1;subst hL;simp at hm|«at» x c=>exact(H.obj b _ _ hb h1:False).elim|bN x c ps=>obtain⟨tail,ty',q1,q2,q3,q4⟩:=H.obj b _ _ hb h1;have hl:=q3.len;exact⟨.pointer (some ⟨x,m,none⟩),by simp[Loc.Jl,Instr.indexAt,asIntOf,hr,run_sizeOf hs,cX,hl,hm],x,c,ps,h1,by simp;omega,by simp⟩
  .split at h<;>try cases h
   rename_i n;split at h<;>try cases h
   rename_i b off sz hs;split at h<;>try cases h
   rename_i hb;rw[Nat.blt_eq]at hb;obtain⟨x,c,h1,rfl⟩:=R;exact⟨_,by simp[Instr.indexAt,asIntOf,hr,run_sizeOf hs,cX,hb,Instr.sureAddr],x,c,h1,rfl⟩
open Go.Proofs.YtdcnjfbffckblaaGreat.Ev (Tr Tr.bz nth bI takeN c9 dH dQ bJ dw fX still eS run_underlying run_typeInfo run_sizeOf bY cX places lj fe jV iI jA yq)
def cU(T:Tr AV)(x:Option Operand):Option (Option Int):=match x with|none=>some none|some x=>match aM T x with|some (.int _ n)=>some (some n)|_=>none
theorem AF{T:Tr AV}{x:Option Operand}(h:cU T x=some none):x=none:=by
 unfold cU at h;split at h
 .rfl
 .split at h<;>cases h
theorem AE{X:Cx}{T:Tr AV}{a:Act}{x:Option Operand}{n:Int}(h:cU T x=some (some n))(hr:∀y,x=some y->∀u,aM T y=some u->Rel X u (a.eval y)):∃y k,x=some y/\a.eval y=.int k n:=by
 unfold cU at h;split at h
 .cases h
 .rename_i y;split at h<;>try cases h
  rename_i k hy;exact⟨y,k,rfl,hr y rfl _ hy⟩
def lenOf(h:Hp):AV->Option Nat
 |.hd b _=>match h.tr.get b with|some (.arr _ L _)=>some L.length|some (.cR _ _ L _ _)=>some L.length|_=>none
 |.vw _ _ _ len=>some len|.fz _ L=>some L.length|.eW _ _ L=>some L.length|.av=>some 0|.dk b=>match h.tr.get b with|some (.dG L _)=>some L.length|_=>none
 |_=>none
theorem J4{X:Cx}(H:ab X){u:AV}{n:Nat}{U:Value}(e:lenOf X.h u=some n)(R:Rel X u U):∃a c,U=.slice a n c/\n<=c:=by
 unfold lenOf at e;split at e<;>try cases e
 .rename_i b τ;split at e<;>try cases e
  .rename_i τ' L ty hb;obtain⟨l,h1,_,h2⟩:=R;rw[h2 _ (gu hb)];cases l with|nil=>have hL:L=[]:=H.obj b _ _ hb h1;subst hL;exact⟨none,0,rfl,Nat.le_refl _⟩|bN _ _ _=>exact(H.obj b _ _ hb h1:False).elim|«at» x c=>obtain⟨cs,tail,q1,q2,q3,q4⟩:=H.obj b _ _ hb h1;exact⟨_,c,rfl,q4⟩
  .rename_i τ' i' L vs ty hb;obtain⟨l,h1,_,h2⟩:=R;rw[h2 _ (OI hb)];obtain⟨x,c,pre,mid,post,tail,rfl,_,_,_,_,_,_,_,q⟩:=H.obj b _ _ hb h1;exact⟨_,c,rfl,q⟩
 .obtain⟨l,a,c,h1,rfl,h3,_⟩:=R;exact⟨a,c,rfl,h3⟩
 .obtain⟨a,len,cap,e1,e2,e3,_⟩:=R;simp only[List.cons.injEq,and_true]at e1;subst e1;subst e2;exact⟨a,cap,rfl,e3⟩
 .obtain⟨⟨a,len,cap,e1,e2,e3,_⟩,_⟩:=R;simp only[List.cons.injEq,and_true]at e1;subst e1;subst e2;exact⟨a,cap,rfl,e3⟩
 .rw[show U=_ from R];exact⟨none,0,rfl,Nat.le_refl _⟩
 .rename_i b;split at e<;>cases e;rename_i L ty hb;obtain⟨l,h1,rfl⟩:=R;cases l with|nil=>have hL:L=[]:=H.obj b _ _ hb h1;subst hL;exact⟨none,0,rfl,Nat.le_refl _⟩|«at» x c=>exact(H.obj b _ _ hb h1:False).elim|bN x c m=>obtain⟨tail,ty',q1,q2,q3,q4⟩:=H.obj b _ _ hb h1;exact⟨some ⟨x,0,none⟩,c,by rw[<-q3.len];rfl,by rw[<-q3.len];omega⟩
def okB(lo hi:Option Int)(len:Nat):Bool:=match lo,hi with|none,none=>true|some l,none=>both (decide (0<=l)) (decide (l<=(len:Int)))|none,some r=>both (decide (0<=r)) (decide (r<=(len:Int)))|some l,some r=>both (decide (0<=l)) (both (decide (l<=r)) (decide (r<=(len:Int))))
def dt:Option Int->Nat|none=>0|some l=>l.toNat
def dB:Option Int->Nat->Nat|none,n=>n|some r,_=>r.toNat
theorem qS{lo hi:Option Int}{len:Nat}(h:okB lo hi len=true):dt lo<=dB hi len/\dB hi len<=len/\(∀l,lo=some l->l=(dt lo:Int))/\(∀r,hi=some r->r=(dB hi len:Int)):=by
 cases lo<;>cases hi<;>simp only[okB]at h
 .exact⟨by simp[dt],by simp[dB],by simp,by simp⟩
 .rename_i r;obtain⟨h1,h2⟩:=jF h;simp only[decide_eq_true_eq]at h1 h2;refine⟨by simp[dt],by simp only[dB];omega,by simp,?_⟩;rintro r' q;cases q;simp only[dB];omega
 .rename_i l;obtain⟨h1,h2⟩:=jF h;simp only[decide_eq_true_eq]at h1 h2;refine⟨by simp only[dt,dB];omega,by simp[dB],?_,by simp⟩;rintro l' q;cases q;simp only[dt];omega
 .rename_i l r;obtain⟨h1,h2⟩:=jF h;obtain⟨h2,h3⟩:=jF h2;simp only[decide_eq_true_eq]at h1 h2 h3;refine⟨by simp only[dt,dB];omega,by simp only[dB];omega,?_,?_⟩
  .rintro l' q;cases q;simp only[dt];omega
  .rintro r' q;cases q;simp only[dB];omega
theorem mg{P:Program}{X:Cx}{T:Tr AV}{a:Act}{lo hi:Option Operand}{l h:Option Int}{len cap:Nat}(hr:∀x,(lo=some x\/hi=some x)->∀u,aM T x=some u->Rel X u (a.eval x))
  (h1:cU T lo=some l) (h2:cU T hi=some h) (hok:okB l h len=true) (hc:len<=cap) (b:Bool) (w:World) :
  (Instr.sliceBounds b len cap (lo.map a.eval) (hi.map a.eval) none).run P w=.ok (dt l,dB h len,cap) w:=by
 obtain⟨q1,q2,q3,q4⟩:=qS hok;have bd:∀(k:IntKind) (n y:Nat) (code:BoundsCode),n<=y->(Instr.sliceBound (.int k (n:Int)) y code).run P w=.ok n w:=fun k n y code h=>by simp[Instr.sliceBound,asIntOf,h]
 unfold Instr.sliceBounds;cases l with
 |none=>
  have:=AF h1;subst this;cases h with
  |none=>have:=AF h2;subst this;simp[dt,dB]|some r=>
   obtain⟨y,k,rfl,hy⟩:=AE h2 (fun y hy=>hr y (.inr hy));obtain⟨m,rfl⟩:∃m:Nat,r=(m:Int):=⟨_,q4 r rfl⟩;have hm:dB (some (m:Int)) len=m:=by simp[dB]
   rw[hm]at q2 |-;simp only[Option.map_some,Option.map_none,hy];simp[bd,dt,Nat.le_trans q2 hc]
 |some l=>
  obtain⟨x,kx,rfl,hx⟩:=AE h1 (fun y hy=>hr y (.inl hy));obtain⟨ml,rfl⟩:∃m:Nat,l=(m:Int):=⟨_,q3 l rfl⟩;have hml:dt (some (ml:Int))=ml:=by simp[dt]
  rw[hml]at q1 |-;cases h with
  |none=>have:=AF h2;subst this;simp only[Option.map_some,Option.map_none,hx];simp only[dB]at q1;simp[bd,dB,q1]|some r=>
   obtain⟨y,k,rfl,hy⟩:=AE h2 (fun y hy=>hr y (.inr hy));obtain⟨m,rfl⟩:∃m:Nat,r=(m:Int):=⟨_,q4 r rfl⟩;have hm:dB (some (m:Int)) len=m:=by simp[dB]
   rw[hm]at q1 q2 |-;simp only[Option.map_some,hx,hy];simp[bd,q1,Nat.le_trans q2 hc]
def D6{α:Type}(lo hi:Option Int)(L:List α):List α:=match lo,hi with|none,none=>L|some l,none=>L.drop l.toNat|none,some r=>L.take r.toNat|some l,some r=>(L.drop l.toNat).take (r.toNat-l.toNat)
theorem TG{α:Type}(lo hi:Option Int)(L:List α):D6 lo hi L=(L.drop (dt lo)).take (dB hi L.length-dt lo):=by
 cases lo<;>cases hi<;>simp[D6,dt,dB]
 .rw[List.take_of_length_le (by simp)]
def kf(P:Program)(h:Hp)(T:Tr AV)(t:TypeId)(u:AV)(lo hi:Option Operand):Option (Bool×AV):=match cU T lo,cU T hi with
 |some l,some r=>match P.underlying t with
  |some (.slice elem)=>match bY P elem with
   |some sz=>match u with
    |.hd b τ=>match h.tr.get b with
     |some (.arr τ' L _)=>match Nat.beq sz τ.size with|true=>some (okB l r L.length,.vw b τ (dt l) (dB r L.length-dt l))|false=>none
     |_=>none
    |.vw b τ off len=>match Nat.beq sz τ.size with|true=>some (okB l r len,.vw b τ (off+dt l) (dB r len-dt l))|false=>none
    |.fz τ L=>match Nat.beq sz τ.size with|true=>some (okB l r L.length,.fz τ (D6 l r L))|false=>none
    |.av=>some (okB l r 0,.av)|_=>none
   |none=>none
  |some .string=>match u with|.str x=>some (okB l r x.size,.str (x.extract (dt l) (dB r x.size)))|_=>none
  |_=>none
 |_,_=>none
theorem GJ(x o n sz m l:Nat)(h:l<m):(if m=l then(some ⟨x,o,none⟩:Option Addr)else(some ⟨x,o,none⟩:Option Addr).map (·.add (l*sz)))=some ⟨x,o+l*sz,none⟩:=by rw[if_neg (by omega)];simp[cX]
theorem Gj{P:Program}{T:Tr AV}{t:TypeId}{u v:AV}{lo hi:Option Operand}{g:Bool}{X:Cx}(H:ab X)(e:kf P X.h T t u lo hi=some (g,v))(hg:g=true){U:Value}(R:Rel X u U){a:Act}
  (hr:∀x,(lo=some x\/hi=some x)->∀u,aM T x=some u->Rel X u (a.eval x)) (w:World) :
  ∃V,(Instr.sliceAt t U (lo.map a.eval) (hi.map a.eval) none).run P w=.ok V w/\Rel X v V:=by
 subst hg;unfold kf at e;split at e<;>try cases e
 rename_i l r h1 h2;split at e
 .rename_i elem hu;have hru:=run_underlying hu w;split at e<;>try cases e
  rename_i sz hs;have main:∀(A:Option Addr) (len cap:Nat),okB l r len=true->len<=cap->(Instr.sliceAt t (.slice A len cap) (lo.map a.eval) (hi.map a.eval) none).run P w =
    .ok (.slice (if cap=dt l then A else A.map (·.add (dt l*sz))) (dB r len-dt l) (cap-dt l)) w:=by
   intro A len cap hok hc;simp only[Instr.sliceAt,Instr.slice,Sem.run_bind,hru,Result.andThen_ok,mg hr h1 h2 hok hc true w,run_sizeOf hs,Sem.run_pure]
  split at e<;>try cases e
  .rename_i b τ;split at e<;>try cases e
   rename_i τ' L ty hb;split at e<;>try cases e
   rename_i hz;have hz:=aA hz;subst hz;simp only[aX,Prod.mk.injEq]at e;obtain⟨hok,rfl⟩:=e;obtain⟨q1,q2,_,_⟩:=qS hok;obtain⟨A,c,rfl,hc⟩:=J4 H (show lenOf X.h (.hd b τ)=some L.length by simp[lenOf,hb]) R;obtain⟨k,g1,_,g2⟩:=R;have g3:=g2 _ (gu hb);refine⟨_,main A L.length c hok hc,k,_,_,g1,rfl,by omega,?_,?_,?_⟩
   .intro hp;cases k with|nil=>simp[Loc.slice]at g3;omega|bN _ _ _=>exact(H.obj b _ _ hb g1:False).elim|«at» x k=>simp only[Loc.slice,Value.slice.injEq,true_and]at g3;obtain⟨rfl,rfl⟩:=g3;exact⟨x,c,rfl,by rw[GJ x 0 0 _ _ _ (by omega)];simp⟩
   .intro h0;rw[h0];cases k with
    |nil=>simp only[Loc.slice,Value.slice.injEq,true_and]at g3;obtain⟨rfl,rfl⟩:=g3;simp[Loc.slice]
    |bN _ _ _=>exact(H.obj b _ _ hb g1:False).elim|«at» x k=>simp only[Loc.slice,Value.slice.injEq,true_and]at g3;obtain⟨rfl,rfl⟩:=g3;simp[Loc.slice,cX]
   .intro n₁ q;rw[gu hb]at q;cases q;omega
  .rename_i b τ off len;split at e<;>try cases e
   rename_i hz;have hz:=aA hz;subst hz;simp only[aX,Prod.mk.injEq]at e;obtain⟨hok,rfl⟩:=e;obtain⟨q1,q2,_,_⟩:=qS hok;obtain⟨k,A,c,g1,rfl,g3,g4,g5,g6⟩:=R;refine⟨_,main A len c hok g3,k,_,_,g1,rfl,by omega,?_,?_,?_⟩
   .intro hp;obtain⟨x,k',rfl,rfl⟩:=g4 (by omega);exact⟨x,k',rfl,by rw[GJ x _ 0 _ _ _ (by omega)];simp[Nat.add_mul]⟩
   .intro h0;have h01:off=0:=by omega
    have h02:dt l=0:=by omega
    have g5:=g5 h01;rw[h02];cases k with
    |nil=>simp only[Loc.slice,Value.slice.injEq,true_and]at g5;obtain⟨rfl,rfl⟩:=g5;simp[Loc.slice]
    |bN x k m=>simp only[Loc.slice,Value.slice.injEq,true_and]at g5;obtain⟨rfl,rfl⟩:=g5;simp[Loc.slice,cX]
    |«at» x k=>simp only[Loc.slice,Value.slice.injEq,true_and]at g5;obtain⟨rfl,rfl⟩:=g5;simp[Loc.slice,cX]
   .intro n₁ q;have:=g6 _ q;omega
  .rename_i τ L;split at e<;>try cases e
   rename_i hz;have hz:=aA hz;subst hz;simp only[aX,Prod.mk.injEq]at e;obtain⟨hok,rfl⟩:=e;obtain⟨q1,q2,_,_⟩:=qS hok;obtain⟨A,len,cap,e1,e2,e3,e4⟩:=R;simp only[List.cons.injEq,and_true]at e1;subst e1;subst e2;refine⟨_,main A _ cap hok e3,?_⟩;rw[TG];refine⟨_,_,_,rfl,by simp;omega,by omega,fun hne=>?_⟩;have hpos:dt l<dB r L.length:=by
    rcases Nat.lt_or_ge (dt l) (dB r L.length)with q|q
    .exact q
    .rw[show dB r L.length-dt l=0 by omega,List.take_zero]at hne;exact absurd rfl hne
   have hL:L≠[]:=by rintro rfl;simp only[List.length_nil]at q1 q2 hpos;omega
   obtain⟨b,o,Y,rfl,p2,p3,c,ty,fr,p4,p5⟩:=e4 hL;refine⟨b,o+dt l*τ.size,(Y.drop (dt l*τ.size)).take ((dB r L.length-dt l)*τ.size),GJ _ _ 0 _ _ _ (by omega),p2,bc.take (fun x c=>Cs.length) _ (bc.drop (fun x c=>Cs.length) _ p3),c,ty,fr,p4,?_⟩;intro j v hv;rw[List.getElem?_take]at hv;split at hv
   .rw[List.getElem?_drop]at hv;have:=p5 _ _ hv;rw[Nat.add_assoc];exact this
   .cases hv
  .simp only[aX,Prod.mk.injEq]at e;obtain⟨hok,rfl⟩:=e;obtain⟨q1,q2,_,_⟩:=qS hok;rw[show U=_ from R];refine⟨_,main none 0 0 hok (Nat.le_refl _),?_⟩;show _=_;have:dB r 0=0:=by omega
   simp[this]
 .rename_i hu;have hru:=run_underlying hu w;split at e<;>try cases e
  rename_i x;simp only[aX,Prod.mk.injEq]at e;obtain⟨hok,rfl⟩:=e;rw[show U=_ from R];refine⟨_,?_,rfl⟩;simp only[Instr.sliceAt,Instr.slice,Sem.run_bind,hru,Result.andThen_ok,Option.isSome_none,Bool.false_eq_true,if_false,Sem.run_pure];simp only[mg hr h1 h2 hok (Nat.le_refl _) false w,Result.andThen_ok,Sem.run_pure]
 .cases e
def fN(place:Nat->Option (Nat×Nat)):List AV->List (Nat×AV)->Option (List AV)
 |cells,[]=>some cells|cells,(i,v)::rest=>match place i with|none=>none|some (off,size)=>match Nat.beq (bK v).length size,Nat.ble (off+size) cells.length with|true,true=>fN place (takeN off cells++(bK v++c9 (off+size) cells)) rest|_,_=>none
def uk(X:Cx):List (Nat×AV)->List (Nat×Value)->Prop
 |[],ps=>ps=[]|x::l,ps=>∃V r,ps=(x.1,V)::r/\Rel X x.2 V/\uk X l r
theorem yC{X:Cx}(place:Nat->Option (Nat×Nat)):∀(parts:List (Nat×AV)) (ps:List (Nat×Value)) (cells r:List AV) (cs:List Value),fN place cells parts=some r->uk X parts ps->bg X cells cs ->
  ∃rs,Instr.fill place cs.toArray ps=some rs.toArray/\bg X r rs
 |[],ps,cells,r,cs,h,hp,hc=>by simp[fN]at h;subst h;rw[show ps=[]from hp];exact⟨cs,rfl,hc⟩|(i,v)::rest,ps,cells,r,cs,h,hp,hc=>by
  obtain⟨V,qs,rfl,hv,hq⟩:=hp;simp only[fN]at h;cases hpl:place i<;>simp only[hpl]at h
  .cases h
  rename_i q;obtain⟨off,size⟩:=q;simp only[]at h;cases h1:Nat.beq (bK v).length size<;>cases h2:Nat.ble (off+size) cells.length<;>simp only[h1,h2]at h<;>first|cases h|skip
  have h1:=aA h1;have h2:=Nat.le_of_ble_eq_true h2;have hvl:=ij hv;have hl:V.cells.size=size:=by rw[<-Array.length_toList,hvl.length,h1]
  have hcl:=hc.length;rw[dH,dQ]at h;obtain⟨rs,q1,q2⟩:=yC place rest qs _ r (cs.take off++(V.cells.toList++cs.drop (off+size))) h hq ((hc.take off).append (hvl.append (hc.drop (off+size))));refine⟨rs,?_,q2⟩;simp only[Instr.fill,hpl];rw[if_neg (by simp[hl];omega),<-q1];congr 1;apply Array.toList_inj.1;have hz:V.cells.zipIdx.foldl (fun cs (x:Value×Nat)=>cs.setIfInBounds (off+x.2) x.1) cs.toArray
    = (V.cells.toList.zipIdx 0).foldl (fun cs (x:Value×Nat)=>cs.setIfInBounds (off+x.2) x.1) cs.toArray:=by
   rw[<-Array.foldl_toList];simp
  have:=yq off V.cells.toList 0 cs.toArray (by simp[hl];omega);rw[hz,this];simp[hl]
def eU(T:Tr AV):List (Nat×Operand)->Option (List (Nat×AV))
 |[]=>some []|(i,x)::l=>match aM T x with
  |some v=>match eU T l with|some vs=>some ((i,v)::vs)|none=>none
  |none=>none
theorem Gk{X:Cx}{T:Tr AV}{a:Act}:∀{l:List (Nat×Operand)}{vs:List (Nat×AV)},eU T l=some vs ->
  (∀x∈l.map (·.2),∀u,aM T x=some u->Rel X u (a.eval x))->uk X vs (l.map fun x=>(x.1,a.eval x.2))
 |[],vs,h,_=>by simp[eU]at h;subst h;rfl|(i,x)::l,vs,h,hr=>by
  simp only[eU]at h;cases hv:aM T x<;>simp only[hv]at h
  .cases h
  cases hl:eU T l<;>simp only[hl]at h
  .cases h
  simp at h;subst h;exact⟨_,_,rfl,hr x (by simp) _ hv,Gk hl (fun y hy=>hr y (by simp only[List.map_cons];exact List.mem_cons_of_mem _ hy))⟩
def nX(P:Program)(t:TypeId)(parts:List (Nat×AV)):Option AV:=match P.underlying t with
 |some (.struct fields)=>match dx P t,places P fields.toList with
  |some z,some ps=>match fN (fun i=>nth ps i) (bK z) parts with|some r=>some (.agg r)|none=>none
  |_,_=>none
 |some (.array _ elem)=>match dx P t,bY P elem with
  |some z,some sz=>match fN (fun i=>some (i*sz,sz)) (bK z) parts with|some r=>some (.agg r)|none=>none
  |_,_=>none
 |_=>none
theorem Gn{P:Program}{t:TypeId}{parts:List (Nat×AV)}{v:AV}(e:nX P t parts=some v){X:Cx}(w:World)(ps:Array (Nat×Value))(hp:uk X parts ps.toList) :
  ∃V,(Instr.build t ps).run P w=.ok V w/\Rel X v V:=by
 unfold nX at e;split at e
 .rename_i fields hu;split at e<;>try cases e
  rename_i z q hz hq;split at e<;>try cases e
  rename_i r hr;obtain⟨Z,hZ,RZ⟩:=fc hz X w;obtain⟨rs,f1,f2⟩:=yC _ _ _ _ _ _ hr hp (ij RZ);have hfun:(fun i=>(q.toArray:Array (Nat×Nat))[i]?)=fun i=>nth q i:=by funext i;rw[bI];simp
  refine⟨.agg rs.toArray,?_,rs,rfl,f2⟩;rw[Array.toArray_toList]at f1;simp only[Instr.build,Sem.run_bind,hZ,Result.andThen_ok,run_underlying hu,lj hq,Sem.run_pure];rw[hfun,f1];simp
 .rename_i k elem hu;split at e<;>try cases e
  rename_i z sz hz hs;split at e<;>try cases e
  rename_i r hr;obtain⟨Z,hZ,RZ⟩:=fc hz X w;obtain⟨rs,f1,f2⟩:=yC _ _ _ _ _ _ hr hp (ij RZ);refine⟨.agg rs.toArray,?_,rs,rfl,f2⟩;rw[Array.toArray_toList]at f1;simp only[Instr.build,Sem.run_bind,hZ,Result.andThen_ok,run_underlying hu,run_sizeOf hs,Sem.run_pure];rw[f1];simp
 .cases e
def oD(P:Program)(h:Hp)(ts:Array TypeId)(u:AV):Option AV:=match nth ts.toList 0 with
 |some t=>match P.underlying t with
  |some (.slice _)=>match lenOf h u with|some n=>some (.int .i64 (n:Int))|none=>none
  |some .string=>match u with|.str x=>some (.int .i64 (x.size:Int))|_=>none
  |some (.array n _)=>some (.int .i64 (n:Int))|_=>none
 |none=>none
theorem XC{P:Program}{ts:Array TypeId}{u v:AV}{X:Cx}(H:ab X)(e:oD P X.h ts u=some v){U:Value}(R:Rel X u U)(ty:TypeId)(w:World) :
  ∃V,(Builtin.len_ ts ty #[U]).run P w=.ok V w/\Rel X v V:=by
 unfold oD at e;split at e<;>try cases e
 rename_i t ht;have ht:ts[0]?=some t:=by rw[bI]at ht;simpa using ht
 split at e
 .rename_i hu;split at e<;>try cases e
  rename_i n hn;obtain⟨A,c,rfl,_⟩:=J4 H hn R;exact⟨_,by simp[Builtin.len_,ht,run_underlying hu,goInt],rfl⟩
 .rename_i hu;split at e<;>try cases e
  rw[show U=_ from R];exact⟨_,by simp[Builtin.len_,ht,run_underlying hu,goInt],rfl⟩
 .rename_i hu;cases e;exact⟨_,by simp[Builtin.len_,ht,run_underlying hu,goInt],rfl⟩
 .cases e
def rJ(k:IntKind):Int->List AV->Option Int
 |a,[]=>some a|a,v::l=>match v with|.int _ b=>rJ k (fV (decide (b > a)) b a) l|_=>none
def rK(k:IntKind):Int->List AV->Option Int
 |a,[]=>some a|a,v::l=>match v with|.int _ b=>rK k (fV (decide (b<a)) b a) l|_=>none
open Go.Proofs.YtdcnjfbffckblaaGreat.Ev (Tr Tr.bz nth bI takeN c9 dH dQ bJ dw fX still eS run_underlying run_typeInfo run_sizeOf bY cX places lj fe jV iI gX)
mutual
theorem yN{h:Hp}:∀{σ:Sh}{l:List AV}{d:σ.T}{r:List AV}{h':Hp},di false h σ l=some (d,r,h')->h'=h
 |.int k,l,d,r,h',e=>by
  simp only[di]at e;split at e<;>try cases e
  split at e<;>cases e;rfl
 |.bool,l,d,r,h',e=>by simp only[di]at e;split at e<;>cases e;rfl
 |.str,l,d,r,h',e=>by simp only[di]at e;split at e<;>cases e;rfl
 |.agg ss,l,d,r,h',e=>Kc (ss:=ss) e|.sl s,l,d,r,h',e=>by
  simp only[di]at e;split at e<;>try cases e
  .rfl
  .split at e<;>cases e;rfl
  .split at e<;>try cases e
   split at e<;>first|(cases e;done)|(rename_i q _;cases q)
  .split at e<;>try cases e
   split at e<;>first|(cases e;done)|(rename_i q _;cases q)
theorem Kc{h:Hp}:∀{ss:List Sh}{l:List AV}{d:TL ss}{r:List AV}{h':Hp},gP false h ss l=some (d,r,h')->h'=h
 |[],l,d,r,h',e=>by simp only[gP,aX,Prod.mk.injEq]at e;cases e;rfl
 |s::ss,l,d,r,h',e=>by
  simp only[gP]at e;split at e<;>try cases e
  rename_i d₁ r₁ h₁ e₁;split at e<;>try cases e
  rename_i d₂ r₂ h₂ e₂;rw[Kc e₂,yN e₁]
end
def lD(h:Hp)(b off:Nat)(vs:List AV):Option Hp:=match h.tr.get b with
 |some (.cells l ty)=>match Nat.ble (off+vs.length) l.length,gU vs with
  |true,true=>match Tr.set FT h.tr b (some (.cells (takeN off l++(vs++c9 (off+vs.length) l)) ty))with|some tr=>some ⟨tr,h.next⟩|none=>none
  |_,_=>none
 |_=>none
theorem sG{P:Program}{X:Cx}(H:ab X){h':Hp}{b x c off:Nat}{vs:List AV}{Vs:List Value}(e:lD X.h b off vs=some h')(hs:X.s b=some (.at x c))(R:bg X vs Vs) :
  ∃w',(storeCells ⟨x,off,none⟩ Vs).run P X.w=.ok () w'/\ab ⟨X.s,h',w',X.A⟩/\aH X ⟨X.s,h',w',X.A⟩:=by
 unfold lD at e;split at e<;>try cases e
 rename_i l ty hb;split at e<;>try cases e
 rename_i hl ho;split at e<;>try cases e
 rename_i tr ht;have hl:=Nat.le_of_ble_eq_true hl;obtain⟨x',c',cs,e1,e2,e3⟩:=H.obj b _ _ hb hs;cases e1;have hL:=e3.length;have hV:=R.length;obtain⟨d,hd,hr⟩:=gX (P:=P) (off:=off) Vs 0 X.w _ e2 (by simp;omega) (yW ho R);have hd:d=(cs.take off++(Vs++cs.drop (off+Vs.length))).toArray:=by apply Array.toList_inj.1;rw[hd];simp
 subst hd;have E:=aH.put (ob:=.cells (cs.take off++(Vs++cs.drop (off+Vs.length))).toArray ty (0,0)) H hb hs (by intro n q;cases q) ht;refine⟨_,hr,H.put hb hs (by intro n q;cases q) ht ⟨x,c,_,rfl,by show(bJ X.w x _).heap[x]?=_;rw[dw,if_pos ⟨rfl,fi e2⟩],?_⟩,E⟩;have R':=(e3.take off).append (R.append (e3.drop (off+vs.length)));rw[dH,dQ,<-hV]at *
 exact R'.ext (E.db H)
def BA(h:Hp)(b i z o:Nat)(vs:List AV):Option Hp:=match h.tr.get b with
 |some (.arr τ L ty)=>match Nat.beq z τ.size,Nat.ble (o+vs.length) z,gU vs,di true h τ (takeN o (jG τ (L.getD i τ.zero))++(vs++c9 (o+vs.length) (jG τ (L.getD i τ.zero))))with
  |true,true,true,some (x,[],h₁)=>match h₁.tr.get b with
   |some _=>match Tr.set FT h₁.tr b (some (.arr τ (L.set i x) ty))with|some tr=>some ⟨tr,h₁.next⟩|none=>none
   |none=>none
  |_,_,_,_=>none
 |_=>none
theorem WZ{P:Program}{X:Cx}(H:ab X){h':Hp}{b x c i z o:Nat}{vs:List AV}{Vs:List Value}(e:BA X.h b i z o vs=some h')(hs:X.s b=some (.at x c))
  (hi:∀n,rowOf X.h.tr b=some n->i<n) (R:bg X vs Vs) :
  ∃w',(storeCells ⟨x,i*z+o,none⟩ Vs).run P X.w=.ok () w'/\ab ⟨X.s,h',w',X.A⟩/\aH X ⟨X.s,h',w',X.A⟩:=by
 unfold BA at e;split at e<;>try cases e
 rename_i τ L ty hb;split at e<;>try cases e
 rename_i y h₁ hz hle ho hf;split at e<;>try cases e
 rename_i ob₁ hb₁;split at e<;>try cases e
 rename_i tr ht;have hz:=aA hz;subst hz;have hle:=Nat.le_of_ble_eq_true hle;have hi:=hi _ (gu hb);obtain⟨cs,tail,q1,q2,q3,q4⟩:=H.obj b _ _ hb hs;have hget:L[i]?=some L[i]:=bu hi;obtain⟨d,p1,p2⟩:=bc.get (fun x c=>Cs.length) q2 hget;have hd:=Cs.length p1;have hcs:=bc.length (fun x c=>Cs.length) q2;have hiz:i*τ.size+τ.size<=cs.length:=by rw[hcs];have:=Nat.mul_le_mul_right τ.size (show i+1<=L.length by omega);rw[Nat.add_mul]at this;omega
 have hV:=R.length;have RD:bg X (jG τ (L.getD i τ.zero)) d:=by rw[dP,hget];exact pg p1
 have Rn:=(RD.take o).append (R.append (RD.drop (o+vs.length)));rw[<-dH,<-dQ]at Rn;obtain⟨F,c₁,r₁,k1,k2,k3⟩:=mr H hf Rn;have hr₁:r₁=[]:=k3;subst hr₁;rw[fR]at k1;have hb₁':h₁.tr.get b=some (.arr τ L ty):=by have:=F.sub b _ hb₁;rw[hb]at this;rw[hb₁,<-this]
 obtain⟨e',he',hrun⟩:=gX (P:=P) (off:=i*τ.size+o) Vs 0 X.w _ q1 (by simp;omega) (yW ho R);have hdd:d=(cs.drop (i*τ.size)).take τ.size:=by
  apply List.ext_getElem?;intro j;rw[List.getElem?_take];split
  .rename_i hj;rw[List.getElem?_drop];exact(p2 j hj).symm
  .rw[List.getElem?_eq_none (by omega)]
 have hsplit:cs=cs.take (i*τ.size)++(d++cs.drop (i*τ.size+τ.size)):=by rw[hdd,<-List.drop_drop,List.take_append_drop,List.take_append_drop]
 have hal:(cs.take (i*τ.size)).length=i*τ.size:=by simp;omega
 have hlist:e'=(cs.take (i*τ.size)++c₁++cs.drop (i*τ.size+τ.size)++tail).toArray:=by
  apply Array.toList_inj.1;rw[he',<-k1];simp only[Nat.add_zero];generalize cs.take (i*τ.size)=A at hsplit hal |-;generalize cs.drop (i*τ.size+τ.size)=B at hsplit |-;subst hsplit;have t1:(A++(d++B)++tail).take (i*τ.size+o)=A++d.take o:=by rw[<-hal,dn,List.take_length_add_append,dn,List.take_append_of_le_length (by omega)]
  have t2:(A++(d++B)++tail).drop (i*τ.size+o+Vs.length)=d.drop (o+vs.length)++(B++tail):=by rw[<-hal,Nat.add_assoc,dn,List.drop_length_add_append,dn,hV,List.drop_append_of_le_length (by omega)]
  rw[t1,t2];simp
 subst hlist;have E:=aH.put (X:=⟨X.s,h₁,X.w,X.A⟩) (ob:=.cells (cs.take (i*τ.size)++c₁++cs.drop (i*τ.size+τ.size)++tail).toArray ty (0,0)) F.H hb₁' hs (by intro n q;simpa[aC.row]using q) ht;refine⟨_,hrun,ab.put (X:=⟨X.s,h₁,X.w,X.A⟩) F.H hb₁' hs (by intro n q;simpa[aC.row]using q) ht ?_,F.E.trans E⟩;have K:=E.keeps;refine⟨cs.take (i*τ.size)++c₁++cs.drop (i*τ.size+τ.size),tail,?_,?_,?_,by simpa using q4⟩
 .show(bJ X.w x _).heap[x]?=_;rw[dw,if_pos ⟨rfl,fi q1⟩]
 .have s1:bc (Cs X.w (Cx.out ⟨X.s,h₁,X.w,X.A⟩) τ) L cs:=q2.mono (fun x c q=>q.aN F.E.keeps);have s2:bc (Cs X.w (Cx.out ⟨X.s,h₁,X.w,X.A⟩) τ) (L.set i y) (cs.take (i*τ.size)++c₁++cs.drop (i*τ.size+τ.size)):=bc.set (fun x c=>Cs.length) s1 hi k2;exact s2.mono (fun x c q=>q.aN K)
 .have:=Cs.length k2;simp only[bA,df,List.length_drop,this];omega
def Jy:Sh->Bool
 |.sl _=>true|.agg l=>hasSlL l|_=>false
where hasSlL:List Sh->Bool
 |[]=>false|s::l=>match Jy s with|true=>true|false=>hasSlL l
def DV:List AV->Bool
 |[]=>false|.hd _ τ::l=>match Jy τ with|true=>true|false=>DV l
 |_::l=>DV l
def wm(h:Hp)(b i z o:Nat)(vs:List AV):Option (Bool×Hp):=match h.tr.get b with
 |some (.arr τ L ty)=>match Nat.beq z τ.size,Nat.ble (o+vs.length) z,gU vs with
  |true,true,true=>match Tr.set FT h.tr b (some (.cR τ i L (takeN o (jG τ (L.getD i τ.zero))++(vs++c9 (o+vs.length) (jG τ (L.getD i τ.zero)))) ty))with|some tr=>some (true,⟨tr,h.next⟩)|none=>none
  |_,_,_=>none
 |some (.cR τ k L us ty)=>match Nat.beq z τ.size,Nat.ble (o+vs.length) z,gU vs with
  |true,true,true=>match Tr.set FT h.tr b (some (.cR τ k L (takeN o us++(vs++c9 (o+vs.length) us)) ty))with|some tr=>some (Nat.beq i k,⟨tr,h.next⟩)|none=>none
  |_,_,_=>none
 |_=>none
theorem OA{P:Program}{X:Cx}(H:ab X){b x c i o:Nat}{ob:aC}{τ:Sh}{L:List τ.T}{us vs:List AV}{ty:TypeId}{Vs:List Value}{tr:Tr aC}(hb:X.h.tr.get b=some ob)(hrow:ob.row=some L.length)(hs:X.s b=some (.at x c))
  {pre mid post tail:List Value}(q1:X.w.heap[x]?=some (.cells (List.toArray (pre++(mid++(post++tail)))) ty (0,0))) (q2:bc (Cs X.w X.out τ) (L.take i) pre) (q3:bg X us mid) (q4:bc (Cs X.w X.out τ) (L.drop (i+1)) post)
  (hi:i<L.length) (hm:mid.length=τ.size) (hsum:pre.length+(mid.length+(post.length+tail.length))=c*τ.size) (hc:L.length<=c) (hle:o+vs.length<=τ.size) (ho:gU vs=true) (R:bg X vs Vs)
  (ht:Tr.set FT X.h.tr b (some (.cR τ i L (takeN o us++(vs++c9 (o+vs.length) us)) ty))=some tr) :
  ∃w',(storeCells ⟨x,i*τ.size+o,none⟩ Vs).run P X.w=.ok () w'/\ab ⟨X.s,⟨tr,X.h.next⟩,w',X.A⟩/\aH X ⟨X.s,⟨tr,X.h.next⟩,w',X.A⟩:=by
 have hV:=R.length;have hpre:pre.length=i*τ.size:=by rw[bc.length (fun x c=>Cs.length) q2,df,Nat.min_eq_left (by omega)]
 obtain⟨e',he',hrun⟩:=gX (P:=P) (off:=i*τ.size+o) Vs 0 X.w _ q1 (by simp;omega) (yW ho R);have hlist:e'=(pre++((mid.take o++(Vs++mid.drop (o+vs.length)))++(post++tail))).toArray:=by apply Array.toList_inj.1;rw[he'];simp only[Nat.add_zero];rw[<-hpre,<-hV,List.take_length_add_append,Nat.add_assoc,List.drop_length_add_append,List.take_append_of_le_length (by omega),List.drop_append_of_le_length (by omega)];simp
 subst hlist;have hrw:∀n,(aC.cR τ i L (takeN o us++(vs++c9 (o+vs.length) us)) ty).row=some n->ob.row=some n:=by intro n q;rw[hrow];exact q
 have E:=aH.put (ob:=.cells (pre++((mid.take o++(Vs++mid.drop (o+vs.length)))++(post++tail))).toArray ty (0,0)) H hb hs hrw ht;have K:=E.keeps;refine⟨_,hrun,ab.put H hb hs hrw ht ?_,E⟩;refine⟨x,c,pre,mid.take o++(Vs++mid.drop (o+vs.length)),post,tail,rfl,?_,q2.mono (fun x d q=>q.aN K),?_,q4.mono (fun x d q=>q.aN K),hi,?_,?_,hc⟩
 .show(bJ X.w x _).heap[x]?=_;rw[dw,if_pos ⟨rfl,fi q1⟩]
 .have R':=(q3.take o).append (R.append (q3.drop (o+vs.length)));rw[dH,dQ];exact R'.ext (E.db H)
 .simp only[bA,df,List.length_drop];omega
 .simp only[bA,df,List.length_drop];omega
theorem OH{P:Program}{X:Cx}(H:ab X){h':Hp}{b x c i z o:Nat}{g:Bool}{vs:List AV}{Vs:List Value}(e:wm X.h b i z o vs=some (g,h'))(hg:g=true)(hs:X.s b=some (.at x c))
  (hi:∀n,rowOf X.h.tr b=some n->i<n) (R:bg X vs Vs) :
  ∃w',(storeCells ⟨x,i*z+o,none⟩ Vs).run P X.w=.ok () w'/\ab ⟨X.s,h',w',X.A⟩/\aH X ⟨X.s,h',w',X.A⟩:=by
 subst hg;unfold wm at e;split at e<;>try cases e
 .rename_i τ L ty hb;split at e<;>try cases e
  rename_i hz hle ho;split at e<;>cases e;rename_i tr ht;have hz:=aA hz;subst hz;have hle:=Nat.le_of_ble_eq_true hle;have hi:=hi _ (gu hb);obtain⟨cs,tail,q1,q2,q3,q4⟩:=H.obj b _ _ hb hs;have hget:L[i]?=some L[i]:=bu hi;obtain⟨d,p1,p2⟩:=bc.get (fun x c=>Cs.length) q2 hget;have hd:=Cs.length p1;have hcs:=bc.length (fun x c=>Cs.length) q2;have hiz:i*τ.size+τ.size<=cs.length:=by rw[hcs];have:=Nat.mul_le_mul_right τ.size (show i+1<=L.length by omega);rw[Nat.add_mul]at this;omega
  have RD:bg X (jG τ (L.getD i τ.zero)) d:=by rw[dP,hget];exact pg p1
  have hdd:d=(cs.drop (i*τ.size)).take τ.size:=by
   apply List.ext_getElem?;intro j;rw[List.getElem?_take];split
   .rename_i hj;rw[List.getElem?_drop];exact(p2 j hj).symm
   .rw[List.getElem?_eq_none (by omega)]
  have hsplit:cs++tail=cs.take (i*τ.size)++(d++(cs.drop ((i+1)*τ.size)++tail)):=by rw[hdd,Nat.add_mul,Nat.one_mul,<-dn,<-dn,<-List.drop_drop,dn (cs.take _),List.take_append_drop,List.take_append_drop]
  rw[hsplit]at q1;refine OA H hb rfl hs q1 (bc.take (fun x c=>Cs.length) i q2) RD (bc.drop (fun x c=>Cs.length) (i+1) q2) hi hd ?_ q4 hle ho R ht;rw[<-q3,<-bA,<-bA,<-bA,<-hsplit,bA]
 .rename_i τ k L us ty hb;split at e<;>try cases e
  rename_i hz hle ho;split at e<;>try cases e
  rename_i tr ht;simp only[aX,Prod.mk.injEq]at e;obtain⟨hik,rfl⟩:=e;have hik:=aA hik;subst hik;have hz:=aA hz;subst hz;have hle:=Nat.le_of_ble_eq_true hle;obtain⟨x',c',pre,mid,post,tail,e1,q1,q2,q3,q4,q5,q6,q7,q8⟩:=H.obj b _ _ hb hs;cases e1;exact OA H hb rfl hs q1 q2 q3 q4 q5 q6 q7 q8 hle ho R ht
def zZ(h:Hp)(b i z o:Nat)(vs:List AV):Option (Bool×Hp):=match h.tr.get b with|some (.cR _ _ _ _ _)=>wm h b i z o vs|_=>match DV vs with|true=>wm h b i z o vs|false=>match BA h b i z o vs with|some h'=>some (true,h')|none=>none
theorem ZR{P:Program}{X:Cx}(H:ab X){h':Hp}{b x c i z o:Nat}{g:Bool}{vs:List AV}{Vs:List Value}(e:zZ X.h b i z o vs=some (g,h'))(hg:g=true)(hs:X.s b=some (.at x c))
  (hi:∀n,rowOf X.h.tr b=some n->i<n) (R:bg X vs Vs) :
  ∃w',(storeCells ⟨x,i*z+o,none⟩ Vs).run P X.w=.ok () w'/\ab ⟨X.s,h',w',X.A⟩/\aH X ⟨X.s,h',w',X.A⟩:=by
 unfold zZ at e;split at e
 .exact OH H e hg hs hi R
 .split at e
  .exact OH H e hg hs hi R
  .split at e<;>cases e;rename_i hp;exact WZ H hp hs hi R
