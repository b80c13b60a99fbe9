import Derived.Test.YtijabkidejolbaaGreatKEa
import Derived.LoopN
set_option linter.unusedVariables false
set_option linter.unusedSimpArgs false
set_option linter.unnecessarySimpa false
section
namespace Go.Proofs.YtijabkidejolbaaGreat.Ev
open Go Go.RowKit
theorem HRel.move {s:Sg} {h:Hp} {w:World} (H:HRel s h w) {b f g:Nat} {o o':AObj} {ob:Obj} {tr₁ tr₂:Tr AObj} (hb:h.tr.get b=some o)
  (ht₁:Tr.set f h.tr b none=some tr₁) (ht₂:Tr.set g tr₁ h.next (some o')=some tr₂) (ho:ORel (upd s h.next (s b)) h.next o' (some ob)) (hw:wsO h.next o'=true) :
  HRel (upd s h.next (s b)) ⟨tr₂,h.next+1⟩ (setB w (s b).1 ob)∧Ext s h w (upd s h.next (s b)) ⟨tr₂,h.next+1⟩ (setB w (s b).1 ob):=by
 have hg₁:=Tr.Zao f h.tr b none tr₁ ht₁
 have hg₂:=Tr.Zao g tr₁ h.next (some o') tr₂ ht₂
 have hin:=H.bound hb
 have hbn:=H.lt b o hb
 have old:∀j,j<h.next→upd s h.next (s b) j=s j:=fun j hj=>Zy3 s _ _ hj
 have alt:∀j o₁,tr₂.get j=some o₁→(j=h.next∧o₁=o')∨(h.tr.get j=some o₁∧j≠b∧j<h.next):=by
  intro j o₁ hj
  rw [hg₂ j] at hj
  by_cases q:j=h.next
  ·rw [if_pos q] at hj;exact .inl ⟨q,by simpa using hj.symm⟩
  ·rw [if_neg q,hg₁ j] at hj
   by_cases r:j=b
   ·rw [if_pos r] at hj;cases hj
   ·rw [if_neg r] at hj;exact .inr ⟨hj,r,H.lt j o₁ hj⟩
 refine ⟨⟨?_,?_,?_,?_⟩,⟨rfl,rfl,rfl,by rw [Zfb];exact Nat.le_refl _,old,by simp,?_,?_,fun j o₁ hj hlt=>by
  rcases alt j o₁ hj with ⟨rfl,rfl⟩ | ⟨hj,_,_⟩
  ·omega
  ·exact ⟨o₁,hj⟩⟩⟩
 ·intro j o₁ hj
  rcases alt j o₁ hj with ⟨rfl,rfl⟩ | ⟨hj,hne,hlt⟩
  ·rw [Zbb,Zdk,if_pos ⟨rfl,hin⟩];exact ho
  ·rw [old j hlt,Zdk,if_neg (fun r=>hne (H.inj j b o₁ o hj hb r.1))]
   exact (H.obj j o₁ hj).congr old hlt (H.wso j o₁ hj)
 ·intro j k o₁ o₂ hj hk e
  rcases alt j o₁ hj with ⟨rfl,rfl⟩ | ⟨hj,hne,hlt⟩<;>rcases alt k o₂ hk with ⟨rfl,rfl⟩ | ⟨hk,hne',hlt'⟩
  ·rfl
  ·rw [Zbb,old k hlt'] at e;exact absurd (H.inj k b o₂ o hk hb e.symm) hne'
  ·rw [Zbb,old j hlt] at e;exact absurd (H.inj j b o₁ o hj hb e) hne
  ·rw [old j hlt,old k hlt'] at e;exact H.inj j k o₁ o₂ hj hk e
 ·intro j o₁ hj
  rcases alt j o₁ hj with ⟨rfl,rfl⟩ | ⟨hj,hne,hlt⟩
  ·simp
  ·simp only;omega
 ·intro j o₁ hj
  rcases alt j o₁ hj with ⟨rfl,rfl⟩ | ⟨hj,hne,hlt⟩
  ·exact Zm7 (by simp) hw
  ·exact Zm7 (by simp) (H.wso j o₁ hj)
 ·intro k hk hn
  rw [Zdk,if_neg (fun r=>hn b o hb r.1.symm)]
 ·intro j o₁ hj
  rcases alt j o₁ hj with ⟨rfl,rfl⟩ | ⟨hj,hne,hlt⟩
  ·exact .inl ⟨b,o,hb,by rw [Zbb]⟩
  ·exact .inl ⟨j,o₁,hj,by rw [old j hlt]⟩
def Zmc (h:Hp) (sz:Nat):AV→Option (Nat×List AV)
 | .nils=>some (0,[])
 | .slice b off n _ _=>match h.tr.get b with
  | some (.cells l _ _)=>match Nat.ble (off+n*sz) l.length with
   | true=>some (n,takeN (n*sz) (dropN off l))
   | false=>none
  | _=>none
 | _=>none
theorem Zi4 {P:Program} {h:Hp} {sz:Nat} {x:AV} {n:Nat} {l:List AV} (e:Zmc h sz x=some (n,l)) {s:Sg} {w:World} (H:HRel s h w) :
  (Builtin.lenOf (conc s x)).run P w=.ok n w∧(Builtin.firstCells sz n (conc s x)).run P w=.ok (concL s l).toArray w∧wsL h.next l=true∧l.length=n*sz:=by
 unfold Zmc at e
 split at e
 ·simp at e;obtain ⟨rfl,rfl⟩:=e;simp [conc,Builtin.lenOf,Builtin.firstCells,concL,wsL]
 ·rename_i b off n' u c
  split at e<;>try cases e
  rename_i cs ty op hb
  split at e<;>try cases e
  rename_i hl
  have hl:=Nat.le_of_ble_eq_true hl
  obtain ⟨tail,hw,_,_⟩:=H.cells hb
  have hL:=Zc3 s cs
  have hws:=H.wso _ _ hb
  refine ⟨by simp [conc,Builtin.lenOf],?_,Zt3 (Zvy hws),by simp [Zdt,Ze9];omega⟩
  simp only [conc,Builtin.firstCells,loadCells]
  rw [run_loadCells hw _ 0 #[] (by simp;omega)]
  congr 2
  simp only [Nat.add_zero,Zdt,Ze9,Zln,Zmo,List.toList_toArray,List.nil_append]
  rw [List.drop_append_of_le_length (by omega),List.take_append_of_le_length (by simp;omega)]
 ·cases e
theorem Za1x (m:Nat):∀(r c:Nat),c≤2*m+192→Builtin.growBy m r c≤2*m+192
 | 0,c,h=>by simpa [Builtin.growBy] using h
 | r+1,c,h=>by
  simp only [Builtin.growBy]
  split
  ·exact h
  ·exact Za1x m r _ (by omega)
theorem Zu4 {need old:Nat} (h:old<need):Builtin.nextslicecap need old≤2*need+192:=by
 unfold Builtin.nextslicecap
 split
 ·omega
 ·split
  ·omega
  ·exact Za1x _ _ _ (by omega)
theorem cut_le (need old:Nat) (el:TypeId) (t:Nat) (h:need≤1099511627776):(Question.appendCap need old el).cut t≤9223372036854775807:=by
 have:=Nat.mod_lt t (show 0<2^63 - need by omega)
 show need+t % (2^63 - need)≤_
 omega
theorem Ztc {P:Program} {t0 t1 ty:TypeId} {ts:Array TypeId} {elem:TypeId} {d1:TypeDesc} {sz n:Nat} {z:AV} {s:Sg} {info:TypeInfo} {base:Option Addr} {sLen sCap:Nat} {X:Value} {old new:List AV} {w:World}
  (ht0:ts[0]?=some t0) (ht1:ts[1]?=some t1) (hu0:P.underlying t0=some (.slice elem)) (hu1:P.underlying t1=some d1) (hd:∀k,d1≠.int k) (hs:Zbz P elem=some sz) (hz:Ze3 P elem=some z)
  (hi:P.info? elem=some info) (hzl:(Zb9 z).length=sz) (hn:(Builtin.lenOf X).run P w=.ok n w) (hnot:sCap<sLen+n) (hb:(2*(sLen+n)+192)*info.bytes≤281474976710656) (hne:sLen+n≤1099511627776)
  (hold:∀d,(Builtin.firstCells sz sLen (.slice base sLen sCap)).run P { w with drawn:=d }=.ok (concL s old).toArray { w with drawn:=d })
  (hnew:∀d,(Builtin.firstCells sz n X).run P { w with drawn:=d }=.ok (concL s new).toArray { w with drawn:=d }) :
  ∃c,sLen+n≤c∧c≤9223372036854775807∧∃d,∃rest:List Value,rest.length=(c - (sLen+n))*sz∧(Builtin.append_ ts ty #[.slice base sLen sCap,X]).run P w =
   .ok (.slice (some ⟨w.heap.size,0,none⟩) (sLen+n) c) { w with drawn:=d,heap:=w.heap.push (.cells (concL s old++concL s new++rest).toArray elem (0,0)) }:=by
 refine ⟨(Question.appendCap (sLen+n) sCap elem).cut (w.tape w.drawn (.appendCap (sLen+n) sCap elem)),by simp [Question.cut],cut_le _ _ _ _ (by omega),w.drawn+1,?_⟩
 have hz0:=Zbe hz s
 have hzs:(conc s z).cells.size=sz:=by rw [←Array.length_toList,Zg8,Zc3,hzl]
 generalize hc:(Question.appendCap (sLen+n) sCap elem).cut (w.tape w.drawn (.appendCap (sLen+n) sCap elem))=c
 refine ⟨(Builtin.zeroCells (conc s z).cells (c - (sLen+n))).toList,by simp [Builtin.zeroCells,hzs],?_⟩
 have hbig:¬(Builtin.nextslicecap (sLen+n) sCap*info.bytes > 2^48):=by
  have:=Nat.mul_le_mul_right info.bytes (Zu4 hnot)
  show ¬(281474976710656<_)
  omega
 have hk:(match d1 with | .int _=>true | _=>false)=false:=by cases d1<;>first | rfl | exact absurd rfl (hd _)
 have hmax:¬(((sLen+n:Nat):Int) > IntKind.i64.max∧(false=true∨info.bytes=0)):=by
  intro q
  have h1:=q.1
  have:IntKind.i64.max=9223372036854775807:=by decide
  rw [this] at h1
  omega
 unfold Builtin.append_
 simp only [ht0,ht1,List.getElem?_toArray,List.getElem?_cons_zero,List.getElem?_cons_succ,Sem.run_bind,run_underlying hu0,run_underlying hu1,Result.andThen_ok,run_sizeOf hs,Sem.run_pure,run_typeInfo hi]
 rw [if_neg Bool.false_ne_true]
 simp only [Sem.run_bind,hn,Result.andThen_ok]
 rw [if_neg (by omega:¬sLen+n≤sCap)]
 simp only [Sem.run_bind,run_typeInfo hi,Result.andThen_ok]
 rw [if_neg hmax]
 simp only [Sem.run_bind,run_typeInfo hi,Result.andThen_ok]
 rw [if_neg hbig]
 simp only [Sem.run_bind,run_choose,Question.forced,Bool.false_eq_true,if_false,Result.andThen_ok,run_typeInfo hi,run_askRoom,hold,hc,Bool.not_false,if_true,hnew,hz0,newRow,run_newObj,Sem.run_pure]
 congr 3
 apply congrArg (fun x=>Obj.cells x elem (0,0))
 apply Array.toList_inj.1
 simp
theorem Zvh {P:Program} {t0 t1 ty:TypeId} {ts:Array TypeId} {elem:TypeId} {d1:TypeDesc} {sz n:Nat} {s:Sg} {b off:Nat} {sLen sCap:Nat} {X:Value} {new:List AV} {w w':World}
  (ht0:ts[0]?=some t0) (ht1:ts[1]?=some t1) (hu0:P.underlying t0=some (.slice elem)) (hu1:P.underlying t1=some d1) (hd:∀k,d1≠.int k) (hs:Zbz P elem=some sz)
  (hn:(Builtin.lenOf X).run P w=.ok n w) (hfit:sLen+n≤sCap) (hnew:(Builtin.firstCells sz n X).run P w=.ok (concL s new).toArray w)
  (hst:(storeCells ⟨b,off+sLen*sz,none⟩ (concL s new)).run P w=.ok () w') :
  (Builtin.append_ ts ty #[.slice (some ⟨b,off,none⟩) sLen sCap,X]).run P w=.ok (.slice (some ⟨b,off,none⟩) (sLen+n) sCap) w':=by
 have hk:(match d1 with | .int _=>true | _=>false)=false:=by cases d1<;>first | rfl | exact absurd rfl (hd _)
 unfold Builtin.append_
 simp only [ht0,ht1,List.getElem?_toArray,List.getElem?_cons_zero,List.getElem?_cons_succ,Sem.run_bind,run_underlying hu0,run_underlying hu1,Result.andThen_ok,run_sizeOf hs,Sem.run_pure]
 rw [if_neg Bool.false_ne_true]
 simp only [Sem.run_bind,hn,Result.andThen_ok]
 rw [if_pos hfit]
 simp only [Sem.run_bind,Bool.not_false,if_true,hnew,Result.andThen_ok,Zd7,hst,Sem.run_pure]
theorem Zrb {P:Program} {t0 t1 ty:TypeId} {ts:Array TypeId} {elem:TypeId} {d1:TypeDesc} {sz:Nat} {s:Sg} {X:Value} {w:World}
  (ht0:ts[0]?=some t0) (ht1:ts[1]?=some t1) (hu0:P.underlying t0=some (.slice elem)) (hu1:P.underlying t1=some d1) (hd:∀k,d1≠.int k) (hs:Zbz P elem=some sz)
  (hn:(Builtin.lenOf X).run P w=.ok 0 w) {l:List AV} (hnew:(Builtin.firstCells sz 0 X).run P w=.ok (concL s l).toArray w) :
  (Builtin.append_ ts ty #[.slice none 0 0,X]).run P w=.ok (.slice none 0 0) w:=by
 have hk:(match d1 with | .int _=>true | _=>false)=false:=by cases d1<;>first | rfl | exact absurd rfl (hd _)
 unfold Builtin.append_
 simp only [ht0,ht1,List.getElem?_toArray,List.getElem?_cons_zero,List.getElem?_cons_succ,Sem.run_bind,run_underlying hu0,run_underlying hu1,Result.andThen_ok,run_sizeOf hs,Sem.run_pure]
 rw [if_neg Bool.false_ne_true]
 simp only [Sem.run_bind,hn,Result.andThen_ok]
 rw [if_pos (by omega)]
 simp only [Sem.run_bind,Bool.not_false,if_true,hnew,Result.andThen_ok,Sem.run_pure]
theorem Zt2 {z:AV} {s:Sg} {sz n:Nat} (hzl:(Zb9 z).length=sz):Builtin.zeroCells (conc s z).cells n=(concL s (rep n (Zb9 z))).toArray:=by
 unfold Builtin.zeroCells
 refine Zwi s _ n _ _ (Zg8 s z) ?_
 rw [←Array.length_toList,Zg8,Zc3]
theorem Za7d {P:Program} {t0 t1 ty:TypeId} {ts:Array TypeId} {elem:TypeId} {ki kx:IntKind} {xi:Int} {sz n:Nat} {z:AV} {s:Sg} {info:TypeInfo} {base:Option Addr} {sLen sCap:Nat} {old:List AV} {w:World}
  (ht0:ts[0]?=some t0) (ht1:ts[1]?=some t1) (hu0:P.underlying t0=some (.slice elem)) (hu1:P.underlying t1=some (.int ki)) (hs:Zbz P elem=some sz) (hz:Ze3 P elem=some z)
  (hi:P.info? elem=some info) (hzl:(Zb9 z).length=sz) (hpos:0<sz) (hn:IntKind.i64.wrap xi=(n:Int)) (hnb:n*info.bytes≤281474976710656) (hnot:sCap<sLen+n) (hb:(2*(sLen+n)+192)*info.bytes≤281474976710656) (hne:sLen+n≤1099511627776)
  (hold:∀d,(Builtin.firstCells sz sLen (.slice base sLen sCap)).run P { w with drawn:=d }=.ok (concL s old).toArray { w with drawn:=d }) :
  ∃c,sLen+n≤c∧c≤9223372036854775807∧∃d,∃rest:List Value,rest.length=(c - (sLen+n))*sz∧(Builtin.append_ ts ty #[.slice base sLen sCap,.int kx xi]).run P w =
   .ok (.slice (some ⟨w.heap.size,0,none⟩) (sLen+n) c) { w with drawn:=d,heap:=w.heap.push (.cells (concL s old++concL s (rep n (Zb9 z))++rest).toArray elem (0,0)) }:=by
 refine ⟨(Question.appendCap (sLen+n) sCap elem).cut (w.tape w.drawn (.appendCap (sLen+n) sCap elem)),by simp [Question.cut],cut_le _ _ _ _ (by omega),w.drawn+1,?_⟩
 have hz0:=Zbe hz s
 have hzs:(conc s z).cells.size=sz:=by rw [←Array.length_toList,Zg8,Zc3,hzl]
 generalize hc:(Question.appendCap (sLen+n) sCap elem).cut (w.tape w.drawn (.appendCap (sLen+n) sCap elem))=c
 refine ⟨(Builtin.zeroCells (conc s z).cells (c - (sLen+n))).toList,by simp [Builtin.zeroCells,hzs],?_⟩
 have hbig:¬(Builtin.nextslicecap (sLen+n) sCap*info.bytes > 2^48):=by
  have:=Nat.mul_le_mul_right info.bytes (Zu4 hnot)
  show ¬(281474976710656<_)
  omega
 have hmax:¬(((sLen+n:Nat):Int) > IntKind.i64.max∧(True∨info.bytes=0)):=by
  intro q
  have h1:=q.1
  have:IntKind.i64.max=9223372036854775807:=by decide
  rw [this] at h1
  omega
 have hlow:¬((n:Int)<0):=by omega
 have hhigh:¬((n:Int)*(info.bytes:Int) > 2^48):=by
  have hm:(n:Int)*(info.bytes:Int)=((n*info.bytes:Nat):Int):=(Int.natCast_mul _ _).symm
  rw [hm]
  show ¬((281474976710656:Int)<_)
  omega
 have hsz:n≠0→¬(n*sz=0):=fun h q=>by rcases Nat.mul_eq_zero.1 q with r | r<;>omega
 unfold Builtin.append_
 simp only [ht0,ht1,List.getElem?_toArray,List.getElem?_cons_zero,List.getElem?_cons_succ,Sem.run_bind,run_underlying hu0,run_underlying hu1,Result.andThen_ok,run_sizeOf hs,Sem.run_pure,run_typeInfo hi]
 rw [if_pos trivial]
 simp only [asInt,asIntOf,Sem.run_bind,Sem.run_pure,Result.andThen_ok,hn]
 rw [if_neg hlow]
 simp only [Sem.run_bind,run_typeInfo hi,Result.andThen_ok]
 rw [if_neg hhigh]
 simp only [Sem.run_bind,Sem.run_pure,Result.andThen_ok,Int.toNat_natCast]
 rw [if_neg (by omega:¬sLen+n≤sCap)]
 simp only [Sem.run_bind,run_typeInfo hi,Result.andThen_ok]
 rw [if_neg hmax]
 simp only [Sem.run_bind,run_typeInfo hi,Result.andThen_ok]
 rw [if_neg hbig]
 simp only [Sem.run_bind,run_choose,Question.forced,Bool.false_eq_true,if_false,Result.andThen_ok,run_typeInfo hi,run_askRoom,hold,hc,Bool.not_true]
 by_cases hn0:n*sz=0
 ·have hn1:n=0:=by rcases Nat.mul_eq_zero.1 hn0 with r | r<;>omega
  subst hn1
  rw [if_pos hn0]
  simp only [Sem.run_pure,Result.andThen_ok,hz0,Sem.run_bind,newRow,run_newObj]
  congr 3
  apply congrArg (fun x=>Obj.cells x elem (0,0))
  apply Array.toList_inj.1
  simp [rep,concL]
 ·rw [if_neg hn0]
  simp only [Sem.run_bind,Sem.run_pure,Result.andThen_ok,hz0,newRow,run_newObj]
  congr 3
  apply congrArg (fun x=>Obj.cells x elem (0,0))
  apply Array.toList_inj.1
  rw [Zt2 (n:=n) hzl]
  simp
theorem Za7e {P:Program} {t0 t1 ty:TypeId} {ts:Array TypeId} {elem:TypeId} {ki kx:IntKind} {xi:Int} {sz n:Nat} {z:AV} {s:Sg} {info:TypeInfo} {b off:Nat} {sLen sCap:Nat} {w w':World}
  (ht0:ts[0]?=some t0) (ht1:ts[1]?=some t1) (hu0:P.underlying t0=some (.slice elem)) (hu1:P.underlying t1=some (.int ki)) (hs:Zbz P elem=some sz) (hz:Ze3 P elem=some z)
  (hi:P.info? elem=some info) (hzl:(Zb9 z).length=sz) (hpos:0<sz) (hn:IntKind.i64.wrap xi=(n:Int)) (hnb:n*info.bytes≤281474976710656) (hfit:sLen+n≤sCap)
  (hst:(storeCells ⟨b,off+sLen*sz,none⟩ (concL s (rep n (Zb9 z)))).run P w=.ok () w') :
  (Builtin.append_ ts ty #[.slice (some ⟨b,off,none⟩) sLen sCap,.int kx xi]).run P w=.ok (.slice (some ⟨b,off,none⟩) (sLen+n) sCap) w':=by
 have hz0:=Zbe hz s
 have hlow:¬((n:Int)<0):=by omega
 have hhigh:¬((n:Int)*(info.bytes:Int) > 2^48):=by
  have hm:(n:Int)*(info.bytes:Int)=((n*info.bytes:Nat):Int):=(Int.natCast_mul _ _).symm
  rw [hm]
  show ¬((281474976710656:Int)<_)
  omega
 unfold Builtin.append_
 simp only [ht0,ht1,List.getElem?_toArray,List.getElem?_cons_zero,List.getElem?_cons_succ,Sem.run_bind,run_underlying hu0,run_underlying hu1,Result.andThen_ok,run_sizeOf hs,Sem.run_pure,run_typeInfo hi]
 rw [if_pos trivial]
 simp only [asInt,asIntOf,Sem.run_bind,Sem.run_pure,Result.andThen_ok,hn]
 rw [if_neg hlow]
 simp only [Sem.run_bind,run_typeInfo hi,Result.andThen_ok]
 rw [if_neg hhigh]
 simp only [Sem.run_bind,Sem.run_pure,Result.andThen_ok,Int.toNat_natCast]
 rw [if_pos hfit]
 simp only [Sem.run_bind,Bool.not_true,Bool.false_eq_true,if_false]
 by_cases hn0:n*sz=0
 ·have hn1:n=0:=by rcases Nat.mul_eq_zero.1 hn0 with r | r<;>omega
  subst hn1
  rw [if_pos hn0]
  simp only [rep,concL] at hst
  simp only [Sem.run_pure,Result.andThen_ok,Zd7,Sem.run_bind,hst]
 ·rw [if_neg hn0]
  simp only [Sem.run_bind,Sem.run_pure,Result.andThen_ok,hz0,Zt2 (n:=n) hzl,Zd7,hst]
def appSrc (h:Hp) (d:TypeDesc) (sz by_:Nat) (z x:AV):Option (Nat×List AV):=match d with
 | .int _=>match x with
  | .int _ xi=>match IntKind.i64.wrap xi with
   | .ofNat n=>match Nat.ble (n*by_) 281474976710656 with
    | true=>some (n,rep n (Zb9 z))
    | false=>none
   | .negSucc _=>none
  | _=>none
 | _=>Zmc h sz x
def Za4x:TypeDesc→Bool | .int _=>false | _=>true
def Zv0 (h:Hp) (elem sz by_ need:Nat) (l:List AV):Option (AV×Hp):=match Nat.ble ((2*need+192)*by_) 281474976710656,Nat.ble need 1099511627776 with
 | true,true=>match Tr.set FT h.tr h.next (some (.cells l elem (some sz))) with
  | some tr=>some (.slice h.next 0 need true 0,⟨tr,h.next+1⟩)
  | none=>none
 | _,_=>none
def Zok (P:Program) (h:Hp) (ts:Array TypeId) (su x:AV):Option (AV×Hp):=match nth ts.toList 0,nth ts.toList 1 with
 | some t0,some t1=>match P.underlying t0,P.underlying t1 with
  | some (.slice elem),some d1=>match Zbz P elem,Ze3 P elem,Zeb P elem with
   | some sz,some z,some by_=>match Nat.beq (Zb9 z).length sz,Nat.blt 0 sz,appSrc h d1 sz by_ z x with
    | true,true,some (n,new)=>match su with
     | .nils=>match n,Za4x d1 with
      | 0,true=>some (.nils,h)
      | 0,false=>none
      | n+1,_=>Zv0 h elem sz by_ (n+1) new
     | .slice b off len false c=>match Nat.ble (len+n) c with
      | true=>match Zqq h b (off+len*sz) new with
       | some h'=>some (.slice b off (len+n) false c,h')
       | none=>none
      | false=>match Zmc h sz (.slice b off len false c) with
       | some (_,old)=>Zv0 h elem sz by_ (len+n) (old++new)
       | none=>none
     | .slice b 0 len true 0=>match h.tr.get b with
      | some (.cells l ty (some z'))=>match Nat.beq z' sz,Nat.beq ty elem,Nat.ble (len*sz) l.length,oneL new,Nat.ble ((2*(len+n)+192)*by_) 281474976710656,Nat.ble (len+n) 1099511627776 with
       | true,true,true,true,true,true=>match Tr.set FT h.tr b none with
        | some tr=>match Tr.set FT tr h.next (some (.cells (takeN (len*sz) l++new) elem (some sz))) with
         | some tr=>some (.slice h.next 0 (len+n) true 0,⟨tr,h.next+1⟩)
         | none=>none
        | none=>none
       | _,_,_,_,_,_=>none
      | _=>none
     | _=>none
    | _,_,_=>none
   | _,_,_=>none
  | _,_=>none
 | _,_=>none
theorem HRel.drew {s:Sg} {h:Hp} {w:World} (H:HRel s h w) (d:Nat):HRel s h { w with drawn:=d }:=⟨H.obj,H.inj,H.lt,H.wso⟩
theorem Zsw {h h':Hp} {elem sz by_ need c d:Nat} {l:List AV} {v:AV} (e:Zv0 h elem sz by_ need l=some (v,h')) {s:Sg} {w:World} (H:HRel s h w) {rest:List Value}
  (hl:l.length=need*sz) (hc:need≤c) (hcm:c≤9223372036854775807) (hr:rest.length=(c - need)*sz) (hw:wsL h.next l=true) :
  HRel (upd s h.next (w.heap.size,c)) h' { w with drawn:=d,heap:=w.heap.push (.cells (concL s l++rest).toArray elem (0,0)) } ∧
  Ext s h w (upd s h.next (w.heap.size,c)) h' { w with drawn:=d,heap:=w.heap.push (.cells (concL s l++rest).toArray elem (0,0)) } ∧
  conc (upd s h.next (w.heap.size,c)) v=.slice (some ⟨w.heap.size,0,none⟩) need c∧ws h'.next v=true:=by
 unfold Zv0 at e
 split at e<;>try cases e
 split at e<;>try cases e
 rename_i tr ht
 have hn:=(H.drew d).new (c:=c) (o':=.cells l elem (some sz)) (ob:=.cells (concL s l++rest).toArray elem (0,0)) (tr':=tr) (f:=FT) (by
  refine ⟨rest,?_,?_,?_⟩
  ·rw [Za2g hw]
  ·rw [Zbb,hl,hr,←Nat.add_mul];congr 1;omega
  ·rw [Zbb];exact hcm) (Zm7 (n:=h.next) (by simp) hw) ht
 exact ⟨hn.1,(Ext.drew s h w d).trans hn.2,by simp [conc,Zbb],by simp [ws]⟩
theorem Zoj {P:Program} {h h':Hp} {ts:Array TypeId} {ty:TypeId} {su x v:AV} (e:Zok P h ts su x=some (v,h')) {s:Sg} {w:World} (H:HRel s h w) (hws:ws h.next su=true) :
  ∃s' w',(Builtin.append_ ts ty #[conc s su,conc s x]).run P w=.ok (conc s' v) w'∧HRel s' h' w'∧Ext s h w s' h' w'∧ws h'.next v=true:=by
 unfold Zok at e
 split at e<;>try cases e
 rename_i t0 t1 ht0 ht1
 have ht0:ts[0]?=some t0:=by rw [Zcg] at ht0;simpa using ht0
 have ht1:ts[1]?=some t1:=by rw [Zcg] at ht1;simpa using ht1
 split at e<;>try cases e
 rename_i elem d1 hu0 hu1
 split at e<;>try cases e
 rename_i sz z by_ hs hz hb
 obtain ⟨info,hi,rfl⟩:∃info,P.info? elem=some info∧info.bytes=by_:=by
  unfold Zeb at hb
  cases hi:P.info? elem<;>simp [hi] at hb
  exact ⟨_,rfl,hb⟩
 split at e<;>try cases e
 rename_i n new hzl hpos hsrc
 have hzl:=Nat.eq_of_beq_eq_true hzl
 rw [Nat.blt_eq] at hpos
 have src:wsL h.next new=true∧new.length=n*sz ∧
   (∀(base:Option Addr) (sLen sCap:Nat) (old:List AV),sCap<sLen+n→(2*(sLen+n)+192)*info.bytes≤281474976710656→sLen+n≤1099511627776 →
    (∀d,(Builtin.firstCells sz sLen (.slice base sLen sCap)).run P { w with drawn:=d }=.ok (concL s old).toArray { w with drawn:=d }) →
    ∃c,sLen+n≤c∧c≤9223372036854775807∧∃d,∃rest:List Value,rest.length=(c - (sLen+n))*sz∧(Builtin.append_ ts ty #[.slice base sLen sCap,conc s x]).run P w =
     .ok (.slice (some ⟨w.heap.size,0,none⟩) (sLen+n) c) { w with drawn:=d,heap:=w.heap.push (.cells (concL s old++concL s new++rest).toArray elem (0,0)) }) ∧
   (∀(b off sLen sCap:Nat) (w':World),sLen+n≤sCap→(storeCells ⟨b,off+sLen*sz,none⟩ (concL s new)).run P w=.ok () w' →
    (Builtin.append_ ts ty #[.slice (some ⟨b,off,none⟩) sLen sCap,conc s x]).run P w=.ok (.slice (some ⟨b,off,none⟩) (sLen+n) sCap) w') ∧
   (n=0→(∀k,d1≠.int k)→(Builtin.append_ ts ty #[.slice none 0 0,conc s x]).run P w=.ok (.slice none 0 0) w):=by
  unfold appSrc at hsrc
  split at hsrc
  ·rename_i ki
   split at hsrc<;>try cases hsrc
   rename_i kx xi
   split at hsrc<;>try cases hsrc
   rename_i n' hwr
   split at hsrc<;>try cases hsrc
   rename_i hnb
   have hnb:=Nat.le_of_ble_eq_true hnb
   refine ⟨Za2v (Zm6 (Zmm hz _)) _,by rw [Zrs,hzl],?_,?_,?_⟩
   ·intro base sLen sCap old h1 h2 h3 h4
    exact Za7d ht0 ht1 hu0 hu1 hs hz hi hzl hpos hwr hnb h1 h2 h3 h4
   ·intro b off sLen sCap w' h1 h2
    exact Za7e ht0 ht1 hu0 hu1 hs hz hi hzl hpos hwr hnb h1 h2
   ·intro _ h;exact absurd rfl (h ki)
  ·rename_i hni
   have hd:∀k,d1≠.int k:=fun k q=>hni k q
   obtain ⟨hlen,hfirst,hneww,hnewl⟩:=Zi4 (P:=P) hsrc H
   have hfirstd:∀d,(Builtin.firstCells sz n (conc s x)).run P { w with drawn:=d }=.ok (concL s new).toArray { w with drawn:=d }:=fun d=>(Zi4 (P:=P) hsrc (H.drew d)).2.1
   refine ⟨hneww,hnewl,?_,?_,?_⟩
   ·intro base sLen sCap old h1 h2 h3 h4
    exact Ztc ht0 ht1 hu0 hu1 hd hs hz hi hzl hlen h1 h2 h3 h4 hfirstd
   ·intro b off sLen sCap w' h1 h2
    exact Zvh ht0 ht1 hu0 hu1 hd hs hlen h1 hfirst h2
   ·intro h0 _
    subst h0
    exact Zrb ht0 ht1 hu0 hu1 hd hs hlen hfirst
 obtain ⟨hneww,hnewl,Grow,Fits,Nil⟩:=src
 split at e
 ·split at e
  ·rename_i hni
   simp only [Option.some.injEq,Prod.mk.injEq] at e
   obtain ⟨rfl,rfl⟩:=e
   exact ⟨s,w,Nil rfl (fun k q=>by subst q;cases hni),H,Ext.refl _ _ _,rfl⟩
  ·cases e
  ·rename_i n _ _
   have hg:=e
   unfold Zv0 at hg
   split at hg<;>try cases hg
   rename_i q1 q2
   have q1:=Nat.le_of_ble_eq_true q1
   have q2:=Nat.le_of_ble_eq_true q2
   obtain ⟨c,hc,hcm,d,rest,hr,hrun⟩:=Grow none 0 0 [] (by omega) (by simpa using q1) (by omega) (fun d=>by simp [Builtin.firstCells,concL])
   simp only [Nat.zero_add] at hc hr hrun
   obtain ⟨h1,h2,h3,h4⟩:=Zsw (d:=d) (rest:=rest) e H hnewl hc hcm hr hneww
   refine ⟨_,_,?_,h1,h2,h4⟩
   rw [h3]
   simpa [conc,concL] using hrun
 ·rename_i b off len c
  split at e
  ·rename_i hf
   have hf:=Nat.le_of_ble_eq_true hf
   split at e<;>try cases e
   rename_i hw
   obtain ⟨w',hr,hH,hE⟩:=Zn0 (P:=P) hw H hneww
   refine ⟨s,w',?_,hH,hE,Zq3 hE.next _ (by simpa [ws] using hws)⟩
   exact Fits _ _ _ _ _ hf hr
  ·rename_i hf
   have hf:¬len+n≤c:=fun q=>by rw [Nat.ble_eq_true_of_le q] at hf;cases hf
   split at e<;>try cases e
   rename_i k old hold
   obtain ⟨hl2,hf2,ho2,hol⟩:=Zi4 (P:=P) hold H
   have hk:k=len:=by
    simp only [conc,Builtin.lenOf,Sem.run_pure,Result.ok.injEq,and_true] at hl2;exact hl2.symm
   subst hk
   have hg:=e
   unfold Zv0 at hg
   split at hg<;>try cases hg
   rename_i q1 q2
   have q1:=Nat.le_of_ble_eq_true q1
   have q2:=Nat.le_of_ble_eq_true q2
   obtain ⟨cc,hc,hcm,d,rest,hr,hrun⟩:=Grow (some ⟨(s b).1,off,none⟩) k c old (by omega) (by simpa using q1) (by omega) (fun d=>(Zi4 (P:=P) hold (H.drew d)).2.1)
   obtain ⟨h1,h2,h3,h4⟩:=Zsw (d:=d) (rest:=rest) e H (by rw [List.length_append,hol,hnewl,Nat.add_mul]) hc hcm hr (Zje ho2 hneww)
   refine ⟨_,_,?_,h1,h2,h4⟩
   rw [h3]
   simpa [conc,Zj7] using hrun
 ·rename_i b len
  split at e<;>try cases e
  rename_i l ty' z' hgb
  split at e<;>try cases e
  rename_i q1 q2 q3 q4 q5 q6
  have q1:=Nat.eq_of_beq_eq_true q1
  have q2:=Nat.eq_of_beq_eq_true q2
  have q3:=Nat.le_of_ble_eq_true q3
  have q5:=Nat.le_of_ble_eq_true q5
  have q6:=Nat.le_of_ble_eq_true q6
  subst q1 q2
  split at e<;>try cases e
  rename_i tr₁ ht₁
  split at e<;>try cases e
  rename_i tr₂ ht₂
  obtain ⟨tail,hw,_,htl⟩:=H.cells hgb
  obtain ⟨htl,hcs⟩:=htl _ rfl
  have hL:=Zc3 s l
  have hN:=Zc3 s new
  have hlw:wsL h.next l=true:=H.wso _ _ hgb
  have hall:wsL h.next (takeN (len*z') l++new)=true:=Zje (Zt3 hlw) hneww
  by_cases hfit:len+n≤(s b).2
  ·have hsz:(len+n)*z'≤(s b).2*z':=Nat.mul_le_mul_right _ hfit
   rw [Nat.add_mul] at hsz
   obtain ⟨c',hc',hr⟩:=Zdn (P:=P) (off:=len*z') (concL s new) 0 w _ hw (by simp;omega) (by
    intro v hv
    rw [Zn2] at hv
    obtain ⟨y,hy,rfl⟩:=List.mem_map.1 hv
    exact Za4r ((Za4s new).1 q4 y hy))
   have hmv:=H.move (ob:=.cells c' ty' (0,0)) (o':=.cells (takeN (len*z') l++new) ty' (some z')) hgb ht₁ ht₂ (by
    refine ⟨c'.toList.drop ((len+n)*z'),?_,?_,by rw [Zbb];exact hcs⟩
    ·rw [Za2g hall]
     congr 2
     apply Array.toList_inj.1
     simp only [List.toList_toArray]
     rw [hc',Zj7,Zdt,Zln]
     simp only [Nat.add_zero]
     rw [List.take_append_of_le_length (by omega),List.append_assoc]
     conv=>rhs;rw [List.append_assoc]
     congr 2
     rw [Nat.add_mul,←List.append_assoc]
     rw [show len*z'+n*z'=((concL s l).take (len*z')++concL s new).length by simp;omega]
     rw [List.drop_left]
    ·have h1:c'.toList.length=(s b).2*z':=by rw [hc'];simp;omega
     rw [Zbb,List.length_drop,h1,List.length_append,Zdt,List.length_take,hnewl,Nat.min_eq_left q3,Nat.add_mul];omega) hall
   refine ⟨_,_,?_,hmv.1,hmv.2,by simp [ws]⟩
   have:=Fits (s b).1 0 len ((s b).2 - 0) (setB w (s b).1 (.cells c' ty' (0,0))) (by omega) (by simpa using hr)
   simpa [conc,Zbb] using this
  ·have hold:Zmc h z' (.slice b 0 len true 0)=some (len,takeN (len*z') l):=by
    simp only [Zmc,hgb]
    rw [show Nat.ble (0+len*z') l.length=true from Nat.ble_eq_true_of_le (by omega)]
    simp [dropN]
   obtain ⟨hl2,hf2,ho2,hol⟩:=Zi4 (P:=P) hold H
   obtain ⟨cc,hc,hcm,d,rest,hr,hrun⟩:=Grow (some ⟨(s b).1,0,none⟩) len ((s b).2 - 0) (takeN (len*z') l) (by omega) (by simpa using q5) (by omega) (fun d=>(Zi4 (P:=P) hold (H.drew d)).2.1)
   have hk:=H.kill ht₁
   have he:Zv0 ⟨tr₁,h.next⟩ ty' z' info.bytes (len+n) (takeN (len*z') l++new)=some (.slice h.next 0 (len+n) true 0,⟨tr₂,h.next+1⟩):=by
    unfold Zv0
    rw [Nat.ble_eq_true_of_le q5,Nat.ble_eq_true_of_le q6]
    simp only [ht₂]
   obtain ⟨h1,h2,h3,h4⟩:=Zsw (d:=d) (rest:=rest) he hk.1 (by rw [List.length_append,hol,hnewl,Nat.add_mul]) hc hcm hr hall
   refine ⟨_,_,?_,h1,hk.2.trans h2,h4⟩
   rw [h3]
   simpa [conc,Zj7] using hrun
 ·cases e
def Za99 (P:Program) (h:Hp) (ts:Array TypeId) (d x:AV):Option (AV×Hp):=match nth ts.toList 0 with
 | some t0=>match P.underlying t0 with
  | some (.slice elem)=>match Zbz P elem with
   | some sz=>match x with
    | .nils=>match d with
     | .nils=>some (.int .i64 0,h)
     | .slice b _ _ _ _=>match h.tr.get b with
      | some (.cells _ _ _)=>some (.int .i64 0,h)
      | _=>none
     | _=>none
    | .slice b off m u c=>match d with
     | .slice b2 off2 dLen _ _=>match Zmc h sz (.slice b off (Nat.min m dLen) u c) with
      | some (n,l)=>match Zqq h b2 off2 l with
       | some h'=>some (.int .i64 (n:Int),h')
       | none=>none
      | none=>none
     | _=>none
    | _=>none
   | none=>none
  | _=>none
 | none=>none
theorem Za6m {P:Program} {h h':Hp} {ts:Array TypeId} {ty:TypeId} {d x v:AV} (e:Za99 P h ts d x=some (v,h')) {s:Sg} {w:World} (H:HRel s h w) :
  ∃w',(Builtin.copy_ ts ty #[conc s d,conc s x]).run P w=.ok (conc s v) w'∧HRel s h' w'∧Ext s h w s h' w'∧ws h'.next v=true:=by
 unfold Za99 at e
 split at e<;>try cases e
 rename_i t0 ht0
 have ht0:ts[0]?=some t0:=by rw [Zcg] at ht0;simpa using ht0
 split at e<;>try cases e
 rename_i elem hu
 split at e<;>try cases e
 rename_i sz hs
 split at e
 ·split at e
  ·simp only [Option.some.injEq,Prod.mk.injEq] at e
   obtain ⟨rfl,rfl⟩:=e
   refine ⟨w,?_,H,Ext.refl _ _ _,rfl⟩
   simp [Builtin.copy_,ht0,run_underlying hu,conc,Builtin.lenOf,run_sizeOf hs,Builtin.firstCells,goInt]
  ·split at e<;>try cases e
   refine ⟨w,?_,H,Ext.refl _ _ _,rfl⟩
   simp [Builtin.copy_,ht0,run_underlying hu,conc,Builtin.lenOf,run_sizeOf hs,Builtin.firstCells,goInt,storeCells]
  ·cases e
 ·rename_i b off m u c
  split at e<;>try cases e
  rename_i b2 off2 dLen u2 c2
  split at e<;>try cases e
  rename_i n l hsrc
  split at e<;>try cases e
  rename_i hw
  obtain ⟨h1,h2,h3,h4⟩:=Zi4 (P:=P) hsrc H
  have hn:n=Nat.min m dLen:=by
   simp only [conc,Builtin.lenOf,Sem.run_pure,Result.ok.injEq,and_true] at h1;exact h1.symm
  subst hn
  obtain ⟨w',hr,hH,hE⟩:=Zn0 (P:=P) hw H h3
  refine ⟨w',?_,hH,hE,rfl⟩
  have h2':(Builtin.firstCells sz (Nat.min m dLen) (conc s (.slice b off m u c))).run P w=.ok (concL s l).toArray w:=h2
  have hlen:(Builtin.lenOf (conc s (.slice b off m u c))).run P w=.ok m w:=rfl
  have hd:conc s (.slice b2 off2 dLen u2 c2)=.slice (some ⟨(s b2).1,off2,none⟩) dLen (match u2 with | true=>(s b2).2 - c2 | false=>c2):=rfl
  simp only [Builtin.copy_,ht0,List.getElem?_toArray,List.getElem?_cons_zero,List.getElem?_cons_succ,Sem.run_bind,run_underlying hu,Result.andThen_ok,hd,hlen,run_sizeOf hs,h2',hr,Sem.run_pure]
  simp [conc,goInt]
 ·cases e
def findA (d:TypeDesc) (k:Value):List (AV×AV×Nat)→Nat→Option (Option (Nat×AV))
 | [],_=>some none
 | e :: es,i=>match scal e.1 with
  | some x=>match Instr.sameNow d k x with
   | some true=>some (some (i,e.2.1))
   | some false=>findA d k es (i+1)
   | none=>none
  | none=>none
theorem Za24 {d:TypeDesc} {k:Value} (s:Sg):∀{es:List (AV×AV×Nat)} {i:Nat} {r:Option (Nat×AV)},findA d k es i=some r →
  Instr.findNow d k (concE s es) i=some (r.map fun p=>(p.1,conc s p.2))
 | [],i,r,h=>by simp [findA] at h;subst h;rfl
 | e :: es,i,r,h=>by
  simp only [findA] at h
  split at h<;>try cases h
  rename_i x hx
  simp only [concE,List.map_cons,Instr.findNow,Zet hx]
  split at h
  ·rename_i q;simp at h;subst h;simp [q]
  ·rename_i q;simp only [q];exact Za24 s h
  ·cases h
def findB (P:Program) (kt:TypeId) (k:Value):List (AV×AV×Nat)→Nat→Option (Option (Nat×AV))
 | [],_=>some none
 | e :: es,i=>match scal e.1 with
  | some x=>match still P 4000 (Op.equal kt k x) with
   | some true=>some (some (i,e.2.1))
   | some false=>findB P kt k es (i+1)
   | none=>none
  | none=>none
theorem Za23 {P:Program} {kt:TypeId} {k:Value} (s:Sg) (w:World):∀{es:List (AV×AV×Nat)} {i:Nat} {r:Option (Nat×AV)},findB P kt k es i=some r →
  (Instr.findAsking kt k (concE s es) i).run P w=.ok (r.map fun p=>(p.1,conc s p.2)) w
 | [],i,r,h=>by simp [findB] at h;subst h;rfl
 | e :: es,i,r,h=>by
  simp only [findB] at h
  split at h<;>try cases h
  rename_i x hx
  simp only [concE,List.map_cons,Instr.findAsking,Zet hx]
  split at h
  ·rename_i q;simp at h;subst h;simp [Ze1 q]
  ·rename_i q;simp only [Sem.run_bind,Ze1 q,Result.andThen_ok];exact Za23 s w h
  ·cases h
def Zyz (P:Program) (kt:TypeId) (k:Value) (es:List (AV×AV×Nat)):Option (Option (Nat×AV)):=match P.underlying kt with
 | some d=>match findA d k es 0 with
  | some r=>some r
  | none=>match es with
   | e :: _=>match scal e.1 with
    | some x=>match Instr.sameNow d k x with
     | none=>findB P kt k es 0
     | some _=>none
    | none=>none
   | []=>none
 | none=>none
theorem Zuc {P:Program} {kt:TypeId} {k:Value} {es:List (AV×AV×Nat)} {r:Option (Nat×AV)} (e:Zyz P kt k es=some r) (s:Sg) (w:World) :
  (Instr.findKey kt k (concE s es)).run P w=.ok (r.map fun p=>(p.1,conc s p.2)) w:=by
 unfold Zyz at e
 split at e<;>try cases e
 rename_i d hu
 split at e
 ·rename_i q hq
  simp at e;subst e
  simp [Instr.findKey,run_underlying hu,Za24 s hq]
 ·split at e<;>try cases e
  rename_i e0 es0 hfa
  split at e<;>try cases e
  rename_i x hx
  split at e<;>try cases e
  rename_i hn
  have h0:Instr.findNow d k (concE s (e0 :: es0)) 0=none:=by simp [concE,Instr.findNow,Zet hx,hn]
  have:=Za23 s w e
  simp only [Instr.findKey,Sem.run_bind,run_underlying hu,Result.andThen_ok,h0]
  exact this
def entriesOf (h:Hp):AV→Option (List (AV×AV×Nat))
 | .nilm=>some []
 | .map b=>match h.tr.get b with
  | some (.map es _)=>some es
  | _=>none
 | _=>none
def isEmp {α:Type}:List α→Bool | []=>true | _=>false
def Za0b (P:Program) (h:Hp) (t:TypeId) (u k:AV) (ok:Bool):Option AV:=match P.underlying t,entriesOf h u,scal k with
 | some (.map kt et),some es,some kv=>match still P 4000 (Instr.checkKey (isEmp es) 10000 kt kv),Zyz P kt kv es with
  | some _,some r=>match r with
   | some (_,v)=>some (match ok with | true=>.tup [v,.bool true] | false=>v)
   | none=>match Ze3 P et with
    | some z=>some (match ok with | true=>.tup [z,.bool false] | false=>z)
    | none=>none
  | _,_=>none
 | _,_,_=>none
theorem Zu8 (s:Sg) (es:List (AV×AV×Nat)):(concE s es).toArray.isEmpty=isEmp es:=by cases es<;>simp [concE,isEmp]
theorem Za2c {P:Program} {h:Hp} {t:TypeId} {u k v:AV} {ok:Bool} (e:Za0b P h t u k ok=some v) {s:Sg} {w:World} (H:HRel s h w) :
  (Instr.lookup t (conc s u) (conc s k) ok).run P w=.ok (conc s v) w:=by
 unfold Za0b at e
 split at e<;>try cases e
 rename_i kt et es kv hu he hk
 split at e<;>try cases e
 rename_i un r hck hf
 have hes:(match conc s u with
  | .map none=>pure #[]
  | .map (some r)=>do
   let .map es _ ← getObj r | stuck "Lookup: map expected"
   pure es
  | _=>stuck "Lookup: map expected":Sem (Array MapEntry)).run P w=.ok (concE s es).toArray w:=by
  unfold entriesOf at he
  split at he
  ·simp at he;subst he;rfl
  ·rename_i b
   split at he<;>try cases he
   rename_i c hb
   have:=H.obj b _ hb
   simp only [ORel] at this
   simp [conc,getObj,Sem.run,this]
  ·cases he
 have hck':(Instr.checkKey (isEmp es) 10000 kt kv).run P w=.ok un w:=Ze1 hck w
 have hf':=Zuc hf s w
 have key:∀(x:Value) (b:Bool),(match r with | some (_,v)=>(conc s v,true) | none=>(x,false)).1=(match r with | some (_,v)=>conc s v | none=>x):=by intro x b;cases r<;>rfl
 simp only [Instr.lookup,Sem.run_bind,run_underlying hu,Result.andThen_ok,Zet hk] at hes ⊢
 cases u with
 | nilm=>
  have hE:es=[]:=by simpa [entriesOf] using he.symm
  subst hE
  have hr:r=none:=by
   unfold Zyz at hf
   cases hd:P.underlying kt with
   | none=>simp [hd] at hf
   | some d=>simp [hd,findA] at hf;exact hf.symm
  subst hr
  simp only [conc,Sem.run_bind,Sem.run_pure,Result.andThen_ok]
  have h1:(Instr.checkKey (#[]:Array MapEntry).isEmpty 10000 kt kv).run P w=.ok un w:=hck'
  have h2:(Instr.findKey kt kv (#[]:Array MapEntry).toList).run P w=.ok none w:=hf'
  simp only [h1,h2,Result.andThen_ok]
  simp only [] at e
  cases hz:Ze3 P et<;>simp only [hz] at e
  ·cases e
  simp only [Option.some.injEq] at e;subst e
  cases ok<;>simp [Zbe hz s,conc,concL]
 | map b=>
  unfold entriesOf at he
  simp only [] at he
  split at he<;>try cases he
  rename_i c hb
  have ho:=H.obj b _ hb
  simp only [ORel] at ho
  have hg:(getObj (s b).1).run P w=.ok (.map (concE s es).toArray c) w:=by simp [getObj,Sem.run,ho]
  have h1:(Instr.checkKey (concE s es).toArray.isEmpty 10000 kt kv).run P w=.ok un w:=by rw [Zu8];exact hck'
  simp only [conc,Sem.run_bind,hg,Result.andThen_ok,Sem.run_pure,h1,hf']
  cases r with
  | some q=>
   simp only [Option.some.injEq] at e;subst e
   cases ok<;>simp [conc,concL]
  | none=>
   simp only [] at e
   cases hz:Ze3 P et<;>simp only [hz] at e
   ·cases e
   simp only [Option.some.injEq] at e;subst e
   cases ok<;>simp [Zbe hz s,conc,concL]
 | _=>simp [entriesOf] at he
def modE:List (AV×AV×Nat)→Nat→AV→AV→List (AV×AV×Nat)
 | [],_,_,_=>[]
 | e :: es,n,k,v=>match n with
  | 0=>(k,v,e.2.2) :: es
  | n+1=>e :: modE es n k v
theorem Za1e (s:Sg) (k v:AV):∀(es:List (AV×AV×Nat)) (i:Nat),concE s (modE es i k v)=(concE s es).modify i (fun e=>{ e with key:=conc s k,val:=conc s v })
 | [],i=>by cases i<;>rfl
 | e :: es,0=>by simp [modE,concE]
 | e :: es,i+1=>by
  have:=Za1e s k v es i
  simp only [concE] at this
  simp [modE,concE,this]
theorem Za7r {n:Nat} {k v:AV} (hk:ws n k=true) (hv:ws n v=true):∀{es:List (AV×AV×Nat)} {i:Nat},wsE n es=true→wsE n (modE es i k v)=true
 | [],i,h=>by cases i<;>exact h
 | e :: es,0,h=>by
  simp only [Zr5] at h ⊢
  intro x hx
  rcases List.mem_cons.1 hx with rfl | hx
  ·exact ⟨hk,hv⟩
  ·exact h x (List.mem_cons_of_mem _ hx)
 | e :: es,i+1,h=>by
  simp only [Zr5] at h
  have:=Za7r hk hv (es:=es) (i:=i) ((Zr5 n es).2 (fun x hx=>h x (List.mem_cons_of_mem _ hx)))
  simp only [Zr5] at this ⊢
  intro x hx
  rcases List.mem_cons.1 hx with rfl | hx
  ·exact h _ (by simp)
  ·exact this x hx
def Zvp (P:Program) (h:Hp) (t:TypeId) (m k v:AV):Option Hp:=match m with
 | .map b=>match P.underlying t,h.tr.get b,scal k with
  | some (.map kt _),some (.map es c),some kv=>match still P 4000 (Instr.checkKey false 10000 kt kv),Zyz P kt kv es with
   | some _,some r=>match r with
    | some (i,_)=>match nth es i with
     | some e=>match scal e.1 with
      | some ok=>match still P 4000 (Instr.keyThatStays ok kv) with
       | some kk=>match back kk with
        | some kk=>match Tr.set FT h.tr b (some (.map (modE es i kk v) c)) with
         | some tr=>some ⟨tr,h.next⟩
         | none=>none
        | none=>none
       | none=>none
      | none=>none
     | none=>none
    | none=>match Tr.set FT h.tr b (some (.map (es++[(k,v,c)]) (c+1))) with
     | some tr=>some ⟨tr,h.next⟩
     | none=>none
   | _,_=>none
  | _,_,_=>none
 | _=>none
theorem Zrr {P:Program} {w:World} {r:Nat} {es:Array MapEntry} {c:Nat} {o:Obj} (h:w.heap[r]?=some (.map es c)):(setObj r o).run P w=.ok () (setB w r o):=by
 simp [setObj,Sem.run,h,setB]
theorem Zuz {P:Program} {h h':Hp} {t:TypeId} {m k v:AV} (e:Zvp P h t m k v=some h') {s:Sg} {w:World} (H:HRel s h w) (hk:ws h.next k=true) (hv:ws h.next v=true) :
  ∃w',(Instr.mapUpdate t (conc s m) (conc s k) (conc s v)).run P w=.ok () w'∧HRel s h' w'∧Ext s h w s h' w':=by
 unfold Zvp at e
 split at e<;>try cases e
 rename_i b
 split at e<;>try cases e
 rename_i kt et es c kv hu hb hsk
 split at e<;>try cases e
 rename_i un r hck hf
 have hck':=Ze1 hck w
 have hf':=Zuc hf s w
 have ho:=H.obj b _ hb
 have hwe:=H.wso b _ hb
 simp only [ORel] at ho
 have hg:(getObj (s b).1).run P w=.ok (.map (concE s es).toArray c) w:=by simp [getObj,Sem.run,ho]
 cases r with
 | some q=>
  obtain ⟨i,x⟩:=q
  simp only [] at e
  split at e<;>try cases e
  rename_i e0 he0
  split at e<;>try cases e
  rename_i okv hok
  split at e<;>try cases e
  rename_i kk hkk
  split at e<;>try cases e
  rename_i kk' hkk'
  split at e<;>try cases e
  rename_i tr ht
  have hks:=Ze1 hkk w
  have hkey:(((concE s es).toArray[i]?).map (·.key)).getD kv=okv:=by
   rw [Zcg] at he0
   simp [concE,he0,Zet hok]
  have:=H.put (ob:=.map ((concE s es).toArray.modify i fun e=>{ e with key:=kk,val:=conc s v }) c) hb rfl
   (o':=.map (modE es i kk' v) c) (by simp only [ORel];rw [Za1e,Zj8 hkk'];simp) (Za7r (Za4a hkk' _) hv hwe) ht
  refine ⟨_,?_,this.1,this.2⟩
  simp only [Instr.mapUpdate,conc,Sem.run_bind,run_underlying hu,Result.andThen_ok,hg,Zet hsk,hck',hf',Option.map_some,hkey,hks,Zrr ho]
 | none=>
  simp only [] at e
  split at e<;>try cases e
  rename_i tr ht
  have:=H.put (ob:=.map ((concE s es).toArray.push { key:=conc s k,val:=conc s v,born:=c }) (c+1)) hb rfl
   (o':=.map (es++[(k,v,c)]) (c+1)) (by simp [ORel,concE]) (by
    simp only [wsO,Zr5] at hwe ⊢
    intro x hx
    rcases List.mem_append.1 hx with hx | hx
    ·exact hwe x hx
    ·simp at hx;subst hx;exact ⟨hk,hv⟩) ht
  refine ⟨_,?_,this.1,this.2⟩
  simp only [Instr.mapUpdate,conc,Sem.run_bind,run_underlying hu,Result.andThen_ok,hg,Zet hsk,hck',hf',Option.map_none]
  rw [Zrr ho]
def delE:List (AV×AV×Nat)→Nat→List (AV×AV×Nat)
 | [],_=>[]
 | e :: es,n=>match n with
  | 0=>es
  | n+1=>e :: delE es n
theorem Za43:∀(es:List (AV×AV×Nat)) (i:Nat),delE es i=es.eraseIdx i
 | [],i=>by cases i<;>rfl
 | e :: es,0=>rfl
 | e :: es,i+1=>by simp [delE,Za43 es i]
theorem Za1f {α β:Type} (f:α→β):∀(l:List α) (i:Nat),(l.map f).eraseIdx i=(l.eraseIdx i).map f
 | [],i=>by simp
 | x :: l,0=>by simp
 | x :: l,i+1=>by simp [Za1f f l i]
def Za0c (P:Program) (h:Hp) (ts:Array TypeId) (m k:AV):Option Hp:=match nth ts.toList 0 with
 | some t=>match m with
  | .map b=>match P.underlying t,h.tr.get b,scal k with
   | some (.map kt _),some (.map es c),some kv=>match still P 4000 (Instr.checkKey (isEmp es) 10000 kt kv),Zyz P kt kv es with
    | some _,some r=>match r with
     | some (i,_)=>match Tr.set FT h.tr b (some (.map (delE es i) c)) with
      | some tr=>some ⟨tr,h.next⟩
      | none=>none
     | none=>match Tr.set FT h.tr b (some (.map es c)) with
      | some tr=>some ⟨tr,h.next⟩
      | none=>none
    | _,_=>none
   | _,_,_=>none
  | _=>none
 | none=>none
theorem Za2e {P:Program} {h h':Hp} {ts:Array TypeId} {ty:TypeId} {m k:AV} (e:Za0c P h ts m k=some h') {s:Sg} {w:World} (H:HRel s h w) :
  ∃w',(Builtin.delete_ ts ty #[conc s m,conc s k]).run P w=.ok (.tuple #[]) w'∧HRel s h' w'∧Ext s h w s h' w':=by
 unfold Za0c at e
 split at e<;>try cases e
 rename_i t ht0
 have ht0:ts[0]?=some t:=by rw [Zcg] at ht0;simpa using ht0
 split at e<;>try cases e
 rename_i b
 split at e<;>try cases e
 rename_i kt et es c kv hu hb hsk
 split at e<;>try cases e
 rename_i un r hck hf
 have hck':=Ze1 hck w
 have hf':=Zuc hf s w
 have ho:=H.obj b _ hb
 have hwe:=H.wso b _ hb
 simp only [ORel] at ho
 have hg:(getObj (s b).1).run P w=.ok (.map (concE s es).toArray c) w:=by simp [getObj,Sem.run,ho]
 cases r with
 | some q=>
  obtain ⟨i,x⟩:=q
  simp only [] at e
  split at e<;>try cases e
  rename_i tr ht
  have:=H.put (ob:=.map ((concE s es).toArray.eraseIdxIfInBounds i) c) hb rfl (o':=.map (delE es i) c) (by
    simp only [ORel]
    rw [Za43]
    simp only [concE,←Za1f]
    congr 2
    apply Array.toList_inj.1
    unfold Array.eraseIdxIfInBounds
    split
    ·simp
    ·rename_i q
     simp at q
     rw [List.eraseIdx_of_length_le (by simpa using q)]) (by
    simp only [wsO,Zr5,Za43] at hwe ⊢
    exact fun x hx=>hwe x (List.mem_of_mem_eraseIdx hx)) ht
  refine ⟨_,?_,this.1,this.2⟩
  simp only [Builtin.delete_,ht0,List.getElem?_toArray,List.getElem?_cons_zero,List.getElem?_cons_succ,conc,Sem.run_bind,run_underlying hu,Result.andThen_ok,hg,Zet hsk,Zu8,hck',hf',Option.map_some,Zrr ho,Sem.run_pure]
 | none=>
  simp only [] at e
  split at e<;>try cases e
  rename_i tr ht
  have:=H.put (ob:=.map (concE s es).toArray c) hb rfl (o':=.map es c) rfl hwe ht
  refine ⟨_,?_,this.1,this.2⟩
  simp only [Builtin.delete_,ht0,List.getElem?_toArray,List.getElem?_cons_zero,List.getElem?_cons_succ,conc,Sem.run_bind,run_underlying hu,Result.andThen_ok,hg,Zet hsk,Zu8,hck',hf',Option.map_none,Zrr ho,Sem.run_pure]
def Zjs (P:Program) (b:Builtin) (ts:Array TypeId) (ty:TypeId) (vs:List AV):Option AV:=match b with
 | .len=>match vs with
  | [u]=>match nth ts.toList 0 with
   | some t=>match P.underlying t with
    | some (.slice _)=>match u with
     | .slice _ _ n _ _=>some (.int .i64 (n:Int))
     | .nils=>some (.int .i64 0)
     | .rawS _ n _=>some (.int .i64 (n:Int))
     | .tailS _ _ _ _=>some (.int .i64 0)
     | _=>none
    | some .string=>match u with
     | .str x=>some (.int .i64 (x.size:Int))
     | _=>none
    | some (.array n _)=>some (.int .i64 (n:Int))
    | _=>none
   | none=>none
  | _=>none
 | .max=>match scalL vs with
  | some xs=>match still P 4000 (Builtin.max_ ts ty xs.toArray) with
   | some r=>back r
   | none=>none
  | none=>none
 | .min=>match scalL vs with
  | some xs=>match still P 4000 (Builtin.min_ ts ty xs.toArray) with
   | some r=>back r
   | none=>none
  | none=>none
 | _=>none
def Za27 (P:Program) (T:Tr AV) (o:Oper):Option AV:=match o.op with
 | .move x=>evO T x
 | .pick c a b=>match evO T c with
  | some (.bool true)=>evO T a
  | some (.bool false)=>evO T b
  | _=>none
 | .nilCheck x=>match evO T x with
  | some (.ptr b off)=>some (.ptr b off)
  | some (.func f a c)=>some (.func f a c)
  | _=>none
 | .binOp op t x y _=>match evO T x,evO T y with
  | some u,some v=>evBin P op t x y u v
  | _,_=>none
 | .unOp op _ x=>match evO T x with
  | some u=>match scal u with
   | some a=>match still P 100 (Op.unary op a) with
    | some r=>back r
    | none=>none
   | none=>none
  | none=>none
 | .convert src dst x=>match evO T x with
  | some u=>match scal u with
   | some a=>match still P 4000 (convert src dst a) with
    | some r=>back r
    | none=>none
   | none=>none
  | none=>none
 | .extract t i=>match evO T t with
  | some (.tup l)=>nth l i
  | _=>none
 | .field t x f=>match evO T x with
  | some u=>Zsy P t u f
  | none=>none
 | .fieldAddr t x f=>match evO T x with
  | some u=>Zn1 P t u f
  | none=>none
 | .indexAddr t x i=>match evO T x,evO T i with
  | some u,some v=>Zjr P t u v
  | _,_=>none
 | .index t x i=>match evO T x,evO T i with
  | some u,some v=>match scal u,scal v with
   | some a,some b=>match still P 4000 (Instr.index t a b) with
    | some r=>back r
    | none=>none
   | _,_=>none
  | _,_=>none
 | .makeFunc fn first cap=>match fn with
  | .func f=>match evOL T first.toList,evOL T cap.toList with
   | some a,some c=>some (.func f a c)
   | _,_=>none
  | _=>none
 | .build t parts=>match Zgx T parts.toList with
  | some ps=>Zqx P t ps
  | none=>none
 | .call c=>match c.callee with
  | .builtin b=>match evOL T c.args.toList with
   | some vs=>Zjs P b c.argTypes o.type vs
   | none=>none
  | _=>none
 | _=>none
theorem Zqw {P:Program} {b:Builtin} {ts:Array TypeId} {ty:TypeId} {cs:Array Bool} {vs:List AV} {v:AV} (e:Zjs P b ts ty vs=some v) (s:Sg) (w:World) :
  (builtin b ts ty cs (concL s vs).toArray).run P w=.ok (.value (conc s v)) w:=by
 unfold Zjs at e
 split at e
 ·split at e<;>try cases e
  rename_i u
  split at e<;>try cases e
  rename_i t ht
  have ht:ts[0]?=some t:=by rw [Zcg] at ht;simpa using ht
  split at e
  ·rename_i hu
   split at e<;>try cases e
   ·simp [builtin,Builtin.len_,ht,concL,run_underlying hu,conc,goInt]
   ·simp [builtin,Builtin.len_,ht,concL,run_underlying hu,conc,goInt]
   ·simp [builtin,Builtin.len_,ht,concL,run_underlying hu,conc,goInt]
   ·simp [builtin,Builtin.len_,ht,concL,run_underlying hu,conc,goInt]
  ·rename_i hu
   split at e<;>try cases e
   simp [builtin,Builtin.len_,ht,concL,run_underlying hu,conc,goInt]
  ·rename_i hu
   cases e
   simp [builtin,Builtin.len_,ht,concL,run_underlying hu,conc,goInt]
  ·cases e
 ·split at e<;>try cases e
  rename_i xs hx
  split at e<;>try cases e
  rename_i r hr
  simp [builtin,Zrq hx,Ze1 hr,Zj8 e]
 ·split at e<;>try cases e
  rename_i xs hx
  split at e<;>try cases e
  rename_i r hr
  simp [builtin,Zrq hx,Ze1 hr,Zj8 e]
 ·cases e
theorem Zic {P:Program} {o:Oper} {c:Call} {b:Builtin} {a:Act} {w:World} (ho:o.op=.call c) (hc:c.callee=.builtin b) :
  (execOp a.eval o).run P w=(builtin b c.argTypes o.type (c.args.map fun | .const _=>true | _=>false) (c.args.map a.eval)).run P w:=by
 unfold execOp
 rw [ho]
 simp only [resolve,hc,Sem.run_bind,Sem.run_pure,Result.andThen_ok,invoke]
 rfl
theorem Zpx {s:Sg} {T:Tr AV} {a:Act} {o:Op} {l:Array Operand} {vs:List AV} (h:evOL T l.toList=some vs) (hO:Opnd s T a o) (hm:∀x∈l.toList,x∈o.operands) :
  l.map a.eval=(concL s vs).toArray:=by
 apply Array.toList_inj.1
 have:=Za29 h (fun x hx=>hO x (hm x hx))
 simpa using this
theorem Zub {P:Program} {T:Tr AV} {o:Oper} {v:AV} (e:Za27 P T o=some v) {s:Sg} {a:Act} (hO:Opnd s T a o.op) (w:World) :
  (execOp a.eval o).run P w=.ok (.value (conc s v)) w:=by
 unfold Za27 at e
 split at e<;>rename_i ho
 ·rename_i x
  rw [ho] at hO
  simp [execOp,ho,hO x (by simp [Op.operands]) v e]
 ·rename_i c x y
  rw [ho] at hO
  split at e
  ·rename_i hc
   have h1:=hO c (by simp [Op.operands]) _ hc
   simp [execOp,ho,h1,conc,asBool,hO x (by simp [Op.operands]) v e]
  ·rename_i hc
   have h1:=hO c (by simp [Op.operands]) _ hc
   simp [execOp,ho,h1,conc,asBool,hO y (by simp [Op.operands]) v e]
  ·cases e
 ·rename_i x
  rw [ho] at hO
  split at e<;>try cases e
  ·rename_i hx
   simp [execOp,ho,hO x (by simp [Op.operands]) _ hx,conc]
  ·rename_i hx
   simp [execOp,ho,hO x (by simp [Op.operands]) _ hx,conc]
 ·rename_i op t x y yt
  rw [ho] at hO
  split at e<;>try cases e
  rename_i u u' hx hy
  have h1:=hO x (by simp [Op.operands]) _ hx
  have h2:=hO y (by simp [Op.operands]) _ hy
  have:=Zx5 e s w
  simp only [execOp,ho,h1,h2]
  rw [Sem.run_bind,this];rfl
 ·rename_i op t x
  rw [ho] at hO
  split at e<;>try cases e
  rename_i u hx
  split at e<;>try cases e
  rename_i q hq
  split at e<;>try cases e
  rename_i r hr
  simp [execOp,ho,hO x (by simp [Op.operands]) _ hx,Zet hq,Ze1 hr,Zj8 e]
 ·rename_i src dst x
  rw [ho] at hO
  split at e<;>try cases e
  rename_i u hx
  split at e<;>try cases e
  rename_i q hq
  split at e<;>try cases e
  rename_i r hr
  simp [execOp,ho,hO x (by simp [Op.operands]) _ hx,Zet hq,Ze1 hr,Zj8 e]
 ·rename_i t i
  rw [ho] at hO
  split at e<;>try cases e
  rename_i l hx
  rw [Zcg] at e
  simp [execOp,ho,hO t (by simp [Op.operands]) _ hx,conc,Instr.extract,Ztq,e]
 ·rename_i t x f
  rw [ho] at hO
  split at e<;>try cases e
  rename_i u hx
  simp [execOp,ho,hO x (by simp [Op.operands]) _ hx,Zsx e]
 ·rename_i t x f
  rw [ho] at hO
  split at e<;>try cases e
  rename_i u hx
  simp [execOp,ho,hO x (by simp [Op.operands]) _ hx,Zqv e]
 ·rename_i t x i
  rw [ho] at hO
  split at e<;>try cases e
  rename_i u u' hx hi
  simp [execOp,ho,hO x (by simp [Op.operands]) _ hx,hO i (by simp [Op.operands]) _ hi,Zqu e]
 ·rename_i t x i
  rw [ho] at hO
  split at e<;>try cases e
  rename_i u u' hx hi
  split at e<;>try cases e
  rename_i q q' hq hq'
  split at e<;>try cases e
  rename_i r hr
  simp [execOp,ho,hO x (by simp [Op.operands]) _ hx,hO i (by simp [Op.operands]) _ hi,Zet hq,Zet hq',Ze1 hr,Zj8 e]
 ·rename_i fn first cap
  rw [ho] at hO
  split at e<;>try cases e
  split at e<;>try cases e
  rename_i f x y hx hy
  have h1:=Zpx hx hO (by intro z hz;simp only [Op.operands];exact Array.mem_append.2 (.inl (Array.mem_toList_iff.1 hz)))
  have h2:=Zpx hy hO (by intro z hz;simp only [Op.operands];exact Array.mem_append.2 (.inr (Array.mem_toList_iff.1 hz)))
  simp [execOp,ho,Instr.makeFunc,h1,h2,conc]
 ·rename_i t parts
  rw [ho] at hO
  split at e<;>try cases e
  rename_i ps hps
  have:=Zrj hps (fun x hx=>hO x (by simp only [Op.operands,List.mem_toArray];exact hx))
  simp [execOp,ho,Zsz e s w (parts.map fun x=>(x.1,a.eval x.2)) (by simpa using this)]
 ·rename_i c
  split at e<;>try cases e
  rename_i b hb
  split at e<;>try cases e
  rename_i vs hv
  rw [ho] at hO
  have h1:=Zpx hv hO (by intro z hz;simp only [Op.operands,Call.operands,hb];simpa using hz)
  rw [Zic ho hb,h1,Zqw e]
 ·cases e
def Zl4 (P:Program) (T:Tr AV) (h:Hp) (o:Oper):Option AV:=match o.op with
 | .load t x=>match evO T x with
  | some u=>Zoi P h t u
  | none=>none
 | .slice t x lo hi mx=>match evO T x with
  | some u=>Zor P h T t u lo hi mx
  | none=>none
 | .lookup t x i ok=>match evO T x,evO T i with
  | some u,some k=>Za0b P h t u k ok
  | _,_=>none
 | .call c=>match c.callee with
  | .builtin .len=>match evOL T c.args.toList with
   | some [.map m]=>match h.tr.get m,nth c.argTypes.toList 0 with
    | some (.map es _),some t=>match P.underlying t with
     | some (.map _ _)=>some (.int .i64 (es.length:Int))
     | _=>none
    | _,_=>none
   | _=>Za27 P T o
  | _=>Za27 P T o
 | _=>Za27 P T o
theorem Zlk {P:Program} {T:Tr AV} {h:Hp} {o:Oper} {v:AV} (e:Zl4 P T h o=some v) {s:Sg} {a:Act} (hO:Opnd s T a o.op) {w:World} (H:HRel s h w) :
  (execOp a.eval o).run P w=.ok (.value (conc s v)) w:=by
 unfold Zl4 at e
 split at e<;>try (rename_i ho)
 ·rename_i t x
  rw [ho] at hO
  split at e<;>try cases e
  rename_i u hx
  simp [execOp,ho,hO x (by simp [Op.operands]) _ hx,Zpo e H]
 ·rename_i t x lo hi mx
  rw [ho] at hO
  split at e<;>try cases e
  rename_i u hx
  have:=Zsu (a:=a) e H (by
   intro y hy
   apply hO y
   simp only [Op.operands]
   rcases hy with rfl | rfl | rfl<;>simp)
  simp [execOp,ho,hO x (by simp [Op.operands]) _ hx,this]
 ·rename_i t x i ok
  rw [ho] at hO
  split at e<;>try cases e
  rename_i u k hx hi
  simp [execOp,ho,hO x (by simp [Op.operands]) _ hx,hO i (by simp [Op.operands]) _ hi,Za2c e H]
 ·rename_i c
  split at e
  ·rename_i hb
   split at e
   ·rename_i m hv
    rw [ho] at hO
    have h1:=Zpx hv hO (by intro z hz;simp only [Op.operands,Call.operands,hb];simpa using hz)
    rw [Zic ho hb,h1]
    split at e<;>try cases e
    rename_i es cl t hm ht
    have ht:c.argTypes[0]?=some t:=by rw [Zcg] at ht;simpa using ht
    split at e<;>try cases e
    rename_i hu
    have hob:=H.obj m _ hm
    simp only [ORel] at hob
    simp [builtin,Builtin.len_,ht,run_underlying hu,concL,conc,getObj,Sem.run,hob,concE,goInt]
   ·exact Zub e hO w
  ·exact Zub e hO w
 ·exact Zub e hO w
def evWr (P:Program) (T:Tr AV) (h:Hp) (o:Oper):Option (AV×Hp):=match o.op with
 | .assign x=>match evO T x with
  | some v=>some (v,h)
  | none=>none
 | .store t x y=>match evO T x,evO T y with
  | some u,some v=>match Za3y P h t u v with
   | some h'=>some (.tup [],h')
   | none=>none
  | _,_=>none
 | .mapUpdate t m k x=>match evO T m,evO T k,evO T x with
  | some m,some k,some v=>match Zvp P h t m k v with
   | some h'=>some (.tup [],h')
   | none=>none
  | _,_,_=>none
 | .insert t m k x=>match evO T m,evO T k,evO T x with
  | some m,some k,some v=>match Zvp P h t m k v with
   | some h'=>some (.tup [],h')
   | none=>none
  | _,_,_=>none
 | .call c=>match c.callee with
  | .builtin b=>match evOL T c.args.toList with
   | some [u,x]=>match b with
    | .append=>Zok P h c.argTypes u x
    | .copy=>Za99 P h c.argTypes u x
    | .delete=>match Za0c P h c.argTypes u x with
     | some h'=>some (.tup [],h')
     | none=>none
    | _=>none
   | _=>none
  | _=>none
 | _=>none
def Gives (v:Value) (n:Next):Prop:=n=.value v∨(n=.skip∧v=undef)
theorem Zsd {T:Tr AV} {n:Nat} (hT:∀t v,T.get t=some v→ws n v=true) {x:Operand} {u:AV} (h:evO T x=some u):ws n u=true:=by
 cases x with
 | tmp t=>exact hT t u h
 | const v=>exact Za4a h n
 | func f=>simp [evO] at h;subst h;rfl
 | global g=>simp [evO] at h
theorem Za40 {T:Tr AV} {n:Nat} (hT:∀t v,T.get t=some v→ws n v=true):∀{l:List Operand} {vs:List AV},evOL T l=some vs→wsL n vs=true
 | [],vs,h=>by simp [evOL] at h;subst h;rfl
 | x :: l,vs,h=>by
  simp only [evOL] at h
  cases hv:evO T x<;>simp only [hv] at h
  ·cases h
  cases hl:evOL T l<;>simp only [hl] at h
  ·cases h
  simp at h;subst h
  simp [wsL,Zsd hT hv,Za40 hT hl]
theorem Zvo {P:Program} {T:Tr AV} {h h':Hp} {o:Oper} {v:AV} (e:evWr P T h o=some (v,h')) {s:Sg} {a:Act} (hO:Opnd s T a o.op) (hT:∀t v,T.get t=some v→ws h.next v=true)
  {w:World} (H:HRel s h w) :
  ∃n s' w',(execOp a.eval o).run P w=.ok n w'∧Gives (conc s' v) n∧HRel s' h' w'∧Ext s h w s' h' w':=by
 unfold evWr at e
 split at e<;>try (rename_i ho)
 ·rename_i x
  rw [ho] at hO
  split at e<;>try cases e
  rename_i hx
  exact ⟨_,s,w,by simp only [execOp,ho,hO x (by simp [Op.operands]) _ hx];rfl,.inl rfl,H,Ext.refl _ _ _⟩
 ·rename_i t x y
  rw [ho] at hO
  split at e<;>try cases e
  rename_i u u' hx hy
  split at e<;>try cases e
  rename_i hst
  obtain ⟨w',hr,hH,hE⟩:=Za3x (P:=P) hst H (Zsd hT hy)
  exact ⟨.skip,s,w',by simp [execOp,ho,hO x (by simp [Op.operands]) _ hx,hO y (by simp [Op.operands]) _ hy,hr],.inr ⟨rfl,rfl⟩,hH,hE⟩
 ·rename_i t m k x
  rw [ho] at hO
  split at e<;>try cases e
  rename_i m' k' v' hm hk hx
  split at e<;>try cases e
  rename_i hst
  obtain ⟨w',hr,hH,hE⟩:=Zuz (P:=P) hst H (Zsd hT hk) (Zsd hT hx)
  exact ⟨.skip,s,w',by simp [execOp,ho,hO m (by simp [Op.operands]) _ hm,hO k (by simp [Op.operands]) _ hk,hO x (by simp [Op.operands]) _ hx,hr],.inr ⟨rfl,rfl⟩,hH,hE⟩
 ·rename_i t m k x
  rw [ho] at hO
  split at e<;>try cases e
  rename_i m' k' v' hm hk hx
  split at e<;>try cases e
  rename_i hst
  obtain ⟨w',hr,hH,hE⟩:=Zuz (P:=P) hst H (Zsd hT hk) (Zsd hT hx)
  exact ⟨.skip,s,w',by simp [execOp,ho,hO m (by simp [Op.operands]) _ hm,hO k (by simp [Op.operands]) _ hk,hO x (by simp [Op.operands]) _ hx,hr],.inr ⟨rfl,rfl⟩,hH,hE⟩
 ·rename_i c
  split at e<;>try cases e
  rename_i b hb
  rw [ho] at hO
  split at e
  ·rename_i u x hv
   have h1:=Zpx hv hO (by intro z hz;simp only [Op.operands,Call.operands,hb];simpa using hz)
   have hws:=Za40 hT hv
   have hwu:ws h.next u=true:=(Zvx _ _).1 hws u (by simp)
   rw [Zic ho hb,h1]
   simp only [concL]
   split at e
   ·obtain ⟨s',w',hr,hH,hE,_⟩:=Zoj (ty:=o.type) e H hwu
    exact ⟨_,s',w',by simp only [builtin,Sem.run_bind,hr,Result.andThen_ok,Sem.run_pure],.inl rfl,hH,hE⟩
   ·obtain ⟨w',hr,hH,hE,_⟩:=Za6m (ty:=o.type) e H
    exact ⟨_,s,w',by simp only [builtin,Sem.run_bind,hr,Result.andThen_ok,Sem.run_pure],.inl rfl,hH,hE⟩
   ·split at e<;>try cases e
    rename_i hd
    obtain ⟨w',hr,hH,hE⟩:=Za2e (P:=P) (ty:=o.type) hd H
    exact ⟨.value (.tuple #[]),s,w',by simp only [builtin,Sem.run_bind,hr,Result.andThen_ok,Sem.run_pure],.inl rfl,hH,hE⟩
   ·cases e
  ·cases e
 ·cases e
def Ztn (T:Tr AV) (o:Oper):Option (FuncId×List AV):=match o.op with
 | .call c=>match c.callee with
  | .value f=>match evO T f,evOL T c.args.toList with
   | some (.func g a cap),some vs=>some (g,a++(vs++cap))
   | _,_=>none
  | _=>none
 | _=>none
theorem Zs1 {P:Program} {T:Tr AV} {o:Oper} {f:FuncId} {vs:List AV} (e:Ztn T o=some (f,vs)) {s:Sg} {a:Act} (hO:Opnd s T a o.op) {fn:Func} (hf:P.funcs[f]?=some fn)
  (hn:(fn.name == "runtime.NumGoroutine")=false) {c:Code} (hb:fn.body=some c) (w:World) :
  (execOp a.eval o).run P w=.ok (.enter f (concL s vs).toArray) w:=by
 unfold Ztn at e
 split at e<;>try cases e
 rename_i cl ho
 rw [ho] at hO
 split at e<;>try cases e
 rename_i fo hc
 split at e<;>try cases e
 rename_i fa cap xs hxs hfo
 have h1:=hO fo (by simp [Op.operands,Call.operands,hc]) _ hfo
 have h2:=Zpx hxs hO (by intro z hz;simp only [Op.operands,Call.operands,hc];exact Array.mem_append.2 (.inr (Array.mem_toList_iff.1 hz)))
 simp only [execOp,ho,resolve,hc,h1,h2,conc,Deferred.ofValue,Sem.run_bind,Sem.run_pure,Result.andThen_ok,invoke,callFunc,run_program,hf,hn,hb]
 simp [Zj7]
theorem Za90 {T:Tr AV} {o:Oper} {f:FuncId} {vs:List AV} {n:Nat} (e:Ztn T o=some (f,vs)) (hT:∀t v,T.get t=some v→ws n v=true):wsL n vs=true:=by
 unfold Ztn at e
 split at e<;>try cases e
 split at e<;>try cases e
 split at e<;>try cases e
 rename_i fa cap xs hxs hfo
 have:=Zsd hT hfo
 simp only [ws] at this
 cases h1:wsL n fa<;>simp only [h1] at this
 ·cases this
 exact Zje h1 (Zje (Za40 hT hxs) this)
structure St where
 T:Tr AV
 h:Hp
structure TRel (s:Sg) (n:Nat) (T:Tr AV) (nx:Nat) (a:Act):Prop where
 size:a.tmps.size=n
 defers:a.defers=[]
 get:∀t v,T.get t=some v→a.tmps[t]?=some (conc s v)
 ws:∀t v,T.get t=some v→ws nx v=true
def setT (n nx:Nat) (T:Tr AV) (d:Option Tmp) (v:AV):Option (Tr AV):=match d with
 | none=>some T
 | some t=>match Nat.blt t n,ws nx v with
  | true,true=>Tr.set FT T t (some v)
  | _,_=>none
theorem TRel.put {s s':Sg} {n nx nx':Nat} {T T':Tr AV} {a:Act} {d:Option Tmp} {v:AV} (R:TRel s n T nx a) (hs:∀i,i<nx→s' i=s i) (hn:nx≤nx') (h:setT n nx' T d v=some T') :
  TRel s' n T' nx' (a.put d (conc s' v)):=by
 have old:∀t v,T.get t=some v→a.tmps[t]?=some (conc s' v):=fun t v ht=>by rw [Zlm hs v (R.ws t v ht)];exact R.get t v ht
 unfold setT at h
 split at h
 ·simp at h;subst h
  exact ⟨R.size,R.defers,old,fun t v ht=>Zq3 hn v (R.ws t v ht)⟩
 ·rename_i t
  split at h<;>try cases h
  rename_i hlt hw
  rw [Nat.blt_eq] at hlt
  have hg:=Tr.Zao _ _ _ _ _ h
  refine ⟨by simp [Act.put,R.size],by simp [Act.put,R.defers],?_,?_⟩
  ·intro u x hu
   rw [hg u] at hu
   simp only [Act.put,Array.getElem?_setIfInBounds]
   by_cases q:u=t
   ·subst q
    simp at hu;subst hu
    simp [R.size,hlt]
   ·rw [if_neg q] at hu
    rw [if_neg (fun r=>q r.symm)]
    exact old u x hu
  ·intro u x hu
   rw [hg u] at hu
   by_cases q:u=t
   ·rw [if_pos q] at hu;simp at hu;subst hu;exact hw
   ·rw [if_neg q] at hu;exact Zq3 hn x (R.ws u x hu)
def Zqs (ops:Array Oper) (T:Tr AV) (o:Oper):Option Bool:=match o.guard with
 | none=>some true
 | some (j,want)=>match nth ops.toList j with
  | some oj=>match oj.dst with
   | some t=>match T.get t with
    | some v=>match v with
     | .bool b=>match b,want with
      | true,true=>some true
      | false,false=>some true
      | _,_=>some false
     | _=>some false
    | none=>none
   | none=>none
  | none=>none
theorem Zqr {ops:Array Oper} {T:Tr AV} {o:Oper} {b:Bool} (h:Zqs ops T o=some b) {s:Sg} {a:Act}
  (R:∀j w oj t v,o.guard=some (j,w)→ops[j]?=some oj→oj.dst=some t→T.get t=some v→a.tmps[t]?=some (conc s v)):Region.wanted o (yielded ops a.tmps)=b:=by
 unfold Zqs at h
 unfold Region.wanted
 split at h
 ·rename_i hg;rw [hg];simp at h;subst h;rfl
 ·rename_i j want hg
  split at h<;>try cases h
  rename_i oj hj
  split at h<;>try cases h
  rename_i t ht
  split at h<;>try cases h
  rename_i v hv
  have hj':ops[j]?=some oj:=by rw [Zcg] at hj;simpa using hj
  have:=R j want oj t v hg hj' ht hv
  rw [hg]
  simp only [yielded,hj',Option.bind_some,ht,this]
  cases v with
  | bool c=>simp only [conc];cases c<;>cases want<;>simp at h<;>subst h<;>rfl
  | _=>simp at h;subst h;rfl
abbrev Fam:=Sg→Prop
structure FExt (F:Fam) (h:Hp) (w:World) (F':Fam) (h':Hp) (w':World):Prop where
 to:∀s,F s→∃s',F' s'∧Ext s h w s' h' w'
 from_:∀s',F' s'→∃s,F s∧Ext s h w s' h' w'
theorem FExt.refl (F:Fam) (h:Hp) (w:World):FExt F h w F h w:=⟨fun s hs=>⟨s,hs,Ext.refl _ _ _⟩,fun s hs=>⟨s,hs,Ext.refl _ _ _⟩⟩
theorem FExt.trans {F F' F'':Fam} {h h' h'':Hp} {w w' w'':World} (a:FExt F h w F' h' w') (b:FExt F' h' w' F'' h'' w''):FExt F h w F'' h'' w'':=by
 constructor
 ·intro s hs
  obtain ⟨s',hs',e⟩:=a.to s hs
  obtain ⟨s'',hs'',e'⟩:=b.to s' hs'
  exact ⟨s'',hs'',e.trans e'⟩
 ·intro s'' hs''
  obtain ⟨s',hs',e'⟩:=b.from_ s'' hs''
  obtain ⟨s,hs,e⟩:=a.from_ s' hs'
  exact ⟨s,hs,e.trans e'⟩
structure RF (F:Fam) (n:Nat) (T:Tr AV) (h:Hp) (a:Act) (w:World):Prop where
 ne:∃s,F s
 T:∀s,F s→TRel s n T h.next a
 H:∀s,F s→HRel s h w
abbrev Cl:=FuncId→List AV→Hp→Option (AV×Hp)
def ClOk (P:Program) (call:Cl):Prop:=∀f vs h v h',call f vs h=some (v,h')→(∃fn c,P.funcs[f]?=some fn∧(fn.name == "runtime.NumGoroutine")=false∧fn.body=some c) ∧
 ∀(F:Fam) w args,(∃s,F s)→(∀s,F s→HRel s h w∧(concL s vs).toArray=args)→wsL h.next vs=true →
  Calls P f args w fun e w'=>∃F' V,e=.returned V∧FExt F h w F' h' w'∧∀s',F' s'→HRel s' h' w'∧conc s' v=V
def evAct (P:Program) (call:Cl) (T:Tr AV) (h:Hp) (o:Oper):Option (AV×Hp):=match Ztn T o with
 | some (f,vs)=>call f vs h
 | none=>match evWr P T h o with
  | some r=>some r
  | none=>match evA P T h.next o.op with
   | some (ob,v)=>match Tr.set FT h.tr h.next (some ob) with
    | some tr=>some (v,⟨tr,h.next+1⟩)
    | none=>none
   | none=>match Zl4 P T h o with
    | some v=>some (v,h)
    | none=>none
theorem Za5k {P:Program} {call:Cl} (hc:ClOk P call) {T:Tr AV} {h h':Hp} {o:Oper} {v:AV} (e:evAct P call T h o=some (v,h')) {F:Fam} {a:Act} {w:World} (hne:∃s,F s)
  (hO:∀s,F s→Opnd s T a o.op) (hT:∀t v,T.get t=some v→ws h.next v=true) (H:∀s,F s→HRel s h w) {K:Act→World→Prop} {Q:Exit→Act→World→Prop}
  (hK:∀F' w' V,FExt F h w F' h' w'→(∀s',F' s'→HRel s' h' w'∧conc s' v=V)→K (a.put o.dst V) w'):o.wp P a w K Q:=by
 obtain ⟨s₀,hs₀⟩:=hne
 unfold evAct at e
 unfold Oper.wp
 split at e
 ·rename_i f vs hw
  obtain ⟨⟨fn,c,hf,hn,hb⟩,hcall⟩:=hc f vs h v h' e
  have h₀:=Zs1 hw (hO s₀ hs₀) hf hn hb w
  rw [h₀,Oper.upon_enter]
  refine (hcall F w (concL s₀ vs).toArray ⟨s₀,hs₀⟩ ?_ (Za90 hw hT)).mono ?_
  ·intro s hs
   refine ⟨H s hs,?_⟩
   have h₁:=Zs1 hw (hO s hs) hf hn hb w
   rw [h₀] at h₁
   simp only [Result.ok.injEq,Next.enter.injEq,true_and,and_true] at h₁
   exact h₁.symm
  ·rintro e' w' ⟨F',V,rfl,hE,hF⟩
   exact hK F' w' V hE hF
 ·split at e
  ·rename_i r hr
   simp at e;subst e
   obtain ⟨n,s₀',w',hrun,hg,hH,hE⟩:=Zvo hr (hO s₀ hs₀) hT (H s₀ hs₀)
   have all:∀s,F s→∃s',Gives (conc s' v) n∧HRel s' h' w'∧Ext s h w s' h' w':=by
    intro s hs
    obtain ⟨n₁,s',w₁,hrun₁,hg₁,hH₁,hE₁⟩:=Zvo hr (hO s hs) hT (H s hs)
    rw [hrun] at hrun₁
    simp only [Result.ok.injEq] at hrun₁
    obtain ⟨rfl,rfl⟩:=hrun₁
    exact ⟨s',hg₁,hH₁,hE₁⟩
   rw [hrun]
   have hFE:FExt F h w (fun s'=>∃s,F s∧Gives (conc s' v) n∧HRel s' h' w'∧Ext s h w s' h' w') h' w':=
    ⟨fun s hs=>let ⟨s',q⟩:=all s hs;⟨s',⟨s,hs,q⟩,q.2.2⟩,fun s' ⟨s,hs,q⟩=>⟨s,hs,q.2.2⟩⟩
   rcases hg with rfl | ⟨rfl,hu⟩
   ·refine hK _ w' (conc s₀' v) hFE ?_
    rintro s' ⟨s,hs,hg',hH',_⟩
    refine ⟨hH',?_⟩
    rcases hg' with q | ⟨q,_⟩
    ·simp only [Next.value.injEq] at q;exact q.symm
    ·cases q
   ·refine hK _ w' undef hFE ?_
    rintro s' ⟨s,hs,hg',hH',_⟩
    refine ⟨hH',?_⟩
    rcases hg' with q | ⟨_,q⟩
    ·cases q
    ·exact q
  ·split at e
   ·rename_i ob v' ha
    split at e<;>try cases e
    rename_i tr ht
    obtain ⟨ob',hrun,hor,hwo,hwv⟩:=Zx7 ha (hO s₀ hs₀) (fun x hx u hu=>Zsd hT hu) w
    have all:∀s,F s→conc (upd s h.next (w.heap.size,0)) v=conc (upd s₀ h.next (w.heap.size,0)) v∧HRel (upd s h.next (w.heap.size,0)) ⟨tr,h.next+1⟩ { w with heap:=w.heap.push ob' } ∧
      Ext s h w (upd s h.next (w.heap.size,0)) ⟨tr,h.next+1⟩ { w with heap:=w.heap.push ob' }:=by
     intro s hs
     obtain ⟨ob₁,hrun₁,hor₁,hwo₁,_⟩:=Zx7 ha (hO s hs) (fun x hx u hu=>Zsd hT hu) w
     rw [hrun] at hrun₁
     simp only [Result.ok.injEq,Next.value.injEq,World.mk.injEq,Array.push_eq_push,and_true,true_and] at hrun₁
     obtain ⟨q1,rfl⟩:=hrun₁
     have hn:=(H s hs).new (c:=0) hor₁ hwo₁ ht
     exact ⟨q1.symm,hn⟩
    rw [hrun]
    refine hK (fun s'=>∃s,F s∧s'=upd s h.next (w.heap.size,0)) _ (conc (upd s₀ h.next (w.heap.size,0)) v) ⟨?_,?_⟩ ?_
    ·exact fun s hs=>⟨_,⟨s,hs,rfl⟩,(all s hs).2.2⟩
    ·rintro s' ⟨s,hs,rfl⟩;exact ⟨s,hs,(all s hs).2.2⟩
    ·rintro s' ⟨s,hs,rfl⟩;exact ⟨(all s hs).2.1,(all s hs).1⟩
   ·split at e<;>try cases e
    rename_i hr
    have h₀:=Zlk hr (hO s₀ hs₀) (H s₀ hs₀)
    rw [h₀]
    refine hK F w (conc s₀ v) (FExt.refl _ _ _) ?_
    intro s hs
    refine ⟨H s hs,?_⟩
    have h₁:=Zlk hr (hO s hs) (H s hs)
    rw [h₀] at h₁
    simp only [Result.ok.injEq,Next.value.injEq,and_true] at h₁
    exact h₁.symm
theorem RF.put {F F':Fam} {n:Nat} {T T':Tr AV} {h h':Hp} {a:Act} {w w':World} {d:Option Tmp} {v:AV} {V:Value} (R:RF F n T h a w) (hE:FExt F h w F' h' w')
  (hF:∀s',F' s'→HRel s' h' w'∧conc s' v=V) (hT:setT n h'.next T d v=some T'):RF F' n T' h' (a.put d V) w':=by
 obtain ⟨s₀,hs₀⟩:=R.ne
 obtain ⟨s₁,hs₁,_⟩:=hE.to s₀ hs₀
 refine ⟨⟨s₁,hs₁⟩,?_,fun s' hs'=>(hF s' hs').1⟩
 intro s' hs'
 obtain ⟨s,hs,e⟩:=hE.from_ s' hs'
 rw [←(hF s' hs').2]
 exact (R.T s hs).put e.sg e.next hT
def Zyv (P:Program) (call:Cl) (n:Nat) (ops:Array Oper) (o:Oper) (st:St):Option St:=match Zqs ops st.T o with
 | some true=>match evAct P call st.T st.h o with
  | some (v,h')=>match setT n h'.next st.T o.dst v with
   | some T=>some ⟨T,h'⟩
   | none=>none
  | none=>none
 | some false=>match setT n st.h.next st.T o.dst (.tup []) with
  | some T=>some ⟨T,st.h⟩
  | none=>none
 | none=>none
theorem Za91 {P:Program} {call:Cl} (hc:ClOk P call) {n:Nat} {ops:Array Oper} {o:Oper} {i:Nat} {st st':St} (e:Zyv P call n ops o st=some st') (hi:ops[i]?=some o) {F:Fam} {a:Act} {w:World}
  (R:RF F n st.T st.h a w) {K:Act→World→Prop} {Q:Exit→Act→World→Prop}
  (hK:∀F' a' w',RF F' n st'.T st'.h a' w'→FExt F st.h w F' st'.h w'→K a' w'):wpOp P ops Q i K a w:=by
 obtain ⟨s₀,hs₀⟩:=R.ne
 have R₀:=R.T s₀ hs₀
 unfold Zyv at e
 unfold wpOp
 rw [hi]
 simp only []
 split at e
 ·rename_i hw
  rw [Zqr hw (fun j w oj t v _ _ _ hv=>R₀.get t v hv)]
  simp only [if_true]
  left
  split at e<;>try cases e
  rename_i v h' ha
  split at e<;>try cases e
  rename_i T' hT
  exact Za5k hc ha R.ne (fun s hs=>Zso fun t _ u hu=>(R.T s hs).get t u hu) R₀.ws R.H fun F' w' V hE hF=>hK F' _ w' (R.put hE hF hT) hE
 ·rename_i hw
  rw [Zqr hw (fun j w oj t v _ _ _ hv=>R₀.get t v hv)]
  simp only [Bool.false_eq_true,if_false]
  split at e<;>try cases e
  rename_i T' hT
  exact hK F _ w (R.put (v:=.tup []) (V:=undef) (FExt.refl _ _ _) (fun s hs=>⟨R.H s hs,rfl⟩) hT) (FExt.refl _ _ _)
 ·cases e
def evOps (P:Program) (call:Cl) (n:Nat) (ops:Array Oper):List Oper→St→Option St
 | [],st=>some st
 | o :: l,st=>match Zyv P call n ops o st with
  | some st=>evOps P call n ops l st
  | none=>none
theorem Za5h {P:Program} {call:Cl} (hc:ClOk P call) {n:Nat} {ops:Array Oper} {Q:Exit→Act→World→Prop}:∀(l:List Oper) (k:Nat) (st st':St),evOps P call n ops l st=some st' →
  (∀j,l[j]?=ops[k+j]?)→∀(F:Fam) (a:Act) (w:World),RF F n st.T st.h a w →
  (∀F' a' w',RF F' n st'.T st'.h a' w'→FExt F st.h w F' st'.h w'→Q .normal a' w') →
  wpOps P ops Q ((List.range' k l.length)) a w
 | [],k,st,st',e,_,F,a,w,R,hK=>by
  simp [evOps] at e;subst e
  exact hK F a w R (FExt.refl _ _ _)
 | o :: l,k,st,st',e,hl,F,a,w,R,hK=>by
  simp only [evOps] at e
  split at e<;>try cases e
  rename_i st₁ h₁
  rw [List.length_cons,List.range'_succ,wpOps_cons]
  refine Za91 hc h₁ (by have:=hl 0;simpa using this.symm) R ?_
  intro F' a' w' R' E'
  refine Za5h hc l (k+1) st₁ st' e ?_ F' a' w' R' ?_
  ·intro j
   have:=hl (j+1)
   simp only [List.getElem?_cons_succ] at this
   rw [this];congr 1;omega
  ·intro F'' a'' w'' R'' E''
   exact hK F'' a'' w'' R'' (E'.trans E'')
inductive Ex where
 | normal
 | exit (id:Nat)
 | ret
def Ex.to:Ex→Exit
 | .normal=>.normal
 | .exit id=>.exit id
 | .ret=>.ret
abbrev Dr:=Cl→Nat→Array Oper→St→Option St
def DrOk (P:Program) (dr:Dr):Prop:=∀call,ClOk P call→∀n id ops st st',dr call n ops st=some st'→∀F a w,RF F n st.T st.h a w→∀Q:Exit→Act→World→Prop,
 (∀F' a' w',RF F' n st'.T st'.h a' w'→FExt F st.h w F' st'.h w'→Q .normal a' w')→(Code.region id ops true).wp P Q a w
abbrev Env:=Tr Func
def EnvOk (P:Program) (E:Env):Prop:=∀f fn,E.get f=some fn→P.funcs[f]?=some fn∧(fn.name == "runtime.NumGoroutine")=false
def initT (n nx:Nat):List AV→Nat→Tr AV→Option (Tr AV)
 | [],_,T=>some T
 | v :: l,i,T=>match setT n nx T (some i) v with
  | some T=>initT n nx l (i+1) T
  | none=>none
def Zea (P:Program) (st:St):List ResultVar→Option (List AV)
 | []=>some []
 | r :: l=>match (match r with
   | .tmp t=>st.T.get t
   | .cell a t=>match st.T.get a with
    | some u=>Zoi P st.h t u
    | none=>none) with
  | some v=>match Zea P st l with
   | some vs=>some (v :: vs)
   | none=>none
  | none=>none
def tupOf:List AV→AV
 | [v]=>v
 | l=>.tup l
def orElse (a b:Cl):Cl:=fun f vs h=>match a f vs h with
 | some r=>some r
 | none=>b f vs h
theorem Za7l {P:Program} {a b:Cl} (ha:ClOk P a) (hb:ClOk P b):ClOk P (orElse a b):=by
 intro f vs h v h' e
 unfold orElse at e
 split at e
 ·rename_i r hr
  simp at e;subst e
  exact ha f vs h v h' hr
 ·exact hb f vs h v h' e
def evF (P:Program) (E:Env) (run:Nat→Code→St→Option (Ex×St)):Cl:=fun f vs h=>match E.get f with
 | some fn=>match fn.body with
  | some c=>match Nat.ble vs.length fn.ntmps,initT fn.ntmps h.next vs 0 .nil with
   | true,some T=>match run fn.ntmps c ⟨T,h⟩ with
    | some (x,st)=>match x with
     | .exit _=>none
     | _=>match Zea P st fn.results.toList with
      | some rs=>some (tupOf rs,st.h)
      | none=>none
    | none=>none
   | _,_=>none
  | none=>none
 | none=>none
def evC (P:Program) (E:Env) (dr:Dr) (orc:Cl):Nat→Nat→Code→St→Option (Ex×St)
 | 0,_,_,_=>none
 | k+1,n,c,st=>match c with
  | .skip=>some (.normal,st)
  | .label _=>some (.normal,st)
  | .region _ ops draw=>match draw with
   | false=>match evOps P (orElse orc (evF P E (evC P E dr orc k))) n ops ops.toList st with
    | some st=>some (.normal,st)
    | none=>none
   | true=>match dr (orElse orc (evF P E (evC P E dr orc k))) n ops st with
    | some st=>some (.normal,st)
    | none=>none
  | .seq x y=>match evC P E dr orc k n x st with
   | some (e,st)=>match e with
    | .normal=>evC P E dr orc k n y st
    | e=>some (e,st)
   | none=>none
  | .cond c x y=>match evO st.T c with
   | some v=>match v with
    | .bool b=>match b with
     | true=>evC P E dr orc k n x st
     | false=>evC P E dr orc k n y st
    | _=>none
   | none=>none
  | .block id x=>match evC P E dr orc k n x st with
   | some (e,st)=>match e with
    | .exit i=>match Nat.beq i id with
     | true=>some (.normal,st)
     | false=>some (.exit i,st)
    | e=>some (e,st)
   | none=>none
  | .loop x=>match evC P E dr orc k n x st with
   | some (e,st)=>match e with
    | .normal=>evC P E dr orc k n (.loop x) st
    | e=>some (e,st)
   | none=>none
  | .scope x=>evC P E dr orc k n x st
  | .exit id=>some (.exit id,st)
  | .ret=>some (.ret,st)
  | _=>none
theorem Zpk {n nx:Nat}:∀{vs:List AV} {i:Nat} {T T':Tr AV},initT n nx vs i T=some T'→∀t v,T'.get t=some v→(i≤t∧vs[t - i]?=some v)∨T.get t=some v
 | [],i,T,T',h,t,v,hv=>by simp [initT] at h;subst h;exact .inr hv
 | x :: l,i,T,T',h,t,v,hv=>by
  simp only [initT] at h
  split at h<;>try cases h
  rename_i T₁ h₁
  rcases Zpk h t v hv with ⟨hi,hl⟩ | hT
  ·left
   refine ⟨by omega,?_⟩
   rw [show t - i=(t - (i+1))+1 by omega]
   simpa using hl
  ·unfold setT at h₁
   simp only [] at h₁
   split at h₁<;>try cases h₁
   have hg:=Tr.Zao _ _ _ _ _ h₁ t
   rw [hg] at hT
   by_cases q:t=i
   ·subst q;simp at hT;subst hT;left;simp
   ·rw [if_neg q] at hT;exact .inr hT
theorem Ztb {P:Program} {st:St} {s:Sg} {n:Nat} {a:Act} {w:World} (R:TRel s n st.T st.h.next a) (H:HRel s st.h w) (f:ResultVar→Sem Value)
  (hf:∀r,f r=match r with | .tmp t=>pure (a.tmps.getD t undef) | .cell x t=>do loadVar t (← asAddr (a.tmps.getD x undef))) :
  ∀{l:List ResultVar} {vs:List AV},Zea P st l=some vs→(l.mapM f).run P w=.ok (concL s vs) w
 | [],vs,h=>by simp [Zea] at h;subst h;rfl
 | r :: l,vs,h=>by
  simp only [Zea] at h
  split at h<;>try cases h
  rename_i v hv
  split at h<;>try cases h
  rename_i vs' hl
  have ih:=Ztb R H f hf hl
  have h1:(f r).run P w=.ok (conc s v) w:=by
   rw [hf r]
   cases r with
   | tmp t=>
    have:=R.get t v hv
    simp [Array.getD_eq_getD_getElem?,this]
   | cell x t=>
    simp only [] at hv ⊢
    split at hv<;>try cases hv
    rename_i u hu
    have hx:=R.get x u hu
    have hr:=Zpo hv H
    have hx':a.tmps.getD x undef=conc s u:=by simp [Array.getD_eq_getD_getElem?,hx]
    rw [hx']
    cases u<;>simp only [Zoi] at hv<;>try cases hv
    simp only [Instr.loadAt,Instr.sureAddr,conc,asAddr,Sem.run_bind,Sem.run_pure,Result.andThen_ok] at hr ⊢
    exact hr
  rw [List.mapM_cons]
  simp only [Sem.run_bind,h1,Result.andThen_ok,ih,Sem.run_pure,concL]
theorem Zsk {P:Program} {st:St} {s:Sg} {n:Nat} {a:Act} {w:World} (R:TRel s n st.T st.h.next a) (H:HRel s st.h w) {fn:Func} {vs:List AV} (h:Zea P st fn.results.toList=some vs) :
  (results fn a.tmps).run P w=.ok (conc s (tupOf vs)) w:=by
 have h1:=Ztb R H _ (fun r=>rfl) h
 unfold results
 rw [Sem.run_bind,Array.mapM_eq_mapM_toList,Sem.run_map]
 have h2:(List.mapM (fun x=>match x with
   | .tmp t=>pure (a.tmps.getD t undef)
   | .cell x t=>do loadVar t (← asAddr (a.tmps.getD x undef)):ResultVar→Sem Value) fn.results.toList).run P w=.ok (concL s vs) w:=h1
 refine (congrArg (fun r=>((Result.andThen r _).andThen _)) h2).trans ?_
 simp only [Result.andThen_ok,Sem.run_pure]
 congr 1
 match vs with
 | []=>simp [tupOf,concL,conc]
 | [v]=>simp [tupOf,concL]
 | u :: v :: l=>simp [tupOf,concL,conc]
def Sound (P:Program) (run:Nat→Code→St→Option (Ex×St)):Prop:=∀n c st e st',run n c st=some (e,st')→∀F a w,RF F n st.T st.h a w→∀Q:Exit→Act→World→Prop,
 (∀F' a' w',RF F' n st'.T st'.h a' w'→FExt F st.h w F' st'.h w'→Q e.to a' w')→c.wp P Q a w
theorem Za96 {P:Program} {E:Env} (hE:EnvOk P E) {run:Nat→Code→St→Option (Ex×St)} (hrun:Sound P run):ClOk P (evF P E run):=by
 intro f vs h v h' e
 unfold evF at e
 split at e<;>try cases e
 rename_i fn hf
 obtain ⟨hfn,hname⟩:=hE f fn hf
 split at e<;>try cases e
 rename_i c hb
 refine ⟨⟨fn,c,hfn,hname,hb⟩,?_⟩
 split at e<;>try cases e
 rename_i T hle hT
 have hle:=Nat.le_of_ble_eq_true hle
 split at e<;>try cases e
 rename_i x st hst
 intro F w args hne hF hw
 have R:RF F fn.ntmps T h { tmps:=args++Array.replicate (fn.ntmps - args.size) undef,defers:=[] } w:=by
  refine ⟨hne,?_,fun s hs=>(hF s hs).1⟩
  intro s hs
  rw [←(hF s hs).2]
  have hL:=Zc3 s vs
  refine ⟨by simp;omega,rfl,?_,?_⟩
  ·intro t u hu
   rcases Zpk hT t u hu with ⟨_,h1⟩ | h1
   ·simp only [Nat.sub_zero] at h1
    have hlt:t<vs.length:=by
     rcases Nat.lt_or_ge t vs.length with q | q
     ·exact q
     ·rw [List.getElem?_eq_none q] at h1;cases h1
    rw [Array.getElem?_append_left (by simp;omega)]
    simp [Ztq,h1]
   ·simp [Tr.get] at h1
  ·intro t u hu
   rcases Zpk hT t u hu with ⟨_,h1⟩ | h1
   ·exact (Zvx _ _).1 hw u (List.mem_of_getElem? h1)
   ·simp [Tr.get] at h1
 refine calls_of_wp hfn hb ?_
 refine hrun _ _ _ _ _ hst F _ w R _ ?_
 intro F' a' w' R' E'
 have fin:∀rs,Zea P st fn.results.toList=some rs→tupOf rs=v∧st.h=h'→a'.defers=[]∧∃V,(results fn a'.tmps).run P w'=.ok V w' ∧
   ∃F' V',Ending.returned V=.returned V'∧FExt F h w F' h' w'∧∀s',F' s'→HRel s' h' w'∧conc s' v=V':=by
  rintro rs hrs ⟨rfl,rfl⟩
  obtain ⟨s₁,hs₁⟩:=R'.ne
  refine ⟨(R'.T s₁ hs₁).defers,conc s₁ (tupOf rs),Zsk (R'.T s₁ hs₁) (R'.H s₁ hs₁) hrs,F',_,rfl,E',?_⟩
  intro s hs
  refine ⟨R'.H s hs,?_⟩
  have h1:=Zsk (R'.T s₁ hs₁) (R'.H s₁ hs₁) hrs
  have h2:=Zsk (R'.T s hs) (R'.H s hs) hrs
  rw [h1] at h2
  simp only [Result.ok.injEq,and_true] at h2
  exact h2.symm
 cases x with
 | exit id=>cases e
 | normal=>
  simp only [] at e
  split at e<;>try cases e
  rename_i rs hrs
  exact fin rs hrs ⟨rfl,rfl⟩
 | ret=>
  simp only [] at e
  split at e<;>try cases e
  rename_i rs hrs
  exact fin rs hrs ⟨rfl,rfl⟩
theorem Zx4 {P:Program} {E:Env} (hE:EnvOk P E) {dr:Dr} (hdr:DrOk P dr) {orc:Cl} (ho:ClOk P orc):∀k,Sound P (evC P E dr orc k) ∧
  (∀n x st e st',evC P E dr orc k n (.loop x) st=some (e,st')→∀F a w,RF F n st.T st.h a w→∀Q:Exit→Act→World→Prop,
   (∀F' a' w',RF F' n st'.T st'.h a' w'→FExt F st.h w F' st'.h w'→Q e.to a' w')→Code.rounds P x Q k a w)
 | 0=>⟨fun n c st e st' h=>by simp [evC] at h,fun n c st e st' h=>by simp [evC] at h⟩
 | k+1=>by
  obtain ⟨ih,ihl⟩:=Zx4 hE hdr ho k
  have hcl:=Za7l ho (Za96 hE ih)
  have loop:(∀n x st e st',evC P E dr orc (k+1) n (.loop x) st=some (e,st')→∀F a w,RF F n st.T st.h a w→∀Q:Exit→Act→World→Prop,
   (∀F' a' w',RF F' n st'.T st'.h a' w'→FExt F st.h w F' st'.h w'→Q e.to a' w')→Code.rounds P x Q (k+1) a w):=by
   intro n x st e st' h F a w R Q hQ
   simp only [evC] at h
   split at h<;>try cases h
   rename_i e₁ st₁ h₁
   rw [rounds_succ]
   refine ih n x st e₁ st₁ h₁ F a w R _ ?_
   intro F' a' w' R' E'
   cases e₁ with
   | normal=>exact ihl n x st₁ e st' h F' a' w' R' Q (fun F'' a'' w'' R'' E''=>hQ F'' a'' w'' R'' (E'.trans E''))
   | exit id=>simp only [Option.some.injEq,Prod.mk.injEq] at h;obtain ⟨rfl,rfl⟩:=h;exact hQ F' a' w' R' E'
   | ret=>simp only [Option.some.injEq,Prod.mk.injEq] at h;obtain ⟨rfl,rfl⟩:=h;exact hQ F' a' w' R' E'
  refine ⟨?_,loop⟩
  intro n c st e st' h F a w R Q hQ
  cases c with
  | skip=>
   simp only [evC,Option.some.injEq,Prod.mk.injEq] at h;obtain ⟨rfl,rfl⟩:=h
   exact wp_skip (hQ F a w R (FExt.refl _ _ _))
  | label l=>
   simp only [evC,Option.some.injEq,Prod.mk.injEq] at h;obtain ⟨rfl,rfl⟩:=h
   exact wp_label (hQ F a w R (FExt.refl _ _ _))
  | region id ops draw=>
   simp only [evC] at h
   cases draw with
   | false=>
    simp only [] at h
    split at h<;>try cases h
    rename_i h₁
    refine wp_region ?_
    have:=Za5h hcl (Q:=Q) ops.toList 0 st st' h₁ (by intro j;simp) F a w R hQ
    rw [List.range_eq_range']
    simpa using this
   | true=>
    simp only [] at h
    split at h<;>try cases h
    rename_i h₁
    exact hdr _ hcl n id ops st st' h₁ F a w R Q hQ
  | seq x y=>
   simp only [evC] at h
   split at h<;>try cases h
   rename_i e₁ st₁ h₁
   refine wp_seq (ih n x st e₁ st₁ h₁ F a w R _ ?_)
   intro F' a' w' R' E'
   cases e₁ with
   | normal=>exact ih n y st₁ e st' h F' a' w' R' Q (fun F'' a'' w'' R'' E''=>hQ F'' a'' w'' R'' (E'.trans E''))
   | exit id=>simp only [Option.some.injEq,Prod.mk.injEq] at h;obtain ⟨rfl,rfl⟩:=h;exact hQ F' a' w' R' E'
   | ret=>simp only [Option.some.injEq,Prod.mk.injEq] at h;obtain ⟨rfl,rfl⟩:=h;exact hQ F' a' w' R' E'
  | cond c x y=>
   simp only [evC] at h
   split at h<;>try cases h
   rename_i v hv
   obtain ⟨s,hs⟩:=R.ne
   have he:a.eval c=conc s v:=by
    cases c with
    | tmp t=>simp [Act.eval,Array.getD_eq_getD_getElem?,(R.T s hs).get t v hv]
    | const u=>exact (Zj8 hv s).symm
    | func f=>simp [evO] at hv;subst hv;rfl
    | global g=>simp [evO] at hv
   split at h<;>try cases h
   rename_i b
   cases b with
   | true=>exact wp_cond_true he (ih n x st e st' h F a w R Q hQ)
   | false=>exact wp_cond_false he (ih n y st e st' h F a w R Q hQ)
  | block id x=>
   simp only [evC] at h
   split at h<;>try cases h
   rename_i e₁ st₁ h₁
   refine wp_block (ih n x st e₁ st₁ h₁ F a w R _ ?_)
   intro F' a' w' R' E'
   cases e₁ with
   | normal=>simp only [Option.some.injEq,Prod.mk.injEq] at h;obtain ⟨rfl,rfl⟩:=h;exact hQ F' a' w' R' E'
   | ret=>simp only [Option.some.injEq,Prod.mk.injEq] at h;obtain ⟨rfl,rfl⟩:=h;exact hQ F' a' w' R' E'
   | exit i=>
    simp only [] at h
    split at h
    ·rename_i q
     have q:=Nat.eq_of_beq_eq_true q
     simp only [Option.some.injEq,Prod.mk.injEq] at h;obtain ⟨rfl,rfl⟩:=h
     simp only [Ex.to,Exit.inBlock,if_pos q]
     exact hQ F' a' w' R' E'
    ·rename_i q
     have q:=Nat.ne_of_beq_eq_false q
     simp only [Option.some.injEq,Prod.mk.injEq] at h;obtain ⟨rfl,rfl⟩:=h
     simp only [Ex.to,Exit.inBlock,if_neg q]
     exact hQ F' a' w' R' E'
  | loop x=>exact wp_loop_rounds (k+1) (loop n x st e st' h F a w R Q hQ)
  | scope x=>
   simp only [evC] at h
   refine wp_scope_straight (ih n x st e st' h F a w R _ ?_)
   intro F' a' w' R' E'
   have:=hQ F' a' w' R' E'
   cases e<;>exact this
  | exit id=>
   simp only [evC,Option.some.injEq,Prod.mk.injEq] at h;obtain ⟨rfl,rfl⟩:=h
   exact wp_exit (hQ F a w R (FExt.refl _ _ _))
  | ret=>
   simp only [evC,Option.some.injEq,Prod.mk.injEq] at h;obtain ⟨rfl,rfl⟩:=h
   exact wp_ret (hQ F a w R (FExt.refl _ _ _))
  | _=>simp [evC] at h
inductive PE where
 | w (j:Nat)
 | p (lo hi:Nat)
def PE.num:PE→Nat
 | .w j=>j
 | .p lo _=>lo
def PE.top:PE→Nat
 | .w j=>j - 1
 | .p _ hi=>hi
def isW (o:Oper):Bool:=match o.op with
 | .assign _ | .store _ _ _ | .mapUpdate _ _ _ _ | .insert _ _ _ _=>true
 | .call c=>match c.callee with
  | .builtin .len | .builtin .max | .builtin .min=>false
  | _=>true
 | _=>false
def filt:List Edge→List Nat
 | []=>[]
 | e :: l=>match Region.binds .any e with
  | true=>e.on :: filt l
  | false=>filt l
def edges (o:Oper):List Nat:=filt o.after.toList
theorem Zvj:∀{l:List Edge} {x:Nat},x∈filt l↔∃e∈l,Region.binds .any e=true∧e.on=x
 | [],x=>by simp [filt]
 | e :: l,x=>by
  simp only [filt]
  cases h:Region.binds .any e
  ·simp only []
   rw [Zvj]
   constructor
   ·rintro ⟨e',he',q⟩;exact ⟨e',by simp [he'],q⟩
   ·rintro ⟨e',he',hb,q⟩
    rcases List.mem_cons.1 he' with rfl | he'
    ·rw [h] at hb;cases hb
    ·exact ⟨e',he',hb,q⟩
  ·simp only [List.mem_cons]
   rw [Zvj]
   constructor
   ·rintro (rfl | ⟨e',he',q⟩)
    ·exact ⟨e,by simp,h,rfl⟩
    ·exact ⟨e',.inr he',q⟩
   ·rintro ⟨e',he',hb,q⟩
    rcases he' with rfl | he'
    ·exact .inl q.symm
    ·exact .inr ⟨e',he',hb,q⟩
def Za7x (nums:List Nat):List Nat→Nat→Nat
 | [],m=>m
 | e :: l,m=>match nth nums e with
  | some x=>Za7x nums l (match Nat.ble m x with | true=>x | false=>m)
  | none=>Za7x nums l m
def lows:List Oper→Nat→List Nat→List (Bool×Nat)→List (Bool×Nat)
 | [],_,_,acc=>acc
 | o :: l,c,nums,acc=>match isW o with
  | true=>lows l (c+1) (nums++[c+1]) ((true,c+1) :: acc)
  | false=>let m:=Za7x nums (edges o) 0;lows l c (nums++[m]) ((false,m) :: acc)
def memN:Nat→List Nat→Bool
 | _,[]=>false
 | x,y :: l=>match Nat.beq x y with
  | true=>true
  | false=>memN x l
theorem Zky:∀{x:Nat} {l:List Nat},memN x l=true↔x∈l
 | x,[]=>by simp [memN]
 | x,y :: l=>by
  simp only [memN]
  cases h:Nat.beq x y
  ·have:=Nat.ne_of_beq_eq_false h
   simp [this,Zky]
  ·have:=Nat.eq_of_beq_eq_true h
   simp [this]
def topOf (i:Nat):List (List Nat×PE)→Nat→Nat
 | [],m=>m
 | (es,pe) :: l,m=>match memN i es with
  | true=>topOf i l (match Nat.ble m pe.top with | true=>m | false=>pe.top)
  | false=>topOf i l m
def highs (k:Nat):List (Oper×Bool×Nat)→Nat→List (List Nat×PE)→List (List Nat×PE)
 | [],_,acc=>acc
 | (o,b,x) :: l,i,acc=>let es:=edges o;highs k l (i - 1) ((es,match b with | true=>PE.w x | false=>PE.p x (topOf i acc k)) :: acc)
def Za9l:List Oper→Nat
 | []=>0
 | o :: l=>match isW o with
  | true=>Za9l l+1
  | false=>Za9l l
def Zm4 (ops:List Oper):List PE:=(highs (Za9l ops) (ops.reverse.zip (lows ops 0 [] [])) (ops.length - 1) []).map (·.2)
def anyE (pl:List PE) (p:PE→Bool):List Nat→Bool
 | []=>false
 | e :: l=>match nth pl e with
  | some pe=>match p pe with
   | true=>true
   | false=>anyE pl p l
  | none=>anyE pl p l
theorem Ztt {pl:List PE} {p:PE→Bool}:∀{l:List Nat},anyE pl p l=true→∃e pe,e∈l∧pl[e]?=some pe∧p pe=true
 | [],h=>by simp [anyE] at h
 | e :: l,h=>by
  simp only [anyE] at h
  split at h
  ·rename_i pe he
   rw [Zcg] at he
   split at h
   ·rename_i q;exact ⟨e,pe,by simp,he,q⟩
   ·obtain ⟨e',pe',h1,h2⟩:=Ztt h;exact ⟨e',pe',by simp [h1],h2⟩
  ·obtain ⟨e',pe',h1,h2⟩:=Ztt h;exact ⟨e',pe',by simp [h1],h2⟩
def Zwr (i:Nat):List Nat→Bool
 | []=>true
 | e :: l=>match Nat.blt e i with
  | true=>Zwr i l
  | false=>false
def okHi (i hi:Nat):List Oper→List PE→Bool
 | o :: l,pe :: ps=>match memN i (edges o),(match pe with | .w j=>Nat.ble j (hi+1) | .p _ h=>Nat.ble h hi) with
  | true,true=>true
  | _,_=>okHi i hi l ps
 | _,_=>false
def tmpsOf:List Operand→List Nat
 | []=>[]
 | x :: l=>match x with
  | .tmp t=>t :: tmpsOf l
  | _=>tmpsOf l
def looks (ops:List Oper) (o:Oper):List Nat:=match o.guard with
 | none=>tmpsOf o.op.operands.toList
 | some (j,_)=>match nth ops j with
  | some oj=>match oj.dst with
   | some t=>t :: tmpsOf o.op.operands.toList
   | none=>tmpsOf o.op.operands.toList
  | none=>tmpsOf o.op.operands.toList
def Zqj (ls es:List Nat):List Oper→List PE→Nat→Bool
 | y :: l,pe :: ps,i=>match pe with
  | .w _=>Zqj ls es l ps (i+1)
  | .p _ _=>match y.dst with
   | none=>Zqj ls es l ps (i+1)
   | some t=>match memN t ls with
    | false=>Zqj ls es l ps (i+1)
    | true=>match memN i es with
     | true=>Zqj ls es l ps (i+1)
     | false=>false
 | _,_,_=>true
def okOne (ops:List Oper) (pl:List PE) (k i:Nat) (o:Oper) (pe:PE):Bool:=
 match Zwr i (edges o),Zqj (looks ops o) (edges o) ops pl 0 with
 | true,true=>match pe with
  | .p lo hi=>match (match lo with | 0=>true | lo+1=>anyE pl (fun x=>Nat.ble (lo+1) x.num) (edges o)) with
   | true=>match Nat.ble k hi with
    | true=>true
    | false=>okHi i hi ops pl
   | false=>false
  | .w j=>match Nat.ble 1 j,Nat.ble j k,(match j with | 0=>false | 1=>true | j+2=>anyE pl (fun x=>Nat.ble (j+1) x.num) (edges o)) with
   | true,true,true=>true
   | _,_,_=>false
 | _,_=>false
def okAll (ops:List Oper) (pl:List PE) (k:Nat):List Oper→List PE→Nat→Bool
 | [],[],_=>true
 | o :: l,pe :: ps,i=>match okOne ops pl k i o pe with
  | true=>okAll ops pl k l ps (i+1)
  | false=>false
 | _,_,_=>false
def okW:List PE→Nat→Option Nat
 | [],c=>some c
 | pe :: l,c=>match pe with
  | .p _ _=>okW l c
  | .w j=>match Nat.beq j (c+1) with
   | true=>okW l (c+1)
   | false=>none
def Zte (ops:List Oper) (pl:List PE):Option Nat:=match okW pl 0 with
 | some k=>match okAll ops pl k ops pl 0 with
  | true=>some k
  | false=>none
 | none=>none
abbrev Pend:=List (Nat×Nat×AObj)
def exOne (P:Program) (n:Nat) (ops:Array Oper) (o:Oper) (i:Nat) (st:St) (pd:Pend):Option (St×Pend):=match Zqs ops st.T o with
 | some false=>match setT n st.h.next st.T o.dst (.tup []) with
  | some T=>some (⟨T,st.h⟩,pd)
  | none=>none
 | some true=>match evA P st.T st.h.next o.op with
  | some (ob,v)=>match setT n (st.h.next+1) st.T o.dst v with
   | some T=>some (⟨T,⟨st.h.tr,st.h.next+1⟩⟩,(i,st.h.next,ob) :: pd)
   | none=>none
  | none=>match Zl4 P st.T st.h o with
   | some v=>match setT n st.h.next st.T o.dst v with
    | some T=>some (⟨T,st.h⟩,pd)
    | none=>none
   | none=>none
 | none=>none
def Zmz (P:Program) (n:Nat) (ops:Array Oper) (q:Nat):List Oper→List PE→Nat→St→Pend→Option (St×Pend)
 | o :: l,pe :: ps,i,st,pd=>match pe with
  | .w _=>Zmz P n ops q l ps (i+1) st pd
  | .p lo _=>match Nat.beq lo q with
   | false=>Zmz P n ops q l ps (i+1) st pd
   | true=>match exOne P n ops o i st pd with
    | some (st,pd)=>Zmz P n ops q l ps (i+1) st pd
    | none=>none
 | _,_,_,st,pd=>some (st,pd)
def findP (i:Nat):Pend→Option (Nat×AObj)
 | []=>none
 | (j,id,ob) :: l=>match Nat.beq i j with
  | true=>some (id,ob)
  | false=>findP i l
def objEq:AObj→AObj→Bool
 | .cells l ty op,.cells l' ty' op'=>match AV.eqvL l l',Nat.beq ty ty',op,op' with
  | true,true,none,none=>true
  | _,_,_,_=>false
 | .map [] c,.map [] c'=>Nat.beq c c'
 | _,_=>false
theorem objEq_eq {a b:AObj} (h:objEq a b=true):a=b:=by
 unfold objEq at h
 split at h
 ·split at h<;>try cases h
  rename_i h1 h2
  rw [AV.Zqy h1,Nat.eq_of_beq_eq_true h2]
 ·rw [Nat.eq_of_beq_eq_true h]
 ·cases h
def dstIs (T:Tr AV) (d:Option Tmp) (v:AV):Bool:=match d with
 | none=>true
 | some t=>match T.get t with
  | some u=>AV.eqv u v
  | none=>false
def Za2k (P:Program) (ops:Array Oper) (st:St) (pd:Pend) (o:Oper) (i:Nat):Bool:=match Zqs ops st.T o with
 | some false=>match findP i pd with
  | none=>dstIs st.T o.dst (.tup [])
  | some _=>false
 | some true=>match findP i pd with
  | some (id,ob)=>match evA P st.T id o.op with
   | some (ob',v)=>match objEq ob ob' with
    | true=>dstIs st.T o.dst v
    | false=>false
   | none=>false
  | none=>match Zl4 P st.T st.h o with
   | some v=>dstIs st.T o.dst v
   | none=>false
 | none=>false
def Ztr (P:Program) (ops:Array Oper) (q:Nat) (st:St) (pd:Pend):List Oper→List PE→Nat→Bool
 | o :: l,pe :: ps,i=>match pe with
  | .w _=>Ztr P ops q st pd l ps (i+1)
  | .p lo hi=>match Nat.ble lo q,Nat.ble q hi with
   | true,true=>match Za2k P ops st pd o i with
    | true=>Ztr P ops q st pd l ps (i+1)
    | false=>false
   | _,_=>Ztr P ops q st pd l ps (i+1)
 | _,_,_=>true
def Zsn (pl:List PE) (q:Nat):Pend→Hp→Option (Pend×Hp)
 | [],h=>some ([],h)
 | (i,id,ob) :: l,h=>match Zsn pl q l h with
  | some (pd,h)=>match nth pl i with
   | some (.p _ hi)=>match Nat.ble hi q with
    | true=>match Tr.set FT h.tr id (some ob) with
     | some tr=>some (pd,⟨tr,h.next⟩)
     | none=>none
    | false=>some ((i,id,ob) :: pd,h)
   | _=>none
  | none=>none
def findW (j:Nat):List Oper→List PE→Option Oper
 | o :: l,pe :: ps=>match pe with
  | .w x=>match Nat.beq x j with
   | true=>some o
   | false=>findW j l ps
  | .p _ _=>findW j l ps
 | _,_=>none
def tailF (P:Program) (call:Cl) (n:Nat) (ops:Array Oper) (pl:List PE):Nat→Nat→St→Pend→Option St
 | 0,q,st,pd=>match Zsn pl q pd st.h with
  | some ([],h)=>some ⟨st.T,h⟩
  | _=>none
 | r+1,q,st,pd=>match Zsn pl q pd st.h,findW (q+1) ops.toList pl with
  | some (pd,h),some o=>match Zyv P call n ops o ⟨st.T,h⟩ with
   | some st=>match Zmz P n ops (q+1) ops.toList pl 0 st pd with
    | some (st,pd)=>match Ztr P ops (q+1) st pd ops.toList pl 0 with
     | true=>tailF P call n ops pl r (q+1) st pd
     | false=>none
    | none=>none
   | none=>none
  | _,_=>none
def Za98 (P:Program):Dr:=fun call n ops st=>match Zte ops.toList (Zm4 ops.toList) with
 | some k=>match Zmz P n ops 0 ops.toList (Zm4 ops.toList) 0 st [] with
  | some (st,pd)=>match Ztr P ops 0 st pd ops.toList (Zm4 ops.toList) 0 with
   | true=>tailF P call n ops (Zm4 ops.toList) k 0 st pd
   | false=>none
  | none=>none
 | none=>none
structure Zks (ops:Array Oper) (pl:List PE) (k:Nat):Prop where
 len:pl.length=ops.size
 below:∀(i:Nat) (o:Oper),ops[i]?=some o→∀e∈edges o,e<i
 fresh:∀(i:Nat) (o:Oper),ops[i]?=some o→∀t,t∈looks ops.toList o→∀(y:Nat) (oy:Oper) (lo hi:Nat),ops[y]?=some oy→pl[y]?=some (.p lo hi)→oy.dst=some t→y∈edges o
 lo:∀(i:Nat) (o:Oper) (lo hi:Nat),ops[i]?=some o→pl[i]?=some (.p lo hi)→lo=0∨∃(e:Nat) (pe:PE),e∈edges o∧pl[e]?=some pe∧lo≤pe.num
 hi:∀(i lo hi:Nat),pl[i]?=some (.p lo hi)→k≤hi∨∃(z:Nat) (o:Oper) (pe:PE),ops[z]?=some o∧pl[z]?=some pe∧i∈edges o∧((∃j,pe=.w j∧j≤hi+1)∨(∃l h,pe=.p l h∧h≤hi))
 w:∀(i:Nat) (o:Oper) (j:Nat),ops[i]?=some o→pl[i]?=some (.w j)→1≤j∧j≤k∧(j=1∨∃(e:Nat) (pe:PE),e∈edges o∧pl[e]?=some pe∧j≤pe.num+1)
 uniq:∀(i i' j:Nat),pl[i]?=some (.w j)→pl[i']?=some (.w j)→i=i'
theorem Zuv {i:Nat}:∀{l:List Nat},Zwr i l=true→∀e∈l,e<i
 | [],_,e,he=>by cases he
 | x :: l,h,e,he=>by
  simp only [Zwr] at h
  split at h<;>try cases h
  rename_i q
  rw [Nat.blt_eq] at q
  rcases List.mem_cons.1 he with rfl | he
  ·exact q
  ·exact Zuv h e he
theorem Za18 {i hi:Nat}:∀{os:List Oper} {ps:List PE},okHi i hi os ps=true→∃(z:Nat) (o:Oper) (pe:PE),os[z]?=some o∧ps[z]?=some pe∧i∈edges o∧((∃j,pe=.w j∧j≤hi+1)∨(∃l h,pe=.p l h∧h≤hi))
 | [],_,h=>by simp [okHi] at h
 | _ :: _,[],h=>by simp [okHi] at h
 | o :: os,pe :: ps,h=>by
  simp only [okHi] at h
  split at h
  ·rename_i h1 h2
   refine ⟨0,o,pe,rfl,rfl,Zky.1 h1,?_⟩
   cases pe with
   | w j=>exact .inl ⟨j,rfl,Nat.le_of_ble_eq_true h2⟩
   | p l hh=>exact .inr ⟨l,hh,rfl,Nat.le_of_ble_eq_true h2⟩
  ·obtain ⟨z,o',pe',h1,h2,h3⟩:=Za18 h
   exact ⟨z+1,o',pe',by simpa using h1,by simpa using h2,h3⟩
theorem Zuu {ls es:List Nat}:∀{os:List Oper} {ps:List PE} {i:Nat},Zqj ls es os ps i=true→∀(y:Nat) (oy:Oper) (lo hi:Nat) (t:Tmp),os[y]?=some oy→ps[y]?=some (.p lo hi)→oy.dst=some t→t∈ls→i+y∈es
 | [],_,_,_,y,oy,lo,hi,t,h1,_,_,_=>by simp at h1
 | _ :: _,[],_,_,y,oy,lo,hi,t,_,h2,_,_=>by simp at h2
 | o :: os,pe :: ps,i,h,y,oy,lo,hi,t,h1,h2,h3,h4=>by
  simp only [Zqj] at h
  have rec_:Zqj ls es os ps (i+1)=true→y≠0→i+y∈es:=by
   intro hh hy
   obtain ⟨y',rfl⟩:∃y',y=y'+1:=⟨y - 1,by omega⟩
   have:=Zuu hh y' oy lo hi t (by simpa using h1) (by simpa using h2) h3 h4
   rw [show i+(y'+1)=i+1+y' by omega];exact this
  by_cases hy:y=0
  ·subst hy
   simp at h1 h2
   subst h1;subst h2
   simp only [h3] at h
   rw [Zky.2 h4] at h
   simp only [] at h
   split at h<;>try cases h
   rename_i q
   simpa using Zky.1 q
  ·refine rec_ ?_ hy
   cases pe with
   | w j=>exact h
   | p l hh=>
    simp only [] at h
    split at h
    ·exact h
    ·split at h
     ·exact h
     ·split at h
      ·exact h
      ·cases h
theorem Zyh {ops:List Oper} {pl:List PE} {k:Nat}:∀{os:List Oper} {ps:List PE} {i:Nat},okAll ops pl k os ps i=true→os.length=ps.length∧∀(j:Nat) (o:Oper) (pe:PE),os[j]?=some o→ps[j]?=some pe→okOne ops pl k (i+j) o pe=true
 | [],[],_,_=>⟨rfl,fun j o pe h=>by simp at h⟩
 | [],_ :: _,_,h=>by simp [okAll] at h
 | _ :: _,[],_,h=>by simp [okAll] at h
 | o :: os,pe :: ps,i,h=>by
  simp only [okAll] at h
  split at h<;>try cases h
  rename_i q
  obtain ⟨h1,h2⟩:=Zyh h
  refine ⟨by simp [h1],?_⟩
  intro j o' pe' ho hp
  cases j with
  | zero=>simp at ho hp;subst ho;subst hp;simpa using q
  | succ j=>
   have:=h2 j o' pe' (by simpa using ho) (by simpa using hp)
   rw [show i+(j+1)=i+1+j by omega];exact this
theorem Zzp:∀{pl:List PE} {c k:Nat},okW pl c=some k→(∀(i j:Nat),pl[i]?=some (PE.w j)→c<j)∧(∀(i i' j:Nat),pl[i]?=some (.w j)→pl[i']?=some (.w j)→i=i')
 | [],c,k,h=>⟨fun i j h=>by simp at h,fun i i' j h=>by simp at h⟩
 | pe :: l,c,k,h=>by
  simp only [okW] at h
  cases pe with
  | p lo hi=>
   obtain ⟨h1,h2⟩:=Zzp h
   constructor
   ·intro i j hi
    cases i with
    | zero=>simp at hi
    | succ i=>exact h1 i j (by simpa using hi)
   ·intro i i' j hi hi'
    cases i with
    | zero=>simp at hi
    | succ i=>
     cases i' with
     | zero=>simp at hi'
     | succ i'=>rw [h2 i i' j (by simpa using hi) (by simpa using hi')]
  | w x=>
   simp only [] at h
   split at h<;>try cases h
   rename_i q
   have q:=Nat.eq_of_beq_eq_true q
   subst q
   obtain ⟨h1,h2⟩:=Zzp h
   constructor
   ·intro i j hi
    cases i with
    | zero=>simp at hi;omega
    | succ i=>have:=h1 i j (by simpa using hi);omega
   ·intro i i' j hi hi'
    cases i with
    | zero=>
     simp at hi;subst hi
     cases i' with
     | zero=>rfl
     | succ i'=>have:=h1 i' _ (by simpa using hi');omega
    | succ i=>
     cases i' with
     | zero=>simp at hi';subst hi';have:=h1 i _ (by simpa using hi);omega
     | succ i'=>rw [h2 i i' j (by simpa using hi) (by simpa using hi')]
theorem Zk9 {ops:Array Oper} {pl:List PE} {k:Nat} (h:Zte ops.toList pl=some k):Zks ops pl k:=by
 unfold Zte at h
 split at h<;>try cases h
 rename_i hW
 split at h<;>try cases h
 rename_i hA
 obtain ⟨hl,hone⟩:=Zyh hA
 have hone:∀(i:Nat) (o:Oper) (pe:PE),ops[i]?=some o→pl[i]?=some pe→okOne ops.toList pl k i o pe=true:=by
  intro i o pe ho hp
  have:=hone i o pe (by simpa using ho) hp
  simpa using this
 have hthere:∀(i:Nat) (o:Oper),ops[i]?=some o→∃pe,pl[i]?=some pe:=by
  intro i o ho
  have:i<pl.length:=by
   rw [←hl]
   rcases Nat.lt_or_ge i ops.size with q | q
   ·simpa using q
   ·rw [Array.getElem?_eq_none q] at ho;cases ho
  exact ⟨pl[i],by simp [this]⟩
 have hthere':∀(i:Nat) (pe:PE),pl[i]?=some pe→∃o,ops[i]?=some o:=by
  intro i pe hp
  have:i<ops.size:=by
   rcases Nat.lt_or_ge i pl.length with q | q
   ·have:ops.size=pl.length:=by simpa using hl
    omega
   ·rw [List.getElem?_eq_none q] at hp;cases hp
  exact ⟨ops[i],by simp [this]⟩
 have split1:∀(i:Nat) (o:Oper) (pe:PE),ops[i]?=some o→pl[i]?=some pe→Zwr i (edges o)=true∧Zqj (looks ops.toList o) (edges o) ops.toList pl 0=true∧(match pe with
  | .p lo hi=>match (match lo with | 0=>true | lo+1=>anyE pl (fun x=>Nat.ble (lo+1) x.num) (edges o)) with
   | true=>match Nat.ble k hi with
    | true=>true
    | false=>okHi i hi ops.toList pl
   | false=>false
  | .w j=>match Nat.ble 1 j,Nat.ble j k,(match j with | 0=>false | 1=>true | j+2=>anyE pl (fun x=>Nat.ble (j+1) x.num) (edges o)) with
   | true,true,true=>true
   | _,_,_=>false)=true:=by
  intro i o pe ho hp
  have:=hone i o pe ho hp
  unfold okOne at this
  split at this
  ·rename_i h1 h2;exact ⟨h1,h2,this⟩
  ·cases this
 refine ⟨by simpa using hl.symm,?_,?_,?_,?_,?_,(Zzp hW).2⟩
 ·intro i o ho
  obtain ⟨pe,hp⟩:=hthere i o ho
  exact Zuv (split1 i o pe ho hp).1
 ·intro i o ho t ht y oy lo hi hy hpy hd
  obtain ⟨pe,hp⟩:=hthere i o ho
  have:=Zuu (split1 i o pe ho hp).2.1 y oy lo hi t (by simpa using hy) hpy hd ht
  simpa using this
 ·intro i o lo hi ho hp
  have:=(split1 i o _ ho hp).2.2
  simp only [] at this
  split at this
  ·rename_i q
   cases lo with
   | zero=>exact .inl rfl
   | succ lo=>
    simp only [] at q
    obtain ⟨e,pe,h1,h2,h3⟩:=Ztt q
    exact .inr ⟨e,pe,h1,h2,Nat.le_of_ble_eq_true h3⟩
  ·cases this
 ·intro i lo hi hp
  obtain ⟨o,ho⟩:=hthere' i _ hp
  have:=(split1 i o _ ho hp).2.2
  simp only [] at this
  split at this
  ·split at this
   ·rename_i q;exact .inl (Nat.le_of_ble_eq_true q)
   ·obtain ⟨z,o',pe',h1,h2,h3⟩:=Za18 this
    exact .inr ⟨z,o',pe',by simpa using h1,h2,h3⟩
  ·cases this
 ·intro i o j ho hp
  have:=(split1 i o _ ho hp).2.2
  simp only [] at this
  split at this
  ·rename_i q1 q2 q3
   refine ⟨Nat.le_of_ble_eq_true q1,Nat.le_of_ble_eq_true q2,?_⟩
   cases j with
   | zero=>cases q3
   | succ j=>
    cases j with
    | zero=>exact .inl rfl
    | succ j=>
     simp only [] at q3
     obtain ⟨e,pe,h1,h2,h3⟩:=Ztt q3
     exact .inr ⟨e,pe,h1,h2,by have:=Nat.le_of_ble_eq_true h3;omega⟩
  ·cases this
theorem Zis {j:Nat}:∀{os:List Oper} {ps:List PE} {o:Oper},findW j os ps=some o→∃i:Nat,os[i]?=some o∧ps[i]?=some (.w j)
 | [],_,o,h=>by simp [findW] at h
 | _ :: _,[],o,h=>by simp [findW] at h
 | x :: os,pe :: ps,o,h=>by
  simp only [findW] at h
  split at h
  ·split at h
   ·rename_i y q
    have q:=Nat.eq_of_beq_eq_true q
    subst q
    simp at h;subst h
    exact ⟨0,rfl,rfl⟩
   ·obtain ⟨i,h1,h2⟩:=Zis h
    exact ⟨i+1,by simpa using h1,by simpa using h2⟩
  ·obtain ⟨i,h1,h2⟩:=Zis h
   exact ⟨i+1,by simpa using h1,by simpa using h2⟩
theorem Zxb {P:Program} {ops:Array Oper} {q:Nat} {st:St} {pd:Pend}:∀{os:List Oper} {ps:List PE} {i:Nat},Ztr P ops q st pd os ps i=true →
  ∀(x:Nat) (o:Oper) (lo hi:Nat),os[x]?=some o→ps[x]?=some (.p lo hi)→lo≤q→q≤hi→Za2k P ops st pd o (i+x)=true
 | [],_,_,_,x,o,lo,hi,h1,_,_,_=>by simp at h1
 | _ :: _,[],_,_,x,o,lo,hi,_,h2,_,_=>by simp at h2
 | y :: os,pe :: ps,i,h,x,o,lo,hi,h1,h2,h3,h4=>by
  simp only [Ztr] at h
  have rec_:Ztr P ops q st pd os ps (i+1)=true→x≠0→Za2k P ops st pd o (i+x)=true:=by
   intro hh hx
   obtain ⟨x',rfl⟩:∃x',x=x'+1:=⟨x - 1,by omega⟩
   have:=Zxb hh x' o lo hi (by simpa using h1) (by simpa using h2) h3 h4
   rw [show i+(x'+1)=i+1+x' by omega];exact this
  by_cases hx:x=0
  ·subst hx
   simp at h1 h2
   subst h1;subst h2
   simp only [Nat.ble_eq_true_of_le h3,Nat.ble_eq_true_of_le h4] at h
   split at h<;>try cases h
   rename_i r;simpa using r
  ·refine rec_ ?_ hx
   cases pe with
   | w j=>exact h
   | p l hh=>
    simp only [] at h
    split at h
    ·split at h
     ·exact h
     ·cases h
    ·exact h
theorem Zk5 {n nx:Nat} {T T':Tr AV} {d:Option Tmp} {v:AV} (h:setT n nx T d v=some T'):∀t,T'.get t=if d=some t then some v else T.get t:=by
 intro t
 unfold setT at h
 split at h
 ·simp at h;subst h;simp
 ·rename_i x
  split at h<;>try cases h
  have:=Tr.Zao _ _ _ _ _ h t
  rw [this]
  by_cases q:t=x
  ·subst q;simp
  ·rw [if_neg q,if_neg (fun r=>q (by simpa using r.symm))]
theorem Za78 {n nx:Nat} {T T':Tr AV} {d:Option Tmp} {v:AV} (h:setT n nx T d v=some T') {t:Tmp} (hd:d=some t):t<n∧ws nx v=true:=by
 subst hd
 simp only [setT] at h
 split at h<;>try cases h
 rename_i q1 q2
 rw [Nat.blt_eq] at q1
 exact ⟨q1,q2⟩
theorem Zvf {n nx nx':Nat} {T T':Tr AV} {d:Option Tmp} {v:AV} (h:setT n nx' T d v=some T') (hn:nx≤nx') (hT:∀t v,T.get t=some v→t<n∧ws nx v=true) :
  ∀t u,T'.get t=some u→t<n∧ws nx' u=true:=by
 intro t u hu
 rw [Zk5 h t] at hu
 by_cases q:d=some t
 ·rw [if_pos q] at hu;simp at hu;subst hu;exact Za78 h q
 ·rw [if_neg q] at hu;exact ⟨(hT t u hu).1,Zq3 hn u (hT t u hu).2⟩
structure Staged (n q:Nat) (os:List Oper) (ps:List PE) (i:Nat) (st st':St) (new:Pend):Prop where
 tr:st'.h.tr=st.h.tr
 next:st.h.next≤st'.h.next
 all:∀t v,st'.T.get t=some v→t<n∧ws st'.h.next v=true
 same:∀t,(∀(x:Nat) (o:Oper) (h:Nat),os[x]?=some o→ps[x]?=some (.p q h)→o.dst≠some t)→st'.T.get t=st.T.get t
 ids:∀p∈new,st.h.next≤p.2.1∧p.2.1<st'.h.next∧wsO st'.h.next p.2.2=true∧∃(x h:Nat),p.1=i+x∧ps[x]?=some (.p q h)
 uni:∀p∈new,∀p'∈new,p.1=p'.1∨p.2.1=p'.2.1→p=p'
theorem Za6g {P:Program} {n:Nat} {ops:Array Oper} {o:Oper} {i:Nat} {st st':St} {pd pd':Pend} (e:exOne P n ops o i st pd=some (st',pd')) (hT:∀t v,st.T.get t=some v→t<n∧ws st.h.next v=true) :
  st'.h.tr=st.h.tr∧st.h.next≤st'.h.next∧(∀t v,st'.T.get t=some v→t<n∧ws st'.h.next v=true)∧(∀t,o.dst≠some t→st'.T.get t=st.T.get t) ∧
  (pd'=pd∨∃ob,pd'=(i,st.h.next,ob) :: pd∧st.h.next<st'.h.next∧wsO st'.h.next ob=true):=by
 unfold exOne at e
 have same:∀{nx v T'},setT n nx st.T o.dst v=some T'→∀t,o.dst≠some t→T'.get t=st.T.get t:=by
  intro nx v T' h t ht
  rw [Zk5 h t,if_neg ht]
 split at e
 ·split at e<;>try cases e
  rename_i T' h
  exact ⟨rfl,Nat.le_refl _,Zvf h (Nat.le_refl _) hT,same h,.inl rfl⟩
 ·split at e
  ·rename_i ob v ha
   split at e<;>try cases e
   rename_i T' h
   refine ⟨rfl,by simp,Zvf h (by simp) hT,same h,.inr ⟨ob,rfl,by simp,?_⟩⟩
   exact (evA_ws (m:=st.h.next+1) ha (by omega) (fun x hx u hu=>Zq3 (by omega) _ (Zsd (fun t v ht=>(hT t v ht).2) hu))).1
  ·split at e<;>try cases e
   split at e<;>try cases e
   rename_i T' h
   exact ⟨rfl,Nat.le_refl _,Zvf h (Nat.le_refl _) hT,same h,.inl rfl⟩
 ·cases e
theorem Za25 {P:Program} {n:Nat} {ops:Array Oper} {q:Nat}:∀{os:List Oper} {ps:List PE} {i:Nat} {st:St} {pd:Pend} {st':St} {pd':Pend},Zmz P n ops q os ps i st pd=some (st',pd') →
  (∀t v,st.T.get t=some v→t<n∧ws st.h.next v=true)→∃new,pd'=new++pd∧Staged n q os ps i st st' new:=by
 intro os
 induction os with
 | nil=>
  intro ps i st pd st' pd' e hT
  simp [Zmz] at e
  obtain ⟨rfl,rfl⟩:=e
  exact ⟨[],rfl,rfl,Nat.le_refl _,hT,fun _ _=>rfl,(fun p hp=>by cases hp),(fun p hp=>by cases hp)⟩
 | cons o os ih=>
  intro ps i st pd st' pd' e hT
  cases ps with
  | nil=>
   simp [Zmz] at e
   obtain ⟨rfl,rfl⟩:=e
   exact ⟨[],rfl,rfl,Nat.le_refl _,hT,fun _ _=>rfl,(fun p hp=>by cases hp),(fun p hp=>by cases hp)⟩
  | cons pe ps=>
   simp only [Zmz] at e
   have skip:Zmz P n ops q os ps (i+1) st pd=some (st',pd')→(∀h,pe≠.p q h)→∃new,pd'=new++pd∧Staged n q (o :: os) (pe :: ps) i st st' new:=by
    intro e hne
    obtain ⟨new,h1,h2⟩:=ih e hT
    refine ⟨new,h1,h2.tr,h2.next,h2.all,?_,?_,h2.uni⟩
    ·intro t ht
     exact h2.same t (fun x o' h ho hp=>ht (x+1) o' h (by simpa using ho) (by simpa using hp))
    ·intro p hp
     obtain ⟨a,b,c,x,h,hx,hpx⟩:=h2.ids p hp
     exact ⟨a,b,c,x+1,h,by omega,by simpa using hpx⟩
   cases pe with
   | w j=>exact skip e (fun h r=>by cases r)
   | p lo hi=>
    simp only [] at e
    cases hb:Nat.beq lo q with
    | false=>
     simp only [hb] at e
     exact skip e (fun h r=>by cases r;exact Nat.ne_of_beq_eq_false hb rfl)
    | true=>
     have hlq:=Nat.eq_of_beq_eq_true hb
     subst hlq
     simp only [hb] at e
     split at e<;>try cases e
     rename_i st₁ pd₁ h₁
     obtain ⟨t1,t2,t3,t4,t5⟩:=Za6g h₁ hT
     obtain ⟨new,n1,n2⟩:=ih e t3
     have same:∀t,(∀(x:Nat) (o':Oper) (h:Nat),(o :: os)[x]?=some o'→(PE.p lo hi :: ps)[x]?=some (.p lo h)→o'.dst≠some t)→st'.T.get t=st.T.get t:=by
      intro t ht
      rw [n2.same t (fun x o' h ho hp=>ht (x+1) o' h (by simpa using ho) (by simpa using hp))]
      exact t4 t (ht 0 o hi rfl rfl)
     rcases t5 with rfl | ⟨ob,rfl,u1,u2⟩
     ·refine ⟨new,n1,n2.tr.trans t1,Nat.le_trans t2 n2.next,n2.all,same,?_,n2.uni⟩
      intro p hp
      obtain ⟨a,b,c,x,h,hx,hpx⟩:=n2.ids p hp
      exact ⟨by omega,b,c,x+1,h,by omega,by simpa using hpx⟩
     ·refine ⟨new++[(i,st.h.next,ob)],by simp [n1],n2.tr.trans t1,Nat.le_trans t2 n2.next,n2.all,same,?_,?_⟩
      ·intro p hp
       rcases List.mem_append.1 hp with hp | hp
       ·obtain ⟨a,b,c,x,h,hx,hpx⟩:=n2.ids p hp
        exact ⟨by omega,b,c,x+1,h,by omega,by simpa using hpx⟩
       ·simp at hp;subst hp
        exact ⟨Nat.le_refl _,Nat.lt_of_lt_of_le u1 n2.next,Zm7 n2.next u2,0,hi,rfl,rfl⟩
      ·intro p hp p' hp' hpp
       rcases List.mem_append.1 hp with hp | hp<;>rcases List.mem_append.1 hp' with hp' | hp'
       ·exact n2.uni p hp p' hp' hpp
       ·simp at hp';subst hp'
        obtain ⟨a,b,c,x,h,hx,hpx⟩:=n2.ids p hp
        rcases hpp with r | r<;>simp only [] at r<;>omega
       ·simp at hp;subst hp
        obtain ⟨a,b,c,x,h,hx,hpx⟩:=n2.ids p' hp'
        rcases hpp with r | r<;>simp only [] at r<;>omega
       ·simp at hp hp';subst hp;subst hp';rfl
theorem Zus {pl:List PE} {q:Nat}:∀{pd:Pend} {h:Hp} {pd':Pend} {h':Hp},Zsn pl q pd h=some (pd',h') →
  h'.next=h.next∧(∀j o,h'.tr.get j=some o→h.tr.get j=some o∨∃p∈pd,(∃lo hi,pl[p.1]?=some (.p lo hi)∧hi≤q)∧j=p.2.1∧o=p.2.2) ∧
  (∀p∈pd',p∈pd∧∃lo hi,pl[p.1]?=some (.p lo hi)∧q<hi)
 | [],h,pd',h',e=>by
  simp [Zsn] at e
  obtain ⟨rfl,rfl⟩:=e
  exact ⟨rfl,fun j o hj=>.inl hj,fun p hp=>by cases hp⟩
 | (i,id,ob) :: l,h,pd',h',e=>by
  simp only [Zsn] at e
  split at e<;>try cases e
  rename_i pd₁ h₁ he
  obtain ⟨a1,a2,a3⟩:=Zus he
  split at e<;>try cases e
  rename_i lo hi hp
  rw [Zcg] at hp
  split at e
  ·rename_i hq
   have hq:=Nat.le_of_ble_eq_true hq
   split at e<;>try cases e
   rename_i tr ht
   have hg:=Tr.Zao _ _ _ _ _ ht
   refine ⟨a1,?_,fun p hp'=>⟨by simp [(a3 p hp').1],(a3 p hp').2⟩⟩
   intro j o hj
   rw [hg j] at hj
   by_cases r:j=id
   ·rw [if_pos r] at hj;simp at hj;subst hj
    exact .inr ⟨(i,id,ob),by simp,⟨lo,hi,hp,hq⟩,r,rfl⟩
   ·rw [if_neg r] at hj
    rcases a2 j o hj with x | ⟨p,hp',x⟩
    ·exact .inl x
    ·exact .inr ⟨p,by simp [hp'],x⟩
  ·rename_i hq
   have hq:q<hi:=by
    rcases Nat.lt_or_ge q hi with r | r
    ·exact r
    ·rw [Nat.ble_eq_true_of_le r] at hq;cases hq
   simp only [Option.some.injEq,Prod.mk.injEq] at e
   obtain ⟨rfl,rfl⟩:=e
   refine ⟨a1,?_,?_⟩
   ·intro j o hj
    rcases a2 j o hj with x | ⟨p,hp',x⟩
    ·exact .inl x
    ·exact .inr ⟨p,by simp [hp'],x⟩
   ·intro p hp'
    rcases List.mem_cons.1 hp' with rfl | hp'
    ·exact ⟨by simp,lo,hi,hp,hq⟩
    ·exact ⟨by simp [(a3 p hp').1],(a3 p hp').2⟩
theorem Za22 {i:Nat}:∀{pd:Pend} {r:Nat×AObj},findP i pd=some r→(i,r.1,r.2)∈pd
 | [],r,h=>by simp [findP] at h
 | (j,id,ob) :: l,r,h=>by
  simp only [findP] at h
  split at h
  ·rename_i q
   have q:=Nat.eq_of_beq_eq_true q
   subst q
   simp at h;subst h;simp
  ·exact List.mem_cons_of_mem _ (Za22 h)
theorem Zyt {i:Nat}:∀{pd:Pend},findP i pd=none→∀p∈pd,p.1≠i
 | [],_,p,hp=>by cases hp
 | (j,id,ob) :: l,h,p,hp=>by
  simp only [findP] at h
  split at h<;>try cases h
  rename_i q
  have q:=Nat.ne_of_beq_eq_false q
  rcases List.mem_cons.1 hp with rfl | hp
  ·exact fun r=>q r.symm
  ·exact Zyt h p hp
theorem HRel.congr {s s':Sg} {h:Hp} {w:World} (H:HRel s h w) (hs:∀i,i<h.next→s' i=s i):HRel s' h w where
 obj i o hi:=by rw [hs i (H.lt i o hi)];exact (H.obj i o hi).congr hs (H.lt i o hi) (H.wso i o hi)
 inj i j o o' hi hj e:=by rw [hs i (H.lt i o hi),hs j (H.lt j o' hj)] at e;exact H.inj i j o o' hi hj e
 lt:=H.lt
 wso:=H.wso
theorem HRel.push {s:Sg} {h:Hp} {w:World} (H:HRel s h w) (ob:Obj):HRel s h { w with heap:=w.heap.push ob } where
 obj i o hi:=by
  have:=H.bound hi
  show ORel s i o (w.heap.push ob)[(s i).1]?
  rw [Array.getElem?_push,if_neg (by omega)];exact H.obj i o hi
 inj:=H.inj
 lt:=H.lt
 wso:=H.wso
theorem Ext.congr {s₀ s s':Sg} {h₀ h:Hp} {w₀ w:World} (E:Ext s₀ h₀ w₀ s h w) (hl:∀i o,h.tr.get i=some o→i<h.next) (hs:∀i,i<h.next→s' i=s i):Ext s₀ h₀ w₀ s' h w where
 os:=E.os
 tape:=E.tape
 output:=E.output
 size:=E.size
 sg i hi:=(hs i (Nat.lt_of_lt_of_le hi E.next)).trans (E.sg i hi)
 next:=E.next
 frame:=E.frame
 img j o hj:=by rw [hs j (hl j o hj)];exact E.img j o hj
 keep:=E.keep
theorem Ext.relay {s₀ s:Sg} {h₀ h h':Hp} {w₀ w:World} (E:Ext s₀ h₀ w₀ s h w) (hn:h.next≤h'.next) (hg:∀j o,h'.tr.get j=some o→(∃o',h.tr.get j=some o')∨(w₀.heap.size≤(s j).1∧h₀.next≤j)):Ext s₀ h₀ w₀ s h' w where
 os:=E.os
 tape:=E.tape
 output:=E.output
 size:=E.size
 sg:=E.sg
 next:=Nat.le_trans E.next hn
 frame:=E.frame
 img j o hj:=by
  rcases hg j o hj with ⟨o',h'⟩ | q
  ·exact E.img j o' h'
  ·exact .inr q.1
 keep j o hj hlt:=by
  rcases hg j o hj with ⟨o',h'⟩ | q
  ·exact E.keep j o' h' hlt
  ·omega
theorem Ext.push {s₀ s:Sg} {h₀ h:Hp} {w₀ w:World} (E:Ext s₀ h₀ w₀ s h w) (ob:Obj):Ext s₀ h₀ w₀ s h { w with heap:=w.heap.push ob } where
 os:=E.os
 tape:=E.tape
 output:=E.output
 size:=by simp;have:=E.size;omega
 sg:=E.sg
 next:=E.next
 frame b hb hn:=by
  have:=E.size
  show (w.heap.push ob)[b]?=_
  rw [Array.getElem?_push,if_neg (by omega)];exact E.frame b hb hn
 img:=E.img
 keep:=E.keep
def left:Nat→(Nat→Bool)→Nat
 | 0,_=>0
 | m+1,L=>left m L+(match L m with | true=>0 | false=>1)
def mark (L:Nat→Bool) (i:Nat):Nat→Bool:=fun j=>if j=i then true else L j
theorem Zlu {L:Nat→Bool} {i:Nat} (hi:L i=false):∀m,left m (mark L i)+(if i<m then 1 else 0)=left m L
 | 0=>by simp [left]
 | m+1=>by
  have ih:=Zlu hi m
  simp only [left,mark]
  by_cases q:m=i
  ·subst q
   simp only [if_true,hi]
   simp at ih
   simp [ih]
  ·rw [if_neg q]
   by_cases r:i<m
   ·simp only [r,if_true] at ih
    rw [if_pos (by omega)];omega
   ·simp only [r,if_false] at ih
    rw [if_neg (by omega)];omega
theorem Zjq {L:Nat→Bool}:∀{m:Nat},left m L=0→∀i,i<m→L i=true
 | 0,_,i,hi=>by omega
 | m+1,h,i,hi=>by
  simp only [left] at h
  cases hm:L m with
  | false=>rw [hm] at h;simp at h
  | true=>
   rw [hm] at h
   rcases Nat.lt_or_ge i m with q | q
   ·exact Zjq (by simpa using h) i q
   ·rw [show i=m by omega];exact hm
theorem HRel.more' {s:Sg} {h h':Hp} {w:World} (H:HRel s h w) (ht:h'.tr=h.tr) (hn:h.next≤h'.next):HRel s h' w where
 obj i o hi:=H.obj i o (ht▸hi)
 inj i j o o' hi hj:=H.inj i j o o' (ht▸hi) (ht▸hj)
 lt i o hi:=Nat.lt_of_lt_of_le (H.lt i o (ht▸hi)) hn
 wso i o hi:=Zm7 hn (H.wso i o (ht▸hi))
def Pdg (ops:Array Oper) (pl:List PE) (m:Nat) (L:Nat→Bool) (t:Tmp):Prop:=
 ∃(x:Nat) (o:Oper) (l h:Nat),ops[x]?=some o∧pl[x]?=some (.p l h)∧l<m∧L x=false∧o.dst=some t
structure Inv (n:Nat) (ops:Array Oper) (pl:List PE) (F₀:Fam) (h₀:Hp) (w₀:World) (m q:Nat) (L:Nat→Bool) (a:Act) (w:World) (st:St) (pd:Pend) (F:Fam):Prop where
 ne:∃s₀,F₀ s₀
 size:a.tmps.size=n
 defers:a.defers=[]
 free:∀s₀,F₀ s₀→∀g:Sg,∃s,F s∧Ext s₀ h₀ w₀ s st.h w∧∀p∈pd,L p.1=false→s p.2.1=g p.2.1
 orig:∀s,F s→∃s₀,F₀ s₀∧Ext s₀ h₀ w₀ s st.h w
 tmp:∀s,F s→∀t v,st.T.get t=some v→¬Pdg ops pl m L t→a.tmps[t]?=some (conc s v)
 all:∀t v,st.T.get t=some v→t<n∧ws st.h.next v=true
 H:∀s,F s→HRel s st.h w
 low:h₀.next≤st.h.next
 pge:∀p∈pd,h₀.next≤p.2.1
 pid:∀p∈pd,p.2.1<st.h.next∧st.h.tr.get p.2.1=none∧wsO st.h.next p.2.2=true∧∃lo hi,pl[p.1]?=some (.p lo hi)∧lo<m∧q≤hi
 pob:∀p∈pd,L p.1=true→∀s,F s→ORel s p.2.1 p.2.2 w.heap[(s p.2.1).1]?∧w₀.heap.size≤(s p.2.1).1∧∀j o,st.h.tr.get j=some o→(s j).1≠(s p.2.1).1
 pinj:∀p∈pd,∀p'∈pd,L p.1=true→L p'.1=true→∀s,F s→(s p.2.1).1=(s p'.2.1).1→p.2.1=p'.2.1
 puni:∀p∈pd,∀p'∈pd,p.1=p'.1∨p.2.1=p'.2.1→p=p'
 down:∀(z:Nat) (o:Oper),ops[z]?=some o→L z=true→∀e∈edges o,L e=true
 wl:∀(i j:Nat),pl[i]?=some (.w j)→(L i=true↔j≤q)
 lo:∀(i l h:Nat),pl[i]?=some (.p l h)→L i=true→l≤q
 hi:∀(i l h:Nat),pl[i]?=some (.p l h)→h<q→L i=true
section
variable {n:Nat} {ops:Array Oper} {pl:List PE} {F₀:Fam} {h₀:Hp} {w₀:World} {q:Nat} {L:Nat→Bool} {a:Act} {w:World} {st:St} {pd:Pend} {F:Fam}
theorem Inv.enter {P:Program} {st':St} {pd':Pend} (I:Inv n ops pl F₀ h₀ w₀ q q L a w st pd F) (hun:∀(i l h:Nat),pl[i]?=some (.p l h)→q≤l→L i=false)
  (e:Zmz P n ops q ops.toList pl 0 st pd=some (st',pd')) :
  Inv n ops pl F₀ h₀ w₀ (q+1) q L a w st' pd' (fun s=>∃s₁,F s₁∧∀i,i<st.h.next→s i=s₁ i):=by
 obtain ⟨new,rfl,S⟩:=Za25 e I.all
 have hHcl:∀s s₁,F s₁→(∀i,i<st.h.next→s i=s₁ i)→HRel s st'.h w:=by
  intro s s₁ h1 hs
  exact ((I.H s₁ h1).congr hs).more' S.tr S.next
 have hlt:∀s₁,F s₁→∀i o,st.h.tr.get i=some o→i<st.h.next:=fun s₁ h1 i o hi=>(I.H s₁ h1).lt i o hi
 have hEcl:∀s₀ s s₁,F s₁→Ext s₀ h₀ w₀ s₁ st.h w→(∀i,i<st.h.next→s i=s₁ i)→Ext s₀ h₀ w₀ s st'.h w:=by
  intro s₀ s s₁ h1 hE hs
  refine (hE.congr (hlt s₁ h1) hs).relay S.next ?_
  intro j o hj
  rw [S.tr] at hj
  exact .inl ⟨o,hj⟩
 have hnew:∀p∈new,L p.1=false:=by
  intro p hp
  obtain ⟨_,_,_,x,h,hx,hpx⟩:=S.ids p hp
  exact hun p.1 q h (by rw [hx];simpa using hpx) (Nat.le_refl _)
 refine ⟨I.ne,I.size,I.defers,?_,?_,?_,S.all,fun s ⟨s₁,h1,hs⟩=>hHcl s s₁ h1 hs,Nat.le_trans I.low S.next,?_,?_,?_,?_,?_,I.down,I.wl,I.lo,I.hi⟩
 ·intro s₀ hs₀ g
  obtain ⟨s₁,h1,hE,hg⟩:=I.free s₀ hs₀ g
  refine ⟨fun i=>if i<st.h.next then s₁ i else g i,⟨s₁,h1,fun i hi=>by simp [hi]⟩,hEcl s₀ _ s₁ h1 hE (fun i hi=>by simp [hi]),?_⟩
  intro p hp hL
  simp only []
  rcases List.mem_append.1 hp with hp | hp
  ·have:=(S.ids p hp).1
   rw [if_neg (by omega)]
  ·rw [if_pos (I.pid p hp).1];exact hg p hp hL
 ·rintro s ⟨s₁,h1,hs⟩
  obtain ⟨s₀,hs₀,hE⟩:=I.orig s₁ h1
  exact ⟨s₀,hs₀,hEcl s₀ s s₁ h1 hE hs⟩
 ·rintro s ⟨s₁,h1,hs⟩ t v hv hnp
  have hsame:st'.T.get t=st.T.get t:=by
   refine S.same t ?_
   intro x o h ho hp hd
   exact hnp ⟨x,o,q,h,by simpa using ho,hp,by omega,hun x q h hp (Nat.le_refl _),hd⟩
  rw [hsame] at hv
  have hnp':¬Pdg ops pl q L t:=fun ⟨x,o,l,h,p1,p2,p3,p4,p5⟩=>hnp ⟨x,o,l,h,p1,p2,by omega,p4,p5⟩
  rw [Zlm hs v (I.all t v hv).2]
  exact I.tmp s₁ h1 t v hv hnp'
 ·intro p hp
  rcases List.mem_append.1 hp with hp | hp
  ·exact Nat.le_trans I.low (S.ids p hp).1
  ·exact I.pge p hp
 ·intro p hp
  rcases List.mem_append.1 hp with hp | hp
  ·obtain ⟨p1,p2,p3,x,h,hx,hpx⟩:=S.ids p hp
   refine ⟨p2,?_,p3,q,h,by rw [hx];simpa using hpx,by omega,?_⟩
   ·rw [S.tr]
    cases hg:st.h.tr.get p.2.1 with
    | none=>rfl
    | some o=>
     exfalso
     obtain ⟨s₀,hs₀⟩:=I.ne
     obtain ⟨s₁,h1,_⟩:=I.free s₀ hs₀ (fun _=>(0,0))
     have:=hlt s₁ h1 _ _ hg
     omega
   ·rcases Nat.lt_or_ge h q with r | r
    ·have h1:=I.hi p.1 q h (by rw [hx];simpa using hpx) r
     rw [hnew p hp] at h1;cases h1
    ·exact r
  ·obtain ⟨p1,p2,p3,lo,hi,p4,p5,p6⟩:=I.pid p hp
   exact ⟨Nat.lt_of_lt_of_le p1 S.next,by rw [S.tr];exact p2,Zm7 S.next p3,lo,hi,p4,by omega,p6⟩
 ·rintro p hp hL s ⟨s₁,h1,hs⟩
  rcases List.mem_append.1 hp with hp | hp
  ·rw [hnew p hp] at hL;cases hL
  ·obtain ⟨p1,p2,p3,_⟩:=I.pid p hp
   obtain ⟨r1,r2,r3⟩:=I.pob p hp hL s₁ h1
   rw [hs p.2.1 p1]
   refine ⟨r1.congr hs p1 p3,r2,?_⟩
   intro j o hj
   rw [S.tr] at hj
   rw [hs j (hlt s₁ h1 j o hj)]
   exact r3 j o hj
 ·rintro p hp p' hp' hL hL' s ⟨s₁,h1,hs⟩ he
  rcases List.mem_append.1 hp with hp | hp
  ·rw [hnew p hp] at hL;cases hL
  ·rcases List.mem_append.1 hp' with hp' | hp'
   ·rw [hnew p' hp'] at hL';cases hL'
   ·rw [hs _ (I.pid p hp).1,hs _ (I.pid p' hp').1] at he
    exact I.pinj p hp p' hp' hL hL' s₁ h1 he
 ·intro p hp p' hp' hpp
  have cross:∀p∈new,∀p'∈pd,¬(p.1=p'.1∨p.2.1=p'.2.1):=by
   rintro p hp p' hp' (r | r)
   ·obtain ⟨_,_,_,x,h,hx,hpx⟩:=S.ids p hp
    obtain ⟨_,_,_,lo,hi,p4,p5,_⟩:=I.pid p' hp'
    have:pl[p.1]?=some (.p q h):=by rw [hx];simpa using hpx
    rw [r,p4] at this
    simp at this
    omega
   ·have:=(S.ids p hp).1
    have:=(I.pid p' hp').1
    omega
  rcases List.mem_append.1 hp with hp | hp<;>rcases List.mem_append.1 hp' with hp' | hp'
  ·exact S.uni p hp p' hp' hpp
  ·exact absurd hpp (cross p hp p' hp')
  ·exact absurd (hpp.imp Eq.symm Eq.symm) (cross p' hp' p hp)
  ·exact I.puni p hp p' hp' hpp
theorem Zld:∀{l:List Operand} {t:Tmp},Operand.tmp t∈l→t∈tmpsOf l
 | [],t,h=>by cases h
 | x :: l,t,h=>by
  rcases List.mem_cons.1 h with rfl | h2
  ·simp [tmpsOf]
  ·have:=Zld h2
   cases x<;>simp [tmpsOf,this]
theorem Zj0 {o:Oper} {t:Tmp} (h:Operand.tmp t∈o.op.operands):t∈looks ops.toList o:=by
 have:=Zld (Array.mem_toList_iff.2 h)
 unfold looks
 split
 ·exact this
 ·split
  ·split
   ·exact List.mem_cons_of_mem _ this
   ·exact this
  ·exact this
theorem Zhr {o oj:Oper} {t:Tmp} {j:Nat} {b:Bool} (h:o.guard=some (j,b)) (hj:ops[j]?=some oj) (hd:oj.dst=some t):t∈looks ops.toList o:=by
 unfold looks
 have hj':nth ops.toList j=some oj:=by rw [Zcg];simpa using hj
 simp [h,hj',hd]
theorem Inv.sees {m k:Nat} (I:Inv n ops pl F₀ h₀ w₀ m q L a w st pd F) (hP:Zks ops pl k) {i:Nat} {o:Oper} (ho:ops[i]?=some o) (hr:∀e∈edges o,L e=true)
  {t:Tmp} (ht:t∈looks ops.toList o):¬Pdg ops pl m L t:=by
 rintro ⟨x,ox,l,h,p1,p2,p3,p4,p5⟩
 have:=hr x (hP.fresh i o ho t ht x ox l h p1 p2 p5)
 rw [p4] at this;cases this
theorem Inv.stage {k:Nat} (I:Inv n ops pl F₀ h₀ w₀ (q+1) q L a w st pd F) (hP:Zks ops pl k) {i:Nat} {o:Oper} (ho:ops[i]?=some o) (hr:∀e∈edges o,L e=true) (hL:L i=false) {l h:Nat}
  (hp:pl[i]?=some (.p l h)):l≤q∧q≤h:=by
 constructor
 ·rcases hP.lo i o l h ho hp with r | ⟨e,pe,h1,h2,h3⟩
  ·omega
  ·have hLe:=hr e h1
   cases pe with
   | w j=>have:=(I.wl e j h2).1 hLe;simp only [PE.num] at h3;omega
   | p l' h'=>have:=I.lo e l' h' h2 hLe;simp only [PE.num] at h3;omega
 ·rcases Nat.lt_or_ge h q with r | r
  ·have:=I.hi i l h hp r;rw [hL] at this;cases this
  ·exact r
theorem Zj6 {i j:Nat} (h:L j=true):mark L i j=true:=by unfold mark;split<;>simp [h]
theorem Zh3 {i j:Nat} (h:mark L i j=false):L j=false∧j≠i:=by
 unfold mark at h
 split at h
 ·cases h
 ·rename_i q;exact ⟨h,q⟩
theorem Inv.ran {F':Fam} {w':World} {i:Nat} {o:Oper} {l h:Nat} {V:Value} (I:Inv n ops pl F₀ h₀ w₀ (q+1) q L a w st pd F) (ho:ops[i]?=some o) (hr:∀e∈edges o,L e=true)
  (hp:pl[i]?=some (.p l h)) (hl:l≤q) (hsub:∀s,F' s→F s) (hV:∀s,F' s→∀t,o.dst=some t→∃v,st.T.get t=some v∧conc s v=V)
  (free:∀s₀,F₀ s₀→∀g:Sg,∃s,F' s∧Ext s₀ h₀ w₀ s st.h w'∧∀p∈pd,mark L i p.1=false→s p.2.1=g p.2.1)
  (orig:∀s,F' s→∃s₀,F₀ s₀∧Ext s₀ h₀ w₀ s st.h w') (H:∀s,F' s→HRel s st.h w')
  (pob:∀p∈pd,mark L i p.1=true→∀s,F' s→ORel s p.2.1 p.2.2 w'.heap[(s p.2.1).1]?∧w₀.heap.size≤(s p.2.1).1∧∀j o,st.h.tr.get j=some o→(s j).1≠(s p.2.1).1)
  (pinj:∀p∈pd,∀p'∈pd,mark L i p.1=true→mark L i p'.1=true→∀s,F' s→(s p.2.1).1=(s p'.2.1).1→p.2.1=p'.2.1) :
  Inv n ops pl F₀ h₀ w₀ (q+1) q (mark L i) (a.put o.dst V) w' st pd F':=by
 refine ⟨I.ne,?_,?_,free,orig,?_,I.all,H,I.low,I.pge,I.pid,pob,pinj,I.puni,?_,?_,?_,fun j l h hj hh=>Zj6 (I.hi j l h hj hh)⟩
 ·cases hd:o.dst<;>simp [Act.put,hd,I.size]
 ·cases hd:o.dst<;>simp [Act.put,hd,I.defers]
 ·intro s hs t v hv hnp
  by_cases hd:o.dst=some t
  ·obtain ⟨v',hv',hc⟩:=hV s hs t hd
   rw [hv] at hv'
   simp at hv';subst hv'
   simp only [Act.put,hd,Array.getElem?_setIfInBounds,if_true]
   rw [if_pos (by rw [I.size];exact (I.all t v hv).1),hc]
  ·have hnp':¬Pdg ops pl (q+1) L t:=by
    rintro ⟨x,ox,l',h',p1,p2,p3,p4,p5⟩
    refine hnp ⟨x,ox,l',h',p1,p2,p3,?_,p5⟩
    unfold mark
    split
    ·rename_i e
     subst e
     rw [ho] at p1
     simp at p1;subst p1
     exact absurd p5 hd
    ·exact p4
   have:=I.tmp s (hsub s hs) t v hv hnp'
   cases hd':o.dst with
   | none=>exact this
   | some d=>
    simp only [Act.put,Array.getElem?_setIfInBounds]
    rw [if_neg (fun e=>hd (by rw [hd',e]))]
    exact this
 ·intro z oz hz hLz e he
  unfold mark at hLz
  split at hLz
  ·rename_i e1
   subst e1
   rw [ho] at hz
   simp at hz;subst hz
   exact Zj6 (hr e he)
  ·exact Zj6 (I.down z oz hz hLz e he)
 ·intro j x hj
  have hne:j≠i:=by intro e;subst e;rw [hp] at hj;simp at hj
  unfold mark
  rw [if_neg hne]
  exact I.wl j x hj
 ·intro j l' h' hj hLj
  unfold mark at hLj
  split at hLj
  ·rename_i e
   subst e
   rw [hp] at hj
   simp at hj
   omega
  ·exact I.lo j l' h' hj hLj
theorem Zud {T:Tr AV} {d:Option Tmp} {v:AV} (h:dstIs T d v=true) {t:Tmp} (hd:d=some t):T.get t=some v:=by
 subst hd
 simp only [dstIs] at h
 split at h<;>try cases h
 rename_i u hu
 rw [hu,AV.Zhz h]
theorem Inv.step {P:Program} {k:Nat} (I:Inv n ops pl F₀ h₀ w₀ (q+1) q L a w st pd F) (hP:Zks ops pl k) {i:Nat} {o:Oper} (ho:ops[i]?=some o) (hr:∀e∈edges o,L e=true) (hL:L i=false)
  {l h:Nat} (hp:pl[i]?=some (.p l h)) (hc:Za2k P ops st pd o i=true) {K:Act→World→Prop} {Q:Exit→Act→World→Prop}
  (hK:∀a' w' F',Inv n ops pl F₀ h₀ w₀ (q+1) q (mark L i) a' w' st pd F'→K a' w'):wpOp P ops Q i K a w:=by
 obtain ⟨hlq,hqh⟩:=I.stage hP ho hr hL hp
 obtain ⟨s₀,hs₀⟩:=I.ne
 obtain ⟨s₁,hs₁,_⟩:=I.free s₀ hs₀ (fun _=>(0,0))
 have hO:∀s,F s→Opnd s st.T a o.op:=fun s hs=>Zso fun t ht u hu=>I.tmp s hs t u hu (I.sees hP ho hr (Zj0 ht))
 have hW:∀{b},Zqs ops st.T o=some b→Region.wanted o (yielded ops a.tmps)=b:=fun hw=>
  Zqr hw (fun j b oj t v hg hj hd hv=>I.tmp s₁ hs₁ t v hv (I.sees hP ho hr (Zhr hg hj hd)))
 have mk:∀{p:Nat×Nat×AObj},findP i pd=none→p∈pd→mark L i p.1=L p.1:=by
  intro p hf hp'
  unfold mark
  rw [if_neg (Zyt hf p hp')]
 have quiet:∀V,findP i pd=none→(∀s,F s→∀t,o.dst=some t→∃v,st.T.get t=some v∧conc s v=V)→K (a.put o.dst V) w:=by
  intro V hf hV
  refine hK _ w F (I.ran ho hr hp hlq (fun s hs=>hs) hV ?_ I.orig I.H ?_ ?_)
  ·intro s₀ hs₀ g
   obtain ⟨s,h1,h2,h3⟩:=I.free s₀ hs₀ g
   exact ⟨s,h1,h2,fun p hp' hm=>h3 p hp' (by rw [mk hf hp'] at hm;exact hm)⟩
  ·intro p hp' hm
   rw [mk hf hp'] at hm
   exact I.pob p hp' hm
  ·intro p hp' p' hp'' hm hm'
   rw [mk hf hp'] at hm
   rw [mk hf hp''] at hm'
   exact I.pinj p hp' p' hp'' hm hm'
 unfold wpOp
 rw [ho]
 simp only []
 unfold Za2k at hc
 split at hc
 ·rename_i hw
  rw [hW hw]
  simp only [Bool.false_eq_true,if_false]
  split at hc<;>try cases hc
  rename_i hf
  exact quiet undef hf (fun s hs t ht=>⟨_,Zud hc ht,rfl⟩)
 ·rename_i hw
  rw [hW hw]
  simp only [if_true]
  left
  unfold Oper.wp
  split at hc
  ·rename_i id ob hf
   have hmem:=Za22 hf
   split at hc<;>try cases hc
   rename_i ob' v ha
   split at hc<;>try cases hc
   rename_i hob
   have hob:=objEq_eq hob
   subst hob
   obtain ⟨s₂,hs₂,hE₂,hg₂⟩:=I.free s₀ hs₀ (fun _=>(w.heap.size,0))
   have hid:s₂ id=(w.heap.size,0):=hg₂ _ hmem hL
   obtain ⟨x₂,hrun,hor⟩:=Za0g ha (hO s₂ hs₂) w hid
   rw [hrun]
   have each:∀s,F s→s id=(w.heap.size,0)→conc s v=conc s₂ v∧ORel s id ob (some x₂):=by
    intro s hs hsi
    obtain ⟨x,hrun',hor'⟩:=Za0g ha (hO s hs) w hsi
    rw [hrun] at hrun'
    simp only [Result.ok.injEq,Next.value.injEq,World.mk.injEq,Array.push_eq_push,and_true,true_and] at hrun'
    obtain ⟨q1,rfl⟩:=hrun'
    exact ⟨q1.symm,hor'⟩
   have other:∀p∈pd,p.1≠i→p.2.1≠id:=fun p hp' hne e=>hne (congrArg Prod.fst (I.puni p hp' _ hmem (.inr e)))
   have old:∀p∈pd,L p.1=true→∀s,F s→(s p.2.1).1<w.heap.size:=by
    intro p hp' hLp s hs
    obtain ⟨y,hy⟩:=(I.pob p hp' hLp s hs).1.there
    rcases Nat.lt_or_ge (s p.2.1).1 w.heap.size with r | r
    ·exact r
    ·rw [Array.getElem?_eq_none r] at hy;cases hy
   have split_:∀p∈pd,mark L i p.1=true→p=(i,id,ob)∨(L p.1=true∧p.1≠i):=by
    intro p hp' hm
    unfold mark at hm
    split at hm
    ·rename_i e;exact .inl (I.puni p hp' _ hmem (.inl e))
    ·rename_i e;exact .inr ⟨hm,e⟩
   refine hK _ _ (fun s=>F s∧s id=(w.heap.size,0)) (I.ran ho hr hp hlq (fun s hs=>hs.1) ?_ ?_ ?_ ?_ ?_ ?_)
   ·intro s hs t ht
    exact ⟨v,Zud hc ht,(each s hs.1 hs.2).1⟩
   ·intro s₀' hs₀' g
    obtain ⟨s,h1,h2,h3⟩:=I.free s₀' hs₀' (upd g id (w.heap.size,0))
    refine ⟨s,⟨h1,by rw [h3 _ hmem hL];exact Zbb _ _ _⟩,h2.push x₂,?_⟩
    intro p hp' hm
    obtain ⟨hLp,hne⟩:=Zh3 hm
    rw [h3 p hp' hLp]
    simp only [upd]
    rw [if_neg (other p hp' hne)]
   ·rintro s ⟨hs,_⟩
    obtain ⟨s₀',h1,h2⟩:=I.orig s hs
    exact ⟨s₀',h1,h2.push x₂⟩
   ·rintro s ⟨hs,_⟩;exact (I.H s hs).push x₂
   ·rintro p hp' hm s ⟨hs,hsi⟩
    rcases split_ p hp' hm with rfl | ⟨hLp,hne⟩
    ·rw [hsi]
     refine ⟨?_,?_,?_⟩
     ·show ORel s id ob (w.heap.push x₂)[w.heap.size]?
      simpa using (each s hs hsi).2
     ·obtain ⟨_,_,hE⟩:=I.orig s hs;exact hE.size
     ·intro j o' hj
      have:=(I.H s hs).bound hj
      show (s j).1≠w.heap.size
      omega
    ·obtain ⟨r1,r2,r3⟩:=I.pob p hp' hLp s hs
     refine ⟨?_,r2,r3⟩
     show ORel s p.2.1 p.2.2 (w.heap.push x₂)[(s p.2.1).1]?
     have:=old p hp' hLp s hs
     rw [Array.getElem?_push,if_neg (by omega)];exact r1
   ·rintro p hp' p' hp'' hm hm' s ⟨hs,hsi⟩ he
    rcases split_ p hp' hm with rfl | ⟨hLp,hne⟩<;>rcases split_ p' hp'' hm' with rfl | ⟨hLp',hne'⟩
    ·rfl
    ·have:=old p' hp'' hLp' s hs
     rw [hsi] at he;simp only [] at he;omega
    ·have:=old p hp' hLp s hs
     rw [hsi] at he;simp only [] at he;omega
    ·exact I.pinj p hp' p' hp'' hLp hLp' s hs he
  ·rename_i hf
   split at hc<;>try cases hc
   rename_i v hv
   have h₁:=Zlk hv (hO s₁ hs₁) (I.H s₁ hs₁)
   rw [h₁]
   refine quiet (conc s₁ v) hf ?_
   intro s hs t ht
   refine ⟨v,Zud hc ht,?_⟩
   have h₂:=Zlk hv (hO s hs) (I.H s hs)
   rw [h₁] at h₂
   simp only [Result.ok.injEq,Next.value.injEq,and_true] at h₂
   exact h₂.symm
 ·cases hc
end
section
variable {n:Nat} {ops:Array Oper} {pl:List PE} {F₀:Fam} {h₀:Hp} {w₀:World} {q:Nat} {L:Nat→Bool} {a:Act} {w:World} {st:St} {pd:Pend} {F:Fam}
theorem Inv.due {k m:Nat} (I:Inv n ops pl F₀ h₀ w₀ m q L a w st pd F) (hP:Zks ops pl k) {i:Nat} {o:Oper} (ho:ops[i]?=some o) (hr:∀e∈edges o,L e=true)
  (hw:pl[i]?=some (.w (q+1))):∀d (x l h:Nat),ops.size≤x+d→pl[x]?=some (.p l h)→h≤q→L x=true:=by
 have hk:q+1≤k:=(hP.w i o (q+1) ho hw).2.1
 intro d
 induction d with
 | zero=>
  intro x l h hx hp _
  have:x<pl.length:=by
   rcases Nat.lt_or_ge x pl.length with r | r
   ·exact r
   ·rw [List.getElem?_eq_none r] at hp;cases hp
  rw [hP.len] at this;omega
 | succ d ih=>
  intro x l h hx hp hh
  rcases hP.hi x l h hp with r | ⟨z,oz,pe,h1,h2,h3,h4⟩
  ·omega
  ·have hxz:=hP.below z oz h1 x h3
   have hz:L z=true∨z=i:=by
    rcases h4 with ⟨j,rfl,hj⟩ | ⟨l',h',rfl,hh'⟩
    ·rcases Nat.lt_or_ge q j with r | r
     ·have:j=q+1:=by omega
      subst this
      exact .inr (hP.uniq z i _ h2 hw)
     ·exact .inl ((I.wl z j h2).2 r)
    ·exact .inl (ih z l' h' (by omega) h2 (by omega))
   rcases hz with hz | rfl
   ·exact I.down z oz h1 hz x h3
   ·rw [ho] at h1;simp at h1;subst h1;exact hr x h3
theorem Inv.lay {m:Nat} {pd':Pend} {h':Hp} (I:Inv n ops pl F₀ h₀ w₀ m q L a w st pd F) (hdue:∀p∈pd,(∃lo hi,pl[p.1]?=some (.p lo hi)∧hi≤q)→L p.1=true)
  (e:Zsn pl q pd st.h=some (pd',h')) :
  Inv n ops pl F₀ h₀ w₀ m q L a w ⟨st.T,h'⟩ pd' F∧∀p∈pd',∃lo hi,pl[p.1]?=some (.p lo hi)∧q<hi:=by
 obtain ⟨e1,e2,e3⟩:=Zus e
 have hE:∀s₀ s,F s→Ext s₀ h₀ w₀ s st.h w→Ext s₀ h₀ w₀ s h' w:=by
  intro s₀ s hs hE
  refine hE.relay (by rw [e1];exact Nat.le_refl _) ?_
  intro j o hj
  rcases e2 j o hj with r | ⟨p,hp,hd,rfl,rfl⟩
  ·exact .inl ⟨o,r⟩
  ·exact .inr ⟨(I.pob p hp (hdue p hp hd) s hs).2.1,I.pge p hp⟩
 have hnd:∀p∈pd',∀p'∈pd,(∃lo hi,pl[p'.1]?=some (.p lo hi)∧hi≤q)→p.2.1≠p'.2.1:=by
  rintro p hp p' hp' ⟨lo,hi,h1,h2⟩ heq
  have:=I.puni p (e3 p hp).1 p' hp' (.inr heq)
  subst this
  obtain ⟨_,lo',hi',h3,h4⟩:=e3 p hp
  rw [h1] at h3;simp at h3;omega
 refine ⟨⟨I.ne,I.size,I.defers,?_,?_,I.tmp,?_,?_,by rw [e1];exact I.low,fun p hp=>I.pge p (e3 p hp).1,?_,?_,?_,?_,I.down,I.wl,I.lo,I.hi⟩,fun p hp=>(e3 p hp).2⟩
 ·intro s₀ hs₀ g
  obtain ⟨s,h1,h2,h3⟩:=I.free s₀ hs₀ g
  exact ⟨s,h1,hE s₀ s h1 h2,fun p hp=>h3 p (e3 p hp).1⟩
 ·intro s hs
  obtain ⟨s₀,h1,h2⟩:=I.orig s hs
  exact ⟨s₀,h1,hE s₀ s hs h2⟩
 ·intro t v hv;rw [e1];exact I.all t v hv
 ·intro s hs
  have H:=I.H s hs
  refine ⟨?_,?_,?_,?_⟩
  ·intro j o hj
   rcases e2 j o hj with r | ⟨p,hp,hd,rfl,rfl⟩
   ·exact H.obj j o r
   ·exact (I.pob p hp (hdue p hp hd) s hs).1
  ·intro j j' o o' hj hj' he
   rcases e2 j o hj with r | ⟨p,hp,hd,rfl,rfl⟩<;>rcases e2 j' o' hj' with r' | ⟨p',hp',hd',rfl,rfl⟩
   ·exact H.inj j j' o o' r r' he
   ·exact absurd he ((I.pob p' hp' (hdue p' hp' hd') s hs).2.2 j o r)
   ·exact absurd he.symm ((I.pob p hp (hdue p hp hd) s hs).2.2 j' o' r')
   ·exact I.pinj p hp p' hp' (hdue p hp hd) (hdue p' hp' hd') s hs he
  ·intro j o hj
   rw [e1]
   rcases e2 j o hj with r | ⟨p,hp,hd,rfl,rfl⟩
   ·exact H.lt j o r
   ·exact (I.pid p hp).1
  ·intro j o hj
   rw [e1]
   rcases e2 j o hj with r | ⟨p,hp,hd,rfl,rfl⟩
   ·exact H.wso j o r
   ·exact (I.pid p hp).2.2.1
 ·intro p hp
  obtain ⟨p1,p2,p3,p4⟩:=I.pid p (e3 p hp).1
  refine ⟨by rw [e1];exact p1,?_,by rw [e1];exact p3,p4⟩
  cases hg:h'.tr.get p.2.1 with
  | none=>rfl
  | some o=>
   exfalso
   rcases e2 _ o hg with r | ⟨p',hp',hd,he,_⟩
   ·rw [p2] at r;cases r
   ·exact hnd p hp p' hp' hd he
 ·intro p hp hL s hs
  obtain ⟨r1,r2,r3⟩:=I.pob p (e3 p hp).1 hL s hs
  refine ⟨r1,r2,?_⟩
  intro j o hj he
  rcases e2 j o hj with r | ⟨p',hp',hd,rfl,rfl⟩
  ·exact r3 j o r he
  ·exact hnd p hp p' hp' hd (I.pinj p' hp' p (e3 p hp).1 (hdue p' hp' hd) hL s hs he).symm
 ·intro p hp p' hp' hL hL' s hs he
  exact I.pinj p (e3 p hp).1 p' (e3 p' hp').1 hL hL' s hs he
 ·intro p hp p' hp' he
  exact I.puni p (e3 p hp).1 p' (e3 p' hp').1 he
theorem Inv.write {P:Program} {call:Cl} (hcl:ClOk P call) {k:Nat} (I:Inv n ops pl F₀ h₀ w₀ (q+1) q L a w st pd F) (hP:Zks ops pl k) {i:Nat} {o:Oper} (ho:ops[i]?=some o)
  (hr:∀e∈edges o,L e=true) (hw:pl[i]?=some (.w (q+1))) {st':St} (e:Zyv P call n ops o st=some st') (hgt:∀p∈pd,∃lo hi,pl[p.1]?=some (.p lo hi)∧q<hi)
  {K:Act→World→Prop} {Q:Exit→Act→World→Prop}
  (hK:∀a' w' F',Inv n ops pl F₀ h₀ w₀ (q+1) (q+1) (mark L i) a' w' st' pd F'→(∀(i' l h:Nat),pl[i']?=some (.p l h)→q+1≤l→mark L i i'=false)→K a' w'):wpOp P ops Q i K a w:=by
 obtain ⟨s₀,hs₀⟩:=I.ne
 obtain ⟨s₁,hs₁,_⟩:=I.free s₀ hs₀ (fun _=>(0,0))
 have hO:∀s,F s→Opnd s st.T a o.op:=fun s hs=>Zso fun t ht u hu=>I.tmp s hs t u hu (I.sees hP ho hr (Zj0 ht))
 have hW:∀{b},Zqs ops st.T o=some b→Region.wanted o (yielded ops a.tmps)=b:=fun hw=>
  Zqr hw (fun j b oj t v hg hj hd hv=>I.tmp s₁ hs₁ t v hv (I.sees hP ho hr (Zhr hg hj hd)))
 have hdue:=I.due hP ho hr hw
 have notI:∀(j l h:Nat),pl[j]?=some (.p l h)→j≠i:=by intro j l h hj e;subst e;rw [hw] at hj;cases hj
 have mkp:∀p∈pd,mark L i p.1=L p.1:=by
  intro p hp
  obtain ⟨lo,hi,h1,_⟩:=hgt p hp
  unfold mark
  rw [if_neg (notI p.1 lo hi h1)]
 have hun:∀(i' l h:Nat),pl[i']?=some (.p l h)→q+1≤l→mark L i i'=false:=by
  intro i' l h hp hl
  unfold mark
  rw [if_neg (notI i' l h hp)]
  cases hx:L i' with
  | false=>rfl
  | true=>have:=I.lo i' l h hp hx;omega
 have build:∀(F':Fam) (w':World) (h':Hp) (V:Value) (v:AV) (T':Tr AV),FExt F st.h w F' h' w'→(∀s',F' s'→HRel s' h' w'∧conc s' v=V)→setT n h'.next st.T o.dst v=some T' →
   Inv n ops pl F₀ h₀ w₀ (q+1) (q+1) (mark L i) (a.put o.dst V) w' ⟨T',h'⟩ pd F':=by
  intro F' w' h' V v T' hE hF hT
  obtain ⟨s₂,hs₂,hE₂⟩:=hE.to s₁ hs₁
  have hnx:st.h.next≤h'.next:=hE₂.next
  refine ⟨I.ne,?_,?_,?_,?_,?_,Zvf hT hnx I.all,fun s hs=>(hF s hs).1,Nat.le_trans I.low hnx,I.pge,?_,?_,?_,I.puni,?_,?_,?_,?_⟩
  ·cases hd:o.dst<;>simp [Act.put,hd,I.size]
  ·cases hd:o.dst<;>simp [Act.put,hd,I.defers]
  ·intro s₀' hs₀' g
   obtain ⟨s,h1,h2,h3⟩:=I.free s₀' hs₀' g
   obtain ⟨s',h1',hx⟩:=hE.to s h1
   refine ⟨s',h1',h2.trans hx,?_⟩
   intro p hp hm
   rw [mkp p hp] at hm
   rw [hx.sg _ (I.pid p hp).1]
   exact h3 p hp hm
  ·intro s' hs'
   obtain ⟨s,h1,hx⟩:=hE.from_ s' hs'
   obtain ⟨s₀',h2,h3⟩:=I.orig s h1
   exact ⟨s₀',h2,h3.trans hx⟩
  ·intro s' hs' t u hu hnp
   obtain ⟨s,h1,hx⟩:=hE.from_ s' hs'
   rw [Zk5 hT t] at hu
   by_cases hd:o.dst=some t
   ·rw [if_pos hd] at hu
    simp at hu;subst hu
    simp only [Act.put,hd,Array.getElem?_setIfInBounds,if_true]
    rw [if_pos (by rw [I.size];exact (Za78 hT hd).1),(hF s' hs').2]
   ·rw [if_neg hd] at hu
    have hnp':¬Pdg ops pl (q+1) L t:=by
     rintro ⟨x,ox,l',h'',p1,p2,p3,p4,p5⟩
     refine hnp ⟨x,ox,l',h'',p1,p2,p3,?_,p5⟩
     unfold mark
     rw [if_neg (notI x l' h'' p2)];exact p4
    have:=I.tmp s h1 t u hu hnp'
    rw [Zlm hx.sg u (I.all t u hu).2]
    cases hd':o.dst with
    | none=>exact this
    | some d=>
     simp only [Act.put,Array.getElem?_setIfInBounds]
     rw [if_neg (fun e=>hd (by rw [hd',e]))]
     exact this
  ·intro p hp
   obtain ⟨p1,p2,p3,lo,hi,p4,p5,p6⟩:=I.pid p hp
   obtain ⟨lo',hi',h1,h2⟩:=hgt p hp
   rw [p4] at h1;simp at h1
   refine ⟨Nat.lt_of_lt_of_le p1 hnx,?_,Zm7 hnx p3,lo,hi,p4,by omega,by omega⟩
   cases hg:h'.tr.get p.2.1 with
   | none=>rfl
   | some ob=>
    obtain ⟨o',ho'⟩:=hE₂.keep _ ob hg p1
    rw [p2] at ho';cases ho'
  ·intro p hp hm s' hs'
   rw [mkp p hp] at hm
   obtain ⟨s,h1,hx⟩:=hE.from_ s' hs'
   obtain ⟨r1,r2,r3⟩:=I.pob p hp hm s h1
   obtain ⟨p1,p2,p3,_⟩:=I.pid p hp
   have hsid:=hx.sg _ p1
   obtain ⟨y,hy⟩:=r1.there
   have hlt:(s p.2.1).1<w.heap.size:=by
    rcases Nat.lt_or_ge (s p.2.1).1 w.heap.size with r | r
    ·exact r
    ·rw [Array.getElem?_eq_none r] at hy;cases hy
   rw [hsid]
   refine ⟨?_,r2,?_⟩
   ·rw [hx.frame _ hlt r3]
    exact r1.congr hx.sg p1 p3
   ·intro j ob hj he
    rcases hx.img j ob hj with ⟨j',o',hj',q'⟩ | q'
    ·exact r3 j' o' hj' (q'.trans he)
    ·omega
  ·intro p hp p' hp' hm hm' s' hs' he
   rw [mkp p hp] at hm
   rw [mkp p' hp'] at hm'
   obtain ⟨s,h1,hx⟩:=hE.from_ s' hs'
   rw [hx.sg _ (I.pid p hp).1,hx.sg _ (I.pid p' hp').1] at he
   exact I.pinj p hp p' hp' hm hm' s h1 he
  ·intro z oz hz hLz e' he'
   unfold mark at hLz
   split at hLz
   ·rename_i e1
    subst e1
    rw [ho] at hz;simp at hz;subst hz
    exact Zj6 (hr e' he')
   ·exact Zj6 (I.down z oz hz hLz e' he')
  ·intro x j hx
   unfold mark
   by_cases hxi:x=i
   ·subst hxi
    rw [hw] at hx;simp at hx;subst hx
    simp
   ·rw [if_neg hxi,I.wl x j hx]
    constructor
    ·intro r;omega
    ·intro r
     rcases Nat.lt_or_ge j (q+1) with r' | r'
     ·omega
     ·have:j=q+1:=by omega
      subst this
      exact absurd (hP.uniq x i _ hx hw) hxi
  ·intro x l h hx hLx
   unfold mark at hLx
   rw [if_neg (notI x l h hx)] at hLx
   have:=I.lo x l h hx hLx;omega
  ·intro x l h hx hh
   exact Zj6 (hdue ops.size x l h (by omega) hx (by omega))
 unfold Zyv at e
 unfold wpOp
 rw [ho]
 simp only []
 split at e
 ·rename_i hwa
  rw [hW hwa]
  simp only [if_true]
  left
  split at e<;>try cases e
  rename_i v h' ha
  split at e<;>try cases e
  rename_i T' hT
  exact Za5k hcl ha ⟨s₁,hs₁⟩ hO (fun t v hv=>(I.all t v hv).2) I.H fun F' w' V hE hF=>hK _ w' F' (build F' w' h' V v T' hE hF hT) hun
 ·rename_i hwa
  rw [hW hwa]
  simp only [Bool.false_eq_true,if_false]
  split at e<;>try cases e
  rename_i T' hT
  exact hK _ w F (build F w st.h undef (.tup []) T' (FExt.refl _ _ _) (fun s hs=>⟨I.H s hs,rfl⟩) hT) hun
 ·cases e
end
theorem Zll {ops:Array Oper} {listed:Array Bool} {i:Nat} (h:i∈Region.ready .any ops listed) :
  listed.getD i true=false∧∃o,ops[i]?=some o∧∀e∈edges o,listed.getD e false=true:=by
 obtain ⟨h1,o,ho,h2⟩:=mem_ready.1 h
 refine ⟨h1,o,ho,?_⟩
 intro e he
 obtain ⟨x,hx,hb,rfl⟩:=Zvj.1 he
 exact h2 x (Array.mem_toList_iff.1 hx) hb
theorem Zqg {ops:Array Oper} {listed:Array Bool} {i:Nat} {o:Oper} (h1:listed.getD i true=false) (ho:ops[i]?=some o) (h2:∀e∈edges o,listed.getD e false=true) :
  i∈Region.ready .any ops listed:=
 mem_ready.2 ⟨h1,o,ho,fun e he hb=>h2 e.on (Zvj.2 ⟨e,Array.mem_toList_iff.2 he,hb,rfl⟩)⟩
theorem Za0h {P:Program} {call:Cl} (hcl:ClOk P call) {n:Nat} {ops:Array Oper} {pl:List PE} {k:Nat} (hP:Zks ops pl k) {F₀:Fam} {h₀:Hp} {w₀:World} {fin:St} {Q:Exit→Act→World→Prop}
  (hQ:∀F' a' w',RF F' n fin.T fin.h a' w'→FExt F₀ h₀ w₀ F' fin.h w'→Q .normal a' w') :
  ∀(fuel:Nat) (r q:Nat) (listed:Array Bool) (st:St) (pd:Pend) (a:Act) (w:World) (F:Fam),q+r=k→tailF P call n ops pl r q st pd=some fin →
   Ztr P ops q st pd ops.toList pl 0=true→listed.size=ops.size→left ops.size (fun j=>listed.getD j false)≤fuel →
   Inv n ops pl F₀ h₀ w₀ (q+1) q (fun j=>listed.getD j false) a w st pd F→wpAny P .any ops Q fuel listed a w:=by
 have getT:∀(listed:Array Bool),listed.size=ops.size→∀i,i<ops.size→listed.getD i true=listed.getD i false:=by
  intro listed hs i hi
  simp [Array.getD_eq_getD_getElem?,show i<listed.size by omega]
 have fini:∀(r q:Nat) (listed:Array Bool) (st:St) (pd:Pend) (a:Act) (w:World) (F:Fam),q+r=k→tailF P call n ops pl r q st pd=some fin→listed.size=ops.size →
   Inv n ops pl F₀ h₀ w₀ (q+1) q (fun j=>listed.getD j false) a w st pd F→Region.ready .any ops listed=[]→Q .normal a w:=by
  intro r q listed st pd a w F hqr ht hs I hrd
  have all:∀i,i<ops.size→listed.getD i false=true:=by
   intro i
   induction i using Nat.strongRecOn with
   | _ i ih=>
    intro hi
    cases hx:listed.getD i false with
    | true=>rfl
    | false=>
     have ho:ops[i]?=some ops[i]:=by simp [hi]
     have:i∈Region.ready .any ops listed:=Zqg (by rw [getT listed hs i hi];exact hx) ho (fun e he=>ih e (hP.below i _ ho e he) (Nat.lt_trans (hP.below i _ ho e he) hi))
     rw [hrd] at this;cases this
  cases r with
  | succ r=>
   simp only [tailF] at ht
   split at ht<;>try cases ht
   rename_i o hp hf
   obtain ⟨i,h1,h2⟩:=Zis hf
   have hi:i<ops.size:=by
    rcases Nat.lt_or_ge i ops.size with r | r
    ·exact r
    ·rw [List.getElem?_eq_none (by simpa using r)] at h1;cases h1
   have:=(I.wl i (q+1) h2).1 (all i hi)
   omega
  | zero=>
   simp only [tailF] at ht
   split at ht<;>try cases ht
   rename_i h' hp
   have hthere:∀(i:Nat) (pe:PE),pl[i]?=some pe→i<ops.size:=by
    intro i pe hi
    rcases Nat.lt_or_ge i pl.length with r | r
    ·rw [←hP.len];exact r
    ·rw [List.getElem?_eq_none r] at hi;cases hi
   obtain ⟨J,_⟩:=I.lay (fun p _ hd=>by obtain ⟨lo,hi,h1,_⟩:=hd;exact all p.1 (hthere p.1 _ h1)) hp
   have nop:∀t,¬Pdg ops pl (q+1) (fun j=>listed.getD j false) t:=by
    rintro t ⟨x,o,l,h,p1,p2,p3,p4,p5⟩
    simp only [] at p4
    rw [all x (hthere x _ p2)] at p4;cases p4
   obtain ⟨s₀,hs₀⟩:=J.ne
   obtain ⟨s₁,hs₁,_⟩:=J.free s₀ hs₀ (fun _=>(0,0))
   refine hQ F a w ⟨⟨s₁,hs₁⟩,?_,J.H⟩ ⟨?_,J.orig⟩
   ·intro s hs
    exact ⟨J.size,J.defers,fun t v hv=>J.tmp s hs t v hv (nop t),fun t v hv=>(J.all t v hv).2⟩
   ·intro s₀' hs₀'
    obtain ⟨s,h1,h2,_⟩:=J.free s₀' hs₀' (fun _=>(0,0))
    exact ⟨s,h1,h2⟩
 intro fuel
 induction fuel with
 | zero=>
  intro r q listed st pd a w F hqr ht hc hs hl I
  have hrd:Region.ready .any ops listed=[]:=by
   cases hx:Region.ready .any ops listed with
   | nil=>rfl
   | cons i l=>
    exfalso
    obtain ⟨h1,o,ho,_⟩:=Zll (i:=i) (by rw [hx];simp)
    have hi:i<ops.size:=by
     rcases Nat.lt_or_ge i ops.size with r | r
     ·exact r
     ·rw [Array.getElem?_eq_none r] at ho;cases ho
    have h0:left ops.size (fun j=>listed.getD j false)=0:=by omega
    have h3:=Zjq h0 i hi
    rw [getT listed hs i hi] at h1
    rw [h1] at h3;cases h3
  exact ⟨hrd,fini r q listed st pd a w F hqr ht hs I hrd⟩
 | succ fuel ih=>
  intro r q listed st pd a w F hqr ht hc hs hl I
  refine ⟨fun hrd=>fini r q listed st pd a w F hqr ht hs I hrd,?_⟩
  intro i hi
  obtain ⟨h1,o,ho,h2⟩:=Zll hi
  have hin:i<ops.size:=by
   rcases Nat.lt_or_ge i ops.size with r | r
   ·exact r
   ·rw [Array.getElem?_eq_none r] at ho;cases ho
  rw [getT listed hs i hin] at h1
  have hL:(fun j=>(listed.setIfInBounds i true).getD j false)=mark (fun j=>listed.getD j false) i:=by
   funext j
   unfold mark
   by_cases hj:j=i
   ·subst hj
    simp [Array.getD_eq_getD_getElem?,Array.getElem?_setIfInBounds,show j<listed.size by omega]
   ·rw [if_neg hj]
    exact getD_set_ne false (fun r=>hj r.symm)
  have hsz:(listed.setIfInBounds i true).size=ops.size:=by simp [hs]
  have hleft:left ops.size (fun j=>(listed.setIfInBounds i true).getD j false)≤fuel:=by
   rw [hL]
   have:=Zlu (L:=fun j=>listed.getD j false) (i:=i) h1 ops.size
   rw [if_pos hin] at this
   omega
  obtain ⟨pe,hpe⟩:∃pe,pl[i]?=some pe:=⟨pl[i]'(by rw [hP.len];exact hin),by simp [hP.len,hin]⟩
  cases pe with
  | p l h=>
   obtain ⟨hlq,hqh⟩:=I.stage hP ho h2 h1 hpe
   have hck:=Zxb hc i o l h (by simpa using ho) hpe hlq hqh
   refine I.step hP ho h2 h1 hpe (by simpa using hck) ?_
   intro a' w' F' I'
   exact ih r q _ st pd a' w' F' hqr ht hc hsz hleft (by rw [hL];exact I')
  | w j=>
   have hj:j=q+1:=by
    obtain ⟨w1,w2,w3⟩:=hP.w i o j ho hpe
    have hn:¬j≤q:=fun r=>by have:=(I.wl i j hpe).2 r;rw [h1] at this;cases this
    rcases w3 with r | ⟨e,pe,g1,g2,g3⟩
    ·omega
    ·have hLe:=h2 e g1
     cases pe with
     | w j'=>have:=(I.wl e j' g2).1 hLe;simp only [PE.num] at g3;omega
     | p l' h'=>have:=I.lo e l' h' g2 hLe;simp only [PE.num] at g3;omega
   subst hj
   have hk:=(hP.w i o (q+1) ho hpe).2.1
   obtain ⟨r,rfl⟩:∃r',r=r'+1:=⟨r - 1,by omega⟩
   simp only [tailF] at ht
   split at ht<;>try cases ht
   rename_i pd' h' o' hpm hf
   have hoo:o'=o:=by
    obtain ⟨i',g1,g2⟩:=Zis hf
    have:=hP.uniq i' i _ g2 hpe
    subst this
    have g1:ops[i']?=some o':=by simpa using g1
    rw [ho] at g1;simpa using g1.symm
   subst hoo
   split at ht<;>try cases ht
   rename_i st₁ hst
   split at ht<;>try cases ht
   rename_i st₂ pd₂ hex
   split at ht<;>try cases ht
   rename_i hck
   have hthere:∀(i:Nat) (pe:PE),pl[i]?=some pe→i<ops.size:=by
    intro i pe hi
    rcases Nat.lt_or_ge i pl.length with r | r
    ·rw [←hP.len];exact r
    ·rw [List.getElem?_eq_none r] at hi;cases hi
   obtain ⟨J,hgt⟩:=I.lay (fun p _ hd=>by
    obtain ⟨lo,hi,g1,g2⟩:=hd
    exact I.due hP ho h2 hpe ops.size p.1 lo hi (by omega) g1 g2) hpm
   refine J.write hcl hP ho h2 hpe hst hgt ?_
   intro a' w' F' I' hun
   have I'':=I'.enter hun hex
   exact ih r (q+1) _ st₂ pd₂ a' w' _ (by omega) ht hck hsz hleft (by rw [hL];exact I'')
theorem Za97 {P:Program} (hm:P.follows .mixedOrders=true):DrOk P (Za98 P):=by
 intro call hcl n id ops st st' e F a w R Q hQ
 unfold Za98 at e
 split at e<;>try cases e
 rename_i k hk
 have hP:=Zk9 hk
 split at e<;>try cases e
 rename_i st₁ pd₁ hex
 split at e<;>try cases e
 rename_i hck
 refine wp_region_any hm ?_
 obtain ⟨s₁,hs₁⟩:=R.ne
 have R₁:=R.T s₁ hs₁
 have hgetD:∀j,(Array.replicate ops.size false).getD j false=false:=by
  intro j
  simp only [Array.getD_eq_getD_getElem?,Array.getElem?_replicate]
  split<;>rfl
 have I:Inv n ops (Zm4 ops.toList) F st.h w 0 0 (fun j=>(Array.replicate ops.size false).getD j false) a { w with drawn:=w.drawn+1 } st [] F:=by
  refine ⟨R.ne,R₁.size,R₁.defers,?_,?_,?_,?_,fun s hs=>(R.H s hs).drew _,Nat.le_refl _,?_,?_,?_,?_,?_,?_,?_,?_,?_⟩
  ·intro s₀ hs₀ g
   exact ⟨s₀,hs₀,Ext.drew _ _ _ _,fun p hp=>by cases hp⟩
  ·intro s hs;exact ⟨s,hs,Ext.drew _ _ _ _⟩
  ·intro s hs t v hv _;exact (R.T s hs).get t v hv
  ·intro t v hv
   have:=R₁.get t v hv
   refine ⟨?_,R₁.ws t v hv⟩
   rcases Nat.lt_or_ge t n with r | r
   ·exact r
   ·rw [Array.getElem?_eq_none (by rw [R₁.size];exact r)] at this;cases this
  ·intro p hp;cases hp
  ·intro p hp;cases hp
  ·intro p hp;cases hp
  ·intro p hp;cases hp
  ·intro p hp;cases hp
  ·intro z o hz hL;rw [hgetD] at hL;cases hL
  ·intro i j hj
   simp only [hgetD]
   have hlt:i<ops.size:=by
    rcases Nat.lt_or_ge i (Zm4 ops.toList).length with r | r
    ·rw [←hP.len];exact r
    ·rw [List.getElem?_eq_none r] at hj;cases hj
   have:=(hP.w i ops[i] j (by simp [hlt]) hj).1
   constructor
   ·intro r;cases r
   ·intro r;omega
  ·intro i l h _ hL;rw [hgetD] at hL;cases hL
  ·intro i l h _ hh;omega
 have I':=I.enter (fun i l h _ _=>hgetD i) hex
 refine Za0h hcl hP hQ ops.size k 0 _ st₁ pd₁ a _ _ (by omega) e hck (by simp) ?_ I'
 have:∀m (L:Nat→Bool),left m L≤m:=by
  intro m L
  induction m with
  | zero=>simp [left]
  | succ m ih=>simp only [left];split<;>omega
 exact this _ _
end Go.Proofs.YtijabkidejolbaaGreat.Ev
end
