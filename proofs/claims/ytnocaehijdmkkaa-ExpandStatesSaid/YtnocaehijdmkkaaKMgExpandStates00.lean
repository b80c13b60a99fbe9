import Derived.Test.YtnocaehijdmkkaaKXb
import Derived.Test.YtnocaehijdmkkaaKEw
import Derived.Test.YtnocaehijdmkkaaKSb
set_option linter.unusedSectionVars false
set_option linter.unusedVariables false
set_option linter.unusedSimpArgs false
set_option linter.unnecessarySimpa false
section
namespace Go.Proofs.Ytnocaehijdmkkaa.V
open Go Go.RowKit
open Go.Proofs.Ytnocaehijdmkkaa.Pl
theorem bothT {a b:Bool} (h1:a=true) (h2:b=true):both a b=true:=by subst h1;subst h2;rfl
theorem take_le {l:List Bool} {k n:Nat} (h:k≤n):(l.take k).length≤n:=by rw [List.length_take];omega
theorem bits_Word_is (l:List Bool) (hl:l.length≤64):bits_Word_FF (l,())=some ((wordF l:Int),()):=by
 have s:selI (iL (64:Int) (Int.ofNat (List.length l))) (64:Int) (Int.ofNat (List.length l))=Int.ofNat (List.length l):=by
  unfold selI
  rw [show iL (64:Int) (Int.ofNat (List.length l))=false from dec_f (show ¬(64:Int)<((l.length:Nat):Int) by omega)]
  try rfl
 have ht:List.take (Int.toNat (Int.ofNat (List.length l))) l=l:=by
  show List.take l.length l=l
  exact List.take_length
 have eL:bits_Word_L2 ((0:Int),(l,(((l.length:Nat):Int),((0:Int),()))))=some ((wordF l:Int),()):=by
  unfold bits_Word_L2;delta u4
  refine Zif (fun k:Nat=>((wordF (l.take k):Int),(l,(((l.length:Nat):Int),((k:Int),()))))) l.length rfl ?_ ?_ (Ze8 (by omega))
  ·intro k hk
   have hx:=List.getElem?_eq_getElem hk
   have ht:l.take (k+1)=l.take k++[l[k]]:=Pl.Zd8 hx
   have hk2:(l.take k).length=k:=by rw [List.length_take];omega
   have hw:=Zb74 (l.take k)
   rw [hk2] at hw
   have e:∀(a b p q:Int),a=b→p=q→(some (.inl (a,(l,(((l.length:Nat):Int),(p,()))))):Option (TL bits_Word_lay2.σs⊕Out bits_Word_outs2))=some (.inl (b,(l,(((l.length:Nat):Int),(q,()))))):=by rintro _ _ _ _ rfl rfl;rfl
   refine br_tt (dec_t (show (k:Int)<((l.length:Nat):Int) by omega)) (Zaj (show inb (k:Int) (List.length l)=true from Zar ⟨by omega,by omega⟩) ?_)
   have g:gt .bool l (k:Int)=l[k]:=gt_at (σ:=.bool) hx
   have hz:=bor_pow (i:=k) (w:=wordF (l.take k)) (by omega) hw
   have hs:(wordF (l.take (k+1)):Int)=((wordF (l.take k)+(if l[k] then 2^k else 0):Nat):Int):=by rw [ht,Zb6w,hk2]
   cases hb:l[k]
   ·rw [hb] at g hs
    exact br_ff g (e _ _ _ _ hs.symm (i64n (show (k:Int)+1=((k+1:Nat):Int) by omega) (by omega)))
   ·rw [hb] at g hs
    exact br_tt g (Zaj (dec_t (show (0:Int)≤(k:Int) by omega)) (e _ _ _ _ (hz.trans hs.symm) (i64n (show (k:Int)+1=((k+1:Nat):Int) by omega) (by omega))))
  ·rw [List.take_length]
   exact br_ff (dec_f (show ¬((l.length:Nat):Int)<((l.length:Nat):Int) by omega)) rfl
 have eL':∀l':List Bool,l'=l→bits_Word_L2 ((0:Int),(l',(((List.length l':Nat):Int),((0:Int),()))))=some ((wordF l:Int),()):=by rintro _ rfl;exact eL
 show bits_Word_F bits_Word_L2 l=_
 unfold bits_Word_F
 rw [s]
 refine Zaj (bothT (dec_t (show (0:Int)≤((l.length:Nat):Int) by omega)) (dec_t (show ((l.length:Nat):Int)≤((l.length:Nat):Int) by omega))) (Zba (eL' _ ht) rfl)
def cellAt (w:Nat) (l:List Bool) (a:Nat):Nat:=wordF ((l.drop (a*w)).take w)
def bkC (w:Nat) (l:List Bool) (k:Nat):List CellT:=(List.range k).flatMap (fun a=>if cellAt w l a=0 then [] else [((a:Int),((cellAt w l a:Int),()))])
def szM (m:MemD):Nat:=2^m.addr.toNat*m.word.toNat
def offL (L:List MemD):Nat:=L.foldl (fun a m=>a+szM m) 0
def offM (n:NetD) (k:Nat):Nat:=offL (n.mems.take k)
def bkM (n:NetD) (l:List Bool) (k:Nat):List (List CellT):=(List.range k).map fun i=>bkC (n.mems.getD i mz).word.toNat (l.drop (offM n i)) (2^(n.mems.getD i mz).addr.toNat)
theorem bkC_succ (w:Nat) (l:List Bool) (k:Nat):bkC w l (k+1)=bkC w l k++(if cellAt w l k=0 then [] else [((k:Int),((cellAt w l k:Int),()))]):=by
 unfold bkC;rw [List.range_succ,List.flatMap_append];simp
theorem bkC_len (w:Nat) (l:List Bool):∀k,(bkC w l k).length≤k:=by
 intro k
 induction k with
 | zero=>simp [bkC]
 | succ k ih=>
  rw [bkC_succ,List.length_append]
  split<;>simp<;>omega
theorem bkM_len (n:NetD) (l:List Bool) (k:Nat):(bkM n l k).length=k:=by simp [bkM]
theorem bkM_succ (n:NetD) (l:List Bool) {k:Nat} {m:MemD} (hm:n.mems[k]?=some m):bkM n l (k+1)=bkM n l k++[bkC m.word.toNat (l.drop (offM n k)) (2^m.addr.toNat)]:=by
 unfold bkM
 rw [List.range_succ,List.map_append]
 congr 1
 simp only [List.map_cons,List.map_nil]
 rw [List.getD_eq_getElem?_getD,hm];rfl
theorem offM_succ (n:NetD) {k:Nat} {m:MemD} (hm:n.mems[k]?=some m):offM n (k+1)=offM n k+szM m:=by
 unfold offM offL
 rw [Pl.Zd8 hm,List.foldl_append];rfl
theorem szM_tP {m:MemD} (h:Small m):(szM m:Int)=tP m:=by
 unfold szM tP
 rw [if_neg (by have:=h.a2;omega)]
 push_cast
 rw [show ((m.word.toNat:Nat):Int)=m.word by have:=h.w1;omega,Int.mul_comm]
theorem offL_sum:∀(L:List MemD) (a:Nat),(∀m∈L,Small m)→((L.foldl (fun a m=>a+szM m) a:Nat):Int)=L.foldl (fun a m=>a+tP m) (a:Int):=by
 intro L
 induction L with
 | nil=>intro a _;rfl
 | cons m L ih=>
  intro a h
  have e:=szM_tP (h m (by simp))
  rw [List.foldl_cons,List.foldl_cons,ih _ (fun x hx=>h x (by simp [hx]))]
  congr 1
  push_cast
  rw [e]
theorem offL_mono:∀(L:List MemD) (a:Nat),a≤L.foldl (fun a m=>a+szM m) a:=by
 intro L
 induction L with
 | nil=>intro a;exact Nat.le_refl _
 | cons m L ih=>intro a;rw [List.foldl_cons];exact Nat.le_trans (Nat.le_add_right ..) (ih _)
theorem offM_le (n:NetD) (k:Nat):offM n k≤offL n.mems:=by
 unfold offM offL
 conv=>rhs;rw [←List.take_append_drop k n.mems,List.foldl_append]
 exact offL_mono _ _
theorem drop_more (l:List Bool) (i w:Nat):(l.drop i).drop w=l.drop (i+w):=by rw [List.drop_drop]
theorem bk_tab {w a N:Nat} {l:List Bool} (ha:a<N) (h:N*w≤l.length):w≤(l.drop (a*w)).length:=by
 have:(a+1)*w≤N*w:=Nat.mul_le_mul_right _ (by omega)
 rw [Nat.succ_mul] at this
 rw [List.length_drop]
 omega
theorem room_cells (c:List CellT) (d:CellT) (h:c.length≤1000):room 16 (List.length (c++[d]))=true:=by
 rw [List.length_append,List.length_cons,List.length_nil]
 exact Za3a (by omega) (by omega)
theorem room_rows (c:List (List CellT)) (d:List CellT) (h:c.length≤1000):room 24 (List.length (c++[d]))=true:=by
 rw [List.length_append,List.length_cons,List.length_nil]
 exact Za3a (by omega) (by omega)
theorem bk_16 {m:MemD} (hm:Small m) (T:List (Sh.T Za1)) (L K:Int) (b1:List Bool) (b2:List (List CellT)) (an:Bool) (rs:List (Sh.T Zb3)) (ws:List (Sh.T Zb8)) (rest:List Bool) (hr:szM m≤rest.length) :
  expand_Back_L16 (rest,(T,(L,(K,(((2^m.addr.toNat:Nat):Int),((0:Int),(b1,(b2,(m.addr,(m.word,(an,(rs,(ws,([],())))))))))))))) =
   some (rest.drop (szM m),(T,(L,(K,(b1,(b2,(bkC m.word.toNat rest (2^m.addr.toNat),()))))))):=by
 have hcn:=hm.cnt
 have hw1:=hm.w1
 have hw2:=hm.w2
 unfold szM at hr
 unfold expand_Back_L16;delta u14
 refine Zif (fun a:Nat=>(rest.drop (a*m.word.toNat),(T,(L,(K,(((2^m.addr.toNat:Nat):Int),((a:Int),(b1,(b2,(m.addr,(m.word,(an,(rs,(ws,(bkC m.word.toNat rest a,()))))))))))))))) (2^m.addr.toNat) (by (have h:rest.drop (0*m.word.toNat)=rest:=by rw [Nat.zero_mul];rfl);dsimp only;rw [h];try rfl) ?_ ?_ (Ze8 (by omega))
 ·intro a ha
  have hlen:=bk_tab (w:=m.word.toNat) ha hr
  have e1:bits_Word_FF (List.take (Int.toNat m.word) (rest.drop (a*m.word.toNat)),())=some ((cellAt m.word.toNat rest a:Int),()):=bits_Word_is _ (take_le (by omega))
  have hb:both (iE (0:Int) m.word) (iE m.word (Int.ofNat (List.length (rest.drop (a*m.word.toNat)))))=true:=bothT (dec_t (by omega)) (dec_t (show m.word≤((List.length (rest.drop (a*m.word.toNat)):Nat):Int) by omega))
  have hd:List.drop (Int.toNat m.word) (rest.drop (a*m.word.toNat))=rest.drop ((a+1)*m.word.toNat):=by rw [drop_more,Nat.succ_mul]
  have hl:=bkC_len m.word.toNat rest a
  have hst:=bkC_succ m.word.toNat rest a
  have e:∀(r r':List Bool) (p q:Int) (c c':List CellT),r=r'→p=q→c=c'→(some (.inl (r,(T,(L,(K,(((2^m.addr.toNat:Nat):Int),(p,(b1,(b2,(m.addr,(m.word,(an,(rs,(ws,(c,()))))))))))))))):Option (TL expand_Back_lay16.σs⊕Out expand_Back_outs16))=some (.inl (r',(T,(L,(K,(((2^m.addr.toNat:Nat):Int),(q,(b1,(b2,(m.addr,(m.word,(an,(rs,(ws,(c',()))))))))))))))):=by rintro _ _ _ _ _ _ rfl rfl rfl;rfl
  have hu:IntKind.wrap .u64 ((a:Int)+1)=((a+1:Nat):Int):=u64w (x:=(a:Int)+1) (by omega)
  by_cases q:cellAt m.word.toNat rest a=0
  ·rw [if_pos q,List.append_nil] at hst
   exact br_tt (dec_t (show (a:Int)<((2^m.addr.toNat:Nat):Int) by omega)) (Zaj hb (Zba e1 (br_ff (not_f (dec_t (show ((cellAt m.word.toNat rest a:Nat):Int)=0 by omega))) (Zaj hb (e _ _ _ _ _ _ hd hu hst.symm)))))
  ·rw [if_neg q] at hst
   exact br_tt (dec_t (show (a:Int)<((2^m.addr.toNat:Nat):Int) by omega)) (Zaj hb (Zba e1 (br_tt (not_t (dec_f (show ¬((cellAt m.word.toNat rest a:Nat):Int)=0 by omega))) (Zaj (show room 16 (List.length (bkC m.word.toNat rest a++[((a:Int),((cellAt m.word.toNat rest a:Int),()))]))=true from room_cells _ _ (by omega)) (Zaj hb (e _ _ _ _ _ _ hd hu hst.symm))))))
 ·exact br_ff (dec_f (show ¬((2^m.addr.toNat:Nat):Int)<((2^m.addr.toNat:Nat):Int) by omega)) rfl
section
variable {n:NetD} {V:Nat} (hs:Snd n V)
include hs
theorem bk_12 (hsm:∀m∈n.mems,Small m) (lat:List Bool) (rest:List Bool) (hr:offL n.mems≤rest.length) :
  expand_Back_L12 (rest,(n.mems.map memT,(((n.mems.map memT).length:Int),((0:Int),(lat,([],()))))))=some (lat,(bkM n rest n.mems.length,())):=by
 have hM:=hs.lens.2.2.2.2
 have hL:((n.mems.map memT).length:Int)=(n.mems.length:Int):=by rw [List.length_map]
 unfold expand_Back_L12;delta u6
 refine Zif (fun k:Nat=>(rest.drop (offM n k),(n.mems.map memT,(((n.mems.map memT).length:Int),((k:Int),(lat,(bkM n rest k,()))))))) n.mems.length (by (have h:rest.drop (offM n 0)=rest:=rfl);dsimp only;(try rw [h]);try rfl) ?_ ?_ (Ze8 (by omega))
 ·intro k hk
  obtain ⟨m,hm⟩:∃m,n.mems[k]?=some m:=⟨_,List.getElem?_eq_getElem hk⟩
  have sm:=hsm m (List.mem_of_getElem? hm)
  have hm':(n.mems.map memT)[k]?=some (memT m):=by rw [List.getElem?_map,hm];rfl
  have g1:gt Za1 (n.mems.map memT) (k:Int)=memT m:=gt_at (σ:=Za1) hm'
  have ho:=offM_succ n hm
  have ho2:=offM_le n (k+1)
  have e16:=bk_16 sm (n.mems.map memT) ((n.mems.map memT).length:Int) (k:Int) lat (bkM n rest k) m.any (m.reads.map readT) (m.writes.map Zt4) (rest.drop (offM n k)) (by rw [List.length_drop];omega)
  have e16':expand_Back_L16 (rest.drop (offM n k),(n.mems.map memT,(((n.mems.map memT).length:Int),((k:Int),((IntKind.wrap .u64 ((1:Int)*(HPow.hPow (2:Int) (Min.min (Int.toNat (gt Za1 (n.mems.map memT) (k:Int)).1) 64)))),((0:Int),(lat,(bkM n rest k,((gt Za1 (n.mems.map memT) (k:Int)).1,((gt Za1 (n.mems.map memT) (k:Int)).2.1,((gt Za1 (n.mems.map memT) (k:Int)).2.2.1,((gt Za1 (n.mems.map memT) (k:Int)).2.2.2.1,((gt Za1 (n.mems.map memT) (k:Int)).2.2.2.2.1,([],())))))))))))))) =
    some ((rest.drop (offM n k)).drop (szM m),(n.mems.map memT,(((n.mems.map memT).length:Int),((k:Int),(lat,(bkM n rest k,(bkC m.word.toNat (rest.drop (offM n k)) (2^m.addr.toNat),()))))))):=by
   rw [g1]
   have:=addr_pow sm
   show expand_Back_L16 (rest.drop (offM n k),(n.mems.map memT,(((n.mems.map memT).length:Int),((k:Int),((IntKind.wrap .u64 ((1:Int)*(HPow.hPow (2:Int) (Min.min (Int.toNat m.addr) 64)))),_)))))=_
   rw [this]
   exact e16
  have hc0:iE (0:Int) (gt Za1 (n.mems.map memT) (k:Int)).1=true:=dec_t (by rw [g1];have:=sm.a1;show (0:Int)≤m.addr;omega)
  have hd:(rest.drop (offM n k)).drop (szM m)=rest.drop (offM n (k+1)):=by rw [drop_more,ho]
  have hroom:=room_rows (bkM n rest k) (bkC m.word.toNat (rest.drop (offM n k)) (2^m.addr.toNat)) (by rw [bkM_len];omega)
  have e:∀(r r':List Bool) (p q:Int) (c c':List (List CellT)),r=r'→p=q→c=c'→(some (.inl (r,(n.mems.map memT,(((n.mems.map memT).length:Int),(p,(lat,(c,()))))))):Option (TL expand_Back_lay12.σs⊕Out expand_Back_outs12))=some (.inl (r',(n.mems.map memT,(((n.mems.map memT).length:Int),(q,(lat,(c',()))))))):=by rintro _ _ _ _ _ _ rfl rfl rfl;rfl
  exact br_tt (dec_t (show (k:Int)<((n.mems.map memT).length:Int) by omega)) (Zaj (show inb (k:Int) (List.length (n.mems.map memT))=true from Zar ⟨by omega,by omega⟩) (Zaj hc0 (Zba e16' (Zaj hroom (e _ _ _ _ _ _ hd (i64n (show (k:Int)+1=((k+1:Nat):Int) by omega) (by omega)) (bkM_succ n rest hm).symm)))))
 ·exact br_ff (dec_f (show ¬(n.mems.length:Int)<((n.mems.map memT).length:Int) by omega)) rfl
theorem rb_15 {k:Nat} {m:MemD} (hmk:n.mems[k]?=some m) (hm:Small m) (b3:List Bool) (b4:List (List CellT)) (rest:List Bool) (hr:szM m≤rest.length) :
  astrariumref13_Back_L15 (rest,((k:Int),((0:Int),nt n (b3,(b4,([],()))))))=some (rest.drop (szM m),((k:Int),nt n (b3,(b4,(bkC m.word.toNat rest (2^m.addr.toNat),()))))):=by
 have hcn:=hm.cnt
 have hw1:=hm.w1
 have hw2:=hm.w2
 have hk:=Zhb hmk
 have hM:=hs.lens.2.2.2.2
 have hm':(n.mems.map memT)[k]?=some (memT m):=by rw [List.getElem?_map,hmk];rfl
 have g1:gt Za1 (n.mems.map memT) (k:Int)=memT m:=gt_at (σ:=Za1) hm'
 have gw:(gt Za1 (n.mems.map memT) (k:Int)).2.1=m.word:=by rw [g1];rfl
 have hin:inb (k:Int) (List.length (n.mems.map memT))=true:=Zar ⟨by omega,by rw [List.length_map];omega⟩
 have a1:=hm.a1
 have a2:=hm.a2
 have hfit:∀j:Nat,j≤2^m.addr.toNat→Zdg ((j:Int),((gt Za1 (n.mems.map memT) (k:Int)).1,()))=some (decide (j<2^m.addr.toNat),()):=by
  intro j hj
  rw [g1]
  have:=Zvi (v:=(j:Int)) (w:=m.addr) ⟨by omega,by omega⟩ ⟨by omega,by omega⟩
  refine this.trans ?_
  have e:∀p q:Bool,p=q→(some (p,()):Option (TL Zgq))=some (q,()):=by rintro _ _ rfl;rfl
  refine e _ _ ?_
  unfold fitB2
  have hp:((2^m.addr.toNat:Nat):Int)=(2:Int)^m.addr.toNat:=by push_cast;rfl
  by_cases q:j<2^m.addr.toNat
  ·rw [decide_eq_true q,decide_eq_true]
   exact Int.ediv_eq_zero_of_lt (by omega) (by omega)
  ·obtain rfl:j=2^m.addr.toNat:=by omega
   rw [decide_eq_false q,hp,decide_eq_false]
   have h2:(2:Int)^m.addr.toNat≠0:=by have:=hm.nat.2;rw [←hp];omega
   rw [Int.ediv_self h2]
   omega
 unfold szM at hr
 unfold astrariumref13_Back_L15;delta u14
 refine Zif (fun a:Nat=>(rest.drop (a*m.word.toNat),((k:Int),((a:Int),nt n (b3,(b4,(bkC m.word.toNat rest a,()))))))) (2^m.addr.toNat) (by (have h:rest.drop (0*m.word.toNat)=rest:=by rw [Nat.zero_mul];rfl);dsimp only;rw [h];try rfl) ?_ ?_ (Ze8 (by omega))
 ·intro a ha
  have e0:=hfit a (by omega)
  rw [decide_eq_true ha] at e0
  have hlen:=bk_tab (w:=m.word.toNat) ha hr
  have e1:Zavw (List.take (Int.toNat (gt Za1 (n.mems.map memT) (k:Int)).2.1) (rest.drop (a*m.word.toNat)),())=some ((cellAt m.word.toNat rest a:Int),()):=by
   rw [gw];exact Zba0 _ (take_le (by omega))
  have hb:both (iE (0:Int) (gt Za1 (n.mems.map memT) (k:Int)).2.1) (iE (gt Za1 (n.mems.map memT) (k:Int)).2.1 (Int.ofNat (List.length (rest.drop (a*m.word.toNat)))))=true:=by
   rw [gw];exact bothT (dec_t (by omega)) (dec_t (show m.word≤((List.length (rest.drop (a*m.word.toNat)):Nat):Int) by omega))
  have hd:List.drop (Int.toNat (gt Za1 (n.mems.map memT) (k:Int)).2.1) (rest.drop (a*m.word.toNat))=rest.drop ((a+1)*m.word.toNat):=by rw [gw,drop_more,Nat.succ_mul]
  have hl:=bkC_len m.word.toNat rest a
  have hst:=bkC_succ m.word.toNat rest a
  have e:∀(r r':List Bool) (p q:Int) (c c':List CellT),r=r'→p=q→c=c'→(some (.inl (r,((k:Int),(p,nt n (b3,(b4,(c,()))))))):Option (TL astrariumref13_Back_lay15.σs⊕Out astrariumref13_Back_outs15))=some (.inl (r',((k:Int),(q,nt n (b3,(b4,(c',()))))))):=by rintro _ _ _ _ _ _ rfl rfl rfl;rfl
  have hu:IntKind.wrap .u64 ((a:Int)+1)=((a+1:Nat):Int):=u64w (x:=(a:Int)+1) (by omega)
  by_cases q:cellAt m.word.toNat rest a=0
  ·rw [if_pos q,List.append_nil] at hst
   exact Zaj hin (Zba e0 (br_tt rfl (Zaj hin (Zaj hb (Zba e1 (Zaj hin (Zaj hb (br_ff (not_f (dec_t (show ((cellAt m.word.toNat rest a:Nat):Int)=0 by omega))) (e _ _ _ _ _ _ hd hu hst.symm)))))))))
  ·rw [if_neg q] at hst
   exact Zaj hin (Zba e0 (br_tt rfl (Zaj hin (Zaj hb (Zba e1 (Zaj hin (Zaj hb (br_tt (not_t (dec_f (show ¬((cellAt m.word.toNat rest a:Nat):Int)=0 by omega))) (Zaj (show room 16 (List.length (bkC m.word.toNat rest a++[((a:Int),((cellAt m.word.toNat rest a:Int),()))]))=true from room_cells _ _ (by omega)) (e _ _ _ _ _ _ hd hu hst.symm))))))))))
 ·have e0:=hfit (2^m.addr.toNat) (Nat.le_refl _)
  rw [decide_eq_false (by omega)] at e0
  exact Zaj hin (Zba e0 (br_ff rfl rfl))
theorem rb_11 (hsm:∀m∈n.mems,Small m) (lat:List Bool) (rest:List Bool) (hr:offL n.mems≤rest.length) :
  astrariumref13_Back_L11 (rest,((0:Int),nt n (lat,([],()))))=some (lat,(bkM n rest n.mems.length,())):=by
 have hM:=hs.lens.2.2.2.2
 have hL:((n.mems.map memT).length:Int)=(n.mems.length:Int):=by rw [List.length_map]
 unfold astrariumref13_Back_L11;delta u12
 refine Zif (fun k:Nat=>(rest.drop (offM n k),((k:Int),nt n (lat,(bkM n rest k,()))))) n.mems.length (by (have h:rest.drop (offM n 0)=rest:=rfl);dsimp only;(try rw [h]);try rfl) ?_ ?_ (Ze8 (by omega))
 ·intro k hk
  obtain ⟨m,hm⟩:∃m,n.mems[k]?=some m:=⟨_,List.getElem?_eq_getElem hk⟩
  have sm:=hsm m (List.mem_of_getElem? hm)
  have ho:=offM_succ n hm
  have ho2:=offM_le n (k+1)
  have e15:=rb_15 hs hm sm lat (bkM n rest k) (rest.drop (offM n k)) (by rw [List.length_drop];omega)
  have hd:(rest.drop (offM n k)).drop (szM m)=rest.drop (offM n (k+1)):=by rw [drop_more,ho]
  have hroom:=room_rows (bkM n rest k) (bkC m.word.toNat (rest.drop (offM n k)) (2^m.addr.toNat)) (by rw [bkM_len];omega)
  have e:∀(r r':List Bool) (p q:Int) (c c':List (List CellT)),r=r'→p=q→c=c'→(some (.inl (r,(p,nt n (lat,(c,()))))):Option (TL astrariumref13_Back_lay11.σs⊕Out astrariumref13_Back_outs11))=some (.inl (r',(q,nt n (lat,(c',()))))):=by rintro _ _ _ _ _ _ rfl rfl rfl;rfl
  exact br_tt (dec_t (show (k:Int)<((n.mems.map memT).length:Int) by omega)) (Zba e15 (Zaj hroom (e _ _ _ _ _ _ hd (i64n (show (k:Int)+1=((k+1:Nat):Int) by omega) (by omega)) (bkM_succ n rest hm).symm)))
 ·exact br_ff (dec_f (show ¬(n.mems.length:Int)<((n.mems.map memT).length:Int) by omega)) rfl
end
def bkR (n:NetD) (ls:List Bool) (cs:List (List CellT)):Int×(List Bool×List (List CellT)):=
 if Pl.Zkz n≠0 then (Pl.Zkz n,([],[])) else if 64<cellsN n then (17,([],[])) else
 if (ls.length:Int)=(n.latches.length:Int)+cellsN n∧cs.length=0 then (0,(ls.take n.latches.length,bkM n (ls.drop n.latches.length) n.mems.length)) else (14,([],[]))
section
variable {n:NetD} (ft:Fit n)
include ft
theorem back_is13 (ls:List Bool) (cs:List (List CellT)) (hl:ls.length≤100000) :
  expand_Back_FF (netT n,((ls,(cs,())),()))=some (((bkR n ls cs).2.1,((bkR n ls cs).2.2,())),((bkR n ls cs).1,())) ∧
  astrariumref13_Back_FF (netT n,((ls,(cs,())),()))=some (((bkR n ls cs).2.1,((bkR n ls cs).2.2,())),((bkR n ls cs).1,())):=by
 have c1:=Zq6 ft
 have c2:=Zxe ft
 have d1:=cells_is ft
 have d2:=cells13_is ft
 have hla:=ft.lat.1
 have hL:((n.latches.map latT).length:Int)=(n.latches.length:Int):=by rw [List.length_map]
 unfold bkR
 by_cases hc:Pl.Zkz n=0
 ·rw [if_neg (fun q=>q hc)]
  by_cases h1:64<cellsN n
  ·rw [if_pos h1]
   exact ⟨Zba c1 (br_ff (not_f (dec_t hc)) (Zba d1 (br_tt (dec_t h1) rfl))),Zba c2 (br_ff (not_f (dec_t hc)) (Zba d2 (br_tt (dec_t h1) rfl)))⟩
  ·rw [if_neg h1]
   obtain ⟨V,hs,hcl2⟩:=snd_c hc
   have hsm:=small_of hs (by rw [←hcl2];omega)
   have hsum:((offL n.mems:Nat):Int)=sumP n.mems:=offL_sum n.mems 0 hsm
   have hcells:cellsN n=sumP n.mems:=by
    rw [hcl2]
    unfold cutT
    rw [hcl2] at h1
    unfold cutT at h1
    split at h1
    ·omega
    ·rename_i q;rw [if_neg q]
   have hw:IntKind.wrap .i64 (((n.latches.map latT).length:Int)+cellsN n)=(n.latches.length:Int)+cellsN n:=by rw [hL];exact i64w (by omega)
   by_cases h2:(ls.length:Int)=(n.latches.length:Int)+cellsN n
   ·by_cases h3:cs.length=0
    ·rw [if_pos ⟨h2,h3⟩]
     have hdl:offL n.mems≤(ls.drop n.latches.length).length:=by rw [List.length_drop];omega
     have f1:=bk_12 hs hsm (ls.take n.latches.length) (ls.drop n.latches.length) hdl
     have f2:=rb_11 hs hsm (ls.take n.latches.length) (ls.drop n.latches.length) hdl
     have tn:Int.toNat (Int.ofNat (List.length (n.latches.map latT)))=n.latches.length:=by show (n.latches.map latT).length=_;rw [List.length_map]
     have b2:not (iQ (Int.ofNat (List.length ls)) (IntKind.wrap .i64 (((n.latches.map latT).length:Int)+cellsN n)))=false:=not_f (dec_t (by rw [hw];exact h2))
     have b3:selB false true (iL (0:Int) (Int.ofNat (List.length cs)))=false:=dec_f (show ¬(0:Int)<((cs.length:Nat):Int) by omega)
     have b4:selB false true (not (iQ (Int.ofNat (List.length cs)) (0:Int)))=false:=not_f (dec_t (show ((cs.length:Nat):Int)=0 by omega))
     have b5:both (iE (0:Int) (Int.ofNat (List.length (n.latches.map latT)))) (iE (Int.ofNat (List.length (n.latches.map latT))) (Int.ofNat (List.length ls)))=true:=bothT (dec_t (show (0:Int)≤(((n.latches.map latT).length:Nat):Int) by omega)) (dec_t (show (((n.latches.map latT).length:Nat):Int)≤((ls.length:Nat):Int) by omega))
     have tk:(ls.take n.latches.length).length≤100000:=by rw [List.length_take];omega
     have hcb:Zaj8 (List.take (Int.toNat (Int.ofNat (List.length (n.latches.map latT)))) ls,())=some (ls.take n.latches.length,()):=by
      rw [tn]
      exact Zaj (roomN' _ tk) rfl
     have f1':expand_Back_L12 (List.drop (Int.toNat (Int.ofNat (List.length (n.latches.map latT)))) ls,(n.mems.map memT,(((n.mems.map memT).length:Int),((0:Int),(ls.take n.latches.length,([],()))))))=some (ls.take n.latches.length,(bkM n (ls.drop n.latches.length) n.mems.length,())):=by rw [tn];exact f1
     have f2':astrariumref13_Back_L11 (List.drop (Int.toNat (Int.ofNat (List.length (n.latches.map latT)))) ls,((0:Int),nt n ([]++List.take (Int.toNat (Int.ofNat (List.length (n.latches.map latT)))) ls,([],()))))=some (ls.take n.latches.length,(bkM n (ls.drop n.latches.length) n.mems.length,())):=by rw [tn];exact f2
     have hroom:room 1 (List.length ([]++List.take (Int.toNat (Int.ofNat (List.length (n.latches.map latT)))) ls))=true:=by rw [tn];exact roomN' _ tk
     exact ⟨Zba c1 (br_ff (not_f (dec_t hc)) (Zba d1 (br_ff (dec_f h1) (br_ff b2 (br_ff b3 (Zaj b5 (Zba hcb (Zaj b5 (Zba f1' rfl))))))))),
      Zba c2 (br_ff (not_f (dec_t hc)) (Zba d2 (br_ff (dec_f h1) (Zba d2 (br_ff b2 (br_ff b4 (Zaj b5 (Zaj hroom (Zaj b5 (Zba f2' rfl))))))))))⟩
    ·rw [if_neg (fun q=>h3 q.2)]
     have b2:not (iQ (Int.ofNat (List.length ls)) (IntKind.wrap .i64 (((n.latches.map latT).length:Int)+cellsN n)))=false:=not_f (dec_t (by rw [hw];exact h2))
     have b3:selB false true (iL (0:Int) (Int.ofNat (List.length cs)))=true:=dec_t (show (0:Int)<((cs.length:Nat):Int) by omega)
     have b4:selB false true (not (iQ (Int.ofNat (List.length cs)) (0:Int)))=true:=not_t (dec_f (show ¬((cs.length:Nat):Int)=0 by omega))
     exact ⟨Zba c1 (br_ff (not_f (dec_t hc)) (Zba d1 (br_ff (dec_f h1) (br_ff b2 (br_tt b3 rfl))))),
      Zba c2 (br_ff (not_f (dec_t hc)) (Zba d2 (br_ff (dec_f h1) (Zba d2 (br_ff b2 (br_tt b4 rfl))))))⟩
   ·rw [if_neg (fun q=>h2 q.1)]
    have b2:not (iQ (Int.ofNat (List.length ls)) (IntKind.wrap .i64 (((n.latches.map latT).length:Int)+cellsN n)))=true:=not_t (dec_f (by rw [hw];exact h2))
    exact ⟨Zba c1 (br_ff (not_f (dec_t hc)) (Zba d1 (br_ff (dec_f h1) (br_tt b2 rfl)))),
     Zba c2 (br_ff (not_f (dec_t hc)) (Zba d2 (br_ff (dec_f h1) (Zba d2 (br_tt b2 rfl)))))⟩
 ·rw [if_pos hc]
  exact ⟨Zba c1 (br_tt (not_t (dec_f hc)) rfl),Zba c2 (br_tt (not_t (dec_f hc)) rfl)⟩
end
end Go.Proofs.Ytnocaehijdmkkaa.V
end
section
namespace Go.Proofs.Ytnocaehijdmkkaa.V
open Go Go.RowKit
set_option maxRecDepth 1000000
abbrev astrariumlaw13_ExpandStates_σs:List Sh:=[Za5,Zab,Zab]
abbrev astrariumlaw13_ExpandStates_τs:List Sh:=[.bool]
abbrev astrariumlaw13_ExpandStates_T:=TL astrariumlaw13_ExpandStates_σs→Option (TL astrariumlaw13_ExpandStates_τs)
abbrev astrariumlaw13_ExpandStates_D:=Kd 5 astrariumlaw13_ExpandStates_σs astrariumlaw13_ExpandStates_τs
def astrariumlaw13_ExpandStates_F (F0:Zalg) (F1:astrariumref13_Cells_T) (F2:expand_Cells_T) (F3:astrariumref13_Back_T) (F4:expand_Back_T) (F5:astrariumref13_State_T) (F6:astrariumlaw13_alive_T) (F7:Zakq) (F8:expand_State_T) (a0:Sh.T Za5) (a1 a2:Sh.T Zab):Option (TL astrariumlaw13_ExpandStates_τs):=
 bnd (F7 (a0,(a1,([],())))) fun x0=>
 br (Bool.not x0.1)
 (
  bnd (F6 ()) fun x1=>
  some (x1.1,()))
 (
  bnd (F7 (a0,(a2,([],())))) fun x1=>
  br (selB false true (Bool.not x1.1))
  (
   bnd (F6 ()) fun x2=>
   some (x2.1,()))
  (
   bnd (F8 (a0.1,(a0.2.1,(a0.2.2.1,(a0.2.2.2.1,(a0.2.2.2.2.1,(a0.2.2.2.2.2.1,(a0.2.2.2.2.2.2.1,(a0.2.2.2.2.2.2.2.1,a1))))))))) fun x2=>
   bnd (F5 (a0,(a1,()))) fun x3=>
   bnd (F4 (a0,(a2,()))) fun x4=>
   bnd (F3 (a0,(a2,()))) fun x5=>
   bnd (F2 (a0,())) fun x6=>
   bnd (F1 (a0,())) fun x7=>
   br (iQ x6.1 x7.1)
   (
    bnd (F0 ((x2.2.1,([],())),((x3.1.1,(x3.1.2.1,())),()))) fun x8=>
    br (selB true x8.1 false)
    (
     br (selB true (iQ x2.1 x3.2.1) false)
     (
      bnd (F0 ((x4.1.1,(x4.1.2.1,())),((x5.1.1,(x5.1.2.1,())),()))) fun x9=>
      br (selB true x9.1 false)
      (
       br (selB true (iQ x4.2.1 x5.2.1) false)
       (
        bnd (F6 ()) fun x10=>
        some ((selB true x10.1 false),()))
       (
        some (false,())))
      (
       some (false,())))
     (
      some (false,())))
    (
     some (false,())))
   (
    some (false,()))))
def astrariumlaw13_ExpandStates_G (c0:Zaec) (c1:astrariumref13_Cells_D) (c2:expand_Cells_D) (c3:astrariumref13_Back_D) (c4:expand_Back_D) (c5:astrariumref13_State_D) (c6:astrariumlaw13_alive_D) (c7:Zadr) (c8:expand_State_D) :astrariumlaw13_ExpandStates_D:=⟨u3 (astrariumlaw13_ExpandStates_F c0.F c1.F c2.F c3.F c4.F c5.F c6.F c7.F c8.F),pD Try.func5 78 (kD c0 (kD c1 (kD c2 (kD c3 (kD c4 (kD c5 (kD c6 (kD c7 (kB c8 k0))))))))) e0 1 (sS l0) fun d=>by kernel_rfl⟩
def astrariumlaw13_ExpandStates_K:astrariumlaw13_ExpandStates_D:=astrariumlaw13_ExpandStates_G Zalh astrariumref13_Cells_K expand_Cells_K astrariumref13_Back_K expand_Back_K astrariumref13_State_K astrariumlaw13_alive_K Zakr expand_State_K 
def astrariumlaw13_ExpandStates_FF:astrariumlaw13_ExpandStates_T:=astrariumlaw13_ExpandStates_K.F
end Go.Proofs.Ytnocaehijdmkkaa.V
end
section
namespace Go.Proofs.Ytnocaehijdmkkaa.V
open Go Go.RowKit
open Go.Proofs.Ytnocaehijdmkkaa.Pl
section
variable {n:NetD} (ft:Fit n)
include ft
theorem stR_len (ls:List Bool) (cs:List (List CellT)) (hl:ls.length≤200):(stR n ls cs).2.length≤100000:=by
 unfold stR
 by_cases h0:fitsF (netT n) (ls,(cs,()))=0
 ·rw [if_neg (fun q=>q h0)]
  obtain ⟨hc,hf⟩:=fits0 h0
  obtain ⟨V,hs,hcl2⟩:=snd_c hc
  by_cases h1:64<cellsN n
  ·rw [if_pos h1];exact Nat.zero_le _
  ·rw [if_neg h1]
   have hsm:=small_of hs (by rw [←hcl2];omega)
   have hcs:cs.length=n.mems.length:=by
    unfold fitsS at hf
    simp only [Bool.and_eq_true,decide_eq_true_eq] at hf
    exact hf.1.2.trans (List.length_map ..)
   have hM:=hs.lens.2.2.2.2
   have:=stB_len ls cs hsm n.mems.length (Nat.le_refl _) (Nat.le_of_eq hcs.symm)
   show (stB n ls cs n.mems.length).length≤_
   omega
 ·rw [if_pos h0];exact Nat.zero_le _
theorem bkR_len (ls:List Bool) (cs:List (List CellT)) (hl:ls.length≤200):(bkR n ls cs).2.1.length≤100000∧(bkR n ls cs).2.2.length≤100000∧∀c∈(bkR n ls cs).2.2,c.length≤100000:=by
 unfold bkR
 by_cases hc:Pl.Zkz n=0
 ·rw [if_neg (fun q=>q hc)]
  by_cases h1:64<cellsN n
  ·rw [if_pos h1];exact ⟨Nat.zero_le _,Nat.zero_le _,fun c h=>by cases h⟩
  ·rw [if_neg h1]
   obtain ⟨V,hs,hcl2⟩:=snd_c hc
   have hsm:=small_of hs (by rw [←hcl2];omega)
   have hM:=hs.lens.2.2.2.2
   by_cases h2:(ls.length:Int)=(n.latches.length:Int)+cellsN n∧cs.length=0
   ·rw [if_pos h2]
    refine ⟨?_,?_,?_⟩
    ·show (ls.take n.latches.length).length≤_
     rw [List.length_take];omega
    ·show (bkM n (ls.drop n.latches.length) n.mems.length).length≤_
     rw [bkM_len];omega
    ·intro c hc
     have hc:c∈bkM n (ls.drop n.latches.length) n.mems.length:=hc
     unfold bkM at hc
     obtain ⟨i,hi,rfl⟩:=List.mem_map.1 hc
     have hi:=List.mem_range.1 hi
     have hx:=List.getElem?_eq_getElem hi
     have hg:n.mems.getD i mz=n.mems[i]:=by rw [List.getD_eq_getElem?_getD,hx];rfl
     rw [hg]
     have:=(hsm _ (List.getElem_mem hi)).cnt
     exact Nat.le_trans (bkC_len _ _ _) (by omega)
   ·rw [if_neg h2];exact ⟨Nat.zero_le _,Nat.zero_le _,fun c h=>by cases h⟩
 ·rw [if_pos hc];exact ⟨Nat.zero_le _,Nat.zero_le _,fun c h=>by cases h⟩
end
theorem hcl_of {cs:List (List CellT)} (h:∀i:Nat,i<cs.length→cLen cs (i:Int)≤100):∀c∈cs,c.length≤100000:=by
 intro c hc
 obtain ⟨i,hi⟩:=List.getElem?_of_mem hc
 have:=h i (Zhb hi)
 have hg:gt (.sl Za3) cs (i:Int)=c:=gt_at (σ:=.sl Za3) hi
 unfold cLen at this
 rw [hg] at this
 exact Nat.le_trans this (by omega)
theorem expandStates_is (d:Za5.T) (s t:Zab.T) (hd:okD Za5 d) (hs:okD Zab s) (ht:okD Zab t):astrariumlaw13_ExpandStates_FF (d,(s,(t,())))=some (true,()):=by
 obtain ⟨ls,cs,⟨⟩⟩:=s
 obtain ⟨lt,ct,⟨⟩⟩:=t
 obtain ⟨b,e,h⟩:=Za6b d ls cs []
 obtain ⟨b',e',h'⟩:=Za6b d lt ct []
 have al:astrariumlaw13_alive_FF ()=some (true,()):=rfl
 cases b with
 | false=>exact Zba e (br_tt rfl (Zba al rfl))
 | true=>
 cases b' with
 | false=>exact Zba e (br_ff rfl (Zba e' (br_tt rfl (Zba al rfl))))
 | true=>
  obtain ⟨hl,l1,l2,_,l4,_⟩:=h rfl
  obtain ⟨_,m1,m2,_,m4,_⟩:=h' rfl
  have ft:=fit_of hd hl
  obtain ⟨n,rfl⟩:∃n,d=netT n:=⟨netD d,(Zri d).symm⟩
  rw [Zww] at ft
  have hcl:=hcl_of l4
  obtain ⟨s1,s2⟩:=state_is13 ft ls cs (okS_of hs.2.1) (by omega) hcl
  obtain ⟨b1,b2⟩:=back_is13 ft lt ct (by omega)
  have c1:=cells_is ft
  have c2:=cells13_is ft
  have r1:=Za34 (stR n ls cs).2 [] (stR_len ft ls cs l1) (Nat.zero_le _) (fun c h=>by cases h)
  obtain ⟨k1,k2,k3⟩:=bkR_len ft lt ct m1
  have r2:=Za34 (bkR n lt ct).2.1 (bkR n lt ct).2.2 k1 k2 k3
  exact Zba e (br_ff rfl (Zba e' (br_ff rfl (Zba s1 (Zba s2 (Zba b1 (Zba b2 (Zba c1 (Zba c2 (br_tt (dec_t rfl) (Zba r1 (br_tt rfl (br_tt (show selB true (iQ (stR n ls cs).1 (stR n ls cs).1) false=true from dec_t rfl) (Zba r2 (br_tt rfl (br_tt (show selB true (iQ (bkR n lt ct).1 (bkR n lt ct).1) false=true from dec_t rfl) (Zba al rfl)))))))))))))))))
end Go.Proofs.Ytnocaehijdmkkaa.V
end
