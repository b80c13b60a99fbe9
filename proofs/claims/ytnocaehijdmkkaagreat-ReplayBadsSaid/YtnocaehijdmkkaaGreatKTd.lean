import Derived.Test.YtnocaehijdmkkaaGreatKTb
import Derived.Test.YtnocaehijdmkkaaGreatKTc
set_option linter.unusedSectionVars false
set_option linter.unusedVariables false
set_option linter.unusedSimpArgs false
set_option linter.unnecessarySimpa false
section
namespace Go.Proofs.YtnocaehijdmkkaaGreat.V
open Go Go.RowKit
open Go.Proofs.YtnocaehijdmkkaaGreat.Pl
theorem Zb9v (a:Int):intEq a a=true:=decide_eq_true rfl
theorem Zb8y (a:Bool):Zbb3 a a=true:=decide_eq_true rfl
theorem Zb5i:∀l:List UInt8,Ev.Zuf l l=true
 | []=>rfl
 | x :: l=>by simp [Ev.Zuf,Zb5i l]
theorem Zb9o (a:ByteArray):Ev.strEq a a=true:=Zb5i _
mutual
theorem Sh.Zb5s:∀{σ:Sh} (a:σ.T),σ.beq a a=true
 | .int _,a=>Zb9v a
 | .bool,a=>Zb8y a
 | .str,a=>Zb9o a
 | .agg l,a=>Zb8g (l:=l) a
 | .sl s,a=>Za1l (fun x=>Sh.Zb5s x) a
theorem Zb8g:∀{l:List Sh} (a:TL l),beqL l a a=true
 | [],a=>rfl
 | s :: l,a=>by
  have h1:=Sh.Zb5s (σ:=s) a.1
  have h2:=Zb8g (l:=l) a.2
  show (match s.beq a.1 a.1 with | true=>beqL l a.2 a.2 | false=>false)=true
  rw [h1];exact h2
end
theorem roomN {a L:Nat} (ha:a≤100) (h:L≤10000000):room a L=true:=Za3a (by
 have:(2*L+192)*a≤(2*10000000+192)*100:=Nat.mul_le_mul (by omega) ha
 omega) (by omega)
theorem clI {L:List Int} (h:L.length≤1000000):Zac5 (L,())=some (L,()):=Zaj (roomN (by decide) (by show L.length≤_;omega)) rfl
theorem clL {L:List Za0.T} (h:L.length≤1000000):Zar9 (L,())=some (L,()):=Zaj (roomN (by decide) (by show L.length≤_;omega)) rfl
theorem clA {L:List Za0.T} (h:L.length≤1000000):Zats (L,())=some (L,()):=Zaj (roomN (by decide) (by show L.length≤_;omega)) rfl
theorem clM {L:List Za1.T} (h:L.length≤1000000):Zaq6 (L,())=some (L,()):=Zaj (roomN (by decide) (by show ([]++L).length≤_;rw [List.nil_append];omega)) rfl
theorem clR {L:List Zb3.T} (h:L.length≤1000000):Zadz (L,())=some (L,()):=Zaj (roomN (by decide) (by show ([]++L).length≤_;rw [List.nil_append];omega)) rfl
theorem clW {L:List Zb8.T} (h:L.length≤1000000):Zadb (L,())=some (L,()):=Zaj (roomN (by decide) (by show ([]++L).length≤_;rw [List.nil_append];omega)) rfl
theorem clB {L:List Bool} (h:L.length≤1000000):Zaj8 (L,())=some (L,()):=Zaj (roomN (by decide) (by show ([]++L).length≤_;rw [List.nil_append];omega)) rfl
theorem Zbab {σ:Sh} {L:List σ.T} {k:Nat} (h:k<L.length) {x:σ.T} (hx:x=gt σ L (k:Int)) {z:Int} (hz:z=(k:Int)):List.set L (Int.toNat z) x=L:=by
 subst hx;subst hz
 have:=gt_at (σ:=σ) (List.getElem?_eq_getElem h)
 rw [this,Int.toNat_natCast];exact List.set_getElem_self h
section
variable (i:Nat) (t41 t42 b00:Int) (b01:List Int) (b02:List Za0.T) (b03 b04 b05:List Int) (b07:List Za0.T) (b1:List Za1.T) (m0 m1:Int) (m2:Bool) (rs:List Zb3.T) (ws:List Zb8.T) (z:Int)
theorem cl13 (hr:rs.length≤1000) (hrr:∀r∈rs,r.2.1.length≤100000) :
  Zb0b ((i:Int),(t41,(t42,((rs.length:Int),((0:Int),(b00,(b01,(b02,(b03,(b04,(b05,(b07,((i:Int),(b1,(m0,(m1,(m2,(rs,(ws,(z,()))))))))))))))))))))=some ((i:Int),(t41,(t42,(b00,(b01,(b02,(b03,(b04,(b05,(b07,((i:Int),(b1,(m0,(m1,(m2,(rs,(ws,(z,())))))))))))))))))):=by
 unfold Zb0b;delta u20
 refine Zif (fun k:Nat=>((i:Int),(t41,(t42,((rs.length:Int),((k:Int),(b00,(b01,(b02,(b03,(b04,(b05,(b07,((i:Int),(b1,(m0,(m1,(m2,(rs,(ws,(z,()))))))))))))))))))))) rs.length rfl ?_ ?_ (Ze8 (by omega))
 ·intro k hk
  have hx:=List.getElem?_eq_getElem hk
  have hg:gt Zb3 rs (k:Int)=rs[k]:=gt_at (σ:=Zb3) hx
  have e1:Zac5 ((gt Zb3 rs (k:Int)).2.1,())=some ((gt Zb3 rs (k:Int)).2.1,()):=clI (by rw [hg];exact Nat.le_trans (hrr _ (List.getElem_mem hk)) (by decide))
  have e:∀(p q:Int) (A:List Zb3.T),p=q→A=rs→(some (.inl ((i:Int),(t41,(t42,((rs.length:Int),(p,(b00,(b01,(b02,(b03,(b04,(b05,(b07,((i:Int),(b1,(m0,(m1,(m2,(A,(ws,(z,()))))))))))))))))))))):Option (TL Zau4.σs⊕Out Zasp))=some (.inl ((i:Int),(t41,(t42,((rs.length:Int),(q,(b00,(b01,(b02,(b03,(b04,(b05,(b07,((i:Int),(b1,(m0,(m1,(m2,(rs,(ws,(z,()))))))))))))))))))))):=by rintro _ _ _ rfl rfl;rfl
  have hi:inb (k:Int) (List.length rs)=true:=Zar ⟨by omega,by omega⟩
  try dsimp only
  unfold Zaxu
  exact br_tt (dec_t (show (k:Int)<(rs.length:Int) by omega)) (Zaj (by show Nat.beq i i=true;simp) (Zaj (by show Nat.beq i i=true;simp) (Zaj hi (Zba e1 (Zaj hi (e _ _ _ (i64n (by omega) (by omega)) (Zbab (σ:=Zb3) hk rfl rfl)))))))
 ·try dsimp only
  unfold Zaxu
  exact br_ff (dec_f (show ¬(rs.length:Int)<(rs.length:Int) by omega)) rfl
theorem cl18 (hr:ws.length≤1000) (hrr:∀r∈ws,r.2.1.length≤100000∧r.2.2.1.length≤100000) :
  Zb0a ((i:Int),(t41,(t42,((ws.length:Int),((0:Int),(b00,(b01,(b02,(b03,(b04,(b05,(b07,((i:Int),(b1,(m0,(m1,(m2,(rs,(ws,(z,()))))))))))))))))))))=some (t41,(t42,(b00,(b01,(b02,(b03,(b04,(b05,(b07,((i:Int),(b1,(m0,(m1,(m2,(rs,(ws,(z,())))))))))))))))) ):=by
 unfold Zb0a;delta u20
 refine Zif (fun k:Nat=>((i:Int),(t41,(t42,((ws.length:Int),((k:Int),(b00,(b01,(b02,(b03,(b04,(b05,(b07,((i:Int),(b1,(m0,(m1,(m2,(rs,(ws,(z,()))))))))))))))))))))) ws.length rfl ?_ ?_ (Ze8 (by omega))
 ·intro k hk
  have hx:=List.getElem?_eq_getElem hk
  have hg:gt Zb8 ws (k:Int)=ws[k]:=gt_at (σ:=Zb8) hx
  have hb:=hrr _ (List.getElem_mem hk)
  have e1:Zac5 ((gt Zb8 ws (k:Int)).2.1,())=some ((gt Zb8 ws (k:Int)).2.1,()):=clI (by rw [hg];exact Nat.le_trans hb.1 (by decide))
  have e2:Zac5 ((gt Zb8 ws (k:Int)).2.2.1,())=some ((gt Zb8 ws (k:Int)).2.2.1,()):=clI (by rw [hg];exact Nat.le_trans hb.2 (by decide))
  have e:∀(p q:Int) (A:List Zb8.T),p=q→A=ws→(some (.inl ((i:Int),(t41,(t42,((ws.length:Int),(p,(b00,(b01,(b02,(b03,(b04,(b05,(b07,((i:Int),(b1,(m0,(m1,(m2,(rs,(A,(z,()))))))))))))))))))))):Option (TL Zau3.σs⊕Out Zaso))=some (.inl ((i:Int),(t41,(t42,((ws.length:Int),(q,(b00,(b01,(b02,(b03,(b04,(b05,(b07,((i:Int),(b1,(m0,(m1,(m2,(rs,(ws,(z,()))))))))))))))))))))):=by rintro _ _ _ rfl rfl;rfl
  have hi:inb (k:Int) (List.length ws)=true:=Zar ⟨by omega,by omega⟩
  have hs1:List.set ws (Int.toNat (k:Int)) ((gt Zb8 ws (k:Int)).1,((gt Zb8 ws (k:Int)).2.1,((gt Zb8 ws (k:Int)).2.2.1,())))=ws:=Zbab (σ:=Zb8) hk rfl rfl
  have hs2:∀A:List Zb8.T,A=ws→List.set A (Int.toNat (k:Int)) ((gt Zb8 A (k:Int)).1,((gt Zb8 A (k:Int)).2.1,((gt Zb8 ws (k:Int)).2.2.1,())))=ws:=by rintro _ rfl;exact hs1
  try dsimp only
  unfold Zaxt
  exact br_tt (dec_t (show (k:Int)<(ws.length:Int) by omega)) (Zaj (by show Nat.beq i i=true;simp) (Zaj hi (Zba e1 (Zba e2 (Zaj (dec_t rfl) (e _ _ _ (i64n (by omega) (by omega)) (hs2 _ hs1)))))))
 ·try dsimp only
  unfold Zaxt
  exact br_ff (dec_f (show ¬(ws.length:Int)<(ws.length:Int) by omega)) rfl
end
theorem cl8 {n:NetD} (ft:Fit n) (b00:Int) (b01:List Int) (b02:List Za0.T) (b03 b04 b05:List Int) (b07:List Za0.T) (z:Int) :
  Zb5h (((n.mems.map memT).length:Int),((0:Int),(b00,(b01,(b02,(b03,(b04,(b05,(b07,(n.mems.map memT,(z,())))))))))))=some (b00,(b01,(b02,(b03,(b04,(b05,(b07,(n.mems.map memT,(z,()))))))))):=by
 have hL:(n.mems.map memT).length=n.mems.length:=List.length_map ..
 have hM:=ft.mems.1
 unfold Zb5h;delta u11
 refine Zif (fun k:Nat=>(((n.mems.map memT).length:Int),((k:Int),(b00,(b01,(b02,(b03,(b04,(b05,(b07,(n.mems.map memT,(z,()))))))))))) ) n.mems.length rfl ?_ ?_ (Ze8 (by omega))
 ·intro k hk
  have hx:=List.getElem?_eq_getElem hk
  have hx':(n.mems.map memT)[k]?=some (memT n.mems[k]):=by rw [List.getElem?_map,hx];rfl
  have hf:=ft.mems.2 _ (List.getElem_mem hk)
  generalize n.mems[k]=m at hx' hf
  have hg:gt Za1 (n.mems.map memT) (k:Int)=memT m:=gt_at (σ:=Za1) hx'
  have e1:Zadz ((gt Za1 (n.mems.map memT) (k:Int)).2.2.2.1,())=some (m.reads.map readT,()):=by
   rw [hg];exact clR (by show (m.reads.map readT).length≤_;rw [List.length_map];have:=hf.rdn;omega)
  have e2:Zadb ((gt Za1 (n.mems.map memT) (k:Int)).2.2.2.2.1,())=some (m.writes.map Zt4,()):=by
   rw [hg];exact clW (by show (m.writes.map Zt4).length≤_;rw [List.length_map];have:=hf.wrn;omega)
  have e13:=cl13 k ((n.mems.map memT).length:Int) (k:Int) b00 b01 b02 b03 b04 b05 b07 (n.mems.map memT) (gt Za1 (n.mems.map memT) (k:Int)).1 (gt Za1 (n.mems.map memT) (k:Int)).2.1 (gt Za1 (n.mems.map memT) (k:Int)).2.2.1 (m.reads.map readT) (m.writes.map Zt4) z (by rw [List.length_map];have:=hf.rdn;omega) (fun r hr=>by
   obtain ⟨r2,hr2,rfl⟩:=List.mem_map.1 hr
   have:=(hf.rds r2 hr2).1
   show r2.addr.length≤_;omega)
  have e18:=cl18 k ((n.mems.map memT).length:Int) (k:Int) b00 b01 b02 b03 b04 b05 b07 (n.mems.map memT) (gt Za1 (n.mems.map memT) (k:Int)).1 (gt Za1 (n.mems.map memT) (k:Int)).2.1 (gt Za1 (n.mems.map memT) (k:Int)).2.2.1 (m.reads.map readT) (m.writes.map Zt4) z (by rw [List.length_map];have:=hf.wrn;omega) (fun r hr=>by
   obtain ⟨r2,hr2,rfl⟩:=List.mem_map.1 hr
   have:=hf.wrs r2 hr2
   exact ⟨by show r2.addr.length≤_;omega,by show r2.data.length≤_;omega⟩)
  have e:∀(p q:Int) (A:List Za1.T),p=q→A=n.mems.map memT→(some (.inl (((n.mems.map memT).length:Int),(p,(b00,(b01,(b02,(b03,(b04,(b05,(b07,(A,(z,())))))))))))) :Option (TL Zawi.σs⊕Out Zau2))=some (.inl (((n.mems.map memT).length:Int),(q,(b00,(b01,(b02,(b03,(b04,(b05,(b07,(n.mems.map memT,(z,())))))))))))) :=by rintro _ _ _ rfl rfl;rfl
  have hst:List.set (n.mems.map memT) (Int.toNat (k:Int)) ((gt Za1 (n.mems.map memT) (k:Int)).1,((gt Za1 (n.mems.map memT) (k:Int)).2.1,((gt Za1 (n.mems.map memT) (k:Int)).2.2.1,(m.reads.map readT,(m.writes.map Zt4,())))))=n.mems.map memT:=Zbab (σ:=Za1) (by omega) (by rw [hg];rfl) rfl
  have hi:inb (k:Int) (List.length (n.mems.map memT))=true:=Zar ⟨by omega,by omega⟩
  have nn:nQ (Int.toNat (k:Int)) (Int.toNat (k:Int))=true:=dec_t rfl
  have nb:Nat.beq (Int.toNat (k:Int)) (Int.toNat (k:Int))=true:=by simp
  try dsimp only
  unfold Zayj
  refine br_tt (dec_t (show (k:Int)<((n.mems.map memT).length:Int) by omega)) (Zaj hi (Zba e1 (Zaj nn (Zaj nn (Zaj nn (Zaj nn (Zaj nn (Zaj (Za1l (fun x=>Sh.Zb5s x) _) (Zba e2 (Zaj nn (Zaj nn (Zaj nn (Zaj nb (Zaj nb (Zba e13 (Zaj nb (Zba e18 (e _ _ _ (i64n (show (k:Int)+1=((k+1:Nat):Int) by omega) (by omega)) hst))))))))))))))))))
 ·try dsimp only
  unfold Zayj
  exact br_ff (dec_f (show ¬(n.mems.length:Int)<((n.mems.map memT).length:Int) by omega)) rfl
theorem clone_is {n:NetD} (ft:Fit n):Zb85 (netT n,())=some (netT n,()):=by
 have e1:=clI (L:=n.inputs) (by have:=ft.ins.1;omega)
 have e2:=clI (L:=n.outputs) (by have:=ft.out.1;omega)
 have e3:=clI (L:=n.bads) (by have:=ft.bad.1;omega)
 have e4:=clI (L:=n.constraints) (by have:=ft.con.1;omega)
 have e5:=clL (L:=n.latches.map latT) (by rw [List.length_map];have:=ft.lat.1;omega)
 have e6:=clA (L:=n.ands.map andT) (by rw [List.length_map];have:=ft.ands.1;omega)
 have e7:=clM (L:=n.mems.map memT) (by rw [List.length_map];have:=ft.mems.1;omega)
 have e8:=cl8 ft n.vars n.inputs (n.latches.map latT) n.outputs n.bads n.constraints (n.ands.map andT) (0:Int)
 exact Zba e1 (Zba e2 (Zba e3 (Zba e4 (Zba e5 (Zba e6 (Zba e7 (Zba e8 rfl)))))))
end Go.Proofs.YtnocaehijdmkkaaGreat.V
end
section
namespace Go.Proofs.YtnocaehijdmkkaaGreat.V
open Go Go.RowKit
open Go.Proofs.YtnocaehijdmkkaaGreat.Pl
theorem rms_eq (n:NetD) (cs:List (List CellT)) (h:cs.length=n.mems.length):ramsL (n.mems.map memT) cs (n.mems.map memT).length=rms n cs:=by
 refine List.ext_getElem? fun i=>?_
 rcases Nat.lt_or_ge i n.mems.length with q | q
 ·have hm:=List.getElem?_eq_getElem q
  have hc:=List.getElem?_eq_getElem (l:=cs) (i:=i) (by omega)
  have hm':(n.mems.map memT)[i]?=some (memT n.mems[i]):=by rw [List.getElem?_map,hm];rfl
  rw [Zb99 hm hc]
  unfold ramsL
  rw [List.getElem?_map,List.getElem?_range (by rw [List.length_map];exact q)]
  have g1:gt Za1 (n.mems.map memT) (i:Int)=memT n.mems[i]:=gt_at (σ:=Za1) hm'
  have g2:gt (.sl Za3) cs (i:Int)=cs[i]:=gt_at (σ:=.sl Za3) hc
  show some (mkRam (gt Za1 (n.mems.map memT) (i:Int)).1 (gt Za1 (n.mems.map memT) (i:Int)).2.1 (gt (.sl Za3) cs (i:Int)))=_
  rw [g1,g2];rfl
 ·have h1:(rms n cs)[i]?=none:=List.getElem?_eq_none (by rw [Zb3f h];exact q)
  have h2:(ramsL (n.mems.map memT) cs (n.mems.map memT).length)[i]?=none:=List.getElem?_eq_none (by unfold ramsL;rw [List.length_map,List.length_range,List.length_map];exact q)
  exact h2.trans h1.symm
theorem Zbah {x k:Int} (h0:0≤x) (h:fitB2 x k=true):x<2^k.toNat:=by
 unfold fitB2 at h
 have h:=of_decide_eq_true h
 have hp:(0:Int)<2^k.toNat:=Int.pow_pos (by decide)
 have e:=Int.emod_def x (2^k.toNat)
 rw [h,Int.mul_zero,Int.sub_zero] at e
 have:=Int.emod_lt_of_pos x hp
 omega
theorem Zb8x {c:List CellT} {i:Nat} {p:CellT} (h:c[i]?=some p):cAt c (i:Int)=p.1∧cWord c (i:Int)=p.2.1:=by
 have g:gt Za3 c (i:Int)=p:=gt_at (σ:=Za3) h
 unfold cAt cWord
 rw [g];exact ⟨rfl,rfl⟩
theorem Zbb2 {m:MemD} {c:List CellT} (h:Zr2 m.addr m.word c=true) (ok:okC c):Zb3e m 4096 c:=by
 unfold Zr2 at h
 simp only [Bool.and_eq_true,decide_eq_true_eq] at h
 obtain ⟨⟨⟨⟨⟨h1,h2⟩,h3⟩,h4⟩,h5⟩,h6⟩:=h
 have hs:=Za2m h6
 have h6':∀i,i<c.length→cellB m.addr m.word c i=true:=fun i hi=>List.all_eq_true.1 h6 i (List.mem_range.2 hi)
 have hc:∀p∈c,(0≤p.1∧p.1<2^m.addr.toNat)∧0<p.2.1∧p.2.1<2^m.word.toNat:=by
  intro p hp
  obtain ⟨i,hi⟩:=List.getElem?_of_mem hp
  have hil:=Zhb hi
  obtain ⟨e1,e2⟩:=Zb8x hi
  have hb:=h6' i hil
  obtain ⟨o1,o2⟩:=ok i hil
  unfold cellB at hb
  simp only [Bool.and_eq_true,Bool.not_eq_true',decide_eq_false_iff_not] at hb
  obtain ⟨⟨⟨b1,b2⟩,b3⟩,_⟩:=hb
  rw [e1] at o1 b2
  rw [e2] at o2 b1 b3
  exact ⟨⟨o1.1,Zbah o1.1 b2⟩,by omega,Zbah o2.1 b3⟩
 refine ⟨?_,h5,fun p hp=>(hc p hp).1,fun p hp=>(hc p hp).2⟩
 refine List.pairwise_iff_getElem.2 fun i j hi hj hij=>?_
 have:=hs j hj i hij
 rw [(Zb8x (List.getElem?_eq_getElem hi)).1,(Zb8x (List.getElem?_eq_getElem hj)).1] at this
 exact this
theorem Zba6 {n:NetD} {ls:List Bool} {cs:List (List CellT)} (h:fitsS (netT n) (ls,(cs,()))=true) (ok:okS cs):StOk n 4096 ls cs:=by
 unfold fitsS at h
 simp only [Bool.and_eq_true,decide_eq_true_eq] at h
 obtain ⟨⟨h1,h2⟩,h3⟩:=h
 have h1':ls.length=n.latches.length:=h1.trans (List.length_map ..)
 have h2':cs.length=n.mems.length:=h2.trans (List.length_map ..)
 refine ⟨h1',h2',fun i m c hm hc=>?_⟩
 have hil:=Zhb hm
 have h3':∀i,i<(n.mems.map memT).length→loadP (n.mems.map memT) cs i=true:=by
  have h3:(List.range (n.mems.map memT).length).all (loadP (n.mems.map memT) cs)=true:=h3
  exact fun i hi=>List.all_eq_true.1 h3 i (List.mem_range.2 hi)
 have hp:=h3' i (by rw [List.length_map];exact hil)
 unfold loadP at hp
 have hm':(n.mems.map memT)[i]?=some (memT m):=by rw [List.getElem?_map,hm];rfl
 have g1:gt Za1 (n.mems.map memT) (i:Int)=memT m:=gt_at (σ:=Za1) hm'
 have g2:gt (.sl Za3) cs (i:Int)=c:=gt_at (σ:=.sl Za3) hc
 rw [g1,g2] at hp
 exact Zbb2 hp (ok c (List.mem_of_getElem? hc))
theorem Zb6f {n:NetD} (h:Pl.Zkz n=0):∃V,Snd n V∧Zj3 n=0∧n.vars.toNat=V∧acyB (ndL n) V=true:=by
 unfold Pl.Zkz at h
 by_cases h0:Zj3 n=0
 ·obtain ⟨V,hs⟩:=Za74 h0
  have hV:n.vars.toNat=V:=by rw [hs.vars];rfl
  rw [if_neg (by simpa using h0),hV] at h
  refine ⟨V,hs,h0,hV,?_⟩
  cases q:acyB (ndL n) V
  ·rw [q] at h;simp at h
  ·rfl
 ·rw [if_pos h0] at h
  exact absurd h h0
section
variable {n:NetD} (ft:Fit n) (ls:List Bool) (cs:List (List CellT))
include ft
theorem new_no (h:Pl.Zkz n≠0):Zb4z (nt n (ls,(cs,())))=some (.inl (Pl.Zkz n,())):=
 Zba (Zq6 ft) (br_tt (by simp [h]) rfl)
theorem Zbaq:Zq8 (nt n (ls,(cs,())))=some (match fitsS (netT n) (ls,(cs,())) with | true=>((0:Int),(ramsL (n.mems.map memT) cs (n.mems.map memT).length,())) | false=>((14:Int),([],()))):=
 Zbap (netT n) (ls,(cs,())) (by show (n.mems.map memT).length≤_;rw [List.length_map];have:=ft.mems.1;omega)
theorem new_bad (h:Pl.Zkz n=0) (hf:fitsS (netT n) (ls,(cs,()))=false):Zb4z (nt n (ls,(cs,())))=some (.inl ((14:Int),())):=by
 have el:=Zbaq ft ls cs
 rw [hf] at el
 exact Zba (Zq6 ft) (br_ff (by rw [h];rfl) (Zba el (br_tt rfl rfl)))
theorem new_ok (h:Pl.Zkz n=0) (hf:fitsS (netT n) (ls,(cs,()))=true) (hb:ls.length≤1000000):Zb4z (nt n (ls,(cs,())))=some (.inr ((0:Int),mc n (ordF n n.vars.toNat) ls (rms n cs) ())):=by
 obtain ⟨V,hs,h0,hV,ha⟩:=Zb6f h
 have eo:=Zb77 hs ft h0
 rw [if_pos ha] at eo
 rw [hV]
 have el:=Zbaq ft ls cs
 rw [hf] at el
 have hcs:cs.length=n.mems.length:=by
  unfold fitsS at hf
  simp only [Bool.and_eq_true,decide_eq_true_eq] at hf
  exact hf.1.2.trans (List.length_map ..)
 have hr:=rms_eq n cs hcs
 have e:∀R R':List RamT,R=R'→(some (.inr ((0:Int),mc n (ordF n V) ls R ())):Option (Out Zayi))=some (.inr ((0:Int),mc n (ordF n V) ls R' ())):=by rintro _ _ rfl;rfl
 exact Zba (Zq6 ft) (br_ff (by rw [h];rfl) (Zba el (br_ff rfl (Zba eo (Zba (clone_is ft) (Zba (clB (L:=ls) hb) (Zaj (Za1l (fun x=>Sh.Zb5s x) _) (e _ _ hr))))))))
end
abbrev StD:=List Bool×List (List CellT)
abbrev CycT:=List Bool×Bool×Unit
def stp (n:NetD) (s:StD) (x:List Bool):StD:=(nextL n (valF n s.1 s.2 x),nextM n s.2 (valF n s.1 s.2 x))
def cyc (n:NetD) (s:StD) (x:List Bool):CycT:=(badsF n (valF n s.1 s.2 x),(fineF n (valF n s.1 s.2 x),()))
theorem room32 (P:List CycT) (z:CycT) (h:P.length≤10000000):room 32 (List.length (P++(z :: [])))=true:=by
 rw [List.length_append,List.length_cons,List.length_nil]
 exact Za3a (by omega) (by omega)
section
variable {n:NetD} (ft:Fit n)
include ft
theorem Zb7k:List.length (netT n).2.2.1≤100000∧List.length (netT n).2.2.2.2.2.2.1≤100000:=
 ⟨by show (n.latches.map latT).length≤_;rw [List.length_map];have:=ft.lat.1;omega,by show (n.mems.map memT).length≤_;rw [List.length_map];have:=ft.mems.1;omega⟩
theorem ft':Fit (netD (netT n)):=by rw [Zww];exact ft
end
end Go.Proofs.YtnocaehijdmkkaaGreat.V
end
