import Derived.Test.YtnocaehijdmkkaaGreatKTr
import Derived.Test.YtnocaehijdmkkaaGreatKTc
set_option linter.unusedSectionVars false
set_option linter.unusedVariables false
set_option linter.unusedSimpArgs false
set_option linter.unnecessarySimpa false
/- SimParts: true of all data. -/
namespace Go.Proofs.YtnocaehijdmkkaaGreat.V
open Go Go.RowKit
open Go.Proofs.YtnocaehijdmkkaaGreat.Pl
theorem both_t2 {a b:Bool} (h1:a=true) (h2:b=true):both a b=true:=by subst h1;subst h2;rfl
theorem fits_of_stOk {n:NetD} {V:Nat} (hs:Snd n V) {K:Nat} (hK:K≤4096) {ls:List Bool} {cs:List (List CellT)} (ok:StOk n K ls cs):fitsS (netT n) (ls,(cs,()))=true:=by
 unfold fitsS
 simp only [Bool.and_eq_true,decide_eq_true_eq]
 refine ⟨⟨ok.lsL.trans (List.length_map ..).symm,ok.csL.trans (List.length_map ..).symm⟩,?_⟩
 refine List.all_eq_true.2 fun i hi=>?_
 have hi:=List.mem_range.1 hi
 have hi:i<(n.mems.map memT).length:=hi
 rw [List.length_map] at hi
 obtain ⟨m,hm⟩:∃m,n.mems[i]?=some m:=⟨_,List.getElem?_eq_getElem hi⟩
 obtain ⟨c,hc⟩:∃c,cs[i]?=some c:=⟨_,List.getElem?_eq_getElem (by have:=ok.csL;omega)⟩
 obtain ⟨sor,len,at_,wd⟩:=ok.ok i _ _ hm hc
 obtain ⟨m1,m2,m3,m4,_⟩:=hs.mems _ (List.mem_of_getElem? hm)
 have hm':(n.mems.map memT)[i]?=some (memT m):=by rw [List.getElem?_map,hm];rfl
 have g1:gt Za1 (n.mems.map memT) (i:Int)=memT m:=gt_at (σ:=Za1) hm'
 have g2:gt (.sl Za3) cs (i:Int)=c:=gt_at (σ:=.sl Za3) hc
 show loadP (n.mems.map memT) cs i=true
 unfold loadP
 rw [g1,g2]
 show Zr2 m.addr m.word c=true
 unfold Zr2
 simp only [Bool.and_eq_true,decide_eq_true_eq]
 refine ⟨⟨⟨⟨⟨m1,m2⟩,m3⟩,m4⟩,Nat.le_trans len hK⟩,List.all_eq_true.2 fun j hj=>?_⟩
 have hj:j<c.length:=List.mem_range.1 hj
 obtain ⟨p,hp⟩:∃p,c[j]?=some p:=⟨_,List.getElem?_eq_getElem hj⟩
 obtain ⟨e1,e2⟩:=Zb8x hp
 have hmem:=List.mem_of_getElem? hp
 have a:=at_ _ hmem
 have w:=wd _ hmem
 have b1:decide (cWord c (j:Int)=0)=false:=decide_eq_false (by rw [e2];omega)
 have b2:fitB2 (cAt c (j:Int)) m.addr=true:=by rw [e1];exact Zbav a.1 a.2
 have b3:fitB2 (cWord c (j:Int)) m.word=true:=by rw [e2];exact Zbav (by omega) w.2
 have b4:(decide (j=0)||decide (cAt c ((j:Int) - 1)<cAt c (j:Int)))=true:=by
  by_cases q:j=0
  ·rw [decide_eq_true q];rfl
  ·obtain ⟨p',hp'⟩:∃p',c[j - 1]?=some p':=⟨_,List.getElem?_eq_getElem (by omega)⟩
   obtain ⟨e3,_⟩:=Zb8x hp'
   have h:=List.pairwise_iff_getElem.1 sor (j - 1) j (by omega) hj (by omega)
   have i1:=List.getElem?_eq_getElem (l:=c) (i:=j - 1) (by omega)
   have i2:=List.getElem?_eq_getElem (l:=c) (i:=j) hj
   rw [hp'] at i1
   rw [hp] at i2
   have i1:=Option.some.inj i1
   have i2:=Option.some.inj i2
   rw [←i1,←i2] at h
   rw [show ((j:Int) - 1)=((j - 1:Nat):Int) by omega,e3,e1,decide_eq_true h,Bool.or_true]
 unfold cellB
 rw [b1,b2,b3,b4];rfl
theorem okS_st {n:NetD} {V:Nat} (hs:Snd n V) {K:Nat} {ls:List Bool} {cs:List (List CellT)} (ok:StOk n K ls cs):okS cs:=by
 intro c hc j hj
 obtain ⟨i,hi⟩:=List.getElem?_of_mem hc
 have hil:i<List.length (α:=List CellT) cs:=Zhb hi
 obtain ⟨m,hm⟩:∃m,n.mems[i]?=some m:=⟨_,List.getElem?_eq_getElem (by have:=ok.csL;omega)⟩
 obtain ⟨sor,len,at_,wd⟩:=ok.ok i _ _ hm hi
 obtain ⟨m1,m2,m3,m4,_⟩:=hs.mems _ (List.mem_of_getElem? hm)
 have hj:j<List.length (α:=CellT) c:=hj
 obtain ⟨p,hp⟩:∃p:CellT,c[j]?=some p:=⟨_,List.getElem?_eq_getElem hj⟩
 obtain ⟨e1,e2⟩:=Zb8x hp
 have hmem:=List.mem_of_getElem? hp
 have a:=at_ _ hmem
 have w:=wd _ hmem
 rw [e1,e2]
 have p1:(2:Int)^m.addr.toNat≤2^64:=by
  have:=Nat.pow_le_pow_right (n:=2) (by decide) (show m.addr.toNat≤64 by omega)
  exact_mod_cast this
 have p2:(2:Int)^m.word.toNat≤2^64:=by
  have:=Nat.pow_le_pow_right (n:=2) (by decide) (show m.word.toNat≤64 by omega)
  exact_mod_cast this
 have p3:(2:Int)^64=18446744073709551616:=by decide
 exact ⟨⟨a.1,by omega⟩,by omega,by omega⟩
theorem trF_append (n:NetD):∀(xs ys:List (List Bool)) (s:StD) (acc:List CycT),trF n (xs++ys) s acc=match trF n xs s acc with | none=>none | some r=>trF n ys r.2 r.1:=by
 intro xs
 induction xs with
 | nil=>intro ys s acc;rfl
 | cons x xs ih=>
  intro ys s acc
  rw [List.cons_append,trF,trF]
  by_cases q:x.length≠n.inputs.length
  ·rw [if_pos q,if_pos q]
  ·rw [if_neg q,if_neg q,ih]
theorem trF_acc (n:NetD):∀(xs:List (List Bool)) (s:StD) (acc:List CycT),trF n xs s acc=match trF n xs s [] with | none=>none | some r=>some (acc++r.1,r.2):=by
 intro xs
 induction xs with
 | nil=>intro s acc;rw [trF,trF];simp
 | cons x xs ih=>
  intro s acc
  rw [trF,trF]
  by_cases q:x.length≠n.inputs.length
  ·rw [if_pos q,if_pos q]
  ·rw [if_neg q,if_neg q,ih (stp n s x) (acc++[cyc n s x]),ih (stp n s x) ([]++[cyc n s x])]
   cases trF n xs (stp n s x) [] with
   | none=>rfl
   | some r=>simp
theorem stOk_light {n:NetD} {K:Nat} {ls:List Bool} {cs:List (List CellT)} {ins:List (List Bool)} (ok:StOk n K ls cs) (hL:lightS ls cs ins):StOk n 100 ls cs:=by
 refine ⟨ok.lsL,ok.csL,fun i m c hm hc=>?_⟩
 obtain ⟨sor,len,at_,wd⟩:=ok.ok i m c hm hc
 refine ⟨sor,?_,at_,wd⟩
 have:=hL.2.2.2.1 i (Zhb hc)
 unfold cLen at this
 have g2:gt (.sl Za3) cs (i:Int)=c:=gt_at (σ:=.sl Za3) hc
 rw [g2] at this
 exact this
section
variable {n:NetD} (ft:Fit n)
include ft
theorem simParts_n (ls:List Bool) (cs:List (List CellT)) (ins:List (List Bool)) (at_:Int) (ts:List Int) (hok:okS cs) (hL:lightS ls cs ins) (el:Zfz (netT n,((ls,(cs,())),(ins,())))=some (true,())) :
  astrariumlaw12_SimParts_FF (netT n,((ls,(cs,())),(ins,(at_,(ts,())))))=some (true,()):=by
 have hI:ins.length≤200:=Nat.le_trans hL.2.2.1 (by decide)
 have hI40:ins.length≤40:=hL.2.2.1
 have hl:ls.length≤1000000:=Nat.le_trans hL.1 (by decide)
 refine Zba el (br_ff rfl ?_)
 by_cases a1:at_<0
 ·exact br_tt (show selB false true (iL at_ (0:Int))=true from dec_t a1) (Zba alive12_is rfl)
 refine br_ff (show selB false true (iL at_ (0:Int))=false from dec_f a1) ?_
 by_cases a2:((ins.length:Nat):Int)<at_
 ·exact br_tt (show selB false true (iL (Int.ofNat (List.length ins)) at_)=true from dec_t a2) (Zba alive12_is rfl)
 refine br_ff (show selB false true (iL (Int.ofNat (List.length ins)) at_)=false from dec_f a2) ?_
 by_cases a3:(300:Int)<((ts.length:Nat):Int)
 ·exact br_tt (show selB false true (iL (300:Int) (Int.ofNat (List.length ts)))=true from dec_t a3) (Zba alive12_is rfl)
 refine br_ff (show selB false true (iL (300:Int) (Int.ofNat (List.length ts)))=false from dec_f a3) ?_
 obtain ⟨k,rfl⟩:=Int.eq_ofNat_of_zero_le (show 0≤at_ by omega)
 have hk:k≤ins.length:=by omega
 have er:=run_is ft ls cs ins hok hI hl
 have ec:=Zxe ft
 refine Zba er ?_
 by_cases hc:Pl.Zkz n=0
 ·cases hf:fitsS (netT n) (ls,(cs,())) with
  | false=>
   have hR:runR n ls cs ins=([],([],[]),14):=by unfold runR;rw [if_neg (fun q=>q hc),if_pos hf]
   rw [hR]
   rw [hc] at ec
   exact br_tt rfl (Zba ec (br_ff rfl (br_tt rfl (Zba alive12_is rfl))))
  | true=>
   cases hr:trF n ins (ls,cs) [] with
   | none=>
    have hR:runR n ls cs ins=([],([],[]),1):=by unfold runR;rw [if_neg (fun q=>q hc),if_neg (by rw [hf];simp),hr]
    rw [hR]
    rw [hc] at ec
    exact br_tt rfl (Zba ec (br_ff rfl (br_ff rfl (br_tt rfl (Zba alive12_is rfl)))))
   | some r=>
    have hR:runR n ls cs ins=(r.1,r.2,0):=by unfold runR;rw [if_neg (fun q=>q hc),if_neg (by rw [hf];simp),hr]
    rw [hR]
    obtain ⟨V,hs,h0,hV,ha⟩:=Zb6f hc
    have ok:=stOk_light (Zba6 hf hok) hL
    have okr:=trF_ok hs ins (ls,cs) [] 100 r ok hr
    obtain ⟨k1,k2⟩:=trF_len ins (ls,cs) [] r hr (fun c hc=>by cases hc)
    have k1:r.1.length=ins.length:=by rw [k1];simp
    have hsp:=trF_append n (ins.take k) (ins.drop k) (ls,cs) []
    rw [List.take_append_drop,hr] at hsp
    cases hA:trF n (ins.take k) (ls,cs) [] with
    | none=>rw [hA] at hsp;cases hsp
    | some a=>
     rw [hA] at hsp
     have hB0:=trF_acc n (ins.drop k) a.2 a.1
     have hsp:some r=trF n (ins.drop k) a.2 a.1:=hsp
     rw [←hsp] at hB0
     cases hB:trF n (ins.drop k) a.2 [] with
     | none=>rw [hB] at hB0;cases hB0
     | some b=>
      rw [hB] at hB0
      have hrb:r=(a.1++b.1,b.2):=Option.some.inj hB0
      have oka:=trF_ok hs (ins.take k) (ls,cs) [] 100 a ok hA
      have oka:StOk n (100+4*k) a.2.1 a.2.2:=by rw [List.length_take,Nat.min_eq_left hk] at oka;exact oka
      have hfa:=fits_of_stOk hs (by omega) oka
      have hRa:runR n ls cs (ins.take k)=(a.1,a.2,0):=by unfold runR;rw [if_neg (fun q=>q hc),if_neg (by rw [hf];simp),hA]
      have hRb:runR n a.2.1 a.2.2 (ins.drop k)=(b.1,b.2,0):=by
       unfold runR
       rw [if_neg (fun q=>q hc),if_neg (by rw [hfa];simp)]
       show (match trF n (ins.drop k) a.2 [] with | none=>_ | some r=>_)=_
       rw [hB]
      have ea:=run_is ft ls cs (ins.take k) hok (by rw [List.length_take];omega) hl
      have eb:=run_is ft a.2.1 a.2.2 (ins.drop k) (okS_st hs oka) (by rw [List.length_drop];omega) (by rw [oka.lsL];have:=ft.lat.1;omega)
      rw [hRa] at ea
      rw [hRb] at eb
      have hch:both (iE (0:Int) (k:Int)) (iE (k:Int) (Int.ofNat (List.length ins)))=true:=both_t2 (dec_t (by omega)) (dec_t (show (k:Int)≤(ins.length:Int) by omega))
      have hbs:∀c∈r.1,c.1.length≤100000:=fun c hc=>by rw [k2 c hc];have:=ft.bad.1;omega
      have es:=same_refl r.1 (by rw [k1];omega) hbs
      have e2:=same12_ok ft (by omega) okr
      have hL2:List.length (netT n).2.2.2.2.2.2.1≤100000:=(Zb7k ft).2
      have ef:=Zy6 (netT n) (r.2.1,(r.2.2,())) (ft' ft) hL2
      rw [fitsF_t hc (fits_of_stOk hs (by omega) okr)] at ef
      have ha1:a.1.length≤ins.length:=by rw [←k1,hrb];simp
      have hr1:room 32 (List.length ([]++a.1))=true:=by
       rw [List.nil_append]
       exact Za3a (by omega) (by omega)
      have hr2:room 32 (List.length (([]++a.1)++b.1))=true:=by
       rw [List.nil_append,show a.1++b.1=r.1 by rw [hrb]]
       exact Za3a (by omega) (by omega)
      have es2:astrariumlaw12_same_FF (([]++a.1)++b.1,(r.1,()))=some (true,()):=by
       have hab:([]++a.1)++b.1=r.1:=by rw [List.nil_append,hrb]
       exact (congrArg (fun L:List CycT=>astrariumlaw12_same_FF (L,(r.1,()))) hab).trans es
      have hb2:b.2=r.2:=by rw [hrb]
      have e2b:Zgi ((b.2.1,(b.2.2,())),((r.2.1,(r.2.2,())),()))=some (true,()):=by rw [hb2];exact e2
      obtain ⟨x,c,eR,hx⟩:=rename_is ft ts
      refine br_ff rfl (Zaj hch (Zba ea (Zaj rfl (Zaj hch (Zba eb (Zaj rfl (br_ff rfl (br_ff rfl (Zaj hr1 (Zaj hr2 (Zba es2 (br_ff rfl (Zba e2b (br_ff rfl (Zba ef (br_ff rfl (Zba eR ?_)))))))))))))))))
      by_cases hcz:c=0
      ·obtain ⟨V',hs',ha',F,C,rfl⟩:=hx hcz
       obtain rfl:V'=V:=by have:=hs'.vars;have h2:=hs.vars;omega
       have hck:=check_ren hs F C h0 ha
       have em:=run_is (fit_ren hs F ft) ls cs ins hok hI hl
       have hRm:runR (renN ts n) ls cs ins=(r.1,r.2,0):=by
        unfold runR
        rw [if_neg (fun q=>q hck),fits_ren,if_neg (by rw [hf];simp),trF_ren hs F C h0 ha,hr]
       rw [hRm] at em
       exact br_ff (not_f (dec_t hcz)) (Zba em (br_tt rfl (Zba es (br_tt rfl (Zba e2 (br_tt rfl (Zba alive12_is rfl)))))))
      ·exact br_tt (not_t (dec_f hcz)) (Zba alive12_is rfl)
 ·have hR:runR n ls cs ins=([],([],[]),Pl.Zkz n):=by unfold runR;rw [if_pos hc]
  rw [hR]
  exact br_tt (not_t (dec_f hc)) (Zba ec (br_tt (not_t (dec_f hc)) (Zba alive12_is rfl)))
end
theorem simParts_is (d:Za5.T) (s:Zab.T) (ins:List (List Bool)) (at_:Int) (ts:List Int) (hd:okD Za5 d) (hs:okD Zab s) (hi:okD (.sl (.sl .bool)) ins) (hat:okD (.int .i64) at_) (hts:okD (.sl (.int .i64)) ts):astrariumlaw12_SimParts_FF (d,(s,(ins,(at_,(ts,())))))=some (true,()):=by
 obtain ⟨ls,cs,⟨⟩⟩:=s
 obtain ⟨b,eb,hb⟩:=Za6b d ls cs ins
 cases b with
 | false=>exact Zba eb (br_tt rfl (Zba alive12_is rfl))
 | true=>
  obtain ⟨h5,hL⟩:=hb rfl
  have ft:=fit_of hd h5
  have r:=simParts_n ft ls cs ins at_ ts (okS_of hs.2.1) hL (by rw [Zri];exact eb)
  rw [Zri] at r
  exact r
end Go.Proofs.YtnocaehijdmkkaaGreat.V
