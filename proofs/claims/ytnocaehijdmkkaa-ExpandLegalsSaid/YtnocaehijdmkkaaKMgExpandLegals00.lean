import Derived.Test.YtnocaehijdmkkaaKXd
import Derived.Test.YtnocaehijdmkkaaKXc
import Derived.Test.YtnocaehijdmkkaaKSb
set_option linter.unusedSectionVars false
set_option linter.unusedVariables false
set_option linter.unusedSimpArgs false
set_option linter.unnecessarySimpa false
section
namespace Go.Proofs.Ytnocaehijdmkkaa.V
open Go Go.RowKit
open Go.Proofs.Ytnocaehijdmkkaa.Pl
set_option maxRecDepth 10000
theorem gd_l {A B:List Bool} {p:Nat} (h:p<A.length):(A++B).getD p false=A.getD p false:=by
 rw [List.getD_eq_getElem?_getD,List.getD_eq_getElem?_getD,List.getElem?_append_left h]
theorem gd_r {A B:List Bool} {p:Nat}:(A++B).getD (A.length+p) false=B.getD p false:=by
 rw [List.getD_eq_getElem?_getD,List.getD_eq_getElem?_getD,List.getElem?_append_right (by omega),Nat.add_sub_cancel_left]
theorem wordB_at (m:MemD) (c:List CellT) (a:Nat) {j:Nat} (h:j<m.word.toNat):(wordB m c a).getD j false=decide ((rd c (a:Int)).toNat / 2^j % 2=1):=by
 unfold wordB Zaqa
 rw [List.getD_eq_getElem?_getD,List.getElem?_map,List.getElem?_range h];rfl
theorem memB_at (m:MemD) (c:List CellT):∀(N a j:Nat),a<N→j<m.word.toNat→(memB m c N).getD (a*m.word.toNat+j) false=decide ((rd c (a:Int)).toNat / 2^j % 2=1)
 | 0,a,j,h,_=>by omega
 | N+1,a,j,h,hj=>by
  rw [memB_succ]
  have hl:=memB_len m c N
  by_cases q:a<N
  ·have:a*m.word.toNat+j<(memB m c N).length:=by
    have:=Nat.mul_le_mul_right m.word.toNat (show a+1≤N from q)
    rw [Nat.succ_mul a] at this
    omega
   rw [gd_l this]
   exact memB_at m c N a j q hj
  ·obtain rfl:a=N:=by omega
   rw [←hl,gd_r]
   exact wordB_at m c a hj
section
variable {n:NetD} (ls:List Bool) (cs:List (List CellT)) (hcs:cs.length=n.mems.length)
include hcs
theorem stB_lenE:∀k,k≤n.mems.length→(stB n ls cs k).length=ls.length+offM n k
 | 0,_=>by
  have:stB n ls cs 0=ls:=by unfold stB;simp
  rw [this];rfl
 | k+1,h=>by
  have hm:=List.getElem?_eq_getElem (show k<n.mems.length by omega)
  have hc:=List.getElem?_eq_getElem (show k<cs.length by omega)
  rw [stB_succ n ls cs hm hc,List.length_append,stB_lenE k (by omega),memB_len,offM_succ n hm]
  unfold szM;omega
end
section
variable {n:NetD} (ls:List Bool) (cs:List (List CellT))
theorem stB_old (k:Nat) (h:k≤n.mems.length) {p:Nat} (hp:p<ls.length):(stB n ls cs k).getD p false=ls.getD p false:=by unfold stB;exact gd_l hp
end
section
variable {n:NetD} (ls:List Bool) (cs:List (List CellT)) (hcs:cs.length=n.mems.length)
include hcs
theorem stB_at:∀k,k≤n.mems.length→∀(i:Nat) (M:MemD) (c:List CellT),i<k→n.mems[i]?=some M→cs[i]?=some c→∀a j,a<2^M.addr.toNat→j<M.word.toNat →
  (stB n ls cs k).getD (ls.length+offM n i+(a*M.word.toNat+j)) false=decide ((rd c (a:Int)).toNat / 2^j % 2=1)
 | 0,_,i,M,c,hi,_,_,_,_,_,_=>by omega
 | k+1,hk,i,M,c,hi,hM,hc,a,j,ha,hj=>by
  have hk1:k<n.mems.length:=hk
  have hk2:k<cs.length:=by rw [hcs];exact hk
  have hm:=List.getElem?_eq_getElem hk1
  have hc':=List.getElem?_eq_getElem hk2
  rw [stB_succ n ls cs hm hc']
  have hl:=stB_lenE ls cs hcs k (by omega)
  have hlt:a*M.word.toNat+j<szM M:=by
   have:=Nat.mul_le_mul_right M.word.toNat (show a+1≤2^M.addr.toNat from ha)
   rw [Nat.succ_mul a] at this
   unfold szM;omega
  by_cases q:i<k
  ·have h1:=offM_succ n hM
   have h2:=offM_mono n (show i+1≤k from q)
   rw [gd_l (by omega)]
   exact stB_at k (by omega) i M c q hM hc a j ha hj
  ·obtain rfl:i=k:=by omega
   have hM:=Option.some.inj (hm.symm.trans hM)
   have hc:=Option.some.inj (hc'.symm.trans hc)
   subst hM
   subst hc
   rw [←hl,gd_r]
   exact memB_at _ _ _ a j ha hj
end
theorem right_cell {a w:Int} {c:List CellT} (h:Zr2 a w c=true):∀p∈c,(p.2.1≠0)∧p.1 / 2^a.toNat=0∧p.2.1 / 2^w.toNat=0:=by
 intro p hp
 unfold Zr2 at h
 simp only [Bool.and_eq_true] at h
 obtain ⟨i,hi⟩:=List.getElem?_of_mem hp
 have hl:=Zhb hi
 have:=List.all_eq_true.1 h.2 i (List.mem_range.2 hl)
 unfold cellB at this
 simp only [Bool.and_eq_true] at this
 obtain ⟨e1,e2⟩:=cell_at' hi
 rw [e1,e2] at this
 obtain ⟨⟨⟨h1,h2⟩,h3⟩,_⟩:=this
 unfold fitB2 at h2 h3
 exact ⟨by simpa using h1,by simpa using h2,by simpa using h3⟩
theorem pow_cast (k:Nat):(2:Int)^k=((2^k:Nat):Int):=by push_cast;rfl
theorem div_zero_lt {x:Int} {k:Nat} (h0:0≤x) (h:x / 2^k=0):x<((2^k:Nat):Int):=by
 rw [pow_cast] at h
 have h1:(0:Int)<((2^k:Nat):Int):=Int.ofNat_lt.2 (Nat.pos_of_ne_zero (by simp))
 have h2:=Int.mul_ediv_add_emod x ((2^k:Nat):Int)
 have h3:=Int.emod_lt_of_pos x h1
 rw [h,Int.mul_zero] at h2
 omega
theorem cells_none {a w:Int} {c:List CellT} (hok:okC c) (h:Zr2 a w c=true):c=[]↔∀(x j:Nat),x<2^a.toNat→j<w.toNat→decide ((rd c (x:Int)).toNat / 2^j % 2=1)=false:=by
 constructor
 ·rintro rfl x j _ _
  have:rd [] (x:Int)=0:=rfl
  rw [this]
  simp
 ·intro hz
  cases c with
  | nil=>rfl
  | cons p c=>
   exfalso
   obtain ⟨h1,h2,h3⟩:=right_cell h p (List.mem_cons_self ..)
   have ho:(0≤p.1∧p.1≤18446744073709551615)∧(0≤p.2.1∧p.2.1≤18446744073709551615):=hok 0 (Nat.succ_pos _)
   have l1:=div_zero_lt ho.1.1 h2
   have l2:=div_zero_lt ho.2.1 h3
   have hr:rd (p :: c) ((p.1.toNat:Nat):Int)=p.2.1:=by
    rw [Zbag,if_pos (by omega)]
   have hw:p.2.1.toNat<2^w.toNat:=by omega
   have hne:p.2.1.toNat≠0:=by omega
   have:∀j,j<w.toNat→p.2.1.toNat / 2^j % 2=0:=by
    intro j hj
    have:=hz p.1.toNat j (by omega) hj
    rw [hr] at this
    have:=of_decide_eq_false this
    omega
   refine hne (Nat.eq_of_testBit_eq (fun j=>?_))
   rw [Nat.testBit_eq_decide_div_mod_eq,Nat.testBit_eq_decide_div_mod_eq]
   by_cases q:j<w.toNat
   ·rw [this j q];simp
   ·have h5:2^w.toNat≤2^j:=Nat.pow_le_pow_right (by omega) (by omega)
    rw [Nat.div_eq_of_lt (by omega)];simp
end Go.Proofs.Ytnocaehijdmkkaa.V
end
section
namespace Go.Proofs.Ytnocaehijdmkkaa.V
open Go Go.RowKit
set_option maxRecDepth 1000000
theorem alive13_is:astrariumlaw13_alive_FF ()=some (true,()):=by kernel_rfl
abbrev astrariumref05_Bits_lay3:Lay:={ T:=[(1,.ptr 0 0),(3,.int .i64),(4,.int .i64)],h:=[(0,.cells lNet 27)],nx:=1 }
abbrev astrariumref05_Bits_outs3:List (Ev.Ex×Lay):=[((.exit 0),{ T:=[(3,.int .i64)],h:=[],nx:=0 })]
abbrev astrariumref05_Bits_T3:=TL astrariumref05_Bits_lay3.σs→Option (Out astrariumref05_Bits_outs3)
abbrev astrariumref05_Bits_D3:=Ld 0 44 (Zb5 [0] (Zaa Try.f16)) astrariumref05_Bits_lay3 astrariumref05_Bits_outs3
abbrev astrariumref05_Bits_lay7:Lay:={ T:=[(1,.ptr 0 0),(3,.int .i64),(4,.int .i64),(5,.int .i64),(6,.int .i64)],h:=[(0,.cells lNet 27)],nx:=1 }
abbrev astrariumref05_Bits_outs7:List (Ev.Ex×Lay):=[((.exit 2),{ T:=[(1,.ptr 0 0),(3,.int .i64),(4,.int .i64),(5,.int .i64)],h:=[(0,.cells lNet 27)],nx:=1 })]
abbrev astrariumref05_Bits_T7:=TL astrariumref05_Bits_lay7.σs→Option (Out astrariumref05_Bits_outs7)
abbrev astrariumref05_Bits_D7:=Ld 0 44 (Zb5 [0,0] (Zaa Try.f16)) astrariumref05_Bits_lay7 astrariumref05_Bits_outs7
def astrariumref05_Bits_B7 (t3 t4 t5 t6 b0_0:Int) (b0_1:List Int) (b0_2:List (Sh.T Za0)) (b0_3 b0_4 b0_5:List Int) (b0_6:List (Sh.T Za1)) (b0_7:List (Sh.T Za0)):Option (TL astrariumref05_Bits_lay7.σs⊕Out astrariumref05_Bits_outs7):=
 chk (inb t4 (List.length b0_6))<|
 br (iL t6 (gt Za1 b0_6 t4).1)
 (
  br (selB true (iL t5 (1000:Int)) false)
  (
   some (.inl (t3,(t4,((IntKind.wrap .i64 ((2:Int)*t5)),((IntKind.wrap .i64 (t6+(1:Int))),(b0_0,(b0_1,(b0_2,(b0_3,(b0_4,(b0_5,(b0_6,(b0_7,()))))))))))))))
  (
   some (.inr (t3,(t4,(t5,(b0_0,(b0_1,(b0_2,(b0_3,(b0_4,(b0_5,(b0_6,(b0_7,()))))))))))))))
 (
  some (.inr (t3,(t4,(t5,(b0_0,(b0_1,(b0_2,(b0_3,(b0_4,(b0_5,(b0_6,(b0_7,())))))))))))))
def astrariumref05_Bits_N7  :astrariumref05_Bits_D7:=mkL (u12 astrariumref05_Bits_B7) (pL k0 e0 1 l0 fun d=>by kernel_rfl)
def astrariumref05_Bits_L7:astrariumref05_Bits_T7:=lpD (u12 astrariumref05_Bits_B7) NN
def astrariumref05_Bits_B3 (L7:astrariumref05_Bits_T7) (t3 t4 b0_0:Int) (b0_1:List Int) (b0_2:List (Sh.T Za0)) (b0_3 b0_4 b0_5:List Int) (b0_6:List (Sh.T Za1)) (b0_7:List (Sh.T Za0)):Option (TL astrariumref05_Bits_lay3.σs⊕Out astrariumref05_Bits_outs3):=
 br (iL t4 (Int.ofNat (List.length b0_6)))
 (
  chk (inb t4 (List.length b0_6))<|
  bnd (L7 (t3,(t4,((gt Za1 b0_6 t4).2.1,((0:Int),(b0_0,(b0_1,(b0_2,(b0_3,(b0_4,(b0_5,(b0_6,(b0_7,()))))))))))))) fun x0=>
  some (.inl ((IntKind.wrap .i64 (@HAdd.hAdd (Int) (Int) (Int) _ x0.1 x0.2.2.1)),((IntKind.wrap .i64 (@HAdd.hAdd (Int) (Int) (Int) _ x0.2.1 (1:Int))),x0.2.2.2))))
 (
  some (.inr (t3,())))
def astrariumref05_Bits_M3 (M7:astrariumref05_Bits_D7):astrariumref05_Bits_D3:=mkL (u10 (astrariumref05_Bits_B3 M7.L)) (pL k0 e0 1 (sC M7 l0) fun d=>by kernel_rfl)
def astrariumref05_Bits_N3:astrariumref05_Bits_D3:=astrariumref05_Bits_M3  astrariumref05_Bits_N7
def astrariumref05_Bits_L3:astrariumref05_Bits_T3:=lpD (u10 (astrariumref05_Bits_B3 astrariumref05_Bits_L7)) NN
abbrev astrariumref05_Bits_σs:List Sh:=[Za5]
abbrev astrariumref05_Bits_τs:List Sh:=[(.int .i64)]
abbrev astrariumref05_Bits_T:=TL astrariumref05_Bits_σs→Option (TL astrariumref05_Bits_τs)
abbrev astrariumref05_Bits_D:=Kd 16 astrariumref05_Bits_σs astrariumref05_Bits_τs
def astrariumref05_Bits_F (L3:astrariumref05_Bits_T3) (L7:astrariumref05_Bits_T7) (a0:Sh.T Za5):Option (TL astrariumref05_Bits_τs):=
 bnd (L3 ((Int.ofNat (List.length a0.2.2.1)),((0:Int),a0))) fun x0=>
 some ((selI (iL (1000:Int) x0.1) (1000:Int) x0.1),())
def astrariumref05_Bits_G (M3:astrariumref05_Bits_D3) (M7:astrariumref05_Bits_D7):astrariumref05_Bits_D:=⟨u1 (astrariumref05_Bits_F M3.L M7.L),pD Try.func16 44 k0 e0 1 (sS (sC M3 l0)) fun d=>by kernel_rfl⟩
def astrariumref05_Bits_K:astrariumref05_Bits_D:=astrariumref05_Bits_G  astrariumref05_Bits_N3 astrariumref05_Bits_N7
def astrariumref05_Bits_FF:astrariumref05_Bits_T:=astrariumref05_Bits_K.F
abbrev astrariumlaw13_ExpandLegals_σs:List Sh:=[Za5,Zab]
abbrev astrariumlaw13_ExpandLegals_τs:List Sh:=[.bool]
abbrev astrariumlaw13_ExpandLegals_T:=TL astrariumlaw13_ExpandLegals_σs→Option (TL astrariumlaw13_ExpandLegals_τs)
abbrev astrariumlaw13_ExpandLegals_D:=Kd 4 astrariumlaw13_ExpandLegals_σs astrariumlaw13_ExpandLegals_τs
def astrariumlaw13_ExpandLegals_F (F0:Zakd) (F1:expand_Net_T) (F2:astrariumlaw13_alive_T) (F3:astrariumref05_Bits_T) (F4:Zahu) (F5:Zakq) (F6:expand_State_T) (a0:Sh.T Za5) (a1:Sh.T Zab):Option (TL astrariumlaw13_ExpandLegals_τs):=
 bnd (F5 (a0,(a1,([],())))) fun x0=>
 br (Bool.not x0.1)
 (
  bnd (F2 ()) fun x1=>
  some (x1.1,()))
 (
  bnd (F4 (a0,(a1,()))) fun x1=>
  br (selB false true (Bool.not (iQ x1.1 (0:Int))))
  (
   bnd (F2 ()) fun x2=>
   some (x2.1,()))
  (
   bnd (F3 (a0,())) fun x2=>
   br (selB false true (iL (64:Int) x2.1))
   (
    bnd (F2 ()) fun x3=>
    some (x3.1,()))
   (
    bnd (F1 (a0,())) fun x3=>
    bnd (F6 (a0.1,(a0.2.1,(a0.2.2.1,(a0.2.2.2.1,(a0.2.2.2.2.1,(a0.2.2.2.2.2.1,(a0.2.2.2.2.2.2.1,(a0.2.2.2.2.2.2.2.1,a1))))))))) fun x4=>
    br (Bool.not (iQ x3.2.1 (0:Int)))
    (
     bnd (F2 ()) fun x5=>
     some (x5.1,()))
    (
     br (iQ x4.1 (0:Int))
     (
      bnd (F0 (a0,(a1,()))) fun x5=>
      bnd (F0 ((x3.1.1,(x3.1.2.1,(x3.1.2.2.1,(x3.1.2.2.2.1,(x3.1.2.2.2.2.1,(x3.1.2.2.2.2.2.1,(x3.1.2.2.2.2.2.2.1,(x3.1.2.2.2.2.2.2.2.1,())))))))),((x4.2.1,([],())),()))) fun x6=>
      br (selB true (@decide _ (Bool.decEq (iQ x5.1 (0:Int)) (iQ x6.1 (0:Int)))) false)
      (
       bnd (F2 ()) fun x7=>
       some ((selB true x7.1 false),()))
      (
       some (false,())))
     (
      some (false,()))))))
def astrariumlaw13_ExpandLegals_G (c0:Zado) (c1:expand_Net_D) (c2:astrariumlaw13_alive_D) (c3:astrariumref05_Bits_D) (c4:Zad0) (c5:Zadr) (c6:expand_State_D) :astrariumlaw13_ExpandLegals_D:=⟨u2 (astrariumlaw13_ExpandLegals_F c0.F c1.F c2.F c3.F c4.F c5.F c6.F),pD Try.func4 55 (kD c0 (kD c1 (kD c2 (kD c3 (kD c4 (kD c5 (kB c6 k0))))))) e0 1 (sS l0) fun d=>by kernel_rfl⟩
def astrariumlaw13_ExpandLegals_K:astrariumlaw13_ExpandLegals_D:=astrariumlaw13_ExpandLegals_G Zake expand_Net_K astrariumlaw13_alive_K astrariumref05_Bits_K Zahv Zakr expand_State_K 
def astrariumlaw13_ExpandLegals_FF:astrariumlaw13_ExpandLegals_T:=astrariumlaw13_ExpandLegals_K.F
end Go.Proofs.Ytnocaehijdmkkaa.V
end
section
namespace Go.Proofs.Ytnocaehijdmkkaa.V
open Go Go.RowKit
open Go.Proofs.Ytnocaehijdmkkaa.Pl
set_option maxRecDepth 10000
section
variable {n:NetD} {V:Nat} (hs:Snd n V)
include hs
theorem bi_7 {k:Nat} {m:MemD} (hm:n.mems[k]?=some m) (acc:Int) :
  ∃w:Int,astrariumref05_Bits_L7 (acc,((k:Int),(m.word,((0:Int),nt n ()))))=some (acc,((k:Int),(w,nt n ())))∧0≤w∧w≤4000:=by
 obtain ⟨h1,h2,h3⟩:=mem_rngs hs m (List.mem_of_getElem? hm)
 obtain ⟨_,h4,_⟩:=hs.mems m (List.mem_of_getElem? hm)
 have hk:=Zhb hm
 have hM:=hs.lens.2.2.2.2
 have g:gt Za1 (n.mems.map memT) (k:Int)=memT m:=gt_at (σ:=Za1) (by rw [List.getElem?_map,hm];rfl)
 have hin:inb (k:Int) (List.length (n.mems.map memT))=true:=Zar ⟨by omega,by rw [List.length_map];omega⟩
 have hq:=Za80 (B:=fun d=>astrariumref05_Bits_B7 d.1 d.2.1 d.2.2.1 d.2.2.2.1 d.2.2.2.2.1 d.2.2.2.2.2.1 d.2.2.2.2.2.2.1 d.2.2.2.2.2.2.2.1 d.2.2.2.2.2.2.2.2.1 d.2.2.2.2.2.2.2.2.2.1 d.2.2.2.2.2.2.2.2.2.2.1 d.2.2.2.2.2.2.2.2.2.2.2.1)
  (I:=fun d:TL astrariumref05_Bits_lay7.σs=>∃(j:Nat) (w:Int),j≤m.addr.toNat∧0≤w∧w≤2000∧d=(acc,((k:Int),(w,((j:Int),nt n ())))))
  (Q:=fun o:Out astrariumref05_Bits_outs7=>∃w:Int,0≤w∧w≤4000∧o=(acc,((k:Int),(w,nt n ()))))
  (fun d:TL astrariumref05_Bits_lay7.σs=>m.addr.toNat - Int.toNat d.2.2.2.1) ?_ NN (acc,((k:Int),(m.word,((0:Int),nt n ())))) ⟨0,m.word,by omega,by omega,by omega,rfl⟩ (Ze8 (by show m.addr.toNat - _≤_;omega))
 ·obtain ⟨o,ho,w,w1,w2,rfl⟩:=hq
  exact ⟨w,ho,w1,w2⟩
 ·rintro d ⟨j,w,hj,w1,w2,rfl⟩
  have e0:(gt Za1 (n.mems.map memT) (k:Int)).1=m.addr:=by rw [g];rfl
  by_cases q:j<m.addr.toNat
  ·have c0:iL (j:Int) (gt Za1 (n.mems.map memT) (k:Int)).1=true:=dec_t (by rw [e0];omega)
   by_cases r:w<1000
   ·refine .inr ⟨(acc,((k:Int),(2*w,(((j+1:Nat):Int),nt n ())))),?_,⟨j+1,2*w,by omega,by omega,by omega,rfl⟩,by show m.addr.toNat - Int.toNat ((j+1:Nat):Int)<m.addr.toNat - Int.toNat (j:Int);omega⟩
    have e:∀(a b p q:Int),a=b→p=q→(some (.inl (acc,((k:Int),(a,(p,nt n ()))))):Option (TL astrariumref05_Bits_lay7.σs⊕Out astrariumref05_Bits_outs7))=some (.inl (acc,((k:Int),(b,(q,nt n ()))))):=by rintro _ _ _ _ rfl rfl;rfl
    exact Zaj hin (br_tt c0 (br_tt (show selB true (iL w (1000:Int)) false=true from dec_t r) (e _ _ _ _ (i64w (x:=2*w) (by omega)) (i64n (show (j:Int)+1=((j+1:Nat):Int) by omega) (by omega)))))
   ·exact .inl ⟨_,Zaj hin (br_tt c0 (br_ff (show selB true (iL w (1000:Int)) false=false from dec_f r) rfl)),w,w1,by omega,rfl⟩
  ·exact .inl ⟨_,Zaj hin (br_ff (dec_f (show ¬(j:Int)<(gt Za1 (n.mems.map memT) (k:Int)).1 by rw [e0];omega)) rfl),w,w1,by omega,rfl⟩
theorem bits05:∃w:Int,astrariumref05_Bits_FF (netT n,())=some (w,()):=by
 have hM:=hs.lens.2.2.2.2
 have hl:=hs.lens.2.1
 have key:∃q,astrariumref05_Bits_L3 (((List.length (n.latches.map latT):Nat):Int),((0:Int),nt n ()))=some q∧∃w:Int,q=(w,()):=by
  unfold astrariumref05_Bits_L3;delta u10
  refine lp_ex n.mems.length (fun k d=>∃w:Int,d=(w,((k:Int),nt n ()))∧0≤w∧w≤2000+4000*(k:Int)) ?_ ?_ ⟨_,rfl,by omega,by rw [List.length_map];omega⟩ (Ze8 (by omega))
  ·rintro k d hk ⟨w,rfl,w1,w2⟩
   obtain ⟨m,hm⟩:∃m,n.mems[k]?=some m:=⟨_,List.getElem?_eq_getElem hk⟩
   have g:gt Za1 (n.mems.map memT) (k:Int)=memT m:=gt_at (σ:=Za1) (by rw [List.getElem?_map,hm];rfl)
   have hin:inb (k:Int) (List.length (n.mems.map memT))=true:=Zar ⟨by omega,by rw [List.length_map];omega⟩
   obtain ⟨u,e,u1,u2⟩:=bi_7 hs hm w
   have e':astrariumref05_Bits_L7 (w,((k:Int),((gt Za1 (n.mems.map memT) (k:Int)).2.1,((0:Int),nt n ()))))=some (w,((k:Int),(u,nt n ()))):=by rw [g];exact e
   have ek:∀(a b p q:Int),a=b→p=q→(some (.inl (a,(p,nt n ()))):Option (TL astrariumref05_Bits_lay3.σs⊕Out astrariumref05_Bits_outs3))=some (.inl (b,(q,nt n ()))):=by rintro _ _ _ _ rfl rfl;rfl
   exact ⟨_,br_tt (dec_t (show (k:Int)<((List.length (n.mems.map memT):Nat):Int) by rw [List.length_map];omega)) (Zaj hin (Zba e' (ek _ _ _ _ (i64w (x:=w+u) (by omega)) (i64n (show (k:Int)+1=((k+1:Nat):Int) by omega) (by omega))))),w+u,rfl,by omega,by omega⟩
  ·rintro d ⟨w,rfl,w1,w2⟩
   exact ⟨_,br_ff (dec_f (show ¬(n.mems.length:Int)<((List.length (n.mems.map memT):Nat):Int) by rw [List.length_map];omega)) rfl,w,rfl⟩
 obtain ⟨q,e,w,rfl⟩:=key
 exact ⟨_,Zba e rfl⟩
end
theorem legalF_iff {d:Za5.T} {lat:List Bool} {C:List (List Za3.T)} (h:fitsF d (lat,(C,()))=0):Zym d lat C=0↔(∀i,i<d.2.2.1.length→pLg d.2.2.1 lat i=true)∧∀i,i<d.2.2.2.2.2.2.1.length→pM d.2.2.2.2.2.2.1 C i=true:=by
 unfold Zym
 rw [decide_eq_true h]
 show (match (List.range d.2.2.1.length).all (pLg d.2.2.1 lat) with | false=>(14:Int) | true=>match (List.range d.2.2.2.2.2.2.1.length).all (pM d.2.2.2.2.2.2.1 C) with | false=>14 | true=>0)=0↔_
 have e1:(List.range d.2.2.1.length).all (pLg d.2.2.1 lat)=true↔∀i,i<d.2.2.1.length→pLg d.2.2.1 lat i=true:=by simp [List.all_eq_true]
 have e2:(List.range d.2.2.2.2.2.2.1.length).all (pM d.2.2.2.2.2.2.1 C)=true↔∀i,i<d.2.2.2.2.2.2.1.length→pM d.2.2.2.2.2.2.1 C i=true:=by simp [List.all_eq_true]
 rw [←e1,←e2]
 cases (List.range d.2.2.1.length).all (pLg d.2.2.1 lat)<;>cases (List.range d.2.2.2.2.2.2.1.length).all (pM d.2.2.2.2.2.2.1 C)<;>simp
theorem bAt_nat (L:List Bool) (i:Nat):bAt L (i:Int)=L.getD i false:=by
 unfold bAt;rw [gt_b (by omega),Int.toNat_natCast]
theorem lInit_la {L:List Zgv} {i:Nat} (h:i<L.length):lInit (L.map latT) (i:Int)=(la L i).init:=by
 unfold lInit;rw [la_gt h];rfl
section
variable {n:NetD} {V:Nat} (hs:Snd n V) (h0:Zj3 n=0) (ha:acyB (ndL n) V=true) {s:Mk} {L:List Zgv} {cv:Nat→Nat} (P:ExSp n V n.mems.length s L cv) (hv:s.v≤2000) (ls:List Bool) (cs:List (List CellT)) (hf:fitsF (netT n) (ls,(cs,()))=0) (hok:okS cs)
include hs h0 ha P hv hf
theorem exp_fits:fitsF (netT (expN n s L)) (stB n ls cs n.mems.length,([],()))=0∧ls.length=n.latches.length∧cs.length=n.mems.length:=by
 have h1:=Zys hf
 rw [Zww] at h1
 obtain ⟨_,h2,h3⟩:=h1
 have h2:ls.length=n.latches.length:=h2.trans (List.length_map ..)
 have h3:cs.length=n.mems.length:=h3.trans (List.length_map ..)
 refine ⟨?_,h2,h3⟩
 unfold fitsF
 rw [Zww,exp_check hs h0 ha P hv,if_neg (by omega)]
 have hl:(stB n ls cs n.mems.length).length=(L.map latT).length:=by rw [stB_lenE ls cs h3 _ (Nat.le_refl _),List.length_map,P.len,h2]
 have:fitsS (netT (expN n s L)) (stB n ls cs n.mems.length,([],()))=true:=by
  unfold fitsS
  have e1:decide (List.length (stB n ls cs n.mems.length)=(netT (expN n s L)).2.2.1.length)=true:=decide_eq_true hl
  show (decide (List.length (stB n ls cs n.mems.length)=(netT (expN n s L)).2.2.1.length)&&true&&true)=true
  rw [e1];rfl
 rw [this]
include hok
theorem exp_legal:Zym (netT n) ls cs=0↔Zym (netT (expN n s L)) (stB n ls cs n.mems.length) []=0:=by
 obtain ⟨f2,h2,h3⟩:=exp_fits hs h0 ha P hv ls cs hf
 refine (legalF_iff hf).trans (Iff.trans ?_ (legalF_iff f2).symm)
 have hfs:fitsS (netT n) (ls,(cs,()))=true:=(fits0 hf).2
 have hlen:=P.len
 have right:∀(i:Nat) (M:MemD) (c:List CellT),n.mems[i]?=some M→cs[i]?=some c→Zr2 M.addr M.word c=true∧okC c:=by
  intro i M c hM hc
  unfold fitsS at hfs
  simp only [Bool.and_eq_true] at hfs
  have hi:=Zhb hM
  have:=List.all_eq_true.1 hfs.2 i (List.mem_range.2 (by show i<(n.mems.map memT).length;rw [List.length_map];exact hi))
  have g:gt Za1 (n.mems.map memT) (i:Int)=memT M:=gt_at (σ:=Za1) (by rw [List.getElem?_map,hM];rfl)
  have g2:gt (.sl Za3) cs (i:Int)=c:=gt_at (σ:=.sl Za3) hc
  have this:Zr2 (gt Za1 (n.mems.map memT) (i:Int)).1 (gt Za1 (n.mems.map memT) (i:Int)).2.1 (gt (.sl Za3) cs (i:Int))=true:=this
  rw [g,g2] at this
  exact ⟨this,hok c (List.mem_of_getElem? hc)⟩
 have eA:(∀i,i<(netT n).2.2.1.length→pLg (netT n).2.2.1 ls i=true)↔∀i,i<n.latches.length→pLg (L.map latT) (stB n ls cs n.mems.length) i=true:=by
  have hl:(netT n).2.2.1.length=n.latches.length:=List.length_map ..
  rw [hl]
  refine forall_congr' (fun i=>forall_congr' (fun hi=>?_))
  show pLg (n.latches.map latT) ls i=true↔_
  unfold pLg
  rw [lInit_la hi,lInit_la (show i<L.length by omega),P.old i hi,bAt_nat,bAt_nat,stB_old ls cs _ (Nat.le_refl _) (by omega)]
 have eB:(∀i,i<(netT n).2.2.2.2.2.2.1.length→pM (netT n).2.2.2.2.2.2.1 cs i=true)↔∀i,n.latches.length≤i→i<L.length→pLg (L.map latT) (stB n ls cs n.mems.length) i=true:=by
  have hl:(netT n).2.2.2.2.2.2.1.length=n.mems.length:=List.length_map ..
  rw [hl]
  have pMi:∀(i:Nat) (M:MemD) (c:List CellT),n.mems[i]?=some M→cs[i]?=some c→(pM (netT n).2.2.2.2.2.2.1 cs i=true↔(M.any=true∨c=[])):=by
   intro i M c hM hc
   have g:gt Za1 (n.mems.map memT) (i:Int)=memT M:=gt_at (σ:=Za1) (by rw [List.getElem?_map,hM];rfl)
   have g2:gt (.sl Za3) cs (i:Int)=c:=gt_at (σ:=.sl Za3) hc
   show (mAny (n.mems.map memT) (i:Int)||decide (cLen cs (i:Int)=0))=true↔_
   unfold mAny cLen
   rw [g,g2]
   show (M.any||decide (List.length (α:=CellT) c=0))=true↔_
   rw [Bool.or_eq_true]
   refine or_congr Iff.rfl ?_
   rw [decide_eq_true_iff]
   exact List.length_eq_zero_iff
  have bit:∀(i:Nat) (M:MemD) (c:List CellT),n.mems[i]?=some M→cs[i]?=some c→∀a j,a<2^M.addr.toNat→j<M.word.toNat→(pLg (L.map latT) (stB n ls cs n.mems.length) (n.latches.length+offM n i+(a*M.word.toNat+j))=true↔(M.any=true∨decide ((rd c (a:Int)).toNat / 2^j % 2=1)=false)):=by
   intro i M c hM hc a j ha' hj
   have hi:=Zhb hM
   have hlt:a*M.word.toNat+j<szM M:=by
    have:=Nat.mul_le_mul_right M.word.toNat (show a+1≤2^M.addr.toNat from ha')
    rw [Nat.succ_mul a] at this
    unfold szM;omega
   have h1:=offM_succ n hM
   have h2':=offM_mono n (show i+1≤n.mems.length from hi)
   have hin:=((P.cell i M hi hM).2.2 _ hlt).2
   have hst:=stB_at ls cs h3 n.mems.length (Nat.le_refl _) i M c hi hM hc a j ha' hj
   rw [h2] at hst
   unfold pLg
   rw [lInit_la (show n.latches.length+offM n i+(a*M.word.toNat+j)<L.length by omega),hin,bAt_nat,hst]
   generalize decide ((rd c (a:Int)).toNat / 2^j % 2=1)=b
   cases M.any<;>cases b<;>simp
  constructor
  ·intro h p hp1 hp2
   have hfind:∀k,k≤n.mems.length→p - n.latches.length<offM n k→∃(i:Nat) (M:MemD),i<k∧n.mems[i]?=some M∧offM n i≤p - n.latches.length∧p - n.latches.length<offM n i+szM M:=by
    intro k
    induction k with
    | zero=>intro _ h;exact absurd h (by show ¬_<0;omega)
    | succ k ih=>
     intro hk h
     have hM:=List.getElem?_eq_getElem (show k<n.mems.length by omega)
     by_cases r:p - n.latches.length<offM n k
     ·obtain ⟨i,M,a,b⟩:=ih (by omega) r
      exact ⟨i,M,by omega,b⟩
     ·rw [offM_succ n hM] at h
      exact ⟨k,_,by omega,hM,by omega,h⟩
   obtain ⟨i,M,hi,hM,a1,a2⟩:=hfind n.mems.length (Nat.le_refl _) (by omega)
   obtain ⟨c,hc⟩:∃c,cs[i]?=some c:=⟨_,List.getElem?_eq_getElem (by omega)⟩
   have hw:0<M.word.toNat:=by
    have:=(mem_rngs hs M (List.mem_of_getElem? hM)).2.1
    omega
   obtain ⟨q,eq⟩:∃q,q=p - n.latches.length - offM n i:=⟨_,rfl⟩
   have hq:q<2^M.addr.toNat*M.word.toNat:=by unfold szM at a2;omega
   have ha1:q / M.word.toNat<2^M.addr.toNat:=by rw [Nat.div_lt_iff_lt_mul hw];exact hq
   have hj1:=Nat.mod_lt q hw
   have:=(bit i M c hM hc (q / M.word.toNat) (q % M.word.toNat) ha1 hj1).2 ?_
   ·rw [Nat.mul_comm,Nat.div_add_mod] at this
    rw [show p=n.latches.length+offM n i+q by omega]
    exact this
   ·rcases (pMi i M c hM hc).1 (h i hi) with r | r
    ·exact .inl r
    ·obtain ⟨r1,r2⟩:=right i M c hM hc
     exact .inr ((cells_none r2 r1).1 r _ _ ha1 hj1)
  ·intro h i hi
   obtain ⟨M,hM⟩:∃M,n.mems[i]?=some M:=⟨_,List.getElem?_eq_getElem hi⟩
   obtain ⟨c,hc⟩:∃c,cs[i]?=some c:=⟨_,List.getElem?_eq_getElem (by omega)⟩
   rw [pMi i M c hM hc]
   cases hany:M.any
   ·obtain ⟨r1,r2⟩:=right i M c hM hc
    refine .inr ((cells_none r2 r1).2 (fun x j hx hj=>?_))
    have hlt:x*M.word.toNat+j<szM M:=by
     have:=Nat.mul_le_mul_right M.word.toNat (show x+1≤2^M.addr.toNat from hx)
     rw [Nat.succ_mul x] at this
     unfold szM;omega
    have h1:=offM_succ n hM
    have h2':=offM_mono n (show i+1≤n.mems.length from hi)
    have:=(bit i M c hM hc x j hx hj).1 (h _ (by omega) (by omega))
    rw [hany] at this
    rcases this with r | r
    ·cases r
    ·exact r
   ·exact .inl rfl
 refine (and_congr eA eB).trans ?_
 have hl:(netT (expN n s L)).2.2.1.length=L.length:=List.length_map ..
 constructor
 ·rintro ⟨q1,q2⟩
  refine ⟨fun i hi=>?_,fun i hi=>absurd hi (Nat.not_lt_zero _)⟩
  rw [hl] at hi
  by_cases q:i<n.latches.length
  ·exact q1 i q
  ·exact q2 i (by omega) hi
 ·rintro ⟨q1,_⟩
  rw [hl] at q1
  exact ⟨fun i hi=>q1 i (by omega),fun i _ hi=>q1 i hi⟩
end
theorem hcl_ofL {cs:List (List CellT)} (h:∀i:Nat,i<cs.length→cLen cs (i:Int)≤100):∀c∈cs,c.length≤100000:=by
 intro c hc
 obtain ⟨i,hi⟩:=List.getElem?_of_mem hc
 have:=h i (Zhb hi)
 have hg:gt (.sl Za3) cs (i:Int)=c:=gt_at (σ:=.sl Za3) hi
 unfold cLen at this
 rw [hg] at this
 exact Nat.le_trans this (by omega)
theorem expandLegals_is (d:Za5.T) (s:Zab.T) (hd:okD Za5 d) (hs:okD Zab s):astrariumlaw13_ExpandLegals_FF (d,(s,()))=some (true,()):=by
 obtain ⟨ls,cs,⟨⟩⟩:=s
 obtain ⟨b,e,h⟩:=Za6b d ls cs []
 have al:=alive13_is
 cases b with
 | false=>exact Zba e (br_tt rfl (Zba al rfl))
 | true=>
  obtain ⟨hl,l1,l2,_,l4,_⟩:=h rfl
  have ft:=fit_of hd hl
  obtain ⟨n,rfl⟩:∃n,d=netT n:=⟨netD d,(Zri d).symm⟩
  rw [Zww] at ft
  have ft':Fit (netD (netT n)):=by rw [Zww];exact ft
  have hT:List.length (netT n).2.2.2.2.2.2.1≤100000:=by show (n.mems.map memT).length≤_;rw [List.length_map];have:=ft.mems.1;omega
  have hL:List.length (netT n).2.2.1≤100000:=by show (n.latches.map latT).length≤_;rw [List.length_map];have:=ft.lat.1;omega
  have hcl:=hcl_ofL l4
  have hok:=okS_of hs.2.1
  have f1:=Zya (netT n) (ls,(cs,())) ft' hT hok
  by_cases hf:fitsF (netT n) (ls,(cs,()))=0
  ·have hc:=(fits0 hf).1
   obtain ⟨V0,hs0,_,_⟩:=check_snd0 hc
   obtain ⟨w,ew⟩:=bits05 hs0
   by_cases hw:64<w
   ·exact Zba e (br_ff rfl (Zba f1 (br_ff (not_f (dec_t hf)) (Zba ew (br_tt (dec_t hw) (Zba al rfl))))))
   ·obtain ⟨s1,_⟩:=state_is13 ft ls cs hok (by omega) hcl
    obtain ⟨x1,x2,x3,x4⟩:=expand_Net_is ft
    by_cases h1:64<cellsN n
    ·exact Zba e (br_ff rfl (Zba f1 (br_ff (not_f (dec_t hf)) (Zba ew (br_ff (dec_f hw) (Zba (x2 hc h1) (Zba s1 (br_tt rfl (Zba al rfl)))))))))
    ·cases hm:muchB n
     ·obtain ⟨V,m,L,cv,e4,hsn,h0,hac,hsm,P,hv⟩:=x4 hc h1 hm
      have hst:stR n ls cs=(0,stB n ls cs n.mems.length):=by unfold stR;rw [if_neg (fun q=>q hf),if_neg h1]
      rw [hst] at s1
      have g1:=Za3d (netT n) ls cs ft' hL hT hok
      have ftm:Fit (netD (netT (expN n m L))):=by rw [Zww];exact exp_fit ft hsn P hv
      have hLm:List.length (netT (expN n m L)).2.2.1≤100000:=by
       have:=(exp_snd hsn P hv).lens.2.1
       show (L.map latT).length≤_
       rw [List.length_map]
       have this:L.length≤2000:=this
       omega
      have g2:=Za3d (netT (expN n m L)) (stB n ls cs n.mems.length) [] ftm hLm (by show 0≤_;omega) (fun c hc=>by cases hc)
      have eqv:=exp_legal hsn h0 hac P hv ls cs hf hok
      have hb:selB true (@decide _ (Bool.decEq (iQ (Zym (netT n) ls cs) 0) (iQ (Zym (netT (expN n m L)) (stB n ls cs n.mems.length) []) 0))) false=true:=by
       have:iQ (Zym (netT n) ls cs) 0=iQ (Zym (netT (expN n m L)) (stB n ls cs n.mems.length) []) 0:=by
        by_cases q:Zym (netT n) ls cs=0
        ·have q2:=eqv.1 q
         exact (dec_t q).trans (dec_t q2).symm
        ·have q2:¬Zym (netT (expN n m L)) (stB n ls cs n.mems.length) []=0:=fun r=>q (eqv.2 r)
         exact (dec_f q).trans (dec_f q2).symm
       rw [this]
       cases iQ (Zym (netT (expN n m L)) (stB n ls cs n.mems.length) []) 0<;>rfl
      exact Zba e (br_ff rfl (Zba f1 (br_ff (not_f (dec_t hf)) (Zba ew (br_ff (dec_f hw) (Zba e4 (Zba s1 (br_ff rfl (br_tt rfl (Zba g1 (Zba g2 (br_tt hb (Zba al rfl)))))))))))))
     ·exact Zba e (br_ff rfl (Zba f1 (br_ff (not_f (dec_t hf)) (Zba ew (br_ff (dec_f hw) (Zba (x3 hc h1 hm) (Zba s1 (br_tt rfl (Zba al rfl)))))))))
  ·exact Zba e (br_ff rfl (Zba f1 (br_tt (not_t (dec_f hf)) (Zba al rfl))))
end Go.Proofs.Ytnocaehijdmkkaa.V
end
