import Derived.Test.YtnocaehijdmkkaaKSa
import Derived.Test.YtnocaehijdmkkaaKXa
import Derived.Test.YtnocaehijdmkkaaKSb
set_option linter.unusedVariables false
set_option linter.unusedSimpArgs false
set_option linter.unnecessarySimpa false
section
namespace Go.Proofs.Ytnocaehijdmkkaa.V
open Go Go.RowKit
set_option maxRecDepth 1000000
abbrev net_Bits_1_σs:List Sh:=[Za1]
abbrev net_Bits_1_τs:List Sh:=[(.int .i64)]
abbrev net_Bits_1_T:=TL net_Bits_1_σs→Option (TL net_Bits_1_τs)
abbrev net_Bits_1_D:=Kd 86 net_Bits_1_σs net_Bits_1_τs
def net_Bits_1_F (a0:Sh.T Za1):Option (TL net_Bits_1_τs):=
 br (iE (10:Int) a0.1)
 (
  some ((1000:Int),()))
 (
  chk (iE (0:Int) a0.1)<|
  some ((IntKind.wrap .i64 (@HMul.hMul (Int) (Int) (Int) _ a0.2.1 (HPow.hPow (2:Int) (Min.min (Int.toNat a0.1) 64)))),()))
def net_Bits_1_G  :net_Bits_1_D:=⟨u1 net_Bits_1_F,pD Try.func86 11 k0 e0 1 (sS l0) fun d=>by kernel_rfl⟩
def net_Bits_1_K:net_Bits_1_D:=net_Bits_1_G  
def net_Bits_1_FF:net_Bits_1_T:=net_Bits_1_K.F
abbrev net_Ports_1_σs:List Sh:=[Za1]
abbrev net_Ports_1_τs:List Sh:=[(.int .i64)]
abbrev net_Ports_1_T:=TL net_Ports_1_σs→Option (TL net_Ports_1_τs)
abbrev net_Ports_1_D:=Kd 63 net_Ports_1_σs net_Ports_1_τs
def net_Ports_1_F (a0:Sh.T Za1):Option (TL net_Ports_1_τs):=
 some ((IntKind.wrap .i64 ((Int.ofNat (List.length a0.2.2.2.1))+(Int.ofNat (List.length a0.2.2.2.2.1)))),())
def net_Ports_1_G  :net_Ports_1_D:=⟨u1 net_Ports_1_F,pD Try.func63 10 k0 e0 1 (sS l0) fun d=>by kernel_rfl⟩
def net_Ports_1_K:net_Ports_1_D:=net_Ports_1_G  
def net_Ports_1_FF:net_Ports_1_T:=net_Ports_1_K.F
abbrev net_sumb_lay:Lay:={ T:=[(0,.agg lNet),(1,.func 86 [] [])],h:=[],nx:=0 }
abbrev net_sumb_outs:List (Ev.Ex×Lay):=[(.ret,{ T:=[(0,.int .i64)],h:=[],nx:=0 })]
abbrev net_sumb_T:=TL net_sumb_lay.σs→Option (Out net_sumb_outs)
abbrev net_sumb_D:=Kb 62 2 net_sumb_lay 1 net_sumb_outs
abbrev net_sumb_lay2:Lay:={ T:=[(1,.func 86 [] []),(4,.int .i64),(8,.fz Za1),(9,.int .i64),(10,.int .i64)],h:=[],nx:=0 }
abbrev net_sumb_outs2:List (Ev.Ex×Lay):=[((.exit 0),{ T:=[(4,.int .i64)],h:=[],nx:=0 })]
abbrev net_sumb_T2:=TL net_sumb_lay2.σs→Option (Out net_sumb_outs2)
abbrev net_sumb_D2:=Ld 0 21 (Zb5 [0] (Zaa Try.f62)) net_sumb_lay2 net_sumb_outs2
def net_sumb_B2 (F0:net_Bits_1_T) (t4:Int) (t8:List (Sh.T Za1)) (t9 t10:Int):Option (TL net_sumb_lay2.σs⊕Out net_sumb_outs2):=
 br (iL t10 t9)
 (
  chk (inb t10 (List.length t8))<|
  bnd (F0 (((gt Za1 t8 t10).1,((gt Za1 t8 t10).2.1,((gt Za1 t8 t10).2.2.1,((gt Za1 t8 t10).2.2.2.1,((gt Za1 t8 t10).2.2.2.2.1,()))))),())) fun x0=>
  some (.inl ((IntKind.wrap .i64 (@HAdd.hAdd (Int) (Int) (Int) _ t4 x0.1)),(t8,(t9,((IntKind.wrap .i64 (t10+(1:Int))),()))))))
 (
  some (.inr (t4,())))
def net_sumb_M2 (c0:net_Bits_1_D) :net_sumb_D2:=mkL (u4 (net_sumb_B2 c0.F)) (pL (kD c0 k0) e0 1 l0 fun d=>by kernel_rfl)
def net_sumb_N2:net_sumb_D2:=net_sumb_M2 net_Bits_1_K 
def net_sumb_L2:net_sumb_T2:=lpD (u4 (net_sumb_B2 net_Bits_1_FF)) NN
def net_sumb_F (F0:net_Bits_1_T) (L2:net_sumb_T2) (t0_0:Int) (t0_1:List Int) (t0_2:List (Sh.T Za0)) (t0_3 t0_4 t0_5:List Int) (t0_6:List (Sh.T Za1)) (t0_7:List (Sh.T Za0)):Option (Out net_sumb_outs):=
 bnd (L2 ((0:Int),(t0_6,((Int.ofNat (List.length t0_6)),((0:Int),()))))) fun x0=>
 some (x0.1,())
def net_sumb_G (c0:net_Bits_1_D) (M2:net_sumb_D2):net_sumb_D:=⟨u8 (net_sumb_F c0.F M2.L),pB Try.func62 21 (kD c0 k0) e0 1 (sS (sC M2 l0)) fun d=>by kernel_rfl⟩
def net_sumb_K:net_sumb_D:=net_sumb_G net_Bits_1_K net_sumb_N2
def net_sumb_FF:net_sumb_T:=net_sumb_K.F
abbrev net_sump_lay:Lay:={ T:=[(0,.agg lNet),(1,.func 63 [] [])],h:=[],nx:=0 }
abbrev net_sump_outs:List (Ev.Ex×Lay):=[(.ret,{ T:=[(0,.int .i64)],h:=[],nx:=0 })]
abbrev net_sump_T:=TL net_sump_lay.σs→Option (Out net_sump_outs)
abbrev net_sump_D:=Kb 62 2 net_sump_lay 1 net_sump_outs
abbrev net_sump_lay2:Lay:={ T:=[(1,.func 63 [] []),(4,.int .i64),(8,.fz Za1),(9,.int .i64),(10,.int .i64)],h:=[],nx:=0 }
abbrev net_sump_outs2:List (Ev.Ex×Lay):=[((.exit 0),{ T:=[(4,.int .i64)],h:=[],nx:=0 })]
abbrev net_sump_T2:=TL net_sump_lay2.σs→Option (Out net_sump_outs2)
abbrev net_sump_D2:=Ld 0 21 (Zb5 [0] (Zaa Try.f62)) net_sump_lay2 net_sump_outs2
def net_sump_B2 (F0:net_Ports_1_T) (t4:Int) (t8:List (Sh.T Za1)) (t9 t10:Int):Option (TL net_sump_lay2.σs⊕Out net_sump_outs2):=
 br (iL t10 t9)
 (
  chk (inb t10 (List.length t8))<|
  bnd (F0 (((gt Za1 t8 t10).1,((gt Za1 t8 t10).2.1,((gt Za1 t8 t10).2.2.1,((gt Za1 t8 t10).2.2.2.1,((gt Za1 t8 t10).2.2.2.2.1,()))))),())) fun x0=>
  some (.inl ((IntKind.wrap .i64 (@HAdd.hAdd (Int) (Int) (Int) _ t4 x0.1)),(t8,(t9,((IntKind.wrap .i64 (t10+(1:Int))),()))))))
 (
  some (.inr (t4,())))
def net_sump_M2 (c0:net_Ports_1_D) :net_sump_D2:=mkL (u4 (net_sump_B2 c0.F)) (pL (kD c0 k0) e0 1 l0 fun d=>by kernel_rfl)
def net_sump_N2:net_sump_D2:=net_sump_M2 net_Ports_1_K 
def net_sump_L2:net_sump_T2:=lpD (u4 (net_sump_B2 net_Ports_1_FF)) NN
def net_sump_F (F0:net_Ports_1_T) (L2:net_sump_T2) (t0_0:Int) (t0_1:List Int) (t0_2:List (Sh.T Za0)) (t0_3 t0_4 t0_5:List Int) (t0_6:List (Sh.T Za1)) (t0_7:List (Sh.T Za0)):Option (Out net_sump_outs):=
 bnd (L2 ((0:Int),(t0_6,((Int.ofNat (List.length t0_6)),((0:Int),()))))) fun x0=>
 some (x0.1,())
def net_sump_G (c0:net_Ports_1_D) (M2:net_sump_D2):net_sump_D:=⟨u8 (net_sump_F c0.F M2.L),pB Try.func62 21 (kD c0 k0) e0 1 (sS (sC M2 l0)) fun d=>by kernel_rfl⟩
def net_sump_K:net_sump_D:=net_sump_G net_Ports_1_K net_sump_N2
def net_sump_FF:net_sump_T:=net_sump_K.F
abbrev net_Bits_σs:List Sh:=[Za5]
abbrev net_Bits_τs:List Sh:=[(.int .i64)]
abbrev net_Bits_T:=TL net_Bits_σs→Option (TL net_Bits_τs)
abbrev net_Bits_D:=Kd 50 net_Bits_σs net_Bits_τs
def net_Bits_F (F0:net_sump_T) (F1:net_sumb_T) (a0:Sh.T Za5):Option (TL net_Bits_τs):=
 bnd (F1 a0) fun x0=>
 some ((selI (iL (1000:Int) (IntKind.wrap .i64 (@HAdd.hAdd (Int) (Int) (Int) _ (Int.ofNat (List.length a0.2.2.1)) x0.1))) (1000:Int) (IntKind.wrap .i64 (@HAdd.hAdd (Int) (Int) (Int) _ (Int.ofNat (List.length a0.2.2.1)) x0.1))),())
def net_Bits_G (c0:net_sump_D) (c1:net_sumb_D) :net_Bits_D:=⟨u1 (net_Bits_F c0.F c1.F),pD Try.func50 12 (kB c0 (kB c1 k0)) e0 1 (sS l0) fun d=>by kernel_rfl⟩
def net_Bits_K:net_Bits_D:=net_Bits_G net_sump_K net_sumb_K 
def net_Bits_FF:net_Bits_T:=net_Bits_K.F
abbrev net_Ports_σs:List Sh:=[Za5]
abbrev net_Ports_τs:List Sh:=[(.int .i64)]
abbrev net_Ports_T:=TL net_Ports_σs→Option (TL net_Ports_τs)
abbrev net_Ports_D:=Kd 31 net_Ports_σs net_Ports_τs
def net_Ports_F (F0:net_sump_T) (F1:net_sumb_T) (a0:Sh.T Za5):Option (TL net_Ports_τs):=
 bnd (F0 a0) fun x0=>
 some (x0.1,())
def net_Ports_G (c0:net_sump_D) (c1:net_sumb_D) :net_Ports_D:=⟨u1 (net_Ports_F c0.F c1.F),pD Try.func31 5 (kB c0 (kB c1 k0)) e0 1 (sS l0) fun d=>by kernel_rfl⟩
def net_Ports_K:net_Ports_D:=net_Ports_G net_sump_K net_sumb_K 
def net_Ports_FF:net_Ports_T:=net_Ports_K.F
abbrev expand_Cells_σs:List Sh:=[Za5]
abbrev expand_Cells_τs:List Sh:=[(.int .i64)]
abbrev expand_Cells_T:=TL expand_Cells_σs→Option (TL expand_Cells_τs)
abbrev expand_Cells_D:=Kd 22 expand_Cells_σs expand_Cells_τs
def expand_Cells_F (F0:net_Bits_T) (F1:Zaq7) (a0:Sh.T Za5):Option (TL expand_Cells_τs):=
 bnd (F1 (a0,())) fun x0=>
 br (Bool.not (iQ x0.1 (0:Int)))
 (
  some ((0:Int),()))
 (
  bnd (F0 (((0:Int),([],([],([],([],([],(a0.2.2.2.2.2.2.1,([],())))))))),())) fun x1=>
  some ((selI (iL (1000:Int) x1.1) (1000:Int) x1.1),()))
def expand_Cells_G (c0:net_Bits_D) (c1:Zamw) :expand_Cells_D:=⟨u1 (expand_Cells_F c0.F c1.F),pD Try.func22 11 (kD c0 (kD c1 k0)) e0 1 (sS l0) fun d=>by kernel_rfl⟩
def expand_Cells_K:expand_Cells_D:=expand_Cells_G net_Bits_K Zaq8 
def expand_Cells_FF:expand_Cells_T:=expand_Cells_K.F
abbrev astrariumref13_Cells_lay5:Lay:={ T:=[(1,.ptr 0 0),(3,.int .i64),(4,.int .i64)],h:=[(0,.cells lNet 27)],nx:=1 }
abbrev astrariumref13_Cells_outs5:List (Ev.Ex×Lay):=[((.exit 0),{ T:=[(3,.int .i64)],h:=[],nx:=0 })]
abbrev astrariumref13_Cells_T5:=TL astrariumref13_Cells_lay5.σs→Option (Out astrariumref13_Cells_outs5)
abbrev astrariumref13_Cells_D5:=Ld 0 44 (Zb5 [0] (Zaa Try.f11)) astrariumref13_Cells_lay5 astrariumref13_Cells_outs5
abbrev astrariumref13_Cells_lay9:Lay:={ T:=[(1,.ptr 0 0),(3,.int .i64),(4,.int .i64),(5,.int .i64),(6,.int .i64)],h:=[(0,.cells lNet 27)],nx:=1 }
abbrev astrariumref13_Cells_outs9:List (Ev.Ex×Lay):=[((.exit 2),{ T:=[(1,.ptr 0 0),(3,.int .i64),(4,.int .i64),(5,.int .i64)],h:=[(0,.cells lNet 27)],nx:=1 })]
abbrev astrariumref13_Cells_T9:=TL astrariumref13_Cells_lay9.σs→Option (Out astrariumref13_Cells_outs9)
abbrev astrariumref13_Cells_D9:=Ld 0 44 (Zb5 [0,0] (Zaa Try.f11)) astrariumref13_Cells_lay9 astrariumref13_Cells_outs9
def astrariumref13_Cells_B9 (t3 t4 t5 t6 b0_0:Int) (b0_1:List Int) (b0_2:List (Sh.T Za0)) (b0_3 b0_4 b0_5:List Int) (b0_6:List (Sh.T Za1)) (b0_7:List (Sh.T Za0)):Option (TL astrariumref13_Cells_lay9.σs⊕Out astrariumref13_Cells_outs9):=
 chk (inb t4 (List.length b0_6))<|
 br (iL t6 (gt Za1 b0_6 t4).1)
 (
  br (selB true (iL t5 (1000:Int)) false)
  (
   some (.inl (t3,(t4,((IntKind.wrap .i64 ((2:Int)*t5)),((IntKind.wrap .i64 (t6+(1:Int))),(b0_0,(b0_1,(b0_2,(b0_3,(b0_4,(b0_5,(b0_6,(b0_7,()))))))))))))))
  (
   some (.inr (t3,(t4,(t5,(b0_0,(b0_1,(b0_2,(b0_3,(b0_4,(b0_5,(b0_6,(b0_7,()))))))))))))))
 (
  some (.inr (t3,(t4,(t5,(b0_0,(b0_1,(b0_2,(b0_3,(b0_4,(b0_5,(b0_6,(b0_7,())))))))))))))
def astrariumref13_Cells_N9  :astrariumref13_Cells_D9:=mkL (u12 astrariumref13_Cells_B9) (pL k0 e0 1 l0 fun d=>by kernel_rfl)
def astrariumref13_Cells_L9:astrariumref13_Cells_T9:=lpD (u12 astrariumref13_Cells_B9) NN
def astrariumref13_Cells_B5 (L9:astrariumref13_Cells_T9) (t3 t4 b0_0:Int) (b0_1:List Int) (b0_2:List (Sh.T Za0)) (b0_3 b0_4 b0_5:List Int) (b0_6:List (Sh.T Za1)) (b0_7:List (Sh.T Za0)):Option (TL astrariumref13_Cells_lay5.σs⊕Out astrariumref13_Cells_outs5):=
 br (iL t4 (Int.ofNat (List.length b0_6)))
 (
  chk (inb t4 (List.length b0_6))<|
  bnd (L9 (t3,(t4,((gt Za1 b0_6 t4).2.1,((0:Int),(b0_0,(b0_1,(b0_2,(b0_3,(b0_4,(b0_5,(b0_6,(b0_7,()))))))))))))) fun x0=>
  some (.inl ((IntKind.wrap .i64 (@HAdd.hAdd (Int) (Int) (Int) _ x0.1 x0.2.2.1)),((IntKind.wrap .i64 (@HAdd.hAdd (Int) (Int) (Int) _ x0.2.1 (1:Int))),x0.2.2.2))))
 (
  some (.inr (t3,())))
def astrariumref13_Cells_M5 (M9:astrariumref13_Cells_D9):astrariumref13_Cells_D5:=mkL (u10 (astrariumref13_Cells_B5 M9.L)) (pL k0 e0 1 (sC M9 l0) fun d=>by kernel_rfl)
def astrariumref13_Cells_N5:astrariumref13_Cells_D5:=astrariumref13_Cells_M5  astrariumref13_Cells_N9
def astrariumref13_Cells_L5:astrariumref13_Cells_T5:=lpD (u10 (astrariumref13_Cells_B5 astrariumref13_Cells_L9)) NN
abbrev astrariumref13_Cells_σs:List Sh:=[Za5]
abbrev astrariumref13_Cells_τs:List Sh:=[(.int .i64)]
abbrev astrariumref13_Cells_T:=TL astrariumref13_Cells_σs→Option (TL astrariumref13_Cells_τs)
abbrev astrariumref13_Cells_D:=Kd 11 astrariumref13_Cells_σs astrariumref13_Cells_τs
def astrariumref13_Cells_F (F0:Zadp) (L5:astrariumref13_Cells_T5) (L9:astrariumref13_Cells_T9) (a0:Sh.T Za5):Option (TL astrariumref13_Cells_τs):=
 bnd (F0 (a0,())) fun x0=>
 br (Bool.not (iQ x0.1 (0:Int)))
 (
  some ((0:Int),()))
 (
  bnd (L5 ((0:Int),((0:Int),a0))) fun x1=>
  some ((selI (iL (1000:Int) x1.1) (1000:Int) x1.1),()))
def astrariumref13_Cells_G (c0:Zacr) (M5:astrariumref13_Cells_D5) (M9:astrariumref13_Cells_D9):astrariumref13_Cells_D:=⟨u1 (astrariumref13_Cells_F c0.F M5.L M9.L),pD Try.func11 44 (kD c0 k0) e0 1 (sS (sC M5 l0)) fun d=>by kernel_rfl⟩
def astrariumref13_Cells_K:astrariumref13_Cells_D:=astrariumref13_Cells_G Zadq astrariumref13_Cells_N5 astrariumref13_Cells_N9
def astrariumref13_Cells_FF:astrariumref13_Cells_T:=astrariumref13_Cells_K.F
end Go.Proofs.Ytnocaehijdmkkaa.V
end
section
namespace Go.Proofs.Ytnocaehijdmkkaa.V
open Go Go.RowKit
open Go.Proofs.Ytnocaehijdmkkaa.Pl
def cutT (x:Int):Int:=if 1000<x then 1000 else x
def tP (m:MemD):Int:=if 10≤m.addr then 1000 else m.word*2^m.addr.toNat
def dblF (w:Int):Nat→Int
 | 0=>w
 | k+1=>if dblF w k<1000 then 2*dblF w k else dblF w k
def sumP (l:List MemD):Int:=l.foldl (fun a m=>a+tP m) 0
def sumR (l:List MemD):Int:=l.foldl (fun a m=>a+dblF m.word m.addr.toNat) 0
def Many (t u:Int):Prop:=t=u∨(1000≤t∧1000≤u)
theorem cut_many {t u:Int} (h:Many t u):cutT t=cutT u:=by
 unfold cutT
 rcases h with rfl | ⟨h1,h2⟩
 ·rfl
 ·split<;>split<;>omega
theorem pow_pos2 (k:Nat):(1:Int)≤2^k:=by
 have:=Int.pow_pos (n:=(2:Int)) (m:=k) (by decide)
 omega
theorem mul_mono {w a b:Int} (hw:0≤w) (h:a≤b):w*a≤w*b:=Int.mul_le_mul_of_nonneg_left h hw
theorem dbl_rel {w:Int} (hw:1≤w):∀k,dblF w k=w*2^k∨(1000≤dblF w k∧1000≤w*2^k):=by
 intro k
 induction k with
 | zero=>left;rw [dblF];simp
 | succ k ih=>
  have e:w*2^(k+1)=2*(w*2^k):=by rw [Int.pow_succ];rw [←Int.mul_assoc,Int.mul_comm]
  rw [dblF,e]
  split
  ·rename_i q
   rcases ih with h | ⟨h1,h2⟩
   ·left;rw [h]
   ·omega
  ·rename_i q
   right
   rcases ih with h | ⟨h1,h2⟩<;>omega
theorem dbl_low {w:Int} (hw:1≤w):∀k,w≤dblF w k:=by
 intro k
 induction k with
 | zero=>rw [dblF];omega
 | succ k ih=>rw [dblF];split<;>omega
theorem dbl_up {w:Int} (hw:w≤64):∀k,dblF w k≤2000:=by
 intro k
 induction k with
 | zero=>rw [dblF];omega
 | succ k ih=>rw [dblF];split<;>omega
theorem dbl_stay {w:Int} {k:Nat} (h:1000≤dblF w k):∀j,dblF w (k+j)=dblF w k:=by
 intro j
 induction j with
 | zero=>rfl
 | succ j ih=>rw [show k+(j+1)=k+j+1 by omega,dblF,ih,if_neg (by omega)]
theorem many_mem {m:MemD} (h1:1≤m.addr) (h2:1≤m.word):Many (tP m) (dblF m.word m.addr.toNat):=by
 have r:=dbl_rel h2 m.addr.toNat
 unfold tP
 split
 ·rename_i q
  right
  have p:(2:Int)^10≤2^m.addr.toNat:=by
   have:=Nat.pow_le_pow_right (n:=2) (by decide) (show 10≤m.addr.toNat by omega)
   exact_mod_cast this
  have p2:(2:Int)^10=1024:=by decide
  have p3:=mul_mono (w:=m.word) (by omega) p
  have p4:=mul_mono (w:=1024) (a:=1) (b:=m.word) (by omega) h2
  rw [p2] at p3
  have p5:m.word*1024=1024*m.word:=Int.mul_comm ..
  rcases r with h | ⟨a,b⟩<;>omega
 ·rcases r with h | ⟨a,b⟩
  ·left;exact h.symm
  ·right;exact ⟨b,a⟩
theorem tP_rng {m:MemD} (h1:1≤m.addr) (h2:1≤m.word) (h3:m.word≤64):0≤tP m∧tP m≤40000:=by
 unfold tP
 split
 ·omega
 ·have p:(2:Int)^m.addr.toNat≤2^9:=by
   have:=Nat.pow_le_pow_right (n:=2) (by decide) (show m.addr.toNat≤9 by omega)
   exact_mod_cast this
  have p2:(2:Int)^9=512:=by decide
  have p3:=mul_mono (w:=m.word) (by omega) p
  have p4:=mul_mono (w:=m.word) (by omega) (pow_pos2 m.addr.toNat)
  rw [p2] at p3
  omega
theorem many_add {a b c d:Int} (h1:Many a b) (h2:Many c d) (ha:0≤a) (hb:0≤b) (hc:0≤c) (hd:0≤d):Many (a+c) (b+d):=by
 rcases h1 with h1 | h1<;>rcases h2 with h2 | h2
 ·left;omega
 ·right;omega
 ·right;omega
 ·right;omega
theorem sum_many:∀(l:List MemD) (a b:Int),(∀m∈l,1≤m.addr∧1≤m.word∧m.word≤64)→Many a b→0≤a→0≤b→Many (l.foldl (fun a m=>a+tP m) a) (l.foldl (fun a m=>a+dblF m.word m.addr.toNat) b):=by
 intro l
 induction l with
 | nil=>intro a b _ h _ _;exact h
 | cons m l ih=>
  intro a b hl h ha hb
  obtain ⟨h1,h2,h3⟩:=hl m (by simp)
  have t:=tP_rng h1 h2 h3
  have u:=dbl_low h2 m.addr.toNat
  exact ih _ _ (fun x hx=>hl x (by simp [hx])) (many_add h (many_mem h1 h2) ha hb t.1 (by omega)) (show 0≤a+tP m by omega) (show 0≤b+dblF m.word m.addr.toNat by omega)
theorem sumP_rng:∀(l:List MemD) (a:Int),(∀m∈l,1≤m.addr∧1≤m.word∧m.word≤64)→a≤l.foldl (fun a m=>a+tP m) a∧l.foldl (fun a m=>a+tP m) a≤a+40000*(l.length:Int):=by
 intro l
 induction l with
 | nil=>intro a _;exact ⟨Int.le_refl _,by simp⟩
 | cons m l ih=>
  intro a hl
  obtain ⟨h1,h2,h3⟩:=hl m (by simp)
  have t:=tP_rng h1 h2 h3
  obtain ⟨x,y⟩:=ih (a+tP m) (fun x hx=>hl x (by simp [hx]))
  rw [List.foldl_cons,List.length_cons]
  omega
theorem sumR_rng:∀(l:List MemD) (a:Int),(∀m∈l,1≤m.addr∧1≤m.word∧m.word≤64)→a≤l.foldl (fun a m=>a+dblF m.word m.addr.toNat) a∧l.foldl (fun a m=>a+dblF m.word m.addr.toNat) a≤a+2000*(l.length:Int):=by
 intro l
 induction l with
 | nil=>intro a _;exact ⟨Int.le_refl _,by simp⟩
 | cons m l ih=>
  intro a hl
  obtain ⟨h1,h2,h3⟩:=hl m (by simp)
  have t:=dbl_low h2 m.addr.toNat
  have t2:=dbl_up h3 m.addr.toNat
  obtain ⟨x,y⟩:=ih (a+dblF m.word m.addr.toNat) (fun x hx=>hl x (by simp [hx]))
  rw [List.foldl_cons,List.length_cons]
  omega
def cellsN (n:NetD):Int:=if Pl.Zkz n≠0 then 0 else cutT (sumP n.mems)
section
variable {n:NetD} {V:Nat} (hs:Snd n V)
include hs
theorem mem_rngs:∀m∈n.mems,1≤m.addr∧1≤m.word∧m.word≤64:=fun m hm=>by
 obtain ⟨m1,m2,m3,m4,_⟩:=hs.mems m hm
 exact ⟨m1,m3,m4⟩
end
section
variable {n:NetD} {V:Nat}
theorem sel_cut (x:Int):selI (iL (1000:Int) x) (1000:Int) x=cutT x:=by
 unfold cutT selI
 by_cases q:1000<x
 ·rw [if_pos q,show iL (1000:Int) x=true from dec_t q]
 ·rw [if_neg q,show iL (1000:Int) x=false from dec_f q]
end
section
variable {n:NetD} {V:Nat} (hs:Snd n V)
include hs
theorem sumb_is:net_sumb_FF ((0:Int),([],([],([],([],([],(n.mems.map memT,([],()))))))))=some (sumP n.mems,()):=by
 have hM:=hs.lens.2.2.2.2
 have hL:((n.mems.map memT).length:Int)=(n.mems.length:Int):=by rw [List.length_map]
 have e2:net_sumb_L2 ((0:Int),(n.mems.map memT,(((n.mems.map memT).length:Int),((0:Int),()))))=some (sumP n.mems,()):=by
  unfold net_sumb_L2;delta u4
  refine Zif (fun k:Nat=>(sumP (n.mems.take k),(n.mems.map memT,(((n.mems.map memT).length:Int),((k:Int),()))))) n.mems.length rfl ?_ ?_ (Ze8 (by omega))
  ·intro k hk
   have hx:=List.getElem?_eq_getElem hk
   obtain ⟨h1,h2,h3⟩:=mem_rngs hs _ (List.getElem_mem hk)
   have t:=tP_rng h1 h2 h3
   have hx':(n.mems.map memT)[k]?=some (memT n.mems[k]):=by rw [List.getElem?_map,hx];rfl
   have g:gt Za1 (n.mems.map memT) (k:Int)=memT n.mems[k]:=gt_at (σ:=Za1) hx'
   have eb:net_Bits_1_FF (memT n.mems[k],())=some (tP n.mems[k],()):=by
    show net_Bits_1_F (memT n.mems[k])=_
    unfold net_Bits_1_F tP
    by_cases q:10≤n.mems[k].addr
    ·rw [if_pos q];exact br_tt (dec_t q) rfl
    ·rw [if_neg q]
     have e:∀p q:Int,p=q→(some (p,()):Option (TL net_Bits_1_τs))=some (q,()):=by rintro _ _ rfl;rfl
     refine br_ff (dec_f q) (Zaj (dec_t (show (0:Int)≤n.mems[k].addr by omega)) (e _ _ ?_))
     show IntKind.wrap .i64 (n.mems[k].word*2^min (Int.toNat n.mems[k].addr) 64)=_
     rw [Nat.min_eq_left (by omega)]
     unfold tP at t
     rw [if_neg q] at t
     exact i64w (by omega)
   have eb':net_Bits_1_FF (((gt Za1 (n.mems.map memT) (k:Int)).1,((gt Za1 (n.mems.map memT) (k:Int)).2.1,((gt Za1 (n.mems.map memT) (k:Int)).2.2.1,((gt Za1 (n.mems.map memT) (k:Int)).2.2.2.1,((gt Za1 (n.mems.map memT) (k:Int)).2.2.2.2.1,()))))),())=some (tP n.mems[k],()):=by rw [g];exact eb
   have hr:=sumP_rng (n.mems.take k) 0 (fun m hm=>mem_rngs hs m (List.mem_of_mem_take hm))
   have hl:(n.mems.take k).length≤4:=by rw [List.length_take];omega
   have hst:sumP (n.mems.take (k+1))=sumP (n.mems.take k)+tP n.mems[k]:=by unfold sumP;rw [Pl.Zd8 hx,List.foldl_append];rfl
   have e:∀(a b p q:Int),a=b→p=q→(some (.inl (a,(n.mems.map memT,(((n.mems.map memT).length:Int),(p,()))))):Option (TL net_sumb_lay2.σs⊕Out net_sumb_outs2))=some (.inl (b,(n.mems.map memT,(((n.mems.map memT).length:Int),(q,()))))):=by rintro _ _ _ _ rfl rfl;rfl
   have hr:0≤sumP (n.mems.take k)∧sumP (n.mems.take k)≤0+40000*((n.mems.take k).length:Int):=hr
   refine br_tt (dec_t (show (k:Int)<((n.mems.map memT).length:Int) by omega)) (Zaj (show inb (k:Int) (List.length (n.mems.map memT))=true from Zar ⟨by omega,by omega⟩) (Zba eb' (e _ _ _ _ ?_ (i64n (show (k:Int)+1=((k+1:Nat):Int) by omega) (by omega)))))
   rw [hst]
   exact i64w (by omega)
  ·have e:∀(a b:Int),a=b→(some (.inr (a,())):Option (TL net_sumb_lay2.σs⊕Out net_sumb_outs2))=some (.inr (b,())):=by rintro _ _ rfl;rfl
   rw [List.take_length]
   exact br_ff (dec_f (show ¬(n.mems.length:Int)<((n.mems.map memT).length:Int) by omega)) rfl
 exact Zba e2 rfl
theorem bitsN_is:net_Bits_FF (((0:Int),([],([],([],([],([],(n.mems.map memT,([],())))))))),())=some (cutT (sumP n.mems),()):=by
 have hM:=hs.lens.2.2.2.2
 have e1:=sumb_is hs
 have hr:=sumP_rng n.mems 0 (mem_rngs hs)
 have hr:0≤sumP n.mems∧sumP n.mems≤0+40000*(n.mems.length:Int):=hr
 have w:IntKind.wrap .i64 (((0:Nat):Int)+sumP n.mems)=sumP n.mems:=by rw [show ((0:Nat):Int)+sumP n.mems=sumP n.mems by omega];exact i64w (by omega)
 have e:∀(a b:Int),a=b→(some (a,()):Option (TL net_Bits_τs))=some (b,()):=by rintro _ _ rfl;rfl
 refine Zba e1 (e _ _ ?_)
 show selI (iL (1000:Int) (IntKind.wrap .i64 (((0:Nat):Int)+sumP n.mems))) (1000:Int) (IntKind.wrap .i64 (((0:Nat):Int)+sumP n.mems))=_
 rw [w]
 exact sel_cut _
theorem refC_9 {k:Nat} {m:MemD} (hm:n.mems[k]?=some m) (acc:Int) :
  astrariumref13_Cells_L9 (acc,((k:Int),(m.word,((0:Int),nt n ()))))=some (acc,((k:Int),(dblF m.word m.addr.toNat,nt n ()))):=by
 obtain ⟨h1,h2,h3⟩:=mem_rngs hs m (List.mem_of_getElem? hm)
 obtain ⟨_,h4,_⟩:=hs.mems m (List.mem_of_getElem? hm)
 have hk:=Zhb hm
 have hL:((n.mems.map memT).length:Int)=(n.mems.length:Int):=by rw [List.length_map]
 have hM:=hs.lens.2.2.2.2
 have hx':(n.mems.map memT)[k]?=some (memT m):=by rw [List.getElem?_map,hm];rfl
 have g:gt Za1 (n.mems.map memT) (k:Int)=memT m:=gt_at (σ:=Za1) hx'
 have hin:inb (k:Int) (List.length (n.mems.map memT))=true:=Zar ⟨by omega,by omega⟩
 have hq:=Za80 (B:=fun d=>astrariumref13_Cells_B9 d.1 d.2.1 d.2.2.1 d.2.2.2.1 d.2.2.2.2.1 d.2.2.2.2.2.1 d.2.2.2.2.2.2.1 d.2.2.2.2.2.2.2.1 d.2.2.2.2.2.2.2.2.1 d.2.2.2.2.2.2.2.2.2.1 d.2.2.2.2.2.2.2.2.2.2.1 d.2.2.2.2.2.2.2.2.2.2.2.1)
  (I:=fun d:TL astrariumref13_Cells_lay9.σs=>∃j:Nat,j≤m.addr.toNat∧d=(acc,((k:Int),(dblF m.word j,((j:Int),nt n ())))))
  (Q:=fun o:Out astrariumref13_Cells_outs9=>o=(acc,((k:Int),(dblF m.word m.addr.toNat,nt n ()))))
  (fun d:TL astrariumref13_Cells_lay9.σs=>m.addr.toNat - Int.toNat d.2.2.2.1) ?_ NN (acc,((k:Int),(m.word,((0:Int),nt n ())))) ⟨0,by omega,rfl⟩ (Ze8 (by show m.addr.toNat - _≤_;omega))
 ·obtain ⟨o,ho,rfl⟩:=hq
  exact ho
 ·rintro d ⟨j,hj,rfl⟩
  have e0:(gt Za1 (n.mems.map memT) (k:Int)).1=m.addr:=by rw [g];rfl
  by_cases q:j<m.addr.toNat
  ·have c0:iL (j:Int) (gt Za1 (n.mems.map memT) (k:Int)).1=true:=dec_t (by rw [e0];omega)
   have lo:=dbl_low h2 j
   have up:=dbl_up h3 j
   by_cases r:dblF m.word j<1000
   ·refine .inr ⟨(acc,((k:Int),(dblF m.word (j+1),(((j+1:Nat):Int),nt n ())))),?_,⟨j+1,by omega,rfl⟩,by show m.addr.toNat - Int.toNat ((j+1:Nat):Int)<m.addr.toNat - Int.toNat (j:Int);omega⟩
    have e:∀(a b p q:Int),a=b→p=q→(some (.inl (acc,((k:Int),(a,(p,nt n ()))))):Option (TL astrariumref13_Cells_lay9.σs⊕Out astrariumref13_Cells_outs9))=some (.inl (acc,((k:Int),(b,(q,nt n ()))))):=by rintro _ _ _ _ rfl rfl;rfl
    refine Zaj hin (br_tt c0 (br_tt (show selB true (iL (dblF m.word j) (1000:Int)) false=true from dec_t r) (e _ _ _ _ ?_ (i64n (show (j:Int)+1=((j+1:Nat):Int) by omega) (by omega)))))
    rw [dblF,if_pos r]
    exact i64w (x:=2*dblF m.word j) (by omega)
   ·refine .inl ⟨_,Zaj hin (br_tt c0 (br_ff (show selB true (iL (dblF m.word j) (1000:Int)) false=false from dec_f r) rfl)),?_⟩
    have:=dbl_stay (w:=m.word) (k:=j) (by omega) (m.addr.toNat - j)
    rw [show j+(m.addr.toNat - j)=m.addr.toNat by omega] at this
    rw [this];rfl
  ·obtain rfl:j=m.addr.toNat:=by omega
   exact .inl ⟨_,Zaj hin (br_ff (dec_f (show ¬((m.addr.toNat:Nat):Int)<(gt Za1 (n.mems.map memT) (k:Int)).1 by rw [e0];omega)) rfl),rfl⟩
theorem refC_5:astrariumref13_Cells_L5 ((0:Int),((0:Int),nt n ()))=some (sumR n.mems,()):=by
 have hM:=hs.lens.2.2.2.2
 have hL:((n.mems.map memT).length:Int)=(n.mems.length:Int):=by rw [List.length_map]
 unfold astrariumref13_Cells_L5;delta u10
 refine Zif (fun k:Nat=>(sumR (n.mems.take k),((k:Int),nt n ()))) n.mems.length rfl ?_ ?_ (Ze8 (by omega))
 ·intro k hk
  have hx:=List.getElem?_eq_getElem hk
  have hx':(n.mems.map memT)[k]?=some (memT n.mems[k]):=by rw [List.getElem?_map,hx];rfl
  have g:gt Za1 (n.mems.map memT) (k:Int)=memT n.mems[k]:=gt_at (σ:=Za1) hx'
  obtain ⟨h1,h2,h3⟩:=mem_rngs hs _ (List.getElem_mem hk)
  have lo:=dbl_low h2 n.mems[k].addr.toNat
  have up:=dbl_up h3 n.mems[k].addr.toNat
  have e9:astrariumref13_Cells_L9 (sumR (n.mems.take k),((k:Int),((gt Za1 (n.mems.map memT) (k:Int)).2.1,((0:Int),nt n ()))))=some (sumR (n.mems.take k),((k:Int),(dblF n.mems[k].word n.mems[k].addr.toNat,nt n ()))):=by rw [g];exact refC_9 hs hx _
  have hr:0≤sumR (n.mems.take k)∧sumR (n.mems.take k)≤0+2000*((n.mems.take k).length:Int):=sumR_rng (n.mems.take k) 0 (fun m hm=>mem_rngs hs m (List.mem_of_mem_take hm))
  have hl:(n.mems.take k).length≤4:=by rw [List.length_take];omega
  have hst:sumR (n.mems.take (k+1))=sumR (n.mems.take k)+dblF n.mems[k].word n.mems[k].addr.toNat:=by unfold sumR;rw [Pl.Zd8 hx,List.foldl_append];rfl
  have e:∀(a b p q:Int),a=b→p=q→(some (.inl (a,(p,nt n ()))):Option (TL astrariumref13_Cells_lay5.σs⊕Out astrariumref13_Cells_outs5))=some (.inl (b,(q,nt n ()))):=by rintro _ _ _ _ rfl rfl;rfl
  refine br_tt (dec_t (show (k:Int)<((n.mems.map memT).length:Int) by omega)) (Zaj (show inb (k:Int) (List.length (n.mems.map memT))=true from Zar ⟨by omega,by omega⟩) (Zba e9 (e _ _ _ _ ?_ (i64n (show (k:Int)+1=((k+1:Nat):Int) by omega) (by omega)))))
  rw [hst]
  exact i64w (x:=sumR (n.mems.take k)+dblF n.mems[k].word n.mems[k].addr.toNat) (by omega)
 ·rw [List.take_length]
  exact br_ff (dec_f (show ¬(n.mems.length:Int)<((n.mems.map memT).length:Int) by omega)) rfl
end
section
variable {n:NetD} (ft:Fit n)
include ft
theorem cells_is:expand_Cells_FF (netT n,())=some (cellsN n,()):=by
 have ec:=Zq6 ft
 unfold cellsN
 by_cases hc:Pl.Zkz n=0
 ·rw [if_neg (fun q=>q hc)]
  unfold Pl.Zkz at hc
  have h0:Zj3 n=0:=by
   by_cases q:Zj3 n=0
   ·exact q
   ·rw [if_pos q] at hc;exact absurd hc q
  obtain ⟨V,hs⟩:=Za74 h0
  have eb:=bitsN_is hs
  have hc':Pl.Zkz n=0:=by unfold Pl.Zkz;exact hc
  have e:∀(a b:Int),a=b→(some (a,()):Option (TL expand_Cells_τs))=some (b,()):=by rintro _ _ rfl;rfl
  refine Zba ec (br_ff (not_f (dec_t hc')) (Zba eb (e _ _ ?_)))
  show selI (iL (1000:Int) (cutT (sumP n.mems))) (1000:Int) (cutT (sumP n.mems))=_
  rw [sel_cut]
  unfold cutT
  split
  ·rfl
  ·rfl
 ·rw [if_pos hc]
  exact Zba ec (br_tt (not_t (dec_f hc)) rfl)
theorem cells13_is:astrariumref13_Cells_FF (netT n,())=some (cellsN n,()):=by
 have ec:=Zxe ft
 unfold cellsN
 by_cases hc:Pl.Zkz n=0
 ·rw [if_neg (fun q=>q hc)]
  have hc':=hc
  unfold Pl.Zkz at hc
  have h0:Zj3 n=0:=by
   by_cases q:Zj3 n=0
   ·exact q
   ·rw [if_pos q] at hc;exact absurd hc q
  obtain ⟨V,hs⟩:=Za74 h0
  have e5:=refC_5 hs
  have e:∀(a b:Int),a=b→(some (a,()):Option (TL astrariumref13_Cells_τs))=some (b,()):=by rintro _ _ rfl;rfl
  refine Zba ec (br_ff (not_f (dec_t hc')) (Zba e5 (e _ _ ?_)))
  show selI (iL (1000:Int) (sumR n.mems)) (1000:Int) (sumR n.mems)=_
  rw [sel_cut]
  exact (cut_many (sum_many n.mems 0 0 (mem_rngs hs) (.inl rfl) (by omega) (by omega))).symm
 ·rw [if_pos hc]
  exact Zba ec (br_tt (not_t (dec_f hc)) rfl)
end
structure Small (m:MemD):Prop where
 a1:1≤m.addr
 a2:m.addr<10
 w1:1≤m.word
 w2:m.word≤64
 sz:m.word*2^m.addr.toNat≤64
theorem Small.nat {m:MemD} (h:Small m):2^m.addr.toNat*m.word.toNat≤64∧1≤2^m.addr.toNat:=by
 have hp:(1:Nat)≤2^m.addr.toNat:=Nat.pos_of_ne_zero (by simp)
 refine ⟨?_,hp⟩
 have e:((2^m.addr.toNat*m.word.toNat:Nat):Int)=m.word*2^m.addr.toNat:=by
  push_cast
  rw [show ((m.word.toNat:Nat):Int)=m.word by have:=h.w1;omega,Int.mul_comm]
 have:=h.sz
 omega
theorem Small.cnt {m:MemD} (h:Small m):2^m.addr.toNat≤64:=by
 have h1:=h.nat.1
 have h2:2^m.addr.toNat*1≤2^m.addr.toNat*m.word.toNat:=Nat.mul_le_mul_left _ (by have:=h.w1;omega)
 omega
theorem foldT_ge:∀(l:List MemD) (a:Int),(∀m∈l,1≤m.addr∧1≤m.word∧m.word≤64)→∀m∈l,a+tP m≤l.foldl (fun a m=>a+tP m) a:=by
 intro l
 induction l with
 | nil=>intro a _ m hm;cases hm
 | cons x l ih=>
  intro a hl m hm
  obtain ⟨h1,h2,h3⟩:=hl x (by simp)
  have t:=tP_rng h1 h2 h3
  have hl':∀m∈l,1≤m.addr∧1≤m.word∧m.word≤64:=fun y hy=>hl y (by simp [hy])
  rw [List.foldl_cons]
  rcases List.mem_cons.1 hm with rfl | hm
  ·exact (sumP_rng l (a+tP m) hl').1
  ·have:=ih (a+tP x) hl' m hm
   omega
section
variable {n:NetD} {V:Nat} (hs:Snd n V)
include hs
theorem small_of (h:cutT (sumP n.mems)≤64):∀m∈n.mems,Small m:=by
 intro m hm
 have h2:sumP n.mems≤64:=by unfold cutT at h;split at h<;>omega
 have h3:=foldT_ge n.mems 0 (mem_rngs hs) m hm
 have h3:0+tP m≤sumP n.mems:=h3
 obtain ⟨m1,m2,m3⟩:=mem_rngs hs m hm
 unfold tP at h3
 by_cases q:10≤m.addr
 ·rw [if_pos q] at h3;omega
 ·rw [if_neg q] at h3
  exact ⟨m1,by omega,m2,m3,by omega⟩
end
section
variable {n:NetD} {V:Nat}
end
section
variable {n:NetD} {V:Nat} (hs:Snd n V)
include hs
end
section
variable {n:NetD} {V:Nat}
end
section
variable {n:NetD} {V:Nat} (hs:Snd n V)
include hs
end
section
variable {n:NetD} {V:Nat}
end
section
variable {n:NetD} {V:Nat} (hs:Snd n V)
include hs
end
section
variable {n:NetD} (ft:Fit n)
include ft
end
section
variable {n:NetD}
end
section
variable {n:NetD} (ft:Fit n)
include ft
end
section
variable {n:NetD}
end
section
variable {n:NetD} (ft:Fit n)
include ft
end
end Go.Proofs.Ytnocaehijdmkkaa.V
end
