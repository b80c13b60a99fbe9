import Derived.Test.YtdcnjfbffckblaaGreatKTc
set_option linter.unusedSectionVars false
set_option linter.unusedVariables false
set_option linter.unusedSimpArgs false
set_option linter.unnecessarySimpa false
section
namespace Go.Proofs.YtdcnjfbffckblaaGreat.V
open Go Go.RowKit
theorem ZG(a:Int):Ad a a=true:=bF rfl
theorem Zx(a:Bool):DY a a=true:=bF rfl
theorem Oi:∀l:List UInt8,Ev.mu l l=true
 |[]=>rfl|x::l=>by simp[Ev.mu,Oi l]
theorem ZC(a:ByteArray):Ev.qH a a=true:=Oi _
mutual
theorem Sh.Ol:∀{σ:Sh}(a:σ.T),σ.beq a a=true
 |.int _,a=>ZG a|.bool,a=>Zx a|.str,a=>ZC a|.agg l,a=>OK (l:=l) a|.sl s,a=>J2 (fun x=>Sh.Ol x) a
theorem OK:∀{l:List Sh}(a:TL l),oS l a a=true
 |[],a=>rfl|s::l,a=>by have h1:=Sh.Ol (σ:=s) a.1;have h2:=OK (l:=l) a.2;show(match s.beq a.1 a.1 with|true=>oS l a.2 a.2|false=>false)=true;rw[h1];exact h2
end
open Go.Proofs.YtdcnjfbffckblaaGreat.Pl
theorem OU{x k:Int}(h0:0<=x)(h:ky x k=true):x<2^k.toNat:=by unfold ky at h;have h:=of_decide_eq_true h;have hp:(0:Int)<2^k.toNat:=Int.pow_pos (by decide);have e:=Int.emod_def x (2^k.toNat);rw[h,Int.mul_zero,Int.sub_zero]at e;have:=Int.emod_lt_of_pos x hp;omega
theorem DU{c:List aV}{i:Nat}{p:aV}(h:c[i]?=some p):eF c (i:Int)=p.1/\gK c (i:Int)=p.2.1:=by have g:gt ar c (i:Int)=p:=bn (σ:=ar) h;unfold eF gK;rw[g];exact⟨rfl,rfl⟩
theorem ZU{m:cr}{c:List aV}(h:nY m.addr m.word c=true)(ok:pS c):kQ m 4096 c:=by
 unfold nY at h;simp only[Bool.and_eq_true,decide_eq_true_eq]at h;obtain⟨⟨⟨⟨⟨h1,h2⟩,h3⟩,h4⟩,h5⟩,h6⟩:=h;have hs:=Wf h6;have h6':∀i,i<c.length->jl m.addr m.word c i=true:=fun i hi=>List.all_eq_true.1 h6 i (List.mem_range.2 hi);have hc:∀p∈c,(0<=p.1/\p.1<2^m.addr.toNat)/\0<p.2.1/\p.2.1<2^m.word.toNat:=by intro p hp;obtain⟨i,hi⟩:=List.getElem?_of_mem hp;have hil:=dR hi;obtain⟨e1,e2⟩:=DU hi;have hb:=h6' i hil;obtain⟨o1,o2⟩:=ok i hil;unfold jl at hb;simp only[Bool.and_eq_true,Bool.not_eq_true',decide_eq_false_iff_not]at hb;obtain⟨⟨⟨b1,b2⟩,b3⟩,_⟩:=hb;rw[e1]at o1 b2;rw[e2]at o2 b1 b3;exact⟨⟨o1.1,OU o1.1 b2⟩,by omega,OU o2.1 b3⟩
 refine⟨?_,h5,fun p hp=>(hc p hp).1,fun p hp=>(hc p hp).2⟩;refine List.pairwise_iff_getElem.2 fun i j hi hj hij=>?_;have:=hs j hj i hij;rw[(DU (bu hi)).1,(DU (bu hj)).1]at this;exact this
theorem ZL{n:aG}{ls:List Bool}{cs:List (List aV)}(h:mP (cP n) (ls,(cs,()))=true)(ok:pT cs):iB n 4096 ls cs:=by
 unfold mP at h;simp only[Bool.and_eq_true,decide_eq_true_eq]at h;obtain⟨⟨h1,h2⟩,h3⟩:=h;have h1':ls.length=n.af.length:=h1.trans (aK ..);have h2':cs.length=n.aa.length:=h2.trans (aK ..);refine⟨h1',h2',fun i m c hm hc=>?_⟩;have hil:=dR hm;have h3':∀i,i<(n.aa.map bh).length->mQ (n.aa.map bh) cs i=true:=by have h3:(List.range (n.aa.map bh).length).all (mQ (n.aa.map bh) cs)=true:=h3;exact fun i hi=>List.all_eq_true.1 h3 i (List.mem_range.2 hi)
 have hp:=h3' i (by rw[aK];exact hil);unfold mQ at hp;have hm':(n.aa.map bh)[i]?=some (bh m):=by rw[bT,hm];rfl
 have g1:gt an (n.aa.map bh) (i:Int)=bh m:=bn (σ:=an) hm';have g2:gt (.sl ar) cs (i:Int)=c:=bn (σ:=.sl ar) hc;rw[g1,g2]at hp;exact ZU hp (ok c (cK hc))
theorem Zb{n:aG}(h:Pl.fH n=0):∃V,cL n V/\ed n=0/\n.vars.toNat=V/\eP (bb n) V=true:=by
 unfold Pl.fH at h;by_cases h0:ed n=0
 .obtain⟨V,hs⟩:=Bk h0;have hV:n.vars.toNat=V:=by rw[hs.vars];rfl
  rw[if_neg (by simpa using h0),hV]at h;refine⟨V,hs,h0,hV,?_⟩;cases q:eP (bb n) V
  .rw[q]at h;simp at h
  .rfl
 .rw[if_pos h0]at h;exact absurd h h0
abbrev StD:=List Bool×List (List aV)
section
variable{n:aG}(ft:Fit n)
include ft
theorem Zi:List.length (cP n).2.2.1<=100000/\List.length (cP n).2.2.2.2.2.2.1<=100000:=⟨by show(n.af.map bP).length<=_;rw[aK];have:=ft.au.1;omega,by show(n.aa.map bh).length<=_;rw[aK];have:=ft.aa.1;omega⟩
theorem ft':Fit (ie (cP n)):=by rw[oi];exact ft
