import Derived.Test.YtkcpdpplobhpaaaGreatKRh
set_option linter.unusedVariables false
set_option linter.unusedSimpArgs false
set_option linter.unnecessarySimpa false
section
namespace Go.Proofs.YtkcpdpplobhpaaaGreat.V
open Go Go.RowKit
set_option maxRecDepth 1000000
open Go.Proofs.YtkcpdpplobhpaaaGreat.Pl
set_option maxRecDepth 10000
theorem Qa{α:Type}(x y:α)(B:List α):∀A:List α,List.set (A++x::B) A.length y=A++[y]++B
 |[]=>rfl|a::A=>congrArg (List.cons a) (Qa x y B A)
theorem Qj{α:Type}(x:α)(B:List α):∀A:List α,(A++x::B)[A.length]?=some x
 |[]=>rfl|_::A=>Qj x B A
theorem al9(o b c:List Int)(m:List ab.T){s:Gk}{w k bad:Nat}{l:Int}{X T:List Int}(hk:k<w)(hw:w<=20)(hb:bad<18446744073709551616)(hX:X.length=k)(ok:bR s.v l)(hv:s.v<=30000) :
  ve qE (bad:Int) (w:Int) (k:Int) (0:Int) (s.v:Int) s.i (s.l.map aB) o b c m (s.a.map aY) (X++l::T)=some (.inl ((bad:Int),((w:Int),(((k+1:Nat):Int),((0:Int),((s.v:Int),(s.i,(s.l.map aB,(o,(b,(c,(m,(s.a.map aY,((X++[if bad / 2^k % 2=0 then gl l else l])++T,())))))))))))))):=by
 have ee:∀(u v:Int) (A B:List Int),u=v->A=B->(some (.inl ((bad:Int),((w:Int),(u,((0:Int),((s.v:Int),(s.i,(s.l.map aB,(o,(b,(c,(m,(s.a.map aY,(A,())))))))))))))):Option (TL qp.σs⊕Out qn))=some (.inl ((bad:Int),((w:Int),(v,((0:Int),((s.v:Int),(s.i,(s.l.map aB,(o,(b,(c,(m,(s.a.map aY,(B,())))))))))))))):=by rintro _ _ _ _ rfl rfl;rfl
 have ek:IntKind.wrap .i64 ((k:Int)+1)=((k+1:Nat):Int):=aZ (x:=(k:Int)+1) (n:=k+1) (by omega) (by omega);have e0:(X++l::T)[k]?=some l:=by rw[<-hX];exact Qj l T X
 have eg:gt (.int .i64) (X++l::T) (k:Int)=l:=aS (σ:=.int .i64) e0;have i1:ar (k:Int) (List.length (X++l::T))=true:=aA (by rw[List.length_append,List.length_cons];omega);have eb:iQ (gH .u64 (Int.fdiv (bad:Int) (HPow.hPow (2:Int) (Min.min (Int.toNat (k:Int)) 64))) (1:Int)) (0:Int)=decide (bad / 2^k % 2=0):=by
  rw[aed hb (by omega)];show decide (_=_)=_;by_cases q:bad / 2^k % 2=0
  .rw[decide_eq_true q,q];rfl
  .rw[decide_eq_false q,decide_eq_false (by omega)]
 have ex:qE (gt (.int .i64) (X++l::T) (k:Int),(iQ (gH .u64 (Int.fdiv (bad:Int) (HPow.hPow (2:Int) (Min.min (Int.toNat (k:Int)) 64))) (1:Int)) (0:Int),()))=some (if bad / 2^k % 2=0 then gl l else l,()):=by
  rw[eg,eb,ab3 ok (by omega) (decide (bad / 2^k % 2=0))];by_cases q:bad / 2^k % 2=0
  .rw[if_pos q,decide_eq_true q];rfl
  .rw[if_neg q,decide_eq_false q];rfl
 unfold ve;refine av (al (show(k:Int)<(w:Int) by omega)) ?_;refine aj i1 ?_;refine aj (al (show(0:Int)<=(k:Int) by omega)) ?_;refine af ex ?_;refine aj i1 ?_;refine ee _ _ _ _ ek ?_;show List.set (X++l::T) (Int.toNat (k:Int)) _=_;rw[Int.toNat_natCast,<-hX];exact Qa l _ T X
end Go.Proofs.YtkcpdpplobhpaaaGreat.V
end
