import Derived.Test.YtkcpdpplobhpaaaGreatKMgReachSearches01
set_option linter.unusedSectionVars false
set_option linter.unusedVariables false
set_option linter.unusedSimpArgs false
set_option linter.unnecessarySimpa false
/- the law ReachSearches: true of all data. -/
namespace Go.Proofs.YtkcpdpplobhpaaaGreat.V
open Go Go.RowKit
open Go.Proofs.YtkcpdpplobhpaaaGreat.Pl
set_option maxRecDepth 10000
theorem aiM{b:Bool}(h:b=true):aV false true b=true:=by rw[h];rfl
theorem afN{n:aD}(ft:Fit n)(h:k7 n≠0)(d:Int):zn (bz n,(d,()))=some ((false,((0:Int),(false,((0:Int),())))),(k7 n,())):=by have e1:TZ (nt n ())=some (.inl (k7 n,())):=af (afS ft h) (ao (fZ (aA h)) rfl);exact af e1 (ao (fZ (aA h)) rfl)
theorem afv{n:aD}{V:Nat}(t:iS n V)(ft:Fit n){d:Int}(h:d<0):zn (bz n,(d,()))=some ((false,((0:Int),(false,((0:Int),())))),((1:Int),())):=af (UC t ft) (ag (dH (ak rfl)) (ao (ak h) rfl))
theorem aeB(d:ba.T)(k:Int)(hd:nF ba d)(hk0:nF (.int .i64) k):ady (d,(k,()))=some (true,()):=by
 obtain⟨b,e,h⟩:=akx d;have al:=afl;cases b with
 |false=>exact af e (ao rfl (af al rfl))|true=>
  have ft:=aiq hd (h rfl);obtain⟨n,rfl⟩:∃n,d=bz n:=⟨fx d,(FJ d).symm⟩;rw[oq]at ft;by_cases h40:40<k
  .exact af e (ag rfl (ao (aiM (ak h40)) (af al rfl)))
  have q40:aV false true (iL 40 k)=false:=by have q:iL 40 k=false:=aA h40;rw[q];rfl
  have s2:=(IH ft).2;have hz:aV true (both (@decide _ (Bool.decEq false false)) (both (iQ (0:Int) 0) (both (@decide _ (Bool.decEq false false)) (both (iQ (0:Int) 0) true)))) false=true:=rfl;by_cases hs:k7 n=0
  .obtain⟨V,t⟩:=ah3 hs;rw[hs]at s2;by_cases hk:k<0
   .exact af e (ag rfl (ag q40 (af (afv t ft hk) (af s2 (ag (dH (ak rfl)) (ao (ak hk) (ao (ak rfl) (ao hz (af al rfl)))))))))
   .obtain⟨j,rfl⟩:∃j:Nat,k=(j:Int):=⟨k.toNat,by omega⟩;obtain⟨x,e1,e2⟩:=ae9 t ft (d:=j) (by omega);refine af e (ag rfl (ag q40 (af e2 (af s2 (ag (dH (ak rfl)) (ag (aA hk) (af e1 (ao (ak rfl) (ao ?_ (af al rfl))))))))));exact ajs (pH (zG _) (pH (ak rfl) (pH (zG _) (pH (ak rfl) rfl))))
  .have e1:=afN ft hs k;exact af e (ag rfl (ag q40 (af e1 (af s2 (ao (fZ (aA hs)) (ao (ak rfl) (ao hz (af al rfl))))))))
