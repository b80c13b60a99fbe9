import Derived.Test.YtmkbdfidnfmgmaaGreatWCf
import Derived.Test.YtmkbdfidnfmgmaaGreatWCh
set_option linter.all false
section
namespace Go.Proofs.YtmkbdfidnfmgmaaGreat.V
open Go Go.RowKit Go.Proofs.YtmkbdfidnfmgmaaGreat.Pl
set_option maxRecDepth 10000
theorem ahx(L:jp)(hL:L.length<=100000):Ko (L,L,())=some (true,()):=by
 have eL:UZ (L,L,(0:Int),())=atZ ():=by
  unfold UZ;delta u3;refine d9 (fun i:Nat=>(L,L,(i:Int),())) L.length rfl ?_ ?_ atU
  .intro i hi
   try dsimp only
   unfold BP;have e:∀p q:Int,p=q->(atY (L,L,p,()):am BJ BF)=atY (L,L,q,()):=by rintro _ _ rfl;rfl
   exact aR (aD (show(i:Int)<(L.length:Int) by omega)) (aS atT (aS atT (ax (pE _) (e _ _ (cH (x:=(i:Int)+1) atO)))))
  .try dsimp only
   unfold BP;exact ax (aF (show ¬(L.length:Int)<(L.length:Int) by omega)) rfl
 exact ax (pE _) (aB eL rfl)
