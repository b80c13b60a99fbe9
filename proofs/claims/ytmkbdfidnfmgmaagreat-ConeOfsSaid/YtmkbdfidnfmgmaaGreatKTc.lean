import Derived.Test.YtmkbdfidnfmgmaaGreatKTb
set_option linter.all false
section
namespace Go.Proofs.YtmkbdfidnfmgmaaGreat.V
open Go Go.RowKit
set_option maxRecDepth 1000000
open Go.Proofs.YtmkbdfidnfmgmaaGreat.Pl
def agh(v:kw)(l:List (Int×Bool)):kw:=l.foldl (fun v p=>v.set p.1.toNat p.2) v
def asc(n:aB)(ls ins:kw):kw:=agh (agh (List.replicate (n.vars.toNat+1) false) (n.ax.zip ins)) ((n.ah.map (·.var)).zip ls)
variable{n:aB}{V:Nat}
theorem afT{x:cU×cg}(h:x∈kH n V):x∈n6 n:=by unfold kH at h;obtain⟨i,_,hx⟩:=rc.1 h;exact(asv.1 hx).1
theorem afU(hs:cA n V):(kH n V).length<=9000000:=by have h:=(xA hs).len;unfold kH;have:=pU (fun(i:Nat)=>(n6 n).filter fun x=>decide (lk (lvl n V) x.2=(i:Int)+1)) (List.range (n6 n).length) 3000 (fun i _=>EQ (List.length_filter_le _ _) h);rw[asi]at this;have h2:(n6 n).length*3000<=3000*3000:=asm _ h;omega
