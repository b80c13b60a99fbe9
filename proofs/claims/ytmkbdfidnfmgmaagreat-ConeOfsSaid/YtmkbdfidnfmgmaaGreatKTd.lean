import Derived.Test.YtmkbdfidnfmgmaaGreatKTc
set_option linter.all false
section
namespace Go.Proofs.YtmkbdfidnfmgmaaGreat.V
open Go Go.RowKit
theorem arX(a:Int):OX a a=true:=fm rfl
theorem arS(a:Bool):RS a a=true:=fm rfl
theorem afB:∀l:List UInt8,Ev.rZ l l=true
 |[]=>rfl|x::l=>by simp[Ev.rZ,afB l]
theorem arU(a:ByteArray):Ev.xG a a=true:=afB _
mutual
theorem Sh.uZ:∀{σ:Sh}(a:σ.T),σ.beq a a=true
 |.int _,a=>arX a|.bool,a=>arS a|.str,a=>arU a|.agg l,a=>afN (l:=l) a|.sl s,a=>xQ (fun x=>Sh.uZ x) a
theorem afN:∀{l:List Sh}(a:TL l),vb l a a=true
 |[],a=>rfl|s::l,a=>by have h1:=Sh.uZ (σ:=s) a.1;have h2:=afN (l:=l) a.2;show(match s.beq a.1 a.1 with|true=>vb l a.2 a.2|false=>false)=true;rw[h1];exact h2
end
theorem qL(L:jp):iP (Sh.beq .I) L L=true:=xQ (f:=Sh.beq .I) (fun x=>Sh.uZ (σ:=.I) x) L
theorem jj(x:Int):iQ x x=true:=aF rfl
theorem uz(x:Int):Bool.not (iQ x x)=false:=by rw[jj];rfl
theorem nb3(x y z:Int):Bool.not (both (iQ x x) (both (iQ y y) (both (iQ z z) true)))=false:=by rw[jj,jj,jj];rfl
theorem Oa:bK false true (Bool.not true)=false:=rfl
theorem ale(x:Bool):bK false true (Bool.not (@decide _ (Bool.decEq x x)))=false:=by cases x<;>rfl
theorem uC(x:Int):bK false true (Bool.not (iQ x x))=false:=by rw[jj];rfl
open Go.Proofs.YtmkbdfidnfmgmaaGreat.Pl
theorem afH{n:aB}(h:Pl.gV n=0):∃V,cA n V/\da n=0/\n.vars.toNat=V/\dO (bh n) V=true:=by
 unfold Pl.gV at h;by_cases h0:da n=0
 .obtain⟨V,hs⟩:=uS h0;have hV:n.vars.toNat=V:=by rw[hs.vars];rfl
  rw[Fr (by simpa using h0),hV]at h;refine⟨V,hs,h0,hV,?_⟩;cases q:dO (bh n) V
  .rw[q]at h;simp at h
  .rfl
 .rw[IO h0]at h;exact absurd h h0
