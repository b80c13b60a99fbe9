import Derived.Test.YtmkbdfidnfmgmaaGreatWCb
set_option linter.all false
/- the document's cone (printed by VTool.lean). -/
namespace Go.Proofs.YtmkbdfidnfmgmaaGreat.V
open Go Go.RowKit
set_option maxRecDepth 1000000
abbrev BJ:ai:=⟨[(0,.fz .I),(1,.fz .I),(5,.I)],[],0⟩
abbrev BF:List (Ev.Ex×ai):=[(.ret,⟨[(4,.bool)],[],0⟩),((.exit 0),⟨[],[],0⟩)]
abbrev U0:=be BJ BF
abbrev UY:=Ld 0 26 (cj [0] (bu Tryz.f22)) BJ BF
def BP(t0 t1:jp)(t5:Int):am BJ BF:=
 br (iL t5 (Int.ofNat t0.length))
 (
  au (aw t5 t0.length)<|
  au (aw t5 t1.length)<|
  br (Bool.not (iQ (gt .I t0 t5) (gt .I t1 t5)))
  (
   atZ (.inl (false,())))
  (
   atY (t0,t1,(qr (t5+(1:Int))),())))
 (
  atZ (.inr ()))
def age  :UY:=cu (u3 BP) (pL k0 e0 1 l0 fun d=>atP)
def UZ:U0:=bp (u3 BP) NN
abbrev U1:List Sh:=[(.sl .I),(.sl .I)]
abbrev Kp:List Sh:=[.bool]
abbrev U6:=TL U1->Option (TL Kp)
abbrev Ku:=Kd 22 U1 Kp
def agi(L4:U0)(a0 a1:jp):Option (TL Kp):=
 br (Bool.not (iQ (Int.ofNat a0.length) (Int.ofNat a1.length)))
 (
  some (false,()))
 (
  az (L4 (a0,a1,(0:Int),())) fun x0=>
  (match x0 with|.inl x1=>some (x1.1,())|.inr x1=>some (true,())
  ))
def agj(M4:UY):Ku:=⟨u2 (agi M4.L),pD Tryz.func22 26 k0 e0 1 (sS (sC M4 l0)) fun d=>atP⟩
def U5:Ku:=agj  age
def Ko:U6:=U5.F
