import Derived.Test.YtkcpdpplobhpaaaGreatKMf
import Derived.Test.YtkcpdpplobhpaaaGreatKRa
import Derived.Test.YtkcpdpplobhpaaaGreatKNe
import Derived.Test.YtkcpdpplobhpaaaGreatKSb
set_option linter.unusedVariables false
set_option linter.unusedSimpArgs false
set_option linter.unnecessarySimpa false
section
namespace Go.Proofs.YtkcpdpplobhpaaaGreat.Pl
section
variable {α:Type} (key:α→Int)
variable {key}
end
end Go.Proofs.YtkcpdpplobhpaaaGreat.Pl
end
section
namespace Go.Proofs.YtkcpdpplobhpaaaGreat.V
open Go Go.RowKit
theorem i64n {x:Int} {n:Nat} (e:x=(n:Int)) (h:n≤1000000000):IntKind.wrap .i64 x=(n:Int):=by rw [e];exact i64w (by omega)
end Go.Proofs.YtkcpdpplobhpaaaGreat.V
end
section
namespace Go.Proofs.YtkcpdpplobhpaaaGreat.V
open Go Go.RowKit

section
variable {W:WkT} {key:NdT→Int} {V:NdT→Prop}
end
end Go.Proofs.YtkcpdpplobhpaaaGreat.V
end
section
namespace Go.Proofs.YtkcpdpplobhpaaaGreat.V
open Go Go.RowKit

section
variable {W:WkT} {key:NdT→Int} {V:NdT→Prop}
end
section
variable {X P Q Y L:List NdT}
variable {W:WkT} {key:NdT→Int} {V:NdT→Prop}
end
section
variable {X P Q Y L:List NdT} {W:WkT} {key:NdT→Int} {V:NdT→Prop}
end
section
variable {X P Q Y L:List NdT} {W:WkT} {key:NdT→Int} {V:NdT→Prop}
end
end Go.Proofs.YtkcpdpplobhpaaaGreat.V
end
section
namespace Go.Proofs.YtkcpdpplobhpaaaGreat.V
open Go Go.RowKit

section
variable {W:WkT} {key:NdT→Int} {V:NdT→Prop}
end
section
variable {W:WkT} {key:NdT→Int} {V:NdT→Prop}
end
end Go.Proofs.YtkcpdpplobhpaaaGreat.V
end
section
namespace Go.Proofs.YtkcpdpplobhpaaaGreat.V
open Go Go.RowKit
open Go.Proofs.YtkcpdpplobhpaaaGreat.Pl
end Go.Proofs.YtkcpdpplobhpaaaGreat.V
end
section
namespace Go.Proofs.YtkcpdpplobhpaaaGreat.V
open Go Go.RowKit
theorem band_bit {w:Int} (h:0≤w) (h2:w<18446744073709551616):bandI .u64 w 1=w % 2:=by
 obtain ⟨n,rfl⟩:=Int.eq_ofNat_of_zero_le h
 unfold bandI
 have e:(BitVec.ofInt (IntKind.u64).bits (n:Int) &&& BitVec.ofInt (IntKind.u64).bits 1).toNat=n % 2:=by
  rw [BitVec.toNat_and,BitVec.toNat_ofInt,BitVec.toNat_ofInt]
  have e1:(((n:Int) % ((2^(IntKind.u64).bits:Nat):Int)).toNat)=n:=by
   rw [Int.emod_eq_of_lt (by omega) (by show (n:Int)<((2^64:Nat):Int);omega)];rfl
  rw [e1]
  show n &&& 1=n % 2
  exact Nat.and_one_is_mod n
 rw [e,u64w (by omega)]
 omega
theorem var1_at {l:Int} (h:0≤l) (h2:l<9223372036854775808):Zcv (l,())=some (l / 2,()):=by
 show Zhw l=_
 unfold Zhw
 rw [Int.tdiv_eq_ediv_of_nonneg h,i64w (by omega)]
 rfl
end Go.Proofs.YtkcpdpplobhpaaaGreat.V
end
