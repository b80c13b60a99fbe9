import Derived.Test.YtkcpdpplobhpaaaGreatKMf
import Derived.Test.YtkcpdpplobhpaaaGreatKRa
import Derived.Test.YtkcpdpplobhpaaaGreatKNe
import Derived.Test.YtkcpdpplobhpaaaGreatKSb
set_option linter.unusedVariables false
set_option linter.unusedSimpArgs false
set_option linter.unnecessarySimpa false
section
namespace Go.Proofs.YtkcpdpplobhpaaaGreat.Pl
section
variable {α:Type} (key:α→Int)
variable {key}
end
end Go.Proofs.YtkcpdpplobhpaaaGreat.Pl
end
section
namespace Go.Proofs.YtkcpdpplobhpaaaGreat.V
open Go Go.RowKit
end Go.Proofs.YtkcpdpplobhpaaaGreat.V
end
section
namespace Go.Proofs.YtkcpdpplobhpaaaGreat.V
open Go Go.RowKit

section
variable {W:WkT} {key:NdT→Int} {V:NdT→Prop}
end
end Go.Proofs.YtkcpdpplobhpaaaGreat.V
end
section
namespace Go.Proofs.YtkcpdpplobhpaaaGreat.V
open Go Go.RowKit

section
variable {W:WkT} {key:NdT→Int} {V:NdT→Prop}
end
section
variable {X P Q Y L:List NdT}
variable {W:WkT} {key:NdT→Int} {V:NdT→Prop}
end
section
variable {X P Q Y L:List NdT} {W:WkT} {key:NdT→Int} {V:NdT→Prop}
end
section
variable {X P Q Y L:List NdT} {W:WkT} {key:NdT→Int} {V:NdT→Prop}
end
end Go.Proofs.YtkcpdpplobhpaaaGreat.V
end
section
namespace Go.Proofs.YtkcpdpplobhpaaaGreat.V
open Go Go.RowKit

section
variable {W:WkT} {key:NdT→Int} {V:NdT→Prop}
end
section
variable {W:WkT} {key:NdT→Int} {V:NdT→Prop}
end
end Go.Proofs.YtkcpdpplobhpaaaGreat.V
end
section
namespace Go.Proofs.YtkcpdpplobhpaaaGreat.V
open Go Go.RowKit
open Go.Proofs.YtkcpdpplobhpaaaGreat.Pl
end Go.Proofs.YtkcpdpplobhpaaaGreat.V
end
section
namespace Go.Proofs.YtkcpdpplobhpaaaGreat.V
open Go Go.RowKit
end Go.Proofs.YtkcpdpplobhpaaaGreat.V
end
