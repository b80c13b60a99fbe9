import Derived.Test.YtnocaehijdmkkaaGreatNc
import Derived.Test.YtnocaehijdmkkaaGreatNd
import Derived.Test.YtnocaehijdmkkaaGreatMf
/- memories, states of netlists, the documents beside them (printed by VTool.lean). -/
namespace Go.Proofs.YtnocaehijdmkkaaGreat.V
open Go Go.RowKit
set_option linter.unusedVariables false
set_option maxRecDepth 1000000
def Zos : List Sh := [(.int .i64)]
def Zlp : List Sh := [(.int .i64)]
def Zmd   (a0 : Int) : Option (TL Zlp) :=
 some ((selI (@decide _ (Int.decLt (selI (@decide _ (Int.decLt (64 : Int) a0)) (64 : Int) a0) (0 : Int))) (0 : Int) (selI (@decide _ (Int.decLt (64 : Int) a0)) (64 : Int) a0)), ())
theorem Zve   (a0 : Int) : runF (τs := Zlp) Tryz.prog (shOf Tryz.prog 20) (kn [] []) (envT []) 1 (tabL 0 6 []) Tryz.f117 (Zaa Tryz.f117) Zos (a0, ()) = Zmd   a0 := by kernel_rfl
def Zjt : TL Zos → Option (TL Zlp) := fun d => Zmd   d.1
theorem Zuh : Comes Tryz.prog 117 Zos Zlp Zjt :=
 Zd1 (e := Tryz.f117) (c := Zaa Tryz.f117) Tryz.func117 (by kernel_rfl) (by kernel_rfl) Zac (kn_ok (List.forall_mem_nil _) (List.forall_mem_nil _)) (Zak (List.forall_mem_nil _)) 6 (by kernel_rfl) (Zan (by kernel_rfl) Zae) (Zeq fun d => Zve   d.1)
def Zrm : List Sh := [(.int .u64), (.int .i64)]
def Zon : List Sh := [.bool]
def Zqz (F_bits_within : TL [(.int .i64)] → Option (TL [(.int .i64)]))  (a0 : Int) (a1 : Int) : Option (TL Zon) :=
 bnd (F_bits_within (a1, ())) fun x0 =>
 chk (@decide _ (Int.decLe (0 : Int) x0.1)) <|
 some ((@decide _ (Int.instDecidableEq (Int.fdiv a0 (HPow.hPow (2 : Int) (Min.min (Int.toNat x0.1) 64))) (0 : Int))), ())
theorem Zy0 (F_bits_within : TL [(.int .i64)] → Option (TL [(.int .i64)]))  (a0 : Int) (a1 : Int) : runF (τs := Zon) Tryz.prog (shOf Tryz.prog 20) (kn [(117, ⟨_, _, F_bits_within⟩)] []) (envT []) 1 (tabL 0 10 []) Tryz.f129 (Zaa Tryz.f129) Zrm (a0, (a1, ())) = Zqz F_bits_within  a0 a1 := by kernel_rfl
def Zhe : TL Zrm → Option (TL Zon) := fun d => Zqz Zjt  d.1 d.2.1
theorem Zn5 : Comes Tryz.prog 129 Zrm Zon Zhe :=
 Zd1 (e := Tryz.f129) (c := Zaa Tryz.f129) Tryz.func129 (by kernel_rfl) (by kernel_rfl) Zac (kn_ok (List.forall_mem_cons.2 ⟨Zuh, (List.forall_mem_nil _)⟩) (List.forall_mem_nil _)) (Zak (List.forall_mem_nil _)) 10 (by kernel_rfl) (Zan (by kernel_rfl) Zae) (Zeq fun d => Zy0 Zjt  d.1 d.2.1)
def Zg6 : Lay := { T := [(0, .int .i64), (1, .int .i64), (2, .fz Za3), (28, .fz Za3), (29, .int .i64), (30, .int .i64)], h := [], nx := 0 }
def Zsa : List (Tmp × Sh × TypeId) := []
def Zfc : List (Ev.Ex × Lay) := [(.ret, { T := [(6, .bool)], h := [], nx := 0 }), ((.exit 0), { T := [], h := [], nx := 0 })]
def Zls (F_bits_Fits : TL [(.int .u64), (.int .i64)] → Option (TL [.bool]))  (t0 : Int) (t1 : Int) (t2 : List (Sh.T Za3)) (t28 : List (Sh.T Za3)) (t29 : Int) (t30 : Int) : Option (TL Zg6.σs ⊕ Out Zfc) :=
 br (@decide _ (Int.decLt t30 t29))
 (
  chk (inb t30 (List.length t28)) <|
  br (@decide _ (Int.instDecidableEq (gt Za3 t28 t30).2.1 (0 : Int)))
  (
   some (.inr (.inl (false, ()))))
  (
   bnd (F_bits_Fits ((gt Za3 t28 t30).1, (t0, ()))) fun x0 =>
   br (selB false true (Bool.not x0.1))
   (
    some (.inr (.inl (false, ()))))
   (
    bnd (F_bits_Fits ((gt Za3 t28 t30).2.1, (t1, ()))) fun x1 =>
    br (selB false true (Bool.not x1.1))
    (
     some (.inr (.inl (false, ()))))
    (
     br (@decide _ (Int.decLt (0 : Int) t30))
     (
      chk (inb (IntKind.wrap (.i64 : IntKind) (@HSub.hSub (Int) (Int) (Int) _ t30 (1 : Int))) (List.length t2)) <|
      br (selB false true (selB true (@decide _ (Int.decLe (gt Za3 t28 t30).1 (gt Za3 t2 (IntKind.wrap (.i64 : IntKind) (@HSub.hSub (Int) (Int) (Int) _ t30 (1 : Int)))).1)) false))
      (
       some (.inr (.inl (false, ()))))
      (
       some (.inl (t0, (t1, (t2, (t28, (t29, ((IntKind.wrap (.i64 : IntKind) (@HAdd.hAdd (Int) (Int) (Int) _ t30 (1 : Int))), ())))))))))
     (
      some (.inl (t0, (t1, (t2, (t28, (t29, ((IntKind.wrap (.i64 : IntKind) (@HAdd.hAdd (Int) (Int) (Int) _ t30 (1 : Int))), ()))))))))))))
 (
  some (.inr (.inr ())))
theorem Zwn (F_bits_Fits : TL [(.int .u64), (.int .i64)] → Option (TL [.bool]))  (t0 : Int) (t1 : Int) (t2 : List (Sh.T Za3)) (t28 : List (Sh.T Za3)) (t29 : Int) (t30 : Int) : runB Tryz.prog (shOf Tryz.prog 20) (kn [(129, ⟨_, _, F_bits_Fits⟩)] []) (envT []) 1 0 68 Zg6 Zfc (tabL 0 68 []) (Zb5 [0] (Zaa Tryz.f108)) (t0, (t1, (t2, (t28, (t29, (t30, ())))))) = Zls F_bits_Fits  t0 t1 t2 t28 t29 t30 := by kernel_rfl
def Zkh : TL Zg6.σs → Option (Out Zfc) := lpD (fun d => Zls Zhe  d.1 d.2.1 d.2.2.1 d.2.2.2.1 d.2.2.2.2.1 d.2.2.2.2.2.1) NN
theorem Zwm {R : Type} : LOk Tryz.prog Real 0 68 (Zb5 [0] (Zaa Tryz.f108)) (specL (R := R) 0 68 ⟨Zg6, Zsa, Zfc, Zkh⟩) :=
 Zby Zac (kn_ok (List.forall_mem_cons.2 ⟨Zn5, (List.forall_mem_nil _)⟩) (List.forall_mem_nil _)) (Zak (List.forall_mem_nil _)) (Zan (by kernel_rfl) Zae) (lp_of fun d => Zwn Zhe  d.1 d.2.1 d.2.2.1 d.2.2.2.1 d.2.2.2.2.1 d.2.2.2.2.2.1)
def Zrd : List Sh := [(.int .i64), (.int .i64), (.sl Za3)]
def Zog : List Sh := [.bool]
def Zqh (F_bits_Fits : TL [(.int .u64), (.int .i64)] → Option (TL [.bool])) (L4 : TL Zg6.σs → Option (Out Zfc)) (a0 : Int) (a1 : Int) (a2 : List (Sh.T Za3)) : Option (TL Zog) :=
 br (@decide _ (Int.decLt a0 (1 : Int)))
 (
  some (false, ()))
 (
  br (selB false true (@decide _ (Int.decLt (62 : Int) a0)))
  (
   some (false, ()))
  (
   br (selB false true (@decide _ (Int.decLt a1 (1 : Int))))
   (
    some (false, ()))
   (
    br (selB false true (@decide _ (Int.decLt (64 : Int) a1)))
    (
     some (false, ()))
    (
     br (selB false true (@decide _ (Int.decLt (4096 : Int) (Int.ofNat (List.length a2)))))
     (
      some (false, ()))
     (
      bnd (L4 (a0, (a1, (a2, (a2, ((Int.ofNat (List.length a2)), ((0 : Int), ()))))))) fun x0 =>
      (match x0 with
      | .inl x1 =>
       some (x1.1, ())
      | .inr x1 =>
       some (true, ())
      ))))))
theorem Zxt (F_bits_Fits : TL [(.int .u64), (.int .i64)] → Option (TL [.bool])) (L4 : TL Zg6.σs → Option (Out Zfc)) (a0 : Int) (a1 : Int) (a2 : List (Sh.T Za3)) : runF (τs := Zog) Tryz.prog (shOf Tryz.prog 20) (kn [(129, ⟨_, _, F_bits_Fits⟩)] []) (envT []) 1 (tabL 0 68 [(4, ⟨Zg6, Zsa, Zfc, L4⟩)]) Tryz.f108 (Zaa Tryz.f108) Zrd (a0, (a1, (a2, ()))) = Zqh F_bits_Fits L4 a0 a1 a2 := by kernel_rfl
def Zj4 : TL Zrd → Option (TL Zog) := fun d => Zqh Zhe Zkh d.1 d.2.1 d.2.2.1
theorem Zre : Comes Tryz.prog 108 Zrd Zog Zj4 :=
 Zd1 (e := Tryz.f108) (c := Zaa Tryz.f108) Tryz.func108 (by kernel_rfl) (by kernel_rfl) Zac (kn_ok (List.forall_mem_cons.2 ⟨Zn5, (List.forall_mem_nil _)⟩) (List.forall_mem_nil _)) (Zak (List.forall_mem_nil _)) 68 (by kernel_rfl) (Zan (by kernel_rfl) (Zb4 (by kernel_rfl) Zwm Zae)) (Zeq fun d => Zxt Zhe Zkh d.1 d.2.1 d.2.2.1)
def Zh9 : Lay := { T := [(0, .int .i64), (1, .int .i64), (2, .fz Za3)], h := [], nx := 0 }
def Zf1 : List (Ev.Ex × Lay) := [(.ret, { T := [(0, .nilp), (1, .int .i64)], h := [], nx := 0 }), (.ret, { T := [(0, .ptr 0 0), (1, .int .i64)], h := [(0, .cells [.int .i64, .int .i64, .mp 1] 157), (1, .map .u64 (.int .u64))], nx := 2 })]
def Zh8 : Lay := { T := [(8, .ptr 0 0), (21, .fz Za3), (22, .int .i64), (23, .int .i64)], h := [(0, .cells [.int .i64, .int .i64, .mp 1] 157), (1, .map .u64 (.int .u64))], nx := 2 }
def Ztd : List (Tmp × Sh × TypeId) := []
def Zg7 : List (Ev.Ex × Lay) := [((.exit 0), { T := [(8, .ptr 0 0)], h := [(0, .cells [.int .i64, .int .i64, .mp 1] 157), (1, .map .u64 (.int .u64))], nx := 2 })]
def Zqi (F_ram_Right : TL [(.int .i64), (.int .i64), (.sl Za3)] → Option (TL [.bool]))  (t21 : List (Sh.T Za3)) (t22 : Int) (t23 : Int) (b0_0 : Int) (b0_1 : Int) (b1 : List (Sh.T Za3)) : Option (TL Zh8.σs ⊕ Out Zg7) :=
 br (@decide _ (Int.decLt t23 t22))
 (
  chk (inb t23 (List.length t21)) <|
  some (.inl (t21, (t22, ((IntKind.wrap (.i64 : IntKind) (@HAdd.hAdd (Int) (Int) (Int) _ t23 (1 : Int))), (b0_0, (b0_1, ((@mput (.int .u64) (gt Za3 t21 t23).1 (gt Za3 t21 t23).2.1 b1), ()))))))))
 (
  some (.inr (b0_0, (b0_1, (b1, ())))))
theorem Zxv (F_ram_Right : TL [(.int .i64), (.int .i64), (.sl Za3)] → Option (TL [.bool]))  (t21 : List (Sh.T Za3)) (t22 : Int) (t23 : Int) (b0_0 : Int) (b0_1 : Int) (b1 : List (Sh.T Za3)) : runB Tryz.prog (shOf Tryz.prog 20) (kn [(108, ⟨_, _, F_ram_Right⟩)] []) (envT []) 1 0 37 Zh8 Zg7 (tabL 0 37 []) (Zb5 [0] (Zaa Tryz.f74)) (t21, (t22, (t23, (b0_0, (b0_1, (b1, ())))))) = Zqi F_ram_Right  t21 t22 t23 b0_0 b0_1 b1 := by kernel_rfl
def Zlg : TL Zh8.σs → Option (Out Zg7) := lpD (fun d => Zqi Zj4  d.1 d.2.1 d.2.2.1 d.2.2.2.1 d.2.2.2.2.1 d.2.2.2.2.2.1) NN
theorem Zxu {R : Type} : LOk Tryz.prog Real 0 37 (Zb5 [0] (Zaa Tryz.f74)) (specL (R := R) 0 37 ⟨Zh8, Ztd, Zg7, Zlg⟩) :=
 Zby Zac (kn_ok (List.forall_mem_cons.2 ⟨Zre, (List.forall_mem_nil _)⟩) (List.forall_mem_nil _)) (Zak (List.forall_mem_nil _)) (Zan (by kernel_rfl) Zae) (lp_of fun d => Zxv Zj4  d.1 d.2.1 d.2.2.1 d.2.2.2.1 d.2.2.2.2.1 d.2.2.2.2.2.1)
def Zrt (F_ram_Right : TL [(.int .i64), (.int .i64), (.sl Za3)] → Option (TL [.bool])) (L5 : TL Zh8.σs → Option (Out Zg7)) (t0 : Int) (t1 : Int) (t2 : List (Sh.T Za3)) : Option (Out Zf1) :=
 bnd (F_ram_Right (t0, (t1, (t2, ())))) fun x0 =>
 br (Bool.not x0.1)
 (
  some (.inl ((14 : Int), ())))
 (
  bnd (L5 (t2, ((Int.ofNat (List.length t2)), ((0 : Int), (t0, (t1, ([], ()))))))) fun x1 =>
  some (.inr ((0 : Int), (x1.1, (x1.2.1, (x1.2.2.1, ()))))))
theorem Zzi (F_ram_Right : TL [(.int .i64), (.int .i64), (.sl Za3)] → Option (TL [.bool])) (L5 : TL Zh8.σs → Option (Out Zg7)) (t0 : Int) (t1 : Int) (t2 : List (Sh.T Za3)) : runP (outs := Zf1) Tryz.prog (shOf Tryz.prog 20) (kn [(108, ⟨_, _, F_ram_Right⟩)] []) (envT []) 1 (tabL 0 37 [(5, ⟨Zh8, Ztd, Zg7, L5⟩)]) Tryz.f74 (Zaa Tryz.f74) 3 2 Zh9 (t0, (t1, (t2, ()))) = Zrt F_ram_Right L5 t0 t1 t2 := by kernel_rfl
def Zk8 : TL Zh9.σs → Option (Out Zf1) := fun d => Zrt Zj4 Zlg d.1 d.2.1 d.2.2.1
theorem Zsb : Zi7 Tryz.prog 74 ⟨3, Zh9, 2, Zf1, Zk8⟩ :=
 Zi0 (e := Tryz.f74) (c := Zaa Tryz.f74) Tryz.func74 (by kernel_rfl) (by kernel_rfl) Zac (kn_ok (List.forall_mem_cons.2 ⟨Zre, (List.forall_mem_nil _)⟩) (List.forall_mem_nil _)) (Zak (List.forall_mem_nil _)) 0 37 (by kernel_rfl) (by kernel_rfl) (Zan (by kernel_rfl) (Zb4 (by kernel_rfl) Zxu Zae)) (Zeq fun d => Zzi Zj4 Zlg d.1 d.2.1 d.2.2.1)
def Zke : Lay := { T := [(0, .ptr 0 0), (1, .int .u64)], h := [(0, .cells [.int .i64, .int .i64, .mp 1] 157), (1, .map .u64 (.int .u64))], nx := 2 }
def Zhx : List (Ev.Ex × Lay) := [(.ret, { T := [(0, .int .u64)], h := [(0, .cells [.int .i64, .int .i64, .mp 1] 157), (1, .map .u64 (.int .u64))], nx := 2 })]
def Zq2   (t1 : Int) (b0_0 : Int) (b0_1 : Int) (b1 : List (Sh.T Za3)) : Option (Out Zhx) :=
 some ((@mget (.int .u64) b1 t1), (b0_0, (b0_1, (b1, ()))))
theorem Zs5   (t1 : Int) (b0_0 : Int) (b0_1 : Int) (b1 : List (Sh.T Za3)) : runP (outs := Zhx) Tryz.prog (shOf Tryz.prog 20) (kn [] []) (envT []) 1 (tabL 2 13 []) Tryz.f91 (Zaa Tryz.f91) 2 1 Zke (t1, (b0_0, (b0_1, (b1, ())))) = Zq2   t1 b0_0 b0_1 b1 := by kernel_rfl
def Ztu : TL Zke.σs → Option (Out Zhx) := fun d => Zq2   d.1 d.2.1 d.2.2.1 d.2.2.2.1
theorem Za2r : Zi7 Tryz.prog 91 ⟨2, Zke, 1, Zhx, Ztu⟩ :=
 Zi0 (e := Tryz.f91) (c := Zaa Tryz.f91) Tryz.func91 (by kernel_rfl) (by kernel_rfl) Zac (kn_ok (List.forall_mem_nil _) (List.forall_mem_nil _)) (Zak (List.forall_mem_nil _)) 2 13 (by kernel_rfl) (by kernel_rfl) (Zan (by kernel_rfl) Zae) (Zeq fun d => Zs5   d.1 d.2.1 d.2.2.1 d.2.2.2.1)
def Zjo : Lay := { T := [(0, .ptr 0 0), (1, .int .u64), (2, .int .u64)], h := [(0, .cells [.int .i64, .int .i64, .mp 1] 157), (1, .map .u64 (.int .u64))], nx := 2 }
def Zhk : List (Ev.Ex × Lay) := [(.ret, { T := [(0, .bool)], h := [(0, .cells [.int .i64, .int .i64, .mp 1] 157), (1, .map .u64 (.int .u64))], nx := 2 })]
def Zoo (F_bits_Fits : TL [(.int .u64), (.int .i64)] → Option (TL [.bool]))  (t1 : Int) (t2 : Int) (b0_0 : Int) (b0_1 : Int) (b1 : List (Sh.T Za3)) : Option (Out Zhk) :=
 bnd (F_bits_Fits (t1, (b0_0, ()))) fun x0 =>
 br (selB false true (Bool.not x0.1))
 (
  some (false, (b0_0, (b0_1, (b1, ())))))
 (
  bnd (F_bits_Fits (t2, (b0_1, ()))) fun x1 =>
  br (selB false true (Bool.not x1.1))
  (
   some (false, (b0_0, (b0_1, (b1, ())))))
  (
   br (@decide _ (Int.instDecidableEq t2 (0 : Int)))
   (
    some (true, (b0_0, (b0_1, ((@mdel (.int .u64) t1 b1), ())))))
   (
    some (true, (b0_0, (b0_1, ((@mput (.int .u64) t1 t2 b1), ())))))))
theorem Zrn (F_bits_Fits : TL [(.int .u64), (.int .i64)] → Option (TL [.bool]))  (t1 : Int) (t2 : Int) (b0_0 : Int) (b0_1 : Int) (b1 : List (Sh.T Za3)) : runP (outs := Zhk) Tryz.prog (shOf Tryz.prog 20) (kn [(129, ⟨_, _, F_bits_Fits⟩)] []) (envT []) 1 (tabL 2 42 []) Tryz.f118 (Zaa Tryz.f118) 3 1 Zjo (t1, (t2, (b0_0, (b0_1, (b1, ()))))) = Zoo F_bits_Fits  t1 t2 b0_0 b0_1 b1 := by kernel_rfl
def Zt0 : TL Zjo.σs → Option (Out Zhk) := fun d => Zoo Zhe  d.1 d.2.1 d.2.2.1 d.2.2.2.1 d.2.2.2.2.1
theorem Za0n : Zi7 Tryz.prog 118 ⟨3, Zjo, 1, Zhk, Zt0⟩ :=
 Zi0 (e := Tryz.f118) (c := Zaa Tryz.f118) Tryz.func118 (by kernel_rfl) (by kernel_rfl) Zac (kn_ok (List.forall_mem_cons.2 ⟨Zn5, (List.forall_mem_nil _)⟩) (List.forall_mem_nil _)) (Zak (List.forall_mem_nil _)) 2 42 (by kernel_rfl) (by kernel_rfl) (Zan (by kernel_rfl) Zae) (Zeq fun d => Zrn Zhe  d.1 d.2.1 d.2.2.1 d.2.2.2.1 d.2.2.2.2.1)
def Zkg : Lay := { T := [(0, .agg [.int .i64, .fz (.int .i64), .fz Za0, .fz (.int .i64), .fz (.int .i64), .fz (.int .i64), .fz Za1, .fz Za0]), (1, .agg [.fz .bool, .fz (.sl Za3)])], h := [], nx := 0 }
def Zia : List (Ev.Ex × Lay) := [(.ret, { T := [(0, .rhd 0), (1, .int .i64)], h := [(0, .rams 157)], nx := 1 })]
def Zh6 : Lay := { T := [(3, .ptr 0 0), (4, .rhd 1), (27, .fz Za1), (28, .int .i64), (29, .int .i64)], h := [(0, .cells [.fz .bool, .fz (.sl Za3)] 31), (1, .rams 157)], nx := 2 }
def Zt8 : List (Tmp × Sh × TypeId) := []
def Zg3 : List (Ev.Ex × Lay) := [(.ret, { T := [(4, .nils), (5, .int .i64)], h := [], nx := 0 }), ((.exit 0), { T := [(4, .rhd 0)], h := [(0, .rams 157)], nx := 1 })]
def Zms (F_ram_Load : TL Zh9.σs → Option (Out Zf1))  (t27 : List (Sh.T Za1)) (t28 : Int) (t29 : Int) (b0_0 : List (Bool)) (b0_1 : List (List (Sh.T Za3))) (b1 : List (Sh.T (.agg [(.int .i64), (.int .i64), (.sl Za3)]))) : Option (TL Zh6.σs ⊕ Out Zg3) :=
 br (@decide _ (Int.decLt t29 t28))
 (
  chk (inb t29 (List.length t27)) <|
  chk (inb t29 (List.length b0_1)) <|
  bnd (F_ram_Load ((gt Za1 t27 t29).1, ((gt Za1 t27 t29).2.1, ((gt (.sl Za3) b0_1 t29), ())))) fun x0 =>
  (match x0 with
  | .inl x1 =>
   chk (Bool.not (@decide _ (Int.instDecidableEq x1.1 (0 : Int)))) <|
   some (.inr (.inl (x1.1, ())))
  | .inr x1 =>
   br (Bool.not (@decide _ (Int.instDecidableEq x1.1 (0 : Int))))
   (
    some (.inr (.inl (x1.1, ()))))
   (
    chk (room 8 (List.length (@HAppend.hAppend (List (RamT)) (List (RamT)) (List (RamT)) _ b1 ((mkRam x1.2.1 x1.2.2.1 x1.2.2.2.1) :: [])))) <|
    some (.inl (t27, (t28, ((IntKind.wrap (.i64 : IntKind) (@HAdd.hAdd (Int) (Int) (Int) _ t29 (1 : Int))), (b0_0, (b0_1, ((@HAppend.hAppend (List (RamT)) (List (RamT)) (List (RamT)) _ b1 ((mkRam x1.2.1 x1.2.2.1 x1.2.2.2.1) :: [])), ()))))))))
  ))
 (
  some (.inr (.inr (b1, ()))))
theorem Zxl (F_ram_Load : TL Zh9.σs → Option (Out Zf1))  (t27 : List (Sh.T Za1)) (t28 : Int) (t29 : Int) (b0_0 : List (Bool)) (b0_1 : List (List (Sh.T Za3))) (b1 : List (Sh.T (.agg [(.int .i64), (.int .i64), (.sl Za3)]))) : runB Tryz.prog (shOf Tryz.prog 20) (kn [] [(74, ⟨3, Zh9, 2, Zf1, F_ram_Load⟩)]) (envT []) 1 0 56 Zh6 Zg3 (tabL 0 56 []) (Zb5 [0] (Zaa Tryz.f49)) (t27, (t28, (t29, (b0_0, (b0_1, (b1, ())))))) = Zms F_ram_Load  t27 t28 t29 b0_0 b0_1 b1 := by kernel_rfl
def Zle : TL Zh6.σs → Option (Out Zg3) := lpD (fun d => Zms Zk8  d.1 d.2.1 d.2.2.1 d.2.2.2.1 d.2.2.2.2.1 d.2.2.2.2.2.1) NN
theorem Zxk {R : Type} : LOk Tryz.prog Real 0 56 (Zb5 [0] (Zaa Tryz.f49)) (specL (R := R) 0 56 ⟨Zh6, Zt8, Zg3, Zle⟩) :=
 Zby Zac (kn_ok (List.forall_mem_nil _) (List.forall_mem_cons.2 ⟨Zsb, (List.forall_mem_nil _)⟩)) (Zak (List.forall_mem_nil _)) (Zan (by kernel_rfl) Zae) (lp_of fun d => Zxl Zk8  d.1 d.2.1 d.2.2.1 d.2.2.2.1 d.2.2.2.2.1 d.2.2.2.2.2.1)
def Zrp (F_ram_Load : TL Zh9.σs → Option (Out Zf1)) (L4 : TL Zh6.σs → Option (Out Zg3)) (t0_0 : Int) (t0_1 : List (Int)) (t0_2 : List (Sh.T Za0)) (t0_3 : List (Int)) (t0_4 : List (Int)) (t0_5 : List (Int)) (t0_6 : List (Sh.T Za1)) (t0_7 : List (Sh.T Za0)) (t1_0 : List (Bool)) (t1_1 : List (List (Sh.T Za3))) : Option (Out Zia) :=
 br (Bool.not (@decide _ (Int.instDecidableEq (Int.ofNat (List.length t1_0)) (Int.ofNat (List.length t0_2)))))
 (
  some ((14 : Int), ([], ())))
 (
  br (selB false true (Bool.not (@decide _ (Int.instDecidableEq (Int.ofNat (List.length t1_1)) (Int.ofNat (List.length t0_6))))))
  (
   some ((14 : Int), ([], ())))
  (
   bnd (L4 (t0_6, ((Int.ofNat (List.length t0_6)), ((0 : Int), (t1_0, (t1_1, ([], ()))))))) fun x0 =>
   (match x0 with
   | .inl x1 =>
    some (x1.1, ([], ()))
   | .inr x1 =>
    some ((0 : Int), (x1.1, ()))
   )))
theorem Zz9 (F_ram_Load : TL Zh9.σs → Option (Out Zf1)) (L4 : TL Zh6.σs → Option (Out Zg3)) (t0_0 : Int) (t0_1 : List (Int)) (t0_2 : List (Sh.T Za0)) (t0_3 : List (Int)) (t0_4 : List (Int)) (t0_5 : List (Int)) (t0_6 : List (Sh.T Za1)) (t0_7 : List (Sh.T Za0)) (t1_0 : List (Bool)) (t1_1 : List (List (Sh.T Za3))) : runP (outs := Zia) Tryz.prog (shOf Tryz.prog 20) (kn [] [(74, ⟨3, Zh9, 2, Zf1, F_ram_Load⟩)]) (envT []) 1 (tabL 0 56 [(4, ⟨Zh6, Zt8, Zg3, L4⟩)]) Tryz.f49 (Zaa Tryz.f49) 2 2 Zkg (t0_0, (t0_1, (t0_2, (t0_3, (t0_4, (t0_5, (t0_6, (t0_7, (t1_0, (t1_1, ())))))))))) = Zrp F_ram_Load L4 t0_0 t0_1 t0_2 t0_3 t0_4 t0_5 t0_6 t0_7 t1_0 t1_1 := by kernel_rfl
def Zq8 : TL Zkg.σs → Option (Out Zia) := fun d => Zrp Zk8 Zle d.1 d.2.1 d.2.2.1 d.2.2.2.1 d.2.2.2.2.1 d.2.2.2.2.2.1 d.2.2.2.2.2.2.1 d.2.2.2.2.2.2.2.1 d.2.2.2.2.2.2.2.2.1 d.2.2.2.2.2.2.2.2.2.1
theorem Zxj : Zi7 Tryz.prog 49 ⟨2, Zkg, 2, Zia, Zq8⟩ :=
 Zi0 (e := Tryz.f49) (c := Zaa Tryz.f49) Tryz.func49 (by kernel_rfl) (by kernel_rfl) Zac (kn_ok (List.forall_mem_nil _) (List.forall_mem_cons.2 ⟨Zsb, (List.forall_mem_nil _)⟩)) (Zak (List.forall_mem_nil _)) 0 56 (by kernel_rfl) (by kernel_rfl) (Zan (by kernel_rfl) (Zb4 (by kernel_rfl) Zxk Zae)) (Zeq fun d => Zz9 Zk8 Zle d.1 d.2.1 d.2.2.1 d.2.2.2.1 d.2.2.2.2.1 d.2.2.2.2.2.1 d.2.2.2.2.2.2.1 d.2.2.2.2.2.2.2.1 d.2.2.2.2.2.2.2.2.1 d.2.2.2.2.2.2.2.2.2.1)
def Zsj : List Sh := [Za5, Zab]
def Zqc : List Sh := [(.int .i64)]
def Zy5 (F_topo_Check : TL [Za5] → Option (TL [(.int .i64)])) (F_sim_load : TL Zkg.σs → Option (Out Zia))  (a0 : Sh.T Za5) (a1 : Sh.T Zab) : Option (TL Zqc) :=
 bnd (F_topo_Check ((a0.1, (a0.2.1, (a0.2.2.1, (a0.2.2.2.1, (a0.2.2.2.2.1, (a0.2.2.2.2.2.1, (a0.2.2.2.2.2.2.1, (a0.2.2.2.2.2.2.2.1, ())))))))), ())) fun x0 =>
 br (Bool.not (@decide _ (Int.instDecidableEq x0.1 (0 : Int))))
 (
  some (x0.1, ()))
 (
  bnd (F_sim_load (a0.1, (a0.2.1, (a0.2.2.1, (a0.2.2.2.1, (a0.2.2.2.2.1, (a0.2.2.2.2.2.1, (a0.2.2.2.2.2.2.1, (a0.2.2.2.2.2.2.2.1, (a1.1, (a1.2.1, ()))))))))))) fun x1 =>
  some (x1.1, ()))
theorem Zzb (F_topo_Check : TL [Za5] → Option (TL [(.int .i64)])) (F_sim_load : TL Zkg.σs → Option (Out Zia))  (a0 : Sh.T Za5) (a1 : Sh.T Zab) : runF (τs := Zqc) Tryz.prog (shOf Tryz.prog 20) (kn [(48, ⟨_, _, F_topo_Check⟩)] [(49, ⟨2, Zkg, 2, Zia, F_sim_load⟩)]) (envT []) 1 (tabL 0 20 []) Tryz.f32 (Zaa Tryz.f32) Zsj (a0, (a1, ())) = Zy5 F_topo_Check F_sim_load  a0 a1 := by kernel_rfl
def Zhp : TL Zsj → Option (TL Zqc) := fun d => Zy5 Zfn Zq8  d.1 d.2.1
theorem Zlo : Comes Tryz.prog 32 Zsj Zqc Zhp :=
 Zd1 (e := Tryz.f32) (c := Zaa Tryz.f32) Tryz.func32 (by kernel_rfl) (by kernel_rfl) Zac (kn_ok (List.forall_mem_cons.2 ⟨Zm1, (List.forall_mem_nil _)⟩) (List.forall_mem_cons.2 ⟨Zxj, (List.forall_mem_nil _)⟩)) (Zak (List.forall_mem_nil _)) 20 (by kernel_rfl) (Zan (by kernel_rfl) Zae) (Zeq fun d => Zzb Zfn Zq8  d.1 d.2.1)
def Zfa : Lay := { T := [(3, .ptr 0 0), (40, .fz Za1), (41, .int .i64), (42, .int .i64)], h := [(0, .cells [.fz .bool, .fz (.sl Za3)] 31)], nx := 1 }
def Zra : List (Tmp × Sh × TypeId) := []
def Zep : List (Ev.Ex × Lay) := [(.ret, { T := [(4, .int .i64)], h := [], nx := 0 }), ((.exit 2), { T := [], h := [], nx := 0 })]
def Zg5 : Lay := { T := [(2, .ptr 0 0), (3, .ptr 1 0), (17, .fz Za0), (18, .int .i64), (19, .int .i64)], h := [(0, .cells [.int .i64, .fz (.int .i64), .fz Za0, .fz (.int .i64), .fz (.int .i64), .fz (.int .i64), .fz Za1, .fz Za0] 27), (1, .cells [.fz .bool, .fz (.sl Za3)] 31)], nx := 2 }
def Zs9 : List (Tmp × Sh × TypeId) := []
def Zf9 : List (Ev.Ex × Lay) := [(.ret, { T := [(4, .int .i64)], h := [], nx := 0 }), ((.exit 0), { T := [(2, .ptr 0 0), (3, .ptr 1 0)], h := [(0, .cells [.int .i64, .fz (.int .i64), .fz Za0, .fz (.int .i64), .fz (.int .i64), .fz (.int .i64), .fz Za1, .fz Za0] 27), (1, .cells [.fz .bool, .fz (.sl Za3)] 31)], nx := 2 })]
def Zlr (F_sim_Fits : TL [Za5, Zab] → Option (TL [(.int .i64)]))  (t17 : List (Sh.T Za0)) (t18 : Int) (t19 : Int) (b0_0 : Int) (b0_1 : List (Int)) (b0_2 : List (Sh.T Za0)) (b0_3 : List (Int)) (b0_4 : List (Int)) (b0_5 : List (Int)) (b0_6 : List (Sh.T Za1)) (b0_7 : List (Sh.T Za0)) (b1_0 : List (Bool)) (b1_1 : List (List (Sh.T Za3))) : Option (TL Zg5.σs ⊕ Out Zf9) :=
 br (@decide _ (Int.decLt t19 t18))
 (
  chk (inb t19 (List.length t17)) <|
  br (Bool.not (@decide _ (Int.instDecidableEq (gt Za0 t17 t19).2.2.1 (2 : Int))))
  (
   chk (inb t19 (List.length b1_0)) <|
   br (selB true (Bool.not (@decide _ (Bool.decEq (@decide _ (Int.instDecidableEq (gt Za0 t17 t19).2.2.1 (1 : Int))) (gt .bool b1_0 t19)))) false)
   (
    some (.inr (.inl ((14 : Int), ()))))
   (
    some (.inl (t17, (t18, ((IntKind.wrap (.i64 : IntKind) (@HAdd.hAdd (Int) (Int) (Int) _ t19 (1 : Int))), (b0_0, (b0_1, (b0_2, (b0_3, (b0_4, (b0_5, (b0_6, (b0_7, (b1_0, (b1_1, ()))))))))))))))))
  (
   some (.inl (t17, (t18, ((IntKind.wrap (.i64 : IntKind) (@HAdd.hAdd (Int) (Int) (Int) _ t19 (1 : Int))), (b0_0, (b0_1, (b0_2, (b0_3, (b0_4, (b0_5, (b0_6, (b0_7, (b1_0, (b1_1, ()))))))))))))))))
 (
  some (.inr (.inr (b0_0, (b0_1, (b0_2, (b0_3, (b0_4, (b0_5, (b0_6, (b0_7, (b1_0, (b1_1, ())))))))))))))
theorem Zwh (F_sim_Fits : TL [Za5, Zab] → Option (TL [(.int .i64)]))  (t17 : List (Sh.T Za0)) (t18 : Int) (t19 : Int) (b0_0 : Int) (b0_1 : List (Int)) (b0_2 : List (Sh.T Za0)) (b0_3 : List (Int)) (b0_4 : List (Int)) (b0_5 : List (Int)) (b0_6 : List (Sh.T Za1)) (b0_7 : List (Sh.T Za0)) (b1_0 : List (Bool)) (b1_1 : List (List (Sh.T Za3))) : runB Tryz.prog (shOf Tryz.prog 20) (kn [(32, ⟨_, _, F_sim_Fits⟩)] []) (envT []) 1 0 60 Zg5 Zf9 (tabL 0 60 []) (Zb5 [0] (Zaa Tryz.f35)) (t17, (t18, (t19, (b0_0, (b0_1, (b0_2, (b0_3, (b0_4, (b0_5, (b0_6, (b0_7, (b1_0, (b1_1, ()))))))))))))) = Zlr F_sim_Fits  t17 t18 t19 b0_0 b0_1 b0_2 b0_3 b0_4 b0_5 b0_6 b0_7 b1_0 b1_1 := by kernel_rfl
def Zlq : TL Zg5.σs → Option (Out Zf9) := lpD (fun d => Zlr Zhp  d.1 d.2.1 d.2.2.1 d.2.2.2.1 d.2.2.2.2.1 d.2.2.2.2.2.1 d.2.2.2.2.2.2.1 d.2.2.2.2.2.2.2.1 d.2.2.2.2.2.2.2.2.1 d.2.2.2.2.2.2.2.2.2.1 d.2.2.2.2.2.2.2.2.2.2.1 d.2.2.2.2.2.2.2.2.2.2.2.1 d.2.2.2.2.2.2.2.2.2.2.2.2.1) NN
theorem Zwf {R : Type} : LOk Tryz.prog Real 0 60 (Zb5 [0] (Zaa Tryz.f35)) (specL (R := R) 0 60 ⟨Zg5, Zs9, Zf9, Zlq⟩) :=
 Zby Zac (kn_ok (List.forall_mem_cons.2 ⟨Zlo, (List.forall_mem_nil _)⟩) (List.forall_mem_nil _)) (Zak (List.forall_mem_nil _)) (Zan (by kernel_rfl) Zae) (lp_of fun d => Zwh Zhp  d.1 d.2.1 d.2.2.1 d.2.2.2.1 d.2.2.2.2.1 d.2.2.2.2.2.1 d.2.2.2.2.2.2.1 d.2.2.2.2.2.2.2.1 d.2.2.2.2.2.2.2.2.1 d.2.2.2.2.2.2.2.2.2.1 d.2.2.2.2.2.2.2.2.2.2.1 d.2.2.2.2.2.2.2.2.2.2.2.1 d.2.2.2.2.2.2.2.2.2.2.2.2.1)
def Zkv (F_sim_Fits : TL [Za5, Zab] → Option (TL [(.int .i64)]))  (t40 : List (Sh.T Za1)) (t41 : Int) (t42 : Int) (b0_0 : List (Bool)) (b0_1 : List (List (Sh.T Za3))) : Option (TL Zfa.σs ⊕ Out Zep) :=
 br (@decide _ (Int.decLt t42 t41))
 (
  chk (inb t42 (List.length t40)) <|
  br (Bool.not (gt Za1 t40 t42).2.2.1)
  (
   chk (inb t42 (List.length b0_1)) <|
   br (selB true (@decide _ (Int.decLt (0 : Int) (Int.ofNat (List.length (gt (.sl Za3) b0_1 t42))))) false)
   (
    some (.inr (.inl ((14 : Int), ()))))
   (
    some (.inl (t40, (t41, ((IntKind.wrap (.i64 : IntKind) (@HAdd.hAdd (Int) (Int) (Int) _ t42 (1 : Int))), (b0_0, (b0_1, ()))))))))
  (
   some (.inl (t40, (t41, ((IntKind.wrap (.i64 : IntKind) (@HAdd.hAdd (Int) (Int) (Int) _ t42 (1 : Int))), (b0_0, (b0_1, ()))))))))
 (
  some (.inr (.inr ())))
theorem Zvd (F_sim_Fits : TL [Za5, Zab] → Option (TL [(.int .i64)]))  (t40 : List (Sh.T Za1)) (t41 : Int) (t42 : Int) (b0_0 : List (Bool)) (b0_1 : List (List (Sh.T Za3))) : runB Tryz.prog (shOf Tryz.prog 20) (kn [(32, ⟨_, _, F_sim_Fits⟩)] []) (envT []) 1 0 60 Zfa Zep (tabL 0 60 []) (Zb5 [1] (Zaa Tryz.f35)) (t40, (t41, (t42, (b0_0, (b0_1, ()))))) = Zkv F_sim_Fits  t40 t41 t42 b0_0 b0_1 := by kernel_rfl
def Zku : TL Zfa.σs → Option (Out Zep) := lpD (fun d => Zkv Zhp  d.1 d.2.1 d.2.2.1 d.2.2.2.1 d.2.2.2.2.1) NN
theorem Zvc {R : Type} : LOk Tryz.prog Real 0 60 (Zb5 [1] (Zaa Tryz.f35)) (specL (R := R) 0 60 ⟨Zfa, Zra, Zep, Zku⟩) :=
 Zby Zac (kn_ok (List.forall_mem_cons.2 ⟨Zlo, (List.forall_mem_nil _)⟩) (List.forall_mem_nil _)) (Zak (List.forall_mem_nil _)) (Zan (by kernel_rfl) Zae) (lp_of fun d => Zvd Zhp  d.1 d.2.1 d.2.2.1 d.2.2.2.1 d.2.2.2.2.1)
def Zr9 : List Sh := [Za5, Zab]
def Zoc : List Sh := [(.int .i64)]
def Zwg (F_sim_Fits : TL [Za5, Zab] → Option (TL [(.int .i64)])) (L5 : TL Zg5.σs → Option (Out Zf9)) (L11 : TL Zfa.σs → Option (Out Zep)) (a0 : Sh.T Za5) (a1 : Sh.T Zab) : Option (TL Zoc) :=
 bnd (F_sim_Fits ((a0.1, (a0.2.1, (a0.2.2.1, (a0.2.2.2.1, (a0.2.2.2.2.1, (a0.2.2.2.2.2.1, (a0.2.2.2.2.2.2.1, (a0.2.2.2.2.2.2.2.1, ())))))))), ((a1.1, (a1.2.1, ())), ()))) fun x0 =>
 br (Bool.not (@decide _ (Int.instDecidableEq x0.1 (0 : Int))))
 (
  some (x0.1, ()))
 (
  bnd (L5 (a0.2.2.1, ((Int.ofNat (List.length a0.2.2.1)), ((0 : Int), (a0.1, (a0.2.1, (a0.2.2.1, (a0.2.2.2.1, (a0.2.2.2.2.1, (a0.2.2.2.2.2.1, (a0.2.2.2.2.2.2.1, (a0.2.2.2.2.2.2.2.1, (a1.1, (a1.2.1, ())))))))))))))) fun x1 =>
  (match x1 with
  | .inl x2 =>
   some (x2.1, ())
  | .inr x2 =>
   bnd (L11 (x2.2.2.2.2.2.2.1, ((Int.ofNat (List.length x2.2.2.2.2.2.2.1)), ((0 : Int), (x2.2.2.2.2.2.2.2.2.1, (x2.2.2.2.2.2.2.2.2.2.1, ())))))) fun x3 =>
   (match x3 with
   | .inl x4 =>
    some (x4.1, ())
   | .inr x4 =>
    some ((0 : Int), ())
   )
  ))
theorem Zxp (F_sim_Fits : TL [Za5, Zab] → Option (TL [(.int .i64)])) (L5 : TL Zg5.σs → Option (Out Zf9)) (L11 : TL Zfa.σs → Option (Out Zep)) (a0 : Sh.T Za5) (a1 : Sh.T Zab) : runF (τs := Zoc) Tryz.prog (shOf Tryz.prog 20) (kn [(32, ⟨_, _, F_sim_Fits⟩)] []) (envT []) 1 (tabL 0 60 [(5, ⟨Zg5, Zs9, Zf9, L5⟩), (11, ⟨Zfa, Zra, Zep, L11⟩)]) Tryz.f35 (Zaa Tryz.f35) Zr9 (a0, (a1, ())) = Zwg F_sim_Fits L5 L11 a0 a1 := by kernel_rfl
def Zod : TL Zr9 → Option (TL Zoc) := fun d => Zwg Zhp Zlq Zku d.1 d.2.1
theorem Zwe : Comes Tryz.prog 35 Zr9 Zoc Zod :=
 Zd1 (e := Tryz.f35) (c := Zaa Tryz.f35) Tryz.func35 (by kernel_rfl) (by kernel_rfl) Zac (kn_ok (List.forall_mem_cons.2 ⟨Zlo, (List.forall_mem_nil _)⟩) (List.forall_mem_nil _)) (Zak (List.forall_mem_nil _)) 60 (by kernel_rfl) (Zan (by kernel_rfl) (Zb4 (by kernel_rfl) Zwf (Zb4 (by kernel_rfl) Zvc Zae))) (Zeq fun d => Zxp Zhp Zlq Zku d.1 d.2.1)
def Zh7 : Lay := { T := [(1, .ptr 0 0), (2, .ptr 1 0), (10, .fz Za0), (11, .int .i64), (12, .int .i64)], h := [(0, .cells [.int .i64, .fz (.int .i64), .fz Za0, .fz (.int .i64), .fz (.int .i64), .fz (.int .i64), .fz Za1, .fz Za0] 27), (1, .cells [.hd 2 .bool, .nils] 31), (2, .arr .bool 4)], nx := 3 }
def Zt9 : List (Tmp × Sh × TypeId) := []
def Zg4 : List (Ev.Ex × Lay) := [((.exit 0), { T := [(1, .ptr 0 0), (2, .ptr 1 0)], h := [(0, .cells [.int .i64, .fz (.int .i64), .fz Za0, .fz (.int .i64), .fz (.int .i64), .fz (.int .i64), .fz Za1, .fz Za0] 27), (1, .cells [.hd 2 .bool, .nils] 31), (2, .arr .bool 4)], nx := 3 })]
def Zqb (F_topo_Check : TL [Za5] → Option (TL [(.int .i64)]))  (t10 : List (Sh.T Za0)) (t11 : Int) (t12 : Int) (b0_0 : Int) (b0_1 : List (Int)) (b0_2 : List (Sh.T Za0)) (b0_3 : List (Int)) (b0_4 : List (Int)) (b0_5 : List (Int)) (b0_6 : List (Sh.T Za1)) (b0_7 : List (Sh.T Za0)) (b2 : List (Bool)) : Option (TL Zh7.σs ⊕ Out Zg4) :=
 br (@decide _ (Int.decLt t12 t11))
 (
  chk (inb t12 (List.length t10)) <|
  chk (room 1 (List.length (@HAppend.hAppend (List (Bool)) (List (Bool)) (List (Bool)) _ b2 ((@decide _ (Int.instDecidableEq (gt Za0 t10 t12).2.2.1 (1 : Int))) :: [])))) <|
  some (.inl (t10, (t11, ((IntKind.wrap (.i64 : IntKind) (@HAdd.hAdd (Int) (Int) (Int) _ t12 (1 : Int))), (b0_0, (b0_1, (b0_2, (b0_3, (b0_4, (b0_5, (b0_6, (b0_7, ((@HAppend.hAppend (List (Bool)) (List (Bool)) (List (Bool)) _ b2 ((@decide _ (Int.instDecidableEq (gt Za0 t10 t12).2.2.1 (1 : Int))) :: [])), ()))))))))))))))
 (
  some (.inr (b0_0, (b0_1, (b0_2, (b0_3, (b0_4, (b0_5, (b0_6, (b0_7, (b2, ())))))))))))
theorem Zxo (F_topo_Check : TL [Za5] → Option (TL [(.int .i64)]))  (t10 : List (Sh.T Za0)) (t11 : Int) (t12 : Int) (b0_0 : Int) (b0_1 : List (Int)) (b0_2 : List (Sh.T Za0)) (b0_3 : List (Int)) (b0_4 : List (Int)) (b0_5 : List (Int)) (b0_6 : List (Sh.T Za1)) (b0_7 : List (Sh.T Za0)) (b2 : List (Bool)) : runB Tryz.prog (shOf Tryz.prog 20) (kn [(48, ⟨_, _, F_topo_Check⟩)] []) (envT []) 1 0 31 Zh7 Zg4 (tabL 0 31 []) (Zb5 [0] (Zaa Tryz.f37)) (t10, (t11, (t12, (b0_0, (b0_1, (b0_2, (b0_3, (b0_4, (b0_5, (b0_6, (b0_7, (b2, ())))))))))))) = Zqb F_topo_Check  t10 t11 t12 b0_0 b0_1 b0_2 b0_3 b0_4 b0_5 b0_6 b0_7 b2 := by kernel_rfl
def Zmt : TL Zh7.σs → Option (Out Zg4) := lpD (fun d => Zqb Zfn  d.1 d.2.1 d.2.2.1 d.2.2.2.1 d.2.2.2.2.1 d.2.2.2.2.2.1 d.2.2.2.2.2.2.1 d.2.2.2.2.2.2.2.1 d.2.2.2.2.2.2.2.2.1 d.2.2.2.2.2.2.2.2.2.1 d.2.2.2.2.2.2.2.2.2.2.1 d.2.2.2.2.2.2.2.2.2.2.2.1) NN
theorem Zxn {R : Type} : LOk Tryz.prog Real 0 31 (Zb5 [0] (Zaa Tryz.f37)) (specL (R := R) 0 31 ⟨Zh7, Zt9, Zg4, Zmt⟩) :=
 Zby Zac (kn_ok (List.forall_mem_cons.2 ⟨Zm1, (List.forall_mem_nil _)⟩) (List.forall_mem_nil _)) (Zak (List.forall_mem_nil _)) (Zan (by kernel_rfl) Zae) (lp_of fun d => Zxo Zfn  d.1 d.2.1 d.2.2.1 d.2.2.2.1 d.2.2.2.2.1 d.2.2.2.2.2.1 d.2.2.2.2.2.2.1 d.2.2.2.2.2.2.2.1 d.2.2.2.2.2.2.2.2.1 d.2.2.2.2.2.2.2.2.2.1 d.2.2.2.2.2.2.2.2.2.2.1 d.2.2.2.2.2.2.2.2.2.2.2.1)
def Zsi : List Sh := [Za5]
def Zq9 : List Sh := [Zab]
def Zy4 (F_topo_Check : TL [Za5] → Option (TL [(.int .i64)])) (L4 : TL Zh7.σs → Option (Out Zg4)) (a0 : Sh.T Za5) : Option (TL Zq9) :=
 bnd (F_topo_Check ((a0.1, (a0.2.1, (a0.2.2.1, (a0.2.2.2.1, (a0.2.2.2.2.1, (a0.2.2.2.2.2.1, (a0.2.2.2.2.2.2.1, (a0.2.2.2.2.2.2.2.1, ())))))))), ())) fun x0 =>
 br (Bool.not (@decide _ (Int.instDecidableEq x0.1 (0 : Int))))
 (
  some (([], ([], ())), ()))
 (
  bnd (L4 (a0.2.2.1, ((Int.ofNat (List.length a0.2.2.1)), ((0 : Int), (a0.1, (a0.2.1, (a0.2.2.1, (a0.2.2.2.1, (a0.2.2.2.2.1, (a0.2.2.2.2.2.1, (a0.2.2.2.2.2.2.1, (a0.2.2.2.2.2.2.2.1, ([], ()))))))))))))) fun x1 =>
  chk (both (@decide _ (Int.decLe (0 : Int) (Int.ofNat (List.length x1.2.2.2.2.2.2.1)))) (both (@decide _ (Int.decLe (Int.ofNat (List.length x1.2.2.2.2.2.2.1)) (Int.ofNat (List.length x1.2.2.2.2.2.2.1)))) (@decide _ (Int.decLe (@HMul.hMul (Int) (Int) (Int) _ (Int.ofNat 24) (Int.ofNat (List.length x1.2.2.2.2.2.2.1))) (281474976710656 : Int))))) <|
  some ((x1.2.2.2.2.2.2.2.2.1, ((List.replicate (Int.toNat (Int.ofNat (List.length x1.2.2.2.2.2.2.1))) (Sh.zero (.sl Za3))), ())), ()))
theorem Zza (F_topo_Check : TL [Za5] → Option (TL [(.int .i64)])) (L4 : TL Zh7.σs → Option (Out Zg4)) (a0 : Sh.T Za5) : runF (τs := Zq9) Tryz.prog (shOf Tryz.prog 20) (kn [(48, ⟨_, _, F_topo_Check⟩)] []) (envT []) 1 (tabL 0 31 [(4, ⟨Zh7, Zt9, Zg4, L4⟩)]) Tryz.f37 (Zaa Tryz.f37) Zsi (a0, ()) = Zy4 F_topo_Check L4 a0 := by kernel_rfl
def Zqa : TL Zsi → Option (TL Zq9) := fun d => Zy4 Zfn Zmt d.1
theorem Zxm : Comes Tryz.prog 37 Zsi Zq9 Zqa :=
 Zd1 (e := Tryz.f37) (c := Zaa Tryz.f37) Tryz.func37 (by kernel_rfl) (by kernel_rfl) Zac (kn_ok (List.forall_mem_cons.2 ⟨Zm1, (List.forall_mem_nil _)⟩) (List.forall_mem_nil _)) (Zak (List.forall_mem_nil _)) 31 (by kernel_rfl) (Zan (by kernel_rfl) (Zb4 (by kernel_rfl) Zxn Zae)) (Zeq fun d => Zza Zfn Zmt d.1)
def Zd2 : Lay := { T := [(0, .int .u64), (1, .int .i64), (5, .int .i64)], h := [], nx := 0 }
def Zko : List (Tmp × Sh × TypeId) := []
def Zcx : List (Ev.Ex × Lay) := [((.exit 0), { T := [(0, .int .u64)], h := [], nx := 0 })]
def Zgr   (t0 : Int) (t1 : Int) (t5 : Int) : Option (TL Zd2.σs ⊕ Out Zcx) :=
 br (@decide _ (Int.decLt t5 t1))
 (
  br (selB true (@decide _ (Int.decLt t5 (64 : Int))) false)
  (
   some (.inl ((IntKind.wrap (.u64 : IntKind) (Int.tdiv t0 (2 : Int))), (t1, ((IntKind.wrap (.i64 : IntKind) (@HAdd.hAdd (Int) (Int) (Int) _ t5 (1 : Int))), ())))))
  (
   some (.inr (t0, ()))))
 (
  some (.inr (t0, ())))
theorem Zp8   (t0 : Int) (t1 : Int) (t5 : Int) : runB Tryz.prog (shOf Tryz.prog 20) (kn [] []) (envT []) 1 0 19 Zd2 Zcx (tabL 0 19 []) (Zb5 [0] (Zaa Tryz.f85)) (t0, (t1, (t5, ()))) = Zgr   t0 t1 t5 := by kernel_rfl
def Zf0 : TL Zd2.σs → Option (Out Zcx) := lpD (fun d => Zgr   d.1 d.2.1 d.2.2.1) NN
theorem Zp7 {R : Type} : LOk Tryz.prog Real 0 19 (Zb5 [0] (Zaa Tryz.f85)) (specL (R := R) 0 19 ⟨Zd2, Zko, Zcx, Zf0⟩) :=
 Zby Zac (kn_ok (List.forall_mem_nil _) (List.forall_mem_nil _)) (Zak (List.forall_mem_nil _)) (Zan (by kernel_rfl) Zae) (lp_of fun d => Zp8   d.1 d.2.1 d.2.2.1)
def Ziy : List Sh := [(.int .u64), (.int .i64)]
def Zgq : List Sh := [.bool]
def Zm0  (L2 : TL Zd2.σs → Option (Out Zcx)) (a0 : Int) (a1 : Int) : Option (TL Zgq) :=
 bnd (L2 (a0, (a1, ((0 : Int), ())))) fun x0 =>
 some ((@decide _ (Int.instDecidableEq x0.1 (0 : Int))), ())
theorem Zpv  (L2 : TL Zd2.σs → Option (Out Zcx)) (a0 : Int) (a1 : Int) : runF (τs := Zgq) Tryz.prog (shOf Tryz.prog 20) (kn [] []) (envT []) 1 (tabL 0 19 [(2, ⟨Zd2, Zko, Zcx, L2⟩)]) Tryz.f85 (Zaa Tryz.f85) Ziy (a0, (a1, ())) = Zm0  L2 a0 a1 := by kernel_rfl
def Zdg : TL Ziy → Option (TL Zgq) := fun d => Zm0  Zf0 d.1 d.2.1
theorem Zjy : Comes Tryz.prog 85 Ziy Zgq Zdg :=
 Zd1 (e := Tryz.f85) (c := Zaa Tryz.f85) Tryz.func85 (by kernel_rfl) (by kernel_rfl) Zac (kn_ok (List.forall_mem_nil _) (List.forall_mem_nil _)) (Zak (List.forall_mem_nil _)) 19 (by kernel_rfl) (Zan (by kernel_rfl) (Zb4 (by kernel_rfl) Zp7 Zae)) (Zeq fun d => Zpv  Zf0 d.1 d.2.1)
def Zcp : Lay := { T := [(0, .fz .bool), (1, .fz .bool), (5, .int .i64)], h := [], nx := 0 }
def Zkn : List (Tmp × Sh × TypeId) := []
def Zca : List (Ev.Ex × Lay) := [(.ret, { T := [(4, .bool)], h := [], nx := 0 }), ((.exit 0), { T := [], h := [], nx := 0 })]
def Zgp   (t0 : List (Bool)) (t1 : List (Bool)) (t5 : Int) : Option (TL Zcp.σs ⊕ Out Zca) :=
 br (@decide _ (Int.decLt t5 (Int.ofNat (List.length t0))))
 (
  chk (inb t5 (List.length t0)) <|
  chk (inb t5 (List.length t1)) <|
  br (Bool.not (@decide _ (Bool.decEq (gt .bool t0 t5) (gt .bool t1 t5))))
  (
   some (.inr (.inl (false, ()))))
  (
   some (.inl (t0, (t1, ((IntKind.wrap (.i64 : IntKind) (@HAdd.hAdd (Int) (Int) (Int) _ t5 (1 : Int))), ()))))))
 (
  some (.inr (.inr ())))
theorem Zp6   (t0 : List (Bool)) (t1 : List (Bool)) (t5 : Int) : runB Tryz.prog (shOf Tryz.prog 20) (kn [] []) (envT []) 1 0 26 Zcp Zca (tabL 0 26 []) (Zb5 [0] (Zaa Tryz.f41)) (t0, (t1, (t5, ()))) = Zgp   t0 t1 t5 := by kernel_rfl
def Zez : TL Zcp.σs → Option (Out Zca) := lpD (fun d => Zgp   d.1 d.2.1 d.2.2.1) NN
theorem Zp5 {R : Type} : LOk Tryz.prog Real 0 26 (Zb5 [0] (Zaa Tryz.f41)) (specL (R := R) 0 26 ⟨Zcp, Zkn, Zca, Zez⟩) :=
 Zby Zac (kn_ok (List.forall_mem_nil _) (List.forall_mem_nil _)) (Zak (List.forall_mem_nil _)) (Zan (by kernel_rfl) Zae) (lp_of fun d => Zp6   d.1 d.2.1 d.2.2.1)
def Zix : List Sh := [(.sl .bool), (.sl .bool)]
def Zgo : List Sh := [.bool]
def Zlz  (L4 : TL Zcp.σs → Option (Out Zca)) (a0 : List (Bool)) (a1 : List (Bool)) : Option (TL Zgo) :=
 br (Bool.not (@decide _ (Int.instDecidableEq (Int.ofNat (List.length a0)) (Int.ofNat (List.length a1)))))
 (
  some (false, ()))
 (
  bnd (L4 (a0, (a1, ((0 : Int), ())))) fun x0 =>
  (match x0 with
  | .inl x1 =>
   some (x1.1, ())
  | .inr x1 =>
   some (true, ())
  ))
theorem Zpu  (L4 : TL Zcp.σs → Option (Out Zca)) (a0 : List (Bool)) (a1 : List (Bool)) : runF (τs := Zgo) Tryz.prog (shOf Tryz.prog 20) (kn [] []) (envT []) 1 (tabL 0 26 [(4, ⟨Zcp, Zkn, Zca, L4⟩)]) Tryz.f41 (Zaa Tryz.f41) Zix (a0, (a1, ())) = Zlz  L4 a0 a1 := by kernel_rfl
def Zdw : TL Zix → Option (TL Zgo) := fun d => Zlz  Zez d.1 d.2.1
theorem Zjx : Comes Tryz.prog 41 Zix Zgo Zdw :=
 Zd1 (e := Tryz.f41) (c := Zaa Tryz.f41) Tryz.func41 (by kernel_rfl) (by kernel_rfl) Zac (kn_ok (List.forall_mem_nil _) (List.forall_mem_nil _)) (Zak (List.forall_mem_nil _)) 26 (by kernel_rfl) (Zan (by kernel_rfl) (Zb4 (by kernel_rfl) Zp5 Zae)) (Zeq fun d => Zpu  Zez d.1 d.2.1)
def Zc9 : Lay := { T := [(0, .int .i64), (1, .int .i64), (2, .fz Za3), (7, .int .i64)], h := [], nx := 0 }
def Zjw : List (Tmp × Sh × TypeId) := []
def Zbr : List (Ev.Ex × Lay) := [(.ret, { T := [(6, .bool)], h := [], nx := 0 }), ((.exit 0), { T := [], h := [], nx := 0 })]
def Zee (F_astrariumref10_Fits : TL [(.int .u64), (.int .i64)] → Option (TL [.bool]))  (t0 : Int) (t1 : Int) (t2 : List (Sh.T Za3)) (t7 : Int) : Option (TL Zc9.σs ⊕ Out Zbr) :=
 br (@decide _ (Int.decLt t7 (Int.ofNat (List.length t2))))
 (
  br (@decide _ (Int.decLt (0 : Int) t7))
  (
   chk (inb t7 (List.length t2)) <|
   chk (inb (IntKind.wrap (.i64 : IntKind) (@HSub.hSub (Int) (Int) (Int) _ t7 (1 : Int))) (List.length t2)) <|
   br (selB true (@decide _ (Int.decLe (gt Za3 t2 t7).1 (gt Za3 t2 (IntKind.wrap (.i64 : IntKind) (@HSub.hSub (Int) (Int) (Int) _ t7 (1 : Int)))).1)) false)
   (
    some (.inr (.inl (false, ()))))
   (
    chk (inb t7 (List.length t2)) <|
    bnd (F_astrariumref10_Fits ((gt Za3 t2 t7).1, (t0, ()))) fun x0 =>
    br (selB false true (Bool.not x0.1))
    (
     some (.inr (.inl (false, ()))))
    (
     chk (inb t7 (List.length t2)) <|
     bnd (F_astrariumref10_Fits ((gt Za3 t2 t7).2.1, (t1, ()))) fun x1 =>
     br (selB false true (Bool.not x1.1))
     (
      some (.inr (.inl (false, ()))))
     (
      chk (inb t7 (List.length t2)) <|
      br (selB false true (@decide _ (Int.instDecidableEq (gt Za3 t2 t7).2.1 (0 : Int))))
      (
       some (.inr (.inl (false, ()))))
      (
       some (.inl (t0, (t1, (t2, ((IntKind.wrap (.i64 : IntKind) (@HAdd.hAdd (Int) (Int) (Int) _ t7 (1 : Int))), ()))))))))))
  (
   chk (inb t7 (List.length t2)) <|
   bnd (F_astrariumref10_Fits ((gt Za3 t2 t7).1, (t0, ()))) fun x0 =>
   br (selB false true (Bool.not x0.1))
   (
    some (.inr (.inl (false, ()))))
   (
    chk (inb t7 (List.length t2)) <|
    bnd (F_astrariumref10_Fits ((gt Za3 t2 t7).2.1, (t1, ()))) fun x1 =>
    br (selB false true (Bool.not x1.1))
    (
     some (.inr (.inl (false, ()))))
    (
     chk (inb t7 (List.length t2)) <|
     br (selB false true (@decide _ (Int.instDecidableEq (gt Za3 t2 t7).2.1 (0 : Int))))
     (
      some (.inr (.inl (false, ()))))
     (
      some (.inl (t0, (t1, (t2, ((IntKind.wrap (.i64 : IntKind) (@HAdd.hAdd (Int) (Int) (Int) _ t7 (1 : Int))), ()))))))))))
 (
  some (.inr (.inr ())))
theorem Zns (F_astrariumref10_Fits : TL [(.int .u64), (.int .i64)] → Option (TL [.bool]))  (t0 : Int) (t1 : Int) (t2 : List (Sh.T Za3)) (t7 : Int) : runB Tryz.prog (shOf Tryz.prog 20) (kn [(85, ⟨_, _, F_astrariumref10_Fits⟩)] []) (envT []) 1 0 77 Zc9 Zbr (tabL 0 77 []) (Zb5 [0] (Zaa Tryz.f53)) (t0, (t1, (t2, (t7, ())))) = Zee F_astrariumref10_Fits  t0 t1 t2 t7 := by kernel_rfl
def Zdp : TL Zc9.σs → Option (Out Zbr) := lpD (fun d => Zee Zdg  d.1 d.2.1 d.2.2.1 d.2.2.2.1) NN
theorem Znr {R : Type} : LOk Tryz.prog Real 0 77 (Zb5 [0] (Zaa Tryz.f53)) (specL (R := R) 0 77 ⟨Zc9, Zjw, Zbr, Zdp⟩) :=
 Zby Zac (kn_ok (List.forall_mem_cons.2 ⟨Zjy, (List.forall_mem_nil _)⟩) (List.forall_mem_nil _)) (Zak (List.forall_mem_nil _)) (Zan (by kernel_rfl) Zae) (lp_of fun d => Zns Zdg  d.1 d.2.1 d.2.2.1 d.2.2.2.1)
def Zih : List Sh := [(.int .i64), (.int .i64), (.sl Za3)]
def Zfq : List Sh := [.bool]
def Zgn (F_astrariumref10_Fits : TL [(.int .u64), (.int .i64)] → Option (TL [.bool])) (L4 : TL Zc9.σs → Option (Out Zbr)) (a0 : Int) (a1 : Int) (a2 : List (Sh.T Za3)) : Option (TL Zfq) :=
 br (@decide _ (Int.decLt a0 (1 : Int)))
 (
  some (false, ()))
 (
  br (selB false true (@decide _ (Int.decLt (62 : Int) a0)))
  (
   some (false, ()))
  (
   br (selB false true (@decide _ (Int.decLt a1 (1 : Int))))
   (
    some (false, ()))
   (
    br (selB false true (@decide _ (Int.decLt (64 : Int) a1)))
    (
     some (false, ()))
    (
     br (selB false true (@decide _ (Int.decLt (4096 : Int) (Int.ofNat (List.length a2)))))
     (
      some (false, ()))
     (
      bnd (L4 (a0, (a1, (a2, ((0 : Int), ()))))) fun x0 =>
      (match x0 with
      | .inl x1 =>
       some (x1.1, ())
      | .inr x1 =>
       some (true, ())
      ))))))
theorem Zp4 (F_astrariumref10_Fits : TL [(.int .u64), (.int .i64)] → Option (TL [.bool])) (L4 : TL Zc9.σs → Option (Out Zbr)) (a0 : Int) (a1 : Int) (a2 : List (Sh.T Za3)) : runF (τs := Zfq) Tryz.prog (shOf Tryz.prog 20) (kn [(85, ⟨_, _, F_astrariumref10_Fits⟩)] []) (envT []) 1 (tabL 0 77 [(4, ⟨Zc9, Zjw, Zbr, L4⟩)]) Tryz.f53 (Zaa Tryz.f53) Zih (a0, (a1, (a2, ()))) = Zgn F_astrariumref10_Fits L4 a0 a1 a2 := by kernel_rfl
def Zdq : TL Zih → Option (TL Zfq) := fun d => Zgn Zdg Zdp d.1 d.2.1 d.2.2.1
theorem Zji : Comes Tryz.prog 53 Zih Zfq Zdq :=
 Zd1 (e := Tryz.f53) (c := Zaa Tryz.f53) Tryz.func53 (by kernel_rfl) (by kernel_rfl) Zac (kn_ok (List.forall_mem_cons.2 ⟨Zjy, (List.forall_mem_nil _)⟩) (List.forall_mem_nil _)) (Zak (List.forall_mem_nil _)) 77 (by kernel_rfl) (Zan (by kernel_rfl) (Zb4 (by kernel_rfl) Znr Zae)) (Zeq fun d => Zp4 Zdg Zdp d.1 d.2.1 d.2.2.1)
def Zco : Lay := { T := [(0, .fz Za3), (1, .fz Za3), (5, .int .i64)], h := [], nx := 0 }
def Zkm : List (Tmp × Sh × TypeId) := []
def Zc8 : List (Ev.Ex × Lay) := [(.ret, { T := [(4, .bool)], h := [], nx := 0 }), ((.exit 0), { T := [], h := [], nx := 0 })]
def Zgm   (t0 : List (Sh.T Za3)) (t1 : List (Sh.T Za3)) (t5 : Int) : Option (TL Zco.σs ⊕ Out Zc8) :=
 br (@decide _ (Int.decLt t5 (Int.ofNat (List.length t0))))
 (
  chk (inb t5 (List.length t0)) <|
  chk (inb t5 (List.length t1)) <|
  br (Bool.not (both (@decide _ (Int.instDecidableEq (gt Za3 t0 t5).1 (gt Za3 t1 t5).1)) (both (@decide _ (Int.instDecidableEq (gt Za3 t0 t5).2.1 (gt Za3 t1 t5).2.1)) true)))
  (
   some (.inr (.inl (false, ()))))
  (
   some (.inl (t0, (t1, ((IntKind.wrap (.i64 : IntKind) (@HAdd.hAdd (Int) (Int) (Int) _ t5 (1 : Int))), ()))))))
 (
  some (.inr (.inr ())))
theorem Zp3   (t0 : List (Sh.T Za3)) (t1 : List (Sh.T Za3)) (t5 : Int) : runB Tryz.prog (shOf Tryz.prog 20) (kn [] []) (envT []) 1 0 26 Zco Zc8 (tabL 0 26 []) (Zb5 [0] (Zaa Tryz.f54)) (t0, (t1, (t5, ()))) = Zgm   t0 t1 t5 := by kernel_rfl
def Zey : TL Zco.σs → Option (Out Zc8) := lpD (fun d => Zgm   d.1 d.2.1 d.2.2.1) NN
theorem Zp2 {R : Type} : LOk Tryz.prog Real 0 26 (Zb5 [0] (Zaa Tryz.f54)) (specL (R := R) 0 26 ⟨Zco, Zkm, Zc8, Zey⟩) :=
 Zby Zac (kn_ok (List.forall_mem_nil _) (List.forall_mem_nil _)) (Zak (List.forall_mem_nil _)) (Zan (by kernel_rfl) Zae) (lp_of fun d => Zp3   d.1 d.2.1 d.2.2.1)
def Ziw : List Sh := [(.sl Za3), (.sl Za3)]
def Zgl : List Sh := [.bool]
def Zly  (L4 : TL Zco.σs → Option (Out Zc8)) (a0 : List (Sh.T Za3)) (a1 : List (Sh.T Za3)) : Option (TL Zgl) :=
 br (Bool.not (@decide _ (Int.instDecidableEq (Int.ofNat (List.length a0)) (Int.ofNat (List.length a1)))))
 (
  some (false, ()))
 (
  bnd (L4 (a0, (a1, ((0 : Int), ())))) fun x0 =>
  (match x0 with
  | .inl x1 =>
   some (x1.1, ())
  | .inr x1 =>
   some (true, ())
  ))
theorem Zpt  (L4 : TL Zco.σs → Option (Out Zc8)) (a0 : List (Sh.T Za3)) (a1 : List (Sh.T Za3)) : runF (τs := Zgl) Tryz.prog (shOf Tryz.prog 20) (kn [] []) (envT []) 1 (tabL 0 26 [(4, ⟨Zco, Zkm, Zc8, L4⟩)]) Tryz.f54 (Zaa Tryz.f54) Ziw (a0, (a1, ())) = Zly  L4 a0 a1 := by kernel_rfl
def Zdv : TL Ziw → Option (TL Zgl) := fun d => Zly  Zey d.1 d.2.1
theorem Zjv : Comes Tryz.prog 54 Ziw Zgl Zdv :=
 Zd1 (e := Tryz.f54) (c := Zaa Tryz.f54) Tryz.func54 (by kernel_rfl) (by kernel_rfl) Zac (kn_ok (List.forall_mem_nil _) (List.forall_mem_nil _)) (Zak (List.forall_mem_nil _)) 26 (by kernel_rfl) (Zan (by kernel_rfl) (Zb4 (by kernel_rfl) Zp2 Zae)) (Zeq fun d => Zpt  Zey d.1 d.2.1)
def Zcn : Lay := { T := [(2, .ptr 0 0), (3, .ptr 1 0), (6, .int .i64)], h := [(0, .cells [.int .i64, .fz (.int .i64), .fz Za0, .fz (.int .i64), .fz (.int .i64), .fz (.int .i64), .fz Za1, .fz Za0] 27), (1, .cells [.fz .bool, .fz (.sl Za3)] 31)], nx := 2 }
def Zkl : List (Tmp × Sh × TypeId) := []
def Zc7 : List (Ev.Ex × Lay) := [(.ret, { T := [(4, .int .i64)], h := [], nx := 0 }), ((.exit 0), { T := [], h := [], nx := 0 })]
def Zex (F_astrariumref11_Right : TL [(.int .i64), (.int .i64), (.sl Za3)] → Option (TL [.bool])) (F_astrariumref06_Check : TL [Za5] → Option (TL [(.int .i64)]))  (t6 : Int) (b0_0 : Int) (b0_1 : List (Int)) (b0_2 : List (Sh.T Za0)) (b0_3 : List (Int)) (b0_4 : List (Int)) (b0_5 : List (Int)) (b0_6 : List (Sh.T Za1)) (b0_7 : List (Sh.T Za0)) (b1_0 : List (Bool)) (b1_1 : List (List (Sh.T Za3))) : Option (TL Zcn.σs ⊕ Out Zc7) :=
 br (@decide _ (Int.decLt t6 (Int.ofNat (List.length b0_6))))
 (
  chk (inb t6 (List.length b0_6)) <|
  chk (inb t6 (List.length b0_6)) <|
  chk (inb t6 (List.length b1_1)) <|
  bnd (F_astrariumref11_Right ((gt Za1 b0_6 t6).1, ((gt Za1 b0_6 t6).2.1, ((gt (.sl Za3) b1_1 t6), ())))) fun x0 =>
  br (Bool.not x0.1)
  (
   some (.inr (.inl ((14 : Int), ()))))
  (
   some (.inl ((IntKind.wrap (.i64 : IntKind) (@HAdd.hAdd (Int) (Int) (Int) _ t6 (1 : Int))), (b0_0, (b0_1, (b0_2, (b0_3, (b0_4, (b0_5, (b0_6, (b0_7, (b1_0, (b1_1, ()))))))))))))))
 (
  some (.inr (.inr ())))
theorem Zp1 (F_astrariumref11_Right : TL [(.int .i64), (.int .i64), (.sl Za3)] → Option (TL [.bool])) (F_astrariumref06_Check : TL [Za5] → Option (TL [(.int .i64)]))  (t6 : Int) (b0_0 : Int) (b0_1 : List (Int)) (b0_2 : List (Sh.T Za0)) (b0_3 : List (Int)) (b0_4 : List (Int)) (b0_5 : List (Int)) (b0_6 : List (Sh.T Za1)) (b0_7 : List (Sh.T Za0)) (b1_0 : List (Bool)) (b1_1 : List (List (Sh.T Za3))) : runB Tryz.prog (shOf Tryz.prog 20) (kn [(53, ⟨_, _, F_astrariumref11_Right⟩), (31, ⟨_, _, F_astrariumref06_Check⟩)] []) (envT []) 1 0 54 Zcn Zc7 (tabL 0 54 []) (Zb5 [0] (Zaa Tryz.f21)) (t6, (b0_0, (b0_1, (b0_2, (b0_3, (b0_4, (b0_5, (b0_6, (b0_7, (b1_0, (b1_1, ()))))))))))) = Zex F_astrariumref11_Right F_astrariumref06_Check  t6 b0_0 b0_1 b0_2 b0_3 b0_4 b0_5 b0_6 b0_7 b1_0 b1_1 := by kernel_rfl
def Zew : TL Zcn.σs → Option (Out Zc7) := lpD (fun d => Zex Zdq Zb7  d.1 d.2.1 d.2.2.1 d.2.2.2.1 d.2.2.2.2.1 d.2.2.2.2.2.1 d.2.2.2.2.2.2.1 d.2.2.2.2.2.2.2.1 d.2.2.2.2.2.2.2.2.1 d.2.2.2.2.2.2.2.2.2.1 d.2.2.2.2.2.2.2.2.2.2.1) NN
theorem Zp0 {R : Type} : LOk Tryz.prog Real 0 54 (Zb5 [0] (Zaa Tryz.f21)) (specL (R := R) 0 54 ⟨Zcn, Zkl, Zc7, Zew⟩) :=
 Zby Zac (kn_ok (List.forall_mem_cons.2 ⟨Zji, (List.forall_mem_cons.2 ⟨Zes, (List.forall_mem_nil _)⟩)⟩) (List.forall_mem_nil _)) (Zak (List.forall_mem_nil _)) (Zan (by kernel_rfl) Zae) (lp_of fun d => Zp1 Zdq Zb7  d.1 d.2.1 d.2.2.1 d.2.2.2.1 d.2.2.2.2.1 d.2.2.2.2.2.1 d.2.2.2.2.2.2.1 d.2.2.2.2.2.2.2.1 d.2.2.2.2.2.2.2.2.1 d.2.2.2.2.2.2.2.2.2.1 d.2.2.2.2.2.2.2.2.2.2.1)
def Ziv : List Sh := [Za5, Zab]
def Zgk : List Sh := [(.int .i64)]
def Zlx (F_astrariumref11_Right : TL [(.int .i64), (.int .i64), (.sl Za3)] → Option (TL [.bool])) (F_astrariumref06_Check : TL [Za5] → Option (TL [(.int .i64)])) (L7 : TL Zcn.σs → Option (Out Zc7)) (a0 : Sh.T Za5) (a1 : Sh.T Zab) : Option (TL Zgk) :=
 bnd (F_astrariumref06_Check ((a0.1, (a0.2.1, (a0.2.2.1, (a0.2.2.2.1, (a0.2.2.2.2.1, (a0.2.2.2.2.2.1, (a0.2.2.2.2.2.2.1, (a0.2.2.2.2.2.2.2.1, ())))))))), ())) fun x0 =>
 br (Bool.not (@decide _ (Int.instDecidableEq x0.1 (0 : Int))))
 (
  some (x0.1, ()))
 (
  br (Bool.not (@decide _ (Int.instDecidableEq (Int.ofNat (List.length a1.1)) (Int.ofNat (List.length a0.2.2.1)))))
  (
   some ((14 : Int), ()))
  (
   br (selB false true (Bool.not (@decide _ (Int.instDecidableEq (Int.ofNat (List.length a1.2.1)) (Int.ofNat (List.length a0.2.2.2.2.2.2.1))))))
   (
    some ((14 : Int), ()))
   (
    bnd (L7 ((0 : Int), (a0.1, (a0.2.1, (a0.2.2.1, (a0.2.2.2.1, (a0.2.2.2.2.1, (a0.2.2.2.2.2.1, (a0.2.2.2.2.2.2.1, (a0.2.2.2.2.2.2.2.1, (a1.1, (a1.2.1, ())))))))))))) fun x1 =>
    (match x1 with
    | .inl x2 =>
     some (x2.1, ())
    | .inr x2 =>
     some ((0 : Int), ())
    ))))
theorem Zps (F_astrariumref11_Right : TL [(.int .i64), (.int .i64), (.sl Za3)] → Option (TL [.bool])) (F_astrariumref06_Check : TL [Za5] → Option (TL [(.int .i64)])) (L7 : TL Zcn.σs → Option (Out Zc7)) (a0 : Sh.T Za5) (a1 : Sh.T Zab) : runF (τs := Zgk) Tryz.prog (shOf Tryz.prog 20) (kn [(53, ⟨_, _, F_astrariumref11_Right⟩), (31, ⟨_, _, F_astrariumref06_Check⟩)] []) (envT []) 1 (tabL 0 54 [(7, ⟨Zcn, Zkl, Zc7, L7⟩)]) Tryz.f21 (Zaa Tryz.f21) Ziv (a0, (a1, ())) = Zlx F_astrariumref11_Right F_astrariumref06_Check L7 a0 a1 := by kernel_rfl
def Zbn : TL Ziv → Option (TL Zgk) := fun d => Zlx Zdq Zb7 Zew d.1 d.2.1
theorem Zf3 : Comes Tryz.prog 21 Ziv Zgk Zbn :=
 Zd1 (e := Tryz.f21) (c := Zaa Tryz.f21) Tryz.func21 (by kernel_rfl) (by kernel_rfl) Zac (kn_ok (List.forall_mem_cons.2 ⟨Zji, (List.forall_mem_cons.2 ⟨Zes, (List.forall_mem_nil _)⟩)⟩) (List.forall_mem_nil _)) (Zak (List.forall_mem_nil _)) 54 (by kernel_rfl) (Zan (by kernel_rfl) (Zb4 (by kernel_rfl) Zp0 Zae)) (Zeq fun d => Zps Zdq Zb7 Zew d.1 d.2.1)
def Zbq : Lay := { T := [(2, .ptr 0 0), (3, .ptr 1 0), (7, .int .i64)], h := [(0, .cells [.int .i64, .fz (.int .i64), .fz Za0, .fz (.int .i64), .fz (.int .i64), .fz (.int .i64), .fz Za1, .fz Za0] 27), (1, .cells [.fz .bool, .fz (.sl Za3)] 31)], nx := 2 }
def Zjh : List (Tmp × Sh × TypeId) := []
def Zbi : List (Ev.Ex × Lay) := [(.ret, { T := [(4, .int .i64)], h := [], nx := 0 }), ((.exit 2), { T := [], h := [], nx := 0 })]
def Zc6 : Lay := { T := [(2, .ptr 0 0), (3, .ptr 1 0), (6, .int .i64)], h := [(0, .cells [.int .i64, .fz (.int .i64), .fz Za0, .fz (.int .i64), .fz (.int .i64), .fz (.int .i64), .fz Za1, .fz Za0] 27), (1, .cells [.fz .bool, .fz (.sl Za3)] 31)], nx := 2 }
def Zju : List (Tmp × Sh × TypeId) := []
def Zbp : List (Ev.Ex × Lay) := [(.ret, { T := [(4, .int .i64)], h := [], nx := 0 }), ((.exit 0), { T := [(2, .ptr 0 0), (3, .ptr 1 0)], h := [(0, .cells [.int .i64, .fz (.int .i64), .fz Za0, .fz (.int .i64), .fz (.int .i64), .fz (.int .i64), .fz Za1, .fz Za0] 27), (1, .cells [.fz .bool, .fz (.sl Za3)] 31)], nx := 2 })]
def Zed (F_astrariumref12_Fits : TL [Za5, Zab] → Option (TL [(.int .i64)]))  (t6 : Int) (b0_0 : Int) (b0_1 : List (Int)) (b0_2 : List (Sh.T Za0)) (b0_3 : List (Int)) (b0_4 : List (Int)) (b0_5 : List (Int)) (b0_6 : List (Sh.T Za1)) (b0_7 : List (Sh.T Za0)) (b1_0 : List (Bool)) (b1_1 : List (List (Sh.T Za3))) : Option (TL Zc6.σs ⊕ Out Zbp) :=
 br (@decide _ (Int.decLt t6 (Int.ofNat (List.length b0_2))))
 (
  chk (inb t6 (List.length b0_2)) <|
  br (@decide _ (Int.instDecidableEq (gt Za0 b0_2 t6).2.2.1 (0 : Int)))
  (
   chk (inb t6 (List.length b1_0)) <|
   br (selB true (gt .bool b1_0 t6) false)
   (
    some (.inr (.inl ((14 : Int), ()))))
   (
    chk (inb t6 (List.length b0_2)) <|
    br (@decide _ (Int.instDecidableEq (gt Za0 b0_2 t6).2.2.1 (1 : Int)))
    (
     chk (inb t6 (List.length b1_0)) <|
     br (selB false true (selB true (Bool.not (gt .bool b1_0 t6)) false))
     (
      some (.inr (.inl ((14 : Int), ()))))
     (
      some (.inl ((IntKind.wrap (.i64 : IntKind) (@HAdd.hAdd (Int) (Int) (Int) _ t6 (1 : Int))), (b0_0, (b0_1, (b0_2, (b0_3, (b0_4, (b0_5, (b0_6, (b0_7, (b1_0, (b1_1, ()))))))))))))))
    (
     some (.inl ((IntKind.wrap (.i64 : IntKind) (@HAdd.hAdd (Int) (Int) (Int) _ t6 (1 : Int))), (b0_0, (b0_1, (b0_2, (b0_3, (b0_4, (b0_5, (b0_6, (b0_7, (b1_0, (b1_1, ())))))))))))))))
  (
   chk (inb t6 (List.length b0_2)) <|
   br (@decide _ (Int.instDecidableEq (gt Za0 b0_2 t6).2.2.1 (1 : Int)))
   (
    chk (inb t6 (List.length b1_0)) <|
    br (selB false true (selB true (Bool.not (gt .bool b1_0 t6)) false))
    (
     some (.inr (.inl ((14 : Int), ()))))
    (
     some (.inl ((IntKind.wrap (.i64 : IntKind) (@HAdd.hAdd (Int) (Int) (Int) _ t6 (1 : Int))), (b0_0, (b0_1, (b0_2, (b0_3, (b0_4, (b0_5, (b0_6, (b0_7, (b1_0, (b1_1, ()))))))))))))))
   (
    some (.inl ((IntKind.wrap (.i64 : IntKind) (@HAdd.hAdd (Int) (Int) (Int) _ t6 (1 : Int))), (b0_0, (b0_1, (b0_2, (b0_3, (b0_4, (b0_5, (b0_6, (b0_7, (b1_0, (b1_1, ())))))))))))))))
 (
  some (.inr (.inr (b0_0, (b0_1, (b0_2, (b0_3, (b0_4, (b0_5, (b0_6, (b0_7, (b1_0, (b1_1, ())))))))))))))
theorem Znq (F_astrariumref12_Fits : TL [Za5, Zab] → Option (TL [(.int .i64)]))  (t6 : Int) (b0_0 : Int) (b0_1 : List (Int)) (b0_2 : List (Sh.T Za0)) (b0_3 : List (Int)) (b0_4 : List (Int)) (b0_5 : List (Int)) (b0_6 : List (Sh.T Za1)) (b0_7 : List (Sh.T Za0)) (b1_0 : List (Bool)) (b1_1 : List (List (Sh.T Za3))) : runB Tryz.prog (shOf Tryz.prog 20) (kn [(21, ⟨_, _, F_astrariumref12_Fits⟩)] []) (envT []) 1 0 75 Zc6 Zbp (tabL 0 75 []) (Zb5 [0] (Zaa Tryz.f36)) (t6, (b0_0, (b0_1, (b0_2, (b0_3, (b0_4, (b0_5, (b0_6, (b0_7, (b1_0, (b1_1, ()))))))))))) = Zed F_astrariumref12_Fits  t6 b0_0 b0_1 b0_2 b0_3 b0_4 b0_5 b0_6 b0_7 b1_0 b1_1 := by kernel_rfl
def Zec : TL Zc6.σs → Option (Out Zbp) := lpD (fun d => Zed Zbn  d.1 d.2.1 d.2.2.1 d.2.2.2.1 d.2.2.2.2.1 d.2.2.2.2.2.1 d.2.2.2.2.2.2.1 d.2.2.2.2.2.2.2.1 d.2.2.2.2.2.2.2.2.1 d.2.2.2.2.2.2.2.2.2.1 d.2.2.2.2.2.2.2.2.2.2.1) NN
theorem Znp {R : Type} : LOk Tryz.prog Real 0 75 (Zb5 [0] (Zaa Tryz.f36)) (specL (R := R) 0 75 ⟨Zc6, Zju, Zbp, Zec⟩) :=
 Zby Zac (kn_ok (List.forall_mem_cons.2 ⟨Zf3, (List.forall_mem_nil _)⟩) (List.forall_mem_nil _)) (Zak (List.forall_mem_nil _)) (Zan (by kernel_rfl) Zae) (lp_of fun d => Znq Zbn  d.1 d.2.1 d.2.2.1 d.2.2.2.1 d.2.2.2.2.1 d.2.2.2.2.2.1 d.2.2.2.2.2.2.1 d.2.2.2.2.2.2.2.1 d.2.2.2.2.2.2.2.2.1 d.2.2.2.2.2.2.2.2.2.1 d.2.2.2.2.2.2.2.2.2.2.1)
def Ze5 (F_astrariumref12_Fits : TL [Za5, Zab] → Option (TL [(.int .i64)]))  (t7 : Int) (b0_0 : Int) (b0_1 : List (Int)) (b0_2 : List (Sh.T Za0)) (b0_3 : List (Int)) (b0_4 : List (Int)) (b0_5 : List (Int)) (b0_6 : List (Sh.T Za1)) (b0_7 : List (Sh.T Za0)) (b1_0 : List (Bool)) (b1_1 : List (List (Sh.T Za3))) : Option (TL Zbq.σs ⊕ Out Zbi) :=
 br (@decide _ (Int.decLt t7 (Int.ofNat (List.length b0_6))))
 (
  chk (inb t7 (List.length b0_6)) <|
  br (Bool.not (gt Za1 b0_6 t7).2.2.1)
  (
   chk (inb t7 (List.length b1_1)) <|
   br (selB true (@decide _ (Int.decLt (0 : Int) (Int.ofNat (List.length (gt (.sl Za3) b1_1 t7))))) false)
   (
    some (.inr (.inl ((14 : Int), ()))))
   (
    some (.inl ((IntKind.wrap (.i64 : IntKind) (@HAdd.hAdd (Int) (Int) (Int) _ t7 (1 : Int))), (b0_0, (b0_1, (b0_2, (b0_3, (b0_4, (b0_5, (b0_6, (b0_7, (b1_0, (b1_1, ()))))))))))))))
  (
   some (.inl ((IntKind.wrap (.i64 : IntKind) (@HAdd.hAdd (Int) (Int) (Int) _ t7 (1 : Int))), (b0_0, (b0_1, (b0_2, (b0_3, (b0_4, (b0_5, (b0_6, (b0_7, (b1_0, (b1_1, ()))))))))))))))
 (
  some (.inr (.inr ())))
theorem Zn7 (F_astrariumref12_Fits : TL [Za5, Zab] → Option (TL [(.int .i64)]))  (t7 : Int) (b0_0 : Int) (b0_1 : List (Int)) (b0_2 : List (Sh.T Za0)) (b0_3 : List (Int)) (b0_4 : List (Int)) (b0_5 : List (Int)) (b0_6 : List (Sh.T Za1)) (b0_7 : List (Sh.T Za0)) (b1_0 : List (Bool)) (b1_1 : List (List (Sh.T Za3))) : runB Tryz.prog (shOf Tryz.prog 20) (kn [(21, ⟨_, _, F_astrariumref12_Fits⟩)] []) (envT []) 1 0 75 Zbq Zbi (tabL 0 75 []) (Zb5 [1] (Zaa Tryz.f36)) (t7, (b0_0, (b0_1, (b0_2, (b0_3, (b0_4, (b0_5, (b0_6, (b0_7, (b1_0, (b1_1, ()))))))))))) = Ze5 F_astrariumref12_Fits  t7 b0_0 b0_1 b0_2 b0_3 b0_4 b0_5 b0_6 b0_7 b1_0 b1_1 := by kernel_rfl
def Ze4 : TL Zbq.σs → Option (Out Zbi) := lpD (fun d => Ze5 Zbn  d.1 d.2.1 d.2.2.1 d.2.2.2.1 d.2.2.2.2.1 d.2.2.2.2.2.1 d.2.2.2.2.2.2.1 d.2.2.2.2.2.2.2.1 d.2.2.2.2.2.2.2.2.1 d.2.2.2.2.2.2.2.2.2.1 d.2.2.2.2.2.2.2.2.2.2.1) NN
theorem Zn6 {R : Type} : LOk Tryz.prog Real 0 75 (Zb5 [1] (Zaa Tryz.f36)) (specL (R := R) 0 75 ⟨Zbq, Zjh, Zbi, Ze4⟩) :=
 Zby Zac (kn_ok (List.forall_mem_cons.2 ⟨Zf3, (List.forall_mem_nil _)⟩) (List.forall_mem_nil _)) (Zak (List.forall_mem_nil _)) (Zan (by kernel_rfl) Zae) (lp_of fun d => Zn7 Zbn  d.1 d.2.1 d.2.2.1 d.2.2.2.1 d.2.2.2.2.1 d.2.2.2.2.2.1 d.2.2.2.2.2.2.1 d.2.2.2.2.2.2.2.1 d.2.2.2.2.2.2.2.2.1 d.2.2.2.2.2.2.2.2.2.1 d.2.2.2.2.2.2.2.2.2.2.1)
def Zig : List Sh := [Za5, Zab]
def Zfo : List Sh := [(.int .i64)]
def Zl5 (F_astrariumref12_Fits : TL [Za5, Zab] → Option (TL [(.int .i64)])) (L5 : TL Zc6.σs → Option (Out Zbp)) (L10 : TL Zbq.σs → Option (Out Zbi)) (a0 : Sh.T Za5) (a1 : Sh.T Zab) : Option (TL Zfo) :=
 bnd (F_astrariumref12_Fits ((a0.1, (a0.2.1, (a0.2.2.1, (a0.2.2.2.1, (a0.2.2.2.2.1, (a0.2.2.2.2.2.1, (a0.2.2.2.2.2.2.1, (a0.2.2.2.2.2.2.2.1, ())))))))), ((a1.1, (a1.2.1, ())), ()))) fun x0 =>
 br (Bool.not (@decide _ (Int.instDecidableEq x0.1 (0 : Int))))
 (
  some (x0.1, ()))
 (
  bnd (L5 ((0 : Int), (a0.1, (a0.2.1, (a0.2.2.1, (a0.2.2.2.1, (a0.2.2.2.2.1, (a0.2.2.2.2.2.1, (a0.2.2.2.2.2.2.1, (a0.2.2.2.2.2.2.2.1, (a1.1, (a1.2.1, ())))))))))))) fun x1 =>
  (match x1 with
  | .inl x2 =>
   some (x2.1, ())
  | .inr x2 =>
   bnd (L10 ((0 : Int), (x2.1, (x2.2.1, (x2.2.2.1, (x2.2.2.2.1, (x2.2.2.2.2.1, (x2.2.2.2.2.2.1, (x2.2.2.2.2.2.2.1, (x2.2.2.2.2.2.2.2.1, (x2.2.2.2.2.2.2.2.2.1, (x2.2.2.2.2.2.2.2.2.2.1, ())))))))))))) fun x3 =>
   (match x3 with
   | .inl x4 =>
    some (x4.1, ())
   | .inr x4 =>
    some ((0 : Int), ())
   )
  ))
theorem Zoz (F_astrariumref12_Fits : TL [Za5, Zab] → Option (TL [(.int .i64)])) (L5 : TL Zc6.σs → Option (Out Zbp)) (L10 : TL Zbq.σs → Option (Out Zbi)) (a0 : Sh.T Za5) (a1 : Sh.T Zab) : runF (τs := Zfo) Tryz.prog (shOf Tryz.prog 20) (kn [(21, ⟨_, _, F_astrariumref12_Fits⟩)] []) (envT []) 1 (tabL 0 75 [(5, ⟨Zc6, Zju, Zbp, L5⟩), (10, ⟨Zbq, Zjh, Zbi, L10⟩)]) Tryz.f36 (Zaa Tryz.f36) Zig (a0, (a1, ())) = Zl5 F_astrariumref12_Fits L5 L10 a0 a1 := by kernel_rfl
def Zfp : TL Zig → Option (TL Zfo) := fun d => Zl5 Zbn Zec Ze4 d.1 d.2.1
theorem Zno : Comes Tryz.prog 36 Zig Zfo Zfp :=
 Zd1 (e := Tryz.f36) (c := Zaa Tryz.f36) Tryz.func36 (by kernel_rfl) (by kernel_rfl) Zac (kn_ok (List.forall_mem_cons.2 ⟨Zf3, (List.forall_mem_nil _)⟩) (List.forall_mem_nil _)) (Zak (List.forall_mem_nil _)) 75 (by kernel_rfl) (Zan (by kernel_rfl) (Zb4 (by kernel_rfl) Znp (Zb4 (by kernel_rfl) Zn6 Zae))) (Zeq fun d => Zoz Zbn Zec Ze4 d.1 d.2.1)
def Zcl : Lay := { T := [(1, .ptr 0 0), (2, .ptr 1 0), (3, .ptr 2 0), (4, .int .i64)], h := [(0, .cells [.int .i64, .fz (.int .i64), .fz Za0, .fz (.int .i64), .fz (.int .i64), .fz (.int .i64), .fz Za1, .fz Za0] 27), (1, .cells [.nils, .nils] 31), (2, .cells [.hd 3 .bool, .nils] 31), (3, .arr .bool 4)], nx := 4 }
def Zkj : List (Tmp × Sh × TypeId) := []
def Zc4 : List (Ev.Ex × Lay) := [((.exit 0), { T := [(1, .ptr 0 0), (2, .ptr 1 0), (3, .ptr 2 0)], h := [(0, .cells [.int .i64, .fz (.int .i64), .fz Za0, .fz (.int .i64), .fz (.int .i64), .fz (.int .i64), .fz Za1, .fz Za0] 27), (1, .cells [.nils, .nils] 31), (2, .cells [.hd 3 .bool, .nils] 31), (3, .arr .bool 4)], nx := 4 })]
def Zgg (F_astrariumref06_Check : TL [Za5] → Option (TL [(.int .i64)]))  (t4 : Int) (b0_0 : Int) (b0_1 : List (Int)) (b0_2 : List (Sh.T Za0)) (b0_3 : List (Int)) (b0_4 : List (Int)) (b0_5 : List (Int)) (b0_6 : List (Sh.T Za1)) (b0_7 : List (Sh.T Za0)) (b3 : List (Bool)) : Option (TL Zcl.σs ⊕ Out Zc4) :=
 br (@decide _ (Int.decLt t4 (Int.ofNat (List.length b0_2))))
 (
  chk (inb t4 (List.length b0_2)) <|
  chk (room 1 (List.length (@HAppend.hAppend (List (Bool)) (List (Bool)) (List (Bool)) _ b3 ((@decide _ (Int.instDecidableEq (gt Za0 b0_2 t4).2.2.1 (1 : Int))) :: [])))) <|
  some (.inl ((IntKind.wrap (.i64 : IntKind) (@HAdd.hAdd (Int) (Int) (Int) _ t4 (1 : Int))), (b0_0, (b0_1, (b0_2, (b0_3, (b0_4, (b0_5, (b0_6, (b0_7, ((@HAppend.hAppend (List (Bool)) (List (Bool)) (List (Bool)) _ b3 ((@decide _ (Int.instDecidableEq (gt Za0 b0_2 t4).2.2.1 (1 : Int))) :: [])), ()))))))))))))
 (
  some (.inr (b0_0, (b0_1, (b0_2, (b0_3, (b0_4, (b0_5, (b0_6, (b0_7, (b3, ())))))))))))
theorem Zov (F_astrariumref06_Check : TL [Za5] → Option (TL [(.int .i64)]))  (t4 : Int) (b0_0 : Int) (b0_1 : List (Int)) (b0_2 : List (Sh.T Za0)) (b0_3 : List (Int)) (b0_4 : List (Int)) (b0_5 : List (Int)) (b0_6 : List (Sh.T Za1)) (b0_7 : List (Sh.T Za0)) (b3 : List (Bool)) : runB Tryz.prog (shOf Tryz.prog 20) (kn [(31, ⟨_, _, F_astrariumref06_Check⟩)] []) (envT []) 1 0 34 Zcl Zc4 (tabL 0 34 []) (Zb5 [0] (Zaa Tryz.f38)) (t4, (b0_0, (b0_1, (b0_2, (b0_3, (b0_4, (b0_5, (b0_6, (b0_7, (b3, ())))))))))) = Zgg F_astrariumref06_Check  t4 b0_0 b0_1 b0_2 b0_3 b0_4 b0_5 b0_6 b0_7 b3 := by kernel_rfl
def Zeu : TL Zcl.σs → Option (Out Zc4) := lpD (fun d => Zgg Zb7  d.1 d.2.1 d.2.2.1 d.2.2.2.1 d.2.2.2.2.1 d.2.2.2.2.2.1 d.2.2.2.2.2.2.1 d.2.2.2.2.2.2.2.1 d.2.2.2.2.2.2.2.2.1 d.2.2.2.2.2.2.2.2.2.1) NN
theorem Zou {R : Type} : LOk Tryz.prog Real 0 34 (Zb5 [0] (Zaa Tryz.f38)) (specL (R := R) 0 34 ⟨Zcl, Zkj, Zc4, Zeu⟩) :=
 Zby Zac (kn_ok (List.forall_mem_cons.2 ⟨Zes, (List.forall_mem_nil _)⟩) (List.forall_mem_nil _)) (Zak (List.forall_mem_nil _)) (Zan (by kernel_rfl) Zae) (lp_of fun d => Zov Zb7  d.1 d.2.1 d.2.2.1 d.2.2.2.1 d.2.2.2.2.1 d.2.2.2.2.2.1 d.2.2.2.2.2.2.1 d.2.2.2.2.2.2.2.1 d.2.2.2.2.2.2.2.2.1 d.2.2.2.2.2.2.2.2.2.1)
def Zit : List Sh := [Za5]
def Zge : List Sh := [Zab]
def Zlv (F_astrariumref06_Check : TL [Za5] → Option (TL [(.int .i64)])) (L5 : TL Zcl.σs → Option (Out Zc4)) (a0 : Sh.T Za5) : Option (TL Zge) :=
 bnd (F_astrariumref06_Check ((a0.1, (a0.2.1, (a0.2.2.1, (a0.2.2.2.1, (a0.2.2.2.2.1, (a0.2.2.2.2.2.1, (a0.2.2.2.2.2.2.1, (a0.2.2.2.2.2.2.2.1, ())))))))), ())) fun x0 =>
 br (Bool.not (@decide _ (Int.instDecidableEq x0.1 (0 : Int))))
 (
  some (([], ([], ())), ()))
 (
  bnd (L5 ((0 : Int), (a0.1, (a0.2.1, (a0.2.2.1, (a0.2.2.2.1, (a0.2.2.2.2.1, (a0.2.2.2.2.2.1, (a0.2.2.2.2.2.2.1, (a0.2.2.2.2.2.2.2.1, ([], ()))))))))))) fun x1 =>
  chk (both (@decide _ (Int.decLe (0 : Int) (Int.ofNat (List.length x1.2.2.2.2.2.2.1)))) (both (@decide _ (Int.decLe (Int.ofNat (List.length x1.2.2.2.2.2.2.1)) (Int.ofNat (List.length x1.2.2.2.2.2.2.1)))) (@decide _ (Int.decLe (@HMul.hMul (Int) (Int) (Int) _ (Int.ofNat 24) (Int.ofNat (List.length x1.2.2.2.2.2.2.1))) (281474976710656 : Int))))) <|
  some ((x1.2.2.2.2.2.2.2.2.1, ((List.replicate (Int.toNat (Int.ofNat (List.length x1.2.2.2.2.2.2.1))) (Sh.zero (.sl Za3))), ())), ()))
theorem Zpq (F_astrariumref06_Check : TL [Za5] → Option (TL [(.int .i64)])) (L5 : TL Zcl.σs → Option (Out Zc4)) (a0 : Sh.T Za5) : runF (τs := Zge) Tryz.prog (shOf Tryz.prog 20) (kn [(31, ⟨_, _, F_astrariumref06_Check⟩)] []) (envT []) 1 (tabL 0 34 [(5, ⟨Zcl, Zkj, Zc4, L5⟩)]) Tryz.f38 (Zaa Tryz.f38) Zit (a0, ()) = Zlv F_astrariumref06_Check L5 a0 := by kernel_rfl
def Zgf : TL Zit → Option (TL Zge) := fun d => Zlv Zb7 Zeu d.1
theorem Zot : Comes Tryz.prog 38 Zit Zge Zgf :=
 Zd1 (e := Tryz.f38) (c := Zaa Tryz.f38) Tryz.func38 (by kernel_rfl) (by kernel_rfl) Zac (kn_ok (List.forall_mem_cons.2 ⟨Zes, (List.forall_mem_nil _)⟩) (List.forall_mem_nil _)) (Zak (List.forall_mem_nil _)) 34 (by kernel_rfl) (Zan (by kernel_rfl) (Zb4 (by kernel_rfl) Zou Zae)) (Zeq fun d => Zpq Zb7 Zeu d.1)
def Zcm : Lay := { T := [(2, .ptr 0 0), (3, .ptr 1 0), (5, .int .i64)], h := [(0, .cells [.fz .bool, .fz (.sl Za3)] 31), (1, .cells [.fz .bool, .fz (.sl Za3)] 31)], nx := 2 }
def Zkk : List (Tmp × Sh × TypeId) := []
def Zc5 : List (Ev.Ex × Lay) := [(.ret, { T := [(4, .bool)], h := [], nx := 0 }), ((.exit 0), { T := [], h := [], nx := 0 })]
def Zgj (F_astrariumref11_Same : TL [(.sl Za3), (.sl Za3)] → Option (TL [.bool])) (F_astrariumref10_Same : TL [(.sl .bool), (.sl .bool)] → Option (TL [.bool]))  (t5 : Int) (b0_0 : List (Bool)) (b0_1 : List (List (Sh.T Za3))) (b1_0 : List (Bool)) (b1_1 : List (List (Sh.T Za3))) : Option (TL Zcm.σs ⊕ Out Zc5) :=
 br (@decide _ (Int.decLt t5 (Int.ofNat (List.length b0_1))))
 (
  chk (inb t5 (List.length b0_1)) <|
  chk (inb t5 (List.length b1_1)) <|
  bnd (F_astrariumref11_Same ((gt (.sl Za3) b0_1 t5), ((gt (.sl Za3) b1_1 t5), ()))) fun x0 =>
  br (Bool.not x0.1)
  (
   some (.inr (.inl (false, ()))))
  (
   some (.inl ((IntKind.wrap (.i64 : IntKind) (@HAdd.hAdd (Int) (Int) (Int) _ t5 (1 : Int))), (b0_0, (b0_1, (b1_0, (b1_1, ()))))))))
 (
  some (.inr (.inr ())))
theorem Zoy (F_astrariumref11_Same : TL [(.sl Za3), (.sl Za3)] → Option (TL [.bool])) (F_astrariumref10_Same : TL [(.sl .bool), (.sl .bool)] → Option (TL [.bool]))  (t5 : Int) (b0_0 : List (Bool)) (b0_1 : List (List (Sh.T Za3))) (b1_0 : List (Bool)) (b1_1 : List (List (Sh.T Za3))) : runB Tryz.prog (shOf Tryz.prog 20) (kn [(54, ⟨_, _, F_astrariumref11_Same⟩), (41, ⟨_, _, F_astrariumref10_Same⟩)] []) (envT []) 1 0 40 Zcm Zc5 (tabL 0 40 []) (Zb5 [0] (Zaa Tryz.f22)) (t5, (b0_0, (b0_1, (b1_0, (b1_1, ()))))) = Zgj F_astrariumref11_Same F_astrariumref10_Same  t5 b0_0 b0_1 b1_0 b1_1 := by kernel_rfl
def Zev : TL Zcm.σs → Option (Out Zc5) := lpD (fun d => Zgj Zdv Zdw  d.1 d.2.1 d.2.2.1 d.2.2.2.1 d.2.2.2.2.1) NN
theorem Zox {R : Type} : LOk Tryz.prog Real 0 40 (Zb5 [0] (Zaa Tryz.f22)) (specL (R := R) 0 40 ⟨Zcm, Zkk, Zc5, Zev⟩) :=
 Zby Zac (kn_ok (List.forall_mem_cons.2 ⟨Zjv, (List.forall_mem_cons.2 ⟨Zjx, (List.forall_mem_nil _)⟩)⟩) (List.forall_mem_nil _)) (Zak (List.forall_mem_nil _)) (Zan (by kernel_rfl) Zae) (lp_of fun d => Zoy Zdv Zdw  d.1 d.2.1 d.2.2.1 d.2.2.2.1 d.2.2.2.2.1)
def Ziu : List Sh := [Zab, Zab]
def Zgh : List Sh := [.bool]
def Zlw (F_astrariumref11_Same : TL [(.sl Za3), (.sl Za3)] → Option (TL [.bool])) (F_astrariumref10_Same : TL [(.sl .bool), (.sl .bool)] → Option (TL [.bool])) (L4 : TL Zcm.σs → Option (Out Zc5)) (a0 : Sh.T Zab) (a1 : Sh.T Zab) : Option (TL Zgh) :=
 bnd (F_astrariumref10_Same (a0.1, (a1.1, ()))) fun x0 =>
 br (Bool.not x0.1)
 (
  some (false, ()))
 (
  br (selB false true (Bool.not (@decide _ (Int.instDecidableEq (Int.ofNat (List.length a0.2.1)) (Int.ofNat (List.length a1.2.1))))))
  (
   some (false, ()))
  (
   bnd (L4 ((0 : Int), (a0.1, (a0.2.1, (a1.1, (a1.2.1, ())))))) fun x1 =>
   (match x1 with
   | .inl x2 =>
    some (x2.1, ())
   | .inr x2 =>
    some (true, ())
   )))
theorem Zpr (F_astrariumref11_Same : TL [(.sl Za3), (.sl Za3)] → Option (TL [.bool])) (F_astrariumref10_Same : TL [(.sl .bool), (.sl .bool)] → Option (TL [.bool])) (L4 : TL Zcm.σs → Option (Out Zc5)) (a0 : Sh.T Zab) (a1 : Sh.T Zab) : runF (τs := Zgh) Tryz.prog (shOf Tryz.prog 20) (kn [(54, ⟨_, _, F_astrariumref11_Same⟩), (41, ⟨_, _, F_astrariumref10_Same⟩)] []) (envT []) 1 (tabL 0 40 [(4, ⟨Zcm, Zkk, Zc5, L4⟩)]) Tryz.f22 (Zaa Tryz.f22) Ziu (a0, (a1, ())) = Zlw F_astrariumref11_Same F_astrariumref10_Same L4 a0 a1 := by kernel_rfl
def Zgi : TL Ziu → Option (TL Zgh) := fun d => Zlw Zdv Zdw Zev d.1 d.2.1
theorem Zow : Comes Tryz.prog 22 Ziu Zgh Zgi :=
 Zd1 (e := Tryz.f22) (c := Zaa Tryz.f22) Tryz.func22 (by kernel_rfl) (by kernel_rfl) Zac (kn_ok (List.forall_mem_cons.2 ⟨Zjv, (List.forall_mem_cons.2 ⟨Zjx, (List.forall_mem_nil _)⟩)⟩) (List.forall_mem_nil _)) (Zak (List.forall_mem_nil _)) 40 (by kernel_rfl) (Zan (by kernel_rfl) (Zb4 (by kernel_rfl) Zox Zae)) (Zeq fun d => Zpr Zdv Zdw Zev d.1 d.2.1)
def Zcf : Lay := { T := [(1, .ptr 0 0), (3, .int .i64)], h := [(0, .cells [.int .i64, .fz (.int .i64), .fz Za0, .fz (.int .i64), .fz (.int .i64), .fz (.int .i64), .fz Za1, .fz Za0] 27)], nx := 1 }
def Zk4 : List (Tmp × Sh × TypeId) := []
def Zbw : List (Ev.Ex × Lay) := [(.ret, { T := [(2, .bool)], h := [], nx := 0 }), ((.exit 0), { T := [], h := [], nx := 0 })]
def Zay : Lay := { T := [(1, .ptr 0 0), (3, .int .i64), (4, .ptr 1 0), (6, .int .i64)], h := [(0, .cells [.int .i64, .fz (.int .i64), .fz Za0, .fz (.int .i64), .fz (.int .i64), .fz (.int .i64), .fz Za1, .fz Za0] 27), (1, .cells [.int .i64, .int .i64, .bool, .fz Zb3, .fz Zb8] 95)], nx := 2 }
def Zh1 : List (Tmp × Sh × TypeId) := []
def Zav : List (Ev.Ex × Lay) := [(.ret, { T := [(2, .bool)], h := [], nx := 0 }), ((.exit 4), { T := [(1, .ptr 0 0), (3, .int .i64)], h := [(0, .cells [.int .i64, .fz (.int .i64), .fz Za0, .fz (.int .i64), .fz (.int .i64), .fz (.int .i64), .fz Za1, .fz Za0] 27)], nx := 1 })]
def Zaz : Lay := { T := [(1, .ptr 0 0), (3, .int .i64), (4, .ptr 1 0), (5, .int .i64)], h := [(0, .cells [.int .i64, .fz (.int .i64), .fz Za0, .fz (.int .i64), .fz (.int .i64), .fz (.int .i64), .fz Za1, .fz Za0] 27), (1, .cells [.int .i64, .int .i64, .bool, .fz Zb3, .fz Zb8] 95)], nx := 2 }
def Zh2 : List (Tmp × Sh × TypeId) := []
def Zaw : List (Ev.Ex × Lay) := [(.ret, { T := [(2, .bool)], h := [], nx := 0 }), ((.exit 2), { T := [(1, .ptr 0 0), (3, .int .i64), (4, .ptr 1 0)], h := [(0, .cells [.int .i64, .fz (.int .i64), .fz Za0, .fz (.int .i64), .fz (.int .i64), .fz (.int .i64), .fz Za1, .fz Za0] 27), (1, .cells [.int .i64, .int .i64, .bool, .fz Zb3, .fz Zb8] 95)], nx := 2 })]
def Ze7   (t3 : Int) (t5 : Int) (b0_0 : Int) (b0_1 : List (Int)) (b0_2 : List (Sh.T Za0)) (b0_3 : List (Int)) (b0_4 : List (Int)) (b0_5 : List (Int)) (b0_6 : List (Sh.T Za1)) (b0_7 : List (Sh.T Za0)) (b1_0 : Int) (b1_1 : Int) (b1_2 : Bool) (b1_3 : List (Sh.T Zb3)) (b1_4 : List (Sh.T Zb8)) : Option (TL Zaz.σs ⊕ Out Zaw) :=
 br (@decide _ (Int.decLt t5 (Int.ofNat (List.length b1_3))))
 (
  chk (inb t5 (List.length b1_3)) <|
  br (@decide _ (Int.decLt (100 : Int) (Int.ofNat (List.length (gt Zb3 b1_3 t5).2.1))))
  (
   some (.inr (.inl (false, ()))))
  (
   chk (inb t5 (List.length b1_3)) <|
   br (selB false true (@decide _ (Int.decLt (1099511627776 : Int) (gt Zb3 b1_3 t5).1)))
   (
    some (.inr (.inl (false, ()))))
   (
    chk (inb t5 (List.length b1_3)) <|
    br (selB false true (@decide _ (Int.decLt (gt Zb3 b1_3 t5).1 (Int.negSucc 1099511627775))))
    (
     some (.inr (.inl (false, ()))))
    (
     some (.inl (t3, ((IntKind.wrap (.i64 : IntKind) (@HAdd.hAdd (Int) (Int) (Int) _ t5 (1 : Int))), (b0_0, (b0_1, (b0_2, (b0_3, (b0_4, (b0_5, (b0_6, (b0_7, (b1_0, (b1_1, (b1_2, (b1_3, (b1_4, ()))))))))))))))))))))
 (
  some (.inr (.inr (t3, (b0_0, (b0_1, (b0_2, (b0_3, (b0_4, (b0_5, (b0_6, (b0_7, (b1_0, (b1_1, (b1_2, (b1_3, (b1_4, ())))))))))))))))))
theorem Zni   (t3 : Int) (t5 : Int) (b0_0 : Int) (b0_1 : List (Int)) (b0_2 : List (Sh.T Za0)) (b0_3 : List (Int)) (b0_4 : List (Int)) (b0_5 : List (Int)) (b0_6 : List (Sh.T Za1)) (b0_7 : List (Sh.T Za0)) (b1_0 : Int) (b1_1 : Int) (b1_2 : Bool) (b1_3 : List (Sh.T Zb3)) (b1_4 : List (Sh.T Zb8)) : runB Tryz.prog (shOf Tryz.prog 20) (kn [] []) (envT []) 1 0 132 Zaz Zaw (tabL 0 132 []) (Zb5 [0, 0] (Zaa Tryz.f72)) (t3, (t5, (b0_0, (b0_1, (b0_2, (b0_3, (b0_4, (b0_5, (b0_6, (b0_7, (b1_0, (b1_1, (b1_2, (b1_3, (b1_4, ()))))))))))))))) = Ze7   t3 t5 b0_0 b0_1 b0_2 b0_3 b0_4 b0_5 b0_6 b0_7 b1_0 b1_1 b1_2 b1_3 b1_4 := by kernel_rfl
def Zd6 : TL Zaz.σs → Option (Out Zaw) := lpD (fun d => Ze7   d.1 d.2.1 d.2.2.1 d.2.2.2.1 d.2.2.2.2.1 d.2.2.2.2.2.1 d.2.2.2.2.2.2.1 d.2.2.2.2.2.2.2.1 d.2.2.2.2.2.2.2.2.1 d.2.2.2.2.2.2.2.2.2.1 d.2.2.2.2.2.2.2.2.2.2.1 d.2.2.2.2.2.2.2.2.2.2.2.1 d.2.2.2.2.2.2.2.2.2.2.2.2.1 d.2.2.2.2.2.2.2.2.2.2.2.2.2.1 d.2.2.2.2.2.2.2.2.2.2.2.2.2.2.1) NN
theorem Zng {R : Type} : LOk Tryz.prog Real 0 132 (Zb5 [0, 0] (Zaa Tryz.f72)) (specL (R := R) 0 132 ⟨Zaz, Zh2, Zaw, Zd6⟩) :=
 Zby Zac (kn_ok (List.forall_mem_nil _) (List.forall_mem_nil _)) (Zak (List.forall_mem_nil _)) (Zan (by kernel_rfl) Zae) (lp_of fun d => Zni   d.1 d.2.1 d.2.2.1 d.2.2.2.1 d.2.2.2.2.1 d.2.2.2.2.2.1 d.2.2.2.2.2.2.1 d.2.2.2.2.2.2.2.1 d.2.2.2.2.2.2.2.2.1 d.2.2.2.2.2.2.2.2.2.1 d.2.2.2.2.2.2.2.2.2.2.1 d.2.2.2.2.2.2.2.2.2.2.2.1 d.2.2.2.2.2.2.2.2.2.2.2.2.1 d.2.2.2.2.2.2.2.2.2.2.2.2.2.1 d.2.2.2.2.2.2.2.2.2.2.2.2.2.2.1)
def Ze6   (t3 : Int) (t6 : Int) (b0_0 : Int) (b0_1 : List (Int)) (b0_2 : List (Sh.T Za0)) (b0_3 : List (Int)) (b0_4 : List (Int)) (b0_5 : List (Int)) (b0_6 : List (Sh.T Za1)) (b0_7 : List (Sh.T Za0)) (b1_0 : Int) (b1_1 : Int) (b1_2 : Bool) (b1_3 : List (Sh.T Zb3)) (b1_4 : List (Sh.T Zb8)) : Option (TL Zay.σs ⊕ Out Zav) :=
 br (@decide _ (Int.decLt t6 (Int.ofNat (List.length b1_4))))
 (
  chk (inb t6 (List.length b1_4)) <|
  br (@decide _ (Int.decLt (100 : Int) (Int.ofNat (List.length (gt Zb8 b1_4 t6).2.1))))
  (
   some (.inr (.inl (false, ()))))
  (
   chk (inb t6 (List.length b1_4)) <|
   br (selB false true (@decide _ (Int.decLt (100 : Int) (Int.ofNat (List.length (gt Zb8 b1_4 t6).2.2.1)))))
   (
    some (.inr (.inl (false, ()))))
   (
    some (.inl (t3, ((IntKind.wrap (.i64 : IntKind) (@HAdd.hAdd (Int) (Int) (Int) _ t6 (1 : Int))), (b0_0, (b0_1, (b0_2, (b0_3, (b0_4, (b0_5, (b0_6, (b0_7, (b1_0, (b1_1, (b1_2, (b1_3, (b1_4, ())))))))))))))))))))
 (
  some (.inr (.inr (t3, (b0_0, (b0_1, (b0_2, (b0_3, (b0_4, (b0_5, (b0_6, (b0_7, ()))))))))))))
theorem Znh   (t3 : Int) (t6 : Int) (b0_0 : Int) (b0_1 : List (Int)) (b0_2 : List (Sh.T Za0)) (b0_3 : List (Int)) (b0_4 : List (Int)) (b0_5 : List (Int)) (b0_6 : List (Sh.T Za1)) (b0_7 : List (Sh.T Za0)) (b1_0 : Int) (b1_1 : Int) (b1_2 : Bool) (b1_3 : List (Sh.T Zb3)) (b1_4 : List (Sh.T Zb8)) : runB Tryz.prog (shOf Tryz.prog 20) (kn [] []) (envT []) 1 0 132 Zay Zav (tabL 0 132 []) (Zb5 [0, 1] (Zaa Tryz.f72)) (t3, (t6, (b0_0, (b0_1, (b0_2, (b0_3, (b0_4, (b0_5, (b0_6, (b0_7, (b1_0, (b1_1, (b1_2, (b1_3, (b1_4, ()))))))))))))))) = Ze6   t3 t6 b0_0 b0_1 b0_2 b0_3 b0_4 b0_5 b0_6 b0_7 b1_0 b1_1 b1_2 b1_3 b1_4 := by kernel_rfl
def Zd5 : TL Zay.σs → Option (Out Zav) := lpD (fun d => Ze6   d.1 d.2.1 d.2.2.1 d.2.2.2.1 d.2.2.2.2.1 d.2.2.2.2.2.1 d.2.2.2.2.2.2.1 d.2.2.2.2.2.2.2.1 d.2.2.2.2.2.2.2.2.1 d.2.2.2.2.2.2.2.2.2.1 d.2.2.2.2.2.2.2.2.2.2.1 d.2.2.2.2.2.2.2.2.2.2.2.1 d.2.2.2.2.2.2.2.2.2.2.2.2.1 d.2.2.2.2.2.2.2.2.2.2.2.2.2.1 d.2.2.2.2.2.2.2.2.2.2.2.2.2.2.1) NN
theorem Znf {R : Type} : LOk Tryz.prog Real 0 132 (Zb5 [0, 1] (Zaa Tryz.f72)) (specL (R := R) 0 132 ⟨Zay, Zh1, Zav, Zd5⟩) :=
 Zby Zac (kn_ok (List.forall_mem_nil _) (List.forall_mem_nil _)) (Zak (List.forall_mem_nil _)) (Zan (by kernel_rfl) Zae) (lp_of fun d => Znh   d.1 d.2.1 d.2.2.1 d.2.2.2.1 d.2.2.2.2.1 d.2.2.2.2.2.1 d.2.2.2.2.2.2.1 d.2.2.2.2.2.2.2.1 d.2.2.2.2.2.2.2.2.1 d.2.2.2.2.2.2.2.2.2.1 d.2.2.2.2.2.2.2.2.2.2.1 d.2.2.2.2.2.2.2.2.2.2.2.1 d.2.2.2.2.2.2.2.2.2.2.2.2.1 d.2.2.2.2.2.2.2.2.2.2.2.2.2.1 d.2.2.2.2.2.2.2.2.2.2.2.2.2.2.1)
def Zeo  (L10 : TL Zaz.σs → Option (Out Zaw)) (L15 : TL Zay.σs → Option (Out Zav)) (t3 : Int) (b0_0 : Int) (b0_1 : List (Int)) (b0_2 : List (Sh.T Za0)) (b0_3 : List (Int)) (b0_4 : List (Int)) (b0_5 : List (Int)) (b0_6 : List (Sh.T Za1)) (b0_7 : List (Sh.T Za0)) : Option (TL Zcf.σs ⊕ Out Zbw) :=
 br (@decide _ (Int.decLt t3 (Int.ofNat (List.length b0_6))))
 (
  chk (inb t3 (List.length b0_6)) <|
  br (@decide _ (Int.decLt (6 : Int) (Int.ofNat (List.length (gt Za1 b0_6 t3).2.2.2.1))))
  (
   some (.inr (.inl (false, ()))))
  (
   br (selB false true (@decide _ (Int.decLt (6 : Int) (Int.ofNat (List.length (gt Za1 b0_6 t3).2.2.2.2.1)))))
   (
    some (.inr (.inl (false, ()))))
   (
    br (selB false true (@decide _ (Int.decLt (100 : Int) (gt Za1 b0_6 t3).2.1)))
    (
     some (.inr (.inl (false, ()))))
    (
     bnd (L10 (t3, ((0 : Int), (b0_0, (b0_1, (b0_2, (b0_3, (b0_4, (b0_5, (b0_6, (b0_7, ((gt Za1 b0_6 t3).1, ((gt Za1 b0_6 t3).2.1, ((gt Za1 b0_6 t3).2.2.1, ((gt Za1 b0_6 t3).2.2.2.1, ((gt Za1 b0_6 t3).2.2.2.2.1, ())))))))))))))))) fun x0 =>
     (match x0 with
     | .inl x1 =>
      some (.inr (.inl (x1.1, ())))
     | .inr x1 =>
      bnd (L15 (x1.1, ((0 : Int), (x1.2.1, (x1.2.2.1, (x1.2.2.2.1, (x1.2.2.2.2.1, (x1.2.2.2.2.2.1, (x1.2.2.2.2.2.2.1, (x1.2.2.2.2.2.2.2.1, (x1.2.2.2.2.2.2.2.2.1, (x1.2.2.2.2.2.2.2.2.2.1, (x1.2.2.2.2.2.2.2.2.2.2.1, (x1.2.2.2.2.2.2.2.2.2.2.2.1, (x1.2.2.2.2.2.2.2.2.2.2.2.2.1, (x1.2.2.2.2.2.2.2.2.2.2.2.2.2.1, ())))))))))))))))) fun x2 =>
      (match x2 with
      | .inl x3 =>
       some (.inr (.inl (x3.1, ())))
      | .inr x3 =>
       some (.inl ((IntKind.wrap (.i64 : IntKind) (@HAdd.hAdd (Int) (Int) (Int) _ x3.1 (1 : Int))), (x3.2.1, (x3.2.2.1, (x3.2.2.2.1, (x3.2.2.2.2.1, (x3.2.2.2.2.2.1, (x3.2.2.2.2.2.2.1, (x3.2.2.2.2.2.2.2.1, (x3.2.2.2.2.2.2.2.2.1, ()))))))))))
      )
     )))))
 (
  some (.inr (.inr ())))
theorem Zo8  (L10 : TL Zaz.σs → Option (Out Zaw)) (L15 : TL Zay.σs → Option (Out Zav)) (t3 : Int) (b0_0 : Int) (b0_1 : List (Int)) (b0_2 : List (Sh.T Za0)) (b0_3 : List (Int)) (b0_4 : List (Int)) (b0_5 : List (Int)) (b0_6 : List (Sh.T Za1)) (b0_7 : List (Sh.T Za0)) : runB Tryz.prog (shOf Tryz.prog 20) (kn [] []) (envT []) 1 0 132 Zcf Zbw (tabL 0 132 [(10, ⟨Zaz, Zh2, Zaw, L10⟩), (15, ⟨Zay, Zh1, Zav, L15⟩)]) (Zb5 [0] (Zaa Tryz.f72)) (t3, (b0_0, (b0_1, (b0_2, (b0_3, (b0_4, (b0_5, (b0_6, (b0_7, ()))))))))) = Zeo  L10 L15 t3 b0_0 b0_1 b0_2 b0_3 b0_4 b0_5 b0_6 b0_7 := by kernel_rfl
def Zen : TL Zcf.σs → Option (Out Zbw) := lpD (fun d => Zeo  (Zd6) (Zd5) d.1 d.2.1 d.2.2.1 d.2.2.2.1 d.2.2.2.2.1 d.2.2.2.2.2.1 d.2.2.2.2.2.2.1 d.2.2.2.2.2.2.2.1 d.2.2.2.2.2.2.2.2.1) NN
theorem Zo7 {R : Type} : LOk Tryz.prog Real 0 132 (Zb5 [0] (Zaa Tryz.f72)) (specL (R := R) 0 132 ⟨Zcf, Zk4, Zbw, Zen⟩) :=
 Zby Zac (kn_ok (List.forall_mem_nil _) (List.forall_mem_nil _)) (Zak (List.forall_mem_nil _)) (Zan (by kernel_rfl) (Zb4 (by kernel_rfl) (Zng) (Zb4 (by kernel_rfl) (Znf) Zae))) (lp_of fun d => Zo8  (Zd6) (Zd5) d.1 d.2.1 d.2.2.1 d.2.2.2.1 d.2.2.2.2.1 d.2.2.2.2.2.1 d.2.2.2.2.2.2.1 d.2.2.2.2.2.2.2.1 d.2.2.2.2.2.2.2.2.1)
def Ziq : List Sh := [Za5]
def Zg1 : List Sh := [.bool]
def Zlb  (L4 : TL Zcf.σs → Option (Out Zbw)) (L10 : TL Zaz.σs → Option (Out Zaw)) (L15 : TL Zay.σs → Option (Out Zav)) (a0 : Sh.T Za5) : Option (TL Zg1) :=
 br (@decide _ (Int.decLt (2100 : Int) (Int.ofNat (List.length a0.2.1))))
 (
  some (false, ()))
 (
  br (selB false true (@decide _ (Int.decLt (2100 : Int) (Int.ofNat (List.length a0.2.2.1)))))
  (
   some (false, ()))
  (
   br (selB false true (@decide _ (Int.decLt (2100 : Int) (Int.ofNat (List.length a0.2.2.2.2.2.2.2.1)))))
   (
    some (false, ()))
   (
    br (selB false true (@decide _ (Int.decLt (1100 : Int) (Int.ofNat (List.length a0.2.2.2.1)))))
    (
     some (false, ()))
    (
     br (selB false true (@decide _ (Int.decLt (1100 : Int) (Int.ofNat (List.length a0.2.2.2.2.1)))))
     (
      some (false, ()))
     (
      br (selB false true (@decide _ (Int.decLt (1100 : Int) (Int.ofNat (List.length a0.2.2.2.2.2.1)))))
      (
       some (false, ()))
      (
       br (selB false true (@decide _ (Int.decLt (6 : Int) (Int.ofNat (List.length a0.2.2.2.2.2.2.1)))))
       (
        some (false, ()))
       (
        bnd (L4 ((0 : Int), (a0.1, (a0.2.1, (a0.2.2.1, (a0.2.2.2.1, (a0.2.2.2.2.1, (a0.2.2.2.2.2.1, (a0.2.2.2.2.2.2.1, (a0.2.2.2.2.2.2.2.1, ())))))))))) fun x0 =>
        (match x0 with
        | .inl x1 =>
         some (x1.1, ())
        | .inr x1 =>
         some (true, ())
        ))))))))
theorem Zpg  (L4 : TL Zcf.σs → Option (Out Zbw)) (L10 : TL Zaz.σs → Option (Out Zaw)) (L15 : TL Zay.σs → Option (Out Zav)) (a0 : Sh.T Za5) : runF (τs := Zg1) Tryz.prog (shOf Tryz.prog 20) (kn [] []) (envT []) 1 (tabL 0 132 [(4, ⟨Zcf, Zk4, Zbw, L4⟩), (10, ⟨Zaz, Zh2, Zaw, L10⟩), (15, ⟨Zay, Zh1, Zav, L15⟩)]) Tryz.f72 (Zaa Tryz.f72) Ziq (a0, ()) = Zlb  L4 L10 L15 a0 := by kernel_rfl
def Zdr : TL Ziq → Option (TL Zg1) := fun d => Zlb  Zen Zd6 Zd5 d.1
theorem Zo6 : Comes Tryz.prog 72 Ziq Zg1 Zdr :=
 Zd1 (e := Tryz.f72) (c := Zaa Tryz.f72) Tryz.func72 (by kernel_rfl) (by kernel_rfl) Zac (kn_ok (List.forall_mem_nil _) (List.forall_mem_nil _)) (Zak (List.forall_mem_nil _)) 132 (by kernel_rfl) (Zan (by kernel_rfl) (Zb4 (by kernel_rfl) Zo7 Zae)) (Zeq fun d => Zpg  Zen Zd6 Zd5 d.1)
def Zio : List Sh := [Za5]
def Zg0 : List Sh := [.bool]
def Zla (F_astrariumlaw05_Light : TL [Za5] → Option (TL [.bool]))  (a0 : Sh.T Za5) : Option (TL Zg0) :=
 bnd (F_astrariumlaw05_Light ((a0.1, (a0.2.1, (a0.2.2.1, (a0.2.2.2.1, (a0.2.2.2.2.1, (a0.2.2.2.2.2.1, (a0.2.2.2.2.2.2.1, (a0.2.2.2.2.2.2.2.1, ())))))))), ())) fun x0 =>
 br x0.1
 (
  br (selB true (@decide _ (Int.decLe (Int.ofNat (List.length a0.2.2.2.2.2.2.2.1)) (100 : Int))) false)
  (
   br (selB true (@decide _ (Int.decLe (Int.ofNat (List.length a0.2.1)) (100 : Int))) false)
   (
    br (selB true (@decide _ (Int.decLe (Int.ofNat (List.length a0.2.2.1)) (100 : Int))) false)
    (
     some ((selB true (@decide _ (Int.decLe (IntKind.wrap (.i64 : IntKind) (@HAdd.hAdd (Int) (Int) (Int) _ (IntKind.wrap (.i64 : IntKind) (@HAdd.hAdd (Int) (Int) (Int) _ (Int.ofNat (List.length a0.2.2.2.1)) (Int.ofNat (List.length a0.2.2.2.2.1)))) (Int.ofNat (List.length a0.2.2.2.2.2.1)))) (100 : Int))) false), ()))
    (
     some (false, ())))
   (
    some (false, ())))
  (
   some (false, ())))
 (
  some (false, ()))
theorem Zpf (F_astrariumlaw05_Light : TL [Za5] → Option (TL [.bool]))  (a0 : Sh.T Za5) : runF (τs := Zg0) Tryz.prog (shOf Tryz.prog 20) (kn [(72, ⟨_, _, F_astrariumlaw05_Light⟩)] []) (envT []) 1 (tabL 0 37 []) Tryz.f47 (Zaa Tryz.f47) Zio (a0, ()) = Zla F_astrariumlaw05_Light  a0 := by kernel_rfl
def Zcw : TL Zio → Option (TL Zg0) := fun d => Zla Zdr  d.1
theorem Zh0 : Comes Tryz.prog 47 Zio Zg0 Zcw :=
 Zd1 (e := Tryz.f47) (c := Zaa Tryz.f47) Tryz.func47 (by kernel_rfl) (by kernel_rfl) Zac (kn_ok (List.forall_mem_cons.2 ⟨Zo6, (List.forall_mem_nil _)⟩) (List.forall_mem_nil _)) (Zak (List.forall_mem_nil _)) 37 (by kernel_rfl) (Zan (by kernel_rfl) Zae) (Zeq fun d => Zpf Zdr  d.1)
def Zcd : Lay := { T := [(2, .fz (.sl .bool)), (8, .int .i64)], h := [], nx := 0 }
def Zk2 : List (Tmp × Sh × TypeId) := []
def Zbu : List (Ev.Ex × Lay) := [(.ret, { T := [(6, .bool)], h := [], nx := 0 }), ((.exit 2), { T := [], h := [], nx := 0 })]
def Zce : Lay := { T := [(2, .fz (.sl .bool)), (4, .ptr 0 0), (7, .int .i64)], h := [(0, .cells [.fz .bool, .fz (.sl Za3)] 31)], nx := 1 }
def Zk3 : List (Tmp × Sh × TypeId) := []
def Zbv : List (Ev.Ex × Lay) := [(.ret, { T := [(6, .bool)], h := [], nx := 0 }), ((.exit 0), { T := [(2, .fz (.sl .bool))], h := [], nx := 0 })]
def Zem (F_astrariumlaw07_Light : TL [Za5] → Option (TL [.bool]))  (t2 : List (List (Bool))) (t7 : Int) (b0_0 : List (Bool)) (b0_1 : List (List (Sh.T Za3))) : Option (TL Zce.σs ⊕ Out Zbv) :=
 br (@decide _ (Int.decLt t7 (Int.ofNat (List.length b0_1))))
 (
  chk (inb t7 (List.length b0_1)) <|
  br (@decide _ (Int.decLt (100 : Int) (Int.ofNat (List.length (gt (.sl Za3) b0_1 t7)))))
  (
   some (.inr (.inl (false, ()))))
  (
   some (.inl (t2, ((IntKind.wrap (.i64 : IntKind) (@HAdd.hAdd (Int) (Int) (Int) _ t7 (1 : Int))), (b0_0, (b0_1, ())))))))
 (
  some (.inr (.inr (t2, ()))))
theorem Zo5 (F_astrariumlaw07_Light : TL [Za5] → Option (TL [.bool]))  (t2 : List (List (Bool))) (t7 : Int) (b0_0 : List (Bool)) (b0_1 : List (List (Sh.T Za3))) : runB Tryz.prog (shOf Tryz.prog 20) (kn [(47, ⟨_, _, F_astrariumlaw07_Light⟩)] []) (envT []) 1 0 55 Zce Zbv (tabL 0 55 []) (Zb5 [0] (Zaa Tryz.f18)) (t2, (t7, (b0_0, (b0_1, ())))) = Zem F_astrariumlaw07_Light  t2 t7 b0_0 b0_1 := by kernel_rfl
def Zek : TL Zce.σs → Option (Out Zbv) := lpD (fun d => Zem Zcw  d.1 d.2.1 d.2.2.1 d.2.2.2.1) NN
theorem Zo3 {R : Type} : LOk Tryz.prog Real 0 55 (Zb5 [0] (Zaa Tryz.f18)) (specL (R := R) 0 55 ⟨Zce, Zk3, Zbv, Zek⟩) :=
 Zby Zac (kn_ok (List.forall_mem_cons.2 ⟨Zh0, (List.forall_mem_nil _)⟩) (List.forall_mem_nil _)) (Zak (List.forall_mem_nil _)) (Zan (by kernel_rfl) Zae) (lp_of fun d => Zo5 Zcw  d.1 d.2.1 d.2.2.1 d.2.2.2.1)
def Zel (F_astrariumlaw07_Light : TL [Za5] → Option (TL [.bool]))  (t2 : List (List (Bool))) (t8 : Int) : Option (TL Zcd.σs ⊕ Out Zbu) :=
 br (@decide _ (Int.decLt t8 (Int.ofNat (List.length t2))))
 (
  chk (inb t8 (List.length t2)) <|
  br (@decide _ (Int.decLt (200 : Int) (Int.ofNat (List.length (gt (.sl .bool) t2 t8)))))
  (
   some (.inr (.inl (false, ()))))
  (
   some (.inl (t2, ((IntKind.wrap (.i64 : IntKind) (@HAdd.hAdd (Int) (Int) (Int) _ t8 (1 : Int))), ())))))
 (
  some (.inr (.inr ())))
theorem Zo4 (F_astrariumlaw07_Light : TL [Za5] → Option (TL [.bool]))  (t2 : List (List (Bool))) (t8 : Int) : runB Tryz.prog (shOf Tryz.prog 20) (kn [(47, ⟨_, _, F_astrariumlaw07_Light⟩)] []) (envT []) 1 0 55 Zcd Zbu (tabL 0 55 []) (Zb5 [1] (Zaa Tryz.f18)) (t2, (t8, ())) = Zel F_astrariumlaw07_Light  t2 t8 := by kernel_rfl
def Zej : TL Zcd.σs → Option (Out Zbu) := lpD (fun d => Zel Zcw  d.1 d.2.1) NN
theorem Zo2 {R : Type} : LOk Tryz.prog Real 0 55 (Zb5 [1] (Zaa Tryz.f18)) (specL (R := R) 0 55 ⟨Zcd, Zk2, Zbu, Zej⟩) :=
 Zby Zac (kn_ok (List.forall_mem_cons.2 ⟨Zh0, (List.forall_mem_nil _)⟩) (List.forall_mem_nil _)) (Zak (List.forall_mem_nil _)) (Zan (by kernel_rfl) Zae) (lp_of fun d => Zo4 Zcw  d.1 d.2.1)
def Zin : List Sh := [Za5, Zab, (.sl (.sl .bool))]
def Zfy : List Sh := [.bool]
def Zl9 (F_astrariumlaw07_Light : TL [Za5] → Option (TL [.bool])) (L4 : TL Zce.σs → Option (Out Zbv)) (L9 : TL Zcd.σs → Option (Out Zbu)) (a0 : Sh.T Za5) (a1 : Sh.T Zab) (a2 : List (List (Bool))) : Option (TL Zfy) :=
 bnd (F_astrariumlaw07_Light ((a0.1, (a0.2.1, (a0.2.2.1, (a0.2.2.2.1, (a0.2.2.2.2.1, (a0.2.2.2.2.2.1, (a0.2.2.2.2.2.2.1, (a0.2.2.2.2.2.2.2.1, ())))))))), ())) fun x0 =>
 br (Bool.not x0.1)
 (
  some (false, ()))
 (
  br (selB false true (@decide _ (Int.decLt (200 : Int) (Int.ofNat (List.length a1.1)))))
  (
   some (false, ()))
  (
   br (selB false true (@decide _ (Int.decLt (10 : Int) (Int.ofNat (List.length a1.2.1)))))
   (
    some (false, ()))
   (
    br (selB false true (@decide _ (Int.decLt (40 : Int) (Int.ofNat (List.length a2)))))
    (
     some (false, ()))
    (
     bnd (L4 (a2, ((0 : Int), (a1.1, (a1.2.1, ()))))) fun x1 =>
     (match x1 with
     | .inl x2 =>
      some (x2.1, ())
     | .inr x2 =>
      bnd (L9 (x2.1, ((0 : Int), ()))) fun x3 =>
      (match x3 with
      | .inl x4 =>
       some (x4.1, ())
      | .inr x4 =>
       some (true, ())
      )
     )))))
theorem Zpe (F_astrariumlaw07_Light : TL [Za5] → Option (TL [.bool])) (L4 : TL Zce.σs → Option (Out Zbv)) (L9 : TL Zcd.σs → Option (Out Zbu)) (a0 : Sh.T Za5) (a1 : Sh.T Zab) (a2 : List (List (Bool))) : runF (τs := Zfy) Tryz.prog (shOf Tryz.prog 20) (kn [(47, ⟨_, _, F_astrariumlaw07_Light⟩)] []) (envT []) 1 (tabL 0 55 [(4, ⟨Zce, Zk3, Zbv, L4⟩), (9, ⟨Zcd, Zk2, Zbu, L9⟩)]) Tryz.f18 (Zaa Tryz.f18) Zin (a0, (a1, (a2, ()))) = Zl9 F_astrariumlaw07_Light L4 L9 a0 a1 a2 := by kernel_rfl
def Zfz : TL Zin → Option (TL Zfy) := fun d => Zl9 Zcw Zek Zej d.1 d.2.1 d.2.2.1
theorem Zo1 : Comes Tryz.prog 18 Zin Zfy Zfz :=
 Zd1 (e := Tryz.f18) (c := Zaa Tryz.f18) Tryz.func18 (by kernel_rfl) (by kernel_rfl) Zac (kn_ok (List.forall_mem_cons.2 ⟨Zh0, (List.forall_mem_nil _)⟩) (List.forall_mem_nil _)) (Zak (List.forall_mem_nil _)) 55 (by kernel_rfl) (Zan (by kernel_rfl) (Zb4 (by kernel_rfl) Zo3 (Zb4 (by kernel_rfl) Zo2 Zae))) (Zeq fun d => Zpe Zcw Zek Zej d.1 d.2.1 d.2.2.1)
end Go.Proofs.YtnocaehijdmkkaaGreat.V
