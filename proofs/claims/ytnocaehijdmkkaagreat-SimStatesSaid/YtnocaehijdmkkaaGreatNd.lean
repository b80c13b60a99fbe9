import Derived.Test.YtnocaehijdmkkaaGreatNb
/- the document's topo (printed by VTool.lean). -/
namespace Go.Proofs.YtnocaehijdmkkaaGreat.V
open Go Go.RowKit
set_option linter.unusedVariables false
set_option maxRecDepth 1000000
def Zja : List Sh := [(.int .i64)]
def Zhg : List Sh := [(.int .i64)]
def Zhw   (a0 : Int) : Option (TL Zhg) :=
 some ((IntKind.wrap (.i64 : IntKind) (Int.tdiv a0 (2 : Int))), ())
theorem Zr0   (a0 : Int) : runF (τs := Zhg) Tryz.prog (shOf Tryz.prog 20) (kn [] []) (envT []) 1 (tabL 0 5 []) Tryz.f96 (Zaa Tryz.f96) Zja (a0, ()) = Zhw   a0 := by kernel_rfl
def Zcv : TL Zja → Option (TL Zhg) := fun d => Zhw   d.1
theorem Zkq : Comes Tryz.prog 96 Zja Zhg Zcv :=
 Zd1 (e := Tryz.f96) (c := Zaa Tryz.f96) Tryz.func96 (by kernel_rfl) (by kernel_rfl) Zac (kn_ok (List.forall_mem_nil _) (List.forall_mem_nil _)) (Zak (List.forall_mem_nil _)) 5 (by kernel_rfl) (Zan (by kernel_rfl) Zae) (Zeq fun d => Zr0   d.1)
def Zd4 : Lay := { T := [(1, .int .i64), (2, .ptr 0 0), (5, .hd 1 (.int .i64)), (6, .int .i64)], h := [(0, .cells [.int .i64, .int .i64, .bool, .fz Zb3, .fz Zb8] 95), (1, .arr (.int .i64) 3)], nx := 2 }
def Zkp : List (Tmp × Sh × TypeId) := []
def Zcz : List (Ev.Ex × Lay) := [((.exit 0), { T := [(5, .hd 0 (.int .i64))], h := [(0, .arr (.int .i64) 3)], nx := 1 })]
def Zgt   (t1 : Int) (t6 : Int) (b0_0 : Int) (b0_1 : Int) (b0_2 : Bool) (b0_3 : List (Sh.T Zb3)) (b0_4 : List (Sh.T Zb8)) (b1 : List (Int)) : Option (TL Zd4.σs ⊕ Out Zcz) :=
 br (@decide _ (Int.decLt t6 b0_1))
 (
  chk (inb t1 (List.length b0_3)) <|
  chk (room 8 (List.length (@HAppend.hAppend (List (Int)) (List (Int)) (List (Int)) _ b1 ((IntKind.wrap (.i64 : IntKind) (@HAdd.hAdd (Int) (Int) (Int) _ (gt Zb3 b0_3 t1).1 t6)) :: [])))) <|
  some (.inl (t1, ((IntKind.wrap (.i64 : IntKind) (@HAdd.hAdd (Int) (Int) (Int) _ t6 (1 : Int))), (b0_0, (b0_1, (b0_2, (b0_3, (b0_4, ((@HAppend.hAppend (List (Int)) (List (Int)) (List (Int)) _ b1 ((IntKind.wrap (.i64 : IntKind) (@HAdd.hAdd (Int) (Int) (Int) _ (gt Zb3 b0_3 t1).1 t6)) :: [])), ()))))))))))
 (
  some (.inr (b1, ())))
theorem Zpd   (t1 : Int) (t6 : Int) (b0_0 : Int) (b0_1 : Int) (b0_2 : Bool) (b0_3 : List (Sh.T Zb3)) (b0_4 : List (Sh.T Zb8)) (b1 : List (Int)) : runB Tryz.prog (shOf Tryz.prog 20) (kn [] []) (envT []) 1 0 34 Zd4 Zcz (tabL 0 34 []) (Zb5 [0] (Zaa Tryz.f119)) (t1, (t6, (b0_0, (b0_1, (b0_2, (b0_3, (b0_4, (b1, ())))))))) = Zgt   t1 t6 b0_0 b0_1 b0_2 b0_3 b0_4 b1 := by kernel_rfl
def Zdx : TL Zd4.σs → Option (Out Zcz) := lpD (fun d => Zgt   d.1 d.2.1 d.2.2.1 d.2.2.2.1 d.2.2.2.2.1 d.2.2.2.2.2.1 d.2.2.2.2.2.2.1 d.2.2.2.2.2.2.2.1) NN
theorem Zpc {R : Type} : LOk Tryz.prog Real 0 34 (Zb5 [0] (Zaa Tryz.f119)) (specL (R := R) 0 34 ⟨Zd4, Zkp, Zcz, Zdx⟩) :=
 Zby Zac (kn_ok (List.forall_mem_nil _) (List.forall_mem_nil _)) (Zak (List.forall_mem_nil _)) (Zan (by kernel_rfl) Zae) (lp_of fun d => Zpd   d.1 d.2.1 d.2.2.1 d.2.2.2.1 d.2.2.2.2.1 d.2.2.2.2.2.1 d.2.2.2.2.2.2.1 d.2.2.2.2.2.2.2.1)
def Ziz : List Sh := [Za1, (.int .i64)]
def Zgs : List Sh := [(.sl (.int .i64))]
def Zhf  (L5 : TL Zd4.σs → Option (Out Zcz)) (a0 : Sh.T Za1) (a1 : Int) : Option (TL Zgs) :=
 br (@decide _ (Int.decLt a1 (0 : Int)))
 (
  some ([], ()))
 (
  br (selB false true (@decide _ (Int.decLe (Int.ofNat (List.length a0.2.2.2.1)) a1)))
  (
   some ([], ()))
  (
   bnd (L5 (a1, ((0 : Int), (a0.1, (a0.2.1, (a0.2.2.1, (a0.2.2.2.1, (a0.2.2.2.2.1, ([], ()))))))))) fun x0 =>
   some (x0.1, ())))
theorem Zpw  (L5 : TL Zd4.σs → Option (Out Zcz)) (a0 : Sh.T Za1) (a1 : Int) : runF (τs := Zgs) Tryz.prog (shOf Tryz.prog 20) (kn [] []) (envT []) 1 (tabL 0 34 [(5, ⟨Zd4, Zkp, Zcz, L5⟩)]) Tryz.f119 (Zaa Tryz.f119) Ziz (a0, (a1, ())) = Zhf  L5 a0 a1 := by kernel_rfl
def Zbo : TL Ziz → Option (TL Zgs) := fun d => Zhf  Zdx d.1 d.2.1
theorem Zf7 : Comes Tryz.prog 119 Ziz Zgs Zbo :=
 Zd1 (e := Tryz.f119) (c := Zaa Tryz.f119) Tryz.func119 (by kernel_rfl) (by kernel_rfl) Zac (kn_ok (List.forall_mem_nil _) (List.forall_mem_nil _)) (Zak (List.forall_mem_nil _)) 34 (by kernel_rfl) (Zan (by kernel_rfl) (Zb4 (by kernel_rfl) Zpc Zae)) (Zeq fun d => Zpw  Zdx d.1 d.2.1)
def Zcb : Lay := { T := [(1, .ptr 0 0), (3, .hd 1 Za2), (6, .int .i64)], h := [(0, .cells [.int .i64, .fz (.int .i64), .fz Za0, .fz (.int .i64), .fz (.int .i64), .fz (.int .i64), .fz Za1, .fz Za0] 27), (1, .arr Za2 107)], nx := 2 }
def Zk0 : List (Tmp × Sh × TypeId) := []
def Zbs : List (Ev.Ex × Lay) := [((.exit 2), { T := [(3, .hd 0 Za2)], h := [(0, .arr Za2 107)], nx := 1 })]
def Zb2 : Lay := { T := [(1, .ptr 0 0), (3, .hd 1 Za2), (6, .int .i64), (7, .int .i64)], h := [(0, .cells [.int .i64, .fz (.int .i64), .fz Za0, .fz (.int .i64), .fz (.int .i64), .fz (.int .i64), .fz Za1, .fz Za0] 27), (1, .arr Za2 107)], nx := 2 }
def Zgy : List (Tmp × Sh × TypeId) := []
def Zb0 : List (Ev.Ex × Lay) := [((.exit 4), { T := [(1, .ptr 0 0), (3, .hd 1 Za2), (6, .int .i64)], h := [(0, .cells [.int .i64, .fz (.int .i64), .fz Za0, .fz (.int .i64), .fz (.int .i64), .fz (.int .i64), .fz Za1, .fz Za0] 27), (1, .arr Za2 107)], nx := 2 })]
def Zcy : Lay := { T := [(1, .ptr 0 0), (3, .hd 1 Za2), (4, .int .i64)], h := [(0, .cells [.int .i64, .fz (.int .i64), .fz Za0, .fz (.int .i64), .fz (.int .i64), .fz (.int .i64), .fz Za1, .fz Za0] 27), (1, .arr Za2 107)], nx := 2 }
def Zk1 : List (Tmp × Sh × TypeId) := []
def Zcs : List (Ev.Ex × Lay) := [((.exit 0), { T := [(1, .ptr 0 0), (3, .hd 1 Za2)], h := [(0, .cells [.int .i64, .fz (.int .i64), .fz Za0, .fz (.int .i64), .fz (.int .i64), .fz (.int .i64), .fz Za1, .fz Za0] 27), (1, .arr Za2 107)], nx := 2 })]
def Zfv (F_astrariumref05_Data : TL [Za1, (.int .i64)] → Option (TL [(.sl (.int .i64))]))  (t4 : Int) (b0_0 : Int) (b0_1 : List (Int)) (b0_2 : List (Sh.T Za0)) (b0_3 : List (Int)) (b0_4 : List (Int)) (b0_5 : List (Int)) (b0_6 : List (Sh.T Za1)) (b0_7 : List (Sh.T Za0)) (b1 : List (Sh.T Za2)) : Option (TL Zcy.σs ⊕ Out Zcs) :=
 br (@decide _ (Int.decLt t4 (Int.ofNat (List.length b0_7))))
 (
  chk (inb t4 (List.length b0_7)) <|
  chk (room 72 (List.length (@HAppend.hAppend (List (Sh.T Za2)) (List (Sh.T Za2)) (List (Sh.T Za2)) _ b1 ((false, ((0 : Int), (t4, (((gt Za0 b0_7 t4).2.1 :: ((gt Za0 b0_7 t4).2.2.1 :: [])), (((gt Za0 b0_7 t4).1 :: []), ()))))) :: [])))) <|
  some (.inl ((IntKind.wrap (.i64 : IntKind) (@HAdd.hAdd (Int) (Int) (Int) _ t4 (1 : Int))), (b0_0, (b0_1, (b0_2, (b0_3, (b0_4, (b0_5, (b0_6, (b0_7, ((@HAppend.hAppend (List (Sh.T Za2)) (List (Sh.T Za2)) (List (Sh.T Za2)) _ b1 ((false, ((0 : Int), (t4, (((gt Za0 b0_7 t4).2.1 :: ((gt Za0 b0_7 t4).2.2.1 :: [])), (((gt Za0 b0_7 t4).1 :: []), ()))))) :: [])), ()))))))))))))
 (
  some (.inr (b0_0, (b0_1, (b0_2, (b0_3, (b0_4, (b0_5, (b0_6, (b0_7, (b1, ())))))))))))
theorem Zny (F_astrariumref05_Data : TL [Za1, (.int .i64)] → Option (TL [(.sl (.int .i64))]))  (t4 : Int) (b0_0 : Int) (b0_1 : List (Int)) (b0_2 : List (Sh.T Za0)) (b0_3 : List (Int)) (b0_4 : List (Int)) (b0_5 : List (Int)) (b0_6 : List (Sh.T Za1)) (b0_7 : List (Sh.T Za0)) (b1 : List (Sh.T Za2)) : runB Tryz.prog (shOf Tryz.prog 20) (kn [(119, ⟨_, _, F_astrariumref05_Data⟩)] []) (envT []) 1 0 75 Zcy Zcs (tabL 0 75 []) (Zb5 [0] (Zaa Tryz.f95)) (t4, (b0_0, (b0_1, (b0_2, (b0_3, (b0_4, (b0_5, (b0_6, (b0_7, (b1, ())))))))))) = Zfv F_astrariumref05_Data  t4 b0_0 b0_1 b0_2 b0_3 b0_4 b0_5 b0_6 b0_7 b1 := by kernel_rfl
def Zeg : TL Zcy.σs → Option (Out Zcs) := lpD (fun d => Zfv Zbo  d.1 d.2.1 d.2.2.1 d.2.2.2.1 d.2.2.2.2.1 d.2.2.2.2.2.1 d.2.2.2.2.2.2.1 d.2.2.2.2.2.2.2.1 d.2.2.2.2.2.2.2.2.1 d.2.2.2.2.2.2.2.2.2.1) NN
theorem Znw {R : Type} : LOk Tryz.prog Real 0 75 (Zb5 [0] (Zaa Tryz.f95)) (specL (R := R) 0 75 ⟨Zcy, Zk1, Zcs, Zeg⟩) :=
 Zby Zac (kn_ok (List.forall_mem_cons.2 ⟨Zf7, (List.forall_mem_nil _)⟩) (List.forall_mem_nil _)) (Zak (List.forall_mem_nil _)) (Zan (by kernel_rfl) Zae) (lp_of fun d => Zny Zbo  d.1 d.2.1 d.2.2.1 d.2.2.2.1 d.2.2.2.2.1 d.2.2.2.2.2.1 d.2.2.2.2.2.2.1 d.2.2.2.2.2.2.2.1 d.2.2.2.2.2.2.2.2.1 d.2.2.2.2.2.2.2.2.2.1)
def Zfe (F_astrariumref05_Data : TL [Za1, (.int .i64)] → Option (TL [(.sl (.int .i64))]))  (t6 : Int) (t7 : Int) (b0_0 : Int) (b0_1 : List (Int)) (b0_2 : List (Sh.T Za0)) (b0_3 : List (Int)) (b0_4 : List (Int)) (b0_5 : List (Int)) (b0_6 : List (Sh.T Za1)) (b0_7 : List (Sh.T Za0)) (b1 : List (Sh.T Za2)) : Option (TL Zb2.σs ⊕ Out Zb0) :=
 chk (inb t6 (List.length b0_6)) <|
 br (@decide _ (Int.decLt t7 (Int.ofNat (List.length (gt Za1 b0_6 t6).2.2.2.1))))
 (
  chk (inb t6 (List.length b0_6)) <|
  chk (inb t7 (List.length (gt Za1 b0_6 t6).2.2.2.1)) <|
  chk (inb t6 (List.length b0_6)) <|
  bnd (F_astrariumref05_Data (((gt Za1 b0_6 t6).1, ((gt Za1 b0_6 t6).2.1, ((gt Za1 b0_6 t6).2.2.1, ((gt Za1 b0_6 t6).2.2.2.1, ((gt Za1 b0_6 t6).2.2.2.2.1, ()))))), (t7, ()))) fun x0 =>
  chk (room 72 (List.length (@HAppend.hAppend (List (Sh.T Za2)) (List (Sh.T Za2)) (List (Sh.T Za2)) _ b1 ((true, (t6, (t7, ((gt Zb3 (gt Za1 b0_6 t6).2.2.2.1 t7).2.1, (x0.1, ()))))) :: [])))) <|
  some (.inl (t6, ((IntKind.wrap (.i64 : IntKind) (@HAdd.hAdd (Int) (Int) (Int) _ t7 (1 : Int))), (b0_0, (b0_1, (b0_2, (b0_3, (b0_4, (b0_5, (b0_6, (b0_7, ((@HAppend.hAppend (List (Sh.T Za2)) (List (Sh.T Za2)) (List (Sh.T Za2)) _ b1 ((true, (t6, (t7, ((gt Zb3 (gt Za1 b0_6 t6).2.2.2.1 t7).2.1, (x0.1, ()))))) :: [])), ())))))))))))))
 (
  some (.inr (t6, (b0_0, (b0_1, (b0_2, (b0_3, (b0_4, (b0_5, (b0_6, (b0_7, (b1, ()))))))))))))
theorem Zn9 (F_astrariumref05_Data : TL [Za1, (.int .i64)] → Option (TL [(.sl (.int .i64))]))  (t6 : Int) (t7 : Int) (b0_0 : Int) (b0_1 : List (Int)) (b0_2 : List (Sh.T Za0)) (b0_3 : List (Int)) (b0_4 : List (Int)) (b0_5 : List (Int)) (b0_6 : List (Sh.T Za1)) (b0_7 : List (Sh.T Za0)) (b1 : List (Sh.T Za2)) : runB Tryz.prog (shOf Tryz.prog 20) (kn [(119, ⟨_, _, F_astrariumref05_Data⟩)] []) (envT []) 1 0 75 Zb2 Zb0 (tabL 0 75 []) (Zb5 [1, 0] (Zaa Tryz.f95)) (t6, (t7, (b0_0, (b0_1, (b0_2, (b0_3, (b0_4, (b0_5, (b0_6, (b0_7, (b1, ()))))))))))) = Zfe F_astrariumref05_Data  t6 t7 b0_0 b0_1 b0_2 b0_3 b0_4 b0_5 b0_6 b0_7 b1 := by kernel_rfl
def Zd3 : TL Zb2.σs → Option (Out Zb0) := lpD (fun d => Zfe Zbo  d.1 d.2.1 d.2.2.1 d.2.2.2.1 d.2.2.2.2.1 d.2.2.2.2.2.1 d.2.2.2.2.2.2.1 d.2.2.2.2.2.2.2.1 d.2.2.2.2.2.2.2.2.1 d.2.2.2.2.2.2.2.2.2.1 d.2.2.2.2.2.2.2.2.2.2.1) NN
theorem Zn8 {R : Type} : LOk Tryz.prog Real 0 75 (Zb5 [1, 0] (Zaa Tryz.f95)) (specL (R := R) 0 75 ⟨Zb2, Zgy, Zb0, Zd3⟩) :=
 Zby Zac (kn_ok (List.forall_mem_cons.2 ⟨Zf7, (List.forall_mem_nil _)⟩) (List.forall_mem_nil _)) (Zak (List.forall_mem_nil _)) (Zan (by kernel_rfl) Zae) (lp_of fun d => Zn9 Zbo  d.1 d.2.1 d.2.2.1 d.2.2.2.1 d.2.2.2.2.1 d.2.2.2.2.2.1 d.2.2.2.2.2.2.1 d.2.2.2.2.2.2.2.1 d.2.2.2.2.2.2.2.2.1 d.2.2.2.2.2.2.2.2.2.1 d.2.2.2.2.2.2.2.2.2.2.1)
def Zfu (F_astrariumref05_Data : TL [Za1, (.int .i64)] → Option (TL [(.sl (.int .i64))])) (L11 : TL Zb2.σs → Option (Out Zb0)) (t6 : Int) (b0_0 : Int) (b0_1 : List (Int)) (b0_2 : List (Sh.T Za0)) (b0_3 : List (Int)) (b0_4 : List (Int)) (b0_5 : List (Int)) (b0_6 : List (Sh.T Za1)) (b0_7 : List (Sh.T Za0)) (b1 : List (Sh.T Za2)) : Option (TL Zcb.σs ⊕ Out Zbs) :=
 br (@decide _ (Int.decLt t6 (Int.ofNat (List.length b0_6))))
 (
  bnd (L11 (t6, ((0 : Int), (b0_0, (b0_1, (b0_2, (b0_3, (b0_4, (b0_5, (b0_6, (b0_7, (b1, ())))))))))))) fun x0 =>
  some (.inl ((IntKind.wrap (.i64 : IntKind) (@HAdd.hAdd (Int) (Int) (Int) _ x0.1 (1 : Int))), (x0.2.1, (x0.2.2.1, (x0.2.2.2.1, (x0.2.2.2.2.1, (x0.2.2.2.2.2.1, (x0.2.2.2.2.2.2.1, (x0.2.2.2.2.2.2.2.1, (x0.2.2.2.2.2.2.2.2.1, (x0.2.2.2.2.2.2.2.2.2.1, ()))))))))))))
 (
  some (.inr (b1, ())))
theorem Znx (F_astrariumref05_Data : TL [Za1, (.int .i64)] → Option (TL [(.sl (.int .i64))])) (L11 : TL Zb2.σs → Option (Out Zb0)) (t6 : Int) (b0_0 : Int) (b0_1 : List (Int)) (b0_2 : List (Sh.T Za0)) (b0_3 : List (Int)) (b0_4 : List (Int)) (b0_5 : List (Int)) (b0_6 : List (Sh.T Za1)) (b0_7 : List (Sh.T Za0)) (b1 : List (Sh.T Za2)) : runB Tryz.prog (shOf Tryz.prog 20) (kn [(119, ⟨_, _, F_astrariumref05_Data⟩)] []) (envT []) 1 0 75 Zcb Zbs (tabL 0 75 [(11, ⟨Zb2, Zgy, Zb0, L11⟩)]) (Zb5 [1] (Zaa Tryz.f95)) (t6, (b0_0, (b0_1, (b0_2, (b0_3, (b0_4, (b0_5, (b0_6, (b0_7, (b1, ())))))))))) = Zfu F_astrariumref05_Data L11 t6 b0_0 b0_1 b0_2 b0_3 b0_4 b0_5 b0_6 b0_7 b1 := by kernel_rfl
def Zef : TL Zcb.σs → Option (Out Zbs) := lpD (fun d => Zfu Zbo (Zd3) d.1 d.2.1 d.2.2.1 d.2.2.2.1 d.2.2.2.2.1 d.2.2.2.2.2.1 d.2.2.2.2.2.2.1 d.2.2.2.2.2.2.2.1 d.2.2.2.2.2.2.2.2.1 d.2.2.2.2.2.2.2.2.2.1) NN
theorem Znv {R : Type} : LOk Tryz.prog Real 0 75 (Zb5 [1] (Zaa Tryz.f95)) (specL (R := R) 0 75 ⟨Zcb, Zk0, Zbs, Zef⟩) :=
 Zby Zac (kn_ok (List.forall_mem_cons.2 ⟨Zf7, (List.forall_mem_nil _)⟩) (List.forall_mem_nil _)) (Zak (List.forall_mem_nil _)) (Zan (by kernel_rfl) (Zb4 (by kernel_rfl) (Zn8) Zae)) (lp_of fun d => Znx Zbo (Zd3) d.1 d.2.1 d.2.2.1 d.2.2.2.1 d.2.2.2.2.1 d.2.2.2.2.2.1 d.2.2.2.2.2.2.1 d.2.2.2.2.2.2.2.1 d.2.2.2.2.2.2.2.2.1 d.2.2.2.2.2.2.2.2.2.1)
def Zik : List Sh := [Za5]
def Zft : List Sh := [(.sl Za2)]
def Zl7 (F_astrariumref05_Data : TL [Za1, (.int .i64)] → Option (TL [(.sl (.int .i64))])) (L3 : TL Zcy.σs → Option (Out Zcs)) (L8 : TL Zcb.σs → Option (Out Zbs)) (L11 : TL Zb2.σs → Option (Out Zb0)) (a0 : Sh.T Za5) : Option (TL Zft) :=
 bnd (L3 ((0 : Int), (a0.1, (a0.2.1, (a0.2.2.1, (a0.2.2.2.1, (a0.2.2.2.2.1, (a0.2.2.2.2.2.1, (a0.2.2.2.2.2.2.1, (a0.2.2.2.2.2.2.2.1, ([], ()))))))))))) fun x0 =>
 bnd (L8 ((0 : Int), (x0.1, (x0.2.1, (x0.2.2.1, (x0.2.2.2.1, (x0.2.2.2.2.1, (x0.2.2.2.2.2.1, (x0.2.2.2.2.2.2.1, (x0.2.2.2.2.2.2.2.1, (x0.2.2.2.2.2.2.2.2.1, ()))))))))))) fun x1 =>
 some (x1.1, ())
theorem Zpa (F_astrariumref05_Data : TL [Za1, (.int .i64)] → Option (TL [(.sl (.int .i64))])) (L3 : TL Zcy.σs → Option (Out Zcs)) (L8 : TL Zcb.σs → Option (Out Zbs)) (L11 : TL Zb2.σs → Option (Out Zb0)) (a0 : Sh.T Za5) : runF (τs := Zft) Tryz.prog (shOf Tryz.prog 20) (kn [(119, ⟨_, _, F_astrariumref05_Data⟩)] []) (envT []) 1 (tabL 0 75 [(3, ⟨Zcy, Zk1, Zcs, L3⟩), (8, ⟨Zcb, Zk0, Zbs, L8⟩), (11, ⟨Zb2, Zgy, Zb0, L11⟩)]) Tryz.f95 (Zaa Tryz.f95) Zik (a0, ()) = Zl7 F_astrariumref05_Data L3 L8 L11 a0 := by kernel_rfl
def Zam : TL Zik → Option (TL Zft) := fun d => Zl7 Zbo Zeg Zef Zd3 d.1
theorem Zda : Comes Tryz.prog 95 Zik Zft Zam :=
 Zd1 (e := Tryz.f95) (c := Zaa Tryz.f95) Tryz.func95 (by kernel_rfl) (by kernel_rfl) Zac (kn_ok (List.forall_mem_cons.2 ⟨Zf7, (List.forall_mem_nil _)⟩) (List.forall_mem_nil _)) (Zak (List.forall_mem_nil _)) 75 (by kernel_rfl) (Zan (by kernel_rfl) (Zb4 (by kernel_rfl) Znw (Zb4 (by kernel_rfl) Znv Zae))) (Zeq fun d => Zpa Zbo Zeg Zef Zd3 d.1)
def Zbf : Lay := { T := [(1, .fz (.int .i64)), (2, .ptr 0 0), (5, .int .i64), (6, .int .i64)], h := [(0, .cells [.bool, .int .i64, .int .i64, .fz (.int .i64), .fz (.int .i64)] 107)], nx := 1 }
def Zjz : List (Tmp × Sh × TypeId) := []
def Zbc : List (Ev.Ex × Lay) := [(.ret, { T := [(4, .int .i64)], h := [], nx := 0 }), ((.exit 0), { T := [(5, .int .i64)], h := [], nx := 0 })]
def Zij (F_astrariumref01_Var : TL [(.int .i64)] → Option (TL [(.int .i64)]))  (t1 : List (Int)) (t5 : Int) (t6 : Int) (b0_0 : Bool) (b0_1 : Int) (b0_2 : Int) (b0_3 : List (Int)) (b0_4 : List (Int)) : Option (TL Zbf.σs ⊕ Out Zbc) :=
 br (@decide _ (Int.decLt t6 (Int.ofNat (List.length b0_3))))
 (
  chk (inb t6 (List.length b0_3)) <|
  bnd (F_astrariumref01_Var ((gt (.int .i64) b0_3 t6), ())) fun x0 =>
  chk (inb x0.1 (List.length t1)) <|
  br (@decide _ (Int.decLt (gt (.int .i64) t1 x0.1) (0 : Int)))
  (
   some (.inr (.inl ((Int.negSucc 0), ()))))
  (
   some (.inl (t1, ((selI (@decide _ (Int.decLt t5 (gt (.int .i64) t1 x0.1))) (gt (.int .i64) t1 x0.1) t5), ((IntKind.wrap (.i64 : IntKind) (@HAdd.hAdd (Int) (Int) (Int) _ t6 (1 : Int))), (b0_0, (b0_1, (b0_2, (b0_3, (b0_4, ())))))))))))
 (
  some (.inr (.inr (t5, ()))))
theorem Znu (F_astrariumref01_Var : TL [(.int .i64)] → Option (TL [(.int .i64)]))  (t1 : List (Int)) (t5 : Int) (t6 : Int) (b0_0 : Bool) (b0_1 : Int) (b0_2 : Int) (b0_3 : List (Int)) (b0_4 : List (Int)) : runB Tryz.prog (shOf Tryz.prog 20) (kn [(96, ⟨_, _, F_astrariumref01_Var⟩)] []) (envT []) 1 0 31 Zbf Zbc (tabL 0 31 []) (Zb5 [0] (Zaa Tryz.f103)) (t1, (t5, (t6, (b0_0, (b0_1, (b0_2, (b0_3, (b0_4, ())))))))) = Zij F_astrariumref01_Var  t1 t5 t6 b0_0 b0_1 b0_2 b0_3 b0_4 := by kernel_rfl
def Zfs : TL Zbf.σs → Option (Out Zbc) := lpD (fun d => Zij Zcv  d.1 d.2.1 d.2.2.1 d.2.2.2.1 d.2.2.2.2.1 d.2.2.2.2.2.1 d.2.2.2.2.2.2.1 d.2.2.2.2.2.2.2.1) NN
theorem Znt {R : Type} : LOk Tryz.prog Real 0 31 (Zb5 [0] (Zaa Tryz.f103)) (specL (R := R) 0 31 ⟨Zbf, Zjz, Zbc, Zfs⟩) :=
 Zby Zac (kn_ok (List.forall_mem_cons.2 ⟨Zkq, (List.forall_mem_nil _)⟩) (List.forall_mem_nil _)) (Zak (List.forall_mem_nil _)) (Zan (by kernel_rfl) Zae) (lp_of fun d => Znu Zcv  d.1 d.2.1 d.2.2.1 d.2.2.2.1 d.2.2.2.2.1 d.2.2.2.2.2.1 d.2.2.2.2.2.2.1 d.2.2.2.2.2.2.2.1)
def Zii : List Sh := [Za2, (.sl (.int .i64))]
def Zfr : List Sh := [(.int .i64)]
def Zl6 (F_astrariumref01_Var : TL [(.int .i64)] → Option (TL [(.int .i64)])) (L3 : TL Zbf.σs → Option (Out Zbc)) (a0 : Sh.T Za2) (a1 : List (Int)) : Option (TL Zfr) :=
 bnd (L3 (a1, ((0 : Int), ((0 : Int), (a0.1, (a0.2.1, (a0.2.2.1, (a0.2.2.2.1, (a0.2.2.2.2.1, ()))))))))) fun x0 =>
 (match x0 with
 | .inl x1 =>
  some (x1.1, ())
 | .inr x1 =>
  some ((IntKind.wrap (.i64 : IntKind) (@HAdd.hAdd (Int) (Int) (Int) _ x1.1 (1 : Int))), ())
 )
theorem Zp9 (F_astrariumref01_Var : TL [(.int .i64)] → Option (TL [(.int .i64)])) (L3 : TL Zbf.σs → Option (Out Zbc)) (a0 : Sh.T Za2) (a1 : List (Int)) : runF (τs := Zfr) Tryz.prog (shOf Tryz.prog 20) (kn [(96, ⟨_, _, F_astrariumref01_Var⟩)] []) (envT []) 1 (tabL 0 31 [(3, ⟨Zbf, Zjz, Zbc, L3⟩)]) Tryz.f103 (Zaa Tryz.f103) Zii (a0, (a1, ())) = Zl6 F_astrariumref01_Var L3 a0 a1 := by kernel_rfl
def Zal : TL Zii → Option (TL Zfr) := fun d => Zl6 Zcv Zfs d.1 d.2.1
theorem Zd9 : Comes Tryz.prog 103 Zii Zfr Zal :=
 Zd1 (e := Tryz.f103) (c := Zaa Tryz.f103) Tryz.func103 (by kernel_rfl) (by kernel_rfl) Zac (kn_ok (List.forall_mem_cons.2 ⟨Zkq, (List.forall_mem_nil _)⟩) (List.forall_mem_nil _)) (Zak (List.forall_mem_nil _)) 31 (by kernel_rfl) (Zan (by kernel_rfl) (Zb4 (by kernel_rfl) Znt Zae)) (Zeq fun d => Zp9 Zcv Zfs d.1 d.2.1)
def Zbk : Lay := { T := [(4, .hd 0 (.int .i64)), (5, .fz Za2), (8, .int .i64), (9, .int .i64)], h := [(0, .arr (.int .i64) 3)], nx := 1 }
def Zj9 : List (Tmp × Sh × TypeId) := []
def Zbd : List (Ev.Ex × Lay) := [((.exit 4), { T := [(4, .hd 0 (.int .i64)), (8, .int .i64)], h := [(0, .arr (.int .i64) 3)], nx := 1 })]
def Zau : Lay := { T := [(4, .hd 0 (.int .i64)), (5, .fz Za2), (8, .int .i64), (9, .int .i64), (10, .int .i64)], h := [(0, .arr (.int .i64) 3)], nx := 1 }
def Zgc : List (Tmp × Sh × TypeId) := []
def Zap : List (Ev.Ex × Lay) := [((.exit 6), { T := [(4, .hd 0 (.int .i64)), (5, .fz Za2), (8, .int .i64), (9, .int .i64)], h := [(0, .arr (.int .i64) 3)], nx := 1 })]
def Zah : Lay := { T := [(4, .hd 0 (.int .i64)), (5, .fz Za2), (8, .int .i64), (9, .int .i64), (10, .int .i64), (11, .int .i64), (12, .int .i64)], h := [(0, .arr (.int .i64) 3)], nx := 1 }
def Zeh : List (Tmp × Sh × TypeId) := []
def Zag : List (Ev.Ex × Lay) := [((.exit 8), { T := [(4, .hd 0 (.int .i64)), (5, .fz Za2), (8, .int .i64), (9, .int .i64), (10, .int .i64)], h := [(0, .arr (.int .i64) 3)], nx := 1 })]
def Zbt : Lay := { T := [(4, .hd 0 (.int .i64)), (5, .fz Za2), (6, .int .i64)], h := [(0, .arr (.int .i64) 3)], nx := 1 }
def Zjj : List (Tmp × Sh × TypeId) := []
def Zbj : List (Ev.Ex × Lay) := [((.exit 0), { T := [(4, .hd 0 (.int .i64)), (5, .fz Za2)], h := [(0, .arr (.int .i64) 3)], nx := 1 })]
def Zax : Lay := { T := [(4, .hd 0 (.int .i64)), (5, .fz Za2), (6, .int .i64), (7, .int .i64)], h := [(0, .arr (.int .i64) 3)], nx := 1 }
def Zgz : List (Tmp × Sh × TypeId) := []
def Zat : List (Ev.Ex × Lay) := [((.exit 2), { T := [(4, .hd 0 (.int .i64)), (5, .fz Za2), (6, .int .i64)], h := [(0, .arr (.int .i64) 3)], nx := 1 })]
def Zfh (F_astrariumref06_level : TL [Za2, (.sl (.int .i64))] → Option (TL [(.int .i64)])) (F_astrariumref06_Nodes : TL [Za5] → Option (TL [(.sl Za2)])) (F_astrariumref05_Sound : TL [Za5] → Option (TL [(.int .i64)]))  (t5 : List (Sh.T Za2)) (t6 : Int) (t7 : Int) (b0 : List (Int)) : Option (TL Zax.σs ⊕ Out Zat) :=
 chk (inb t6 (List.length t5)) <|
 br (@decide _ (Int.decLt t7 (Int.ofNat (List.length (gt Za2 t5 t6).2.2.2.2.1))))
 (
  chk (inb t6 (List.length t5)) <|
  chk (inb t7 (List.length (gt Za2 t5 t6).2.2.2.2.1)) <|
  chk (inb (gt (.int .i64) (gt Za2 t5 t6).2.2.2.2.1 t7) (List.length b0)) <|
  some (.inl (t5, (t6, ((IntKind.wrap (.i64 : IntKind) (@HAdd.hAdd (Int) (Int) (Int) _ t7 (1 : Int))), ((List.set b0 (Int.toNat (gt (.int .i64) (gt Za2 t5 t6).2.2.2.2.1 t7)) (Int.negSucc 0)), ()))))))
 (
  some (.inr (t5, (t6, (b0, ())))))
theorem Znd (F_astrariumref06_level : TL [Za2, (.sl (.int .i64))] → Option (TL [(.int .i64)])) (F_astrariumref06_Nodes : TL [Za5] → Option (TL [(.sl Za2)])) (F_astrariumref05_Sound : TL [Za5] → Option (TL [(.int .i64)]))  (t5 : List (Sh.T Za2)) (t6 : Int) (t7 : Int) (b0 : List (Int)) : runB Tryz.prog (shOf Tryz.prog 20) (kn [(103, ⟨_, _, F_astrariumref06_level⟩), (95, ⟨_, _, F_astrariumref06_Nodes⟩), (64, ⟨_, _, F_astrariumref05_Sound⟩)] []) (envT []) 1 0 94 Zax Zat (tabL 0 94 []) (Zb5 [0, 0] (Zaa Tryz.f65)) (t5, (t6, (t7, (b0, ())))) = Zfh F_astrariumref06_level F_astrariumref06_Nodes F_astrariumref05_Sound  t5 t6 t7 b0 := by kernel_rfl
def Zcq : TL Zax.σs → Option (Out Zat) := lpD (fun d => Zfh Zal Zam Zad  d.1 d.2.1 d.2.2.1 d.2.2.2.1) NN
theorem Znb {R : Type} : LOk Tryz.prog Real 0 94 (Zb5 [0, 0] (Zaa Tryz.f65)) (specL (R := R) 0 94 ⟨Zax, Zgz, Zat, Zcq⟩) :=
 Zby Zac (kn_ok (List.forall_mem_cons.2 ⟨Zd9, (List.forall_mem_cons.2 ⟨Zda, (List.forall_mem_cons.2 ⟨Zct, (List.forall_mem_nil _)⟩)⟩)⟩) (List.forall_mem_nil _)) (Zak (List.forall_mem_nil _)) (Zan (by kernel_rfl) Zae) (lp_of fun d => Znd Zal Zam Zad  d.1 d.2.1 d.2.2.1 d.2.2.2.1)
def Zfi (F_astrariumref06_level : TL [Za2, (.sl (.int .i64))] → Option (TL [(.int .i64)])) (F_astrariumref06_Nodes : TL [Za5] → Option (TL [(.sl Za2)])) (F_astrariumref05_Sound : TL [Za5] → Option (TL [(.int .i64)])) (L9 : TL Zax.σs → Option (Out Zat)) (t5 : List (Sh.T Za2)) (t6 : Int) (b0 : List (Int)) : Option (TL Zbt.σs ⊕ Out Zbj) :=
 br (@decide _ (Int.decLt t6 (Int.ofNat (List.length t5))))
 (
  bnd (L9 (t5, (t6, ((0 : Int), (b0, ()))))) fun x0 =>
  some (.inl (x0.1, ((IntKind.wrap (.i64 : IntKind) (@HAdd.hAdd (Int) (Int) (Int) _ x0.2.1 (1 : Int))), (x0.2.2.1, ())))))
 (
  some (.inr (t5, (b0, ()))))
theorem Zne (F_astrariumref06_level : TL [Za2, (.sl (.int .i64))] → Option (TL [(.int .i64)])) (F_astrariumref06_Nodes : TL [Za5] → Option (TL [(.sl Za2)])) (F_astrariumref05_Sound : TL [Za5] → Option (TL [(.int .i64)])) (L9 : TL Zax.σs → Option (Out Zat)) (t5 : List (Sh.T Za2)) (t6 : Int) (b0 : List (Int)) : runB Tryz.prog (shOf Tryz.prog 20) (kn [(103, ⟨_, _, F_astrariumref06_level⟩), (95, ⟨_, _, F_astrariumref06_Nodes⟩), (64, ⟨_, _, F_astrariumref05_Sound⟩)] []) (envT []) 1 0 94 Zbt Zbj (tabL 0 94 [(9, ⟨Zax, Zgz, Zat, L9⟩)]) (Zb5 [0] (Zaa Tryz.f65)) (t5, (t6, (b0, ()))) = Zfi F_astrariumref06_level F_astrariumref06_Nodes F_astrariumref05_Sound L9 t5 t6 b0 := by kernel_rfl
def Zdh : TL Zbt.σs → Option (Out Zbj) := lpD (fun d => Zfi Zal Zam Zad (Zcq) d.1 d.2.1 d.2.2.1) NN
theorem Znc {R : Type} : LOk Tryz.prog Real 0 94 (Zb5 [0] (Zaa Tryz.f65)) (specL (R := R) 0 94 ⟨Zbt, Zjj, Zbj, Zdh⟩) :=
 Zby Zac (kn_ok (List.forall_mem_cons.2 ⟨Zd9, (List.forall_mem_cons.2 ⟨Zda, (List.forall_mem_cons.2 ⟨Zct, (List.forall_mem_nil _)⟩)⟩)⟩) (List.forall_mem_nil _)) (Zak (List.forall_mem_nil _)) (Zan (by kernel_rfl) (Zb4 (by kernel_rfl) (Znb) Zae)) (lp_of fun d => Zne Zal Zam Zad (Zcq) d.1 d.2.1 d.2.2.1)
def Zf4 (F_astrariumref06_level : TL [Za2, (.sl (.int .i64))] → Option (TL [(.int .i64)])) (F_astrariumref06_Nodes : TL [Za5] → Option (TL [(.sl Za2)])) (F_astrariumref05_Sound : TL [Za5] → Option (TL [(.int .i64)]))  (t5 : List (Sh.T Za2)) (t8 : Int) (t9 : Int) (t10 : Int) (t11 : Int) (t12 : Int) (b0 : List (Int)) : Option (TL Zah.σs ⊕ Out Zag) :=
 chk (inb t10 (List.length t5)) <|
 br (@decide _ (Int.decLt t12 (Int.ofNat (List.length (gt Za2 t5 t10).2.2.2.2.1))))
 (
  chk (inb t10 (List.length t5)) <|
  chk (inb t12 (List.length (gt Za2 t5 t10).2.2.2.2.1)) <|
  chk (inb (gt (.int .i64) (gt Za2 t5 t10).2.2.2.2.1 t12) (List.length b0)) <|
  some (.inl (t5, (t8, (t9, (t10, (t11, ((IntKind.wrap (.i64 : IntKind) (@HAdd.hAdd (Int) (Int) (Int) _ t12 (1 : Int))), ((List.set b0 (Int.toNat (gt (.int .i64) (gt Za2 t5 t10).2.2.2.2.1 t12)) t11), ())))))))))
 (
  some (.inr (t5, (t8, (t9, (t10, (b0, ())))))))
theorem Zmh (F_astrariumref06_level : TL [Za2, (.sl (.int .i64))] → Option (TL [(.int .i64)])) (F_astrariumref06_Nodes : TL [Za5] → Option (TL [(.sl Za2)])) (F_astrariumref05_Sound : TL [Za5] → Option (TL [(.int .i64)]))  (t5 : List (Sh.T Za2)) (t8 : Int) (t9 : Int) (t10 : Int) (t11 : Int) (t12 : Int) (b0 : List (Int)) : runB Tryz.prog (shOf Tryz.prog 20) (kn [(103, ⟨_, _, F_astrariumref06_level⟩), (95, ⟨_, _, F_astrariumref06_Nodes⟩), (64, ⟨_, _, F_astrariumref05_Sound⟩)] []) (envT []) 1 0 94 Zah Zag (tabL 0 94 []) (Zb5 [1, 0, 0] (Zaa Tryz.f65)) (t5, (t8, (t9, (t10, (t11, (t12, (b0, ()))))))) = Zf4 F_astrariumref06_level F_astrariumref06_Nodes F_astrariumref05_Sound  t5 t8 t9 t10 t11 t12 b0 := by kernel_rfl
def Zb6 : TL Zah.σs → Option (Out Zag) := lpD (fun d => Zf4 Zal Zam Zad  d.1 d.2.1 d.2.2.1 d.2.2.2.1 d.2.2.2.2.1 d.2.2.2.2.2.1 d.2.2.2.2.2.2.1) NN
theorem Zme {R : Type} : LOk Tryz.prog Real 0 94 (Zb5 [1, 0, 0] (Zaa Tryz.f65)) (specL (R := R) 0 94 ⟨Zah, Zeh, Zag, Zb6⟩) :=
 Zby Zac (kn_ok (List.forall_mem_cons.2 ⟨Zd9, (List.forall_mem_cons.2 ⟨Zda, (List.forall_mem_cons.2 ⟨Zct, (List.forall_mem_nil _)⟩)⟩)⟩) (List.forall_mem_nil _)) (Zak (List.forall_mem_nil _)) (Zan (by kernel_rfl) Zae) (lp_of fun d => Zmh Zal Zam Zad  d.1 d.2.1 d.2.2.1 d.2.2.2.1 d.2.2.2.2.1 d.2.2.2.2.2.1 d.2.2.2.2.2.2.1)
def Zf5 (F_astrariumref06_level : TL [Za2, (.sl (.int .i64))] → Option (TL [(.int .i64)])) (F_astrariumref06_Nodes : TL [Za5] → Option (TL [(.sl Za2)])) (F_astrariumref05_Sound : TL [Za5] → Option (TL [(.int .i64)])) (L24 : TL Zah.σs → Option (Out Zag)) (t5 : List (Sh.T Za2)) (t8 : Int) (t9 : Int) (t10 : Int) (b0 : List (Int)) : Option (TL Zau.σs ⊕ Out Zap) :=
 br (@decide _ (Int.decLt t10 (Int.ofNat (List.length t5))))
 (
  chk (inb t10 (List.length t5)) <|
  bnd (F_astrariumref06_level (((gt Za2 t5 t10).1, ((gt Za2 t5 t10).2.1, ((gt Za2 t5 t10).2.2.1, ((gt Za2 t5 t10).2.2.2.1, ((gt Za2 t5 t10).2.2.2.2.1, ()))))), (b0, ()))) fun x0 =>
  br (@decide _ (Int.decLt x0.1 (0 : Int)))
  (
   bnd (L24 (t5, ((IntKind.wrap (.i64 : IntKind) (@HAdd.hAdd (Int) (Int) (Int) _ t8 (1 : Int))), (t9, (t10, (x0.1, ((0 : Int), (b0, ())))))))) fun x1 =>
   some (.inl (x1.1, (x1.2.1, (x1.2.2.1, ((IntKind.wrap (.i64 : IntKind) (@HAdd.hAdd (Int) (Int) (Int) _ x1.2.2.2.1 (1 : Int))), (x1.2.2.2.2.1, ())))))))
  (
   bnd (L24 (t5, (t8, (t9, (t10, (x0.1, ((0 : Int), (b0, ())))))))) fun x1 =>
   some (.inl (x1.1, (x1.2.1, (x1.2.2.1, ((IntKind.wrap (.i64 : IntKind) (@HAdd.hAdd (Int) (Int) (Int) _ x1.2.2.2.1 (1 : Int))), (x1.2.2.2.2.1, ()))))))))
 (
  some (.inr (t5, (t8, (t9, (b0, ()))))))
theorem Zmi (F_astrariumref06_level : TL [Za2, (.sl (.int .i64))] → Option (TL [(.int .i64)])) (F_astrariumref06_Nodes : TL [Za5] → Option (TL [(.sl Za2)])) (F_astrariumref05_Sound : TL [Za5] → Option (TL [(.int .i64)])) (L24 : TL Zah.σs → Option (Out Zag)) (t5 : List (Sh.T Za2)) (t8 : Int) (t9 : Int) (t10 : Int) (b0 : List (Int)) : runB Tryz.prog (shOf Tryz.prog 20) (kn [(103, ⟨_, _, F_astrariumref06_level⟩), (95, ⟨_, _, F_astrariumref06_Nodes⟩), (64, ⟨_, _, F_astrariumref05_Sound⟩)] []) (envT []) 1 0 94 Zau Zap (tabL 0 94 [(24, ⟨Zah, Zeh, Zag, L24⟩)]) (Zb5 [1, 0] (Zaa Tryz.f65)) (t5, (t8, (t9, (t10, (b0, ()))))) = Zf5 F_astrariumref06_level F_astrariumref06_Nodes F_astrariumref05_Sound L24 t5 t8 t9 t10 b0 := by kernel_rfl
def Zcc : TL Zau.σs → Option (Out Zap) := lpD (fun d => Zf5 Zal Zam Zad (Zb6) d.1 d.2.1 d.2.2.1 d.2.2.2.1 d.2.2.2.2.1) NN
theorem Zmf {R : Type} : LOk Tryz.prog Real 0 94 (Zb5 [1, 0] (Zaa Tryz.f65)) (specL (R := R) 0 94 ⟨Zau, Zgc, Zap, Zcc⟩) :=
 Zby Zac (kn_ok (List.forall_mem_cons.2 ⟨Zd9, (List.forall_mem_cons.2 ⟨Zda, (List.forall_mem_cons.2 ⟨Zct, (List.forall_mem_nil _)⟩)⟩)⟩) (List.forall_mem_nil _)) (Zak (List.forall_mem_nil _)) (Zan (by kernel_rfl) (Zb4 (by kernel_rfl) (Zme) Zae)) (lp_of fun d => Zmi Zal Zam Zad (Zb6) d.1 d.2.1 d.2.2.1 d.2.2.2.1 d.2.2.2.2.1)
def Zf6 (F_astrariumref06_level : TL [Za2, (.sl (.int .i64))] → Option (TL [(.int .i64)])) (F_astrariumref06_Nodes : TL [Za5] → Option (TL [(.sl Za2)])) (F_astrariumref05_Sound : TL [Za5] → Option (TL [(.int .i64)])) (L18 : TL Zau.σs → Option (Out Zap)) (L24 : TL Zah.σs → Option (Out Zag)) (t5 : List (Sh.T Za2)) (t8 : Int) (t9 : Int) (b0 : List (Int)) : Option (TL Zbk.σs ⊕ Out Zbd) :=
 br (@decide _ (Int.decLe t9 (Int.ofNat (List.length t5))))
 (
  bnd (L18 (t5, ((0 : Int), (t9, ((0 : Int), (b0, ())))))) fun x0 =>
  some (.inl (x0.1, (x0.2.1, ((IntKind.wrap (.i64 : IntKind) (@HAdd.hAdd (Int) (Int) (Int) _ x0.2.2.1 (1 : Int))), (x0.2.2.2.1, ()))))))
 (
  some (.inr (t8, (b0, ()))))
theorem Zmj (F_astrariumref06_level : TL [Za2, (.sl (.int .i64))] → Option (TL [(.int .i64)])) (F_astrariumref06_Nodes : TL [Za5] → Option (TL [(.sl Za2)])) (F_astrariumref05_Sound : TL [Za5] → Option (TL [(.int .i64)])) (L18 : TL Zau.σs → Option (Out Zap)) (L24 : TL Zah.σs → Option (Out Zag)) (t5 : List (Sh.T Za2)) (t8 : Int) (t9 : Int) (b0 : List (Int)) : runB Tryz.prog (shOf Tryz.prog 20) (kn [(103, ⟨_, _, F_astrariumref06_level⟩), (95, ⟨_, _, F_astrariumref06_Nodes⟩), (64, ⟨_, _, F_astrariumref05_Sound⟩)] []) (envT []) 1 0 94 Zbk Zbd (tabL 0 94 [(18, ⟨Zau, Zgc, Zap, L18⟩), (24, ⟨Zah, Zeh, Zag, L24⟩)]) (Zb5 [1] (Zaa Tryz.f65)) (t5, (t8, (t9, (b0, ())))) = Zf6 F_astrariumref06_level F_astrariumref06_Nodes F_astrariumref05_Sound L18 L24 t5 t8 t9 b0 := by kernel_rfl
def Zde : TL Zbk.σs → Option (Out Zbd) := lpD (fun d => Zf6 Zal Zam Zad (Zcc) (Zb6) d.1 d.2.1 d.2.2.1 d.2.2.2.1) NN
theorem Zmg {R : Type} : LOk Tryz.prog Real 0 94 (Zb5 [1] (Zaa Tryz.f65)) (specL (R := R) 0 94 ⟨Zbk, Zj9, Zbd, Zde⟩) :=
 Zby Zac (kn_ok (List.forall_mem_cons.2 ⟨Zd9, (List.forall_mem_cons.2 ⟨Zda, (List.forall_mem_cons.2 ⟨Zct, (List.forall_mem_nil _)⟩)⟩)⟩) (List.forall_mem_nil _)) (Zak (List.forall_mem_nil _)) (Zan (by kernel_rfl) (Zb4 (by kernel_rfl) (Zmf) Zae)) (lp_of fun d => Zmj Zal Zam Zad (Zcc) (Zb6) d.1 d.2.1 d.2.2.1 d.2.2.2.1)
def Zi1 : List Sh := [Za5]
def Zff : List Sh := [(.sl (.int .i64)), .bool]
def Zfw (F_astrariumref06_level : TL [Za2, (.sl (.int .i64))] → Option (TL [(.int .i64)])) (F_astrariumref06_Nodes : TL [Za5] → Option (TL [(.sl Za2)])) (F_astrariumref05_Sound : TL [Za5] → Option (TL [(.int .i64)])) (L6 : TL Zbt.σs → Option (Out Zbj)) (L9 : TL Zax.σs → Option (Out Zat)) (L14 : TL Zbk.σs → Option (Out Zbd)) (L18 : TL Zau.σs → Option (Out Zap)) (L24 : TL Zah.σs → Option (Out Zag)) (a0 : Sh.T Za5) : Option (TL Zff) :=
 bnd (F_astrariumref05_Sound ((a0.1, (a0.2.1, (a0.2.2.1, (a0.2.2.2.1, (a0.2.2.2.2.1, (a0.2.2.2.2.2.1, (a0.2.2.2.2.2.2.1, (a0.2.2.2.2.2.2.2.1, ())))))))), ())) fun x0 =>
 br (Bool.not (@decide _ (Int.instDecidableEq x0.1 (0 : Int))))
 (
  some ([], (false, ())))
 (
  chk (both (@decide _ (Int.decLe (0 : Int) (IntKind.wrap (.i64 : IntKind) (@HAdd.hAdd (Int) (Int) (Int) _ a0.1 (1 : Int))))) (both (@decide _ (Int.decLe (IntKind.wrap (.i64 : IntKind) (@HAdd.hAdd (Int) (Int) (Int) _ a0.1 (1 : Int))) (IntKind.wrap (.i64 : IntKind) (@HAdd.hAdd (Int) (Int) (Int) _ a0.1 (1 : Int))))) (@decide _ (Int.decLe (@HMul.hMul (Int) (Int) (Int) _ (Int.ofNat 8) (IntKind.wrap (.i64 : IntKind) (@HAdd.hAdd (Int) (Int) (Int) _ a0.1 (1 : Int)))) (281474976710656 : Int))))) <|
  bnd (F_astrariumref06_Nodes ((a0.1, (a0.2.1, (a0.2.2.1, (a0.2.2.2.1, (a0.2.2.2.2.1, (a0.2.2.2.2.2.1, (a0.2.2.2.2.2.2.1, (a0.2.2.2.2.2.2.2.1, ())))))))), ())) fun x1 =>
  bnd (L6 (x1.1, ((0 : Int), ((List.replicate (Int.toNat (IntKind.wrap (.i64 : IntKind) (@HAdd.hAdd (Int) (Int) (Int) _ a0.1 (1 : Int)))) (Sh.zero (.int .i64))), ())))) fun x2 =>
  bnd (L14 (x2.1, ((0 : Int), ((0 : Int), (x2.2.1, ()))))) fun x3 =>
  br (@decide _ (Int.decLt (0 : Int) x3.1))
  (
   some ([], (false, ())))
  (
   some (x3.2.1, (true, ()))))
theorem Znz (F_astrariumref06_level : TL [Za2, (.sl (.int .i64))] → Option (TL [(.int .i64)])) (F_astrariumref06_Nodes : TL [Za5] → Option (TL [(.sl Za2)])) (F_astrariumref05_Sound : TL [Za5] → Option (TL [(.int .i64)])) (L6 : TL Zbt.σs → Option (Out Zbj)) (L9 : TL Zax.σs → Option (Out Zat)) (L14 : TL Zbk.σs → Option (Out Zbd)) (L18 : TL Zau.σs → Option (Out Zap)) (L24 : TL Zah.σs → Option (Out Zag)) (a0 : Sh.T Za5) : runF (τs := Zff) Tryz.prog (shOf Tryz.prog 20) (kn [(103, ⟨_, _, F_astrariumref06_level⟩), (95, ⟨_, _, F_astrariumref06_Nodes⟩), (64, ⟨_, _, F_astrariumref05_Sound⟩)] []) (envT []) 1 (tabL 0 94 [(6, ⟨Zbt, Zjj, Zbj, L6⟩), (9, ⟨Zax, Zgz, Zat, L9⟩), (14, ⟨Zbk, Zj9, Zbd, L14⟩), (18, ⟨Zau, Zgc, Zap, L18⟩), (24, ⟨Zah, Zeh, Zag, L24⟩)]) Tryz.f65 (Zaa Tryz.f65) Zi1 (a0, ()) = Zfw F_astrariumref06_level F_astrariumref06_Nodes F_astrariumref05_Sound L6 L9 L14 L18 L24 a0 := by kernel_rfl
def Zfg : TL Zi1 → Option (TL Zff) := fun d => Zfw Zal Zam Zad Zdh Zcq Zde Zcc Zb6 d.1
theorem Zna : Comes Tryz.prog 65 Zi1 Zff Zfg :=
 Zd1 (e := Tryz.f65) (c := Zaa Tryz.f65) Tryz.func65 (by kernel_rfl) (by kernel_rfl) Zac (kn_ok (List.forall_mem_cons.2 ⟨Zd9, (List.forall_mem_cons.2 ⟨Zda, (List.forall_mem_cons.2 ⟨Zct, (List.forall_mem_nil _)⟩)⟩)⟩) (List.forall_mem_nil _)) (Zak (List.forall_mem_nil _)) 94 (by kernel_rfl) (Zan (by kernel_rfl) (Zb4 (by kernel_rfl) Znc (Zb4 (by kernel_rfl) Zmg Zae))) (Zeq fun d => Znz Zal Zam Zad Zdh Zcq Zde Zcc Zb6 d.1)
def Zil : List Sh := [Za5]
def Zfx : List Sh := [(.int .i64)]
def Zl8 (F_astrariumref06_Levels : TL [Za5] → Option (TL [(.sl (.int .i64)), .bool])) (F_astrariumref05_Sound : TL [Za5] → Option (TL [(.int .i64)]))  (a0 : Sh.T Za5) : Option (TL Zfx) :=
 bnd (F_astrariumref05_Sound ((a0.1, (a0.2.1, (a0.2.2.1, (a0.2.2.2.1, (a0.2.2.2.2.1, (a0.2.2.2.2.2.1, (a0.2.2.2.2.2.2.1, (a0.2.2.2.2.2.2.2.1, ())))))))), ())) fun x0 =>
 br (Bool.not (@decide _ (Int.instDecidableEq x0.1 (0 : Int))))
 (
  some (x0.1, ()))
 (
  bnd (F_astrariumref06_Levels ((a0.1, (a0.2.1, (a0.2.2.1, (a0.2.2.2.1, (a0.2.2.2.2.1, (a0.2.2.2.2.2.1, (a0.2.2.2.2.2.2.1, (a0.2.2.2.2.2.2.2.1, ())))))))), ())) fun x1 =>
  br (Bool.not x1.2.1)
  (
   some ((8 : Int), ()))
  (
   some ((0 : Int), ())))
theorem Zpb (F_astrariumref06_Levels : TL [Za5] → Option (TL [(.sl (.int .i64)), .bool])) (F_astrariumref05_Sound : TL [Za5] → Option (TL [(.int .i64)]))  (a0 : Sh.T Za5) : runF (τs := Zfx) Tryz.prog (shOf Tryz.prog 20) (kn [(65, ⟨_, _, F_astrariumref06_Levels⟩), (64, ⟨_, _, F_astrariumref05_Sound⟩)] []) (envT []) 1 (tabL 0 18 []) Tryz.f31 (Zaa Tryz.f31) Zil (a0, ()) = Zl8 F_astrariumref06_Levels F_astrariumref05_Sound  a0 := by kernel_rfl
def Zb7 : TL Zil → Option (TL Zfx) := fun d => Zl8 Zfg Zad  d.1
theorem Zes : Comes Tryz.prog 31 Zil Zfx Zb7 :=
 Zd1 (e := Tryz.f31) (c := Zaa Tryz.f31) Tryz.func31 (by kernel_rfl) (by kernel_rfl) Zac (kn_ok (List.forall_mem_cons.2 ⟨Zna, (List.forall_mem_cons.2 ⟨Zct, (List.forall_mem_nil _)⟩)⟩) (List.forall_mem_nil _)) (Zak (List.forall_mem_nil _)) 18 (by kernel_rfl) (Zan (by kernel_rfl) Zae) (Zeq fun d => Zpb Zfg Zad  d.1)
end Go.Proofs.YtnocaehijdmkkaaGreat.V
