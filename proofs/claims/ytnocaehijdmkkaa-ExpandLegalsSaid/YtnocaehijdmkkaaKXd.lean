import Derived.Test.YtnocaehijdmkkaaKXc
set_option linter.unusedVariables false
set_option linter.unusedSimpArgs false
set_option linter.unnecessarySimpa false
section
namespace Go.Proofs.Ytnocaehijdmkkaa.V
open Go Go.RowKit
open Go.Proofs.Ytnocaehijdmkkaa.Pl
theorem pow_six {A:Nat} (h:2^A≤64):A≤6:=by
 rcases Nat.lt_or_ge 6 A with q | q
 ·have:=Nat.pow_le_pow_right (n:=2) (by omega) (show 7≤A from q)
  omega
 ·exact q
theorem Small.six {m:MemD} (h:Small m):m.addr.toNat≤6:=pow_six h.cnt
structure CellsOk (M:MemD) (v:Nat) (C:List (List Int)):Prop where
 len:C.length=2^M.addr.toNat
 row:∀r∈C,r.length=M.word.toNat
 ok:∀r∈C,∀x∈r,LitOk v x
theorem CellsOk.up {M:MemD} {v w:Nat} {C:List (List Int)} (h:CellsOk M v C) (hw:v≤w):CellsOk M w C:=⟨h.len,h.row,fun r h1 x h2=>(h.ok r h1 x h2).up hw⟩
structure ReadSp (s t:Mk) (M:MemD) (r:ReadD) (C:List (List Int)):Prop where
 sp:Sp s t (10*(2^M.addr.toNat*M.word.toNat)) (dataL r.var M.word.toNat)
 val:∀val,Sat val t.a→∀j:Nat,j<M.word.toNat→val (r.var+(j:Int))=evl val (lii C (wordF (r.addr.map (evl val))) j)
 clo:∀G,Clo G t.a→(∀x∈r.addr,GL G x)→(∀row∈C,∀x∈row,GL G x)→∀j:Nat,j<M.word.toNat→G (r.var+(j:Int))
theorem li_data (v:Int) (W:Nat) {j:Nat} (h:j<W):li (dataL v W) j=v+(j:Int):=by
 unfold li dataL
 rw [List.getD_eq_getElem?_getD,List.getElem?_map,List.getElem?_range h];rfl
section
variable (i:List Int) (l:List Za0.T) (o b c:List Int) (m:List Za1.T) {s:Mk}
theorem mread_is {M:MemD} {p:Nat} {r:ReadD} (hr:M.reads[p]?=some r) (hsm:Small M) {C:List (List Int)} (K:CellsOk M s.v C) (hal:r.addr.length=M.addr.toNat) (hx:∀x∈r.addr,LitOk s.v x)
  (hvar:-1099511627776≤r.var∧r.var≤1099511627776) (hv:s.v≤50000) (ha:s.a.length≤50000) :
  ∃t:Mk,nexpand_expander__read_FF (M.addr,(M.word,(M.any,(M.reads.map readT,(M.writes.map Zt4,((p:Int),(C,mkT i l o b c m s)))))))=some (mkT i l o b c m t)∧ReadSp s t M r C:=by
 have hcn:=hsm.cnt
 obtain ⟨hsz,hone⟩:=hsm.nat
 have h6:=hsm.six
 have w1:=hsm.w1
 have w2:=hsm.w2
 obtain ⟨A,eA⟩:∃A,A=M.addr.toNat:=⟨_,rfl⟩
 obtain ⟨W,eW⟩:∃W,W=M.word.toNat:=⟨_,rfl⟩
 have hCl:=K.len
 rw [←eA] at hCl hal hcn hsz h6 hone
 rw [←eW] at hsz
 have hCA:C.length*r.addr.length≤384:=by rw [hal];exact Nat.mul_le_mul (show C.length≤64 by omega) h6
 have hWC:W*(2*C.length)≤128:=by rw [Nat.mul_left_comm,hCl,Nat.mul_comm W];omega
 obtain ⟨t1,H,e1,B1⟩:=rd_4 i l o b c m (s:=s) (p:Int) C r.addr M.addr M.word M.any (M.reads.map readT) (M.writes.map Zt4) (by omega) (by omega) (by rw [hCl,hal];exact Nat.le_refl _) hx (by omega) (by omega)
 have lo1:=B1.sp.lo
 have hi1:=B1.sp.hi
 have hl1:t1.a.length≤s.a.length+C.length*r.addr.length:=by simpa using B1.sp.len
 have hDl:(dataL r.var W).length=W:=Zol _ _
 obtain ⟨t2,e2,B2⟩:=rd_9 i l o b c m (s:=t1) C H (dataL r.var W) (by omega) B1.len (by omega) (fun x h=>by rw [hDl,K.row x h,eW];exact Nat.le_refl _) (fun x h y h2=>(K.ok x h y h2).up lo1)
  (fun x h=>by
   obtain ⟨k,hk⟩:=List.getElem?_of_mem h
   have hk2:=Zhb hk
   have:=(li_at hk2).1
   rw [hk] at this
   have:=Option.some.inj this
   rw [this];exact B1.ok k (by rw [←B1.len];exact hk2)) (by rw [hDl];omega) (by rw [hDl];omega)
 rw [hDl] at e2 B2
 have hrl:=Zhb hr
 have hr':(M.reads.map readT)[p]?=some (readT r):=by rw [List.getElem?_map,hr];rfl
 have g:gt Zb3 (M.reads.map readT) (p:Int)=readT r:=gt_at (σ:=Zb3) hr'
 have hin:inb (p:Int) (List.length (M.reads.map readT))=true:=Zar ⟨by omega,by rw [List.length_map];omega⟩
 have e1':nexpand_expander__read_L4 ((p:Int),(C,((gt Zb3 (M.reads.map readT) (p:Int)).2.1,(((C.length:Nat):Int),((0:Int),mkX i l o b c m s (M.addr,(M.word,(M.any,(M.reads.map readT,(M.writes.map Zt4,([],())))))))))))=some ((p:Int),(C,mkX i l o b c m t1 (M.addr,(M.word,(M.any,(M.reads.map readT,(M.writes.map Zt4,(H,())))))))):=by
  rw [g];exact e1
 have e0:Zmw (memT M,((p:Int),()))=some (dataL r.var W,()):=by rw [eW];exact Za3i M p r hr ⟨by omega,by omega⟩ hvar
 have e2':nexpand_expander__read_L9 (C,(dataL r.var W,((((dataL r.var W).length:Nat):Int),((0:Int),mkX i l o b c m t1 (H,())))))=some (mkT i l o b c m t2):=by rw [hDl];exact e2
 refine ⟨t2,?_,?_,?_,?_⟩
 ·show nexpand_expander__read_F Zmw nexpand_maker__as_FF nexpand_maker__or_FF nexpand_maker__and_FF nexpand_maker__is_FF nexpand_expander__read_L4 nexpand_expander__read_L9 nexpand_expander__read_L13 M.addr M.word M.any (M.reads.map readT) (M.writes.map Zt4) (p:Int) C (s.v:Int) i l o b c m (s.a.map andT)=_
  unfold nexpand_expander__read_F
  exact Zaj hin (Zba e1' (Zba e0 (Zba e2' rfl)))
 ·have:=B1.sp.trans B2.sp
  rw [List.nil_append,List.take_of_length_le (by rw [hDl];exact Nat.le_refl _),eW] at this
  refine this.more ?_
  rw [←eW,←eA,hal,hCl]
  obtain ⟨N,eN⟩:∃N,N=2^A:=⟨_,rfl⟩
  rw [←eN]
  have h1:N*A≤N*8:=Nat.mul_le_mul_left _ (by omega)
  have h2:N*1≤N*W:=Nat.mul_le_mul_left _ (by omega)
  have h3:W*(2*N)=2*(N*W):=by rw [Nat.mul_left_comm,Nat.mul_comm W]
  omega
 ·intro val hs j hj
  have s1:=B2.sp.sat hs
  have hj':j<W:=by omega
  have h:=B2.val j hj' val hs
  rw [li_data _ _ hj'] at h
  have hw:wordF (r.addr.map (evl val))<C.length:=by
   have:=Zb74 (r.addr.map (evl val))
   rw [List.length_map,hal] at this
   omega
  have key:(val (r.var+(j:Int))=true)↔evl val (lii C (wordF (r.addr.map (evl val))) j)=true:=by
   rw [h]
   constructor
   ·rintro ⟨a,q1,q2,q3⟩
    rw [B1.val a q1 val s1] at q2
    have:=of_decide_eq_true q2
    rw [this];exact q3
   ·intro q
    exact ⟨_,hw,by rw [B1.val _ hw val s1];exact decide_eq_true rfl,q⟩
  cases h1:val (r.var+(j:Int))<;>cases h2:evl val (lii C (wordF (r.addr.map (evl val))) j)<;>simp_all
 ·intro G hc hg hr2 j hj
  have hj':j<W:=by omega
  have:=B2.clo j hj' G hc (fun a ha=>⟨B1.clo a ha G (B2.sp.clo hc) hg,?_⟩)
  ·rw [li_data _ _ hj'] at this;exact this
  ·have hra:=(row_at ha).2
   exact hr2 _ hra _ (li_at (by rw [K.row _ hra];omega)).2
end
def latN (v n:Nat) (st:Int):List Zgv:=(List.range n).map fun q:Nat=>⟨((v+1+q:Nat):Int),0,st⟩
def rowC (v k:Nat):List Int:=(List.range k).map fun j:Nat=>2*((v+1+j:Nat):Int)
def cellsC (v W N:Nat):List (List Int):=(List.range N).map fun a:Nat=>rowC (v+a*W) W
theorem latN_succ (v n:Nat) (st:Int):latN v (n+1) st=latN v n st++[⟨((v+1+n:Nat):Int),0,st⟩]:=by unfold latN;rw [List.range_succ,List.map_append];rfl
theorem rowC_succ (v k:Nat):rowC v (k+1)=rowC v k++[2*((v+1+k:Nat):Int)]:=by unfold rowC;rw [List.range_succ,List.map_append];rfl
theorem cellsC_succ (v W k:Nat):cellsC v W (k+1)=cellsC v W k++[rowC (v+k*W) W]:=by unfold cellsC;rw [List.range_succ,List.map_append];rfl
theorem rowC_len (v k:Nat):(rowC v k).length=k:=by simp [rowC]
theorem cellsC_len (v W k:Nat):(cellsC v W k).length=k:=by simp [cellsC]
theorem latN_len (v n:Nat) (st:Int):(latN v n st).length=n:=by simp [latN]
theorem lii_cells {v W N a j:Nat} (ha:a<N) (hj:j<W):lii (cellsC v W N) a j=2*((v+a*W+1+j:Nat):Int):=by
 unfold lii li cellsC rowC
 rw [List.getD_eq_getElem?_getD (l:=(List.range N).map _),List.getElem?_map,List.getElem?_range ha]
 show ((List.range W).map _).getD j 0=_
 rw [List.getD_eq_getElem?_getD,List.getElem?_map,List.getElem?_range hj];rfl
theorem cells_okC {M:MemD} (v:Nat):CellsOk M (v+2^M.addr.toNat*M.word.toNat) (cellsC v M.word.toNat (2^M.addr.toNat)):=by
 refine ⟨cellsC_len _ _ _,?_,?_⟩
 ·intro r h
  obtain ⟨a,_,rfl⟩:=List.mem_map.1 h
  exact rowC_len _ _
 ·intro r h x hx
  obtain ⟨a,ha,rfl⟩:=List.mem_map.1 h
  obtain ⟨j,hj,rfl⟩:=List.mem_map.1 hx
  have ha:=List.mem_range.1 ha
  have hj:=List.mem_range.1 hj
  have:=Nat.mul_le_mul_right M.word.toNat (show a+1≤2^M.addr.toNat from ha)
  rw [Nat.succ_mul a] at this
  refine ⟨by omega,?_⟩
  rw [show (2:Int)*((v+a*M.word.toNat+1+j:Nat):Int) / 2=((v+a*M.word.toNat+1+j:Nat):Int) by omega]
  exact Int.ofNat_le.2 (by omega)
section
variable (i o b c:List Int) (l:List Zgv) (m:List Za1.T) (a:List Za0.T)
abbrev mkC (α:Type) (i o b c:List Int) (m:List Za1.T) (a:List Za0.T) (v:Nat) (l:List Zgv) (r:α):Int×List Int×List Int×List Int×List Int×List Za1.T×List Za0.T×List Za0.T×α:=
 ((v:Int),(i,(o,(b,(c,(m,(a,(l.map latT,r))))))))
theorem ce_8 (st:Int) (N q:Int) (v W:Nat) (x0:Int) (x2:Bool) (x3:List Zb3.T) (x4:List Zb8.T) (C:List (List Int)) (hv:v+W≤90000) (hl:l.length≤90000) (hW:W≤64) :
  nexpand_expander__cells_L8 (st,(N,(q,((W:Int),((0:Int),mkC _ i o b c m a v l (x0,((W:Int),(x2,(x3,(x4,(C,([],()))))))))))))
   = some (st,(N,(q,mkC _ i o b c m a (v+W) (l++latN v W st) (x0,((W:Int),(x2,(x3,(x4,(C,(rowC v W,())))))))))):=by
 unfold nexpand_expander__cells_L8;delta u20
 refine Zif (fun k:Nat=>(st,(N,(q,((W:Int),((k:Int),mkC _ i o b c m a (v+k) (l++latN v k st) (x0,((W:Int),(x2,(x3,(x4,(C,(rowC v k,()))))))))))))) W ?_ ?_ ?_ (Ze8 (by omega))
 ·simp only [Nat.add_zero,latN,rowC,List.range_zero,List.map_nil,List.append_nil]
  rfl
 ·intro k hk
  have e1:=mfresh_is i ((l++latN v k st).map latT) o b c m (s:=⟨v+k,[]⟩) (by show v+k≤_;omega)
  have e1':nexpand_maker__fresh_FF (((v+k:Nat):Int),(i,((l++latN v k st).map latT,(o,(b,(c,(m,(a,()))))))))=some ((2*((v+k+1:Nat):Int)),(((v+k+1:Nat):Int),(i,((l++latN v k st).map latT,(o,(b,(c,(m,(a,()))))))))):=by
   have w:IntKind.wrap .i64 (((v+k:Nat):Int)+1)=((v+k+1:Nat):Int):=i64w (x:=((v+k:Nat):Int)+1) (by omega)
   have e:lits_Make_FF (IntKind.wrap .i64 (((v+k:Nat):Int)+1),(false,()))=some (2*((v+k+1:Nat):Int),()):=by rw [w];exact lits_Make_is (by omega) (by omega)
   show nexpand_maker__fresh_F lits_Make_FF ((v+k:Nat):Int) i ((l++latN v k st).map latT) o b c m a=_
   unfold nexpand_maker__fresh_F
   refine Zba e ?_
   have kk:∀p q:Int,p=q→(some (2*((v+k+1:Nat):Int),(p,(i,((l++latN v k st).map latT,(o,(b,(c,(m,(a,()))))))))):Option (Out nexpand_maker__fresh_outs))=some (2*((v+k+1:Nat):Int),(q,(i,((l++latN v k st).map latT,(o,(b,(c,(m,(a,()))))))))):=by rintro _ _ rfl;rfl
   exact kk _ _ w
  have e2:Zhs (2*((v+k+1:Nat):Int),())=some (((v+k+1:Nat):Int),()):=Zwy (l:=2*((v+k+1:Nat):Int)) (q:=((v+k+1:Nat):Int)) (by omega)
  have hlk:((l++latN v k st).map latT).length=l.length+k:=by rw [List.length_map,List.length_append,latN_len]
  have r1:room 24 (List.length ((l++latN v k st).map latT++[latT ⟨((v+k+1:Nat):Int),0,st⟩]))=true:=room24 (by omega)
  have r2:room 8 (List.length (rowC v k++[2*((v+k+1:Nat):Int)]))=true:=room8 (by rw [rowC_len];omega)
  have hL:(l++latN v (k+1) st).map latT=(l++latN v k st).map latT++[latT ⟨((v+k+1:Nat):Int),0,st⟩]:=by
   rw [latN_succ,←List.append_assoc,List.map_append (l₁:=l++latN v k st)]
   show _++[latT ⟨((v+1+k:Nat):Int),0,st⟩]=_
   rw [show v+1+k=v+k+1 by omega]
  have hR:rowC v (k+1)=rowC v k++[2*((v+k+1:Nat):Int)]:=by rw [rowC_succ,show v+1+k=v+k+1 by omega]
  have e:∀(u w:Int) (A B:List Za0.T) (R R':List Int),u=w→A=B→R=R'→(some (.inl (st,(N,(q,((W:Int),(u,(((v+k+1:Nat):Int),(i,(o,(b,(c,(m,(a,(A,(x0,((W:Int),(x2,(x3,(x4,(C,(R,()))))))))))))))))))))):Option (TL nexpand_expander__cells_lay8.σs⊕Out nexpand_expander__cells_outs8))
    = some (.inl (st,(N,(q,((W:Int),(w,(((v+k+1:Nat):Int),(i,(o,(b,(c,(m,(a,(B,(x0,((W:Int),(x2,(x3,(x4,(C,(R',()))))))))))))))))))))):=by rintro _ _ _ _ _ _ rfl rfl rfl;rfl
  exact br_tt (dec_t (show (k:Int)<(W:Int) by omega)) (Zba e1' (Zba e2 (Zaj r1 (Zaj r2 (e _ _ _ _ _ _ (i64n (show (k:Int)+1=((k+1:Nat):Int) by omega) (by omega)) hL.symm hR.symm)))))
 ·exact br_ff (dec_f (show ¬(W:Int)<(W:Int) by omega)) rfl
theorem ce_5 (st:Int) (N v W:Nat) (x0:Int) (x2:Bool) (x3:List Zb3.T) (x4:List Zb8.T) (hv:v≤50000) (hl:l.length≤50000) (hW:W≤64) (hN:N≤64) :
  nexpand_expander__cells_L5 (st,((N:Int),((0:Int),mkC _ i o b c m a v l (x0,((W:Int),(x2,(x3,(x4,([],())))))))))=some (mkC _ i o b c m a (v+N*W) (l++latN v (N*W) st) (cellsC v W N,())):=by
 have hNW:N*W≤4096:=Nat.mul_le_mul hN hW
 unfold nexpand_expander__cells_L5;delta u17
 refine Zif (fun k:Nat=>(st,((N:Int),((k:Int),mkC _ i o b c m a (v+k*W) (l++latN v (k*W) st) (x0,((W:Int),(x2,(x3,(x4,(cellsC v W k,())))))))))) N ?_ ?_ ?_ (Ze8 (by omega))
 ·simp only [Nat.zero_mul,Nat.add_zero,latN,cellsC,List.range_zero,List.map_nil,List.append_nil]
  rfl
 ·intro k hk
  have hkW:k*W+W≤N*W:=by
   have:=Nat.mul_le_mul_right W (show k+1≤N from hk)
   rw [Nat.succ_mul k] at this;exact this
  have e8:=ce_8 i o b c (l++latN v (k*W) st) m a st (N:Int) (k:Int) (v+k*W) W x0 x2 x3 x4 (cellsC v W k) (by omega) (by rw [List.length_append,latN_len];omega) hW
  have r1:room 24 (List.length (cellsC v W k++[rowC (v+k*W) W]))=true:=Zsm (a:=24) (L:=cellsC v W k) (x:=rowC (v+k*W) W) (by rw [cellsC_len];omega) (by omega)
  have hlat:∀(L1 L2:List Zgv) (n:Nat),n=k*W→L1=latN v n st→L2=latN (v+n) W st→L1++L2=latN v (n+W) st:=by
   rintro _ _ n _ rfl rfl
   unfold latN
   rw [List.range_add,List.map_append,List.map_map]
   congr 1
   apply List.map_congr_left
   intro j _
   simp only [Function.comp]
   rw [show v+n+1+j=v+1+(n+j) by omega]
  have hL:l++latN v (k*W) st++latN (v+k*W) W st=l++latN v ((k+1)*W) st:=by
   rw [List.append_assoc,hlat _ _ (k*W) rfl rfl rfl,Nat.succ_mul k]
  have hV:v+k*W+W=v+(k+1)*W:=by rw [Nat.succ_mul k];omega
  have e:∀(u w:Int) (p p':Nat) (A B:List Zgv) (R R':List (List Int)),u=w→p=p'→A=B→R=R'→(some (.inl (st,((N:Int),(u,mkC _ i o b c m a p A (x0,((W:Int),(x2,(x3,(x4,(R,())))))))))):Option (TL nexpand_expander__cells_lay5.σs⊕Out nexpand_expander__cells_outs5))
    = some (.inl (st,((N:Int),(w,mkC _ i o b c m a p' B (x0,((W:Int),(x2,(x3,(x4,(R',())))))))))):=by rintro _ _ _ _ _ _ _ _ rfl rfl rfl rfl;rfl
  exact br_tt (dec_t (show (k:Int)<(N:Int) by omega)) (Zba e8 (Zaj r1 (e _ _ _ _ _ _ _ _ (i64n (show (k:Int)+1=((k+1:Nat):Int) by omega) (by omega)) hV hL (cellsC_succ v W k).symm)))
 ·exact br_ff (dec_f (show ¬(N:Int)<(N:Int) by omega)) rfl
theorem mcells_is {M:MemD} (hsm:Small M) {s:Mk} (hv:s.v≤50000) (hl:l.length≤50000) :
  nexpand_expander__cells_FF (M.addr,(M.word,(M.any,(M.reads.map readT,(M.writes.map Zt4,mkT i (l.map latT) o b c m s)))))
   = some (cellsC s.v M.word.toNat (2^M.addr.toNat),mkC _ i o b c m (s.a.map andT) (s.v+2^M.addr.toNat*M.word.toNat) (l++latN s.v (2^M.addr.toNat*M.word.toNat) (if M.any then 2 else 0)) ()):=by
 have hcn:=hsm.cnt
 have w1:=hsm.w1
 have w2:=hsm.w2
 have a1:=hsm.a1
 have eW:M.word=((M.word.toNat:Nat):Int):=by omega
 have hN:IntKind.wrap .i64 ((1:Int)*(HPow.hPow (2:Int) (Min.min (Int.toNat M.addr) 64)))=((2^M.addr.toNat:Nat):Int):=by
  have h6:=hsm.six
  rw [Nat.min_eq_left (by omega),Int.one_mul]
  have:(2:Int)^M.addr.toNat=((2^M.addr.toNat:Nat):Int):=by push_cast;rfl
  rw [this]
  exact (show ∀N:Nat,N≤64→IntKind.wrap .i64 (N:Int)=(N:Int) from fun N h=>i64w (by omega)) _ hcn
 have e5:∀st:Int,nexpand_expander__cells_L5 (st,(IntKind.wrap .i64 ((1:Int)*(HPow.hPow (2:Int) (Min.min (Int.toNat M.addr) 64))),((0:Int),mkC _ i o b c m (s.a.map andT) s.v l (M.addr,(M.word,(M.any,(M.reads.map readT,(M.writes.map Zt4,([],())))))))))
   = some (mkC _ i o b c m (s.a.map andT) (s.v+2^M.addr.toNat*M.word.toNat) (l++latN s.v (2^M.addr.toNat*M.word.toNat) st) (cellsC s.v M.word.toNat (2^M.addr.toNat),())):=by
  intro st
  rw [hN]
  have:=ce_5 i o b c l m (s.a.map andT) st (2^M.addr.toNat) s.v M.word.toNat M.addr M.any (M.reads.map readT) (M.writes.map Zt4) hv hl (by omega) hcn
  rw [←eW] at this
  exact this
 have hc:iE (0:Int) M.addr=true:=dec_t (show (0:Int)≤M.addr by omega)
 show nexpand_expander__cells_F Zhs nexpand_maker__fresh_FF nexpand_expander__cells_L5 nexpand_expander__cells_L8 M.addr M.word M.any (M.reads.map readT) (M.writes.map Zt4) (s.v:Int) i (l.map latT) o b c m (s.a.map andT)=_
 unfold nexpand_expander__cells_F
 cases hany:M.any
 ·have:=e5 0
  rw [hany] at this
  exact br_ff rfl (Zaj hc (Zba this rfl))
 ·have:=e5 2
  rw [hany] at this
  exact br_tt rfl (Zaj hc (Zba this rfl))
end
theorem li_set {L:List Int} {k j:Nat} {x:Int} (h:k<L.length):li (L.set k x) j=if j=k then x else li L j:=by
 unfold li
 rw [List.getD_eq_getElem?_getD,List.getD_eq_getElem?_getD,List.getElem?_set]
 by_cases e:k=j
 ·subst e;rw [if_pos rfl,if_pos h,if_pos rfl];rfl
 ·rw [if_neg e,if_neg (fun q=>e q.symm)]
def wrV (val:Int→Bool) (ws:List Zz7) (a j:Nat) (b:Bool):Bool:=
 ws.foldl (fun x w=>if evl val w.on=true∧wordF (w.addr.map (evl val))=a then evl val (li w.data j) else x) b
theorem wrV_snoc (val:Int→Bool) (ws:List Zz7) (w:Zz7) (a j:Nat) (b:Bool):wrV val (ws++[w]) a j b=if evl val w.on=true∧wordF (w.addr.map (evl val))=a then evl val (li w.data j) else wrV val ws a j b:=by
 unfold wrV;rw [List.foldl_append];rfl
structure NxSp (s t:Mk) (on:Int) (data nx nx':List Int) (k:Nat):Prop where
 sp:Sp s t (3*k) []
 len:nx'.length=nx.length
 ok:∀j,j<nx.length→LitOk t.v (li nx' j)
 val:∀val,Sat val t.a→∀j,j<nx.length→evl val (li nx' j)=(if j<k∧evl val on=true then evl val (li data j) else evl val (li nx j))
structure WxSp (s t:Mk) (ws:List Zz7) (a:Nat) (nx nx':List Int) (A W q:Nat):Prop where
 sp:Sp s t (q*(A+1+3*W)) []
 len:nx'.length=W
 ok:∀j,j<W→LitOk t.v (li nx' j)
 val:∀val,Sat val t.a→∀j,j<W→evl val (li nx' j)=wrV val (ws.take q) a j (evl val (li nx j))
structure WsOk (v A W:Nat) (ws:List Zz7):Prop where
 ad:∀w∈ws,w.addr.length=A
 da:∀w∈ws,w.data.length=W
 on:∀w∈ws,LitOk v w.on
 la:∀w∈ws,∀x∈w.addr,LitOk v x
 ld:∀w∈ws,∀x∈w.data,LitOk v x
def lz:Zgv:=⟨0,0,0⟩
def la (L:List Zgv) (p:Nat):Zgv:=L.getD p lz
def setN (L:List Zgv) (base:Nat) (nx:List Int):Nat→List Zgv
 | 0=>L
 | k+1=>(setN L base nx k).set (base+k) ⟨(la (setN L base nx k) (base+k)).var,li nx k,(la (setN L base nx k) (base+k)).init⟩
theorem setN_len (L:List Zgv) (base:Nat) (nx:List Int):∀k,(setN L base nx k).length=L.length
 | 0=>rfl
 | k+1=>by rw [setN,List.length_set,setN_len L base nx k]
theorem la_set {L:List Zgv} {k j:Nat} {x:Zgv} (h:k<L.length):la (L.set k x) j=if j=k then x else la L j:=by
 unfold la
 rw [List.getD_eq_getElem?_getD,List.getD_eq_getElem?_getD,List.getElem?_set]
 by_cases e:k=j
 ·subst e;rw [if_pos rfl,if_pos h,if_pos rfl];rfl
 ·rw [if_neg e,if_neg (fun q=>e q.symm)]
theorem la_gt {L:List Zgv} {p:Nat} (h:p<L.length):gt Za0 (L.map latT) (p:Int)=latT (la L p):=by
 have e:=List.getElem?_eq_getElem h
 have:la L p=L[p]:=by unfold la;rw [List.getD_eq_getElem?_getD,e];rfl
 exact gt_at (σ:=Za0) (by rw [List.getElem?_map,e,this];rfl)
theorem setN_is (L:List Zgv) (base:Nat) (nx:List Int):∀k,base+k≤L.length→∀p,(la (setN L base nx k) p).var=(la L p).var∧(la (setN L base nx k) p).init=(la L p).init ∧
  (la (setN L base nx k) p).next=if base≤p∧p<base+k then li nx (p - base) else (la L p).next
 | 0,_,p=>⟨rfl,rfl,by rw [if_neg (by omega)];rfl⟩
 | k+1,h,p=>by
  have ih:=setN_is L base nx k (by omega)
  rw [setN,la_set (by rw [setN_len];omega)]
  by_cases e:p=base+k
  ·rw [if_pos e,if_pos (by omega)]
   subst e
   obtain ⟨a,b,_⟩:=ih (base+k)
   exact ⟨a,b,by rw [Nat.add_sub_cancel_left]⟩
  ·rw [if_neg e]
   obtain ⟨a,b,c⟩:=ih p
   refine ⟨a,b,c.trans ?_⟩
   by_cases q:base≤p∧p<base+k
   ·rw [if_pos q,if_pos (by omega)]
   ·rw [if_neg q,if_neg (by omega)]
section
variable (i:List Int) (l:List Za0.T) (o b c:List Int) (m:List Za1.T) {s:Mk}
theorem we_10 (f a0 on:Int) (C:List (List Int)) (n0 a1:Int) (ws:List Zb8.T) (n1 q x0 x1:Int) (x2:Bool) (x3:List Zb3.T) (x4:List Zb8.T) (nx:List Int) (on':Int) (adr data:List Int)
  (hlen:data.length=nx.length) (hn:nx.length≤64) (hon:LitOk s.v on) (hd:∀x∈data,LitOk s.v x) (hnx:∀j,j<nx.length→LitOk s.v (li nx j)) (hv:s.v+3*nx.length≤100000) (ha:s.a.length+3*nx.length≤100000) :
  ∃(t:Mk) (nx':List Int),nexpand_expander__write_L10 (f,(a0,(on,(C,(n0,(a1,(ws,(n1,(q,(((nx.length:Nat):Int),((0:Int),mkX i l o b c m s (x0,(x1,(x2,(x3,(x4,(nx,(on',(adr,(data,()))))))))))))))))))))
   = some (f,(a0,(C,(n0,(a1,(ws,(n1,(q,mkX i l o b c m t (x0,(x1,(x2,(x3,(x4,(nx',()))))))))))))))∧NxSp s t on data nx nx' nx.length:=by
 have key:∃r,nexpand_expander__write_L10 (f,(a0,(on,(C,(n0,(a1,(ws,(n1,(q,(((nx.length:Nat):Int),((0:Int),mkX i l o b c m s (x0,(x1,(x2,(x3,(x4,(nx,(on',(adr,(data,()))))))))))))))))))))=some r ∧
   ∃(t:Mk) (nx':List Int),r=(f,(a0,(C,(n0,(a1,(ws,(n1,(q,mkX i l o b c m t (x0,(x1,(x2,(x3,(x4,(nx',()))))))))))))))∧NxSp s t on data nx nx' nx.length:=by
  unfold nexpand_expander__write_L10
  refine lp_ex nx.length (fun k d=>∃(t:Mk) (nx':List Int),d=(f,(a0,(on,(C,(n0,(a1,(ws,(n1,(q,(((nx.length:Nat):Int),((k:Int),mkX i l o b c m t (x0,(x1,(x2,(x3,(x4,(nx',(on',(adr,(data,()))))))))))))))))))))∧NxSp s t on data nx nx' k) ?_ ?_
   ⟨s,nx,rfl,(Sp.refl s).more (by omega),rfl,hnx,fun val _ j _=>by rw [if_neg (fun q=>by omega)]⟩ (Ze8 (by omega))
  ·rintro k d hk ⟨t,nx',rfl,A⟩
   have lo:=A.sp.lo
   have hi:=A.sp.hi
   have hl:t.a.length≤s.a.length+3*k:=by simpa using A.sp.len
   have hk':k<nx'.length:=by rw [A.len];exact hk
   have hkd:k<data.length:=by omega
   have g1:gt (.int .i64) data (k:Int)=li data k:=li_gt hkd
   have g2:gt (.int .i64) nx' (k:Int)=li nx' k:=li_gt hk'
   obtain ⟨z,t',e1,B⟩:=mchoose_is i l o b c m (s:=t) (by omega) (by omega) (hon.up lo) ((hd _ (li_at hkd).2).up lo) (A.ok k hk)
   have e1':nexpand_maker__choose_FF (on,(gt (.int .i64) data (k:Int),(gt (.int .i64) nx' (k:Int),mkT i l o b c m t)))=some (z,mkT i l o b c m t'):=by rw [g1,g2];exact e1
   have i1:inb (k:Int) (List.length data)=true:=Zar ⟨by omega,by omega⟩
   have i2:inb (k:Int) (List.length nx')=true:=Zar ⟨by omega,by omega⟩
   have ek:∀u w:Int,u=w→(some (.inl (f,(a0,(on,(C,(n0,(a1,(ws,(n1,(q,(((nx.length:Nat):Int),(u,mkX i l o b c m t' (x0,(x1,(x2,(x3,(x4,(nx'.set k z,(on',(adr,(data,()))))))))))))))))))))):Option (TL nexpand_expander__write_lay10.σs⊕Out nexpand_expander__write_outs10))
     = some (.inl (f,(a0,(on,(C,(n0,(a1,(ws,(n1,(q,(((nx.length:Nat):Int),(w,mkX i l o b c m t' (x0,(x1,(x2,(x3,(x4,(nx'.set k z,(on',(adr,(data,()))))))))))))))))))))):=by rintro _ _ rfl;rfl
   refine ⟨_,br_tt (dec_t (show (k:Int)<((nx.length:Nat):Int) by omega)) (Zaj i1 (Zaj i2 (Zba e1' (Zaj i2 (Zaj (dec_t rfl) (ek _ _ (i64n (show (k:Int)+1=((k+1:Nat):Int) by omega) (by omega)))))))),t',nx'.set k z,rfl,?_,?_,?_,?_⟩
   ·exact (A.sp.trans B.sp).more (by omega)
   ·rw [List.length_set,A.len]
   ·intro j hj
    rw [li_set hk']
    split
    ·exact B.ok
    ·exact (A.ok j hj).up B.sp.lo
   ·intro val hs j hj
    have s1:=B.sp.sat hs
    have h0:=A.val val s1
    rw [li_set hk']
    by_cases e:j=k
    ·rw [if_pos e,B.val val hs,h0 k hk,if_neg (show ¬(k<k∧evl val on=true) from fun q=>by omega)]
     subst e
     by_cases q:evl val on=true
     ·rw [if_pos q,if_pos ⟨by omega,q⟩]
     ·rw [if_neg q,if_neg (fun r=>q r.2)]
    ·rw [if_neg e,h0 j hj]
     by_cases q:j<k∧evl val on=true
     ·rw [if_pos q,if_pos ⟨by omega,q.2⟩]
     ·rw [if_neg q,if_neg (fun r=>q ⟨by omega,r.2⟩)]
  ·rintro d ⟨t,nx',rfl,A⟩
   exact ⟨_,br_ff (dec_f (show ¬((nx.length:Nat):Int)<((nx.length:Nat):Int) by omega)) rfl,t,nx',rfl,A⟩
 obtain ⟨r,e,t,nx',rfl,A⟩:=key
 exact ⟨t,nx',e,A⟩
theorem we_6 (f:Int) (a:Nat) (C:List (List Int)) (n0 a1:Int) (ws:List Zz7) (x0 x1:Int) (x2:Bool) (x3:List Zb3.T) (x4:List Zb8.T) (nx:List Int) {A W:Nat}
  (hw:WsOk s.v A W ws) (hn:nx.length=W) (hW:W≤64) (hA:A≤6) (haA:a<2^A) (hws:ws.length≤100) (hnx:∀x∈nx,LitOk s.v x) (hv:s.v+ws.length*(A+1+3*W)≤100000) (ha:s.a.length+ws.length*(A+1+3*W)≤100000) :
  ∃(t:Mk) (nx':List Int),nexpand_expander__write_L6 (f,((a:Int),(C,(n0,(a1,(ws.map Zt4,((((ws.map Zt4).length:Nat):Int),((0:Int),mkX i l o b c m s (x0,(x1,(x2,(x3,(x4,(nx,()))))))))))))))
   = some (f,((a:Int),(C,(n0,(a1,mkX i l o b c m t (x0,(x1,(x2,(x3,(x4,(nx',())))))))))))∧WxSp s t ws a nx nx' A W ws.length:=by
 have ha64:a<64:=by
  have:=Nat.pow_le_pow_right (n:=2) (by omega) hA
  have h64:2^6=64:=rfl
  omega
 have key:∃r,nexpand_expander__write_L6 (f,((a:Int),(C,(n0,(a1,(ws.map Zt4,((((ws.map Zt4).length:Nat):Int),((0:Int),mkX i l o b c m s (x0,(x1,(x2,(x3,(x4,(nx,()))))))))))))))=some r ∧
   ∃(t:Mk) (nx':List Int),r=(f,((a:Int),(C,(n0,(a1,mkX i l o b c m t (x0,(x1,(x2,(x3,(x4,(nx',())))))))))))∧WxSp s t ws a nx nx' A W ws.length:=by
  unfold nexpand_expander__write_L6;delta u22
  refine lp_ex ws.length (fun k d=>∃(t:Mk) (nx':List Int),d=(f,((a:Int),(C,(n0,(a1,(ws.map Zt4,((((ws.map Zt4).length:Nat):Int),((k:Int),mkX i l o b c m t (x0,(x1,(x2,(x3,(x4,(nx',()))))))))))))))∧WxSp s t ws a nx nx' A W k) ?_ ?_
   ⟨s,nx,rfl,(Sp.refl s).more (by omega),hn,fun j hj=>hnx _ (li_at (by omega)).2,fun val _ j _=>rfl⟩ (Ze8 (by omega))
  ·rintro k d hk ⟨t,nx',rfl,P⟩
   have lo:=P.sp.lo
   have hi:=P.sp.hi
   have hl:t.a.length≤s.a.length+k*(A+1+3*W):=by simpa using P.sp.len
   have hkl:k*(A+1+3*W)+(A+1+3*W)≤ws.length*(A+1+3*W):=by
    have:=Nat.mul_le_mul_right (A+1+3*W) (show k+1≤ws.length from hk)
    rw [Nat.succ_mul k] at this;exact this
   obtain ⟨w,hwk⟩:∃w,ws[k]?=some w:=⟨_,List.getElem?_eq_getElem hk⟩
   have hm:=List.mem_of_getElem? hwk
   have g:gt Zb8 (ws.map Zt4) (k:Int)=Zt4 w:=gt_at (σ:=Zb8) (by rw [List.getElem?_map,hwk];rfl)
   have hwa:=hw.ad w hm
   have hwd:=hw.da w hm
   have u64:IntKind.wrap .u64 (a:Int)=(a:Int):=u64w (by omega)
   obtain ⟨z,t1,e1,B1⟩:=mis_is i l o b c m (s:=t) (L:=w.addr) (w:=a) (by omega) (by omega) (fun x h=>(hw.la w hm x h).up lo) (by omega) (by omega)
   have lo1:=B1.sp.lo
   have hi1:=B1.sp.hi
   have hl1:t1.a.length≤t.a.length+w.addr.length:=by simpa using B1.sp.len
   obtain ⟨y,t2,e2,B2⟩:=mand_is i l o b c m (s:=t1) ⟨by omega,by omega⟩ ((hw.on w hm).up (by omega)) B1.ok
   have lo2:=B2.sp.lo
   have hi2:=B2.sp.hi
   have hl2:t2.a.length≤t1.a.length+1:=by simpa using B2.sp.len
   have hnl:=P.len
   obtain ⟨t3,nx2,e3,B3⟩:=we_10 i l o b c m (s:=t2) f (a:Int) y C n0 a1 (ws.map Zt4) (((ws.map Zt4).length:Nat):Int) (k:Int) x0 x1 x2 x3 x4 nx' w.on w.addr w.data (by omega) (by omega) B2.ok (fun x h=>(hw.ld w hm x h).up (by omega)) (fun j hj=>(P.ok j (by omega)).up (by omega)) (by omega) (by omega)
   have e1':nexpand_maker__is_FF ((gt Zb8 (ws.map Zt4) (k:Int)).2.1,(IntKind.wrap .u64 (a:Int),mkT i l o b c m t))=some (z,mkT i l o b c m t1):=by rw [g,u64];exact e1
   have e2':nexpand_maker__and_FF ((gt Zb8 (ws.map Zt4) (k:Int)).1,(z,mkT i l o b c m t1))=some (y,mkT i l o b c m t2):=by rw [g];exact e2
   have e3':nexpand_expander__write_L10 (f,((a:Int),(y,(C,(n0,(a1,(ws.map Zt4,((((ws.map Zt4).length:Nat):Int),((k:Int),(((nx'.length:Nat):Int),((0:Int),mkX i l o b c m t2 (x0,(x1,(x2,(x3,(x4,(nx',((gt Zb8 (ws.map Zt4) (k:Int)).1,((gt Zb8 (ws.map Zt4) (k:Int)).2.1,((gt Zb8 (ws.map Zt4) (k:Int)).2.2.1,()))))))))))))))))))))
     = some (f,((a:Int),(C,(n0,(a1,(ws.map Zt4,((((ws.map Zt4).length:Nat):Int),((k:Int),mkX i l o b c m t3 (x0,(x1,(x2,(x3,(x4,(nx2,())))))))))))))):=by rw [g];exact e3
   have i1:inb (k:Int) (List.length (ws.map Zt4))=true:=Zar ⟨by omega,by rw [List.length_map];omega⟩
   have ek:∀u v:Int,u=v→(some (.inl (f,((a:Int),(C,(n0,(a1,(ws.map Zt4,((((ws.map Zt4).length:Nat):Int),(u,mkX i l o b c m t3 (x0,(x1,(x2,(x3,(x4,(nx2,()))))))))))))) )):Option (TL nexpand_expander__write_lay6.σs⊕Out nexpand_expander__write_outs6))
     = some (.inl (f,((a:Int),(C,(n0,(a1,(ws.map Zt4,((((ws.map Zt4).length:Nat):Int),(v,mkX i l o b c m t3 (x0,(x1,(x2,(x3,(x4,(nx2,()))))))))))))) )):=by rintro _ _ rfl;rfl
   refine ⟨_,br_tt (dec_t (show (k:Int)<(((ws.map Zt4).length:Nat):Int) by rw [List.length_map];omega)) (Zaj i1 (Zba e1' (Zaj (dec_t rfl) (Zba e2' (Zba e3' (ek _ _ (i64n (show (k:Int)+1=((k+1:Nat):Int) by omega) (by omega)))))))),t3,nx2,rfl,?_,?_,?_,?_⟩
   ·refine (((P.sp.trans B1.sp).trans B2.sp).trans B3.sp).more ?_
    rw [Nat.succ_mul k,hwa,hnl];omega
   ·rw [B3.len,hnl]
   ·intro j hj;exact B3.ok j (by omega)
   ·intro val hs j hj
    have s2:=B3.sp.sat hs
    have s1:=B2.sp.sat s2
    have s0:=B1.sp.sat s1
    rw [Pl.Zd8 hwk,wrV_snoc,B3.val val hs j (by omega),P.val val s0 j hj,B2.val val s2]
    rw [B1.word (by rw [hwa];exact haA) val s1]
    by_cases q:evl val w.on=true∧wordF (w.addr.map (evl val))=a
    ·rw [if_pos q,if_pos ⟨by omega,by rw [q.1,decide_eq_true q.2];rfl⟩]
    ·rw [if_neg q,if_neg]
     rintro ⟨_,h⟩
     rw [Bool.and_eq_true] at h
     exact q ⟨h.1,of_decide_eq_true h.2⟩
  ·rintro d ⟨t,nx',rfl,P⟩
   exact ⟨_,br_ff (dec_f (show ¬(ws.length:Int)<(((ws.map Zt4).length:Nat):Int) by rw [List.length_map];omega)) rfl,t,nx',rfl,P⟩
 obtain ⟨r,e,t,nx',rfl,P⟩:=key
 exact ⟨t,nx',e,P⟩
end
section
variable (i o b c:List Int) (m:List Za1.T) (s:Mk)
theorem we_16 (L:List Zgv) (f a:Nat) (C:List (List Int)) (n0 a1 x0:Int) (x2:Bool) (x3:List Zb3.T) (x4:List Zb8.T) (nx:List Int) {W:Nat} (hn:nx.length=W) (hW:W≤64) (ha:a≤64) (hf:f≤100000) (hL:f+a*W+W≤L.length) (hl:L.length≤1000000) :
  nexpand_expander__write_L16 ((f:Int),((a:Int),(C,(n0,(a1,(((nx.length:Nat):Int),((0:Int),mkX i (L.map latT) o b c m s (x0,((W:Int),(x2,(x3,(x4,(nx,())))))))))))))
   = some ((f:Int),(C,(n0,(a1,mkX i ((setN L (f+a*W) nx W).map latT) o b c m s (x0,((W:Int),(x2,(x3,(x4,()))))))))):=by
 have haW:a*W≤4096:=Nat.mul_le_mul ha hW
 unfold nexpand_expander__write_L16;delta u21
 refine Zif (fun k:Nat=>((f:Int),((a:Int),(C,(n0,(a1,(((nx.length:Nat):Int),((k:Int),mkX i ((setN L (f+a*W) nx k).map latT) o b c m s (x0,((W:Int),(x2,(x3,(x4,(nx,())))))))))))))) W rfl ?_ ?_ (Ze8 (by omega))
 ·intro k hk
  have hidx:IntKind.wrap .i64 ((IntKind.wrap .i64 ((f:Int)+(IntKind.wrap .i64 ((a:Int)*(W:Int)))))+(k:Int))=((f+a*W+k:Nat):Int):=by
   have w1:IntKind.wrap .i64 ((a:Int)*(W:Int))=((a*W:Nat):Int):=by rw [←Int.natCast_mul];exact i64w (by omega)
   rw [w1]
   have w2:IntKind.wrap .i64 ((f:Int)+((a*W:Nat):Int))=((f+a*W:Nat):Int):=by rw [←Int.natCast_add];exact i64w (by omega)
   rw [w2,←Int.natCast_add];exact i64w (by omega)
  have hlen:=setN_len L (f+a*W) nx k
  have hin:f+a*W+k<(setN L (f+a*W) nx k).length:=by rw [hlen];omega
  have g1:=la_gt hin
  have g2:gt (.int .i64) nx (k:Int)=li nx k:=li_gt (by omega)
  have i1:inb (k:Int) (List.length nx)=true:=Zar ⟨by omega,by omega⟩
  have i2:inb (IntKind.wrap .i64 ((IntKind.wrap .i64 ((f:Int)+(IntKind.wrap .i64 ((a:Int)*(W:Int)))))+(k:Int))) (List.length ((setN L (f+a*W) nx k).map latT))=true:=by
   rw [hidx];exact Zar ⟨by omega,by rw [List.length_map];exact Int.ofNat_lt.2 hin⟩
  have hset:(setN L (f+a*W) nx (k+1)).map latT=List.set ((setN L (f+a*W) nx k).map latT) (f+a*W+k) ((la (setN L (f+a*W) nx k) (f+a*W+k)).var,(li nx k,((la (setN L (f+a*W) nx k) (f+a*W+k)).init,()))):=by
   show ((setN L (f+a*W) nx k).set (f+a*W+k) _).map latT=_
   rw [List.map_set];rfl
  have e:∀(A B:List Za0.T) (u w:Int),A=B→u=w→(some (.inl ((f:Int),((a:Int),(C,(n0,(a1,(((nx.length:Nat):Int),(u,mkX i A o b c m s (x0,((W:Int),(x2,(x3,(x4,(nx,()))))))))))))) ):Option (TL nexpand_expander__write_lay16.σs⊕Out nexpand_expander__write_outs16))
    = some (.inl ((f:Int),((a:Int),(C,(n0,(a1,(((nx.length:Nat):Int),(w,mkX i B o b c m s (x0,((W:Int),(x2,(x3,(x4,(nx,()))))))))))))) ):=by rintro _ _ _ _ rfl rfl;rfl
  refine br_tt (dec_t (show (k:Int)<((nx.length:Nat):Int) by omega)) (Zaj i1 (Zaj i2 (e _ _ _ _ ?_ (i64n (show (k:Int)+1=((k+1:Nat):Int) by omega) (by omega)))))
  rw [hset,hidx,g1,g2,Int.toNat_natCast]
  rfl
 ·exact br_ff (dec_f (show ¬(W:Int)<((nx.length:Nat):Int) by omega)) rfl
end
structure WrSp (s t:Mk) (ws:List Zz7) (C:List (List Int)) (L L':List Zgv) (f A W k:Nat):Prop where
 sp:Sp s t (k*(ws.length*(A+1+3*W))) []
 len:L'.length=L.length
 vi:∀p,(la L' p).var=(la L p).var∧(la L' p).init=(la L p).init
 out:∀p,p<f∨f+k*W≤p→(la L' p).next=(la L p).next
 nxt:∀a,a<k→∀j,j<W→LitOk t.v (la L' (f+a*W+j)).next∧∀val,Sat val t.a→evl val (la L' (f+a*W+j)).next=wrV val ws a j (evl val (lii C a j))
section
variable (i o b c:List Int) (m:List Za1.T) {s:Mk}
theorem we_2 (L:List Zgv) (f:Nat) (C:List (List Int)) (x0:Int) (x2:Bool) (x3:List Zb3.T) (ws:List Zz7) {A W:Nat} (hw:WsOk s.v A W ws) (hCl:C.length=2^A) (hrow:∀r∈C,r.length=W) (hok:∀r∈C,∀x∈r,LitOk s.v x)
  (hW:W≤64) (hA:A≤6) (hws:ws.length≤100) (hf:f≤50000) (hL:f+C.length*W≤L.length) (hl:L.length≤1000000)
  (hv:s.v+C.length*(ws.length*(A+1+3*W))≤100000) (ha:s.a.length+C.length*(ws.length*(A+1+3*W))≤100000) :
  ∃(t:Mk) (L':List Zgv),nexpand_expander__write_L2 ((f:Int),(C,(((C.length:Nat):Int),((0:Int),mkX i (L.map latT) o b c m s (x0,((W:Int),(x2,(x3,(ws.map Zt4,())))))))))=some (mkT i (L'.map latT) o b c m t)∧WrSp s t ws C L L' f A W C.length:=by
 have hC64:C.length≤64:=by
  have:=Nat.pow_le_pow_right (n:=2) (by omega) hA
  have h64:2^6=64:=rfl
  omega
 have key:∃r,nexpand_expander__write_L2 ((f:Int),(C,(((C.length:Nat):Int),((0:Int),mkX i (L.map latT) o b c m s (x0,((W:Int),(x2,(x3,(ws.map Zt4,())))))))))=some r∧∃(t:Mk) (L':List Zgv),r=mkT i (L'.map latT) o b c m t∧WrSp s t ws C L L' f A W C.length:=by
  unfold nexpand_expander__write_L2;delta u17
  refine lp_ex C.length (fun k d=>∃(t:Mk) (L':List Zgv),d=((f:Int),(C,(((C.length:Nat):Int),((k:Int),mkX i (L'.map latT) o b c m t (x0,((W:Int),(x2,(x3,(ws.map Zt4,())))))))))∧WrSp s t ws C L L' f A W k) ?_ ?_
   ⟨s,L,rfl,(Sp.refl s).more (by omega),rfl,fun p=>⟨rfl,rfl⟩,fun p _=>rfl,fun a h=>by omega⟩ (Ze8 (by omega))
  ·rintro k d hk ⟨t,L',rfl,P⟩
   obtain ⟨Z,eZ⟩:∃Z,Z=ws.length*(A+1+3*W):=⟨_,rfl⟩
   have lo:=P.sp.lo
   have hi:=P.sp.hi
   have hl':t.a.length≤s.a.length+k*(ws.length*(A+1+3*W)):=by simpa using P.sp.len
   rw [←eZ] at hi hl' hv ha
   have hkl:k*Z+Z≤C.length*Z:=by
    have:=Nat.mul_le_mul_right Z (show k+1≤C.length from hk)
    rw [Nat.succ_mul k] at this;exact this
   have hkW:k*W+W≤C.length*W:=by
    have:=Nat.mul_le_mul_right W (show k+1≤C.length from hk)
    rw [Nat.succ_mul k] at this;exact this
   have hr:=(row_at hk).2
   have hrl:=hrow _ hr
   obtain ⟨t1,nx,e6,B⟩:=we_6 i (L'.map latT) o b c m (s:=t) (f:Int) k C ((C.length:Nat):Int) (k:Int) ws x0 (W:Int) x2 x3 (ws.map Zt4) (C.getD k []) (A:=A) (W:=W)
    ⟨hw.ad,hw.da,fun w h=>(hw.on w h).up lo,fun w h x h2=>(hw.la w h x h2).up lo,fun w h x h2=>(hw.ld w h x h2).up lo⟩ hrl hW hA (by rw [←hCl];exact hk) hws (fun x h=>(hok _ hr x h).up lo) (by rw [←eZ];omega) (by rw [←eZ];omega)
   have hPl:=P.len
   have e16:=we_16 i o b c m t1 L' f k C ((C.length:Nat):Int) (k:Int) x0 x2 x3 (ws.map Zt4) nx (W:=W) B.len hW (by omega) (by omega) (by rw [hPl];omega) (by rw [hPl];omega)
   have ecl:slices_Clone___int_int_w_FF (gt (.sl (.int .i64)) C (k:Int),())=some (C.getD k [],()):=by
    rw [row_gt hk]
    exact Zaj (show room 8 (List.length ([]++C.getD k []))=true from Za3a (by rw [List.nil_append,hrl];omega) (by rw [List.nil_append,hrl];omega)) rfl
   have i1:inb (k:Int) (List.length C)=true:=Zar ⟨by omega,by omega⟩
   have ek:∀u v:Int,u=v→(some (.inl ((f:Int),(C,(((C.length:Nat):Int),(u,mkX i ((setN L' (f+k*W) nx W).map latT) o b c m t1 (x0,((W:Int),(x2,(x3,(ws.map Zt4,()))))))))) ):Option (TL nexpand_expander__write_lay2.σs⊕Out nexpand_expander__write_outs2))
     = some (.inl ((f:Int),(C,(((C.length:Nat):Int),(v,mkX i ((setN L' (f+k*W) nx W).map latT) o b c m t1 (x0,((W:Int),(x2,(x3,(ws.map Zt4,()))))))))) ):=by rintro _ _ rfl;rfl
   have hS:=setN_is L' (f+k*W) nx W (by rw [hPl];omega)
   refine ⟨_,br_tt (dec_t (show (k:Int)<((C.length:Nat):Int) by omega)) (Zaj i1 (Zba ecl (Zba e6 (Zba e16 (ek _ _ (i64n (show (k:Int)+1=((k+1:Nat):Int) by omega) (by omega))))))),t1,setN L' (f+k*W) nx W,rfl,?_,?_,?_,?_,?_⟩
   ·refine (P.sp.trans B.sp).more ?_
    rw [Nat.succ_mul k];exact Nat.le_refl _
   ·rw [setN_len,hPl]
   ·intro p
    obtain ⟨h1,h2,_⟩:=hS p
    obtain ⟨h3,h4⟩:=P.vi p
    exact ⟨h1.trans h3,h2.trans h4⟩
   ·intro p hp
    obtain ⟨_,_,h3⟩:=hS p
    rw [Nat.succ_mul k] at hp
    rw [h3,if_neg (by omega),P.out p (by omega)]
   ·intro a ha2 j hj
    by_cases q:a<k
    ·have haW:a*W+W≤k*W:=by
      have:=Nat.mul_le_mul_right W (show a+1≤k from q)
      rw [Nat.succ_mul a] at this;exact this
     obtain ⟨h1,h2⟩:=P.nxt a q j hj
     have h3:=(hS (f+a*W+j)).2.2
     rw [if_neg (by omega)] at h3
     rw [h3]
     exact ⟨h1.up B.sp.lo,fun val hs=>h2 val (B.sp.sat hs)⟩
    ·obtain rfl:a=k:=by omega
     have h3:=(hS (f+a*W+j)).2.2
     rw [if_pos (by omega),show f+a*W+j - (f+a*W)=j by omega] at h3
     rw [h3]
     refine ⟨B.ok j hj,fun val hs=>?_⟩
     have:=B.val val hs j hj
     rw [List.take_length] at this
     exact this
  ·rintro d ⟨t,L',rfl,P⟩
   exact ⟨_,br_ff (dec_f (show ¬((C.length:Nat):Int)<((C.length:Nat):Int) by omega)) rfl,t,L',rfl,P⟩
 obtain ⟨r,e,t,L',rfl,P⟩:=key
 exact ⟨t,L',e,P⟩
theorem mwrite_is {M:MemD} (hsm:Small M) (L:List Zgv) (f:Nat) {C:List (List Int)} (K:CellsOk M s.v C) (hw:WsOk s.v M.addr.toNat M.word.toNat M.writes) (hws:M.writes.length≤4) (hf:f≤50000) (hL:f+2^M.addr.toNat*M.word.toNat≤L.length) (hl:L.length≤1000000) (hv:s.v≤50000) (ha:s.a.length≤50000) :
  ∃(t:Mk) (L':List Zgv),nexpand_expander__write_FF (M.addr,(M.word,(M.any,(M.reads.map readT,(M.writes.map Zt4,(C,((f:Int),mkT i (L.map latT) o b c m s)))))))=some (mkT i (L'.map latT) o b c m t) ∧
   WrSp s t M.writes C L L' f M.addr.toNat M.word.toNat (2^M.addr.toNat)∧Sp s t (10*(2^M.addr.toNat*M.word.toNat)*M.writes.length) []:=by
 obtain ⟨hsz,hone⟩:=hsm.nat
 have h6:=hsm.six
 have w1:=hsm.w1
 have w2:=hsm.w2
 have hCl:=K.len
 obtain ⟨N,eN⟩:∃N,N=2^M.addr.toNat:=⟨_,rfl⟩
 obtain ⟨W,eW⟩:∃W,W=M.word.toNat:=⟨_,rfl⟩
 have eWi:M.word=(W:Int):=by omega
 have hbig:C.length*(M.writes.length*(M.addr.toNat+1+3*M.word.toNat))≤10*(2^M.addr.toNat*M.word.toNat)*M.writes.length:=by
  rw [hCl,←eN,←eW]
  have h1:M.addr.toNat+1+3*W≤10*W:=by omega
  calc N*(M.writes.length*(M.addr.toNat+1+3*W))≤N*(M.writes.length*(10*W)):=Nat.mul_le_mul_left _ (Nat.mul_le_mul_left _ h1)
   _=10*(N*W)*M.writes.length:=by
    rw [Nat.mul_comm M.writes.length,←Nat.mul_assoc,Nat.mul_left_comm N 10 W]
 have hbig2:10*(2^M.addr.toNat*M.word.toNat)*M.writes.length≤2560:=by
  have:=Nat.mul_le_mul (show 10*(2^M.addr.toNat*M.word.toNat)≤640 by omega) hws
  omega
 obtain ⟨t,L',e,P⟩:=we_2 i o b c m (s:=s) L f C M.addr M.any (M.reads.map readT) M.writes (A:=M.addr.toNat) (W:=M.word.toNat) hw hCl K.row K.ok (by omega) h6 (by omega) hf (by rw [hCl];exact hL) hl (by omega) (by omega)
 rw [show ((M.word.toNat:Nat):Int)=M.word by omega] at e
 refine ⟨t,L',?_,by rw [←hCl];exact P,P.sp.more hbig⟩
 show nexpand_expander__write_F nexpand_maker__choose_FF nexpand_maker__and_FF nexpand_maker__is_FF slices_Clone___int_int_w_FF nexpand_expander__write_L2 nexpand_expander__write_L6 nexpand_expander__write_L10 nexpand_expander__write_L16 M.addr M.word M.any (M.reads.map readT) (M.writes.map Zt4) C (f:Int) (s.v:Int) i (L.map latT) o b c m (s.a.map andT)=_
 unfold nexpand_expander__write_F
 exact Zba e rfl
end
end Go.Proofs.Ytnocaehijdmkkaa.V
end
section
namespace Go.Proofs.Ytnocaehijdmkkaa.V
open Go Go.RowKit
open Go.Proofs.Ytnocaehijdmkkaa.Pl
theorem Zb9v (a:Int):intEq a a=true:=decide_eq_true rfl
theorem Zb8y (a:Bool):Zbb3 a a=true:=decide_eq_true rfl
theorem Zb5i:∀l:List UInt8,Ev.Zuf l l=true
 | []=>rfl
 | x :: l=>by simp [Ev.Zuf,Zb5i l]
theorem Zb9o (a:ByteArray):Ev.strEq a a=true:=Zb5i _
mutual
theorem Sh.Zb5s:∀{σ:Sh} (a:σ.T),σ.beq a a=true
 | .int _,a=>Zb9v a
 | .bool,a=>Zb8y a
 | .str,a=>Zb9o a
 | .agg l,a=>Zb8g (l:=l) a
 | .sl s,a=>Za1l (fun x=>Sh.Zb5s x) a
theorem Zb8g:∀{l:List Sh} (a:TL l),beqL l a a=true
 | [],a=>rfl
 | s :: l,a=>by
  have h1:=Sh.Zb5s (σ:=s) a.1
  have h2:=Zb8g (l:=l) a.2
  show (match s.beq a.1 a.1 with | true=>beqL l a.2 a.2 | false=>false)=true
  rw [h1];exact h2
end
theorem roomN {a L:Nat} (ha:a≤100) (h:L≤10000000):room a L=true:=Za3a (by
 have:(2*L+192)*a≤(2*10000000+192)*100:=Nat.mul_le_mul (by omega) ha
 omega) (by omega)
theorem clI {L:List Int} (h:L.length≤1000000):slices_Clone___int_int_w_FF (L,())=some (L,()):=Zaj (roomN (by decide) (by show ([]++L).length≤_;rw [List.nil_append];omega)) rfl
theorem clL {L:List Za0.T} (h:L.length≤1000000):slices_Clone___api_Latch_api_Latch_w_FF (L,())=some (L,()):=Zaj (roomN (by decide) (by show ([]++L).length≤_;rw [List.nil_append];omega)) rfl
theorem clA {L:List Za0.T} (h:L.length≤1000000):slices_Clone___api_And_api_And_w_FF (L,())=some (L,()):=Zaj (roomN (by decide) (by show ([]++L).length≤_;rw [List.nil_append];omega)) rfl
theorem clM {L:List Za1.T} (h:L.length≤1000000):Zaq6 (L,())=some (L,()):=Zaj (roomN (by decide) (by show ([]++L).length≤_;rw [List.nil_append];omega)) rfl
theorem clR {L:List Zb3.T} (h:L.length≤1000000):Zadz (L,())=some (L,()):=Zaj (roomN (by decide) (by show ([]++L).length≤_;rw [List.nil_append];omega)) rfl
theorem clW {L:List Zb8.T} (h:L.length≤1000000):Zadb (L,())=some (L,()):=Zaj (roomN (by decide) (by show ([]++L).length≤_;rw [List.nil_append];omega)) rfl
theorem Zbab {σ:Sh} {L:List σ.T} {k:Nat} (h:k<L.length) {x:σ.T} (hx:x=gt σ L (k:Int)) {z:Int} (hz:z=(k:Int)):List.set L (Int.toNat z) x=L:=by
 subst hx;subst hz
 have:=gt_at (σ:=σ) (List.getElem?_eq_getElem h)
 rw [this,Int.toNat_natCast];exact List.set_getElem_self h
section
variable (i:Nat) (t41 t42 b00:Int) (b01:List Int) (b02:List Za0.T) (b03 b04 b05:List Int) (b07:List Za0.T) (b1:List Za1.T) (m0 m1:Int) (m2:Bool) (rs:List Zb3.T) (ws:List Zb8.T) (z:Int)
theorem cl13 (hr:rs.length≤1000) (hrr:∀r∈rs,r.2.1.length≤100000) :
  net_Clonew_L13 ((i:Int),(t41,(t42,((rs.length:Int),((0:Int),(b00,(b01,(b02,(b03,(b04,(b05,((i:Int),(b1,(m0,(m1,(m2,(rs,(ws,(b07,(z,()))))))))))))))))))))=some ((i:Int),(t41,(t42,(b00,(b01,(b02,(b03,(b04,(b05,((i:Int),(b1,(m0,(m1,(m2,(rs,(ws,(b07,(z,())))))))))))))))))):=by
 unfold net_Clonew_L13;delta u20
 refine Zif (fun k:Nat=>((i:Int),(t41,(t42,((rs.length:Int),((k:Int),(b00,(b01,(b02,(b03,(b04,(b05,((i:Int),(b1,(m0,(m1,(m2,(rs,(ws,(b07,(z,()))))))))))))))))))))) rs.length rfl ?_ ?_ (Ze8 (by omega))
 ·intro k hk
  have hx:=List.getElem?_eq_getElem hk
  have hg:gt Zb3 rs (k:Int)=rs[k]:=gt_at (σ:=Zb3) hx
  have e1:slices_Clone___int_int_w_FF ((gt Zb3 rs (k:Int)).2.1,())=some ((gt Zb3 rs (k:Int)).2.1,()):=clI (by rw [hg];exact Nat.le_trans (hrr _ (List.getElem_mem hk)) (by decide))
  have e:∀(p q:Int) (A:List Zb3.T),p=q→A=rs→(some (.inl ((i:Int),(t41,(t42,((rs.length:Int),(p,(b00,(b01,(b02,(b03,(b04,(b05,((i:Int),(b1,(m0,(m1,(m2,(A,(ws,(b07,(z,()))))))))))))))))))))):Option (TL net_Clonew_lay13.σs⊕Out net_Clonew_outs13))=some (.inl ((i:Int),(t41,(t42,((rs.length:Int),(q,(b00,(b01,(b02,(b03,(b04,(b05,((i:Int),(b1,(m0,(m1,(m2,(rs,(ws,(b07,(z,()))))))))))))))))))))):=by rintro _ _ _ rfl rfl;rfl
  have hi:inb (k:Int) (List.length rs)=true:=Zar ⟨by omega,by omega⟩
  try dsimp only
  unfold net_Clonew_B13
  have nb:Nat.beq i i=true:=by simp
  have nn:nQ (Int.toNat (i:Int)) (Int.toNat (i:Int))=true:=dec_t rfl
  exact br_tt (dec_t (show (k:Int)<(rs.length:Int) by omega)) (Zaj nb (Zaj nb (Zaj hi (Zba e1 (Zaj hi (Zaj nn (Zaj nn (Zaj nn (Zaj nb (Zaj (dec_t rfl) (e _ _ _ (i64n (by omega) (by omega)) (Zbab (σ:=Zb3) hk rfl rfl))))))))))))
 ·try dsimp only
  unfold net_Clonew_B13
  exact br_ff (dec_f (show ¬(rs.length:Int)<(rs.length:Int) by omega)) rfl
theorem cl18 (hr:ws.length≤1000) (hrr:∀r∈ws,r.2.1.length≤100000∧r.2.2.1.length≤100000) :
  net_Clonew_L18 ((i:Int),(t41,(t42,((ws.length:Int),((0:Int),(b00,(b01,(b02,(b03,(b04,(b05,((i:Int),(b1,(m0,(m1,(m2,(rs,(ws,(b07,(z,()))))))))))))))))))))=some (t41,(t42,(b00,(b01,(b02,(b03,(b04,(b05,((i:Int),(b1,(m0,(m1,(m2,(rs,(ws,(b07,(z,())))))))))))))))) ):=by
 unfold net_Clonew_L18;delta u20
 refine Zif (fun k:Nat=>((i:Int),(t41,(t42,((ws.length:Int),((k:Int),(b00,(b01,(b02,(b03,(b04,(b05,((i:Int),(b1,(m0,(m1,(m2,(rs,(ws,(b07,(z,()))))))))))))))))))))) ws.length rfl ?_ ?_ (Ze8 (by omega))
 ·intro k hk
  have hx:=List.getElem?_eq_getElem hk
  have hg:gt Zb8 ws (k:Int)=ws[k]:=gt_at (σ:=Zb8) hx
  have hb:=hrr _ (List.getElem_mem hk)
  have e1:slices_Clone___int_int_w_FF ((gt Zb8 ws (k:Int)).2.1,())=some ((gt Zb8 ws (k:Int)).2.1,()):=clI (by rw [hg];exact Nat.le_trans hb.1 (by decide))
  have e2:slices_Clone___int_int_w_FF ((gt Zb8 ws (k:Int)).2.2.1,())=some ((gt Zb8 ws (k:Int)).2.2.1,()):=clI (by rw [hg];exact Nat.le_trans hb.2 (by decide))
  have e:∀(p q:Int) (A:List Zb8.T),p=q→A=ws→(some (.inl ((i:Int),(t41,(t42,((ws.length:Int),(p,(b00,(b01,(b02,(b03,(b04,(b05,((i:Int),(b1,(m0,(m1,(m2,(rs,(A,(b07,(z,()))))))))))))))))))))):Option (TL net_Clonew_lay18.σs⊕Out net_Clonew_outs18))=some (.inl ((i:Int),(t41,(t42,((ws.length:Int),(q,(b00,(b01,(b02,(b03,(b04,(b05,((i:Int),(b1,(m0,(m1,(m2,(rs,(ws,(b07,(z,()))))))))))))))))))))):=by rintro _ _ _ rfl rfl;rfl
  have hi:inb (k:Int) (List.length ws)=true:=Zar ⟨by omega,by omega⟩
  have hs1:List.set ws (Int.toNat (k:Int)) ((gt Zb8 ws (k:Int)).1,((gt Zb8 ws (k:Int)).2.1,((gt Zb8 ws (k:Int)).2.2.1,())))=ws:=Zbab (σ:=Zb8) hk rfl rfl
  have hs2:∀A:List Zb8.T,A=ws→List.set A (Int.toNat (k:Int)) ((gt Zb8 A (k:Int)).1,((gt Zb8 A (k:Int)).2.1,((gt Zb8 ws (k:Int)).2.2.1,())))=ws:=by rintro _ rfl;exact hs1
  try dsimp only
  unfold net_Clonew_B18
  have nb:Nat.beq i i=true:=by simp
  have nk:nQ (Int.toNat (k:Int)) (Int.toNat (k:Int))=true:=dec_t rfl
  exact br_tt (dec_t (show (k:Int)<(ws.length:Int) by omega)) (Zaj nb (Zaj hi (Zba e1 (Zaj nk (Zaj nk (Zaj nk (Zaj nk (Zaj nk (Zaj (Za1l (fun x=>Sh.Zb5s x) _) (Zba e2 (Zaj nk (Zaj nk (Zaj nk (e _ _ _ (i64n (by omega) (by omega)) (hs2 _ hs1)))))))))))))))
 ·try dsimp only
  unfold net_Clonew_B18
  exact br_ff (dec_f (show ¬(ws.length:Int)<(ws.length:Int) by omega)) rfl
end
theorem cl8 {n:NetD} (ft:Fit n) (b00:Int) (b01:List Int) (b02:List Za0.T) (b03 b04 b05:List Int) (b07:List Za0.T) (z:Int) :
  net_Clonew_L8 (((n.mems.map memT).length:Int),((0:Int),(b00,(b01,(b02,(b03,(b04,(b05,(n.mems.map memT,(b07,(z,())))))))))))=some (b00,(b01,(b02,(b03,(b04,(b05,(n.mems.map memT,(b07,(z,()))))))))):=by
 have hL:(n.mems.map memT).length=n.mems.length:=List.length_map ..
 have hM:=ft.mems.1
 unfold net_Clonew_L8;delta u11
 refine Zif (fun k:Nat=>(((n.mems.map memT).length:Int),((k:Int),(b00,(b01,(b02,(b03,(b04,(b05,(n.mems.map memT,(b07,(z,()))))))))))) ) n.mems.length rfl ?_ ?_ (Ze8 (by omega))
 ·intro k hk
  have hx:=List.getElem?_eq_getElem hk
  have hx':(n.mems.map memT)[k]?=some (memT n.mems[k]):=by rw [List.getElem?_map,hx];rfl
  have hf:=ft.mems.2 _ (List.getElem_mem hk)
  generalize n.mems[k]=m at hx' hf
  have hg:gt Za1 (n.mems.map memT) (k:Int)=memT m:=gt_at (σ:=Za1) hx'
  have e1:Zadz ((gt Za1 (n.mems.map memT) (k:Int)).2.2.2.1,())=some (m.reads.map readT,()):=by
   rw [hg];exact clR (by show (m.reads.map readT).length≤_;rw [List.length_map];have:=hf.rdn;omega)
  have e2:Zadb ((gt Za1 (n.mems.map memT) (k:Int)).2.2.2.2.1,())=some (m.writes.map Zt4,()):=by
   rw [hg];exact clW (by show (m.writes.map Zt4).length≤_;rw [List.length_map];have:=hf.wrn;omega)
  have e13:=cl13 k ((n.mems.map memT).length:Int) (k:Int) b00 b01 b02 b03 b04 b05 b07 (n.mems.map memT) (gt Za1 (n.mems.map memT) (k:Int)).1 (gt Za1 (n.mems.map memT) (k:Int)).2.1 (gt Za1 (n.mems.map memT) (k:Int)).2.2.1 (m.reads.map readT) (m.writes.map Zt4) z (by rw [List.length_map];have:=hf.rdn;omega) (fun r hr=>by
   obtain ⟨r2,hr2,rfl⟩:=List.mem_map.1 hr
   have:=(hf.rds r2 hr2).1
   show r2.addr.length≤_;omega)
  have e18:=cl18 k ((n.mems.map memT).length:Int) (k:Int) b00 b01 b02 b03 b04 b05 b07 (n.mems.map memT) (gt Za1 (n.mems.map memT) (k:Int)).1 (gt Za1 (n.mems.map memT) (k:Int)).2.1 (gt Za1 (n.mems.map memT) (k:Int)).2.2.1 (m.reads.map readT) (m.writes.map Zt4) z (by rw [List.length_map];have:=hf.wrn;omega) (fun r hr=>by
   obtain ⟨r2,hr2,rfl⟩:=List.mem_map.1 hr
   have:=hf.wrs r2 hr2
   exact ⟨by show r2.addr.length≤_;omega,by show r2.data.length≤_;omega⟩)
  have e:∀(p q:Int) (A:List Za1.T),p=q→A=n.mems.map memT→(some (.inl (((n.mems.map memT).length:Int),(p,(b00,(b01,(b02,(b03,(b04,(b05,(A,(b07,(z,())))))))))))) :Option (TL net_Clonew_lay8.σs⊕Out net_Clonew_outs8))=some (.inl (((n.mems.map memT).length:Int),(q,(b00,(b01,(b02,(b03,(b04,(b05,(n.mems.map memT,(b07,(z,())))))))))))) :=by rintro _ _ _ rfl rfl;rfl
  have hst:List.set (n.mems.map memT) (Int.toNat (k:Int)) ((gt Za1 (n.mems.map memT) (k:Int)).1,((gt Za1 (n.mems.map memT) (k:Int)).2.1,((gt Za1 (n.mems.map memT) (k:Int)).2.2.1,(m.reads.map readT,(m.writes.map Zt4,())))))=n.mems.map memT:=Zbab (σ:=Za1) (by omega) (by rw [hg];rfl) rfl
  have hi:inb (k:Int) (List.length (n.mems.map memT))=true:=Zar ⟨by omega,by omega⟩
  have nn:nQ (Int.toNat (k:Int)) (Int.toNat (k:Int))=true:=dec_t rfl
  have nb:Nat.beq (Int.toNat (k:Int)) (Int.toNat (k:Int))=true:=by simp
  try dsimp only
  unfold net_Clonew_B8
  refine br_tt (dec_t (show (k:Int)<((n.mems.map memT).length:Int) by omega)) (Zaj hi (Zba e1 (Zaj nn (Zaj nn (Zaj nn (Zaj nn (Zaj nn (Zaj (Za1l (fun x=>Sh.Zb5s x) _) (Zba e2 (Zaj nn (Zaj nn (Zaj nn (Zaj nb (Zaj nb (Zba e13 (Zaj nb (Zba e18 (e _ _ _ (i64n (show (k:Int)+1=((k+1:Nat):Int) by omega) (by omega)) hst))))))))))))))))))
 ·try dsimp only
  unfold net_Clonew_B8
  exact br_ff (dec_f (show ¬(n.mems.length:Int)<((n.mems.map memT).length:Int) by omega)) rfl
theorem clonew_is {n:NetD} (ft:Fit n):net_Clonew_FF (n.vars,(n.inputs,(n.latches.map latT,(n.outputs,(n.bads,(n.constraints,(n.mems.map memT,(n.ands.map andT,()))))))))=some (n.vars,(n.inputs,(n.latches.map latT,(n.outputs,(n.bads,(n.constraints,(n.mems.map memT,(n.ands.map andT,())))))))):=by
 have e1:=clI (L:=n.inputs) (by have:=ft.ins.1;omega)
 have e2:=clI (L:=n.outputs) (by have:=ft.out.1;omega)
 have e3:=clI (L:=n.bads) (by have:=ft.bad.1;omega)
 have e4:=clI (L:=n.constraints) (by have:=ft.con.1;omega)
 have e5:=clL (L:=n.latches.map latT) (by rw [List.length_map];have:=ft.lat.1;omega)
 have e6:=clA (L:=n.ands.map andT) (by rw [List.length_map];have:=ft.ands.1;omega)
 have e7:=clM (L:=n.mems.map memT) (by rw [List.length_map];have:=ft.mems.1;omega)
 have e8:=cl8 ft n.vars n.inputs (n.latches.map latT) n.outputs n.bads n.constraints (n.ands.map andT) (0:Int)
 exact Zba e1 (Zba e2 (Zba e3 (Zba e4 (Zba e5 (Zaj (Za1l (fun x=>Sh.Zb5s x) _) (Zaj (Za1l (fun x=>Sh.Zb5s x) _) (Zba e6 (Zaj (Za1l (fun x=>Sh.Zb5s x) _) (Zba e7 (Zba e8 rfl))))))))))
end Go.Proofs.Ytnocaehijdmkkaa.V
end
section
namespace Go.Proofs.Ytnocaehijdmkkaa.V
open Go Go.RowKit
open Go.Proofs.Ytnocaehijdmkkaa.Pl
structure RsSp (s t:Mk) (M:MemD) (C:List (List Int)) (k:Nat):Prop where
 sp:Sp s t (10*(2^M.addr.toNat*M.word.toNat)*k) ((M.reads.take k).flatMap fun r=>dataL r.var M.word.toNat)
 val:∀val,Sat val t.a→∀(p:Nat) (r:ReadD),p<k→M.reads[p]?=some r→∀j:Nat,j<M.word.toNat→val (r.var+(j:Int))=evl val (lii C (wordF (r.addr.map (evl val))) j)
 clo:∀G,Clo G t.a→(∀row∈C,∀x∈row,GL G x)→∀(p:Nat) (r:ReadD),p<k→M.reads[p]?=some r→(∀x∈r.addr,GL G x)→∀j:Nat,j<M.word.toNat→G (r.var+(j:Int))
structure MemOk (v:Nat) (M:MemD):Prop where
 sm:Small M
 rl:M.reads.length≤4
 wl:M.writes.length≤4
 ra:∀r∈M.reads,r.addr.length=M.addr.toNat∧(∀x∈r.addr,LitOk v x)∧-1099511627776≤r.var∧r.var≤1099511627776
 ws:WsOk v M.addr.toNat M.word.toNat M.writes
theorem WsOk.up {v w A W:Nat} {ws:List Zz7} (h:WsOk v A W ws) (k:v≤w):WsOk w A W ws:=⟨h.ad,h.da,fun x q=>(h.on x q).up k,fun x q y r=>(h.la x q y r).up k,fun x q y r=>(h.ld x q y r).up k⟩
theorem MemOk.up {v w:Nat} {M:MemD} (h:MemOk v M) (k:v≤w):MemOk w M:=⟨h.sm,h.rl,h.wl,fun r q=>⟨(h.ra r q).1,fun x y=>((h.ra r q).2.1 x y).up k,(h.ra r q).2.2⟩,h.ws.up k⟩
section
variable (i o b c:List Int) (l:List Za0.T) (m:List Za1.T) {s:Mk}
theorem ex_18 (f:Int) (t55 t56 b00:Int) (ms:List Za1.T) {M:MemD} (K:MemOk s.v M) {C:List (List Int)} (hC:CellsOk M s.v C) (hv:s.v≤20000) (ha:s.a.length≤20000) :
  ∃t:Mk,expand_Net_L18 (f,(C,(t55,(t56,((((M.reads.map readT).length:Nat):Int),((0:Int),(b00,mkX i l o b c m s (M.addr,(M.word,(M.any,(M.reads.map readT,(M.writes.map Zt4,(ms,())))))))))))))
   = some (f,(C,(t55,(t56,(b00,mkX i l o b c m t (M.addr,(M.word,(M.any,(M.reads.map readT,(M.writes.map Zt4,(ms,())))))))))))∧RsSp s t M C M.reads.length:=by
 obtain ⟨hsz,hone⟩:=K.sm.nat
 obtain ⟨Z,eZ⟩:∃Z,Z=2^M.addr.toNat*M.word.toNat:=⟨_,rfl⟩
 have key:∃q,expand_Net_L18 (f,(C,(t55,(t56,((((M.reads.map readT).length:Nat):Int),((0:Int),(b00,mkX i l o b c m s (M.addr,(M.word,(M.any,(M.reads.map readT,(M.writes.map Zt4,(ms,())))))))))))))=some q ∧
   ∃t:Mk,q=(f,(C,(t55,(t56,(b00,mkX i l o b c m t (M.addr,(M.word,(M.any,(M.reads.map readT,(M.writes.map Zt4,(ms,())))))))))))∧RsSp s t M C M.reads.length:=by
  unfold expand_Net_L18;delta u21
  refine lp_ex M.reads.length (fun k d=>∃t:Mk,d=(f,(C,(t55,(t56,((((M.reads.map readT).length:Nat):Int),((k:Int),(b00,mkX i l o b c m t (M.addr,(M.word,(M.any,(M.reads.map readT,(M.writes.map Zt4,(ms,())))))))))))))∧RsSp s t M C k) ?_ ?_
   ⟨s,rfl,(Sp.refl s).more (by omega),fun val _ p r h=>by omega,fun G _ _ p r h=>by omega⟩ (Ze8 (by have:=K.rl;omega))
  ·rintro k d hk ⟨t,rfl,A⟩
   have hrl:=K.rl
   have lo:=A.sp.lo
   have hi:=A.sp.hi
   rw [←eZ] at hi hsz
   have hZk:10*Z*k≤10*64*4:=Nat.mul_le_mul (by omega) (by omega)
   have hDl:((M.reads.take k).flatMap fun r=>dataL r.var M.word.toNat).length≤4*64:=by
    have:∀(L:List ReadD),(L.flatMap fun r=>dataL r.var M.word.toNat).length=L.length*M.word.toNat:=by
     intro L
     induction L with
     | nil=>simp
     | cons x L ih=>rw [List.flatMap_cons,List.length_append,ih,Zol,List.length_cons,Nat.succ_mul,Nat.add_comm]
    rw [this,List.length_take]
    exact Nat.mul_le_mul (by omega) (by have:=K.sm.w2;omega)
   have hl:=A.sp.len
   rw [←eZ] at hl
   obtain ⟨r,hr⟩:∃r,M.reads[k]?=some r:=⟨_,List.getElem?_eq_getElem hk⟩
   obtain ⟨r1,r2,r3⟩:=K.ra r (List.mem_of_getElem? hr)
   obtain ⟨t',e,B⟩:=mread_is i l o b c m (s:=t) hr K.sm (hC.up lo) r1 (fun x h=>(r2 x h).up lo) r3 (by omega) (by omega)
   have ek:∀u v:Int,u=v→(some (.inl (f,(C,(t55,(t56,((((M.reads.map readT).length:Nat):Int),(u,(b00,mkX i l o b c m t' (M.addr,(M.word,(M.any,(M.reads.map readT,(M.writes.map Zt4,(ms,())))))))))))))):Option (TL expand_Net_lay18.σs⊕Out expand_Net_outs18))
     = some (.inl (f,(C,(t55,(t56,((((M.reads.map readT).length:Nat):Int),(v,(b00,mkX i l o b c m t' (M.addr,(M.word,(M.any,(M.reads.map readT,(M.writes.map Zt4,(ms,())))))))))))))):=by rintro _ _ rfl;rfl
   refine ⟨_,br_tt (dec_t (show (k:Int)<(((M.reads.map readT).length:Nat):Int) by rw [List.length_map];omega)) (Zba e (ek _ _ (i64n (show (k:Int)+1=((k+1:Nat):Int) by omega) (by omega)))),t',rfl,?_,?_,?_⟩
   ·have:=A.sp.trans B.sp
    rw [Pl.Zd8 hr,List.flatMap_append]
    simp only [List.flatMap_cons,List.flatMap_nil,List.append_nil]
    exact this.more (by rw [Nat.mul_succ (10*_) k];exact Nat.le_refl _)
   ·intro val hs p r' hp hr' j hj
    by_cases q:p<k
    ·exact A.val val (B.sp.sat hs) p r' q hr' j hj
    ·obtain rfl:p=k:=by omega
     rw [hr] at hr'
     cases hr'
     exact B.val val hs j hj
   ·intro G hc hg p r' hp hr' hx j hj
    by_cases q:p<k
    ·exact A.clo G (B.sp.clo hc) hg p r' q hr' hx j hj
    ·obtain rfl:p=k:=by omega
     rw [hr] at hr'
     cases hr'
     exact B.clo G hc hx hg j hj
  ·rintro d ⟨t,rfl,A⟩
   exact ⟨_,br_ff (dec_f (show ¬(M.reads.length:Int)<(((M.reads.map readT).length:Nat):Int) by rw [List.length_map];omega)) rfl,t,rfl,A⟩
 obtain ⟨q,e,t,rfl,A⟩:=key
 exact ⟨t,e,A⟩
end
def needN (L:List MemD):Nat:=L.foldl (fun a m=>a+(szM m+10*szM m*(m.reads.length+m.writes.length))) 0
theorem foldN_snoc (f:MemD→Nat) (L:List MemD) (m:MemD) (a:Nat):(L++[m]).foldl (fun a m=>a+f m) a=L.foldl (fun a m=>a+f m) a+f m:=by rw [List.foldl_append];rfl
structure ExSp (n:NetD) (V k:Nat) (s:Mk) (L:List Zgv) (cv:Nat→Nat):Prop where
 lo:V≤s.v
 hi:s.v≤V+needN (n.mems.take k)
 new:∃N:List AndD,s.a=n.ands++N∧(L.map (·.var)++N.map (·.var)).Perm (n.latches.map (·.var)++((n.mems.take k).flatMap Zur++fr V s.v)) ∧
  ∀x∈N,(LitOk s.v x.a∧LitOk s.v x.b)∧(x.var∈(n.mems.take k).flatMap Zur∨(x.a / 2<x.var∧x.b / 2<x.var))
 len:L.length=n.latches.length+offM n k
 old:∀p,p<n.latches.length→la L p=la n.latches p
 nx:∀p,p<L.length→LitOk s.v (la L p).next
 cell:∀(i:Nat) (M:MemD),i<k→n.mems[i]?=some M→V≤cv i∧cv i+szM M≤s.v∧∀q,q<szM M→(la L (n.latches.length+offM n i+q)).var=((cv i+1+q:Nat):Int)∧(la L (n.latches.length+offM n i+q)).init=(if M.any then 2 else 0)
 rd:∀val,Sat val s.a→∀(i:Nat) (M:MemD),i<k→n.mems[i]?=some M→∀r∈M.reads,∀j:Nat,j<M.word.toNat→val (r.var+(j:Int))=val ((cv i+1+(wordF (r.addr.map (evl val))*M.word.toNat+j):Nat):Int)
 wr:∀val,Sat val s.a→∀(i:Nat) (M:MemD),i<k→n.mems[i]?=some M→∀a,a<2^M.addr.toNat→∀j,j<M.word.toNat→evl val (la L (n.latches.length+offM n i+(a*M.word.toNat+j))).next=wrV val M.writes a j (val ((cv i+1+(a*M.word.toNat+j):Nat):Int))
 clo:∀G,Clo G s.a→(∀(i:Nat) (M:MemD),i<k→n.mems[i]?=some M→∀q,q<szM M→G ((cv i+1+q:Nat):Int))→∀(i:Nat) (M:MemD),i<k→n.mems[i]?=some M→∀r∈M.reads,(∀x∈r.addr,GL G x)→∀j:Nat,j<M.word.toNat→G (r.var+(j:Int))
theorem evl_cell (val:Int→Bool) (v:Nat):evl val (2*((v+1:Nat):Int))=val ((v+1:Nat):Int):=by
 unfold evl
 rw [show 2*((v+1:Nat):Int) / 2=((v+1:Nat):Int) by omega,decide_eq_false (show ¬2*((v+1:Nat):Int) % 2=1 by omega),decide_eq_true (show (0:Int)<((v+1:Nat):Int) by omega)]
 simp
theorem la_app_l {A B:List Zgv} {p:Nat} (h:p<A.length):la (A++B) p=la A p:=by
 unfold la;rw [List.getD_eq_getElem?_getD,List.getD_eq_getElem?_getD,List.getElem?_append_left h]
theorem la_app_r {A B:List Zgv} {p:Nat}:la (A++B) (A.length+p)=la B p:=by
 unfold la;rw [List.getD_eq_getElem?_getD,List.getD_eq_getElem?_getD,List.getElem?_append_right (by omega),Nat.add_sub_cancel_left]
theorem la_latN {v n:Nat} {st:Int} {q:Nat} (h:q<n):la (latN v n st) q=⟨((v+1+q:Nat):Int),0,st⟩:=by
 unfold la latN;rw [List.getD_eq_getElem?_getD,List.getElem?_map,List.getElem?_range h];rfl
theorem la_ext {A B:List Zgv} (h:A.length=B.length) (hv:∀p,(la A p).var=(la B p).var):A.map (·.var)=B.map (·.var):=by
 apply List.ext_getElem?
 intro p
 rw [List.getElem?_map,List.getElem?_map]
 rcases Nat.lt_or_ge p A.length with q | q
 ·have e1:=List.getElem?_eq_getElem q
  have e2:=List.getElem?_eq_getElem (show p<B.length by omega)
  have:=hv p
  unfold la at this
  rw [List.getD_eq_getElem?_getD,List.getD_eq_getElem?_getD,e1,e2] at this
  rw [e1,e2]
  exact congrArg some this
 ·rw [List.getElem?_eq_none q,List.getElem?_eq_none (by omega)]
theorem latN_var (v n:Nat) (st:Int):(latN v n st).map (·.var)=fr v (v+n):=by
 unfold latN fr;rw [List.map_map,Nat.add_sub_cancel_left];rfl
end Go.Proofs.Ytnocaehijdmkkaa.V
end
section
namespace Go.Proofs.Ytnocaehijdmkkaa.V
open Go Go.RowKit
open Go.Proofs.Ytnocaehijdmkkaa.Pl
set_option maxRecDepth 10000
section
variable {n:NetD} {V:Nat} (hs:Snd n V)
include hs
theorem mem_lits {M:MemD} (hM:M∈n.mems):∀l∈memL M,LitOk V l:=fun l hl=>hs.lits l (by
 unfold Zch
 simp only [List.mem_append,List.mem_flatMap]
 exact .inl (.inr ⟨M,hM,hl⟩))
theorem mem_ok {M:MemD} (hM:M∈n.mems) (sm:Small M):MemOk V M:=by
 obtain ⟨a1,a2,w1,w2,hr,hw,rl,wl⟩:=hs.mems M hM
 have L:=mem_lits hs hM
 unfold memL at L
 refine ⟨sm,rl,wl,?_,?_,?_,?_,?_,?_⟩
 ·intro r h
  refine ⟨by have:=hr r h;omega,fun x hx=>L x (List.mem_append_left _ (List.mem_flatMap.2 ⟨r,h,hx⟩)),?_⟩
  have:=hs.rng r.var (by
   unfold Zbm Zur
   simp only [List.mem_append,List.mem_flatMap]
   refine .inl (.inr ⟨M,hM,r,h,?_⟩)
   unfold dataL
   exact List.mem_map.2 ⟨0,List.mem_range.2 (by omega),by omega⟩)
  have v2:=hs.v2
  omega
 ·intro w h;have:=(hw w h).1;omega
 ·intro w h;have:=(hw w h).2;omega
 ·intro w h
  exact L _ (List.mem_append_right _ (List.mem_flatMap.2 ⟨w,h,by unfold Za4e;simp⟩))
 ·intro w h x hx
  exact L _ (List.mem_append_right _ (List.mem_flatMap.2 ⟨w,h,by unfold Za4e;simp [hx]⟩))
 ·intro w h x hx
  exact L _ (List.mem_append_right _ (List.mem_flatMap.2 ⟨w,h,by unfold Za4e;simp [hx]⟩))
theorem lat_lits:∀p,p<n.latches.length→LitOk V (la n.latches p).next:=by
 intro p hp
 have e:=List.getElem?_eq_getElem hp
 have e2:la n.latches p=n.latches[p]:=by unfold la;rw [List.getD_eq_getElem?_getD,e];rfl
 rw [e2]
 refine hs.lits _ ?_
 unfold Zch
 simp only [List.mem_append,List.mem_map]
 exact .inl (.inl (.inl (.inl (.inl ⟨_,List.getElem_mem hp,rfl⟩))))
end
theorem offM_mono (n:NetD):∀{i k:Nat},i≤k→offM n i≤offM n k:=by
 intro i k h
 induction h with
 | refl=>exact Nat.le_refl _
 | step h ih=>
  rename_i m
  show offM n i≤offM n (m+1)
  rcases Nat.lt_or_ge m n.mems.length with q | q
  ·rw [offM_succ n (List.getElem?_eq_getElem q)];omega
  ·have:offM n (m+1)=offM n m:=by unfold offM;rw [List.take_of_length_le q,List.take_of_length_le (by omega)]
   omega
theorem needN_snoc (L:List MemD) (m:MemD):needN (L++[m])=needN L+(szM m+10*szM m*(m.reads.length+m.writes.length)):=by unfold needN;exact foldN_snoc _ L m 0
theorem needN_mono (n:NetD):∀k,needN (n.mems.take k)≤needN n.mems:=by
 intro k
 have:∀(L M:List MemD) (a:Nat),L.foldl (fun a m=>a+(szM m+10*szM m*(m.reads.length+m.writes.length))) a≤(L++M).foldl (fun a m=>a+(szM m+10*szM m*(m.reads.length+m.writes.length))) a:=by
  intro L M a
  rw [List.foldl_append]
  generalize List.foldl _ a L=b
  induction M generalizing b with
  | nil=>exact Nat.le_refl _
  | cons x M ih=>rw [List.foldl_cons];exact Nat.le_trans (by omega) (ih _)
 have h:=this (n.mems.take k) (n.mems.drop k) 0
 rw [List.take_append_drop] at h
 exact h
theorem ex_step {n:NetD} {V k:Nat} {M:MemD} (hMk:n.mems[k]?=some M) (sm:Small M) {s t1 t2:Mk} {L L2:List Zgv} {cv:Nat→Nat} (P:ExSp n V k s L cv)
  (R:RsSp ⟨s.v+szM M,s.a⟩ t1 M (cellsC s.v M.word.toNat (2^M.addr.toNat)) M.reads.length)
  (Q:WrSp t1 t2 M.writes (cellsC s.v M.word.toNat (2^M.addr.toNat)) (L++latN s.v (szM M) (if M.any then 2 else 0)) L2 L.length M.addr.toNat M.word.toNat (2^M.addr.toNat))
  (Q2:Sp t1 t2 (10*(2^M.addr.toNat*M.word.toNat)*M.writes.length) []) (hok:MemOk V M) :
  ExSp n V (k+1) t2 L2 (fun i=>if i=k then s.v else cv i):=by
 obtain ⟨Z,eZ⟩:∃Z,Z=szM M:=⟨_,rfl⟩
 obtain ⟨W,eW⟩:∃W,W=M.word.toNat:=⟨_,rfl⟩
 obtain ⟨N0,eN⟩:∃N0,N0=2^M.addr.toNat:=⟨_,rfl⟩
 obtain ⟨st,est⟩:∃st:Int,st=(if M.any then 2 else 0):=⟨_,rfl⟩
 have hZ:Z=N0*W:=by rw [eZ,eN,eW];rfl
 rw [←est] at Q
 have S:=R.sp.trans Q2
 rw [List.append_nil,List.take_length] at S
 have S1:=R.sp.lo
 have S2:=Q2.lo
 have Shi:=S.hi
 have S1':s.v+szM M≤t1.v:=S1
 have P1:=P.lo
 have P2:=P.hi
 have hlo:s.v≤t2.v:=by omega
 have hsat:∀val,Sat val t2.a→Sat val s.a:=fun val h=>S.sat h
 have hclo:∀G,Clo G t2.a→Clo G s.a:=fun G h=>S.clo h
 have hL1:(L++latN s.v (szM M) st).length=L.length+Z:=by rw [List.length_append,latN_len,eZ]
 have hlen:=P.len
 have hoff:=offM_succ n hMk
 have htk:n.mems.take (k+1)=n.mems.take k++[M]:=Pl.Zd8 hMk
 have hvar2:L2.map (·.var)=L.map (·.var)++fr s.v (s.v+Z):=by
  rw [la_ext Q.len (fun p=>(Q.vi p).1),List.map_append,latN_var,eZ]
 have lowv:∀p,p<L.length→(la L2 p).var=(la L p).var∧(la L2 p).init=(la L p).init∧(la L2 p).next=(la L p).next:=by
  intro p hp
  obtain ⟨h1,h2⟩:=Q.vi p
  have h3:=Q.out p (.inl hp)
  rw [la_app_l hp] at h1 h2 h3
  exact ⟨h1,h2,h3⟩
 have hcell:∀(i:Nat) (M':MemD),i<k→n.mems[i]?=some M'→n.latches.length+offM n i+szM M'≤L.length:=by
  intro i M' hi hM'
  have h1:=offM_succ n hM'
  have h2:=offM_mono n (show i+1≤k from hi)
  omega
 have lt_of:∀{M':MemD} {a j:Nat},a<2^M'.addr.toNat→j<M'.word.toNat→a*M'.word.toNat+j<szM M':=by
  intro M' a j ha hj
  have:=Nat.mul_le_mul_right M'.word.toNat (show a+1≤2^M'.addr.toNat from ha)
  rw [Nat.succ_mul a] at this
  unfold szM;omega
 have wlt:∀(val:Int→Bool) (r:ReadD),r∈M.reads→wordF (r.addr.map (evl val))<2^M.addr.toNat:=by
  intro val r hr
  have:=Zb74 (r.addr.map (evl val))
  rw [List.length_map,(hok.ra r hr).1] at this
  exact this
 refine ⟨by omega,?_,?_,?_,?_,?_,?_,?_,?_,?_⟩
 ·rw [htk,needN_snoc]
  have:10*(2^M.addr.toNat*M.word.toNat)*M.reads.length+10*(2^M.addr.toNat*M.word.toNat)*M.writes.length=10*szM M*(M.reads.length+M.writes.length):=by
   rw [Nat.mul_add];rfl
  rw [this] at Shi
  have Shi:t2.v≤s.v+szM M+10*szM M*(M.reads.length+M.writes.length):=Shi
  omega
 ·obtain ⟨N,e1,p1,l1⟩:=P.new
  obtain ⟨N',e2,p2,l2⟩:=S.new
  refine ⟨N++N',by rw [e2];show s.a++N'=_;rw [e1,List.append_assoc],?_,?_⟩
  ·rw [hvar2,htk,List.flatMap_append]
   simp only [List.flatMap_cons,List.flatMap_nil,List.append_nil,List.map_append]
   have f1:fr V t2.v=fr V s.v++(fr s.v (s.v+Z)++fr (s.v+Z) t2.v):=by rw [fr_add (by omega) (by omega),fr_add P1 (by omega)]
   rw [f1]
   rw [←eZ] at p2
   rw [List.perm_iff_count]
   intro x
   have c1:=p1.count_eq x
   have c2:=p2.count_eq x
   have c2:List.count x (N'.map (·.var))=List.count x ((M.reads.flatMap fun r=>dataL r.var M.word.toNat)++fr (s.v+Z) t2.v):=c2
   have c3:List.count x (Zur M)=List.count x (M.reads.flatMap fun r=>dataL r.var M.word.toNat):=rfl
   simp only [List.count_append] at c1 c2 ⊢
   omega
  ·intro x hx
   rw [htk,List.flatMap_append]
   rcases List.mem_append.1 hx with hx | hx
   ·obtain ⟨⟨q1,q2⟩,q3⟩:=l1 x hx
    exact ⟨⟨q1.up hlo,q2.up hlo⟩,q3.imp (fun h=>List.mem_append_left _ h) id⟩
   ·obtain ⟨q1,q3⟩:=l2 x hx
    refine ⟨q1,q3.imp (fun h=>List.mem_append_right _ ?_) id⟩
    simp only [List.flatMap_cons,List.flatMap_nil,List.append_nil]
    exact h
 ·rw [Q.len,hL1,hlen,hoff,eZ];omega
 ·intro p hp
  obtain ⟨h1,h2,h3⟩:=lowv p (by omega)
  have h4:=P.old p hp
  rw [←h4]
  generalize la L2 p=x at h1 h2 h3
  generalize la L p=y at h1 h2 h3
  obtain ⟨_,_,_⟩:=x
  obtain ⟨_,_,_⟩:=y
  simp only at h1 h2 h3
  rw [h1,h2,h3]
 ·intro p hp
  rw [Q.len,hL1] at hp
  by_cases q:p<L.length
  ·rw [(lowv p q).2.2];exact (P.nx p q).up hlo
  ·have w1:0<W:=by have:=sm.w1;omega
   have hp2:p - L.length<N0*W:=by omega
   have ha:(p - L.length) / W<N0:=by rw [Nat.div_lt_iff_lt_mul w1];exact hp2
   have hj:=Nat.mod_lt (p - L.length) w1
   have hpe:L.length+(p - L.length) / W*W+(p - L.length) % W=p:=by
    have:=Nat.div_add_mod (p - L.length) W
    rw [Nat.mul_comm] at this
    omega
   have:=(Q.nxt ((p - L.length) / W) (by rw [←eN];exact ha) ((p - L.length) % W) (by rw [←eW];exact hj)).1
   rw [←eW,hpe] at this
   exact this
 ·intro i M' hi hM'
  by_cases q:i<k
  ·obtain ⟨h1,h2,h3⟩:=P.cell i M' q hM'
   have hb:=hcell i M' q hM'
   simp only [if_neg (show ¬i=k by omega)]
   refine ⟨h1,by omega,fun q hq=>?_⟩
   obtain ⟨g1,g2,_⟩:=lowv (n.latches.length+offM n i+q) (by omega)
   rw [g1,g2];exact h3 q hq
  ·obtain rfl:i=k:=by omega
   rw [hMk] at hM'
   cases hM'
   simp only [if_pos]
   refine ⟨P1,by omega,fun q hq=>?_⟩
   obtain ⟨g1,g2⟩:=Q.vi (n.latches.length+offM n i+q)
   rw [←hlen,la_app_r,la_latN hq] at g1 g2
   rw [←hlen]
   exact ⟨g1,g2.trans est⟩
 ·intro val hsa i M' hi hM' r hr j hj
  by_cases q:i<k
  ·simp only [if_neg (show ¬i=k by omega)]
   exact P.rd val (hsat val hsa) i M' q hM' r hr j hj
  ·obtain rfl:i=k:=by omega
   rw [hMk] at hM'
   cases hM'
   simp only [if_pos]
   obtain ⟨p,hp⟩:=List.getElem?_of_mem hr
   have:=R.val val (Q2.sat hsa) p r (Zhb hp) hp j hj
   rw [this,lii_cells (wlt val r hr) hj,show s.v+wordF (r.addr.map (evl val))*M.word.toNat+1+j=(s.v+wordF (r.addr.map (evl val))*M.word.toNat+j)+1 by omega,evl_cell]
   congr 2
   omega
 ·intro val hsa i M' hi hM' a ha j hj
  have hlt:=lt_of ha hj
  by_cases q:i<k
  ·simp only [if_neg (show ¬i=k by omega)]
   have hb:=hcell i M' q hM'
   rw [(lowv (n.latches.length+offM n i+(a*M'.word.toNat+j)) (by omega)).2.2]
   exact P.wr val (hsat val hsa) i M' q hM' a ha j hj
  ·obtain rfl:i=k:=by omega
   rw [hMk] at hM'
   cases hM'
   simp only [if_pos]
   have:=(Q.nxt a ha j hj).2 val hsa
   rw [lii_cells ha hj,show s.v+a*M.word.toNat+1+j=(s.v+a*M.word.toNat+j)+1 by omega,evl_cell] at this
   rw [←hlen,show L.length+(a*M.word.toNat+j)=L.length+a*M.word.toNat+j by omega,this]
   congr 3
   omega
 ·intro G hc hg i M' hi hM' r hr hx j hj
  by_cases q:i<k
  ·refine P.clo G (hclo G hc) (fun i' M'' hi' hM'' q' hq'=>?_) i M' q hM' r hr hx j hj
   have:=hg i' M'' (by omega) hM'' q' hq'
   simp only [if_neg (show ¬i'=k by omega)] at this
   exact this
  ·obtain rfl:i=k:=by omega
   rw [hMk] at hM'
   cases hM'
   obtain ⟨p,hp⟩:=List.getElem?_of_mem hr
   refine R.clo G (Q2.clo hc) ?_ p r (Zhb hp) hp hx j hj
   intro row hrow x hx2
   obtain ⟨a,ha,rfl⟩:=List.mem_map.1 hrow
   obtain ⟨j',hj',rfl⟩:=List.mem_map.1 hx2
   have ha:=List.mem_range.1 ha
   have hj':=List.mem_range.1 hj'
   refine .inr ?_
   rw [show (2:Int)*((s.v+a*M.word.toNat+1+j':Nat):Int) / 2=((s.v+1+(a*M.word.toNat+j'):Nat):Int) by omega]
   have:=hg i M (by omega) hMk (a*M.word.toNat+j') (lt_of ha hj')
   simp only [if_pos] at this
   exact this
section
variable {n:NetD} {V:Nat} (hs:Snd n V)
include hs
theorem ex_13 (hsm:∀m∈n.mems,Small m) (hneed:V+needN n.mems≤10000) :
  ∃(s:Mk) (L:List Zgv) (cv:Nat→Nat),expand_Net_L13 ((((n.mems.map memT).length:Nat):Int),((0:Int),((0:Int),mkX n.inputs (n.latches.map latT) n.outputs n.bads n.constraints [] ⟨V,n.ands⟩ (n.mems.map memT,()))))
   = some ((0:Int),mkT n.inputs (L.map latT) n.outputs n.bads n.constraints [] s)∧ExSp n V n.mems.length s L cv:=by
 have hM:=hs.lens.2.2.2.2
 have hla:=hs.lens.2.1
 have han:=hs.lens.2.2.1
 have key:∃q,expand_Net_L13 ((((n.mems.map memT).length:Nat):Int),((0:Int),((0:Int),mkX n.inputs (n.latches.map latT) n.outputs n.bads n.constraints [] ⟨V,n.ands⟩ (n.mems.map memT,()))))=some q ∧
   ∃(s:Mk) (L:List Zgv) (cv:Nat→Nat),q=((0:Int),mkT n.inputs (L.map latT) n.outputs n.bads n.constraints [] s)∧ExSp n V n.mems.length s L cv:=by
  unfold expand_Net_L13;delta u12
  refine lp_ex n.mems.length (fun k d=>∃(s:Mk) (L:List Zgv) (cv:Nat→Nat),d=((((n.mems.map memT).length:Nat):Int),((k:Int),((0:Int),mkX n.inputs (L.map latT) n.outputs n.bads n.constraints [] s (n.mems.map memT,()))))∧ExSp n V k s L cv) ?_ ?_
   ⟨⟨V,n.ands⟩,n.latches,fun _=>0,rfl,?_⟩ (Ze8 (by omega))
  ·rintro k d hk ⟨s,L,cv,rfl,P⟩
   obtain ⟨M,hMk⟩:∃M,n.mems[k]?=some M:=⟨_,List.getElem?_eq_getElem hk⟩
   have hMm:=List.mem_of_getElem? hMk
   have sm:=hsm M hMm
   have ok:=mem_ok hs hMm sm
   obtain ⟨hsz,hone⟩:=sm.nat
   have hlo:=P.lo
   have hhi:=P.hi
   have hnm:=needN_mono n k
   have hlen:=P.len
   have hoff:=offM_le n k
   have hoL:offL n.mems≤4*64:=by
    have:∀(Q:List MemD) (a:Nat),(∀m∈Q,Small m)→Q.foldl (fun a m=>a+szM m) a≤a+Q.length*64:=by
     intro Q
     induction Q with
     | nil=>intro a _;simp
     | cons x Q ih=>
      intro a h
      have h1:=ih (a+szM x) (fun m hm=>h m (List.mem_cons_of_mem _ hm))
      have h2:=(h x (List.mem_cons_self ..)).nat.1
      have h2:szM x≤64:=h2
      rw [List.foldl_cons,List.length_cons,Nat.succ_mul];omega
    have:=this n.mems 0 hsm
    have h4:n.mems.length*64≤4*64:=Nat.mul_le_mul_right _ hM
    unfold offL;omega
   have hal:s.a.length≤20000:=by
    obtain ⟨N,e,p,_⟩:=P.new
    have h1:=p.length_eq
    simp only [List.length_append,List.length_map] at h1
    have h2:(fr V s.v).length=s.v - V:=by simp [fr]
    have h3:((n.mems.take k).flatMap Zur).length≤4*256:=by
     have:∀(Q:List MemD),(∀m∈Q,Small m∧m.reads.length≤4)→(Q.flatMap Zur).length≤Q.length*256:=by
      intro Q
      induction Q with
      | nil=>intro _;simp
      | cons x Q ih=>
       intro h
       have h1:=ih (fun m hm=>h m (List.mem_cons_of_mem _ hm))
       obtain ⟨h2,h5⟩:=h x (List.mem_cons_self ..)
       have h3:∀(R:List ReadD),(R.flatMap fun r=>dataL r.var x.word.toNat).length=R.length*x.word.toNat:=by
        intro R
        induction R with
        | nil=>simp
        | cons y R ih2=>rw [List.flatMap_cons,List.length_append,ih2,Zol,List.length_cons,Nat.succ_mul,Nat.add_comm]
       have h4:(Zur x).length≤4*64:=by
        unfold Zur;rw [h3];exact Nat.mul_le_mul h5 (by have:=h2.w2;omega)
       rw [List.flatMap_cons,List.length_append,List.length_cons,Nat.succ_mul];omega
     have h5:=this (n.mems.take k) (fun m hm=>⟨hsm m (List.mem_of_mem_take hm),(hs.mems m (List.mem_of_mem_take hm)).2.2.2.2.2.2.1⟩)
     have h6:(n.mems.take k).length≤4:=by rw [List.length_take];omega
     have h7:=Nat.mul_le_mul_right 256 h6
     omega
    rw [e,List.length_append];omega
   have okV:=ok.up hlo
   have g:gt Za1 (n.mems.map memT) (k:Int)=memT M:=gt_at (σ:=Za1) (by rw [List.getElem?_map,hMk];rfl)
   have i1:inb (k:Int) (List.length (n.mems.map memT))=true:=Zar ⟨by omega,by rw [List.length_map];omega⟩
   have e5:=mcells_is n.inputs n.outputs n.bads n.constraints L [] (M:=M) sm (s:=s) (by omega) (by omega)
   have hszM:szM M=2^M.addr.toNat*M.word.toNat:=rfl
   rw [←hszM] at e5
   have C0:CellsOk M (s.v+szM M) (cellsC s.v M.word.toNat (2^M.addr.toNat)):=cells_okC s.v
   obtain ⟨t1,e18,R⟩:=ex_18 n.inputs n.outputs n.bads n.constraints ((L++latN s.v (szM M) (if M.any then 2 else 0)).map latT) [] (s:=⟨s.v+szM M,s.a⟩) (((L.map latT).length:Nat):Int) (((n.mems.map memT).length:Nat):Int) (k:Int) 0 (n.mems.map memT)
    (M:=M) (okV.up (by show s.v≤s.v+szM M;omega)) C0 (by show s.v+szM M≤_;rw [hszM];omega) (by show s.a.length≤_;omega)
   have S1:=R.sp.lo
   have S1:s.v+szM M≤t1.v:=S1
   have H1:=R.sp.hi
   have H1:t1.v≤s.v+szM M+10*(2^M.addr.toNat*M.word.toNat)*M.reads.length:=H1
   have hrl:=ok.rl
   have hb1:10*(2^M.addr.toNat*M.word.toNat)*M.reads.length≤640*4:=Nat.mul_le_mul (by omega) hrl
   have A1:=R.sp.len
   have A1:t1.a.length≤s.a.length+((M.reads.take M.reads.length).flatMap fun r=>dataL r.var M.word.toNat).length+10*(2^M.addr.toNat*M.word.toNat)*M.reads.length:=A1
   have hD:((M.reads.take M.reads.length).flatMap fun r=>dataL r.var M.word.toNat).length≤4*64:=by
    have h3:∀(R:List ReadD),(R.flatMap fun r=>dataL r.var M.word.toNat).length=R.length*M.word.toNat:=by
     intro R
     induction R with
     | nil=>simp
     | cons y R ih2=>rw [List.flatMap_cons,List.length_append,ih2,Zol,List.length_cons,Nat.succ_mul,Nat.add_comm]
    rw [List.take_length,h3];exact Nat.mul_le_mul hrl (by have:=sm.w2;omega)
   have hLl:(L++latN s.v (szM M) (if M.any then 2 else 0)).length=L.length+szM M:=by rw [List.length_append,latN_len]
   obtain ⟨t2,L2,e3,Q,Q2⟩:=mwrite_is n.inputs n.outputs n.bads n.constraints [] (s:=t1) (M:=M) sm (L++latN s.v (szM M) (if M.any then 2 else 0)) L.length (C0.up S1) (okV.ws.up (by omega)) ok.wl (by omega) (by rw [hLl,hszM];exact Nat.le_refl _) (by rw [hLl,hszM];omega) (by omega) (by omega)
   have e5':nexpand_expander__cells_FF ((gt Za1 (n.mems.map memT) (k:Int)).1,((gt Za1 (n.mems.map memT) (k:Int)).2.1,((gt Za1 (n.mems.map memT) (k:Int)).2.2.1,((gt Za1 (n.mems.map memT) (k:Int)).2.2.2.1,((gt Za1 (n.mems.map memT) (k:Int)).2.2.2.2.1,mkT n.inputs (L.map latT) n.outputs n.bads n.constraints [] s)))))
     = some (cellsC s.v M.word.toNat (2^M.addr.toNat),mkC _ n.inputs n.outputs n.bads n.constraints [] (s.a.map andT) (s.v+szM M) (L++latN s.v (szM M) (if M.any then 2 else 0)) ()):=by rw [g];exact e5
   have e18':expand_Net_L18 ((((L.map latT).length:Nat):Int),(cellsC s.v M.word.toNat (2^M.addr.toNat),((((n.mems.map memT).length:Nat):Int),((k:Int),(((List.length (gt Za1 (n.mems.map memT) (k:Int)).2.2.2.1:Nat):Int),((0:Int),((0:Int),mkX n.inputs ((L++latN s.v (szM M) (if M.any then 2 else 0)).map latT) n.outputs n.bads n.constraints [] ⟨s.v+szM M,s.a⟩ ((gt Za1 (n.mems.map memT) (k:Int)).1,((gt Za1 (n.mems.map memT) (k:Int)).2.1,((gt Za1 (n.mems.map memT) (k:Int)).2.2.1,((gt Za1 (n.mems.map memT) (k:Int)).2.2.2.1,((gt Za1 (n.mems.map memT) (k:Int)).2.2.2.2.1,(n.mems.map memT,())))))))))))))
     = some ((((L.map latT).length:Nat):Int),(cellsC s.v M.word.toNat (2^M.addr.toNat),((((n.mems.map memT).length:Nat):Int),((k:Int),((0:Int),mkX n.inputs ((L++latN s.v (szM M) (if M.any then 2 else 0)).map latT) n.outputs n.bads n.constraints [] t1 (M.addr,(M.word,(M.any,(M.reads.map readT,(M.writes.map Zt4,(n.mems.map memT,()))))))))))):=by rw [g];exact e18
   have e3':nexpand_expander__write_FF (M.addr,(M.word,(M.any,(M.reads.map readT,(M.writes.map Zt4,(cellsC s.v M.word.toNat (2^M.addr.toNat),((((L.map latT).length:Nat):Int),mkT n.inputs ((L++latN s.v (szM M) (if M.any then 2 else 0)).map latT) n.outputs n.bads n.constraints [] t1)))))))=some (mkT n.inputs (L2.map latT) n.outputs n.bads n.constraints [] t2):=by
    rw [List.length_map];exact e3
   have ek:∀u v:Int,u=v→(some (.inl ((((n.mems.map memT).length:Nat):Int),(u,((0:Int),mkX n.inputs (L2.map latT) n.outputs n.bads n.constraints [] t2 (n.mems.map memT,()))))):Option (TL expand_Net_lay13.σs⊕Out expand_Net_outs13))
     = some (.inl ((((n.mems.map memT).length:Nat):Int),(v,((0:Int),mkX n.inputs (L2.map latT) n.outputs n.bads n.constraints [] t2 (n.mems.map memT,()))))):=by rintro _ _ rfl;rfl
   exact ⟨_,br_tt (dec_t (show (k:Int)<(((n.mems.map memT).length:Nat):Int) by rw [List.length_map];omega)) (Zaj i1 (Zba e5' (Zba e18' (Zba e3' (ek _ _ (i64n (show (k:Int)+1=((k+1:Nat):Int) by omega) (by omega))))))),t2,L2,_,rfl,ex_step hMk sm P R Q Q2 ok⟩
  ·rintro d ⟨s,L,cv,rfl,P⟩
   exact ⟨_,br_ff (dec_f (show ¬(n.mems.length:Int)<(((n.mems.map memT).length:Nat):Int) by rw [List.length_map];omega)) rfl,s,L,cv,rfl,P⟩
  ·refine ⟨Nat.le_refl _,Nat.le_add_right _ _,⟨[],by simp,?_,fun x h=>by cases h⟩,by show _=_+offM n 0;rfl,fun p _=>rfl,lat_lits hs,fun i M h=>absurd h (Nat.not_lt_zero _),fun _ _ i M h=>absurd h (Nat.not_lt_zero _),fun _ _ i M h=>absurd h (Nat.not_lt_zero _),fun _ _ _ i M h=>absurd h (Nat.not_lt_zero _)⟩
   show (n.latches.map (fun x:Zgv=>x.var)++[]).Perm (n.latches.map (fun x:Zgv=>x.var)++(([]:List MemD).flatMap Zur++fr V V))
   rw [fr_same];exact List.Perm.refl _
 obtain ⟨q,e,s,L,cv,rfl,P⟩:=key
 exact ⟨s,L,cv,e,P⟩
end
def expN (n:NetD) (s:Mk) (L:List Zgv):NetD:=⟨(s.v:Int),n.inputs,L,n.outputs,n.bads,n.constraints,[],s.a⟩
theorem fr_mem {lo hi:Nat} {x:Int}:x∈fr lo hi↔(lo:Int)<x∧x≤(hi:Int):=by
 unfold fr
 constructor
 ·intro h
  obtain ⟨i,hi,rfl⟩:=List.mem_map.1 h
  have:=List.mem_range.1 hi
  omega
 ·intro h
  exact List.mem_map.2 ⟨(x - lo - 1).toNat,List.mem_range.2 (by omega),by omega⟩
theorem fr_nodup (lo hi:Nat):(fr lo hi).Nodup:=by
 unfold fr
 unfold List.Nodup
 rw [List.pairwise_map]
 exact List.Pairwise.imp (fun h e=>h (by omega)) (List.nodup_range (n:=hi - lo))
theorem fr_len (lo hi:Nat):(fr lo hi).length=hi - lo:=by simp [fr]
section
variable {n:NetD} {V:Nat} (hs:Snd n V) (h0:Zj3 n=0) (ha:acyB (ndL n) V=true) {s:Mk} {L:List Zgv} {cv:Nat→Nat} (P:ExSp n V n.mems.length s L cv) (hv:s.v≤2000)
include hs P
end
section
variable {n:NetD} {V:Nat} (h0:Zj3 n=0) (ha:acyB (ndL n) V=true) {s:Mk} {L:List Zgv} {cv:Nat→Nat} (P:ExSp n V n.mems.length s L cv) (hv:s.v≤2000)
include P
theorem exp_perm:(Zbm (expN n s L)).Perm (Zbm n++fr V s.v):=by
 obtain ⟨N,e,p,_⟩:=P.new
 rw [List.take_length] at p
 unfold Zbm expN
 simp only [e,List.flatMap_nil,List.append_nil,List.map_append]
 rw [List.perm_iff_count]
 intro x
 have c:=p.count_eq x
 simp only [List.count_append] at c ⊢
 omega
end
section
variable {n:NetD} {V:Nat} (hs:Snd n V) (h0:Zj3 n=0) (ha:acyB (ndL n) V=true) {s:Mk} {L:List Zgv} {cv:Nat→Nat} (P:ExSp n V n.mems.length s L cv) (hv:s.v≤2000)
include hs P
include hv
theorem exp_snd:Snd (expN n s L) s.v:=by
 have hp:=exp_perm P
 have hlo:=P.lo
 have hlen:(Zbm (expN n s L)).length≤2000∧(Zbm (expN n s L)).Nodup∧∀x∈Zbm (expN n s L),1≤x∧x≤(s.v:Int):=by
  have hn:(Zbm n++fr V s.v).Nodup:=by
   rw [List.nodup_append]
   refine ⟨hs.nodup,fr_nodup _ _,fun a h b h2 e=>?_⟩
   have h3:=(hs.rng a h).2
   have h4:=(fr_mem.1 h2).1
   omega
  have hr:∀x∈Zbm n++fr V s.v,1≤x∧x≤(s.v:Int):=by
   intro x hx
   rcases List.mem_append.1 hx with h | h
   ·have:=hs.rng x h;omega
   ·have:=fr_mem.1 h;omega
  refine ⟨?_,hp.nodup_iff.2 hn,fun x hx=>hr x (hp.mem_iff.1 hx)⟩
  have:=(count_of s.v _ (hp.nodup_iff.2 hn) (fun x hx=>hr x (hp.mem_iff.1 hx))).1
  omega
 obtain ⟨h1,h2,h3⟩:=hlen
 obtain ⟨l1,l2,l3,l4,l5⟩:=hs.lens
 have hd:(Zbm (expN n s L)).length=n.inputs.length+L.length+s.a.length:=by
  unfold Zbm expN;simp;omega
 have hup:∀l,LitOk V l→LitOk s.v l:=fun l h=>h.up hlo
 obtain ⟨N,e,p,lN⟩:=P.new
 refine ⟨rfl,hv,h2,h3,?_,(fun m hm=>by cases hm),?_,⟨l1,by show L.length≤_;omega,by show s.a.length≤_;omega,l4,Nat.zero_le _⟩⟩
 ·intro l hl
  unfold Zch expN at hl
  simp only [List.flatMap_nil,List.append_nil,List.mem_append,List.mem_map,List.mem_flatMap] at hl
  have hold:l∈n.outputs∨l∈n.bads∨l∈n.constraints→LitOk s.v l:=by
   intro q
   refine hup l (hs.lits l ?_)
   unfold Zch
   simp only [List.mem_append]
   rcases q with q | q | q
   ·exact .inl (.inl (.inl (.inl (.inr q))))
   ·exact .inl (.inl (.inl (.inr q)))
   ·exact .inl (.inl (.inr q))
  rcases hl with (((⟨x,hx,rfl⟩ | h) | h) | h) | ⟨x,hx,h⟩
  ·obtain ⟨p,hp⟩:=List.getElem?_of_mem hx
   have hpl:=Zhb hp
   have:=P.nx p hpl
   have e2:la L p=x:=by unfold la;rw [List.getD_eq_getElem?_getD,hp];rfl
   rw [e2] at this
   exact this
  ·exact hold (.inl h)
  ·exact hold (.inr (.inl h))
  ·exact hold (.inr (.inr h))
  ·rw [e] at hx
   unfold andL at h
   simp only [List.mem_cons,List.not_mem_nil,or_false] at h
   have key:LitOk s.v x.a∧LitOk s.v x.b:=by
    rcases List.mem_append.1 hx with q | q
    ·have hm:∀y∈andL x,LitOk V y:=fun y hy=>hs.lits y (by
      unfold Zch
      simp only [List.mem_append,List.mem_flatMap]
      exact .inr ⟨x,q,hy⟩)
     unfold andL at hm
     exact ⟨(hm x.a (by simp)).up hlo,(hm x.b (by simp)).up hlo⟩
    ·exact (lN x q).1
   rcases h with rfl | rfl
   ·exact key.1
   ·exact key.2
 ·intro l hl
  obtain ⟨p,hp⟩:=List.getElem?_of_mem (show l∈L from hl)
  have hpl:=Zhb hp
  have e2:la L p=l:=by unfold la;rw [List.getD_eq_getElem?_getD,hp];rfl
  have hlen2:=P.len
  by_cases q:p<n.latches.length
  ·have h4:=P.old p q
   rw [e2] at h4
   have e3:=List.getElem?_eq_getElem q
   have e4:la n.latches p=n.latches[p]:=by unfold la;rw [List.getD_eq_getElem?_getD,e3];rfl
   rw [h4,e4]
   exact hs.init _ (List.getElem_mem q)
  ·-- a cell's latch
   have hfind:∀k,k≤n.mems.length→p - n.latches.length<offM n k→∃(i:Nat) (M:MemD),i<k∧n.mems[i]?=some M∧offM n i≤p - n.latches.length∧p - n.latches.length<offM n i+szM M:=by
    intro k
    induction k with
    | zero=>intro _ h;exact absurd h (by show ¬_<0;omega)
    | succ k ih=>
     intro hk h
     have hM:=List.getElem?_eq_getElem (show k<n.mems.length by omega)
     by_cases r:p - n.latches.length<offM n k
     ·obtain ⟨i,M,a,b⟩:=ih (by omega) r
      exact ⟨i,M,by omega,b⟩
     ·rw [offM_succ n hM] at h
      exact ⟨k,_,by omega,hM,by omega,h⟩
   obtain ⟨i,M,hi,hM,a1,a2⟩:=hfind n.mems.length (Nat.le_refl _) (by omega)
   have:=((P.cell i M hi hM).2.2 (p - n.latches.length - offM n i) (by omega)).2
   rw [show n.latches.length+offM n i+(p - n.latches.length - offM n i)=p by omega,e2] at this
   rw [this]
   split<;>omega
include h0
theorem exp_sound:Zj3 (expN n s L)=0:=by
 refine sound_of (exp_snd hs P hv) ?_
 have hp:=(exp_perm P).length_eq
 rw [List.length_append,fr_len] at hp
 have:=(all_def hs h0).1
 have:=P.lo
 omega
include ha
theorem exp_check:Pl.Zkz (expN n s L)=0:=by
 have hs':=exp_snd hs P hv
 have h0':=exp_sound hs h0 P hv
 have hlo:=P.lo
 refine check_of hs' h0' ?_
 obtain ⟨N,e,p,lN⟩:=P.new
 rw [List.take_length] at p lN
 obtain ⟨G,eG⟩:∃G:Nat→Prop,G=Good (ndL (expN n s L)):=⟨_,rfl⟩
 have g0:G 0:=by rw [eG];exact good_zero hs'
 have hclo:Clo (fun v=>G v.toNat) s.a:=by
  intro x hx h1 h2
  have f:∀l,GL (fun v=>G v.toNat) l→G (l / 2).toNat:=by
   intro l h
   rcases h with h | h
   ·rw [h];exact g0
   ·exact h
  have:=good_and (n:=expN n s L) (a:=x) hx
  rw [←eG] at this
  exact this (f _ h1) (f _ h2)
 have gsrc:∀v:Int,v∈n.inputs∨v∈L.map (·.var)→G v.toNat:=fun v h=>by rw [eG];exact good_src hs' h
 have gcell:∀(i:Nat) (M:MemD),i<n.mems.length→n.mems[i]?=some M→∀q,q<szM M→G ((cv i+1+q:Nat):Int).toNat:=by
  intro i M hi hM q hq
  refine gsrc _ (.inr ?_)
  have h1:=((P.cell i M hi hM).2.2 q hq).1
  have h2:=offM_succ n hM
  have h3:=offM_mono n (show i+1≤n.mems.length from hi)
  have hlen:=P.len
  have hp:n.latches.length+offM n i+q<L.length:=by omega
  have e1:=List.getElem?_eq_getElem hp
  have e2:la L (n.latches.length+offM n i+q)=L[n.latches.length+offM n i+q]:=by unfold la;rw [List.getD_eq_getElem?_getD,e1];rfl
  rw [←h1,e2]
  exact List.mem_map_of_mem (List.getElem_mem hp)
 have glat:∀v:Int,v∈n.latches.map (·.var)→v∈L.map (·.var):=by
  intro v h
  obtain ⟨x,hx,rfl⟩:=List.mem_map.1 h
  obtain ⟨p,hp⟩:=List.getElem?_of_mem hx
  have hpl:=Zhb hp
  have h1:=P.old p hpl
  have e2:la n.latches p=x:=by unfold la;rw [List.getD_eq_getElem?_getD,hp];rfl
  have hlen:=P.len
  have hp2:p<L.length:=by omega
  have e1:=List.getElem?_eq_getElem hp2
  have e3:la L p=L[p]:=by unfold la;rw [List.getD_eq_getElem?_getD,e1];rfl
  rw [←e2,←h1,e3]
  exact List.mem_map_of_mem (List.getElem_mem hp2)
 have old:∀v,v≤V→G v:=by
  intro v hvV
  obtain ⟨k,hk⟩:=(Za0m hs.apart V).1 ha v hvV
  induction hk with
  | free v h=>
   rcases Nat.eq_zero_or_pos v with q | q
   ·rw [q];exact g0
   ·have hd:=(all_def hs h0).2 v q hvV
    have hnode:(v:Int)∉(Zj5 n).flatMap NodeI.to:=by
     intro hm
     obtain ⟨y,hy,hvy⟩:=List.mem_flatMap.1 hm
     exact h y.nd (by unfold ndL;exact List.mem_map_of_mem hy) (List.mem_map.2 ⟨(v:Int),hvy,Int.toNat_natCast v⟩)
    rw [Za1a] at hnode
    simp only [List.mem_append,not_or] at hnode
    unfold Zbm at hd
    simp only [List.mem_append] at hd
    have:(v:Int)∈n.inputs∨(v:Int)∈n.latches.map (·.var):=by
     rcases hd with ((q | q) | q) | q
     ·exact .inl q
     ·exact .inr q
     ·exact absurd q hnode.2
     ·exact absurd q hnode.1
    have:=gsrc (v:Int) (this.imp id (glat _))
    rw [Int.toNat_natCast] at this
    exact this
  | node x v f hx hvx h ih=>
   obtain ⟨y,hy,rfl⟩:=Za7p hx
   obtain ⟨u,hu,rfl⟩:=List.mem_map.1 hvx
   have hfrm:∀l∈y.frm,GL (fun v=>G v.toNat) l:=by
    intro l hl
    have hr:=hs.Za8p hy hl
    exact .inr (ih (l / 2).toNat (List.mem_map.2 ⟨l,hl,rfl⟩) (by omega))
   unfold Zj5 at hy
   rcases List.mem_append.1 hy with q | q
   ·obtain ⟨a,haa,rfl⟩:=List.mem_map.1 q
    have hu:u=a.var:=by simpa [andI] using hu
    subst hu
    exact hclo a (by rw [e];exact List.mem_append_left _ haa) (hfrm a.a (by simp [andI])) (hfrm a.b (by simp [andI]))
   ·obtain ⟨M,hM,q⟩:=List.mem_flatMap.1 q
    obtain ⟨r,hr,rfl⟩:=List.mem_map.1 q
    obtain ⟨i,hi⟩:=List.getElem?_of_mem hM
    have hu:u∈dataL r.var M.word.toNat:=hu
    unfold dataL at hu
    obtain ⟨j,hj,rfl⟩:=List.mem_map.1 hu
    exact P.clo (fun v=>G v.toNat) hclo (fun i' M' h1 h2 q hq=>gcell i' M' h1 h2 q hq) i M (Zhb hi) hi r hr hfrm j (List.mem_range.1 hj)
 intro v hv2
 rw [←eG]
 induction v using Nat.strongRecOn with
 | _ v ih=>
  rcases Nat.lt_or_ge V v with q | q
  ·have hm:(v:Int)∈L.map (·.var)++N.map (·.var):=p.mem_iff.2 (List.mem_append_right _ (List.mem_append_right _ (fr_mem.2 (by omega))))
   rcases List.mem_append.1 hm with r | r
   ·have:=gsrc (v:Int) (.inr r)
    rw [Int.toNat_natCast] at this
    exact this
   ·obtain ⟨x,hx,ex⟩:=List.mem_map.1 r
    obtain ⟨⟨x1,x2⟩,hd | ⟨h1,h2⟩⟩:=lN x hx
    ·have:=hs.rng x.var (by unfold Zbm;simp only [List.mem_append];exact .inl (.inr hd))
     omega
    ·have f:∀l,LitOk s.v l→l / 2<x.var→GL (fun v=>G v.toNat) l:=fun l h3 h4=>.inr (ih (l / 2).toNat (by have:=h3.1;omega) (by have:=h3.2;omega))
     have:=hclo x (by rw [e];exact List.mem_append_right _ hx) (f _ x1 h1) (f _ x2 h2)
     rw [ex] at this
     rw [Int.toNat_natCast] at this
     exact this
  ·exact old v q
end
def ptN (L:List MemD):Nat:=L.foldl (fun a m=>a+(m.reads.length+m.writes.length)) 0
theorem ptN_snoc (L:List MemD) (m:MemD):ptN (L++[m])=ptN L+(m.reads.length+m.writes.length):=foldN_snoc _ L m 0
theorem fold_ge (f:MemD→Nat):∀(L:List MemD) (a:Nat),L.foldl (fun a m=>a+f m) a=a+L.foldl (fun a m=>a+f m) 0
 | [],a=>rfl
 | x :: L,a=>by rw [List.foldl_cons,List.foldl_cons,fold_ge f L (a+f x),fold_ge f L (0+f x)];omega
theorem need_le:∀L:List MemD,needN L≤offL L+10*offL L*ptN L
 | []=>Nat.le_refl _
 | x :: L=>by
  have ih:=need_le L
  have e1:needN (x :: L)=(szM x+10*szM x*(x.reads.length+x.writes.length))+needN L:=by
   unfold needN;rw [List.foldl_cons,fold_ge];omega
  have e2:offL (x :: L)=szM x+offL L:=by unfold offL;rw [List.foldl_cons,fold_ge];omega
  have e3:ptN (x :: L)=(x.reads.length+x.writes.length)+ptN L:=by unfold ptN;rw [List.foldl_cons,fold_ge];omega
  rw [e1,e2,e3]
  generalize szM x=a at *
  generalize x.reads.length+x.writes.length=b at *
  generalize offL L=c at *
  generalize ptN L=d at *
  generalize needN L=q at *
  have h1:10*(a+c)*(b+d)=10*a*b+10*c*d+(10*a*d+10*c*b):=by
   rw [Nat.mul_add 10,Nat.add_mul,Nat.mul_add,Nat.mul_add];omega
  omega
section
variable {n:NetD} {V:Nat} (hs:Snd n V)
include hs
theorem ptN_le:∀k,ptN (n.mems.take k)≤8*k:=by
 intro k
 induction k with
 | zero=>exact Nat.le_refl _
 | succ k ih=>
  rcases Nat.lt_or_ge k n.mems.length with q | q
  ·have hx:=List.getElem?_eq_getElem q
   obtain ⟨_,_,_,_,_,_,h1,h2⟩:=hs.mems _ (List.getElem_mem q)
   rw [Pl.Zd8 hx,ptN_snoc];omega
  ·rw [List.take_of_length_le (by omega)]
   rw [List.take_of_length_le q] at ih
   omega
theorem net_Ports_is:net_Ports_FF (netT n,())=some ((ptN n.mems:Int),()):=by
 have hM:=hs.lens.2.2.2.2
 have hL:((n.mems.map memT).length:Int)=(n.mems.length:Int):=by rw [List.length_map]
 have e2:net_sump_L2 ((0:Int),(n.mems.map memT,(((n.mems.map memT).length:Int),((0:Int),()))))=some ((ptN n.mems:Int),()):=by
  unfold net_sump_L2;delta u4
  refine Zif (fun k:Nat=>((ptN (n.mems.take k):Int),(n.mems.map memT,(((n.mems.map memT).length:Int),((k:Int),()))))) n.mems.length rfl ?_ ?_ (Ze8 (by omega))
  ·intro k hk
   have hx:=List.getElem?_eq_getElem hk
   obtain ⟨_,_,_,_,_,_,h1,h2⟩:=hs.mems _ (List.getElem_mem hk)
   have hx':(n.mems.map memT)[k]?=some (memT n.mems[k]):=by rw [List.getElem?_map,hx];rfl
   have g:gt Za1 (n.mems.map memT) (k:Int)=memT n.mems[k]:=gt_at (σ:=Za1) hx'
   have hw:IntKind.wrap .i64 (Int.ofNat (List.length (n.mems[k].reads.map readT))+Int.ofNat (List.length (n.mems[k].writes.map Zt4)))=((n.mems[k].reads.length+n.mems[k].writes.length:Nat):Int):=by
    rw [List.length_map,List.length_map]
    exact i64w (x:=((n.mems[k].reads.length:Nat):Int)+((n.mems[k].writes.length:Nat):Int)) (by omega)
   have eb:net_Ports_1_FF (memT n.mems[k],())=some (((n.mems[k].reads.length+n.mems[k].writes.length:Nat):Int),()):=some_i hw
   have eb':net_Ports_1_FF (((gt Za1 (n.mems.map memT) (k:Int)).1,((gt Za1 (n.mems.map memT) (k:Int)).2.1,((gt Za1 (n.mems.map memT) (k:Int)).2.2.1,((gt Za1 (n.mems.map memT) (k:Int)).2.2.2.1,((gt Za1 (n.mems.map memT) (k:Int)).2.2.2.2.1,()))))),())=some (((n.mems[k].reads.length+n.mems[k].writes.length:Nat):Int),()):=by rw [g];exact eb
   have hp:=ptN_le hs k
   have hst:ptN (n.mems.take (k+1))=ptN (n.mems.take k)+(n.mems[k].reads.length+n.mems[k].writes.length):=by rw [Pl.Zd8 hx,ptN_snoc]
   have e:∀(a b p q:Int),a=b→p=q→(some (.inl (a,(n.mems.map memT,(((n.mems.map memT).length:Int),(p,()))))):Option (TL net_sump_lay2.σs⊕Out net_sump_outs2))=some (.inl (b,(n.mems.map memT,(((n.mems.map memT).length:Int),(q,()))))):=by rintro _ _ _ _ rfl rfl;rfl
   refine br_tt (dec_t (show (k:Int)<((n.mems.map memT).length:Int) by omega)) (Zaj (show inb (k:Int) (List.length (n.mems.map memT))=true from Zar ⟨by omega,by omega⟩) (Zba eb' (e _ _ _ _ ?_ (i64n (show (k:Int)+1=((k+1:Nat):Int) by omega) (by omega)))))
   rw [hst]
   exact i64n (x:=((ptN (n.mems.take k):Nat):Int)+((n.mems[k].reads.length+n.mems[k].writes.length:Nat):Int)) (by omega) (by omega)
  ·have e:∀(a b:Int),a=b→(some (.inr (a,())):Option (TL net_sump_lay2.σs⊕Out net_sump_outs2))=some (.inr (b,())):=by rintro _ _ rfl;rfl
   rw [List.take_length]
   exact br_ff (dec_f (show ¬(n.mems.length:Int)<((n.mems.map memT).length:Int) by omega)) rfl
 have e3:net_sump_FF (n.vars,(n.inputs,(n.latches.map latT,(n.outputs,(n.bads,(n.constraints,(n.mems.map memT,(n.ands.map andT,()))))))))=some ((ptN n.mems:Int),()):=Zba e2 rfl
 exact Zba e3 rfl
end
abbrev noNet:Za5.T:=((0:Int),([],([],([],([],([],([],([],()))))))))
def muchB (n:NetD):Bool:=decide (2000<n.vars+cellsN n+10*cellsN n*(ptN n.mems:Int))
section
variable {n:NetD} (ft:Fit n)
include ft
end
section
variable {n:NetD}
theorem cells_sm {V:Nat} (hs:Snd n V) (hc:Pl.Zkz n=0) (h:¬64<cellsN n):(∀m∈n.mems,Small m)∧((offL n.mems:Nat):Int)=cellsN n:=by
 have hcl:cellsN n=cutT (sumP n.mems):=by unfold cellsN;rw [if_neg (fun q=>q hc)]
 have hsm:=small_of hs (by rw [←hcl];omega)
 have hsum:((offL n.mems:Nat):Int)=sumP n.mems:=offL_sum n.mems 0 hsm
 refine ⟨hsm,?_⟩
 rw [hsum,hcl]
 unfold cutT
 rw [hcl] at h
 unfold cutT at h
 split at h
 ·omega
 ·rename_i q;rw [if_neg q]
end
section
variable {n:NetD} (ft:Fit n)
include ft
end
section
variable {n:NetD}
theorem much_w {V:Nat} (hs:Snd n V) (h:¬64<cellsN n) (hc0:0≤cellsN n):IntKind.wrap .i64 ((IntKind.wrap .i64 (n.vars+cellsN n))+(IntKind.wrap .i64 ((IntKind.wrap .i64 (10*cellsN n))*(ptN n.mems:Int))))=n.vars+cellsN n+10*cellsN n*(ptN n.mems:Int):=by
 have hv:=hs.vars
 have hv2:=hs.v2
 have hp:=ptN_le hs n.mems.length
 rw [List.take_length] at hp
 have hM:=hs.lens.2.2.2.2
 obtain ⟨c,hc⟩:=Int.eq_ofNat_of_zero_le hc0
 have hcp:c*ptN n.mems≤64*32:=Nat.mul_le_mul (by omega) (by omega)
 rw [hc]
 have e1:IntKind.wrap .i64 (10*(c:Int))=10*(c:Int):=i64w (by omega)
 have e2:10*(c:Int)*(ptN n.mems:Int)=((10*(c*ptN n.mems):Nat):Int):=by
  rw [Int.natCast_mul,Int.natCast_mul,Int.mul_assoc];rfl
 rw [e1,e2,i64w (x:=n.vars+(c:Int)) (by omega),i64w (x:=((10*(c*ptN n.mems):Nat):Int)) (by omega)]
 exact i64w (by omega)
end
section
variable {n:NetD} (ft:Fit n)
include ft
end
section
variable {n:NetD}
theorem cells_nn:0≤cellsN n:=by
 unfold cellsN
 by_cases hc:Pl.Zkz n=0
 ·rw [if_neg (fun q=>q hc)]
  obtain ⟨V,hs,_⟩:=check_snd0 hc
  have:=(sumP_rng n.mems 0 (fun m hm=>mem_rngs hs m hm)).1
  have this:0≤sumP n.mems:=this
  unfold cutT
  split<;>omega
 ·rw [if_pos hc];omega
end
section
variable {n:NetD} (ft:Fit n)
include ft
theorem expand_Net_is :
  (Pl.Zkz n≠0→expand_Net_FF (netT n,())=some (noNet,(Pl.Zkz n,()))) ∧
  (Pl.Zkz n=0→64<cellsN n→expand_Net_FF (netT n,())=some (noNet,((17:Int),()))) ∧
  (Pl.Zkz n=0→¬64<cellsN n→muchB n=true→expand_Net_FF (netT n,())=some (noNet,((10:Int),()))) ∧
  (Pl.Zkz n=0→¬64<cellsN n→muchB n=false→∃(V:Nat) (s:Mk) (L:List Zgv) (cv:Nat→Nat),expand_Net_FF (netT n,())=some (netT (expN n s L),((0:Int),()))∧Snd n V∧Zj3 n=0∧acyB (ndL n) V=true∧(∀m∈n.mems,Small m)∧ExSp n V n.mems.length s L cv∧s.v≤2000):=by
 have c1:=Zq6 ft
 have d1:=cells_is ft
 have nn:=cells_nn (n:=n)
 refine ⟨fun h=>?_,fun h h2=>?_,fun h h2 h3=>?_,fun h h2 h3=>?_⟩
 ·exact Zba c1 (br_tt (not_t (dec_f h)) rfl)
 ·exact Zba c1 (br_ff (not_f (dec_t h)) (Zba d1 (br_tt (dec_t h2) rfl)))
 ·obtain ⟨V,hs,h0,ha⟩:=check_snd0 h
  have p1:=net_Ports_is hs
  have hm:=of_decide_eq_true h3
  exact Zba c1 (br_ff (not_f (dec_t h)) (Zba d1 (br_ff (dec_f h2) (Zba p1 (br_tt (dec_t (show (2000:Int)<IntKind.wrap .i64 ((IntKind.wrap .i64 (n.vars+cellsN n))+(IntKind.wrap .i64 ((IntKind.wrap .i64 (10*cellsN n))*(ptN n.mems:Int)))) by rw [much_w hs h2 nn];exact hm)) rfl)))))
 ·obtain ⟨V,hs,h0,ha⟩:=check_snd0 h
  have p1:=net_Ports_is hs
  have hm:=of_decide_eq_false h3
  obtain ⟨hsm,hoff⟩:=cells_sm hs h h2
  have hneed:V+needN n.mems≤2000:=by
   have h4:=need_le n.mems
   have hv:=hs.vars
   rw [hv,←hoff] at hm
   have e2:10*((offL n.mems:Nat):Int)*(ptN n.mems:Int)=((10*offL n.mems*ptN n.mems:Nat):Int):=by
    rw [Int.natCast_mul,Int.natCast_mul];rfl
   rw [e2] at hm
   omega
  obtain ⟨s,L,cv,e13,P⟩:=ex_13 hs hsm (by omega)
  have hsv:s.v≤2000:=by
   have:=P.hi
   rw [List.take_length] at this
   omega
  refine ⟨V,s,L,cv,?_,hs,h0,ha,hsm,P,hsv⟩
  have ec:=clonew_is ft
  have e13':expand_Net_L13 (Int.ofNat (List.length (n.mems.map memT)),((0:Int),((0:Int),(n.vars,(n.inputs,(n.latches.map latT,(n.outputs,(n.bads,(n.constraints,([],(n.ands.map andT,(n.mems.map memT,()))))))))))))=some ((0:Int),mkT n.inputs (L.map latT) n.outputs n.bads n.constraints [] s):=by
   rw [hs.vars];exact e13
  exact Zba c1 (br_ff (not_f (dec_t h)) (Zba d1 (br_ff (dec_f h2) (Zba p1 (br_ff (dec_f (show ¬(2000:Int)<IntKind.wrap .i64 ((IntKind.wrap .i64 (n.vars+cellsN n))+(IntKind.wrap .i64 ((IntKind.wrap .i64 (10*cellsN n))*(ptN n.mems:Int)))) by rw [much_w hs h2 nn];exact hm)) (Zba ec (Zba e13' rfl)))))))
end
theorem lit_i64 {v:Nat} {l:Int} (h:LitOk v l) (hv:v≤2000):I64 l:=by
 obtain ⟨h1,h2⟩:=h
 unfold I64;omega
theorem exp_fit {n:NetD} {V:Nat} (ft:Fit n) (hs:Snd n V) {s:Mk} {L:List Zgv} {cv:Nat→Nat} (P:ExSp n V n.mems.length s L cv) (hv:s.v≤2000):Fit (expN n s L):=by
 have S:=exp_snd hs P hv
 have hr:∀x∈Zbm (expN n s L),I64 x:=fun x hx=>by have:=S.rng x hx;unfold I64;omega
 have hl:∀x∈Zch (expN n s L),I64 x:=fun x hx=>lit_i64 (S.lits x hx) hv
 obtain ⟨_,l2,l3,_,_⟩:=S.lens
 refine ⟨by show I64 (s.v:Int);unfold I64;omega,ft.ins,⟨by omega,fun l h=>⟨hr _ ?_,hl _ ?_,?_⟩⟩,ft.out,ft.bad,ft.con,⟨Nat.zero_le _,(fun m hm=>by cases hm)⟩,⟨by omega,fun a h=>⟨hr _ ?_,hl _ ?_,hl _ ?_⟩⟩⟩
 ·unfold Zbm;simp only [List.mem_append,List.mem_map];exact .inl (.inl (.inr ⟨l,h,rfl⟩))
 ·unfold Zch;simp only [List.mem_append,List.mem_map];exact .inl (.inl (.inl (.inl (.inl ⟨l,h,rfl⟩))))
 ·have:=S.init l h;unfold I64;omega
 ·unfold Zbm;simp only [List.mem_append,List.mem_map];exact .inr ⟨a,h,rfl⟩
 ·unfold Zch;simp only [List.mem_append,List.mem_flatMap];exact .inr ⟨a,h,by simp [andL]⟩
 ·unfold Zch;simp only [List.mem_append,List.mem_flatMap];exact .inr ⟨a,h,by simp [andL]⟩
end Go.Proofs.Ytnocaehijdmkkaa.V
end
