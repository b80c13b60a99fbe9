import Derived.Test.YtnocaehijdmkkaaKMe
import Derived.Test.YtnocaehijdmkkaaKNa
import Derived.Test.YtnocaehijdmkkaaKMd
import Derived.Test.YtnocaehijdmkkaaKMf
import Derived.Test.YtnocaehijdmkkaaChecked
set_option linter.unusedVariables false
set_option linter.unusedSimpArgs false
set_option linter.unnecessarySimpa false
section
namespace Go.Proofs.Ytnocaehijdmkkaa.Ev
open Go Go.RowKit
def Za5g (P:Program) (E:Env) (dr:Dr) (orc:Cl) (k:Nat) (f:FuncId) (vs:List AV):Option AV:=match evF P E (evC P E dr orc k) f vs ⟨.nil,1⟩ with
 | some (v,_)=>some v
 | none=>none
theorem Za26 {P:Program} {E:Env} (hE:EnvOk P E) {dr:Dr} (hdr:DrOk P dr) {orc:Cl} (ho:ClOk P orc) {k:Nat} {f:FuncId} {vs:List AV} {v:AV} {x:Value} (h:Za5g P E dr orc k f vs=some v)
  (hx:scal v=some x) (hw:wsL 1 vs=true) (s:Sg) (w:World) :
  Calls P f (concL s vs).toArray w fun e w'=>e=.returned x∧Below w.heap.size w w':=by
 unfold Za5g at h
 split at h<;>try cases h
 rename_i h' he
 have:=(Za96 hE (Zx4 hE hdr ho k).1 f vs ⟨.nil,1⟩ v h' he).2 (fun s'=>s'=s) w (concL s vs).toArray ⟨s,rfl⟩
  (fun s' e=>⟨⟨fun i o hi=>by simp [Tr.get] at hi,fun i j o o' hi=>by simp [Tr.get] at hi,fun i o hi=>by simp [Tr.get] at hi,fun i o hi=>by simp [Tr.get] at hi⟩,by rw [e]⟩) hw
 refine this.mono ?_
 rintro e w' ⟨F',V,rfl,hE',hF'⟩
 obtain ⟨s',hs',hx'⟩:=hE'.to s rfl
 exact ⟨by rw [←(hF' s' hs').2,Zet hx],hx'.os,hx'.tape,hx'.output,hx'.size,fun b hb=>hx'.frame b hb (fun i o hi=>by simp [Tr.get] at hi)⟩
def isT:Option AV→Bool
 | some (.bool true)=>true
 | _=>false
theorem isT_eq {v:Option AV} (h:isT v=true):v=some (.bool true):=by
 unfold isT at h
 split at h
 ·rfl
 ·cases h
theorem evTrue {P:Program} {E:Env} (hE:EnvOk P E) {dr:Dr} (hdr:DrOk P dr) {orc:Cl} (ho:ClOk P orc) {k:Nat} {f:FuncId} {vs:List AV} (h:isT (Za5g P E dr orc k f vs)=true)
  (hw:wsL 1 vs=true) (s:Sg) (w:World) :
  Calls P f (concL s vs).toArray w fun e w'=>e=.returned (.bool true)∧Below w.heap.size w w':=
 Za26 hE hdr ho (isT_eq h) rfl hw s w
end Go.Proofs.Ytnocaehijdmkkaa.Ev
end
section
namespace Go.Proofs.Ytnocaehijdmkkaa.Ev
open Go Go.RowKit Go.Proofs.Ytnocaehijdmkkaa.Pl
def okI:Int→Bool
 | .ofNat n=>Nat.ble n 9223372036854775807
 | .negSucc n=>Nat.ble n 9223372036854775807
theorem Za4u {x:Int} (h:okI x=true):I64 x:=by
 cases x with
 | ofNat n=>
  have:=Nat.le_of_ble_eq_true h
  have e:Int.ofNat n=(n:Int):=rfl
  rw [e];constructor<;>omega
 | negSucc n=>
  have:=Nat.le_of_ble_eq_true h
  have e:Int.negSucc n = -(n:Int) - 1:=by rw [Int.negSucc_eq];omega
  rw [e];constructor<;>omega
def isI64:IntKind→Bool | .i64=>true | _=>false
def Za1o:List AV→Option (List Int)
 | []=>some []
 | v :: l=>match v with
  | .int k n=>match isI64 k,okI n,Za1o l with
   | true,true,some ns=>some (n :: ns)
   | _,_,_=>none
  | _=>none
theorem Zx1 {s:Sg}:∀{l:List AV} {ns:List Int},Za1o l=some ns→concL s l=ints ns∧(∀x∈ns,I64 x)∧ns.length=l.length
 | [],ns,h=>by simp [Za1o] at h;subst h;exact ⟨rfl,by simp,rfl⟩
 | v :: l,ns,h=>by
  simp only [Za1o] at h
  split at h<;>try cases h
  rename_i k n
  split at h<;>try cases h
  rename_i ns' h1 h2 h3
  obtain ⟨a,b,c⟩:=Zx1 (s:=s) h3
  have hk:k=.i64:=by cases k<;>simp [isI64] at h1;rfl
  subst hk
  refine ⟨by simp [concL,conc,a,ints],?_,by simp [c]⟩
  intro x hx
  rcases List.mem_cons.1 hx with rfl | hx
  ·exact Za4u h2
  ·exact b x hx
def three:List Int→Option (List (Int×Int×Int))
 | []=>some []
 | a :: l=>match l with
  | b :: c :: l=>match three l with
   | some r=>some ((a,b,c) :: r)
   | none=>none
  | _=>none
theorem Zty:∀{l:List Int} {r:List (Int×Int×Int)},three l=some r→l=r.flatMap (fun x=>[x.1,x.2.1,x.2.2])
 | [],r,h=>by simp [three] at h;subst h;rfl
 | [a],r,h=>by simp [three] at h
 | [a,b],r,h=>by simp [three] at h
 | a :: b :: c :: l,r,h=>by
  simp only [three] at h
  split at h<;>try cases h
  rename_i r' h'
  have:=Zty h'
  simp [←this]
def capOk (h:Hp) (sz b len:Nat) (u:Bool) (c:Nat):Bool:=match u with
 | false=>match Nat.ble len c with
  | true=>Nat.ble c 9223372036854775807
  | false=>false
 | true=>match h.tr.get b with
  | some (.cells l _ (some z))=>match Nat.beq z sz,Nat.blt 0 sz with
   | true,true=>Nat.ble ((c+len)*sz) l.length
   | _,_=>false
  | _=>false
theorem capOk_spec {h:Hp} {sz b off len c:Nat} {u:Bool} (e:capOk h sz b len u c=true) {s:Sg} {w:World} (H:HRel s h w) :
  ∃cc,conc s (.slice b off len u c)=.slice (some ⟨(s b).1,off,none⟩) len cc∧len≤cc∧cc≤9223372036854775807:=by
 cases u with
 | false=>
  unfold capOk at e
  simp only [] at e
  split at e
  ·rename_i h1
   exact ⟨c,rfl,Nat.le_of_ble_eq_true h1,Nat.le_of_ble_eq_true e⟩
  ·cases e
 | true=>
  unfold capOk at e
  simp only [] at e
  split at e
  ·rename_i l ty z hb
   split at e
   ·rename_i q1 q2
    have q1:=Nat.eq_of_beq_eq_true q1
    rw [Nat.blt_eq] at q2
    have e:=Nat.le_of_ble_eq_true e
    subst q1
    obtain ⟨tail,_,_,htl⟩:=H.cells hb
    obtain ⟨ht,hm⟩:=htl _ rfl
    refine ⟨(s b).2 - c,rfl,?_,by omega⟩
    rcases Nat.lt_or_ge (s b).2 (c+len) with q | q
    ·have:=Nat.mul_lt_mul_of_pos_right q q2
     omega
    ·omega
   ·cases e
  ·cases e
def rdSl (h:Hp) (sz:Nat) (v:AV):Option (Nat×List Int):=match v with
 | .nils=>some (0,[])
 | .slice b off len u c=>match capOk h sz b len u c,Nat.ble len 4000,Zmc h sz (.slice b off len u c) with
  | true,true,some (n,l)=>match Za1o l with
   | some ns=>some (n,ns)
   | none=>none
  | _,_,_=>none
 | _=>none
theorem Zmv {h:Hp} {sz:Nat} {v:AV} {n:Nat} {ns:List Int} (e:rdSl h sz v=some (n,ns)) {s:Sg} {w:World} (H:HRel s h w) :
  ∃A c,conc s v=.slice A n c∧Sl w w.heap.size sz A n c (ints ns)∧n≤4000∧(∀x∈ns,I64 x)∧ns.length=n*sz:=by
 unfold rdSl at e
 split at e
 ·simp at e;obtain ⟨rfl,rfl⟩:=e
  exact ⟨none,0,rfl,⟨⟨by simp [ints],fun h=>by omega⟩,by omega,by simp [maxLen]⟩,by omega,by simp,by simp⟩
 ·rename_i b off len u c
  split at e<;>try cases e
  rename_i l h1 h3 h4
  split at e<;>try cases e
  rename_i hi
  obtain ⟨cc,hcc,h1,h2⟩:=capOk_spec (off:=off) h1 H
  have h3:=Nat.le_of_ble_eq_true h3
  have hsrc:=h4
  unfold Zmc at h4
  simp only [] at h4
  split at h4<;>try cases h4
  rename_i cs ty op hb
  split at h4<;>try cases h4
  rename_i hle
  have hle:=Nat.le_of_ble_eq_true hle
  obtain ⟨a1,a2,a3⟩:=Zx1 (s:=s) hi
  obtain ⟨_,_,_,hll⟩:=Zi4 (P:=default) hsrc H
  obtain ⟨tail,hw,_,_⟩:=H.cells hb
  refine ⟨some ⟨(s b).1,off,none⟩,cc,hcc,⟨⟨by rw [←a1,Zc3,hll],fun _=>⟨_,rfl,H.bound hb,?_⟩⟩,h1,by simpa [maxLen] using h2⟩,h3,a2,by rw [a3,hll]⟩
  intro j u hu
  rw [←a1] at hu
  rw [Zd7]
  simp only [Zdt,Ze9,Zln,Zmo] at hu
  have hj:j<n*sz:=by
   rcases Nat.lt_or_ge j (n*sz) with q | q
   ·exact q
   ·rw [List.getElem?_eq_none (by simp;omega)] at hu;cases hu
  rw [List.getElem?_take,if_pos hj,List.getElem?_drop] at hu
  simp only [World.cell?,hw,Option.isSome_none,Bool.false_eq_true,if_false,List.getElem?_toArray]
  have hL:=Zc3 s cs
  rw [List.getElem?_append_left (by omega)]
  exact hu
 ·cases e
theorem Below.hrel {s:Sg} {h:Hp} {w w':World} (H:HRel s h w) (b:Below w.heap.size w w'):HRel s h w' where
 obj i o hi:=by rw [b.block _ (H.bound hi)];exact H.obj i o hi
 inj:=H.inj
 lt:=H.lt
 wso:=H.wso
theorem Below.ext {s:Sg} {h:Hp} {w w':World} (b:Below w.heap.size w w'):Ext s h w s h w':=
 ⟨b.os,b.tape,b.output,b.size,fun _ _=>rfl,Nat.le_refl _,fun k hk _=>b.block k hk,fun j o hj=>.inl ⟨j,o,hj,rfl⟩,fun j o hj _=>⟨o,hj⟩⟩
def rdRaw (h:Hp) (sz:Nat) (v:AV):Option (Nat×List AV):=match v with
 | .nils=>some (0,[])
 | .slice b off len u c=>match capOk h sz b len u c,Nat.ble len 100,Zmc h sz (.slice b off len u c) with
  | true,true,some r=>some r
  | _,_,_=>none
 | _=>none
theorem rdRaw_spec {h:Hp} {sz:Nat} {v:AV} {n:Nat} {l:List AV} (e:rdRaw h sz v=some (n,l)) {s:Sg} {w:World} (H:HRel s h w) :
  ∃A c,conc s v=.slice A n c∧Sl w w.heap.size sz A n c (concL s l)∧n≤100∧l.length=n*sz:=by
 unfold rdRaw at e
 split at e
 ·simp at e;obtain ⟨rfl,rfl⟩:=e
  exact ⟨none,0,rfl,⟨⟨by simp [concL],fun h=>by omega⟩,by omega,by simp [maxLen]⟩,by omega,by simp⟩
 ·rename_i b off len u c
  split at e<;>try cases e
  rename_i h1 h3 h4
  obtain ⟨cc,hcc,h1,h2⟩:=capOk_spec (off:=off) h1 H
  have h3:=Nat.le_of_ble_eq_true h3
  have hsrc:=h4
  unfold Zmc at h4
  simp only [] at h4
  split at h4<;>try cases h4
  rename_i cs ty op hb
  split at h4<;>try cases h4
  rename_i hle
  have hle:=Nat.le_of_ble_eq_true hle
  obtain ⟨_,_,_,hll⟩:=Zi4 (P:=default) hsrc H
  obtain ⟨tail,hw,_,_⟩:=H.cells hb
  refine ⟨some ⟨(s b).1,off,none⟩,cc,hcc,⟨⟨by rw [Zc3,hll],fun _=>⟨_,rfl,H.bound hb,?_⟩⟩,h1,by simpa [maxLen] using h2⟩,h3,hll⟩
  intro j u hu
  rw [Zd7]
  simp only [Zdt,Ze9,Zln,Zmo] at hu
  have hj:j<n*sz:=by
   rcases Nat.lt_or_ge j (n*sz) with q | q
   ·exact q
   ·rw [List.getElem?_eq_none (by simp;omega)] at hu;cases hu
  rw [List.getElem?_take,if_pos hj,List.getElem?_drop] at hu
  simp only [World.cell?,hw,Option.isSome_none,Bool.false_eq_true,if_false,List.getElem?_toArray]
  have hL:=Zc3 s cs
  rw [List.getElem?_append_left (by omega)]
  exact hu
 ·cases e
def smallI:Int→Bool
 | .ofNat n=>Nat.ble n 4000
 | .negSucc n=>Nat.ble n 4000
theorem smallI_spec {x:Int} (h:smallI x=true):-4001≤x∧x≤4000:=by
 cases x with
 | ofNat n=>
  have:=Nat.le_of_ble_eq_true h
  have e:Int.ofNat n=(n:Int):=rfl
  rw [e];constructor<;>omega
 | negSucc n=>
  have:=Nat.le_of_ble_eq_true h
  have e:Int.negSucc n = -(n:Int) - 1:=by rw [Int.negSucc_eq];omega
  rw [e];constructor<;>omega
theorem isI64_eq {k:IntKind} (h:isI64 k=true):k=.i64:=by cases k<;>simp [isI64] at h;rfl
def parseR (h:Hp):List AV→Option (List ReadD)
 | []=>some []
 | x :: l=>match l with
  | []=>none
  | y :: l=>match x with
   | .int k v=>match isI64 k,smallI v,rdSl h 1 y,parseR h l with
    | true,true,some (_,ns),some rs=>some (⟨v,ns⟩ :: rs)
    | _,_,_,_=>none
   | _=>none
def FitR (d:ReadD):Prop:=d.addr.length≤4000∧-1099511627776≤d.var∧d.var≤1099511627776∧∀x∈d.addr,I64 x
theorem parseR_spec {h:Hp} {s:Sg} {w:World} (H:HRel s h w):∀{l:List AV} {ds:List ReadD},parseR h l=some ds →
  ∃L:List ReadH,concL s l=L.flatMap ReadH.cells∧(∀r∈L,r.okIn w w.heap.size)∧L.map ReadH.d=ds∧∀d∈ds,FitR d
 | [],ds,e=>by simp [parseR] at e;subst e;exact ⟨[],rfl,by simp,rfl,by simp⟩
 | [x],ds,e=>by simp [parseR] at e
 | x :: y :: l,ds,e=>by
  simp only [parseR] at e
  split at e<;>try cases e
  rename_i k v
  split at e<;>try cases e
  rename_i m ns rs h1 h2 h3 h4
  obtain ⟨A,c,e1,s1,b1,r1,t1⟩:=Zmv h3 H
  obtain ⟨L,g1,g2,g3,g4⟩:=parseR_spec H h4
  have:=isI64_eq h1
  subst this
  simp only [Nat.mul_one] at t1
  subst t1
  refine ⟨⟨v,A,c,ns⟩ :: L,by simp [concL,conc,e1,g1,ReadH.cells],?_,by simp [g3,ReadH.d],?_⟩
  ·intro r hr
   rcases List.mem_cons.1 hr with rfl | hr
   ·exact s1
   ·exact g2 r hr
  ·intro d hd
   have sm:=smallI_spec h2
   rcases List.mem_cons.1 hd with rfl | hd
   ·exact ⟨b1,by simp only;omega,by simp only;omega,r1⟩
   ·exact g4 d hd
def parseW (h:Hp):List AV→Option (List Zz7)
 | []=>some []
 | x :: l=>match l with
  | []=>none
  | y :: l=>match l with
   | []=>none
   | z :: l=>match x with
    | .int k v=>match isI64 k,smallI v,rdSl h 1 y,rdSl h 1 z,parseW h l with
     | true,true,some (_,ns),some (_,ms),some rs=>some (⟨v,ns,ms⟩ :: rs)
     | _,_,_,_,_=>none
    | _=>none
def FitW (d:Zz7):Prop:=d.addr.length≤4000∧d.data.length≤4000∧I64 d.on∧(∀x∈d.addr,I64 x)∧∀x∈d.data,I64 x
theorem parseW_spec {h:Hp} {s:Sg} {w:World} (H:HRel s h w):∀{l:List AV} {ds:List Zz7},parseW h l=some ds →
  ∃L:List Zfm,concL s l=L.flatMap Zfm.cells∧(∀r∈L,r.okIn w w.heap.size)∧L.map Zfm.d=ds∧∀d∈ds,FitW d
 | [],ds,e=>by simp [parseW] at e;subst e;exact ⟨[],rfl,by simp,rfl,by simp⟩
 | [x],ds,e=>by simp [parseW] at e
 | [x,y],ds,e=>by simp [parseW] at e
 | x :: y :: z :: l,ds,e=>by
  simp only [parseW] at e
  split at e<;>try cases e
  rename_i k v
  split at e<;>try cases e
  rename_i m ns m' ms rs h1 h2 h3 h3' h4
  obtain ⟨A,c,e1,s1,b1,r1,t1⟩:=Zmv h3 H
  obtain ⟨A',c',e1',s1',b1',r1',t1'⟩:=Zmv h3' H
  obtain ⟨L,g1,g2,g3,g4⟩:=parseW_spec H h4
  have:=isI64_eq h1
  subst this
  simp only [Nat.mul_one] at t1 t1'
  subst t1 t1'
  refine ⟨⟨v,A,c,ns,A',c',ms⟩ :: L,by simp [concL,conc,e1,e1',g1,Zfm.cells],?_,by simp [g3,Zfm.d],?_⟩
  ·intro r hr
   rcases List.mem_cons.1 hr with rfl | hr
   ·exact ⟨s1,s1'⟩
   ·exact g2 r hr
  ·intro d hd
   have sm:=smallI_spec h2
   rcases List.mem_cons.1 hd with rfl | hd
   ·exact ⟨b1,b1',by unfold I64;simp only;omega,r1,r1'⟩
   ·exact g4 d hd
def parseM (h:Hp):List AV→Option (List MemD)
 | []=>some []
 | x :: l=>match l with
  | y :: z :: u :: v :: l=>match x,y,z with
   | .int k a,.int k' wd,.bool any=>match isI64 k,isI64 k',smallI a,smallI wd,rdRaw h 2 u,rdRaw h 3 v,parseM h l with
    | true,true,true,true,some (_,lr),some (_,lw),some ms=>match parseR h lr,parseW h lw with
     | some rs,some ws=>some (⟨a,wd,any,rs,ws⟩ :: ms)
     | _,_=>none
    | _,_,_,_,_,_,_=>none
   | _,_,_=>none
  | _=>none
theorem parseM_spec {h:Hp} {s:Sg} {w:World} (H:HRel s h w):∀{l:List AV} {ds:List MemD},parseM h l=some ds →
  ∃L:List MemH,concL s l=L.flatMap MemH.cells∧(∀r∈L,r.okIn w w.heap.size)∧L.map MemH.d=ds∧∀d∈ds,Za5v d
 | [],ds,e=>by simp [parseM] at e;subst e;exact ⟨[],rfl,by simp,rfl,by simp⟩
 | [x],ds,e=>by simp [parseM] at e
 | [x,y],ds,e=>by simp [parseM] at e
 | [x,y,z],ds,e=>by simp [parseM] at e
 | [x,y,z,u],ds,e=>by simp [parseM] at e
 | x :: y :: z :: u :: v :: l,ds,e=>by
  simp only [parseM] at e
  split at e<;>try cases e
  rename_i k a k' wd any
  split at e<;>try cases e
  rename_i nr lr nw lw ms h1 h2 h3 h4 h5 h6 h7
  split at e<;>try cases e
  rename_i rs ws h8 h9
  obtain ⟨A,c,e1,s1,b1,t1⟩:=rdRaw_spec h5 H
  obtain ⟨A',c',e2,s2,b2,t2⟩:=rdRaw_spec h6 H
  obtain ⟨LR,r1,r2,r3,r4⟩:=parseR_spec H h8
  obtain ⟨LW,w1,w2,w3,w4⟩:=parseW_spec H h9
  obtain ⟨L,g1,g2,g3,g4⟩:=parseM_spec H h7
  have:=isI64_eq h1
  subst this
  have:=isI64_eq h2
  subst this
  have nR:LR.length=nr:=by
   have q:(concL s lr).length=(LR.flatMap ReadH.cells).length:=by rw [r1]
   have q2:(LR.flatMap ReadH.cells).length=LR.length*2:=by
    clear r1 r2 r3 q
    induction LR with
    | nil=>rfl
    | cons x l ih=>simp only [List.flatMap_cons,List.length_append,ih];simp [ReadH.cells];omega
   rw [Zc3,t1,q2] at q;omega
  have nW:LW.length=nw:=by
   have q:(concL s lw).length=(LW.flatMap Zfm.cells).length:=by rw [w1]
   have q2:(LW.flatMap Zfm.cells).length=LW.length*3:=by
    clear w1 w2 w3 q
    induction LW with
    | nil=>rfl
    | cons x l ih=>simp only [List.flatMap_cons,List.length_append,ih];simp [Zfm.cells];omega
   rw [Zc3,t2,q2] at q;omega
  rw [r1] at s1
  rw [w1] at s2
  subst nR nW
  refine ⟨⟨a,wd,any,A,c,LR,A',c',LW⟩ :: L,by simp [concL,conc,e1,e2,g1,MemH.cells],?_,by simp [g3,MemH.d,r3,w3],?_⟩
  ·intro m hm
   rcases List.mem_cons.1 hm with rfl | hm
   ·exact ⟨s1,r2,s2,w2⟩
   ·exact g2 m hm
  ·intro d hd
   have sa:=smallI_spec h3
   have sw:=smallI_spec h4
   rcases List.mem_cons.1 hd with rfl | hd
   ·have lr:rs.length=LR.length:=by rw [←r3];simp
    have lw:ws.length=LW.length:=by rw [←w3];simp
    exact ⟨⟨by unfold I64;simp only;omega,by simp only;omega⟩,by unfold I64;simp only;omega,by simp only;omega,by simp only;omega,fun r hr=>r4 r hr,fun r hr=>w4 r hr⟩
   ·exact g4 d hd
def orcM (h:Hp) (vs:List AV):Option NetD:=match vs with
 | [.agg [.int k vars,si,sl,so,sb,sc,sm,sa]]=>match isI64 k,okI vars,rdSl h 1 si,rdSl h 3 sl,rdSl h 1 so,rdSl h 1 sb,rdSl h 1 sc,rdRaw h 5 sm,rdSl h 3 sa with
  | true,true,some (_,i),some (_,l),some (_,o),some (_,b),some (_,c),some (_,m),some (_,a)=>match three l,three a,parseM h m with
   | some l,some a,some m=>some ⟨vars,i,l.map (fun x=>⟨x.1,x.2.1,x.2.2⟩),o,b,c,m,a.map (fun x=>⟨x.1,x.2.1,x.2.2⟩)⟩
   | _,_,_=>none
  | _,_,_,_,_,_,_,_,_=>none
 | _=>none
def orc2:Cl:=fun f vs h=>match Nat.beq f 93 with
 | true=>match orcM h vs with
  | some d=>some (.int .i64 (Zj3 d),h)
  | none=>none
 | false=>none
theorem orcM_spec {h:Hp} {vs:List AV} {d:NetD} (e:orcM h vs=some d) {s:Sg} {w:World} (H:HRel s h w) :
  ∃N:NetH,(concL s vs).toArray=#[N.v]∧N.okIn w w.heap.size∧Fit N.d∧N.d=d:=by
 unfold orcM at e
 split at e<;>try cases e
 rename_i k vars si sl so sb sc sm sa
 split at e<;>try cases e
 rename_i ni i nl l no o nb b nc c nm ml na a' hk hv h1 h2 h3 h4 h5 h6 h7
 split at e<;>try cases e
 rename_i l3 a3 mD hl3 ha3 hm3
 have hk':=isI64_eq hk
 subst hk'
 obtain ⟨A1,c1,e1,s1,b1,r1,t1⟩:=Zmv h1 H
 obtain ⟨A2,c2,e2,s2,b2,r2,t2⟩:=Zmv h2 H
 obtain ⟨A3,c3,e3,s3,b3,r3,t3⟩:=Zmv h3 H
 obtain ⟨A4,c4,e4,s4,b4,r4,t4⟩:=Zmv h4 H
 obtain ⟨A5,c5,e5,s5,b5,r5,t5⟩:=Zmv h5 H
 obtain ⟨A6,c6,e6,s6,b6,t6⟩:=rdRaw_spec h6 H
 obtain ⟨A7,c7,e7,s7,b7,r7,t7⟩:=Zmv h7 H
 obtain ⟨LM,m1,m2,m3,m4⟩:=parseM_spec H hm3
 have hl:=Zty hl3
 have ha:=Zty ha3
 have len3:∀r:List (Int×Int×Int),(r.flatMap (fun x=>[x.1,x.2.1,x.2.2])).length=r.length*3:=by
  intro r;induction r with
  | nil=>rfl
  | cons x r ih=>simp only [List.flatMap_cons,List.length_append,ih];simp;omega
 have n2:l3.length=nl:=by have:=len3 l3;rw [←hl,t2] at this;omega
 have n7:a3.length=na:=by have:=len3 a3;rw [←ha,t7] at this;omega
 have n6:LM.length=nm:=by
  have q:(concL s ml).length=(LM.flatMap MemH.cells).length:=by rw [m1]
  have q2:(LM.flatMap MemH.cells).length=LM.length*5:=by
   clear m1 m2 m3 q
   induction LM with
   | nil=>rfl
   | cons x l ih=>simp only [List.flatMap_cons,List.length_append,ih];simp [MemH.cells];omega
  rw [Zc3,t6,q2] at q;omega
 rw [m1] at s6
 have nd:mD.length=nm:=by rw [←m3];simpa using n6
 simp only [Nat.mul_one] at t1 t3 t4 t5
 refine ⟨⟨vars,A1,c1,i,A2,c2,l3.map (fun x=>⟨x.1,x.2.1,x.2.2⟩),A3,c3,o,A4,c4,b,A5,c5,c,A6,c6,LM,A7,c7,a3.map (fun x=>⟨x.1,x.2.1,x.2.2⟩)⟩,?_,⟨?_,?_,?_,?_,?_,?_,m2,?_⟩,⟨?_,?_,?_,?_,?_,?_,?_,?_⟩,by simp [NetH.d,m3]⟩
 ·simp only [concL,conc,e1,e2,e3,e4,e5,e6,e7,NetH.v,NetH.fs,t1,t3,t4,t5,List.length_map,n2,n7,n6]
 ·simp only [t1];exact s1
 ·simp only [List.length_map,n2]
  have:ints l=(l3.map (fun x=>(⟨x.1,x.2.1,x.2.2⟩:Zgv))).flatMap Zgv.cells:=by
   rw [hl];simp [ints,Zgv.cells,List.map_flatMap,List.flatMap_map]
  rw [←this];exact s2
 ·simp only [t3];exact s3
 ·simp only [t4];exact s4
 ·simp only [t5];exact s5
 ·simp only [n6];exact s6
 ·simp only [List.length_map,n7]
  have:ints a'=(a3.map (fun x=>(⟨x.1,x.2.1,x.2.2⟩:AndD))).flatMap AndD.cells:=by
   rw [ha];simp [ints,AndD.cells,List.map_flatMap,List.flatMap_map]
  rw [←this];exact s7
 ·exact Za4u hv
 ·exact ⟨by simp [NetH.d,t1];omega,r1⟩
 ·refine ⟨by simp [NetH.d,n2];omega,?_⟩
  intro x hx
  simp only [NetH.d,List.mem_map] at hx
  obtain ⟨y,hy,rfl⟩:=hx
  have mem:∀z∈[y.1,y.2.1,y.2.2],z∈l:=by
   intro z hz;rw [hl];exact List.mem_flatMap.2 ⟨y,hy,hz⟩
  exact ⟨r2 _ (mem _ (by simp)),r2 _ (mem _ (by simp)),r2 _ (mem _ (by simp))⟩
 ·exact ⟨by simp [NetH.d,t3];omega,r3⟩
 ·exact ⟨by simp [NetH.d,t4];omega,r4⟩
 ·exact ⟨by simp [NetH.d,t5];omega,r5⟩
 ·refine ⟨by simp [NetH.d,n6];omega,?_⟩
  intro m hm
  simp only [NetH.d] at hm
  rw [m3] at hm
  exact m4 m hm
 ·refine ⟨by simp [NetH.d,n7];omega,?_⟩
  intro x hx
  simp only [NetH.d,List.mem_map] at hx
  obtain ⟨y,hy,rfl⟩:=hx
  have mem:∀z∈[y.1,y.2.1,y.2.2],z∈a':=by
   intro z hz;rw [ha];exact List.mem_flatMap.2 ⟨y,hy,hz⟩
  exact ⟨r7 _ (mem _ (by simp)),r7 _ (mem _ (by simp)),r7 _ (mem _ (by simp))⟩
theorem orc2_ok:ClOk Try.prog orc2:=by
 intro f vs h v h' e
 unfold orc2 at e
 split at e<;>try cases e
 rename_i hf
 have hf:=Nat.eq_of_beq_eq_true hf
 subst hf
 split at e<;>try cases e
 rename_i d hd
 refine ⟨⟨Try.f93,_,Try.func93,by kernel_rfl,rfl⟩,?_⟩
 intro F w args hne hF hw
 obtain ⟨s₁,hs₁⟩:=hne
 obtain ⟨N,n1,n2,n3,n4⟩:=orcM_spec hd (hF s₁ hs₁).1
 rw [←(hF s₁ hs₁).2,n1]
 refine (Za0r N w n2 n3).mono ?_
 rintro en w' ⟨rfl,hb⟩
 refine ⟨F,_,rfl,⟨fun s hs=>⟨s,hs,Below.ext hb⟩,fun s hs=>⟨s,hs,Below.ext hb⟩⟩,fun s hs=>⟨Below.hrel (hF s hs).1 hb,by rw [n4];rfl⟩⟩
end Go.Proofs.Ytnocaehijdmkkaa.Ev
end
section
namespace Go.Proofs.Ytnocaehijdmkkaa.Ev
open Go Go.RowKit
def Tr.All {α:Type} (p:Nat→α→Prop):Tr α→Nat→Nat→Prop
 | .nil,_,_=>True
 | .node v l r,a,b=>(match v with | some x=>p b x | none=>True)∧Tr.All p l (2*a) (a+b)∧Tr.All p r (2*a) (2*a+b)
theorem Tr.Za4d {α:Type} {p:Nat→α→Prop}:∀{t:Tr α} {a b:Nat},Tr.All p t a b→∀n x,t.get n=some x→p (a*n+b) x
 | .nil,_,_,_,n,x,h=>by simp [Tr.get] at h
 | .node v l r,a,b,⟨h1,h2,h3⟩,n,x,h=>by
  cases n with
  | zero=>
   simp [Tr.get] at h;subst h
   simpa using h1
  | succ m=>
   rw [Tr.Ztk] at h
   split at h
   ·have:=Tr.Za4d h2 _ _ h
    rw [show a*(m+1)+b=2*a*(m / 2)+(a+b) by
     have:m=2*(m / 2):=by omega
     rw [show a*(m+1)=a*m+a by rw [Nat.mul_add];simp,show a*m=a*(2*(m / 2)) by rw [←this],show a*(2*(m / 2))=2*a*(m / 2) by rw [←Nat.mul_assoc,Nat.mul_comm a 2]];omega]
    exact this
   ·have:=Tr.Za4d h3 _ _ h
    rw [show a*(m+1)+b=2*a*(m / 2)+(2*a+b) by
     have:m=2*(m / 2)+1:=by omega
     rw [show a*(m+1)=a*m+a by rw [Nat.mul_add];simp,show a*m=a*(2*(m / 2)+1) by rw [←this],show a*(2*(m / 2)+1)=2*a*(m / 2)+a by rw [Nat.mul_add,←Nat.mul_assoc,Nat.mul_comm a 2];simp];omega]
    exact this
set_option maxRecDepth 100000
noncomputable def env:Env:=.node (some Try.f0) (.node (some Try.f1) (.node (some Try.f3) (.node (some Try.f7) (.node (some Try.f15) (.node (some Try.f31) (.node (some Try.f63) (.node (some Try.f127) (.nil) (.nil)) (.nil)) (.node (some Try.f95) (.node (some Try.f159) (.nil) (.nil)) (.nil))) (.node (some Try.f47) (.node (some Try.f79) (.node (some Try.f143) (.nil) (.nil)) (.nil)) (.node (some Try.f111) (.nil) (.nil)))) (.node (some Try.f23) (.node (some Try.f39) (.node (some Try.f71) (.node (some Try.f135) (.nil) (.nil)) (.nil)) (.node (some Try.f103) (.node (some Try.f167) (.nil) (.nil)) (.nil))) (.node (some Try.f55) (.node (some Try.f87) (.node (some Try.f151) (.nil) (.nil)) (.nil)) (.node (some Try.f119) (.nil) (.nil))))) (.node (some Try.f11) (.node (some Try.f19) (.node (some Try.f35) (.node (some Try.f67) (.node (some Try.f131) (.nil) (.nil)) (.nil)) (.node (some Try.f99) (.node (some Try.f163) (.nil) (.nil)) (.nil))) (.node (some Try.f51) (.node (some Try.f83) (.node (some Try.f147) (.nil) (.nil)) (.nil)) (.node (some Try.f115) (.nil) (.nil)))) (.node (some Try.f27) (.node (some Try.f43) (.node (some Try.f75) (.node (some Try.f139) (.nil) (.nil)) (.nil)) (.node (some Try.f107) (.node (some Try.f171) (.nil) (.nil)) (.nil))) (.node (some Try.f59) (.node (some Try.f91) (.node (some Try.f155) (.nil) (.nil)) (.nil)) (.node (some Try.f123) (.nil) (.nil)))))) (.node (some Try.f5) (.node (some Try.f9) (.node (some Try.f17) (.node (some Try.f33) (.node (some Try.f65) (.node (some Try.f129) (.nil) (.nil)) (.nil)) (.node (some Try.f97) (.node (some Try.f161) (.nil) (.nil)) (.nil))) (.node (some Try.f49) (.node (some Try.f81) (.node (some Try.f145) (.nil) (.nil)) (.nil)) (.node (some Try.f113) (.nil) (.nil)))) (.node (some Try.f25) (.node (some Try.f41) (.node (some Try.f73) (.node (some Try.f137) (.nil) (.nil)) (.nil)) (.node (some Try.f105) (.node (some Try.f169) (.nil) (.nil)) (.nil))) (.node (some Try.f57) (.node (some Try.f89) (.node (some Try.f153) (.nil) (.nil)) (.nil)) (.node (some Try.f121) (.nil) (.nil))))) (.node (some Try.f13) (.node (some Try.f21) (.node (some Try.f37) (.node (some Try.f69) (.node (some Try.f133) (.nil) (.nil)) (.nil)) (.node (some Try.f101) (.node (some Try.f165) (.nil) (.nil)) (.nil))) (.node (some Try.f53) (.node (some Try.f85) (.node (some Try.f149) (.nil) (.nil)) (.nil)) (.node (some Try.f117) (.nil) (.nil)))) (.node (some Try.f29) (.node (some Try.f45) (.node (some Try.f77) (.node (some Try.f141) (.nil) (.nil)) (.nil)) (.node (some Try.f109) (.node (some Try.f173) (.nil) (.nil)) (.nil))) (.node (some Try.f61) (.node (some Try.f93) (.node (some Try.f157) (.nil) (.nil)) (.nil)) (.node (some Try.f125) (.nil) (.nil))))))) (.node (some Try.f2) (.node (some Try.f4) (.node (some Try.f8) (.node (some Try.f16) (.node (some Try.f32) (.node (some Try.f64) (.node (some Try.f128) (.nil) (.nil)) (.nil)) (.node (some Try.f96) (.node (some Try.f160) (.nil) (.nil)) (.nil))) (.node (some Try.f48) (.node (some Try.f80) (.node (some Try.f144) (.nil) (.nil)) (.nil)) (.node (some Try.f112) (.nil) (.nil)))) (.node (some Try.f24) (.node (some Try.f40) (.node (some Try.f72) (.node (some Try.f136) (.nil) (.nil)) (.nil)) (.node (some Try.f104) (.node (some Try.f168) (.nil) (.nil)) (.nil))) (.node (some Try.f56) (.node (some Try.f88) (.node (some Try.f152) (.nil) (.nil)) (.nil)) (.node (some Try.f120) (.nil) (.nil))))) (.node (some Try.f12) (.node (some Try.f20) (.node (some Try.f36) (.node (some Try.f68) (.node (some Try.f132) (.nil) (.nil)) (.nil)) (.node (some Try.f100) (.node (some Try.f164) (.nil) (.nil)) (.nil))) (.node (some Try.f52) (.node (some Try.f84) (.node (some Try.f148) (.nil) (.nil)) (.nil)) (.node (some Try.f116) (.nil) (.nil)))) (.node (some Try.f28) (.node (some Try.f44) (.node (some Try.f76) (.node (some Try.f140) (.nil) (.nil)) (.nil)) (.node (some Try.f108) (.node (some Try.f172) (.nil) (.nil)) (.nil))) (.node (some Try.f60) (.node (some Try.f92) (.node (some Try.f156) (.nil) (.nil)) (.nil)) (.node (some Try.f124) (.nil) (.nil)))))) (.node (some Try.f6) (.node (some Try.f10) (.node (some Try.f18) (.node (some Try.f34) (.node (some Try.f66) (.node (some Try.f130) (.nil) (.nil)) (.nil)) (.node (some Try.f98) (.node (some Try.f162) (.nil) (.nil)) (.nil))) (.node (some Try.f50) (.node (some Try.f82) (.node (some Try.f146) (.nil) (.nil)) (.nil)) (.node (some Try.f114) (.nil) (.nil)))) (.node (some Try.f26) (.node (some Try.f42) (.node (some Try.f74) (.node (some Try.f138) (.nil) (.nil)) (.nil)) (.node (some Try.f106) (.node (some Try.f170) (.nil) (.nil)) (.nil))) (.node (some Try.f58) (.node (some Try.f90) (.node (some Try.f154) (.nil) (.nil)) (.nil)) (.node (some Try.f122) (.nil) (.nil))))) (.node (some Try.f14) (.node (some Try.f22) (.node (some Try.f38) (.node (some Try.f70) (.node (some Try.f134) (.nil) (.nil)) (.nil)) (.node (some Try.f102) (.node (some Try.f166) (.nil) (.nil)) (.nil))) (.node (some Try.f54) (.node (some Try.f86) (.node (some Try.f150) (.nil) (.nil)) (.nil)) (.node (some Try.f118) (.nil) (.nil)))) (.node (some Try.f30) (.node (some Try.f46) (.node (some Try.f78) (.node (some Try.f142) (.nil) (.nil)) (.nil)) (.node (some Try.f110) (.nil) (.nil))) (.node (some Try.f62) (.node (some Try.f94) (.node (some Try.f158) (.nil) (.nil)) (.nil)) (.node (some Try.f126) (.nil) (.nil)))))))
set_option maxRecDepth 100000 in
theorem env_all:Tr.All (fun f fn=>Try.prog.funcs[f]?=some fn∧(fn.name == "runtime.NumGoroutine")=false) env 1 0:=⟨⟨Try.func0,by kernel_rfl⟩,⟨⟨Try.func1,by kernel_rfl⟩,⟨⟨Try.func3,by kernel_rfl⟩,⟨⟨Try.func7,by kernel_rfl⟩,⟨⟨Try.func15,by kernel_rfl⟩,⟨⟨Try.func31,by kernel_rfl⟩,⟨⟨Try.func63,by kernel_rfl⟩,⟨⟨Try.func127,by kernel_rfl⟩,trivial,trivial⟩,trivial⟩,⟨⟨Try.func95,by kernel_rfl⟩,⟨⟨Try.func159,by kernel_rfl⟩,trivial,trivial⟩,trivial⟩⟩,⟨⟨Try.func47,by kernel_rfl⟩,⟨⟨Try.func79,by kernel_rfl⟩,⟨⟨Try.func143,by kernel_rfl⟩,trivial,trivial⟩,trivial⟩,⟨⟨Try.func111,by kernel_rfl⟩,trivial,trivial⟩⟩⟩,⟨⟨Try.func23,by kernel_rfl⟩,⟨⟨Try.func39,by kernel_rfl⟩,⟨⟨Try.func71,by kernel_rfl⟩,⟨⟨Try.func135,by kernel_rfl⟩,trivial,trivial⟩,trivial⟩,⟨⟨Try.func103,by kernel_rfl⟩,⟨⟨Try.func167,by kernel_rfl⟩,trivial,trivial⟩,trivial⟩⟩,⟨⟨Try.func55,by kernel_rfl⟩,⟨⟨Try.func87,by kernel_rfl⟩,⟨⟨Try.func151,by kernel_rfl⟩,trivial,trivial⟩,trivial⟩,⟨⟨Try.func119,by kernel_rfl⟩,trivial,trivial⟩⟩⟩⟩,⟨⟨Try.func11,by kernel_rfl⟩,⟨⟨Try.func19,by kernel_rfl⟩,⟨⟨Try.func35,by kernel_rfl⟩,⟨⟨Try.func67,by kernel_rfl⟩,⟨⟨Try.func131,by kernel_rfl⟩,trivial,trivial⟩,trivial⟩,⟨⟨Try.func99,by kernel_rfl⟩,⟨⟨Try.func163,by kernel_rfl⟩,trivial,trivial⟩,trivial⟩⟩,⟨⟨Try.func51,by kernel_rfl⟩,⟨⟨Try.func83,by kernel_rfl⟩,⟨⟨Try.func147,by kernel_rfl⟩,trivial,trivial⟩,trivial⟩,⟨⟨Try.func115,by kernel_rfl⟩,trivial,trivial⟩⟩⟩,⟨⟨Try.func27,by kernel_rfl⟩,⟨⟨Try.func43,by kernel_rfl⟩,⟨⟨Try.func75,by kernel_rfl⟩,⟨⟨Try.func139,by kernel_rfl⟩,trivial,trivial⟩,trivial⟩,⟨⟨Try.func107,by kernel_rfl⟩,⟨⟨Try.func171,by kernel_rfl⟩,trivial,trivial⟩,trivial⟩⟩,⟨⟨Try.func59,by kernel_rfl⟩,⟨⟨Try.func91,by kernel_rfl⟩,⟨⟨Try.func155,by kernel_rfl⟩,trivial,trivial⟩,trivial⟩,⟨⟨Try.func123,by kernel_rfl⟩,trivial,trivial⟩⟩⟩⟩⟩,⟨⟨Try.func5,by kernel_rfl⟩,⟨⟨Try.func9,by kernel_rfl⟩,⟨⟨Try.func17,by kernel_rfl⟩,⟨⟨Try.func33,by kernel_rfl⟩,⟨⟨Try.func65,by kernel_rfl⟩,⟨⟨Try.func129,by kernel_rfl⟩,trivial,trivial⟩,trivial⟩,⟨⟨Try.func97,by kernel_rfl⟩,⟨⟨Try.func161,by kernel_rfl⟩,trivial,trivial⟩,trivial⟩⟩,⟨⟨Try.func49,by kernel_rfl⟩,⟨⟨Try.func81,by kernel_rfl⟩,⟨⟨Try.func145,by kernel_rfl⟩,trivial,trivial⟩,trivial⟩,⟨⟨Try.func113,by kernel_rfl⟩,trivial,trivial⟩⟩⟩,⟨⟨Try.func25,by kernel_rfl⟩,⟨⟨Try.func41,by kernel_rfl⟩,⟨⟨Try.func73,by kernel_rfl⟩,⟨⟨Try.func137,by kernel_rfl⟩,trivial,trivial⟩,trivial⟩,⟨⟨Try.func105,by kernel_rfl⟩,⟨⟨Try.func169,by kernel_rfl⟩,trivial,trivial⟩,trivial⟩⟩,⟨⟨Try.func57,by kernel_rfl⟩,⟨⟨Try.func89,by kernel_rfl⟩,⟨⟨Try.func153,by kernel_rfl⟩,trivial,trivial⟩,trivial⟩,⟨⟨Try.func121,by kernel_rfl⟩,trivial,trivial⟩⟩⟩⟩,⟨⟨Try.func13,by kernel_rfl⟩,⟨⟨Try.func21,by kernel_rfl⟩,⟨⟨Try.func37,by kernel_rfl⟩,⟨⟨Try.func69,by kernel_rfl⟩,⟨⟨Try.func133,by kernel_rfl⟩,trivial,trivial⟩,trivial⟩,⟨⟨Try.func101,by kernel_rfl⟩,⟨⟨Try.func165,by kernel_rfl⟩,trivial,trivial⟩,trivial⟩⟩,⟨⟨Try.func53,by kernel_rfl⟩,⟨⟨Try.func85,by kernel_rfl⟩,⟨⟨Try.func149,by kernel_rfl⟩,trivial,trivial⟩,trivial⟩,⟨⟨Try.func117,by kernel_rfl⟩,trivial,trivial⟩⟩⟩,⟨⟨Try.func29,by kernel_rfl⟩,⟨⟨Try.func45,by kernel_rfl⟩,⟨⟨Try.func77,by kernel_rfl⟩,⟨⟨Try.func141,by kernel_rfl⟩,trivial,trivial⟩,trivial⟩,⟨⟨Try.func109,by kernel_rfl⟩,⟨⟨Try.func173,by kernel_rfl⟩,trivial,trivial⟩,trivial⟩⟩,⟨⟨Try.func61,by kernel_rfl⟩,⟨⟨Try.func93,by kernel_rfl⟩,⟨⟨Try.func157,by kernel_rfl⟩,trivial,trivial⟩,trivial⟩,⟨⟨Try.func125,by kernel_rfl⟩,trivial,trivial⟩⟩⟩⟩⟩⟩,⟨⟨Try.func2,by kernel_rfl⟩,⟨⟨Try.func4,by kernel_rfl⟩,⟨⟨Try.func8,by kernel_rfl⟩,⟨⟨Try.func16,by kernel_rfl⟩,⟨⟨Try.func32,by kernel_rfl⟩,⟨⟨Try.func64,by kernel_rfl⟩,⟨⟨Try.func128,by kernel_rfl⟩,trivial,trivial⟩,trivial⟩,⟨⟨Try.func96,by kernel_rfl⟩,⟨⟨Try.func160,by kernel_rfl⟩,trivial,trivial⟩,trivial⟩⟩,⟨⟨Try.func48,by kernel_rfl⟩,⟨⟨Try.func80,by kernel_rfl⟩,⟨⟨Try.func144,by kernel_rfl⟩,trivial,trivial⟩,trivial⟩,⟨⟨Try.func112,by kernel_rfl⟩,trivial,trivial⟩⟩⟩,⟨⟨Try.func24,by kernel_rfl⟩,⟨⟨Try.func40,by kernel_rfl⟩,⟨⟨Try.func72,by kernel_rfl⟩,⟨⟨Try.func136,by kernel_rfl⟩,trivial,trivial⟩,trivial⟩,⟨⟨Try.func104,by kernel_rfl⟩,⟨⟨Try.func168,by kernel_rfl⟩,trivial,trivial⟩,trivial⟩⟩,⟨⟨Try.func56,by kernel_rfl⟩,⟨⟨Try.func88,by kernel_rfl⟩,⟨⟨Try.func152,by kernel_rfl⟩,trivial,trivial⟩,trivial⟩,⟨⟨Try.func120,by kernel_rfl⟩,trivial,trivial⟩⟩⟩⟩,⟨⟨Try.func12,by kernel_rfl⟩,⟨⟨Try.func20,by kernel_rfl⟩,⟨⟨Try.func36,by kernel_rfl⟩,⟨⟨Try.func68,by kernel_rfl⟩,⟨⟨Try.func132,by kernel_rfl⟩,trivial,trivial⟩,trivial⟩,⟨⟨Try.func100,by kernel_rfl⟩,⟨⟨Try.func164,by kernel_rfl⟩,trivial,trivial⟩,trivial⟩⟩,⟨⟨Try.func52,by kernel_rfl⟩,⟨⟨Try.func84,by kernel_rfl⟩,⟨⟨Try.func148,by kernel_rfl⟩,trivial,trivial⟩,trivial⟩,⟨⟨Try.func116,by kernel_rfl⟩,trivial,trivial⟩⟩⟩,⟨⟨Try.func28,by kernel_rfl⟩,⟨⟨Try.func44,by kernel_rfl⟩,⟨⟨Try.func76,by kernel_rfl⟩,⟨⟨Try.func140,by kernel_rfl⟩,trivial,trivial⟩,trivial⟩,⟨⟨Try.func108,by kernel_rfl⟩,⟨⟨Try.func172,by kernel_rfl⟩,trivial,trivial⟩,trivial⟩⟩,⟨⟨Try.func60,by kernel_rfl⟩,⟨⟨Try.func92,by kernel_rfl⟩,⟨⟨Try.func156,by kernel_rfl⟩,trivial,trivial⟩,trivial⟩,⟨⟨Try.func124,by kernel_rfl⟩,trivial,trivial⟩⟩⟩⟩⟩,⟨⟨Try.func6,by kernel_rfl⟩,⟨⟨Try.func10,by kernel_rfl⟩,⟨⟨Try.func18,by kernel_rfl⟩,⟨⟨Try.func34,by kernel_rfl⟩,⟨⟨Try.func66,by kernel_rfl⟩,⟨⟨Try.func130,by kernel_rfl⟩,trivial,trivial⟩,trivial⟩,⟨⟨Try.func98,by kernel_rfl⟩,⟨⟨Try.func162,by kernel_rfl⟩,trivial,trivial⟩,trivial⟩⟩,⟨⟨Try.func50,by kernel_rfl⟩,⟨⟨Try.func82,by kernel_rfl⟩,⟨⟨Try.func146,by kernel_rfl⟩,trivial,trivial⟩,trivial⟩,⟨⟨Try.func114,by kernel_rfl⟩,trivial,trivial⟩⟩⟩,⟨⟨Try.func26,by kernel_rfl⟩,⟨⟨Try.func42,by kernel_rfl⟩,⟨⟨Try.func74,by kernel_rfl⟩,⟨⟨Try.func138,by kernel_rfl⟩,trivial,trivial⟩,trivial⟩,⟨⟨Try.func106,by kernel_rfl⟩,⟨⟨Try.func170,by kernel_rfl⟩,trivial,trivial⟩,trivial⟩⟩,⟨⟨Try.func58,by kernel_rfl⟩,⟨⟨Try.func90,by kernel_rfl⟩,⟨⟨Try.func154,by kernel_rfl⟩,trivial,trivial⟩,trivial⟩,⟨⟨Try.func122,by kernel_rfl⟩,trivial,trivial⟩⟩⟩⟩,⟨⟨Try.func14,by kernel_rfl⟩,⟨⟨Try.func22,by kernel_rfl⟩,⟨⟨Try.func38,by kernel_rfl⟩,⟨⟨Try.func70,by kernel_rfl⟩,⟨⟨Try.func134,by kernel_rfl⟩,trivial,trivial⟩,trivial⟩,⟨⟨Try.func102,by kernel_rfl⟩,⟨⟨Try.func166,by kernel_rfl⟩,trivial,trivial⟩,trivial⟩⟩,⟨⟨Try.func54,by kernel_rfl⟩,⟨⟨Try.func86,by kernel_rfl⟩,⟨⟨Try.func150,by kernel_rfl⟩,trivial,trivial⟩,trivial⟩,⟨⟨Try.func118,by kernel_rfl⟩,trivial,trivial⟩⟩⟩,⟨⟨Try.func30,by kernel_rfl⟩,⟨⟨Try.func46,by kernel_rfl⟩,⟨⟨Try.func78,by kernel_rfl⟩,⟨⟨Try.func142,by kernel_rfl⟩,trivial,trivial⟩,trivial⟩,⟨⟨Try.func110,by kernel_rfl⟩,trivial,trivial⟩⟩,⟨⟨Try.func62,by kernel_rfl⟩,⟨⟨Try.func94,by kernel_rfl⟩,⟨⟨Try.func158,by kernel_rfl⟩,trivial,trivial⟩,trivial⟩,⟨⟨Try.func126,by kernel_rfl⟩,trivial,trivial⟩⟩⟩⟩⟩⟩⟩
theorem env_ok:EnvOk Try.prog env:=by
 intro f fn h
 have:=Tr.Za4d env_all f fn h
 simpa using this
end Go.Proofs.Ytnocaehijdmkkaa.Ev
end
section
namespace Go.Proofs.Ytnocaehijdmkkaa.V
open Go Go.RowKit
set_option maxRecDepth 1000000
theorem alive13_run:Ev.isT (Ev.Za5g Try.prog Ev.env (Ev.Za98 Try.prog) Ev.orc2 100000 8 [])=true:=by kernel_rfl
def a13F:TL []→Option (TL [.bool]):=fun _=>some (true,())
theorem comes_true13 {P:Program} {f:FuncId} {fn:Func} {c:Code} (hf:P.funcs[f]?=some fn) (hname:(fn.name == "runtime.NumGoroutine")=false) (hb:fn.body=some c)
  (h:∀w,Calls P f #[] w fun e w'=>e=.returned (.bool true)∧Below w.heap.size w w'):Comes P f [] [.bool] (fun _=>some (true,())):=by
 refine ⟨⟨fn,c,hf,hname,hb⟩,?_⟩
 intro d x hx w A args hA ha
 have hx:(true,())=x:=Option.some.inj hx
 subst hx
 have:args=[]:=ha
 subst this
 refine (h w).mono ?_
 rintro e w' ⟨rfl,hb⟩
 exact ⟨[.bool true],rfl,hb,_,[],rfl,⟨rfl,rfl⟩,rfl⟩
theorem alive13_comes:Comes Try.prog 8 [] [.bool] a13F:=
 comes_true13 (fn:=Try.f8) (c:=Zaa Try.f8) Try.func8 (by kernel_rfl) (by kernel_rfl) (fun w=>Ev.evTrue Ev.env_ok (Ev.Za97 Zac) Ev.orc2_ok alive13_run rfl (fun _=>(0,0)) w)
abbrev astrariumlaw13_alive_T:=TL []→Option (TL [.bool])
abbrev astrariumlaw13_alive_D:=Kd 8 [] [.bool]
def astrariumlaw13_alive_K:astrariumlaw13_alive_D:=⟨a13F,alive13_comes⟩
def astrariumlaw13_alive_FF:astrariumlaw13_alive_T:=astrariumlaw13_alive_K.F
end Go.Proofs.Ytnocaehijdmkkaa.V
end
