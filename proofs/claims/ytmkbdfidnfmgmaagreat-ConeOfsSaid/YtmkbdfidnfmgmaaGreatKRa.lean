import Derived.Test.YtmkbdfidnfmgmaaGreatKNa
import Derived.BigRegion
import Derived.Deep.MidRow
import Derived.StillTailTactics
import Derived.Deep.RegionHeld3
set_option linter.all false
section
namespace Go.Proofs.YtmkbdfidnfmgmaaGreat
open Go Go.RowKit
theorem Below.xn{B:Nat}{w w':World}(h:Below B w w')(p:Addr)(u:Value):Below B (w.setCell p u) (w'.setCell p u):=by refine⟨h.os,h.tape,h.output,by simpa[World.setCell]using h.size,fun k hk=>?_⟩;simp only[World.setCell,Array.getElem?_modify];rw[h.block k hk]
set_option maxHeartbeats 400000
theorem aly(w:World)(A:pi)(n c:Nat)(to:jp)(q b o:Nat)(x:Int)(hR:Reads w w.heap.size 1 A n (to.map (Value.int .i64)))
  (hq:w.cell? ⟨q,0,none⟩=some (.pointer (some ⟨b,o,none⟩))) (hx:w.cell? ⟨b,o,none⟩=some (.int .i64 x)) (hf:w.frozen? ⟨b,o,none⟩=false)
  (h0:0<=x) (h1:x<n) (hn:n<=1048576) :
  Calls Tryz.prog 151 #[.agg #[.slice A n c],.slice (some ⟨q,0,none⟩) 1 1] w fun e w'=>e=.returned (.tuple #[])/\Below w.heap.size (w.setCell ⟨b,o,none⟩ (.int .i64 (to.getD x.toNat 0))) w':=by
 obtain⟨k,rfl⟩:=By h0;obtain⟨b',off,rfl,hbB,hcell⟩:=hR.pJ (k:=k) auc;rw[ST];generalize to.getD k 0=y at *
 go_enter Tryz.func151,Tryz.ntmps151
 go_wp2_with fail
 go_loopw [8] (fun i wr=>∃j:Nat,j<=1/\i=.int .i64 j/\wr.cell? ⟨w.heap.size,0,none⟩=some (.slice (some ⟨b',off,none⟩) n c)/\(j=0->Below w.heap.size w wr)/\(j=1->Below w.heap.size (w.setCell ⟨b,o,none⟩ (.int .i64 y)) wr)) (fun i _=>1-(intOf i).toNat)
 case atStart=>
  refine⟨0,auc,rfl,?_,fun _=>(Below.refl _ w).alloc (ro _) _,fun h=>auc⟩
  go_simp
 case round=>
  obtain⟨j,hj,rfl,hbox,hb0,hb1⟩:=hrel;by_cases hlt:j<1
  .obtain rfl:j=0:=auc
   have hb:=hb0 rfl;have bw:b<w.heap.size:=World.block_lt_of_cell? w _ hx;have qw:q<w.heap.size:=World.block_lt_of_cell? w _ hq;have hq':=(hb.cell (p:=⟨q,0,none⟩) qw).trans hq;have hx':=(hb.cell (p:=⟨b,o,none⟩) bw).trans hx;have hf':=(hb.frozen (p:=⟨b,o,none⟩) bw).trans hf;have hc':=(hb.cell (p:=⟨b',off+k,none⟩) hbB).trans hcell
   go_wp2_with fail
   go_region
   all_goals go_wp2_with fail
   go_roundw
   case rel=>refine⟨1,ro _,by go_num,?_,fun e=>auc,fun _=>(Below.xn hb _ _).drew⟩;show(wr.setCell ⟨b,o,none⟩ (.int .i64 y)).cell? ⟨w.heap.size,0,none⟩=_;refine Eq.trans (World.cell?_of_block (w:=wr) (Below.heap_setCell _ _ _ _ ?_)) hbox;exact fun e=>by have e:w.heap.size=b:=e;omega
   case measure=>simp[intOf]
  .obtain rfl:j=1:=auc
   have hb:=hb1 rfl
   go_wp2_with fail
   exact⟨rfl,.tuple #[],results_none rfl _ _ _,rfl,hb⟩
theorem E4(a:Nat)(ha:a<9223372036854775808):(BitVec.ofInt 64 (a:Int)).toNat=a:=by rw[BitVec.ofInt_natCast,BitVec.toNat_ofNat];omega
theorem anP(x:Int)(h:0<=x)(h':x<=9223372036854775807):bits .and .i64 x 1=x % 2:=by obtain⟨n,rfl⟩:=By h;show IntKind.i64.wrap ((BitVec.ofInt 64 (n:Int) &&& BitVec.ofInt 64 ((1:Nat):Int)).toNat:Int)=_;rw[BitVec.toNat_and,E4 n auc,E4 1 auc,Nat.and_one_is_mod,IntKind.wrap_i64];omega
theorem anQ(v:Int)(h:0<=v)(h':v<=1000000):bits .xor .i64 (v*2) 1=2*v+1:=by
 obtain⟨n,rfl⟩:=By h;rw[show((n:Int)*2)=((2*n:Nat):Int) by omega];show IntKind.i64.wrap ((BitVec.ofInt 64 ((2*n:Nat):Int) ^^^ BitVec.ofInt 64 ((1:Nat):Int)).toNat:Int)=_;have e1:(2*n ^^^ 1) % 2=1:=by rw[Nat.mod_two_eq_one_iff_testBit_zero,Nat.testBit_xor];simp[Nat.testBit_zero]
 have e2:(2*n ^^^ 1) / 2=n:=by rw[Nat.xor_div_two];simp
 rw[BitVec.toNat_xor,E4 (2*n) auc,E4 1 auc,IntKind.wrap_i64];omega
theorem akr(x:Int)(w:World)(h:0<=x)(h':x<=9223372036854775807):Calls Tryz.prog 80 #[.int .i64 x] w fun e w'=>e=.returned (.bool (x % 2 == 1))/\w=w':=by
 go_enter Tryz.func80,Tryz.ntmps80
 go_wp2
 go_ret
 exact⟨by rw[anP x h h'];rfl,rfl⟩
theorem akg(v:Int)(b:Bool)(w:World)(h:0<=v)(h':v<=1000000):Calls Tryz.prog 74 #[.int .i64 v,.bool b] w fun e w'=>e=.returned (.int .i64 (2*v+(if b then 1 else 0)))/\w=w':=by
 cases b
 .go_enter Tryz.func74,Tryz.ntmps74
  go_wp2
  go_ret
  exact⟨Zm2 auc,rfl⟩
 .have E:=Lib.hid (anQ v h h')
  go_enter Tryz.func74,Tryz.ntmps74
  go_wp2
  go_ret
  exact⟨Zm2 E.out,rfl⟩
abbrev fE:=Nat×Nat×Int
def fE.ad(u:fE):Addr:=⟨u.1,u.2.1,none⟩
def az(to:jp)(x:Int):Int:=2*to.getD (x / 2).toNat 0+(if x % 2 == 1 then 1 else 0)
def cN(f:Int->Int)(w:World)(us:List fE):World:=us.foldl (fun w u=>w.setCell u.ad (.int .i64 (f u.2.2))) w
theorem aal(f:Int->Int)(w:World)(us:List fE)(u:fE):cN f w (us++[u])=(cN f w us).setCell u.ad (.int .i64 (f u.2.2)):=by unfold cN;rw[aso];rfl
theorem Of(w:World)(p a:Addr)(v:Value)(hp:p.spot=none)(ha:a.spot=none)(h:p≠a):(w.setCell p v).cell? a=w.cell? a:=by obtain⟨pb,po,ps⟩:=p;obtain⟨ab,ao,aq⟩:=a;cases hp;cases ha;have:=World.cell?_setCells_out pb [v] po w ⟨ab,ao,none⟩ (by intro e _;have e:ab=pb:=e;subst e;have:po≠ao:=fun q=>h (by rw[q]);show ao<po\/po+1<=ao;omega);exact this
theorem nz(f:Int->Int):∀(us:List fE) (w:World) (a:Addr),a.spot=none->(∀u∈us,u.ad≠a)->(cN f w us).cell? a=w.cell? a
 |[],w,a,_,_=>rfl|u::us,w,a,ha,h=>(nz f us _ a ha fun x hx=>h x (Id _ hx)).trans (Of w u.ad a _ rfl ha (h u (Pi ..)))
theorem EL(f:Int->Int):∀(us:List fE) (w:World) (a:Addr),(cN f w us).frozen? a=w.frozen? a
 |[],w,a=>rfl|u::us,w,a=>(EL f us _ a).trans (World.frozen?_setCells u.ad.block [.int .i64 (f u.2.2)] u.ad.off w a)
theorem mE(f:Int->Int):∀(us:List fE) (w:World),(cN f w us).heap.size=w.heap.size
 |[],w=>rfl|u::us,w=>(mE f us _).trans (by simp[World.setCell])
structure nJ(w:World)(n b':Nat)(us:List fE):Prop where
 at_:∀u∈us,w.cell? u.ad=some (.int .i64 u.2.2)/\w.frozen? u.ad=false/\0<=u.2.2/\u.2.2 / 2<n/\u.1≠b'
 nd:(us.map fE.ad).Nodup
theorem nJ.abc{w:World}{n b':Nat}{us:List fE}(h:nJ w n b' us){j:Nat}(hj:j<us.length):∀u∈us.take j,u.ad≠us[j].ad:=by
 intro u hu e;obtain⟨i,hi,rfl⟩:=ash hu;have hi':i<j:=by rw[dK]at hi;omega
 rw[List.getElem_take]at e;exact asN.1 h.nd i j (by rw[aG];omega) (by rw[aG];omega) hi' (by rw[atA,atA];exact e)
set_option maxRecDepth 20000
set_option maxHeartbeats 2000000
theorem aa5(w:World)(b' off n c:Nat)(to:jp)(q c2:Nat)(us:List fE)(hR:Reads w w.heap.size 1 (some ⟨b',off,none⟩) n (to.map (Value.int .i64)))
  (hQ:Reads w w.heap.size 1 (some ⟨q,0,none⟩) us.length (us.map fun u=>Value.pointer (some u.ad))) (hU:nJ w n b' us) (d8:∀y∈to,0<=y/\y<=1000000) (hn:n<=1048576) (hm:us.length<=1000) :
  Calls Tryz.prog 152 #[.agg #[.slice (some ⟨b',off,none⟩) n c],.slice (some ⟨q,0,none⟩) us.length c2] w fun e w'=>e=.returned (.tuple #[])/\Below w.heap.size (cN (az to) w us) w':=by
 go_enter Tryz.func152,Tryz.ntmps152
 go_wp2_with fail
 go_loopw [8] (fun i wr=>∃j:Nat,j<=us.length/\i=.int .i64 j/\wr.cell? ⟨w.heap.size,0,none⟩=some (.slice (some ⟨b',off,none⟩) n c)/\Below w.heap.size (cN (az to) w (us.take j)) wr) (fun i _=>us.length-(intOf i).toNat)
 case atStart=>
  refine⟨0,Do _,rfl,?_,(Below.refl _ w).alloc (ro _) _⟩
  go_simp
 case round=>
  obtain⟨j,hj,rfl,hbox,hb⟩:=hrel;by_cases hlt:j<us.length
  .have hu:=hU.at_ us[j] (ut hlt);have hne:=hU.abc hlt;obtain⟨ad,p,ea,hadB,hp,hpc⟩:=hQ.at_ hlt;cases ea;rw[cW,bA hlt]at hp;cases hp;rw[Addr.add_mid]at hpc;have hqc:∀u∈us.take j,u.ad≠⟨q,0+j,none⟩:=by intro u hu' e;have:=(hU.at_ u (asf hu')).1;rw[e,hpc]at this;cases this
   have hpc:=(nz (az to) (us.take j) w _ rfl hqc).trans hpc;have hpc:wr.cell? ⟨q,j,none⟩=some (.pointer (some us[j].ad)):=by
    have:=(hb.cell (p:=⟨q,0+j,none⟩) hadB).trans hpc
    rwa [asz]at this
   have hxB:(us[j].ad).block<w.heap.size:=World.block_lt_of_cell? w _ hu.1;have hxc:=(hb.cell (p:=us[j].ad) hxB).trans ((nz (az to) (us.take j) w _ rfl hne).trans hu.1);have hxf:=(hb.frozen (p:=us[j].ad) hxB).trans ((EL (az to) (us.take j) w _).trans hu.2.1);obtain⟨k,hk⟩:=By (show 0<=us[j].2.2 / 2 by omega);have hkn:k<n:=auc
   obtain⟨tb,toff,te,htB,htc⟩:=hR.pJ (k:=k) auc;cases te;have htc:=(hb.cell (p:=⟨b',off+k,none⟩) htB).trans ((nz (az to) (us.take j) w _ rfl (fun u hu' e=>(hU.at_ u (asf hu')).2.2.2.2 (by have:=OF Addr.block e;exact this))).trans htc);have hren:az to us[j].2.2=2*to.getD k 0+(if us[j].2.2 % 2 == 1 then 1 else 0):=by unfold az;rw[hk];rfl
   have hyb:0<=to.getD k 0/\to.getD k 0<=1000000:=by
    have hl:to.length=n:=by have:=hR.1;simpa using this
    rw[ff,bA auc];exact d8 _ (ut _)
   have hsn:=aal (az to) w (us.take j) us[j];rw[atQ hlt]at hsn;have hx0:=hu.2.2.1;have HS:=Lib.hid hsn;have HR:=Lib.hid hren;have HK:=Lib.hid hk;have HU:=Lib.hid hU;clear hsn hren hk hu hne hqc hU hQ hR d8;generalize hv:us[j]=uj at *
   obtain⟨ub,uo,x⟩:=uj;generalize to.getD k 0=y at *
   have hk:x / 2=(k:Int):=HK.out;have hx1:x<=9223372036854775807:=auc
   have HV:Hid (∀w,Calls Tryz.prog 79 #[.int .i64 x] w fun e w'=>e=.returned (.int .i64 (k:Nat))/\w=w'):=fun w=>hk▸adF x w hx0 hx1;have HN:Hid (∀w,Calls Tryz.prog 80 #[.int .i64 x] w fun e w'=>e=.returned (.bool (x % 2 == 1))/\w=w'):=fun w=>akr x w hx0 hx1;have HM:Hid (∀w,Calls Tryz.prog 74 #[.int .i64 y,.bool (x % 2 == 1)] w fun e w'=>e=.returned (.int .i64 (2*y+(if(x % 2 == 1)=true then 1 else 0)))/\w=w'):=fun w=>akg y _ w hyb.1 hyb.2;clear hk hx0 hx1 hyb;generalize hbb:(x % 2 == 1)=bb at *
   generalize hz:(2*y+if bb=true then 1 else 0:Int)=z at *
   go_wp2_with fail
   refine wp_region_still_tail 14 aud aud ?_;simp only[List.take_succ_cons,WP,List.drop_succ_cons,List.drop_zero];change wpStill _ _ wr.drew _ _ _;change wpStill _ _ _ (fun a'=>wpList _ _ _ _ a' wr.drew) _ _;have hbox:wr.drew.cell? ⟨w.heap.size,0,none⟩=some (.slice (some ⟨b',off,none⟩) n c):=hbox;have hxc:wr.drew.cell? ⟨ub,uo,none⟩=some (.int .i64 x):=hxc;have hxf:wr.drew.frozen? ⟨ub,uo,none⟩=false:=hxf;have htc:wr.drew.cell? ⟨b',off+k,none⟩=some (.int .i64 y):=htc;have hb:Below w.heap.size (cN (az to) w (List.take j us)) wr.drew:=hb.drew;generalize wr.drew=w2 at *
   simp only[fE.ad]
   still_step
   still_step
   still_step
   still_step
   still_step
   still_step
   still_call ((HV.out _).mono (by rintro e w' ⟨rfl,rfl⟩;exact⟨rfl,rfl⟩))
   iterate 5 still_step
   still_call ((HN.out _).mono (by rintro e w' ⟨rfl,rfl⟩;exact⟨rfl,rfl⟩))
   still_call ((HM.out _).mono (by rintro e w' ⟨rfl,rfl⟩;exact⟨rfl,rfl⟩))
   refine wpStill_nil ?_
   go_wp2_with fail
   go_roundw
   case rel=>
    refine⟨j+1,auc,by go_num,?_,?_⟩
    .refine Eq.trans (World.cell?_of_block (w:=w2) (Below.heap_setCell _ _ _ _ ?_)) hbox;have:ub<w.heap.size:=hxB;exact fun e=>by have e:w.heap.size=ub:=e;omega
    .rw[HS.out,HR.out];exact Below.xn hb _ _
   case measure=>simp[intOf];omega
  .obtain rfl:j=us.length:=auc
   rw[cV]at hb
   go_wp2_with fail
   exact⟨rfl,.tuple #[],results_none rfl _ _ _,rfl,hb⟩
structure mJ(α:Type) where
 A:Option Nat
 cap:Nat
 xs:List α
def mJ.v{α:Type}(r:mJ α):Value:=.slice (r.A.map fun b=>⟨b,0,none⟩) r.xs.length r.cap
def mJ.b{α:Type}(r:mJ α):Nat:=r.A.getD 0
abbrev dJ:=mJ Int
def dJ.us(l:dJ):List fE:=l.xs.zipIdx.map fun p=>(l.b,p.2,p.1)
theorem dJ.xp(l:dJ):(dJ.us l).length=l.xs.length:=by simp[dJ.us]
theorem dJ.aoD(l:dJ){i:Nat}(h:i<l.xs.length):(dJ.us l)[i]'(by rw[dJ.xp l];exact h)=(l.b,i,l.xs[i]):=by simp[dJ.us]
theorem nJ.one{w w3:World}{n b':Nat}{us:List fE}(h:nJ w n b' us){f:Int->Int}{j:Nat}(hj:j<us.length)(hb:Below w.heap.size (cN f w (us.take j)) w3):nJ w3 n b' [us[j]]:=by have hu:=h.at_ us[j] (ut hj);have hB:(us[j].ad).block<w.heap.size:=World.block_lt_of_cell? w _ hu.1;refine⟨fun u hm=>?_,aue⟩;obtain rfl:=GE.1 hm;exact⟨(hb.cell hB).trans ((nz f _ w _ rfl (h.abc hj)).trans hu.1),(hb.frozen hB).trans ((EL f _ w _).trans hu.2.1),hu.2.2⟩
theorem nJ.row{w w3:World}{n b' off:Nat}{to:jp}{us:List fE}(h:nJ w n b' us){f:Int->Int}{j:Nat}(hb:Below w.heap.size (cN f w (us.take j)) w3)(hs:w.heap.size<=w3.heap.size)
  (hR:Reads w w.heap.size 1 (some ⟨b',off,none⟩) n (to.map (Value.int .i64))):Reads w3 w3.heap.size 1 (some ⟨b',off,none⟩) n (to.map (Value.int .i64)):=by
 refine(Reads.more ?_ hs);by_cases hn:0<n
 .obtain⟨hl,hrow⟩:=hR;refine⟨hl,fun hp=>?_⟩;obtain⟨ad,e,hB,hc⟩:=hrow hp;refine⟨ad,e,hB,fun i v hv=>?_⟩;have e:ad=⟨b',off,none⟩:=(BY e).symm;subst e;have:=hc i v hv;rw[Addr.add_mid]at this |-;refine(hb.cell (p:=⟨b',off+i,none⟩) hB).trans ((nz f _ w _ rfl fun u hu q=>?_).trans this);have q:u.1=b':=OF Addr.block q;exact(h.at_ u (asf hu)).2.2.2.2 q
 .obtain rfl:n=0:=auc
  exact⟨hR.1,fun hp=>absurd hp auc⟩
theorem Z9:∀(ls:List dJ) (j:Nat) (i:Nat) (hj:j<ls.length),i<=ls[j].xs.length->(ls.flatMap dJ.us).take (((ls.take j).flatMap dJ.us).length+i)=(ls.take j).flatMap dJ.us++(dJ.us ls[j]).take i
 |l::ls,0,i,_,hi=>by show(dJ.us l++ls.flatMap dJ.us).take (0+i)=[]++(dJ.us l).take i;rw[asz,asS (by rw[dJ.xp];exact hi)];rfl|l::ls,j+1,i,hj,hi=>by
  have hj':j<ls.length:=by simpa using hj
  have ih:=Z9 ls j i hj' hi;show(dJ.us l++ls.flatMap dJ.us).take ((dJ.us l++(ls.take j).flatMap dJ.us).length+i)=(dJ.us l++(ls.take j).flatMap dJ.us)++(dJ.us (ls[j]'hj')).take i;rw[bF,asP,asW,ih,bM]
theorem aau:∀(ls:List dJ) (j:Nat) (i:Nat) (hj:j<ls.length) (hi:i<ls[j].xs.length),(ls.flatMap dJ.us)[((ls.take j).flatMap dJ.us).length+i]?=some (ls[j].b,i,ls[j].xs[i])
 |l::ls,0,i,_,hi=>by show(dJ.us l++ls.flatMap dJ.us)[0+i]?=_;rw[asz,Ne (by rw[dJ.xp];exact hi),bA (by rw[dJ.xp];exact hi),dJ.aoD l hi];rfl|l::ls,j+1,i,hj,hi=>by
  have hj':j<ls.length:=by simpa using hj
  have ih:=aau ls j i hj' hi;show(dJ.us l++ls.flatMap dJ.us)[(dJ.us l++(ls.take j).flatMap dJ.us).length+i]?=_;rw[bF,asP,In (Nat.le_add_right _ _),aty,ih];rfl
set_option maxHeartbeats 4000000
theorem alx(w:World)(b' off n c:Nat)(to:jp)(q c2:Nat)(ls:List dJ)(hR:Reads w w.heap.size 1 (some ⟨b',off,none⟩) n (to.map (Value.int .i64)))
  (hQ:Reads w w.heap.size 1 (some ⟨q,0,none⟩) ls.length (ls.map mJ.v)) (hU:nJ w n b' (ls.flatMap dJ.us)) (d8:∀y∈to,0<=y/\y<=1000000) (hn:n<=1048576) (hm:ls.length<=1000) (hx:∀l∈ls,l.xs.length<=1048576/\(l.xs≠[]->l.A=some l.b)) :
  Calls Tryz.prog 153 #[.agg #[.slice (some ⟨b',off,none⟩) n c],.slice (some ⟨q,0,none⟩) ls.length c2] w fun e w'=>e=.returned (.tuple #[])/\Below w.heap.size (cN (az to) w (ls.flatMap dJ.us)) w':=by
 go_enter Tryz.func153,Tryz.ntmps153
 go_wp2_with fail
 go_loopw [9] (fun i wr=>∃j:Nat,j<=ls.length/\i=.int .i64 j/\wr.cell? ⟨w.heap.size,0,none⟩=some (.slice (some ⟨b',off,none⟩) n c)/\w.heap.size<wr.heap.size/\Below w.heap.size (cN (az to) w ((ls.take j).flatMap dJ.us)) wr) (fun i _=>ls.length-(intOf i).toNat)
 case atStart=>
  refine⟨0,Do _,rfl,?_,?_,(Below.refl _ w).alloc (ro _) _⟩
  .go_simp
  .simp
 case round=>
  obtain⟨j,hj,rfl,hbox,hsz,hb⟩:=hrel;by_cases hlt:j<ls.length
  .have hft:=fun i hi=>Z9 ls j i hlt hi;have hxl:=hx ls[j] (ut hlt);have hqa:wr.cell? ⟨q,j,none⟩=some ls[j].v:=by
    obtain⟨ad,p,ea,hadB,hp,hpc⟩:=hQ.at_ hlt;cases ea;rw[cW,bA hlt]at hp;cases hp;rw[Addr.add_mid]at hpc;have h0:=hft 0 (Do _);rw[WP,di]at h0;rw[<-h0]at hb;have:=(hb.cell (p:=⟨q,0+j,none⟩) hadB).trans ((nz (az to) _ w _ rfl fun u hu e=>by have:=(hU.at_ u (asf hu)).1;rw[e,hpc]at this;cases this).trans hpc)
    rwa [asz]at this
   have HFT:=Lib.hid hft;have HU:=Lib.hid hU;have HR:=Lib.hid hR;have HT:=Lib.hid d8;clear hft hQ hU hR d8 hx;obtain⟨oa,hv,hoa⟩:∃oa:pi,ls[j].v=.slice oa ls[j].xs.length ls[j].cap/\(0<ls[j].xs.length->oa=some ⟨ls[j].b,0,none⟩):=by refine⟨_,rfl,fun h=>?_⟩;rw[hxl.2 (fun e=>by rw[e]at h;exact Nat.lt_irrefl 0 h)];rfl
   have hxl:=hxl.1;rw[hv]at hqa;have HO:=Lib.hid hoa;clear hv hoa
   go_wp2_with fail
   go_loopw [15] (fun i' wq=>∃i:Nat,i<=ls[j].xs.length/\i'=.int .i64 i/\wq.cell? ⟨w.heap.size,0,none⟩=some (.slice (some ⟨b',off,none⟩) n c)/\w.heap.size<wq.heap.size/\Below w.heap.size (cN (az to) w ((ls.flatMap dJ.us).take (((ls.take j).flatMap dJ.us).length+i))) wq) (fun i' _=>ls[j].xs.length-(intOf i').toNat)
   case atStart=>refine⟨0,Do _,rfl,hbox,hsz,?_⟩;rw[HFT.out 0 (Do _),WP,di];exact hb
   case round=>
    clear hbox hsz hb;obtain⟨i,hi,rfl,hbox,hsz,hb⟩:=hrel;by_cases hil:i<ls[j].xs.length
    .obtain rfl:oa=some ⟨ls[j].b,0,none⟩:=HO.out auc;clear HO;have hat:=aau ls j i hlt hil;have hLi:=(rg.1 hat).1;have hUi:=(rg.1 hat).2;have hone:=HU.out.one hLi hb;rw[hUi]at hone;have hrow:=HU.out.row hb auc HR.out;have hsn:=aal (az to) w ((ls.flatMap dJ.us).take (((ls.take j).flatMap dJ.us).length+i)) ((ls.flatMap dJ.us)[((ls.take j).flatMap dJ.us).length+i]);rw[atQ hLi,hUi]at hsn;have HS:=Lib.hid hsn;have HO2:=Lib.hid hone;have HW:=Lib.hid hrow;have HL:Hid (∀(W:World) (q':Nat) (ad:Addr),q'=wr.heap.size->W=(wr.alloc (Obj.cells #[Value.pointer (some ad)] 224)).drew->ad=⟨ls[j].b,i,none⟩ ->
      Calls Tryz.prog 152 #[.agg #[.slice (some ⟨b',off,none⟩) n c],.slice (some ⟨q',0,none⟩) 1 1] W fun e w'=>e=.returned (.tuple #[])/\Below wr.heap.size (wr.setCell ⟨ls[j].b,i,none⟩ (.int .i64 (az to ls[j].xs[i]))) w'):=by
      intro W q' ad e1 e2 e3;subst e1 e2 e3;have hsz3:wr.heap.size<=(wr.alloc (Obj.cells #[Value.pointer (some ⟨ls[j].b,i,none⟩)] 224)).drew.heap.size:=by show _<=(wr.alloc _).heap.size;simp
      have hb3:Below wr.heap.size wr (wr.alloc (Obj.cells #[Value.pointer (some ⟨ls[j].b,i,none⟩)] 224)).drew:=((Below.refl _ wr).alloc (ro _) _).drew;have hu:=hone.at_ _ (GE.2 rfl);have huB:ls[j].b<wr.heap.size:=World.block_lt_of_cell? wr _ hu.1;have hro:Reads (wr.alloc (Obj.cells #[Value.pointer (some ⟨ls[j].b,i,none⟩)] 224)).drew (wr.alloc (Obj.cells #[Value.pointer (some ⟨ls[j].b,i,none⟩)] 224)).drew.heap.size 1 (some ⟨b',off,none⟩) n (to.map (Value.int .i64)):=(hrow.below hb3).more hsz3;have:=aa5 (wr.alloc (Obj.cells #[Value.pointer (some ⟨ls[j].b,i,none⟩)] 224)).drew b' off n c to wr.heap.size 1 [(ls[j].b,i,ls[j].xs[i])] hro
       ⟨rfl,fun _=>⟨_,rfl,by show wr.heap.size<(wr.alloc _).heap.size;simp,fun k u hk=>by
        have hk0:k=0:=by have:=(rg.1 hk).1;simpa using this
        subst hk0;cases hk;show(wr.alloc _).cell? ⟨wr.heap.size,0,none⟩=_
        go_simp
        rfl⟩⟩
       ⟨fun u hm=>by obtain rfl:=GE.1 hm;exact⟨(hb3.cell huB).trans hu.1,(hb3.frozen huB).trans hu.2.1,hu.2.2⟩,hone.nd⟩ HT.out hn aue
      refine this.mono ?_;rintro e w' ⟨rfl,h⟩;exact⟨rfl,(Below.xn hb3 _ _).trans (h.mono hsz3)⟩
     have HX:Hid (∀w',Below wr.heap.size (wr.setCell ⟨ls[j].b,i,none⟩ (.int .i64 (az to ls[j].xs[i]))) w'->w'.cell? ⟨w.heap.size,0,none⟩=some (.slice (some ⟨b',off,none⟩) n c)):=by intro w' h;refine(h.cell hsz).trans (Eq.trans (World.cell?_of_block (w:=wr) (Below.heap_setCell _ _ _ _ ?_)) hbox);have hu:=HU.out.at_ _ (ut hLi);rw[hUi]at hu;have:=World.block_lt_of_cell? w _ hu.1;exact fun e=>by have e:w.heap.size=ls[j].b:=e;have this:ls[j].b<w.heap.size:=this;omega
     clear hsn hone hrow hat hUi;generalize ls[j].xs[i]=x at *
     go_wp2_with fail
     go_region_held3 (fun w'=>w'.cell? ⟨w.heap.size,0,none⟩=some (.slice (some ⟨b',off,none⟩) n c)) (first|assumption|exact(World.cell?_alloc_lt _ _ ⟨w.heap.size,0,none⟩ hsz).trans hbox) (first|(go_at_call 152;refine(HL.out _ _ _ rfl rfl rfl).mono ?_;rintro e w' ⟨rfl,hbw⟩;have hbx:=HX.out _ hbw))
     go_wp2_with fail
     go_roundw
     case rel=>
      refine⟨i+1,auc,by go_num,by assumption,?_,?_⟩
      .have h1:=hbw.size;have h2:(wr.setCell ⟨ls[j].b,i,none⟩ (.int .i64 (az to x))).heap.size=wr.heap.size:=by simp[World.setCell]
       omega
      .rw[<-asP,HS.out];exact(Below.xn hb _ _).trans (hbw.mono auc)
     case measure=>simp[intOf];omega
    .obtain rfl:i=ls[j].xs.length:=auc
     go_wp2_with fail
     go_roundw
     case rel=>
      refine⟨j+1,auc,by go_num,hbox,hsz,?_⟩;have h1:=HFT.out _ (ro _);rw[h1]at hb;have e:(ls.take (j+1)).flatMap dJ.us=(ls.take j).flatMap dJ.us++(dJ.us ls[j]).take ls[j].xs.length:=by rw[<-atQ hlt,BT,IT (l:=dJ.us ls[j]) (by rw[dJ.xp];exact ro _)];simp
      rw[e];exact hb
     case measure=>simp[intOf];omega
  .obtain rfl:j=ls.length:=auc
   rw[cV]at hb
   go_wp2_with fail
   exact⟨rfl,.tuple #[],results_none rfl _ _ _,rfl,hb⟩
theorem akt(w:World)(A:pi)(n c B:Nat)(xs:jp)(hR:Reads w B 1 A n (ints xs))(hB:B<=w.heap.size)(hn:n<=1048576) :
  Calls Tryz.prog 93 #[.slice A n c] w fun e w'=>∃v',e=.returned v'/\Below w.heap.size w w'/\w'.ownsRow w.heap.size 3 1 v' n (ints xs):=by
 rcases A with _|ad
 .have hn0:n=0:=by
   rcases Or n with h|h
   .exact h
   .obtain⟨_,h,_⟩:=hR.2 h;cases h
  subst hn0;have hx:xs=[]:=AC (by have:=hR.1;simpa[ints]using this);subst hx;have hs:=fun W=>Lib.run_eql_slice_nil (P:=Tryz.prog) W 22 3 none 0 c 0 0 Tryz.underlying22
  go_enter Tryz.func93,Tryz.ntmps93
  go_wp2
  go_ret
  exact⟨_,rfl,Below.refl _ _,World.ownsRow_nil _ _ _ _⟩
 .have hs:=fun W=>Lib.run_eql_slice_nil (P:=Tryz.prog) W 22 3 (some ad) n c 0 0 Tryz.underlying22;obtain⟨i0,hi0,hz0,hz1,hz2⟩:=info_parts FQ;have hown:=World.ownsRow_made (base:=w.heap.size) (e:=3) (size:=1) w #[] 0 (ro _) (by simp[maxLen]) rfl;have hR2:=hR.alloc hB (.cells #[] 3);have H1:=Lib.hid hi0;have H2:=Lib.hid hz0;have H3:=Lib.hid hz1;have H4:=Lib.hid hz2;clear hi0 hz0 hz1 hz2
  go_enter Tryz.func93,Tryz.ntmps93
  go_wp2_with (at_builtin;refine tL _ rfl _ _ 22 rfl w.heap.size 3 i0 (.int .i64 0) 1 8 Tryz.underlying22 H1.out H2.out H3.out H4.out rfl auf _ 0 [] rfl hown B (some ad) n c (ints xs) rfl hR2 (Zzn xs) (by unfold maxLen;omega) auc aue ?_;intro v1 w1 hown1 hg1 hat1)
  go_ret
  rw[asz,PP]at hown1;refine⟨_,rfl,((Below.refl _ w).alloc (ro _) (.cells #[] 3)).grown hg1 aue ?_,hown1⟩;intro k hk;injection hk with hk;exact atU hk
theorem als:(Tryz.prog.info? 78).map (fun i=>(i.zero,i.size,i.bytes))=some (some (.agg #[.int .i64 0,.int .i64 0,.int .i64 0]),3,24):=aud
theorem aku(w:World)(A:pi)(n c B:Nat)(xs:mt)(hR:Reads w B 3 A n xs)(h1:∀u∈xs,u.oneCell'=true)(hB:B<=w.heap.size)(hn:n<=1048576) :
  Calls Tryz.prog 94 #[.slice A n c] w fun e w'=>∃v',e=.returned v'/\Below w.heap.size w w'/\w'.ownsRow w.heap.size 78 3 v' n xs:=by
 rcases A with _|ad
 .have hn0:n=0:=by
   rcases Or n with h|h
   .exact h
   .obtain⟨_,h,_⟩:=hR.2 h;cases h
  subst hn0;have hx:xs=[]:=AC (by have:=hR.1;simpa using this);subst hx;have hs:=fun W=>Lib.run_eql_slice_nil (P:=Tryz.prog) W 23 78 none 0 c 0 0 Tryz.underlying23
  go_enter Tryz.func94,Tryz.ntmps94
  go_wp2
  go_ret
  exact⟨_,rfl,Below.refl _ _,World.ownsRow_nil _ _ _ _⟩
 .have hs:=fun W=>Lib.run_eql_slice_nil (P:=Tryz.prog) W 23 78 (some ad) n c 0 0 Tryz.underlying23;obtain⟨i0,hi0,hz0,hz1,hz2⟩:=info_parts als;have hown:=World.ownsRow_made (base:=w.heap.size) (e:=78) (size:=3) w #[] 0 (ro _) (by simp[maxLen]) rfl;have hR2:=hR.alloc hB (.cells #[] 78);have H1:=Lib.hid hi0;have H2:=Lib.hid hz0;have H3:=Lib.hid hz1;have H4:=Lib.hid hz2;clear hi0 hz0 hz1 hz2
  go_enter Tryz.func94,Tryz.ntmps94
  go_wp2_with (at_builtin;refine tL _ rfl _ _ 23 rfl w.heap.size 78 i0 (.agg #[.int .i64 0,.int .i64 0,.int .i64 0]) 3 24 Tryz.underlying23 H1.out H2.out H3.out H4.out rfl auf _ 0 [] rfl hown B (some ad) n c xs rfl hR2 h1 (by unfold maxLen;omega) auc aue ?_;intro v1 w1 hown1 hg1 hat1)
  go_ret
  rw[asz,PP]at hown1;refine⟨_,rfl,((Below.refl _ w).alloc (ro _) (.cells #[] 78)).grown hg1 aue ?_,hown1⟩;intro k hk;injection hk with hk;exact atU hk
theorem alr:(Tryz.prog.info? 113).map (fun i=>(i.zero,i.size,i.bytes))=some (some (.agg #[.int .i64 0,.int .i64 0,.int .i64 0]),3,24):=aud
theorem aks(w:World)(A:pi)(n c B:Nat)(xs:mt)(hR:Reads w B 3 A n xs)(h1:∀u∈xs,u.oneCell'=true)(hB:B<=w.heap.size)(hn:n<=1048576) :
  Calls Tryz.prog 95 #[.slice A n c] w fun e w'=>∃v',e=.returned v'/\Below w.heap.size w w'/\w'.ownsRow w.heap.size 113 3 v' n xs:=by
 rcases A with _|ad
 .have hn0:n=0:=by
   rcases Or n with h|h
   .exact h
   .obtain⟨_,h,_⟩:=hR.2 h;cases h
  subst hn0;have hx:xs=[]:=AC (by have:=hR.1;simpa using this);subst hx;have hs:=fun W=>Lib.run_eql_slice_nil (P:=Tryz.prog) W 25 113 none 0 c 0 0 Tryz.underlying25
  go_enter Tryz.func95,Tryz.ntmps95
  go_wp2
  go_ret
  exact⟨_,rfl,Below.refl _ _,World.ownsRow_nil _ _ _ _⟩
 .have hs:=fun W=>Lib.run_eql_slice_nil (P:=Tryz.prog) W 25 113 (some ad) n c 0 0 Tryz.underlying25;obtain⟨i0,hi0,hz0,hz1,hz2⟩:=info_parts alr;have hown:=World.ownsRow_made (base:=w.heap.size) (e:=113) (size:=3) w #[] 0 (ro _) (by simp[maxLen]) rfl;have hR2:=hR.alloc hB (.cells #[] 113);have H1:=Lib.hid hi0;have H2:=Lib.hid hz0;have H3:=Lib.hid hz1;have H4:=Lib.hid hz2;clear hi0 hz0 hz1 hz2
  go_enter Tryz.func95,Tryz.ntmps95
  go_wp2_with (at_builtin;refine tL _ rfl _ _ 25 rfl w.heap.size 113 i0 (.agg #[.int .i64 0,.int .i64 0,.int .i64 0]) 3 24 Tryz.underlying25 H1.out H2.out H3.out H4.out rfl auf _ 0 [] rfl hown B (some ad) n c xs rfl hR2 h1 (by unfold maxLen;omega) auc aue ?_;intro v1 w1 hown1 hg1 hat1)
  go_ret
  rw[asz,PP]at hown1;refine⟨_,rfl,((Below.refl _ w).alloc (ro _) (.cells #[] 113)).grown hg1 aue ?_,hown1⟩;intro k hk;injection hk with hk;exact atU hk
theorem alu:(Tryz.prog.info? 97).map (fun i=>(i.zero,i.size,i.bytes))=some (some (.agg #[.int .i64 0,.int .i64 0,.bool false,.slice none 0 0,.slice none 0 0]),5,72):=aud
theorem akv(w:World)(A:pi)(n c B:Nat)(xs:mt)(hR:Reads w B 5 A n xs)(h1:∀u∈xs,u.oneCell'=true)(hB:B<=w.heap.size)(hn:n<=1048576) :
  Calls Tryz.prog 96 #[.slice A n c] w fun e w'=>∃v',e=.returned v'/\Below w.heap.size w w'/\w'.ownsRow w.heap.size 97 5 v' n xs:=by
 rcases A with _|ad
 .have hn0:n=0:=by
   rcases Or n with h|h
   .exact h
   .obtain⟨_,h,_⟩:=hR.2 h;cases h
  subst hn0;have hx:xs=[]:=AC (by have:=hR.1;simpa using this);subst hx;have hs:=fun W=>Lib.run_eql_slice_nil (P:=Tryz.prog) W 24 97 none 0 c 0 0 Tryz.underlying24
  go_enter Tryz.func96,Tryz.ntmps96
  go_wp2
  go_ret
  exact⟨_,rfl,Below.refl _ _,World.ownsRow_nil _ _ _ _⟩
 .have hs:=fun W=>Lib.run_eql_slice_nil (P:=Tryz.prog) W 24 97 (some ad) n c 0 0 Tryz.underlying24;obtain⟨i0,hi0,hz0,hz1,hz2⟩:=info_parts alu;have hown:=World.ownsRow_made (base:=w.heap.size) (e:=97) (size:=5) w #[] 0 (ro _) (by simp[maxLen]) rfl;have hR2:=hR.alloc hB (.cells #[] 97);have H1:=Lib.hid hi0;have H2:=Lib.hid hz0;have H3:=Lib.hid hz1;have H4:=Lib.hid hz2;clear hi0 hz0 hz1 hz2
  go_enter Tryz.func96,Tryz.ntmps96
  go_wp2_with (at_builtin;refine tL _ rfl _ _ 24 rfl w.heap.size 97 i0 (.agg #[.int .i64 0,.int .i64 0,.bool false,.slice none 0 0,.slice none 0 0]) 5 72 Tryz.underlying24 H1.out H2.out H3.out H4.out rfl auf _ 0 [] rfl hown B (some ad) n c xs rfl hR2 h1 (by unfold maxLen;omega) auc aue ?_;intro v1 w1 hown1 hg1 hat1)
  go_ret
  rw[asz,PP]at hown1;refine⟨_,rfl,((Below.refl _ w).alloc (ro _) (.cells #[] 97)).grown hg1 aue ?_,hown1⟩;intro k hk;injection hk with hk;exact atU hk
theorem alv:(Tryz.prog.info? 148).map (fun i=>(i.zero,i.size,i.bytes))=some (some (.agg #[.int .i64 0,.slice none 0 0]),2,32):=aud
theorem akw(w:World)(A:pi)(n c B:Nat)(xs:mt)(hR:Reads w B 2 A n xs)(h1:∀u∈xs,u.oneCell'=true)(hB:B<=w.heap.size)(hn:n<=1048576) :
  Calls Tryz.prog 97 #[.slice A n c] w fun e w'=>∃v',e=.returned v'/\Below w.heap.size w w'/\w'.ownsRow w.heap.size 148 2 v' n xs:=by
 rcases A with _|ad
 .have hn0:n=0:=by
   rcases Or n with h|h
   .exact h
   .obtain⟨_,h,_⟩:=hR.2 h;cases h
  subst hn0;have hx:xs=[]:=AC (by have:=hR.1;simpa using this);subst hx;have hs:=fun W=>Lib.run_eql_slice_nil (P:=Tryz.prog) W 94 148 none 0 c 0 0 Tryz.underlying94
  go_enter Tryz.func97,Tryz.ntmps97
  go_wp2
  go_ret
  exact⟨_,rfl,Below.refl _ _,World.ownsRow_nil _ _ _ _⟩
 .have hs:=fun W=>Lib.run_eql_slice_nil (P:=Tryz.prog) W 94 148 (some ad) n c 0 0 Tryz.underlying94;obtain⟨i0,hi0,hz0,hz1,hz2⟩:=info_parts alv;have hown:=World.ownsRow_made (base:=w.heap.size) (e:=148) (size:=2) w #[] 0 (ro _) (by simp[maxLen]) rfl;have hR2:=hR.alloc hB (.cells #[] 148);have H1:=Lib.hid hi0;have H2:=Lib.hid hz0;have H3:=Lib.hid hz1;have H4:=Lib.hid hz2;clear hi0 hz0 hz1 hz2
  go_enter Tryz.func97,Tryz.ntmps97
  go_wp2_with (at_builtin;refine tL _ rfl _ _ 94 rfl w.heap.size 148 i0 (.agg #[.int .i64 0,.slice none 0 0]) 2 32 Tryz.underlying94 H1.out H2.out H3.out H4.out rfl auf _ 0 [] rfl hown B (some ad) n c xs rfl hR2 h1 (by unfold maxLen;omega) auc aue ?_;intro v1 w1 hown1 hg1 hat1)
  go_ret
  rw[asz,PP]at hown1;refine⟨_,rfl,((Below.refl _ w).alloc (ro _) (.cells #[] 148)).grown hg1 aue ?_,hown1⟩;intro k hk;injection hk with hk;exact atU hk
theorem alw:(Tryz.prog.info? 174).map (fun i=>(i.zero,i.size,i.bytes))=some (some (.agg #[.int .i64 0,.slice none 0 0,.slice none 0 0]),3,56):=aud
theorem akx(w:World)(A:pi)(n c B:Nat)(xs:mt)(hR:Reads w B 3 A n xs)(h1:∀u∈xs,u.oneCell'=true)(hB:B<=w.heap.size)(hn:n<=1048576) :
  Calls Tryz.prog 98 #[.slice A n c] w fun e w'=>∃v',e=.returned v'/\Below w.heap.size w w'/\w'.ownsRow w.heap.size 174 3 v' n xs:=by
 rcases A with _|ad
 .have hn0:n=0:=by
   rcases Or n with h|h
   .exact h
   .obtain⟨_,h,_⟩:=hR.2 h;cases h
  subst hn0;have hx:xs=[]:=AC (by have:=hR.1;simpa using this);subst hx;have hs:=fun W=>Lib.run_eql_slice_nil (P:=Tryz.prog) W 95 174 none 0 c 0 0 Tryz.underlying95
  go_enter Tryz.func98,Tryz.ntmps98
  go_wp2
  go_ret
  exact⟨_,rfl,Below.refl _ _,World.ownsRow_nil _ _ _ _⟩
 .have hs:=fun W=>Lib.run_eql_slice_nil (P:=Tryz.prog) W 95 174 (some ad) n c 0 0 Tryz.underlying95;obtain⟨i0,hi0,hz0,hz1,hz2⟩:=info_parts alw;have hown:=World.ownsRow_made (base:=w.heap.size) (e:=174) (size:=3) w #[] 0 (ro _) (by simp[maxLen]) rfl;have hR2:=hR.alloc hB (.cells #[] 174);have H1:=Lib.hid hi0;have H2:=Lib.hid hz0;have H3:=Lib.hid hz1;have H4:=Lib.hid hz2;clear hi0 hz0 hz1 hz2
  go_enter Tryz.func98,Tryz.ntmps98
  go_wp2_with (at_builtin;refine tL _ rfl _ _ 95 rfl w.heap.size 174 i0 (.agg #[.int .i64 0,.slice none 0 0,.slice none 0 0]) 3 56 Tryz.underlying95 H1.out H2.out H3.out H4.out rfl auf _ 0 [] rfl hown B (some ad) n c xs rfl hR2 h1 (by unfold maxLen;omega) auc aue ?_;intro v1 w1 hown1 hg1 hat1)
  go_ret
  rw[asz,PP]at hown1;refine⟨_,rfl,((Below.refl _ w).alloc (ro _) (.cells #[] 174)).grown hg1 aue ?_,hown1⟩;intro k hk;injection hk with hk;exact atU hk
theorem ajY(f:Int->Int)(w:World)(us vs:List fE):cN f w (us++vs)=cN f (cN f w us) vs:=by unfold cN;rw[aso]
theorem Ob(f:Int->Int):∀(us:List fE) (w:World),cN f w us=cN id w (us.map fun u=>(u.1,u.2.1,f u.2.2))
 |[],w=>rfl|u::us,w=>Ob f us (w.setCell u.ad (.int .i64 (f u.2.2)))
theorem aj4{B:Nat}{w w':World}(h:Below B w w')(f:Int->Int):∀us:List fE,Below B (cN f w us) (cN f w' us):=by
 intro us
 induction us generalizing w w' with|nil=>exact h|cons u us ih=>exact ih (Below.xn h u.ad (.int .i64 (f u.2.2)))
theorem aa8(f:Int->Int):∀(us:List fE) (w:World),(us.map fE.ad).Nodup->(∀u∈us,∃v,w.cell? u.ad=some v)->∀u∈us,(cN f w us).cell? u.ad=some (.int .i64 (f u.2.2))
 |[],w,_,_,u,h=>nomatch h
 |x::us,w,hn,hc,u,h=>by
  have hn:=att.1 hn;have hne:∀y∈us,y.ad≠x.ad:=fun y hy e=>hn.1 (e▸AT hy);rcases Fn.1 h with rfl|h
  .refine(nz f us _ u.ad rfl hne).trans ?_;obtain⟨v,hv⟩:=hc u (Pi ..);exact World.cell?_setCell_same _ _ _ hv
  .refine aa8 f us _ hn.2 (fun y hy=>?_) u h;obtain⟨v,hv⟩:=hc y (Id _ hy);exact⟨v,(Of w x.ad y.ad _ rfl rfl fun e=>hne y hy e.symm).trans hv⟩
theorem amJ(w:World)(b' off n c:Nat)(to:jp)(q b o:Nat)(x:Int)(hR:Reads w w.heap.size 1 (some ⟨b',off,none⟩) n (to.map (Value.int .i64)))
  (hq:w.cell? ⟨q,0,none⟩=some (.pointer (some ⟨b,o,none⟩))) (hx:w.cell? ⟨b,o,none⟩=some (.int .i64 x)) (hf:w.frozen? ⟨b,o,none⟩=false)
  (h0:0<=x) (h1:x<n) (hn:n<=1048576) :
  Calls Tryz.prog 151 #[.agg #[.slice (some ⟨b',off,none⟩) n c],.slice (some ⟨q,0,none⟩) 1 1] w fun e w'=>e=.returned (.tuple #[])/\Below w.heap.size (cN (fun x=>to.getD x.toNat 0) w [(b,o,x)]) w':=
 aly w _ n c to q b o x hR hq hx hf h0 h1 hn
open Pl
def aO(A:pi):md:=(A.map Addr.block).toList
abbrev cX{α:Type}(w:World)(B:Nat)(e:TypeId)(z:Nat)(f:α->mt)(A:pi)(c:Nat)(xs:List α):Prop:=w.ownsRow B e z (.slice A xs.length c) xs.length (xs.flatMap f)
def cI(x:Int):mt:=[.int .i64 x]
theorem NX{α:Type}{f:α->mt}{z:Nat}(hz:∀x,(f x).length=z):∀(xs:List α) (i k:Nat) (x:α) (u:Value),xs[i]?=some x->(f x)[k]?=some u->(xs.flatMap f)[i*z+k]?=some u
 |[],i,k,x,u,h,_=>by simp at h|y::xs,0,k,x,u,h,hu=>by simp only[FS,dm]at h;subst h;have hk:=(rg.1 hu).1;rw[ww,Nat.zero_mul,asz,Ne hk];exact hu|y::xs,i+1,k,x,u,h,hu=>by
  have h':xs[i]?=some x:=by simpa using h
  have ih:=NX hz xs i k x u h' hu;rw[ww,In (by rw[hz y,atj];omega),hz y,show(i+1)*z+k-z=i*z+k by rw[atj];omega];exact ih
section
variable{α:Type}{w w':World}{B B':Nat}{e:TypeId}{z:Nat}{f:α->mt}{A:pi}{c:Nat}{xs:List α}
theorem sK{v:Value}{n:Nat}(hn:n=xs.length)(h:w.ownsRow B e z v n (xs.flatMap f)):∃A c,v=.slice A xs.length c/\cX w B e z f A c xs/\∀b∈aO A,B<=b/\b<w.heap.size:=by
 subst hn;obtain⟨hl,h⟩:=h;rcases h with⟨rfl,h0⟩|⟨g,cap,cur,rfl,hg,hh,hc,hm,hs,ht⟩
 .have:xs=[]:=AC h0;subst this;exact⟨none,0,rfl,⟨hl,.inl ⟨rfl,rfl⟩⟩,fun b hb=>by cases hb⟩
 .refine⟨_,cap,rfl,⟨hl,.inr ⟨g,cap,cur,rfl,hg,hh,hc,hm,hs,ht⟩⟩,fun b hb=>?_⟩;have:b=g:=by simpa[aO]using hb
  subst this;exact⟨hg,(asB.1 hh).1⟩
theorem dB(h:cX w B e z f A c xs)(hb:∀b∈aO A,w'.heap[b]?=w.heap[b]?/\B'<=b):cX w' B' e z f A c xs:=by
 obtain⟨hl,h⟩:=h;rcases h with h|⟨g,cap,cur,e1,hg,hh,hc,hm,hs,ht⟩
 .exact⟨hl,.inl h⟩
 .obtain⟨rfl,_,rfl⟩:=(by simpa using e1:A=some ⟨g,0,none⟩/\True/\c=cap);obtain⟨k1,k2⟩:=hb g (by simp[aO]);exact⟨hl,.inr ⟨g,c,cur,rfl,k2,k1.trans hh,hc,hm,hs,ht⟩⟩
theorem kC(h:cX w B e z f A c xs)(hx:xs≠[]):∃b,A=some ⟨b,0,none⟩/\B<=b/\b<w.heap.size/\∀o,w.frozen? ⟨b,o,none⟩=false:=by
 obtain⟨hl,h⟩:=h;rcases h with⟨h,h0⟩|⟨g,cap,cur,e1,hg,hh,hc,hm,hs,ht⟩
 .exact absurd (AC h0) hx
 .obtain⟨rfl,_,rfl⟩:=(by simpa using e1:A=some ⟨g,0,none⟩/\True/\c=cap);exact⟨g,rfl,hg,(asB.1 hh).1,fun o=>by simp[World.frozen?,hh]⟩
theorem aaG(h:cX w B e z f A c xs):xs.length<=c/\c<=maxLen/\(A=none->xs=[])/\∀b∈aO A,A=some ⟨b,0,none⟩:=by
 obtain⟨hl,h⟩:=h;rcases h with⟨h,h0⟩|⟨g,cap,cur,e1,hg,hh,hc,hm,hs,ht⟩
 .obtain⟨rfl,_,rfl⟩:=(by simpa using h:A=none/\xs=[]/\c=0);exact⟨auc,Do _,fun _=>AC h0,(fun b hb=>by cases hb)⟩
 .obtain⟨rfl,_,rfl⟩:=(by simpa using e1:A=some ⟨g,0,none⟩/\True/\c=cap);refine⟨hc,hm,(fun h=>by cases h),fun b hb=>?_⟩;have:b=g:=by simpa[aO]using hb
  rw[this]
theorem jR(hz:∀x,(f x).length=z)(h:cX w B e z f A c xs){b:Nat}(hA:A=some ⟨b,0,none⟩){i k:Nat}{x:α}{u:Value}(hx:xs[i]?=some x)(hu:(f x)[k]?=some u):w.cell? ⟨b,i*z+k,none⟩=some u:=by
 obtain⟨hl,h⟩:=h;rcases h with⟨h,h0⟩|⟨g,cap,cur,e1,hg,hh,hc,hm,hs,ht⟩
 .rw[AC h0]at hx;cases hx
 .obtain⟨rfl,_,rfl⟩:=(by simpa using e1:A=some ⟨g,0,none⟩/\True/\c=cap);obtain rfl:g=b:=by simpa using hA
  have hc:=NX hz xs i k x u hx hu;rw[<-ht,atC]at hc;split at hc
  .simp only[World.cell?,hh];simpa using hc
  .cases hc
end
theorem Ow(x:dI):(dI.cells x).length=3:=rfl
theorem abw(x:dM):(dM.cells x).length=3:=rfl
theorem sX(x:bZ):(bZ.cells x).length=2:=rfl
theorem ov(x:cj):(cj.cells x).length=3:=rfl
theorem nD(x:aQ):(aQ.cells x).length=5:=rfl
theorem R9(x:Int):(cI x).length=1:=rfl
def bZ.bs(x:bZ):md:=aO x.A
def cj.bs(x:cj):md:=aO x.A++aO x.A2
def aQ.bs(x:aQ):md:=aO x.A++(x.reads.flatMap bZ.bs++(aO x.A2++x.writes.flatMap cj.bs))
def aY.fl(n:aY):md:=aO n.Ai++(aO n.Ao++(aO n.Ab++(aO n.Ac++(aO n.Al++(aO n.An++aO n.Am)))))
def aY.bs(n:aY):md:=n.fl++n.af.flatMap aQ.bs
def bZ.own(w:World)(B:Nat)(x:bZ):Prop:=cX w B 3 1 cI x.A x.c x.addr
def cj.own(w:World)(B:Nat)(x:cj):Prop:=cX w B 3 1 cI x.A x.c x.addr/\cX w B 3 1 cI x.A2 x.c2 x.data
structure aQ.own(w:World)(B:Nat)(m:aQ):Prop where
 rd:cX w B 148 2 bZ.cells m.A m.c m.reads
 fq:∀r∈m.reads,r.own w B
 wr:cX w B 174 3 cj.cells m.A2 m.c2 m.writes
 gY:∀r∈m.writes,r.own w B
structure aY.own(w:World)(B:Nat)(n:aY):Prop where
 ins:cX w B 3 1 cI n.Ai n.ci n.ax
 out:cX w B 3 1 cI n.Ao n.co n.bk
 fe:cX w B 3 1 cI n.Ab n.cb n.aU
 ga:cX w B 3 1 cI n.Ac n.cc n.constraints
 aT:cX w B 78 3 dI.cells n.Al n.cl n.ah
 and:cX w B 113 3 dM.cells n.An n.cn n.ag
 mem:cX w B 97 5 aQ.cells n.Am n.cm n.af
 kA:∀m∈n.af,m.own w B
 nd:n.bs.Nodup
 lt:∀b∈n.bs,b<w.heap.size
section
variable{w w':World}{B B':Nat}
theorem bZ.dB{x:bZ}(h:x.own w B)(hb:∀b∈x.bs,w'.heap[b]?=w.heap[b]?/\B'<=b):x.own w' B':=Go.Proofs.YtmkbdfidnfmgmaaGreat.dB h hb
theorem cj.dB{x:cj}(h:x.own w B)(hb:∀b∈x.bs,w'.heap[b]?=w.heap[b]?/\B'<=b):x.own w' B':=⟨Go.Proofs.YtmkbdfidnfmgmaaGreat.dB h.1 fun b q=>hb b (AI _ q),Go.Proofs.YtmkbdfidnfmgmaaGreat.dB h.2 fun b q=>hb b (Fd _ q)⟩
theorem aQ.dB{m:aQ}(h:m.own w B)(hb:∀b∈m.bs,w'.heap[b]?=w.heap[b]?/\B'<=b):m.own w' B':=by
 unfold aQ.bs at hb;simp only[qr]at hb;exact⟨Go.Proofs.YtmkbdfidnfmgmaaGreat.dB h.rd fun b q=>hb b (.inl q),fun r hr=>bZ.dB (h.fq r hr) fun b q=>hb b (.inr (.inl (rc.2 ⟨r,hr,q⟩))),Go.Proofs.YtmkbdfidnfmgmaaGreat.dB h.wr fun b q=>hb b (.inr (.inr (.inl q))),
  fun r hr=>cj.dB (h.gY r hr) fun b q=>hb b (.inr (.inr (.inr (rc.2 ⟨r,hr,q⟩))))⟩
end
theorem sA(w:World)(a:Addr)(u:Value)(b:Nat)(h:a.block≠b):(w.setCell a u).heap[b]?=w.heap[b]?:=Below.heap_setCell w a u b fun e=>h e.symm
theorem N0(f:Int->Int):∀(us:List fE) (w:World) (b:Nat),(∀u∈us,u.1≠b)->(cN f w us).heap[b]?=w.heap[b]?
 |[],w,b,_=>rfl|u::us,w,b,h=>(N0 f us _ b fun x hx=>h x (Id _ hx)).trans (sA w u.ad _ b (h u (Pi ..)))
theorem N9{w0 W w':World}{B:Nat}{done now:List fE}(hb:Below B (cN id w0 done) W)(hBs:B<=W.heap.size)(h:Below W.heap.size (cN id W now) w'):Below B (cN id w0 (done++now)) w':=by rw[ajY];exact(aj4 hb id now).trans (h.mono hBs)
section
variable{w0 W:World}{B:Nat}{done:List fE}(hb:Below B (cN id w0 done) W)
include hb
theorem sH{a:Addr}{v:Value}(ha:a.spot=none)(hB:a.block<B)(hn:∀u∈done,u.ad≠a)(h:w0.cell? a=some v):W.cell? a=some v:=(hb.cell hB).trans ((nz id done w0 a ha hn).trans h)
theorem Oz{a:Addr}(hB:a.block<B):W.frozen? a=w0.frozen? a:=(hb.frozen hB).trans (EL id done w0 a)
theorem N8{b:Nat}(hB:b<B)(hn:∀u∈done,u.1≠b):W.heap[b]?=w0.heap[b]?:=(hb.block b hB).trans (N0 id done w0 b hn)
theorem E3(hB:B=w0.heap.size):B<=W.heap.size:=by have:=hb.size;rw[mE]at this;omega
theorem ET{b' off n:Nat}{xs:mt}(hn:∀u∈done,u.1≠b')(hs:B<=W.heap.size)(hR:Reads w0 B 1 (some ⟨b',off,none⟩) n xs):Reads W W.heap.size 1 (some ⟨b',off,none⟩) n xs:=by refine Reads.more ?_ hs;obtain⟨hl,hrow⟩:=hR;refine⟨hl,fun hp=>?_⟩;obtain⟨ad,e,hB,hc⟩:=hrow hp;refine⟨ad,e,hB,fun i v hv=>?_⟩;have e:ad=⟨b',off,none⟩:=(BY e).symm;subst e;have:=hc i v hv;rw[Addr.add_mid]at this |-;exact sH hb rfl hB (fun u hu q=>hn u hu (OF Addr.block q)) this
end
structure cQ where
 b:Nat
 o:Nat
 x:Int
 y:Int
def cQ.u(p:cQ):fE:=(p.b,p.o,p.y)
def cQ.ad(p:cQ):Addr:=⟨p.b,p.o,none⟩
abbrev dg(l:List cQ):List fE:=l.map cQ.u
structure fQ(w0:World)(B n b':Nat)(L:List cQ):Prop where
 at_:∀p∈L,w0.cell? p.ad=some (.int .i64 p.x)/\w0.frozen? p.ad=false/\0<=p.x/\p.b≠b'/\p.b<B
 nd:(L.map cQ.ad).Nodup
theorem fQ.ne{w0:World}{B n b':Nat}{d l r:List cQ}(h:fQ w0 B n b' (d++(l++r))):∀p∈l,∀u∈dg d,u.ad≠p.ad:=by intro p hp u hu e;obtain⟨q,hq,rfl⟩:=rt.1 hu;have hn:=h.nd;rw[cH,rx]at hn;exact hn.2.2 _ (AT hq) _ (AT (AI _ hp)) e
section
variable{w0 W:World}{B n b' off c:Nat}{d r:List cQ}{to:jp}
theorem Fk{p:cQ}(h:fQ w0 B n b' (d++([p]++r)))(hB:B=w0.heap.size)(hb:Below B (cN id w0 (dg d)) W)(hR:Reads w0 B 1 (some ⟨b',off,none⟩) n (to.map (Value.int .i64)))
  (hn:n<=1048576) (hx:p.x<n) (hy:p.y=to.getD p.x.toNat 0) {q:Nat}(hq:W.cell? ⟨q,0,none⟩=some (.pointer (some p.ad))) :
  Calls Tryz.prog 151 #[.agg #[.slice (some ⟨b',off,none⟩) n c],.slice (some ⟨q,0,none⟩) 1 1] W fun e w'=>e=.returned (.tuple #[])/\Below B (cN id w0 (dg (d++[p]))) w'/\Below W.heap.size (cN id W (dg [p])) w':=by
 have hp:=h.at_ p aue;have hne:=h.ne p (GE.2 rfl);have hd:∀u∈dg d,u.1≠b':=fun u hu=>by obtain⟨z,hz,rfl⟩:=rt.1 hu;exact(h.at_ z (by simp[hz])).2.2.2.1
 have hs:=E3 hb hB;refine(amJ W b' off n c to q p.b p.o p.x (ET hb hd hs hR) hq (sH hb (a:=p.ad) rfl hp.2.2.2.2 hne hp.1) ((Oz hb (a:=p.ad) hp.2.2.2.2).trans hp.2.1) hp.2.2.1 hx hn).mono ?_;rintro e w' ⟨rfl,h2⟩;have e0:dg [p]=[(p.b,p.o,to.getD p.x.toNat 0)]:=by simp[dg,cQ.u,hy]
 have e:dg (d++[p])=dg d++[(p.b,p.o,to.getD p.x.toNat 0)]:=by simp[dg,cQ.u,hy]
 refine⟨rfl,?_,by rw[e0];exact h2⟩;rw[e];exact N9 hb hs h2
theorem Om{l:List cQ}(h:fQ w0 B n b' (d++(l++r)))(hB:B=w0.heap.size)(hb:Below B (cN id w0 (dg d)) W)(hR:Reads w0 B 1 (some ⟨b',off,none⟩) n (to.map (Value.int .i64)))
  (d8:∀y∈to,0<=y/\y<=1000000) (hn:n<=1048576) (hx:∀p∈l,p.x / 2<n/\p.y=az to p.x) (hm:l.length<=1000) {q k:Nat}(hk:k=l.length) (hq:Reads W W.heap.size 1 (some ⟨q,0,none⟩) l.length (l.map fun p=>Value.pointer (some p.ad))) :
  Calls Tryz.prog 152 #[.agg #[.slice (some ⟨b',off,none⟩) n c],.slice (some ⟨q,0,none⟩) k k] W fun e w'=>e=.returned (.tuple #[])/\Below B (cN id w0 (dg (d++l))) w'/\Below W.heap.size (cN id W (dg l)) w':=by
 subst hk;have hd:∀u∈dg d,u.1≠b':=fun u hu=>by obtain⟨z,hz,rfl⟩:=rt.1 hu;exact(h.at_ z (by simp[hz])).2.2.2.1
 have hs:=E3 hb hB;have hnl:(l.map cQ.ad).Nodup:=by have:=h.nd;rw[cH,rx,cH,rx]at this;exact this.2.1.1
 have hU:nJ W n b' (l.map fun p=>(p.b,p.o,p.x)):=by
  refine⟨fun u hu=>?_,?_⟩
  .obtain⟨p,hp,rfl⟩:=rt.1 hu;have hp2:=h.at_ p (by simp[hp]);exact⟨sH hb (a:=p.ad) rfl hp2.2.2.2.2 (h.ne p hp) hp2.1,(Oz hb (a:=p.ad) hp2.2.2.2.2).trans hp2.2.1,hp2.2.2.1,(hx p hp).1,hp2.2.2.2.1⟩
  .rw[IR];exact hnl
 have hlen:(l.map fun p=>((p.b,p.o,p.x):fE)).length=l.length:=aG _;have:=aa5 W b' off n c to q l.length (l.map fun p=>(p.b,p.o,p.x)) (ET hb hd hs hR) (by rw[hlen,IR];exact hq) hU d8 hn (by rw[hlen];exact hm);rw[hlen]at this;refine this.mono ?_;rintro e w' ⟨rfl,h2⟩;rw[Ob,IR]at h2;have e0:dg l=l.map (fun p=>((p.b,p.o,az to p.x):fE)):=WF fun p hp=>by unfold cQ.u;rw[(hx p hp).2]
 have e:dg (d++l)=dg d++l.map (fun p=>((p.b,p.o,az to p.x):fE)):=by rw[<-e0];exact cH
 refine⟨rfl,?_,by rw[e0];exact h2⟩;rw[e];exact N9 hb hs h2
def n9(f:Int->Int)(r:mJ Int):List cQ:=r.xs.zipIdx.map fun p=>⟨r.b,p.2,p.1,f p.1⟩
theorem aaI{ls:List (mJ Int)}(h:fQ w0 B n b' (d++(ls.flatMap (n9 (az to))++r)))(hB:B=w0.heap.size)(hb:Below B (cN id w0 (dg d)) W)(hR:Reads w0 B 1 (some ⟨b',off,none⟩) n (to.map (Value.int .i64)))
  (d8:∀y∈to,0<=y/\y<=1000000) (hn:n<=1048576) (hx:∀l∈ls,l.xs.length<=1048576/\(l.xs≠[]->l.A=some l.b)/\∀x∈l.xs,x / 2<n) (hm:ls.length<=1000) {q k:Nat}(hk:k=ls.length) (hq:Reads W W.heap.size 1 (some ⟨q,0,none⟩) ls.length (ls.map mJ.v)) :
  Calls Tryz.prog 153 #[.agg #[.slice (some ⟨b',off,none⟩) n c],.slice (some ⟨q,0,none⟩) k k] W fun e w'=>e=.returned (.tuple #[])/\Below B (cN id w0 (dg (d++ls.flatMap (n9 (az to))))) w'/\Below W.heap.size (cN id W (dg (ls.flatMap (n9 (az to))))) w':=by
 subst hk;have hd:∀u∈dg d,u.1≠b':=fun u hu=>by obtain⟨z,hz,rfl⟩:=rt.1 hu;exact(h.at_ z (by simp[hz])).2.2.2.1
 have hs:=E3 hb hB;have hnl:((ls.flatMap (n9 (az to))).map cQ.ad).Nodup:=by have:=h.nd;rw[cH,rx,cH,rx]at this;exact this.2.1.1
 have he:ls.flatMap dJ.us=(ls.flatMap (n9 (az to))).map fun p=>(p.b,p.o,p.x):=by rw[List.map_flatMap];congr 1;funext l;unfold dJ.us n9;rw[IR];rfl
 have hU:nJ W n b' (ls.flatMap dJ.us):=by
  rw[he];refine⟨fun u hu=>?_,?_⟩
  .obtain⟨p,hp,rfl⟩:=rt.1 hu;have hp2:=h.at_ p (by simp only[qr];exact .inr (.inl hp));have hxp:p.x / 2<n:=by obtain⟨l,hl,hpl⟩:=rc.1 hp;obtain⟨z,hz,rfl⟩:=rt.1 hpl;exact(hx l hl).2.2 _ (asu hz)
   exact⟨sH hb (a:=p.ad) rfl hp2.2.2.2.2 (h.ne p hp) hp2.1,(Oz hb (a:=p.ad) hp2.2.2.2.2).trans hp2.2.1,hp2.2.2.1,hxp,hp2.2.2.2.1⟩
  .rw[IR];exact hnl
 refine(alx W b' off n c to q ls.length ls (ET hb hd hs hR) hq hU d8 hn hm fun l hl=>⟨(hx l hl).1,(hx l hl).2.1⟩).mono ?_;rintro e w' ⟨rfl,h2⟩;rw[Ob]at h2;have e0:dg (ls.flatMap (n9 (az to)))=(ls.flatMap dJ.us).map (fun u=>((u.1,u.2.1,az to u.2.2):fE)):=by unfold dg;rw[he,IR];refine WF fun p hp=>?_;obtain⟨l,hl,hpl⟩:=rc.1 hp;obtain⟨z,hz,rfl⟩:=rt.1 hpl;rfl
 have e:dg (d++ls.flatMap (n9 (az to)))=dg d++(ls.flatMap dJ.us).map (fun u=>((u.1,u.2.1,az to u.2.2):fE)):=by rw[<-e0];exact cH
 refine⟨rfl,?_,by rw[e0];exact h2⟩;rw[e];exact N9 hb hs h2
end
structure f8(w0:World)(B g:Nat)(v:Value)(L:List cQ)(x:World):Prop where
 box:x.cell? ⟨g,0,none⟩=some v
 gB:B<=g
 lt:g<x.heap.size
 low:Below B (cN id w0 (dg L)) x
theorem f8.drew{w0 x:World}{B g:Nat}{v:Value}{L:List cQ}(h:f8 w0 B g v L x):f8 w0 B g v L x.drew:=⟨h.box,h.gB,h.lt,h.low.drew⟩
theorem f8.alloc{w0 x:World}{B g:Nat}{v:Value}{L:List cQ}(h:f8 w0 B g v L x)(o:Obj):f8 w0 B g v L (x.alloc o):=⟨(World.cell?_alloc_lt _ _ _ h.lt).trans h.box,h.gB,by have:=h.lt;simp;omega,h.low.alloc (by have:=h.lt;have:=h.gB;omega) o⟩
theorem f8.step{w0 x w':World}{B g:Nat}{v:Value}{L now:List cQ}(h:f8 w0 B g v L x)(hn:∀p∈now,p.b<B)(h1:Below B (cN id w0 (dg (L++now))) w')(h2:Below x.heap.size (cN id x (dg now)) w'):f8 w0 B g v (L++now) w':=by
 refine⟨(h2.cell (p:=⟨g,0,none⟩) h.lt).trans ((nz id _ x _ rfl fun u hu e=>?_).trans h.box),h.gB,?_,h1⟩
 .obtain⟨p,hp,rfl⟩:=rt.1 hu;have:=hn p hp;have e:p.b=g:=OF Addr.block e;have:=h.gB;omega
 .have:=h2.size;rw[mE]at this;have:=h.lt;omega
theorem ES(l:jp):ints l=l.flatMap cI:=by induction l with|nil=>rfl|cons x l ih=>show _::ints l=_;rw[ih];rfl
theorem xg{α:Type}{f:α->mt}(hf:∀x,∀u∈f x,u.oneCell'=true)(l:List α):∀u∈l.flatMap f,u.oneCell'=true:=by intro u hu;obtain⟨x,_,h⟩:=rc.1 hu;exact hf x u h
def lG{α:Type}(w:World)(e:TypeId)(z:Nat)(f:α->mt)(xs:List α)(E:Ending)(w':World):Prop:=∃A c,E=.returned (.slice A xs.length c)/\Below w.heap.size w w'/\cX w' w.heap.size e z f A c xs/\∀b∈aO A,w.heap.size<=b/\b<w'.heap.size
section
variable{w:World}{A:pi}{c B:Nat}
theorem JP(hB:B<=w.heap.size){xs:jp}(h:Sl w B 1 A xs.length c (ints xs))(hn:xs.length<=1048576):Calls Tryz.prog 93 #[.slice A xs.length c] w (lG w 3 1 cI xs):=by refine(akt w A xs.length c B xs h.1 hB hn).mono ?_;rintro e w' ⟨v',rfl,hb,ho⟩;rw[ES]at ho;obtain⟨A',c',rfl,ho,hl⟩:=sK rfl ho;exact⟨A',c',rfl,hb,ho,hl⟩
theorem clL(hB:B<=w.heap.size){xs:List dI}(h:Sl w B 3 A xs.length c (xs.flatMap dI.cells))(hn:xs.length<=1048576):Calls Tryz.prog 94 #[.slice A xs.length c] w (lG w 78 3 dI.cells xs):=by refine(aku w A xs.length c B _ h.1 (xg (by simp[dI.cells,Value.oneCell']) xs) hB hn).mono ?_;rintro e w' ⟨v',rfl,hb,ho⟩;obtain⟨A',c',rfl,ho,hl⟩:=sK rfl ho;exact⟨A',c',rfl,hb,ho,hl⟩
theorem clA(hB:B<=w.heap.size){xs:List dM}(h:Sl w B 3 A xs.length c (xs.flatMap dM.cells))(hn:xs.length<=1048576):Calls Tryz.prog 95 #[.slice A xs.length c] w (lG w 113 3 dM.cells xs):=by refine(aks w A xs.length c B _ h.1 (xg (by simp[dM.cells,Value.oneCell']) xs) hB hn).mono ?_;rintro e w' ⟨v',rfl,hb,ho⟩;obtain⟨A',c',rfl,ho,hl⟩:=sK rfl ho;exact⟨A',c',rfl,hb,ho,hl⟩
theorem clM(hB:B<=w.heap.size){xs:List aQ}(h:Sl w B 5 A xs.length c (xs.flatMap aQ.cells))(hn:xs.length<=1048576):Calls Tryz.prog 96 #[.slice A xs.length c] w (lG w 97 5 aQ.cells xs):=by refine(akv w A xs.length c B _ h.1 (xg (by simp[aQ.cells,Value.oneCell']) xs) hB hn).mono ?_;rintro e w' ⟨v',rfl,hb,ho⟩;obtain⟨A',c',rfl,ho,hl⟩:=sK rfl ho;exact⟨A',c',rfl,hb,ho,hl⟩
theorem clR(hB:B<=w.heap.size){xs:List bZ}(h:Sl w B 2 A xs.length c (xs.flatMap bZ.cells))(hn:xs.length<=1048576):Calls Tryz.prog 97 #[.slice A xs.length c] w (lG w 148 2 bZ.cells xs):=by refine(akw w A xs.length c B _ h.1 (xg (by simp[bZ.cells,Value.oneCell']) xs) hB hn).mono ?_;rintro e w' ⟨v',rfl,hb,ho⟩;obtain⟨A',c',rfl,ho,hl⟩:=sK rfl ho;exact⟨A',c',rfl,hb,ho,hl⟩
theorem clW(hB:B<=w.heap.size){xs:List cj}(h:Sl w B 3 A xs.length c (xs.flatMap cj.cells))(hn:xs.length<=1048576):Calls Tryz.prog 98 #[.slice A xs.length c] w (lG w 174 3 cj.cells xs):=by refine(akx w A xs.length c B _ h.1 (xg (by simp[cj.cells,Value.oneCell']) xs) hB hn).mono ?_;rintro e w' ⟨v',rfl,hb,ho⟩;obtain⟨A',c',rfl,ho,hl⟩:=sK rfl ho;exact⟨A',c',rfl,hb,ho,hl⟩
end
theorem pU{α:Type}{f:α->mt}{z:Nat}(hz:∀x,(f x).length=z):∀xs:List α,(xs.flatMap f).length=xs.length*z
 |[]=>by simp|x::xs=>by rw[ww,bF,hz,pU hz xs,dG,atj,Nat.add_comm]
theorem E0{α:Type}{f:α->mt}{z k:Nat}{u:Value}(hz:∀x,(f x).length=z)(hk:k<z):∀(xs:List α) (i:Nat) (x x':α),xs[i]?=some x->f x'=(f x).set k u->(xs.flatMap f).set (i*z+k) u=(xs.set i x').flatMap f
 |[],i,x,x',h,_=>by simp at h|y::xs,0,x,x',h,e=>by simp only[FS,dm]at h;subst h;rw[atS,ww,ww,e,Nat.zero_mul,asz,List.set_append_left _ _ (by rw[hz];exact hk)]|y::xs,i+1,x,x',h,e=>by
  have h':xs[i]?=some x:=by simpa using h
  rw[List.set_cons_succ,ww,ww,List.set_append_right _ _ (by rw[hz,atj];omega),hz,show(i+1)*z+k-z=i*z+k by rw[atj];omega,E0 hz hk xs i x x' h' e]
section
variable{α:Type}{w w':World}{B:Nat}{e:TypeId}{z:Nat}{f:α->mt}{A:pi}{c:Nat}{xs:List α}
theorem xk(hz:∀x,(f x).length=z)(h:cX w B e z f A c xs){b:Nat}(hA:A=some ⟨b,0,none⟩){i k:Nat}{x x':α}{u:Value}(hx:xs[i]?=some x)(hk:k<z)(hu:f x'=(f x).set k u):cX (w.setCell ⟨b,i*z+k,none⟩ u) B e z f A c (xs.set i x'):=by
 obtain⟨hl,h⟩:=h;have hfl:=E0 hz hk xs i x x' hx hu;refine⟨by rw[pU hz],?_⟩;rcases h with⟨h,h0⟩|⟨g,cap,cur,e1,hg,hh,hc,hm,hs,ht⟩
 .rw[AC h0]at hx;cases hx
 .obtain⟨rfl,_,rfl⟩:=(by simpa using e1:A=some ⟨g,0,none⟩/\True/\c=cap);obtain rfl:g=b:=by simpa using hA
  refine .inr ⟨g,c,cur.setIfInBounds (i*z+k) u,by rw[aig],hg,(show bD _ g e _ from(show bD w g e cur from hh).gO _ _),by rw[aig];exact hc,hm,by simpa using hs,?_⟩;rw[aig,atI,List.take_set,ht,hfl]
theorem aaf(h:cX w B e z f A c xs){row:Option Nat}(hg:w.grownBy w' row)(hb:∀b∈aO A,some b≠row):cX w' B e z f A c xs:=by
 by_cases hA:A=none
 .exact dB h fun b q=>by rw[hA]at q;cases q
 .refine dB h fun b q=>?_;obtain⟨hl,h⟩:=h;rcases h with⟨h,h0⟩|⟨g,cap,cur,e1,hg2,hh,hc,hm,hs,ht⟩
  .exact absurd (by simpa using h:A=none/\xs=[]/\c=0).1 hA
  .obtain⟨rfl,_,rfl⟩:=(by simpa using e1:A=some ⟨g,0,none⟩/\True/\c=cap);obtain rfl:b=g:=by simpa[aO]using q
   exact⟨hg.block b (asB.1 hh).1 (hb b q),hg2⟩
end
theorem EM{w w':World}{row:Option Nat}(h:Below w.heap.size w w'):w.grownBy w' row:=⟨h.os,h.tape,h.output,h.size,fun k hk _=>h.block k hk⟩
theorem pv{a b c:World}{row:Option Nat}(h:a.grownBy b row)(k:b.grownBy c row):a.grownBy c row:=⟨k.os.trans h.os,k.tape.trans h.tape,k.output.trans h.output,EQ h.size k.size,fun i hi hr=>(k.block i (arm hi h.size) hr).trans (h.block i hi hr)⟩
theorem px(w:World)(b o:Nat)(u:Value):w.grownBy (w.setCell ⟨b,o,none⟩ u) (some b):=⟨rfl,rfl,rfl,by simp[World.setCell],fun k _ hr=>sA w _ u k fun e=>hr (by rw[<-e])⟩
