import Derived.Test.YtmkbdfidnfmgmaaGreatWNa
import Derived.BigRegion
import Derived.Deep.MidRow
import Derived.StillTailTactics
import Derived.Deep.RegionHeld3
set_option linter.all false
section
namespace Go.Proofs.YtmkbdfidnfmgmaaGreat
open Go Go.RowKit
theorem Below.yy{B:Nat}{w w':World}(h:Below B w w')(p:Addr)(u:Value):Below B (w.setCell p u) (w'.setCell p u):=by refine⟨h.os,h.tape,h.output,by simpa[World.setCell]using h.size,fun k hk=>?_⟩;simp only[World.setCell,Array.getElem?_modify];rw[h.block k hk]
set_option maxHeartbeats 400000
theorem ajm(w:World)(A:pm)(n c:Nat)(to:jp)(q b o:Nat)(x:Int)(hR:Reads w w.heap.size 1 A n (to.map (Value.int .i64)))
  (hq:w.cell? ⟨q,0,none⟩=some (.pointer (some ⟨b,o,none⟩))) (hx:w.cell? ⟨b,o,none⟩=some (.int .i64 x)) (hf:w.frozen? ⟨b,o,none⟩=false)
  (h0:0<=x) (h1:x<n) (hn:n<=1048576) :
  Calls Tryz.prog 151 #[.agg #[.slice A n c],.slice (some ⟨q,0,none⟩) 1 1] w fun e w'=>e=.returned (.tuple #[])/\Below w.heap.size (w.setCell ⟨b,o,none⟩ (.int .i64 (to.getD x.toNat 0))) w':=by
 obtain⟨k,rfl⟩:=BY h0;obtain⟨b',off,rfl,hbB,hcell⟩:=hR.qO (k:=k) atO;rw[Ne];generalize to.getD k 0=y at *
 go_enter Tryz.func151,Tryz.ntmps151
 go_wp2_with fail
 go_loopw [8] (fun i wr=>∃j:Nat,j<=1/\i=.int .i64 j/\wr.cell? ⟨w.heap.size,0,none⟩=some (.slice (some ⟨b',off,none⟩) n c)/\(j=0->Below w.heap.size w wr)/\(j=1->Below w.heap.size (w.setCell ⟨b,o,none⟩ (.int .i64 y)) wr)) (fun i _=>1-(intOf i).toNat)
 case atStart=>
  refine⟨0,atO,rfl,?_,fun _=>(Below.refl _ w).alloc (rt _) _,fun h=>atO⟩
  go_simp
 case round=>
  obtain⟨j,hj,rfl,hbox,hb0,hb1⟩:=hrel;by_cases hlt:j<1
  .obtain rfl:j=0:=atO
   have hb:=hb0 rfl;have bw:b<w.heap.size:=World.block_lt_of_cell? w _ hx;have qw:q<w.heap.size:=World.block_lt_of_cell? w _ hq;have hq':=(hb.cell (p:=⟨q,0,none⟩) qw).trans hq;have hx':=(hb.cell (p:=⟨b,o,none⟩) bw).trans hx;have hf':=(hb.frozen (p:=⟨b,o,none⟩) bw).trans hf;have hc':=(hb.cell (p:=⟨b',off+k,none⟩) hbB).trans hcell
   go_wp2_with fail
   go_region
   all_goals go_wp2_with fail
   go_roundw
   case rel=>refine⟨1,rt _,by go_num,?_,fun e=>atO,fun _=>(Below.yy hb _ _).drew⟩;show(wr.setCell ⟨b,o,none⟩ (.int .i64 y)).cell? ⟨w.heap.size,0,none⟩=_;refine Eq.trans (World.cell?_of_block (w:=wr) (Below.heap_setCell _ _ _ _ ?_)) hbox;exact fun e=>by have e:w.heap.size=b:=e;omega
   case measure=>simp[intOf]
  .obtain rfl:j=1:=atO
   have hb:=hb1 rfl
   go_wp2_with fail
   exact⟨rfl,.tuple #[],results_none rfl _ _ _,rfl,hb⟩
theorem D4(a:Nat)(ha:a<9223372036854775808):(BitVec.ofInt 64 (a:Int)).toNat=a:=by rw[BitVec.ofInt_natCast,BitVec.toNat_ofNat];omega
theorem alF(x:Int)(h:0<=x)(h':x<=9223372036854775807):bits .and .i64 x 1=x % 2:=by obtain⟨n,rfl⟩:=BY h;show IntKind.i64.wrap ((BitVec.ofInt 64 (n:Int) &&& BitVec.ofInt 64 ((1:Nat):Int)).toNat:Int)=_;rw[BitVec.toNat_and,D4 n atO,D4 1 atO,Nat.and_one_is_mod,IntKind.wrap_i64];omega
theorem alG(v:Int)(h:0<=v)(h':v<=1000000):bits .xor .i64 (v*2) 1=2*v+1:=by
 obtain⟨n,rfl⟩:=BY h;rw[show((n:Int)*2)=((2*n:Nat):Int) by omega];show IntKind.i64.wrap ((BitVec.ofInt 64 ((2*n:Nat):Int) ^^^ BitVec.ofInt 64 ((1:Nat):Int)).toNat:Int)=_;have e1:(2*n ^^^ 1) % 2=1:=by rw[Nat.mod_two_eq_one_iff_testBit_zero,Nat.testBit_xor];simp[Nat.testBit_zero]
 have e2:(2*n ^^^ 1) / 2=n:=by rw[Nat.xor_div_two];simp
 rw[BitVec.toNat_xor,D4 (2*n) atO,D4 1 atO,IntKind.wrap_i64];omega
theorem aic(x:Int)(w:World)(h:0<=x)(h':x<=9223372036854775807):Calls Tryz.prog 80 #[.int .i64 x] w fun e w'=>e=.returned (.bool (x % 2 == 1))/\w=w':=by
 go_enter Tryz.func80,Tryz.ntmps80
 go_wp2
 go_ret
 exact⟨by rw[alF x h h'];rfl,rfl⟩
theorem ahV(v:Int)(b:Bool)(w:World)(h:0<=v)(h':v<=1000000):Calls Tryz.prog 74 #[.int .i64 v,.bool b] w fun e w'=>e=.returned (.int .i64 (2*v+(if b then 1 else 0)))/\w=w':=by
 cases b
 .go_enter Tryz.func74,Tryz.ntmps74
  go_wp2
  go_ret
  exact⟨Zm2 atO,rfl⟩
 .have E:=Lib.hid (alG v h h')
  go_enter Tryz.func74,Tryz.ntmps74
  go_wp2
  go_ret
  exact⟨Zm2 E.out,rfl⟩
abbrev fT:=Nat×Nat×Int
def fT.ad(u:fT):Addr:=⟨u.1,u.2.1,none⟩
def av(to:jp)(x:Int):Int:=2*to.getD (x / 2).toNat 0+(if x % 2 == 1 then 1 else 0)
def cg(f:Int->Int)(w:World)(us:List fT):World:=us.foldl (fun w u=>w.setCell u.ad (.int .i64 (f u.2.2))) w
theorem XR(f:Int->Int)(w:World)(us:List fT)(u:fT):cg f w (us++[u])=(cg f w us).setCell u.ad (.int .i64 (f u.2.2)):=by unfold cg;rw[asd];rfl
theorem MD(w:World)(p a:Addr)(v:Value)(hp:p.spot=none)(ha:a.spot=none)(h:p≠a):(w.setCell p v).cell? a=w.cell? a:=by obtain⟨pb,po,ps⟩:=p;obtain⟨ab,ao,aq⟩:=a;cases hp;cases ha;have:=World.cell?_setCells_out pb [v] po w ⟨ab,ao,none⟩ (by intro e _;have e:ab=pb:=e;subst e;have:po≠ao:=fun q=>h (by rw[q]);show ao<po\/po+1<=ao;omega);exact this
theorem oJ(f:Int->Int):∀(us:List fT) (w:World) (a:Addr),a.spot=none->(∀u∈us,u.ad≠a)->(cg f w us).cell? a=w.cell? a
 |[],w,a,_,_=>rfl|u::us,w,a,ha,h=>(oJ f us _ a ha fun x hx=>h x (FS _ hx)).trans (MD w u.ad a _ rfl ha (h u (IN ..)))
theorem DD(f:Int->Int):∀(us:List fT) (w:World) (a:Addr),(cg f w us).frozen? a=w.frozen? a
 |[],w,a=>rfl|u::us,w,a=>(DD f us _ a).trans (World.frozen?_setCells u.ad.block [.int .i64 (f u.2.2)] u.ad.off w a)
theorem nJ(f:Int->Int):∀(us:List fT) (w:World),(cg f w us).heap.size=w.heap.size
 |[],w=>rfl|u::us,w=>(nJ f us _).trans (by simp[World.setCell])
structure oS(w:World)(n b':Nat)(us:List fT):Prop where
 at_:∀u∈us,w.cell? u.ad=some (.int .i64 u.2.2)/\w.frozen? u.ad=false/\0<=u.2.2/\u.2.2 / 2<n/\u.1≠b'
 nd:(us.map fT.ad).Nodup
theorem oS.YF{w:World}{n b':Nat}{us:List fT}(h:oS w n b' us){j:Nat}(hj:j<us.length):∀u∈us.take j,u.ad≠us[j].ad:=by
 intro u hu e;obtain⟨i,hi,rfl⟩:=arO hu;have hi':i<j:=by rw[fx]at hi;omega
 rw[List.getElem_take]at e;exact asb.1 h.nd i j (by rw[aP];omega) (by rw[aP];omega) hi' (by rw[ath,ath];exact e)
set_option maxRecDepth 20000
set_option maxHeartbeats 2000000
theorem YA(w:World)(b' off n c:Nat)(to:jp)(q c2:Nat)(us:List fT)(hR:Reads w w.heap.size 1 (some ⟨b',off,none⟩) n (to.map (Value.int .i64)))
  (hQ:Reads w w.heap.size 1 (some ⟨q,0,none⟩) us.length (us.map fun u=>Value.pointer (some u.ad))) (hU:oS w n b' us) (ef:∀y∈to,0<=y/\y<=1000000) (hn:n<=1048576) (hm:us.length<=1000) :
  Calls Tryz.prog 152 #[.agg #[.slice (some ⟨b',off,none⟩) n c],.slice (some ⟨q,0,none⟩) us.length c2] w fun e w'=>e=.returned (.tuple #[])/\Below w.heap.size (cg (av to) w us) w':=by
 go_enter Tryz.func152,Tryz.ntmps152
 go_wp2_with fail
 go_loopw [8] (fun i wr=>∃j:Nat,j<=us.length/\i=.int .i64 j/\wr.cell? ⟨w.heap.size,0,none⟩=some (.slice (some ⟨b',off,none⟩) n c)/\Below w.heap.size (cg (av to) w (us.take j)) wr) (fun i _=>us.length-(intOf i).toNat)
 case atStart=>
  refine⟨0,GT _,rfl,?_,(Below.refl _ w).alloc (rt _) _⟩
  go_simp
 case round=>
  obtain⟨j,hj,rfl,hbox,hb⟩:=hrel;by_cases hlt:j<us.length
  .have hu:=hU.at_ us[j] (By hlt);have hne:=hU.YF hlt;obtain⟨ad,p,ea,hadB,hp,hpc⟩:=hQ.at_ hlt;cases ea;rw[ct,ba hlt]at hp;cases hp;rw[Addr.add_mid]at hpc;have hqc:∀u∈us.take j,u.ad≠⟨q,0+j,none⟩:=by intro u hu' e;have:=(hU.at_ u (ash hu')).1;rw[e,hpc]at this;cases this
   have hpc:=(oJ (av to) (us.take j) w _ rfl hqc).trans hpc;have hpc:wr.cell? ⟨q,j,none⟩=some (.pointer (some us[j].ad)):=by
    have:=(hb.cell (p:=⟨q,0+j,none⟩) hadB).trans hpc
    rwa [ase]at this
   have hxB:(us[j].ad).block<w.heap.size:=World.block_lt_of_cell? w _ hu.1;have hxc:=(hb.cell (p:=us[j].ad) hxB).trans ((oJ (av to) (us.take j) w _ rfl hne).trans hu.1);have hxf:=(hb.frozen (p:=us[j].ad) hxB).trans ((DD (av to) (us.take j) w _).trans hu.2.1);obtain⟨k,hk⟩:=BY (show 0<=us[j].2.2 / 2 by omega);have hkn:k<n:=atO
   obtain⟨tb,toff,te,htB,htc⟩:=hR.qO (k:=k) atO;cases te;have htc:=(hb.cell (p:=⟨b',off+k,none⟩) htB).trans ((oJ (av to) (us.take j) w _ rfl (fun u hu' e=>(hU.at_ u (ash hu')).2.2.2.2 (by have:=PP Addr.block e;exact this))).trans htc);have hren:av to us[j].2.2=2*to.getD k 0+(if us[j].2.2 % 2 == 1 then 1 else 0):=by unfold av;rw[hk];rfl
   have hyb:0<=to.getD k 0/\to.getD k 0<=1000000:=by
    have hl:to.length=n:=by have:=hR.1;simpa using this
    rw[eu,ba atO];exact ef _ (By _)
   have hsn:=XR (av to) w (us.take j) us[j];rw[atB hlt]at hsn;have hx0:=hu.2.2.1;have HS:=Lib.hid hsn;have HR:=Lib.hid hren;have HK:=Lib.hid hk;have HU:=Lib.hid hU;clear hsn hren hk hu hne hqc hU hQ hR ef;generalize hv:us[j]=uj at *
   obtain⟨ub,uo,x⟩:=uj;generalize to.getD k 0=y at *
   have hk:x / 2=(k:Int):=HK.out;have hx1:x<=9223372036854775807:=atO
   have HV:Hid (∀w,Calls Tryz.prog 79 #[.int .i64 x] w fun e w'=>e=.returned (.int .i64 (k:Nat))/\w=w'):=fun w=>hk▸aaY x w hx0 hx1;have HN:Hid (∀w,Calls Tryz.prog 80 #[.int .i64 x] w fun e w'=>e=.returned (.bool (x % 2 == 1))/\w=w'):=fun w=>aic x w hx0 hx1;have HM:Hid (∀w,Calls Tryz.prog 74 #[.int .i64 y,.bool (x % 2 == 1)] w fun e w'=>e=.returned (.int .i64 (2*y+(if(x % 2 == 1)=true then 1 else 0)))/\w=w'):=fun w=>ahV y _ w hyb.1 hyb.2;clear hk hx0 hx1 hyb;generalize hbb:(x % 2 == 1)=bb at *
   generalize hz:(2*y+if bb=true then 1 else 0:Int)=z at *
   go_wp2_with fail
   refine wp_region_still_tail 14 atP atP ?_;simp only[List.take_succ_cons,arR,List.drop_succ_cons,List.drop_zero];change wpStill _ _ wr.drew _ _ _;change wpStill _ _ _ (fun a'=>wpList _ _ _ _ a' wr.drew) _ _;have hbox:wr.drew.cell? ⟨w.heap.size,0,none⟩=some (.slice (some ⟨b',off,none⟩) n c):=hbox;have hxc:wr.drew.cell? ⟨ub,uo,none⟩=some (.int .i64 x):=hxc;have hxf:wr.drew.frozen? ⟨ub,uo,none⟩=false:=hxf;have htc:wr.drew.cell? ⟨b',off+k,none⟩=some (.int .i64 y):=htc;have hb:Below w.heap.size (cg (av to) w (List.take j us)) wr.drew:=hb.drew;generalize wr.drew=w2 at *
   simp only[fT.ad]
   still_step
   still_step
   still_step
   still_step
   still_step
   still_step
   still_call ((HV.out _).mono (by rintro e w' ⟨rfl,rfl⟩;exact⟨rfl,rfl⟩))
   iterate 5 still_step
   still_call ((HN.out _).mono (by rintro e w' ⟨rfl,rfl⟩;exact⟨rfl,rfl⟩))
   still_call ((HM.out _).mono (by rintro e w' ⟨rfl,rfl⟩;exact⟨rfl,rfl⟩))
   refine wpStill_nil ?_
   go_wp2_with fail
   go_roundw
   case rel=>
    refine⟨j+1,atO,by go_num,?_,?_⟩
    .refine Eq.trans (World.cell?_of_block (w:=w2) (Below.heap_setCell _ _ _ _ ?_)) hbox;have:ub<w.heap.size:=hxB;exact fun e=>by have e:w.heap.size=ub:=e;omega
    .rw[HS.out,HR.out];exact Below.yy hb _ _
   case measure=>simp[intOf];omega
  .obtain rfl:j=us.length:=atO
   rw[eX]at hb
   go_wp2_with fail
   exact⟨rfl,.tuple #[],results_none rfl _ _ _,rfl,hb⟩
structure nP(α:Type) where
 A:Option Nat
 cap:Nat
 xs:List α
def nP.v{α:Type}(r:nP α):Value:=.slice (r.A.map fun b=>⟨b,0,none⟩) r.xs.length r.cap
def nP.b{α:Type}(r:nP α):Nat:=r.A.getD 0
abbrev dI:=nP Int
def dI.us(l:dI):List fT:=l.xs.zipIdx.map fun p=>(l.b,p.2,p.1)
theorem dI.yE(l:dI):(dI.us l).length=l.xs.length:=by simp[dI.us]
theorem dI.amm(l:dI){i:Nat}(h:i<l.xs.length):(dI.us l)[i]'(by rw[dI.yE l];exact h)=(l.b,i,l.xs[i]):=by simp[dI.us]
theorem oS.one{w w3:World}{n b':Nat}{us:List fT}(h:oS w n b' us){f:Int->Int}{j:Nat}(hj:j<us.length)(hb:Below w.heap.size (cg f w (us.take j)) w3):oS w3 n b' [us[j]]:=by have hu:=h.at_ us[j] (By hj);have hB:(us[j].ad).block<w.heap.size:=World.block_lt_of_cell? w _ hu.1;refine⟨fun u hm=>?_,atQ⟩;obtain rfl:=NE.1 hm;exact⟨(hb.cell hB).trans ((oJ f _ w _ rfl (h.YF hj)).trans hu.1),(hb.frozen hB).trans ((DD f _ w _).trans hu.2.1),hu.2.2⟩
theorem oS.row{w w3:World}{n b' off:Nat}{to:jp}{us:List fT}(h:oS w n b' us){f:Int->Int}{j:Nat}(hb:Below w.heap.size (cg f w (us.take j)) w3)(hs:w.heap.size<=w3.heap.size)
  (hR:Reads w w.heap.size 1 (some ⟨b',off,none⟩) n (to.map (Value.int .i64))):Reads w3 w3.heap.size 1 (some ⟨b',off,none⟩) n (to.map (Value.int .i64)):=by
 refine(Reads.more ?_ hs);by_cases hn:0<n
 .obtain⟨hl,hrow⟩:=hR;refine⟨hl,fun hp=>?_⟩;obtain⟨ad,e,hB,hc⟩:=hrow hp;refine⟨ad,e,hB,fun i v hv=>?_⟩;have e:ad=⟨b',off,none⟩:=(Do e).symm;subst e;have:=hc i v hv;rw[Addr.add_mid]at this |-;refine(hb.cell (p:=⟨b',off+i,none⟩) hB).trans ((oJ f _ w _ rfl fun u hu q=>?_).trans this);have q:u.1=b':=PP Addr.block q;exact(h.at_ u (ash hu)).2.2.2.2 q
 .obtain rfl:n=0:=atO
  exact⟨hR.1,fun hp=>absurd hp atO⟩
theorem XF:∀(ls:List dI) (j:Nat) (i:Nat) (hj:j<ls.length),i<=ls[j].xs.length->(ls.flatMap dI.us).take (((ls.take j).flatMap dI.us).length+i)=(ls.take j).flatMap dI.us++(dI.us ls[j]).take i
 |l::ls,0,i,_,hi=>by show(dI.us l++ls.flatMap dI.us).take (0+i)=[]++(dI.us l).take i;rw[ase,asr (by rw[dI.yE];exact hi)];rfl|l::ls,j+1,i,hj,hi=>by
  have hj':j<ls.length:=by simpa using hj
  have ih:=XF ls j i hj' hi;show(dI.us l++ls.flatMap dI.us).take ((dI.us l++(ls.take j).flatMap dI.us).length+i)=(dI.us l++(ls.take j).flatMap dI.us)++(dI.us (ls[j]'hj')).take i;rw[bU,asp,asy,ih,bB]
theorem X0:∀(ls:List dI) (j:Nat) (i:Nat) (hj:j<ls.length) (hi:i<ls[j].xs.length),(ls.flatMap dI.us)[((ls.take j).flatMap dI.us).length+i]?=some (ls[j].b,i,ls[j].xs[i])
 |l::ls,0,i,_,hi=>by show(dI.us l++ls.flatMap dI.us)[0+i]?=_;rw[ase,Pi (by rw[dI.yE];exact hi),ba (by rw[dI.yE];exact hi),dI.amm l hi];rfl|l::ls,j+1,i,hj,hi=>by
  have hj':j<ls.length:=by simpa using hj
  have ih:=X0 ls j i hj' hi;show(dI.us l++ls.flatMap dI.us)[(dI.us l++(ls.take j).flatMap dI.us).length+i]?=_;rw[bU,asp,WF (Nat.le_add_right _ _),atC,ih];rfl
set_option maxHeartbeats 4000000
theorem ajl(w:World)(b' off n c:Nat)(to:jp)(q c2:Nat)(ls:List dI)(hR:Reads w w.heap.size 1 (some ⟨b',off,none⟩) n (to.map (Value.int .i64)))
  (hQ:Reads w w.heap.size 1 (some ⟨q,0,none⟩) ls.length (ls.map nP.v)) (hU:oS w n b' (ls.flatMap dI.us)) (ef:∀y∈to,0<=y/\y<=1000000) (hn:n<=1048576) (hm:ls.length<=1000) (hx:∀l∈ls,l.xs.length<=1048576/\(l.xs≠[]->l.A=some l.b)) :
  Calls Tryz.prog 153 #[.agg #[.slice (some ⟨b',off,none⟩) n c],.slice (some ⟨q,0,none⟩) ls.length c2] w fun e w'=>e=.returned (.tuple #[])/\Below w.heap.size (cg (av to) w (ls.flatMap dI.us)) w':=by
 go_enter Tryz.func153,Tryz.ntmps153
 go_wp2_with fail
 go_loopw [9] (fun i wr=>∃j:Nat,j<=ls.length/\i=.int .i64 j/\wr.cell? ⟨w.heap.size,0,none⟩=some (.slice (some ⟨b',off,none⟩) n c)/\w.heap.size<wr.heap.size/\Below w.heap.size (cg (av to) w ((ls.take j).flatMap dI.us)) wr) (fun i _=>ls.length-(intOf i).toNat)
 case atStart=>
  refine⟨0,GT _,rfl,?_,?_,(Below.refl _ w).alloc (rt _) _⟩
  .go_simp
  .simp
 case round=>
  obtain⟨j,hj,rfl,hbox,hsz,hb⟩:=hrel;by_cases hlt:j<ls.length
  .have hft:=fun i hi=>XF ls j i hlt hi;have hxl:=hx ls[j] (By hlt);have hqa:wr.cell? ⟨q,j,none⟩=some ls[j].v:=by
    obtain⟨ad,p,ea,hadB,hp,hpc⟩:=hQ.at_ hlt;cases ea;rw[ct,ba hlt]at hp;cases hp;rw[Addr.add_mid]at hpc;have h0:=hft 0 (GT _);rw[arR,d6]at h0;rw[<-h0]at hb;have:=(hb.cell (p:=⟨q,0+j,none⟩) hadB).trans ((oJ (av to) _ w _ rfl fun u hu e=>by have:=(hU.at_ u (ash hu)).1;rw[e,hpc]at this;cases this).trans hpc)
    rwa [ase]at this
   have HFT:=Lib.hid hft;have HU:=Lib.hid hU;have HR:=Lib.hid hR;have HT:=Lib.hid ef;clear hft hQ hU hR ef hx;obtain⟨oa,hv,hoa⟩:∃oa:pm,ls[j].v=.slice oa ls[j].xs.length ls[j].cap/\(0<ls[j].xs.length->oa=some ⟨ls[j].b,0,none⟩):=by refine⟨_,rfl,fun h=>?_⟩;rw[hxl.2 (fun e=>by rw[e]at h;exact Nat.lt_irrefl 0 h)];rfl
   have hxl:=hxl.1;rw[hv]at hqa;have HO:=Lib.hid hoa;clear hv hoa
   go_wp2_with fail
   go_loopw [15] (fun i' wq=>∃i:Nat,i<=ls[j].xs.length/\i'=.int .i64 i/\wq.cell? ⟨w.heap.size,0,none⟩=some (.slice (some ⟨b',off,none⟩) n c)/\w.heap.size<wq.heap.size/\Below w.heap.size (cg (av to) w ((ls.flatMap dI.us).take (((ls.take j).flatMap dI.us).length+i))) wq) (fun i' _=>ls[j].xs.length-(intOf i').toNat)
   case atStart=>refine⟨0,GT _,rfl,hbox,hsz,?_⟩;rw[HFT.out 0 (GT _),arR,d6];exact hb
   case round=>
    clear hbox hsz hb;obtain⟨i,hi,rfl,hbox,hsz,hb⟩:=hrel;by_cases hil:i<ls[j].xs.length
    .obtain rfl:oa=some ⟨ls[j].b,0,none⟩:=HO.out atO;clear HO;have hat:=X0 ls j i hlt hil;have hLi:=(ut.1 hat).1;have hUi:=(ut.1 hat).2;have hone:=HU.out.one hLi hb;rw[hUi]at hone;have hrow:=HU.out.row hb atO HR.out;have hsn:=XR (av to) w ((ls.flatMap dI.us).take (((ls.take j).flatMap dI.us).length+i)) ((ls.flatMap dI.us)[((ls.take j).flatMap dI.us).length+i]);rw[atB hLi,hUi]at hsn;have HS:=Lib.hid hsn;have HO2:=Lib.hid hone;have HW:=Lib.hid hrow;have HL:Hid (∀(W:World) (q':Nat) (ad:Addr),q'=wr.heap.size->W=(wr.alloc (Obj.cells #[Value.pointer (some ad)] 224)).drew->ad=⟨ls[j].b,i,none⟩ ->
      Calls Tryz.prog 152 #[.agg #[.slice (some ⟨b',off,none⟩) n c],.slice (some ⟨q',0,none⟩) 1 1] W fun e w'=>e=.returned (.tuple #[])/\Below wr.heap.size (wr.setCell ⟨ls[j].b,i,none⟩ (.int .i64 (av to ls[j].xs[i]))) w'):=by
      intro W q' ad e1 e2 e3;subst e1 e2 e3;have hsz3:wr.heap.size<=(wr.alloc (Obj.cells #[Value.pointer (some ⟨ls[j].b,i,none⟩)] 224)).drew.heap.size:=by show _<=(wr.alloc _).heap.size;simp
      have hb3:Below wr.heap.size wr (wr.alloc (Obj.cells #[Value.pointer (some ⟨ls[j].b,i,none⟩)] 224)).drew:=((Below.refl _ wr).alloc (rt _) _).drew;have hu:=hone.at_ _ (NE.2 rfl);have huB:ls[j].b<wr.heap.size:=World.block_lt_of_cell? wr _ hu.1;have hro:Reads (wr.alloc (Obj.cells #[Value.pointer (some ⟨ls[j].b,i,none⟩)] 224)).drew (wr.alloc (Obj.cells #[Value.pointer (some ⟨ls[j].b,i,none⟩)] 224)).drew.heap.size 1 (some ⟨b',off,none⟩) n (to.map (Value.int .i64)):=(hrow.below hb3).more hsz3;have:=YA (wr.alloc (Obj.cells #[Value.pointer (some ⟨ls[j].b,i,none⟩)] 224)).drew b' off n c to wr.heap.size 1 [(ls[j].b,i,ls[j].xs[i])] hro
       ⟨rfl,fun _=>⟨_,rfl,by show wr.heap.size<(wr.alloc _).heap.size;simp,fun k u hk=>by
        have hk0:k=0:=by have:=(ut.1 hk).1;simpa using this
        subst hk0;cases hk;show(wr.alloc _).cell? ⟨wr.heap.size,0,none⟩=_
        go_simp
        rfl⟩⟩
       ⟨fun u hm=>by obtain rfl:=NE.1 hm;exact⟨(hb3.cell huB).trans hu.1,(hb3.frozen huB).trans hu.2.1,hu.2.2⟩,hone.nd⟩ HT.out hn atQ
      refine this.mono ?_;rintro e w' ⟨rfl,h⟩;exact⟨rfl,(Below.yy hb3 _ _).trans (h.mono hsz3)⟩
     have HX:Hid (∀w',Below wr.heap.size (wr.setCell ⟨ls[j].b,i,none⟩ (.int .i64 (av to ls[j].xs[i]))) w'->w'.cell? ⟨w.heap.size,0,none⟩=some (.slice (some ⟨b',off,none⟩) n c)):=by intro w' h;refine(h.cell hsz).trans (Eq.trans (World.cell?_of_block (w:=wr) (Below.heap_setCell _ _ _ _ ?_)) hbox);have hu:=HU.out.at_ _ (By hLi);rw[hUi]at hu;have:=World.block_lt_of_cell? w _ hu.1;exact fun e=>by have e:w.heap.size=ls[j].b:=e;have this:ls[j].b<w.heap.size:=this;omega
     clear hsn hone hrow hat hUi;generalize ls[j].xs[i]=x at *
     go_wp2_with fail
     go_region_held3 (fun w'=>w'.cell? ⟨w.heap.size,0,none⟩=some (.slice (some ⟨b',off,none⟩) n c)) (first|assumption|exact(World.cell?_alloc_lt _ _ ⟨w.heap.size,0,none⟩ hsz).trans hbox) (first|(go_at_call 152;refine(HL.out _ _ _ rfl rfl rfl).mono ?_;rintro e w' ⟨rfl,hbw⟩;have hbx:=HX.out _ hbw))
     go_wp2_with fail
     go_roundw
     case rel=>
      refine⟨i+1,atO,by go_num,by assumption,?_,?_⟩
      .have h1:=hbw.size;have h2:(wr.setCell ⟨ls[j].b,i,none⟩ (.int .i64 (av to x))).heap.size=wr.heap.size:=by simp[World.setCell]
       omega
      .rw[<-asp,HS.out];exact(Below.yy hb _ _).trans (hbw.mono atO)
     case measure=>simp[intOf];omega
    .obtain rfl:i=ls[j].xs.length:=atO
     go_wp2_with fail
     go_roundw
     case rel=>
      refine⟨j+1,atO,by go_num,hbox,hsz,?_⟩;have h1:=HFT.out _ (rt _);rw[h1]at hb;have e:(ls.take (j+1)).flatMap dI.us=(ls.take j).flatMap dI.us++(dI.us ls[j]).take ls[j].xs.length:=by rw[<-atB hlt,OF,If (l:=dI.us ls[j]) (by rw[dI.yE];exact rt _)];simp
      rw[e];exact hb
     case measure=>simp[intOf];omega
  .obtain rfl:j=ls.length:=atO
   rw[eX]at hb
   go_wp2_with fail
   exact⟨rfl,.tuple #[],results_none rfl _ _ _,rfl,hb⟩
theorem aie(w:World)(A:pm)(n c B:Nat)(xs:jp)(hR:Reads w B 1 A n (ints xs))(hB:B<=w.heap.size)(hn:n<=1048576) :
  Calls Tryz.prog 93 #[.slice A n c] w fun e w'=>∃v',e=.returned v'/\Below w.heap.size w w'/\w'.ownsRow w.heap.size 3 1 v' n (ints xs):=by
 rcases A with _|ad
 .have hn0:n=0:=by
   rcases ST n with h|h
   .exact h
   .obtain⟨_,h,_⟩:=hR.2 h;cases h
  subst hn0;have hx:xs=[]:=ww (by have:=hR.1;simpa[ints]using this);subst hx;have hs:=fun W=>Lib.run_eql_slice_nil (P:=Tryz.prog) W 22 3 none 0 c 0 0 Tryz.underlying22
  go_enter Tryz.func93,Tryz.ntmps93
  go_wp2
  go_ret
  exact⟨_,rfl,Below.refl _ _,World.ownsRow_nil _ _ _ _⟩
 .have hs:=fun W=>Lib.run_eql_slice_nil (P:=Tryz.prog) W 22 3 (some ad) n c 0 0 Tryz.underlying22;obtain⟨i0,hi0,hz0,hz1,hz2⟩:=info_parts EY;have hown:=World.ownsRow_made (base:=w.heap.size) (e:=3) (size:=1) w #[] 0 (rt _) (by simp[maxLen]) rfl;have hR2:=hR.alloc hB (.cells #[] 3);have H1:=Lib.hid hi0;have H2:=Lib.hid hz0;have H3:=Lib.hid hz1;have H4:=Lib.hid hz2;clear hi0 hz0 hz1 hz2
  go_enter Tryz.func93,Tryz.ntmps93
  go_wp2_with (at_builtin;refine uW _ rfl _ _ 22 rfl w.heap.size 3 i0 (.int .i64 0) 1 8 Tryz.underlying22 H1.out H2.out H3.out H4.out rfl atS _ 0 [] rfl hown B (some ad) n c (ints xs) rfl hR2 (Zzn xs) (by unfold maxLen;omega) atO atQ ?_;intro v1 w1 hown1 hg1 hat1)
  go_ret
  rw[ase,UV]at hown1;refine⟨_,rfl,((Below.refl _ w).alloc (rt _) (.cells #[] 3)).grown hg1 atQ ?_,hown1⟩;intro k hk;injection hk with hk;exact ato hk
theorem ajh:(Tryz.prog.info? 78).map (fun i=>(i.zero,i.size,i.bytes))=some (some (.agg #[.int .i64 0,.int .i64 0,.int .i64 0]),3,24):=atP
theorem aif(w:World)(A:pm)(n c B:Nat)(xs:pi)(hR:Reads w B 3 A n xs)(h1:∀u∈xs,u.oneCell'=true)(hB:B<=w.heap.size)(hn:n<=1048576) :
  Calls Tryz.prog 94 #[.slice A n c] w fun e w'=>∃v',e=.returned v'/\Below w.heap.size w w'/\w'.ownsRow w.heap.size 78 3 v' n xs:=by
 rcases A with _|ad
 .have hn0:n=0:=by
   rcases ST n with h|h
   .exact h
   .obtain⟨_,h,_⟩:=hR.2 h;cases h
  subst hn0;have hx:xs=[]:=ww (by have:=hR.1;simpa using this);subst hx;have hs:=fun W=>Lib.run_eql_slice_nil (P:=Tryz.prog) W 23 78 none 0 c 0 0 Tryz.underlying23
  go_enter Tryz.func94,Tryz.ntmps94
  go_wp2
  go_ret
  exact⟨_,rfl,Below.refl _ _,World.ownsRow_nil _ _ _ _⟩
 .have hs:=fun W=>Lib.run_eql_slice_nil (P:=Tryz.prog) W 23 78 (some ad) n c 0 0 Tryz.underlying23;obtain⟨i0,hi0,hz0,hz1,hz2⟩:=info_parts ajh;have hown:=World.ownsRow_made (base:=w.heap.size) (e:=78) (size:=3) w #[] 0 (rt _) (by simp[maxLen]) rfl;have hR2:=hR.alloc hB (.cells #[] 78);have H1:=Lib.hid hi0;have H2:=Lib.hid hz0;have H3:=Lib.hid hz1;have H4:=Lib.hid hz2;clear hi0 hz0 hz1 hz2
  go_enter Tryz.func94,Tryz.ntmps94
  go_wp2_with (at_builtin;refine uW _ rfl _ _ 23 rfl w.heap.size 78 i0 (.agg #[.int .i64 0,.int .i64 0,.int .i64 0]) 3 24 Tryz.underlying23 H1.out H2.out H3.out H4.out rfl atS _ 0 [] rfl hown B (some ad) n c xs rfl hR2 h1 (by unfold maxLen;omega) atO atQ ?_;intro v1 w1 hown1 hg1 hat1)
  go_ret
  rw[ase,UV]at hown1;refine⟨_,rfl,((Below.refl _ w).alloc (rt _) (.cells #[] 78)).grown hg1 atQ ?_,hown1⟩;intro k hk;injection hk with hk;exact ato hk
theorem ajg:(Tryz.prog.info? 113).map (fun i=>(i.zero,i.size,i.bytes))=some (some (.agg #[.int .i64 0,.int .i64 0,.int .i64 0]),3,24):=atP
theorem aid(w:World)(A:pm)(n c B:Nat)(xs:pi)(hR:Reads w B 3 A n xs)(h1:∀u∈xs,u.oneCell'=true)(hB:B<=w.heap.size)(hn:n<=1048576) :
  Calls Tryz.prog 95 #[.slice A n c] w fun e w'=>∃v',e=.returned v'/\Below w.heap.size w w'/\w'.ownsRow w.heap.size 113 3 v' n xs:=by
 rcases A with _|ad
 .have hn0:n=0:=by
   rcases ST n with h|h
   .exact h
   .obtain⟨_,h,_⟩:=hR.2 h;cases h
  subst hn0;have hx:xs=[]:=ww (by have:=hR.1;simpa using this);subst hx;have hs:=fun W=>Lib.run_eql_slice_nil (P:=Tryz.prog) W 25 113 none 0 c 0 0 Tryz.underlying25
  go_enter Tryz.func95,Tryz.ntmps95
  go_wp2
  go_ret
  exact⟨_,rfl,Below.refl _ _,World.ownsRow_nil _ _ _ _⟩
 .have hs:=fun W=>Lib.run_eql_slice_nil (P:=Tryz.prog) W 25 113 (some ad) n c 0 0 Tryz.underlying25;obtain⟨i0,hi0,hz0,hz1,hz2⟩:=info_parts ajg;have hown:=World.ownsRow_made (base:=w.heap.size) (e:=113) (size:=3) w #[] 0 (rt _) (by simp[maxLen]) rfl;have hR2:=hR.alloc hB (.cells #[] 113);have H1:=Lib.hid hi0;have H2:=Lib.hid hz0;have H3:=Lib.hid hz1;have H4:=Lib.hid hz2;clear hi0 hz0 hz1 hz2
  go_enter Tryz.func95,Tryz.ntmps95
  go_wp2_with (at_builtin;refine uW _ rfl _ _ 25 rfl w.heap.size 113 i0 (.agg #[.int .i64 0,.int .i64 0,.int .i64 0]) 3 24 Tryz.underlying25 H1.out H2.out H3.out H4.out rfl atS _ 0 [] rfl hown B (some ad) n c xs rfl hR2 h1 (by unfold maxLen;omega) atO atQ ?_;intro v1 w1 hown1 hg1 hat1)
  go_ret
  rw[ase,UV]at hown1;refine⟨_,rfl,((Below.refl _ w).alloc (rt _) (.cells #[] 113)).grown hg1 atQ ?_,hown1⟩;intro k hk;injection hk with hk;exact ato hk
theorem aji:(Tryz.prog.info? 97).map (fun i=>(i.zero,i.size,i.bytes))=some (some (.agg #[.int .i64 0,.int .i64 0,.bool false,.slice none 0 0,.slice none 0 0]),5,72):=atP
theorem aih(w:World)(A:pm)(n c B:Nat)(xs:pi)(hR:Reads w B 5 A n xs)(h1:∀u∈xs,u.oneCell'=true)(hB:B<=w.heap.size)(hn:n<=1048576) :
  Calls Tryz.prog 96 #[.slice A n c] w fun e w'=>∃v',e=.returned v'/\Below w.heap.size w w'/\w'.ownsRow w.heap.size 97 5 v' n xs:=by
 rcases A with _|ad
 .have hn0:n=0:=by
   rcases ST n with h|h
   .exact h
   .obtain⟨_,h,_⟩:=hR.2 h;cases h
  subst hn0;have hx:xs=[]:=ww (by have:=hR.1;simpa using this);subst hx;have hs:=fun W=>Lib.run_eql_slice_nil (P:=Tryz.prog) W 24 97 none 0 c 0 0 Tryz.underlying24
  go_enter Tryz.func96,Tryz.ntmps96
  go_wp2
  go_ret
  exact⟨_,rfl,Below.refl _ _,World.ownsRow_nil _ _ _ _⟩
 .have hs:=fun W=>Lib.run_eql_slice_nil (P:=Tryz.prog) W 24 97 (some ad) n c 0 0 Tryz.underlying24;obtain⟨i0,hi0,hz0,hz1,hz2⟩:=info_parts aji;have hown:=World.ownsRow_made (base:=w.heap.size) (e:=97) (size:=5) w #[] 0 (rt _) (by simp[maxLen]) rfl;have hR2:=hR.alloc hB (.cells #[] 97);have H1:=Lib.hid hi0;have H2:=Lib.hid hz0;have H3:=Lib.hid hz1;have H4:=Lib.hid hz2;clear hi0 hz0 hz1 hz2
  go_enter Tryz.func96,Tryz.ntmps96
  go_wp2_with (at_builtin;refine uW _ rfl _ _ 24 rfl w.heap.size 97 i0 (.agg #[.int .i64 0,.int .i64 0,.bool false,.slice none 0 0,.slice none 0 0]) 5 72 Tryz.underlying24 H1.out H2.out H3.out H4.out rfl atS _ 0 [] rfl hown B (some ad) n c xs rfl hR2 h1 (by unfold maxLen;omega) atO atQ ?_;intro v1 w1 hown1 hg1 hat1)
  go_ret
  rw[ase,UV]at hown1;refine⟨_,rfl,((Below.refl _ w).alloc (rt _) (.cells #[] 97)).grown hg1 atQ ?_,hown1⟩;intro k hk;injection hk with hk;exact ato hk
theorem ajj:(Tryz.prog.info? 148).map (fun i=>(i.zero,i.size,i.bytes))=some (some (.agg #[.int .i64 0,.slice none 0 0]),2,32):=atP
theorem aii(w:World)(A:pm)(n c B:Nat)(xs:pi)(hR:Reads w B 2 A n xs)(h1:∀u∈xs,u.oneCell'=true)(hB:B<=w.heap.size)(hn:n<=1048576) :
  Calls Tryz.prog 97 #[.slice A n c] w fun e w'=>∃v',e=.returned v'/\Below w.heap.size w w'/\w'.ownsRow w.heap.size 148 2 v' n xs:=by
 rcases A with _|ad
 .have hn0:n=0:=by
   rcases ST n with h|h
   .exact h
   .obtain⟨_,h,_⟩:=hR.2 h;cases h
  subst hn0;have hx:xs=[]:=ww (by have:=hR.1;simpa using this);subst hx;have hs:=fun W=>Lib.run_eql_slice_nil (P:=Tryz.prog) W 94 148 none 0 c 0 0 Tryz.underlying94
  go_enter Tryz.func97,Tryz.ntmps97
  go_wp2
  go_ret
  exact⟨_,rfl,Below.refl _ _,World.ownsRow_nil _ _ _ _⟩
 .have hs:=fun W=>Lib.run_eql_slice_nil (P:=Tryz.prog) W 94 148 (some ad) n c 0 0 Tryz.underlying94;obtain⟨i0,hi0,hz0,hz1,hz2⟩:=info_parts ajj;have hown:=World.ownsRow_made (base:=w.heap.size) (e:=148) (size:=2) w #[] 0 (rt _) (by simp[maxLen]) rfl;have hR2:=hR.alloc hB (.cells #[] 148);have H1:=Lib.hid hi0;have H2:=Lib.hid hz0;have H3:=Lib.hid hz1;have H4:=Lib.hid hz2;clear hi0 hz0 hz1 hz2
  go_enter Tryz.func97,Tryz.ntmps97
  go_wp2_with (at_builtin;refine uW _ rfl _ _ 94 rfl w.heap.size 148 i0 (.agg #[.int .i64 0,.slice none 0 0]) 2 32 Tryz.underlying94 H1.out H2.out H3.out H4.out rfl atS _ 0 [] rfl hown B (some ad) n c xs rfl hR2 h1 (by unfold maxLen;omega) atO atQ ?_;intro v1 w1 hown1 hg1 hat1)
  go_ret
  rw[ase,UV]at hown1;refine⟨_,rfl,((Below.refl _ w).alloc (rt _) (.cells #[] 148)).grown hg1 atQ ?_,hown1⟩;intro k hk;injection hk with hk;exact ato hk
theorem ajk:(Tryz.prog.info? 174).map (fun i=>(i.zero,i.size,i.bytes))=some (some (.agg #[.int .i64 0,.slice none 0 0,.slice none 0 0]),3,56):=atP
theorem aij(w:World)(A:pm)(n c B:Nat)(xs:pi)(hR:Reads w B 3 A n xs)(h1:∀u∈xs,u.oneCell'=true)(hB:B<=w.heap.size)(hn:n<=1048576) :
  Calls Tryz.prog 98 #[.slice A n c] w fun e w'=>∃v',e=.returned v'/\Below w.heap.size w w'/\w'.ownsRow w.heap.size 174 3 v' n xs:=by
 rcases A with _|ad
 .have hn0:n=0:=by
   rcases ST n with h|h
   .exact h
   .obtain⟨_,h,_⟩:=hR.2 h;cases h
  subst hn0;have hx:xs=[]:=ww (by have:=hR.1;simpa using this);subst hx;have hs:=fun W=>Lib.run_eql_slice_nil (P:=Tryz.prog) W 95 174 none 0 c 0 0 Tryz.underlying95
  go_enter Tryz.func98,Tryz.ntmps98
  go_wp2
  go_ret
  exact⟨_,rfl,Below.refl _ _,World.ownsRow_nil _ _ _ _⟩
 .have hs:=fun W=>Lib.run_eql_slice_nil (P:=Tryz.prog) W 95 174 (some ad) n c 0 0 Tryz.underlying95;obtain⟨i0,hi0,hz0,hz1,hz2⟩:=info_parts ajk;have hown:=World.ownsRow_made (base:=w.heap.size) (e:=174) (size:=3) w #[] 0 (rt _) (by simp[maxLen]) rfl;have hR2:=hR.alloc hB (.cells #[] 174);have H1:=Lib.hid hi0;have H2:=Lib.hid hz0;have H3:=Lib.hid hz1;have H4:=Lib.hid hz2;clear hi0 hz0 hz1 hz2
  go_enter Tryz.func98,Tryz.ntmps98
  go_wp2_with (at_builtin;refine uW _ rfl _ _ 95 rfl w.heap.size 174 i0 (.agg #[.int .i64 0,.slice none 0 0,.slice none 0 0]) 3 56 Tryz.underlying95 H1.out H2.out H3.out H4.out rfl atS _ 0 [] rfl hown B (some ad) n c xs rfl hR2 h1 (by unfold maxLen;omega) atO atQ ?_;intro v1 w1 hown1 hg1 hat1)
  go_ret
  rw[ase,UV]at hown1;refine⟨_,rfl,((Below.refl _ w).alloc (rt _) (.cells #[] 174)).grown hg1 atQ ?_,hown1⟩;intro k hk;injection hk with hk;exact ato hk
theorem ahy(f:Int->Int)(w:World)(us vs:List fT):cg f w (us++vs)=cg f (cg f w us) vs:=by unfold cg;rw[asd]
theorem My(f:Int->Int):∀(us:List fT) (w:World),cg f w us=cg id w (us.map fun u=>(u.1,u.2.1,f u.2.2))
 |[],w=>rfl|u::us,w=>My f us (w.setCell u.ad (.int .i64 (f u.2.2)))
theorem ahF{B:Nat}{w w':World}(h:Below B w w')(f:Int->Int):∀us:List fT,Below B (cg f w us) (cg f w' us):=by
 intro us
 induction us generalizing w w' with|nil=>exact h|cons u us ih=>exact ih (Below.yy h u.ad (.int .i64 (f u.2.2)))
theorem YB(f:Int->Int):∀(us:List fT) (w:World),(us.map fT.ad).Nodup->(∀u∈us,∃v,w.cell? u.ad=some v)->∀u∈us,(cg f w us).cell? u.ad=some (.int .i64 (f u.2.2))
 |[],w,_,_,u,h=>nomatch h
 |x::us,w,hn,hc,u,h=>by
  have hn:=arU.1 hn;have hne:∀y∈us,y.ad≠x.ad:=fun y hy e=>hn.1 (e▸AI hy);rcases GE.1 h with rfl|h
  .refine(oJ f us _ u.ad rfl hne).trans ?_;obtain⟨v,hv⟩:=hc u (IN ..);exact World.cell?_setCell_same _ _ _ hv
  .refine YB f us _ hn.2 (fun y hy=>?_) u h;obtain⟨v,hv⟩:=hc y (FS _ hy);exact⟨v,(MD w x.ad y.ad _ rfl rfl fun e=>hne y hy e.symm).trans hv⟩
theorem akx(w:World)(b' off n c:Nat)(to:jp)(q b o:Nat)(x:Int)(hR:Reads w w.heap.size 1 (some ⟨b',off,none⟩) n (to.map (Value.int .i64)))
  (hq:w.cell? ⟨q,0,none⟩=some (.pointer (some ⟨b,o,none⟩))) (hx:w.cell? ⟨b,o,none⟩=some (.int .i64 x)) (hf:w.frozen? ⟨b,o,none⟩=false)
  (h0:0<=x) (h1:x<n) (hn:n<=1048576) :
  Calls Tryz.prog 151 #[.agg #[.slice (some ⟨b',off,none⟩) n c],.slice (some ⟨q,0,none⟩) 1 1] w fun e w'=>e=.returned (.tuple #[])/\Below w.heap.size (cg (fun x=>to.getD x.toNat 0) w [(b,o,x)]) w':=
 ajm w _ n c to q b o x hR hq hx hf h0 h1 hn
open Pl
def aH(A:pm):mt:=(A.map Addr.block).toList
abbrev cC{α:Type}(w:World)(B:Nat)(e:TypeId)(z:Nat)(f:α->pi)(A:pm)(c:Nat)(xs:List α):Prop:=w.ownsRow B e z (.slice A xs.length c) xs.length (xs.flatMap f)
def cI(x:Int):pi:=[.int .i64 x]
theorem Ml{α:Type}{f:α->pi}{z:Nat}(hz:∀x,(f x).length=z):∀(xs:List α) (i k:Nat) (x:α) (u:Value),xs[i]?=some x->(f x)[k]?=some u->(xs.flatMap f)[i*z+k]?=some u
 |[],i,k,x,u,h,_=>by simp at h|y::xs,0,k,x,u,h,hu=>by simp only[Fd,cM]at h;subst h;have hk:=(ut.1 hu).1;rw[AT,Nat.zero_mul,ase,Pi hk];exact hu|y::xs,i+1,k,x,u,h,hu=>by
  have h':xs[i]?=some x:=by simpa using h
  have ih:=Ml hz xs i k x u h' hu;rw[AT,WF (by rw[hz y,asN];omega),hz y,show(i+1)*z+k-z=i*z+k by rw[asN];omega];exact ih
section
variable{α:Type}{w w':World}{B B':Nat}{e:TypeId}{z:Nat}{f:α->pi}{A:pm}{c:Nat}{xs:List α}
theorem tZ{v:Value}{n:Nat}(hn:n=xs.length)(h:w.ownsRow B e z v n (xs.flatMap f)):∃A c,v=.slice A xs.length c/\cC w B e z f A c xs/\∀b∈aH A,B<=b/\b<w.heap.size:=by
 subst hn;obtain⟨hl,h⟩:=h;rcases h with⟨rfl,h0⟩|⟨g,cap,cur,rfl,hg,hh,hc,hm,hs,ht⟩
 .have:xs=[]:=ww h0;subst this;exact⟨none,0,rfl,⟨hl,.inl ⟨rfl,rfl⟩⟩,fun b hb=>by cases hb⟩
 .refine⟨_,cap,rfl,⟨hl,.inr ⟨g,cap,cur,rfl,hg,hh,hc,hm,hs,ht⟩⟩,fun b hb=>?_⟩;have:b=g:=by simpa[aH]using hb
  subst this;exact⟨hg,(asf.1 hh).1⟩
theorem dq(h:cC w B e z f A c xs)(hb:∀b∈aH A,w'.heap[b]?=w.heap[b]?/\B'<=b):cC w' B' e z f A c xs:=by
 obtain⟨hl,h⟩:=h;rcases h with h|⟨g,cap,cur,e1,hg,hh,hc,hm,hs,ht⟩
 .exact⟨hl,.inl h⟩
 .obtain⟨rfl,_,rfl⟩:=(by simpa using e1:A=some ⟨g,0,none⟩/\True/\c=cap);obtain⟨k1,k2⟩:=hb g (by simp[aH]);exact⟨hl,.inr ⟨g,c,cur,rfl,k2,k1.trans hh,hc,hm,hs,ht⟩⟩
theorem lf(h:cC w B e z f A c xs)(hx:xs≠[]):∃b,A=some ⟨b,0,none⟩/\B<=b/\b<w.heap.size/\∀o,w.frozen? ⟨b,o,none⟩=false:=by
 obtain⟨hl,h⟩:=h;rcases h with⟨h,h0⟩|⟨g,cap,cur,e1,hg,hh,hc,hm,hs,ht⟩
 .exact absurd (ww h0) hx
 .obtain⟨rfl,_,rfl⟩:=(by simpa using e1:A=some ⟨g,0,none⟩/\True/\c=cap);exact⟨g,rfl,hg,(asf.1 hh).1,fun o=>by simp[World.frozen?,hh]⟩
theorem Yc(h:cC w B e z f A c xs):xs.length<=c/\c<=maxLen/\(A=none->xs=[])/\∀b∈aH A,A=some ⟨b,0,none⟩:=by
 obtain⟨hl,h⟩:=h;rcases h with⟨h,h0⟩|⟨g,cap,cur,e1,hg,hh,hc,hm,hs,ht⟩
 .obtain⟨rfl,_,rfl⟩:=(by simpa using h:A=none/\xs=[]/\c=0);exact⟨atO,GT _,fun _=>ww h0,(fun b hb=>by cases hb)⟩
 .obtain⟨rfl,_,rfl⟩:=(by simpa using e1:A=some ⟨g,0,none⟩/\True/\c=cap);refine⟨hc,hm,(fun h=>by cases h),fun b hb=>?_⟩;have:b=g:=by simpa[aH]using hb
  rw[this]
theorem kg(hz:∀x,(f x).length=z)(h:cC w B e z f A c xs){b:Nat}(hA:A=some ⟨b,0,none⟩){i k:Nat}{x:α}{u:Value}(hx:xs[i]?=some x)(hu:(f x)[k]?=some u):w.cell? ⟨b,i*z+k,none⟩=some u:=by
 obtain⟨hl,h⟩:=h;rcases h with⟨h,h0⟩|⟨g,cap,cur,e1,hg,hh,hc,hm,hs,ht⟩
 .rw[ww h0]at hx;cases hx
 .obtain⟨rfl,_,rfl⟩:=(by simpa using e1:A=some ⟨g,0,none⟩/\True/\c=cap);obtain rfl:g=b:=by simpa using hA
  have hc:=Ml hz xs i k x u hx hu;rw[<-ht,atk]at hc;split at hc
  .simp only[World.cell?,hh];simpa using hc
  .cases hc
end
theorem MX(x:dJ):(dJ.cells x).length=3:=rfl
theorem YX(x:dU):(dU.cells x).length=3:=rfl
theorem uu(x:bF):(bF.cells x).length=2:=rfl
theorem pP(x:bL):(bL.cells x).length=3:=rfl
theorem oK(x:aL):(aL.cells x).length=5:=rfl
theorem RC(x:Int):(cI x).length=1:=rfl
def bF.bs(x:bF):mt:=aH x.A
def bL.bs(x:bL):mt:=aH x.A++aH x.A2
def aL.bs(x:aL):mt:=aH x.A++(x.reads.flatMap bF.bs++(aH x.A2++x.writes.flatMap bL.bs))
def aT.fH(n:aT):mt:=aH n.Ai++(aH n.Ao++(aH n.Ab++(aH n.Ac++(aH n.Al++(aH n.An++aH n.Am)))))
def aT.bs(n:aT):mt:=n.fH++n.ae.flatMap aL.bs
def bF.own(w:World)(B:Nat)(x:bF):Prop:=cC w B 3 1 cI x.A x.c x.addr
def bL.own(w:World)(B:Nat)(x:bL):Prop:=cC w B 3 1 cI x.A x.c x.addr/\cC w B 3 1 cI x.A2 x.c2 x.data
structure aL.own(w:World)(B:Nat)(m:aL):Prop where
 rd:cC w B 148 2 bF.cells m.A m.c m.reads
 ig:∀r∈m.reads,r.own w B
 wr:cC w B 174 3 bL.cells m.A2 m.c2 m.writes
 iX:∀r∈m.writes,r.own w B
structure aT.own(w:World)(B:Nat)(n:aT):Prop where
 ins:cC w B 3 1 cI n.Ai n.ci n.al
 out:cC w B 3 1 cI n.Ao n.co n.aZ
 bad:cC w B 3 1 cI n.Ab n.cb n.aN
 gG:cC w B 3 1 cI n.Ac n.cc n.constraints
 aJ:cC w B 78 3 dJ.cells n.Al n.cl n.ag
 and:cC w B 113 3 dU.cells n.An n.cn n.aj
 mem:cC w B 97 5 aL.cells n.Am n.cm n.ae
 kZ:∀m∈n.ae,m.own w B
 nd:n.bs.Nodup
 lt:∀b∈n.bs,b<w.heap.size
section
variable{w w':World}{B B':Nat}
theorem bF.dq{x:bF}(h:x.own w B)(hb:∀b∈x.bs,w'.heap[b]?=w.heap[b]?/\B'<=b):x.own w' B':=Go.Proofs.YtmkbdfidnfmgmaaGreat.dq h hb
theorem bL.dq{x:bL}(h:x.own w B)(hb:∀b∈x.bs,w'.heap[b]?=w.heap[b]?/\B'<=b):x.own w' B':=⟨Go.Proofs.YtmkbdfidnfmgmaaGreat.dq h.1 fun b q=>hb b (AC _ q),Go.Proofs.YtmkbdfidnfmgmaaGreat.dq h.2 fun b q=>hb b (EQ _ q)⟩
theorem aL.dq{m:aL}(h:m.own w B)(hb:∀b∈m.bs,w'.heap[b]?=w.heap[b]?/\B'<=b):m.own w' B':=by
 unfold aL.bs at hb;simp only[rc]at hb;exact⟨Go.Proofs.YtmkbdfidnfmgmaaGreat.dq h.rd fun b q=>hb b (.inl q),fun r hr=>bF.dq (h.ig r hr) fun b q=>hb b (.inr (.inl (rg.2 ⟨r,hr,q⟩))),Go.Proofs.YtmkbdfidnfmgmaaGreat.dq h.wr fun b q=>hb b (.inr (.inr (.inl q))),
  fun r hr=>bL.dq (h.iX r hr) fun b q=>hb b (.inr (.inr (.inr (rg.2 ⟨r,hr,q⟩))))⟩
end
theorem tN(w:World)(a:Addr)(u:Value)(b:Nat)(h:a.block≠b):(w.setCell a u).heap[b]?=w.heap[b]?:=Below.heap_setCell w a u b fun e=>h e.symm
theorem Mq(f:Int->Int):∀(us:List fT) (w:World) (b:Nat),(∀u∈us,u.1≠b)->(cg f w us).heap[b]?=w.heap[b]?
 |[],w,b,_=>rfl|u::us,w,b,h=>(Mq f us _ b fun x hx=>h x (FS _ hx)).trans (tN w u.ad _ b (h u (IN ..)))
theorem Mx{w0 W w':World}{B:Nat}{done now:List fT}(hb:Below B (cg id w0 done) W)(hBs:B<=W.heap.size)(h:Below W.heap.size (cg id W now) w'):Below B (cg id w0 (done++now)) w':=by rw[ahy];exact(ahF hb id now).trans (h.mono hBs)
section
variable{w0 W:World}{B:Nat}{done:List fT}(hb:Below B (cg id w0 done) W)
include hb
theorem tW{a:Addr}{v:Value}(ha:a.spot=none)(hB:a.block<B)(hn:∀u∈done,u.ad≠a)(h:w0.cell? a=some v):W.cell? a=some v:=(hb.cell hB).trans ((oJ id done w0 a ha hn).trans h)
theorem Nf{a:Addr}(hB:a.block<B):W.frozen? a=w0.frozen? a:=(hb.frozen hB).trans (DD id done w0 a)
theorem Mw{b:Nat}(hB:b<B)(hn:∀u∈done,u.1≠b):W.heap[b]?=w0.heap[b]?:=(hb.block b hB).trans (Mq id done w0 b hn)
theorem D3(hB:B=w0.heap.size):B<=W.heap.size:=by have:=hb.size;rw[nJ]at this;omega
theorem DR{b' off n:Nat}{xs:pi}(hn:∀u∈done,u.1≠b')(hs:B<=W.heap.size)(hR:Reads w0 B 1 (some ⟨b',off,none⟩) n xs):Reads W W.heap.size 1 (some ⟨b',off,none⟩) n xs:=by refine Reads.more ?_ hs;obtain⟨hl,hrow⟩:=hR;refine⟨hl,fun hp=>?_⟩;obtain⟨ad,e,hB,hc⟩:=hrow hp;refine⟨ad,e,hB,fun i v hv=>?_⟩;have e:ad=⟨b',off,none⟩:=(Do e).symm;subst e;have:=hc i v hv;rw[Addr.add_mid]at this |-;exact tW hb rfl hB (fun u hu q=>hn u hu (PP Addr.block q)) this
end
structure cq where
 b:Nat
 o:Nat
 x:Int
 y:Int
def cq.u(p:cq):fT:=(p.b,p.o,p.y)
def cq.ad(p:cq):Addr:=⟨p.b,p.o,none⟩
abbrev cN(l:List cq):List fT:=l.map cq.u
structure f8(w0:World)(B n b':Nat)(L:List cq):Prop where
 at_:∀p∈L,w0.cell? p.ad=some (.int .i64 p.x)/\w0.frozen? p.ad=false/\0<=p.x/\p.b≠b'/\p.b<B
 nd:(L.map cq.ad).Nodup
theorem f8.ne{w0:World}{B n b':Nat}{d l r:List cq}(h:f8 w0 B n b' (d++(l++r))):∀p∈l,∀u∈cN d,u.ad≠p.ad:=by intro p hp u hu e;obtain⟨q,hq,rfl⟩:=ro.1 hu;have hn:=h.nd;rw[d7,rx]at hn;exact hn.2.2 _ (AI hq) _ (AI (AC _ hp)) e
section
variable{w0 W:World}{B n b' off c:Nat}{d r:List cq}{to:jp}
theorem El{p:cq}(h:f8 w0 B n b' (d++([p]++r)))(hB:B=w0.heap.size)(hb:Below B (cg id w0 (cN d)) W)(hR:Reads w0 B 1 (some ⟨b',off,none⟩) n (to.map (Value.int .i64)))
  (hn:n<=1048576) (hx:p.x<n) (hy:p.y=to.getD p.x.toNat 0) {q:Nat}(hq:W.cell? ⟨q,0,none⟩=some (.pointer (some p.ad))) :
  Calls Tryz.prog 151 #[.agg #[.slice (some ⟨b',off,none⟩) n c],.slice (some ⟨q,0,none⟩) 1 1] W fun e w'=>e=.returned (.tuple #[])/\Below B (cg id w0 (cN (d++[p]))) w'/\Below W.heap.size (cg id W (cN [p])) w':=by
 have hp:=h.at_ p atQ;have hne:=h.ne p (NE.2 rfl);have hd:∀u∈cN d,u.1≠b':=fun u hu=>by obtain⟨z,hz,rfl⟩:=ro.1 hu;exact(h.at_ z (by simp[hz])).2.2.2.1
 have hs:=D3 hb hB;refine(akx W b' off n c to q p.b p.o p.x (DR hb hd hs hR) hq (tW hb (a:=p.ad) rfl hp.2.2.2.2 hne hp.1) ((Nf hb (a:=p.ad) hp.2.2.2.2).trans hp.2.1) hp.2.2.1 hx hn).mono ?_;rintro e w' ⟨rfl,h2⟩;have e0:cN [p]=[(p.b,p.o,to.getD p.x.toNat 0)]:=by simp[cN,cq.u,hy]
 have e:cN (d++[p])=cN d++[(p.b,p.o,to.getD p.x.toNat 0)]:=by simp[cN,cq.u,hy]
 refine⟨rfl,?_,by rw[e0];exact h2⟩;rw[e];exact Mx hb hs h2
theorem ML{l:List cq}(h:f8 w0 B n b' (d++(l++r)))(hB:B=w0.heap.size)(hb:Below B (cg id w0 (cN d)) W)(hR:Reads w0 B 1 (some ⟨b',off,none⟩) n (to.map (Value.int .i64)))
  (ef:∀y∈to,0<=y/\y<=1000000) (hn:n<=1048576) (hx:∀p∈l,p.x / 2<n/\p.y=av to p.x) (hm:l.length<=1000) {q k:Nat}(hk:k=l.length) (hq:Reads W W.heap.size 1 (some ⟨q,0,none⟩) l.length (l.map fun p=>Value.pointer (some p.ad))) :
  Calls Tryz.prog 152 #[.agg #[.slice (some ⟨b',off,none⟩) n c],.slice (some ⟨q,0,none⟩) k k] W fun e w'=>e=.returned (.tuple #[])/\Below B (cg id w0 (cN (d++l))) w'/\Below W.heap.size (cg id W (cN l)) w':=by
 subst hk;have hd:∀u∈cN d,u.1≠b':=fun u hu=>by obtain⟨z,hz,rfl⟩:=ro.1 hu;exact(h.at_ z (by simp[hz])).2.2.2.1
 have hs:=D3 hb hB;have hnl:(l.map cq.ad).Nodup:=by have:=h.nd;rw[d7,rx,d7,rx]at this;exact this.2.1.1
 have hU:oS W n b' (l.map fun p=>(p.b,p.o,p.x)):=by
  refine⟨fun u hu=>?_,?_⟩
  .obtain⟨p,hp,rfl⟩:=ro.1 hu;have hp2:=h.at_ p (by simp[hp]);exact⟨tW hb (a:=p.ad) rfl hp2.2.2.2.2 (h.ne p hp) hp2.1,(Nf hb (a:=p.ad) hp2.2.2.2.2).trans hp2.2.1,hp2.2.2.1,(hx p hp).1,hp2.2.2.2.1⟩
  .rw[Fn];exact hnl
 have hlen:(l.map fun p=>((p.b,p.o,p.x):fT)).length=l.length:=aP _;have:=YA W b' off n c to q l.length (l.map fun p=>(p.b,p.o,p.x)) (DR hb hd hs hR) (by rw[hlen,Fn];exact hq) hU ef hn (by rw[hlen];exact hm);rw[hlen]at this;refine this.mono ?_;rintro e w' ⟨rfl,h2⟩;rw[My,Fn]at h2;have e0:cN l=l.map (fun p=>((p.b,p.o,av to p.x):fT)):=are fun p hp=>by unfold cq.u;rw[(hx p hp).2]
 have e:cN (d++l)=cN d++l.map (fun p=>((p.b,p.o,av to p.x):fT)):=by rw[<-e0];exact d7
 refine⟨rfl,?_,by rw[e0];exact h2⟩;rw[e];exact Mx hb hs h2
def pz(f:Int->Int)(r:nP Int):List cq:=r.xs.zipIdx.map fun p=>⟨r.b,p.2,p.1,f p.1⟩
theorem Yd{ls:List (nP Int)}(h:f8 w0 B n b' (d++(ls.flatMap (pz (av to))++r)))(hB:B=w0.heap.size)(hb:Below B (cg id w0 (cN d)) W)(hR:Reads w0 B 1 (some ⟨b',off,none⟩) n (to.map (Value.int .i64)))
  (ef:∀y∈to,0<=y/\y<=1000000) (hn:n<=1048576) (hx:∀l∈ls,l.xs.length<=1048576/\(l.xs≠[]->l.A=some l.b)/\∀x∈l.xs,x / 2<n) (hm:ls.length<=1000) {q k:Nat}(hk:k=ls.length) (hq:Reads W W.heap.size 1 (some ⟨q,0,none⟩) ls.length (ls.map nP.v)) :
  Calls Tryz.prog 153 #[.agg #[.slice (some ⟨b',off,none⟩) n c],.slice (some ⟨q,0,none⟩) k k] W fun e w'=>e=.returned (.tuple #[])/\Below B (cg id w0 (cN (d++ls.flatMap (pz (av to))))) w'/\Below W.heap.size (cg id W (cN (ls.flatMap (pz (av to))))) w':=by
 subst hk;have hd:∀u∈cN d,u.1≠b':=fun u hu=>by obtain⟨z,hz,rfl⟩:=ro.1 hu;exact(h.at_ z (by simp[hz])).2.2.2.1
 have hs:=D3 hb hB;have hnl:((ls.flatMap (pz (av to))).map cq.ad).Nodup:=by have:=h.nd;rw[d7,rx,d7,rx]at this;exact this.2.1.1
 have he:ls.flatMap dI.us=(ls.flatMap (pz (av to))).map fun p=>(p.b,p.o,p.x):=by rw[List.map_flatMap];congr 1;funext l;unfold dI.us pz;rw[Fn];rfl
 have hU:oS W n b' (ls.flatMap dI.us):=by
  rw[he];refine⟨fun u hu=>?_,?_⟩
  .obtain⟨p,hp,rfl⟩:=ro.1 hu;have hp2:=h.at_ p (by simp only[rc];exact .inr (.inl hp));have hxp:p.x / 2<n:=by obtain⟨l,hl,hpl⟩:=rg.1 hp;obtain⟨z,hz,rfl⟩:=ro.1 hpl;exact(hx l hl).2.2 _ (arY hz)
   exact⟨tW hb (a:=p.ad) rfl hp2.2.2.2.2 (h.ne p hp) hp2.1,(Nf hb (a:=p.ad) hp2.2.2.2.2).trans hp2.2.1,hp2.2.2.1,hxp,hp2.2.2.2.1⟩
  .rw[Fn];exact hnl
 refine(ajl W b' off n c to q ls.length ls (DR hb hd hs hR) hq hU ef hn hm fun l hl=>⟨(hx l hl).1,(hx l hl).2.1⟩).mono ?_;rintro e w' ⟨rfl,h2⟩;rw[My]at h2;have e0:cN (ls.flatMap (pz (av to)))=(ls.flatMap dI.us).map (fun u=>((u.1,u.2.1,av to u.2.2):fT)):=by unfold cN;rw[he,Fn];refine are fun p hp=>?_;obtain⟨l,hl,hpl⟩:=rg.1 hp;obtain⟨z,hz,rfl⟩:=ro.1 hpl;rfl
 have e:cN (d++ls.flatMap (pz (av to)))=cN d++(ls.flatMap dI.us).map (fun u=>((u.1,u.2.1,av to u.2.2):fT)):=by rw[<-e0];exact d7
 refine⟨rfl,?_,by rw[e0];exact h2⟩;rw[e];exact Mx hb hs h2
end
structure gk(w0:World)(B g:Nat)(v:Value)(L:List cq)(x:World):Prop where
 box:x.cell? ⟨g,0,none⟩=some v
 gB:B<=g
 lt:g<x.heap.size
 low:Below B (cg id w0 (cN L)) x
theorem gk.drew{w0 x:World}{B g:Nat}{v:Value}{L:List cq}(h:gk w0 B g v L x):gk w0 B g v L x.drew:=⟨h.box,h.gB,h.lt,h.low.drew⟩
theorem gk.alloc{w0 x:World}{B g:Nat}{v:Value}{L:List cq}(h:gk w0 B g v L x)(o:Obj):gk w0 B g v L (x.alloc o):=⟨(World.cell?_alloc_lt _ _ _ h.lt).trans h.box,h.gB,by have:=h.lt;simp;omega,h.low.alloc (by have:=h.lt;have:=h.gB;omega) o⟩
theorem gk.step{w0 x w':World}{B g:Nat}{v:Value}{L now:List cq}(h:gk w0 B g v L x)(hn:∀p∈now,p.b<B)(h1:Below B (cg id w0 (cN (L++now))) w')(h2:Below x.heap.size (cg id x (cN now)) w'):gk w0 B g v (L++now) w':=by
 refine⟨(h2.cell (p:=⟨g,0,none⟩) h.lt).trans ((oJ id _ x _ rfl fun u hu e=>?_).trans h.box),h.gB,?_,h1⟩
 .obtain⟨p,hp,rfl⟩:=ro.1 hu;have:=hn p hp;have e:p.b=g:=PP Addr.block e;have:=h.gB;omega
 .have:=h2.size;rw[nJ]at this;have:=h.lt;omega
theorem DP(l:jp):ints l=l.flatMap cI:=by induction l with|nil=>rfl|cons x l ih=>show _::ints l=_;rw[ih];rfl
theorem yq{α:Type}{f:α->pi}(hf:∀x,∀u∈f x,u.oneCell'=true)(l:List α):∀u∈l.flatMap f,u.oneCell'=true:=by intro u hu;obtain⟨x,_,h⟩:=rg.1 hu;exact hf x u h
def mz{α:Type}(w:World)(e:TypeId)(z:Nat)(f:α->pi)(xs:List α)(E:Ending)(w':World):Prop:=∃A c,E=.returned (.slice A xs.length c)/\Below w.heap.size w w'/\cC w' w.heap.size e z f A c xs/\∀b∈aH A,w.heap.size<=b/\b<w'.heap.size
section
variable{w:World}{A:pm}{c B:Nat}
theorem oA(hB:B<=w.heap.size){xs:jp}(h:Sl w B 1 A xs.length c (ints xs))(hn:xs.length<=1048576):Calls Tryz.prog 93 #[.slice A xs.length c] w (mz w 3 1 cI xs):=by refine(aie w A xs.length c B xs h.1 hB hn).mono ?_;rintro e w' ⟨v',rfl,hb,ho⟩;rw[DP]at ho;obtain⟨A',c',rfl,ho,hl⟩:=tZ rfl ho;exact⟨A',c',rfl,hb,ho,hl⟩
theorem TV(hB:B<=w.heap.size){xs:List dJ}(h:Sl w B 3 A xs.length c (xs.flatMap dJ.cells))(hn:xs.length<=1048576):Calls Tryz.prog 94 #[.slice A xs.length c] w (mz w 78 3 dJ.cells xs):=by refine(aif w A xs.length c B _ h.1 (yq (by simp[dJ.cells,Value.oneCell']) xs) hB hn).mono ?_;rintro e w' ⟨v',rfl,hb,ho⟩;obtain⟨A',c',rfl,ho,hl⟩:=tZ rfl ho;exact⟨A',c',rfl,hb,ho,hl⟩
theorem TU(hB:B<=w.heap.size){xs:List dU}(h:Sl w B 3 A xs.length c (xs.flatMap dU.cells))(hn:xs.length<=1048576):Calls Tryz.prog 95 #[.slice A xs.length c] w (mz w 113 3 dU.cells xs):=by refine(aid w A xs.length c B _ h.1 (yq (by simp[dU.cells,Value.oneCell']) xs) hB hn).mono ?_;rintro e w' ⟨v',rfl,hb,ho⟩;obtain⟨A',c',rfl,ho,hl⟩:=tZ rfl ho;exact⟨A',c',rfl,hb,ho,hl⟩
theorem TW(hB:B<=w.heap.size){xs:List aL}(h:Sl w B 5 A xs.length c (xs.flatMap aL.cells))(hn:xs.length<=1048576):Calls Tryz.prog 96 #[.slice A xs.length c] w (mz w 97 5 aL.cells xs):=by refine(aih w A xs.length c B _ h.1 (yq (by simp[aL.cells,Value.oneCell']) xs) hB hn).mono ?_;rintro e w' ⟨v',rfl,hb,ho⟩;obtain⟨A',c',rfl,ho,hl⟩:=tZ rfl ho;exact⟨A',c',rfl,hb,ho,hl⟩
theorem TX(hB:B<=w.heap.size){xs:List bF}(h:Sl w B 2 A xs.length c (xs.flatMap bF.cells))(hn:xs.length<=1048576):Calls Tryz.prog 97 #[.slice A xs.length c] w (mz w 148 2 bF.cells xs):=by refine(aii w A xs.length c B _ h.1 (yq (by simp[bF.cells,Value.oneCell']) xs) hB hn).mono ?_;rintro e w' ⟨v',rfl,hb,ho⟩;obtain⟨A',c',rfl,ho,hl⟩:=tZ rfl ho;exact⟨A',c',rfl,hb,ho,hl⟩
theorem TY(hB:B<=w.heap.size){xs:List bL}(h:Sl w B 3 A xs.length c (xs.flatMap bL.cells))(hn:xs.length<=1048576):Calls Tryz.prog 98 #[.slice A xs.length c] w (mz w 174 3 bL.cells xs):=by refine(aij w A xs.length c B _ h.1 (yq (by simp[bL.cells,Value.oneCell']) xs) hB hn).mono ?_;rintro e w' ⟨v',rfl,hb,ho⟩;obtain⟨A',c',rfl,ho,hl⟩:=tZ rfl ho;exact⟨A',c',rfl,hb,ho,hl⟩
end
theorem sm{α:Type}{f:α->pi}{z:Nat}(hz:∀x,(f x).length=z):∀xs:List α,(xs.flatMap f).length=xs.length*z
 |[]=>by simp|x::xs=>by rw[AT,bU,hz,sm hz xs,di,asN,atI]
theorem DW{α:Type}{f:α->pi}{z k:Nat}{u:Value}(hz:∀x,(f x).length=z)(hk:k<z):∀(xs:List α) (i:Nat) (x x':α),xs[i]?=some x->f x'=(f x).set k u->(xs.flatMap f).set (i*z+k) u=(xs.set i x').flatMap f
 |[],i,x,x',h,_=>by simp at h|y::xs,0,x,x',h,e=>by simp only[Fd,cM]at h;subst h;rw[atE,AT,AT,e,Nat.zero_mul,ase,List.set_append_left _ _ (by rw[hz];exact hk)]|y::xs,i+1,x,x',h,e=>by
  have h':xs[i]?=some x:=by simpa using h
  rw[List.set_cons_succ,AT,AT,List.set_append_right _ _ (by rw[hz,asN];omega),hz,show(i+1)*z+k-z=i*z+k by rw[asN];omega,DW hz hk xs i x x' h' e]
section
variable{α:Type}{w w':World}{B:Nat}{e:TypeId}{z:Nat}{f:α->pi}{A:pm}{c:Nat}{xs:List α}
theorem yv(hz:∀x,(f x).length=z)(h:cC w B e z f A c xs){b:Nat}(hA:A=some ⟨b,0,none⟩){i k:Nat}{x x':α}{u:Value}(hx:xs[i]?=some x)(hk:k<z)(hu:f x'=(f x).set k u):cC (w.setCell ⟨b,i*z+k,none⟩ u) B e z f A c (xs.set i x'):=by
 obtain⟨hl,h⟩:=h;have hfl:=DW hz hk xs i x x' hx hu;refine⟨by rw[sm hz],?_⟩;rcases h with⟨h,h0⟩|⟨g,cap,cur,e1,hg,hh,hc,hm,hs,ht⟩
 .rw[ww h0]at hx;cases hx
 .obtain⟨rfl,_,rfl⟩:=(by simpa using e1:A=some ⟨g,0,none⟩/\True/\c=cap);obtain rfl:g=b:=by simpa using hA
  refine .inr ⟨g,c,cur.setIfInBounds (i*z+k) u,by rw[acl],hg,(show bg _ g e _ from(show bg w g e cur from hh).ia _ _),by rw[acl];exact hc,hm,by simpa using hs,?_⟩;rw[acl,atr,List.take_set,ht,hfl]
theorem XL(h:cC w B e z f A c xs){row:Option Nat}(hg:w.grownBy w' row)(hb:∀b∈aH A,some b≠row):cC w' B e z f A c xs:=by
 by_cases hA:A=none
 .exact dq h fun b q=>by rw[hA]at q;cases q
 .refine dq h fun b q=>?_;obtain⟨hl,h⟩:=h;rcases h with⟨h,h0⟩|⟨g,cap,cur,e1,hg2,hh,hc,hm,hs,ht⟩
  .exact absurd (by simpa using h:A=none/\xs=[]/\c=0).1 hA
  .obtain⟨rfl,_,rfl⟩:=(by simpa using e1:A=some ⟨g,0,none⟩/\True/\c=cap);obtain rfl:b=g:=by simpa[aH]using q
   exact⟨hg.block b (asf.1 hh).1 (hb b q),hg2⟩
end
theorem DF{w w':World}{row:Option Nat}(h:Below w.heap.size w w'):w.grownBy w' row:=⟨h.os,h.tape,h.output,h.size,fun k hk _=>h.block k hk⟩
theorem qD{a b c:World}{row:Option Nat}(h:a.grownBy b row)(k:b.grownBy c row):a.grownBy c row:=⟨k.os.trans h.os,k.tape.trans h.tape,k.output.trans h.output,IS h.size k.size,fun i hi hr=>(k.block i (WP hi h.size) hr).trans (h.block i hi hr)⟩
theorem qG(w:World)(b o:Nat)(u:Value):w.grownBy (w.setCell ⟨b,o,none⟩ u) (some b):=⟨rfl,rfl,rfl,by simp[World.setCell],fun k _ hr=>tN w _ u k fun e=>hr (by rw[<-e])⟩
