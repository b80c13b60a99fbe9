import Derived.Test.YtbbhihkocghhaaaKMe
import Derived.Test.YtbbhihkocghhaaaKNa
import Derived.Test.YtbbhihkocghhaaaChecked
set_option linter.all false
section
namespace Go.Proofs.Ytbbhihkocghhaaa.Ev
open Go Go.RowKit
def vT(P:Program)(E:Env)(dr:Dr)(ej:Cl)(k:Nat)(f:FuncId)(vs:List AV):Option AV:=match tY P E (eK P E dr ej k) f vs ⟨.nil,1⟩with|some (v,_)=>some v|none=>none
variable{f:FuncId}{P:Program}{dr:Dr}{k:Nat}{v:AV}{E:Env}{vs:List AV}
theorem WA(hE:jq P E)(hdr:vJ P dr){ej:Cl}(ho:dM P ej){x:Value}(h:vT P E dr ej k f vs=some v)
  (hx:gB v=some x) (hw:cC 1 vs=true) (s:Sg) (w:World) :
  Calls P f (aL s vs).toArray w fun e w'=>e=.returned x/\Below w.heap.size w w':=by
 unfold vT at h;split at h<;>try cases h
 rename_i h' he;have:=(My hE (QH hE hdr ho k).1 f vs ⟨.nil,1⟩ v h' he).2 (fun s'=>s'=s) w (aL s vs).toArray ⟨s,rfl⟩
  (fun s' e=>⟨⟨fun i o hi=>by simp[Tr.get]at hi,fun i j o o' hi=>by simp[Tr.get]at hi,fun i o hi=>by simp[Tr.get]at hi,fun i o hi=>by simp[Tr.get]at hi⟩,by rw[e]⟩) hw
 refine this.mono ?_;rintro e w' ⟨F',V,rfl,hE',hF'⟩;obtain⟨s',hs',hx'⟩:=hE'.to s rfl;exact⟨by rw[<-(hF' s' hs').2,iS hx],hx'.os,hx'.tape,hx'.output,hx'.size,fun b hb=>hx'.frame b hb (fun i o hi=>by simp[Tr.get]at hi)⟩
def zG:Option AV->Bool
 |some (.bool true)=>true|_=>false
theorem U2{v:Option AV}(h:zG v=true):v=some (.bool true):=by
 unfold zG at h;split at h
 .rfl
 .cases h
theorem UR(hE:jq P E)(hdr:vJ P dr){ej:Cl}(ho:dM P ej)(h:zG (vT P E dr ej k f vs)=true)
  (hw:cC 1 vs=true) (s:Sg) (w:World) :
  Calls P f (aL s vs).toArray w fun e w'=>e=.returned (.bool true)/\Below w.heap.size w w':=
 WA hE hdr ho (U2 h) rfl hw s w
open Go.Proofs.Ytbbhihkocghhaaa.Pl
def H9:Int->Bool
 |.ofNat n=>Nat.ble n 9223372036854775807|.negSucc n=>Nat.ble n 9223372036854775807
theorem Lt{x:Int}(h:H9 x=true):cB x:=by
 cases x with
 |ofNat n=>have:=pi h;have e:Int.ofNat n=(n:Int):=rfl;rw[e];constructor<;>omega|negSucc n=>
  have:=pi h;have e:Int.negSucc n = -(n:Int)-1:=by rw[Int.negSucc_eq];omega
  rw[e];constructor<;>omega
def vp:IntKind->Bool|.i64=>true|_=>false
def rI:List AV->Option io
 |[]=>some []|v::l=>match v with
  |.int k n=>match vp k,H9 n,rI l with|true,true,some ns=>some (n::ns)|_,_,_=>none
  |_=>none
theorem QG{s:Sg}:∀{l:List AV}{ns:io},rI l=some ns->aL s l=ints ns/\(∀x∈ns,cB x)/\ns.length=l.length
 |[],ns,h=>by simp[rI]at h;subst h;exact⟨rfl,acv,rfl⟩|v::l,ns,h=>by
  simp only[rI]at h;split at h<;>try cases h
  rename_i k n;split at h<;>try cases h
  rename_i ns' h1 h2 h3;obtain⟨a,b,c⟩:=QG (s:=s) h3;have hk:k=.i64:=by cases k<;>simp[vp]at h1;rfl
  subst hk;refine⟨by simp[aL,ah,a,ints],?_,by simp[c]⟩;intro x hx;rcases BY.1 hx with rfl|hx
  .exact Lt h2
  .exact b x hx
def three:io->Option (List (Int×Int×Int))
 |[]=>some []|a::l=>match l with
  |b::c::l=>match three l with|some r=>some ((a,b,c)::r)|none=>none
  |_=>none
theorem GZ:∀{l:io}{r:List (Int×Int×Int)},three l=some r->l=r.flatMap (fun x=>[x.1,x.2.1,x.2.2])
 |[],r,h=>by simp[three]at h;subst h;rfl|[a],r,h=>by simp[three]at h|[a,b],r,h=>by simp[three]at h|a::b::c::l,r,h=>by
  simp only[three]at h;split at h<;>try cases h
  rename_i r' h';have:=GZ h';simp[<-this]
def vm(h:Hp)(sz b len:Nat)(u:Bool)(c:Nat):Bool:=match u with
 |false=>match Nat.ble len c with|true=>Nat.ble c 9223372036854775807|false=>false
 |true=>match h.tr.get b with
  |some (.cells l _ (some z))=>match Nat.beq z sz,Nat.blt 0 sz with|true,true=>Nat.ble ((c+len)*sz) l.length|_,_=>false
  |_=>false
variable{sz:Nat}{w:World}{h:Hp}{s:Sg}
theorem So{b off len c:Nat}{u:Bool}(e:vm h sz b len u c=true)(H:ab s h w) :
  ∃cc,ah s (.slice b off len u c)=.slice (some ⟨(s b).1,off,none⟩) len cc/\len<=cc/\cc<=9223372036854775807:=by
 cases u with
 |false=>
  unfold vm at e;simp only[]at e;split at e
  .rename_i h1;exact⟨c,rfl,pi h1,pi e⟩
  .cases e
 |true=>
  unfold vm at e;simp only[]at e;split at e
  .rename_i l ty z hb;split at e
   .rename_i q1 q2;have q1:=aW q1;rw[WP]at q2;have e:=pi e;subst q1;obtain⟨tail,_,_,htl⟩:=H.cells hb;obtain⟨ht,hm⟩:=htl _ rfl;refine⟨(s b).2-c,rfl,?_,acs⟩;rcases rt (s b).2 (c+len)with q|q
    .have:=abw q q2;omega
    .omega
   .cases e
  .cases e
def mz(h:Hp)(sz:Nat)(v:AV):Option (Nat×io):=match v with
 |.bu=>some (0,[])|.slice b off len u c=>match vm h sz b len u c,Nat.ble len 4000,mI h sz (.slice b off len u c)with
  |true,true,some (n,l)=>match rI l with|some ns=>some (n,ns)|none=>none
  |_,_,_=>none
 |_=>none
theorem oU{n:Nat}{ns:io}(e:mz h sz v=some (n,ns))(H:ab s h w) :
  ∃A c,ah s v=.slice A n c/\Sl w w.heap.size sz A n c (ints ns)/\n<=4000/\(∀x∈ns,cB x)/\ns.length=n*sz:=by
 unfold mz at e;split at e
 .simp at e;obtain⟨rfl,rfl⟩:=e;exact⟨none,0,rfl,⟨⟨by simp[ints],fun h=>acs⟩,acs,by simp[maxLen]⟩,acs,acv,acv⟩
 .rename_i b off len u c;split at e<;>try cases e
  rename_i l h1 h3 h4;split at e<;>try cases e
  rename_i hi;obtain⟨cc,hcc,h1,h2⟩:=So (off:=off) h1 H;have h3:=pi h3;have hsrc:=h4;unfold mI at h4;simp only[]at h4;split at h4<;>try cases h4
  rename_i cs ty op hb;split at h4<;>try cases h4
  rename_i hle;have hle:=pi hle;obtain⟨a1,a2,a3⟩:=QG (s:=s) hi;obtain⟨_,_,_,hll⟩:=nH (P:=default) hsrc H;obtain⟨tail,hw,_,_⟩:=H.cells hb;refine⟨some ⟨(s b).1,off,none⟩,cc,hcc,⟨⟨by rw[<-a1,ga,hll],fun _=>⟨_,rfl,H.bound hb,?_⟩⟩,h1,by simpa[maxLen]using h2⟩,h3,a2,by rw[a3,hll]⟩;intro j u hu;rw[<-a1]at hu;rw[dk];simp only[eu,eW,oR,qm]at hu;have hj:j<n*sz:=by
   rcases rt j (n*sz)with q|q
   .exact q
   .rw[Do (by simp;omega)]at hu;cases hu
  rw[abR,ut hj,List.getElem?_drop]at hu;simp only[World.cell?,hw,abh,GE,abu,pu];have hL:=ga s cs;rw[Fd acs];exact hu
 .cases e
variable{w':World}
theorem Below.hrel(H:ab s h w)(b:Below w.heap.size w w'):ab s h w' where
 obj i o hi:=by rw[b.block _ (H.bound hi)];exact H.obj i o hi
 inj:=H.inj
 lt:=H.lt
 fO:=H.fO
theorem Below.ext(b:Below w.heap.size w w'):Ext s h w s h w':=⟨b.os,b.tape,b.output,b.size,fun _ _=>rfl,ol _,fun k hk _=>b.block k hk,fun j o hj=>.inl ⟨j,o,hj,rfl⟩,fun j o hj _=>⟨o,hj⟩⟩
def E3(h:Hp)(vs:List AV):Option ba:=match vs with
 |[.agg [.int k vars,si,sl,so,sb,sc,sm,sa]]=>match vp k,H9 vars,mz h 1 si,mz h 3 sl,mz h 1 so,mz h 1 sb,mz h 1 sc,mz h 5 sm,mz h 3 sa with
  |true,true,some (_,i),some (_,l),some (_,o),some (_,b),some (_,c),some (0,_),some (_,a)=>match three l,three a with|some l,some a=>some ⟨vars,i,l.map (fun x=>⟨x.1,x.2.1,x.2.2⟩),o,b,c,[],a.map (fun x=>⟨x.1,x.2.1,x.2.2⟩)⟩|_,_=>none
  |_,_,_,_,_,_,_,_,_=>none
 |_=>none
def ej:Cl:=fun f vs h=>match Nat.beq f 64 with
 |true=>match E3 h vs with|some d=>some (.int .i64 (eh d),h)|none=>none
 |false=>none
theorem XN{d:ba}(e:E3 h vs=some d)(H:ab s h w) :
  ∃N:aX,(aL s vs).toArray=#[N.v]/\N.bT w w.heap.size/\Fit N.d/\N.d=d:=by
 unfold E3 at e;split at e<;>try cases e
 rename_i k vars si sl so sb sc sm sa;split at e<;>try cases e
 rename_i ni i nl l no o nb b nc c nm na a' hk hv h1 h2 h3 h4 h5 h6 h7;split at e<;>try cases e
 rename_i l3 a3 hl3 ha3;have hk':k=.i64:=by cases k<;>simp[vp]at hk;rfl
 subst hk';obtain⟨A1,c1,e1,s1,b1,r1,t1⟩:=oU h1 H;obtain⟨A2,c2,e2,s2,b2,r2,t2⟩:=oU h2 H;obtain⟨A3,c3,e3,s3,b3,r3,t3⟩:=oU h3 H;obtain⟨A4,c4,e4,s4,b4,r4,t4⟩:=oU h4 H;obtain⟨A5,c5,e5,s5,b5,r5,t5⟩:=oU h5 H;obtain⟨A6,c6,e6,s6,b6,r6,t6⟩:=oU h6 H;obtain⟨A7,c7,e7,s7,b7,r7,t7⟩:=oU h7 H;have hl:=GZ hl3;have ha:=GZ ha3;have len3:∀r:List (Int×Int×Int),(r.flatMap (fun x=>[x.1,x.2.1,x.2.2])).length=r.length*3:=by intro r;induction r with|nil=>rfl|cons x r ih=>simp only[GT,aP,ih];simp;omega
 have n2:l3.length=nl:=by have:=len3 l3;rw[<-hl,t2]at this;omega
 have n7:a3.length=na:=by have:=len3 a3;rw[<-ha,t7]at this;omega
 simp only[Nat.mul_one]at t1 t3 t4 t5;refine⟨⟨vars,A1,c1,i,A2,c2,l3.map (fun x=>⟨x.1,x.2.1,x.2.2⟩),A3,c3,o,A4,c4,b,A5,c5,c,A6,c6,[],A7,c7,a3.map (fun x=>⟨x.1,x.2.1,x.2.2⟩)⟩,?_,⟨?_,?_,?_,?_,?_,?_,?_,?_⟩,⟨?_,?_,?_,?_,?_,?_,?_,?_⟩,rfl⟩
 .simp only[aL,ah,e1,e2,e3,e4,e5,e6,e7,aX.v,aX.fs,t1,t3,t4,t5,aT,n2,n7,BT]
 .simp only[t1];exact s1
 .simp only[aT,n2];have:ints l=(l3.map (fun x=>(⟨x.1,x.2.1,x.2.2⟩:d9))).flatMap d9.cells:=by rw[hl];simp[ints,d9.cells,List.map_flatMap,abe]
  rw[<-this];exact s2
 .simp only[t3];exact s3
 .simp only[t4];exact s4
 .simp only[t5];exact s5
 .have:A6=A6:=rfl;simp only[BT,abm];exact⟨⟨acv,fun h=>acs⟩,acs,s6.2.2⟩
 .intro m hm;cases hm
 .simp only[aT,n7];have:ints a'=(a3.map (fun x=>(⟨x.1,x.2.1,x.2.2⟩:fe))).flatMap fe.cells:=by rw[ha];simp[ints,fe.cells,List.map_flatMap,abe]
  rw[<-this];exact s7
 .exact Lt hv
 .exact⟨by simp[aX.d,t1];omega,r1⟩
 .refine⟨by simp[aX.d,n2];omega,?_⟩;intro x hx;simp only[aX.d,IN]at hx;obtain⟨y,hy,rfl⟩:=hx;have mem:∀z∈[y.1,y.2.1,y.2.2],z∈l:=by intro z hz;rw[hl];exact Or.2 ⟨y,hy,hz⟩
  exact⟨r2 _ (mem _ acv),r2 _ (mem _ acv),r2 _ (mem _ acv)⟩
 .exact⟨by simp[aX.d,t3];omega,r3⟩
 .exact⟨by simp[aX.d,t4];omega,r4⟩
 .exact⟨by simp[aX.d,t5];omega,r5⟩
 .exact⟨by simp[aX.d],fun m hm=>by simp[aX.d]at hm⟩
 .refine⟨by simp[aX.d,n7];omega,?_⟩;intro x hx;simp only[aX.d,IN]at hx;obtain⟨y,hy,rfl⟩:=hx;have mem:∀z∈[y.1,y.2.1,y.2.2],z∈a':=by intro z hz;rw[ha];exact Or.2 ⟨y,hy,hz⟩
  exact⟨r7 _ (mem _ acv),r7 _ (mem _ acv),r7 _ (mem _ acv)⟩
theorem Vk:dM Try.prog ej:=by
 intro f vs h v h' e;unfold ej at e;split at e<;>try cases e
 rename_i hf;have hf:=aW hf;subst hf;split at e<;>try cases e
 rename_i d hd;refine⟨⟨Try.f64,_,Try.func64,acu,rfl⟩,?_⟩;intro F w args hne hF hw;obtain⟨aeK,adZ⟩:=hne;obtain⟨N,n1,n2,n3,n4⟩:=XN hd (hF aeK adZ).1;rw[<-(hF aeK adZ).2,n1];refine(Kw N w n2 n3).mono ?_;rintro en w' ⟨rfl,hb⟩;refine⟨F,_,rfl,⟨fun s hs=>⟨s,hs,Below.ext hb⟩,fun s hs=>⟨s,hs,Below.ext hb⟩⟩,fun s hs=>⟨Below.hrel (hF s hs).1 hb,by rw[n4];rfl⟩⟩
def Tr.xU{α:Type}(p:Nat->α->Prop):Tr α->Nat->Nat->Prop
 |.nil,_,_=>True|.node v l r,a,b=>(match v with|some x=>p b x|none=>True)/\Tr.xU p l (2*a) (a+b)/\Tr.xU p r (2*a) (2*a+b)
theorem Tr.B8{α:Type}{p:Nat->α->Prop}:∀{t:Tr α}{a b:Nat},Tr.xU p t a b->∀n x,t.get n=some x->p (a*n+b) x
 |.nil,_,_,_,n,x,h=>by simp[Tr.get]at h|.node v l r,a,b,⟨h1,h2,h3⟩,n,x,h=>by
  cases n with
  |zero=>simp[Tr.get]at h;subst h;simpa using h1|succ m=>
   rw[Tr.tF]at h;split at h
   .have:=Tr.B8 h2 _ _ h;rw[show a*(m+1)+b=2*a*(m / 2)+(a+b) by
     have:m=2*(m / 2):=acs
     rw[show a*(m+1)=a*m+a by rw[Nat.mul_add];simp,show a*m=a*(2*(m / 2)) by rw[<-this],show a*(2*(m / 2))=2*a*(m / 2) by rw[<-Nat.mul_assoc,Nat.mul_comm a 2]];omega]
    exact this
   .have:=Tr.B8 h3 _ _ h;rw[show a*(m+1)+b=2*a*(m / 2)+(2*a+b) by
     have:m=2*(m / 2)+1:=acs
     rw[show a*(m+1)=a*m+a by rw[Nat.mul_add];simp,show a*m=a*(2*(m / 2)+1) by rw[<-this],show a*(2*(m / 2)+1)=2*a*(m / 2)+a by rw[Nat.mul_add,<-Nat.mul_assoc,Nat.mul_comm a 2];simp];omega]
    exact this
set_option maxRecDepth 100000
noncomputable def env:Env:=.node none (.node none (.node none (.node (some Try.f7) (.node none (.node (some Try.f31) (.nil) (.node (some Try.f95) (.nil) (.nil))) (.node (some Try.f47) (.node (some Try.f79) (.nil) (.nil)) (.nil))) (.node (some Try.f23) (.node none (.node (some Try.f71) (.nil) (.nil)) (.nil)) (.node (some Try.f55) (.node (some Try.f87) (.nil) (.nil)) (.nil)))) (.node (some Try.f11) (.node (some Try.f19) (.node (some Try.f35) (.node (some Try.f67) (.nil) (.nil)) (.node (some Try.f99) (.nil) (.nil))) (.node (some Try.f51) (.node (some Try.f83) (.nil) (.nil)) (.nil))) (.node (some Try.f27) (.node (some Try.f43) (.node (some Try.f75) (.nil) (.nil)) (.nil)) (.node (some Try.f59) (.node (some Try.f91) (.nil) (.nil)) (.nil))))) (.node none (.node (some Try.f9) (.node (some Try.f17) (.node (some Try.f33) (.node (some Try.f65) (.nil) (.nil)) (.node (some Try.f97) (.nil) (.nil))) (.node (some Try.f49) (.node (some Try.f81) (.nil) (.nil)) (.nil))) (.node (some Try.f25) (.node none (.node (some Try.f73) (.nil) (.nil)) (.nil)) (.node (some Try.f57) (.node (some Try.f89) (.nil) (.nil)) (.nil)))) (.node (some Try.f13) (.node (some Try.f21) (.node none (.node (some Try.f69) (.nil) (.nil)) (.node (some Try.f101) (.nil) (.nil))) (.node (some Try.f53) (.node (some Try.f85) (.nil) (.nil)) (.nil))) (.node (some Try.f29) (.node (some Try.f45) (.node (some Try.f77) (.nil) (.nil)) (.nil)) (.node none (.node (some Try.f93) (.nil) (.nil)) (.nil)))))) (.node none (.node none (.node (some Try.f8) (.node none (.node (some Try.f32) (.node (some Try.f64) (.nil) (.nil)) (.node (some Try.f96) (.nil) (.nil))) (.node (some Try.f48) (.node (some Try.f80) (.nil) (.nil)) (.nil))) (.node (some Try.f24) (.node none (.node (some Try.f72) (.nil) (.nil)) (.nil)) (.node (some Try.f56) (.node (some Try.f88) (.nil) (.nil)) (.nil)))) (.node (some Try.f12) (.node (some Try.f20) (.node (some Try.f36) (.node (some Try.f68) (.nil) (.nil)) (.node (some Try.f100) (.nil) (.nil))) (.node (some Try.f52) (.node (some Try.f84) (.nil) (.nil)) (.nil))) (.node (some Try.f28) (.node (some Try.f44) (.node (some Try.f76) (.nil) (.nil)) (.nil)) (.node (some Try.f60) (.node (some Try.f92) (.nil) (.nil)) (.nil))))) (.node (some Try.f6) (.node (some Try.f10) (.node (some Try.f18) (.node (some Try.f34) (.node (some Try.f66) (.nil) (.nil)) (.node (some Try.f98) (.nil) (.nil))) (.node (some Try.f50) (.node (some Try.f82) (.nil) (.nil)) (.nil))) (.node (some Try.f26) (.node none (.node (some Try.f74) (.nil) (.nil)) (.nil)) (.node (some Try.f58) (.node (some Try.f90) (.nil) (.nil)) (.nil)))) (.node none (.node (some Try.f22) (.node none (.node (some Try.f70) (.nil) (.nil)) (.nil)) (.node (some Try.f54) (.node (some Try.f86) (.nil) (.nil)) (.nil))) (.node (some Try.f30) (.node (some Try.f46) (.node (some Try.f78) (.nil) (.nil)) (.nil)) (.node none (.node (some Try.f94) (.nil) (.nil)) (.nil))))))
set_option maxRecDepth 100000
theorem TR:Tr.xU (fun f fn=>Try.prog.funcs[f]?=some fn/\(fn.name == "runtime.NumGoroutine")=false) env 1 0:=⟨trivial,⟨trivial,⟨trivial,⟨⟨Try.func7,acu⟩,⟨trivial,⟨⟨Try.func31,acu⟩,trivial,⟨⟨Try.func95,acu⟩,trivial,trivial⟩⟩,⟨⟨Try.func47,acu⟩,⟨⟨Try.func79,acu⟩,trivial,trivial⟩,trivial⟩⟩,⟨⟨Try.func23,acu⟩,⟨trivial,⟨⟨Try.func71,acu⟩,trivial,trivial⟩,trivial⟩,⟨⟨Try.func55,acu⟩,⟨⟨Try.func87,acu⟩,trivial,trivial⟩,trivial⟩⟩⟩,⟨⟨Try.func11,acu⟩,⟨⟨Try.func19,acu⟩,⟨⟨Try.func35,acu⟩,⟨⟨Try.func67,acu⟩,trivial,trivial⟩,⟨⟨Try.func99,acu⟩,trivial,trivial⟩⟩,⟨⟨Try.func51,acu⟩,⟨⟨Try.func83,acu⟩,trivial,trivial⟩,trivial⟩⟩,⟨⟨Try.func27,acu⟩,⟨⟨Try.func43,acu⟩,⟨⟨Try.func75,acu⟩,trivial,trivial⟩,trivial⟩,⟨⟨Try.func59,acu⟩,⟨⟨Try.func91,acu⟩,trivial,trivial⟩,trivial⟩⟩⟩⟩,⟨trivial,⟨⟨Try.func9,acu⟩,⟨⟨Try.func17,acu⟩,⟨⟨Try.func33,acu⟩,⟨⟨Try.func65,acu⟩,trivial,trivial⟩,⟨⟨Try.func97,acu⟩,trivial,trivial⟩⟩,⟨⟨Try.func49,acu⟩,⟨⟨Try.func81,acu⟩,trivial,trivial⟩,trivial⟩⟩,⟨⟨Try.func25,acu⟩,⟨trivial,⟨⟨Try.func73,acu⟩,trivial,trivial⟩,trivial⟩,⟨⟨Try.func57,acu⟩,⟨⟨Try.func89,acu⟩,trivial,trivial⟩,trivial⟩⟩⟩,⟨⟨Try.func13,acu⟩,⟨⟨Try.func21,acu⟩,⟨trivial,⟨⟨Try.func69,acu⟩,trivial,trivial⟩,⟨⟨Try.func101,acu⟩,trivial,trivial⟩⟩,⟨⟨Try.func53,acu⟩,⟨⟨Try.func85,acu⟩,trivial,trivial⟩,trivial⟩⟩,⟨⟨Try.func29,acu⟩,⟨⟨Try.func45,acu⟩,⟨⟨Try.func77,acu⟩,trivial,trivial⟩,trivial⟩,⟨trivial,⟨⟨Try.func93,acu⟩,trivial,trivial⟩,trivial⟩⟩⟩⟩⟩,⟨trivial,⟨trivial,⟨⟨Try.func8,acu⟩,⟨trivial,⟨⟨Try.func32,acu⟩,⟨⟨Try.func64,acu⟩,trivial,trivial⟩,⟨⟨Try.func96,acu⟩,trivial,trivial⟩⟩,⟨⟨Try.func48,acu⟩,⟨⟨Try.func80,acu⟩,trivial,trivial⟩,trivial⟩⟩,⟨⟨Try.func24,acu⟩,⟨trivial,⟨⟨Try.func72,acu⟩,trivial,trivial⟩,trivial⟩,⟨⟨Try.func56,acu⟩,⟨⟨Try.func88,acu⟩,trivial,trivial⟩,trivial⟩⟩⟩,⟨⟨Try.func12,acu⟩,⟨⟨Try.func20,acu⟩,⟨⟨Try.func36,acu⟩,⟨⟨Try.func68,acu⟩,trivial,trivial⟩,⟨⟨Try.func100,acu⟩,trivial,trivial⟩⟩,⟨⟨Try.func52,acu⟩,⟨⟨Try.func84,acu⟩,trivial,trivial⟩,trivial⟩⟩,⟨⟨Try.func28,acu⟩,⟨⟨Try.func44,acu⟩,⟨⟨Try.func76,acu⟩,trivial,trivial⟩,trivial⟩,⟨⟨Try.func60,acu⟩,⟨⟨Try.func92,acu⟩,trivial,trivial⟩,trivial⟩⟩⟩⟩,⟨⟨Try.func6,acu⟩,⟨⟨Try.func10,acu⟩,⟨⟨Try.func18,acu⟩,⟨⟨Try.func34,acu⟩,⟨⟨Try.func66,acu⟩,trivial,trivial⟩,⟨⟨Try.func98,acu⟩,trivial,trivial⟩⟩,⟨⟨Try.func50,acu⟩,⟨⟨Try.func82,acu⟩,trivial,trivial⟩,trivial⟩⟩,⟨⟨Try.func26,acu⟩,⟨trivial,⟨⟨Try.func74,acu⟩,trivial,trivial⟩,trivial⟩,⟨⟨Try.func58,acu⟩,⟨⟨Try.func90,acu⟩,trivial,trivial⟩,trivial⟩⟩⟩,⟨trivial,⟨⟨Try.func22,acu⟩,⟨trivial,⟨⟨Try.func70,acu⟩,trivial,trivial⟩,trivial⟩,⟨⟨Try.func54,acu⟩,⟨⟨Try.func86,acu⟩,trivial,trivial⟩,trivial⟩⟩,⟨⟨Try.func30,acu⟩,⟨⟨Try.func46,acu⟩,⟨⟨Try.func78,acu⟩,trivial,trivial⟩,trivial⟩,⟨trivial,⟨⟨Try.func94,acu⟩,trivial,trivial⟩,trivial⟩⟩⟩⟩⟩⟩
theorem UQ:jq Try.prog env:=by intro f fn h;have:=Tr.B8 TR f fn h;simpa using this
end Go.Proofs.Ytbbhihkocghhaaa.Ev
end
section
namespace Go.Proofs.Ytbbhihkocghhaaa
open Go.RowKit Ev
set_option maxRecDepth 1000000
theorem mixed:Try.prog.follows .mixedOrders=true:=acu
theorem Sd:zG (vT Try.prog env (Cr Try.prog) ej 100000 6 [])=true:=acu
theorem vc(w:World):Calls Try.prog 6 #[] w fun e w'=>e=.returned (.bool true)/\Below w.heap.size w w':=UR UQ (Yb mixed) Vk Sd rfl (fun _=>(0,0)) w
