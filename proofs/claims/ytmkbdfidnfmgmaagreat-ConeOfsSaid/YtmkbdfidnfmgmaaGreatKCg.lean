import Derived.Test.YtmkbdfidnfmgmaaGreatKCa
import Derived.Test.YtmkbdfidnfmgmaaGreatKTd
set_option linter.all false
section
namespace Go.Proofs.YtmkbdfidnfmgmaaGreat.V
open Go Go.RowKit Go.Proofs.YtmkbdfidnfmgmaaGreat.Pl
def aov(cs:List (List sP))(i:Nat)(m:cC)(r:fh)(w:kw)(j:Nat):Bool:=(aqs (rd (cs.getD i []) (acf (r.addr.map (JQ · w)))).toNat m.word.toNat).getD j false
structure an1(n:aB)(V:Nat)(ls:kw)(cs:List (List sP))(ins w:kw):Prop where
 src:∀p,p<=V->(∀x∈n6 n,p∉x.2.nd.to)->(asc n ls ins).getD p false=w.getD p false
 ar4:∀a∈n.ag,w.getD a.var.toNat false=(JQ a.a w&&JQ a.b w)
 rd_:∀(i:Nat) (m:cC) (r:fh),n.af[i]?=some m->r∈m.reads->∀j,j<m.word.toNat->w.getD (r.var+(j:Int)).toNat false=aov cs i m r w j
set_option maxRecDepth 10000
theorem anx(n:aB):n6 n=(d7 n).zip (dt n):=by rw[<-alK (n6 n),Fh,rm]
def j0:dI:=⟨0,0,0⟩
def jP(n:aB)(s:S2):md:=qV n.ax fun i=>kv s (n.ax.getD i 0)
def i9(n:aB)(s:S2):md:=qV n.ah fun i=>kv s (n.ah.getD i j0).var
def iz(n:aB)(s:S2):md:=qV n.af fun i=>s.2.getD i false
def reL(F G:Int->Int)(l:dI):dI:=⟨F l.var,G l.next,l.init⟩
def reM(F G:Int->Int)(m:cC):cC:=⟨m.addr,m.word,m.any,m.reads.map fun r=>⟨F r.var,r.addr.map G⟩,m.writes.map fun w=>⟨G w.on,w.addr.map G,w.data.map G⟩⟩
structure Emb(n C:aB)(V K:Nat)(s:S2)(F G:Int->Int):Prop where
 lit:∀l,0<=l->G l=2*F (l / 2)+l % 2
 zero:F 0=0
 eJ:∀v∈dF n s,1<=F v/\F v<=(K:Int)
 inj:∀u∈dF n s,∀v∈dF n s,F u=F v->u=v
 ase:∀k:Nat,1<=k->k<=K->(k:Int)∈bp C
 ins:C.ax=(jP n s).map fun i=>F (n.ax.getD i 0)
 aT:C.ah=(i9 n s).map fun i=>reL F G (n.ah.getD i j0)
 mem:C.af=(iz n s).map fun i=>reM F G (n.af.getD i oJ)
 ar4:∀a∈C.ag,∃b∈(cz n s).ag,a.var=F b.var/\((a.a=G b.a/\a.b=G b.b)\/(a.a=G b.b/\a.b=G b.a))
 data:∀m∈(cz n s).af,∀r∈m.reads,∀j:Nat,j<m.word.toNat->F (r.var+(j:Int))=F r.var+(j:Int)
 fe:C.aU=n.aU.map G
 ga:C.constraints=n.constraints.map G
section
variable{n:aB}{V:Nat}{s:S2}(hs:cA n V)(h0:da n=0)(ha:dO (bh n) V=true)(M:jk n V s)
include hs h0 ha M
theorem EW:dO (bh (lH n s V)) (dF n s).length=true:=by
 have h:=ajZ hs M h0 ha;obtain⟨V',h1,_,h3⟩:=aj5 h;have:=h1.vars;have:(V':Int)=((dF n s).length:Int):=by rw[<-this];rfl
 grind
def pG(n:aB)(s:S2)(V:Nat):aB:=oK (lH n s V) (dF n s).length
end
def qB(n:aB):aB:={ n with ag:=n.ag.map fw }
theorem aap{a:dM}{l:Int}:l∈fH (fw a)↔l∈fH a:=by
 unfold fH fw
 grind
theorem OE(n:aB):bp (qB n)=bp n:=by unfold bp qB;show _++(n.ag.map fw).map (·.var)=_;rw[IR];rfl
theorem amT{n:aB}{l:Int}(h:l∈cL (qB n)):l∈cL n:=by
 unfold cL at h |-;simp only[qr]at h |-;rcases h with h|h
 .exact .inl h
 .refine .inr ?_;obtain⟨a,ha,hl⟩:=rc.1 h;obtain⟨b,hb,rfl⟩:=rt.1 (show a∈n.ag.map fw from ha);exact rc.2 ⟨b,hb,aap.1 hl⟩
section
variable{n:aB}{V:Nat}(hs:cA n V)
include hs
theorem OH:cA (qB n) V:=by
 refine⟨hs.vars,hs.v2,by rw[OE];exact hs.nodup,by rw[OE];exact hs.eJ,fun l h=>hs.lits l (amT h),hs.af,hs.init,?_⟩;have:=hs.lens;refine⟨this.1,this.2.1,?_,this.2.2.2⟩;show(n.ag.map fw).length<=2000
 grind
theorem alE(h0:da n=0):da (qB n)=0:=E5 (OH hs) (by rw[OE];exact(uD hs h0).1)
omit hs in
theorem amU{x:cg}(h:x∈dt n):∃y∈dt (qB n),y.to=x.to/\∀l∈y.bq,l∈x.bq:=by
 unfold dt at h |-;rcases qr.1 h with h|h
 .obtain⟨a,ha,rfl⟩:=rt.1 h;exact⟨kS (fw a),AI _ (rt.2 ⟨fw a,AT ha,rfl⟩),rfl,fun l hl=>aap.1 hl⟩
 .exact⟨x,Fd _ h,rfl,fun l hl=>hl⟩
omit hs in
theorem alD{y:cg}(h:y∈dt (qB n)):∃x∈dt n,y.to=x.to:=by
 unfold dt at h |-;rcases qr.1 h with h|h
 .obtain⟨a,ha,rfl⟩:=rt.1 h;obtain⟨b,hb,rfl⟩:=rt.1 (show a∈n.ag.map fw from ha);exact⟨kS b,AI _ (AT hb),rfl⟩
 .exact⟨y,Fd _ h,rfl⟩
omit hs in
theorem amS{v k:Nat}(h:dC (bh n) v k):Good (bh (qB n)) v:=by
 induction h with
 |free v h=>refine NY fun x hx hv=>?_;obtain⟨y,hy,rfl⟩:=xV hx;obtain⟨z,hz,e⟩:=alD hy;refine h z.nd (AT hz) ?_;unfold cg.nd at hv |-;rw[<-e];exact hv
 |node x v f hx hv _ ih=>obtain⟨y,hy,rfl⟩:=xV hx;obtain⟨z,hz,e,hf⟩:=amU hy;refine aaa (x:=z.nd) (AT hz) (by unfold cg.nd at hv |-;rw[e];exact hv) fun u hu=>ih u ?_;unfold cg.nd at hu |-;obtain⟨l,hl,rfl⟩:=rt.1 hu;exact AT (f:=fun l:Int=>(l / 2).toNat) (hf l hl)
theorem anV(ha:dO (bh n) V=true):dO (bh (qB n)) V=true:=by rw[jW (OH hs).apart];intro v hv;obtain⟨k,hk⟩:=(jW hs.apart V).1 ha v hv;exact amS hk
variable(h0:da n=0)(ha:dO (bh n) V=true)
include h0 ha
theorem amq:cA (oK n V) V/\da (oK n V)=0/\dO (bh (oK n V)) V=true:=by have S:=og hs ha;have F:=(uA hs ha h0).1;have C:=E1 hs ha h0;have s0:=wU hs ha h0;have R:=Oo S F C s0;have r0:=aao S F C s0;have ra:=aaR S F C s0 (aaN hs ha);exact⟨OH R,alE R r0,anV R ra⟩
variable{s:S2}(M:jk n V s)
include M
theorem akH:cA (pG n s V) (dF n s).length:=(amq (uw hs M h0) (wO hs M h0) (EW hs h0 ha M)).1
