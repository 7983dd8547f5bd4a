/-
  Short names for proofs that come often. No condition.
-/
import Derived.Test.YtecmeakkkmidjaaGreatRows
import Derived.WalkKit
import Derived.WalkSpells
import Derived.WalkLawsBesides
import Derived.Laws.CopyOwn
import Derived.Deep.MidRow
import Derived.StillTail
import Derived.Test.YtecmeakkkmidjaaGreatProg
import Derived.BigQuiet
import Derived.Deep.QuietTactic
import Derived.Deep.DeepCutAuto
import Derived.Deep.CutBlock
import Derived.Deep.RegionWith
import Derived.OpenShut
import Derived.Deep.Slices
import Derived.ChangeOld
import Derived.ChangeSame
import Derived.Lib.SmallJoins
import Derived.Laws.BytesString
import Derived.Laws.BitsLemmas
import Derived.Laws.CopyRow
import Derived.Laws.StructEq
import Derived.MapKept
import Derived.ArgAppend
import Derived.ProofKit
import Derived.ShutString
import Derived.Below
set_option linter.defProp false
set_option linter.unusedVariables false
set_option linter.unusedSimpArgs false
set_option maxRecDepth 100000
set_option maxHeartbeats 4000000
namespace Go.Proofs.YtecmeakkkmidjaaGreat
variable {p:Prop}
def O{α:Sort _}{a:α}:a=a:=rfl
def Z(h:p:=by omega):p:=h
def ψ(h:p:=by grind):p:=h
def φ(h:p:=by decide):p:=h
def ξ(h:p:=by kernel_rfl):p:=h
def rE(h:p:=by have hT:=h'.da.tb (X:=X) Z;exact aA<|mW O<|mY (Ea (X:=X) hI.oa hT.1 hT.2) O<|mZ O<|ak<|bN<|tN<|aA<|mE 2 O<|ak<|⟨((f-1),(hlf c u1 u2).1,(hlf c u1 u2).2,v1,v2),h',by show f-1<f;omega,wkv [6] [] ⟨dW O (aJ ((bH (by have:=h'.fl;omega)).trans (by have:=hI.fl;omega))),Pe⟩ trivial O O⟩):p:=h
def abP(h:p:=by have hT:=h'.db.tb (X:=X) Z;exact aA<|mW O<|mY (Ea (X:=X) hI.ob hT.1 hT.2) O<|mZ O<|ak<|bN<|tN<|aA<|mE 2 O<|ak<|⟨((f-1),u1,u2,(hlf d v1 v2).1,(hlf d v1 v2).2),h',by show f-1<f;omega,wkv [6] [] ⟨dW O (aJ ((bH (by have:=h'.fl;omega)).trans (by have:=hI.fl;omega))),Pe⟩ trivial O O⟩):p:=h
def ael(h:p:=by rintro _ _ ⟨rfl,rfl⟩;exact wKm [30,9,8,16,7,6,5,4,2,1,0] [9,20,6,2] O O<|I<|cR<|mE 3 O<|I<|aQ<|rLo [] ⟨O,O⟩ (Ad aj O O) AV.le.rfl O ⟨eG O<|vW AO.le.rfl,Pe⟩ O O O):p:=h
def aft(h:p:=by exact cR<|mW O<|I<|cR<|mW O<|mX _ (bD O O)<|mW O<|mO O<|mZ O<|I<|cR<|mW O<|I<|aQ<|rLg [0] ⟨O,O⟩ (iF O) O O O O O):p:=h
def alc(h:p:=by exact⟨O,(),trivial,O⟩):p:=h
def alx(h:p:=by rintro _ _ ⟨rfl,rfl⟩;exact wKm [26,7,9,6,4,3,2,1,0] [7,4,0] O O<|I<|cR<|mW O<|I<|aQ<|rLg [0] ⟨O,O⟩ (iF O) O O O O O):p:=h
def aoG(h:p:=by rintro⟨⟩ -;exact wKm [15,14,5,4,3,2,1,0] [3,0] O O<|mE 2 O<|I<|aQ<|rLg [0] ⟨O,O⟩ (ig aj O AV.le.rfl) O O O O O):p:=h
def aoI(h:p:=by rintro _ _ ⟨rfl,rfl⟩;exact wKm [14,4,3,2,1,0] [3,0] O O<|mW O<|I<|aQ<|rLg [0] ⟨O,O⟩ (iF O) O O O O O):p:=h
def aoK(h:p:=by exact aj8 aj (tw:=33) (id:=3) (N:=(i+1)) (k:=k) (g:=gg) (cap:=cp) O O O O O O O O O O O O Z hcp<|I<|aiP ξ<|tN<|AW.wk (acE 3 33 3 O O O)<|cDk 11<|oE 6 O<|oC (Bo (c:=(gt L i).2.1)<|(hL i Z).z) O<|oE 3 O<|oV (xJo O O O O O O O Z)<|.nil<|mZ O<|ak<|bN<|tN<|aA<|mv2 O O<|ak<|⟨(i+1),by omega,by omega,wk O ⟨hs O,hs O,hs O,dW O<|aJ<|bH Z,Pe⟩ ⟨eG O<|Kz (x:=gt L i) hsl hkp O,Pe⟩ O⟩):p:=h
def aoP(h:p:=by exact aj8 aj (tw:=34) (id:=5) (N:=(i+1)) (k:=k) (g:=gg) (cap:=cp) O O O O O O O O O O O O Z hcp<|I<|aiP ξ<|tN<|AW.wk (acE 5 34 5 O O O)<|aA<|mv3 O O O<|mV aj _ (xJo O O O O O O O Z)<|mZ O<|ak<|bN<|tN<|aA<|mv2 O O<|ak<|⟨(i+1),by omega,by omega,wk O ⟨hs O,hs O,hs O,hs O,dW O<|aJ<|bH Z,Pe⟩ ⟨ho O,eG O<|Kz (x:=gt L i) hsl hkp O,Pe⟩ O⟩):p:=h
def aoW(h:p:=by exact mW O<|mO O<|mW O<|mZ O<|I<|aA<|mE 4 O<|mY (vK ⟨_,_,λ_ _ _ h=>h,ea i Z⟩ ⟨s,xs,λ_ _ _ h=>h,hy0⟩ hy (hd i hin) (M:=(max K 1+1)) Z Z Z) O<|mE 3 O<|mV aj _ (xJo O O O O O O O Z)<|mZ O<|ak<|bN<|tN<|aA<|mE 2 O<|ak<|⟨(i+1),by omega,by omega,wkv [3] [1] ⟨dW O<|aJ<|bH Z,Pe⟩ ⟨eG O<|OM (aav _) Z (C9 (c:=l7 c y))<|λp _ hp=>Ob hp,Pe⟩ O O⟩):p:=h
def ao1(h:p:=by exact⟨none,0,O,aav _,λ_=>rfl,λi hi=>absurd hi<|acH _⟩):p:=h
def ao2(h:p:=by exact aA<|mW O<|mY iI O<|mdT O hp<|mG O O<|mG O O<|mG O O<|mG O O<|mG O O<|mG O O<|mG O O<|mW O<|I<|cT O<|bZ<|tE<|bX O<|tE<|tE<|bE<|tN<|cR<|mE 3 O<|mY (tY (iQ (K:=K) (c:=y)<|bK.lg zy) zy) O<|mW O<|I<|aQ<|rQ O<|aJ<|by have e:=hI.stop<|Or.inl hp;have k:=yQ zy hy0 Pg oa<|DT zy hy0 Pg oa nv;rw [e] at k;exact k):p:=h
def ao8(h:p:=by exact aA<|mW O<|mY iI O<|mdF O hp<|mE 5 O<|mY (Bj hI.ok.le Pg.z Z hC) O<|mbT O (acW.2 Z)<|mW O<|I<|cT O<|bZ<|tE<|bX O<|tE<|tE<|bE<|tN<|cR<|mE 3 O<|mY (tY (iQ (K:=K) (c:=y)<|bK.lg zy) zy) O<|mW O<|I<|aQ<|rQ O<|aJ<|by have e:=hI.stop<|Or.inr hv;have k:=yQ zy hy0 Pg oa<|DT zy hy0 Pg oa nv;rw [e] at k;exact k):p:=h
def ao9(h:p:=by have h':=hI.go hf0 hp hv;have hT:=h'.d.tb (X:=X) Z;exact aA<|mW O<|mY (Ea (X:=X) hI.ok hT.1 hT.2) O<|mZ O<|ak<|bN<|tN<|aA<|mE 2 O<|ak<|⟨((f-1),(hlf c u1 u2).1,(hlf c u1 u2).2),h',by show f-1<f;omega,wkv [5] [] ⟨dW O (aJ ((bH (by have:=h'.fl;omega)).trans (by have:=hI.fl;omega))),Pe⟩ trivial O O⟩):p:=h
def apb(h:p:=by rw [vF (T:=T) (op:=o.op) (s:=st i) (s':=⟨(st i).n,iW (st i).sl<|o.looksAt l.toArray,(st i).hp⟩) O hget] at h;have⟨v,hrun,hv⟩:=zx (s:=⟨(st i).n,iW (st i).sl<|o.looksAt l.toArray,(st i).hp⟩) hT hSl hc Fq h;exact iy (dZ hg hSl)<|gV (a:=a0) hrun ⟨hdef v,by rw [hval];exact fin O (Below.refl _ _) hv⟩):p:=h
def apc(h:p:=by simp only [fz,hb,cond_false];exact h3):p:=h
def apF(h:p:=by rw [Io (T:=T) (op:=o.op) (s:=st i) (s':=⟨(st i).n,iW (st i).sl<|o.looksAt l.toArray,(st i).hp⟩) hget] at h;have⟨v,w2,hrun,hb,hv⟩:=QZ (s:=⟨(st i).n,iW (st i).sl<|o.looksAt l.toArray,(st i).hp⟩) hT hSl hc h;exact iy (dZ hg hSl)<|gV (a:=a0) hrun ⟨hdef v,by rw [hval];exact fin O hb hv⟩):p:=h
def ap4(h:p:=by have hx:=ath (n1:=lg c) (n2:=lg d) (h1:=h1) (h2:=h2) (hl:=hl) hc2 hlc hd2 hld Z Z Z;have hs:=yR hx (show 0<=b-a by grind) hw;exact avP hz Kr hU hV hL (by have:=jr<|3*(lg d/2+1)+(hl+2)*lg d+(lg d/2+1+(h2+(1+(lg d/2+1))*lg d)+(4+(lg d/2+1))*lg d);grind) hin.1 hin.2 hs v1 v2 ca cb da db):p:=h
def aqW(h:p:=by exact rQ O<|aJ<|by have h0:=vY<|val xs;simp only [beq_iff_eq,beq_eq_false_iff_ne,ne_eq,bne_iff_ne,bne_eq_false_iff_eq,decide_eq_true_eq,decide_eq_false_iff_not] at hc1 hc2;unfold tV zv;cases s <;> (repeat' split) <;> first|omega|(exfalso;simp at *;done)|(simp at *;omega)):p:=h
def aqX(h:p:=by have⟨v,hrun,hv⟩:=h ρ (Bd ρ B0) w' (fM (l.take i) 0 a0 vs) (λx hx mJ hgx=>cu (s:=⟨(st i).n,iW (st i).sl<|o.looksAt l.toArray,(st i).hp⟩) hSl<|(hget x hx).symm.trans hgx);exact iy (dZ hg hSl)<|gV (a:=a0) hrun ⟨hdef v,by rw [hval];exact fin O (Below.refl _ _) hv⟩):p:=h
def aqY(h:p:=by rintro _ _ ⟨rfl,rfl⟩;exact wKm [33,14,13,12,11,10,5,4,3,2,43,42,41,1,0] [3,2,106,105,104,103,102,0] O O<|xEe 7 O<|I<|cR<|xWe O<|I<|cFs O<|cR<|xWe O<|xZe O<|I<|aQ<|rLg [14,41,12,11,10,0] ⟨O,O⟩ (ig bM O AV.le.rfl) O O O O O):p:=h
def aq0(h:p:=by have h1:dR s' x=_:=(wL x<|by rw [hop];simp [Op.operands,Call.operands,qU]).symm.trans hx;have⟨h2,_⟩:=(cu hs h1:fP _ _ _ _);omega):p:=h
def aq1(h:p:=by rw [hdst];exact⟨_,hc',(by show(a.tmps.setIfInBounds d v).size=s.n;simp_all),hdf,mF dW hn (acN hd) (AO.BG eG (by simp [up]))⟩):p:=h
def aq2(h:p:=by have⟨v,w2,hrun,hb,hvb,hob⟩:=Q5 (s:=⟨(st i).n,iW (st i).sl<|o.looksAt l.toArray,(st i).hp⟩) hT hSl hc h;exact iy (dZ hg hSl)<|gV (a:=a0) hrun ⟨hdef v,by rw [hval];exact new O hfr ⟨hb,hvb,λd' hρ=>hob _<|wF hρ hvb⟩⟩):p:=h
def aq3(h:p:=by rintro rfl;rw [this,Nat.beq_refl] at e;cases e):p:=h
def aq4(h:p:=by simp only [Option.some.injEq,Prod.mk.injEq] at h;obtain⟨rfl,rfl⟩:=h;have⟨q1,q2⟩:=Sr hlk;exact⟨Kt O<|yE (x:=x) (by simp [Op.operands]) hgx O,by simp_all,by rw [q1];exact aaS O (by rw [q2];rfl)<|by rw [q2];rfl⟩):p:=h
def aq5(h:p:=by rcases Ig x y with⟨h,e⟩|⟨h,e⟩|⟨h,e⟩ <;> rw [e] <;> constructor <;> intro k <;> first|omega|grind):p:=h
def aq6(h:p:=by rw [hop];simp only [resolve,qU,Deferred.ofValue,hxe,Sem.run_bind,Sem.run_pure,Result.andThen_ok,invoke,hen];simp_all):p:=h
def aq7(h:p:=by exact⟨(k,xa,xb),hk5,wk O ⟨hs O,hs O,hs O,hs O,hs O,hs O,hs O,hs O,hs O,hs O,hs O,hs O,hs O,Pe⟩ ⟨ho O,ho O,ho O,ho O,ho O,ho O,ho O,ho O,ho O,ho O,ho O,Pe⟩ O⟩):p:=h
def aq9(h:p:=by exact cDk 22<|oE 3 O<|oXr (bD O O)<|oE 3 O<|oFd O (by omega)<|oV O<|xGo<|xGo<|xGo<|xGo<|xGo<|xGo<|xGo<|xGo<|xGo<|xGo<|oE 3 O<|.nil<|I<|aQ<|rLg [0] ⟨O,O⟩ (ig aj O AV.le.rfl) O O O O O):p:=h
def ara(h:p:=by exact keep (λk' hk'=>by have:k=k':=abr hk';omega)):p:=h
def arb(h:p:=by exact rQ O<|aJ<|by have h0:=rX z.natAbs;simp only [beq_iff_eq,beq_eq_false_iff_ne,ne_eq,bne_iff_ne,bne_eq_false_iff_eq,decide_eq_true_eq,decide_eq_false_iff_not] at hc1 hc2;unfold tV;(repeat' split) <;> omega):p:=h
def ard(h:p:=by subst hie;exact AW.wk (iY 10 O)<|fQ 5 (.d<|.o<|.a 2 n<|aX M<|l7 c y) O (eY<|qM (aav _)<|λi hi=>if_pos hi)<|aA<|mW O<|mY (kP<|iQ (K:=M) (c:=(l7 c y))<|Ef za) O<|mW O<|I<|aQ<|rQ O<|AV.le.rfl):p:=h
def arf(h:p:=by have⟨v,hrun,hv⟩:=h ρ B0 w0 w' (fM (l.take i) 0 a0 vs) _ ⟨(st i).n,_,(st i).hp⟩ Fq hget hc hSl;exact iy (dZ hg hSl)<|gV (a:=a0) hrun ⟨hdef v,by rw [hval];exact fin O (Below.refl _ _) hv⟩):p:=h
def arh(h:p:=by have n5:=Ag h1<|lg c;have n6:=Ag h2<|lg d;have hlc:=dN c;have hld:=dN d;unfold qV;have h:=ac2 (show 4*(lg c+lg d)<=160 by omega) (show CY c (lg c)+CY d (lg d)+(lg c+lg d)+8<=64*K+48 by omega);omega):p:=h
def ari(h:p:=by simp [Op.operands]):p:=h
def arj(h:p:=by have⟨i',hI',hlt,hw⟩:=hq;have⟨e2,a2,w2,hq2,Vq⟩:=ih (μ i') Z i' a1 w1 O hI'<|hw _ _ _ _ qx;exact⟨e2,a2,w2,hq2,.of_steps (Steps.trans harr<|.one step_inLoop) Vq⟩):p:=h
def ark(h:p:=by have hq1:fU n d=Rat.divInt n 1:=hq.trans<|ah9 (Rat.divInt n) h1;have⟨e1,e2⟩:=GL n;exact rQ O<|zO Z Z (by rw [hq1];exact e1.symm)<|by rw [hq1];exact h1.trans e2.symm):p:=h
def arn(h:p:=by have⟨g,l,hst,_⟩:=h.ctd lo hi hab;exact⟨λp hp=>absurd hp<|by simp,λC hC v ca cb=>(He hst (dG h.z) ((h.free hab).1 h0) hC ca cb v).elim,List.Pairwise.nil,by simp_all⟩):p:=h
def aro(h:p:=by exact AW.wk (iY 4 O)<|fQ 4 (.d<|.o<|dn 5 n.natAbs) O (eY<|ZX O hde<|by rw [hde];exact zh hN)<|aA<|mE 2 O<|mY (Lp O) O<|mZ O<|I<|aQ<|rQ O<|VA φ<|qA n):p:=h
def aru(h:p:=by exact absurd (Nat.le_of_ble_eq_true e) Z):p:=h
def arv(h:p:=by rw [Op.equalIn];simp only [Sem.run_bind,run_underlying ha,Result.andThen_ok,hsi];simp [Std.Legacy.Range.forIn_eq_forIn_range',List.range',ei,Fb hi,Sem.run_bind];grind):p:=h
def arw(h:p:=by exact aA<|mE 2 O<|mV aj (.d<|.o<|.a 2 k<|aX K c) (slR (z:=(k:Int)) (n:=n) O O O O O O Z Z)<|mW O<|I<|aQ<|rQ O<|nZ (aav _) hd<|λ_ _=>rfl):p:=h
def arz(h:p:=by have HEX:=bJ hex;clear hex;go_wp2_with fail;go_meet;exact⟨g-1,by rw [HGC.out],XV,by rw [Nat.sub_add_cancel hg1];exact adg.out,HEX.out,hwin,vJ.refl _ _⟩):p:=h
def arA(h:p:=by obtain⟨rfl,_⟩:=hx2;rw [Nat.mul_one,Nat.add_zero] at hx1;rw [hx1,vV];simp [hj']):p:=h
def arD(h:p:=by have hfd:=aht zu;exact rQ O<|jK<|dl (dex (Ah r 20) ZP<|by rw [hfd];exact fG (by rw [<-hfd];exact iK (Ef<|bK.lg zu)<|Hu zu) ZP.b)<|dl DV.same iR):p:=h
def arH(h:p:=by have hq:fU n d=Rat.divInt n d:=lK hd0;have⟨e1,e2⟩:=uT (n:=n) (d:=d) hD;exact rQ O<|zO Z Z (by rw [hq];exact e1.symm)<|by rw [hq];exact e2.symm):p:=h
def asY(h:p:=by exact rQ O<|jK<|dl (yx<|kX Z e1)<|dl (yx<|kX (aav _) e2)<|dl DV.same iR):p:=h
def as5(h:p:=by have⟨u,hu1,hu2⟩:=OE (q/te.n) (q%te.n) hdiv<|acP _ hsz;rw [Nat.mul_comm,Nat.div_add_mod] at hu1;have⟨_,hu3⟩:=acf.1 hu1;rw [hu3];exact hu2.one):p:=h
def as6(h:p:=by exact acn hC hD sc.y8 sc.Xe hz Kr hU hV hL (by have:=jr<|3*(lg c/2+1)+(hl+2)*lg c+(lg c/2+1+h1);grind) hin.1 hin.2 hs vC vA ca cb da db q1 q2):p:=h
def as8(h:p:=by exact acn hD hC sc.y8 sc.Xe hz Kr hU hV hL (by have:=jr<|3*(lg c/2+1)+(hl+2)*lg c+(lg c/2+1+h1);grind) hin.1 hin.2 hs vA vC da db ca cb q1 q2):p:=h
def as9(h:p:=by have⟨h1,e1⟩:=acf.1 Hx.out;have⟨h2,e2⟩:=acf.1 Hy.out;rw [List.drop_eq_getElem_cons h1,List.drop_eq_getElem_cons h2,e1,e2,Hd.out]):p:=h
def att(h:p:=by exact Or.inr ⟨k,ok,hk',Or.inl gQ,h5⟩):p:=h
def atv(h:p:=by exact oE 3 O<|oF O (acz.2<|bJ _ hkl)<|oE 3 O<|.nil<|I<|aQ<|rLg [0] ⟨O,O⟩ (ig aj O AV.le.rfl) O O O O O):p:=h
def atx(h:p:=by exact cDk 18<|oE 5 O<|oFd O Z<|oV O<|xGo<|xGo<|xGo<|xGo<|xGo<|xGo<|xGo<|xGo<|oE 3 O<|.nil<|I<|aQ<|rQ O<|AV.le.rfl):p:=h
def aty(h:p:=by exact⟨(i+1),by omega,by omega,wk O ⟨hs O,hs O,hs O,hs O,hs O,hs O,Pe⟩ ⟨ho O,ho O,ho O,Pe⟩ O⟩):p:=h
def atz(h:p:=by rintro B0 w0 a w ⟨ρ,hc,hn,hdf,hs⟩;have⟨v,hv,x,hq,hl⟩:=hs t _ h;exact k x hq B0 w0 a w ⟨ρ,hc,hn,hdf,kH hs hv hl⟩):p:=h
def atA(h:p:=by exact AW.wk (iY 3 O)<|aA<|mE 2 O<|I<|aQ<|rLe [0] ⟨O,O⟩ (iF O) (AV.of_eq<|by rw [GX];rfl) O O O O O):p:=h
def atB(h:p:=by rw [h x<|by simp [Op.operands]]):p:=h
def atC(h:p:=by exact ak<|bN<|tN<|aA<|xIa O Z<|mW O<|ak<|⟨((s+1),fs2),⟨by omega,aoS⟩,by show 4-(s+1)<4-s;omega,wkr O O⟩):p:=h
def atD(h:p:=by have⟨e1,e2⟩:=uT (n:=(-n)) (d:=(-d)) hD;exact rQ O<|zO Z Z (by rw [hq];exact e1.symm)<|by rw [hq];exact e2.symm):p:=h
def atL(h:p:=by intro t h1 h2;have:=hl x t hx ⟨by have:=hx.1;grind,by have:=hy.2;grind⟩ h1;have h3:L*(t-x)<=L*(y-x):=aaJ ψ hL;grind):p:=h
def aut(h:p:=by exact aO<|bN<|tN<|aA<|xIa O Z<|mW O<|ak<|⟨((s+1),fs),⟨by omega,hfs⟩,by show 4-(s+1)<4-s;omega,wkr O O⟩):p:=h
def auR(h:p:=by go_wp2;go_ret;exact⟨kZ<|by have:=Hd.out;simp only [List.drop_zero] at this;rw [HVX.out,HVY.out,this];simp [l9],hb⟩):p:=h
def auS(h:p:=by have⟨j,δ,hj⟩:=nP ((pu.mul pq).add pv) ⟨0,λe=>by grind⟩;have:=((hj.mul hb).congr h1).uniq<|EP (a:=1) φ;omega):p:=h
def auT(h:p:=by have h1:=JX (a:=(Int.natAbs (c i):Int)) (b:=((H9 c i:Nat):Int));show _=((max (H9 c i) (c i).natAbs:Nat):Int);omega):p:=h
def auU(h:p:=by have⟨e1,e2⟩:=uT (n:=n) (d:=1) hD;exact rQ O<|zO Z Z (by rw [hq];exact e1.symm)<|by rw [hq];exact e2.symm):p:=h
def auX(h:p:=by unfold lkU;rw [key O x (by simp [Op.operands]) _ id hx O]):p:=h
def auY(h:p:=by simp only [Sem.run_bind,zeroValue,typeInfo,run_program,Result.andThen_ok,k1,Sem.run_pure,k2,hz'];exact hfin _ ψ):p:=h
def au3(h:p:=by go_wp2;go_ret;exact⟨kZ<|by rw [HB.out];simp;omega,O⟩):p:=h
def avf(h:p:=by exact acI (acI Nat.lt_two_pow_self<|ac5 ψ _)<|acC φ Z):p:=h
def avg(h:p:=by rintro B0 w0 a w ⟨ρ,hc,hn,hdf,hs⟩;have⟨x,hx⟩:=hc.name h;exact k x B0 w0 a w ⟨ρ,hx,hn,hdf,hs⟩):p:=h
def avh(h:p:=by have hr2:=hr.take<|J3 xs n;have hl:=hr.len;subst hl;rw [hcut] at hr2;exact⟨_,he,J3 _ _,hr2,hw.symm⟩):p:=h
def avj(h:p:=by exact⟨v,h1,AR.mv hK (λ_ _ hb=>hb) (λ_ _=>rfl) h2⟩):p:=h
def avm(h:p:=by rw [List.mem_singleton.1 h];exact dX Z):p:=h
def awT(h:p:=by rw [xg ps.toList<|λp hp=>h p.2<|by simp only [Op.operands,List.mem_toArray,List.mem_map];grind]):p:=h
def awU(h:p:=by rw [e] at hT1 hT2 ⊢;exact JO hT1 hT2):p:=h
def awV(h:p:=by have:=Xj.out;have h5:=HH.out;have h6:=abh 4294967296 auG;rw [Nat.mul_comm 4294967296 top];omega):p:=h
def awY(h:p:=by exact iy (dZ (s:=s2) hg hSl)<|gV (a:=a0) hrun ⟨hdef v,fin hs3.symm (Below.refl _ _) hv⟩):p:=h
def awZ(h:p:=by rw [aaP] at hg;exact zL (XR hg hSl)<|fin (av:=.dY []) O (Below.refl _ _) ⟨[],O,Pe⟩):p:=h
def aw2(h:p:=by rw [hg'] at hg;exact zL (dZ hg hSl)<|fin (av:=.dY []) O (Below.refl _ _) ⟨[],O,Pe⟩):p:=h
def aw3(h:p:=by unfold Ab at *;constructor <;> grind):p:=h
def aw4(h:p:=by rintro B w v ⟨⟨a,n,c,h1,h2,h3,h4⟩,h5⟩;exact⟨⟨a,n,c,h1,h2,acL h3 h,h4⟩,h5⟩):p:=h
def aw5(h:p:=by exact⟨ob,C.way.hp 0 n (abJ _) (aav _) id ob h1,h2.mv hK (λ_ _ hb=>hb)<|λ_ _=>rfl⟩):p:=h
def aw6(h:p:=by exact Or.inl ψ):p:=h
def aw7(h:p:=by exact Or.inr ψ):p:=h
def aw8(h:p:=by have:((0:Nat):Rat)=0:=O;rw [this,Rat.zero_mul,Rat.zero_mul];exact(kY (e:=0) ψ).eq ψ):p:=h
def aw9(h:p:=by rw [Nat.beq_refl,cond_true];trivial):p:=h
def axa(h:p:=by rcases eU (f t-f x) with⟨q,e'⟩|⟨q,e'⟩|⟨q,e'⟩ <;> first|omega|grind):p:=h
def axb(h:p:=by rcases eU (f y-f t) with⟨q,e'⟩|⟨q,e'⟩|⟨q,e'⟩ <;> first|omega|grind):p:=h
def axc(h:p:=by exact oE 3 O<|oF O (acz.2<|bJ _ hkl)<|oE 3 O<|.nil<|I<|aQ<|rQ O<|AV.le.rfl):p:=h
def axd(h:p:=by rintro e w2 ⟨v,rfl,hb,hv⟩;exact⟨hdef v,by rw [hval];exact fin O hb hv.lift⟩):p:=h
def axe(h:p:=by simp [Instr.indexAt,asIntOf,run_underlying h3,hz0,hzn,sizeOf,typeInfo,k1,k4,add_lit]):p:=h
def axf(h:p:=by exact⟨λ_=>s,O,h,λi o h=>by simp at h⟩):p:=h
def axg(h:p:=by subst this;decide):p:=h
def axh(h:p:=by rw [hg'] at hg;exact zL (dZ hg hSl)<|fin (av:=.D) O (Below.refl _ _) trivial):p:=h
def axi(h:p:=by exact fin es (Below.refl _ _)<|NH hv hy ho2):p:=h
def axj(h:p:=by rw [e] at hp ⊢;exact aa3 zc Z (H:=t2 h1) ψ (λi=>Eb (H:=2^h1) ψ) vC ca cb):p:=h
def axk(h:p:=by rw [e] at hp ⊢;exact aa3 zd Z (H:=t2 h2) ψ (λi=>Eb (H:=2^h2) ψ) vD da db):p:=h
def axl(h:p:=by exact acL (jc (n:=0) kL λ_ _=>rfl)<|abJ _):p:=h
def axm(h:p:=by have h:=ac2 (show x<=4294967295 by omega) (show y<=4294967295 by omega);omega):p:=h
def axn(h:p:=by have h1:=ji B Wc n t Z;rw [dJ B<|by simp_all] at h1;have h2:=bT B hu;grind):p:=h
def axo(h:p:=by exact⟨O,O,Or.inr ⟨ob,hfr,O⟩⟩):p:=h
def axp(h:p:=by have h1:=(cu hsl hx:fP _ _ _ _).1;exact⟨_,dP<|by rw [h1];rfl,O,O⟩):p:=h
def axq(h:p:=by exact⟨_,go ad n cap e he hxe,O,O⟩):p:=h
def axr(h:p:=by simp only [Sem.run_pure,Result.andThen_ok,Sem.run_bind];exact hfin #[] Z):p:=h
def axt(h:p:=by go_meet;exact⟨by rw [show((jR z:Nat):Int)=z by unfold jR;omega],O⟩):p:=h
def axu(h:p:=by unfold execOp;rw [hop];simp [resolve,qU,invoke,builtin,ha,ht,hye,hxe,hr]):p:=h
def axv(h:p:=by rw [Nat.pow_succ,Nat.pow_succ];have:B4^m*B4<=B4^m*B4*B4:=ac0 _ φ;omega):p:=h
def axw(h:p:=by have h:=aaJ (I5<|su (lg c) (lg d) h1 h2) (show 0<=b-a by grind);grind):p:=h
def axx(h:p:=by exact rQ O<|AV.le.rfl):p:=h
def axy(h:p:=by go_meet;exact⟨by rw [show jR z=65536 by unfold jR;omega];rfl,O⟩):p:=h
def axB(h:p:=by have:=HGR.out;have h3:=abh top hg1;rw [Nat.sub_mul,Nat.one_mul];omega):p:=h
def axC(h:p:=by subst this;exact hok'):p:=h
def axD(h:p:=by have hzy:0<=z/\z<=(y:Int):=Z;simp [Instr.sliceBound,he,asIntOf,hzy]):p:=h
def axG(h:p:=by rw [ji B W i d hi,bT B hU,bT B hY,Nat.pow_succ,Nat.mul_assoc];grind):p:=h
def axV(h:p:=by exact rQ O<|jK<|dl (dex (Ah r 20) ZP<|zT hz0)<|dl DV.same iR):p:=h
def axW(h:p:=by have h1:=(oO (h.z i) k.z (h.pm i Z).pos k.dv).2;have:=h.l i;omega):p:=h
def axX(h:p:=by exact Or.inr ⟨k,o,hk,Or.inl gQ,h⟩):p:=h
def aya(h:p:=by exact bZ<|tE<|tE<|bE<|tN<|cR<|xWe O<|I<|aQ<|rQ O<|AV.le.rfl):p:=h
def ayh(h:p:=by go_meet;exact⟨by rw [show jR z=0 by unfold jR;omega];rfl,O⟩):p:=h
def ayk(h:p:=by rintro e w' ⟨rfl,rfl⟩;exact⟨_,O,Below.refl _ _,O,O⟩):p:=h
def aym(h:p:=by exact AW.wk (iY 3 O)<|aA<|mE 2 O<|I<|aQ<|rQ O<|AV.le.rfl):p:=h
def ayo(h:p:=by exact AW.wk (iY 5 O)<|aA<|mE 2 O<|I<|aQ<|rQ O<|AV.le.rfl):p:=h
def ayp(h:p:=by have h3:=I5 hl;rw [lN];have e:t2 2=4:=O;rw [e];unfold In;grind):p:=h
def ayw(h:p:=by have k:=yQ zy hy0 Pg oa<|DT zy hy0 Pg oa nv;rw [e] at k;exact k):p:=h
def ayy(h:p:=by unfold wpList;rw [if_pos hw];left;unfold Oper.wp;rw [hr];exact k):p:=h
def ayB(h:p:=by exact Int.le_of_eq<|jV λ_=>Iff.rfl):p:=h
def ayD(h:p:=by exact hbe.setCell (aav _) _):p:=h
def ayE(h:p:=by exact⟨O,O⟩):p:=h
def ayF(h:p:=by exact⟨vs k,hA.wr k ok t hk (by simp_all) hk hkd,h4 k hk ψ⟩):p:=h
def ayG(h:p:=by rw [l9,if_neg Z,if_neg Z]):p:=h
def ayH(h:p:=by rw [uZ,hr (n-1-p) Z,show n-1-(n-1-p)=p by omega] at this;omega):p:=h
def ayM(h:p:=by go_wp2;go_ret;exact⟨by rw [<-Xk];simp [yj,Hx.out,hz],O⟩):p:=h
def ayS(h:p:=by rw [Kr] at h3;unfold Ab at h3;rcases hz with hz|hz <;> grind):p:=h
def ayY(h:p:=by rw [h2,Nat.mul_add_div hv0,Nat.div_eq_of_lt hrv,Nat.add_zero]):p:=h
def ayZ(h:p:=by exact jv (dZ hg hs) hr<|k B0 w0 _ w<|kS hc hn hdf hs hd hv):p:=h
def ay5(h:p:=by exact_mod_cast this):p:=h
def ay8(h:p:=by exact⟨_,O,cu hsl h⟩):p:=h
def azg(h:p:=by exact absurd hd<|C.one i k o ok d hi hk' eG hok hki hkd):p:=h
def azp(h:p:=by exact⟨v,dP<|by simp_all,hv⟩):p:=h
def azs(h:p:=by split at hr <;> cases hr <;> rfl):p:=h
def azv(h:p:=by exact k B0 w0 _ w<|kS hc hn hdf hs hd ⟨[],O,Pe⟩):p:=h
def azA(h:p:=by rw [aY,if_pos O]):p:=h
def azF(h:p:=by exact⟨e,a',w',hq,.of_steps (.one step_loop) harr⟩):p:=h
def azG(h:p:=by simp only [nK,Option.some.injEq] at h;subst h;trivial):p:=h
def azH(h:p:=by exact Or.inr ⟨i,o,hi,Or.inr O,eG,by rw [hd,e]⟩):p:=h
def azI(h:p:=by have:(R:Rat)*1<=(R:Rat)*(p.den:Rat):=aaJ hd hR;grind):p:=h
def azL(h:p:=by rw [<-hval];exact hres):p:=h
def azM(h:p:=by unfold Ab;grind):p:=h
def azN(h:p:=by rw [h] at h2 h3;simp at h2;subst h2;rw [<-h3];rfl):p:=h
def azO(h:p:=by simp only [yielded,hj',Option.bind_some,hd,hv];rfl):p:=h
def azQ(h:p:=by unfold cX;rw [SN hD];exact avl hD hg (oD XQ) ψ hL):p:=h
def azR(h:p:=by exact Or.inl h):p:=h
def azS(h:p:=by exact⟨.i x V3,by rw [aY,if_pos O],this,q2⟩):p:=h
def azX(h:p:=by exact⟨hdf,v,h1,h2⟩):p:=h
def azY(h:p:=by obtain⟨hj,rfl⟩:=acf.1 hu;rw [add_lit];grind):p:=h
def aAx(h:p:=by rw [Am.vG hd<|by rw [hA.size,hn0];omega];grind):p:=h
def aCa(h:p:=by exact ⟨_,_,O,by decide,λ_ _ h=>by obtain⟨rfl,rfl⟩:=h;exact⟨_,O⟩⟩):p:=h
def aCb(h:p:=by have h0:=abd hc1;omega):p:=h
def aCc(h:p:=by rintro _ _ ⟨rfl,rfl⟩;exact alc):p:=h
def aCd(h:p:=by exact bD O O):p:=h
def aCe(h:p:=by exact ⟨_,_,O,O,AO.le.rfl,O⟩):p:=h
def aCf(h:p:=by exact ⟨dW O<|aJ<|bH Z,Pe⟩):p:=h
def aCg(h:p:=by exact ⟨_,_,O,AV.le.rfl,O⟩):p:=h
def aCh(h:p:=by exact ⟨_,_,O,by decide,λ_ _ h=>by obtain⟨rfl,_,rfl⟩:=h;exact⟨_,O⟩⟩):p:=h
def aCi(h:p:=by have h0:=aa1 hc1;omega):p:=h
def aCj(h:p:=by simp_all):p:=h
def aCk(h:p:=by exact ⟨dW O<|aJ O,Pe⟩):p:=h
def aCl(h:p:=by exact ⟨O,O⟩):p:=h
def aCm(h:p:=by exact fK<|(fH Z Z).trans Z):p:=h
def aCn(h:p:=by intro n;induction n using Nat.strongRecOn with|_ n ih=>(intro i a w hn hI hden;have⟨e,a1,w1,⟨s',hq,qx⟩,harr⟩:=round i hI B0 w0 a w hden b (.inLoop c::k) cs;cases e with|normal=>exact arj|exit id=>exact⟨_,a1,w1,⟨s',hq,qx⟩,.pass (x:=.inLoop c) rfl ψ harr⟩|goto l=>exact⟨_,a1,w1,⟨s',hq,qx⟩,.pass (x:=.inLoop c) rfl ψ harr⟩|ret=>exact⟨_,a1,w1,⟨s',hq,qx⟩,.pass (x:=.inLoop c) rfl ψ harr⟩|panic ch=>exact⟨_,a1,w1,⟨s',hq,qx⟩,.pass (x:=.inLoop c) rfl ψ harr⟩|outgrown=>exact⟨_,a1,w1,⟨s',hq,qx⟩,.pass (x:=.inLoop c) rfl ψ harr⟩)):p:=h
def aCo(h:p:=by exact AV.le.rfl):p:=h
def aCp(h:p:=by rw [<-Bool.not_eq_true];exact λh=>this<|abr h):p:=h
def aCq(h:p:=by exact ⟨obr,Pe⟩):p:=h
def aCr(h:p:=by exact ⟨oir,Pe⟩):p:=h
def aCs(h:p:=by exact jh (z:=0) O O O O O O Z Z):p:=h
def aCt(h:p:=by exact ⟨ho O,ho O,ho O,Pe⟩):p:=h
def aCu(h:p:=by exact ⟨aav _,λ_ _ _=>rfl⟩):p:=h
def aCv(h:p:=by exact ⟨⟨_,O⟩,Pe⟩):p:=h
def aCw(h:p:=by exact ⟨⟨O,⟨_,_,O⟩,show 9∈ [9,10] by decide⟩,⟨O,⟨_,_,O⟩,show 10∈ [9,10] by decide⟩,Pe⟩):p:=h
def aCx(h:p:=by exact ⟨by decide,Pe⟩):p:=h
def aCy(h:p:=by assumption):p:=h
def aCz(h:p:=by rw [hop];exact ari):p:=h
def aCA(h:p:=by exact ig aj O AV.le.rfl):p:=h
def aCB(h:p:=by exact fK<|bH Z):p:=h
def aCC(h:p:=by exact ⟨⟨_,1,_,O,O,O⟩,⟨_,61,_,O,O,O⟩,⟨_,62,_,O,O,O⟩,⟨_,63,_,O,O,O⟩,⟨_,64,_,O,O,O⟩,⟨_,65,_,O,O,O⟩,⟨_,66,_,O,O,O⟩,Pe⟩):p:=h
def aCD(h:p:=by exact ⟨arr,arr,arr,Pe⟩):p:=h
def aCE(h:p:=by exact mkO (zl:=(n:Int)) (zc:=(n:Int)) (bts:=32) O O O O O Z Z O O O Z Z O):p:=h
def aCF(h:p:=by simp [Op.operands]):p:=h
def aCG(h:p:=by exact kP (⟨⟨fa,λ_ _ _ h=>h,ea⟩,za⟩:kW (oz K n fa) K n c)):p:=h
def aCH(h:p:=by rw [<-HG.out];exact hbe):p:=h
def aCI(h:p:=by unfold maxLen;omega):p:=h
def aCJ(h:p:=by exact dl DV.same iR):p:=h
def aCK(h:p:=by exact ⟨arr,Pe⟩):p:=h
def aCL(h:p:=by exact jf<|λq hq=>(yJ.1 hq).elim (λe=>e▸hP)<|λh=>let ⟨i,hi,e⟩:=iC h;e▸hL0 i hi):p:=h
def aCM(h:p:=by exact ⟨hs O,hs O,hs O,hs O,hs O,hs O,Pe⟩):p:=h
def aCN(h:p:=by rw [aY,if_pos O]):p:=h
def aCO(h:p:=by exact xT5 false O (Or.inl ⟨O,by rw [ht];rfl⟩) O O eqGuardType297 underlying297 stoodInHeld297 φ φ O O O O underlying3 underlying295 sizeOf3 sizeOf295):p:=h
def aCP(h:p:=by exact ⟨O,by decide,O⟩):p:=h
def aCQ(h:p:=by exact ⟨⟨_,7,_,O,O,O⟩,⟨_,264,_,O,O,O⟩,⟨_,265,_,O,O,O⟩,⟨_,266,_,O,O,O⟩,⟨_,267,_,O,O,O⟩,⟨_,268,_,O,O,O⟩,Pe⟩):p:=h
def aCR(h:p:=by exact wk (sl:=[(61,.dY [.o<|aA0 n,.o<|.v aAL]),(0,.p 0 0)]) (hp:=[(0,.i pp<|.b T<|([.v<|.bool true]:List Lf)++aP (aG t)++([.a 18 ((fZ (aB y)<|eH<|bC<|aB y).length)<|aF aU<|fZ (aB y)<|eH<|bC<|aB y]:List Lf)++(aAK n0 n)++(tC<|aB y))]) O ⟨hs O,hs O,Pe⟩ ⟨eG O<|afH<|by rw [afP,hm1],Pe⟩ O):p:=h
def aCS(h:p:=by exact ⟨⟨0,_,O,O,O⟩,Pe⟩):p:=h
def aCT(h:p:=by rw [HOL.out];omega):p:=h
def aCU(h:p:=by exact ⟨eG O<|iD,Pe⟩):p:=h
def aCV(h:p:=by exact ⟨arr,arr,Pe⟩):p:=h
def aCW(h:p:=by exact ⟨wjr 0,Pe⟩):p:=h
def aCX(h:p:=by rw [dK,HOL.out];omega):p:=h
def aCY(h:p:=by simp):p:=h
def aCZ(h:p:=by exact fK<|fH Z Z):p:=h
def aC0(h:p:=by exact jh (z:=1) O O O O O O Z Z):p:=h
def aC1(h:p:=by rw [dK,HOL.out];exact aav _):p:=h
def aC2(h:p:=by exact mkO (zl:=((i+1:Nat):Int)) (zc:=((i+1:Nat):Int)) (bts:=32) O O O O O Z Z O O O Z Z O):p:=h
def aC3(h:p:=by intro ps;induction ps with|nil=>intro l r h;simp only [wY,Option.some.injEq] at h;rw [h]|cons p ps ih=>intro l r h;simp only [wY] at h;split at h;rename_i hcnd;rw [ih _ _ h];simp [RV];omega;grind):p:=h
def aC4(h:p:=by exact ⟨by omega,λj hj=>if q:j=i then by rw [q];exact hkp else hi.2 j Z⟩):p:=h
def aC5(h:p:=by exact xJ (max K L) ((Nat.gcd (Int.natAbs (-n)) (Int.natAbs (-d)):Nat):Int)):p:=h
def aC6(h:p:=by have h0:=abd hc2;omega):p:=h
def aC7(h:p:=by rw [hI.gt hf0 ka kb];exact AV.le.rfl):p:=h
def aC8(h:p:=by exact Xo (M:=15) (iQ (c:=pX P)<|λi hi=>bK.lg (bK.of hP.xz φ) i hi) (iQ (c:=pY P)<|λi hi=>bK.lg (bK.of hP.yz φ) i hi) (jT 14 ((pL P:Nat):Int)) hD (by have:=dN<|pX P;omega)<|by have:=dN (pY P);omega):p:=h
def aC9(h:p:=by exact ZA<|V5 aj (lo:=k+1) (N:=i+1) O O O O O O (LH O) Z):p:=h
def aDa(h:p:=by exact ⟨⟨2,_,O,O⟩,⟨3,_,O,O⟩,⟨4,_,O,O⟩,⟨5,_,O,O⟩,⟨35,_,O,O⟩,Pe⟩):p:=h
def aDb(h:p:=by exact jh (el:=(λc _=>bP 14 (lg<|(R i) c)<|(R i) c)) (z:=0) (n:=(n+1)) O O O O O O Z Z):p:=h
def aDc(h:p:=by exact ⟨hs O,hs O,hs O,hs O,hs O,hs O,hs O,hs O,hs O,hs O,dW O<|aJ<|bH Z,Pe⟩):p:=h
def aDd(h:p:=by exact xJ (max K 64) ((Nat.gcd (Int.natAbs n) (Int.natAbs 1):Nat):Int)):p:=h
def aDe(h:p:=by exact ⟨⟨0,_,O,O⟩,Pe⟩):p:=h
def aDf(h:p:=by exact xJ (max K L) ((Nat.gcd (Int.natAbs n) (Int.natAbs d):Nat):Int)):p:=h
def aDg(h:p:=by exact iQ (K:=K) (c:=c)<|bK.lg zc):p:=h
def aDh(h:p:=by exact ⟨k-1,by omega⟩):p:=h
def aDi(h:p:=by exact YW (iQ (K:=(KC+L)) (c:=(iJ r<|aA6 d))<|jG<|pI<|bK.lg hI.zr) (iQ (K:=(KC+L+20001)) (c:=(bW (qY (r<|lg d-1+i) i) d))<|jG<|gJ tJ<|bK.lg zd) (M:=(max (KC+L) (KC+L+20001)+1))):p:=h
def aDj(h:p:=by grind):p:=h
def aDk(h:p:=by exact Zz [(.tmp 9,9,p0),(.tmp 10,10,p1)] O O ⟨⟨O,_,_,O⟩,⟨O,_,_,O⟩,Pe⟩):p:=h
def aDl(h:p:=by exact V5 aj (lo:=k) (N:=i+1) O O O O O O (LH O) Z):p:=h
def aDm(h:p:=by exact ⟨eG O<|oN<|λi _=>if_neg<|acH _,Pe⟩):p:=h
def aDn(h:p:=by exact ⟨dW O<|aJ<|show IntKind.i64.wrap (Int.tdiv (R:Int) 10000)=_ from by rw [show Int.tdiv (R:Int) 10000=((R/10000:Nat):Int) from O];exact fH Z Z,Pe⟩):p:=h
def aDo(h:p:=by have h0:=aa1 hc2;omega):p:=h
def aDp(h:p:=by exact iQ (c:=c)<|bK.lg zc):p:=h
def aDq(h:p:=by exact aH.le (dl DV.same<|dl DV.same<|dl (yx<|zN uV O O) iR) AV.le.rfl<|Jc (kd:=5) (x:=y) φ φ O (TM ha hb hc hd) hy<|(aeZ ha hb hc hd).pb φ φ):p:=h
def aDr(h:p:=by exact ⟨hs O,hs O,hs O,hs O,dW O<|aJ O,Pe⟩):p:=h
def aDs(h:p:=by have key:a<1+t2 hl/\-(1+t2 hl)<b:=(by have hp:=jr hl;by_cases k:h1<=h2;have e:hl=h1:=Z;exact axj;have e:hl=h2:=Z;exact axk);exact ayp):p:=h
def aDt(h:p:=by exact dl (DV.l ha)<|dl (DV.l hb) iR):p:=h
def aDu(h:p:=by exact wk O ⟨hs O,hs O,Pe⟩ ⟨ho O,Pe⟩ O):p:=h
def aDv(h:p:=by rintro b (h1|⟨id,u,h1,h2⟩);exact Or.inl<|Or.inl h1;unfold up at h1;split at h1;simp_all;exact Or.inl<|Or.inr ⟨id,u,h1,h2⟩):p:=h
def aDw(h:p:=by exact ⟨dG jE,dG<|fV jE,ru jE,λ_=>1,λ_=>0,dh 1,dh 0,λx=>by rw [um];grind⟩):p:=h
def aDx(h:p:=by exact aH.le (dl DV.same<|dl DV.same<|dl DV.same iR) (gG hc)<|YM (x:=x) (a:=(gt L i)) (b:=(gt (aBq x L i)<|k-1)) (hL i Z) (hos (k-1) Z) hx):p:=h
def aDy(h:p:=by exact jT (max K 2)<|aBh D x n y m):p:=h
def aDz(h:p:=by exact uH O O):p:=h
def aDA(h:p:=by rcases eU (f x) with⟨k,_⟩|⟨_,k⟩|⟨k,_⟩;exact⟨-(f x),by grind,Or.inr ψ⟩;omega;exact⟨f x,k,Or.inl ψ⟩):p:=h
def aDB(h:p:=by exact ady (iQ (K:=(KC+L)) (c:=(iJ q<|aA6 d))<|jG<|pI<|bK.lg hI.zq) (iQ (K:=KC) (c:=(qY (r<|lg d-1+i) i)) tJ) (M:=(max (KC+L) KC+1))):p:=h
def aDC(h:p:=by exact OM (aav _) (aav _) (if_pos O).symm<|λp _ hp=>(if_neg hp).symm):p:=h
def aDD(h:p:=by rw [sH];omega):p:=h
def aDE(h:p:=by exact iQ (K:=K) (c:=(gl Rs<|Rs.length-1))<|bK.lg<|hF.z<|Rs.length-1):p:=h
def aDF(h:p:=by exact bM _ _ O):p:=h
def aDG(h:p:=by exact dZ hg hs):p:=h
def aDH(h:p:=by exact aH.le (dl DV.same<|dl DV.same<|dl DV.same iR) (gG hbt)<|adk (x:=y) (a:=(gt A.1 0)) (b:=(gt B.1 0)) (hPA 0 Z) (hPB 0 Z) hy):p:=h
def aDI(h:p:=by exact jT (max K 2)<|aA5 x n y m):p:=h
def aDJ(h:p:=by exact_mod_cast h1):p:=h
def aDK(h:p:=by show(i+1)*232<=140737488355328;omega):p:=h
def aDL(h:p:=by unfold Ah l7;rw [(iM zu).1 hu0 i];exact Int.zero_ediv _):p:=h
def aDM(h:p:=by exact wkv [5] [0] ⟨dW O<|aJ<|by rw [Nat.sub_self];rfl,Pe⟩ ⟨eG O<|QE (oh hb.2.2.1 Z)<|oh hb.2.2.2 Z,Pe⟩ O O):p:=h
def aDN(h:p:=by exact aJ O):p:=h
def aDO(h:p:=by show(i+1)*72<=140737488355328;omega):p:=h
def aDP(h:p:=by exact kP (⟨⟨fb,λ_ _ _ h=>h,eb⟩,zb⟩:kW (oz L m fb) L m d)):p:=h
def aDQ(h:p:=by exact ⟨⟨_,O⟩,⟨_,O⟩,Pe⟩):p:=h
def aDR(h:p:=by exact (λe=>hne<|by rw [e];rfl)):p:=h
def aDS(h:p:=by exact aC.C0 (x9 (p:=t)) O O O):p:=h
def aDT(h:p:=by exact dl (DV.l ha) iR):p:=h
def aDU(h:p:=by exact wkr O O):p:=h
def aDV(h:p:=by exact yC<|rJ hD'):p:=h
def aDW(h:p:=by exact aix (ZY (l:=[1]) (n:=1) O (λi hi=>match i,hi with|0,_=>rfl)) (λi hi=>match i,hi with|0,_=>by decide)):p:=h
def aDX(h:p:=by rw [HWC.out];omega):p:=h
def aDY(h:p:=by exact ⟨eG O<|OM (aav _) (aav _) C9<|λp _ hp=>Ob hp,Pe⟩):p:=h
def aDZ(h:p:=by exact ⟨g-1,r+top,by rw [HGC.out],by go_num,by omega,Xj.out,by omega,by rw [Nat.sub_add_cancel hg1];exact adg.out⟩):p:=h
def aD0(h:p:=by exact ⟨⟨8,_,O,O,O⟩,Pe⟩):p:=h
def aD1(h:p:=by rw [<-Array.toList_inj];omega):p:=h
def aD2(h:p:=by rw [hnz];exact Kv hD' Z Z Z):p:=h
def aD3(h:p:=by rfl):p:=h
def aD4(h:p:=by exact UJ (iQ (K:=KC) (c:=(qY (r<|lg d-1+i) i)) tJ) (iQ (K:=L) (c:=d)<|bK.lg zd) (M:=(KC+L+20001)) (D:=20)):p:=h
def aD5(h:p:=by exact bK.lg hI.zr):p:=h
def aD6(h:p:=by have h5:=((xX y1 Z).mul<|xX zγ hγ0).congr λx=>(g1 x).symm;exact(h5.uniq<|xX zc Z).1):p:=h
def aD7(h:p:=by exact gV (a:=a0) hrun ⟨hdef v,by rw [hval];exact axi⟩):p:=h
def aD8(h:p:=by exact (λh=>(of_decide_eq_false hc3)<|by have:=Dl h;omega)):p:=h
def aD9(h:p:=by exact ⟨by decide,by decide,Pe⟩):p:=h
def aEa(h:p:=by exact ⟨⟨9,_,O,O,O⟩,⟨10,_,O,O,O⟩,Pe⟩):p:=h
def aEb(h:p:=by exact aJ<|bH Z):p:=h
def aEc(h:p:=by omega):p:=h
def aEd(h:p:=by exact ⟨hs O,hs O,hs O,hs O,Pe⟩):p:=h
def aEe(h:p:=by rw [World.size_alloc];omega):p:=h
def aEf(h:p:=by exact iQ (c:=y)<|bK.lg zy):p:=h
def aEg(h:p:=by simp;omega):p:=h
def aEh(h:p:=by simpa [gU] using hj):p:=h
def aEi(h:p:=by exact lZ 10 15 106 O O O):p:=h
def aEj(h:p:=by exact lZ 15 10 106 O O O):p:=h
def aEk(h:p:=by exact ⟨hdef v,by rw [hval];exact new O hfr hnew⟩):p:=h
def aEl(h:p:=by exact ⟨O,Pe⟩):p:=h
def aEm(h:p:=by exact afC hP (xA hD<|bK.lg<|bK.of hP.xz φ) (xA hD<|bK.lg<|bK.of hP.yz φ) (atl hP)<|atm hP):p:=h
def aEn(h:p:=by exact lZ 14 9 105 O O O):p:=h
def aEo(h:p:=by exact lZ 9 14 105 O O O):p:=h
def aEp(h:p:=by rw [qP _<|by rw [YI.out];omega];simp):p:=h
def aEq(h:p:=by exact Oz (c:=(aBl x R i k)) (x:=x) ((Yl (hC (k-2) Z) (hC (k-1) Z)<|hR i Z).pb φ φ) hx):p:=h
def aEr(h:p:=by rcases VC.or hC (dG y1) (dG zγ) (vC.congr g1) with h|h;exact h;simp_all):p:=h
def aEs(h:p:=by rcases VC.or hD (dG y2) (dG zγ) (vD.congr g2) with h|h;exact h;simp_all):p:=h
def aEt(h:p:=by rw [lM];omega):p:=h
def aEu(h:p:=by rw [yg];omega):p:=h
def aEv(h:p:=by exact acL hbn φ):p:=h
def aEw(h:p:=by exact jK<|dl DV.same<|dl (yx<|nZ (aav _) (Du<|Or.inr<|hip.CS.l h0)<|λ_ _=>rfl) iR):p:=h
def aEx(h:p:=by exact ⟨eG O<|vW AO.le.rfl,Pe⟩):p:=h
def aEy(h:p:=by have h0:=abd hc4;omega):p:=h
def aEz(h:p:=by exact dZ (s:=s2) hg hSl):p:=h
def aEA(h:p:=by rw [hI.lt hf0 ka];exact AV.le.rfl):p:=h
def aEB(h:p:=by simp [AV.on]):p:=h
def aEC(h:p:=by exact ⟨⟨acN O,by decide,by decide⟩,Pe⟩):p:=h
def aED(h:p:=by exact fK<|by rw [if_pos O];split <;> omega):p:=h
def aEE(h:p:=by exact jh (z:=2) O O O O O O Z Z):p:=h
def aEF(h:p:=by exact acQ hi):p:=h
def aEG(h:p:=by exact iF O):p:=h
def aEH(h:p:=by exact ⟨f-1,by omega⟩):p:=h
def aEI(h:p:=by rw [hxe];exact N9 hti hf htu hn):p:=h
def aEJ(h:p:=by exact nS 5 5 39 5 (λ_ _=>.v undef) O O):p:=h
def aEK(h:p:=by exact ⟨by omega,λb hb hB=>k2 b<|λe=>hB<|Or.inr ⟨id,_,hg,by rw [e];rfl⟩⟩):p:=h
def aEL(h:p:=by have:=Ru (C:=E 4) (L:=L);omega):p:=h
def aEM(h:p:=by rw [lK hd0,Rat.neg_divInt_neg]):p:=h
def aEN(h:p:=by exact dZ hg hSl):p:=h
def aEO(h:p:=by exact ig bM O AV.le.rfl):p:=h
def aEP(h:p:=by cases h):p:=h
def aEQ(h:p:=by exact ⟨λx=>u x*q x+v x,λx=> - u x,(pu.mul pq).add pv,pu.neg,λx=>by grind⟩):p:=h
def aER(h:p:=by exact dl (DV.z hb) iR):p:=h
def aES(h:p:=by exact ⟨2,_,O,O⟩):p:=h
def aET(h:p:=by exact ⟨3,_,O,O⟩):p:=h
def aEU(h:p:=by exact ⟨6,_,O,O⟩):p:=h
def aEV(h:p:=by exact ⟨FF c,dG zc,λx=>by rw [um];grind⟩):p:=h
def aEW(h:p:=by exact dl (yx<|aJ<|by rw [show dg c (dg c n)=dg c n from Ed (jG za) za]) iR):p:=h
def aEX(h:p:=by exact ⟨Nh hcr (hext _ _ ho) hal hw hm hρ,oK.ok hs hB hρ<|ha.sees hc wL⟩):p:=h
def aEY(h:p:=by exact UC hL0 Z hP bJ hF):p:=h
def aEZ(h:p:=by rw [HWD.out];omega):p:=h
def aE0(h:p:=by exact eY<|qM (aav _)<|λi hi=>if_pos hi):p:=h
def aE1(h:p:=by exact jh (el:=(aF aI W)) (z:=0) (n:=W.length) O O O O O O Z Z):p:=h
def aE2(h:p:=by rintro _ _ ⟨rfl,x1,rfl⟩;exact⟨O,x1,trivial,O⟩):p:=h
def aE3(h:p:=by exact slL (z:=((i+1:Nat):Int)) (n:=L.length) O O O O O O Z Z):p:=h
def aE4(h:p:=by have h0:=zh hN;rw [<-hd,List.length_append] at h0;omega):p:=h
def aE5(h:p:=by exact slL (z:=((((L.length+1)/2):Nat):Int)) O O O O O O Z Z):p:=h
def aE6(h:p:=by exact ⟨(if x<0 then -x else x)+1,by unfold In;grind,by unfold In;grind⟩):p:=h
def aE7(h:p:=by have:=jr<|3*(lg d/2+1)+(hl+2)*lg d+(lg d/2+1+h2);grind):p:=h
def aE8(h:p:=by rw [hop];simp only [Op.operands,Call.operands];simp_all):p:=h
def aE9(h:p:=by show((M++A.2++B.2).length+1)*176<=140737488355328;omega):p:=h
def aFa(h:p:=by subst e;have⟨g,_,_,h4,_⟩:=h3;rw [h4] at bJ;cases bJ):p:=h
def aFb(h:p:=by exact mQ ha.pl hb.pl):p:=h
def aFc(h:p:=by exact mQ hc.pl hd.pl):p:=h
def aFd(h:p:=by exact acP _ φ):p:=h
def aFe(h:p:=by show((1+(dg x n))+(dg y m))*32<=140737488355328;omega):p:=h
def aFf(h:p:=by subst e;have⟨_,_,h4,_⟩:=h3;rw [h4] at bJ;cases bJ):p:=h
def aFg(h:p:=by exact FC (iQ (K:=KC) (c:=q)<|bK.lg hI.zq) (jT L<|aA6 d) (M:=(KC+L))):p:=h
def aFh(h:p:=by exact_mod_cast e):p:=h
def aFi(h:p:=by have:=xP x;omega):p:=h
def aFj(h:p:=by unfold fU;rw [if_pos hd0]):p:=h
def aFk(h:p:=by exact ⟨eG O<|jm (x:=lyW _ l (aB y)<|gt (eH L) i) O<|xC i,Pe⟩):p:=h
def aFl(h:p:=by funext k;unfold less;split;rename_i e;rw [e,bJ];rfl):p:=h
def aFm(h:p:=by subst e;have⟨_,h4,_⟩:=h3;rw [h4] at bJ;cases bJ):p:=h
def aFo(h:p:=by subst e;have⟨g,h4,_⟩:=h3;rw [h4] at bJ;cases bJ):p:=h
def aFp(h:p:=by exact ⟨_,by simp,λq=>(n.cut q).trans (h.one hab e1 hC v ca cb q)⟩):p:=h
def aFq(h:p:=by exact bT _ Hx.out):p:=h
def aFr(h:p:=by rw [<-hGq];exact hbelow):p:=h
def aFs(h:p:=by exact jG<|gJ tJ<|bK.lg zd):p:=h
def aFt(h:p:=by exact ⟨_,_,O⟩):p:=h
def aFu(h:p:=by simpa using hok):p:=h
def aFv(h:p:=by subst e;have⟨_,h4⟩:=h3;rw [h4] at bJ;cases bJ):p:=h
def aFw(h:p:=by exact dl (DV.g ha)<|dl (DV.g hb) iR):p:=h
def aFx(h:p:=by exact yY (⟨⟨fb,λ_ _ _ h=>h,eb⟩,zb⟩:kW (oz L m fb) L m d)):p:=h
def aFy(h:p:=by exact iQ (c:=c)<|bK.lg hz):p:=h
def aFz(h:p:=by decide +kernel):p:=h
def aFA(h:p:=by have h0:=abd hc3;omega):p:=h
def aFB(h:p:=by rintro b _ (h|⟨_,_,h,_⟩);exact h;cases h):p:=h
def aFC(h:p:=by exact ⟨4,_,O,O⟩):p:=h
def aFD(h:p:=by exact ⟨⟨39,_,O,O,O⟩,Pe⟩):p:=h
def aFE(h:p:=by exact ⟨⟨41,_,O,O,O⟩,Pe⟩):p:=h
def aFF(h:p:=by exact ⟨⟨43,_,O,O,O⟩,Pe⟩):p:=h
def aFG(h:p:=by rw [<-Nat.pow_add,show 32-ss+ss=32 by omega]):p:=h
def aFH(h:p:=by exact WV 29 40 103 O O O O):p:=h
def aFI(h:p:=by exact WV 41 42 105 O O O O):p:=h
def aFJ(h:p:=by exact acL (ano hmul K) zG):p:=h
def aFK(h:p:=by have h0:=hc1;rw [e] at h0;exact absurd h0 φ):p:=h
def aFL(h:p:=by have:=dN<|pX x;omega):p:=h
def aFM(h:p:=by have:=dN<|pY x;omega):p:=h
def aFN(h:p:=by rw [<-Int.natCast_mul,<-hP];exact fH Z Z):p:=h
def aFO(h:p:=by unfold gX at hc;grind):p:=h
def aFP(h:p:=by exact ⟨none,0,O,aav _,λ_=>rfl,λi hi=>absurd hi<|acH _⟩):p:=h
def aFQ(h:p:=by exact ⟨⟨1,O,by decide⟩,Pe⟩):p:=h
def aFR(h:p:=by exact ⟨⟨_,9,_,O,O,O⟩,⟨_,10,_,O,O,O⟩,Pe⟩):p:=h
def aFS(h:p:=by exact ⟨hown.1,λb hb=>Or.inl<|acL hcr.bel.size<|hv b hb⟩):p:=h
def aFT(h:p:=by exact ⟨u,h1,by rw [hup];exact fP.mv hKp (λ_ _ h=>h) _ h3⟩):p:=h
def aFU(h:p:=by rw [show Il (val ys)=0 from if_neg hn];rfl):p:=h
def aFV(h:p:=by show(1+(dg x n))*32<=140737488355328;omega):p:=h
def aFW(h:p:=by show(S.length+1)*72<=140737488355328;omega):p:=h
def aFX(h:p:=by show(ds.length+1)*8<=140737488355328;omega):p:=h
def aFY(h:p:=by simp [up]):p:=h
def aFZ(h:p:=by exact e.trans<|dD h):p:=h
def aF0(h:p:=by exact ⟨ho O,ho O,eG O<|AO.xq<|by rw [anm hm2],Pe⟩):p:=h
def aF1(h:p:=by exact ⟨hs O,hs O,hs O,Pe⟩):p:=h
def aF2(h:p:=by exact asb (KC:=150000) (N:=5) h.z h0 φ h.l h.lb<|h.lv h0):p:=h
def aF3(h:p:=by have:(p+1)*te.n<=len*te.n:=abh _ Z;grind):p:=h
def aF4(h:p:=by exact ⟨Oi.refl _ _,(λb hb=>⟨hB b hb,λh=>h⟩),ψ,ψ⟩):p:=h
def aF5(h:p:=by exact_mod_cast this):p:=h
def aF6(h:p:=by have:=hr.mul<|EP (a:=(-1:Rat)) φ;grind):p:=h
def aF7(h:p:=by rw [Nat.add_mul,Nat.one_mul] at hn;omega):p:=h
def aF8(h:p:=by rw [hl1];rfl):p:=h
def aF9(h:p:=by unfold dU at h;rw [if_neg k] at h;omega):p:=h
def aGa(h:p:=by exact ⟨World.ownsRow_nil w _ e sz,λb hb=>by cases hb⟩):p:=h
def aGb(h:p:=by rw [hop'];exact hx):p:=h
def aGc(h:p:=by unfold gB;simp_all):p:=h
def aGd(h:p:=by exact dD<|ah8.2 wU):p:=h
def aGe(h:p:=by exact fG (iK (Rh (jG<|pI<|bK.lg hI.zq) tJ) hN.zq) hdq):p:=h
def aGf(h:p:=by exact iQ (c:=x)<|jG za):p:=h
def aGg(h:p:=by exact iQ (c:=y)<|jG zb):p:=h
def aGh(h:p:=by exact ⟨_,_,_,O⟩):p:=h
def aGi(h:p:=by exact ⟨j,by omega,O,by rw [<-Xk];simp [yj,Hx.out]⟩):p:=h
def aGj(h:p:=by exact ⟨⟨15,_,O,O⟩,Pe⟩):p:=h
def aGk(h:p:=by have h0:=of_decide_eq_false hc1;omega):p:=h
def aGl(h:p:=by exact ⟨u,h1,AR.mv hK (λ_ _ hB=>hB) (λ_ _=>rfl) h3⟩):p:=h
def aGm(h:p:=by have:=hC.l2;omega):p:=h
def aGn(h:p:=by rw [Uu.out];omega):p:=h
def aGo(h:p:=by exact lZ 10 39 102 O O O):p:=h
def aGp(h:p:=by exact lZ 11 40 103 O O O):p:=h
def aGq(h:p:=by exact lZ 12 41 104 O O O):p:=h
def aGr(h:p:=by exact lZ 13 42 105 O O O):p:=h
def aGs(h:p:=by exact lZ 14 43 106 O O O):p:=h
def aGt(h:p:=by exact atf Z<|avZ _ _):p:=h
def aGu(h:p:=by show(i+1)*88<=140737488355328;omega):p:=h
def aGv(h:p:=by show(k+1)*88<=140737488355328;omega):p:=h
def aGw(h:p:=by exact ⟨n-1,by omega⟩):p:=h
def aGx(h:p:=by exact ac0 _<|ahW φ<|acZ φ):p:=h
def aGy(h:p:=by rw [hH,Nat.pow_add];exact abh _ ha):p:=h
def aGz(h:p:=by show(i+1)*8<=140737488355328;omega):p:=h
def aGA(h:p:=by exact ⟨gI k,λh=>hk<|gK.1 h,λt _ _=>by rw [hf]⟩):p:=h
def aGB(h:p:=by exact ⟨wjr 8,Pe⟩):p:=h
def aGC(h:p:=by exact ⟨⟨a,n,c,O,h,hK,hB⟩,a,c,by rw [h.len]⟩):p:=h
def aGD(h:p:=by have:=har av u q;rwa [Px] at this):p:=h
def aGE(h:p:=by rw [<-hrs.len,hrl _ _ _ hr];simp):p:=h
def aGF(h:p:=by unfold OI;rw [Rk hil hkp hi.2,hw]):p:=h
def aGG(h:p:=by exact ⟨by have:=hBa.1;grind,by have:=hc.2;grind⟩):p:=h
def aGH(h:p:=by exact Cb _ Z):p:=h
def aGI(h:p:=by subst e;rw [h3.1] at bJ;cases bJ):p:=h
def aGJ(h:p:=by unfold B4;omega):p:=h
def aGK(h:p:=by unfold fC;grind):p:=h
def aGL(h:p:=by exact oN<|λ_ _=>rfl):p:=h
def aGM(h:p:=by exact ⟨by have:=hx.1;grind,by have:=hy.2;grind⟩):p:=h
def aGN(h:p:=by exact ⟨⟨0,_,O,O⟩,⟨54,_,O,O⟩,Pe⟩):p:=h
def aGO(h:p:=by exact ⟨⟨9,_,O,O⟩,⟨10,_,O,O⟩,Pe⟩):p:=h
def aGP(h:p:=by rcases hf1 with q|q <;> grind):p:=h
def aGQ(h:p:=by rcases hf2 with q|q <;> grind):p:=h
def aGR(h:p:=by exact ⟨by have:=(h5 i Z).1;omega,(h5 i Z).2⟩):p:=h
def aGS(h:p:=by exact OQ (xJ K (-n)) (xJ L (-d)) (M:=(max K L))):p:=h
def aGT(h:p:=by have:=ahf<|c<|dg c n-1;omega):p:=h
def aGU(h:p:=by have⟨x,hx⟩:=uz zc Z;grind):p:=h
def aGV(h:p:=by rw [ahx];omega):p:=h
def aGW(h:p:=by rw [h]):p:=h
def aGX(h:p:=by simpa using hk):p:=h
def aGY(h:p:=by simpa using ho):p:=h
def aGZ(h:p:=by simpa using hx):p:=h
def aG0(h:p:=by exact jT K (Int.natAbs (c<|dg c (lg c)-1):Int)):p:=h
def aG1(h:p:=by exact xJ K n):p:=h
def aG2(h:p:=by exact ⟨hs O,hs O,hs O,hs O,hs O,Pe⟩):p:=h
def aG3(h:p:=by exact ⟨λ_=>0,λ_=>1,dh 0,dh 1,λx=>by grind⟩):p:=h
def aG4(h:p:=by exact Qr (hC (k-2) Z) (hC (k-1) Z)<|hR i Z):p:=h
def aG5(h:p:=by have:=(h.odd h0).pm.pos;omega):p:=h
def aG6(h:p:=by exact slR (z:=1) O O O O O O Z Z):p:=h
def aG7(h:p:=by exact ⟨_,d,ho,hdd,(hop i _ hi ho).shape hdd⟩):p:=h
def aG8(h:p:=by exact Og aj O underlying294 O O O O):p:=h
def aG9(h:p:=by have:=Nat.dvd_one.1 hd;omega):p:=h
def aHa(h:p:=by rw [Nat.eq_of_beq_eq_true e]):p:=h
def aHb(h:p:=by unfold Oper.looksAt;simp_all):p:=h
def aHc(h:p:=by exact iQ (c:=d)<|bK.lg zd):p:=h
def aHd(h:p:=by exact jh (z:=3) O O O O O O Z Z):p:=h
def aHe(h:p:=by exact nS 5 5 299 7 (λ_ _=>.v undef) O O):p:=h
def aHf(h:p:=by exact (λi=>acQ<|Nat.lt_of_lt_of_eq (hb i) ψ)):p:=h
def aHg(h:p:=by exact (λi=>by rw [show Xd D=D from if_neg hD])):p:=h
def aHh(h:p:=by have:=dN a;have:=dN b;omega):p:=h
def aHi(h:p:=by have⟨y,hy⟩:=hd.ne;grind):p:=h
def aHj(h:p:=by rw [List.length_take];omega):p:=h
def aHk(h:p:=by exact nS 3 3 32 1 (λ_ _=>.v undef) O O):p:=h
def aHl(h:p:=by exact ⟨by rw [hb.cell _ Z];rfl,hb.free _⟩):p:=h
def aHm(h:p:=by exact ⟨h.z,acL h.l hl,λi=>acL (h.b i) hH⟩):p:=h
end Go.Proofs.YtecmeakkkmidjaaGreat
