/-
  The program's functions, part J4. No condition.
-/
import Derived.Test.YtecmeakkkmidjaaGreatJ3
set_option linter.defProp false
set_option linter.unusedVariables false
set_option linter.unusedSectionVars false
set_option linter.unusedSimpArgs false
set_option maxRecDepth 100000
set_option maxHeartbeats 4000000
namespace Go.Proofs.YtecmeakkkmidjaaGreat
open Go.RowKit
noncomputable section
variable {c d g f o:Nat->Int}{lo hi q p u2 u1 b t a v2 v1 y x2 x1:Rat}{L K M KC n h1 J N i X sz h2 M' m k H L':Nat}{el:Nat->Nat->Lf}{e:TypeId}{Ls:List (Nat->Int)}{l:List Oper}{C D:dQ}{hp:List (Nat×AO)}{x:Operand}{w:World}{P:Program}{F:Nat->Fn}{kw ks:List Nat}{Y:Type}{av r:AV}{s:AS}{ρ:lq}{B:BS}
open Go.Proofs.Tryz
def t2(k:Nat):Rat:=((2^k:Nat):Rat)
def lN(a b:Nat):t2 (a+b)=t2 a*t2 b:=by unfold t2;grind
def jr(k:Nat):0<t2 k:=by unfold t2;exact_mod_cast ae1 k
def I5(k:Nat):1<=t2 k:=rY (a:=1)<|ae1 k
def TY{a b:Nat}(h:a<=b):t2 a<=t2 b:=rY<|acC φ h
def Ua(a:Nat):∀n:Nat,t2 a^n=t2 (a*n)
 |0=>by rfl
 |n+1=>by rw [Rat.pow_succ,Ua a n,<-lN,Nat.mul_succ]
def WL{a:Nat}(h:n<=2^a):(n:Rat)<=t2 a:=rY h
def Fj{x:Rat}{a b:Nat}(hx:x<=t2 a)(hy:y<=t2 b)(hy0:0<=y):x*y<=t2 (a+b):=by rw [lN];have h1:x*y<=t2 a*y:=abV hx hy0;have h2:t2 a*y<=t2 a*t2 b:=aaJ hy (by have:=jr a;grind);grind
def Tt{x:Rat}(h:0<=x):∀n:Nat,0<=x^n
 |0=>by grind
 |n+1=>by rw [Rat.pow_succ];exact acK (Tt h n) h
def aaW{x:Rat}(h:0<=x)(k:x<=y):∀n:Nat,x^n<=y^n
 |0=>by simp_all
 |n+1=>by
  rw [Rat.pow_succ,Rat.pow_succ];have h1:=abV (aaW h k n) h;have h2:=aaJ k (Tt (show 0<=y by grind) n);grind
def Cb:∀n,n<=40->n<=2^(n/2+1):=by intro n hn;have:∀m:Fin 41,m.val<=2^(m.val/2+1):=φ;exact this ⟨n,by omega⟩
def IY{u:Nat->Int}{a bl:Nat}{H:Rat}(hm:m<=n)(ha:n<=2^a)(hu:∀i,Ab (u i:Rat) H)(hH:H<=t2 k):(∀x,In (t2 bl) x->Ab (pz u x m) (t2<|3*a+bl*n+k))/\Xl (t2 bl) (λx=>pz u x m) (t2<|3*a+bl*n+k):=by have hH0:0<=H:=(hu 0).nn;have hB:=I5 bl;have hn:(n:Rat)<=t2 a:=WL ha;have hn0:=jS n;have hm':(m:Rat)<=(n:Rat):=rY hm;have hTB:TB n H (t2 bl)<=t2 (a+a+bl*n+k):=(by unfold TB;rw [Ua];exact Fj (Fj (Fj hn hn hn0) ψ<|by have:=jr<|bl*n;grind) hH hH0);have hT0:=WO (N:=n) hB hH0;have hall:(m:Rat)*TB n H (t2 bl)<=t2 (3*a+bl*n+k):=(by have h1:=Fj (show(m:Rat)<=t2 a by grind) hTB hT0;grind);refine⟨λx hx=>(agx hB hH0 aCy hm λi _=>hu i).mono hall,λx y hx hy hxy=>?_⟩;have h1:=Yn (c:=rc u) hB hH0 aCy aCy hxy hm λi _=>hu i;have h2:(m:Rat)*TB n H (t2 bl)*(y-x)<=t2 (3*a+bl*n+k)*(y-x):=abV hall ψ;have h3:=h1.mono h2;unfold Ab at h3;show pe (rc u) y m-pe (rc u) x m<=_/\pe (rc u) x m-pe (rc u) y m<=_;grind
def Eb{z:Int}(h: -(H:Int)<=z/\z<=H):Ab (z:Rat) (H:Rat):=by constructor;exact PI h.1;have:(z:Rat)<=((H:Int):Rat):=(by exact_mod_cast h.2);omega
def ane{z:Int}(h:z≠0):1<=(z:Rat)\/(z:Rat)<=-1:=ZG h
def qW(z:bK c)(h:∀i,n<=i->c i=0)(x:Rat):pz c x n=FF c x:=congrFun (Ba h z) x
def aiZ(zc:bK c)(sq:Ja (FF c)<|FF<|bQ c)(h2:2<=lg c)(hc:∀i,(c i).natAbs<=2^h1)(bl a:Nat)(ha:lg c<=2^a):
  ∃(U V:Fn) (z:Rat),(1<=z\/z<=-1)/\(∀x,U x*FF c x+V x*FF (bQ c) x=z)/\(∀x,In (t2 bl) x->Ab (U x) (t2<|3*a+bl*lg c+(2+a+(a+h1))*(2*lg c-3)))/\(∀x,In (t2 bl) x->Ab (V x) (t2<|3*a+bl*lg c+(2+a+(a+h1))*(2*lg c-3)))/\Xl (t2 bl) (FF<|bQ c) (t2<|3*a+bl*lg c+(a+h1)):=by
 obtain⟨n,hn⟩:∃n,n=lg c:=ψ;rw [<-hn] at h2 ha ⊢;have hz:∀i,n<=i->c i=0:=(by rw [hn];exact zc.lg);have htop:c (n-1)≠0:=(by rw [hn];exact nD Z);have hz':∀i,n-1<=i->bQ c i=0:=λi hi=>(by unfold bQ;simp_all);have Vx:bQ c (n-2)≠0:=(by unfold bQ;rw [show n-2+1=n-1 by omega];exact ahU htop Z);obtain⟨H,hH⟩:∃H,H=n*2^h1:=ψ;have hp:=ae1 h1;have hle:2^h1<=H:=(by rw [hH];exact ah5 _ Z);have bc:∀i,-(H:Int)<=c i/\c i<=H:=ψ;have bc':∀i,-(H:Int)<=bQ c i/\bQ c i<=H:=λi=>(by by_cases hi:n-1<=i;grind;have e:(bQ c i).natAbs<=H:=(by unfold bQ;rw [Int.natAbs_mul,hH,Nat.mul_comm];exact ac2 Z<|hc _);omega);have⟨U,V,z,hz0,hU0,hV0,bU,bV,Kr⟩:=Zd (c:=c) (c':=bQ c) (γ:=λi=>if i=0 then 1 else 0) (d:=n-1) (e:=n-2) (r:=0) (H:=H) (k1:=FF c) (k2:=FF<|bQ c) ψ ψ Z htop Vx φ aD3 Z bc bc' sq.po sq.Xe
  (λx=>by rw [qW zc ψ];show _=FF c x*(0+1*x^0);grind)
  (λx=>by rw [qW (fV zc) ψ];show _=FF (bQ c) x*(0+1*x^0);grind) sq.cop Z Z Z
 have hKH:(((2*(n-1+(n-2))*H)^(n-1+(n-2)):Nat):Rat)<=t2 ((2+a+(a+h1))*(2*n-3)):=(by refine WL ?_;rw [Nat.pow_mul,show n-1+(n-2)=2*n-3 by omega];refine ac5 ?_ _;have e:2*(2*n-3)<=2^(2+a):=ψ;have e2:H<=2^(a+h1):=aGy;rw [Nat.pow_add];exact ac2 e e2);have rU:=IY (u:=U) (m:=n-2-0) (n:=n) (bl:=bl) Z ha (λi=>Eb<|bU i) hKH;have rV:=IY (u:=V) (m:=n-1-0) (n:=n) (bl:=bl) Z ha (λi=>Eb<|bV i) hKH;have rL:=IY (u:=bQ c) (m:=n-1) (n:=n) (bl:=bl) (k:=a+h1) Z ha (λi=>Eb<|bc' i)<|WL aGy;refine⟨λx=>pz U x<|n-2-0,λx=>pz V x<|n-1-0,(z:Rat),ane hz0,λx=>?_,rU.1,rV.1,?_⟩
 ·have h:=Kr x;rw [qW zc ψ,qW (fV zc) ψ] at h;rw [h];show(z:Rat)*(0+1*x^0)=z;grind
 ·have e:(λx=>pz (bQ c) x<|n-1)=FF (bQ c):=funext λx=>qW (fV zc) hz' x;grind
def ZB(zc:bK c)(zd:bK d)(hc:lg c≠0)(hd:lg d≠0):∃γ k1 k2:Nat->Int,bK γ/\lg γ≠0/\dM γ (lg γ)=1/\bK k1/\bK k2/\(∀i,bW k1 γ i=c i)/\(∀i,bW k2 γ i=d i)/\lg γ<=lg c/\lg γ<=lg d/\H6 (FF k1) (FF k2)/\(∀x,FF c x=FF k1 x*FF γ x)/\∀x,FF d x=FF k2 x*FF γ x:=by
  have⟨D,u,v,s,t,pD,pu,pv,ps,pt,h1,h2,h3⟩:=NR 20 (FF c) (FF d) (dG zc) ⟨rc d,xR zd,λ_=>rfl⟩;have hD:∃x,D x≠0:=by
    have⟨x,hx⟩:=uz zc hc;refine⟨x,λe=>hx ?_⟩;rw [h2,e,Rat.mul_zero]
  have⟨k,α,hk⟩:=nP pD hD;have hkc:=Dv.deg ⟨s,ps,h2⟩ hk (xX zc hc);have hlc:=dN c;have⟨q,hq1,hq2,hq3,hq⟩:=hk;have⟨m,w,hm,hw,e⟩:=I7 (q:=q) (k:=k+1) λi hi=>hq1 i Z
  have zw:bK w:=λi hi=>hw i Z
  have hm0 : (m : Rat) ≠ 0 := by have : (0 : Rat)<(m : Rat) := by exact_mod_cast hm
                                 grind
  have hFw:∀x,FF w x=D x*(m:Rat):=λx=>by
    rw [<- qW zw hw,hq x];show pe (rc w) x (k+1)=_
    rw [<- vZ];exact oU λi _=>e i
  have hw0:lg w≠0:=λe0=>by
    have⟨x,hx⟩:=hD;have:=(nT zw).1 e0 x;grind
  have⟨σ,hσ,hFp⟩:=rC zw hw0;have pm:=wu zw hw0;have zγ:=jH zw;obtain⟨γ,hγ⟩:∃γ,γ=aW w:=⟨_,rfl⟩
  rw [<- hγ] at hFp pm zγ;have hDγ:∀x,D x=σ/(m:Rat)*FF γ x:=λx=>by
    have h4:=hFp x;rw [hFw] at h4;have:D x=D x*(m:Rat)/(m:Rat):=ψ
    rw [this,h4];grind
  have ec:∀x,FF c x=(s x*(σ/(m:Rat)))*FF γ x:=λx=>by rw [h2 x,hDγ x];grind
  have ed:∀x,FF d x=(t x*(σ/(m:Rat)))*FF γ x:=λx=>by rw [h3 x,hDγ x];grind
  have⟨k1,n1,z1,c1,e1⟩:=qp zc.lg zγ.lg pm.one (ps.qN (σ/(m:Rat))) (λx=>by rw [jU zc,jU zγ];grind);have⟨k2,n2,z2,c2,e2⟩:=qp zd.lg zγ.lg pm.one (pt.qN (σ/(m:Rat))) (λx=>by rw [jU zd,jU zγ];grind);have y1:=PW zγ zc pm.pos z1 c1;have y2:=PW zγ zd pm.pos z2 c2;have f1:∀x,FF k1 x=s x*(σ/(m:Rat)):=λx=>by rw [<- qW y1 z1];exact e1 x
  have f2:∀x,FF k2 x=t x*(σ/(m:Rat)):=λx=>by rw [<- qW y2 z2];exact e2 x
  have g1:∀x,FF c x=FF k1 x*FF γ x:=λx=>by rw [f1];exact ec x
  have g2:∀x,FF d x=FF k2 x*FF γ x:=λx=>by rw [f2];exact ed x
  refine⟨γ,k1,k2,zγ,pm.pos,pm.one,y1,y2,c1,c2,(oO zc zγ hc ⟨_,dG y1,g1⟩).2,(oO zd zγ hd ⟨_,dG y2,g2⟩).2,?_,g1,g2⟩;have hne:=uz zγ pm.pos;have hτ:σ/(m:Rat)≠0:=λh=>by
    have:σ=σ/(m:Rat)*(m:Rat):=ψ
    rw [h,Rat.zero_mul] at this;exact hσ this
  refine⟨λx=>u x*((m:Rat)/σ),λx=>v x*((m:Rat)/σ),pu.qN _,pv.qN _,λx=>?_⟩;refine qg (dG zγ) hne (((pu.qN ((m:Rat)/σ)).mul (dG y1)).add ((pv.qN ((m:Rat)/σ)).mul (dG y2))) (dh 1) (λx=>?_) x;grind
def asX{γ k1 k2:Nat->Int}(zc:bK c)(zd:bK d)(zγ:bK γ)(y1:bK k1)(y2:bK k2)(hc2:2<=lg c)(hd2:2<=lg d)(hγ0:lg γ≠0)(pm:dM γ (lg γ)=1)(c2:∀i,bW k2 γ i=d i)(hγc:lg γ<=lg c)(hγd:lg γ<=lg d)(hne:lg γ<lg c\/lg γ<lg d)(cop:H6 (FF k1) (FF k2))(g1:∀x,FF c x=FF k1 x*FF γ x)(g2:∀x,FF d x=FF k2 x*FF γ x) 
  {hm:Nat} (hc:∀i,(c i).natAbs<=2^hm) (hd:∀i,(d i).natAbs<=2^hm) (hdd:∀i,(d i).natAbs<=2^h2) (bl a a2 N:Nat) (hN:N=lg c+lg d) (ha:N<=2^a) (ha2:lg d<=2^a2):
  ∃(U V:Fn) (z:Rat),(1<=z\/z<=-1)/\(∀x,U x*FF k1 x+V x*FF k2 x=z)/\(∀x,In (t2 bl) x->Ab (U x) (t2 (3*a+bl*N+(1+a+hm)*(N-2))))/\(∀x,In (t2 bl) x->Ab (V x) (t2 (3*a+bl*N+(1+a+hm)*(N-2))))/\Xl (t2 bl) (FF k2) (t2 (3*a2+bl*lg d+(a2+(h2+(1+a2)*lg d)+(4+a2)*lg d))):=by
 obtain⟨n1,e1⟩:∃n,n=lg c:=ψ;obtain⟨n2,e2⟩:∃n,n=lg d:=ψ;obtain⟨r,er⟩:∃r,r+1=lg γ:=⟨lg γ-1,by omega⟩;rw [<-e1] at hc2 hγc hne hN;rw [<-e2] at hd2 hγd hne hN ha2 ⊢;rw [<-er] at hγc hγd hne pm;have hz1:∀i,n1<=i->c i=0:=(by rw [e1];exact zc.lg);have hz2:∀i,n2<=i->d i=0:=(by rw [e2];exact zd.lg);have hzγ:∀i,r+1<=i->γ i=0:=(by rw [er];exact zγ.lg);have t1:c (n1-1)≠0:=(by rw [e1];exact nD Z);have t2':d (n2-1)≠0:=(by rw [e2];exact nD Z);have t3:γ r≠0:=(by have:=nD (c:=γ) Z;grind);have hp:=ae1 hm;have⟨U,V,z,hz0,hU0,hV0,bU,bV,Kr⟩:=Zd (c:=c) (c':=d) (γ:=γ) (d:=n1-1) (e:=n2-1) (r:=r) (H:=2^hm) (k1:=FF k1) (k2:=FF k2) ψ ψ aCy t1 t2' t3 pm Z ψ ψ (dG y1) (dG y2)
  (λx=>by rw [qW zc ψ,qW zγ hzγ];exact g1 x)
  (λx=>by rw [qW zd ψ,qW zγ hzγ];exact g2 x) cop Z Z Z
 have hKH:(((2*(n1-1+(n2-1))*2^hm)^(n1-1+(n2-1)):Nat):Rat)<=t2 ((1+a+hm)*(N-2)):=(by refine WL ?_;rw [Nat.pow_mul,show n1-1+(n2-1)=N-2 by omega];refine ac5 ?_ _;have e:2*(N-2)<=2^(1+a):=ψ;rw [Nat.pow_add (m:=1+a)];exact ac2 e (aav _));have rU:=IY (u:=U) (m:=n2-1-r) (n:=N) (bl:=bl) Z ha (λi=>Eb (bU i)) hKH;have rV:=IY (u:=V) (m:=n1-1-r) (n:=N) (bl:=bl) Z ha (λi=>Eb (bV i)) hKH;have auj:∀i,n2<=i->k2 i=0:=λi hi=>(by have h5:=oO zd y2 Z ⟨FF γ,dG zγ,λx=>by grind⟩;exact y2.lg i Z);have hcc:∀i,bW γ k2 i=d i:=λi=>(by rw [<-c2 i];exact Dt _ _ i);have ay2:=aeQ (a:=d) (b:=k2) (w:=γ) (n:=n2) (k:=r+1) (H:=t2 h2) (i0:=n2-1) hz2 t2' Z auj hzγ hcc (by have:=jr h2;grind) (λi=>Eb (H:=2^h2) ψ);have hn2:(n2:Rat)<=t2 a2:=WL ha2;have hn20:=jS n2;have hkb:(n2:Rat)*(t2 h2*(2*(n2:Rat))^n2)*(10*(n2:Rat))^n2<=t2 (a2+(h2+(1+a2)*n2)+(4+a2)*n2):=(by have q1:(2*(n2:Rat))^n2<=t2 ((1+a2)*n2):=(by rw [<-Ua];exact aaW ψ (by rw [lN];have:t2 1=2:=O;rw [this];grind) n2);have q2:(10*(n2:Rat))^n2<=t2 ((4+a2)*n2):=(by rw [<-Ua];exact aaW ψ (by rw [lN];have:t2 4=16:=O;rw [this];grind) n2);have p1:=Tt (x:=2*(n2:Rat)) ψ n2;have p2:=Tt (x:=10*(n2:Rat)) ψ n2;exact Fj (Fj hn2 (Fj ψ q1 p1) (acK (by have:=jr h2;grind) p1)) q2 p2);have rL:=IY (u:=k2) (m:=n2) (n:=n2) (bl:=bl) Z ha2 ay2 hkb;have hne':=uz zγ hγ0;refine⟨λx=>pz U x (n2-1-r),λx=>pz V x (n1-1-r),(z:Rat),ane hz0,λx=>?_,rU.1,rV.1,?_⟩
 ·refine qg (dG zγ) hne' (((agC (c:=U) hU0).mul (dG y1)).add ((agC (c:=V) hV0).mul (dG y2))) (dh (z:Rat)) (λx=>?_) x;have h:=Kr x;rw [qW zc ψ,qW zd ψ,qW zγ hzγ,g1 x,g2 x] at h;show FF γ x*(pz U x (n2-1-r)*FF k1 x+pz V x (n1-1-r)*FF k2 x)=FF γ x*(z:Rat);grind
 ·have e:(λx=>pz k2 x n2)=FF k2:=funext λx=>qW y2 auj x;grind
def aji{n1 n2 hl:Nat}(a1:2<=n1)(a2:n1<=20)(a3:2<=n2)(b1:hl<=h1)(b2:hl<=h2):(3*(n1/2+1)+(hl+2)*n1+(2+(n1/2+1)+((n1/2+1)+h1))*(2*n1-3))+(3*(n1/2+1)+(hl+2)*n1+((n1/2+1)+h1))<20+2*(n1+n2)*(h1+h2+(n1+n2)+8):=by have hm:2*(n1+2)*(h1+hl+(n1+2)+8)<=2*(n1+n2)*(h1+h2+(n1+n2)+8):=ac2 Z Z;refine acI ?_<|ano hm 20;have h:n1=2\/n1=3\/n1=4\/n1=5\/n1=6\/n1=7\/n1=8\/n1=9\/n1=10\/n1=11\/n1=12\/n1=13\/n1=14\/n1=15\/n1=16\/n1=17\/n1=18\/n1=19\/n1=20:=Z;rcases h with rfl|rfl|rfl|rfl|rfl|rfl|rfl|rfl|rfl|rfl|rfl|rfl|rfl|rfl|rfl|rfl|rfl|rfl|rfl <;> omega
def ath{n1 n2 hl:Nat}(a1:2<=n1)(a2:n1<=20)(a3:2<=n2)(a4:n2<=20)(b1:hl<=h1)(b2:hl<=h2)(b3:hl=h1\/hl=h2):(3*((n1+n2)/2+1)+(hl+2)*(n1+n2)+(1+((n1+n2)/2+1)+max h1 h2)*((n1+n2)-2))+(3*(n2/2+1)+(hl+2)*n2+((n2/2+1)+(h2+(1+(n2/2+1))*n2)+(4+(n2/2+1))*n2))<20+2*(n1+n2)*(h1+h2+(n1+n2)+8):=by have h:n1=2\/n1=3\/n1=4\/n1=5\/n1=6\/n1=7\/n1=8\/n1=9\/n1=10\/n1=11\/n1=12\/n1=13\/n1=14\/n1=15\/n1=16\/n1=17\/n1=18\/n1=19\/n1=20:=Z;have h':n2=2\/n2=3\/n2=4\/n2=5\/n2=6\/n2=7\/n2=8\/n2=9\/n2=10\/n2=11\/n2=12\/n2=13\/n2=14\/n2=15\/n2=16\/n2=17\/n2=18\/n2=19\/n2=20:=Z;rcases h with rfl|rfl|rfl|rfl|rfl|rfl|rfl|rfl|rfl|rfl|rfl|rfl|rfl|rfl|rfl|rfl|rfl|rfl|rfl <;> rcases h' with rfl|rfl|rfl|rfl|rfl|rfl|rfl|rfl|rfl|rfl|rfl|rfl|rfl|rfl|rfl|rfl|rfl|rfl|rfl <;> omega
def iI(hL:L<=1000000:=by omega)(hM:M<=1000000:=by omega):aH prog 276 [.j<|[.a 2 (lg c)<|aX K c]++tn L lo++tn M hi]<|.d<|.o<|.v<|.bool<|decide<|hi<=lo:=by exact aN 9 [.tmp 2] func276 O<|cR<|mO O<|mW O<|I<|cR<|mE 4 O<|mY jI O<|mV aj (.d<|.o<|.v<|.bool<|decide<|hi<=lo) aGd<|mW O<|I<|aQ<|rQ O aCo
abbrev aBV(K:Nat)(c:Nat->Int):=bP K (lg c) c
def ar7(hz:bK c)(hK:K<=10000000-2:=by omega)(hL:L<=1000000:=by omega):aH prog 307 [.o<|aBV K c,.j<|tn L t]<|dI<|yZ (FF c) (FF<|bQ c) t:=by have hlc:=dN c;have hld:=ny (bQ c)<|lg c-1;refine aN 16 [.tmp 4] func307 O<|cR<|mO O<|mW O<|I<|au<|cR<|mE 2 O<|mY (tY aFy hz) O<|mW O<|I<|au ?_;by_cases h0:gI (FF c t)=0;exact aA<|mW O<|mbF O (by rw [h0];rfl)<|I<|cFs O<|au<|cDk 5<|oV O<|oC (UH aFy (M:=(K+2))) O<|oV O<|oC (tY (iQ (c:=(bQ c))<|jG<|vT<|bK.lg hz)<|fV hz) O<|oV O<|.nil<|I<|aQ<|rQ O<|aJ<|(QD h0).symm;exact aA<|mW O<|mbT O (af0.2 h0)<|I<|cT O<|cR<|mE 2 O<|I<|aQ<|tR<|rQ O<|aJ<|(BF h0).symm
def OD(c:Nat->Int)(lo hi:Rat):Bool:=decide<|gI (FF c hi)=0\/gI (FF c hi)≠yZ (FF c) (FF<|bQ c) lo
def abR(h:gI (FF c hi)=0):OD c lo hi=true:=ac3<|Or.inl h
def ajv(h:gI (FF c hi)≠0):OD c lo hi=(gI (FF c hi) !=yZ (FF c) (FF<|bQ c) lo):=by unfold OD;grind
def anz(hz:bK c)(hK:K<=10000000-2:=by omega)(hL:L<=1000000:=by omega)(hM:M<=1000000:=by omega):aH prog 279 [.o<|aBV K c,.j<|tn L lo,.j<|tn M hi]<|.d<|.o<|.v<|.bool<|OD c lo hi:=by have hlc:=dN c;refine aN 20 [.tmp 6] func279 O<|cR<|mO O<|mO O<|mW O<|I<|cR<|mE 2 O<|mY (tY aFy hz) O<|mW O<|I<|au ?_;by_cases h0:gI (FF c hi)=0;exact aA<|mW O<|mbT O (acW.2 h0)<|mW O<|mG O O<|mG O O<|mG O O<|mG O O<|mG O O<|mE 2 O<|I<|aQ<|rQ O<|gG<|(abR h0).symm;exact aA<|mW O<|mbF O (acz.2 h0)<|mE 4 O<|mY (ar7 hz) O<|mE 3 O<|I<|aQ<|rQ O<|gG<|(ajv h0).symm
def Qm(hz:bK c)(hK:K<=10000000:=by omega)(hL:L<=1000000:=by omega)(hM:M<=1000000:=by omega):aH prog 275 [.j<|[.a 2 (lg c)<|aX K c]++tn L lo++tn M hi]<|.d<|.j<|[.a 2 (lg c)<|aX K c]++tn L lo++tn M hi:=by have hlc:=dN c;have hd:dg c (lg c)=lg c:=iK hz.lg hz;exact aN 13 [.cell 2 90] func275 O<|cR<|mO O<|mO O<|I<|au<|cDk 10<|oE 2 O<|oC (kP aFy) O<|oE 2 O<|oC x9 O<|oE 2 O<|oC x9 O<|oV O<|.nil<|mZ O<|I<|aQ<|rQ O (by rw [hd];exact AV.le.rfl)
def JL(hA:AQ c lo hi)(hK:K<=10000000-2:=by omega)(hL:L<=1000000:=by omega)(hM:M<=1000000:=by omega)(hN:N<=1000000:=by omega):aH prog 277 [.j<|[.a 2 (lg c)<|aX K c]++tn L lo++tn M hi,.j<|tn N t]<|dI<|dU (eP c lo hi)<|fC t:=by have hlc:=dN c;refine aN 40 [.tmp 4] func277 O<|cR<|mO O<|mO O<|mW O<|I<|au<|aK<|cR<|mW O<|mY iI O<|mW O<|I<|bI O (λhc1=>?_) (λhc1=>?_);exact cR<|mE 3 O<|mY jI O<|mW O<|I<|aQ<|bR<|tR<|rQ O (aJ<|by rw [hA.rat t,if_pos<|of_decide_eq_true hc1]);refine cR<|mE 3 O<|mY jI O<|mE 2 O<|I<|bI O (λhc2=>?_) (λhc2=>?_);exact cR<|mW O<|I<|aQ<|bR<|tR<|rQ O (aJ<|by rw [hA.rat t,if_neg<|of_decide_eq_false hc1,if_pos<|iH.1<|of_decide_eq_true hc2]);refine cR<|mE 3 O<|mY jI O<|mE 2 O<|I<|bI O (λhc3=>?_) (λhc3=>?_);exact cR<|mW O<|I<|aQ<|bR<|tR<|rQ O (aJ<|by rw [hA.rat t,if_neg<|of_decide_eq_false hc1,if_neg<|λh=>(of_decide_eq_false hc2)<|iH.2 h,if_pos<|Rat.not_le.1<|λh=>Int.not_lt.2 (iH.2 h)<|of_decide_eq_true hc3]);refine aO<|bN<|tN<|cR<|mE 3 O<|mY (tY (iQ (c:=c)<|bK.lg hA.z) hA.z) O<|mW O<|I<|au<|aK<|cR<|mE 3 O<|I<|bI O (λhc4=>?_) (λhc4=>?_);exact cR<|mW O<|I<|aQ<|bR<|tR<|rQ O (aJ<|by rw [hA.rat t,if_neg<|of_decide_eq_false hc1,if_neg<|λh=>(of_decide_eq_false hc2)<|iH.2 h,if_neg aD8,if_pos<|beq_iff_eq.1 hc4]);refine cR<|mE 5 O<|mY (ar7 hA.z) O<|mE 2 O<|I<|bI O (λhc5=>?_) (λhc5=>?_);exact cR<|mW O<|I<|aQ<|bR<|tR<|rQ O (aJ<|by rw [hA.rat t,if_neg<|of_decide_eq_false hc1,if_neg<|λh=>(of_decide_eq_false hc2)<|iH.2 h,if_neg aD8,if_neg<|beq_eq_false_iff_ne.1 hc4,if_pos<|beq_iff_eq.1 hc5]);exact aO<|bN<|tN<|cR<|mW O<|I<|aQ<|rQ O (aJ<|by rw [hA.rat t,if_neg<|of_decide_eq_false hc1,if_neg<|λh=>(of_decide_eq_false hc2)<|iH.2 h,if_neg aD8,if_neg<|beq_eq_false_iff_ne.1 hc4,if_neg<|beq_eq_false_iff_ne.1 hc5])
def jg.cut{ms:List Lf}:∀{ls:List Lf}{cs:List Value},jg B w (ls++ms) cs->∃c1 c2,cs=c1++c2/\jg B w ls c1/\jg B w ms c2
 |[],cs,h=>⟨[],cs,O,trivial,h⟩
 |l::ls,c::cs,h=>by
  have⟨c1,c2,e,h1,h2⟩:=jg.cut (ls:=ls) (cs:=cs) h.2;exact⟨c::c1,c2,by rw [e];rfl,⟨h.1,h1⟩,h2⟩
 |_::_,[],h=>h.elim
def Cc{a b a' b':List Lf}(ha:∀B w cs,jg B w a cs->jg B w a' cs)(hb:∀B w cs,jg B w b cs->jg B w b' cs):∀B w cs,jg B w (a++b) cs->jg B w (a'++b') cs:=λB w cs h=>by
 have⟨c1,c2,e,h1,h2⟩:=h.cut;rw [e];exact(ha _ _ _ h1).app ψ
abbrev Xu(K:Nat)(c:Nat->Int)(L:Nat)(lo:Rat)(M:Nat)(hi:Rat):List Lf:=[bP K (lg c) c]++tn L lo++tn M hi
def Jh(z:bK c){cs:List Value}(h:jg B w (Xu K c L lo M hi) cs):Lb K c/\Tb L lo/\Tb M hi:=by have⟨c1,c2,e,h1,h2⟩:=h.cut;have⟨c3,c4,e,h3,h4⟩:=h1.cut;refine⟨?_,Oa h4,Oa h2⟩;match c3,h3 with|[v],h3=>exact KI z.lg h3.1
def adR{K':Nat}(hb:Lb K' c)(h1:Tb L' lo)(h2:Tb M' hi):AV.le (.d<|.j<|Xu K c L lo M hi)<|.d<|.j<|Xu K' c L' lo M' hi:=
 lV (Cc (Cc (λB w cs h=>match cs,h with
  |[v],⟨h,_⟩=>⟨Aa (λi _=>hb i) B w v h,Pe⟩)<|oZ h1)<|oZ h2)
def JO(h1:Tb L' lo)(h2:Tb M' hi):AV.le (.d<|.j<|Xu K c L lo M hi)<|.d<|.j<|Xu K c L' lo M' hi:=
 lV (Cc (Cc ψ<|oZ h1)<|oZ h2)
def Ea(hA:AQ c lo hi)(hT1:Tb X (hlf c lo hi).1)(hT2:Tb X (hlf c lo hi).2)(hK:K<=10000000-2:=by omega)(hL:L<=100000:=by omega)(hM:M<=100000:=by omega):aH prog 310 [.j<|[.a 2 (lg c)<|aX K c]++tn L lo++tn M hi]<|.d<|.j<|[.a 2 (lg c)<|aX K c]++tn X ((hlf c lo hi).1)++tn X ((hlf c lo hi).2):=by have hlc:=dN c;refine aN 28 [.cell 2 90] func310 O<|cR<|mO O<|mO O<|I<|au<|cR<|mW O<|mY iI O<|I<|bI O (λhc1=>?_) (λhc1=>?_);exact cR<|mW O<|mZ O<|I<|aQ<|tR<|rQ O (by have e:hlf c lo hi=(lo,hi):=by {unfold hlf;rw [if_pos<|of_decide_eq_true hc1]};exact awU);refine aO<|tN<|cR<|mE 4 O<|mY alE O<|mO O<|mZ O<|I<|au<|cR<|mE 2 O<|mY (JL hA) O<|I<|aK<|cR<|mE 2 O<|I<|bI O (λhc2=>?_) (λhc2=>?_);exact cDs 6<|pV O<|pV O<|pV O<|.cons (aC.S 1 (.b 90<|[.a 2 (lg c)<|aX K c]++tn (max L 2+1+(max M 2+1)+4) ((lo+hi)/2)++tn M hi) O O) ξ<|pV O<|.cons (aC.S 1 (.b 90<|[.a 2 (lg c)<|aX K c]++tn (max L 2+1+(max M 2+1)+4) ((lo+hi)/2)++tn (max L 2+1+(max M 2+1)+4) ((lo+hi)/2)) O O) ξ<|.nil<|ak<|bN<|tN<|cR<|mW O<|mZ O<|I<|aQ<|rQ O (by have e:hlf c lo hi=(((lo+hi)/2),((lo+hi)/2)):=by {unfold hlf;rw [if_neg<|of_decide_eq_false hc1,if_pos<|beq_iff_eq.1 hc2]};exact awU);refine cR<|mE 2 O<|I<|bI O (λhc3=>?_) (λhc3=>?_);exact aA<|mE 2 O<|mZ O<|ak<|bN<|tN<|cR<|mW O<|mZ O<|I<|aQ<|rQ O (by have e:hlf c lo hi=(lo,((lo+hi)/2)):=by {unfold hlf;rw [if_neg<|of_decide_eq_false hc1,if_neg<|beq_eq_false_iff_ne.1 hc2,if_pos<|beq_iff_eq.1 hc3]};exact awU);exact aA<|mE 2 O<|mZ O<|ak<|bN<|tN<|cR<|mW O<|mZ O<|I<|aQ<|rQ O (by have e:hlf c lo hi=(((lo+hi)/2),hi):=by {unfold hlf;rw [if_neg<|of_decide_eq_false hc1,if_neg<|beq_eq_false_iff_ne.1 hc2,if_neg<|beq_eq_false_iff_ne.1 hc3]};exact awU)
def oh(h:Tb K q)(k:K<=L):Tb L q:=⟨acI h.1<|acC φ k,acI h.2<|acC φ k⟩
structure Dz(L J:Nat)(p q:Rat):Prop where
 e:∃D R,D≠0/\D<dF^(L+L)/\R<=dF^L/\Dy D R J p/\Dy D R J q
def Gg(h:Tb L p)(k:Tb L q):Dz L 0 p q:=by have hp:=p.den_pos;have hq:=q.den_pos;refine⟨p.den*q.den,max p.num.natAbs q.num.natAbs,Nat.ne_of_gt<|ahW hp hq,?_,?_,Gf Z,?_⟩;rw [Nat.pow_add];exact Nat.mul_lt_mul'' h.2 k.2;have:=h.1;have:=k.1;omega;rw [Nat.mul_comm];exact Gf Z
def Dz.mono{J':Nat}(h:Dz L J p q)(k:J<=J'):Dz L J' p q:=let ⟨D,R,a,b,c,d,e⟩:=h.e;⟨D,R,a,b,c,d.mono k,e.mono k⟩
def Dz.tb(h:Dz L J p q)(hX:3*L+J/32+1<=X):Tb X p/\Tb X q:=by have⟨D,R,a,b,c,d,e⟩:=h.e;exact⟨oh (d.tb a b c) Z,oh (e.tb a b c) Z⟩
def Dz.hlf(h:Dz L J p q):Dz L (J+1) (hlf c p q).1 (hlf c p q).2:=by have⟨D,R,a,b,c',d,e⟩:=h.e;exact⟨D,R,a,b,c',(afd d e).1,(afd d e).2⟩
def QE{t:TypeId}(h1:Tb L' lo)(h2:Tb M' hi):AO.le (.b t<|Xu K c L lo M hi)<|.b t<|Xu K c L' lo M' hi:=
 xu (Cc (Cc ψ<|oZ h1)<|oZ h2)
def yK(h:m<dF^K):bY m<=32*K:=jM (by rw [show dF=2^32 from O,<-Nat.pow_mul] at h;exact h)
def CY(c:Nat->Int):Nat->Nat
 |0=>0
 |n+1=>max (CY c n)<|bY (c n).natAbs
def Ag(h:Lb K c):∀n,CY c n<=32*K
 |0=>abJ _
 |n+1=>Nat.max_le.2 ⟨Ag h n,yK<|h n⟩
def aaX:∀{n i:Nat},i<n->bY (c i).natAbs<=CY c n
 |n+1,i,h=>by
  show _<=max (CY c n) (bY (c n).natAbs)
  by_cases e:i=n
  ·grind
  ·exact acL (aaX Z)<|amm _ _
def YZ(hz:bK c)(hn:n=lg c)(hK:K<=10000000:=by omega):aH prog 327 [.o<|bP K n c]<|dI ((CY c (lg c):Nat):Int):=by subst hn;have hlc:=dN c;refine aN 19 [.tmp 2] func327 O<|cR<|mW O<|I<|cR<|mW O<|I<|au<|cR<|mE 3 O<|I<|aK<|dL (ι:=Nat) (λi=>⟨19,[(6,.d<|.o<|.a 2 (lg c)<|aX K c),(7,dI ((lg c:Nat):Int)),(8,dI (i:Int)),(3,dI ((CY c i:Nat):Int))],[]⟩) (λi=>i<=lg c) (λi=>lg c-i) 0 (abJ _) (wkv [3] [] aCk trivial O O) ?_;rintro i hi;refine cR<|mW O<|I<|au<|bI O (λhc1=>?_) (λhc1=>?_);refine aO<|tN<|au<|aK<|au ?_;have hin:i<lg c:=aCb;refine aA<|mV aj _ (xjh O O O O O O Z)<|mW O<|mO O<|mZ O<|I<|aA<|mE 3 O<|mY (xG<|isl K<|Int.natAbs<|c i) O<|mV aj (dI ((CY c (i+1):Nat):Int)) (fK<|by rw [if_pos O];show _=((max (CY c i) (bY (c i).natAbs):Nat):Int);split <;> omega) ?_;exact mW O<|ak<|bN<|tN<|aA<|mE 2 O<|ak<|⟨(i+1),by have h0:=abd hc1;omega,by have h0:=abd hc1;omega,wkv [2] [] aCf trivial O O⟩;exact bZ<|tE<|tE<|bE<|tN<|cR<|mE 2 O<|I<|aQ<|rQ O (aJ<|by have h0:=aa1 hc1;rw [show i=lg c by omega])
def qV(c:Nat->Int)(lo hi:Rat)(d:Nat->Int)(p q:Rat):Nat:=64+2*(bY lo.num.natAbs+bY hi.num.natAbs+bY p.num.natAbs+bY q.num.natAbs)+4*(lg c+lg d)*(CY c (lg c)+CY d (lg d)+(lg c+lg d)+8)
def anW{K2 L2 M2:Nat}(zc:bK c)(zd:bK d)(hK:K<=10000000)(hL:L<=1000000)(hM:M<=1000000)(hK2:K2<=10000000)(hL2:L2<=1000000)(hM2:M2<=1000000):aH prog 308 [.j ([.a 2 (lg c) (aX K c)]++tn L lo++tn M hi),.j ([.a 2 (lg d) (aX K2 d)]++tn L2 p++tn M2 q)] (dI ((qV c lo hi d p q:Nat):Int)):=by
 refine aH.BM (mM func308 O O) (p:=(Lb K c/\Tb L lo/\Tb M hi)/\(Lb K2 d/\Tb L2 p/\Tb M2 q)) (λB w vs h=>match vs,h with|[_,_],⟨⟨cs,_,hl⟩,⟨ds,_,hk⟩,_⟩=>⟨Jh zc hl,Jh zd hk⟩) (λhb=>?_);have hlc:=dN c;have hld:=dN d;have n1:=yK hb.1.2.1.1;have n2:=yK hb.1.2.2.1;have n5:=Ag hb.1.1 (lg c);have n6:=Ag (K:=K2) (c:=d) hb.2.1 (lg d);obtain⟨S,hS⟩:∃S,S=CY c (lg c)+CY d (lg d)+(lg c+lg d)+8:=⟨_,O⟩
 obtain⟨P,hP⟩:∃P,P=4*(lg c+lg d)*S:=⟨_,O⟩
 have hm:P<=160*1000000000:=by rw [hP];exact ac2 Z Z
 have n3:=yK hb.2.2.1.1;have n4:=yK hb.2.2.2.1;exact aN 54 [.tmp 4] func308 O<|cR<|mO O<|mO O<|mW O<|I<|cR<|mE 6 O<|mV aj (dI ((lg c+lg d:Nat):Int)) (fK ((fH Z Z).trans Z))<|mW O<|I<|au<|cDk 24<|oE 4 O<|oC (xG (isl L (Int.natAbs (Rat.num lo)))) O<|oE 4 O<|oC (xG (isl M (Int.natAbs (Rat.num hi)))) O<|.cons (aC.V (dI ((bY lo.num.natAbs+bY hi.num.natAbs:Nat):Int)) (fK ((fH Z Z).trans Z)))<|oE 4 O<|oC (xG (isl L2 (Int.natAbs (Rat.num p)))) O<|.cons (aC.V (dI ((bY lo.num.natAbs+bY hi.num.natAbs+bY p.num.natAbs:Nat):Int)) (fK ((fH Z Z).trans Z)))<|oE 4 O<|oC (xG (isl M2 (Int.natAbs (Rat.num q)))) O<|.cons (aC.V (dI ((bY lo.num.natAbs+bY hi.num.natAbs+bY p.num.natAbs+bY q.num.natAbs:Nat):Int)) (fK ((fH Z Z).trans Z)))<|oV O<|.nil<|I<|au<|cDk 18<|oV O<|.cons (aC.V (dI ((2*(bY lo.num.natAbs+bY hi.num.natAbs+bY p.num.natAbs+bY q.num.natAbs):Nat):Int)) (fK ((fH Z Z).trans Z)))<|.cons (aC.V (dI ((64+2*(bY lo.num.natAbs+bY hi.num.natAbs+bY p.num.natAbs+bY q.num.natAbs):Nat):Int)) (fK ((fH Z Z).trans Z)))<|oV O<|.cons (aC.V (dI ((4*(lg c+lg d):Nat):Int)) (fK ((fH Z Z).trans Z)))<|oE 2 O<|oC (YZ zc O) O<|oE 2 O<|oC (YZ zd O) O<|.cons (aC.V (dI ((CY c (lg c)+CY d (lg d):Nat):Int)) (fK ((fH Z Z).trans Z)))<|oV O<|.cons (aC.V (dI ((CY c (lg c)+CY d (lg d)+(lg c+lg d):Nat):Int)) (fK ((fH Z Z).trans Z)))<|.cons (aC.V (dI (S:Int)) (fK ((fH Z Z).trans Z)))<|.cons (aC.V (dI (P:Int)) (fK aFN))<|.cons (aC.V (dI ((64+2*(bY lo.num.natAbs+bY hi.num.natAbs+bY p.num.natAbs+bY q.num.natAbs)+P:Nat):Int)) (fK ((fH Z Z).trans Z)))<|oV O<|.nil<|I<|aQ<|rQ O (aJ (by unfold qV;rw [<-hS,<-hP]))
def Y1{K2:Nat}(zc:bK c)(zd:bK d)(hK:K<=10000000:=by omega)(hL:L<=1000000:=by omega)(hM:M<=1000000:=by omega)(hK2:K2<=10000000:=by omega):aH prog 308 [.j ([.a 2 (lg c) (aX K c)]++tn L lo++tn M hi),.j ([.a 2 (lg d) (aX K2 d),.v (.bool false),.v aAy,.v (.bool false),.v aAy,.v (.bool false),.v aAy,.v (.bool false),.v aAy])] (dI ((qV c lo hi d 0 0:Nat):Int)):=by
 refine aH.BM (mM func308 O O) (p:=(Lb K c/\Tb L lo/\Tb M hi)/\Lb K2 d) (λB w vs h=>match vs,h with|[_,_],⟨⟨cs,_,hl⟩,⟨ds,_,hk⟩,_⟩=>⟨Jh zc hl,match ds,hk with|_::_,⟨hk,_⟩=>KI zd.lg hk⟩) (λhb=>?_);have hlc:=dN c;have hld:=dN d;have n1:=yK hb.1.2.1.1;have n2:=yK hb.1.2.2.1;have n5:=Ag hb.1.1 (lg c);have n6:=Ag (K:=K2) (c:=d) hb.2 (lg d);obtain⟨S,hS⟩:∃S,S=CY c (lg c)+CY d (lg d)+(lg c+lg d)+8:=⟨_,O⟩
 obtain⟨P,hP⟩:∃P,P=4*(lg c+lg d)*S:=⟨_,O⟩
 have hm:P<=160*1000000000:=by rw [hP];exact ac2 Z Z
 have n3:=EU;exact aN 54 [.tmp 4] func308 O<|cR<|mO O<|mO O<|mW O<|I<|cR<|mE 6 O<|mV aj (dI ((lg c+lg d:Nat):Int)) (fK ((fH Z Z).trans Z))<|mW O<|I<|au<|cDk 24<|oE 4 O<|oC (xG (isl L (Int.natAbs (Rat.num lo)))) O<|oE 4 O<|oC (xG (isl M (Int.natAbs (Rat.num hi)))) O<|.cons (aC.V (dI ((bY lo.num.natAbs+bY hi.num.natAbs:Nat):Int)) (fK ((fH Z Z).trans Z)))<|oE 4 O<|oC (xG Z4) O<|.cons (aC.V (dI ((bY lo.num.natAbs+bY hi.num.natAbs+bY 0:Nat):Int)) (fK ((fH Z Z).trans Z)))<|oE 4 O<|oC (xG Z4) O<|.cons (aC.V (dI ((bY lo.num.natAbs+bY hi.num.natAbs+bY 0+bY 0:Nat):Int)) (fK ((fH Z Z).trans Z)))<|oV O<|.nil<|I<|au<|cDk 18<|oV O<|.cons (aC.V (dI ((2*(bY lo.num.natAbs+bY hi.num.natAbs+bY 0+bY 0):Nat):Int)) (fK ((fH Z Z).trans Z)))<|.cons (aC.V (dI ((64+2*(bY lo.num.natAbs+bY hi.num.natAbs+bY 0+bY 0):Nat):Int)) (fK ((fH Z Z).trans Z)))<|oV O<|.cons (aC.V (dI ((4*(lg c+lg d):Nat):Int)) (fK ((fH Z Z).trans Z)))<|oE 2 O<|oC (YZ zc O) O<|oE 2 O<|oC (YZ zd O) O<|.cons (aC.V (dI ((CY c (lg c)+CY d (lg d):Nat):Int)) (fK ((fH Z Z).trans Z)))<|oV O<|.cons (aC.V (dI ((CY c (lg c)+CY d (lg d)+(lg c+lg d):Nat):Int)) (fK ((fH Z Z).trans Z)))<|.cons (aC.V (dI (S:Int)) (fK ((fH Z Z).trans Z)))<|.cons (aC.V (dI (P:Int)) (fK aFN))<|.cons (aC.V (dI ((64+2*(bY lo.num.natAbs+bY hi.num.natAbs+bY 0+bY 0)+P:Nat):Int)) (fK ((fH Z Z).trans Z)))<|oV O<|.nil<|I<|aQ<|rQ O (aJ (by unfold qV;rw [<-hS,<-hP,show(0:Rat).num.natAbs=0 from O,EU]))
def VC.cut{p:Fn}(h:VC p C)(e:∀q,D q↔C q):VC p D:=fun ε hε q r hq hr=>h ε hε q r ψ ψ
def VC.or{p q:Fn}(hC:dO C)(pp:Po p)(pq:Po q)(h:VC (λx=>p x*q x) C):VC p C\/VC q C:=by rcases KL hC pp with k|⟨s,k⟩;simp_all;rcases KL hC pq with l|⟨t,l⟩;simp_all;exact absurd h λh=>Oy.VY (k.mul hC l) h
def Uf(z:bK c)(hC:dO C)(h:VC (FF c) C)(hne:∃x,FF c x≠0):2<=lg c:=by apply abt;intro hn;by_cases h0:lg c=0;have⟨x,hx⟩:=hne;exact hx<|(nT z).1 h0 x;have⟨κ,hκ,hk⟩:=jo z Z;have⟨q,hq⟩:=hC.lo;have⟨r,hr⟩:=hC.hi;rcases(show κ<0\/0<κ by grind) with k|k;have⟨t,_,_,ht⟩:=h (-κ/2) ψ q r hq hr;rw [hk t] at ht;unfold Ab at ht;grind;have⟨t,_,_,ht⟩:=h (κ/2) ψ q r hq hr;rw [hk t] at ht;unfold Ab at ht;grind
def su(n1 n2 h1 h2:Nat):Nat:=20+2*(n1+n2)*(h1+h2+(n1+n2)+8)
def yR{s l E:Nat}{w:Rat}(h:s+l<E)(hw:0<=w)(hE:w*t2 E<=1):t2 s*(t2 l*w)<1:=by have h1:t2 (s+l+1)<=t2 E:=TY h;have h2:w*t2 (s+l+1)<=w*t2 E:=aaJ h1 hw;rw [lN,lN] at h2;have e:t2 1=2:=O;rw [e] at h2;grind
def sep(zc:bK c)(zd:bK d)(sc:Ja (FF c)<|FF<|bQ c)(sd:Ja (FF d)<|FF<|bQ d)(hc2:2<=lg c)(hd2:2<=lg d)(b1:∀i,(c i).natAbs<=2^h1)(b2:∀i,(d i).natAbs<=2^h2) 
   (hC:dO C) (hD:dO D) (vC:VC (FF c) C) (vD:VC (FF d) D)  (hq:(D q/\¬C q)\/(C q/\¬D q)) (ca:C a) (cb:¬C b) (da:D a) (db:¬D b) (hw:(b-a)*t2 (su (lg c) (lg d) h1 h2)<=1):False:=by have hlc:=dN c;have hld:=dN d;have hab:=hC.nb ca cb;have hw1:b-a<=1:=(by exact axw);obtain⟨hl,ehl⟩:∃hl,hl=min h1 h2:=⟨_,O⟩;have hin:In (t2<|hl+2) a/\In (t2<|hl+2) b:=aDs;by_cases vA:VC (FF c) D;have⟨U,V,z,hz,Kr,hU,hV,hL⟩:=aiZ zc sc hc2 b1 (hl+2) (lg c/2+1) aGH;have hx:=aji (n1:=lg c) (n2:=lg d) (h1:=h1) (h2:=h2) (hl:=hl) hc2 hlc hd2 Z Z;have hs:=yR hx (show 0<=b-a by grind) hw;rcases hq with⟨q1,q2⟩|⟨q1,q2⟩;exact as6;exact as8;by_cases vB:VC (FF d) C;have⟨U,V,z,hz,Kr,hU,hV,hL⟩:=aiZ zd sd hd2 b2 (hl+2) (lg d/2+1) aGH;have hx:=aji (n1:=lg d) (n2:=lg c) (h1:=h2) (h2:=h1) (hl:=hl) hd2 hld hc2 Z Z;have e:20+2*(lg d+lg c)*(h2+h1+(lg d+lg c)+8)=su (lg c) (lg d) h1 h2:=(by unfold su;grind);rw [e] at hx;have hs:=yR hx (show 0<=b-a by grind) hw;rcases hq with⟨q1,q2⟩|⟨q1,q2⟩;exact acn hC hD sd.y8 sd.Xe hz Kr hU hV hL aE7 hin.1 hin.2 hs vB vD ca cb da db q1 q2;exact acn hD hC sd.y8 sd.Xe hz Kr hU hV hL aE7 hin.1 hin.2 hs vD vB da db ca cb q1 q2;have⟨γ,k1,k2,zγ,hγ0,pm,y1,y2,c1,c2,hγc,hγd,cop,g1,g2⟩:=ZB zc zd Z Z;have nγC:¬VC (FF γ) C:=λh=>vB ((h.mul hC<|dG y2).congr λx=>by grind);have nγD:¬VC (FF γ) D:=λh=>vA ((h.mul hD<|dG y1).congr λx=>by grind);have v1:VC (FF k1) C:=aEr;have v2:VC (FF k2) D:=aEs;have ne1:∃x,FF k1 x≠0:=aGU;have l1:=Uf y1 hC v1 ne1;have ayR:lg k1-1+(lg γ-1)=lg c-1:=aD6;have⟨U,V,z,hz,Kr,hU,hV,hL⟩:=asX zc zd zγ y1 y2 hc2 hd2 hγ0 pm c2 hγc hγd Z cop g1 g2 (hm:=max h1 h2) (h2:=h2) (λi=>acL (b1 i)<|acC φ<|amm _ _) (λi=>acL (b2 i)<|acC φ<|alr _ _) b2 (hl+2) ((lg c+lg d)/2+1) (lg d/2+1) (lg c+lg d) O aGH aGH;exact ap4
structure I9(c:Nat->Int)(lo hi:Rat):Prop where
 ok:AQ c lo hi
 sq:Ja (FF c)<|FF<|bQ c
 l2:2<=lg c
 vc:VC (FF c)<|eP c lo hi
def I9.nar(h:I9 c lo hi)(k:Qj c lo hi a b):I9 c a b:=⟨k.ok,h.sq,h.l2,h.vc.cut k.cut⟩
def AQ.below(h:AQ c lo hi)(hq:q<lo):eP c lo hi q:=by by_cases hl:hi<=lo;rw [qF hl];exact hq;rw [lD ψ];exact aw6
def AQ.above(h:AQ c lo hi)(hq:hi<=q):¬eP c lo hi q:=λk=>by
 rcases h.lo_le k with k|k|k <;> grind
def AQ.avd(h:AQ c lo hi)(hq:eP c lo hi q):q<hi:=by rcases h.lo_le hq with k|k|k <;> grind
def bel(lo hi p q:Rat):Prop:=hi<=p/\¬(hi<=lo/\q<=p/\hi=p)
instance {lo hi p q:Rat}:Decidable (bel lo hi p q):=inferInstanceAs (Decidable (_∧_))
def y5(c d:Nat->Int):Nat->Rat->Rat->Rat->Rat->Rat×Rat×Rat×Rat×Int
 |0,lo,hi,p,q=>(lo,hi,p,q,0)
 |n+1,lo,hi,p,q=>if bel lo hi p q then(lo,hi,p,q,-1) else if bel p q lo hi then(lo,hi,p,q,1) else if q-p<=hi-lo then y5 c d n (hlf c lo hi).1 (hlf c lo hi).2 p q else y5 c d n lo hi (hlf d p q).1 (hlf d p q).2
def afe(h:AQ c lo hi)(ht:0<t)(k:(hi-lo)*t<=t2 (i+1)):((hlf c lo hi).2-(hlf c lo hi).1)*t<=t2 i:=by rw [lN] at k;have e:t2 1=2:=O;rw [e] at k;have hp:=jr i;by_cases hl:hi<=lo;have e2:hlf c lo hi=(lo,hi):=if_pos hl;rw [e2];show(hi-lo)*t<=_;have h1:=h.le;grind;have h1:=(zH h).2 ψ;have h2:=abV h1 (show 0<=t by grind);grind
structure ApR(c d:Nat->Int)(lo hi p q:Rat)(s:Int)(r:Rat×Rat×Rat×Rat×Int):Prop where
 a:Qj c lo hi r.1 r.2.1
 b:Qj d p q r.2.2.1 r.2.2.2.1
 sg:r.2.2.2.2=s
 l:s= -1->r.2.1<=r.2.2.1
def Y5(h:AQ c lo hi)(k:AQ d p q)(hb:hi<=p):dU (eP c lo hi) (eP d p q)<=0:=
 (uM h.cut k.cut).2 λt ht=>k.below (by have:=h.avd ht;grind)
def Xw(b1:∀i,(c i).natAbs<=2^h1)(b2:∀i,(d i).natAbs<=2^h2):∀(n i j:Nat) {lo hi p q:Rat},I9 c lo hi->I9 d p q->dU (eP c lo hi) (eP d p q)≠0->i+j<n->(hi-lo)*t2 (su (lg c) (lg d) h1 h2+2)<=t2 i->(q-p)*t2 (su (lg c) (lg d) h1 h2+2)<=t2 j->
  ApR c d lo hi p q (dU (eP c lo hi)<|eP d p q) (y5 c d n lo hi p q)
 |0,_,_,_,_,_,_,_,_,_,h,_,_=>absurd h Z
 |n+1,i,j,lo,hi,p,q,oa,ob,hne,hn,w1,w2=>by
  obtain⟨E,hE⟩:∃E,E=su (lg c) (lg d) h1 h2:=ψ
  rw [<-hE] at w1 w2;have hC:=oa.ok.cut;have hD:=ob.ok.cut;have hbd:=JW (eP c lo hi)<|eP d p q;unfold y5
  by_cases k1:bel lo hi p q
  ·rw [if_pos k1]
   have:=Y5 oa.ok ob.ok k1.1;have e:dU (eP c lo hi) (eP d p q)= -1:=Z
   rw [e];exact⟨Qj.refl oa.ok,Qj.refl ob.ok,O,λ_=>k1.1⟩
  ·rw [if_neg k1]
   by_cases k2:bel p q lo hi
   ·rw [if_pos k2]
    have h3:=Y5 ob.ok oa.ok k2.1;rw [yh hC hD] at h3;have e:dU (eP c lo hi) (eP d p q)=1:=Z
    rw [e];exact⟨Qj.refl oa.ok,Qj.refl ob.ok,O,λh=>absurd h Z⟩
   ·rw [if_neg k2]
    have qR:¬(hi<=lo/\q<=p/\hi=p):=λ⟨a1,a2,a3⟩=>hne (jV λt=>by
     rw [qF a1,qF a2];have:=oa.ok.le;grind)
    have azD:¬(q<=p/\hi<=lo/\q=lo):=λ⟨a1,a2,a3⟩=>qR ⟨a2,a1,by have:=oa.ok.le;have:=ob.ok.le;grind⟩
    have o1:p<hi:=Rat.not_le.1 λh=>k1 ⟨h,qR⟩
    have o2:lo<q:=Rat.not_le.1 λh=>k2 ⟨h,azD⟩
    have big:¬((hi-lo)*t2 (E+2)<=1/\(q-p)*t2 (E+2)<=1):=λ⟨u1,u2⟩=>by
     rw [lN] at u1 u2;have e4:t2 2=4:=O;rw [e4] at u1 u2;have hp:=jr E;obtain⟨θ,hθ⟩:∃θ,θ=1/(2*t2 E):=ψ
     have hθ1:θ*t2 E=1/2:=ψ
     have hθ0:0<θ:=by
      apply abt;intro hn;have:=abV (show θ<=0 by grind) (show 0<=t2 E by grind);grind
     obtain⟨a,ha⟩:∃a,a=(if lo<=p then lo else p)-θ:=ψ
     obtain⟨b,hb⟩:∃b,b=if hi<=q then q else hi:=ψ
     have hlo:a<lo/\a<p:=ψ
     have hhi:hi<=b/\q<=b:=ψ
     have hle1:=oa.ok.le;have hle2:=ob.ok.le;have azr:b-a<=(hi-lo)+(q-p)+θ:=ψ
     have hfin:(b-a)*t2 E<=1:=by
      have:=abV azr (show 0<=t2 E by grind);grind
     have hq:∃t,(eP d p q t/\¬eP c lo hi t)\/(eP c lo hi t/\¬eP d p q t):=by
      apply abt;intro hn;refine hne (jV λt=>⟨λh=>?_,λh=>?_⟩)
      ·simp_all
      simp_all
     have⟨t,ht⟩:=hq;rw [hE] at hfin;exact sep oa.ok.z ob.ok.z oa.sq ob.sq oa.l2 ob.l2 b1 b2 hC hD oa.vc ob.vc ht (oa.ok.below hlo.1) (oa.ok.above hhi.1) (ob.ok.below hlo.2) (ob.ok.above hhi.2) hfin
    have tp:=jr<|E+2
    by_cases hw:q-p<=hi-lo
    ·rw [if_pos hw]
     have hi0:i≠0:=λe=>big ⟨by rw [e] at w1;exact w1,by
      have h3:=abV hw (show 0<=t2 (E+2) by grind);rw [e] at w1;have e1:t2 0=1:=O;grind⟩
     obtain⟨i',rfl⟩:∃i',i=i'+1:=⟨i-1,by omega⟩
     have nr:=(zH oa.ok).1;have ecm:dU (eP c (hlf c lo hi).1 (hlf c lo hi).2) (eP d p q)=dU (eP c lo hi) (eP d p q):=by
      rw [show eP c (hlf c lo hi).1 (hlf c lo hi).2=eP c lo hi from funext λt=>propext<|nr.cut t]
     have ih:=Xw b1 b2 n i' j (oa.nar nr) ob Z Z (by rw [<-hE];exact afe oa.ok tp w1) aCj;rw [ecm] at ih;exact⟨nr.trans ih.a,ih.b,ih.sg,ih.l⟩
    ·rw [if_neg hw]
     have hj0:j≠0:=λe=>big ⟨by
      have h3:=abV (show hi-lo<=q-p by grind) (show 0<=t2 (E+2) by grind);rw [e] at w2;have e1:t2 0=1:=O;grind,by rw [e] at w2;exact w2⟩
     obtain⟨j',rfl⟩:∃j',j=j'+1:=⟨j-1,by omega⟩
     have nr:=(zH ob.ok).1;have ecm:dU (eP c lo hi) (eP d (hlf d p q).1 (hlf d p q).2)=dU (eP c lo hi) (eP d p q):=by
      rw [show eP d (hlf d p q).1 (hlf d p q).2=eP d p q from funext λt=>propext<|nr.cut t]
     have ih:=Xw b1 b2 n i j' oa (ob.nar nr) Z Z aCj (by rw [<-hE];exact afe ob.ok tp w2);rw [ecm] at ih;exact⟨ih.a,nr.trans ih.b,ih.sg,ih.l⟩
def aaY(z:bK c)(i:Nat):(c i).natAbs<=2^CY c (lg c):=by by_cases h:i<lg c;have h1:=Ci (c i).natAbs;exact acL (acQ h1)<|acC φ<|aaX h;rw [z.lg i Z];simp_all
def L6(p q:Rat):q-p<=t2 (bY p.num.natAbs+bY q.num.natAbs+1):=by have h1:=(Gf (p:=p) (q:=q) (R:=2^bY p.num.natAbs)<|acQ<|Ci _).b;have h2:=(Gf (p:=q) (q:=p) (R:=2^bY q.num.natAbs)<|acQ<|Ci _).b;have h3:t2 (bY p.num.natAbs)<=t2 (bY p.num.natAbs+bY q.num.natAbs):=TY Z;have h4:t2 (bY q.num.natAbs)<=t2 (bY p.num.natAbs+bY q.num.natAbs):=TY Z;rw [lN _ 1];have e:t2 1=2:=O;rw [e];have e1:((2^bY p.num.natAbs:Nat):Rat)=t2 (bY p.num.natAbs):=O;have e2:((2^bY q.num.natAbs:Nat):Rat)=t2 (bY q.num.natAbs):=O;rw [e1] at h1;rw [e2] at h2;unfold Ab at h1 h2;grind
def Dh(oa:I9 c lo hi)(ob:I9 d p q)(hne:dU (eP c lo hi) (eP d p q)≠0):ApR c d lo hi p q (dU (eP c lo hi)<|eP d p q)<|y5 c d (qV c lo hi d p q) lo hi p q:=by obtain⟨E,hE⟩:∃E,E=su (lg c) (lg d) (CY c<|lg c) (CY d<|lg d):=ψ;refine Xw (aaY oa.ok.z) (aaY ob.ok.z) _ (bY lo.num.natAbs+bY hi.num.natAbs+1+(E+2)) (bY p.num.natAbs+bY q.num.natAbs+1+(E+2)) oa ob hne ?_ ?_ ?_;rw [hE];unfold qV su;grind;rw [<-hE,lN _<|E+2];exact abV (L6 lo hi) (by have:=jr<|E+2;grind);rw [<-hE,lN _<|E+2];exact abV (L6 p q) (by have:=jr<|E+2;grind)
structure WZ(c d:Nat->Int)(L J f:Nat)(lo hi p q u1 u2 v1 v2:Rat):Prop where
 fl:f<=J
 oa:AQ c u1 u2
 ob:AQ d v1 v2
 da:Dz L (J-f) u1 u2
 db:Dz L (J-f) v1 v2
 e:y5 c d f u1 u2 v1 v2=y5 c d J lo hi p q
def WZ.start(h:AQ c lo hi)(k:AQ d p q)(h1:Tb L lo)(h2:Tb L hi)(h3:Tb L p)(h4:Tb L q):WZ c d L J J lo hi p q lo hi p q:=⟨aav _,h,k,by rw [Nat.sub_self];exact Gg h1 h2,by rw [Nat.sub_self];exact Gg h3 h4,O⟩
def WZ.end_{f:Nat}(h:WZ c d L J f lo hi p q u1 u2 v1 v2)(hf:f=0):y5 c d J lo hi p q=(u1,u2,v1,v2,0):=by rw [<-h.e,hf];rfl
def WZ.lt{f:Nat}(h:WZ c d L J f lo hi p q u1 u2 v1 v2)(hf:f≠0)(hb:bel u1 u2 v1 v2):y5 c d J lo hi p q=(u1,u2,v1,v2,-1):=by obtain⟨g,rfl⟩:∃g,f=g+1:=aEH;rw [<-h.e];exact if_pos hb
def WZ.gt{f:Nat}(h:WZ c d L J f lo hi p q u1 u2 v1 v2)(hf:f≠0)(hb:¬bel u1 u2 v1 v2)(hb2:bel v1 v2 u1 u2):y5 c d J lo hi p q=(u1,u2,v1,v2,1):=by obtain⟨g,rfl⟩:∃g,f=g+1:=aEH;rw [<-h.e];exact(if_neg hb).trans ψ
def WZ.go1{f:Nat}(h:WZ c d L J f lo hi p q u1 u2 v1 v2)(hf:f≠0)(hb:¬bel u1 u2 v1 v2)(hb2:¬bel v1 v2 u1 u2)(hw:v2-v1<=u2-u1):WZ c d L J (f-1) lo hi p q (hlf c u1 u2).1 (hlf c u1 u2).2 v1 v2:=by obtain⟨g,rfl⟩:∃g,f=g+1:=aEH;have hfl:=h.fl;have hd:=h.da.hlf (c:=c);rw [show J-(g+1)+1=J-g by omega] at hd;exact⟨by omega,(zH h.oa).1.ok,h.ob,hd,h.db.mono Z,by rw [<-h.e];exact(((if_neg hb).trans<|if_neg hb2).trans<|if_pos hw).symm⟩
def WZ.go2{f:Nat}(h:WZ c d L J f lo hi p q u1 u2 v1 v2)(hf:f≠0)(hb:¬bel u1 u2 v1 v2)(hb2:¬bel v1 v2 u1 u2)(hw:¬v2-v1<=u2-u1):WZ c d L J (f-1) lo hi p q u1 u2 (hlf d v1 v2).1 (hlf d v1 v2).2:=by obtain⟨g,rfl⟩:∃g,f=g+1:=aEH;have hfl:=h.fl;have hd:=h.db.hlf (c:=d);rw [show J-(g+1)+1=J-g by omega] at hd;exact⟨by omega,h.oa,(zH h.ob).1.ok,h.da.mono Z,hd,by rw [<-h.e];exact(((if_neg hb).trans<|if_neg hb2).trans<|if_neg hw).symm⟩
def aqH(h1:Lb K c)(h2:Lb K d)(a1:Tb L lo)(a2:Tb L hi)(a3:Tb L p)(a4:Tb L q):qV c lo hi d p q<=64+256*L+160*(64*K+48):=by have n1:=yK a1.1;have n2:=yK a2.1;have n3:=yK a3.1;have n4:=yK a4.1;exact arh
section
variable {P:Program} {ops:Array Oper} {Q:Qs} {o:Oper} {l:List Oper} {s:AS}
def pO(hg:jD ops s o=some false)(hd:jQ o.dst s.n=true)(k:AL P ops Q l<|s.put o.dst<|.dY []):AL P ops Q (o::l) s:=by rintro B0 w0 a w ⟨ρ,hc,hn,hdf,hs⟩;unfold wpList;rw [if_neg<|by rw [dZ hg hs];simp_all];exact azv
def mU(hg:gsu ops s o=true)(hd:jQ o.dst s.n=true)(k:AL P ops Q l<|s.put o.dst<|.dY []):AL P ops Q (o::l) s:=by rintro B0 w0 a w ⟨ρ,hc,hn,hdf,hs⟩;unfold wpList;rw [if_neg<|by rw [XR hg hs];simp_all];exact azv
end
structure GI(c d:Nat->Int)(M N i:Nat)(g:Nat->Int):Prop where
 z:bK g
 b:Lb M g
 i0:i=0->∀j,g j=0
 i1:i=1->Idl (λ_=>0) (FF c) (FF g)
 i2:i=2->Idl (FF c) (FF d) (FF g)
 pm:i≠0->lg g≠0/\Pm (lg g) g
 l:lg g<=N
def GI.start:GI c d M N 0 (λ_=>0):=⟨kL,λi=>acZ φ,λ_ _=>rfl,λh=>absurd h Z,λh=>absurd h Z,λh=>absurd O h,by rw [(iM kL).2 λ_=>rfl];omega⟩
def GI.avv{g1:Nat->Int}(h:GI c d (21*K+3) N 0 g)(zc:bK c)(hc:lg c≠0)(hN:N<=10)(Uo:lg c<=N)(hb:Lb K c)(k:rD g c M' g1):GI c d (21*K+3) N 1 g1:=by have⟨l1,l2⟩:=k.le' zc hc;have pm:=k.pm l1;have e:FF g=λ_=>0:=funext λx=>(nT h.z).1 ((iM h.z).2<|h.i0 O) x;have id:=k.OH;rw [e] at id;exact⟨k.z,F9 zc k.z hc Z id.db pm.one hb,λh=>absurd h Z,λ_=>id,λh=>absurd h Z,λ_=>ψ,by omega⟩
def GI.awM{g2:Nat->Int}(h:GI c d (21*K+3) N 1 g)(zc:bK c)(zd:bK d)(hc:lg c≠0)(hd:lg d≠0)(hN:N<=10)(hdN:lg d<=N)(hb:Lb K d)(k:rD g d M' g2):GI c d (21*K+3) N 2 g2:=by have⟨l1,l2⟩:=k.le' zd hd;have pm:=k.pm l1;have id:=h.i1 O;have⟨u,v,pu,pv,huv⟩:=id.cm;have cm1:Ut (FF g) (FF c)<|FF d:=⟨v,λ_=>0,pv,dh 0,λx=>by grind⟩;exact⟨k.z,F9 zd k.z hd Z k.OH.db pm.one hb,λh=>absurd h Z,λh=>absurd h Z,λ_=>⟨k.OH.cm.trans cm1<|Ut.r _ _,k.OH.da.trans id.db,k.OH.db⟩,λ_=>ψ,by omega⟩
def GI.fin(h:GI c d M N 2 g):rD c d M g:=⟨h.z,h.b,h.i2 O,λ_=>(h.pm Z).2⟩
def ab2:AV.le (.d<|.o<|.v<|.slice none 0 0) (.d<|.o<|Oo (GI c d M N 0)<|λg=>bP M (lg g) g):=
 fun ρ B w v h=>Iq (Q:=GI c d M N 0) (λ_=>0) GI.start ρ B w v (II ((iM kL).2 λ_=>rfl) ρ B w v h)
def adr(zc:bK c)(zd:bK d)(hc:lg c≠0)(hd:lg d≠0)(hN:N<=10)(Uo:lg c<=N)(hdN:lg d<=N)(hbc:Lb K c)(hbd:Lb K d)(zG:((21*K+3)+1)*(2*3^N)<=KC)(hC:KC<=90000000):aH prog 278 [.o<|.a 1 2<|λi' j'=>(([.a 2 (lg c)<|aX K c,.a 2 (lg d)<|aX K d])[i'*1+j']?).getD<|.v undef] (.d<|.o<|Oo (rD c d<|21*K+3)<|λg=>bP (21*K+3) (lg g) g):=by have hlc:=dN c;have hld:=dN d;refine aN 17 [.tmp 2] func278 O<|cR<|mW O<|I<|cR<|mW O<|I<|au<|cR<|mE 3 O<|I<|aK<|dL (ι:=Nat) (λi=>⟨17,[(6,.d<|.o<|.a 1 2<|λi' j'=>(([.a 2 (lg c)<|aX K c,.a 2 (lg d)<|aX K d])[i'*1+j']?).getD<|.v undef),(7,dI 2),(8,dI (i:Int)),(3,.d<|.o<|Oo (GI c d (21*K+3) N i)<|λg=>bP (21*K+3) (lg g) g)],[]⟩) (λi=>i<=2) (λi=>2-i) 0 (abJ _) (wkv [3] [] ⟨dW O<|ab2,Pe⟩ trivial O O) ?_;rintro i hi;refine cR<|mW O<|I<|au<|bI O (λhc1=>?_) (λhc1=>?_);refine aO<|tN<|au<|aK<|au ?_;have hi2:i<2:=aCb;by_cases hi0:i=0;obtain rfl:i=0:=Z;refine UR (Qx:=(GI c d (21*K+3) N 0)) 3 O (λg0 hg0=>?_);have hl0:=hg0.l;exact aA<|mE 3 O<|I<|aA<|mE 2 O<|mY (aiK (KC:=KC) (N:=N) (iQ (c:=g0)<|bK.lg hg0.z) (kW.mono aDp Z) hg0.z zc Z Z hN hl0 Z zG hC) O<|mW O<|ak<|bN<|tN<|aA<|mE 2 O<|ak<|⟨(0+1),by omega,by omega,wkv [2,3] [] ⟨dW O aDN,dW O<|eY<|Me λr hr=>⟨r,hg0.avv zc hc hN Uo hbc hr,Aa λi _=>(hg0.avv zc hc hN Uo hbc hr).b i⟩,Pe⟩ trivial O O⟩;obtain rfl:i=1:=Z;refine UR (Qx:=(GI c d (21*K+3) N 1)) 3 O (λg0 hg0=>?_);have hl0:=hg0.l;exact aA<|mE 3 O<|I<|aA<|mE 2 O<|mY (aiK (KC:=KC) (N:=N) (iQ (c:=g0)<|bK.lg hg0.z) (kW.mono aHc Z) hg0.z zd Z Z hN hl0 Z zG hC) O<|mW O<|ak<|bN<|tN<|aA<|mE 2 O<|ak<|⟨(1+1),by omega,by omega,wkv [2,3] [] ⟨dW O aDN,dW O<|eY<|Me λr hr=>⟨r,hg0.awM zc zd hc hd hN hdN hbd hr,Aa λi _=>(hg0.awM zc zd hc hd hN hdN hbd hr).b i⟩,Pe⟩ trivial O O⟩;exact bZ<|tE<|tE<|bE<|tN<|cR<|mE 2 O<|I<|aQ<|rQ O (by have h0:=aa1 hc1;obtain rfl:i=2:=by {omega};exact eY<|Me λr hr=>⟨r,hr.fin,λ_ _ _ h=>h⟩)
def CW(z:bK g)(h:lg g=1)(a b:Rat):kD (FF g) a b:=by have⟨κ,hκ,hk⟩:=jo z h;exact⟨gI κ,λe=>hκ<|gK.1 e,λt _ _=>by rw [hk t]⟩
def ae7:OD c lo hi=true↔(gI (FF c hi)=0\/gI (FF c hi)≠yZ (FF c) (FF<|bQ c) lo):=decide_eq_true_iff
def Gn{w:Fn}(o:Bh (FF c) (FF<|bQ c) lo hi)(zg:bK g)(pw:Po w)(e:∀x,FF c x=FF g x*w x)(h2:2<=lg g)(h1:lo<=a)(h3:b<=hi)(hab:a<b):OD g a b=true↔¬kD (FF g) a b:=by have hs:Ja (FF g)<|FF<|bQ g:=o.sq.dv (dG zg) pw (dG<|fV zg) (ru zg) e;have hne:∃x,FF (bQ g) x≠0:=uz (fV zg) λh=>(by have:=rH zg h;omega);have⟨gg,l,st,_⟩:=hs.stm hne;have⟨N,hN⟩:=qZ st (a:=a) (b:=b) ψ;have k:qQ (FF g) a b N:=⟨gg,l,st,hN⟩;have hle:N<=1:=(by have⟨K1,M1,_,n1,e1⟩:=o.one.split h1 ψ;have⟨K2,M2,n2,_,e2⟩:=n1.split ψ h3;have:=sV o (dG zg) pw e st ψ k n2;omega);rw [ae7,<-QV (ru zg) hab k hle];have h5:=k.free (dG zg) ψ;grind
def Dp(oa:AQ c lo hi)(ob:AQ d p q)(h1:¬hi<=lo)(h2:¬q<=p)(hg:rD c d M g)(hg0:lg g≠0)(ha:a=if lo<p then p else lo)(hb:b=if q<hi then q else hi):
  (a<b->2<=lg g->OD g a b=true->dU (eP c lo hi) (eP d p q)=0)/\((a<b->2<=lg g->OD g a b=false)->dU (eP c lo hi) (eP d p q)≠0):=by have o1:=oa.i' h1;have o2:=ob.i' h2;have e1:=lD (c:=c) (show lo<hi by grind);have e2:=lD (c:=d) (show p<q by grind);have⟨w1,pw1,f1⟩:=hg.OH.da;have⟨w2,pw2,f2⟩:=hg.OH.db;have⟨u,v,pu,pv,huv⟩:=hg.OH.cm;have f1':∀x,FF c x=FF g x*w1 x:=ψ;have f2':∀x,FF d x=FF g x*w2 x:=ψ;have a1:lo<=a:=ψ;have a2:p<=a:=ψ;have b1:b<=hi:=ψ;have b2:b<=q:=ψ;rw [e1,e2];refine⟨λhab hl hh=>jV<|aeo o1 o2 (dG hg.z) pw1 pw2 f1' f2' a1 a2 b1 b2 hab<|(Gn o1 hg.z pw1 f1' hl a1 b1 hab).1 hh,λhh h0=>?_⟩;refine aem o1 o2 (dG hg.z) pw1 pw2 pv pu f1' f2' ψ ψ ψ a1 a2 b1 b2 (λhab=>?_)<|Dk h0;by_cases hl:2<=lg g;apply abt;intro hn;have:=(Gn o1 hg.z pw1 f1' hl a1 b1 hab).2 hn;grind;exact CW hg.z Z a b
def Ic(hA:AQ c lo hi)(hB:AQ d x1 x2)(hX:11*L+320*K+300<=X)(hX1:X<=100000):aH prog 280 [.j<|[.a 2 (lg c)<|aX K c]++tn L lo++tn L hi,.j<|[.a 2 (lg d)<|aX K d]++tn L x1++tn L x2]<|.dY [.j<|[.a 2 (lg c)<|aX K c]++tn X ((y5 c d (qV c lo hi d x1 x2) lo hi x1 x2).1)++tn X ((y5 c d (qV c lo hi d x1 x2) lo hi x1 x2).2.1),.j<|[.a 2 (lg d)<|aX K d]++tn X ((y5 c d (qV c lo hi d x1 x2) lo hi x1 x2).2.2.1)++tn X ((y5 c d (qV c lo hi d x1 x2) lo hi x1 x2).2.2.2.1),.o<|vI<|(y5 c d (qV c lo hi d x1 x2) lo hi x1 x2).2.2.2.2]:=by
 refine aH.BM (mM func280 O O) (p:=(Lb K c/\Tb L lo/\Tb L hi)/\(Lb K d/\Tb L x1/\Tb L x2)) (λB w vs h=>match vs,h with|[_,_],⟨⟨cs,_,hl⟩,⟨ds,_,hk⟩,_⟩=>⟨Jh hA.z hl,Jh hB.z hk⟩) (λhb=>?_);have hJ:=aqH hb.1.1 hb.2.1 hb.1.2.1 hb.1.2.2 hb.2.2.1 hb.2.2.2;refine aN 83 [.cell 4 90,.cell 5 90,.tmp 6] func280 O<|cR<|mO O<|mO O<|mO O<|mO O<|mW O<|I<|au<|cR<|mE 2 O<|mY (anW hA.z hB.z Z Z Z Z Z Z) O<|mW O<|I<|aK<|dL (ι:=Nat×Rat×Rat×Rat×Rat) (λ(p:Nat×Rat×Rat×Rat×Rat)=>match p with|(f,u1,u2,v1,v2)=>⟨83,[(2,.p 2 0),(3,.p 3 0),(4,.p 4 0),(5,.p 5 0),(6,dI 0),(9,dI ((qV c lo hi d x1 x2:Nat):Int)),(10,dI (((qV c lo hi d x1 x2)-f:Nat):Int))],[(2,.b 90<|[.a 2 (lg c)<|aX K c]++tn X u1++tn X u2),(3,.b 90<|[.a 2 (lg d)<|aX K d]++tn X v1++tn X v2),(4,.b 90<|[.v aAy,.v<|.bool false,.v aAy,.v<|.bool false,.v aAy,.v<|.bool false,.v aAy,.v<|.bool false,.v aAy]),(5,.b 90<|[.v aAy,.v<|.bool false,.v aAy,.v<|.bool false,.v aAy,.v<|.bool false,.v aAy,.v<|.bool false,.v aAy])]⟩) (λ(f,u1,u2,v1,v2)=>WZ c d L (qV c lo hi d x1 x2) f lo hi x1 x2 u1 u2 v1 v2) (λ(f,u1,u2,v1,v2)=>f) ((qV c lo hi d x1 x2),lo,hi,x1,x2) (.start hA hB hb.1.2.1 hb.1.2.2 hb.2.2.1 hb.2.2.2) (wkv [6] [0,1] ⟨dW O<|aJ<|by rw [Nat.sub_self];rfl,Pe⟩ ⟨eG O<|QE (oh hb.1.2.1 Z)<|oh hb.1.2.2 Z,eG O<|QE (oh hb.2.2.1 Z)<|oh hb.2.2.2 Z,Pe⟩ O O) ?_;rintro⟨f,u1,u2,v1,v2⟩ hI;have hI:WZ c d L (qV c lo hi d x1 x2) f lo hi x1 x2 u1 u2 v1 v2:=hI;show AW _ _ _ ⟨_,_,_⟩
 refine cR<|mW O<|I<|au<|bI O (λhc1=>?_) (λhc1=>?_)
 ·refine aO<|tN<|au<|aK<|au<|aK<|au ?_;have hf0:f≠0:=aCb;by_cases ka1:u2<=v1;by_cases ka2:u2<=u1;by_cases ka3:v2<=v1;by_cases ka4:u2=v1;have ka:¬bel u1 u2 v1 v2:=λh=>h.2 ⟨ka2,ka3,ka4⟩;refine aA<|mE 4 O<|mY jI O<|mdT O (iH.2 ka1)<|mE 2 O<|mY iI O<|mdT O ka2<|mW O<|mY iI O<|mW O<|mdT O ka3<|mE 4 O<|mY jI O<|mbT O (acW.2<|vw.2 ka4)<|mW O<|mbF O O<|mE 2 O<|I<|cF O<|au ?_;by_cases RQ:v2<=u1;by_cases kb2:u2<=u1;by_cases kb3:v2<=v1;by_cases kb4:v2=u1;have kb:¬bel v1 v2 u1 u2:=λh=>h.2 ⟨kb3,kb2,kb4⟩;refine aA<|mE 4 O<|mY jI O<|mdT O (iH.2 RQ)<|mE 2 O<|mY iI O<|mdT O kb2<|mW O<|mY iI O<|mW O<|mdT O kb3<|mE 4 O<|mY jI O<|mbT O (acW.2<|vw.2 kb4)<|mW O<|mbF O O<|mE 2 O<|I<|cF O<|aO<|bN<|tN<|au<|cDk 12<|oE 4 O<|oC Jd O<|oE 4 O<|oC Jd O<|oC jI O<|.cons (aC.V (.d<|.o<|.v<|.bool<|decide<|v2-v1<=u2-u1) aGd)<|.nil<|I<|bI O (λhc2=>?_) (λhc2=>?_);have h':=hI.go1 hf0 ka kb<|abd hc2;exact rE;have h':=hI.go2 hf0 ka kb<|aa1 hc2;exact abP;have kb:bel v1 v2 u1 u2:=⟨RQ,λh=>kb4 h.2.2⟩;exact aA<|mE 4 O<|mY jI O<|mdT O (iH.2 RQ)<|mE 2 O<|mY iI O<|mdT O kb2<|mW O<|mY iI O<|mW O<|mdT O kb3<|mE 4 O<|mY jI O<|mbF O (acz.2<|λh=>kb4<|vw.1 h)<|mW O<|mbT O O<|mE 2 O<|I<|cT O<|au<|cDs 5<|pV O<|pV O<|.cons (aC.S 4 (.b 90<|[.a 2 (lg c)<|aX K c]++tn X u1++tn X u2) O O) ξ<|.cons (aC.S 5 (.b 90<|[.a 2 (lg d)<|aX K d]++tn X v1++tn X v2) O O) ξ<|pV O<|.nil<|I<|aQ<|bR<|tR<|bR<|tR<|tR<|bR<|tR<|rQ O aC7;have kb:bel v1 v2 u1 u2:=⟨RQ,λh=>kb3 h.1⟩;exact aA<|mE 4 O<|mY jI O<|mdT O (iH.2 RQ)<|mE 2 O<|mY iI O<|mdT O kb2<|mW O<|mY iI O<|mW O<|mdF O kb3<|pO O O<|pO O O<|pO O O<|pO O O<|pO O O<|pO O O<|mW O<|mbT O O<|mE 2 O<|I<|cT O<|au<|cDs 5<|pV O<|pV O<|.cons (aC.S 4 (.b 90<|[.a 2 (lg c)<|aX K c]++tn X u1++tn X u2) O O) ξ<|.cons (aC.S 5 (.b 90<|[.a 2 (lg d)<|aX K d]++tn X v1++tn X v2) O O) ξ<|pV O<|.nil<|I<|aQ<|bR<|tR<|bR<|tR<|tR<|bR<|tR<|rQ O aC7;have kb:bel v1 v2 u1 u2:=⟨RQ,λh=>kb2 h.2.1⟩;exact aA<|mE 4 O<|mY jI O<|mdT O (iH.2 RQ)<|mE 2 O<|mY iI O<|mdF O kb2<|pO O O<|pO O O<|mE 2 O<|pO O O<|pO O O<|pO O O<|pO O O<|pO O O<|pO O O<|mW O<|mbT O O<|mE 2 O<|I<|cT O<|au<|cDs 5<|pV O<|pV O<|.cons (aC.S 4 (.b 90<|[.a 2 (lg c)<|aX K c]++tn X u1++tn X u2) O O) ξ<|.cons (aC.S 5 (.b 90<|[.a 2 (lg d)<|aX K d]++tn X v1++tn X v2) O O) ξ<|pV O<|.nil<|I<|aQ<|bR<|tR<|bR<|tR<|tR<|bR<|tR<|rQ O aC7;have kb:¬bel v1 v2 u1 u2:=λh=>RQ h.1;refine aA<|mE 4 O<|mY jI O<|mbF O (acS<|λh=>RQ<|iH.1 h)<|mW O<|pO O O<|pO O O<|pO O O<|mU O O<|mU O O<|pO O O<|pO O O<|mU O O<|mU O O<|mU O O<|mU O O<|mU O O<|mU O O<|pO O O<|pO O O<|mE 2 O<|I<|cF O<|aO<|bN<|tN<|au<|cDk 12<|oE 4 O<|oC Jd O<|oE 4 O<|oC Jd O<|oC jI O<|.cons (aC.V (.d<|.o<|.v<|.bool<|decide<|v2-v1<=u2-u1) aGd)<|.nil<|I<|bI O (λhc3=>?_) (λhc3=>?_);have h':=hI.go1 hf0 ka kb<|abd hc3;exact rE;have h':=hI.go2 hf0 ka kb<|aa1 hc3;exact abP;have ka:bel u1 u2 v1 v2:=⟨ka1,λh=>ka4 h.2.2⟩;exact aA<|mE 4 O<|mY jI O<|mdT O (iH.2 ka1)<|mE 2 O<|mY iI O<|mdT O ka2<|mW O<|mY iI O<|mW O<|mdT O ka3<|mE 4 O<|mY jI O<|mbF O (acz.2<|λh=>ka4<|vw.1 h)<|mW O<|mbT O O<|mE 2 O<|I<|cT O<|au<|cDs 5<|pV O<|pV O<|.cons (aC.S 4 (.b 90<|[.a 2 (lg c)<|aX K c]++tn X u1++tn X u2) O O) ξ<|.cons (aC.S 5 (.b 90<|[.a 2 (lg d)<|aX K d]++tn X v1++tn X v2) O O) ξ<|pV O<|.nil<|I<|aQ<|bR<|tR<|bR<|tR<|tR<|bR<|tR<|rQ O aEA;have ka:bel u1 u2 v1 v2:=⟨ka1,λh=>ka3 h.2.1⟩;exact aA<|mE 4 O<|mY jI O<|mdT O (iH.2 ka1)<|mE 2 O<|mY iI O<|mdT O ka2<|mW O<|mY iI O<|mW O<|mdF O ka3<|pO O O<|pO O O<|pO O O<|pO O O<|pO O O<|pO O O<|mW O<|mbT O O<|mE 2 O<|I<|cT O<|au<|cDs 5<|pV O<|pV O<|.cons (aC.S 4 (.b 90<|[.a 2 (lg c)<|aX K c]++tn X u1++tn X u2) O O) ξ<|.cons (aC.S 5 (.b 90<|[.a 2 (lg d)<|aX K d]++tn X v1++tn X v2) O O) ξ<|pV O<|.nil<|I<|aQ<|bR<|tR<|bR<|tR<|tR<|bR<|tR<|rQ O aEA;have ka:bel u1 u2 v1 v2:=⟨ka1,λh=>ka2 h.1⟩;exact aA<|mE 4 O<|mY jI O<|mdT O (iH.2 ka1)<|mE 2 O<|mY iI O<|mdF O ka2<|pO O O<|pO O O<|mE 2 O<|pO O O<|pO O O<|pO O O<|pO O O<|pO O O<|pO O O<|mW O<|mbT O O<|mE 2 O<|I<|cT O<|au<|cDs 5<|pV O<|pV O<|.cons (aC.S 4 (.b 90<|[.a 2 (lg c)<|aX K c]++tn X u1++tn X u2) O O) ξ<|.cons (aC.S 5 (.b 90<|[.a 2 (lg d)<|aX K d]++tn X v1++tn X v2) O O) ξ<|pV O<|.nil<|I<|aQ<|bR<|tR<|bR<|tR<|tR<|bR<|tR<|rQ O aEA;have ka:¬bel u1 u2 v1 v2:=λh=>ka1 h.1;refine aA<|mE 4 O<|mY jI O<|mbF O (acS<|λh=>ka1<|iH.1 h)<|mW O<|pO O O<|pO O O<|pO O O<|mU O O<|mU O O<|pO O O<|pO O O<|mU O O<|mU O O<|mU O O<|mU O O<|mU O O<|mU O O<|pO O O<|pO O O<|mE 2 O<|I<|cF O<|au ?_;by_cases RQ:v2<=u1;by_cases kb2:u2<=u1;by_cases kb3:v2<=v1;by_cases kb4:v2=u1;have kb:¬bel v1 v2 u1 u2:=λh=>h.2 ⟨kb3,kb2,kb4⟩;refine aA<|mE 4 O<|mY jI O<|mdT O (iH.2 RQ)<|mE 2 O<|mY iI O<|mdT O kb2<|mW O<|mY iI O<|mW O<|mdT O kb3<|mE 4 O<|mY jI O<|mbT O (acW.2<|vw.2 kb4)<|mW O<|mbF O O<|mE 2 O<|I<|cF O<|aO<|bN<|tN<|au<|cDk 12<|oE 4 O<|oC Jd O<|oE 4 O<|oC Jd O<|oC jI O<|.cons (aC.V (.d<|.o<|.v<|.bool<|decide<|v2-v1<=u2-u1) aGd)<|.nil<|I<|bI O (λhc4=>?_) (λhc4=>?_);have h':=hI.go1 hf0 ka kb<|abd hc4;exact rE;have h':=hI.go2 hf0 ka kb<|aa1 hc4;exact abP;have kb:bel v1 v2 u1 u2:=⟨RQ,λh=>kb4 h.2.2⟩;exact aA<|mE 4 O<|mY jI O<|mdT O (iH.2 RQ)<|mE 2 O<|mY iI O<|mdT O kb2<|mW O<|mY iI O<|mW O<|mdT O kb3<|mE 4 O<|mY jI O<|mbF O (acz.2<|λh=>kb4<|vw.1 h)<|mW O<|mbT O O<|mE 2 O<|I<|cT O<|au<|cDs 5<|pV O<|pV O<|.cons (aC.S 4 (.b 90<|[.a 2 (lg c)<|aX K c]++tn X u1++tn X u2) O O) ξ<|.cons (aC.S 5 (.b 90<|[.a 2 (lg d)<|aX K d]++tn X v1++tn X v2) O O) ξ<|pV O<|.nil<|I<|aQ<|bR<|tR<|bR<|tR<|tR<|bR<|tR<|rQ O aC7;have kb:bel v1 v2 u1 u2:=⟨RQ,λh=>kb3 h.1⟩;exact aA<|mE 4 O<|mY jI O<|mdT O (iH.2 RQ)<|mE 2 O<|mY iI O<|mdT O kb2<|mW O<|mY iI O<|mW O<|mdF O kb3<|pO O O<|pO O O<|pO O O<|pO O O<|pO O O<|pO O O<|mW O<|mbT O O<|mE 2 O<|I<|cT O<|au<|cDs 5<|pV O<|pV O<|.cons (aC.S 4 (.b 90<|[.a 2 (lg c)<|aX K c]++tn X u1++tn X u2) O O) ξ<|.cons (aC.S 5 (.b 90<|[.a 2 (lg d)<|aX K d]++tn X v1++tn X v2) O O) ξ<|pV O<|.nil<|I<|aQ<|bR<|tR<|bR<|tR<|tR<|bR<|tR<|rQ O aC7;have kb:bel v1 v2 u1 u2:=⟨RQ,λh=>kb2 h.2.1⟩;exact aA<|mE 4 O<|mY jI O<|mdT O (iH.2 RQ)<|mE 2 O<|mY iI O<|mdF O kb2<|pO O O<|pO O O<|mE 2 O<|pO O O<|pO O O<|pO O O<|pO O O<|pO O O<|pO O O<|mW O<|mbT O O<|mE 2 O<|I<|cT O<|au<|cDs 5<|pV O<|pV O<|.cons (aC.S 4 (.b 90<|[.a 2 (lg c)<|aX K c]++tn X u1++tn X u2) O O) ξ<|.cons (aC.S 5 (.b 90<|[.a 2 (lg d)<|aX K d]++tn X v1++tn X v2) O O) ξ<|pV O<|.nil<|I<|aQ<|bR<|tR<|bR<|tR<|tR<|bR<|tR<|rQ O aC7;have kb:¬bel v1 v2 u1 u2:=λh=>RQ h.1;refine aA<|mE 4 O<|mY jI O<|mbF O (acS<|λh=>RQ<|iH.1 h)<|mW O<|pO O O<|pO O O<|pO O O<|mU O O<|mU O O<|pO O O<|pO O O<|mU O O<|mU O O<|mU O O<|mU O O<|mU O O<|mU O O<|pO O O<|pO O O<|mE 2 O<|I<|cF O<|aO<|bN<|tN<|au<|cDk 12<|oE 4 O<|oC Jd O<|oE 4 O<|oC Jd O<|oC jI O<|.cons (aC.V (.d<|.o<|.v<|.bool<|decide<|v2-v1<=u2-u1) aGd)<|.nil<|I<|bI O (λhc5=>?_) (λhc5=>?_);have h':=hI.go1 hf0 ka kb<|abd hc5;exact rE;have h':=hI.go2 hf0 ka kb<|aa1 hc5;exact abP
 ·exact bZ<|tE<|tE<|bE<|tN<|au<|cDs 5<|pV O<|pV O<|.cons (aC.S 4 (.b 90<|[.a 2 (lg c)<|aX K c]++tn X u1++tn X u2) O O) ξ<|.cons (aC.S 5 (.b 90<|[.a 2 (lg d)<|aX K d]++tn X v1++tn X v2) O O) ξ<|pV O<|.nil<|I<|aQ<|rQ O (by rw [hI.end_<|by have h0:=of_decide_eq_false hc1;have:=hI.fl;omega];exact AV.le.rfl)
def adx(hK:K<=1000000:=by omega):aH prog 188 [.j<|tn K p]<|.d<|.j<|tn K p:=by refine aH.BM (mM func188 O O) (p:=Tb K p) (λB w vs h=>match vs,h with|[_],⟨⟨cs,_,hl⟩,_⟩=>Oa hl) (λhb=>?_);have h:=Lu (xK K p) (aav _) Z;rw [kU] at h;exact aH.le aCJ (lV<|oZ hb) h
def ar8(hK:K<=1000000):aH prog 120 [.j<|tn K x1,.o<|.a 4 1<|λi' j'=>((tn K x2)[i'*4+j']?).getD<|.v undef] (.d<|.j<|tn K<|if x1<x2 then x2 else x1):=by
 refine aN 24 [.cell 4 54] func120 O<|cR<|mO O<|mO O<|I<|cR<|mW O<|mY adx O<|mO O<|mZ O<|I<|au<|cR<|mE 3 O<|I<|aK<|dL (ι:=Nat×Rat) (λ(p:Nat×Rat)=>match p with|(i,m)=>⟨24,[(4,.p 4 0),(5,.p 5 0),(10,.d<|.o<|.a 4 1<|λi' j'=>((tn K x2)[i'*4+j']?).getD<|.v undef),(11,dI 1),(12,dI (i:Int))],[(4,.b 54<|[.v<|.bool false,.v aAy,.v<|.bool false,.v aAy]),(5,.b 54<|tn K m)]⟩) (λ(i,m)=>i<=1/\(i=0->m=x1)/\(i=1->m=(if x1<x2 then x2 else x1))) (λ(i,m)=>1-i) (0,x1) (⟨abJ _,λ_=>rfl,λh=>absurd h Z⟩) aDU ?_;rintro⟨i,m⟩⟨hi,h0m,h1m⟩;show AW _ _ _ ⟨_,_,_⟩
 refine cR<|mW O<|I<|au<|bI O (λhc1=>?_) (λhc1=>?_)
 ·refine aO<|tN<|au<|aK<|au ?_;obtain rfl:i=0:=aCb;have hmx:=h0m O;subst hmx;refine aA<|mE 2 O<|mO O<|mZ O<|I<|cR<|mE 2 O<|mY jI O<|mW O<|I<|bI O (λhc2=>?_) (λhc2=>?_);exact aA<|mW O<|mY adx O<|mZ O<|ak<|bN<|tN<|aA<|mE 2 O<|ak<|⟨((0+1),x2),⟨by omega,λh=>absurd h Z,λ_=>by rw [if_pos<|by have h0:=of_decide_eq_true hc2;apply Rat.not_le.1;intro h2;have:=iH.2 h2;omega]⟩,by show _-(_+1)<_-_;omega,wkv [4] [] aCk trivial O O⟩;exact aO<|bN<|tN<|aA<|mE 2 O<|ak<|⟨((0+1),m),⟨by omega,λh=>absurd h Z,λ_=>by rw [if_neg<|by have h0:=of_decide_eq_false hc2;intro h2;have:=Dl h2;omega]⟩,by show _-(_+1)<_-_;omega,wkv [4] [] aCk trivial O O⟩
 ·exact bZ<|tE<|tE<|bE<|tN<|cR<|mW O<|mZ O<|I<|aQ<|rQ O (by have hm:=h1m aCi;rw [hm];exact AV.le.rfl)
def aen(oa:AQ c lo hi)(ob:AQ d p q)(h1:¬hi<=lo)(h2:¬q<=p)(ha:a=if lo<p then p else lo)(hb:b=if q<hi then q else hi)(hn:¬a<b):dU (eP c lo hi) (eP d p q)≠0:=λh0=>by
 have e:=Dk h0;have cl:eP c lo hi lo:=by rw [lD ψ];exact Or.inl ψ
 have cp:eP d p q p:=by rw [lD ψ];exact Or.inl ψ
 have ca:eP c lo hi a:=ψ
 have cb:¬eP c lo hi b:=by rw [hb];split;exact λk=>ob.above ψ<|(e _).1 k;exact oa.above ψ
 exact hn<|oa.cut.nb ca cb
def dlt:(BI p q<0)↔p<q:=⟨λh=>Rat.not_le.1 λh2=>by have:=wU.2 h2;omega,λh=>by have:=QS h;omega⟩
def als(oa:I9 c lo hi)(ob:I9 d x1 x2)(hN:N<=10)(Uo:lg c<=N)(hdN:lg d<=N)(zG:(21*K+3+1)*(2*3^N)<=KC)(hC:KC<=90000000)(hX:11*L+320*K+300<=X)(hX1:X<=100000):aH prog 219 [.j<|[.a 2 (lg c)<|aX K c]++tn L lo++tn L hi,.j<|[.a 2 (lg d)<|aX K d]++tn L x1++tn L x2]<|dI<|dU (eP c lo hi)<|eP d x1 x2:=by
 have hlc:=dN c;have hld:=dN d;refine aH.BM (mM func219 O O) (p:=Lb K c/\Lb K d) (λB w vs h=>match vs,h with|[_,_],⟨⟨cs,_,hl⟩,⟨ds,_,hk⟩,_⟩=>⟨(Jh oa.ok.z hl).1,(Jh ob.ok.z hk).1⟩) (λhb=>?_);have hc2:=oa.l2;have hd2:=ob.l2;refine aN 72 [.tmp 4] func219 O<|cR<|mO O<|mO O<|mW O<|I<|au<|cDk 4<|oV O<|oC (Qm oa.ok.z) O<|oV O<|oC (Qm ob.ok.z) O<|.nil<|mZ O<|mZ O<|I<|au<|aK<|cR<|mW O<|mY iI O<|mW O<|I<|bI O (λhc1=>?_) (λhc1=>?_)
 ·refine au ?_;have hbd:=JW (eP d x1 x2)<|fC lo;exact aA<|mE 3 O<|mY (JL ob.ok) O<|mV aj (dI (-(dU (eP d x1 x2)<|fC lo))) (fK<|(fH Z Z).trans Z)<|mW O<|I<|aQ<|bR<|tR<|rQ O (aJ<|by rw [qF (c:=c)<|of_decide_eq_true hc1];exact(yh ob.ok.cut<|nV lo).symm)
 ·refine cR<|mW O<|mY iI O<|mW O<|I<|bI O (λhc2=>?_) (λhc2=>?_);exact cR<|mE 3 O<|mY (JL oa.ok) O<|mW O<|I<|aQ<|bR<|tR<|rQ O (aJ<|by rw [qF (c:=d)<|of_decide_eq_true hc2]);refine aO<|bN<|tN<|au ?_;have hP:=aa1 hc1;have hQ:=aa1 hc2;refine cDs 12<|pV O<|pV O<|pV O<|pV O<|.cons (aC.B _ O) ξ<|pC (ar8 Z) O<|pV O<|pV O<|.cons (aC.N (.b 54<|[.v<|.bool false,.v aAy,.v<|.bool false,.v aAy]) O 5 O O) ξ<|.cons (aC.N (.b 54<|[.v<|.bool false,.v aAy,.v<|.bool false,.v aAy]) O 6 O O) ξ<|.cons (aC.S 5 (.b 54<|tn L<|if lo<x1 then x1 else lo) O O) ξ<|.cons (aC.S 6 (.b 54<|tn L hi) O O) ξ<|.nil<|I<|au<|cR<|mE 3 O<|mY jI O<|mV aj (.d<|.o<|.v<|.bool<|decide<|x2<hi) (dD<|ah8.2 dlt)<|I<|bI O (λhc3=>?_) (λhc3=>?_);refine aA<|mE 2 O<|mZ O<|I<|au<|au ?_;have hbb:x2=if x2<hi then x2 else hi:=(if_pos<|abd hc3).symm;refine aA<|mE 2 O<|mY jI O<|mV aj (.d<|.o<|.v<|.bool<|decide<|(if lo<x1 then x1 else lo)<x2) (dD<|ah8.2 dlt)<|I<|bI O (λhc4=>?_) (λhc4=>?_);refine cR<|mE 4 O<|mB aj _ O<|mY (adr (KC:=KC) (N:=N) oa.ok.z ob.ok.z Z Z hN Uo hdN hb.1 hb.2 zG hC) O<|mW O<|I<|au<|UR (Qx:=(rD c d<|21*K+3)) 7 O (λg hg=>?_);have hlg:=dN g;have hg0:=(hg.le oa.ok.z<|by have:=oa.l2;omega).1;by_cases hl2:2<=lg g;refine aA<|mW O<|mY wI O<|mdT O Z<|mE 4 O<|mY (anz hg.z) O<|mW O<|I<|bI O (λhc5=>?_) (λhc5=>?_);exact cR<|mW O<|I<|aQ<|tR<|rQ O<|aJ ((Dp oa.ok ob.ok hP hQ hg hg0 O hbb).1 (abd hc4) hl2 hc5).symm;exact aO<|tN<|cR<|mE 2 O<|mY (Ic oa.ok ob.ok hX hX1) O<|mE 4 O<|mO O<|mO O<|mZ O<|mZ O<|mW O<|I<|cR<|mE 2 O<|I<|aQ<|rQ O (aJ (Dh oa ob<|(Dp oa.ok ob.ok hP hQ hg hg0 O hbb).2<|λ_ _=>hc5).sg);exact aA<|mW O<|mY wI O<|mdF O Z<|mW O<|mG O O<|mG O O<|mG O O<|mG O O<|mW O<|I<|cFs O<|cR<|mE 2 O<|mY (Ic oa.ok ob.ok hX hX1) O<|mE 4 O<|mO O<|mO O<|mZ O<|mZ O<|mW O<|I<|cR<|mE 2 O<|I<|aQ<|rQ O (aJ (Dh oa ob<|(Dp oa.ok ob.ok hP hQ hg hg0 O hbb).2<|λ_ h=>absurd h hl2).sg);exact aO<|tN<|cR<|mE 2 O<|mY (Ic oa.ok ob.ok hX hX1) O<|mE 4 O<|mO O<|mO O<|mZ O<|mZ O<|mW O<|I<|cR<|mE 2 O<|I<|aQ<|rQ O<|aJ (Dh oa ob<|aen oa.ok ob.ok hP hQ O hbb<|aa1 hc4).sg;refine aO<|tN<|au<|au ?_;have hbb:hi=if x2<hi then x2 else hi:=(if_neg<|aa1 hc3).symm;refine aA<|mE 2 O<|mY jI O<|mV aj (.d<|.o<|.v<|.bool<|decide<|(if lo<x1 then x1 else lo)<hi) (dD<|ah8.2 dlt)<|I<|bI O (λhc6=>?_) (λhc6=>?_);refine cR<|mE 4 O<|mB aj _ O<|mY (adr (KC:=KC) (N:=N) oa.ok.z ob.ok.z Z Z hN Uo hdN hb.1 hb.2 zG hC) O<|mW O<|I<|au<|UR (Qx:=(rD c d<|21*K+3)) 7 O (λg hg=>?_);have hlg:=dN g;have hg0:=(hg.le oa.ok.z<|by have:=oa.l2;omega).1;by_cases hl2:2<=lg g;refine aA<|mW O<|mY wI O<|mdT O Z<|mE 4 O<|mY (anz hg.z) O<|mW O<|I<|bI O (λhc7=>?_) (λhc7=>?_);exact cR<|mW O<|I<|aQ<|tR<|rQ O<|aJ ((Dp oa.ok ob.ok hP hQ hg hg0 O hbb).1 (abd hc6) hl2 hc7).symm;exact aO<|tN<|cR<|mE 2 O<|mY (Ic oa.ok ob.ok hX hX1) O<|mE 4 O<|mO O<|mO O<|mZ O<|mZ O<|mW O<|I<|cR<|mE 2 O<|I<|aQ<|rQ O (aJ (Dh oa ob<|(Dp oa.ok ob.ok hP hQ hg hg0 O hbb).2<|λ_ _=>hc7).sg);exact aA<|mW O<|mY wI O<|mdF O Z<|mW O<|mG O O<|mG O O<|mG O O<|mG O O<|mW O<|I<|cFs O<|cR<|mE 2 O<|mY (Ic oa.ok ob.ok hX hX1) O<|mE 4 O<|mO O<|mO O<|mZ O<|mZ O<|mW O<|I<|cR<|mE 2 O<|I<|aQ<|rQ O (aJ (Dh oa ob<|(Dp oa.ok ob.ok hP hQ hg hg0 O hbb).2<|λ_ h=>absurd h hl2).sg);exact aO<|tN<|cR<|mE 2 O<|mY (Ic oa.ok ob.ok hX hX1) O<|mE 4 O<|mO O<|mO O<|mZ O<|mZ O<|mW O<|I<|cR<|mE 2 O<|I<|aQ<|rQ O<|aJ (Dh oa ob<|aen oa.ok ob.ok hP hQ O hbb<|aa1 hc6).sg
def azT(zc:bK c)(zd:bK d)(sc:Ja (FF c)<|FF<|bQ c)(hc2:2<=lg c)(hd2:2<=lg d)(b1:∀i,(c i).natAbs<=2^h1)(b2:∀i,(d i).natAbs<=2^h2) 
   (hC:dO C) (hD:dO D) (vB:¬VC (FF d) C) (vC:VC (FF c) C) (vD:VC (FF d) D)  (hq:(D q/\¬C q)\/(C q/\¬D q)) (ca:C a) (cb:¬C b) (da:D a) (db:¬D b) (hw:(b-a)*t2 (su (lg c) (lg d) h1 h2)<=1):False:=by have hlc:=dN c;have hld:=dN d;have hab:=hC.nb ca cb;have hw1:b-a<=1:=(by exact axw);obtain⟨hl,ehl⟩:∃hl,hl=min h1 h2:=⟨_,O⟩;have hin:In (t2<|hl+2) a/\In (t2<|hl+2) b:=aDs;by_cases vA:VC (FF c) D;have⟨U,V,z,hz,Kr,hU,hV,hL⟩:=aiZ zc sc hc2 b1 (hl+2) (lg c/2+1) aGH;have hx:=aji (n1:=lg c) (n2:=lg d) (h1:=h1) (h2:=h2) (hl:=hl) hc2 hlc hd2 Z Z;have hs:=yR hx (show 0<=b-a by grind) hw;rcases hq with⟨q1,q2⟩|⟨q1,q2⟩;exact as6;exact as8;have⟨γ,k1,k2,zγ,hγ0,pm,y1,y2,c1,c2,hγc,hγd,cop,g1,g2⟩:=ZB zc zd Z Z;have nγC:¬VC (FF γ) C:=λh=>vB ((h.mul hC<|dG y2).congr λx=>by grind);have nγD:¬VC (FF γ) D:=λh=>vA ((h.mul hD<|dG y1).congr λx=>by grind);have v1:VC (FF k1) C:=aEr;have v2:VC (FF k2) D:=aEs;have ne1:∃x,FF k1 x≠0:=aGU;have l1:=Uf y1 hC v1 ne1;have ayR:lg k1-1+(lg γ-1)=lg c-1:=aD6;have⟨U,V,z,hz,Kr,hU,hV,hL⟩:=asX zc zd zγ y1 y2 hc2 hd2 hγ0 pm c2 hγc hγd Z cop g1 g2 (hm:=max h1 h2) (h2:=h2) (λi=>acL (b1 i)<|acC φ<|amm _ _) (λi=>acL (b2 i)<|acC φ<|alr _ _) b2 (hl+2) ((lg c+lg d)/2+1) (lg d/2+1) (lg c+lg d) O aGH aGH;exact ap4
def Zi{r rg:Fn}{rl:List Fn}(hs:KY r rg rl)(pr:Po r)(hlt:lo<hi)(hn:¬kD r lo hi):dO<|jB r lo hi:=by have mem:∀q,lo<=q->q<hi->(jB r lo hi q↔¬kD r q hi):=λq h1 h2=>(by constructor;rintro(k|⟨_,k⟩);grind;omega;intro k;exact aw7);refine⟨λq t ht hqt=>?_,λq hq=>?_,ψ,⟨hi,jF hlt ψ⟩⟩;by_cases hq:q<=lo;exact Or.inl hq;have hth:t<hi:=(by rcases ht with k|⟨k,_⟩ <;> grind);rw [mem q ψ ψ];rw [mem t ψ hth] at ht;rintro⟨s,h1,h2⟩;exact ht ⟨s,h1,λu a b=>h2 u ψ b⟩;by_cases hq1:q<lo;grind;have hqh:q<hi:=(by rcases hq with k|⟨k,_⟩ <;> grind);rw [mem q ψ hqh] at hq;have⟨h0,e,he,hne⟩:=BD hs pr q;have⟨z,hz,hz1,hz2⟩:=mP he (show 0<hi-q by grind);refine⟨q+z/2,by grind,?_⟩;rw [mem _ ψ ψ];intro hf;have⟨M,hM⟩:=qZ hs (a:=q) (b:=q+z/2) ψ;have hM0:M=0:=hM.nil.2 λt h1 h2=>hne t h1 ψ;subst hM0;have⟨M2,hM2⟩:=qZ hs (a:=q+z/2) (b:=hi) ψ;have c2:qQ r (q+z/2) hi M2:=⟨rg,rl,hs,hM2⟩;have:=(c2.free pr ψ).2 hf;subst this;have c3:=qQ.cat pr (show q<=q+z/2 by grind) ψ ⟨rg,rl,hs,hM⟩ c2;exact hq<|(c3.free pr ψ).1 O
def Zj{r rg:Fn}{rl:List Fn}(hs:KY r rg rl)(pr:Po r)(hlt:lo<hi)(hn:¬kD r lo hi):VC r<|jB r lo hi:=by
 intro e he q s hq hsn;have hC:=Zi hs pr hlt hn;have⟨q',r',h1,h2,h3,h4,hq',hr'⟩:=aeh (lo:=lo) (hi:=hi) (Or.inl ψ) (jF hlt ψ) hq hsn;have hqr:=hC.nb hq' hr';have nq:¬kD r q' hi:=(by rcases hq' with k|⟨_,k⟩;grind;omega);have⟨N,hN⟩:=qZ hs (a:=q') (b:=hi) ψ;have cN:qQ r q' hi N:=⟨rg,rl,hs,hN⟩;have⟨K,M,k1,k2,ee⟩:=cN.split ψ h2;have hM0:M=0:=by
  by_cases hh:r'<hi
  ·have:kD r r' hi:=abt λk=>hr'<|Or.inr ⟨hh,k⟩
   exact(k2.free pr ψ).2 this
  ·have e:r'=hi:=ψ
   rw [e] at k2;exact(k2.free pr ψ).2 (by
    have⟨h0,_⟩:=BD hs pr hi;exact⟨yZ r rg hi,h0,λt a b=>absurd b ψ⟩)
 have hK:K≠0:=λhK=>nq<|(cN.free pr ψ).1 Z;have⟨x,x1,x2,x3⟩:=Dw pr ψ k1 hK he;grind
def sgF(c:Nat->Int)(L:List<|Nat->Int):Nat->Rat->Rat->Rat×Rat
 |0,lo,hi=>(lo,hi)
 |n+1,lo,hi=>if hi<=lo\/vr (wz L lo)=vr (wz L hi) then(lo,hi) else sgF c L n (hlf c lo hi).1 (hlf c lo hi).2
structure SgR(c:Nat->Int)(r:Fn)(lo hi:Rat)(p:Rat×Rat):Prop where
 nar:Qj c lo hi p.1 p.2
 fr:p.2<=p.1\/kD r p.1 p.2
def ahd{p:Nat->Int}{L:List (Nat->Int)}(zp:bK p)(hp0:lg p≠0)(hL:YG p M KC L)(b1:∀i,(c i).natAbs<=2^h1)(b2:∀i,(p i).natAbs<=2^h2):∀(n i:Nat) {lo hi:Rat},I9 c lo hi->¬VC (FF p) (eP c lo hi)->i<n->(hi-lo)*t2 (su (lg c) (lg p) h1 h2)<=t2 i->SgR c (FF<|gl L 0) lo hi (sgF c L n lo hi)
 |0,_,_,_,_,_,h,_=>absurd h Z
 |n+1,i,lo,hi,o,nv,hn,hw=>by
  unfold sgF
  by_cases hs:hi<=lo\/vr (wz L lo)=vr (wz L hi)
  ·rw [if_pos hs]
   refine⟨Qj.refl o.ok,?_⟩
   by_cases hl:hi<=lo
   ·simp_all
   ·right
    have⟨N,hN,hf,_⟩:=hL.cnt (lo:=lo) (hi:=hi) ψ;simp_all
  ·rw [if_neg hs]
   have hl:¬hi<=lo:=ψ
   have hlt:lo<hi:=ψ
   have⟨N,hN,hf,_⟩:=hL.cnt (lo:=lo) (hi:=hi) ψ;have nf:¬kD (FF<|gl L 0) lo hi:=ψ
   have hi0:i≠0:=λe=>by
    have h2l:2<=L.length:=by
     apply abt;intro hlen;have:=hL.len;exact nf<|CW (hL.z 0) (hL.cst Z) lo hi
    have⟨l,_,st,_⟩:=hL.stm h2l;have pr:=dG<|hL.z 0;have hD:=Zi st pr hlt nf;have vr':=Zj st pr hlt nf;have⟨w,pw,hw2⟩:=hL.sq.dv;have vD:VC (FF p)<|jB (FF<|gl L 0) lo hi:=(vr'.mul hD pw).congr λx=>by grind
    have lp:=Uf zp hD vD<|uz zp hp0;have hq:∃t,(jB (FF<|gl L 0) lo hi t/\¬eP c lo hi t)\/(eP c lo hi t/\¬jB (FF<|gl L 0) lo hi t):=by
     apply abt;intro hne;refine nv (vD.cut λt=>⟨λh=>?_,λh=>?_⟩)
     ·grind
     grind
    have⟨t,ht⟩:=hq;rw [e] at hw;exact azT o.ok.z zp o.sq o.l2 lp b1 b2 o.ok.cut hD nv o.vc vD ht (a:=lo) (b:=hi) (by rw [lD hlt];exact aw6) (o.ok.above ψ) (Or.inl ψ) (jF hlt ψ) hw
   obtain⟨i',rfl⟩:∃i',i=i'+1:=⟨i-1,by omega⟩
   have nr:=(zH o.ok).1;have ih:=ahd zp hp0 hL b1 b2 n i' (o.nar nr) (λh=>nv<|h.cut λq=>(nr.cut q).symm) Z<|afe o.ok (jr _) hw;exact⟨nr.trans ih.nar,ih.fr⟩
def DT{p:Nat->Int}{L:List (Nat->Int)}(zp:bK p)(hp0:lg p≠0)(hL:YG p M KC L)(o:I9 c lo hi)(nv:¬VC (FF p) (eP c lo hi)):SgR c (FF<|gl L 0) lo hi<|sgF c L (qV c lo hi p 0 0) lo hi:=by obtain⟨E,hE⟩:∃E,E=su (lg c) (lg p) (CY c<|lg c) (CY p<|lg p):=ψ;refine ahd zp hp0 hL (aaY o.ok.z) (aaY zp) _ (bY lo.num.natAbs+bY hi.num.natAbs+1+E) o nv ?_ ?_;rw [hE];unfold qV su;grind;rw [<-hE,lN _ E];exact abV (L6 lo hi) (by have:=jr E;grind)
def acp{p:Nat->Int}(zp:bK p)(h1:lg p=1)(hC:dO C)(x:Rat):Oy (FF p) C<|gI<|FF p x:=by have⟨κ,hκ,hk⟩:=jo zp h1;have⟨q,hq⟩:=hC.lo;have⟨r,hr⟩:=hC.hi;rcases(show κ<0\/0<κ by grind) with k|k;exact⟨-κ,q,r,by grind,hq,hr,λt _ _=>⟨by rw [hk t];exact Or.inr ψ,by simp_all⟩⟩;exact⟨κ,q,r,by grind,hq,hr,λt _ _=>⟨by rw [hk t];exact Or.inl ψ,by simp_all⟩⟩
def yQ{p:Nat->Int}{L:List (Nat->Int)}{ab:Rat×Rat}(zp:bK p)(hp0:lg p≠0)(hL:YG p M KC L)(o:I9 c lo hi)(h:SgR c (FF<|gl L 0) lo hi ab):gI (FF p ab.2)=Fe (FF p) (eP c lo hi):=by have⟨a,b⟩:=ab;have ok:=h.nar.ok;have e:=akO (p:=FF p) h.nar.cut;show gI (FF p b)=_;rw [<-e];show _=Fe (FF p) (eP c a b);by_cases hl:b<=a;have hle:a<=b:=ok.le;have eab:a=b:=ψ;rw [qF hl,ahb<|dG zp,eab];have hlt:a<b:=ψ;have fr:kD (FF<|gl L 0) a b:=(by rcases h.fr with k|k;exact absurd k hl;exact k);rw [lD hlt];have oi:=ok.i' hl;have⟨N,hh,ph,hN⟩:=hL.sq.pw;by_cases h2:2<=L.length;have⟨l,_,st,_⟩:=hL.stm h2;exact(Fg (ni oi)<|ahh oi (dG zp) (dG<|hL.z 0) ph st hN fr).symm;have h1:=hL.cst (by have:=hL.len;omega);have⟨κ,hκ,hk⟩:=jo (hL.z 0) h1;have hp1:lg p=1:=(by have d1:Dv (FF p) (λ_=>κ^N):=⟨hh,ph,λx=>by rw [<-hN x,hk x]⟩;have hκN:κ^N≠0:=(by intro e0;have:∀n:Nat,κ^n≠0:=λn=>(by induction n with|zero=>simp_all|succ n ih=>grind);simp_all);have:=d1.deg (xX zp hp0)<|EP hκN;omega);exact(Fg (ni oi)<|acp zp hp1 (ni oi) b).symm
def NZ{p:Nat->Int}(o:I9 c lo hi)(hl:¬hi<=lo)(zp:bK p)(hg:rD p c M g)(hg0:lg g≠0):(2<=lg g->OD g lo hi=true->Fe (FF p) (eP c lo hi)=0)/\((2<=lg g->OD g lo hi=false)->¬VC (FF p) (eP c lo hi)):=by have oi:=o.ok.i' hl;have⟨w1,pw1,f1⟩:=hg.OH.da;have⟨w2,pw2,f2⟩:=hg.OH.db;have⟨u,v,pu,pv,huv⟩:=hg.OH.cm;have f1':∀x,FF p x=FF g x*w1 x:=ψ;have f2':∀x,FF c x=FF g x*w2 x:=ψ;have hlt:=oi.lt;rw [lD hlt];refine⟨λh2 hh=>NW<|acv oi (dG hg.z) pw2 pw1 f2' f1'<|(Gn oi hg.z pw2 f2' h2 ψ ψ hlt).1 hh,λhh hv=>?_⟩;have fr:kD (FF g) lo hi:=(by by_cases h2:2<=lg g;apply abt;intro hn;have:=(Gn oi hg.z pw2 f2' h2 ψ ψ hlt).2 hn;grind;exact CW hg.z Z lo hi);have⟨s,hs⟩:=WC oi (dG hg.z) pw2 pw1 pu pv f2' f1' huv fr;exact hs.VY hv
structure SgI(c:Nat->Int)(Ls:List<|Nat->Int)(L J f:Nat)(lo hi u1 u2:Rat):Prop where
 fl:f<=J
 ok:AQ c u1 u2
 d:Dz L (J-f) u1 u2
 e:sgF c Ls f u1 u2=sgF c Ls J lo hi
def SgI.start(h:AQ c lo hi)(h1:Tb L lo)(h2:Tb L hi):SgI c Ls L J J lo hi lo hi:=⟨aav _,h,by rw [Nat.sub_self];exact Gg h1 h2,O⟩
def SgI.end_{f:Nat}(h:SgI c Ls L J f lo hi u1 u2)(hf:f=0):sgF c Ls J lo hi=(u1,u2):=by rw [<-h.e,hf];rfl
def SgI.stop{f:Nat}(h:SgI c Ls L J f lo hi u1 u2)(hs:u2<=u1\/vr (wz Ls u1)=vr (wz Ls u2)):sgF c Ls J lo hi=(u1,u2):=by rw [<-h.e];cases f with|zero=>rfl|succ f=>exact if_pos hs
def SgI.go{f:Nat}(h:SgI c Ls L J f lo hi u1 u2)(hf:f≠0)(h1:¬u2<=u1)(h2:¬vr (wz Ls u1)=vr (wz Ls u2)):SgI c Ls L J (f-1) lo hi (hlf c u1 u2).1 (hlf c u1 u2).2:=by obtain⟨g,rfl⟩:∃g,f=g+1:=aEH;have hfl:=h.fl;have hd:=h.d.hlf (c:=c);rw [show J-(g+1)+1=J-g by omega] at hd;exact⟨by omega,(zH h.ok).1.ok,hd,by rw [<-h.e];exact(if_neg<|by rintro(k|k);exact h1 k;exact h2 k).symm⟩
def akX(h1:Lb K c)(h2:Lb K d)(a1:Tb L lo)(a2:Tb L hi):qV c lo hi d 0 0<=64+256*L+160*(64*K+48):=by have n1:=yK a1.1;have n2:=yK a2.1;have n3:bY (0:Rat).num.natAbs=0:=EU;exact arh
def akP{y:Nat->Int}(zy:bK y)(h:lg y=0)(hC:dO C):Fe (FF y) C=0:=NW λe he q r hq hr=>by
 have h1:=(nT zy).1 h;have h2:=hC.nb hq hr;exact⟨q,by grind,by grind,by rw [h1 q];exact kY ψ⟩
def anp{y:Nat->Int}(zy:bK y)(oa:I9 c lo hi)(hN:N<=10)(Uo:lg c<=N)(hyN:lg y<=N)(OC:(21*K+5+1)*(2*3^N)<=KC)(hK5:50*(K+3)<=KC)(hC:KC<=10000000)(hX:11*L+320*K+300<=X)(hX1:X<=100000):aH prog 292 [.o<|bP K (lg y) y,.j<|[.a 2 (lg c)<|aX K c]++tn L lo++tn L hi]<|dI<|Fe (FF y)<|eP c lo hi:=by
 have hlc:=dN c;have hly:=dN y;have hdy:dg y (lg y)=lg y:=iK zy.lg zy;refine aH.BM (mM func292 O O) (p:=Lb K y/\Lb K c/\Tb L lo/\Tb L hi) (λB w vs h=>match vs,h with|[_,_],⟨h1,⟨ds,_,hk⟩,_⟩=>⟨KI zy.lg h1,Jh oa.ok.z hk⟩) (λhb=>?_);have hc2:=oa.l2;have ayA:(21*K+3+1)*(2*3^N)<=KC:=acL (abh _ Z) OC;have hJ:qV c lo hi y 0 0<=64+256*L+160*(64*K+48):=akX hb.2.1 hb.1 hb.2.2.1 hb.2.2.2;refine aN 66 [.tmp 4] func292 O<|cR<|mO O<|mW O<|I<|au<|cDk 5<|oV O<|oC (kP aEf) O<|oV O<|oC (Qm oa.ok.z) O<|oV O<|.nil<|mZ O<|I<|au<|au<|fQ 0 (.d<|.o<|.a 2 (lg y)<|aX K y) O (eY<|by rw [hdy];exact λ_ _ _ h=>h)<|aA<|mE 3 O<|I<|bI O (λhc1=>?_) (λhc1=>?_)
 ·exact cR<|mW O<|I<|aQ<|tR<|rQ O (aJ (akP zy (by have h0:=acW.1 hc1;omega) oa.ok.cut).symm)
 ·refine aO<|tN<|au<|cR<|mW O<|mY iI O<|I<|bI O (λhc2=>?_) (λhc2=>?_)
  ·exact cR<|mE 3 O<|mY (tY aEf zy) O<|mW O<|I<|aQ<|tR<|rQ O (aJ<|by rw [qF (c:=c)<|of_decide_eq_true hc2,ahb<|dG zy])
  ·refine aO<|tN<|au<|au ?_;have hy0:lg y≠0:=(by have h0:=acz.1 hc1;omega);have hP:=aa1 hc2;refine aA<|mE 3 O<|mB aj _ O<|mY (adr (KC:=KC) (N:=N) zy oa.ok.z hy0 Z hN hyN Uo hb.1 hb.2.1 ayA Z) O<|mW O<|I<|au<|UR (Qx:=(rD y c<|21*K+3)) 5 O (λg hg=>?_);have hlg:=dN g;have hg0:=(hg.le zy hy0).1;by_cases hl2:2<=lg g
   ·refine aA<|mW O<|mY wI O<|mdT O Z<|mE 6 O<|mY (anz hg.z) O<|mW O<|I<|bI O (λhc3=>?_) (λhc3=>?_)
    ·exact cR<|mW O<|I<|aQ<|tR<|rQ O<|aJ ((NZ oa hP zy hg hg0).1 hl2 hc3).symm
    ·refine aO<|tN<|au ?_;have nv:=(NZ oa hP zy hg hg0).2 (λ_=>hc3);refine aA<|mW O<|mY (ait aEf zy Z hN hyN hy0 OC hK5 Z (KC:=KC)) O<|mE 5 O<|I<|au<|au<|UR (Qx:=(YG y (21*K+3) KC)) 6 O (λLs Pg=>?_);have hll:=Pg.ln;refine aA<|mE 3 O<|mY (Y1 oa.ok.z zy) O<|mW O<|I<|aK<|dL (ι:=Nat×Rat×Rat) (λ(p:Nat×Rat×Rat)=>match p with|(f,u1,u2)=>⟨66,[(0,.d<|.o<|.a 2 (lg y)<|aX K y),(3,.p 3 0),(4,dI 0),(6,.d<|.o<|.at 1<|λq=>(([.a 1 Ls.length<|ug KC Ls]:List Lf)[0+q]?).getD<|.v undef),(45,dI ((qV c lo hi y 0 0:Nat):Int)),(46,dI (((qV c lo hi y 0 0)-f:Nat):Int))],[(3,.b 90<|[.a 2 (lg c)<|aX K c]++tn X u1++tn X u2)]⟩) (λ(f,u1,u2)=>SgI c Ls L (qV c lo hi y 0 0) f lo hi u1 u2) (λ(f,u1,u2)=>f) ((qV c lo hi y 0 0),lo,hi) (.start oa.ok hb.2.2.1 hb.2.2.2) aDM ?_;rintro⟨f,u1,u2⟩ hI;have hI:SgI c Ls L (qV c lo hi y 0 0) f lo hi u1 u2:=hI;show AW _ _ _ ⟨_,_,_⟩
     refine cR<|mW O<|I<|au<|bI O (λhc4=>?_) (λhc4=>?_)
     ·refine aO<|tN<|au<|aK<|au<|au ?_;have hf0:f≠0:=aEy;by_cases hp:u2<=u1;exact ao2;by_cases hv:vr (wz Ls u1)=vr (wz Ls u2);exact ao8;refine aA<|mW O<|mY iI O<|mdF O hp<|mE 5 O<|mY (Bj hI.ok.le Pg.z Z hC) O<|mbF O (acz.2 Z)<|mW O<|I<|cFs O<|ao9
     ·exact bZ<|tE<|tE<|bE<|tN<|cR<|mE 3 O<|mY (tY aEf zy) O<|mW O<|I<|aQ<|rQ O (aJ<|by have e:=hI.end_ (by have h0:=aa1 hc4;have:=hI.fl;omega);exact ayw)
   ·refine aA<|mW O<|mY wI O<|mdF O Z<|mW O<|mG O O<|mG O O<|mG O O<|mG O O<|mG O O<|mG O O<|mW O<|I<|cFs O<|au ?_;have nv:=(NZ oa hP zy hg hg0).2 (λh=>absurd h hl2);refine aA<|mW O<|mY (ait aEf zy Z hN hyN hy0 OC hK5 Z (KC:=KC)) O<|mE 5 O<|I<|au<|au<|UR (Qx:=(YG y (21*K+3) KC)) 6 O (λLs Pg=>?_);have hll:=Pg.ln;refine aA<|mE 3 O<|mY (Y1 oa.ok.z zy) O<|mW O<|I<|aK<|dL (ι:=Nat×Rat×Rat) (λ(p:Nat×Rat×Rat)=>match p with|(f,u1,u2)=>⟨66,[(0,.d<|.o<|.a 2 (lg y)<|aX K y),(3,.p 3 0),(4,dI 0),(6,.d<|.o<|.at 1<|λq=>(([.a 1 Ls.length<|ug KC Ls]:List Lf)[0+q]?).getD<|.v undef),(45,dI ((qV c lo hi y 0 0:Nat):Int)),(46,dI (((qV c lo hi y 0 0)-f:Nat):Int))],[(3,.b 90<|[.a 2 (lg c)<|aX K c]++tn X u1++tn X u2)]⟩) (λ(f,u1,u2)=>SgI c Ls L (qV c lo hi y 0 0) f lo hi u1 u2) (λ(f,u1,u2)=>f) ((qV c lo hi y 0 0),lo,hi) (.start oa.ok hb.2.2.1 hb.2.2.2) aDM ?_;rintro⟨f,u1,u2⟩ hI;have hI:SgI c Ls L (qV c lo hi y 0 0) f lo hi u1 u2:=hI;show AW _ _ _ ⟨_,_,_⟩
    refine cR<|mW O<|I<|au<|bI O (λhc5=>?_) (λhc5=>?_)
    ·refine aO<|tN<|au<|aK<|au<|au ?_;have hf0:f≠0:=(by have h0:=abd hc5;omega);by_cases hp:u2<=u1;exact ao2;by_cases hv:vr (wz Ls u1)=vr (wz Ls u2);exact ao8;refine aA<|mW O<|mY iI O<|mdF O hp<|mE 5 O<|mY (Bj hI.ok.le Pg.z Z hC) O<|mbF O (acz.2 Z)<|mW O<|I<|cFs O<|ao9
    ·exact bZ<|tE<|tE<|bE<|tN<|cR<|mE 3 O<|mY (tY aEf zy) O<|mW O<|I<|aQ<|rQ O (aJ<|by have e:=hI.end_ (by have h0:=aa1 hc5;have:=hI.fl;omega);exact ayw)
def aib(hz:bK c)(hK:K<=10000000)(hL:L<=1000000)(hM:M<=1000000):aH prog 306 [.j<|[.a 2 (lg c)<|aX K c]++tn L lo++tn M hi]<|.d<|.j<|[.a 2 (lg c)<|aX K c]++tn L lo++tn M hi:=by exact aN 5 [.cell 2 90] func306 O<|cR<|mO O<|mO O<|I<|cR<|mW O<|mY (Qm hz) O<|mZ O<|I<|aQ<|rQ O aCo
def KA(t:Rat):Nat->Int:=yU (-t.num) (t.den:Int)
def Nq(t:Rat):∀i,2<=i->KA t i=0:=λi hi=>by unfold KA yU;omega
def Np(t:Rat):bK<|KA t:=.of (Nq t) φ
def Ye(t:Rat):lg (KA t)=2:=by
 rw [<-iK (Nq t) (Np t)];have h:KA t 1≠0:=by show(t.den:Int)≠0;have:=t.den_pos;omega
 exact Du ψ
def avb(t x:Rat):FF (KA t) x=(t.den:Rat)*x-(t.num:Rat):=by rw [<-qW (Np t) (Nq t)];show(0+((-t.num:Int):Rat)*x^0)+((t.den:Int):Rat)*x^1=_;rw [Rat.pow_zero,aky,Rat.intCast_neg];have e:((t.den:Int):Rat)=(t.den:Rat):=O;grind
def afR(t:Rat):FF (KA t) t=0:=by rw [avb];have:=yM t;grind
def den_nz(t:Rat):(t.den:Rat)≠0:=by exact_mod_cast t.den_nz
def apK(t x:Rat):FF (bQ<|KA t) x=(t.den:Rat):=by
 have hz:∀i,1<=i->bQ (KA t) i=0:=λi hi=>by unfold bQ;rw [Nq t (i+1) Z];simp
 rw [<-qW (fV<|Np t) hz];show 0+((bQ (KA t) 0:Int):Rat)*x^0=_
 have e:bQ (KA t) 0=(t.den:Int):=by show KA t 1*((0+1:Nat):Int)=_;have:KA t 1=(t.den:Int):=O;omega
 rw [e,Rat.pow_zero];have e2:((t.den:Int):Rat)=(t.den:Rat):=O;grind
def apL(t:Rat):Ja (FF<|KA t)<|FF<|bQ<|KA t:=⟨dG<|Np t,dG<|fV<|Np t,ru<|Np t,λ_=>0,λ_=>1/(t.den:Rat),dh _,dh _,λx=>by rw [apK];have:=den_nz t;grind⟩
def ale{f:Fn}(h:f t=0):VC f<|fC t:=λe he q r hq hr=>⟨t,by unfold fC at hq;grind,by unfold fC at hr;grind,by rw [h];exact kY ψ⟩
def avu(z:bK c)(sq:Ja (FF c)<|FF<|bQ c)(l2:2<=lg c)(h:FF c t=0):I9 c t t:=⟨agr z t,sq,l2,by rw [qF ψ];exact ale h⟩
def ap3(t:Rat):I9 (KA t) t t:=avu (Np t) (apL t) (by rw [Ye];omega)<|afR t
def apM:∀B w v,fP B w (.a 2 2<|λi' j'=>((zn K (-t.num)++zn K (t.den:Int))[i'*2+j']?).getD<|.v undef) v->fP B w (bP K (lg<|KA t)<|KA t) v:=by rw [Ye];refine jZ λi hi j hj=>?_;match i,j,hi,hj with|0,0,_,_=>exact λ_ _ _ h=>h|0,1,_,_=>exact λ_ _ _ h=>h|1,0,_,_=>exact λ_ _ _ h=>h|1,1,_,_=>exact λ_ _ _ h=>h
def an4{l:Lf}(h:∀B w v,fP B w l v->fP B w (bP K (lg c) c) v):AV.le (.d<|.j<|[l]++tn L lo++tn M hi)<|.d<|.j<|Xu K c L lo M hi:=
 lV (Cc (Cc (λB w cs k=>match cs,k with|[v],⟨k,_⟩=>⟨h B w v k,Pe⟩) ψ) ψ)
def axY(hK:K<=1000000):aH prog 135 [.j<|tn K t]<|.d<|.j<|[.a 2 (lg<|KA t)<|aX K<|KA t]++tn K t++tn K t:=by exact aN 15 [.cell 2 90] func135 O<|cR<|mO O<|mO O<|I<|cR<|mW O<|mY x9 O<|mZ O<|I<|au<|cDk 10<|oE 2 O<|oC (UF<|jT K<|Rat.num t) O<|oE 2 O<|.cons (aC.B _ O)<|oE 2 O<|oC x9 O<|oV O<|.nil<|mZ O<|I<|aQ<|rQ O<|an4 apM
/-
 ALGEBRAIC NUMBERS, by the machine (8): Rational.
-/
abbrev AT:=(Nat->Int)×Rat×Rat
variable {As:List AT}
def ga(As:List AT)(i:Nat):AT:=As.getD i (λ_=>0,0,0)
def ac(As:List AT)(i:Nat):Nat->Int:=(ga As i).1
def al(As:List AT)(i:Nat):Rat:=(ga As i).2.1
def ah(As:List AT)(i:Nat):Rat:=(ga As i).2.2
def acu(As:List AT)(i:Nat):dQ:=eP (ac As i) (al As i)<|ah As i
def yT(K L:Nat)(As:List AT):Nat->Nat->Lf:=λi j=>((Xu K (ac As i) L (al As i) L<|ah As i)[j]?).getD<|.v undef
def Ar(As:List AT):Nat->Nat
 |0=>0
 |i+1=>if dU (acu As<|i+1) (acu As<|Ar As i)<0 then i+1 else Ar As i
def Ns(As:List AT):∀i,Ar As i<=i
 |0=>aav _
 |i+1=>by unfold Ar;split;exact aav _;exact Nat.le_succ_of_le<|Ns As i
def apR(h:dU (acu As<|1+i) (acu As<|Ar As i)<0):1+i=Ar As (i+1):=by rw [Nat.add_comm 1 i] at *;exact(if_pos h).symm
def apQ(h:¬dU (acu As<|1+i) (acu As<|Ar As i)<0):Ar As i=Ar As (i+1):=by rw [Nat.add_comm 1 i] at *;exact(if_neg h).symm
def slL{T:TypeId->Option TI}{t:TypeId}{ti te:TI}{k:IntKind}{z:Int}{lo:Operand}(h1:T t=some ti)(h2:ti.elem=some e)(h3:T e=some te)(h4:nC s lo=some (k,z))(h5:dR s x=some (.d<|.o<|.a sz n el))(h6:Nat.beq sz te.n=true)(hz:0<=z)(hz2:z<=(n:Int)):kE T s (.slice t x (some lo) none none)=some (.d<|.o<|.a sz (n-z.toNat) λi j=>el (z.toNat+i) j):=by have h6':=abr h6;simp only [kE,h1,h2,h3,h5,sS,h4,if_pos hz];rw [if_pos Z];rfl
def alK{j:Nat}{t:TypeId}(h:i=j):AO.le (.b t<|Xu K (ac As i) L (al As i) L<|ah As i)<|.b t<|Xu K (ac As j) L (al As j) L<|ah As j:=by subst h;exact λ_ _ _ _ h=>h
def as7(h:∀i,i<n->I9 (ac As i) (al As i) (ah As i))(hn:As.length<=n)(i:Nat):bK<|ac As i:=by by_cases hi:i<n;exact(h i hi).ok.z;have e:ga As i=(λ_=>0,0,0):=(by unfold ga;rw [List.getD_eq_getElem?_getD,List.getElem?_eq_none Z];rfl);unfold ac;rw [e];exact kL
def anD(hn:n=As.length)(hn0:n≠0)(hn1:n<=1000)(hok:∀i,i<n->I9 (ac As i) (al As i) (ah As i))(Uo:∀i,i<n->lg (ac As i)<=N)(hN:N<=10)(zG:(21*K+3+1)*(2*3^N)<=KC)(hC:KC<=90000000)(hX:11*L+320*K+300<=X)(hX1:X<=100000):aH prog 274 [.o<|.a 9 n<|yT K L As]<|.dY [.j<|[.a 2 (lg<|ac As<|Ar As<|n-1)<|aX K<|ac As<|Ar As<|n-1]++tn L (al As<|Ar As<|n-1)++tn L (ah As<|Ar As<|n-1),.o<|.v<|.bool true]:=by have hz:=as7 hok Z;refine aN 29 [.cell 2 90,.tmp 3] func274 O<|cR<|mO O<|mW O<|I<|au<|cR<|mE 2 O<|mbF O (acz.2 Z)<|I<|cFs O<|cR<|mW O<|mV aj (.d<|.o<|.at 9<|(yT K L As) 0) (jh (el:=(yT K L As)) (z:=0) (n:=n) O O O O O O Z Z)<|mW O<|mO O<|mZ O<|I<|au<|cR<|mW O<|mV aj (.d<|.o<|.a 9 (n-1)<|λi j=>yT K L As (1+i) j) (slL (z:=1) (n:=n) O O O O O O Z Z)<|mE 2 O<|I<|aK<|dL (ι:=Nat) (λi=>⟨29,[(2,.p 2 0),(3,.d<|.o<|.v<|.bool false),(4,.p 4 0),(15,.d<|.o<|.a 9 (n-1)<|λi j=>yT K L As (1+i) j),(16,dI ((n-1:Nat):Int)),(17,dI (i:Int))],[(2,.b 90<|[.v aAy,.v<|.bool false,.v aAy,.v<|.bool false,.v aAy,.v<|.bool false,.v aAy,.v<|.bool false,.v aAy]),(4,.b 90<|[.a 2 (lg<|ac As<|Ar As i)<|aX K<|ac As<|Ar As i]++tn L (al As<|Ar As i)++tn L (ah As<|Ar As i))]⟩) (λi=>i<=n-1) (λi=>n-1-i) 0 (abJ _) (wkv [5] [] aCk trivial O O) ?_;rintro i hi;refine cR<|mW O<|I<|au<|bI O (λhc1=>?_) (λhc1=>?_);refine aO<|tN<|au<|aK<|au ?_;have hin:i<n-1:=aCb;have hle:=Ns As i;refine aA<|mV aj (.d<|.o<|.at 9<|(λi j=>yT K L As (1+i) j) i) (jh (el:=(λi j=>yT K L As (1+i) j)) (z:=(i:Int)) (n:=(n-1)) O O O O O O Z Z)<|mW O<|mO O<|mZ O<|I<|cR<|mE 2 O<|mY (als (KC:=KC) (N:=N) (hok (1+i) Z) (hok (Ar As i) Z) hN (Uo (1+i) Z) (Uo (Ar As i) Z) zG hC hX hX1) O<|mW O<|I<|bI O (λhc2=>?_) (λhc2=>?_);exact aA<|mW O<|mZ O<|ak<|bN<|tN<|aA<|mE 2 O<|ak<|⟨(i+1),by omega,by omega,wkv [5] [1] aCf ⟨eG O<|alK<|apR<|abd hc2,Pe⟩ O O⟩;exact aO<|bN<|tN<|aA<|mE 2 O<|ak<|⟨(i+1),by omega,by omega,wkv [5] [1] aCf ⟨eG O<|alK<|apQ<|aa1 hc2,Pe⟩ O O⟩;exact bZ<|tE<|tE<|bE<|tN<|cR<|mW O<|mY (aib (hz<|Ar As i) Z Z Z) O<|mZ O<|mW O<|I<|aQ<|rQ O (by have h0:=aa1 hc1;obtain rfl:i=n-1:=by {omega};exact AV.le.rfl)
def agQ{a:Nat->Int}(za:bK a)(h:lg a≠0->Pm (lg a) a):aW a=a:=by by_cases h0:lg a=0;have h1:=(iM za).1 h0;funext i;unfold aW CS l7;simp_all;have p:=h h0;have e:lC a (lg a)=1:=(by unfold lC;rw [p.one,if_neg<|by have:=p.lead;omega];rfl);funext i;unfold aW CS l7;simp_all
def H6.pow{a b:Fn}(h:H6 a b)(pa:Po a)(pb:Po b):∀n:Nat,H6 a (λx=>b x^n)
 |0=>aG3
 |n+1=>by
  have h1:=(h.pow pa pb n).mul h pa (pb.pow n) pb;grind
def ahn{s s' t:Fn}(h:Ja s s')(hne:∃x,s x≠0)(pt:Po t)(hd:Dv s<|λx=>t x^N):Dv s t:=by have⟨m,ht⟩:=pt;have⟨d,u,v,p,q,pd,pu,pv,pp,pq,e1,e2,e3⟩:=NR m s t h.po ht;have⟨d',pd',dd⟩:=pd.y8;have⟨p',pp',dp⟩:=pp.y8;have cpd:H6 p d:=h.aer pp pd pp' pd' dp dd e2;have dne:∃x,d x≠0:=ψ;have cpq:H6 p q:=⟨u,v,pu,pv,qg pd dne ((pu.mul pp).add<|pv.mul pq) (dh 1) ψ⟩;have cpt:H6 p t:=(by have h1:=cpq.mul cpd pp pq pd;rwa [show(λx=>q x*d x)=t from funext λx=>(e3 x).symm] at h1);have cpN:=cpt.pow pp ψ N;have dps:Dv p s:=⟨d,pd,λx=>by rw [e2];exact ajq _ _⟩;have⟨w,pw,hw⟩:=cpN.dv (dh 1)<|(dps.trans hd).avk<|dh 1;exact⟨λx=>w x*q x,pw.mul pq,λx=>by grind⟩
def amM(zf:bK f)(zg:bK g)(mf:Pm (lg f) f)(mg:Pm (lg g) g)(h1:Dv (FF f)<|FF g)(h2:Dv (FF g)<|FF f):f=g:=by have l1:=(oO zg zf mg.pos h1).2;have l2:=(oO zf zg mf.pos h2).2;have⟨W,pW,hW⟩:=h1;have⟨w,k,hw,hc,_⟩:=qp zg.lg zf.lg mf.one pW (λx=>by rw [jU zg,jU zf];exact hW x);have zw:=PW zf zg mf.pos hw hc;have⟨hlq,_⟩:=CU zw zf zg hc mf.pos;have hl1:lg w=1:=Z;have mw:=Yq zw zf zg hc mf mg;have hd:(w 0).natAbs∣dM w (lg w):=BP λi hi=>(by obtain rfl:i=0:=Z;exact Nat.dvd_refl _);rw [mw.one] at hd;have h0:0<w 0:=(by have h:=mw.lead;grind);have hw1:w 0=1:=aG9;have hF:∀x,FF w x=1:=λx=>(by rw [<-jU zw,hl1];exact CJ.trans<|by rw [hw1];rfl);have e:bW w f=g:=ψ;refine funext (Qh zf zg λx=>?_);have h9:=uU (n:=1) (m:=20) (a:=w) (b:=f) (λi hi=>zw.lg i Z) zf x;rw [e,Ba (c:=g) (n:=1+20) (λi hi=>zg i Z) zg] at h9;have h8:=hF x;rw [<-jU zw,hl1] at h8;rw [h9,h8];show FF f x=1*FF f x;grind
def AZ.uniq(h:AZ c M f)(k:AZ c M' g):f=g:=by have key:∀{f g:Nat->Int}{M M':Nat},AZ c M f->AZ c M' g->Dv (FF f) (FF g):=(by intro f g M M' h k;have⟨N,w,pw,e⟩:=k.pw;exact ahn h.sq (uz h.z h.ne) (dG k.z)<|h.dv.trans ⟨w,pw,e⟩);exact amM h.z k.z h.pm k.pm ψ ψ
def qy(c:Nat->Int):Nat->Int:=open Classical in if h:∃f M,AZ c M f then h.choose else c
def AZ.eq(h:AZ c M f):f=qy c:=by have hx:∃f M,AZ c M f:=ψ;unfold qy;rw [dif_pos hx];have⟨M',h'⟩:=hx.choose_spec;exact h.uniq h'
def AZ.self(h:AZ c M f):AZ c M<|qy c:=h.eq▸h
def KN(z:bK c)(b:Lb M c)(pm:Pm (lg c) c)(h:Ja (FF c)<|FF<|bQ c):AZ c M c:=⟨z,b,pm,Dv.refl _,⟨1,λ_=>1,dh 1,λx=>by simp_all⟩,h⟩
def MC(z:bK c):∃K,1<=K/\Lb K c:=by
 have key:∀n:Nat,∃K,1<=K/\∀i,i<n->(c i).natAbs<dF^K:=(by intro n;induction n with|zero=>exact⟨1,aav _,λi hi=>absurd hi<|acH _⟩|succ n ih=>have⟨K,h1,h⟩:=ih;refine⟨K+(c n).natAbs,by omega,λi hi=>?_⟩;by_cases e:i<n;exact acI (h i e)<|acC φ Z;obtain rfl:i=n:=Z;exact avf);have⟨K,h1,h⟩:=key 20;exact⟨K,h1,λi=>by
  by_cases hi:i<20
  ·simp_all
  ·rw [z i Z];grind⟩
def agI{r:Nat->Int}(z:bK r)(pm:Pm (lg r) r)(h:lg r=1):r=dV 1:=by have hd:(r 0).natAbs∣dM r (lg r):=BP λi hi=>aCj;rw [pm.one] at hd;have h0:0<r 0:=(by have k:=pm.lead;simp_all);have h1:r 0=1:=aG9;funext i;by_cases hi:i=0;subst hi;exact h1;rw [oH i Z];exact z.lg i Z
def jE:bK<|dV 1:=λi hi=>oH i Z
def o8:lg (dV 1)=1:=by rfl
def DJ:Pm (lg<|dV 1)<|dV 1:=⟨jE.ip,by rw [o8];decide,by rfl,by rw [o8];decide⟩
def um(x:Rat):FF (dV 1) x=1:=by rw [<-jU jE,o8];exact CJ.trans O
def TP:qy (dV 1)=dV 1:=by have⟨M,_,hM⟩:=MC jE;exact(KN jE hM DJ aDw).eq.symm
def TQ{r:Nat->Int}(zr:bK r)(pr:Pm (lg r) r)(h2:2<=lg r)(h10:lg r<=10)(hg:rD r (bQ r) M g):(∃M',AZ r M'<|qy r)/\∀i,bW (qy r) g i=r i:=by have e:aW r=r:=agQ zr λ_=>pr;have⟨hg0,hgl⟩:=hg.le zr pr.pos;have⟨W,pW,hW⟩:=hg.OH.da;have⟨w,k,hw,hc,_⟩:=qp zr.lg hg.z.lg (hg.pm hg0).one pW (λx=>by rw [jU zr,jU hg.z];exact hW x);have zw:=PW hg.z zr hg0 hw hc;have⟨K,_,hK⟩:=MC zr;have hs:AZ r (21*K+3) w:=am6 zr h2 h10 hK (by rw [e];omega) zw aCj;exact⟨⟨_,hs.self⟩,by rw [<-hs.eq];omega⟩
structure Xi(c:Nat->Int)(Rs:List<|Nat->Int):Prop where
 ne:1<=Rs.length
 h0:gl Rs 0=aW c
 z:∀i,bK<|gl Rs i
 pm:∀i,i<Rs.length->Pm (lg<|gl Rs i) (gl Rs i)
 dv:∀i,i<Rs.length->Dv (FF<|gl Rs i) (FF c)
 l:∀i,lg (gl Rs i)<=lg c
 st:∀i,i+1<Rs.length->2<=lg (gl Rs i)/\∃M,rD (gl Rs i) (bQ<|gl Rs i) M<|gl Rs<|i+1
 ln:Rs.length+lg (gl Rs<|Rs.length-1)<=lg c+1
def J9{L:List (Nat->Int)}(h:L.length<=i):gl L i=λ_=>0:=by unfold gl;rw [List.getD_eq_getElem?_getD,List.getElem?_eq_none h];rfl
def QY(z:bK c)(h0:lg c≠0):Dv (FF<|aW c)<|FF c:=by have⟨s,hs0,hs⟩:=rC z h0;exact⟨λ_=>s,dh s,hs⟩
def Xi.aho(zc:bK c)(h2:lg c≠0):Xi c [aW c]:=by
 have hl:=gZ zc;refine⟨aav _,O,λi=>?_,λi hi=>?_,λi hi=>?_,λi=>?_,λi hi=>absurd hi aCj,by show 1+lg (aW c)<=_;omega⟩
 ·cases i with
  |zero=>exact jH zc
  |succ i=>rw [J9 aCj];exact kL
 ·obtain rfl:i=0:=by simp_all
  exact wu zc Z
 ·obtain rfl:i=0:=by simp_all
  exact QY zc Z
 ·cases i with
  |zero=>exact Nat.le_of_eq hl
  |succ i=>rw [J9 aCj];exact axl
def nX{L:List (Nat->Int)}{b:Nat->Int}(i:Nat):gl (L++[b]) i=if i<L.length then gl L i else if i=L.length then b else λ_=>0:=by split;rename_i h;exact zD h;split;rename_i h;rw [h];exact zF;exact J9 ψ
def yH(z:bK c)(h:lg c≠0):lg (bQ c)<lg c:=by have:lg (bQ c)<=lg c-1:=jc (fV z) λi hi=>vT z.lg i Z;omega
def Xi.step{Rs:List (Nat->Int)}(h:Xi c Rs)(zc:bK c)(h0:lg c≠0)(h2:2<=lg (gl Rs<|Rs.length-1))(hg:rD (gl Rs<|Rs.length-1) (bQ<|gl Rs<|Rs.length-1) M g):Xi c<|Rs++[g]:=by have hne:=h.ne;have zl:=h.z<|Rs.length-1;have hd2:lg (bQ<|gl Rs<|Rs.length-1)≠0:=λe=>(by have:=rH zl e;omega);have⟨hg0,hgl⟩:=hg.le' (fV zl) hd2;have hlt:=yH zl Z;have hll:=h.l<|Rs.length-1;have hlen:(Rs++[g]).length=Rs.length+1:=aCj;refine⟨by omega,by rw [zD Z];exact h.h0,λi=>?_,λi hi=>?_,λi hi=>?_,λi=>?_,λi hi=>?_,?_⟩;rw [nX];split;exact h.z i;split;exact hg.z;exact kL;rw [nX];split;rename_i h1;exact h.pm i h1;rw [if_pos Z];exact hg.pm hg0;rw [nX];split;rename_i h1;exact h.dv i h1;rw [if_pos Z];exact hg.OH.da.trans<|h.dv _ Z;rw [nX];split;exact h.l i;split;omega;exact axl;rw [nX i,nX<|i+1,if_pos Z];by_cases e:i+1<Rs.length;rw [if_pos e];exact h.st i e;grind;rw [hlen,Nat.add_sub_cancel,zF];have:=h.ln;omega
structure FcE(c:Nat->Int)(Rs:List<|Nat->Int):Prop where
 len:2<=Rs.length
 l11:Rs.length<=lg c+1
 h0:gl Rs 0=aW c
 z:∀i,bK<|gl Rs i
 pm:∀i,i<Rs.length->Pm (lg<|gl Rs i) (gl Rs i)
 dv:∀i,i<Rs.length->Dv (FF<|gl Rs i) (FF c)
 l:∀i,lg (gl Rs i)<=lg c
 q1:∀i,i+1<Rs.length->∀j,bW (qy<|gl Rs i) (gl Rs<|i+1) j=gl Rs i j
 sq:∀i,i<Rs.length->∃M,AZ (gl Rs i) M<|qy<|gl Rs i
 l1:gl Rs (Rs.length-1)=dV 1
 l2:gl Rs (Rs.length-2)=dV 1
 lo:Rs.length=2\/2<=lg (gl Rs<|Rs.length-3)
def Xi.fin{Rs:List (Nat->Int)}(h:Xi c Rs)(zc:bK c)(h2:2<=lg c)(h10:lg c<=10)(hl:lg (gl Rs<|Rs.length-1)<=1):FcE c<|Rs++[dV 1]:=by have hne:=h.ne;have hln:=h.ln;have hlast:gl Rs (Rs.length-1)=dV 1:=agI (h.z _) (h.pm _ Z) (by have:=(h.pm (Rs.length-1) Z).pos;omega);have hlen:(Rs++[dV 1]).length=Rs.length+1:=aCj;have h2l:2<=Rs.length:=(by apply abt;intro hn;have e:Rs.length-1=0:=Z;rw [e,h.h0,gZ zc] at hl;omega);have hlg1:lg (gl Rs<|Rs.length-1)=1:=(by rw [hlast];rfl);refine⟨by omega,by omega,by rw [zD Z];exact h.h0,λi=>?_,λi hi=>?_,λi hi=>?_,λi=>?_,λi hi=>?_,λi hi=>?_,by rw [hlen,Nat.add_sub_cancel];exact zF,by rw [hlen,show Rs.length+1-2=Rs.length-1 by omega,zD Z];omega,?_⟩;rw [nX];split;exact h.z i;split;exact jE;exact kL;rw [nX];split;rename_i h1;exact h.pm i h1;rw [if_pos Z];exact DJ;rw [nX];split;rename_i h1;exact h.dv i h1;rw [if_pos Z];exact aEV;rw [nX];split;exact h.l i;split;rw [o8];omega;exact axl;rw [nX i,nX<|i+1,if_pos Z];by_cases e:i+1<Rs.length;rw [if_pos e];have⟨k2,M,hg⟩:=h.st i e;exact(TQ (h.z i) (h.pm i Z) k2 (by have:=h.l i;omega) hg).2;rw [if_neg e,if_pos Z];obtain rfl:i=Rs.length-1:=Z;rw [hlast,TP];have h9:∀x,FF (bW (dV 1)<|dV 1) x=FF (dV 1) x:=λx=>aD3;exact Qh (bK.of (gJ (λi hi=>oH i hi)<|λi hi=>oH i hi) Z) jE h9;rw [nX];have h1:∃M,AZ (dV 1) M<|qy<|dV 1:=(by have⟨M,_,hM⟩:=MC jE;exact⟨M,(KN jE hM DJ aDw).self⟩);split;rename_i e;by_cases e2:i+1<Rs.length;have⟨k2,M,hg⟩:=h.st i e2;exact(TQ (h.z i) (h.pm i Z) k2 (by have:=h.l i;omega) hg).1;grind;grind;rw [hlen];refine Or.inr ?_;rw [show Rs.length+1-3=Rs.length-2 by omega,zD Z];exact(h.st (Rs.length-2) Z).1
section
variable {c:Nat→Int} {Rs:List (Nat→Int)}
def FcE.quo(h:FcE c Rs)(h10:lg c<=10)(i:Nat)(hi:i+2<Rs.length):∃f,bK f/\Pm (lg f) f/\(∀j,bW f (qy<|gl Rs<|i+1) j=qy (gl Rs i) j)/\Dv (FF f) (FF c):=by
 have⟨M,k⟩:=h.sq i Z;have⟨M',k'⟩:=h.sq (i+1) Z;have hq:=h.q1 i Z;have hx:lg (qy<|gl Rs i)<=lg c:=(by exact axW);have d1:Dv (FF<|gl Rs<|i+1)<|FF<|gl Rs i:=⟨FF<|qy<|gl Rs i,dG k.z,λx=>by
  rw [<-sG k.z.lg (h.z<|i+1).lg (by have:=h.l<|i+1;omega) k.z (h.z (i+1)),show bW (qy (gl Rs i)) (gl Rs (i+1))=gl Rs i from funext hq]⟩
 have⟨N,w,pw,e⟩:=k.pw;have d2:Dv (FF<|qy<|gl Rs<|i+1)<|FF<|qy<|gl Rs i:=ahn k'.sq (uz k'.z k'.ne) (dG k.z)<|(k'.dv.trans d1).trans ⟨w,pw,e⟩;have⟨W,pW,hW⟩:=d2;have⟨f,n,hf,hc,_⟩:=qp k.z.lg k'.z.lg k'.pm.one pW (λx=>by rw [jU k.z,jU k'.z];exact hW x);have zf:=PW k'.z k.z k'.ne hf hc;refine⟨f,zf,Yq zf k'.z k.z hc k'.pm k.pm,hc,?_⟩;have hlq:=(CU zf k'.z k.z hc k'.ne).1;have d3:Dv (FF f)<|FF<|qy<|gl Rs i:=⟨FF<|qy<|gl Rs<|i+1,dG k'.z,λx=>by
  rw [<-show bW f (qy<|gl Rs<|i+1)=qy (gl Rs i) from funext hc,sG zf.lg k'.z.lg (by have:=k'.ne;have:=dN<|qy<|gl Rs<|i+1;omega) zf k'.z];grind⟩
 exact(d3.trans k.dv).trans (h.dv i Z)
def lI(Rs:List<|Nat->Int)(i:Nat):Nat->Int:=open Classical in if h:∃f,bK f/\∀j,bW f (qy<|gl Rs<|i+1) j=qy (gl Rs i) j then h.choose else λ_=>0
def abw{f' p:Nat->Int}(zf:bK f)(zf':bK f')(zd:bK d)(zp:bK p)(hd:lg d≠0)(h:∀j,bW f d j=p j)(h':∀j,bW f' d j=p j)(hl:lg p<=10):f=f':=by have key:∀{f:Nat->Int},bK f->(∀j,bW f d j=p j)->∀x,FF p x=FF f x*FF d x:=(by intro f zf h x;have hq:=CU zf zd zp h hd;have hb:lg f+lg d<=20:=(by by_cases h0:lg f=0;have:=dN d;omega;omega);rw [<-show bW f d=p from funext h,sG zf.lg zd.lg hb zf zd]);refine funext (Qh zf zf' λx=>qg (dG zd) (uz zd hd) (dG zf) (dG zf') (λt=>?_) x);grind
def wX(h:FcE c Rs)(h10:lg c<=10)(i:Nat)(hi:i+2<Rs.length):bK (lI Rs i)/\Pm (lg<|lI Rs i) (lI Rs i)/\(∀j,bW (lI Rs i) (qy<|gl Rs<|i+1) j=qy (gl Rs i) j)/\Dv (FF<|lI Rs i) (FF c):=by have⟨f,zf,pf,hc,hd⟩:=h.quo h10 i hi;have hx:∃f,bK f/\∀j,bW f (qy<|gl Rs<|i+1) j=qy (gl Rs i) j:=ψ;have e:lI Rs i=f:=(by unfold lI;rw [dif_pos hx];have⟨M,k⟩:=h.sq i Z;have⟨M',k'⟩:=h.sq (i+1) Z;have hxl:lg (qy<|gl Rs i)<=lg c:=(by exact axW);exact abw hx.choose_spec.1 zf k'.z k.z k'.ne hx.choose_spec.2 hc Z);simp_all
end
def zA(Rs:List<|Nat->Int)(k:Nat):List<|Nat->Int:=(List.range k).map<|lI Rs
def Ve(Rs:List<|Nat->Int)(k:Nat):(zA Rs k).length=k:=by unfold zA;simp_all
def Q9(Rs:List<|Nat->Int)(k i:Nat)(h:i<k):gl (zA Rs k) i=lI Rs i:=by unfold zA gl;rw [List.getD_eq_getElem?_getD,List.getElem?_map,List.getElem?_range h];rfl
def DvB(c:Nat->Int)(M:Nat):Prop:=∀g,bK g->dM g (lg g)=1->Dv (FF g) (FF c)->Db M g
section
variable {P:Program} {ops:Array Oper} {Q:Qs} {s:AS} {o:Oper}
def ah4(P:Program)(ops:Array Oper)(Q:Qs)(n:Nat)(listed:Array Bool)(s:AS):Prop:=∀B0 w0 a w,Ou s B0 w0 a w->wpAny P .any ops (DQ Q B0 w0) n listed a w
def bOf{listed:Array Bool}(h:Qe P ops Q n listed s):ah4 P ops Q n listed s:=λB0 w0 a w hd=>OV n listed s a w h hd
def Y6{id:Nat}(hm:P.follows .mixedOrders=true)(h:ah4 P l.toArray Q l.length (Array.replicate l.length false) s):AW P (.region id l.toArray true) Q s:=by intro B0 w0 a w hd;refine wp_region_any hm ?_;have hd':Ou s B0 w0 a {w with drawn:=w.drawn+1}:=(by have⟨ρ,hc,hn,hdf,hs⟩:=hd;have hK:nH (Bd ρ B0) w w.drew:=aCu;exact⟨ρ,⟨hc.bel.step (Below.refl _ _).drew,hc.b0,λid v hv=>let ⟨ob,h1,h2⟩:=hc.obj id v hv;⟨ob,h1,h2.mv hK ψ<|λ_ _=>rfl⟩,hc.dist⟩,hn,hdf,λt av ht=>let ⟨v,h1,h2⟩:=hs t av ht;⟨v,h1,AR.mv hK ψ ψ h2⟩⟩);have:=h B0 w0 a _ hd';omega
def EvP(P:Program)(s:AS)(o:Oper)(av:AV):Prop:=∀(ρ:lq) (B:BS) (w:World) (a:Act),(∀x∈o.op.operands,∀mJ,dR s x=some mJ->AR ρ B w mJ (a.eval x))->∃v,(∀w',(execOp a.eval o).run P w'=.ok (.value v) w')/\AR ρ B w av v
def qj{listed:Array Bool}(i:Nat)(hi:ops[i]?=some o)(hs:Region.noSelect ops=true)(hf:Region.free .any ops listed i=true)(hr:(Region.ready .any ops listed).contains i=true)(hP:∀c s,¬Q (.panic c) s)(hg:o.guard=none)(hd:jQ o.dst s.n=true)(h:EvP P s o av)(k:ah4 P ops Q n (listed.setIfInBounds i true)<|s.put o.dst av):ah4 P ops Q (n+1) listed s:=by rintro B0 w0 a w ⟨ρ,hc,hn,hdf,hsl⟩;have⟨v,hv,hav⟩:=h ρ (Bd ρ B0) w a (λx hx mJ hg=>cu hsl hg);refine wpAny_take hi hs hf hr ?_ (Or.inl ⟨by unfold Region.wanted;rw [hg],hv⟩)<|k B0 w0 _ w<|kS hc hn hdf hsl hd hav;rintro c a' w' ⟨s',hq,_⟩;simp_all
def uH(hop:o.op=.move x)(hx:dR s x=some av):EvP P s o av:=fun ρ B w a ho=>⟨a.eval x,λw'=>by {unfold execOp;rw [hop];rfl},ho x aCz _ hx⟩
end
def LH{k:IntKind}{d:Nat}(h:nC s x=some (k,(n:Int))):sS s (some x) d=some n:=by unfold sS;simp_all
def ad8{a:Act}{d r y:Nat}{code:BoundsCode}(h:sS s (some x) d=some r)(hy:r<=y)(hs:∀mJ,dR s x=some mJ->AR ρ B w mJ (a.eval x))(w':World):(Instr.sliceBound (a.eval x) y code).run P w'=.ok r w':=by unfold sS at h;simp only at h;split at h;rename_i k z hx;split at h;rename_i hz;cases h;have he:=ajD hx hs;exact axD;cases h;cases h
structure vH(P:Program)(f:FuncId)(args:List DV)(e:TypeId)(sz n:Nat)(el:Nat->Nat->Lf):Prop where
 en:∀vs w,(callFunc f vs).run P w=.ok (.enter f vs) w
 go:∀(B:BS) (w:World) (vs:List Value),(∀b,B b->b<w.heap.size)->DY B w args vs->Calls P f vs.toArray w λr w'=>∃v,r=.returned v/\Below w.heap.size w w'/\OR (λb=>B b\/kK v=some b) ⟨w,λ_=>False⟩ w' (.a e sz n el) v
def mCR{ops:Array Oper}{Q:Qs}{o:Oper}{c:Call}{f:FuncId}{ds:List DV}{d:Nat}(h:vH P f ds e sz n el)(hc:gX o.op=some c)(hf:isF c.callee=some f)(ha:nK s c.args.toList=some ds)(hdst:o.dst=some d)(hfr:lk s.hp d=none) 
  (k:AL P ops Q l<|s.mk' d<|.a e sz n el) (hg:jD ops s o=some true:=by rfl) (hd:jQ (some d) s.n=true:=by rfl):AL P ops Q (o::l) s:=by rintro B0 w0 a w ⟨ρ,hcr,hn,hdf,hs⟩;have⟨vs,hvs,hr⟩:=yN (cap:=[]) hs hc (MV hf) ha h.en;rw [List.append_nil] at hvs;refine Oc aDG hr<|(h.go (Bd ρ B0) w vs hcr.UO hvs).mono ?_;rintro r w' ⟨v,rfl,hb,xs,hown,hel⟩;refine⟨v,O,?_⟩;have hρ:ρ d=none:=(by cases hρ:ρ d with|none=>rfl|some u=>have⟨ob',h1,_⟩:=hcr.obj d u hρ;simp_all);have hv:∀b,kK v=some b->w.heap.size<=b:=λb e=>(hown.2 b e).elim id (λh=>h.elim);have hB:∀b,Bd (up ρ d v) B0 b->Bd ρ B0 b\/kK v=some b:=aDv;have eG:OR (Bd (up ρ d v) B0) w0 w' (.a e sz n el) v:=⟨xs,aFS,λi j hi hj=>let ⟨x,hx,hl⟩:=hel i j hi hj;⟨x,hx,fP.mv aCu (λb _ hb=>hB b hb) _ hl⟩⟩;have hc':gq (up ρ d v) B0 w0 w' ((d,.a e sz n el)::s.hp):=hcr.new hρ hb hv (λk ob hk hne=>by rw [aY,if_neg<|λe=>hne e.symm];omega) aCN eG;have dW:gu (up ρ d v) (Bd (up ρ d v) B0) w' s.sl a:=λt av ht=>let ⟨u,h1,h2⟩:=hs t av ht;⟨u,h1,h2.new hρ hb hv⟩;refine k B0 w0 _ w'<|aq1
def arK(t:Nat)(r:AO):Qs
 |.normal,s|.ret,s=>∃id ob,lk s.sl t=some (.q id)/\lk s.hp id=some ob/\AO.le ob r
 |_,_=>False
def rR{t:Nat}{r:AO}(id:Nat){ob:AO}(h:lk s.sl t=some (.q id))(k:lk s.hp id=some ob)(hl:AO.le ob r):arK t r .ret s:=⟨id,ob,h,k,hl⟩
def adP{T : TypeId -> Option TI}(hT : xZ P T){f : FuncId}{fn : Func}{c : Code}{args : List DV}{el : Nat -> Nat -> Lf}(n t : Nat)(hf : P.funcs[f]? = some fn)(hb : fn.body = some c)(hnm : (fn.name == "runtime.NumGoroutine") = false)(hn : fn.ntmps = n)(hrs : fn.results.toList = [.tmp t])(hlen : Nat.ble args.length n = true) 
  (h:AW P c (arK t (.a e sz m el)) ⟨n,zV 0 args,[]⟩):vH P f args e sz m el:=by subst hn;refine⟨λvs w=>?_,λB w vs hB hvs=>?_⟩;have hnm' : ¬ fn.name = "runtime.NumGoroutine" := aCj;simp [callFunc,hf,hb,hnm'];refine calls_of_wp hf hb ?_;have hle:=acN hlen;have hvl:=hvs.len;have hden:Ou ⟨fn.ntmps,zV 0 args,[]⟩ B ⟨w,λ_=>False⟩ {tmps:=vs.toArray++Array.replicate (fn.ntmps-vs.toArray.size) undef,defers:= []} w:=(by have hBd:∀b,b<w.heap.size->Bd (λ_=>none) B b->B b:=aFB;refine⟨λ_=>none,aF4,by simp;omega,O,λt av ht=>?_⟩;have hvs':DY (Bd (λ_=>none) B) w args vs:=hvs.mv aCu hBd;have⟨k,v,h1,h2,h3⟩:=IQ (ρ:=λ_=>none) hvs' ht;refine⟨v,?_,h3⟩;have hk:=(acf.1 h2).1;rw [h1,Nat.zero_add,Array.getElem?_append_left aGX];simpa using h2);refine Code.wp_mono (λe' a w' hq=>?_) (h B ⟨w,λ_=>False⟩ _ w hden);have⟨s',hq,ρ,hc,hn,hdf,hs⟩:=hq;have fin:(∃id ob,lk s'.sl t=some (.q id)/\lk s'.hp id=some ob/\AO.le ob (.a e sz m el))->∃v,(results fn a.tmps).run P w'= .ok v w'/\∃u,Ending.returned v= .returned u/\Below w.heap.size w w'/\OR (λb=>B b\/kK u=some b) ⟨w,λ_=>False⟩ w' (.a e sz m el) u:=(by rintro⟨id,ob,h1,h2,h3⟩;have⟨v,h4,h5,_⟩:=hs t _ h1;have⟨ob',h6,h7⟩:=hc.obj id v h5;rw [h2] at h6;cases h6;have h8:=h3 _ _ _ _ h7;refine⟨Yr [v],CX ?_,v,O,hc.bel.below ψ,h8.mv aCu (λb _ hb=>?_) ψ⟩;rw [hrs];have hv:(rvF a.tmps (.tmp t)).run P w'= .ok v w':=(by simp [rvF,Array.getD_eq_getD_getElem?,h4]);simp_all;rcases hb with hb | hb;exact Or.inl hb;exact aw7);cases e' with |normal=>have⟨v,h1,h2⟩:=fin hq;exact azX |ret=>have⟨v,h1,h2⟩:=fin hq;exact azX |exit id=>assumption |goto l=>assumption |panic ch=>exact hq.elim |outgrown=>exact hq.elim
def Uj(c:Nat->Int)(KC:Nat)(L:List<|Nat->Int):Prop:=∃p M,YG p M KC L/\gl L 0=c
def je(c:Nat->Int)(lo hi:Rat):Nat:=open Classical in if h:∃N,qQ (FF c) lo hi N then h.choose else 0
def JY(z:bK c)(hab:lo<=hi)(h:qQ (FF c) lo hi N):je c lo hi=N:=by have hx:∃N,qQ (FF c) lo hi N:=ψ;unfold je;rw [dif_pos hx];exact hx.choose_spec.uniq (dG z) hab h
section
variable {c:Nat→Int} {KC:Nat} {L:List (Nat→Int)}
def Uj.z(h:Uj c KC L):bK c:=by have⟨p,M,k,e⟩:=h;rw [<-e];exact k.z 0
def Uj.len(h:Uj c KC L):1<=L.length/\L.length<=11:=by have⟨p,M,k,e⟩:=h;exact⟨k.len,k.ln⟩
def Uj.zz(h:Uj c KC L)(i:Nat):bK<|gl L i:=by have⟨p,M,k,e⟩:=h;exact k.z i
def Uj.cnt(h:Uj c KC L)(hab:lo<=hi):vr (wz L lo)=vr (wz L hi)+je c lo hi/\(je c lo hi=0↔kD (FF c) lo hi)/\(2<=lg c->qQ (FF c) lo hi (je c lo hi)):=by have zc:=h.z;have⟨p,M,k,e⟩:=h;have⟨N,h1,h2,h3⟩:=k.cnt hab;rw [e] at h2 h3;by_cases hl:2<=L.length;have hN:=JY zc hab<|h3 hl;simp_all;have hl1:L.length=1:=(by have:=k.len;omega);have hlg:=k.cst hl1;rw [e] at hlg;have hf:kD (FF c) lo hi:=(by have⟨κ,hκ,hk⟩:=jo zc hlg;exact⟨gI κ,λh=>hκ<|gK.1 h,λt _ _=>by rw [hk]⟩);have h0:je c lo hi=0:=(by unfold je;split;rename_i hx;exact(hx.choose_spec.free (dG zc) hab).2 hf;rfl);simp_all
end
structure JK(c:Nat->Int):Prop where
 z:bK c
 l2:2<=lg c
 sq:Ja (FF c)<|FF<|bQ c
 ctd:∀lo hi,lo<=hi->qQ (FF c) lo hi (je c lo hi)
def JK.free(h:JK c)(hab:lo<=hi):je c lo hi=0↔kD (FF c) lo hi:=(h.ctd lo hi hab).free (dG h.z) hab
def Uj.cn{L:List (Nat->Int)}(h:Uj c KC L)(h2:2<=lg c):JK c:=⟨h.z,h2,by have⟨p,M,k,e⟩:=h;rw [<-e];exact k.sq.sq,λlo hi hab=>(h.cnt hab).2.2 h2⟩
def aje(z:bK c)(h2:2<=lg c):∃x,FF (bQ c) x≠0:=by refine uz (fV z) λe=>?_;have:=rH z e;omega
def aod(z:bK c)(h2:2<=lg c)(sq:Ja (FF c)<|FF<|bQ c):JK c:=by refine⟨z,h2,sq,λlo hi hab=>?_⟩;have⟨g,l,hst,_⟩:=sq.stm<|aje z h2;have⟨N,hN⟩:=qZ hst hab;have h:qQ (FF c) lo hi N:=⟨g,l,hst,hN⟩;rw [JY z hab h];exact h
section
variable {c:Nat→Int} {lo hi:Rat}
def Yt(f:Fn)(a:Rat):kD f a a:=⟨1,by decide,λt h1 h2=>by grind⟩
def JK.lt(h:JK c)(hab:lo<=hi)(hn:je c lo hi≠0):lo<hi:=by by_cases e:lo<hi;exact e;exfalso;have:lo=hi:=ψ;subst this;exact hn<|(h.free hab).2<|Yt _ _
def JK.add(h:JK c){m:Rat}(h1:lo<=m)(h2:m<=hi):je c lo hi=je c lo m+je c m hi:=by exact JY h.z ψ<|(h.ctd lo m h1).cat (dG h.z) h1 h2<|h.ctd m hi h2
def JK.okI(h:JK c)(hab:lo<=hi)(h1:je c lo hi=1):Bh (FF c) (FF<|bQ c) lo hi:=⟨h.sq,h.lt hab Z,by rw [<-h1];exact h.ctd lo hi hab⟩
def XM(c:Nat->Int)(lo hi:Rat):Rat×Rat:=if ¬lo=hi/\gI (FF c hi)=0 then(hi,hi) else(lo,hi)
def EX(c:Nat->Int)(lo hi:Rat):Prop:=lo=hi\/gI (FF c hi)≠0
def aeU(c:Nat->Int)(lo hi:Rat):EX c (XM c lo hi).1 (XM c lo hi).2:=by unfold XM;split;exact Or.inl O;rename_i h;by_cases e:lo=hi;exact Or.inl e;exact Or.inr λk=>h ψ
def JK.okV(h:JK c)(hab:lo<=hi)(h1:je c lo hi=1):I9 c lo hi:=by have o:=h.okI hab h1;have hlt:=o.lt;refine⟨⟨h.z,hab,λ_=>o⟩,h.sq,h.l2,?_⟩;rw [lD hlt];have⟨g,l,hst⟩:=o.stm;exact Zj hst (dG h.z) hlt λhf=>by have:=(h.free hab).2 hf;omega
def Q7(o:AQ c lo hi):Qj c lo hi (XM c lo hi).1 (XM c lo hi).2:=by unfold XM;by_cases h:¬lo=hi/\gI (FF c hi)=0;rw [if_pos h];have hlt:lo<hi:=(by have:=o.le;grind);refine⟨agr o.z hi,λq=>?_,o.le,by simp_all⟩;show eP c hi hi q↔_;rw [qF ψ,lD hlt];exact(O4 (o.i hlt) hlt ψ (gK.1 h.2) q).symm;rw [if_neg h];exact Qj.refl o
end
def spF(c:Nat->Int):Nat->Rat->Rat->List (Rat×Rat)
 |0,_,_=>[]
 |n+1,lo,hi=>if je c lo hi=0 then [] else if je c lo hi=1 then [XM c lo hi] else spF c n lo ((lo+hi)/2)++spF c n ((lo+hi)/2) hi
structure SpP(c:Nat->Int)(lo hi:Rat)(l:List<|Rat×Rat):Prop where
 ok:∀p∈l,I9 c p.1 p.2/\EX c p.1 p.2/\lo<=p.1/\p.2<=hi/\eP c p.1 p.2 lo
 all:∀C,dO C->VC (FF c) C->C lo->¬C hi->∃p∈l,∀q,eP c p.1 p.2 q↔C q
 rise:l.Pairwise λp q=>dU (eP c p.1 p.2) (eP c q.1 q.2)= -1
 len:l.length=je c lo hi
def He{f g:Fn}{l:List Fn}(hst:KY f g l)(pf:Po f)(h:kD f a b)(hC:dO C)(ca:C a)(cb:¬C b)(v:VC f C):False:=by
 have⟨a',h1,h2⟩:=hC.up a ca;have⟨s,hs,hst'⟩:=h;have hab:=hC.nb h2 cb;have⟨e,he,hf⟩:=MG hst pf (a:=a') (b:=b) ψ ψ λt t1 t2=>by grind
 have⟨t,t1,t2,ht⟩:=v (e/2) ψ a' b h2 cb;have:=hf t t1 t2;unfold Ab at ht;rcases this with k|k <;> grind
def JK.one(h:JK c)(hab:lo<=hi)(h1:je c lo hi=1)(hC:dO C)(v:VC (FF c) C)(ca:C lo)(cb:¬C hi)(q:Rat):eP c lo hi q↔C q:=by have o:=h.okI hab h1;have⟨g,l,hst⟩:=o.stm;rw [lD o.lt];constructor;intro k;apply abt;intro nq;have hq:=hC.nb ca nq;have hqh:q<hi:=(by rcases k with k|k;grind;exact k.1);exact He hst (dG h.z) ((Ii o ψ hqh).1 k) hC ca nq v;intro k;apply abt;intro nq;have hqh:=hC.nb k cb;have hf:kD (FF c) q hi:=abt λnf=>nq<|Or.inr ⟨hqh,nf⟩;exact He hst (dG h.z) hf hC k cb v
def Qa(h:JK c)(b1:∀i,(c i).natAbs<=2^h1)(hab:lo<=hi)(hl: -(t2<|h1+1)<=lo)(hh:hi<=t2 (h1+1))(hw:(hi-lo)*t2 (su (lg c) (lg c) h1 h1)<=1):je c lo hi<=1:=by have hlc:=dN c;have hp:=jr h1;have e2:t2 (h1+2)=t2 (h1+1)*2:=(by rw [show h1+2=(h1+1)+1 from O,lN (h1+1) 1];rfl);have hp1:=jr<|h1+1;have hin:In (t2<|h1+2) lo/\In (t2<|h1+2) hi:=(by unfold In;grind);have⟨U,V,z,hz,Kr,hU,hV,hL⟩:=aiZ h.z h.sq h.l2 b1 (h1+2) (lg c/2+1) aGH;have hx:=aji (n1:=lg c) (n2:=lg c) (h1:=h1) (h2:=h1) (hl:=h1) h.l2 hlc h.l2 (aav _)<|aav _;have hs:=yR hx ψ hw;exact akN h.sq.y8 h.sq.po h.sq.Xe hz Kr hU hV hL (by have:=jr<|3*(lg c/2+1)+(h1+2)*lg c+(lg c/2+1+h1);grind) hin.1 hin.2 hab hs<|h.ctd lo hi hab
abbrev aBs(c:Nat->Int)(h1:Nat):=su (lg c) (lg c) h1 h1
def aqD(h:JK c)(b1:∀i,(c i).natAbs<=2^h1):∀(d:Nat) (lo hi:Rat),lo<=hi->-(t2<|h1+1)<=lo->hi<=t2 (h1+1)->(hi-lo)*t2 (su (lg c) (lg c) h1 h1)<=t2 d->SpP c lo hi (spF c (d+1) lo hi):=by intro d;induction d with|zero=>intro lo hi hab hl hh hw;have h9:=Qa h b1 hab hl hh aCy;unfold spF;by_cases h0:je c lo hi=0;rw [if_pos h0];exact arn;have e1:je c lo hi=1:=Z;rw [if_neg h0,if_pos e1];have o:=h.okV hab e1;have n:=Q7 o.ok;refine⟨λp hp=>?_,λC hC v ca cb=>aFp,List.pairwise_singleton _ _,by simp_all⟩;obtain rfl:p=XM c lo hi:=aCj;refine⟨o.nar n,aeU _ _ _,n.lo,n.hi,(n.cut lo).2 ?_⟩;rw [lD<|h.lt hab h0];exact aw6|succ d ih=>(intro lo hi hab hl hh hw;unfold spF;by_cases h0:je c lo hi=0;rw [if_pos h0];exact arn;rw [if_neg h0];by_cases e1:je c lo hi=1;rw [if_pos e1];have o:=h.okV hab e1;have n:=Q7 o.ok;refine⟨λp hp=>?_,λC hC v ca cb=>aFp,List.pairwise_singleton _ _,by simp_all⟩;obtain rfl:p=XM c lo hi:=aCj;refine⟨o.nar n,aeU _ _ _,n.lo,n.hi,(n.cut lo).2 ?_⟩;rw [lD<|h.lt hab h0];exact aw6;rw [if_neg e1];obtain⟨m,hm⟩:∃m,m=(lo+hi)/2:=ψ;rw [<-hm];have hE:=jr<|aBs c h1;have e2:t2 (d+1)=t2 d*2:=(by rw [lN d 1];rfl);have m1:lo<=m:=ψ;have m2:m<=hi:=ψ;have w1:(m-lo)*t2 (aBs c h1)<=t2 d:=(by have:m-lo=(hi-lo)/2:=ψ;rw [this];grind);have w2:(hi-m)*t2 (aBs c h1)<=t2 d:=(by have:hi-m=(hi-lo)/2:=ψ;rw [this];grind);have A:=ih lo m m1 hl ψ w1;have B:=ih m hi m2 ψ hh w2;refine⟨λp hp=>?_,λC hC v ca cb=>?_,?_,by rw [List.length_append,A.len,B.len,h.add m1 m2]⟩;rcases ah3.1 hp with k|k;have⟨a1,a2,a3,a4,a5⟩:=A.ok p k;grind;have⟨a1,a2,a3,a4,a5⟩:=B.ok p k;exact⟨a1,a2,by grind,a4,a1.ok.cut.down _ _ a5 m1⟩;by_cases cm:C m;have⟨p,k,e⟩:=B.all C hC v cm cb;exact⟨p,ah3.2 ψ,e⟩;have⟨p,k,e⟩:=A.all C hC v ca cm;exact⟨p,ah3.2 ψ,e⟩;refine List.pairwise_append.2 ⟨A.rise,B.rise,λp hp q hq=>?_⟩;have⟨a1,a2,a3,a4,a5⟩:=A.ok p hp;have⟨b1,b2,b3,b4,b5⟩:=B.ok q hq;exact Dj b5<|a1.ok.above a4)
def H9(c:Nat->Int):Nat->Nat
 |0=>0
 |i+1=>max (H9 c i) (c i).natAbs
def agh(c:Nat->Int):∀{i n:Nat},i<n->(c i).natAbs<=H9 c n
 |i,0,h=>absurd h<|acH _
 |i,n+1,h=>by
  unfold H9
  by_cases e:i=n
  ·grind
  ·exact acL (agh c (i:=i) Z)<|amm _ _
def agf(h:∀i,(c i).natAbs<=H):∀n,H9 c n<=H
 |0=>abJ _
 |n+1=>by unfold H9;exact Nat.max_le.2 ⟨agf h n,h n⟩
def o9(c:Nat->Int):Rat:=1+(H9 c (lg c-1):Rat)/((c<|lg c-1).natAbs:Rat)
section
variable {c:Nat→Int}
def Gu(h0:lg c≠0):(1:Rat)<=((c<|lg c-1).natAbs:Rat):=by have:=nD h0;exact_mod_cast Z
def EG(h0:lg c≠0):1<=o9 c:=by have h1:=Gu h0;have h2:=jS<|H9 c<|lg c-1;unfold o9;have:0<=(H9 c (lg c-1):Rat)/((c<|lg c-1).natAbs:Rat):=(by rw [Rat.div_def];exact acK h2<|by have:=Rat.inv_pos.2 (show(0:Rat)<((c<|lg c-1).natAbs:Rat) by grind);grind);grind
def ad2(h0:lg c≠0)(h:∀i,(c i).natAbs<=H):o9 c<=1+(H:Rat):=by have h1:=Gu h0;have h2:(H9 c (lg c-1):Rat)<=(H:Rat):=rY<|agf h _;have h3:=jS<|H9 c<|lg c-1;obtain⟨k,hk⟩:∃k,k=(H9 c (lg c-1):Rat)/((c (lg c-1)).natAbs:Rat):=ψ;have h4:k*((c<|lg c-1).natAbs:Rat)=(H9 c (lg c-1):Rat):=ψ;have hk0:0<=k:=(by have:=EG h0;unfold o9 at this;grind);have h5:k*1<=k*((c<|lg c-1).natAbs:Rat):=aaJ h1 hk0;unfold o9;grind
def JR(z:bK c)(h0:lg c≠0)(ht:t=y\/t= -y)(hy:o9 c<=y):oL (FF c t) 1:=by obtain⟨n,hn⟩:∃n,n=lg c-1:=ψ;obtain⟨a,ha⟩:∃a:Rat,a=(c n:Rat):=ψ;have hcn:c n≠0:=(by rw [hn];exact nD h0);have ha0:a≠0:=aCj;obtain⟨A,hA⟩:∃A:Rat,A=((c n).natAbs:Rat):=ψ;have hAa:A=a\/A= -a:=(by rw [hA,ha];rcases Int.natAbs_eq (c n) with e|e;left;rw [e];rfl;right;obtain⟨k,hk⟩:∃k,k=(c n).natAbs:=ψ;rw [<-hk] at e ⊢;rw [e,Rat.intCast_neg,Rat.neg_neg];rfl);have hA1:1<=A:=(by rw [hA,hn];exact Gu h0);obtain⟨H,hH⟩:∃H:Rat,H=(H9 c n:Rat)/A:=ψ;have hHA:H*A=(H9 c n:Rat):=ψ;have hb:o9 c=1+H:=(by unfold o9;simp_all);have hH0:0<=H:=(by have:=EG h0;grind);have hce:∀i,Ab ((if i<n then(c i:Rat)/A else 0)) H:=λi=>(by by_cases hi:i<n;rw [if_pos hi];obtain⟨q,hq⟩:∃q,q=(c i:Rat)/A:=ψ;have h1:q*A=(c i:Rat):=ψ;have h2:((c i).natAbs:Rat)<=(H9 c n:Rat):=rY<|agh c hi;have h3: -((c i).natAbs:Rat)<=(c i:Rat)/\(c i:Rat)<=((c i).natAbs:Rat):=(by constructor;have: -(((c i).natAbs:Nat):Int)<=c i:=Z;have h9:((-(((c i).natAbs:Nat):Int):Int):Rat)<=(c i:Rat):=aF5;assumption;have:c i<=(((c i).natAbs:Nat):Int):=Z;exact ay5);rw [<-hq];rw [<-h1,<-hHA] at *;unfold Ab;constructor;apply abt;intro k;have:(q+H)*A<0:=(by have:=ac4 (show 0 < -(q+H) by grind) (show 0<A by grind);grind);grind;apply abt;intro k;have:=ac4 (show 0<q-H by grind) (show 0<A by grind);grind;rw [if_neg hi];exact kY hH0);have far:∀t y,(t=y\/t= -y)->1+H<=y->oL (FF c t) 1:=λt y ht hy=>(by have hab:Ab t y:=(by rcases ht with k|k <;> unfold Ab <;> constructor <;> grind);have h1:=Yo hab hH0 hy hce n;have h2:=Rj ht ψ n;have hy1:=lX (B:=y) ψ n;have e:∀m,m<=n->pe (λi=>if i<n then(c i:Rat)/A else 0) t m*A=pe (rc c) t m:=(by intro m;induction m with|zero=>intro _;show(0:Rat)*A=0;grind|succ m ih=>intro hm;show(pe (λi=>if i<n then(c i:Rat)/A else 0) t m+(if m<n then(c m:Rat)/A else 0)*t^m)*A=pe (rc c) t m+rc c m*t^m;rw [if_pos Z,<-ih Z];have:(c m:Rat)/A*A=(c m:Rat):=ψ;show _=_+(c m:Rat)*t^m;grind);have e2:FF c t=pe (rc c) t n+a*t^n:=(by rw [<-jU z,show lg c=n+1 by omega,ha];rfl);rw [e2,<-e n Z];obtain⟨P,hP⟩:∃P,P=pe (λi=>if i<n then(c i:Rat)/A else 0) t n:=ψ;rw [<-hP] at h1 ⊢;have h5:oL (P+(if A=a then 1 else -1)*t^n) 1:=(by unfold Ab at h1;split;rcases h2 with k|k;left;grind;right;grind;rcases h2 with k|k;right;grind;left;grind);have h6:=oL.mul (d:=1) (e:=A) ψ ψ h5 (Or.inl<|show A<=A by grind);have e3:(P+(if A=a then 1 else -1)*t^n)*A=P*A+a*t^n:=aDj;rw [e3] at h6;rcases h6 with k|k;left;grind;right;grind);grind
def an8(z:bK c)(h0:lg c≠0)(hC:dO C)(v:VC (FF c) C):C (-(o9 c))/\¬C (o9 c):=by constructor;apply abt;intro nc;have⟨q,hq⟩:=hC.lo;have⟨t,t1,t2,ht⟩:=v (1/2) ψ q (-(o9 c)) hq nc;unfold Ab at ht;rcases JR z h0 (t:=t) (y:= -t) ψ ψ with k|k <;> grind;intro cc;have⟨r,hr⟩:=hC.hi;have⟨t,t1,t2,ht⟩:=v (1/2) ψ (o9 c) r cc hr;unfold Ab at ht;rcases JR z h0 (t:=t) (y:=t) ψ ψ with k|k <;> grind
end
def Dz.mid(h:Dz L J p q):Dz L (J+1) p ((p+q)/2)/\Dz L (J+1) ((p+q)/2) q:=by have⟨D,R,a,b,c,d,e⟩:=h.e;have hm:=d.mid e;exact⟨⟨D,R,a,b,c,d.mono<|aed _,hm⟩,⟨D,R,a,b,c,hm,e.mono<|aed _⟩⟩
structure SpI(c:Nat->Int)(h1 L J d:Nat)(lo hi:Rat):Prop where
 le:lo<=hi
 l: -(t2<|h1+1)<=lo
 h:hi<=t2 (h1+1)
 w:(hi-lo)*t2 (su (lg c) (lg c) h1 h1)<=t2 d
 d:Dz L J lo hi
def SpI.down{d:Nat}(h:SpI c h1 L J (d+1) lo hi):SpI c h1 L (J+1) d lo ((lo+hi)/2)/\SpI c h1 L (J+1) d ((lo+hi)/2) hi:=by have⟨a1,a2,a3,a4,a5⟩:=h;obtain⟨m,hm⟩:∃m,m=(lo+hi)/2:=ψ;have hd:=a5.mid;rw [<-hm] at hd ⊢;have hE:=jr<|aBs c h1;have e2:t2 (d+1)=t2 d*2:=(by rw [lN d 1];rfl);have w1:m-lo=(hi-lo)/2:=ψ;have w2:hi-m=(hi-lo)/2:=ψ;refine⟨⟨by grind,a2,by grind,?_,hd.1⟩,⟨by grind,by grind,a3,?_,hd.2⟩⟩;rw [w1];grind;rw [w2];grind
def SpI.ok{d:Nat}(h:SpI c h1 L J d lo hi)(hC:JK c)(b1:∀i,(c i).natAbs<=2^h1):SpP c lo hi<|spF c (d+1) lo hi:=aqD hC b1 d lo hi h.le h.l h.h h.w
def rtD(c:Nat->Int)(h1:Nat):Nat:=su (lg c) (lg c) h1 h1+h1+2
def rtF(c:Nat->Int)(h1:Nat):List<|Rat×Rat:=spF c (rtD c h1+1) (-(o9 c))<|o9 c
def Wq(hC:JK c)(b1:∀i,(c i).natAbs<=2^h1)(hL:Tb L<|o9 c):SpI c h1 L 0 (rtD c h1) (-(o9 c))<|o9 c:=by have h0:lg c≠0:=aGm;have g1:=EG h0;have g2:=ad2 h0 b1;have hp:=I5 h1;have e1:((2^h1:Nat):Rat)=t2 h1:=aD3;have e2:t2 (h1+1)=t2 h1*2:=(by rw [lN h1 1];rfl);rw [e1] at g2;have hE:=jr<|aBs c h1;refine⟨by grind,by grind,by grind,?_,Gg ?_ hL⟩;have w1:o9 c- -(o9 c)<=t2 (h1+2):=(by rw [show h1+2=h1+1+1 from O,lN (h1+1) 1,e2,show t2 1=2 from O];grind);have:=abV w1 (show 0<=t2 (aBs c h1) by grind);unfold rtD;rw [Nat.add_assoc,lN (su _ _ _ _)<|h1+2];grind;exact⟨by rw [Rat.neg_num,Int.natAbs_neg];exact hL.1,by rw [Rat.neg_den];exact hL.2⟩
structure RtP(c:Nat->Int)(l:List<|Rat×Rat):Prop where
 ok:∀p∈l,I9 c p.1 p.2/\EX c p.1 p.2
 all:∀C,dO C->VC (FF c) C->∃p∈l,∀q,eP c p.1 p.2 q↔C q
 rise:l.Pairwise λp q=>dU (eP c p.1 p.2) (eP c q.1 q.2)= -1
 len:l.length=je c (-(o9 c)) (o9 c)
def ag5(hC:JK c)(b1:∀i,(c i).natAbs<=2^h1)(hL:Tb L<|o9 c):RtP c<|rtF c h1:=by
 have h:=(Wq hC b1 hL).ok hC b1;exact⟨λp hp=>⟨(h.ok p hp).1,(h.ok p hp).2.1⟩,λC hI v=>by
  have⟨k1,k2⟩:=an8 hC.z aGm hI v;exact h.all C hI v k1 k2,h.rise,h.len⟩
def Ql(f:Fn)(C:dQ):Prop:=dO C/\∃lo hi,C lo/\¬C hi/\f lo≠0/\f hi≠0/\∀q r,lo<=q->C q->r<=hi->¬C r->f q*f r<=0
def afs{s:Rat}(h:s<b):∃B,In B s/\In B b:=by refine⟨if 0<=s then b else if 0<=b then b-s else -s,?_⟩;unfold In;grind
def agY{E z d:Rat}(hE:0<E)(hz:0<z)(hd:z<=E*d):∃y,0<y/\y<=d/\E*y<z:=by obtain⟨y,hy⟩:∃y,y=z/(2*E):=ψ;have e:y*(2*E)=z:=ψ;refine⟨y,?_,?_,by grind⟩;apply abt;intro hn;have:=acK (show 0<=-y by grind) (show 0<=2*E by grind);grind;apply abt;intro hn;have:=ac4 (show 0<y-d by grind) (show 0<2*E by grind);grind
def aeJ{h h':Fn}(hd:yX h h'){s:Rat}(hsb:s<b)(hz:∀t,s<=t->t<=b->h t=0):h' s=0:=by have⟨B,h1,h2⟩:=afs hsb;have⟨E,hE,hk⟩:=hd B;have key:∀z:Rat,0<z->∃y,0<y/\y<=b-s/\(E+0)*y<z:=λz hz=>(by by_cases hc:(E+0)*(b-s)<z;grind;have hp:0<E:=(by apply abt;intro hn;have:E=0:=ψ;rw [this] at hc;grind);have⟨y,y1,y2,y3⟩:=agY hp hz (d:=b-s) ψ;grind);have ab:∀y,0<y->y<=b-s->Ab (0-y*h' s) (y*(y*E)):=λy hy hyb=>(by have:=hk s (s+y) h1 (by unfold In at *;grind) ψ;grind);have a0:∀y:Rat,Ab (0-y*0)<|y*(y*0):=ψ;apply abt;intro hn;by_cases hp:0<h' s;have⟨y,hy,hyb,hlt⟩:=key _ hp;exact J4 (E:=E) (F:=0) (p:=h' s) (q:=0) (z:=h' s) ψ (a0 y) hlt hy ψ;have⟨y,hy,hyb,hlt⟩:=key (- h' s) ψ;exact J4 (E:=0) (F:=E) (p:=0) (q:=h' s) (z:= -h' s) (a0 y) ψ ψ hy ψ
def amu:∀(k:Nat) {f:Fn}{l:Rat},Lc k f l->∀{a b:Rat},a<b->∃t,a<=t/\t<=b/\f t≠0
 |0,f,l,h,a,b,hab=>by
  have⟨c,_,h0,hl,hf⟩:=h;refine⟨a,by grind,by grind,?_⟩;rw [hf];show 0+c 0*a^0≠0
  grind
 |k+1,f,l,h,a,b,hab=>by
  apply abt;intro hn;have⟨f',hp,hd⟩:=Po.y8 (f:=f) (let ⟨c,hz,_,_,hf⟩:=h;⟨k+2,c,λi hi=>hz i Z,hf⟩);have⟨t,h1,h2,h3⟩:=amu k (h.y8 hd) (show a<(a+b)/2 by grind);exact h3 (aeJ hd (show t<b by grind) λx hx1 hx2=>by
   grind)
def aaF{f:Fn}(pf:Po f)(hne:∃t,f t≠0)(hab:a<b):∃t,a<=t/\t<=b/\f t≠0:=by have⟨k,l,h⟩:=nP pf hne;exact amu k h hab
def Ny{x:Rat}(h:x≠0):0<x*x:=by by_cases h1:0<x;exact ac4 h1 h1;have:=ac4 (show 0 < -x by grind) (show 0 < -x by grind);grind
def aqA{x:Rat}{s:Int}(hs:s≠0)(hx:gI x=s)(hy:gI y=s):0<x*y:=by
 rcases eU x with⟨h,e⟩|⟨h,e⟩|⟨h,e⟩ <;> rcases eU y with⟨k,e'⟩|⟨k,e'⟩|⟨k,e'⟩ <;> first
  |(exfalso;omega)
  |(have:=ac4 (show 0 < -x by grind) (show 0 < -y by grind);grind)
  |exact ac4 h k
  |(exfalso;apply hs;rw [<-hx,e])
section
variable {f o h:Fn} {k:Rat} {C:dQ}
def Ql.vc(t:Ql f C)(po:Po o)(ph:Po h)(e:∀x,f x=k*(o x*(h x*h x))):VC o C:=by have⟨hC,lo,hi,cl,ch,fl,fh,hp⟩:=t;rcases KL hC po with v|⟨s,ε,a,b,he,ca,cb,hs⟩;exact v;exfalso;have hab:=hC.nb ca cb;have hk:k≠0:=λz=>fl (by rw [e,z];grind);have hh:∃x,h x≠0:=⟨lo,λz=>fl<|by rw [e,z];grind⟩;have hsn:s≠0:=λz=>(by have h1:=hs a ψ ψ;have:=h1.1.nz he;omega);obtain⟨b',hb',hsb⟩:∃b',b<b'/\∀t,b<=t->t<=b'->gI (o t)=s:=(by have⟨B,h1,h2⟩:=afs (show b<b+1 by grind);have⟨L,hL,ML⟩:=po.lip B;have Iy:=hs b ψ ψ;by_cases hc:L*1<ε;have g:=Jj ML hL h1 h2 he ψ Iy.1;exact⟨b+1,by grind,λt t1 t2=>(g.2.1 t t1 t2).trans Iy.2⟩;have hL0:0<L:=ψ;have⟨y,y1,y2,y3⟩:=agY hL0 he (d:=1) ψ;have g:=Jj (y:=b+y) ML hL h1 (by unfold In at *;grind) he ψ Iy.1;exact⟨b+y,by grind,λt t1 t2=>(g.2.1 t t1 t2).trans Iy.2⟩);have hsg:∀t,a<=t->t<=b'->gI (o t)=s:=λt t1 t2=>(by by_cases htb:t<=b;exact(hs t t1 htb).2;exact hsb t ψ t2);obtain⟨m,cm,hml,hma⟩:∃m,C m/\lo<=m/\a<=m:=aDj;have⟨m',hmm,cm'⟩:=hC.up m cm;have⟨q,q1,q2,hq⟩:=aaF ph hh hmm;have cq:C q:=hC.down q m' cm' ψ;have pos:∀r,b<=r\/(r=hi/\r<=b)->r<=b'->r<=hi->¬C r->h r≠0->False:=λr hr r2 r3 cr hrn=>(by have har:a<=r:=(by have:=hC.nb ca cr;grind);have h1:=hp q r ψ cq r3 cr;have hqb:q<=b':=(by have:=hC.nb cq cb;grind);have h2:=aqA hsn (hsg q ψ hqb)<|hsg r har r2;have h3:=ac4 (ac4 h2<|Ny hk)<|ac4 (Ny hq)<|Ny hrn;rw [e q,e r] at h1;grind);by_cases hhb:hi<=b;grind;obtain⟨R,hR⟩:∃R,R=if hi<=b' then hi else b':=⟨_,O⟩;have hR1:b<R/\R<=b'/\R<=hi:=ψ;have⟨r,r1,r2,hr⟩:=aaF ph hh hR1.1;have cr:¬C r:=λz=>cb<|hC.down b r z r1;grind
end
def Bh.ext{f f':Fn}(h:Bh f f' lo hi):∃b,hi<b/\Bh f f' lo b/\(∀t,hi<t->t<=b->f t≠0)/\∀q,jB f lo b q↔jB f lo hi q:=by have⟨g,l,hs⟩:=h.stm;have hlt:=h.lt;have⟨hA,e,he,hn⟩:=BD hs h.sq.po hi;have hf:kD f hi<|hi+e/2:=⟨_,hA,λt t1 t2=>hn t t1 ψ⟩;have⟨N,hN⟩:=qZ hs (show hi<=hi+e/2 by grind);have h0:N=0:=(CB hs h.sq.po ψ hN).2 hf;subst h0;have ob:Bh f f' lo<|hi+e/2:=⟨h.sq,by grind,h.one.cat h.sq.po ψ ψ ⟨_,_,hs,hN⟩⟩;refine⟨hi+e/2,by grind,ob,λt t1 t2 hz=>?_,λq=>?_⟩;have:=hn t t1 ψ;rw [hz] at this;exact hA<|this.symm.trans qO;by_cases h1:lo<=q;by_cases h2:q<hi;rw [kR h h1 h2,kR ob h1 ψ];constructor;intro k;by_cases h3:q<hi+e/2;have k0:=(kR ob h1 h3).1 k;have⟨K,M,k1,_,e'⟩:=k0.split (m:=hi) ψ ψ;have:=k1.uniq h.sq.po ψ h.one;omega;exact absurd k<|jF ob.lt ψ;intro k;exact absurd k<|jF hlt ψ;exact⟨λ_=>Or.inl ψ,λ_=>Or.inl ψ⟩
def ahm(x:Rat):0<=x*x:=by by_cases h:x=0;simp_all;have:=Ny h;grind
def ak8{f o o' h:Fn}{k:Rat}(ok:Bh o o' lo hi)(ph:Po h)(hh:∃x,h x≠0)(hk:k≠0)(e:∀x,f x=k*(o x*(h x*h x))):Ql f<|jB o lo hi:=by
 have⟨b,hb,ob,fb,hc⟩:=ok.ext;have hlt:=ok.lt;have hC:=ni ob;have hC0:=ni ok;rw [show jB o lo hi=jB o lo b from funext λq=>propext (hc q).symm];have chi:¬jB o lo b hi:=λz=>jF hlt (Rat.le_refl)<|(hc hi).1 z;have sl:∀q,lo<q->jB o lo b q->gI (o q)=yZ o o' lo/\gI (o q)≠0:=λq h1 h2=>(by have hq:q<b:=(by apply abt;intro z;exact jF ob.lt ψ h2);have h3:=LQ ob q;rw [JV hC h2,if_neg ψ,if_neg ψ] at h3;omega);have sr:∀r,r<=b->¬jB o lo b r->gI (o r)=0\/gI (o r)≠yZ o o' lo:=λr h1 h2=>(by have hr:lo<r:=hC.nb (Or.inl Rat.le_refl) h2;have h3:=LQ ob r;have h4:dU (jB o lo b) (fC r)<=0:=(uM hC<|nV r).2 λq hq=>hC.nb hq h2;grind);have⟨m,hm,cm⟩:=hC.up lo<|Or.inl Rat.le_refl;have⟨lo',l1,l2,l3⟩:=aaF ph hh (show(lo+m)/2<m by grind);have⟨hi',r1,r2,r3⟩:=aaF ph hh (show(hi+b)/2<b by grind);have cl:jB o lo b lo':=hC.down _ _ cm l2;have ch:¬jB o lo b hi':=λz=>chi<|hC.down _ _ z ψ;have nz:∀x,o x≠0->h x≠0->f x≠0:=λx h1 h2 z=>(by rw [e] at z;rcases al6.1 z with z|z;exact hk z;rcases al6.1 z with z|z;exact h1 z;have:=Ny h2;grind);refine⟨hC,lo',hi',cl,ch,nz _ (λz=>(sl lo' ψ cl).2<|by rw [z];rfl) l3,nz _ (fb hi' ψ r2) r3,λq r q1 cq r1 cr=>?_⟩;have h1:=sl q ψ cq;have h2:=sr r ψ cr;have h3:o q*o r<=0:=by
  rcases eU (o q) with⟨u,eu⟩|⟨u,eu⟩|⟨u,eu⟩ <;> rcases eU (o r) with⟨v,ev⟩|⟨v,ev⟩|⟨v,ev⟩ <;> first
   |(exfalso;omega)
   |(rw [u];grind)
   |(rw [v];grind)
   |(have:=ac4 (show 0 < -o q by grind) v;grind)
   |(have:=ac4 u (show 0 < -o r by grind);grind)
 have h4:=acK (show 0<=-(o q*o r) by grind)<|acK (ahm k) (acK (ahm (h q)) (ahm (h r)));rw [e q,e r];grind
def JG(F:Nat->Fn):Bool->Nat->Nat->Fn
 |_,_,0=>λ_=>1
 |b,i,m+1=>λx=>(if b=true then F i x else 1)*JG F (!b) (i+1) m x
def prN(F:Nat->Fn):Nat->Nat->Fn
 |_,0=>λ_=>1
 |i,m+1=>λx=>F i x*prN F (i+1) m x
def twN(F:Nat->Fn):Nat->Nat->Fn
 |_,0=>λ_=>1
 |i,m+1=>λx=>prN F i (m+1) x*twN F (i+1) m x
def Tz(F:Nat->Fn):∀(m i:Nat) (x:Rat),prN F i m x=JG F true i m x*JG F false i m x
 |0,i,x=>by show(1:Rat)=1*1;grind
 |m+1,i,x=>by
  show F i x*prN F (i+1) m x=(if true=true then F i x else 1)*JG F (!true) (i+1) m x*((if false=true then F i x else 1)*JG F (!false) (i+1) m x)
  rw [Tz F m (i+1) x,if_pos O,if_neg φ];grind
def IL(hF:∀i,Po<|F i):∀(m:Nat) (b:Bool) (i:Nat),Po<|JG F b i m
 |0,b,i=>dh 1
 |m+1,b,i=>by
  cases b
  ·exact(dh 1).mul (IL hF m true<|i+1)
  ·exact(hF i).mul (IL hF m false<|i+1)
def ahE(hF:∀i,Po<|F i):∀(m i:Nat),∃h:Fn,Po h/\∀x,twN F i m x=JG F true i m x*(h x*h x)
 |0,i=>⟨λ_=>1,dh 1,λx=>by show(1:Rat)=1*(1*1);grind⟩
 |m+1,i=>by
  have⟨h,ph,e⟩:=ahE hF m<|i+1;refine⟨λx=>JG F true (i+1) m x*h x,(IL hF m true<|i+1).mul ph,λx=>?_⟩;show prN F i (m+1) x*twN F (i+1) m x=_
  rw [Tz,e];show JG F true i (m+1) x*((if false=true then F i x else 1)*JG F true (i+1) m x)*_=_
  grind
def LvB(c:Nat->Int)(K:Nat):Prop:=∀g,bK g->dM g (lg g)=1->Dv (FF g) (FF c)->Lb K g
def DvB.lv(h:DvB c M)(hK:B4^M<=dF^K):LvB c K:=λg zg hg hd i=>acI (h g zg hg hd i) hK
structure Qk(c o:Nat->Int):Prop where
 z:bK o
 pm:Pm (lg o) o
 dv:Dv (FF o)<|FF c
 ex:∃(k:Rat) (h:Fn),k≠0/\Po h/\(∃x,h x≠0)/\∀x,FF c x=k*(FF o x*(h x*h x))
 sq:2<=lg o->∃M,AZ o M o
def Qk.vc(h:Qk c o)(t:Ql (FF c) C):VC (FF o) C:=by have⟨k,g,_,pg,_,e⟩:=h.ex;exact t.vc (dG h.z) pg e
def Qk.turn(h:Qk c o)(ok:Bh (FF o) (FF<|bQ o) lo hi):Ql (FF c)<|jB (FF o) lo hi:=by have⟨k,g,hk,pg,hn,e⟩:=h.ex;exact ak8 ok pg hn hk e
structure OdI(c:Nat->Int)(F:Nat->Fn)(k i:Nat)(o:Nat->Int):Prop where
 z:bK o
 pm:Pm (lg o) o
 dv:Dv (FF o)<|FF c
 eq:∀x,FF o x*JG F (i%2==0) i (k-i) x=JG F true 0 k x
def akw(zo:bK o)(zf:bK f)(hl:lg o+lg f<=20)(po:Pm (lg o) o)(pf:Pm (lg f) f):Pm (lg<|bW o f)<|bW o f:=by have z:bK<|bW o f:=bK.of (gJ zo.lg zf.lg) Z;have h1:=alX zo.lg zf.lg po.one pf.one;have ht:=FX zo.lg zf.lg po.pos pf.pos;have p0:=po.pos;have q0:=pf.pos;have hlead:0<bW o f (lg o+lg f-2):=(by rw [ht];exact Int.mul_pos po.lead pf.lead);have⟨g1,g2⟩:=CU zo zf z Z q0;have hlg:lg (bW o f)=lg o+lg f-1:=Z;refine⟨z.ip,by omega,by rwa [ZO (gJ zo.lg zf.lg) z.lg] at h1,?_⟩;grind
section
variable {c o:Nat→Int} {Es:List (Nat→Int)}
abbrev EM(Es:List<|Nat->Int):Nat->Fn:=λi=>FF<|lI Es i
def FcE.tw(h:FcE c Es)(h10:lg c<=10):∀m i:Nat,i+m+2=Es.length->(∀x,FF (gl Es i) x=twN (EM Es) i m x)/\∀x,FF (qy<|gl Es i) x=prN (EM Es) i m x
 |0,i,hi=>by
  have e:gl Es i=dV 1:=by rw [<-h.l2,show Es.length-2=i by omega]
  rw [e,TP];exact⟨um,um⟩
 |m+1,i,hi=>by
  have⟨h1,h2⟩:=FcE.tw h h10 m (i+1) Z;have⟨zf,_,hc,_⟩:=wX h h10 i Z;have⟨M,k⟩:=h.sq i Z;have⟨M',k'⟩:=h.sq (i+1) Z;have lx:∀j,j<Es.length->lg (qy<|gl Es j)<=10:=λj hj=>by
   have⟨N,kj⟩:=h.sq j hj;have:=(oO (h.z j) kj.z (h.pm j hj).pos kj.dv).2;have:=h.l j;omega
  have e1:∀x,FF (qy<|gl Es i) x=prN (EM Es) i (m+1) x:=λx=>by
   have hq:=(CU zf k'.z k.z hc k'.ne).1;have:=lx i Z;have:=lx (i+1) Z;rw [<-show bW (lI Es i) (qy<|gl Es<|i+1)=qy (gl Es i) from funext hc,sG zf.lg k'.z.lg Z zf k'.z,h2];rfl
  refine⟨λx=>?_,e1⟩;have hq:=h.q1 i Z;have:=lx i Z;have:=h.l<|i+1;rw [<-show bW (qy<|gl Es i) (gl Es<|i+1)=gl Es i from funext hq,sG k.z.lg (h.z<|i+1).lg Z k.z<|h.z<|i+1,e1,h1];rfl
def OdI.start(zc:bK c)(F:Nat->Fn)(k:Nat):OdI c F k 0<|dV 1:=⟨jE,DJ,aEV,λx=>by rw [um];simp_all⟩
def ap1(hF:∀j,Po<|F j){x0:Fn}(hx:Dv x0<|FF c)(h0:∀x,x0 x=prN F 0 k x)(e:∀x,FF o x*JG F (i%2==0) i (k-i) x=JG F true 0 k x):Dv (FF o)<|FF c:=
 Dv.trans ⟨λx=>JG F (i%2==0) i (k-i) x*JG F false 0 k x,(IL hF _ _ _).mul<|IL hF _ _ _,λx=>by rw [h0,Tz,<-e x];grind⟩ hx
def OdI.skip(h:OdI c F k i o)(hi:i<k)(hp:i%2=1):OdI c F k (i+1) o:=⟨h.z,h.pm,h.dv,λx=>by
 have:=h.eq x;rw [show(i%2==0)=false by simp_all,show k-i=(k-(i+1))+1 by omega] at this;rw [show((i+1)%2==0)=true by grind,<-this];show _=FF o x*((if false=true then F i x else 1)*JG F true (i+1) (k-(i+1)) x)
 simp_all⟩
def OdI.step(h:OdI c (EM Es) (Es.length-2) i o)(hE:FcE c Es)(zc:bK c)(h0:lg c≠0)(h10:lg c<=10)(hx:Dv (FF<|qy<|gl Es 0)<|FF c)(hi:i<Es.length-2)(hp:i%2=0):
  OdI c (EM Es) (Es.length-2) (i+1) (bW o<|lI Es i)/\lg o<=10/\lg (lI Es i)<=10:=by
 have⟨zf,pf,_,df⟩:=wX hE h10 i Z;have l1:=(oO zc h.z h0 h.dv).2;have l2:=(oO zc zf h0 df).2;have hF:∀x,FF (bW o<|lI Es i) x=FF o x*FF (lI Es i) x:=sG h.z.lg zf.lg Z h.z zf;have e:∀x,FF (bW o<|lI Es i) x*JG (EM Es) ((i+1)%2==0) (i+1) (Es.length-2-(i+1)) x=JG (EM Es) true 0 (Es.length-2) x:=λx=>(by have:=h.eq x;rw [show(i%2==0)=true by simp_all,show Es.length-2-i=(Es.length-2-(i+1))+1 by omega] at this;rw [show((i+1)%2==0)=false by grind,<-this,hF];show _=FF o x*((if true=true then FF (lI Es i) x else 1)*JG (EM Es) false (i+1) (Es.length-2-(i+1)) x);grind);have hlen:=hE.len;exact⟨⟨bK.of (gJ h.z.lg zf.lg) Z,akw h.z zf Z h.pm pf,ap1 (λj=>by
  by_cases hj:j+2<Es.length
  ·exact dG (wX hE h10 j hj).1
  ·unfold EM lI
   split
   ·rename_i hh;exact dG hh.choose_spec.1
   ·exact dG kL) hx (λx=>(hE.tw h10 (Es.length-2) 0 Z).2 x) e,e⟩,by omega,by omega⟩
def OdI.fin(h:OdI c (EM Es) (Es.length-2) (Es.length-2) o)(hE:FcE c Es)(zc:bK c)(h0:lg c≠0)(h10:lg c<=10):Qk c o:=by have hlen:=hE.len;have pF:∀j,Po<|EM Es j:=λj=>(by by_cases hj:j+2<Es.length;exact dG (wX hE h10 j hj).1;unfold EM lI;split;rename_i hh;exact dG hh.choose_spec.1;exact dG kL);have e0:∀x,FF o x=JG (EM Es) true 0 (Es.length-2) x:=λx=>(by have:=h.eq x;rw [Nat.sub_self] at this;rw [<-this];show _=FF o x*1;grind);have⟨t1,t2⟩:=hE.tw h10 (Es.length-2) 0 Z;have⟨g,pg,eg⟩:=ahE pF (Es.length-2) 0;have⟨s,hs0,hs⟩:=rC zc h0;have ec:∀x,FF c x=s*(FF o x*(g x*g x)):=λx=>(by rw [hs,<-hE.h0,t1,eg,e0]);have⟨x0,hx0⟩:=uz zc h0;refine⟨h.z,h.pm,h.dv,⟨s,g,hs0,pg,ψ,ec⟩,λh2=>?_⟩;have⟨M,k⟩:=hE.sq 0 Z;have dx:Dv (FF o)<|FF<|qy<|gl Es 0:=⟨JG (EM Es) false 0<|Es.length-2,IL pF _ _ _,λx=>by rw [t2,Tz,e0];grind⟩;have⟨q,pq,hq⟩:=dx;have so:Ja (FF o)<|FF<|bQ o:=k.sq.dv (dG h.z) pq (dG<|fV h.z) (ru h.z) ψ;have⟨K,_,hK⟩:=MC h.z;exact⟨_,KN h.z hK h.pm so⟩
def agm(zc:bK c)(h1:lg c=1):Qk c<|dV 1:=by have⟨k,hk,hf⟩:=jo zc h1;exact⟨jE,DJ,aEV,⟨k,λ_=>1,hk,dh 1,⟨0,by grind⟩,λx=>by rw [hf,um];grind⟩,λh=>by rw [o8] at h;omega⟩
end
def ldS(c:Nat->Int):Int:=tV<|c<|lg c-1
def Xc(c:Nat->Int):Int:=if lg c%2=0 then -tV (c<|lg c-1) else tV (c<|lg c-1)
def agO:∀n:Nat,(-1:Int)^n=if n%2=0 then 1 else -1
 |0=>rfl
 |n+1=>by
  rw [Int.pow_succ,agO n];omega
def ada(z:bK c)(h0:lg c≠0){x:Int}(hx:∀i,(c i).natAbs<x.natAbs):gI (FF c (x:Rat))=tV (c<|lg c-1)*(tV x)^(lg c-1):=by have h1:=J7 (c:=c) (x:=x) (top:=lg c) ψ (nD h0) (lg c-1) Z;rw [Nat.sub_add_cancel Z] at h1;have h2:=Ug (a:=c) (x:=x) (top:=lg c)<|lg c;rw [aaK] at h2;rw [<-jU z];show gI (pz c (x:Rat)<|lg c)=_;rw [<-h2,aaT,h1]
def au6(z:bK c)(h:lg c=0)(x:Rat):gI (FF c x)=ldS c/\gI (FF c x)=Xc c:=by have e:c (lg c-1)=0:=z.lg _ Z;unfold ldS Xc;rw [(nT z).1 h x,e];exact⟨O,by split <;> rfl⟩
def arC(z:bK c)(hx:∀i,(c i).natAbs<X):gI (FF c (X:Rat))=ldS c:=by by_cases h0:lg c=0;exact(au6 z h0 _).1;have h:=ada z h0 (x:=(X:Int)) aCy;rw [sJ<|show(0:Int)<(X:Int) by have:=hx 0;omega,Int.one_pow,Int.mul_one] at h;exact h
def arB(z:bK c)(hx:∀i,(c i).natAbs<X):gI (FF c (-(X:Rat)))=Xc c:=by by_cases h0:lg c=0;exact(au6 z h0 _).2;have h:=ada z h0 (x:= -(X:Int)) ψ;rw [uY<|show -(X:Int)<0 by have:=hx 0;omega,agO,Rat.intCast_neg] at h;rw [show(-(X:Rat))= -(((X:Int):Int):Rat) from O,h];unfold Xc;grind
def aeW:∀(L:List<|Nat->Int) (B:Nat),(∀p∈L,bK p)->∃X,B<=X/\∀p∈L,∀i,(p i).natAbs<X
 |[],B,_=>⟨B,aav _,λp hp=>absurd hp aCY⟩
 |p::L,B,h=>by
  have⟨K,_,hK⟩:=MC<|h p ajr;have⟨X,h1,h2⟩:=aeW L (max B<|dF^K) λq hq=>h q ψ
  refine⟨X,by omega,λq hq=>?_⟩;rcases afu.1 hq with rfl|hq
  ·exact λi=>acI (hK i) Z
  simp_all
def abO{L:List (Nat->Int)}{p:Nat->Int}(h:p∈L):∃i,i<L.length/\gl L i=p:=by have⟨i,hi,e⟩:=List.mem_iff_getElem.1 h;exact⟨i,hi,by unfold gl;rw [List.getD_eq_getElem?_getD,List.getElem?_eq_getElem hi];exact e⟩
def UY{L:List (Nat->Int)}(hL:Uj f KC L)(h0:lg f≠0):vr (L.map Xc)=vr (L.map ldS)+je f (-(o9 f)) (o9 f):=by have zf:=hL.z;have hz:∀p∈L,bK p:=λp hp=>(by have⟨i,hi,e⟩:=abO hp;rw [<-e];exact hL.zz i);obtain⟨B,hB⟩:∃B:Nat,o9 f<=(B:Rat):=(by have⟨K,_,hK⟩:=MC zf;refine⟨1+dF^K,?_⟩;have:=ad2 (c:=f) h0 (H:=dF^K) λi=>acQ<|hK i;simp_all);have⟨X,hBX,hX⟩:=aeW L B hz;have hbX:o9 f<=(X:Rat):=Rat.le_trans hB<|rY hBX;have hb1:=EG h0;have up:wz L (X:Rat)=L.map ldS:=List.map_congr_left λp hp=>arC ψ<|hX p hp;have dn:wz L (-(X:Rat))=L.map Xc:=List.map_congr_left λp hp=>arB ψ<|hX p hp;have⟨e1,_,_⟩:=hL.cnt (lo:= -(X:Rat)) (hi:=(X:Rat)) ψ;rw [up,dn] at e1;by_cases h2:2<=lg f;have hC:=hL.cn h2;have a1:=hC.add (lo:= -(X:Rat)) (m:= -(o9 f)) (hi:=(X:Rat)) ψ ψ;have a2:=hC.add (lo:= -(o9 f)) (m:=o9 f) (hi:=(X:Rat)) ψ ψ;have none:∀a b:Rat,a<=b->(∀t,a<=t->t<=b->oL (FF f t) 1)->je f a b=0:=λa b hab Iy=>(by apply abt;intro h0;have⟨x,x1,x2,hx⟩:=Dw (dG zf) hab (hC.ctd a b hab) h0 (e:=1/2) ψ;have:=Iy x x1 x2;unfold Ab at hx;rcases this with k|k <;> grind);have n1:=none (-(X:Rat)) (-(o9 f)) ψ λt _ t2=>JR zf h0 (y:= -t) ψ ψ;have n2:=none (o9 f) (X:Rat) hbX λt t1 _=>JR zf h0 (y:=t) ψ t1;omega;have free:∀a b:Rat,a<=b->je f a b=0:=λa b hab=>(by have⟨k,hk,hf⟩:=jo zf Z;exact(hL.cnt hab).2.1.2 aGA);grind
def P9(c:Nat->Int):Nat->Rat->Rat->List (Rat×Rat)
 |0,_,_=>[]
 |n+1,lo,hi=>if je c lo hi=0 then [] else if je c lo hi=1 then [(lo,hi)] else P9 c n lo ((lo+hi)/2)++P9 c n ((lo+hi)/2) hi
def avR(h:je c lo hi=0):P9 c (n+1) lo hi=[]:=if_pos h
def avS(h:je c lo hi=1):P9 c (n+1) lo hi=[(lo,hi)]:=by show(if je c lo hi=0 then [] else _)=_;simp_all
def avT(h0:¬je c lo hi=0)(h1:¬je c lo hi=1):P9 c (n+1) lo hi=P9 c n lo ((lo+hi)/2)++P9 c n ((lo+hi)/2) hi:=by show(if je c lo hi=0 then [] else _)=_;simp_all
def Af(c:Nat->Int):∀(n:Nat) (lo hi:Rat),spF c n lo hi=(P9 c n lo hi).map λp=>XM c p.1 p.2
 |0,_,_=>rfl
 |n+1,lo,hi=>by
  show(if je c lo hi=0 then [] else if je c lo hi=1 then [XM c lo hi] else spF c n lo ((lo+hi)/2)++spF c n ((lo+hi)/2) hi)=_
  rw [Af c n,Af c n];show _=(if je c lo hi=0 then [] else if je c lo hi=1 then [(lo,hi)] else P9 c n lo ((lo+hi)/2)++P9 c n ((lo+hi)/2) hi).map _
  grind
def TN:∀(n:Nat) (lo hi:Rat),lo<=hi->∀p∈P9 c n lo hi,p.1<=p.2/\je c p.1 p.2=1
 |0,_,_,_,p,hp=>absurd hp (by show ¬p∈([]:List _);simp)
 |n+1,lo,hi,h,p,hp=>by
  by_cases h0:je c lo hi=0
  ·rw [avR h0] at hp;simp_all
  ·by_cases h1:je c lo hi=1
   ·rw [avS h1] at hp
    simp_all
   ·rw [avT h0 h1] at hp
    rcases ah3.1 hp with k|k
    ·exact TN n _ _ ψ p k
    ·exact TN n _ _ ψ p k
structure RtG(c:Nat->Int)(l:List<|Rat×Rat):Prop where
 ok:∀p∈l,I9 c p.1 p.2/\p.1<p.2
 all:∀C,dO C->VC (FF c) C->∃p∈l,eP c p.1 p.2=C
 rise:l.Pairwise λp q=>dU (eP c p.1 p.2) (eP c q.1 q.2)= -1
def akJ(z:bK c)(h1:lg c=1):RtG c []:=⟨λp hp=>absurd hp aCY,λC hC v=>by
 exfalso;have⟨k,hk,hf⟩:=jo z h1;have:Oy (FF c) C<|gI k:=by
  have⟨q,hq⟩:=hC.lo;have⟨r,hr⟩:=hC.hi;obtain⟨e,he,Iy⟩:∃e,0<e/\oL k e:=by
   by_cases h:0<k
   ·exact⟨k,h,Or.inl ψ⟩
   ·exact⟨-k,by grind,Or.inr ψ⟩
  exact⟨e,q,r,he,hq,hr,λt _ _=>by rw [hf];exact⟨Iy,O⟩⟩
 exact this.VY v,List.Pairwise.nil⟩
def rtL(c:Nat->Int)(h1:Nat):List<|Rat×Rat:=P9 c (rtD c h1+1) (-(o9 c))<|o9 c
def aqv(hC:JK c)(b1:∀i,(c i).natAbs<=2^h1)(hL:Tb L<|o9 c):RtG c<|rtL c h1:=by have h:=ag5 hC b1 hL;have hb:=EG (c:=c) aGm;have e:rtF c h1=(rtL c h1).map λp=>XM c p.1 p.2:=Af c _ _ _;have one:=TN (c:=c) (rtD c h1+1) (-(o9 c)) (o9 c) ψ;have o:∀p∈rtL c h1,I9 c p.1 p.2/\p.1<p.2:=λp hp=>(by have⟨k1,k2⟩:=one p hp;exact⟨hC.okV k1 k2,hC.lt k1 Z⟩);have cut:∀p∈rtL c h1,eP c (XM c p.1 p.2).1 (XM c p.1 p.2).2=eP c p.1 p.2:=λp hp=>funext λq=>propext<|(Q7 (o p hp).1.ok).cut q;refine⟨o,λC hI v=>?_,?_⟩;have⟨p,hp,k⟩:=h.all C hI v;grind;have hr:=h.rise;rw [e,List.pairwise_map] at hr;refine hr.imp_of_mem λha hb k=>?_;simp_all
def SpI.tb{d:Nat}(h:SpI c h1 L J d lo hi)(hX:3*L+J/32+1<=X):Tb X lo/\Tb X hi:=h.d.tb hX
def vH.call{f:FuncId}{args:List DV}(h:vH P f args e sz n el):aH P f args<|.d<|.o<|.a sz n el:=⟨h.en,λB w vs hB hd=>(h.go B w vs hB hd).mono (by
 rintro r w' ⟨v,rfl,hb,xs,⟨⟨hxl,hown⟩,hbk⟩,hel⟩;refine⟨v,O,hb,?_⟩
 rcases hown with⟨rfl,h0⟩|⟨g,cap,cur,rfl,hge,hblk,hn,hm,hsz',htk⟩
 ·subst h0
  exact ao1
 ·refine⟨some ⟨g,0,none⟩,cap,O,hn,λh=>aEP,λi hi=>⟨g,0,O,λhb2=>?_,lt_of_block hblk,λj hj=>?_⟩⟩
  ·have:=hB g hb2
   have h9:w.heap.size<=g:=(hbk g O).resolve_right id;omega
  ·have⟨x,hx1,hx2⟩:=hel i j hi hj
   refine⟨x,?_,fP.mv aCu ψ _ hx2⟩;rw [Nat.zero_add,cell_of_row w' g _ cur _ (0,0) hblk,<-Array.getElem?_toList];rw [<-htk,List.getElem?_take] at hx1;split at hx1
   ·exact hx1
   ·cases hx1)⟩
def asn{a:List Lf}(hq:IsQ a K q)(hK:K<=10000000:=by decide):aH prog 14 [.j a]<|.d<|.j<|tn K q:=by exact aH.le (dl (DV.g hq) iR) AV.le.rfl<|aN 10 [.cell 2 54] func14 O<|cR<|mO O<|mO O<|I<|au<|cDk 7<|oE 2 O<|oC (asl<|xJ K<|Rat.num q) O<|oE 2 O<|oC (asl<|xJ K (Rat.den q:Int)) O<|oV O<|.nil<|mZ O<|I<|aQ<|rQ O<|Nc (aav _) (aav _) O O
def ajf(zc:bK c)(zd:bK d)(hc:lg c≠0):∃M g,rD c d M g:=by have⟨δ,u,v,s,t,pδ,pu,pv,ps,pt,e1,e2,e3⟩:=NR 20 (FF c) (FF d) (dG zc) ⟨rc d,xR zd,λ_=>rfl⟩;have⟨x0,hx0⟩:=uz zc hc;have δne:∃x,δ x≠0:=ψ;have⟨kδ,aδ,hlδ⟩:=nP pδ δne;have hdv:Dv δ<|FF c:=⟨s,ps,e2⟩;have hk:kδ+1<=20:=(by have h1:=hdv.deg hlδ<|xX zc hc;have:=dN c;omega);have⟨q,hqz,_,_,hq⟩:=hlδ;have⟨D,w,hD,hwz,hw⟩:=I7 (q:=q) (k:=kδ+1) aCy;have zw:bK w:=bK.of hwz hk;have hDq:(D:Rat)≠0:=(by have:(0:Rat)<(D:Rat):=(by exact_mod_cast hD);grind);have hF:∀x,FF w x=(D:Rat)*δ x:=λx=>(by rw [<-Ba hwz zw,hq];show pe (rc w) x (kδ+1)=_;rw [show rc w=yA q (D:Rat) from funext hw,vZ];grind);have hi:Idl (FF c) (FF d) δ:=⟨⟨u,v,pu,pv,e1⟩,hdv,⟨t,pt,e3⟩⟩;have hi2:Idl (FF c) (FF d)<|FF w:=hi.scale (s:=(D:Rat)⁻¹) (s':=(D:Rat)) ψ hF;have⟨s1,s2,g1,g2⟩:=Qi zw;have zp:=jH zw;have⟨M,_,hM⟩:=MC zp;exact⟨M,aW w,zp,hM,hi2.scale g1 g2,λe=>wu zw<|by rw [<-gZ zw];exact e⟩
def abH(zc:bK c)(h0:lg c≠0)(hl:lg c<=n)(hH:∀i,(c i).natAbs<=H)(hnH:n<=H)(h1:1<=H)(hM:n*(H*(2*H)^n)*(10*H)^n<B4^M):DvB c M:=by intro g zg hg hd;have⟨hg0,hgl⟩:=oO zc zg h0 hd;have⟨W,pW,hW⟩:=hd;have⟨w,k,hw,hc,_⟩:=qp zc.lg zg.lg hg pW (λx=>by rw [jU zc,jU zg];exact hW x);intro i;have hb:=Va (H:=(H:Int)) zc.ip h0 zg.lg hw hc ψ Z Z i;have e:((lg c:Rat)*(((H:Int):Rat)*(2*((H:Int):Rat))^lg c)*(10*((H:Int):Rat))^lg g)=((lg c*(H*(2*H)^lg c)*(10*H)^lg g:Nat):Rat):=(by have pc:∀(a b:Nat),((a^b:Nat):Rat)=(a:Rat)^b:=ψ;rw [Rat.natCast_mul,Rat.natCast_mul,Rat.natCast_mul,pc,pc,Rat.natCast_mul,Rat.natCast_mul];rfl);rw [e] at hb;have hle:(g i).natAbs<=lg c*(H*(2*H)^lg c)*(10*H)^lg g:=(by unfold Ab at hb;have b1:((g i:Int):Rat)<=(((lg c*(H*(2*H)^lg c)*(10*H)^lg g:Nat):Int):Rat):=hb.2;have b2:((-((lg c*(H*(2*H)^lg c)*(10*H)^lg g:Nat):Int):Int):Rat)<=((g i:Int):Rat):=(by rw [Rat.intCast_neg];exact hb.1);have c1:g i<=((lg c*(H*(2*H)^lg c)*(10*H)^lg g:Nat):Int):=(by exact_mod_cast b1);have c2: -((lg c*(H*(2*H)^lg c)*(10*H)^lg g:Nat):Int)<=g i:=(by exact_mod_cast b2);omega);refine ac1 (acL hle ?_) hM;exact ac2 (ac2 hl<|acM _<|acC Z hl)<|acC Z Z
def alU(q:Rat):∃L,Tb L q:=by refine⟨q.num.natAbs+q.den,?_,?_⟩;exact avf;exact avf
def rD.uniq{g':Nat->Int}(h:rD c d M g)(k:rD c d M' g')(hg:lg g≠0)(hg':lg g'≠0):g=g':=by have key:∀{g g':Nat->Int}{M M':Nat},rD c d M g->rD c d M' g'->Dv (FF g) (FF g'):=(by intro g g' M M' h k;have⟨u,v,pu,pv,e⟩:=k.OH.cm;have⟨p,pp,e1⟩:=h.OH.da;have⟨q,pq,e2⟩:=h.OH.db;exact⟨λx=>u x*p x+v x*q x,(pu.mul pp).add<|pv.mul pq,λx=>by grind⟩);exact amM h.z k.z (h.pm hg) (k.pm hg') ψ ψ
section
variable {c:Nat→Int} {Rs Rs':List (Nat→Int)}
def Xh(c:Nat->Int)(Rs:List<|Nat->Int):Prop:=Xi c Rs/\lg (gl Rs<|Rs.length-1)<=1
def Xi.agree(h:Xi c Rs)(k:Xi c Rs'):∀i,i<Rs.length->i<Rs'.length->gl Rs i=gl Rs' i
 |0,_,_=>h.h0.trans k.h0.symm
 |i+1,h1,h2=>by
  have⟨a,M,ha⟩:=h.st i h1;have⟨b,M',hb⟩:=k.st i h2;rw [Xi.agree h k i Z Z] at ha;exact ha.uniq hb (h.pm (i+1) h1).pos (k.pm (i+1) h2).pos
def Xh.uniq(h:Xh c Rs)(k:Xh c Rs'):Rs=Rs':=by have key:∀{Rs Rs':List (Nat->Int)},Xh c Rs->Xh c Rs'->Rs'.length<=Rs.length:=(by intro Rs Rs' h k;apply abt;intro hn;have h1:=h.1.ne;have⟨a,_⟩:=k.1.st (Rs.length-1) Z;rw [<-h.1.agree k.1 (Rs.length-1) Z Z] at a;have:=h.2;omega);have hl:Rs.length=Rs'.length:=ψ;refine List.ext_getElem hl λi h1 h2=>?_;have:=h.1.agree k.1 i h1 h2;unfold gl at this;rwa [List.getD_eq_getElem?_getD,List.getD_eq_getElem?_getD,List.getElem?_eq_getElem h1,List.getElem?_eq_getElem h2] at this
def aop(zc:bK c)(h0:lg c≠0):∃Rs,Xh c Rs:=by have key:∀(n:Nat) (Rs:List<|Nat->Int),Xi c Rs->lg (gl Rs<|Rs.length-1)<=n->∃Rs',Xh c Rs':=(by intro n;induction n with|zero=>intro Rs h hl;exact⟨Rs,h,by omega⟩|succ n ih=>intro Rs h hl;by_cases h1:lg (gl Rs<|Rs.length-1)<=1;exact⟨Rs,h,h1⟩;have⟨M,g,hg⟩:=ajf (h.z<|Rs.length-1) (fV<|h.z<|Rs.length-1) Z;refine ih (Rs++[g]) (h.step zc h0 Z hg) ?_;have hd:lg (bQ<|gl Rs<|Rs.length-1)≠0:=λe=>(by have:=rH (h.z<|Rs.length-1) e;omega);have h2:=(hg.le' (fV<|h.z _) hd).2;have h3:=yH (h.z<|Rs.length-1) Z;rw [List.length_append,show Rs.length+ [g].length-1=Rs.length from O,zF];omega);exact key _ _ (.aho zc h0)<|aav _
def iw(c:Nat->Int):List<|Nat->Int:=open Classical in if h:∃Rs,Xh c Rs then h.choose else []
def Xh.eq(h:Xh c Rs):Rs=iw c:=by have hx:∃Rs,Xh c Rs:=ψ;unfold iw;rw [dif_pos hx];exact h.uniq hx.choose_spec
def Yw(zc:bK c)(h0:lg c≠0):Xh c<|iw c:=by have⟨Rs,h⟩:=aop zc h0;rw [<-h.eq];exact h
def yV(Rs:List<|Nat->Int)(k:Nat):List<|Nat->Int:=(List.range k).map λi=>qy<|gl Rs i
def aa7(Rs:List<|Nat->Int)(k:Nat):(yV Rs k).length=k:=by unfold yV;simp_all
def ahP(Rs:List<|Nat->Int)(h:i<k):gl (yV Rs k) i=qy (gl Rs i):=by unfold yV gl;rw [List.getD_eq_getElem?_getD,List.getElem?_map,List.getElem?_range h];rfl
def ahQ(Rs:List<|Nat->Int)(k:Nat):yV Rs (k+1)=yV Rs k++[qy<|gl Rs k]:=by unfold yV;rw [List.range_succ,List.map_append];rfl
def alh{Rs:List (Nat->Int)}{b:Nat->Int}(h:k<=Rs.length):yV (Rs++[b]) k=yV Rs k:=List.map_congr_left λi hi=>by rw [zD ψ]
def abM{Es:List (Nat->Int)}(h:FcE c Es)(h10:lg c<=10)(hi:i+3=Es.length):lI Es i=qy (gl Es i):=by have⟨zf,_,hc,_⟩:=wX h h10 i Z;have⟨M,k⟩:=h.sq i Z;have e:gl Es (i+1)=dV 1:=(by rw [<-h.l2,show Es.length-2=i+1 by omega]);rw [e,TP] at hc;refine funext (Qh zf k.z λx=>?_);have hl:lg (lI Es i)<=10:=(by have h1:=(CU zf jE k.z hc<|by rw [o8];decide).1;rw [o8] at h1;have h2:=(oO (h.z i) k.z (h.pm i Z).pos k.dv).2;have:=h.l i;omega);rw [<-show bW (lI Es i) (dV 1)=qy (gl Es i) from funext hc,sG zf.lg jE.lg (by rw [o8];omega) zf jE,um];grind
def Ju(Es:List<|Nat->Int):Nat->(Nat->Int)
 |0=>dV 1
 |i+1=>if i%2=0 then bW (Ju Es i) (lI Es i) else Ju Es i
def aki(c:Nat->Int):Nat->Int:=Ju (iw c++[dV 1])<|(iw c).length-1
def KE{Es:List (Nat->Int)}(hE:FcE c Es)(zc:bK c)(h0:lg c≠0)(h10:lg c<=10):∀i,i<=Es.length-2->OdI c (EM Es) (Es.length-2) i (Ju Es i)
 |0,_=>.start zc _ _
 |i+1,hi=>by
  have ih:=KE hE zc h0 h10 i Z;have⟨M,k⟩:=hE.sq 0 Z;show OdI c _ _ (i+1) (if i%2=0 then bW (Ju Es i) (lI Es i) else Ju Es i)
  split
  ·rename_i hp
   exact(ih.step hE zc h0 h10 (k.dv.trans<|hE.dv 0 Z) Z hp).1
  ·rename_i hp
   exact ih.skip Z Z
def akj(zc:bK c)(h0:lg c≠0)(h10:lg c<=10):Qk c<|aki c:=by have hD:=Yw zc h0;by_cases h1:lg c=1;have:=hD.1.ln;have:=(hD.1.pm ((iw c).length-1)<|by have:=hD.1.ne;omega).pos;unfold aki;rw [show(iw c).length-1=0 by omega];exact agm zc h1;have hE:=hD.1.fin zc Z h10 hD.2;have e:(iw c++[dV 1]).length-2=(iw c).length-1:=aCj;have:=(KE hE zc h0 h10 _<|aav _).fin hE zc h0 h10;rw [e] at this;exact this
end
def asJ(zc:bK c)(hK:KC<=10000000):aH prog 261 [.o<|bP KC (lg c) c]<|dI<|Xc c:=by have hlc:=dN c;have hd:dg c (lg c)=lg c:=iK zc.lg zc;exact aN 11 [.tmp 2] func261 O<|cR<|mW O<|I<|cR<|mW O<|mY (adz aDp) O<|mE 5 O<|I<|cR<|mE 2 O<|I<|aQ<|rQ O (aJ<|by rw [hd];rfl)
def asL(zc:bK c)(hK:KC<=10000000):aH prog 262 [.o<|bP KC (lg c) c]<|dI<|ldS c:=by have hlc:=dN c;have hd:dg c (lg c)=lg c:=iK zc.lg zc;exact aN 11 [.tmp 2] func262 O<|cR<|mW O<|I<|cR<|mW O<|mY (adz aDp) O<|mE 5 O<|I<|cR<|mE 2 O<|I<|aQ<|rQ O (aJ<|by rw [hd];rfl)
def Sz{L:List (Nat->Int)}{F:(Nat->Int)->Int}(h:i<L.length):(L.map F).getD i 0=F (gl L i):=by unfold gl;rw [List.getD_eq_getElem?_getD,List.getD_eq_getElem?_getD,List.getElem?_map,List.getElem?_eq_getElem h];rfl
def amZ(z:Int):tV z= -1\/tV z=0\/tV z=1:=by unfold tV;omega
def af5{F:(Nat->Int)->Int}(hF:∀c,F c= -1\/F c=0\/F c=1)(L:List<|Nat->Int)(i:Nat):(L.map F).getD i 0= -1\/(L.map F).getD i 0=0\/(L.map F).getD i 0=1:=by by_cases h:i<L.length;rw [Sz h];exact hF _;refine Or.inr<|Or.inl ?_;rw [List.getD_eq_getElem?_getD,List.getElem?_eq_none<|by rw [List.length_map];omega];rfl
def au5(c:Nat->Int):ldS c= -1\/ldS c=0\/ldS c=1:=amZ _
def au4(c:Nat->Int):Xc c= -1\/Xc c=0\/Xc c=1:=by have:=amZ<|c<|lg c-1;unfold Xc;omega
def asK{L:List (Nat->Int)}(hz:∀i,bK<|gl L i)(hL:L.length<=100000)(hK:KC<=10000000):aH prog 190 [.o<|.at 1<|λq=>((aAZ L KC)[0+q]?).getD<|.v undef]<|dI ((vr (L.map Xc):Nat):Int):=by exact aN 5 [.tmp 2] func190 O<|cR<|mW O<|I<|cR<|mW O<|mY (QB (S:=L.map Xc) hz (λi hi=>by rw [Sz hi];exact asJ (hz i) hK) (by rw [List.length_map]) (af5 au4 L) hL) O<|mW O<|I<|aQ<|rQ O aCo
def asM{L:List (Nat->Int)}(hz:∀i,bK<|gl L i)(hL:L.length<=100000)(hK:KC<=10000000):aH prog 191 [.o<|.at 1<|λq=>((aAZ L KC)[0+q]?).getD<|.v undef]<|dI ((vr (L.map ldS):Nat):Int):=by exact aN 5 [.tmp 2] func191 O<|cR<|mW O<|I<|cR<|mW O<|mY (QB (S:=L.map ldS) hz (λi hi=>by rw [Sz hi];exact asL (hz i) hK) (by rw [List.length_map]) (af5 au5 L) hL) O<|mW O<|I<|aQ<|rQ O aCo
def ado{L:List (Nat->Int)}(hQ:Uj f KC L)(h2:lg f≠0)(hK:KC<=10000000):aH prog 94 [.o<|.at 1<|λq=>((aAZ L KC)[0+q]?).getD<|.v undef]<|dI ((je f (-(o9 f)) (o9 f):Nat):Int):=by
 have hz:=hQ.zz;have hL:L.length<=100000:=by have:=hQ.len;omega
 have hcc:=UY hQ h2;have hv1:=Fp (L.map Xc) 0;have hv2:=Fp (L.map ldS) 0;have e1:vr (L.map Xc)=AY 0 (L.map Xc):=O;have e2:vr (L.map ldS)=AY 0 (L.map ldS):=O;rw [List.length_map] at hv1 hv2;exact aN 8 [.tmp 2] func94 O<|cR<|mW O<|I<|cR<|mW O<|mY (asK hz hL hK) O<|mW O<|mY (asM hz hL hK) O<|mV aj (dI ((je f (-(o9 f)) (o9 f):Nat):Int)) aCm<|mW O<|I<|aQ<|rQ O aCo
def aiT(h0:lg c≠0):Rat.divInt ((Int.natAbs (c<|lg c-1):Int)+((H9 c (lg c-1):Nat):Int)) (Int.natAbs (c<|lg c-1):Int)=o9 c:=by have h1:=Gu h0;have hn:=nD h0;obtain⟨A,hA⟩:∃A:Nat,A=(c (lg c-1)).natAbs:=ψ;unfold o9;rw [<-hA] at h1 ⊢;rw [Rat.divInt_eq_div,Rat.intCast_add,Rat.div_def,Rat.add_mul];have e:((A:Int):Rat)=(A:Rat):=O;have e2:(((H9 c (lg c-1):Nat):Int):Rat)=(H9 c (lg c-1):Rat):=O;grind
def YX(zc:bK c)(h0:lg c≠0:=by omega)(hK:K<=100000:=by omega):aH prog 91 [.o (bP K (lg c) c)] (.dY [.j (tn (max (max (max K K+1) K) 1+1) (o9 c)),.o (vI 0)]):=by have hlc:=dN c;have hd:dg c (lg c)=lg c:=iK zc.lg zc;refine aN 43 [.cell 2 54,.tmp 3] func91 O<|cR<|mO O<|mW O<|I<|cR<|mW O<|mY (kP aDg) O<|mW O<|I<|au<|au<|fQ 0 (.d (.o (.a 2 (lg c) (aX K c)))) O (eY (by rw [hd];exact λ_ _ _ h=>h))<|aA<|mE 2 O<|mbF O (acz.2 Z)<|I<|cFs O<|cR<|mO O<|I<|au<|cR<|mE 3 O<|mV aj (dI ((lg c-1:Nat):Int)) aCm<|mV aj (.d (.o (.a 2 (lg c-1) (aX K c)))) (slR (z:=((lg c-1:Nat):Int)) (n:=lg c) O O O O O O Z Z)<|mE 2 O<|I<|aK<|dL (ι:=Nat) (λ(i:Nat)=>⟨43,[(0,.d (.o (.a 2 (lg c) (aX K c)))),(2,.p 2 0),(3,dI 0),(4,.p 4 0),(19,.d (.o (.a 2 (lg c-1) (aX K c)))),(20,dI ((lg c-1:Nat):Int)),(21,dI (i:Int))],[(2,.b 54 ([.v (.bool false),.v (.slice none 0 0),.v (.bool false),.v (.slice none 0 0)])),(4,.b 35 (zn K ((H9 c i:Nat):Int)))]⟩) (λ(i:Nat)=>i<=lg c-1) (λ(i:Nat)=>lg c-1-i) 0 (abJ _) (wkv [6] [1] aCk ⟨eG O (VG),Pe⟩ O O) ?_;rintro i hI;have hi:i<=lg c-1:=hI;show AW _ _ _ ⟨_,_,_⟩;refine cR<|mW O<|I<|au<|bI O (λhc1=>?_) (λhc1=>?_);refine aO<|tN<|au<|aK<|au ?_;have hin:i+1<lg c:=aCb;refine aA<|mV aj _ (xjh O O O O O O Z) ?_;refine mW O<|mO O<|mZ O<|I<|cR<|mW O<|mY (arN (jT K (c i))) O<|mO O<|mZ O<|I<|cR<|mE 2 O<|mY (Xq (jT K (Int.natAbs (c i):Int)) (jT K ((H9 c i:Nat):Int))) O<|mW O<|I<|bI O (λhc2=>?_) (λhc2=>?_);exact aA<|mW O<|mZ O<|ak<|bN<|tN<|aA<|mE 2 O<|ak<|⟨(i+1),by omega,by omega,wkv [6] [1] aCf ⟨eG O (rW (aav _) (by have h0:=abd hc2;exact auT)),Pe⟩ O O⟩;exact aO<|bN<|tN<|aA<|mE 2 O<|ak<|⟨(i+1),by omega,by omega,wkv [6] [1] aCf ⟨eG O (rW (aav _) (by have h0:=aa1 hc2;exact auT)),Pe⟩ O O⟩;refine bZ<|tE<|tE<|bE<|tN<|au ?_;have hie:i=lg c-1:=aCi;subst hie;exact aA<|mW O<|mY (yY aDg) O<|mY (arN (jT K (c (dg c (lg c)-1)))) O<|mO O<|mZ O<|I<|au<|cDk 7<|oE 2 O<|oC (abl aG0 (jT K ((H9 c (lg c-1):Nat):Int)) (M:=(max K K+1))) O<|oV O<|oC (anX (jT (max K K+1) ((Int.natAbs (c (dg c (lg c)-1)):Int)+((H9 c (lg c-1):Nat):Int))) aG0 (by have:=nD h0;rw [hd];omega) (M:=(max (max (max K K+1) K) 1+1)) (aav _)) O<|.cons (aC.V _ O)<|.cons (aC.V _ O)<|.nil<|mZ O<|mW O<|I<|aQ<|rQ O (AV.of_eq (by rw [hd,aiT h0];rfl))
section
open Go.RowKit Am
section
variable {P:Program} {T:TypeId→Option TI} {ops:Array Oper} {o:Oper} {Q:Qs} {s:AS}
def atc{F:Y->Prop}{uN:Y->List (Nat×AO)}{f:FuncId}{args:List AV}{wi wo:List Nat}{Qc:AV->List (Nat×AO)->Prop}(h:dA P f args hp wi wo Qc)(m:List<|Nat×Nat)(ks kw tX:List Nat) 
  (he:aa8 P s o f m tX args)
  (hob:gW (λp=>∃ob' ob,lk s.hp p.2=some ob'/\lk hp p.1=some ob/\AO.le ob' ob/\ob.SH=true) m)
  (hwi:gW (λi=>∃j,lk m i=some j) wi) (hwm:gW (λp=>p.2∈tX) m)
  (hks:gW (λp=>(ks.any λk=>Nat.beq k p.2)=true\/∃x b,lk s.hp p.2=some (.i x b)/\p.1∈wo/\∀r hp',Qc r hp'->∃d,lk hp' p.1=some (.i x d)) m)
  (hkw:gW (λj=>∃i,lk m i=some j/\i∈wo) kw) (hQ:∀r' hp',Qc r' hp'->r'=r/\∃y,F y/\Yu m hp'=uN y) (hm:RI m=true:=by rfl) (hr:r.rn m=r:=by rfl):EvL P s o F uN ks kw tX r:=by intro ρ B0 w0 w a hpS s' hext wL hcr hs hal;have⟨vs,hrun,hvs⟩:=he ρ B0 w0 w a hpS s' hext wL hcr hs hal h.en;have wm:∀{α:Type}{p q:α->Prop}{l:List α},gW p l->(∀x,p x->q x)->gW q l:=(by intro α p q l;induction l with|nil=>intro _ _;trivial|cons x l ih=>intro h k;exact⟨k x h.1,ih h.2 k⟩);refine⟨f,_,hrun,(VB h m [] ks kw (hpS:=hpS) (wm hob λp ⟨ob',ob,h1,h2⟩=>⟨ob',ob,hext _ _ h1,h2⟩) trivial (wm hks λp hp=>hp.imp id λ⟨x,b,h1,h2⟩=>⟨x,b,hext _ _ h1,h2⟩) hkw hm hcr (λi hi=>?_) hvs).mono ?_⟩;have⟨j,hj⟩:=hwi.get i hi;have⟨v,hv⟩:=hal j<|hwm.get _<|oG hj;simp_all;rintro e w' ⟨v,ρ2,r',hp',rfl,hq,hc2,har,hwo,hno,hv⟩;obtain⟨rfl,y,hy,hx⟩:=hQ r' hp' hq;rw [List.nil_append,hx] at hc2;have hv':AR ρ2 (Bd ρ2 B0) w' (r'.rn m) v:=hv;rw [hr] at hv';refine⟨v,ρ2,y,O,hy,hc2,har,λid u hu=>?_,hv'⟩;by_cases hj:∃i,lk m i=some id;have⟨i,hi⟩:=hj;exact hal id<|hwm.get _<|oG hi;grind
def vS{F:Y->Prop}{uN:Y->List (Nat×AO)}{c:Call}{f:FuncId}{args:List AV}{wi wo:List Nat}{Qc:AV->List (Nat×AO)->Prop}(h:dA P f args hp wi wo Qc)(m:List<|Nat×Nat)(ks kw tX:List Nat) 
  (hc:gX o.op=some c) (hf:isF c.callee=some f) (ha:oK m s c.args.toList args)
  (hob:gW (λp=>∃ob' ob,lk s.hp p.2=some ob'/\lk hp p.1=some ob/\AO.le ob' ob/\ob.SH=true) m)
  (hwi:gW (λi=>∃j,lk m i=some j) wi) (hwm:gW (λp=>p.2∈tX) m)
  (hks:gW (λp=>(ks.any λk=>Nat.beq k p.2)=true\/∃x b,lk s.hp p.2=some (.i x b)/\p.1∈wo/\∀r hp',Qc r hp'->∃d,lk hp' p.1=some (.i x d)) m)
  (hkw:gW (λj=>∃i,lk m i=some j/\i∈wo) kw) (hQ:∀r' hp',Qc r' hp'->r'=r/\∃y,F y/\Yu m hp'=uN y) (hm:RI m=true:=by rfl) (hr:r.rn m=r:=by rfl):EvL P s o F uN ks kw tX r:=atc h m ks kw tX (atb hc hf ha) hob hwi hwm hks hkw hQ hm hr
def isD:Option Nat->Nat->Bool
 |some k,t=>Nat.beq k t
 |none,_=>false
def aac(d:Option Nat)(ks kw:List Nat):List (Nat×AV)->List (Nat×AV)
 |[]=>[]
 |(t,av)::l=>(t,bif isD d t then av else BX ks kw av)::aac d ks kw l
def aap{d:Option Nat}{t:Nat}(hd:isD d t=false):∀{l:List (Nat×AV)}{av:AV},lk (aac d ks kw l) t=some av->∃mJ,lk l t=some mJ/\av=BX ks kw mJ
 |[],_,h=>by cases h
 |(k,x)::l,av,h=>by
  unfold aac at h;rw [aY] at h;rw [aY];split at h
  ·simp_all
  ·rename_i e;rw [if_neg e];exact aap hd h
def OA(d:Option Nat)(ks kw:List Nat)(hpy:List<|Nat×AO)(s:AS):AS:=⟨s.n,aac d ks kw s.sl,hpy++s.hp⟩
def Way.app{st:Nat->AS}(h:Way l n st)(dx:Option Nat)(ks kw:List Nat)(hpy:List<|Nat×AO):Way l n λi=>OA dx ks kw hpy<|st i:=by
 refine⟨h.nn,λi o d hi ho hd=>?_,λi j hij hj id ob hk=>?_,λi hi id ob hk=>?_⟩
 ·have e:=h.sl i o d hi ho hd
  show aac dx ks kw (st<|i+1).sl=(d,vN ⟨_,aac dx ks kw (st<|i+1).sl,_⟩)::aac dx ks kw (st i).sl
  rw [e];rfl
 ·show lk (hpy++(st j).hp) id=some ob
  replace hk:lk (hpy++(st i).hp) id=some ob:=hk
  rw [zQ] at hk ⊢;cases hq:lk hpy id with
  |some x=>simp_all
  |none=>rw [hq] at hk;exact h.hp i j hij hj id ob hk
 ·show(lk (hpy++(st 0).hp) id).isSome=true\/_
  replace hk:lk (hpy++(st i).hp) id=some ob:=hk
  rw [zQ] at hk ⊢;cases hq:lk hpy id with
  |some x=>simp_all
  |none=>rw [hq] at hk;exact h.new i hi id ob hk
def JC.app{st:Nat->AS}(C:JC l n N st)(dx:Option Nat)(ks kw:List Nat)(hpy:List<|Nat×AO):JC l n N λi=>OA dx ks kw hpy<|st i:=⟨C.hr,C.hnl,C.hD,C.way.app dx ks kw hpy⟩
def aiR{dx:Option Nat}{hpy:List (Nat×AO)}{s:AS}{t:Nat}{v:AV}{l:List (Nat×AV)}(h:s.sl=(t,v)::l):vN (OA dx ks kw hpy s)=bif isD dx t then vN s else BX ks kw (vN s):=by have⟨n,sl,hp⟩:=s;subst h;rfl
def EvA(P:Program)(s:AS)(o:Oper){Y:Type}(F:Y->Prop)(uN:Y->List (Nat×AO))(ks kw tX:List Nat)(r:AV):Prop:=∀(ρ:lq) (B0:BS) (w0:Wz) (w:World) (a:Act) (hp:List<|Nat×AO) (s':AS),Ext s.hp hp->abg s s' o->gq ρ B0 w0 w hp->gu ρ (Bd ρ B0) w s'.sl a->Al ρ tX->
 ∃v w2 ρ2 y,(execOp a.eval o).run P w=.ok (.value v) w2/\F y/\gq ρ2 B0 w0 w2 (uN y++hp)/\(∀av u,AR ρ (Bd ρ B0) w av u->AR ρ2 (Bd ρ2 B0) w2 (BX ks kw av) u)/\(∀id u,ρ2 id=some u->∃u',ρ id=some u')/\AR ρ2 (Bd ρ2 B0) w2 r v
inductive ChX (P:Program) (T:TypeId->Option TI) (ops:Array Oper) {Y:Type} (F:Y->Prop) (uN:Y->List (Nat×AO)) (ks kw:List Nat) (r:AV) (n x:Nat) (ox:Oper) (K:AS->Prop):Nat->List Oper->AS->Prop
 |nil {i:Nat}{s:AS} (h:K s):ChX P T ops F uN ks kw r n x ox K i [] s
 |cons {i:Nat}{o:Oper}{l:List Oper}{s s1:AS} (h:Ol P T ops n o s s1) (hr:G6 ops 6 ox i=true) (hi:Nat.beq i x=false) (k:ChX P T ops F uN ks kw r n x ox K (i+1) l s1):ChX P T ops F uN ks kw r n x ox K i (o::l) s
 |e {i:Nat}{o:Oper}{l:List Oper}{s s1:AS} (h:Ol P T ops n o s s1) (h2:∀y,F y->Ol P T ops n o (OA ox.dst ks kw (uN y) s) (OA ox.dst ks kw (uN y) s1)) (hi:Nat.beq i x=false) (k:ChX P T ops F uN ks kw r n x ox K (i+1) l s1):ChX P T ops F uN ks kw r n x ox K i (o::l) s
 |A {l:List Oper}{s:AS} (tX:List Nat) (h:EvA P s ox F uN ks kw tX r) (hw:abk ops n s tX) (hg:jD ops s ox=some true) (hd:jQ ox.dst s.n=true) (k:ChX P T ops F uN ks kw r n x ox K (x+1) l (s.put ox.dst r)):ChX P T ops F uN ks kw r n x ox K x (ox::l) s
 |X {l:List Oper}{s:AS} (tX:List Nat) (h:EvL P s ox F uN ks kw tX r) (hw:abk ops n s tX) (hg:jD ops s ox=some true) (hd:jQ ox.dst s.n=true) (k:ChX P T ops F uN ks kw r n x ox K (x+1) l (s.put ox.dst r)):ChX P T ops F uN ks kw r n x ox K x (ox::l) s
def StX(P:Program)(T:TypeId->Option TI)(ops:Array Oper){Y:Type}(F:Y->Prop)(uN:Y->List (Nat×AO))(ks kw:List Nat)(r:AV)(n x:Nat)(ox:Oper)(st:Nat->AS)(i j:Nat)(o:Oper):Prop:=(i=x/\o=ox/\∃tX,(EvL P (st j) ox F uN ks kw tX r\/EvA P (st j) ox F uN ks kw tX r)/\abk ops n (st j) tX/\jD ops (st j) ox=some true/\st (j+1)=(st j).put ox.dst r)\/(i≠x/\Ol P T ops n o (st j) (st<|j+1)/\(G6 ops 6 ox i=true\/∀y,F y->Ol P T ops n o (OA ox.dst ks kw (uN y)<|st j) (OA ox.dst ks kw (uN y)<|st<|j+1)))
theorem ChX.st{F:Y->Prop}{uN:Y->List (Nat×AO)}{x:Nat}{ox:Oper}{K:AS->Prop}(h:ChX P T ops F uN ks kw r n x ox K i l s):∃st:Nat->AS,st 0=s/\K (st l.length)/\∀j o,l[j]?=some o->StX P T ops F uN ks kw r n x ox st (i+j) j o:=by have one:∀{i:Nat}{o:Oper}{l:List Oper}{s:AS}{st:Nat->AS},(∀j o,l[j]?=some o->StX P T ops F uN ks kw r n x ox st (i+1+j) j o)->StX P T ops F uN ks kw r n x ox (fun|0=>s|j+1=>st j) i 0 o->∀j o',(o::l)[j]?=some o'->StX P T ops F uN ks kw r n x ox (fun|0=>s|j+1=>st j) (i+j) j o':=(by intro i o l s st h3 h4 j o' ho;cases j with|zero=>simp_all|succ j=>have:=h3 j o' aGY;rw [show i+1+j=i+(j+1) by omega] at this;exact this);have ne:∀{i:Nat},Nat.beq i x=false->i≠x:=λh e=>aCj;induction h with|nil h=>rename_i s;exact axf|cons h hr hi k ih=>(have⟨st,h1,h2,h3⟩:=ih;refine⟨fun|0=>_|j+1=>st j,O,h2,one h3<|Or.inr ⟨ne hi,?_,Or.inl hr⟩⟩;simp_all)|e h he hi k ih=>(have⟨st,h1,h2,h3⟩:=ih;refine⟨fun|0=>_|j+1=>st j,O,h2,one h3<|Or.inr ⟨ne hi,?_,Or.inr λy hy=>?_⟩⟩;simp_all;simp_all)|X tX h hw hg hd k ih=>(have⟨st,h1,h2,h3⟩:=ih;exact⟨fun|0=>_|j+1=>st j,O,h2,one h3<|Or.inl ⟨O,O,tX,Or.inl h,hw,hg,h1⟩⟩)|A tX h hw hg hd k ih=>(have⟨st,h1,h2,h3⟩:=ih;exact⟨fun|0=>_|j+1=>st j,O,h2,one h3<|Or.inl ⟨O,O,tX,Or.inr h,hw,hg,h1⟩⟩)
def lU(hT:xZ P T){id:Nat}(n x:Nat)(ls:List Nat)(F:Y->Prop)(uN:Y->List (Nat×AO))(ks kw:List Nat)(r:AV){ox:Oper}(hx:l[x]?=some ox)(hxn:Nat.ble (x+1) n=true)(hm:P.follows .mixedOrders=true)(hB:LG l.toArray n s.n ls=true)(hD:LZ l.toArray n=true)(hP:∀c s,¬Q (.panic c) s) 
  (h:ChX P T l.toArray F uN ks kw r n x ox (λs1=>∀y,F y->AL P l.toArray Q (l.drop n) (OA ox.dst ks kw (uN y) s1)) 0 (l.take n) s):AW P (.region id l.toArray true) Q s:=by
 rintro B0 w0 a0 w ⟨ρ0,hc0,hn0,uh,hs0⟩;have⟨hB,hL⟩:=FD hB;have hB':=hB;have⟨⟨⟨⟨hsel,RG⟩,OG⟩,_⟩,_⟩:=hB';have hnl:n<=l.length:=Z;have hxn:=acN hxn;have⟨st,XW,Vw,hop0⟩:=h.st;have hlen:(l.take n).length=n:=aEg;rw [hlen] at Vw;have hop:∀i o,i<n->l[i]?=some o->StX P T l.toArray F uN ks kw r n x ox st i i o:=λi o hi ho=>(by have:=hop0 i o (by rw [List.getElem?_take,if_pos hi];exact ho);rwa [Nat.zero_add] at this);have C:JC l n s.n st:=⟨G8 RG,hnl,hD,aqR hnl λi hi=>by
  have ho:l[i]?=some (l[i]' Z):=by simp
  have⟨d,hdd⟩:=J6 hD i (l[i]' Z) hi aCY;rcases hop i _ hi ho with⟨_,e,_,_,_,_,h1⟩|⟨_,h1,_⟩
  ·rw [e] at hdd
   rw [h1,hdd];exact⟨_,d,ho,by simp_all,O,O,Or.inl O⟩
  ·exact⟨_,d,ho,hdd,h1.shape hdd⟩⟩
 subst XW;obtain⟨J,hJd⟩:∃J:(Nat->Prop)->(Nat->Value)->World->Prop,J=λD vs w=>(¬D x/\Jr l n st B0 w0 a0 D vs w)\/(D x/\∃y,F y/\Jr l n (λi=>OA ox.dst ks kw (uN y) (st i)) B0 w0 a0 D vs w):=ψ;refine vk (J:=J) n (st 0).n hm hn0 uh hB (λi hi h=>⟨hL i h,λc a w d v ⟨s',hq,_⟩=>absurd hq ψ⟩) (λD D' vs vs' w h hDD hv=>?_) (by rw [hJd];exact Or.inl ⟨λq=>q,C.start hc0 hs0⟩) ?_ (λD vs w' hall hJ=>?_)
 ·rw [hJd] at h ⊢;rcases h with⟨h1,h2⟩|⟨h1,y,hy,h2⟩;exact Or.inl ⟨λq=>h1 ψ,h2.congr _ _ _ _ _ hDD hv⟩;exact Or.inr ⟨(hDD x hxn).1 h1,y,hy,h2.congr _ _ _ _ _ hDD hv⟩
 ·intro i o hi ho D vs w' hni uG yD hJ;have eG:l[i]?=some o:=aCj;have hxo:l.toArray[x]?=some ox:=aCj;rcases hop i o hi eG with⟨rfl,rfl,tX,he,hw,hg,hst⟩|⟨hne,h1,h2⟩
  ·rw [hJd] at hJ;replace hJ:=(hJ.resolve_right λq=>hni q.1).2;have⟨d,hd⟩:=C.dst i o hi eG;have hdN:=C.hr.dst i o d hi ho hd;have hA:=nR (a0:=a0) (ops:=l.toArray) O C.hr hn0 C.hnl vs i aEF;have⟨ρ,hc,q2,q3,q4⟩:=hJ;have hSl:=C.see hn0 hi ho hni uG yD q3 q4;rw [TJ (st i) o l.toArray] at hg;have hfin:∀v w2 ρ2 y,F y->gq ρ2 B0 w0 w2 (uN y++(st n).hp)->(∀av u,AR ρ (Bd ρ B0) w' av u->AR ρ2 (Bd ρ2 B0) w2 (BX ks kw av) u)->(∀id u,ρ2 id=some u->∃u',ρ id=some u')->AR ρ2 (Bd ρ2 B0) w2 r v->J (uK D i) (og vs i v) w2:=λv w2 ρ2 y hy hc2 har hdm hv=>by
    rw [hJd];refine Or.inr ⟨Or.inr O,y,hy,ρ2,hc2,λid u hu=>?_,λt av ht hno=>?_,λk hk' gQ=>?_⟩
    ·have⟨u',hu'⟩:=hdm id u hu
     rcases q2 id u' hu' with h5|⟨k,ok,hk',gQ,h5⟩
     ·refine Or.inl ?_
      show(lk (uN y++(st 0).hp) id).isSome=true
      rw [zQ];grind
     ·exact att
    ·have hne:=hno i o hi eG<|Or.inr O
     obtain⟨mJ,h5,rfl⟩:=aap (show isD o.dst t=false by
      rw [hd] at hne ⊢;show Nat.beq d t=false
      rw [<-Bool.not_eq_true];exact λe=>hne aHa) ht
     have⟨u,h6,h7⟩:=q3 t mJ h5 (λk o hk ho gQ=>hno k o hk ho<|Or.inl gQ);grind
    ·unfold og
     by_cases e:k=i
     ·subst e
      rw [if_pos O,aiR (s:=st<|k+1)<|by rw [hst,hd];rfl,hd,show isD (some d) d=true from Nat.beq_refl d,hst,hd];exact hv
     ·rw [if_neg e]
      have hok:l[k]?=some (l[k]' Z):=by simp
      have⟨dk,hdk⟩:=J6 C.hD k (l[k]' Z) hk' aCY;have hne:=C.one i k o _ dk hi hk' eG hok e hdk;rw [aiR<|C.way.sl k _ dk hk' hok hdk,show isD o.dst dk=false by
       rw [hd] at hne ⊢;show Nat.beq d dk=false
       rw [<-Bool.not_eq_true];exact λe=>hne aHa]
      rcases gQ with gQ|gQ
      ·grind
      omega
   have hwl:=C.wit aEF hw q3;refine iy aEN ?_;rcases he with he|he
   ·have⟨f,us,hrun,hcl⟩:=he ρ B0 w0 w' (fM (l.take i) 0 a0 vs) _ ⟨(st i).n,_,(st i).hp⟩ (C.way.hp i n aEF<|aav _) (TG (st i) o l.toArray) hc hSl hwl;unfold Oper.wp;rw [hrun];refine hcl.mono ?_;rintro e w2 ⟨v,ρ2,y,rfl,hy,hc2,har,hdm,hv⟩;refine⟨by rw [hd];exact hA.defs.trans uh,?_⟩;exact aAx
   ·have⟨v,w2,ρ2,y,hrun,hy,hc2,har,hdm,hv⟩:=he ρ B0 w0 w' (fM (l.take i) 0 a0 vs) _ ⟨(st i).n,_,(st i).hp⟩ (C.way.hp i n aEF<|aav _) (TG (st i) o l.toArray) hc hSl hwl;refine gV (a:=a0) hrun ⟨by rw [hd];exact hA.defs.trans uh,?_⟩;exact aAx
  ·rw [hJd] at hJ;rcases hJ with⟨h3,hJ⟩|⟨h3,y,hy,hJ⟩;exact C.step hT hn0 uh hi ho h1 hni uG yD hJ (λvs w hj=>by rw [hJd];exact Or.inl ⟨λq=>q.elim h3 Z,hj⟩);rcases h2 with h2|h2;exact absurd (G7 yD 6 ox i ψ h2) hni;exact(C.app ox.dst ks kw<|uN y).step hT hn0 uh hi ho ψ hni uG yD hJ (λvs w hj=>by rw [hJd];exact Or.inr ⟨Or.inl h3,y,hy,hj⟩)
 ·rw [hJd] at hJ;rcases hJ with⟨h3,_⟩|⟨_,y,hy,hJ⟩;grind;exact Vw y hy B0 w0 _ w'<|(C.app ox.dst ks kw<|uN y).fin hn0 O uh hall hJ
end
section
variable {P:Program} {T:TypeId→Option TI} {ops:Array Oper} {o:Oper} {Q:Qs} {s:AS}
def ate{c:Call}{f:FuncId}{ds:List DV}(h:vH P f ds e sz n el)(hc:gX o.op=some c)(hf:isF c.callee=some f)(ha:nK s c.args.toList=some ds):EvR P s o<|.a e sz n el:=by intro ρ B0 w0 w a hp s' hext wL hcr hs;have hop:=rF hc;rw [sW _<|λx hx=>wL x aE8] at ha;have⟨vs,hvs,hr⟩:=yN (cap:=[]) hs hc (MV hf) ha h.en;rw [List.append_nil] at hvs;refine Or.inr ⟨f,_,hr,(h.go (Bd ρ B0) w vs hcr.UO hvs).mono ?_⟩;rintro r w' ⟨v,rfl,hb,xs,hown,hel⟩;have hv:∀b,kK v=some b->w.heap.size<=b:=λb e=>(hown.2 b e).elim id (λh=>h.elim);refine⟨v,O,hb,hv,λd hρ=>?_⟩;have hB:∀b,Bd (up ρ d v) B0 b->Bd ρ B0 b\/kK v=some b:=aDv;exact⟨xs,aFS,λi j hi hj=>let ⟨x,hx,hl⟩:=hel i j hi hj;⟨x,hx,fP.mv aCu (λb _ hb=>hB b hb) _ hl⟩⟩
def axF(s:AS)(y:Operand)(sz m:Nat)(el:Nat->Nat->Lf):Prop:=∀(hp:List<|Nat×AO) (ρ:lq) (B0:BS) (w0:Wz) (w:World) (a:Act) (s':AS),Ext s.hp hp->dR s y=dR s' y->gq ρ B0 w0 w hp->gu ρ (Bd ρ B0) w s'.sl a->
 ∃ao c,∃news:List Value,a.eval y=.slice ao m c/\news.length=m*sz/\(ao=none->c=0)/\m<=c/\qC w ao news/\∀i j,i<m->j<sz->∃x,news[i*sz+j]?=some x/\fP (Bd ρ B0) w (el i j) x
def azw{y:Operand}(h:Qb s y sz=some (m,el)):axF s y sz m el:=λhp ρ B0 w0 w a s' _ he _ hs=>Hl hs (by unfold Qb at h ⊢;simp_all)
def amz{id:Nat}{u:Value}(h:AR ρ B w (fz av id .D<|λ_=>.D) u)(bJ:∃v,ρ id=some v):AR ρ B w (BX [id] [id] av) u:=by
 have hk:∀{k:Nat}{b:AV},AR ρ B w (bif Nat.beq k id then .D else b) u->AR ρ B w (bif ([id].any λq=>Nat.beq q k) then(bif ([id].any λq=>Nat.beq q k) then .w k else .D) else b) u:=λ{k b} h=>by
  rw [show([id].any λq=>Nat.beq q k)=Nat.beq k id by
   simp only [List.any_cons,List.any_nil,Bool.or_false];rw [Bool.eq_iff_iff];exact⟨λe=>by rw [Nat.eq_of_beq_eq_true e,Nat.beq_refl],λe=>by rw [Nat.eq_of_beq_eq_true e,Nat.beq_refl]⟩]
  cases e:Nat.beq k id with
  |true=>rw [Nat.eq_of_beq_eq_true e];exact bJ
  |false=>rw [e] at h;exact h
 cases av with
 |d x=>exact h
 |dY x=>exact h
 |D=>exact h
 |_=>exact hk h
def aBk(hT:xZ P T){F:Y->Prop}{uN:Y->List (Nat×AO)}{c:Call}{y:Operand}{t t2 e2:TypeId}{ti ti2 te:TI}{id bts:Nat}{el2:Nat->Nat->Lf}{tX:List Nat} 
  (hx:dR s x=some (.q id)) (hob:unO (lk s.hp id)=some (.a e te.n n el)) (hc:gX o.op=some c) (qU:c.callee=.builtin .append) (hargs:c.args.toList=[x,y]) (hty:c.argTypes.toList=[t,t2]) (ao4:T t2=some ti2) (he2:ti2.elem=some e2) (hti:T t=some ti) (he:ti.elem=some e) (hte:T e=some te) (hz:Nat.beq te.zero.length te.n=true) (h0:Nat.ble 1 te.n=true) (hy:axF s y te.n m el2) (hbt:te.bytes=bts) (hbd:(n+m)*bts<=140737488355328) (hmx:n+m<=9223372036854775807) (z:Y) (hz1:F z) (hz2:uN z=[(id,.a e te.n (n+m)<|fA n el el2)]):EvA P s o F uN [id] [id] tX<|.q id:=by
 intro ρ B0 w0 w a hp s' hext wL hcr hs _;rw [<-hbt] at hbd;have hop:=rF hc;have hop2:∀z∈c.args.toList,dR s z=dR s' z:=λz hz=>wL z (by rw [hop];simp only [Op.operands,Call.operands];grind);have⟨v',w',hrun,h1,h2,h3⟩:=ajl hT hcr (cu hs ψ) (id:=id) (n:=n) (el:=el) (e:=e) (te:=te) (by
  cases hq:lk s.hp id with
  |none=>rw [hq] at hob;cases hob
  |some ob'=>rw [hext id ob' hq];simp_all) (hy hp ρ B0 w0 w a s' hext ψ hcr hs) hbd hmx hc qU hargs hty ao4 he2 hti he hte hz h0
 refine⟨v',w',up ρ id v',z,hrun,hz1,by simp_all,λav u q=>amz ψ ⟨v',h3.1⟩,λk u hu=>?_,h3⟩;unfold up at hu;split at hu
 ·rename_i e;subst e;have⟨bJ,_⟩:=(cu hs ψ:AR ρ (Bd ρ B0) w (.q k)<|a.eval x);simp_all
 simp_all
def avL{B0:BS}{w0:Wz}{id:Nat}{v:Value}(hc:gq ρ B0 w0 w hp)(bJ:ρ id=some v)(o2:OR (Bd ρ B0) w0 w (.a e sz n el) v):fP (Bd (less ρ id) B0) w (.a sz n el) v:=by have hK:nH (Bd ρ B0) w w:=aCu;have⟨xs,⟨⟨hxl,hown⟩,hbk⟩,hel⟩:=o2;rcases hown with⟨rfl,h0⟩|⟨g,cap,cur,rfl,hge,hblk,hn,hm,hsz',htk⟩;subst h0;exact ao1;refine⟨some ⟨g,0,none⟩,cap,O,hn,λh=>aEP,λi hi=>⟨g,0,O,hc.lone bJ O,lt_of_block hblk,λj hj=>?_⟩⟩;have⟨x,hx1,hx2⟩:=hel i j hi hj;refine⟨x,?_,fP.mv hK (λb _ hb=>Gw b hb) _ hx2⟩;rw [Nat.zero_add,cell_of_row w g _ cur _ (0,0) hblk,<-Array.getElem?_toList];rw [<-htk,List.getElem?_take] at hx1;split at hx1;exact hx1;cases hx1
def ahL(q id tw:Nat){x:Value}{bq bq':AO}(hw:lk s.sl tw=some av)(hi:nJ av=some id)(h:lk s.hp id=some (.i x (.a e sz n el)))(hq:lk s.hp q=some bq)(hne:Nat.beq q id=false)(hl:∀B w0 w v,fP B w (.a sz n el) x->OR B w0 w bq v->OR B w0 w bq' v):Wk s ⟨s.n,ZM id .D (λ_=>.D) s.sl,(q,bq')::dk s.hp id⟩:=by rintro B0 w0 a w ⟨ρ,hc,hn,hdf,hs⟩;have⟨u,_,hu⟩:=hs tw _ hw;have⟨y,hy⟩:=tZ hi hu;have⟨ob,q1,q2⟩:=hc.obj id y hy;rw [h] at q1;cases q1;have⟨e2,q3⟩:=q2;have hlf:=avL hc hy q3;rw [e2] at hlf;have hcl:=hc.less (id:=id);refine⟨less ρ id,⟨hcl.bel,hcl.b0,λk v hk=>?_,hcl.dist⟩,hn,hdf,λt mJ ht=>?_⟩;have⟨ob,r1,r2⟩:=hcl.obj k v hk;rw [aY];by_cases ek:q=k;subst ek;rw [VK,if_neg (λe=>by rw [e,Nat.beq_refl] at hne;cases hne),hq] at r1;cases r1;exact⟨bq',if_pos O,hl _ _ _ _ hlf r2⟩;exact⟨ob,by rw [if_neg ek];exact r1,r2⟩;obtain⟨av2,r1,rfl⟩:=xO _ _ _ ht;have⟨c,r2,r3⟩:=hs t av2 r1;exact⟨c,r2,r3.fz hy (λ_=>trivial) (λ_ _ _=>trivial)⟩
end
end
def abZ{x:AT}{el2:Nat->Nat->Lf}(h:∀j,j<9->el2 0 j=((Xu K x.1 L x.2.1 L x.2.2)[j]?).getD (.v undef)):AO.le (.a e 9 1 el2)<|.a e 9 [x].length (yT K L [x]):=jY λi hi j hj B w v hv=>by
 obtain rfl:i=0:=Z
 rw [h j hj] at hv;exact hv
def abY{l l2:List AT}:AO.le (.a e 9 (l.length+l2.length)<|fA l.length (yT K L l)<|yT K L l2)<|.a e 9 (l++l2).length<|yT K L<|l++l2:=by rw [List.length_append];refine jY λi hi j hj B w v hv=>?_;unfold fA at hv;by_cases h:i<l.length;rw [show Nat.ble (i+1) l.length=true from Nat.ble_eq_true_of_le h] at hv;have e2:ga (l++l2) i=ga l i:=(by unfold ga;rw [List.getD_eq_getElem?_getD,List.getD_eq_getElem?_getD,List.getElem?_append_left h]);unfold yT ac al ah;rw [e2];exact hv;rw [show Nat.ble (i+1) l.length=false from by rw [<-Bool.not_eq_true,Nat.ble_eq];omega] at hv;have e2:ga (l++l2) i=ga l2 (i-l.length):=(by unfold ga;rw [List.getD_eq_getElem?_getD,List.getD_eq_getElem?_getD,List.getElem?_append_right Z]);unfold yT ac al ah;rw [e2];exact hv
def Xa(c:Nat->Int)(l:List<|Rat×Rat):List AT:=l.map<|Prod.mk c
def JQ(c:Nat->Int)(l:List<|Rat×Rat):(Xa c l).length=l.length:=List.length_map _
def anq{M2:Nat}{L:List (Nat->Int)}(hQ:Uj f KC L)(hle:lo<=hi)(hK:KC<=10000000)(hM:M<=1000000)(hM2:M2<=1000000):aH prog 187 [.o<|.at 1<|λq=>((aAZ L KC)[0+q]?).getD<|.v undef,.j<|tn M lo,.j<|tn M2 hi]<|dI ((je f lo hi:Nat):Int):=
 aH.le (dl DV.same<|dl DV.same aCJ) (aJ<|by have:=(hQ.cnt hle).1;omega) (Bj hle hQ.zz (by have:=hQ.len;omega) hK hM hM2)
def alu{LL JM d:Nat}{L:List (Nat->Int)}(hC:JK c)(hQ:Uj c KC L)(b1:∀i,(c i).natAbs<=2^h1)(hcb:∀a b,a<=b->je c a b<=1000000)(hI:SpI c h1 LL J d lo hi)(hJ:J+d<=JM)(hX:3*LL+JM/32+1<=X)(hX1:X<=100000)(hK:K<=1000000)(zG:KC<=10000000)(ih:∀d',d=d'+1->∀lo hi J,SpI c h1 LL J d' lo hi->J+d'<=JM->vH prog 92 [.o<|bP K (lg c) c,.o<|.at 1<|λq=>(([.a 1 L.length<|ug KC L]:List Lf)[0+q]?).getD<|.v undef,.j<|tn X lo,.j<|tn X hi,.o<|vI ((je c lo hi:Nat):Int)] 90 9 (Xa c<|P9 c (d'+1) lo hi).length (yT K X<|Xa c<|P9 c (d'+1) lo hi)):vH prog 92 [.o<|bP K (lg c) c,.o<|.at 1<|λq=>(([.a 1 L.length<|ug KC L]:List Lf)[0+q]?).getD<|.v undef,.j<|tn X lo,.j<|tn X hi,.o<|vI ((je c lo hi:Nat):Int)] 90 9 (Xa c<|P9 c (d+1) lo hi).length<|yT K X<|Xa c<|P9 c (d+1) lo hi:=by have hlc:=dN c;have hd:dg c (lg c)=lg c:=iK hC.z.lg hC.z;refine adP aj 48 10 func92 O O O O O<|cR<|mO O<|mO O<|mW O<|I<|au<|cR<|mW O<|I<|aK<|au ?_;have h0b:=hcb lo hi hI.le;by_cases hn0:je c lo hi=0;exact aA<|mbT O (acW.2 Z)<|mW O<|I<|cT O<|cR<|mW O<|AL.wk (nS 10 10 90 9 (λ_ _=>.v undef) O O)<|I<|aQ<|bR<|tR<|rR 10 aD3 aD3 (by rw [avR hn0];exact iD (el:=λ_ _=>.v undef));refine aA<|mbF O (acz.2 Z)<|mW O<|I<|cF O<|au ?_;by_cases hn1:je c lo hi=1;exact aA<|mbT O (acW.2 Z)<|mW O<|I<|cT O<|au<|cDr 7 []<|rVr O<|rCr (kP<|iQ (K:=K) (c:=c)<|bK.lg hC.z) O<|rVr O<|rCr (x9 (K:=X) (p:=lo)) O<|rVr O<|rCr (x9 (K:=X) (p:=hi)) O<|rVr O<|.nil<|mR aj (.a 90 9 1<|λi' j'=>(([.a 2 (dg c<|lg c)<|aX K c]++tn X lo++tn X hi)[i'*9+j']?).getD<|.v undef) O O O<|mW O<|I<|aQ<|bR<|tR<|rR 25 O O (by rw [avS hn1];exact abZ<|λj hj=>by show(_[0*9+j]?).getD _=_;rw [Nat.zero_mul,Nat.zero_add,hd];rfl);refine aA<|mbF O (acz.2 Z)<|mW O<|ak<|tN<|cF O<|aO<|bN<|tN<|au ?_;obtain⟨d',rfl⟩:∃d',d=d'+1:=(by cases d with|zero=>exfalso;have h9:=Qa hC b1 hI.le hI.l hI.h (by have:=hI.w;rw [show t2 0=1 from O] at this;exact this);omega|succ d=>exact⟨d,O⟩);have⟨i1,i2⟩:=hI.down;have hq:=(i1.tb (X:=X) Z).2;have hadd:=hC.add (lo:=lo) (m:=((lo+hi)/2)) (hi:=hi) i1.le i2.le;refine aA<|mE 2 O<|mY alE O<|mO O<|mZ O<|I<|cR<|mE 3 O<|mY (anq (f:=c) hQ i1.le zG Z Z) O<|mW O<|I<|au ?_;obtain⟨l1,hl1⟩:∃l,l=Xa c (P9 c (d'+1) lo ((lo+hi)/2)):=⟨_,O⟩;have cl1:=ih d' O lo ((lo+hi)/2) (J+1) i1 Z;have nl1:l1.length<=1000000:=(by rw [hl1,JQ];have h8:=ah9 List.length<|Af c (d'+1) lo<|(lo+hi)/2;rw [List.length_map,(i1.ok hC b1).len] at h8;have h7:=hcb _ _ i1.le;omega);rw [<-hl1] at cl1;obtain⟨l2,hl2⟩:∃l,l=Xa c (P9 c (d'+1) ((lo+hi)/2) hi):=⟨_,O⟩;have cl2:=ih d' O ((lo+hi)/2) hi (J+1) i2 Z;have nl2:l2.length<=1000000:=(by rw [hl2,JQ];have h8:=ah9 List.length<|Af c (d'+1) ((lo+hi)/2) hi;rw [List.length_map,(i2.ok hC b1).len] at h8;have h7:=hcb _ _ i2.le;omega);rw [<-hl2] at cl2;refine wB [12,32,31,30,29,11,28,27,26,16,17,14,15,13,10,8,7,4,3,2,1,0] [8,7] 11 (.b 54<|tn X<|(lo+hi)/2) O O (xu<|oZ hq) O<|cDr 14 []<|rEr 5 O<|.cons (.R (.a 90 9 l1.length<|yT K X l1) (ate (cl1) O O O) 38 O O)<|rEr 6 O<|.cons (.S<|aC.V (dI ((je c ((lo+hi)/2) hi:Nat):Int)) aCm)<|.cons (.R (.a 90 9 l2.length<|yT K X l2) (ate (cl2) O O O) 46 O O)<|.nil<|AL.wk (iY 46 O)<|mA aj (id:=38) (n:=l1.length) (m:=l2.length) (el:=(yT K X l1)) (el2:=(yT K X l2)) O O O (by show(l1.length+l2.length)*152<=140737488355328;omega) Z O O O O O O O O O O<|mW O<|I<|aQ<|rR 38 O O (by rw [avT hn0 hn1];unfold Xa at *;rw [List.map_append,<-hl1,<-hl2];exact abY)
def ax0{LL JM:Nat}{L:List (Nat->Int)}(hC:JK c)(hQ:Uj c KC L)(b1:∀i,(c i).natAbs<=2^h1)(hcb:∀a b,a<=b->je c a b<=1000000)(hX:3*LL+JM/32+1<=X)(hX1:X<=100000)(hK:K<=1000000)(zG:KC<=10000000):∀(d J:Nat) (lo hi:Rat),SpI c h1 LL J d lo hi->J+d<=JM->vH prog 92 [.o<|bP K (lg c) c,.o<|.at 1<|λq=>(([.a 1 L.length<|ug KC L]:List Lf)[0+q]?).getD<|.v undef,.j<|tn X lo,.j<|tn X hi,.o<|vI ((je c lo hi:Nat):Int)] 90 9 (Xa c<|P9 c (d+1) lo hi).length (yT K X<|Xa c<|P9 c (d+1) lo hi):=by intro d;induction d with|zero=>exact λJ lo hi hI hJ=>alu hC hQ b1 hcb hI hJ hX hX1 hK zG (λd' e=>by omega)|succ d ih=>exact λJ lo hi hI hJ=>alu hC hQ b1 hcb hI hJ hX hX1 hK zG ψ
def alG(hK:K<=1000000:=by omega):aH prog 93 [.j<|tn K p]<|.d<|.j<|tn (max K 2+1) (-p):=by have h:=asD (xK K p) (M:=max K 2+1) Z Z;rwa [kU] at h
def Zc{L:List (Nat->Int)}(h:Uj c KC L)(a b:Rat)(hab:a<=b):je c a b<=1000000:=by
 have⟨h1,_,_⟩:=h.cnt hab;have⟨_,hl⟩:=h.len;have h2:vr (wz L a)<=L.length:=by have:=Fp (wz L a) 0;unfold wz at this;rw [List.length_map] at this;exact this
 omega
def anT{Ms:Nat}(zc:bK c)(h2:2<=lg c)(hS:AZ c Ms c)(hb:Lb K c)(hN:N<=10)(Uo:lg c<=N)(OC:(21*K+5+1)*(2*3^N)<=KC)(hK5:50*(K+3)<=KC)(hC:KC<=10000000)(hX:3*(max (max (max K K+1) K) 1+1)+rtD c (32*K)/32+1<=X)(hX1:X<=100000):aH prog 24 [.o (aBV K c)] (.dY [.o (Oo (λAs:List AT=>As=(Xa c (rtL c (32*K)))/\As.length<=1000000) (λAs:List AT=>.a 9 As.length (yT K X As))),.o (vI 0)]):=by
 have hlc:=dN c;have ayz:21*K+6<=KC:=acL aGx OC;refine aN 32 [.tmp 2,.tmp 3] func24 O<|cR<|mE 2 O<|I<|cR<|mW O<|mY (ait aDg zc Z hN Uo Z OC hK5 Z (KC:=KC)) O<|mE 5 O<|I<|au<|au<|UR (Qx:=(YG c (21*K+3) KC)) (L:=(λL=>.at 1 (λq=>(([.a 1 L.length (ug KC L)]:List Lf)[0+q]?).getD (.v undef)))) 4 O (λL hL=>?_);have hQ:Uj c KC L:=⟨c,_,hL,hL.sq.eq.trans hS.eq.symm⟩;have hCn:=hQ.cn h2;refine aA<|mW O<|mbF O O<|I<|cFs O<|cR<|mW O<|mY (Qy (KC:=KC) aDg zc Z hN Uo Z (acL (abh _ Z) OC) hK5) O<|mW O<|I<|au<|UR (Qx:=(AZ c (21*K+3))) (L:=(λf=>bP (21*K+3) (lg f) f)) 6 O (λf hf=>?_);obtain rfl:c=f:=hS.eq.trans hf.eq.symm;refine fQ 6 (aBn c K) O (kQ hb)<|aA<|mW O<|mY (YX zc) O<|mE 3 O<|mO O<|mZ O<|mW O<|I<|au<|AW.fact (ayq 22 O) (λhT=>?_);have b1:∀i,(c i).natAbs<=2^(32*K):=λi=>by have:=hb i;rw [show(2:Nat)^(32*K)=dF^K from by rw [Nat.pow_mul]];omega
 have hI:=Wq hCn b1 hT;exact cDr 8 []<|rEr 3 O<|rCr (alG (K:=(max (max (max K K+1) K) 1+1)) (p:=(o9 c))) O<|rEr 2 O<|rCr (ado (KC:=KC) (f:=c) (L:=L) hQ Z hC) O<|rCr (aH.le (dl DV.same (dl DV.same (dl (DV.g (Ub (show(max (max (max (max K K+1) K) 1+1) 2+1)<=X by omega))) (dl (DV.g (Ub (show(max (max (max K K+1) K) 1+1)<=X by omega))) aCJ)))) AV.le.rfl (ax0 (K:=K) (KC:=KC) (X:=X) (LL:=(max (max (max K K+1) K) 1+1)) (JM:=rtD c (32*K)) (h1:=32*K) (c:=c) (L:=L) hCn hQ b1 (Zc hQ) hX hX1 Z hC (rtD c (32*K)) 0 (-(o9 c)) (o9 c) hI Z).call) O<|.nil<|mE 2 O<|I<|aQ<|rQ O (jK (dl (yx (Iq (Q:=(λAs:List AT=>As=(Xa c (rtL c (32*K)))/\As.length<=1000000)) (L:=(λAs:List AT=>.a 9 As.length (yT K X As))) (Xa c (rtL c (32*K))) ⟨O,by have h8:=ah9 List.length (Af c (rtD c (32*K)+1) (-(o9 c)) (o9 c));rw [List.length_map] at h8;rw [JQ];have h9:=(ag5 hCn b1 hT).len;have h7:=Zc hQ _ _ hI.le;unfold rtF at h9;unfold rtL;omega⟩)) aCJ))
end
end Go.Proofs.YtecmeakkkmidjaaGreat
