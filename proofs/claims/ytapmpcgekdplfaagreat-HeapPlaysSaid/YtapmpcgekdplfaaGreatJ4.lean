/-
  Laws of the program's functions by an abstract machine, part 4: joined, short spelling. No condition.
-/
import Derived.Test.YtapmpcgekdplfaaGreatJ3
set_option linter.unusedVariables false
set_option linter.unusedSimpArgs false
set_option maxRecDepth 100000
set_option maxHeartbeats 4000000
namespace Go.Proofs.YtapmpcgekdplfaaGreat
open Go.RowKit
/-- Powers of two. -/
def t2(k:Nat):Rat:=((2^k:Nat):Rat)
theorem jK(a b:Nat):t2 (a+b)=t2 a*t2 b:=by unfold t2;rw [Nat.pow_add];exact Rat.natCast_mul _ _
theorem iK(k:Nat):0 < t2 k:=by unfold t2;exact_mod_cast afn k
theorem Oz(k:Nat):1≤t2 k:=qK (a:=1) (afn k)
theorem Hr{a b:Nat}(h:a≤b):t2 a≤t2 b:=qK (ab1 (by decide) h)
theorem OA(a:Nat):∀ n:Nat,t2 a^n=t2 (a*n)
 | 0=>by rw [Rat.pow_zero];rfl
 | n+1=>by rw [Rat.pow_succ,OA a n,← jK,Nat.mul_succ]
theorem QT{n a:Nat}(h:n≤2^a):(n:Rat)≤t2 a:=qK h
theorem BZ{x y:Rat}{a b:Nat}(hx:x≤t2 a)(hy:y≤t2 b)(hy0:0≤y):x*y≤t2 (a+b):=by
 rw [jK];have h1:x*y≤t2 a*y:=abS hx hy0;have h2:t2 a*y≤t2 a*t2 b:=abK hy (by have:=iK a;grind);grind
theorem N7{x:Rat}(h:0≤x):∀ n:Nat,0≤x^n
 | 0=>by rw [Rat.pow_zero];grind
 | n+1=>by rw [Rat.pow_succ];exact acQ (N7 h n) h
theorem BM{x y:Rat}(h:0≤x)(k:x≤y):∀ n:Nat,x^n≤y^n
 | 0=>by rw [Rat.pow_zero,Rat.pow_zero];grind
 | n+1=>by
  rw [Rat.pow_succ,Rat.pow_succ];have h1:=abS (BM h k n) h;have h2:=abK k (N7 (show 0≤y by grind) n);grind
theorem I8:∀ n,n≤40→n≤2^(n / 2+1):=by
 intro n hn;have:∀ m:Fin 41,m.val≤2^(m.val / 2+1):=by decide
 exact this ⟨n,by omega⟩
/-- A row's size on an interval, and how steep it is. -/
theorem Fp{u:Nat→Int}{m n a k bl:Nat}{H:Rat}(hm:m≤n)(ha:n≤2^a)(hu:∀ i,Ab (u i:Rat) H)(hH:H≤t2 k):(∀ x,In (t2 bl) x→Ab (pz u x m) (t2 (3*a+bl*n+k)))∧RD (t2 bl) (fun x=>pz u x m) (t2 (3*a+bl*n+k)):=by
 have hH0:0≤H:=(hu 0).nn;have hB:=Oz bl;have hn:(n:Rat)≤t2 a:=QT ha;have hn0:=iT n;have hm':(m:Rat)≤(n:Rat):=qK hm;have hTB:TB n H (t2 bl)≤t2 (a+a+bl*n+k):=by
  unfold TB;rw [OA];exact BZ (BZ (BZ hn hn hn0) (by grind) (by have:=iK (bl*n);grind)) hH hH0
 have hT0:=QV (N:=n) hB hH0;have hall:(m:Rat)*TB n H (t2 bl)≤t2 (3*a+bl*n+k):=by
  have h1:=BZ (show (m:Rat)≤t2 a by grind) hTB hT0;rwa [show a+(a+a+bl*n+k)=3*a+bl*n+k by omega] at h1
 refine ⟨fun x hx=>(aaD hB hH0 (FP hx (by grind)) hm fun i _=>hu i).mono hall,fun x y hx hy hxy=>?_⟩;have h1:=TJ (c:=rc u) hB hH0 (FP hx (show t2 bl≤t2 bl by grind)) (FP hy (by grind)) hxy hm fun i _=>hu i
 have h2:(m:Rat)*TB n H (t2 bl)*(y-x)≤t2 (3*a+bl*n+k)*(y-x):=abS hall (by grind);have h3:=h1.mono h2;unfold Ab at h3;show pe (rc u) y m-pe (rc u) x m≤_∧pe (rc u) x m-pe (rc u) y m≤_
 constructor <;> grind
theorem FQ{z:Int}{H:Nat}(h: -(H:Int)≤z∧z≤H):Ab (z:Rat) (H:Rat):=by
 constructor
 ·exact Lm h.1
 ·have:(z:Rat)≤((H:Int):Rat):=by exact_mod_cast h.2
  exact this
theorem afP{z:Int}(h:z≠0):1≤(z:Rat)∨(z:Rat)≤-1:=U3 h
theorem oU{c:Nat→Int}(z:bC c){n:Nat}(h:∀ i,n≤i→c i=0)(x:Rat):pz c x n=FF c x:=congrFun (yI h z) x
/-- f with its derivative: all is small. -/
theorem agE{c:Nat→Int}(zc:bC c)(sq:AB (FF c) (FF (bP c)))(h2:2≤lg c){h1:Nat}(hc:∀ i,(c i).natAbs≤2^h1)(bl a:Nat)(ha:lg c≤2^a):
  ∃ (U V:Fn) (z:Rat),(1≤z∨z≤-1)∧(∀ x,U x*FF c x+V x*FF (bP c) x=z)∧(∀ x,In (t2 bl) x→Ab (U x) (t2 (3*a+bl*lg c+(2+a+(a+h1))*(2*lg c-3))))∧(∀ x,In (t2 bl) x→Ab (V x) (t2 (3*a+bl*lg c+(2+a+(a+h1))*(2*lg c-3))))∧RD (t2 bl) (FF (bP c)) (t2 (3*a+bl*lg c+(a+h1))):=by
 obtain ⟨n,hn⟩:∃ n,n=lg c:=⟨_,rfl⟩
 rw [← hn] at h2 ha ⊢;have hz:∀ i,n≤i→c i=0:=by rw [hn];exact zc.lg
 have htop:c (n-1)≠0:=by rw [hn];exact lu (by omega)
 have hz':∀ i,n-1≤i→bP c i=0:=fun i hi=>by unfold bP;rw [hz (i+1) (by omega)];simp
 have P8:bP c (n-2)≠0:=by
  unfold bP;rw [show n-2+1=n-1 by omega];exact af2 htop (by omega)
 obtain ⟨H,hH⟩:∃ H,H=n*2^h1:=⟨_,rfl⟩
 have hp:=afn h1;have hle:2^h1≤H:=by rw [hH];exact aht _ (by omega)
 have bc:∀ i,-(H:Int)≤c i∧c i≤H:=fun i=>by have:=hc i;omega
 have bc':∀ i,-(H:Int)≤bP c i∧bP c i≤H:=fun i=>by
  by_cases hi:n-1≤i
  ·rw [hz' i hi];omega
  ·have e:(bP c i).natAbs≤H:=by
    unfold bP;rw [Int.natAbs_mul,hH,Nat.mul_comm];exact ae0 (by omega) (hc _)
   omega
 obtain ⟨U,V,z,hz0,hU0,hV0,bU,bV,Nk⟩:=UF (c:=c) (c':=bP c) (γ:=fun i=>if i=0 then 1 else 0) (d:=n-1) (e:=n-2) (r:=0) (H:=H) (k1:=FF c) (k2:=FF (bP c)) (fun i hi=>hz i (by omega)) (fun i hi=>hz' i (by omega)) (fun i hi=>if_neg (by omega)) htop P8 (by decide) (by decide) (by omega) bc bc' sq.po sq.Xx
  (fun x=>by rw [oU zc (fun i hi=>hz i (by omega))];show _=FF c x*(0+1*x^0);rw [Rat.pow_zero];grind)
  (fun x=>by rw [oU (fA zc) (fun i hi=>hz' i (by omega))];show _=FF (bP c) x*(0+1*x^0);rw [Rat.pow_zero];grind) sq.cop (by omega) (by omega) (by omega)
 have hKH:(((2*(n-1+(n-2))*H)^(n-1+(n-2)):Nat):Rat)≤t2 ((2+a+(a+h1))*(2*n-3)):=by
  refine QT ?_;rw [Nat.pow_mul,show n-1+(n-2)=2*n-3 by omega];refine afb ?_ _;have e:2*(2*n-3)≤2^(2+a):=by rw [Nat.pow_add];omega
  have e2:H≤2^(a+h1):=by rw [hH,Nat.pow_add];exact abN _ ha
  rw [Nat.pow_add];exact ae0 e e2
 have rU:=Fp (u:=U) (m:=n-2-0) (n:=n) (bl:=bl) (by omega) ha (fun i=>FQ (bU i)) hKH;have rV:=Fp (u:=V) (m:=n-1-0) (n:=n) (bl:=bl) (by omega) ha (fun i=>FQ (bV i)) hKH;have rL:=Fp (u:=bP c) (m:=n-1) (n:=n) (bl:=bl) (k:=a+h1) (by omega) ha (fun i=>FQ (bc' i)) (QT (by rw [hH,Nat.pow_add];exact abN _ ha));refine ⟨fun x=>pz U x (n-2-0),fun x=>pz V x (n-1-0),(z:Rat),afP hz0,fun x=>?_,rU.1,rV.1,?_⟩
 ·have h:=Nk x
  rw [oU zc (fun i hi=>hz i (by omega)),oU (fA zc) (fun i hi=>hz' i (by omega))] at h;rw [h];show (z:Rat)*(0+1*x^0)=z
  rw [Rat.pow_zero];grind
 ·have e:(fun x=>pz (bP c) x (n-1))=FF (bP c):=funext fun x=>oU (fA zc) hz' x
  rw [← e];exact rL.2
/-- Both have a greatest common divisor, with whole quotients. -/
theorem acZ{c d:Nat→Int}(zc:bC c)(zd:bC d)(hc:lg c≠0)(hd:lg d≠0):∃ γ k1 k2:Nat→Int,bC γ∧lg γ≠0∧bF γ (lg γ)=1∧bC k1∧bC k2∧(∀ i,aY k1 γ i=c i)∧(∀ i,aY k2 γ i=d i)∧lg γ≤lg c∧lg γ≤lg d∧Ey (FF k1) (FF k2)∧(∀ x,FF c x=FF k1 x*FF γ x)∧∀ x,FF d x=FF k2 x*FF γ x:=by
  obtain ⟨D,u,v,s,t,pD,pu,pv,ps,pt,h1,h2,h3⟩:=Ju 20 (FF c) (FF d) (dh zc) ⟨rc d,qM zd,fun _=>rfl⟩;have hD:∃ x,D x≠0:=by
    obtain ⟨x,hx⟩:=abI zc hc;refine ⟨x,fun e=>hx ?_⟩;rw [h2,e,Rat.mul_zero]
  obtain ⟨k,α,hk⟩:=nM pD hD;have hkc:=Dv.deg ⟨s,ps,h2⟩ hk (FI zc hc);have hlc:=dO c;obtain ⟨q,hq1,hq2,hq3,hq⟩:=hk;obtain ⟨m,w,hm,hw,e⟩:=FH (q:=q) (k:=k+1) fun i hi=>hq1 i (by omega)
  have zw:bC w:=fun i hi=>hw i (by omega)
  have hm0 : (m : Rat) ≠ 0 := by have : (0 : Rat) < (m : Rat) := by exact_mod_cast hm
                                 grind
  have hFw:∀ x,FF w x=D x*(m:Rat):=fun x=>by
    rw [← oU zw hw,hq x];show pe (rc w) x (k+1)=_
    rw [← sV];exact mP fun i _=>e i
  have hw0:lg w≠0:=fun e0=>by
    obtain ⟨x,hx⟩:=hD;have:=(oh zw).1 e0 x;rw [hFw] at this;rcases aiN.1 this with h | h
    · exact hx h
    · exact hm0 h
  obtain ⟨σ,hσ,hFp⟩:=xk zw hw0;have pm:=kE zw hw0;have zγ:=gK zw;obtain ⟨γ,hγ⟩:∃ γ,γ=bH w:=⟨_,rfl⟩
  rw [← hγ] at hFp pm zγ;have hDγ:∀ x,D x=σ / (m:Rat)*FF γ x:=fun x=>by
    have h4:=hFp x;rw [hFw] at h4;have:D x=D x*(m:Rat) / (m:Rat):=by grind
    rw [this,h4];grind
  have ec:∀ x,FF c x=(s x*(σ / (m:Rat)))*FF γ x:=fun x=>by rw [h2 x,hDγ x];grind
  have ed:∀ x,FF d x=(t x*(σ / (m:Rat)))*FF γ x:=fun x=>by rw [h3 x,hDγ x];grind
  obtain ⟨k1,n1,z1,c1,e1⟩:=nT zc.lg zγ.lg pm.one (ps.yG (σ / (m:Rat))) (fun x=>by rw [iO zc,iO zγ];exact ec x);obtain ⟨k2,n2,z2,c2,e2⟩:=nT zd.lg zγ.lg pm.one (pt.yG (σ / (m:Rat))) (fun x=>by rw [iO zd,iO zγ];exact ed x);have y1:=LH zγ zc pm.pos z1 c1;have y2:=LH zγ zd pm.pos z2 c2;have f1:∀ x,FF k1 x=s x*(σ / (m:Rat)):=fun x=>by rw [← oU y1 z1];exact e1 x
  have f2:∀ x,FF k2 x=t x*(σ / (m:Rat)):=fun x=>by rw [← oU y2 z2];exact e2 x
  have g1:∀ x,FF c x=FF k1 x*FF γ x:=fun x=>by rw [f1];exact ec x
  have g2:∀ x,FF d x=FF k2 x*FF γ x:=fun x=>by rw [f2];exact ed x
  refine ⟨γ,k1,k2,zγ,pm.pos,pm.one,y1,y2,c1,c2,(l9 zc zγ hc ⟨_,dh y1,g1⟩).2,(l9 zd zγ hd ⟨_,dh y2,g2⟩).2,?_,g1,g2⟩;have hne:=abI zγ pm.pos;have hτ:σ / (m:Rat)≠0:=fun h=>by
    have:σ=σ / (m:Rat)*(m:Rat):=by grind
    rw [h,Rat.zero_mul] at this;exact hσ this
  refine ⟨fun x=>u x*((m:Rat) / σ),fun x=>v x*((m:Rat) / σ),pu.yG _,pv.yG _,fun x=>?_⟩;refine nK (dh zγ) hne (((pu.yG ((m:Rat) / σ)).mul (dh y1)).add ((pv.yG ((m:Rat) / σ)).mul (dh y2))) (bZ 1) (fun x=>?_) x;have h5:=h1 x;rw [hDγ x,g1 x,g2 x] at h5;have h6:FF γ x=(u x*(FF k1 x*FF γ x)+v x*(FF k2 x*FF γ x))*((m:Rat) / σ):=by
    rw [← h5];have:σ / (m:Rat)*((m:Rat) / σ)=1:=by grind
    grind
  grind
/-- Two: all is small. -/
theorem anb{c d γ k1 k2:Nat→Int}(zc:bC c)(zd:bC d)(zγ:bC γ)(y1:bC k1)(y2:bC k2)(hc2:2≤lg c)(hd2:2≤lg d)(hγ0:lg γ≠0)(pm:bF γ (lg γ)=1)(c2:∀ i,aY k2 γ i=d i)(hγc:lg γ≤lg c)(hγd:lg γ≤lg d)(hne:lg γ < lg c∨lg γ < lg d)(cop:Ey (FF k1) (FF k2))(g1:∀ x,FF c x=FF k1 x*FF γ x)(g2:∀ x,FF d x=FF k2 x*FF γ x) 
  {hm h2:Nat} (hc:∀ i,(c i).natAbs≤2^hm) (hd:∀ i,(d i).natAbs≤2^hm) (hdd:∀ i,(d i).natAbs≤2^h2) (bl a a2 N:Nat) (hN:N=lg c+lg d) (ha:N≤2^a) (ha2:lg d≤2^a2):
  ∃ (U V:Fn) (z:Rat),(1≤z∨z≤-1)∧(∀ x,U x*FF k1 x+V x*FF k2 x=z)∧(∀ x,In (t2 bl) x→Ab (U x) (t2 (3*a+bl*N+(1+a+hm)*(N-2))))∧(∀ x,In (t2 bl) x→Ab (V x) (t2 (3*a+bl*N+(1+a+hm)*(N-2))))∧RD (t2 bl) (FF k2) (t2 (3*a2+bl*lg d+(a2+(h2+(1+a2)*lg d)+(4+a2)*lg d))):=by
 obtain ⟨n1,e1⟩:∃ n,n=lg c:=⟨_,rfl⟩
 obtain ⟨n2,e2⟩:∃ n,n=lg d:=⟨_,rfl⟩
 obtain ⟨r,er⟩:∃ r,r+1=lg γ:=⟨lg γ-1,by omega⟩
 rw [← e1] at hc2 hγc hne hN;rw [← e2] at hd2 hγd hne hN ha2 ⊢;rw [← er] at hγc hγd hne pm;have hz1:∀ i,n1≤i→c i=0:=by rw [e1];exact zc.lg
 have hz2:∀ i,n2≤i→d i=0:=by rw [e2];exact zd.lg
 have hzγ:∀ i,r+1≤i→γ i=0:=by rw [er];exact zγ.lg
 have t1:c (n1-1)≠0:=by rw [e1];exact lu (by omega)
 have t2':d (n2-1)≠0:=by rw [e2];exact lu (by omega)
 have t3:γ r≠0:=by have:=lu (c:=γ) (by omega);rwa [← er,Nat.add_sub_cancel] at this
 have hp:=afn hm;obtain ⟨U,V,z,hz0,hU0,hV0,bU,bV,Nk⟩:=UF (c:=c) (c':=d) (γ:=γ) (d:=n1-1) (e:=n2-1) (r:=r) (H:=2^hm) (k1:=FF k1) (k2:=FF k2) (fun i hi=>hz1 i (by omega)) (fun i hi=>hz2 i (by omega)) (fun i hi=>hzγ i (by omega)) t1 t2' t3 pm (by omega) (fun i=>by have:=hc i;omega) (fun i=>by have:=hd i;omega) (dh y1) (dh y2)
  (fun x=>by rw [oU zc (fun i hi=>hz1 i (by omega)),oU zγ hzγ];exact g1 x)
  (fun x=>by rw [oU zd (fun i hi=>hz2 i (by omega)),oU zγ hzγ];exact g2 x) cop (by omega) (by omega) (by omega)
 have hKH:(((2*(n1-1+(n2-1))*2^hm)^(n1-1+(n2-1)):Nat):Rat)≤t2 ((1+a+hm)*(N-2)):=by
  refine QT ?_;rw [Nat.pow_mul,show n1-1+(n2-1)=N-2 by omega];refine afb ?_ _;have e:2*(N-2)≤2^(1+a):=by rw [Nat.pow_add];omega
  rw [Nat.pow_add (m:=1+a)];exact ae0 e (abJ _)
 have rU:=Fp (u:=U) (m:=n2-1-r) (n:=N) (bl:=bl) (by omega) ha (fun i=>FQ (bU i)) hKH;have rV:=Fp (u:=V) (m:=n1-1-r) (n:=N) (bl:=bl) (by omega) ha (fun i=>FQ (bV i)) hKH;have akM:∀ i,n2≤i→k2 i=0:=fun i hi=>by
  have h5:=l9 zd y2 (by omega) ⟨FF γ,dh zγ,fun x=>by rw [g2 x];grind⟩;exact y2.lg i (by omega)
 have hcc:∀ i,aY γ k2 i=d i:=fun i=>by rw [← c2 i];exact Af _ _ i
 have anU:=Y1 (a:=d) (b:=k2) (w:=γ) (n:=n2) (k:=r+1) (H:=t2 h2) (i0:=n2-1) hz2 t2' (by omega) akM hzγ hcc (by have:=iK h2;grind) (fun i=>FQ (H:=2^h2) (by have:=hdd i;omega));have hn2:(n2:Rat)≤t2 a2:=QT ha2;have hn20:=iT n2;have hkb:(n2:Rat)*(t2 h2*(2*(n2:Rat))^n2)*(10*(n2:Rat))^n2≤t2 (a2+(h2+(1+a2)*n2)+(4+a2)*n2):=by
  have q1:(2*(n2:Rat))^n2≤t2 ((1+a2)*n2):=by
   rw [← OA];exact BM (by grind) (by rw [jK];have:t2 1=2:=rfl;rw [this];grind) n2
  have q2:(10*(n2:Rat))^n2≤t2 ((4+a2)*n2):=by
   rw [← OA];exact BM (by grind) (by rw [jK];have:t2 4=16:=rfl;rw [this];grind) n2
  have p1:=N7 (x:=2*(n2:Rat)) (by grind) n2;have p2:=N7 (x:=10*(n2:Rat)) (by grind) n2;exact BZ (BZ hn2 (BZ (by grind) q1 p1) (acQ (by have:=iK h2;grind) p1)) q2 p2
 have rL:=Fp (u:=k2) (m:=n2) (n:=n2) (bl:=bl) (by omega) ha2 anU hkb;have hne':=abI zγ hγ0;refine ⟨fun x=>pz U x (n2-1-r),fun x=>pz V x (n1-1-r),(z:Rat),afP hz0,fun x=>?_,rU.1,rV.1,?_⟩
 ·refine nK (dh zγ) hne' (((aaI (c:=U) hU0).mul (dh y1)).add ((aaI (c:=V) hV0).mul (dh y2))) (bZ (z:Rat)) (fun x=>?_) x
  have h:=Nk x;rw [oU zc (fun i hi=>hz1 i (by omega)),oU zd (fun i hi=>hz2 i (by omega)),oU zγ hzγ,g1 x,g2 x] at h;show FF γ x*(pz U x (n2-1-r)*FF k1 x+pz V x (n1-1-r)*FF k2 x)=FF γ x*(z:Rat)
  grind
 ·have e:(fun x=>pz k2 x n2)=FF k2:=funext fun x=>oU y2 akM x
  rw [← e];exact rL.2
theorem agU{n1 n2 h1 h2 hl:Nat}(a1:2≤n1)(a2:n1≤20)(a3:2≤n2)(b1:hl≤h1)(b2:hl≤h2):(3*(n1 / 2+1)+(hl+2)*n1+(2+(n1 / 2+1)+((n1 / 2+1)+h1))*(2*n1-3))+(3*(n1 / 2+1)+(hl+2)*n1+((n1 / 2+1)+h1)) < 20+2*(n1+n2)*(h1+h2+(n1+n2)+8):=by
 have hm:2*(n1+2)*(h1+hl+(n1+2)+8)≤2*(n1+n2)*(h1+h2+(n1+n2)+8):=ae0 (by omega) (by omega);refine acC ?_ (aiV hm 20);have h:n1=2∨n1=3∨n1=4∨n1=5∨n1=6∨n1=7∨n1=8∨n1=9∨n1=10∨n1=11∨n1=12∨n1=13∨n1=14∨n1=15∨n1=16∨n1=17∨n1=18∨n1=19∨n1=20:=by omega
 rcases h with rfl | rfl | rfl | rfl | rfl | rfl | rfl | rfl | rfl | rfl | rfl | rfl | rfl | rfl | rfl | rfl | rfl | rfl | rfl <;> omega
theorem ani{n1 n2 h1 h2 hl:Nat}(a1:2≤n1)(a2:n1≤20)(a3:2≤n2)(a4:n2≤20)(b1:hl≤h1)(b2:hl≤h2)(b3:hl=h1∨hl=h2):(3*((n1+n2) / 2+1)+(hl+2)*(n1+n2)+(1+((n1+n2) / 2+1)+max h1 h2)*((n1+n2)-2))+(3*(n2 / 2+1)+(hl+2)*n2+((n2 / 2+1)+(h2+(1+(n2 / 2+1))*n2)+(4+(n2 / 2+1))*n2)) < 20+2*(n1+n2)*(h1+h2+(n1+n2)+8):=by
 have h:n1=2∨n1=3∨n1=4∨n1=5∨n1=6∨n1=7∨n1=8∨n1=9∨n1=10∨n1=11∨n1=12∨n1=13∨n1=14∨n1=15∨n1=16∨n1=17∨n1=18∨n1=19∨n1=20:=by omega
 have h':n2=2∨n2=3∨n2=4∨n2=5∨n2=6∨n2=7∨n2=8∨n2=9∨n2=10∨n2=11∨n2=12∨n2=13∨n2=14∨n2=15∨n2=16∨n2=17∨n2=18∨n2=19∨n2=20:=by omega
 rcases h with rfl | rfl | rfl | rfl | rfl | rfl | rfl | rfl | rfl | rfl | rfl | rfl | rfl | rfl | rfl | rfl | rfl | rfl | rfl <;> rcases h' with rfl | rfl | rfl | rfl | rfl | rfl | rfl | rfl | rfl | rfl | rfl | rfl | rfl | rfl | rfl | rfl | rfl | rfl | rfl <;> omega
theorem iQ{K L M:Nat}{c:Nat→Int}{lo hi:Rat}(hL:L≤1000000:=by omega)(hM:M≤1000000:=by omega):aC Tryz.prog 64 [.agg ([.row 2 (lg c) (cO K c)] ++tn L lo ++tn M hi)] (.d (.one (.v (.bool (decide (hi≤lo)))))):=by
 exact aN 9 [.tmp 2] Tryz.func64 rfl<|cR<|mO rfl<|mW rfl<|mT<|cR<|mE 4 rfl<|mY iU rfl<|mV aj (.d (.one (.v (.bool (decide (hi≤lo)))))) (bI (ahE.2 xG))<|mW rfl<|mT<|aH<|rQ rfl (AV.le.rfl)
theorem aji{K L:Nat}{c:Nat→Int}{t:Rat}(hz:bC c)(hK:K≤10000000-2:=by omega)(hL:L≤1000000:=by omega):aC Tryz.prog 101 [.one (iC K (lg c) c),.agg (tn L t)] (dI (yC (FF c) (FF (bP c)) t)):=by
 have hlc:=dO c;have hld:=rW (bP c) (lg c-1);refine aN 16 [.tmp 4] Tryz.func101 rfl<|cR<|mO rfl<|mW rfl<|mT<|au<|cR<|mE 2 rfl<|mY (MF (vF (K:=K) (c:=c) (bC.lg hz)) hz) rfl<|mW rfl<|mT<|au ?_
 by_cases h0:fC (FF c t)=0
 ·exact aA<|mW rfl<|mbF rfl (by rw [h0];rfl)<|mT<|cFs rfl<|au<|cDk 5<|.cons (aB.V _ rfl)<|oC (ajp (vF (K:=K) (c:=c) (bC.lg hz)) (M:=(K+2))) rfl<|oV rfl<|oC (MF (vF (K:=(K+2)) (c:=(bP c)) (nX (ER (bC.lg hz)))) (fA hz)) rfl<|.cons (aB.V _ rfl)<|.nil<|mT<|aH<|rQ rfl (aG ((MJ h0).symm))
 ·exact aA<|mW rfl<|mbT rfl (afA.2 h0)<|mT<|cT rfl<|cR<|mE 2 rfl<|mT<|aH<|tR<|rQ rfl (aG ((yK h0).symm))
def II(c:Nat→Int)(lo hi:Rat):Bool:=decide (fC (FF c hi)=0∨fC (FF c hi)≠yC (FF c) (FF (bP c)) lo)
theorem WG{c:Nat→Int}{lo hi:Rat}(h:fC (FF c hi)=0):II c lo hi=true:=ae3 (Or.inl h)
theorem ac8{c:Nat→Int}{lo hi:Rat}(h:fC (FF c hi)≠0):II c lo hi=(fC (FF c hi) !=yC (FF c) (FF (bP c)) lo):=by
 unfold II
 by_cases k:fC (FF c hi)=yC (FF c) (FF (bP c)) lo
 ·rw [decide_eq_false (by rintro (h' | h');exact h h';exact h' k),k];simp
 ·rw [decide_eq_true (Or.inr k)];exact (afA.2 k).symm
theorem ajg{K L M:Nat}{c:Nat→Int}{lo hi:Rat}(hz:bC c)(hK:K≤10000000-2:=by omega)(hL:L≤1000000:=by omega)(hM:M≤1000000:=by omega):aC Tryz.prog 70 [.one (iC K (lg c) c),.agg (tn L lo),.agg (tn M hi)] (.d (.one (.v (.bool (II c lo hi))))):=by
 have hlc:=dO c;refine aN 20 [.tmp 6] Tryz.func70 rfl<|cR<|mO rfl<|mO rfl<|mW rfl<|mT<|cR<|mE 2 rfl<|mY (MF (vF (K:=K) (c:=c) (bC.lg hz)) hz) rfl<|mW rfl<|mT<|au ?_
 by_cases h0:fC (FF c hi)=0
 ·exact aA<|mW rfl<|mbT rfl (aez.2 h0)<|mW rfl<|mG rfl rfl<|mG rfl rfl<|mG rfl rfl<|mG rfl rfl<|mG rfl rfl<|mE 2 rfl<|mT<|aH<|rQ rfl (Aj ((WG h0).symm))
 ·exact aA<|mW rfl<|mbF rfl (abX.2 h0)<|mE 4 rfl<|mY (aji hz) rfl<|mE 3 rfl<|mT<|aH<|rQ rfl (Aj ((ac8 h0).symm))
theorem RI{K L M:Nat}{c:Nat→Int}{lo hi:Rat}(hz:bC c)(hK:K≤10000000:=by omega)(hL:L≤1000000:=by omega)(hM:M≤1000000:=by omega):aC Tryz.prog 63 [.agg ([.row 2 (lg c) (cO K c)] ++tn L lo ++tn M hi)] (.d (.agg ([.row 2 (lg c) (cO K c)] ++tn L lo ++tn M hi))):=by
 have hlc:=dO c;have hd:dg c (lg c)=lg c:=lq hz.lg hz;exact aN 13 [.cell 2 40] Tryz.func63 rfl<|cR<|mO rfl<|mO rfl<|mT<|au<|cDk 10<|oE 2 rfl<|oC (uN (vF (K:=K) (c:=c) (bC.lg hz))) rfl<|oE 2 rfl<|oC aeF rfl<|oE 2 rfl<|oC aeF rfl<|oV rfl<|.nil<|mZ rfl<|mT<|aH<|rQ rfl (by rw [hd];exact AV.le.rfl)
theorem L6{K L M N:Nat}{c:Nat→Int}{lo hi t:Rat}(hA:tX c lo hi)(hK:K≤10000000-2:=by omega)(hL:L≤1000000:=by omega)(hM:M≤1000000:=by omega)(hN:N≤1000000:=by omega):aC Tryz.prog 65 [.agg ([.row 2 (lg c) (cO K c)] ++tn L lo ++tn M hi),.agg (tn N t)] (dI (dG (bK c lo hi) (fO t))):=by
 have hlc:=dO c;refine aN 40 [.tmp 4] Tryz.func65 rfl<|cR<|mO rfl<|mO rfl<|mW rfl<|mT<|au<|aI<|cR<|mW rfl<|mY iQ rfl<|mW rfl<|mT<|aW rfl (fun hc1=>?_) (fun hc1=>?_)
 ·exact cR<|mE 3 rfl<|mY iU rfl<|mW rfl<|mT<|aH<|bR<|tR<|rQ rfl (aG (by rw [hA.rat t,if_pos (of_decide_eq_true hc1)]))
 ·refine cR<|mE 3 rfl<|mY iU rfl<|mE 2 rfl<|mT<|aW rfl (fun hc2=>?_) (fun hc2=>?_)
  ·exact cR<|mW rfl<|mT<|aH<|bR<|tR<|rQ rfl (aG (by rw [hA.rat t,if_neg (of_decide_eq_false hc1),if_pos (dV.1 (of_decide_eq_true hc2))]))
  ·refine cR<|mE 3 rfl<|mY iU rfl<|mE 2 rfl<|mT<|aW rfl (fun hc3=>?_) (fun hc3=>?_)
   ·exact cR<|mW rfl<|mT<|aH<|bR<|tR<|rQ rfl (aG (by rw [hA.rat t,if_neg (of_decide_eq_false hc1),if_neg (fun h=>(of_decide_eq_false hc2) (dV.2 h)),if_pos (Rat.not_le.1 (fun h=>Int.not_lt.2 (dV.2 h) (of_decide_eq_true hc3)))]))
   ·refine aF<|bN<|tN<|cR<|mE 3 rfl<|mY (MF (vF (K:=K) (c:=c) (bC.lg hA.z)) hA.z) rfl<|mW rfl<|mT<|au<|aI<|cR<|mE 3 rfl<|mT<|aW rfl (fun hc4=>?_) (fun hc4=>?_)
    ·exact cR<|mW rfl<|mT<|aH<|bR<|tR<|rQ rfl (aG (by rw [hA.rat t,if_neg (of_decide_eq_false hc1),if_neg (fun h=>(of_decide_eq_false hc2) (dV.2 h)),if_neg (fun h=>(of_decide_eq_false hc3) (by have:=abH h;omega)),if_pos (beq_iff_eq.1 hc4)]))
    ·refine cR<|mE 5 rfl<|mY (aji hA.z) rfl<|mE 2 rfl<|mT<|aW rfl (fun hc5=>?_) (fun hc5=>?_)
     ·exact cR<|mW rfl<|mT<|aH<|bR<|tR<|rQ rfl (aG (by rw [hA.rat t,if_neg (of_decide_eq_false hc1),if_neg (fun h=>(of_decide_eq_false hc2) (dV.2 h)),if_neg (fun h=>(of_decide_eq_false hc3) (by have:=abH h;omega)),if_neg (beq_eq_false_iff_ne.1 hc4),if_pos (beq_iff_eq.1 hc5)]))
     ·exact aF<|bN<|tN<|cR<|mW rfl<|mT<|aH<|rQ rfl (aG (by rw [hA.rat t,if_neg (of_decide_eq_false hc1),if_neg (fun h=>(of_decide_eq_false hc2) (dV.2 h)),if_neg (fun h=>(of_decide_eq_false hc3) (by have:=abH h;omega)),if_neg (beq_eq_false_iff_ne.1 hc4),if_neg (beq_eq_false_iff_ne.1 hc5)]))
theorem ig.cut{B:BS}{w:World}{ms:List Lf}:∀ {ls:List Lf} {cs:List Value},ig B w (ls ++ms) cs→∃ c1 c2,cs=c1 ++c2∧ig B w ls c1∧ig B w ms c2
 | [],cs,h=>⟨[],cs,rfl,trivial,h⟩
 | l ::ls,c ::cs,h=>by
  obtain ⟨c1,c2,e,h1,h2⟩:=ig.cut (ls:=ls) (cs:=cs) h.2;exact ⟨c ::c1,c2,by rw [e];rfl,⟨h.1,h1⟩,h2⟩
 | _ ::_,[],h=>h.elim
theorem iy{a b a' b':List Lf}(ha:∀ B w cs,ig B w a cs→ig B w a' cs)(hb:∀ B w cs,ig B w b cs→ig B w b' cs):∀ B w cs,ig B w (a ++b) cs→ig B w (a' ++b') cs:=fun B w cs h=>by
 obtain ⟨c1,c2,e,h1,h2⟩:=h.cut;rw [e];exact (ha _ _ _ h1).app (hb _ _ _ h2)
/-- An algebraic number: its cells. -/
abbrev nO(K:Nat)(c:Nat→Int)(L:Nat)(lo:Rat)(M:Nat)(hi:Rat):List Lf:= [iC K (lg c) c] ++tn L lo ++tn M hi
theorem KH{K L M:Nat}{c:Nat→Int}{lo hi:Rat}(z:bC c){B:BS}{w:World}{cs:List Value}(h:ig B w (nO K c L lo M hi) cs):Lb K c∧Tb L lo∧Tb M hi:=by
 obtain ⟨c1,c2,e,h1,h2⟩:=h.cut;obtain ⟨c3,c4,e,h3,h4⟩:=h1.cut;refine ⟨?_,OB h4,OB h2⟩
 match c3,h3 with
 | [v],h3=>exact Vy z.lg h3.1
theorem GH{K L M L' M':Nat}{c:Nat→Int}{lo hi:Rat}(h1:Tb L' lo)(h2:Tb M' hi):AV.le (.d (.agg (nO K c L lo M hi))) (.d (.agg (nO K c L' lo M' hi))):=
 oH (iy (iy (fun B w cs h=>h) (wQ h1)) (wQ h2))
theorem FK{K L M X:Nat}{c:Nat→Int}{lo hi:Rat}(hA:tX c lo hi)(hT1:Tb X (hlf c lo hi).1)(hT2:Tb X (hlf c lo hi).2)(hK:K≤10000000-2:=by omega)(hL:L≤100000:=by omega)(hM:M≤100000:=by omega):aC Tryz.prog 108 [.agg ([.row 2 (lg c) (cO K c)] ++tn L lo ++tn M hi)] (.d (.agg ([.row 2 (lg c) (cO K c)] ++tn X ((hlf c lo hi).1) ++tn X ((hlf c lo hi).2)))):=by
 have hlc:=dO c;refine aN 28 [.cell 2 40] Tryz.func108 rfl<|cR<|mO rfl<|mO rfl<|mT<|au<|cR<|mW rfl<|mY iQ rfl<|mT<|aW rfl (fun hc1=>?_) (fun hc1=>?_)
 ·exact cR<|mW rfl<|mZ rfl<|mT<|aH<|tR<|rQ rfl (by have e:hlf c lo hi=(lo,hi):=by {unfold hlf;rw [if_pos (of_decide_eq_true hc1)]};rw [e] at hT1 hT2 ⊢;exact GH hT1 hT2)
 ·refine aF<|tN<|cR<|mE 4 rfl<|mY (ajk (by omega) (by omega)) rfl<|mO rfl<|mZ rfl<|mT<|au<|cR<|mE 2 rfl<|mY (L6 hA) rfl<|mT<|aI<|cR<|mE 2 rfl<|mT<|aW rfl (fun hc2=>?_) (fun hc2=>?_)
  ·exact cDs 6<|pV rfl<|pV rfl<|pV rfl<|.cons (aB.S 1 (.box 40 ([.row 2 (lg c) (cO K c)] ++tn (max L 2+1+(max M 2+1)+4) ((lo+hi) / 2) ++tn M hi)) rfl rfl) (by kernel_rfl)<|pV rfl<|.cons (aB.S 1 (.box 40 ([.row 2 (lg c) (cO K c)] ++tn (max L 2+1+(max M 2+1)+4) ((lo+hi) / 2) ++tn (max L 2+1+(max M 2+1)+4) ((lo+hi) / 2))) rfl rfl) (by kernel_rfl)<|.nil<|ak<|bN<|tN<|cR<|mW rfl<|mZ rfl<|mT<|aH<|rQ rfl (by have e:hlf c lo hi=(((lo+hi) / 2),((lo+hi) / 2)):=by {unfold hlf;rw [if_neg (of_decide_eq_false hc1),if_pos (beq_iff_eq.1 hc2)]};rw [e] at hT1 hT2 ⊢;exact GH hT1 hT2)
  ·refine cR<|mE 2 rfl<|mT<|aW rfl (fun hc3=>?_) (fun hc3=>?_)
   ·exact aA<|mE 2 rfl<|mZ rfl<|ak<|bN<|tN<|cR<|mW rfl<|mZ rfl<|mT<|aH<|rQ rfl (by have e:hlf c lo hi=(lo,((lo+hi) / 2)):=by {unfold hlf;rw [if_neg (of_decide_eq_false hc1),if_neg (beq_eq_false_iff_ne.1 hc2),if_pos (beq_iff_eq.1 hc3)]};rw [e] at hT1 hT2 ⊢;exact GH hT1 hT2)
   ·exact aA<|mE 2 rfl<|mZ rfl<|ak<|bN<|tN<|cR<|mW rfl<|mZ rfl<|mT<|aH<|rQ rfl (by have e:hlf c lo hi=(((lo+hi) / 2),hi):=by {unfold hlf;rw [if_neg (of_decide_eq_false hc1),if_neg (beq_eq_false_iff_ne.1 hc2),if_neg (beq_eq_false_iff_ne.1 hc3)]};rw [e] at hT1 hT2 ⊢;exact GH hT1 hT2)
theorem abw(n:Nat):((2^(n+1):Nat):Rat)=((2^n:Nat):Rat)*2:=by rw [Nat.pow_succ];exact Rat.natCast_mul _ _
theorem yc{K L:Nat}{q:Rat}(h:Tb K q)(k:K≤L):Tb L q:=⟨acC h.1 (ab1 (by decide) k),acC h.2 (ab1 (by decide) k)⟩
/-- Both ends, so long at most. -/
structure Dz(L J:Nat)(p q:Rat):Prop where
 e:∃ D R,D≠0∧D < bT^(L+L)∧R≤bT^L∧Dy D R J p∧Dy D R J q
theorem yO{L:Nat}{p q:Rat}(h:Tb L p)(k:Tb L q):Dz L 0 p q:=by
 have hp:=p.den_pos;have hq:=q.den_pos;refine ⟨p.den*q.den,max p.num.natAbs q.num.natAbs,Nat.ne_of_gt (agQ hp hq),?_,?_,vX (aiP _ _),?_⟩
 ·rw [Nat.pow_add]
  exact Nat.mul_lt_mul'' h.2 k.2
 ·have:=h.1;have:=k.1;omega
 ·rw [Nat.mul_comm];exact vX (aiK _ _)
theorem Dz.mono{L J J':Nat}{p q:Rat}(h:Dz L J p q)(k:J≤J'):Dz L J' p q:=let ⟨D,R,a,b,c,d,e⟩:=h.e;⟨D,R,a,b,c,d.mono k,e.mono k⟩
theorem Dz.tb{L J X:Nat}{p q:Rat}(h:Dz L J p q)(hX:3*L+J / 32+1≤X):Tb X p∧Tb X q:=by
 obtain ⟨D,R,a,b,c,d,e⟩:=h.e;exact ⟨yc (d.tb a b c) (by omega),yc (e.tb a b c) (by omega)⟩
theorem Dz.hlf{L J:Nat}{c:Nat→Int}{p q:Rat}(h:Dz L J p q):Dz L (J+1) (hlf c p q).1 (hlf c p q).2:=by
 obtain ⟨D,R,a,b,c',d,e⟩:=h.e;exact ⟨D,R,a,b,c',(Zm d e).1,(Zm d e).2⟩
theorem aeg{L:Nat}{p q:Rat}(h:Tb L p)(k:Tb L q):q-p≤((2^(32*L+1):Nat):Rat):=by
 have h1:=(vX (p:=p) (q:=q) (R:=bT^L) (adC h.1)).b;have h2:=(vX (p:=q) (q:=p) (R:=bT^L) (adC k.1)).b;have e:((2^(32*L+1):Nat):Rat)=((bT^L:Nat):Rat)*2:=by rw [abw,Nat.pow_mul]
 rw [e];unfold Ab at h1 h2;grind
theorem Yg{t:TypeId}{K L M L' M':Nat}{c:Nat→Int}{lo hi:Rat}(h1:Tb L' lo)(h2:Tb M' hi):AO.le (.box t (nO K c L lo M hi)) (.box t (nO K c L' lo M' hi)):=
 jf (iy (iy (fun B w cs h=>h) (wQ h1)) (wQ h2))
theorem DW{K m:Nat}(h:m < bT^K):bW m≤32*K:=iI (by rw [show bT=2^32 from rfl,← Nat.pow_mul] at h;exact h)
/-- Binary digits of the greatest of n. -/
def JE(c:Nat→Int):Nat→Nat
 | 0=>0
 | n+1=>max (JE c n) (bW (c n).natAbs)
theorem JF{K:Nat}{c:Nat→Int}(h:Lb K c):∀ n,JE c n≤32*K
 | 0=>abR _
 | n+1=>Nat.max_le.2 ⟨JF h n,DW (h n)⟩
theorem VO{c:Nat→Int}:∀ {n i:Nat},i < n→bW (c i).natAbs≤JE c n
 | n+1,i,h=>by
  show _≤max (JE c n) (bW (c n).natAbs)
  by_cases e:i=n
  ·subst e;exact aiK _ _
  ·exact acS (VO (show i < n by omega)) (aiP _ _)
theorem aeN{K n:Nat}{c:Nat→Int}(hz:bC c)(hn:n=lg c)(hK:K≤10000000:=by omega):aC Tryz.prog 137 [.one (iC K n c)] (dI ((JE c (lg c):Nat):Int)):=by
 subst hn;have hlc:=dO c;refine aN 19 [.tmp 2] Tryz.func137 rfl<|cR<|mW rfl<|mT<|cR<|mW rfl<|mT<|au<|cR<|mE 3 rfl<|mT<|aI<|dU (ι:=Nat) (fun (i:Nat)=>⟨19,[(6,.d (.one (.row 2 (lg c) (cO K c)))),(7,dI ((lg c:Nat):Int)),(8,dI (i:Int)),(3,dI ((JE c i:Nat):Int))],[]⟩) (fun (i:Nat)=>i≤lg c) (fun (i:Nat)=>lg c-i) 0 (abR _) (wkv [3] [] ⟨fQ rfl (aG rfl),Pe⟩ trivial rfl rfl) ?_;rintro i hI;have hi:i≤lg c:=hI;show AW _ _ _ ⟨_,_,_⟩
 refine cR<|mW rfl<|mT<|au<|aW rfl (fun hc1=>?_) (fun hc1=>?_)
 ·refine aF<|tN<|au<|aI<|au ?_;have hin:i < lg c:=by have h0:=abM hc1;omega
  refine aA<|mV aj (.d (.one (.at 2 ((cO K c) i)))) (jZ (el:=(cO K c)) (z:=(i:Int)) (n:=(lg c)) rfl rfl rfl rfl rfl rfl (by omega) (by omega)) ?_;refine mW rfl<|mO rfl<|mZ rfl<|mT<|aA<|mE 3 rfl<|mY (ED (ZM K (Int.natAbs (c i)))) rfl ?_;refine mV aj (dI ((JE c (i+1):Nat):Int)) (fM (by rw [if_pos rfl];show _=((max (JE c i) (bW (c i).natAbs):Nat):Int);split <;> omega)) ?_;exact mW rfl<|ak<|bN<|tN<|aA<|mE 2 rfl<|ak<|⟨(i+1),by have h0:=abM hc1;omega,by have h0:=abM hc1;omega,wkv [2] [] ⟨fQ rfl (aG (dF (by omega))),Pe⟩ trivial rfl rfl⟩
 ·exact dP<|tE<|tE<|bE<|tN<|cR<|mE 2 rfl<|mT<|aH<|rQ rfl (aG (by have h0:=abL hc1;rw [show i=lg c by omega]))
def wY(c:Nat→Int)(lo hi:Rat)(d:Nat→Int)(p q:Rat):Nat:=64+2*(bW lo.num.natAbs+bW hi.num.natAbs+bW p.num.natAbs+bW q.num.natAbs)+4*(lg c+lg d)*(JE c (lg c)+JE d (lg d)+(lg c+lg d)+8)
theorem agv{K L M K2 L2 M2:Nat}{c d:Nat→Int}{lo hi p q:Rat}(zc:bC c)(zd:bC d)(hK:K≤10000000)(hL:L≤1000000)(hM:M≤1000000)(hK2:K2≤10000000)(hL2:L2≤1000000)(hM2:M2≤1000000):aC Tryz.prog 106 [.agg ([.row 2 (lg c) (cO K c)] ++tn L lo ++tn M hi),.agg ([.row 2 (lg d) (cO K2 d)] ++tn L2 p ++tn M2 q)] (dI ((wY c lo hi d p q:Nat):Int)):=by
 refine aC.nH (fJ Tryz.func106 rfl rfl) (p:=(Lb K c∧Tb L lo∧Tb M hi)∧(Lb K2 d∧Tb L2 p∧Tb M2 q)) (fun B w vs h=>match vs,h with | [_,_],⟨⟨cs,_,hl⟩,⟨ds,_,hk⟩,_⟩=>⟨KH zc hl,KH zd hk⟩) (fun hb=>?_);have hlc:=dO c;have hld:=dO d;have n1:=DW hb.1.2.1.1;have n2:=DW hb.1.2.2.1;have n5:=JF hb.1.1 (lg c);have n6:=JF (K:=K2) (c:=d) hb.2.1 (lg d);obtain ⟨S,hS⟩:∃ S,S=JE c (lg c)+JE d (lg d)+(lg c+lg d)+8:=⟨_,rfl⟩
 obtain ⟨P,hP⟩:∃ P,P=4*(lg c+lg d)*S:=⟨_,rfl⟩
 have hm:P≤160*1000000000:=by rw [hP];exact ae0 (by omega) (by omega)
 have n3:=DW hb.2.2.1.1;have n4:=DW hb.2.2.2.1;exact aN 54 [.tmp 4] Tryz.func106 rfl<|cR<|mO rfl<|mO rfl<|mW rfl<|mT<|cR<|mE 6 rfl<|mV aj (dI ((lg c+lg d:Nat):Int)) (fM ((eu (by omega) (by omega)).trans (by omega)))<|mW rfl<|mT<|au<|cDk 24<|oE 4 rfl<|oC (ED (ZM L (Int.natAbs (Rat.num lo)))) rfl<|oE 4 rfl<|oC (ED (ZM M (Int.natAbs (Rat.num hi)))) rfl<|.cons (aB.V (dI ((bW lo.num.natAbs+bW hi.num.natAbs:Nat):Int)) (fM ((eu (by omega) (by omega)).trans (by omega))))<|oE 4 rfl<|oC (ED (ZM L2 (Int.natAbs (Rat.num p)))) rfl<|.cons (aB.V (dI ((bW lo.num.natAbs+bW hi.num.natAbs+bW p.num.natAbs:Nat):Int)) (fM ((eu (by omega) (by omega)).trans (by omega))))<|oE 4 rfl<|oC (ED (ZM M2 (Int.natAbs (Rat.num q)))) rfl<|.cons (aB.V (dI ((bW lo.num.natAbs+bW hi.num.natAbs+bW p.num.natAbs+bW q.num.natAbs:Nat):Int)) (fM ((eu (by omega) (by omega)).trans (by omega))))<|.cons (aB.V _ rfl)<|.nil<|mT<|au<|cDk 18<|.cons (aB.V _ rfl)<|.cons (aB.V (dI ((2*(bW lo.num.natAbs+bW hi.num.natAbs+bW p.num.natAbs+bW q.num.natAbs):Nat):Int)) (fM ((eu (by omega) (by omega)).trans (by omega))))<|.cons (aB.V (dI ((64+2*(bW lo.num.natAbs+bW hi.num.natAbs+bW p.num.natAbs+bW q.num.natAbs):Nat):Int)) (fM ((eu (by omega) (by omega)).trans (by omega))))<|.cons (aB.V _ rfl)<|.cons (aB.V (dI ((4*(lg c+lg d):Nat):Int)) (fM ((eu (by omega) (by omega)).trans (by omega))))<|oE 2 rfl<|oC (aeN zc rfl) rfl<|oE 2 rfl<|oC (aeN zd rfl) rfl<|.cons (aB.V (dI ((JE c (lg c)+JE d (lg d):Nat):Int)) (fM ((eu (by omega) (by omega)).trans (by omega))))<|.cons (aB.V _ rfl)<|.cons (aB.V (dI ((JE c (lg c)+JE d (lg d)+(lg c+lg d):Nat):Int)) (fM ((eu (by omega) (by omega)).trans (by omega))))<|.cons (aB.V (dI (S:Int)) (fM ((eu (by omega) (by omega)).trans (by omega))))<|.cons (aB.V (dI (P:Int)) (fM (by rw [← Int.natCast_mul,← hP];exact eu (by omega) (by omega))))<|.cons (aB.V (dI ((64+2*(bW lo.num.natAbs+bW hi.num.natAbs+bW p.num.natAbs+bW q.num.natAbs)+P:Nat):Int)) (fM ((eu (by omega) (by omega)).trans (by omega))))<|.cons (aB.V _ rfl)<|.nil<|mT<|aH<|rQ rfl (aG (by unfold wY;rw [← hS,← hP]))
theorem VC.cut{p:Fn}{C D:qO}(h:VC p C)(e:∀ q,D q↔C q):VC p D:=fun ε hε q r hq hr=>h ε hε q r ((e q).1 hq) (fun k=>hr ((e r).2 k))
theorem VC.or{p q:Fn}{C:qO}(hC:eG C)(pp:Po p)(pq:Po q)(h:VC (fun x=>p x*q x) C):VC p C∨VC q C:=by
 rcases Hl hC pp with k | ⟨s,k⟩
 ·exact Or.inl k
 ·rcases Hl hC pq with l | ⟨t,l⟩
  ·exact Or.inr l
  ·exact absurd h fun h=>Ky.Vp (k.mul hC l) h
theorem aes{c:Nat→Int}(z:bC c){C:qO}(hC:eG C)(h:VC (FF c) C)(hne:∃ x,FF c x≠0):2≤lg c:=by
 apply abP;intro hn
 by_cases h0:lg c=0
 ·obtain ⟨x,hx⟩:=hne
  exact hx ((oh z).1 h0 x)
 ·obtain ⟨κ,hκ,hk⟩:=lW z (by omega)
  obtain ⟨q,hq⟩:=hC.lo;obtain ⟨r,hr⟩:=hC.hi;rcases (show κ < 0∨0 < κ by grind) with k | k
  ·obtain ⟨t,_,_,ht⟩:=h (-κ / 2) (by grind) q r hq hr
   rw [hk t] at ht;unfold Ab at ht;grind
  ·obtain ⟨t,_,_,ht⟩:=h (κ / 2) (by grind) q r hq hr
   rw [hk t] at ht;unfold Ab at ht;grind
def mQ(n1 n2 h1 h2:Nat):Nat:=20+2*(n1+n2)*(h1+h2+(n1+n2)+8)
theorem Eh{s l E:Nat}{w:Rat}(h:s+l < E)(hw:0≤w)(hE:w*t2 E≤1):t2 s*(t2 l*w) < 1:=by
 have h1:t2 (s+l+1)≤t2 E:=Hr h;have h2:w*t2 (s+l+1)≤w*t2 E:=abK h1 hw;rw [jK,jK] at h2;have e:t2 1=2:=rfl;rw [e] at h2;have hp:=iK s;have hq:=iK l;have h3:0≤w*(t2 s*t2 l):=acQ hw (acQ (by grind) (by grind));grind
theorem sep{c d:Nat→Int}(zc:bC c)(zd:bC d)(sc:AB (FF c) (FF (bP c)))(sd:AB (FF d) (FF (bP d)))(hc2:2≤lg c)(hd2:2≤lg d){h1 h2:Nat}(b1:∀ i,(c i).natAbs≤2^h1)(b2:∀ i,(d i).natAbs≤2^h2) 
  {C D:qO} (hC:eG C) (hD:eG D) (vC:VC (FF c) C) (vD:VC (FF d) D) {q a b:Rat} (hq:(D q∧¬ C q)∨(C q∧¬ D q)) (ca:C a) (cb:¬ C b) (da:D a) (db:¬ D b) (hw:(b-a)*t2 (mQ (lg c) (lg d) h1 h2)≤1):False:=by
 have hlc:=dO c;have hld:=dO d;have hab:=hC.nb ca cb;have hw1:b-a≤1:=by
  have h:=abK (Oz (mQ (lg c) (lg d) h1 h2)) (show 0≤b-a by grind);grind
 obtain ⟨hl,ehl⟩:∃ hl,hl=min h1 h2:=⟨_,rfl⟩
 have hin:In (t2 (hl+2)) a∧In (t2 (hl+2)) b:=by
  have key:a < 1+t2 hl∧-(1+t2 hl) < b:=by
   have hp:=iK hl
   by_cases k:h1≤h2
   ·have e:hl=h1:=by omega
    rw [e] at hp ⊢;exact afK zc (by omega) (H:=t2 h1) (by grind) (fun i=>FQ (H:=2^h1) (by have:=b1 i;omega)) vC ca cb
   ·have e:hl=h2:=by omega
    rw [e] at hp ⊢;exact afK zd (by omega) (H:=t2 h2) (by grind) (fun i=>FQ (H:=2^h2) (by have:=b2 i;omega)) vD da db
  have h3:=Oz hl;rw [jK];have e:t2 2=4:=rfl;rw [e];unfold In;constructor <;> constructor <;> grind
 by_cases vA:VC (FF c) D
 ·obtain ⟨U,V,z,hz,Nk,hU,hV,hL⟩:=agE zc sc hc2 b1 (hl+2) (lg c / 2+1) (I8 _ (by omega))
  have hx:=agU (n1:=lg c) (n2:=lg d) (h1:=h1) (h2:=h2) (hl:=hl) hc2 hlc hd2 (by omega) (by omega);have hs:=Eh hx (show 0≤b-a by grind) hw;rcases hq with ⟨q1,q2⟩ | ⟨q1,q2⟩
  ·exact adZ hC hD sc.AP sc.Xx hz Nk hU hV hL (by have:=iK (3*(lg c / 2+1)+(hl+2)*lg c+(lg c / 2+1+h1));grind) hin.1 hin.2 hs vC vA ca cb da db q1 q2
  ·exact adZ hD hC sc.AP sc.Xx hz Nk hU hV hL (by have:=iK (3*(lg c / 2+1)+(hl+2)*lg c+(lg c / 2+1+h1));grind) hin.1 hin.2 hs vA vC da db ca cb q1 q2
 ·by_cases vB:VC (FF d) C
  ·obtain ⟨U,V,z,hz,Nk,hU,hV,hL⟩:=agE zd sd hd2 b2 (hl+2) (lg d / 2+1) (I8 _ (by omega))
   have hx:=agU (n1:=lg d) (n2:=lg c) (h1:=h2) (h2:=h1) (hl:=hl) hd2 hld hc2 (by omega) (by omega);have e:20+2*(lg d+lg c)*(h2+h1+(lg d+lg c)+8)=mQ (lg c) (lg d) h1 h2:=by unfold mQ;rw [Nat.add_comm (lg d),Nat.add_comm h2]
   rw [e] at hx;have hs:=Eh hx (show 0≤b-a by grind) hw;rcases hq with ⟨q1,q2⟩ | ⟨q1,q2⟩
   ·exact adZ hC hD sd.AP sd.Xx hz Nk hU hV hL (by have:=iK (3*(lg d / 2+1)+(hl+2)*lg d+(lg d / 2+1+h2));grind) hin.1 hin.2 hs vB vD ca cb da db q1 q2
   ·exact adZ hD hC sd.AP sd.Xx hz Nk hU hV hL (by have:=iK (3*(lg d / 2+1)+(hl+2)*lg d+(lg d / 2+1+h2));grind) hin.1 hin.2 hs vD vB da db ca cb q1 q2
  ·obtain ⟨γ,k1,k2,zγ,hγ0,pm,y1,y2,c1,c2,hγc,hγd,cop,g1,g2⟩:=acZ zc zd (by omega) (by omega)
   have nγC:¬ VC (FF γ) C:=fun h=>vB ((h.mul hC (dh y2)).congr fun x=>by rw [g2 x];grind)
   have nγD:¬ VC (FF γ) D:=fun h=>vA ((h.mul hD (dh y1)).congr fun x=>by rw [g1 x];grind)
   have v1:VC (FF k1) C:=by
    rcases VC.or hC (dh y1) (dh zγ) (vC.congr g1) with h | h
    ·exact h
    ·exact absurd h nγC
   have v2:VC (FF k2) D:=by
    rcases VC.or hD (dh y2) (dh zγ) (vD.congr g2) with h | h
    ·exact h
    ·exact absurd h nγD
   have ne1:∃ x,FF k1 x≠0:=by
    obtain ⟨x,hx⟩:=abI zc (by omega);exact ⟨x,fun e=>hx (by rw [g1 x,e,Rat.zero_mul])⟩
   have l1:=aes y1 hC v1 ne1;have hdeg:lg k1-1+(lg γ-1)=lg c-1:=by
    have h5:=((FI y1 (by omega)).mul (FI zγ hγ0)).congr fun x=>(g1 x).symm
    exact (h5.uniq (FI zc (by omega))).1
   obtain ⟨U,V,z,hz,Nk,hU,hV,hL⟩:=anb zc zd zγ y1 y2 hc2 hd2 hγ0 pm c2 hγc hγd (by omega) cop g1 g2 (hm:=max h1 h2) (h2:=h2) (fun i=>acS (b1 i) (ab1 (by decide) (aiP _ _))) (fun i=>acS (b2 i) (ab1 (by decide) (aiK _ _))) b2 (hl+2) ((lg c+lg d) / 2+1) (lg d / 2+1) (lg c+lg d) rfl (I8 _ (by omega)) (I8 _ (by omega));have hx:=ani (n1:=lg c) (n2:=lg d) (h1:=h1) (h2:=h2) (hl:=hl) hc2 hlc hd2 hld (by omega) (by omega) (by omega);have hs:=Eh hx (show 0≤b-a by grind) hw;exact aoF hz Nk hU hV hL (by have:=iK (3*(lg d / 2+1)+(hl+2)*lg d+(lg d / 2+1+(h2+(1+(lg d / 2+1))*lg d)+(4+(lg d / 2+1))*lg d));grind) hin.1 hin.2 hs v1 v2 ca cb da db
/-! ### A number with its polynomial -/
structure vJ(c:Nat→Int)(lo hi:Rat):Prop where
 ok:tX c lo hi
 sq:AB (FF c) (FF (bP c))
 l2:2≤lg c
 vc:VC (FF c) (bK c lo hi)
theorem vJ.OL{c:Nat→Int}{lo hi a b:Rat}(h:vJ c lo hi)(k:LZ c lo hi a b):vJ c a b:=⟨k.ok,h.sq,h.l2,h.vc.cut k.cut⟩
theorem tX.below{c:Nat→Int}{lo hi q:Rat}(h:tX c lo hi)(hq:q < lo):bK c lo hi q:=by
 by_cases hl:hi≤lo
 ·rw [kZ hl];exact hq
 ·rw [jS (by grind)];exact Or.inl (by grind)
theorem tX.above{c:Nat→Int}{lo hi q:Rat}(h:tX c lo hi)(hq:hi≤q):¬ bK c lo hi q:=fun k=>by
 rcases h.lo_le k with k | k | k <;> grind
theorem tX.afp{c:Nat→Int}{lo hi q:Rat}(h:tX c lo hi)(hq:bK c lo hi q):q < hi:=by
 rcases h.lo_le hq with k | k | k <;> grind
def bel(lo hi p q:Rat):Prop:=hi≤p∧¬ (hi≤lo∧q≤p∧hi=p)
instance {lo hi p q:Rat}:Decidable (bel lo hi p q):=inferInstanceAs (Decidable (_∧_))
noncomputable def xw(c d:Nat→Int):Nat→Rat→Rat→Rat→Rat→Rat×Rat×Rat×Rat×Int
 | 0,lo,hi,p,q=>(lo,hi,p,q,0)
 | n+1,lo,hi,p,q=>if bel lo hi p q then (lo,hi,p,q,-1) else if bel p q lo hi then (lo,hi,p,q,1) else if q-p≤hi-lo then xw c d n (hlf c lo hi).1 (hlf c lo hi).2 p q else xw c d n lo hi (hlf d p q).1 (hlf d p q).2
theorem Zn{c:Nat→Int}{lo hi t:Rat}{i:Nat}(h:tX c lo hi)(ht:0 < t)(k:(hi-lo)*t≤t2 (i+1)):((hlf c lo hi).2-(hlf c lo hi).1)*t≤t2 i:=by
 rw [jK] at k;have e:t2 1=2:=rfl;rw [e] at k;have hp:=iK i
 by_cases hl:hi≤lo
 ·have e2:hlf c lo hi=(lo,hi):=if_pos hl
  rw [e2];show (hi-lo)*t≤_
  have h1:=h.le;have:hi-lo=0:=by grind
  rw [this,Rat.zero_mul];grind
 ·have h1:=(uF h).2 (by grind)
  have h2:=abS h1 (show 0≤t by grind);grind
structure ApR(c d:Nat→Int)(lo hi p q:Rat)(s:Int)(r:Rat×Rat×Rat×Rat×Int):Prop where
 a:LZ c lo hi r.1 r.2.1
 b:LZ d p q r.2.2.1 r.2.2.2.1
 sg:r.2.2.2.2=s
 l:s= -1→r.2.1≤r.2.2.1
theorem GK{c d:Nat→Int}{lo hi p q:Rat}(h:tX c lo hi)(k:tX d p q)(hb:hi≤p):dG (bK c lo hi) (bK d p q)≤0:=
 (um h.cut k.cut).2 fun t ht=>k.below (by have:=h.afp ht;grind)
theorem RZ{c d:Nat→Int}{h1 h2:Nat}(b1:∀ i,(c i).natAbs≤2^h1)(b2:∀ i,(d i).natAbs≤2^h2):∀ (n i j:Nat) {lo hi p q:Rat},vJ c lo hi→vJ d p q→dG (bK c lo hi) (bK d p q)≠0→i+j < n→(hi-lo)*t2 (mQ (lg c) (lg d) h1 h2+2)≤t2 i→(q-p)*t2 (mQ (lg c) (lg d) h1 h2+2)≤t2 j→
  ApR c d lo hi p q (dG (bK c lo hi) (bK d p q)) (xw c d n lo hi p q)
 | 0,_,_,_,_,_,_,_,_,_,h,_,_=>absurd h (by omega)
 | n+1,i,j,lo,hi,p,q,oa,ob,hne,hn,w1,w2=>by
  obtain ⟨E,hE⟩:∃ E,E=mQ (lg c) (lg d) h1 h2:=⟨_,rfl⟩
  rw [← hE] at w1 w2;have hC:=oa.ok.cut;have hD:=ob.ok.cut;have hbd:=oz (bK c lo hi) (bK d p q);unfold xw
  by_cases k1:bel lo hi p q
  ·rw [if_pos k1]
   have:=GK oa.ok ob.ok k1.1;have e:dG (bK c lo hi) (bK d p q)= -1:=by omega
   rw [e];exact ⟨LZ.refl oa.ok,LZ.refl ob.ok,rfl,fun _=>k1.1⟩
  ·rw [if_neg k1]
   by_cases k2:bel p q lo hi
   ·rw [if_pos k2]
    have h3:=GK ob.ok oa.ok k2.1;rw [je hC hD] at h3;have e:dG (bK c lo hi) (bK d p q)=1:=by omega
    rw [e];exact ⟨LZ.refl oa.ok,LZ.refl ob.ok,rfl,fun h=>absurd h (by omega)⟩
   ·rw [if_neg k2]
    have npt:¬ (hi≤lo∧q≤p∧hi=p):=fun ⟨a1,a2,a3⟩=>hne (kN fun t=>by
     rw [kZ a1,kZ a2];have:=oa.ok.le;have e:lo=p:=by grind
     rw [e])
    have aot:¬ (q≤p∧hi≤lo∧q=lo):=fun ⟨a1,a2,a3⟩=>npt ⟨a2,a1,by have:=oa.ok.le;have:=ob.ok.le;grind⟩
    have o1:p < hi:=Rat.not_le.1 fun h=>k1 ⟨h,npt⟩
    have o2:lo < q:=Rat.not_le.1 fun h=>k2 ⟨h,aot⟩
    have big:¬ ((hi-lo)*t2 (E+2)≤1∧(q-p)*t2 (E+2)≤1):=fun ⟨u1,u2⟩=>by
     rw [jK] at u1 u2;have e4:t2 2=4:=rfl;rw [e4] at u1 u2;have hp:=iK E;obtain ⟨θ,hθ⟩:∃ θ,θ=1 / (2*t2 E):=⟨_,rfl⟩
     have hθ1:θ*t2 E=1 / 2:=by rw [hθ];grind
     have hθ0:0 < θ:=by
      apply abP;intro hn;have:=abS (show θ≤0 by grind) (show 0≤t2 E by grind);grind
     obtain ⟨a,ha⟩:∃ a,a=(if lo≤p then lo else p)-θ:=⟨_,rfl⟩
     obtain ⟨b,hb⟩:∃ b,b=if hi≤q then q else hi:=⟨_,rfl⟩
     have hlo:a < lo∧a < p:=by rw [ha];split <;> constructor <;> grind
     have hhi:hi≤b∧q≤b:=by rw [hb];split <;> constructor <;> grind
     have hle1:=oa.ok.le;have hle2:=ob.ok.le;have ahr:b-a≤(hi-lo)+(q-p)+θ:=by rw [ha,hb];split <;> split <;> grind
     have hfin:(b-a)*t2 E≤1:=by
      have:=abS ahr (show 0≤t2 E by grind);grind
     have hq:∃ t,(bK d p q t∧¬ bK c lo hi t)∨(bK c lo hi t∧¬ bK d p q t):=by
      apply abP;intro hn;refine hne (kN fun t=>⟨fun h=>?_,fun h=>?_⟩)
      ·apply abP;intro k;exact hn ⟨t,Or.inr ⟨h,k⟩⟩
      ·apply abP;intro k;exact hn ⟨t,Or.inl ⟨h,k⟩⟩
     obtain ⟨t,ht⟩:=hq;rw [hE] at hfin;exact sep oa.ok.z ob.ok.z oa.sq ob.sq oa.l2 ob.l2 b1 b2 hC hD oa.vc ob.vc ht (oa.ok.below hlo.1) (oa.ok.above hhi.1) (ob.ok.below hlo.2) (ob.ok.above hhi.2) hfin
    have tp:=iK (E+2)
    by_cases hw:q-p≤hi-lo
    ·rw [if_pos hw]
     have hi0:i≠0:=fun e=>big ⟨by rw [e] at w1;exact w1,by
      have h3:=abS hw (show 0≤t2 (E+2) by grind);rw [e] at w1;have e1:t2 0=1:=rfl;rw [e1] at w1;grind⟩
     obtain ⟨i',rfl⟩:∃ i',i=i'+1:=⟨i-1,by omega⟩
     have nr:=(uF oa.ok).1;have ecm:dG (bK c (hlf c lo hi).1 (hlf c lo hi).2) (bK d p q)=dG (bK c lo hi) (bK d p q):=by
      rw [show bK c (hlf c lo hi).1 (hlf c lo hi).2=bK c lo hi from funext fun t=>propext (nr.cut t)]
     have ih:=RZ b1 b2 n i' j (oa.OL nr) ob (by rw [ecm];exact hne) (by omega) (by rw [← hE];exact Zn oa.ok tp w1) (by rw [← hE];exact w2);rw [ecm] at ih;exact ⟨nr.trans ih.a,ih.b,ih.sg,ih.l⟩
    ·rw [if_neg hw]
     have hj0:j≠0:=fun e=>big ⟨by
      have h3:=abS (show hi-lo≤q-p by grind) (show 0≤t2 (E+2) by grind);rw [e] at w2;have e1:t2 0=1:=rfl;rw [e1] at w2;grind,by rw [e] at w2;exact w2⟩
     obtain ⟨j',rfl⟩:∃ j',j=j'+1:=⟨j-1,by omega⟩
     have nr:=(uF ob.ok).1;have ecm:dG (bK c lo hi) (bK d (hlf d p q).1 (hlf d p q).2)=dG (bK c lo hi) (bK d p q):=by
      rw [show bK d (hlf d p q).1 (hlf d p q).2=bK d p q from funext fun t=>propext (nr.cut t)]
     have ih:=RZ b1 b2 n i j' oa (ob.OL nr) (by rw [ecm];exact hne) (by omega) (by rw [← hE];exact w1) (by rw [← hE];exact Zn ob.ok tp w2);rw [ecm] at ih;exact ⟨ih.a,nr.trans ih.b,ih.sg,ih.l⟩
theorem afH{c:Nat→Int}(z:bC c)(i:Nat):(c i).natAbs≤2^JE c (lg c):=by
 by_cases h:i < lg c
 ·have h1:=zC (c i).natAbs
  exact acS (adC h1) (ab1 (by decide) (VO h))
 ·rw [z.lg i (by omega)];exact abR _
theorem PI(p q:Rat):q-p≤t2 (bW p.num.natAbs+bW q.num.natAbs+1):=by
 have h1:=(vX (p:=p) (q:=q) (R:=2^bW p.num.natAbs) (adC (zC _))).b;have h2:=(vX (p:=q) (q:=p) (R:=2^bW q.num.natAbs) (adC (zC _))).b;have h3:t2 (bW p.num.natAbs)≤t2 (bW p.num.natAbs+bW q.num.natAbs):=Hr (by omega);have h4:t2 (bW q.num.natAbs)≤t2 (bW p.num.natAbs+bW q.num.natAbs):=Hr (by omega);rw [jK _ 1];have e:t2 1=2:=rfl;rw [e];have e1:((2^bW p.num.natAbs:Nat):Rat)=t2 (bW p.num.natAbs):=rfl;have e2:((2^bW q.num.natAbs:Nat):Rat)=t2 (bW q.num.natAbs):=rfl;rw [e1] at h1;rw [e2] at h2;unfold Ab at h1 h2;grind
theorem Aa{c d:Nat→Int}{lo hi p q:Rat}(oa:vJ c lo hi)(ob:vJ d p q)(hne:dG (bK c lo hi) (bK d p q)≠0):ApR c d lo hi p q (dG (bK c lo hi) (bK d p q)) (xw c d (wY c lo hi d p q) lo hi p q):=by
 obtain ⟨E,hE⟩:∃ E,E=mQ (lg c) (lg d) (JE c (lg c)) (JE d (lg d)):=⟨_,rfl⟩
 refine RZ (afH oa.ok.z) (afH ob.ok.z) _ (bW lo.num.natAbs+bW hi.num.natAbs+1+(E+2)) (bW p.num.natAbs+bW q.num.natAbs+1+(E+2)) oa ob hne ?_ ?_ ?_
 ·rw [hE]
  unfold wY mQ;obtain ⟨P,hP⟩:∃ P,P=(lg c+lg d)*(JE c (lg c)+JE d (lg d)+(lg c+lg d)+8):=⟨_,rfl⟩
  rw [Nat.mul_assoc 2,Nat.mul_assoc 4,← hP];omega
 ·rw [← hE,jK _ (E+2)]
  exact abS (PI lo hi) (by have:=iK (E+2);grind)
 ·rw [← hE,jK _ (E+2)]
  exact abS (PI p q) (by have:=iK (E+2);grind)
/-- The loop's state. -/
structure Rf(c d:Nat→Int)(L J f:Nat)(lo hi p q u1 u2 v1 v2:Rat):Prop where
 fl:f≤J
 oa:tX c u1 u2
 ob:tX d v1 v2
 da:Dz L (J-f) u1 u2
 db:Dz L (J-f) v1 v2
 e:xw c d f u1 u2 v1 v2=xw c d J lo hi p q
theorem Rf.start{c d:Nat→Int}{L J:Nat}{lo hi p q:Rat}(h:tX c lo hi)(k:tX d p q)(h1:Tb L lo)(h2:Tb L hi)(h3:Tb L p)(h4:Tb L q):Rf c d L J J lo hi p q lo hi p q:=⟨abJ _,h,k,by rw [Nat.sub_self];exact yO h1 h2,by rw [Nat.sub_self];exact yO h3 h4,rfl⟩
theorem Rf.end_{c d:Nat→Int}{L J f:Nat}{lo hi p q u1 u2 v1 v2:Rat}(h:Rf c d L J f lo hi p q u1 u2 v1 v2)(hf:f=0):xw c d J lo hi p q=(u1,u2,v1,v2,0):=by rw [← h.e,hf];rfl
theorem Rf.lt{c d:Nat→Int}{L J f:Nat}{lo hi p q u1 u2 v1 v2:Rat}(h:Rf c d L J f lo hi p q u1 u2 v1 v2)(hf:f≠0)(hb:bel u1 u2 v1 v2):xw c d J lo hi p q=(u1,u2,v1,v2,-1):=by
 obtain ⟨g,rfl⟩:∃ g,f=g+1:=⟨f-1,by omega⟩
 rw [← h.e];exact if_pos hb
theorem Rf.gt{c d:Nat→Int}{L J f:Nat}{lo hi p q u1 u2 v1 v2:Rat}(h:Rf c d L J f lo hi p q u1 u2 v1 v2)(hf:f≠0)(hb:¬ bel u1 u2 v1 v2)(hb2:bel v1 v2 u1 u2):xw c d J lo hi p q=(u1,u2,v1,v2,1):=by
 obtain ⟨g,rfl⟩:∃ g,f=g+1:=⟨f-1,by omega⟩
 rw [← h.e];exact (if_neg hb).trans (if_pos hb2)
theorem Rf.go1{c d:Nat→Int}{L J f:Nat}{lo hi p q u1 u2 v1 v2:Rat}(h:Rf c d L J f lo hi p q u1 u2 v1 v2)(hf:f≠0)(hb:¬ bel u1 u2 v1 v2)(hb2:¬ bel v1 v2 u1 u2)(hw:v2-v1≤u2-u1):Rf c d L J (f-1) lo hi p q (hlf c u1 u2).1 (hlf c u1 u2).2 v1 v2:=by
 obtain ⟨g,rfl⟩:∃ g,f=g+1:=⟨f-1,by omega⟩
 have hfl:=h.fl;have hd:=h.da.hlf (c:=c);rw [show J-(g+1)+1=J-g by omega] at hd;exact ⟨by omega,(uF h.oa).1.ok,h.ob,hd,h.db.mono (by omega),by rw [← h.e];exact (((if_neg hb).trans (if_neg hb2)).trans (if_pos hw)).symm⟩
theorem Rf.go2{c d:Nat→Int}{L J f:Nat}{lo hi p q u1 u2 v1 v2:Rat}(h:Rf c d L J f lo hi p q u1 u2 v1 v2)(hf:f≠0)(hb:¬ bel u1 u2 v1 v2)(hb2:¬ bel v1 v2 u1 u2)(hw:¬ v2-v1≤u2-u1):Rf c d L J (f-1) lo hi p q u1 u2 (hlf d v1 v2).1 (hlf d v1 v2).2:=by
 obtain ⟨g,rfl⟩:∃ g,f=g+1:=⟨f-1,by omega⟩
 have hfl:=h.fl;have hd:=h.db.hlf (c:=d);rw [show J-(g+1)+1=J-g by omega] at hd;exact ⟨by omega,h.oa,(uF h.ob).1.ok,h.da.mono (by omega),hd,by rw [← h.e];exact (((if_neg hb).trans (if_neg hb2)).trans (if_neg hw)).symm⟩
theorem aiv{K L:Nat}{c d:Nat→Int}{lo hi p q:Rat}(h1:Lb K c)(h2:Lb K d)(a1:Tb L lo)(a2:Tb L hi)(a3:Tb L p)(a4:Tb L q):wY c lo hi d p q≤64+256*L+160*(64*K+48):=by
 have n1:=DW a1.1;have n2:=DW a2.1;have n3:=DW a3.1;have n4:=DW a4.1;have n5:=JF h1 (lg c);have n6:=JF h2 (lg d);have hlc:=dO c;have hld:=dO d;unfold wY;have h:=ae0 (show 4*(lg c+lg d)≤160 by omega) (show JE c (lg c)+JE d (lg d)+(lg c+lg d)+8≤64*K+48 by omega);omega
section
variable {P:Program} {ops:Array Oper} {Q:Qs} {s:AS}
theorem jA{n:Nat}{listed:Array Bool}(n':Nat)(listed':Array Bool)(s':AS)(h:yH P ops Q n' listed' s')(k:yH P ops Q n' listed' s'→yH P ops Q n listed s):yH P ops Q n listed s:=k h
theorem jB{n:Nat}{listed:Array Bool}{s':AS}{r:Nat}{rs:List Nat}(hr:Region.ready .any ops listed=r ::rs)(hw:Wk s s')(h:yH P ops Q (n+1) listed s'):yH P ops Q (n+1) listed s:=by
 unfold yH;unfold yH at h;refine ⟨fun e=>absurd (hr.symm.trans e) (by simp),fun i hi=>?_⟩;obtain ⟨o,ho,hal⟩:=h.2 i hi;exact ⟨o,ho,hal.wk hw⟩
end
section
variable {P:Program} {ops:Array Oper} {Q:Qs} {o:Oper} {l:List Oper} {s:AS}
theorem kQ(hg:jC ops s o=some false)(hd:kG o.dst s.n=true)(k:AL P ops Q l (s.put o.dst (.ji []))):AL P ops Q (o ::l) s:=by
 rintro B0 w0 a w ⟨ρ,hc,hn,hdf,hs⟩;unfold wpList;rw [if_neg (by rw [dZ hg hs];exact Bool.noConfusion)];exact k B0 w0 _ w (ni hc hn hdf hs hd ⟨[],rfl,Pe⟩)
theorem mU(hg:gsu ops s o=true)(hd:kG o.dst s.n=true)(k:AL P ops Q l (s.put o.dst (.ji []))):AL P ops Q (o ::l) s:=by
 rintro B0 w0 a w ⟨ρ,hc,hn,hdf,hs⟩;unfold wpList;rw [if_neg (by rw [Zf hg hs];exact Bool.noConfusion)];exact k B0 w0 _ w (ni hc hn hdf hs hd ⟨[],rfl,Pe⟩)
end
structure GI(c d:Nat→Int)(M N i:Nat)(g:Nat→Int):Prop where
 z:bC g
 b:Lb M g
 i0:i=0→∀ j,g j=0
 i1:i=1→Idl (fun _=>0) (FF c) (FF g)
 i2:i=2→Idl (FF c) (FF d) (FF g)
 pm:i≠0→lg g≠0∧Pm (lg g) g
 l:lg g≤N
theorem GI.start{c d:Nat→Int}{M N:Nat}:GI c d M N 0 (fun _=>0):=⟨lY,fun i=>aeA (by decide),fun _ _=>rfl,fun h=>absurd h (by omega),fun h=>absurd h (by omega),fun h=>absurd rfl h,by rw [(iF lY).2 fun _=>rfl];exact abR _⟩
theorem GI.alx{c d g g1:Nat→Int}{K M' N:Nat}(h:GI c d (21*K+3) N 0 g)(zc:bC c)(hc:lg c≠0)(hN:N≤10)(FU:lg c≤N)(hb:Lb K c)(k:oq g c M' g1):GI c d (21*K+3) N 1 g1:=by
 obtain ⟨l1,l2⟩:=k.le' zc hc;have pm:=k.pm l1;have e:FF g=fun _=>0:=funext fun x=>(oh h.z).1 ((iF h.z).2 (h.i0 rfl)) x
 have id:=k.IV;rw [e] at id;exact ⟨k.z,Dj zc k.z hc (by omega) id.db pm.one hb,fun h=>absurd h (by omega),fun _=>id,fun h=>absurd h (by omega),fun _=>⟨l1,pm⟩,by omega⟩
theorem GI.al1{c d g g2:Nat→Int}{K M' N:Nat}(h:GI c d (21*K+3) N 1 g)(zc:bC c)(zd:bC d)(hc:lg c≠0)(hd:lg d≠0)(hN:N≤10)(hdN:lg d≤N)(hb:Lb K d)(k:oq g d M' g2):GI c d (21*K+3) N 2 g2:=by
 obtain ⟨l1,l2⟩:=k.le' zd hd;have pm:=k.pm l1;have id:=h.i1 rfl;obtain ⟨u,v,pu,pv,huv⟩:=id.cm;have cm1:OO (FF g) (FF c) (FF d):=⟨v,fun _=>0,pv,bZ 0,fun x=>by rw [huv x];grind⟩;exact ⟨k.z,Dj zd k.z hd (by omega) k.IV.db pm.one hb,fun h=>absurd h (by omega),fun h=>absurd h (by omega),fun _=>⟨k.IV.cm.trans cm1 (OO.r _ _),k.IV.da.trans id.db,k.IV.db⟩,fun _=>⟨l1,pm⟩,by omega⟩
theorem GI.fin{c d g:Nat→Int}{M N:Nat}(h:GI c d M N 2 g):oq c d M g:=⟨h.z,h.b,h.i2 rfl,fun _=>(h.pm (by omega)).2⟩
theorem WM{c d:Nat→Int}{M N:Nat}:AV.le (.d (.one (.v (.slice none 0 0)))) (.d (.one (aX (GI c d M N 0) (fun g=>iC M (lg g) g)))):=
 fun ρ B w v h=>lT (Q:=GI c d M N 0) (L:=fun g=>iC M (lg g) g) (fun _=>0) GI.start ρ B w v (Fe ((iF lY).2 fun _=>rfl) ρ B w v h)
theorem aeB{K KC N:Nat}{c d:Nat→Int}(zc:bC c)(zd:bC d)(hc:lg c≠0)(hd:lg d≠0)(hN:N≤10)(FU:lg c≤N)(hdN:lg d≤N)(hbc:Lb K c)(hbd:Lb K d)(nU:((21*K+3)+1)*(2*3^N)≤KC)(hC:KC≤90000000):aC Tryz.prog 68 [.one (.row 1 2 (fun i' j'=>(([.row 2 (lg c) (cO K c),.row 2 (lg d) (cO K d)])[i'*1+j']?).getD (.v undef)))] (.d (.one (aX (oq c d (21*K+3)) (fun g=>iC (21*K+3) (lg g) g)))):=by
 have hlc:=dO c;have hld:=dO d;refine aN 17 [.tmp 2] Tryz.func68 rfl<|cR<|mW rfl<|mT<|cR<|mW rfl<|mT<|au<|cR<|mE 3 rfl<|mT<|aI<|dU (ι:=Nat) (fun (i:Nat)=>⟨17,[(6,.d (.one (.row 1 2 (fun i' j'=>(([.row 2 (lg c) (cO K c),.row 2 (lg d) (cO K d)])[i'*1+j']?).getD (.v undef))))),(7,dI 2),(8,dI (i:Int)),(3,.d (.one (aX (GI c d (21*K+3) N i) (fun g=>iC (21*K+3) (lg g) g))))],[]⟩) (fun (i:Nat)=>i≤2) (fun (i:Nat)=>2-i) 0 (abR _) (wkv [3] [] ⟨fQ rfl (WM),Pe⟩ trivial rfl rfl) ?_;rintro i hI;have hi:i≤2:=hI;show AW _ _ _ ⟨_,_,_⟩
 refine cR<|mW rfl<|mT<|au<|aW rfl (fun hc1=>?_) (fun hc1=>?_)
 ·refine aF<|tN<|au<|aI<|au ?_;have hi2:i < 2:=by have h0:=abM hc1;omega
  by_cases hi0:i=0
  ·obtain rfl:i=0:=by omega
   refine cEx (Qx:=(GI c d (21*K+3) N 0)) (L:=(fun g=>iC (21*K+3) (lg g) g)) 3 rfl (fun g0 hg0=>?_);have hl0:=hg0.l;exact aA<|mE 3 rfl<|mT<|aA<|mE 2 rfl<|mY (ajF (K:=(21*K+3)) (KC:=KC) (N:=N) (vF (K:=(21*K+3)) (c:=g0) (bC.lg hg0.z)) (qI.mono (vF (K:=K) (c:=c) (bC.lg zc)) (by omega)) hg0.z zc (by omega) (by omega) hN hl0 (by omega) nU hC) rfl<|mW rfl<|ak<|bN<|tN<|aA<|mE 2 rfl<|ak<|⟨(0+1),by omega,by omega,wkv [2,3] [] ⟨fQ rfl (aG rfl),fQ rfl (gq (Dl fun r hr=>⟨r,hg0.alx zc hc hN FU hbc hr,BO fun i _=>(hg0.alx zc hc hN FU hbc hr).b i⟩)),Pe⟩ trivial rfl rfl⟩
  ·obtain rfl:i=1:=by omega
   refine cEx (Qx:=(GI c d (21*K+3) N 1)) (L:=(fun g=>iC (21*K+3) (lg g) g)) 3 rfl (fun g0 hg0=>?_);have hl0:=hg0.l;exact aA<|mE 3 rfl<|mT<|aA<|mE 2 rfl<|mY (ajF (K:=(21*K+3)) (KC:=KC) (N:=N) (vF (K:=(21*K+3)) (c:=g0) (bC.lg hg0.z)) (qI.mono (vF (K:=K) (c:=d) (bC.lg zd)) (by omega)) hg0.z zd (by omega) (by omega) hN hl0 (by omega) nU hC) rfl<|mW rfl<|ak<|bN<|tN<|aA<|mE 2 rfl<|ak<|⟨(1+1),by omega,by omega,wkv [2,3] [] ⟨fQ rfl (aG rfl),fQ rfl (gq (Dl fun r hr=>⟨r,hg0.al1 zc zd hc hd hN hdN hbd hr,BO fun i _=>(hg0.al1 zc zd hc hd hN hdN hbd hr).b i⟩)),Pe⟩ trivial rfl rfl⟩
 ·exact dP<|tE<|tE<|bE<|tN<|cR<|mE 2 rfl<|mT<|aH<|rQ rfl (by have h0:=abL hc1;obtain rfl:i=2:=by {omega};exact gq (Dl fun r hr=>⟨r,hr.fin,fun _ _ _ h=>h⟩))
theorem F6{g:Nat→Int}(z:bC g)(h:lg g=1)(a b:Rat):jP (FF g) a b:=by
 obtain ⟨κ,hκ,hk⟩:=lW z h;exact ⟨fC κ,fun e=>hκ (fP.1 e),fun t _ _=>by rw [hk t]⟩
theorem Zi{c:Nat→Int}{lo hi:Rat}:II c lo hi=true↔(fC (FF c hi)=0∨fC (FF c hi)≠yC (FF c) (FF (bP c)) lo):=decide_eq_true_iff
theorem zh{c g:Nat→Int}{lo hi a b:Rat}{w:Fn}(o:Et (FF c) (FF (bP c)) lo hi)(zg:bC g)(pw:Po w)(e:∀ x,FF c x=FF g x*w x)(h2:2≤lg g)(h1:lo≤a)(h3:b≤hi)(hab:a < b):II g a b=true↔¬ jP (FF g) a b:=by
 have hs:AB (FF g) (FF (bP g)):=o.sq.dv (dh zg) pw (dh (fA zg)) (qH zg) e;have hne:∃ x,FF (bP g) x≠0:=abI (fA zg) fun h=>by have:=wu zg h;omega
 obtain ⟨gg,l,st,_⟩:=hs.stm hne;obtain ⟨N,hN⟩:=qU st (a:=a) (b:=b) (by grind);have k:oP (FF g) a b N:=⟨gg,l,st,hN⟩;have hle:N≤1:=by
  obtain ⟨K1,M1,_,n1,e1⟩:=o.one.split (m:=a) h1 (by grind);obtain ⟨K2,M2,n2,_,e2⟩:=n1.split (m:=b) (by grind) h3;have:=qA o (dh zg) pw e st (by grind) k n2;omega
 rw [Zi,← MP (qH zg) hab k hle];have h5:=k.free (dh zg) (by grind);constructor
 ·intro h6 h7
  have:=h5.2 h7;omega
 ·intro h6
  have:N≠0:=fun h=>h6 (h5.1 h)
  omega
theorem Ae{c d g:Nat→Int}{M:Nat}{lo hi p q a b:Rat}(oa:tX c lo hi)(ob:tX d p q)(h1:¬ hi≤lo)(h2:¬ q≤p)(hg:oq c d M g)(hg0:lg g≠0)(ha:a=if lo < p then p else lo)(hb:b=if q < hi then q else hi):
  (a < b→2≤lg g→II g a b=true→dG (bK c lo hi) (bK d p q)=0)∧((a < b→2≤lg g→II g a b=false)→dG (bK c lo hi) (bK d p q)≠0):=by
 have o1:=oa.i' h1;have o2:=ob.i' h2;have e1:=jS (c:=c) (show lo < hi by grind);have e2:=jS (c:=d) (show p < q by grind);obtain ⟨w1,VB,f1⟩:=hg.IV.da;obtain ⟨w2,Xy,f2⟩:=hg.IV.db;obtain ⟨u,v,pu,pv,huv⟩:=hg.IV.cm;have f1':∀ x,FF c x=FF g x*w1 x:=fun x=>by rw [f1 x];grind
 have f2':∀ x,FF d x=FF g x*w2 x:=fun x=>by rw [f2 x];grind
 have a1:lo≤a:=by rw [ha];split <;> grind
 have a2:p≤a:=by rw [ha];split <;> grind
 have b1:b≤hi:=by rw [hb];split <;> grind
 have b2:b≤q:=by rw [hb];split <;> grind
 rw [e1,e2];refine ⟨fun hab hl hh=>kN (Yz o1 o2 (dh hg.z) VB Xy f1' f2' a1 a2 b1 b2 hab ((zh o1 hg.z VB f1' hl a1 b1 hab).1 hh)),fun hh h0=>?_⟩;refine Yx o1 o2 (dh hg.z) VB Xy pv pu f1' f2' (fun x=>by rw [huv x];grind) (by rw [ha];split;exact Or.inr rfl;exact Or.inl rfl) (by rw [hb];split;exact Or.inr rfl;exact Or.inl rfl) a1 a2 b1 b2 (fun hab=>?_) (vO h0)
 by_cases hl:2≤lg g
 ·apply abP
  intro hn;have:=(zh o1 hg.z VB f1' hl a1 b1 hab).2 hn;rw [hh hab hl] at this;exact absurd this Bool.noConfusion
 ·exact F6 hg.z (by omega) a b
theorem Ez{K L X:Nat}{c d:Nat→Int}{lo hi x1 x2:Rat}(hA:tX c lo hi)(hB:tX d x1 x2)(hX:11*L+320*K+300≤X)(hX1:X≤100000):aC Tryz.prog 71 [.agg ([.row 2 (lg c) (cO K c)] ++tn L lo ++tn L hi),.agg ([.row 2 (lg d) (cO K d)] ++tn L x1 ++tn L x2)] (.ji [.agg ([.row 2 (lg c) (cO K c)] ++tn X ((xw c d (wY c lo hi d x1 x2) lo hi x1 x2).1) ++tn X ((xw c d (wY c lo hi d x1 x2) lo hi x1 x2).2.1)),.agg ([.row 2 (lg d) (cO K d)] ++tn X ((xw c d (wY c lo hi d x1 x2) lo hi x1 x2).2.2.1) ++tn X ((xw c d (wY c lo hi d x1 x2) lo hi x1 x2).2.2.2.1)),.one (vI ((xw c d (wY c lo hi d x1 x2) lo hi x1 x2).2.2.2.2))]):=by
 refine aC.nH (fJ Tryz.func71 rfl rfl) (p:=(Lb K c∧Tb L lo∧Tb L hi)∧(Lb K d∧Tb L x1∧Tb L x2)) (fun B w vs h=>match vs,h with | [_,_],⟨⟨cs,_,hl⟩,⟨ds,_,hk⟩,_⟩=>⟨KH hA.z hl,KH hB.z hk⟩) (fun hb=>?_);have hJ:=aiv hb.1.1 hb.2.1 hb.1.2.1 hb.1.2.2 hb.2.2.1 hb.2.2.2;refine aN 83 [.cell 4 40,.cell 5 40,.tmp 6] Tryz.func71 rfl<|cR<|mO rfl<|mO rfl<|mO rfl<|mO rfl<|mW rfl<|mT<|au<|cR<|mE 2 rfl<|mY (agv hA.z hB.z (by omega) (by omega) (by omega) (by omega) (by omega) (by omega)) rfl<|mW rfl<|mT<|aI<|dU (ι:=Nat×Rat×Rat×Rat×Rat) (fun (p:Nat×Rat×Rat×Rat×Rat)=>match p with | (f,u1,u2,v1,v2)=>⟨83,[(2,.ptr 2 0),(3,.ptr 3 0),(4,.ptr 4 0),(5,.ptr 5 0),(6,dI 0),(9,dI ((wY c lo hi d x1 x2:Nat):Int)),(10,dI (((wY c lo hi d x1 x2)-f:Nat):Int))],[(2,.box 40 ([.row 2 (lg c) (cO K c)] ++tn X u1 ++tn X u2)),(3,.box 40 ([.row 2 (lg d) (cO K d)] ++tn X v1 ++tn X v2)),(4,.box 40 ([.v (.slice none 0 0),.v (.bool false),.v (.slice none 0 0),.v (.bool false),.v (.slice none 0 0),.v (.bool false),.v (.slice none 0 0),.v (.bool false),.v (.slice none 0 0)])),(5,.box 40 ([.v (.slice none 0 0),.v (.bool false),.v (.slice none 0 0),.v (.bool false),.v (.slice none 0 0),.v (.bool false),.v (.slice none 0 0),.v (.bool false),.v (.slice none 0 0)]))]⟩) (fun (p:Nat×Rat×Rat×Rat×Rat)=>match p with | (f,u1,u2,v1,v2)=>Rf c d L (wY c lo hi d x1 x2) f lo hi x1 x2 u1 u2 v1 v2) (fun (p:Nat×Rat×Rat×Rat×Rat)=>match p with | (f,u1,u2,v1,v2)=>f) ((wY c lo hi d x1 x2),lo,hi,x1,x2) (.start hA hB hb.1.2.1 hb.1.2.2 hb.2.2.1 hb.2.2.2) (wkv [6] [0,1] ⟨fQ rfl (aG (by rw [Nat.sub_self];rfl)),Pe⟩ ⟨dX rfl (Yg (yc hb.1.2.1 (by omega)) (yc hb.1.2.2 (by omega))),dX rfl (Yg (yc hb.2.2.1 (by omega)) (yc hb.2.2.2 (by omega))),Pe⟩ rfl rfl) ?_;rintro ⟨f,u1,u2,v1,v2⟩ hI;have hI:Rf c d L (wY c lo hi d x1 x2) f lo hi x1 x2 u1 u2 v1 v2:=hI;show AW _ _ _ ⟨_,_,_⟩
 refine cR<|mW rfl<|mT<|au<|aW rfl (fun hc1=>?_) (fun hc1=>?_)
 ·refine aF<|tN<|au<|aI<|au<|aI<|au ?_;have hf0:f≠0:=by have h0:=abM hc1;omega
  by_cases ka1:u2≤v1
  ·by_cases ka2:u2≤u1
   ·by_cases ka3:v2≤v1
    ·by_cases ka4:u2=v1
     ·have ka:¬ bel u1 u2 v1 v2:=fun h=>h.2 ⟨ka2,ka3,ka4⟩
      refine aA<|mE 4 rfl<|mY iU rfl<|mdT rfl (dV.2 ka1)<|mE 2 rfl<|mY iQ rfl<|mdT rfl ka2<|mW rfl<|mY iQ rfl<|mW rfl<|mdT rfl ka3<|mE 4 rfl<|mY iU rfl<|mbT rfl (aez.2 (lN.2 ka4))<|mW rfl<|mbF rfl rfl<|mE 2 rfl<|mT<|cF rfl<|au ?_
      by_cases Nv:v2≤u1
      ·by_cases kb2:u2≤u1
       ·by_cases ZO:v2≤v1
        ·by_cases kb4:v2=u1
         ·have kb:¬ bel v1 v2 u1 u2:=fun h=>h.2 ⟨ZO,kb2,kb4⟩
          refine aA<|mE 4 rfl<|mY iU rfl<|mdT rfl (dV.2 Nv)<|mE 2 rfl<|mY iQ rfl<|mdT rfl kb2<|mW rfl<|mY iQ rfl<|mW rfl<|mdT rfl ZO<|mE 4 rfl<|mY iU rfl<|mbT rfl (aez.2 (lN.2 kb4))<|mW rfl<|mbF rfl rfl<|mE 2 rfl<|mT<|cF rfl<|aF<|bN<|tN<|au<|cDk 12<|oE 4 rfl<|oC FN rfl<|oE 4 rfl<|oC FN rfl<|oC iU rfl<|.cons (aB.V (.d (.one (.v (.bool (decide (v2-v1≤u2-u1)))))) (bI (ahE.2 xG)))<|.nil<|mT<|aW rfl (fun hc2=>?_) (fun hc2=>?_)
          ·have h':=hI.go1 hf0 ka kb (abM hc2);have hT:=h'.da.tb (X:=X) (by omega);exact aA<|mW rfl<|mY (FK (X:=X) hI.oa hT.1 hT.2) rfl<|mZ rfl<|ak<|bN<|tN<|aA<|mE 2 rfl<|ak<|⟨((f-1),(hlf c u1 u2).1,(hlf c u1 u2).2,v1,v2),h',by show f-1 < f;omega,wkv [6] [] ⟨fQ rfl (aG ((dF (by have:=h'.fl;omega)).trans (by have:=hI.fl;omega))),Pe⟩ trivial rfl rfl⟩
          ·have h':=hI.go2 hf0 ka kb (abL hc2);have hT:=h'.db.tb (X:=X) (by omega);exact aA<|mW rfl<|mY (FK (X:=X) hI.ob hT.1 hT.2) rfl<|mZ rfl<|ak<|bN<|tN<|aA<|mE 2 rfl<|ak<|⟨((f-1),u1,u2,(hlf d v1 v2).1,(hlf d v1 v2).2),h',by show f-1 < f;omega,wkv [6] [] ⟨fQ rfl (aG ((dF (by have:=h'.fl;omega)).trans (by have:=hI.fl;omega))),Pe⟩ trivial rfl rfl⟩
         ·have kb:bel v1 v2 u1 u2:=⟨Nv,fun h=>kb4 h.2.2⟩;exact aA<|mE 4 rfl<|mY iU rfl<|mdT rfl (dV.2 Nv)<|mE 2 rfl<|mY iQ rfl<|mdT rfl kb2<|mW rfl<|mY iQ rfl<|mW rfl<|mdT rfl ZO<|mE 4 rfl<|mY iU rfl<|mbF rfl (abX.2 (fun h=>kb4 (lN.1 h)))<|mW rfl<|mbT rfl rfl<|mE 2 rfl<|mT<|cT rfl<|au<|cDs 5<|pV rfl<|pV rfl<|.cons (aB.S 4 (.box 40 ([.row 2 (lg c) (cO K c)] ++tn X u1 ++tn X u2)) rfl rfl) (by kernel_rfl)<|.cons (aB.S 5 (.box 40 ([.row 2 (lg d) (cO K d)] ++tn X v1 ++tn X v2)) rfl rfl) (by kernel_rfl)<|.cons (aB.V _ rfl) (by kernel_rfl)<|.nil<|mT<|aH<|bR<|tR<|bR<|tR<|tR<|bR<|tR<|rQ rfl (by rw [hI.gt hf0 ka kb];exact AV.le.rfl)
        ·have kb:bel v1 v2 u1 u2:=⟨Nv,fun h=>ZO h.1⟩;exact aA<|mE 4 rfl<|mY iU rfl<|mdT rfl (dV.2 Nv)<|mE 2 rfl<|mY iQ rfl<|mdT rfl kb2<|mW rfl<|mY iQ rfl<|mW rfl<|mdF rfl ZO<|kQ rfl rfl<|kQ rfl rfl<|kQ rfl rfl<|kQ rfl rfl<|kQ rfl rfl<|kQ rfl rfl<|mW rfl<|mbT rfl rfl<|mE 2 rfl<|mT<|cT rfl<|au<|cDs 5<|pV rfl<|pV rfl<|.cons (aB.S 4 (.box 40 ([.row 2 (lg c) (cO K c)] ++tn X u1 ++tn X u2)) rfl rfl) (by kernel_rfl)<|.cons (aB.S 5 (.box 40 ([.row 2 (lg d) (cO K d)] ++tn X v1 ++tn X v2)) rfl rfl) (by kernel_rfl)<|.cons (aB.V _ rfl) (by kernel_rfl)<|.nil<|mT<|aH<|bR<|tR<|bR<|tR<|tR<|bR<|tR<|rQ rfl (by rw [hI.gt hf0 ka kb];exact AV.le.rfl)
       ·have kb:bel v1 v2 u1 u2:=⟨Nv,fun h=>kb2 h.2.1⟩;exact aA<|mE 4 rfl<|mY iU rfl<|mdT rfl (dV.2 Nv)<|mE 2 rfl<|mY iQ rfl<|mdF rfl kb2<|kQ rfl rfl<|kQ rfl rfl<|mE 2 rfl<|kQ rfl rfl<|kQ rfl rfl<|kQ rfl rfl<|kQ rfl rfl<|kQ rfl rfl<|kQ rfl rfl<|mW rfl<|mbT rfl rfl<|mE 2 rfl<|mT<|cT rfl<|au<|cDs 5<|pV rfl<|pV rfl<|.cons (aB.S 4 (.box 40 ([.row 2 (lg c) (cO K c)] ++tn X u1 ++tn X u2)) rfl rfl) (by kernel_rfl)<|.cons (aB.S 5 (.box 40 ([.row 2 (lg d) (cO K d)] ++tn X v1 ++tn X v2)) rfl rfl) (by kernel_rfl)<|.cons (aB.V _ rfl) (by kernel_rfl)<|.nil<|mT<|aH<|bR<|tR<|bR<|tR<|tR<|bR<|tR<|rQ rfl (by rw [hI.gt hf0 ka kb];exact AV.le.rfl)
      ·have kb:¬ bel v1 v2 u1 u2:=fun h=>Nv h.1
       refine aA<|mE 4 rfl<|mY iU rfl<|mbF rfl (aef (fun h=>Nv (dV.1 h)))<|mW rfl<|kQ rfl rfl<|kQ rfl rfl<|kQ rfl rfl<|mU rfl rfl<|mU rfl rfl<|kQ rfl rfl<|kQ rfl rfl<|mU rfl rfl<|mU rfl rfl<|mU rfl rfl<|mU rfl rfl<|mU rfl rfl<|mU rfl rfl<|kQ rfl rfl<|kQ rfl rfl<|mE 2 rfl<|mT<|cF rfl<|aF<|bN<|tN<|au<|cDk 12<|oE 4 rfl<|oC FN rfl<|oE 4 rfl<|oC FN rfl<|oC iU rfl<|.cons (aB.V (.d (.one (.v (.bool (decide (v2-v1≤u2-u1)))))) (bI (ahE.2 xG)))<|.nil<|mT<|aW rfl (fun hc3=>?_) (fun hc3=>?_)
       ·have h':=hI.go1 hf0 ka kb (abM hc3);have hT:=h'.da.tb (X:=X) (by omega);exact aA<|mW rfl<|mY (FK (X:=X) hI.oa hT.1 hT.2) rfl<|mZ rfl<|ak<|bN<|tN<|aA<|mE 2 rfl<|ak<|⟨((f-1),(hlf c u1 u2).1,(hlf c u1 u2).2,v1,v2),h',by show f-1 < f;omega,wkv [6] [] ⟨fQ rfl (aG ((dF (by have:=h'.fl;omega)).trans (by have:=hI.fl;omega))),Pe⟩ trivial rfl rfl⟩
       ·have h':=hI.go2 hf0 ka kb (abL hc3);have hT:=h'.db.tb (X:=X) (by omega);exact aA<|mW rfl<|mY (FK (X:=X) hI.ob hT.1 hT.2) rfl<|mZ rfl<|ak<|bN<|tN<|aA<|mE 2 rfl<|ak<|⟨((f-1),u1,u2,(hlf d v1 v2).1,(hlf d v1 v2).2),h',by show f-1 < f;omega,wkv [6] [] ⟨fQ rfl (aG ((dF (by have:=h'.fl;omega)).trans (by have:=hI.fl;omega))),Pe⟩ trivial rfl rfl⟩
     ·have ka:bel u1 u2 v1 v2:=⟨ka1,fun h=>ka4 h.2.2⟩;exact aA<|mE 4 rfl<|mY iU rfl<|mdT rfl (dV.2 ka1)<|mE 2 rfl<|mY iQ rfl<|mdT rfl ka2<|mW rfl<|mY iQ rfl<|mW rfl<|mdT rfl ka3<|mE 4 rfl<|mY iU rfl<|mbF rfl (abX.2 (fun h=>ka4 (lN.1 h)))<|mW rfl<|mbT rfl rfl<|mE 2 rfl<|mT<|cT rfl<|au<|cDs 5<|pV rfl<|pV rfl<|.cons (aB.S 4 (.box 40 ([.row 2 (lg c) (cO K c)] ++tn X u1 ++tn X u2)) rfl rfl) (by kernel_rfl)<|.cons (aB.S 5 (.box 40 ([.row 2 (lg d) (cO K d)] ++tn X v1 ++tn X v2)) rfl rfl) (by kernel_rfl)<|.cons (aB.V _ rfl) (by kernel_rfl)<|.nil<|mT<|aH<|bR<|tR<|bR<|tR<|tR<|bR<|tR<|rQ rfl (by rw [hI.lt hf0 ka];exact AV.le.rfl)
    ·have ka:bel u1 u2 v1 v2:=⟨ka1,fun h=>ka3 h.2.1⟩;exact aA<|mE 4 rfl<|mY iU rfl<|mdT rfl (dV.2 ka1)<|mE 2 rfl<|mY iQ rfl<|mdT rfl ka2<|mW rfl<|mY iQ rfl<|mW rfl<|mdF rfl ka3<|kQ rfl rfl<|kQ rfl rfl<|kQ rfl rfl<|kQ rfl rfl<|kQ rfl rfl<|kQ rfl rfl<|mW rfl<|mbT rfl rfl<|mE 2 rfl<|mT<|cT rfl<|au<|cDs 5<|pV rfl<|pV rfl<|.cons (aB.S 4 (.box 40 ([.row 2 (lg c) (cO K c)] ++tn X u1 ++tn X u2)) rfl rfl) (by kernel_rfl)<|.cons (aB.S 5 (.box 40 ([.row 2 (lg d) (cO K d)] ++tn X v1 ++tn X v2)) rfl rfl) (by kernel_rfl)<|.cons (aB.V _ rfl) (by kernel_rfl)<|.nil<|mT<|aH<|bR<|tR<|bR<|tR<|tR<|bR<|tR<|rQ rfl (by rw [hI.lt hf0 ka];exact AV.le.rfl)
   ·have ka:bel u1 u2 v1 v2:=⟨ka1,fun h=>ka2 h.1⟩;exact aA<|mE 4 rfl<|mY iU rfl<|mdT rfl (dV.2 ka1)<|mE 2 rfl<|mY iQ rfl<|mdF rfl ka2<|kQ rfl rfl<|kQ rfl rfl<|mE 2 rfl<|kQ rfl rfl<|kQ rfl rfl<|kQ rfl rfl<|kQ rfl rfl<|kQ rfl rfl<|kQ rfl rfl<|mW rfl<|mbT rfl rfl<|mE 2 rfl<|mT<|cT rfl<|au<|cDs 5<|pV rfl<|pV rfl<|.cons (aB.S 4 (.box 40 ([.row 2 (lg c) (cO K c)] ++tn X u1 ++tn X u2)) rfl rfl) (by kernel_rfl)<|.cons (aB.S 5 (.box 40 ([.row 2 (lg d) (cO K d)] ++tn X v1 ++tn X v2)) rfl rfl) (by kernel_rfl)<|.cons (aB.V _ rfl) (by kernel_rfl)<|.nil<|mT<|aH<|bR<|tR<|bR<|tR<|tR<|bR<|tR<|rQ rfl (by rw [hI.lt hf0 ka];exact AV.le.rfl)
  ·have ka:¬ bel u1 u2 v1 v2:=fun h=>ka1 h.1
   refine aA<|mE 4 rfl<|mY iU rfl<|mbF rfl (aef (fun h=>ka1 (dV.1 h)))<|mW rfl<|kQ rfl rfl<|kQ rfl rfl<|kQ rfl rfl<|mU rfl rfl<|mU rfl rfl<|kQ rfl rfl<|kQ rfl rfl<|mU rfl rfl<|mU rfl rfl<|mU rfl rfl<|mU rfl rfl<|mU rfl rfl<|mU rfl rfl<|kQ rfl rfl<|kQ rfl rfl<|mE 2 rfl<|mT<|cF rfl<|au ?_
   by_cases Nv:v2≤u1
   ·by_cases kb2:u2≤u1
    ·by_cases ZO:v2≤v1
     ·by_cases kb4:v2=u1
      ·have kb:¬ bel v1 v2 u1 u2:=fun h=>h.2 ⟨ZO,kb2,kb4⟩
       refine aA<|mE 4 rfl<|mY iU rfl<|mdT rfl (dV.2 Nv)<|mE 2 rfl<|mY iQ rfl<|mdT rfl kb2<|mW rfl<|mY iQ rfl<|mW rfl<|mdT rfl ZO<|mE 4 rfl<|mY iU rfl<|mbT rfl (aez.2 (lN.2 kb4))<|mW rfl<|mbF rfl rfl<|mE 2 rfl<|mT<|cF rfl<|aF<|bN<|tN<|au<|cDk 12<|oE 4 rfl<|oC FN rfl<|oE 4 rfl<|oC FN rfl<|oC iU rfl<|.cons (aB.V (.d (.one (.v (.bool (decide (v2-v1≤u2-u1)))))) (bI (ahE.2 xG)))<|.nil<|mT<|aW rfl (fun hc4=>?_) (fun hc4=>?_)
       ·have h':=hI.go1 hf0 ka kb (abM hc4);have hT:=h'.da.tb (X:=X) (by omega);exact aA<|mW rfl<|mY (FK (X:=X) hI.oa hT.1 hT.2) rfl<|mZ rfl<|ak<|bN<|tN<|aA<|mE 2 rfl<|ak<|⟨((f-1),(hlf c u1 u2).1,(hlf c u1 u2).2,v1,v2),h',by show f-1 < f;omega,wkv [6] [] ⟨fQ rfl (aG ((dF (by have:=h'.fl;omega)).trans (by have:=hI.fl;omega))),Pe⟩ trivial rfl rfl⟩
       ·have h':=hI.go2 hf0 ka kb (abL hc4);have hT:=h'.db.tb (X:=X) (by omega);exact aA<|mW rfl<|mY (FK (X:=X) hI.ob hT.1 hT.2) rfl<|mZ rfl<|ak<|bN<|tN<|aA<|mE 2 rfl<|ak<|⟨((f-1),u1,u2,(hlf d v1 v2).1,(hlf d v1 v2).2),h',by show f-1 < f;omega,wkv [6] [] ⟨fQ rfl (aG ((dF (by have:=h'.fl;omega)).trans (by have:=hI.fl;omega))),Pe⟩ trivial rfl rfl⟩
      ·have kb:bel v1 v2 u1 u2:=⟨Nv,fun h=>kb4 h.2.2⟩;exact aA<|mE 4 rfl<|mY iU rfl<|mdT rfl (dV.2 Nv)<|mE 2 rfl<|mY iQ rfl<|mdT rfl kb2<|mW rfl<|mY iQ rfl<|mW rfl<|mdT rfl ZO<|mE 4 rfl<|mY iU rfl<|mbF rfl (abX.2 (fun h=>kb4 (lN.1 h)))<|mW rfl<|mbT rfl rfl<|mE 2 rfl<|mT<|cT rfl<|au<|cDs 5<|pV rfl<|pV rfl<|.cons (aB.S 4 (.box 40 ([.row 2 (lg c) (cO K c)] ++tn X u1 ++tn X u2)) rfl rfl) (by kernel_rfl)<|.cons (aB.S 5 (.box 40 ([.row 2 (lg d) (cO K d)] ++tn X v1 ++tn X v2)) rfl rfl) (by kernel_rfl)<|.cons (aB.V _ rfl) (by kernel_rfl)<|.nil<|mT<|aH<|bR<|tR<|bR<|tR<|tR<|bR<|tR<|rQ rfl (by rw [hI.gt hf0 ka kb];exact AV.le.rfl)
     ·have kb:bel v1 v2 u1 u2:=⟨Nv,fun h=>ZO h.1⟩;exact aA<|mE 4 rfl<|mY iU rfl<|mdT rfl (dV.2 Nv)<|mE 2 rfl<|mY iQ rfl<|mdT rfl kb2<|mW rfl<|mY iQ rfl<|mW rfl<|mdF rfl ZO<|kQ rfl rfl<|kQ rfl rfl<|kQ rfl rfl<|kQ rfl rfl<|kQ rfl rfl<|kQ rfl rfl<|mW rfl<|mbT rfl rfl<|mE 2 rfl<|mT<|cT rfl<|au<|cDs 5<|pV rfl<|pV rfl<|.cons (aB.S 4 (.box 40 ([.row 2 (lg c) (cO K c)] ++tn X u1 ++tn X u2)) rfl rfl) (by kernel_rfl)<|.cons (aB.S 5 (.box 40 ([.row 2 (lg d) (cO K d)] ++tn X v1 ++tn X v2)) rfl rfl) (by kernel_rfl)<|.cons (aB.V _ rfl) (by kernel_rfl)<|.nil<|mT<|aH<|bR<|tR<|bR<|tR<|tR<|bR<|tR<|rQ rfl (by rw [hI.gt hf0 ka kb];exact AV.le.rfl)
    ·have kb:bel v1 v2 u1 u2:=⟨Nv,fun h=>kb2 h.2.1⟩;exact aA<|mE 4 rfl<|mY iU rfl<|mdT rfl (dV.2 Nv)<|mE 2 rfl<|mY iQ rfl<|mdF rfl kb2<|kQ rfl rfl<|kQ rfl rfl<|mE 2 rfl<|kQ rfl rfl<|kQ rfl rfl<|kQ rfl rfl<|kQ rfl rfl<|kQ rfl rfl<|kQ rfl rfl<|mW rfl<|mbT rfl rfl<|mE 2 rfl<|mT<|cT rfl<|au<|cDs 5<|pV rfl<|pV rfl<|.cons (aB.S 4 (.box 40 ([.row 2 (lg c) (cO K c)] ++tn X u1 ++tn X u2)) rfl rfl) (by kernel_rfl)<|.cons (aB.S 5 (.box 40 ([.row 2 (lg d) (cO K d)] ++tn X v1 ++tn X v2)) rfl rfl) (by kernel_rfl)<|.cons (aB.V _ rfl) (by kernel_rfl)<|.nil<|mT<|aH<|bR<|tR<|bR<|tR<|tR<|bR<|tR<|rQ rfl (by rw [hI.gt hf0 ka kb];exact AV.le.rfl)
   ·have kb:¬ bel v1 v2 u1 u2:=fun h=>Nv h.1
    refine aA<|mE 4 rfl<|mY iU rfl<|mbF rfl (aef (fun h=>Nv (dV.1 h)))<|mW rfl<|kQ rfl rfl<|kQ rfl rfl<|kQ rfl rfl<|mU rfl rfl<|mU rfl rfl<|kQ rfl rfl<|kQ rfl rfl<|mU rfl rfl<|mU rfl rfl<|mU rfl rfl<|mU rfl rfl<|mU rfl rfl<|mU rfl rfl<|kQ rfl rfl<|kQ rfl rfl<|mE 2 rfl<|mT<|cF rfl<|aF<|bN<|tN<|au<|cDk 12<|oE 4 rfl<|oC FN rfl<|oE 4 rfl<|oC FN rfl<|oC iU rfl<|.cons (aB.V (.d (.one (.v (.bool (decide (v2-v1≤u2-u1)))))) (bI (ahE.2 xG)))<|.nil<|mT<|aW rfl (fun hc5=>?_) (fun hc5=>?_)
    ·have h':=hI.go1 hf0 ka kb (abM hc5);have hT:=h'.da.tb (X:=X) (by omega);exact aA<|mW rfl<|mY (FK (X:=X) hI.oa hT.1 hT.2) rfl<|mZ rfl<|ak<|bN<|tN<|aA<|mE 2 rfl<|ak<|⟨((f-1),(hlf c u1 u2).1,(hlf c u1 u2).2,v1,v2),h',by show f-1 < f;omega,wkv [6] [] ⟨fQ rfl (aG ((dF (by have:=h'.fl;omega)).trans (by have:=hI.fl;omega))),Pe⟩ trivial rfl rfl⟩
    ·have h':=hI.go2 hf0 ka kb (abL hc5);have hT:=h'.db.tb (X:=X) (by omega);exact aA<|mW rfl<|mY (FK (X:=X) hI.ob hT.1 hT.2) rfl<|mZ rfl<|ak<|bN<|tN<|aA<|mE 2 rfl<|ak<|⟨((f-1),u1,u2,(hlf d v1 v2).1,(hlf d v1 v2).2),h',by show f-1 < f;omega,wkv [6] [] ⟨fQ rfl (aG ((dF (by have:=h'.fl;omega)).trans (by have:=hI.fl;omega))),Pe⟩ trivial rfl rfl⟩
 ·exact dP<|tE<|tE<|bE<|tN<|au<|cDs 5<|pV rfl<|pV rfl<|.cons (aB.S 4 (.box 40 ([.row 2 (lg c) (cO K c)] ++tn X u1 ++tn X u2)) rfl rfl) (by kernel_rfl)<|.cons (aB.S 5 (.box 40 ([.row 2 (lg d) (cO K d)] ++tn X v1 ++tn X v2)) rfl rfl) (by kernel_rfl)<|.cons (aB.V _ rfl) (by kernel_rfl)<|.nil<|mT<|aH<|rQ rfl (by rw [hI.end_ (by have h0:=of_decide_eq_false hc1;have:=hI.fl;omega)];exact AV.le.rfl)
theorem XU{K:Nat}{p:Rat}(hK:K≤1000000:=by omega):aC Tryz.prog 102 [.agg (tn K p)] (.d (.agg (tn K p))):=by
 refine aC.nH (fJ Tryz.func102 rfl rfl) (p:=Tb K p) (fun B w vs h=>match vs,h with | [_],⟨⟨cs,_,hl⟩,_⟩=>OB hl) (fun hb=>?_);have h:=MI (uS K p) (abJ _) (by omega);rw [jJ] at h;exact aC.le (dl DV.same iP) (oH (wQ hb)) h
theorem ajj{K:Nat}{x1 x2:Rat}(hK:K≤1000000):aC Tryz.prog 66 [.agg (tn K x1),.one (.row 4 1 (fun i' j'=>((tn K x2)[i'*4+j']?).getD (.v undef)))] (.d (.agg (tn K (if x1 < x2 then x2 else x1)))):=by
 refine aN 24 [.cell 4 38] Tryz.func66 rfl<|cR<|mO rfl<|mO rfl<|mT<|cR<|mW rfl<|mY XU rfl<|mO rfl<|mZ rfl<|mT<|au<|cR<|mE 3 rfl<|mT<|aI<|dU (ι:=Nat×Rat) (fun (p:Nat×Rat)=>match p with | (i,m)=>⟨24,[(4,.ptr 4 0),(5,.ptr 5 0),(10,.d (.one (.row 4 1 (fun i' j'=>((tn K x2)[i'*4+j']?).getD (.v undef))))),(11,dI 1),(12,dI (i:Int))],[(4,.box 38 ([.v (.bool false),.v (.slice none 0 0),.v (.bool false),.v (.slice none 0 0)])),(5,.box 38 (tn K m))]⟩) (fun (p:Nat×Rat)=>match p with | (i,m)=>i≤1∧(i=0→m=x1)∧(i=1→m=(if x1 < x2 then x2 else x1))) (fun (p:Nat×Rat)=>match p with | (i,m)=>1-i) (0,x1) (⟨abR _,fun _=>rfl,fun h=>absurd h (by omega)⟩) (wkr rfl rfl) ?_;rintro ⟨i,m⟩ hI;obtain ⟨hi,h0m,h1m⟩:i≤1∧(i=0→m=x1)∧(i=1→m=(if x1 < x2 then x2 else x1)):=hI;show AW _ _ _ ⟨_,_,_⟩
 refine cR<|mW rfl<|mT<|au<|aW rfl (fun hc1=>?_) (fun hc1=>?_)
 ·refine aF<|tN<|au<|aI<|au ?_;obtain rfl:i=0:=by have h0:=abM hc1;omega
  have hmx:=h0m rfl;subst hmx;refine aA<|mE 2 rfl<|mO rfl<|mZ rfl<|mT<|cR<|mE 2 rfl<|mY iU rfl<|mW rfl<|mT<|aW rfl (fun hc2=>?_) (fun hc2=>?_)
  ·exact aA<|mW rfl<|mY XU rfl<|mZ rfl<|ak<|bN<|tN<|aA<|mE 2 rfl<|ak<|⟨((0+1),x2),⟨by omega,fun h=>absurd h (by omega),fun _=>by rw [if_pos (by have h0:=of_decide_eq_true hc2;apply Rat.not_le.1;intro h2;have:=dV.2 h2;omega)]⟩,by show 1-(0+1) < 1-0;omega,wkv [4] [] ⟨fQ rfl (aG rfl),Pe⟩ trivial rfl rfl⟩
  ·exact aF<|bN<|tN<|aA<|mE 2 rfl<|ak<|⟨((0+1),m),⟨by omega,fun h=>absurd h (by omega),fun _=>by rw [if_neg (by have h0:=of_decide_eq_false hc2;intro h2;have:=abH h2;omega)]⟩,by show 1-(0+1) < 1-0;omega,wkv [4] [] ⟨fQ rfl (aG rfl),Pe⟩ trivial rfl rfl⟩
 ·exact dP<|tE<|tE<|bE<|tN<|cR<|mW rfl<|mZ rfl<|mT<|aH<|rQ rfl (by have hm:=h1m (by have h0:=abL hc1;omega);rw [hm];exact AV.le.rfl)
theorem Yy{c d:Nat→Int}{lo hi p q a b:Rat}(oa:tX c lo hi)(ob:tX d p q)(h1:¬ hi≤lo)(h2:¬ q≤p)(ha:a=if lo < p then p else lo)(hb:b=if q < hi then q else hi)(hn:¬ a < b):dG (bK c lo hi) (bK d p q)≠0:=fun h0=>by
 have e:=vO h0;have cl:bK c lo hi lo:=by rw [jS (by grind)];exact Or.inl (by grind)
 have cp:bK d p q p:=by rw [jS (by grind)];exact Or.inl (by grind)
 have ca:bK c lo hi a:=by rw [ha];split;exact (e _).2 cp;exact cl
 have cb:¬ bK c lo hi b:=by rw [hb];split;exact fun k=>ob.above (by grind) ((e _).1 k);exact oa.above (by grind)
 exact hn (oa.cut.nb ca cb)
theorem dlt{p q:Rat}:(vP p q < 0)↔p < q:=⟨fun h=>Rat.not_le.1 fun h2=>by have:=xG.2 h2;omega,fun h=>by have:=GN h;omega⟩
theorem H8{K L X KC N:Nat}{c d:Nat→Int}{lo hi x1 x2:Rat}(oa:vJ c lo hi)(ob:vJ d x1 x2)(hN:N≤10)(FU:lg c≤N)(hdN:lg d≤N)(nU:(21*K+3+1)*(2*3^N)≤KC:=by decide)(hC:KC≤90000000:=by decide)(hX:11*L+320*K+300≤X:=by decide)(hX1:X≤100000:=by decide):aC Tryz.prog 35 [.agg ([.row 2 (lg c) (cO K c)] ++tn L lo ++tn L hi),.agg ([.row 2 (lg d) (cO K d)] ++tn L x1 ++tn L x2)] (dI (dG (bK c lo hi) (bK d x1 x2))):=by
 have hlc:=dO c;have hld:=dO d;refine aC.nH (fJ Tryz.func35 rfl rfl) (p:=Lb K c∧Lb K d) (fun B w vs h=>match vs,h with | [_,_],⟨⟨cs,_,hl⟩,⟨ds,_,hk⟩,_⟩=>⟨(KH oa.ok.z hl).1,(KH ob.ok.z hk).1⟩) (fun hb=>?_);have hc2:=oa.l2;have hd2:=ob.l2;refine aN 72 [.tmp 4] Tryz.func35 rfl<|cR<|mO rfl<|mO rfl<|mW rfl<|mT<|au<|cDk 4<|oV rfl<|oC (RI oa.ok.z) rfl<|oV rfl<|oC (RI ob.ok.z) rfl<|.nil<|mZ rfl<|mZ rfl<|mT<|au<|aI<|cR<|mW rfl<|mY iQ rfl<|mW rfl<|mT<|aW rfl (fun hc1=>?_) (fun hc1=>?_)
 ·refine au ?_;have hbd:=oz (bK d x1 x2) (fO lo);exact aA<|mE 3 rfl<|mY (L6 ob.ok) rfl<|mV aj (dI (-(dG (bK d x1 x2) (fO lo)))) (fM ((eu (by omega) (by omega)).trans (by omega)))<|mW rfl<|mT<|aH<|bR<|tR<|rQ rfl (aG (by rw [kZ (c:=c) (of_decide_eq_true hc1)];exact (je ob.ok.cut (lQ lo)).symm))
 ·refine cR<|mW rfl<|mY iQ rfl<|mW rfl<|mT<|aW rfl (fun hc2=>?_) (fun hc2=>?_)
  ·exact cR<|mE 3 rfl<|mY (L6 oa.ok) rfl<|mW rfl<|mT<|aH<|bR<|tR<|rQ rfl (aG (by rw [kZ (c:=d) (of_decide_eq_true hc2)]))
  ·refine aF<|bN<|tN<|au ?_;have hP:=abL hc1;have hQ:=abL hc2;refine cDs 12<|pV rfl<|pV rfl<|pV rfl<|pV rfl<|.cons (aB.B _ rfl) (by kernel_rfl)<|pC (ajj (by omega)) rfl<|pV rfl<|pV rfl<|.cons (aB.N (.box 38 ([.v (.bool false),.v (.slice none 0 0),.v (.bool false),.v (.slice none 0 0)])) rfl 5 rfl rfl) (by kernel_rfl)<|.cons (aB.N (.box 38 ([.v (.bool false),.v (.slice none 0 0),.v (.bool false),.v (.slice none 0 0)])) rfl 6 rfl rfl) (by kernel_rfl)<|.cons (aB.S 5 (.box 38 (tn L (if lo < x1 then x1 else lo))) rfl rfl) (by kernel_rfl)<|.cons (aB.S 6 (.box 38 (tn L hi)) rfl rfl) (by kernel_rfl)<|.nil<|mT<|au<|cR<|mE 3 rfl<|mY iU rfl<|mV aj (.d (.one (.v (.bool (decide (x2 < hi)))))) (bI (ahE.2 dlt))<|mT<|aW rfl (fun hc3=>?_) (fun hc3=>?_)
   ·refine aA<|mE 2 rfl<|mZ rfl<|mT<|au<|au ?_;have hbb:x2=if x2 < hi then x2 else hi:=(if_pos (abM hc3)).symm
    refine aA<|mE 2 rfl<|mY iU rfl<|mV aj (.d (.one (.v (.bool (decide ((if lo < x1 then x1 else lo) < x2)))))) (bI (ahE.2 dlt))<|mT<|aW rfl (fun hc4=>?_) (fun hc4=>?_)
    ·refine cR<|mE 4 rfl<|mB aj (.d (.one (.row 1 2 (fun i' j'=>(([.row 2 (lg c) (cO K c),.row 2 (lg d) (cO K d)])[i'*1+j']?).getD (.v undef))))) rfl<|mY (aeB (KC:=KC) (N:=N) oa.ok.z ob.ok.z (by omega) (by omega) hN FU hdN hb.1 hb.2 nU hC) rfl<|mW rfl<|mT<|au<|cEx (Qx:=(oq c d (21*K+3))) (L:=(fun g=>iC (21*K+3) (lg g) g)) 7 rfl (fun g hg=>?_);have hlg:=dO g;have hg0:=(hg.le oa.ok.z (by have:=oa.l2;omega)).1
     by_cases hl2:2≤lg g
     ·refine aA<|mW rfl<|mY J3 rfl<|mdT rfl (by omega)<|mE 4 rfl<|mY (ajg hg.z) rfl<|mW rfl<|mT<|aW rfl (fun hc5=>?_) (fun hc5=>?_)
      ·exact cR<|mW rfl<|mT<|aH<|tR<|rQ rfl (aG ((Ae oa.ok ob.ok hP hQ hg hg0 rfl hbb).1 (abM hc4) hl2 hc5).symm)
      ·exact aF<|tN<|cR<|mE 2 rfl<|mY (Ez (X:=X) oa.ok ob.ok hX hX1) rfl<|mE 4 rfl<|mO rfl<|mO rfl<|mZ rfl<|mZ rfl<|mW rfl<|mT<|cR<|mE 2 rfl<|mT<|aH<|rQ rfl (aG (Aa oa ob ((Ae oa.ok ob.ok hP hQ hg hg0 rfl hbb).2 (fun _ _=>hc5))).sg)
     ·exact aA<|mW rfl<|mY J3 rfl<|mdF rfl (by omega)<|mW rfl<|mG rfl rfl<|mG rfl rfl<|mG rfl rfl<|mG rfl rfl<|mW rfl<|mT<|cFs rfl<|cR<|mE 2 rfl<|mY (Ez (X:=X) oa.ok ob.ok hX hX1) rfl<|mE 4 rfl<|mO rfl<|mO rfl<|mZ rfl<|mZ rfl<|mW rfl<|mT<|cR<|mE 2 rfl<|mT<|aH<|rQ rfl (aG (Aa oa ob ((Ae oa.ok ob.ok hP hQ hg hg0 rfl hbb).2 (fun _ h=>absurd h hl2))).sg)
    ·exact aF<|tN<|cR<|mE 2 rfl<|mY (Ez (X:=X) oa.ok ob.ok hX hX1) rfl<|mE 4 rfl<|mO rfl<|mO rfl<|mZ rfl<|mZ rfl<|mW rfl<|mT<|cR<|mE 2 rfl<|mT<|aH<|rQ rfl (aG (Aa oa ob (Yy oa.ok ob.ok hP hQ rfl hbb (abL hc4))).sg)
   ·refine aF<|tN<|au<|au ?_;have hbb:hi=if x2 < hi then x2 else hi:=(if_neg (abL hc3)).symm
    refine aA<|mE 2 rfl<|mY iU rfl<|mV aj (.d (.one (.v (.bool (decide ((if lo < x1 then x1 else lo) < hi)))))) (bI (ahE.2 dlt))<|mT<|aW rfl (fun hc6=>?_) (fun hc6=>?_)
    ·refine cR<|mE 4 rfl<|mB aj (.d (.one (.row 1 2 (fun i' j'=>(([.row 2 (lg c) (cO K c),.row 2 (lg d) (cO K d)])[i'*1+j']?).getD (.v undef))))) rfl<|mY (aeB (KC:=KC) (N:=N) oa.ok.z ob.ok.z (by omega) (by omega) hN FU hdN hb.1 hb.2 nU hC) rfl<|mW rfl<|mT<|au<|cEx (Qx:=(oq c d (21*K+3))) (L:=(fun g=>iC (21*K+3) (lg g) g)) 7 rfl (fun g hg=>?_);have hlg:=dO g;have hg0:=(hg.le oa.ok.z (by have:=oa.l2;omega)).1
     by_cases hl2:2≤lg g
     ·refine aA<|mW rfl<|mY J3 rfl<|mdT rfl (by omega)<|mE 4 rfl<|mY (ajg hg.z) rfl<|mW rfl<|mT<|aW rfl (fun hc7=>?_) (fun hc7=>?_)
      ·exact cR<|mW rfl<|mT<|aH<|tR<|rQ rfl (aG ((Ae oa.ok ob.ok hP hQ hg hg0 rfl hbb).1 (abM hc6) hl2 hc7).symm)
      ·exact aF<|tN<|cR<|mE 2 rfl<|mY (Ez (X:=X) oa.ok ob.ok hX hX1) rfl<|mE 4 rfl<|mO rfl<|mO rfl<|mZ rfl<|mZ rfl<|mW rfl<|mT<|cR<|mE 2 rfl<|mT<|aH<|rQ rfl (aG (Aa oa ob ((Ae oa.ok ob.ok hP hQ hg hg0 rfl hbb).2 (fun _ _=>hc7))).sg)
     ·exact aA<|mW rfl<|mY J3 rfl<|mdF rfl (by omega)<|mW rfl<|mG rfl rfl<|mG rfl rfl<|mG rfl rfl<|mG rfl rfl<|mW rfl<|mT<|cFs rfl<|cR<|mE 2 rfl<|mY (Ez (X:=X) oa.ok ob.ok hX hX1) rfl<|mE 4 rfl<|mO rfl<|mO rfl<|mZ rfl<|mZ rfl<|mW rfl<|mT<|cR<|mE 2 rfl<|mT<|aH<|rQ rfl (aG (Aa oa ob ((Ae oa.ok ob.ok hP hQ hg hg0 rfl hbb).2 (fun _ h=>absurd h hl2))).sg)
    ·exact aF<|tN<|cR<|mE 2 rfl<|mY (Ez (X:=X) oa.ok ob.ok hX hX1) rfl<|mE 4 rfl<|mO rfl<|mO rfl<|mZ rfl<|mZ rfl<|mW rfl<|mT<|cR<|mE 2 rfl<|mT<|aH<|rQ rfl (aG (Aa oa ob (Yy oa.ok ob.ok hP hQ rfl hbb (abL hc6))).sg)
/-! ### The greatest root -/
theorem acN{r rg:Fn}{rl:List Fn}{lo hi:Rat}(hs:JZ r rg rl)(pr:Po r)(hlt:lo < hi)(hn:¬ jP r lo hi):eG (jT r lo hi):=by
 have mem:∀ q,lo≤q→q < hi→(jT r lo hi q↔¬ jP r q hi):=fun q h1 h2=>by
  constructor
  ·rintro (k | ⟨_,k⟩)
   ·have e:q=lo:=by grind
    rw [e];exact hn
   ·exact k
  ·intro k;exact Or.inr ⟨h2,k⟩
 refine ⟨fun q t ht hqt=>?_,fun q hq=>?_,⟨lo,Or.inl (by grind)⟩,⟨hi,jD hlt (by grind)⟩⟩
 ·by_cases hq:q≤lo
  ·exact Or.inl hq
  ·have hth:t < hi:=by rcases ht with k | ⟨k,_⟩ <;> grind
   rw [mem q (by grind) (by grind)];rw [mem t (by grind) hth] at ht;rintro ⟨s,h1,h2⟩;exact ht ⟨s,h1,fun u a b=>h2 u (by grind) b⟩
 ·by_cases hq1:q < lo
  ·exact ⟨lo,hq1,Or.inl (by grind)⟩
  ·have Zz:q < hi:=by rcases hq with k | ⟨k,_⟩ <;> grind
   rw [mem q (by grind) Zz] at hq;obtain ⟨h0,e,he,hne⟩:=CQ hs pr q;obtain ⟨z,hz,hz1,hz2⟩:=kJ he (show 0 < hi-q by grind);refine ⟨q+z / 2,by grind,?_⟩;rw [mem _ (by grind) (by grind)];intro hf;obtain ⟨M,hM⟩:=qU hs (a:=q) (b:=q+z / 2) (by grind);have hM0:M=0:=hM.nil.2 fun t h1 h2=>hne t h1 (by grind)
   subst hM0;obtain ⟨M2,hM2⟩:=qU hs (a:=q+z / 2) (b:=hi) (by grind);have c2:oP r (q+z / 2) hi M2:=⟨rg,rl,hs,hM2⟩;have:=(c2.free pr (by grind)).2 hf;subst this;have c3:=oP.cat pr (show q≤q+z / 2 by grind) (by grind) ⟨rg,rl,hs,hM⟩ c2;exact hq ((c3.free pr (by grind)).1 rfl)
theorem acO{r rg:Fn}{rl:List Fn}{lo hi:Rat}(hs:JZ r rg rl)(pr:Po r)(hlt:lo < hi)(hn:¬ jP r lo hi):VC r (jT r lo hi):=by
 intro e he q s hq hsn;have hC:=acN hs pr hlt hn;obtain ⟨q',r',h1,h2,h3,h4,hq',hr'⟩:=Yr (C:=jT r lo hi) (lo:=lo) (hi:=hi) (Or.inl (by grind)) (jD hlt (by grind)) hq hsn;have hqr:=hC.nb hq' hr';have nq:¬ jP r q' hi:=by
  rcases hq' with k | ⟨_,k⟩
  ·have e:q'=lo:=by grind
   rw [e];exact hn
  ·exact k
 obtain ⟨N,hN⟩:=qU hs (a:=q') (b:=hi) (by grind);have cN:oP r q' hi N:=⟨rg,rl,hs,hN⟩;obtain ⟨K,M,k1,k2,ee⟩:=cN.split (m:=r') (by grind) h2;have hM0:M=0:=by
  by_cases hh:r' < hi
  ·have:jP r r' hi:=abP fun k=>hr' (Or.inr ⟨hh,k⟩)
   exact (k2.free pr (by grind)).2 this
  ·have e:r'=hi:=by grind
   rw [e] at k2;exact (k2.free pr (by grind)).2 (by
    obtain ⟨h0,_⟩:=CQ hs pr hi;exact ⟨yC r rg hi,h0,fun t a b=>absurd b (by grind)⟩)
 have hK:K≠0:=fun hK=>nq ((cN.free pr (by grind)).1 (by omega))
 obtain ⟨x,x1,x2,x3⟩:=Dn pr (by grind) k1 hK he;exact ⟨x,by grind,by grind,x3⟩
/-- By the greatest common divisor. -/
theorem QG{c p g:Nat→Int}{M:Nat}{lo hi:Rat}(o:vJ c lo hi)(hl:¬ hi≤lo)(zp:bC p)(hg:oq p c M g)(hg0:lg g≠0):(2≤lg g→II g lo hi=true→Rl (FF p) (bK c lo hi)=0)∧((2≤lg g→II g lo hi=false)→¬ VC (FF p) (bK c lo hi)):=by
 have oi:=o.ok.i' hl;obtain ⟨w1,VB,f1⟩:=hg.IV.da;obtain ⟨w2,Xy,f2⟩:=hg.IV.db;obtain ⟨u,v,pu,pv,huv⟩:=hg.IV.cm;have f1':∀ x,FF p x=FF g x*w1 x:=fun x=>by rw [f1 x];grind
 have f2':∀ x,FF c x=FF g x*w2 x:=fun x=>by rw [f2 x];grind
 have hlt:=oi.lt;rw [jS hlt];refine ⟨fun h2 hh=>zN (Xg oi (dh hg.z) Xy VB f2' f1' ((zh oi hg.z Xy f2' h2 (by grind) (by grind) hlt).1 hh)),fun hh hv=>?_⟩;have fr:jP (FF g) lo hi:=by
  by_cases h2:2≤lg g
  ·apply abP
   intro hn;have:=(zh oi hg.z Xy f2' h2 (by grind) (by grind) hlt).2 hn;rw [hh h2] at this;exact absurd this Bool.noConfusion
  ·exact F6 hg.z (by omega) lo hi
 obtain ⟨s,hs⟩:=QF oi (dh hg.z) Xy VB pu pv f2' f1' huv fr;exact hs.Vp hv
theorem ad3{y:Nat→Int}(zy:bC y)(h:lg y=0){C:qO}(hC:eG C):Rl (FF y) C=0:=zN fun e he q r hq hr=>by
 have h1:=(oh zy).1 h;have h2:=hC.nb hq hr;exact ⟨q,by grind,by grind,by rw [h1 q];exact jR (by grind)⟩
theorem ab3{K L M:Nat}{c:Nat→Int}{lo hi:Rat}(hz:bC c)(hK:K≤10000000)(hL:L≤1000000)(hM:M≤1000000):aC Tryz.prog 91 [.agg ([.row 2 (lg c) (cO K c)] ++tn L lo ++tn M hi)] (.d (.agg ([.row 2 (lg c) (cO K c)] ++tn L lo ++tn M hi))):=by
 exact aN 5 [.cell 2 40] Tryz.func91 rfl<|cR<|mO rfl<|mO rfl<|mT<|cR<|mW rfl<|mY (RI hz) rfl<|mZ rfl<|mT<|aH<|rQ rfl (AV.le.rfl)
/-- den t - num: the polynomial of a rational. -/
def kW(t:Rat):Nat→Int:=wW (-t.num) (t.den:Int)
theorem zB(t:Rat):∀ i,2≤i→kW t i=0:=fun i hi=>by unfold kW wW;rw [if_neg (by omega),if_neg (by omega)]
theorem sS(t:Rat):bC (kW t):= .of (zB t) (by decide)
theorem oL(t:Rat):lg (kW t)=2:=by
 rw [← lq (zB t) (sS t)];have h:kW t 1≠0:=by show (t.den:Int)≠0;have:=t.den_pos;omega
 exact uw (Or.inr h)
theorem afo(t x:Rat):FF (kW t) x=(t.den:Rat)*x-(t.num:Rat):=by
 rw [← oU (sS t) (zB t)];show (0+((-t.num:Int):Rat)*x^0)+((t.den:Int):Rat)*x^1=_
 rw [Rat.pow_zero,aia,Rat.intCast_neg];have e:((t.den:Int):Rat)=(t.den:Rat):=rfl;rw [e];grind
theorem Qj(t:Rat):FF (kW t) t=0:=by
 rw [afo];have:=rJ t;grind
theorem den_nz(t:Rat):(t.den:Rat)≠0:=by exact_mod_cast t.den_nz
theorem ahF(t x:Rat):FF (bP (kW t)) x=(t.den:Rat):=by
 have hz:∀ i,1≤i→bP (kW t) i=0:=fun i hi=>by unfold bP;rw [zB t (i+1) (by omega)];simp
 rw [← oU (fA (sS t)) hz];show 0+((bP (kW t) 0:Int):Rat)*x^0=_
 have e:bP (kW t) 0=(t.den:Int):=by show kW t 1*((0+1:Nat):Int)=_;have:kW t 1=(t.den:Int):=rfl;rw [this];omega
 rw [e,Rat.pow_zero];have e2:((t.den:Int):Rat)=(t.den:Rat):=rfl;rw [e2];grind
theorem aae(t:Rat):AB (FF (kW t)) (FF (bP (kW t))):=⟨dh (sS t),dh (fA (sS t)),qH (sS t),fun _=>0,fun _=>1 / (t.den:Rat),bZ _,bZ _,fun x=>by rw [ahF];have:=den_nz t;grind⟩
theorem aeu{f:Fn}{t:Rat}(h:f t=0):VC f (fO t):=fun e he q r hq hr=>⟨t,by unfold fO at hq;grind,by unfold fO at hr;grind,by rw [h];exact jR (by grind)⟩
theorem alv{c:Nat→Int}(z:bC c)(sq:AB (FF c) (FF (bP c)))(l2:2≤lg c){t:Rat}(h:FF c t=0):vJ c t t:=⟨aaA z t,sq,l2,by rw [kZ (by grind)];exact aeu h⟩
theorem aaB(t:Rat):vJ (kW t) t t:=alv (sS t) (aae t) (by rw [oL];exact abJ 2) (Qj t)
theorem adH{c d:Nat→Int}{h1 h2 E:Nat}{lo hi p q:Rat}(b1:∀ i,(c i).natAbs≤2^h1)(b2:∀ i,(d i).natAbs≤2^h2)(hE:E=mQ (lg c) (lg d) h1 h2)(oa:vJ c lo hi)(ob:vJ d p q)(hne:dG (bK c lo hi) (bK d p q)≠0)(o1:p≤hi)(o2:lo≤q)(u1:(hi-lo)*t2 (E+2)≤1)(u2:(q-p)*t2 (E+2)≤1):False:=by
 have hC:=oa.ok.cut;have hD:=ob.ok.cut;rw [jK] at u1 u2;have e4:t2 2=4:=rfl;rw [e4] at u1 u2;have hp:=iK E;obtain ⟨θ,hθ⟩:∃ θ,θ=1 / (2*t2 E):=⟨_,rfl⟩
 have hθ1:θ*t2 E=1 / 2:=by rw [hθ];grind
 have hθ0:0 < θ:=by
  apply abP;intro hn;have:=abS (show θ≤0 by grind) (show 0≤t2 E by grind);grind
 obtain ⟨a,ha⟩:∃ a,a=(if lo≤p then lo else p)-θ:=⟨_,rfl⟩
 obtain ⟨b,hb⟩:∃ b,b=if hi≤q then q else hi:=⟨_,rfl⟩
 have hlo:a < lo∧a < p:=by rw [ha];split <;> constructor <;> grind
 have hhi:hi≤b∧q≤b:=by rw [hb];split <;> constructor <;> grind
 have hle1:=oa.ok.le;have hle2:=ob.ok.le;have ahr:b-a≤(hi-lo)+(q-p)+θ:=by rw [ha,hb];split <;> split <;> grind
 have hfin:(b-a)*t2 E≤1:=by
  have:=abS ahr (show 0≤t2 E by grind);grind
 have hq:∃ t,(bK d p q t∧¬ bK c lo hi t)∨(bK c lo hi t∧¬ bK d p q t):=by
  apply abP;intro hn;refine hne (kN fun t=>⟨fun h=>?_,fun h=>?_⟩)
  ·apply abP;intro k;exact hn ⟨t,Or.inr ⟨h,k⟩⟩
  ·apply abP;intro k;exact hn ⟨t,Or.inl ⟨h,k⟩⟩
 obtain ⟨t,ht⟩:=hq;exact sep oa.ok.z ob.ok.z oa.sq ob.sq oa.l2 ob.l2 b1 b2 hC hD oa.vc ob.vc ht (oa.ok.below hlo.1) (oa.ok.above hhi.1) (ob.ok.below hlo.2) (ob.ok.above hhi.2) (hE▸hfin)
theorem Zo{c:Nat→Int}{lo hi t:Rat}{i:Nat}(h:tX c lo hi)(ht:0 < t)(k:(hi-lo)*t≤t2 i):((hlf c lo hi).2-(hlf c lo hi).1)*t≤t2 (i-1):=by
 cases i with
 | succ i=>exact Zn h ht k
 | zero=>
  have nr:=(uF h).1;have h1:=nr.lo;have h2:=nr.hi;have:=abS (show (hlf c lo hi).2-(hlf c lo hi).1≤hi-lo by grind) (show 0≤t by grind);show _≤t2 0
  grind
theorem ahG(t:Rat):bF (kW t) 2=1:=by
 show Nat.gcd (Nat.gcd 0 (kW t 0).natAbs) (kW t 1).natAbs=1
 have e0:kW t 0= -t.num:=rfl;have e1:kW t 1=(t.den:Int):=rfl;rw [e0,e1,Nat.gcd_zero_left,Int.natAbs_neg,Int.natAbs_natCast];exact t.reduced
/-
 ALGEBRAIC NUMBERS, by the machine (8): Rational.
-/
abbrev AT:=(Nat→Int)×Rat×Rat
def ga(As:List AT)(i:Nat):AT:=As.getD i (fun _=>0,0,0)
def ac(As:List AT)(i:Nat):Nat→Int:=(ga As i).1
def al(As:List AT)(i:Nat):Rat:=(ga As i).2.1
def ah(As:List AT)(i:Nat):Rat:=(ga As i).2.2
def acu(As:List AT)(i:Nat):qO:=bK (ac As i) (al As i) (ah As i)
def elg(K L:Nat)(As:List AT):Nat→Nat→Lf:=fun i j=>((nO K (ac As i) L (al As i) L (ah As i))[j]?).getD (.v undef)
/-- The first of the least of i + 1. -/
noncomputable def Cj(As:List AT):Nat→Nat
 | 0=>0
 | i+1=>if dG (acu As (i+1)) (acu As (Cj As i)) < 0 then i+1 else Cj As i
theorem aah(As:List AT):∀ i,Cj As i≤i
 | 0=>abJ _
 | i+1=>by unfold Cj;split;exact abJ _;exact Nat.le_succ_of_le (aah As i)
theorem ahJ{As:List AT}{i:Nat}(h:dG (acu As (1+i)) (acu As (Cj As i)) < 0):1+i=Cj As (i+1):=by rw [Nat.add_comm 1 i] at *;exact (if_pos h).symm
theorem ahI{As:List AT}{i:Nat}(h:¬ dG (acu As (1+i)) (acu As (Cj As i)) < 0):Cj As i=Cj As (i+1):=by rw [Nat.add_comm 1 i] at *;exact (if_neg h).symm
theorem slL{T:TypeId→Option TI}{s:AS}{t e:TypeId}{ti te:TI}{x:Operand}{k:IntKind}{z:Int}{sz n:Nat}{el:Nat→Nat→Lf}{lo:Operand}(h1:T t=some ti)(h2:ti.elem=some e)(h3:T e=some te)(h4:kD s lo=some (k,z))(h5:dH s x=some (.d (.one (.row sz n el))))(h6:Nat.beq sz te.n=true)(hz:0≤z)(hz2:z≤(n:Int)):jr T s (.slice t x (some lo) none none)=some (.d (.one (.row sz (n-z.toNat) fun i j=>el (z.toNat+i) j))):=by
 have h6':=abO h6;simp only [jr,h1,h2,h3,h5,qx,h4,if_pos hz];rw [if_pos ⟨h6',by omega,Nat.le_refl _⟩];rfl
theorem aeQ{K L i j:Nat}{As:List AT}{t:TypeId}(h:i=j):AO.le (.box t (nO K (ac As i) L (al As i) L (ah As i))) (.box t (nO K (ac As j) L (al As j) L (ah As j))):=by subst h;exact fun _ _ _ _ h=>h
theorem ajU{As:List AT}{n:Nat}(h:∀ i,i < n→vJ (ac As i) (al As i) (ah As i))(hn:As.length≤n)(i:Nat):bC (ac As i):=by
 by_cases hi:i < n
 ·exact (h i hi).ok.z
 ·have e:ga As i=(fun _=>0,0,0):=by unfold ga;rw [List.getD_eq_getElem?_getD,List.getElem?_eq_none (by omega)];rfl
  unfold ac;rw [e];exact lY
theorem agb{K L X KC N n:Nat}{As:List AT}(hn:n=As.length)(hn0:n≠0)(hn1:n≤1000)(hok:∀ i,i < n→vJ (ac As i) (al As i) (ah As i))(FU:∀ i,i < n→lg (ac As i)≤N)(hN:N≤10)(nU:(21*K+3+1)*(2*3^N)≤KC)(hC:KC≤90000000)(hX:11*L+320*K+300≤X)(hX1:X≤100000):aC Tryz.prog 56 [.one (.row 9 n (elg K L As))] (.ji [.agg ([.row 2 (lg (ac As (Cj As (n-1)))) (cO K (ac As (Cj As (n-1))))] ++tn L (al As (Cj As (n-1))) ++tn L (ah As (Cj As (n-1)))),.one (.v (.bool true))]):=by
 have hz:=ajU hok (by omega);refine aN 29 [.cell 2 40,.tmp 3] Tryz.func56 rfl<|cR<|mO rfl<|mW rfl<|mT<|au<|cR<|mE 2 rfl<|mbF rfl (abX.2 (by omega))<|mT<|cFs rfl<|cR<|mW rfl<|mV aj (.d (.one (.at 9 ((elg K L As) 0)))) (jZ (el:=(elg K L As)) (z:=0) (n:=n) rfl rfl rfl rfl rfl rfl (by omega) (by omega)) ?_;refine mW rfl<|mO rfl<|mZ rfl<|mT<|au<|cR<|mW rfl<|mV aj (.d (.one (.row 9 (n-1) (fun i j=>elg K L As (1+i) j)))) (slL (z:=1) (n:=n) rfl rfl rfl rfl rfl rfl (by omega) (by omega))<|mE 2 rfl<|mT<|aI<|dU (ι:=Nat) (fun (i:Nat)=>⟨29,[(2,.ptr 2 0),(3,.d (.one (.v (.bool false)))),(4,.ptr 4 0),(15,.d (.one (.row 9 (n-1) (fun i j=>elg K L As (1+i) j)))),(16,dI ((n-1:Nat):Int)),(17,dI (i:Int))],[(2,.box 40 ([.v (.slice none 0 0),.v (.bool false),.v (.slice none 0 0),.v (.bool false),.v (.slice none 0 0),.v (.bool false),.v (.slice none 0 0),.v (.bool false),.v (.slice none 0 0)])),(4,.box 40 ([.row 2 (lg (ac As (Cj As i))) (cO K (ac As (Cj As i)))] ++tn L (al As (Cj As i)) ++tn L (ah As (Cj As i))))]⟩) (fun (i:Nat)=>i≤n-1) (fun (i:Nat)=>n-1-i) 0 (abR _) (wkv [5] [] ⟨fQ rfl (aG rfl),Pe⟩ trivial rfl rfl) ?_;rintro i hI;have hi:i≤n-1:=hI;show AW _ _ _ ⟨_,_,_⟩
 refine cR<|mW rfl<|mT<|au<|aW rfl (fun hc1=>?_) (fun hc1=>?_)
 ·refine aF<|tN<|au<|aI<|au ?_;have hin:i < n-1:=by have h0:=abM hc1;omega
  have hle:=aah As i;refine aA<|mV aj (.d (.one (.at 9 ((fun i j=>elg K L As (1+i) j) i)))) (jZ (el:=(fun i j=>elg K L As (1+i) j)) (z:=(i:Int)) (n:=(n-1)) rfl rfl rfl rfl rfl rfl (by omega) (by omega)) ?_;refine mW rfl<|mO rfl<|mZ rfl<|mT<|cR<|mE 2 rfl<|mY (H8 (X:=X) (KC:=KC) (N:=N) (hok (1+i) (by omega)) (hok (Cj As i) (by omega)) hN (FU (1+i) (by omega)) (FU (Cj As i) (by omega)) nU hC hX hX1) rfl<|mW rfl<|mT<|aW rfl (fun hc2=>?_) (fun hc2=>?_)
  ·exact aA<|mW rfl<|mZ rfl<|ak<|bN<|tN<|aA<|mE 2 rfl<|ak<|⟨(i+1),by omega,by omega,wkv [5] [1] ⟨fQ rfl (aG (dF (by omega))),Pe⟩ ⟨dX rfl (aeQ (ahJ (abM hc2))),Pe⟩ rfl rfl⟩
  ·exact aF<|bN<|tN<|aA<|mE 2 rfl<|ak<|⟨(i+1),by omega,by omega,wkv [5] [1] ⟨fQ rfl (aG (dF (by omega))),Pe⟩ ⟨dX rfl (aeQ (ahI (abL hc2))),Pe⟩ rfl rfl⟩
 ·exact dP<|tE<|tE<|bE<|tN<|cR<|mW rfl<|mY (ab3 (hz (Cj As i)) (by omega) (by omega) (by omega)) rfl<|mZ rfl<|mW rfl<|mT<|aH<|rQ rfl (by have h0:=abL hc1;obtain rfl:i=n-1:=by {omega};exact AV.le.rfl)
def MQ(c:Nat→Rat):Nat→Rat:=fun i=>c (i+1)*(((i+1:Nat):Int):Rat)
theorem adT(a:Nat→Int)(j:Nat):MQ (rc a) j=rc (bP a) j:=by
 show ((a (j+1):Int):Rat)*(((j+1:Nat):Int):Rat)=((bP a j:Int):Rat)
 rw [← Rat.intCast_mul];congr 1
def adJ(c:Nat→Rat):Nat→Int:=fun i=>(c i).num
theorem X4{a:Lf}{K M n:Nat}{c:Nat→Rat}(ha:F9 a K n c)(hM:max (K+65) 64≤M:=by first|decide|omega)(hn:n≤1000000:=by first|decide|omega)(wU:M≤10000000:=by first|decide|omega):aC Tryz.prog 77 [.one a] (.d (.one (dM M (dg (gG c ((-1:Int):Rat)) n) (gG c ((-1:Int):Rat))))):=by
 obtain ⟨ha,za⟩:=ha;exact aC.le (dl (DV.l ha) iP) AV.le.rfl<|aN 6 [.tmp 2] Tryz.func77 rfl<|cR<|mW rfl<|mT<|cR<|mW rfl<|mY Ie rfl<|mY (Gz (yE (K:=K) (c:=c) za) (l7 64 (((-1):Int):Rat)) (M:=(max ((K+64)+1) 64))) rfl<|mW rfl<|mT<|aH<|rQ rfl (oK (by omega) rfl (fun _ _=>rfl))
theorem ajw{a b:Lf}{K L M n m:Nat}{c d:Nat→Rat}(ha:F9 a K n c)(hb:F9 b L m d)(hM:max K 64+max (L+65) 64+1≤M:=by first|decide|omega)(hn:max n m≤1000000:=by first|decide|omega)(wU:M≤10000000:=by first|decide|omega):aC Tryz.prog 145 [.one a,.one b] (.d (.one (dM M (dg (mJ c (gG d ((-1:Int):Rat))) (max n m)) (mJ c (gG d ((-1:Int):Rat)))))):=by
 obtain ⟨ha,za⟩:=ha;obtain ⟨hb,zb⟩:=hb;refine aC.le (dl (DV.l ha) (dl (DV.l hb) iP)) AV.le.rfl ?_;have hdl:=rW (gG d ((-1:Int):Rat)) m;exact aN 9 [.tmp 4] Tryz.func145 rfl<|cR<|mW rfl<|mT<|cR<|mE 2 rfl<|mY (X4 (yE (K:=L) (c:=d) zb) (M:=(max (L+65) 64))) rfl<|mY (ajs (yE (K:=K) (c:=c) za) (yE (K:=(max (L+65) 64)) (c:=(gG d ((-1:Int):Rat))) (nX (Dw zb))) (M:=(max (((max K 64)+(max (max (L+65) 64) 64))+1) 64))) rfl<|mW rfl<|mT<|aH<|rQ rfl (oK (by omega) (PD (U2 za (nX (Dw zb))) (U2 za (Dw zb))) (fun _ _=>rfl))
theorem aeL{a:Lf}{K M n:Nat}{c:Nat→Rat}(ha:F9 a K n c)(hM:max (K+65) 64≤M:=by first|decide|omega)(hn:n≤1000000:=by first|decide|omega)(wU:M≤10000000:=by first|decide|omega):aC Tryz.prog 76 [.one a] (.d (.one (dM M (dg (MQ c) (n-1)) (MQ c)))):=by
 obtain ⟨ha,za⟩:=ha;refine aC.le (dl (DV.l ha) iP) AV.le.rfl<|aN 23 [.tmp 2] Tryz.func76 rfl<|cR<|mW rfl<|mT<|cR<|mW rfl<|mT<|au<|au<|AW.wk (qV 3 3 49 4 (fun _ _=> .v undef) rfl rfl)<|aA<|mW rfl<|mT<|aI<|dU (ι:=Nat) (fun (i:Nat)=>⟨23,[(0,.d (.one (.row 4 n (aJ K c)))),(4,dI ((i+1:Nat):Int)),(3,.own 3)],[(3,.row 49 4 i (aJ M (MQ c)))]⟩) (fun (i:Nat)=>i≤n-1) (fun (i:Nat)=>n-1-i) 0 (abR _) (wkv [1] [0] ⟨fQ rfl (aG rfl),Pe⟩ ⟨dX rfl (iY),Pe⟩ rfl rfl) ?_;rintro i hI;have hi:i≤n-1:=hI;show AW _ _ _ ⟨_,_,_⟩
 refine au<|cR<|mE 4 rfl<|mT<|aW rfl (fun hc1=>?_) (fun hc1=>?_)
 ·refine aF<|tN<|au<|aI ?_;have hin:i+1 < n:=by have h0:=abM hc1;omega
  refine cDk 9<|.cons (aB.V _ rfl)<|.cons (aB.V _ rfl)<|.cons (aB.V _ rfl)<|.cons (aB.V (.d (.one (.at 4 ((aJ K c) (i+1))))) (jZ (el:=(aJ K c)) (z:=((i+1:Nat):Int)) (n:=n) rfl rfl rfl rfl rfl rfl (by omega) (by omega))) ?_;exact oV rfl<|.cons (aB.V _ rfl)<|oC Ie rfl<|oC (MB (l7 K (c (i+1))) (l7 64 ((((i+1:Nat):Int):Int):Rat)) (M:=(max (K+64+1) 64))) rfl<|.cons (aB.B _ rfl)<|.nil<|mA aj (id:=3) (n:=i) (m:=1) (el:=(aJ M (MQ c))) (el2:=(fun i' j'=>((qn (max (K+64+1) 64) ((c (i+1))*((((i+1:Nat):Int):Int):Rat)))[i'*4+j']?).getD (.v undef))) rfl rfl rfl (by show (i+1)*64≤140737488355328;omega) (by omega) rfl rfl rfl rfl rfl rfl rfl rfl rfl rfl<|mW rfl<|ak<|bN<|tN<|aA<|mE 3 rfl<|ak<|⟨(i+1),by omega,by omega,wkv [1] [0] ⟨fQ rfl (aG (dF (by omega))),Pe⟩ ⟨dX rfl (CU rfl (abJ _) (by omega) rfl (fun _ _=>rfl)),Pe⟩ rfl rfl⟩
 ·refine dP<|tE<|tE<|bE<|tN<|au ?_;have hie:n-1=i:=by have h0:=abL hc1;omega
  subst hie;exact AW.wk (jl 3 rfl)<|aA<|mW rfl<|mY CO rfl<|mW rfl<|mT<|aH<|rQ rfl (AV.le.rfl)
theorem am9{a:Lf}{K n:Nat}{c:Nat→Rat}(ha:F9 a K n c)(hn:n≤1000000:=by decide)(hK:K≤10000000:=by decide):aC Tryz.prog 30 [.one a] (.d (.one (iC K n (adJ c)))):=by
 obtain ⟨ha,za⟩:=ha;refine aC.le (dl (DV.l ha) iP) AV.le.rfl<|aN 21 [.tmp 2] Tryz.func30 rfl<|cR<|mW rfl<|mT<|cR<|mW rfl<|mT<|au<|au<|AW.wk (qV 3 3 36 2 (fun _ _=> .v undef) rfl rfl)<|aA<|mE 3 rfl<|mT<|aI<|dU (ι:=Nat) (fun (i:Nat)=>⟨21,[(0,.d (.one (.row 4 n (aJ K c)))),(5,.d (.one (.row 4 n (aJ K c)))),(6,dI (n:Int)),(7,dI (i:Int)),(3,.own 3)],[(3,.row 36 2 i (cO K (adJ c)))]⟩) (fun (i:Nat)=>i≤n) (fun (i:Nat)=>n-i) 0 (abR _) (wkv [] [0] trivial ⟨dX rfl (iY),Pe⟩ rfl rfl) ?_;rintro i hI;have hi:i≤n:=hI;show AW _ _ _ ⟨_,_,_⟩
 refine cR<|mW rfl<|mT<|au<|aW rfl (fun hc1=>?_) (fun hc1=>?_)
 ·refine aF<|tN<|au<|aI<|au ?_;have hin:i < n:=by have h0:=abM hc1;omega
  refine aA<|mE 2 rfl<|mT<|aA<|mE 3 rfl<|mV aj (.d (.one (.at 4 ((aJ K c) i)))) (jZ (el:=(aJ K c)) (z:=(i:Int)) (n:=n) rfl rfl rfl rfl rfl rfl (by omega) (by omega)) ?_;exact mE 2 rfl<|mY (agu (fV K (Rat.num (c i)))) rfl<|mB aj (.d (.one (.row 2 1 (fun i' j'=>((zn K (Rat.num (c i)))[i'*2+j']?).getD (.v undef))))) rfl<|mA aj (id:=3) (n:=i) (m:=1) (el:=(cO K (adJ c))) (el2:=(fun i' j'=>((zn K (Rat.num (c i)))[i'*2+j']?).getD (.v undef))) rfl rfl rfl (by show (i+1)*32≤140737488355328;omega) (by omega) rfl rfl rfl rfl rfl rfl rfl rfl rfl rfl<|mW rfl<|ak<|bN<|tN<|aA<|mE 2 rfl<|ak<|⟨(i+1),by omega,by omega,wkv [3] [0] ⟨fQ rfl (aG (dF (by omega))),Pe⟩ ⟨dX rfl (ajK rfl (abJ _) (abJ _) rfl (fun _ _=>rfl)),Pe⟩ rfl rfl⟩
 ·refine dP<|tE<|tE<|bE<|tN<|au ?_;have hie:n=i:=by have h0:=abL hc1;omega
  subst hie;exact AW.wk (jl 3 rfl)<|aA<|mE 2 rfl<|mT<|aH<|rQ rfl (AV.le.rfl)
theorem adv{t:TypeId}{K L:Nat}{x z:Int}(e:x=z)(h:z.natAbs < B4^L):AO.le (.box t (rn K x)) (.box t (rn L z)):=by subst e;exact jf (aaZ h)
theorem WO{t:TypeId}{K:Nat}{z:Int}(h:z=0):AO.le (.box t [.v (.slice none 0 0),.v (.bool false)]) (.box t (rn K z)):=by subst h;exact Qe
theorem afv{c:Nat→Int}{n:Nat}{y:Rat}(hz:∀ i,n≤i→c i=0)(htop:c (n-1)≠0)(hn:n≠0)(hy:y=(iD c n:Rat)):(∀ i,gG (rc c) (((1:Int):Rat) / y) i=rc (yF c n) i)∧dg (gG (rc c) (((1:Int):Rat) / y)) n=n:=by
 have hip:IP n c:=⟨hz,fun _=>htop⟩;have hc0:=sZ (hip.qX hn);have e:∀ i,gG (rc c) (((1:Int):Rat) / y) i=rc (yF c n) i:=fun i=>by
  have h:=N9 hz i;show (c i:Rat)*(((1:Int):Rat) / y)=(yF c n i:Rat)
  rw [hy,← h,Rat.intCast_mul];have:((1:Int):Rat)=1:=rfl;rw [this];grind
 refine ⟨e,uw (Or.inr ?_)⟩;rw [e];exact sZ ((hip.pm hn).ip.l hn)
theorem agr{K M n:Nat}{c:Nat→Int}(hz:∀ i,n≤i→c i=0)(htop:c (n-1)≠0)(hn0:n≠0)(hn:n≤1000)(hK:K≤1000000)(hM:2*K+300≤M):aC Tryz.prog 72 [.one (dM K n (rc c))] (.ji [.agg (qn M (iD c n:Rat)),.one (dM M n (rc (yF c n)))]):=by
 have ahU:Int.natAbs 1 < B4^64:=by decide
 refine aN 75 [.cell 2 49,.tmp 3] Tryz.func72 rfl<|cR<|mO rfl<|mW rfl<|mT<|au<|cR<|mE 2 rfl<|mbF rfl (abX.2 (by omega))<|mT<|cFs rfl<|cR<|mY Gh rfl<|mO rfl<|mZ rfl<|mT<|au<|cR<|mE 3 rfl<|mT<|aI<|dU (ι:=Nat) (fun (i:Nat)=>⟨75,[(0,.d (.one (.row 4 n (aJ K (rc c))))),(2,.ptr 2 0),(3,.d (.one (.v (.slice none 0 0)))),(4,.ptr 4 0),(15,dI (n:Int)),(16,dI (i:Int))],[(2,.box 49 ([.v (.slice none 0 0),.v (.bool false),.v (.slice none 0 0),.v (.bool false)])),(4,.box 47 (rn 64 1))]⟩) (fun (i:Nat)=>i≤n) (fun (i:Nat)=>n-i) 0 (abR _) (wkv [5] [] ⟨fQ rfl (aG rfl),Pe⟩ trivial rfl rfl) ?_;rintro i hI;have hi:i≤n:=hI;show AW _ _ _ ⟨_,_,_⟩
 refine cR<|mW rfl<|mT<|au<|aW rfl (fun hc1=>?_) (fun hc1=>?_)
 ·refine aF<|tN<|au<|aI<|au ?_;have hin:i < n:=by have h0:=abM hc1;omega
  refine aA<|mE 2 rfl<|mT<|cDk 15<|oV rfl<|.cons (aB.V _ rfl)<|.cons (aB.V _ rfl)<|.cons (aB.V (.d (.one (.at 4 ((aJ K (rc c)) i)))) (jZ (el:=(aJ K (rc c))) (z:=(i:Int)) (n:=n) rfl rfl rfl rfl rfl rfl (by omega) (by omega))) ?_;refine .cons (aB.V _ rfl)<|oV rfl<|oC (oW (fV 64 1) (fV K (Rat.den ((rc c) i):Int)) (M:=(64+K))) rfl<|oV rfl<|.cons (aB.V _ rfl)<|.cons (aB.V _ rfl)<|.cons (aB.V (.d (.one (.at 4 ((aJ K (rc c)) i)))) (jZ (el:=(aJ K (rc c))) (z:=(i:Int)) (n:=n) rfl rfl rfl rfl rfl rfl (by omega) (by omega))) ?_;exact .cons (aB.V _ rfl)<|oV rfl<|oC (FM (fV 64 1) (fV K (Rat.den ((rc c) i):Int)) (M:=(max 64 K))) rfl<|oC (uj (fV (64+K) (1*(Rat.den ((rc c) i):Int))) (fV (max 64 K) ((Nat.gcd (Int.natAbs 1) (Int.natAbs (Rat.den ((rc c) i):Int)):Nat):Int)) (by show ((Nat.gcd (Int.natAbs 1) (Int.natAbs 1):Nat):Int)≠0;decide) ⟨1,by show (1*(1:Int))=((Nat.gcd (Int.natAbs 1) (Int.natAbs 1):Nat):Int)*1;decide⟩ (M:=(64+K))) rfl<|.nil<|mZ rfl<|ak<|bN<|tN<|aA<|mE 2 rfl<|ak<|⟨(i+1),by omega,by omega,wkv [5] [1] ⟨fQ rfl (aG (dF (by omega))),Pe⟩ ⟨dX rfl (adv (by show (1*(1:Int)) / ((Nat.gcd (Int.natAbs 1) (Int.natAbs 1):Nat):Int)=1;decide) ahU),Pe⟩ rfl rfl⟩
 ·refine dP<|tE<|tE<|bE<|tN<|cR<|mO rfl<|mT<|au<|cR<|mE 3 rfl<|mT<|aI<|dU (ι:=Nat) (fun (i:Nat)=>⟨75,[(0,.d (.one (.row 4 n (aJ K (rc c))))),(2,.ptr 2 0),(3,.d (.one (.v (.slice none 0 0)))),(4,.ptr 4 0),(6,.ptr 6 0),(36,dI (n:Int)),(37,dI (i:Int))],[(2,.box 49 ([.v (.slice none 0 0),.v (.bool false),.v (.slice none 0 0),.v (.bool false)])),(4,.box 47 (rn 64 1)),(6,.box 47 (rn (K+64) ((bF c i:Nat):Int)))]⟩) (fun (i:Nat)=>i≤n) (fun (i:Nat)=>n-i) 0 (abR _) (wkv [6] [2] ⟨fQ rfl (aG rfl),Pe⟩ ⟨dX rfl (WO rfl),Pe⟩ rfl rfl) ?_;rintro i hI;have hi:i≤n:=hI;show AW _ _ _ ⟨_,_,_⟩
  refine cR<|mW rfl<|mT<|au<|aW rfl (fun hc2=>?_) (fun hc2=>?_)
  ·refine aF<|tN<|au<|aI<|au ?_;have hin:i < n:=by have h0:=abM hc2;omega
   refine aA<|mE 2 rfl<|mT<|cDk 15<|oV rfl<|.cons (aB.V _ rfl)<|.cons (aB.V _ rfl)<|.cons (aB.V (.d (.one (.at 4 ((aJ K (rc c)) i)))) (jZ (el:=(aJ K (rc c))) (z:=(i:Int)) (n:=n) rfl rfl rfl rfl rfl rfl (by omega) (by omega))) ?_;refine .cons (aB.V _ rfl)<|oE 2 rfl<|oC (oW (fV K (Rat.num ((rc c) i))) (fV 64 1) (M:=(K+64))) rfl<|.cons (aB.V _ rfl)<|.cons (aB.V _ rfl)<|.cons (aB.V (.d (.one (.at 4 ((aJ K (rc c)) i)))) (jZ (el:=(aJ K (rc c))) (z:=(i:Int)) (n:=n) rfl rfl rfl rfl rfl rfl (by omega) (by omega))) ?_;exact .cons (aB.V _ rfl)<|oV rfl<|oC (uj (fV (K+64) ((Rat.num ((rc c) i))*1)) (fV K (Rat.den ((rc c) i):Int)) (by show (1:Int)≠0;decide) ⟨_,(Int.one_mul _).symm⟩ (M:=(K+64))) rfl<|oC (FM (fV (K+64) ((bF c i:Nat):Int)) (fV (K+64) (((Rat.num ((rc c) i))*1) / (Rat.den ((rc c) i):Int))) (M:=(max (K+64) (K+64)))) rfl<|.nil<|mZ rfl<|ak<|bN<|tN<|aA<|mE 2 rfl<|ak<|⟨(i+1),by omega,by omega,wkv [6] [2] ⟨fQ rfl (aG (dF (by omega))),Pe⟩ ⟨dX rfl (BF (by omega) (by show ((Nat.gcd (Int.natAbs ((bF c i:Nat):Int)) (Int.natAbs (c i*1 / 1)):Nat):Int)=((Nat.gcd (bF c i) (c i).natAbs:Nat):Int);rw [Int.natAbs_natCast,Int.mul_one,Int.ediv_one])),Pe⟩ rfl rfl⟩
  ·refine dP<|tE<|tE<|bE<|tN<|au ?_;have hin2:i=n:=by have h0:=abL hc2;omega
   subst hin2;refine aA<|mE 2 rfl<|mY (o7 (fV (K+64) ((bF c i:Nat):Int)) (fV 64 1) (M:=(max (K+64) (max 64 64)))) rfl<|mO rfl<|mZ rfl<|mT<|au<|cR<|mE 3 rfl<|mV aj (dI ((i-1:Nat):Int)) (fM ((eu (by omega) (by omega)).trans (by omega)))<|mV aj (.d (.one (.at 4 ((aJ K (rc c)) (i-1))))) (jZ (el:=(aJ K (rc c))) (z:=((i-1:Nat):Int)) (n:=i) rfl rfl rfl rfl rfl rfl (by omega) (by omega)) ?_;refine mE 3 rfl<|mT<|aW rfl (fun hc3=>?_) (fun hc3=>?_)
   ·refine aA<|mW rfl<|mY (RY (l7 (max (K+64) (max 64 64)) (dQ ((bF c i:Nat):Int) 1))) rfl<|mZ rfl<|mT<|au ?_;have hy:(-(dQ (((bF c i:Nat):Int)) 1))=(iD c i:Rat):=by {unfold iD;rw [jE];have hcc:decide (c (i-1) < 0)=true:=hc3;rw [if_pos (of_decide_eq_true hcc)];try exact (Rat.intCast_neg _).symm}
    have Zx:=afv hz htop hn0 hy;have hyn:(-(dQ (((bF c i:Nat):Int)) 1))≠0:=by {rw [hy];exact sZ ((IP.qX ⟨hz,fun _=>htop⟩) hn0)}
    exact cDk 6<|oV rfl<|.cons (aB.V _ rfl)<|oC Ie rfl<|oV rfl<|oC (MC (l7 64 ((1:Int):Rat)) (l7 (max (K+64) (max 64 64)) (-(dQ ((bF c i:Nat):Int) 1))) hyn (M:=(max (64+(max (K+64) (max 64 64))+1) 64))) rfl<|oC (Gz (yE (K:=K) (c:=(rc c)) (qM hz)) (l7 (max (64+(max (K+64) (max 64 64))+1) 64) (((1:Int):Rat) / (-(dQ ((bF c i:Nat):Int) 1)))) (M:=(max ((K+(max (64+(max (K+64) (max 64 64))+1) 64))+1) 64))) rfl<|.nil<|mZ rfl<|mW rfl<|mT<|aH<|rQ rfl (jI (dl (GV (wI (by omega) hy)) (dl (GV (oK (by omega) Zx.2 (fun j _=>Zx.1 j))) iP)))
   ·refine aF<|tN<|au ?_;have hy:(dQ (((bF c i:Nat):Int)) 1)=(iD c i:Rat):=by {unfold iD;rw [jE];have hcc:decide (c (i-1) < 0)=false:=hc3;rw [if_neg (of_decide_eq_false hcc)];try rfl}
    have Zx:=afv hz htop hn0 hy;have hyn:(dQ (((bF c i:Nat):Int)) 1)≠0:=by {rw [hy];exact sZ ((IP.qX ⟨hz,fun _=>htop⟩) hn0)}
    exact cDk 6<|oV rfl<|.cons (aB.V _ rfl)<|oC Ie rfl<|oV rfl<|oC (MC (l7 64 ((1:Int):Rat)) (l7 (max (K+64) (max 64 64)) (dQ ((bF c i:Nat):Int) 1)) hyn (M:=(max (64+(max (K+64) (max 64 64))+1) 64))) rfl<|oC (Gz (yE (K:=K) (c:=(rc c)) (qM hz)) (l7 (max (64+(max (K+64) (max 64 64))+1) 64) (((1:Int):Rat) / (dQ ((bF c i:Nat):Int) 1))) (M:=(max ((K+(max (64+(max (K+64) (max 64 64))+1) 64))+1) 64))) rfl<|.nil<|mZ rfl<|mW rfl<|mT<|aH<|rQ rfl (jI (dl (GV (wI (by omega) hy)) (dl (GV (oK (by omega) Zx.2 (fun j _=>Zx.1 j))) iP)))
theorem acj{K n:Nat}{c:Nat→Rat}(hn:n=0):aC Tryz.prog 72 [.one (dM K n c)] (.ji [.agg (qn 64 0),.one (.v (.slice none 0 0))]):=by
 exact aN 75 [.cell 2 49,.tmp 3] Tryz.func72 rfl<|cR<|mO rfl<|mW rfl<|mT<|au<|cR<|mE 2 rfl<|mbT rfl (by subst hn;rfl)<|mT<|cT rfl<|cR<|mY (EG) rfl<|mZ rfl<|mW rfl<|mT<|aH<|tR<|rQ rfl (AV.le.rfl)
theorem Db.su{K:Nat}{a:Nat→Int}{g:Int}(h:Db K a):Db K (su a g):=fun i=>aeV (by unfold Go.Proofs.YtapmpcgekdplfaaGreat.su;exact aiX _ _) (h i)
theorem Us{K:Nat}{c:Nat→Int}(zc:bC c)(hK1:1≤K:=by omega)(hK:K≤1000000:=by omega):aC Tryz.prog 72 [.one (dM K (lg c) (rc c))] (.ji [.agg (qn (2*K+300) (iD c (lg c):Rat)),.one (dM K (lg (bH c)) (rc (bH c)))]):=by
 have hlc:=dO c;refine aC.nH (fJ Tryz.func72 rfl rfl) (p:=Db K c) (fun B w vs h=>match vs,h with | [_],⟨h1,_⟩=>ny zc.lg h1) (fun hb=>?_)
 by_cases h0:lg c=0
 ·refine aC.le (dl DV.same iP) (jI (dl (GV (wI (by omega) ?_)) (dl (GV (Fg (by rw [dL zc];exact h0))) iP))) (acj (K:=K) (n:=lg c) (c:=rc c) h0)
  unfold iD;rw [h0];show (0:Rat)=_;split <;> rfl
 ·refine aC.le (dl DV.same iP) (jI (dl (GV AV.le.rfl) (dl (GV ?_) iP))) (agr (K:=K) (M:=2*K+300) zc.lg (lu h0) h0 (by omega) hK (abJ _))
  rw [dL zc];exact jc hK1 hb.su
theorem qj{K:Nat}{c:Nat→Int}(zc:bC c)(hK1:1≤K:=by omega)(hK:K≤1000000:=by omega):aC Tryz.prog 36 [.one (dM K (lg c) (rc c))] (.d (.one (dM K (lg (bH c)) (rc (bH c))))):=by
 exact aN 11 [.tmp 2] Tryz.func36 rfl<|cR<|mW rfl<|mT<|cR<|mW rfl<|mY (Us zc) rfl<|mE 3 rfl<|mO rfl<|mZ rfl<|mW rfl<|mT<|cR<|mE 2 rfl<|mT<|aH<|rQ rfl (AV.le.rfl)
theorem Sr{K L:Nat}{x y:Int}(hx:x.natAbs < B4^K)(hy:y.natAbs < B4^L):(x*y).natAbs < B4^(K+L):=by
 rw [Int.natAbs_mul,Nat.pow_add];exact Nat.mul_lt_mul'' hx hy
/-- One step: |l| r - top t^k d. -/
def Fq(d r:Nat→Int):Nat→Int:=pI (iW r ((d (lg d-1)).natAbs:Int)) (aY (nJ (if d (lg d-1) < 0 then -(r (lg r-1)) else r (lg r-1)) (lg r-lg d)) d)
theorem Fv(d r:Nat→Int)(j:Nat):Fq d r j=r j*((d (lg d-1)).natAbs:Int)-(if lg r-lg d≤j then (if d (lg d-1) < 0 then -(r (lg r-1)) else r (lg r-1))*d (j-(lg r-lg d)) else 0):=by
 unfold Fq pI iW;rw [oD]
structure XK(c d:Nat→Int)(K L s:Nat)(r:Nat→Int):Prop where
 z:bC r
 b:Db (K+s*(L+1)) r
 eq:∃ (Q:Fn) (κ:Rat),Po Q∧0 < κ∧∀ x,FF c x=Q x*FF d x+κ*FF r x
 l:lg r+s≤lg c
 m:s≤lg c+1-lg d
theorem XK.start{c d:Nat→Int}{K L:Nat}(z:bC c)(h:Db K c):XK c d K L 0 c:=⟨z,by rw [Nat.zero_mul];exact h,⟨fun _=>0,1,bZ 0,by grind,fun x=>by grind⟩,abJ _,abR _⟩
theorem XK.step{c d r:Nat→Int}{K L s:Nat}(h:XK c d K L s r)(zd:bC d)(bd:Db L d)(hd0:lg d≠0)(hle:lg d≤lg r)(hc:lg c≤19):XK c d K L (s+1) (Fq d r)∧lg (Fq d r) < lg r:=by
 obtain ⟨l,hl⟩:∃ l,l=d (lg d-1):=⟨_,rfl⟩
 have hl0:l≠0:=by rw [hl];exact lu hd0
 obtain ⟨tp,htp⟩:∃ tp,tp=if l < 0 then -(r (lg r-1)) else r (lg r-1):=⟨_,rfl⟩
 have at_:∀ j,Fq d r j=r j*(l.natAbs:Int)-(if lg r-lg d≤j then tp*d (j-(lg r-lg d)) else 0):=fun j=>by rw [Fv,htp,hl]
 have hz:∀ j,lg r-1≤j→Fq d r j=0:=fun j hj=>by
  rw [at_,if_pos (by omega)]
  by_cases hj2:j=lg r-1
  ·have e1:j-(lg r-lg d)=lg d-1:=by omega
   rw [e1,← hl,hj2,htp];split
   ·have:(l.natAbs:Int)= -l:=by omega
    rw [this,Int.neg_mul_comm];omega
   ·have:(l.natAbs:Int)=l:=by omega
    rw [this];omega
  ·rw [h.z.lg j (by omega),zd.lg _ (by omega)];simp
 have zr:bC (Fq d r):=fun j hj=>hz j (by have:=dO r;omega)
 have hlt:lg (Fq d r)≤lg r-1:=jv zr hz;have hls:=h.l;refine ⟨⟨zr,fun j=>?_,?_,by omega,by omega⟩,by omega⟩
 ·have hb1:=Sr (h.b j) (y:=(l.natAbs:Int)) (L:=L) (by rw [hl,Int.natAbs_natCast];exact bd _)
  have htb:tp.natAbs < B4^(K+s*(L+1)):=by
   have:=h.b (lg r-1);rw [htp];split
   ·rw [Int.natAbs_neg];exact this
   ·exact this
  have hb2:=Sr htb (bd (j-(lg r-lg d)));have e:B4^(K+(s+1)*(L+1))=B4^(K+s*(L+1)+L)*B4:=by rw [← Nat.pow_succ];congr 1;rw [Nat.add_mul,Nat.one_mul];omega
  rw [e,at_];have hB:(2:Nat)≤B4:=by decide
  have h3:B4^(K+s*(L+1)+L)*2≤B4^(K+s*(L+1)+L)*B4:=ac4 _ hB;split
  ·omega
  ·omega
 ·obtain ⟨Q,κ,pQ,hκ,he⟩:=h.eq
  have hln:(0:Rat) < ((l.natAbs:Nat):Rat):=by exact_mod_cast (by omega:0 < l.natAbs)
  have hF:∀ x,FF (Fq d r) x=FF r x*((l.natAbs:Nat):Rat)-((tp:Rat)*x^(lg r-lg d))*FF d x:=fun x=>by
   have:=abf (r:=r) (d:=d) (nb:=lg d) (i:=lg r-lg d) (l:=(l.natAbs:Int)) (x:=tp) zd.lg zd (by omega) x;rw [htp,hl] at this;unfold Fq;rw [this,htp,hl];rfl
  refine ⟨fun x=>Q x+κ / ((l.natAbs:Nat):Rat)*((tp:Rat)*x^(lg r-lg d)),κ / ((l.natAbs:Nat):Rat),pQ.add ((bZ _).mul (Vx _ _)),?_,fun x=>?_⟩
  ·apply abP
   intro hn;have h4:=abS (show κ / ((l.natAbs:Nat):Rat)≤0 by grind) (show 0≤((l.natAbs:Nat):Rat) by grind);have h5:κ / ((l.natAbs:Nat):Rat)*((l.natAbs:Nat):Rat)=κ:=by grind
   grind
  ·rw [he x,hF x]
   have h5:κ / ((l.natAbs:Nat):Rat)*((l.natAbs:Nat):Rat)=κ:=by grind
   grind
structure RH(c d:Nat→Int)(M:Nat)(r:Nat→Int):Prop where
 z:bC r
 b:Db M r
 eq:∃ (Q:Fn) (κ:Rat),Po Q∧0 < κ∧∀ x,FF c x=Q x*FF d x+κ*FF r x
 lt:lg r < lg d
theorem XK.fin{c d r:Nat→Int}{K L M s:Nat}(h:XK c d K L s r)(hlt:lg r < lg d)(hM:K+(lg c+1-lg d)*(L+1)≤M):RH c d M r:=⟨h.z,h.b.mono (by
 have:=abN (L+1) h.m;omega),h.eq,hlt⟩
theorem XK.bd{c d r:Nat→Int}{K L M s:Nat}(h:XK c d K L s r)(hM:K+(lg c+1-lg d)*(L+1)≤M):Db M r:=h.b.mono (by
 have:=abN (L+1) h.m;omega)
theorem ZY{t:TypeId}{L:Nat}{l z:Int}(h:z=l):AO.le (.box t [dn L (Int.natAbs z),.v (.bool false)]) (.box t (rn L (l.natAbs:Int))):=by
 subst h;have e:rn L (z.natAbs:Int)= [dn L (Int.natAbs z),.v (.bool false)]:=by
  show [dn L (Int.natAbs (z.natAbs:Int)),.v (.bool (decide ((z.natAbs:Int) < 0)))]=_
  rw [Int.natAbs_natCast,decide_eq_false (by omega)]
 rw [e];exact fun _ _ _ _ h=>h
theorem afz{d r:Nat→Int}(zr:bC r)(zd:bC d)(hle:lg d≤lg r):∀ j,lg r≤j→Fq d r j=0:=fun j hj=>by
 rw [Fv,zr.lg j hj];split
 ·rw [zd.lg (j-(lg r-lg d)) (by omega)];simp
 ·simp
theorem uV{c:Nat→Int}{n:Nat}(h:∀ i,n≤i→c i=0)(z:bC c):dg (rc c) n=lg c:=(UO n).trans (lq h z)
theorem ql{K L n m:Nat}{c:Nat→Int}(hn:n=m)(hL:1≤L)(h:Db L c):AV.le (.d (.one (dM K n (rc c)))) (.d (.one (dM L m (rc c)))):=by subst hn;exact jc hL h
theorem RV{K L M:Nat}{c d:Nat→Int}(zc:bC c)(zd:bC d)(hd0:lg d≠0)(hc:lg c≤19)(hK:K≤100000)(hL:L≤1000000)(hM0:1≤M)(hM:K+(lg c+1-lg d)*(L+1)≤M)(hM1:M≤1000000:=by omega):aC Tryz.prog 78 [.one (dM K (lg c) (rc c)),.one (dM L (lg d) (rc d))] (.d (.one (aX (RH c d M) (fun r=>dM M (lg r) (rc r))))):=by
 have hlc:=dO c;have hld:=dO d;refine aC.nH (fJ Tryz.func78 rfl rfl) (p:=Db K c∧Db L d) (fun B w vs h=>match vs,h with | [_,_],⟨h1,h2,_⟩=>⟨ny zc.lg h1,ny zd.lg h2⟩) (fun hb=>?_);obtain ⟨hbc,hbd⟩:=hb;refine aN 78 [.tmp 4] Tryz.func78 rfl<|cR<|mW rfl<|mT<|cR<|mE 3 rfl<|mV aj (dI ((lg d-1:Nat):Int)) (fM ((eu (by omega) (by omega)).trans (by omega)))<|mV aj (.d (.one (.at 4 ((aJ L (rc d)) (lg d-1))))) (jZ (el:=(aJ L (rc d))) (z:=((lg d-1:Nat):Int)) (n:=(lg d)) rfl rfl rfl rfl rfl rfl (by omega) (by omega)) ?_;refine mE 2 rfl<|mO rfl<|mZ rfl<|mT<|cR<|mW rfl<|mO rfl<|mZ rfl<|mT<|cR<|mW rfl<|mZ rfl<|mT<|au<|aI<|wK [6,5,4,1,0] [6,5] rfl rfl<|wB [6,5,4,1,0] [6] 5 (.box 47 (rn L (d (lg d-1)))) rfl rfl (BF (abJ _) rfl) rfl<|wB [6,5,4,1,0] [5] 6 (.box 47 (rn L ((Int.natAbs (d (lg d-1)):Nat):Int))) rfl rfl (ZY rfl) rfl<|dU (ι:=Nat×(Nat→Int)) (fun (p:Nat×(Nat→Int))=>match p with | (s,r)=>⟨78,[(1,.d (.one (.row 4 (lg d) (aJ L (rc d))))),(4,.d (.one (.v (.slice none 0 0)))),(5,.ptr 5 0),(6,.ptr 6 0),(0,.d (.one (.row 4 (lg r) (aJ M (rc r)))))],[(5,.box 47 (rn L (d (lg d-1)))),(6,.box 47 (rn L ((Int.natAbs (d (lg d-1)):Nat):Int)))]⟩) (fun (p:Nat×(Nat→Int))=>match p with | (s,r)=>XK c d K L s r) (fun (p:Nat×(Nat→Int))=>match p with | (s,r)=>lg r) (0,c) (.start zc hbc) (wkv [4] [] ⟨fQ rfl (oK (by omega) rfl (fun _ _=>rfl)),Pe⟩ trivial rfl rfl) ?_;rintro ⟨s,r⟩ hI;have hI:XK c d K L s r:=hI;show AW _ _ _ ⟨_,_,_⟩
 refine au<|cR<|mE 5 rfl<|mT<|aW rfl (fun hc1=>?_) (fun hc1=>?_)
 ·refine aF<|tN<|aI<|au ?_;have hle:lg d≤lg r:=by have h0:=abM hc1;omega
  have hlr:=dO r;obtain ⟨hN,hlt⟩:=hI.step zd hbd hd0 hle hc;refine aA<|mE 4 rfl<|mV aj (dI ((lg r-lg d:Nat):Int)) (fM ((eu (by omega) (by omega)).trans (by omega)))<|mW rfl<|mT<|cR<|mE 3 rfl<|mV aj (dI ((lg r-1:Nat):Int)) (fM ((eu (by omega) (by omega)).trans (by omega)))<|mV aj (.d (.one (.at 4 ((aJ M (rc r)) (lg r-1))))) (jZ (el:=(aJ M (rc r))) (z:=((lg r-1:Nat):Int)) (n:=(lg r)) rfl rfl rfl rfl rfl rfl (by omega) (by omega)) ?_;refine mE 2 rfl<|mO rfl<|mZ rfl<|mT<|au<|cR<|mE 2 rfl<|mT<|aW rfl (fun hc2=>?_) (fun hc2=>?_)
  ·refine aA<|mW rfl<|mY (O3 (fV M (Rat.num ((rc r) (lg r-1)))) (M:=M)) rfl<|mZ rfl<|mT<|au<|wK [8,7,0,6,5,4,1] [8,6,5] rfl rfl<|wB [8,7,0,6,5,4,1] [6,5] 8 (.box 47 (rn M (if d (lg d-1) < 0 then -(r (lg r-1)) else r (lg r-1)))) rfl rfl (BF (by omega) (by rw [if_pos (of_decide_eq_true hc2)];rfl)) rfl<|aA<|mW rfl<|mT<|au<|au ?_;have hO:=hI;refine AW.wk (qV 9 9 49 4 (fun _ _=> .v undef) rfl rfl)<|aA<|mE 3 rfl<|mT<|aI<|dU (ι:=Nat) (fun (i:Nat)=>⟨78,[(0,.d (.one (.row 4 (lg r) (aJ M (rc r))))),(1,.d (.one (.row 4 (lg d) (aJ L (rc d))))),(4,.d (.one (.v (.slice none 0 0)))),(5,.ptr 5 0),(6,.ptr 6 0),(7,dI ((lg r-lg d:Nat):Int)),(8,.ptr 8 0),(43,dI ((lg r:Nat):Int)),(9,.own 9),(44,dI (i:Int))],[(5,.box 47 (rn L (d (lg d-1)))),(6,.box 47 (rn L ((Int.natAbs (d (lg d-1)):Nat):Int))),(8,.box 47 (rn M (if d (lg d-1) < 0 then -(r (lg r-1)) else r (lg r-1)))),(9,.row 49 4 i (aJ (M+L+70) (rc (Fq d r))))]⟩) (fun (i:Nat)=>i≤lg r) (fun (i:Nat)=>lg r-i) 0 (abR _) (wkv [9] [3] ⟨fQ rfl (aG rfl),Pe⟩ ⟨dX rfl (iY),Pe⟩ rfl rfl) ?_;rintro i hI;have hi:i≤lg r:=hI;show AW _ _ _ ⟨_,_,_⟩
   refine cR<|mW rfl<|mT<|au<|aW rfl (fun hc3=>?_) (fun hc3=>?_)
   ·refine aF<|tN<|au<|aI<|au ?_;have hin:i < lg r:=by have h0:=abM hc3;omega
    refine aA<|mE 2 rfl<|mT<|au<|cDk 8<|.cons (aB.V _ rfl)<|.cons (aB.V _ rfl)<|.cons (aB.V (.d (.one (.at 4 ((aJ M (rc r)) i)))) (jZ (el:=(aJ M (rc r))) (z:=(i:Int)) (n:=(lg r)) rfl rfl rfl rfl rfl rfl (by omega) (by omega))) ?_;refine .cons (aB.V _ rfl)<|oE 2 rfl<|oC (oW (fV M (Rat.num ((rc r) i))) (fV L ((Int.natAbs (d (lg d-1)):Nat):Int)) (M:=(M+L))) rfl<|.cons (aB.N (.box 47 ([.v (.slice none 0 0),.v (.bool false)])) rfl 11 rfl rfl)<|.nil<|mZ rfl<|mT<|au<|cR<|mE 3 rfl<|mT<|aW rfl (fun hc4=>?_) (fun hc4=>?_)
    ·have hki:lg r-lg d≤i:=by have h0:=abM hc4;omega
     refine cDk 11<|oE 2 rfl<|.cons (aB.V _ rfl)<|.cons (aB.V _ rfl)<|.cons (aB.V _ rfl)<|.cons (aB.V (dI ((i-(lg r-lg d):Nat):Int)) (fM ((eu (by omega) (by omega)).trans (by omega))))<|.cons (aB.V (.d (.one (.at 4 ((aJ L (rc d)) (i-(lg r-lg d)))))) (jZ (el:=(aJ L (rc d))) (z:=((i-(lg r-lg d):Nat):Int)) (n:=(lg d)) rfl rfl rfl rfl rfl rfl (by omega) (by omega))) ?_;exact .cons (aB.V _ rfl)<|oV rfl<|oC (oW (fV M (if d (lg d-1) < 0 then -(r (lg r-1)) else r (lg r-1))) (fV L (Rat.num ((rc d) (i-(lg r-lg d))))) (M:=(M+L))) rfl<|oC (Ya (fV (M+L) ((Rat.num ((rc r) i))*((Int.natAbs (d (lg d-1)):Nat):Int))) (fV (M+L) ((if d (lg d-1) < 0 then -(r (lg r-1)) else r (lg r-1))*(Rat.num ((rc d) (i-(lg r-lg d)))))) (M:=(max (M+L) (M+L)+1))) rfl<|.nil<|mZ rfl<|mT<|cDk 5<|.cons (aB.V _ rfl)<|oV rfl<|oC Gh rfl<|oC (o7 (fV (max (M+L) (M+L)+1) (((Rat.num ((rc r) i))*((Int.natAbs (d (lg d-1)):Nat):Int))-((if d (lg d-1) < 0 then -(r (lg r-1)) else r (lg r-1))*(Rat.num ((rc d) (i-(lg r-lg d))))))) (fV 64 1) (M:=(max (max (M+L) (M+L)+1) (max 64 64)))) rfl<|.cons (aB.B _ rfl)<|.nil<|mA aj (id:=9) (n:=i) (m:=1) (el:=(aJ (M+L+70) (rc (Fq d r)))) (el2:=(fun i' j'=>((qn (max (max (M+L) (M+L)+1) (max 64 64)) (dQ (((Rat.num ((rc r) i))*((Int.natAbs (d (lg d-1)):Nat):Int))-((if d (lg d-1) < 0 then -(r (lg r-1)) else r (lg r-1))*(Rat.num ((rc d) (i-(lg r-lg d)))))) 1))[i'*4+j']?).getD (.v undef))) rfl rfl rfl (by show (i+1)*64≤140737488355328;omega) (by omega) rfl rfl rfl rfl rfl rfl rfl rfl rfl rfl<|mW rfl<|ak<|bN<|tN<|aA<|mE 2 rfl<|ak<|⟨(i+1),by omega,by omega,wkv [9] [3] ⟨fQ rfl (aG (dF (by omega))),Pe⟩ ⟨dX rfl (CU (q:=(dQ (((Rat.num ((rc r) i))*((Int.natAbs (d (lg d-1)):Nat):Int))-((if d (lg d-1) < 0 then -(r (lg r-1)) else r (lg r-1))*(Rat.num ((rc d) (i-(lg r-lg d)))))) 1)) (M:=(max (max (M+L) (M+L)+1) (max 64 64))) rfl (abJ _) (by omega) (by rw [jE];show _=((Fq d r i:Int):Rat);rw [Fv,if_pos (hki)];rfl) (fun _ _=>rfl)),Pe⟩ rfl rfl⟩
    ·refine aF<|tN ?_;have hki:¬ lg r-lg d≤i:=by have h0:=abL hc4;omega
     exact cDk 5<|.cons (aB.V _ rfl)<|oV rfl<|oC Gh rfl<|oC (o7 (fV (M+L) ((Rat.num ((rc r) i))*((Int.natAbs (d (lg d-1)):Nat):Int))) (fV 64 1) (M:=(max (M+L) (max 64 64)))) rfl<|.cons (aB.B _ rfl)<|.nil<|mA aj (id:=9) (n:=i) (m:=1) (el:=(aJ (M+L+70) (rc (Fq d r)))) (el2:=(fun i' j'=>((qn (max (M+L) (max 64 64)) (dQ ((Rat.num ((rc r) i))*((Int.natAbs (d (lg d-1)):Nat):Int)) 1))[i'*4+j']?).getD (.v undef))) rfl rfl rfl (by show (i+1)*64≤140737488355328;omega) (by omega) rfl rfl rfl rfl rfl rfl rfl rfl rfl rfl<|mW rfl<|ak<|bN<|tN<|aA<|mE 2 rfl<|ak<|⟨(i+1),by omega,by omega,wkv [9] [3] ⟨fQ rfl (aG (dF (by omega))),Pe⟩ ⟨dX rfl (CU (q:=(dQ ((Rat.num ((rc r) i))*((Int.natAbs (d (lg d-1)):Nat):Int)) 1)) (M:=(max (M+L) (max 64 64))) rfl (abJ _) (by omega) (by rw [jE];show _=((Fq d r i:Int):Rat);rw [Fv,if_neg (hki)];rw [Int.sub_zero];rfl) (fun _ _=>rfl)),Pe⟩ rfl rfl⟩
   ·refine dP<|tE<|tE<|bE<|tN ?_;have hie:i=lg r:=by have h0:=abL hc3;omega
    subst hie;exact AW.wk (jl 9 rfl)<|aA<|mW rfl<|mY CO rfl<|mW rfl<|ak<|bN<|⟨((s+1),(Fq d r)),hN,by show lg (Fq d r) < lg r;exact hlt,wkv [4] [] ⟨fQ rfl (ql (uV (afz hO.z zd hle) hN.z) (by omega) (hN.bd hM)),Pe⟩ trivial rfl rfl⟩
  ·refine aF<|tN<|au<|wK [8,7,0,6,5,4,1] [8,6,5] rfl rfl<|wB [8,7,0,6,5,4,1] [6,5] 8 (.box 47 (rn M (if d (lg d-1) < 0 then -(r (lg r-1)) else r (lg r-1)))) rfl rfl (BF (by omega) (by rw [if_neg (of_decide_eq_false hc2)];rfl)) rfl<|aA<|mW rfl<|mT<|au<|au ?_;have hO:=hI;refine AW.wk (qV 9 9 49 4 (fun _ _=> .v undef) rfl rfl)<|aA<|mE 3 rfl<|mT<|aI<|dU (ι:=Nat) (fun (i:Nat)=>⟨78,[(0,.d (.one (.row 4 (lg r) (aJ M (rc r))))),(1,.d (.one (.row 4 (lg d) (aJ L (rc d))))),(4,.d (.one (.v (.slice none 0 0)))),(5,.ptr 5 0),(6,.ptr 6 0),(7,dI ((lg r-lg d:Nat):Int)),(8,.ptr 8 0),(43,dI ((lg r:Nat):Int)),(9,.own 9),(44,dI (i:Int))],[(5,.box 47 (rn L (d (lg d-1)))),(6,.box 47 (rn L ((Int.natAbs (d (lg d-1)):Nat):Int))),(8,.box 47 (rn M (if d (lg d-1) < 0 then -(r (lg r-1)) else r (lg r-1)))),(9,.row 49 4 i (aJ (M+L+70) (rc (Fq d r))))]⟩) (fun (i:Nat)=>i≤lg r) (fun (i:Nat)=>lg r-i) 0 (abR _) (wkv [9] [3] ⟨fQ rfl (aG rfl),Pe⟩ ⟨dX rfl (iY),Pe⟩ rfl rfl) ?_;rintro i hI;have hi:i≤lg r:=hI;show AW _ _ _ ⟨_,_,_⟩
   refine cR<|mW rfl<|mT<|au<|aW rfl (fun hc5=>?_) (fun hc5=>?_)
   ·refine aF<|tN<|au<|aI<|au ?_;have hin:i < lg r:=by have h0:=abM hc5;omega
    refine aA<|mE 2 rfl<|mT<|au<|cDk 8<|.cons (aB.V _ rfl)<|.cons (aB.V _ rfl)<|.cons (aB.V (.d (.one (.at 4 ((aJ M (rc r)) i)))) (jZ (el:=(aJ M (rc r))) (z:=(i:Int)) (n:=(lg r)) rfl rfl rfl rfl rfl rfl (by omega) (by omega))) ?_;refine .cons (aB.V _ rfl)<|oE 2 rfl<|oC (oW (fV M (Rat.num ((rc r) i))) (fV L ((Int.natAbs (d (lg d-1)):Nat):Int)) (M:=(M+L))) rfl<|.cons (aB.N (.box 47 ([.v (.slice none 0 0),.v (.bool false)])) rfl 11 rfl rfl)<|.nil<|mZ rfl<|mT<|au<|cR<|mE 3 rfl<|mT<|aW rfl (fun hc6=>?_) (fun hc6=>?_)
    ·have hki:lg r-lg d≤i:=by have h0:=abM hc6;omega
     refine cDk 11<|oE 2 rfl<|.cons (aB.V _ rfl)<|.cons (aB.V _ rfl)<|.cons (aB.V _ rfl)<|.cons (aB.V (dI ((i-(lg r-lg d):Nat):Int)) (fM ((eu (by omega) (by omega)).trans (by omega))))<|.cons (aB.V (.d (.one (.at 4 ((aJ L (rc d)) (i-(lg r-lg d)))))) (jZ (el:=(aJ L (rc d))) (z:=((i-(lg r-lg d):Nat):Int)) (n:=(lg d)) rfl rfl rfl rfl rfl rfl (by omega) (by omega))) ?_;exact .cons (aB.V _ rfl)<|oV rfl<|oC (oW (fV M (if d (lg d-1) < 0 then -(r (lg r-1)) else r (lg r-1))) (fV L (Rat.num ((rc d) (i-(lg r-lg d))))) (M:=(M+L))) rfl<|oC (Ya (fV (M+L) ((Rat.num ((rc r) i))*((Int.natAbs (d (lg d-1)):Nat):Int))) (fV (M+L) ((if d (lg d-1) < 0 then -(r (lg r-1)) else r (lg r-1))*(Rat.num ((rc d) (i-(lg r-lg d)))))) (M:=(max (M+L) (M+L)+1))) rfl<|.nil<|mZ rfl<|mT<|cDk 5<|.cons (aB.V _ rfl)<|oV rfl<|oC Gh rfl<|oC (o7 (fV (max (M+L) (M+L)+1) (((Rat.num ((rc r) i))*((Int.natAbs (d (lg d-1)):Nat):Int))-((if d (lg d-1) < 0 then -(r (lg r-1)) else r (lg r-1))*(Rat.num ((rc d) (i-(lg r-lg d))))))) (fV 64 1) (M:=(max (max (M+L) (M+L)+1) (max 64 64)))) rfl<|.cons (aB.B _ rfl)<|.nil<|mA aj (id:=9) (n:=i) (m:=1) (el:=(aJ (M+L+70) (rc (Fq d r)))) (el2:=(fun i' j'=>((qn (max (max (M+L) (M+L)+1) (max 64 64)) (dQ (((Rat.num ((rc r) i))*((Int.natAbs (d (lg d-1)):Nat):Int))-((if d (lg d-1) < 0 then -(r (lg r-1)) else r (lg r-1))*(Rat.num ((rc d) (i-(lg r-lg d)))))) 1))[i'*4+j']?).getD (.v undef))) rfl rfl rfl (by show (i+1)*64≤140737488355328;omega) (by omega) rfl rfl rfl rfl rfl rfl rfl rfl rfl rfl<|mW rfl<|ak<|bN<|tN<|aA<|mE 2 rfl<|ak<|⟨(i+1),by omega,by omega,wkv [9] [3] ⟨fQ rfl (aG (dF (by omega))),Pe⟩ ⟨dX rfl (CU (q:=(dQ (((Rat.num ((rc r) i))*((Int.natAbs (d (lg d-1)):Nat):Int))-((if d (lg d-1) < 0 then -(r (lg r-1)) else r (lg r-1))*(Rat.num ((rc d) (i-(lg r-lg d)))))) 1)) (M:=(max (max (M+L) (M+L)+1) (max 64 64))) rfl (abJ _) (by omega) (by rw [jE];show _=((Fq d r i:Int):Rat);rw [Fv,if_pos (hki)];rfl) (fun _ _=>rfl)),Pe⟩ rfl rfl⟩
    ·refine aF<|tN ?_;have hki:¬ lg r-lg d≤i:=by have h0:=abL hc6;omega
     exact cDk 5<|.cons (aB.V _ rfl)<|oV rfl<|oC Gh rfl<|oC (o7 (fV (M+L) ((Rat.num ((rc r) i))*((Int.natAbs (d (lg d-1)):Nat):Int))) (fV 64 1) (M:=(max (M+L) (max 64 64)))) rfl<|.cons (aB.B _ rfl)<|.nil<|mA aj (id:=9) (n:=i) (m:=1) (el:=(aJ (M+L+70) (rc (Fq d r)))) (el2:=(fun i' j'=>((qn (max (M+L) (max 64 64)) (dQ ((Rat.num ((rc r) i))*((Int.natAbs (d (lg d-1)):Nat):Int)) 1))[i'*4+j']?).getD (.v undef))) rfl rfl rfl (by show (i+1)*64≤140737488355328;omega) (by omega) rfl rfl rfl rfl rfl rfl rfl rfl rfl rfl<|mW rfl<|ak<|bN<|tN<|aA<|mE 2 rfl<|ak<|⟨(i+1),by omega,by omega,wkv [9] [3] ⟨fQ rfl (aG (dF (by omega))),Pe⟩ ⟨dX rfl (CU (q:=(dQ ((Rat.num ((rc r) i))*((Int.natAbs (d (lg d-1)):Nat):Int)) 1)) (M:=(max (M+L) (max 64 64))) rfl (abJ _) (by omega) (by rw [jE];show _=((Fq d r i:Int):Rat);rw [Fv,if_neg (hki)];rw [Int.sub_zero];rfl) (fun _ _=>rfl)),Pe⟩ rfl rfl⟩
   ·refine dP<|tE<|tE<|bE<|tN ?_;have hie:i=lg r:=by have h0:=abL hc5;omega
    subst hie;exact AW.wk (jl 9 rfl)<|aA<|mW rfl<|mY CO rfl<|mW rfl<|ak<|bN<|⟨((s+1),(Fq d r)),hN,by show lg (Fq d r) < lg r;exact hlt,wkv [4] [] ⟨fQ rfl (ql (uV (afz hO.z zd hle) hN.z) (by omega) (hN.bd hM)),Pe⟩ trivial rfl rfl⟩
 ·exact dP<|tE<|tE<|bE<|tN<|cR<|mE 2 rfl<|mT<|aH<|rQ rfl (lT (Q:=RH c d M) (L:=fun r=>dM M (lg r) (rc r)) r (hI.fin (by have h0:=abL hc1;omega) hM))
structure RpP(c d:Nat→Int)(M:Nat)(R:Nat→Int):Prop where
 z:bC R
 b:Db M R
 lt:lg R < lg d
 idp:CB (FF c) (FF d) (FF d) (FF R)
 pm:lg R≠0→Pm (lg R) R
theorem RH.yF{c d r:Nat→Int}{M:Nat}(h:RH c d M r)(zd:bC d):RpP c d M (bH r):=by
 obtain ⟨Q,κ,pQ,hκ,e⟩:=h.eq;obtain ⟨s,s',h1,h2⟩:=H7 h.z;exact ⟨gK h.z,h.b.su,by rw [dL h.z];exact h.lt,(CB.step (k:=κ) pQ (by grind) e).trans (CB.scale (s:=1) (s':=1) (fun x=>by grind) h1 (fun x=>by grind) h2),fun h0=>kE h.z (by rw [← dL h.z];exact h0)⟩
theorem oO{a:Nat→Int}(za:bC a)(h:lg a≠0→Pm (lg a) a):bH a=a:=by
 by_cases h0:lg a=0
 ·have h1:=(iF za).1 h0
  funext i;unfold bH yF su;rw [h1 i];simp
 ·have p:=h h0
  have e:iD a (lg a)=1:=by unfold iD;rw [p.one,if_neg (by have:=p.lead;omega)];rfl
  funext i;unfold bH yF su;rw [e];simp
theorem aC.exl{α:Type}{P:Program}{f:FuncId}{Q:α→Prop}{L:α→Lf}{res:AV}(hen:∀ vs w,(callFunc f vs).run P w= .ok (.enter f vs) w)(h:∀ x,Q x→aC P f [.one (L x)] res):aC P f [.one (aX Q L)] res:=
 ⟨hen,fun B w vs hB hd=>match vs,hd with | [v],⟨⟨x,hq,hl⟩,_⟩=>(h x hq).go B w [v] hB ⟨hl,Pe⟩⟩
theorem Ut{c d:Nat→Int}{M:Nat}(zd:bC d)(h1:1≤M:=by omega)(hM:M≤1000000:=by omega):aC Tryz.prog 36 [.one (aX (RH c d M) (fun r=>dM M (lg r) (rc r)))] (.d (.one (aX (RpP c d M) (fun r=>dM M (lg r) (rc r))))):=
 aC.exl (fJ Tryz.func36 rfl rfl) fun r hr=>aC.le (dl DV.same iP) (lT (Q:=RpP c d M) (L:=fun r=>dM M (lg r) (rc r)) (bH r) (hr.yF zd)) (qj hr.z h1 hM)
theorem oq.dbq{c d:Nat→Int}{K:Nat}{g:Nat→Int}(h:oq c d (21*K+3) g):Db (63*K+9) g:=(Lb.db h.b).mono (by omega)
theorem aju{K KC N:Nat}{c d:Nat→Int}(zc:bC c)(zd:bC d)(hN:N≤10)(EW:lg c≤N)(hd10:lg d≤N)(hK1:1≤K)(nU:(K+1)*(2*3^N)≤KC)(hC:KC≤90000):aC Tryz.prog 80 [.one (dM K (lg c) (rc c)),.one (dM K (lg d) (rc d))] (.d (.one (aX (oq c d (21*K+3)) (fun g=>dM (63*K+9) (lg g) (rc g))))):=by
 have hlc:=dO c;have hld:=dO d;have hKKC:K+1≤KC:=acS (aeT _ (agQ (by decide) (aeA (by decide)))) nU;refine aC.nH (fJ Tryz.func80 rfl rfl) (p:=Db K c∧Db K d) (fun B w vs h=>match vs,h with | [_,_],⟨h1,h2,_⟩=>⟨ny zc.lg h1,ny zd.lg h2⟩) (fun hb=>?_);obtain ⟨hbc,hbd⟩:=hb;have lbc:Lb K c:=(hbc.mono (by omega)).lb;have lbd:Lb K d:=(hbd.mono (by omega)).lb;refine aN 18 [.tmp 4] Tryz.func80 rfl<|cR<|mW rfl<|mT<|cR<|mW rfl<|mY (qj zc) rfl<|mW rfl<|mY (qj zd) rfl<|mE 2 rfl<|mT<|au<|aI<|dU (ι:=Nat×(Nat→Int)×(Nat→Int)) (fun (p:Nat×(Nat→Int)×(Nat→Int))=>match p with | (X,a,b)=>⟨18,[(0,.d (.one (.row 4 (lg a) (aJ X (rc a))))),(1,.d (.one (.row 4 (lg b) (aJ X (rc b))))),(4,.d (.one (.v (.slice none 0 0))))],[]⟩) (fun (p:Nat×(Nat→Int)×(Nat→Int))=>match p with | (X,a,b)=>bC a∧bC b∧CB (FF c) (FF d) (FF a) (FF b)∧Db X a∧Db X b∧lg a≤N∧lg b≤N∧1≤X∧Xo K N X (lg a) (lg b)∧(lg a≠0→Pm (lg a) a)∧(lg b≠0→Pm (lg b) b)) (fun (p:Nat×(Nat→Int)×(Nat→Int))=>match p with | (X,a,b)=>lg b) (K,(bH c),(bH d)) (⟨gK zc,gK zd,Oa zc zd,hbc.su,hbd.su,by rw [dL zc];exact EW,by rw [dL zd];exact hd10,hK1,.start (by rw [dL zc];exact EW),fun h0=>kE zc (by rw [← dL zc];exact h0),fun h0=>kE zd (by rw [← dL zd];exact h0)⟩) (wkr rfl rfl) ?_;rintro ⟨X,a,b⟩ hI;obtain ⟨za,zb,aS,hba,hbb,WE,Nl,hX1,hG,hpa,hpb⟩:bC a∧bC b∧CB (FF c) (FF d) (FF a) (FF b)∧Db X a∧Db X b∧lg a≤N∧lg b≤N∧1≤X∧Xo K N X (lg a) (lg b)∧(lg a≠0→Pm (lg a) a)∧(lg b≠0→Pm (lg b) b):=hI;show AW _ _ _ ⟨_,_,_⟩
 refine au<|au ?_;have hXK:=hG.bd nU
 by_cases hb0:lg b=0
 ·exact aA<|mE 2 rfl<|mdF rfl (by omega)<|mT<|cF rfl<|dP<|tE<|tE<|bE<|tN<|cR<|mE 2 rfl<|mT<|aH<|rQ rfl (by have hgf:=Nj zc zd za zb aS hb0 lbc lbd (by omega) (by omega);exact fun ρ B w v hv=>lT (Q:=oq c d (21*K+3)) (L:=fun g=>dM (63*K+9) (lg g) (rc g)) (bH a) hgf ρ B w v (by rw [oO za hpa];exact jc (by omega) (by have hd:=hgf.dbq;rwa [oO za hpa] at hd) ρ B w v hv))
 ·refine aA<|mE 2 rfl<|mdT rfl (by omega)<|mT<|cT rfl<|aF<|tN<|aI ?_;have hg1:lg b-1 < lg b:=by omega
  have hN1:=(hG.step WE Nl hg1).bd nU;refine aA<|mE 3 rfl<|mY (RV (M:=(X+(lg a+1-lg b)*(X+1))) za zb hb0 (by omega) (by omega) (by omega) (by omega) (abJ _)) rfl<|mY (Ut zb) rfl<|mEx (Qx:=RpP a b (X+(lg a+1-lg b)*(X+1))) (L:=fun r=>dM (X+(lg a+1-lg b)*(X+1)) (lg r) (rc r)) 16 rfl (fun R hR=>?_);exact mE 2 rfl<|ak<|bN<|⟨((X+(lg a+1-lg b)*(X+1)),b,R),⟨zb,hR.z,aS.trans hR.idp,hbb.mono (aiL _ _),hR.b,Nl,by have:=hR.lt;omega,by omega,hG.step WE Nl hR.lt,hpb,hR.pm⟩,hR.lt,wkv [0] [] ⟨fQ rfl (jc (by omega) (hbb.mono (aiL _ _))),Pe⟩ trivial rfl rfl⟩
def Em(c:Nat→Int):Nat→Int:=uK c (lg c)
theorem LU{c:Nat→Int}(z:bC c):bC (Em c):=Au z
theorem Ov{c:Nat→Int}(h:iD c (lg c) < 0)(i:Nat):Em c i= -(bH c i):=by
 have e:iD c (lg c)= -((bF c (lg c):Nat):Int):=by {unfold iD at h ⊢;by_cases k:c (lg c-1) < 0;{rw [if_pos k] at h ⊢;try omega};{rw [if_neg k] at h ⊢;try omega}}
 unfold Em uK bH yF su;rw [e,Int.ediv_neg];omega
theorem Ox{c:Nat→Int}(h:¬ iD c (lg c) < 0)(i:Nat):Em c i=bH c i:=by
 have e:iD c (lg c)=((bF c (lg c):Nat):Int):=by {unfold iD at h ⊢;by_cases k:c (lg c-1) < 0;{rw [if_pos k] at h ⊢;try omega};{rw [if_neg k] at h ⊢;try omega}}
 unfold Em uK bH yF su;rw [e]
theorem abn{c:Nat→Int}(z:bC c):lg (Em c)=lg (bH c):=by
 by_cases h:iD c (lg c) < 0
 ·have h1:lg (Em c)≤lg (bH c):=jv (LU z) fun i hi=>by rw [Ov h,(gK z).lg i hi];rfl
  have h2:lg (bH c)≤lg (Em c):=jv (gK z) fun i hi=>by have:=(LU z).lg i hi;rw [Ov h] at this;omega
  omega
 ·have e:Em c=bH c:=funext (Ox h)
  rw [e]
theorem abm{c:Nat→Int}{K:Nat}(h:Db K c):Db K (Em c):=h.su
theorem alQ{c:Nat→Int}(z:bC c)(h0:lg c≠0):∃ s:Rat,0 < s∧∀ x,FF c x=s*FF (Em c) x:=by
 refine ⟨((bF c (lg c):Nat):Rat),by exact_mod_cast z.ip.uy h0,fun x=>?_⟩;have h:=Jq z.lg x;rwa [show pf (uK c (lg c)) (lg c)=FF (Em c) from yI (AX z.lg) (LU z),iO z] at h
theorem Uw{K:Nat}{c:Nat→Int}(zc:bC c)(hK1:1≤K)(hK:K≤100000):aC Tryz.prog 75 [.one (dM K (lg c) (rc c))] (.d (.one (dM K (lg (Em c)) (rc (Em c))))):=by
 refine aC.nH (fJ Tryz.func75 rfl rfl) (p:=Db K c) (fun B w vs h=>match vs,h with | [_],⟨h1,_⟩=>ny zc.lg h1) (fun hb=>?_);refine aN 16 [.tmp 2] Tryz.func75 rfl<|cR<|mW rfl<|mT<|cR<|mW rfl<|mY (Us zc) rfl<|mE 3 rfl<|mO rfl<|mZ rfl<|mW rfl<|mT<|au<|cR<|mE 3 rfl<|mT<|aW rfl (fun hc1=>?_) (fun hc1=>?_)
 ·refine au ?_;have hln:=dO (bH c);exact aA<|mW rfl<|mY (X4 (yE (K:=K) (c:=(rc (bH c))) (qM (gK zc).lg)) (M:=(max (K+65) 64))) rfl<|mW rfl<|mT<|aH<|tR<|rQ rfl (by have hs0:iD c (lg c) < 0:=abM hc1;have e:∀ i,gG (rc (bH c)) ((-1:Int):Rat) i=rc (Em c) i:=fun i=>by {show ((bH c i:Int):Rat)*((-1:Int):Rat)=((Em c i:Int):Rat);rw [Ov hs0,← Rat.intCast_mul];congr 1;omega};have ef:gG (rc (bH c)) ((-1:Int):Rat)=rc (Em c):=funext e;rw [ef];exact ql (by rw [← abn zc];exact uV (LU zc).lg (LU zc)) hK1 (abm hb))
 ·exact aF<|tN<|cR<|mE 2 rfl<|mT<|aH<|rQ rfl (by have hs0:¬ iD c (lg c) < 0:=abL hc1;have ef:Em c=bH c:=funext (Ox hs0);rw [ef];exact AV.le.rfl)
def Kr(S:List Int):Nat→Nat→Lf:=fun i _=> vI (S.getD i 0)
theorem aco{S:List Int}(h3:∀ i,S.getD i 0= -1∨S.getD i 0=0∨S.getD i 0=1)(hL:S.length≤100000):aC Tryz.prog 143 [.one (.row 1 S.length (Kr S))] (dI ((vr S:Nat):Int)):=by
 refine aN 34 [.tmp 2] Tryz.func143 rfl<|cR<|mW rfl<|mT<|cR<|mE 2 rfl<|mT<|au<|cR<|mE 3 rfl<|mT<|aI<|dU (ι:=Nat×Nat×Int) (fun (p:Nat×Nat×Int)=>match p with | (i,nn,m)=>⟨34,[(0,.d (.one (.row 1 S.length (Kr S)))),(2,dI 0),(6,.d (.one (.row 1 S.length (Kr S)))),(7,dI (S.length:Int)),(8,dI (i:Int)),(3,dI (nn:Int)),(4,dI m)],[]⟩) (fun (p:Nat×Nat×Int)=>match p with | (i,nn,m)=>i≤S.length∧nn≤i∧nn+Cb m (S.drop i)=vr S∧(m= -1∨m=0∨m=1)) (fun (p:Nat×Nat×Int)=>match p with | (i,nn,m)=>S.length-i) (0,0,0) (⟨abR _,abJ _,by rw [List.drop_zero,Nat.zero_add];rfl,Or.inr (Or.inl rfl)⟩) (wkv [4,5] [] ⟨fQ rfl (aG rfl),fQ rfl (aG rfl),Pe⟩ trivial rfl rfl) ?_;rintro ⟨i,nn,m⟩ hI;obtain ⟨hi,hni,hv,hm3⟩:i≤S.length∧nn≤i∧nn+Cb m (S.drop i)=vr S∧(m= -1∨m=0∨m=1):=hI;show AW _ _ _ ⟨_,_,_⟩
 refine cR<|mW rfl<|mT<|au<|aW rfl (fun hc1=>?_) (fun hc1=>?_)
 ·refine aF<|tN<|au<|aI<|au ?_;have hin:i < S.length:=by have h0:=abM hc1;omega
  have hd:=abz (m:=m) hin;have hb3:=h3 i;refine aA<|mE 2 rfl<|mT<|au ?_
  by_cases h0:S.getD i 0=0
  ·refine aA<|mE 2 rfl<|mV aj (.d (.one (.at 1 ((Kr S) i)))) (jZ (el:=(Kr S)) (z:=(i:Int)) (n:=S.length) rfl rfl rfl rfl rfl rfl (by omega) (by omega)) ?_;exact mW rfl<|mbF rfl (by rw [h0];rfl)<|mT<|cF rfl<|aF<|bN<|tN<|aA<|mE 2 rfl<|ak<|⟨((i+1),nn,m),⟨by omega,by omega,by rw [if_pos h0] at hd;omega,hm3⟩,by show S.length-(i+1) < S.length-i;omega,wkv [4] [] ⟨fQ rfl (aG (dF (by omega))),Pe⟩ trivial rfl rfl⟩
  ·refine aA<|mE 2 rfl<|mV aj (.d (.one (.at 1 ((Kr S) i)))) (jZ (el:=(Kr S)) (z:=(i:Int)) (n:=S.length) rfl rfl rfl rfl rfl rfl (by omega) (by omega)) ?_;refine mW rfl<|mbT rfl (afA.2 h0)<|mT<|cT rfl<|au<|au ?_
   by_cases hm0:m=0
   ·refine aA<|mW rfl<|mbF rfl (by rw [hm0];rfl)<|mW rfl<|mG rfl rfl<|mG rfl rfl<|mG rfl rfl<|mG rfl rfl<|mG rfl rfl<|mG rfl rfl<|mW rfl<|mT<|cFs rfl<|aA<|mE 2 rfl<|mV aj (.d (.one (.at 1 ((Kr S) i)))) (jZ (el:=(Kr S)) (z:=(i:Int)) (n:=S.length) rfl rfl rfl rfl rfl rfl (by omega) (by omega)) ?_;exact mE 2 rfl<|ak<|bN<|tN<|aA<|mE 2 rfl<|ak<|⟨((i+1),nn,(S.getD i 0)),⟨by omega,by omega,by rw [if_neg h0,if_neg (by omega)] at hd;omega,hb3⟩,by show S.length-(i+1) < S.length-i;omega,wkv [4] [] ⟨fQ rfl (aG (dF (by omega))),Pe⟩ trivial rfl rfl⟩
   ·by_cases hsm:S.getD i 0=m
    ·refine aA<|mW rfl<|mbT rfl (afA.2 hm0)<|mE 3 rfl<|mV aj (.d (.one (.at 1 ((Kr S) i)))) (jZ (el:=(Kr S)) (z:=(i:Int)) (n:=S.length) rfl rfl rfl rfl rfl rfl (by omega) (by omega)) ?_;refine mE 2 rfl<|mbF rfl (by rw [hsm];exact afO m)<|mW rfl<|mT<|cFs rfl<|aA<|mE 2 rfl<|mV aj (.d (.one (.at 1 ((Kr S) i)))) (jZ (el:=(Kr S)) (z:=(i:Int)) (n:=S.length) rfl rfl rfl rfl rfl rfl (by omega) (by omega)) ?_;exact mE 2 rfl<|ak<|bN<|tN<|aA<|mE 2 rfl<|ak<|⟨((i+1),nn,(S.getD i 0)),⟨by omega,by omega,by rw [if_neg h0,if_neg (by omega)] at hd;omega,hb3⟩,by show S.length-(i+1) < S.length-i;omega,wkv [4] [] ⟨fQ rfl (aG (dF (by omega))),Pe⟩ trivial rfl rfl⟩
    ·refine aA<|mW rfl<|mbT rfl (afA.2 hm0)<|mE 3 rfl<|mV aj (.d (.one (.at 1 ((Kr S) i)))) (jZ (el:=(Kr S)) (z:=(i:Int)) (n:=S.length) rfl rfl rfl rfl rfl rfl (by omega) (by omega)) ?_;refine mE 2 rfl<|mbT rfl (afA.2 hsm)<|mW rfl<|mT<|cT rfl<|aA<|mE 3 rfl<|mT<|aA<|mE 2 rfl<|mV aj (.d (.one (.at 1 ((Kr S) i)))) (jZ (el:=(Kr S)) (z:=(i:Int)) (n:=S.length) rfl rfl rfl rfl rfl rfl (by omega) (by omega)) ?_;exact mE 2 rfl<|ak<|bN<|tN<|aA<|mE 2 rfl<|ak<|⟨((i+1),(nn+1),(S.getD i 0)),⟨by omega,by omega,by rw [if_neg h0,if_pos (by omega)] at hd;omega,hb3⟩,by show S.length-(i+1) < S.length-i;omega,wkv [4,5] [] ⟨fQ rfl (aG (dF (by omega))),fQ rfl (aG (dF (by omega))),Pe⟩ trivial rfl rfl⟩
 ·exact dP<|tE<|tE<|bE<|tN<|cR<|mE 2 rfl<|mT<|aH<|rQ rfl (aG (by have h0:=abL hc1;rw [aew (by omega)] at hv;omega))
theorem Ey.pow{a b:Fn}(h:Ey a b)(pa:Po a)(pb:Po b):∀ n:Nat,Ey a (fun x=>b x^n)
 | 0=>⟨fun _=>0,fun _=>1,bZ 0,bZ 1,fun x=>by show 0*a x+1*b x^0=1;rw [Rat.pow_zero];grind⟩
 | n+1=>by
  have h1:=(h.pow pa pb n).mul h pa (pb.pow n) pb;rwa [show (fun x=>b x^(n+1))=fun x=>b x^n*b x from funext fun x=>Rat.pow_succ _ _]
/-- What is squarefree and divides a power divides. -/
theorem abd{s s' t:Fn}(h:AB s s')(hne:∃ x,s x≠0)(pt:Po t){N:Nat}(hd:Dv s (fun x=>t x^N)):Dv s t:=by
 obtain ⟨m,ht⟩:=pt;obtain ⟨d,u,v,p,q,pd,pu,pv,pp,pq,e1,e2,e3⟩:=Ju m s t h.po ht;obtain ⟨d',pd',dd⟩:=pd.AP;obtain ⟨p',pp',dp⟩:=pp.AP;have cpd:Ey p d:=h.YE pp pd pp' pd' dp dd e2;have dne:∃ x,d x≠0:=by obtain ⟨x,hx⟩:=hne;exact ⟨x,fun e=>hx (by rw [e2,e,Rat.mul_zero])⟩
 have cpq:Ey p q:=⟨u,v,pu,pv,nK pd dne ((pu.mul pp).add (pv.mul pq)) (bZ 1) (fun x=>by have a:=e1 x;rw [e2,e3] at a;grind)⟩;have cpt:Ey p t:=by have h1:=cpq.mul cpd pp pq pd;rwa [show (fun x=>q x*d x)=t from funext fun x=>(e3 x).symm] at h1
 have cpN:=cpt.pow pp ⟨m,ht⟩ N;have dps:Dv p s:=⟨d,pd,fun x=>by rw [e2];exact aiF _ _⟩;obtain ⟨w,pw,hw⟩:=cpN.dv (bZ 1) ((dps.trans hd).als (bZ 1));exact ⟨fun x=>w x*q x,pw.mul pq,fun x=>by have h1:=hw x;have h2:=e2 x;have h3:=e3 x;grind⟩
/-- Primitive rows that divide each other are one. -/
theorem alG{f g:Nat→Int}(zf:bC f)(zg:bC g)(mf:Pm (lg f) f)(mg:Pm (lg g) g)(h1:Dv (FF f) (FF g))(h2:Dv (FF g) (FF f)):f=g:=by
 have l1:=(l9 zg zf mg.pos h1).2;have l2:=(l9 zf zg mf.pos h2).2;obtain ⟨W,pW,hW⟩:=h1;obtain ⟨w,k,hw,hc,_⟩:=nT zg.lg zf.lg mf.one pW (fun x=>by rw [iO zg,iO zf];exact hW x);have zw:=LH zf zg mf.pos hw hc;obtain ⟨hlq,_⟩:=BQ zw zf zg hc mf.pos;have hl1:lg w=1:=by omega
 have mw:=TP zw zf zg hc mf mg;have hd:(w 0).natAbs∣bF w (lg w):=wC fun i hi=>by
  obtain rfl:i=0:=by omega
  exact Nat.dvd_refl _
 rw [mw.one] at hd;have h0:0 < w 0:=by have h:=mw.lead;rw [hl1] at h;exact h
 have hw1:w 0=1:=by have:=Nat.dvd_one.1 hd;omega
 have hF:∀ x,FF w x=1:=fun x=>by rw [← iO zw,hl1];exact zG.trans (by rw [hw1];rfl)
 have e:aY w f=g:=funext hc;refine funext (H6 zf zg fun x=>?_);have h9:=rC (n:=1) (m:=20) (a:=w) (b:=f) (fun i hi=>zw.lg i (by omega)) zf x;rw [e,yI (c:=g) (n:=1+20) (fun i hi=>zg i (by omega)) zg] at h9;have h8:=hF x;rw [← iO zw,hl1] at h8;rw [h9,h8];show FF f x=1*FF f x
 grind
theorem wS.uniq{c f g:Nat→Int}{M M':Nat}(h:wS c M f)(k:wS c M' g):f=g:=by
 have key:∀ {f g:Nat→Int} {M M':Nat},wS c M f→wS c M' g→Dv (FF f) (FF g):=by
  intro f g M M' h k;obtain ⟨N,w,pw,e⟩:=k.pw;exact abd h.sq (abI h.z h.ne) (dh k.z) (h.dv.trans ⟨w,pw,e⟩)
 exact alG h.z k.z h.pm k.pm (key h k) (key k h)
/-- THE SQUAREFREE PART. -/
noncomputable def fG(c:Nat→Int):Nat→Int:=open Classical in if h:∃ f M,wS c M f then h.choose else c
theorem wS.eq{c f:Nat→Int}{M:Nat}(h:wS c M f):f=fG c:=by
 have hx:∃ f M,wS c M f:=⟨f,M,h⟩
 unfold fG;rw [dif_pos hx];obtain ⟨M',h'⟩:=hx.choose_spec;exact h.uniq h'
theorem wS.self{c f:Nat→Int}{M:Nat}(h:wS c M f):wS c M (fG c):=h.eq▸h
/-- What is squarefree is its own part. -/
theorem Ei{c:Nat→Int}{M:Nat}(z:bC c)(b:Lb M c)(pm:Pm (lg c) c)(h:AB (FF c) (FF (bP c))):wS c M c:=⟨z,b,pm,Dv.refl _,⟨1,fun _=>1,bZ 1,fun x=>by rw [aia];grind⟩,h⟩
theorem KW{c:Nat→Int}(z:bC c):∃ K,1≤K∧Lb K c:=by
 have key:∀ n:Nat,∃ K,1≤K∧∀ i,i < n→(c i).natAbs < bT^K:=by
  intro n
  induction n with
  | zero=>exact ⟨1,abJ _,fun i hi=>absurd hi (ab2 _)⟩
  | succ n ih=>
   obtain ⟨K,h1,h⟩:=ih;refine ⟨K+(c n).natAbs,by omega,fun i hi=>?_⟩
   by_cases e:i < n
   ·exact acC (h i e) (ab1 (by decide) (by omega))
   ·obtain rfl:i=n:=by omega
    exact acC (acC Nat.lt_two_pow_self (afb (show 2≤bT by decide) _)) (ab1 (by decide) (by omega))
 obtain ⟨K,h1,h⟩:=key 20;exact ⟨K,h1,fun i=>by
  by_cases hi:i < 20
  ·exact h i hi
  ·rw [z i (by omega)];exact aeA (by decide)⟩
/-- The primitive row of length one. -/
theorem ah9{r:Nat→Int}(z:bC r)(pm:Pm (lg r) r)(h:lg r=1):r=iM 1:=by
 have hd:(r 0).natAbs∣bF r (lg r):=wC fun i hi=>by
  obtain rfl:i=0:=by omega
  exact Nat.dvd_refl _
 rw [pm.one] at hd;have h0:0 < r 0:=by have k:=pm.lead;rw [h] at k;exact k
 have h1:r 0=1:=by have:=Nat.dvd_one.1 hd;omega
 funext i
 by_cases hi:i=0
 ·subst hi;exact h1
 ·rw [xX i (by omega)];exact z.lg i (by omega)
theorem jV:bC (iM 1):=fun i hi=>xX i (by omega)
theorem oN:lg (iM 1)=1:=by decide
theorem G7:Pm (lg (iM 1)) (iM 1):=⟨jV.ip,by rw [oN];decide,by rw [oN];decide,by rw [oN];decide⟩
theorem xW(x:Rat):FF (iM 1) x=1:=by rw [← iO jV,oN];exact zG.trans rfl
theorem VK:fG (iM 1)=iM 1:=by
 obtain ⟨M,_,hM⟩:=KW jV;exact (Ei jV hM G7 ⟨dh jV,dh (fA jV),qH jV,fun _=>1,fun _=>0,bZ 1,bZ 0,fun x=>by rw [xW];grind⟩).eq.symm
/-- One step down. -/
theorem Ot{r g:Nat→Int}{M:Nat}(zr:bC r)(pr:Pm (lg r) r)(h2:2≤lg r)(h10:lg r≤10)(hg:oq r (bP r) M g):(∃ M',wS r M' (fG r))∧∀ i,aY (fG r) g i=r i:=by
 have e:bH r=r:=oO zr fun _=>pr
 obtain ⟨hg0,hgl⟩:=hg.le zr pr.pos;obtain ⟨W,pW,hW⟩:=hg.IV.da;obtain ⟨w,k,hw,hc,_⟩:=nT zr.lg hg.z.lg (hg.pm hg0).one pW (fun x=>by rw [iO zr,iO hg.z];exact hW x);have zw:=LH hg.z zr hg0 hw hc;obtain ⟨K,_,hK⟩:=KW zr;have hs:wS r (21*K+3) w:=alO zr h2 h10 hK (by rw [e];exact hg) zw (by rw [e];exact hc);exact ⟨⟨_,hs.self⟩,by rw [← hs.eq];exact hc⟩
/-- FACTORS on the way: what stands k times at least. -/
structure Ru(c:Nat→Int)(Rs:List (Nat→Int)):Prop where
 ne:1≤Rs.length
 h0:gl Rs 0=bH c
 z:∀ i,bC (gl Rs i)
 pm:∀ i,i < Rs.length→Pm (lg (gl Rs i)) (gl Rs i)
 dv:∀ i,i < Rs.length→Dv (FF (gl Rs i)) (FF c)
 l:∀ i,lg (gl Rs i)≤lg c
 st:∀ i,i+1 < Rs.length→2≤lg (gl Rs i)∧∃ M,oq (gl Rs i) (bP (gl Rs i)) M (gl Rs (i+1))
 ln:Rs.length+lg (gl Rs (Rs.length-1))≤lg c+1
theorem GY{L:List (Nat→Int)}{i:Nat}(h:L.length≤i):gl L i=fun _=>0:=by
 unfold gl;rw [List.getD_eq_getElem?_getD,List.getElem?_eq_none h];rfl
theorem MV{c:Nat→Int}(z:bC c)(h0:lg c≠0):Dv (FF (bH c)) (FF c):=by
 obtain ⟨s,hs0,hs⟩:=xk z h0;exact ⟨fun _=>s,bZ s,hs⟩
theorem Ru.start{c:Nat→Int}(zc:bC c)(h2:2≤lg c):Ru c [bH c]:=by
 have hl:=dL zc;refine ⟨abJ _,rfl,fun i=>?_,fun i hi=>?_,fun i hi=>?_,fun i=>?_,fun i hi=>absurd hi (by show ¬ i+1 < 1;omega),by show 1+lg (bH c)≤_;omega⟩
 ·cases i with
  | zero=>exact gK zc
  | succ i=>rw [GY (by show 1≤i+1;omega)];exact lY
 ·obtain rfl:i=0:=by have:i < 1:=hi;omega
  exact kE zc (by omega)
 ·obtain rfl:i=0:=by have:i < 1:=hi;omega
  exact MV zc (by omega)
 ·cases i with
  | zero=>exact Nat.le_of_eq hl
  | succ i=>rw [GY (by show 1≤i+1;omega)];exact acS (jv (n:=0) lY fun _ _=>rfl) (abR _)
theorem lV{L:List (Nat→Int)}{b:Nat→Int}(i:Nat):gl (L ++ [b]) i=if i < L.length then gl L i else if i=L.length then b else fun _=>0:=by
 split
 ·rename_i h;exact yT h
 ·split
  ·rename_i h;rw [h];exact uD
  ·exact GY (by rw [List.length_append];show L.length+1≤i;omega)
theorem E8{c:Nat→Int}(z:bC c)(h:lg c≠0):lg (bP c) < lg c:=by
 have:lg (bP c)≤lg c-1:=jv (fA z) fun i hi=>ER z.lg i (by omega)
 omega
theorem Ru.step{c g:Nat→Int}{Rs:List (Nat→Int)}{M:Nat}(h:Ru c Rs)(zc:bC c)(h0:lg c≠0)(h2:2≤lg (gl Rs (Rs.length-1)))(hg:oq (gl Rs (Rs.length-1)) (bP (gl Rs (Rs.length-1))) M g):Ru c (Rs ++ [g]):=by
 have hne:=h.ne;have zl:=h.z (Rs.length-1);have hd2:lg (bP (gl Rs (Rs.length-1)))≠0:=fun e=>by have:=wu zl e;omega
 obtain ⟨hg0,hgl⟩:=hg.le' (fA zl) hd2;have hlt:=E8 zl (by omega);have hll:=h.l (Rs.length-1);have hlen:(Rs ++ [g]).length=Rs.length+1:=by rw [List.length_append];rfl
 refine ⟨by omega,by rw [yT (by omega)];exact h.h0,fun i=>?_,fun i hi=>?_,fun i hi=>?_,fun i=>?_,fun i hi=>?_,?_⟩
 ·rw [lV];split;exact h.z i;split;exact hg.z;exact lY
 ·rw [lV];split
  ·rename_i h1;exact h.pm i h1
  ·rw [if_pos (by omega)];exact hg.pm hg0
 ·rw [lV];split
  ·rename_i h1;exact h.dv i h1
  ·rw [if_pos (by omega)];exact hg.IV.da.trans (h.dv _ (by omega))
 ·rw [lV];split;exact h.l i;split;omega;exact acS (jv (n:=0) lY fun _ _=>rfl) (abR _)
 ·rw [lV i,lV (i+1),if_pos (by omega)]
  by_cases e:i+1 < Rs.length
  ·rw [if_pos e];exact h.st i e
  ·rw [if_neg e,if_pos (by omega)]
   obtain rfl:i=Rs.length-1:=by omega
   exact ⟨h2,M,hg⟩
 ·rw [hlen,Nat.add_sub_cancel,uD];have:=h.ln;omega
/-- The list with 1 behind. -/
structure XG(c:Nat→Int)(Rs:List (Nat→Int)):Prop where
 len:2≤Rs.length
 l11:Rs.length≤lg c+1
 h0:gl Rs 0=bH c
 z:∀ i,bC (gl Rs i)
 pm:∀ i,i < Rs.length→Pm (lg (gl Rs i)) (gl Rs i)
 dv:∀ i,i < Rs.length→Dv (FF (gl Rs i)) (FF c)
 l:∀ i,lg (gl Rs i)≤lg c
 q1:∀ i,i+1 < Rs.length→∀ j,aY (fG (gl Rs i)) (gl Rs (i+1)) j=gl Rs i j
 sq:∀ i,i < Rs.length→∃ M,wS (gl Rs i) M (fG (gl Rs i))
 l1:gl Rs (Rs.length-1)=iM 1
 l2:gl Rs (Rs.length-2)=iM 1
 lo:Rs.length=2∨2≤lg (gl Rs (Rs.length-3))
theorem AB.fin{f f':Fn}(h:AB f f'){g:Fn}(h1:Dv g f)(h2:Dv g f'):Dv g (fun _=>1):=by
 obtain ⟨u,v,pu,pv,e⟩:=h.cop;obtain ⟨p,pp,k1⟩:=h1;obtain ⟨q,pq,k2⟩:=h2;exact ⟨fun x=>u x*p x+v x*q x,(pu.mul pp).add (pv.mul pq),fun x=>by have h3:=e x;have h4:=k1 x;have h5:=k2 x;grind⟩
theorem Ru.one{c:Nat→Int}{Rs:List (Nat→Int)}(h:Ru c Rs)(zc:bC c)(h0:lg c≠0)(hs:AB (FF c) (FF (bP c))):Rs.length≤2:=by
 apply abP;intro hn;obtain ⟨_,M,hg⟩:=h.st 0 (by omega);obtain ⟨h2,_⟩:=h.st 1 (by omega);rw [h.h0] at hg;have zp:=gK zc;obtain ⟨q,pq,hq⟩:=MV zc h0;have sp:AB (FF (bH c)) (FF (bP (bH c))):=hs.dv (dh zp) pq (dh (fA zp)) (qH zp) (fun x=>by rw [hq];exact aiF _ _);have h1:=sp.fin hg.IV.da hg.IV.db;have z1:=h.z 1;have h3:=l9 jV z1 (by rw [oN];decide) (h1.congr fun x=>(xW x).symm);have:=h3.2;rw [oN] at this;omega
theorem Ru.fin{c:Nat→Int}{Rs:List (Nat→Int)}(h:Ru c Rs)(zc:bC c)(h2:2≤lg c)(h10:lg c≤10)(hl:lg (gl Rs (Rs.length-1))≤1):XG c (Rs ++ [iM 1]):=by
 have hne:=h.ne;have hln:=h.ln;have hlast:gl Rs (Rs.length-1)=iM 1:=ah9 (h.z _) (h.pm _ (by omega)) (by have:=(h.pm (Rs.length-1) (by omega)).pos;omega);have hlen:(Rs ++ [iM 1]).length=Rs.length+1:=by rw [List.length_append];rfl
 have h2l:2≤Rs.length:=by
  apply abP;intro hn;have e:Rs.length-1=0:=by omega
  rw [e,h.h0,dL zc] at hl;omega
 have hlg1:lg (gl Rs (Rs.length-1))=1:=by rw [hlast];exact oN
 refine ⟨by omega,by omega,by rw [yT (by omega)];exact h.h0,fun i=>?_,fun i hi=>?_,fun i hi=>?_,fun i=>?_,fun i hi=>?_,fun i hi=>?_,by rw [hlen,Nat.add_sub_cancel];exact uD,by rw [hlen,show Rs.length+1-2=Rs.length-1 by omega,yT (by omega)];exact hlast,?_⟩
 ·rw [lV];split;exact h.z i;split;exact jV;exact lY
 ·rw [lV];split
  ·rename_i h1;exact h.pm i h1
  ·rw [if_pos (by omega)];exact G7
 ·rw [lV];split
  ·rename_i h1;exact h.dv i h1
  ·rw [if_pos (by omega)];exact ⟨FF c,dh zc,fun x=>by rw [xW];grind⟩
 ·rw [lV];split;exact h.l i;split;rw [oN];omega;exact acS (jv (n:=0) lY fun _ _=>rfl) (abR _)
 ·rw [lV i,lV (i+1),if_pos (by omega)]
  by_cases e:i+1 < Rs.length
  ·rw [if_pos e]
   obtain ⟨k2,M,hg⟩:=h.st i e;exact (Ot (h.z i) (h.pm i (by omega)) k2 (by have:=h.l i;omega) hg).2
  ·rw [if_neg e,if_pos (by omega)]
   obtain rfl:i=Rs.length-1:=by omega
   rw [hlast,VK];have h9:∀ x,FF (aY (iM 1) (iM 1)) x=FF (iM 1) x:=fun x=>by
    rw [qW (n:=1) (m:=1) (fun i hi=>xX i hi) (fun i hi=>xX i hi) (by omega) jV jV,xW];grind
   exact H6 (bC.of (gu (n:=1) (m:=1) (fun i hi=>xX i hi) (fun i hi=>xX i hi)) (by omega)) jV h9
 ·rw [lV]
  have h1:∃ M,wS (iM 1) M (fG (iM 1)):=by
   obtain ⟨M,_,hM⟩:=KW jV;exact ⟨M,(Ei jV hM G7 ⟨dh jV,dh (fA jV),qH jV,fun _=>1,fun _=>0,bZ 1,bZ 0,fun x=>by rw [xW];grind⟩).self⟩
  split
  ·rename_i e
   by_cases e2:i+1 < Rs.length
   ·obtain ⟨k2,M,hg⟩:=h.st i e2
    exact (Ot (h.z i) (h.pm i (by omega)) k2 (by have:=h.l i;omega) hg).1
   ·obtain rfl:i=Rs.length-1:=by omega
    rw [hlast];exact h1
  ·rw [if_pos (by omega)];exact h1
 ·rw [hlen]
  refine Or.inr ?_;rw [show Rs.length+1-3=Rs.length-2 by omega,yT (by omega)];exact (h.st (Rs.length-2) (by omega)).1
section
variable {c:Nat→Int} {Rs:List (Nat→Int)}
theorem XG.quo(h:XG c Rs)(h10:lg c≤10)(i:Nat)(hi:i+2 < Rs.length):∃ f,bC f∧Pm (lg f) f∧(∀ j,aY f (fG (gl Rs (i+1))) j=fG (gl Rs i) j)∧Dv (FF f) (FF c):=by
 obtain ⟨M,k⟩:=h.sq i (by omega);obtain ⟨M',k'⟩:=h.sq (i+1) (by omega);have hq:=h.q1 i (by omega);have hx:lg (fG (gl Rs i))≤lg c:=by
  have h1:=(l9 (h.z i) k.z (h.pm i (by omega)).pos k.dv).2;have:=h.l i;omega
 have d1:Dv (FF (gl Rs (i+1))) (FF (gl Rs i)):=⟨FF (fG (gl Rs i)),dh k.z,fun x=>by
  rw [← qW k.z.lg (h.z (i+1)).lg (by have:=h.l (i+1);omega) k.z (h.z (i+1)),show aY (fG (gl Rs i)) (gl Rs (i+1))=gl Rs i from funext hq]⟩
 obtain ⟨N,w,pw,e⟩:=k.pw;have d2:Dv (FF (fG (gl Rs (i+1)))) (FF (fG (gl Rs i))):=abd k'.sq (abI k'.z k'.ne) (dh k.z) ((k'.dv.trans d1).trans ⟨w,pw,e⟩);obtain ⟨W,pW,hW⟩:=d2;obtain ⟨f,n,hf,hc,_⟩:=nT k.z.lg k'.z.lg k'.pm.one pW (fun x=>by rw [iO k.z,iO k'.z];exact hW x);have zf:=LH k'.z k.z k'.ne hf hc;refine ⟨f,zf,TP zf k'.z k.z hc k'.pm k.pm,hc,?_⟩;have hlq:=(BQ zf k'.z k.z hc k'.ne).1;have d3:Dv (FF f) (FF (fG (gl Rs i))):=⟨FF (fG (gl Rs (i+1))),dh k'.z,fun x=>by
  rw [← show aY f (fG (gl Rs (i+1)))=fG (gl Rs i) from funext hc,qW zf.lg k'.z.lg (by have:=k'.ne;have:=dO (fG (gl Rs (i+1)));omega) zf k'.z];exact aiF _ _⟩
 exact (d3.trans k.dv).trans (h.dv i (by omega))
noncomputable def qJ(Rs:List (Nat→Int))(i:Nat):Nat→Int:=open Classical in if h:∃ f,bC f∧∀ j,aY f (fG (gl Rs (i+1))) j=fG (gl Rs i) j then h.choose else fun _=>0
theorem V8{f f' d p:Nat→Int}(zf:bC f)(zf':bC f')(zd:bC d)(zp:bC p)(hd:lg d≠0)(h:∀ j,aY f d j=p j)(h':∀ j,aY f' d j=p j)(hl:lg p≤10):f=f':=by
 have key:∀ {f:Nat→Int},bC f→(∀ j,aY f d j=p j)→∀ x,FF p x=FF f x*FF d x:=by
  intro f zf h x;have hq:=BQ zf zd zp h hd;have hb:lg f+lg d≤20:=by
   by_cases h0:lg f=0
   ·have:=dO d;omega
   ·have:=hq.2 h0;omega
  rw [← show aY f d=p from funext h,qW zf.lg zd.lg hb zf zd]
 refine funext (H6 zf zf' fun x=>nK (dh zd) (abI zd hd) (dh zf) (dh zf') (fun t=>?_) x);have h1:=key zf h t;have h2:=key zf' h' t;grind
theorem Dq(h:XG c Rs)(h10:lg c≤10)(i:Nat)(hi:i+2 < Rs.length):bC (qJ Rs i)∧Pm (lg (qJ Rs i)) (qJ Rs i)∧(∀ j,aY (qJ Rs i) (fG (gl Rs (i+1))) j=fG (gl Rs i) j)∧Dv (FF (qJ Rs i)) (FF c):=by
 obtain ⟨f,zf,pf,hc,hd⟩:=h.quo h10 i hi;have hx:∃ f,bC f∧∀ j,aY f (fG (gl Rs (i+1))) j=fG (gl Rs i) j:=⟨f,zf,hc⟩
 have e:qJ Rs i=f:=by
  unfold qJ;rw [dif_pos hx];obtain ⟨M,k⟩:=h.sq i (by omega);obtain ⟨M',k'⟩:=h.sq (i+1) (by omega);have hxl:lg (fG (gl Rs i))≤lg c:=by
   have h1:=(l9 (h.z i) k.z (h.pm i (by omega)).pos k.dv).2;have:=h.l i;omega
  exact V8 hx.choose_spec.1 zf k'.z k.z k'.ne hx.choose_spec.2 hc (by omega)
 rw [e];exact ⟨zf,pf,hc,hd⟩
end
/-- THE FACTORS of c. -/
structure abT(c:Nat→Int)(Ls:List (Nat→Int)):Prop where
 ex:∃ X:Nat→Nat→Int,(∀ i,i≤Ls.length→bC (X i)∧lg (X i)≤lg c)∧(∃ M,wS c M (X 0))∧X Ls.length=iM 1∧∀ i,i < Ls.length→∀ x,FF (X i) x=FF (gl Ls i) x*FF (X (i+1)) x
 z:∀ i,bC (gl Ls i)
 pm:∀ i,i < Ls.length→Pm (lg (gl Ls i)) (gl Ls i)
 dv:∀ i,i < Ls.length→Dv (FF (gl Ls i)) (FF c)
 len:Ls.length≤lg c
 one:AB (FF c) (FF (bP c))→Ls.length=1
noncomputable def Aw(Rs:List (Nat→Int))(k:Nat):List (Nat→Int):=(List.range k).map (qJ Rs)
theorem PS(Rs:List (Nat→Int))(k:Nat):(Aw Rs k).length=k:=by unfold Aw;rw [List.length_map,List.length_range]
theorem GX(Rs:List (Nat→Int))(k i:Nat)(h:i < k):gl (Aw Rs k) i=qJ Rs i:=by
 unfold Aw gl;rw [List.getD_eq_getElem?_getD,List.getElem?_map,List.getElem?_range h];rfl
theorem Wv(Rs:List (Nat→Int))(k:Nat):Aw Rs (k+1)=Aw Rs k ++ [qJ Rs k]:=by unfold Aw;rw [List.range_succ,List.map_append];rfl
theorem VL{c f:Nat→Int}{M:Nat}(zc:bC c)(h0:lg c≠0)(h:wS (bH c) M f):wS c M f:=by
 obtain ⟨s,hs0,hs⟩:=xk zc h0;obtain ⟨N,w,pw,e⟩:=h.pw;exact ⟨h.z,h.b,h.pm,h.dv.trans (MV zc h0),⟨N,fun x=>w x*s⁻¹,pw.yG _,fun x=>(e x).trans (by show w x*FF (bH c) x=w x*s⁻¹*FF c x;rw [hs];grind)⟩,h.sq⟩
theorem XG.fac{c:Nat→Int}{Rs:List (Nat→Int)}(h:XG c Rs)(zc:bC c)(h0:lg c≠0)(h10:lg c≤10)(hone:AB (FF c) (FF (bP c))→Rs.length≤3)(h3:3≤Rs.length):abT c (Aw Rs (Rs.length-2)):=by
 have hl:=PS Rs (Rs.length-2);have hxl:∀ i,i < Rs.length→∃ M,wS (gl Rs i) M (fG (gl Rs i))∧lg (fG (gl Rs i))≤lg c:=fun i hi=>by
  obtain ⟨M,k⟩:=h.sq i hi;have h1:=(l9 (h.z i) k.z (h.pm i hi).pos k.dv).2;have:=h.l i;exact ⟨M,k,by omega⟩
 refine ⟨⟨fun i=>fG (gl Rs i),fun i hi=>?_,?_,?_,fun i hi x=>?_⟩,fun i=>?_,fun i hi=>?_,fun i hi=>?_,by rw [hl];have:=h.l11;omega,fun hs=>by rw [hl];have:=hone hs;omega⟩
 ·obtain ⟨M,k,kl⟩:=hxl i (by omega)
  exact ⟨k.z,kl⟩
 ·obtain ⟨M,k⟩:=h.sq 0 (by omega)
  rw [h.h0] at k;refine ⟨M,?_⟩;show wS c M (fG (gl Rs 0))
  rw [h.h0];exact VL zc h0 k
 ·show fG (gl Rs _)=_
  rw [hl,h.l2,VK]
 ·have hi2:i+2 < Rs.length:=by omega
  obtain ⟨zf,pf,hc,_⟩:=Dq h h10 i hi2;obtain ⟨M,k,kl⟩:=hxl i (by omega);obtain ⟨M',k',kl'⟩:=hxl (i+1) (by omega);rw [GX Rs _ i (by omega)];have hq:=(BQ zf k'.z k.z hc k'.ne).1;show FF (fG (gl Rs i)) x=_
  rw [← show aY (qJ Rs i) (fG (gl Rs (i+1)))=fG (gl Rs i) from funext hc,qW zf.lg k'.z.lg (by have:=k'.ne;have:=dO (fG (gl Rs (i+1)));omega) zf k'.z]
 ·by_cases hi:i < Rs.length-2
  ·rw [GX Rs _ i hi];exact (Dq h h10 i (by omega)).1
  ·rw [GY (by omega)];exact lY
 ·rw [GX Rs _ i (by omega)];exact (Dq h h10 i (by omega)).2.1
 ·rw [GX Rs _ i (by omega)];exact (Dq h h10 i (by omega)).2.2.2
/-- The product of factors, on the way. -/
structure SqI(c:Nat→Int)(X:Nat→Nat→Int)(i:Nat)(o:Nat→Int):Prop where
 z:bC o
 pm:bF o (lg o)=1
 dv:Dv (FF o) (FF c)
 eq:∀ x,FF o x*FF (X i) x=FF (X 0) x
theorem SqI.step{c o f:Nat→Int}{X:Nat→Nat→Int}{i:Nat}(h:SqI c X i o)(zc:bC c)(h0:lg c≠0)(h10:lg c≤10)(zf:bC f)(pf:Pm (lg f) f)(df:Dv (FF f) (FF c))(zX:bC (X (i+1)))(hX0:Dv (FF (X 0)) (FF c))(he:∀ x,FF (X i) x=FF f x*FF (X (i+1)) x):SqI c X (i+1) (aY o f)∧(∀ x,FF (aY o f) x=FF o x*FF f x)∧lg o≤10∧lg f≤10:=by
 have l1:=(l9 zc h.z h0 h.dv).2;have l2:=(l9 zc zf h0 df).2;have zo:bC (aY o f):=bC.of (gu h.z.lg zf.lg) (by omega);have hF:∀ x,FF (aY o f) x=FF o x*FF f x:=qW h.z.lg zf.lg (by omega) h.z zf
 have hE:∀ x,FF (aY o f) x*FF (X (i+1)) x=FF (X 0) x:=fun x=>by rw [hF,← h.eq x,he x];grind
 refine ⟨⟨zo,?_,?_,hE⟩,hF,by omega,by omega⟩
 ·have h1:=aeZ h.z.lg zf.lg h.pm pf.one
  rwa [U5 (gu h.z.lg zf.lg) zo.lg] at h1
 ·exact Dv.trans (b:=FF (X 0)) ⟨FF (X (i+1)),dh zX,fun x=>by rw [← hE x];exact aiF _ _⟩ hX0
theorem SqI.fin{c o:Nat→Int}{X:Nat→Nat→Int}{n M:Nat}(h:SqI c X n o)(hX:wS c M (X 0))(h1:X n=iM 1):o=fG c:=by
 have e:o=X 0:=funext (H6 h.z hX.z fun x=>by rw [← h.eq x,h1,xW];grind);rw [e];exact hX.eq
theorem SqI.start{c:Nat→Int}{X:Nat→Nat→Int}(zc:bC c):SqI c X 0 (iM 1):=⟨jV,G7.one,⟨FF c,dh zc,fun x=>by rw [xW];grind⟩,fun x=>by rw [xW];grind⟩
/-- A bound of all divisors. -/
def Gp(c:Nat→Int)(M:Nat):Prop:=∀ g,bC g→bF g (lg g)=1→Dv (FF g) (FF c)→Db M g
theorem aaV{K:Nat}{z:Int}(h:z.natAbs < B4^K)(hK:1≤K):Qb K (z:Rat):=⟨by rw [Rat.num_intCast];exact h,by rw [Rat.den_intCast];exact acC (by decide) (ab1 (show 0 < B4 by decide) hK)⟩
theorem NI{t:TypeId}{M K:Nat}{x y:Rat}(h:x=y)(hz:Qb K y):AO.le (.box t (qn M x)) (.box t (qn K y)):=by subst h;exact jf (fF hz)
theorem Db.bP{K:Nat}{c:Nat→Int}(h:Db K c)(z:bC c):Db (K+1) (bP c):=fun i=>by
 unfold Go.Proofs.YtapmpcgekdplfaaGreat.bP
 by_cases hi:i+1 < 20
 ·have h1:=h (i+1)
  have e:∀ x:Nat,x*B4=x*10000:=fun _=>rfl
  rw [Int.natAbs_mul,Nat.pow_succ,e];have h2:((c (i+1)).natAbs*(((i+1:Nat):Int)).natAbs)≤(c (i+1)).natAbs*20:=ac4 _ (show i+1≤20 by omega);omega
 ·rw [z (i+1) (by omega)];simp;exact aeA (by decide)
theorem acJ{a b:Nat→Int}{K L:Nat}(za:bC a)(ha:Db K a)(hb:Db L b):Db (K+L+1) (aY a b):=by
 have key:∀ j m,m≤20→(cv a b m j).natAbs≤m*B4^(K+L):=by
  intro j m
  induction m with
  | zero=>intro _;exact abR _
  | succ m ih=>
   intro hm;have h1:=ih (by omega);show (cv a b m j+(if m≤j then a m*b (j-m) else 0)).natAbs≤_
   rw [Nat.succ_mul];have h2:(if m≤j then a m*b (j-m) else 0).natAbs≤B4^(K+L):=by
    split
    ·exact adC (Sr (ha m) (hb (j-m)))
    ·exact abR _
   omega
 have more:∀ j d,cv a b (20+d) j=cv a b 20 j:=by
  intro j d
  induction d with
  | zero=>rfl
  | succ d ih=>
   show cv a b (20+d) j+(if 20+d≤j then a (20+d)*b (j-(20+d)) else 0)=_
   rw [ih,za (20+d) (by omega)];simp
 intro j;have h2:(aY a b j).natAbs≤20*B4^(K+L):=by
  unfold aY
  by_cases hj:j+1≤20
  ·exact acS (key j (j+1) hj) (abN _ hj)
  ·obtain ⟨d,hd⟩:∃ d,j+1=20+d:=⟨j+1-20,by omega⟩
   rw [hd,more];exact key j 20 (abJ _)
 have h3:=aeA (n:=K+L) (show 0 < B4 by decide);have e:∀ x:Nat,x*B4=x*10000:=fun _=>rfl
 rw [Nat.pow_succ,e];omega
theorem aiz{w:Nat→Int}{K:Nat}(h:Db K w)(j:Nat):Db K (XB w j):=fun t=>by
 unfold XB;split
 ·exact h t
 ·exact aeA (by decide)
theorem agV{w d:Nat→Int}{K L:Nat}(zw:bC w)(hw:Db K w)(hd:Db L d)(j:Nat):Db (K+L+1) (iH w d j):=acJ (alR zw j) (aiz hw j) hd
theorem Y7(q d:Nat→Int):∀ j:Nat,(∃ i,i < j∧q i≠0∧iH q d j=iH q d (i+1)∧Gn q j=Gn q (i+1))∨(iH q d j=iH q d 0∧Gn q j=Gn q 0)
 | 0=>Or.inr ⟨rfl,rfl⟩
 | j+1=>by
  by_cases h:q j=0
  ·rcases Y7 q d j with ⟨i,h1,h2,h3,h4⟩ | ⟨h3,h4⟩
   ·exact Or.inl ⟨i,by omega,h2,(PO h).trans h3,(QY h).trans h4⟩
   ·exact Or.inr ⟨(PO h).trans h3,(QY h).trans h4⟩
  ·exact Or.inl ⟨j,by omega,h,rfl,rfl⟩
theorem aj7(q d:Nat→Int)(t:Nat):iH q d 0 t=0:=xH (fun i=>afJ i (abR _)) t
/-! ### Operations that only look at slots may come first -/
section
variable {P:Program} {ops:Array Oper} {Q:Qs} {s:AS} {o:Oper}
def abQ(P:Program)(ops:Array Oper)(Q:Qs)(n:Nat)(listed:Array Bool)(s:AS):Prop:=∀ B0 w0 a w,Kv s B0 w0 a w→wpAny P .any ops (DQ Q B0 w0) n listed a w
theorem bOf{n:Nat}{listed:Array Bool}(h:yH P ops Q n listed s):abQ P ops Q n listed s:=fun B0 w0 a w hd=>KJ n listed s a w h hd
theorem aeS{id:Nat}{l:List Oper}(hm:P.follows .mixedOrders=true)(h:abQ P l.toArray Q l.length (Array.replicate l.length false) s):AW P (.region id l.toArray true) Q s:=by
 intro B0 w0 a w hd;refine wp_region_any hm ?_;have hd':Kv s B0 w0 a {w with drawn:=w.drawn+1}:=by
  obtain ⟨ρ,hc,hn,hdf,hs⟩:=hd;have hK:ku (Bd ρ B0) w w.drew:=⟨abJ _,fun _ _ _=>rfl⟩;exact ⟨ρ,⟨hc.bel.step (Below.refl _ _).drew,hc.b0,fun id v hv=>let ⟨ob,h1,h2⟩:=hc.obj id v hv;⟨ob,h1,h2.mv hK (fun _ _ hB=>hB) (fun _ _=>rfl)⟩,hc.dist⟩,hn,hdf,fun t av ht=>let ⟨v,h1,h2⟩:=hs t av ht;⟨v,h1,AR.mv hK (fun _ _ hB=>hB) (fun _ _=>rfl) h2⟩⟩
 have:=h B0 w0 a _ hd';rwa [show l.length=l.toArray.size from rfl] at this
def EvP(P:Program)(s:AS)(o:Oper)(av:AV):Prop:=∀ (ρ:kL) (B:BS) (w:World) (a:Act),(∀ x∈o.op.operands,∀ kV,dH s x=some kV→AR ρ B w kV (a.eval x))→∃ v,(∀ w',(execOp a.eval o).run P w'= .ok (.value v) w')∧AR ρ B w av v
theorem yu{n:Nat}{listed:Array Bool}{av:AV}(i:Nat)(hi:ops[i]?=some o)(hs:Region.noSelect ops=true)(hf:Region.free .any ops listed i=true)(hr:(Region.ready .any ops listed).contains i=true)(hP:∀ c s,¬ Q (.panic c) s)(hg:o.guard=none)(hd:kG o.dst s.n=true)(h:EvP P s o av)(k:abQ P ops Q n (listed.setIfInBounds i true) (s.put o.dst av)):abQ P ops Q (n+1) listed s:=by
 rintro B0 w0 a w ⟨ρ,hc,hn,hdf,hsl⟩;obtain ⟨v,hv,hav⟩:=h ρ (Bd ρ B0) w a (fun x hx kV hg=>bQ hsl hg);refine wpAny_take hi hs hf hr ?_ (Or.inl ⟨by unfold Region.wanted;rw [hg],hv⟩) (k B0 w0 _ w (ni hc hn hdf hsl hd hav));rintro c a' w' ⟨s',hq,_⟩;exact absurd hq (hP c s')
theorem DY{x:Operand}{av:AV}(hop:o.op= .move x)(hx:dH s x=some av):EvP P s o av:=fun ρ B w a ho=>⟨a.eval x,fun w'=>by {unfold execOp;rw [hop];rfl},ho x (by rw [hop];simp [Op.operands]) _ hx⟩
theorem aly{c:Call}{t e:TypeId}{x:Operand}{sz n:Nat}{el:Nat→Nat→Lf}(hop:o.op= .call c)(hc:c.callee= .builtin .len)(ha:c.args.toList= [x])(ht:c.argTypes[0]?=some t)(hu:P.underlying t=some (.slice e))(hx:dH s x=some (.d (.one (.row sz n el)))):EvP P s o (dI (n:Int)):=by
 intro ρ B w a ho;obtain ⟨ad,cap,hxe,_⟩:=(ho x (by rw [hop];simp only [Op.operands,Call.operands];exact aiT.2 (Or.inr (by have:x∈c.args.toList:=(by rw [ha];simp);simpa using this))) _ hx:dY _ _ _ _);refine ⟨.int .i64 (n:Int),fun w'=>?_,rfl,rfl⟩;have ha':c.args=#[x]:=by rw [← Array.toList_inj];simpa using ha
 unfold execOp;rw [hop];simp [resolve,hc,ha',invoke,builtin,Builtin.len_,ht,hxe,run_underlying hu,goInt]
end
theorem agC{s:AS}{x:Operand}{k:IntKind}{n d:Nat}(h:kD s x=some (k,(n:Int))):qx s (some x) d=some n:=by
 unfold qx;simp only [h];show (if 0≤(n:Int) then some (n:Int).toNat else none)=some n
 rw [if_pos (by omega)];rfl
theorem aeR{P:Program}{s:AS}{ρ:kL}{B:BS}{w:World}{a:Act}{x:Operand}{d r y:Nat}{code:BoundsCode}(h:qx s (some x) d=some r)(hy:r≤y)(hs:∀ kV,dH s x=some kV→AR ρ B w kV (a.eval x))(w':World):(Instr.sliceBound (a.eval x) y code).run P w'= .ok r w':=by
 unfold qx at h;simp only at h;split at h
 ·rename_i k z hx
  split at h
  ·rename_i hz
   cases h
   have he:=adg hx hs;have hzy:0≤z∧z≤(y:Int):=⟨hz,by omega⟩;simp [Instr.sliceBound,he,asIntOf,hzy]
  ·cases h
 ·cases h
theorem aow{P:Program}{T:TypeId→Option TI}(hT:zU P T){o:Oper}{s:AS}{t e:TypeId}{x y y':Operand}{ti te:TI}{sz n h m:Nat}{el:Nat→Nat→Lf}(hop:o.op= .slice t x none (some y) (some y'))(hti:T t=some ti)(he:ti.elem=some e)(hte:T e=some te)(hx:dH s x=some (.d (.one (.row sz n el))))(h6:Nat.beq sz te.n=true)(hhi:qx s (some y) n=some h)(hmx:qx s (some y') n=some m)(h1:h≤m)(h2:m≤n):EvP P s o (.d (.one (.row sz h el))):=by
 intro ρ B w a ho;have h6':=abO h6;subst h6';obtain ⟨ad,cap,hxe,hn,hnil,hel⟩:=(ho x (by rw [hop];simp [Op.operands]) _ hx:dY _ _ _ _);obtain ⟨i,z,dd,g1,g2,g3,g4,g5,g6,g7,g8,g9,_⟩:=cZ (hT _ _ hti);have:=g9 e he;subst this;obtain ⟨i',zz',dd',k1,k2,k3,k4,_⟩:=cZ (hT _ _ hte);have b1:∀ w:World,(Instr.sliceBound (a.eval y') cap .slice3Acap).run P w= .ok m w:=aeR hmx (by omega) (ho y' (by rw [hop];simp [Op.operands]))
 have b2:∀ w:World,(Instr.sliceBound (a.eval y) m .slice3B).run P w= .ok h w:=aeR hhi h1 (ho y (by rw [hop];simp [Op.operands]))
 have hb:∀ w:World,(Instr.sliceBounds true n cap none (some (a.eval y)) (some (a.eval y'))).run P w= .ok (0,h,m) w:=by
  intro w;simp [Instr.sliceBounds,b1 w,b2 w]
 refine ⟨.slice (if m=0 then ad else ad.map (·.add (0*te.n))) (h-0) (m-0),?_,if m=0 then ad else ad.map (·.add (0*te.n)),m-0,rfl,by omega,fun hnone=>?_,fun q hq=>?_⟩
 ·intro w'
  unfold execOp;rw [hop];refine dJ ?_;rw [hxe];simp only [Instr.sliceAt,Instr.slice,Sem.run_bind,run_underlying g3,Result.andThen_ok,sizeOf,typeInfo,run_program,k1,Sem.run_pure,Option.map_none,Option.map_some];rw [hb w'];simp [k4]
 ·cases ad with
  | none=>have:=hnil rfl;omega
  | some q=>
   by_cases hc':m=0
   ·omega
   ·rw [if_neg hc'] at hnone;cases hnone
 ·have hc':¬ m=0:=by omega
  rw [if_neg hc'];obtain ⟨b,off,rfl,hb1,hb2,hb3⟩:=hel q (by omega);exact ⟨b,off,by simp [add_lit],hb1,hb2,fun j hj=>hb3 j hj⟩
/-! ### A call that answers a row in new memory: it is the frame's own -/
structure wZ(P:Program)(f:FuncId)(args:List DV)(e:TypeId)(sz n:Nat)(el:Nat→Nat→Lf):Prop where
 en:∀ vs w,(callFunc f vs).run P w= .ok (.enter f vs) w
 go:∀ (B:BS) (w:World) (vs:List Value),(∀ b,B b→b < w.heap.size)→AA B w args vs→Calls P f vs.toArray w fun r w'=>∃ v,r= .returned v∧Below w.heap.size w w'∧OR (fun b=>B b∨jd v=some b) ⟨w,fun _=>False⟩ w' (.row e sz n el) v
theorem mCR{P:Program}{ops:Array Oper}{Q:Qs}{o:Oper}{l:List Oper}{s:AS}{c:Call}{f:FuncId}{ds:List DV}{e:TypeId}{sz n d:Nat}{el:Nat→Nat→Lf}(h:wZ P f ds e sz n el)(hc:iw o.op=some c)(hf:ZL c.callee=some f)(ha:qQ s c.args.toList=some ds)(hdst:o.dst=some d)(hfr:lk s.hp d=none) 
  (k:AL P ops Q l (s.mk' d (.row e sz n el))) (hg:jC ops s o=some true:=by rfl) (hd:kG (some d) s.n=true:=by rfl):AL P ops Q (o ::l) s:=by
 rintro B0 w0 a w ⟨ρ,hcr,hn,hdf,hs⟩;obtain ⟨vs,hvs,hr⟩:=wO (cap:= []) hs hc (E5 hf) ha h.en;rw [List.append_nil] at hvs;refine JK (dZ hg hs) hr ((h.go (Bd ρ B0) w vs hcr.MN hvs).mono ?_);rintro r w' ⟨v,rfl,hb,xs,hown,hel⟩;refine ⟨v,rfl,?_⟩;have hρ:ρ d=none:=by
  cases hρ:ρ d with
  | none=>rfl
  | some u=>obtain ⟨ob',h1,_⟩:=hcr.obj d u hρ;rw [hfr] at h1;cases h1
 have hv:∀ b,jd v=some b→w.heap.size≤b:=fun b e=>(hown.2 b e).elim id (fun h=>h.elim)
 have hB:∀ b,Bd (up ρ d v) B0 b→Bd ρ B0 b∨jd v=some b:=by
  rintro b (h1 | ⟨id,u,h1,h2⟩)
  ·exact Or.inl (Or.inl h1)
  ·unfold up at h1
   split at h1
   ·cases h1;exact Or.inr h2
   ·exact Or.inl (Or.inr ⟨id,u,h1,h2⟩)
 have dX:OR (Bd (up ρ d v) B0) w0 w' (.row e sz n el) v:=⟨xs,⟨hown.1,fun b hb=>Or.inl (acS hcr.bel.size (hv b hb))⟩,fun i j hi hj=>let ⟨x,hx,hl⟩:=hel i j hi hj;⟨x,hx,dY.mv ⟨abJ _,fun _ _ _=>rfl⟩ (fun b _ hb=>hB b hb) _ hl⟩⟩;have hc':eY (up ρ d v) B0 w0 w' ((d,.row e sz n el) ::s.hp):=hcr.new hρ hb hv (fun k ob hk hne=>by rw [aV,if_neg (fun e=>hne e.symm)];exact hk) (by rw [aV,if_pos rfl]) dX;have fQ:fD (up ρ d v) (Bd (up ρ d v) B0) w' s.sl a:=fun t av ht=>let ⟨u,h1,h2⟩:=hs t av ht;⟨u,h1,h2.new hρ hb hv⟩
 refine k B0 w0 _ w' ?_;rw [hdst];exact ⟨_,hc',(by show (a.tmps.setIfInBounds d v).size=s.n;simpa using hn),hdf,nV fQ hn (ada hd) (AO.CV dX (by simp [up]))⟩
/-- The post of a function's body that answers its own row. -/
def ai8(t:Nat)(r:AO):Qs
 | .normal,s | .ret,s=>∃ id ob,lk s.sl t=some (.own id)∧lk s.hp id=some ob∧AO.le ob r
 | _,_=>False
theorem rR{t:Nat}{r:AO}{s:AS}(id:Nat){ob:AO}(h:lk s.sl t=some (.own id))(k:lk s.hp id=some ob)(hl:AO.le ob r):ai8 t r .ret s:=⟨id,ob,h,k,hl⟩
theorem Ye{P : Program}{T : TypeId → Option TI}(hT : zU P T){f : FuncId}{fn : Func}{c : Code}{args : List DV}{e : TypeId}{sz m : Nat}{el : Nat → Nat → Lf}(n t : Nat)(hf : P.funcs[f]? = some fn)(hb : fn.body = some c)(hnm : (fn.name == "runtime.NumGoroutine") = false)(hn : fn.ntmps = n)(hrs : fn.results.toList = [.tmp t])(hlen : Nat.ble args.length n = true) 
  (h:AW P c (ai8 t (.row e sz m el)) ⟨n,params 0 args,[]⟩):wZ P f args e sz m el:=by
 subst hn;refine ⟨fun vs w=>?_,fun B w vs hB hvs=>?_⟩
 ·have hnm' : ¬ fn.name = "runtime.NumGoroutine" := by simpa using hnm
  simp [callFunc,hf,hb,hnm']
 ·refine calls_of_wp hf hb ?_
  have hle:=ada hlen;have hvl:=hvs.len;have hden:Kv ⟨fn.ntmps,params 0 args,[]⟩ B ⟨w,fun _=>False⟩ {tmps:=vs.toArray ++Array.replicate (fn.ntmps-vs.toArray.size) undef,defers:= []} w:=by
   have hBd:∀ b,b < w.heap.size→Bd (fun _=>none) B b→B b:=by
    rintro b _ (h | ⟨_,_,h,_⟩)
    ·exact h
    ·cases h
   refine ⟨fun _=>none,⟨JW.refl _ _,(fun b hb=>⟨hB b hb,fun h=>h⟩),(fun _ _ h=>by cases h),(fun _ _ _ _ _ h=>by cases h)⟩,by simp;omega,rfl,fun t av ht=>?_⟩;have hvs':AA (Bd (fun _=>none) B) w args vs:=hvs.mv ⟨abJ _,fun _ _ _=>rfl⟩ hBd;obtain ⟨k,v,h1,h2,h3⟩:=Fh (ρ:=fun _=>none) hvs' ht;refine ⟨v,?_,h3⟩;have hk:=(abU.1 h2).1;rw [h1,Nat.zero_add,Array.getElem?_append_left (by simpa using hk)];simpa using h2
  refine Code.wp_mono (fun e' a w' hq=>?_) (h B ⟨w,fun _=>False⟩ _ w hden);obtain ⟨s',hq,ρ,hc,hn,hdf,hs⟩:=hq;have fin:(∃ id ob,lk s'.sl t=some (.own id)∧lk s'.hp id=some ob∧AO.le ob (.row e sz m el))→∃ v,(results fn a.tmps).run P w'= .ok v w'∧∃ u,Ending.returned v= .returned u∧Below w.heap.size w w'∧OR (fun b=>B b∨jd u=some b) ⟨w,fun _=>False⟩ w' (.row e sz m el) u:=by
   rintro ⟨id,ob,h1,h2,h3⟩;obtain ⟨v,h4,h5,_⟩:=hs t _ h1;obtain ⟨ob',h6,h7⟩:=hc.obj id v h5;rw [h2] at h6;cases h6
   have h8:=h3 _ _ _ _ h7;refine ⟨TQ [v],zM ?_,v,rfl,hc.bel.below (fun _ h=>h),h8.mv ⟨abJ _,fun _ _ _=>rfl⟩ (fun b _ hb=>?_) (fun _ _=>rfl)⟩
   ·rw [hrs]
    have hv:(Xz a.tmps (.tmp t)).run P w'= .ok v w':=by simp [Xz,Array.getD_eq_getD_getElem?,h4]
    rw [List.mapM_cons,Sem.run_bind,hv,Result.andThen_ok];rfl
   ·rcases hb with hb | hb
    ·exact Or.inl hb
    ·exact Or.inr ⟨id,v,h5,hb⟩
  cases e' with
  | normal=>obtain ⟨v,h1,h2⟩:=fin hq;exact ⟨hdf,v,h1,h2⟩
  | ret=>obtain ⟨v,h1,h2⟩:=fin hq;exact ⟨hdf,v,h1,h2⟩
  | exit id=>exact hq.elim
  | goto l=>exact hq.elim
  | panic ch=>exact hq.elim
  | outgrown=>exact hq.elim
section
variable {P:Program} {ops:Array Oper} {Q:Qs} {s:AS}
theorem anyV{n:Nat}{listed:Array Bool}{s':AS}(h:yH P ops Q (n+1) listed s')(r:Nat)(rs:List Nat)(hr:Region.ready .any ops listed=r ::rs)(hw:Wk s s'):yH P ops Q (n+1) listed s:=jB hr hw h
end
theorem agM{d:Nat→Int}{z:Int}(zd:bC d)(h0:lg d≠0)(hz:z≠0):dg (gG (rc d) ((z:Int):Rat)) (lg d)=lg d:=uw (Or.inr (by
 show ((d (lg d-1):Int):Rat)*((z:Int):Rat)≠0
 intro e
 rcases aiN.1 e with e | e
 ·exact sZ (lu h0) e
 ·exact sZ hz e))
theorem acK(x:Int)(i:Nat){d:Nat→Int}{n:Nat}(h:∀ t,n≤t→d t=0):∀ t,i+n≤t→aY (nJ x i) d t=0:=fun t ht=>by
 rw [oD,if_pos (by omega),h (t-i) (by omega),Int.mul_zero]
theorem air{K M X i n:Nat}{x:Int}{d:Nat→Int}(h1:K≤X)(h2:M≤X):∀ t,t < i+n→∀ j,j < 4→∀ B w v,dY B w (eU i (aJ K (fun _=>0)) (aJ M (gG (rc d) ((x:Int):Rat))) t j) v→dY B w (aJ X (rc (aY (nJ x i) d)) t j) v:=fun t ht j hj B w v hv=>by
 unfold eU at hv
 by_cases hti:t < i
 ·rw [show Nat.ble (t+1) i=true from Nat.ble_eq_true_of_le hti] at hv
  exact Og (n:=t+1) (c:=fun _=>0) h1 (fun p hp=>by show (0:Rat)=((aY (nJ x i) d p:Int):Rat);rw [oD,if_neg (by omega)];rfl) t (by omega) j hj B w v hv
 ·rw [show Nat.ble (t+1) i=false from by rw [← Bool.not_eq_true,Nat.ble_eq];omega] at hv
  have e:aJ M (gG (rc d) ((x:Int):Rat)) (t-i) j=aJ M (rc (aY (nJ x i) d)) t j:=by
   have e2:gG (rc d) ((x:Int):Rat) (t-i)=rc (aY (nJ x i) d) t:=by
    show ((d (t-i):Int):Rat)*((x:Int):Rat)=((aY (nJ x i) d t:Int):Rat)
    rw [oD,if_pos (by omega),Rat.intCast_mul];exact aiF _ _
   unfold aJ;rw [e2]
  rw [show (bif false then aJ K (fun _=>0) t j else aJ M (gG (rc d) ((x:Int):Rat)) (t-i) j)=aJ M (rc (aY (nJ x i) d)) t j from e] at hv;exact Og (n:=t+1) h2 (fun _ _=>rfl) t (by omega) j hj B w v hv
theorem sub_le{K KC N i:Nat}{q d:Nat→Int}(zi:bC (iH q d i))(bi:Db KC (iH q d i))(hK:1≤KC)(hN:∀ t,N≤t→iH q d i t=0):AV.le (.d (.one (dM K (dg (mJ (rc (iH q d (i+1))) (gG (rc (aY (nJ (q i) i) d)) ((-1:Int):Rat))) N) (mJ (rc (iH q d (i+1))) (gG (rc (aY (nJ (q i) i) d)) ((-1:Int):Rat)))))) (.d (.one (dM KC (lg (iH q d i)) (rc (iH q d i))))):=by
 have e:mJ (rc (iH q d (i+1))) (gG (rc (aY (nJ (q i) i) d)) ((-1:Int):Rat))=rc (iH q d i):=funext fun t=>by
  show ((iH q d (i+1) t:Int):Rat)+((aY (nJ (q i) i) d t:Int):Rat)*((-1:Int):Rat)=((iH q d i t:Int):Rat)
  rw [Dp,Rat.intCast_add,show ((-1:Int):Rat)= -1 from rfl];grind
 rw [e];exact ql (uV hN zi) hK bi
theorem X3{K L Kq KC:Nat}{c d q:Nat→Int}(zc:bC c)(zd:bC d)(hc19:lg c≤19)(h0:lg d≠0)(zq:bC q)(bq:Db Kq q)(hq:∀ i,aY q d i=c i)(nU:Kq+L+1≤KC)(hK:K≤KC)(h64:64≤KC)(hq1:1≤Kq)(hC:KC≤1000000:=by omega):aC Tryz.prog 122 [.one (dM K (lg c) (rc c)),.one (dM L (lg d) (rc d))] (.ji [.one (dM Kq (lg q) (rc q)),.one (dM KC (lg (iH q d 0)) (rc (iH q d 0)))]):=by
 refine aC.nH (fJ Tryz.func122 rfl rfl) (p:=Db K c∧Db L d) (fun B w vs h=>match vs,h with | [_,_],⟨h1,h2,_⟩=>⟨ny zc.lg h1,ny zd.lg h2⟩) (fun hb=>?_);obtain ⟨hbc,hbd⟩:=hb;refine aN 84 [.tmp 4,.tmp 5] Tryz.func122 rfl<|cR<|mE 2 rfl<|mT<|au ?_;have hlc:=dO c;have hld:=dO d;obtain ⟨hlq,hq0⟩:=BQ zq zd zc hq h0;have hce:c=iH q d (lg q):=by unfold iH;rw [aem zq.lg];exact (funext hq).symm
 refine aA<|mE 4 rfl<|mV aj (dI ((lg c:Int)-(lg d:Int))) (fM (eu (by omega) (by omega)))<|mV aj (dI ((lg c:Int)-(lg d:Int)+1)) (fM (eu (by omega) (by omega))) ?_;refine mV aj (dI ((lg q:Nat):Int)) (fM (by rw [if_pos rfl];split <;> omega)) ?_;refine mN aj (.row 49 4 (lg q) (fun _ j=> .v ((([Value.slice none 0 0,Value.bool false,Value.slice none 0 0,Value.bool false]:List Value)[j]?).getD undef))) (mkO (zl:=((lg q:Nat):Int)) (zc:=((lg q:Nat):Int)) (Rj:=64) rfl rfl rfl rfl rfl (by omega) (by omega) rfl rfl rfl (by omega) (by omega) rfl) rfl rfl<|mW rfl<|mT<|au<|cR<|mE 3 rfl<|mT<|aI<|dU (ι:=Nat) (fun (i:Nat)=>⟨84,[(0,.d (.one (.row 4 (lg c) (aJ K (rc c))))),(1,.d (.one (.row 4 (lg d) (aJ L (rc d))))),(6,.own 19),(21,dI ((lg q:Nat):Int)),(22,dI (i:Int))],[(19,.row 49 4 (lg q) (BP 64 i (fun _=>0) (fun j=> .v ((([Value.slice none 0 0,Value.bool false,Value.slice none 0 0,Value.bool false]:List Value)[j]?).getD undef))))]⟩) (fun (i:Nat)=>i≤lg q) (fun (i:Nat)=>lg q-i) 0 (abR _) (wkv [4] [0] ⟨fQ rfl (aG rfl),Pe⟩ ⟨dX rfl (I4),Pe⟩ rfl rfl) ?_;rintro i hI;have hi:i≤lg q:=hI;show AW _ _ _ ⟨_,_,_⟩
 refine cR<|mW rfl<|mT<|au<|aW rfl (fun hc1=>?_) (fun hc1=>?_)
 ·refine aF<|tN<|au<|aI<|au ?_;have hin:i < lg q:=by have h0:=abM hc1;omega
  exact aA<|mE 2 rfl<|mT<|aA<|mE 2 rfl<|mY (EG) rfl<|mV aj (.dW 19 4 i 0) (qG (z:=(i:Int)) (n:=(lg q)) rfl rfl rfl rfl rfl rfl rfl (by omega) (by omega))<|mZ rfl<|ak<|bN<|tN<|aA<|mE 2 rfl<|ak<|⟨(i+1),by omega,by omega,wkv [4] [0] ⟨fQ rfl (aG (dF (by omega))),Pe⟩ ⟨dX rfl (TY (abJ _) rfl),Pe⟩ rfl rfl⟩
 ·refine dP<|tE<|tE<|bE<|tN<|au<|aI ?_;have hie:lg q=i:=by have h0:=abL hc1;omega
  subst hie;refine wK [6,1,0] [19] rfl rfl<|wB [6,1,0] [] 19 (.row 49 4 (lg q) (aJ KC (rc (Gn q (lg q))))) rfl rfl (NH (Kf:=fun _=>KC) (d:=rc (Gn q (lg q))) (fun _ _=>by omega) (fun p hp=>by show (0:Rat)=((Gn q (lg q) p:Int):Rat);rw [show Gn q (lg q) p=0 from if_pos hp];rfl)) rfl<|dU (ι:=Nat) (fun (j:Nat)=>⟨84,[(0,.d (.one (.row 4 (lg (iH q d j)) (aJ KC (rc (iH q d j)))))),(1,.d (.one (.row 4 (lg d) (aJ L (rc d))))),(6,.own 19)],[(19,.row 49 4 (lg q) (aJ KC (rc (Gn q j))))]⟩) (fun (j:Nat)=>j≤lg q) (fun (j:Nat)=>j) (lg q) (abJ _) (wkv [0] [] ⟨fQ rfl (AV.le.trans (jc (by omega) (hbc.mono hK)) (AV.of_eq (by rw [← hce];rfl))),Pe⟩ trivial rfl rfl) ?_;rintro j hI;have hj:j≤lg q:=hI;show AW _ _ _ ⟨_,_,_⟩
  refine au<|au ?_;rcases Y7 q d j with ⟨i,hij,hqi,he,hu⟩ | ⟨he,hu⟩
  ·have hcc:=hq0 (by omega);have hlz:=agW (w:=q) (i:=i) zd h0 (by omega) hqi;have htop:iH q d (i+1) (lg d+i-1)=q i*d (lg d-1):=by rw [show lg d+i-1=lg d-1+i by omega];exact U0 zd.lg h0
   have hdt:=lu h0;have bi:Db KC (iH q d i):=(agV zq bq hbd i).mono nU;have bqi:Db KC q:=bq.mono (by omega);have zi:=PN (w:=q) (j:=i) zd.lg h0 (by omega);have zj:=PN (w:=q) (j:=i+1) zd.lg h0 (by omega);refine iV 0 (.d (.one (.row 4 (lg (iH q d (i+1))) (aJ KC (rc (iH q d (i+1))))))) rfl (AV.of_eq (by rw [he]))<|wB [6,1,0] [] 19 (.row 49 4 (lg q) (aJ KC (rc (Gn q (i+1))))) rfl rfl (AO.of_eq (by rw [hu])) rfl<|aA<|mE 4 rfl<|mdT rfl (by omega)<|mT<|cT rfl<|aF<|tN<|aI<|cR<|mE 4 rfl<|mV aj (dI (i:Int)) (fM ((eu (by omega) (by omega)).trans (by omega)))<|mW rfl<|mT<|au<|cDk 14<|.cons (aB.V _ rfl)<|.cons (aB.V _ rfl)<|oV rfl<|.cons (aB.V (dI ((lg d+i-1:Nat):Int)) (fM ((eu (by omega) (by omega)).trans (by omega))))<|.cons (aB.V (.d (.one (.at 4 ((aJ KC (rc (iH q d (i+1)))) (lg d+i-1))))) (jZ (el:=(aJ KC (rc (iH q d (i+1))))) (z:=((lg d+i-1:Nat):Int)) (n:=(lg (iH q d (i+1)))) rfl rfl rfl rfl rfl rfl (by omega) (by omega))) ?_;refine oV rfl<|.cons (aB.V _ rfl)<|.cons (aB.V _ rfl)<|oV rfl<|.cons (aB.V (dI ((lg d-1:Nat):Int)) (fM ((eu (by omega) (by omega)).trans (by omega))))<|.cons (aB.V (.d (.one (.at 4 ((aJ L (rc d)) (lg d-1))))) (jZ (el:=(aJ L (rc d))) (z:=((lg d-1:Nat):Int)) (n:=(lg d)) rfl rfl rfl rfl rfl rfl (by omega) (by omega))) ?_;refine oV rfl<|oC (MC (l7 KC ((rc (iH q d (i+1))) (lg d+i-1))) (l7 L ((rc d) (lg d-1))) (sZ hdt) (M:=(max (KC+L+1) 64))) rfl<|.cons (aB.N (.box 49 ([.v (.slice none 0 0),.v (.bool false),.v (.slice none 0 0),.v (.bool false)])) rfl 9 rfl rfl)<|.nil<|mZ rfl<|mT<|au<|wB [9,52,51,50,49,48,47,46,45,44,43,42,41,40,8,39,38,37,36,35,34,33,32,31,30,6,1,0] [19] 9 (.box 49 (qn KC (rc q i))) rfl rfl (NI (by show ((iH q d (i+1) (lg d+i-1):Int):Rat) / ((d (lg d-1):Int):Rat)=((q i:Int):Rat);rw [htop,Rat.intCast_mul];have hn:=sZ hdt;grind) (aaV (bqi i) (by omega))) rfl ?_;refine aA<|mE 3 rfl<|mV aj (.dW 19 4 i 0) (qG (z:=(i:Int)) (n:=(lg q)) rfl rfl rfl rfl rfl rfl rfl (by omega) (by omega))<|mZ rfl<|mT<|au<|wB [56,55,54,53,9,52,51,50,49,48,47,46,45,44,43,42,41,40,8,39,38,37,36,35,34,33,32,31,30,6,1,0] [9] 19 (.row 49 4 (lg q) (aJ KC (rc (Gn q i)))) rfl rfl (alP (Kf:=fun _=>KC) (Lf':=fun _=>KC) (fun _ _ _=>abJ _) (abJ _) (ah5 (fun z:Int=>(z:Rat)) (aiC q i)) (fun p _ hp=>ah5 (fun z:Int=>(z:Rat)) (aby hp))) rfl ?_;refine aA<|mW rfl<|mN aj (.row 49 4 i (fun _ j=> .v ((([Value.slice none 0 0,Value.bool false,Value.slice none 0 0,Value.bool false]:List Value)[j]?).getD undef))) (mkO (zl:=(i:Int)) (zc:=(i:Int)) (Rj:=64) rfl rfl rfl rfl rfl (by omega) (by omega) rfl rfl rfl (by omega) (by omega) rfl) rfl rfl<|mW rfl<|mT<|au<|cR<|mE 3 rfl<|mT<|aI<|dU (ι:=Nat) (fun (k:Nat)=>⟨84,[(0,.d (.one (.row 4 (lg (iH q d (i+1))) (aJ KC (rc (iH q d (i+1))))))),(1,.d (.one (.row 4 (lg d) (aJ L (rc d))))),(6,.own 19),(8,dI (i:Int)),(9,.ptr 9 0),(10,.own 58),(60,dI (i:Int)),(61,dI (k:Int))],[(9,.box 49 (qn KC (rc q i))),(19,.row 49 4 (lg q) (aJ KC (rc (Gn q i)))),(58,.row 49 4 i (BP 64 k (fun _=>0) (fun j=> .v ((([Value.slice none 0 0,Value.bool false,Value.slice none 0 0,Value.bool false]:List Value)[j]?).getD undef))))]⟩) (fun (k:Nat)=>k≤i) (fun (k:Nat)=>i-k) 0 (abR _) (wkv [7] [2] ⟨fQ rfl (aG rfl),Pe⟩ ⟨dX rfl (I4),Pe⟩ rfl rfl) ?_;rintro k hI;have hk:k≤i:=hI;show AW _ _ _ ⟨_,_,_⟩
   refine cR<|mW rfl<|mT<|au<|aW rfl (fun hc2=>?_) (fun hc2=>?_)
   ·refine aF<|tN<|au<|aI<|au ?_;have hkn:k < i:=by have h0:=abM hc2;omega
    exact aA<|mE 2 rfl<|mT<|aA<|mE 2 rfl<|mY (EG) rfl<|mV aj (.dW 58 4 k 0) (qG (z:=(k:Int)) (n:=i) rfl rfl rfl rfl rfl rfl rfl (by omega) (by omega))<|mZ rfl<|ak<|bN<|tN<|aA<|mE 2 rfl<|ak<|⟨(k+1),by omega,by omega,wkv [7] [2] ⟨fQ rfl (aG (dF (by omega))),Pe⟩ ⟨dX rfl (TY (abJ _) rfl),Pe⟩ rfl rfl⟩
   ·refine dP<|tE<|tE<|bE<|tN ?_;have hke:i=k:=by have h0:=abL hc2;omega
    subst hke;refine wK [10,9,6,1,0] [58,19,9] rfl rfl<|wB [10,9,6,1,0] [19,9] 58 (.row 49 4 i (aJ KC (fun _=>0))) rfl rfl (NH (Kf:=fun _=>KC) (d:=fun _=>0) (fun _ _=>by omega) (fun _ _=>rfl)) rfl<|aeS (by kernel_rfl)<|yu 0 rfl (by kernel_rfl) (by kernel_rfl) (by kernel_rfl) (fun _ _ h=>h) rfl rfl (av:= .d (.one (.row 4 (lg (iH q d (i+1))) (aJ KC (rc (iH q d (i+1))))))) (DY rfl rfl)<|yu 1 rfl (by kernel_rfl) (by kernel_rfl) (by kernel_rfl) (fun _ _ h=>h) rfl rfl (av:= .d (.one (.row 4 (lg (iH q d (i+1))) (aJ KC (rc (iH q d (i+1))))))) (DY rfl rfl)<|yu 2 rfl (by kernel_rfl) (by kernel_rfl) (by kernel_rfl) (fun _ _ h=>h) rfl rfl (av:= dI ((lg (iH q d (i+1)):Nat):Int)) (aly rfl rfl rfl rfl Tryz.underlying43 rfl)<|yu 3 rfl (by kernel_rfl) (by kernel_rfl) (by kernel_rfl) (fun _ _ h=>h) rfl rfl (av:= .d (.one (.row 4 (lg (iH q d (i+1))) (aJ KC (rc (iH q d (i+1))))))) (DY rfl rfl)<|yu 4 rfl (by kernel_rfl) (by kernel_rfl) (by kernel_rfl) (fun _ _ h=>h) rfl rfl (av:= dI ((lg (iH q d (i+1)):Nat):Int)) (aly rfl rfl rfl rfl Tryz.underlying43 rfl)<|yu 5 rfl (by kernel_rfl) (by kernel_rfl) (by kernel_rfl) (fun _ _ h=>h) rfl rfl (av:= .d (.one (.row 4 (lg (iH q d (i+1))) (aJ KC (rc (iH q d (i+1))))))) (aow aj (h:=(lg (iH q d (i+1)))) (m:=(lg (iH q d (i+1)))) rfl rfl rfl rfl rfl rfl (agC rfl) (agC rfl) (by omega) (by omega))<|yu 6 rfl (by kernel_rfl) (by kernel_rfl) (by kernel_rfl) (fun _ _ h=>h) rfl rfl (av:= .own 58) (DY rfl rfl)<|yu 7 rfl (by kernel_rfl) (by kernel_rfl) (by kernel_rfl) (fun _ _ h=>h) rfl rfl (av:= .d (.one (.row 4 (lg d) (aJ L (rc d))))) (DY rfl rfl)<|bOf<|o8 [8] (by kernel_rfl) rfl ?_;refine ⟨⟨_,rfl,?_⟩,Pe⟩;refine mW rfl<|mT<|o8 [9] (by kernel_rfl) rfl ?_;refine ⟨⟨_,rfl,?_⟩,Pe⟩;refine mY (Gz (yE (K:=L) (c:=(rc d)) (qM zd.lg)) (l7 KC (rc q i)) (M:=(max ((L+KC)+1) 64))) rfl<|mT<|o8 [10] (by kernel_rfl) rfl ?_;refine ⟨⟨_,rfl,?_⟩,Pe⟩;refine lD 78 (.d (.one (.row 4 (lg d) (aJ (max ((L+KC)+1) 64) (gG (rc d) (rc q i)))))) rfl (oK (abJ _) (agM zd h0 hqi) (fun _ _=>rfl))<|mA aj (id:=58) (n:=i) (m:=(lg d)) (el:=(aJ KC (fun _=>0))) (el2:=(aJ (max ((L+KC)+1) 64) (gG (rc d) (rc q i)))) rfl rfl rfl (by show (i+(lg d))*64≤140737488355328;omega) (by omega) rfl rfl rfl rfl rfl rfl rfl rfl rfl rfl<|mT<|o8 [11] (by kernel_rfl) rfl ?_;refine ⟨⟨_,rfl,?_⟩,Pe⟩;refine AL.wk (jl 58 rfl)<|lD 79 (.d (.one (.row 4 (i+lg d) (aJ (KC+L+70) (rc (aY (nJ (q i) i) d)))))) rfl (gq (nN (air (by omega) (by omega))))<|mY (ajw (yE (K:=KC) (c:=(rc (iH q d (i+1)))) (qM (PN zd.lg h0 (by omega)).lg)) (yE (K:=(KC+L+70)) (c:=(rc (aY (nJ (q i) i) d))) (qM (acK (q i) i zd.lg))) (M:=(((max KC 64)+(max ((KC+L+70)+65) 64))+1))) rfl<|mT<|o8 [12] (by kernel_rfl) rfl ?_;refine ⟨⟨_,rfl,?_⟩,Pe⟩;exact mW rfl<|mT<|ajJ (by kernel_rfl)<|bN<|⟨i,by omega,by omega,wkv [0] [] ⟨fQ rfl (sub_le zi bi (by omega) (fun t ht=>U1 zd.lg h0 t (by omega))),Pe⟩ trivial rfl rfl⟩
  ·have hz0:lg (iH q d j)=0:=by rw [he];exact (iF (PN zd.lg h0 (by omega))).2 (aj7 q d)
   exact aA<|mE 4 rfl<|mdF rfl (by omega)<|mT<|cF rfl<|dP<|tE<|tE<|bE<|tN<|au<|wK [6,0] [19] rfl rfl<|iV 0 (.d (.one (.row 4 (lg (iH q d 0)) (aJ KC (rc (iH q d 0)))))) rfl (AV.of_eq (by rw [he]))<|wB [6,0] [] 19 (.row 49 4 (lg q) (aJ KC (rc q))) rfl rfl (AO.of_eq (by rw [hu,al3])) rfl<|AW.wk (jl 19 rfl)<|aA<|mW rfl<|mY CO rfl<|mE 3 rfl<|mT<|aH<|rQ rfl (jI (dl (GV (ql (uV zq.lg zq) hq1 bq)) (dl DV.same iP)))
def Dk(K:Nat)(L:List (Nat→Int)):Nat→Nat→Lf:=fun i _=>dM K (lg (gl L i)) (rc (gl L i))
def bn(K:Nat)(L:List (Nat→Int)):Lf:= .row 1 L.length (Dk K L)
theorem I5{e:TypeId}{K n:Nat}{L:List (Nat→Int)}{b:Nat→Int}{el2:Nat→Nat→Lf}(hn:n=L.length)(h2:el2 0 0=dM K (lg b) (rc b)):AO.le (.row e 1 (n+1) (eU n (Dk K L) el2)) (.row e 1 (L ++ [b]).length (Dk K (L ++ [b]))):=by
 subst hn;rw [show (L ++ [b]).length=L.length+1 from by rw [List.length_append];rfl];refine gB fun i hi j hj B w v hv=>?_
 obtain rfl:j=0:=by omega
 unfold eU at hv
 by_cases h:i < L.length
 ·rw [show Nat.ble (i+1) L.length=true from Nat.ble_eq_true_of_le h] at hv
  unfold Dk;rw [yT h];exact hv
 ·obtain rfl:i=L.length:=by omega
  rw [show Nat.ble (L.length+1) L.length=false from by rw [← Bool.not_eq_true,Nat.ble_eq];omega,Nat.sub_self] at hv;unfold Dk;rw [uD,← h2];exact hv
theorem Qi{e:TypeId}{K:Nat}{b:Nat→Int}{el2:Nat→Nat→Lf}(h2:el2 0 0=dM K (lg b) (rc b)):AO.le (.row e 1 1 el2) (.row e 1 [b].length (Dk K [b])):=gB fun i hi j hj B w v hv=>by
 obtain rfl:i=0:=by omega
 obtain rfl:j=0:=by omega
 rw [h2] at hv;exact hv
theorem YR{X L:Nat}{c:Nat→Int}(z:bC c)(hL:1≤L)(h:Db L (bP c)):AV.le (.d (.one (dM X (dg (MQ (rc c)) (lg c-1)) (MQ (rc c))))) (.d (.one (dM L (lg (bP c)) (rc (bP c))))):=by
 have e:MQ (rc c)=rc (bP c):=funext (adT c);rw [e];exact ql (uV (ER z.lg) (fA z)) hL h
theorem adP{K:Nat}(hK:1≤K):Db K (iM 1):=fun i=>by
 have h:1 < B4^K:=acC (by decide) (ab1 (show 0 < B4 by decide) hK);unfold iM;split
 ·exact h
 ·exact aeV (abR _) h
theorem aay{K:Nat}(hK:1≤K):AV.le (.d (.one (dM 64 (dg (rc (FY [1])) 1) (rc (FY [1]))))) (.d (.one (dM K (lg (iM 1)) (rc (iM 1))))):=by
 have e:FY [1]=iM 1:=funext fun i=>by
  cases i with
  | zero=>rfl
  | succ i=>rw [xX (i+1) (by omega)];exact alr (i+1) (by simp)
 rw [e];exact AV.le.trans (oK (abJ _) (by rw [oN];rfl) (fun _ _=>rfl)) (jc hK (adP hK))
section
variable {c:Nat→Int} {M:Nat} {Rs:List (Nat→Int)}
theorem Ru.b(h:Ru c Rs)(hB:Gp c M)(i:Nat)(hi:i < Rs.length):Db M (gl Rs i):=hB _ (h.z i) (h.pm i hi).one (h.dv i hi)
/-- The squarefree parts on the way. -/
theorem XG.x(h:XG c Rs)(hB:Gp c M)(i:Nat)(hi:i < Rs.length):bC (fG (gl Rs i))∧Pm (lg (fG (gl Rs i))) (fG (gl Rs i))∧Db M (fG (gl Rs i))∧lg (fG (gl Rs i))≤lg c:=by
 obtain ⟨N,k⟩:=h.sq i hi;have h1:=(l9 (h.z i) k.z (h.pm i hi).pos k.dv).2;have:=h.l i;exact ⟨k.z,k.pm,hB _ k.z k.pm.one (k.dv.trans (h.dv i hi)),by omega⟩
theorem XG.f(h:XG c Rs)(hB:Gp c M)(h10:lg c≤10)(i:Nat)(hi:i+2 < Rs.length):bC (qJ Rs i)∧Pm (lg (qJ Rs i)) (qJ Rs i)∧Db M (qJ Rs i)∧∀ j,aY (qJ Rs i) (fG (gl Rs (i+1))) j=fG (gl Rs i) j:=by
 obtain ⟨h1,h2,h3,h4⟩:=Dq h h10 i hi;exact ⟨h1,h2,hB _ h1 h2.one h4,h3⟩
theorem Ru.e(h:Ru c Rs)(zc:bC c)(h2:2≤lg c)(h10:lg c≤10)(hl:lg (gl Rs (Rs.length-1))≤1):∃ Es,Es=Rs ++ [iM 1]∧XG c Es∧(AB (FF c) (FF (bP c))→Es.length≤3)∧3≤Es.length:=by
 refine ⟨_,rfl,h.fin zc h2 h10 hl,fun hs=>?_,?_⟩
 ·have:=h.one zc (by omega) hs
  rw [List.length_append];show Rs.length+1≤3;omega
 ·rw [List.length_append]
  show 3≤Rs.length+1
  apply abP;intro hn;have h3:=h.ne;have e:Rs.length-1=0:=by omega
  rw [e,h.h0,dL zc] at hl;omega
end
theorem V5{K M KC N:Nat}{c:Nat→Int}(zc:bC c)(h2:2≤lg c)(hN:N≤10)(FU:lg c≤N)(wE:1≤M)(hM1:1≤M)(hB:Gp c M)(hK1:1≤K)(hK:K≤100000)(nU:(M+2)*(2*3^N)≤KC)(hC:KC≤90000):aC Tryz.prog 94 [.one (dM K (lg c) (rc c))] (.d (.one (aX (abT c) (fun Ls=>bn M Ls)))):=by
 have hlc:=dO c;have hMK:M+2≤KC:=acS (aeT _ (agQ (by decide) (aeA (by decide)))) nU;have hbp:Db M (bH c):=hB _ (gK zc) (kE zc (by omega)).one (MV zc (by omega));refine aN 94 [.tmp 2] Tryz.func94 rfl<|cR<|mW rfl<|mT<|au<|cR<|mE 2 rfl<|mdF rfl (by omega)<|mT<|cFs rfl<|cR<|mW rfl<|mY (qj zc) rfl<|mW rfl<|mT<|au<|iV 0 (.d (.one (.row 4 (lg (bH c)) (aJ M (rc (bH c)))))) rfl (jc hM1 hbp)<|aA<|mW rfl<|mT<|cR<|mW rfl<|mR aj (.row 43 1 1 (fun i' j'=>(([.row 4 (lg (bH c)) (aJ M (rc (bH c)))])[i'*1+j']?).getD (.v undef))) rfl rfl rfl<|mW rfl<|mT<|au<|aI<|wB [4,19,18,3,17,16,15,14,13,2,0] [] 19 (.row 43 1 ([bH c].length) (Dk M [bH c])) rfl rfl (Qi rfl) rfl<|dU (ι:=List (Nat→Int)) (fun (Rs:List (Nat→Int))=>⟨94,[(3,.d (.one (.v (.slice none 0 0)))),(4,.own 19)],[(19,.row 43 1 ((Rs).length) (Dk M Rs))]⟩) (fun (Rs:List (Nat→Int))=>Ru c Rs) (fun (Rs:List (Nat→Int))=>lg (gl Rs (Rs.length-1))) ([bH c]) (.start zc h2) (wkr rfl rfl) ?_;rintro Rs hI;have hF:Ru c Rs:=hI;show AW _ _ _ ⟨_,_,_⟩
 refine au<|au ?_;have hne:=hF.ne;have hRl:=hF.ln;refine aA<|mE 3 rfl<|mV aj (dI ((Rs.length-1:Nat):Int)) (fM ((eu (by omega) (by omega)).trans (by omega)))<|mV aj (.dW 19 1 (Rs.length-1) 0) (qG (z:=((Rs.length-1:Nat):Int)) (n:=((Rs).length)) rfl rfl rfl rfl rfl rfl rfl (by omega) (by omega))<|mE 3 rfl<|mT<|aW rfl (fun hc1=>?_) (fun hc1=>?_)
 ·refine aF<|tN<|aI<|au ?_;have hgt:2≤lg (gl Rs (Rs.length-1)):=by have h0:=abM hc1;omega
  have zl:=hF.z (Rs.length-1);have hll:=hF.l (Rs.length-1);have bl:=hF.b hB (Rs.length-1) (by omega);have dl_:=E8 zl (by omega);have hd2:lg (bP (gl Rs (Rs.length-1)))≠0:=fun e=>by have:=wu zl e;omega
  refine aA<|mE 3 rfl<|mV aj (dI ((Rs.length-1:Nat):Int)) (fM ((eu (by omega) (by omega)).trans (by omega)))<|mV aj (.dW 19 1 (Rs.length-1) 0) (qG (z:=((Rs.length-1:Nat):Int)) (n:=((Rs).length)) rfl rfl rfl rfl rfl rfl rfl (by omega) (by omega))<|mE 2 rfl<|mT<|aA<|mE 3 rfl<|mY (aeL (yE (K:=M) (c:=(rc (gl Rs (Rs.length-1)))) (qM (hF.z (Rs.length-1)).lg)) (M:=(max (M+65) 64))) rfl<|lD 35 (.d (.one (.row 4 (lg (gl Rs (Rs.length-1))) (aJ (M+1) (rc (gl Rs (Rs.length-1))))))) rfl (oK (by omega) rfl (fun _ _=>rfl))<|lD 37 (.d (.one (.row 4 (lg (bP (gl Rs (Rs.length-1)))) (aJ (M+1) (rc (bP (gl Rs (Rs.length-1)))))))) rfl (YR zl (by omega) (bl.bP zl))<|mY (aju (KC:=KC) (N:=N) zl (fA zl) hN (by omega) (by omega) (by omega) (by omega) hC) rfl<|mEx (Qx:=oq (gl Rs (Rs.length-1)) (bP (gl Rs (Rs.length-1))) (21*(M+1)+3)) (L:=fun g=>dM (63*(M+1)+9) (lg g) (rc g)) 38 rfl (fun G hG=>?_);obtain ⟨hG0,hGl⟩:=hG.le' (fA zl) hd2;have hst:=hF.step zc (by omega) hgt hG;have bG:Db M G:=by have h9:=hst.b hB Rs.length (by rw [List.length_append];show Rs.length < Rs.length+1;omega);rwa [uD] at h9
  exact lD 38 (.d (.one (.row 4 (lg G) (aJ M (rc G))))) rfl (jc hM1 bG)<|mB aj (.d (.one (.row 1 1 (fun i' j'=>(([.row 4 (lg G) (aJ M (rc G))])[i'*1+j']?).getD (.v undef))))) rfl<|mA aj (id:=19) (n:=((Rs).length)) (m:=1) (el:=(Dk M Rs)) (el2:=(fun i' j'=>(([.row 4 (lg G) (aJ M (rc G))])[i'*1+j']?).getD (.v undef))) rfl rfl rfl (by show ((Rs).length+1)*24≤140737488355328;omega) (by omega) rfl rfl rfl rfl rfl rfl rfl rfl rfl rfl<|mW rfl<|ak<|bN<|⟨(Rs ++ [G]),hst,by show lg (gl (Rs ++ [G]) ((Rs ++ [G]).length-1)) < lg (gl Rs (Rs.length-1));rw [List.length_append,show Rs.length+ [G].length-1=Rs.length from rfl,uD];omega,wkv [] [0] trivial ⟨dX rfl (I5 rfl rfl),Pe⟩ rfl rfl⟩
 ·refine dP<|tE<|tE<|bE<|tN<|au ?_;have hle:lg (gl Rs (Rs.length-1))≤1:=by have h0:=abL hc1;omega
  obtain ⟨Es,hEs,hE,hE3,hE4⟩:=hF.e zc h2 (by omega) hle;have hEl:Rs.length+1=Es.length:=by rw [hEs,List.length_append];rfl
  refine aA<|mW rfl<|mB aj (.d (.one (.row 1 1 (fun i' j'=>(([vI 1])[i'*1+j']?).getD (.v undef))))) rfl<|mY (aci (G5 (l:= [1]) (n:=1) rfl (fun i hi=>match i,hi with | 0,_=>rfl))) rfl<|lD 43 (.d (.one (.row 4 (lg (iM 1)) (aJ M (rc (iM 1)))))) rfl (aay wE)<|mB aj (.d (.one (.row 1 1 (fun i' j'=>(([.row 4 (lg (iM 1)) (aJ M (rc (iM 1)))])[i'*1+j']?).getD (.v undef))))) rfl<|mA aj (id:=19) (n:=((Rs).length)) (m:=1) (el:=(Dk M Rs)) (el2:=(fun i' j'=>(([.row 4 (lg (iM 1)) (aJ M (rc (iM 1)))])[i'*1+j']?).getD (.v undef))) rfl rfl rfl (by show ((Rs).length+1)*24≤140737488355328;omega) (by omega) rfl rfl rfl rfl rfl rfl rfl rfl rfl rfl<|mW rfl<|mT<|au<|au<|wK [4,3] [19] rfl rfl<|wB [4,3] [] 19 (.row 43 1 Es.length (Dk M Es)) rfl rfl ((fun B w0 w v h=>by have h9:=I5 (e:=43) (b:=iM 1) (L:=Rs) rfl rfl B w0 w v h;rwa [← hEs] at h9)) rfl ?_;have hE1:=hE.l11;refine aA<|mW rfl<|mT<|aI<|AW.wk (qV 3 3 43 1 (fun _ _=> .v undef) rfl rfl)<|dU (ι:=Nat) (fun (k:Nat)=>⟨94,[(3,.own 3),(4,.own 19),(6,dI (k:Int))],[(3,.row 43 1 ((Aw Es k).length) (Dk M (Aw Es k))),(19,.row 43 1 Es.length (Dk M Es))]⟩) (fun (k:Nat)=>k≤Es.length-2) (fun (k:Nat)=>Es.length-2-k) 0 (abR _) (wkv [2] [0] ⟨fQ rfl (aG rfl),Pe⟩ ⟨dX rfl (iY),Pe⟩ rfl rfl) ?_;rintro k hI;have hk:k≤Es.length-2:=hI;show AW _ _ _ ⟨_,_,_⟩
  refine au<|cR<|mW rfl<|mV aj (dI ((k+2:Nat):Int)) (fM ((eu (by omega) (by omega)).trans (by omega)))<|mE 3 rfl<|mT<|aW rfl (fun hc2=>?_) (fun hc2=>?_)
  ·refine aF<|tN<|au<|aI<|au ?_;have hk2:k+2 < Es.length:=by have h0:=abM hc2;omega
   obtain ⟨x0z,x0p,x0b,x0l⟩:=hE.x hB k (by omega);obtain ⟨x1z,x1p,x1b,x1l⟩:=hE.x hB (k+1) (by omega);obtain ⟨fz,fp,fb,fq⟩:=hE.f hB (by omega) k hk2;have q0:=hE.q1 k (by omega);have q1:=hE.q1 (k+1) (by omega);have l0:=hE.l k;have l1:=hE.l (k+1);have p1:=(hE.pm (k+1) (by omega)).pos;have p2:=(hE.pm (k+2) (by omega)).pos;have hfl:(Aw Es k).length=k:=PS Es k;exact cDk 15<|.cons (aB.V _ rfl)<|.cons (aB.V _ rfl)<|.cons (aB.V (.dW 19 1 k 0) (qG (z:=(k:Int)) (n:=Es.length) rfl rfl rfl rfl rfl rfl rfl (by omega) (by omega)))<|oV rfl<|.cons (aB.V _ rfl)<|.cons (aB.V _ rfl)<|.cons (aB.V (dI ((k+1:Nat):Int)) (fM ((eu (by omega) (by omega)).trans (by omega))))<|.cons (aB.V (.dW 19 1 (k+1) 0) (qG (z:=((k+1:Nat):Int)) (n:=Es.length) rfl rfl rfl rfl rfl rfl rfl (by omega) (by omega)))<|oV rfl<|oC (X3 (Kq:=M) (KC:=(2*M+64)) (q:=(fG (gl Es k))) (hE.z k) (hE.z (k+1)) (by omega) p1 x0z x0b q0 (by omega) (by omega) (by omega) hM1) rfl<|.cons (aB.V _ rfl)<|.cons (aB.V _ rfl)<|.cons (aB.V _ rfl)<|.cons (aB.V _ rfl)<|.cons (aB.V _ rfl)<|.nil<|mT<|au<|cDk 16<|.cons (aB.V _ rfl)<|.cons (aB.V _ rfl)<|.cons (aB.V (dI ((k+1:Nat):Int)) (fM ((eu (by omega) (by omega)).trans (by omega))))<|.cons (aB.V (.dW 19 1 (k+1) 0) (qG (z:=((k+1:Nat):Int)) (n:=Es.length) rfl rfl rfl rfl rfl rfl rfl (by omega) (by omega)))<|oV rfl<|.cons (aB.V _ rfl)<|.cons (aB.V _ rfl)<|.cons (aB.V (dI ((k+2:Nat):Int)) (fM ((eu (by omega) (by omega)).trans (by omega))))<|.cons (aB.V (.dW 19 1 (k+2) 0) (qG (z:=((k+2:Nat):Int)) (n:=Es.length) rfl rfl rfl rfl rfl rfl rfl (by omega) (by omega)))<|oV rfl<|oC (X3 (Kq:=M) (KC:=(2*M+64)) (q:=(fG (gl Es (k+1)))) (hE.z (k+1)) (hE.z (k+2)) (by omega) p2 x1z x1b q1 (by omega) (by omega) (by omega) hM1) rfl<|.cons (aB.V _ rfl)<|.cons (aB.V _ rfl)<|.cons (aB.V _ rfl)<|.cons (aB.V _ rfl)<|.cons (aB.V _ rfl)<|.nil<|mT<|cR<|mW rfl<|mY (qj x0z) rfl<|mW rfl<|mY (qj x1z) rfl<|lD 82 (.d (.one (.row 4 (lg (fG (gl Es k))) (aJ M (rc (fG (gl Es k))))))) rfl (AV.of_eq (by rw [oO x0z fun _=>x0p];rfl))<|lD 84 (.d (.one (.row 4 (lg (fG (gl Es (k+1)))) (aJ M (rc (fG (gl Es (k+1)))))))) rfl (AV.of_eq (by rw [oO x1z fun _=>x1p];rfl))<|mY (X3 (Kq:=M) (KC:=(2*M+64)) (q:=(qJ Es k)) x0z x1z (by omega) x1p.pos fz fb fq (by omega) (by omega) (by omega) hM1) rfl<|mE 5 rfl<|mT<|aA<|mE 2 rfl<|mY (qj fz) rfl<|lD 90 (.d (.one (.row 4 (lg (qJ Es k)) (aJ M (rc (qJ Es k)))))) rfl (AV.of_eq (by rw [oO fz fun _=>fp];rfl))<|mB aj (.d (.one (.row 1 1 (fun i' j'=>(([.row 4 (lg (qJ Es k)) (aJ M (rc (qJ Es k)))])[i'*1+j']?).getD (.v undef))))) rfl<|mA aj (id:=3) (n:=((Aw Es k).length)) (m:=1) (el:=(Dk M (Aw Es k))) (el2:=(fun i' j'=>(([.row 4 (lg (qJ Es k)) (aJ M (rc (qJ Es k)))])[i'*1+j']?).getD (.v undef))) rfl rfl rfl (by show ((Aw Es k).length+1)*24≤140737488355328;omega) (by omega) rfl rfl rfl rfl rfl rfl rfl rfl rfl rfl<|mW rfl<|ak<|bN<|tN<|aA<|mE 3 rfl<|ak<|⟨(k+1),by omega,by omega,wkv [2] [0] ⟨fQ rfl (aG (dF (by omega))),Pe⟩ ⟨dX rfl ((fun B w0 w v h=>by have h9:=I5 (e:=43) (b:=qJ Es k) (L:=Aw Es k) rfl rfl B w0 w v h;rwa [← Wv] at h9)),Pe⟩ rfl rfl⟩
  ·refine dP<|tE<|tE<|bE<|tN<|au ?_;obtain rfl:k=Es.length-2:=by have h0:=abL hc2;omega
   exact AW.wk (jl 3 rfl)<|aA<|mE 2 rfl<|mT<|aH<|rQ rfl (lT (Q:=abT c) (L:=fun Ls=>bn M Ls) (Aw Es (Es.length-2)) (hE.fac zc (by omega) (by omega) hE3 hE4))
theorem Db.neg{K:Nat}{a:Nat→Int}(h:Db K a):Db K (iE a):=fun i=>by have:=h i;unfold iE;omega
theorem Db.lb1{K:Nat}{a:Nat→Int}(h:Db K a):Lb K a:=fun i=>acC (h i) (afb (by decide) K)
theorem aeb{x y R:Nat→Int}{M:Nat}(h:RH x y M R):Stp x y (iE R):=by
 obtain ⟨Q,κ,pQ,hκ,e⟩:=h.eq;exact ⟨Q,κ,pQ,hκ,fun t=>by rw [e,Rt];grind⟩
theorem RH.Em{a b r:Nat→Int}{M:Nat}(h:RH a b M r):RH a b M (Go.Proofs.YtapmpcgekdplfaaGreat.Em r):=by
 have zs:=LU h.z
 by_cases h0:lg r=0
 ·have e:Go.Proofs.YtapmpcgekdplfaaGreat.Em r=r:=by
   have hr:=(iF h.z).1 h0;funext i;unfold Go.Proofs.YtapmpcgekdplfaaGreat.Em uK su;rw [hr i];simp
  rw [e];exact h
 ·obtain ⟨Q,κ,pQ,hκ,e⟩:=h.eq
  obtain ⟨s,hs,e2⟩:=alQ h.z h0;exact ⟨zs,abm h.b,⟨Q,κ*s,pQ,ae5 hκ hs,fun x=>by rw [e,e2];grind⟩,by rw [abn h.z,dL h.z];exact h.lt⟩
/-- A primitive row's derivative has a positive coefficient in front. -/
theorem aee{f:Nat→Int}(z:bC f)(pm:Pm (lg f) f):Em (bP f)=bH (bP f):=by
 refine funext (Ox ?_);unfold iD
 by_cases h0:lg (bP f)=0
 ·have hz:=(iF (fA z)).1 h0
  rw [h0,if_neg (by rw [hz];decide)];omega
 ·have h1:=E8 z pm.pos
  have h2:lg (bP f)=lg f-1:=by
   by_cases h3:lg (bP f)≤lg f-2
   ·exfalso
    have h4:=(fA z).lg (lg f-2) h3;unfold bP at h4;rw [show lg f-2+1=lg f-1 by omega] at h4;rcases Int.mul_eq_zero.1 h4 with h5 | h5
    ·exact lu pm.pos h5
    ·omega
   ·omega
  have h3:0 < bP f (lg (bP f)-1):=by
   rw [h2] at h0 ⊢;unfold bP;rw [show lg f-1-1+1=lg f-1 by omega];exact Int.mul_pos pm.lead (by omega)
  rw [if_neg (by omega)];omega
/-- On the way. -/
structure ChD(f:Nat→Int)(K N KC X:Nat)(L0:List (Nat→Int))(a b:Nat→Int):Prop where
 za:bC a
 zb:bC b
 ba:Db X a
 bb:Db X b
 gr:Xo K N X (lg a) (lg b)
 la:lg a≤N
 lb:lg b≤N
 la0:lg a≠0
 pt:PT (L0 ++ [a,b])
 idp:CB (FF f) (FF (bH (bP f))) (FF a) (FF b)
 hd:(L0= []∧a=f∧b=bH (bP f))∨(L0= [f]∧a=bH (bP f))∨∃ L1,L0=f ::bH (bP f) ::L1
 all:∀ x∈L0,bC x∧Db KC x
 g0:L0≠ []→lg (bH (bP f))≠0
 ln:L0.length+lg b≤10
theorem ChD.start{f:Nat→Int}{K N KC:Nat}(hN:N≤10)(zf:bC f)(bf:Db K f)(bg:Db K (bH (bP f)))(h10:lg f≤N)(h0:lg f≠0):ChD f K N KC K [] f (bH (bP f)):=by
 have zd:=fA zf;have h1:lg (bP f)≤lg f:=jv zd fun i hi=>ER zf.lg i (by omega)
 have h2:=dL zd;exact ⟨zf,gK zd,bf,bg,.start h10,h10,by omega,h0,trivial,CB.refl _ _,Or.inl ⟨rfl,rfl,rfl⟩,fun x hx=>absurd hx (by simp),fun e=>absurd rfl e,by show 0+_≤_;omega⟩
theorem ChD.step{f:Nat→Int}{K N KC X:Nat}{L0:List (Nat→Int)}{a b R:Nat→Int}(h:ChD f K N KC X L0 a b)(nU:(K+1)*(2*3^N)≤KC)(hb:lg b≠0)(hR:RH a b (X+(lg a+1-lg b)*(X+1)) R):
  ChD f K N KC (X+(lg a+1-lg b)*(X+1)) (L0 ++ [a]) b (iE R):=by
 have zn:=Eo hR.z;have hl:lg (iE R)=lg R:=by
  have h1:lg (iE R)≤lg R:=jv zn fun i hi=>by unfold iE;rw [hR.z.lg i hi];rfl
  have h2:lg R≤lg (iE R):=jv hR.z fun i hi=>by have:=zn.lg i hi;unfold iE at this;omega
  omega
 have hlt:=hR.lt;refine ⟨h.zb,zn,h.bb.mono (aiL _ _),hR.b.neg,by rw [hl];exact h.gr.step h.la h.lb hlt,h.lb,by have:=h.lb;omega,hb,?_,?_,?_,?_,fun _=>?_,by have:=h.ln;rw [List.length_append,hl];show L0.length+1+lg R≤10;omega⟩
 ·rw [List.append_assoc];exact VA L0 a b (iE R) h.pt (aeb hR)
 ·obtain ⟨Q,κ,pQ,hκ,e⟩:=hR.eq
  exact h.idp.trans (CB.step (k:= -κ) pQ (by grind) fun x=>by rw [Rt,e];grind)
 ·rcases h.hd with ⟨h1,h2,h3⟩ | ⟨h1,h2⟩ | ⟨L1,h1⟩
  ·subst h1;subst h2;exact Or.inr (Or.inl ⟨rfl,h3⟩)
  ·subst h1;subst h2;exact Or.inr (Or.inr ⟨[],rfl⟩)
  ·subst h1;exact Or.inr (Or.inr ⟨L1 ++ [a],rfl⟩)
 ·intro x hx
  rcases ahn.1 hx with hx | hx
  ·exact h.all x hx
  ·obtain rfl:x=a:=by simpa using hx
   exact ⟨h.za,h.ba.mono (by have:=h.gr.bd nU;omega)⟩
 ·rcases h.hd with ⟨_,_,h3⟩ | ⟨h1,_⟩ | ⟨L1,h1⟩
  ·rw [← h3];exact hb
  ·exact h.g0 (by rw [h1];simp)
  ·exact h.g0 (by rw [h1];simp)
theorem ChD.fin{c f:Nat→Int}{K N KC X M:Nat}{L0:List (Nat→Int)}{a b:Nat→Int}(h:ChD f K N KC X L0 a b)(hs:wS c M f)(nU:(K+1)*(2*3^N)≤KC)(hb:lg b=0):ChP c M KC (L0 ++ [a])∧∀ i,Db KC (gl (L0 ++ [a]) i):=by
 have hX:=h.gr.bd nU;have hba:Db KC a:=h.ba.mono (by omega);have all:∀ x∈L0 ++ [a],bC x∧Db KC x:=by
  intro x hx
  rcases ahn.1 hx with hx | hx
  ·exact h.all x hx
  ·obtain rfl:x=a:=by simpa using hx
   exact ⟨h.za,hba⟩
 have hall:∀ i,bC (gl (L0 ++ [a]) i)∧Db KC (gl (L0 ++ [a]) i):=by
  intro i;unfold gl;rw [List.getD_eq_getElem?_getD];cases e:(L0 ++ [a])[i]? with
  | none=>exact ⟨lY,fun _=>aeA (by decide)⟩
  | some x=>exact all x (aiA e)
 have zd:=fA hs.z;have hlen:(L0 ++ [a]).length=L0.length+1:=by rw [List.length_append];rfl
 have h0:gl (L0 ++ [a]) 0=f:=by
  rcases h.hd with ⟨h1,h2,h3⟩ | ⟨h1,h2⟩ | ⟨L1,h1⟩
  ·subst h1;subst h2;rfl
  ·subst h1;rfl
  ·subst h1;rfl
 refine ⟨?_,fun i=>(hall i).2⟩;refine ⟨by rw [h0];exact hs,fun i=>(hall i).2.lb1,fun i=>(hall i).1,by omega,by have:=h.ln;omega,fun e=>?_,fun e=>?_⟩
 ·rw [h0]
  have h1:L0= []:=adb (by omega);rcases h.hd with ⟨_,h2,h3⟩ | ⟨h2,_⟩ | ⟨L1,h2⟩
  ·have h4:lg (bP f)=0:=by rw [← dL zd,← h3];exact hb
   have:=wu hs.z h4;have:=hs.ne;omega
  ·rw [h1] at h2;cases h2
  ·rw [h1] at h2;cases h2
 ·have hne:L0≠ []:=by intro e2;subst e2;simp at e
  have hbz:=(oh h.zb).1 hb;have hd0:lg (bP f)≠0:=by rw [← dL zd];exact h.g0 hne
  obtain ⟨d,hd,hdg⟩:∃ d:Rat,0 < d∧∀ x,FF (bP f) x=d*FF (bH (bP f)) x:=by
   have hpos:0 < bP f (lg (bP f)-1):=by
    have hlf:lg (bP f)=lg f-1:=by
     have h1:lg (bP f)≤lg f-1:=jv zd fun i hi=>ER hs.z.lg i (by omega)
     have h2:bP f (lg f-2)≠0:=by
      have h3:=lu hs.ne;have h4:2≤lg f:=by
       by_cases h5:lg f≤1
       ·exfalso;have:=hs.ne;omega
       ·omega
      unfold bP;rw [show lg f-2+1=lg f-1 by omega];exact af2 h3 (by omega)
     by_cases h3:lg (bP f)≤lg f-2
     ·exact absurd (zd.lg _ h3) h2
     ·omega
    have h3:=hs.pm.lead;rw [hlf];unfold bP;have h4:2≤lg f:=by omega
    rw [show lg f-1-1+1=lg f-1 by omega];exact Int.mul_pos h3 (by omega)
   have hpf:=fun x=>NW zd.lg x
   refine ⟨(iD (bP f) (lg (bP f)):Rat),?_,fun x=>?_⟩
   ·have h1:=zd.ip.uy hd0
    unfold iD;rw [if_neg (by omega)];exact_mod_cast h1
   ·have:=hpf x
    rw [show pf (yF (bP f) (lg (bP f))) (lg (bP f))=FF (bH (bP f)) from yI zd.ip.yF.z (gK zd),iO zd] at this;exact this
  have hlast:∃ k,k≠0∧∀ t,FF a t=k:=by
   obtain ⟨u,v,pu,pv,e1⟩:=h.idp.m3;obtain ⟨u2,v2,pu2,pv2,e2⟩:=h.idp.m4;obtain ⟨p,q,pp,pq,e3⟩:=hs.sq.cop;have hdv:Dv (FF a) (fun _=>1):=⟨fun x=>p x*u x+q x*d*u2 x,(pp.mul pu).add ((pq.yG d).mul pu2),fun x=>by
    have h1:=e3 x;rw [hdg,e1,e2,hbz] at h1;rw [← h1];grind⟩
   have:=hdv.deg (FI h.za h.la0) (Nz (a:=1) (by decide));exact lW h.za (by have:=h.la0;omega)
  have hpo:∀ x∈L0 ++ [a],Po (FF x):=fun x hx=>dh (all x hx).1
  rcases h.hd with ⟨h1,_,_⟩ | ⟨h1,h2⟩ | ⟨L1,h1⟩
  ·exact absurd h1 hne
  ·subst h1
   refine ⟨[],by rw [h0,show gl ([f] ++ [a]) 1=a from rfl];rfl,?_,d,hd,fun x=>?_⟩
   ·rw [h0,show gl ([f] ++ [a]) 1=a from rfl]
    refine Ua (f':=FF (bP f)) (d:=d) (fun g hg=>?_) hlast (qH hs.z) hd (fun x=>by rw [h2];exact hdg x);rcases afr.1 hg with rfl | hg
    ·exact dh hs.z
    ·rcases afr.1 hg with rfl | hg
     ·exact dh h.za
     ·simp at hg
   ·rw [h0,show gl ([f] ++ [a]) 1=a from rfl,h2];exact hdg x
  ·subst h1
   refine ⟨L1 ++ [a],by rw [h0];rfl,?_,d,hd,fun x=>?_⟩
   ·rw [h0,show gl (f ::bH (bP f) ::L1 ++ [a]) 1=bH (bP f) from rfl]
    refine Ua (f':=FF (bP f)) (d:=d) (fun g hg=>?_) (aaQ L1 f (bH (bP f)) a ?_ hlast) (qH hs.z) hd hdg
    ·rcases afr.1 hg with rfl | hg
     ·exact dh hs.z
     ·rcases afr.1 hg with rfl | hg
      ·exact dh (gK zd)
      ·obtain ⟨y,hy,rfl⟩:=List.mem_map.1 hg
       exact hpo y (by simp only [List.cons_append,List.mem_cons];exact Or.inr (Or.inr hy))
    ·have hpt:=h.pt
     have key:∀ (L:List (Nat→Int)) (x y:Nat→Int),PT (L ++ [x,y])→PT (L ++ [x]):=by
      intro L
      induction L with
      | nil=>intro x y _;trivial
      | cons u L ih=>
       intro x y hp
       match L,ih,hp with
       | [],_,_=>trivial
       | [v],ih,⟨h1,h2⟩=>exact ⟨h1,Pe⟩
       | v ::w ::L,ih,⟨h1,h2⟩=>exact ⟨h1,ih x y h2⟩
     exact key _ a b hpt
   ·rw [h0];exact hdg x
theorem ajO{X K n:Nat}{a b:Nat→Int}(z:bC (aY a b))(hn:∀ t,n≤t→aY a b t=0)(hK:1≤K)(h:Db K (aY a b)):AV.le (.d (.one (dM X (dg (aY (rc a) (rc b)) n) (aY (rc a) (rc b))))) (.d (.one (dM K (lg (aY a b)) (rc (aY a b))))):=by
 have e:aY (rc a) (rc b)=rc (aY a b):=funext (VE a b);rw [e];exact ql (uV hn z) hK h
theorem O0{K M KC N:Nat}{c:Nat→Int}(zc:bC c)(h2:2≤lg c)(hN:N≤10)(FU:lg c≤N)(wE:1≤M)(hM1:1≤M)(hB:Gp c M)(hK1:1≤K)(hK:K≤100000)(nU:(M+2)*(2*3^N)≤KC)(hC:KC≤90000):aC Tryz.prog 60 [.one (dM K (lg c) (rc c))] (.d (.one (dM M (lg (fG c)) (rc (fG c))))):=by
 have hlc:=dO c;have hMK:M+2≤KC:=acS (aeT _ (agQ (by decide) (aeA (by decide)))) nU;refine aN 26 [.tmp 2] Tryz.func60 rfl<|cR<|mW rfl<|mT<|au<|cR<|mE 2 rfl<|mbF rfl (abX.2 (by omega))<|mT<|cFs rfl<|cR<|mB aj (.d (.one (.row 1 1 (fun i' j'=>(([vI 1])[i'*1+j']?).getD (.v undef))))) rfl<|mY (aci (G5 (l:= [1]) (n:=1) rfl (fun i hi=>match i,hi with | 0,_=>rfl))) rfl<|mW rfl<|mT<|cR<|mW rfl<|mY (V5 (M:=M) (KC:=KC) (N:=N) zc h2 hN FU wE hM1 hB hK1 hK nU hC) rfl<|mW rfl<|mT<|au<|au<|cEx (Qx:=abT c) (L:=fun Ls=>bn M Ls) 4 rfl (fun Ls hL=>?_);obtain ⟨X,hX1,⟨MX,hX2⟩,hX3,hX4⟩:=hL.ex;have hln:=hL.len;refine iV 3 (.d (.one (.row 4 (lg (iM 1)) (aJ M (rc (iM 1)))))) rfl (aay wE)<|aA<|mE 3 rfl<|mT<|aI<|dU (ι:=Nat×(Nat→Int)) (fun (p:Nat×(Nat→Int))=>match p with | (i,o)=>⟨26,[(3,.d (.one (.row 4 (lg o) (aJ M (rc o))))),(4,.d (.one (.row 1 Ls.length (Dk M Ls)))),(14,dI (Ls.length:Int)),(15,dI (i:Int))],[]⟩) (fun (p:Nat×(Nat→Int))=>match p with | (i,o)=>i≤Ls.length∧SqI c X i o) (fun (p:Nat×(Nat→Int))=>match p with | (i,o)=>Ls.length-i) (0,(iM 1)) (⟨abR _,.start zc⟩) (wkv [3] [] ⟨fQ rfl (aG rfl),Pe⟩ trivial rfl rfl) ?_;rintro ⟨i,o⟩ hI;obtain ⟨hi,hO⟩:i≤Ls.length∧SqI c X i o:=hI;show AW _ _ _ ⟨_,_,_⟩
 refine cR<|mW rfl<|mT<|au<|aW rfl (fun hc1=>?_) (fun hc1=>?_)
 ·refine aF<|tN<|au<|aI<|cR<|mE 2 rfl<|mT ?_;have hin:i < Ls.length:=by have h0:=abM hc1;omega
  obtain ⟨hN1,hNF,hNo,hNf⟩:=hO.step zc (by omega) (by omega) (hL.z i) (hL.pm i hin) (hL.dv i hin) (hX1 (i+1) (by omega)).1 hX2.dv (hX4 i hin);refine aA<|mE 3 rfl<|mV aj (.d (.one (.at 1 ((Dk M Ls) i)))) (jZ (el:=(Dk M Ls)) (z:=(i:Int)) (n:=Ls.length) rfl rfl rfl rfl rfl rfl (by omega) (by omega)) ?_;exact mW rfl<|mY (ajv (yE (K:=M) (c:=(rc o)) (qM hO.z.lg)) (yE (K:=M) (c:=(rc (gl Ls i))) (qM (hL.z i).lg)) (M:=((20+1)*(M+M+66))) (D:=20) (by omega) (by omega)) rfl<|mW rfl<|ak<|bN<|tN<|aA<|mE 2 rfl<|ak<|⟨((i+1),(aY o (gl Ls i))),⟨by omega,hN1⟩,by show Ls.length-(i+1) < Ls.length-i;omega,wkv [0,3] [] ⟨fQ rfl (ajO hN1.z (fun t ht=>gu hO.z.lg (hL.z i).lg t ht) hM1 (hB _ hN1.z hN1.pm hN1.dv)),fQ rfl (aG (dF (by omega))),Pe⟩ trivial rfl rfl⟩
 ·refine dP<|tE<|tE<|bE<|tN<|au ?_;obtain rfl:i=Ls.length:=by have h0:=abL hc1;omega
  have hfin:=hO.fin hX2 hX3;exact aA<|mE 2 rfl<|mT<|aH<|rQ rfl (AV.of_eq (by rw [hfin];rfl))
theorem X5{c d:Nat→Int}{M:Nat}(zd:bC d)(h1:1≤M)(hM:M≤100000):aC Tryz.prog 75 [.one (aX (RH c d M) (fun r=>dM M (lg r) (rc r)))] (.d (.one (aX (RH c d M) (fun r=>dM M (lg r) (rc r))))):=
 aC.exl (fJ Tryz.func75 rfl rfl) fun r hr=>aC.le (dl DV.same iP) (lT (Q:=RH c d M) (L:=fun r=>dM M (lg r) (rc r)) (Em r) hr.Em) (Uw hr.z h1 hM)
theorem ahM{X K:Nat}{c:Nat→Int}(z:bC c)(hK:1≤K)(h:Db K c):AV.le (.d (.one (dM X (dg (gG (rc c) ((-1:Int):Rat)) (lg c)) (gG (rc c) ((-1:Int):Rat))))) (.d (.one (dM K (lg (iE c)) (rc (iE c))))):=by
 have e:gG (rc c) ((-1:Int):Rat)=rc (iE c):=funext fun i=>by
  show ((c i:Int):Rat)*((-1:Int):Rat)=((-(c i):Int):Rat)
  rw [← Rat.intCast_mul];congr 1;omega
 rw [e];exact ql (uV (fun i hi=>by unfold iE;rw [z.lg i hi];rfl) (Eo z)) hK h.neg
theorem WQ{e:TypeId}{K n:Nat}{L:List (Nat→Int)}{b:Nat→Int}{el2:Nat→Nat→Lf}(hn:L.length=n)(h2:∀ B w v,dY B w (el2 0 0) v→dY B w (dM K (lg b) (rc b)) v):AO.le (.row e 1 (L.length+1) (eU L.length (Dk K L) el2)) (.row e 1 (L ++ [b]).length (Dk K (L ++ [b]))):=by
 rw [show (L ++ [b]).length=L.length+1 from by rw [List.length_append];rfl];refine gB fun i hi j hj B w v hv=>?_
 obtain rfl:j=0:=by omega
 unfold eU at hv
 by_cases h:i < L.length
 ·rw [show Nat.ble (i+1) L.length=true from Nat.ble_eq_true_of_le h] at hv
  unfold Dk;rw [yT h];exact hv
 ·obtain rfl:i=L.length:=by omega
  rw [show Nat.ble (L.length+1) L.length=false from by rw [← Bool.not_eq_true,Nat.ble_eq];omega,Nat.sub_self] at hv;unfold Dk;rw [uD];exact h2 _ _ _ hv
theorem ach{K M KC N Ms:Nat}{c:Nat→Int}(zc:bC c)(h2:2≤lg c)(hN:N≤10)(FU:lg c≤N)(wE:1≤M)(hM1:1≤M)(hB:Gp c M)(hK1:1≤K)(hK:K≤100000)(nU:(M+2)*(2*3^N)≤KC)(hC:KC≤90000)(hS:wS c Ms (fG c)):aC Tryz.prog 39 [.one (dM K (lg c) (rc c))] (.d (.one (aX (ChP c Ms KC) (fun L=>bn KC L)))):=by
 have hlc:=dO c;have hMK:M+2≤KC:=acS (aeT _ (agQ (by decide) (aeA (by decide)))) nU;have bs:Db M (fG c):=hB _ hS.z hS.pm.one hS.dv;have hsl:=(l9 zc hS.z (by omega) hS.dv).2;refine aN 31 [.tmp 2] Tryz.func39 rfl<|cR<|mW rfl<|mT<|cR<|mW rfl<|mY (O0 (M:=M) (KC:=KC) (N:=N) zc h2 hN FU wE hM1 hB hK1 hK nU hC) rfl<|mW rfl<|mT<|cR<|mW rfl<|mR aj (.row 43 1 1 (fun i' j'=>(([.row 4 (lg (fG c)) (aJ M (rc (fG c)))])[i'*1+j']?).getD (.v undef))) rfl rfl rfl<|mW rfl<|mT<|cR<|mW rfl<|mY (aeL (yE (K:=M) (c:=(rc (fG c))) (qM hS.z.lg)) (M:=(max (M+65) 64))) rfl<|lD 11 (.d (.one (.row 4 (lg (bP (fG c))) (aJ (M+1) (rc (bP (fG c))))))) rfl (YR hS.z (by omega) (bs.bP hS.z))<|mY (Uw (fA hS.z) (by omega) (by omega)) rfl<|mW rfl<|mT<|au<|aI<|wK [5,4] [9] rfl rfl<|wB [5,4] [] 9 (.row 43 1 (([] ++ [fG c]).length) (Dk KC ([] ++ [fG c]))) rfl rfl (AO.le.trans (Qi rfl) (gB fun i hi j hj B w v hv=>by obtain rfl:i=0:=(by have:i < 1:=hi;omega);exact xZ (by omega) (fun i _=>(bs.mono (by omega)) i) B w v hv)) rfl ?_;refine iV 5 (.d (.one (.row 4 (lg (bH (bP (fG c)))) (aJ (M+1) (rc (bH (bP (fG c)))))))) rfl (AV.of_eq (by rw [aee hS.z hS.pm] <;> rfl)) ?_;refine dU (ι:=Nat×List (Nat→Int)×(Nat→Int)×(Nat→Int)) (fun (p:Nat×List (Nat→Int)×(Nat→Int)×(Nat→Int))=>match p with | (X,L0,a,b)=>⟨31,[(4,.own 9),(5,.d (.one (.row 4 (lg b) (aJ X (rc b)))))],[(9,.row 43 1 ((L0 ++ [a]).length) (Dk KC (L0 ++ [a])))]⟩) (fun (p:Nat×List (Nat→Int)×(Nat→Int)×(Nat→Int))=>match p with | (X,L0,a,b)=>ChD (fG c) (M+1) N KC X L0 a b∧1≤X) (fun (p:Nat×List (Nat→Int)×(Nat→Int)×(Nat→Int))=>match p with | (X,L0,a,b)=>lg b) ((M+1),[],(fG c),(bH (bP (fG c)))) (⟨.start hN hS.z (bs.mono (by omega)) (bs.bP hS.z).su (by omega) hS.ne,by omega⟩) (wkr rfl rfl) ?_;rintro ⟨X,L0,a,b⟩ hI;obtain ⟨hD,hX1⟩:ChD (fG c) (M+1) N KC X L0 a b∧1≤X:=hI;show AW _ _ _ ⟨_,_,_⟩
 refine au<|au ?_;have za:=hD.za;have zb:=hD.zb;have hXK:=hD.gr.bd nU;have hla:=hD.la;have hlb:=hD.lb;have ha0:=hD.la0;have hln:=hD.ln;have hlen:(L0 ++ [a]).length=L0.length+1:=by rw [List.length_append];rfl
 by_cases hb0:lg b=0
 ·refine aA<|mE 2 rfl<|mdF rfl (by omega)<|mT<|cF rfl<|dP<|tE<|tE<|bE<|tN<|au ?_;have hfin:=hD.fin hS nU hb0;exact AW.wk (jl 9 rfl)<|aA<|mE 2 rfl<|mT<|aH<|rQ rfl (lT (Q:=ChP c Ms KC) (L:=fun L=>bn KC L) (L0 ++ [a]) hfin.1)
 ·refine aA<|mE 2 rfl<|mdT rfl (by omega)<|mT<|cT rfl<|aF<|tN<|aI<|cR<|mE 2 rfl<|mB aj (.d (.one (.row 1 1 (fun i' j'=>(([.row 4 (lg b) (aJ X (rc b))])[i'*1+j']?).getD (.v undef))))) rfl<|mA aj (id:=9) (n:=((L0 ++ [a]).length)) (m:=1) (el:=(Dk KC (L0 ++ [a]))) (el2:=(fun i' j'=>(([.row 4 (lg b) (aJ X (rc b))])[i'*1+j']?).getD (.v undef))) rfl rfl rfl (by show ((L0 ++ [a]).length+1)*24≤140737488355328;omega) (by omega) rfl rfl rfl rfl rfl rfl rfl rfl rfl rfl<|mW rfl<|mT ?_;have hg1:lg b-1 < lg b:=by omega
  have hN1:=(hD.gr.step hla hlb hg1).bd nU;refine wB [19,18,17,16,15,14,13,5,4] [] 9 (.row 43 1 ((L0 ++ [a] ++ [b]).length) (Dk KC (L0 ++ [a] ++ [b]))) rfl rfl (WQ hlen (xZ (by omega) (fun i _=>(hD.bb.mono (by omega)) i))) rfl ?_;have anO:gl (L0 ++ [a] ++ [b]) L0.length=a:=by rw [yT (by omega),uD]
  have hlen2:(L0 ++ [a] ++ [b]).length=L0.length+2:=by rw [List.length_append,hlen];rfl
  refine aA<|mE 3 rfl<|mV aj (dI (L0.length:Int)) (fM ((eu (by omega) (by omega)).trans (by omega)))<|mV aj (.dW 9 1 L0.length 0) (qG (z:=(L0.length:Int)) (n:=((L0 ++ [a] ++ [b]).length)) rfl rfl rfl rfl rfl rfl rfl (by omega) (by omega))<|mE 2 rfl<|lD 25 (.d (.one (.row 4 (lg a) (aJ X (rc a))))) rfl ((fun ρ B w v h=>by have h:AR ρ B w (.d (.one (dM KC (lg (gl (L0 ++ [a] ++ [b]) L0.length)) (rc (gl (L0 ++ [a] ++ [b]) L0.length))))) v:=h;rw [anO] at h;exact jc (by omega) hD.ba ρ B w v h)) ?_;refine lD 26 (.d (.one (.row 4 (lg b) (aJ X (rc b))))) rfl (AV.le.rfl)<|mY (RV (M:=(X+(lg a+1-lg b)*(X+1))) za zb hb0 (by omega) (by omega) (by omega) (by omega) (abJ _)) rfl<|mY (X5 zb (by omega) (by omega)) rfl<|mEx (Qx:=RH a b (X+(lg a+1-lg b)*(X+1))) (L:=fun r=>dM (X+(lg a+1-lg b)*(X+1)) (lg r) (rc r)) 28 rfl (fun R hR=>?_);have hRl:=dO R;exact mY (X4 (yE (K:=(X+(lg a+1-lg b)*(X+1))) (c:=(rc R)) (qM hR.z.lg)) (M:=(max ((X+(lg a+1-lg b)*(X+1))+65) 64))) rfl<|mW rfl<|ak<|bN<|⟨((X+(lg a+1-lg b)*(X+1)),(L0 ++ [a]),b,(iE R)),⟨hD.step nU hb0 hR,by omega⟩,by have hl9:=hR.lt;have hl8:lg (iE R)≤lg R:=jv (Eo hR.z) fun i hi=>by {unfold iE;rw [hR.z.lg i hi];rfl};show lg (iE R) < lg b;omega,wkv [1] [] ⟨fQ rfl (ahM hR.z (by omega) hR.b),Pe⟩ trivial rfl rfl⟩
/-! ### Counts -/
def aZ(c:Nat→Int)(KC:Nat)(L:List (Nat→Int)):Prop:=∃ p M,ChP p M KC L∧gl L 0=c
theorem ChP.q{p:Nat→Int}{M KC:Nat}{L:List (Nat→Int)}(h:ChP p M KC L):aZ (fG p) KC L:=⟨p,M,h,h.sq.eq⟩
noncomputable def gI(c:Nat→Int)(lo hi:Rat):Nat:=open Classical in if h:∃ N,oP (FF c) lo hi N then h.choose else 0
theorem GR{c:Nat→Int}(z:bC c){lo hi:Rat}(hab:lo≤hi){N:Nat}(h:oP (FF c) lo hi N):gI c lo hi=N:=by
 have hx:∃ N,oP (FF c) lo hi N:=⟨N,h⟩
 unfold gI;rw [dif_pos hx];exact hx.choose_spec.uniq (dh z) hab h
section
variable {c:Nat→Int} {KC:Nat} {L:List (Nat→Int)}
theorem aZ.z(h:aZ c KC L):bC c:=by obtain ⟨p,M,k,e⟩:=h;rw [← e];exact k.z 0
theorem aZ.len(h:aZ c KC L):1≤L.length∧L.length≤11:=by obtain ⟨p,M,k,e⟩:=h;exact ⟨k.len,k.ln⟩
theorem aZ.zz(h:aZ c KC L)(i:Nat):bC (gl L i):=by obtain ⟨p,M,k,e⟩:=h;exact k.z i
theorem aZ.cnt(h:aZ c KC L){lo hi:Rat}(hab:lo≤hi):vr (Gm L lo)=vr (Gm L hi)+gI c lo hi∧(gI c lo hi=0↔jP (FF c) lo hi)∧(2≤lg c→oP (FF c) lo hi (gI c lo hi)):=by
 have zc:=h.z;obtain ⟨p,M,k,e⟩:=h;obtain ⟨N,h1,h2,h3⟩:=k.cnt hab;rw [e] at h2 h3
 by_cases hl:2≤L.length
 ·have hN:=GR zc hab (h3 hl)
  rw [hN];exact ⟨h1,h2,fun _=>h3 hl⟩
 ·have hl1:L.length=1:=by have:=k.len;omega
  have hlg:=k.cst hl1;rw [e] at hlg;have hf:jP (FF c) lo hi:=by
   obtain ⟨κ,hκ,hk⟩:=lW zc hlg;exact ⟨fC κ,fun h=>hκ (fP.1 h),fun t _ _=>by rw [hk]⟩
  have h0:gI c lo hi=0:=by
   unfold gI;split
   ·rename_i hx
    exact (hx.choose_spec.free (dh zc) hab).2 hf
   ·rfl
  rw [h0];have:=h2.2 hf;exact ⟨by omega,⟨fun _=>hf,fun _=>rfl⟩,fun h=>by omega⟩
end
/-- That counts are counts. -/
structure zS(c:Nat→Int):Prop where
 z:bC c
 l2:2≤lg c
 sq:AB (FF c) (FF (bP c))
 ctd:∀ lo hi,lo≤hi→oP (FF c) lo hi (gI c lo hi)
theorem zS.free{c:Nat→Int}(h:zS c){lo hi:Rat}(hab:lo≤hi):gI c lo hi=0↔jP (FF c) lo hi:=(h.ctd lo hi hab).free (dh h.z) hab
theorem acY{c:Nat→Int}(z:bC c)(h2:2≤lg c):∃ x,FF (bP c) x≠0:=by
 refine abI (fA z) fun e=>?_
 have:=wu z e;omega
theorem SB{c:Nat→Int}(z:bC c)(h2:2≤lg c)(sq:AB (FF c) (FF (bP c))):zS c:=by
 refine ⟨z,h2,sq,fun lo hi hab=>?_⟩;obtain ⟨g,l,hst,_⟩:=sq.stm (acY z h2);obtain ⟨N,hN⟩:=qU hst hab;have h:oP (FF c) lo hi N:=⟨g,l,hst,hN⟩;rw [GR z hab h];exact h
section
variable {c:Nat→Int} {lo hi:Rat}
theorem TR(f:Fn)(a:Rat):jP f a a:=⟨1,by decide,fun t h1 h2=>by grind⟩
theorem zS.lt(h:zS c)(hab:lo≤hi)(hn:gI c lo hi≠0):lo < hi:=by
 by_cases e:lo < hi
 ·exact e
 ·exfalso
  have:lo=hi:=by grind
  subst this;exact hn ((h.free hab).2 (TR _ _))
theorem zS.add(h:zS c){m:Rat}(h1:lo≤m)(h2:m≤hi):gI c lo hi=gI c lo m+gI c m hi:=by
 exact GR h.z (by grind) ((h.ctd lo m h1).cat (dh h.z) h1 h2 (h.ctd m hi h2))
theorem zS.okI(h:zS c)(hab:lo≤hi)(h1:gI c lo hi=1):Et (FF c) (FF (bP c)) lo hi:=⟨h.sq,h.lt hab (by omega),by rw [← h1];exact h.ctd lo hi hab⟩
/-! ### Ends that are roots -/
noncomputable def AU(c:Nat→Int)(lo hi:Rat):Rat×Rat:=if ¬ lo=hi∧fC (FF c hi)=0 then (hi,hi) else (lo,hi)
def EX(c:Nat→Int)(lo hi:Rat):Prop:=lo=hi∨fC (FF c hi)≠0
theorem Nb(c:Nat→Int)(lo hi:Rat):EX c (AU c lo hi).1 (AU c lo hi).2:=by
 unfold AU;split
 ·exact Or.inl rfl
 ·rename_i h
  by_cases e:lo=hi
  ·exact Or.inl e
  ·exact Or.inr fun k=>h ⟨e,k⟩
/-- One root in an interval. -/
theorem zS.okV(h:zS c)(hab:lo≤hi)(h1:gI c lo hi=1):vJ c lo hi:=by
 have o:=h.okI hab h1;have hlt:=o.lt;refine ⟨⟨h.z,hab,fun _=>o⟩,h.sq,h.l2,?_⟩;rw [jS hlt];obtain ⟨g,l,hst⟩:=o.stm;exact acO hst (dh h.z) hlt fun hf=>by have:=(h.free hab).2 hf;omega
theorem UZ(o:tX c lo hi):LZ c lo hi (AU c lo hi).1 (AU c lo hi).2:=by
 unfold AU
 by_cases h:¬ lo=hi∧fC (FF c hi)=0
 ·rw [if_pos h]
  have hlt:lo < hi:=by have:=o.le;grind
  refine ⟨aaA o.z hi,fun q=>?_,o.le,by show hi≤hi;grind⟩;show bK c hi hi q↔_
  rw [kZ (show hi≤hi by grind),jS hlt];exact (KO (o.i hlt) hlt (by grind) (fP.1 h.2) q).symm
 ·rw [if_neg h];exact LZ.refl o
/-! ### Halved -/
noncomputable def qhl(c:Nat→Int)(lo hi:Rat):Rat×Rat:=
 if lo=hi then (lo,hi) else if 0 < gI c lo ((lo+hi) / 2) then AU c lo ((lo+hi) / 2) else AU c ((lo+hi) / 2) hi
theorem tX.alJ(o:tX c lo hi){m:Rat}(h1:lo < m)(h2:m≤hi):dG (bK c lo hi) (fO m)=0↔fC (FF c m)=0:=by
 rw [o.rat,if_neg (show ¬ hi≤lo by grind),if_neg (show ¬ m≤lo by grind),if_neg (show ¬ hi < m by grind)];split
 ·exact ⟨fun _=>by assumption,fun _=>rfl⟩
 ·rename_i k
  split
  ·exact ⟨fun e=>by omega,fun e=>absurd e k⟩
  ·exact ⟨fun e=>by omega,fun e=>absurd e k⟩
theorem zS.cut(h:zS c)(o:tX c lo hi){m:Rat}(h1:lo < m)(h2:m≤hi):bK c lo hi m↔gI c lo m=0:=by
 have hlt:lo < hi:=by grind
 rw [h.free (show lo≤m by grind),jS hlt]
 by_cases e:m < hi
 ·exact Ag (o.i hlt) (by grind) e
 ·have e2:m=hi:=by grind
  subst e2;refine ⟨fun k=>absurd k (jD hlt (by grind)),fun k=>?_⟩;have:=((o.i hlt).one.free (dh h.z) (by grind)).2 k;omega
theorem zS.cmp(h:zS c)(o:tX c lo hi){m:Rat}(h1:lo < m)(h2:m≤hi):dG (bK c lo hi) (fO m)=if gI c lo m=0 then 1 else if fC (FF c m)=0 then 0 else -1:=by
 have hc:=h.cut o h1 h2
 by_cases h0:gI c lo m=0
 ·rw [if_pos h0];exact xC o.cut (hc.2 h0)
 ·rw [if_neg h0]
  by_cases hs0:fC (FF c m)=0
  ·rw [if_pos hs0];exact (o.alJ h1 h2).2 hs0
  ·rw [if_neg hs0]
   rcases oz (bK c lo hi) (fO m) with k | k | k
   ·exact k
   ·exact absurd ((o.alJ h1 h2).1 k) hs0
   ·exfalso
    have h3:¬ bK c lo hi m:=fun k=>h0 (hc.1 k)
    have h4:dG (bK c lo hi) (fO m)≤0:=(um o.cut (lQ m)).2 fun q hq=>o.cut.nb hq h3
    omega
theorem zS.half(h:zS c)(o:tX c lo hi)(ex:EX c lo hi):qhl c lo hi=hlf c lo hi∧EX c (hlf c lo hi).1 (hlf c lo hi).2:=by
 have key:qhl c lo hi=hlf c lo hi:=by
  unfold qhl hlf
  by_cases e:lo=hi
  ·rw [if_pos e,if_pos (by grind)]
  ·have hlt:lo < hi:=by have:=o.le;grind
   rw [if_neg e,if_neg (show ¬ hi≤lo by grind)];obtain ⟨m,hm⟩:∃ m,m=(lo+hi) / 2:=⟨_,rfl⟩
   rw [← hm];have m1:lo < m:=by grind
   have m2:m < hi:=by grind
   rw [h.cmp o m1 (show m≤hi by grind)]
   by_cases h0:gI c lo m=0
   ·rw [if_neg (show ¬ 0 < gI c lo m by omega),if_pos h0,if_neg (show ¬ (1:Int)=0 by decide),if_neg (show ¬ (1:Int)= -1 by decide)]
    unfold AU;rw [if_neg];rintro ⟨_,k⟩;rcases ex with x | x
    ·exact e x
    ·exact x k
   ·rw [if_pos (show 0 < gI c lo m by omega),if_neg h0]
    unfold AU
    by_cases hs0:fC (FF c m)=0
    ·rw [if_pos ⟨by grind,hs0⟩,if_pos hs0,if_pos rfl]
    ·rw [if_neg (fun k=>hs0 k.2),if_neg hs0,if_neg (show ¬ (-1:Int)=0 by decide),if_pos rfl]
 refine ⟨key,?_⟩;rw [← key];unfold qhl;split
 ·rename_i e;exact Or.inl e
 ·split
  ·exact Nb _ _ _
  ·exact Nb _ _ _
/-! ### Against a rational number -/
noncomputable def crQ(c:Nat→Int)(lo hi t:Rat):Int:=if lo=hi then vP lo t else if t≤lo then 1 else if hi < t then -1 else if gI c lo t=0 then 1 else if fC (FF c t)=0 then 0 else -1
theorem zS.rat(h:zS c)(o:tX c lo hi)(t:Rat):crQ c lo hi t=dG (bK c lo hi) (fO t):=by
 unfold crQ
 by_cases e:lo=hi
 ·rw [if_pos e,o.rat,if_pos (by grind)]
 ·have hlt:lo < hi:=by have:=o.le;grind
  rw [if_neg e]
  by_cases h1:t≤lo
  ·rw [if_pos h1,o.rat,if_neg (by grind),if_pos h1]
  ·by_cases h2:hi < t
   ·rw [if_neg h1,if_pos h2,o.rat,if_neg (by grind),if_neg h1,if_pos h2]
   ·rw [if_neg h1,if_neg h2,h.cmp o (by grind) (by grind)]
end
/-! ### All roots -/
noncomputable def LP(c:Nat→Int):Nat→Rat→Rat→List (Rat×Rat)
 | 0,_,_=> []
 | n+1,lo,hi=>if gI c lo hi=0 then [] else if gI c lo hi=1 then [AU c lo hi] else LP c n lo ((lo+hi) / 2) ++LP c n ((lo+hi) / 2) hi
structure SpP(c:Nat→Int)(lo hi:Rat)(l:List (Rat×Rat)):Prop where
 ok:∀ p∈l,vJ c p.1 p.2∧EX c p.1 p.2∧lo≤p.1∧p.2≤hi∧bK c p.1 p.2 lo
 all:∀ C,eG C→VC (FF c) C→C lo→¬ C hi→∃ p∈l,∀ q,bK c p.1 p.2 q↔C q
 rise:l.Pairwise fun p q=>dG (bK c p.1 p.2) (bK c q.1 q.2)= -1
 len:l.length=gI c lo hi
theorem Ed{f g:Fn}{l:List Fn}(hst:JZ f g l)(pf:Po f){a b:Rat}(h:jP f a b){C:qO}(hC:eG C)(ca:C a)(cb:¬ C b)(v:VC f C):False:=by
 obtain ⟨a',h1,h2⟩:=hC.up a ca;obtain ⟨s,hs,hst'⟩:=h;have hab:=hC.nb h2 cb;obtain ⟨e,he,hf⟩:=PV hst pf (a:=a') (b:=b) (by grind) (by rw [hst' a' h1 (by grind)];exact hs) fun t t1 t2=>by rw [hst' t (by grind) t2,hst' a' h1 (by grind)]
 obtain ⟨t,t1,t2,ht⟩:=v (e / 2) (by grind) a' b h2 cb;have:=hf t t1 t2;unfold Ab at ht;rcases this with k | k <;> grind
theorem zS.one{c:Nat→Int}{lo hi:Rat}(h:zS c)(hab:lo≤hi)(h1:gI c lo hi=1){C:qO}(hC:eG C)(v:VC (FF c) C)(ca:C lo)(cb:¬ C hi)(q:Rat):bK c lo hi q↔C q:=by
 have o:=h.okI hab h1;obtain ⟨g,l,hst⟩:=o.stm;rw [jS o.lt];constructor
 ·intro k
  apply abP;intro nq;have hq:=hC.nb ca nq;have Zz:q < hi:=by rcases k with k | k;grind;exact k.1
  exact Ed hst (dh h.z) ((Ag o (by grind) Zz).1 k) hC ca nq v
 ·intro k
  apply abP;intro nq;have Zz:=hC.nb k cb;have hf:jP (FF c) q hi:=abP fun nf=>nq (Or.inr ⟨Zz,nf⟩)
  exact Ed hst (dh h.z) hf hC k cb v
theorem LQ{c:Nat→Int}(h:zS c){h1:Nat}(b1:∀ i,(c i).natAbs≤2^h1){lo hi:Rat}(hab:lo≤hi)(hl: -(t2 (h1+1))≤lo)(hh:hi≤t2 (h1+1))(hw:(hi-lo)*t2 (mQ (lg c) (lg c) h1 h1)≤1):gI c lo hi≤1:=by
 have hlc:=dO c;have hp:=iK h1;have e2:t2 (h1+2)=t2 (h1+1)*2:=by rw [show h1+2=(h1+1)+1 from rfl,jK (h1+1) 1];rfl
 have hp1:=iK (h1+1);have hin:In (t2 (h1+2)) lo∧In (t2 (h1+2)) hi:=by
  unfold In;constructor <;> constructor <;> grind
 obtain ⟨U,V,z,hz,Nk,hU,hV,hL⟩:=agE h.z h.sq h.l2 b1 (h1+2) (lg c / 2+1) (I8 _ (by omega));have hx:=agU (n1:=lg c) (n2:=lg c) (h1:=h1) (h2:=h1) (hl:=h1) h.l2 hlc h.l2 (abJ _) (abJ _);have hs:=Eh hx (show 0≤hi-lo by grind) hw;exact ad1 h.sq.AP h.sq.po h.sq.Xx hz Nk hU hV hL (by have:=iK (3*(lg c / 2+1)+(h1+2)*lg c+(lg c / 2+1+h1));grind) hin.1 hin.2 hab hs (h.ctd lo hi hab)
theorem ait{c:Nat→Int}(h:zS c){h1:Nat}(b1:∀ i,(c i).natAbs≤2^h1):∀ (d:Nat) (lo hi:Rat),lo≤hi→-(t2 (h1+1))≤lo→hi≤t2 (h1+1)→(hi-lo)*t2 (mQ (lg c) (lg c) h1 h1)≤t2 d→SpP c lo hi (LP c (d+1) lo hi):=by
 intro d
 induction d with
 | zero=>
  intro lo hi hab hl hh hw;have h9:=LQ h b1 hab hl hh (by rw [show t2 0=1 from rfl] at hw;exact hw);unfold LP
  by_cases h0:gI c lo hi=0
  ·rw [if_pos h0]
   obtain ⟨g,l,hst,_⟩:=h.ctd lo hi hab;exact ⟨fun p hp=>absurd hp (by simp),fun C hC v ca cb=>(Ed hst (dh h.z) ((h.free hab).1 h0) hC ca cb v).elim,List.Pairwise.nil,by rw [h0];rfl⟩
  ·have e1:gI c lo hi=1:=by omega
   rw [if_neg h0,if_pos e1];have o:=h.okV hab e1;have n:=UZ o.ok;refine ⟨fun p hp=>?_,fun C hC v ca cb=>⟨_,by simp,fun q=>(n.cut q).trans (h.one hab e1 hC v ca cb q)⟩,List.pairwise_singleton _ _,by rw [e1];rfl⟩;obtain rfl:p=AU c lo hi:=by simpa using hp
   refine ⟨o.OL n,Nb _ _ _,n.lo,n.hi,(n.cut lo).2 ?_⟩;rw [jS (h.lt hab h0)];exact Or.inl (by grind)
 | succ d ih=>
  intro lo hi hab hl hh hw;unfold LP
  by_cases h0:gI c lo hi=0
  ·rw [if_pos h0]
   obtain ⟨g,l,hst,_⟩:=h.ctd lo hi hab;exact ⟨fun p hp=>absurd hp (by simp),fun C hC v ca cb=>(Ed hst (dh h.z) ((h.free hab).1 h0) hC ca cb v).elim,List.Pairwise.nil,by rw [h0];rfl⟩
  ·rw [if_neg h0]
   by_cases e1:gI c lo hi=1
   ·rw [if_pos e1]
    have o:=h.okV hab e1;have n:=UZ o.ok;refine ⟨fun p hp=>?_,fun C hC v ca cb=>⟨_,by simp,fun q=>(n.cut q).trans (h.one hab e1 hC v ca cb q)⟩,List.pairwise_singleton _ _,by rw [e1];rfl⟩;obtain rfl:p=AU c lo hi:=by simpa using hp
    refine ⟨o.OL n,Nb _ _ _,n.lo,n.hi,(n.cut lo).2 ?_⟩;rw [jS (h.lt hab h0)];exact Or.inl (by grind)
   ·rw [if_neg e1]
    obtain ⟨m,hm⟩:∃ m,m=(lo+hi) / 2:=⟨_,rfl⟩
    rw [← hm];have hE:=iK (mQ (lg c) (lg c) h1 h1);have e2:t2 (d+1)=t2 d*2:=by rw [jK d 1];rfl
    have m1:lo≤m:=by grind
    have m2:m≤hi:=by grind
    have w1:(m-lo)*t2 (mQ (lg c) (lg c) h1 h1)≤t2 d:=by
     have:m-lo=(hi-lo) / 2:=by grind
     rw [this];rw [e2] at hw;grind
    have w2:(hi-m)*t2 (mQ (lg c) (lg c) h1 h1)≤t2 d:=by
     have:hi-m=(hi-lo) / 2:=by grind
     rw [this];rw [e2] at hw;grind
    have A:=ih lo m m1 hl (by grind) w1;have B:=ih m hi m2 (by grind) hh w2;refine ⟨fun p hp=>?_,fun C hC v ca cb=>?_,?_,by rw [List.length_append,A.len,B.len,h.add m1 m2]⟩
    ·rcases ahn.1 hp with k | k
     ·obtain ⟨a1,a2,a3,a4,a5⟩:=A.ok p k
      exact ⟨a1,a2,a3,by grind,a5⟩
     ·obtain ⟨a1,a2,a3,a4,a5⟩:=B.ok p k
      exact ⟨a1,a2,by grind,a4,a1.ok.cut.down _ _ a5 m1⟩
    ·by_cases cm:C m
     ·obtain ⟨p,k,e⟩:=B.all C hC v cm cb
      exact ⟨p,ahn.2 (Or.inr k),e⟩
     ·obtain ⟨p,k,e⟩:=A.all C hC v ca cm
      exact ⟨p,ahn.2 (Or.inl k),e⟩
    ·refine List.pairwise_append.2 ⟨A.rise,B.rise,fun p hp q hq=>?_⟩
     obtain ⟨a1,a2,a3,a4,a5⟩:=A.ok p hp;obtain ⟨b1,b2,b3,b4,b5⟩:=B.ok q hq;exact xE b5 (a1.ok.above a4)
/-! ### The bound -/
def A8(c:Nat→Int):Nat→Nat
 | 0=>0
 | i+1=>max (A8 c i) (c i).natAbs
theorem aas(c:Nat→Int):∀ {i n:Nat},i < n→(c i).natAbs≤A8 c n
 | i,0,h=>absurd h (ab2 _)
 | i,n+1,h=>by
  unfold A8
  by_cases e:i=n
  ·subst e;exact aiK _ _
  ·exact acS (aas c (i:=i) (n:=n) (by omega)) (aiP _ _)
theorem aar{c:Nat→Int}{H:Nat}(h:∀ i,(c i).natAbs≤H):∀ n,A8 c n≤H
 | 0=>abR _
 | n+1=>by unfold A8;exact Nat.max_le.2 ⟨aar h n,h n⟩
def Ce(c:Nat→Int):Rat:=1+(A8 c (lg c-1):Rat) / ((c (lg c-1)).natAbs:Rat)
section
variable {c:Nat→Int}
theorem DL(h0:lg c≠0):(1:Rat)≤((c (lg c-1)).natAbs:Rat):=by
 have:=lu h0;exact_mod_cast (show 1≤(c (lg c-1)).natAbs by omega)
theorem Sv(h0:lg c≠0):1≤Ce c:=by
 have h1:=DL h0;have h2:=iT (A8 c (lg c-1));unfold Ce;have:0≤(A8 c (lg c-1):Rat) / ((c (lg c-1)).natAbs:Rat):=by
  rw [Rat.div_def];exact acQ h2 (by have:=Rat.inv_pos.2 (show (0:Rat) < ((c (lg c-1)).natAbs:Rat) by grind);grind)
 grind
theorem agA(h0:lg c≠0){H:Nat}(h:∀ i,(c i).natAbs≤H):Ce c≤1+(H:Rat):=by
 have h1:=DL h0;have h2:(A8 c (lg c-1):Rat)≤(H:Rat):=qK (aar h _);have h3:=iT (A8 c (lg c-1));obtain ⟨k,hk⟩:∃ k,k=(A8 c (lg c-1):Rat) / ((c (lg c-1)).natAbs:Rat):=⟨_,rfl⟩
 have h4:k*((c (lg c-1)).natAbs:Rat)=(A8 c (lg c-1):Rat):=by rw [hk];exact aij (by grind)
 have hk0:0≤k:=by
  have:=Sv h0;unfold Ce at this;rw [← hk] at this;grind
 have h5:k*1≤k*((c (lg c-1)).natAbs:Rat):=abK h1 hk0;unfold Ce;rw [← hk];grind
theorem agB(z:bC c)(h0:lg c≠0){C:qO}(hC:eG C)(v:VC (FF c) C):C (-(Ce c))∧¬ C (Ce c):=by
 obtain ⟨n,hn⟩:∃ n,n=lg c-1:=⟨_,rfl⟩
 obtain ⟨a,ha⟩:∃ a:Rat,a=(c n:Rat):=⟨_,rfl⟩
 have hcn:c n≠0:=by rw [hn];exact lu h0
 have ha0:a≠0:=by rw [ha];exact sZ hcn
 obtain ⟨A,hA⟩:∃ A:Rat,A=((c n).natAbs:Rat):=⟨_,rfl⟩
 have hAa:A=a∨A= -a:=by
  rw [hA,ha];rcases Int.natAbs_eq (c n) with e | e
  ·left;rw [e];simp;rfl
  ·right
   obtain ⟨k,hk⟩:∃ k,k=(c n).natAbs:=⟨_,rfl⟩
   rw [← hk] at e ⊢;rw [e,Rat.intCast_neg,Rat.neg_neg];rfl
 have hA1:1≤A:=by rw [hA,hn];exact DL h0
 obtain ⟨H,hH⟩:∃ H:Rat,H=(A8 c n:Rat) / A:=⟨_,rfl⟩
 have hHA:H*A=(A8 c n:Rat):=by rw [hH];exact aij (by grind)
 have hb:Ce c=1+H:=by unfold Ce;rw [hH,hA,hn]
 have hH0:0≤H:=by have:=Sv h0;grind
 have hce:∀ i,Ab ((if i < n then (c i:Rat) / A else 0)) H:=fun i=>by
  by_cases hi:i < n
  ·rw [if_pos hi]
   obtain ⟨q,hq⟩:∃ q,q=(c i:Rat) / A:=⟨_,rfl⟩
   have h1:q*A=(c i:Rat):=by rw [hq];exact aij (by grind)
   have h2:((c i).natAbs:Rat)≤(A8 c n:Rat):=qK (aas c hi);have h3: -((c i).natAbs:Rat)≤(c i:Rat)∧(c i:Rat)≤((c i).natAbs:Rat):=by
    constructor
    ·have: -(((c i).natAbs:Nat):Int)≤c i:=by omega
     have h9:((-(((c i).natAbs:Nat):Int):Int):Rat)≤(c i:Rat):=by exact_mod_cast this
     rw [Rat.intCast_neg] at h9;exact h9
    ·have:c i≤(((c i).natAbs:Nat):Int):=by omega
     exact_mod_cast this
   rw [← hq];rw [← h1,← hHA] at *
   unfold Ab;constructor
   ·apply abP
    intro k;have:(q+H)*A < 0:=by
     have:=ae5 (show 0 < -(q+H) by grind) (show 0 < A by grind);grind
    grind
   ·apply abP
    intro k;have:=ae5 (show 0 < q-H by grind) (show 0 < A by grind);grind
  ·rw [if_neg hi];exact jR hH0
 have far:∀ t y,(t=y∨t= -y)→1+H≤y→oQ (FF c t) 1:=fun t y ht hy=>by
  have hab:Ab t y:=by rcases ht with k | k <;> unfold Ab <;> constructor <;> grind
  have h1:=TK hab hH0 hy hce n;have h2:=Nc ht (show 1≤y by grind) n;have hy1:=jW (B:=y) (by grind) n;have e:∀ m,m≤n→pe (fun i=>if i < n then (c i:Rat) / A else 0) t m*A=pe (rc c) t m:=by
   intro m
   induction m with
   | zero=>intro _;show (0:Rat)*A=0;grind
   | succ m ih=>
    intro hm;show (pe (fun i=>if i < n then (c i:Rat) / A else 0) t m+(if m < n then (c m:Rat) / A else 0)*t^m)*A=pe (rc c) t m+rc c m*t^m
    rw [if_pos (by omega),← ih (by omega)];have:(c m:Rat) / A*A=(c m:Rat):=aij (by grind);show _=_+(c m:Rat)*t^m
    grind
  have e2:FF c t=pe (rc c) t n+a*t^n:=by
   rw [← iO z,show lg c=n+1 by omega,ha];rfl
  rw [e2,← e n (Nat.le_refl _)];obtain ⟨P,hP⟩:∃ P,P=pe (fun i=>if i < n then (c i:Rat) / A else 0) t n:=⟨_,rfl⟩
  rw [← hP] at h1 ⊢;have h5:oQ (P+(if A=a then 1 else -1)*t^n) 1:=by
   unfold Ab at h1;split
   ·rcases h2 with k | k
    ·left;grind
    ·right;grind
   ·rcases h2 with k | k
    ·right;grind
    ·left;grind
  have h6:=oQ.mul (d:=1) (e:=A) (by grind) (by grind) h5 (Or.inl (show A≤A by grind));have e3:(P+(if A=a then 1 else -1)*t^n)*A=P*A+a*t^n:=by
   split
   ·rename_i k;rw [← k];grind
   ·rename_i k
    have:A= -a:=by rcases hAa with x | x;exact absurd x k;exact x
    have ha':a= -A:=by grind
    rw [ha'];grind
  rw [e3] at h6;rcases h6 with k | k
  ·left;grind
  ·right;grind
 rw [hb];constructor
 ·apply abP
  intro nc;obtain ⟨q,hq⟩:=hC.lo;obtain ⟨t,t1,t2,ht⟩:=v (1 / 2) (by grind) q (-(1+H)) hq nc;unfold Ab at ht
  rcases far t (-t) (Or.inr (by grind)) (by grind) with k | k <;> grind
 ·intro cc
  obtain ⟨r,hr⟩:=hC.hi;obtain ⟨t,t1,t2,ht⟩:=v (1 / 2) (by grind) (1+H) r cc hr;unfold Ab at ht;rcases far t t (Or.inl rfl) (by grind) with k | k <;> grind
end
end Go.Proofs.YtapmpcgekdplfaaGreat
