/-
  Laws of the program's functions by an abstract machine, part 4: joined, short spelling. No condition.
-/
import Derived.Test.YtapmpcgekdplfaaGreatJ3
set_option linter.unusedVariables false
set_option linter.unusedSimpArgs false
set_option maxRecDepth 100000
set_option maxHeartbeats 4000000
namespace Go.Proofs.YtapmpcgekdplfaaGreat
open Go.RowKit
/-- Powers of two. -/
def t2(k:Nat):Rat:=((2^k:Nat):Rat)
theorem jv(a b:Nat):t2 (a+b)=t2 a*t2 b:=by unfold t2;rw [Nat.pow_add];exact Rat.natCast_mul _ _
theorem iq(k:Nat):0 < t2 k:=by unfold t2;exact_mod_cast Nat.two_pow_pos k
theorem MV(k:Nat):1≤t2 k:=qj (a:=1) (Nat.two_pow_pos k)
theorem FZ{a b:Nat}(h:a≤b):t2 a≤t2 b:=qj (Nat.pow_le_pow_right (by decide) h)
theorem MW(a:Nat):∀ n:Nat,t2 a^n=t2 (a*n)
 | 0=>by rw [Rat.pow_zero];rfl
 | n+1=>by rw [Rat.pow_succ,MW a n,← jv,Nat.mul_succ]
theorem Py{n a:Nat}(h:n≤2^a):(n:Rat)≤t2 a:=qj h
theorem AP{x y:Rat}{a b:Nat}(hx:x≤t2 a)(hy:y≤t2 b)(hy0:0≤y):x*y≤t2 (a+b):=by
 rw [jv];have h1:x*y≤t2 a*y:=Rat.mul_le_mul_of_nonneg_right hx hy0;have h2:t2 a*y≤t2 a*t2 b:=Rat.mul_le_mul_of_nonneg_left hy (by have:=iq a;grind);grind
theorem L8{x:Rat}(h:0≤x):∀ n:Nat,0≤x^n
 | 0=>by rw [Rat.pow_zero];grind
 | n+1=>by rw [Rat.pow_succ];exact Rat.mul_nonneg (L8 h n) h
theorem Ap{x y:Rat}(h:0≤x)(k:x≤y):∀ n:Nat,x^n≤y^n
 | 0=>by rw [Rat.pow_zero,Rat.pow_zero];grind
 | n+1=>by
  rw [Rat.pow_succ,Rat.pow_succ];have h1:=Rat.mul_le_mul_of_nonneg_right (Ap h k n) h;have h2:=Rat.mul_le_mul_of_nonneg_left k (L8 (show 0≤y by grind) n);grind
theorem Hu:∀ n,n≤40→n≤2^(n / 2+1):=by
 intro n hn;have:∀ m:Fin 41,m.val≤2^(m.val / 2+1):=by decide
 exact this ⟨n,by omega⟩
/-- A row's size on an interval, and how steep it is. -/
theorem Ee{u:Nat→Int}{m n a k bl:Nat}{H:Rat}(hm:m≤n)(ha:n≤2^a)(hu:∀ i,Ab (u i:Rat) H)(hH:H≤t2 k):(∀ x,In (t2 bl) x→Ab (pz u x m) (t2 (3*a+bl*n+k)))∧Qa (t2 bl) (fun x=>pz u x m) (t2 (3*a+bl*n+k)):=by
 have hH0:0≤H:=(hu 0).nn;have hB:=MV bl;have hn:(n:Rat)≤t2 a:=Py ha;have hn0:=iH n;have hm':(m:Rat)≤(n:Rat):=qj hm;have hTB:TB n H (t2 bl)≤t2 (a+a+bl*n+k):=by
  unfold TB;rw [MW];exact AP (AP (AP hn hn hn0) (by grind) (by have:=iq (bl*n);grind)) hH hH0
 have hT0:=PD (N:=n) hB hH0;have hall:(m:Rat)*TB n H (t2 bl)≤t2 (3*a+bl*n+k):=by
  have h1:=AP (show (m:Rat)≤t2 a by grind) hTB hT0;rwa [show a+(a+a+bl*n+k)=3*a+bl*n+k by omega] at h1
 refine ⟨fun x hx=>(Zy hB hH0 (Ey hx (by grind)) hm fun i _=>hu i).mono hall,fun x y hx hy hxy=>?_⟩;have h1:=Rj (c:=rc u) hB hH0 (Ey hx (show t2 bl≤t2 bl by grind)) (Ey hy (by grind)) hxy hm fun i _=>hu i
 have h2:(m:Rat)*TB n H (t2 bl)*(y-x)≤t2 (3*a+bl*n+k)*(y-x):=Rat.mul_le_mul_of_nonneg_right hall (by grind);have h3:=h1.mono h2;unfold Ab at h3;show pe (rc u) y m-pe (rc u) x m≤_∧pe (rc u) x m-pe (rc u) y m≤_
 constructor <;> grind
theorem Ez{z:Int}{H:Nat}(h: -(H:Int)≤z∧z≤H):Ab (z:Rat) (H:Rat):=by
 constructor
 ·exact JK h.1
 ·have:(z:Rat)≤(((H:Nat):Int):Rat):=by exact_mod_cast h.2
  exact this
theorem aeE{z:Int}(h:z≠0):1≤(z:Rat)∨(z:Rat)≤-1:=Tn h
theorem oq{c:Nat→Int}(z:aZ c){n:Nat}(h:∀ i,n≤i→c i=0)(x:Rat):pz c x n=FF c x:=congrFun (xu h z) x
/-- f with its derivative: all is small. -/
theorem afk{c:Nat→Int}(zc:aZ c)(sq:zD (FF c) (FF (bM c)))(h2:2≤lg c){h1:Nat}(hc:∀ i,(c i).natAbs≤2^h1)(bl a:Nat)(ha:lg c≤2^a):
  ∃ (U V:Fn) (z:Rat),(1≤z∨z≤-1)∧(∀ x,U x*FF c x+V x*FF (bM c) x=z)∧(∀ x,In (t2 bl) x→Ab (U x) (t2 (3*a+bl*lg c+(2+a+(a+h1))*(2*lg c-3))))∧(∀ x,In (t2 bl) x→Ab (V x) (t2 (3*a+bl*lg c+(2+a+(a+h1))*(2*lg c-3))))∧Qa (t2 bl) (FF (bM c)) (t2 (3*a+bl*lg c+(a+h1))):=by
 obtain ⟨n,hn⟩:∃ n,n=lg c:=⟨_,rfl⟩
 rw [← hn] at h2 ha ⊢;have hz:∀ i,n≤i→c i=0:=by rw [hn];exact zc.lg
 have htop:c (n-1)≠0:=by rw [hn];exact kG (by omega)
 have hz':∀ i,n-1≤i→bM c i=0:=fun i hi=>by unfold bM;rw [hz (i+1) (by omega)];simp
 have Ox:bM c (n-2)≠0:=by
  unfold bM;rw [show n-2+1=n-1 by omega];exact Int.mul_ne_zero htop (by omega)
 obtain ⟨H,hH⟩:∃ H,H=n*2^h1:=⟨_,rfl⟩
 have hp:=Nat.two_pow_pos h1;have hle:2^h1≤H:=by rw [hH];exact Nat.le_mul_of_pos_left _ (by omega)
 have bc:∀ i,-(H:Int)≤c i∧c i≤H:=fun i=>by have:=hc i;omega
 have bc':∀ i,-(H:Int)≤bM c i∧bM c i≤H:=fun i=>by
  by_cases hi:n-1≤i
  ·rw [hz' i hi];omega
  ·have e:(bM c i).natAbs≤H:=by
    unfold bM;rw [Int.natAbs_mul,hH,Nat.mul_comm];exact Nat.mul_le_mul (by omega) (hc _)
   omega
 obtain ⟨U,V,z,hz0,hU0,hV0,bU,bV,KX⟩:=SE (c:=c) (c':=bM c) (γ:=fun i=>if i=0 then 1 else 0) (d:=n-1) (e:=n-2) (r:=0) (H:=H) (k1:=FF c) (k2:=FF (bM c)) (fun i hi=>hz i (by omega)) (fun i hi=>hz' i (by omega)) (fun i hi=>if_neg (by omega)) htop Ox (by decide) (by decide) (by omega) bc bc' sq.po sq.V5
  (fun x=>by rw [oq zc (fun i hi=>hz i (by omega))];show _=FF c x*(0+1*x^0);rw [Rat.pow_zero];grind)
  (fun x=>by rw [oq (eH zc) (fun i hi=>hz' i (by omega))];show _=FF (bM c) x*(0+1*x^0);rw [Rat.pow_zero];grind) sq.cop (by omega) (by omega) (by omega)
 have hKH:(((2*(n-1+(n-2))*H)^(n-1+(n-2)):Nat):Rat)≤t2 ((2+a+(a+h1))*(2*n-3)):=by
  refine Py ?_;rw [Nat.pow_mul,show n-1+(n-2)=2*n-3 by omega];refine Nat.pow_le_pow_left ?_ _;have e:2*(2*n-3)≤2^(2+a):=by rw [Nat.pow_add];omega
  have e2:H≤2^(a+h1):=by rw [hH,Nat.pow_add];exact Nat.mul_le_mul_right _ ha
  rw [Nat.pow_add];exact Nat.mul_le_mul e e2
 have rU:=Ee (u:=U) (m:=n-2-0) (n:=n) (bl:=bl) (by omega) ha (fun i=>Ez (bU i)) hKH;have rV:=Ee (u:=V) (m:=n-1-0) (n:=n) (bl:=bl) (by omega) ha (fun i=>Ez (bV i)) hKH;have rL:=Ee (u:=bM c) (m:=n-1) (n:=n) (bl:=bl) (k:=a+h1) (by omega) ha (fun i=>Ez (bc' i)) (Py (by rw [hH,Nat.pow_add];exact Nat.mul_le_mul_right _ ha));refine ⟨fun x=>pz U x (n-2-0),fun x=>pz V x (n-1-0),(z:Rat),aeE hz0,fun x=>?_,rU.1,rV.1,?_⟩
 ·have h:=KX x
  rw [oq zc (fun i hi=>hz i (by omega)),oq (eH zc) (fun i hi=>hz' i (by omega))] at h;rw [h];show (z:Rat)*(0+1*x^0)=z
  rw [Rat.pow_zero];grind
 ·have e:(fun x=>pz (bM c) x (n-1))=FF (bM c):=funext fun x=>oq (eH zc) hz' x
  rw [← e];exact rL.2
/-- Both have a greatest common divisor, with whole quotients. -/
theorem abK{c d:Nat→Int}(zc:aZ c)(zd:aZ d)(hc:lg c≠0)(hd:lg d≠0):∃ γ k1 k2:Nat→Int,aZ γ∧lg γ≠0∧bn γ (lg γ)=1∧aZ k1∧aZ k2∧(∀ i,aX k1 γ i=c i)∧(∀ i,aX k2 γ i=d i)∧lg γ≤lg c∧lg γ≤lg d∧DC (FF k1) (FF k2)∧(∀ x,FF c x=FF k1 x*FF γ x)∧∀ x,FF d x=FF k2 x*FF γ x:=by
  obtain ⟨D,u,v,s,t,pD,pu,pv,ps,pt,h1,h2,h3⟩:=Ip 20 (FF c) (FF d) (cu zc) ⟨rc d,ql zd,fun _=>rfl⟩;have hD:∃ x,D x≠0:=by
    obtain ⟨x,hx⟩:=uz zc hc;refine ⟨x,fun e=>hx ?_⟩;rw [h2,e,Rat.mul_zero]
  obtain ⟨k,α,hk⟩:=mM pD hD;have hkc:=Dv.deg ⟨s,ps,h2⟩ hk (Ep zc hc);have hlc:=dK c;obtain ⟨q,hq1,hq2,hq3,hq⟩:=hk;obtain ⟨m,w,hm,hw,e⟩:=Eo (q:=q) (k:=k+1) fun i hi=>hq1 i (by omega)
  have zw:aZ w:=fun i hi=>hw i (by omega)
  have hm0 : (m : Rat) ≠ 0 := by have : (0 : Rat) < (m : Rat) := by exact_mod_cast hm
                                 grind
  have hFw:∀ x,FF w x=D x*(m:Rat):=fun x=>by
    rw [← oq zw hw,hq x];show pe (rc w) x (k+1)=_
    rw [← rO];exact lQ fun i _=>e i
  have hw0:lg w≠0:=fun e0=>by
    obtain ⟨x,hx⟩:=hD;have:=(nM zw).1 e0 x;rw [hFw] at this;rcases Rat.mul_eq_zero.1 this with h | h
    · exact hx h
    · exact hm0 h
  obtain ⟨σ,hσ,hFp⟩:=vO zw hw0;have pm:=jM zw hw0;have zγ:=fZ zw;obtain ⟨γ,hγ⟩:∃ γ,γ=bC w:=⟨_,rfl⟩
  rw [← hγ] at hFp pm zγ;have hDγ:∀ x,D x=σ / (m:Rat)*FF γ x:=fun x=>by
    have h4:=hFp x;rw [hFw] at h4;have:D x=D x*(m:Rat) / (m:Rat):=by grind
    rw [this,h4];grind
  have ec:∀ x,FF c x=(s x*(σ / (m:Rat)))*FF γ x:=fun x=>by rw [h2 x,hDγ x];grind
  have ed:∀ x,FF d x=(t x*(σ / (m:Rat)))*FF γ x:=fun x=>by rw [h3 x,hDγ x];grind
  obtain ⟨k1,n1,z1,c1,e1⟩:=ni zc.lg zγ.lg pm.one (ps.xk (σ / (m:Rat))) (fun x=>by rw [iD zc,iD zγ];exact ec x);obtain ⟨k2,n2,z2,c2,e2⟩:=ni zd.lg zγ.lg pm.one (pt.xk (σ / (m:Rat))) (fun x=>by rw [iD zd,iD zγ];exact ed x);have y1:=JU zγ zc pm.pos z1 c1;have y2:=JU zγ zd pm.pos z2 c2;have f1:∀ x,FF k1 x=s x*(σ / (m:Rat)):=fun x=>by rw [← oq y1 z1];exact e1 x
  have f2:∀ x,FF k2 x=t x*(σ / (m:Rat)):=fun x=>by rw [← oq y2 z2];exact e2 x
  have g1:∀ x,FF c x=FF k1 x*FF γ x:=fun x=>by rw [f1];exact ec x
  have g2:∀ x,FF d x=FF k2 x*FF γ x:=fun x=>by rw [f2];exact ed x
  refine ⟨γ,k1,k2,zγ,pm.pos,pm.one,y1,y2,c1,c2,(lC zc zγ hc ⟨_,cu y1,g1⟩).2,(lC zd zγ hd ⟨_,cu y2,g2⟩).2,?_,g1,g2⟩;have hne:=uz zγ pm.pos;have hτ:σ / (m:Rat)≠0:=fun h=>by
    have:σ=σ / (m:Rat)*(m:Rat):=by grind
    rw [h,Rat.zero_mul] at this;exact hσ this
  refine ⟨fun x=>u x*((m:Rat) / σ),fun x=>v x*((m:Rat) / σ),pu.xk _,pv.xk _,fun x=>?_⟩;refine mJ (cu zγ) hne (((pu.xk ((m:Rat) / σ)).mul (cu y1)).add ((pv.xk ((m:Rat) / σ)).mul (cu y2))) (bT 1) (fun x=>?_) x;have h5:=h1 x;rw [hDγ x,g1 x,g2 x] at h5;have h6:FF γ x=(u x*(FF k1 x*FF γ x)+v x*(FF k2 x*FF γ x))*((m:Rat) / σ):=by
    rw [← h5];have:σ / (m:Rat)*((m:Rat) / σ)=1:=by grind
    grind
  grind
/-- Two: all is small. -/
theorem alE{c d γ k1 k2:Nat→Int}(zc:aZ c)(zd:aZ d)(zγ:aZ γ)(y1:aZ k1)(y2:aZ k2)(hc2:2≤lg c)(hd2:2≤lg d)(hγ0:lg γ≠0)(pm:bn γ (lg γ)=1)(c2:∀ i,aX k2 γ i=d i)(hγc:lg γ≤lg c)(hγd:lg γ≤lg d)(hne:lg γ < lg c∨lg γ < lg d)(cop:DC (FF k1) (FF k2))(g1:∀ x,FF c x=FF k1 x*FF γ x)(g2:∀ x,FF d x=FF k2 x*FF γ x) 
  {hm h2:Nat} (hc:∀ i,(c i).natAbs≤2^hm) (hd:∀ i,(d i).natAbs≤2^hm) (hdd:∀ i,(d i).natAbs≤2^h2) (bl a a2 N:Nat) (hN:N=lg c+lg d) (ha:N≤2^a) (ha2:lg d≤2^a2):
  ∃ (U V:Fn) (z:Rat),(1≤z∨z≤-1)∧(∀ x,U x*FF k1 x+V x*FF k2 x=z)∧(∀ x,In (t2 bl) x→Ab (U x) (t2 (3*a+bl*N+(1+a+hm)*(N-2))))∧(∀ x,In (t2 bl) x→Ab (V x) (t2 (3*a+bl*N+(1+a+hm)*(N-2))))∧Qa (t2 bl) (FF k2) (t2 (3*a2+bl*lg d+(a2+(h2+(1+a2)*lg d)+(4+a2)*lg d))):=by
 obtain ⟨n1,e1⟩:∃ n,n=lg c:=⟨_,rfl⟩
 obtain ⟨n2,e2⟩:∃ n,n=lg d:=⟨_,rfl⟩
 obtain ⟨r,er⟩:∃ r,r+1=lg γ:=⟨lg γ-1,by omega⟩
 rw [← e1] at hc2 hγc hne hN;rw [← e2] at hd2 hγd hne hN ha2 ⊢;rw [← er] at hγc hγd hne pm;have hz1:∀ i,n1≤i→c i=0:=by rw [e1];exact zc.lg
 have hz2:∀ i,n2≤i→d i=0:=by rw [e2];exact zd.lg
 have hzγ:∀ i,r+1≤i→γ i=0:=by rw [er];exact zγ.lg
 have t1:c (n1-1)≠0:=by rw [e1];exact kG (by omega)
 have t2':d (n2-1)≠0:=by rw [e2];exact kG (by omega)
 have t3:γ r≠0:=by have:=kG (c:=γ) (by omega);rwa [← er,Nat.add_sub_cancel] at this
 have hp:=Nat.two_pow_pos hm;obtain ⟨U,V,z,hz0,hU0,hV0,bU,bV,KX⟩:=SE (c:=c) (c':=d) (γ:=γ) (d:=n1-1) (e:=n2-1) (r:=r) (H:=2^hm) (k1:=FF k1) (k2:=FF k2) (fun i hi=>hz1 i (by omega)) (fun i hi=>hz2 i (by omega)) (fun i hi=>hzγ i (by omega)) t1 t2' t3 pm (by omega) (fun i=>by have:=hc i;omega) (fun i=>by have:=hd i;omega) (cu y1) (cu y2)
  (fun x=>by rw [oq zc (fun i hi=>hz1 i (by omega)),oq zγ hzγ];exact g1 x)
  (fun x=>by rw [oq zd (fun i hi=>hz2 i (by omega)),oq zγ hzγ];exact g2 x) cop (by omega) (by omega) (by omega)
 have hKH:(((2*(n1-1+(n2-1))*2^hm)^(n1-1+(n2-1)):Nat):Rat)≤t2 ((1+a+hm)*(N-2)):=by
  refine Py ?_;rw [Nat.pow_mul,show n1-1+(n2-1)=N-2 by omega];refine Nat.pow_le_pow_left ?_ _;have e:2*(N-2)≤2^(1+a):=by rw [Nat.pow_add];omega
  rw [Nat.pow_add (m:=1+a)];exact Nat.mul_le_mul e (Nat.le_refl _)
 have rU:=Ee (u:=U) (m:=n2-1-r) (n:=N) (bl:=bl) (by omega) ha (fun i=>Ez (bU i)) hKH;have rV:=Ee (u:=V) (m:=n1-1-r) (n:=N) (bl:=bl) (by omega) ha (fun i=>Ez (bV i)) hKH;have ajj:∀ i,n2≤i→k2 i=0:=fun i hi=>by
  have h5:=lC zd y2 (by omega) ⟨FF γ,cu zγ,fun x=>by rw [g2 x];grind⟩;exact y2.lg i (by omega)
 have hcc:∀ i,aX γ k2 i=d i:=fun i=>by rw [← c2 i];exact yV _ _ i
 have amj:=XY (a:=d) (b:=k2) (w:=γ) (n:=n2) (k:=r+1) (H:=t2 h2) (i0:=n2-1) hz2 t2' (by omega) ajj hzγ hcc (by have:=iq h2;grind) (fun i=>Ez (H:=2^h2) (by have:=hdd i;omega));have hn2:(n2:Rat)≤t2 a2:=Py ha2;have amo:=iH n2;have hkb:(n2:Rat)*(t2 h2*(2*(n2:Rat))^n2)*(10*(n2:Rat))^n2≤t2 (a2+(h2+(1+a2)*n2)+(4+a2)*n2):=by
  have q1:(2*(n2:Rat))^n2≤t2 ((1+a2)*n2):=by
   rw [← MW];exact Ap (by grind) (by rw [jv];have:t2 1=2:=rfl;rw [this];grind) n2
  have q2:(10*(n2:Rat))^n2≤t2 ((4+a2)*n2):=by
   rw [← MW];exact Ap (by grind) (by rw [jv];have:t2 4=16:=rfl;rw [this];grind) n2
  have p1:=L8 (x:=2*(n2:Rat)) (by grind) n2;have p2:=L8 (x:=10*(n2:Rat)) (by grind) n2;exact AP (AP hn2 (AP (by grind) q1 p1) (Rat.mul_nonneg (by have:=iq h2;grind) p1)) q2 p2
 have rL:=Ee (u:=k2) (m:=n2) (n:=n2) (bl:=bl) (by omega) ha2 amj hkb;have hne':=uz zγ hγ0;refine ⟨fun x=>pz U x (n2-1-r),fun x=>pz V x (n1-1-r),(z:Rat),aeE hz0,fun x=>?_,rU.1,rV.1,?_⟩
 ·refine mJ (cu zγ) hne' (((ZE (c:=U) hU0).mul (cu y1)).add ((ZE (c:=V) hV0).mul (cu y2))) (bT (z:Rat)) (fun x=>?_) x
  have h:=KX x;rw [oq zc (fun i hi=>hz1 i (by omega)),oq zd (fun i hi=>hz2 i (by omega)),oq zγ hzγ,g1 x,g2 x] at h;show FF γ x*(pz U x (n2-1-r)*FF k1 x+pz V x (n1-1-r)*FF k2 x)=FF γ x*(z:Rat)
  grind
 ·have e:(fun x=>pz k2 x n2)=FF k2:=funext fun x=>oq y2 ajj x
  rw [← e];exact rL.2
theorem afB{n1 n2 h1 h2 hl:Nat}(a1:2≤n1)(a2:n1≤20)(a3:2≤n2)(b1:hl≤h1)(b2:hl≤h2):(3*(n1 / 2+1)+(hl+2)*n1+(2+(n1 / 2+1)+((n1 / 2+1)+h1))*(2*n1-3))+(3*(n1 / 2+1)+(hl+2)*n1+((n1 / 2+1)+h1)) < 20+2*(n1+n2)*(h1+h2+(n1+n2)+8):=by
 have hm:2*(n1+2)*(h1+hl+(n1+2)+8)≤2*(n1+n2)*(h1+h2+(n1+n2)+8):=Nat.mul_le_mul (by omega) (by omega);refine Nat.lt_of_lt_of_le ?_ (Nat.add_le_add_left hm 20);have h:n1=2∨n1=3∨n1=4∨n1=5∨n1=6∨n1=7∨n1=8∨n1=9∨n1=10∨n1=11∨n1=12∨n1=13∨n1=14∨n1=15∨n1=16∨n1=17∨n1=18∨n1=19∨n1=20:=by omega
 rcases h with rfl | rfl | rfl | rfl | rfl | rfl | rfl | rfl | rfl | rfl | rfl | rfl | rfl | rfl | rfl | rfl | rfl | rfl | rfl <;> omega
theorem alK{n1 n2 h1 h2 hl:Nat}(a1:2≤n1)(a2:n1≤20)(a3:2≤n2)(a4:n2≤20)(b1:hl≤h1)(b2:hl≤h2)(b3:hl=h1∨hl=h2):(3*((n1+n2) / 2+1)+(hl+2)*(n1+n2)+(1+((n1+n2) / 2+1)+max h1 h2)*((n1+n2)-2))+(3*(n2 / 2+1)+(hl+2)*n2+((n2 / 2+1)+(h2+(1+(n2 / 2+1))*n2)+(4+(n2 / 2+1))*n2)) < 20+2*(n1+n2)*(h1+h2+(n1+n2)+8):=by
 have h:n1=2∨n1=3∨n1=4∨n1=5∨n1=6∨n1=7∨n1=8∨n1=9∨n1=10∨n1=11∨n1=12∨n1=13∨n1=14∨n1=15∨n1=16∨n1=17∨n1=18∨n1=19∨n1=20:=by omega
 have h':n2=2∨n2=3∨n2=4∨n2=5∨n2=6∨n2=7∨n2=8∨n2=9∨n2=10∨n2=11∨n2=12∨n2=13∨n2=14∨n2=15∨n2=16∨n2=17∨n2=18∨n2=19∨n2=20:=by omega
 rcases h with rfl | rfl | rfl | rfl | rfl | rfl | rfl | rfl | rfl | rfl | rfl | rfl | rfl | rfl | rfl | rfl | rfl | rfl | rfl <;> rcases h' with rfl | rfl | rfl | rfl | rfl | rfl | rfl | rfl | rfl | rfl | rfl | rfl | rfl | rfl | rfl | rfl | rfl | rfl | rfl <;> omega
theorem iF{K L M:Nat}{c:Nat→Int}{lo hi:Rat}(hL:L≤1000000:=by omega)(hM:M≤1000000:=by omega):aC Tryz.prog 64 [.agg ([.row 2 (lg c) (bW K c)] ++tn L lo ++tn M hi)] (.d (.one (.v (.bool (decide (hi≤lo)))))):=by
 exact aN 9 [.tmp 2] Tryz.func64 rfl<|cR<|mO rfl<|mW rfl<|mT<|cR<|mv4 rfl rfl rfl rfl<|mY iI rfl<|mV aj (.d (.one (.v (.bool (decide (hi≤lo)))))) (bZ (decide_eq_decide.2 vW))<|mW rfl<|mT<|aO<|rQ rfl (AV.le.rfl)
theorem ahP{K L:Nat}{c:Nat→Int}{t:Rat}(hz:aZ c)(hK:K≤10000000-2:=by omega)(hL:L≤1000000:=by omega):aC Tryz.prog 101 [.one (gQ K (lg c) c),.agg (tn L t)] (.d (.one (.v (.int .i64 (wX (FF c) (FF (bM c)) t))))):=by
 have hlc:=dK c;have hld:=qQ (bM c) (lg c-1);refine aN 16 [.tmp 4] Tryz.func101 rfl<|cR<|mO rfl<|mW rfl<|mT<|au<|cR<|mv2 rfl rfl<|mY (KE (uw (K:=K) (c:=c) (aZ.lg hz)) hz) rfl<|mW rfl<|mT<|au ?_
 by_cases h0:eP (FF c t)=0
 ·exact aA<|mW rfl<|mbF rfl (by rw [h0];rfl)<|mT<|cFs rfl<|au<|cDk 5<|.cons (aB.V _ rfl)<|oC (ahW (uw (K:=K) (c:=c) (aZ.lg hz)) (M:=(K+2))) rfl<|oV rfl<|oC (KE (uw (K:=(K+2)) (c:=(bM c)) (nG (D5 (aZ.lg hz)))) (eH hz)) rfl<|.cons (aB.V _ rfl)<|.nil<|mT<|aO<|rQ rfl (aG ((KI h0).symm))
 ·exact aA<|mW rfl<|mbT rfl (bne_iff_ne.2 h0)<|mT<|cT rfl<|cR<|mv2 rfl rfl<|mT<|aO<|tR<|rQ rfl (aG ((xA h0).symm))
def G6(c:Nat→Int)(lo hi:Rat):Bool:=decide (eP (FF c hi)=0∨eP (FF c hi)≠wX (FF c) (FF (bM c)) lo)
theorem Vd{c:Nat→Int}{lo hi:Rat}(h:eP (FF c hi)=0):G6 c lo hi=true:=decide_eq_true (Or.inl h)
theorem abT{c:Nat→Int}{lo hi:Rat}(h:eP (FF c hi)≠0):G6 c lo hi=(eP (FF c hi) !=wX (FF c) (FF (bM c)) lo):=by
 unfold G6
 by_cases k:eP (FF c hi)=wX (FF c) (FF (bM c)) lo
 ·rw [decide_eq_false (by rintro (h' | h');exact h h';exact h' k),k];simp
 ·rw [decide_eq_true (Or.inr k)];exact (bne_iff_ne.2 k).symm
theorem ahN{K L M:Nat}{c:Nat→Int}{lo hi:Rat}(hz:aZ c)(hK:K≤10000000-2:=by omega)(hL:L≤1000000:=by omega)(hM:M≤1000000:=by omega):aC Tryz.prog 70 [.one (gQ K (lg c) c),.agg (tn L lo),.agg (tn M hi)] (.d (.one (.v (.bool (G6 c lo hi))))):=by
 have hlc:=dK c;refine aN 20 [.tmp 6] Tryz.func70 rfl<|cR<|mO rfl<|mO rfl<|mW rfl<|mT<|cR<|mv2 rfl rfl<|mY (KE (uw (K:=K) (c:=c) (aZ.lg hz)) hz) rfl<|mW rfl<|mT<|au ?_
 by_cases h0:eP (FF c hi)=0
 ·exact aA<|mW rfl<|mbT rfl (beq_iff_eq.2 h0)<|mW rfl<|mG rfl rfl<|mG rfl rfl<|mG rfl rfl<|mG rfl rfl<|mG rfl rfl<|mv2 rfl rfl<|mT<|aO<|rQ rfl (yZ ((Vd h0).symm))
 ·exact aA<|mW rfl<|mbF rfl (beq_eq_false_iff_ne.2 h0)<|mv4 rfl rfl rfl rfl<|mY (ahP hz) rfl<|mv3 rfl rfl rfl<|mT<|aO<|rQ rfl (yZ ((abT h0).symm))
theorem Qh{K L M:Nat}{c:Nat→Int}{lo hi:Rat}(hz:aZ c)(hK:K≤10000000:=by omega)(hL:L≤1000000:=by omega)(hM:M≤1000000:=by omega):aC Tryz.prog 63 [.agg ([.row 2 (lg c) (bW K c)] ++tn L lo ++tn M hi)] (.d (.agg ([.row 2 (lg c) (bW K c)] ++tn L lo ++tn M hi))):=by
 have hlc:=dK c;have hd:dg c (lg c)=lg c:=kF hz.lg hz;exact aN 13 [.cell 2 40] Tryz.func63 rfl<|cR<|mO rfl<|mO rfl<|mT<|au<|cDk 10<|oV rfl<|oV rfl<|oC (tY (uw (K:=K) (c:=c) (aZ.lg hz))) rfl<|oV rfl<|oV rfl<|oC adt rfl<|oV rfl<|oV rfl<|oC adt rfl<|oV rfl<|.nil<|mZ rfl<|mT<|aO<|rQ rfl (by rw [hd];exact AV.le.rfl)
theorem Kr{K L M N:Nat}{c:Nat→Int}{lo hi t:Rat}(hA:sH c lo hi)(hK:K≤10000000-2:=by omega)(hL:L≤1000000:=by omega)(hM:M≤1000000:=by omega)(hN:N≤1000000:=by omega):aC Tryz.prog 65 [.agg ([.row 2 (lg c) (bW K c)] ++tn L lo ++tn M hi),.agg (tn N t)] (.d (.one (.v (.int .i64 (cZ (bJ c lo hi) (fE t)))))):=by
 have hlc:=dK c;refine aN 40 [.tmp 4] Tryz.func65 rfl<|cR<|mO rfl<|mO rfl<|mW rfl<|mT<|au<|aJ<|cR<|mW rfl<|mY iF rfl<|mW rfl<|mT<|aW rfl (fun hc1=>?_) (fun hc1=>?_)
 ·exact cR<|mv3 rfl rfl rfl<|mY iI rfl<|mW rfl<|mT<|aO<|bR<|tR<|rQ rfl (aG (by rw [hA.rat t,if_pos (of_decide_eq_true hc1)]))
 ·refine cR<|mv3 rfl rfl rfl<|mY iI rfl<|mv2 rfl rfl<|mT<|aW rfl (fun hc2=>?_) (fun hc2=>?_)
  ·exact cR<|mW rfl<|mT<|aO<|bR<|tR<|rQ rfl (aG (by rw [hA.rat t,if_neg (of_decide_eq_false hc1),if_pos (dP.1 (of_decide_eq_true hc2))]))
  ·refine cR<|mv3 rfl rfl rfl<|mY iI rfl<|mv2 rfl rfl<|mT<|aW rfl (fun hc3=>?_) (fun hc3=>?_)
   ·exact cR<|mW rfl<|mT<|aO<|bR<|tR<|rQ rfl (aG (by rw [hA.rat t,if_neg (of_decide_eq_false hc1),if_neg (fun h=>(of_decide_eq_false hc2) (dP.2 h)),if_pos (Rat.not_le.1 (fun h=>Int.not_lt.2 (dP.2 h) (of_decide_eq_true hc3)))]))
   ·refine aF<|bN<|tN<|cR<|mv3 rfl rfl rfl<|mY (KE (uw (K:=K) (c:=c) (aZ.lg hA.z)) hA.z) rfl<|mW rfl<|mT<|au<|aJ<|cR<|mv3 rfl rfl rfl<|mT<|aW rfl (fun hc4=>?_) (fun hc4=>?_)
    ·exact cR<|mW rfl<|mT<|aO<|bR<|tR<|rQ rfl (aG (by rw [hA.rat t,if_neg (of_decide_eq_false hc1),if_neg (fun h=>(of_decide_eq_false hc2) (dP.2 h)),if_neg (fun h=>(of_decide_eq_false hc3) (by have:=sS h;omega)),if_pos (beq_iff_eq.1 hc4)]))
    ·refine cR<|mv5 rfl rfl rfl rfl rfl<|mY (ahP hA.z) rfl<|mv2 rfl rfl<|mT<|aW rfl (fun hc5=>?_) (fun hc5=>?_)
     ·exact cR<|mW rfl<|mT<|aO<|bR<|tR<|rQ rfl (aG (by rw [hA.rat t,if_neg (of_decide_eq_false hc1),if_neg (fun h=>(of_decide_eq_false hc2) (dP.2 h)),if_neg (fun h=>(of_decide_eq_false hc3) (by have:=sS h;omega)),if_neg (beq_eq_false_iff_ne.1 hc4),if_pos (beq_iff_eq.1 hc5)]))
     ·exact aF<|bN<|tN<|cR<|mW rfl<|mT<|aO<|rQ rfl (aG (by rw [hA.rat t,if_neg (of_decide_eq_false hc1),if_neg (fun h=>(of_decide_eq_false hc2) (dP.2 h)),if_neg (fun h=>(of_decide_eq_false hc3) (by have:=sS h;omega)),if_neg (beq_eq_false_iff_ne.1 hc4),if_neg (beq_eq_false_iff_ne.1 hc5)]))
theorem gJ.cut{B:BS}{w:World}{ms:List Lf}:∀ {ls:List Lf} {cs:List Value},gJ B w (ls ++ms) cs→∃ c1 c2,cs=c1 ++c2∧gJ B w ls c1∧gJ B w ms c2
 | [],cs,h=>⟨[],cs,rfl,trivial,h⟩
 | l ::ls,c ::cs,h=>by
  obtain ⟨c1,c2,e,h1,h2⟩:=gJ.cut (ls:=ls) (cs:=cs) h.2;exact ⟨c ::c1,c2,by rw [e];rfl,⟨h.1,h1⟩,h2⟩
 | _ ::_,[],h=>h.elim
theorem gK{a b a' b':List Lf}(ha:∀ B w cs,gJ B w a cs→gJ B w a' cs)(hb:∀ B w cs,gJ B w b cs→gJ B w b' cs):∀ B w cs,gJ B w (a ++b) cs→gJ B w (a' ++b') cs:=fun B w cs h=>by
 obtain ⟨c1,c2,e,h1,h2⟩:=h.cut;rw [e];exact (ha _ _ _ h1).app (hb _ _ _ h2)
/-- An algebraic number: its cells. -/
abbrev yR(K:Nat)(c:Nat→Int)(L:Nat)(lo:Rat)(M:Nat)(hi:Rat):List Lf:= [gQ K (lg c) c] ++tn L lo ++tn M hi
theorem Ji{K L M:Nat}{c:Nat→Int}{lo hi:Rat}(z:aZ c){B:BS}{w:World}{cs:List Value}(h:gJ B w (yR K c L lo M hi) cs):Lb K c∧Tb L lo∧Tb M hi:=by
 obtain ⟨c1,c2,e,h1,h2⟩:=h.cut;obtain ⟨c3,c4,e,h3,h4⟩:=h1.cut;refine ⟨?_,MZ h4,MZ h2⟩
 match c3,h3 with
 | [v],h3=>exact Ug z.lg h3.1
theorem Fp{K L M L' M':Nat}{c:Nat→Int}{lo hi:Rat}(h1:Tb L' lo)(h2:Tb M' hi):AV.le (.d (.agg (yR K c L lo M hi))) (.d (.agg (yR K c L' lo M' hi))):=
 nT (gK (gK (fun B w cs h=>h) (vF h1)) (vF h2))
theorem Et{K L M X:Nat}{c:Nat→Int}{lo hi:Rat}(hA:sH c lo hi)(hT1:Tb X (hlf c lo hi).1)(hT2:Tb X (hlf c lo hi).2)(hK:K≤10000000-2:=by omega)(hL:L≤100000:=by omega)(hM:M≤100000:=by omega):aC Tryz.prog 108 [.agg ([.row 2 (lg c) (bW K c)] ++tn L lo ++tn M hi)] (.d (.agg ([.row 2 (lg c) (bW K c)] ++tn X ((hlf c lo hi).1) ++tn X ((hlf c lo hi).2)))):=by
 have hlc:=dK c;refine aN 28 [.cell 2 40] Tryz.func108 rfl<|cR<|mO rfl<|mO rfl<|mT<|au<|cR<|mW rfl<|mY iF rfl<|mT<|aW rfl (fun hc1=>?_) (fun hc1=>?_)
 ·exact cR<|mW rfl<|mZ rfl<|mT<|aO<|tR<|rQ rfl (by have e:hlf c lo hi=(lo,hi):=by {unfold hlf;rw [if_pos (of_decide_eq_true hc1)]};rw [e] at hT1 hT2 ⊢;exact Fp hT1 hT2)
 ·refine aF<|tN<|cR<|mv4 rfl rfl rfl rfl<|mY (ahR (by omega) (by omega)) rfl<|mO rfl<|mZ rfl<|mT<|au<|cR<|mv2 rfl rfl<|mY (Kr hA) rfl<|mT<|aJ<|cR<|mv2 rfl rfl<|mT<|aW rfl (fun hc2=>?_) (fun hc2=>?_)
  ·exact cDs 6<|pV rfl<|pV rfl<|pV rfl<|.cons (aB.S 1 (.box 40 ([.row 2 (lg c) (bW K c)] ++tn (max L 2+1+(max M 2+1)+4) ((lo+hi) / 2) ++tn M hi)) rfl rfl) (by kernel_rfl)<|pV rfl<|.cons (aB.S 1 (.box 40 ([.row 2 (lg c) (bW K c)] ++tn (max L 2+1+(max M 2+1)+4) ((lo+hi) / 2) ++tn (max L 2+1+(max M 2+1)+4) ((lo+hi) / 2))) rfl rfl) (by kernel_rfl)<|.nil<|ak<|bN<|tN<|cR<|mW rfl<|mZ rfl<|mT<|aO<|rQ rfl (by have e:hlf c lo hi=(((lo+hi) / 2),((lo+hi) / 2)):=by {unfold hlf;rw [if_neg (of_decide_eq_false hc1),if_pos (beq_iff_eq.1 hc2)]};rw [e] at hT1 hT2 ⊢;exact Fp hT1 hT2)
  ·refine cR<|mv2 rfl rfl<|mT<|aW rfl (fun hc3=>?_) (fun hc3=>?_)
   ·exact aA<|mv2 rfl rfl<|mZ rfl<|ak<|bN<|tN<|cR<|mW rfl<|mZ rfl<|mT<|aO<|rQ rfl (by have e:hlf c lo hi=(lo,((lo+hi) / 2)):=by {unfold hlf;rw [if_neg (of_decide_eq_false hc1),if_neg (beq_eq_false_iff_ne.1 hc2),if_pos (beq_iff_eq.1 hc3)]};rw [e] at hT1 hT2 ⊢;exact Fp hT1 hT2)
   ·exact aA<|mv2 rfl rfl<|mZ rfl<|ak<|bN<|tN<|cR<|mW rfl<|mZ rfl<|mT<|aO<|rQ rfl (by have e:hlf c lo hi=(((lo+hi) / 2),hi):=by {unfold hlf;rw [if_neg (of_decide_eq_false hc1),if_neg (beq_eq_false_iff_ne.1 hc2),if_neg (beq_eq_false_iff_ne.1 hc3)]};rw [e] at hT1 hT2 ⊢;exact Fp hT1 hT2)
theorem aaw(n:Nat):((2^(n+1):Nat):Rat)=((2^n:Nat):Rat)*2:=by rw [Nat.pow_succ];exact Rat.natCast_mul _ _
theorem wO{K L:Nat}{q:Rat}(h:Tb K q)(k:K≤L):Tb L q:=⟨Nat.lt_of_lt_of_le h.1 (Nat.pow_le_pow_right (by decide) k),Nat.lt_of_lt_of_le h.2 (Nat.pow_le_pow_right (by decide) k)⟩
/-- Both ends, so long at most. -/
structure Dz(L J:Nat)(p q:Rat):Prop where
 e:∃ D R,D≠0∧D < bP^(L+L)∧R≤bP^L∧Dy D R J p∧Dy D R J q
theorem xJ{L:Nat}{p q:Rat}(h:Tb L p)(k:Tb L q):Dz L 0 p q:=by
 have hp:=p.den_pos;have hq:=q.den_pos;refine ⟨p.den*q.den,max p.num.natAbs q.num.natAbs,Nat.ne_of_gt (Nat.mul_pos hp hq),?_,?_,uN (Nat.le_max_left _ _),?_⟩
 ·rw [Nat.pow_add]
  exact Nat.mul_lt_mul'' h.2 k.2
 ·have:=h.1;have:=k.1;omega
 ·rw [Nat.mul_comm];exact uN (Nat.le_max_right _ _)
theorem Dz.mono{L J J':Nat}{p q:Rat}(h:Dz L J p q)(k:J≤J'):Dz L J' p q:=let ⟨D,R,a,b,c,d,e⟩:=h.e;⟨D,R,a,b,c,d.mono k,e.mono k⟩
theorem Dz.tb{L J X:Nat}{p q:Rat}(h:Dz L J p q)(hX:3*L+J / 32+1≤X):Tb X p∧Tb X q:=by
 obtain ⟨D,R,a,b,c,d,e⟩:=h.e;exact ⟨wO (d.tb a b c) (by omega),wO (e.tb a b c) (by omega)⟩
theorem Dz.hlf{L J:Nat}{c:Nat→Int}{p q:Rat}(h:Dz L J p q):Dz L (J+1) (hlf c p q).1 (hlf c p q).2:=by
 obtain ⟨D,R,a,b,c',d,e⟩:=h.e;exact ⟨D,R,a,b,c',(Ym d e).1,(Ym d e).2⟩
theorem ac1{L:Nat}{p q:Rat}(h:Tb L p)(k:Tb L q):q-p≤((2^(32*L+1):Nat):Rat):=by
 have h1:=(uN (p:=p) (q:=q) (R:=bP^L) (Nat.le_of_lt h.1)).b;have h2:=(uN (p:=q) (q:=p) (R:=bP^L) (Nat.le_of_lt k.1)).b;have e:((2^(32*L+1):Nat):Rat)=((bP^L:Nat):Rat)*2:=by rw [aaw,Nat.pow_mul]
 rw [e];unfold Ab at h1 h2;grind
theorem Xc{t:TypeId}{K L M L' M':Nat}{c:Nat→Int}{lo hi:Rat}(h1:Tb L' lo)(h2:Tb M' hi):AO.le (.box t (yR K c L lo M hi)) (.box t (yR K c L' lo M' hi)):=
 iY (gK (gK (fun B w cs h=>h) (vF h1)) (vF h2))
theorem CO{K m:Nat}(h:m < bP^K):bQ m≤32*K:=ig (by rw [show bP=2^32 from rfl,← Nat.pow_mul] at h;exact h)
/-- Binary digits of the greatest of n. -/
def IE(c:Nat→Int):Nat→Nat
 | 0=>0
 | n+1=>max (IE c n) (bQ (c n).natAbs)
theorem IG{K:Nat}{c:Nat→Int}(h:Lb K c):∀ n,IE c n≤32*K
 | 0=>Nat.zero_le _
 | n+1=>Nat.max_le.2 ⟨IG h n,CO (h n)⟩
theorem Uu{c:Nat→Int}:∀ {n i:Nat},i < n→bQ (c i).natAbs≤IE c n
 | n+1,i,h=>by
  show _≤max (IE c n) (bQ (c n).natAbs)
  by_cases e:i=n
  ·subst e;exact Nat.le_max_right _ _
  ·exact Nat.le_trans (Uu (show i < n by omega)) (Nat.le_max_left _ _)
theorem adB{K n:Nat}{c:Nat→Int}(hz:aZ c)(hn:n=lg c)(hK:K≤10000000:=by omega):aC Tryz.prog 137 [.one (gQ K n c)] (.d (.one (.v (.int .i64 ((IE c (lg c):Nat):Int))))):=by
 subst hn;have hlc:=dK c;refine aN 19 [.tmp 2] Tryz.func137 rfl<|cR<|mW rfl<|mT<|cR<|mW rfl<|mT<|au<|cR<|mv3 rfl rfl rfl<|mT<|aJ<|dQ (ι:=Nat) (fun (i:Nat)=>⟨19,[(6,.d (.one (.row 2 (lg c) (bW K c)))),(7,.d (.one (.v (.int .i64 ((lg c:Nat):Int))))),(8,.d (.one (.v (.int .i64 ((i:Nat):Int))))),(3,.d (.one (.v (.int .i64 ((IE c i:Nat):Int)))))],[]⟩) (fun (i:Nat)=>i≤lg c) (fun (i:Nat)=>lg c-i) 0 (Nat.zero_le _) (wk rfl ⟨hs rfl,hs rfl,hs rfl,fM rfl (aG rfl),trivial⟩ trivial rfl) ?_;rintro i hI;have hi:i≤lg c:=hI;show AW _ _ _ ⟨_,_,_⟩
 refine cR<|mW rfl<|mT<|au<|aW rfl (fun hc1=>?_) (fun hc1=>?_)
 ·refine aF<|tN<|au<|aJ<|au ?_;have hin:i < lg c:=by have h0:=of_decide_eq_true hc1;omega
  refine aA<|mV aj (.d (.one (.at 2 ((bW K c) i)))) (lu (el:=(bW K c)) (z:=((i:Nat):Int)) (n:=(lg c)) rfl rfl rfl rfl rfl rfl (by omega) (by omega)) ?_;refine mW rfl<|mO rfl<|mZ rfl<|mT<|aA<|mv3 rfl rfl rfl<|mY (DJ (YK K (Int.natAbs (c i)))) rfl ?_;refine mV aj (.d (.one (.v (.int .i64 ((IE c (i+1):Nat):Int))))) (fH (by rw [if_pos rfl];show _=((max (IE c i) (bQ (c i).natAbs):Nat):Int);split <;> omega)) ?_;exact mW rfl<|ak<|bN<|tN<|aA<|mv2 rfl rfl<|ak<|⟨(i+1),by have h0:=of_decide_eq_true hc1;omega,by have h0:=of_decide_eq_true hc1;omega,wk rfl ⟨hs rfl,hs rfl,fM rfl (aG (dG (by omega))),hs rfl,trivial⟩ trivial rfl⟩
 ·exact dO<|tE<|tE<|bE<|tN<|cR<|mv2 rfl rfl<|mT<|aO<|rQ rfl (aG (by have h0:=of_decide_eq_false hc1;rw [show i=lg c by omega]))
def vM(c:Nat→Int)(lo hi:Rat)(d:Nat→Int)(p q:Rat):Nat:=64+2*(bQ lo.num.natAbs+bQ hi.num.natAbs+bQ p.num.natAbs+bQ q.num.natAbs)+4*(lg c+lg d)*(IE c (lg c)+IE d (lg d)+(lg c+lg d)+8)
theorem ae9{K L M K2 L2 M2:Nat}{c d:Nat→Int}{lo hi p q:Rat}(zc:aZ c)(zd:aZ d)(hK:K≤10000000)(hL:L≤1000000)(hM:M≤1000000)(hK2:K2≤10000000)(hL2:L2≤1000000)(hM2:M2≤1000000):aC Tryz.prog 106 [.agg ([.row 2 (lg c) (bW K c)] ++tn L lo ++tn M hi),.agg ([.row 2 (lg d) (bW K2 d)] ++tn L2 p ++tn M2 q)] (.d (.one (.v (.int .i64 ((vM c lo hi d p q:Nat):Int))))):=by
 refine aC.l9 (fC Tryz.func106 rfl rfl) (p:=(Lb K c∧Tb L lo∧Tb M hi)∧(Lb K2 d∧Tb L2 p∧Tb M2 q)) (fun B w vs h=>match vs,h with | [_,_],⟨⟨cs,_,hl⟩,⟨ds,_,hk⟩,_⟩=>⟨Ji zc hl,Ji zd hk⟩) (fun hb=>?_);have hlc:=dK c;have hld:=dK d;have n1:=CO hb.1.2.1.1;have n2:=CO hb.1.2.2.1;have n5:=IG hb.1.1 (lg c);have n6:=IG (K:=K2) (c:=d) hb.2.1 (lg d);obtain ⟨S,hS⟩:∃ S,S=IE c (lg c)+IE d (lg d)+(lg c+lg d)+8:=⟨_,rfl⟩
 obtain ⟨P,hP⟩:∃ P,P=4*(lg c+lg d)*S:=⟨_,rfl⟩
 have hm:P≤160*1000000000:=by rw [hP];exact Nat.mul_le_mul (by omega) (by omega)
 have n3:=CO hb.2.2.1.1;have n4:=CO hb.2.2.2.1;exact aN 54 [.tmp 4] Tryz.func106 rfl<|cR<|mO rfl<|mO rfl<|mW rfl<|mT<|cR<|mv6 rfl rfl rfl rfl rfl rfl<|mV aj (.d (.one (.v (.int .i64 ((lg c+lg d:Nat):Int))))) (fH ((dS (by omega) (by omega)).trans (by omega)))<|mW rfl<|mT<|au<|cDk 24<|oV rfl<|oV rfl<|oV rfl<|oV rfl<|oC (DJ (YK L (Int.natAbs (Rat.num lo)))) rfl<|oV rfl<|oV rfl<|oV rfl<|oV rfl<|oC (DJ (YK M (Int.natAbs (Rat.num hi)))) rfl<|.cons (aB.V (.d (.one (.v (.int .i64 ((bQ lo.num.natAbs+bQ hi.num.natAbs:Nat):Int))))) (fH ((dS (by omega) (by omega)).trans (by omega))))<|oV rfl<|oV rfl<|oV rfl<|oV rfl<|oC (DJ (YK L2 (Int.natAbs (Rat.num p)))) rfl<|.cons (aB.V (.d (.one (.v (.int .i64 ((bQ lo.num.natAbs+bQ hi.num.natAbs+bQ p.num.natAbs:Nat):Int))))) (fH ((dS (by omega) (by omega)).trans (by omega))))<|oV rfl<|oV rfl<|oV rfl<|oV rfl<|oC (DJ (YK M2 (Int.natAbs (Rat.num q)))) rfl<|.cons (aB.V (.d (.one (.v (.int .i64 ((bQ lo.num.natAbs+bQ hi.num.natAbs+bQ p.num.natAbs+bQ q.num.natAbs:Nat):Int))))) (fH ((dS (by omega) (by omega)).trans (by omega))))<|.cons (aB.V _ rfl)<|.nil<|mT<|au<|cDk 18<|.cons (aB.V _ rfl)<|.cons (aB.V (.d (.one (.v (.int .i64 ((2*(bQ lo.num.natAbs+bQ hi.num.natAbs+bQ p.num.natAbs+bQ q.num.natAbs):Nat):Int))))) (fH ((dS (by omega) (by omega)).trans (by omega))))<|.cons (aB.V (.d (.one (.v (.int .i64 ((64+2*(bQ lo.num.natAbs+bQ hi.num.natAbs+bQ p.num.natAbs+bQ q.num.natAbs):Nat):Int))))) (fH ((dS (by omega) (by omega)).trans (by omega))))<|.cons (aB.V _ rfl)<|.cons (aB.V (.d (.one (.v (.int .i64 ((4*(lg c+lg d):Nat):Int))))) (fH ((dS (by omega) (by omega)).trans (by omega))))<|oV rfl<|oV rfl<|oC (adB zc rfl) rfl<|oV rfl<|oV rfl<|oC (adB zd rfl) rfl<|.cons (aB.V (.d (.one (.v (.int .i64 ((IE c (lg c)+IE d (lg d):Nat):Int))))) (fH ((dS (by omega) (by omega)).trans (by omega))))<|.cons (aB.V _ rfl)<|.cons (aB.V (.d (.one (.v (.int .i64 ((IE c (lg c)+IE d (lg d)+(lg c+lg d):Nat):Int))))) (fH ((dS (by omega) (by omega)).trans (by omega))))<|.cons (aB.V (.d (.one (.v (.int .i64 ((S:Nat):Int))))) (fH ((dS (by omega) (by omega)).trans (by omega))))<|.cons (aB.V (.d (.one (.v (.int .i64 ((P:Nat):Int))))) (fH (by rw [← Int.natCast_mul,← hP];exact dS (by omega) (by omega))))<|.cons (aB.V (.d (.one (.v (.int .i64 ((64+2*(bQ lo.num.natAbs+bQ hi.num.natAbs+bQ p.num.natAbs+bQ q.num.natAbs)+P:Nat):Int))))) (fH ((dS (by omega) (by omega)).trans (by omega))))<|.cons (aB.V _ rfl)<|.nil<|mT<|aO<|rQ rfl (aG (by unfold vM;rw [← hS,← hP]))
theorem VC.cut{p:Fn}{C D:qw}(h:VC p C)(e:∀ q,D q↔C q):VC p D:=fun ε hε q r hq hr=>h ε hε q r ((e q).1 hq) (fun k=>hr ((e r).2 k))
theorem VC.or{p q:Fn}{C:qw}(hC:dV C)(pp:Po p)(pq:Po q)(h:VC (fun x=>p x*q x) C):VC p C∨VC q C:=by
 rcases FX hC pp with k | ⟨s,k⟩
 ·exact Or.inl k
 ·rcases FX hC pq with l | ⟨t,l⟩
  ·exact Or.inr l
  ·exact absurd h fun h=>Je.TV (k.mul hC l) h
theorem adb{c:Nat→Int}(z:aZ c){C:qw}(hC:dV C)(h:VC (FF c) C)(hne:∃ x,FF c x≠0):2≤lg c:=by
 apply Classical.byContradiction;intro hn
 by_cases h0:lg c=0
 ·obtain ⟨x,hx⟩:=hne
  exact hx ((nM z).1 h0 x)
 ·obtain ⟨κ,hκ,hk⟩:=kV z (by omega)
  obtain ⟨q,hq⟩:=hC.lo;obtain ⟨r,hr⟩:=hC.hi;rcases (show κ < 0∨0 < κ by grind) with k | k
  ·obtain ⟨t,_,_,ht⟩:=h (-κ / 2) (by grind) q r hq hr
   rw [hk t] at ht;unfold Ab at ht;grind
  ·obtain ⟨t,_,_,ht⟩:=h (κ / 2) (by grind) q r hq hr
   rw [hk t] at ht;unfold Ab at ht;grind
def lS(n1 n2 h1 h2:Nat):Nat:=20+2*(n1+n2)*(h1+h2+(n1+n2)+8)
theorem Di{s l E:Nat}{w:Rat}(h:s+l < E)(hw:0≤w)(hE:w*t2 E≤1):t2 s*(t2 l*w) < 1:=by
 have h1:t2 (s+l+1)≤t2 E:=FZ h;have h2:w*t2 (s+l+1)≤w*t2 E:=Rat.mul_le_mul_of_nonneg_left h1 hw;rw [jv,jv] at h2;have e:t2 1=2:=rfl;rw [e] at h2;have hp:=iq s;have hq:=iq l;have h3:0≤w*(t2 s*t2 l):=Rat.mul_nonneg hw (Rat.mul_nonneg (by grind) (by grind));grind
theorem sep{c d:Nat→Int}(zc:aZ c)(zd:aZ d)(sc:zD (FF c) (FF (bM c)))(sd:zD (FF d) (FF (bM d)))(hc2:2≤lg c)(hd2:2≤lg d){h1 h2:Nat}(b1:∀ i,(c i).natAbs≤2^h1)(b2:∀ i,(d i).natAbs≤2^h2) 
  {C D:qw} (hC:dV C) (hD:dV D) (vC:VC (FF c) C) (vD:VC (FF d) D) {q a b:Rat} (hq:(D q∧¬ C q)∨(C q∧¬ D q)) (ca:C a) (cb:¬ C b) (da:D a) (db:¬ D b) (hw:(b-a)*t2 (lS (lg c) (lg d) h1 h2)≤1):False:=by
 have hlc:=dK c;have hld:=dK d;have hab:=hC.nb ca cb;have hw1:b-a≤1:=by
  have h:=Rat.mul_le_mul_of_nonneg_left (MV (lS (lg c) (lg d) h1 h2)) (show 0≤b-a by grind);grind
 obtain ⟨hl,ehl⟩:∃ hl,hl=min h1 h2:=⟨_,rfl⟩
 have hin:In (t2 (hl+2)) a∧In (t2 (hl+2)) b:=by
  have key:a < 1+t2 hl∧-(1+t2 hl) < b:=by
   have hp:=iq hl
   by_cases k:h1≤h2
   ·have e:hl=h1:=by omega
    rw [e] at hp ⊢;exact aeB zc (by omega) (H:=t2 h1) (by grind) (fun i=>Ez (H:=2^h1) (by have:=b1 i;omega)) vC ca cb
   ·have e:hl=h2:=by omega
    rw [e] at hp ⊢;exact aeB zd (by omega) (H:=t2 h2) (by grind) (fun i=>Ez (H:=2^h2) (by have:=b2 i;omega)) vD da db
  have h3:=MV hl;rw [jv];have e:t2 2=4:=rfl;rw [e];unfold In;constructor <;> constructor <;> grind
 by_cases vA:VC (FF c) D
 ·obtain ⟨U,V,z,hz,KX,hU,hV,hL⟩:=afk zc sc hc2 b1 (hl+2) (lg c / 2+1) (Hu _ (by omega))
  have hx:=afB (n1:=lg c) (n2:=lg d) (h1:=h1) (h2:=h2) (hl:=hl) hc2 hlc hd2 (by omega) (by omega);have hs:=Di hx (show 0≤b-a by grind) hw;rcases hq with ⟨q1,q2⟩ | ⟨q1,q2⟩
  ·exact acL hC hD sc.zF sc.V5 hz KX hU hV hL (by have:=iq (3*(lg c / 2+1)+(hl+2)*lg c+(lg c / 2+1+h1));grind) hin.1 hin.2 hs vC vA ca cb da db q1 q2
  ·exact acL hD hC sc.zF sc.V5 hz KX hU hV hL (by have:=iq (3*(lg c / 2+1)+(hl+2)*lg c+(lg c / 2+1+h1));grind) hin.1 hin.2 hs vA vC da db ca cb q1 q2
 ·by_cases vB:VC (FF d) C
  ·obtain ⟨U,V,z,hz,KX,hU,hV,hL⟩:=afk zd sd hd2 b2 (hl+2) (lg d / 2+1) (Hu _ (by omega))
   have hx:=afB (n1:=lg d) (n2:=lg c) (h1:=h2) (h2:=h1) (hl:=hl) hd2 hld hc2 (by omega) (by omega);have e:20+2*(lg d+lg c)*(h2+h1+(lg d+lg c)+8)=lS (lg c) (lg d) h1 h2:=by unfold lS;rw [Nat.add_comm (lg d),Nat.add_comm h2]
   rw [e] at hx;have hs:=Di hx (show 0≤b-a by grind) hw;rcases hq with ⟨q1,q2⟩ | ⟨q1,q2⟩
   ·exact acL hC hD sd.zF sd.V5 hz KX hU hV hL (by have:=iq (3*(lg d / 2+1)+(hl+2)*lg d+(lg d / 2+1+h2));grind) hin.1 hin.2 hs vB vD ca cb da db q1 q2
   ·exact acL hD hC sd.zF sd.V5 hz KX hU hV hL (by have:=iq (3*(lg d / 2+1)+(hl+2)*lg d+(lg d / 2+1+h2));grind) hin.1 hin.2 hs vD vB da db ca cb q1 q2
  ·obtain ⟨γ,k1,k2,zγ,hγ0,pm,y1,y2,c1,c2,hγc,hγd,cop,g1,g2⟩:=abK zc zd (by omega) (by omega)
   have nγC:¬ VC (FF γ) C:=fun h=>vB ((h.mul hC (cu y2)).congr fun x=>by rw [g2 x];grind)
   have nγD:¬ VC (FF γ) D:=fun h=>vA ((h.mul hD (cu y1)).congr fun x=>by rw [g1 x];grind)
   have v1:VC (FF k1) C:=by
    rcases VC.or hC (cu y1) (cu zγ) (vC.congr g1) with h | h
    ·exact h
    ·exact absurd h nγC
   have v2:VC (FF k2) D:=by
    rcases VC.or hD (cu y2) (cu zγ) (vD.congr g2) with h | h
    ·exact h
    ·exact absurd h nγD
   have ne1:∃ x,FF k1 x≠0:=by
    obtain ⟨x,hx⟩:=uz zc (by omega);exact ⟨x,fun e=>hx (by rw [g1 x,e,Rat.zero_mul])⟩
   have l1:=adb y1 hC v1 ne1;have hdeg:lg k1-1+(lg γ-1)=lg c-1:=by
    have h5:=((Ep y1 (by omega)).mul (Ep zγ hγ0)).congr fun x=>(g1 x).symm
    exact (h5.uniq (Ep zc (by omega))).1
   obtain ⟨U,V,z,hz,KX,hU,hV,hL⟩:=alE zc zd zγ y1 y2 hc2 hd2 hγ0 pm c2 hγc hγd (by omega) cop g1 g2 (hm:=max h1 h2) (h2:=h2) (fun i=>Nat.le_trans (b1 i) (Nat.pow_le_pow_right (by decide) (Nat.le_max_left _ _))) (fun i=>Nat.le_trans (b2 i) (Nat.pow_le_pow_right (by decide) (Nat.le_max_right _ _))) b2 (hl+2) ((lg c+lg d) / 2+1) (lg d / 2+1) (lg c+lg d) rfl (Hu _ (by omega)) (Hu _ (by omega));have hx:=alK (n1:=lg c) (n2:=lg d) (h1:=h1) (h2:=h2) (hl:=hl) hc2 hlc hd2 hld (by omega) (by omega) (by omega);have hs:=Di hx (show 0≤b-a by grind) hw;exact am7 hz KX hU hV hL (by have:=iq (3*(lg d / 2+1)+(hl+2)*lg d+(lg d / 2+1+(h2+(1+(lg d / 2+1))*lg d)+(4+(lg d / 2+1))*lg d));grind) hin.1 hin.2 hs v1 v2 ca cb da db
/-! ### A number with its polynomial -/
structure uD(c:Nat→Int)(lo hi:Rat):Prop where
 ok:sH c lo hi
 sq:zD (FF c) (FF (bM c))
 l2:2≤lg c
 vc:VC (FF c) (bJ c lo hi)
theorem uD.Np{c:Nat→Int}{lo hi a b:Rat}(h:uD c lo hi)(k:Ko c lo hi a b):uD c a b:=⟨k.ok,h.sq,h.l2,h.vc.cut k.cut⟩
theorem sH.below{c:Nat→Int}{lo hi q:Rat}(h:sH c lo hi)(hq:q < lo):bJ c lo hi q:=by
 by_cases hl:hi≤lo
 ·rw [kE hl];exact hq
 ·rw [jE (by grind)];exact Or.inl (by grind)
theorem sH.above{c:Nat→Int}{lo hi q:Rat}(h:sH c lo hi)(hq:hi≤q):¬ bJ c lo hi q:=fun k=>by
 rcases h.lo_le k with k | k | k <;> grind
theorem sH.aed{c:Nat→Int}{lo hi q:Rat}(h:sH c lo hi)(hq:bJ c lo hi q):q < hi:=by
 rcases h.lo_le hq with k | k | k <;> grind
def bel(lo hi p q:Rat):Prop:=hi≤p∧¬ (hi≤lo∧q≤p∧hi=p)
instance {lo hi p q:Rat}:Decidable (bel lo hi p q):=inferInstanceAs (Decidable (_∧_))
noncomputable def vS(c d:Nat→Int):Nat→Rat→Rat→Rat→Rat→Rat×Rat×Rat×Rat×Int
 | 0,lo,hi,p,q=>(lo,hi,p,q,0)
 | n+1,lo,hi,p,q=>if bel lo hi p q then (lo,hi,p,q,-1) else if bel p q lo hi then (lo,hi,p,q,1) else if q-p≤hi-lo then vS c d n (hlf c lo hi).1 (hlf c lo hi).2 p q else vS c d n lo hi (hlf d p q).1 (hlf d p q).2
theorem Yn{c:Nat→Int}{lo hi t:Rat}{i:Nat}(h:sH c lo hi)(ht:0 < t)(k:(hi-lo)*t≤t2 (i+1)):((hlf c lo hi).2-(hlf c lo hi).1)*t≤t2 i:=by
 rw [jv] at k;have e:t2 1=2:=rfl;rw [e] at k;have hp:=iq i
 by_cases hl:hi≤lo
 ·have e2:hlf c lo hi=(lo,hi):=if_pos hl
  rw [e2];show (hi-lo)*t≤_
  have h1:=h.le;have:hi-lo=0:=by grind
  rw [this,Rat.zero_mul];grind
 ·have h1:=(tC h).2 (by grind)
  have h2:=Rat.mul_le_mul_of_nonneg_right h1 (show 0≤t by grind);grind
structure ApR(c d:Nat→Int)(lo hi p q:Rat)(s:Int)(r:Rat×Rat×Rat×Rat×Int):Prop where
 a:Ko c lo hi r.1 r.2.1
 b:Ko d p q r.2.2.1 r.2.2.2.1
 sg:r.2.2.2.2=s
 l:s= -1→r.2.1≤r.2.2.1
theorem Fq{c d:Nat→Int}{lo hi p q:Rat}(h:sH c lo hi)(k:sH d p q)(hb:hi≤p):cZ (bJ c lo hi) (bJ d p q)≤0:=
 (sQ h.cut k.cut).2 fun t ht=>k.below (by have:=h.aed ht;grind)
theorem Qm{c d:Nat→Int}{h1 h2:Nat}(b1:∀ i,(c i).natAbs≤2^h1)(b2:∀ i,(d i).natAbs≤2^h2):∀ (n i j:Nat) {lo hi p q:Rat},uD c lo hi→uD d p q→cZ (bJ c lo hi) (bJ d p q)≠0→i+j < n→(hi-lo)*t2 (lS (lg c) (lg d) h1 h2+2)≤t2 i→(q-p)*t2 (lS (lg c) (lg d) h1 h2+2)≤t2 j→
  ApR c d lo hi p q (cZ (bJ c lo hi) (bJ d p q)) (vS c d n lo hi p q)
 | 0,_,_,_,_,_,_,_,_,_,h,_,_=>absurd h (by omega)
 | n+1,i,j,lo,hi,p,q,oa,ob,hne,hn,w1,w2=>by
  obtain ⟨E,hE⟩:∃ E,E=lS (lg c) (lg d) h1 h2:=⟨_,rfl⟩
  rw [← hE] at w1 w2;have hC:=oa.ok.cut;have hD:=ob.ok.cut;have hbd:=nP (bJ c lo hi) (bJ d p q);unfold vS
  by_cases k1:bel lo hi p q
  ·rw [if_pos k1]
   have:=Fq oa.ok ob.ok k1.1;have e:cZ (bJ c lo hi) (bJ d p q)= -1:=by omega
   rw [e];exact ⟨Ko.refl oa.ok,Ko.refl ob.ok,rfl,fun _=>k1.1⟩
  ·rw [if_neg k1]
   by_cases k2:bel p q lo hi
   ·rw [if_pos k2]
    have h3:=Fq ob.ok oa.ok k2.1;rw [iQ hC hD] at h3;have e:cZ (bJ c lo hi) (bJ d p q)=1:=by omega
    rw [e];exact ⟨Ko.refl oa.ok,Ko.refl ob.ok,rfl,fun h=>absurd h (by omega)⟩
   ·rw [if_neg k2]
    have npt:¬ (hi≤lo∧q≤p∧hi=p):=fun ⟨a1,a2,a3⟩=>hne (jU fun t=>by
     rw [kE a1,kE a2];have:=oa.ok.le;have e:lo=p:=by grind
     rw [e])
    have amV:¬ (q≤p∧hi≤lo∧q=lo):=fun ⟨a1,a2,a3⟩=>npt ⟨a2,a1,by have:=oa.ok.le;have:=ob.ok.le;grind⟩
    have o1:p < hi:=Rat.not_le.1 fun h=>k1 ⟨h,npt⟩
    have o2:lo < q:=Rat.not_le.1 fun h=>k2 ⟨h,amV⟩
    have big:¬ ((hi-lo)*t2 (E+2)≤1∧(q-p)*t2 (E+2)≤1):=fun ⟨u1,u2⟩=>by
     rw [jv] at u1 u2;have e4:t2 2=4:=rfl;rw [e4] at u1 u2;have hp:=iq E;obtain ⟨θ,hθ⟩:∃ θ,θ=1 / (2*t2 E):=⟨_,rfl⟩
     have hθ1:θ*t2 E=1 / 2:=by rw [hθ];grind
     have hθ0:0 < θ:=by
      apply Classical.byContradiction;intro hn;have:=Rat.mul_le_mul_of_nonneg_right (show θ≤0 by grind) (show 0≤t2 E by grind);grind
     obtain ⟨a,ha⟩:∃ a,a=(if lo≤p then lo else p)-θ:=⟨_,rfl⟩
     obtain ⟨b,hb⟩:∃ b,b=if hi≤q then q else hi:=⟨_,rfl⟩
     have hlo:a < lo∧a < p:=by rw [ha];split <;> constructor <;> grind
     have hhi:hi≤b∧q≤b:=by rw [hb];split <;> constructor <;> grind
     have hle1:=oa.ok.le;have hle2:=ob.ok.le;have agb:b-a≤(hi-lo)+(q-p)+θ:=by rw [ha,hb];split <;> split <;> grind
     have hfin:(b-a)*t2 E≤1:=by
      have:=Rat.mul_le_mul_of_nonneg_right agb (show 0≤t2 E by grind);grind
     have hq:∃ t,(bJ d p q t∧¬ bJ c lo hi t)∨(bJ c lo hi t∧¬ bJ d p q t):=by
      apply Classical.byContradiction;intro hn;refine hne (jU fun t=>⟨fun h=>?_,fun h=>?_⟩)
      ·apply Classical.byContradiction;intro k;exact hn ⟨t,Or.inr ⟨h,k⟩⟩
      ·apply Classical.byContradiction;intro k;exact hn ⟨t,Or.inl ⟨h,k⟩⟩
     obtain ⟨t,ht⟩:=hq;rw [hE] at hfin;exact sep oa.ok.z ob.ok.z oa.sq ob.sq oa.l2 ob.l2 b1 b2 hC hD oa.vc ob.vc ht (oa.ok.below hlo.1) (oa.ok.above hhi.1) (ob.ok.below hlo.2) (ob.ok.above hhi.2) hfin
    have tp:=iq (E+2)
    by_cases hw:q-p≤hi-lo
    ·rw [if_pos hw]
     have hi0:i≠0:=fun e=>big ⟨by rw [e] at w1;exact w1,by
      have h3:=Rat.mul_le_mul_of_nonneg_right hw (show 0≤t2 (E+2) by grind);rw [e] at w1;have e1:t2 0=1:=rfl;rw [e1] at w1;grind⟩
     obtain ⟨i',rfl⟩:∃ i',i=i'+1:=⟨i-1,by omega⟩
     have nr:=(tC oa.ok).1;have ecm:cZ (bJ c (hlf c lo hi).1 (hlf c lo hi).2) (bJ d p q)=cZ (bJ c lo hi) (bJ d p q):=by
      rw [show bJ c (hlf c lo hi).1 (hlf c lo hi).2=bJ c lo hi from funext fun t=>propext (nr.cut t)]
     have ih:=Qm b1 b2 n i' j (oa.Np nr) ob (by rw [ecm];exact hne) (by omega) (by rw [← hE];exact Yn oa.ok tp w1) (by rw [← hE];exact w2);rw [ecm] at ih;exact ⟨nr.trans ih.a,ih.b,ih.sg,ih.l⟩
    ·rw [if_neg hw]
     have hj0:j≠0:=fun e=>big ⟨by
      have h3:=Rat.mul_le_mul_of_nonneg_right (show hi-lo≤q-p by grind) (show 0≤t2 (E+2) by grind);rw [e] at w2;have e1:t2 0=1:=rfl;rw [e1] at w2;grind,by rw [e] at w2;exact w2⟩
     obtain ⟨j',rfl⟩:∃ j',j=j'+1:=⟨j-1,by omega⟩
     have nr:=(tC ob.ok).1;have ecm:cZ (bJ c lo hi) (bJ d (hlf d p q).1 (hlf d p q).2)=cZ (bJ c lo hi) (bJ d p q):=by
      rw [show bJ d (hlf d p q).1 (hlf d p q).2=bJ d p q from funext fun t=>propext (nr.cut t)]
     have ih:=Qm b1 b2 n i j' oa (ob.Np nr) (by rw [ecm];exact hne) (by omega) (by rw [← hE];exact w1) (by rw [← hE];exact Yn ob.ok tp w2);rw [ecm] at ih;exact ⟨ih.a,nr.trans ih.b,ih.sg,ih.l⟩
theorem aex{c:Nat→Int}(z:aZ c)(i:Nat):(c i).natAbs≤2^IE c (lg c):=by
 by_cases h:i < lg c
 ·have h1:=yx (c i).natAbs
  exact Nat.le_trans (Nat.le_of_lt h1) (Nat.pow_le_pow_right (by decide) (Uu h))
 ·rw [z.lg i (by omega)];exact Nat.zero_le _
theorem Oc(p q:Rat):q-p≤t2 (bQ p.num.natAbs+bQ q.num.natAbs+1):=by
 have h1:=(uN (p:=p) (q:=q) (R:=2^bQ p.num.natAbs) (Nat.le_of_lt (yx _))).b;have h2:=(uN (p:=q) (q:=p) (R:=2^bQ q.num.natAbs) (Nat.le_of_lt (yx _))).b;have h3:t2 (bQ p.num.natAbs)≤t2 (bQ p.num.natAbs+bQ q.num.natAbs):=FZ (by omega);have h4:t2 (bQ q.num.natAbs)≤t2 (bQ p.num.natAbs+bQ q.num.natAbs):=FZ (by omega);rw [jv _ 1];have e:t2 1=2:=rfl;rw [e];have e1:((2^bQ p.num.natAbs:Nat):Rat)=t2 (bQ p.num.natAbs):=rfl;have e2:((2^bQ q.num.natAbs:Nat):Rat)=t2 (bQ q.num.natAbs):=rfl;rw [e1] at h1;rw [e2] at h2;unfold Ab at h1 h2;grind
theorem yS{c d:Nat→Int}{lo hi p q:Rat}(oa:uD c lo hi)(ob:uD d p q)(hne:cZ (bJ c lo hi) (bJ d p q)≠0):ApR c d lo hi p q (cZ (bJ c lo hi) (bJ d p q)) (vS c d (vM c lo hi d p q) lo hi p q):=by
 obtain ⟨E,hE⟩:∃ E,E=lS (lg c) (lg d) (IE c (lg c)) (IE d (lg d)):=⟨_,rfl⟩
 refine Qm (aex oa.ok.z) (aex ob.ok.z) _ (bQ lo.num.natAbs+bQ hi.num.natAbs+1+(E+2)) (bQ p.num.natAbs+bQ q.num.natAbs+1+(E+2)) oa ob hne ?_ ?_ ?_
 ·rw [hE]
  unfold vM lS;obtain ⟨P,hP⟩:∃ P,P=(lg c+lg d)*(IE c (lg c)+IE d (lg d)+(lg c+lg d)+8):=⟨_,rfl⟩
  rw [Nat.mul_assoc 2,Nat.mul_assoc 4,← hP];omega
 ·rw [← hE,jv _ (E+2)]
  exact Rat.mul_le_mul_of_nonneg_right (Oc lo hi) (by have:=iq (E+2);grind)
 ·rw [← hE,jv _ (E+2)]
  exact Rat.mul_le_mul_of_nonneg_right (Oc p q) (by have:=iq (E+2);grind)
/-- The loop's state. -/
structure PV(c d:Nat→Int)(L J f:Nat)(lo hi p q u1 u2 v1 v2:Rat):Prop where
 fl:f≤J
 oa:sH c u1 u2
 ob:sH d v1 v2
 da:Dz L (J-f) u1 u2
 db:Dz L (J-f) v1 v2
 e:vS c d f u1 u2 v1 v2=vS c d J lo hi p q
theorem PV.start{c d:Nat→Int}{L J:Nat}{lo hi p q:Rat}(h:sH c lo hi)(k:sH d p q)(h1:Tb L lo)(h2:Tb L hi)(h3:Tb L p)(h4:Tb L q):PV c d L J J lo hi p q lo hi p q:=⟨Nat.le_refl _,h,k,by rw [Nat.sub_self];exact xJ h1 h2,by rw [Nat.sub_self];exact xJ h3 h4,rfl⟩
theorem PV.end_{c d:Nat→Int}{L J f:Nat}{lo hi p q u1 u2 v1 v2:Rat}(h:PV c d L J f lo hi p q u1 u2 v1 v2)(hf:f=0):vS c d J lo hi p q=(u1,u2,v1,v2,0):=by rw [← h.e,hf];rfl
theorem PV.lt{c d:Nat→Int}{L J f:Nat}{lo hi p q u1 u2 v1 v2:Rat}(h:PV c d L J f lo hi p q u1 u2 v1 v2)(hf:f≠0)(hb:bel u1 u2 v1 v2):vS c d J lo hi p q=(u1,u2,v1,v2,-1):=by
 obtain ⟨g,rfl⟩:∃ g,f=g+1:=⟨f-1,by omega⟩
 rw [← h.e];exact if_pos hb
theorem PV.gt{c d:Nat→Int}{L J f:Nat}{lo hi p q u1 u2 v1 v2:Rat}(h:PV c d L J f lo hi p q u1 u2 v1 v2)(hf:f≠0)(hb:¬ bel u1 u2 v1 v2)(hb2:bel v1 v2 u1 u2):vS c d J lo hi p q=(u1,u2,v1,v2,1):=by
 obtain ⟨g,rfl⟩:∃ g,f=g+1:=⟨f-1,by omega⟩
 rw [← h.e];exact (if_neg hb).trans (if_pos hb2)
theorem PV.go1{c d:Nat→Int}{L J f:Nat}{lo hi p q u1 u2 v1 v2:Rat}(h:PV c d L J f lo hi p q u1 u2 v1 v2)(hf:f≠0)(hb:¬ bel u1 u2 v1 v2)(hb2:¬ bel v1 v2 u1 u2)(hw:v2-v1≤u2-u1):PV c d L J (f-1) lo hi p q (hlf c u1 u2).1 (hlf c u1 u2).2 v1 v2:=by
 obtain ⟨g,rfl⟩:∃ g,f=g+1:=⟨f-1,by omega⟩
 have hfl:=h.fl;have hd:=h.da.hlf (c:=c);rw [show J-(g+1)+1=J-g by omega] at hd;exact ⟨by omega,(tC h.oa).1.ok,h.ob,hd,h.db.mono (by omega),by rw [← h.e];exact (((if_neg hb).trans (if_neg hb2)).trans (if_pos hw)).symm⟩
theorem PV.go2{c d:Nat→Int}{L J f:Nat}{lo hi p q u1 u2 v1 v2:Rat}(h:PV c d L J f lo hi p q u1 u2 v1 v2)(hf:f≠0)(hb:¬ bel u1 u2 v1 v2)(hb2:¬ bel v1 v2 u1 u2)(hw:¬ v2-v1≤u2-u1):PV c d L J (f-1) lo hi p q u1 u2 (hlf d v1 v2).1 (hlf d v1 v2).2:=by
 obtain ⟨g,rfl⟩:∃ g,f=g+1:=⟨f-1,by omega⟩
 have hfl:=h.fl;have hd:=h.db.hlf (c:=d);rw [show J-(g+1)+1=J-g by omega] at hd;exact ⟨by omega,h.oa,(tC h.ob).1.ok,h.da.mono (by omega),hd,by rw [← h.e];exact (((if_neg hb).trans (if_neg hb2)).trans (if_neg hw)).symm⟩
theorem ahc{K L:Nat}{c d:Nat→Int}{lo hi p q:Rat}(h1:Lb K c)(h2:Lb K d)(a1:Tb L lo)(a2:Tb L hi)(a3:Tb L p)(a4:Tb L q):vM c lo hi d p q≤64+256*L+160*(64*K+48):=by
 have n1:=CO a1.1;have n2:=CO a2.1;have n3:=CO a3.1;have n4:=CO a4.1;have n5:=IG h1 (lg c);have n6:=IG h2 (lg d);have hlc:=dK c;have hld:=dK d;unfold vM;have h:=Nat.mul_le_mul (show 4*(lg c+lg d)≤160 by omega) (show IE c (lg c)+IE d (lg d)+(lg c+lg d)+8≤64*K+48 by omega);omega
section
variable {P:Program} {ops:Array Oper} {Q:Qs} {s:AS}
theorem jd{n:Nat}{listed:Array Bool}(n':Nat)(listed':Array Bool)(s':AS)(h:xq P ops Q n' listed' s')(k:xq P ops Q n' listed' s'→xq P ops Q n listed s):xq P ops Q n listed s:=k h
theorem je{n:Nat}{listed:Array Bool}{s':AS}{r:Nat}{rs:List Nat}(hr:Region.ready .any ops listed=r ::rs)(hw:Wk s s')(h:xq P ops Q (n+1) listed s'):xq P ops Q (n+1) listed s:=by
 unfold xq;unfold xq at h;refine ⟨fun e=>absurd (hr.symm.trans e) (by simp),fun i hi=>?_⟩;obtain ⟨o,ho,hal⟩:=h.2 i hi;exact ⟨o,ho,hal.wk hw⟩
end
/-- Does its guard ask what was left out? -/
def gsu(ops:Array Oper)(s:AS)(o:Oper):Bool:=
 match o.guard with
 | none=>false
 | some (j,_)=>match ops.toList[j]? with
  | some oj=>match oj.dst with
   | some d=>match lk s.sl d with
    | some (.lK [])=>true
    | _=>false
   | none=>false
  | none=>false
theorem afI{ops:Array Oper}{s:AS}{o:Oper}{ρ:nD}{B:BS}{w:World}{a:Act}(h:gsu ops s o=true)(hs:gq ρ B w s.sl a):Region.wanted o (yielded ops a.tmps)=false:=by
 unfold gsu at h;unfold Region.wanted;split at h
 ·exact absurd h Bool.noConfusion
 ·rename_i j want hg
  rw [hg];split at h
  ·rename_i oj hj
   split at h
   ·rename_i d hd
    split at h
    ·rename_i hb
     obtain ⟨v,hv,hr⟩:=hs d _ hb;obtain ⟨cs,rfl,hcs⟩:=hr;have hj':ops[j]?=some oj:=by rw [← Array.getElem?_toList];exact hj
     simp only [yielded,hj',Option.bind_some,hd,hv];cases want <;> rfl
    ·exact absurd h Bool.noConfusion
   ·exact absurd h Bool.noConfusion
  ·exact absurd h Bool.noConfusion
section
variable {P:Program} {ops:Array Oper} {Q:Qs} {o:Oper} {l:List Oper} {s:AS}
theorem lJ(hg:jP ops s o=some false)(hd:kP o.dst s.n=true)(k:AL P ops Q l (s.put o.dst (.lK []))):AL P ops Q (o ::l) s:=by
 rintro B0 w0 a w ⟨ρ,hc,hn,hdf,hs⟩;unfold wpList;rw [if_neg (by rw [fQ hg hs];exact Bool.noConfusion)];exact k B0 w0 _ w (lU hc hn hdf hs hd ⟨[],rfl,trivial⟩)
theorem mU(hg:gsu ops s o=true)(hd:kP o.dst s.n=true)(k:AL P ops Q l (s.put o.dst (.lK []))):AL P ops Q (o ::l) s:=by
 rintro B0 w0 a w ⟨ρ,hc,hn,hdf,hs⟩;unfold wpList;rw [if_neg (by rw [afI hg hs];exact Bool.noConfusion)];exact k B0 w0 _ w (lU hc hn hdf hs hd ⟨[],rfl,trivial⟩)
end
structure GI(c d:Nat→Int)(M N i:Nat)(g:Nat→Int):Prop where
 z:aZ g
 b:Lb M g
 i0:i=0→∀ j,g j=0
 i1:i=1→Idl (fun _=>0) (FF c) (FF g)
 i2:i=2→Idl (FF c) (FF d) (FF g)
 pm:i≠0→lg g≠0∧Pm (lg g) g
 l:lg g≤N
theorem GI.start{c d:Nat→Int}{M N:Nat}:GI c d M N 0 (fun _=>0):=⟨kX,fun i=>Nat.pow_pos (by decide),fun _ _=>rfl,fun h=>absurd h (by omega),fun h=>absurd h (by omega),fun h=>absurd rfl h,by rw [(gW kX).2 fun _=>rfl];exact Nat.zero_le _⟩
theorem GI.ajZ{c d g g1:Nat→Int}{K M' N:Nat}(h:GI c d (21*K+3) N 0 g)(zc:aZ c)(hc:lg c≠0)(hN:N≤10)(ED:lg c≤N)(hb:Lb K c)(k:nN g c M' g1):GI c d (21*K+3) N 1 g1:=by
 obtain ⟨l1,l2⟩:=k.le' zc hc;have pm:=k.pm l1;have e:FF g=fun _=>0:=funext fun x=>(nM h.z).1 ((gW h.z).2 (h.i0 rfl)) x
 have id:=k.G9;rw [e] at id;exact ⟨k.z,BN zc k.z hc (by omega) id.db pm.one hb,fun h=>absurd h (by omega),fun _=>id,fun h=>absurd h (by omega),fun _=>⟨l1,pm⟩,by omega⟩
theorem GI.aku{c d g g2:Nat→Int}{K M' N:Nat}(h:GI c d (21*K+3) N 1 g)(zc:aZ c)(zd:aZ d)(hc:lg c≠0)(hd:lg d≠0)(hN:N≤10)(hdN:lg d≤N)(hb:Lb K d)(k:nN g d M' g2):GI c d (21*K+3) N 2 g2:=by
 obtain ⟨l1,l2⟩:=k.le' zd hd;have pm:=k.pm l1;have id:=h.i1 rfl;obtain ⟨u,v,pu,pv,huv⟩:=id.cm;have cm1:Ns (FF g) (FF c) (FF d):=⟨v,fun _=>0,pv,bT 0,fun x=>by rw [huv x];grind⟩;exact ⟨k.z,BN zd k.z hd (by omega) k.G9.db pm.one hb,fun h=>absurd h (by omega),fun h=>absurd h (by omega),fun _=>⟨k.G9.cm.trans cm1 (Ns.r _ _),k.G9.da.trans id.db,k.G9.db⟩,fun _=>⟨l1,pm⟩,by omega⟩
theorem GI.fin{c d g:Nat→Int}{M N:Nat}(h:GI c d M N 2 g):nN c d M g:=⟨h.z,h.b,h.i2 rfl,fun _=>(h.pm (by omega)).2⟩
theorem Vk{c d:Nat→Int}{M N:Nat}:AV.le (.d (.one (.v (.slice none 0 0)))) (.d (.one (aY (GI c d M N 0) (fun g=>gQ M (lg g) g)))):=
 fun ρ B w v h=>kR (Q:=GI c d M N 0) (L:=fun g=>gQ M (lg g) g) (fun _=>0) GI.start ρ B w v (Eb ((gW kX).2 fun _=>rfl) ρ B w v h)
theorem ado{K KC N:Nat}{c d:Nat→Int}(zc:aZ c)(zd:aZ d)(hc:lg c≠0)(hd:lg d≠0)(hN:N≤10)(ED:lg c≤N)(hdN:lg d≤N)(hbc:Lb K c)(hbd:Lb K d)(ny:((21*K+3)+1)*(2*3^N)≤KC)(hC:KC≤90000000):aC Tryz.prog 68 [.one (.row 1 2 (fun i' j'=>(([.row 2 (lg c) (bW K c),.row 2 (lg d) (bW K d)])[i'*1+j']?).getD (.v undef)))] (.d (.one (aY (nN c d (21*K+3)) (fun g=>gQ (21*K+3) (lg g) g)))):=by
 have hlc:=dK c;have hld:=dK d;refine aN 17 [.tmp 2] Tryz.func68 rfl<|cR<|mW rfl<|mT<|cR<|mW rfl<|mT<|au<|cR<|mv3 rfl rfl rfl<|mT<|aJ<|dQ (ι:=Nat) (fun (i:Nat)=>⟨17,[(6,.d (.one (.row 1 2 (fun i' j'=>(([.row 2 (lg c) (bW K c),.row 2 (lg d) (bW K d)])[i'*1+j']?).getD (.v undef))))),(7,.d (.one (.v (.int .i64 2)))),(8,.d (.one (.v (.int .i64 ((i:Nat):Int))))),(3,.d (.one (aY (GI c d (21*K+3) N i) (fun g=>gQ (21*K+3) (lg g) g))))],[]⟩) (fun (i:Nat)=>i≤2) (fun (i:Nat)=>2-i) 0 (Nat.zero_le _) (wk rfl ⟨hs rfl,hs rfl,hs rfl,fM rfl (Vk),trivial⟩ trivial rfl) ?_;rintro i hI;have hi:i≤2:=hI;show AW _ _ _ ⟨_,_,_⟩
 refine cR<|mW rfl<|mT<|au<|aW rfl (fun hc1=>?_) (fun hc1=>?_)
 ·refine aF<|tN<|au<|aJ<|au ?_;have hi2:i < 2:=by have h0:=of_decide_eq_true hc1;omega
  by_cases hi0:i=0
  ·obtain rfl:i=0:=by omega
   refine cEx (Qx:=(GI c d (21*K+3) N 0)) (L:=(fun g=>gQ (21*K+3) (lg g) g)) 3 rfl (fun g0 hg0=>?_);have hl0:=hg0.l;exact aA<|mv3 rfl rfl rfl<|mT<|aA<|mv2 rfl rfl<|mY (aic (K:=(21*K+3)) (KC:=KC) (N:=N) (uw (K:=(21*K+3)) (c:=g0) (aZ.lg hg0.z)) (pY.mono (uw (K:=K) (c:=c) (aZ.lg zc)) (by omega)) hg0.z zc (by omega) (by omega) hN hl0 (by omega) ny hC) rfl<|mW rfl<|ak<|bN<|tN<|aA<|mv2 rfl rfl<|ak<|⟨(0+1),by omega,by omega,wk rfl ⟨hs rfl,hs rfl,fM rfl (aG rfl),fM rfl (fJ (BP fun r hr=>⟨r,hg0.ajZ zc hc hN ED hbc hr,Ar fun i _=>(hg0.ajZ zc hc hN ED hbc hr).b i⟩)),trivial⟩ trivial rfl⟩
  ·obtain rfl:i=1:=by omega
   refine cEx (Qx:=(GI c d (21*K+3) N 1)) (L:=(fun g=>gQ (21*K+3) (lg g) g)) 3 rfl (fun g0 hg0=>?_);have hl0:=hg0.l;exact aA<|mv3 rfl rfl rfl<|mT<|aA<|mv2 rfl rfl<|mY (aic (K:=(21*K+3)) (KC:=KC) (N:=N) (uw (K:=(21*K+3)) (c:=g0) (aZ.lg hg0.z)) (pY.mono (uw (K:=K) (c:=d) (aZ.lg zd)) (by omega)) hg0.z zd (by omega) (by omega) hN hl0 (by omega) ny hC) rfl<|mW rfl<|ak<|bN<|tN<|aA<|mv2 rfl rfl<|ak<|⟨(1+1),by omega,by omega,wk rfl ⟨hs rfl,hs rfl,fM rfl (aG rfl),fM rfl (fJ (BP fun r hr=>⟨r,hg0.aku zc zd hc hd hN hdN hbd hr,Ar fun i _=>(hg0.aku zc zd hc hd hN hdN hbd hr).b i⟩)),trivial⟩ trivial rfl⟩
 ·exact dO<|tE<|tE<|bE<|tN<|cR<|mv2 rfl rfl<|mT<|aO<|rQ rfl (by have h0:=of_decide_eq_false hc1;obtain rfl:i=2:=by {omega};exact fJ (BP fun r hr=>⟨r,hr.fin,fun _ _ _ h=>h⟩))
theorem EK{g:Nat→Int}(z:aZ g)(h:lg g=1)(a b:Rat):jB (FF g) a b:=by
 obtain ⟨κ,hκ,hk⟩:=kV z h;exact ⟨eP κ,fun e=>hκ (fF.1 e),fun t _ _=>by rw [hk t]⟩
theorem Yh{c:Nat→Int}{lo hi:Rat}:G6 c lo hi=true↔(eP (FF c hi)=0∨eP (FF c hi)≠wX (FF c) (FF (bM c)) lo):=decide_eq_true_iff
theorem yg{c g:Nat→Int}{lo hi a b:Rat}{w:Fn}(o:Du (FF c) (FF (bM c)) lo hi)(zg:aZ g)(pw:Po w)(e:∀ x,FF c x=FF g x*w x)(h2:2≤lg g)(h1:lo≤a)(h3:b≤hi)(hab:a < b):G6 g a b=true↔¬ jB (FF g) a b:=by
 have hs:zD (FF g) (FF (bM g)):=o.sq.dv (cu zg) pw (cu (eH zg)) (pX zg) e;have hne:∃ x,FF (bM g) x≠0:=uz (eH zg) fun h=>by have:=uP zg h;omega
 obtain ⟨gg,l,st,_⟩:=hs.stm hne;obtain ⟨N,hN⟩:=qB st (a:=a) (b:=b) (by grind);have k:og (FF g) a b N:=⟨gg,l,st,hN⟩;have hle:N≤1:=by
  obtain ⟨K1,M1,_,n1,e1⟩:=o.one.split (m:=a) h1 (by grind);obtain ⟨K2,M2,n2,_,e2⟩:=n1.split (m:=b) (by grind) h3;have:=pG o (cu zg) pw e st (by grind) k n2;omega
 rw [Yh,← KL (pX zg) hab k hle];have h5:=k.free (cu zg) (by grind);constructor
 ·intro h6 h7
  have:=h5.2 h7;omega
 ·intro h6
  have:N≠0:=fun h=>h6 (h5.1 h)
  omega
theorem yU{c d g:Nat→Int}{M:Nat}{lo hi p q a b:Rat}(oa:sH c lo hi)(ob:sH d p q)(h1:¬ hi≤lo)(h2:¬ q≤p)(hg:nN c d M g)(hg0:lg g≠0)(ha:a=if lo < p then p else lo)(hb:b=if q < hi then q else hi):
  (a < b→2≤lg g→G6 g a b=true→cZ (bJ c lo hi) (bJ d p q)=0)∧((a < b→2≤lg g→G6 g a b=false)→cZ (bJ c lo hi) (bJ d p q)≠0):=by
 have o1:=oa.i' h1;have o2:=ob.i' h2;have e1:=jE (c:=c) (show lo < hi by grind);have e2:=jE (c:=d) (show p < q by grind);obtain ⟨w1,Ui,f1⟩:=hg.G9.da;obtain ⟨w2,V6,f2⟩:=hg.G9.db;obtain ⟨u,v,pu,pv,huv⟩:=hg.G9.cm;have f1':∀ x,FF c x=FF g x*w1 x:=fun x=>by rw [f1 x];grind
 have f2':∀ x,FF d x=FF g x*w2 x:=fun x=>by rw [f2 x];grind
 have a1:lo≤a:=by rw [ha];split <;> grind
 have a2:p≤a:=by rw [ha];split <;> grind
 have b1:b≤hi:=by rw [hb];split <;> grind
 have b2:b≤q:=by rw [hb];split <;> grind
 rw [e1,e2];refine ⟨fun hab hl hh=>jU (Xv o1 o2 (cu hg.z) Ui V6 f1' f2' a1 a2 b1 b2 hab ((yg o1 hg.z Ui f1' hl a1 b1 hab).1 hh)),fun hh h0=>?_⟩;refine Xt o1 o2 (cu hg.z) Ui V6 pv pu f1' f2' (fun x=>by rw [huv x];grind) (by rw [ha];split;exact Or.inr rfl;exact Or.inl rfl) (by rw [hb];split;exact Or.inr rfl;exact Or.inl rfl) a1 a2 b1 b2 (fun hab=>?_) (oH h0)
 by_cases hl:2≤lg g
 ·apply Classical.byContradiction
  intro hn;have:=(yg o1 hg.z Ui f1' hl a1 b1 hab).2 hn;rw [hh hab hl] at this;exact absurd this Bool.noConfusion
 ·exact EK hg.z (by omega) a b
theorem DF{K L X:Nat}{c d:Nat→Int}{lo hi x1 x2:Rat}(hA:sH c lo hi)(hB:sH d x1 x2)(hX:11*L+320*K+300≤X)(hX1:X≤100000):aC Tryz.prog 71 [.agg ([.row 2 (lg c) (bW K c)] ++tn L lo ++tn L hi),.agg ([.row 2 (lg d) (bW K d)] ++tn L x1 ++tn L x2)] (.lK [.agg ([.row 2 (lg c) (bW K c)] ++tn X ((vS c d (vM c lo hi d x1 x2) lo hi x1 x2).1) ++tn X ((vS c d (vM c lo hi d x1 x2) lo hi x1 x2).2.1)),.agg ([.row 2 (lg d) (bW K d)] ++tn X ((vS c d (vM c lo hi d x1 x2) lo hi x1 x2).2.2.1) ++tn X ((vS c d (vM c lo hi d x1 x2) lo hi x1 x2).2.2.2.1)),.one (.v (.int .i64 ((vS c d (vM c lo hi d x1 x2) lo hi x1 x2).2.2.2.2)))]):=by
 refine aC.l9 (fC Tryz.func71 rfl rfl) (p:=(Lb K c∧Tb L lo∧Tb L hi)∧(Lb K d∧Tb L x1∧Tb L x2)) (fun B w vs h=>match vs,h with | [_,_],⟨⟨cs,_,hl⟩,⟨ds,_,hk⟩,_⟩=>⟨Ji hA.z hl,Ji hB.z hk⟩) (fun hb=>?_);have hJ:=ahc hb.1.1 hb.2.1 hb.1.2.1 hb.1.2.2 hb.2.2.1 hb.2.2.2;refine aN 83 [.cell 4 40,.cell 5 40,.tmp 6] Tryz.func71 rfl<|cR<|mO rfl<|mO rfl<|mO rfl<|mO rfl<|mW rfl<|mT<|au<|cR<|mv2 rfl rfl<|mY (ae9 hA.z hB.z (by omega) (by omega) (by omega) (by omega) (by omega) (by omega)) rfl<|mW rfl<|mT<|aJ<|dQ (ι:=Nat×Rat×Rat×Rat×Rat) (fun (p:Nat×Rat×Rat×Rat×Rat)=>match p with | (f,u1,u2,v1,v2)=>⟨83,[(2,.ptr 2 0),(3,.ptr 3 0),(4,.ptr 4 0),(5,.ptr 5 0),(6,.d (.one (.v (.int .i64 0)))),(9,.d (.one (.v (.int .i64 ((vM c lo hi d x1 x2:Nat):Int))))),(10,.d (.one (.v (.int .i64 (((vM c lo hi d x1 x2)-f:Nat):Int)))))],[(2,.box 40 ([.row 2 (lg c) (bW K c)] ++tn X u1 ++tn X u2)),(3,.box 40 ([.row 2 (lg d) (bW K d)] ++tn X v1 ++tn X v2)),(4,.box 40 ([.v (.slice none 0 0),.v (.bool false),.v (.slice none 0 0),.v (.bool false),.v (.slice none 0 0),.v (.bool false),.v (.slice none 0 0),.v (.bool false),.v (.slice none 0 0)])),(5,.box 40 ([.v (.slice none 0 0),.v (.bool false),.v (.slice none 0 0),.v (.bool false),.v (.slice none 0 0),.v (.bool false),.v (.slice none 0 0),.v (.bool false),.v (.slice none 0 0)]))]⟩) (fun (p:Nat×Rat×Rat×Rat×Rat)=>match p with | (f,u1,u2,v1,v2)=>PV c d L (vM c lo hi d x1 x2) f lo hi x1 x2 u1 u2 v1 v2) (fun (p:Nat×Rat×Rat×Rat×Rat)=>match p with | (f,u1,u2,v1,v2)=>f) ((vM c lo hi d x1 x2),lo,hi,x1,x2) (.start hA hB hb.1.2.1 hb.1.2.2 hb.2.2.1 hb.2.2.2) (wk rfl ⟨hs rfl,hs rfl,hs rfl,hs rfl,hs rfl,hs rfl,fM rfl (aG (by rw [Nat.sub_self];rfl)),trivial⟩ ⟨dX rfl (Xc (wO hb.1.2.1 (by omega)) (wO hb.1.2.2 (by omega))),dX rfl (Xc (wO hb.2.2.1 (by omega)) (wO hb.2.2.2 (by omega))),ho rfl,ho rfl,trivial⟩ rfl) ?_;rintro ⟨f,u1,u2,v1,v2⟩ hI;have hI:PV c d L (vM c lo hi d x1 x2) f lo hi x1 x2 u1 u2 v1 v2:=hI;show AW _ _ _ ⟨_,_,_⟩
 refine cR<|mW rfl<|mT<|au<|aW rfl (fun hc1=>?_) (fun hc1=>?_)
 ·refine aF<|tN<|au<|aJ<|au<|aJ<|au ?_;have hf0:f≠0:=by have h0:=of_decide_eq_true hc1;omega
  by_cases ka1:u2≤v1
  ·by_cases ka2:u2≤u1
   ·by_cases ka3:v2≤v1
    ·by_cases ka4:u2=v1
     ·have ka:¬ bel u1 u2 v1 v2:=fun h=>h.2 ⟨ka2,ka3,ka4⟩
      refine aA<|mv4 rfl rfl rfl rfl<|mY iI rfl<|mdT rfl (dP.2 ka1)<|mv2 rfl rfl<|mY iF rfl<|mdT rfl ka2<|mW rfl<|mY iF rfl<|mW rfl<|mdT rfl ka3<|mv4 rfl rfl rfl rfl<|mY iI rfl<|mbT rfl (beq_iff_eq.2 (kM.2 ka4))<|mW rfl<|mbF rfl rfl<|mv2 rfl rfl<|mT<|cF rfl<|au ?_
      by_cases Lj:v2≤u1
      ·by_cases kb2:u2≤u1
       ·by_cases YN:v2≤v1
        ·by_cases kb4:v2=u1
         ·have kb:¬ bel v1 v2 u1 u2:=fun h=>h.2 ⟨YN,kb2,kb4⟩
          refine aA<|mv4 rfl rfl rfl rfl<|mY iI rfl<|mdT rfl (dP.2 Lj)<|mv2 rfl rfl<|mY iF rfl<|mdT rfl kb2<|mW rfl<|mY iF rfl<|mW rfl<|mdT rfl YN<|mv4 rfl rfl rfl rfl<|mY iI rfl<|mbT rfl (beq_iff_eq.2 (kM.2 kb4))<|mW rfl<|mbF rfl rfl<|mv2 rfl rfl<|mT<|cF rfl<|aF<|bN<|tN<|au<|cDk 12<|oV rfl<|oV rfl<|oV rfl<|oV rfl<|oC Ew rfl<|oV rfl<|oV rfl<|oV rfl<|oV rfl<|oC Ew rfl<|oC iI rfl<|.cons (aB.V (.d (.one (.v (.bool (decide (v2-v1≤u2-u1)))))) (bZ (decide_eq_decide.2 vW)))<|.nil<|mT<|aW rfl (fun hc2=>?_) (fun hc2=>?_)
          ·have h':=hI.go1 hf0 ka kb (of_decide_eq_true hc2);have hT:=h'.da.tb (X:=X) (by omega);exact aA<|mW rfl<|mY (Et (X:=X) hI.oa hT.1 hT.2) rfl<|mZ rfl<|ak<|bN<|tN<|aA<|mv2 rfl rfl<|ak<|⟨((f-1),(hlf c u1 u2).1,(hlf c u1 u2).2,v1,v2),h',by show f-1 < f;omega,wk rfl ⟨hs rfl,hs rfl,hs rfl,hs rfl,hs rfl,hs rfl,fM rfl (aG ((dG (by have:=h'.fl;omega)).trans (by have:=hI.fl;omega))),trivial⟩ ⟨ho rfl,ho rfl,ho rfl,ho rfl,trivial⟩ rfl⟩
          ·have h':=hI.go2 hf0 ka kb (of_decide_eq_false hc2);have hT:=h'.db.tb (X:=X) (by omega);exact aA<|mW rfl<|mY (Et (X:=X) hI.ob hT.1 hT.2) rfl<|mZ rfl<|ak<|bN<|tN<|aA<|mv2 rfl rfl<|ak<|⟨((f-1),u1,u2,(hlf d v1 v2).1,(hlf d v1 v2).2),h',by show f-1 < f;omega,wk rfl ⟨hs rfl,hs rfl,hs rfl,hs rfl,hs rfl,hs rfl,fM rfl (aG ((dG (by have:=h'.fl;omega)).trans (by have:=hI.fl;omega))),trivial⟩ ⟨ho rfl,ho rfl,ho rfl,ho rfl,trivial⟩ rfl⟩
         ·have kb:bel v1 v2 u1 u2:=⟨Lj,fun h=>kb4 h.2.2⟩;exact aA<|mv4 rfl rfl rfl rfl<|mY iI rfl<|mdT rfl (dP.2 Lj)<|mv2 rfl rfl<|mY iF rfl<|mdT rfl kb2<|mW rfl<|mY iF rfl<|mW rfl<|mdT rfl YN<|mv4 rfl rfl rfl rfl<|mY iI rfl<|mbF rfl (beq_eq_false_iff_ne.2 (fun h=>kb4 (kM.1 h)))<|mW rfl<|mbT rfl rfl<|mv2 rfl rfl<|mT<|cT rfl<|au<|cDs 5<|pV rfl<|pV rfl<|.cons (aB.S 4 (.box 40 ([.row 2 (lg c) (bW K c)] ++tn X u1 ++tn X u2)) rfl rfl) (by kernel_rfl)<|.cons (aB.S 5 (.box 40 ([.row 2 (lg d) (bW K d)] ++tn X v1 ++tn X v2)) rfl rfl) (by kernel_rfl)<|.cons (aB.V _ rfl) (by kernel_rfl)<|.nil<|mT<|aO<|bR<|tR<|bR<|tR<|tR<|bR<|tR<|rQ rfl (by rw [hI.gt hf0 ka kb];exact AV.le.rfl)
        ·have kb:bel v1 v2 u1 u2:=⟨Lj,fun h=>YN h.1⟩;exact aA<|mv4 rfl rfl rfl rfl<|mY iI rfl<|mdT rfl (dP.2 Lj)<|mv2 rfl rfl<|mY iF rfl<|mdT rfl kb2<|mW rfl<|mY iF rfl<|mW rfl<|mdF rfl YN<|lJ rfl rfl<|lJ rfl rfl<|lJ rfl rfl<|lJ rfl rfl<|lJ rfl rfl<|lJ rfl rfl<|mW rfl<|mbT rfl rfl<|mv2 rfl rfl<|mT<|cT rfl<|au<|cDs 5<|pV rfl<|pV rfl<|.cons (aB.S 4 (.box 40 ([.row 2 (lg c) (bW K c)] ++tn X u1 ++tn X u2)) rfl rfl) (by kernel_rfl)<|.cons (aB.S 5 (.box 40 ([.row 2 (lg d) (bW K d)] ++tn X v1 ++tn X v2)) rfl rfl) (by kernel_rfl)<|.cons (aB.V _ rfl) (by kernel_rfl)<|.nil<|mT<|aO<|bR<|tR<|bR<|tR<|tR<|bR<|tR<|rQ rfl (by rw [hI.gt hf0 ka kb];exact AV.le.rfl)
       ·have kb:bel v1 v2 u1 u2:=⟨Lj,fun h=>kb2 h.2.1⟩;exact aA<|mv4 rfl rfl rfl rfl<|mY iI rfl<|mdT rfl (dP.2 Lj)<|mv2 rfl rfl<|mY iF rfl<|mdF rfl kb2<|lJ rfl rfl<|lJ rfl rfl<|mv2 rfl rfl<|lJ rfl rfl<|lJ rfl rfl<|lJ rfl rfl<|lJ rfl rfl<|lJ rfl rfl<|lJ rfl rfl<|mW rfl<|mbT rfl rfl<|mv2 rfl rfl<|mT<|cT rfl<|au<|cDs 5<|pV rfl<|pV rfl<|.cons (aB.S 4 (.box 40 ([.row 2 (lg c) (bW K c)] ++tn X u1 ++tn X u2)) rfl rfl) (by kernel_rfl)<|.cons (aB.S 5 (.box 40 ([.row 2 (lg d) (bW K d)] ++tn X v1 ++tn X v2)) rfl rfl) (by kernel_rfl)<|.cons (aB.V _ rfl) (by kernel_rfl)<|.nil<|mT<|aO<|bR<|tR<|bR<|tR<|tR<|bR<|tR<|rQ rfl (by rw [hI.gt hf0 ka kb];exact AV.le.rfl)
      ·have kb:¬ bel v1 v2 u1 u2:=fun h=>Lj h.1
       refine aA<|mv4 rfl rfl rfl rfl<|mY iI rfl<|mbF rfl (decide_eq_false (fun h=>Lj (dP.1 h)))<|mW rfl<|lJ rfl rfl<|lJ rfl rfl<|lJ rfl rfl<|mU rfl rfl<|mU rfl rfl<|lJ rfl rfl<|lJ rfl rfl<|mU rfl rfl<|mU rfl rfl<|mU rfl rfl<|mU rfl rfl<|mU rfl rfl<|mU rfl rfl<|lJ rfl rfl<|lJ rfl rfl<|mv2 rfl rfl<|mT<|cF rfl<|aF<|bN<|tN<|au<|cDk 12<|oV rfl<|oV rfl<|oV rfl<|oV rfl<|oC Ew rfl<|oV rfl<|oV rfl<|oV rfl<|oV rfl<|oC Ew rfl<|oC iI rfl<|.cons (aB.V (.d (.one (.v (.bool (decide (v2-v1≤u2-u1)))))) (bZ (decide_eq_decide.2 vW)))<|.nil<|mT<|aW rfl (fun hc3=>?_) (fun hc3=>?_)
       ·have h':=hI.go1 hf0 ka kb (of_decide_eq_true hc3);have hT:=h'.da.tb (X:=X) (by omega);exact aA<|mW rfl<|mY (Et (X:=X) hI.oa hT.1 hT.2) rfl<|mZ rfl<|ak<|bN<|tN<|aA<|mv2 rfl rfl<|ak<|⟨((f-1),(hlf c u1 u2).1,(hlf c u1 u2).2,v1,v2),h',by show f-1 < f;omega,wk rfl ⟨hs rfl,hs rfl,hs rfl,hs rfl,hs rfl,hs rfl,fM rfl (aG ((dG (by have:=h'.fl;omega)).trans (by have:=hI.fl;omega))),trivial⟩ ⟨ho rfl,ho rfl,ho rfl,ho rfl,trivial⟩ rfl⟩
       ·have h':=hI.go2 hf0 ka kb (of_decide_eq_false hc3);have hT:=h'.db.tb (X:=X) (by omega);exact aA<|mW rfl<|mY (Et (X:=X) hI.ob hT.1 hT.2) rfl<|mZ rfl<|ak<|bN<|tN<|aA<|mv2 rfl rfl<|ak<|⟨((f-1),u1,u2,(hlf d v1 v2).1,(hlf d v1 v2).2),h',by show f-1 < f;omega,wk rfl ⟨hs rfl,hs rfl,hs rfl,hs rfl,hs rfl,hs rfl,fM rfl (aG ((dG (by have:=h'.fl;omega)).trans (by have:=hI.fl;omega))),trivial⟩ ⟨ho rfl,ho rfl,ho rfl,ho rfl,trivial⟩ rfl⟩
     ·have ka:bel u1 u2 v1 v2:=⟨ka1,fun h=>ka4 h.2.2⟩;exact aA<|mv4 rfl rfl rfl rfl<|mY iI rfl<|mdT rfl (dP.2 ka1)<|mv2 rfl rfl<|mY iF rfl<|mdT rfl ka2<|mW rfl<|mY iF rfl<|mW rfl<|mdT rfl ka3<|mv4 rfl rfl rfl rfl<|mY iI rfl<|mbF rfl (beq_eq_false_iff_ne.2 (fun h=>ka4 (kM.1 h)))<|mW rfl<|mbT rfl rfl<|mv2 rfl rfl<|mT<|cT rfl<|au<|cDs 5<|pV rfl<|pV rfl<|.cons (aB.S 4 (.box 40 ([.row 2 (lg c) (bW K c)] ++tn X u1 ++tn X u2)) rfl rfl) (by kernel_rfl)<|.cons (aB.S 5 (.box 40 ([.row 2 (lg d) (bW K d)] ++tn X v1 ++tn X v2)) rfl rfl) (by kernel_rfl)<|.cons (aB.V _ rfl) (by kernel_rfl)<|.nil<|mT<|aO<|bR<|tR<|bR<|tR<|tR<|bR<|tR<|rQ rfl (by rw [hI.lt hf0 ka];exact AV.le.rfl)
    ·have ka:bel u1 u2 v1 v2:=⟨ka1,fun h=>ka3 h.2.1⟩;exact aA<|mv4 rfl rfl rfl rfl<|mY iI rfl<|mdT rfl (dP.2 ka1)<|mv2 rfl rfl<|mY iF rfl<|mdT rfl ka2<|mW rfl<|mY iF rfl<|mW rfl<|mdF rfl ka3<|lJ rfl rfl<|lJ rfl rfl<|lJ rfl rfl<|lJ rfl rfl<|lJ rfl rfl<|lJ rfl rfl<|mW rfl<|mbT rfl rfl<|mv2 rfl rfl<|mT<|cT rfl<|au<|cDs 5<|pV rfl<|pV rfl<|.cons (aB.S 4 (.box 40 ([.row 2 (lg c) (bW K c)] ++tn X u1 ++tn X u2)) rfl rfl) (by kernel_rfl)<|.cons (aB.S 5 (.box 40 ([.row 2 (lg d) (bW K d)] ++tn X v1 ++tn X v2)) rfl rfl) (by kernel_rfl)<|.cons (aB.V _ rfl) (by kernel_rfl)<|.nil<|mT<|aO<|bR<|tR<|bR<|tR<|tR<|bR<|tR<|rQ rfl (by rw [hI.lt hf0 ka];exact AV.le.rfl)
   ·have ka:bel u1 u2 v1 v2:=⟨ka1,fun h=>ka2 h.1⟩;exact aA<|mv4 rfl rfl rfl rfl<|mY iI rfl<|mdT rfl (dP.2 ka1)<|mv2 rfl rfl<|mY iF rfl<|mdF rfl ka2<|lJ rfl rfl<|lJ rfl rfl<|mv2 rfl rfl<|lJ rfl rfl<|lJ rfl rfl<|lJ rfl rfl<|lJ rfl rfl<|lJ rfl rfl<|lJ rfl rfl<|mW rfl<|mbT rfl rfl<|mv2 rfl rfl<|mT<|cT rfl<|au<|cDs 5<|pV rfl<|pV rfl<|.cons (aB.S 4 (.box 40 ([.row 2 (lg c) (bW K c)] ++tn X u1 ++tn X u2)) rfl rfl) (by kernel_rfl)<|.cons (aB.S 5 (.box 40 ([.row 2 (lg d) (bW K d)] ++tn X v1 ++tn X v2)) rfl rfl) (by kernel_rfl)<|.cons (aB.V _ rfl) (by kernel_rfl)<|.nil<|mT<|aO<|bR<|tR<|bR<|tR<|tR<|bR<|tR<|rQ rfl (by rw [hI.lt hf0 ka];exact AV.le.rfl)
  ·have ka:¬ bel u1 u2 v1 v2:=fun h=>ka1 h.1
   refine aA<|mv4 rfl rfl rfl rfl<|mY iI rfl<|mbF rfl (decide_eq_false (fun h=>ka1 (dP.1 h)))<|mW rfl<|lJ rfl rfl<|lJ rfl rfl<|lJ rfl rfl<|mU rfl rfl<|mU rfl rfl<|lJ rfl rfl<|lJ rfl rfl<|mU rfl rfl<|mU rfl rfl<|mU rfl rfl<|mU rfl rfl<|mU rfl rfl<|mU rfl rfl<|lJ rfl rfl<|lJ rfl rfl<|mv2 rfl rfl<|mT<|cF rfl<|au ?_
   by_cases Lj:v2≤u1
   ·by_cases kb2:u2≤u1
    ·by_cases YN:v2≤v1
     ·by_cases kb4:v2=u1
      ·have kb:¬ bel v1 v2 u1 u2:=fun h=>h.2 ⟨YN,kb2,kb4⟩
       refine aA<|mv4 rfl rfl rfl rfl<|mY iI rfl<|mdT rfl (dP.2 Lj)<|mv2 rfl rfl<|mY iF rfl<|mdT rfl kb2<|mW rfl<|mY iF rfl<|mW rfl<|mdT rfl YN<|mv4 rfl rfl rfl rfl<|mY iI rfl<|mbT rfl (beq_iff_eq.2 (kM.2 kb4))<|mW rfl<|mbF rfl rfl<|mv2 rfl rfl<|mT<|cF rfl<|aF<|bN<|tN<|au<|cDk 12<|oV rfl<|oV rfl<|oV rfl<|oV rfl<|oC Ew rfl<|oV rfl<|oV rfl<|oV rfl<|oV rfl<|oC Ew rfl<|oC iI rfl<|.cons (aB.V (.d (.one (.v (.bool (decide (v2-v1≤u2-u1)))))) (bZ (decide_eq_decide.2 vW)))<|.nil<|mT<|aW rfl (fun hc4=>?_) (fun hc4=>?_)
       ·have h':=hI.go1 hf0 ka kb (of_decide_eq_true hc4);have hT:=h'.da.tb (X:=X) (by omega);exact aA<|mW rfl<|mY (Et (X:=X) hI.oa hT.1 hT.2) rfl<|mZ rfl<|ak<|bN<|tN<|aA<|mv2 rfl rfl<|ak<|⟨((f-1),(hlf c u1 u2).1,(hlf c u1 u2).2,v1,v2),h',by show f-1 < f;omega,wk rfl ⟨hs rfl,hs rfl,hs rfl,hs rfl,hs rfl,hs rfl,fM rfl (aG ((dG (by have:=h'.fl;omega)).trans (by have:=hI.fl;omega))),trivial⟩ ⟨ho rfl,ho rfl,ho rfl,ho rfl,trivial⟩ rfl⟩
       ·have h':=hI.go2 hf0 ka kb (of_decide_eq_false hc4);have hT:=h'.db.tb (X:=X) (by omega);exact aA<|mW rfl<|mY (Et (X:=X) hI.ob hT.1 hT.2) rfl<|mZ rfl<|ak<|bN<|tN<|aA<|mv2 rfl rfl<|ak<|⟨((f-1),u1,u2,(hlf d v1 v2).1,(hlf d v1 v2).2),h',by show f-1 < f;omega,wk rfl ⟨hs rfl,hs rfl,hs rfl,hs rfl,hs rfl,hs rfl,fM rfl (aG ((dG (by have:=h'.fl;omega)).trans (by have:=hI.fl;omega))),trivial⟩ ⟨ho rfl,ho rfl,ho rfl,ho rfl,trivial⟩ rfl⟩
      ·have kb:bel v1 v2 u1 u2:=⟨Lj,fun h=>kb4 h.2.2⟩;exact aA<|mv4 rfl rfl rfl rfl<|mY iI rfl<|mdT rfl (dP.2 Lj)<|mv2 rfl rfl<|mY iF rfl<|mdT rfl kb2<|mW rfl<|mY iF rfl<|mW rfl<|mdT rfl YN<|mv4 rfl rfl rfl rfl<|mY iI rfl<|mbF rfl (beq_eq_false_iff_ne.2 (fun h=>kb4 (kM.1 h)))<|mW rfl<|mbT rfl rfl<|mv2 rfl rfl<|mT<|cT rfl<|au<|cDs 5<|pV rfl<|pV rfl<|.cons (aB.S 4 (.box 40 ([.row 2 (lg c) (bW K c)] ++tn X u1 ++tn X u2)) rfl rfl) (by kernel_rfl)<|.cons (aB.S 5 (.box 40 ([.row 2 (lg d) (bW K d)] ++tn X v1 ++tn X v2)) rfl rfl) (by kernel_rfl)<|.cons (aB.V _ rfl) (by kernel_rfl)<|.nil<|mT<|aO<|bR<|tR<|bR<|tR<|tR<|bR<|tR<|rQ rfl (by rw [hI.gt hf0 ka kb];exact AV.le.rfl)
     ·have kb:bel v1 v2 u1 u2:=⟨Lj,fun h=>YN h.1⟩;exact aA<|mv4 rfl rfl rfl rfl<|mY iI rfl<|mdT rfl (dP.2 Lj)<|mv2 rfl rfl<|mY iF rfl<|mdT rfl kb2<|mW rfl<|mY iF rfl<|mW rfl<|mdF rfl YN<|lJ rfl rfl<|lJ rfl rfl<|lJ rfl rfl<|lJ rfl rfl<|lJ rfl rfl<|lJ rfl rfl<|mW rfl<|mbT rfl rfl<|mv2 rfl rfl<|mT<|cT rfl<|au<|cDs 5<|pV rfl<|pV rfl<|.cons (aB.S 4 (.box 40 ([.row 2 (lg c) (bW K c)] ++tn X u1 ++tn X u2)) rfl rfl) (by kernel_rfl)<|.cons (aB.S 5 (.box 40 ([.row 2 (lg d) (bW K d)] ++tn X v1 ++tn X v2)) rfl rfl) (by kernel_rfl)<|.cons (aB.V _ rfl) (by kernel_rfl)<|.nil<|mT<|aO<|bR<|tR<|bR<|tR<|tR<|bR<|tR<|rQ rfl (by rw [hI.gt hf0 ka kb];exact AV.le.rfl)
    ·have kb:bel v1 v2 u1 u2:=⟨Lj,fun h=>kb2 h.2.1⟩;exact aA<|mv4 rfl rfl rfl rfl<|mY iI rfl<|mdT rfl (dP.2 Lj)<|mv2 rfl rfl<|mY iF rfl<|mdF rfl kb2<|lJ rfl rfl<|lJ rfl rfl<|mv2 rfl rfl<|lJ rfl rfl<|lJ rfl rfl<|lJ rfl rfl<|lJ rfl rfl<|lJ rfl rfl<|lJ rfl rfl<|mW rfl<|mbT rfl rfl<|mv2 rfl rfl<|mT<|cT rfl<|au<|cDs 5<|pV rfl<|pV rfl<|.cons (aB.S 4 (.box 40 ([.row 2 (lg c) (bW K c)] ++tn X u1 ++tn X u2)) rfl rfl) (by kernel_rfl)<|.cons (aB.S 5 (.box 40 ([.row 2 (lg d) (bW K d)] ++tn X v1 ++tn X v2)) rfl rfl) (by kernel_rfl)<|.cons (aB.V _ rfl) (by kernel_rfl)<|.nil<|mT<|aO<|bR<|tR<|bR<|tR<|tR<|bR<|tR<|rQ rfl (by rw [hI.gt hf0 ka kb];exact AV.le.rfl)
   ·have kb:¬ bel v1 v2 u1 u2:=fun h=>Lj h.1
    refine aA<|mv4 rfl rfl rfl rfl<|mY iI rfl<|mbF rfl (decide_eq_false (fun h=>Lj (dP.1 h)))<|mW rfl<|lJ rfl rfl<|lJ rfl rfl<|lJ rfl rfl<|mU rfl rfl<|mU rfl rfl<|lJ rfl rfl<|lJ rfl rfl<|mU rfl rfl<|mU rfl rfl<|mU rfl rfl<|mU rfl rfl<|mU rfl rfl<|mU rfl rfl<|lJ rfl rfl<|lJ rfl rfl<|mv2 rfl rfl<|mT<|cF rfl<|aF<|bN<|tN<|au<|cDk 12<|oV rfl<|oV rfl<|oV rfl<|oV rfl<|oC Ew rfl<|oV rfl<|oV rfl<|oV rfl<|oV rfl<|oC Ew rfl<|oC iI rfl<|.cons (aB.V (.d (.one (.v (.bool (decide (v2-v1≤u2-u1)))))) (bZ (decide_eq_decide.2 vW)))<|.nil<|mT<|aW rfl (fun hc5=>?_) (fun hc5=>?_)
    ·have h':=hI.go1 hf0 ka kb (of_decide_eq_true hc5);have hT:=h'.da.tb (X:=X) (by omega);exact aA<|mW rfl<|mY (Et (X:=X) hI.oa hT.1 hT.2) rfl<|mZ rfl<|ak<|bN<|tN<|aA<|mv2 rfl rfl<|ak<|⟨((f-1),(hlf c u1 u2).1,(hlf c u1 u2).2,v1,v2),h',by show f-1 < f;omega,wk rfl ⟨hs rfl,hs rfl,hs rfl,hs rfl,hs rfl,hs rfl,fM rfl (aG ((dG (by have:=h'.fl;omega)).trans (by have:=hI.fl;omega))),trivial⟩ ⟨ho rfl,ho rfl,ho rfl,ho rfl,trivial⟩ rfl⟩
    ·have h':=hI.go2 hf0 ka kb (of_decide_eq_false hc5);have hT:=h'.db.tb (X:=X) (by omega);exact aA<|mW rfl<|mY (Et (X:=X) hI.ob hT.1 hT.2) rfl<|mZ rfl<|ak<|bN<|tN<|aA<|mv2 rfl rfl<|ak<|⟨((f-1),u1,u2,(hlf d v1 v2).1,(hlf d v1 v2).2),h',by show f-1 < f;omega,wk rfl ⟨hs rfl,hs rfl,hs rfl,hs rfl,hs rfl,hs rfl,fM rfl (aG ((dG (by have:=h'.fl;omega)).trans (by have:=hI.fl;omega))),trivial⟩ ⟨ho rfl,ho rfl,ho rfl,ho rfl,trivial⟩ rfl⟩
 ·exact dO<|tE<|tE<|bE<|tN<|au<|cDs 5<|pV rfl<|pV rfl<|.cons (aB.S 4 (.box 40 ([.row 2 (lg c) (bW K c)] ++tn X u1 ++tn X u2)) rfl rfl) (by kernel_rfl)<|.cons (aB.S 5 (.box 40 ([.row 2 (lg d) (bW K d)] ++tn X v1 ++tn X v2)) rfl rfl) (by kernel_rfl)<|.cons (aB.V _ rfl) (by kernel_rfl)<|.nil<|mT<|aO<|rQ rfl (by rw [hI.end_ (by have h0:=of_decide_eq_false hc1;have:=hI.fl;omega)];exact AV.le.rfl)
theorem WI{K:Nat}{p:Rat}(hK:K≤1000000:=by omega):aC Tryz.prog 102 [.agg (tn K p)] (.d (.agg (tn K p))):=by
 refine aC.l9 (fC Tryz.func102 rfl rfl) (p:=Tb K p) (fun B w vs h=>match vs,h with | [_],⟨⟨cs,_,hl⟩,_⟩=>MZ hl) (fun hb=>?_);have h:=KH (ug K p) (Nat.le_refl _) (by omega);rw [jr] at h;exact aC.le (dl DV.same iM) (nT (vF hb)) h
theorem ahQ{K:Nat}{x1 x2:Rat}(hK:K≤1000000):aC Tryz.prog 66 [.agg (tn K x1),.one (.row 4 1 (fun i' j'=>((tn K x2)[i'*4+j']?).getD (.v undef)))] (.d (.agg (tn K (if x1 < x2 then x2 else x1)))):=by
 refine aN 24 [.cell 4 38] Tryz.func66 rfl<|cR<|mO rfl<|mO rfl<|mT<|cR<|mW rfl<|mY WI rfl<|mO rfl<|mZ rfl<|mT<|au<|cR<|mv3 rfl rfl rfl<|mT<|aJ<|dQ (ι:=Nat×Rat) (fun (p:Nat×Rat)=>match p with | (i,m)=>⟨24,[(4,.ptr 4 0),(5,.ptr 5 0),(10,.d (.one (.row 4 1 (fun i' j'=>((tn K x2)[i'*4+j']?).getD (.v undef))))),(11,.d (.one (.v (.int .i64 1)))),(12,.d (.one (.v (.int .i64 ((i:Nat):Int)))))],[(4,.box 38 ([.v (.bool false),.v (.slice none 0 0),.v (.bool false),.v (.slice none 0 0)])),(5,.box 38 (tn K m))]⟩) (fun (p:Nat×Rat)=>match p with | (i,m)=>i≤1∧(i=0→m=x1)∧(i=1→m=(if x1 < x2 then x2 else x1))) (fun (p:Nat×Rat)=>match p with | (i,m)=>1-i) (0,x1) (⟨Nat.zero_le _,fun _=>rfl,fun h=>absurd h (by omega)⟩) (wkr rfl rfl) ?_;rintro ⟨i,m⟩ hI;obtain ⟨hi,h0m,h1m⟩:i≤1∧(i=0→m=x1)∧(i=1→m=(if x1 < x2 then x2 else x1)):=hI;show AW _ _ _ ⟨_,_,_⟩
 refine cR<|mW rfl<|mT<|au<|aW rfl (fun hc1=>?_) (fun hc1=>?_)
 ·refine aF<|tN<|au<|aJ<|au ?_;obtain rfl:i=0:=by have h0:=of_decide_eq_true hc1;omega
  have hmx:=h0m rfl;subst hmx;refine aA<|mv2 rfl rfl<|mO rfl<|mZ rfl<|mT<|cR<|mv2 rfl rfl<|mY iI rfl<|mW rfl<|mT<|aW rfl (fun hc2=>?_) (fun hc2=>?_)
  ·exact aA<|mW rfl<|mY WI rfl<|mZ rfl<|ak<|bN<|tN<|aA<|mv2 rfl rfl<|ak<|⟨((0+1),x2),⟨by omega,fun h=>absurd h (by omega),fun _=>by rw [if_pos (by have h0:=of_decide_eq_true hc2;apply Rat.not_le.1;intro h2;have:=dP.2 h2;omega)]⟩,by show 1-(0+1) < 1-0;omega,wk rfl ⟨hs rfl,hs rfl,hs rfl,hs rfl,fM rfl (aG rfl),trivial⟩ ⟨ho rfl,ho rfl,trivial⟩ rfl⟩
  ·exact aF<|bN<|tN<|aA<|mv2 rfl rfl<|ak<|⟨((0+1),m),⟨by omega,fun h=>absurd h (by omega),fun _=>by rw [if_neg (by have h0:=of_decide_eq_false hc2;intro h2;have:=sS h2;omega)]⟩,by show 1-(0+1) < 1-0;omega,wk rfl ⟨hs rfl,hs rfl,hs rfl,hs rfl,fM rfl (aG rfl),trivial⟩ ⟨ho rfl,ho rfl,trivial⟩ rfl⟩
 ·exact dO<|tE<|tE<|bE<|tN<|cR<|mW rfl<|mZ rfl<|mT<|aO<|rQ rfl (by have hm:=h1m (by have h0:=of_decide_eq_false hc1;omega);rw [hm];exact AV.le.rfl)
theorem Xu{c d:Nat→Int}{lo hi p q a b:Rat}(oa:sH c lo hi)(ob:sH d p q)(h1:¬ hi≤lo)(h2:¬ q≤p)(ha:a=if lo < p then p else lo)(hb:b=if q < hi then q else hi)(hn:¬ a < b):cZ (bJ c lo hi) (bJ d p q)≠0:=fun h0=>by
 have e:=oH h0;have cl:bJ c lo hi lo:=by rw [jE (by grind)];exact Or.inl (by grind)
 have cp:bJ d p q p:=by rw [jE (by grind)];exact Or.inl (by grind)
 have ca:bJ c lo hi a:=by rw [ha];split;exact (e _).2 cp;exact cl
 have cb:¬ bJ c lo hi b:=by rw [hb];split;exact fun k=>ob.above (by grind) ((e _).1 k);exact oa.above (by grind)
 exact hn (oa.cut.nb ca cb)
theorem dlt{p q:Rat}:(uH p q < 0)↔p < q:=⟨fun h=>Rat.not_le.1 fun h2=>by have:=vW.2 h2;omega,fun h=>by have:=Fz h;omega⟩
theorem Gf{K L X KC N:Nat}{c d:Nat→Int}{lo hi x1 x2:Rat}(oa:uD c lo hi)(ob:uD d x1 x2)(hN:N≤10)(ED:lg c≤N)(hdN:lg d≤N)(ny:(21*K+3+1)*(2*3^N)≤KC:=by decide)(hC:KC≤90000000:=by decide)(hX:11*L+320*K+300≤X:=by decide)(hX1:X≤100000:=by decide):aC Tryz.prog 35 [.agg ([.row 2 (lg c) (bW K c)] ++tn L lo ++tn L hi),.agg ([.row 2 (lg d) (bW K d)] ++tn L x1 ++tn L x2)] (.d (.one (.v (.int .i64 (cZ (bJ c lo hi) (bJ d x1 x2)))))):=by
 have hlc:=dK c;have hld:=dK d;refine aC.l9 (fC Tryz.func35 rfl rfl) (p:=Lb K c∧Lb K d) (fun B w vs h=>match vs,h with | [_,_],⟨⟨cs,_,hl⟩,⟨ds,_,hk⟩,_⟩=>⟨(Ji oa.ok.z hl).1,(Ji ob.ok.z hk).1⟩) (fun hb=>?_);have hc2:=oa.l2;have hd2:=ob.l2;refine aN 72 [.tmp 4] Tryz.func35 rfl<|cR<|mO rfl<|mO rfl<|mW rfl<|mT<|au<|cDk 4<|oV rfl<|oC (Qh oa.ok.z) rfl<|oV rfl<|oC (Qh ob.ok.z) rfl<|.nil<|mZ rfl<|mZ rfl<|mT<|au<|aJ<|cR<|mW rfl<|mY iF rfl<|mW rfl<|mT<|aW rfl (fun hc1=>?_) (fun hc1=>?_)
 ·refine au ?_;have hbd:=nP (bJ d x1 x2) (fE lo);exact aA<|mv3 rfl rfl rfl<|mY (Kr ob.ok) rfl<|mV aj (.d (.one (.v (.int .i64 (-(cZ (bJ d x1 x2) (fE lo))))))) (fH ((dS (by omega) (by omega)).trans (by omega)))<|mW rfl<|mT<|aO<|bR<|tR<|rQ rfl (aG (by rw [kE (c:=c) (of_decide_eq_true hc1)];exact (iQ ob.ok.cut (kN lo)).symm))
 ·refine cR<|mW rfl<|mY iF rfl<|mW rfl<|mT<|aW rfl (fun hc2=>?_) (fun hc2=>?_)
  ·exact cR<|mv3 rfl rfl rfl<|mY (Kr oa.ok) rfl<|mW rfl<|mT<|aO<|bR<|tR<|rQ rfl (aG (by rw [kE (c:=d) (of_decide_eq_true hc2)]))
  ·refine aF<|bN<|tN<|au ?_;have hP:=of_decide_eq_false hc1;have hQ:=of_decide_eq_false hc2;refine cDs 12<|pV rfl<|pV rfl<|pV rfl<|pV rfl<|.cons (aB.B _ rfl) (by kernel_rfl)<|pC (ahQ (by omega)) rfl<|pV rfl<|pV rfl<|.cons (aB.N (.box 38 ([.v (.bool false),.v (.slice none 0 0),.v (.bool false),.v (.slice none 0 0)])) rfl 5 rfl rfl) (by kernel_rfl)<|.cons (aB.N (.box 38 ([.v (.bool false),.v (.slice none 0 0),.v (.bool false),.v (.slice none 0 0)])) rfl 6 rfl rfl) (by kernel_rfl)<|.cons (aB.S 5 (.box 38 (tn L (if lo < x1 then x1 else lo))) rfl rfl) (by kernel_rfl)<|.cons (aB.S 6 (.box 38 (tn L hi)) rfl rfl) (by kernel_rfl)<|.nil<|mT<|au<|cR<|mv3 rfl rfl rfl<|mY iI rfl<|mV aj (.d (.one (.v (.bool (decide (x2 < hi)))))) (bZ (decide_eq_decide.2 dlt))<|mT<|aW rfl (fun hc3=>?_) (fun hc3=>?_)
   ·refine aA<|mv2 rfl rfl<|mZ rfl<|mT<|au<|au ?_;have hbb:x2=if x2 < hi then x2 else hi:=(if_pos (of_decide_eq_true hc3)).symm
    refine aA<|mv2 rfl rfl<|mY iI rfl<|mV aj (.d (.one (.v (.bool (decide ((if lo < x1 then x1 else lo) < x2)))))) (bZ (decide_eq_decide.2 dlt))<|mT<|aW rfl (fun hc4=>?_) (fun hc4=>?_)
    ·refine cR<|mv4 rfl rfl rfl rfl<|mB aj (.d (.one (.row 1 2 (fun i' j'=>(([.row 2 (lg c) (bW K c),.row 2 (lg d) (bW K d)])[i'*1+j']?).getD (.v undef))))) rfl<|mY (ado (KC:=KC) (N:=N) oa.ok.z ob.ok.z (by omega) (by omega) hN ED hdN hb.1 hb.2 ny hC) rfl<|mW rfl<|mT<|au<|cEx (Qx:=(nN c d (21*K+3))) (L:=(fun g=>gQ (21*K+3) (lg g) g)) 7 rfl (fun g hg=>?_);have hlg:=dK g;have hg0:=(hg.le oa.ok.z (by have:=oa.l2;omega)).1
     by_cases hl2:2≤lg g
     ·refine aA<|mW rfl<|mY I5 rfl<|mdT rfl (by omega)<|mv4 rfl rfl rfl rfl<|mY (ahN hg.z) rfl<|mW rfl<|mT<|aW rfl (fun hc5=>?_) (fun hc5=>?_)
      ·exact cR<|mW rfl<|mT<|aO<|tR<|rQ rfl (aG ((yU oa.ok ob.ok hP hQ hg hg0 rfl hbb).1 (of_decide_eq_true hc4) hl2 hc5).symm)
      ·exact aF<|tN<|cR<|mv2 rfl rfl<|mY (DF (X:=X) oa.ok ob.ok hX hX1) rfl<|mv4 rfl rfl rfl rfl<|mO rfl<|mO rfl<|mZ rfl<|mZ rfl<|mW rfl<|mT<|cR<|mv2 rfl rfl<|mT<|aO<|rQ rfl (aG (yS oa ob ((yU oa.ok ob.ok hP hQ hg hg0 rfl hbb).2 (fun _ _=>hc5))).sg)
     ·exact aA<|mW rfl<|mY I5 rfl<|mdF rfl (by omega)<|mW rfl<|mG rfl rfl<|mG rfl rfl<|mG rfl rfl<|mG rfl rfl<|mW rfl<|mT<|cFs rfl<|cR<|mv2 rfl rfl<|mY (DF (X:=X) oa.ok ob.ok hX hX1) rfl<|mv4 rfl rfl rfl rfl<|mO rfl<|mO rfl<|mZ rfl<|mZ rfl<|mW rfl<|mT<|cR<|mv2 rfl rfl<|mT<|aO<|rQ rfl (aG (yS oa ob ((yU oa.ok ob.ok hP hQ hg hg0 rfl hbb).2 (fun _ h=>absurd h hl2))).sg)
    ·exact aF<|tN<|cR<|mv2 rfl rfl<|mY (DF (X:=X) oa.ok ob.ok hX hX1) rfl<|mv4 rfl rfl rfl rfl<|mO rfl<|mO rfl<|mZ rfl<|mZ rfl<|mW rfl<|mT<|cR<|mv2 rfl rfl<|mT<|aO<|rQ rfl (aG (yS oa ob (Xu oa.ok ob.ok hP hQ rfl hbb (of_decide_eq_false hc4))).sg)
   ·refine aF<|tN<|au<|au ?_;have hbb:hi=if x2 < hi then x2 else hi:=(if_neg (of_decide_eq_false hc3)).symm
    refine aA<|mv2 rfl rfl<|mY iI rfl<|mV aj (.d (.one (.v (.bool (decide ((if lo < x1 then x1 else lo) < hi)))))) (bZ (decide_eq_decide.2 dlt))<|mT<|aW rfl (fun hc6=>?_) (fun hc6=>?_)
    ·refine cR<|mv4 rfl rfl rfl rfl<|mB aj (.d (.one (.row 1 2 (fun i' j'=>(([.row 2 (lg c) (bW K c),.row 2 (lg d) (bW K d)])[i'*1+j']?).getD (.v undef))))) rfl<|mY (ado (KC:=KC) (N:=N) oa.ok.z ob.ok.z (by omega) (by omega) hN ED hdN hb.1 hb.2 ny hC) rfl<|mW rfl<|mT<|au<|cEx (Qx:=(nN c d (21*K+3))) (L:=(fun g=>gQ (21*K+3) (lg g) g)) 7 rfl (fun g hg=>?_);have hlg:=dK g;have hg0:=(hg.le oa.ok.z (by have:=oa.l2;omega)).1
     by_cases hl2:2≤lg g
     ·refine aA<|mW rfl<|mY I5 rfl<|mdT rfl (by omega)<|mv4 rfl rfl rfl rfl<|mY (ahN hg.z) rfl<|mW rfl<|mT<|aW rfl (fun hc7=>?_) (fun hc7=>?_)
      ·exact cR<|mW rfl<|mT<|aO<|tR<|rQ rfl (aG ((yU oa.ok ob.ok hP hQ hg hg0 rfl hbb).1 (of_decide_eq_true hc6) hl2 hc7).symm)
      ·exact aF<|tN<|cR<|mv2 rfl rfl<|mY (DF (X:=X) oa.ok ob.ok hX hX1) rfl<|mv4 rfl rfl rfl rfl<|mO rfl<|mO rfl<|mZ rfl<|mZ rfl<|mW rfl<|mT<|cR<|mv2 rfl rfl<|mT<|aO<|rQ rfl (aG (yS oa ob ((yU oa.ok ob.ok hP hQ hg hg0 rfl hbb).2 (fun _ _=>hc7))).sg)
     ·exact aA<|mW rfl<|mY I5 rfl<|mdF rfl (by omega)<|mW rfl<|mG rfl rfl<|mG rfl rfl<|mG rfl rfl<|mG rfl rfl<|mW rfl<|mT<|cFs rfl<|cR<|mv2 rfl rfl<|mY (DF (X:=X) oa.ok ob.ok hX hX1) rfl<|mv4 rfl rfl rfl rfl<|mO rfl<|mO rfl<|mZ rfl<|mZ rfl<|mW rfl<|mT<|cR<|mv2 rfl rfl<|mT<|aO<|rQ rfl (aG (yS oa ob ((yU oa.ok ob.ok hP hQ hg hg0 rfl hbb).2 (fun _ h=>absurd h hl2))).sg)
    ·exact aF<|tN<|cR<|mv2 rfl rfl<|mY (DF (X:=X) oa.ok ob.ok hX hX1) rfl<|mv4 rfl rfl rfl rfl<|mO rfl<|mO rfl<|mZ rfl<|mZ rfl<|mW rfl<|mT<|cR<|mv2 rfl rfl<|mT<|aO<|rQ rfl (aG (yS oa ob (Xu oa.ok ob.ok hP hQ rfl hbb (of_decide_eq_false hc6))).sg)
/-! ### The greatest root -/
theorem abx{r rg:Fn}{rl:List Fn}{lo hi:Rat}(hs:I4 r rg rl)(pr:Po r)(hlt:lo < hi)(hn:¬ jB r lo hi):dV (jF r lo hi):=by
 have mem:∀ q,lo≤q→q < hi→(jF r lo hi q↔¬ jB r q hi):=fun q h1 h2=>by
  constructor
  ·rintro (k | ⟨_,k⟩)
   ·have e:q=lo:=by grind
    rw [e];exact hn
   ·exact k
  ·intro k;exact Or.inr ⟨h2,k⟩
 refine ⟨fun q t ht hqt=>?_,fun q hq=>?_,⟨lo,Or.inl (by grind)⟩,⟨hi,jh hlt (by grind)⟩⟩
 ·by_cases hq:q≤lo
  ·exact Or.inl hq
  ·have hth:t < hi:=by rcases ht with k | ⟨k,_⟩ <;> grind
   rw [mem q (by grind) (by grind)];rw [mem t (by grind) hth] at ht;rintro ⟨s,h1,h2⟩;exact ht ⟨s,h1,fun u a b=>h2 u (by grind) b⟩
 ·by_cases hq1:q < lo
  ·exact ⟨lo,hq1,Or.inl (by grind)⟩
  ·have Yz:q < hi:=by rcases hq with k | ⟨k,_⟩ <;> grind
   rw [mem q (by grind) Yz] at hq;obtain ⟨h0,e,he,hne⟩:=Bz hs pr q;obtain ⟨z,hz,hz1,hz2⟩:=jT he (show 0 < hi-q by grind);refine ⟨q+z / 2,by grind,?_⟩;rw [mem _ (by grind) (by grind)];intro hf;obtain ⟨M,hM⟩:=qB hs (a:=q) (b:=q+z / 2) (by grind);have hM0:M=0:=hM.nil.2 fun t h1 h2=>hne t h1 (by grind)
   subst hM0;obtain ⟨M2,hM2⟩:=qB hs (a:=q+z / 2) (b:=hi) (by grind);have c2:og r (q+z / 2) hi M2:=⟨rg,rl,hs,hM2⟩;have:=(c2.free pr (by grind)).2 hf;subst this;have c3:=og.cat pr (show q≤q+z / 2 by grind) (by grind) ⟨rg,rl,hs,hM⟩ c2;exact hq ((c3.free pr (by grind)).1 rfl)
theorem aby{r rg:Fn}{rl:List Fn}{lo hi:Rat}(hs:I4 r rg rl)(pr:Po r)(hlt:lo < hi)(hn:¬ jB r lo hi):VC r (jF r lo hi):=by
 intro e he q s hq hsn;have hC:=abx hs pr hlt hn;obtain ⟨q',r',h1,h2,h3,h4,hq',hr'⟩:=Xn (C:=jF r lo hi) (lo:=lo) (hi:=hi) (Or.inl (by grind)) (jh hlt (by grind)) hq hsn;have hqr:=hC.nb hq' hr';have nq:¬ jB r q' hi:=by
  rcases hq' with k | ⟨_,k⟩
  ·have e:q'=lo:=by grind
   rw [e];exact hn
  ·exact k
 obtain ⟨N,hN⟩:=qB hs (a:=q') (b:=hi) (by grind);have cN:og r q' hi N:=⟨rg,rl,hs,hN⟩;obtain ⟨K,M,k1,k2,ee⟩:=cN.split (m:=r') (by grind) h2;have hM0:M=0:=by
  by_cases hh:r' < hi
  ·have:jB r r' hi:=Classical.byContradiction fun k=>hr' (Or.inr ⟨hh,k⟩)
   exact (k2.free pr (by grind)).2 this
  ·have e:r'=hi:=by grind
   rw [e] at k2;exact (k2.free pr (by grind)).2 (by
    obtain ⟨h0,_⟩:=Bz hs pr hi;exact ⟨wX r rg hi,h0,fun t a b=>absurd b (by grind)⟩)
 have hK:K≠0:=fun hK=>nq ((cN.free pr (by grind)).1 (by omega))
 obtain ⟨x,x1,x2,x3⟩:=BQ pr (by grind) k1 hK he;exact ⟨x,by grind,by grind,x3⟩
/-- By the greatest common divisor. -/
theorem O7{c p g:Nat→Int}{M:Nat}{lo hi:Rat}(o:uD c lo hi)(hl:¬ hi≤lo)(zp:aZ p)(hg:nN p c M g)(hg0:lg g≠0):(2≤lg g→G6 g lo hi=true→PZ (FF p) (bJ c lo hi)=0)∧((2≤lg g→G6 g lo hi=false)→¬ VC (FF p) (bJ c lo hi)):=by
 have oi:=o.ok.i' hl;obtain ⟨w1,Ui,f1⟩:=hg.G9.da;obtain ⟨w2,V6,f2⟩:=hg.G9.db;obtain ⟨u,v,pu,pv,huv⟩:=hg.G9.cm;have f1':∀ x,FF p x=FF g x*w1 x:=fun x=>by rw [f1 x];grind
 have f2':∀ x,FF c x=FF g x*w2 x:=fun x=>by rw [f2 x];grind
 have hlt:=oi.lt;rw [jE hlt];refine ⟨fun h2 hh=>yK (VH oi (cu hg.z) V6 Ui f2' f1' ((yg oi hg.z V6 f2' h2 (by grind) (by grind) hlt).1 hh)),fun hh hv=>?_⟩;have fr:jB (FF g) lo hi:=by
  by_cases h2:2≤lg g
  ·apply Classical.byContradiction
   intro hn;have:=(yg oi hg.z V6 f2' h2 (by grind) (by grind) hlt).2 hn;rw [hh h2] at this;exact absurd this Bool.noConfusion
  ·exact EK hg.z (by omega) lo hi
 obtain ⟨s,hs⟩:=O6 oi (cu hg.z) V6 Ui pu pv f2' f1' huv fr;exact hs.TV hv
theorem acO{y:Nat→Int}(zy:aZ y)(h:lg y=0){C:qw}(hC:dV C):PZ (FF y) C=0:=yK fun e he q r hq hr=>by
 have h1:=(nM zy).1 h;have h2:=hC.nb hq hr;exact ⟨q,by grind,by grind,by rw [h1 q];exact jD (by grind)⟩
theorem aaV{K L M:Nat}{c:Nat→Int}{lo hi:Rat}(hz:aZ c)(hK:K≤10000000)(hL:L≤1000000)(hM:M≤1000000):aC Tryz.prog 91 [.agg ([.row 2 (lg c) (bW K c)] ++tn L lo ++tn M hi)] (.d (.agg ([.row 2 (lg c) (bW K c)] ++tn L lo ++tn M hi))):=by
 exact aN 5 [.cell 2 40] Tryz.func91 rfl<|cR<|mO rfl<|mO rfl<|mT<|cR<|mW rfl<|mY (Qh hz) rfl<|mZ rfl<|mT<|aO<|rQ rfl (AV.le.rfl)
/-- den t - num: the polynomial of a rational. -/
def ku(t:Rat):Nat→Int:=vJ (-t.num) (t.den:Int)
theorem yw(t:Rat):∀ i,2≤i→ku t i=0:=fun i hi=>by unfold ku vJ;rw [if_neg (by omega),if_neg (by omega)]
theorem rJ(t:Rat):aZ (ku t):= .of (yw t) (by decide)
theorem nV(t:Rat):lg (ku t)=2:=by
 rw [← kF (yw t) (rJ t)];have h:ku t 1≠0:=by show (t.den:Int)≠0;have:=t.den_pos;omega
 exact sV (Or.inr h)
theorem aec(t x:Rat):FF (ku t) x=(t.den:Rat)*x-(t.num:Rat):=by
 rw [← oq (rJ t) (yw t)];show (0+((-t.num:Int):Rat)*x^0)+(((t.den:Nat):Int):Rat)*x^1=_
 rw [Rat.pow_zero,agX,Rat.intCast_neg];have e:(((t.den:Nat):Int):Rat)=(t.den:Rat):=rfl;rw [e];grind
theorem OI(t:Rat):FF (ku t) t=0:=by
 rw [aec];have:=qO t;grind
theorem den_nz(t:Rat):(t.den:Rat)≠0:=by exact_mod_cast t.den_nz
theorem agq(t x:Rat):FF (bM (ku t)) x=(t.den:Rat):=by
 have hz:∀ i,1≤i→bM (ku t) i=0:=fun i hi=>by unfold bM;rw [yw t (i+1) (by omega)];simp
 rw [← oq (eH (rJ t)) hz];show 0+((bM (ku t) 0:Int):Rat)*x^0=_
 have e:bM (ku t) 0=(t.den:Int):=by show ku t 1*((0+1:Nat):Int)=_;have:ku t 1=(t.den:Int):=rfl;rw [this];omega
 rw [e,Rat.pow_zero];have e2:(((t.den:Nat):Int):Rat)=(t.den:Rat):=rfl;rw [e2];grind
theorem Y8(t:Rat):zD (FF (ku t)) (FF (bM (ku t))):=⟨cu (rJ t),cu (eH (rJ t)),pX (rJ t),fun _=>0,fun _=>1 / (t.den:Rat),bT _,bT _,fun x=>by rw [agq];have:=den_nz t;grind⟩
theorem ade{f:Fn}{t:Rat}(h:f t=0):VC f (fE t):=fun e he q r hq hr=>⟨t,by unfold fE at hq;grind,by unfold fE at hr;grind,by rw [h];exact jD (by grind)⟩
theorem ajY{c:Nat→Int}(z:aZ c)(sq:zD (FF c) (FF (bM c)))(l2:2≤lg c){t:Rat}(h:FF c t=0):uD c t t:=⟨Zu z t,sq,l2,by rw [kE (by grind)];exact ade h⟩
theorem Zv(t:Rat):uD (ku t) t t:=ajY (rJ t) (Y8 t) (by rw [nV];exact Nat.le_refl 2) (OI t)
theorem acs{c d:Nat→Int}{h1 h2 E:Nat}{lo hi p q:Rat}(b1:∀ i,(c i).natAbs≤2^h1)(b2:∀ i,(d i).natAbs≤2^h2)(hE:E=lS (lg c) (lg d) h1 h2)(oa:uD c lo hi)(ob:uD d p q)(hne:cZ (bJ c lo hi) (bJ d p q)≠0)(o1:p≤hi)(o2:lo≤q)(u1:(hi-lo)*t2 (E+2)≤1)(u2:(q-p)*t2 (E+2)≤1):False:=by
 have hC:=oa.ok.cut;have hD:=ob.ok.cut;rw [jv] at u1 u2;have e4:t2 2=4:=rfl;rw [e4] at u1 u2;have hp:=iq E;obtain ⟨θ,hθ⟩:∃ θ,θ=1 / (2*t2 E):=⟨_,rfl⟩
 have hθ1:θ*t2 E=1 / 2:=by rw [hθ];grind
 have hθ0:0 < θ:=by
  apply Classical.byContradiction;intro hn;have:=Rat.mul_le_mul_of_nonneg_right (show θ≤0 by grind) (show 0≤t2 E by grind);grind
 obtain ⟨a,ha⟩:∃ a,a=(if lo≤p then lo else p)-θ:=⟨_,rfl⟩
 obtain ⟨b,hb⟩:∃ b,b=if hi≤q then q else hi:=⟨_,rfl⟩
 have hlo:a < lo∧a < p:=by rw [ha];split <;> constructor <;> grind
 have hhi:hi≤b∧q≤b:=by rw [hb];split <;> constructor <;> grind
 have hle1:=oa.ok.le;have hle2:=ob.ok.le;have agb:b-a≤(hi-lo)+(q-p)+θ:=by rw [ha,hb];split <;> split <;> grind
 have hfin:(b-a)*t2 E≤1:=by
  have:=Rat.mul_le_mul_of_nonneg_right agb (show 0≤t2 E by grind);grind
 have hq:∃ t,(bJ d p q t∧¬ bJ c lo hi t)∨(bJ c lo hi t∧¬ bJ d p q t):=by
  apply Classical.byContradiction;intro hn;refine hne (jU fun t=>⟨fun h=>?_,fun h=>?_⟩)
  ·apply Classical.byContradiction;intro k;exact hn ⟨t,Or.inr ⟨h,k⟩⟩
  ·apply Classical.byContradiction;intro k;exact hn ⟨t,Or.inl ⟨h,k⟩⟩
 obtain ⟨t,ht⟩:=hq;exact sep oa.ok.z ob.ok.z oa.sq ob.sq oa.l2 ob.l2 b1 b2 hC hD oa.vc ob.vc ht (oa.ok.below hlo.1) (oa.ok.above hhi.1) (ob.ok.below hlo.2) (ob.ok.above hhi.2) (hE▸hfin)
theorem Yo{c:Nat→Int}{lo hi t:Rat}{i:Nat}(h:sH c lo hi)(ht:0 < t)(k:(hi-lo)*t≤t2 i):((hlf c lo hi).2-(hlf c lo hi).1)*t≤t2 (i-1):=by
 cases i with
 | succ i=>exact Yn h ht k
 | zero=>
  have nr:=(tC h).1;have h1:=nr.lo;have h2:=nr.hi;have:=Rat.mul_le_mul_of_nonneg_right (show (hlf c lo hi).2-(hlf c lo hi).1≤hi-lo by grind) (show 0≤t by grind);show _≤t2 0
  grind
theorem agr(t:Rat):bn (ku t) 2=1:=by
 show Nat.gcd (Nat.gcd 0 (ku t 0).natAbs) (ku t 1).natAbs=1
 have e0:ku t 0= -t.num:=rfl;have e1:ku t 1=(t.den:Int):=rfl;rw [e0,e1,Nat.gcd_zero_left,Int.natAbs_neg,Int.natAbs_natCast];exact t.reduced
/-
 ALGEBRAIC NUMBERS, by the machine (8): Rational.
-/
abbrev AT:=(Nat→Int)×Rat×Rat
def ga(As:List AT)(i:Nat):AT:=As.getD i (fun _=>0,0,0)
def ac(As:List AT)(i:Nat):Nat→Int:=(ga As i).1
def al(As:List AT)(i:Nat):Rat:=(ga As i).2.1
def ah(As:List AT)(i:Nat):Rat:=(ga As i).2.2
def acu(As:List AT)(i:Nat):qw:=bJ (ac As i) (al As i) (ah As i)
def elg(K L:Nat)(As:List AT):Nat→Nat→Lf:=fun i j=>((yR K (ac As i) L (al As i) L (ah As i))[j]?).getD (.v undef)
/-- The first of the least of i + 1. -/
noncomputable def A8(As:List AT):Nat→Nat
 | 0=>0
 | i+1=>if cZ (acu As (i+1)) (acu As (A8 As i)) < 0 then i+1 else A8 As i
theorem Zb(As:List AT):∀ i,A8 As i≤i
 | 0=>Nat.le_refl _
 | i+1=>by unfold A8;split;exact Nat.le_refl _;exact Nat.le_succ_of_le (Zb As i)
theorem agu{As:List AT}{i:Nat}(h:cZ (acu As (1+i)) (acu As (A8 As i)) < 0):1+i=A8 As (i+1):=by rw [Nat.add_comm 1 i] at *;exact (if_pos h).symm
theorem agt{As:List AT}{i:Nat}(h:¬ cZ (acu As (1+i)) (acu As (A8 As i)) < 0):A8 As i=A8 As (i+1):=by rw [Nat.add_comm 1 i] at *;exact (if_neg h).symm
theorem slL{T:TypeId→Option TI}{s:AS}{t e:TypeId}{ti te:TI}{x:Operand}{k:IntKind}{z:Int}{sz n:Nat}{el:Nat→Nat→Lf}{lo:Operand}(h1:T t=some ti)(h2:ti.elem=some e)(h3:T e=some te)(h4:jW s lo=some (k,z))(h5:dM s x=some (.d (.one (.row sz n el))))(h6:Nat.beq sz te.n=true)(hz:0≤z)(hz2:z≤(n:Int)):jg T s (.slice t x (some lo) none none)=some (.d (.one (.row sz (n-z.toNat) fun i j=>el (z.toNat+i) j))):=by
 have h6':=Nat.eq_of_beq_eq_true h6;simp only [jg,h1,h2,h3,h5,qg,h4,if_pos hz];rw [if_pos ⟨h6',by omega,Nat.le_refl _⟩];rfl
theorem adE{K L i j:Nat}{As:List AT}{t:TypeId}(h:i=j):AO.le (.box t (yR K (ac As i) L (al As i) L (ah As i))) (.box t (yR K (ac As j) L (al As j) L (ah As j))):=by subst h;exact fun _ _ _ _ h=>h
theorem aiv{As:List AT}{n:Nat}(h:∀ i,i < n→uD (ac As i) (al As i) (ah As i))(hn:As.length≤n)(i:Nat):aZ (ac As i):=by
 by_cases hi:i < n
 ·exact (h i hi).ok.z
 ·have e:ga As i=(fun _=>0,0,0):=by unfold ga;rw [List.getD_eq_getElem?_getD,List.getElem?_eq_none (by omega)];rfl
  unfold ac;rw [e];exact kX
theorem aeT{K L X KC N n:Nat}{As:List AT}(hn:n=As.length)(hn0:n≠0)(hn1:n≤1000)(hok:∀ i,i < n→uD (ac As i) (al As i) (ah As i))(ED:∀ i,i < n→lg (ac As i)≤N)(hN:N≤10)(ny:(21*K+3+1)*(2*3^N)≤KC)(hC:KC≤90000000)(hX:11*L+320*K+300≤X)(hX1:X≤100000):aC Tryz.prog 56 [.one (.row 9 n (elg K L As))] (.lK [.agg ([.row 2 (lg (ac As (A8 As (n-1)))) (bW K (ac As (A8 As (n-1))))] ++tn L (al As (A8 As (n-1))) ++tn L (ah As (A8 As (n-1)))),.one (.v (.bool true))]):=by
 have hz:=aiv hok (by omega);refine aN 29 [.cell 2 40,.tmp 3] Tryz.func56 rfl<|cR<|mO rfl<|mW rfl<|mT<|au<|cR<|mv2 rfl rfl<|mbF rfl (beq_eq_false_iff_ne.2 (by omega))<|mT<|cFs rfl<|cR<|mW rfl<|mV aj (.d (.one (.at 9 ((elg K L As) 0)))) (lu (el:=(elg K L As)) (z:=0) (n:=n) rfl rfl rfl rfl rfl rfl (by omega) (by omega)) ?_;refine mW rfl<|mO rfl<|mZ rfl<|mT<|au<|cR<|mW rfl<|mV aj (.d (.one (.row 9 (n-1) (fun i j=>elg K L As (1+i) j)))) (slL (z:=1) (n:=n) rfl rfl rfl rfl rfl rfl (by omega) (by omega))<|mv2 rfl rfl<|mT<|aJ<|dQ (ι:=Nat) (fun (i:Nat)=>⟨29,[(2,.ptr 2 0),(3,.d (.one (.v (.bool false)))),(4,.ptr 4 0),(15,.d (.one (.row 9 (n-1) (fun i j=>elg K L As (1+i) j)))),(16,.d (.one (.v (.int .i64 ((n-1:Nat):Int))))),(17,.d (.one (.v (.int .i64 ((i:Nat):Int)))))],[(2,.box 40 ([.v (.slice none 0 0),.v (.bool false),.v (.slice none 0 0),.v (.bool false),.v (.slice none 0 0),.v (.bool false),.v (.slice none 0 0),.v (.bool false),.v (.slice none 0 0)])),(4,.box 40 ([.row 2 (lg (ac As (A8 As i))) (bW K (ac As (A8 As i)))] ++tn L (al As (A8 As i)) ++tn L (ah As (A8 As i))))]⟩) (fun (i:Nat)=>i≤n-1) (fun (i:Nat)=>n-1-i) 0 (Nat.zero_le _) (wk rfl ⟨hs rfl,hs rfl,hs rfl,hs rfl,hs rfl,fM rfl (aG rfl),trivial⟩ ⟨ho rfl,ho rfl,trivial⟩ rfl) ?_;rintro i hI;have hi:i≤n-1:=hI;show AW _ _ _ ⟨_,_,_⟩
 refine cR<|mW rfl<|mT<|au<|aW rfl (fun hc1=>?_) (fun hc1=>?_)
 ·refine aF<|tN<|au<|aJ<|au ?_;have hin:i < n-1:=by have h0:=of_decide_eq_true hc1;omega
  have hle:=Zb As i;refine aA<|mV aj (.d (.one (.at 9 ((fun i j=>elg K L As (1+i) j) i)))) (lu (el:=(fun i j=>elg K L As (1+i) j)) (z:=((i:Nat):Int)) (n:=(n-1)) rfl rfl rfl rfl rfl rfl (by omega) (by omega)) ?_;refine mW rfl<|mO rfl<|mZ rfl<|mT<|cR<|mv2 rfl rfl<|mY (Gf (X:=X) (KC:=KC) (N:=N) (hok (1+i) (by omega)) (hok (A8 As i) (by omega)) hN (ED (1+i) (by omega)) (ED (A8 As i) (by omega)) ny hC hX hX1) rfl<|mW rfl<|mT<|aW rfl (fun hc2=>?_) (fun hc2=>?_)
  ·exact aA<|mW rfl<|mZ rfl<|ak<|bN<|tN<|aA<|mv2 rfl rfl<|ak<|⟨(i+1),by omega,by omega,wk rfl ⟨hs rfl,hs rfl,hs rfl,hs rfl,hs rfl,fM rfl (aG (dG (by omega))),trivial⟩ ⟨ho rfl,dX rfl (adE (agu (of_decide_eq_true hc2))),trivial⟩ rfl⟩
  ·exact aF<|bN<|tN<|aA<|mv2 rfl rfl<|ak<|⟨(i+1),by omega,by omega,wk rfl ⟨hs rfl,hs rfl,hs rfl,hs rfl,hs rfl,fM rfl (aG (dG (by omega))),trivial⟩ ⟨ho rfl,dX rfl (adE (agt (of_decide_eq_false hc2))),trivial⟩ rfl⟩
 ·exact dO<|tE<|tE<|bE<|tN<|cR<|mW rfl<|mY (aaV (hz (A8 As i)) (by omega) (by omega) (by omega)) rfl<|mZ rfl<|mW rfl<|mT<|aO<|rQ rfl (by have h0:=of_decide_eq_false hc1;obtain rfl:i=n-1:=by {omega};exact AV.le.rfl)
def KN(c:Nat→Rat):Nat→Rat:=fun i=>c (i+1)*(((i+1:Nat):Int):Rat)
theorem acG(a:Nat→Int)(j:Nat):KN (rc a) j=rc (bM a) j:=by
 show ((a (j+1):Int):Rat)*(((j+1:Nat):Int):Rat)=((bM a j:Int):Rat)
 rw [← Rat.intCast_mul];congr 1
def acw(c:Nat→Rat):Nat→Int:=fun i=>(c i).num
theorem WR{a:Lf}{K M n:Nat}{c:Nat→Rat}(ha:EN a K n c)(hM:max (K+65) 64≤M:=by first|decide|omega)(hn:n≤1000000:=by first|decide|omega)(vI:M≤10000000:=by first|decide|omega):aC Tryz.prog 77 [.one a] (.d (.one (dJ M (dg (fO c ((-1:Int):Rat)) n) (fO c ((-1:Int):Rat))))):=by
 obtain ⟨ha,za⟩:=ha;exact aC.le (dl (DV.l ha) iM) AV.le.rfl<|aN 6 [.tmp 2] Tryz.func77 rfl<|cR<|mW rfl<|mT<|cR<|mW rfl<|mY Gj rfl<|mY (Fj (wZ (K:=K) (c:=c) za) (lq 64 (((-1):Int):Rat)) (M:=(max ((K+64)+1) 64))) rfl<|mW rfl<|mT<|aO<|rQ rfl (nU (by omega) rfl (fun _ _=>rfl))
theorem ah3{a b:Lf}{K L M n m:Nat}{c d:Nat→Rat}(ha:EN a K n c)(hb:EN b L m d)(hM:max K 64+max (L+65) 64+1≤M:=by first|decide|omega)(hn:max n m≤1000000:=by first|decide|omega)(vI:M≤10000000:=by first|decide|omega):aC Tryz.prog 145 [.one a,.one b] (.d (.one (dJ M (dg (lM c (fO d ((-1:Int):Rat))) (max n m)) (lM c (fO d ((-1:Int):Rat)))))):=by
 obtain ⟨ha,za⟩:=ha;obtain ⟨hb,zb⟩:=hb;refine aC.le (dl (DV.l ha) (dl (DV.l hb) iM)) AV.le.rfl ?_;have hdl:=qQ (fO d ((-1:Int):Rat)) m;exact aN 9 [.tmp 4] Tryz.func145 rfl<|cR<|mW rfl<|mT<|cR<|mv2 rfl rfl<|mY (WR (wZ (K:=L) (c:=d) zb) (M:=(max (L+65) 64))) rfl<|mY (ahZ (wZ (K:=K) (c:=c) za) (wZ (K:=(max (L+65) 64)) (c:=(fO d ((-1:Int):Rat))) (nG (Cb zb))) (M:=(max (((max K 64)+(max (max (L+65) 64) 64))+1) 64))) rfl<|mW rfl<|mT<|aO<|rQ rfl (nU (by omega) (N9 (Tm za (nG (Cb zb))) (Tm za (Cb zb))) (fun _ _=>rfl))
theorem adz{a:Lf}{K M n:Nat}{c:Nat→Rat}(ha:EN a K n c)(hM:max (K+65) 64≤M:=by first|decide|omega)(hn:n≤1000000:=by first|decide|omega)(vI:M≤10000000:=by first|decide|omega):aC Tryz.prog 76 [.one a] (.d (.one (dJ M (dg (KN c) (n-1)) (KN c)))):=by
 obtain ⟨ha,za⟩:=ha;refine aC.le (dl (DV.l ha) iM) AV.le.rfl<|aN 23 [.tmp 2] Tryz.func76 rfl<|cR<|mW rfl<|mT<|cR<|mW rfl<|mT<|au<|au<|AW.wk (qC 3 3 49 4 (fun _ _=> .v undef) rfl rfl)<|aA<|mW rfl<|mT<|aJ<|dQ (ι:=Nat) (fun (i:Nat)=>⟨23,[(0,.d (.one (.row 4 n (aK K c)))),(4,.d (.one (.v (.int .i64 ((i+1:Nat):Int))))),(3,.own 3)],[(3,.row 49 4 i (aK M (KN c)))]⟩) (fun (i:Nat)=>i≤n-1) (fun (i:Nat)=>n-1-i) 0 (Nat.zero_le _) (wk rfl ⟨hs rfl,fM rfl (aG rfl),hs rfl,trivial⟩ ⟨dX rfl (iL),trivial⟩ rfl) ?_;rintro i hI;have hi:i≤n-1:=hI;show AW _ _ _ ⟨_,_,_⟩
 refine au<|cR<|mv4 rfl rfl rfl rfl<|mT<|aW rfl (fun hc1=>?_) (fun hc1=>?_)
 ·refine aF<|tN<|au<|aJ ?_;have hin:i+1 < n:=by have h0:=of_decide_eq_true hc1;omega
  refine cDk 9<|.cons (aB.V _ rfl)<|.cons (aB.V _ rfl)<|.cons (aB.V _ rfl)<|.cons (aB.V (.d (.one (.at 4 ((aK K c) (i+1))))) (lu (el:=(aK K c)) (z:=((i+1:Nat):Int)) (n:=n) rfl rfl rfl rfl rfl rfl (by omega) (by omega))) ?_;exact oV rfl<|.cons (aB.V _ rfl)<|oC Gj rfl<|oC (Kz (lq K (c (i+1))) (lq 64 ((((i+1:Nat):Int):Int):Rat)) (M:=(max (K+64+1) 64))) rfl<|.cons (aB.B _ rfl)<|.nil<|mA aj (id:=3) (n:=i) (m:=1) (el:=(aK M (KN c))) (el2:=(fun i' j'=>((qn (max (K+64+1) 64) ((c (i+1))*((((i+1:Nat):Int):Int):Rat)))[i'*4+j']?).getD (.v undef))) rfl rfl rfl (by show (i+1)*64≤140737488355328;omega) (by omega) rfl rfl rfl rfl rfl rfl rfl rfl rfl rfl<|mW rfl<|ak<|bN<|tN<|aA<|mv3 rfl rfl rfl<|ak<|⟨(i+1),by omega,by omega,wk rfl ⟨hs rfl,fM rfl (aG (dG (by omega))),hs rfl,trivial⟩ ⟨dX rfl (BD rfl (Nat.le_refl _) (by omega) rfl (fun _ _=>rfl)),trivial⟩ rfl⟩
 ·refine dO<|tE<|tE<|bE<|tN<|au ?_;have hie:n-1=i:=by have h0:=of_decide_eq_false hc1;omega
  subst hie;exact AW.wk (jf 3 rfl)<|aA<|mW rfl<|mY Bo rfl<|mW rfl<|mT<|aO<|rQ rfl (AV.le.rfl)
theorem alC{a:Lf}{K n:Nat}{c:Nat→Rat}(ha:EN a K n c)(hn:n≤1000000:=by decide)(hK:K≤10000000:=by decide):aC Tryz.prog 30 [.one a] (.d (.one (gQ K n (acw c)))):=by
 obtain ⟨ha,za⟩:=ha;refine aC.le (dl (DV.l ha) iM) AV.le.rfl<|aN 21 [.tmp 2] Tryz.func30 rfl<|cR<|mW rfl<|mT<|cR<|mW rfl<|mT<|au<|au<|AW.wk (qC 3 3 36 2 (fun _ _=> .v undef) rfl rfl)<|aA<|mv3 rfl rfl rfl<|mT<|aJ<|dQ (ι:=Nat) (fun (i:Nat)=>⟨21,[(0,.d (.one (.row 4 n (aK K c)))),(5,.d (.one (.row 4 n (aK K c)))),(6,.d (.one (.v (.int .i64 (n:Int))))),(7,.d (.one (.v (.int .i64 ((i:Nat):Int))))),(3,.own 3)],[(3,.row 36 2 i (bW K (acw c)))]⟩) (fun (i:Nat)=>i≤n) (fun (i:Nat)=>n-i) 0 (Nat.zero_le _) (wk rfl ⟨hs rfl,hs rfl,hs rfl,hs rfl,hs rfl,trivial⟩ ⟨dX rfl (iL),trivial⟩ rfl) ?_;rintro i hI;have hi:i≤n:=hI;show AW _ _ _ ⟨_,_,_⟩
 refine cR<|mW rfl<|mT<|au<|aW rfl (fun hc1=>?_) (fun hc1=>?_)
 ·refine aF<|tN<|au<|aJ<|au ?_;have hin:i < n:=by have h0:=of_decide_eq_true hc1;omega
  refine aA<|mv2 rfl rfl<|mT<|aA<|mv3 rfl rfl rfl<|mV aj (.d (.one (.at 4 ((aK K c) i)))) (lu (el:=(aK K c)) (z:=((i:Nat):Int)) (n:=n) rfl rfl rfl rfl rfl rfl (by omega) (by omega)) ?_;exact mv2 rfl rfl<|mY (ae8 (fG K (Rat.num (c i)))) rfl<|mB aj (.d (.one (.row 2 1 (fun i' j'=>((zn K (Rat.num (c i)))[i'*2+j']?).getD (.v undef))))) rfl<|mA aj (id:=3) (n:=i) (m:=1) (el:=(bW K (acw c))) (el2:=(fun i' j'=>((zn K (Rat.num (c i)))[i'*2+j']?).getD (.v undef))) rfl rfl rfl (by show (i+1)*32≤140737488355328;omega) (by omega) rfl rfl rfl rfl rfl rfl rfl rfl rfl rfl<|mW rfl<|ak<|bN<|tN<|aA<|mv2 rfl rfl<|ak<|⟨(i+1),by omega,by omega,wk rfl ⟨hs rfl,hs rfl,hs rfl,fM rfl (aG (dG (by omega))),hs rfl,trivial⟩ ⟨dX rfl (aij rfl (Nat.le_refl _) (Nat.le_refl _) rfl (fun _ _=>rfl)),trivial⟩ rfl⟩
 ·refine dO<|tE<|tE<|bE<|tN<|au ?_;have hie:n=i:=by have h0:=of_decide_eq_false hc1;omega
  subst hie;exact AW.wk (jf 3 rfl)<|aA<|mv2 rfl rfl<|mT<|aO<|rQ rfl (AV.le.rfl)
theorem ab9{t:TypeId}{K L:Nat}{x z:Int}(e:x=z)(h:z.natAbs < B4^L):AO.le (.box t (rn K x)) (.box t (rn L z)):=by subst e;exact iY (ZW h)
theorem Vm{t:TypeId}{K:Nat}{z:Int}(h:z=0):AO.le (.box t [.v (.slice none 0 0),.v (.bool false)]) (.box t (rn K z)):=by subst h;exact OB
theorem aej{c:Nat→Int}{n:Nat}{y:Rat}(hz:∀ i,n≤i→c i=0)(htop:c (n-1)≠0)(hn:n≠0)(hy:y=(gU c n:Rat)):(∀ i,fO (rc c) (((1:Int):Rat) / y) i=rc (xg c n) i)∧dg (fO (rc c) (((1:Int):Rat) / y)) n=n:=by
 have hip:IP n c:=⟨hz,fun _=>htop⟩;have hc0:=rX (hip.qF hn);have e:∀ i,fO (rc c) (((1:Int):Rat) / y) i=rc (xg c n) i:=fun i=>by
  have h:=Mc hz i;show (c i:Rat)*(((1:Int):Rat) / y)=(xg c n i:Rat)
  rw [hy,← h,Rat.intCast_mul];have:((1:Int):Rat)=1:=rfl;rw [this];grind
 refine ⟨e,sV (Or.inr ?_)⟩;rw [e];exact rX ((hip.pm hn).ip.l hn)
theorem ae5{K M n:Nat}{c:Nat→Int}(hz:∀ i,n≤i→c i=0)(htop:c (n-1)≠0)(hn0:n≠0)(hn:n≤1000)(hK:K≤1000000)(hM:2*K+300≤M):aC Tryz.prog 72 [.one (dJ K n (rc c))] (.lK [.agg (qn M (gU c n:Rat)),.one (dJ M n (rc (xg c n)))]):=by
 have agF:Int.natAbs 1 < B4^64:=by decide
 refine aN 75 [.cell 2 49,.tmp 3] Tryz.func72 rfl<|cR<|mO rfl<|mW rfl<|mT<|au<|cR<|mv2 rfl rfl<|mbF rfl (beq_eq_false_iff_ne.2 (by omega))<|mT<|cFs rfl<|cR<|mY ER rfl<|mO rfl<|mZ rfl<|mT<|au<|cR<|mv3 rfl rfl rfl<|mT<|aJ<|dQ (ι:=Nat) (fun (i:Nat)=>⟨75,[(0,.d (.one (.row 4 n (aK K (rc c))))),(2,.ptr 2 0),(3,.d (.one (.v (.slice none 0 0)))),(4,.ptr 4 0),(15,.d (.one (.v (.int .i64 (n:Int))))),(16,.d (.one (.v (.int .i64 ((i:Nat):Int)))))],[(2,.box 49 ([.v (.slice none 0 0),.v (.bool false),.v (.slice none 0 0),.v (.bool false)])),(4,.box 47 (rn 64 1))]⟩) (fun (i:Nat)=>i≤n) (fun (i:Nat)=>n-i) 0 (Nat.zero_le _) (wk rfl ⟨hs rfl,hs rfl,hs rfl,hs rfl,hs rfl,fM rfl (aG rfl),trivial⟩ ⟨ho rfl,ho rfl,trivial⟩ rfl) ?_;rintro i hI;have hi:i≤n:=hI;show AW _ _ _ ⟨_,_,_⟩
 refine cR<|mW rfl<|mT<|au<|aW rfl (fun hc1=>?_) (fun hc1=>?_)
 ·refine aF<|tN<|au<|aJ<|au ?_;have hin:i < n:=by have h0:=of_decide_eq_true hc1;omega
  refine aA<|mv2 rfl rfl<|mT<|cDk 15<|oV rfl<|.cons (aB.V _ rfl)<|.cons (aB.V _ rfl)<|.cons (aB.V (.d (.one (.at 4 ((aK K (rc c)) i)))) (lu (el:=(aK K (rc c))) (z:=((i:Nat):Int)) (n:=n) rfl rfl rfl rfl rfl rfl (by omega) (by omega))) ?_;refine .cons (aB.V _ rfl)<|oV rfl<|oC (ou (fG 64 1) (fG K (Rat.den ((rc c) i):Int)) (M:=(64+K))) rfl<|oV rfl<|.cons (aB.V _ rfl)<|.cons (aB.V _ rfl)<|.cons (aB.V (.d (.one (.at 4 ((aK K (rc c)) i)))) (lu (el:=(aK K (rc c))) (z:=((i:Nat):Int)) (n:=n) rfl rfl rfl rfl rfl rfl (by omega) (by omega))) ?_;exact .cons (aB.V _ rfl)<|oV rfl<|oC (Eu (fG 64 1) (fG K (Rat.den ((rc c) i):Int)) (M:=(max 64 K))) rfl<|oC (sO (fG (64+K) (1*(Rat.den ((rc c) i):Int))) (fG (max 64 K) ((Nat.gcd (Int.natAbs 1) (Int.natAbs (Rat.den ((rc c) i):Int)):Nat):Int)) (by show ((Nat.gcd (Int.natAbs 1) (Int.natAbs 1):Nat):Int)≠0;decide) ⟨1,by show (1*(1:Int))=((Nat.gcd (Int.natAbs 1) (Int.natAbs 1):Nat):Int)*1;decide⟩ (M:=(64+K))) rfl<|.nil<|mZ rfl<|ak<|bN<|tN<|aA<|mv2 rfl rfl<|ak<|⟨(i+1),by omega,by omega,wk rfl ⟨hs rfl,hs rfl,hs rfl,hs rfl,hs rfl,fM rfl (aG (dG (by omega))),trivial⟩ ⟨ho rfl,dX rfl (ab9 (by show (1*(1:Int)) / ((Nat.gcd (Int.natAbs 1) (Int.natAbs 1):Nat):Int)=1;decide) agF),trivial⟩ rfl⟩
 ·refine dO<|tE<|tE<|bE<|tN<|cR<|mO rfl<|mT<|au<|cR<|mv3 rfl rfl rfl<|mT<|aJ<|dQ (ι:=Nat) (fun (i:Nat)=>⟨75,[(0,.d (.one (.row 4 n (aK K (rc c))))),(2,.ptr 2 0),(3,.d (.one (.v (.slice none 0 0)))),(4,.ptr 4 0),(6,.ptr 6 0),(36,.d (.one (.v (.int .i64 (n:Int))))),(37,.d (.one (.v (.int .i64 ((i:Nat):Int)))))],[(2,.box 49 ([.v (.slice none 0 0),.v (.bool false),.v (.slice none 0 0),.v (.bool false)])),(4,.box 47 (rn 64 1)),(6,.box 47 (rn (K+64) ((bn c i:Nat):Int)))]⟩) (fun (i:Nat)=>i≤n) (fun (i:Nat)=>n-i) 0 (Nat.zero_le _) (wk rfl ⟨hs rfl,hs rfl,hs rfl,hs rfl,hs rfl,hs rfl,fM rfl (aG rfl),trivial⟩ ⟨ho rfl,ho rfl,dX rfl (Vm rfl),trivial⟩ rfl) ?_;rintro i hI;have hi:i≤n:=hI;show AW _ _ _ ⟨_,_,_⟩
  refine cR<|mW rfl<|mT<|au<|aW rfl (fun hc2=>?_) (fun hc2=>?_)
  ·refine aF<|tN<|au<|aJ<|au ?_;have hin:i < n:=by have h0:=of_decide_eq_true hc2;omega
   refine aA<|mv2 rfl rfl<|mT<|cDk 15<|oV rfl<|.cons (aB.V _ rfl)<|.cons (aB.V _ rfl)<|.cons (aB.V (.d (.one (.at 4 ((aK K (rc c)) i)))) (lu (el:=(aK K (rc c))) (z:=((i:Nat):Int)) (n:=n) rfl rfl rfl rfl rfl rfl (by omega) (by omega))) ?_;refine .cons (aB.V _ rfl)<|oV rfl<|oV rfl<|oC (ou (fG K (Rat.num ((rc c) i))) (fG 64 1) (M:=(K+64))) rfl<|.cons (aB.V _ rfl)<|.cons (aB.V _ rfl)<|.cons (aB.V (.d (.one (.at 4 ((aK K (rc c)) i)))) (lu (el:=(aK K (rc c))) (z:=((i:Nat):Int)) (n:=n) rfl rfl rfl rfl rfl rfl (by omega) (by omega))) ?_;exact .cons (aB.V _ rfl)<|oV rfl<|oC (sO (fG (K+64) ((Rat.num ((rc c) i))*1)) (fG K (Rat.den ((rc c) i):Int)) (by show (1:Int)≠0;decide) ⟨_,(Int.one_mul _).symm⟩ (M:=(K+64))) rfl<|oC (Eu (fG (K+64) ((bn c i:Nat):Int)) (fG (K+64) (((Rat.num ((rc c) i))*1) / (Rat.den ((rc c) i):Int))) (M:=(max (K+64) (K+64)))) rfl<|.nil<|mZ rfl<|ak<|bN<|tN<|aA<|mv2 rfl rfl<|ak<|⟨(i+1),by omega,by omega,wk rfl ⟨hs rfl,hs rfl,hs rfl,hs rfl,hs rfl,hs rfl,fM rfl (aG (dG (by omega))),trivial⟩ ⟨ho rfl,ho rfl,dX rfl (Ae (by omega) (by show ((Nat.gcd (Int.natAbs ((bn c i:Nat):Int)) (Int.natAbs (c i*1 / 1)):Nat):Int)=((Nat.gcd (bn c i) (c i).natAbs:Nat):Int);rw [Int.natAbs_natCast,Int.mul_one,Int.ediv_one])),trivial⟩ rfl⟩
  ·refine dO<|tE<|tE<|bE<|tN<|au ?_;have hin2:i=n:=by have h0:=of_decide_eq_false hc2;omega
   subst hin2;refine aA<|mv2 rfl rfl<|mY (oD (fG (K+64) ((bn c i:Nat):Int)) (fG 64 1) (M:=(max (K+64) (max 64 64)))) rfl<|mO rfl<|mZ rfl<|mT<|au<|cR<|mv3 rfl rfl rfl<|mV aj (.d (.one (.v (.int .i64 ((i-1:Nat):Int))))) (fH ((dS (by omega) (by omega)).trans (by omega)))<|mV aj (.d (.one (.at 4 ((aK K (rc c)) (i-1))))) (lu (el:=(aK K (rc c))) (z:=((i-1:Nat):Int)) (n:=i) rfl rfl rfl rfl rfl rfl (by omega) (by omega)) ?_;refine mv3 rfl rfl rfl<|mT<|aW rfl (fun hc3=>?_) (fun hc3=>?_)
   ·refine aA<|mW rfl<|mY (Ql (lq (max (K+64) (max 64 64)) (dL ((bn c i:Nat):Int) 1))) rfl<|mZ rfl<|mT<|au ?_;have hy:(-(dL (((bn c i:Nat):Int)) 1))=(gU c i:Rat):=by {unfold gU;rw [ji];have hcc:decide (c (i-1) < 0)=true:=hc3;rw [if_pos (of_decide_eq_true hcc)];try exact (Rat.intCast_neg _).symm}
    have Yx:=aej hz htop hn0 hy;have hyn:(-(dL (((bn c i:Nat):Int)) 1))≠0:=by {rw [hy];exact rX ((IP.qF ⟨hz,fun _=>htop⟩) hn0)}
    exact cDk 6<|oV rfl<|.cons (aB.V _ rfl)<|oC Gj rfl<|oV rfl<|oC (KA (lq 64 ((1:Int):Rat)) (lq (max (K+64) (max 64 64)) (-(dL ((bn c i:Nat):Int) 1))) hyn (M:=(max (64+(max (K+64) (max 64 64))+1) 64))) rfl<|oC (Fj (wZ (K:=K) (c:=(rc c)) (ql hz)) (lq (max (64+(max (K+64) (max 64 64))+1) 64) (((1:Int):Rat) / (-(dL ((bn c i:Nat):Int) 1)))) (M:=(max ((K+(max (64+(max (K+64) (max 64 64))+1) 64))+1) 64))) rfl<|.nil<|mZ rfl<|mW rfl<|mT<|aO<|rQ rfl (jq (dl (FD (uY (by omega) hy)) (dl (FD (nU (by omega) Yx.2 (fun j _=>Yx.1 j))) iM)))
   ·refine aF<|tN<|au ?_;have hy:(dL (((bn c i:Nat):Int)) 1)=(gU c i:Rat):=by {unfold gU;rw [ji];have hcc:decide (c (i-1) < 0)=false:=hc3;rw [if_neg (of_decide_eq_false hcc)];try rfl}
    have Yx:=aej hz htop hn0 hy;have hyn:(dL (((bn c i:Nat):Int)) 1)≠0:=by {rw [hy];exact rX ((IP.qF ⟨hz,fun _=>htop⟩) hn0)}
    exact cDk 6<|oV rfl<|.cons (aB.V _ rfl)<|oC Gj rfl<|oV rfl<|oC (KA (lq 64 ((1:Int):Rat)) (lq (max (K+64) (max 64 64)) (dL ((bn c i:Nat):Int) 1)) hyn (M:=(max (64+(max (K+64) (max 64 64))+1) 64))) rfl<|oC (Fj (wZ (K:=K) (c:=(rc c)) (ql hz)) (lq (max (64+(max (K+64) (max 64 64))+1) 64) (((1:Int):Rat) / (dL ((bn c i:Nat):Int) 1))) (M:=(max ((K+(max (64+(max (K+64) (max 64 64))+1) 64))+1) 64))) rfl<|.nil<|mZ rfl<|mW rfl<|mT<|aO<|rQ rfl (jq (dl (FD (uY (by omega) hy)) (dl (FD (nU (by omega) Yx.2 (fun j _=>Yx.1 j))) iM)))
theorem aa6{K n:Nat}{c:Nat→Rat}(hn:n=0):aC Tryz.prog 72 [.one (dJ K n c)] (.lK [.agg (qn 64 0),.one (.v (.slice none 0 0))]):=by
 exact aN 75 [.cell 2 49,.tmp 3] Tryz.func72 rfl<|cR<|mO rfl<|mW rfl<|mT<|au<|cR<|mv2 rfl rfl<|mbT rfl (by subst hn;rfl)<|mT<|cT rfl<|cR<|mY (DL) rfl<|mZ rfl<|mW rfl<|mT<|aO<|tR<|rQ rfl (AV.le.rfl)
theorem Db.qW{K:Nat}{a:Nat→Int}{g:Int}(h:Db K a):Db K (qW a g):=fun i=>Nat.lt_of_le_of_lt (by unfold Go.Proofs.YtapmpcgekdplfaaGreat.qW;exact Int.natAbs_ediv_le_natAbs _ _) (h i)
theorem Si{K:Nat}{c:Nat→Int}(zc:aZ c)(hK1:1≤K:=by omega)(hK:K≤1000000:=by omega):aC Tryz.prog 72 [.one (dJ K (lg c) (rc c))] (.lK [.agg (qn (2*K+300) (gU c (lg c):Rat)),.one (dJ K (lg (bC c)) (rc (bC c)))]):=by
 have hlc:=dK c;refine aC.l9 (fC Tryz.func72 rfl rfl) (p:=Db K c) (fun B w vs h=>match vs,h with | [_],⟨h1,_⟩=>lW zc.lg h1) (fun hb=>?_)
 by_cases h0:lg c=0
 ·refine aC.le (dl DV.same iM) (jq (dl (FD (uY (by omega) ?_)) (dl (FD (Ec (by rw [dI zc];exact h0))) iM))) (aa6 (K:=K) (n:=lg c) (c:=rc c) h0)
  unfold gU;rw [h0];show (0:Rat)=_;split <;> rfl
 ·refine aC.le (dl DV.same iM) (jq (dl (FD AV.le.rfl) (dl (FD ?_) iM))) (ae5 (K:=K) (M:=2*K+300) zc.lg (kG h0) h0 (by omega) hK (Nat.le_refl _))
  rw [dI zc];exact iP hK1 hb.qW
theorem oW{K:Nat}{c:Nat→Int}(zc:aZ c)(hK1:1≤K:=by omega)(hK:K≤1000000:=by omega):aC Tryz.prog 36 [.one (dJ K (lg c) (rc c))] (.d (.one (dJ K (lg (bC c)) (rc (bC c))))):=by
 exact aN 11 [.tmp 2] Tryz.func36 rfl<|cR<|mW rfl<|mT<|cR<|mW rfl<|mY (Si zc) rfl<|mv3 rfl rfl rfl<|mO rfl<|mZ rfl<|mW rfl<|mT<|cR<|mv2 rfl rfl<|mT<|aO<|rQ rfl (AV.le.rfl)
theorem Qr{K L:Nat}{x y:Int}(hx:x.natAbs < B4^K)(hy:y.natAbs < B4^L):(x*y).natAbs < B4^(K+L):=by
 rw [Int.natAbs_mul,Nat.pow_add];exact Nat.mul_lt_mul'' hx hy
/-- One step: |l| r - top t^k d. -/
def Ef(d r:Nat→Int):Nat→Int:=oK (iK r ((d (lg d-1)).natAbs:Int)) (aX (mF (if d (lg d-1) < 0 then -(r (lg r-1)) else r (lg r-1)) (lg r-lg d)) d)
theorem Eh(d r:Nat→Int)(j:Nat):Ef d r j=r j*((d (lg d-1)).natAbs:Int)-(if lg r-lg d≤j then (if d (lg d-1) < 0 then -(r (lg r-1)) else r (lg r-1))*d (j-(lg r-lg d)) else 0):=by
 unfold Ef oK iK;rw [nR]
structure Wy(c d:Nat→Int)(K L s:Nat)(r:Nat→Int):Prop where
 z:aZ r
 b:Db (K+s*(L+1)) r
 eq:∃ (Q:Fn) (κ:Rat),Po Q∧0 < κ∧∀ x,FF c x=Q x*FF d x+κ*FF r x
 l:lg r+s≤lg c
 m:s≤lg c+1-lg d
theorem Wy.start{c d:Nat→Int}{K L:Nat}(z:aZ c)(h:Db K c):Wy c d K L 0 c:=⟨z,by rw [Nat.zero_mul];exact h,⟨fun _=>0,1,bT 0,by grind,fun x=>by grind⟩,Nat.le_refl _,Nat.zero_le _⟩
theorem Wy.step{c d r:Nat→Int}{K L s:Nat}(h:Wy c d K L s r)(zd:aZ d)(bd:Db L d)(hd0:lg d≠0)(hle:lg d≤lg r)(hc:lg c≤19):Wy c d K L (s+1) (Ef d r)∧lg (Ef d r) < lg r:=by
 obtain ⟨l,hl⟩:∃ l,l=d (lg d-1):=⟨_,rfl⟩
 have hl0:l≠0:=by rw [hl];exact kG hd0
 obtain ⟨tp,htp⟩:∃ tp,tp=if l < 0 then -(r (lg r-1)) else r (lg r-1):=⟨_,rfl⟩
 have at_:∀ j,Ef d r j=r j*(l.natAbs:Int)-(if lg r-lg d≤j then tp*d (j-(lg r-lg d)) else 0):=fun j=>by rw [Eh,htp,hl]
 have hz:∀ j,lg r-1≤j→Ef d r j=0:=fun j hj=>by
  rw [at_,if_pos (by omega)]
  by_cases hj2:j=lg r-1
  ·have e1:j-(lg r-lg d)=lg d-1:=by omega
   rw [e1,← hl,hj2,htp];split
   ·have:(l.natAbs:Int)= -l:=by omega
    rw [this,Int.neg_mul_comm];omega
   ·have:(l.natAbs:Int)=l:=by omega
    rw [this];omega
  ·rw [h.z.lg j (by omega),zd.lg _ (by omega)];simp
 have zr:aZ (Ef d r):=fun j hj=>hz j (by have:=dK r;omega)
 have hlt:lg (Ef d r)≤lg r-1:=iZ zr hz;have hls:=h.l;refine ⟨⟨zr,fun j=>?_,?_,by omega,by omega⟩,by omega⟩
 ·have hb1:=Qr (h.b j) (y:=(l.natAbs:Int)) (L:=L) (by rw [hl,Int.natAbs_natCast];exact bd _)
  have htb:tp.natAbs < B4^(K+s*(L+1)):=by
   have:=h.b (lg r-1);rw [htp];split
   ·rw [Int.natAbs_neg];exact this
   ·exact this
  have hb2:=Qr htb (bd (j-(lg r-lg d)));have e:B4^(K+(s+1)*(L+1))=B4^(K+s*(L+1)+L)*B4:=by rw [← Nat.pow_succ];congr 1;rw [Nat.add_mul,Nat.one_mul];omega
  rw [e,at_];have hB:(2:Nat)≤B4:=by decide
  have h3:B4^(K+s*(L+1)+L)*2≤B4^(K+s*(L+1)+L)*B4:=Nat.mul_le_mul_left _ hB;split
  ·omega
  ·omega
 ·obtain ⟨Q,κ,pQ,hκ,he⟩:=h.eq
  have hln:(0:Rat) < ((l.natAbs:Nat):Rat):=by exact_mod_cast (by omega:0 < l.natAbs)
  have hF:∀ x,FF (Ef d r) x=FF r x*((l.natAbs:Nat):Rat)-((tp:Rat)*x^(lg r-lg d))*FF d x:=fun x=>by
   have:=aah (r:=r) (d:=d) (nb:=lg d) (i:=lg r-lg d) (l:=(l.natAbs:Int)) (x:=tp) zd.lg zd (by omega) x;rw [htp,hl] at this;unfold Ef;rw [this,htp,hl];rfl
  refine ⟨fun x=>Q x+κ / ((l.natAbs:Nat):Rat)*((tp:Rat)*x^(lg r-lg d)),κ / ((l.natAbs:Nat):Rat),pQ.add ((bT _).mul (Uf _ _)),?_,fun x=>?_⟩
  ·apply Classical.byContradiction
   intro hn;have h4:=Rat.mul_le_mul_of_nonneg_right (show κ / ((l.natAbs:Nat):Rat)≤0 by grind) (show 0≤((l.natAbs:Nat):Rat) by grind);have h5:κ / ((l.natAbs:Nat):Rat)*((l.natAbs:Nat):Rat)=κ:=by grind
   grind
  ·rw [he x,hF x]
   have h5:κ / ((l.natAbs:Nat):Rat)*((l.natAbs:Nat):Rat)=κ:=by grind
   grind
structure Qe(c d:Nat→Int)(M:Nat)(r:Nat→Int):Prop where
 z:aZ r
 b:Db M r
 eq:∃ (Q:Fn) (κ:Rat),Po Q∧0 < κ∧∀ x,FF c x=Q x*FF d x+κ*FF r x
 lt:lg r < lg d
theorem Wy.fin{c d r:Nat→Int}{K L M s:Nat}(h:Wy c d K L s r)(hlt:lg r < lg d)(hM:K+(lg c+1-lg d)*(L+1)≤M):Qe c d M r:=⟨h.z,h.b.mono (by
 have:=Nat.mul_le_mul_right (L+1) h.m;omega),h.eq,hlt⟩
theorem Wy.bd{c d r:Nat→Int}{K L M s:Nat}(h:Wy c d K L s r)(hM:K+(lg c+1-lg d)*(L+1)≤M):Db M r:=h.b.mono (by
 have:=Nat.mul_le_mul_right (L+1) h.m;omega)
theorem YW{t:TypeId}{L:Nat}{l z:Int}(h:z=l):AO.le (.box t [dn L (Int.natAbs z),.v (.bool false)]) (.box t (rn L ((l.natAbs:Nat):Int))):=by
 subst h;have e:rn L ((z.natAbs:Nat):Int)= [dn L (Int.natAbs z),.v (.bool false)]:=by
  show [dn L (Int.natAbs ((z.natAbs:Nat):Int)),.v (.bool (decide (((z.natAbs:Nat):Int) < 0)))]=_
  rw [Int.natAbs_natCast,decide_eq_false (by omega)]
 rw [e];exact fun _ _ _ _ h=>h
theorem aeo{d r:Nat→Int}(zr:aZ r)(zd:aZ d)(hle:lg d≤lg r):∀ j,lg r≤j→Ef d r j=0:=fun j hj=>by
 rw [Eh,zr.lg j hj];split
 ·rw [zd.lg (j-(lg r-lg d)) (by omega)];simp
 ·simp
theorem uj{c:Nat→Int}{n:Nat}(h:∀ i,n≤i→c i=0)(z:aZ c):dg (rc c) n=lg c:=(SS n).trans (kF h z)
theorem oZ{K L n m:Nat}{c:Nat→Int}(hn:n=m)(hL:1≤L)(h:Db L c):AV.le (.d (.one (dJ K n (rc c)))) (.d (.one (dJ L m (rc c)))):=by subst hn;exact iP hL h
theorem Qj{K L M:Nat}{c d:Nat→Int}(zc:aZ c)(zd:aZ d)(hd0:lg d≠0)(hc:lg c≤19)(hK:K≤100000)(hL:L≤1000000)(hM0:1≤M)(hM:K+(lg c+1-lg d)*(L+1)≤M)(hM1:M≤1000000:=by omega):aC Tryz.prog 78 [.one (dJ K (lg c) (rc c)),.one (dJ L (lg d) (rc d))] (.d (.one (aY (Qe c d M) (fun r=>dJ M (lg r) (rc r))))):=by
 have hlc:=dK c;have hld:=dK d;refine aC.l9 (fC Tryz.func78 rfl rfl) (p:=Db K c∧Db L d) (fun B w vs h=>match vs,h with | [_,_],⟨h1,h2,_⟩=>⟨lW zc.lg h1,lW zd.lg h2⟩) (fun hb=>?_);obtain ⟨hbc,hbd⟩:=hb;refine aN 78 [.tmp 4] Tryz.func78 rfl<|cR<|mW rfl<|mT<|cR<|mv3 rfl rfl rfl<|mV aj (.d (.one (.v (.int .i64 ((lg d-1:Nat):Int))))) (fH ((dS (by omega) (by omega)).trans (by omega)))<|mV aj (.d (.one (.at 4 ((aK L (rc d)) (lg d-1))))) (lu (el:=(aK L (rc d))) (z:=((lg d-1:Nat):Int)) (n:=(lg d)) rfl rfl rfl rfl rfl rfl (by omega) (by omega)) ?_;refine mv2 rfl rfl<|mO rfl<|mZ rfl<|mT<|cR<|mW rfl<|mO rfl<|mZ rfl<|mT<|cR<|mW rfl<|mZ rfl<|mT<|au<|aJ<|wK [6,5,4,1,0] [6,5] rfl rfl<|wB [6,5,4,1,0] [6] 5 (.box 47 (rn L (d (lg d-1)))) rfl rfl (Ae (Nat.le_refl _) rfl) rfl<|wB [6,5,4,1,0] [5] 6 (.box 47 (rn L ((Int.natAbs (d (lg d-1)):Nat):Int))) rfl rfl (YW rfl) rfl<|dQ (ι:=Nat×(Nat→Int)) (fun (p:Nat×(Nat→Int))=>match p with | (s,r)=>⟨78,[(1,.d (.one (.row 4 (lg d) (aK L (rc d))))),(4,.d (.one (.v (.slice none 0 0)))),(5,.ptr 5 0),(6,.ptr 6 0),(0,.d (.one (.row 4 (lg r) (aK M (rc r)))))],[(5,.box 47 (rn L (d (lg d-1)))),(6,.box 47 (rn L ((Int.natAbs (d (lg d-1)):Nat):Int)))]⟩) (fun (p:Nat×(Nat→Int))=>match p with | (s,r)=>Wy c d K L s r) (fun (p:Nat×(Nat→Int))=>match p with | (s,r)=>lg r) (0,c) (.start zc hbc) (wk rfl ⟨hs rfl,hs rfl,hs rfl,hs rfl,fM rfl (nU (by omega) rfl (fun _ _=>rfl)),trivial⟩ ⟨ho rfl,ho rfl,trivial⟩ rfl) ?_;rintro ⟨s,r⟩ hI;have hI:Wy c d K L s r:=hI;show AW _ _ _ ⟨_,_,_⟩
 refine au<|cR<|mv5 rfl rfl rfl rfl rfl<|mT<|aW rfl (fun hc1=>?_) (fun hc1=>?_)
 ·refine aF<|tN<|aJ<|au ?_;have hle:lg d≤lg r:=by have h0:=of_decide_eq_true hc1;omega
  have hlr:=dK r;obtain ⟨hN,hlt⟩:=hI.step zd hbd hd0 hle hc;refine aA<|mv4 rfl rfl rfl rfl<|mV aj (.d (.one (.v (.int .i64 ((lg r-lg d:Nat):Int))))) (fH ((dS (by omega) (by omega)).trans (by omega)))<|mW rfl<|mT<|cR<|mv3 rfl rfl rfl<|mV aj (.d (.one (.v (.int .i64 ((lg r-1:Nat):Int))))) (fH ((dS (by omega) (by omega)).trans (by omega)))<|mV aj (.d (.one (.at 4 ((aK M (rc r)) (lg r-1))))) (lu (el:=(aK M (rc r))) (z:=((lg r-1:Nat):Int)) (n:=(lg r)) rfl rfl rfl rfl rfl rfl (by omega) (by omega)) ?_;refine mv2 rfl rfl<|mO rfl<|mZ rfl<|mT<|au<|cR<|mv2 rfl rfl<|mT<|aW rfl (fun hc2=>?_) (fun hc2=>?_)
  ·refine aA<|mW rfl<|mY (NJ (fG M (Rat.num ((rc r) (lg r-1)))) (M:=M)) rfl<|mZ rfl<|mT<|au<|wK [8,7,0,6,5,4,1] [8,6,5] rfl rfl<|wB [8,7,0,6,5,4,1] [6,5] 8 (.box 47 (rn M (if d (lg d-1) < 0 then -(r (lg r-1)) else r (lg r-1)))) rfl rfl (Ae (by omega) (by rw [if_pos (of_decide_eq_true hc2)];rfl)) rfl<|aA<|mW rfl<|mT<|au<|au ?_;have hO:=hI;refine AW.wk (qC 9 9 49 4 (fun _ _=> .v undef) rfl rfl)<|aA<|mv3 rfl rfl rfl<|mT<|aJ<|dQ (ι:=Nat) (fun (i:Nat)=>⟨78,[(0,.d (.one (.row 4 (lg r) (aK M (rc r))))),(1,.d (.one (.row 4 (lg d) (aK L (rc d))))),(4,.d (.one (.v (.slice none 0 0)))),(5,.ptr 5 0),(6,.ptr 6 0),(7,.d (.one (.v (.int .i64 ((lg r-lg d:Nat):Int))))),(8,.ptr 8 0),(43,.d (.one (.v (.int .i64 ((lg r:Nat):Int))))),(9,.own 9),(44,.d (.one (.v (.int .i64 ((i:Nat):Int)))))],[(5,.box 47 (rn L (d (lg d-1)))),(6,.box 47 (rn L ((Int.natAbs (d (lg d-1)):Nat):Int))),(8,.box 47 (rn M (if d (lg d-1) < 0 then -(r (lg r-1)) else r (lg r-1)))),(9,.row 49 4 i (aK (M+L+70) (rc (Ef d r))))]⟩) (fun (i:Nat)=>i≤lg r) (fun (i:Nat)=>lg r-i) 0 (Nat.zero_le _) (wk rfl ⟨hs rfl,hs rfl,hs rfl,hs rfl,hs rfl,hs rfl,hs rfl,hs rfl,hs rfl,fM rfl (aG rfl),trivial⟩ ⟨ho rfl,ho rfl,ho rfl,dX rfl (iL),trivial⟩ rfl) ?_;rintro i hI;have hi:i≤lg r:=hI;show AW _ _ _ ⟨_,_,_⟩
   refine cR<|mW rfl<|mT<|au<|aW rfl (fun hc3=>?_) (fun hc3=>?_)
   ·refine aF<|tN<|au<|aJ<|au ?_;have hin:i < lg r:=by have h0:=of_decide_eq_true hc3;omega
    refine aA<|mv2 rfl rfl<|mT<|au<|cDk 8<|.cons (aB.V _ rfl)<|.cons (aB.V _ rfl)<|.cons (aB.V (.d (.one (.at 4 ((aK M (rc r)) i)))) (lu (el:=(aK M (rc r))) (z:=((i:Nat):Int)) (n:=(lg r)) rfl rfl rfl rfl rfl rfl (by omega) (by omega))) ?_;refine .cons (aB.V _ rfl)<|oV rfl<|oV rfl<|oC (ou (fG M (Rat.num ((rc r) i))) (fG L ((Int.natAbs (d (lg d-1)):Nat):Int)) (M:=(M+L))) rfl<|.cons (aB.N (.box 47 ([.v (.slice none 0 0),.v (.bool false)])) rfl 11 rfl rfl)<|.nil<|mZ rfl<|mT<|au<|cR<|mv3 rfl rfl rfl<|mT<|aW rfl (fun hc4=>?_) (fun hc4=>?_)
    ·have hki:lg r-lg d≤i:=by have h0:=of_decide_eq_true hc4;omega
     refine cDk 11<|oV rfl<|oV rfl<|.cons (aB.V _ rfl)<|.cons (aB.V _ rfl)<|.cons (aB.V _ rfl)<|.cons (aB.V (.d (.one (.v (.int .i64 ((i-(lg r-lg d):Nat):Int))))) (fH ((dS (by omega) (by omega)).trans (by omega))))<|.cons (aB.V (.d (.one (.at 4 ((aK L (rc d)) (i-(lg r-lg d)))))) (lu (el:=(aK L (rc d))) (z:=((i-(lg r-lg d):Nat):Int)) (n:=(lg d)) rfl rfl rfl rfl rfl rfl (by omega) (by omega))) ?_;exact .cons (aB.V _ rfl)<|oV rfl<|oC (ou (fG M (if d (lg d-1) < 0 then -(r (lg r-1)) else r (lg r-1))) (fG L (Rat.num ((rc d) (i-(lg r-lg d))))) (M:=(M+L))) rfl<|oC (WY (fG (M+L) ((Rat.num ((rc r) i))*((Int.natAbs (d (lg d-1)):Nat):Int))) (fG (M+L) ((if d (lg d-1) < 0 then -(r (lg r-1)) else r (lg r-1))*(Rat.num ((rc d) (i-(lg r-lg d)))))) (M:=(max (M+L) (M+L)+1))) rfl<|.nil<|mZ rfl<|mT<|cDk 5<|.cons (aB.V _ rfl)<|oV rfl<|oC ER rfl<|oC (oD (fG (max (M+L) (M+L)+1) (((Rat.num ((rc r) i))*((Int.natAbs (d (lg d-1)):Nat):Int))-((if d (lg d-1) < 0 then -(r (lg r-1)) else r (lg r-1))*(Rat.num ((rc d) (i-(lg r-lg d))))))) (fG 64 1) (M:=(max (max (M+L) (M+L)+1) (max 64 64)))) rfl<|.cons (aB.B _ rfl)<|.nil<|mA aj (id:=9) (n:=i) (m:=1) (el:=(aK (M+L+70) (rc (Ef d r)))) (el2:=(fun i' j'=>((qn (max (max (M+L) (M+L)+1) (max 64 64)) (dL (((Rat.num ((rc r) i))*((Int.natAbs (d (lg d-1)):Nat):Int))-((if d (lg d-1) < 0 then -(r (lg r-1)) else r (lg r-1))*(Rat.num ((rc d) (i-(lg r-lg d)))))) 1))[i'*4+j']?).getD (.v undef))) rfl rfl rfl (by show (i+1)*64≤140737488355328;omega) (by omega) rfl rfl rfl rfl rfl rfl rfl rfl rfl rfl<|mW rfl<|ak<|bN<|tN<|aA<|mv2 rfl rfl<|ak<|⟨(i+1),by omega,by omega,wk rfl ⟨hs rfl,hs rfl,hs rfl,hs rfl,hs rfl,hs rfl,hs rfl,hs rfl,hs rfl,fM rfl (aG (dG (by omega))),trivial⟩ ⟨ho rfl,ho rfl,ho rfl,dX rfl (BD (q:=(dL (((Rat.num ((rc r) i))*((Int.natAbs (d (lg d-1)):Nat):Int))-((if d (lg d-1) < 0 then -(r (lg r-1)) else r (lg r-1))*(Rat.num ((rc d) (i-(lg r-lg d)))))) 1)) (M:=(max (max (M+L) (M+L)+1) (max 64 64))) rfl (Nat.le_refl _) (by omega) (by rw [ji];show _=((Ef d r i:Int):Rat);rw [Eh,if_pos (hki)];rfl) (fun _ _=>rfl)),trivial⟩ rfl⟩
    ·refine aF<|tN ?_;have hki:¬ lg r-lg d≤i:=by have h0:=of_decide_eq_false hc4;omega
     exact cDk 5<|.cons (aB.V _ rfl)<|oV rfl<|oC ER rfl<|oC (oD (fG (M+L) ((Rat.num ((rc r) i))*((Int.natAbs (d (lg d-1)):Nat):Int))) (fG 64 1) (M:=(max (M+L) (max 64 64)))) rfl<|.cons (aB.B _ rfl)<|.nil<|mA aj (id:=9) (n:=i) (m:=1) (el:=(aK (M+L+70) (rc (Ef d r)))) (el2:=(fun i' j'=>((qn (max (M+L) (max 64 64)) (dL ((Rat.num ((rc r) i))*((Int.natAbs (d (lg d-1)):Nat):Int)) 1))[i'*4+j']?).getD (.v undef))) rfl rfl rfl (by show (i+1)*64≤140737488355328;omega) (by omega) rfl rfl rfl rfl rfl rfl rfl rfl rfl rfl<|mW rfl<|ak<|bN<|tN<|aA<|mv2 rfl rfl<|ak<|⟨(i+1),by omega,by omega,wk rfl ⟨hs rfl,hs rfl,hs rfl,hs rfl,hs rfl,hs rfl,hs rfl,hs rfl,hs rfl,fM rfl (aG (dG (by omega))),trivial⟩ ⟨ho rfl,ho rfl,ho rfl,dX rfl (BD (q:=(dL ((Rat.num ((rc r) i))*((Int.natAbs (d (lg d-1)):Nat):Int)) 1)) (M:=(max (M+L) (max 64 64))) rfl (Nat.le_refl _) (by omega) (by rw [ji];show _=((Ef d r i:Int):Rat);rw [Eh,if_neg (hki)];rw [Int.sub_zero];rfl) (fun _ _=>rfl)),trivial⟩ rfl⟩
   ·refine dO<|tE<|tE<|bE<|tN ?_;have hie:i=lg r:=by have h0:=of_decide_eq_false hc3;omega
    subst hie;exact AW.wk (jf 9 rfl)<|aA<|mW rfl<|mY Bo rfl<|mW rfl<|ak<|bN<|⟨((s+1),(Ef d r)),hN,by show lg (Ef d r) < lg r;exact hlt,wk rfl ⟨hs rfl,hs rfl,hs rfl,hs rfl,fM rfl (oZ (uj (aeo hO.z zd hle) hN.z) (by omega) (hN.bd hM)),trivial⟩ ⟨ho rfl,ho rfl,trivial⟩ rfl⟩
  ·refine aF<|tN<|au<|wK [8,7,0,6,5,4,1] [8,6,5] rfl rfl<|wB [8,7,0,6,5,4,1] [6,5] 8 (.box 47 (rn M (if d (lg d-1) < 0 then -(r (lg r-1)) else r (lg r-1)))) rfl rfl (Ae (by omega) (by rw [if_neg (of_decide_eq_false hc2)];rfl)) rfl<|aA<|mW rfl<|mT<|au<|au ?_;have hO:=hI;refine AW.wk (qC 9 9 49 4 (fun _ _=> .v undef) rfl rfl)<|aA<|mv3 rfl rfl rfl<|mT<|aJ<|dQ (ι:=Nat) (fun (i:Nat)=>⟨78,[(0,.d (.one (.row 4 (lg r) (aK M (rc r))))),(1,.d (.one (.row 4 (lg d) (aK L (rc d))))),(4,.d (.one (.v (.slice none 0 0)))),(5,.ptr 5 0),(6,.ptr 6 0),(7,.d (.one (.v (.int .i64 ((lg r-lg d:Nat):Int))))),(8,.ptr 8 0),(43,.d (.one (.v (.int .i64 ((lg r:Nat):Int))))),(9,.own 9),(44,.d (.one (.v (.int .i64 ((i:Nat):Int)))))],[(5,.box 47 (rn L (d (lg d-1)))),(6,.box 47 (rn L ((Int.natAbs (d (lg d-1)):Nat):Int))),(8,.box 47 (rn M (if d (lg d-1) < 0 then -(r (lg r-1)) else r (lg r-1)))),(9,.row 49 4 i (aK (M+L+70) (rc (Ef d r))))]⟩) (fun (i:Nat)=>i≤lg r) (fun (i:Nat)=>lg r-i) 0 (Nat.zero_le _) (wk rfl ⟨hs rfl,hs rfl,hs rfl,hs rfl,hs rfl,hs rfl,hs rfl,hs rfl,hs rfl,fM rfl (aG rfl),trivial⟩ ⟨ho rfl,ho rfl,ho rfl,dX rfl (iL),trivial⟩ rfl) ?_;rintro i hI;have hi:i≤lg r:=hI;show AW _ _ _ ⟨_,_,_⟩
   refine cR<|mW rfl<|mT<|au<|aW rfl (fun hc5=>?_) (fun hc5=>?_)
   ·refine aF<|tN<|au<|aJ<|au ?_;have hin:i < lg r:=by have h0:=of_decide_eq_true hc5;omega
    refine aA<|mv2 rfl rfl<|mT<|au<|cDk 8<|.cons (aB.V _ rfl)<|.cons (aB.V _ rfl)<|.cons (aB.V (.d (.one (.at 4 ((aK M (rc r)) i)))) (lu (el:=(aK M (rc r))) (z:=((i:Nat):Int)) (n:=(lg r)) rfl rfl rfl rfl rfl rfl (by omega) (by omega))) ?_;refine .cons (aB.V _ rfl)<|oV rfl<|oV rfl<|oC (ou (fG M (Rat.num ((rc r) i))) (fG L ((Int.natAbs (d (lg d-1)):Nat):Int)) (M:=(M+L))) rfl<|.cons (aB.N (.box 47 ([.v (.slice none 0 0),.v (.bool false)])) rfl 11 rfl rfl)<|.nil<|mZ rfl<|mT<|au<|cR<|mv3 rfl rfl rfl<|mT<|aW rfl (fun hc6=>?_) (fun hc6=>?_)
    ·have hki:lg r-lg d≤i:=by have h0:=of_decide_eq_true hc6;omega
     refine cDk 11<|oV rfl<|oV rfl<|.cons (aB.V _ rfl)<|.cons (aB.V _ rfl)<|.cons (aB.V _ rfl)<|.cons (aB.V (.d (.one (.v (.int .i64 ((i-(lg r-lg d):Nat):Int))))) (fH ((dS (by omega) (by omega)).trans (by omega))))<|.cons (aB.V (.d (.one (.at 4 ((aK L (rc d)) (i-(lg r-lg d)))))) (lu (el:=(aK L (rc d))) (z:=((i-(lg r-lg d):Nat):Int)) (n:=(lg d)) rfl rfl rfl rfl rfl rfl (by omega) (by omega))) ?_;exact .cons (aB.V _ rfl)<|oV rfl<|oC (ou (fG M (if d (lg d-1) < 0 then -(r (lg r-1)) else r (lg r-1))) (fG L (Rat.num ((rc d) (i-(lg r-lg d))))) (M:=(M+L))) rfl<|oC (WY (fG (M+L) ((Rat.num ((rc r) i))*((Int.natAbs (d (lg d-1)):Nat):Int))) (fG (M+L) ((if d (lg d-1) < 0 then -(r (lg r-1)) else r (lg r-1))*(Rat.num ((rc d) (i-(lg r-lg d)))))) (M:=(max (M+L) (M+L)+1))) rfl<|.nil<|mZ rfl<|mT<|cDk 5<|.cons (aB.V _ rfl)<|oV rfl<|oC ER rfl<|oC (oD (fG (max (M+L) (M+L)+1) (((Rat.num ((rc r) i))*((Int.natAbs (d (lg d-1)):Nat):Int))-((if d (lg d-1) < 0 then -(r (lg r-1)) else r (lg r-1))*(Rat.num ((rc d) (i-(lg r-lg d))))))) (fG 64 1) (M:=(max (max (M+L) (M+L)+1) (max 64 64)))) rfl<|.cons (aB.B _ rfl)<|.nil<|mA aj (id:=9) (n:=i) (m:=1) (el:=(aK (M+L+70) (rc (Ef d r)))) (el2:=(fun i' j'=>((qn (max (max (M+L) (M+L)+1) (max 64 64)) (dL (((Rat.num ((rc r) i))*((Int.natAbs (d (lg d-1)):Nat):Int))-((if d (lg d-1) < 0 then -(r (lg r-1)) else r (lg r-1))*(Rat.num ((rc d) (i-(lg r-lg d)))))) 1))[i'*4+j']?).getD (.v undef))) rfl rfl rfl (by show (i+1)*64≤140737488355328;omega) (by omega) rfl rfl rfl rfl rfl rfl rfl rfl rfl rfl<|mW rfl<|ak<|bN<|tN<|aA<|mv2 rfl rfl<|ak<|⟨(i+1),by omega,by omega,wk rfl ⟨hs rfl,hs rfl,hs rfl,hs rfl,hs rfl,hs rfl,hs rfl,hs rfl,hs rfl,fM rfl (aG (dG (by omega))),trivial⟩ ⟨ho rfl,ho rfl,ho rfl,dX rfl (BD (q:=(dL (((Rat.num ((rc r) i))*((Int.natAbs (d (lg d-1)):Nat):Int))-((if d (lg d-1) < 0 then -(r (lg r-1)) else r (lg r-1))*(Rat.num ((rc d) (i-(lg r-lg d)))))) 1)) (M:=(max (max (M+L) (M+L)+1) (max 64 64))) rfl (Nat.le_refl _) (by omega) (by rw [ji];show _=((Ef d r i:Int):Rat);rw [Eh,if_pos (hki)];rfl) (fun _ _=>rfl)),trivial⟩ rfl⟩
    ·refine aF<|tN ?_;have hki:¬ lg r-lg d≤i:=by have h0:=of_decide_eq_false hc6;omega
     exact cDk 5<|.cons (aB.V _ rfl)<|oV rfl<|oC ER rfl<|oC (oD (fG (M+L) ((Rat.num ((rc r) i))*((Int.natAbs (d (lg d-1)):Nat):Int))) (fG 64 1) (M:=(max (M+L) (max 64 64)))) rfl<|.cons (aB.B _ rfl)<|.nil<|mA aj (id:=9) (n:=i) (m:=1) (el:=(aK (M+L+70) (rc (Ef d r)))) (el2:=(fun i' j'=>((qn (max (M+L) (max 64 64)) (dL ((Rat.num ((rc r) i))*((Int.natAbs (d (lg d-1)):Nat):Int)) 1))[i'*4+j']?).getD (.v undef))) rfl rfl rfl (by show (i+1)*64≤140737488355328;omega) (by omega) rfl rfl rfl rfl rfl rfl rfl rfl rfl rfl<|mW rfl<|ak<|bN<|tN<|aA<|mv2 rfl rfl<|ak<|⟨(i+1),by omega,by omega,wk rfl ⟨hs rfl,hs rfl,hs rfl,hs rfl,hs rfl,hs rfl,hs rfl,hs rfl,hs rfl,fM rfl (aG (dG (by omega))),trivial⟩ ⟨ho rfl,ho rfl,ho rfl,dX rfl (BD (q:=(dL ((Rat.num ((rc r) i))*((Int.natAbs (d (lg d-1)):Nat):Int)) 1)) (M:=(max (M+L) (max 64 64))) rfl (Nat.le_refl _) (by omega) (by rw [ji];show _=((Ef d r i:Int):Rat);rw [Eh,if_neg (hki)];rw [Int.sub_zero];rfl) (fun _ _=>rfl)),trivial⟩ rfl⟩
   ·refine dO<|tE<|tE<|bE<|tN ?_;have hie:i=lg r:=by have h0:=of_decide_eq_false hc5;omega
    subst hie;exact AW.wk (jf 9 rfl)<|aA<|mW rfl<|mY Bo rfl<|mW rfl<|ak<|bN<|⟨((s+1),(Ef d r)),hN,by show lg (Ef d r) < lg r;exact hlt,wk rfl ⟨hs rfl,hs rfl,hs rfl,hs rfl,fM rfl (oZ (uj (aeo hO.z zd hle) hN.z) (by omega) (hN.bd hM)),trivial⟩ ⟨ho rfl,ho rfl,trivial⟩ rfl⟩
 ·exact dO<|tE<|tE<|bE<|tN<|cR<|mv2 rfl rfl<|mT<|aO<|rQ rfl (kR (Q:=Qe c d M) (L:=fun r=>dJ M (lg r) (rc r)) r (hI.fin (by have h0:=of_decide_eq_false hc1;omega) hM))
structure RpP(c d:Nat→Int)(M:Nat)(R:Nat→Int):Prop where
 z:aZ R
 b:Db M R
 lt:lg R < lg d
 idp:Bf (FF c) (FF d) (FF d) (FF R)
 pm:lg R≠0→Pm (lg R) R
theorem Qe.xg{c d r:Nat→Int}{M:Nat}(h:Qe c d M r)(zd:aZ d):RpP c d M (bC r):=by
 obtain ⟨Q,κ,pQ,hκ,e⟩:=h.eq;obtain ⟨s,s',h1,h2⟩:=F9 h.z;exact ⟨fZ h.z,h.b.qW,by rw [dI h.z];exact h.lt,(Bf.step (k:=κ) pQ (by grind) e).trans (Bf.scale (s:=1) (s':=1) (fun x=>by grind) h1 (fun x=>by grind) h2),fun h0=>jM h.z (by rw [← dI h.z];exact h0)⟩
theorem nZ{a:Nat→Int}(za:aZ a)(h:lg a≠0→Pm (lg a) a):bC a=a:=by
 by_cases h0:lg a=0
 ·have h1:=(gW za).1 h0
  funext i;unfold bC xg qW;rw [h1 i];simp
 ·have p:=h h0
  have e:gU a (lg a)=1:=by unfold gU;rw [p.one,if_neg (by have:=p.lead;omega)];rfl
  funext i;unfold bC xg qW;rw [e];simp
theorem aC.exl{α:Type}{P:Program}{f:FuncId}{Q:α→Prop}{L:α→Lf}{res:AV}(hen:∀ vs w,(callFunc f vs).run P w= .ok (.enter f vs) w)(h:∀ x,Q x→aC P f [.one (L x)] res):aC P f [.one (aY Q L)] res:=
 ⟨hen,fun B w vs hB hd=>match vs,hd with | [v],⟨⟨x,hq,hl⟩,_⟩=>(h x hq).go B w [v] hB ⟨hl,trivial⟩⟩
theorem Sj{c d:Nat→Int}{M:Nat}(zd:aZ d)(h1:1≤M:=by omega)(hM:M≤1000000:=by omega):aC Tryz.prog 36 [.one (aY (Qe c d M) (fun r=>dJ M (lg r) (rc r)))] (.d (.one (aY (RpP c d M) (fun r=>dJ M (lg r) (rc r))))):=
 aC.exl (fC Tryz.func36 rfl rfl) fun r hr=>aC.le (dl DV.same iM) (kR (Q:=RpP c d M) (L:=fun r=>dJ M (lg r) (rc r)) (bC r) (hr.xg zd)) (oW hr.z h1 hM)
theorem nN.dbq{c d:Nat→Int}{K:Nat}{g:Nat→Int}(h:nN c d (21*K+3) g):Db (63*K+9) g:=(Lb.db h.b).mono (by omega)
theorem ah1{K KC N:Nat}{c d:Nat→Int}(zc:aZ c)(zd:aZ d)(hN:N≤10)(D7:lg c≤N)(hd10:lg d≤N)(hK1:1≤K)(ny:(K+1)*(2*3^N)≤KC)(hC:KC≤90000):aC Tryz.prog 80 [.one (dJ K (lg c) (rc c)),.one (dJ K (lg d) (rc d))] (.d (.one (aY (nN c d (21*K+3)) (fun g=>dJ (63*K+9) (lg g) (rc g))))):=by
 have hlc:=dK c;have hld:=dK d;have hKKC:K+1≤KC:=Nat.le_trans (Nat.le_mul_of_pos_right _ (Nat.mul_pos (by decide) (Nat.pow_pos (by decide)))) ny;refine aC.l9 (fC Tryz.func80 rfl rfl) (p:=Db K c∧Db K d) (fun B w vs h=>match vs,h with | [_,_],⟨h1,h2,_⟩=>⟨lW zc.lg h1,lW zd.lg h2⟩) (fun hb=>?_);obtain ⟨hbc,hbd⟩:=hb;have lbc:Lb K c:=(hbc.mono (by omega)).lb;have lbd:Lb K d:=(hbd.mono (by omega)).lb;refine aN 18 [.tmp 4] Tryz.func80 rfl<|cR<|mW rfl<|mT<|cR<|mW rfl<|mY (oW zc) rfl<|mW rfl<|mY (oW zd) rfl<|mv2 rfl rfl<|mT<|au<|aJ<|dQ (ι:=Nat×(Nat→Int)×(Nat→Int)) (fun (p:Nat×(Nat→Int)×(Nat→Int))=>match p with | (X,a,b)=>⟨18,[(0,.d (.one (.row 4 (lg a) (aK X (rc a))))),(1,.d (.one (.row 4 (lg b) (aK X (rc b))))),(4,.d (.one (.v (.slice none 0 0))))],[]⟩) (fun (p:Nat×(Nat→Int)×(Nat→Int))=>match p with | (X,a,b)=>aZ a∧aZ b∧Bf (FF c) (FF d) (FF a) (FF b)∧Db X a∧Db X b∧lg a≤N∧lg b≤N∧1≤X∧VQ K N X (lg a) (lg b)∧(lg a≠0→Pm (lg a) a)∧(lg b≠0→Pm (lg b) b)) (fun (p:Nat×(Nat→Int)×(Nat→Int))=>match p with | (X,a,b)=>lg b) (K,(bC c),(bC d)) (⟨fZ zc,fZ zd,Md zc zd,hbc.qW,hbd.qW,by rw [dI zc];exact D7,by rw [dI zd];exact hd10,hK1,.start (by rw [dI zc];exact D7),fun h0=>jM zc (by rw [← dI zc];exact h0),fun h0=>jM zd (by rw [← dI zd];exact h0)⟩) (wkr rfl rfl) ?_;rintro ⟨X,a,b⟩ hI;obtain ⟨za,zb,aS,hba,hbb,Vb,KY,hX1,hG,hpa,hpb⟩:aZ a∧aZ b∧Bf (FF c) (FF d) (FF a) (FF b)∧Db X a∧Db X b∧lg a≤N∧lg b≤N∧1≤X∧VQ K N X (lg a) (lg b)∧(lg a≠0→Pm (lg a) a)∧(lg b≠0→Pm (lg b) b):=hI;show AW _ _ _ ⟨_,_,_⟩
 refine au<|au ?_;have hXK:=hG.bd ny
 by_cases hb0:lg b=0
 ·exact aA<|mv2 rfl rfl<|mdF rfl (by omega)<|mT<|cF rfl<|dO<|tE<|tE<|bE<|tN<|cR<|mv2 rfl rfl<|mT<|aO<|rQ rfl (by have hgf:=KW zc zd za zb aS hb0 lbc lbd (by omega) (by omega);exact fun ρ B w v hv=>kR (Q:=nN c d (21*K+3)) (L:=fun g=>dJ (63*K+9) (lg g) (rc g)) (bC a) hgf ρ B w v (by rw [nZ za hpa];exact iP (by omega) (by have hd:=hgf.dbq;rwa [nZ za hpa] at hd) ρ B w v hv))
 ·refine aA<|mv2 rfl rfl<|mdT rfl (by omega)<|mT<|cT rfl<|aF<|tN<|aJ ?_;have hg1:lg b-1 < lg b:=by omega
  have hN1:=(hG.step Vb KY hg1).bd ny;refine aA<|mv3 rfl rfl rfl<|mY (Qj (M:=(X+(lg a+1-lg b)*(X+1))) za zb hb0 (by omega) (by omega) (by omega) (by omega) (Nat.le_refl _)) rfl<|mY (Sj zb) rfl<|mEx (Qx:=RpP a b (X+(lg a+1-lg b)*(X+1))) (L:=fun r=>dJ (X+(lg a+1-lg b)*(X+1)) (lg r) (rc r)) 16 rfl (fun R hR=>?_);exact mv2 rfl rfl<|ak<|bN<|⟨((X+(lg a+1-lg b)*(X+1)),b,R),⟨zb,hR.z,aS.trans hR.idp,hbb.mono (Nat.le_add_right _ _),hR.b,KY,by have:=hR.lt;omega,by omega,hG.step Vb KY hR.lt,hpb,hR.pm⟩,hR.lt,wk rfl ⟨fM rfl (iP (by omega) (hbb.mono (Nat.le_add_right _ _))),hs rfl,hs rfl,trivial⟩ trivial rfl⟩
def Dl(c:Nat→Int):Nat→Int:=tV c (lg c)
theorem J3{c:Nat→Int}(z:aZ c):aZ (Dl c):=zx z
theorem MQ{c:Nat→Int}(h:gU c (lg c) < 0)(i:Nat):Dl c i= -(bC c i):=by
 have e:gU c (lg c)= -((bn c (lg c):Nat):Int):=by {unfold gU at h ⊢;by_cases k:c (lg c-1) < 0;{rw [if_pos k] at h ⊢;try omega};{rw [if_neg k] at h ⊢;try omega}}
 unfold Dl tV bC xg qW;rw [e,Int.ediv_neg];omega
theorem MR{c:Nat→Int}(h:¬ gU c (lg c) < 0)(i:Nat):Dl c i=bC c i:=by
 have e:gU c (lg c)=((bn c (lg c):Nat):Int):=by {unfold gU at h ⊢;by_cases k:c (lg c-1) < 0;{rw [if_pos k] at h ⊢;try omega};{rw [if_neg k] at h ⊢;try omega}}
 unfold Dl tV bC xg qW;rw [e]
theorem aao{c:Nat→Int}(z:aZ c):lg (Dl c)=lg (bC c):=by
 by_cases h:gU c (lg c) < 0
 ·have h1:lg (Dl c)≤lg (bC c):=iZ (J3 z) fun i hi=>by rw [MQ h,(fZ z).lg i hi];rfl
  have h2:lg (bC c)≤lg (Dl c):=iZ (fZ z) fun i hi=>by have:=(J3 z).lg i hi;rw [MQ h] at this;omega
  omega
 ·have e:Dl c=bC c:=funext (MR h)
  rw [e]
theorem aan{c:Nat→Int}{K:Nat}(h:Db K c):Db K (Dl c):=h.qW
theorem akj{c:Nat→Int}(z:aZ c)(h0:lg c≠0):∃ s:Rat,0 < s∧∀ x,FF c x=s*FF (Dl c) x:=by
 refine ⟨((bn c (lg c):Nat):Rat),by exact_mod_cast z.ip.sW h0,fun x=>?_⟩;have h:=Ik z.lg x;rwa [show pf (tV c (lg c)) (lg c)=FF (Dl c) from xu (zI z.lg) (J3 z),iD z] at h
theorem Sr{K:Nat}{c:Nat→Int}(zc:aZ c)(hK1:1≤K)(hK:K≤100000):aC Tryz.prog 75 [.one (dJ K (lg c) (rc c))] (.d (.one (dJ K (lg (Dl c)) (rc (Dl c))))):=by
 refine aC.l9 (fC Tryz.func75 rfl rfl) (p:=Db K c) (fun B w vs h=>match vs,h with | [_],⟨h1,_⟩=>lW zc.lg h1) (fun hb=>?_);refine aN 16 [.tmp 2] Tryz.func75 rfl<|cR<|mW rfl<|mT<|cR<|mW rfl<|mY (Si zc) rfl<|mv3 rfl rfl rfl<|mO rfl<|mZ rfl<|mW rfl<|mT<|au<|cR<|mv3 rfl rfl rfl<|mT<|aW rfl (fun hc1=>?_) (fun hc1=>?_)
 ·refine au ?_;have hln:=dK (bC c);exact aA<|mW rfl<|mY (WR (wZ (K:=K) (c:=(rc (bC c))) (ql (fZ zc).lg)) (M:=(max (K+65) 64))) rfl<|mW rfl<|mT<|aO<|tR<|rQ rfl (by have hs0:gU c (lg c) < 0:=of_decide_eq_true hc1;have e:∀ i,fO (rc (bC c)) ((-1:Int):Rat) i=rc (Dl c) i:=fun i=>by {show ((bC c i:Int):Rat)*((-1:Int):Rat)=((Dl c i:Int):Rat);rw [MQ hs0,← Rat.intCast_mul];congr 1;omega};have ef:fO (rc (bC c)) ((-1:Int):Rat)=rc (Dl c):=funext e;rw [ef];exact oZ (by rw [← aao zc];exact uj (J3 zc).lg (J3 zc)) hK1 (aan hb))
 ·exact aF<|tN<|cR<|mv2 rfl rfl<|mT<|aO<|rQ rfl (by have hs0:¬ gU c (lg c) < 0:=of_decide_eq_false hc1;have ef:Dl c=bC c:=funext (MR hs0);rw [ef];exact AV.le.rfl)
def I9(S:List Int):Nat→Nat→Lf:=fun i _=> .v (.int .i64 (S.getD i 0))
theorem aa8{S:List Int}(h3:∀ i,S.getD i 0= -1∨S.getD i 0=0∨S.getD i 0=1)(hL:S.length≤100000):aC Tryz.prog 143 [.one (.row 1 S.length (I9 S))] (.d (.one (.v (.int .i64 ((vr S:Nat):Int))))):=by
 refine aN 34 [.tmp 2] Tryz.func143 rfl<|cR<|mW rfl<|mT<|cR<|mv2 rfl rfl<|mT<|au<|cR<|mv3 rfl rfl rfl<|mT<|aJ<|dQ (ι:=Nat×Nat×Int) (fun (p:Nat×Nat×Int)=>match p with | (i,nn,m)=>⟨34,[(0,.d (.one (.row 1 S.length (I9 S)))),(2,.d (.one (.v (.int .i64 0)))),(6,.d (.one (.row 1 S.length (I9 S)))),(7,.d (.one (.v (.int .i64 ((S.length:Nat):Int))))),(8,.d (.one (.v (.int .i64 ((i:Nat):Int))))),(3,.d (.one (.v (.int .i64 ((nn:Nat):Int))))),(4,.d (.one (.v (.int .i64 m))))],[]⟩) (fun (p:Nat×Nat×Int)=>match p with | (i,nn,m)=>i≤S.length∧nn≤i∧nn+AU m (S.drop i)=vr S∧(m= -1∨m=0∨m=1)) (fun (p:Nat×Nat×Int)=>match p with | (i,nn,m)=>S.length-i) (0,0,0) (⟨Nat.zero_le _,Nat.le_refl _,by rw [List.drop_zero,Nat.zero_add];rfl,Or.inr (Or.inl rfl)⟩) (wk rfl ⟨hs rfl,hs rfl,hs rfl,hs rfl,fM rfl (aG rfl),fM rfl (aG rfl),hs rfl,trivial⟩ trivial rfl) ?_;rintro ⟨i,nn,m⟩ hI;obtain ⟨hi,hni,hv,hm3⟩:i≤S.length∧nn≤i∧nn+AU m (S.drop i)=vr S∧(m= -1∨m=0∨m=1):=hI;show AW _ _ _ ⟨_,_,_⟩
 refine cR<|mW rfl<|mT<|au<|aW rfl (fun hc1=>?_) (fun hc1=>?_)
 ·refine aF<|tN<|au<|aJ<|au ?_;have hin:i < S.length:=by have h0:=of_decide_eq_true hc1;omega
  have hd:=aaz (m:=m) hin;have hb3:=h3 i;refine aA<|mv2 rfl rfl<|mT<|au ?_
  by_cases h0:S.getD i 0=0
  ·refine aA<|mv2 rfl rfl<|mV aj (.d (.one (.at 1 ((I9 S) i)))) (lu (el:=(I9 S)) (z:=((i:Nat):Int)) (n:=S.length) rfl rfl rfl rfl rfl rfl (by omega) (by omega)) ?_;exact mW rfl<|mbF rfl (by rw [h0];rfl)<|mT<|cF rfl<|aF<|bN<|tN<|aA<|mv2 rfl rfl<|ak<|⟨((i+1),nn,m),⟨by omega,by omega,by rw [if_pos h0] at hd;omega,hm3⟩,by show S.length-(i+1) < S.length-i;omega,wk rfl ⟨hs rfl,hs rfl,hs rfl,hs rfl,fM rfl (aG (dG (by omega))),hs rfl,hs rfl,trivial⟩ trivial rfl⟩
  ·refine aA<|mv2 rfl rfl<|mV aj (.d (.one (.at 1 ((I9 S) i)))) (lu (el:=(I9 S)) (z:=((i:Nat):Int)) (n:=S.length) rfl rfl rfl rfl rfl rfl (by omega) (by omega)) ?_;refine mW rfl<|mbT rfl (bne_iff_ne.2 h0)<|mT<|cT rfl<|au<|au ?_
   by_cases hm0:m=0
   ·refine aA<|mW rfl<|mbF rfl (by rw [hm0];rfl)<|mW rfl<|mG rfl rfl<|mG rfl rfl<|mG rfl rfl<|mG rfl rfl<|mG rfl rfl<|mG rfl rfl<|mW rfl<|mT<|cFs rfl<|aA<|mv2 rfl rfl<|mV aj (.d (.one (.at 1 ((I9 S) i)))) (lu (el:=(I9 S)) (z:=((i:Nat):Int)) (n:=S.length) rfl rfl rfl rfl rfl rfl (by omega) (by omega)) ?_;exact mv2 rfl rfl<|ak<|bN<|tN<|aA<|mv2 rfl rfl<|ak<|⟨((i+1),nn,(S.getD i 0)),⟨by omega,by omega,by rw [if_neg h0,if_neg (by omega)] at hd;omega,hb3⟩,by show S.length-(i+1) < S.length-i;omega,wk rfl ⟨hs rfl,hs rfl,hs rfl,hs rfl,fM rfl (aG (dG (by omega))),hs rfl,hs rfl,trivial⟩ trivial rfl⟩
   ·by_cases hsm:S.getD i 0=m
    ·refine aA<|mW rfl<|mbT rfl (bne_iff_ne.2 hm0)<|mv3 rfl rfl rfl<|mV aj (.d (.one (.at 1 ((I9 S) i)))) (lu (el:=(I9 S)) (z:=((i:Nat):Int)) (n:=S.length) rfl rfl rfl rfl rfl rfl (by omega) (by omega)) ?_;refine mv2 rfl rfl<|mbF rfl (by rw [hsm];exact bne_self_eq_false m)<|mW rfl<|mT<|cFs rfl<|aA<|mv2 rfl rfl<|mV aj (.d (.one (.at 1 ((I9 S) i)))) (lu (el:=(I9 S)) (z:=((i:Nat):Int)) (n:=S.length) rfl rfl rfl rfl rfl rfl (by omega) (by omega)) ?_;exact mv2 rfl rfl<|ak<|bN<|tN<|aA<|mv2 rfl rfl<|ak<|⟨((i+1),nn,(S.getD i 0)),⟨by omega,by omega,by rw [if_neg h0,if_neg (by omega)] at hd;omega,hb3⟩,by show S.length-(i+1) < S.length-i;omega,wk rfl ⟨hs rfl,hs rfl,hs rfl,hs rfl,fM rfl (aG (dG (by omega))),hs rfl,hs rfl,trivial⟩ trivial rfl⟩
    ·refine aA<|mW rfl<|mbT rfl (bne_iff_ne.2 hm0)<|mv3 rfl rfl rfl<|mV aj (.d (.one (.at 1 ((I9 S) i)))) (lu (el:=(I9 S)) (z:=((i:Nat):Int)) (n:=S.length) rfl rfl rfl rfl rfl rfl (by omega) (by omega)) ?_;refine mv2 rfl rfl<|mbT rfl (bne_iff_ne.2 hsm)<|mW rfl<|mT<|cT rfl<|aA<|mv3 rfl rfl rfl<|mT<|aA<|mv2 rfl rfl<|mV aj (.d (.one (.at 1 ((I9 S) i)))) (lu (el:=(I9 S)) (z:=((i:Nat):Int)) (n:=S.length) rfl rfl rfl rfl rfl rfl (by omega) (by omega)) ?_;exact mv2 rfl rfl<|ak<|bN<|tN<|aA<|mv2 rfl rfl<|ak<|⟨((i+1),(nn+1),(S.getD i 0)),⟨by omega,by omega,by rw [if_neg h0,if_pos (by omega)] at hd;omega,hb3⟩,by show S.length-(i+1) < S.length-i;omega,wk rfl ⟨hs rfl,hs rfl,hs rfl,hs rfl,fM rfl (aG (dG (by omega))),fM rfl (aG (dG (by omega))),hs rfl,trivial⟩ trivial rfl⟩
 ·exact dO<|tE<|tE<|bE<|tN<|cR<|mv2 rfl rfl<|mT<|aO<|rQ rfl (aG (by have h0:=of_decide_eq_false hc1;rw [adg (by omega)] at hv;omega))
theorem DC.pow{a b:Fn}(h:DC a b)(pa:Po a)(pb:Po b):∀ n:Nat,DC a (fun x=>b x^n)
 | 0=>⟨fun _=>0,fun _=>1,bT 0,bT 1,fun x=>by show 0*a x+1*b x^0=1;rw [Rat.pow_zero];grind⟩
 | n+1=>by
  have h1:=(h.pow pa pb n).mul h pa (pb.pow n) pb;rwa [show (fun x=>b x^(n+1))=fun x=>b x^n*b x from funext fun x=>Rat.pow_succ _ _]
/-- What is squarefree and divides a power divides. -/
theorem aaf{s s' t:Fn}(h:zD s s')(hne:∃ x,s x≠0)(pt:Po t){N:Nat}(hd:Dv s (fun x=>t x^N)):Dv s t:=by
 obtain ⟨m,ht⟩:=pt;obtain ⟨d,u,v,p,q,pd,pu,pv,pp,pq,e1,e2,e3⟩:=Ip m s t h.po ht;obtain ⟨d',pd',dd⟩:=pd.zF;obtain ⟨p',pp',dp⟩:=pp.zF;have cpd:DC p d:=h.XA pp pd pp' pd' dp dd e2;have dne:∃ x,d x≠0:=by obtain ⟨x,hx⟩:=hne;exact ⟨x,fun e=>hx (by rw [e2,e,Rat.mul_zero])⟩
 have cpq:DC p q:=⟨u,v,pu,pv,mJ pd dne ((pu.mul pp).add (pv.mul pq)) (bT 1) (fun x=>by have a:=e1 x;rw [e2,e3] at a;grind)⟩;have cpt:DC p t:=by have h1:=cpq.mul cpd pp pq pd;rwa [show (fun x=>q x*d x)=t from funext fun x=>(e3 x).symm] at h1
 have cpN:=cpt.pow pp ⟨m,ht⟩ N;have dps:Dv p s:=⟨d,pd,fun x=>by rw [e2];exact Rat.mul_comm _ _⟩;obtain ⟨w,pw,hw⟩:=cpN.dv (bT 1) ((dps.trans hd).ajX (bT 1));exact ⟨fun x=>w x*q x,pw.mul pq,fun x=>by have h1:=hw x;have h2:=e2 x;have h3:=e3 x;grind⟩
/-- Primitive rows that divide each other are one. -/
theorem akb{f g:Nat→Int}(zf:aZ f)(zg:aZ g)(mf:Pm (lg f) f)(mg:Pm (lg g) g)(h1:Dv (FF f) (FF g))(h2:Dv (FF g) (FF f)):f=g:=by
 have l1:=(lC zg zf mg.pos h1).2;have l2:=(lC zf zg mf.pos h2).2;obtain ⟨W,pW,hW⟩:=h1;obtain ⟨w,k,hw,hc,_⟩:=ni zg.lg zf.lg mf.one pW (fun x=>by rw [iD zg,iD zf];exact hW x);have zw:=JU zf zg mf.pos hw hc;obtain ⟨hlq,_⟩:=Aw zw zf zg hc mf.pos;have hl1:lg w=1:=by omega
 have mw:=Rt zw zf zg hc mf mg;have hd:(w 0).natAbs∣bn w (lg w):=uS fun i hi=>by
  obtain rfl:i=0:=by omega
  exact Nat.dvd_refl _
 rw [mw.one] at hd;have h0:0 < w 0:=by have h:=mw.lead;rw [hl1] at h;exact h
 have hw1:w 0=1:=by have:=Nat.dvd_one.1 hd;omega
 have hF:∀ x,FF w x=1:=fun x=>by rw [← iD zw,hl1];exact yD.trans (by rw [hw1];rfl)
 have e:aX w f=g:=funext hc;refine funext (F8 zf zg fun x=>?_);have h9:=qJ (n:=1) (m:=20) (a:=w) (b:=f) (fun i hi=>zw.lg i (by omega)) zf x;rw [e,xu (c:=g) (n:=1+20) (fun i hi=>zg i (by omega)) zg] at h9;have h8:=hF x;rw [← iD zw,hl1] at h8;rw [h9,h8];show FF f x=1*FF f x
 grind
theorem vH.uniq{c f g:Nat→Int}{M M':Nat}(h:vH c M f)(k:vH c M' g):f=g:=by
 have key:∀ {f g:Nat→Int} {M M':Nat},vH c M f→vH c M' g→Dv (FF f) (FF g):=by
  intro f g M M' h k;obtain ⟨N,w,pw,e⟩:=k.pw;exact aaf h.sq (uz h.z h.ne) (cu k.z) (h.dv.trans ⟨w,pw,e⟩)
 exact akb h.z k.z h.pm k.pm (key h k) (key k h)
/-- THE SQUAREFREE PART. -/
noncomputable def eY(c:Nat→Int):Nat→Int:=open Classical in if h:∃ f M,vH c M f then h.choose else c
theorem vH.eq{c f:Nat→Int}{M:Nat}(h:vH c M f):f=eY c:=by
 have hx:∃ f M,vH c M f:=⟨f,M,h⟩
 unfold eY;rw [dif_pos hx];obtain ⟨M',h'⟩:=hx.choose_spec;exact h.uniq h'
theorem vH.self{c f:Nat→Int}{M:Nat}(h:vH c M f):vH c M (eY c):=h.eq▸h
/-- What is squarefree is its own part. -/
theorem Dj{c:Nat→Int}{M:Nat}(z:aZ c)(b:Lb M c)(pm:Pm (lg c) c)(h:zD (FF c) (FF (bM c))):vH c M c:=⟨z,b,pm,Dv.refl _,⟨1,fun _=>1,bT 1,fun x=>by rw [agX];grind⟩,h⟩
theorem Jw{c:Nat→Int}(z:aZ c):∃ K,1≤K∧Lb K c:=by
 have key:∀ n:Nat,∃ K,1≤K∧∀ i,i < n→(c i).natAbs < bP^K:=by
  intro n
  induction n with
  | zero=>exact ⟨1,Nat.le_refl _,fun i hi=>absurd hi (Nat.not_lt_zero _)⟩
  | succ n ih=>
   obtain ⟨K,h1,h⟩:=ih;refine ⟨K+(c n).natAbs,by omega,fun i hi=>?_⟩
   by_cases e:i < n
   ·exact Nat.lt_of_lt_of_le (h i e) (Nat.pow_le_pow_right (by decide) (by omega))
   ·obtain rfl:i=n:=by omega
    exact Nat.lt_of_lt_of_le (Nat.lt_of_lt_of_le Nat.lt_two_pow_self (Nat.pow_le_pow_left (show 2≤bP by decide) _)) (Nat.pow_le_pow_right (by decide) (by omega))
 obtain ⟨K,h1,h⟩:=key 20;exact ⟨K,h1,fun i=>by
  by_cases hi:i < 20
  ·exact h i hi
  ·rw [z i (by omega)];exact Nat.pow_pos (by decide)⟩
/-- The primitive row of length one. -/
theorem agW{r:Nat→Int}(z:aZ r)(pm:Pm (lg r) r)(h:lg r=1):r=iC 1:=by
 have hd:(r 0).natAbs∣bn r (lg r):=uS fun i hi=>by
  obtain rfl:i=0:=by omega
  exact Nat.dvd_refl _
 rw [pm.one] at hd;have h0:0 < r 0:=by have k:=pm.lead;rw [h] at k;exact k
 have h1:r 0=1:=by have:=Nat.dvd_one.1 hd;omega
 funext i
 by_cases hi:i=0
 ·subst hi;exact h1
 ·rw [wI i (by omega)];exact z.lg i (by omega)
theorem jH:aZ (iC 1):=fun i hi=>wI i (by omega)
theorem nY:lg (iC 1)=1:=by decide
theorem FQ:Pm (lg (iC 1)) (iC 1):=⟨jH.ip,by rw [nY];decide,by rw [nY];decide,by rw [nY];decide⟩
theorem wH(x:Rat):FF (iC 1) x=1:=by rw [← iD jH,nY];exact yD.trans rfl
theorem Uo:eY (iC 1)=iC 1:=by
 obtain ⟨M,_,hM⟩:=Jw jH;exact (Dj jH hM FQ ⟨cu jH,cu (eH jH),pX jH,fun _=>1,fun _=>0,bT 1,bT 0,fun x=>by rw [wH];grind⟩).eq.symm
/-- One step down. -/
theorem MO{r g:Nat→Int}{M:Nat}(zr:aZ r)(pr:Pm (lg r) r)(h2:2≤lg r)(h10:lg r≤10)(hg:nN r (bM r) M g):(∃ M',vH r M' (eY r))∧∀ i,aX (eY r) g i=r i:=by
 have e:bC r=r:=nZ zr fun _=>pr
 obtain ⟨hg0,hgl⟩:=hg.le zr pr.pos;obtain ⟨W,pW,hW⟩:=hg.G9.da;obtain ⟨w,k,hw,hc,_⟩:=ni zr.lg hg.z.lg (hg.pm hg0).one pW (fun x=>by rw [iD zr,iD hg.z];exact hW x);have zw:=JU hg.z zr hg0 hw hc;obtain ⟨K,_,hK⟩:=Jw zr;have hs:vH r (21*K+3) w:=akh zr h2 h10 hK (by rw [e];exact hg) zw (by rw [e];exact hc);exact ⟨⟨_,hs.self⟩,by rw [← hs.eq];exact hc⟩
/-- FACTORS on the way: what stands k times at least. -/
structure P6(c:Nat→Int)(Rs:List (Nat→Int)):Prop where
 ne:1≤Rs.length
 h0:gl Rs 0=bC c
 z:∀ i,aZ (gl Rs i)
 pm:∀ i,i < Rs.length→Pm (lg (gl Rs i)) (gl Rs i)
 dv:∀ i,i < Rs.length→Dv (FF (gl Rs i)) (FF c)
 l:∀ i,lg (gl Rs i)≤lg c
 st:∀ i,i+1 < Rs.length→2≤lg (gl Rs i)∧∃ M,nN (gl Rs i) (bM (gl Rs i)) M (gl Rs (i+1))
 ln:Rs.length+lg (gl Rs (Rs.length-1))≤lg c+1
theorem FI{L:List (Nat→Int)}{i:Nat}(h:L.length≤i):gl L i=fun _=>0:=by
 unfold gl;rw [List.getD_eq_getElem?_getD,List.getElem?_eq_none h];rfl
theorem KP{c:Nat→Int}(z:aZ c)(h0:lg c≠0):Dv (FF (bC c)) (FF c):=by
 obtain ⟨s,hs0,hs⟩:=vO z h0;exact ⟨fun _=>s,bT s,hs⟩
theorem P6.start{c:Nat→Int}(zc:aZ c)(h2:2≤lg c):P6 c [bC c]:=by
 have hl:=dI zc;refine ⟨Nat.le_refl _,rfl,fun i=>?_,fun i hi=>?_,fun i hi=>?_,fun i=>?_,fun i hi=>absurd hi (by show ¬ i+1 < 1;omega),by show 1+lg (bC c)≤_;omega⟩
 ·cases i with
  | zero=>exact fZ zc
  | succ i=>rw [FI (by show 1≤i+1;omega)];exact kX
 ·obtain rfl:i=0:=by have:i < 1:=hi;omega
  exact jM zc (by omega)
 ·obtain rfl:i=0:=by have:i < 1:=hi;omega
  exact KP zc (by omega)
 ·cases i with
  | zero=>exact Nat.le_of_eq hl
  | succ i=>rw [FI (by show 1≤i+1;omega)];exact Nat.le_trans (iZ (n:=0) kX fun _ _=>rfl) (Nat.zero_le _)
theorem kT{L:List (Nat→Int)}{b:Nat→Int}(i:Nat):gl (L ++ [b]) i=if i < L.length then gl L i else if i=L.length then b else fun _=>0:=by
 split
 ·rename_i h;exact xQ h
 ·split
  ·rename_i h;rw [h];exact tq
  ·exact FI (by rw [List.length_append];show L.length+1≤i;omega)
theorem D9{c:Nat→Int}(z:aZ c)(h:lg c≠0):lg (bM c) < lg c:=by
 have:lg (bM c)≤lg c-1:=iZ (eH z) fun i hi=>D5 z.lg i (by omega)
 omega
theorem P6.step{c g:Nat→Int}{Rs:List (Nat→Int)}{M:Nat}(h:P6 c Rs)(zc:aZ c)(h0:lg c≠0)(h2:2≤lg (gl Rs (Rs.length-1)))(hg:nN (gl Rs (Rs.length-1)) (bM (gl Rs (Rs.length-1))) M g):P6 c (Rs ++ [g]):=by
 have hne:=h.ne;have zl:=h.z (Rs.length-1);have hd2:lg (bM (gl Rs (Rs.length-1)))≠0:=fun e=>by have:=uP zl e;omega
 obtain ⟨hg0,hgl⟩:=hg.le' (eH zl) hd2;have hlt:=D9 zl (by omega);have hll:=h.l (Rs.length-1);have hlen:(Rs ++ [g]).length=Rs.length+1:=by rw [List.length_append];rfl
 refine ⟨by omega,by rw [xQ (by omega)];exact h.h0,fun i=>?_,fun i hi=>?_,fun i hi=>?_,fun i=>?_,fun i hi=>?_,?_⟩
 ·rw [kT];split;exact h.z i;split;exact hg.z;exact kX
 ·rw [kT];split
  ·rename_i h1;exact h.pm i h1
  ·rw [if_pos (by omega)];exact hg.pm hg0
 ·rw [kT];split
  ·rename_i h1;exact h.dv i h1
  ·rw [if_pos (by omega)];exact hg.G9.da.trans (h.dv _ (by omega))
 ·rw [kT];split;exact h.l i;split;omega;exact Nat.le_trans (iZ (n:=0) kX fun _ _=>rfl) (Nat.zero_le _)
 ·rw [kT i,kT (i+1),if_pos (by omega)]
  by_cases e:i+1 < Rs.length
  ·rw [if_pos e];exact h.st i e
  ·rw [if_neg e,if_pos (by omega)]
   obtain rfl:i=Rs.length-1:=by omega
   exact ⟨h2,M,hg⟩
 ·rw [hlen,Nat.add_sub_cancel,tq];have:=h.ln;omega
/-- The list with 1 behind. -/
structure Wq(c:Nat→Int)(Rs:List (Nat→Int)):Prop where
 len:2≤Rs.length
 l11:Rs.length≤lg c+1
 h0:gl Rs 0=bC c
 z:∀ i,aZ (gl Rs i)
 pm:∀ i,i < Rs.length→Pm (lg (gl Rs i)) (gl Rs i)
 dv:∀ i,i < Rs.length→Dv (FF (gl Rs i)) (FF c)
 l:∀ i,lg (gl Rs i)≤lg c
 q1:∀ i,i+1 < Rs.length→∀ j,aX (eY (gl Rs i)) (gl Rs (i+1)) j=gl Rs i j
 sq:∀ i,i < Rs.length→∃ M,vH (gl Rs i) M (eY (gl Rs i))
 l1:gl Rs (Rs.length-1)=iC 1
 l2:gl Rs (Rs.length-2)=iC 1
 lo:Rs.length=2∨2≤lg (gl Rs (Rs.length-3))
theorem zD.fin{f f':Fn}(h:zD f f'){g:Fn}(h1:Dv g f)(h2:Dv g f'):Dv g (fun _=>1):=by
 obtain ⟨u,v,pu,pv,e⟩:=h.cop;obtain ⟨p,pp,k1⟩:=h1;obtain ⟨q,pq,k2⟩:=h2;exact ⟨fun x=>u x*p x+v x*q x,(pu.mul pp).add (pv.mul pq),fun x=>by have h3:=e x;have h4:=k1 x;have h5:=k2 x;grind⟩
theorem P6.one{c:Nat→Int}{Rs:List (Nat→Int)}(h:P6 c Rs)(zc:aZ c)(h0:lg c≠0)(hs:zD (FF c) (FF (bM c))):Rs.length≤2:=by
 apply Classical.byContradiction;intro hn;obtain ⟨_,M,hg⟩:=h.st 0 (by omega);obtain ⟨h2,_⟩:=h.st 1 (by omega);rw [h.h0] at hg;have zp:=fZ zc;obtain ⟨q,pq,hq⟩:=KP zc h0;have sp:zD (FF (bC c)) (FF (bM (bC c))):=hs.dv (cu zp) pq (cu (eH zp)) (pX zp) (fun x=>by rw [hq];exact Rat.mul_comm _ _);have h1:=sp.fin hg.G9.da hg.G9.db;have z1:=h.z 1;have h3:=lC jH z1 (by rw [nY];decide) (h1.congr fun x=>(wH x).symm);have:=h3.2;rw [nY] at this;omega
theorem P6.fin{c:Nat→Int}{Rs:List (Nat→Int)}(h:P6 c Rs)(zc:aZ c)(h2:2≤lg c)(h10:lg c≤10)(hl:lg (gl Rs (Rs.length-1))≤1):Wq c (Rs ++ [iC 1]):=by
 have hne:=h.ne;have hln:=h.ln;have hlast:gl Rs (Rs.length-1)=iC 1:=agW (h.z _) (h.pm _ (by omega)) (by have:=(h.pm (Rs.length-1) (by omega)).pos;omega);have hlen:(Rs ++ [iC 1]).length=Rs.length+1:=by rw [List.length_append];rfl
 have h2l:2≤Rs.length:=by
  apply Classical.byContradiction;intro hn;have e:Rs.length-1=0:=by omega
  rw [e,h.h0,dI zc] at hl;omega
 have hlg1:lg (gl Rs (Rs.length-1))=1:=by rw [hlast];exact nY
 refine ⟨by omega,by omega,by rw [xQ (by omega)];exact h.h0,fun i=>?_,fun i hi=>?_,fun i hi=>?_,fun i=>?_,fun i hi=>?_,fun i hi=>?_,by rw [hlen,Nat.add_sub_cancel];exact tq,by rw [hlen,show Rs.length+1-2=Rs.length-1 by omega,xQ (by omega)];exact hlast,?_⟩
 ·rw [kT];split;exact h.z i;split;exact jH;exact kX
 ·rw [kT];split
  ·rename_i h1;exact h.pm i h1
  ·rw [if_pos (by omega)];exact FQ
 ·rw [kT];split
  ·rename_i h1;exact h.dv i h1
  ·rw [if_pos (by omega)];exact ⟨FF c,cu zc,fun x=>by rw [wH];grind⟩
 ·rw [kT];split;exact h.l i;split;rw [nY];omega;exact Nat.le_trans (iZ (n:=0) kX fun _ _=>rfl) (Nat.zero_le _)
 ·rw [kT i,kT (i+1),if_pos (by omega)]
  by_cases e:i+1 < Rs.length
  ·rw [if_pos e]
   obtain ⟨k2,M,hg⟩:=h.st i e;exact (MO (h.z i) (h.pm i (by omega)) k2 (by have:=h.l i;omega) hg).2
  ·rw [if_neg e,if_pos (by omega)]
   obtain rfl:i=Rs.length-1:=by omega
   rw [hlast,Uo];have h9:∀ x,FF (aX (iC 1) (iC 1)) x=FF (iC 1) x:=fun x=>by
    rw [qE (n:=1) (m:=1) (fun i hi=>wI i hi) (fun i hi=>wI i hi) (by omega) jH jH,wH];grind
   exact F8 (aZ.of (fK (n:=1) (m:=1) (fun i hi=>wI i hi) (fun i hi=>wI i hi)) (by omega)) jH h9
 ·rw [kT]
  have h1:∃ M,vH (iC 1) M (eY (iC 1)):=by
   obtain ⟨M,_,hM⟩:=Jw jH;exact ⟨M,(Dj jH hM FQ ⟨cu jH,cu (eH jH),pX jH,fun _=>1,fun _=>0,bT 1,bT 0,fun x=>by rw [wH];grind⟩).self⟩
  split
  ·rename_i e
   by_cases e2:i+1 < Rs.length
   ·obtain ⟨k2,M,hg⟩:=h.st i e2
    exact (MO (h.z i) (h.pm i (by omega)) k2 (by have:=h.l i;omega) hg).1
   ·obtain rfl:i=Rs.length-1:=by omega
    rw [hlast];exact h1
  ·rw [if_pos (by omega)];exact h1
 ·rw [hlen]
  refine Or.inr ?_;rw [show Rs.length+1-3=Rs.length-2 by omega,xQ (by omega)];exact (h.st (Rs.length-2) (by omega)).1
section
variable {c:Nat→Int} {Rs:List (Nat→Int)}
theorem Wq.quo(h:Wq c Rs)(h10:lg c≤10)(i:Nat)(hi:i+2 < Rs.length):∃ f,aZ f∧Pm (lg f) f∧(∀ j,aX f (eY (gl Rs (i+1))) j=eY (gl Rs i) j)∧Dv (FF f) (FF c):=by
 obtain ⟨M,k⟩:=h.sq i (by omega);obtain ⟨M',k'⟩:=h.sq (i+1) (by omega);have hq:=h.q1 i (by omega);have hx:lg (eY (gl Rs i))≤lg c:=by
  have h1:=(lC (h.z i) k.z (h.pm i (by omega)).pos k.dv).2;have:=h.l i;omega
 have d1:Dv (FF (gl Rs (i+1))) (FF (gl Rs i)):=⟨FF (eY (gl Rs i)),cu k.z,fun x=>by
  rw [← qE k.z.lg (h.z (i+1)).lg (by have:=h.l (i+1);omega) k.z (h.z (i+1)),show aX (eY (gl Rs i)) (gl Rs (i+1))=gl Rs i from funext hq]⟩
 obtain ⟨N,w,pw,e⟩:=k.pw;have d2:Dv (FF (eY (gl Rs (i+1)))) (FF (eY (gl Rs i))):=aaf k'.sq (uz k'.z k'.ne) (cu k.z) ((k'.dv.trans d1).trans ⟨w,pw,e⟩);obtain ⟨W,pW,hW⟩:=d2;obtain ⟨f,n,hf,hc,_⟩:=ni k.z.lg k'.z.lg k'.pm.one pW (fun x=>by rw [iD k.z,iD k'.z];exact hW x);have zf:=JU k'.z k.z k'.ne hf hc;refine ⟨f,zf,Rt zf k'.z k.z hc k'.pm k.pm,hc,?_⟩;have hlq:=(Aw zf k'.z k.z hc k'.ne).1;have d3:Dv (FF f) (FF (eY (gl Rs i))):=⟨FF (eY (gl Rs (i+1))),cu k'.z,fun x=>by
  rw [← show aX f (eY (gl Rs (i+1)))=eY (gl Rs i) from funext hc,qE zf.lg k'.z.lg (by have:=k'.ne;have:=dK (eY (gl Rs (i+1)));omega) zf k'.z];exact Rat.mul_comm _ _⟩
 exact (d3.trans k.dv).trans (h.dv i (by omega))
noncomputable def qh(Rs:List (Nat→Int))(i:Nat):Nat→Int:=open Classical in if h:∃ f,aZ f∧∀ j,aX f (eY (gl Rs (i+1))) j=eY (gl Rs i) j then h.choose else fun _=>0
theorem UQ{f f' d p:Nat→Int}(zf:aZ f)(zf':aZ f')(zd:aZ d)(zp:aZ p)(hd:lg d≠0)(h:∀ j,aX f d j=p j)(h':∀ j,aX f' d j=p j)(hl:lg p≤10):f=f':=by
 have key:∀ {f:Nat→Int},aZ f→(∀ j,aX f d j=p j)→∀ x,FF p x=FF f x*FF d x:=by
  intro f zf h x;have hq:=Aw zf zd zp h hd;have hb:lg f+lg d≤20:=by
   by_cases h0:lg f=0
   ·have:=dK d;omega
   ·have:=hq.2 h0;omega
  rw [← show aX f d=p from funext h,qE zf.lg zd.lg hb zf zd]
 refine funext (F8 zf zf' fun x=>mJ (cu zd) (uz zd hd) (cu zf) (cu zf') (fun t=>?_) x);have h1:=key zf h t;have h2:=key zf' h' t;grind
theorem BU(h:Wq c Rs)(h10:lg c≤10)(i:Nat)(hi:i+2 < Rs.length):aZ (qh Rs i)∧Pm (lg (qh Rs i)) (qh Rs i)∧(∀ j,aX (qh Rs i) (eY (gl Rs (i+1))) j=eY (gl Rs i) j)∧Dv (FF (qh Rs i)) (FF c):=by
 obtain ⟨f,zf,pf,hc,hd⟩:=h.quo h10 i hi;have hx:∃ f,aZ f∧∀ j,aX f (eY (gl Rs (i+1))) j=eY (gl Rs i) j:=⟨f,zf,hc⟩
 have e:qh Rs i=f:=by
  unfold qh;rw [dif_pos hx];obtain ⟨M,k⟩:=h.sq i (by omega);obtain ⟨M',k'⟩:=h.sq (i+1) (by omega);have hxl:lg (eY (gl Rs i))≤lg c:=by
   have h1:=(lC (h.z i) k.z (h.pm i (by omega)).pos k.dv).2;have:=h.l i;omega
  exact UQ hx.choose_spec.1 zf k'.z k.z k'.ne hx.choose_spec.2 hc (by omega)
 rw [e];exact ⟨zf,pf,hc,hd⟩
end
/-- THE FACTORS of c. -/
structure aaN(c:Nat→Int)(Ls:List (Nat→Int)):Prop where
 ex:∃ X:Nat→Nat→Int,(∀ i,i≤Ls.length→aZ (X i)∧lg (X i)≤lg c)∧(∃ M,vH c M (X 0))∧X Ls.length=iC 1∧∀ i,i < Ls.length→∀ x,FF (X i) x=FF (gl Ls i) x*FF (X (i+1)) x
 z:∀ i,aZ (gl Ls i)
 pm:∀ i,i < Ls.length→Pm (lg (gl Ls i)) (gl Ls i)
 dv:∀ i,i < Ls.length→Dv (FF (gl Ls i)) (FF c)
 len:Ls.length≤lg c
 one:zD (FF c) (FF (bM c))→Ls.length=1
noncomputable def zA(Rs:List (Nat→Int))(k:Nat):List (Nat→Int):=(List.range k).map (qh Rs)
theorem Oi(Rs:List (Nat→Int))(k:Nat):(zA Rs k).length=k:=by unfold zA;rw [List.length_map,List.length_range]
theorem FH(Rs:List (Nat→Int))(k i:Nat)(h:i < k):gl (zA Rs k) i=qh Rs i:=by
 unfold zA gl;rw [List.getD_eq_getElem?_getD,List.getElem?_map,List.getElem?_range h];rfl
theorem U6(Rs:List (Nat→Int))(k:Nat):zA Rs (k+1)=zA Rs k ++ [qh Rs k]:=by unfold zA;rw [List.range_succ,List.map_append];rfl
theorem Ur{c f:Nat→Int}{M:Nat}(zc:aZ c)(h0:lg c≠0)(h:vH (bC c) M f):vH c M f:=by
 obtain ⟨s,hs0,hs⟩:=vO zc h0;obtain ⟨N,w,pw,e⟩:=h.pw;exact ⟨h.z,h.b,h.pm,h.dv.trans (KP zc h0),⟨N,fun x=>w x*s⁻¹,pw.xk _,fun x=>(e x).trans (by show w x*FF (bC c) x=w x*s⁻¹*FF c x;rw [hs];grind)⟩,h.sq⟩
theorem Wq.fac{c:Nat→Int}{Rs:List (Nat→Int)}(h:Wq c Rs)(zc:aZ c)(h0:lg c≠0)(h10:lg c≤10)(hone:zD (FF c) (FF (bM c))→Rs.length≤3)(h3:3≤Rs.length):aaN c (zA Rs (Rs.length-2)):=by
 have hl:=Oi Rs (Rs.length-2);have hxl:∀ i,i < Rs.length→∃ M,vH (gl Rs i) M (eY (gl Rs i))∧lg (eY (gl Rs i))≤lg c:=fun i hi=>by
  obtain ⟨M,k⟩:=h.sq i hi;have h1:=(lC (h.z i) k.z (h.pm i hi).pos k.dv).2;have:=h.l i;exact ⟨M,k,by omega⟩
 refine ⟨⟨fun i=>eY (gl Rs i),fun i hi=>?_,?_,?_,fun i hi x=>?_⟩,fun i=>?_,fun i hi=>?_,fun i hi=>?_,by rw [hl];have:=h.l11;omega,fun hs=>by rw [hl];have:=hone hs;omega⟩
 ·obtain ⟨M,k,kl⟩:=hxl i (by omega)
  exact ⟨k.z,kl⟩
 ·obtain ⟨M,k⟩:=h.sq 0 (by omega)
  rw [h.h0] at k;refine ⟨M,?_⟩;show vH c M (eY (gl Rs 0))
  rw [h.h0];exact Ur zc h0 k
 ·show eY (gl Rs _)=_
  rw [hl,h.l2,Uo]
 ·have hi2:i+2 < Rs.length:=by omega
  obtain ⟨zf,pf,hc,_⟩:=BU h h10 i hi2;obtain ⟨M,k,kl⟩:=hxl i (by omega);obtain ⟨M',k',kl'⟩:=hxl (i+1) (by omega);rw [FH Rs _ i (by omega)];have hq:=(Aw zf k'.z k.z hc k'.ne).1;show FF (eY (gl Rs i)) x=_
  rw [← show aX (qh Rs i) (eY (gl Rs (i+1)))=eY (gl Rs i) from funext hc,qE zf.lg k'.z.lg (by have:=k'.ne;have:=dK (eY (gl Rs (i+1)));omega) zf k'.z]
 ·by_cases hi:i < Rs.length-2
  ·rw [FH Rs _ i hi];exact (BU h h10 i (by omega)).1
  ·rw [FI (by omega)];exact kX
 ·rw [FH Rs _ i (by omega)];exact (BU h h10 i (by omega)).2.1
 ·rw [FH Rs _ i (by omega)];exact (BU h h10 i (by omega)).2.2.2
/-- The product of factors, on the way. -/
structure SqI(c:Nat→Int)(X:Nat→Nat→Int)(i:Nat)(o:Nat→Int):Prop where
 z:aZ o
 pm:bn o (lg o)=1
 dv:Dv (FF o) (FF c)
 eq:∀ x,FF o x*FF (X i) x=FF (X 0) x
theorem SqI.step{c o f:Nat→Int}{X:Nat→Nat→Int}{i:Nat}(h:SqI c X i o)(zc:aZ c)(h0:lg c≠0)(h10:lg c≤10)(zf:aZ f)(pf:Pm (lg f) f)(df:Dv (FF f) (FF c))(zX:aZ (X (i+1)))(hX0:Dv (FF (X 0)) (FF c))(he:∀ x,FF (X i) x=FF f x*FF (X (i+1)) x):SqI c X (i+1) (aX o f)∧(∀ x,FF (aX o f) x=FF o x*FF f x)∧lg o≤10∧lg f≤10:=by
 have l1:=(lC zc h.z h0 h.dv).2;have l2:=(lC zc zf h0 df).2;have zo:aZ (aX o f):=aZ.of (fK h.z.lg zf.lg) (by omega);have hF:∀ x,FF (aX o f) x=FF o x*FF f x:=qE h.z.lg zf.lg (by omega) h.z zf
 have hE:∀ x,FF (aX o f) x*FF (X (i+1)) x=FF (X 0) x:=fun x=>by rw [hF,← h.eq x,he x];grind
 refine ⟨⟨zo,?_,?_,hE⟩,hF,by omega,by omega⟩
 ·have h1:=adL h.z.lg zf.lg h.pm pf.one
  rwa [Tt (fK h.z.lg zf.lg) zo.lg] at h1
 ·exact Dv.trans (b:=FF (X 0)) ⟨FF (X (i+1)),cu zX,fun x=>by rw [← hE x];exact Rat.mul_comm _ _⟩ hX0
theorem SqI.fin{c o:Nat→Int}{X:Nat→Nat→Int}{n M:Nat}(h:SqI c X n o)(hX:vH c M (X 0))(h1:X n=iC 1):o=eY c:=by
 have e:o=X 0:=funext (F8 h.z hX.z fun x=>by rw [← h.eq x,h1,wH];grind);rw [e];exact hX.eq
theorem SqI.start{c:Nat→Int}{X:Nat→Nat→Int}(zc:aZ c):SqI c X 0 (iC 1):=⟨jH,FQ.one,⟨FF c,cu zc,fun x=>by rw [wH];grind⟩,fun x=>by rw [wH];grind⟩
/-- A bound of all divisors. -/
def Fa(c:Nat→Int)(M:Nat):Prop:=∀ g,aZ g→bn g (lg g)=1→Dv (FF g) (FF c)→Db M g
theorem ZT{K:Nat}{z:Int}(h:z.natAbs < B4^K)(hK:1≤K):Qb K (z:Rat):=⟨by rw [Rat.num_intCast];exact h,by rw [Rat.den_intCast];exact Nat.lt_of_lt_of_le (by decide) (Nat.pow_le_pow_right (show 0 < B4 by decide) hK)⟩
theorem LG{t:TypeId}{M K:Nat}{x y:Rat}(h:x=y)(hz:Qb K y):AO.le (.box t (qn M x)) (.box t (qn K y)):=by subst h;exact iY (eX hz)
theorem Db.bM{K:Nat}{c:Nat→Int}(h:Db K c)(z:aZ c):Db (K+1) (bM c):=fun i=>by
 unfold Go.Proofs.YtapmpcgekdplfaaGreat.bM
 by_cases hi:i+1 < 20
 ·have h1:=h (i+1)
  have e:∀ x:Nat,x*B4=x*10000:=fun _=>rfl
  rw [Int.natAbs_mul,Nat.pow_succ,e];have h2:((c (i+1)).natAbs*(((i+1:Nat):Int)).natAbs)≤(c (i+1)).natAbs*20:=Nat.mul_le_mul_left _ (show i+1≤20 by omega);omega
 ·rw [z (i+1) (by omega)];simp;exact Nat.pow_pos (by decide)
theorem abt{a b:Nat→Int}{K L:Nat}(za:aZ a)(ha:Db K a)(hb:Db L b):Db (K+L+1) (aX a b):=by
 have key:∀ j m,m≤20→(cv a b m j).natAbs≤m*B4^(K+L):=by
  intro j m
  induction m with
  | zero=>intro _;exact Nat.zero_le _
  | succ m ih=>
   intro hm;have h1:=ih (by omega);show (cv a b m j+(if m≤j then a m*b (j-m) else 0)).natAbs≤_
   rw [Nat.succ_mul];have h2:(if m≤j then a m*b (j-m) else 0).natAbs≤B4^(K+L):=by
    split
    ·exact Nat.le_of_lt (Qr (ha m) (hb (j-m)))
    ·exact Nat.zero_le _
   omega
 have more:∀ j d,cv a b (20+d) j=cv a b 20 j:=by
  intro j d
  induction d with
  | zero=>rfl
  | succ d ih=>
   show cv a b (20+d) j+(if 20+d≤j then a (20+d)*b (j-(20+d)) else 0)=_
   rw [ih,za (20+d) (by omega)];simp
 intro j;have h2:(aX a b j).natAbs≤20*B4^(K+L):=by
  unfold aX
  by_cases hj:j+1≤20
  ·exact Nat.le_trans (key j (j+1) hj) (Nat.mul_le_mul_right _ hj)
  ·obtain ⟨d,hd⟩:∃ d,j+1=20+d:=⟨j+1-20,by omega⟩
   rw [hd,more];exact key j 20 (Nat.le_refl _)
 have h3:=Nat.pow_pos (n:=K+L) (show 0 < B4 by decide);have e:∀ x:Nat,x*B4=x*10000:=fun _=>rfl
 rw [Nat.pow_succ,e];omega
theorem ahg{w:Nat→Int}{K:Nat}(h:Db K w)(j:Nat):Db K (Wh w j):=fun t=>by
 unfold Wh;split
 ·exact h t
 ·exact Nat.pow_pos (by decide)
theorem afC{w d:Nat→Int}{K L:Nat}(zw:aZ w)(hw:Db K w)(hd:Db L d)(j:Nat):Db (K+L+1) (gZ w d j):=abt (akk zw j) (ahg hw j) hd
theorem X7(q d:Nat→Int):∀ j:Nat,(∃ i,i < j∧q i≠0∧gZ q d j=gZ q d (i+1)∧E8 q j=E8 q (i+1))∨(gZ q d j=gZ q d 0∧E8 q j=E8 q 0)
 | 0=>Or.inr ⟨rfl,rfl⟩
 | j+1=>by
  by_cases h:q j=0
  ·rcases X7 q d j with ⟨i,h1,h2,h3,h4⟩ | ⟨h3,h4⟩
   ·exact Or.inl ⟨i,by omega,h2,(Oh h).trans h3,(PI h).trans h4⟩
   ·exact Or.inr ⟨(Oh h).trans h3,(PI h).trans h4⟩
  ·exact Or.inl ⟨j,by omega,h,rfl,rfl⟩
theorem aiF(q d:Nat→Int)(t:Nat):gZ q d 0 t=0:=vX (fun i=>aeA i (Nat.zero_le _)) t
/-! ### Operations that only look at slots may come first -/
section
variable {P:Program} {ops:Array Oper} {Q:Qs} {s:AS} {o:Oper}
def aaL(P:Program)(ops:Array Oper)(Q:Qs)(n:Nat)(listed:Array Bool)(s:AS):Prop:=∀ B0 w0 a w,J6 s B0 w0 a w→wpAny P .any ops (DQ Q B0 w0) n listed a w
theorem bOf{n:Nat}{listed:Array Bool}(h:xq P ops Q n listed s):aaL P ops Q n listed s:=fun B0 w0 a w hd=>Jk n listed s a w h hd
theorem adG{id:Nat}{l:List Oper}(hm:P.follows .mixedOrders=true)(h:aaL P l.toArray Q l.length (Array.replicate l.length false) s):AW P (.region id l.toArray true) Q s:=by
 intro B0 w0 a w hd;refine wp_region_any hm ?_;have hd':J6 s B0 w0 a {w with drawn:=w.drawn+1}:=by
  obtain ⟨ρ,hc,hn,hdf,hs⟩:=hd;have hK:kL (Bd ρ B0) w w.drew:=⟨Nat.le_refl _,fun _ _ _=>rfl⟩;exact ⟨ρ,⟨hc.bel.step (Below.refl _ _).drew,hc.b0,fun id v hv=>let ⟨ob,h1,h2⟩:=hc.obj id v hv;⟨ob,h1,h2.mv hK (fun _ _ hB=>hB) (fun _ _=>rfl)⟩,hc.dist⟩,hn,hdf,fun t av ht=>let ⟨v,h1,h2⟩:=hs t av ht;⟨v,h1,AR.mv hK (fun _ _ hB=>hB) (fun _ _=>rfl) h2⟩⟩
 have:=h B0 w0 a _ hd';rwa [show l.length=l.toArray.size from rfl] at this
def EvP(P:Program)(s:AS)(o:Oper)(av:AV):Prop:=∀ (ρ:nD) (B:BS) (w:World) (a:Act),(∀ x∈o.op.operands,∀ kZ,dM s x=some kZ→AR ρ B w kZ (a.eval x))→∃ v,(∀ w',(execOp a.eval o).run P w'= .ok (.value v) w')∧AR ρ B w av v
theorem wR{n:Nat}{listed:Array Bool}{av:AV}(i:Nat)(hi:ops[i]?=some o)(hs:Region.noSelect ops=true)(hf:Region.free .any ops listed i=true)(hr:(Region.ready .any ops listed).contains i=true)(hP:∀ c s,¬ Q (.panic c) s)(hg:o.guard=none)(hd:kP o.dst s.n=true)(h:EvP P s o av)(k:aaL P ops Q n (listed.setIfInBounds i true) (s.put o.dst av)):aaL P ops Q (n+1) listed s:=by
 rintro B0 w0 a w ⟨ρ,hc,hn,hdf,hsl⟩;obtain ⟨v,hv,hav⟩:=h ρ (Bd ρ B0) w a (fun x hx kZ hg=>bY hsl hg);refine wpAny_take hi hs hf hr ?_ (Or.inl ⟨by unfold Region.wanted;rw [hg],hv⟩) (k B0 w0 _ w (lU hc hn hdf hsl hd hav));rintro c a' w' ⟨s',hq,_⟩;exact absurd hq (hP c s')
theorem CQ{x:Operand}{av:AV}(hop:o.op= .move x)(hx:dM s x=some av):EvP P s o av:=fun ρ B w a ho=>⟨a.eval x,fun w'=>by {unfold execOp;rw [hop];rfl},ho x (by rw [hop];simp [Op.operands]) _ hx⟩
theorem aj0{c:Call}{t e:TypeId}{x:Operand}{sz n:Nat}{el:Nat→Nat→Lf}(hop:o.op= .call c)(hc:c.callee= .builtin .len)(ha:c.args.toList= [x])(ht:c.argTypes[0]?=some t)(hu:P.underlying t=some (.slice e))(hx:dM s x=some (.d (.one (.row sz n el)))):EvP P s o (.d (.one (.v (.int .i64 (n:Int))))):=by
 intro ρ B w a ho;obtain ⟨ad,cap,hxe,_⟩:=(ho x (by rw [hop];simp only [Op.operands,Call.operands];exact Array.mem_append.2 (Or.inr (by have:x∈c.args.toList:=(by rw [ha];simp);simpa using this))) _ hx:eu _ _ _ _);refine ⟨.int .i64 (n:Int),fun w'=>?_,rfl,rfl⟩;have ha':c.args=#[x]:=by rw [← Array.toList_inj];simpa using ha
 unfold execOp;rw [hop];simp [resolve,hc,ha',invoke,builtin,Builtin.len_,ht,hxe,run_underlying hu,goInt]
end
theorem afh{s:AS}{x:Operand}{k:IntKind}{n d:Nat}(h:jW s x=some (k,(n:Int))):qg s (some x) d=some n:=by
 unfold qg;simp only [h];show (if 0≤((n:Nat):Int) then some ((n:Nat):Int).toNat else none)=some n
 rw [if_pos (by omega)];rfl
theorem adF{P:Program}{s:AS}{ρ:nD}{B:BS}{w:World}{a:Act}{x:Operand}{d r y:Nat}{code:BoundsCode}(h:qg s (some x) d=some r)(hy:r≤y)(hs:∀ kZ,dM s x=some kZ→AR ρ B w kZ (a.eval x))(w':World):(Instr.sliceBound (a.eval x) y code).run P w'= .ok r w':=by
 unfold qg at h;simp only at h;split at h
 ·rename_i k z hx
  split at h
  ·rename_i hz
   cases h
   have he:=abY hx hs;have hzy:0≤z∧z≤(y:Int):=⟨hz,by omega⟩;simp [Instr.sliceBound,he,asIntOf,hzy]
  ·cases h
 ·cases h
theorem amY{P:Program}{T:TypeId→Option TI}(hT:Bj P T){o:Oper}{s:AS}{t e:TypeId}{x y y':Operand}{ti te:TI}{sz n h m:Nat}{el:Nat→Nat→Lf}(hop:o.op= .slice t x none (some y) (some y'))(hti:T t=some ti)(he:ti.elem=some e)(hte:T e=some te)(hx:dM s x=some (.d (.one (.row sz n el))))(h6:Nat.beq sz te.n=true)(hhi:qg s (some y) n=some h)(hmx:qg s (some y') n=some m)(h1:h≤m)(h2:m≤n):EvP P s o (.d (.one (.row sz h el))):=by
 intro ρ B w a ho;have h6':=Nat.eq_of_beq_eq_true h6;subst h6';obtain ⟨ad,cap,hxe,hn,hnil,hel⟩:=(ho x (by rw [hop];simp [Op.operands]) _ hx:eu _ _ _ _);obtain ⟨i,z,dd,g1,g2,g3,g4,g5,g6,g7,g8,g9,_⟩:=dA (hT _ _ hti);have:=g9 e he;subst this;obtain ⟨i',zz',dd',k1,k2,k3,k4,_⟩:=dA (hT _ _ hte);have b1:∀ w:World,(Instr.sliceBound (a.eval y') cap .slice3Acap).run P w= .ok m w:=adF hmx (by omega) (ho y' (by rw [hop];simp [Op.operands]))
 have b2:∀ w:World,(Instr.sliceBound (a.eval y) m .slice3B).run P w= .ok h w:=adF hhi h1 (ho y (by rw [hop];simp [Op.operands]))
 have hb:∀ w:World,(Instr.sliceBounds true n cap none (some (a.eval y)) (some (a.eval y'))).run P w= .ok (0,h,m) w:=by
  intro w;simp [Instr.sliceBounds,b1 w,b2 w]
 refine ⟨.slice (if m=0 then ad else ad.map (·.add (0*te.n))) (h-0) (m-0),?_,if m=0 then ad else ad.map (·.add (0*te.n)),m-0,rfl,by omega,fun hnone=>?_,fun q hq=>?_⟩
 ·intro w'
  unfold execOp;rw [hop];refine dF ?_;rw [hxe];simp only [Instr.sliceAt,Instr.slice,Sem.run_bind,run_underlying g3,Result.andThen_ok,sizeOf,typeInfo,run_program,k1,Sem.run_pure,Option.map_none,Option.map_some];rw [hb w'];simp [k4]
 ·cases ad with
  | none=>have:=hnil rfl;omega
  | some q=>
   by_cases hc':m=0
   ·omega
   ·rw [if_neg hc'] at hnone;cases hnone
 ·have hc':¬ m=0:=by omega
  rw [if_neg hc'];obtain ⟨b,off,rfl,hb1,hb2,hb3⟩:=hel q (by omega);exact ⟨b,off,by simp [add_lit],hb1,hb2,fun j hj=>hb3 j hj⟩
/-! ### A call that answers a row in new memory: it is the frame's own -/
structure zU(P:Program)(f:FuncId)(args:List DV)(e:TypeId)(sz n:Nat)(el:Nat→Nat→Lf):Prop where
 en:∀ vs w,(callFunc f vs).run P w= .ok (.enter f vs) w
 go:∀ (B:BS) (w:World) (vs:List Value),(∀ b,B b→b < w.heap.size)→zC B w args vs→Calls P f vs.toArray w fun r w'=>∃ v,r= .returned v∧Below w.heap.size w w'∧OR (fun b=>B b∨jA v=some b) ⟨w,fun _=>False⟩ w' (.row e sz n el) v
theorem mCR{P:Program}{ops:Array Oper}{Q:Qs}{o:Oper}{l:List Oper}{s:AS}{c:Call}{f:FuncId}{ds:List DV}{e:TypeId}{sz n d:Nat}{el:Nat→Nat→Lf}(h:zU P f ds e sz n el)(hc:jR o.op=some c)(hf:isF c.callee=some f)(ha:qX s c.args.toList=some ds)(hdst:o.dst=some d)(hfr:lk s.hp d=none) 
  (k:AL P ops Q l (s.mk' d (.row e sz n el))) (hg:jP ops s o=some true:=by rfl) (hd:kP (some d) s.n=true:=by rfl):AL P ops Q (o ::l) s:=by
 rintro B0 w0 a w ⟨ρ,hcr,hn,hdf,hs⟩;obtain ⟨vs,hvs,hr⟩:=C9 (cap:= []) hs hc (Le hf) ha h.en;rw [List.append_nil] at hvs;refine IQ (fQ hg hs) hr ((h.go (Bd ρ B0) w vs hcr.UN hvs).mono ?_);rintro r w' ⟨v,rfl,hb,xs,hown,hel⟩;refine ⟨v,rfl,?_⟩;have hρ:ρ d=none:=by
  cases hρ:ρ d with
  | none=>rfl
  | some u=>obtain ⟨ob',h1,_⟩:=hcr.obj d u hρ;rw [hfr] at h1;cases h1
 have hv:∀ b,jA v=some b→w.heap.size≤b:=fun b e=>(hown.2 b e).elim id (fun h=>h.elim)
 have hB:∀ b,Bd (up ρ d v) B0 b→Bd ρ B0 b∨jA v=some b:=by
  rintro b (h1 | ⟨id,u,h1,h2⟩)
  ·exact Or.inl (Or.inl h1)
  ·unfold up at h1
   split at h1
   ·cases h1;exact Or.inr h2
   ·exact Or.inl (Or.inr ⟨id,u,h1,h2⟩)
 have dX:OR (Bd (up ρ d v) B0) w0 w' (.row e sz n el) v:=⟨xs,⟨hown.1,fun b hb=>Or.inl (Nat.le_trans hcr.bel.size (hv b hb))⟩,fun i j hi hj=>let ⟨x,hx,hl⟩:=hel i j hi hj;⟨x,hx,eu.mv ⟨Nat.le_refl _,fun _ _ _=>rfl⟩ (fun b _ hb=>hB b hb) _ hl⟩⟩;have hc':fU (up ρ d v) B0 w0 w' ((d,.row e sz n el) ::s.hp):=hcr.new hρ hb hv (fun k ob hk hne=>by rw [aV,if_neg (fun e=>hne e.symm)];exact hk) (by rw [aV,if_pos rfl]) dX;have fM:gq (up ρ d v) (Bd (up ρ d v) B0) w' s.sl a:=fun t av ht=>let ⟨u,h1,h2⟩:=hs t av ht;⟨u,h1,h2.new hρ hb hv⟩
 refine k B0 w0 _ w' ?_;rw [hdst];exact ⟨_,hc',(by show (a.tmps.setIfInBounds d v).size=s.n;simpa using hn),hdf,oP fM hn (Nat.le_of_ble_eq_true hd) (AO.Gl dX (by simp [up]))⟩
/-- The post of a function's body that answers its own row. -/
def ahH(t:Nat)(r:AO):Qs
 | .normal,s | .ret,s=>∃ id ob,lk s.sl t=some (.own id)∧lk s.hp id=some ob∧AO.le ob r
 | _,_=>False
theorem rR{t:Nat}{r:AO}{s:AS}(id:Nat){ob:AO}(h:lk s.sl t=some (.own id))(k:lk s.hp id=some ob)(hl:AO.le ob r):ahH t r .ret s:=⟨id,ob,h,k,hl⟩
theorem afb{P : Program}{T : TypeId → Option TI}(hT : Bj P T){f : FuncId}{fn : Func}{c : Code}{args : List DV}{e : TypeId}{sz m : Nat}{el : Nat → Nat → Lf}(n t : Nat)(hf : P.funcs[f]? = some fn)(hb : fn.body = some c)(hnm : (fn.name == "runtime.NumGoroutine") = false)(hn : fn.ntmps = n)(hrs : fn.results.toList = [.tmp t])(hlen : Nat.ble args.length n = true) 
  (h:AW P c (ahH t (.row e sz m el)) ⟨n,params 0 args,[]⟩):zU P f args e sz m el:=by
 subst hn;refine ⟨fun vs w=>?_,fun B w vs hB hvs=>?_⟩
 ·have hnm' : ¬ fn.name = "runtime.NumGoroutine" := by simpa using hnm
  simp [callFunc,hf,hb,hnm']
 ·refine calls_of_wp hf hb ?_
  have hle:=Nat.le_of_ble_eq_true hlen;have hvl:=hvs.len;have hden:J6 ⟨fn.ntmps,params 0 args,[]⟩ B ⟨w,fun _=>False⟩ {tmps:=vs.toArray ++Array.replicate (fn.ntmps-vs.toArray.size) undef,defers:= []} w:=by
   have hBd:∀ b,b < w.heap.size→Bd (fun _=>none) B b→B b:=by
    rintro b _ (h | ⟨_,_,h,_⟩)
    ·exact h
    ·cases h
   refine ⟨fun _=>none,⟨Jc.refl _ _,(fun b hb=>⟨hB b hb,fun h=>h⟩),(fun _ _ h=>by cases h),(fun _ _ _ _ _ h=>by cases h)⟩,by simp;omega,rfl,fun t av ht=>?_⟩;have hvs':zC (Bd (fun _=>none) B) w args vs:=hvs.mv ⟨Nat.le_refl _,fun _ _ _=>rfl⟩ hBd;obtain ⟨k,v,h1,h2,h3⟩:=Ed (ρ:=fun _=>none) hvs' ht;refine ⟨v,?_,h3⟩;have hk:=(List.getElem?_eq_some_iff.1 h2).1;rw [h1,Nat.zero_add,Array.getElem?_append_left (by simpa using hk)];simpa using h2
  refine Code.wp_mono (fun e' a w' hq=>?_) (h B ⟨w,fun _=>False⟩ _ w hden);obtain ⟨s',hq,ρ,hc,hn,hdf,hs⟩:=hq;have fin:(∃ id ob,lk s'.sl t=some (.own id)∧lk s'.hp id=some ob∧AO.le ob (.row e sz m el))→∃ v,(results fn a.tmps).run P w'= .ok v w'∧∃ u,Ending.returned v= .returned u∧Below w.heap.size w w'∧OR (fun b=>B b∨jA u=some b) ⟨w,fun _=>False⟩ w' (.row e sz m el) u:=by
   rintro ⟨id,ob,h1,h2,h3⟩;obtain ⟨v,h4,h5,_⟩:=hs t _ h1;obtain ⟨ob',h6,h7⟩:=hc.obj id v h5;rw [h2] at h6;cases h6
   have h8:=h3 _ _ _ _ h7;refine ⟨Ru [v],yJ ?_,v,rfl,hc.bel.below (fun _ h=>h),h8.mv ⟨Nat.le_refl _,fun _ _ _=>rfl⟩ (fun b _ hb=>?_) (fun _ _=>rfl)⟩
   ·rw [hrs]
    have hv:(V8 a.tmps (.tmp t)).run P w'= .ok v w':=by simp [V8,Array.getD_eq_getD_getElem?,h4]
    rw [List.mapM_cons,Sem.run_bind,hv,Result.andThen_ok];rfl
   ·rcases hb with hb | hb
    ·exact Or.inl hb
    ·exact Or.inr ⟨id,v,h5,hb⟩
  cases e' with
  | normal=>obtain ⟨v,h1,h2⟩:=fin hq;exact ⟨hdf,v,h1,h2⟩
  | ret=>obtain ⟨v,h1,h2⟩:=fin hq;exact ⟨hdf,v,h1,h2⟩
  | exit id=>exact hq.elim
  | goto l=>exact hq.elim
  | panic ch=>exact hq.elim
  | outgrown=>exact hq.elim
section
variable {P:Program} {ops:Array Oper} {Q:Qs} {s:AS}
theorem anyV{n:Nat}{listed:Array Bool}{s':AS}(h:xq P ops Q (n+1) listed s')(r:Nat)(rs:List Nat)(hr:Region.ready .any ops listed=r ::rs)(hw:Wk s s'):xq P ops Q (n+1) listed s:=je hr hw h
end
theorem afs{d:Nat→Int}{z:Int}(zd:aZ d)(h0:lg d≠0)(hz:z≠0):dg (fO (rc d) ((z:Int):Rat)) (lg d)=lg d:=sV (Or.inr (by
 show ((d (lg d-1):Int):Rat)*((z:Int):Rat)≠0
 intro e
 rcases Rat.mul_eq_zero.1 e with e | e
 ·exact rX (kG h0) e
 ·exact rX hz e))
theorem abu(x:Int)(i:Nat){d:Nat→Int}{n:Nat}(h:∀ t,n≤t→d t=0):∀ t,i+n≤t→aX (mF x i) d t=0:=fun t ht=>by
 rw [nR,if_pos (by omega),h (t-i) (by omega),Int.mul_zero]
theorem ag8{K M X i n:Nat}{x:Int}{d:Nat→Int}(h1:K≤X)(h2:M≤X):∀ t,t < i+n→∀ j,j < 4→∀ B w v,eu B w (fB i (aK K (fun _=>0)) (aK M (fO (rc d) ((x:Int):Rat))) t j) v→eu B w (aK X (rc (aX (mF x i) d)) t j) v:=fun t ht j hj B w v hv=>by
 unfold fB at hv
 by_cases hti:t < i
 ·rw [show Nat.ble (t+1) i=true from Nat.ble_eq_true_of_le hti] at hv
  exact MF (n:=t+1) (c:=fun _=>0) h1 (fun p hp=>by show (0:Rat)=((aX (mF x i) d p:Int):Rat);rw [nR,if_neg (by omega)];rfl) t (by omega) j hj B w v hv
 ·rw [show Nat.ble (t+1) i=false from by rw [← Bool.not_eq_true,Nat.ble_eq];omega] at hv
  have e:aK M (fO (rc d) ((x:Int):Rat)) (t-i) j=aK M (rc (aX (mF x i) d)) t j:=by
   have e2:fO (rc d) ((x:Int):Rat) (t-i)=rc (aX (mF x i) d) t:=by
    show ((d (t-i):Int):Rat)*((x:Int):Rat)=((aX (mF x i) d t:Int):Rat)
    rw [nR,if_pos (by omega),Rat.intCast_mul];exact Rat.mul_comm _ _
   unfold aK;rw [e2]
  rw [show (bif false then aK K (fun _=>0) t j else aK M (fO (rc d) ((x:Int):Rat)) (t-i) j)=aK M (rc (aX (mF x i) d)) t j from e] at hv;exact MF (n:=t+1) h2 (fun _ _=>rfl) t (by omega) j hj B w v hv
theorem sub_le{K KC N i:Nat}{q d:Nat→Int}(zi:aZ (gZ q d i))(bi:Db KC (gZ q d i))(hK:1≤KC)(hN:∀ t,N≤t→gZ q d i t=0):AV.le (.d (.one (dJ K (dg (lM (rc (gZ q d (i+1))) (fO (rc (aX (mF (q i) i) d)) ((-1:Int):Rat))) N) (lM (rc (gZ q d (i+1))) (fO (rc (aX (mF (q i) i) d)) ((-1:Int):Rat)))))) (.d (.one (dJ KC (lg (gZ q d i)) (rc (gZ q d i))))):=by
 have e:lM (rc (gZ q d (i+1))) (fO (rc (aX (mF (q i) i) d)) ((-1:Int):Rat))=rc (gZ q d i):=funext fun t=>by
  show ((gZ q d (i+1) t:Int):Rat)+((aX (mF (q i) i) d t:Int):Rat)*((-1:Int):Rat)=((gZ q d i t:Int):Rat)
  rw [BR,Rat.intCast_add,show ((-1:Int):Rat)= -1 from rfl];grind
 rw [e];exact oZ (uj hN zi) hK bi
theorem WQ{K L Kq KC:Nat}{c d q:Nat→Int}(zc:aZ c)(zd:aZ d)(hc19:lg c≤19)(h0:lg d≠0)(zq:aZ q)(bq:Db Kq q)(hq:∀ i,aX q d i=c i)(ny:Kq+L+1≤KC)(hK:K≤KC)(h64:64≤KC)(hq1:1≤Kq)(hC:KC≤1000000:=by omega):aC Tryz.prog 122 [.one (dJ K (lg c) (rc c)),.one (dJ L (lg d) (rc d))] (.lK [.one (dJ Kq (lg q) (rc q)),.one (dJ KC (lg (gZ q d 0)) (rc (gZ q d 0)))]):=by
 refine aC.l9 (fC Tryz.func122 rfl rfl) (p:=Db K c∧Db L d) (fun B w vs h=>match vs,h with | [_,_],⟨h1,h2,_⟩=>⟨lW zc.lg h1,lW zd.lg h2⟩) (fun hb=>?_);obtain ⟨hbc,hbd⟩:=hb;refine aN 84 [.tmp 4,.tmp 5] Tryz.func122 rfl<|cR<|mv2 rfl rfl<|mT<|au ?_;have hlc:=dK c;have hld:=dK d;obtain ⟨hlq,hq0⟩:=Aw zq zd zc hq h0;have hce:c=gZ q d (lg q):=by unfold gZ;rw [ac6 zq.lg];exact (funext hq).symm
 refine aA<|mv4 rfl rfl rfl rfl<|mV aj (.d (.one (.v (.int .i64 ((lg c:Int)-(lg d:Int)))))) (fH (dS (by omega) (by omega)))<|mV aj (.d (.one (.v (.int .i64 ((lg c:Int)-(lg d:Int)+1))))) (fH (dS (by omega) (by omega))) ?_;refine mV aj (.d (.one (.v (.int .i64 ((lg q:Nat):Int))))) (fH (by rw [if_pos rfl];split <;> omega)) ?_;refine mN aj (.row 49 4 (lg q) (fun _ j=> .v ((([Value.slice none 0 0,Value.bool false,Value.slice none 0 0,Value.bool false]:List Value)[j]?).getD undef))) (mkO (zl:=((lg q:Nat):Int)) (zc:=((lg q:Nat):Int)) (Xj:=64) rfl rfl rfl rfl rfl (by omega) (by omega) rfl rfl rfl (by omega) (by omega) rfl) rfl rfl<|mW rfl<|mT<|au<|cR<|mv3 rfl rfl rfl<|mT<|aJ<|dQ (ι:=Nat) (fun (i:Nat)=>⟨84,[(0,.d (.one (.row 4 (lg c) (aK K (rc c))))),(1,.d (.one (.row 4 (lg d) (aK L (rc d))))),(6,.own 19),(21,.d (.one (.v (.int .i64 ((lg q:Nat):Int))))),(22,.d (.one (.v (.int .i64 ((i:Nat):Int)))))],[(19,.row 49 4 (lg q) (Au 64 i (fun _=>0) (fun j=> .v ((([Value.slice none 0 0,Value.bool false,Value.slice none 0 0,Value.bool false]:List Value)[j]?).getD undef))))]⟩) (fun (i:Nat)=>i≤lg q) (fun (i:Nat)=>lg q-i) 0 (Nat.zero_le _) (wk rfl ⟨hs rfl,hs rfl,hs rfl,hs rfl,fM rfl (aG rfl),trivial⟩ ⟨dX rfl (Hr),trivial⟩ rfl) ?_;rintro i hI;have hi:i≤lg q:=hI;show AW _ _ _ ⟨_,_,_⟩
 refine cR<|mW rfl<|mT<|au<|aW rfl (fun hc1=>?_) (fun hc1=>?_)
 ·refine aF<|tN<|au<|aJ<|au ?_;have hin:i < lg q:=by have h0:=of_decide_eq_true hc1;omega
  exact aA<|mv2 rfl rfl<|mT<|aA<|mv2 rfl rfl<|mY (DL) rfl<|mV aj (.dU 19 4 i 0) (qy (z:=((i:Nat):Int)) (n:=(lg q)) rfl rfl rfl rfl rfl rfl rfl (by omega) (by omega))<|mZ rfl<|ak<|bN<|tN<|aA<|mv2 rfl rfl<|ak<|⟨(i+1),by omega,by omega,wk rfl ⟨hs rfl,hs rfl,hs rfl,hs rfl,fM rfl (aG (dG (by omega))),trivial⟩ ⟨dX rfl (RF (Nat.le_refl _) rfl),trivial⟩ rfl⟩
 ·refine dO<|tE<|tE<|bE<|tN<|au<|aJ ?_;have hie:lg q=i:=by have h0:=of_decide_eq_false hc1;omega
  subst hie;refine wK [6,1,0] [19] rfl rfl<|wB [6,1,0] [] 19 (.row 49 4 (lg q) (aK KC (rc (E8 q (lg q))))) rfl rfl (LD (Kf:=fun _=>KC) (d:=rc (E8 q (lg q))) (fun _ _=>by omega) (fun p hp=>by show (0:Rat)=((E8 q (lg q) p:Int):Rat);rw [show E8 q (lg q) p=0 from if_pos hp];rfl)) rfl<|dQ (ι:=Nat) (fun (j:Nat)=>⟨84,[(0,.d (.one (.row 4 (lg (gZ q d j)) (aK KC (rc (gZ q d j)))))),(1,.d (.one (.row 4 (lg d) (aK L (rc d))))),(6,.own 19)],[(19,.row 49 4 (lg q) (aK KC (rc (E8 q j))))]⟩) (fun (j:Nat)=>j≤lg q) (fun (j:Nat)=>j) (lg q) (Nat.le_refl _) (wk rfl ⟨fM rfl (AV.le.trans (iP (by omega) (hbc.mono hK)) (AV.of_eq (by rw [← hce];rfl))),hs rfl,hs rfl,trivial⟩ ⟨ho rfl,trivial⟩ rfl) ?_;rintro j hI;have hj:j≤lg q:=hI;show AW _ _ _ ⟨_,_,_⟩
  refine au<|au ?_;rcases X7 q d j with ⟨i,hij,hqi,he,hu⟩ | ⟨he,hu⟩
  ·have hcc:=hq0 (by omega);have hlz:=afD (w:=q) (i:=i) zd h0 (by omega) hqi;have htop:gZ q d (i+1) (lg d+i-1)=q i*d (lg d-1):=by rw [show lg d+i-1=lg d-1+i by omega];exact Ti zd.lg h0
   have hdt:=kG h0;have bi:Db KC (gZ q d i):=(afC zq bq hbd i).mono ny;have bqi:Db KC q:=bq.mono (by omega);have zi:=Og (w:=q) (j:=i) zd.lg h0 (by omega);have zj:=Og (w:=q) (j:=i+1) zd.lg h0 (by omega);refine iJ 0 (.d (.one (.row 4 (lg (gZ q d (i+1))) (aK KC (rc (gZ q d (i+1))))))) rfl (AV.of_eq (by rw [he]))<|wB [6,1,0] [] 19 (.row 49 4 (lg q) (aK KC (rc (E8 q (i+1))))) rfl rfl (AO.of_eq (by rw [hu])) rfl<|aA<|mv4 rfl rfl rfl rfl<|mdT rfl (by omega)<|mT<|cT rfl<|aF<|tN<|aJ<|cR<|mv4 rfl rfl rfl rfl<|mV aj (.d (.one (.v (.int .i64 ((i:Nat):Int))))) (fH ((dS (by omega) (by omega)).trans (by omega)))<|mW rfl<|mT<|au<|cDk 14<|.cons (aB.V _ rfl)<|.cons (aB.V _ rfl)<|oV rfl<|.cons (aB.V (.d (.one (.v (.int .i64 ((lg d+i-1:Nat):Int))))) (fH ((dS (by omega) (by omega)).trans (by omega))))<|.cons (aB.V (.d (.one (.at 4 ((aK KC (rc (gZ q d (i+1)))) (lg d+i-1))))) (lu (el:=(aK KC (rc (gZ q d (i+1))))) (z:=((lg d+i-1:Nat):Int)) (n:=(lg (gZ q d (i+1)))) rfl rfl rfl rfl rfl rfl (by omega) (by omega))) ?_;refine oV rfl<|.cons (aB.V _ rfl)<|.cons (aB.V _ rfl)<|oV rfl<|.cons (aB.V (.d (.one (.v (.int .i64 ((lg d-1:Nat):Int))))) (fH ((dS (by omega) (by omega)).trans (by omega))))<|.cons (aB.V (.d (.one (.at 4 ((aK L (rc d)) (lg d-1))))) (lu (el:=(aK L (rc d))) (z:=((lg d-1:Nat):Int)) (n:=(lg d)) rfl rfl rfl rfl rfl rfl (by omega) (by omega))) ?_;refine oV rfl<|oC (KA (lq KC ((rc (gZ q d (i+1))) (lg d+i-1))) (lq L ((rc d) (lg d-1))) (rX hdt) (M:=(max (KC+L+1) 64))) rfl<|.cons (aB.N (.box 49 ([.v (.slice none 0 0),.v (.bool false),.v (.slice none 0 0),.v (.bool false)])) rfl 9 rfl rfl)<|.nil<|mZ rfl<|mT<|au<|wB [9,52,51,50,49,48,47,46,45,44,43,42,41,40,8,39,38,37,36,35,34,33,32,31,30,6,1,0] [19] 9 (.box 49 (qn KC (rc q i))) rfl rfl (LG (by show ((gZ q d (i+1) (lg d+i-1):Int):Rat) / ((d (lg d-1):Int):Rat)=((q i:Int):Rat);rw [htop,Rat.intCast_mul];have hn:=rX hdt;grind) (ZT (bqi i) (by omega))) rfl ?_;refine aA<|mv3 rfl rfl rfl<|mV aj (.dU 19 4 i 0) (qy (z:=((i:Nat):Int)) (n:=(lg q)) rfl rfl rfl rfl rfl rfl rfl (by omega) (by omega))<|mZ rfl<|mT<|au<|wB [56,55,54,53,9,52,51,50,49,48,47,46,45,44,43,42,41,40,8,39,38,37,36,35,34,33,32,31,30,6,1,0] [9] 19 (.row 49 4 (lg q) (aK KC (rc (E8 q i)))) rfl rfl (aki (Kf:=fun _=>KC) (Lf':=fun _=>KC) (fun _ _ _=>Nat.le_refl _) (Nat.le_refl _) (congrArg (fun z:Int=>(z:Rat)) (ahi q i)) (fun p _ hp=>congrArg (fun z:Int=>(z:Rat)) (aay hp))) rfl ?_;refine aA<|mW rfl<|mN aj (.row 49 4 i (fun _ j=> .v ((([Value.slice none 0 0,Value.bool false,Value.slice none 0 0,Value.bool false]:List Value)[j]?).getD undef))) (mkO (zl:=((i:Nat):Int)) (zc:=((i:Nat):Int)) (Xj:=64) rfl rfl rfl rfl rfl (by omega) (by omega) rfl rfl rfl (by omega) (by omega) rfl) rfl rfl<|mW rfl<|mT<|au<|cR<|mv3 rfl rfl rfl<|mT<|aJ<|dQ (ι:=Nat) (fun (k:Nat)=>⟨84,[(0,.d (.one (.row 4 (lg (gZ q d (i+1))) (aK KC (rc (gZ q d (i+1))))))),(1,.d (.one (.row 4 (lg d) (aK L (rc d))))),(6,.own 19),(8,.d (.one (.v (.int .i64 ((i:Nat):Int))))),(9,.ptr 9 0),(10,.own 58),(60,.d (.one (.v (.int .i64 (i:Int))))),(61,.d (.one (.v (.int .i64 ((k:Nat):Int)))))],[(9,.box 49 (qn KC (rc q i))),(19,.row 49 4 (lg q) (aK KC (rc (E8 q i)))),(58,.row 49 4 i (Au 64 k (fun _=>0) (fun j=> .v ((([Value.slice none 0 0,Value.bool false,Value.slice none 0 0,Value.bool false]:List Value)[j]?).getD undef))))]⟩) (fun (k:Nat)=>k≤i) (fun (k:Nat)=>i-k) 0 (Nat.zero_le _) (wk rfl ⟨hs rfl,hs rfl,hs rfl,hs rfl,hs rfl,hs rfl,hs rfl,fM rfl (aG rfl),trivial⟩ ⟨ho rfl,ho rfl,dX rfl (Hr),trivial⟩ rfl) ?_;rintro k hI;have hk:k≤i:=hI;show AW _ _ _ ⟨_,_,_⟩
   refine cR<|mW rfl<|mT<|au<|aW rfl (fun hc2=>?_) (fun hc2=>?_)
   ·refine aF<|tN<|au<|aJ<|au ?_;have hkn:k < i:=by have h0:=of_decide_eq_true hc2;omega
    exact aA<|mv2 rfl rfl<|mT<|aA<|mv2 rfl rfl<|mY (DL) rfl<|mV aj (.dU 58 4 k 0) (qy (z:=((k:Nat):Int)) (n:=i) rfl rfl rfl rfl rfl rfl rfl (by omega) (by omega))<|mZ rfl<|ak<|bN<|tN<|aA<|mv2 rfl rfl<|ak<|⟨(k+1),by omega,by omega,wk rfl ⟨hs rfl,hs rfl,hs rfl,hs rfl,hs rfl,hs rfl,hs rfl,fM rfl (aG (dG (by omega))),trivial⟩ ⟨ho rfl,ho rfl,dX rfl (RF (Nat.le_refl _) rfl),trivial⟩ rfl⟩
   ·refine dO<|tE<|tE<|bE<|tN ?_;have hke:i=k:=by have h0:=of_decide_eq_false hc2;omega
    subst hke;refine wK [10,9,6,1,0] [58,19,9] rfl rfl<|wB [10,9,6,1,0] [19,9] 58 (.row 49 4 i (aK KC (fun _=>0))) rfl rfl (LD (Kf:=fun _=>KC) (d:=fun _=>0) (fun _ _=>by omega) (fun _ _=>rfl)) rfl<|adG (by kernel_rfl)<|wR 0 rfl (by kernel_rfl) (by kernel_rfl) (by kernel_rfl) (fun _ _ h=>h) rfl rfl (av:= .d (.one (.row 4 (lg (gZ q d (i+1))) (aK KC (rc (gZ q d (i+1))))))) (CQ rfl rfl)<|wR 1 rfl (by kernel_rfl) (by kernel_rfl) (by kernel_rfl) (fun _ _ h=>h) rfl rfl (av:= .d (.one (.row 4 (lg (gZ q d (i+1))) (aK KC (rc (gZ q d (i+1))))))) (CQ rfl rfl)<|wR 2 rfl (by kernel_rfl) (by kernel_rfl) (by kernel_rfl) (fun _ _ h=>h) rfl rfl (av:= .d (.one (.v (.int .i64 ((lg (gZ q d (i+1)):Nat):Int))))) (aj0 rfl rfl rfl rfl Tryz.underlying43 rfl)<|wR 3 rfl (by kernel_rfl) (by kernel_rfl) (by kernel_rfl) (fun _ _ h=>h) rfl rfl (av:= .d (.one (.row 4 (lg (gZ q d (i+1))) (aK KC (rc (gZ q d (i+1))))))) (CQ rfl rfl)<|wR 4 rfl (by kernel_rfl) (by kernel_rfl) (by kernel_rfl) (fun _ _ h=>h) rfl rfl (av:= .d (.one (.v (.int .i64 ((lg (gZ q d (i+1)):Nat):Int))))) (aj0 rfl rfl rfl rfl Tryz.underlying43 rfl)<|wR 5 rfl (by kernel_rfl) (by kernel_rfl) (by kernel_rfl) (fun _ _ h=>h) rfl rfl (av:= .d (.one (.row 4 (lg (gZ q d (i+1))) (aK KC (rc (gZ q d (i+1))))))) (amY aj (h:=(lg (gZ q d (i+1)))) (m:=(lg (gZ q d (i+1)))) rfl rfl rfl rfl rfl rfl (afh rfl) (afh rfl) (by omega) (by omega))<|wR 6 rfl (by kernel_rfl) (by kernel_rfl) (by kernel_rfl) (fun _ _ h=>h) rfl rfl (av:= .own 58) (CQ rfl rfl)<|wR 7 rfl (by kernel_rfl) (by kernel_rfl) (by kernel_rfl) (fun _ _ h=>h) rfl rfl (av:= .d (.one (.row 4 (lg d) (aK L (rc d))))) (CQ rfl rfl)<|bOf<|oG [8] (by kernel_rfl) rfl ?_;refine ⟨⟨_,rfl,?_⟩,trivial⟩;refine mW rfl<|mT<|oG [9] (by kernel_rfl) rfl ?_;refine ⟨⟨_,rfl,?_⟩,trivial⟩;refine mY (Fj (wZ (K:=L) (c:=(rc d)) (ql zd.lg)) (lq KC (rc q i)) (M:=(max ((L+KC)+1) 64))) rfl<|mT<|oG [10] (by kernel_rfl) rfl ?_;refine ⟨⟨_,rfl,?_⟩,trivial⟩;refine kH 78 (.d (.one (.row 4 (lg d) (aK (max ((L+KC)+1) 64) (fO (rc d) (rc q i)))))) rfl (nU (Nat.le_refl _) (afs zd h0 hqi) (fun _ _=>rfl))<|mA aj (id:=58) (n:=i) (m:=(lg d)) (el:=(aK KC (fun _=>0))) (el2:=(aK (max ((L+KC)+1) 64) (fO (rc d) (rc q i)))) rfl rfl rfl (by show (i+(lg d))*64≤140737488355328;omega) (by omega) rfl rfl rfl rfl rfl rfl rfl rfl rfl rfl<|mT<|oG [11] (by kernel_rfl) rfl ?_;refine ⟨⟨_,rfl,?_⟩,trivial⟩;refine AL.wk (jf 58 rfl)<|kH 79 (.d (.one (.row 4 (i+lg d) (aK (KC+L+70) (rc (aX (mF (q i) i) d)))))) rfl (fJ (qp (ag8 (by omega) (by omega))))<|mY (ah3 (wZ (K:=KC) (c:=(rc (gZ q d (i+1)))) (ql (Og zd.lg h0 (by omega)).lg)) (wZ (K:=(KC+L+70)) (c:=(rc (aX (mF (q i) i) d))) (ql (abu (q i) i zd.lg))) (M:=(((max KC 64)+(max ((KC+L+70)+65) 64))+1))) rfl<|mT<|oG [12] (by kernel_rfl) rfl ?_;refine ⟨⟨_,rfl,?_⟩,trivial⟩;exact mW rfl<|mT<|aii (by kernel_rfl)<|bN<|⟨i,by omega,by omega,wk rfl ⟨fM rfl (sub_le zi bi (by omega) (fun t ht=>Tj zd.lg h0 t (by omega))),hs rfl,hs rfl,trivial⟩ ⟨ho rfl,trivial⟩ rfl⟩
  ·have hz0:lg (gZ q d j)=0:=by rw [he];exact (gW (Og zd.lg h0 (by omega))).2 (aiF q d)
   exact aA<|mv4 rfl rfl rfl rfl<|mdF rfl (by omega)<|mT<|cF rfl<|dO<|tE<|tE<|bE<|tN<|au<|wK [6,0] [19] rfl rfl<|iJ 0 (.d (.one (.row 4 (lg (gZ q d 0)) (aK KC (rc (gZ q d 0)))))) rfl (AV.of_eq (by rw [he]))<|wB [6,0] [] 19 (.row 49 4 (lg q) (aK KC (rc q))) rfl rfl (AO.of_eq (by rw [hu,akw])) rfl<|AW.wk (jf 19 rfl)<|aA<|mW rfl<|mY Bo rfl<|mv3 rfl rfl rfl<|mT<|aO<|rQ rfl (jq (dl (FD (oZ (uj zq.lg zq) hq1 bq)) (dl DV.same iM)))
def BO(K:Nat)(L:List (Nat→Int)):Nat→Nat→Lf:=fun i _=>dJ K (lg (gl L i)) (rc (gl L i))
def bH(K:Nat)(L:List (Nat→Int)):Lf:= .row 1 L.length (BO K L)
theorem Ht{e:TypeId}{K n:Nat}{L:List (Nat→Int)}{b:Nat→Int}{el2:Nat→Nat→Lf}(hn:n=L.length)(h2:el2 0 0=dJ K (lg b) (rc b)):AO.le (.row e 1 (n+1) (fB n (BO K L) el2)) (.row e 1 (L ++ [b]).length (BO K (L ++ [b]))):=by
 subst hn;rw [show (L ++ [b]).length=L.length+1 from by rw [List.length_append];rfl];refine fV fun i hi j hj B w v hv=>?_
 obtain rfl:j=0:=by omega
 unfold fB at hv
 by_cases h:i < L.length
 ·rw [show Nat.ble (i+1) L.length=true from Nat.ble_eq_true_of_le h] at hv
  unfold BO;rw [xQ h];exact hv
 ·obtain rfl:i=L.length:=by omega
  rw [show Nat.ble (L.length+1) L.length=false from by rw [← Bool.not_eq_true,Nat.ble_eq];omega,Nat.sub_self] at hv;unfold BO;rw [tq,← h2];exact hv
theorem OE{e:TypeId}{K:Nat}{b:Nat→Int}{el2:Nat→Nat→Lf}(h2:el2 0 0=dJ K (lg b) (rc b)):AO.le (.row e 1 1 el2) (.row e 1 [b].length (BO K [b])):=fV fun i hi j hj B w v hv=>by
 obtain rfl:i=0:=by omega
 obtain rfl:j=0:=by omega
 rw [h2] at hv;exact hv
theorem XO{X L:Nat}{c:Nat→Int}(z:aZ c)(hL:1≤L)(h:Db L (bM c)):AV.le (.d (.one (dJ X (dg (KN (rc c)) (lg c-1)) (KN (rc c))))) (.d (.one (dJ L (lg (bM c)) (rc (bM c))))):=by
 have e:KN (rc c)=rc (bM c):=funext (acG c);rw [e];exact oZ (uj (D5 z.lg) (eH z)) hL h
theorem acE{K:Nat}(hK:1≤K):Db K (iC 1):=fun i=>by
 have h:1 < B4^K:=Nat.lt_of_lt_of_le (by decide) (Nat.pow_le_pow_right (show 0 < B4 by decide) hK);unfold iC;split
 ·exact h
 ·exact Nat.lt_of_le_of_lt (Nat.zero_le _) h
theorem Zr{K:Nat}(hK:1≤K):AV.le (.d (.one (dJ 64 (dg (rc (EH [1])) 1) (rc (EH [1]))))) (.d (.one (dJ K (lg (iC 1)) (rc (iC 1))))):=by
 have e:EH [1]=iC 1:=funext fun i=>by
  cases i with
  | zero=>rfl
  | succ i=>rw [wI (i+1) (by omega)];exact ajU (i+1) (by simp)
 rw [e];exact AV.le.trans (nU (Nat.le_refl _) (by rw [nY];rfl) (fun _ _=>rfl)) (iP hK (acE hK))
section
variable {c:Nat→Int} {M:Nat} {Rs:List (Nat→Int)}
theorem P6.b(h:P6 c Rs)(hB:Fa c M)(i:Nat)(hi:i < Rs.length):Db M (gl Rs i):=hB _ (h.z i) (h.pm i hi).one (h.dv i hi)
/-- The squarefree parts on the way. -/
theorem Wq.x(h:Wq c Rs)(hB:Fa c M)(i:Nat)(hi:i < Rs.length):aZ (eY (gl Rs i))∧Pm (lg (eY (gl Rs i))) (eY (gl Rs i))∧Db M (eY (gl Rs i))∧lg (eY (gl Rs i))≤lg c:=by
 obtain ⟨N,k⟩:=h.sq i hi;have h1:=(lC (h.z i) k.z (h.pm i hi).pos k.dv).2;have:=h.l i;exact ⟨k.z,k.pm,hB _ k.z k.pm.one (k.dv.trans (h.dv i hi)),by omega⟩
theorem Wq.f(h:Wq c Rs)(hB:Fa c M)(h10:lg c≤10)(i:Nat)(hi:i+2 < Rs.length):aZ (qh Rs i)∧Pm (lg (qh Rs i)) (qh Rs i)∧Db M (qh Rs i)∧∀ j,aX (qh Rs i) (eY (gl Rs (i+1))) j=eY (gl Rs i) j:=by
 obtain ⟨h1,h2,h3,h4⟩:=BU h h10 i hi;exact ⟨h1,h2,hB _ h1 h2.one h4,h3⟩
theorem P6.e(h:P6 c Rs)(zc:aZ c)(h2:2≤lg c)(h10:lg c≤10)(hl:lg (gl Rs (Rs.length-1))≤1):∃ Es,Es=Rs ++ [iC 1]∧Wq c Es∧(zD (FF c) (FF (bM c))→Es.length≤3)∧3≤Es.length:=by
 refine ⟨_,rfl,h.fin zc h2 h10 hl,fun hs=>?_,?_⟩
 ·have:=h.one zc (by omega) hs
  rw [List.length_append];show Rs.length+1≤3;omega
 ·rw [List.length_append]
  show 3≤Rs.length+1
  apply Classical.byContradiction;intro hn;have h3:=h.ne;have e:Rs.length-1=0:=by omega
  rw [e,h.h0,dI zc] at hl;omega
end
theorem UK{K M KC N:Nat}{c:Nat→Int}(zc:aZ c)(h2:2≤lg c)(hN:N≤10)(ED:lg c≤N)(uT:1≤M)(hM1:1≤M)(hB:Fa c M)(hK1:1≤K)(hK:K≤100000)(ny:(M+2)*(2*3^N)≤KC)(hC:KC≤90000):aC Tryz.prog 94 [.one (dJ K (lg c) (rc c))] (.d (.one (aY (aaN c) (fun Ls=>bH M Ls)))):=by
 have hlc:=dK c;have hMK:M+2≤KC:=Nat.le_trans (Nat.le_mul_of_pos_right _ (Nat.mul_pos (by decide) (Nat.pow_pos (by decide)))) ny;have hbp:Db M (bC c):=hB _ (fZ zc) (jM zc (by omega)).one (KP zc (by omega));refine aN 94 [.tmp 2] Tryz.func94 rfl<|cR<|mW rfl<|mT<|au<|cR<|mv2 rfl rfl<|mdF rfl (by omega)<|mT<|cFs rfl<|cR<|mW rfl<|mY (oW zc) rfl<|mW rfl<|mT<|au<|iJ 0 (.d (.one (.row 4 (lg (bC c)) (aK M (rc (bC c)))))) rfl (iP hM1 hbp)<|aA<|mW rfl<|mT<|cR<|mW rfl<|mR aj (.row 43 1 1 (fun i' j'=>(([.row 4 (lg (bC c)) (aK M (rc (bC c)))])[i'*1+j']?).getD (.v undef))) rfl rfl rfl<|mW rfl<|mT<|au<|aJ<|wB [4,19,18,3,17,16,15,14,13,2,0] [] 19 (.row 43 1 ([bC c].length) (BO M [bC c])) rfl rfl (OE rfl) rfl<|dQ (ι:=List (Nat→Int)) (fun (Rs:List (Nat→Int))=>⟨94,[(3,.d (.one (.v (.slice none 0 0)))),(4,.own 19)],[(19,.row 43 1 ((Rs).length) (BO M Rs))]⟩) (fun (Rs:List (Nat→Int))=>P6 c Rs) (fun (Rs:List (Nat→Int))=>lg (gl Rs (Rs.length-1))) ([bC c]) (.start zc h2) (wkr rfl rfl) ?_;rintro Rs hI;have hF:P6 c Rs:=hI;show AW _ _ _ ⟨_,_,_⟩
 refine au<|au ?_;have hne:=hF.ne;have hRl:=hF.ln;refine aA<|mv3 rfl rfl rfl<|mV aj (.d (.one (.v (.int .i64 ((Rs.length-1:Nat):Int))))) (fH ((dS (by omega) (by omega)).trans (by omega)))<|mV aj (.dU 19 1 (Rs.length-1) 0) (qy (z:=((Rs.length-1:Nat):Int)) (n:=((Rs).length)) rfl rfl rfl rfl rfl rfl rfl (by omega) (by omega))<|mv3 rfl rfl rfl<|mT<|aW rfl (fun hc1=>?_) (fun hc1=>?_)
 ·refine aF<|tN<|aJ<|au ?_;have hgt:2≤lg (gl Rs (Rs.length-1)):=by have h0:=of_decide_eq_true hc1;omega
  have zl:=hF.z (Rs.length-1);have hll:=hF.l (Rs.length-1);have bl:=hF.b hB (Rs.length-1) (by omega);have dl_:=D9 zl (by omega);have hd2:lg (bM (gl Rs (Rs.length-1)))≠0:=fun e=>by have:=uP zl e;omega
  refine aA<|mv3 rfl rfl rfl<|mV aj (.d (.one (.v (.int .i64 ((Rs.length-1:Nat):Int))))) (fH ((dS (by omega) (by omega)).trans (by omega)))<|mV aj (.dU 19 1 (Rs.length-1) 0) (qy (z:=((Rs.length-1:Nat):Int)) (n:=((Rs).length)) rfl rfl rfl rfl rfl rfl rfl (by omega) (by omega))<|mv2 rfl rfl<|mT<|aA<|mv3 rfl rfl rfl<|mY (adz (wZ (K:=M) (c:=(rc (gl Rs (Rs.length-1)))) (ql (hF.z (Rs.length-1)).lg)) (M:=(max (M+65) 64))) rfl<|kH 35 (.d (.one (.row 4 (lg (gl Rs (Rs.length-1))) (aK (M+1) (rc (gl Rs (Rs.length-1))))))) rfl (nU (by omega) rfl (fun _ _=>rfl))<|kH 37 (.d (.one (.row 4 (lg (bM (gl Rs (Rs.length-1)))) (aK (M+1) (rc (bM (gl Rs (Rs.length-1)))))))) rfl (XO zl (by omega) (bl.bM zl))<|mY (ah1 (KC:=KC) (N:=N) zl (eH zl) hN (by omega) (by omega) (by omega) (by omega) hC) rfl<|mEx (Qx:=nN (gl Rs (Rs.length-1)) (bM (gl Rs (Rs.length-1))) (21*(M+1)+3)) (L:=fun g=>dJ (63*(M+1)+9) (lg g) (rc g)) 38 rfl (fun G hG=>?_);obtain ⟨hG0,hGl⟩:=hG.le' (eH zl) hd2;have hst:=hF.step zc (by omega) hgt hG;have bG:Db M G:=by have h9:=hst.b hB Rs.length (by rw [List.length_append];show Rs.length < Rs.length+1;omega);rwa [tq] at h9
  exact kH 38 (.d (.one (.row 4 (lg G) (aK M (rc G))))) rfl (iP hM1 bG)<|mB aj (.d (.one (.row 1 1 (fun i' j'=>(([.row 4 (lg G) (aK M (rc G))])[i'*1+j']?).getD (.v undef))))) rfl<|mA aj (id:=19) (n:=((Rs).length)) (m:=1) (el:=(BO M Rs)) (el2:=(fun i' j'=>(([.row 4 (lg G) (aK M (rc G))])[i'*1+j']?).getD (.v undef))) rfl rfl rfl (by show ((Rs).length+1)*24≤140737488355328;omega) (by omega) rfl rfl rfl rfl rfl rfl rfl rfl rfl rfl<|mW rfl<|ak<|bN<|⟨(Rs ++ [G]),hst,by show lg (gl (Rs ++ [G]) ((Rs ++ [G]).length-1)) < lg (gl Rs (Rs.length-1));rw [List.length_append,show Rs.length+ [G].length-1=Rs.length from rfl,tq];omega,wk rfl ⟨hs rfl,hs rfl,trivial⟩ ⟨dX rfl (Ht rfl rfl),trivial⟩ rfl⟩
 ·refine dO<|tE<|tE<|bE<|tN<|au ?_;have hle:lg (gl Rs (Rs.length-1))≤1:=by have h0:=of_decide_eq_false hc1;omega
  obtain ⟨Es,hEs,hE,hE3,hE4⟩:=hF.e zc h2 (by omega) hle;have hEl:Rs.length+1=Es.length:=by rw [hEs,List.length_append];rfl
  refine aA<|mW rfl<|mB aj (.d (.one (.row 1 1 (fun i' j'=>(([.v (.int .i64 1)])[i'*1+j']?).getD (.v undef))))) rfl<|mY (aa5 (FN (l:= [1]) (n:=1) rfl (fun i hi=>match i,hi with | 0,_=>rfl))) rfl<|kH 43 (.d (.one (.row 4 (lg (iC 1)) (aK M (rc (iC 1)))))) rfl (Zr uT)<|mB aj (.d (.one (.row 1 1 (fun i' j'=>(([.row 4 (lg (iC 1)) (aK M (rc (iC 1)))])[i'*1+j']?).getD (.v undef))))) rfl<|mA aj (id:=19) (n:=((Rs).length)) (m:=1) (el:=(BO M Rs)) (el2:=(fun i' j'=>(([.row 4 (lg (iC 1)) (aK M (rc (iC 1)))])[i'*1+j']?).getD (.v undef))) rfl rfl rfl (by show ((Rs).length+1)*24≤140737488355328;omega) (by omega) rfl rfl rfl rfl rfl rfl rfl rfl rfl rfl<|mW rfl<|mT<|au<|au<|wK [4,3] [19] rfl rfl<|wB [4,3] [] 19 (.row 43 1 Es.length (BO M Es)) rfl rfl ((fun B w0 w v h=>by have h9:=Ht (e:=43) (b:=iC 1) (L:=Rs) rfl rfl B w0 w v h;rwa [← hEs] at h9)) rfl ?_;have hE1:=hE.l11;refine aA<|mW rfl<|mT<|aJ<|AW.wk (qC 3 3 43 1 (fun _ _=> .v undef) rfl rfl)<|dQ (ι:=Nat) (fun (k:Nat)=>⟨94,[(3,.own 3),(4,.own 19),(6,.d (.one (.v (.int .i64 ((k:Nat):Int)))))],[(3,.row 43 1 ((zA Es k).length) (BO M (zA Es k))),(19,.row 43 1 Es.length (BO M Es))]⟩) (fun (k:Nat)=>k≤Es.length-2) (fun (k:Nat)=>Es.length-2-k) 0 (Nat.zero_le _) (wk rfl ⟨hs rfl,hs rfl,fM rfl (aG rfl),trivial⟩ ⟨dX rfl (iL),ho rfl,trivial⟩ rfl) ?_;rintro k hI;have hk:k≤Es.length-2:=hI;show AW _ _ _ ⟨_,_,_⟩
  refine au<|cR<|mW rfl<|mV aj (.d (.one (.v (.int .i64 ((k+2:Nat):Int))))) (fH ((dS (by omega) (by omega)).trans (by omega)))<|mv3 rfl rfl rfl<|mT<|aW rfl (fun hc2=>?_) (fun hc2=>?_)
  ·refine aF<|tN<|au<|aJ<|au ?_;have hk2:k+2 < Es.length:=by have h0:=of_decide_eq_true hc2;omega
   obtain ⟨x0z,x0p,x0b,x0l⟩:=hE.x hB k (by omega);obtain ⟨x1z,x1p,x1b,x1l⟩:=hE.x hB (k+1) (by omega);obtain ⟨fz,fp,fb,fq⟩:=hE.f hB (by omega) k hk2;have q0:=hE.q1 k (by omega);have q1:=hE.q1 (k+1) (by omega);have l0:=hE.l k;have l1:=hE.l (k+1);have p1:=(hE.pm (k+1) (by omega)).pos;have p2:=(hE.pm (k+2) (by omega)).pos;have hfl:(zA Es k).length=k:=Oi Es k;exact cDk 15<|.cons (aB.V _ rfl)<|.cons (aB.V _ rfl)<|.cons (aB.V (.dU 19 1 k 0) (qy (z:=((k:Nat):Int)) (n:=Es.length) rfl rfl rfl rfl rfl rfl rfl (by omega) (by omega)))<|oV rfl<|.cons (aB.V _ rfl)<|.cons (aB.V _ rfl)<|.cons (aB.V (.d (.one (.v (.int .i64 ((k+1:Nat):Int))))) (fH ((dS (by omega) (by omega)).trans (by omega))))<|.cons (aB.V (.dU 19 1 (k+1) 0) (qy (z:=((k+1:Nat):Int)) (n:=Es.length) rfl rfl rfl rfl rfl rfl rfl (by omega) (by omega)))<|oV rfl<|oC (WQ (Kq:=M) (KC:=(2*M+64)) (q:=(eY (gl Es k))) (hE.z k) (hE.z (k+1)) (by omega) p1 x0z x0b q0 (by omega) (by omega) (by omega) hM1) rfl<|.cons (aB.V _ rfl)<|.cons (aB.V _ rfl)<|.cons (aB.V _ rfl)<|.cons (aB.V _ rfl)<|.cons (aB.V _ rfl)<|.nil<|mT<|au<|cDk 16<|.cons (aB.V _ rfl)<|.cons (aB.V _ rfl)<|.cons (aB.V (.d (.one (.v (.int .i64 ((k+1:Nat):Int))))) (fH ((dS (by omega) (by omega)).trans (by omega))))<|.cons (aB.V (.dU 19 1 (k+1) 0) (qy (z:=((k+1:Nat):Int)) (n:=Es.length) rfl rfl rfl rfl rfl rfl rfl (by omega) (by omega)))<|oV rfl<|.cons (aB.V _ rfl)<|.cons (aB.V _ rfl)<|.cons (aB.V (.d (.one (.v (.int .i64 ((k+2:Nat):Int))))) (fH ((dS (by omega) (by omega)).trans (by omega))))<|.cons (aB.V (.dU 19 1 (k+2) 0) (qy (z:=((k+2:Nat):Int)) (n:=Es.length) rfl rfl rfl rfl rfl rfl rfl (by omega) (by omega)))<|oV rfl<|oC (WQ (Kq:=M) (KC:=(2*M+64)) (q:=(eY (gl Es (k+1)))) (hE.z (k+1)) (hE.z (k+2)) (by omega) p2 x1z x1b q1 (by omega) (by omega) (by omega) hM1) rfl<|.cons (aB.V _ rfl)<|.cons (aB.V _ rfl)<|.cons (aB.V _ rfl)<|.cons (aB.V _ rfl)<|.cons (aB.V _ rfl)<|.nil<|mT<|cR<|mW rfl<|mY (oW x0z) rfl<|mW rfl<|mY (oW x1z) rfl<|kH 82 (.d (.one (.row 4 (lg (eY (gl Es k))) (aK M (rc (eY (gl Es k))))))) rfl (AV.of_eq (by rw [nZ x0z fun _=>x0p];rfl))<|kH 84 (.d (.one (.row 4 (lg (eY (gl Es (k+1)))) (aK M (rc (eY (gl Es (k+1)))))))) rfl (AV.of_eq (by rw [nZ x1z fun _=>x1p];rfl))<|mY (WQ (Kq:=M) (KC:=(2*M+64)) (q:=(qh Es k)) x0z x1z (by omega) x1p.pos fz fb fq (by omega) (by omega) (by omega) hM1) rfl<|mv5 rfl rfl rfl rfl rfl<|mT<|aA<|mv2 rfl rfl<|mY (oW fz) rfl<|kH 90 (.d (.one (.row 4 (lg (qh Es k)) (aK M (rc (qh Es k)))))) rfl (AV.of_eq (by rw [nZ fz fun _=>fp];rfl))<|mB aj (.d (.one (.row 1 1 (fun i' j'=>(([.row 4 (lg (qh Es k)) (aK M (rc (qh Es k)))])[i'*1+j']?).getD (.v undef))))) rfl<|mA aj (id:=3) (n:=((zA Es k).length)) (m:=1) (el:=(BO M (zA Es k))) (el2:=(fun i' j'=>(([.row 4 (lg (qh Es k)) (aK M (rc (qh Es k)))])[i'*1+j']?).getD (.v undef))) rfl rfl rfl (by show ((zA Es k).length+1)*24≤140737488355328;omega) (by omega) rfl rfl rfl rfl rfl rfl rfl rfl rfl rfl<|mW rfl<|ak<|bN<|tN<|aA<|mv3 rfl rfl rfl<|ak<|⟨(k+1),by omega,by omega,wk rfl ⟨hs rfl,hs rfl,fM rfl (aG (dG (by omega))),trivial⟩ ⟨dX rfl ((fun B w0 w v h=>by have h9:=Ht (e:=43) (b:=qh Es k) (L:=zA Es k) rfl rfl B w0 w v h;rwa [← U6] at h9)),ho rfl,trivial⟩ rfl⟩
  ·refine dO<|tE<|tE<|bE<|tN<|au ?_;obtain rfl:k=Es.length-2:=by have h0:=of_decide_eq_false hc2;omega
   exact AW.wk (jf 3 rfl)<|aA<|mv2 rfl rfl<|mT<|aO<|rQ rfl (kR (Q:=aaN c) (L:=fun Ls=>bH M Ls) (zA Es (Es.length-2)) (hE.fac zc (by omega) (by omega) hE3 hE4))
theorem Db.neg{K:Nat}{a:Nat→Int}(h:Db K a):Db K (gV a):=fun i=>by have:=h i;unfold gV;omega
theorem Db.lb1{K:Nat}{a:Nat→Int}(h:Db K a):Lb K a:=fun i=>Nat.lt_of_lt_of_le (h i) (Nat.pow_le_pow_left (by decide) K)
theorem acW{x y R:Nat→Int}{M:Nat}(h:Qe x y M R):Stp x y (gV R):=by
 obtain ⟨Q,κ,pQ,hκ,e⟩:=h.eq;exact ⟨Q,κ,pQ,hκ,fun t=>by rw [e,P5];grind⟩
theorem Qe.Dl{a b r:Nat→Int}{M:Nat}(h:Qe a b M r):Qe a b M (Go.Proofs.YtapmpcgekdplfaaGreat.Dl r):=by
 have zs:=J3 h.z
 by_cases h0:lg r=0
 ·have e:Go.Proofs.YtapmpcgekdplfaaGreat.Dl r=r:=by
   have hr:=(gW h.z).1 h0;funext i;unfold Go.Proofs.YtapmpcgekdplfaaGreat.Dl tV qW;rw [hr i];simp
  rw [e];exact h
 ·obtain ⟨Q,κ,pQ,hκ,e⟩:=h.eq
  obtain ⟨s,hs,e2⟩:=akj h.z h0;exact ⟨zs,aan h.b,⟨Q,κ*s,pQ,Rat.mul_pos hκ hs,fun x=>by rw [e,e2];grind⟩,by rw [aao h.z,dI h.z];exact h.lt⟩
/-- A primitive row's derivative has a positive coefficient in front. -/
theorem acZ{f:Nat→Int}(z:aZ f)(pm:Pm (lg f) f):Dl (bM f)=bC (bM f):=by
 refine funext (MR ?_);unfold gU
 by_cases h0:lg (bM f)=0
 ·have hz:=(gW (eH z)).1 h0
  rw [h0,if_neg (by rw [hz];decide)];omega
 ·have h1:=D9 z pm.pos
  have h2:lg (bM f)=lg f-1:=by
   by_cases h3:lg (bM f)≤lg f-2
   ·exfalso
    have h4:=(eH z).lg (lg f-2) h3;unfold bM at h4;rw [show lg f-2+1=lg f-1 by omega] at h4;rcases Int.mul_eq_zero.1 h4 with h5 | h5
    ·exact kG pm.pos h5
    ·omega
   ·omega
  have h3:0 < bM f (lg (bM f)-1):=by
   rw [h2] at h0 ⊢;unfold bM;rw [show lg f-1-1+1=lg f-1 by omega];exact Int.mul_pos pm.lead (by omega)
  rw [if_neg (by omega)];omega
/-- On the way. -/
structure ChD(f:Nat→Int)(K N KC X:Nat)(L0:List (Nat→Int))(a b:Nat→Int):Prop where
 za:aZ a
 zb:aZ b
 ba:Db X a
 bb:Db X b
 gr:VQ K N X (lg a) (lg b)
 la:lg a≤N
 lb:lg b≤N
 la0:lg a≠0
 pt:PT (L0 ++ [a,b])
 idp:Bf (FF f) (FF (bC (bM f))) (FF a) (FF b)
 hd:(L0= []∧a=f∧b=bC (bM f))∨(L0= [f]∧a=bC (bM f))∨∃ L1,L0=f ::bC (bM f) ::L1
 all:∀ x∈L0,aZ x∧Db KC x
 g0:L0≠ []→lg (bC (bM f))≠0
 ln:L0.length+lg b≤10
theorem ChD.start{f:Nat→Int}{K N KC:Nat}(hN:N≤10)(zf:aZ f)(bf:Db K f)(bg:Db K (bC (bM f)))(h10:lg f≤N)(h0:lg f≠0):ChD f K N KC K [] f (bC (bM f)):=by
 have zd:=eH zf;have h1:lg (bM f)≤lg f:=iZ zd fun i hi=>D5 zf.lg i (by omega)
 have h2:=dI zd;exact ⟨zf,fZ zd,bf,bg,.start h10,h10,by omega,h0,trivial,Bf.refl _ _,Or.inl ⟨rfl,rfl,rfl⟩,fun x hx=>absurd hx (by simp),fun e=>absurd rfl e,by show 0+_≤_;omega⟩
theorem ChD.step{f:Nat→Int}{K N KC X:Nat}{L0:List (Nat→Int)}{a b R:Nat→Int}(h:ChD f K N KC X L0 a b)(ny:(K+1)*(2*3^N)≤KC)(hb:lg b≠0)(hR:Qe a b (X+(lg a+1-lg b)*(X+1)) R):
  ChD f K N KC (X+(lg a+1-lg b)*(X+1)) (L0 ++ [a]) b (gV R):=by
 have zn:=Dq hR.z;have hl:lg (gV R)=lg R:=by
  have h1:lg (gV R)≤lg R:=iZ zn fun i hi=>by unfold gV;rw [hR.z.lg i hi];rfl
  have h2:lg R≤lg (gV R):=iZ hR.z fun i hi=>by have:=zn.lg i hi;unfold gV at this;omega
  omega
 have hlt:=hR.lt;refine ⟨h.zb,zn,h.bb.mono (Nat.le_add_right _ _),hR.b.neg,by rw [hl];exact h.gr.step h.la h.lb hlt,h.lb,by have:=h.lb;omega,hb,?_,?_,?_,?_,fun _=>?_,by have:=h.ln;rw [List.length_append,hl];show L0.length+1+lg R≤10;omega⟩
 ·rw [List.append_assoc];exact Uh L0 a b (gV R) h.pt (acW hR)
 ·obtain ⟨Q,κ,pQ,hκ,e⟩:=hR.eq
  exact h.idp.trans (Bf.step (k:= -κ) pQ (by grind) fun x=>by rw [P5,e];grind)
 ·rcases h.hd with ⟨h1,h2,h3⟩ | ⟨h1,h2⟩ | ⟨L1,h1⟩
  ·subst h1;subst h2;exact Or.inr (Or.inl ⟨rfl,h3⟩)
  ·subst h1;subst h2;exact Or.inr (Or.inr ⟨[],rfl⟩)
  ·subst h1;exact Or.inr (Or.inr ⟨L1 ++ [a],rfl⟩)
 ·intro x hx
  rcases List.mem_append.1 hx with hx | hx
  ·exact h.all x hx
  ·obtain rfl:x=a:=by simpa using hx
   exact ⟨h.za,h.ba.mono (by have:=h.gr.bd ny;omega)⟩
 ·rcases h.hd with ⟨_,_,h3⟩ | ⟨h1,_⟩ | ⟨L1,h1⟩
  ·rw [← h3];exact hb
  ·exact h.g0 (by rw [h1];simp)
  ·exact h.g0 (by rw [h1];simp)
theorem ChD.fin{c f:Nat→Int}{K N KC X M:Nat}{L0:List (Nat→Int)}{a b:Nat→Int}(h:ChD f K N KC X L0 a b)(hs:vH c M f)(ny:(K+1)*(2*3^N)≤KC)(hb:lg b=0):ChP c M KC (L0 ++ [a])∧∀ i,Db KC (gl (L0 ++ [a]) i):=by
 have hX:=h.gr.bd ny;have hba:Db KC a:=h.ba.mono (by omega);have all:∀ x∈L0 ++ [a],aZ x∧Db KC x:=by
  intro x hx
  rcases List.mem_append.1 hx with hx | hx
  ·exact h.all x hx
  ·obtain rfl:x=a:=by simpa using hx
   exact ⟨h.za,hba⟩
 have hall:∀ i,aZ (gl (L0 ++ [a]) i)∧Db KC (gl (L0 ++ [a]) i):=by
  intro i;unfold gl;rw [List.getD_eq_getElem?_getD];cases e:(L0 ++ [a])[i]? with
  | none=>exact ⟨kX,fun _=>Nat.pow_pos (by decide)⟩
  | some x=>exact all x (List.mem_of_getElem? e)
 have zd:=eH hs.z;have hlen:(L0 ++ [a]).length=L0.length+1:=by rw [List.length_append];rfl
 have h0:gl (L0 ++ [a]) 0=f:=by
  rcases h.hd with ⟨h1,h2,h3⟩ | ⟨h1,h2⟩ | ⟨L1,h1⟩
  ·subst h1;subst h2;rfl
  ·subst h1;rfl
  ·subst h1;rfl
 refine ⟨?_,fun i=>(hall i).2⟩;refine ⟨by rw [h0];exact hs,fun i=>(hall i).2.lb1,fun i=>(hall i).1,by omega,by have:=h.ln;omega,fun e=>?_,fun e=>?_⟩
 ·rw [h0]
  have h1:L0= []:=List.eq_nil_of_length_eq_zero (by omega);rcases h.hd with ⟨_,h2,h3⟩ | ⟨h2,_⟩ | ⟨L1,h2⟩
  ·have h4:lg (bM f)=0:=by rw [← dI zd,← h3];exact hb
   have:=uP hs.z h4;have:=hs.ne;omega
  ·rw [h1] at h2;cases h2
  ·rw [h1] at h2;cases h2
 ·have hne:L0≠ []:=by intro e2;subst e2;simp at e
  have hbz:=(nM h.zb).1 hb;have hd0:lg (bM f)≠0:=by rw [← dI zd];exact h.g0 hne
  obtain ⟨d,hd,hdg⟩:∃ d:Rat,0 < d∧∀ x,FF (bM f) x=d*FF (bC (bM f)) x:=by
   have hpos:0 < bM f (lg (bM f)-1):=by
    have hlf:lg (bM f)=lg f-1:=by
     have h1:lg (bM f)≤lg f-1:=iZ zd fun i hi=>D5 hs.z.lg i (by omega)
     have h2:bM f (lg f-2)≠0:=by
      have h3:=kG hs.ne;have h4:2≤lg f:=by
       by_cases h5:lg f≤1
       ·exfalso;have:=hs.ne;omega
       ·omega
      unfold bM;rw [show lg f-2+1=lg f-1 by omega];exact Int.mul_ne_zero h3 (by omega)
     by_cases h3:lg (bM f)≤lg f-2
     ·exact absurd (zd.lg _ h3) h2
     ·omega
    have h3:=hs.pm.lead;rw [hlf];unfold bM;have h4:2≤lg f:=by omega
    rw [show lg f-1-1+1=lg f-1 by omega];exact Int.mul_pos h3 (by omega)
   have hpf:=fun x=>LY zd.lg x
   refine ⟨(gU (bM f) (lg (bM f)):Rat),?_,fun x=>?_⟩
   ·have h1:=zd.ip.sW hd0
    unfold gU;rw [if_neg (by omega)];exact_mod_cast h1
   ·have:=hpf x
    rw [show pf (xg (bM f) (lg (bM f))) (lg (bM f))=FF (bC (bM f)) from xu zd.ip.xg.z (fZ zd),iD zd] at this;exact this
  have hlast:∃ k,k≠0∧∀ t,FF a t=k:=by
   obtain ⟨u,v,pu,pv,e1⟩:=h.idp.m3;obtain ⟨u2,v2,pu2,pv2,e2⟩:=h.idp.m4;obtain ⟨p,q,pp,pq,e3⟩:=hs.sq.cop;have hdv:Dv (FF a) (fun _=>1):=⟨fun x=>p x*u x+q x*d*u2 x,(pp.mul pu).add ((pq.xk d).mul pu2),fun x=>by
    have h1:=e3 x;rw [hdg,e1,e2,hbz] at h1;rw [← h1];grind⟩
   have:=hdv.deg (Ep h.za h.la0) (Lp (a:=1) (by decide));exact kV h.za (by have:=h.la0;omega)
  have hpo:∀ x∈L0 ++ [a],Po (FF x):=fun x hx=>cu (all x hx).1
  rcases h.hd with ⟨h1,_,_⟩ | ⟨h1,h2⟩ | ⟨L1,h1⟩
  ·exact absurd h1 hne
  ·subst h1
   refine ⟨[],by rw [h0,show gl ([f] ++ [a]) 1=a from rfl];rfl,?_,d,hd,fun x=>?_⟩
   ·rw [h0,show gl ([f] ++ [a]) 1=a from rfl]
    refine RG (f':=FF (bM f)) (d:=d) (fun g hg=>?_) hlast (pX hs.z) hd (fun x=>by rw [h2];exact hdg x);rcases List.mem_cons.1 hg with rfl | hg
    ·exact cu hs.z
    ·rcases List.mem_cons.1 hg with rfl | hg
     ·exact cu h.za
     ·simp at hg
   ·rw [h0,show gl ([f] ++ [a]) 1=a from rfl,h2];exact hdg x
  ·subst h1
   refine ⟨L1 ++ [a],by rw [h0];rfl,?_,d,hd,fun x=>?_⟩
   ·rw [h0,show gl (f ::bC (bM f) ::L1 ++ [a]) 1=bC (bM f) from rfl]
    refine RG (f':=FF (bM f)) (d:=d) (fun g hg=>?_) (ZN L1 f (bC (bM f)) a ?_ hlast) (pX hs.z) hd hdg
    ·rcases List.mem_cons.1 hg with rfl | hg
     ·exact cu hs.z
     ·rcases List.mem_cons.1 hg with rfl | hg
      ·exact cu (fZ zd)
      ·obtain ⟨y,hy,rfl⟩:=List.mem_map.1 hg
       exact hpo y (by simp only [List.cons_append,List.mem_cons];exact Or.inr (Or.inr hy))
    ·have hpt:=h.pt
     have key:∀ (L:List (Nat→Int)) (x y:Nat→Int),PT (L ++ [x,y])→PT (L ++ [x]):=by
      intro L
      induction L with
      | nil=>intro x y _;trivial
      | cons u L ih=>
       intro x y hp
       match L,ih,hp with
       | [],_,_=>trivial
       | [v],ih,⟨h1,h2⟩=>exact ⟨h1,trivial⟩
       | v ::w ::L,ih,⟨h1,h2⟩=>exact ⟨h1,ih x y h2⟩
     exact key _ a b hpt
   ·rw [h0];exact hdg x
theorem aip{X K n:Nat}{a b:Nat→Int}(z:aZ (aX a b))(hn:∀ t,n≤t→aX a b t=0)(hK:1≤K)(h:Db K (aX a b)):AV.le (.d (.one (dJ X (dg (aX (rc a) (rc b)) n) (aX (rc a) (rc b))))) (.d (.one (dJ K (lg (aX a b)) (rc (aX a b))))):=by
 have e:aX (rc a) (rc b)=rc (aX a b):=funext (Uk a b);rw [e];exact oZ (uj hn z) hK h
theorem NH{K M KC N:Nat}{c:Nat→Int}(zc:aZ c)(h2:2≤lg c)(hN:N≤10)(ED:lg c≤N)(uT:1≤M)(hM1:1≤M)(hB:Fa c M)(hK1:1≤K)(hK:K≤100000)(ny:(M+2)*(2*3^N)≤KC)(hC:KC≤90000):aC Tryz.prog 60 [.one (dJ K (lg c) (rc c))] (.d (.one (dJ M (lg (eY c)) (rc (eY c))))):=by
 have hlc:=dK c;have hMK:M+2≤KC:=Nat.le_trans (Nat.le_mul_of_pos_right _ (Nat.mul_pos (by decide) (Nat.pow_pos (by decide)))) ny;refine aN 26 [.tmp 2] Tryz.func60 rfl<|cR<|mW rfl<|mT<|au<|cR<|mv2 rfl rfl<|mbF rfl (beq_eq_false_iff_ne.2 (by omega))<|mT<|cFs rfl<|cR<|mB aj (.d (.one (.row 1 1 (fun i' j'=>(([.v (.int .i64 1)])[i'*1+j']?).getD (.v undef))))) rfl<|mY (aa5 (FN (l:= [1]) (n:=1) rfl (fun i hi=>match i,hi with | 0,_=>rfl))) rfl<|mW rfl<|mT<|cR<|mW rfl<|mY (UK (M:=M) (KC:=KC) (N:=N) zc h2 hN ED uT hM1 hB hK1 hK ny hC) rfl<|mW rfl<|mT<|au<|au<|cEx (Qx:=aaN c) (L:=fun Ls=>bH M Ls) 4 rfl (fun Ls hL=>?_);obtain ⟨X,hX1,⟨MX,hX2⟩,hX3,hX4⟩:=hL.ex;have hln:=hL.len;refine iJ 3 (.d (.one (.row 4 (lg (iC 1)) (aK M (rc (iC 1)))))) rfl (Zr uT)<|aA<|mv3 rfl rfl rfl<|mT<|aJ<|dQ (ι:=Nat×(Nat→Int)) (fun (p:Nat×(Nat→Int))=>match p with | (i,o)=>⟨26,[(3,.d (.one (.row 4 (lg o) (aK M (rc o))))),(4,.d (.one (.row 1 Ls.length (BO M Ls)))),(14,.d (.one (.v (.int .i64 ((Ls.length:Nat):Int))))),(15,.d (.one (.v (.int .i64 ((i:Nat):Int)))))],[]⟩) (fun (p:Nat×(Nat→Int))=>match p with | (i,o)=>i≤Ls.length∧SqI c X i o) (fun (p:Nat×(Nat→Int))=>match p with | (i,o)=>Ls.length-i) (0,(iC 1)) (⟨Nat.zero_le _,.start zc⟩) (wk rfl ⟨hs rfl,hs rfl,hs rfl,fM rfl (aG rfl),trivial⟩ trivial rfl) ?_;rintro ⟨i,o⟩ hI;obtain ⟨hi,hO⟩:i≤Ls.length∧SqI c X i o:=hI;show AW _ _ _ ⟨_,_,_⟩
 refine cR<|mW rfl<|mT<|au<|aW rfl (fun hc1=>?_) (fun hc1=>?_)
 ·refine aF<|tN<|au<|aJ<|cR<|mv2 rfl rfl<|mT ?_;have hin:i < Ls.length:=by have h0:=of_decide_eq_true hc1;omega
  obtain ⟨hN1,hNF,hNo,hNf⟩:=hO.step zc (by omega) (by omega) (hL.z i) (hL.pm i hin) (hL.dv i hin) (hX1 (i+1) (by omega)).1 hX2.dv (hX4 i hin);refine aA<|mv3 rfl rfl rfl<|mV aj (.d (.one (.at 1 ((BO M Ls) i)))) (lu (el:=(BO M Ls)) (z:=((i:Nat):Int)) (n:=Ls.length) rfl rfl rfl rfl rfl rfl (by omega) (by omega)) ?_;exact mW rfl<|mY (ah2 (wZ (K:=M) (c:=(rc o)) (ql hO.z.lg)) (wZ (K:=M) (c:=(rc (gl Ls i))) (ql (hL.z i).lg)) (M:=((20+1)*(M+M+66))) (D:=20) (by omega) (by omega)) rfl<|mW rfl<|ak<|bN<|tN<|aA<|mv2 rfl rfl<|ak<|⟨((i+1),(aX o (gl Ls i))),⟨by omega,hN1⟩,by show Ls.length-(i+1) < Ls.length-i;omega,wk rfl ⟨fM rfl (aip hN1.z (fun t ht=>fK hO.z.lg (hL.z i).lg t ht) hM1 (hB _ hN1.z hN1.pm hN1.dv)),hs rfl,hs rfl,fM rfl (aG (dG (by omega))),trivial⟩ trivial rfl⟩
 ·refine dO<|tE<|tE<|bE<|tN<|au ?_;obtain rfl:i=Ls.length:=by have h0:=of_decide_eq_false hc1;omega
  have hfin:=hO.fin hX2 hX3;exact aA<|mv2 rfl rfl<|mT<|aO<|rQ rfl (AV.of_eq (by rw [hfin];rfl))
theorem WS{c d:Nat→Int}{M:Nat}(zd:aZ d)(h1:1≤M)(hM:M≤100000):aC Tryz.prog 75 [.one (aY (Qe c d M) (fun r=>dJ M (lg r) (rc r)))] (.d (.one (aY (Qe c d M) (fun r=>dJ M (lg r) (rc r))))):=
 aC.exl (fC Tryz.func75 rfl rfl) fun r hr=>aC.le (dl DV.same iM) (kR (Q:=Qe c d M) (L:=fun r=>dJ M (lg r) (rc r)) (Dl r) hr.Dl) (Sr hr.z h1 hM)
theorem agx{X K:Nat}{c:Nat→Int}(z:aZ c)(hK:1≤K)(h:Db K c):AV.le (.d (.one (dJ X (dg (fO (rc c) ((-1:Int):Rat)) (lg c)) (fO (rc c) ((-1:Int):Rat))))) (.d (.one (dJ K (lg (gV c)) (rc (gV c))))):=by
 have e:fO (rc c) ((-1:Int):Rat)=rc (gV c):=funext fun i=>by
  show ((c i:Int):Rat)*((-1:Int):Rat)=((-(c i):Int):Rat)
  rw [← Rat.intCast_mul];congr 1;omega
 rw [e];exact oZ (uj (fun i hi=>by unfold gV;rw [z.lg i hi];rfl) (Dq z)) hK h.neg
theorem Vo{e:TypeId}{K n:Nat}{L:List (Nat→Int)}{b:Nat→Int}{el2:Nat→Nat→Lf}(hn:L.length=n)(h2:∀ B w v,eu B w (el2 0 0) v→eu B w (dJ K (lg b) (rc b)) v):AO.le (.row e 1 (L.length+1) (fB L.length (BO K L) el2)) (.row e 1 (L ++ [b]).length (BO K (L ++ [b]))):=by
 rw [show (L ++ [b]).length=L.length+1 from by rw [List.length_append];rfl];refine fV fun i hi j hj B w v hv=>?_
 obtain rfl:j=0:=by omega
 unfold fB at hv
 by_cases h:i < L.length
 ·rw [show Nat.ble (i+1) L.length=true from Nat.ble_eq_true_of_le h] at hv
  unfold BO;rw [xQ h];exact hv
 ·obtain rfl:i=L.length:=by omega
  rw [show Nat.ble (L.length+1) L.length=false from by rw [← Bool.not_eq_true,Nat.ble_eq];omega,Nat.sub_self] at hv;unfold BO;rw [tq];exact h2 _ _ _ hv
theorem aa4{K M KC N Ms:Nat}{c:Nat→Int}(zc:aZ c)(h2:2≤lg c)(hN:N≤10)(ED:lg c≤N)(uT:1≤M)(hM1:1≤M)(hB:Fa c M)(hK1:1≤K)(hK:K≤100000)(ny:(M+2)*(2*3^N)≤KC)(hC:KC≤90000)(hS:vH c Ms (eY c)):aC Tryz.prog 39 [.one (dJ K (lg c) (rc c))] (.d (.one (aY (ChP c Ms KC) (fun L=>bH KC L)))):=by
 have hlc:=dK c;have hMK:M+2≤KC:=Nat.le_trans (Nat.le_mul_of_pos_right _ (Nat.mul_pos (by decide) (Nat.pow_pos (by decide)))) ny;have bs:Db M (eY c):=hB _ hS.z hS.pm.one hS.dv;have hsl:=(lC zc hS.z (by omega) hS.dv).2;refine aN 31 [.tmp 2] Tryz.func39 rfl<|cR<|mW rfl<|mT<|cR<|mW rfl<|mY (NH (M:=M) (KC:=KC) (N:=N) zc h2 hN ED uT hM1 hB hK1 hK ny hC) rfl<|mW rfl<|mT<|cR<|mW rfl<|mR aj (.row 43 1 1 (fun i' j'=>(([.row 4 (lg (eY c)) (aK M (rc (eY c)))])[i'*1+j']?).getD (.v undef))) rfl rfl rfl<|mW rfl<|mT<|cR<|mW rfl<|mY (adz (wZ (K:=M) (c:=(rc (eY c))) (ql hS.z.lg)) (M:=(max (M+65) 64))) rfl<|kH 11 (.d (.one (.row 4 (lg (bM (eY c))) (aK (M+1) (rc (bM (eY c))))))) rfl (XO hS.z (by omega) (bs.bM hS.z))<|mY (Sr (eH hS.z) (by omega) (by omega)) rfl<|mW rfl<|mT<|au<|aJ<|wK [5,4] [9] rfl rfl<|wB [5,4] [] 9 (.row 43 1 (([] ++ [eY c]).length) (BO KC ([] ++ [eY c]))) rfl rfl (AO.le.trans (OE rfl) (fV fun i hi j hj B w v hv=>by obtain rfl:i=0:=(by have:i < 1:=hi;omega);exact wL (by omega) (fun i _=>(bs.mono (by omega)) i) B w v hv)) rfl ?_;refine iJ 5 (.d (.one (.row 4 (lg (bC (bM (eY c)))) (aK (M+1) (rc (bC (bM (eY c)))))))) rfl (AV.of_eq (by rw [acZ hS.z hS.pm] <;> rfl)) ?_;refine dQ (ι:=Nat×List (Nat→Int)×(Nat→Int)×(Nat→Int)) (fun (p:Nat×List (Nat→Int)×(Nat→Int)×(Nat→Int))=>match p with | (X,L0,a,b)=>⟨31,[(4,.own 9),(5,.d (.one (.row 4 (lg b) (aK X (rc b)))))],[(9,.row 43 1 ((L0 ++ [a]).length) (BO KC (L0 ++ [a])))]⟩) (fun (p:Nat×List (Nat→Int)×(Nat→Int)×(Nat→Int))=>match p with | (X,L0,a,b)=>ChD (eY c) (M+1) N KC X L0 a b∧1≤X) (fun (p:Nat×List (Nat→Int)×(Nat→Int)×(Nat→Int))=>match p with | (X,L0,a,b)=>lg b) ((M+1),[],(eY c),(bC (bM (eY c)))) (⟨.start hN hS.z (bs.mono (by omega)) (bs.bM hS.z).qW (by omega) hS.ne,by omega⟩) (wkr rfl rfl) ?_;rintro ⟨X,L0,a,b⟩ hI;obtain ⟨hD,hX1⟩:ChD (eY c) (M+1) N KC X L0 a b∧1≤X:=hI;show AW _ _ _ ⟨_,_,_⟩
 refine au<|au ?_;have za:=hD.za;have zb:=hD.zb;have hXK:=hD.gr.bd ny;have hla:=hD.la;have hlb:=hD.lb;have ha0:=hD.la0;have hln:=hD.ln;have hlen:(L0 ++ [a]).length=L0.length+1:=by rw [List.length_append];rfl
 by_cases hb0:lg b=0
 ·refine aA<|mv2 rfl rfl<|mdF rfl (by omega)<|mT<|cF rfl<|dO<|tE<|tE<|bE<|tN<|au ?_;have hfin:=hD.fin hS ny hb0;exact AW.wk (jf 9 rfl)<|aA<|mv2 rfl rfl<|mT<|aO<|rQ rfl (kR (Q:=ChP c Ms KC) (L:=fun L=>bH KC L) (L0 ++ [a]) hfin.1)
 ·refine aA<|mv2 rfl rfl<|mdT rfl (by omega)<|mT<|cT rfl<|aF<|tN<|aJ<|cR<|mv2 rfl rfl<|mB aj (.d (.one (.row 1 1 (fun i' j'=>(([.row 4 (lg b) (aK X (rc b))])[i'*1+j']?).getD (.v undef))))) rfl<|mA aj (id:=9) (n:=((L0 ++ [a]).length)) (m:=1) (el:=(BO KC (L0 ++ [a]))) (el2:=(fun i' j'=>(([.row 4 (lg b) (aK X (rc b))])[i'*1+j']?).getD (.v undef))) rfl rfl rfl (by show ((L0 ++ [a]).length+1)*24≤140737488355328;omega) (by omega) rfl rfl rfl rfl rfl rfl rfl rfl rfl rfl<|mW rfl<|mT ?_;have hg1:lg b-1 < lg b:=by omega
  have hN1:=(hD.gr.step hla hlb hg1).bd ny;refine wB [19,18,17,16,15,14,13,5,4] [] 9 (.row 43 1 ((L0 ++ [a] ++ [b]).length) (BO KC (L0 ++ [a] ++ [b]))) rfl rfl (Vo hlen (wL (by omega) (fun i _=>(hD.bb.mono (by omega)) i))) rfl ?_;have amd:gl (L0 ++ [a] ++ [b]) L0.length=a:=by rw [xQ (by omega),tq]
  have hlen2:(L0 ++ [a] ++ [b]).length=L0.length+2:=by rw [List.length_append,hlen];rfl
  refine aA<|mv3 rfl rfl rfl<|mV aj (.d (.one (.v (.int .i64 ((L0.length:Nat):Int))))) (fH ((dS (by omega) (by omega)).trans (by omega)))<|mV aj (.dU 9 1 L0.length 0) (qy (z:=((L0.length:Nat):Int)) (n:=((L0 ++ [a] ++ [b]).length)) rfl rfl rfl rfl rfl rfl rfl (by omega) (by omega))<|mv2 rfl rfl<|kH 25 (.d (.one (.row 4 (lg a) (aK X (rc a))))) rfl ((fun ρ B w v h=>by have h:AR ρ B w (.d (.one (dJ KC (lg (gl (L0 ++ [a] ++ [b]) L0.length)) (rc (gl (L0 ++ [a] ++ [b]) L0.length))))) v:=h;rw [amd] at h;exact iP (by omega) hD.ba ρ B w v h)) ?_;refine kH 26 (.d (.one (.row 4 (lg b) (aK X (rc b))))) rfl (AV.le.rfl)<|mY (Qj (M:=(X+(lg a+1-lg b)*(X+1))) za zb hb0 (by omega) (by omega) (by omega) (by omega) (Nat.le_refl _)) rfl<|mY (WS zb (by omega) (by omega)) rfl<|mEx (Qx:=Qe a b (X+(lg a+1-lg b)*(X+1))) (L:=fun r=>dJ (X+(lg a+1-lg b)*(X+1)) (lg r) (rc r)) 28 rfl (fun R hR=>?_);have hRl:=dK R;exact mY (WR (wZ (K:=(X+(lg a+1-lg b)*(X+1))) (c:=(rc R)) (ql hR.z.lg)) (M:=(max ((X+(lg a+1-lg b)*(X+1))+65) 64))) rfl<|mW rfl<|ak<|bN<|⟨((X+(lg a+1-lg b)*(X+1)),(L0 ++ [a]),b,(gV R)),⟨hD.step ny hb0 hR,by omega⟩,by have hl9:=hR.lt;have hl8:lg (gV R)≤lg R:=iZ (Dq hR.z) fun i hi=>by {unfold gV;rw [hR.z.lg i hi];rfl};show lg (gV R) < lg b;omega,wk rfl ⟨hs rfl,fM rfl (agx hR.z (by omega) hR.b),trivial⟩ ⟨ho rfl,trivial⟩ rfl⟩
/-! ### Counts -/
def bF(c:Nat→Int)(KC:Nat)(L:List (Nat→Int)):Prop:=∃ p M,ChP p M KC L∧gl L 0=c
theorem ChP.q{p:Nat→Int}{M KC:Nat}{L:List (Nat→Int)}(h:ChP p M KC L):bF (eY p) KC L:=⟨p,M,h,h.sq.eq⟩
noncomputable def fP(c:Nat→Int)(lo hi:Rat):Nat:=open Classical in if h:∃ N,og (FF c) lo hi N then h.choose else 0
theorem FB{c:Nat→Int}(z:aZ c){lo hi:Rat}(hab:lo≤hi){N:Nat}(h:og (FF c) lo hi N):fP c lo hi=N:=by
 have hx:∃ N,og (FF c) lo hi N:=⟨N,h⟩
 unfold fP;rw [dif_pos hx];exact hx.choose_spec.uniq (cu z) hab h
section
variable {c:Nat→Int} {KC:Nat} {L:List (Nat→Int)}
theorem bF.z(h:bF c KC L):aZ c:=by obtain ⟨p,M,k,e⟩:=h;rw [← e];exact k.z 0
theorem bF.len(h:bF c KC L):1≤L.length∧L.length≤11:=by obtain ⟨p,M,k,e⟩:=h;exact ⟨k.len,k.ln⟩
theorem bF.zz(h:bF c KC L)(i:Nat):aZ (gl L i):=by obtain ⟨p,M,k,e⟩:=h;exact k.z i
theorem bF.cnt(h:bF c KC L){lo hi:Rat}(hab:lo≤hi):vr (EZ L lo)=vr (EZ L hi)+fP c lo hi∧(fP c lo hi=0↔jB (FF c) lo hi)∧(2≤lg c→og (FF c) lo hi (fP c lo hi)):=by
 have zc:=h.z;obtain ⟨p,M,k,e⟩:=h;obtain ⟨N,h1,h2,h3⟩:=k.cnt hab;rw [e] at h2 h3
 by_cases hl:2≤L.length
 ·have hN:=FB zc hab (h3 hl)
  rw [hN];exact ⟨h1,h2,fun _=>h3 hl⟩
 ·have hl1:L.length=1:=by have:=k.len;omega
  have hlg:=k.cst hl1;rw [e] at hlg;have hf:jB (FF c) lo hi:=by
   obtain ⟨κ,hκ,hk⟩:=kV zc hlg;exact ⟨eP κ,fun h=>hκ (fF.1 h),fun t _ _=>by rw [hk]⟩
  have h0:fP c lo hi=0:=by
   unfold fP;split
   ·rename_i hx
    exact (hx.choose_spec.free (cu zc) hab).2 hf
   ·rfl
  rw [h0];have:=h2.2 hf;exact ⟨by omega,⟨fun _=>hf,fun _=>rfl⟩,fun h=>by omega⟩
end
/-- That counts are counts. -/
structure yO(c:Nat→Int):Prop where
 z:aZ c
 l2:2≤lg c
 sq:zD (FF c) (FF (bM c))
 ctd:∀ lo hi,lo≤hi→og (FF c) lo hi (fP c lo hi)
theorem yO.free{c:Nat→Int}(h:yO c){lo hi:Rat}(hab:lo≤hi):fP c lo hi=0↔jB (FF c) lo hi:=(h.ctd lo hi hab).free (cu h.z) hab
theorem abJ{c:Nat→Int}(z:aZ c)(h2:2≤lg c):∃ x,FF (bM c) x≠0:=by
 refine uz (eH z) fun e=>?_
 have:=uP z e;omega
theorem QA{c:Nat→Int}(z:aZ c)(h2:2≤lg c)(sq:zD (FF c) (FF (bM c))):yO c:=by
 refine ⟨z,h2,sq,fun lo hi hab=>?_⟩;obtain ⟨g,l,hst,_⟩:=sq.stm (abJ z h2);obtain ⟨N,hN⟩:=qB hst hab;have h:og (FF c) lo hi N:=⟨g,l,hst,hN⟩;rw [FB z hab h];exact h
section
variable {c:Nat→Int} {lo hi:Rat}
theorem Rx(f:Fn)(a:Rat):jB f a a:=⟨1,by decide,fun t h1 h2=>by grind⟩
theorem yO.lt(h:yO c)(hab:lo≤hi)(hn:fP c lo hi≠0):lo < hi:=by
 by_cases e:lo < hi
 ·exact e
 ·exfalso
  have:lo=hi:=by grind
  subst this;exact hn ((h.free hab).2 (Rx _ _))
theorem yO.add(h:yO c){m:Rat}(h1:lo≤m)(h2:m≤hi):fP c lo hi=fP c lo m+fP c m hi:=by
 exact FB h.z (by grind) ((h.ctd lo m h1).cat (cu h.z) h1 h2 (h.ctd m hi h2))
theorem yO.okI(h:yO c)(hab:lo≤hi)(h1:fP c lo hi=1):Du (FF c) (FF (bM c)) lo hi:=⟨h.sq,h.lt hab (by omega),by rw [← h1];exact h.ctd lo hi hab⟩
/-! ### Ends that are roots -/
noncomputable def zH(c:Nat→Int)(lo hi:Rat):Rat×Rat:=if ¬ lo=hi∧eP (FF c hi)=0 then (hi,hi) else (lo,hi)
def EX(c:Nat→Int)(lo hi:Rat):Prop:=lo=hi∨eP (FF c hi)≠0
theorem KQ(c:Nat→Int)(lo hi:Rat):EX c (zH c lo hi).1 (zH c lo hi).2:=by
 unfold zH;split
 ·exact Or.inl rfl
 ·rename_i h
  by_cases e:lo=hi
  ·exact Or.inl e
  ·exact Or.inr fun k=>h ⟨e,k⟩
/-- One root in an interval. -/
theorem yO.okV(h:yO c)(hab:lo≤hi)(h1:fP c lo hi=1):uD c lo hi:=by
 have o:=h.okI hab h1;have hlt:=o.lt;refine ⟨⟨h.z,hab,fun _=>o⟩,h.sq,h.l2,?_⟩;rw [jE hlt];obtain ⟨g,l,hst⟩:=o.stm;exact aby hst (cu h.z) hlt fun hf=>by have:=(h.free hab).2 hf;omega
theorem Tf(o:sH c lo hi):Ko c lo hi (zH c lo hi).1 (zH c lo hi).2:=by
 unfold zH
 by_cases h:¬ lo=hi∧eP (FF c hi)=0
 ·rw [if_pos h]
  have hlt:lo < hi:=by have:=o.le;grind
  refine ⟨Zu o.z hi,fun q=>?_,o.le,by show hi≤hi;grind⟩;show bJ c hi hi q↔_
  rw [kE (show hi≤hi by grind),jE hlt];exact (Jm (o.i hlt) hlt (by grind) (fF.1 h.2) q).symm
 ·rw [if_neg h];exact Ko.refl o
/-! ### Halved -/
noncomputable def qhl(c:Nat→Int)(lo hi:Rat):Rat×Rat:=
 if lo=hi then (lo,hi) else if 0 < fP c lo ((lo+hi) / 2) then zH c lo ((lo+hi) / 2) else zH c ((lo+hi) / 2) hi
theorem sH.ake(o:sH c lo hi){m:Rat}(h1:lo < m)(h2:m≤hi):cZ (bJ c lo hi) (fE m)=0↔eP (FF c m)=0:=by
 rw [o.rat,if_neg (show ¬ hi≤lo by grind),if_neg (show ¬ m≤lo by grind),if_neg (show ¬ hi < m by grind)];split
 ·exact ⟨fun _=>by assumption,fun _=>rfl⟩
 ·rename_i k
  split
  ·exact ⟨fun e=>by omega,fun e=>absurd e k⟩
  ·exact ⟨fun e=>by omega,fun e=>absurd e k⟩
theorem yO.cut(h:yO c)(o:sH c lo hi){m:Rat}(h1:lo < m)(h2:m≤hi):bJ c lo hi m↔fP c lo m=0:=by
 have hlt:lo < hi:=by grind
 rw [h.free (show lo≤m by grind),jE hlt]
 by_cases e:m < hi
 ·exact yX (o.i hlt) (by grind) e
 ·have e2:m=hi:=by grind
  subst e2;refine ⟨fun k=>absurd k (jh hlt (by grind)),fun k=>?_⟩;have:=((o.i hlt).one.free (cu h.z) (by grind)).2 k;omega
theorem yO.cmp(h:yO c)(o:sH c lo hi){m:Rat}(h1:lo < m)(h2:m≤hi):cZ (bJ c lo hi) (fE m)=if fP c lo m=0 then 1 else if eP (FF c m)=0 then 0 else -1:=by
 have hc:=h.cut o h1 h2
 by_cases h0:fP c lo m=0
 ·rw [if_pos h0];exact vU o.cut (hc.2 h0)
 ·rw [if_neg h0]
  by_cases hs0:eP (FF c m)=0
  ·rw [if_pos hs0];exact (o.ake h1 h2).2 hs0
  ·rw [if_neg hs0]
   rcases nP (bJ c lo hi) (fE m) with k | k | k
   ·exact k
   ·exact absurd ((o.ake h1 h2).1 k) hs0
   ·exfalso
    have h3:¬ bJ c lo hi m:=fun k=>h0 (hc.1 k)
    have h4:cZ (bJ c lo hi) (fE m)≤0:=(sQ o.cut (kN m)).2 fun q hq=>o.cut.nb hq h3
    omega
theorem yO.half(h:yO c)(o:sH c lo hi)(ex:EX c lo hi):qhl c lo hi=hlf c lo hi∧EX c (hlf c lo hi).1 (hlf c lo hi).2:=by
 have key:qhl c lo hi=hlf c lo hi:=by
  unfold qhl hlf
  by_cases e:lo=hi
  ·rw [if_pos e,if_pos (by grind)]
  ·have hlt:lo < hi:=by have:=o.le;grind
   rw [if_neg e,if_neg (show ¬ hi≤lo by grind)];obtain ⟨m,hm⟩:∃ m,m=(lo+hi) / 2:=⟨_,rfl⟩
   rw [← hm];have m1:lo < m:=by grind
   have m2:m < hi:=by grind
   rw [h.cmp o m1 (show m≤hi by grind)]
   by_cases h0:fP c lo m=0
   ·rw [if_neg (show ¬ 0 < fP c lo m by omega),if_pos h0,if_neg (show ¬ (1:Int)=0 by decide),if_neg (show ¬ (1:Int)= -1 by decide)]
    unfold zH;rw [if_neg];rintro ⟨_,k⟩;rcases ex with x | x
    ·exact e x
    ·exact x k
   ·rw [if_pos (show 0 < fP c lo m by omega),if_neg h0]
    unfold zH
    by_cases hs0:eP (FF c m)=0
    ·rw [if_pos ⟨by grind,hs0⟩,if_pos hs0,if_pos rfl]
    ·rw [if_neg (fun k=>hs0 k.2),if_neg hs0,if_neg (show ¬ (-1:Int)=0 by decide),if_pos rfl]
 refine ⟨key,?_⟩;rw [← key];unfold qhl;split
 ·rename_i e;exact Or.inl e
 ·split
  ·exact KQ _ _ _
  ·exact KQ _ _ _
/-! ### Against a rational number -/
noncomputable def crQ(c:Nat→Int)(lo hi t:Rat):Int:=if lo=hi then uH lo t else if t≤lo then 1 else if hi < t then -1 else if fP c lo t=0 then 1 else if eP (FF c t)=0 then 0 else -1
theorem yO.rat(h:yO c)(o:sH c lo hi)(t:Rat):crQ c lo hi t=cZ (bJ c lo hi) (fE t):=by
 unfold crQ
 by_cases e:lo=hi
 ·rw [if_pos e,o.rat,if_pos (by grind)]
 ·have hlt:lo < hi:=by have:=o.le;grind
  rw [if_neg e]
  by_cases h1:t≤lo
  ·rw [if_pos h1,o.rat,if_neg (by grind),if_pos h1]
  ·by_cases h2:hi < t
   ·rw [if_neg h1,if_pos h2,o.rat,if_neg (by grind),if_neg h1,if_pos h2]
   ·rw [if_neg h1,if_neg h2,h.cmp o (by grind) (by grind)]
end
/-! ### All roots -/
noncomputable def JY(c:Nat→Int):Nat→Rat→Rat→List (Rat×Rat)
 | 0,_,_=> []
 | n+1,lo,hi=>if fP c lo hi=0 then [] else if fP c lo hi=1 then [zH c lo hi] else JY c n lo ((lo+hi) / 2) ++JY c n ((lo+hi) / 2) hi
structure SpP(c:Nat→Int)(lo hi:Rat)(l:List (Rat×Rat)):Prop where
 ok:∀ p∈l,uD c p.1 p.2∧EX c p.1 p.2∧lo≤p.1∧p.2≤hi∧bJ c p.1 p.2 lo
 all:∀ C,dV C→VC (FF c) C→C lo→¬ C hi→∃ p∈l,∀ q,bJ c p.1 p.2 q↔C q
 rise:l.Pairwise fun p q=>cZ (bJ c p.1 p.2) (bJ c q.1 q.2)= -1
 len:l.length=fP c lo hi
theorem CZ{f g:Fn}{l:List Fn}(hst:I4 f g l)(pf:Po f){a b:Rat}(h:jB f a b){C:qw}(hC:dV C)(ca:C a)(cb:¬ C b)(v:VC f C):False:=by
 obtain ⟨a',h1,h2⟩:=hC.up a ca;obtain ⟨s,hs,hst'⟩:=h;have hab:=hC.nb h2 cb;obtain ⟨e,he,hf⟩:=Ol hst pf (a:=a') (b:=b) (by grind) (by rw [hst' a' h1 (by grind)];exact hs) fun t t1 t2=>by rw [hst' t (by grind) t2,hst' a' h1 (by grind)]
 obtain ⟨t,t1,t2,ht⟩:=v (e / 2) (by grind) a' b h2 cb;have:=hf t t1 t2;unfold Ab at ht;rcases this with k | k <;> grind
theorem yO.one{c:Nat→Int}{lo hi:Rat}(h:yO c)(hab:lo≤hi)(h1:fP c lo hi=1){C:qw}(hC:dV C)(v:VC (FF c) C)(ca:C lo)(cb:¬ C hi)(q:Rat):bJ c lo hi q↔C q:=by
 have o:=h.okI hab h1;obtain ⟨g,l,hst⟩:=o.stm;rw [jE o.lt];constructor
 ·intro k
  apply Classical.byContradiction;intro nq;have hq:=hC.nb ca nq;have Yz:q < hi:=by rcases k with k | k;grind;exact k.1
  exact CZ hst (cu h.z) ((yX o (by grind) Yz).1 k) hC ca nq v
 ·intro k
  apply Classical.byContradiction;intro nq;have Yz:=hC.nb k cb;have hf:jB (FF c) q hi:=Classical.byContradiction fun nf=>nq (Or.inr ⟨Yz,nf⟩)
  exact CZ hst (cu h.z) hf hC k cb v
theorem JZ{c:Nat→Int}(h:yO c){h1:Nat}(b1:∀ i,(c i).natAbs≤2^h1){lo hi:Rat}(hab:lo≤hi)(hl: -(t2 (h1+1))≤lo)(hh:hi≤t2 (h1+1))(hw:(hi-lo)*t2 (lS (lg c) (lg c) h1 h1)≤1):fP c lo hi≤1:=by
 have hlc:=dK c;have hp:=iq h1;have e2:t2 (h1+2)=t2 (h1+1)*2:=by rw [show h1+2=(h1+1)+1 from rfl,jv (h1+1) 1];rfl
 have hp1:=iq (h1+1);have hin:In (t2 (h1+2)) lo∧In (t2 (h1+2)) hi:=by
  unfold In;constructor <;> constructor <;> grind
 obtain ⟨U,V,z,hz,KX,hU,hV,hL⟩:=afk h.z h.sq h.l2 b1 (h1+2) (lg c / 2+1) (Hu _ (by omega));have hx:=afB (n1:=lg c) (n2:=lg c) (h1:=h1) (h2:=h1) (hl:=h1) h.l2 hlc h.l2 (Nat.le_refl _) (Nat.le_refl _);have hs:=Di hx (show 0≤hi-lo by grind) hw;exact acM h.sq.zF h.sq.po h.sq.V5 hz KX hU hV hL (by have:=iq (3*(lg c / 2+1)+(h1+2)*lg c+(lg c / 2+1+h1));grind) hin.1 hin.2 hab hs (h.ctd lo hi hab)
theorem aha{c:Nat→Int}(h:yO c){h1:Nat}(b1:∀ i,(c i).natAbs≤2^h1):∀ (d:Nat) (lo hi:Rat),lo≤hi→-(t2 (h1+1))≤lo→hi≤t2 (h1+1)→(hi-lo)*t2 (lS (lg c) (lg c) h1 h1)≤t2 d→SpP c lo hi (JY c (d+1) lo hi):=by
 intro d
 induction d with
 | zero=>
  intro lo hi hab hl hh hw;have h9:=JZ h b1 hab hl hh (by rw [show t2 0=1 from rfl] at hw;exact hw);unfold JY
  by_cases h0:fP c lo hi=0
  ·rw [if_pos h0]
   obtain ⟨g,l,hst,_⟩:=h.ctd lo hi hab;exact ⟨fun p hp=>absurd hp (by simp),fun C hC v ca cb=>(CZ hst (cu h.z) ((h.free hab).1 h0) hC ca cb v).elim,List.Pairwise.nil,by rw [h0];rfl⟩
  ·have e1:fP c lo hi=1:=by omega
   rw [if_neg h0,if_pos e1];have o:=h.okV hab e1;have n:=Tf o.ok;refine ⟨fun p hp=>?_,fun C hC v ca cb=>⟨_,by simp,fun q=>(n.cut q).trans (h.one hab e1 hC v ca cb q)⟩,List.pairwise_singleton _ _,by rw [e1];rfl⟩;obtain rfl:p=zH c lo hi:=by simpa using hp
   refine ⟨o.Np n,KQ _ _ _,n.lo,n.hi,(n.cut lo).2 ?_⟩;rw [jE (h.lt hab h0)];exact Or.inl (by grind)
 | succ d ih=>
  intro lo hi hab hl hh hw;unfold JY
  by_cases h0:fP c lo hi=0
  ·rw [if_pos h0]
   obtain ⟨g,l,hst,_⟩:=h.ctd lo hi hab;exact ⟨fun p hp=>absurd hp (by simp),fun C hC v ca cb=>(CZ hst (cu h.z) ((h.free hab).1 h0) hC ca cb v).elim,List.Pairwise.nil,by rw [h0];rfl⟩
  ·rw [if_neg h0]
   by_cases e1:fP c lo hi=1
   ·rw [if_pos e1]
    have o:=h.okV hab e1;have n:=Tf o.ok;refine ⟨fun p hp=>?_,fun C hC v ca cb=>⟨_,by simp,fun q=>(n.cut q).trans (h.one hab e1 hC v ca cb q)⟩,List.pairwise_singleton _ _,by rw [e1];rfl⟩;obtain rfl:p=zH c lo hi:=by simpa using hp
    refine ⟨o.Np n,KQ _ _ _,n.lo,n.hi,(n.cut lo).2 ?_⟩;rw [jE (h.lt hab h0)];exact Or.inl (by grind)
   ·rw [if_neg e1]
    obtain ⟨m,hm⟩:∃ m,m=(lo+hi) / 2:=⟨_,rfl⟩
    rw [← hm];have hE:=iq (lS (lg c) (lg c) h1 h1);have e2:t2 (d+1)=t2 d*2:=by rw [jv d 1];rfl
    have m1:lo≤m:=by grind
    have m2:m≤hi:=by grind
    have w1:(m-lo)*t2 (lS (lg c) (lg c) h1 h1)≤t2 d:=by
     have:m-lo=(hi-lo) / 2:=by grind
     rw [this];rw [e2] at hw;grind
    have w2:(hi-m)*t2 (lS (lg c) (lg c) h1 h1)≤t2 d:=by
     have:hi-m=(hi-lo) / 2:=by grind
     rw [this];rw [e2] at hw;grind
    have A:=ih lo m m1 hl (by grind) w1;have B:=ih m hi m2 (by grind) hh w2;refine ⟨fun p hp=>?_,fun C hC v ca cb=>?_,?_,by rw [List.length_append,A.len,B.len,h.add m1 m2]⟩
    ·rcases List.mem_append.1 hp with k | k
     ·obtain ⟨a1,a2,a3,a4,a5⟩:=A.ok p k
      exact ⟨a1,a2,a3,by grind,a5⟩
     ·obtain ⟨a1,a2,a3,a4,a5⟩:=B.ok p k
      exact ⟨a1,a2,by grind,a4,a1.ok.cut.down _ _ a5 m1⟩
    ·by_cases cm:C m
     ·obtain ⟨p,k,e⟩:=B.all C hC v cm cb
      exact ⟨p,List.mem_append.2 (Or.inr k),e⟩
     ·obtain ⟨p,k,e⟩:=A.all C hC v ca cm
      exact ⟨p,List.mem_append.2 (Or.inl k),e⟩
    ·refine List.pairwise_append.2 ⟨A.rise,B.rise,fun p hp q hq=>?_⟩
     obtain ⟨a1,a2,a3,a4,a5⟩:=A.ok p hp;obtain ⟨b1,b2,b3,b4,b5⟩:=B.ok q hq;exact vV b5 (a1.ok.above a4)
/-! ### The bound -/
def zM(c:Nat→Int):Nat→Nat
 | 0=>0
 | i+1=>max (zM c i) (c i).natAbs
theorem Zm(c:Nat→Int):∀ {i n:Nat},i < n→(c i).natAbs≤zM c n
 | i,0,h=>absurd h (Nat.not_lt_zero _)
 | i,n+1,h=>by
  unfold zM
  by_cases e:i=n
  ·subst e;exact Nat.le_max_right _ _
  ·exact Nat.le_trans (Zm c (i:=i) (n:=n) (by omega)) (Nat.le_max_left _ _)
theorem Zl{c:Nat→Int}{H:Nat}(h:∀ i,(c i).natAbs≤H):∀ n,zM c n≤H
 | 0=>Nat.zero_le _
 | n+1=>by unfold zM;exact Nat.max_le.2 ⟨Zl h n,h n⟩
def AY(c:Nat→Int):Rat:=1+(zM c (lg c-1):Rat) / ((c (lg c-1)).natAbs:Rat)
section
variable {c:Nat→Int}
theorem Cm(h0:lg c≠0):(1:Rat)≤((c (lg c-1)).natAbs:Rat):=by
 have:=kG h0;exact_mod_cast (show 1≤(c (lg c-1)).natAbs by omega)
theorem Qv(h0:lg c≠0):1≤AY c:=by
 have h1:=Cm h0;have h2:=iH (zM c (lg c-1));unfold AY;have:0≤(zM c (lg c-1):Rat) / ((c (lg c-1)).natAbs:Rat):=by
  rw [Rat.div_def];exact Rat.mul_nonneg h2 (by have:=Rat.inv_pos.2 (show (0:Rat) < ((c (lg c-1)).natAbs:Rat) by grind);grind)
 grind
theorem aff(h0:lg c≠0){H:Nat}(h:∀ i,(c i).natAbs≤H):AY c≤1+(H:Rat):=by
 have h1:=Cm h0;have h2:(zM c (lg c-1):Rat)≤(H:Rat):=qj (Zl h _);have h3:=iH (zM c (lg c-1));obtain ⟨k,hk⟩:∃ k,k=(zM c (lg c-1):Rat) / ((c (lg c-1)).natAbs:Rat):=⟨_,rfl⟩
 have h4:k*((c (lg c-1)).natAbs:Rat)=(zM c (lg c-1):Rat):=by rw [hk];exact Rat.div_mul_cancel (by grind)
 have hk0:0≤k:=by
  have:=Qv h0;unfold AY at this;rw [← hk] at this;grind
 have h5:k*1≤k*((c (lg c-1)).natAbs:Rat):=Rat.mul_le_mul_of_nonneg_left h1 hk0;unfold AY;rw [← hk];grind
theorem afg(z:aZ c)(h0:lg c≠0){C:qw}(hC:dV C)(v:VC (FF c) C):C (-(AY c))∧¬ C (AY c):=by
 obtain ⟨n,hn⟩:∃ n,n=lg c-1:=⟨_,rfl⟩
 obtain ⟨a,ha⟩:∃ a:Rat,a=(c n:Rat):=⟨_,rfl⟩
 have hcn:c n≠0:=by rw [hn];exact kG h0
 have ha0:a≠0:=by rw [ha];exact rX hcn
 obtain ⟨A,hA⟩:∃ A:Rat,A=((c n).natAbs:Rat):=⟨_,rfl⟩
 have hAa:A=a∨A= -a:=by
  rw [hA,ha];rcases Int.natAbs_eq (c n) with e | e
  ·left;rw [e];simp;rfl
  ·right
   obtain ⟨k,hk⟩:∃ k,k=(c n).natAbs:=⟨_,rfl⟩
   rw [← hk] at e ⊢;rw [e,Rat.intCast_neg,Rat.neg_neg];rfl
 have hA1:1≤A:=by rw [hA,hn];exact Cm h0
 obtain ⟨H,hH⟩:∃ H:Rat,H=(zM c n:Rat) / A:=⟨_,rfl⟩
 have hHA:H*A=(zM c n:Rat):=by rw [hH];exact Rat.div_mul_cancel (by grind)
 have hb:AY c=1+H:=by unfold AY;rw [hH,hA,hn]
 have hH0:0≤H:=by have:=Qv h0;grind
 have hce:∀ i,Ab ((if i < n then (c i:Rat) / A else 0)) H:=fun i=>by
  by_cases hi:i < n
  ·rw [if_pos hi]
   obtain ⟨q,hq⟩:∃ q,q=(c i:Rat) / A:=⟨_,rfl⟩
   have h1:q*A=(c i:Rat):=by rw [hq];exact Rat.div_mul_cancel (by grind)
   have h2:((c i).natAbs:Rat)≤(zM c n:Rat):=qj (Zm c hi);have h3: -((c i).natAbs:Rat)≤(c i:Rat)∧(c i:Rat)≤((c i).natAbs:Rat):=by
    constructor
    ·have: -(((c i).natAbs:Nat):Int)≤c i:=by omega
     have h9:((-(((c i).natAbs:Nat):Int):Int):Rat)≤(c i:Rat):=by exact_mod_cast this
     rw [Rat.intCast_neg] at h9;exact h9
    ·have:c i≤(((c i).natAbs:Nat):Int):=by omega
     exact_mod_cast this
   rw [← hq];rw [← h1,← hHA] at *
   unfold Ab;constructor
   ·apply Classical.byContradiction
    intro k;have:(q+H)*A < 0:=by
     have:=Rat.mul_pos (show 0 < -(q+H) by grind) (show 0 < A by grind);grind
    grind
   ·apply Classical.byContradiction
    intro k;have:=Rat.mul_pos (show 0 < q-H by grind) (show 0 < A by grind);grind
  ·rw [if_neg hi];exact jD hH0
 have far:∀ t y,(t=y∨t= -y)→1+H≤y→oh (FF c t) 1:=fun t y ht hy=>by
  have hab:Ab t y:=by rcases ht with k | k <;> unfold Ab <;> constructor <;> grind
  have h1:=Rk hab hH0 hy hce n;have h2:=KR ht (show 1≤y by grind) n;have hy1:=jI (B:=y) (by grind) n;have e:∀ m,m≤n→pe (fun i=>if i < n then (c i:Rat) / A else 0) t m*A=pe (rc c) t m:=by
   intro m
   induction m with
   | zero=>intro _;show (0:Rat)*A=0;grind
   | succ m ih=>
    intro hm;show (pe (fun i=>if i < n then (c i:Rat) / A else 0) t m+(if m < n then (c m:Rat) / A else 0)*t^m)*A=pe (rc c) t m+rc c m*t^m
    rw [if_pos (by omega),← ih (by omega)];have:(c m:Rat) / A*A=(c m:Rat):=Rat.div_mul_cancel (by grind);show _=_+(c m:Rat)*t^m
    grind
  have e2:FF c t=pe (rc c) t n+a*t^n:=by
   rw [← iD z,show lg c=n+1 by omega,ha];rfl
  rw [e2,← e n (Nat.le_refl _)];obtain ⟨P,hP⟩:∃ P,P=pe (fun i=>if i < n then (c i:Rat) / A else 0) t n:=⟨_,rfl⟩
  rw [← hP] at h1 ⊢;have h5:oh (P+(if A=a then 1 else -1)*t^n) 1:=by
   unfold Ab at h1;split
   ·rcases h2 with k | k
    ·left;grind
    ·right;grind
   ·rcases h2 with k | k
    ·right;grind
    ·left;grind
  have h6:=oh.mul (d:=1) (e:=A) (by grind) (by grind) h5 (Or.inl (show A≤A by grind));have e3:(P+(if A=a then 1 else -1)*t^n)*A=P*A+a*t^n:=by
   split
   ·rename_i k;rw [← k];grind
   ·rename_i k
    have:A= -a:=by rcases hAa with x | x;exact absurd x k;exact x
    have ha':a= -A:=by grind
    rw [ha'];grind
  rw [e3] at h6;rcases h6 with k | k
  ·left;grind
  ·right;grind
 rw [hb];constructor
 ·apply Classical.byContradiction
  intro nc;obtain ⟨q,hq⟩:=hC.lo;obtain ⟨t,t1,t2,ht⟩:=v (1 / 2) (by grind) q (-(1+H)) hq nc;unfold Ab at ht
  rcases far t (-t) (Or.inr (by grind)) (by grind) with k | k <;> grind
 ·intro cc
  obtain ⟨r,hr⟩:=hC.hi;obtain ⟨t,t1,t2,ht⟩:=v (1 / 2) (by grind) (1+H) r cc hr;unfold Ab at ht;rcases far t t (Or.inl rfl) (by grind) with k | k <;> grind
end
end Go.Proofs.YtapmpcgekdplfaaGreat
