/-
  Laws of the program's functions by an abstract machine, part 4 of the proof of AlgLines: joined, short spelling. No condition.
-/
import Derived.Test.YthccmbncplakjaaGreatJ3
set_option linter.unusedVariables false
set_option linter.unusedSimpArgs false
set_option maxRecDepth 100000
set_option maxHeartbeats 4000000
namespace Go.Proofs.YthccmbncplakjaaGreat
open Go.RowKit
theorem pe_low{c:Nat→Rat}{x y H:Rat}(hx:Ab x y)(hH:0≤H)(hy:1+H≤y)(h:∀ i,Ab (c i) H):∀ n,Ab (pe c x n) (y^n-1)
  | 0=>ab_zero (by rw [Rat.pow_zero];grind)
  | n+1=>by
    have h1:=(pe_low hx hH hy h n).add ((h n).mul (pw_bd (by grind) hx n));refine h1.mono ?_;have h2:=pow_ge (B:=y) (by grind) n;have h3:y^n*(1+H)≤y^n*y:=Rat.mul_le_mul_of_nonneg_left hy (by grind);rw [Rat.pow_succ];grind
theorem far_pow{x y:Rat}(h:x=y∨x= -y)(hy:1≤y):∀ n:Nat,Far (x^n) (y^n)
  | 0=>Or.inl (by rw [Rat.pow_zero,Rat.pow_zero];grind)
  | n+1=>by
    have h1:Far x y:=by rcases h with h | h;exact Or.inl (by grind);exact Or.inr (by grind)
    have h2:=pow_ge hy n;have:=(far_pow h hy n).mul (d:=y^n) (e:=y) (by grind) (by grind) h1;rw [Rat.pow_succ,Rat.pow_succ];exact this
theorem far_int{z:Int}(h:z≠0):Far (z:Rat) 1:=by
  rcases Int.lt_or_gt_of_ne h with k | k
  · right
    have:z≤-1:=by omega
    have h3:(z:Rat)≤((-1:Int):Rat):=by exact_mod_cast this
    rwa [Rat.intCast_neg] at h3
  · left
    have:1≤z:=by omega
    exact_mod_cast this
theorem pf_big{c:Nat→Int}{n:Nat}{x y H:Rat}(hn:c n≠0)(hx:x=y∨x= -y)(hH:0≤H)(hy:1+H≤y)(h:∀ i,Ab (c i:Rat) H):Far (pf c (n+1) x) 1:=by
  have hab:Ab x y:=by rcases hx with k | k <;> unfold Ab <;> constructor <;> grind
  have h1:=pe_low (c:=rc c) hab hH hy h n;have hy1:1≤y:=by grind
  have h2:=pow_ge hy1 n;have h3:=(far_int hn).mul (d:=1) (e:=y^n) (by grind) (by grind) (far_pow hx hy1 n);show Far (pe (rc c) x n+rc c n*x^n) 1
  have e:rc c n=(c n:Rat):=rfl;rw [e];unfold Ab at h1;rcases h3 with h3 | h3
  · left;grind
  · right;grind
theorem vc_bd{c:Nat→Int}(z:z20 c)(h0:lg c≠0){H:Rat}(hH:0≤H)(h:∀ i,Ab (c i:Rat) H){C:Cut}(v:VC (FF c) C){q r:Rat}(hq:C q)(hr:¬ C r):q < 1+H∧-(1+H) < r:=by
  have far:∀ t y,(t=y∨t= -y)→1+H≤y→Far (FF c t) 1:=fun t y ht hy=>by
    rw [← FF_lg z,show lg c=(lg c-1)+1 by omega];exact pf_big (lg_ne h0) ht hH hy h
  obtain ⟨t,h1,h2,h3⟩:=v (1 / 2) (by grind) q r hq hr;unfold Ab at h3;constructor
  · apply Classical.byContradiction
    intro hn
    rcases far t t (Or.inl rfl) (by grind) with k | k <;> grind
  · apply Classical.byContradiction
    intro hn
    rcases far t (-t) (Or.inr (by grind)) (by grind) with k | k <;> grind
theorem ex_split(P:Nat→Prop):∀ t,∃ (s:Nat) (xs ys:Nat→Nat),s≤t∧(∀ i j,i < j→j < s→xs i < xs j)∧(∀ i,i < s→xs i < t∧P (xs i))∧(∀ i j,i < j→j < t-s→ys i < ys j)∧(∀ i,i < t-s→ys i < t∧¬ P (ys i))
  | 0=>⟨0,fun _=>0,fun _=>0,Nat.le_refl _,fun _ _ _ h=>absurd h (by omega),fun _ h=>absurd h (by omega),fun _ _ _ h=>absurd h (by omega),fun _ h=>absurd h (by omega)⟩
  | t+1=>by
    obtain ⟨s,xs,ys,h1,h2,h3,h4,h5⟩:=ex_split P t
    by_cases hp:P t
    · refine ⟨s+1,fun i=>if i=s then t else xs i,ys,by omega,fun i j hij hj=>?_,fun i hi=>?_,fun i j hij hj=>h4 i j hij (by omega),fun i hi=>⟨by have:=(h5 i (by omega)).1;omega,(h5 i (by omega)).2⟩⟩
      · show (if i=s then t else xs i) < (if j=s then t else xs j)
        rw [if_neg (by omega)]
        by_cases e:j=s
        · rw [if_pos e];exact (h3 i (by omega)).1
        · rw [if_neg e];exact h2 i j hij (by omega)
      · show (if i=s then t else xs i) < t+1∧P (if i=s then t else xs i)
        by_cases e:i=s
        · rw [if_pos e];exact ⟨by omega,hp⟩
        · rw [if_neg e];exact ⟨by have:=(h3 i (by omega)).1;omega,(h3 i (by omega)).2⟩
    · refine ⟨s,xs,fun i=>if i=t-s then t else ys i,by omega,h2,fun i hi=>⟨by have:=(h3 i hi).1;omega,(h3 i hi).2⟩,fun i j hij hj=>?_,fun i hi=>?_⟩
      · show (if i=t-s then t else ys i) < (if j=t-s then t else ys j)
        rw [if_neg (by omega)]
        by_cases e:j=t-s
        · rw [if_pos e];exact (h5 i (by omega)).1
        · rw [if_neg e];exact h4 i j hij (by omega)
      · show (if i=t-s then t else ys i) < t+1∧¬ P (if i=t-s then t else ys i)
        by_cases e:i=t-s
        · rw [if_pos e];exact ⟨by omega,hp⟩
        · rw [if_neg e];exact ⟨by have:=(h5 i (by omega)).1;omega,(h5 i (by omega)).2⟩
theorem cast_small{x n:Nat}(h:x < 2*n):Ab (((x:Nat):Int):Rat) (2*(n:Rat)):=by
  have h1:(0:Rat)≤(((x:Nat):Int):Rat):=nat_nn x;have h2:(((x:Nat):Int):Rat)≤((2*n:Nat):Rat):=nat_le (Nat.le_of_lt h);rw [Rat.natCast_mul] at h2;have e:((2:Nat):Rat)=2:=rfl;rw [e] at h2;unfold Ab;constructor <;> grind
theorem ex_nodes{c:Nat→Int}{n:Nat}(hz:∀ i,n≤i→c i=0){i0:Nat}(hne:c i0≠0):∃ xs:Nat→Nat,(∀ i j,i < j→j < n→xs i < xs j)∧∀ i,i < n→xs i < 2*n∧pf c n (((xs i:Nat):Int):Rat)≠0:=by
  obtain ⟨s,xs,ys,h1,h2,h3,h4,h5⟩:=ex_split (fun k=>pf c n (((k:Nat):Int):Rat)≠0) (2*n)
  by_cases hs:n≤s
  · exact ⟨xs,fun i j hij hj=>h2 i j hij (by omega),fun i hi=>h3 i (by omega)⟩
  · exfalso
    have h6:=interp (R:=2*(n:Rat)) (by have:=nat_nn n;grind) n c (fun i=>((ys i:Nat):Int)) 0 hz (fun i j hij hj=>by have:=h4 i j hij (by omega);show ((ys i:Nat):Int)≠((ys j:Nat):Int);omega)
      (fun i hi=>cast_small (h5 i (by omega)).1) (fun i hi=>by
        have:=(h5 i (by omega)).2;have e:pf c n (((ys i:Nat):Int):Rat)=0:=Classical.byContradiction this;rw [e];exact ab_zero (by grind)) (by grind) i0
    rw [Rat.zero_mul] at h6;have:(c i0:Rat)=0:=by unfold Ab at h6;grind
    exact rc_ne hne this
theorem dv_small{a b w:Nat→Int}{n k:Nat}{H:Rat}{i0:Nat}(ha:∀ i,n≤i→a i=0)(ha0:a i0≠0)(hn:n≠0)(hb:∀ i,n≤i→b i=0)(hw:∀ i,k≤i→w i=0)(h:∀ i,conv w b i=a i)(hH0:0≤H)(hH:∀ i,Ab (a i:Rat) H)(i:Nat):
    Ab (b i:Rat) ((n:Rat)*(H*(2*(n:Rat))^n)*(10*(n:Rat))^n):=by
  obtain ⟨xs,h1,h2⟩:=ex_nodes ha ha0;have hn1:(1:Rat)≤(n:Rat):=nat_le (a:=1) (by omega);have hval:∀ x,pf a n x=pf w k x*pf b n x:=fun x=>by
    rw [← pf_conv hw hb,show conv w b=a from funext h];exact pz_eq ha fun i hi=>by rw [← h i];exact conv_z0 hw hb i hi
  have hM0:0≤(n:Rat)*(H*(2*(n:Rat))^n):=Rat.mul_nonneg (nat_nn n) (Rat.mul_nonneg hH0 (by have:=pow_ge (B:=2*(n:Rat)) (by grind) n;grind));have key:=interp (R:=2*(n:Rat)) (by grind) n b (fun i=>((xs i:Nat):Int)) _ hb (fun i j hij hj=>by have:=h1 i j hij hj;show ((xs i:Nat):Int)≠((xs j:Nat):Int);omega) (fun i hi=>cast_small (h2 i hi).1) (fun j hj=>by
    obtain ⟨za,hza⟩:=pf_int a ((xs j:Nat):Int) n;obtain ⟨zb,hzb⟩:=pf_int b ((xs j:Nat):Int) n;obtain ⟨zw,hzw⟩:=pf_int w ((xs j:Nat):Int) k;have hne:=(h2 j hj).2;have e1:=hval (((xs j:Nat):Int):Rat);have hA:Ab (pf a n (((xs j:Nat):Int):Rat)) ((n:Rat)*(H*(2*(n:Rat))^n)):=pe_crude (by grind) (cast_small (h2 j hj).1) hH0 n fun t _=>hH t
    rw [hza] at e1 hne hA;rw [hzb,hzw,← Rat.intCast_mul] at e1;show Ab (pf b n (((xs j:Nat):Int):Rat)) _
    rw [hzb];exact ab_factor (by exact_mod_cast e1) (fun e=>hne (by rw [e];rfl)) hA) hM0 i
  refine key.mono (Rat.mul_le_mul_of_nonneg_left ?_ hM0);have:=bet_le (R:=2*(n:Rat)) (by grind) n;rwa [show 5*(2*(n:Rat))=10*(n:Rat) from by grind] at this
theorem der_ge{f f':Fn}(hd:Der f f'){a b μ:Rat}(hab:a≤b)(hμ:0 < μ)(h:∀ x,a≤x→x≤b→μ≤f' x):μ / 2*(b-a)≤f b-f a:=by
  obtain ⟨B,ha,hb,_⟩:=ex_in a b;obtain ⟨E,hE,hE2⟩:=hd B;obtain ⟨δ,hδ,hs⟩:=ex_small hE (show 0 < μ / 2 by grind);refine cells_ind hδ hab (fun t=>μ / 2*(t-a)≤f t-f a) (by grind) (fun x y hx hxy hy hd' ih=>?_);have h1:=hE2 x y (ha.btw hb hx (by grind)) (ha.btw hb (by grind) hy) (by grind);have h2:=h x hx (by grind);have h3:=hs (y-x) (by grind) hd';have h4:(y-x)*((y-x)*E)≤(y-x)*(μ / 2):=Rat.mul_le_mul_of_nonneg_left (by grind) (by grind);have h5:(y-x)*μ≤(y-x)*f' x:=Rat.mul_le_mul_of_nonneg_left h2 (by grind);unfold Ab at h1;grind
theorem sepC{k1 k2 U V:Fn}{z S L B a b:Rat}{C D:Cut}(hz:1≤z∨z≤-1)(hUV:∀ x,U x*k1 x+V x*k2 x=z)(hU:∀ x,In B x→Ab (U x) S)(hV:∀ x,In B x→Ab (V x) S)(hL:Lip B k2 L)(hL0:0≤L)(ha:In B a)(hb:In B b)(hs:S*(L*(b-a)) < 1)(vC:VC k1 C)(vD:VC k2 D)(ca:C a)(cb:¬ C b)(da:D a)(db:¬ D b):False:=by
  have hS:0≤S:=(hU a ha).nn;obtain ⟨e,he,hse⟩:=ex_small (L:=2*S) (m:=1-S*(L*(b-a))) (by grind) (by grind);have he2:=hse (e / 2) (by grind) (by grind);obtain ⟨x,hx1,hx2,hx⟩:=vC (e / 2) (by grind) a b ca cb;obtain ⟨y,hy1,hy2,hy⟩:=vD (e / 2) (by grind) a b da db;have hxB:=ha.btw hb hx1 hx2;have hyB:=ha.btw hb hy1 hy2;have hgx:Ab (k2 x) (e / 2+L*(b-a)):=by
    by_cases hxy:x≤y
    · have h1:=hL.ab hxB hyB hxy
      have h2:L*(y-x)≤L*(b-a):=Rat.mul_le_mul_of_nonneg_left (by grind) hL0;unfold Ab at *;constructor <;> grind
    · have h1:=hL.ab hyB hxB (by grind)
      have h2:L*(x-y)≤L*(b-a):=Rat.mul_le_mul_of_nonneg_left (by grind) hL0;unfold Ab at *;constructor <;> grind
  have h3:=((hU x hxB).mul hx).add ((hV x hxB).mul hgx);rw [hUV] at h3;unfold Ab at h3;rcases hz with hz | hz <;> grind
theorem sepA{f f' U V:Fn}{z S L B a b q:Rat}{C D:Cut}(hC:IsCut C)(hD:IsCut D)(hd:Der f f')(pf':Po f')(hz:1≤z∨z≤-1)(hUV:∀ x,U x*f x+V x*f' x=z)(hU:∀ x,In B x→Ab (U x) S)(hV:∀ x,In B x→Ab (V x) S)(hL:Lip B f' L)(hL0:0≤L)(ha:In B a)(hb:In B b)(hs:S*(L*(b-a)) < 1)(vC:VC f C)(vD:VC f D)(ca:C a)(cb:¬ C b)(da:D a)(db:¬ D b)(hq:D q)(hq':¬ C q):False:=by
  have hS:0≤S:=(hU a ha).nn;obtain ⟨q1,hq1,hDq1⟩:=hD.up q hq;have haq:=hC.nb ca hq';have hqb:=hD.nb hDq1 db;obtain ⟨m,hm⟩:∃ m,m=1-S*(L*(b-a)):=⟨_,rfl⟩
  have hm0:0 < m:=by grind
  obtain ⟨μ1,hμ1,hμs⟩:=ex_small hS (show 0 < m / 2 by grind);obtain ⟨μ,hμ⟩:∃ μ,μ=μ1 / 2:=⟨_,rfl⟩
  have hμ0:0 < μ:=by grind
  have hSμ:=hμs μ hμ0 (by grind);obtain ⟨e1,he1,hes⟩:=ex_small hS (show 0 < m / 2 by grind);have hη:0 < μ / 2*(q1-q):=Rat.mul_pos (by grind) (by grind);obtain ⟨e,he,hea,heb⟩:=ex_min (a:=e1 / 2) (b:=μ / 2*(q1-q) / 4) (by grind) (by grind);have hSe:=hes e he (by grind);obtain ⟨x,hx1,hx2,hx⟩:=vC e he a q ca hq';obtain ⟨y,hy1,hy2,hy⟩:=vD e he q1 b hDq1 db;have hxB:=ha.btw hb hx1 (show x≤b by grind);have far:∀ t,a≤t→t≤b→Far (f' t) μ:=fun t ht1 ht2=>by
    apply Classical.byContradiction;intro hn;have hft:Ab (f' t) μ:=by unfold Far at hn;unfold Ab;constructor <;> grind
    have htB:=ha.btw hb ht1 ht2;have hfx:Ab (f' x) (μ+L*(b-a)):=by
      by_cases hxy:x≤t
      · have h1:=hL.ab hxB htB hxy
        have h2:L*(t-x)≤L*(b-a):=Rat.mul_le_mul_of_nonneg_left (by grind) hL0;unfold Ab at *;constructor <;> grind
      · have h1:=hL.ab htB hxB (by grind)
        have h2:L*(x-t)≤L*(b-a):=Rat.mul_le_mul_of_nonneg_left (by grind) hL0;unfold Ab at *;constructor <;> grind
    have h3:=((hU x hxB).mul hx).add ((hV x hxB).mul hfx);rw [hUV] at h3;unfold Ab at h3;rcases hz with hz | hz <;> grind
  obtain ⟨h0,hsg⟩:=far_sign pf' (show a≤b by grind) hμ0 far;unfold Ab at hx hy;have hw:μ / 2*(q1-q)≤μ / 2*(y-x):=Rat.mul_le_mul_of_nonneg_left (by grind) (by grind);rcases sg_pm h0 with hp | hp
  · have:=der_ge hd (show x≤y by grind) hμ0 (fun t h1 h2=>by
      have h3:=hsg t (by grind) (by grind);rcases far t (by grind) (by grind) with k | k
      · exact k
      · exfalso;rw [hp] at h3;have:=sgq_neg (x:=f' t) (by grind);omega)
    grind
  · have hd':Der (fun x=> -f x) (fun x=> -f' x):=fun B=>by
      obtain ⟨E,hE,h⟩:=hd B;refine ⟨E,hE,fun s t h1 h2 h3=>?_⟩;have:=h s t h1 h2 h3;unfold Ab at *
      constructor <;> grind
    have:=der_ge hd' (show x≤y by grind) hμ0 (fun t h1 h2=>by
      have h3:=hsg t (by grind) (by grind);rcases far t (by grind) (by grind) with k | k
      · exfalso;rw [hp] at h3;have:=sgq_pos (x:=f' t) (by grind);omega
      · show μ≤-f' t;grind)
    grind
def t2(k:Nat):Rat:=((2^k:Nat):Rat)
theorem t2_add(a b:Nat):t2 (a+b)=t2 a*t2 b:=by unfold t2;rw [Nat.pow_add];exact Rat.natCast_mul _ _
theorem t2_pos(k:Nat):0 < t2 k:=by unfold t2;exact_mod_cast Nat.two_pow_pos k
theorem t2_one(k:Nat):1≤t2 k:=nat_le (a:=1) (Nat.two_pow_pos k)
theorem t2_mono{a b:Nat}(h:a≤b):t2 a≤t2 b:=nat_le (Nat.pow_le_pow_right (by decide) h)
theorem t2_pow(a:Nat):∀ n:Nat,t2 a^n=t2 (a*n)
  | 0=>by rw [Rat.pow_zero];rfl
  | n+1=>by rw [Rat.pow_succ,t2_pow a n,← t2_add,Nat.mul_succ]
theorem t2_le{n a:Nat}(h:n≤2^a):(n:Rat)≤t2 a:=nat_le h
theorem t2_mul{x y:Rat}{a b:Nat}(hx:x≤t2 a)(hy:y≤t2 b)(hy0:0≤y):x*y≤t2 (a+b):=by
  rw [t2_add];have h1:x*y≤t2 a*y:=Rat.mul_le_mul_of_nonneg_right hx hy0;have h2:t2 a*y≤t2 a*t2 b:=Rat.mul_le_mul_of_nonneg_left hy (by have:=t2_pos a;grind);grind
theorem pow_nn{x:Rat}(h:0≤x):∀ n:Nat,0≤x^n
  | 0=>by rw [Rat.pow_zero];grind
  | n+1=>by rw [Rat.pow_succ];exact Rat.mul_nonneg (pow_nn h n) h
theorem pow_le_pow{x y:Rat}(h:0≤x)(k:x≤y):∀ n:Nat,x^n≤y^n
  | 0=>by rw [Rat.pow_zero,Rat.pow_zero];grind
  | n+1=>by
    rw [Rat.pow_succ,Rat.pow_succ];have h1:=Rat.mul_le_mul_of_nonneg_right (pow_le_pow h k n) h;have h2:=Rat.mul_le_mul_of_nonneg_left k (pow_nn (show 0≤y by grind) n);grind
theorem lg_two:∀ n,n≤40→n≤2^(n / 2+1):=by
  intro n hn;have:∀ m:Fin 41,m.val≤2^(m.val / 2+1):=by decide
  exact this ⟨n,by omega⟩
theorem row_bd{u:Nat→Int}{m n a k bl:Nat}{H:Rat}(hm:m≤n)(ha:n≤2^a)(hu:∀ i,Ab (u i:Rat) H)(hH:H≤t2 k):(∀ x,In (t2 bl) x→Ab (pz u x m) (t2 (3*a+bl*n+k)))∧Lip (t2 bl) (fun x=>pz u x m) (t2 (3*a+bl*n+k)):=by
  have hH0:0≤H:=(hu 0).nn;have hB:=t2_one bl;have hn:(n:Rat)≤t2 a:=t2_le ha;have hn0:=nat_nn n;have hm':(m:Rat)≤(n:Rat):=nat_le hm;have hTB:TB n H (t2 bl)≤t2 (a+a+bl*n+k):=by
    unfold TB;rw [t2_pow];exact t2_mul (t2_mul (t2_mul hn hn hn0) (by grind) (by have:=t2_pos (bl*n);grind)) hH hH0
  have hT0:=tb_nn (N:=n) hB hH0;have hall:(m:Rat)*TB n H (t2 bl)≤t2 (3*a+bl*n+k):=by
    have h1:=t2_mul (show (m:Rat)≤t2 a by grind) hTB hT0;rwa [show a+(a+a+bl*n+k)=3*a+bl*n+k by omega] at h1
  refine ⟨fun x hx=>(pe_bd hB hH0 (ab_in hx (by grind)) hm fun i _=>hu i).mono hall,fun x y hx hy hxy=>?_⟩;have h1:=pe_lip (c:=rc u) hB hH0 (ab_in hx (show t2 bl≤t2 bl by grind)) (ab_in hy (by grind)) hxy hm fun i _=>hu i
  have h2:(m:Rat)*TB n H (t2 bl)*(y-x)≤t2 (3*a+bl*n+k)*(y-x):=Rat.mul_le_mul_of_nonneg_right hall (by grind);have h3:=h1.mono h2;unfold Ab at h3;show pe (rc u) y m-pe (rc u) x m≤_∧pe (rc u) x m-pe (rc u) y m≤_
  constructor <;> grind
theorem ab_t2{z:Int}{H:Nat}(h: -(H:Int)≤z∧z≤H):Ab (z:Rat) (H:Rat):=by
  constructor
  · exact neg_cast' h.1
  · have:(z:Rat)≤(((H:Nat):Int):Rat):=by exact_mod_cast h.2
    exact this
theorem z_far{z:Int}(h:z≠0):1≤(z:Rat)∨(z:Rat)≤-1:=far_int h
theorem FF_pz{c:Nat→Int}(z:z20 c){n:Nat}(h:∀ i,n≤i→c i=0)(x:Rat):pz c x n=FF c x:=congrFun (FF_pf h z) x
theorem capA{c:Nat→Int}(zc:z20 c)(sq:Sqf (FF c) (FF (fder c)))(h2:2≤lg c){h1:Nat}(hc:∀ i,(c i).natAbs≤2^h1)(bl a:Nat)(ha:lg c≤2^a):
    ∃ (U V:Fn) (z:Rat),(1≤z∨z≤-1)∧(∀ x,U x*FF c x+V x*FF (fder c) x=z)∧(∀ x,In (t2 bl) x→Ab (U x) (t2 (3*a+bl*lg c+(2+a+(a+h1))*(2*lg c-3))))∧(∀ x,In (t2 bl) x→Ab (V x) (t2 (3*a+bl*lg c+(2+a+(a+h1))*(2*lg c-3))))∧Lip (t2 bl) (FF (fder c)) (t2 (3*a+bl*lg c+(a+h1))):=by
  obtain ⟨n,hn⟩:∃ n,n=lg c:=⟨_,rfl⟩
  rw [← hn] at h2 ha ⊢;have hz:∀ i,n≤i→c i=0:=by rw [hn];exact zc.lg
  have htop:c (n-1)≠0:=by rw [hn];exact lg_ne (by omega)
  have hz':∀ i,n-1≤i→fder c i=0:=fun i hi=>by unfold fder;rw [hz (i+1) (by omega)];simp
  have htop':fder c (n-2)≠0:=by
    unfold fder;rw [show n-2+1=n-1 by omega];exact Int.mul_ne_zero htop (by omega)
  obtain ⟨H,hH⟩:∃ H,H=n*2^h1:=⟨_,rfl⟩
  have hp:=Nat.two_pow_pos h1;have hle:2^h1≤H:=by rw [hH];exact Nat.le_mul_of_pos_left _ (by omega)
  have bc:∀ i,-(H:Int)≤c i∧c i≤H:=fun i=>by have:=hc i;omega
  have bc':∀ i,-(H:Int)≤fder c i∧fder c i≤H:=fun i=>by
    by_cases hi:n-1≤i
    · rw [hz' i hi];omega
    · have e:(fder c i).natAbs≤H:=by
        unfold fder;rw [Int.natAbs_mul,hH,Nat.mul_comm];exact Nat.mul_le_mul (by omega) (hc _)
      omega
  obtain ⟨U,V,z,hz0,hU0,hV0,bU,bV,hUV⟩:=combine (c:=c) (c':=fder c) (γ:=fun i=>if i=0 then 1 else 0) (d:=n-1) (e:=n-2) (r:=0) (H:=H) (k1:=FF c) (k2:=FF (fder c)) (fun i hi=>hz i (by omega)) (fun i hi=>hz' i (by omega)) (fun i hi=>if_neg (by omega)) htop htop' (by decide) (by decide) (by omega) bc bc' sq.po sq.po'
    (fun x=>by rw [FF_pz zc (fun i hi=>hz i (by omega))];show _=FF c x*(0+1*x^0);rw [Rat.pow_zero];grind)
    (fun x=>by rw [FF_pz (z20_der zc) (fun i hi=>hz' i (by omega))];show _=FF (fder c) x*(0+1*x^0);rw [Rat.pow_zero];grind) sq.cop (by omega) (by omega) (by omega)
  have hKH:(((2*(n-1+(n-2))*H)^(n-1+(n-2)):Nat):Rat)≤t2 ((2+a+(a+h1))*(2*n-3)):=by
    refine t2_le ?_;rw [Nat.pow_mul,show n-1+(n-2)=2*n-3 by omega];refine Nat.pow_le_pow_left ?_ _;have e:2*(2*n-3)≤2^(2+a):=by rw [Nat.pow_add];omega
    have e2:H≤2^(a+h1):=by rw [hH,Nat.pow_add];exact Nat.mul_le_mul_right _ ha
    rw [Nat.pow_add];exact Nat.mul_le_mul e e2
  have rU:=row_bd (u:=U) (m:=n-2-0) (n:=n) (bl:=bl) (by omega) ha (fun i=>ab_t2 (bU i)) hKH;have rV:=row_bd (u:=V) (m:=n-1-0) (n:=n) (bl:=bl) (by omega) ha (fun i=>ab_t2 (bV i)) hKH;have rL:=row_bd (u:=fder c) (m:=n-1) (n:=n) (bl:=bl) (k:=a+h1) (by omega) ha (fun i=>ab_t2 (bc' i)) (t2_le (by rw [hH,Nat.pow_add];exact Nat.mul_le_mul_right _ ha));refine ⟨fun x=>pz U x (n-2-0),fun x=>pz V x (n-1-0),(z:Rat),z_far hz0,fun x=>?_,rU.1,rV.1,?_⟩
  · have h:=hUV x
    rw [FF_pz zc (fun i hi=>hz i (by omega)),FF_pz (z20_der zc) (fun i hi=>hz' i (by omega))] at h;rw [h];show (z:Rat)*(0+1*x^0)=z
    rw [Rat.pow_zero];grind
  · have e:(fun x=>pz (fder c) x (n-1))=FF (fder c):=funext fun x=>FF_pz (z20_der zc) hz' x
    rw [← e];exact rL.2
theorem ex_gcdI{c d:Nat→Int}(zc:z20 c)(zd:z20 d)(hc:lg c≠0)(hd:lg d≠0):∃ γ k1 k2:Nat→Int,z20 γ∧lg γ≠0∧gcdN γ (lg γ)=1∧z20 k1∧z20 k2∧(∀ i,conv k1 γ i=c i)∧(∀ i,conv k2 γ i=d i)∧lg γ≤lg c∧lg γ≤lg d∧Cop (FF k1) (FF k2)∧(∀ x,FF c x=FF k1 x*FF γ x)∧∀ x,FF d x=FF k2 x*FF γ x:=by
  obtain ⟨D,u,v,s,t,pD,pu,pv,ps,pt,h1,h2,h3⟩:=po_gcd 20 (FF c) (FF d) (FF_po zc) ⟨rc d,rc_z zd,fun _=>rfl⟩;have hD:∃ x,D x≠0:=by
    obtain ⟨x,hx⟩:=FF_nz zc hc;refine ⟨x,fun e=>hx ?_⟩;rw [h2,e,Rat.mul_zero]
  obtain ⟨k,α,hk⟩:=po_deg pD hD;have hkc:=Dv.deg ⟨s,ps,h2⟩ hk (FF_lc zc hc);have hlc:=lg_le c;obtain ⟨q,hq1,hq2,hq3,hq⟩:=hk;obtain ⟨m,w,hm,hw,e⟩:=whole_row (q:=q) (k:=k+1) fun i hi=>hq1 i (by omega)
  have zw:z20 w:=fun i hi=>hw i (by omega)
  have hm0 : (m : Rat) ≠ 0 := by have : (0 : Rat) < (m : Rat) := by exact_mod_cast hm
                                 grind
  have hFw:∀ x,FF w x=D x*(m:Rat):=fun x=>by
    rw [← FF_pz zw hw,hq x];show pe (rc w) x (k+1)=_
    rw [← pe_scl];exact pe_congr fun i _=>e i
  have hw0:lg w≠0:=fun e0=>by
    obtain ⟨x,hx⟩:=hD;have:=(FF_zero zw).1 e0 x;rw [hFw] at this;rcases Rat.mul_eq_zero.1 this with h | h
    · exact hx h
    · exact hm0 h
  obtain ⟨σ,hσ,hFp⟩:=FF_prm_pos zw hw0;have pm:=prm20_pm zw hw0;have zγ:=prm20_z zw;obtain ⟨γ,hγ⟩:∃ γ,γ=prm20 w:=⟨_,rfl⟩
  rw [← hγ] at hFp pm zγ;have hDγ:∀ x,D x=σ / (m:Rat)*FF γ x:=fun x=>by
    have h4:=hFp x;rw [hFw] at h4;have:D x=D x*(m:Rat) / (m:Rat):=by grind
    rw [this,h4];grind
  have ec:∀ x,FF c x=(s x*(σ / (m:Rat)))*FF γ x:=fun x=>by rw [h2 x,hDγ x];grind
  have ed:∀ x,FF d x=(t x*(σ / (m:Rat)))*FF γ x:=fun x=>by rw [h3 x,hDγ x];grind
  obtain ⟨k1,n1,z1,c1,e1⟩:=exact_row zc.lg zγ.lg pm.one (ps.scl (σ / (m:Rat))) (fun x=>by rw [FF_lg zc,FF_lg zγ];exact ec x);obtain ⟨k2,n2,z2,c2,e2⟩:=exact_row zd.lg zγ.lg pm.one (pt.scl (σ / (m:Rat))) (fun x=>by rw [FF_lg zd,FF_lg zγ];exact ed x);have y1:=quo20 zγ zc pm.pos z1 c1;have y2:=quo20 zγ zd pm.pos z2 c2;have f1:∀ x,FF k1 x=s x*(σ / (m:Rat)):=fun x=>by rw [← FF_pz y1 z1];exact e1 x
  have f2:∀ x,FF k2 x=t x*(σ / (m:Rat)):=fun x=>by rw [← FF_pz y2 z2];exact e2 x
  have g1:∀ x,FF c x=FF k1 x*FF γ x:=fun x=>by rw [f1];exact ec x
  have g2:∀ x,FF d x=FF k2 x*FF γ x:=fun x=>by rw [f2];exact ed x
  refine ⟨γ,k1,k2,zγ,pm.pos,pm.one,y1,y2,c1,c2,(lg_dv zc zγ hc ⟨_,FF_po y1,g1⟩).2,(lg_dv zd zγ hd ⟨_,FF_po y2,g2⟩).2,?_,g1,g2⟩;have hne:=FF_nz zγ pm.pos;have hτ:σ / (m:Rat)≠0:=fun h=>by
    have:σ=σ / (m:Rat)*(m:Rat):=by grind
    rw [h,Rat.zero_mul] at this;exact hσ this
  refine ⟨fun x=>u x*((m:Rat) / σ),fun x=>v x*((m:Rat) / σ),pu.scl _,pv.scl _,fun x=>?_⟩;refine po_cancel2 (FF_po zγ) hne (((pu.scl ((m:Rat) / σ)).mul (FF_po y1)).add ((pv.scl ((m:Rat) / σ)).mul (FF_po y2))) (po_const 1) (fun x=>?_) x;have h5:=h1 x;rw [hDγ x,g1 x,g2 x] at h5;have h6:FF γ x=(u x*(FF k1 x*FF γ x)+v x*(FF k2 x*FF γ x))*((m:Rat) / σ):=by
    rw [← h5];have:σ / (m:Rat)*((m:Rat) / σ)=1:=by grind
    grind
  grind
theorem capC{c d γ k1 k2:Nat→Int}(zc:z20 c)(zd:z20 d)(zγ:z20 γ)(y1:z20 k1)(y2:z20 k2)(hc2:2≤lg c)(hd2:2≤lg d)(hγ0:lg γ≠0)(pm:gcdN γ (lg γ)=1)(c2:∀ i,conv k2 γ i=d i)(hγc:lg γ≤lg c)(hγd:lg γ≤lg d)(hne:lg γ < lg c∨lg γ < lg d)(cop:Cop (FF k1) (FF k2))(g1:∀ x,FF c x=FF k1 x*FF γ x)(g2:∀ x,FF d x=FF k2 x*FF γ x) 
    {hm h2:Nat} (hc:∀ i,(c i).natAbs≤2^hm) (hd:∀ i,(d i).natAbs≤2^hm) (hdd:∀ i,(d i).natAbs≤2^h2) (bl a a2 N:Nat) (hN:N=lg c+lg d) (ha:N≤2^a) (ha2:lg d≤2^a2):
    ∃ (U V:Fn) (z:Rat),(1≤z∨z≤-1)∧(∀ x,U x*FF k1 x+V x*FF k2 x=z)∧(∀ x,In (t2 bl) x→Ab (U x) (t2 (3*a+bl*N+(1+a+hm)*(N-2))))∧(∀ x,In (t2 bl) x→Ab (V x) (t2 (3*a+bl*N+(1+a+hm)*(N-2))))∧Lip (t2 bl) (FF k2) (t2 (3*a2+bl*lg d+(a2+(h2+(1+a2)*lg d)+(4+a2)*lg d))):=by
  obtain ⟨n1,e1⟩:∃ n,n=lg c:=⟨_,rfl⟩
  obtain ⟨n2,e2⟩:∃ n,n=lg d:=⟨_,rfl⟩
  obtain ⟨r,er⟩:∃ r,r+1=lg γ:=⟨lg γ-1,by omega⟩
  rw [← e1] at hc2 hγc hne hN;rw [← e2] at hd2 hγd hne hN ha2 ⊢;rw [← er] at hγc hγd hne pm;have hz1:∀ i,n1≤i→c i=0:=by rw [e1];exact zc.lg
  have hz2:∀ i,n2≤i→d i=0:=by rw [e2];exact zd.lg
  have hzγ:∀ i,r+1≤i→γ i=0:=by rw [er];exact zγ.lg
  have t1:c (n1-1)≠0:=by rw [e1];exact lg_ne (by omega)
  have t2':d (n2-1)≠0:=by rw [e2];exact lg_ne (by omega)
  have t3:γ r≠0:=by have:=lg_ne (c:=γ) (by omega);rwa [← er,Nat.add_sub_cancel] at this
  have hp:=Nat.two_pow_pos hm;obtain ⟨U,V,z,hz0,hU0,hV0,bU,bV,hUV⟩:=combine (c:=c) (c':=d) (γ:=γ) (d:=n1-1) (e:=n2-1) (r:=r) (H:=2^hm) (k1:=FF k1) (k2:=FF k2) (fun i hi=>hz1 i (by omega)) (fun i hi=>hz2 i (by omega)) (fun i hi=>hzγ i (by omega)) t1 t2' t3 pm (by omega) (fun i=>by have:=hc i;omega) (fun i=>by have:=hd i;omega) (FF_po y1) (FF_po y2)
    (fun x=>by rw [FF_pz zc (fun i hi=>hz1 i (by omega)),FF_pz zγ hzγ];exact g1 x)
    (fun x=>by rw [FF_pz zd (fun i hi=>hz2 i (by omega)),FF_pz zγ hzγ];exact g2 x) cop (by omega) (by omega) (by omega)
  have hKH:(((2*(n1-1+(n2-1))*2^hm)^(n1-1+(n2-1)):Nat):Rat)≤t2 ((1+a+hm)*(N-2)):=by
    refine t2_le ?_;rw [Nat.pow_mul,show n1-1+(n2-1)=N-2 by omega];refine Nat.pow_le_pow_left ?_ _;have e:2*(N-2)≤2^(1+a):=by rw [Nat.pow_add];omega
    rw [Nat.pow_add (m:=1+a)];exact Nat.mul_le_mul e (Nat.le_refl _)
  have rU:=row_bd (u:=U) (m:=n2-1-r) (n:=N) (bl:=bl) (by omega) ha (fun i=>ab_t2 (bU i)) hKH;have rV:=row_bd (u:=V) (m:=n1-1-r) (n:=N) (bl:=bl) (by omega) ha (fun i=>ab_t2 (bV i)) hKH;have hk2z:∀ i,n2≤i→k2 i=0:=fun i hi=>by
    have h5:=lg_dv zd y2 (by omega) ⟨FF γ,FF_po zγ,fun x=>by rw [g2 x];grind⟩;exact y2.lg i (by omega)
  have hcc:∀ i,conv γ k2 i=d i:=fun i=>by rw [← c2 i];exact conv_comm _ _ i
  have hk2b:=dv_small (a:=d) (b:=k2) (w:=γ) (n:=n2) (k:=r+1) (H:=t2 h2) (i0:=n2-1) hz2 t2' (by omega) hk2z hzγ hcc (by have:=t2_pos h2;grind) (fun i=>ab_t2 (H:=2^h2) (by have:=hdd i;omega));have hn2:(n2:Rat)≤t2 a2:=t2_le ha2;have hn20:=nat_nn n2;have hkb:(n2:Rat)*(t2 h2*(2*(n2:Rat))^n2)*(10*(n2:Rat))^n2≤t2 (a2+(h2+(1+a2)*n2)+(4+a2)*n2):=by
    have q1:(2*(n2:Rat))^n2≤t2 ((1+a2)*n2):=by
      rw [← t2_pow];exact pow_le_pow (by grind) (by rw [t2_add];have:t2 1=2:=rfl;rw [this];grind) n2
    have q2:(10*(n2:Rat))^n2≤t2 ((4+a2)*n2):=by
      rw [← t2_pow];exact pow_le_pow (by grind) (by rw [t2_add];have:t2 4=16:=rfl;rw [this];grind) n2
    have p1:=pow_nn (x:=2*(n2:Rat)) (by grind) n2;have p2:=pow_nn (x:=10*(n2:Rat)) (by grind) n2;exact t2_mul (t2_mul hn2 (t2_mul (by grind) q1 p1) (Rat.mul_nonneg (by have:=t2_pos h2;grind) p1)) q2 p2
  have rL:=row_bd (u:=k2) (m:=n2) (n:=n2) (bl:=bl) (by omega) ha2 hk2b hkb;have hne':=FF_nz zγ hγ0;refine ⟨fun x=>pz U x (n2-1-r),fun x=>pz V x (n1-1-r),(z:Rat),z_far hz0,fun x=>?_,rU.1,rV.1,?_⟩
  · refine po_cancel2 (FF_po zγ) hne' (((pf_po (c:=U) hU0).mul (FF_po y1)).add ((pf_po (c:=V) hV0).mul (FF_po y2))) (po_const (z:Rat)) (fun x=>?_) x
    have h:=hUV x;rw [FF_pz zc (fun i hi=>hz1 i (by omega)),FF_pz zd (fun i hi=>hz2 i (by omega)),FF_pz zγ hzγ,g1 x,g2 x] at h;show FF γ x*(pz U x (n2-1-r)*FF k1 x+pz V x (n1-1-r)*FF k2 x)=FF γ x*(z:Rat)
    grind
  · have e:(fun x=>pz k2 x n2)=FF k2:=funext fun x=>FF_pz y2 hk2z x
    rw [← e];exact rL.2
theorem expA{n1 n2 h1 h2 hl:Nat}(a1:2≤n1)(a2:n1≤20)(a3:2≤n2)(b1:hl≤h1)(b2:hl≤h2):(3*(n1 / 2+1)+(hl+2)*n1+(2+(n1 / 2+1)+((n1 / 2+1)+h1))*(2*n1-3))+(3*(n1 / 2+1)+(hl+2)*n1+((n1 / 2+1)+h1)) < 20+2*(n1+n2)*(h1+h2+(n1+n2)+8):=by
  have hm:2*(n1+2)*(h1+hl+(n1+2)+8)≤2*(n1+n2)*(h1+h2+(n1+n2)+8):=Nat.mul_le_mul (by omega) (by omega);refine Nat.lt_of_lt_of_le ?_ (Nat.add_le_add_left hm 20);have h:n1=2∨n1=3∨n1=4∨n1=5∨n1=6∨n1=7∨n1=8∨n1=9∨n1=10∨n1=11∨n1=12∨n1=13∨n1=14∨n1=15∨n1=16∨n1=17∨n1=18∨n1=19∨n1=20:=by omega
  rcases h with rfl | rfl | rfl | rfl | rfl | rfl | rfl | rfl | rfl | rfl | rfl | rfl | rfl | rfl | rfl | rfl | rfl | rfl | rfl <;> omega
theorem expC{n1 n2 h1 h2 hl:Nat}(a1:2≤n1)(a2:n1≤20)(a3:2≤n2)(a4:n2≤20)(b1:hl≤h1)(b2:hl≤h2)(b3:hl=h1∨hl=h2):(3*((n1+n2) / 2+1)+(hl+2)*(n1+n2)+(1+((n1+n2) / 2+1)+max h1 h2)*((n1+n2)-2))+(3*(n2 / 2+1)+(hl+2)*n2+((n2 / 2+1)+(h2+(1+(n2 / 2+1))*n2)+(4+(n2 / 2+1))*n2)) < 20+2*(n1+n2)*(h1+h2+(n1+n2)+8):=by
  have h:n1=2∨n1=3∨n1=4∨n1=5∨n1=6∨n1=7∨n1=8∨n1=9∨n1=10∨n1=11∨n1=12∨n1=13∨n1=14∨n1=15∨n1=16∨n1=17∨n1=18∨n1=19∨n1=20:=by omega
  have h':n2=2∨n2=3∨n2=4∨n2=5∨n2=6∨n2=7∨n2=8∨n2=9∨n2=10∨n2=11∨n2=12∨n2=13∨n2=14∨n2=15∨n2=16∨n2=17∨n2=18∨n2=19∨n2=20:=by omega
  rcases h with rfl | rfl | rfl | rfl | rfl | rfl | rfl | rfl | rfl | rfl | rfl | rfl | rfl | rfl | rfl | rfl | rfl | rfl | rfl <;> rcases h' with rfl | rfl | rfl | rfl | rfl | rfl | rfl | rfl | rfl | rfl | rfl | rfl | rfl | rfl | rfl | rfl | rfl | rfl | rfl <;> omega
theorem aPoint{K L M:Nat}{c:Nat→Int}{lo hi:Rat}(hL:L≤1000000)(hM:M≤1000000):ACall Tryz.prog 61 [.agg ([.row 2 (lg c) (zel K c)] ++tn L lo ++tn M hi)] (.d (.one (.v (.bool (decide (hi≤lo)))))):=by
  exact acallN hTT 9 [.tmp 2] Tryz.func61 rfl rfl rfl rfl rfl<|cR<|mN hTT (.box 46 ([.row 2 (lg c) (zel K c)] ++tn L lo ++tn M hi)) rfl rfl rfl<|mW rfl<|mT<|cR<|mv4 rfl rfl rfl rfl<|mC0 (aCmpN (K:=L) (L:=M) (p:=lo) (q:=hi) (by omega) (by omega)) rfl rfl rfl<|mV hTT (.d (.one (.v (.bool (decide (hi≤lo)))))) (evb (decide_eq_decide.2 cmpQ_ge))<|mW rfl<|mT<|cRet<|rQ rfl (AV.le.rfl)
theorem aLow{K L:Nat}{c:Nat→Int}{t:Rat}(hz:z20 c)(hK:K≤10000000-2)(hL:L≤1000000):ACall Tryz.prog 92 [.one (prow K (lg c) c),.agg (tn L t)] (.d (.one (.v (.int .i64 (aft (FF c) (FF (fder c)) t))))):=by
  have hlc:=lg_le c;have hld:=dg_le (fder c) (lg c-1);refine acallN hTT 16 [.tmp 4] Tryz.func92 rfl rfl rfl rfl rfl<|cR<|mN hTT (.box 44 (tn L t)) rfl rfl rfl<|mW rfl<|mT<|cSeq<|cR<|mv2 rfl rfl<|mC0 (aSignN (isp (K:=K) (c:=c) (z20.lg hz)) hz (L:=L) (q:=t) (by omega) (by omega) (by omega)) rfl rfl rfl<|mW rfl<|mT<|cSeq ?_
  by_cases h0:sgq (FF c t)=0
  · skip
    exact cReg<|mW rfl<|mV hTT (.d (.one (.v (.bool false)))) (evb (by rw [h0];rfl))<|mT<|cFs rfl<|cSeq<|cDrawK hTT 5 (by kernel_rfl) (by kernel_rfl) (by kernel_rfl)<|.cons (OpS.V _ rfl)<|.cons (OpS.C0 (aPDer (isp (K:=K) (c:=c) (z20.lg hz)) (M:=(K+2)) (by omega) (by omega) (by omega)) rfl rfl rfl)<|.cons (OpS.V (.d (.agg (tn L t))) rfl)<|.cons (OpS.C0 (aSignN (isp (K:=(K+2)) (c:=(fder c)) (dg_z (fder_z (z20.lg hz)))) (z20_der hz) (L:=L) (q:=t) (by omega) (by omega) (by omega)) rfl rfl rfl)<|.cons (OpS.V _ rfl)<|.nil<|mT<|cRet<|rQ rfl (le_int ((aft_of0 h0).symm))
  · skip
    exact cReg<|mW rfl<|mV hTT (.d (.one (.v (.bool true)))) (evb (bne_iff_ne.2 h0))<|mT<|cT rfl<|cR<|mv2 rfl rfl<|mT<|cRet<|tR<|rQ rfl (le_int ((aft_of h0).symm))
def hasB(c:Nat→Int)(lo hi:Rat):Bool:=decide (sgq (FF c hi)=0∨sgq (FF c hi)≠aft (FF c) (FF (fder c)) lo)
theorem hasB_zero{c:Nat→Int}{lo hi:Rat}(h:sgq (FF c hi)=0):hasB c lo hi=true:=decide_eq_true (Or.inl h)
theorem hasB_ne{c:Nat→Int}{lo hi:Rat}(h:sgq (FF c hi)≠0):hasB c lo hi=(sgq (FF c hi) !=aft (FF c) (FF (fder c)) lo):=by
  unfold hasB
  by_cases k:sgq (FF c hi)=aft (FF c) (FF (fder c)) lo
  · rw [decide_eq_false (by rintro (h' | h');exact h h';exact h' k),k];simp
  · rw [decide_eq_true (Or.inr k)];exact (bne_iff_ne.2 k).symm
theorem aHas{K L M:Nat}{c:Nat→Int}{lo hi:Rat}(hz:z20 c)(hK:K≤10000000-2)(hL:L≤1000000)(hM:M≤1000000):ACall Tryz.prog 65 [.one (prow K (lg c) c),.agg (tn L lo),.agg (tn M hi)] (.d (.one (.v (.bool (hasB c lo hi))))):=by
  have hlc:=lg_le c;refine acallN hTT 20 [.tmp 6] Tryz.func65 rfl rfl rfl rfl rfl<|cR<|mN hTT (.box 44 (tn L lo)) rfl rfl rfl<|mN hTT (.box 44 (tn M hi)) rfl rfl rfl<|mW rfl<|mT<|cR<|mv2 rfl rfl<|mC0 (aSignN (isp (K:=K) (c:=c) (z20.lg hz)) hz (L:=M) (q:=hi) (by omega) (by omega) (by omega)) rfl rfl rfl<|mW rfl<|mT<|cSeq ?_
  by_cases h0:sgq (FF c hi)=0
  · skip
    exact cReg<|mW rfl<|mV hTT (.d (.one (.v (.bool true)))) (evb (beq_iff_eq.2 h0))<|mW rfl<|mG rfl rfl<|mG rfl rfl<|mG rfl rfl<|mG rfl rfl<|mG rfl rfl<|mv2 rfl rfl<|mT<|cRet<|rQ rfl (le_bool ((hasB_zero h0).symm))
  · skip
    exact cReg<|mW rfl<|mV hTT (.d (.one (.v (.bool false)))) (evb (beq_eq_false_iff_ne.2 h0))<|mv4 rfl rfl rfl rfl<|mC0 (aLow (K:=K) (c:=c) (L:=L) (t:=lo) hz (by omega) (by omega)) rfl rfl rfl<|mv3 rfl rfl rfl<|mT<|cRet<|rQ rfl (le_bool ((hasB_ne h0).symm))
theorem aANorm{K L M:Nat}{c:Nat→Int}{lo hi:Rat}(hz:z20 c)(hK:K≤10000000)(hL:L≤1000000)(hM:M≤1000000):ACall Tryz.prog 60 [.agg ([.row 2 (lg c) (zel K c)] ++tn L lo ++tn M hi)] (.d (.agg ([.row 2 (lg c) (zel K c)] ++tn L lo ++tn M hi))):=by
  have hlc:=lg_le c;have hd:dg c (lg c)=lg c:=lg_dg hz.lg hz;exact acallN hTT 13 [.cell 2 46] Tryz.func60 rfl rfl rfl rfl rfl<|cR<|mN hTT (.box 46 ([.row 2 (lg c) (zel K c)] ++tn L lo ++tn M hi)) rfl rfl rfl<|mN hTT (.box 46 ([.v (.slice none 0 0),.v (.bool false),.v (.slice none 0 0),.v (.bool false),.v (.slice none 0 0),.v (.bool false),.v (.slice none 0 0),.v (.bool false),.v (.slice none 0 0)])) rfl rfl rfl<|mT<|cSeq<|cDrawK hTT 10 (by kernel_rfl) (by kernel_rfl) (by kernel_rfl)<|.cons (OpS.V (.ptr 1 0) rfl)<|.cons (OpS.V (.d (.one (.row 2 (lg c) (zel K c)))) rfl)<|.cons (OpS.C0 (aPNorm (isp (K:=K) (c:=c) (z20.lg hz)) (by omega) (by omega)) rfl rfl rfl)<|.cons (OpS.V (.ptr 1 1) rfl)<|.cons (OpS.V (.d (.agg (tn L lo))) rfl)<|.cons (OpS.C0 (aMaxN (K:=L) (p:=lo) (by omega)) rfl rfl rfl)<|.cons (OpS.V (.ptr 1 5) rfl)<|.cons (OpS.V (.d (.agg (tn M hi))) rfl)<|.cons (OpS.C0 (aMaxN (K:=M) (p:=hi) (by omega)) rfl rfl rfl)<|.cons (OpS.V (.d (.agg ([.row 2 (dg c (lg c)) (zel K c)] ++tn L lo ++tn M hi))) rfl)<|.nil<|mS hTT 2 (.box 46 ([.row 2 (dg c (lg c)) (zel K c)] ++tn L lo ++tn M hi)) rfl<|mT<|cRet<|rQ rfl (by rw [hd];exact AV.le.rfl)
theorem aCmpRat{K L M N:Nat}{c:Nat→Int}{lo hi t:Rat}(hA:OkA c lo hi)(hK:K≤10000000-2)(hL:L≤1000000)(hM:M≤1000000)(hN:N≤1000000):ACall Tryz.prog 31 [.agg ([.row 2 (lg c) (zel K c)] ++tn L lo ++tn M hi),.agg (tn N t)] (.d (.one (.v (.int .i64 (cmpC (cutA c lo hi) (cutP t)))))):=by
  have hlc:=lg_le c;refine acallN hTT 40 [.tmp 4] Tryz.func31 rfl rfl rfl rfl rfl<|cR<|mN hTT (.box 46 ([.row 2 (lg c) (zel K c)] ++tn L lo ++tn M hi)) rfl rfl rfl<|mN hTT (.box 44 (tn N t)) rfl rfl rfl<|mW rfl<|mT<|cSeq<|cBlock<|cR<|mW rfl<|mC0 (aPoint (K:=K) (c:=c) (L:=L) (lo:=lo) (M:=M) (hi:=hi) (by omega) (by omega)) rfl rfl rfl<|mW rfl<|mT<|cCond rfl (fun hc1=>?_) (fun hc1=>?_)
  · skip
    exact cR<|mv3 rfl rfl rfl<|mC0 (aCmpN (K:=L) (L:=N) (p:=lo) (q:=t) (by omega) (by omega)) rfl rfl rfl<|mW rfl<|mT<|cRet<|bR<|tR<|rQ rfl (le_int (by rw [hA.rat t,if_pos (of_decide_eq_true hc1)]))
  · skip
    refine cR<|mv3 rfl rfl rfl<|mC0 (aCmpN (K:=N) (L:=L) (p:=t) (q:=lo) (by omega) (by omega)) rfl rfl rfl<|mv2 rfl rfl<|mT<|cCond rfl (fun hc2=>?_) (fun hc2=>?_)
    · skip
      exact cR<|mW rfl<|mT<|cRet<|bR<|tR<|rQ rfl (le_int (by rw [hA.rat t,if_neg (of_decide_eq_false hc1),if_pos (cmpQ_le.1 (of_decide_eq_true hc2))]))
    · skip
      refine cR<|mv3 rfl rfl rfl<|mC0 (aCmpN (K:=N) (L:=M) (p:=t) (q:=hi) (by omega) (by omega)) rfl rfl rfl<|mv2 rfl rfl<|mT<|cCond rfl (fun hc3=>?_) (fun hc3=>?_)
      · skip
        exact cR<|mW rfl<|mT<|cRet<|bR<|tR<|rQ rfl (le_int (by rw [hA.rat t,if_neg (of_decide_eq_false hc1),if_neg (fun h=>(of_decide_eq_false hc2) (cmpQ_le.2 h)),if_pos (Rat.not_le.1 (fun h=>Int.not_lt.2 (cmpQ_le.2 h) (of_decide_eq_true hc3)))]))
      · skip
        refine cSkip<|bN<|tN<|cR<|mv3 rfl rfl rfl<|mC0 (aSignN (isp (K:=K) (c:=c) (z20.lg hA.z)) hA.z (L:=N) (q:=t) (by omega) (by omega) (by omega)) rfl rfl rfl<|mW rfl<|mT<|cSeq<|cBlock<|cR<|mv3 rfl rfl rfl<|mT<|cCond rfl (fun hc4=>?_) (fun hc4=>?_)
        · skip
          exact cR<|mW rfl<|mT<|cRet<|bR<|tR<|rQ rfl (le_int (by rw [hA.rat t,if_neg (of_decide_eq_false hc1),if_neg (fun h=>(of_decide_eq_false hc2) (cmpQ_le.2 h)),if_neg (fun h=>(of_decide_eq_false hc3) (by have:=cmpQ_gt h;omega)),if_pos (beq_iff_eq.1 hc4)]))
        · skip
          refine cR<|mv5 rfl rfl rfl rfl rfl<|mC0 (aLow (K:=K) (c:=c) (L:=L) (t:=lo) hA.z (by omega) (by omega)) rfl rfl rfl<|mv2 rfl rfl<|mT<|cCond rfl (fun hc5=>?_) (fun hc5=>?_)
          · skip
            exact cR<|mW rfl<|mT<|cRet<|bR<|tR<|rQ rfl (le_int (by rw [hA.rat t,if_neg (of_decide_eq_false hc1),if_neg (fun h=>(of_decide_eq_false hc2) (cmpQ_le.2 h)),if_neg (fun h=>(of_decide_eq_false hc3) (by have:=cmpQ_gt h;omega)),if_neg (beq_eq_false_iff_ne.1 hc4),if_pos (beq_iff_eq.1 hc5)]))
          · skip
            exact cSkip<|bN<|tN<|cR<|mW rfl<|mT<|cRet<|rQ rfl (le_int (by rw [hA.rat t,if_neg (of_decide_eq_false hc1),if_neg (fun h=>(of_decide_eq_false hc2) (cmpQ_le.2 h)),if_neg (fun h=>(of_decide_eq_false hc3) (by have:=cmpQ_gt h;omega)),if_neg (beq_eq_false_iff_ne.1 hc4),if_neg (beq_eq_false_iff_ne.1 hc5)]))
theorem LsR.cut{B:BS}{w:World}{ms:List Lf}:∀ {ls:List Lf} {cs:List Value},LsR B w (ls ++ms) cs→∃ c1 c2,cs=c1 ++c2∧LsR B w ls c1∧LsR B w ms c2
  | [],cs,h=>⟨[],cs,rfl,trivial,h⟩
  | l ::ls,c ::cs,h=>by
    obtain ⟨c1,c2,e,h1,h2⟩:=LsR.cut (ls:=ls) (cs:=cs) h.2;exact ⟨c ::c1,c2,by rw [e];rfl,⟨h.1,h1⟩,h2⟩
  | _ ::_,[],h=>h.elim
theorem ls_cat{a b a' b':List Lf}(ha:∀ B w cs,LsR B w a cs→LsR B w a' cs)(hb:∀ B w cs,LsR B w b cs→LsR B w b' cs):∀ B w cs,LsR B w (a ++b) cs→LsR B w (a' ++b') cs:=fun B w cs h=>by
  obtain ⟨c1,c2,e,h1,h2⟩:=h.cut;rw [e];exact (ha _ _ _ h1).app (hb _ _ _ h2)
abbrev alc(K:Nat)(c:Nat→Int)(L:Nat)(lo:Rat)(M:Nat)(hi:Rat):List Lf:= [prow K (lg c) c] ++tn L lo ++tn M hi
theorem al_bd{K L M:Nat}{c:Nat→Int}{lo hi:Rat}(z:z20 c){B:BS}{w:World}{cs:List Value}(h:LsR B w (alc K c L lo M hi) cs):Lb K c∧Tb L lo∧Tb M hi:=by
  obtain ⟨c1,c2,e,h1,h2⟩:=h.cut;obtain ⟨c3,c4,e,h3,h4⟩:=h1.cut;refine ⟨?_,tn_bdT h4,tn_bdT h2⟩
  match c3,h3 with
  | [v],h3=>exact prow_bd z.lg h3.1
theorem al_tight{K L M K' L' M':Nat}{c:Nat→Int}{lo hi:Rat}(hb:Lb K' c)(h1:Tb L' lo)(h2:Tb M' hi):AV.le (.d (.agg (alc K c L lo M hi))) (.d (.agg (alc K' c L' lo M' hi))):=
  le_agg (ls_cat (ls_cat (fun B w cs h=>match cs,h with
    | [v],⟨h,_⟩=>⟨prow_tight (fun i _=>hb i) B w v h,trivial⟩) (tn_tight h1)) (tn_tight h2))
theorem al_mono{K L M L' M':Nat}{c:Nat→Int}{lo hi:Rat}(h1:Tb L' lo)(h2:Tb M' hi):AV.le (.d (.agg (alc K c L lo M hi))) (.d (.agg (alc K c L' lo M' hi))):=
  le_agg (ls_cat (ls_cat (fun B w cs h=>h) (tn_tight h1)) (tn_tight h2))
theorem aHalf{K L M X:Nat}{c:Nat→Int}{lo hi:Rat}(hA:OkA c lo hi)(hT1:Tb X (hlf c lo hi).1)(hT2:Tb X (hlf c lo hi).2)(hK:K≤10000000-2)(hL:L≤100000)(hM:M≤100000):ACall Tryz.prog 69 [.agg ([.row 2 (lg c) (zel K c)] ++tn L lo ++tn M hi)] (.d (.agg ([.row 2 (lg c) (zel K c)] ++tn X ((hlf c lo hi).1) ++tn X ((hlf c lo hi).2)))):=by
  have hlc:=lg_le c;refine acallN hTT 28 [.cell 2 46] Tryz.func69 rfl rfl rfl rfl rfl<|cR<|mN hTT (.box 46 ([.row 2 (lg c) (zel K c)] ++tn L lo ++tn M hi)) rfl rfl rfl<|mN hTT (.box 46 ([.v (.slice none 0 0),.v (.bool false),.v (.slice none 0 0),.v (.bool false),.v (.slice none 0 0),.v (.bool false),.v (.slice none 0 0),.v (.bool false),.v (.slice none 0 0)])) rfl rfl rfl<|mT<|cSeq<|cR<|mW rfl<|mC0 (aPoint (K:=K) (c:=c) (L:=L) (lo:=lo) (M:=M) (hi:=hi) (by omega) (by omega)) rfl rfl rfl<|mT<|cCond rfl (fun hc1=>?_) (fun hc1=>?_)
  · skip
    exact cR<|mW rfl<|mS hTT 2 (.box 46 ([.row 2 (lg c) (zel K c)] ++tn L lo ++tn M hi)) rfl<|mT<|cRet<|tR<|rQ rfl (by have e:hlf c lo hi=(lo,hi):=by {unfold hlf;rw [if_pos (of_decide_eq_true hc1)]};rw [e] at hT1 hT2 ⊢;exact al_mono hT1 hT2)
  · skip
    refine cSkip<|tN<|cR<|mv4 rfl rfl rfl rfl<|mC0 (aMidN (K:=L) (L:=M) (p:=lo) (q:=hi) (by omega) (by omega)) rfl rfl rfl<|mN hTT (.box 44 ([.v (.bool false),.v (.slice none 0 0),.v (.bool false),.v (.slice none 0 0)])) rfl rfl rfl<|mS hTT 3 (.box 44 (tn (max L 2+1+(max M 2+1)+4) ((lo+hi) / 2))) rfl<|mT<|cSeq<|cR<|mv2 rfl rfl<|mC0 (aCmpRat (K:=K) (c:=c) (L:=L) (lo:=lo) (M:=M) (hi:=hi) (N:=(max L 2+1+(max M 2+1)+4)) (t:=((lo+hi) / 2)) hA (by omega) (by omega) (by omega) (by omega)) rfl rfl rfl<|mT<|cBlock<|cR<|mv2 rfl rfl<|mT<|cCond rfl (fun hc2=>?_) (fun hc2=>?_)
    · skip
      exact cDrawS hTT 6 (by kernel_rfl) (by kernel_rfl)<|.cons (OpS.V (.d (.agg (tn (max L 2+1+(max M 2+1)+4) ((lo+hi) / 2)))) rfl) (by kernel_rfl)<|.cons (OpS.V (.d (.agg (tn (max L 2+1+(max M 2+1)+4) ((lo+hi) / 2)))) rfl) (by kernel_rfl)<|.cons (OpS.V (.ptr 1 1) rfl) (by kernel_rfl)<|.cons (OpS.S 1 (.box 46 ([.row 2 (lg c) (zel K c)] ++tn (max L 2+1+(max M 2+1)+4) ((lo+hi) / 2) ++tn M hi)) rfl rfl) (by kernel_rfl)<|.cons (OpS.V (.ptr 1 5) rfl) (by kernel_rfl)<|.cons (OpS.S 1 (.box 46 ([.row 2 (lg c) (zel K c)] ++tn (max L 2+1+(max M 2+1)+4) ((lo+hi) / 2) ++tn (max L 2+1+(max M 2+1)+4) ((lo+hi) / 2))) rfl rfl) (by kernel_rfl)<|.nil<|mNil<|bN<|tN<|cR<|mW rfl<|mS hTT 2 (.box 46 ([.row 2 (lg c) (zel K c)] ++tn (max L 2+1+(max M 2+1)+4) ((lo+hi) / 2) ++tn (max L 2+1+(max M 2+1)+4) ((lo+hi) / 2))) rfl<|mT<|cRet<|rQ rfl (by have e:hlf c lo hi=(((lo+hi) / 2),((lo+hi) / 2)):=by {unfold hlf;rw [if_neg (of_decide_eq_false hc1),if_pos (beq_iff_eq.1 hc2)]};rw [e] at hT1 hT2 ⊢;exact al_mono hT1 hT2)
    · skip
      refine cR<|mv2 rfl rfl<|mT<|cCond rfl (fun hc3=>?_) (fun hc3=>?_)
      · skip
        exact cReg<|mv2 rfl rfl<|mS hTT 1 (.box 46 ([.row 2 (lg c) (zel K c)] ++tn L lo ++tn (max L 2+1+(max M 2+1)+4) ((lo+hi) / 2))) rfl<|mNil<|bN<|tN<|cR<|mW rfl<|mS hTT 2 (.box 46 ([.row 2 (lg c) (zel K c)] ++tn L lo ++tn (max L 2+1+(max M 2+1)+4) ((lo+hi) / 2))) rfl<|mT<|cRet<|rQ rfl (by have e:hlf c lo hi=(lo,((lo+hi) / 2)):=by {unfold hlf;rw [if_neg (of_decide_eq_false hc1),if_neg (beq_eq_false_iff_ne.1 hc2),if_pos (beq_iff_eq.1 hc3)]};rw [e] at hT1 hT2 ⊢;exact al_mono hT1 hT2)
      · skip
        exact cReg<|mv2 rfl rfl<|mS hTT 1 (.box 46 ([.row 2 (lg c) (zel K c)] ++tn (max L 2+1+(max M 2+1)+4) ((lo+hi) / 2) ++tn M hi)) rfl<|mNil<|bN<|tN<|cR<|mW rfl<|mS hTT 2 (.box 46 ([.row 2 (lg c) (zel K c)] ++tn (max L 2+1+(max M 2+1)+4) ((lo+hi) / 2) ++tn M hi)) rfl<|mT<|cRet<|rQ rfl (by have e:hlf c lo hi=(((lo+hi) / 2),hi):=by {unfold hlf;rw [if_neg (of_decide_eq_false hc1),if_neg (beq_eq_false_iff_ne.1 hc2),if_neg (beq_eq_false_iff_ne.1 hc3)]};rw [e] at hT1 hT2 ⊢;exact al_mono hT1 hT2)
theorem tb_mono{K L:Nat}{q:Rat}(h:Tb K q)(k:K≤L):Tb L q:=⟨Nat.lt_of_lt_of_le h.1 (Nat.pow_le_pow_right (by decide) k),Nat.lt_of_lt_of_le h.2 (Nat.pow_le_pow_right (by decide) k)⟩
structure Dz(L J:Nat)(p q:Rat):Prop where
  e:∃ D R,D≠0∧D < B32^(L+L)∧R≤B32^L∧Dy D R J p∧Dy D R J q
theorem dz_start{L:Nat}{p q:Rat}(h:Tb L p)(k:Tb L q):Dz L 0 p q:=by
  have hp:=p.den_pos;have hq:=q.den_pos;refine ⟨p.den*q.den,max p.num.natAbs q.num.natAbs,Nat.ne_of_gt (Nat.mul_pos hp hq),?_,?_,dy_start (Nat.le_max_left _ _),?_⟩
  · rw [Nat.pow_add]
    exact Nat.mul_lt_mul'' h.2 k.2
  · have:=h.1;have:=k.1;omega
  · rw [Nat.mul_comm];exact dy_start (Nat.le_max_right _ _)
theorem Dz.mono{L J J':Nat}{p q:Rat}(h:Dz L J p q)(k:J≤J'):Dz L J' p q:=let ⟨D,R,a,b,c,d,e⟩:=h.e;⟨D,R,a,b,c,d.mono k,e.mono k⟩
theorem Dz.tb{L J X:Nat}{p q:Rat}(h:Dz L J p q)(hX:3*L+J / 32+1≤X):Tb X p∧Tb X q:=by
  obtain ⟨D,R,a,b,c,d,e⟩:=h.e;exact ⟨tb_mono (d.tb a b c) (by omega),tb_mono (e.tb a b c) (by omega)⟩
theorem Dz.hlf{L J:Nat}{c:Nat→Int}{p q:Rat}(h:Dz L J p q):Dz L (J+1) (hlf c p q).1 (hlf c p q).2:=by
  obtain ⟨D,R,a,b,c',d,e⟩:=h.e;exact ⟨D,R,a,b,c',(hlf_dy d e).1,(hlf_dy d e).2⟩
theorem al_leo{t:TypeId}{K L M L' M':Nat}{c:Nat→Int}{lo hi:Rat}(h1:Tb L' lo)(h2:Tb M' hi):AO.le (.box t (alc K c L lo M hi)) (.box t (alc K c L' lo M' hi)):=
  leo_box (ls_cat (ls_cat (fun B w cs h=>h) (tn_tight h1)) (tn_tight h2))
theorem nb_lb{K m:Nat}(h:m < B32^K):nbits m≤32*K:=nbits_le_of_lt (by rw [show B32=2^32 from rfl,← Nat.pow_mul] at h;exact h)
def szF(c:Nat→Int):Nat→Nat
  | 0=>0
  | n+1=>max (szF c n) (nbits (c n).natAbs)
theorem szF_le{K:Nat}{c:Nat→Int}(h:Lb K c):∀ n,szF c n≤32*K
  | 0=>Nat.zero_le _
  | n+1=>Nat.max_le.2 ⟨szF_le h n,nb_lb (h n)⟩
theorem szF_get{c:Nat→Int}:∀ {n i:Nat},i < n→nbits (c i).natAbs≤szF c n
  | n+1,i,h=>by
    show _≤max (szF c n) (nbits (c n).natAbs)
    by_cases e:i=n
    · subst e;exact Nat.le_max_right _ _
    · exact Nat.le_trans (szF_get (show i < n by omega)) (Nat.le_max_left _ _)
theorem aSize{K n:Nat}{c:Nat→Int}(hz:z20 c)(hn:n=lg c)(hK:K≤10000000):ACall Tryz.prog 128 [.one (prow K n c)] (.d (.one (.v (.int .i64 ((szF c (lg c):Nat):Int))))):=by
  subst hn;have hlc:=lg_le c;refine acallN hTT 19 [.tmp 2] Tryz.func128 rfl rfl rfl rfl rfl ?_;refine cSeq ?_;refine cReg ?_;refine mW rfl ?_;refine mNil ?_;refine tN ?_;refine cSeq ?_;refine cReg ?_;refine mW rfl ?_;refine mNil ?_;refine tN ?_;refine cSeq ?_;refine cSeq ?_;refine cReg ?_;refine mW rfl ?_;refine mW rfl ?_;refine mW rfl ?_;refine mNil ?_;refine tN ?_;refine cBlock ?_;refine cLoop (ι:=Nat) (fun (i:Nat)=>⟨19,[(6,.d (.one (.row 2 (lg c) (zel K c)))),(7,.d (.one (.v (.int .i64 ((lg c:Nat):Int))))),(8,.d (.one (.v (.int .i64 ((i:Nat):Int))))),(3,.d (.one (.v (.int .i64 ((szF c i:Nat):Int)))))],[]⟩) (fun (i:Nat)=>i≤lg c) (fun (i:Nat)=>lg c-i) 0 (Nat.zero_le _) (wk rfl ⟨hs rfl,hs rfl,hs rfl,hs' rfl (le_int rfl),trivial⟩ trivial rfl) ?_;rintro i hI;have hi:i≤lg c:=hI;show AW _ _ _ ⟨_,_,_⟩
  refine cSeq ?_;refine cReg ?_;refine mW rfl ?_;refine mNil ?_;refine tN ?_;refine cSeq ?_;refine cCond rfl (fun hc1=>?_) (fun hc1=>?_)
  · skip
    refine cSkip ?_;refine tN ?_;refine cSeq ?_;refine cBlock ?_;refine cSeq ?_;have hin:i < lg c:=by have h0:=of_decide_eq_true hc1;omega
    refine cReg ?_;refine mV hTT (.d (.one (.at 2 ((zel K c) i)))) (ixR (el:=(zel K c)) (z:=((i:Nat):Int)) (n:=(lg c)) rfl rfl rfl rfl rfl rfl (by omega) (by omega)) ?_;refine mW rfl ?_;refine mN hTT (.box 42 ([.v (.bool false),.v (.slice none 0 0)])) rfl rfl rfl ?_;refine mS hTT 5 (.box 42 (zn K (c i))) rfl ?_;refine mNil ?_;refine tN ?_;refine cReg ?_;refine mW rfl ?_;refine mW rfl ?_;refine mW rfl ?_;refine mC0 (aLBits (isl K (Int.natAbs (c i))) (by omega)) rfl rfl rfl ?_;refine mV hTT (.d (.one (.v (.int .i64 ((szF c (i+1):Nat):Int))))) (evi (by rw [if_pos rfl];show _=((max (szF c i) (nbits (c i).natAbs):Nat):Int);split <;> omega)) ?_;refine mW rfl ?_;refine mNil ?_;refine bN ?_;refine tN ?_;refine cReg ?_;refine mW rfl ?_;refine mW rfl ?_;refine mNil ?_;exact ⟨(i+1),by have h0:=of_decide_eq_true hc1;omega,by have h0:=of_decide_eq_true hc1;omega,wk rfl ⟨hs rfl,hs rfl,hs' rfl (le_int (inc64 (by omega))),hs rfl,trivial⟩ trivial rfl⟩
  · skip
    refine cExit ?_;refine tE ?_;refine tE ?_;refine bE ?_;refine tN ?_;refine cSeq ?_;refine cReg ?_;refine mW rfl ?_;refine mW rfl ?_;refine mNil ?_;refine tN ?_;refine cRet ?_;exact rQ rfl (le_int (by have h0:=of_decide_eq_false hc1;rw [show i=lg c by omega]))
def stp(c:Nat→Int)(lo hi:Rat)(d:Nat→Int)(p q:Rat):Nat:=64+2*(nbits lo.num.natAbs+nbits hi.num.natAbs+nbits p.num.natAbs+nbits q.num.natAbs)+4*(lg c+lg d)*(szF c (lg c)+szF d (lg d)+(lg c+lg d)+8)
theorem aSteps{K L M K2 L2 M2:Nat}{c d:Nat→Int}{lo hi p q:Rat}(zc:z20 c)(zd:z20 d)(hK:K≤10000000)(hL:L≤1000000)(hM:M≤1000000)(hK2:K2≤10000000)(hL2:L2≤1000000)(hM2:M2≤1000000):ACall Tryz.prog 67 [.agg ([.row 2 (lg c) (zel K c)] ++tn L lo ++tn M hi),.agg ([.row 2 (lg d) (zel K2 d)] ++tn L2 p ++tn M2 q)] (.d (.one (.v (.int .i64 ((stp c lo hi d p q:Nat):Int))))):=by
  refine ACall.fact10 (enters Tryz.func67 rfl rfl) (p:=(Lb K c∧Tb L lo∧Tb M hi)∧(Lb K2 d∧Tb L2 p∧Tb M2 q)) (fun B w vs h=>match vs,h with | [_,_],⟨⟨cs,_,hl⟩,⟨ds,_,hk⟩,_⟩=>⟨al_bd zc hl,al_bd zd hk⟩) (fun hb=>?_);have hlc:=lg_le c;have hld:=lg_le d;have n1:=nb_lb hb.1.2.1.1;have n2:=nb_lb hb.1.2.2.1;have n5:=szF_le hb.1.1 (lg c);have n6:=szF_le (K:=K2) (c:=d) hb.2.1 (lg d);obtain ⟨S,hS⟩:∃ S,S=szF c (lg c)+szF d (lg d)+(lg c+lg d)+8:=⟨_,rfl⟩
  obtain ⟨P,hP⟩:∃ P,P=4*(lg c+lg d)*S:=⟨_,rfl⟩
  have hm:P≤160*1000000000:=by rw [hP];exact Nat.mul_le_mul (by omega) (by omega)
  have n3:=nb_lb hb.2.2.1.1;have n4:=nb_lb hb.2.2.2.1;refine acallN hTT 54 [.tmp 4] Tryz.func67 rfl rfl rfl rfl rfl ?_;refine cSeq ?_;refine cReg ?_;refine mN hTT (.box 46 ([.row 2 (lg c) (zel K c)] ++tn L lo ++tn M hi)) rfl rfl rfl ?_;refine mN hTT (.box 46 ([.row 2 (lg d) (zel K2 d)] ++tn L2 p ++tn M2 q)) rfl rfl rfl ?_;refine mW rfl ?_;refine mNil ?_;refine tN ?_;refine cSeq ?_;refine cReg ?_;refine mW rfl ?_;refine mW rfl ?_;refine mW rfl ?_;refine mW rfl ?_;refine mW rfl ?_;refine mW rfl ?_;refine mV hTT (.d (.one (.v (.int .i64 ((lg c+lg d:Nat):Int))))) (evi ((wr64 (by omega) (by omega)).trans (by omega))) ?_;refine mW rfl ?_;refine mNil ?_;refine tN ?_;refine cSeq ?_;refine cDrawK hTT 24 (by kernel_rfl) (by kernel_rfl) (by kernel_rfl) ?_;refine .cons (OpS.V (.ptr 2 1) rfl) ?_;refine .cons (OpS.V (.ptr 2 1) rfl) ?_;refine .cons (OpS.V (.ptr 2 2) rfl) ?_;refine .cons (OpS.V (.d (.one (ln L (Int.natAbs (Rat.num lo))))) rfl) ?_;refine .cons (OpS.C0 (aLBits (isl L (Int.natAbs (Rat.num lo))) (by omega)) rfl rfl rfl) ?_;refine .cons (OpS.V (.ptr 2 5) rfl) ?_;refine .cons (OpS.V (.ptr 2 5) rfl) ?_;refine .cons (OpS.V (.ptr 2 6) rfl) ?_;refine .cons (OpS.V (.d (.one (ln M (Int.natAbs (Rat.num hi))))) rfl) ?_;refine .cons (OpS.C0 (aLBits (isl M (Int.natAbs (Rat.num hi))) (by omega)) rfl rfl rfl) ?_;refine .cons (OpS.V (.d (.one (.v (.int .i64 ((nbits lo.num.natAbs+nbits hi.num.natAbs:Nat):Int))))) (evi ((wr64 (by omega) (by omega)).trans (by omega)))) ?_;refine .cons (OpS.V (.ptr 3 1) rfl) ?_;refine .cons (OpS.V (.ptr 3 1) rfl) ?_;refine .cons (OpS.V (.ptr 3 2) rfl) ?_;refine .cons (OpS.V (.d (.one (ln L2 (Int.natAbs (Rat.num p))))) rfl) ?_;refine .cons (OpS.C0 (aLBits (isl L2 (Int.natAbs (Rat.num p))) (by omega)) rfl rfl rfl) ?_;refine .cons (OpS.V (.d (.one (.v (.int .i64 ((nbits lo.num.natAbs+nbits hi.num.natAbs+nbits p.num.natAbs:Nat):Int))))) (evi ((wr64 (by omega) (by omega)).trans (by omega)))) ?_;refine .cons (OpS.V (.ptr 3 5) rfl) ?_;refine .cons (OpS.V (.ptr 3 5) rfl) ?_;refine .cons (OpS.V (.ptr 3 6) rfl) ?_;refine .cons (OpS.V (.d (.one (ln M2 (Int.natAbs (Rat.num q))))) rfl) ?_;refine .cons (OpS.C0 (aLBits (isl M2 (Int.natAbs (Rat.num q))) (by omega)) rfl rfl rfl) ?_;refine .cons (OpS.V (.d (.one (.v (.int .i64 ((nbits lo.num.natAbs+nbits hi.num.natAbs+nbits p.num.natAbs+nbits q.num.natAbs:Nat):Int))))) (evi ((wr64 (by omega) (by omega)).trans (by omega)))) ?_;refine .cons (OpS.V _ rfl) ?_;refine .nil ?_;refine mNil ?_;refine tN ?_;refine cSeq ?_;refine cDrawK hTT 18 (by kernel_rfl) (by kernel_rfl) (by kernel_rfl) ?_;refine .cons (OpS.V _ rfl) ?_;refine .cons (OpS.V (.d (.one (.v (.int .i64 ((2*(nbits lo.num.natAbs+nbits hi.num.natAbs+nbits p.num.natAbs+nbits q.num.natAbs):Nat):Int))))) (evi ((wr64 (by omega) (by omega)).trans (by omega)))) ?_;refine .cons (OpS.V (.d (.one (.v (.int .i64 ((64+2*(nbits lo.num.natAbs+nbits hi.num.natAbs+nbits p.num.natAbs+nbits q.num.natAbs):Nat):Int))))) (evi ((wr64 (by omega) (by omega)).trans (by omega)))) ?_;refine .cons (OpS.V _ rfl) ?_;refine .cons (OpS.V (.d (.one (.v (.int .i64 ((4*(lg c+lg d):Nat):Int))))) (evi ((wr64 (by omega) (by omega)).trans (by omega)))) ?_;refine .cons (OpS.V (.ptr 2 0) rfl) ?_;refine .cons (OpS.V (.d (.one (.row 2 (lg c) (zel K c)))) rfl) ?_;refine .cons (OpS.C0 (aSize (K:=K) (c:=c) zc rfl (by omega)) rfl rfl rfl) ?_;refine .cons (OpS.V (.ptr 3 0) rfl) ?_;refine .cons (OpS.V (.d (.one (.row 2 (lg d) (zel K2 d)))) rfl) ?_;refine .cons (OpS.C0 (aSize (K:=K2) (c:=d) zd rfl (by omega)) rfl rfl rfl) ?_;refine .cons (OpS.V (.d (.one (.v (.int .i64 ((szF c (lg c)+szF d (lg d):Nat):Int))))) (evi ((wr64 (by omega) (by omega)).trans (by omega)))) ?_;refine .cons (OpS.V _ rfl) ?_;refine .cons (OpS.V (.d (.one (.v (.int .i64 ((szF c (lg c)+szF d (lg d)+(lg c+lg d):Nat):Int))))) (evi ((wr64 (by omega) (by omega)).trans (by omega)))) ?_;refine .cons (OpS.V (.d (.one (.v (.int .i64 ((S:Nat):Int))))) (evi ((wr64 (by omega) (by omega)).trans (by omega)))) ?_;refine .cons (OpS.V (.d (.one (.v (.int .i64 ((P:Nat):Int))))) (evi (by rw [← Int.natCast_mul,← hP];exact wr64 (by omega) (by omega)))) ?_;refine .cons (OpS.V (.d (.one (.v (.int .i64 ((64+2*(nbits lo.num.natAbs+nbits hi.num.natAbs+nbits p.num.natAbs+nbits q.num.natAbs)+P:Nat):Int))))) (evi ((wr64 (by omega) (by omega)).trans (by omega)))) ?_;refine .cons (OpS.V _ rfl) ?_;refine .nil ?_;refine mNil ?_;refine tN ?_;refine cRet ?_;exact rQ rfl (le_int (by unfold stp;rw [← hS,← hP]))
theorem aSteps0{K L M K2:Nat}{c d:Nat→Int}{lo hi:Rat}(zc:z20 c)(zd:z20 d)(hK:K≤10000000)(hL:L≤1000000)(hM:M≤1000000)(hK2:K2≤10000000):ACall Tryz.prog 67 [.agg ([.row 2 (lg c) (zel K c)] ++tn L lo ++tn M hi),.agg ([.row 2 (lg d) (zel K2 d),.v (.bool false),.v (.slice none 0 0),.v (.bool false),.v (.slice none 0 0),.v (.bool false),.v (.slice none 0 0),.v (.bool false),.v (.slice none 0 0)])] (.d (.one (.v (.int .i64 ((stp c lo hi d 0 0:Nat):Int))))):=by
  refine ACall.fact10 (enters Tryz.func67 rfl rfl) (p:=(Lb K c∧Tb L lo∧Tb M hi)∧Lb K2 d) (fun B w vs h=>match vs,h with | [_,_],⟨⟨cs,_,hl⟩,⟨ds,_,hk⟩,_⟩=>⟨al_bd zc hl,match ds,hk with | _ ::_,⟨hk,_⟩=>prow_bd zd.lg hk⟩) (fun hb=>?_);have hlc:=lg_le c;have hld:=lg_le d;have n1:=nb_lb hb.1.2.1.1;have n2:=nb_lb hb.1.2.2.1;have n5:=szF_le hb.1.1 (lg c);have n6:=szF_le (K:=K2) (c:=d) hb.2 (lg d);obtain ⟨S,hS⟩:∃ S,S=szF c (lg c)+szF d (lg d)+(lg c+lg d)+8:=⟨_,rfl⟩
  obtain ⟨P,hP⟩:∃ P,P=4*(lg c+lg d)*S:=⟨_,rfl⟩
  have hm:P≤160*1000000000:=by rw [hP];exact Nat.mul_le_mul (by omega) (by omega)
  have n3:=nbits_zero;refine acallN hTT 54 [.tmp 4] Tryz.func67 rfl rfl rfl rfl rfl ?_;refine cSeq ?_;refine cReg ?_;refine mN hTT (.box 46 ([.row 2 (lg c) (zel K c)] ++tn L lo ++tn M hi)) rfl rfl rfl ?_;refine mN hTT (.box 46 ([.row 2 (lg d) (zel K2 d),.v (.bool false),.v (.slice none 0 0),.v (.bool false),.v (.slice none 0 0),.v (.bool false),.v (.slice none 0 0),.v (.bool false),.v (.slice none 0 0)])) rfl rfl rfl ?_;refine mW rfl ?_;refine mNil ?_;refine tN ?_;refine cSeq ?_;refine cReg ?_;refine mW rfl ?_;refine mW rfl ?_;refine mW rfl ?_;refine mW rfl ?_;refine mW rfl ?_;refine mW rfl ?_;refine mV hTT (.d (.one (.v (.int .i64 ((lg c+lg d:Nat):Int))))) (evi ((wr64 (by omega) (by omega)).trans (by omega))) ?_;refine mW rfl ?_;refine mNil ?_;refine tN ?_;refine cSeq ?_;refine cDrawK hTT 24 (by kernel_rfl) (by kernel_rfl) (by kernel_rfl) ?_;refine .cons (OpS.V (.ptr 2 1) rfl) ?_;refine .cons (OpS.V (.ptr 2 1) rfl) ?_;refine .cons (OpS.V (.ptr 2 2) rfl) ?_;refine .cons (OpS.V (.d (.one (ln L (Int.natAbs (Rat.num lo))))) rfl) ?_;refine .cons (OpS.C0 (aLBits (isl L (Int.natAbs (Rat.num lo))) (by omega)) rfl rfl rfl) ?_;refine .cons (OpS.V (.ptr 2 5) rfl) ?_;refine .cons (OpS.V (.ptr 2 5) rfl) ?_;refine .cons (OpS.V (.ptr 2 6) rfl) ?_;refine .cons (OpS.V (.d (.one (ln M (Int.natAbs (Rat.num hi))))) rfl) ?_;refine .cons (OpS.C0 (aLBits (isl M (Int.natAbs (Rat.num hi))) (by omega)) rfl rfl rfl) ?_;refine .cons (OpS.V (.d (.one (.v (.int .i64 ((nbits lo.num.natAbs+nbits hi.num.natAbs:Nat):Int))))) (evi ((wr64 (by omega) (by omega)).trans (by omega)))) ?_;refine .cons (OpS.V (.ptr 3 1) rfl) ?_;refine .cons (OpS.V (.ptr 3 1) rfl) ?_;refine .cons (OpS.V (.ptr 3 2) rfl) ?_;refine .cons (OpS.V (.d (.one (.v (.slice none 0 0)))) rfl) ?_;refine .cons (OpS.C0 (aLBits isl_nil (by decide)) rfl rfl rfl) ?_;refine .cons (OpS.V (.d (.one (.v (.int .i64 ((nbits lo.num.natAbs+nbits hi.num.natAbs+nbits 0:Nat):Int))))) (evi ((wr64 (by omega) (by omega)).trans (by omega)))) ?_;refine .cons (OpS.V (.ptr 3 5) rfl) ?_;refine .cons (OpS.V (.ptr 3 5) rfl) ?_;refine .cons (OpS.V (.ptr 3 6) rfl) ?_;refine .cons (OpS.V (.d (.one (.v (.slice none 0 0)))) rfl) ?_;refine .cons (OpS.C0 (aLBits isl_nil (by decide)) rfl rfl rfl) ?_;refine .cons (OpS.V (.d (.one (.v (.int .i64 ((nbits lo.num.natAbs+nbits hi.num.natAbs+nbits 0+nbits 0:Nat):Int))))) (evi ((wr64 (by omega) (by omega)).trans (by omega)))) ?_;refine .cons (OpS.V _ rfl) ?_;refine .nil ?_;refine mNil ?_;refine tN ?_;refine cSeq ?_;refine cDrawK hTT 18 (by kernel_rfl) (by kernel_rfl) (by kernel_rfl) ?_;refine .cons (OpS.V _ rfl) ?_;refine .cons (OpS.V (.d (.one (.v (.int .i64 ((2*(nbits lo.num.natAbs+nbits hi.num.natAbs+nbits 0+nbits 0):Nat):Int))))) (evi ((wr64 (by omega) (by omega)).trans (by omega)))) ?_;refine .cons (OpS.V (.d (.one (.v (.int .i64 ((64+2*(nbits lo.num.natAbs+nbits hi.num.natAbs+nbits 0+nbits 0):Nat):Int))))) (evi ((wr64 (by omega) (by omega)).trans (by omega)))) ?_;refine .cons (OpS.V _ rfl) ?_;refine .cons (OpS.V (.d (.one (.v (.int .i64 ((4*(lg c+lg d):Nat):Int))))) (evi ((wr64 (by omega) (by omega)).trans (by omega)))) ?_;refine .cons (OpS.V (.ptr 2 0) rfl) ?_;refine .cons (OpS.V (.d (.one (.row 2 (lg c) (zel K c)))) rfl) ?_;refine .cons (OpS.C0 (aSize (K:=K) (c:=c) zc rfl (by omega)) rfl rfl rfl) ?_;refine .cons (OpS.V (.ptr 3 0) rfl) ?_;refine .cons (OpS.V (.d (.one (.row 2 (lg d) (zel K2 d)))) rfl) ?_;refine .cons (OpS.C0 (aSize (K:=K2) (c:=d) zd rfl (by omega)) rfl rfl rfl) ?_;refine .cons (OpS.V (.d (.one (.v (.int .i64 ((szF c (lg c)+szF d (lg d):Nat):Int))))) (evi ((wr64 (by omega) (by omega)).trans (by omega)))) ?_;refine .cons (OpS.V _ rfl) ?_;refine .cons (OpS.V (.d (.one (.v (.int .i64 ((szF c (lg c)+szF d (lg d)+(lg c+lg d):Nat):Int))))) (evi ((wr64 (by omega) (by omega)).trans (by omega)))) ?_;refine .cons (OpS.V (.d (.one (.v (.int .i64 ((S:Nat):Int))))) (evi ((wr64 (by omega) (by omega)).trans (by omega)))) ?_;refine .cons (OpS.V (.d (.one (.v (.int .i64 ((P:Nat):Int))))) (evi (by rw [← Int.natCast_mul,← hP];exact wr64 (by omega) (by omega)))) ?_;refine .cons (OpS.V (.d (.one (.v (.int .i64 ((64+2*(nbits lo.num.natAbs+nbits hi.num.natAbs+nbits 0+nbits 0)+P:Nat):Int))))) (evi ((wr64 (by omega) (by omega)).trans (by omega)))) ?_;refine .cons (OpS.V _ rfl) ?_;refine .nil ?_;refine mNil ?_;refine tN ?_;refine cRet ?_;exact rQ rfl (le_int (by unfold stp;rw [← hS,← hP,show (0:Rat).num.natAbs=0 from rfl,nbits_zero]))
theorem VC.cut{p:Fn}{C D:Cut}(h:VC p C)(e:∀ q,D q↔C q):VC p D:=fun ε hε q r hq hr=>h ε hε q r ((e q).1 hq) (fun k=>hr ((e r).2 k))
theorem VC.or{p q:Fn}{C:Cut}(hC:IsCut C)(pp:Po p)(pq:Po q)(h:VC (fun x=>p x*q x) C):VC p C∨VC q C:=by
  rcases sg_or_v hC pp with k | ⟨s,k⟩
  · exact Or.inl k
  · rcases sg_or_v hC pq with l | ⟨t,l⟩
    · exact Or.inr l
    · exact absurd h fun h=>SgC.not_v (k.mul hC l) h
theorem vc_long{c:Nat→Int}(z:z20 c){C:Cut}(hC:IsCut C)(h:VC (FF c) C)(hne:∃ x,FF c x≠0):2≤lg c:=by
  apply Classical.byContradiction;intro hn
  by_cases h0:lg c=0
  · obtain ⟨x,hx⟩:=hne
    exact hx ((FF_zero z).1 h0 x)
  · obtain ⟨κ,hκ,hk⟩:=lg_one_const z (by omega)
    obtain ⟨q,hq⟩:=hC.lo;obtain ⟨r,hr⟩:=hC.hi;rcases (show κ < 0∨0 < κ by grind) with k | k
    · obtain ⟨t,_,_,ht⟩:=h (-κ / 2) (by grind) q r hq hr
      rw [hk t] at ht;unfold Ab at ht;grind
    · obtain ⟨t,_,_,ht⟩:=h (κ / 2) (by grind) q r hq hr
      rw [hk t] at ht;unfold Ab at ht;grind
def sepE(n1 n2 h1 h2:Nat):Nat:=20+2*(n1+n2)*(h1+h2+(n1+n2)+8)
theorem small_of{s l E:Nat}{w:Rat}(h:s+l < E)(hw:0≤w)(hE:w*t2 E≤1):t2 s*(t2 l*w) < 1:=by
  have h1:t2 (s+l+1)≤t2 E:=t2_mono h;have h2:w*t2 (s+l+1)≤w*t2 E:=Rat.mul_le_mul_of_nonneg_left h1 hw;rw [t2_add,t2_add] at h2;have e:t2 1=2:=rfl;rw [e] at h2;have hp:=t2_pos s;have hq:=t2_pos l;have h3:0≤w*(t2 s*t2 l):=Rat.mul_nonneg hw (Rat.mul_nonneg (by grind) (by grind));grind
theorem sep{c d:Nat→Int}(zc:z20 c)(zd:z20 d)(sc:Sqf (FF c) (FF (fder c)))(sd:Sqf (FF d) (FF (fder d)))(hc2:2≤lg c)(hd2:2≤lg d){h1 h2:Nat}(b1:∀ i,(c i).natAbs≤2^h1)(b2:∀ i,(d i).natAbs≤2^h2) 
    {C D:Cut} (hC:IsCut C) (hD:IsCut D) (vC:VC (FF c) C) (vD:VC (FF d) D) {q a b:Rat} (hq:(D q∧¬ C q)∨(C q∧¬ D q)) (ca:C a) (cb:¬ C b) (da:D a) (db:¬ D b) (hw:(b-a)*t2 (sepE (lg c) (lg d) h1 h2)≤1):False:=by
  have hlc:=lg_le c;have hld:=lg_le d;have hab:=hC.nb ca cb;have hw1:b-a≤1:=by
    have h:=Rat.mul_le_mul_of_nonneg_left (t2_one (sepE (lg c) (lg d) h1 h2)) (show 0≤b-a by grind);grind
  obtain ⟨hl,ehl⟩:∃ hl,hl=min h1 h2:=⟨_,rfl⟩
  have hin:In (t2 (hl+2)) a∧In (t2 (hl+2)) b:=by
    have key:a < 1+t2 hl∧-(1+t2 hl) < b:=by
      have hp:=t2_pos hl
      by_cases k:h1≤h2
      · have e:hl=h1:=by omega
        rw [e] at hp ⊢;exact vc_bd zc (by omega) (H:=t2 h1) (by grind) (fun i=>ab_t2 (H:=2^h1) (by have:=b1 i;omega)) vC ca cb
      · have e:hl=h2:=by omega
        rw [e] at hp ⊢;exact vc_bd zd (by omega) (H:=t2 h2) (by grind) (fun i=>ab_t2 (H:=2^h2) (by have:=b2 i;omega)) vD da db
    have h3:=t2_one hl;rw [t2_add];have e:t2 2=4:=rfl;rw [e];unfold In;constructor <;> constructor <;> grind
  by_cases vA:VC (FF c) D
  · obtain ⟨U,V,z,hz,hUV,hU,hV,hL⟩:=capA zc sc hc2 b1 (hl+2) (lg c / 2+1) (lg_two _ (by omega))
    have hx:=expA (n1:=lg c) (n2:=lg d) (h1:=h1) (h2:=h2) (hl:=hl) hc2 hlc hd2 (by omega) (by omega);have hs:=small_of hx (show 0≤b-a by grind) hw;rcases hq with ⟨q1,q2⟩ | ⟨q1,q2⟩
    · exact sepA hC hD sc.der sc.po' hz hUV hU hV hL (by have:=t2_pos (3*(lg c / 2+1)+(hl+2)*lg c+(lg c / 2+1+h1));grind) hin.1 hin.2 hs vC vA ca cb da db q1 q2
    · exact sepA hD hC sc.der sc.po' hz hUV hU hV hL (by have:=t2_pos (3*(lg c / 2+1)+(hl+2)*lg c+(lg c / 2+1+h1));grind) hin.1 hin.2 hs vA vC da db ca cb q1 q2
  · by_cases vB:VC (FF d) C
    · obtain ⟨U,V,z,hz,hUV,hU,hV,hL⟩:=capA zd sd hd2 b2 (hl+2) (lg d / 2+1) (lg_two _ (by omega))
      have hx:=expA (n1:=lg d) (n2:=lg c) (h1:=h2) (h2:=h1) (hl:=hl) hd2 hld hc2 (by omega) (by omega);have e:20+2*(lg d+lg c)*(h2+h1+(lg d+lg c)+8)=sepE (lg c) (lg d) h1 h2:=by unfold sepE;rw [Nat.add_comm (lg d),Nat.add_comm h2]
      rw [e] at hx;have hs:=small_of hx (show 0≤b-a by grind) hw;rcases hq with ⟨q1,q2⟩ | ⟨q1,q2⟩
      · exact sepA hC hD sd.der sd.po' hz hUV hU hV hL (by have:=t2_pos (3*(lg d / 2+1)+(hl+2)*lg d+(lg d / 2+1+h2));grind) hin.1 hin.2 hs vB vD ca cb da db q1 q2
      · exact sepA hD hC sd.der sd.po' hz hUV hU hV hL (by have:=t2_pos (3*(lg d / 2+1)+(hl+2)*lg d+(lg d / 2+1+h2));grind) hin.1 hin.2 hs vD vB da db ca cb q1 q2
    · obtain ⟨γ,k1,k2,zγ,hγ0,pm,y1,y2,c1,c2,hγc,hγd,cop,g1,g2⟩:=ex_gcdI zc zd (by omega) (by omega)
      have nγC:¬ VC (FF γ) C:=fun h=>vB ((h.mul hC (FF_po y2)).congr fun x=>by rw [g2 x];grind)
      have nγD:¬ VC (FF γ) D:=fun h=>vA ((h.mul hD (FF_po y1)).congr fun x=>by rw [g1 x];grind)
      have v1:VC (FF k1) C:=by
        rcases VC.or hC (FF_po y1) (FF_po zγ) (vC.congr g1) with h | h
        · exact h
        · exact absurd h nγC
      have v2:VC (FF k2) D:=by
        rcases VC.or hD (FF_po y2) (FF_po zγ) (vD.congr g2) with h | h
        · exact h
        · exact absurd h nγD
      have ne1:∃ x,FF k1 x≠0:=by
        obtain ⟨x,hx⟩:=FF_nz zc (by omega);exact ⟨x,fun e=>hx (by rw [g1 x,e,Rat.zero_mul])⟩
      have l1:=vc_long y1 hC v1 ne1;have hdeg:lg k1-1+(lg γ-1)=lg c-1:=by
        have h5:=((FF_lc y1 (by omega)).mul (FF_lc zγ hγ0)).congr fun x=>(g1 x).symm
        exact (h5.uniq (FF_lc zc (by omega))).1
      obtain ⟨U,V,z,hz,hUV,hU,hV,hL⟩:=capC zc zd zγ y1 y2 hc2 hd2 hγ0 pm c2 hγc hγd (by omega) cop g1 g2 (hm:=max h1 h2) (h2:=h2) (fun i=>Nat.le_trans (b1 i) (Nat.pow_le_pow_right (by decide) (Nat.le_max_left _ _))) (fun i=>Nat.le_trans (b2 i) (Nat.pow_le_pow_right (by decide) (Nat.le_max_right _ _))) b2 (hl+2) ((lg c+lg d) / 2+1) (lg d / 2+1) (lg c+lg d) rfl (lg_two _ (by omega)) (lg_two _ (by omega));have hx:=expC (n1:=lg c) (n2:=lg d) (h1:=h1) (h2:=h2) (hl:=hl) hc2 hlc hd2 hld (by omega) (by omega) (by omega);have hs:=small_of hx (show 0≤b-a by grind) hw;exact sepC hz hUV hU hV hL (by have:=t2_pos (3*(lg d / 2+1)+(hl+2)*lg d+(lg d / 2+1+(h2+(1+(lg d / 2+1))*lg d)+(4+(lg d / 2+1))*lg d));grind) hin.1 hin.2 hs v1 v2 ca cb da db
structure OkV(c:Nat→Int)(lo hi:Rat):Prop where
  ok:OkA c lo hi
  sq:Sqf (FF c) (FF (fder c))
  l2:2≤lg c
  vc:VC (FF c) (cutA c lo hi)
theorem OkV.nar{c:Nat→Int}{lo hi a b:Rat}(h:OkV c lo hi)(k:Nar c lo hi a b):OkV c a b:=⟨k.ok,h.sq,h.l2,h.vc.cut k.cut⟩
theorem OkA.below{c:Nat→Int}{lo hi q:Rat}(h:OkA c lo hi)(hq:q < lo):cutA c lo hi q:=by
  by_cases hl:hi≤lo
  · rw [cutA_P hl];exact hq
  · rw [cutA_I (by grind)];exact Or.inl (by grind)
theorem OkA.above{c:Nat→Int}{lo hi q:Rat}(h:OkA c lo hi)(hq:hi≤q):¬ cutA c lo hi q:=fun k=>by
  rcases h.lo_le k with k | k | k <;> grind
theorem OkA.lt_hi{c:Nat→Int}{lo hi q:Rat}(h:OkA c lo hi)(hq:cutA c lo hi q):q < hi:=by
  rcases h.lo_le hq with k | k | k <;> grind
def bel(lo hi p q:Rat):Prop:=hi≤p∧¬ (hi≤lo∧q≤p∧hi=p)
instance {lo hi p q:Rat}:Decidable (bel lo hi p q):=inferInstanceAs (Decidable (_∧_))
noncomputable def apF(c d:Nat→Int):Nat→Rat→Rat→Rat→Rat→Rat×Rat×Rat×Rat×Int
  | 0,lo,hi,p,q=>(lo,hi,p,q,0)
  | n+1,lo,hi,p,q=>if bel lo hi p q then (lo,hi,p,q,-1) else if bel p q lo hi then (lo,hi,p,q,1) else if q-p≤hi-lo then apF c d n (hlf c lo hi).1 (hlf c lo hi).2 p q else apF c d n lo hi (hlf d p q).1 (hlf d p q).2
theorem hlf_w{c:Nat→Int}{lo hi t:Rat}{i:Nat}(h:OkA c lo hi)(ht:0 < t)(k:(hi-lo)*t≤t2 (i+1)):((hlf c lo hi).2-(hlf c lo hi).1)*t≤t2 i:=by
  rw [t2_add] at k;have e:t2 1=2:=rfl;rw [e] at k;have hp:=t2_pos i
  by_cases hl:hi≤lo
  · have e2:hlf c lo hi=(lo,hi):=if_pos hl
    rw [e2];show (hi-lo)*t≤_
    have h1:=h.le;have:hi-lo=0:=by grind
    rw [this,Rat.zero_mul];grind
  · have h1:=(hlf_nar h).2 (by grind)
    have h2:=Rat.mul_le_mul_of_nonneg_right h1 (show 0≤t by grind);grind
structure ApR(c d:Nat→Int)(lo hi p q:Rat)(s:Int)(r:Rat×Rat×Rat×Rat×Int):Prop where
  a:Nar c lo hi r.1 r.2.1
  b:Nar d p q r.2.2.1 r.2.2.2.1
  sg:r.2.2.2.2=s
  l:s= -1→r.2.1≤r.2.2.1
theorem bel_cmp{c d:Nat→Int}{lo hi p q:Rat}(h:OkA c lo hi)(k:OkA d p q)(hb:hi≤p):cmpC (cutA c lo hi) (cutA d p q)≤0:=
  (cmpC_le h.cut k.cut).2 fun t ht=>k.below (by have:=h.lt_hi ht;grind)
theorem apF_ok{c d:Nat→Int}{h1 h2:Nat}(b1:∀ i,(c i).natAbs≤2^h1)(b2:∀ i,(d i).natAbs≤2^h2):∀ (n i j:Nat) {lo hi p q:Rat},OkV c lo hi→OkV d p q→cmpC (cutA c lo hi) (cutA d p q)≠0→i+j < n→(hi-lo)*t2 (sepE (lg c) (lg d) h1 h2+2)≤t2 i→(q-p)*t2 (sepE (lg c) (lg d) h1 h2+2)≤t2 j→
    ApR c d lo hi p q (cmpC (cutA c lo hi) (cutA d p q)) (apF c d n lo hi p q)
  | 0,_,_,_,_,_,_,_,_,_,h,_,_=>absurd h (by omega)
  | n+1,i,j,lo,hi,p,q,oa,ob,hne,hn,w1,w2=>by
    obtain ⟨E,hE⟩:∃ E,E=sepE (lg c) (lg d) h1 h2:=⟨_,rfl⟩
    rw [← hE] at w1 w2;have hC:=oa.ok.cut;have hD:=ob.ok.cut;have hbd:=cmpC_bd (cutA c lo hi) (cutA d p q);unfold apF
    by_cases k1:bel lo hi p q
    · rw [if_pos k1]
      have:=bel_cmp oa.ok ob.ok k1.1;have e:cmpC (cutA c lo hi) (cutA d p q)= -1:=by omega
      rw [e];exact ⟨Nar.refl oa.ok,Nar.refl ob.ok,rfl,fun _=>k1.1⟩
    · rw [if_neg k1]
      by_cases k2:bel p q lo hi
      · rw [if_pos k2]
        have h3:=bel_cmp ob.ok oa.ok k2.1;rw [cmpC_neg hC hD] at h3;have e:cmpC (cutA c lo hi) (cutA d p q)=1:=by omega
        rw [e];exact ⟨Nar.refl oa.ok,Nar.refl ob.ok,rfl,fun h=>absurd h (by omega)⟩
      · rw [if_neg k2]
        have npt:¬ (hi≤lo∧q≤p∧hi=p):=fun ⟨a1,a2,a3⟩=>hne (cmpC_eq fun t=>by
          rw [cutA_P a1,cutA_P a2];have:=oa.ok.le;have e:lo=p:=by grind
          rw [e])
        have npt2:¬ (q≤p∧hi≤lo∧q=lo):=fun ⟨a1,a2,a3⟩=>npt ⟨a2,a1,by have:=oa.ok.le;have:=ob.ok.le;grind⟩
        have o1:p < hi:=Rat.not_le.1 fun h=>k1 ⟨h,npt⟩
        have o2:lo < q:=Rat.not_le.1 fun h=>k2 ⟨h,npt2⟩
        have big:¬ ((hi-lo)*t2 (E+2)≤1∧(q-p)*t2 (E+2)≤1):=fun ⟨u1,u2⟩=>by
          rw [t2_add] at u1 u2;have e4:t2 2=4:=rfl;rw [e4] at u1 u2;have hp:=t2_pos E;obtain ⟨θ,hθ⟩:∃ θ,θ=1 / (2*t2 E):=⟨_,rfl⟩
          have hθ1:θ*t2 E=1 / 2:=by rw [hθ];grind
          have hθ0:0 < θ:=by
            apply Classical.byContradiction;intro hn;have:=Rat.mul_le_mul_of_nonneg_right (show θ≤0 by grind) (show 0≤t2 E by grind);grind
          obtain ⟨a,ha⟩:∃ a,a=(if lo≤p then lo else p)-θ:=⟨_,rfl⟩
          obtain ⟨b,hb⟩:∃ b,b=if hi≤q then q else hi:=⟨_,rfl⟩
          have hlo:a < lo∧a < p:=by rw [ha];split <;> constructor <;> grind
          have hhi:hi≤b∧q≤b:=by rw [hb];split <;> constructor <;> grind
          have hle1:=oa.ok.le;have hle2:=ob.ok.le;have hwid:b-a≤(hi-lo)+(q-p)+θ:=by rw [ha,hb];split <;> split <;> grind
          have hfin:(b-a)*t2 E≤1:=by
            have:=Rat.mul_le_mul_of_nonneg_right hwid (show 0≤t2 E by grind);grind
          have hq:∃ t,(cutA d p q t∧¬ cutA c lo hi t)∨(cutA c lo hi t∧¬ cutA d p q t):=by
            apply Classical.byContradiction;intro hn;refine hne (cmpC_eq fun t=>⟨fun h=>?_,fun h=>?_⟩)
            · apply Classical.byContradiction;intro k;exact hn ⟨t,Or.inr ⟨h,k⟩⟩
            · apply Classical.byContradiction;intro k;exact hn ⟨t,Or.inl ⟨h,k⟩⟩
          obtain ⟨t,ht⟩:=hq;rw [hE] at hfin;exact sep oa.ok.z ob.ok.z oa.sq ob.sq oa.l2 ob.l2 b1 b2 hC hD oa.vc ob.vc ht (oa.ok.below hlo.1) (oa.ok.above hhi.1) (ob.ok.below hlo.2) (ob.ok.above hhi.2) hfin
        have tp:=t2_pos (E+2)
        by_cases hw:q-p≤hi-lo
        · rw [if_pos hw]
          have hi0:i≠0:=fun e=>big ⟨by rw [e] at w1;exact w1,by
            have h3:=Rat.mul_le_mul_of_nonneg_right hw (show 0≤t2 (E+2) by grind);rw [e] at w1;have e1:t2 0=1:=rfl;rw [e1] at w1;grind⟩
          obtain ⟨i',rfl⟩:∃ i',i=i'+1:=⟨i-1,by omega⟩
          have nr:=(hlf_nar oa.ok).1;have ecm:cmpC (cutA c (hlf c lo hi).1 (hlf c lo hi).2) (cutA d p q)=cmpC (cutA c lo hi) (cutA d p q):=by
            rw [show cutA c (hlf c lo hi).1 (hlf c lo hi).2=cutA c lo hi from funext fun t=>propext (nr.cut t)]
          have ih:=apF_ok b1 b2 n i' j (oa.nar nr) ob (by rw [ecm];exact hne) (by omega) (by rw [← hE];exact hlf_w oa.ok tp w1) (by rw [← hE];exact w2);rw [ecm] at ih;exact ⟨nr.trans ih.a,ih.b,ih.sg,ih.l⟩
        · rw [if_neg hw]
          have hj0:j≠0:=fun e=>big ⟨by
            have h3:=Rat.mul_le_mul_of_nonneg_right (show hi-lo≤q-p by grind) (show 0≤t2 (E+2) by grind);rw [e] at w2;have e1:t2 0=1:=rfl;rw [e1] at w2;grind,by rw [e] at w2;exact w2⟩
          obtain ⟨j',rfl⟩:∃ j',j=j'+1:=⟨j-1,by omega⟩
          have nr:=(hlf_nar ob.ok).1;have ecm:cmpC (cutA c lo hi) (cutA d (hlf d p q).1 (hlf d p q).2)=cmpC (cutA c lo hi) (cutA d p q):=by
            rw [show cutA d (hlf d p q).1 (hlf d p q).2=cutA d p q from funext fun t=>propext (nr.cut t)]
          have ih:=apF_ok b1 b2 n i j' oa (ob.nar nr) (by rw [ecm];exact hne) (by omega) (by rw [← hE];exact w1) (by rw [← hE];exact hlf_w ob.ok tp w2);rw [ecm] at ih;exact ⟨ih.a,nr.trans ih.b,ih.sg,ih.l⟩
theorem sz_bd{c:Nat→Int}(z:z20 c)(i:Nat):(c i).natAbs≤2^szF c (lg c):=by
  by_cases h:i < lg c
  · have h1:=nbits_lt (c i).natAbs
    exact Nat.le_trans (Nat.le_of_lt h1) (Nat.pow_le_pow_right (by decide) (szF_get h))
  · rw [z.lg i (by omega)];exact Nat.zero_le _
theorem end_wide(p q:Rat):q-p≤t2 (nbits p.num.natAbs+nbits q.num.natAbs+1):=by
  have h1:=(dy_start (p:=p) (q:=q) (R:=2^nbits p.num.natAbs) (Nat.le_of_lt (nbits_lt _))).b;have h2:=(dy_start (p:=q) (q:=p) (R:=2^nbits q.num.natAbs) (Nat.le_of_lt (nbits_lt _))).b;have h3:t2 (nbits p.num.natAbs)≤t2 (nbits p.num.natAbs+nbits q.num.natAbs):=t2_mono (by omega);have h4:t2 (nbits q.num.natAbs)≤t2 (nbits p.num.natAbs+nbits q.num.natAbs):=t2_mono (by omega);rw [t2_add _ 1];have e:t2 1=2:=rfl;rw [e];have e1:((2^nbits p.num.natAbs:Nat):Rat)=t2 (nbits p.num.natAbs):=rfl;have e2:((2^nbits q.num.natAbs:Nat):Rat)=t2 (nbits q.num.natAbs):=rfl;rw [e1] at h1;rw [e2] at h2;unfold Ab at h1 h2;grind
theorem apF_stp{c d:Nat→Int}{lo hi p q:Rat}(oa:OkV c lo hi)(ob:OkV d p q)(hne:cmpC (cutA c lo hi) (cutA d p q)≠0):ApR c d lo hi p q (cmpC (cutA c lo hi) (cutA d p q)) (apF c d (stp c lo hi d p q) lo hi p q):=by
  obtain ⟨E,hE⟩:∃ E,E=sepE (lg c) (lg d) (szF c (lg c)) (szF d (lg d)):=⟨_,rfl⟩
  refine apF_ok (sz_bd oa.ok.z) (sz_bd ob.ok.z) _ (nbits lo.num.natAbs+nbits hi.num.natAbs+1+(E+2)) (nbits p.num.natAbs+nbits q.num.natAbs+1+(E+2)) oa ob hne ?_ ?_ ?_
  · rw [hE]
    unfold stp sepE;obtain ⟨P,hP⟩:∃ P,P=(lg c+lg d)*(szF c (lg c)+szF d (lg d)+(lg c+lg d)+8):=⟨_,rfl⟩
    rw [Nat.mul_assoc 2,Nat.mul_assoc 4,← hP];omega
  · rw [← hE,t2_add _ (E+2)]
    exact Rat.mul_le_mul_of_nonneg_right (end_wide lo hi) (by have:=t2_pos (E+2);grind)
  · rw [← hE,t2_add _ (E+2)]
    exact Rat.mul_le_mul_of_nonneg_right (end_wide p q) (by have:=t2_pos (E+2);grind)
structure ApI(c d:Nat→Int)(L J f:Nat)(lo hi p q u1 u2 v1 v2:Rat):Prop where
  fl:f≤J
  oa:OkA c u1 u2
  ob:OkA d v1 v2
  da:Dz L (J-f) u1 u2
  db:Dz L (J-f) v1 v2
  e:apF c d f u1 u2 v1 v2=apF c d J lo hi p q
theorem ApI.start{c d:Nat→Int}{L J:Nat}{lo hi p q:Rat}(h:OkA c lo hi)(k:OkA d p q)(h1:Tb L lo)(h2:Tb L hi)(h3:Tb L p)(h4:Tb L q):ApI c d L J J lo hi p q lo hi p q:=⟨Nat.le_refl _,h,k,by rw [Nat.sub_self];exact dz_start h1 h2,by rw [Nat.sub_self];exact dz_start h3 h4,rfl⟩
theorem ApI.end_{c d:Nat→Int}{L J f:Nat}{lo hi p q u1 u2 v1 v2:Rat}(h:ApI c d L J f lo hi p q u1 u2 v1 v2)(hf:f=0):apF c d J lo hi p q=(u1,u2,v1,v2,0):=by rw [← h.e,hf];rfl
theorem ApI.lt{c d:Nat→Int}{L J f:Nat}{lo hi p q u1 u2 v1 v2:Rat}(h:ApI c d L J f lo hi p q u1 u2 v1 v2)(hf:f≠0)(hb:bel u1 u2 v1 v2):apF c d J lo hi p q=(u1,u2,v1,v2,-1):=by
  obtain ⟨g,rfl⟩:∃ g,f=g+1:=⟨f-1,by omega⟩
  rw [← h.e];exact if_pos hb
theorem ApI.gt{c d:Nat→Int}{L J f:Nat}{lo hi p q u1 u2 v1 v2:Rat}(h:ApI c d L J f lo hi p q u1 u2 v1 v2)(hf:f≠0)(hb:¬ bel u1 u2 v1 v2)(hb2:bel v1 v2 u1 u2):apF c d J lo hi p q=(u1,u2,v1,v2,1):=by
  obtain ⟨g,rfl⟩:∃ g,f=g+1:=⟨f-1,by omega⟩
  rw [← h.e];exact (if_neg hb).trans (if_pos hb2)
theorem ApI.go1{c d:Nat→Int}{L J f:Nat}{lo hi p q u1 u2 v1 v2:Rat}(h:ApI c d L J f lo hi p q u1 u2 v1 v2)(hf:f≠0)(hb:¬ bel u1 u2 v1 v2)(hb2:¬ bel v1 v2 u1 u2)(hw:v2-v1≤u2-u1):ApI c d L J (f-1) lo hi p q (hlf c u1 u2).1 (hlf c u1 u2).2 v1 v2:=by
  obtain ⟨g,rfl⟩:∃ g,f=g+1:=⟨f-1,by omega⟩
  have hfl:=h.fl;have hd:=h.da.hlf (c:=c);rw [show J-(g+1)+1=J-g by omega] at hd;exact ⟨by omega,(hlf_nar h.oa).1.ok,h.ob,hd,h.db.mono (by omega),by rw [← h.e];exact (((if_neg hb).trans (if_neg hb2)).trans (if_pos hw)).symm⟩
theorem ApI.go2{c d:Nat→Int}{L J f:Nat}{lo hi p q u1 u2 v1 v2:Rat}(h:ApI c d L J f lo hi p q u1 u2 v1 v2)(hf:f≠0)(hb:¬ bel u1 u2 v1 v2)(hb2:¬ bel v1 v2 u1 u2)(hw:¬ v2-v1≤u2-u1):ApI c d L J (f-1) lo hi p q u1 u2 (hlf d v1 v2).1 (hlf d v1 v2).2:=by
  obtain ⟨g,rfl⟩:∃ g,f=g+1:=⟨f-1,by omega⟩
  have hfl:=h.fl;have hd:=h.db.hlf (c:=d);rw [show J-(g+1)+1=J-g by omega] at hd;exact ⟨by omega,h.oa,(hlf_nar h.ob).1.ok,h.da.mono (by omega),hd,by rw [← h.e];exact (((if_neg hb).trans (if_neg hb2)).trans (if_neg hw)).symm⟩
theorem stp_le{K L:Nat}{c d:Nat→Int}{lo hi p q:Rat}(h1:Lb K c)(h2:Lb K d)(a1:Tb L lo)(a2:Tb L hi)(a3:Tb L p)(a4:Tb L q):stp c lo hi d p q≤64+256*L+160*(64*K+48):=by
  have n1:=nb_lb a1.1;have n2:=nb_lb a2.1;have n3:=nb_lb a3.1;have n4:=nb_lb a4.1;have n5:=szF_le h1 (lg c);have n6:=szF_le h2 (lg d);have hlc:=lg_le c;have hld:=lg_le d;unfold stp;have h:=Nat.mul_le_mul (show 4*(lg c+lg d)≤160 by omega) (show szF c (lg c)+szF d (lg d)+(lg c+lg d)+8≤64*K+48 by omega);omega
def gsu(ops:Array Oper)(s:AS)(o:Oper):Bool:=
  match o.guard with
  | none=>false
  | some (j,_)=>match ops.toList[j]? with
    | some oj=>match oj.dst with
      | some d=>match lk s.sl d with
        | some (.tup [])=>true
        | _=>false
      | none=>false
    | none=>false
theorem gsu_ok{ops:Array Oper}{s:AS}{o:Oper}{ρ:Rho}{B:BS}{w:World}{a:Act}(h:gsu ops s o=true)(hs:Slots ρ B w s.sl a):Region.wanted o (yielded ops a.tmps)=false:=by
  unfold gsu at h;unfold Region.wanted;split at h
  · exact absurd h Bool.noConfusion
  · rename_i j want hg
    rw [hg];split at h
    · rename_i oj hj
      split at h
      · rename_i d hd
        split at h
        · rename_i hb
          obtain ⟨v,hv,hr⟩:=hs d _ hb;obtain ⟨cs,rfl,hcs⟩:=hr;have hj':ops[j]?=some oj:=by rw [← Array.getElem?_toList];exact hj
          simp only [yielded,hj',Option.bind_some,hd,hv];cases want <;> rfl
        · exact absurd h Bool.noConfusion
      · exact absurd h Bool.noConfusion
    · exact absurd h Bool.noConfusion
section
variable {P:Program} {ops:Array Oper} {Q:Qs} {o:Oper} {l:List Oper} {s:AS}
theorem mGt(hg:gst ops s o=some false)(hd:dok o.dst s.n=true)(k:AL P ops Q l (s.put o.dst (.tup []))):AL P ops Q (o ::l) s:=by
  rintro B0 w0 a w ⟨ρ,hc,hn,hdf,hs⟩;unfold wpList;rw [if_neg (by rw [gst_ok hg hs];exact Bool.noConfusion)];exact k B0 w0 _ w (den_put hc hn hdf hs hd ⟨[],rfl,trivial⟩)
theorem mU(hg:gsu ops s o=true)(hd:dok o.dst s.n=true)(k:AL P ops Q l (s.put o.dst (.tup []))):AL P ops Q (o ::l) s:=by
  rintro B0 w0 a w ⟨ρ,hc,hn,hdf,hs⟩;unfold wpList;rw [if_neg (by rw [gsu_ok hg hs];exact Bool.noConfusion)];exact k B0 w0 _ w (den_put hc hn hdf hs hd ⟨[],rfl,trivial⟩)
end
structure GI(c d:Nat→Int)(M N i:Nat)(g:Nat→Int):Prop where
  z:z20 g
  b:Lb M g
  i0:i=0→∀ j,g j=0
  i1:i=1→Idl (fun _=>0) (FF c) (FF g)
  i2:i=2→Idl (FF c) (FF d) (FF g)
  pm:i≠0→lg g≠0∧Pm (lg g) g
  l:lg g≤N
theorem GI.start{c d:Nat→Int}{M N:Nat}:GI c d M N 0 (fun _=>0):=⟨z20_nil,fun i=>Nat.pow_pos (by decide),fun _ _=>rfl,fun h=>absurd h (by omega),fun h=>absurd h (by omega),fun h=>absurd rfl h,by rw [(lg_zero z20_nil).2 fun _=>rfl];exact Nat.zero_le _⟩
theorem GI.one_{c d g g1:Nat→Int}{K M' N:Nat}(h:GI c d (21*K+3) N 0 g)(zc:z20 c)(hc:lg c≠0)(hN:N≤10)(hcN:lg c≤N)(hb:Lb K c)(k:GcdP g c M' g1):GI c d (21*K+3) N 1 g1:=by
  obtain ⟨l1,l2⟩:=k.le' zc hc;have pm:=k.pm l1;have e:FF g=fun _=>0:=funext fun x=>(FF_zero h.z).1 ((lg_zero h.z).2 (h.i0 rfl)) x
  have id:=k.idl;rw [e] at id;exact ⟨k.z,dv_lb20 zc k.z hc (by omega) id.db pm.one hb,fun h=>absurd h (by omega),fun _=>id,fun h=>absurd h (by omega),fun _=>⟨l1,pm⟩,by omega⟩
theorem GI.two_{c d g g2:Nat→Int}{K M' N:Nat}(h:GI c d (21*K+3) N 1 g)(zc:z20 c)(zd:z20 d)(hc:lg c≠0)(hd:lg d≠0)(hN:N≤10)(hdN:lg d≤N)(hb:Lb K d)(k:GcdP g d M' g2):GI c d (21*K+3) N 2 g2:=by
  obtain ⟨l1,l2⟩:=k.le' zd hd;have pm:=k.pm l1;have id:=h.i1 rfl;obtain ⟨u,v,pu,pv,huv⟩:=id.cm;have cm1:Cmb (FF g) (FF c) (FF d):=⟨v,fun _=>0,pv,po_const 0,fun x=>by rw [huv x];grind⟩;exact ⟨k.z,dv_lb20 zd k.z hd (by omega) k.idl.db pm.one hb,fun h=>absurd h (by omega),fun h=>absurd h (by omega),fun _=>⟨k.idl.cm.trans cm1 (Cmb.r _ _),k.idl.da.trans id.db,k.idl.db⟩,fun _=>⟨l1,pm⟩,by omega⟩
theorem GI.fin{c d g:Nat→Int}{M N:Nat}(h:GI c d M N 2 g):GcdP c d M g:=⟨h.z,h.b,h.i2 rfl,fun _=>(h.pm (by omega)).2⟩
theorem leo_nilex{c d:Nat→Int}{M N:Nat}:AV.le (.d (.one (.v (.slice none 0 0)))) (.d (.one (exL (GI c d M N 0) (fun g=>prow M (lg g) g)))):=
  fun ρ B w v h=>exL_intro (Q:=GI c d M N 0) (L:=fun g=>prow M (lg g) g) (fun _=>0) GI.start ρ B w v (nil_prow' ((lg_zero z20_nil).2 fun _=>rfl) ρ B w v h)
theorem aGcd2{K KC N:Nat}{c d:Nat→Int}(zc:z20 c)(zd:z20 d)(hc:lg c≠0)(hd:lg d≠0)(hN:N≤10)(hcN:lg c≤N)(hdN:lg d≤N)(hbc:Lb K c)(hbd:Lb K d)(hKC:((21*K+3)+1)*(2*3^N)≤KC)(hC:KC≤90000000):ACall Tryz.prog 63 [.one (.row 1 2 (fun i' j'=>(([.row 2 (lg c) (zel K c),.row 2 (lg d) (zel K d)])[i'*1+j']?).getD (.v undef)))] (.d (.one (exL (GcdP c d (21*K+3)) (fun g=>prow (21*K+3) (lg g) g)))):=by
  have hlc:=lg_le c;have hld:=lg_le d;refine acallN hTT 17 [.tmp 2] Tryz.func63 rfl rfl rfl rfl rfl<|cR<|mW rfl<|mT<|cR<|mW rfl<|mT<|cSeq<|cR<|mv3 rfl rfl rfl<|mT<|cBlock<|cLoop (ι:=Nat) (fun (i:Nat)=>⟨17,[(6,.d (.one (.row 1 2 (fun i' j'=>(([.row 2 (lg c) (zel K c),.row 2 (lg d) (zel K d)])[i'*1+j']?).getD (.v undef))))),(7,.d (.one (.v (.int .i64 2)))),(8,.d (.one (.v (.int .i64 ((i:Nat):Int))))),(3,.d (.one (exL (GI c d (21*K+3) N i) (fun g=>prow (21*K+3) (lg g) g))))],[]⟩) (fun (i:Nat)=>i≤2) (fun (i:Nat)=>2-i) 0 (Nat.zero_le _) (wk rfl ⟨hs rfl,hs rfl,hs rfl,hs' rfl (leo_nilex),trivial⟩ trivial rfl) ?_;rintro i hI;have hi:i≤2:=hI;show AW _ _ _ ⟨_,_,_⟩
  refine cR<|mW rfl<|mT<|cSeq<|cCond rfl (fun hc1=>?_) (fun hc1=>?_)
  · skip
    refine cSkip ?_;refine tN ?_;refine cSeq ?_;refine cBlock ?_;refine cSeq ?_;have hi2:i < 2:=by have h0:=of_decide_eq_true hc1;omega
    by_cases hi0:i=0
    · skip
      obtain rfl:i=0:=by omega
      refine cEx (Qx:=(GI c d (21*K+3) N 0)) (L:=(fun g=>prow (21*K+3) (lg g) g)) 3 rfl (fun g0 hg0=>?_);have hl0:=hg0.l;exact cReg<|mv3 rfl rfl rfl<|mT<|cReg<|mv2 rfl rfl<|mC0 (aTwo (K:=(21*K+3)) (KC:=KC) (N:=N) (isp (K:=(21*K+3)) (c:=g0) (z20.lg hg0.z)) (IsP.mono (isp (K:=K) (c:=c) (z20.lg zc)) (by omega)) hg0.z zc (by omega) (by omega) hN hl0 (by omega) hKC hC) rfl rfl rfl<|mW rfl<|mNil<|bN<|tN<|cReg<|mv2 rfl rfl<|mNil<|⟨(0+1),by omega,by omega,wk rfl ⟨hs rfl,hs rfl,hs' rfl (le_int rfl),hs' rfl (le_one (exL_mono fun r hr=>⟨r,hg0.one_ zc hc hN hcN hbc hr,prow_tight fun i _=>(hg0.one_ zc hc hN hcN hbc hr).b i⟩)),trivial⟩ trivial rfl⟩
    · skip
      obtain rfl:i=1:=by omega
      refine cEx (Qx:=(GI c d (21*K+3) N 1)) (L:=(fun g=>prow (21*K+3) (lg g) g)) 3 rfl (fun g0 hg0=>?_);have hl0:=hg0.l;exact cReg<|mv3 rfl rfl rfl<|mT<|cReg<|mv2 rfl rfl<|mC0 (aTwo (K:=(21*K+3)) (KC:=KC) (N:=N) (isp (K:=(21*K+3)) (c:=g0) (z20.lg hg0.z)) (IsP.mono (isp (K:=K) (c:=d) (z20.lg zd)) (by omega)) hg0.z zd (by omega) (by omega) hN hl0 (by omega) hKC hC) rfl rfl rfl<|mW rfl<|mNil<|bN<|tN<|cReg<|mv2 rfl rfl<|mNil<|⟨(1+1),by omega,by omega,wk rfl ⟨hs rfl,hs rfl,hs' rfl (le_int rfl),hs' rfl (le_one (exL_mono fun r hr=>⟨r,hg0.two_ zc zd hc hd hN hdN hbd hr,prow_tight fun i _=>(hg0.two_ zc zd hc hd hN hdN hbd hr).b i⟩)),trivial⟩ trivial rfl⟩
  · skip
    exact cExit<|tE<|tE<|bE<|tN<|cR<|mv2 rfl rfl<|mT<|cRet<|rQ rfl (by have h0:=of_decide_eq_false hc1;obtain rfl:i=2:=by {omega};exact le_one (exL_mono fun r hr=>⟨r,hr.fin,fun _ _ _ h=>h⟩))
theorem rfree_const{g:Nat→Int}(z:z20 g)(h:lg g=1)(a b:Rat):RFree (FF g) a b:=by
  obtain ⟨κ,hκ,hk⟩:=lg_one_const z h;exact ⟨sgq κ,fun e=>hκ (sgq_eq_zero.1 e),fun t _ _=>by rw [hk t]⟩
theorem hasB_iff{c:Nat→Int}{lo hi:Rat}:hasB c lo hi=true↔(sgq (FF c hi)=0∨sgq (FF c hi)≠aft (FF c) (FF (fder c)) lo):=decide_eq_true_iff
theorem has_free{c g:Nat→Int}{lo hi a b:Rat}{w:Fn}(o:OkI (FF c) (FF (fder c)) lo hi)(zg:z20 g)(pw:Po w)(e:∀ x,FF c x=FF g x*w x)(h2:2≤lg g)(h1:lo≤a)(h3:b≤hi)(hab:a < b):hasB g a b=true↔¬ RFree (FF g) a b:=by
  have hs:Sqf (FF g) (FF (fder g)):=o.sq.dv (FF_po zg) pw (FF_po (z20_der zg)) (FF_der zg) e;have hne:∃ x,FF (fder g) x≠0:=FF_nz (z20_der zg) fun h=>by have:=fder_zero zg h;omega
  obtain ⟨gg,l,st,_⟩:=hs.stm hne;obtain ⟨N,hN⟩:=sturm st (a:=a) (b:=b) (by grind);have k:Ctd (FF g) a b N:=⟨gg,l,st,hN⟩;have hle:N≤1:=by
    obtain ⟨K1,M1,_,n1,e1⟩:=o.one.split (m:=a) h1 (by grind);obtain ⟨K2,M2,n2,_,e2⟩:=n1.split (m:=b) (by grind) h3;have:=dv_count o (FF_po zg) pw e st (by grind) k n2;omega
  rw [hasB_iff,← ctd_has (FF_der zg) hab k hle];have h5:=k.free (FF_po zg) (by grind);constructor
  · intro h6 h7
    have:=h5.2 h7;omega
  · intro h6
    have:N≠0:=fun h=>h6 (h5.1 h)
    omega
theorem cmp_has{c d g:Nat→Int}{M:Nat}{lo hi p q a b:Rat}(oa:OkA c lo hi)(ob:OkA d p q)(h1:¬ hi≤lo)(h2:¬ q≤p)(hg:GcdP c d M g)(hg0:lg g≠0)(ha:a=if lo < p then p else lo)(hb:b=if q < hi then q else hi):
    (a < b→2≤lg g→hasB g a b=true→cmpC (cutA c lo hi) (cutA d p q)=0)∧((a < b→2≤lg g→hasB g a b=false)→cmpC (cutA c lo hi) (cutA d p q)≠0):=by
  have o1:=oa.i' h1;have o2:=ob.i' h2;have e1:=cutA_I (c:=c) (show lo < hi by grind);have e2:=cutA_I (c:=d) (show p < q by grind);obtain ⟨w1,pw1,f1⟩:=hg.idl.da;obtain ⟨w2,pw2,f2⟩:=hg.idl.db;obtain ⟨u,v,pu,pv,huv⟩:=hg.idl.cm;have f1':∀ x,FF c x=FF g x*w1 x:=fun x=>by rw [f1 x];grind
  have f2':∀ x,FF d x=FF g x*w2 x:=fun x=>by rw [f2 x];grind
  have a1:lo≤a:=by rw [ha];split <;> grind
  have a2:p≤a:=by rw [ha];split <;> grind
  have b1:b≤hi:=by rw [hb];split <;> grind
  have b2:b≤q:=by rw [hb];split <;> grind
  rw [e1,e2];refine ⟨fun hab hl hh=>cmpC_eq (cmp_same o1 o2 (FF_po hg.z) pw1 pw2 f1' f2' a1 a2 b1 b2 hab ((has_free o1 hg.z pw1 f1' hl a1 b1 hab).1 hh)),fun hh h0=>?_⟩;refine cmp_diff o1 o2 (FF_po hg.z) pw1 pw2 pv pu f1' f2' (fun x=>by rw [huv x];grind) (by rw [ha];split;exact Or.inr rfl;exact Or.inl rfl) (by rw [hb];split;exact Or.inr rfl;exact Or.inl rfl) a1 a2 b1 b2 (fun hab=>?_) (cmpC_zero h0)
  by_cases hl:2≤lg g
  · apply Classical.byContradiction
    intro hn;have:=(has_free o1 hg.z pw1 f1' hl a1 b1 hab).2 hn;rw [hh hab hl] at this;exact absurd this Bool.noConfusion
  · exact rfree_const hg.z (by omega) a b
theorem aApart{K L X:Nat}{c d:Nat→Int}{lo hi x1 x2:Rat}(hA:OkA c lo hi)(hB:OkA d x1 x2)(hX:11*L+320*K+300≤X)(hX1:X≤100000):ACall Tryz.prog 106 [.agg ([.row 2 (lg c) (zel K c)] ++tn L lo ++tn L hi),.agg ([.row 2 (lg d) (zel K d)] ++tn L x1 ++tn L x2)] (.tup [.agg ([.row 2 (lg c) (zel K c)] ++tn X ((apF c d (stp c lo hi d x1 x2) lo hi x1 x2).1) ++tn X ((apF c d (stp c lo hi d x1 x2) lo hi x1 x2).2.1)),.agg ([.row 2 (lg d) (zel K d)] ++tn X ((apF c d (stp c lo hi d x1 x2) lo hi x1 x2).2.2.1) ++tn X ((apF c d (stp c lo hi d x1 x2) lo hi x1 x2).2.2.2.1)),.one (.v (.int .i64 ((apF c d (stp c lo hi d x1 x2) lo hi x1 x2).2.2.2.2)))]):=by
  refine ACall.fact10 (enters Tryz.func106 rfl rfl) (p:=(Lb K c∧Tb L lo∧Tb L hi)∧(Lb K d∧Tb L x1∧Tb L x2)) (fun B w vs h=>match vs,h with | [_,_],⟨⟨cs,_,hl⟩,⟨ds,_,hk⟩,_⟩=>⟨al_bd hA.z hl,al_bd hB.z hk⟩) (fun hb=>?_);have hJ:=stp_le hb.1.1 hb.2.1 hb.1.2.1 hb.1.2.2 hb.2.2.1 hb.2.2.2;refine acallN hTT 83 [.cell 4 46,.cell 5 46,.tmp 6] Tryz.func106 rfl rfl rfl rfl rfl<|cR<|mN hTT (.box 46 ([.row 2 (lg c) (zel K c)] ++tn L lo ++tn L hi)) rfl rfl rfl<|mN hTT (.box 46 ([.row 2 (lg d) (zel K d)] ++tn L x1 ++tn L x2)) rfl rfl rfl<|mN hTT (.box 46 ([.v (.slice none 0 0),.v (.bool false),.v (.slice none 0 0),.v (.bool false),.v (.slice none 0 0),.v (.bool false),.v (.slice none 0 0),.v (.bool false),.v (.slice none 0 0)])) rfl rfl rfl<|mN hTT (.box 46 ([.v (.slice none 0 0),.v (.bool false),.v (.slice none 0 0),.v (.bool false),.v (.slice none 0 0),.v (.bool false),.v (.slice none 0 0),.v (.bool false),.v (.slice none 0 0)])) rfl rfl rfl<|mW rfl<|mT<|cSeq<|cR<|mv2 rfl rfl<|mC0 (aSteps (K:=K) (c:=c) (L:=L) (lo:=lo) (M:=L) (hi:=hi) (K2:=K) (d:=d) (L2:=L) (p:=x1) (M2:=L) (q:=x2) hA.z hB.z (by omega) (by omega) (by omega) (by omega) (by omega) (by omega)) rfl rfl rfl<|mW rfl<|mT<|cBlock<|cLoop (ι:=Nat×Rat×Rat×Rat×Rat) (fun (p:Nat×Rat×Rat×Rat×Rat)=>match p with | (f,u1,u2,v1,v2)=>⟨83,[(2,.ptr 2 0),(3,.ptr 3 0),(4,.ptr 4 0),(5,.ptr 5 0),(6,.d (.one (.v (.int .i64 0)))),(9,.d (.one (.v (.int .i64 ((stp c lo hi d x1 x2:Nat):Int))))),(10,.d (.one (.v (.int .i64 (((stp c lo hi d x1 x2)-f:Nat):Int)))))],[(2,.box 46 ([.row 2 (lg c) (zel K c)] ++tn X u1 ++tn X u2)),(3,.box 46 ([.row 2 (lg d) (zel K d)] ++tn X v1 ++tn X v2)),(4,.box 46 ([.v (.slice none 0 0),.v (.bool false),.v (.slice none 0 0),.v (.bool false),.v (.slice none 0 0),.v (.bool false),.v (.slice none 0 0),.v (.bool false),.v (.slice none 0 0)])),(5,.box 46 ([.v (.slice none 0 0),.v (.bool false),.v (.slice none 0 0),.v (.bool false),.v (.slice none 0 0),.v (.bool false),.v (.slice none 0 0),.v (.bool false),.v (.slice none 0 0)]))]⟩) (fun (p:Nat×Rat×Rat×Rat×Rat)=>match p with | (f,u1,u2,v1,v2)=>ApI c d L (stp c lo hi d x1 x2) f lo hi x1 x2 u1 u2 v1 v2) (fun (p:Nat×Rat×Rat×Rat×Rat)=>match p with | (f,u1,u2,v1,v2)=>f) ((stp c lo hi d x1 x2),lo,hi,x1,x2) (.start hA hB hb.1.2.1 hb.1.2.2 hb.2.2.1 hb.2.2.2) (wk rfl ⟨hs rfl,hs rfl,hs rfl,hs rfl,hs rfl,hs rfl,hs' rfl (le_int (by rw [Nat.sub_self];rfl)),trivial⟩ ⟨ho' rfl (al_leo (tb_mono hb.1.2.1 (by omega)) (tb_mono hb.1.2.2 (by omega))),ho' rfl (al_leo (tb_mono hb.2.2.1 (by omega)) (tb_mono hb.2.2.2 (by omega))),ho rfl,ho rfl,trivial⟩ rfl) ?_;rintro ⟨f,u1,u2,v1,v2⟩ hI;have hI:ApI c d L (stp c lo hi d x1 x2) f lo hi x1 x2 u1 u2 v1 v2:=hI;show AW _ _ _ ⟨_,_,_⟩
  refine cR<|mW rfl<|mT<|cSeq<|cCond rfl (fun hc1=>?_) (fun hc1=>?_)
  · skip
    refine cSkip ?_;refine tN ?_;refine cSeq ?_;refine cBlock ?_;refine cSeq ?_;refine cBlock ?_;refine cSeq ?_;have hf0:f≠0:=by have h0:=of_decide_eq_true hc1;omega
    by_cases ka1:u2≤v1
    · skip
      by_cases ka2:u2≤u1
      · skip
        by_cases ka3:v2≤v1
        · skip
          by_cases ka4:u2=v1
          · skip
            have ka:¬ bel u1 u2 v1 v2:=fun h=>h.2 ⟨ka2,ka3,ka4⟩
            refine cReg<|mv4 rfl rfl rfl rfl<|mC0 (aCmpN (K:=X) (L:=X) (p:=u2) (q:=v1) (by omega) (by omega)) rfl rfl rfl<|mV hTT (.d (.one (.v (.bool true)))) (evb (decide_eq_true (cmpQ_le.2 ka1)))<|mv2 rfl rfl<|mC0 (aPoint (K:=K) (c:=c) (L:=X) (lo:=u1) (M:=X) (hi:=u2) (by omega) (by omega)) rfl rfl rfl<|mV hTT (.d (.one (.v (.bool true)))) (evb (decide_eq_true ka2))<|mW rfl<|mC0 (aPoint (K:=K) (c:=d) (L:=X) (lo:=v1) (M:=X) (hi:=v2) (by omega) (by omega)) rfl rfl rfl<|mW rfl<|mV hTT (.d (.one (.v (.bool true)))) (evb (decide_eq_true ka3))<|mv4 rfl rfl rfl rfl<|mC0 (aCmpN (K:=X) (L:=X) (p:=u2) (q:=v1) (by omega) (by omega)) rfl rfl rfl<|mV hTT (.d (.one (.v (.bool true)))) (evb (beq_iff_eq.2 (cmpQ_zero.2 ka4)))<|mW rfl<|mV hTT (.d (.one (.v (.bool false)))) (evb rfl)<|mv2 rfl rfl<|mT<|cF rfl<|cSeq ?_
            by_cases kb1:v2≤u1
            · skip
              by_cases kb2:u2≤u1
              · skip
                by_cases kb3:v2≤v1
                · skip
                  by_cases kb4:v2=u1
                  · skip
                    have kb:¬ bel v1 v2 u1 u2:=fun h=>h.2 ⟨kb3,kb2,kb4⟩
                    refine cReg<|mv4 rfl rfl rfl rfl<|mC0 (aCmpN (K:=X) (L:=X) (p:=v2) (q:=u1) (by omega) (by omega)) rfl rfl rfl<|mV hTT (.d (.one (.v (.bool true)))) (evb (decide_eq_true (cmpQ_le.2 kb1)))<|mv2 rfl rfl<|mC0 (aPoint (K:=K) (c:=c) (L:=X) (lo:=u1) (M:=X) (hi:=u2) (by omega) (by omega)) rfl rfl rfl<|mV hTT (.d (.one (.v (.bool true)))) (evb (decide_eq_true kb2))<|mW rfl<|mC0 (aPoint (K:=K) (c:=d) (L:=X) (lo:=v1) (M:=X) (hi:=v2) (by omega) (by omega)) rfl rfl rfl<|mW rfl<|mV hTT (.d (.one (.v (.bool true)))) (evb (decide_eq_true kb3))<|mv4 rfl rfl rfl rfl<|mC0 (aCmpN (K:=X) (L:=X) (p:=v2) (q:=u1) (by omega) (by omega)) rfl rfl rfl<|mV hTT (.d (.one (.v (.bool true)))) (evb (beq_iff_eq.2 (cmpQ_zero.2 kb4)))<|mW rfl<|mV hTT (.d (.one (.v (.bool false)))) (evb rfl)<|mv2 rfl rfl<|mT<|cF rfl<|cSkip<|bN<|tN<|cSeq<|cDrawK hTT 12 (by kernel_rfl) (by kernel_rfl) (by kernel_rfl)<|.cons (OpS.V (.ptr 2 5) rfl)<|.cons (OpS.V (.d (.agg (tn X u2))) rfl)<|.cons (OpS.V (.ptr 2 1) rfl)<|.cons (OpS.V (.d (.agg (tn X u1))) rfl)<|.cons (OpS.C0 (aSubN (K:=X) (L:=X) (p:=u2) (q:=u1) (by omega) (by omega)) rfl rfl rfl)<|.cons (OpS.V (.ptr 3 5) rfl)<|.cons (OpS.V (.d (.agg (tn X v2))) rfl)<|.cons (OpS.V (.ptr 3 1) rfl)<|.cons (OpS.V (.d (.agg (tn X v1))) rfl)<|.cons (OpS.C0 (aSubN (K:=X) (L:=X) (p:=v2) (q:=v1) (by omega) (by omega)) rfl rfl rfl)<|.cons (OpS.C0 (aCmpN (K:=(max X 2+1+(max X 2+1)+2)) (L:=(max X 2+1+(max X 2+1)+2)) (p:=(u2-u1)) (q:=(v2-v1)) (by omega) (by omega)) rfl rfl rfl)<|.cons (OpS.V (.d (.one (.v (.bool (decide (v2-v1≤u2-u1)))))) (evb (decide_eq_decide.2 cmpQ_ge)))<|.nil<|mT<|cCond rfl (fun hc2=>?_) (fun hc2=>?_)
                    · skip
                      have h':=hI.go1 hf0 ka kb (of_decide_eq_true hc2);have hT:=h'.da.tb (X:=X) (by omega);exact cReg<|mW rfl<|mC0 (aHalf (K:=K) (c:=c) (L:=X) (lo:=u1) (M:=X) (hi:=u2) (X:=X) hI.oa hT.1 hT.2 (by omega) (by omega) (by omega)) rfl rfl rfl<|mS hTT 2 (.box 46 ([.row 2 (lg c) (zel K c)] ++tn X ((hlf c u1 u2).1) ++tn X ((hlf c u1 u2).2))) rfl<|mNil<|bN<|tN<|cReg<|mv2 rfl rfl<|mNil<|⟨((f-1),(hlf c u1 u2).1,(hlf c u1 u2).2,v1,v2),h',by show f-1 < f;omega,wk rfl ⟨hs rfl,hs rfl,hs rfl,hs rfl,hs rfl,hs rfl,hs' rfl (le_int ((inc64 (by have:=h'.fl;omega)).trans (by have:=hI.fl;omega))),trivial⟩ ⟨ho rfl,ho rfl,ho rfl,ho rfl,trivial⟩ rfl⟩
                    · skip
                      have h':=hI.go2 hf0 ka kb (of_decide_eq_false hc2);have hT:=h'.db.tb (X:=X) (by omega);exact cReg<|mW rfl<|mC0 (aHalf (K:=K) (c:=d) (L:=X) (lo:=v1) (M:=X) (hi:=v2) (X:=X) hI.ob hT.1 hT.2 (by omega) (by omega) (by omega)) rfl rfl rfl<|mS hTT 3 (.box 46 ([.row 2 (lg d) (zel K d)] ++tn X ((hlf d v1 v2).1) ++tn X ((hlf d v1 v2).2))) rfl<|mNil<|bN<|tN<|cReg<|mv2 rfl rfl<|mNil<|⟨((f-1),u1,u2,(hlf d v1 v2).1,(hlf d v1 v2).2),h',by show f-1 < f;omega,wk rfl ⟨hs rfl,hs rfl,hs rfl,hs rfl,hs rfl,hs rfl,hs' rfl (le_int ((inc64 (by have:=h'.fl;omega)).trans (by have:=hI.fl;omega))),trivial⟩ ⟨ho rfl,ho rfl,ho rfl,ho rfl,trivial⟩ rfl⟩
                  · skip
                    have kb:bel v1 v2 u1 u2:=⟨kb1,fun h=>kb4 h.2.2⟩;exact cReg<|mv4 rfl rfl rfl rfl<|mC0 (aCmpN (K:=X) (L:=X) (p:=v2) (q:=u1) (by omega) (by omega)) rfl rfl rfl<|mV hTT (.d (.one (.v (.bool true)))) (evb (decide_eq_true (cmpQ_le.2 kb1)))<|mv2 rfl rfl<|mC0 (aPoint (K:=K) (c:=c) (L:=X) (lo:=u1) (M:=X) (hi:=u2) (by omega) (by omega)) rfl rfl rfl<|mV hTT (.d (.one (.v (.bool true)))) (evb (decide_eq_true kb2))<|mW rfl<|mC0 (aPoint (K:=K) (c:=d) (L:=X) (lo:=v1) (M:=X) (hi:=v2) (by omega) (by omega)) rfl rfl rfl<|mW rfl<|mV hTT (.d (.one (.v (.bool true)))) (evb (decide_eq_true kb3))<|mv4 rfl rfl rfl rfl<|mC0 (aCmpN (K:=X) (L:=X) (p:=v2) (q:=u1) (by omega) (by omega)) rfl rfl rfl<|mV hTT (.d (.one (.v (.bool false)))) (evb (beq_eq_false_iff_ne.2 (fun h=>kb4 (cmpQ_zero.1 h))))<|mW rfl<|mV hTT (.d (.one (.v (.bool true)))) (evb rfl)<|mv2 rfl rfl<|mT<|cT rfl<|cSeq<|cDrawS hTT 5 (by kernel_rfl) (by kernel_rfl)<|.cons (OpS.V (.d (.agg ([.row 2 (lg c) (zel K c)] ++tn X u1 ++tn X u2))) rfl) (by kernel_rfl)<|.cons (OpS.V (.d (.agg ([.row 2 (lg d) (zel K d)] ++tn X v1 ++tn X v2))) rfl) (by kernel_rfl)<|.cons (OpS.S 4 (.box 46 ([.row 2 (lg c) (zel K c)] ++tn X u1 ++tn X u2)) rfl rfl) (by kernel_rfl)<|.cons (OpS.S 5 (.box 46 ([.row 2 (lg d) (zel K d)] ++tn X v1 ++tn X v2)) rfl rfl) (by kernel_rfl)<|.cons (OpS.V _ rfl) (by kernel_rfl)<|.nil<|mT<|cRet<|bR<|tR<|bR<|tR<|tR<|bR<|tR<|rQ rfl (by rw [hI.gt hf0 ka kb];exact AV.le.rfl)
                · skip
                  have kb:bel v1 v2 u1 u2:=⟨kb1,fun h=>kb3 h.1⟩;exact cReg<|mv4 rfl rfl rfl rfl<|mC0 (aCmpN (K:=X) (L:=X) (p:=v2) (q:=u1) (by omega) (by omega)) rfl rfl rfl<|mV hTT (.d (.one (.v (.bool true)))) (evb (decide_eq_true (cmpQ_le.2 kb1)))<|mv2 rfl rfl<|mC0 (aPoint (K:=K) (c:=c) (L:=X) (lo:=u1) (M:=X) (hi:=u2) (by omega) (by omega)) rfl rfl rfl<|mV hTT (.d (.one (.v (.bool true)))) (evb (decide_eq_true kb2))<|mW rfl<|mC0 (aPoint (K:=K) (c:=d) (L:=X) (lo:=v1) (M:=X) (hi:=v2) (by omega) (by omega)) rfl rfl rfl<|mW rfl<|mV hTT (.d (.one (.v (.bool false)))) (evb (decide_eq_false kb3))<|mGt rfl rfl<|mGt rfl rfl<|mGt rfl rfl<|mGt rfl rfl<|mGt rfl rfl<|mGt rfl rfl<|mW rfl<|mV hTT (.d (.one (.v (.bool true)))) (evb rfl)<|mv2 rfl rfl<|mT<|cT rfl<|cSeq<|cDrawS hTT 5 (by kernel_rfl) (by kernel_rfl)<|.cons (OpS.V (.d (.agg ([.row 2 (lg c) (zel K c)] ++tn X u1 ++tn X u2))) rfl) (by kernel_rfl)<|.cons (OpS.V (.d (.agg ([.row 2 (lg d) (zel K d)] ++tn X v1 ++tn X v2))) rfl) (by kernel_rfl)<|.cons (OpS.S 4 (.box 46 ([.row 2 (lg c) (zel K c)] ++tn X u1 ++tn X u2)) rfl rfl) (by kernel_rfl)<|.cons (OpS.S 5 (.box 46 ([.row 2 (lg d) (zel K d)] ++tn X v1 ++tn X v2)) rfl rfl) (by kernel_rfl)<|.cons (OpS.V _ rfl) (by kernel_rfl)<|.nil<|mT<|cRet<|bR<|tR<|bR<|tR<|tR<|bR<|tR<|rQ rfl (by rw [hI.gt hf0 ka kb];exact AV.le.rfl)
              · skip
                have kb:bel v1 v2 u1 u2:=⟨kb1,fun h=>kb2 h.2.1⟩;exact cReg<|mv4 rfl rfl rfl rfl<|mC0 (aCmpN (K:=X) (L:=X) (p:=v2) (q:=u1) (by omega) (by omega)) rfl rfl rfl<|mV hTT (.d (.one (.v (.bool true)))) (evb (decide_eq_true (cmpQ_le.2 kb1)))<|mv2 rfl rfl<|mC0 (aPoint (K:=K) (c:=c) (L:=X) (lo:=u1) (M:=X) (hi:=u2) (by omega) (by omega)) rfl rfl rfl<|mV hTT (.d (.one (.v (.bool false)))) (evb (decide_eq_false kb2))<|mGt rfl rfl<|mGt rfl rfl<|mv2 rfl rfl<|mGt rfl rfl<|mGt rfl rfl<|mGt rfl rfl<|mGt rfl rfl<|mGt rfl rfl<|mGt rfl rfl<|mW rfl<|mV hTT (.d (.one (.v (.bool true)))) (evb rfl)<|mv2 rfl rfl<|mT<|cT rfl<|cSeq<|cDrawS hTT 5 (by kernel_rfl) (by kernel_rfl)<|.cons (OpS.V (.d (.agg ([.row 2 (lg c) (zel K c)] ++tn X u1 ++tn X u2))) rfl) (by kernel_rfl)<|.cons (OpS.V (.d (.agg ([.row 2 (lg d) (zel K d)] ++tn X v1 ++tn X v2))) rfl) (by kernel_rfl)<|.cons (OpS.S 4 (.box 46 ([.row 2 (lg c) (zel K c)] ++tn X u1 ++tn X u2)) rfl rfl) (by kernel_rfl)<|.cons (OpS.S 5 (.box 46 ([.row 2 (lg d) (zel K d)] ++tn X v1 ++tn X v2)) rfl rfl) (by kernel_rfl)<|.cons (OpS.V _ rfl) (by kernel_rfl)<|.nil<|mT<|cRet<|bR<|tR<|bR<|tR<|tR<|bR<|tR<|rQ rfl (by rw [hI.gt hf0 ka kb];exact AV.le.rfl)
            · skip
              have kb:¬ bel v1 v2 u1 u2:=fun h=>kb1 h.1
              refine cReg<|mv4 rfl rfl rfl rfl<|mC0 (aCmpN (K:=X) (L:=X) (p:=v2) (q:=u1) (by omega) (by omega)) rfl rfl rfl<|mV hTT (.d (.one (.v (.bool false)))) (evb (decide_eq_false (fun h=>kb1 (cmpQ_le.1 h))))<|mW rfl<|mGt rfl rfl<|mGt rfl rfl<|mGt rfl rfl<|mU rfl rfl<|mU rfl rfl<|mGt rfl rfl<|mGt rfl rfl<|mU rfl rfl<|mU rfl rfl<|mU rfl rfl<|mU rfl rfl<|mU rfl rfl<|mU rfl rfl<|mGt rfl rfl<|mGt rfl rfl<|mv2 rfl rfl<|mT<|cF rfl<|cSkip<|bN<|tN<|cSeq<|cDrawK hTT 12 (by kernel_rfl) (by kernel_rfl) (by kernel_rfl)<|.cons (OpS.V (.ptr 2 5) rfl)<|.cons (OpS.V (.d (.agg (tn X u2))) rfl)<|.cons (OpS.V (.ptr 2 1) rfl)<|.cons (OpS.V (.d (.agg (tn X u1))) rfl)<|.cons (OpS.C0 (aSubN (K:=X) (L:=X) (p:=u2) (q:=u1) (by omega) (by omega)) rfl rfl rfl)<|.cons (OpS.V (.ptr 3 5) rfl)<|.cons (OpS.V (.d (.agg (tn X v2))) rfl)<|.cons (OpS.V (.ptr 3 1) rfl)<|.cons (OpS.V (.d (.agg (tn X v1))) rfl)<|.cons (OpS.C0 (aSubN (K:=X) (L:=X) (p:=v2) (q:=v1) (by omega) (by omega)) rfl rfl rfl)<|.cons (OpS.C0 (aCmpN (K:=(max X 2+1+(max X 2+1)+2)) (L:=(max X 2+1+(max X 2+1)+2)) (p:=(u2-u1)) (q:=(v2-v1)) (by omega) (by omega)) rfl rfl rfl)<|.cons (OpS.V (.d (.one (.v (.bool (decide (v2-v1≤u2-u1)))))) (evb (decide_eq_decide.2 cmpQ_ge)))<|.nil<|mT<|cCond rfl (fun hc3=>?_) (fun hc3=>?_)
              · skip
                have h':=hI.go1 hf0 ka kb (of_decide_eq_true hc3);have hT:=h'.da.tb (X:=X) (by omega);exact cReg<|mW rfl<|mC0 (aHalf (K:=K) (c:=c) (L:=X) (lo:=u1) (M:=X) (hi:=u2) (X:=X) hI.oa hT.1 hT.2 (by omega) (by omega) (by omega)) rfl rfl rfl<|mS hTT 2 (.box 46 ([.row 2 (lg c) (zel K c)] ++tn X ((hlf c u1 u2).1) ++tn X ((hlf c u1 u2).2))) rfl<|mNil<|bN<|tN<|cReg<|mv2 rfl rfl<|mNil<|⟨((f-1),(hlf c u1 u2).1,(hlf c u1 u2).2,v1,v2),h',by show f-1 < f;omega,wk rfl ⟨hs rfl,hs rfl,hs rfl,hs rfl,hs rfl,hs rfl,hs' rfl (le_int ((inc64 (by have:=h'.fl;omega)).trans (by have:=hI.fl;omega))),trivial⟩ ⟨ho rfl,ho rfl,ho rfl,ho rfl,trivial⟩ rfl⟩
              · skip
                have h':=hI.go2 hf0 ka kb (of_decide_eq_false hc3);have hT:=h'.db.tb (X:=X) (by omega);exact cReg<|mW rfl<|mC0 (aHalf (K:=K) (c:=d) (L:=X) (lo:=v1) (M:=X) (hi:=v2) (X:=X) hI.ob hT.1 hT.2 (by omega) (by omega) (by omega)) rfl rfl rfl<|mS hTT 3 (.box 46 ([.row 2 (lg d) (zel K d)] ++tn X ((hlf d v1 v2).1) ++tn X ((hlf d v1 v2).2))) rfl<|mNil<|bN<|tN<|cReg<|mv2 rfl rfl<|mNil<|⟨((f-1),u1,u2,(hlf d v1 v2).1,(hlf d v1 v2).2),h',by show f-1 < f;omega,wk rfl ⟨hs rfl,hs rfl,hs rfl,hs rfl,hs rfl,hs rfl,hs' rfl (le_int ((inc64 (by have:=h'.fl;omega)).trans (by have:=hI.fl;omega))),trivial⟩ ⟨ho rfl,ho rfl,ho rfl,ho rfl,trivial⟩ rfl⟩
          · skip
            have ka:bel u1 u2 v1 v2:=⟨ka1,fun h=>ka4 h.2.2⟩;exact cReg<|mv4 rfl rfl rfl rfl<|mC0 (aCmpN (K:=X) (L:=X) (p:=u2) (q:=v1) (by omega) (by omega)) rfl rfl rfl<|mV hTT (.d (.one (.v (.bool true)))) (evb (decide_eq_true (cmpQ_le.2 ka1)))<|mv2 rfl rfl<|mC0 (aPoint (K:=K) (c:=c) (L:=X) (lo:=u1) (M:=X) (hi:=u2) (by omega) (by omega)) rfl rfl rfl<|mV hTT (.d (.one (.v (.bool true)))) (evb (decide_eq_true ka2))<|mW rfl<|mC0 (aPoint (K:=K) (c:=d) (L:=X) (lo:=v1) (M:=X) (hi:=v2) (by omega) (by omega)) rfl rfl rfl<|mW rfl<|mV hTT (.d (.one (.v (.bool true)))) (evb (decide_eq_true ka3))<|mv4 rfl rfl rfl rfl<|mC0 (aCmpN (K:=X) (L:=X) (p:=u2) (q:=v1) (by omega) (by omega)) rfl rfl rfl<|mV hTT (.d (.one (.v (.bool false)))) (evb (beq_eq_false_iff_ne.2 (fun h=>ka4 (cmpQ_zero.1 h))))<|mW rfl<|mV hTT (.d (.one (.v (.bool true)))) (evb rfl)<|mv2 rfl rfl<|mT<|cT rfl<|cSeq<|cDrawS hTT 5 (by kernel_rfl) (by kernel_rfl)<|.cons (OpS.V (.d (.agg ([.row 2 (lg c) (zel K c)] ++tn X u1 ++tn X u2))) rfl) (by kernel_rfl)<|.cons (OpS.V (.d (.agg ([.row 2 (lg d) (zel K d)] ++tn X v1 ++tn X v2))) rfl) (by kernel_rfl)<|.cons (OpS.S 4 (.box 46 ([.row 2 (lg c) (zel K c)] ++tn X u1 ++tn X u2)) rfl rfl) (by kernel_rfl)<|.cons (OpS.S 5 (.box 46 ([.row 2 (lg d) (zel K d)] ++tn X v1 ++tn X v2)) rfl rfl) (by kernel_rfl)<|.cons (OpS.V _ rfl) (by kernel_rfl)<|.nil<|mT<|cRet<|bR<|tR<|bR<|tR<|tR<|bR<|tR<|rQ rfl (by rw [hI.lt hf0 ka];exact AV.le.rfl)
        · skip
          have ka:bel u1 u2 v1 v2:=⟨ka1,fun h=>ka3 h.2.1⟩;exact cReg<|mv4 rfl rfl rfl rfl<|mC0 (aCmpN (K:=X) (L:=X) (p:=u2) (q:=v1) (by omega) (by omega)) rfl rfl rfl<|mV hTT (.d (.one (.v (.bool true)))) (evb (decide_eq_true (cmpQ_le.2 ka1)))<|mv2 rfl rfl<|mC0 (aPoint (K:=K) (c:=c) (L:=X) (lo:=u1) (M:=X) (hi:=u2) (by omega) (by omega)) rfl rfl rfl<|mV hTT (.d (.one (.v (.bool true)))) (evb (decide_eq_true ka2))<|mW rfl<|mC0 (aPoint (K:=K) (c:=d) (L:=X) (lo:=v1) (M:=X) (hi:=v2) (by omega) (by omega)) rfl rfl rfl<|mW rfl<|mV hTT (.d (.one (.v (.bool false)))) (evb (decide_eq_false ka3))<|mGt rfl rfl<|mGt rfl rfl<|mGt rfl rfl<|mGt rfl rfl<|mGt rfl rfl<|mGt rfl rfl<|mW rfl<|mV hTT (.d (.one (.v (.bool true)))) (evb rfl)<|mv2 rfl rfl<|mT<|cT rfl<|cSeq<|cDrawS hTT 5 (by kernel_rfl) (by kernel_rfl)<|.cons (OpS.V (.d (.agg ([.row 2 (lg c) (zel K c)] ++tn X u1 ++tn X u2))) rfl) (by kernel_rfl)<|.cons (OpS.V (.d (.agg ([.row 2 (lg d) (zel K d)] ++tn X v1 ++tn X v2))) rfl) (by kernel_rfl)<|.cons (OpS.S 4 (.box 46 ([.row 2 (lg c) (zel K c)] ++tn X u1 ++tn X u2)) rfl rfl) (by kernel_rfl)<|.cons (OpS.S 5 (.box 46 ([.row 2 (lg d) (zel K d)] ++tn X v1 ++tn X v2)) rfl rfl) (by kernel_rfl)<|.cons (OpS.V _ rfl) (by kernel_rfl)<|.nil<|mT<|cRet<|bR<|tR<|bR<|tR<|tR<|bR<|tR<|rQ rfl (by rw [hI.lt hf0 ka];exact AV.le.rfl)
      · skip
        have ka:bel u1 u2 v1 v2:=⟨ka1,fun h=>ka2 h.1⟩;exact cReg<|mv4 rfl rfl rfl rfl<|mC0 (aCmpN (K:=X) (L:=X) (p:=u2) (q:=v1) (by omega) (by omega)) rfl rfl rfl<|mV hTT (.d (.one (.v (.bool true)))) (evb (decide_eq_true (cmpQ_le.2 ka1)))<|mv2 rfl rfl<|mC0 (aPoint (K:=K) (c:=c) (L:=X) (lo:=u1) (M:=X) (hi:=u2) (by omega) (by omega)) rfl rfl rfl<|mV hTT (.d (.one (.v (.bool false)))) (evb (decide_eq_false ka2))<|mGt rfl rfl<|mGt rfl rfl<|mv2 rfl rfl<|mGt rfl rfl<|mGt rfl rfl<|mGt rfl rfl<|mGt rfl rfl<|mGt rfl rfl<|mGt rfl rfl<|mW rfl<|mV hTT (.d (.one (.v (.bool true)))) (evb rfl)<|mv2 rfl rfl<|mT<|cT rfl<|cSeq<|cDrawS hTT 5 (by kernel_rfl) (by kernel_rfl)<|.cons (OpS.V (.d (.agg ([.row 2 (lg c) (zel K c)] ++tn X u1 ++tn X u2))) rfl) (by kernel_rfl)<|.cons (OpS.V (.d (.agg ([.row 2 (lg d) (zel K d)] ++tn X v1 ++tn X v2))) rfl) (by kernel_rfl)<|.cons (OpS.S 4 (.box 46 ([.row 2 (lg c) (zel K c)] ++tn X u1 ++tn X u2)) rfl rfl) (by kernel_rfl)<|.cons (OpS.S 5 (.box 46 ([.row 2 (lg d) (zel K d)] ++tn X v1 ++tn X v2)) rfl rfl) (by kernel_rfl)<|.cons (OpS.V _ rfl) (by kernel_rfl)<|.nil<|mT<|cRet<|bR<|tR<|bR<|tR<|tR<|bR<|tR<|rQ rfl (by rw [hI.lt hf0 ka];exact AV.le.rfl)
    · skip
      have ka:¬ bel u1 u2 v1 v2:=fun h=>ka1 h.1
      refine cReg<|mv4 rfl rfl rfl rfl<|mC0 (aCmpN (K:=X) (L:=X) (p:=u2) (q:=v1) (by omega) (by omega)) rfl rfl rfl<|mV hTT (.d (.one (.v (.bool false)))) (evb (decide_eq_false (fun h=>ka1 (cmpQ_le.1 h))))<|mW rfl<|mGt rfl rfl<|mGt rfl rfl<|mGt rfl rfl<|mU rfl rfl<|mU rfl rfl<|mGt rfl rfl<|mGt rfl rfl<|mU rfl rfl<|mU rfl rfl<|mU rfl rfl<|mU rfl rfl<|mU rfl rfl<|mU rfl rfl<|mGt rfl rfl<|mGt rfl rfl<|mv2 rfl rfl<|mT<|cF rfl<|cSeq ?_
      by_cases kb1:v2≤u1
      · skip
        by_cases kb2:u2≤u1
        · skip
          by_cases kb3:v2≤v1
          · skip
            by_cases kb4:v2=u1
            · skip
              have kb:¬ bel v1 v2 u1 u2:=fun h=>h.2 ⟨kb3,kb2,kb4⟩
              refine cReg<|mv4 rfl rfl rfl rfl<|mC0 (aCmpN (K:=X) (L:=X) (p:=v2) (q:=u1) (by omega) (by omega)) rfl rfl rfl<|mV hTT (.d (.one (.v (.bool true)))) (evb (decide_eq_true (cmpQ_le.2 kb1)))<|mv2 rfl rfl<|mC0 (aPoint (K:=K) (c:=c) (L:=X) (lo:=u1) (M:=X) (hi:=u2) (by omega) (by omega)) rfl rfl rfl<|mV hTT (.d (.one (.v (.bool true)))) (evb (decide_eq_true kb2))<|mW rfl<|mC0 (aPoint (K:=K) (c:=d) (L:=X) (lo:=v1) (M:=X) (hi:=v2) (by omega) (by omega)) rfl rfl rfl<|mW rfl<|mV hTT (.d (.one (.v (.bool true)))) (evb (decide_eq_true kb3))<|mv4 rfl rfl rfl rfl<|mC0 (aCmpN (K:=X) (L:=X) (p:=v2) (q:=u1) (by omega) (by omega)) rfl rfl rfl<|mV hTT (.d (.one (.v (.bool true)))) (evb (beq_iff_eq.2 (cmpQ_zero.2 kb4)))<|mW rfl<|mV hTT (.d (.one (.v (.bool false)))) (evb rfl)<|mv2 rfl rfl<|mT<|cF rfl<|cSkip<|bN<|tN<|cSeq<|cDrawK hTT 12 (by kernel_rfl) (by kernel_rfl) (by kernel_rfl)<|.cons (OpS.V (.ptr 2 5) rfl)<|.cons (OpS.V (.d (.agg (tn X u2))) rfl)<|.cons (OpS.V (.ptr 2 1) rfl)<|.cons (OpS.V (.d (.agg (tn X u1))) rfl)<|.cons (OpS.C0 (aSubN (K:=X) (L:=X) (p:=u2) (q:=u1) (by omega) (by omega)) rfl rfl rfl)<|.cons (OpS.V (.ptr 3 5) rfl)<|.cons (OpS.V (.d (.agg (tn X v2))) rfl)<|.cons (OpS.V (.ptr 3 1) rfl)<|.cons (OpS.V (.d (.agg (tn X v1))) rfl)<|.cons (OpS.C0 (aSubN (K:=X) (L:=X) (p:=v2) (q:=v1) (by omega) (by omega)) rfl rfl rfl)<|.cons (OpS.C0 (aCmpN (K:=(max X 2+1+(max X 2+1)+2)) (L:=(max X 2+1+(max X 2+1)+2)) (p:=(u2-u1)) (q:=(v2-v1)) (by omega) (by omega)) rfl rfl rfl)<|.cons (OpS.V (.d (.one (.v (.bool (decide (v2-v1≤u2-u1)))))) (evb (decide_eq_decide.2 cmpQ_ge)))<|.nil<|mT<|cCond rfl (fun hc4=>?_) (fun hc4=>?_)
              · skip
                have h':=hI.go1 hf0 ka kb (of_decide_eq_true hc4);have hT:=h'.da.tb (X:=X) (by omega);exact cReg<|mW rfl<|mC0 (aHalf (K:=K) (c:=c) (L:=X) (lo:=u1) (M:=X) (hi:=u2) (X:=X) hI.oa hT.1 hT.2 (by omega) (by omega) (by omega)) rfl rfl rfl<|mS hTT 2 (.box 46 ([.row 2 (lg c) (zel K c)] ++tn X ((hlf c u1 u2).1) ++tn X ((hlf c u1 u2).2))) rfl<|mNil<|bN<|tN<|cReg<|mv2 rfl rfl<|mNil<|⟨((f-1),(hlf c u1 u2).1,(hlf c u1 u2).2,v1,v2),h',by show f-1 < f;omega,wk rfl ⟨hs rfl,hs rfl,hs rfl,hs rfl,hs rfl,hs rfl,hs' rfl (le_int ((inc64 (by have:=h'.fl;omega)).trans (by have:=hI.fl;omega))),trivial⟩ ⟨ho rfl,ho rfl,ho rfl,ho rfl,trivial⟩ rfl⟩
              · skip
                have h':=hI.go2 hf0 ka kb (of_decide_eq_false hc4);have hT:=h'.db.tb (X:=X) (by omega);exact cReg<|mW rfl<|mC0 (aHalf (K:=K) (c:=d) (L:=X) (lo:=v1) (M:=X) (hi:=v2) (X:=X) hI.ob hT.1 hT.2 (by omega) (by omega) (by omega)) rfl rfl rfl<|mS hTT 3 (.box 46 ([.row 2 (lg d) (zel K d)] ++tn X ((hlf d v1 v2).1) ++tn X ((hlf d v1 v2).2))) rfl<|mNil<|bN<|tN<|cReg<|mv2 rfl rfl<|mNil<|⟨((f-1),u1,u2,(hlf d v1 v2).1,(hlf d v1 v2).2),h',by show f-1 < f;omega,wk rfl ⟨hs rfl,hs rfl,hs rfl,hs rfl,hs rfl,hs rfl,hs' rfl (le_int ((inc64 (by have:=h'.fl;omega)).trans (by have:=hI.fl;omega))),trivial⟩ ⟨ho rfl,ho rfl,ho rfl,ho rfl,trivial⟩ rfl⟩
            · skip
              have kb:bel v1 v2 u1 u2:=⟨kb1,fun h=>kb4 h.2.2⟩;exact cReg<|mv4 rfl rfl rfl rfl<|mC0 (aCmpN (K:=X) (L:=X) (p:=v2) (q:=u1) (by omega) (by omega)) rfl rfl rfl<|mV hTT (.d (.one (.v (.bool true)))) (evb (decide_eq_true (cmpQ_le.2 kb1)))<|mv2 rfl rfl<|mC0 (aPoint (K:=K) (c:=c) (L:=X) (lo:=u1) (M:=X) (hi:=u2) (by omega) (by omega)) rfl rfl rfl<|mV hTT (.d (.one (.v (.bool true)))) (evb (decide_eq_true kb2))<|mW rfl<|mC0 (aPoint (K:=K) (c:=d) (L:=X) (lo:=v1) (M:=X) (hi:=v2) (by omega) (by omega)) rfl rfl rfl<|mW rfl<|mV hTT (.d (.one (.v (.bool true)))) (evb (decide_eq_true kb3))<|mv4 rfl rfl rfl rfl<|mC0 (aCmpN (K:=X) (L:=X) (p:=v2) (q:=u1) (by omega) (by omega)) rfl rfl rfl<|mV hTT (.d (.one (.v (.bool false)))) (evb (beq_eq_false_iff_ne.2 (fun h=>kb4 (cmpQ_zero.1 h))))<|mW rfl<|mV hTT (.d (.one (.v (.bool true)))) (evb rfl)<|mv2 rfl rfl<|mT<|cT rfl<|cSeq<|cDrawS hTT 5 (by kernel_rfl) (by kernel_rfl)<|.cons (OpS.V (.d (.agg ([.row 2 (lg c) (zel K c)] ++tn X u1 ++tn X u2))) rfl) (by kernel_rfl)<|.cons (OpS.V (.d (.agg ([.row 2 (lg d) (zel K d)] ++tn X v1 ++tn X v2))) rfl) (by kernel_rfl)<|.cons (OpS.S 4 (.box 46 ([.row 2 (lg c) (zel K c)] ++tn X u1 ++tn X u2)) rfl rfl) (by kernel_rfl)<|.cons (OpS.S 5 (.box 46 ([.row 2 (lg d) (zel K d)] ++tn X v1 ++tn X v2)) rfl rfl) (by kernel_rfl)<|.cons (OpS.V _ rfl) (by kernel_rfl)<|.nil<|mT<|cRet<|bR<|tR<|bR<|tR<|tR<|bR<|tR<|rQ rfl (by rw [hI.gt hf0 ka kb];exact AV.le.rfl)
          · skip
            have kb:bel v1 v2 u1 u2:=⟨kb1,fun h=>kb3 h.1⟩;exact cReg<|mv4 rfl rfl rfl rfl<|mC0 (aCmpN (K:=X) (L:=X) (p:=v2) (q:=u1) (by omega) (by omega)) rfl rfl rfl<|mV hTT (.d (.one (.v (.bool true)))) (evb (decide_eq_true (cmpQ_le.2 kb1)))<|mv2 rfl rfl<|mC0 (aPoint (K:=K) (c:=c) (L:=X) (lo:=u1) (M:=X) (hi:=u2) (by omega) (by omega)) rfl rfl rfl<|mV hTT (.d (.one (.v (.bool true)))) (evb (decide_eq_true kb2))<|mW rfl<|mC0 (aPoint (K:=K) (c:=d) (L:=X) (lo:=v1) (M:=X) (hi:=v2) (by omega) (by omega)) rfl rfl rfl<|mW rfl<|mV hTT (.d (.one (.v (.bool false)))) (evb (decide_eq_false kb3))<|mGt rfl rfl<|mGt rfl rfl<|mGt rfl rfl<|mGt rfl rfl<|mGt rfl rfl<|mGt rfl rfl<|mW rfl<|mV hTT (.d (.one (.v (.bool true)))) (evb rfl)<|mv2 rfl rfl<|mT<|cT rfl<|cSeq<|cDrawS hTT 5 (by kernel_rfl) (by kernel_rfl)<|.cons (OpS.V (.d (.agg ([.row 2 (lg c) (zel K c)] ++tn X u1 ++tn X u2))) rfl) (by kernel_rfl)<|.cons (OpS.V (.d (.agg ([.row 2 (lg d) (zel K d)] ++tn X v1 ++tn X v2))) rfl) (by kernel_rfl)<|.cons (OpS.S 4 (.box 46 ([.row 2 (lg c) (zel K c)] ++tn X u1 ++tn X u2)) rfl rfl) (by kernel_rfl)<|.cons (OpS.S 5 (.box 46 ([.row 2 (lg d) (zel K d)] ++tn X v1 ++tn X v2)) rfl rfl) (by kernel_rfl)<|.cons (OpS.V _ rfl) (by kernel_rfl)<|.nil<|mT<|cRet<|bR<|tR<|bR<|tR<|tR<|bR<|tR<|rQ rfl (by rw [hI.gt hf0 ka kb];exact AV.le.rfl)
        · skip
          have kb:bel v1 v2 u1 u2:=⟨kb1,fun h=>kb2 h.2.1⟩;exact cReg<|mv4 rfl rfl rfl rfl<|mC0 (aCmpN (K:=X) (L:=X) (p:=v2) (q:=u1) (by omega) (by omega)) rfl rfl rfl<|mV hTT (.d (.one (.v (.bool true)))) (evb (decide_eq_true (cmpQ_le.2 kb1)))<|mv2 rfl rfl<|mC0 (aPoint (K:=K) (c:=c) (L:=X) (lo:=u1) (M:=X) (hi:=u2) (by omega) (by omega)) rfl rfl rfl<|mV hTT (.d (.one (.v (.bool false)))) (evb (decide_eq_false kb2))<|mGt rfl rfl<|mGt rfl rfl<|mv2 rfl rfl<|mGt rfl rfl<|mGt rfl rfl<|mGt rfl rfl<|mGt rfl rfl<|mGt rfl rfl<|mGt rfl rfl<|mW rfl<|mV hTT (.d (.one (.v (.bool true)))) (evb rfl)<|mv2 rfl rfl<|mT<|cT rfl<|cSeq<|cDrawS hTT 5 (by kernel_rfl) (by kernel_rfl)<|.cons (OpS.V (.d (.agg ([.row 2 (lg c) (zel K c)] ++tn X u1 ++tn X u2))) rfl) (by kernel_rfl)<|.cons (OpS.V (.d (.agg ([.row 2 (lg d) (zel K d)] ++tn X v1 ++tn X v2))) rfl) (by kernel_rfl)<|.cons (OpS.S 4 (.box 46 ([.row 2 (lg c) (zel K c)] ++tn X u1 ++tn X u2)) rfl rfl) (by kernel_rfl)<|.cons (OpS.S 5 (.box 46 ([.row 2 (lg d) (zel K d)] ++tn X v1 ++tn X v2)) rfl rfl) (by kernel_rfl)<|.cons (OpS.V _ rfl) (by kernel_rfl)<|.nil<|mT<|cRet<|bR<|tR<|bR<|tR<|tR<|bR<|tR<|rQ rfl (by rw [hI.gt hf0 ka kb];exact AV.le.rfl)
      · skip
        have kb:¬ bel v1 v2 u1 u2:=fun h=>kb1 h.1
        refine cReg<|mv4 rfl rfl rfl rfl<|mC0 (aCmpN (K:=X) (L:=X) (p:=v2) (q:=u1) (by omega) (by omega)) rfl rfl rfl<|mV hTT (.d (.one (.v (.bool false)))) (evb (decide_eq_false (fun h=>kb1 (cmpQ_le.1 h))))<|mW rfl<|mGt rfl rfl<|mGt rfl rfl<|mGt rfl rfl<|mU rfl rfl<|mU rfl rfl<|mGt rfl rfl<|mGt rfl rfl<|mU rfl rfl<|mU rfl rfl<|mU rfl rfl<|mU rfl rfl<|mU rfl rfl<|mU rfl rfl<|mGt rfl rfl<|mGt rfl rfl<|mv2 rfl rfl<|mT<|cF rfl<|cSkip<|bN<|tN<|cSeq<|cDrawK hTT 12 (by kernel_rfl) (by kernel_rfl) (by kernel_rfl)<|.cons (OpS.V (.ptr 2 5) rfl)<|.cons (OpS.V (.d (.agg (tn X u2))) rfl)<|.cons (OpS.V (.ptr 2 1) rfl)<|.cons (OpS.V (.d (.agg (tn X u1))) rfl)<|.cons (OpS.C0 (aSubN (K:=X) (L:=X) (p:=u2) (q:=u1) (by omega) (by omega)) rfl rfl rfl)<|.cons (OpS.V (.ptr 3 5) rfl)<|.cons (OpS.V (.d (.agg (tn X v2))) rfl)<|.cons (OpS.V (.ptr 3 1) rfl)<|.cons (OpS.V (.d (.agg (tn X v1))) rfl)<|.cons (OpS.C0 (aSubN (K:=X) (L:=X) (p:=v2) (q:=v1) (by omega) (by omega)) rfl rfl rfl)<|.cons (OpS.C0 (aCmpN (K:=(max X 2+1+(max X 2+1)+2)) (L:=(max X 2+1+(max X 2+1)+2)) (p:=(u2-u1)) (q:=(v2-v1)) (by omega) (by omega)) rfl rfl rfl)<|.cons (OpS.V (.d (.one (.v (.bool (decide (v2-v1≤u2-u1)))))) (evb (decide_eq_decide.2 cmpQ_ge)))<|.nil<|mT<|cCond rfl (fun hc5=>?_) (fun hc5=>?_)
        · skip
          have h':=hI.go1 hf0 ka kb (of_decide_eq_true hc5);have hT:=h'.da.tb (X:=X) (by omega);exact cReg<|mW rfl<|mC0 (aHalf (K:=K) (c:=c) (L:=X) (lo:=u1) (M:=X) (hi:=u2) (X:=X) hI.oa hT.1 hT.2 (by omega) (by omega) (by omega)) rfl rfl rfl<|mS hTT 2 (.box 46 ([.row 2 (lg c) (zel K c)] ++tn X ((hlf c u1 u2).1) ++tn X ((hlf c u1 u2).2))) rfl<|mNil<|bN<|tN<|cReg<|mv2 rfl rfl<|mNil<|⟨((f-1),(hlf c u1 u2).1,(hlf c u1 u2).2,v1,v2),h',by show f-1 < f;omega,wk rfl ⟨hs rfl,hs rfl,hs rfl,hs rfl,hs rfl,hs rfl,hs' rfl (le_int ((inc64 (by have:=h'.fl;omega)).trans (by have:=hI.fl;omega))),trivial⟩ ⟨ho rfl,ho rfl,ho rfl,ho rfl,trivial⟩ rfl⟩
        · skip
          have h':=hI.go2 hf0 ka kb (of_decide_eq_false hc5);have hT:=h'.db.tb (X:=X) (by omega);exact cReg<|mW rfl<|mC0 (aHalf (K:=K) (c:=d) (L:=X) (lo:=v1) (M:=X) (hi:=v2) (X:=X) hI.ob hT.1 hT.2 (by omega) (by omega) (by omega)) rfl rfl rfl<|mS hTT 3 (.box 46 ([.row 2 (lg d) (zel K d)] ++tn X ((hlf d v1 v2).1) ++tn X ((hlf d v1 v2).2))) rfl<|mNil<|bN<|tN<|cReg<|mv2 rfl rfl<|mNil<|⟨((f-1),u1,u2,(hlf d v1 v2).1,(hlf d v1 v2).2),h',by show f-1 < f;omega,wk rfl ⟨hs rfl,hs rfl,hs rfl,hs rfl,hs rfl,hs rfl,hs' rfl (le_int ((inc64 (by have:=h'.fl;omega)).trans (by have:=hI.fl;omega))),trivial⟩ ⟨ho rfl,ho rfl,ho rfl,ho rfl,trivial⟩ rfl⟩
  · skip
    exact cExit<|tE<|tE<|bE<|tN<|cSeq<|cDrawS hTT 5 (by kernel_rfl) (by kernel_rfl)<|.cons (OpS.V (.d (.agg ([.row 2 (lg c) (zel K c)] ++tn X u1 ++tn X u2))) rfl) (by kernel_rfl)<|.cons (OpS.V (.d (.agg ([.row 2 (lg d) (zel K d)] ++tn X v1 ++tn X v2))) rfl) (by kernel_rfl)<|.cons (OpS.S 4 (.box 46 ([.row 2 (lg c) (zel K c)] ++tn X u1 ++tn X u2)) rfl rfl) (by kernel_rfl)<|.cons (OpS.S 5 (.box 46 ([.row 2 (lg d) (zel K d)] ++tn X v1 ++tn X v2)) rfl rfl) (by kernel_rfl)<|.cons (OpS.V _ rfl) (by kernel_rfl)<|.nil<|mT<|cRet<|rQ rfl (by rw [hI.end_ (by have h0:=of_decide_eq_false hc1;have:=hI.fl;omega)];exact AV.le.rfl)
theorem aNormN{K:Nat}{p:Rat}(hK:K≤1000000):ACall Tryz.prog 149 [.agg (tn K p)] (.d (.agg (tn K p))):=by
  refine ACall.fact10 (enters Tryz.func149 rfl rfl) (p:=Tb K p) (fun B w vs h=>match vs,h with | [_],⟨⟨cs,_,hl⟩,_⟩=>tn_bdT hl) (fun hb=>?_);have h:=aTNorm (ist_tn K p) (Nat.le_refl _) (by omega);rw [mkR_self] at h;exact ACall.le (dl DV.same dl0) (le_agg (tn_tight hb)) h
theorem aMax2{K:Nat}{x1 x2:Rat}(hK:K≤1000000):ACall Tryz.prog 87 [.agg (tn K x1),.one (.row 4 1 (fun i' j'=>((tn K x2)[i'*4+j']?).getD (.v undef)))] (.d (.agg (tn K (if x1 < x2 then x2 else x1)))):=by
  refine acallN hTT 24 [.cell 4 44] Tryz.func87 rfl rfl rfl rfl rfl<|cR<|mN hTT (.box 44 (tn K x1)) rfl rfl rfl<|mN hTT (.box 44 ([.v (.bool false),.v (.slice none 0 0),.v (.bool false),.v (.slice none 0 0)])) rfl rfl rfl<|mT<|cR<|mW rfl<|mC0 (aNormN (K:=K) (p:=x1) (by omega)) rfl rfl rfl<|mN hTT (.box 44 ([.v (.bool false),.v (.slice none 0 0),.v (.bool false),.v (.slice none 0 0)])) rfl rfl rfl<|mS hTT 5 (.box 44 (tn K x1)) rfl<|mT<|cSeq<|cR<|mv3 rfl rfl rfl<|mT<|cBlock<|cLoop (ι:=Nat×Rat) (fun (p:Nat×Rat)=>match p with | (i,m)=>⟨24,[(4,.ptr 4 0),(5,.ptr 5 0),(10,.d (.one (.row 4 1 (fun i' j'=>((tn K x2)[i'*4+j']?).getD (.v undef))))),(11,.d (.one (.v (.int .i64 1)))),(12,.d (.one (.v (.int .i64 ((i:Nat):Int)))))],[(4,.box 44 ([.v (.bool false),.v (.slice none 0 0),.v (.bool false),.v (.slice none 0 0)])),(5,.box 44 (tn K m))]⟩) (fun (p:Nat×Rat)=>match p with | (i,m)=>i≤1∧(i=0→m=x1)∧(i=1→m=(if x1 < x2 then x2 else x1))) (fun (p:Nat×Rat)=>match p with | (i,m)=>1-i) (0,x1) (⟨Nat.zero_le _,fun _=>rfl,fun h=>absurd h (by omega)⟩) (wkr rfl rfl) ?_;rintro ⟨i,m⟩ hI;obtain ⟨hi,h0m,h1m⟩:i≤1∧(i=0→m=x1)∧(i=1→m=(if x1 < x2 then x2 else x1)):=hI;show AW _ _ _ ⟨_,_,_⟩
  refine cR<|mW rfl<|mT<|cSeq<|cCond rfl (fun hc1=>?_) (fun hc1=>?_)
  · skip
    refine cSkip ?_;refine tN ?_;refine cSeq ?_;refine cBlock ?_;refine cSeq ?_;obtain rfl:i=0:=by have h0:=of_decide_eq_true hc1;omega
    have hmx:=h0m rfl;subst hmx;refine cReg<|mv2 rfl rfl<|mN hTT (.box 44 ([.v (.bool false),.v (.slice none 0 0),.v (.bool false),.v (.slice none 0 0)])) rfl rfl rfl<|mS hTT 7 (.box 44 (tn K x2)) rfl<|mT<|cR<|mv2 rfl rfl<|mC0 (aCmpN (K:=K) (L:=K) (p:=x2) (q:=m) (by omega) (by omega)) rfl rfl rfl<|mW rfl<|mT<|cCond rfl (fun hc2=>?_) (fun hc2=>?_)
    · skip
      exact cReg<|mW rfl<|mC0 (aNormN (K:=K) (p:=x2) (by omega)) rfl rfl rfl<|mS hTT 5 (.box 44 (tn K x2)) rfl<|mNil<|bN<|tN<|cReg<|mv2 rfl rfl<|mNil<|⟨((0+1),x2),⟨by omega,fun h=>absurd h (by omega),fun _=>by rw [if_pos (by have h0:=of_decide_eq_true hc2;apply Rat.not_le.1;intro h2;have:=cmpQ_le.2 h2;omega)]⟩,by show 1-(0+1) < 1-0;omega,wk rfl ⟨hs rfl,hs rfl,hs rfl,hs rfl,hs' rfl (le_int rfl),trivial⟩ ⟨ho rfl,ho rfl,trivial⟩ rfl⟩
    · skip
      exact cSkip<|bN<|tN<|cReg<|mv2 rfl rfl<|mNil<|⟨((0+1),m),⟨by omega,fun h=>absurd h (by omega),fun _=>by rw [if_neg (by have h0:=of_decide_eq_false hc2;intro h2;have:=cmpQ_gt h2;omega)]⟩,by show 1-(0+1) < 1-0;omega,wk rfl ⟨hs rfl,hs rfl,hs rfl,hs rfl,hs' rfl (le_int rfl),trivial⟩ ⟨ho rfl,ho rfl,trivial⟩ rfl⟩
  · skip
    exact cExit<|tE<|tE<|bE<|tN<|cR<|mW rfl<|mS hTT 4 (.box 44 (tn K m)) rfl<|mT<|cRet<|rQ rfl (by have hm:=h1m (by have h0:=of_decide_eq_false hc1;omega);rw [hm];exact AV.le.rfl)
theorem cmp_no{c d:Nat→Int}{lo hi p q a b:Rat}(oa:OkA c lo hi)(ob:OkA d p q)(h1:¬ hi≤lo)(h2:¬ q≤p)(ha:a=if lo < p then p else lo)(hb:b=if q < hi then q else hi)(hn:¬ a < b):cmpC (cutA c lo hi) (cutA d p q)≠0:=fun h0=>by
  have e:=cmpC_zero h0;have cl:cutA c lo hi lo:=by rw [cutA_I (by grind)];exact Or.inl (by grind)
  have cp:cutA d p q p:=by rw [cutA_I (by grind)];exact Or.inl (by grind)
  have ca:cutA c lo hi a:=by rw [ha];split;exact (e _).2 cp;exact cl
  have cb:¬ cutA c lo hi b:=by rw [hb];split;exact fun k=>ob.above (by grind) ((e _).1 k);exact oa.above (by grind)
  exact hn (oa.cut.nb ca cb)
theorem dlt{p q:Rat}:(cmpQ p q < 0)↔p < q:=⟨fun h=>Rat.not_le.1 fun h2=>by have:=cmpQ_ge.2 h2;omega,fun h=>by have:=cmpQ_lt h;omega⟩
theorem aACmp{K L X KC N:Nat}{c d:Nat→Int}{lo hi x1 x2:Rat}(oa:OkV c lo hi)(ob:OkV d x1 x2)(hN:N≤10)(hcN:lg c≤N)(hdN:lg d≤N)(hKC:(21*K+3+1)*(2*3^N)≤KC)(hC:KC≤90000000)(hX:11*L+320*K+300≤X)(hX1:X≤100000):ACall Tryz.prog 42 [.agg ([.row 2 (lg c) (zel K c)] ++tn L lo ++tn L hi),.agg ([.row 2 (lg d) (zel K d)] ++tn L x1 ++tn L x2)] (.d (.one (.v (.int .i64 (cmpC (cutA c lo hi) (cutA d x1 x2)))))):=by
  have hlc:=lg_le c;have hld:=lg_le d;refine ACall.fact10 (enters Tryz.func42 rfl rfl) (p:=Lb K c∧Lb K d) (fun B w vs h=>match vs,h with | [_,_],⟨⟨cs,_,hl⟩,⟨ds,_,hk⟩,_⟩=>⟨(al_bd oa.ok.z hl).1,(al_bd ob.ok.z hk).1⟩) (fun hb=>?_);have hc2:=oa.l2;have hd2:=ob.l2;refine acallN hTT 72 [.tmp 4] Tryz.func42 rfl rfl rfl rfl rfl<|cR<|mN hTT (.box 46 ([.row 2 (lg c) (zel K c)] ++tn L lo ++tn L hi)) rfl rfl rfl<|mN hTT (.box 46 ([.row 2 (lg d) (zel K d)] ++tn L x1 ++tn L x2)) rfl rfl rfl<|mW rfl<|mT<|cSeq<|cDrawK hTT 4 (by kernel_rfl) (by kernel_rfl) (by kernel_rfl)<|.cons (OpS.V (.d (.agg ([.row 2 (lg c) (zel K c)] ++tn L lo ++tn L hi))) rfl)<|.cons (OpS.C0 (aANorm (K:=K) (c:=c) (L:=L) (lo:=lo) (M:=L) (hi:=hi) oa.ok.z (by omega) (by omega) (by omega)) rfl rfl rfl)<|.cons (OpS.V (.d (.agg ([.row 2 (lg d) (zel K d)] ++tn L x1 ++tn L x2))) rfl)<|.cons (OpS.C0 (aANorm (K:=K) (c:=d) (L:=L) (lo:=x1) (M:=L) (hi:=x2) ob.ok.z (by omega) (by omega) (by omega)) rfl rfl rfl)<|.nil<|mS hTT 2 (.box 46 ([.row 2 (lg c) (zel K c)] ++tn L lo ++tn L hi)) rfl<|mS hTT 3 (.box 46 ([.row 2 (lg d) (zel K d)] ++tn L x1 ++tn L x2)) rfl<|mT<|cSeq<|cBlock<|cR<|mW rfl<|mC0 (aPoint (K:=K) (c:=c) (L:=L) (lo:=lo) (M:=L) (hi:=hi) (by omega) (by omega)) rfl rfl rfl<|mW rfl<|mT<|cCond rfl (fun hc1=>?_) (fun hc1=>?_)
  · skip
    refine cSeq ?_;have hbd:=cmpC_bd (cutA d x1 x2) (cutP lo);exact cReg<|mv3 rfl rfl rfl<|mC0 (aCmpRat (K:=K) (c:=d) (L:=L) (lo:=x1) (M:=L) (hi:=x2) (N:=L) (t:=lo) ob.ok (by omega) (by omega) (by omega) (by omega)) rfl rfl rfl<|mV hTT (.d (.one (.v (.int .i64 (-(cmpC (cutA d x1 x2) (cutP lo))))))) (evi ((wr64 (by omega) (by omega)).trans (by omega)))<|mW rfl<|mT<|cRet<|bR<|tR<|rQ rfl (le_int (by rw [cutA_P (c:=c) (of_decide_eq_true hc1)];exact (cmpC_neg ob.ok.cut (cutP_ok lo)).symm))
  · skip
    refine cR<|mW rfl<|mC0 (aPoint (K:=K) (c:=d) (L:=L) (lo:=x1) (M:=L) (hi:=x2) (by omega) (by omega)) rfl rfl rfl<|mW rfl<|mT<|cCond rfl (fun hc2=>?_) (fun hc2=>?_)
    · skip
      exact cR<|mv3 rfl rfl rfl<|mC0 (aCmpRat (K:=K) (c:=c) (L:=L) (lo:=lo) (M:=L) (hi:=hi) (N:=L) (t:=x1) oa.ok (by omega) (by omega) (by omega) (by omega)) rfl rfl rfl<|mW rfl<|mT<|cRet<|bR<|tR<|rQ rfl (le_int (by rw [cutA_P (c:=d) (of_decide_eq_true hc2)]))
    · skip
      refine cSkip<|bN<|tN<|cSeq ?_;have hP:=of_decide_eq_false hc1;have hQ:=of_decide_eq_false hc2;refine cDrawS hTT 12 (by kernel_rfl) (by kernel_rfl)<|.cons (OpS.V (.ptr 2 1) rfl) (by kernel_rfl)<|.cons (OpS.V (.d (.agg (tn L lo))) rfl) (by kernel_rfl)<|.cons (OpS.V (.ptr 3 1) rfl) (by kernel_rfl)<|.cons (OpS.V (.d (.agg (tn L x1))) rfl) (by kernel_rfl)<|.cons (OpS.B _ rfl) (by kernel_rfl)<|.cons (OpS.C0 (aMax2 (K:=L) (x1:=lo) (x2:=x1) (by omega)) rfl rfl rfl) (by kernel_rfl)<|.cons (OpS.V (.ptr 2 5) rfl) (by kernel_rfl)<|.cons (OpS.V (.d (.agg (tn L hi))) rfl) (by kernel_rfl)<|.cons (OpS.N (.box 44 ([.v (.bool false),.v (.slice none 0 0),.v (.bool false),.v (.slice none 0 0)])) rfl 5 rfl rfl) (by kernel_rfl)<|.cons (OpS.N (.box 44 ([.v (.bool false),.v (.slice none 0 0),.v (.bool false),.v (.slice none 0 0)])) rfl 6 rfl rfl) (by kernel_rfl)<|.cons (OpS.S 5 (.box 44 (tn L (if lo < x1 then x1 else lo))) rfl rfl) (by kernel_rfl)<|.cons (OpS.S 6 (.box 44 (tn L hi)) rfl rfl) (by kernel_rfl)<|.nil<|mT<|cSeq<|cR<|mv3 rfl rfl rfl<|mC0 (aCmpN (K:=L) (L:=L) (p:=x2) (q:=hi) (by omega) (by omega)) rfl rfl rfl<|mV hTT (.d (.one (.v (.bool (decide (x2 < hi)))))) (evb (decide_eq_decide.2 dlt))<|mT<|cCond rfl (fun hc3=>?_) (fun hc3=>?_)
      · skip
        refine cReg<|mv2 rfl rfl<|mS hTT 6 (.box 44 (tn L x2)) rfl<|mT<|cSeq<|cSeq ?_;have hbb:x2=if x2 < hi then x2 else hi:=(if_pos (of_decide_eq_true hc3)).symm
        refine cReg<|mv2 rfl rfl<|mC0 (aCmpN (K:=L) (L:=L) (p:=(if lo < x1 then x1 else lo)) (q:=x2) (by omega) (by omega)) rfl rfl rfl<|mV hTT (.d (.one (.v (.bool (decide ((if lo < x1 then x1 else lo) < x2)))))) (evb (decide_eq_decide.2 dlt))<|mT<|cCond rfl (fun hc4=>?_) (fun hc4=>?_)
        · skip
          refine cR<|mv4 rfl rfl rfl rfl<|mB hTT (.d (.one (.row 1 2 (fun i' j'=>(([.row 2 (lg c) (zel K c),.row 2 (lg d) (zel K d)])[i'*1+j']?).getD (.v undef))))) rfl<|mC0 (aGcd2 (K:=K) (KC:=KC) (N:=N) oa.ok.z ob.ok.z (by omega) (by omega) hN hcN hdN hb.1 hb.2 hKC hC) rfl rfl rfl<|mW rfl<|mT<|cSeq<|cEx (Qx:=(GcdP c d (21*K+3))) (L:=(fun g=>prow (21*K+3) (lg g) g)) 7 rfl (fun g hg=>?_);have hlg:=lg_le g;have hg0:=(hg.le oa.ok.z (by have:=oa.l2;omega)).1
          by_cases hl2:2≤lg g
          · skip
            refine cReg<|mW rfl<|mC0 (aDeg (K:=(21*K+3)) (n:=(lg g)) (c:=g) (by omega)) rfl rfl rfl<|mV hTT (.d (.one (.v (.bool true)))) (evb (decide_eq_true (by omega)))<|mv4 rfl rfl rfl rfl<|mC0 (aHas (K:=(21*K+3)) (c:=g) (L:=L) (lo:=(if lo < x1 then x1 else lo)) (M:=L) (hi:=x2) hg.z (by omega) (by omega) (by omega)) rfl rfl rfl<|mW rfl<|mT<|cCond rfl (fun hc5=>?_) (fun hc5=>?_)
            · skip
              exact cR<|mW rfl<|mT<|cRet<|tR<|rQ rfl (le_int ((cmp_has oa.ok ob.ok hP hQ hg hg0 rfl hbb).1 (of_decide_eq_true hc4) hl2 hc5).symm)
            · skip
              exact cSkip<|tN<|cR<|mv2 rfl rfl<|mC0 (aApart (K:=K) (L:=L) (X:=X) (c:=c) (d:=d) (lo:=lo) (hi:=hi) (x1:=x1) (x2:=x2) oa.ok ob.ok hX hX1) rfl rfl rfl<|mv4 rfl rfl rfl rfl<|mN hTT (.box 46 ([.v (.slice none 0 0),.v (.bool false),.v (.slice none 0 0),.v (.bool false),.v (.slice none 0 0),.v (.bool false),.v (.slice none 0 0),.v (.bool false),.v (.slice none 0 0)])) rfl rfl rfl<|mN hTT (.box 46 ([.v (.slice none 0 0),.v (.bool false),.v (.slice none 0 0),.v (.bool false),.v (.slice none 0 0),.v (.bool false),.v (.slice none 0 0),.v (.bool false),.v (.slice none 0 0)])) rfl rfl rfl<|mS hTT 8 (.box 46 ([.row 2 (lg c) (zel K c)] ++tn X ((apF c d (stp c lo hi d x1 x2) lo hi x1 x2).1) ++tn X ((apF c d (stp c lo hi d x1 x2) lo hi x1 x2).2.1))) rfl<|mS hTT 9 (.box 46 ([.row 2 (lg d) (zel K d)] ++tn X ((apF c d (stp c lo hi d x1 x2) lo hi x1 x2).2.2.1) ++tn X ((apF c d (stp c lo hi d x1 x2) lo hi x1 x2).2.2.2.1))) rfl<|mW rfl<|mT<|cR<|mv2 rfl rfl<|mT<|cRet<|rQ rfl (le_int (apF_stp oa ob ((cmp_has oa.ok ob.ok hP hQ hg hg0 rfl hbb).2 (fun _ _=>hc5))).sg)
          · skip
            exact cReg<|mW rfl<|mC0 (aDeg (K:=(21*K+3)) (n:=(lg g)) (c:=g) (by omega)) rfl rfl rfl<|mV hTT (.d (.one (.v (.bool false)))) (evb (decide_eq_false (by omega)))<|mW rfl<|mG rfl rfl<|mG rfl rfl<|mG rfl rfl<|mG rfl rfl<|mW rfl<|mT<|cFs rfl<|cR<|mv2 rfl rfl<|mC0 (aApart (K:=K) (L:=L) (X:=X) (c:=c) (d:=d) (lo:=lo) (hi:=hi) (x1:=x1) (x2:=x2) oa.ok ob.ok hX hX1) rfl rfl rfl<|mv4 rfl rfl rfl rfl<|mN hTT (.box 46 ([.v (.slice none 0 0),.v (.bool false),.v (.slice none 0 0),.v (.bool false),.v (.slice none 0 0),.v (.bool false),.v (.slice none 0 0),.v (.bool false),.v (.slice none 0 0)])) rfl rfl rfl<|mN hTT (.box 46 ([.v (.slice none 0 0),.v (.bool false),.v (.slice none 0 0),.v (.bool false),.v (.slice none 0 0),.v (.bool false),.v (.slice none 0 0),.v (.bool false),.v (.slice none 0 0)])) rfl rfl rfl<|mS hTT 8 (.box 46 ([.row 2 (lg c) (zel K c)] ++tn X ((apF c d (stp c lo hi d x1 x2) lo hi x1 x2).1) ++tn X ((apF c d (stp c lo hi d x1 x2) lo hi x1 x2).2.1))) rfl<|mS hTT 9 (.box 46 ([.row 2 (lg d) (zel K d)] ++tn X ((apF c d (stp c lo hi d x1 x2) lo hi x1 x2).2.2.1) ++tn X ((apF c d (stp c lo hi d x1 x2) lo hi x1 x2).2.2.2.1))) rfl<|mW rfl<|mT<|cR<|mv2 rfl rfl<|mT<|cRet<|rQ rfl (le_int (apF_stp oa ob ((cmp_has oa.ok ob.ok hP hQ hg hg0 rfl hbb).2 (fun _ h=>absurd h hl2))).sg)
        · skip
          exact cSkip<|tN<|cR<|mv2 rfl rfl<|mC0 (aApart (K:=K) (L:=L) (X:=X) (c:=c) (d:=d) (lo:=lo) (hi:=hi) (x1:=x1) (x2:=x2) oa.ok ob.ok hX hX1) rfl rfl rfl<|mv4 rfl rfl rfl rfl<|mN hTT (.box 46 ([.v (.slice none 0 0),.v (.bool false),.v (.slice none 0 0),.v (.bool false),.v (.slice none 0 0),.v (.bool false),.v (.slice none 0 0),.v (.bool false),.v (.slice none 0 0)])) rfl rfl rfl<|mN hTT (.box 46 ([.v (.slice none 0 0),.v (.bool false),.v (.slice none 0 0),.v (.bool false),.v (.slice none 0 0),.v (.bool false),.v (.slice none 0 0),.v (.bool false),.v (.slice none 0 0)])) rfl rfl rfl<|mS hTT 8 (.box 46 ([.row 2 (lg c) (zel K c)] ++tn X ((apF c d (stp c lo hi d x1 x2) lo hi x1 x2).1) ++tn X ((apF c d (stp c lo hi d x1 x2) lo hi x1 x2).2.1))) rfl<|mS hTT 9 (.box 46 ([.row 2 (lg d) (zel K d)] ++tn X ((apF c d (stp c lo hi d x1 x2) lo hi x1 x2).2.2.1) ++tn X ((apF c d (stp c lo hi d x1 x2) lo hi x1 x2).2.2.2.1))) rfl<|mW rfl<|mT<|cR<|mv2 rfl rfl<|mT<|cRet<|rQ rfl (le_int (apF_stp oa ob (cmp_no oa.ok ob.ok hP hQ rfl hbb (of_decide_eq_false hc4))).sg)
      · skip
        refine cSkip<|tN<|cSeq<|cSeq ?_;have hbb:hi=if x2 < hi then x2 else hi:=(if_neg (of_decide_eq_false hc3)).symm
        refine cReg<|mv2 rfl rfl<|mC0 (aCmpN (K:=L) (L:=L) (p:=(if lo < x1 then x1 else lo)) (q:=hi) (by omega) (by omega)) rfl rfl rfl<|mV hTT (.d (.one (.v (.bool (decide ((if lo < x1 then x1 else lo) < hi)))))) (evb (decide_eq_decide.2 dlt))<|mT<|cCond rfl (fun hc6=>?_) (fun hc6=>?_)
        · skip
          refine cR<|mv4 rfl rfl rfl rfl<|mB hTT (.d (.one (.row 1 2 (fun i' j'=>(([.row 2 (lg c) (zel K c),.row 2 (lg d) (zel K d)])[i'*1+j']?).getD (.v undef))))) rfl<|mC0 (aGcd2 (K:=K) (KC:=KC) (N:=N) oa.ok.z ob.ok.z (by omega) (by omega) hN hcN hdN hb.1 hb.2 hKC hC) rfl rfl rfl<|mW rfl<|mT<|cSeq<|cEx (Qx:=(GcdP c d (21*K+3))) (L:=(fun g=>prow (21*K+3) (lg g) g)) 7 rfl (fun g hg=>?_);have hlg:=lg_le g;have hg0:=(hg.le oa.ok.z (by have:=oa.l2;omega)).1
          by_cases hl2:2≤lg g
          · skip
            refine cReg<|mW rfl<|mC0 (aDeg (K:=(21*K+3)) (n:=(lg g)) (c:=g) (by omega)) rfl rfl rfl<|mV hTT (.d (.one (.v (.bool true)))) (evb (decide_eq_true (by omega)))<|mv4 rfl rfl rfl rfl<|mC0 (aHas (K:=(21*K+3)) (c:=g) (L:=L) (lo:=(if lo < x1 then x1 else lo)) (M:=L) (hi:=hi) hg.z (by omega) (by omega) (by omega)) rfl rfl rfl<|mW rfl<|mT<|cCond rfl (fun hc7=>?_) (fun hc7=>?_)
            · skip
              exact cR<|mW rfl<|mT<|cRet<|tR<|rQ rfl (le_int ((cmp_has oa.ok ob.ok hP hQ hg hg0 rfl hbb).1 (of_decide_eq_true hc6) hl2 hc7).symm)
            · skip
              exact cSkip<|tN<|cR<|mv2 rfl rfl<|mC0 (aApart (K:=K) (L:=L) (X:=X) (c:=c) (d:=d) (lo:=lo) (hi:=hi) (x1:=x1) (x2:=x2) oa.ok ob.ok hX hX1) rfl rfl rfl<|mv4 rfl rfl rfl rfl<|mN hTT (.box 46 ([.v (.slice none 0 0),.v (.bool false),.v (.slice none 0 0),.v (.bool false),.v (.slice none 0 0),.v (.bool false),.v (.slice none 0 0),.v (.bool false),.v (.slice none 0 0)])) rfl rfl rfl<|mN hTT (.box 46 ([.v (.slice none 0 0),.v (.bool false),.v (.slice none 0 0),.v (.bool false),.v (.slice none 0 0),.v (.bool false),.v (.slice none 0 0),.v (.bool false),.v (.slice none 0 0)])) rfl rfl rfl<|mS hTT 8 (.box 46 ([.row 2 (lg c) (zel K c)] ++tn X ((apF c d (stp c lo hi d x1 x2) lo hi x1 x2).1) ++tn X ((apF c d (stp c lo hi d x1 x2) lo hi x1 x2).2.1))) rfl<|mS hTT 9 (.box 46 ([.row 2 (lg d) (zel K d)] ++tn X ((apF c d (stp c lo hi d x1 x2) lo hi x1 x2).2.2.1) ++tn X ((apF c d (stp c lo hi d x1 x2) lo hi x1 x2).2.2.2.1))) rfl<|mW rfl<|mT<|cR<|mv2 rfl rfl<|mT<|cRet<|rQ rfl (le_int (apF_stp oa ob ((cmp_has oa.ok ob.ok hP hQ hg hg0 rfl hbb).2 (fun _ _=>hc7))).sg)
          · skip
            exact cReg<|mW rfl<|mC0 (aDeg (K:=(21*K+3)) (n:=(lg g)) (c:=g) (by omega)) rfl rfl rfl<|mV hTT (.d (.one (.v (.bool false)))) (evb (decide_eq_false (by omega)))<|mW rfl<|mG rfl rfl<|mG rfl rfl<|mG rfl rfl<|mG rfl rfl<|mW rfl<|mT<|cFs rfl<|cR<|mv2 rfl rfl<|mC0 (aApart (K:=K) (L:=L) (X:=X) (c:=c) (d:=d) (lo:=lo) (hi:=hi) (x1:=x1) (x2:=x2) oa.ok ob.ok hX hX1) rfl rfl rfl<|mv4 rfl rfl rfl rfl<|mN hTT (.box 46 ([.v (.slice none 0 0),.v (.bool false),.v (.slice none 0 0),.v (.bool false),.v (.slice none 0 0),.v (.bool false),.v (.slice none 0 0),.v (.bool false),.v (.slice none 0 0)])) rfl rfl rfl<|mN hTT (.box 46 ([.v (.slice none 0 0),.v (.bool false),.v (.slice none 0 0),.v (.bool false),.v (.slice none 0 0),.v (.bool false),.v (.slice none 0 0),.v (.bool false),.v (.slice none 0 0)])) rfl rfl rfl<|mS hTT 8 (.box 46 ([.row 2 (lg c) (zel K c)] ++tn X ((apF c d (stp c lo hi d x1 x2) lo hi x1 x2).1) ++tn X ((apF c d (stp c lo hi d x1 x2) lo hi x1 x2).2.1))) rfl<|mS hTT 9 (.box 46 ([.row 2 (lg d) (zel K d)] ++tn X ((apF c d (stp c lo hi d x1 x2) lo hi x1 x2).2.2.1) ++tn X ((apF c d (stp c lo hi d x1 x2) lo hi x1 x2).2.2.2.1))) rfl<|mW rfl<|mT<|cR<|mv2 rfl rfl<|mT<|cRet<|rQ rfl (le_int (apF_stp oa ob ((cmp_has oa.ok ob.ok hP hQ hg hg0 rfl hbb).2 (fun _ h=>absurd h hl2))).sg)
        · skip
          exact cSkip<|tN<|cR<|mv2 rfl rfl<|mC0 (aApart (K:=K) (L:=L) (X:=X) (c:=c) (d:=d) (lo:=lo) (hi:=hi) (x1:=x1) (x2:=x2) oa.ok ob.ok hX hX1) rfl rfl rfl<|mv4 rfl rfl rfl rfl<|mN hTT (.box 46 ([.v (.slice none 0 0),.v (.bool false),.v (.slice none 0 0),.v (.bool false),.v (.slice none 0 0),.v (.bool false),.v (.slice none 0 0),.v (.bool false),.v (.slice none 0 0)])) rfl rfl rfl<|mN hTT (.box 46 ([.v (.slice none 0 0),.v (.bool false),.v (.slice none 0 0),.v (.bool false),.v (.slice none 0 0),.v (.bool false),.v (.slice none 0 0),.v (.bool false),.v (.slice none 0 0)])) rfl rfl rfl<|mS hTT 8 (.box 46 ([.row 2 (lg c) (zel K c)] ++tn X ((apF c d (stp c lo hi d x1 x2) lo hi x1 x2).1) ++tn X ((apF c d (stp c lo hi d x1 x2) lo hi x1 x2).2.1))) rfl<|mS hTT 9 (.box 46 ([.row 2 (lg d) (zel K d)] ++tn X ((apF c d (stp c lo hi d x1 x2) lo hi x1 x2).2.2.1) ++tn X ((apF c d (stp c lo hi d x1 x2) lo hi x1 x2).2.2.2.1))) rfl<|mW rfl<|mT<|cR<|mv2 rfl rfl<|mT<|cRet<|rQ rfl (le_int (apF_stp oa ob (cmp_no oa.ok ob.ok hP hQ rfl hbb (of_decide_eq_false hc6))).sg)
theorem sepS{c d:Nat→Int}(zc:z20 c)(zd:z20 d)(sc:Sqf (FF c) (FF (fder c)))(hc2:2≤lg c)(hd2:2≤lg d){h1 h2:Nat}(b1:∀ i,(c i).natAbs≤2^h1)(b2:∀ i,(d i).natAbs≤2^h2) 
    {C D:Cut} (hC:IsCut C) (hD:IsCut D) (vB:¬ VC (FF d) C) (vC:VC (FF c) C) (vD:VC (FF d) D) {q a b:Rat} (hq:(D q∧¬ C q)∨(C q∧¬ D q)) (ca:C a) (cb:¬ C b) (da:D a) (db:¬ D b) (hw:(b-a)*t2 (sepE (lg c) (lg d) h1 h2)≤1):False:=by
  have hlc:=lg_le c;have hld:=lg_le d;have hab:=hC.nb ca cb;have hw1:b-a≤1:=by
    have h:=Rat.mul_le_mul_of_nonneg_left (t2_one (sepE (lg c) (lg d) h1 h2)) (show 0≤b-a by grind);grind
  obtain ⟨hl,ehl⟩:∃ hl,hl=min h1 h2:=⟨_,rfl⟩
  have hin:In (t2 (hl+2)) a∧In (t2 (hl+2)) b:=by
    have key:a < 1+t2 hl∧-(1+t2 hl) < b:=by
      have hp:=t2_pos hl
      by_cases k:h1≤h2
      · have e:hl=h1:=by omega
        rw [e] at hp ⊢;exact vc_bd zc (by omega) (H:=t2 h1) (by grind) (fun i=>ab_t2 (H:=2^h1) (by have:=b1 i;omega)) vC ca cb
      · have e:hl=h2:=by omega
        rw [e] at hp ⊢;exact vc_bd zd (by omega) (H:=t2 h2) (by grind) (fun i=>ab_t2 (H:=2^h2) (by have:=b2 i;omega)) vD da db
    have h3:=t2_one hl;rw [t2_add];have e:t2 2=4:=rfl;rw [e];unfold In;constructor <;> constructor <;> grind
  by_cases vA:VC (FF c) D
  · obtain ⟨U,V,z,hz,hUV,hU,hV,hL⟩:=capA zc sc hc2 b1 (hl+2) (lg c / 2+1) (lg_two _ (by omega))
    have hx:=expA (n1:=lg c) (n2:=lg d) (h1:=h1) (h2:=h2) (hl:=hl) hc2 hlc hd2 (by omega) (by omega);have hs:=small_of hx (show 0≤b-a by grind) hw;rcases hq with ⟨q1,q2⟩ | ⟨q1,q2⟩
    · exact sepA hC hD sc.der sc.po' hz hUV hU hV hL (by have:=t2_pos (3*(lg c / 2+1)+(hl+2)*lg c+(lg c / 2+1+h1));grind) hin.1 hin.2 hs vC vA ca cb da db q1 q2
    · exact sepA hD hC sc.der sc.po' hz hUV hU hV hL (by have:=t2_pos (3*(lg c / 2+1)+(hl+2)*lg c+(lg c / 2+1+h1));grind) hin.1 hin.2 hs vA vC da db ca cb q1 q2
  · obtain ⟨γ,k1,k2,zγ,hγ0,pm,y1,y2,c1,c2,hγc,hγd,cop,g1,g2⟩:=ex_gcdI zc zd (by omega) (by omega)
    have nγC:¬ VC (FF γ) C:=fun h=>vB ((h.mul hC (FF_po y2)).congr fun x=>by rw [g2 x];grind)
    have nγD:¬ VC (FF γ) D:=fun h=>vA ((h.mul hD (FF_po y1)).congr fun x=>by rw [g1 x];grind)
    have v1:VC (FF k1) C:=by
      rcases VC.or hC (FF_po y1) (FF_po zγ) (vC.congr g1) with h | h
      · exact h
      · exact absurd h nγC
    have v2:VC (FF k2) D:=by
      rcases VC.or hD (FF_po y2) (FF_po zγ) (vD.congr g2) with h | h
      · exact h
      · exact absurd h nγD
    have ne1:∃ x,FF k1 x≠0:=by
      obtain ⟨x,hx⟩:=FF_nz zc (by omega);exact ⟨x,fun e=>hx (by rw [g1 x,e,Rat.zero_mul])⟩
    have l1:=vc_long y1 hC v1 ne1;have hdeg:lg k1-1+(lg γ-1)=lg c-1:=by
      have h5:=((FF_lc y1 (by omega)).mul (FF_lc zγ hγ0)).congr fun x=>(g1 x).symm
      exact (h5.uniq (FF_lc zc (by omega))).1
    obtain ⟨U,V,z,hz,hUV,hU,hV,hL⟩:=capC zc zd zγ y1 y2 hc2 hd2 hγ0 pm c2 hγc hγd (by omega) cop g1 g2 (hm:=max h1 h2) (h2:=h2) (fun i=>Nat.le_trans (b1 i) (Nat.pow_le_pow_right (by decide) (Nat.le_max_left _ _))) (fun i=>Nat.le_trans (b2 i) (Nat.pow_le_pow_right (by decide) (Nat.le_max_right _ _))) b2 (hl+2) ((lg c+lg d) / 2+1) (lg d / 2+1) (lg c+lg d) rfl (lg_two _ (by omega)) (lg_two _ (by omega));have hx:=expC (n1:=lg c) (n2:=lg d) (h1:=h1) (h2:=h2) (hl:=hl) hc2 hlc hd2 hld (by omega) (by omega) (by omega);have hs:=small_of hx (show 0≤b-a by grind) hw;exact sepC hz hUV hU hV hL (by have:=t2_pos (3*(lg d / 2+1)+(hl+2)*lg d+(lg d / 2+1+(h2+(1+(lg d / 2+1))*lg d)+(4+(lg d / 2+1))*lg d));grind) hin.1 hin.2 hs v1 v2 ca cb da db
theorem cutN_ok{r rg:Fn}{rl:List Fn}{lo hi:Rat}(hs:Stm r rg rl)(pr:Po r)(hlt:lo < hi)(hn:¬ RFree r lo hi):IsCut (cutI r lo hi):=by
  have mem:∀ q,lo≤q→q < hi→(cutI r lo hi q↔¬ RFree r q hi):=fun q h1 h2=>by
    constructor
    · rintro (k | ⟨_,k⟩)
      · have e:q=lo:=by grind
        rw [e];exact hn
      · exact k
    · intro k;exact Or.inr ⟨h2,k⟩
  refine ⟨fun q t ht hqt=>?_,fun q hq=>?_,⟨lo,Or.inl (by grind)⟩,⟨hi,cutI_hi hlt (by grind)⟩⟩
  · by_cases hq:q≤lo
    · exact Or.inl hq
    · have hth:t < hi:=by rcases ht with k | ⟨k,_⟩ <;> grind
      rw [mem q (by grind) (by grind)];rw [mem t (by grind) hth] at ht;rintro ⟨s,h1,h2⟩;exact ht ⟨s,h1,fun u a b=>h2 u (by grind) b⟩
  · by_cases hq1:q < lo
    · exact ⟨lo,hq1,Or.inl (by grind)⟩
    · have hqh:q < hi:=by rcases hq with k | ⟨k,_⟩ <;> grind
      rw [mem q (by grind) hqh] at hq;obtain ⟨h0,e,he,hne⟩:=aft_near hs pr q;obtain ⟨z,hz,hz1,hz2⟩:=ex_min he (show 0 < hi-q by grind);refine ⟨q+z / 2,by grind,?_⟩;rw [mem _ (by grind) (by grind)];intro hf;obtain ⟨M,hM⟩:=sturm hs (a:=q) (b:=q+z / 2) (by grind);have hM0:M=0:=hM.nil.2 fun t h1 h2=>hne t h1 (by grind)
      subst hM0;obtain ⟨M2,hM2⟩:=sturm hs (a:=q+z / 2) (b:=hi) (by grind);have c2:Ctd r (q+z / 2) hi M2:=⟨rg,rl,hs,hM2⟩;have:=(c2.free pr (by grind)).2 hf;subst this;have c3:=Ctd.cat pr (show q≤q+z / 2 by grind) (by grind) ⟨rg,rl,hs,hM⟩ c2;exact hq ((c3.free pr (by grind)).1 rfl)
theorem cutN_vc{r rg:Fn}{rl:List Fn}{lo hi:Rat}(hs:Stm r rg rl)(pr:Po r)(hlt:lo < hi)(hn:¬ RFree r lo hi):VC r (cutI r lo hi):=by
  intro e he q s hq hsn;have hC:=cutN_ok hs pr hlt hn;obtain ⟨q',r',h1,h2,h3,h4,hq',hr'⟩:=clamp (C:=cutI r lo hi) (lo:=lo) (hi:=hi) (Or.inl (by grind)) (cutI_hi hlt (by grind)) hq hsn;have hqr:=hC.nb hq' hr';have nq:¬ RFree r q' hi:=by
    rcases hq' with k | ⟨_,k⟩
    · have e:q'=lo:=by grind
      rw [e];exact hn
    · exact k
  obtain ⟨N,hN⟩:=sturm hs (a:=q') (b:=hi) (by grind);have cN:Ctd r q' hi N:=⟨rg,rl,hs,hN⟩;obtain ⟨K,M,k1,k2,ee⟩:=cN.split (m:=r') (by grind) h2;have hM0:M=0:=by
    by_cases hh:r' < hi
    · have:RFree r r' hi:=Classical.byContradiction fun k=>hr' (Or.inr ⟨hh,k⟩)
      exact (k2.free pr (by grind)).2 this
    · have e:r'=hi:=by grind
      rw [e] at k2;exact (k2.free pr (by grind)).2 (by
        obtain ⟨h0,_⟩:=aft_near hs pr hi;exact ⟨aft r rg hi,h0,fun t a b=>absurd b (by grind)⟩)
  have hK:K≠0:=fun hK=>nq ((cN.free pr (by grind)).1 (by omega))
  obtain ⟨x,x1,x2,x3⟩:=ex_near pr (by grind) k1 hK he;exact ⟨x,by grind,by grind,x3⟩
noncomputable def sgF(c:Nat→Int)(L:List (Nat→Int)):Nat→Rat→Rat→Rat×Rat
  | 0,lo,hi=>(lo,hi)
  | n+1,lo,hi=>if hi≤lo∨vr (sgL L lo)=vr (sgL L hi) then (lo,hi) else sgF c L n (hlf c lo hi).1 (hlf c lo hi).2
structure SgR(c:Nat→Int)(r:Fn)(lo hi:Rat)(p:Rat×Rat):Prop where
  nar:Nar c lo hi p.1 p.2
  fr:p.2≤p.1∨RFree r p.1 p.2
theorem sgF_ok{c p:Nat→Int}{M KC h1 h2:Nat}{L:List (Nat→Int)}(zp:z20 p)(hp0:lg p≠0)(hL:ChP p M KC L)(b1:∀ i,(c i).natAbs≤2^h1)(b2:∀ i,(p i).natAbs≤2^h2):∀ (n i:Nat) {lo hi:Rat},OkV c lo hi→¬ VC (FF p) (cutA c lo hi)→i < n→(hi-lo)*t2 (sepE (lg c) (lg p) h1 h2)≤t2 i→SgR c (FF (gl L 0)) lo hi (sgF c L n lo hi)
  | 0,_,_,_,_,_,h,_=>absurd h (by omega)
  | n+1,i,lo,hi,o,nv,hn,hw=>by
    unfold sgF
    by_cases hs:hi≤lo∨vr (sgL L lo)=vr (sgL L hi)
    · rw [if_pos hs]
      refine ⟨Nar.refl o.ok,?_⟩
      by_cases hl:hi≤lo
      · exact Or.inl hl
      · right
        obtain ⟨N,hN,hf,_⟩:=hL.cnt (lo:=lo) (hi:=hi) (by grind);exact hf.1 (by rcases hs with k | k;exact absurd k hl;omega)
    · rw [if_neg hs]
      have hl:¬ hi≤lo:=fun h=>hs (Or.inl h)
      have hlt:lo < hi:=by grind
      obtain ⟨N,hN,hf,_⟩:=hL.cnt (lo:=lo) (hi:=hi) (by grind);have nf:¬ RFree (FF (gl L 0)) lo hi:=fun h=>hs (Or.inr (by have:=hf.2 h;omega))
      have hi0:i≠0:=fun e=>by
        have h2l:2≤L.length:=by
          apply Classical.byContradiction;intro hlen;have:=hL.len;exact nf (rfree_const (hL.z 0) (hL.cst (by omega)) lo hi)
        obtain ⟨l,_,st,_⟩:=hL.stm h2l;have pr:=FF_po (hL.z 0);have hD:=cutN_ok st pr hlt nf;have vr':=cutN_vc st pr hlt nf;obtain ⟨w,pw,hw2⟩:=hL.sq.dv;have vD:VC (FF p) (cutI (FF (gl L 0)) lo hi):=(vr'.mul hD pw).congr fun x=>by rw [hw2 x];grind
        have lp:=vc_long zp hD vD (FF_nz zp hp0);have hq:∃ t,(cutI (FF (gl L 0)) lo hi t∧¬ cutA c lo hi t)∨(cutA c lo hi t∧¬ cutI (FF (gl L 0)) lo hi t):=by
          apply Classical.byContradiction;intro hne;refine nv (vD.cut fun t=>⟨fun h=>?_,fun h=>?_⟩)
          · apply Classical.byContradiction;intro k;exact hne ⟨t,Or.inr ⟨h,k⟩⟩
          · apply Classical.byContradiction;intro k;exact hne ⟨t,Or.inl ⟨h,k⟩⟩
        obtain ⟨t,ht⟩:=hq;rw [e] at hw;exact sepS o.ok.z zp o.sq o.l2 lp b1 b2 o.ok.cut hD nv o.vc vD ht (a:=lo) (b:=hi) (by rw [cutA_I hlt];exact Or.inl (by grind)) (o.ok.above (by grind)) (Or.inl (by grind)) (cutI_hi hlt (by grind)) hw
      obtain ⟨i',rfl⟩:∃ i',i=i'+1:=⟨i-1,by omega⟩
      have nr:=(hlf_nar o.ok).1;have ih:=sgF_ok zp hp0 hL b1 b2 n i' (o.nar nr) (fun h=>nv (h.cut fun q=>(nr.cut q).symm)) (by omega) (hlf_w o.ok (t2_pos _) hw);exact ⟨nr.trans ih.nar,ih.fr⟩
theorem sgF_stp{c p:Nat→Int}{M KC:Nat}{L:List (Nat→Int)}{lo hi:Rat}(zp:z20 p)(hp0:lg p≠0)(hL:ChP p M KC L)(o:OkV c lo hi)(nv:¬ VC (FF p) (cutA c lo hi)):SgR c (FF (gl L 0)) lo hi (sgF c L (stp c lo hi p 0 0) lo hi):=by
  obtain ⟨E,hE⟩:∃ E,E=sepE (lg c) (lg p) (szF c (lg c)) (szF p (lg p)):=⟨_,rfl⟩
  refine sgF_ok zp hp0 hL (sz_bd o.ok.z) (sz_bd zp) _ (nbits lo.num.natAbs+nbits hi.num.natAbs+1+E) o nv ?_ ?_
  · rw [hE]
    unfold stp sepE;obtain ⟨P,hP⟩:∃ P,P=(lg c+lg p)*(szF c (lg c)+szF p (lg p)+(lg c+lg p)+8):=⟨_,rfl⟩
    rw [Nat.mul_assoc 2,Nat.mul_assoc 4,← hP];omega
  · rw [← hE,t2_add _ E]
    exact Rat.mul_le_mul_of_nonneg_right (end_wide lo hi) (by have:=t2_pos E;grind)
theorem sgc_const{p:Nat→Int}(zp:z20 p)(h1:lg p=1){C:Cut}(hC:IsCut C)(x:Rat):SgC (FF p) C (sgq (FF p x)):=by
  obtain ⟨κ,hκ,hk⟩:=lg_one_const zp h1;obtain ⟨q,hq⟩:=hC.lo;obtain ⟨r,hr⟩:=hC.hi;rcases (show κ < 0∨0 < κ by grind) with k | k
  · exact ⟨-κ,q,r,by grind,hq,hr,fun t _ _=>⟨by rw [hk t];exact Or.inr (by grind),by rw [hk t,hk x]⟩⟩
  · exact ⟨κ,q,r,by grind,hq,hr,fun t _ _=>⟨by rw [hk t];exact Or.inl (by grind),by rw [hk t,hk x]⟩⟩
theorem sign_fin{c p:Nat→Int}{M KC:Nat}{L:List (Nat→Int)}{lo hi:Rat}{ab:Rat×Rat}(zp:z20 p)(hp0:lg p≠0)(hL:ChP p M KC L)(o:OkV c lo hi)(h:SgR c (FF (gl L 0)) lo hi ab):sgq (FF p ab.2)=sgC (FF p) (cutA c lo hi):=by
  obtain ⟨a,b⟩:=ab;have ok:=h.nar.ok;have e:=sgC_cut (p:=FF p) h.nar.cut;show sgq (FF p b)=_
  rw [← e];show _=sgC (FF p) (cutA c a b)
  by_cases hl:b≤a
  · have hle:a≤b:=ok.le
    have eab:a=b:=by grind
    rw [cutA_P hl,sgC_P (FF_po zp),eab]
  · have hlt:a < b:=by grind
    have fr:RFree (FF (gl L 0)) a b:=by rcases h.fr with k | k;exact absurd k hl;exact k
    rw [cutA_I hlt];have oi:=ok.i' hl;obtain ⟨N,hh,ph,hN⟩:=hL.sq.pw
    by_cases h2:2≤L.length
    · obtain ⟨l,_,st,_⟩:=hL.stm h2
      exact (sgC_eq (cutI_ok oi) (sign_end oi (FF_po zp) (FF_po (hL.z 0)) ph st hN fr)).symm
    · have h1:=hL.cst (by have:=hL.len;omega)
      obtain ⟨κ,hκ,hk⟩:=lg_one_const (hL.z 0) h1;have hp1:lg p=1:=by
        have d1:Dv (FF p) (fun _=>κ^N):=⟨hh,ph,fun x=>by rw [← hN x,hk x]⟩;have hκN:κ^N≠0:=by
          intro e0;have:∀ n:Nat,κ^n≠0:=fun n=>by
            induction n with
            | zero=>rw [Rat.pow_zero];decide
            | succ n ih=>rw [Rat.pow_succ];intro h;rcases Rat.mul_eq_zero.1 h with h | h;exact ih h;exact hκ h
          exact this N e0
        have:=d1.deg (FF_lc zp hp0) (lc_cst hκN);omega
      exact (sgC_eq (cutI_ok oi) (sgc_const zp hp1 (cutI_ok oi) b)).symm
theorem sign_has{c p g:Nat→Int}{M:Nat}{lo hi:Rat}(o:OkV c lo hi)(hl:¬ hi≤lo)(zp:z20 p)(hg:GcdP p c M g)(hg0:lg g≠0):(2≤lg g→hasB g lo hi=true→sgC (FF p) (cutA c lo hi)=0)∧((2≤lg g→hasB g lo hi=false)→¬ VC (FF p) (cutA c lo hi)):=by
  have oi:=o.ok.i' hl;obtain ⟨w1,pw1,f1⟩:=hg.idl.da;obtain ⟨w2,pw2,f2⟩:=hg.idl.db;obtain ⟨u,v,pu,pv,huv⟩:=hg.idl.cm;have f1':∀ x,FF p x=FF g x*w1 x:=fun x=>by rw [f1 x];grind
  have f2':∀ x,FF c x=FF g x*w2 x:=fun x=>by rw [f2 x];grind
  have hlt:=oi.lt;rw [cutA_I hlt];refine ⟨fun h2 hh=>sgC_zero (sign_zero oi (FF_po hg.z) pw2 pw1 f2' f1' ((has_free oi hg.z pw2 f2' h2 (by grind) (by grind) hlt).1 hh)),fun hh hv=>?_⟩;have fr:RFree (FF g) lo hi:=by
    by_cases h2:2≤lg g
    · apply Classical.byContradiction
      intro hn;have:=(has_free oi hg.z pw2 f2' h2 (by grind) (by grind) hlt).2 hn;rw [hh h2] at this;exact absurd this Bool.noConfusion
    · exact rfree_const hg.z (by omega) lo hi
  obtain ⟨s,hs⟩:=sign_far oi (FF_po hg.z) pw2 pw1 pu pv f2' f1' huv fr;exact hs.not_v hv
structure SgI(c:Nat→Int)(Ls:List (Nat→Int))(L J f:Nat)(lo hi u1 u2:Rat):Prop where
  fl:f≤J
  ok:OkA c u1 u2
  d:Dz L (J-f) u1 u2
  e:sgF c Ls f u1 u2=sgF c Ls J lo hi
theorem SgI.start{c:Nat→Int}{Ls:List (Nat→Int)}{L J:Nat}{lo hi:Rat}(h:OkA c lo hi)(h1:Tb L lo)(h2:Tb L hi):SgI c Ls L J J lo hi lo hi:=⟨Nat.le_refl _,h,by rw [Nat.sub_self];exact dz_start h1 h2,rfl⟩
theorem SgI.end_{c:Nat→Int}{Ls:List (Nat→Int)}{L J f:Nat}{lo hi u1 u2:Rat}(h:SgI c Ls L J f lo hi u1 u2)(hf:f=0):sgF c Ls J lo hi=(u1,u2):=by rw [← h.e,hf];rfl
theorem SgI.stop{c:Nat→Int}{Ls:List (Nat→Int)}{L J f:Nat}{lo hi u1 u2:Rat}(h:SgI c Ls L J f lo hi u1 u2)(hs:u2≤u1∨vr (sgL Ls u1)=vr (sgL Ls u2)):sgF c Ls J lo hi=(u1,u2):=by
  rw [← h.e];cases f with
  | zero=>rfl
  | succ f=>exact if_pos hs
theorem SgI.go{c:Nat→Int}{Ls:List (Nat→Int)}{L J f:Nat}{lo hi u1 u2:Rat}(h:SgI c Ls L J f lo hi u1 u2)(hf:f≠0)(h1:¬ u2≤u1)(h2:¬ vr (sgL Ls u1)=vr (sgL Ls u2)):SgI c Ls L J (f-1) lo hi (hlf c u1 u2).1 (hlf c u1 u2).2:=by
  obtain ⟨g,rfl⟩:∃ g,f=g+1:=⟨f-1,by omega⟩
  have hfl:=h.fl;have hd:=h.d.hlf (c:=c);rw [show J-(g+1)+1=J-g by omega] at hd;exact ⟨by omega,(hlf_nar h.ok).1.ok,hd,by rw [← h.e];exact (if_neg (by rintro (k | k);exact h1 k;exact h2 k)).symm⟩
theorem stp_le0{K L:Nat}{c d:Nat→Int}{lo hi:Rat}(h1:Lb K c)(h2:Lb K d)(a1:Tb L lo)(a2:Tb L hi):stp c lo hi d 0 0≤64+256*L+160*(64*K+48):=by
  have n1:=nb_lb a1.1;have n2:=nb_lb a2.1;have n3:nbits (0:Rat).num.natAbs=0:=nbits_zero;have n5:=szF_le h1 (lg c);have n6:=szF_le h2 (lg d);have hlc:=lg_le c;have hld:=lg_le d;unfold stp;have h:=Nat.mul_le_mul (show 4*(lg c+lg d)≤160 by omega) (show szF c (lg c)+szF d (lg d)+(lg c+lg d)+8≤64*K+48 by omega);omega
theorem sgc_nil{y:Nat→Int}(zy:z20 y)(h:lg y=0){C:Cut}(hC:IsCut C):sgC (FF y) C=0:=sgC_zero fun e he q r hq hr=>by
  have h1:=(FF_zero zy).1 h;have h2:=hC.nb hq hr;exact ⟨q,by grind,by grind,by rw [h1 q];exact ab_zero (by grind)⟩
theorem aASign{K L X KC N:Nat}{c y:Nat→Int}{lo hi:Rat}(zy:z20 y)(oa:OkV c lo hi)(hN:N≤10)(hcN:lg c≤N)(hyN:lg y≤N)(hKD:(21*K+5+1)*(2*3^N)≤KC)(hK5:50*(K+3)≤KC)(hC:KC≤10000000)(hX:11*L+320*K+300≤X)(hX1:X≤100000):ACall Tryz.prog 18 [.one (prow K (lg y) y),.agg ([.row 2 (lg c) (zel K c)] ++tn L lo ++tn L hi)] (.d (.one (.v (.int .i64 (sgC (FF y) (cutA c lo hi)))))):=by
  have hlc:=lg_le c;have hly:=lg_le y;have hdy:dg y (lg y)=lg y:=lg_dg zy.lg zy;refine ACall.fact10 (enters Tryz.func18 rfl rfl) (p:=Lb K y∧Lb K c∧Tb L lo∧Tb L hi) (fun B w vs h=>match vs,h with | [_,_],⟨h1,⟨ds,_,hk⟩,_⟩=>⟨prow_bd zy.lg h1,al_bd oa.ok.z hk⟩) (fun hb=>?_);have hc2:=oa.l2;have hKD':(21*K+3+1)*(2*3^N)≤KC:=Nat.le_trans (Nat.mul_le_mul_right _ (by omega)) hKD;have hJ:stp c lo hi y 0 0≤64+256*L+160*(64*K+48):=stp_le0 hb.2.1 hb.1 hb.2.2.1 hb.2.2.2;refine acallN hTT 66 [.tmp 4] Tryz.func18 rfl rfl rfl rfl rfl<|cR<|mN hTT (.box 46 ([.row 2 (lg c) (zel K c)] ++tn L lo ++tn L hi)) rfl rfl rfl<|mW rfl<|mT<|cSeq<|cDrawK hTT 5 (by kernel_rfl) (by kernel_rfl) (by kernel_rfl)<|.cons (OpS.V _ rfl)<|.cons (OpS.C0 (aPNorm (isp (K:=K) (c:=y) (z20.lg zy)) (by omega) (by omega)) rfl rfl rfl)<|.cons (OpS.V (.d (.agg ([.row 2 (lg c) (zel K c)] ++tn L lo ++tn L hi))) rfl)<|.cons (OpS.C0 (aANorm (K:=K) (c:=c) (L:=L) (lo:=lo) (M:=L) (hi:=hi) oa.ok.z (by omega) (by omega) (by omega)) rfl rfl rfl)<|.cons (OpS.V _ rfl)<|.nil<|mS hTT 3 (.box 46 ([.row 2 (lg c) (zel K c)] ++tn L lo ++tn L hi)) rfl<|mT<|cSeq<|cSeq<|cView 0 (.d (.one (.row 2 (lg y) (zel K y)))) rfl (le_one (by rw [hdy];exact fun _ _ _ h=>h))<|cReg<|mv3 rfl rfl rfl<|mT<|cCond rfl (fun hc1=>?_) (fun hc1=>?_)
  · skip
    exact cR<|mW rfl<|mT<|cRet<|tR<|rQ rfl (le_int (sgc_nil zy (by have h0:=beq_iff_eq.1 hc1;omega) oa.ok.cut).symm)
  · skip
    refine cSkip<|tN<|cSeq<|cR<|mW rfl<|mC0 (aPoint (K:=K) (c:=c) (L:=L) (lo:=lo) (M:=L) (hi:=hi) (by omega) (by omega)) rfl rfl rfl<|mT<|cCond rfl (fun hc2=>?_) (fun hc2=>?_)
    · skip
      exact cR<|mv3 rfl rfl rfl<|mC0 (aSignN (isp (K:=K) (c:=y) (z20.lg zy)) zy (L:=L) (q:=lo) (by omega) (by omega) (by omega)) rfl rfl rfl<|mW rfl<|mT<|cRet<|tR<|rQ rfl (le_int (by rw [cutA_P (c:=c) (of_decide_eq_true hc2),sgC_P (FF_po zy)]))
    · skip
      refine cSkip ?_;refine tN ?_;refine cSeq ?_;refine cSeq ?_;have hy0:lg y≠0:=by have h0:=beq_eq_false_iff_ne.1 hc1;omega
      have hP:=of_decide_eq_false hc2;refine cReg<|mv3 rfl rfl rfl<|mB hTT (.d (.one (.row 1 2 (fun i' j'=>(([.row 2 (lg y) (zel K y),.row 2 (lg c) (zel K c)])[i'*1+j']?).getD (.v undef))))) rfl<|mC0 (aGcd2 (K:=K) (KC:=KC) (N:=N) zy oa.ok.z hy0 (by omega) hN hyN hcN hb.1 hb.2.1 hKD' (by omega)) rfl rfl rfl<|mW rfl<|mT<|cSeq<|cEx (Qx:=(GcdP y c (21*K+3))) (L:=(fun g=>prow (21*K+3) (lg g) g)) 5 rfl (fun g hg=>?_);have hlg:=lg_le g;have hg0:=(hg.le zy hy0).1
      by_cases hl2:2≤lg g
      · skip
        refine cReg<|mW rfl<|mC0 (aDeg (K:=(21*K+3)) (n:=(lg g)) (c:=g) (by omega)) rfl rfl rfl<|mV hTT (.d (.one (.v (.bool true)))) (evb (decide_eq_true (by omega)))<|mv6 rfl rfl rfl rfl rfl rfl<|mC0 (aHas (K:=(21*K+3)) (c:=g) (L:=L) (lo:=lo) (M:=L) (hi:=hi) hg.z (by omega) (by omega) (by omega)) rfl rfl rfl<|mW rfl<|mT<|cCond rfl (fun hc3=>?_) (fun hc3=>?_)
        · skip
          exact cR<|mW rfl<|mT<|cRet<|tR<|rQ rfl (le_int ((sign_has oa hP zy hg hg0).1 hl2 hc3).symm)
        · skip
          refine cSkip<|tN<|cSeq ?_;have nv:=(sign_has oa hP zy hg hg0).2 (fun _=>hc3);refine cReg<|mW rfl<|mC0 (aNew (isp (K:=K) (c:=y) (z20.lg zy)) zy (by omega) hN hyN hy0 hKD hK5 (by omega) (KC:=KC)) rfl rfl rfl<|mv5 rfl rfl rfl rfl rfl<|mT<|cSeq<|cSeq<|cEx (Qx:=(ChP y (21*K+3) KC)) (L:=(fun L=> .at 1 (fun q=>(([.row 1 L.length (elL KC L)]:List Lf)[0+q]?).getD (.v undef)))) 6 rfl (fun Ls hLs=>?_);have hll:=hLs.ln;refine cReg<|mv3 rfl rfl rfl<|mC0 (aSteps0 (K:=K) (c:=c) (L:=L) (lo:=lo) (M:=L) (hi:=hi) (K2:=K) (d:=y) oa.ok.z zy (by omega) (by omega) (by omega) (by omega)) rfl rfl rfl<|mW rfl<|mT<|cBlock<|cLoop (ι:=Nat×Rat×Rat) (fun (p:Nat×Rat×Rat)=>match p with | (f,u1,u2)=>⟨66,[(0,.d (.one (.row 2 (lg y) (zel K y)))),(3,.ptr 3 0),(4,.d (.one (.v (.int .i64 0)))),(6,.d (.one (.at 1 (fun q=>(([.row 1 Ls.length (elL KC Ls)]:List Lf)[0+q]?).getD (.v undef))))),(45,.d (.one (.v (.int .i64 ((stp c lo hi y 0 0:Nat):Int))))),(46,.d (.one (.v (.int .i64 (((stp c lo hi y 0 0)-f:Nat):Int)))))],[(3,.box 46 ([.row 2 (lg c) (zel K c)] ++tn X u1 ++tn X u2))]⟩) (fun (p:Nat×Rat×Rat)=>match p with | (f,u1,u2)=>SgI c Ls L (stp c lo hi y 0 0) f lo hi u1 u2) (fun (p:Nat×Rat×Rat)=>match p with | (f,u1,u2)=>f) ((stp c lo hi y 0 0),lo,hi) (.start oa.ok hb.2.2.1 hb.2.2.2) (wk rfl ⟨hs rfl,hs rfl,hs rfl,hs rfl,hs rfl,hs' rfl (le_int (by rw [Nat.sub_self];rfl)),trivial⟩ ⟨ho' rfl (al_leo (tb_mono hb.2.2.1 (by omega)) (tb_mono hb.2.2.2 (by omega))),trivial⟩ rfl) ?_;rintro ⟨f,u1,u2⟩ hI;have hI:SgI c Ls L (stp c lo hi y 0 0) f lo hi u1 u2:=hI;show AW _ _ _ ⟨_,_,_⟩
          refine cR<|mW rfl<|mT<|cSeq<|cCond rfl (fun hc4=>?_) (fun hc4=>?_)
          · skip
            refine cSkip ?_;refine tN ?_;refine cSeq ?_;refine cBlock ?_;refine cSeq ?_;refine cSeq ?_;have hf0:f≠0:=by have h0:=of_decide_eq_true hc4;omega
            by_cases hp:u2≤u1
            · skip
              exact cReg<|mW rfl<|mC0 (aPoint (K:=K) (c:=c) (L:=X) (lo:=u1) (M:=X) (hi:=u2) (by omega) (by omega)) rfl rfl rfl<|mV hTT (.d (.one (.v (.bool true)))) (evb (decide_eq_true hp))<|mG rfl rfl<|mG rfl rfl<|mG rfl rfl<|mG rfl rfl<|mG rfl rfl<|mG rfl rfl<|mG rfl rfl<|mW rfl<|mT<|cT rfl<|cExit<|tE<|bX rfl<|tE<|tE<|bE<|tN<|cR<|mv3 rfl rfl rfl<|mC0 (aSignN (isp (K:=K) (c:=y) (z20.lg zy)) zy (L:=X) (q:=u2) (by omega) (by omega) (by omega)) rfl rfl rfl<|mW rfl<|mT<|cRet<|rQ rfl (le_int (by have e:=hI.stop (Or.inl hp);have k:=sign_fin zy hy0 hLs oa (sgF_stp zy hy0 hLs oa nv);rw [e] at k;exact k))
            · skip
              by_cases hv:vr (sgL Ls u1)=vr (sgL Ls u2)
              · skip
                exact cReg<|mW rfl<|mC0 (aPoint (K:=K) (c:=c) (L:=X) (lo:=u1) (M:=X) (hi:=u2) (by omega) (by omega)) rfl rfl rfl<|mV hTT (.d (.one (.v (.bool false)))) (evb (decide_eq_false hp))<|mv5 rfl rfl rfl rfl rfl<|mC0 (aBetween (KC:=KC) (M:=X) (M2:=X) (L:=Ls) (lo:=u1) (hi:=u2) hI.ok.le hLs.z (by omega) hC (by omega) (by omega)) rfl rfl rfl<|mV hTT (.d (.one (.v (.bool true)))) (evb (beq_iff_eq.2 (by omega)))<|mW rfl<|mT<|cT rfl<|cExit<|tE<|bX rfl<|tE<|tE<|bE<|tN<|cR<|mv3 rfl rfl rfl<|mC0 (aSignN (isp (K:=K) (c:=y) (z20.lg zy)) zy (L:=X) (q:=u2) (by omega) (by omega) (by omega)) rfl rfl rfl<|mW rfl<|mT<|cRet<|rQ rfl (le_int (by have e:=hI.stop (Or.inr hv);have k:=sign_fin zy hy0 hLs oa (sgF_stp zy hy0 hLs oa nv);rw [e] at k;exact k))
              · skip
                refine cReg<|mW rfl<|mC0 (aPoint (K:=K) (c:=c) (L:=X) (lo:=u1) (M:=X) (hi:=u2) (by omega) (by omega)) rfl rfl rfl<|mV hTT (.d (.one (.v (.bool false)))) (evb (decide_eq_false hp))<|mv5 rfl rfl rfl rfl rfl<|mC0 (aBetween (KC:=KC) (M:=X) (M2:=X) (L:=Ls) (lo:=u1) (hi:=u2) hI.ok.le hLs.z (by omega) hC (by omega) (by omega)) rfl rfl rfl<|mV hTT (.d (.one (.v (.bool false)))) (evb (beq_eq_false_iff_ne.2 (by omega)))<|mW rfl<|mT<|cFs rfl ?_;have h':=hI.go hf0 hp hv;have hT:=h'.d.tb (X:=X) (by omega);exact cReg<|mW rfl<|mC0 (aHalf (K:=K) (c:=c) (L:=X) (lo:=u1) (M:=X) (hi:=u2) (X:=X) hI.ok hT.1 hT.2 (by omega) (by omega) (by omega)) rfl rfl rfl<|mS hTT 3 (.box 46 ([.row 2 (lg c) (zel K c)] ++tn X ((hlf c u1 u2).1) ++tn X ((hlf c u1 u2).2))) rfl<|mNil<|bN<|tN<|cReg<|mv2 rfl rfl<|mNil<|⟨((f-1),(hlf c u1 u2).1,(hlf c u1 u2).2),h',by show f-1 < f;omega,wk rfl ⟨hs rfl,hs rfl,hs rfl,hs rfl,hs rfl,hs' rfl (le_int ((inc64 (by have:=h'.fl;omega)).trans (by have:=hI.fl;omega))),trivial⟩ ⟨ho rfl,trivial⟩ rfl⟩
          · skip
            exact cExit<|tE<|tE<|bE<|tN<|cR<|mv3 rfl rfl rfl<|mC0 (aSignN (isp (K:=K) (c:=y) (z20.lg zy)) zy (L:=X) (q:=u2) (by omega) (by omega) (by omega)) rfl rfl rfl<|mW rfl<|mT<|cRet<|rQ rfl (le_int (by have e:=hI.end_ (by have h0:=of_decide_eq_false hc4;have:=hI.fl;omega);have k:=sign_fin zy hy0 hLs oa (sgF_stp zy hy0 hLs oa nv);rw [e] at k;exact k))
      · skip
        refine cReg<|mW rfl<|mC0 (aDeg (K:=(21*K+3)) (n:=(lg g)) (c:=g) (by omega)) rfl rfl rfl<|mV hTT (.d (.one (.v (.bool false)))) (evb (decide_eq_false (by omega)))<|mW rfl<|mG rfl rfl<|mG rfl rfl<|mG rfl rfl<|mG rfl rfl<|mG rfl rfl<|mG rfl rfl<|mW rfl<|mT<|cFs rfl<|cSeq ?_;have nv:=(sign_has oa hP zy hg hg0).2 (fun h=>absurd h hl2);refine cReg<|mW rfl<|mC0 (aNew (isp (K:=K) (c:=y) (z20.lg zy)) zy (by omega) hN hyN hy0 hKD hK5 (by omega) (KC:=KC)) rfl rfl rfl<|mv5 rfl rfl rfl rfl rfl<|mT<|cSeq<|cSeq<|cEx (Qx:=(ChP y (21*K+3) KC)) (L:=(fun L=> .at 1 (fun q=>(([.row 1 L.length (elL KC L)]:List Lf)[0+q]?).getD (.v undef)))) 6 rfl (fun Ls hLs=>?_);have hll:=hLs.ln;refine cReg<|mv3 rfl rfl rfl<|mC0 (aSteps0 (K:=K) (c:=c) (L:=L) (lo:=lo) (M:=L) (hi:=hi) (K2:=K) (d:=y) oa.ok.z zy (by omega) (by omega) (by omega) (by omega)) rfl rfl rfl<|mW rfl<|mT<|cBlock<|cLoop (ι:=Nat×Rat×Rat) (fun (p:Nat×Rat×Rat)=>match p with | (f,u1,u2)=>⟨66,[(0,.d (.one (.row 2 (lg y) (zel K y)))),(3,.ptr 3 0),(4,.d (.one (.v (.int .i64 0)))),(6,.d (.one (.at 1 (fun q=>(([.row 1 Ls.length (elL KC Ls)]:List Lf)[0+q]?).getD (.v undef))))),(45,.d (.one (.v (.int .i64 ((stp c lo hi y 0 0:Nat):Int))))),(46,.d (.one (.v (.int .i64 (((stp c lo hi y 0 0)-f:Nat):Int)))))],[(3,.box 46 ([.row 2 (lg c) (zel K c)] ++tn X u1 ++tn X u2))]⟩) (fun (p:Nat×Rat×Rat)=>match p with | (f,u1,u2)=>SgI c Ls L (stp c lo hi y 0 0) f lo hi u1 u2) (fun (p:Nat×Rat×Rat)=>match p with | (f,u1,u2)=>f) ((stp c lo hi y 0 0),lo,hi) (.start oa.ok hb.2.2.1 hb.2.2.2) (wk rfl ⟨hs rfl,hs rfl,hs rfl,hs rfl,hs rfl,hs' rfl (le_int (by rw [Nat.sub_self];rfl)),trivial⟩ ⟨ho' rfl (al_leo (tb_mono hb.2.2.1 (by omega)) (tb_mono hb.2.2.2 (by omega))),trivial⟩ rfl) ?_;rintro ⟨f,u1,u2⟩ hI;have hI:SgI c Ls L (stp c lo hi y 0 0) f lo hi u1 u2:=hI;show AW _ _ _ ⟨_,_,_⟩
        refine cR<|mW rfl<|mT<|cSeq<|cCond rfl (fun hc5=>?_) (fun hc5=>?_)
        · skip
          refine cSkip ?_;refine tN ?_;refine cSeq ?_;refine cBlock ?_;refine cSeq ?_;refine cSeq ?_;have hf0:f≠0:=by have h0:=of_decide_eq_true hc5;omega
          by_cases hp:u2≤u1
          · skip
            exact cReg<|mW rfl<|mC0 (aPoint (K:=K) (c:=c) (L:=X) (lo:=u1) (M:=X) (hi:=u2) (by omega) (by omega)) rfl rfl rfl<|mV hTT (.d (.one (.v (.bool true)))) (evb (decide_eq_true hp))<|mG rfl rfl<|mG rfl rfl<|mG rfl rfl<|mG rfl rfl<|mG rfl rfl<|mG rfl rfl<|mG rfl rfl<|mW rfl<|mT<|cT rfl<|cExit<|tE<|bX rfl<|tE<|tE<|bE<|tN<|cR<|mv3 rfl rfl rfl<|mC0 (aSignN (isp (K:=K) (c:=y) (z20.lg zy)) zy (L:=X) (q:=u2) (by omega) (by omega) (by omega)) rfl rfl rfl<|mW rfl<|mT<|cRet<|rQ rfl (le_int (by have e:=hI.stop (Or.inl hp);have k:=sign_fin zy hy0 hLs oa (sgF_stp zy hy0 hLs oa nv);rw [e] at k;exact k))
          · skip
            by_cases hv:vr (sgL Ls u1)=vr (sgL Ls u2)
            · skip
              exact cReg<|mW rfl<|mC0 (aPoint (K:=K) (c:=c) (L:=X) (lo:=u1) (M:=X) (hi:=u2) (by omega) (by omega)) rfl rfl rfl<|mV hTT (.d (.one (.v (.bool false)))) (evb (decide_eq_false hp))<|mv5 rfl rfl rfl rfl rfl<|mC0 (aBetween (KC:=KC) (M:=X) (M2:=X) (L:=Ls) (lo:=u1) (hi:=u2) hI.ok.le hLs.z (by omega) hC (by omega) (by omega)) rfl rfl rfl<|mV hTT (.d (.one (.v (.bool true)))) (evb (beq_iff_eq.2 (by omega)))<|mW rfl<|mT<|cT rfl<|cExit<|tE<|bX rfl<|tE<|tE<|bE<|tN<|cR<|mv3 rfl rfl rfl<|mC0 (aSignN (isp (K:=K) (c:=y) (z20.lg zy)) zy (L:=X) (q:=u2) (by omega) (by omega) (by omega)) rfl rfl rfl<|mW rfl<|mT<|cRet<|rQ rfl (le_int (by have e:=hI.stop (Or.inr hv);have k:=sign_fin zy hy0 hLs oa (sgF_stp zy hy0 hLs oa nv);rw [e] at k;exact k))
            · skip
              refine cReg<|mW rfl<|mC0 (aPoint (K:=K) (c:=c) (L:=X) (lo:=u1) (M:=X) (hi:=u2) (by omega) (by omega)) rfl rfl rfl<|mV hTT (.d (.one (.v (.bool false)))) (evb (decide_eq_false hp))<|mv5 rfl rfl rfl rfl rfl<|mC0 (aBetween (KC:=KC) (M:=X) (M2:=X) (L:=Ls) (lo:=u1) (hi:=u2) hI.ok.le hLs.z (by omega) hC (by omega) (by omega)) rfl rfl rfl<|mV hTT (.d (.one (.v (.bool false)))) (evb (beq_eq_false_iff_ne.2 (by omega)))<|mW rfl<|mT<|cFs rfl ?_;have h':=hI.go hf0 hp hv;have hT:=h'.d.tb (X:=X) (by omega);exact cReg<|mW rfl<|mC0 (aHalf (K:=K) (c:=c) (L:=X) (lo:=u1) (M:=X) (hi:=u2) (X:=X) hI.ok hT.1 hT.2 (by omega) (by omega) (by omega)) rfl rfl rfl<|mS hTT 3 (.box 46 ([.row 2 (lg c) (zel K c)] ++tn X ((hlf c u1 u2).1) ++tn X ((hlf c u1 u2).2))) rfl<|mNil<|bN<|tN<|cReg<|mv2 rfl rfl<|mNil<|⟨((f-1),(hlf c u1 u2).1,(hlf c u1 u2).2),h',by show f-1 < f;omega,wk rfl ⟨hs rfl,hs rfl,hs rfl,hs rfl,hs rfl,hs' rfl (le_int ((inc64 (by have:=h'.fl;omega)).trans (by have:=hI.fl;omega))),trivial⟩ ⟨ho rfl,trivial⟩ rfl⟩
        · skip
          exact cExit<|tE<|tE<|bE<|tN<|cR<|mv3 rfl rfl rfl<|mC0 (aSignN (isp (K:=K) (c:=y) (z20.lg zy)) zy (L:=X) (q:=u2) (by omega) (by omega) (by omega)) rfl rfl rfl<|mW rfl<|mT<|cRet<|rQ rfl (le_int (by have e:=hI.end_ (by have h0:=of_decide_eq_false hc5;have:=hI.fl;omega);have k:=sign_fin zy hy0 hLs oa (sgF_stp zy hy0 hLs oa nv);rw [e] at k;exact k))
def lnP(t:Rat):Nat→Int:=lin (-t.num) (t.den:Int)
theorem lnP_z2(t:Rat):∀ i,2≤i→lnP t i=0:=fun i hi=>by unfold lnP lin;rw [if_neg (by omega),if_neg (by omega)]
theorem lnP_z(t:Rat):z20 (lnP t):= .of (lnP_z2 t) (by decide)
theorem lnP_lg(t:Rat):lg (lnP t)=2:=by
  rw [← lg_dg (lnP_z2 t) (lnP_z t)];have h:lnP t 1≠0:=by show (t.den:Int)≠0;have:=t.den_pos;omega
  exact dg_stop (Or.inr h)
theorem lnP_F(t x:Rat):FF (lnP t) x=(t.den:Rat)*x-(t.num:Rat):=by
  rw [← FF_pz (lnP_z t) (lnP_z2 t)];show (0+((-t.num:Int):Rat)*x^0)+(((t.den:Nat):Int):Rat)*x^1=_
  rw [Rat.pow_zero,pow1,Rat.intCast_neg];have e:(((t.den:Nat):Int):Rat)=(t.den:Rat):=rfl;rw [e];grind
theorem lnP_root(t:Rat):FF (lnP t) t=0:=by
  rw [lnP_F];have:=q_mul_den t;grind
theorem den_nz(t:Rat):(t.den:Rat)≠0:=by exact_mod_cast t.den_nz
theorem lnP_F'(t x:Rat):FF (fder (lnP t)) x=(t.den:Rat):=by
  have hz:∀ i,1≤i→fder (lnP t) i=0:=fun i hi=>by unfold fder;rw [lnP_z2 t (i+1) (by omega)];simp
  rw [← FF_pz (z20_der (lnP_z t)) hz];show 0+((fder (lnP t) 0:Int):Rat)*x^0=_
  have e:fder (lnP t) 0=(t.den:Int):=by show lnP t 1*((0+1:Nat):Int)=_;have:lnP t 1=(t.den:Int):=rfl;rw [this];omega
  rw [e,Rat.pow_zero];have e2:(((t.den:Nat):Int):Rat)=(t.den:Rat):=rfl;rw [e2];grind
theorem lnP_sq(t:Rat):Sqf (FF (lnP t)) (FF (fder (lnP t))):=⟨FF_po (lnP_z t),FF_po (z20_der (lnP_z t)),FF_der (lnP_z t),fun _=>0,fun _=>1 / (t.den:Rat),po_const _,po_const _,fun x=>by rw [lnP_F'];have:=den_nz t;grind⟩
theorem vc_root{f:Fn}{t:Rat}(h:f t=0):VC f (cutP t):=fun e he q r hq hr=>⟨t,by unfold cutP at hq;grind,by unfold cutP at hr;grind,by rw [h];exact ab_zero (by grind)⟩
theorem okV_P{c:Nat→Int}(z:z20 c)(sq:Sqf (FF c) (FF (fder c)))(l2:2≤lg c){t:Rat}(h:FF c t=0):OkV c t t:=⟨okA_P z t,sq,l2,by rw [cutA_P (by grind)];exact vc_root h⟩
theorem okV_ln(t:Rat):OkV (lnP t) t t:=okV_P (lnP_z t) (lnP_sq t) (by rw [lnP_lg];exact Nat.le_refl 2) (lnP_root t)
theorem okV_I{c:Nat→Int}(z:z20 c){lo hi:Rat}(h:OkI (FF c) (FF (fder c)) lo hi):OkV c lo hi:=by
  have hlt:=h.lt;have hn:¬ RFree (FF c) lo hi:=fun k=>by have:=(h.one.free h.sq.po (by grind)).2 k;omega
  have ok:OkA c lo hi:=⟨z,by grind,fun _=>h⟩;have vc:VC (FF c) (cutA c lo hi):=by
    rw [cutA_I hlt];exact sign_zero h (FF_po z) (po_const 1) (po_const 1) (fun x=>by grind) (fun x=>by grind) hn
  exact ⟨ok,h.sq,vc_long z ok.cut vc h.sq.ne,vc⟩
theorem ln_row{K:Nat}{t:Rat}:∀ B w v,LfR B w (.row 2 2 (fun i' j'=>((zn K (-t.num) ++zn K (t.den:Int))[i'*2+j']?).getD (.v undef))) v→LfR B w (prow K (lg (lnP t)) (lnP t)) v:=by
  rw [lnP_lg];refine row_le fun i hi j hj=>?_
  match i,j,hi,hj with
  | 0,0,_,_=>exact fun _ _ _ h=>h
  | 0,1,_,_=>exact fun _ _ _ h=>h
  | 1,0,_,_=>exact fun _ _ _ h=>h
  | 1,1,_,_=>exact fun _ _ _ h=>h
theorem al_row{K L M:Nat}{c:Nat→Int}{lo hi:Rat}{l:Lf}(h:∀ B w v,LfR B w l v→LfR B w (prow K (lg c) c) v):AV.le (.d (.agg ([l] ++tn L lo ++tn M hi))) (.d (.agg (alc K c L lo M hi))):=
  le_agg (ls_cat (ls_cat (fun B w cs k=>match cs,k with | [v],⟨k,_⟩=>⟨h B w v k,trivial⟩) (fun _ _ _ h=>h)) (fun _ _ _ h=>h))
theorem aAOf{K:Nat}{t:Rat}(hK:K≤1000000):ACall Tryz.prog 27 [.agg (tn K t)] (.d (.agg ([.row 2 (lg (lnP t)) (zel K (lnP t))] ++tn K t ++tn K t))):=by
  refine acallN hTT 15 [.cell 2 46] Tryz.func27 rfl rfl rfl rfl rfl ?_;refine cSeq ?_;refine cReg ?_;refine mN hTT (.box 44 (tn K t)) rfl rfl rfl ?_;refine mN hTT (.box 46 ([.v (.slice none 0 0),.v (.bool false),.v (.slice none 0 0),.v (.bool false),.v (.slice none 0 0),.v (.bool false),.v (.slice none 0 0),.v (.bool false),.v (.slice none 0 0)])) rfl rfl rfl ?_;refine mNil ?_;refine tN ?_;refine cSeq ?_;refine cReg ?_;refine mW rfl ?_;refine mC0 (aMaxN (K:=K) (p:=t) (by omega)) rfl rfl rfl ?_;refine mS hTT 1 (.box 44 (tn K t)) rfl ?_;refine mNil ?_;refine tN ?_;refine cSeq ?_;refine cDrawK hTT 10 (by kernel_rfl) (by kernel_rfl) (by kernel_rfl) ?_;refine .cons (OpS.V (.ptr 1 0) rfl) ?_;refine .cons (OpS.V (.d (.agg (zn K (Rat.num t)))) rfl) ?_;refine .cons (OpS.C0 (aNeg (isz K (Rat.num t)) (by omega)) rfl rfl rfl) ?_;refine .cons (OpS.V (.ptr 1 2) rfl) ?_;refine .cons (OpS.V (.d (.agg (zn K (Rat.den t:Int)))) rfl) ?_;refine .cons (OpS.B _ rfl) ?_;refine .cons (OpS.V (.d (.agg (tn K t))) rfl) ?_;refine .cons (OpS.V (.d (.agg (tn K t))) rfl) ?_;refine .cons (OpS.C0 (aMaxN (K:=K) (p:=t) (by omega)) rfl rfl rfl) ?_;refine .cons (OpS.V (.d (.agg ([.row 2 2 (fun i' j'=>((zn K (-(Rat.num t)) ++zn K (Rat.den t:Int))[i'*2+j']?).getD (.v undef))] ++tn K t ++tn K t))) rfl) ?_;refine .nil ?_;refine mS hTT 2 (.box 46 ([.row 2 2 (fun i' j'=>((zn K (-(Rat.num t)) ++zn K (Rat.den t:Int))[i'*2+j']?).getD (.v undef))] ++tn K t ++tn K t)) rfl ?_;refine mNil ?_;refine tN ?_;refine cRet ?_;exact rQ rfl (al_row ln_row)
theorem lnP_pm(t:Rat):gcdN (lnP t) 2=1:=by
  show Nat.gcd (Nat.gcd 0 (lnP t 0).natAbs) (lnP t 1).natAbs=1
  have e0:lnP t 0= -t.num:=rfl;have e1:lnP t 1=(t.den:Int):=rfl;rw [e0,e1,Nat.gcd_zero_left,Int.natAbs_neg,Int.natAbs_natCast];exact t.reduced
def derE(c:Nat→Rat):Nat→Rat:=fun i=>c (i+1)*(((i+1:Nat):Int):Rat)
theorem rc_der1(a:Nat→Int)(j:Nat):derE (rc a) j=rc (fder a) j:=by
  show ((a (j+1):Int):Rat)*(((j+1:Nat):Int):Rat)=((fder a j:Int):Rat)
  rw [← Rat.intCast_mul];congr 1
def numF(c:Nat→Rat):Nat→Int:=fun i=>(c i).num
theorem aQNeg{a:Lf}{K M n:Nat}{c:Nat→Rat}(ha:IsQP a K n c)(hM:max (K+65) 64≤M:=by decide)(hn:n≤1000000:=by decide)(hMM:M≤10000000:=by decide):ACall Tryz.prog 137 [.one a] (.d (.one (qrow M (dg (fsclQ c ((-1:Int):Rat)) n) (fsclQ c ((-1:Int):Rat))))):=by
  obtain ⟨ha,za⟩:=ha;exact ACall.le (dl (DV.l ha) dl0) AV.le.rfl<|acallN hTT 6 [.tmp 2] Tryz.func137 rfl rfl rfl rfl rfl<|cR<|mW rfl<|mT<|cR<|mW rfl<|mC0 (aROfI (n:=(-1)) (by decide) (by decide)) rfl rfl rfl<|mC0 (aQScale (isqp (K:=K) (c:=c) za) (isq 64 (((-1):Int):Rat)) (M:=(max ((K+64)+1) 64)) (by omega) (by omega) (by omega)) rfl rfl rfl<|mW rfl<|mT<|cRet<|rQ rfl (le_qrow (by omega) rfl (fun _ _=>rfl))
theorem aQSub{a b:Lf}{K L M n m:Nat}{c d:Nat→Rat}(ha:IsQP a K n c)(hb:IsQP b L m d)(hM:max K 64+max (L+65) 64+1≤M:=by decide)(hn:max n m≤1000000:=by decide)(hMM:M≤10000000:=by decide):ACall Tryz.prog 182 [.one a,.one b] (.d (.one (qrow M (dg (faddQ c (fsclQ d ((-1:Int):Rat))) (max n m)) (faddQ c (fsclQ d ((-1:Int):Rat)))))):=by
  obtain ⟨ha,za⟩:=ha;obtain ⟨hb,zb⟩:=hb;refine ACall.le (dl (DV.l ha) (dl (DV.l hb) dl0)) AV.le.rfl ?_;have hdl:=dg_le (fsclQ d ((-1:Int):Rat)) m;exact acallN hTT 9 [.tmp 4] Tryz.func182 rfl rfl rfl rfl rfl<|cR<|mW rfl<|mT<|cR<|mv2 rfl rfl<|mC0 (aQNeg (isqp (K:=L) (c:=d) zb) (M:=(max (L+65) 64)) (by omega) (by omega) (by omega)) rfl rfl rfl<|mC0 (aQAdd (isqp (K:=K) (c:=c) za) (isqp (K:=(max (L+65) 64)) (c:=(fsclQ d ((-1:Int):Rat))) (dg_z (fsclQ_z zb))) (M:=(max (((max K 64)+(max (max (L+65) 64) 64))+1) 64)) (by omega) (by omega) (by omega)) rfl rfl rfl<|mW rfl<|mT<|cRet<|rQ rfl (le_qrow (by omega) (dg_eq (faddQ_z za (dg_z (fsclQ_z zb))) (faddQ_z za (fsclQ_z zb))) (fun _ _=>rfl))
theorem aQDer{a:Lf}{K M n:Nat}{c:Nat→Rat}(ha:IsQP a K n c)(hM:max (K+65) 64≤M:=by decide)(hn:n≤1000000:=by decide)(hMM:M≤10000000:=by decide):ACall Tryz.prog 136 [.one a] (.d (.one (qrow M (dg (derE c) (n-1)) (derE c)))):=by
  obtain ⟨ha,za⟩:=ha;refine ACall.le (dl (DV.l ha) dl0) AV.le.rfl<|acallN hTT 23 [.tmp 2] Tryz.func136 rfl rfl rfl rfl rfl<|cR<|mW rfl<|mT<|cR<|mW rfl<|mT<|cSeq<|cSeq<|AW.wk (wkNil 3 3 30 4 (fun _ _=> .v undef) rfl rfl)<|cReg<|mW rfl<|mT<|cBlock<|cLoop (ι:=Nat) (fun (i:Nat)=>⟨23,[(0,.d (.one (.row 4 n (qel K c)))),(4,.d (.one (.v (.int .i64 ((i+1:Nat):Int))))),(3,.own 3)],[(3,.row 30 4 i (qel M (derE c)))]⟩) (fun (i:Nat)=>i≤n-1) (fun (i:Nat)=>n-1-i) 0 (Nat.zero_le _) (wk rfl ⟨hs rfl,hs' rfl (le_int rfl),hs rfl,trivial⟩ ⟨ho' rfl (leo_row0),trivial⟩ rfl) ?_;rintro i hI;have hi:i≤n-1:=hI;show AW _ _ _ ⟨_,_,_⟩
  refine cSeq<|cR<|mv4 rfl rfl rfl rfl<|mT<|cCond rfl (fun hc1=>?_) (fun hc1=>?_)
  · skip
    refine cSkip ?_;refine tN ?_;refine cSeq ?_;refine cBlock ?_;have hin:i+1 < n:=by have h0:=of_decide_eq_true hc1;omega
    refine cDrawK hTT 9 (by kernel_rfl) (by kernel_rfl) (by kernel_rfl)<|.cons (OpS.V _ rfl)<|.cons (OpS.V _ rfl)<|.cons (OpS.V _ rfl)<|.cons (OpS.V (.d (.one (.at 4 ((qel K c) (i+1))))) (ixR (el:=(qel K c)) (z:=((i+1:Nat):Int)) (n:=n) rfl rfl rfl rfl rfl rfl (by omega) (by omega))) ?_;exact .cons (OpS.V (.d (.agg (qn K (c (i+1))))) rfl)<|.cons (OpS.V _ rfl)<|.cons (OpS.C0 (aROfI (n:=((i+1:Nat):Int)) (by omega) (by omega)) rfl rfl rfl)<|.cons (OpS.C0 (aRMulR (isq K (c (i+1))) (isq 64 ((((i+1:Nat):Int):Int):Rat)) (M:=(max (K+64+1) 64)) (by omega) (by omega)) rfl rfl rfl)<|.cons (OpS.B _ rfl)<|.nil<|mA hTT (id:=3) (n:=i) (m:=1) (el:=(qel M (derE c))) (el2:=(fun i' j'=>((qn (max (K+64+1) 64) ((c (i+1))*((((i+1:Nat):Int):Int):Rat)))[i'*4+j']?).getD (.v undef))) rfl rfl rfl (by show (i+1)*64≤140737488355328;omega) (by omega) rfl rfl rfl rfl rfl rfl rfl rfl rfl rfl<|mW rfl<|mNil<|bN<|tN<|cReg<|mv3 rfl rfl rfl<|mNil<|⟨(i+1),by omega,by omega,wk rfl ⟨hs rfl,hs' rfl (le_int (inc64 (by omega))),hs rfl,trivial⟩ ⟨ho' rfl (app_q rfl (Nat.le_refl _) (by omega) rfl (fun _ _=>rfl)),trivial⟩ rfl⟩
  · skip
    refine cExit ?_;refine tE ?_;refine tE ?_;refine bE ?_;refine tN ?_;refine cSeq ?_;have hie:n-1=i:=by have h0:=of_decide_eq_false hc1;omega
    subst hie;exact AW.wk (wkRow 3 rfl)<|cReg<|mW rfl<|mC0 (aQCut (K:=M) (n:=(n-1)) (c:=(derE c)) (by omega)) rfl rfl rfl<|mW rfl<|mT<|cRet<|rQ rfl (AV.le.rfl)
theorem aQTo{a:Lf}{K n:Nat}{c:Nat→Rat}(ha:IsQP a K n c)(hn:n≤1000000:=by decide)(hK:K≤10000000:=by decide):ACall Tryz.prog 19 [.one a] (.d (.one (prow K n (numF c)))):=by
  obtain ⟨ha,za⟩:=ha;refine ACall.le (dl (DV.l ha) dl0) AV.le.rfl<|acallN hTT 21 [.tmp 2] Tryz.func19 rfl rfl rfl rfl rfl<|cR<|mW rfl<|mT<|cR<|mW rfl<|mT<|cSeq<|cSeq<|AW.wk (wkNil 3 3 42 2 (fun _ _=> .v undef) rfl rfl)<|cReg<|mv3 rfl rfl rfl<|mT<|cBlock<|cLoop (ι:=Nat) (fun (i:Nat)=>⟨21,[(0,.d (.one (.row 4 n (qel K c)))),(5,.d (.one (.row 4 n (qel K c)))),(6,.d (.one (.v (.int .i64 (n:Int))))),(7,.d (.one (.v (.int .i64 ((i:Nat):Int))))),(3,.own 3)],[(3,.row 42 2 i (zel K (numF c)))]⟩) (fun (i:Nat)=>i≤n) (fun (i:Nat)=>n-i) 0 (Nat.zero_le _) (wk rfl ⟨hs rfl,hs rfl,hs rfl,hs rfl,hs rfl,trivial⟩ ⟨ho' rfl (leo_row0),trivial⟩ rfl) ?_;rintro i hI;have hi:i≤n:=hI;show AW _ _ _ ⟨_,_,_⟩
  refine cR<|mW rfl<|mT<|cSeq<|cCond rfl (fun hc1=>?_) (fun hc1=>?_)
  · skip
    refine cSkip ?_;refine tN ?_;refine cSeq ?_;refine cBlock ?_;refine cSeq ?_;have hin:i < n:=by have h0:=of_decide_eq_true hc1;omega
    refine cReg<|mv2 rfl rfl<|mT<|cReg<|mv3 rfl rfl rfl<|mV hTT (.d (.one (.at 4 ((qel K c) i)))) (ixR (el:=(qel K c)) (z:=((i:Nat):Int)) (n:=n) rfl rfl rfl rfl rfl rfl (by omega) (by omega)) ?_;exact mv2 rfl rfl<|mC0 (aRTo (isr K (Rat.num (c i))) (by omega)) rfl rfl rfl<|mB hTT (.d (.one (.row 2 1 (fun i' j'=>((zn K (Rat.num (c i)))[i'*2+j']?).getD (.v undef))))) rfl<|mA hTT (id:=3) (n:=i) (m:=1) (el:=(zel K (numF c))) (el2:=(fun i' j'=>((zn K (Rat.num (c i)))[i'*2+j']?).getD (.v undef))) rfl rfl rfl (by show (i+1)*32≤140737488355328;omega) (by omega) rfl rfl rfl rfl rfl rfl rfl rfl rfl rfl<|mW rfl<|mNil<|bN<|tN<|cReg<|mv2 rfl rfl<|mNil<|⟨(i+1),by omega,by omega,wk rfl ⟨hs rfl,hs rfl,hs rfl,hs' rfl (le_int (inc64 (by omega))),hs rfl,trivial⟩ ⟨ho' rfl (app_z rfl (Nat.le_refl _) (Nat.le_refl _) rfl (fun _ _=>rfl)),trivial⟩ rfl⟩
  · skip
    refine cExit ?_;refine tE ?_;refine tE ?_;refine bE ?_;refine tN ?_;refine cSeq ?_;have hie:n=i:=by have h0:=of_decide_eq_false hc1;omega
    subst hie;exact AW.wk (wkRow 3 rfl)<|cReg<|mv2 rfl rfl<|mT<|cRet<|rQ rfl (AV.le.rfl)
theorem leo_rnt{t:TypeId}{K L:Nat}{x z:Int}(e:x=z)(h:z.natAbs < B4^L):AO.le (.box t (rn K x)) (.box t (rn L z)):=by subst e;exact leo_box (rn_tight h)
theorem leo_nilrt{t:TypeId}{K:Nat}{z:Int}(h:z=0):AO.le (.box t [.v (.slice none 0 0),.v (.bool false)]) (.box t (rn K z)):=by subst h;exact leo_nilr
theorem prm_q{c:Nat→Int}{n:Nat}{y:Rat}(hz:∀ i,n≤i→c i=0)(htop:c (n-1)≠0)(hn:n≠0)(hy:y=(conS c n:Rat)):(∀ i,fsclQ (rc c) (((1:Int):Rat) / y) i=rc (prm c n) i)∧dg (fsclQ (rc c) (((1:Int):Rat) / y)) n=n:=by
  have hip:IP n c:=⟨hz,fun _=>htop⟩;have hc0:=rc_ne (hip.conS_ne hn);have e:∀ i,fsclQ (rc c) (((1:Int):Rat) / y) i=rc (prm c n) i:=fun i=>by
    have h:=prm_eq hz i;show (c i:Rat)*(((1:Int):Rat) / y)=(prm c n i:Rat)
    rw [hy,← h,Rat.intCast_mul];have:((1:Int):Rat)=1:=rfl;rw [this];grind
  refine ⟨e,dg_stop (Or.inr ?_)⟩;rw [e];exact rc_ne ((hip.pm hn).ip.l hn)
theorem aQPrim{K M n:Nat}{c:Nat→Int}(hz:∀ i,n≤i→c i=0)(htop:c (n-1)≠0)(hn0:n≠0)(hn:n≤1000)(hK:K≤1000000)(hM:2*K+300≤M):ACall Tryz.prog 178 [.one (qrow K n (rc c))] (.tup [.agg (qn M (conS c n:Rat)),.one (qrow M n (rc (prm c n)))]):=by
  have one_b4:Int.natAbs 1 < B4^64:=by decide
  refine acallN hTT 75 [.cell 2 30,.tmp 3] Tryz.func178 rfl rfl rfl rfl rfl<|cR<|mN hTT (.box 30 ([.v (.slice none 0 0),.v (.bool false),.v (.slice none 0 0),.v (.bool false)])) rfl rfl rfl<|mW rfl<|mT<|cSeq<|cR<|mv2 rfl rfl<|mV hTT (.d (.one (.v (.bool false)))) (evb (beq_eq_false_iff_ne.2 (by omega)))<|mT<|cFs rfl<|cR<|mC0 (aROf (n:=1) (by decide) (by decide)) rfl rfl rfl<|mN hTT (.box 28 ([.v (.slice none 0 0),.v (.bool false)])) rfl rfl rfl<|mS hTT 4 (.box 28 (rn 64 1)) rfl<|mT<|cSeq<|cR<|mv3 rfl rfl rfl<|mT<|cBlock<|cLoop (ι:=Nat) (fun (i:Nat)=>⟨75,[(0,.d (.one (.row 4 n (qel K (rc c))))),(2,.ptr 2 0),(3,.d (.one (.v (.slice none 0 0)))),(4,.ptr 4 0),(15,.d (.one (.v (.int .i64 (n:Int))))),(16,.d (.one (.v (.int .i64 ((i:Nat):Int)))))],[(2,.box 30 ([.v (.slice none 0 0),.v (.bool false),.v (.slice none 0 0),.v (.bool false)])),(4,.box 28 (rn 64 1))]⟩) (fun (i:Nat)=>i≤n) (fun (i:Nat)=>n-i) 0 (Nat.zero_le _) (wk rfl ⟨hs rfl,hs rfl,hs rfl,hs rfl,hs rfl,hs' rfl (le_int rfl),trivial⟩ ⟨ho rfl,ho rfl,trivial⟩ rfl) ?_;rintro i hI;have hi:i≤n:=hI;show AW _ _ _ ⟨_,_,_⟩
  refine cR<|mW rfl<|mT<|cSeq<|cCond rfl (fun hc1=>?_) (fun hc1=>?_)
  · skip
    refine cSkip ?_;refine tN ?_;refine cSeq ?_;refine cBlock ?_;refine cSeq ?_;have hin:i < n:=by have h0:=of_decide_eq_true hc1;omega
    refine cReg<|mv2 rfl rfl<|mT<|cDrawK hTT 15 (by kernel_rfl) (by kernel_rfl) (by kernel_rfl)<|.cons (OpS.V (.d (.agg (rn 64 1))) rfl)<|.cons (OpS.V _ rfl)<|.cons (OpS.V _ rfl)<|.cons (OpS.V (.d (.one (.at 4 ((qel K (rc c)) i)))) (ixR (el:=(qel K (rc c))) (z:=((i:Nat):Int)) (n:=n) rfl rfl rfl rfl rfl rfl (by omega) (by omega))) ?_;refine .cons (OpS.V _ rfl)<|.cons (OpS.V (.d (.agg (rn K (Rat.den ((rc c) i):Int)))) rfl)<|.cons (OpS.C0 (aRMul (isr 64 1) (isr K (Rat.den ((rc c) i):Int)) (M:=(64+K)) (by omega) (by decide) (by omega)) rfl rfl rfl)<|.cons (OpS.V (.d (.agg (rn 64 1))) rfl)<|.cons (OpS.V _ rfl)<|.cons (OpS.V _ rfl)<|.cons (OpS.V (.d (.one (.at 4 ((qel K (rc c)) i)))) (ixR (el:=(qel K (rc c))) (z:=((i:Nat):Int)) (n:=n) rfl rfl rfl rfl rfl rfl (by omega) (by omega))) ?_;exact .cons (OpS.V _ rfl)<|.cons (OpS.V (.d (.agg (rn K (Rat.den ((rc c) i):Int)))) rfl)<|.cons (OpS.C0 (aRGcd (isr 64 1) (isr K (Rat.den ((rc c) i):Int)) (M:=(max 64 K)) (by omega) (by omega)) rfl rfl rfl)<|.cons (OpS.C0 (aRQuo (isr (64+K) (1*(Rat.den ((rc c) i):Int))) (isr (max 64 K) ((Nat.gcd (Int.natAbs 1) (Int.natAbs (Rat.den ((rc c) i):Int)):Nat):Int)) (by show ((Nat.gcd (Int.natAbs 1) (Int.natAbs 1):Nat):Int)≠0;decide) ⟨1,by show (1*(1:Int))=((Nat.gcd (Int.natAbs 1) (Int.natAbs 1):Nat):Int)*1;decide⟩ (M:=(64+K)) (by omega) (by omega) (by omega)) rfl rfl rfl)<|.nil<|mS hTT 4 (.box 28 (rn (64+K) ((1*(Rat.den ((rc c) i):Int)) / ((Nat.gcd (Int.natAbs 1) (Int.natAbs (Rat.den ((rc c) i):Int)):Nat):Int)))) rfl<|mNil<|bN<|tN<|cReg<|mv2 rfl rfl<|mNil<|⟨(i+1),by omega,by omega,wk rfl ⟨hs rfl,hs rfl,hs rfl,hs rfl,hs rfl,hs' rfl (le_int (inc64 (by omega))),trivial⟩ ⟨ho rfl,ho' rfl (leo_rnt (by show (1*(1:Int)) / ((Nat.gcd (Int.natAbs 1) (Int.natAbs 1):Nat):Int)=1;decide) one_b4),trivial⟩ rfl⟩
  · skip
    refine cExit<|tE<|tE<|bE<|tN<|cR<|mN hTT (.box 28 ([.v (.slice none 0 0),.v (.bool false)])) rfl rfl rfl<|mT<|cSeq<|cR<|mv3 rfl rfl rfl<|mT<|cBlock<|cLoop (ι:=Nat) (fun (i:Nat)=>⟨75,[(0,.d (.one (.row 4 n (qel K (rc c))))),(2,.ptr 2 0),(3,.d (.one (.v (.slice none 0 0)))),(4,.ptr 4 0),(6,.ptr 6 0),(36,.d (.one (.v (.int .i64 (n:Int))))),(37,.d (.one (.v (.int .i64 ((i:Nat):Int)))))],[(2,.box 30 ([.v (.slice none 0 0),.v (.bool false),.v (.slice none 0 0),.v (.bool false)])),(4,.box 28 (rn 64 1)),(6,.box 28 (rn (K+64) ((gcdN c i:Nat):Int)))]⟩) (fun (i:Nat)=>i≤n) (fun (i:Nat)=>n-i) 0 (Nat.zero_le _) (wk rfl ⟨hs rfl,hs rfl,hs rfl,hs rfl,hs rfl,hs rfl,hs' rfl (le_int rfl),trivial⟩ ⟨ho rfl,ho rfl,ho' rfl (leo_nilrt rfl),trivial⟩ rfl) ?_;rintro i hI;have hi:i≤n:=hI;show AW _ _ _ ⟨_,_,_⟩
    refine cR<|mW rfl<|mT<|cSeq<|cCond rfl (fun hc2=>?_) (fun hc2=>?_)
    · skip
      refine cSkip ?_;refine tN ?_;refine cSeq ?_;refine cBlock ?_;refine cSeq ?_;have hin:i < n:=by have h0:=of_decide_eq_true hc2;omega
      refine cReg<|mv2 rfl rfl<|mT<|cDrawK hTT 15 (by kernel_rfl) (by kernel_rfl) (by kernel_rfl)<|.cons (OpS.V (.d (.agg (rn (K+64) ((gcdN c i:Nat):Int)))) rfl)<|.cons (OpS.V _ rfl)<|.cons (OpS.V _ rfl)<|.cons (OpS.V (.d (.one (.at 4 ((qel K (rc c)) i)))) (ixR (el:=(qel K (rc c))) (z:=((i:Nat):Int)) (n:=n) rfl rfl rfl rfl rfl rfl (by omega) (by omega))) ?_;refine .cons (OpS.V _ rfl)<|.cons (OpS.V (.d (.agg (rn K (Rat.num ((rc c) i))))) rfl)<|.cons (OpS.V (.d (.agg (rn 64 1))) rfl)<|.cons (OpS.C0 (aRMul (isr K (Rat.num ((rc c) i))) (isr 64 1) (M:=(K+64)) (by omega) (by omega) (by decide)) rfl rfl rfl)<|.cons (OpS.V _ rfl)<|.cons (OpS.V _ rfl)<|.cons (OpS.V (.d (.one (.at 4 ((qel K (rc c)) i)))) (ixR (el:=(qel K (rc c))) (z:=((i:Nat):Int)) (n:=n) rfl rfl rfl rfl rfl rfl (by omega) (by omega))) ?_;exact .cons (OpS.V _ rfl)<|.cons (OpS.V (.d (.agg (rn K (Rat.den ((rc c) i):Int)))) rfl)<|.cons (OpS.C0 (aRQuo (isr (K+64) ((Rat.num ((rc c) i))*1)) (isr K (Rat.den ((rc c) i):Int)) (by show (1:Int)≠0;decide) ⟨_,(Int.one_mul _).symm⟩ (M:=(K+64)) (by omega) (by omega) (by omega)) rfl rfl rfl)<|.cons (OpS.C0 (aRGcd (isr (K+64) ((gcdN c i:Nat):Int)) (isr (K+64) (((Rat.num ((rc c) i))*1) / (Rat.den ((rc c) i):Int))) (M:=(max (K+64) (K+64))) (by omega) (by omega)) rfl rfl rfl)<|.nil<|mS hTT 6 (.box 28 (rn (max (K+64) (K+64)) ((Nat.gcd (Int.natAbs ((gcdN c i:Nat):Int)) (Int.natAbs (((Rat.num ((rc c) i))*1) / (Rat.den ((rc c) i):Int))):Nat):Int))) rfl<|mNil<|bN<|tN<|cReg<|mv2 rfl rfl<|mNil<|⟨(i+1),by omega,by omega,wk rfl ⟨hs rfl,hs rfl,hs rfl,hs rfl,hs rfl,hs rfl,hs' rfl (le_int (inc64 (by omega))),trivial⟩ ⟨ho rfl,ho rfl,ho' rfl (leo_rn (by omega) (by show ((Nat.gcd (Int.natAbs ((gcdN c i:Nat):Int)) (Int.natAbs (c i*1 / 1)):Nat):Int)=((Nat.gcd (gcdN c i) (c i).natAbs:Nat):Int);rw [Int.natAbs_natCast,Int.mul_one,Int.ediv_one])),trivial⟩ rfl⟩
    · skip
      refine cExit ?_;refine tE ?_;refine tE ?_;refine bE ?_;refine tN ?_;refine cSeq ?_;have hin2:i=n:=by have h0:=of_decide_eq_false hc2;omega
      subst hin2;refine cReg<|mv2 rfl rfl<|mC0 (aRMake (isr (K+64) ((gcdN c i:Nat):Int)) (isr 64 1) (M:=(max (K+64) (max 64 64))) (by omega) (by omega)) rfl rfl rfl<|mN hTT (.box 30 ([.v (.slice none 0 0),.v (.bool false),.v (.slice none 0 0),.v (.bool false)])) rfl rfl rfl<|mS hTT 8 (.box 30 (qn (max (K+64) (max 64 64)) (mkR ((gcdN c i:Nat):Int) 1))) rfl<|mT<|cSeq<|cR<|mv3 rfl rfl rfl<|mV hTT (.d (.one (.v (.int .i64 ((i-1:Nat):Int))))) (evi ((wr64 (by omega) (by omega)).trans (by omega)))<|mV hTT (.d (.one (.at 4 ((qel K (rc c)) (i-1))))) (ixR (el:=(qel K (rc c))) (z:=((i-1:Nat):Int)) (n:=i) rfl rfl rfl rfl rfl rfl (by omega) (by omega)) ?_;refine mv3 rfl rfl rfl<|mT<|cCond rfl (fun hc3=>?_) (fun hc3=>?_)
      · skip
        refine cReg<|mW rfl<|mC0 (aRNegR (isq (max (K+64) (max 64 64)) (mkR ((gcdN c i:Nat):Int) 1)) (by omega)) rfl rfl rfl<|mS hTT 8 (.box 30 (qn (max (K+64) (max 64 64)) (-(mkR ((gcdN c i:Nat):Int) 1)))) rfl<|mT<|cSeq ?_;have hy:(-(mkR (((gcdN c i:Nat):Int)) 1))=(conS c i:Rat):=by {unfold conS;rw [mkR_int];have hcc:decide (c (i-1) < 0)=true:=hc3;rw [if_pos (of_decide_eq_true hcc)];try exact (Rat.intCast_neg _).symm}
        have hprm:=prm_q hz htop hn0 hy;have hyn:(-(mkR (((gcdN c i:Nat):Int)) 1))≠0:=by {rw [hy];exact rc_ne ((IP.conS_ne ⟨hz,fun _=>htop⟩) hn0)}
        exact cDrawK hTT 6 (by kernel_rfl) (by kernel_rfl) (by kernel_rfl)<|.cons (OpS.V (.d (.agg (qn (max (K+64) (max 64 64)) (-(mkR ((gcdN c i:Nat):Int) 1))))) rfl)<|.cons (OpS.V _ rfl)<|.cons (OpS.C0 (aROfI (n:=1) (by decide) (by decide)) rfl rfl rfl)<|.cons (OpS.V (.d (.agg (qn (max (K+64) (max 64 64)) (-(mkR ((gcdN c i:Nat):Int) 1))))) rfl)<|.cons (OpS.C0 (aRQuoR (isq 64 ((1:Int):Rat)) (isq (max (K+64) (max 64 64)) (-(mkR ((gcdN c i:Nat):Int) 1))) hyn (M:=(max (64+(max (K+64) (max 64 64))+1) 64)) (by omega) (by omega)) rfl rfl rfl)<|.cons (OpS.C0 (aQScale (isqp (K:=K) (c:=(rc c)) (rc_z hz)) (isq (max (64+(max (K+64) (max 64 64))+1) 64) (((1:Int):Rat) / (-(mkR ((gcdN c i:Nat):Int) 1)))) (M:=(max ((K+(max (64+(max (K+64) (max 64 64))+1) 64))+1) 64)) (by omega) (by omega) (by omega)) rfl rfl rfl)<|.nil<|mS hTT 2 (.box 30 (qn (max (K+64) (max 64 64)) (-(mkR ((gcdN c i:Nat):Int) 1)))) rfl<|mW rfl<|mT<|cRet<|rQ rfl (le_tup (dl (dle (le_qn (by omega) hy)) (dl (dle (le_qrow (by omega) hprm.2 (fun j _=>hprm.1 j))) dl0)))
      · skip
        refine cSkip<|tN<|cSeq ?_;have hy:(mkR (((gcdN c i:Nat):Int)) 1)=(conS c i:Rat):=by {unfold conS;rw [mkR_int];have hcc:decide (c (i-1) < 0)=false:=hc3;rw [if_neg (of_decide_eq_false hcc)];try rfl}
        have hprm:=prm_q hz htop hn0 hy;have hyn:(mkR (((gcdN c i:Nat):Int)) 1)≠0:=by {rw [hy];exact rc_ne ((IP.conS_ne ⟨hz,fun _=>htop⟩) hn0)}
        exact cDrawK hTT 6 (by kernel_rfl) (by kernel_rfl) (by kernel_rfl)<|.cons (OpS.V (.d (.agg (qn (max (K+64) (max 64 64)) (mkR ((gcdN c i:Nat):Int) 1)))) rfl)<|.cons (OpS.V _ rfl)<|.cons (OpS.C0 (aROfI (n:=1) (by decide) (by decide)) rfl rfl rfl)<|.cons (OpS.V (.d (.agg (qn (max (K+64) (max 64 64)) (mkR ((gcdN c i:Nat):Int) 1)))) rfl)<|.cons (OpS.C0 (aRQuoR (isq 64 ((1:Int):Rat)) (isq (max (K+64) (max 64 64)) (mkR ((gcdN c i:Nat):Int) 1)) hyn (M:=(max (64+(max (K+64) (max 64 64))+1) 64)) (by omega) (by omega)) rfl rfl rfl)<|.cons (OpS.C0 (aQScale (isqp (K:=K) (c:=(rc c)) (rc_z hz)) (isq (max (64+(max (K+64) (max 64 64))+1) 64) (((1:Int):Rat) / (mkR ((gcdN c i:Nat):Int) 1))) (M:=(max ((K+(max (64+(max (K+64) (max 64 64))+1) 64))+1) 64)) (by omega) (by omega) (by omega)) rfl rfl rfl)<|.nil<|mS hTT 2 (.box 30 (qn (max (K+64) (max 64 64)) (mkR ((gcdN c i:Nat):Int) 1))) rfl<|mW rfl<|mT<|cRet<|rQ rfl (le_tup (dl (dle (le_qn (by omega) hy)) (dl (dle (le_qrow (by omega) hprm.2 (fun j _=>hprm.1 j))) dl0)))
theorem aQPrim0{K n:Nat}{c:Nat→Rat}(hn:n=0):ACall Tryz.prog 178 [.one (qrow K n c)] (.tup [.agg (qn 64 0),.one (.v (.slice none 0 0))]):=by
  exact acallN hTT 75 [.cell 2 30,.tmp 3] Tryz.func178 rfl rfl rfl rfl rfl<|cR<|mN hTT (.box 30 ([.v (.slice none 0 0),.v (.bool false),.v (.slice none 0 0),.v (.bool false)])) rfl rfl rfl<|mW rfl<|mT<|cSeq<|cR<|mv2 rfl rfl<|mV hTT (.d (.one (.v (.bool true)))) (evb (by subst hn;rfl))<|mT<|cT rfl<|cR<|mC0 (aQZero) rfl rfl rfl<|mS hTT 2 (.box 30 (qn 64 0)) rfl<|mW rfl<|mT<|cRet<|tR<|rQ rfl (AV.le.rfl)
theorem Db.fdv{K:Nat}{a:Nat→Int}{g:Int}(h:Db K a):Db K (fdv a g):=fun i=>Nat.lt_of_le_of_lt (by unfold Go.Proofs.YthccmbncplakjaaGreat.fdv;exact Int.natAbs_ediv_le_natAbs _ _) (h i)
theorem aQPrimB{K:Nat}{c:Nat→Int}(zc:z20 c)(hK1:1≤K)(hK:K≤1000000):ACall Tryz.prog 178 [.one (qrow K (lg c) (rc c))] (.tup [.agg (qn (2*K+300) (conS c (lg c):Rat)),.one (qrow K (lg (prm20 c)) (rc (prm20 c)))]):=by
  have hlc:=lg_le c;refine ACall.fact10 (enters Tryz.func178 rfl rfl) (p:=Db K c) (fun B w vs h=>match vs,h with | [_],⟨h1,_⟩=>qrow_bd zc.lg h1) (fun hb=>?_)
  by_cases h0:lg c=0
  · refine ACall.le (dl DV.same dl0) (le_tup (dl (dle (le_qn (by omega) ?_)) (dl (dle (nil_qrow' (by rw [prm20_lg zc];exact h0))) dl0))) (aQPrim0 (K:=K) (n:=lg c) (c:=rc c) h0)
    unfold conS;rw [h0];show (0:Rat)=_;split <;> rfl
  · refine ACall.le (dl DV.same dl0) (le_tup (dl (dle AV.le.rfl) (dl (dle ?_) dl0))) (aQPrim (K:=K) (M:=2*K+300) zc.lg (lg_ne h0) h0 (by omega) hK (Nat.le_refl _))
    rw [prm20_lg zc];exact le_qrow_t hK1 hb.fdv
theorem aQPrimP{K:Nat}{c:Nat→Int}(zc:z20 c)(hK1:1≤K)(hK:K≤1000000):ACall Tryz.prog 155 [.one (qrow K (lg c) (rc c))] (.d (.one (qrow K (lg (prm20 c)) (rc (prm20 c))))):=by
  exact acallN hTT 11 [.tmp 2] Tryz.func155 rfl rfl rfl rfl rfl<|cR<|mW rfl<|mT<|cR<|mW rfl<|mC0 (aQPrimB (K:=K) (c:=c) zc (by omega) (by omega)) rfl rfl rfl<|mv3 rfl rfl rfl<|mN hTT (.box 30 ([.v (.slice none 0 0),.v (.bool false),.v (.slice none 0 0),.v (.bool false)])) rfl rfl rfl<|mS hTT 3 (.box 30 (qn (2*K+300) (conS c (lg c):Rat))) rfl<|mW rfl<|mT<|cR<|mv2 rfl rfl<|mT<|cRet<|rQ rfl (AV.le.rfl)
theorem b4_mul{K L:Nat}{x y:Int}(hx:x.natAbs < B4^K)(hy:y.natAbs < B4^L):(x*y).natAbs < B4^(K+L):=by
  rw [Int.natAbs_mul,Nat.pow_add];exact Nat.mul_lt_mul'' hx hy
def rsN(d r:Nat→Int):Nat→Int:=fsub (fscl r ((d (lg d-1)).natAbs:Int)) (conv (mnm (if d (lg d-1) < 0 then -(r (lg r-1)) else r (lg r-1)) (lg r-lg d)) d)
theorem rsN_at(d r:Nat→Int)(j:Nat):rsN d r j=r j*((d (lg d-1)).natAbs:Int)-(if lg r-lg d≤j then (if d (lg d-1) < 0 then -(r (lg r-1)) else r (lg r-1))*d (j-(lg r-lg d)) else 0):=by
  unfold rsN fsub fscl;rw [conv_mnm]
structure RsI(c d:Nat→Int)(K L s:Nat)(r:Nat→Int):Prop where
  z:z20 r
  b:Db (K+s*(L+1)) r
  eq:∃ (Q:Fn) (κ:Rat),Po Q∧0 < κ∧∀ x,FF c x=Q x*FF d x+κ*FF r x
  l:lg r+s≤lg c
  m:s≤lg c+1-lg d
theorem RsI.start{c d:Nat→Int}{K L:Nat}(z:z20 c)(h:Db K c):RsI c d K L 0 c:=⟨z,by rw [Nat.zero_mul];exact h,⟨fun _=>0,1,po_const 0,by grind,fun x=>by grind⟩,Nat.le_refl _,Nat.zero_le _⟩
theorem RsI.step{c d r:Nat→Int}{K L s:Nat}(h:RsI c d K L s r)(zd:z20 d)(bd:Db L d)(hd0:lg d≠0)(hle:lg d≤lg r)(hc:lg c≤19):RsI c d K L (s+1) (rsN d r)∧lg (rsN d r) < lg r:=by
  obtain ⟨l,hl⟩:∃ l,l=d (lg d-1):=⟨_,rfl⟩
  have hl0:l≠0:=by rw [hl];exact lg_ne hd0
  obtain ⟨tp,htp⟩:∃ tp,tp=if l < 0 then -(r (lg r-1)) else r (lg r-1):=⟨_,rfl⟩
  have at_:∀ j,rsN d r j=r j*(l.natAbs:Int)-(if lg r-lg d≤j then tp*d (j-(lg r-lg d)) else 0):=fun j=>by rw [rsN_at,htp,hl]
  have hz:∀ j,lg r-1≤j→rsN d r j=0:=fun j hj=>by
    rw [at_,if_pos (by omega)]
    by_cases hj2:j=lg r-1
    · have e1:j-(lg r-lg d)=lg d-1:=by omega
      rw [e1,← hl,hj2,htp];split
      · have:(l.natAbs:Int)= -l:=by omega
        rw [this,Int.neg_mul_comm];omega
      · have:(l.natAbs:Int)=l:=by omega
        rw [this];omega
    · rw [h.z.lg j (by omega),zd.lg _ (by omega)];simp
  have zr:z20 (rsN d r):=fun j hj=>hz j (by have:=lg_le r;omega)
  have hlt:lg (rsN d r)≤lg r-1:=lg_of_z zr hz;have hls:=h.l;refine ⟨⟨zr,fun j=>?_,?_,by omega,by omega⟩,by omega⟩
  · have hb1:=b4_mul (h.b j) (y:=(l.natAbs:Int)) (L:=L) (by rw [hl,Int.natAbs_natCast];exact bd _)
    have htb:tp.natAbs < B4^(K+s*(L+1)):=by
      have:=h.b (lg r-1);rw [htp];split
      · rw [Int.natAbs_neg];exact this
      · exact this
    have hb2:=b4_mul htb (bd (j-(lg r-lg d)));have e:B4^(K+(s+1)*(L+1))=B4^(K+s*(L+1)+L)*B4:=by rw [← Nat.pow_succ];congr 1;rw [Nat.add_mul,Nat.one_mul];omega
    rw [e,at_];have hB:(2:Nat)≤B4:=by decide
    have h3:B4^(K+s*(L+1)+L)*2≤B4^(K+s*(L+1)+L)*B4:=Nat.mul_le_mul_left _ hB;split
    · omega
    · omega
  · obtain ⟨Q,κ,pQ,hκ,he⟩:=h.eq
    have hln:(0:Rat) < ((l.natAbs:Nat):Rat):=by exact_mod_cast (by omega:0 < l.natAbs)
    have hF:∀ x,FF (rsN d r) x=FF r x*((l.natAbs:Nat):Rat)-((tp:Rat)*x^(lg r-lg d))*FF d x:=fun x=>by
      have:=step_F (r:=r) (d:=d) (nb:=lg d) (i:=lg r-lg d) (l:=(l.natAbs:Int)) (x:=tp) zd.lg zd (by omega) x;rw [htp,hl] at this;unfold rsN;rw [this,htp,hl];rfl
    refine ⟨fun x=>Q x+κ / ((l.natAbs:Nat):Rat)*((tp:Rat)*x^(lg r-lg d)),κ / ((l.natAbs:Nat):Rat),pQ.add ((po_const _).mul (po_mono _ _)),?_,fun x=>?_⟩
    · apply Classical.byContradiction
      intro hn;have h4:=Rat.mul_le_mul_of_nonneg_right (show κ / ((l.natAbs:Nat):Rat)≤0 by grind) (show 0≤((l.natAbs:Nat):Rat) by grind);have h5:κ / ((l.natAbs:Nat):Rat)*((l.natAbs:Nat):Rat)=κ:=by grind
      grind
    · rw [he x,hF x]
      have h5:κ / ((l.natAbs:Nat):Rat)*((l.natAbs:Nat):Rat)=κ:=by grind
      grind
structure RsP(c d:Nat→Int)(M:Nat)(r:Nat→Int):Prop where
  z:z20 r
  b:Db M r
  eq:∃ (Q:Fn) (κ:Rat),Po Q∧0 < κ∧∀ x,FF c x=Q x*FF d x+κ*FF r x
  lt:lg r < lg d
theorem RsI.fin{c d r:Nat→Int}{K L M s:Nat}(h:RsI c d K L s r)(hlt:lg r < lg d)(hM:K+(lg c+1-lg d)*(L+1)≤M):RsP c d M r:=⟨h.z,h.b.mono (by
  have:=Nat.mul_le_mul_right (L+1) h.m;omega),h.eq,hlt⟩
theorem RsI.bd{c d r:Nat→Int}{K L M s:Nat}(h:RsI c d K L s r)(hM:K+(lg c+1-lg d)*(L+1)≤M):Db M r:=h.b.mono (by
  have:=Nat.mul_le_mul_right (L+1) h.m;omega)
theorem leo_absr{t:TypeId}{L:Nat}{l z:Int}(h:z=l):AO.le (.box t [dn L (Int.natAbs z),.v (.bool false)]) (.box t (rn L ((l.natAbs:Nat):Int))):=by
  subst h;have e:rn L ((z.natAbs:Nat):Int)= [dn L (Int.natAbs z),.v (.bool false)]:=by
    show [dn L (Int.natAbs ((z.natAbs:Nat):Int)),.v (.bool (decide (((z.natAbs:Nat):Int) < 0)))]=_
    rw [Int.natAbs_natCast,decide_eq_false (by omega)]
  rw [e];exact fun _ _ _ _ h=>h
theorem rsN_z{d r:Nat→Int}(zr:z20 r)(zd:z20 d)(hle:lg d≤lg r):∀ j,lg r≤j→rsN d r j=0:=fun j hj=>by
  rw [rsN_at,zr.lg j hj];split
  · rw [zd.lg (j-(lg r-lg d)) (by omega)];simp
  · simp
theorem lg_dg2{c:Nat→Int}{n:Nat}(h:∀ i,n≤i→c i=0)(z:z20 c):dg (rc c) n=lg c:=(dg_cast n).trans (lg_dg h z)
theorem le_dg_t{K L n m:Nat}{c:Nat→Int}(hn:n=m)(hL:1≤L)(h:Db L c):AV.le (.d (.one (qrow K n (rc c)))) (.d (.one (qrow L m (rc c)))):=by subst hn;exact le_qrow_t hL h
theorem aQRest{K L M:Nat}{c d:Nat→Int}(zc:z20 c)(zd:z20 d)(hd0:lg d≠0)(hc:lg c≤19)(hK:K≤100000)(hL:L≤1000000)(hM0:1≤M)(hM:K+(lg c+1-lg d)*(L+1)≤M)(hM1:M≤1000000):ACall Tryz.prog 138 [.one (qrow K (lg c) (rc c)),.one (qrow L (lg d) (rc d))] (.d (.one (exL (RsP c d M) (fun r=>qrow M (lg r) (rc r))))):=by
  have hlc:=lg_le c;have hld:=lg_le d;refine ACall.fact10 (enters Tryz.func138 rfl rfl) (p:=Db K c∧Db L d) (fun B w vs h=>match vs,h with | [_,_],⟨h1,h2,_⟩=>⟨qrow_bd zc.lg h1,qrow_bd zd.lg h2⟩) (fun hb=>?_);obtain ⟨hbc,hbd⟩:=hb;refine acallN hTT 78 [.tmp 4] Tryz.func138 rfl rfl rfl rfl rfl<|cR<|mW rfl<|mT<|cR<|mv3 rfl rfl rfl<|mV hTT (.d (.one (.v (.int .i64 ((lg d-1:Nat):Int))))) (evi ((wr64 (by omega) (by omega)).trans (by omega)))<|mV hTT (.d (.one (.at 4 ((qel L (rc d)) (lg d-1))))) (ixR (el:=(qel L (rc d))) (z:=((lg d-1:Nat):Int)) (n:=(lg d)) rfl rfl rfl rfl rfl rfl (by omega) (by omega)) ?_;refine mv2 rfl rfl<|mN hTT (.box 28 ([.v (.slice none 0 0),.v (.bool false)])) rfl rfl rfl<|mS hTT 5 (.box 28 (rn L (Rat.num ((rc d) (lg d-1))))) rfl<|mT<|cR<|mW rfl<|mN hTT (.box 28 ([.v (.slice none 0 0),.v (.bool false)])) rfl rfl rfl<|mS hTT 6 (.box 28 (rn L (Rat.num ((rc d) (lg d-1))))) rfl<|mT<|cR<|mW rfl<|mS hTT 6 (.box 28 ([dn L (Int.natAbs (Rat.num ((rc d) (lg d-1)))),.v (.bool false)])) rfl<|mT<|cSeq<|cBlock<|wK [6,5,4,1,0] [6,5] rfl rfl<|wB [6,5,4,1,0] [6] 5 (.box 28 (rn L (d (lg d-1)))) rfl rfl (leo_rn (Nat.le_refl _) rfl) rfl<|wB [6,5,4,1,0] [5] 6 (.box 28 (rn L ((Int.natAbs (d (lg d-1)):Nat):Int))) rfl rfl (leo_absr rfl) rfl<|cLoop (ι:=Nat×(Nat→Int)) (fun (p:Nat×(Nat→Int))=>match p with | (s,r)=>⟨78,[(1,.d (.one (.row 4 (lg d) (qel L (rc d))))),(4,.d (.one (.v (.slice none 0 0)))),(5,.ptr 5 0),(6,.ptr 6 0),(0,.d (.one (.row 4 (lg r) (qel M (rc r)))))],[(5,.box 28 (rn L (d (lg d-1)))),(6,.box 28 (rn L ((Int.natAbs (d (lg d-1)):Nat):Int)))]⟩) (fun (p:Nat×(Nat→Int))=>match p with | (s,r)=>RsI c d K L s r) (fun (p:Nat×(Nat→Int))=>match p with | (s,r)=>lg r) (0,c) (.start zc hbc) (wk rfl ⟨hs rfl,hs rfl,hs rfl,hs rfl,hs' rfl (le_qrow (by omega) rfl (fun _ _=>rfl)),trivial⟩ ⟨ho rfl,ho rfl,trivial⟩ rfl) ?_;rintro ⟨s,r⟩ hI;have hI:RsI c d K L s r:=hI;show AW _ _ _ ⟨_,_,_⟩
  refine cSeq<|cR<|mv5 rfl rfl rfl rfl rfl<|mT<|cCond rfl (fun hc1=>?_) (fun hc1=>?_)
  · skip
    refine cSkip ?_;refine tN ?_;refine cBlock ?_;refine cSeq ?_;have hle:lg d≤lg r:=by have h0:=of_decide_eq_true hc1;omega
    have hlr:=lg_le r;obtain ⟨hN,hlt⟩:=hI.step zd hbd hd0 hle hc;refine cReg<|mv4 rfl rfl rfl rfl<|mV hTT (.d (.one (.v (.int .i64 ((lg r-lg d:Nat):Int))))) (evi ((wr64 (by omega) (by omega)).trans (by omega)))<|mW rfl<|mT<|cR<|mv3 rfl rfl rfl<|mV hTT (.d (.one (.v (.int .i64 ((lg r-1:Nat):Int))))) (evi ((wr64 (by omega) (by omega)).trans (by omega)))<|mV hTT (.d (.one (.at 4 ((qel M (rc r)) (lg r-1))))) (ixR (el:=(qel M (rc r))) (z:=((lg r-1:Nat):Int)) (n:=(lg r)) rfl rfl rfl rfl rfl rfl (by omega) (by omega)) ?_;refine mv2 rfl rfl<|mN hTT (.box 28 ([.v (.slice none 0 0),.v (.bool false)])) rfl rfl rfl<|mS hTT 8 (.box 28 (rn M (Rat.num ((rc r) (lg r-1))))) rfl<|mT<|cSeq<|cR<|mv2 rfl rfl<|mT<|cCond rfl (fun hc2=>?_) (fun hc2=>?_)
    · skip
      refine cReg<|mW rfl<|mC0 (aRNeg (isr M (Rat.num ((rc r) (lg r-1)))) (M:=M) (by omega) (by omega)) rfl rfl rfl<|mS hTT 8 (.box 28 (rn M (-(Rat.num ((rc r) (lg r-1)))))) rfl<|mT<|cSeq<|wK [8,7,0,6,5,4,1] [8,6,5] rfl rfl<|wB [8,7,0,6,5,4,1] [6,5] 8 (.box 28 (rn M (if d (lg d-1) < 0 then -(r (lg r-1)) else r (lg r-1)))) rfl rfl (leo_rn (by omega) (by rw [if_pos (of_decide_eq_true hc2)];rfl)) rfl<|cReg<|mW rfl<|mT<|cSeq<|cSeq ?_;have hO:=hI;refine AW.wk (wkNil 9 9 30 4 (fun _ _=> .v undef) rfl rfl)<|cReg<|mv3 rfl rfl rfl<|mT<|cBlock<|cLoop (ι:=Nat) (fun (i:Nat)=>⟨78,[(0,.d (.one (.row 4 (lg r) (qel M (rc r))))),(1,.d (.one (.row 4 (lg d) (qel L (rc d))))),(4,.d (.one (.v (.slice none 0 0)))),(5,.ptr 5 0),(6,.ptr 6 0),(7,.d (.one (.v (.int .i64 ((lg r-lg d:Nat):Int))))),(8,.ptr 8 0),(43,.d (.one (.v (.int .i64 ((lg r:Nat):Int))))),(9,.own 9),(44,.d (.one (.v (.int .i64 ((i:Nat):Int)))))],[(5,.box 28 (rn L (d (lg d-1)))),(6,.box 28 (rn L ((Int.natAbs (d (lg d-1)):Nat):Int))),(8,.box 28 (rn M (if d (lg d-1) < 0 then -(r (lg r-1)) else r (lg r-1)))),(9,.row 30 4 i (qel (M+L+70) (rc (rsN d r))))]⟩) (fun (i:Nat)=>i≤lg r) (fun (i:Nat)=>lg r-i) 0 (Nat.zero_le _) (wk rfl ⟨hs rfl,hs rfl,hs rfl,hs rfl,hs rfl,hs rfl,hs rfl,hs rfl,hs rfl,hs' rfl (le_int rfl),trivial⟩ ⟨ho rfl,ho rfl,ho rfl,ho' rfl (leo_row0),trivial⟩ rfl) ?_;rintro i hI;have hi:i≤lg r:=hI;show AW _ _ _ ⟨_,_,_⟩
      refine cR<|mW rfl<|mT<|cSeq<|cCond rfl (fun hc3=>?_) (fun hc3=>?_)
      · skip
        refine cSkip ?_;refine tN ?_;refine cSeq ?_;refine cBlock ?_;refine cSeq ?_;have hin:i < lg r:=by have h0:=of_decide_eq_true hc3;omega
        refine cReg<|mv2 rfl rfl<|mT<|cSeq<|cDrawK hTT 8 (by kernel_rfl) (by kernel_rfl) (by kernel_rfl)<|.cons (OpS.V _ rfl)<|.cons (OpS.V _ rfl)<|.cons (OpS.V (.d (.one (.at 4 ((qel M (rc r)) i)))) (ixR (el:=(qel M (rc r))) (z:=((i:Nat):Int)) (n:=(lg r)) rfl rfl rfl rfl rfl rfl (by omega) (by omega))) ?_;refine .cons (OpS.V _ rfl)<|.cons (OpS.V (.d (.agg (rn M (Rat.num ((rc r) i))))) rfl)<|.cons (OpS.V (.d (.agg (rn L ((Int.natAbs (d (lg d-1)):Nat):Int)))) rfl)<|.cons (OpS.C0 (aRMul (isr M (Rat.num ((rc r) i))) (isr L ((Int.natAbs (d (lg d-1)):Nat):Int)) (M:=(M+L)) (by omega) (by omega) (by omega)) rfl rfl rfl)<|.cons (OpS.N (.box 28 ([.v (.slice none 0 0),.v (.bool false)])) rfl 11 rfl rfl)<|.nil<|mS hTT 11 (.box 28 (rn (M+L) ((Rat.num ((rc r) i))*((Int.natAbs (d (lg d-1)):Nat):Int)))) rfl<|mT<|cSeq<|cR<|mv3 rfl rfl rfl<|mT<|cCond rfl (fun hc4=>?_) (fun hc4=>?_)
        · skip
          have hki:lg r-lg d≤i:=by have h0:=of_decide_eq_true hc4;omega
          refine cDrawK hTT 11 (by kernel_rfl) (by kernel_rfl) (by kernel_rfl)<|.cons (OpS.V (.d (.agg (rn (M+L) ((Rat.num ((rc r) i))*((Int.natAbs (d (lg d-1)):Nat):Int))))) rfl)<|.cons (OpS.V (.d (.agg (rn M (if d (lg d-1) < 0 then -(r (lg r-1)) else r (lg r-1))))) rfl)<|.cons (OpS.V _ rfl)<|.cons (OpS.V _ rfl)<|.cons (OpS.V _ rfl)<|.cons (OpS.V (.d (.one (.v (.int .i64 ((i-(lg r-lg d):Nat):Int))))) (evi ((wr64 (by omega) (by omega)).trans (by omega))))<|.cons (OpS.V (.d (.one (.at 4 ((qel L (rc d)) (i-(lg r-lg d)))))) (ixR (el:=(qel L (rc d))) (z:=((i-(lg r-lg d):Nat):Int)) (n:=(lg d)) rfl rfl rfl rfl rfl rfl (by omega) (by omega))) ?_;exact .cons (OpS.V _ rfl)<|.cons (OpS.V (.d (.agg (rn L (Rat.num ((rc d) (i-(lg r-lg d))))))) rfl)<|.cons (OpS.C0 (aRMul (isr M (if d (lg d-1) < 0 then -(r (lg r-1)) else r (lg r-1))) (isr L (Rat.num ((rc d) (i-(lg r-lg d))))) (M:=(M+L)) (by omega) (by omega) (by omega)) rfl rfl rfl)<|.cons (OpS.C0 (aRSub (isr (M+L) ((Rat.num ((rc r) i))*((Int.natAbs (d (lg d-1)):Nat):Int))) (isr (M+L) ((if d (lg d-1) < 0 then -(r (lg r-1)) else r (lg r-1))*(Rat.num ((rc d) (i-(lg r-lg d)))))) (M:=(max (M+L) (M+L)+1)) (by omega) (by omega) (by omega)) rfl rfl rfl)<|.nil<|mS hTT 11 (.box 28 (rn (max (M+L) (M+L)+1) (((Rat.num ((rc r) i))*((Int.natAbs (d (lg d-1)):Nat):Int))-((if d (lg d-1) < 0 then -(r (lg r-1)) else r (lg r-1))*(Rat.num ((rc d) (i-(lg r-lg d)))))))) rfl<|mT<|cDrawK hTT 5 (by kernel_rfl) (by kernel_rfl) (by kernel_rfl)<|.cons (OpS.V _ rfl)<|.cons (OpS.V (.d (.agg (rn (max (M+L) (M+L)+1) (((Rat.num ((rc r) i))*((Int.natAbs (d (lg d-1)):Nat):Int))-((if d (lg d-1) < 0 then -(r (lg r-1)) else r (lg r-1))*(Rat.num ((rc d) (i-(lg r-lg d))))))))) rfl)<|.cons (OpS.C0 (aROf (n:=1) (by decide) (by decide)) rfl rfl rfl)<|.cons (OpS.C0 (aRMake (isr (max (M+L) (M+L)+1) (((Rat.num ((rc r) i))*((Int.natAbs (d (lg d-1)):Nat):Int))-((if d (lg d-1) < 0 then -(r (lg r-1)) else r (lg r-1))*(Rat.num ((rc d) (i-(lg r-lg d))))))) (isr 64 1) (M:=(max (max (M+L) (M+L)+1) (max 64 64))) (by omega) (by omega)) rfl rfl rfl)<|.cons (OpS.B _ rfl)<|.nil<|mA hTT (id:=9) (n:=i) (m:=1) (el:=(qel (M+L+70) (rc (rsN d r)))) (el2:=(fun i' j'=>((qn (max (max (M+L) (M+L)+1) (max 64 64)) (mkR (((Rat.num ((rc r) i))*((Int.natAbs (d (lg d-1)):Nat):Int))-((if d (lg d-1) < 0 then -(r (lg r-1)) else r (lg r-1))*(Rat.num ((rc d) (i-(lg r-lg d)))))) 1))[i'*4+j']?).getD (.v undef))) rfl rfl rfl (by show (i+1)*64≤140737488355328;omega) (by omega) rfl rfl rfl rfl rfl rfl rfl rfl rfl rfl<|mW rfl<|mNil<|bN<|tN<|cReg<|mv2 rfl rfl<|mNil<|⟨(i+1),by omega,by omega,wk rfl ⟨hs rfl,hs rfl,hs rfl,hs rfl,hs rfl,hs rfl,hs rfl,hs rfl,hs rfl,hs' rfl (le_int (inc64 (by omega))),trivial⟩ ⟨ho rfl,ho rfl,ho rfl,ho' rfl (app_q (q:=(mkR (((Rat.num ((rc r) i))*((Int.natAbs (d (lg d-1)):Nat):Int))-((if d (lg d-1) < 0 then -(r (lg r-1)) else r (lg r-1))*(Rat.num ((rc d) (i-(lg r-lg d)))))) 1)) (M:=(max (max (M+L) (M+L)+1) (max 64 64))) rfl (Nat.le_refl _) (by omega) (by rw [mkR_int];show _=((rsN d r i:Int):Rat);rw [rsN_at,if_pos (hki)];rfl) (fun _ _=>rfl)),trivial⟩ rfl⟩
        · skip
          refine cSkip ?_;refine tN ?_;have hki:¬ lg r-lg d≤i:=by have h0:=of_decide_eq_false hc4;omega
          exact cDrawK hTT 5 (by kernel_rfl) (by kernel_rfl) (by kernel_rfl)<|.cons (OpS.V _ rfl)<|.cons (OpS.V (.d (.agg (rn (M+L) ((Rat.num ((rc r) i))*((Int.natAbs (d (lg d-1)):Nat):Int))))) rfl)<|.cons (OpS.C0 (aROf (n:=1) (by decide) (by decide)) rfl rfl rfl)<|.cons (OpS.C0 (aRMake (isr (M+L) ((Rat.num ((rc r) i))*((Int.natAbs (d (lg d-1)):Nat):Int))) (isr 64 1) (M:=(max (M+L) (max 64 64))) (by omega) (by omega)) rfl rfl rfl)<|.cons (OpS.B _ rfl)<|.nil<|mA hTT (id:=9) (n:=i) (m:=1) (el:=(qel (M+L+70) (rc (rsN d r)))) (el2:=(fun i' j'=>((qn (max (M+L) (max 64 64)) (mkR ((Rat.num ((rc r) i))*((Int.natAbs (d (lg d-1)):Nat):Int)) 1))[i'*4+j']?).getD (.v undef))) rfl rfl rfl (by show (i+1)*64≤140737488355328;omega) (by omega) rfl rfl rfl rfl rfl rfl rfl rfl rfl rfl<|mW rfl<|mNil<|bN<|tN<|cReg<|mv2 rfl rfl<|mNil<|⟨(i+1),by omega,by omega,wk rfl ⟨hs rfl,hs rfl,hs rfl,hs rfl,hs rfl,hs rfl,hs rfl,hs rfl,hs rfl,hs' rfl (le_int (inc64 (by omega))),trivial⟩ ⟨ho rfl,ho rfl,ho rfl,ho' rfl (app_q (q:=(mkR ((Rat.num ((rc r) i))*((Int.natAbs (d (lg d-1)):Nat):Int)) 1)) (M:=(max (M+L) (max 64 64))) rfl (Nat.le_refl _) (by omega) (by rw [mkR_int];show _=((rsN d r i:Int):Rat);rw [rsN_at,if_neg (hki)];rw [Int.sub_zero];rfl) (fun _ _=>rfl)),trivial⟩ rfl⟩
      · skip
        refine cExit ?_;refine tE ?_;refine tE ?_;refine bE ?_;refine tN ?_;have hie:i=lg r:=by have h0:=of_decide_eq_false hc3;omega
        subst hie;exact AW.wk (wkRow 9 rfl)<|cReg<|mW rfl<|mC0 (aQCut (K:=(M+L+70)) (n:=(lg r)) (c:=(rc (rsN d r))) (by omega)) rfl rfl rfl<|mW rfl<|mNil<|bN<|⟨((s+1),(rsN d r)),hN,by show lg (rsN d r) < lg r;exact hlt,wk rfl ⟨hs rfl,hs rfl,hs rfl,hs rfl,hs' rfl (le_dg_t (lg_dg2 (rsN_z hO.z zd hle) hN.z) (by omega) (hN.bd hM)),trivial⟩ ⟨ho rfl,ho rfl,trivial⟩ rfl⟩
    · skip
      refine cSkip<|tN<|cSeq<|wK [8,7,0,6,5,4,1] [8,6,5] rfl rfl<|wB [8,7,0,6,5,4,1] [6,5] 8 (.box 28 (rn M (if d (lg d-1) < 0 then -(r (lg r-1)) else r (lg r-1)))) rfl rfl (leo_rn (by omega) (by rw [if_neg (of_decide_eq_false hc2)];rfl)) rfl<|cReg<|mW rfl<|mT<|cSeq<|cSeq ?_;have hO:=hI;refine AW.wk (wkNil 9 9 30 4 (fun _ _=> .v undef) rfl rfl)<|cReg<|mv3 rfl rfl rfl<|mT<|cBlock<|cLoop (ι:=Nat) (fun (i:Nat)=>⟨78,[(0,.d (.one (.row 4 (lg r) (qel M (rc r))))),(1,.d (.one (.row 4 (lg d) (qel L (rc d))))),(4,.d (.one (.v (.slice none 0 0)))),(5,.ptr 5 0),(6,.ptr 6 0),(7,.d (.one (.v (.int .i64 ((lg r-lg d:Nat):Int))))),(8,.ptr 8 0),(43,.d (.one (.v (.int .i64 ((lg r:Nat):Int))))),(9,.own 9),(44,.d (.one (.v (.int .i64 ((i:Nat):Int)))))],[(5,.box 28 (rn L (d (lg d-1)))),(6,.box 28 (rn L ((Int.natAbs (d (lg d-1)):Nat):Int))),(8,.box 28 (rn M (if d (lg d-1) < 0 then -(r (lg r-1)) else r (lg r-1)))),(9,.row 30 4 i (qel (M+L+70) (rc (rsN d r))))]⟩) (fun (i:Nat)=>i≤lg r) (fun (i:Nat)=>lg r-i) 0 (Nat.zero_le _) (wk rfl ⟨hs rfl,hs rfl,hs rfl,hs rfl,hs rfl,hs rfl,hs rfl,hs rfl,hs rfl,hs' rfl (le_int rfl),trivial⟩ ⟨ho rfl,ho rfl,ho rfl,ho' rfl (leo_row0),trivial⟩ rfl) ?_;rintro i hI;have hi:i≤lg r:=hI;show AW _ _ _ ⟨_,_,_⟩
      refine cR<|mW rfl<|mT<|cSeq<|cCond rfl (fun hc5=>?_) (fun hc5=>?_)
      · skip
        refine cSkip ?_;refine tN ?_;refine cSeq ?_;refine cBlock ?_;refine cSeq ?_;have hin:i < lg r:=by have h0:=of_decide_eq_true hc5;omega
        refine cReg<|mv2 rfl rfl<|mT<|cSeq<|cDrawK hTT 8 (by kernel_rfl) (by kernel_rfl) (by kernel_rfl)<|.cons (OpS.V _ rfl)<|.cons (OpS.V _ rfl)<|.cons (OpS.V (.d (.one (.at 4 ((qel M (rc r)) i)))) (ixR (el:=(qel M (rc r))) (z:=((i:Nat):Int)) (n:=(lg r)) rfl rfl rfl rfl rfl rfl (by omega) (by omega))) ?_;refine .cons (OpS.V _ rfl)<|.cons (OpS.V (.d (.agg (rn M (Rat.num ((rc r) i))))) rfl)<|.cons (OpS.V (.d (.agg (rn L ((Int.natAbs (d (lg d-1)):Nat):Int)))) rfl)<|.cons (OpS.C0 (aRMul (isr M (Rat.num ((rc r) i))) (isr L ((Int.natAbs (d (lg d-1)):Nat):Int)) (M:=(M+L)) (by omega) (by omega) (by omega)) rfl rfl rfl)<|.cons (OpS.N (.box 28 ([.v (.slice none 0 0),.v (.bool false)])) rfl 11 rfl rfl)<|.nil<|mS hTT 11 (.box 28 (rn (M+L) ((Rat.num ((rc r) i))*((Int.natAbs (d (lg d-1)):Nat):Int)))) rfl<|mT<|cSeq<|cR<|mv3 rfl rfl rfl<|mT<|cCond rfl (fun hc6=>?_) (fun hc6=>?_)
        · skip
          have hki:lg r-lg d≤i:=by have h0:=of_decide_eq_true hc6;omega
          refine cDrawK hTT 11 (by kernel_rfl) (by kernel_rfl) (by kernel_rfl)<|.cons (OpS.V (.d (.agg (rn (M+L) ((Rat.num ((rc r) i))*((Int.natAbs (d (lg d-1)):Nat):Int))))) rfl)<|.cons (OpS.V (.d (.agg (rn M (if d (lg d-1) < 0 then -(r (lg r-1)) else r (lg r-1))))) rfl)<|.cons (OpS.V _ rfl)<|.cons (OpS.V _ rfl)<|.cons (OpS.V _ rfl)<|.cons (OpS.V (.d (.one (.v (.int .i64 ((i-(lg r-lg d):Nat):Int))))) (evi ((wr64 (by omega) (by omega)).trans (by omega))))<|.cons (OpS.V (.d (.one (.at 4 ((qel L (rc d)) (i-(lg r-lg d)))))) (ixR (el:=(qel L (rc d))) (z:=((i-(lg r-lg d):Nat):Int)) (n:=(lg d)) rfl rfl rfl rfl rfl rfl (by omega) (by omega))) ?_;exact .cons (OpS.V _ rfl)<|.cons (OpS.V (.d (.agg (rn L (Rat.num ((rc d) (i-(lg r-lg d))))))) rfl)<|.cons (OpS.C0 (aRMul (isr M (if d (lg d-1) < 0 then -(r (lg r-1)) else r (lg r-1))) (isr L (Rat.num ((rc d) (i-(lg r-lg d))))) (M:=(M+L)) (by omega) (by omega) (by omega)) rfl rfl rfl)<|.cons (OpS.C0 (aRSub (isr (M+L) ((Rat.num ((rc r) i))*((Int.natAbs (d (lg d-1)):Nat):Int))) (isr (M+L) ((if d (lg d-1) < 0 then -(r (lg r-1)) else r (lg r-1))*(Rat.num ((rc d) (i-(lg r-lg d)))))) (M:=(max (M+L) (M+L)+1)) (by omega) (by omega) (by omega)) rfl rfl rfl)<|.nil<|mS hTT 11 (.box 28 (rn (max (M+L) (M+L)+1) (((Rat.num ((rc r) i))*((Int.natAbs (d (lg d-1)):Nat):Int))-((if d (lg d-1) < 0 then -(r (lg r-1)) else r (lg r-1))*(Rat.num ((rc d) (i-(lg r-lg d)))))))) rfl<|mT<|cDrawK hTT 5 (by kernel_rfl) (by kernel_rfl) (by kernel_rfl)<|.cons (OpS.V _ rfl)<|.cons (OpS.V (.d (.agg (rn (max (M+L) (M+L)+1) (((Rat.num ((rc r) i))*((Int.natAbs (d (lg d-1)):Nat):Int))-((if d (lg d-1) < 0 then -(r (lg r-1)) else r (lg r-1))*(Rat.num ((rc d) (i-(lg r-lg d))))))))) rfl)<|.cons (OpS.C0 (aROf (n:=1) (by decide) (by decide)) rfl rfl rfl)<|.cons (OpS.C0 (aRMake (isr (max (M+L) (M+L)+1) (((Rat.num ((rc r) i))*((Int.natAbs (d (lg d-1)):Nat):Int))-((if d (lg d-1) < 0 then -(r (lg r-1)) else r (lg r-1))*(Rat.num ((rc d) (i-(lg r-lg d))))))) (isr 64 1) (M:=(max (max (M+L) (M+L)+1) (max 64 64))) (by omega) (by omega)) rfl rfl rfl)<|.cons (OpS.B _ rfl)<|.nil<|mA hTT (id:=9) (n:=i) (m:=1) (el:=(qel (M+L+70) (rc (rsN d r)))) (el2:=(fun i' j'=>((qn (max (max (M+L) (M+L)+1) (max 64 64)) (mkR (((Rat.num ((rc r) i))*((Int.natAbs (d (lg d-1)):Nat):Int))-((if d (lg d-1) < 0 then -(r (lg r-1)) else r (lg r-1))*(Rat.num ((rc d) (i-(lg r-lg d)))))) 1))[i'*4+j']?).getD (.v undef))) rfl rfl rfl (by show (i+1)*64≤140737488355328;omega) (by omega) rfl rfl rfl rfl rfl rfl rfl rfl rfl rfl<|mW rfl<|mNil<|bN<|tN<|cReg<|mv2 rfl rfl<|mNil<|⟨(i+1),by omega,by omega,wk rfl ⟨hs rfl,hs rfl,hs rfl,hs rfl,hs rfl,hs rfl,hs rfl,hs rfl,hs rfl,hs' rfl (le_int (inc64 (by omega))),trivial⟩ ⟨ho rfl,ho rfl,ho rfl,ho' rfl (app_q (q:=(mkR (((Rat.num ((rc r) i))*((Int.natAbs (d (lg d-1)):Nat):Int))-((if d (lg d-1) < 0 then -(r (lg r-1)) else r (lg r-1))*(Rat.num ((rc d) (i-(lg r-lg d)))))) 1)) (M:=(max (max (M+L) (M+L)+1) (max 64 64))) rfl (Nat.le_refl _) (by omega) (by rw [mkR_int];show _=((rsN d r i:Int):Rat);rw [rsN_at,if_pos (hki)];rfl) (fun _ _=>rfl)),trivial⟩ rfl⟩
        · skip
          refine cSkip ?_;refine tN ?_;have hki:¬ lg r-lg d≤i:=by have h0:=of_decide_eq_false hc6;omega
          exact cDrawK hTT 5 (by kernel_rfl) (by kernel_rfl) (by kernel_rfl)<|.cons (OpS.V _ rfl)<|.cons (OpS.V (.d (.agg (rn (M+L) ((Rat.num ((rc r) i))*((Int.natAbs (d (lg d-1)):Nat):Int))))) rfl)<|.cons (OpS.C0 (aROf (n:=1) (by decide) (by decide)) rfl rfl rfl)<|.cons (OpS.C0 (aRMake (isr (M+L) ((Rat.num ((rc r) i))*((Int.natAbs (d (lg d-1)):Nat):Int))) (isr 64 1) (M:=(max (M+L) (max 64 64))) (by omega) (by omega)) rfl rfl rfl)<|.cons (OpS.B _ rfl)<|.nil<|mA hTT (id:=9) (n:=i) (m:=1) (el:=(qel (M+L+70) (rc (rsN d r)))) (el2:=(fun i' j'=>((qn (max (M+L) (max 64 64)) (mkR ((Rat.num ((rc r) i))*((Int.natAbs (d (lg d-1)):Nat):Int)) 1))[i'*4+j']?).getD (.v undef))) rfl rfl rfl (by show (i+1)*64≤140737488355328;omega) (by omega) rfl rfl rfl rfl rfl rfl rfl rfl rfl rfl<|mW rfl<|mNil<|bN<|tN<|cReg<|mv2 rfl rfl<|mNil<|⟨(i+1),by omega,by omega,wk rfl ⟨hs rfl,hs rfl,hs rfl,hs rfl,hs rfl,hs rfl,hs rfl,hs rfl,hs rfl,hs' rfl (le_int (inc64 (by omega))),trivial⟩ ⟨ho rfl,ho rfl,ho rfl,ho' rfl (app_q (q:=(mkR ((Rat.num ((rc r) i))*((Int.natAbs (d (lg d-1)):Nat):Int)) 1)) (M:=(max (M+L) (max 64 64))) rfl (Nat.le_refl _) (by omega) (by rw [mkR_int];show _=((rsN d r i:Int):Rat);rw [rsN_at,if_neg (hki)];rw [Int.sub_zero];rfl) (fun _ _=>rfl)),trivial⟩ rfl⟩
      · skip
        refine cExit ?_;refine tE ?_;refine tE ?_;refine bE ?_;refine tN ?_;have hie:i=lg r:=by have h0:=of_decide_eq_false hc5;omega
        subst hie;exact AW.wk (wkRow 9 rfl)<|cReg<|mW rfl<|mC0 (aQCut (K:=(M+L+70)) (n:=(lg r)) (c:=(rc (rsN d r))) (by omega)) rfl rfl rfl<|mW rfl<|mNil<|bN<|⟨((s+1),(rsN d r)),hN,by show lg (rsN d r) < lg r;exact hlt,wk rfl ⟨hs rfl,hs rfl,hs rfl,hs rfl,hs' rfl (le_dg_t (lg_dg2 (rsN_z hO.z zd hle) hN.z) (by omega) (hN.bd hM)),trivial⟩ ⟨ho rfl,ho rfl,trivial⟩ rfl⟩
  · skip
    exact cExit<|tE<|tE<|bE<|tN<|cR<|mv2 rfl rfl<|mT<|cRet<|rQ rfl (exL_intro (Q:=RsP c d M) (L:=fun r=>qrow M (lg r) (rc r)) r (hI.fin (by have h0:=of_decide_eq_false hc1;omega) hM))
structure RpP(c d:Nat→Int)(M:Nat)(R:Nat→Int):Prop where
  z:z20 R
  b:Db M R
  lt:lg R < lg d
  idp:Idp (FF c) (FF d) (FF d) (FF R)
  pm:lg R≠0→Pm (lg R) R
theorem RsP.prm{c d r:Nat→Int}{M:Nat}(h:RsP c d M r)(zd:z20 d):RpP c d M (prm20 r):=by
  obtain ⟨Q,κ,pQ,hκ,e⟩:=h.eq;obtain ⟨s,s',h1,h2⟩:=FF_prm h.z;exact ⟨prm20_z h.z,h.b.fdv,by rw [prm20_lg h.z];exact h.lt,(Idp.step (k:=κ) pQ (by grind) e).trans (Idp.scale (s:=1) (s':=1) (fun x=>by grind) h1 (fun x=>by grind) h2),fun h0=>prm20_pm h.z (by rw [← prm20_lg h.z];exact h0)⟩
theorem prm_self{a:Nat→Int}(za:z20 a)(h:lg a≠0→Pm (lg a) a):prm20 a=a:=by
  by_cases h0:lg a=0
  · have h1:=(lg_zero za).1 h0
    funext i;unfold prm20 prm fdv;rw [h1 i];simp
  · have p:=h h0
    have e:conS a (lg a)=1:=by unfold conS;rw [p.one,if_neg (by have:=p.lead;omega)];rfl
    funext i;unfold prm20 prm fdv;rw [e];simp
theorem ACall.exl{α:Type}{P:Program}{f:FuncId}{Q:α→Prop}{L:α→Lf}{res:AV}(hen:∀ vs w,(callFunc f vs).run P w= .ok (.enter f vs) w)(h:∀ x,Q x→ACall P f [.one (L x)] res):ACall P f [.one (exL Q L)] res:=
  ⟨hen,fun B w vs hB hd=>match vs,hd with | [v],⟨⟨x,hq,hl⟩,_⟩=>(h x hq).go B w [v] hB ⟨hl,trivial⟩⟩
theorem aQPrimE{c d:Nat→Int}{M:Nat}(zd:z20 d)(h1:1≤M)(hM:M≤1000000):ACall Tryz.prog 155 [.one (exL (RsP c d M) (fun r=>qrow M (lg r) (rc r)))] (.d (.one (exL (RpP c d M) (fun r=>qrow M (lg r) (rc r))))):=
  ACall.exl (enters Tryz.func155 rfl rfl) fun r hr=>ACall.le (dl DV.same dl0) (exL_intro (Q:=RpP c d M) (L:=fun r=>qrow M (lg r) (rc r)) (prm20 r) (hr.prm zd)) (aQPrimP hr.z h1 hM)
theorem GcdP.dbq{c d:Nat→Int}{K:Nat}{g:Nat→Int}(h:GcdP c d (21*K+3) g):Db (63*K+9) g:=(Lb.db h.b).mono (by omega)
theorem aQGcd{K KC N:Nat}{c d:Nat→Int}(zc:z20 c)(zd:z20 d)(hN:N≤10)(hc10:lg c≤N)(hd10:lg d≤N)(hK1:1≤K)(hKC:(K+1)*(2*3^N)≤KC)(hC:KC≤90000):ACall Tryz.prog 131 [.one (qrow K (lg c) (rc c)),.one (qrow K (lg d) (rc d))] (.d (.one (exL (GcdP c d (21*K+3)) (fun g=>qrow (63*K+9) (lg g) (rc g))))):=by
  have hlc:=lg_le c;have hld:=lg_le d;have hKKC:K+1≤KC:=Nat.le_trans (Nat.le_mul_of_pos_right _ (Nat.mul_pos (by decide) (Nat.pow_pos (by decide)))) hKC;refine ACall.fact10 (enters Tryz.func131 rfl rfl) (p:=Db K c∧Db K d) (fun B w vs h=>match vs,h with | [_,_],⟨h1,h2,_⟩=>⟨qrow_bd zc.lg h1,qrow_bd zd.lg h2⟩) (fun hb=>?_);obtain ⟨hbc,hbd⟩:=hb;have lbc:Lb K c:=(hbc.mono (by omega)).lb;have lbd:Lb K d:=(hbd.mono (by omega)).lb;refine acallN hTT 18 [.tmp 4] Tryz.func131 rfl rfl rfl rfl rfl<|cR<|mW rfl<|mT<|cR<|mW rfl<|mC0 (aQPrimP (K:=K) (c:=c) zc (by omega) (by omega)) rfl rfl rfl<|mW rfl<|mC0 (aQPrimP (K:=K) (c:=d) zd (by omega) (by omega)) rfl rfl rfl<|mv2 rfl rfl<|mT<|cSeq<|cBlock<|cLoop (ι:=Nat×(Nat→Int)×(Nat→Int)) (fun (p:Nat×(Nat→Int)×(Nat→Int))=>match p with | (X,a,b)=>⟨18,[(0,.d (.one (.row 4 (lg a) (qel X (rc a))))),(1,.d (.one (.row 4 (lg b) (qel X (rc b))))),(4,.d (.one (.v (.slice none 0 0))))],[]⟩) (fun (p:Nat×(Nat→Int)×(Nat→Int))=>match p with | (X,a,b)=>z20 a∧z20 b∧Idp (FF c) (FF d) (FF a) (FF b)∧Db X a∧Db X b∧lg a≤N∧lg b≤N∧1≤X∧Grw K N X (lg a) (lg b)∧(lg a≠0→Pm (lg a) a)∧(lg b≠0→Pm (lg b) b)) (fun (p:Nat×(Nat→Int)×(Nat→Int))=>match p with | (X,a,b)=>lg b) (K,(prm20 c),(prm20 d)) (⟨prm20_z zc,prm20_z zd,prm_idp zc zd,hbc.fdv,hbd.fdv,by rw [prm20_lg zc];exact hc10,by rw [prm20_lg zd];exact hd10,hK1,.start (by rw [prm20_lg zc];exact hc10),fun h0=>prm20_pm zc (by rw [← prm20_lg zc];exact h0),fun h0=>prm20_pm zd (by rw [← prm20_lg zd];exact h0)⟩) (wkr rfl rfl) ?_;rintro ⟨X,a,b⟩ hI;obtain ⟨za,zb,hid,hba,hbb,ha10,hb10,hX1,hG,hpa,hpb⟩:z20 a∧z20 b∧Idp (FF c) (FF d) (FF a) (FF b)∧Db X a∧Db X b∧lg a≤N∧lg b≤N∧1≤X∧Grw K N X (lg a) (lg b)∧(lg a≠0→Pm (lg a) a)∧(lg b≠0→Pm (lg b) b):=hI;show AW _ _ _ ⟨_,_,_⟩
  refine cSeq<|cSeq ?_;have hXK:=hG.bd hKC
  by_cases hb0:lg b=0
  · skip
    exact cReg<|mv2 rfl rfl<|mV hTT (.d (.one (.v (.bool false)))) (evb (decide_eq_false (by omega)))<|mT<|cF rfl<|cExit<|tE<|tE<|bE<|tN<|cR<|mv2 rfl rfl<|mT<|cRet<|rQ rfl (by have hgf:=gcd_fin zc zd za zb hid hb0 lbc lbd (by omega) (by omega);exact fun ρ B w v hv=>exL_intro (Q:=GcdP c d (21*K+3)) (L:=fun g=>qrow (63*K+9) (lg g) (rc g)) (prm20 a) hgf ρ B w v (by rw [prm_self za hpa];exact le_qrow_t (by omega) (by have hd:=hgf.dbq;rwa [prm_self za hpa] at hd) ρ B w v hv))
  · skip
    refine cReg<|mv2 rfl rfl<|mV hTT (.d (.one (.v (.bool true)))) (evb (decide_eq_true (by omega)))<|mT<|cT rfl<|cSkip<|tN<|cBlock ?_;have hg1:lg b-1 < lg b:=by omega
    have hN1:=(hG.step ha10 hb10 hg1).bd hKC;refine cReg<|mv3 rfl rfl rfl<|mC0 (aQRest (K:=X) (L:=X) (M:=(X+(lg a+1-lg b)*(X+1))) za zb hb0 (by omega) (by omega) (by omega) (by omega) (Nat.le_refl _) (by omega)) rfl rfl rfl<|mC0 (aQPrimE (c:=a) (d:=b) (M:=(X+(lg a+1-lg b)*(X+1))) zb (by omega) (by omega)) rfl rfl rfl<|mEx (Qx:=RpP a b (X+(lg a+1-lg b)*(X+1))) (L:=fun r=>qrow (X+(lg a+1-lg b)*(X+1)) (lg r) (rc r)) 16 rfl (fun R hR=>?_);exact mv2 rfl rfl<|mNil<|bN<|⟨((X+(lg a+1-lg b)*(X+1)),b,R),⟨zb,hR.z,hid.trans hR.idp,hbb.mono (Nat.le_add_right _ _),hR.b,hb10,by have:=hR.lt;omega,by omega,hG.step ha10 hb10 hR.lt,hpb,hR.pm⟩,hR.lt,wk rfl ⟨hs' rfl (le_qrow_t (by omega) (hbb.mono (Nat.le_add_right _ _))),hs rfl,hs rfl,trivial⟩ trivial rfl⟩
def szq(c:Nat→Int):Nat→Int:=szd c (lg c)
theorem szq_z{c:Nat→Int}(z:z20 c):z20 (szq c):=z20_fdv z
theorem szq_neg{c:Nat→Int}(h:conS c (lg c) < 0)(i:Nat):szq c i= -(prm20 c i):=by
  have e:conS c (lg c)= -((gcdN c (lg c):Nat):Int):=by {unfold conS at h ⊢;by_cases k:c (lg c-1) < 0;{rw [if_pos k] at h ⊢;try omega};{rw [if_neg k] at h ⊢;try omega}}
  unfold szq szd prm20 prm fdv;rw [e,Int.ediv_neg];omega
theorem szq_pos{c:Nat→Int}(h:¬ conS c (lg c) < 0)(i:Nat):szq c i=prm20 c i:=by
  have e:conS c (lg c)=((gcdN c (lg c):Nat):Int):=by {unfold conS at h ⊢;by_cases k:c (lg c-1) < 0;{rw [if_pos k] at h ⊢;try omega};{rw [if_neg k] at h ⊢;try omega}}
  unfold szq szd prm20 prm fdv;rw [e]
theorem szq_lg{c:Nat→Int}(z:z20 c):lg (szq c)=lg (prm20 c):=by
  by_cases h:conS c (lg c) < 0
  · have h1:lg (szq c)≤lg (prm20 c):=lg_of_z (szq_z z) fun i hi=>by rw [szq_neg h,(prm20_z z).lg i hi];rfl
    have h2:lg (prm20 c)≤lg (szq c):=lg_of_z (prm20_z z) fun i hi=>by have:=(szq_z z).lg i hi;rw [szq_neg h] at this;omega
    omega
  · have e:szq c=prm20 c:=funext (szq_pos h)
    rw [e]
theorem szq_db{c:Nat→Int}{K:Nat}(h:Db K c):Db K (szq c):=h.fdv
theorem szq_F{c:Nat→Int}(z:z20 c)(h0:lg c≠0):∃ s:Rat,0 < s∧∀ x,FF c x=s*FF (szq c) x:=by
  refine ⟨((gcdN c (lg c):Nat):Rat),by exact_mod_cast z.ip.gcd_pos h0,fun x=>?_⟩;have h:=pf_szd z.lg x;rwa [show pf (szd c (lg c)) (lg c)=FF (szq c) from FF_pf (fdv_z z.lg) (szq_z z),FF_lg z] at h
theorem aQSized{K:Nat}{c:Nat→Int}(zc:z20 c)(hK1:1≤K)(hK:K≤100000):ACall Tryz.prog 135 [.one (qrow K (lg c) (rc c))] (.d (.one (qrow K (lg (szq c)) (rc (szq c))))):=by
  refine ACall.fact10 (enters Tryz.func135 rfl rfl) (p:=Db K c) (fun B w vs h=>match vs,h with | [_],⟨h1,_⟩=>qrow_bd zc.lg h1) (fun hb=>?_);refine acallN hTT 16 [.tmp 2] Tryz.func135 rfl rfl rfl rfl rfl<|cR<|mW rfl<|mT<|cR<|mW rfl<|mC0 (aQPrimB (K:=K) (c:=c) zc (by omega) (by omega)) rfl rfl rfl<|mv3 rfl rfl rfl<|mN hTT (.box 30 ([.v (.slice none 0 0),.v (.bool false),.v (.slice none 0 0),.v (.bool false)])) rfl rfl rfl<|mS hTT 3 (.box 30 (qn (2*K+300) (conS c (lg c):Rat))) rfl<|mW rfl<|mT<|cSeq<|cR<|mv3 rfl rfl rfl<|mT<|cCond rfl (fun hc1=>?_) (fun hc1=>?_)
  · skip
    refine cSeq ?_;have hln:=lg_le (prm20 c);exact cReg<|mW rfl<|mC0 (aQNeg (isqp (K:=K) (c:=(rc (prm20 c))) (rc_z (prm20_z zc).lg)) (M:=(max (K+65) 64)) (by omega) (by omega) (by omega)) rfl rfl rfl<|mW rfl<|mT<|cRet<|tR<|rQ rfl (by have hs0:conS c (lg c) < 0:=of_decide_eq_true hc1;have e:∀ i,fsclQ (rc (prm20 c)) ((-1:Int):Rat) i=rc (szq c) i:=fun i=>by {show ((prm20 c i:Int):Rat)*((-1:Int):Rat)=((szq c i:Int):Rat);rw [szq_neg hs0,← Rat.intCast_mul];congr 1;omega};have ef:fsclQ (rc (prm20 c)) ((-1:Int):Rat)=rc (szq c):=funext e;rw [ef];exact le_dg_t (by rw [← szq_lg zc];exact lg_dg2 (szq_z zc).lg (szq_z zc)) hK1 (szq_db hb))
  · skip
    exact cSkip<|tN<|cR<|mv2 rfl rfl<|mT<|cRet<|rQ rfl (by have hs0:¬ conS c (lg c) < 0:=of_decide_eq_false hc1;have ef:szq c=prm20 c:=funext (szq_pos hs0);rw [ef];exact AV.le.rfl)
def sgl(S:List Int):Nat→Nat→Lf:=fun i _=> .v (.int .i64 (S.getD i 0))
theorem aQTurns{S:List Int}(h3:∀ i,S.getD i 0= -1∨S.getD i 0=0∨S.getD i 0=1)(hL:S.length≤100000):ACall Tryz.prog 179 [.one (.row 1 S.length (sgl S))] (.d (.one (.v (.int .i64 ((vr S:Nat):Int))))):=by
  refine acallN hTT 34 [.tmp 2] Tryz.func179 rfl rfl rfl rfl rfl<|cR<|mW rfl<|mT<|cR<|mv2 rfl rfl<|mT<|cSeq<|cR<|mv3 rfl rfl rfl<|mT<|cBlock<|cLoop (ι:=Nat×Nat×Int) (fun (p:Nat×Nat×Int)=>match p with | (i,nn,m)=>⟨34,[(0,.d (.one (.row 1 S.length (sgl S)))),(2,.d (.one (.v (.int .i64 0)))),(6,.d (.one (.row 1 S.length (sgl S)))),(7,.d (.one (.v (.int .i64 ((S.length:Nat):Int))))),(8,.d (.one (.v (.int .i64 ((i:Nat):Int))))),(3,.d (.one (.v (.int .i64 ((nn:Nat):Int))))),(4,.d (.one (.v (.int .i64 m))))],[]⟩) (fun (p:Nat×Nat×Int)=>match p with | (i,nn,m)=>i≤S.length∧nn≤i∧nn+vrA m (S.drop i)=vr S∧(m= -1∨m=0∨m=1)) (fun (p:Nat×Nat×Int)=>match p with | (i,nn,m)=>S.length-i) (0,0,0) (⟨Nat.zero_le _,Nat.le_refl _,by rw [List.drop_zero,Nat.zero_add];rfl,Or.inr (Or.inl rfl)⟩) (wk rfl ⟨hs rfl,hs rfl,hs rfl,hs rfl,hs' rfl (le_int rfl),hs' rfl (le_int rfl),hs rfl,trivial⟩ trivial rfl) ?_;rintro ⟨i,nn,m⟩ hI;obtain ⟨hi,hni,hv,hm3⟩:i≤S.length∧nn≤i∧nn+vrA m (S.drop i)=vr S∧(m= -1∨m=0∨m=1):=hI;show AW _ _ _ ⟨_,_,_⟩
  refine cR<|mW rfl<|mT<|cSeq<|cCond rfl (fun hc1=>?_) (fun hc1=>?_)
  · skip
    refine cSkip ?_;refine tN ?_;refine cSeq ?_;refine cBlock ?_;refine cSeq ?_;have hin:i < S.length:=by have h0:=of_decide_eq_true hc1;omega
    have hd:=vrA_drop (m:=m) hin;have hb3:=h3 i;refine cReg<|mv2 rfl rfl<|mT<|cSeq ?_
    by_cases h0:S.getD i 0=0
    · skip
      refine cReg<|mv2 rfl rfl<|mV hTT (.d (.one (.at 1 ((sgl S) i)))) (ixR (el:=(sgl S)) (z:=((i:Nat):Int)) (n:=S.length) rfl rfl rfl rfl rfl rfl (by omega) (by omega)) ?_;exact mW rfl<|mV hTT (.d (.one (.v (.bool false)))) (evb (by rw [h0];rfl))<|mT<|cF rfl<|cSkip<|bN<|tN<|cReg<|mv2 rfl rfl<|mNil<|⟨((i+1),nn,m),⟨by omega,by omega,by rw [if_pos h0] at hd;omega,hm3⟩,by show S.length-(i+1) < S.length-i;omega,wk rfl ⟨hs rfl,hs rfl,hs rfl,hs rfl,hs' rfl (le_int (inc64 (by omega))),hs rfl,hs rfl,trivial⟩ trivial rfl⟩
    · skip
      refine cReg<|mv2 rfl rfl<|mV hTT (.d (.one (.at 1 ((sgl S) i)))) (ixR (el:=(sgl S)) (z:=((i:Nat):Int)) (n:=S.length) rfl rfl rfl rfl rfl rfl (by omega) (by omega)) ?_;refine mW rfl<|mV hTT (.d (.one (.v (.bool true)))) (evb (bne_iff_ne.2 h0))<|mT<|cT rfl<|cSeq<|cSeq ?_
      by_cases hm0:m=0
      · skip
        refine cReg<|mW rfl<|mV hTT (.d (.one (.v (.bool false)))) (evb (by rw [hm0];rfl))<|mW rfl<|mG rfl rfl<|mG rfl rfl<|mG rfl rfl<|mG rfl rfl<|mG rfl rfl<|mG rfl rfl<|mW rfl<|mT<|cFs rfl<|cReg<|mv2 rfl rfl<|mV hTT (.d (.one (.at 1 ((sgl S) i)))) (ixR (el:=(sgl S)) (z:=((i:Nat):Int)) (n:=S.length) rfl rfl rfl rfl rfl rfl (by omega) (by omega)) ?_;exact mv2 rfl rfl<|mNil<|bN<|tN<|cReg<|mv2 rfl rfl<|mNil<|⟨((i+1),nn,(S.getD i 0)),⟨by omega,by omega,by rw [if_neg h0,if_neg (by omega)] at hd;omega,hb3⟩,by show S.length-(i+1) < S.length-i;omega,wk rfl ⟨hs rfl,hs rfl,hs rfl,hs rfl,hs' rfl (le_int (inc64 (by omega))),hs rfl,hs rfl,trivial⟩ trivial rfl⟩
      · skip
        by_cases hsm:S.getD i 0=m
        · skip
          refine cReg<|mW rfl<|mV hTT (.d (.one (.v (.bool true)))) (evb (bne_iff_ne.2 hm0))<|mv3 rfl rfl rfl<|mV hTT (.d (.one (.at 1 ((sgl S) i)))) (ixR (el:=(sgl S)) (z:=((i:Nat):Int)) (n:=S.length) rfl rfl rfl rfl rfl rfl (by omega) (by omega)) ?_;refine mv2 rfl rfl<|mV hTT (.d (.one (.v (.bool false)))) (evb (by rw [hsm];exact bne_self_eq_false m))<|mW rfl<|mT<|cFs rfl<|cReg<|mv2 rfl rfl<|mV hTT (.d (.one (.at 1 ((sgl S) i)))) (ixR (el:=(sgl S)) (z:=((i:Nat):Int)) (n:=S.length) rfl rfl rfl rfl rfl rfl (by omega) (by omega)) ?_;exact mv2 rfl rfl<|mNil<|bN<|tN<|cReg<|mv2 rfl rfl<|mNil<|⟨((i+1),nn,(S.getD i 0)),⟨by omega,by omega,by rw [if_neg h0,if_neg (by omega)] at hd;omega,hb3⟩,by show S.length-(i+1) < S.length-i;omega,wk rfl ⟨hs rfl,hs rfl,hs rfl,hs rfl,hs' rfl (le_int (inc64 (by omega))),hs rfl,hs rfl,trivial⟩ trivial rfl⟩
        · skip
          refine cReg<|mW rfl<|mV hTT (.d (.one (.v (.bool true)))) (evb (bne_iff_ne.2 hm0))<|mv3 rfl rfl rfl<|mV hTT (.d (.one (.at 1 ((sgl S) i)))) (ixR (el:=(sgl S)) (z:=((i:Nat):Int)) (n:=S.length) rfl rfl rfl rfl rfl rfl (by omega) (by omega)) ?_;refine mv2 rfl rfl<|mV hTT (.d (.one (.v (.bool true)))) (evb (bne_iff_ne.2 hsm))<|mW rfl<|mT<|cT rfl<|cReg<|mv3 rfl rfl rfl<|mT<|cReg<|mv2 rfl rfl<|mV hTT (.d (.one (.at 1 ((sgl S) i)))) (ixR (el:=(sgl S)) (z:=((i:Nat):Int)) (n:=S.length) rfl rfl rfl rfl rfl rfl (by omega) (by omega)) ?_;exact mv2 rfl rfl<|mNil<|bN<|tN<|cReg<|mv2 rfl rfl<|mNil<|⟨((i+1),(nn+1),(S.getD i 0)),⟨by omega,by omega,by rw [if_neg h0,if_pos (by omega)] at hd;omega,hb3⟩,by show S.length-(i+1) < S.length-i;omega,wk rfl ⟨hs rfl,hs rfl,hs rfl,hs rfl,hs' rfl (le_int (inc64 (by omega))),hs' rfl (le_int (inc64 (by omega))),hs rfl,trivial⟩ trivial rfl⟩
  · skip
    exact cExit<|tE<|tE<|bE<|tN<|cR<|mv2 rfl rfl<|mT<|cRet<|rQ rfl (le_int (by have h0:=of_decide_eq_false hc1;rw [vrA_end (by omega)] at hv;omega))
theorem Cop.pow{a b:Fn}(h:Cop a b)(pa:Po a)(pb:Po b):∀ n:Nat,Cop a (fun x=>b x^n)
  | 0=>⟨fun _=>0,fun _=>1,po_const 0,po_const 1,fun x=>by show 0*a x+1*b x^0=1;rw [Rat.pow_zero];grind⟩
  | n+1=>by
    have h1:=(h.pow pa pb n).mul h pa (pb.pow n) pb;rwa [show (fun x=>b x^(n+1))=fun x=>b x^n*b x from funext fun x=>Rat.pow_succ _ _]
theorem sqf_dv{s s' t:Fn}(h:Sqf s s')(hne:∃ x,s x≠0)(pt:Po t){N:Nat}(hd:Dv s (fun x=>t x^N)):Dv s t:=by
  obtain ⟨m,ht⟩:=pt;obtain ⟨d,u,v,p,q,pd,pu,pv,pp,pq,e1,e2,e3⟩:=po_gcd m s t h.po ht;obtain ⟨d',pd',dd⟩:=pd.der;obtain ⟨p',pp',dp⟩:=pp.der;have cpd:Cop p d:=h.cop_of pp pd pp' pd' dp dd e2;have dne:∃ x,d x≠0:=by obtain ⟨x,hx⟩:=hne;exact ⟨x,fun e=>hx (by rw [e2,e,Rat.mul_zero])⟩
  have cpq:Cop p q:=⟨u,v,pu,pv,po_cancel2 pd dne ((pu.mul pp).add (pv.mul pq)) (po_const 1) (fun x=>by have a:=e1 x;rw [e2,e3] at a;grind)⟩;have cpt:Cop p t:=by have h1:=cpq.mul cpd pp pq pd;rwa [show (fun x=>q x*d x)=t from funext fun x=>(e3 x).symm] at h1
  have cpN:=cpt.pow pp ⟨m,ht⟩ N;have dps:Dv p s:=⟨d,pd,fun x=>by rw [e2];exact Rat.mul_comm _ _⟩;obtain ⟨w,pw,hw⟩:=cpN.dv (po_const 1) ((dps.trans hd).mulr (po_const 1));exact ⟨fun x=>w x*q x,pw.mul pq,fun x=>by have h1:=hw x;have h2:=e2 x;have h3:=e3 x;grind⟩
theorem pm_eq{f g:Nat→Int}(zf:z20 f)(zg:z20 g)(mf:Pm (lg f) f)(mg:Pm (lg g) g)(h1:Dv (FF f) (FF g))(h2:Dv (FF g) (FF f)):f=g:=by
  have l1:=(lg_dv zg zf mg.pos h1).2;have l2:=(lg_dv zf zg mf.pos h2).2;obtain ⟨W,pW,hW⟩:=h1;obtain ⟨w,k,hw,hc,_⟩:=exact_row zg.lg zf.lg mf.one pW (fun x=>by rw [FF_lg zg,FF_lg zf];exact hW x);have zw:=quo20 zf zg mf.pos hw hc;obtain ⟨hlq,_⟩:=quo_lg zw zf zg hc mf.pos;have hl1:lg w=1:=by omega
  have mw:=quo_pm zw zf zg hc mf mg;have hd:(w 0).natAbs∣gcdN w (lg w):=gcdN_all fun i hi=>by
    obtain rfl:i=0:=by omega
    exact Nat.dvd_refl _
  rw [mw.one] at hd;have h0:0 < w 0:=by have h:=mw.lead;rw [hl1] at h;exact h
  have hw1:w 0=1:=by have:=Nat.dvd_one.1 hd;omega
  have hF:∀ x,FF w x=1:=fun x=>by rw [← FF_lg zw,hl1];exact pf_const.trans (by rw [hw1];rfl)
  have e:conv w f=g:=funext hc;refine funext (FF_inj zf zg fun x=>?_);have h9:=pf_conv (n:=1) (m:=20) (a:=w) (b:=f) (fun i hi=>zw.lg i (by omega)) zf x;rw [e,FF_pf (c:=g) (n:=1+20) (fun i hi=>zg i (by omega)) zg] at h9;have h8:=hF x;rw [← FF_lg zw,hl1] at h8;rw [h9,h8];show FF f x=1*FF f x
  grind
theorem SqP.uniq{c f g:Nat→Int}{M M':Nat}(h:SqP c M f)(k:SqP c M' g):f=g:=by
  have key:∀ {f g:Nat→Int} {M M':Nat},SqP c M f→SqP c M' g→Dv (FF f) (FF g):=by
    intro f g M M' h k;obtain ⟨N,w,pw,e⟩:=k.pw;exact sqf_dv h.sq (FF_nz h.z h.ne) (FF_po k.z) (h.dv.trans ⟨w,pw,e⟩)
  exact pm_eq h.z k.z h.pm k.pm (key h k) (key k h)
noncomputable def sqP(c:Nat→Int):Nat→Int:=open Classical in if h:∃ f M,SqP c M f then h.choose else c
theorem SqP.eq{c f:Nat→Int}{M:Nat}(h:SqP c M f):f=sqP c:=by
  have hx:∃ f M,SqP c M f:=⟨f,M,h⟩
  unfold sqP;rw [dif_pos hx];obtain ⟨M',h'⟩:=hx.choose_spec;exact h.uniq h'
theorem SqP.self{c f:Nat→Int}{M:Nat}(h:SqP c M f):SqP c M (sqP c):=h.eq▸h
theorem sq_self{c:Nat→Int}{M:Nat}(z:z20 c)(b:Lb M c)(pm:Pm (lg c) c)(h:Sqf (FF c) (FF (fder c))):SqP c M c:=⟨z,b,pm,Dv.refl _,⟨1,fun _=>1,po_const 1,fun x=>by rw [pow1];grind⟩,h⟩
theorem ex_lb{c:Nat→Int}(z:z20 c):∃ K,1≤K∧Lb K c:=by
  have key:∀ n:Nat,∃ K,1≤K∧∀ i,i < n→(c i).natAbs < B32^K:=by
    intro n
    induction n with
    | zero=>exact ⟨1,Nat.le_refl _,fun i hi=>absurd hi (Nat.not_lt_zero _)⟩
    | succ n ih=>
      obtain ⟨K,h1,h⟩:=ih;refine ⟨K+(c n).natAbs,by omega,fun i hi=>?_⟩
      by_cases e:i < n
      · exact Nat.lt_of_lt_of_le (h i e) (Nat.pow_le_pow_right (by decide) (by omega))
      · obtain rfl:i=n:=by omega
        exact Nat.lt_of_lt_of_le (Nat.lt_of_lt_of_le Nat.lt_two_pow_self (Nat.pow_le_pow_left (show 2≤B32 by decide) _)) (Nat.pow_le_pow_right (by decide) (by omega))
  obtain ⟨K,h1,h⟩:=key 20;exact ⟨K,h1,fun i=>by
    by_cases hi:i < 20
    · exact h i hi
    · rw [z i (by omega)];exact Nat.pow_pos (by decide)⟩
theorem pm_one{r:Nat→Int}(z:z20 r)(pm:Pm (lg r) r)(h:lg r=1):r=onez 1:=by
  have hd:(r 0).natAbs∣gcdN r (lg r):=gcdN_all fun i hi=>by
    obtain rfl:i=0:=by omega
    exact Nat.dvd_refl _
  rw [pm.one] at hd;have h0:0 < r 0:=by have k:=pm.lead;rw [h] at k;exact k
  have h1:r 0=1:=by have:=Nat.dvd_one.1 hd;omega
  funext i
  by_cases hi:i=0
  · subst hi;exact h1
  · rw [onez_z i (by omega)];exact z.lg i (by omega)
theorem onez20:z20 (onez 1):=fun i hi=>onez_z i (by omega)
theorem onez_lg:lg (onez 1)=1:=by decide
theorem onez_pm:Pm (lg (onez 1)) (onez 1):=⟨onez20.ip,by rw [onez_lg];decide,by rw [onez_lg];decide,by rw [onez_lg];decide⟩
theorem onez_F(x:Rat):FF (onez 1) x=1:=by rw [← FF_lg onez20,onez_lg];exact pf_const.trans rfl
theorem sq_onez:sqP (onez 1)=onez 1:=by
  obtain ⟨M,_,hM⟩:=ex_lb onez20;exact (sq_self onez20 hM onez_pm ⟨FF_po onez20,FF_po (z20_der onez20),FF_der onez20,fun _=>1,fun _=>0,po_const 1,po_const 0,fun x=>by rw [onez_F];grind⟩).eq.symm
theorem sq_step{r g:Nat→Int}{M:Nat}(zr:z20 r)(pr:Pm (lg r) r)(h2:2≤lg r)(h10:lg r≤10)(hg:GcdP r (fder r) M g):(∃ M',SqP r M' (sqP r))∧∀ i,conv (sqP r) g i=r i:=by
  have e:prm20 r=r:=prm_self zr fun _=>pr
  obtain ⟨hg0,hgl⟩:=hg.le zr pr.pos;obtain ⟨W,pW,hW⟩:=hg.idl.da;obtain ⟨w,k,hw,hc,_⟩:=exact_row zr.lg hg.z.lg (hg.pm hg0).one pW (fun x=>by rw [FF_lg zr,FF_lg hg.z];exact hW x);have zw:=quo20 hg.z zr hg0 hw hc;obtain ⟨K,_,hK⟩:=ex_lb zr;have hs:SqP r (21*K+3) w:=sq_of zr h2 h10 hK (by rw [e];exact hg) zw (by rw [e];exact hc);exact ⟨⟨_,hs.self⟩,by rw [← hs.eq];exact hc⟩
structure FcI(c:Nat→Int)(Rs:List (Nat→Int)):Prop where
  ne:1≤Rs.length
  h0:gl Rs 0=prm20 c
  z:∀ i,z20 (gl Rs i)
  pm:∀ i,i < Rs.length→Pm (lg (gl Rs i)) (gl Rs i)
  dv:∀ i,i < Rs.length→Dv (FF (gl Rs i)) (FF c)
  l:∀ i,lg (gl Rs i)≤lg c
  st:∀ i,i+1 < Rs.length→2≤lg (gl Rs i)∧∃ M,GcdP (gl Rs i) (fder (gl Rs i)) M (gl Rs (i+1))
  ln:Rs.length+lg (gl Rs (Rs.length-1))≤lg c+1
theorem gl_none{L:List (Nat→Int)}{i:Nat}(h:L.length≤i):gl L i=fun _=>0:=by
  unfold gl;rw [List.getD_eq_getElem?_getD,List.getElem?_eq_none h];rfl
theorem dv_prm{c:Nat→Int}(z:z20 c)(h0:lg c≠0):Dv (FF (prm20 c)) (FF c):=by
  obtain ⟨s,hs0,hs⟩:=FF_prm_pos z h0;exact ⟨fun _=>s,po_const s,hs⟩
theorem FcI.start{c:Nat→Int}(zc:z20 c)(h2:2≤lg c):FcI c [prm20 c]:=by
  have hl:=prm20_lg zc;refine ⟨Nat.le_refl _,rfl,fun i=>?_,fun i hi=>?_,fun i hi=>?_,fun i=>?_,fun i hi=>absurd hi (by show ¬ i+1 < 1;omega),by show 1+lg (prm20 c)≤_;omega⟩
  · cases i with
    | zero=>exact prm20_z zc
    | succ i=>rw [gl_none (by show 1≤i+1;omega)];exact z20_nil
  · obtain rfl:i=0:=by have:i < 1:=hi;omega
    exact prm20_pm zc (by omega)
  · obtain rfl:i=0:=by have:i < 1:=hi;omega
    exact dv_prm zc (by omega)
  · cases i with
    | zero=>exact Nat.le_of_eq hl
    | succ i=>rw [gl_none (by show 1≤i+1;omega)];exact Nat.le_trans (lg_of_z (n:=0) z20_nil fun _ _=>rfl) (Nat.zero_le _)
theorem gl_app1{L:List (Nat→Int)}{b:Nat→Int}(i:Nat):gl (L ++ [b]) i=if i < L.length then gl L i else if i=L.length then b else fun _=>0:=by
  split
  · rename_i h;exact gl_app h
  · split
    · rename_i h;rw [h];exact gl_last
    · exact gl_none (by rw [List.length_append];show L.length+1≤i;omega)
theorem lg_der_lt{c:Nat→Int}(z:z20 c)(h:lg c≠0):lg (fder c) < lg c:=by
  have:lg (fder c)≤lg c-1:=lg_of_z (z20_der z) fun i hi=>fder_z z.lg i (by omega)
  omega
theorem FcI.step{c g:Nat→Int}{Rs:List (Nat→Int)}{M:Nat}(h:FcI c Rs)(zc:z20 c)(h0:lg c≠0)(h2:2≤lg (gl Rs (Rs.length-1)))(hg:GcdP (gl Rs (Rs.length-1)) (fder (gl Rs (Rs.length-1))) M g):FcI c (Rs ++ [g]):=by
  have hne:=h.ne;have zl:=h.z (Rs.length-1);have hd2:lg (fder (gl Rs (Rs.length-1)))≠0:=fun e=>by have:=fder_zero zl e;omega
  obtain ⟨hg0,hgl⟩:=hg.le' (z20_der zl) hd2;have hlt:=lg_der_lt zl (by omega);have hll:=h.l (Rs.length-1);have hlen:(Rs ++ [g]).length=Rs.length+1:=by rw [List.length_append];rfl
  refine ⟨by omega,by rw [gl_app (by omega)];exact h.h0,fun i=>?_,fun i hi=>?_,fun i hi=>?_,fun i=>?_,fun i hi=>?_,?_⟩
  · rw [gl_app1];split;exact h.z i;split;exact hg.z;exact z20_nil
  · rw [gl_app1];split
    · rename_i h1;exact h.pm i h1
    · rw [if_pos (by omega)];exact hg.pm hg0
  · rw [gl_app1];split
    · rename_i h1;exact h.dv i h1
    · rw [if_pos (by omega)];exact hg.idl.da.trans (h.dv _ (by omega))
  · rw [gl_app1];split;exact h.l i;split;omega;exact Nat.le_trans (lg_of_z (n:=0) z20_nil fun _ _=>rfl) (Nat.zero_le _)
  · rw [gl_app1 i,gl_app1 (i+1),if_pos (by omega)]
    by_cases e:i+1 < Rs.length
    · rw [if_pos e];exact h.st i e
    · rw [if_neg e,if_pos (by omega)]
      obtain rfl:i=Rs.length-1:=by omega
      exact ⟨h2,M,hg⟩
  · rw [hlen,Nat.add_sub_cancel,gl_last];have:=h.ln;omega
structure FcE(c:Nat→Int)(Rs:List (Nat→Int)):Prop where
  len:2≤Rs.length
  l11:Rs.length≤lg c+1
  h0:gl Rs 0=prm20 c
  z:∀ i,z20 (gl Rs i)
  pm:∀ i,i < Rs.length→Pm (lg (gl Rs i)) (gl Rs i)
  dv:∀ i,i < Rs.length→Dv (FF (gl Rs i)) (FF c)
  l:∀ i,lg (gl Rs i)≤lg c
  q1:∀ i,i+1 < Rs.length→∀ j,conv (sqP (gl Rs i)) (gl Rs (i+1)) j=gl Rs i j
  sq:∀ i,i < Rs.length→∃ M,SqP (gl Rs i) M (sqP (gl Rs i))
  l1:gl Rs (Rs.length-1)=onez 1
  l2:gl Rs (Rs.length-2)=onez 1
  lo:Rs.length=2∨2≤lg (gl Rs (Rs.length-3))
theorem Sqf.fin{f f':Fn}(h:Sqf f f'){g:Fn}(h1:Dv g f)(h2:Dv g f'):Dv g (fun _=>1):=by
  obtain ⟨u,v,pu,pv,e⟩:=h.cop;obtain ⟨p,pp,k1⟩:=h1;obtain ⟨q,pq,k2⟩:=h2;exact ⟨fun x=>u x*p x+v x*q x,(pu.mul pp).add (pv.mul pq),fun x=>by have h3:=e x;have h4:=k1 x;have h5:=k2 x;grind⟩
theorem FcI.one{c:Nat→Int}{Rs:List (Nat→Int)}(h:FcI c Rs)(zc:z20 c)(h0:lg c≠0)(hs:Sqf (FF c) (FF (fder c))):Rs.length≤2:=by
  apply Classical.byContradiction;intro hn;obtain ⟨_,M,hg⟩:=h.st 0 (by omega);obtain ⟨h2,_⟩:=h.st 1 (by omega);rw [h.h0] at hg;have zp:=prm20_z zc;obtain ⟨q,pq,hq⟩:=dv_prm zc h0;have sp:Sqf (FF (prm20 c)) (FF (fder (prm20 c))):=hs.dv (FF_po zp) pq (FF_po (z20_der zp)) (FF_der zp) (fun x=>by rw [hq];exact Rat.mul_comm _ _);have h1:=sp.fin hg.idl.da hg.idl.db;have z1:=h.z 1;have h3:=lg_dv onez20 z1 (by rw [onez_lg];decide) (h1.congr fun x=>(onez_F x).symm);have:=h3.2;rw [onez_lg] at this;omega
theorem FcI.fin{c:Nat→Int}{Rs:List (Nat→Int)}(h:FcI c Rs)(zc:z20 c)(h2:2≤lg c)(h10:lg c≤10)(hl:lg (gl Rs (Rs.length-1))≤1):FcE c (Rs ++ [onez 1]):=by
  have hne:=h.ne;have hln:=h.ln;have hlast:gl Rs (Rs.length-1)=onez 1:=pm_one (h.z _) (h.pm _ (by omega)) (by have:=(h.pm (Rs.length-1) (by omega)).pos;omega);have hlen:(Rs ++ [onez 1]).length=Rs.length+1:=by rw [List.length_append];rfl
  have h2l:2≤Rs.length:=by
    apply Classical.byContradiction;intro hn;have e:Rs.length-1=0:=by omega
    rw [e,h.h0,prm20_lg zc] at hl;omega
  have hlg1:lg (gl Rs (Rs.length-1))=1:=by rw [hlast];exact onez_lg
  refine ⟨by omega,by omega,by rw [gl_app (by omega)];exact h.h0,fun i=>?_,fun i hi=>?_,fun i hi=>?_,fun i=>?_,fun i hi=>?_,fun i hi=>?_,by rw [hlen,Nat.add_sub_cancel];exact gl_last,by rw [hlen,show Rs.length+1-2=Rs.length-1 by omega,gl_app (by omega)];exact hlast,?_⟩
  · rw [gl_app1];split;exact h.z i;split;exact onez20;exact z20_nil
  · rw [gl_app1];split
    · rename_i h1;exact h.pm i h1
    · rw [if_pos (by omega)];exact onez_pm
  · rw [gl_app1];split
    · rename_i h1;exact h.dv i h1
    · rw [if_pos (by omega)];exact ⟨FF c,FF_po zc,fun x=>by rw [onez_F];grind⟩
  · rw [gl_app1];split;exact h.l i;split;rw [onez_lg];omega;exact Nat.le_trans (lg_of_z (n:=0) z20_nil fun _ _=>rfl) (Nat.zero_le _)
  · rw [gl_app1 i,gl_app1 (i+1),if_pos (by omega)]
    by_cases e:i+1 < Rs.length
    · rw [if_pos e]
      obtain ⟨k2,M,hg⟩:=h.st i e;exact (sq_step (h.z i) (h.pm i (by omega)) k2 (by have:=h.l i;omega) hg).2
    · rw [if_neg e,if_pos (by omega)]
      obtain rfl:i=Rs.length-1:=by omega
      rw [hlast,sq_onez];have h9:∀ x,FF (conv (onez 1) (onez 1)) x=FF (onez 1) x:=fun x=>by
        rw [FF_conv (n:=1) (m:=1) (fun i hi=>onez_z i hi) (fun i hi=>onez_z i hi) (by omega) onez20 onez20,onez_F];grind
      exact FF_inj (z20.of (conv_z0 (n:=1) (m:=1) (fun i hi=>onez_z i hi) (fun i hi=>onez_z i hi)) (by omega)) onez20 h9
  · rw [gl_app1]
    have h1:∃ M,SqP (onez 1) M (sqP (onez 1)):=by
      obtain ⟨M,_,hM⟩:=ex_lb onez20;exact ⟨M,(sq_self onez20 hM onez_pm ⟨FF_po onez20,FF_po (z20_der onez20),FF_der onez20,fun _=>1,fun _=>0,po_const 1,po_const 0,fun x=>by rw [onez_F];grind⟩).self⟩
    split
    · rename_i e
      by_cases e2:i+1 < Rs.length
      · obtain ⟨k2,M,hg⟩:=h.st i e2
        exact (sq_step (h.z i) (h.pm i (by omega)) k2 (by have:=h.l i;omega) hg).1
      · obtain rfl:i=Rs.length-1:=by omega
        rw [hlast];exact h1
    · rw [if_pos (by omega)];exact h1
  · rw [hlen]
    refine Or.inr ?_;rw [show Rs.length+1-3=Rs.length-2 by omega,gl_app (by omega)];exact (h.st (Rs.length-2) (by omega)).1
section
variable {c:Nat→Int} {Rs:List (Nat→Int)}
theorem FcE.quo(h:FcE c Rs)(h10:lg c≤10)(i:Nat)(hi:i+2 < Rs.length):∃ f,z20 f∧Pm (lg f) f∧(∀ j,conv f (sqP (gl Rs (i+1))) j=sqP (gl Rs i) j)∧Dv (FF f) (FF c):=by
  obtain ⟨M,k⟩:=h.sq i (by omega);obtain ⟨M',k'⟩:=h.sq (i+1) (by omega);have hq:=h.q1 i (by omega);have hx:lg (sqP (gl Rs i))≤lg c:=by
    have h1:=(lg_dv (h.z i) k.z (h.pm i (by omega)).pos k.dv).2;have:=h.l i;omega
  have d1:Dv (FF (gl Rs (i+1))) (FF (gl Rs i)):=⟨FF (sqP (gl Rs i)),FF_po k.z,fun x=>by
    rw [← FF_conv k.z.lg (h.z (i+1)).lg (by have:=h.l (i+1);omega) k.z (h.z (i+1)),show conv (sqP (gl Rs i)) (gl Rs (i+1))=gl Rs i from funext hq]⟩
  obtain ⟨N,w,pw,e⟩:=k.pw;have d2:Dv (FF (sqP (gl Rs (i+1)))) (FF (sqP (gl Rs i))):=sqf_dv k'.sq (FF_nz k'.z k'.ne) (FF_po k.z) ((k'.dv.trans d1).trans ⟨w,pw,e⟩);obtain ⟨W,pW,hW⟩:=d2;obtain ⟨f,n,hf,hc,_⟩:=exact_row k.z.lg k'.z.lg k'.pm.one pW (fun x=>by rw [FF_lg k.z,FF_lg k'.z];exact hW x);have zf:=quo20 k'.z k.z k'.ne hf hc;refine ⟨f,zf,quo_pm zf k'.z k.z hc k'.pm k.pm,hc,?_⟩;have hlq:=(quo_lg zf k'.z k.z hc k'.ne).1;have d3:Dv (FF f) (FF (sqP (gl Rs i))):=⟨FF (sqP (gl Rs (i+1))),FF_po k'.z,fun x=>by
    rw [← show conv f (sqP (gl Rs (i+1)))=sqP (gl Rs i) from funext hc,FF_conv zf.lg k'.z.lg (by have:=k'.ne;have:=lg_le (sqP (gl Rs (i+1)));omega) zf k'.z];exact Rat.mul_comm _ _⟩
  exact (d3.trans k.dv).trans (h.dv i (by omega))
noncomputable def facF(Rs:List (Nat→Int))(i:Nat):Nat→Int:=open Classical in if h:∃ f,z20 f∧∀ j,conv f (sqP (gl Rs (i+1))) j=sqP (gl Rs i) j then h.choose else fun _=>0
theorem conv_uniq{f f' d p:Nat→Int}(zf:z20 f)(zf':z20 f')(zd:z20 d)(zp:z20 p)(hd:lg d≠0)(h:∀ j,conv f d j=p j)(h':∀ j,conv f' d j=p j)(hl:lg p≤10):f=f':=by
  have key:∀ {f:Nat→Int},z20 f→(∀ j,conv f d j=p j)→∀ x,FF p x=FF f x*FF d x:=by
    intro f zf h x;have hq:=quo_lg zf zd zp h hd;have hb:lg f+lg d≤20:=by
      by_cases h0:lg f=0
      · have:=lg_le d;omega
      · have:=hq.2 h0;omega
    rw [← show conv f d=p from funext h,FF_conv zf.lg zd.lg hb zf zd]
  refine funext (FF_inj zf zf' fun x=>po_cancel2 (FF_po zd) (FF_nz zd hd) (FF_po zf) (FF_po zf') (fun t=>?_) x);have h1:=key zf h t;have h2:=key zf' h' t;grind
theorem facF_ok(h:FcE c Rs)(h10:lg c≤10)(i:Nat)(hi:i+2 < Rs.length):z20 (facF Rs i)∧Pm (lg (facF Rs i)) (facF Rs i)∧(∀ j,conv (facF Rs i) (sqP (gl Rs (i+1))) j=sqP (gl Rs i) j)∧Dv (FF (facF Rs i)) (FF c):=by
  obtain ⟨f,zf,pf,hc,hd⟩:=h.quo h10 i hi;have hx:∃ f,z20 f∧∀ j,conv f (sqP (gl Rs (i+1))) j=sqP (gl Rs i) j:=⟨f,zf,hc⟩
  have e:facF Rs i=f:=by
    unfold facF;rw [dif_pos hx];obtain ⟨M,k⟩:=h.sq i (by omega);obtain ⟨M',k'⟩:=h.sq (i+1) (by omega);have hxl:lg (sqP (gl Rs i))≤lg c:=by
      have h1:=(lg_dv (h.z i) k.z (h.pm i (by omega)).pos k.dv).2;have:=h.l i;omega
    exact conv_uniq hx.choose_spec.1 zf k'.z k.z k'.ne hx.choose_spec.2 hc (by omega)
  rw [e];exact ⟨zf,pf,hc,hd⟩
end
structure FacP(c:Nat→Int)(Ls:List (Nat→Int)):Prop where
  ex:∃ X:Nat→Nat→Int,(∀ i,i≤Ls.length→z20 (X i)∧lg (X i)≤lg c)∧(∃ M,SqP c M (X 0))∧X Ls.length=onez 1∧∀ i,i < Ls.length→∀ x,FF (X i) x=FF (gl Ls i) x*FF (X (i+1)) x
  z:∀ i,z20 (gl Ls i)
  pm:∀ i,i < Ls.length→Pm (lg (gl Ls i)) (gl Ls i)
  dv:∀ i,i < Ls.length→Dv (FF (gl Ls i)) (FF c)
  len:Ls.length≤lg c
  one:Sqf (FF c) (FF (fder c))→Ls.length=1
noncomputable def facL(Rs:List (Nat→Int))(k:Nat):List (Nat→Int):=(List.range k).map (facF Rs)
theorem facL_len(Rs:List (Nat→Int))(k:Nat):(facL Rs k).length=k:=by unfold facL;rw [List.length_map,List.length_range]
theorem facL_gl(Rs:List (Nat→Int))(k i:Nat)(h:i < k):gl (facL Rs k) i=facF Rs i:=by
  unfold facL gl;rw [List.getD_eq_getElem?_getD,List.getElem?_map,List.getElem?_range h];rfl
theorem facL_succ(Rs:List (Nat→Int))(k:Nat):facL Rs (k+1)=facL Rs k ++ [facF Rs k]:=by unfold facL;rw [List.range_succ,List.map_append];rfl
theorem sqp_prm{c f:Nat→Int}{M:Nat}(zc:z20 c)(h0:lg c≠0)(h:SqP (prm20 c) M f):SqP c M f:=by
  obtain ⟨s,hs0,hs⟩:=FF_prm_pos zc h0;obtain ⟨N,w,pw,e⟩:=h.pw;exact ⟨h.z,h.b,h.pm,h.dv.trans (dv_prm zc h0),⟨N,fun x=>w x*s⁻¹,pw.scl _,fun x=>(e x).trans (by show w x*FF (prm20 c) x=w x*s⁻¹*FF c x;rw [hs];grind)⟩,h.sq⟩
theorem FcE.fac{c:Nat→Int}{Rs:List (Nat→Int)}(h:FcE c Rs)(zc:z20 c)(h0:lg c≠0)(h10:lg c≤10)(hone:Sqf (FF c) (FF (fder c))→Rs.length≤3)(h3:3≤Rs.length):FacP c (facL Rs (Rs.length-2)):=by
  have hl:=facL_len Rs (Rs.length-2);have hxl:∀ i,i < Rs.length→∃ M,SqP (gl Rs i) M (sqP (gl Rs i))∧lg (sqP (gl Rs i))≤lg c:=fun i hi=>by
    obtain ⟨M,k⟩:=h.sq i hi;have h1:=(lg_dv (h.z i) k.z (h.pm i hi).pos k.dv).2;have:=h.l i;exact ⟨M,k,by omega⟩
  refine ⟨⟨fun i=>sqP (gl Rs i),fun i hi=>?_,?_,?_,fun i hi x=>?_⟩,fun i=>?_,fun i hi=>?_,fun i hi=>?_,by rw [hl];have:=h.l11;omega,fun hs=>by rw [hl];have:=hone hs;omega⟩
  · obtain ⟨M,k,kl⟩:=hxl i (by omega)
    exact ⟨k.z,kl⟩
  · obtain ⟨M,k⟩:=h.sq 0 (by omega)
    rw [h.h0] at k;refine ⟨M,?_⟩;show SqP c M (sqP (gl Rs 0))
    rw [h.h0];exact sqp_prm zc h0 k
  · show sqP (gl Rs _)=_
    rw [hl,h.l2,sq_onez]
  · have hi2:i+2 < Rs.length:=by omega
    obtain ⟨zf,pf,hc,_⟩:=facF_ok h h10 i hi2;obtain ⟨M,k,kl⟩:=hxl i (by omega);obtain ⟨M',k',kl'⟩:=hxl (i+1) (by omega);rw [facL_gl Rs _ i (by omega)];have hq:=(quo_lg zf k'.z k.z hc k'.ne).1;show FF (sqP (gl Rs i)) x=_
    rw [← show conv (facF Rs i) (sqP (gl Rs (i+1)))=sqP (gl Rs i) from funext hc,FF_conv zf.lg k'.z.lg (by have:=k'.ne;have:=lg_le (sqP (gl Rs (i+1)));omega) zf k'.z]
  · by_cases hi:i < Rs.length-2
    · rw [facL_gl Rs _ i hi];exact (facF_ok h h10 i (by omega)).1
    · rw [gl_none (by omega)];exact z20_nil
  · rw [facL_gl Rs _ i (by omega)];exact (facF_ok h h10 i (by omega)).2.1
  · rw [facL_gl Rs _ i (by omega)];exact (facF_ok h h10 i (by omega)).2.2.2
structure SqI(c:Nat→Int)(X:Nat→Nat→Int)(i:Nat)(o:Nat→Int):Prop where
  z:z20 o
  pm:gcdN o (lg o)=1
  dv:Dv (FF o) (FF c)
  eq:∀ x,FF o x*FF (X i) x=FF (X 0) x
theorem SqI.step{c o f:Nat→Int}{X:Nat→Nat→Int}{i:Nat}(h:SqI c X i o)(zc:z20 c)(h0:lg c≠0)(h10:lg c≤10)(zf:z20 f)(pf:Pm (lg f) f)(df:Dv (FF f) (FF c))(zX:z20 (X (i+1)))(hX0:Dv (FF (X 0)) (FF c))(he:∀ x,FF (X i) x=FF f x*FF (X (i+1)) x):SqI c X (i+1) (conv o f)∧(∀ x,FF (conv o f) x=FF o x*FF f x)∧lg o≤10∧lg f≤10:=by
  have l1:=(lg_dv zc h.z h0 h.dv).2;have l2:=(lg_dv zc zf h0 df).2;have zo:z20 (conv o f):=z20.of (conv_z0 h.z.lg zf.lg) (by omega);have hF:∀ x,FF (conv o f) x=FF o x*FF f x:=FF_conv h.z.lg zf.lg (by omega) h.z zf
  have hE:∀ x,FF (conv o f) x*FF (X (i+1)) x=FF (X 0) x:=fun x=>by rw [hF,← h.eq x,he x];grind
  refine ⟨⟨zo,?_,?_,hE⟩,hF,by omega,by omega⟩
  · have h1:=gauss h.z.lg zf.lg h.pm pf.one
    rwa [gcdN_eq (conv_z0 h.z.lg zf.lg) zo.lg] at h1
  · exact Dv.trans (b:=FF (X 0)) ⟨FF (X (i+1)),FF_po zX,fun x=>by rw [← hE x];exact Rat.mul_comm _ _⟩ hX0
theorem SqI.fin{c o:Nat→Int}{X:Nat→Nat→Int}{n M:Nat}(h:SqI c X n o)(hX:SqP c M (X 0))(h1:X n=onez 1):o=sqP c:=by
  have e:o=X 0:=funext (FF_inj h.z hX.z fun x=>by rw [← h.eq x,h1,onez_F];grind);rw [e];exact hX.eq
theorem SqI.start{c:Nat→Int}{X:Nat→Nat→Int}(zc:z20 c):SqI c X 0 (onez 1):=⟨onez20,onez_pm.one,⟨FF c,FF_po zc,fun x=>by rw [onez_F];grind⟩,fun x=>by rw [onez_F];grind⟩
def DvB(c:Nat→Int)(M:Nat):Prop:=∀ g,z20 g→gcdN g (lg g)=1→Dv (FF g) (FF c)→Db M g
end Go.Proofs.YthccmbncplakjaaGreat
