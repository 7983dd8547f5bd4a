/-
  Laws of the program's functions by an abstract machine, part 2: joined, short spelling. No condition.
-/
import Derived.Test.YtapmpcgekdplfaaGreatJ1
set_option linter.unusedVariables false
set_option linter.unusedSimpArgs false
set_option maxRecDepth 100000
set_option maxHeartbeats 4000000
namespace Go.Proofs.YtapmpcgekdplfaaGreat
open Go.RowKit
section
variable {b M top next Vl head u2 Ul U V g r:Nat}
/-- The first guess is not too small. -/
theorem ab4(hU:U=(head*b+u2)*M+Ul)(hUl:Ul < M)(hu2:u2 < b)(hV:V=(top*b+next)*M+Vl)(hh:head=g*top+r)(hr:r < top):U < (g+1)*V:=by
 have h1:(head*b+u2+1)*M≤((g+1)*(top*b))*M:=by
  refine Nat.mul_le_mul_right _ ?_;have h2:(head+1)*b≤((g+1)*top)*b:=Nat.mul_le_mul_right _ (by rw [hh,Nat.add_mul];omega);rw [Nat.add_mul] at h2;rw [← Nat.mul_assoc];omega
 have h3:(g+1)*V=((g+1)*(top*b))*M+(g+1)*(next*M+Vl):=by rw [hV];grind
 have h4:(head*b+u2+1)*M=(head*b+u2)*M+M:=by rw [Nat.add_mul,Nat.one_mul]
 omega
/-- Where the test says so the guess is too great. -/
theorem agi(hU:U=(head*b+u2)*M+Ul)(hUl:Ul < M)(hV:V=(top*b+next)*M+Vl)(hh:head=g*top+r)(ht:r*b+u2 < g*next):U < g*V:=by
 have h1:(head*b+u2+1)*M≤(g*(top*b)+g*next)*M:=by
  refine Nat.mul_le_mul_right _ ?_;have:head*b=g*(top*b)+r*b:=by rw [hh];grind
  omega
 have h3:g*V=(g*(top*b)+g*next)*M+g*Vl:=by rw [hV];grind
 have h4:(head*b+u2+1)*M=(head*b+u2)*M+M:=by rw [Nat.add_mul,Nat.one_mul]
 omega
/-- Where the test says no the guess is one too great at most. -/
theorem Ll(hU:U=(head*b+u2)*M+Ul)(hV:V=(top*b+next)*M+Vl)(hVl:Vl < M)(hh:head=g*top+r)(ht:g*next≤r*b+u2)(hg:g < b)(htop:0 < top):g*V≤U+V:=by
 have h1:(g*(top*b)+g*next)*M≤(head*b+u2)*M:=by
  refine Nat.mul_le_mul_right _ ?_;have:head*b=g*(top*b)+r*b:=by rw [hh];grind
  omega
 have h3:g*V=(g*(top*b)+g*next)*M+g*Vl:=by rw [hV];grind
 have h5:g*Vl≤b*M:=Nat.mul_le_mul (Nat.le_of_lt hg) (Nat.le_of_lt hVl);have h6:b*M≤V:=by
  rw [hV];have h7:(1*b)*M≤(top*b+next)*M:=Nat.mul_le_mul_right _ (by have:=Nat.mul_le_mul_right b (show 1≤top from htop);omega);rw [Nat.one_mul] at h7;omega
 omega
end
/-- The highest digit of what is divided is no greater than the divisor's. -/
theorem agj{b M u0 u1 u2 Ul U top next Vl V:Nat}(hU:U=((u0*b+u1)*b+u2)*M+Ul)(hV:V=(top*b+next)*M+Vl)(hVl:Vl < M)(hn:next < b)(h:U < b*V):u0≤top:=by
 rcases Nat.lt_or_ge top u0 with h0 | h0
 ·exfalso
  have h1:((top+1)*b)*b*M≤(u0*b)*b*M:=Nat.mul_le_mul_right _ (Nat.mul_le_mul_right _ (Nat.mul_le_mul_right _ h0));have h2:(u0*b)*b*M≤U:=by
   rw [hU];have:(u0*b)*b*M≤((u0*b+u1)*b+u2)*M:=Nat.mul_le_mul_right _ (by rw [Nat.add_mul (u0*b)];omega);omega
  have h3:V+M≤((top+1)*b)*M+M:=by
   have:(top*b+next+1)*M≤((top+1)*b)*M:=Nat.mul_le_mul_right _ (by rw [Nat.add_mul];omega);rw [Nat.add_mul,Nat.one_mul] at this;rw [hV];omega
  have h3':V≤((top+1)*b)*M:=by omega
  have h4:=Nat.mul_le_mul_left b h3';have h5:b*((top+1)*b*M)=((top+1)*b)*b*M:=by grind
  omega
 ·exact h0
/-- A quotient between a guess less one and the guess. -/
theorem afv{U V q:Nat}(hV:0 < V)(h1:q*V≤U)(h2:U < (q+1)*V):U / V=q:=by
 have h3:q≤U / V:=(Nat.le_div_iff_mul_le hV).2 h1;have h4:U / V < q+1:=(Nat.div_lt_iff_lt_mul hV).2 h2;omega
/-- One digit of a row less a multiple. -/
theorem Vt{B i x y g cy bw d c1 b1:Nat}{W U Y:List Nat}(hi:i < W.length)(hv:aI B (W.take i)+g*aI B (Y.take i)=aI B (U.take i)+B^i*(cy+bw)) 
  (hU:U[i]?=some x) (hY:Y[i]?=some y) (hd:d+(g*y+cy)+bw=x+B*(b1+c1)):
  aI B ((W.set i d).take (i+1))+g*aI B (Y.take (i+1))=aI B (U.take (i+1))+B^(i+1)*(c1+b1):=by
 rw [gu B W i d hi,aQ B hU,aQ B hY,Nat.pow_succ,Nat.mul_assoc];have h1:B^i*(d+(g*y+cy)+bw)=B^i*(x+B*(b1+c1)):=by rw [hd]
 rw [Nat.mul_add,Nat.mul_add,Nat.mul_add,Nat.mul_add] at h1;have h2:g*(aI B (Y.take i)+B^i*y)=g*aI B (Y.take i)+B^i*(g*y):=by grind
 rw [h2,Nat.add_comm c1 b1];rw [Nat.mul_add] at hv;omega
/-- The end of a digit whose guess is right. -/
theorem QE{B n u0 cy bw g t:Nat}{W Wc Y:List Nat}(VZ:W.length=n+1)(hWc:Wc.length=n+1)(hYl:Y.length=n)(hu:W[n]?=some u0) 
  (hv:aI B (Wc.take n)+g*aI B (Y.take n)=aI B (W.take n)+B^n*(cy+bw)) (ht:t+cy+bw=u0):aI B (Wc.set n t)+g*aI B Y=aI B W:=by
 have h1:=gu B Wc n t (by omega);rw [bI B (by rw [List.length_set];exact hWc)] at h1;have h2:=aQ B hu;rw [bI B VZ] at h2;rw [bI B hYl] at hv;rw [h1,h2,← ht,Nat.mul_add,Nat.mul_add];rw [Nat.mul_add] at hv;omega
/-- .. whose guess is one too great: before what is added back. -/
theorem QF{B n u0 cy bw g t:Nat}{W Wc Y:List Nat}(VZ:W.length=n+1)(hWc:Wc.length=n+1)(hYl:Y.length=n)(hu:W[n]?=some u0) 
  (hv:aI B (Wc.take n)+g*aI B (Y.take n)=aI B (W.take n)+B^n*(cy+bw)) (ht:t+cy+bw=u0+B):aI B (Wc.set n t)+g*aI B Y=aI B W+B^(n+1):=by
 have h1:=gu B Wc n t (by omega);rw [bI B (by rw [List.length_set];exact hWc)] at h1;have h2:=aQ B hu;rw [bI B VZ] at h2;rw [bI B hYl] at hv;have h3:B^n*(t+cy+bw)=B^n*(u0+B):=by rw [ht]
 rw [h1,h2,Nat.pow_succ];rw [Nat.mul_add,Nat.mul_add,Nat.mul_add] at h3;rw [Nat.mul_add] at hv;omega
/-- .. behind it. -/
theorem QG{B n bk g t e x:Nat}{V:Nat}{Wd Wc Y:List Nat}(hWd:Wd.length=n+1)(hWc:Wc.length=n+1)(hYl:Y.length=n)(ht:Wc[n]?=some t) 
  (hv:aI B (Wd.take n)+B^n*bk=aI B (Wc.take n)+aI B (Y.take n)) (hx:x+B*e=t+bk) (he:e≤1)
  (hW:aI B Wc+g*aI B Y=V+B^(n+1)) (hB:aI B (Wd.set n x) < B^(n+1)) (hY:aI B Y < B^(n+1)) (hg:g*aI B Y≤V+aI B Y) (hg2:V < g*aI B Y):
  aI B (Wd.set n x)+g*aI B Y=V+aI B Y:=by
 have h1:=gu B Wd n x (by omega);rw [bI B (by rw [List.length_set];exact hWd)] at h1;have h2:=aQ B ht;rw [bI B hWc] at h2;rw [bI B hYl] at hv;have h3:B^n*(x+B*e)=B^n*(t+bk):=by rw [hx]
 have hp:B^n*(B*e)=B^(n+1)*e:=by rw [Nat.pow_succ,Nat.mul_assoc]
 rw [Nat.mul_add,Nat.mul_add,hp] at h3;have he2:e=0∨e=1:=by omega
 rcases he2 with rfl | rfl
 ·rw [Nat.mul_zero] at h3;omega
 ·rw [Nat.mul_one] at h3;omega
theorem Q9{U V q r:Nat}(h:r+q*V=U)(hr:r < V):U / V=q∧U%V=r:=by
 have hV:0 < V:=by omega
 have h1:U / V=q:=afv hV (by omega) (by rw [Nat.add_mul,Nat.one_mul];omega);refine ⟨h1,?_⟩;have h2:=Nat.mod_add_div U V;rw [h1,Nat.mul_comm V q] at h2;omega
/-- One digit of what is added back. -/
theorem UL{B i x y bk d c1:Nat}{W U Y:List Nat}(hi:i < W.length)(hv:aI B (W.take i)+B^i*bk=aI B (U.take i)+aI B (Y.take i)) 
  (hU:U[i]?=some x) (hY:Y[i]?=some y) (hd:d+B*c1=x+y+bk):
  aI B ((W.set i d).take (i+1))+B^(i+1)*c1=aI B (U.take (i+1))+aI B (Y.take (i+1)):=by
 rw [gu B W i d hi,aQ B hU,aQ B hY,Nat.pow_succ,Nat.mul_assoc];have h1:B^i*(d+B*c1)=B^i*(x+y+bk):=by rw [hd]
 rw [Nat.mul_add,Nat.mul_add,Nat.mul_add] at h1;omega
/-- A row of k + 2 digits by its two highest ones. -/
theorem ac5{B k a c:Nat}{Y:List Nat}(hl:Y.length=k+2)(ha:Y[k+1]?=some a)(hc:Y[k]?=some c):aI B Y=(a*B+c)*B^k+aI B (Y.take k):=by
 have h1:=aQ B ha;have h2:=aQ B hc;rw [bI B hl,h2,Nat.pow_succ] at h1;rw [h1];grind
/-- A row of k + 3 digits by its three highest ones. -/
theorem VN{B k a c e:Nat}{U:List Nat}(hl:U.length=k+3)(ha:U[k+2]?=some a)(hc:U[k+1]?=some c)(he:U[k]?=some e):
  aI B U=((a*B+c)*B+e)*B^k+aI B (U.take k):=by
 have h1:=aQ B ha;have h2:=aQ B hc;have h3:=aQ B he;rw [bI B hl,h2,h3,Nat.pow_succ,Nat.pow_succ] at h1;rw [h1,Nat.pow_succ];grind
theorem aau{B n a c:Nat}{Y:List Nat}(h2:2≤n)(hl:Y.length=n)(ha:Y[n-1]?=some a)(hc:Y[n-2]?=some c):aI B Y=(a*B+c)*B^(n-2)+aI B (Y.take (n-2)):=by
 obtain ⟨k,rfl⟩:∃ k,n=k+2:=⟨n-2,by omega⟩
 exact ac5 hl ha hc
theorem RI{B n a c e:Nat}{U:List Nat}(h2:2≤n)(hl:U.length=n+1)(ha:U[n]?=some a)(hc:U[n-1]?=some c)(he:U[n-2]?=some e):
  aI B U=((a*B+c)*B+e)*B^(n-2)+aI B (U.take (n-2)):=by
 obtain ⟨k,rfl⟩:∃ k,n=k+2:=⟨n-2,by omega⟩
 exact VN hl ha hc he
theorem F5{B k:Nat}{Y:List Nat}(hB:∀ x∈Y,x < B)(hk:k≤Y.length):aI B (Y.take k) < B^k:=by
 have:=lX (B:=B) (xs:=Y.take k) (fun x h=>hB x (List.mem_of_mem_take h));rwa [List.length_take,Nat.min_eq_left hk] at this
/-- One digit of a long division: what is divided is low enough; what lies above is nothing. -/
theorem abD{B n V i:Nat}{A W C:List Nat}(hB:2≤B)(hi:A.length=i)(hW:W.length=n+1)(hlt:∀ x∈W,x < B)(hV:V < B^n)(h:aI B ((A ++(W ++C)).drop (i+1)) < V):
  aI B W < B*V∧aI B C=0:=by
 obtain ⟨x,W1,rfl⟩:∃ x W1,W=x ::W1:=by
  cases W with
  | nil=>simp at hW
  | cons x W1=>exact ⟨x,W1,rfl⟩
 have e:(A ++(x ::W1 ++C)).drop (i+1)=W1 ++C:=by
  subst hi;rw [← List.drop_drop,List.drop_left];rfl
 rw [e,jc] at h;have hx:x < B:=hlt x List.mem_cons_self;have hl:W1.length=n:=by simpa using hW
 rw [hl] at h;have h0:aI B C=0:=by
  rcases Nat.eq_zero_or_pos (aI B C) with h1 | h1
  ·exact h1
  ·have:=Nat.mul_le_mul_left (B^n) h1
   omega
 refine ⟨?_,h0⟩;rw [h0,Nat.mul_zero,Nat.add_zero] at h;rw [zh];have:=Nat.mul_le_mul_left B (show aI B W1+1≤V from h);rw [Nat.mul_add,Nat.mul_one] at this;omega
theorem XT{B n V i q X:Nat}{A W W' C qs:List Nat}(hA:A.length=i)(hC:aI B C=0)(hW:aI B W'+q*V=aI B W)(hi:i < qs.length) 
  (hv:aI B (A ++(W ++C))+B^(i+1)*(aI B (qs.drop (i+1))*V)=X) (hW':W'.length=n+1) (VZ:W.length=n+1):
  aI B (A ++(W' ++C))+B^i*(aI B ((qs.set i q).drop i)*V)=X∧aI B ((A ++(W' ++C)).drop i)=aI B W':=by
 constructor
 ·rw [zT B qs i q hi]
  rw [jc,jc,hC,Nat.mul_zero,Nat.add_zero,hA] at hv ⊢;rw [← hv,← hW,Nat.pow_succ];grind
 ·subst hA
  rw [List.drop_left,jc,hC,Nat.mul_zero,Nat.add_zero]
theorem ada{U V S q r:Nat}(hS:0 < S)(h:r+q*(V*S)=U*S)(hr:r < V*S):U / V=q∧U%V=r / S:=by
 have h1:q*(V*S)=(q*V)*S:=by rw [Nat.mul_assoc]
 have hle:q*V≤U:=by
  refine Nat.le_of_mul_le_mul_right (c:=S) ?_ hS;omega
 have hr2:r=(U-q*V)*S:=by rw [Nat.sub_mul];omega
 have hrS:r / S=U-q*V:=by rw [hr2,Nat.mul_div_cancel _ hS]
 have hlt:U-q*V < V:=by
  rw [hr2] at hr;exact Nat.lt_of_mul_lt_mul_right hr
 have:=Q9 (U:=U) (V:=V) (q:=q) (r:=U-q*V) (by omega) hlt;rw [hrS];exact this
/-- What the first divisor's digit says of the divisor moved up. -/
theorem O4{B k v low S V:Nat}(hV:V=v*B^k+low)(hlow:low < B^k)(h1:(v+1)*S≤B)(h2:B≤2*(v*S))(hS:0 < S):
  V*S < B^(k+1)∧B*B^k≤2*(V*S)∧B^k*S≤V*S:=by
 have hv:1≤v:=by
  rcases Nat.eq_zero_or_pos v with h0 | h0
  ·exfalso
   subst h0;have:=Nat.mul_le_mul_left 1 hS;omega
  ·exact h0
 refine ⟨?_,?_,?_⟩
 ·have h3:V+1≤(v+1)*B^k:=by rw [Nat.add_mul];omega
  have h4:(V+1)*S≤(v+1)*B^k*S:=Nat.mul_le_mul_right _ h3;have h5:(v+1)*B^k*S=(v+1)*S*B^k:=by grind
  have h6:(v+1)*S*B^k≤B*B^k:=Nat.mul_le_mul_right _ h1;rw [Nat.pow_succ,Nat.mul_comm _ B];rw [Nat.add_mul] at h4;omega
 ·have h3:B*B^k≤2*(v*S)*B^k:=Nat.mul_le_mul_right _ h2
  have h4:2*(v*S)*B^k=2*((v*B^k)*S):=by grind
  have h5:(v*B^k)*S≤V*S:=Nat.mul_le_mul_right _ (by omega);omega
 ·refine Nat.mul_le_mul_right _ ?_
  have:=Nat.mul_le_mul_right (B^k) hv;omega
/-- What is divided, moved up, is less than the divisor above the quotient's place. -/
theorem aag{B k j S U V T D X:Nat}(hU:U < B^(j+k))(hX:X=T+B^j*D)(hXU:X=U*S)(hV:B^k*S≤V)(hB:0 < B)(hS:0 < S):D < V:=by
 have h1:B^j*D < B^j*(B^k*S):=by
  have h2:U*S < B^(j+k)*S:=Nat.mul_lt_mul_of_pos_right hU hS;rw [Nat.pow_add,Nat.mul_assoc] at h2;omega
 have:=Nat.lt_of_mul_lt_mul_left h1;omega
theorem VL{B k y V:Nat}{Y:List Nat}(hB:∀ x∈Y,x < B)(hl:Y.length=k+1)(hy:Y[k]?=some y)(hV:aI B Y=V)(h:B*B^k≤2*V):B≤2*y+1:=by
 have h1:=aQ B hy;rw [bI B hl,hV] at h1;have h2:=F5 hB (k:=k) (by omega);have h3:B*B^k < (2*y+2)*B^k:=by
  rw [Nat.mul_comm] at h1;rw [Nat.add_mul,Nat.mul_assoc];have:=Nat.mul_comm (B^k) y;omega
 have:=Nat.lt_of_mul_lt_mul_right h3;omega
/-- A WINDOW in a block of the call's own: the limbs W behind A, ahead of C. -/
def PX(w:World)(G:Nat)(A W C:List Nat)(off:Nat):Prop:=kC w G 165 (dY .u32 (A ++(W ++C)))∧A.length=off
section
variable {w w':World} {G off:Nat} {A W C:List Nat}
theorem PX.lt(h:PX w G A W C off):G < w.heap.size:=h.1.lt
theorem PX.cell(h:PX w G A W C off){i x:Nat}(hi:W[i]?=some x):w.cell? ⟨G,off+i,none⟩=some (.int .u32 (x:Int)):=by
 obtain ⟨hb,hl⟩:=h;obtain ⟨hlt,hx⟩:=List.getElem?_eq_some_iff.1 hi;have hlen:off+i < (dY .u32 (A ++(W ++C))).length:=by rw [bK];simp;omega
 rw [hb.cell _ hlen,uV];congr 3;rw [List.getElem_append_right (by omega),List.getElem_append_left (by omega)];simp only [← hl,Nat.add_sub_cancel_left];exact hx
theorem PX.free(h:PX w G A W C off)(j:Nat):w.frozen? ⟨G,j,none⟩=false:=h.1.free j
theorem PX.set(h:PX w G A W C off){i:Nat}(hi:i < W.length)(d:Nat):PX (w.setCell ⟨G,off+i,none⟩ (.int .u32 (d:Int))) G A (W.set i d) C off:=by
 obtain ⟨hb,hl⟩:=h;refine ⟨?_,hl⟩;have:=hb.set (off+i) (.int .u32 (d:Int));rw [fD,List.set_append_right (off+i) d (by omega),List.set_append_left (off+i-A.length) d (by omega),show off+i-A.length=i by omega] at this;exact this
end
/-- Nothing has turned but the block G. -/
def qP(G:Nat)(w w':World):Prop:=w'.os=w.os∧w'.tape=w.tape∧w'.output=w.output∧w'.heap.size=w.heap.size∧∀ k,k≠G→w'.heap[k]?=w.heap[k]?
theorem qP.refl(G:Nat)(w:World):qP G w w:=⟨rfl,rfl,rfl,rfl,fun _ _=>rfl⟩
theorem qP.setCell{G:Nat}{w w':World}(h:qP G w w')(i:Nat)(v:Value):qP G w (w'.setCell ⟨G,i,none⟩ v):=
 ⟨h.1,h.2.1,h.2.2.1,by rw [World.size_setCell];exact h.2.2.2.1,fun k hk=>by rw [heap_setCell_other _ _ k _ hk];exact h.2.2.2.2 k hk⟩
theorem qP.below{G B:Nat}{w w':World}(h:qP G w w')(hB:B≤G):Below B w w':=⟨h.1,h.2.1,h.2.2.1,by rw [h.2.2.2.1];exact Nat.le_refl _,fun k hk=>h.2.2.2.2 k (by omega)⟩
theorem U1(G off n c b2 off2 d:Nat)(A W C Y:List Nat)(w:World)(hn:n≤1073741824)(hn2:2≤n)(hwin:PX w G A W C off)(VZ:W.length=n+1)(hWB:∀ x∈W,x < bP)(hc:n+1≤c) 
  (hy:Rw .u32 bP w (some ⟨b2,off2,none⟩) n d Y) (hne:b2≠G) (top:Nat) (htop:Y[n-1]?=some top) (ad5:2147483648≤top) (hlt:val W < bP*val Y):
  Calls Tryz.prog 177 #[.slice (some ⟨G,off,none⟩) (n+1) c,.slice (some ⟨b2,off2,none⟩) n d] w fun e w'=>∃ W',e= .returned (.int .u32 ((val W / val Y:Nat):Int))∧PX w' G A W' C off∧W'.length=n+1∧
   (∀ x∈W',x < bP)∧val W'=val W%val Y∧qP G w w':=by
 obtain ⟨next,hnext,Yq,hcn⟩:=hy.cell (show n-2 < n by omega);obtain ⟨top',Ox,YD,hct⟩:=hy.cell (show n-1 < n by omega);rw [htop] at Ox;obtain rfl:=Option.some.inj Ox;obtain ⟨u0,hu0⟩:∃ u,W[n]?=some u:=⟨_,List.getElem?_eq_getElem (by omega)⟩
 obtain ⟨u1,hu1⟩:∃ u,W[n-1]?=some u:=⟨_,List.getElem?_eq_getElem (by omega)⟩
 obtain ⟨u2,hu2⟩:∃ u,W[n-2]?=some u:=⟨_,List.getElem?_eq_getElem (by omega)⟩
 have af9:u0 < 4294967296:=hWB _ (List.mem_of_getElem? hu0);have ajF:u1 < 4294967296:=hWB _ (List.mem_of_getElem? hu1);have aga:u2 < 4294967296:=hWB _ (List.mem_of_getElem? hu2);have hc0:=hwin.cell hu0;have hc1:=hwin.cell hu1;have hc2:=hwin.cell hu2;have hnB:next < 4294967296:=Yq;have TA:top < 4294967296:=YD;obtain ⟨head,hhead⟩:∃ head:Nat,head=u0*4294967296+u1:=⟨_,rfl⟩
 have hor:=LV u0 u1 af9 ajF;rw [← hhead] at hor;obtain ⟨g0,hg0⟩:∃ g:Nat,g=head / top:=⟨_,rfl⟩
 obtain ⟨r0,hr0⟩:∃ g:Nat,g=head%top:=⟨_,rfl⟩
 have hg0':(head:Int) / (top:Int)=(g0:Int):=by rw [hg0];rfl
 have ajv:(head:Int)%(top:Int)=(r0:Int):=by rw [hr0];rfl
 have amG:((top:Int)==0)=false:=by rw [beq_eq_false_iff_ne];omega
 have ajC:(1:Int)≤top:=by omega
 have ai5:g0≤8589934592:=by
  rw [hg0];have h1:head / top < 8589934593:=by
   rw [Nat.div_lt_iff_lt_mul (by omega)];have:=Nat.mul_le_mul_left 8589934593 ad5;omega
  omega
 have HG0:=aS hg0;have HR0:=aS hr0;have HH:=aS hhead;have HT:=aS htop;have HU0:=aS hu0;have HU1:=aS hu1;have HU2:=aS hu2;have HN:=aS hnext;have HWL:=aS VZ;have HLT:=aS hlt;clear hg0 hr0 hhead htop hu0 hu1 hu2 hnext VZ hlt Yq YD;go_enter Tryz.func177,Tryz.ntmps177;go_wp2;go_quiet (fail);go_wp2;go_quiet (fail);go_upto_block 0 with (fail);rw [ajv];clear ajv hg0' hor;go_cut [9] (fun s9 wx=>∃ g:Nat,s9= .int .u64 g∧g < 4294967296∧val W < (g+1)*val Y∧g*val Y≤val W+val Y∧PX wx G A W C off∧qP G w wx)
 case first=>
  have h2:=HH.out;have hUW:=RI hn2 HWL.out HU0.out HU1.out HU2.out (B:=bP);have hVY:=aau hn2 hy.len HT.out HN.out (B:=bP);have hUl:=F5 hWB (k:=n-2) (by rw [HWL.out];omega);have hVl:=F5 hy.lt (k:=n-2) (by rw [hy.len];omega);have ajE:u0≤top:=agj hUW hVY hVl hnB HLT.out;rw [show u0*bP+u1=head from h2.symm] at hUW;have hhd:head=g0*top+r0:=by rw [HG0.out,HR0.out,Nat.mul_comm];exact (Nat.div_add_mod head top).symm
  have hin:val W < (g0+1)*val Y:=ab4 hUW hUl aga hVY hhd (by rw [HR0.out];exact Nat.mod_lt _ (by omega));have amC:r0 < 4294967296:=by rw [HR0.out];have:=Nat.mod_lt head (show 0 < top by omega);omega
  have HUW:=aS hUW;have VR:=aS hVY;have HUL:=aS hUl;have HVL:=aS hVl;have HIN:=aS hin;have HHD:=aS hhd;clear h2 hUW hVY hUl hVl hin hhd;go_wp2_with fail;go_loop [9,10] (fun s9 s10=>∃ g r:Nat,s9= .int .u64 g∧s10= .int .u64 r∧g≤8589934592∧head=g*top+r∧r < 4294967296∧val W < (g+1)*val Y) (fun s9 _=>(intOf s9).toNat)
  case atStart=>exact ⟨g0,r0,rfl,rfl,ai5,HHD.out,amC,HIN.out⟩
  case round=>
   obtain ⟨g,r,rfl,rfl,hgU,hgr,hrB,hUg⟩:=hrel;have HGR:=aS hgr;have HUG:=aS hUg;clear hgr hUg;obtain ⟨s2,hs2⟩:∃ s2:Nat,s2=r*4294967296+u2:=⟨_,rfl⟩
   have hor2:=LV r u2 hrB aga;rw [← hs2] at hor2;have HS2:=aS hs2;clear hs2
   by_cases hgB:4294967296≤g
   ·have hg1:1≤g:=by omega
    have hdg:decide ((4294967296:Int)≤(g:Int))=true:=by rw [decide_eq_true_eq];omega
    have Yf:val W < g*val Y:=Nat.lt_of_lt_of_le HLT.out (Nat.mul_le_mul_right _ hgB);have Wu:=aS Yf;clear Yf;have Yl:head=(g-1)*top+(r+top):=by
     have:=HGR.out;have h3:=Nat.mul_le_mul_right top hg1;rw [Nat.sub_mul,Nat.one_mul];omega
    have P7:=aS Yl;clear Yl;have hgc:((g:Int)-1)=((g-1:Nat):Int):=by omega
    have HGC:=aS hgc;clear hgc
    by_cases hbr:4294967296≤r+top
    ·have hdb:decide ((4294967296:Int)≤(r:Int)+(top:Int))=true:=by rw [decide_eq_true_eq];omega
     have QV:g-1 < 4294967296:=by
      have h3:(g-1)*top < 4294967296*top:=by
       have:=P7.out;have h5:=HH.out;have h6:=Nat.mul_le_mul_right 4294967296 ajE;rw [Nat.mul_comm 4294967296 top];omega
      exact Nat.lt_of_mul_lt_mul_right h3
     have hex:(g-1)*val Y≤val W+val Y:=by
      refine Ll HUW.out VR.out HVL.out P7.out ?_ QV (by omega);have h3:(g-1)*next≤4294967296*4294967296:=Nat.mul_le_mul (Nat.le_of_lt QV) (Nat.le_of_lt hnB);have h4:4294967296*4294967296≤(r+top)*4294967296:=Nat.mul_le_mul_right _ hbr;show (g-1)*next≤(r+top)*4294967296+u2
      omega
     have HEX:=aS hex;clear hex;go_wp2_with fail;go_meet;exact ⟨g-1,by rw [HGC.out],QV,by rw [Nat.sub_add_cancel hg1];exact Wu.out,HEX.out,hwin,qP.refl _ _⟩
    ·have hdb:decide ((4294967296:Int)≤(r:Int)+(top:Int))=false:=by rw [decide_eq_false_iff_not];omega
     go_wp2_with fail;go_round
     case rel=>exact ⟨g-1,r+top,by rw [HGC.out],by go_num,by omega,P7.out,by omega,by rw [Nat.sub_add_cancel hg1];exact Wu.out⟩
     case measure=>simp [intOf];omega
   ·have afW:g < 4294967296:=by omega
    have hdg:decide ((4294967296:Int)≤(g:Int))=false:=by rw [decide_eq_false_iff_not];omega
    obtain ⟨hm1,hm2⟩:=Ai g next afW hnB
    by_cases ht:s2 < g*next
    ·have hdt:decide ((s2:Int) < (g:Int)*(next:Int))=true:=by rw [decide_eq_true_eq,← Int.natCast_mul];omega
     have hg1:1≤g:=by
      rcases Nat.eq_zero_or_pos g with h0 | h0
      ·subst h0;omega
      ·exact h0
     have Yf:val W < g*val Y:=agi HUW.out HUL.out VR.out HGR.out (by rw [← HS2.out];exact ht);have Wu:=aS Yf;clear Yf;have Yl:head=(g-1)*top+(r+top):=by
      have:=HGR.out;have h3:=Nat.mul_le_mul_right top hg1;rw [Nat.sub_mul,Nat.one_mul];omega
     have P7:=aS Yl;clear Yl;have hgc:((g:Int)-1)=((g-1:Nat):Int):=by omega
     have HGC:=aS hgc;clear hgc
     by_cases hbr:4294967296≤r+top
     ·have hdb:decide ((4294967296:Int)≤(r:Int)+(top:Int))=true:=by rw [decide_eq_true_eq];omega
      have QV:g-1 < 4294967296:=by
       have h3:(g-1)*top < 4294967296*top:=by
        have:=P7.out;have h5:=HH.out;have h6:=Nat.mul_le_mul_right 4294967296 ajE;rw [Nat.mul_comm 4294967296 top];omega
       exact Nat.lt_of_mul_lt_mul_right h3
      have hex:(g-1)*val Y≤val W+val Y:=by
       refine Ll HUW.out VR.out HVL.out P7.out ?_ QV (by omega);have h3:(g-1)*next≤4294967296*4294967296:=Nat.mul_le_mul (Nat.le_of_lt QV) (Nat.le_of_lt hnB);have h4:4294967296*4294967296≤(r+top)*4294967296:=Nat.mul_le_mul_right _ hbr;show (g-1)*next≤(r+top)*4294967296+u2
       omega
      have HEX:=aS hex;clear hex;go_wp2_with fail;go_meet;exact ⟨g-1,by rw [HGC.out],QV,by rw [Nat.sub_add_cancel hg1];exact Wu.out,HEX.out,hwin,qP.refl _ _⟩
     ·have hdb:decide ((4294967296:Int)≤(r:Int)+(top:Int))=false:=by rw [decide_eq_false_iff_not];omega
      go_wp2_with fail;go_round
      case rel=>exact ⟨g-1,r+top,by rw [HGC.out],by go_num,by omega,P7.out,by omega,by rw [Nat.sub_add_cancel hg1];exact Wu.out⟩
      case measure=>simp [intOf];omega
    ·have hdt:decide ((s2:Int) < (g:Int)*(next:Int))=false:=by rw [decide_eq_false_iff_not,← Int.natCast_mul];omega
     have hex:g*val Y≤val W+val Y:=Ll HUW.out VR.out HVL.out HGR.out (by rw [← HS2.out];omega) afW (by omega);have HEX:=aS hex;clear hex;go_wp2_with fail;go_meet;exact ⟨g,rfl,afW,HUG.out,HEX.out,hwin,qP.refl _ _⟩
 case rest=>
  obtain ⟨g,rfl,hgB,hUg,hex,ajI,EF⟩:=hcut;have HUG:=aS hUg;have HEX:=aS hex;have hyc:Rw .u32 bP wc (some ⟨b2,off2,none⟩) n d Y:=hy.same (EF.2.2.2.2 b2 hne);clear hUg hex hc0 hc1 hc2 hcn hct hwin hy amG ajC ai5 ad5 TA hnB ajF aga HG0 HR0 HH HT HU1 HU2 HN HLT;clear Ox;go_wp2_with fail;go_loopw [11,12,81] (fun s11 s12 s81 wr=>∃ (i cy bw:Nat) (Wc:List Nat),i≤n∧s81= .int .i64 i∧s11= .int .u64 cy∧s12= .int .u64 bw∧cy < 4294967296∧bw≤1∧Wc.length=n+1∧(∀ x∈Wc,x < bP)∧PX wr G A Wc C off∧qP G w wr∧
    (∀ j,i≤j→Wc[j]?=W[j]?)∧aI bP (Wc.take i)+g*aI bP (Y.take i)=aI bP (W.take i)+bP^i*(cy+bw)) (fun _ _ s81 _=>n-(intOf s81).toNat)
  case atStart=>exact ⟨0,0,0,W,Nat.zero_le _,rfl,rfl,rfl,by omega,by omega,HWL.out,hWB,ajI,EF,fun _ _=>rfl,by simp [aI]⟩
  case round=>
   obtain ⟨i,cy,bw,Wc,hi,rfl,rfl,rfl,hcy,hbw,aiT,abQ,hwr,hor,hrest,hv⟩:=hrel;have HV:=aS hv;have VT:=aS aiT;have HRE:=aS hrest;clear hv aiT hrest;have hyr:Rw .u32 bP wr (some ⟨b2,off2,none⟩) n d Y:=hyc.same (by rw [hor.2.2.2.2 b2 hne,EF.2.2.2.2 b2 hne]);have hb0:=hwr.lt
   by_cases hin:i < n
   ·obtain ⟨y,hy,hyB,Vf⟩:=hyr.cell hin
    have hy':y < 4294967296:=hyB;obtain ⟨x,hx⟩:∃ x,Wc[i]?=some x:=⟨_,List.getElem?_eq_getElem (by rw [VT.out];omega)⟩
    have hx':x < 4294967296:=abQ _ (List.mem_of_getElem? hx);have hcx:=hwr.cell hx;have hfree:=hwr.free (off+i);have HX:=aS hx;have HY:=aS hy;clear hx hy hyB;obtain ⟨hm1,hm2⟩:=Ai g y hgB hy';have hmb:=JJ g y 0 cy hgB hy' (by omega) hcy;have hpc:(g:Int)*(y:Int)+(cy:Int)=((g*y+cy:Nat):Int):=by simp
    obtain ⟨lo,hlo⟩:∃ lo:Nat,lo=(g*y+cy)%4294967296:=⟨_,rfl⟩
    obtain ⟨hi1,hhi⟩:∃ hi1:Nat,hi1=(g*y+cy) / 4294967296:=⟨_,rfl⟩
    have elo:((g:Int)*(y:Int)+(cy:Int))%4294967296=(lo:Int):=by rw [hpc,hlo];rfl
    have ehi:((g:Int)*(y:Int)+(cy:Int)) / 4294967296=(hi1:Int):=by rw [hpc,hhi];rfl
    have abU:lo < 4294967296:=by omega
    have aja:hi1 < 4294967296:=by omega
    have hsum:lo+4294967296*hi1=g*y+cy:=by omega
    obtain ⟨d1,b1,hd1,hb1,e1,e2,e3⟩:=VK x lo bw hx' abU hbw;have aln:=aS hsum;have E1:=aS e1;have E2:=aS e2;have E3:=aS e3;have HMB:=aS hmb;clear hsum e1 e2 e3 hpc hlo hhi hmb;go_wp2;rw [E1.out,E2.out];go_roundw
    case rel=>
     refine ⟨i+1,hi1,b1,Wc.set i d1,by omega,by go_num,by first | rfl | rw [ehi],rfl,aja,hb1,by rw [List.length_set];exact VT.out,dH abQ hd1 i,hwr.set (by rw [VT.out];omega) d1,hor.setCell _ _,?_,?_⟩
     ·intro j hj
      rw [List.getElem?_set_ne (by omega)];exact HRE.out j (by omega)
     ·refine Vt (by rw [VT.out];omega) HV.out (by rw [← HRE.out i (Nat.le_refl _)];exact HX.out) HY.out ?_
      have h1:=aln.out;have h2:=E3.out;unfold bP at h2 ⊢;omega
    case measure=>simp [intOf];omega
   ·obtain rfl:i=n:=by omega
    have hcx:=hwr.cell (show Wc[i]?=some u0 by rw [HRE.out i (Nat.le_refl _)];exact HU0.out);have hfree:=hwr.free (off+i);have hW2:=VT.out
    by_cases hno:cy+bw≤u0
    ·have et:=PG u0 cy bw af9 hno
     obtain ⟨t,htt⟩:∃ t,t=u0-cy-bw:=⟨_,rfl⟩
     rw [← htt] at et;have TA:t < 4294967296:=by omega
     have hts:t+cy+bw=u0:=by omega
     have HTS:=aS hts;clear htt hts hno hW2;have ed:(t:Int) / 9223372036854775808=0:=by omega
     go_wp2;go_ret;have hend:=QE (t:=t) HWL.out VT.out hyc.len HU0.out HV.out HTS.out;have hle:g*val Y≤val W:=by unfold val;omega
     have hmod:=Q9 (U:=val W) (V:=val Y) (q:=g) (r:=val (Wc.set i t)) (by unfold val;omega) (by
      have h1:=HUG.out;rw [Nat.add_mul,Nat.one_mul] at h1;unfold val at *;omega)
     exact ⟨Wc.set i t,by rw [hmod.1];rfl,hwr.set (by rw [VT.out];omega) t,by rw [List.length_set];exact VT.out,dH abQ TA _,hmod.2.symm,hor.setCell _ _⟩
    ·obtain ⟨t,tl,et,ed,etl,amF,hts⟩:=Na u0 cy bw af9 hcy hbw (by omega)
     have HTS:=aS hts;clear hts hno hW2;have ajJ:PX (wr.setCell ⟨G,off+i,none⟩ (.int .u32 (tl:Int))) G A (Wc.set i tl) C off:=hwr.set (by rw [VT.out];omega) tl;have amx:qP G w (wr.setCell ⟨G,off+i,none⟩ (.int .u32 (tl:Int))):=hor.setCell _ _;have hend:=QF (t:=tl) HWL.out VT.out hyc.len HU0.out HV.out HTS.out;have aiS:∀ x∈Wc.set i tl,x < bP:=dH abQ amF _
     have hl3:(Wc.set i tl).length=i+1:=by rw [List.length_set];exact VT.out
     have hti:(Wc.set i tl)[i]?=some tl:=by rw [List.getElem?_set_self (by rw [VT.out];omega)]
     have hg0:val W < g*val Y:=by
      have h1:=lX aiS;rw [hl3] at h1;unfold val;omega
     have HE:=aS hend;have HL3:=aS hl3;have HTI:=aS hti;have HG0:=aS hg0;clear hend hl3 hti hg0;have ai8:1≤g:=by
      rcases Nat.eq_zero_or_pos g with h0 | h0
      ·have:=HG0.out;rw [h0,Nat.zero_mul] at this;omega
      ·exact h0
     go_wp2_with fail;generalize hgen:Wc.set i tl=W3 at *
     clear hgen;generalize ai7:wr.setCell ⟨G,off+i,none⟩ (.int .u32 (tl:Int))=wx at *
     clear ai7;go_loopw [18,134] (fun s18 ag6 wr=>∃ (k bk:Nat) (Wd:List Nat),k≤i∧ag6= .int .i64 k∧s18= .int .u64 bk∧bk≤1∧Wd.length=i+1∧(∀ x∈Wd,x < bP)∧PX wr G A Wd C off∧qP G w wr∧
       (∀ j,k≤j→Wd[j]?=W3[j]?)∧aI bP (Wd.take k)+bP^k*bk=aI bP (W3.take k)+aI bP (Y.take k)) (fun _ ag6 _=>i-(intOf ag6).toNat)
     case atStart=>exact ⟨0,0,W3,Nat.zero_le _,rfl,rfl,by omega,HL3.out,aiS,ajJ,amx,fun _ _=>rfl,by simp [aI]⟩
     case round=>
      obtain ⟨k,bk,Wd,hk,rfl,rfl,hbk,aiU,afP,hwd,hod,hrest,hv⟩:=hrel;have HV4:=aS hv;have HWD:=aS aiU;have aeK:=aS hrest;clear hv aiU hrest;have amK:Rw .u32 bP wr (some ⟨b2,off2,none⟩) i d Y:=hyc.same (by rw [hod.2.2.2.2 b2 hne,EF.2.2.2.2 b2 hne]);have hb4:=hwd.lt
      by_cases hki:k < i
      ·obtain ⟨y,hy,hyB,Vf⟩:=amK.cell hki
       have hy':y < 4294967296:=hyB;obtain ⟨x,hx⟩:∃ x,Wd[k]?=some x:=⟨_,List.getElem?_eq_getElem (by rw [HWD.out];omega)⟩
       have hx':x < 4294967296:=afP _ (List.mem_of_getElem? hx);have al7:=hwd.cell hx;have afV:=hwd.free (off+k);have HX:=aS hx;have HY:=aS hy;clear hx hy hyB;go_wp2;go_roundw
       case rel=>
        refine ⟨k+1,(x+y+bk) / 4294967296,Wd.set k ((x+y+bk)%4294967296),by omega,by go_num,by go_num,by omega,by rw [List.length_set];exact HWD.out,dH afP (Nat.mod_lt _ (by decide)) k,?_,hod.setCell _ _,?_,?_⟩
        ·have e:((x:Int)+y+bk)%4294967296=(((x+y+bk)%4294967296:Nat):Int):=by omega
         rw [e];exact hwd.set (by rw [HWD.out];omega) _
        ·intro j hj
         rw [List.getElem?_set_ne (by omega)];exact aeK.out j (by omega)
        ·exact UL (by rw [HWD.out];omega) HV4.out (by rw [← aeK.out k (Nat.le_refl _)];exact HX.out) HY.out (Nat.mod_add_div _ _)
       case measure=>simp [intOf];omega
      ·obtain rfl:k=i:=by omega
       have al7:=hwd.cell (show Wd[k]?=some tl by rw [aeK.out k (Nat.le_refl _)];exact HTI.out);have afV:=hwd.free (off+k);go_wp2;go_ret;have e:((tl:Int)+bk)%4294967296=(((tl+bk)%4294967296:Nat):Int):=by omega
       have hB5:∀ x∈Wd.set k ((tl+bk)%4294967296),x < bP:=dH afP (Nat.mod_lt _ (by decide)) k
       have hl5:(Wd.set k ((tl+bk)%4294967296)).length=k+1:=by rw [List.length_set];exact HWD.out
       have h5:=lX hB5;rw [hl5] at h5;have abS:aI bP Y < bP^(k+1):=by
        have h1:=lX hyc.lt;rw [hyc.len] at h1;exact Nat.lt_of_lt_of_le h1 (Nat.pow_le_pow_right (by decide) (by omega))
       have hend:=QG (V:=aI bP W) (g:=g) (x:=(tl+bk)%4294967296) (e:=(tl+bk) / 4294967296) HWD.out HL3.out hyc.len HTI.out HV4.out (Nat.mod_add_div _ _) (by omega) HE.out h5 abS HEX.out HG0.out;have hmod:=Q9 (U:=val W) (V:=val Y) (q:=g-1) (r:=val (Wd.set k ((tl+bk)%4294967296))) (by
        have h6:=Nat.mul_le_mul_right (aI bP Y) ai8;rw [Nat.sub_mul,Nat.one_mul];unfold val;omega) (by
        have h6:=HG0.out;unfold val at *;omega)
       refine ⟨Wd.set k ((tl+bk)%4294967296),iR (by rw [hmod.1];omega),?_,hl5,hB5,hmod.2.symm,hod.setCell _ _⟩;rw [e];exact hwd.set (by rw [HWD.out];omega) _
theorem Gm(s:Nat)(h:s≤65536):iG (s:Int)=s:=by unfold iG;omega
/-- A row moved up, in l limbs. -/
theorem PK(ao:Option Addr)(n c:Nat)(xs:List Nat)(s l:Nat)(w:World)(hn:n≤1073741824)(hs:s≤65536)(hl:l≤2147483648)(hr:Rw .u32 bP w ao n c xs)(hfit:(cO (val xs*2^s)).length≤l):
  Calls Tryz.prog 176 #[.slice ao n c,.int .i64 (s:Int),.int .i64 (l:Int)] w fun e w'=>∃ (G:Nat) (os:List Nat),e= .returned (.slice (some ⟨G,0,none⟩) l l)∧w.heap.size≤G∧kC w' G 165 (dY .u32 os)∧
   os.length=l∧(∀ x∈os,x < bP)∧val os=val xs*2^s∧Below w.heap.size w w':=by
 go_enter Tryz.func176,Tryz.ntmps176;go_wp2_with (at_make;refine Hid.out ?_);refine aS ?_;refine iW _ rfl _ _ 34 rfl 165 (.int .u32 0) 4 Tryz.underlying34 Tryz.infoU32 rfl .i64 .i64 _ _ l rfl rfl (by omega) (by omega) (by omega) (by unfold maxLen;omega) fun w2 hblk hbelow hlt=>?_
 obtain ⟨G,hG⟩:∃ G,G=w.heap.size:=⟨_,rfl⟩
 rw [← hG] at hblk hlt hbelow ⊢;have HG:=aS hG;clear hG;rw [← dZ] at hblk;have hr2:=hr.ext (by rw [← HG.out];exact hbelow);go_wp2_with fail;refine (acS ao n c xs (s:Int) _ hn hr2).mono ?_;rintro e w3 ⟨ro,k,c',rfl,hres,hown,hb3⟩;rw [Gm s hs] at hres;have hblk3:=hblk.ext hb3;have hlen:=hres.len;have aeJ:=aS hfit;clear hfit;go_wp2_with (with_reducible refine Hid.out (p:=wpList _ _ _ ({dst:=some 14,op:=_,type:=_,pos:=_,after:=_,guard:=_} ::_) _ _) ?_);refine aS<|VO rfl _ _ 34 34 rfl 165 Tryz.underlying34 Tryz.sizeU32 G 0 l l ro k c' rfl rfl _ 165 hblk3 (dY .u32 (cO (val xs*2^s))) ?_ hres.cells ?_ (He _ _) G (Nat.le_refl _) fun w4 adS hb4=>?_
 ·rw [bK,hlen];exact (Nat.min_eq_left (by rw [← hlen];exact aeJ.out)).symm
 ·rw [bK,bK];simp;exact aeJ.out
 have hsp:splice (dY .u32 (List.replicate l 0)) 0 (dY .u32 (cO (val xs*2^s)))=dY .u32 (cO (val xs*2^s) ++List.replicate (l-k) 0):=by
  simp [splice,dY,hlen]
 rw [hsp] at adS;go_wp2;go_ret;refine ⟨G,cO (val xs*2^s) ++List.replicate (l-k) 0,rfl,by rw [HG.out];exact Nat.le_refl _,adS,?_,?_,?_,?_⟩
 ·have:=aeJ.out
  rw [List.length_append,List.length_replicate,hlen];rw [hlen] at this;omega
 ·intro x hx
  rcases List.mem_append.1 hx with hx | hx
  ·exact CB _ x hx
  ·have:=(List.mem_replicate.1 hx).2;subst this;decide
 ·unfold val
  rw [Dn];exact dh _
 ·rw [← HG.out]
  exact (hbelow.trans (hb3.mono (by omega))).trans hb4
theorem Ux(x:Nat):val [x]=x:=by simp [val,aI]
/-- The error of a division: 2 by 0. -/
def DY(v:Nat):Int:=if v=0 then 2 else 0
/-- The remainder of a division; by 0 there is none. -/
def jY(u v:Nat):Nat:=if v=0 then 0 else u%v
theorem Aa{v:Nat}(h:v≠0):DY v=0:=if_neg h
theorem Vs(u:Nat):jY u 0=0:=rfl
theorem CJ(u:Nat){v:Nat}(h:v≠0):jY u v=u%v:=if_neg h
theorem QJ(ao bo:Option Addr)(n c m d:Nat)(xs ys:List Nat)(w:World)(hn:n≤1073741823)(hm:m≤1073741823)(hr:Rw .u32 bP w ao n c xs)(hs:Rw .u32 bP w bo m d ys):
  Calls Tryz.prog 166 #[.slice ao n c,.slice bo m d] w fun e w'=>∃ qo qn qc ro rn rc,e= .returned (.tuple #[.slice qo qn qc,.slice ro rn rc,.int .i64 (DY (val ys))])∧
   Rw .u32 bP w' qo qn qc (cO (val xs / val ys))∧qN w.heap.size w' qo qc∧Rw .u32 bP w' ro rn rc (cO (jY (val xs) (val ys)))∧qN w.heap.size w' ro rc∧Below w.heap.size w w':=by
 go_enter Tryz.func166,Tryz.ntmps166;go_wp2_with fail;refine (gB ao n c xs _ (by omega) hr).mono ?_;rintro e w' ⟨n1,rfl,hn1,hp,rfl⟩;go_wp2_with fail;refine (gB bo m d ys _ (by omega) hs).mono ?_;rintro e w' ⟨m1,rfl,hm1,hq,rfl⟩;clear hr hs;have hpl:=hp.len;have D8:=hq.len
 by_cases h0:m1=0
 ·subst h0
  have hy0:val ys=0:=qI.1 (List.eq_nil_of_length_eq_zero D8);have HY:=aS hy0;clear hy0 hpl D8;go_wp2;go_ret3;refine ⟨_,_,_,_,_,_,by rw [HY.out];rfl,?_,qN.nil _ _ _,?_,qN.nil _ _ _,Below.refl _ _⟩
  ·rw [HY.out,Nat.div_zero];exact Rw.nil _ _ _
  ·rw [HY.out];exact Rw.nil _ _ _
 ·have hy0:val ys≠0:=fun h=>h0 (by rw [← D8,h];rfl)
  have HY:=aS hy0;clear hy0
  by_cases hlt:n1 < m1
  ·have hlt2:val xs < val ys:=um (by rw [hpl,D8];exact hlt)
   have HLT:=aS hlt2;clear hlt2 hpl D8;have hm0:((m1:Int)==0)=false:=by rw [beq_eq_false_iff_ne];omega
   go_wp2_with fail;refine (OV _ _ _ _ _ (by omega) hp).mono ?_;rintro e w1 ⟨ro,k,c',rfl,hk,hres,hown,hb⟩;rw [dh] at hres;go_wp2;go_ret3;refine ⟨_,_,_,_,_,_,by rw [Aa HY.out];rfl,?_,qN.nil _ _ _,?_,hown,hb⟩
   ·rw [Nat.div_eq_of_lt HLT.out];exact Rw.nil _ _ _
   ·rw [CJ _ HY.out,Nat.mod_eq_of_lt HLT.out];exact hres
  ·by_cases h1:m1=1
   ·subst h1
    obtain ⟨b1,off1,v,rfl,hv,hvB,hcv⟩:=hq.at (show 0 < 1 by omega);have YE:v < 4294967296:=hvB;rw [Nat.add_zero] at hcv;have hvy:val ys=v:=by
     have h2:cO (val ys)= [v]:=by
      match hL:cO (val ys),D8 with
      | [a],_=>rw [hL] at hv;simp at hv;rw [hv]
     have h3:=dh (val ys);rw [h2,Ux] at h3;exact h3.symm
    have hv0:0 < v:=by have:=HY.out;omega
    have HV:=aS hvy;clear hvy hv hvB hpl D8;go_wp2_with fail;refine (acC _ _ _ _ v _ (by omega) hv0 YE hp).mono ?_;rintro e w1 ⟨ro,k,c',rfl,hres,hown,hb⟩;rw [dh] at hres ⊢;have hrB:val xs%v < 4294967296:=Nat.lt_trans (Nat.mod_lt _ hv0) YE;obtain ⟨r,hr⟩:∃ r,r=val xs%v:=⟨_,rfl⟩
    rw [← hr] at hrB ⊢;have HR:=aS hr;clear hr;go_wp2_with fail;have hblk:kC (w1.alloc (.cells #[.int .u32 (r:Int)] 165)) w1.heap.size 165 (dY .u32 [r]):=kC.new w1 165 (dY .u32 [r]);have hb2:Below w1.heap.size w1 (w1.alloc (.cells #[.int .u32 (r:Int)] 165)):=(Below.refl _ _).alloc (Nat.le_refl _) _;have hrow:=hblk.rw (B:=bP) (by intro x hx;rw [List.mem_singleton.1 hx];exact hrB);refine (gB _ 1 1 [r] _ (by omega) hrow).mono ?_;rintro e w' ⟨k2,rfl,hk2,hres2,rfl⟩;have hown2:=hblk.own (base:=w.heap.size) hb.size (n:=1) (Nat.le_refl _);rw [Ux] at hres2;go_wp2;go_ret3;exact ⟨_,_,_,_,_,_,by rw [Aa HY.out];rfl,by rw [HV.out];exact hres.ext hb2,hown.ext hb2,by rw [CJ _ HY.out,HV.out,← HR.out];exact hres2,hown2,kS hb hb2⟩
   ·have hm2:2≤m1:=by omega
    have hm0:((m1:Int)==0)=false:=by rw [beq_eq_false_iff_ne];omega
    have ajl:((m1:Int)==1)=false:=by rw [beq_eq_false_iff_ne];omega
    obtain ⟨b1,off1,v,rfl,hv,hvB,hcv⟩:=hq.at (show m1-1 < m1 by omega);have YE:v < 4294967296:=hvB;have hv0:v≠0:=by
     rintro rfl;have h1:=(Gv oU (val ys)).2;rw [List.getLast?_eq_getElem?] at h1
     change (cO (val ys))[(cO (val ys)).length-1]?≠some 0 at h1
     rw [D8] at h1;exact h1 hv
    have hnb:=ig (n:=v) (k:=32) YE;have amr:=Ea hv0;have ajo:=yx v;have ajp:=Ic hv0;obtain ⟨s,hs⟩:∃ s,s=32-bQ v:=⟨_,rfl⟩
    have hsB:s≤31:=by omega
    have hS1:(v+1)*2^s≤bP:=by
     have h3:=Nat.mul_le_mul_right (2^s) (show v+1≤2^bQ v from ajo);rw [← Nat.pow_add,show bQ v+s=32 by omega] at h3;exact h3
    have hS2:bP≤2*(v*2^s):=by
     have h3:=Nat.mul_le_mul_right (2^s) ajp;rw [← Nat.pow_add,show bQ v-1+s=31 by omega] at h3;unfold bP;omega
    have Tz:=Nat.two_pow_pos s;have adN:val ys=v*bP^(m1-1)+val ((cO (val ys)).take (m1-1)):=by
     have h3:=aQ bP hv;rw [show m1-1+1=m1 by omega,bI _ D8] at h3
     change val (cO (val ys))=_ at h3
     rw [dh] at h3;rw [Nat.mul_comm,Nat.add_comm];exact h3
    have adO:=F5 (B:=bP) (k:=m1-1) (CB (val ys)) (by rw [D8];omega);obtain ⟨hs1,hs2,hs3⟩:=O4 adN adO hS1 hS2 Tz;have hU1:val xs < bP^n1:=by have h3:=IL (CB (val xs));rwa [dh,hpl] at h3
    have adU:(cO (val (cO (val xs))*2^s)).length≤n1+1:=by
     rw [dh];refine Hw ?_;rw [Nat.pow_succ];have h3:2^s≤bP:=by
      have:=Nat.mul_le_mul_right (2^s) (show 1≤v+1 by omega);omega
     exact Nat.lt_of_lt_of_le (Nat.mul_lt_mul_of_pos_right hU1 Tz) (Nat.mul_le_mul_left _ h3)
    have adV:(cO (val (cO (val ys))*2^s)).length≤m1:=by
     rw [dh];refine Hw ?_;rw [show m1-1+1=m1 by omega] at hs1;exact hs1
    have HS:=aS hs;have J8:=aS hpl;have Nv:=aS D8;have HFA:=aS adU;have HFB:=aS adV;have HS1:=aS hs1;have HS2:=aS hs2;have HS3:=aS hs3;have HU1:=aS hU1;have HSP:=aS Tz;clear hs hv hpl D8 hvB adN adO adU adV hs1 hs2 hs3 hU1 Tz hS1 hS2 hnb amr ajo ajp;go_wp2_with fail;refine (Zc v _ YE).mono ?_;rintro e w' ⟨rfl,rfl⟩;rw [← HS.out];go_wp2_with fail;refine (PK ao n1 c _ s (n1+1) _ (by omega) (by omega) (by omega) hp HFA.out).mono ?_;rintro e w1 ⟨Gx,X0,rfl,hGx,hbx,hxl,jL,hxv,hb1⟩;rw [dh] at hxv;have HXL:=aS hxl;have HXV:=aS hxv;clear hxl hxv;have hbxlt:=hbx.lt;have hq1:=hq.ext hb1;go_wp2_with fail;refine (PK _ m1 d _ s m1 _ (by omega) (by omega) (by omega) hq1 HFB.out).mono ?_;rintro e w2 ⟨Gy,Y0,rfl,hGy,hby,hyl,hyB,hyv,hb2⟩;rw [dh] at hyv;have HYL:=aS hyl;have HYV:=aS hyv;clear hyl hyv;have hbx2:=hbx.ext hb2;have KZ:Below w.heap.size w w2:=kS hb1 hb2;have hbylt:=hby.lt;obtain ⟨l,hl⟩:∃ l,n1=m1+l:=⟨n1-m1,by omega⟩
    subst hl;go_wp2_with (at_make;refine Hid.out ?_);refine aS<|iW _ rfl _ _ 34 rfl 165 (.int .u32 0) 4 Tryz.underlying34 Tryz.infoU32 rfl .i64 .i64 _ _ (l+1) rfl rfl (by omega) (by omega) (by omega) (by unfold maxLen;omega) fun w3 hblk hbelow hlt3=>?_
    obtain ⟨Gq,hGq⟩:∃ G,G=w2.heap.size:=⟨_,rfl⟩
    rw [← hGq] at hblk hlt3 hbelow ⊢;rw [← dZ] at hblk;have ai2:=hbx2.ext (by rw [← hGq];exact hbelow);have ai3:=hby.ext (by rw [← hGq];exact hbelow);have Yi:Below w.heap.size w w3:=kS KZ (by rw [← hGq];exact hbelow);have HGQ:=aS hGq;have hxy:Gx≠Gy:=by omega
    have hxq:Gx≠Gq:=by omega
    have hyq:Gy≠Gq:=by omega
    have Yy:w.heap.size≤Gq:=by rw [hGq];exact KZ.size
    clear hGq hbx hbx2 hby hp hq hq1;have hstart:aI bP (X0.drop (l+1)) < val Y0:=by
     rw [HYV.out];have h3:=oQ bP X0 (l+1) (by rw [HXL.out];omega);have h4:=HU1.out;rw [show m1+l=(l+1)+(m1-1) by omega] at h4;exact aag (B:=bP) (S:=2^s) h4 h3 (by have:=HXV.out;unfold val at *;exact this) HS3.out (by decide) HSP.out
    obtain ⟨yt,hyt⟩:∃ yt,Y0[m1-1]?=some yt:=⟨_,List.getElem?_eq_getElem (by rw [HYL.out];omega)⟩
    have amM:2147483648≤yt:=by
     have h3:=VL (B:=bP) (k:=m1-1) (V:=val ys*2^s) hyB (by rw [HYL.out];omega) hyt HYV.out HS2.out;unfold bP at h3;omega
    have abS:val Y0 < bP^m1:=by
     have h3:=HS1.out;rw [show m1-1+1=m1 by omega] at h3;rw [HYV.out];exact h3
    have HST:=aS hstart;have HYT:=aS hyt;have ahF:=aS abS;clear hstart hyt abS;go_wp2_with fail;go_loopw [13] (fun s13 wr=>∃ (k:Nat) (os qs:List Nat),k≤l+1∧s13= .int .i64 ((k:Int)-1)∧os.length=m1+l+1∧(∀ x∈os,x < bP)∧qs.length=l+1∧(∀ x∈qs,x < bP)∧kC wr Gx 165 (dY .u32 os)∧
      kC wr Gy 165 (dY .u32 Y0)∧kC wr Gq 165 (dY .u32 qs)∧Below w.heap.size w wr∧aI bP (os.drop k) < val Y0∧aI bP os+bP^k*(aI bP (qs.drop k)*val Y0)=val X0) (fun s13 _=>(intOf s13+1).toNat)
    case atStart=>exact ⟨l+1,X0,List.replicate (l+1) 0,Nat.le_refl _,by go_num,HXL.out,jL,by simp,(fun o ho=>by have:=(List.mem_replicate.1 ho).2;subst this;decide),ai2,ai3,hblk,Yi,HST.out,by rw [List.drop_of_length_le (by simp)];simp [aI,val]⟩
    case round=>
     obtain ⟨k,os,qs,hk,rfl,hol,oz,ajt,ajs,hbx,hby,hbq,hbe,hlt4,hv⟩:=hrel;have HOL:=aS hol;have Ws:=aS ajt;have aaO:=aS hlt4;have HV:=aS hv;clear hol ajt hlt4 hv hblk ai2 ai3 Yi hbelow
     by_cases hk0:k=0
     ·subst hk0
      have hv:=HV.out;have hlt4:=aaO.out;rw [List.drop_zero] at hv hlt4;rw [Nat.pow_zero,Nat.one_mul,HXV.out,HYV.out] at hv;rw [HYV.out] at hlt4;obtain ⟨hdiv,hmod⟩:=ada HSP.out hv hlt4;have Ov:=hbq.rw ajs;rw [Ws.out] at Ov;have hxrow:=hbx.rw oz;rw [HOL.out] at hxrow;have agc:=hxrow.take (m:=m1) (by omega);have hxval:val (os.take m1)=val os:=by
       have h3:=oQ bP os m1 (by rw [HOL.out];omega);have h4:=ahF.out;rw [HYV.out] at h4;have h5:aI bP (os.drop m1)=0:=by
        rcases Nat.eq_zero_or_pos (aI bP (os.drop m1)) with h5 | h5
        ·exact h5
        ·have:=Nat.mul_le_mul_left (bP^m1) h5
         omega
       rw [h5] at h3;exact h3.symm
      have ajr:=hbq.own (base:=w.heap.size) Yy (n:=l+1) (by rw [bK,Ws.out];exact Nat.le_refl _);have adT:val xs / val ys=val qs:=hdiv;have ad1:val xs%val ys=val os / 2^s:=hmod;have HD:=aS adT;have HM:=aS ad1;have alv:=aS hxval;clear hv hlt4 hdiv hmod adT ad1 hxval HV aaO;have hqd:Rw .u32 bP wr.drew (some ⟨Gq,0,none⟩) (l+1) (l+1) qs:=Ov;have hxd:Rw .u32 bP wr.drew (some ⟨Gx,0,none⟩) m1 (m1+l+1) (os.take m1):=agc;go_wp2_with fail;go_region_with (first | (go_at_call 155;refine (gB _ _ _ _ _ (by omega) hqd).mono ?_;rintro e w' ⟨k2,rfl,hk2,hres2,rfl⟩) | (go_at_call 178;refine (acT _ _ _ _ (s:Int) _ (by omega) hxd).mono ?_;rintro e w' ⟨ro,k3,c3,rfl,ad2,hown3,hb3⟩))
      all_goals
       go_wp2;go_ret3;rw [Gm s (by omega),alv.out,← HM.out] at ad2;have YB:Rw .u32 bP wr.drew (some ⟨Gq,0,none⟩) k2 (l+1) (cO (val xs / val ys)):=by rw [HD.out];exact hres2
       have hown4:qN w.heap.size wr.drew (some ⟨Gq,0,none⟩) (l+1):=ajr;have hbd:Below w.heap.size w wr.drew:=hbe.drew;exact ⟨_,_,_,_,_,_,by rw [Aa HY.out];rfl,YB.ext hb3,hown4.ext hb3,by rw [CJ _ HY.out];exact ad2,hown3.mono hbd.size,kS hbd hb3⟩
     ·obtain ⟨j,rfl⟩:∃ j,k=j+1:=⟨k-1,by omega⟩
      obtain ⟨A,hA⟩:∃ A,A=os.take j:=⟨_,rfl⟩
      obtain ⟨W,hW⟩:∃ W,W=(os.drop j).take (m1+1):=⟨_,rfl⟩
      obtain ⟨C,hC⟩:∃ C,C=(os.drop j).drop (m1+1):=⟨_,rfl⟩
      have hos:os=A ++(W ++C):=by rw [hA,hW,hC,List.take_append_drop,List.take_append_drop]
      have hAl:A.length=j:=by rw [hA,List.length_take,HOL.out];omega
      have VZ:W.length=m1+1:=by rw [hW,List.length_take,List.length_drop,HOL.out];omega
      have hWB:∀ x∈W,x < bP:=fun x hx=>oz x (by rw [hos];exact List.mem_append_right _ (List.mem_append_left _ hx))
      have alO:∀ x∈A,x < bP:=fun x hx=>oz x (by rw [hos];exact List.mem_append_left _ hx)
      have alP:∀ x∈C,x < bP:=fun x hx=>oz x (by rw [hos];exact List.mem_append_right _ (List.mem_append_right _ hx))
      have hCl:C.length+j+m1=m1+l:=by
       have:=HOL.out;rw [hos,List.length_append,List.length_append,hAl,VZ] at this;omega
      have hv:=HV.out;have hlt4:=aaO.out;rw [hos] at hv hlt4 hbx;have hpre:=abD oU hAl VZ hWB ahF.out hlt4;have hwin:PX wr Gx A W C j:=⟨hbx,hAl⟩;have ad7:=hby.rw hyB;rw [HYL.out] at ad7;have Nw:=aS hv;have aaP:=aS hpre;have HWL:=aS VZ;have HCL:=aS hCl;have HAL:=aS hAl;clear hv hlt4 hbx hA hW hC hos VZ hCl hAl hpre HV aaO;go_wp2_with fail;rw [show j+m1+1-j=m1+1 by omega];refine (U1 Gx j m1 _ Gy 0 m1 A W C Y0 _ (by omega) hm2 hwin HWL.out hWB (by omega) ad7 (Ne.symm hxy) yt HYT.out amM aaP.out.1).mono ?_;rintro e w' ⟨W',rfl,ajH,afQ,alX,abR,EF⟩;have afS:kC w' Gq 165 (dY .u32 qs):=by unfold kC;rw [EF.2.2.2.2 Gq (Ne.symm hxq)];exact hbq
      have al4:kC w' Gy 165 (dY .u32 Y0):=by unfold kC;rw [EF.2.2.2.2 Gy (Ne.symm hxy)];exact hby
      have alZ:Below w.heap.size w w':=hbe.trans (EF.below hGx);have hcell:=afS.cell j (by rw [bK,Ws.out];omega);have hfree:=afS.free j;obtain ⟨q,hq⟩:∃ q,q=val W / val Y0:=⟨_,rfl⟩
      rw [← hq];have adQ:0 < val Y0:=by
       have:=aaP.out.1;rcases Nat.eq_zero_or_pos (val Y0) with h5 | h5
       ·rw [h5,Nat.mul_zero] at this;omega
       ·exact h5
      have hqB:q < 4294967296:=by
       rw [hq,Nat.div_lt_iff_lt_mul adQ];exact aaP.out.1
      have hWq:aI bP W'+q*val Y0=aI bP W:=by
       have:=Nat.mod_add_div (val W) (val Y0);rw [← abR,← hq,Nat.mul_comm (val Y0)] at this;exact this
      have aiV:aI bP W' < val Y0:=by
       have:=Nat.mod_lt (val W) adQ;rw [← abR] at this;exact this
      have hstep:=XT (n:=m1) (C:=C) HAL.out aaP.out.2 hWq (by rw [Ws.out];omega) Nw.out afQ HWL.out;have HQ:=aS hq;have ahE:=aS hstep;have als:=aS afQ;have HWV:=aS abR;have alu:=aS aiV;clear hq hstep afQ abR hWq aiV;have hlen':(A ++(W' ++C)).length=m1+l+1:=by
       rw [List.length_append,List.length_append,HAL.out,als.out];have:=HCL.out;omega
      have HL5:=aS hlen';clear hlen';go_wp2;go_roundw
      case rel=>
       have hv:=afS.set j (.int .u32 (q:Int));rw [fD] at hv;refine ⟨j,A ++(W' ++C),qs.set j q,by omega,by go_num,HL5.out,?_,by rw [List.length_set];exact Ws.out,dH ajs hqB j,ajH.1.other hxq _,al4.other hyq _,hv,alZ.setCell Yy _,?_,?_⟩
       ·intro x hx
        rcases List.mem_append.1 hx with hx | hx
        ·exact alO x hx
        ·rcases List.mem_append.1 hx with hx | hx
         ·exact alX x hx
         ·exact alP x hx
       ·rw [ahE.out.2];exact alu.out
       ·exact ahE.out.1
      case measure=>simp [intOf];try omega
theorem Vq{B:BS}{w w':World}{K m:Nat}{a:Option Addr}{n c:Nat}(hB:∀ b,B b→b < w.heap.size)(h:Rw .u32 bP w' a n c (cO m))(hm:m < bP^K)(ho:qN w.heap.size w' a c):eu B w' (ln K m) (.slice a n c):=Za h (TQ h hm) (CP hB ho h)
theorem XU{B:BS}{w w':World}{K m:Nat}{a:Option Addr}{n c:Nat}(hB:∀ b,B b→b < w.heap.size)(h:Rw .i64 B4 w' a n c (aT m))(hm:m < B4^K)(ho:qN w.heap.size w' a c):eu B w' (dn K m) (.slice a n c):=XW h (afu h hm) (CP hB ho h)
theorem Iq{B K M:Nat}(hB:2≤B)(h:K≤M){m:Nat}(hm:m < B^K):m < B^M:=Nat.lt_of_lt_of_le hm (Nat.pow_le_pow_right (by omega) h)
theorem zV{l:Lf}{K m:Nat}(h:IZ l K m)(hK:K≤1073741824:=by first|decide|omega):aC Tryz.prog 147 [.one l] (.d (.one (ln K m))):=by
 obtain ⟨xs,hl1,rfl⟩:=h;refine ⟨fC Tryz.func147 rfl rfl,fun B w vs hB hvs=>?_⟩
 match vs,hvs with
 | [v],⟨h1,_⟩=>
  obtain ⟨a,n,c,rfl,hr,hn,hb⟩:=qA (hl1 _ _ _ h1);refine (OV a n c xs w (by omega) hr).mono ?_;rintro e w' ⟨ro,k,c',rfl,hk,h3,ho,hbb⟩;exact ⟨_,rfl,hbb,Vq hB h3 (zK hr hn) ho⟩
theorem adr{a b:Lf}{K L M m n:Nat}(h:IZ a K m)(k:IZ b L n)(hM:max K L+1≤M:=by first|decide|omega)(hK:K≤1073741824:=by first|decide|omega)(hL:L≤1073741824:=by first|decide|omega):aC Tryz.prog 164 [.one a,.one b] (.d (.one (ln M (m+n)))):=by
 obtain ⟨xs,hl1,rfl⟩:=h;obtain ⟨ys,hl2,rfl⟩:=k;refine ⟨fC Tryz.func164 rfl rfl,fun B w vs hB hvs=>?_⟩
 match vs,hvs with
 | [v,u],⟨h1,h2,_⟩=>
  obtain ⟨a,n,c,rfl,hr,hn,hb⟩:=qA (hl1 _ _ _ h1);obtain ⟨a',n',c',rfl,hr',hn',hb'⟩:=qA (hl2 _ _ _ h2);refine (abf a a' n c n' c' xs ys w (by omega) (by omega) hr hr').mono ?_;rintro e w' ⟨ro,k,cc,rfl,h3,ho,hbb⟩;exact ⟨_,rfl,hbb,Vq hB h3 (Iq (by decide) hM (H9 (by decide) (zK hr hn) (zK hr' hn'))) ho⟩
theorem WH{a b:Lf}{K L m n:Nat}(h:IZ a K m)(k:IZ b L n)(hK:K≤1073741824:=by first|decide|omega)(hL:L≤1073741824:=by first|decide|omega):aC Tryz.prog 165 [.one a,.one b] (.lK [.one (ln K (m-n)),.one (.v (.bool (decide (n≤m))))]):=by
 obtain ⟨xs,hl1,rfl⟩:=h;obtain ⟨ys,hl2,rfl⟩:=k;refine ⟨fC Tryz.func165 rfl rfl,fun B w vs hB hvs=>?_⟩
 match vs,hvs with
 | [v,u],⟨h1,h2,_⟩=>
  obtain ⟨a,n,c,rfl,hr,hn,hb⟩:=qA (hl1 _ _ _ h1);obtain ⟨a',n',c',rfl,hr',hn',hb'⟩:=qA (hl2 _ _ _ h2);refine (acX a a' n c n' c' xs ys w (by omega) (by omega) hr hr').mono ?_;rintro e w' ⟨ro,k,cc,rfl,h3,ho,hbb⟩;have hlt:=zK hr hn;exact ⟨_,rfl,hbb,[.slice ro k cc,.bool (decide (val ys≤val xs))],rfl,Vq hB h3 (by omega) ho,⟨rfl,rfl⟩,trivial⟩
theorem ahO{a b:Lf}{K L M m n:Nat}(h:IZ a K m)(k:IZ b L n)(hM:K+L≤M:=by first|decide|omega)(hK:K≤1073741824:=by first|decide|omega)(hL:L≤1073741824:=by first|decide|omega):aC Tryz.prog 154 [.one a,.one b] (.d (.one (ln M (m*n)))):=by
 obtain ⟨xs,hl1,rfl⟩:=h;obtain ⟨ys,hl2,rfl⟩:=k;refine ⟨fC Tryz.func154 rfl rfl,fun B w vs hB hvs=>?_⟩
 match vs,hvs with
 | [v,u],⟨h1,h2,_⟩=>
  obtain ⟨a,n,c,rfl,hr,hn,hb⟩:=qA (hl1 _ _ _ h1);obtain ⟨a',n',c',rfl,hr',hn',hb'⟩:=qA (hl2 _ _ _ h2);refine (acr a a' n c n' c' xs ys w (by omega) (by omega) hr hr').mono ?_;rintro e w' ⟨ro,k,cc,rfl,h3,ho,hbb⟩;exact ⟨_,rfl,hbb,Vq hB h3 (Iq (by decide) hM (Ia (zK hr hn) (zK hr' hn'))) ho⟩
theorem ads{a b:Lf}{K L m n:Nat}(h:IZ a K m)(k:IZ b L n)(hK:K≤1073741824:=by first|decide|omega)(hL:L≤1073741824:=by first|decide|omega):aC Tryz.prog 133 [.one a,.one b] (.d (.one (.v (.int .i64 (jS m n))))):=by
 obtain ⟨xs,hl1,rfl⟩:=h;obtain ⟨ys,hl2,rfl⟩:=k;refine ⟨fC Tryz.func133 rfl rfl,fun B w vs hB hvs=>?_⟩
 match vs,hvs with
 | [v,u],⟨h1,h2,_⟩=>
  obtain ⟨a,n,c,rfl,hr,hn,hb⟩:=qA (hl1 _ _ _ h1);obtain ⟨a',n',c',rfl,hr',hn',hb'⟩:=qA (hl2 _ _ _ h2);refine (SC a a' n c n' c' xs ys w (by omega) (by omega) hr hr').mono ?_;rintro e w' ⟨rfl,hbb⟩;exact ⟨_,rfl,hbb,rfl,rfl⟩
theorem DJ{a:Lf}{K m:Nat}(h:IZ a K m)(hK:K≤1073741824:=by first|decide|omega):aC Tryz.prog 136 [.one a] (.d (.one (.v (.int .i64 ((bQ m:Nat):Int))))):=by
 obtain ⟨xs,hl1,rfl⟩:=h;refine ⟨fC Tryz.func136 rfl rfl,fun B w vs hB hvs=>?_⟩
 match vs,hvs with
 | [v],⟨h1,_⟩=>
  obtain ⟨a,n,c,rfl,hr,hn,hb⟩:=qA (hl1 _ _ _ h1);refine (Xi a n c xs w (by omega) hr).mono ?_;rintro e w' ⟨rfl,rfl⟩;exact ⟨_,rfl,Below.refl _ _,rfl,rfl⟩
theorem WG{a b:Lf}{K L m n:Nat}(h:IZ a K m)(k:IZ b L n)(hK:K≤1073741823:=by first|decide|omega)(hL:L≤1073741823:=by first|decide|omega):aC Tryz.prog 166 [.one a,.one b] (.lK [.one (ln K (m / n)),.one (ln L (jY m n)),.one (.v (.int .i64 (DY n)))]):=by
 obtain ⟨xs,hl1,rfl⟩:=h;obtain ⟨ys,hl2,rfl⟩:=k;refine ⟨fC Tryz.func166 rfl rfl,fun B w vs hB hvs=>?_⟩
 match vs,hvs with
 | [v,u],⟨h1,h2,_⟩=>
  obtain ⟨a,n,c,rfl,hr,hn,hb⟩:=qA (hl1 _ _ _ h1);obtain ⟨a',n',c',rfl,hr',hn',hb'⟩:=qA (hl2 _ _ _ h2);refine (QJ a a' n c n' c' xs ys w (by omega) (by omega) hr hr').mono ?_;rintro e w' ⟨qo,qn,qc,ro,rn,rc,rfl,h3,h4,h5,h6,hbb⟩;have hq:val xs / val ys < bP^K:=Nat.lt_of_le_of_lt (Nat.div_le_self _ _) (zK hr hn);have hm:jY (val xs) (val ys) < bP^L:=by
   by_cases h0:val ys=0
   ·rw [h0,Vs];exact Nat.pow_pos (by decide)
   ·rw [CJ _ h0];exact Nat.lt_trans (Nat.mod_lt _ (by omega)) (zK hr' hn')
  exact ⟨_,rfl,hbb,[.slice qo qn qc,.slice ro rn rc,.int .i64 (DY (val ys))],rfl,Vq hB h3 hq h4,Vq hB h5 hm h6,⟨rfl,rfl⟩,trivial⟩
theorem ahS{a b:Lf}{K L M m n:Nat}(h:UH a K m)(k:UH b L n)(hM:max K L+1≤M:=by first|decide|omega)(hK:K≤1073741824:=by first|decide|omega)(hL:L≤1073741824:=by first|decide|omega):aC Tryz.prog 140 [.one a,.one b] (.d (.one (dn M (m+n)))):=by
 refine ⟨fC Tryz.func140 rfl rfl,fun B w vs hB hvs=>?_⟩
 match vs,hvs with
 | [v,u],⟨h1,h2,_⟩=>
  obtain ⟨a,na,c,rfl,hr,hn,hb⟩:=uM (h _ _ _ h1);obtain ⟨a',n',c',rfl,hr',hn',hb'⟩:=uM (k _ _ _ h2);refine (Xb a a' na c n' c' m n w (by omega) (by omega) hr hr').mono ?_;rintro e w' ⟨ro,k,cc,rfl,h3,ho,hk,hbb⟩;exact ⟨_,rfl,hbb,XU hB h3 (Iq (by decide) hM (H9 (by decide) (EC hr hn) (EC hr' hn'))) ho⟩
theorem ahU{a b:Lf}{K L M m n:Nat}(h:UH a K m)(k:UH b L n)(hM:K+L≤M:=by first|decide|omega)(hK:K≤1073741824:=by first|decide|omega)(hL:L≤1073741824:=by first|decide|omega):aC Tryz.prog 118 [.one a,.one b] (.d (.one (dn M (m*n)))):=by
 refine ⟨fC Tryz.func118 rfl rfl,fun B w vs hB hvs=>?_⟩
 match vs,hvs with
 | [v,u],⟨h1,h2,_⟩=>
  obtain ⟨a,na,c,rfl,hr,hn,hb⟩:=uM (h _ _ _ h1);obtain ⟨a',n',c',rfl,hr',hn',hb'⟩:=uM (k _ _ _ h2);refine (Zi a a' na c n' c' m n w (by omega) (by omega) hr hr').mono ?_;rintro e w' ⟨ro,k,cc,rfl,h3,hk,ho,hbb⟩;exact ⟨_,rfl,hbb,XU hB h3 (Iq (by decide) hM (Ia (EC hr hn) (EC hr' hn'))) ho⟩
theorem adv{a b:Lf}{K L M m n:Nat}(h:UH a K m)(k:UH b L n)(hle:n≤m)(hM:K≤M:=by first|decide|omega)(hK:K≤1073741824:=by first|decide|omega)(hL:L≤1073741824:=by first|decide|omega):aC Tryz.prog 142 [.one a,.one b] (.d (.one (dn M (m-n)))):=by
 refine ⟨fC Tryz.func142 rfl rfl,fun B w vs hB hvs=>?_⟩
 match vs,hvs with
 | [v,u],⟨h1,h2,_⟩=>
  obtain ⟨a,na,c,rfl,hr,hn,hb⟩:=uM (h _ _ _ h1);obtain ⟨a',n',c',rfl,hr',hn',hb'⟩:=uM (k _ _ _ h2);refine (Pj a a' na c n' c' m n w (by omega) (by omega) hle hr hr').mono ?_;rintro e w' ⟨ro,k,cc,rfl,h3,hk,ho,hbb⟩;exact ⟨_,rfl,hbb,XU hB h3 (Iq (by decide) hM (Nat.lt_of_le_of_lt (Nat.sub_le _ _) (EC hr hn))) ho⟩
theorem ahT{a b:Lf}{K L m n:Nat}(h:UH a K m)(k:UH b L n)(hK:K≤1073741824:=by first|decide|omega)(hL:L≤1073741824:=by first|decide|omega):aC Tryz.prog 141 [.one a,.one b] (.d (.one (.v (.int .i64 (jS m n))))):=by
 refine ⟨fC Tryz.func141 rfl rfl,fun B w vs hB hvs=>?_⟩
 match vs,hvs with
 | [v,u],⟨h1,h2,_⟩=>
  obtain ⟨a,na,c,rfl,hr,hn,hb⟩:=uM (h _ _ _ h1);obtain ⟨a',n',c',rfl,hr',hn',hb'⟩:=uM (k _ _ _ h2);refine (NS a a' na c n' c' m n w (by omega) (by omega) hr hr').mono ?_;rintro e w' ⟨rfl,hbb⟩;exact ⟨_,rfl,hbb,rfl,rfl⟩
theorem adu{a b:Lf}{K L m n:Nat}(h:UH a K m)(k:UH b L n)(hn0:0 < n)(hK:K≤100000000:=by first|decide|omega)(hL:L≤100000000:=by first|decide|omega):aC Tryz.prog 119 [.one a,.one b] (.lK [.one (dn K (m / n)),.one (dn L (m%n))]):=by
 refine ⟨fC Tryz.func119 rfl rfl,fun B w vs hB hvs=>?_⟩
 match vs,hvs with
 | [v,u],⟨h1,h2,_⟩=>
  obtain ⟨a,na,c,rfl,hr,hn,hb⟩:=uM (h _ _ _ h1);obtain ⟨a',n',c',rfl,hr',hn',hb'⟩:=uM (k _ _ _ h2);refine (XR a a' na c n' c' m n w (by omega) (by omega) hn0 hr hr').mono ?_;rintro e w' ⟨qo,qn,qc,ro,rn,rc,rfl,h3,_,h5,_,h4,h6,hbb⟩;have hq:m / n < B4^K:=Nat.lt_of_le_of_lt (Nat.div_le_self _ _) (EC hr hn);have hm:m%n < B4^L:=Nat.lt_trans (Nat.mod_lt _ hn0) (EC hr' hn');exact ⟨_,rfl,hbb,[.slice qo qn qc,.slice ro rn rc],rfl,XU hB h3 hq h4,XU hB h5 hm h6,trivial⟩
theorem aeU{l:Lf}{K M m:Nat}(h:IZ l K m)(hM:3*K≤M:=by first|decide|omega)(hK:K≤100000000:=by first|decide|omega):aC Tryz.prog 110 [.one l] (.d (.one (dn M m))):=by
 obtain ⟨xs,hl1,rfl⟩:=h;refine ⟨fC Tryz.func110 rfl rfl,fun B w vs hB hvs=>?_⟩
 match vs,hvs with
 | [v],⟨h1,_⟩=>
  obtain ⟨a,n,c,rfl,hr,hn,hb⟩:=qA (hl1 _ _ _ h1);refine (U8 a n c xs w (by omega) hr).mono ?_;rintro e w' ⟨ro,k,c',rfl,h3,hk,ho,hbb⟩;exact ⟨_,rfl,hbb,XW h3 (by omega) (CP hB ho h3)⟩
theorem alB{a:Lf}{K m:Nat}(h:UH a K m)(hK:K≤1000000000:=by first|decide|omega):aC Tryz.prog 93 [.one a] (.d (.one (ln K m))):=by
 refine ⟨fC Tryz.func93 rfl rfl,fun B w vs hB hvs=>?_⟩
 match vs,hvs with
 | [v],⟨h1,_⟩=>
  obtain ⟨a,n,c,rfl,hr,hn,hb⟩:=uM (h _ _ _ h1);refine (ac4 a n c m w (by omega) hr).mono ?_;rintro e w' ⟨ro,k,c',rfl,h3,hk,ho,hbb⟩;exact ⟨_,rfl,hbb,Za h3 (by omega) (CP hB ho h3)⟩
theorem ahV{n:Nat}(hn:n≤1000000:=by decide):aC Tryz.prog 89 [.one (.v (.int .i64 (n:Int)))] (.d (.one (dn (n+1) (2^n)))):=by
 refine ⟨fC Tryz.func89 rfl rfl,fun B w vs hB hvs=>?_⟩
 match vs,hvs with
 | [_],⟨⟨rfl,_⟩,_⟩=>
  refine (ZM n w hn).mono ?_;rintro e w' ⟨ro,k,c',rfl,h3,hk,ho,hbb⟩;exact ⟨_,rfl,hbb,XW h3 hk (CP hB ho h3)⟩
theorem Bv{v:Int}{n:Nat}(hn:1≤n:=by decide)(hn2:n≤1000000:=by decide)(h1: -9223372036854775808≤v)(h2:v≤9223372036854775807):aC Tryz.prog 20 [.one (.v (.int .i64 v)),.one (.v (.int .i64 (n:Int)))] (.d (.one (.v (.int .i64 (v%(n:Int)))))):=by
 refine ⟨fC Tryz.func20 rfl rfl,fun B w vs hB hvs=>?_⟩
 match vs,hvs with
 | [_,_],⟨⟨rfl,_⟩,⟨rfl,_⟩,_⟩=>
  refine (RQ v n w hn hn2 h1 h2).mono ?_;rintro e w' ⟨rfl,rfl⟩;exact ⟨_,rfl,Below.refl _ _,rfl,rfl⟩
theorem TM{K m:Nat}{b:Bool}{z:Int}(h1:b=decide (z < 0))(h2:m=z.natAbs):AV.le (.d (.agg [.v (.bool b),ln K m])) (.d (.agg (zn K z))):=by subst h1;subst h2;exact AV.le.rfl
theorem Hl{K m:Nat}{b:Bool}{z:Int}(h1:b=decide (z < 0))(h2:m=z.natAbs):AV.le (.d (.agg [dn K m,.v (.bool b)])) (.d (.agg (rn K z))):=by subst h1;subst h2;exact AV.le.rfl
theorem y5(m:Nat):(cO m).length=0↔m=0:=by
 rw [List.length_eq_zero_iff];exact qI
theorem uJ(m:Nat):(aT m).length=0↔m=0:=by
 rw [List.length_eq_zero_iff];exact BL
def wM(z:Int):Int:=if z < 0 then -1 else if z=0 then 0 else 1
theorem rM(m:Nat):bQ m=0↔m=0:=⟨fun h=>by
 rcases Nat.eq_zero_or_pos m with h0 | h0
 ·exact h0
 ·have:=Ea (n:=m) (by omega);omega,fun h=>by subst h;rfl⟩
theorem aaD(s t:Bool)(a b:Nat):zv (s !=t) (a*b)=zv s a*zv t b:=by
 cases s <;> cases t <;> simp [zv,Int.neg_mul,Int.mul_neg]
theorem aaC(s t:Bool)(a b:Nat)(h:(s==t)=true):zv s (a+b)=zv s a+zv t b:=by
 cases s <;> cases t <;> simp_all [zv] <;> omega
theorem UE(s t:Bool)(a b:Nat)(h:(s==t)=false)(hle:b≤a):zv s (a-b)=zv s a+zv t b:=by
 cases s <;> cases t <;> simp_all [zv] <;> omega
theorem UF(s t:Bool)(a b:Nat)(h:(s==t)=false)(hle:¬ b≤a):zv t (b-a)=zv s a+zv t b:=by
 cases s <;> cases t <;> simp_all [zv] <;> omega
theorem zvz(x:Int):x=zv (decide (x < 0)) x.natAbs:=(kY x).symm
theorem qx{K m:Nat}{neg:Bool}{z:Int}(hz:zv neg m=z):aC Tryz.prog 146 [.one (ln K m),.one (.v (.bool neg))] (.d (.agg (zn K z))):=by
 subst hz;cases neg
 ·exact aN 13 [.cell 4 36] Tryz.func146 rfl<|cR<|mO rfl<|mT<|cR<|mv2 rfl rfl<|mG rfl rfl<|mG rfl rfl<|mG rfl rfl<|mv3 rfl rfl rfl<|mZ rfl<|mT<|aO<|rQ rfl (TM (by simp [Nl]) (sG _ _).symm)
 ·exact aN 13 [.cell 4 36] Tryz.func146 rfl<|cR<|mO rfl<|mT<|cR<|mv6 rfl rfl rfl rfl rfl rfl<|mv2 rfl rfl<|mZ rfl<|mT<|aO<|rQ rfl (TM (by rw [Nl];have:=y5 m;rw [Bool.true_and,decide_eq_decide];omega) (sG _ _).symm)
theorem tZ{K m:Nat}{neg:Bool}{z:Int}(hz:zv neg m=z):aC Tryz.prog 88 [.one (dn K m),.one (.v (.bool neg))] (.d (.agg (rn K z))):=by
 subst hz;cases neg
 ·exact aN 13 [.cell 4 47] Tryz.func88 rfl<|cR<|mO rfl<|mT<|cR<|mv3 rfl rfl rfl<|mG rfl rfl<|mG rfl rfl<|mG rfl rfl<|mv2 rfl rfl<|mZ rfl<|mT<|aO<|rQ rfl (Hl (by simp [Nl]) (sG _ _).symm)
 ·exact aN 13 [.cell 4 47] Tryz.func88 rfl<|cR<|mO rfl<|mT<|cR<|mv6 rfl rfl rfl rfl rfl rfl<|mv2 rfl rfl<|mZ rfl<|mT<|aO<|rQ rfl (Hl (by rw [Nl];have:=uJ m;rw [Bool.true_and,decide_eq_decide];omega) (sG _ _).symm)
theorem RY{a:List Lf}{K:Nat}{x:Int}(ha:EP a K x)(hK:K≤1073741824:=by first|decide|omega):aC Tryz.prog 123 [.agg a] (.d (.agg (zn K x))):=by
 obtain ⟨s,xs,ha,rfl⟩:=ha;exact aC.le (dl (DV.z ha) iM) AV.le.rfl<|aN 9 [.cell 2 36] Tryz.func123 rfl<|cR<|mO rfl<|mO rfl<|mT<|au<|cDk 6<|oV rfl<|oV rfl<|oC (zV (sK K xs)) rfl<|oV rfl<|oV rfl<|oC (qx rfl) rfl<|.nil<|mZ rfl<|mT<|aO<|rQ rfl (AV.le.rfl)
theorem aaZ{a:List Lf}{K:Nat}{x:Int}(ha:EP a K x)(hK:K≤1073741824:=by first|decide|omega):aC Tryz.prog 152 [.agg a] (.d (.agg (zn K (-x)))):=by
 obtain ⟨s,xs,ha,rfl⟩:=ha;refine aC.le (dl (DV.z ha) iM) AV.le.rfl<|aN 10 [.cell 2 36] Tryz.func152 rfl<|cR<|mO rfl<|mO rfl<|mT<|au<|cDk 7<|oV rfl<|oV rfl<|oC (zV (sK K xs)) rfl<|oV rfl<|oV rfl<|oV rfl<|oC (qx rfl) rfl<|.nil<|mZ rfl<|mT<|aO ?_;exact rQ rfl (jC (Nat.le_refl _) (by cases s <;> simp [zv]))
theorem WB{a b:List Lf}{K L M:Nat}{x y:Int}(ha:EP a K x)(hb:EP b L y)(hM:max K L+1≤M:=by first|decide|omega)(hK:K≤1073741824:=by first|decide|omega)(hL:L≤1073741824:=by first|decide|omega):aC Tryz.prog 148 [.agg a,.agg b] (.d (.agg (zn M (x+y)))):=by
 obtain ⟨s,xs,ha,rfl⟩:=ha;obtain ⟨t,ys,hb,rfl⟩:=hb;refine aC.le (dl (DV.z ha) (dl (DV.z hb) iM)) AV.le.rfl<|aN 47 [.cell 4 36] Tryz.func148 rfl<|cR<|mO rfl<|mO rfl<|mO rfl<|mT<|au<|cR<|mv5 rfl rfl rfl rfl rfl<|mT<|aW rfl (fun hc1=>?_) (fun hc1=>?_)
 ·exact au<|cDk 8<|oV rfl<|oV rfl<|oV rfl<|oV rfl<|oC (adr (sK K xs) (sK L ys) (M:=(max K L+1))) rfl<|oV rfl<|oV rfl<|oC (qx rfl) rfl<|.nil<|mZ rfl<|mT<|aO<|tR<|rQ rfl (jC hM (aaC _ _ _ _ hc1))
 ·refine aF<|tN<|au<|cR<|mv4 rfl rfl rfl rfl<|mY (WH (sK K xs) (sK L ys)) rfl<|mv5 rfl rfl rfl rfl rfl<|mT<|cR<|mW rfl<|mT<|aW rfl (fun hc2=>?_) (fun hc2=>?_)
  ·exact cR<|mv3 rfl rfl rfl<|mY (qx rfl) rfl<|mZ rfl<|mT<|aO<|tR<|rQ rfl (jC (by omega) (UE _ _ _ _ hc1 (by simpa using hc2)))
  ·exact aF<|tN<|cR<|mv4 rfl rfl rfl rfl<|mY (WH (sK L ys) (sK K xs)) rfl<|mv5 rfl rfl rfl rfl rfl<|mT<|cR<|mv3 rfl rfl rfl<|mY (qx rfl) rfl<|mZ rfl<|mT<|aO<|rQ rfl (jC (by omega) (UF _ _ _ _ hc1 (by simpa using hc2)))
theorem ah8{a b:List Lf}{K L M:Nat}{x y:Int}(ha:EP a K x)(hb:EP b L y)(hM:max K L+1≤M:=by first|decide|omega)(hK:K≤1073741824:=by first|decide|omega)(hL:L≤1073741824:=by first|decide|omega):aC Tryz.prog 138 [.agg a,.agg b] (.d (.agg (zn M (x-y)))):=by
 obtain ⟨s,xs,ha,rfl⟩:=ha;obtain ⟨t,ys,hb,rfl⟩:=hb;refine aC.le (dl (DV.z ha) (dl (DV.z hb) iM)) AV.le.rfl<|aN 12 [.cell 4 36] Tryz.func138 rfl<|cR<|mO rfl<|mO rfl<|mO rfl<|mT<|cR<|mv4 rfl rfl rfl rfl<|mZ rfl<|mT<|cR<|mv2 rfl rfl<|mY (WB (ajQ K s xs) (ajQ L (!t) ys) (M:=(max K L+1))) rfl<|mZ rfl<|mT<|aO ?_;exact rQ rfl (jC hM (by cases t <;> simp [zv] <;> omega))
theorem I7{a b:List Lf}{K L M:Nat}{x y:Int}(ha:EP a K x)(hb:EP b L y)(hM:K+L≤M:=by first|decide|omega)(hK:K≤1073741824:=by first|decide|omega)(hL:L≤1073741824:=by first|decide|omega):aC Tryz.prog 131 [.agg a,.agg b] (.d (.agg (zn M (x*y)))):=by
 obtain ⟨s,xs,ha,rfl⟩:=ha;obtain ⟨t,ys,hb,rfl⟩:=hb;exact aC.le (dl (DV.z ha) (dl (DV.z hb) iM)) AV.le.rfl<|aN 16 [.cell 4 36] Tryz.func131 rfl<|cR<|mO rfl<|mO rfl<|mO rfl<|mT<|au<|cDk 11<|oV rfl<|oV rfl<|oV rfl<|oV rfl<|oC (ahO (sK K xs) (sK L ys) (M:=(K+L))) rfl<|oV rfl<|oV rfl<|oV rfl<|oV rfl<|oV rfl<|oC (qx rfl) rfl<|.nil<|mZ rfl<|mT<|aO<|rQ rfl (jC hM (aaD _ _ _ _))
theorem ah7{a:List Lf}{K:Nat}{x:Int}(ha:EP a K x)(hK:K≤1073741824:=by first|decide|omega):aC Tryz.prog 132 [.agg a] (.d (.one (.v (.int .i64 (wM x))))):=by
 obtain ⟨s,xs,ha,rfl⟩:=ha;refine aC.le (dl (DV.z ha) iM) AV.le.rfl<|aN 11 [.tmp 2] Tryz.func132 rfl<|cR<|mO rfl<|mW rfl<|mT<|au<|aJ<|cR<|mv2 rfl rfl<|mY (DJ (sK K xs)) rfl<|mv2 rfl rfl<|mT<|aW rfl (fun hc1=>?_) (fun hc1=>?_)
 ·refine cR<|mW rfl<|mT<|aO<|bR<|tR ?_;exact rQ rfl (aG (by have h0:=rM (val xs);simp only [beq_iff_eq,beq_eq_false_iff_ne,ne_eq,bne_iff_ne,bne_eq_false_iff_eq,decide_eq_true_eq,decide_eq_false_iff_not] at hc1;unfold wM zv;cases s <;> (repeat' split) <;> first | omega | (exfalso;simp at *;done) | (simp at *;omega)))
 ·refine cR<|mv3 rfl rfl rfl<|mT<|aW rfl (fun hc2=>?_) (fun hc2=>?_)
  ·refine cR<|mW rfl<|mT<|aO<|bR<|tR ?_;exact rQ rfl (aG (by have h0:=rM (val xs);simp only [beq_iff_eq,beq_eq_false_iff_ne,ne_eq,bne_iff_ne,bne_eq_false_iff_eq,decide_eq_true_eq,decide_eq_false_iff_not] at hc1 hc2;unfold wM zv;cases s <;> (repeat' split) <;> first | omega | (exfalso;simp at *;done) | (simp at *;omega)))
  ·refine aF<|bN<|tN<|cR<|mW rfl<|mT<|aO ?_;exact rQ rfl (aG (by have h0:=rM (val xs);simp only [beq_iff_eq,beq_eq_false_iff_ne,ne_eq,bne_iff_ne,bne_eq_false_iff_eq,decide_eq_true_eq,decide_eq_false_iff_not] at hc1 hc2;unfold wM zv;cases s <;> (repeat' split) <;> first | omega | (exfalso;simp at *;done) | (simp at *;omega)))
theorem ahK{a b:List Lf}{K L:Nat}{x y:Int}(ha:EP a K x)(hb:EP b L y)(hK:K≤1073741824:=by first|decide|omega)(hL:L≤1073741824:=by first|decide|omega):aC Tryz.prog 104 [.agg a,.agg b] (.d (.one (.v (.int .i64 (jS x y))))):=by
 obtain ⟨s,xs,ha,hx⟩:=ha;obtain ⟨t,ys,hb,hy⟩:=hb;refine aC.le (dl (DV.z ha) (dl (DV.z hb) iM)) AV.le.rfl ?_;have hxa:val xs=x.natAbs:=by rw [← hx,sG]
 have hya:val ys=y.natAbs:=by rw [← hy,sG]
 refine aN 32 [.tmp 4] Tryz.func104 rfl<|cR<|mO rfl<|mO rfl<|mW rfl<|mT<|au<|cDk 6<|oV rfl<|oC (ah7 ⟨s,xs,fun _ _ _ h=>h,hx⟩ (by omega)) rfl<|oV rfl<|oC (ah7 ⟨t,ys,fun _ _ _ h=>h,hy⟩ (by omega)) rfl<|.cons (aB.V _ rfl)<|.cons (aB.V _ rfl)<|.nil<|mT<|au<|aJ<|cR<|mv4 rfl rfl rfl rfl<|mT<|aW rfl (fun hc1=>?_) (fun hc1=>?_)
 ·refine cR<|mW rfl<|mT<|aO<|bR<|tR ?_;exact rQ rfl (aG (by simp only [decide_eq_true_eq,decide_eq_false_iff_not] at hc1;(try rw [hxa,hya]);simp only [wM,jS] at *;(repeat' split at *) <;> omega))
 ·refine cR<|mv4 rfl rfl rfl rfl<|mT<|aW rfl (fun hc2=>?_) (fun hc2=>?_)
  ·refine cR<|mW rfl<|mT<|aO<|bR<|tR ?_;exact rQ rfl (aG (by simp only [decide_eq_true_eq,decide_eq_false_iff_not] at hc1 hc2;(try rw [hxa,hya]);simp only [wM,jS] at *;(repeat' split at *) <;> omega))
  ·refine cR<|mv3 rfl rfl rfl<|mT<|aW rfl (fun hc3=>?_) (fun hc3=>?_)
   ·refine cR<|mv4 rfl rfl rfl rfl<|mY (ads (sK L ys) (sK K xs)) rfl<|mW rfl<|mT<|aO<|bR<|tR ?_;exact rQ rfl (aG (by simp only [decide_eq_true_eq,decide_eq_false_iff_not] at hc1 hc2 hc3;(try rw [hxa,hya]);simp only [wM,jS] at *;(repeat' split at *) <;> omega))
   ·refine aF<|bN<|tN<|cR<|mv4 rfl rfl rfl rfl<|mY (ads (sK K xs) (sK L ys)) rfl<|mW rfl<|mT<|aO ?_;exact rQ rfl (aG (by simp only [decide_eq_true_eq,decide_eq_false_iff_not] at hc1 hc2 hc3;(try rw [hxa,hya]);simp only [wM,jS] at *;(repeat' split at *) <;> omega))
theorem Qk{a:List Lf}{K M:Nat}{x:Int}(ha:EP a K x)(hM:3*K≤M:=by first|decide|omega)(hK:K≤100000000:=by first|decide|omega):aC Tryz.prog 73 [.agg a] (.d (.agg (rn M x))):=by
 obtain ⟨s,xs,ha,rfl⟩:=ha;exact aC.le (dl (DV.z ha) iM) AV.le.rfl<|aN 9 [.cell 2 47] Tryz.func73 rfl<|cR<|mO rfl<|mO rfl<|mT<|au<|cDk 6<|oV rfl<|oV rfl<|oC (aeU (sK K xs) (M:=(3*K))) rfl<|oV rfl<|oV rfl<|oC (tZ rfl) rfl<|.nil<|mZ rfl<|mT<|aO<|rQ rfl (yj hM rfl)
theorem ae8{a:List Lf}{K:Nat}{x:Int}(ha:J9 a K x)(hK:K≤1000000000:=by first|decide|omega):aC Tryz.prog 58 [.agg a] (.d (.agg (zn K x))):=by
 exact aC.le (dl (DV.g ha) iM) AV.le.rfl<|aN 9 [.cell 2 36] Tryz.func58 rfl<|cR<|mO rfl<|mO rfl<|mT<|au<|cDk 6<|oV rfl<|oV rfl<|oV rfl<|oV rfl<|oC (alB (QY K x.natAbs)) rfl<|oV rfl<|.nil<|mZ rfl<|mT<|aO<|rQ rfl (AV.le.rfl)
theorem NJ{a:List Lf}{K M:Nat}{x:Int}(ha:J9 a K x)(hM:K≤M:=by first|decide|omega)(hK:K≤1073741824:=by first|decide|omega):aC Tryz.prog 84 [.agg a] (.d (.agg (rn M (-x)))):=by
 refine aC.le (dl (DV.g ha) iM) AV.le.rfl<|aN 9 [.cell 2 47] Tryz.func84 rfl<|cR<|mO rfl<|mO rfl<|mT<|cR<|mv5 rfl rfl rfl rfl rfl<|mY (tZ rfl) rfl<|mZ rfl<|mT<|aO ?_;exact rQ rfl (yj hM (by unfold zv;by_cases h:x < 0 <;> simp [h] <;> omega))
theorem WU{a b:List Lf}{K L M:Nat}{x y:Int}(ha:J9 a K x)(hb:J9 b L y)(hM:max K L+1≤M:=by first|decide|omega)(hK:K≤1073741824:=by first|decide|omega)(hL:L≤1073741824:=by first|decide|omega):aC Tryz.prog 114 [.agg a,.agg b] (.d (.agg (rn M (x+y)))):=by
 refine aC.le (dl (DV.g ha) (dl (DV.g hb) iM)) AV.le.rfl<|aN 40 [.cell 4 47] Tryz.func114 rfl<|cR<|mO rfl<|mO rfl<|mO rfl<|mT<|au<|cR<|mv5 rfl rfl rfl rfl rfl<|mT<|aW rfl (fun hc1=>?_) (fun hc1=>?_)
 ·exact au<|cDk 8<|oV rfl<|oV rfl<|oV rfl<|oV rfl<|oC (ahS (QY K x.natAbs) (QY L y.natAbs) (M:=(max K L+1))) rfl<|oV rfl<|oV rfl<|oC (tZ rfl) rfl<|.nil<|mZ rfl<|mT<|aO<|tR<|rQ rfl (yj hM ((aaC _ _ _ _ hc1).trans (by rw [← zvz x,← zvz y])))
 ·refine aF<|tN<|au<|cR<|mv4 rfl rfl rfl rfl<|mY (ahT (QY K x.natAbs) (QY L y.natAbs)) rfl<|mW rfl<|mT<|aW rfl (fun hc2=>?_) (fun hc2=>?_)
  ·refine au<|cDk 8<|oV rfl<|oV rfl<|oV rfl<|.cons (aB.V (.d (.one (dn L y.natAbs))) rfl) ?_;refine .cons (aB.C0 (adv (QY K x.natAbs) (QY L y.natAbs) (by have h:=hc2;simp [jS] at h;(repeat' split at h) <;> omega) (M:=K)) rfl rfl rfl) ?_;refine oV rfl<|oV rfl<|oC (tZ rfl) rfl<|.nil<|mZ rfl<|mT<|aO<|tR ?_;exact rQ rfl (yj (by omega) ((UE _ _ _ _ hc1 (by have h:=hc2;simp [jS] at h;(repeat' split at h) <;> omega)).trans (by rw [← zvz x,← zvz y])))
  ·refine aF<|tN<|au<|cDk 8<|oV rfl<|oV rfl<|oV rfl<|.cons (aB.V (.d (.one (dn K x.natAbs))) rfl) ?_;refine .cons (aB.C0 (adv (QY L y.natAbs) (QY K x.natAbs) (by have h:=hc2;simp [jS] at h;(repeat' split at h) <;> omega) (M:=L)) rfl rfl rfl) ?_;refine oV rfl<|oV rfl<|oC (tZ rfl) rfl<|.nil<|mZ rfl<|mT<|aO ?_;exact rQ rfl (yj (by omega) ((UF _ _ _ _ hc1 (by have h:=hc2;simp [jS] at h;(repeat' split at h) <;> omega)).trans (by rw [← zvz x,← zvz y])))
theorem WY{a b:List Lf}{K L M:Nat}{x y:Int}(ha:J9 a K x)(hb:J9 b L y)(hM:max K L+1≤M:=by first|decide|omega)(hK:K≤1073741824:=by first|decide|omega)(hL:L≤1073741824:=by first|decide|omega):aC Tryz.prog 116 [.agg a,.agg b] (.d (.agg (rn M (x-y)))):=by
 exact aC.le (dl (DV.g ha) (dl (DV.g hb) iM)) AV.le.rfl<|aN 9 [.cell 4 47] Tryz.func116 rfl<|cR<|mO rfl<|mO rfl<|mO rfl<|mT<|au<|cDk 4<|oV rfl<|oV rfl<|oC (NJ (fG L y) (M:=L)) rfl<|oC (WU (fG K x) (fG L (-y)) (M:=(max K L+1))) rfl<|.nil<|mZ rfl<|mT<|aO<|rQ rfl (yj hM (by omega))
theorem ou{a b:List Lf}{K L M:Nat}{x y:Int}(ha:J9 a K x)(hb:J9 b L y)(hM:K+L≤M:=by first|decide|omega)(hK:K≤1073741824:=by first|decide|omega)(hL:L≤1073741824:=by first|decide|omega):aC Tryz.prog 82 [.agg a,.agg b] (.d (.agg (rn M (x*y)))):=by
 exact aC.le (dl (DV.g ha) (dl (DV.g hb) iM)) AV.le.rfl<|aN 16 [.cell 4 47] Tryz.func82 rfl<|cR<|mO rfl<|mO rfl<|mO rfl<|mT<|au<|cDk 11<|oV rfl<|oV rfl<|oV rfl<|oV rfl<|oC (ahU (QY K x.natAbs) (QY L y.natAbs) (M:=(K+L))) rfl<|oV rfl<|oV rfl<|oV rfl<|oV rfl<|oV rfl<|oC (tZ rfl) rfl<|.nil<|mZ rfl<|mT<|aO<|rQ rfl (yj hM ((aaD _ _ _ _).trans (by rw [← zvz x,← zvz y])))
theorem WX{a:List Lf}{K:Nat}{x:Int}(ha:J9 a K x):aC Tryz.prog 112 [.agg a] (.d (.one (.v (.int .i64 (wM x))))):=by
 refine aC.le (dl (DV.g ha) iM) AV.le.rfl<|aN 11 [.tmp 2] Tryz.func112 rfl<|cR<|mO rfl<|mW rfl<|mT<|au<|aJ<|cR<|mv5 rfl rfl rfl rfl rfl<|mT<|aW rfl (fun hc1=>?_) (fun hc1=>?_)
 ·refine cR<|mW rfl<|mT<|aO<|bR<|tR ?_;exact rQ rfl (aG (by have h0:=uJ x.natAbs;simp only [beq_iff_eq,beq_eq_false_iff_ne,ne_eq,bne_iff_ne,bne_eq_false_iff_eq,decide_eq_true_eq,decide_eq_false_iff_not] at hc1;unfold wM;(repeat' split) <;> omega))
 ·refine cR<|mv3 rfl rfl rfl<|mT<|aW rfl (fun hc2=>?_) (fun hc2=>?_)
  ·refine cR<|mW rfl<|mT<|aO<|bR<|tR ?_;exact rQ rfl (aG (by have h0:=uJ x.natAbs;simp only [beq_iff_eq,beq_eq_false_iff_ne,ne_eq,bne_iff_ne,bne_eq_false_iff_eq,decide_eq_true_eq,decide_eq_false_iff_not] at hc1 hc2;unfold wM;(repeat' split) <;> omega))
  ·refine aF<|bN<|tN<|cR<|mW rfl<|mT<|aO ?_;exact rQ rfl (aG (by have h0:=uJ x.natAbs;simp only [beq_iff_eq,beq_eq_false_iff_ne,ne_eq,bne_iff_ne,bne_eq_false_iff_eq,decide_eq_true_eq,decide_eq_false_iff_not] at hc1 hc2;unfold wM;(repeat' split) <;> omega))
theorem WZ{a:List Lf}{K:Nat}{x:Int}(ha:J9 a K x):aC Tryz.prog 85 [.agg a] (.d (.one (.v (.bool (decide (x=0)))))):=by
 exact aC.le (dl (DV.g ha) iM) AV.le.rfl<|aN 7 [.tmp 2] Tryz.func85 rfl<|cR<|mO rfl<|mW rfl<|mT<|cR<|mv5 rfl rfl rfl rfl rfl<|mT<|aO<|rQ rfl (yZ (by have h0:=uJ x.natAbs;rw [Bool.eq_iff_iff,beq_iff_eq,decide_eq_true_eq];omega))
theorem ah5{a b:List Lf}{K L:Nat}{x y:Int}(ha:J9 a K x)(hb:J9 b L y)(hK:K≤1000000000:=by first|decide|omega)(hL:L≤1000000000:=by first|decide|omega):aC Tryz.prog 81 [.agg a,.agg b] (.d (.one (.v (.int .i64 (jS x y))))):=by
 refine aC.le (dl (DV.g ha) (dl (DV.g hb) iM)) AV.le.rfl<|aN 9 [.tmp 4] Tryz.func81 rfl<|cR<|mO rfl<|mO rfl<|mW rfl<|mT<|cR<|mv2 rfl rfl<|mY (WY (fG K x) (fG L y) (M:=(max K L+1))) rfl<|mY (WX (fG (max K L+1) (x-y))) rfl<|mW rfl<|mT<|aO ?_;exact rQ rfl (aG (by simp only [wM,jS];(repeat' split) <;> omega))
theorem FD{a b:DV}(h:AV.le (.d a) (.d b)):∀ B w v,DR B w a v→DR B w b v:=fun B w v hv=>h (fun _=>none) B w v hv
theorem jq{xs ys:List DV}(h:J7 xs ys):AV.le (.lK xs) (.lK ys):=fun ρ B w v ⟨cs,e,hl⟩=>⟨cs,e,h.ok hl⟩
section
variable {T:TypeId→Option TI} {s:AS} {t e:TypeId} {ti te:TI} {x ix:Operand} {k:IntKind} {z:Int} {sz n id:Nat} {el:Nat→Nat→Lf}
theorem lu(h1:T t=some ti)(h2:ti.elem=some e)(h3:T e=some te)(h4:jW s ix=some (k,z))(h5:dM s x=some (.d (.one (.row sz n el))))(h6:Nat.beq sz te.n=true)(hz:0≤z)(hz2:z < (n:Int)):jg T s (.indexAddr t x ix)=some (.d (.one (.at sz (el z.toNat)))):=by
 have h6':=Nat.eq_of_beq_eq_true h6;simp only [jg,h1,h2,h3,h4,h5];rw [if_pos ⟨h6',hz,hz2⟩];rfl
theorem qy{e':TypeId}(h1:T t=some ti)(h2:ti.elem=some e)(h3:T e=some te)(h4:jW s ix=some (k,z))(h5:dM s x=some (.own id))(h7:V4 s.hp id=some (.row e' sz n el))(h6:Nat.beq sz te.n=true)(hz:0≤z)(hz2:z < (n:Int)):jg T s (.indexAddr t x ix)=some (.dU id sz z.toNat 0):=by
 have h6':=Nat.eq_of_beq_eq_true h6;simp only [jg,h1,h2,h3,h4,h5,h7];rw [if_pos ⟨h6',hz,hz2⟩]
theorem slR{hi:Operand}(h1:T t=some ti)(h2:ti.elem=some e)(h3:T e=some te)(h4:jW s hi=some (k,z))(h5:dM s x=some (.d (.one (.row sz n el))))(h6:Nat.beq sz te.n=true)(hz:0≤z)(hz2:z≤(n:Int)):jg T s (.slice t x none (some hi) none)=some (.d (.one (.row sz z.toNat el))):=by
 have h6':=Nat.eq_of_beq_eq_true h6;simp only [jg,h1,h2,h3,h5,qg,h4,if_pos hz];rw [if_pos ⟨h6',Nat.zero_le _,by omega⟩];show some (AV.d (.one (.row sz (z.toNat-0) fun i j=>el (0+i) j)))=_
 simp only [Nat.sub_zero,Nat.zero_add]
theorem mkO{l c:Operand}{zl zc:Int}{k':IntKind}{Xj nn:Nat}{zz:List Value}(h1:T t=some ti)(h2:ti.elem=some e)(h3:T e=some te)(h4:jW s l=some (k,zl))(h5:jW s c=some (k',zc))(h0:0≤zl)(h6:zl≤zc)(hb:te.bytes=Xj)(hn:te.n=nn)(hzz:te.zero=zz)(h7:(Xj:Int)*zc≤140737488355328)(h8:zc≤9223372036854775807)(h9:Nat.beq te.zero.length te.n=true):U5 T s (.makeSlice t l c)=some (.row e nn zl.toNat fun _ j=> .v ((zz[j]?).getD undef)):=by
 have h9':=Nat.eq_of_beq_eq_true h9;subst hb;subst hn;subst hzz;simp only [U5,h1,h2,h3,h4,h5];rw [if_pos ⟨h0,h6,h7,h8,h9'⟩]
end
theorem dG{i:Nat}(h:i < 1000000001:=by omega):IntKind.i64.wrap ((i:Int)+1)=((i+1:Nat):Int):=(dS (by omega) (by omega)).trans (by omega)
theorem iL{e:TypeId}{sz:Nat}{el U4:Nat→Nat→Lf}:AO.le (.row e sz 0 el) (.row e sz 0 U4):=fV fun i hi=>absurd hi (Nat.not_lt_zero _)
/-! ### Small numbers -/
theorem aev(m:Nat):Int.fdiv (m:Int) (2^(min (Int.toNat 32) 64))=((m / 4294967296:Nat):Int):=by
 rw [Int.fdiv_eq_ediv_of_nonneg _ (by decide)];exact (Int.natCast_ediv m 4294967296).symm
theorem Zt{m:Nat}{el:Nat→Nat→Lf}(hm:m < 18446744073709551616)(h0:el 0 0= .v (.int .u32 ((m%4294967296:Nat):Int)):=by rfl)(h1:el 1 0= .v (.int .u32 ((m / 4294967296:Nat):Int)):=by rfl):IZ (.row 1 2 el) 2 m:=by
 refine (TK (xs:= [m%4294967296,m / 4294967296]) rfl ?_ ?_).eq ?_
 ·intro x hx
  simp only [bP];rcases List.mem_cons.1 hx with rfl | hx
  ·exact Nat.mod_lt _ (by decide)
  ·rcases List.mem_cons.1 hx with rfl | hx
   ·omega
   ·simp at hx
 ·intro i hi
  match i,hi with
  | 0,_=>exact h0
  | 1,_=>exact h1
 ·show m%4294967296+bP*(m / 4294967296+bP*0)=m
  simp only [bP];omega
theorem acD{el:Nat→Nat→Lf}(h0:el 0 0= .v (.int .u32 1):=by rfl):IZ (.row 1 1 el) 1 1:=by
 refine (TK (xs:= [1]) rfl ?_ ?_).eq rfl
 ·intro x hx
  simp at hx;subst hx;decide
 ·intro i hi
  have hi':i < 1:=hi;obtain rfl:i=0:=by omega
  exact h0
theorem Vu(n:Int)(h:n < 0)(h1: -9223372036854775808≤n):IntKind.u64.wrap (0-IntKind.u64.wrap n)=(n.natAbs:Int):=by
 rw [jy,jy];omega
theorem Vx(n:Int)(h:¬ n < 0)(h1:n≤9223372036854775807):IntKind.u64.wrap n=(n.natAbs:Int):=by
 rw [jy];omega
theorem dm1(t:Bool)(m n:Nat)(hn:n≠0):zv (false !=t) (m / n)=zv false m / zv t n∧zv false (jY m n)=zv false m%zv t n:=by
 have h:=Nat.div_add_mod m n;have hlt:=Nat.mod_lt m (Nat.pos_of_ne_zero hn);refine euc ?_ ?_ ?_
 ·unfold jY;rw [if_neg hn]
  have h2:((n*(m / n)+m%n:Nat):Int)=m:=by rw [h]
  rw [Int.natCast_add,Int.natCast_mul] at h2;cases t
  ·exact h2.symm
  ·show (m:Int)= -(n:Int)* -(((m / n:Nat)):Int)+(m%n:Nat)
   rw [Int.neg_mul_neg];exact h2.symm
 ·show (0:Int)≤(jY m n:Nat);exact Int.natCast_nonneg _
 ·rw [sG];show ((jY m n:Nat):Int) < _
  unfold jY;rw [if_neg hn];omega
theorem dm2(t:Bool)(m n:Nat)(hn:n≠0)(h0:jY m n=0):zv (true !=t) (m / n)=zv true m / zv t n∧zv false (jY m n)=zv true m%zv t n:=by
 have h:=Nat.div_add_mod m n;have h0':m%n=0:=by unfold jY at h0;rw [if_neg hn] at h0;exact h0
 rw [h0];refine euc ?_ (by decide) (by rw [sG];show (0:Int) < _;omega);have h2:((n*(m / n)+m%n:Nat):Int)=m:=by rw [h]
 rw [h0',Nat.add_zero,Int.natCast_mul] at h2;cases t
 ·show -(m:Int)=(n:Int)* -(((m / n:Nat)):Int)+(0:Nat)
  rw [Int.mul_neg,h2];simp
 ·show -(m:Int)= -(n:Int)*(((m / n:Nat)):Int)+(0:Nat)
  rw [Int.neg_mul,h2];simp
theorem dm3(t:Bool)(m n:Nat)(hn:n≠0)(h0:0 < jY m n):zv (true !=t) (m / n+1)=zv true m / zv t n∧zv false (n-jY m n)=zv true m%zv t n:=by
 have h:=Nat.div_add_mod m n;have hlt:=Nat.mod_lt m (Nat.pos_of_ne_zero hn);have e:jY m n=m%n:=by unfold jY;rw [if_neg hn]
 rw [e] at h0 ⊢;refine euc ?_ ?_ ?_
 ·have h2:((n*(m / n)+m%n:Nat):Int)=m:=by rw [h]
  rw [Int.natCast_add,Int.natCast_mul] at h2;have h3:((n-m%n:Nat):Int)=(n:Int)-(m%n:Nat):=by omega
  generalize m / n=q at h2 ⊢;generalize m%n=r at h2 h3 ⊢;cases t
  ·show -(m:Int)=(n:Int)* -((((q+1):Nat)):Int)+((n-r:Nat):Int)
   rw [h3,Int.natCast_add,Int.mul_neg,Int.mul_add];simp;omega
  ·show -(m:Int)= -(n:Int)*((((q+1):Nat)):Int)+((n-r:Nat):Int)
   rw [h3,Int.natCast_add,Int.neg_mul,Int.mul_add];simp;omega
 ·show (0:Int)≤((n-m%n:Nat):Int);exact Int.natCast_nonneg _
 ·rw [sG];show ((n-m%n:Nat):Int) < _
  omega
/-- The greatest common divisor of the first n. -/
def bn(c:Nat→Int):Nat→Nat
 | 0=>0
 | n+1=>Nat.gcd (bn c n) (c n).natAbs
theorem Yd{c:Nat→Int}{k n:Nat}(h:bn c k=1)(hk:k≤n):bn c n=1:=by
 obtain ⟨d,rfl⟩:=Nat.exists_eq_add_of_le hk;clear hk
 induction d with
 | zero=>exact h
 | succ d ih=>show Nat.gcd (bn c (k+d)) _=1;rw [ih,Nat.gcd_one_left]
theorem agn{m:Nat}:(cO m).length=1∧(cO m).getD 0 0=1↔m=1:=by
 constructor
 ·rintro ⟨h1,h2⟩
  have h3:=dh m
  match h:cO m,h1 with
  | [x],_=>
   rw [h] at h2 h3;simp at h2;subst h2;rw [← h3];rfl
 ·rintro rfl;exact ⟨rfl,rfl⟩
/-! ### A region that draws, order by order -/
section
variable {P:Program} {ops:Array Oper} {Q:Qs} {s:AS}
def Wl(p:Nat→Prop):List Nat→Prop
 | []=>True
 | i ::l=>p i∧Wl p l
theorem Wl.get{p:Nat→Prop}:∀ {l:List Nat},Wl p l→∀ i∈l,p i
 | i ::l,h,k,hk=>by
  rcases List.mem_cons.1 hk with rfl | hk
  ·exact h.1
  ·exact Wl.get h.2 k hk
def xq(P:Program)(ops:Array Oper)(Q:Qs):Nat→Array Bool→AS→Prop
 | 0,listed,s=>Region.ready .any ops listed= []∧Q .normal s
 | n+1,listed,s=>(Region.ready .any ops listed= []→Q .normal s)∧∀ i∈Region.ready .any ops listed,∃ o,ops[i]?=some o∧AL P ops (V9 (xq P ops Q n (listed.setIfInBounds i true)) Q) [o] s
theorem oG{n:Nat}{listed:Array Bool}(rs:List Nat)(hr:Region.ready .any ops listed=rs)(hne:rs.isEmpty=false)(h:Wl (fun i=>∃ o,ops[i]?=some o∧AL P ops (V9 (xq P ops Q n (listed.setIfInBounds i true)) Q) [o] s) rs):xq P ops Q (n+1) listed s:=
 ⟨fun e=>absurd (hr.symm.trans e) (fun e2=>by subst e2;exact Bool.noConfusion hne),hr▸h.get⟩
theorem aii{n:Nat}{listed:Array Bool}(hr:Region.ready .any ops listed= [])(h:Q .normal s):xq P ops Q n listed s:=by
 cases n with
 | zero=>exact ⟨hr,h⟩
 | succ n=>exact ⟨fun _=>h,by rw [hr];intro i hi;simp at hi⟩
theorem Jk{B0:BS}{w0:Wz}:∀ (n:Nat) (listed:Array Bool) (s:AS) (a:Act) (w:World),xq P ops Q n listed s→J6 s B0 w0 a w→wpAny P .any ops (DQ Q B0 w0) n listed a w
 | 0,listed,s,a,w,h,hd=>⟨h.1,s,h.2,hd⟩
 | n+1,listed,s,a,w,h,hd=>by
  refine ⟨fun e=>⟨s,h.1 e,hd⟩,fun i hi=>?_⟩;obtain ⟨o,ho,hal⟩:=h.2 i hi;have h1:=hal B0 w0 a w hd;unfold wpOp;rw [ho];simp only [wpList] at h1 ⊢;have hk:∀ a w,DQ (V9 (xq P ops Q n (listed.setIfInBounds i true)) Q) B0 w0 .normal a w→wpAny P .any ops (DQ Q B0 w0) n (listed.setIfInBounds i true) a w:=fun a w ⟨s',h3,h4⟩=>Jk n _ s' a w h3 h4
  split
  ·rename_i hw
   rw [if_pos hw] at h1;rcases h1 with h1 | ⟨h1,h2⟩
   ·refine Or.inl ?_
    have h3:=Oper.wp_mono hk h1;unfold Oper.wp at h3 ⊢;generalize (execOp a.eval o).run P w=r at h3 ⊢;cases r <;> first | exact h3 | (rename_i x w';cases x <;> exact h3)
   ·exact Or.inr ⟨h1,h2⟩
  ·rename_i hw
   rw [if_neg hw] at h1;exact hk _ _ h1
end
theorem adD{a:List Lf}{K:Nat}{z:Int}(ha:IsN a K z):aC Tryz.prog 128 [.agg a] (.d (.one (.v (.bool (decide (z=0)))))):=by
 exact aC.le (dl (DV.g ha) iM) AV.le.rfl<|aN 7 [.tmp 2] Tryz.func128 rfl<|cR<|mO rfl<|mW rfl<|mT<|cR<|mv5 rfl rfl rfl rfl rfl<|mT<|aO<|rQ rfl (yZ (by have h0:=y5 z.natAbs;rw [Bool.eq_iff_iff,beq_iff_eq,decide_eq_true_eq];omega))
theorem aOf{n:Int}(h1: -9223372036854775808≤n:=by first|decide|omega)(h2:n≤9223372036854775807:=by first|decide|omega):aC Tryz.prog 129 [.one (.v (.int .i64 n))] (.d (.agg (zn 2 n))):=by
 refine aN 20 [.cell 2 36] Tryz.func129 rfl<|cR<|mO rfl<|mT<|cR<|mv3 rfl rfl rfl<|mT<|au<|cR<|mv2 rfl rfl<|mT<|aW rfl (fun hc1=>?_) (fun hc1=>?_)
 ·exact aA<|mW rfl<|mV aj (.d (.one (.v (.int .u64 ((n.natAbs:Nat):Int))))) (fH (Vu n (of_decide_eq_true hc1) h1))<|mW rfl<|mT<|cR<|mW rfl<|mV aj (.d (.one (.v (.int .u32 ((n.natAbs%4294967296:Nat):Int))))) (fH (by rw [yN];omega))<|mW rfl<|mV aj (.d (.one (.v (.int .u64 ((n.natAbs / 4294967296:Nat):Int))))) (fH (aev _))<|mV aj (.d (.one (.v (.int .u32 ((n.natAbs / 4294967296:Nat):Int))))) (fH (by rw [yN];omega))<|mB aj (.d (.one (.row 1 2 (fun i' j'=>(([.v (.int .u32 ((n.natAbs%4294967296:Nat):Int)),.v (.int .u32 ((n.natAbs / 4294967296:Nat):Int))])[i'*1+j']?).getD (.v undef))))) rfl<|mY (zV (Zt (m:=n.natAbs) (by omega))) rfl<|mv2 rfl rfl<|mY (qx rfl) rfl<|mZ rfl<|mT<|aO<|rQ rfl (jC (Nat.le_refl _) (kY n))
 ·exact aF<|tN<|au<|iJ 3 (.d (.one (.v (.int .u64 ((n.natAbs:Nat):Int))))) rfl (aG (Vx n (of_decide_eq_false hc1) h2))<|aA<|mW rfl<|mV aj (.d (.one (.v (.int .u32 ((n.natAbs%4294967296:Nat):Int))))) (fH (by rw [yN];omega))<|mW rfl<|mV aj (.d (.one (.v (.int .u64 ((n.natAbs / 4294967296:Nat):Int))))) (fH (aev _))<|mV aj (.d (.one (.v (.int .u32 ((n.natAbs / 4294967296:Nat):Int))))) (fH (by rw [yN];omega))<|mB aj (.d (.one (.row 1 2 (fun i' j'=>(([.v (.int .u32 ((n.natAbs%4294967296:Nat):Int)),.v (.int .u32 ((n.natAbs / 4294967296:Nat):Int))])[i'*1+j']?).getD (.v undef))))) rfl<|mY (zV (Zt (m:=n.natAbs) (by omega))) rfl<|mv2 rfl rfl<|mY (qx rfl) rfl<|mZ rfl<|mT<|aO<|rQ rfl (jC (Nat.le_refl _) (kY n))
theorem aaW{a b:List Lf}{K L M:Nat}{x y:Int}(ha:EP a K x)(hb:EP b L y)(hy:y≠0)(hM:max K 1+1≤M:=by first|decide|omega)(hK:K≤1073741823:=by first|decide|omega)(hL:L≤1073741823:=by first|decide|omega):aC Tryz.prog 167 [.agg a,.agg b] (.lK [.agg (zn M (x / y)),.agg (zn L (x%y)),.one (.v (.int .i64 0))]):=by
 obtain ⟨s,xs,ha,rfl⟩:=ha;obtain ⟨t,ys,hb,rfl⟩:=hb;refine aC.le (dl (DV.z ha) (dl (DV.z hb) iM)) AV.le.rfl ?_;have hn:val ys≠0:=fun e=>hy (by rw [e];cases t <;> rfl)
 cases s
 ·refine aN 60 [.cell 4 36,.cell 5 36,.tmp 6] Tryz.func167 rfl<|cR<|mO rfl<|mO rfl<|mO rfl<|mO rfl<|mW rfl<|mT<|cR<|mv4 rfl rfl rfl rfl<|mY (WG (sK K xs) (sK L ys)) rfl<|mv6 rfl rfl rfl rfl rfl rfl<|mW rfl<|mT<|au<|cR<|mW rfl<|mbF rfl (by rw [show DY (val ys)=0 from if_neg hn];rfl)<|mT<|cFs rfl<|cR<|mv6 rfl rfl rfl rfl rfl rfl<|mY (qx rfl) rfl<|mW rfl<|mY (qx rfl) rfl<|mZ rfl<|mZ rfl<|mT<|au<|cR<|mv3 rfl rfl rfl<|mG rfl rfl<|mG rfl rfl<|mG rfl rfl<|mW rfl<|mT<|cFs rfl<|au<|cDs 5<|pV rfl<|pV rfl<|.cons (aB.S 4 (.box 36 (zn K (zv (!(false==t)) ((val xs) / (val ys))))) rfl rfl) (by kernel_rfl)<|.cons (aB.S 5 (.box 36 (zn L (zv false (jY (val xs) (val ys))))) rfl rfl) (by kernel_rfl)<|.cons (aB.V _ rfl) (by kernel_rfl)<|.nil<|mT<|aO ?_;obtain ⟨e1,e2⟩:=dm1 t (val xs) (val ys) hn;exact rQ rfl (jq (dl (FD (jC (by omega) e1)) (dl (FD (jC (Nat.le_refl _) e2)) (dl DV.same iM))))
 ·refine aN 60 [.cell 4 36,.cell 5 36,.tmp 6] Tryz.func167 rfl<|cR<|mO rfl<|mO rfl<|mO rfl<|mO rfl<|mW rfl<|mT<|cR<|mv4 rfl rfl rfl rfl<|mY (WG (sK K xs) (sK L ys)) rfl<|mv6 rfl rfl rfl rfl rfl rfl<|mW rfl<|mT<|au<|cR<|mW rfl<|mbF rfl (by rw [show DY (val ys)=0 from if_neg hn];rfl)<|mT<|cFs rfl<|cR<|mv6 rfl rfl rfl rfl rfl rfl<|mY (qx rfl) rfl<|mW rfl<|mY (qx rfl) rfl<|mZ rfl<|mZ rfl<|mT<|au<|cR<|mv6 rfl rfl rfl rfl rfl rfl<|mW rfl<|mT<|aW rfl (fun hc1=>?_) (fun hc1=>?_)
  ·refine cR<|mW rfl<|mB aj (.d (.one (.row 1 1 (fun i' j'=>(([.v (.int .u32 1)])[i'*1+j']?).getD (.v undef))))) rfl<|mY (adr (YK K ((val xs) / (val ys))) acD (M:=(max K 1+1))) rfl<|mW rfl<|mT<|cR<|mv3 rfl rfl rfl<|mY (WH (sK L ys) (YK L (jY (val xs) (val ys)))) rfl<|mv4 rfl rfl rfl rfl<|mT<|aA<|mv6 rfl rfl rfl rfl rfl rfl<|mY (qx rfl) rfl<|mW rfl<|mY (qx rfl) rfl<|mZ rfl<|mZ rfl<|mT<|au<|cDs 5<|pV rfl<|pV rfl<|.cons (aB.S 4 (.box 36 (zn (max K 1+1) (zv (!(true==t)) (((val xs) / (val ys))+1)))) rfl rfl) (by kernel_rfl)<|.cons (aB.S 5 (.box 36 (zn L (zv false ((val ys)-(jY (val xs) (val ys)))))) rfl rfl) (by kernel_rfl)<|.cons (aB.V _ rfl) (by kernel_rfl)<|.nil<|mT<|aO ?_;obtain ⟨e1,e2⟩:=dm3 t (val xs) (val ys) hn (Nat.pos_of_ne_zero fun e=>by have h0:=of_decide_eq_true hc1;rw [e] at h0;exact absurd h0 (by decide));exact rQ rfl (jq (dl (FD (jC (by omega) e1)) (dl (FD (jC (Nat.le_refl _) e2)) (dl DV.same iM))))
  ·refine aF<|tN<|au<|cDs 5<|pV rfl<|pV rfl<|.cons (aB.S 4 (.box 36 (zn K (zv (!(true==t)) ((val xs) / (val ys))))) rfl rfl) (by kernel_rfl)<|.cons (aB.S 5 (.box 36 (zn L (zv false (jY (val xs) (val ys))))) rfl rfl) (by kernel_rfl)<|.cons (aB.V _ rfl) (by kernel_rfl)<|.nil<|mT<|aO ?_;obtain ⟨e1,e2⟩:=dm2 t (val xs) (val ys) hn (by have h0:=of_decide_eq_false hc1;have h1:=y5 (jY (val xs) (val ys));omega);exact rQ rfl (jq (dl (FD (jC (by omega) e1)) (dl (FD (jC (Nat.le_refl _) e2)) (dl DV.same iM))))
theorem Gg{a b:List Lf}{K L M:Nat}{x y:Int}(ha:EP a K x)(hb:EP b L y)(hy:y≠0)(hd:y∣x)(hM:max K 1+1≤M:=by first|decide|omega)(hK:K≤1073741823:=by first|decide|omega)(hL:L≤1073741823:=by first|decide|omega):aC Tryz.prog 153 [.agg a,.agg b] (.lK [.agg (zn M (x / y)),.one (.v (.int .i64 0))]):=by
 obtain ⟨sa,xa,ha,ea⟩:=ha;obtain ⟨sb,xb,hb,eb⟩:=hb;exact aC.le (dl (DV.z ha) (dl (DV.z hb) iM)) AV.le.rfl<|aN 26 [.cell 4 36,.tmp 5] Tryz.func153 rfl<|cR<|mO rfl<|mO rfl<|mO rfl<|mW rfl<|mT<|cR<|mv2 rfl rfl<|mY (aaW ⟨sa,xa,fun _ _ _ h=>h,ea⟩ ⟨sb,xb,fun _ _ _ h=>h,eb⟩ hy (M:=(max K 1+1)) (by omega) (by omega) (by omega)) rfl<|mv4 rfl rfl rfl rfl<|mO rfl<|mO rfl<|mZ rfl<|mZ rfl<|mW rfl<|mT<|au<|cR<|mv2 rfl rfl<|mT<|cFs rfl<|au<|cR<|mv3 rfl rfl rfl<|mdF rfl (by rw [Int.emod_eq_zero_of_dvd hd];decide)<|mT<|cFs rfl<|cR<|mW rfl<|mZ rfl<|mW rfl<|mT<|aO<|rQ rfl (jq (dl (FD (jC hM rfl)) (dl DV.same iM)))
theorem ahL{l:Lf}{K n:Nat}{c:Nat→Int}(ha:pY l K n c)(hn:n≤1000000:=by first|decide|omega)(hK:K≤1073741823:=by first|decide|omega):aC Tryz.prog 151 [.one l] (.d (.agg (zn K (bn c n:Nat)))):=by
 obtain ⟨⟨f,ha,hf⟩,hz⟩:=ha;refine aC.le (dl (DV.l ha) iM) AV.le.rfl<|aN 44 [.cell 2 36] Tryz.func151 rfl<|cR<|mO rfl<|mT<|cR<|mW rfl<|mT<|au<|au<|iJ 3 (.d (.one (ln K (bn c 0)))) rfl (Rh K)<|aA<|mv3 rfl rfl rfl<|mT<|aJ<|dQ (ι:=Nat) (fun (i:Nat)=>⟨44,[(2,.ptr 2 0),(10,.d (.one (.row 2 n (o8 K f)))),(11,.d (.one (.v (.int .i64 (n:Int))))),(12,.d (.one (.v (.int .i64 ((i:Nat):Int))))),(3,.d (.one (ln K (bn c i))))],[(2,.box 36 ([.v (.bool false),.v (.slice none 0 0)]))]⟩) (fun (i:Nat)=>i≤n) (fun (i:Nat)=>n-i) 0 (Nat.zero_le _) (wkr rfl rfl) ?_;rintro i hI;have hi0:i≤n:=hI;show AW _ _ _ ⟨_,_,_⟩
 refine cR<|mW rfl<|mT<|au<|aW rfl (fun hc1=>?_) (fun hc1=>?_)
 ·refine aF<|tN<|au<|aJ<|au ?_;have hi:i < n:=by have h0:=of_decide_eq_true hc1;omega
  refine aA<|mV aj (.d (.one (.at 2 ((o8 K f) i)))) (lu (el:=(o8 K f)) (z:=((i:Nat):Int)) (n:=n) rfl rfl rfl rfl rfl rfl (by omega) (by omega)) ?_;refine mW rfl<|mO rfl<|mZ rfl<|mT<|cR<|mv2 rfl rfl<|mY (zV (sK K ((f i).2))) rfl<|mW rfl<|mT<|au<|aJ<|dQ (ι:=Nat×Nat) (fun (p:Nat×Nat)=>match p with | (x,y)=>⟨44,[(2,.ptr 2 0),(10,.d (.one (.row 2 n (o8 K f)))),(11,.d (.one (.v (.int .i64 (n:Int))))),(12,.d (.one (.v (.int .i64 ((i:Nat):Int))))),(3,.d (.one (ln K x))),(6,.d (.one (ln K y)))],[(2,.box 36 ([.v (.bool false),.v (.slice none 0 0)]))]⟩) (fun (p:Nat×Nat)=>match p with | (x,y)=>Nat.gcd x y=bn c (i+1)) (fun (p:Nat×Nat)=>match p with | (x,y)=>y) ((bn c i),(val (f i).2)) (by show Nat.gcd (bn c i) (val (f i).2)=Nat.gcd (bn c i) (c i).natAbs;rw [← hf i hi,show (Yc f i).natAbs=val (f i).2 from sG _ _]) (wkr rfl rfl) ?_;rintro ⟨x,y⟩ hI;have hg:Nat.gcd x y=bn c (i+1):=hI;show AW _ _ _ ⟨_,_,_⟩
  refine au<|cR<|mv3 rfl rfl rfl<|mT<|aW rfl (fun hc2=>?_) (fun hc2=>?_)
  ·refine aF<|tN<|aJ<|au ?_;have hy0:y≠0:=fun e=>by have h0:=of_decide_eq_true hc2;rw [e] at h0;exact absurd h0 (by decide)
   exact aA<|mv2 rfl rfl<|mY (WG (YK K x) (YK K y)) rfl<|mv6 rfl rfl rfl rfl rfl rfl<|mW rfl<|mT<|aA<|mv4 rfl rfl rfl rfl<|ak<|bN<|⟨(y,(jY x y)),by show Nat.gcd y (jY x y)=_;unfold jY;rw [if_neg hy0,← hg,Nat.gcd_comm x y,Nat.gcd_rec y x,Nat.gcd_comm],by show jY x y < y;unfold jY;rw [if_neg hy0];exact Nat.mod_lt _ (Nat.pos_of_ne_zero hy0),wkr rfl rfl⟩
  ·refine dO<|tE<|tE<|bE<|tN<|au ?_;have hy0:y=0:=by have h0:=of_decide_eq_false hc2;have h1:=y5 y;omega
   have hx:x=bn c (i+1):=by rw [← hg,hy0,Nat.gcd_zero_right]
   by_cases hl1:(cO x).length=1
   ·refine aA<|mv2 rfl rfl<|mbT rfl (by rw [hl1];rfl)<|mv2 rfl rfl<|kH 35 (.d (.one (.row 1 ((cO x).length) (fun i _=> .v (.int .u32 (((cO x).getD i 0:Nat):Int)))))) rfl (ab6 _ _)<|mV aj (.d (.one (.at 1 ((fun i _=> .v (.int .u32 (((cO x).getD i 0:Nat):Int))) 0)))) (lu (el:=(fun i _=> .v (.int .u32 (((cO x).getD i 0:Nat):Int)))) (z:=0) (n:=((cO x).length)) rfl rfl rfl rfl rfl rfl (by decide) (by rw [hl1];decide)) ?_;refine mv3 rfl rfl rfl<|mT<|aW rfl (fun hc3=>?_) (fun hc3=>?_)
    ·refine dO<|bX rfl<|tE<|tE<|bE<|tN<|cR<|mW rfl<|mY (zV (YK K x)) rfl<|mY (qx rfl) rfl<|mZ rfl<|mT<|aO ?_;have h1:x=1:=agn.1 ⟨hl1,by have h0:=eq_of_beq hc3;exact Int.ofNat_inj.1 h0⟩;exact rQ rfl (jC (Nat.le_refl _) (by show ((x:Nat):Int)=_;rw [h1,Yd (hx▸h1) (show i+1≤n from hi)]))
    ·exact aF<|bN<|tN<|aA<|mv2 rfl rfl<|ak<|⟨(i+1),by omega,by omega,wk rfl ⟨hs rfl,hs rfl,hs rfl,fM rfl (aG (dG (by omega))),fM rfl (fJ (hx▸fun _ _ _ h=>h)),trivial⟩ ⟨ho rfl,trivial⟩ rfl⟩
   ·exact aA<|mv2 rfl rfl<|mbF rfl (beq_eq_false_iff_ne.2 fun e=>hl1 (by exact_mod_cast e))<|mW rfl<|mG rfl rfl<|mG rfl rfl<|mG rfl rfl<|mG rfl rfl<|mW rfl<|mT<|cF rfl<|aF<|bN<|tN<|aA<|mv2 rfl rfl<|ak<|⟨(i+1),by omega,by omega,wk rfl ⟨hs rfl,hs rfl,hs rfl,fM rfl (aG (dG (by omega))),fM rfl (fJ (hx▸fun _ _ _ h=>h)),trivial⟩ ⟨ho rfl,trivial⟩ rfl⟩
 ·refine dO<|tE<|tE<|bE<|tN<|cR<|mW rfl<|mY (zV (YK K (bn c i))) rfl<|mY (qx rfl) rfl<|mZ rfl<|mT<|aO ?_;have hin:i=n:=by have h0:=of_decide_eq_false hc1;omega
  exact rQ rfl (jC (Nat.le_refl _) (by rw [hin];rfl))
/-- Made: all are 0. -/
theorem uZ{e:TypeId}{n K:Nat}{c:Nat→Int}(h:∀ i,i < n→c i=0):AO.le (.row e 2 n fun _ j=> .v ((([Value.bool false,Value.slice none 0 0]:List Value)[j]?).getD undef)) (.row e 2 n (bW K c)):=by
 refine fV fun i hi j hj B w v hv=>?_
 unfold bW;rw [h i hi]
 match j,hj with
 | 0,_=>exact hv
 | 1,_=>exact Rh K (fun _=>none) B w v hv
theorem Xm{K L:Nat}{z y:Int}(hK:K≤L)(e:z=y):∀ q,q < 2→∀ B w v,eu B w (((zn K z)[q]?).getD (.v undef)) v→eu B w (((zn L y)[q]?).getD (.v undef)) v:=by
 subst e;intro q hq B w v hv
 match q,hq with
 | 0,_=>exact hv
 | 1,_=>exact nX hK _ _ _ hv
theorem DN{K L:Nat}{z y:Rat}(hK:K≤L)(e:z=y):∀ q,q < 4→∀ B w v,eu B w (((qn K z)[q]?).getD (.v undef)) v→eu B w (((qn L y)[q]?).getD (.v undef)) v:=by
 subst e;intro q hq B w v hv
 match q,hq with
 | 0,_=>exact kQ hK _ _ _ hv
 | 1,_=>exact hv
 | 2,_=>exact kQ hK _ _ _ hv
 | 3,_=>exact hv
/-- One element is written. -/
theorem VI{e:TypeId}{n i K L M:Nat}{c d:Nat→Int}{z:Int}(hK:K≤L)(hM:M≤L)(hz:z=d i)(h:∀ p,p < n→p≠i→c p=d p):AO.le (.row e 2 n fun p q=>if p=i then ((zn M z)[q]?).getD (.v undef) else bW K c p q) (.row e 2 n (bW L d)):=by
 refine fV fun p hp q hq B w v hv=>?_
 by_cases hpi:p=i
 ·subst hpi
  rw [if_pos rfl] at hv;exact Xm hM hz q hq _ _ _ hv
 ·rw [if_neg hpi] at hv
  unfold bW;exact Xm hK (h p hp hpi) q hq _ _ _ hv
/-- Rationals, each of a bound of its own. -/
def MG(Kf:Nat→Nat)(c:Nat→Rat):Nat→Nat→Lf:=fun i j=>((qn (Kf i) (c i))[j]?).getD (.v undef)
theorem aki{e:TypeId}{n i M:Nat}{Kf Lf':Nat→Nat}{c d:Nat→Rat}{z:Rat}(hK:∀ p,p < n→p≠i→Kf p≤Lf' p)(hM:M≤Lf' i)(hz:z=d i)(h:∀ p,p < n→p≠i→c p=d p):AO.le (.row e 4 n fun p q=>if p=i then ((qn M z)[q]?).getD (.v undef) else MG Kf c p q) (.row e 4 n (MG Lf' d)):=by
 refine fV fun p hp q hq B w v hv=>?_
 by_cases hpi:p=i
 ·subst hpi
  rw [if_pos rfl] at hv;exact DN hM hz q hq _ _ _ hv
 ·rw [if_neg hpi] at hv
  exact DN (hK p hp hpi) (h p hp hpi) q hq _ _ _ hv
theorem OD{e:TypeId}{n:Nat}{Kf Lf':Nat→Nat}{c d:Nat→Rat}(hK:∀ p,p < n→Kf p≤Lf' p)(h:∀ p,p < n→c p=d p):AO.le (.row e 4 n (MG Kf c)) (.row e 4 n (MG Lf' d)):=
 fV fun p hp q hq B w v hv=>DN (hK p hp) (h p hp) q hq _ _ _ hv
theorem ZY{n K:Nat}{Kf:Nat→Nat}{c d:Nat→Rat}(hK:∀ p,p < n→Kf p≤K)(h:∀ p,p < n→c p=d p):∀ B w v,eu B w (.row 4 n (MG Kf c)) v→eu B w (dJ K n d) v:=
 qp fun p hp q hq B w v hv=>DN (hK p hp) (h p hp) q hq _ _ _ hv
/-- A row whose first ones are written; the others are still as they were made. -/
def Au(K i:Nat)(c:Nat→Rat)(z:Nat→Lf):Nat→Nat→Lf:=fun p q=>if p < i then ((qn K (c p))[q]?).getD (.v undef) else z q
theorem RF{e:TypeId}{n i K M:Nat}{c:Nat→Rat}{z:Nat→Lf}{q0:Rat}(hM:M≤K)(hz:q0=c i):AO.le (.row e 4 n fun p q=>if p=i then ((qn M q0)[q]?).getD (.v undef) else Au K i c z p q) (.row e 4 n (Au K (i+1) c z)):=by
 refine fV fun p hp q hq B w v hv=>?_
 unfold Au at *
 by_cases hpi:p=i
 ·subst hpi
  rw [if_pos rfl] at hv;rw [if_pos (by omega)];exact DN hM hz q hq _ _ _ hv
 ·rw [if_neg hpi] at hv
  by_cases hlt:p < i
  ·rw [if_pos hlt] at hv;rw [if_pos (by omega)];exact hv
  ·rw [if_neg hlt] at hv;rw [if_neg (by omega)];exact hv
theorem LD{e:TypeId}{n K:Nat}{Kf:Nat→Nat}{c d:Nat→Rat}{z:Nat→Lf}(hK:∀ p,p < n→K≤Kf p)(h:∀ p,p < n→c p=d p):AO.le (.row e 4 n (Au K n c z)) (.row e 4 n (MG Kf d)):=by
 refine fV fun p hp q hq B w v hv=>?_
 unfold Au at hv;rw [if_pos hp] at hv;exact DN (hK p hp) (h p hp) q hq _ _ _ hv
theorem Hr{e:TypeId}{n K:Nat}{c:Nat→Rat}{z:Nat→Lf}:AO.le (.row e 4 n fun _ j=>z j) (.row e 4 n (Au K 0 c z)):=by
 refine fV fun p hp q hq B w v hv=>?_
 unfold Au;rw [if_neg (Nat.not_lt_zero _)];exact hv
/-- An element in any form, 0 where there is none. -/
def fx(n:Nat)(f:Nat→Bool×List Nat)(k:Nat):Bool×List Nat:=if k < n then f k else (false,[])
theorem abN{n k:Nat}{f:Nat→Bool×List Nat}{c:Nat→Int}(hf:∀ i,i < n→Yc f i=c i)(hz:∀ i,n≤i→c i=0):zv (fx n f k).1 (val (fx n f k).2)=c k:=by
 unfold fx
 by_cases h:k < n
 ·rw [if_pos h];exact hf k h
 ·rw [if_neg h];exact (hz k (by omega)).symm
theorem SX{α:Type}[DecidableEq α][OfNat α 0]{c:Nat→α}{n k:Nat}(h:dg c n=dg c k)(hk:k≠0)(h0:c (k-1)=0):dg c n=dg c (k-1):=by
 obtain ⟨j,rfl⟩:=Nat.exists_eq_succ_of_ne_zero hk;rw [h];exact SY h0
theorem Ze(n m:Nat):(if (true=true) then (if (m:Int) > (n:Int) then (m:Int) else (n:Int)) else (if (m:Int) < (n:Int) then (m:Int) else (n:Int)))=((max n m:Nat):Int):=by
 rw [if_pos rfl];split <;> omega
theorem ajW(n m:Nat):(if (false=true) then (if (m:Int) > (n:Int) then (m:Int) else (n:Int)) else (if (m:Int) < (n:Int) then (m:Int) else (n:Int)))=((min n m:Nat):Int):=by
 rw [if_neg (by decide)];split <;> omega
/-- Rows of integers. -/
def YJ(n:Nat)(c:Nat→Int):Lf:= .row 1 n fun i _=> .v (.int .i64 (c i))
def IsI(l:Lf)(n:Nat)(c:Nat→Int):Prop:=(∀ B w v,eu B w l v→eu B w (YJ n c) v)∧∀ i,n≤i→c i=0
def EH(l:List Int):Nat→Int:=fun i=>l.getD i 0
theorem FN{l:List Int}{n:Nat}{el:Nat→Nat→Lf}(hn:l.length=n)(h:∀ i,i < n→el i 0= .v (.int .i64 (EH l i))):IsI (.row 1 n el) n (EH l):=by
 refine ⟨qp fun i hi j hj B w v hv=>?_,fun i hi=>?_⟩
 ·obtain rfl:j=0:=by omega
  rw [h i hi] at hv;exact hv
 ·unfold EH;rw [List.getD_eq_getElem?_getD,List.getElem?_eq_none (by omega)];rfl
theorem Zo{K:Nat}{c:Nat→Int}:AV.le (.d (.one (.v (.slice none 0 0)))) (.d (.one (gQ K 0 c))):=by
 refine fJ ?_;rintro B w v ⟨rfl,_⟩;exact ⟨none,0,rfl,Nat.le_refl _,fun _=>rfl,fun i hi=>absurd hi (Nat.not_lt_zero _)⟩
theorem Zp{K:Nat}{c:Nat→Rat}:AV.le (.d (.one (.v (.slice none 0 0)))) (.d (.one (dJ K 0 c))):=by
 refine fJ ?_;rintro B w v ⟨rfl,_⟩;exact ⟨none,0,rfl,Nat.le_refl _,fun _=>rfl,fun i hi=>absurd hi (Nat.not_lt_zero _)⟩
theorem vZ{α:Type}[DecidableEq α][OfNat α 0]{c:Nat→α}(h:∀ i,c i=0):∀ n,dg c n=0
 | 0=>rfl
 | n+1=>by rw [SY (h n)];exact vZ h n
theorem Gt{α:Type}[DecidableEq α][OfNat α 0]{c:Nat→α}{n:Nat}(hz:∀ i,n≤i→c i=0)(h:dg c n=0):∀ i,c i=0:=fun i=>nG hz i (by omega)
/-- The coefficients as rationals. -/
def rc(c:Nat→Int):Nat→Rat:=fun i=>((c i:Int):Rat)
theorem ql{c:Nat→Int}{n:Nat}(h:∀ i,n≤i→c i=0):∀ i,n≤i→rc c i=0:=fun i hi=>by unfold rc;rw [h i hi];rfl
def lM(a b:Nat→Rat):Nat→Rat:=fun i=>a i+b i
def fO(a:Nat→Rat)(q:Rat):Nat→Rat:=fun i=>a i*q
theorem Tm{a b:Nat→Rat}{n m:Nat}(h:∀ i,n≤i→a i=0)(k:∀ i,m≤i→b i=0):∀ i,max n m≤i→lM a b i=0:=fun i hi=>by unfold lM;rw [h i (by omega),k i (by omega)];exact Rat.add_zero 0
theorem Cb{a:Nat→Rat}{q:Rat}{n:Nat}(h:∀ i,n≤i→a i=0):∀ i,n≤i→fO a q i=0:=fun i hi=>by unfold fO;rw [h i hi];grind
def nH(a b:Nat→Int):Nat→Int:=fun i=>a i+b i
def oK(a b:Nat→Int):Nat→Int:=fun i=>a i-b i
def gV(a:Nat→Int):Nat→Int:=fun i=> -a i
def iK(a:Nat→Int)(q:Int):Nat→Int:=fun i=>a i*q
def bM(a:Nat→Int):Nat→Int:=fun i=>a (i+1)*((i+1:Nat):Int)
theorem Ya{a b:Nat→Int}{n m:Nat}(h:∀ i,n≤i→a i=0)(k:∀ i,m≤i→b i=0):∀ i,max n m≤i→nH a b i=0:=fun i hi=>by unfold nH;rw [h i (by omega),k i (by omega)];rfl
theorem QS{a b:Nat→Int}{n m:Nat}(h:∀ i,n≤i→a i=0)(k:∀ i,m≤i→b i=0):∀ i,max n m≤i→oK a b i=0:=fun i hi=>by unfold oK;rw [h i (by omega),k i (by omega)];rfl
theorem afE{a:Nat→Int}{n:Nat}(h:∀ i,n≤i→a i=0):∀ i,n≤i→gV a i=0:=fun i hi=>by unfold gV;rw [h i hi];rfl
theorem oJ{a:Nat→Int}{q:Int}{n:Nat}(h:∀ i,n≤i→a i=0):∀ i,n≤i→iK a q i=0:=fun i hi=>by unfold iK;rw [h i hi];simp
theorem D5{a:Nat→Int}{n:Nat}(h:∀ i,n≤i→a i=0):∀ i,n-1≤i→bM a i=0:=fun i hi=>by unfold bM;rw [h (i+1) (by omega)];simp
/-! ### The product -/
theorem DU{a b:Nat→Int}{j:Nat}:∀ {m:Nat},(∀ i,i < m→i≤j→a i*b (j-i)=0)→cv a b m j=0
 | 0,_=>rfl
 | m+1,h=>by
  show cv a b m j+_=0
  rw [DU (fun i hi=>h i (Nat.lt_succ_of_lt hi))];split
  ·rename_i h1;rw [h m (Nat.lt_succ_self _) h1];rfl
  ·rfl
theorem BI{a b:Nat→Rat}{j:Nat}:∀ {m:Nat},(∀ i,i < m→i≤j→a i*b (j-i)=0)→cv a b m j=0
 | 0,_=>rfl
 | m+1,h=>by
  show cv a b m j+_=0
  rw [BI (fun i hi=>h i (Nat.lt_succ_of_lt hi))];split
  ·rename_i h1;rw [h m (Nat.lt_succ_self _) h1];exact Rat.add_zero 0
  ·exact Rat.add_zero 0
theorem SI{a b:Nat→Int}{j n:Nat}(ha:∀ i,n≤i→a i=0):∀ d,cv a b (n+d) j=cv a b n j
 | 0=>rfl
 | d+1=>by
  show cv a b (n+d) j+(if n+d≤j then a (n+d)*b (j-(n+d)) else 0)=_
  rw [SI ha d,ha (n+d) (by omega)];split <;> simp
theorem N7{a b:Nat→Rat}{j n:Nat}(ha:∀ i,n≤i→a i=0):∀ d,cv a b (n+d) j=cv a b n j
 | 0=>rfl
 | d+1=>by
  show cv a b (n+d) j+(if n+d≤j then a (n+d)*b (j-(n+d)) else 0)=_
  rw [N7 ha d,ha (n+d) (by omega)];split <;> grind
theorem SK{a b:Nat→Int}{j:Nat}:∀ d,cv a b (j+1+d) j=cv a b (j+1) j
 | 0=>rfl
 | d+1=>by
  show cv a b (j+1+d) j+(if j+1+d≤j then a (j+1+d)*b (j-(j+1+d)) else 0)=_
  rw [SK d,if_neg (by omega)];simp
theorem N8{a b:Nat→Rat}{j:Nat}:∀ d,cv a b (j+1+d) j=cv a b (j+1) j
 | 0=>rfl
 | d+1=>by
  show cv a b (j+1+d) j+(if j+1+d≤j then a (j+1+d)*b (j-(j+1+d)) else 0)=_
  rw [N8 d,if_neg (by omega)];grind
theorem SH{a b:Nat→Int}{j n:Nat}(ha:∀ i,n≤i→a i=0):cv a b n j=aX a b j:=by
 unfold aX;rw [← SI ha (j+1),← SK (a:=a) (b:=b) (j:=j) n,Nat.add_comm]
theorem NZ{a b:Nat→Rat}{j n:Nat}(ha:∀ i,n≤i→a i=0):cv a b n j=aX a b j:=by
 unfold aX;rw [← N7 ha (j+1),← N8 (a:=a) (b:=b) (j:=j) n,Nat.add_comm]
theorem mQ{a b:Nat→Int}{j n m:Nat}(ha:∀ i,n≤i→a i=0)(hb:∀ i,m≤i→b i=0)(h:n+m≤j+1):aX a b j=0:=by
 refine DU fun i _ hi=>?_
 by_cases h1:n≤i
 ·rw [ha i h1];simp
 ·rw [hb (j-i) (by omega)];simp
theorem qG{a b:Nat→Rat}{j n m:Nat}(ha:∀ i,n≤i→a i=0)(hb:∀ i,m≤i→b i=0)(h:n+m≤j+1):aX a b j=0:=by
 refine BI fun i _ hi=>?_
 by_cases h1:n≤i
 ·rw [ha i h1];grind
 ·rw [hb (j-i) (by omega)];grind
theorem fK{a b:Nat→Int}{n m:Nat}(h:∀ i,n≤i→a i=0)(k:∀ i,m≤i→b i=0):∀ i,n+m≤i→aX a b i=0:=fun i hi=>mQ h k (by omega)
theorem NW{a b:Nat→Rat}{n m:Nat}(h:∀ i,n≤i→a i=0)(k:∀ i,m≤i→b i=0):∀ i,n+m≤i→aX a b i=0:=fun i hi=>qG h k (by omega)
theorem SG{a b:Nat→Int}{j:Nat}:∀ m,cv (fun i=>((a i:Int):Rat)) (fun i=>((b i:Int):Rat)) m j=((cv a b m j:Int):Rat)
 | 0=>rfl
 | m+1=>by
  show cv _ _ m j+_=(((cv a b m j+_:Int)):Rat)
  rw [SG m,Rat.intCast_add];split
  ·rw [Rat.intCast_mul]
  ·rfl
/-- Within a round: the first k of the i-th have been added. -/
def QC(a b:Nat→Int)(i k:Nat):Nat→Int:=fun j=>cv a b i j+(if i≤j∧j < i+k then a i*b (j-i) else 0)
def zY(a b:Nat→Rat)(i k:Nat):Nat→Rat:=fun j=>cv a b i j+(if i≤j∧j < i+k then a i*b (j-i) else 0)
theorem XK{a b:Nat→Int}{i j:Nat}:QC a b i 0 j=cv a b i j:=by unfold QC;rw [if_neg (by omega)];simp
theorem UY{a b:Nat→Rat}{i j:Nat}:zY a b i 0 j=cv a b i j:=by unfold zY;rw [if_neg (by omega)];grind
theorem abz{a b:Nat→Int}{i j m:Nat}(hb:∀ k,m≤k→b k=0):QC a b i m j=cv a b (i+1) j:=by
 show _=cv a b i j+_
 unfold QC
 by_cases h:i≤j
 ·by_cases h2:j < i+m
  ·rw [if_pos ⟨h,h2⟩,if_pos h]
  ·rw [if_neg (by omega),if_pos h,hb (j-i) (by omega)];simp
 ·rw [if_neg (by omega),if_neg h]
theorem XI{a b:Nat→Rat}{i j m:Nat}(hb:∀ k,m≤k→b k=0):zY a b i m j=cv a b (i+1) j:=by
 show _=cv a b i j+_
 unfold zY
 by_cases h:i≤j
 ·by_cases h2:j < i+m
  ·rw [if_pos ⟨h,h2⟩,if_pos h]
  ·rw [if_neg (by omega),if_pos h,hb (j-i) (by omega)];grind
 ·rw [if_neg (by omega),if_neg h]
theorem XJ{a b:Nat→Int}{i k:Nat}:QC a b i k (i+k)+a i*b k=QC a b i (k+1) (i+k):=by
 unfold QC;rw [if_neg (by omega),if_pos (by omega),Nat.add_sub_cancel_left];simp
theorem UW{a b:Nat→Rat}{i k:Nat}:zY a b i k (i+k)+a i*b k=zY a b i (k+1) (i+k):=by
 unfold zY;rw [if_neg (by omega),if_pos (by omega),Nat.add_sub_cancel_left];grind
theorem UZ{a b:Nat→Int}{i k j:Nat}(h:j≠i+k):QC a b i k j=QC a b i (k+1) j:=by
 unfold QC
 by_cases h1:i≤j∧j < i+k
 ·rw [if_pos h1,if_pos (by omega)]
 ·rw [if_neg h1,if_neg (by omega)]
theorem QD{a b:Nat→Rat}{i k j:Nat}(h:j≠i+k):zY a b i k j=zY a b i (k+1) j:=by
 unfold zY
 by_cases h1:i≤j∧j < i+k
 ·rw [if_pos h1,if_pos (by omega)]
 ·rw [if_neg h1,if_neg (by omega)]
theorem vX{a b:Nat→Int}(h:∀ i,a i=0)(j:Nat):aX a b j=0:=DU fun i _ _=>by rw [h i];simp
theorem abv{a b:Nat→Int}(h:∀ i,b i=0)(j:Nat):aX a b j=0:=DU fun i _ _=>by rw [h];simp
theorem Xy{a b:Nat→Rat}(h:∀ i,a i=0)(j:Nat):aX a b j=0:=BI fun i _ _=>by rw [h i];grind
theorem Xz{a b:Nat→Rat}(h:∀ i,b i=0)(j:Nat):aX a b j=0:=BI fun i _ _=>by rw [h];grind
theorem Eb{K n:Nat}{c:Nat→Int}(h:n=0):AV.le (.d (.one (.v (.slice none 0 0)))) (.d (.one (gQ K n c))):=by subst h;exact Zo
theorem Ec{K n:Nat}{c:Nat→Rat}(h:n=0):AV.le (.d (.one (.v (.slice none 0 0)))) (.d (.one (dJ K n c))):=by subst h;exact Zp
/-- The bounds of a product's elements, within a round. -/
def kf(R:Nat→Nat)(i k p:Nat):Nat:=if i≤p∧p < i+k then R (i+1) else R i
theorem ajS{R:Nat→Nat}{i k:Nat}:kf R i k (i+k)=R i:=if_neg (by omega)
theorem agh{R:Nat→Nat}{i k:Nat}:kf R i (k+1) (i+k)=R (i+1):=if_pos (by omega)
theorem ajT{R:Nat→Nat}{i k p:Nat}(h:R i≤R (i+1)):kf R i k p≤kf R i (k+1) p:=by
 unfold kf
 by_cases h1:i≤p∧p < i+k
 ·rw [if_pos h1,if_pos (by omega)];exact Nat.le_refl _
 ·rw [if_neg h1];split
  ·exact h
  ·exact Nat.le_refl _
theorem agf{R:Nat→Nat}{i k p:Nat}(h:R i≤R (i+1)):kf R i k p≤R (i+1):=by
 unfold kf;split
 ·exact Nat.le_refl _
 ·exact h
theorem YO{R:Nat→Nat}{i p:Nat}:R i≤kf R i 0 p:=by unfold kf;rw [if_neg (by omega)];exact Nat.le_refl _
theorem ajU{l:List Int}:∀ i,l.length≤i→EH l i=0:=fun i hi=>by unfold EH;rw [List.getD_eq_getElem?_getD,List.getElem?_eq_none hi];rfl
/-- Moved: step by step from the top. -/
def vJ(x y:Int):Nat→Int:=fun i=>if i=0 then x else if i=1 then y else 0
def iC(z:Int):Nat→Int:=fun i=>if i=0 then z else 0
theorem Y3{x y:Int}:∀ i,2≤i→vJ x y i=0:=fun i hi=>by unfold vJ;rw [if_neg (by omega),if_neg (by omega)]
theorem wI{z:Int}:∀ i,1≤i→iC z i=0:=fun i hi=>if_neg (by omega)
def del(xs:List Nat):Nat→Nat→Lf:=fun i _=> .v (.int .i64 ((xs.getD i 0:Nat):Int))
theorem wu{N:Nat}(h:N≤9223372036854775808):(aT N).length≤5:=qR (Nat.lt_of_le_of_lt h (by decide))
theorem Jt{ds:List Nat}{R N:Nat}(hR:0 < R)(h:ds ++aT R=aT N):(ds ++ [R%B4]) ++aT (R / B4)=aT N:=by
 rw [← h,DW (show R≠0 by omega),List.append_assoc];rfl
theorem Oa{ds:List Nat}{R N:Nat}(hR:¬ 0 < R)(h:ds ++aT R=aT N):ds=aT N:=by
 obtain rfl:R=0:=by omega
 rw [← h,show aT 0= [] from rfl,List.append_nil]
theorem SN{e:TypeId}{ds:List Nat}{x m:Nat}{el2:Nat→Nat→Lf}(hm:m=ds.length+1)(h0:el2 0 0= .v (.int .i64 (x:Int)):=by rfl):AO.le (.row e 1 (ds.length+1) (fB ds.length (del ds) el2)) (.row e 1 m (del (ds ++ [x]))):=by
 refine Qo hm (fun i hi j hj B w v hv=>?_) (fun j hj B w v hv=>?_)
 ·unfold del at *;rw [List.getD_eq_getElem?_getD,List.getElem?_append_left hi,← List.getD_eq_getElem?_getD];exact hv
 ·obtain rfl:j=0:=by omega
  rw [h0] at hv;unfold del;rw [List.getD_eq_getElem?_getD,List.getElem?_append_right (Nat.le_refl _),Nat.sub_self];exact hv
/-- Cells one by one are a digit row. -/
theorem TG{n K N:Nat}{xs:List Nat}(hn:xs.length=n)(hx:xs=aT N)(hK:n≤K):UH (.row 1 n (del xs)) K N:=by
 rintro B w c ⟨a,cap,rfl,h1,h2,h3⟩;subst hn;unfold dn;rw [← hx];refine XW ⟨rfl,h1,h2,by rw [hx];exact uI N,?_⟩ hK (fun x hx' hne hb=>?_)
 ·rcases Nat.eq_zero_or_pos xs.length with h0 | h0
  ·have:xs= []:=List.eq_nil_of_length_eq_zero h0
   rw [this];exact Or.inl rfl
  ·obtain ⟨b,off,rfl,_,_,_⟩:=h3 0 h0
   refine Or.inr ⟨b,off,rfl,fun j hj=>?_⟩;have hj':j < xs.length:=by simpa [dY] using hj
   obtain ⟨b',off',he',_,_,h4⟩:=h3 j hj';cases he'
   obtain ⟨x,hx1,hx2⟩:=h4 0 (by omega);obtain ⟨rfl,_⟩:=hx2;rw [Nat.mul_one,Nat.add_zero] at hx1;rw [hx1,uV];simp [hj']
 ·obtain ⟨b,off,he',hb',_,_⟩:=h3 0 (List.length_pos_iff.2 hne)
  rw [he'] at hx';cases hx'
  exact hb' hb
theorem Jq{m:Nat}:(aT m).length=1∧(aT m).getD 0 0=1↔m=1:=by
 constructor
 ·rintro ⟨h1,h2⟩
  have h3:=dN m
  match h:aT m,h1 with
  | [x],_=>
   rw [h] at h2 h3;simp at h2;subst h2;rw [← h3];rfl
 ·rintro rfl;rw [DW (by decide)];exact ⟨rfl,rfl⟩
theorem ag4{x y:Int}(hd:y∣x):zv (decide (x < 0) !=decide (y < 0)) (x.natAbs / y.natAbs)=x / y:=by
 obtain ⟨q,rfl⟩:=hd;rcases Int.lt_trichotomy y 0 with hy | rfl | hy
 ·rw [Int.natAbs_mul,Nat.mul_div_cancel_left _ (by omega),Int.mul_ediv_cancel_left _ (by omega)]
  rcases Int.lt_trichotomy q 0 with hq | rfl | hq
  ·have:=Int.mul_pos_of_neg_of_neg hy hq
   simp [zv,hy,show ¬ y*q < 0 from by omega];omega
  ·simp [zv]
  ·have:=Int.mul_neg_of_neg_of_pos hy hq
   simp [zv,hy,this];omega
 ·simp [zv]
 ·rw [Int.natAbs_mul,Nat.mul_div_cancel_left _ (by omega),Int.mul_ediv_cancel_left _ (by omega)]
  rcases Int.lt_trichotomy q 0 with hq | rfl | hq
  ·have:=Int.mul_neg_of_pos_of_neg hy hq
   simp [zv,show ¬ y < 0 from by omega,this];omega
  ·simp [zv]
  ·have:=Int.mul_pos hy hq
   simp [zv,show ¬ y < 0 from by omega,show ¬ y*q < 0 from by omega];omega
/-- A rational of the program, in any form; normal. -/
def EO(ls:List Lf)(K:Nat)(n d:Int):Prop:=∃ s xs t ys,(∀ B w cs,gJ B w ls cs→gJ B w ([.v (.bool s),lr K xs] ++ [.v (.bool t),lr K ys]) cs)∧zv s (val xs)=n∧zv t (val ys)=d
def tn(K:Nat)(q:Rat):List Lf:=zn K q.num ++zn K (q.den:Int)
def uH(x y:Rat):Int:=jS (x.num*y.den) (y.num*x.den)
/-- A fraction (over 0: over 1). -/
def dL(n d:Int):Rat:=Rat.divInt n (if d=0 then 1 else d)
theorem o7{n d:Int}(h:0 < d):(Rat.divInt n d).num=n / ((Nat.gcd n.natAbs d.natAbs:Nat):Int)∧((Rat.divInt n d).den:Int)=d / ((Nat.gcd n.natAbs d.natAbs:Nat):Int):=by
 obtain ⟨k,rfl⟩:=Int.eq_ofNat_of_zero_le (Int.le_of_lt h);have hk:k≠0:=by rintro rfl;exact absurd h (by decide)
 rw [Rat.divInt_ofNat,← Rat.normalize_eq_mkRat hk,Rat.normalize_eq hk];exact ⟨rfl,Int.natCast_ediv _ _⟩
theorem CG(n:Int):(Rat.divInt n 1).num=n∧((Rat.divInt n 1).den:Int)=1:=by
 have h:=o7 (n:=n) (d:=1) (by decide);rw [show (Int.natAbs 1)=1 from rfl,Nat.gcd_one_right] at h;refine ⟨h.1.trans (Int.ediv_one n),h.2⟩
theorem oL(n d:Int):((Nat.gcd n.natAbs d.natAbs:Nat):Int)∣n:=Int.dvd_natAbs.1 (Int.natCast_dvd_natCast.2 (Nat.gcd_dvd_left _ _))
theorem oM(n d:Int):((Nat.gcd n.natAbs d.natAbs:Nat):Int)∣d:=Int.dvd_natAbs.1 (Int.natCast_dvd_natCast.2 (Nat.gcd_dvd_right _ _))
theorem oN{n d:Int}(h:d≠0):((Nat.gcd n.natAbs d.natAbs:Nat):Int)≠0:=by
 have:Nat.gcd n.natAbs d.natAbs≠0:=fun e=>by
  have:=(Nat.gcd_eq_zero_iff.1 e).2;omega
 omega
theorem lH(a:Rat):(a.den:Int)≠0:=by have:=a.den_nz;omega
theorem jG{n d:Int}(h:d≠0):dL n d=Rat.divInt n d:=by unfold dL;rw [if_neg h]
theorem LM(a b:Rat):dL (a.num*b.den+b.num*a.den) (a.den*b.den)=a+b:=by
 rw [jG (Int.mul_ne_zero (lH a) (lH b)),← Rat.divInt_add_divInt _ _ (lH a) (lH b),Rat.num_divInt_den,Rat.num_divInt_den]
theorem acn(a b:Rat):dL (a.num*b.num) (a.den*b.den)=a*b:=by
 rw [jG (Int.mul_ne_zero (lH a) (lH b)),← Rat.divInt_mul_divInt,Rat.num_divInt_den,Rat.num_divInt_den]
theorem aco(a b:Rat)(h:b≠0):dL (a.num*b.den) (a.den*b.num)=a / b:=by
 have hb:b.num≠0:=fun e=>h (Rat.num_eq_zero.1 e)
 rw [jG (Int.mul_ne_zero (lH a) hb),← Rat.divInt_mul_divInt,Rat.num_divInt_den,Rat.div_def,Rat.inv_def]
theorem ji(n:Int):dL n 1=(n:Rat):=by
 rw [jG (by decide)];exact Rat.ext (by rw [(CG n).1,Rat.num_intCast]) (by have:=(CG n).2;rw [Rat.den_intCast];omega)
theorem ER{n:Int}(h1: -9223372036854775808≤n:=by decide)(h2:n≤9223372036854775807:=by decide):aC Tryz.prog 48 [.one (.v (.int .i64 n))] (.d (.agg (rn 64 n))):=by
 refine aN 26 [.cell 2 47] Tryz.func48 rfl<|cR<|mO rfl<|mT<|au<|cR<|mv2 rfl rfl<|mT<|aW rfl (fun hc1=>?_) (fun hc1=>?_)
 ·refine au ?_;have hn:n= -9223372036854775808:=eq_of_beq hc1;subst hn;exact aA<|mY ahV rfl<|mY (tZ rfl) rfl<|mZ rfl<|mT<|aO<|tR<|rQ rfl (yj (by decide) (by decide))
 ·refine aF<|tN<|au ?_;have hn:n≠-9223372036854775808:=fun e=>by have h0:=hc1;rw [e] at h0;exact absurd h0 (by decide)
  have hN:n.natAbs≤9223372036854775808:=by omega
  refine aA<|mv3 rfl rfl rfl<|mT<|au<|cR<|mW rfl<|mT<|aW rfl (fun hc2=>?_) (fun hc2=>?_)
  ·refine aA<|mW rfl<|mV aj (.d (.one (.v (.int .i64 (n.natAbs:Int))))) (fH (show IntKind.i64.wrap (0-n)=_ from by have h0:=of_decide_eq_true hc2;rw [dS];omega))<|mW rfl<|mT<|cR<|mW rfl<|mT<|au<|aJ<|AW.wk (qC 4 4 3 1 (fun _ _=> .v undef) rfl rfl)<|dQ (ι:=List Nat×Nat) (fun (p:List Nat×Nat)=>match p with | (ds,R)=>⟨26,[(0,.d (.one (.v (.int .i64 ((R:Nat):Int))))),(3,.d (.one (.v (.bool (decide (n < 0)))))),(2,.ptr 2 0),(4,.own 4)],[(2,.box 47 ([.v (.slice none 0 0),.v (.bool false)])),(4,.row 3 1 ds.length (del ds))]⟩) (fun (p:List Nat×Nat)=>match p with | (ds,R)=>ds ++aT R=aT n.natAbs∧R≤9223372036854775808-1) (fun (p:List Nat×Nat)=>match p with | (ds,R)=>R) ([],n.natAbs) (⟨rfl,by omega⟩) (wk rfl ⟨fM rfl (aG (rfl)),hs rfl,hs rfl,hs rfl,trivial⟩ ⟨ho rfl,dX rfl (iL),trivial⟩ rfl) ?_;rintro ⟨ds,R⟩ hI;obtain ⟨hd,hR9⟩:ds ++aT R=aT n.natAbs∧R≤9223372036854775808-1:=hI;show AW _ _ _ ⟨_,_,_⟩
   refine au<|cR<|mv2 rfl rfl<|mT<|aW rfl (fun hc3=>?_) (fun hc3=>?_)
   ·refine aF<|tN<|aJ<|au ?_;have hR:0 < R:=by have h0:=of_decide_eq_true hc3;omega
    have hlen:ds.length≤5:=by have h0:=wu hN;rw [← hd,List.length_append] at h0;omega
    exact aA<|mv3 rfl rfl rfl<|mB aj (.d (.one (.row 1 1 (fun i' j'=>(([.v (.int .i64 ((R%10000:Nat):Int))])[i'*1+j']?).getD (.v undef))))) rfl<|mA aj (id:=4) (n:=ds.length) (m:=1) (el:=(del ds)) (el2:=(fun i' j'=>(([.v (.int .i64 ((R%10000:Nat):Int))])[i'*1+j']?).getD (.v undef))) rfl rfl rfl (by show (ds.length+1)*8≤140737488355328;omega) (by omega) rfl rfl rfl rfl rfl rfl rfl rfl rfl rfl<|mW rfl<|mT<|aA<|mv3 rfl rfl rfl<|ak<|bN<|⟨((ds ++ [R%10000]),(R / 10000)),⟨Jt hR hd,by omega⟩,by show R / 10000 < R;omega,wk rfl ⟨fM rfl (aG (show IntKind.i64.wrap (Int.tdiv (R:Int) 10000)=_ from by rw [show Int.tdiv (R:Int) 10000=((R / 10000:Nat):Int) from rfl];exact dS (by omega) (by omega))),hs rfl,hs rfl,hs rfl,trivial⟩ ⟨ho rfl,dX rfl (SN (by simp)),trivial⟩ rfl⟩
   ·refine dO<|tE<|tE<|bE<|tN<|au ?_;have hde:ds=aT n.natAbs:=Oa (by have h0:=of_decide_eq_false hc3;omega) hd;exact AW.wk (jf 4 rfl)<|iJ 4 (.d (.one (dn 5 n.natAbs))) rfl (fJ (TG rfl hde (by rw [hde];exact wu hN)))<|aA<|mv2 rfl rfl<|mY (tZ rfl) rfl<|mZ rfl<|mT<|aO<|rQ rfl (yj (by decide) (kY n))
  ·refine aF<|tN<|cR<|mW rfl<|mT<|au<|aJ<|AW.wk (qC 4 4 3 1 (fun _ _=> .v undef) rfl rfl)<|dQ (ι:=List Nat×Nat) (fun (p:List Nat×Nat)=>match p with | (ds,R)=>⟨26,[(0,.d (.one (.v (.int .i64 ((R:Nat):Int))))),(3,.d (.one (.v (.bool (decide (n < 0)))))),(2,.ptr 2 0),(4,.own 4)],[(2,.box 47 ([.v (.slice none 0 0),.v (.bool false)])),(4,.row 3 1 ds.length (del ds))]⟩) (fun (p:List Nat×Nat)=>match p with | (ds,R)=>ds ++aT R=aT n.natAbs∧R≤9223372036854775808-1) (fun (p:List Nat×Nat)=>match p with | (ds,R)=>R) ([],n.natAbs) (⟨rfl,by omega⟩) (wk rfl ⟨fM rfl (aG (by have h0:=of_decide_eq_false hc2;omega)),hs rfl,hs rfl,hs rfl,trivial⟩ ⟨ho rfl,dX rfl (iL),trivial⟩ rfl) ?_;rintro ⟨ds,R⟩ hI;obtain ⟨hd,hR9⟩:ds ++aT R=aT n.natAbs∧R≤9223372036854775808-1:=hI;show AW _ _ _ ⟨_,_,_⟩
   refine au<|cR<|mv2 rfl rfl<|mT<|aW rfl (fun hc4=>?_) (fun hc4=>?_)
   ·refine aF<|tN<|aJ<|au ?_;have hR:0 < R:=by have h0:=of_decide_eq_true hc4;omega
    have hlen:ds.length≤5:=by have h0:=wu hN;rw [← hd,List.length_append] at h0;omega
    exact aA<|mv3 rfl rfl rfl<|mB aj (.d (.one (.row 1 1 (fun i' j'=>(([.v (.int .i64 ((R%10000:Nat):Int))])[i'*1+j']?).getD (.v undef))))) rfl<|mA aj (id:=4) (n:=ds.length) (m:=1) (el:=(del ds)) (el2:=(fun i' j'=>(([.v (.int .i64 ((R%10000:Nat):Int))])[i'*1+j']?).getD (.v undef))) rfl rfl rfl (by show (ds.length+1)*8≤140737488355328;omega) (by omega) rfl rfl rfl rfl rfl rfl rfl rfl rfl rfl<|mW rfl<|mT<|aA<|mv3 rfl rfl rfl<|ak<|bN<|⟨((ds ++ [R%10000]),(R / 10000)),⟨Jt hR hd,by omega⟩,by show R / 10000 < R;omega,wk rfl ⟨fM rfl (aG (show IntKind.i64.wrap (Int.tdiv (R:Int) 10000)=_ from by rw [show Int.tdiv (R:Int) 10000=((R / 10000:Nat):Int) from rfl];exact dS (by omega) (by omega))),hs rfl,hs rfl,hs rfl,trivial⟩ ⟨ho rfl,dX rfl (SN (by simp)),trivial⟩ rfl⟩
   ·refine dO<|tE<|tE<|bE<|tN<|au ?_;have hde:ds=aT n.natAbs:=Oa (by have h0:=of_decide_eq_false hc4;omega) hd;exact AW.wk (jf 4 rfl)<|iJ 4 (.d (.one (dn 5 n.natAbs))) rfl (fJ (TG rfl hde (by rw [hde];exact wu hN)))<|aA<|mv2 rfl rfl<|mY (tZ rfl) rfl<|mZ rfl<|mT<|aO<|rQ rfl (yj (by decide) (kY n))
theorem sO{a b:List Lf}{K L M:Nat}{x y:Int}(ha:J9 a K x)(hb:J9 b L y)(hy:y≠0)(hd:y∣x)(hM:K≤M:=by first|decide|omega)(hK:K≤100000000:=by first|decide|omega)(hL:L≤100000000:=by first|decide|omega):aC Tryz.prog 87 [.agg a,.agg b] (.d (.agg (rn M (x / y)))):=by
 exact aC.le (dl (DV.g ha) (dl (DV.g hb) iM)) AV.le.rfl<|aN 22 [.cell 4 47] Tryz.func87 rfl<|cR<|mO rfl<|mO rfl<|mO rfl<|mT<|cR<|mv4 rfl rfl rfl rfl<|mY (adu (QY K x.natAbs) (QY L y.natAbs) (by omega)) rfl<|mv5 rfl rfl rfl rfl rfl<|mT<|cR<|mv6 rfl rfl rfl rfl rfl rfl<|mY (tZ rfl) rfl<|mZ rfl<|mT<|aO<|rQ rfl (yj hM (ag4 hd))
theorem Eu{a b:List Lf}{K L M:Nat}{x y:Int}(ha:J9 a K x)(hb:J9 b L y)(hM:max K L≤M:=by first|decide|omega)(vI:M≤100000000:=by first|decide|omega):aC Tryz.prog 86 [.agg a,.agg b] (.d (.agg (rn M ((Nat.gcd x.natAbs y.natAbs:Nat):Int)))):=by
 refine aC.le (dl (DV.g ha) (dl (DV.g hb) iM)) AV.le.rfl<|aN 26 [.cell 4 47] Tryz.func86 rfl<|cR<|mO rfl<|mO rfl<|mO rfl<|mT<|au<|cDk 6<|oV rfl<|oV rfl<|oV rfl<|oV rfl<|.cons (aB.V _ rfl)<|.cons (aB.V _ rfl)<|.nil<|mT<|au<|aJ<|dQ (ι:=Nat×Nat) (fun (p:Nat×Nat)=>match p with | (u,v)=>⟨26,[(4,.ptr 4 0),(5,.d (.one (dn M u))),(6,.d (.one (dn M v)))],[(4,.box 47 ([.v (.slice none 0 0),.v (.bool false)]))]⟩) (fun (p:Nat×Nat)=>match p with | (u,v)=>Nat.gcd u v=Nat.gcd x.natAbs y.natAbs) (fun (p:Nat×Nat)=>match p with | (u,v)=>v) (x.natAbs,y.natAbs) (rfl) (wk rfl ⟨hs rfl,fM rfl (fJ (kQ (Nat.le_trans (Nat.le_max_left K L) hM))),fM rfl (fJ (kQ (Nat.le_trans (Nat.le_max_right K L) hM))),trivial⟩ ⟨ho rfl,trivial⟩ rfl) ?_;rintro ⟨u,v⟩ hI;have hg:Nat.gcd u v=Nat.gcd x.natAbs y.natAbs:=hI;show AW _ _ _ ⟨_,_,_⟩
 refine au<|cR<|mv3 rfl rfl rfl<|mT<|aW rfl (fun hc1=>?_) (fun hc1=>?_)
 ·refine aF<|tN<|aJ<|au ?_;have hy0:0 < v:=by rcases Nat.eq_zero_or_pos v with e | e;exact absurd (of_decide_eq_true hc1) (by rw [e];decide);exact e
  exact aA<|mv2 rfl rfl<|mY (adu (QY M u) (QY M v) hy0) rfl<|mv5 rfl rfl rfl rfl rfl<|mT<|aA<|mv4 rfl rfl rfl rfl<|ak<|bN<|⟨(v,(u%v)),by show Nat.gcd v (u%v)=_;rw [← hg,Nat.gcd_comm u v,Nat.gcd_rec v u,Nat.gcd_comm],by show u%v < v;exact Nat.mod_lt _ hy0,wkr rfl rfl⟩
 ·refine dO<|tE<|tE<|bE<|tN<|au ?_;have hy0:v=0:=by have h0:=of_decide_eq_false hc1;have h1:=uJ v;omega
  have hu:u=Nat.gcd x.natAbs y.natAbs:=by rw [← hg,hy0,Nat.gcd_zero_right]
  exact aA<|mv2 rfl rfl<|mZ rfl<|mT<|aO<|rQ rfl (Hl (by simp) (by rw [hu];rfl))
theorem oD{a b:List Lf}{K L M:Nat}{n d:Int}(ha:J9 a K n)(hb:J9 b L d)(hM:max K (max L 64)≤M:=by first|decide|omega)(vI:M≤100000000:=by first|decide|omega):aC Tryz.prog 47 [.agg a,.agg b] (.d (.agg (qn M (dL n d)))):=by
 refine aC.le (dl (DV.g ha) (dl (DV.g hb) iM)) AV.le.rfl<|aN 39 [.cell 4 49] Tryz.func47 rfl<|cR<|mO rfl<|mO rfl<|mO rfl<|mT<|au<|cR<|mW rfl<|mY (WZ (fG L d)) rfl<|mT<|aW rfl (fun hc1=>?_) (fun hc1=>?_)
 ·refine aA<|mY ER rfl<|mZ rfl<|mT<|au<|au ?_;have hd0:d=0:=of_decide_eq_true hc1;refine aA<|mv2 rfl rfl<|mT<|cFs rfl<|au<|au ?_
  by_cases hl1:(aT (Int.natAbs 1)).length=1
  ·refine aA<|mv3 rfl rfl rfl<|mbT rfl (by rw [hl1];rfl)<|mv3 rfl rfl rfl<|kH 21 (.d (.one (.row 1 ((aT (Int.natAbs 1)).length) (fun i _=> .v (.int .i64 (((aT (Int.natAbs 1)).getD i 0:Nat):Int)))))) rfl (FP _ _)<|mV aj (.d (.one (.at 1 ((fun i _=> .v (.int .i64 (((aT (Int.natAbs 1)).getD i 0:Nat):Int))) 0)))) (lu (el:=(fun i _=> .v (.int .i64 (((aT (Int.natAbs 1)).getD i 0:Nat):Int)))) (z:=0) (n:=((aT (Int.natAbs 1)).length)) rfl rfl rfl rfl rfl rfl (by decide) (by rw [hl1];decide)) ?_;refine mv3 rfl rfl rfl<|mT<|aW rfl (fun hc2=>?_) (fun hc2=>?_)
   ·refine cR<|mv3 rfl rfl rfl<|mZ rfl<|mT<|aO<|tR ?_;have hq:dL n d=Rat.divInt n 1:=by unfold dL;rw [if_pos hd0]
    have h1:(1:Int)=1:=by have h0:=Jq.1 ⟨hl1,Int.ofNat_inj.1 (eq_of_beq hc2)⟩;omega
    have hq1:dL n d=Rat.divInt n 1:=hq.trans (congrArg (Rat.divInt n) h1);obtain ⟨e1,e2⟩:=CG n;exact rQ rfl (uh (by omega) (by omega) (by rw [hq1];exact e1.symm) (by rw [hq1];exact h1.trans e2.symm))
   ·refine aF<|tN<|au ?_;have hD:(0:Int) < 1:=by omega
    refine aA<|mv2 rfl rfl<|mY (Eu (fG K n) (fG 64 1) (M:=(max K 64))) rfl<|mO rfl<|mZ rfl<|mT<|au<|cDk 7<|oV rfl<|oV rfl<|oC (sO (fG K n) (fG (max K 64) ((Nat.gcd (Int.natAbs n) (Int.natAbs 1):Nat):Int)) (oN (by omega)) (oL _ _) (M:=K)) rfl<|oV rfl<|oV rfl<|oC (sO (fG 64 1) (fG (max K 64) ((Nat.gcd (Int.natAbs n) (Int.natAbs 1):Nat):Int)) (oN (by omega)) (oM _ _) (M:=64)) rfl<|oV rfl<|.nil<|mZ rfl<|mT<|aO ?_;have hq:dL n d=Rat.divInt n 1:=by unfold dL;rw [if_pos hd0]
    obtain ⟨e1,e2⟩:=o7 (n:=n) (d:=1) hD;exact rQ rfl (uh (by omega) (by omega) (by rw [hq];exact e1.symm) (by rw [hq];exact e2.symm))
  ·refine aA<|mv3 rfl rfl rfl<|mbF rfl (beq_eq_false_iff_ne.2 fun e=>hl1 (by exact_mod_cast e))<|mW rfl<|mG rfl rfl<|mG rfl rfl<|mG rfl rfl<|mG rfl rfl<|mG rfl rfl<|mW rfl<|mT<|cFs rfl<|au ?_;have hD:(0:Int) < 1:=by omega
   refine aA<|mv2 rfl rfl<|mY (Eu (fG K n) (fG 64 1) (M:=(max K 64))) rfl<|mO rfl<|mZ rfl<|mT<|au<|cDk 7<|oV rfl<|oV rfl<|oC (sO (fG K n) (fG (max K 64) ((Nat.gcd (Int.natAbs n) (Int.natAbs 1):Nat):Int)) (oN (by omega)) (oL _ _) (M:=K)) rfl<|oV rfl<|oV rfl<|oC (sO (fG 64 1) (fG (max K 64) ((Nat.gcd (Int.natAbs n) (Int.natAbs 1):Nat):Int)) (oN (by omega)) (oM _ _) (M:=64)) rfl<|oV rfl<|.nil<|mZ rfl<|mT<|aO ?_;have hq:dL n d=Rat.divInt n 1:=by unfold dL;rw [if_pos hd0]
   obtain ⟨e1,e2⟩:=o7 (n:=n) (d:=1) hD;exact rQ rfl (uh (by omega) (by omega) (by rw [hq];exact e1.symm) (by rw [hq];exact e2.symm))
 ·refine aF<|tN<|au<|au ?_;have hd0:d≠0:=of_decide_eq_false hc1;refine aA<|mv2 rfl rfl<|mT<|aW rfl (fun hc3=>?_) (fun hc3=>?_)
  ·have hdn:d < 0:=of_decide_eq_true hc3;refine cDk 4<|oV rfl<|oC (NJ (fG K n) (M:=K)) rfl<|oV rfl<|oC (NJ (fG L d) (M:=L)) rfl<|.nil<|mZ rfl<|mZ rfl<|mT<|au<|au ?_
   by_cases hl1:(aT (Int.natAbs (-d))).length=1
   ·refine aA<|mv3 rfl rfl rfl<|mbT rfl (by rw [hl1];rfl)<|mv3 rfl rfl rfl<|kH 21 (.d (.one (.row 1 ((aT (Int.natAbs (-d))).length) (fun i _=> .v (.int .i64 (((aT (Int.natAbs (-d))).getD i 0:Nat):Int)))))) rfl (FP _ _)<|mV aj (.d (.one (.at 1 ((fun i _=> .v (.int .i64 (((aT (Int.natAbs (-d))).getD i 0:Nat):Int))) 0)))) (lu (el:=(fun i _=> .v (.int .i64 (((aT (Int.natAbs (-d))).getD i 0:Nat):Int)))) (z:=0) (n:=((aT (Int.natAbs (-d))).length)) rfl rfl rfl rfl rfl rfl (by decide) (by rw [hl1];decide)) ?_;refine mv3 rfl rfl rfl<|mT<|aW rfl (fun hc4=>?_) (fun hc4=>?_)
    ·refine cR<|mv3 rfl rfl rfl<|mZ rfl<|mT<|aO<|tR ?_;have hq:dL n d=Rat.divInt (-n) (-d):=by rw [jG hd0,Rat.neg_divInt_neg]
     have h1:((-d):Int)=1:=by have h0:=Jq.1 ⟨hl1,Int.ofNat_inj.1 (eq_of_beq hc4)⟩;omega
     have hq1:dL n d=Rat.divInt (-n) 1:=hq.trans (congrArg (Rat.divInt (-n)) h1);obtain ⟨e1,e2⟩:=CG (-n);exact rQ rfl (uh (by omega) (by omega) (by rw [hq1];exact e1.symm) (by rw [hq1];exact h1.trans e2.symm))
    ·refine aF<|tN<|au ?_;have hD:(0:Int) < (-d):=by omega
     refine aA<|mv2 rfl rfl<|mY (Eu (fG K (-n)) (fG L (-d)) (M:=(max K L))) rfl<|mO rfl<|mZ rfl<|mT<|au<|cDk 7<|oV rfl<|oV rfl<|oC (sO (fG K (-n)) (fG (max K L) ((Nat.gcd (Int.natAbs (-n)) (Int.natAbs (-d)):Nat):Int)) (oN (by omega)) (oL _ _) (M:=K)) rfl<|oV rfl<|oV rfl<|oC (sO (fG L (-d)) (fG (max K L) ((Nat.gcd (Int.natAbs (-n)) (Int.natAbs (-d)):Nat):Int)) (oN (by omega)) (oM _ _) (M:=L)) rfl<|oV rfl<|.nil<|mZ rfl<|mT<|aO ?_;have hq:dL n d=Rat.divInt (-n) (-d):=by rw [jG hd0,Rat.neg_divInt_neg]
     obtain ⟨e1,e2⟩:=o7 (n:=(-n)) (d:=(-d)) hD;exact rQ rfl (uh (by omega) (by omega) (by rw [hq];exact e1.symm) (by rw [hq];exact e2.symm))
   ·refine aA<|mv3 rfl rfl rfl<|mbF rfl (beq_eq_false_iff_ne.2 fun e=>hl1 (by exact_mod_cast e))<|mW rfl<|mG rfl rfl<|mG rfl rfl<|mG rfl rfl<|mG rfl rfl<|mG rfl rfl<|mW rfl<|mT<|cFs rfl<|au ?_;have hD:(0:Int) < (-d):=by omega
    refine aA<|mv2 rfl rfl<|mY (Eu (fG K (-n)) (fG L (-d)) (M:=(max K L))) rfl<|mO rfl<|mZ rfl<|mT<|au<|cDk 7<|oV rfl<|oV rfl<|oC (sO (fG K (-n)) (fG (max K L) ((Nat.gcd (Int.natAbs (-n)) (Int.natAbs (-d)):Nat):Int)) (oN (by omega)) (oL _ _) (M:=K)) rfl<|oV rfl<|oV rfl<|oC (sO (fG L (-d)) (fG (max K L) ((Nat.gcd (Int.natAbs (-n)) (Int.natAbs (-d)):Nat):Int)) (oN (by omega)) (oM _ _) (M:=L)) rfl<|oV rfl<|.nil<|mZ rfl<|mT<|aO ?_;have hq:dL n d=Rat.divInt (-n) (-d):=by rw [jG hd0,Rat.neg_divInt_neg]
    obtain ⟨e1,e2⟩:=o7 (n:=(-n)) (d:=(-d)) hD;exact rQ rfl (uh (by omega) (by omega) (by rw [hq];exact e1.symm) (by rw [hq];exact e2.symm))
  ·refine aF<|tN<|au<|au ?_;have hdp:0 < d:=by have h0:=of_decide_eq_false hc3;omega
   by_cases hl1:(aT d.natAbs).length=1
   ·refine aA<|mv3 rfl rfl rfl<|mbT rfl (by rw [hl1];rfl)<|mv3 rfl rfl rfl<|kH 21 (.d (.one (.row 1 ((aT d.natAbs).length) (fun i _=> .v (.int .i64 (((aT d.natAbs).getD i 0:Nat):Int)))))) rfl (FP _ _)<|mV aj (.d (.one (.at 1 ((fun i _=> .v (.int .i64 (((aT d.natAbs).getD i 0:Nat):Int))) 0)))) (lu (el:=(fun i _=> .v (.int .i64 (((aT d.natAbs).getD i 0:Nat):Int)))) (z:=0) (n:=((aT d.natAbs).length)) rfl rfl rfl rfl rfl rfl (by decide) (by rw [hl1];decide)) ?_;refine mv3 rfl rfl rfl<|mT<|aW rfl (fun hc5=>?_) (fun hc5=>?_)
    ·refine cR<|mv3 rfl rfl rfl<|mZ rfl<|mT<|aO<|tR ?_;have hq:dL n d=Rat.divInt n d:=jG hd0;have h1:(d:Int)=1:=by have h0:=Jq.1 ⟨hl1,Int.ofNat_inj.1 (eq_of_beq hc5)⟩;omega
     have hq1:dL n d=Rat.divInt n 1:=hq.trans (congrArg (Rat.divInt n) h1);obtain ⟨e1,e2⟩:=CG n;exact rQ rfl (uh (by omega) (by omega) (by rw [hq1];exact e1.symm) (by rw [hq1];exact h1.trans e2.symm))
    ·refine aF<|tN<|au ?_;have hD:(0:Int) < d:=by omega
     refine aA<|mv2 rfl rfl<|mY (Eu (fG K n) (fG L d) (M:=(max K L))) rfl<|mO rfl<|mZ rfl<|mT<|au<|cDk 7<|oV rfl<|oV rfl<|oC (sO (fG K n) (fG (max K L) ((Nat.gcd (Int.natAbs n) (Int.natAbs d):Nat):Int)) (oN (by omega)) (oL _ _) (M:=K)) rfl<|oV rfl<|oV rfl<|oC (sO (fG L d) (fG (max K L) ((Nat.gcd (Int.natAbs n) (Int.natAbs d):Nat):Int)) (oN (by omega)) (oM _ _) (M:=L)) rfl<|oV rfl<|.nil<|mZ rfl<|mT<|aO ?_;have hq:dL n d=Rat.divInt n d:=jG hd0;obtain ⟨e1,e2⟩:=o7 (n:=n) (d:=d) hD;exact rQ rfl (uh (by omega) (by omega) (by rw [hq];exact e1.symm) (by rw [hq];exact e2.symm))
   ·refine aA<|mv3 rfl rfl rfl<|mbF rfl (beq_eq_false_iff_ne.2 fun e=>hl1 (by exact_mod_cast e))<|mW rfl<|mG rfl rfl<|mG rfl rfl<|mG rfl rfl<|mG rfl rfl<|mG rfl rfl<|mW rfl<|mT<|cFs rfl<|au ?_;have hD:(0:Int) < d:=by omega
    refine aA<|mv2 rfl rfl<|mY (Eu (fG K n) (fG L d) (M:=(max K L))) rfl<|mO rfl<|mZ rfl<|mT<|au<|cDk 7<|oV rfl<|oV rfl<|oC (sO (fG K n) (fG (max K L) ((Nat.gcd (Int.natAbs n) (Int.natAbs d):Nat):Int)) (oN (by omega)) (oL _ _) (M:=K)) rfl<|oV rfl<|oV rfl<|oC (sO (fG L d) (fG (max K L) ((Nat.gcd (Int.natAbs n) (Int.natAbs d):Nat):Int)) (oN (by omega)) (oM _ _) (M:=L)) rfl<|oV rfl<|.nil<|mZ rfl<|mT<|aO ?_;have hq:dL n d=Rat.divInt n d:=jG hd0;obtain ⟨e1,e2⟩:=o7 (n:=n) (d:=d) hD;exact rQ rfl (uh (by omega) (by omega) (by rw [hq];exact e1.symm) (by rw [hq];exact e2.symm))
theorem WW{n d:Int}(h1: -9223372036854775808≤n:=by first|decide|omega)(h2:n≤9223372036854775807:=by first|decide|omega)(h3: -9223372036854775808≤d:=by first|decide|omega)(h4:d≤9223372036854775807:=by first|decide|omega):aC Tryz.prog 21 [.one (.v (.int .i64 n)),.one (.v (.int .i64 d))] (.d (.agg (qn 64 (dL n d)))):=by
 exact aN 10 [.cell 4 49] Tryz.func21 rfl<|cR<|mO rfl<|mT<|cR<|mW rfl<|mY (ER h1 h2) rfl<|mW rfl<|mY (ER h3 h4) rfl<|mY (oD (fG 64 n) (fG 64 d) (M:=64)) rfl<|mZ rfl<|mT<|aO<|rQ rfl (AV.le.rfl)
theorem Gj{n:Int}(h1: -9223372036854775808≤n:=by first|decide|omega)(h2:n≤9223372036854775807:=by first|decide|omega):aC Tryz.prog 21 [.one (.v (.int .i64 n)),.one (.v (.int .i64 1))] (.d (.agg (qn 64 (n:Rat)))):=by
 have h:=WW (d:=1) h1 h2 (by decide) (by decide);rw [ji] at h;exact h
theorem Ky{a b:List Lf}{K L M:Nat}{x y:Rat}(ha:P9 a K x)(hb:P9 b L y)(hM:max (K+L+1) 64≤M:=by first|decide|omega)(vI:M≤10000000:=by first|decide|omega):aC Tryz.prog 97 [.agg a,.agg b] (.d (.agg (qn M (x+y)))):=by
 exact aC.le (dl (DV.g ha) (dl (DV.g hb) iM)) AV.le.rfl<|aN 22 [.cell 4 49] Tryz.func97 rfl<|cR<|mO rfl<|mO rfl<|mO rfl<|mT<|au<|cDk 17<|oV rfl<|oV rfl<|oV rfl<|oV rfl<|oC (ou (fG K x.num) (fG L (y.den:Int)) (M:=(K+L))) rfl<|oV rfl<|oV rfl<|oV rfl<|oV rfl<|oC (ou (fG L y.num) (fG K (x.den:Int)) (M:=(L+K))) rfl<|oC (WU (fG (K+L) (x.num*(y.den:Int))) (fG (L+K) (y.num*(x.den:Int))) (M:=(max (K+L) (L+K)+1))) rfl<|oV rfl<|oV rfl<|oV rfl<|oV rfl<|oC (ou (fG K (x.den:Int)) (fG L (y.den:Int)) (M:=(K+L))) rfl<|oC (oD (fG (max (K+L) (L+K)+1) ((x.num*(y.den:Int))+(y.num*(x.den:Int)))) (fG (K+L) ((x.den:Int)*(y.den:Int))) (M:=(max (max (K+L) (L+K)+1) (max (K+L) 64)))) rfl<|.nil<|mZ rfl<|mT<|aO<|rQ rfl (uY (by omega) (LM x y))
theorem Kz{a b:List Lf}{K L M:Nat}{x y:Rat}(ha:P9 a K x)(hb:P9 b L y)(hM:max (K+L+1) 64≤M:=by first|decide|omega)(vI:M≤10000000:=by first|decide|omega):aC Tryz.prog 115 [.agg a,.agg b] (.d (.agg (qn M (x*y)))):=by
 exact aC.le (dl (DV.g ha) (dl (DV.g hb) iM)) AV.le.rfl<|aN 16 [.cell 4 49] Tryz.func115 rfl<|cR<|mO rfl<|mO rfl<|mO rfl<|mT<|au<|cDk 11<|oV rfl<|oV rfl<|oV rfl<|oV rfl<|oC (ou (fG K x.num) (fG L y.num) (M:=(K+L))) rfl<|oV rfl<|oV rfl<|oV rfl<|oV rfl<|oC (ou (fG K (x.den:Int)) (fG L (y.den:Int)) (M:=(K+L))) rfl<|oC (oD (fG (K+L) (x.num*y.num)) (fG (K+L) ((x.den:Int)*(y.den:Int))) (M:=(max (K+L) (max (K+L) 64)))) rfl<|.nil<|mZ rfl<|mT<|aO<|rQ rfl (uY (by omega) (acn x y))
theorem Ql{a:List Lf}{K:Nat}{x:Rat}(ha:P9 a K x)(hK:K≤10000000:=by first|decide|omega):aC Tryz.prog 46 [.agg a] (.d (.agg (qn K (-x)))):=by
 exact aC.le (dl (DV.g ha) iM) AV.le.rfl<|aN 9 [.cell 2 49] Tryz.func46 rfl<|cR<|mO rfl<|mO rfl<|mT<|au<|cDk 6<|oV rfl<|oV rfl<|oC (NJ (fG K x.num) (M:=K)) rfl<|oV rfl<|oV rfl<|oV rfl<|.nil<|mZ rfl<|mT<|aO<|rQ rfl (uh (Nat.le_refl _) (Nat.le_refl _) (Rat.neg_num x).symm (by rw [Rat.neg_den]))
theorem KA{a b:List Lf}{K L M:Nat}{x y:Rat}(ha:P9 a K x)(hb:P9 b L y)(hy:y≠0)(hM:max (K+L+1) 64≤M:=by first|decide|omega)(vI:M≤10000000:=by first|decide|omega):aC Tryz.prog 98 [.agg a,.agg b] (.d (.agg (qn M (x / y)))):=by
 exact aC.le (dl (DV.g ha) (dl (DV.g hb) iM)) AV.le.rfl<|aN 16 [.cell 4 49] Tryz.func98 rfl<|cR<|mO rfl<|mO rfl<|mO rfl<|mT<|au<|cDk 11<|oV rfl<|oV rfl<|oV rfl<|oV rfl<|oC (ou (fG K x.num) (fG L (y.den:Int)) (M:=(K+L))) rfl<|oV rfl<|oV rfl<|oV rfl<|oV rfl<|oC (ou (fG K (x.den:Int)) (fG L y.num) (M:=(K+L))) rfl<|oC (oD (fG (K+L) (x.num*(y.den:Int))) (fG (K+L) ((x.den:Int)*y.num)) (M:=(max (K+L) (max (K+L) 64)))) rfl<|.nil<|mZ rfl<|mT<|aO<|rQ rfl (uY (by omega) (aco x y hy))
theorem lZ{a b:List Lf}{K L:Nat}{x y:Rat}(ha:P9 a K x)(hb:P9 b L y)(hK:K≤10000000:=by first|decide|omega)(hL:L≤10000000:=by first|decide|omega):aC Tryz.prog 44 [.agg a,.agg b] (.d (.one (.v (.int .i64 (uH x y))))):=by
 exact aC.le (dl (DV.g ha) (dl (DV.g hb) iM)) AV.le.rfl<|aN 16 [.tmp 4] Tryz.func44 rfl<|cR<|mO rfl<|mO rfl<|mW rfl<|mT<|au<|cDk 12<|oV rfl<|oV rfl<|oV rfl<|oV rfl<|oC (ou (fG K x.num) (fG L (y.den:Int)) (M:=(K+L))) rfl<|oV rfl<|oV rfl<|oV rfl<|oV rfl<|oC (ou (fG L y.num) (fG K (x.den:Int)) (M:=(L+K))) rfl<|oC (ah5 (fG (K+L) (x.num*(y.den:Int))) (fG (L+K) (y.num*(x.den:Int)))) rfl<|.cons (aB.V _ rfl)<|.nil<|mT<|aO<|rQ rfl (AV.le.rfl)
theorem abd{a:List Lf}{K M:Nat}{n d:Int}(ha:EO a K n d)(hM:max (3*K) 64≤M:=by decide)(vI:M≤10000000:=by decide):aC Tryz.prog 40 [.agg a] (.d (.agg (qn M (dL n d)))):=by
 obtain ⟨s,xs,t,ys,ha,e1,e2⟩:=ha;exact aC.le (dl (DV.g ha) iM) AV.le.rfl<|aN 10 [.cell 2 49] Tryz.func40 rfl<|cR<|mO rfl<|mO rfl<|mT<|au<|cDk 7<|oV rfl<|oV rfl<|oC (Qk ⟨s,xs,fun _ _ _ h=>h,e1⟩ (M:=(3*K)) (by omega) (by omega)) rfl<|oV rfl<|oV rfl<|oC (Qk ⟨t,ys,fun _ _ _ h=>h,e2⟩ (M:=(3*K)) (by omega) (by omega)) rfl<|oC (oD (fG (3*K) n) (fG (3*K) d) (M:=(max (3*K) (max (3*K) 64)))) rfl<|.nil<|mZ rfl<|mT<|aO<|rQ rfl (uY (by omega) rfl)
theorem WJ{K n:Nat}{c:Nat→Int}(hn:n≤1000000:=by omega):aC Tryz.prog 124 [.one (gQ K n c)] (.d (.one (gQ K (dg c n) c))):=by
 refine aN 21 [.tmp 2] Tryz.func124 rfl<|cR<|mW rfl<|mT<|cR<|mv3 rfl rfl rfl<|mT<|au<|aJ<|dQ (ι:=Nat) (fun (k:Nat)=>⟨21,[(0,.d (.one (.row 2 n (bW K c)))),(3,.d (.one (.v (.int .i64 ((k:Nat):Int)))))],[]⟩) (fun (k:Nat)=>k≤n∧dg c n=dg c k) (fun (k:Nat)=>k) n (⟨Nat.le_refl _,rfl⟩) (wkr rfl rfl) ?_;rintro k hI;obtain ⟨hkn,hk⟩:k≤n∧dg c n=dg c k:=hI;show AW _ _ _ ⟨_,_,_⟩
 refine au<|au ?_
 by_cases hk0:k=0
 ·refine aA<|mW rfl<|mdF rfl (by omega)<|mW rfl<|mG rfl rfl<|mG rfl rfl<|mG rfl rfl<|mG rfl rfl<|mG rfl rfl<|mG rfl rfl<|mW rfl<|mT<|cF rfl<|dO<|tE<|tE<|bE<|tN<|au ?_;have hd:k=dg c n:=by rw [hk,hk0];rfl
  exact aA<|mv2 rfl rfl<|mV aj (.d (.one (.row 2 k (bW K c)))) (slR (z:=(k:Int)) (n:=n) rfl rfl rfl rfl rfl rfl (by omega) (by omega))<|mW rfl<|mT<|aO<|rQ rfl (qH (Nat.le_refl _) hd (fun _ _=>rfl))
 ·refine aA<|mW rfl<|mdT rfl (by omega)<|mv3 rfl rfl rfl<|mV aj (.d (.one (.v (.int .i64 ((k-1:Nat):Int))))) (fH ((dS (by omega) (by omega)).trans (by omega)))<|mV aj (.d (.one (.at 2 ((bW K c) (k-1))))) (lu (el:=(bW K c)) (z:=((k-1:Nat):Int)) (n:=n) rfl rfl rfl rfl rfl rfl (by omega) (by omega)) ?_;refine mW rfl<|mY (adD (isn K (c (k-1)))) rfl<|mW rfl<|mT<|aW rfl (fun hc1=>?_) (fun hc1=>?_)
  ·refine aF<|tN<|aJ ?_;have hc0:c (k-1)=0:=of_decide_eq_true hc1;exact aA<|mW rfl<|mV aj (.d (.one (.v (.int .i64 ((k-1:Nat):Int))))) (fH ((dS (by omega) (by omega)).trans (by omega)))<|mW rfl<|ak<|bN<|⟨(k-1),⟨by omega,SX hk hk0 hc0⟩,by omega,wkr rfl rfl⟩
  ·refine dO<|tE<|tE<|bE<|tN<|au ?_;have hd:k=dg c n:=by rw [hk];exact (sV (Or.inr fun e=>of_decide_eq_false hc1 e)).symm
   exact aA<|mv2 rfl rfl<|mV aj (.d (.one (.row 2 k (bW K c)))) (slR (z:=(k:Int)) (n:=n) rfl rfl rfl rfl rfl rfl (by omega) (by omega))<|mW rfl<|mT<|aO<|rQ rfl (qH (Nat.le_refl _) hd (fun _ _=>rfl))
theorem Bo{K n:Nat}{c:Nat→Rat}(hn:n≤1000000:=by omega):aC Tryz.prog 59 [.one (dJ K n c)] (.d (.one (dJ K (dg c n) c))):=by
 refine aN 22 [.tmp 2] Tryz.func59 rfl<|cR<|mW rfl<|mT<|cR<|mv3 rfl rfl rfl<|mT<|au<|aJ<|dQ (ι:=Nat) (fun (k:Nat)=>⟨22,[(0,.d (.one (.row 4 n (aK K c)))),(3,.d (.one (.v (.int .i64 ((k:Nat):Int)))))],[]⟩) (fun (k:Nat)=>k≤n∧dg c n=dg c k) (fun (k:Nat)=>k) n (⟨Nat.le_refl _,rfl⟩) (wkr rfl rfl) ?_;rintro k hI;obtain ⟨hkn,hk⟩:k≤n∧dg c n=dg c k:=hI;show AW _ _ _ ⟨_,_,_⟩
 refine au<|au ?_
 by_cases hk0:k=0
 ·refine aA<|mW rfl<|mdF rfl (by omega)<|mW rfl<|mG rfl rfl<|mG rfl rfl<|mG rfl rfl<|mG rfl rfl<|mG rfl rfl<|mG rfl rfl<|mG rfl rfl<|mW rfl<|mT<|cF rfl<|dO<|tE<|tE<|bE<|tN<|au ?_;have hd:k=dg c n:=by rw [hk,hk0];rfl
  exact aA<|mv2 rfl rfl<|mV aj (.d (.one (.row 4 k (aK K c)))) (slR (z:=(k:Int)) (n:=n) rfl rfl rfl rfl rfl rfl (by omega) (by omega))<|mW rfl<|mT<|aO<|rQ rfl (nU (Nat.le_refl _) hd (fun _ _=>rfl))
 ·refine aA<|mW rfl<|mdT rfl (by omega)<|mv3 rfl rfl rfl<|mV aj (.d (.one (.v (.int .i64 ((k-1:Nat):Int))))) (fH ((dS (by omega) (by omega)).trans (by omega)))<|mV aj (.d (.one (.at 4 ((aK K c) (k-1))))) (lu (el:=(aK K c)) (z:=((k-1:Nat):Int)) (n:=n) rfl rfl rfl rfl rfl rfl (by omega) (by omega)) ?_;refine mv2 rfl rfl<|mY (WZ (fG K (Rat.num (c (k-1))))) rfl<|mW rfl<|mT<|aW rfl (fun hc1=>?_) (fun hc1=>?_)
  ·refine aF<|tN<|aJ ?_;have hc0:(c (k-1)).num=0:=of_decide_eq_true hc1;exact aA<|mW rfl<|mV aj (.d (.one (.v (.int .i64 ((k-1:Nat):Int))))) (fH ((dS (by omega) (by omega)).trans (by omega)))<|mW rfl<|ak<|bN<|⟨(k-1),⟨by omega,SX hk hk0 (Rat.num_eq_zero.1 hc0)⟩,by omega,wkr rfl rfl⟩
  ·refine dO<|tE<|tE<|bE<|tN<|au ?_;have hd:k=dg c n:=by rw [hk];exact (sV (Or.inr fun e=>of_decide_eq_false hc1 (by show (c (k-1)).num=0;rw [e];rfl))).symm
   exact aA<|mv2 rfl rfl<|mV aj (.d (.one (.row 4 k (aK K c)))) (slR (z:=(k:Int)) (n:=n) rfl rfl rfl rfl rfl rfl (by omega) (by omega))<|mW rfl<|mT<|aO<|rQ rfl (nU (Nat.le_refl _) hd (fun _ _=>rfl))
theorem DL:aC Tryz.prog 96 [] (.d (.agg (qn 64 0))):=by
 exact aN 2 [.cell 0 49] Tryz.func96 rfl<|cR<|mO rfl<|mT<|cR<|mY Gj rfl<|mZ rfl<|mT<|aO<|rQ rfl (uY (Nat.le_refl _) rfl)
theorem ae3{a:Lf}{K M n:Nat}{c:Nat→Int}(ha:pY a K n c)(hM:max (3*K) 64≤M:=by first|decide|omega)(hn:n≤1000000:=by first|decide|omega)(vI:M≤10000000:=by first|decide|omega):aC Tryz.prog 37 [.one a] (.d (.one (dJ M (dg (rc c) (n)) (rc c)))):=by
 obtain ⟨⟨fa,ha,ea⟩,za⟩:=ha;refine aC.le (dl (DV.l ha) iM) AV.le.rfl<|aN 23 [.tmp 2] Tryz.func37 rfl<|cR<|mW rfl<|mT<|cR<|mW rfl<|mT<|au<|au<|AW.wk (qC 3 3 49 4 (fun _ _=> .v undef) rfl rfl)<|aA<|mv3 rfl rfl rfl<|mT<|aJ<|dQ (ι:=Nat) (fun (i:Nat)=>⟨23,[(0,.d (.one (.row 2 n (o8 K fa)))),(5,.d (.one (.row 2 n (o8 K fa)))),(6,.d (.one (.v (.int .i64 (n:Int))))),(7,.d (.one (.v (.int .i64 ((i:Nat):Int))))),(3,.own 3)],[(3,.row 49 4 i (aK M (rc c)))]⟩) (fun (i:Nat)=>i≤n) (fun (i:Nat)=>n-i) 0 (Nat.zero_le _) (wk rfl ⟨hs rfl,hs rfl,hs rfl,hs rfl,hs rfl,trivial⟩ ⟨dX rfl (iL),trivial⟩ rfl) ?_;rintro i hI;have hi:i≤n:=hI;show AW _ _ _ ⟨_,_,_⟩
 refine cR<|mW rfl<|mT<|au<|aW rfl (fun hc1=>?_) (fun hc1=>?_)
 ·refine aF<|tN<|au<|aJ<|cR<|mv2 rfl rfl<|mT ?_;have hin:i < n:=by have h0:=of_decide_eq_true hc1;omega
  refine aA<|mv3 rfl rfl rfl<|mV aj (.d (.one (.at 2 ((o8 K fa) i)))) (lu (el:=(o8 K fa)) (z:=((i:Nat):Int)) (n:=n) rfl rfl rfl rfl rfl rfl (by omega) (by omega)) ?_;exact mW rfl<|mY (Qk ⟨_,_,fun _ _ _ h=>h,ea i (by omega)⟩ (M:=(3*K)) (by omega) (by omega)) rfl<|mY ER rfl<|mY (oD (fG (3*K) (c i)) (fG 64 1) (M:=(max (3*K) (max 64 64)))) rfl<|mB aj (.d (.one (.row 4 1 (fun i' j'=>((qn (max (3*K) (max 64 64)) (dL (c i) 1))[i'*4+j']?).getD (.v undef))))) rfl<|mA aj (id:=3) (n:=i) (m:=1) (el:=(aK M (rc c))) (el2:=(fun i' j'=>((qn (max (3*K) (max 64 64)) (dL (c i) 1))[i'*4+j']?).getD (.v undef))) rfl rfl rfl (by show (i+1)*64≤140737488355328;omega) (by omega) rfl rfl rfl rfl rfl rfl rfl rfl rfl rfl<|mW rfl<|ak<|bN<|tN<|aA<|mv2 rfl rfl<|ak<|⟨(i+1),by omega,by omega,wk rfl ⟨hs rfl,hs rfl,hs rfl,fM rfl (aG (dG (by omega))),hs rfl,trivial⟩ ⟨dX rfl (BD rfl (Nat.le_refl _) (by omega) (ji _) (fun _ _=>rfl)),trivial⟩ rfl⟩
 ·refine dO<|tE<|tE<|bE<|tN<|au ?_;have hie:n=i:=by have h0:=of_decide_eq_false hc1;omega
  subst hie;exact AW.wk (jf 3 rfl)<|aA<|mW rfl<|mY Bo rfl<|mW rfl<|mT<|aO<|rQ rfl (AV.le.rfl)
theorem aa5{a:Lf}{n:Nat}{c:Nat→Int}(ha:IsI a n c)(hb:∀ i,i < n→-9223372036854775808≤c i∧c i≤9223372036854775807:=by decide)(hn:n≤1000000:=by first|decide|omega):aC Tryz.prog 32 [.one a] (.d (.one (dJ 64 (dg (rc c) (n)) (rc c)))):=by
 obtain ⟨ha,za⟩:=ha;refine aC.le (dl (DV.l ha) iM) AV.le.rfl<|aN 21 [.tmp 2] Tryz.func32 rfl<|cR<|mW rfl<|mT<|cR<|mW rfl<|mT<|au<|au<|AW.wk (qC 3 3 49 4 (fun _ _=> .v undef) rfl rfl)<|aA<|mv3 rfl rfl rfl<|mT<|aJ<|dQ (ι:=Nat) (fun (i:Nat)=>⟨21,[(0,.d (.one (.row 1 n (fun i _=> .v (.int .i64 (c i)))))),(5,.d (.one (.row 1 n (fun i _=> .v (.int .i64 (c i)))))),(6,.d (.one (.v (.int .i64 (n:Int))))),(7,.d (.one (.v (.int .i64 ((i:Nat):Int))))),(3,.own 3)],[(3,.row 49 4 i (aK 64 (rc c)))]⟩) (fun (i:Nat)=>i≤n) (fun (i:Nat)=>n-i) 0 (Nat.zero_le _) (wk rfl ⟨hs rfl,hs rfl,hs rfl,hs rfl,hs rfl,trivial⟩ ⟨dX rfl (iL),trivial⟩ rfl) ?_;rintro i hI;have hi:i≤n:=hI;show AW _ _ _ ⟨_,_,_⟩
 refine cR<|mW rfl<|mT<|au<|aW rfl (fun hc1=>?_) (fun hc1=>?_)
 ·refine aF<|tN<|au<|aJ<|cR<|mv2 rfl rfl<|mT ?_;have hin:i < n:=by have h0:=of_decide_eq_true hc1;omega
  refine aA<|mv3 rfl rfl rfl<|mV aj (.d (.one (.at 1 ((fun i _=> .v (.int .i64 (c i))) i)))) (lu (el:=(fun i _=> .v (.int .i64 (c i)))) (z:=((i:Nat):Int)) (n:=n) rfl rfl rfl rfl rfl rfl (by omega) (by omega)) ?_;exact mW rfl<|mY (Gj (hb i hin).1 (hb i hin).2) rfl<|mB aj (.d (.one (.row 4 1 (fun i' j'=>((qn 64 ((c i:Int):Rat))[i'*4+j']?).getD (.v undef))))) rfl<|mA aj (id:=3) (n:=i) (m:=1) (el:=(aK 64 (rc c))) (el2:=(fun i' j'=>((qn 64 ((c i:Int):Rat))[i'*4+j']?).getD (.v undef))) rfl rfl rfl (by show (i+1)*64≤140737488355328;omega) (by omega) rfl rfl rfl rfl rfl rfl rfl rfl rfl rfl<|mW rfl<|ak<|bN<|tN<|aA<|mv2 rfl rfl<|ak<|⟨(i+1),by omega,by omega,wk rfl ⟨hs rfl,hs rfl,hs rfl,fM rfl (aG (dG (by omega))),hs rfl,trivial⟩ ⟨dX rfl (BD rfl (Nat.le_refl _) (Nat.le_refl _) rfl (fun _ _=>rfl)),trivial⟩ rfl⟩
 ·refine dO<|tE<|tE<|bE<|tN<|au ?_;have hie:n=i:=by have h0:=of_decide_eq_false hc1;omega
  subst hie;exact AW.wk (jf 3 rfl)<|aA<|mW rfl<|mY Bo rfl<|mW rfl<|mT<|aO<|rQ rfl (AV.le.rfl)
theorem ah0{a:Lf}{K M n k:Nat}{c:Nat→Rat}(ha:EN a K n c)(hM:max K 64≤M:=by first|decide|omega):aC Tryz.prog 173 [.one a,.one (.v (.int .i64 (k:Int)))] (.d (.agg (qn M (c k)))):=by
 obtain ⟨ha,za⟩:=ha;refine aC.le (dl (DV.l ha) (dl DV.same iM)) AV.le.rfl<|aN 18 [.cell 4 49] Tryz.func173 rfl<|cR<|mO rfl<|mT<|au<|cR<|mW rfl<|mdF rfl (by omega)<|mv6 rfl rfl rfl rfl rfl rfl<|mT<|aW rfl (fun hc1=>?_) (fun hc1=>?_)
 ·exact cR<|mY (DL) rfl<|mZ rfl<|mT<|aO<|tR<|rQ rfl (uY (by omega) (za k (by have h0:=of_decide_eq_true hc1;omega)).symm)
 ·refine aF<|tN<|au ?_;have hkn:k < n:=by have h0:=of_decide_eq_false hc1;omega
  refine aA<|mv2 rfl rfl<|mV aj (.d (.one (.at 4 ((aK K c) k)))) (lu (el:=(aK K c)) (z:=(k:Int)) (n:=n) rfl rfl rfl rfl rfl rfl (by omega) (by omega)) ?_;exact mW rfl<|mZ rfl<|mT<|aO<|rQ rfl (uY (by omega) rfl)
theorem ahZ{a b:Lf}{K L M n m:Nat}{c d:Nat→Rat}(ha:EN a K n c)(hb:EN b L m d)(hM:max (max K 64+max L 64+1) 64≤M:=by first|decide|omega)(hn:max n m≤1000000:=by first|decide|omega)(vI:M≤10000000:=by first|decide|omega):aC Tryz.prog 163 [.one a,.one b] (.d (.one (dJ M (dg (lM c d) (max n m)) (lM c d)))):=by
 obtain ⟨ha,za⟩:=ha;obtain ⟨hb,zb⟩:=hb;refine aC.le (dl (DV.l ha) (dl (DV.l hb) iM)) AV.le.rfl<|aN 28 [.tmp 4] Tryz.func163 rfl<|cR<|mW rfl<|mT<|cR<|mW rfl<|mT<|au<|au<|AW.wk (qC 5 5 49 4 (fun _ _=> .v undef) rfl rfl)<|aA<|mW rfl<|mT<|aJ<|dQ (ι:=Nat) (fun (i:Nat)=>⟨28,[(0,.d (.one (.row 4 n (aK K c)))),(1,.d (.one (.row 4 m (aK L d)))),(6,.d (.one (.v (.int .i64 ((i:Nat):Int))))),(5,.own 5)],[(5,.row 49 4 i (aK M (lM c d)))]⟩) (fun (i:Nat)=>i≤(max n m)) (fun (i:Nat)=>(max n m)-i) 0 (Nat.zero_le _) (wk rfl ⟨hs rfl,hs rfl,hs rfl,hs rfl,trivial⟩ ⟨dX rfl (iL),trivial⟩ rfl) ?_;rintro i hI;have hi:i≤(max n m):=hI;show AW _ _ _ ⟨_,_,_⟩
 refine au<|cR<|mv5 rfl rfl rfl rfl rfl<|mV aj (.d (.one (.v (.int .i64 ((max n m:Nat):Int))))) (fH (Ze n m))<|mW rfl<|mT<|aW rfl (fun hc1=>?_) (fun hc1=>?_)
 ·refine aF<|tN<|au<|aJ ?_;have hin:i < (max n m):=by have h0:=of_decide_eq_true hc1;omega
  exact aA<|mv3 rfl rfl rfl<|mY (ah0 (wZ (K:=K) (c:=c) za) (M:=(max K 64))) rfl<|mv2 rfl rfl<|mY (ah0 (wZ (K:=L) (c:=d) zb) (M:=(max L 64))) rfl<|mY (Ky (lq (max K 64) (c i)) (lq (max L 64) (d i)) (M:=(max ((max K 64)+(max L 64)+1) 64))) rfl<|mB aj (.d (.one (.row 4 1 (fun i' j'=>((qn (max ((max K 64)+(max L 64)+1) 64) ((c i)+(d i)))[i'*4+j']?).getD (.v undef))))) rfl<|mA aj (id:=5) (n:=i) (m:=1) (el:=(aK M (lM c d))) (el2:=(fun i' j'=>((qn (max ((max K 64)+(max L 64)+1) 64) ((c i)+(d i)))[i'*4+j']?).getD (.v undef))) rfl rfl rfl (by show (i+1)*64≤140737488355328;omega) (by omega) rfl rfl rfl rfl rfl rfl rfl rfl rfl rfl<|mW rfl<|ak<|bN<|tN<|aA<|mv3 rfl rfl rfl<|ak<|⟨(i+1),by omega,by omega,wk rfl ⟨hs rfl,hs rfl,fM rfl (aG (dG (by omega))),hs rfl,trivial⟩ ⟨dX rfl (BD rfl (Nat.le_refl _) (by omega) rfl (fun _ _=>rfl)),trivial⟩ rfl⟩
 ·refine dO<|tE<|tE<|bE<|tN<|au ?_;have hie:(max n m)=i:=by have h0:=of_decide_eq_false hc1;omega
  subst hie;exact AW.wk (jf 5 rfl)<|aA<|mW rfl<|mY Bo rfl<|mW rfl<|mT<|aO<|rQ rfl (AV.le.rfl)
theorem Fj{a:Lf}{b:List Lf}{K L M n:Nat}{c:Nat→Rat}{q:Rat}(ha:EN a K n c)(hq:P9 b L q)(hM:max (K+L+1) 64≤M:=by first|decide|omega)(hn:n≤1000000:=by first|decide|omega)(vI:M≤10000000:=by first|decide|omega):aC Tryz.prog 109 [.one a,.agg b] (.d (.one (dJ M (dg (fO c q) (n)) (fO c q)))):=by
 obtain ⟨ha,za⟩:=ha;refine aC.le (dl (DV.l ha) (dl (DV.g hq) iM)) AV.le.rfl<|aN 24 [.tmp 4] Tryz.func109 rfl<|cR<|mO rfl<|mW rfl<|mT<|cR<|mW rfl<|mT<|au<|au<|AW.wk (qC 5 5 49 4 (fun _ _=> .v undef) rfl rfl)<|aA<|mv3 rfl rfl rfl<|mT<|aJ<|dQ (ι:=Nat) (fun (i:Nat)=>⟨24,[(0,.d (.one (.row 4 n (aK K c)))),(7,.d (.one (.row 4 n (aK K c)))),(8,.d (.one (.v (.int .i64 (n:Int))))),(3,.ptr 3 0),(9,.d (.one (.v (.int .i64 ((i:Nat):Int))))),(5,.own 5)],[(3,.box 49 (qn L q)),(5,.row 49 4 i (aK M (fO c q)))]⟩) (fun (i:Nat)=>i≤n) (fun (i:Nat)=>n-i) 0 (Nat.zero_le _) (wk rfl ⟨hs rfl,hs rfl,hs rfl,hs rfl,hs rfl,hs rfl,trivial⟩ ⟨ho rfl,dX rfl (iL),trivial⟩ rfl) ?_;rintro i hI;have hi:i≤n:=hI;show AW _ _ _ ⟨_,_,_⟩
 refine cR<|mW rfl<|mT<|au<|aW rfl (fun hc1=>?_) (fun hc1=>?_)
 ·refine aF<|tN<|au<|aJ<|cR<|mv2 rfl rfl<|mT ?_;have hin:i < n:=by have h0:=of_decide_eq_true hc1;omega
  refine cDk 8<|.cons (aB.V _ rfl)<|.cons (aB.V _ rfl)<|.cons (aB.V _ rfl)<|.cons (aB.V (.d (.one (.at 4 ((aK K c) i)))) (lu (el:=(aK K c)) (z:=((i:Nat):Int)) (n:=n) rfl rfl rfl rfl rfl rfl (by omega) (by omega))) ?_;exact oV rfl<|oV rfl<|oC (Kz (lq K (c i)) (lq L q) (M:=(max (K+L+1) 64))) rfl<|.cons (aB.B _ rfl)<|.nil<|mA aj (id:=5) (n:=i) (m:=1) (el:=(aK M (fO c q))) (el2:=(fun i' j'=>((qn (max (K+L+1) 64) ((c i)*q))[i'*4+j']?).getD (.v undef))) rfl rfl rfl (by show (i+1)*64≤140737488355328;omega) (by omega) rfl rfl rfl rfl rfl rfl rfl rfl rfl rfl<|mW rfl<|ak<|bN<|tN<|aA<|mv2 rfl rfl<|ak<|⟨(i+1),by omega,by omega,wk rfl ⟨hs rfl,hs rfl,hs rfl,hs rfl,fM rfl (aG (dG (by omega))),hs rfl,trivial⟩ ⟨ho rfl,dX rfl (BD rfl (Nat.le_refl _) (by omega) rfl (fun _ _=>rfl)),trivial⟩ rfl⟩
 ·refine dO<|tE<|tE<|bE<|tN<|au ?_;have hie:n=i:=by have h0:=of_decide_eq_false hc1;omega
  subst hie;exact AW.wk (jf 5 rfl)<|aA<|mW rfl<|mY Bo rfl<|mW rfl<|mT<|aO<|rQ rfl (AV.le.rfl)
def upd(c:Nat→Int)(i:Nat):Nat→Int:=fun p=>if p < i then c p else 0
theorem IK{c:Nat→Int}{i:Nat}:c i=upd c (i+1) i:=(if_pos (Nat.lt_succ_self i)).symm
theorem RN{c:Nat→Int}{i p:Nat}(h:p≠i):upd c i p=upd c (i+1) p:=by
 unfold upd
 by_cases h1:p < i
 ·rw [if_pos h1,if_pos (by omega)]
 ·rw [if_neg h1,if_neg (by omega)]
theorem afG{n k:Nat}{f:Nat→Bool×List Nat}(h:k < n):fx n f k=f k:=if_pos h
theorem afF{n k:Nat}{f:Nat→Bool×List Nat}(h:¬ k < n):fx n f k=(false,[]):=if_neg h
theorem agy{K:Nat}:AV.le (.d (.agg [.v (.bool false),.v (.slice none 0 0)])) (.d (.agg [.v (.bool false),lr K []])):=nT fun B w cs h=>match cs,h with | [_,_],⟨h1,h2,h3⟩=>⟨h1,Rh K (fun _=>none) B w _ h2,h3⟩
theorem aa0{K n k:Nat}{f:Nat→Bool×List Nat}:aC Tryz.prog 180 [.one (vT K n f),.one (.v (.int .i64 (k:Int)))] (.d (.agg [.v (.bool (fx n f k).1),lr K (fx n f k).2])):=by
 refine aN 14 [.cell 4 36] Tryz.func180 rfl<|cR<|mO rfl<|mT<|au<|cR<|mv4 rfl rfl rfl rfl<|mT<|aW rfl (fun hc1=>?_) (fun hc1=>?_)
 ·refine au ?_;have hkn:k < n:=by have h0:=of_decide_eq_true hc1;omega
  refine aA<|mv2 rfl rfl<|mV aj (.d (.one (.at 2 ((o8 K f) k)))) (lu (el:=(o8 K f)) (z:=(k:Int)) (n:=n) rfl rfl rfl rfl rfl rfl (by omega) (by omega)) ?_;exact mW rfl<|mZ rfl<|mT<|aO<|tR<|rQ rfl (by rw [afG (by have h0:=of_decide_eq_true hc1;omega)];exact AV.le.rfl)
 ·exact aF<|tN<|cR<|mW rfl<|mZ rfl<|mT<|aO<|rQ rfl (by rw [afF (by have h0:=of_decide_eq_false hc1;omega)];exact agy)
theorem Nz{f:FuncId}{nc:Nat}{caps:Nat→Lf}{n K:Nat}{c:Nat→Int}(hf:∀ i,i < n→aC Tryz.prog f (.one (.v (.int .i64 (i:Int))) ::NM caps 0 nc) (.d (.agg (zn K (c i)))))(hn:n≤1000000:=by first|decide|omega):aC Tryz.prog 149 [.one (.v (.int .i64 (n:Int))),.one (.fn f nc caps)] (.d (.one (gQ K (dg c n) c))):=by
 refine aN 23 [.tmp 4] Tryz.func149 rfl<|cR<|mW rfl<|mT<|cR<|mW rfl<|mN aj (.row 36 2 n (fun _ j=> .v ((([Value.bool false,Value.slice none 0 0]:List Value)[j]?).getD undef))) (mkO (zl:=(n:Int)) (zc:=(n:Int)) (Xj:=32) rfl rfl rfl rfl rfl (by omega) (by omega) rfl rfl rfl (by omega) (by omega) rfl) rfl rfl<|mW rfl<|mT<|au<|cR<|mv3 rfl rfl rfl<|mT<|aJ<|dQ (ι:=Nat) (fun (i:Nat)=>⟨23,[(1,.d (.one (.fn f nc caps))),(10,.d (.one (.v (.int .i64 (n:Int))))),(11,.d (.one (.v (.int .i64 ((i:Nat):Int))))),(5,.own 8)],[(8,.row 36 2 n (bW K (upd c i)))]⟩) (fun (i:Nat)=>i≤n) (fun (i:Nat)=>n-i) 0 (Nat.zero_le _) (wk rfl ⟨hs rfl,hs rfl,hs rfl,hs rfl,trivial⟩ ⟨dX rfl (uZ (fun i _=>if_neg (Nat.not_lt_zero _))),trivial⟩ rfl) ?_;rintro i hI;have hi:i≤n:=hI;show AW _ _ _ ⟨_,_,_⟩
 refine cR<|mW rfl<|mT<|au<|aW rfl (fun hc1=>?_) (fun hc1=>?_)
 ·refine aF<|tN<|au<|aJ<|cR<|mv2 rfl rfl<|mT ?_;have hin:i < n:=by have h0:=of_decide_eq_true hc1;omega
  exact aA<|mv4 rfl rfl rfl rfl<|mC (hf i hin) rfl rfl rfl<|mV aj (.dU 8 2 i 0) (qy (z:=((i:Nat):Int)) (n:=n) rfl rfl rfl rfl rfl rfl rfl (by omega) (by omega))<|mZ rfl<|ak<|bN<|tN<|aA<|mv2 rfl rfl<|ak<|⟨(i+1),by omega,by omega,wk rfl ⟨hs rfl,hs rfl,fM rfl (aG (dG (by omega))),hs rfl,trivial⟩ ⟨dX rfl (VI (Nat.le_refl _) (Nat.le_refl _) IK (fun p _ hp=>RN hp)),trivial⟩ rfl⟩
 ·refine dO<|tE<|tE<|bE<|tN<|au ?_;have hie:n=i:=by have h0:=of_decide_eq_false hc1;omega
  subst hie;exact AW.wk (jf 8 rfl)<|iJ 5 (.d (.one (.row 2 n (bW K c)))) rfl (fJ (CY (Nat.le_refl _) (fun i hi=>if_pos hi)))<|aA<|mW rfl<|mY WJ rfl<|mW rfl<|mT<|aO<|rQ rfl (AV.le.rfl)
theorem aeV{K L M n m k:Nat}{fa fb:Nat→Bool×List Nat}{c d:Nat→Int}(ea:∀ i,i < n→Yc fa i=c i)(za:∀ i,n≤i→c i=0)(eb:∀ i,i < m→Yc fb i=d i)(zb:∀ i,m≤i→d i=0)(hM:max K L+1≤M)(vI:M≤1000000000):aC Tryz.prog 179 [.one (.v (.int .i64 (k:Int))),.one (.at 1 (fun q=>(([.row 2 n (o8 K fa)]:List Lf)[0+q]?).getD (.v undef))),.one (.at 1 (fun q=>(([.row 2 m (o8 L fb)]:List Lf)[0+q]?).getD (.v undef)))] (.d (.agg (zn M (nH c d k)))):=by
 exact aN 12 [.cell 4 36] Tryz.func179 rfl<|cR<|mO rfl<|mT<|au<|cDk 7<|oV rfl<|.cons (aB.V _ rfl)<|oC aa0 rfl<|oV rfl<|.cons (aB.V _ rfl)<|oC aa0 rfl<|oC (WB ⟨_,_,fun _ _ _ h=>h,abN ea za⟩ ⟨_,_,fun _ _ _ h=>h,abN eb zb⟩ (M:=(max K L+1)) (by omega) (by omega) (by omega)) rfl<|.nil<|mZ rfl<|mT<|aO<|rQ rfl (jC hM rfl)
theorem adw{a b:Lf}{K L M n m:Nat}{c d:Nat→Int}(ha:pY a K n c)(hb:pY b L m d)(hM:max K L+1≤M:=by first|decide|omega)(hn:max n m≤1000000:=by first|decide|omega)(vI:M≤1000000000:=by first|decide|omega):aC Tryz.prog 168 [.one a,.one b] (.d (.one (gQ M (dg (nH c d) (max n m)) (nH c d)))):=by
 obtain ⟨⟨fa,ha,ea⟩,za⟩:=ha;obtain ⟨⟨fb,hb,eb⟩,zb⟩:=hb;exact aC.le (dl (DV.l ha) (dl (DV.l hb) iM)) AV.le.rfl<|aN 12 [.tmp 4] Tryz.func168 rfl<|cR<|mO rfl<|mO rfl<|mW rfl<|mT<|au<|AW.wk (EL 2 rfl)<|AW.wk (EL 3 rfl)<|aA<|mv4 rfl rfl rfl rfl<|mV aj (.d (.one (.v (.int .i64 ((max n m:Nat):Int))))) (fH (Ze n m))<|mW rfl<|mY (Nz (K:=M) (c:=(nH c d)) (fun i hi=>aeV ea za eb zb hM vI)) rfl<|mW rfl<|mT<|aO<|rQ rfl (AV.le.rfl)
theorem aeZ{K L M n m k:Nat}{fa fb:Nat→Bool×List Nat}{c d:Nat→Int}(ea:∀ i,i < n→Yc fa i=c i)(za:∀ i,n≤i→c i=0)(eb:∀ i,i < m→Yc fb i=d i)(zb:∀ i,m≤i→d i=0)(hM:max K L+1≤M)(vI:M≤1000000000):aC Tryz.prog 182 [.one (.v (.int .i64 (k:Int))),.one (.at 1 (fun q=>(([.row 2 n (o8 K fa)]:List Lf)[0+q]?).getD (.v undef))),.one (.at 1 (fun q=>(([.row 2 m (o8 L fb)]:List Lf)[0+q]?).getD (.v undef)))] (.d (.agg (zn M (oK c d k)))):=by
 exact aN 12 [.cell 4 36] Tryz.func182 rfl<|cR<|mO rfl<|mT<|au<|cDk 7<|oV rfl<|.cons (aB.V _ rfl)<|oC aa0 rfl<|oV rfl<|.cons (aB.V _ rfl)<|oC aa0 rfl<|oC (ah8 ⟨_,_,fun _ _ _ h=>h,abN ea za⟩ ⟨_,_,fun _ _ _ h=>h,abN eb zb⟩ (M:=(max K L+1)) (by omega) (by omega) (by omega)) rfl<|.nil<|mZ rfl<|mT<|aO<|rQ rfl (jC hM rfl)
theorem ady{a b:Lf}{K L M n m:Nat}{c d:Nat→Int}(ha:pY a K n c)(hb:pY b L m d)(hM:max K L+1≤M:=by first|decide|omega)(hn:max n m≤1000000:=by first|decide|omega)(vI:M≤1000000000:=by first|decide|omega):aC Tryz.prog 170 [.one a,.one b] (.d (.one (gQ M (dg (oK c d) (max n m)) (oK c d)))):=by
 obtain ⟨⟨fa,ha,ea⟩,za⟩:=ha;obtain ⟨⟨fb,hb,eb⟩,zb⟩:=hb;exact aC.le (dl (DV.l ha) (dl (DV.l hb) iM)) AV.le.rfl<|aN 12 [.tmp 4] Tryz.func170 rfl<|cR<|mO rfl<|mO rfl<|mW rfl<|mT<|au<|AW.wk (EL 2 rfl)<|AW.wk (EL 3 rfl)<|aA<|mv4 rfl rfl rfl rfl<|mV aj (.d (.one (.v (.int .i64 ((max n m:Nat):Int))))) (fH (Ze n m))<|mW rfl<|mY (Nz (K:=M) (c:=(oK c d)) (fun i hi=>aeZ ea za eb zb hM vI)) rfl<|mW rfl<|mT<|aO<|rQ rfl (AV.le.rfl)
theorem aeX{K n k:Nat}{fa:Nat→Bool×List Nat}{c:Nat→Int}(ea:∀ i,i < n→Yc fa i=c i)(hk:k < n)(hK:K≤1000000000):aC Tryz.prog 172 [.one (.v (.int .i64 (k:Int))),.one (.at 1 (fun q=>(([.row 2 n (o8 K fa)]:List Lf)[0+q]?).getD (.v undef)))] (.d (.agg (zn K (gV c k)))):=by
 refine aN 9 [.cell 3 36] Tryz.func172 rfl<|cR<|mO rfl<|mT<|cR<|mv2 rfl rfl<|mV aj (.d (.one (.at 2 ((o8 K fa) k)))) (lu (el:=(o8 K fa)) (z:=(k:Int)) (n:=n) rfl rfl rfl rfl rfl rfl (by omega) (by omega)) ?_;exact mW rfl<|mY (aaZ ⟨_,_,fun _ _ _ h=>h,ea k (by omega)⟩ (by omega)) rfl<|mZ rfl<|mT<|aO<|rQ rfl (jC (Nat.le_refl _) rfl)
theorem ahX{a:Lf}{K n:Nat}{c:Nat→Int}(ha:pY a K n c)(hn:n≤1000000:=by first|decide|omega)(hK:K≤1000000000:=by first|decide|omega):aC Tryz.prog 159 [.one a] (.d (.one (gQ K (dg (gV c) (n)) (gV c)))):=by
 obtain ⟨⟨fa,ha,ea⟩,za⟩:=ha;exact aC.le (dl (DV.l ha) iM) AV.le.rfl<|aN 7 [.tmp 2] Tryz.func159 rfl<|cR<|mO rfl<|mW rfl<|mT<|au<|AW.wk (EL 1 rfl)<|aA<|mv3 rfl rfl rfl<|mY (Nz (K:=K) (c:=(gV c)) (fun i hi=>aeX ea hi hK)) rfl<|mW rfl<|mT<|aO<|rQ rfl (AV.le.rfl)
theorem WL{K n k:Nat}{fa:Nat→Bool×List Nat}{c:Nat→Int}(ea:∀ i,i < n→Yc fa i=c i){L M:Nat}{s:Bool}{xs:List Nat}{y:Int}(hy:zv s (val xs)=y)(hk:k < n)(hM:K+L≤M)(vI:M≤1000000000):aC Tryz.prog 181 [.one (.v (.int .i64 (k:Int))),.one (.at 1 (fun q=>(([.row 2 n (o8 K fa)]:List Lf)[0+q]?).getD (.v undef))),.one (.at 2 (fun q=>(([.v (.bool s),lr L xs]:List Lf)[0+q]?).getD (.v undef)))] (.d (.agg (zn M (iK c y k)))):=by
 refine aN 11 [.cell 4 36] Tryz.func181 rfl<|cR<|mO rfl<|mT<|au<|cDk 6<|oV rfl<|.cons (aB.V _ rfl)<|.cons (aB.V (.d (.one (.at 2 ((o8 K fa) k)))) (lu (el:=(o8 K fa)) (z:=(k:Int)) (n:=n) rfl rfl rfl rfl rfl rfl (by omega) (by omega))) ?_;exact oV rfl<|oV rfl<|oC (I7 ⟨_,_,fun _ _ _ h=>h,ea k (by omega)⟩ ⟨_,_,fun _ _ _ h=>h,hy⟩ (M:=(K+L)) (by omega) (by omega) (by omega)) rfl<|.nil<|mZ rfl<|mT<|aO<|rQ rfl (jC hM rfl)
theorem Fe{a:Lf}{b:List Lf}{K L M n:Nat}{c:Nat→Int}{y:Int}(ha:pY a K n c)(hb:EP b L y)(hM:K+L≤M:=by first|decide|omega)(hn:n≤1000000:=by first|decide|omega)(vI:M≤1000000000:=by first|decide|omega):aC Tryz.prog 169 [.one a,.agg b] (.d (.one (gQ M (dg (iK c y) (n)) (iK c y)))):=by
 obtain ⟨⟨fa,ha,ea⟩,za⟩:=ha;obtain ⟨s,xs,hb,hy⟩:=hb;exact aC.le (dl (DV.l ha) (dl (DV.z hb) iM)) AV.le.rfl<|aN 9 [.tmp 4] Tryz.func169 rfl<|cR<|mO rfl<|mO rfl<|mW rfl<|mT<|au<|AW.wk (EL 2 rfl)<|AW.wk (EL 3 rfl)<|aA<|mv3 rfl rfl rfl<|mY (Nz (K:=M) (c:=(iK c y)) (fun i hi=>WL ea hy hi hM vI)) rfl<|mW rfl<|mT<|aO<|rQ rfl (AV.le.rfl)
theorem aeW{K n k:Nat}{fa:Nat→Bool×List Nat}{c:Nat→Int}(ea:∀ i,i < n→Yc fa i=c i){M:Nat}(hk:k+1 < n)(hn:n≤1000000)(hM:K+2≤M)(vI:M≤1000000000):aC Tryz.prog 150 [.one (.v (.int .i64 (k:Int))),.one (.at 1 (fun q=>(([.row 2 n (o8 K fa)]:List Lf)[0+q]?).getD (.v undef)))] (.d (.agg (zn M (bM c k)))):=by
 refine aN 13 [.cell 3 36] Tryz.func150 rfl<|cR<|mO rfl<|mT<|au<|cDk 9<|oV rfl<|.cons (aB.V _ rfl)<|.cons (aB.V (.d (.one (.v (.int .i64 ((k+1:Nat):Int))))) (fH (dG (by omega))))<|.cons (aB.V (.d (.one (.at 2 ((o8 K fa) (k+1))))) (lu (el:=(o8 K fa)) (z:=((k+1:Nat):Int)) (n:=n) rfl rfl rfl rfl rfl rfl (by omega) (by omega))) ?_;exact oV rfl<|.cons (aB.V _ rfl)<|.cons (aB.V (.d (.one (.v (.int .i64 ((k+1:Nat):Int))))) (fH (dG (by omega))))<|oC aOf rfl<|oC (I7 ⟨_,_,fun _ _ _ h=>h,ea (k+1) (by omega)⟩ (pR 2 ((k+1:Nat):Int)) (M:=(K+2)) (by omega) (by omega) (by decide)) rfl<|.nil<|mZ rfl<|mT<|aO<|rQ rfl (jC hM rfl)
theorem ahW{a:Lf}{K M n:Nat}{c:Nat→Int}(ha:pY a K n c)(hM:K+2≤M:=by first|decide|omega)(hn:n≤1000000:=by first|decide|omega)(vI:M≤1000000000:=by first|decide|omega):aC Tryz.prog 127 [.one a] (.d (.one (gQ M (dg (bM c) (n-1)) (bM c)))):=by
 obtain ⟨⟨fa,ha,ea⟩,za⟩:=ha;refine aC.le (dl (DV.l ha) iM) AV.le.rfl<|aN 9 [.tmp 2] Tryz.func127 rfl<|cR<|mO rfl<|mW rfl<|mT<|au<|AW.wk (EL 1 rfl)<|aA<|mv2 rfl rfl<|mV aj (.d (.one (.v (.int .i64 ((n:Int)-1))))) (fH (dS (by omega) (by omega))) ?_;refine mV aj (.d (.one (.v (.int .i64 ((n-1:Nat):Int))))) (fH (by rw [if_pos rfl];split <;> omega)) ?_;exact mW rfl<|mY (Nz (K:=M) (c:=(bM c)) (fun i hi=>aeW ea (by omega) hn hM vI)) rfl<|mW rfl<|mT<|aO<|rQ rfl (AV.le.rfl)
theorem tY{a:Lf}{K n:Nat}{c:Nat→Int}(ha:pY a K n c)(hn:n≤1000000:=by first|decide|omega)(hK:K≤1000000000:=by first|decide|omega):aC Tryz.prog 99 [.one a] (.d (.one (gQ K (dg c (n)) c))):=by
 obtain ⟨⟨fa,ha,ea⟩,za⟩:=ha;refine aC.le (dl (DV.l ha) iM) AV.le.rfl<|aN 24 [.tmp 2] Tryz.func99 rfl<|cR<|mW rfl<|mT<|cR<|mv2 rfl rfl<|mN aj (.row 36 2 n (fun _ j=> .v ((([Value.bool false,Value.slice none 0 0]:List Value)[j]?).getD undef))) (mkO (zl:=(n:Int)) (zc:=(n:Int)) (Xj:=32) rfl rfl rfl rfl rfl (by omega) (by omega) rfl rfl rfl (by omega) (by omega) rfl) rfl rfl<|mW rfl<|mT<|au<|cR<|mv3 rfl rfl rfl<|mT<|aJ<|dQ (ι:=Nat) (fun (i:Nat)=>⟨24,[(9,.d (.one (.row 2 n (o8 K fa)))),(10,.d (.one (.v (.int .i64 (n:Int))))),(11,.d (.one (.v (.int .i64 ((i:Nat):Int))))),(3,.own 8)],[(8,.row 36 2 n (bW K (upd c i)))]⟩) (fun (i:Nat)=>i≤n) (fun (i:Nat)=>n-i) 0 (Nat.zero_le _) (wk rfl ⟨hs rfl,hs rfl,hs rfl,hs rfl,trivial⟩ ⟨dX rfl (uZ (fun i _=>if_neg (Nat.not_lt_zero _))),trivial⟩ rfl) ?_;rintro i hI;have hi:i≤n:=hI;show AW _ _ _ ⟨_,_,_⟩
 refine cR<|mW rfl<|mT<|au<|aW rfl (fun hc1=>?_) (fun hc1=>?_)
 ·refine aF<|tN<|au<|aJ<|au ?_;have hin:i < n:=by have h0:=of_decide_eq_true hc1;omega
  refine aA<|mW rfl<|mV aj (.d (.one (.at 2 ((o8 K fa) i)))) (lu (el:=(o8 K fa)) (z:=((i:Nat):Int)) (n:=n) rfl rfl rfl rfl rfl rfl (by omega) (by omega)) ?_;exact mW rfl<|mO rfl<|mW rfl<|mZ rfl<|mT<|aA<|mv3 rfl rfl rfl<|mY (RY ⟨_,_,fun _ _ _ h=>h,ea i (by omega)⟩ (by omega)) rfl<|mV aj (.dU 8 2 i 0) (qy (z:=((i:Nat):Int)) (n:=n) rfl rfl rfl rfl rfl rfl rfl (by omega) (by omega))<|mZ rfl<|ak<|bN<|tN<|aA<|mv2 rfl rfl<|ak<|⟨(i+1),by omega,by omega,wk rfl ⟨hs rfl,hs rfl,fM rfl (aG (dG (by omega))),hs rfl,trivial⟩ ⟨dX rfl (VI (Nat.le_refl _) (Nat.le_refl _) IK (fun p _ hp=>RN hp)),trivial⟩ rfl⟩
 ·refine dO<|tE<|tE<|bE<|tN<|au ?_;have hie:n=i:=by have h0:=of_decide_eq_false hc1;omega
  subst hie;exact AW.wk (jf 8 rfl)<|iJ 3 (.d (.one (.row 2 n (bW K c)))) rfl (fJ (CY (Nat.le_refl _) (fun i hi=>if_pos hi)))<|aA<|mW rfl<|mY WJ rfl<|mW rfl<|mT<|aO<|rQ rfl (AV.le.rfl)
theorem adx{a b:Lf}{K L M n m D:Nat}{c d:Nat→Int}(ha:pY a K n c)(hb:pY b L m d)(hD:n≤D:=by omega)(hm:m≤1000:=by omega)(hM:K+L+1+D*1000≤M:=by first|decide|omega)(hDD:D≤1000:=by decide)(vI:M≤1000000000:=by first|decide|omega):aC Tryz.prog 171 [.one a,.one b] (.d (.one (gQ M (dg (aX c d) (n+m)) (aX c d)))):=by
 obtain ⟨⟨fa,ha,ea⟩,za⟩:=ha;obtain ⟨⟨fb,hb,eb⟩,zb⟩:=hb;refine aC.le (dl (DV.l ha) (dl (DV.l hb) iM)) AV.le.rfl<|aN 62 [.tmp 4] Tryz.func171 rfl<|cR<|mW rfl<|mT<|cR<|mW rfl<|mY (tY (⟨⟨fa,fun _ _ _ h=>h,ea⟩,za⟩:pY (vT K n fa) K n c)) rfl<|mW rfl<|mY (tY (⟨⟨fb,fun _ _ _ h=>h,eb⟩,zb⟩:pY (vT L m fb) L m d)) rfl<|mv2 rfl rfl<|mT<|au<|au ?_;have hla:=qQ c n;have hlb:=qQ d m
 by_cases h0a:(dg c n)=0
 ·exact aA<|mv2 rfl rfl<|mbT rfl (by rw [h0a];rfl)<|mW rfl<|mG rfl rfl<|mG rfl rfl<|mG rfl rfl<|mW rfl<|mT<|cT rfl<|cR<|mW rfl<|mT<|aO<|tR<|rQ rfl (Eb (vZ (vX (Gt za h0a)) _))
 ·by_cases h0b:(dg d m)=0
  ·exact aA<|mv2 rfl rfl<|mbF rfl (beq_eq_false_iff_ne.2 fun e=>h0a (by omega))<|mv3 rfl rfl rfl<|mbT rfl (by rw [h0b];rfl)<|mW rfl<|mT<|cT rfl<|cR<|mW rfl<|mT<|aO<|tR<|rQ rfl (Eb (vZ (abv (Gt zb h0b)) _))
  ·refine aA<|mv2 rfl rfl<|mbF rfl (beq_eq_false_iff_ne.2 fun e=>h0a (by omega))<|mv3 rfl rfl rfl<|mbF rfl (beq_eq_false_iff_ne.2 fun e=>h0b (by omega))<|mW rfl<|mT<|cFs rfl<|cR<|mv4 rfl rfl rfl rfl<|mV aj (.d (.one (.v (.int .i64 ((dg c n+dg d m:Nat):Int))))) (fH ((dS (by omega) (by omega)).trans (by omega)))<|mV aj (.d (.one (.v (.int .i64 ((dg c n+dg d m-1:Nat):Int))))) (fH ((dS (by omega) (by omega)).trans (by omega)))<|mN aj (.row 36 2 (dg c n+dg d m-1) (fun _ j=> .v ((([Value.bool false,Value.slice none 0 0]:List Value)[j]?).getD undef))) (mkO (zl:=((dg c n+dg d m-1:Nat):Int)) (zc:=((dg c n+dg d m-1:Nat):Int)) (Xj:=32) rfl rfl rfl rfl rfl (by omega) (by omega) rfl rfl rfl (by omega) (by omega) rfl) rfl rfl<|mW rfl<|mT<|au<|cR<|mv3 rfl rfl rfl<|mT<|aJ<|dQ (ι:=Nat) (fun (i:Nat)=>⟨62,[(1,.d (.one (.row 2 (dg d m) (bW L d)))),(5,.own 28),(29,.d (.one (.row 2 (dg c n) (bW K c)))),(30,.d (.one (.v (.int .i64 ((dg c n:Nat):Int))))),(31,.d (.one (.v (.int .i64 ((i:Nat):Int)))))],[(28,.row 36 2 (dg c n+dg d m-1) (bW (K+L+1+i*1000) (cv c d i)))]⟩) (fun (i:Nat)=>i≤dg c n) (fun (i:Nat)=>dg c n-i) 0 (Nat.zero_le _) (wk rfl ⟨hs rfl,hs rfl,hs rfl,hs rfl,hs rfl,trivial⟩ ⟨dX rfl (uZ (fun _ _=>rfl)),trivial⟩ rfl) ?_;rintro i hI;have hi:i≤dg c n:=hI;show AW _ _ _ ⟨_,_,_⟩
   refine cR<|mW rfl<|mT<|au<|aW rfl (fun hc1=>?_) (fun hc1=>?_)
   ·refine aF<|tN<|au<|aJ<|au ?_;have hia:i < dg c n:=by have h0:=of_decide_eq_true hc1;omega
    refine aA<|mW rfl<|mV aj (.d (.one (.at 2 ((bW K c) i)))) (lu (el:=(bW K c)) (z:=((i:Nat):Int)) (n:=(dg c n)) rfl rfl rfl rfl rfl rfl (by omega) (by omega)) ?_;refine mW rfl<|mO rfl<|mW rfl<|mZ rfl<|mT<|cR<|mv3 rfl rfl rfl<|mT<|aJ<|dQ (ι:=Nat) (fun (k:Nat)=>⟨62,[(1,.d (.one (.row 2 (dg d m) (bW L d)))),(5,.own 28),(29,.d (.one (.row 2 (dg c n) (bW K c)))),(30,.d (.one (.v (.int .i64 ((dg c n:Nat):Int))))),(31,.d (.one (.v (.int .i64 ((i:Nat):Int))))),(6,.d (.one (.v (.int .i64 ((i:Nat):Int))))),(7,.ptr 7 0),(36,.d (.one (.row 2 (dg d m) (bW L d)))),(37,.d (.one (.v (.int .i64 ((dg d m:Nat):Int))))),(38,.d (.one (.v (.int .i64 ((k:Nat):Int)))))],[(7,.box 36 (zn K (c i))),(28,.row 36 2 (dg c n+dg d m-1) (bW (K+L+1+i*1000+k) (QC c d i k)))]⟩) (fun (k:Nat)=>k≤dg d m) (fun (k:Nat)=>dg d m-k) 0 (Nat.zero_le _) (wk rfl ⟨hs rfl,hs rfl,hs rfl,hs rfl,hs rfl,hs rfl,hs rfl,hs rfl,hs rfl,hs rfl,trivial⟩ ⟨ho rfl,dX rfl (OC (by omega) (fun j _=>XK.symm)),trivial⟩ rfl) ?_;rintro k hI;have hk:k≤dg d m:=hI;show AW _ _ _ ⟨_,_,_⟩
    refine cR<|mW rfl<|mT<|au<|aW rfl (fun hc2=>?_) (fun hc2=>?_)
    ·refine aF<|tN<|au<|aJ<|au ?_;have hkb:k < dg d m:=by have h0:=of_decide_eq_true hc2;omega
     refine aA<|mW rfl<|mV aj (.d (.one (.at 2 ((bW L d) k)))) (lu (el:=(bW L d)) (z:=((k:Nat):Int)) (n:=(dg d m)) rfl rfl rfl rfl rfl rfl (by omega) (by omega)) ?_;exact mW rfl<|mO rfl<|mW rfl<|mZ rfl<|mT<|cDk 15<|.cons (aB.V _ rfl)<|.cons (aB.V _ rfl)<|.cons (aB.V _ rfl)<|.cons (aB.V (.d (.one (.v (.int .i64 ((i+k:Nat):Int))))) (fH ((dS (by omega) (by omega)).trans (by omega))))<|.cons (aB.V _ rfl)<|.cons (aB.V _ rfl)<|.cons (aB.V _ rfl)<|.cons (aB.V (.d (.one (.v (.int .i64 ((i+k:Nat):Int))))) (fH ((dS (by omega) (by omega)).trans (by omega))))<|.cons (aB.V (.dU 28 2 (i+k) 0) (qy (z:=((i+k:Nat):Int)) (n:=(dg c n+dg d m-1)) rfl rfl rfl rfl rfl rfl rfl (by omega) (by omega)))<|oV rfl<|oV rfl<|oV rfl<|oC (I7 (pR K (c i)) (pR L (d k)) (M:=(K+L))) rfl<|oC (WB (pR (K+L+1+i*1000+k) (QC c d i k (i+k))) (pR (K+L) ((c i)*(d k))) (M:=(max (K+L+1+i*1000+k) (K+L)+1))) rfl<|.cons (aB.V (.dU 28 2 (i+k) 0) (qy (z:=((i+k:Nat):Int)) (n:=(dg c n+dg d m-1)) rfl rfl rfl rfl rfl rfl rfl (by omega) (by omega)))<|.nil<|mZ rfl<|ak<|bN<|tN<|aA<|mv2 rfl rfl<|ak<|⟨(k+1),by omega,by omega,wk rfl ⟨hs rfl,hs rfl,hs rfl,hs rfl,hs rfl,hs rfl,hs rfl,hs rfl,hs rfl,fM rfl (aG (dG (by omega))),trivial⟩ ⟨ho rfl,dX rfl (VI (by omega) (by omega) XJ (fun p _ hp=>UZ hp)),trivial⟩ rfl⟩
    ·refine dO<|tE<|tE<|bE<|bN<|tN ?_;have hke:dg d m=k:=by have h0:=of_decide_eq_false hc2;omega
     subst hke;exact aA<|mv2 rfl rfl<|ak<|⟨(i+1),by omega,by omega,wk rfl ⟨hs rfl,hs rfl,hs rfl,hs rfl,fM rfl (aG (dG (by omega))),trivial⟩ ⟨dX rfl (OC (by omega) (fun j _=>abz (nG zb))),trivial⟩ rfl⟩
   ·refine dO<|tE<|tE<|bE<|tN<|au ?_;have hie:dg c n=i:=by have h0:=of_decide_eq_false hc1;omega
    subst hie;exact AW.wk (jf 28 rfl)<|iJ 5 (.d (.one (.row 2 (dg c n+dg d m-1) (bW M (aX c d))))) rfl (fJ (CY (by omega) (fun j _=>SH (nG za))))<|aA<|mW rfl<|mY WJ rfl<|mW rfl<|mT<|aO<|rQ rfl (qH (Nat.le_refl _) (N9 (fun j hj=>mQ (nG za) (nG zb) (by omega)) (fun j hj=>mQ za zb (by omega))) (fun _ _=>rfl))
theorem ah2{a b:Lf}{K L M n m D:Nat}{c d:Nat→Rat}(ha:EN a K n c)(hb:EN b L m d)(hD:n≤D)(hm:m≤1000)(hM:(D+1)*(K+L+66)≤M:=by first|decide|omega)(hDD:D≤1000:=by decide)(vI:M≤10000000:=by first|decide|omega):aC Tryz.prog 95 [.one a,.one b] (.d (.one (dJ M (dg (aX c d) (n+m)) (aX c d)))):=by
 obtain ⟨ha,za⟩:=ha;obtain ⟨hb,zb⟩:=hb;refine aC.le (dl (DV.l ha) (dl (DV.l hb) iM)) AV.le.rfl ?_;obtain ⟨R,hR0,hR1,hRM⟩:∃ R:Nat→Nat,64≤R 0∧(∀ i,R i+(K+L+66)≤R (i+1))∧∀ i,i≤n→R i≤M:=⟨fun i=>(i+1)*(K+L+66),by simp,fun i=>by show (i+1)*(K+L+66)+(K+L+66)≤(i+1+1)*(K+L+66);rw [Nat.succ_mul (i+1)];exact Nat.le_refl _,fun i hi=>Nat.le_trans (Nat.mul_le_mul_right _ (by omega)) hM⟩
 refine aN 69 [.tmp 4] Tryz.func95 rfl<|cR<|mW rfl<|mT<|au<|au ?_
 by_cases h0a:n=0
 ·exact aA<|mv2 rfl rfl<|mbT rfl (by rw [h0a];rfl)<|mW rfl<|mG rfl rfl<|mG rfl rfl<|mG rfl rfl<|mW rfl<|mT<|cT rfl<|cR<|mW rfl<|mT<|aO<|tR<|rQ rfl (Ec (vZ (Xy (fun i=>za i (by omega))) _))
 ·by_cases h0b:m=0
  ·exact aA<|mv2 rfl rfl<|mbF rfl (beq_eq_false_iff_ne.2 fun e=>h0a (by omega))<|mv3 rfl rfl rfl<|mbT rfl (by rw [h0b];rfl)<|mW rfl<|mT<|cT rfl<|cR<|mW rfl<|mT<|aO<|tR<|rQ rfl (Ec (vZ (Xz (fun i=>zb i (by omega))) _))
  ·refine aA<|mv2 rfl rfl<|mbF rfl (beq_eq_false_iff_ne.2 fun e=>h0a (by omega))<|mv3 rfl rfl rfl<|mbF rfl (beq_eq_false_iff_ne.2 fun e=>h0b (by omega))<|mW rfl<|mT<|cFs rfl<|cR<|mv4 rfl rfl rfl rfl<|mV aj (.d (.one (.v (.int .i64 ((n+m:Nat):Int))))) (fH ((dS (by omega) (by omega)).trans (by omega)))<|mV aj (.d (.one (.v (.int .i64 ((n+m-1:Nat):Int))))) (fH ((dS (by omega) (by omega)).trans (by omega)))<|mN aj (.row 49 4 (n+m-1) (fun _ j=> .v ((([Value.slice none 0 0,Value.bool false,Value.slice none 0 0,Value.bool false]:List Value)[j]?).getD undef))) (mkO (zl:=((n+m-1:Nat):Int)) (zc:=((n+m-1:Nat):Int)) (Xj:=64) rfl rfl rfl rfl rfl (by omega) (by omega) rfl rfl rfl (by omega) (by omega) rfl) rfl rfl<|mW rfl<|mT<|au<|cR<|mv3 rfl rfl rfl<|mT<|aJ<|dQ (ι:=Nat) (fun (i:Nat)=>⟨69,[(0,.d (.one (.row 4 n (aK K c)))),(1,.d (.one (.row 4 m (aK L d)))),(5,.own 23),(25,.d (.one (.v (.int .i64 ((n+m-1:Nat):Int))))),(26,.d (.one (.v (.int .i64 ((i:Nat):Int)))))],[(23,.row 49 4 (n+m-1) (Au 64 i (fun _=>0) (fun j=> .v ((([Value.slice none 0 0,Value.bool false,Value.slice none 0 0,Value.bool false]:List Value)[j]?).getD undef))))]⟩) (fun (i:Nat)=>i≤n+m-1) (fun (i:Nat)=>n+m-1-i) 0 (Nat.zero_le _) (wk rfl ⟨hs rfl,hs rfl,hs rfl,hs rfl,hs rfl,trivial⟩ ⟨dX rfl (Hr),trivial⟩ rfl) ?_;rintro i hI;have hi:i≤n+m-1:=hI;show AW _ _ _ ⟨_,_,_⟩
   refine cR<|mW rfl<|mT<|au<|aW rfl (fun hc1=>?_) (fun hc1=>?_)
   ·refine aF<|tN<|au<|aJ<|au ?_;have hin:i < n+m-1:=by have h0:=of_decide_eq_true hc1;omega
    exact aA<|mv2 rfl rfl<|mT<|aA<|mv2 rfl rfl<|mY (DL) rfl<|mV aj (.dU 23 4 i 0) (qy (z:=((i:Nat):Int)) (n:=(n+m-1)) rfl rfl rfl rfl rfl rfl rfl (by omega) (by omega))<|mZ rfl<|ak<|bN<|tN<|aA<|mv2 rfl rfl<|ak<|⟨(i+1),by omega,by omega,wk rfl ⟨hs rfl,hs rfl,hs rfl,hs rfl,fM rfl (aG (dG (by omega))),trivial⟩ ⟨dX rfl (RF (Nat.le_refl _) rfl),trivial⟩ rfl⟩
   ·refine dO<|tE<|tE<|bE<|tN<|au<|au ?_;have hie:n+m-1=i:=by have h0:=of_decide_eq_false hc1;omega
    subst hie;refine aA<|mv3 rfl rfl rfl<|mT<|aJ<|dQ (ι:=Nat) (fun (i:Nat)=>⟨69,[(0,.d (.one (.row 4 n (aK K c)))),(1,.d (.one (.row 4 m (aK L d)))),(5,.own 23),(35,.d (.one (.v (.int .i64 (n:Int))))),(36,.d (.one (.v (.int .i64 ((i:Nat):Int)))))],[(23,.row 49 4 (n+m-1) (MG (fun _=>R i) (cv c d i)))]⟩) (fun (i:Nat)=>i≤n) (fun (i:Nat)=>n-i) 0 (Nat.zero_le _) (wk rfl ⟨hs rfl,hs rfl,hs rfl,hs rfl,hs rfl,trivial⟩ ⟨dX rfl (LD (fun p _=>hR0) (fun _ _=>rfl)),trivial⟩ rfl) ?_;rintro i hI;have hi2:i≤n:=hI;show AW _ _ _ ⟨_,_,_⟩
    refine cR<|mW rfl<|mT<|au<|aW rfl (fun hc2=>?_) (fun hc2=>?_)
    ·refine aF<|tN<|au<|aJ<|au ?_;have hia:i < n:=by have h0:=of_decide_eq_true hc2;omega
     have hR:=hR1 i;have hRm:=hRM (i+1) hia;refine aA<|mv2 rfl rfl<|mT<|cR<|mv3 rfl rfl rfl<|mT<|aJ<|dQ (ι:=Nat) (fun (k:Nat)=>⟨69,[(0,.d (.one (.row 4 n (aK K c)))),(1,.d (.one (.row 4 m (aK L d)))),(5,.own 23),(35,.d (.one (.v (.int .i64 (n:Int))))),(36,.d (.one (.v (.int .i64 ((i:Nat):Int))))),(7,.d (.one (.v (.int .i64 ((i:Nat):Int))))),(40,.d (.one (.v (.int .i64 (m:Int))))),(41,.d (.one (.v (.int .i64 ((k:Nat):Int)))))],[(23,.row 49 4 (n+m-1) (MG (kf R i k) (zY c d i k)))]⟩) (fun (k:Nat)=>k≤m) (fun (k:Nat)=>m-k) 0 (Nat.zero_le _) (wk rfl ⟨hs rfl,hs rfl,hs rfl,hs rfl,hs rfl,hs rfl,hs rfl,hs rfl,trivial⟩ ⟨dX rfl (OD (fun p _=>YO) (fun j _=>UY.symm)),trivial⟩ rfl) ?_;rintro k hI;have hk:k≤m:=hI;show AW _ _ _ ⟨_,_,_⟩
     refine cR<|mW rfl<|mT<|au<|aW rfl (fun hc3=>?_) (fun hc3=>?_)
     ·refine aF<|tN<|au<|aJ<|au ?_;have hkb:k < m:=by have h0:=of_decide_eq_true hc3;omega
      have hkf:kf R i k (i+k)=R i:=ajS;refine aA<|mv2 rfl rfl<|mT<|cDk 21<|.cons (aB.V _ rfl)<|.cons (aB.V _ rfl)<|.cons (aB.V _ rfl)<|.cons (aB.V (.d (.one (.v (.int .i64 ((i+k:Nat):Int))))) (fH ((dS (by omega) (by omega)).trans (by omega))))<|.cons (aB.V _ rfl)<|.cons (aB.V _ rfl)<|.cons (aB.V _ rfl)<|.cons (aB.V (.d (.one (.v (.int .i64 ((i+k:Nat):Int))))) (fH ((dS (by omega) (by omega)).trans (by omega))))<|.cons (aB.V (.dU 23 4 (i+k) 0) (qy (z:=((i+k:Nat):Int)) (n:=(n+m-1)) rfl rfl rfl rfl rfl rfl rfl (by omega) (by omega)))<|oV rfl<|.cons (aB.V _ rfl)<|.cons (aB.V _ rfl)<|.cons (aB.V (.d (.one (.at 4 ((aK K c) i)))) (lu (el:=(aK K c)) (z:=((i:Nat):Int)) (n:=n) rfl rfl rfl rfl rfl rfl (by omega) (by omega))) ?_;refine oV rfl<|.cons (aB.V _ rfl)<|.cons (aB.V _ rfl)<|.cons (aB.V (.d (.one (.at 4 ((aK L d) k)))) (lu (el:=(aK L d)) (z:=((k:Nat):Int)) (n:=m) rfl rfl rfl rfl rfl rfl (by omega) (by omega))) ?_;exact oV rfl<|oC (Kz (lq K (c i)) (lq L (d k)) (M:=(max (K+L+1) 64))) rfl<|oC (Ky (lq (kf R i k (i+k)) (zY c d i k (i+k))) (lq (max (K+L+1) 64) ((c i)*(d k))) (M:=(max ((kf R i k (i+k))+(max (K+L+1) 64)+1) 64))) rfl<|.cons (aB.V (.dU 23 4 (i+k) 0) (qy (z:=((i+k:Nat):Int)) (n:=(n+m-1)) rfl rfl rfl rfl rfl rfl rfl (by omega) (by omega)))<|.nil<|mZ rfl<|ak<|bN<|tN<|aA<|mv2 rfl rfl<|ak<|⟨(k+1),by omega,by omega,wk rfl ⟨hs rfl,hs rfl,hs rfl,hs rfl,hs rfl,hs rfl,hs rfl,fM rfl (aG (dG (by omega))),trivial⟩ ⟨dX rfl (aki (fun p _ _=>ajT (by omega)) (by rw [agh];omega) UW (fun p _ hp=>QD hp)),trivial⟩ rfl⟩
     ·refine dO<|tE<|tE<|bE<|bN<|tN ?_;have hke:m=k:=by have h0:=of_decide_eq_false hc3;omega
      subst hke;exact aA<|mv2 rfl rfl<|ak<|⟨(i+1),by omega,by omega,wk rfl ⟨hs rfl,hs rfl,hs rfl,hs rfl,fM rfl (aG (dG (by omega))),trivial⟩ ⟨dX rfl (OD (fun p _=>agf (by omega)) (fun j _=>XI zb)),trivial⟩ rfl⟩
    ·refine dO<|tE<|tE<|bE<|tN<|au ?_;have ami:n=i:=by have h0:=of_decide_eq_false hc2;omega
     subst ami;exact AW.wk (jf 23 rfl)<|iJ 5 (.d (.one (.row 4 (n+m-1) (aK M (aX c d))))) rfl (fJ (ZY (fun p _=>hRM n (Nat.le_refl _)) (fun j _=>NZ za)))<|aA<|mW rfl<|mY Bo rfl<|mW rfl<|mT<|aO<|rQ rfl (nU (Nat.le_refl _) (N9 (fun j hj=>qG za zb (by omega)) (fun j hj=>qG za zb (by omega))) (fun _ _=>rfl))
theorem afq{a b:Nat→Int}{j:Nat}(hb:∀ i,2≤i→b i=0):∀ m,m+1≤j→cv a b m j=0:=fun m hm=>DU fun i hi hij=>by rw [hb (j-i) (by omega)];simp
theorem NV{a:Nat→Int}{x y:Int}:∀ j,aX a (vJ x y) j=a j*x+(if j=0 then 0 else a (j-1)*y)
 | 0=>by
  show cv a (vJ x y) 0 0+(if 0≤0 then a 0*vJ x y (0-0) else 0)=_
  rw [if_pos (Nat.le_refl _),if_pos rfl];show 0+a 0*x=a 0*x+0
  omega
 | j+1=>by
  show (cv a (vJ x y) j (j+1)+(if j≤j+1 then a j*vJ x y (j+1-j) else 0))+(if j+1≤j+1 then a (j+1)*vJ x y (j+1-(j+1)) else 0)=_
  rw [afq Y3 j (Nat.le_refl _),if_pos (by omega),if_pos (Nat.le_refl _),if_neg (by omega),Nat.sub_self,show j+1-j=1 by omega,Nat.add_sub_cancel];show (0+a j*y)+a (j+1)*x=a (j+1)*x+a j*y
  omega
theorem LP{x y:Int}(hy:¬ y=0):dL x y*(y:Rat)=(x:Rat):=by
 rw [← ji y,← ji x,jG hy,jG (by decide),jG (by decide),Rat.divInt_mul_divInt,Int.mul_one,Int.mul_comm x y];have h:=Rat.divInt_mul_left (n:=x) (d:=1) hy;rwa [Int.mul_one] at h
theorem BF(y:Int):∀ s:Nat,((y^s:Int):Rat)=(y:Rat)^s
 | 0=>rfl
 | s+1=>by rw [Int.pow_succ,Rat.intCast_mul,BF y s,Rat.pow_succ]
theorem ug(K:Nat)(q:Rat):EO (tn K q) K q.num q.den:=⟨decide (q.num < 0),cO q.num.natAbs,decide ((q.den:Int) < 0),cO (Int.natAbs (q.den:Int)),fun _ _ _ h=>h,by rw [dh];exact kY _,by rw [dh];exact kY _⟩
theorem ac3{K L:Nat}{q:Rat}(h:K≤L):∀ B w cs,gJ B w (tn K q) cs→gJ B w (tn L q) cs
 | B,w,[a,b,c,d],⟨h1,h2,h3,h4,h5⟩=>⟨h1,nX h _ _ _ h2,h3,nX h _ _ _ h4,h5⟩
theorem JF{K L:Nat}{z y:Rat}(h:K≤L)(e:z=y):AV.le (.d (.agg (tn K z))) (.d (.agg (tn L y))):=by subst e;exact nT (ac3 h)
theorem QZ{K L M:Nat}{n d:Int}{q:Rat}(h1:K≤M)(h2:L≤M)(e1:n=q.num)(e2:d=q.den):AV.le (.d (.agg (zn K n ++zn L d))) (.d (.agg (tn M q))):=by
 subst e1;subst e2;refine nT fun B w cs h=>?_
 match cs,h with
 | [a,b,c,d],⟨h1',h2',h3',h4',h5'⟩=>exact ⟨h1',nX h1 _ _ _ h2',h3',nX h2 _ _ _ h4',h5'⟩
theorem ajP{K L:Nat}{s t:Bool}{xs ys:List Nat}{x y:Int}{el:Nat→Nat→Lf}(hx:zv s (val xs)=x)(hy:zv t (val ys)=y)(h0:el 0 0= .v (.bool s):=by rfl)(h1:el 0 1=lr K xs:=by rfl)(h2:el 1 0= .v (.bool t):=by rfl)(h3:el 1 1=lr L ys:=by rfl):pY (.row 2 2 el) (max K L) 2 (vJ x y):=by
 refine ⟨⟨fun i=>if i=0 then (s,xs) else (t,ys),qp fun i hi j hj B w v hv=>?_,fun i hi=>?_⟩,Y3⟩
 ·match i,hi,j,hj with
  | 0,_,0,_=>rw [h0] at hv;exact hv
  | 0,_,1,_=>rw [h1] at hv;exact nX (Nat.le_max_left _ _) _ _ _ hv
  | 1,_,0,_=>rw [h2] at hv;exact hv
  | 1,_,1,_=>rw [h3] at hv;exact nX (Nat.le_max_right _ _) _ _ _ hv
 ·match i,hi with
  | 0,_=>exact hx
  | 1,_=>exact hy
theorem xO{x y:Int}:bn (vJ x y) 2=Nat.gcd x.natAbs y.natAbs:=by
 show Nat.gcd (Nat.gcd 0 x.natAbs) y.natAbs=_
 rw [Nat.gcd_zero_left]
theorem OQ{n d:Int}(h:0 < d):(Rat.divInt n d).num=n / ((bn (vJ n d) 2:Nat):Int)∧((Rat.divInt n d).den:Int)=d / ((bn (vJ n d) 2:Nat):Int):=by rw [xO];exact o7 h
theorem OO{n d:Int}(h:d < 0):(Rat.divInt n d).num= -n / ((bn (vJ n d) 2:Nat):Int)∧((Rat.divInt n d).den:Int)= -d / ((bn (vJ n d) 2:Nat):Int):=by
 have h1:=o7 (n:= -n) (d:= -d) (by omega);rw [Rat.neg_divInt_neg,Int.natAbs_neg,Int.natAbs_neg] at h1;rw [xO];exact h1
theorem abO{n d:Int}(h:d≠0):((bn (vJ n d) 2:Nat):Int)≠0:=by rw [xO];exact oN h
theorem g_l(n d:Int):((bn (vJ n d) 2:Nat):Int)∣n:=by rw [xO];exact oL n d
theorem g_r(n d:Int):((bn (vJ n d) 2:Nat):Int)∣d:=by rw [xO];exact oM n d
theorem Zg(n:Int):dL n 0=Rat.divInt n 1:=by unfold dL;rw [if_pos rfl]
theorem jr(q:Rat):dL q.num (q.den:Int)=q:=by rw [jG (lH q),Rat.num_divInt_den]
theorem Fv{a b:Rat}(h:a=b):uH a b=0:=by subst h;unfold uH jS;simp
theorem Fz{x y:Rat}(h:x < y):uH x y= -1:=by
 have:=(Rat.lt_iff x y).1 h;unfold uH jS
 (repeat' split) <;> omega
theorem sS{x y:Rat}(h:y < x):uH x y=1:=by
 have:=(Rat.lt_iff y x).1 h;unfold uH jS
 (repeat' split) <;> omega
theorem ag5(x y:Rat):x < y∨x=y∨y < x:=by
 by_cases h:x < y
 ·exact Or.inl h
 ·by_cases k:y < x
  ·exact Or.inr (Or.inr k)
  ·exact Or.inr (Or.inl (by grind))
theorem DT(x y:Rat):(x < y∧uH x y= -1)∨(x=y∧uH x y=0)∨(y < x∧uH x y=1):=by
 rcases ag5 x y with h | h | h
 ·exact Or.inl ⟨h,Fz h⟩
 ·exact Or.inr (Or.inl ⟨h,Fv h⟩)
 ·exact Or.inr (Or.inr ⟨h,sS h⟩)
theorem dP{x y:Rat}:uH x y≤0↔x≤y:=by
 rcases DT x y with ⟨h,e⟩ | ⟨h,e⟩ | ⟨h,e⟩ <;> rw [e] <;> constructor <;> intro k <;> first | omega | grind
theorem vW{x y:Rat}:uH x y≥0↔y≤x:=by
 rcases DT x y with ⟨h,e⟩ | ⟨h,e⟩ | ⟨h,e⟩ <;> rw [e] <;> constructor <;> intro k <;> first | omega | grind
theorem kM{x y:Rat}:uH x y=0↔x=y:=by
 rcases DT x y with ⟨h,e⟩ | ⟨h,e⟩ | ⟨h,e⟩ <;> rw [e] <;> constructor <;> intro k <;> first | omega | grind
theorem aci(P Q:Rat):Rat.divInt (P.num*Q.den+Q.num*P.den) (P.den*Q.den*2)=(P+Q) / 2:=by
 have h1:=LM P Q;rw [jG (Int.mul_ne_zero (lH P) (lH Q))] at h1;have h2:Rat.divInt 1 2=(1:Rat) / 2:=by decide +kernel
 rw [← Int.mul_one (P.num*Q.den+Q.num*P.den),← Rat.divInt_mul_divInt,h1,h2];grind
theorem Yg(P Q:Rat):(P+Q)*dL 1 2=(P+Q) / 2:=by
 have h2:dL 1 2=(1:Rat) / 2:=by decide +kernel
 rw [h2];grind
theorem Sv{a b:List Lf}{K L M:Nat}{x y:Int}(ha:EP a K x)(hb:EP b L y)(hy:y≠0)(hM:max (max K L) 1+1≤M:=by first|decide|omega)(vI:M≤100000000:=by first|decide|omega):aC Tryz.prog 130 [.agg a,.agg b] (.d (.agg (tn M (Rat.divInt x y)))):=by
 obtain ⟨sa,xa,ha,ea⟩:=ha;obtain ⟨sb,xb,hb,eb⟩:=hb;refine aC.le (dl (DV.z ha) (dl (DV.z hb) iM)) AV.le.rfl<|aN 31 [.cell 4 38] Tryz.func130 rfl<|cR<|mO rfl<|mO rfl<|mO rfl<|mT<|cR<|mv2 rfl rfl<|mB aj (.d (.one (.row 2 2 (fun i' j'=>(([.v (.bool sa),lr K xa] ++ [.v (.bool sb),lr L xb])[i'*2+j']?).getD (.v undef))))) rfl<|mY (ahL (ajP (K:=K) (L:=L) ea eb)) rfl<|mO rfl<|mZ rfl<|mT<|au<|cR<|mv2 rfl rfl<|mT<|aW rfl (fun hc1=>?_) (fun hc1=>?_)
 ·refine cDk 4<|oV rfl<|oC (aaZ ⟨sa,xa,fun _ _ _ h=>h,ea⟩ (by omega)) rfl<|oV rfl<|oC (aaZ ⟨sb,xb,fun _ _ _ h=>h,eb⟩ (by omega)) rfl<|.nil<|mZ rfl<|mZ rfl<|mT<|au ?_;have hyn:y < 0:=by subst hc1;have h0: -(val xb:Int)=y:=eb;omega
  exact aA<|mv2 rfl rfl<|mY (Gg (pR K (-x)) (pR (max K L) ((bn (vJ x y) 2):Int)) (abO hy) (Int.dvd_neg.2 (g_l x y)) (M:=(max K 1+1))) rfl<|mv3 rfl rfl rfl<|mZ rfl<|mT<|cR<|mv2 rfl rfl<|mY (Gg (pR L (-y)) (pR (max K L) ((bn (vJ x y) 2):Int)) (abO hy) (Int.dvd_neg.2 (g_r x y)) (M:=(max L 1+1))) rfl<|mv3 rfl rfl rfl<|mZ rfl<|mT<|cR<|mv3 rfl rfl rfl<|mZ rfl<|mT<|aO<|rQ rfl (QZ (by omega) (by omega) (OO hyn).1.symm (OO hyn).2.symm)
 ·refine aF<|tN<|au ?_;have hyn:0 < y:=by subst hc1;have h0:(val xb:Int)=y:=eb;omega
  exact aA<|mv2 rfl rfl<|mY (Gg ⟨sa,xa,fun _ _ _ h=>h,ea⟩ (pR (max K L) ((bn (vJ x y) 2):Int)) (abO hy) (g_l x y) (M:=(max K 1+1)) (by omega) (by omega) (by omega)) rfl<|mv3 rfl rfl rfl<|mZ rfl<|mT<|cR<|mv2 rfl rfl<|mY (Gg ⟨sb,xb,fun _ _ _ h=>h,eb⟩ (pR (max K L) ((bn (vJ x y) 2):Int)) (abO hy) (g_r x y) (M:=(max L 1+1)) (by omega) (by omega) (by omega)) rfl<|mv3 rfl rfl rfl<|mZ rfl<|mT<|cR<|mv3 rfl rfl rfl<|mZ rfl<|mT<|aO<|rQ rfl (QZ (by omega) (by omega) (OQ hyn).1.symm (OQ hyn).2.symm)
theorem KH{a:List Lf}{K M:Nat}{n d:Int}(ha:EO a K n d)(hM:max K 2+1≤M:=by first|decide|omega)(vI:M≤100000000:=by first|decide|omega):aC Tryz.prog 102 [.agg a] (.d (.agg (tn M (dL n d)))):=by
 obtain ⟨s,xs,t,ys,ha,e1,e2⟩:=ha;refine aC.le (dl (DV.g ha) iM) AV.le.rfl<|aN 15 [.cell 2 38] Tryz.func102 rfl<|cR<|mO rfl<|mO rfl<|mT<|cR<|mv2 rfl rfl<|mY (RY ⟨t,ys,fun _ _ _ h=>h,e2⟩ (by omega)) rfl<|mO rfl<|mZ rfl<|mT<|au<|cR<|mW rfl<|mY (adD (isn K d)) rfl<|mT<|aW rfl (fun hc1=>?_) (fun hc1=>?_)
 ·exact aA<|mY aOf rfl<|mZ rfl<|mT<|au<|cDk 5<|oV rfl<|oV rfl<|oC (RY ⟨s,xs,fun _ _ _ h=>h,e1⟩ (by omega)) rfl<|oV rfl<|oC (Sv (pR K n) (pR 2 1) (by decide) (M:=(max (max K 2) 1+1))) rfl<|.nil<|mZ rfl<|mT<|aO<|rQ rfl (JF (by omega) (by rw [of_decide_eq_true hc1,Zg]))
 ·exact aF<|tN<|au<|cDk 5<|oV rfl<|oV rfl<|oC (RY ⟨s,xs,fun _ _ _ h=>h,e1⟩ (by omega)) rfl<|oV rfl<|oC (Sv (pR K n) (pR K d) (of_decide_eq_false hc1) (M:=(max (max K K) 1+1))) rfl<|.nil<|mZ rfl<|mT<|aO<|rQ rfl (JF (by omega) (jG (of_decide_eq_false hc1)).symm)
theorem acp(a b:Rat):Rat.divInt (a.num*b.den-b.num*a.den) (a.den*b.den)=a-b:=by
 have h:=LM a (-b);rw [jG (Int.mul_ne_zero (lH a) (lH (-b))),Rat.neg_num,Rat.neg_den,Int.neg_mul,← Int.sub_eq_add_neg,← Rat.sub_eq_add_neg] at h;exact h
theorem Zf(a b:Rat):(a.den:Int)*(b.den:Int)≠0:=Int.mul_ne_zero (lH a) (lH b)
theorem KG{a b:List Lf}{K L M:Nat}{n d m e:Int}(ha:EO a K n d)(hb:EO b L m e)(hM:(max K 2+1)+(max L 2+1)≤M:=by first|decide|omega)(vI:M≤100000000:=by first|decide|omega):aC Tryz.prog 103 [.agg a,.agg b] (.lK [.agg (zn M (Rat.num (dL n d)*(Rat.den (dL m e):Int))),.agg (zn M (Rat.num (dL m e)*(Rat.den (dL n d):Int))),.agg (zn M ((Rat.den (dL n d):Int)*(Rat.den (dL m e):Int)))]):=by
 obtain ⟨s0,Dw,t0,ys0,ha,e0,k0⟩:=ha;obtain ⟨s1,xs1,t1,ys1,hb,e1,k1⟩:=hb;exact aC.le (dl (DV.g ha) (dl (DV.g hb) iM)) AV.le.rfl<|aN 26 [.cell 4 36,.cell 5 36,.cell 6 36] Tryz.func103 rfl<|cR<|mO rfl<|mO rfl<|mO rfl<|mO rfl<|mO rfl<|mT<|au<|cDk 4<|oV rfl<|oC (KH (⟨s0,Dw,t0,ys0,fun _ _ _ h=>h,e0,k0⟩:EO ([.v (.bool s0),lr K Dw] ++ [.v (.bool t0),lr K ys0]) K n d) (M:=(max K 2+1))) rfl<|oV rfl<|oC (KH (⟨s1,xs1,t1,ys1,fun _ _ _ h=>h,e1,k1⟩:EO ([.v (.bool s1),lr L xs1] ++ [.v (.bool t1),lr L ys1]) L m e) (M:=(max L 2+1))) rfl<|.nil<|mZ rfl<|mZ rfl<|mT<|au<|cDk 15<|oV rfl<|oV rfl<|oV rfl<|oV rfl<|oC (I7 (pR (max K 2+1) (Rat.num (dL n d))) (pR (max L 2+1) (Rat.den (dL m e):Int)) (M:=((max K 2+1)+(max L 2+1)))) rfl<|oV rfl<|oV rfl<|oV rfl<|oV rfl<|oC (I7 (pR (max L 2+1) (Rat.num (dL m e))) (pR (max K 2+1) (Rat.den (dL n d):Int)) (M:=((max L 2+1)+(max K 2+1)))) rfl<|oV rfl<|oV rfl<|oV rfl<|oV rfl<|oC (I7 (pR (max K 2+1) (Rat.den (dL n d):Int)) (pR (max L 2+1) (Rat.den (dL m e):Int)) (M:=((max K 2+1)+(max L 2+1)))) rfl<|.nil<|mZ rfl<|mZ rfl<|mZ rfl<|mT<|aO<|rQ rfl (jq (dl (FD (jC (by omega) rfl)) (dl (FD (jC (by omega) rfl)) (dl (FD (jC (by omega) rfl)) iM))))
theorem ah9{a b:List Lf}{K L:Nat}{n d m e:Int}(ha:EO a K n d)(hb:EO b L m e)(hK:K≤10000000:=by decide)(hL:L≤10000000:=by decide):aC Tryz.prog 67 [.agg a,.agg b] (.d (.one (.v (.int .i64 (uH (dL n d) (dL m e)))))):=by
 obtain ⟨s0,Dw,t0,ys0,ha,e0,k0⟩:=ha;obtain ⟨s1,xs1,t1,ys1,hb,e1,k1⟩:=hb;exact aC.le (dl (DV.g ha) (dl (DV.g hb) iM)) AV.le.rfl<|aN 18 [.tmp 4] Tryz.func67 rfl<|cR<|mO rfl<|mO rfl<|mW rfl<|mT<|cR<|mv2 rfl rfl<|mY (KG (⟨s0,Dw,t0,ys0,fun _ _ _ h=>h,e0,k0⟩:EO ([.v (.bool s0),lr K Dw] ++ [.v (.bool t0),lr K ys0]) K n d) (⟨s1,xs1,t1,ys1,fun _ _ _ h=>h,e1,k1⟩:EO ([.v (.bool s1),lr L xs1] ++ [.v (.bool t1),lr L ys1]) L m e) (M:=((max K 2+1)+(max L 2+1)))) rfl<|mv4 rfl rfl rfl rfl<|mO rfl<|mO rfl<|mO rfl<|mZ rfl<|mZ rfl<|mZ rfl<|mT<|cR<|mv2 rfl rfl<|mY (ahK (pR ((max K 2+1)+(max L 2+1)) (Rat.num (dL n d)*(Rat.den (dL m e):Int))) (pR ((max K 2+1)+(max L 2+1)) (Rat.num (dL m e)*(Rat.den (dL n d):Int)))) rfl<|mW rfl<|mT<|aO<|rQ rfl (AV.le.rfl)
theorem aib{a b:List Lf}{K L M:Nat}{n d m e:Int}(ha:EO a K n d)(hb:EO b L m e)(hM:(max K 2+1)+(max L 2+1)+2≤M:=by decide)(vI:M≤100000000:=by decide):aC Tryz.prog 107 [.agg a,.agg b] (.d (.agg (tn M ((dL n d)-(dL m e))))):=by
 obtain ⟨s0,Dw,t0,ys0,ha,e0,k0⟩:=ha;obtain ⟨s1,xs1,t1,ys1,hb,e1,k1⟩:=hb;exact aC.le (dl (DV.g ha) (dl (DV.g hb) iM)) AV.le.rfl<|aN 20 [.cell 4 38] Tryz.func107 rfl<|cR<|mO rfl<|mO rfl<|mO rfl<|mT<|cR<|mv2 rfl rfl<|mY (KG (⟨s0,Dw,t0,ys0,fun _ _ _ h=>h,e0,k0⟩:EO ([.v (.bool s0),lr K Dw] ++ [.v (.bool t0),lr K ys0]) K n d) (⟨s1,xs1,t1,ys1,fun _ _ _ h=>h,e1,k1⟩:EO ([.v (.bool s1),lr L xs1] ++ [.v (.bool t1),lr L ys1]) L m e) (M:=((max K 2+1)+(max L 2+1)))) rfl<|mv4 rfl rfl rfl rfl<|mO rfl<|mO rfl<|mO rfl<|mZ rfl<|mZ rfl<|mZ rfl<|mT<|au<|cDk 5<|oV rfl<|oV rfl<|oC (ah8 (pR ((max K 2+1)+(max L 2+1)) (Rat.num (dL n d)*(Rat.den (dL m e):Int))) (pR ((max K 2+1)+(max L 2+1)) (Rat.num (dL m e)*(Rat.den (dL n d):Int))) (M:=(max ((max K 2+1)+(max L 2+1)) ((max K 2+1)+(max L 2+1))+1))) rfl<|oV rfl<|oC (Sv (pR (max ((max K 2+1)+(max L 2+1)) ((max K 2+1)+(max L 2+1))+1) ((Rat.num (dL n d)*(Rat.den (dL m e):Int))-(Rat.num (dL m e)*(Rat.den (dL n d):Int)))) (pR ((max K 2+1)+(max L 2+1)) ((Rat.den (dL n d):Int)*(Rat.den (dL m e):Int))) (Zf (dL n d) (dL m e)) (M:=(max (max (max ((max K 2+1)+(max L 2+1)) ((max K 2+1)+(max L 2+1))+1) ((max K 2+1)+(max L 2+1))) 1+1))) rfl<|.nil<|mZ rfl<|mT<|aO<|rQ rfl (JF (by omega) (acp (dL n d) (dL m e)))
theorem adC{a:List Lf}{K M:Nat}{n d:Int}(ha:EO a K n d)(hM:max K 2+1≤M:=by first|decide|omega)(vI:M≤100000000:=by first|decide|omega):aC Tryz.prog 66 [.agg a,.one (.v (.slice none 0 0))] (.d (.agg (tn M (dL n d)))):=by
 obtain ⟨s0,Dw,t0,ys0,ha,e0,k0⟩:=ha;refine aC.le (dl (DV.g ha) (dl DV.same iM)) AV.le.rfl<|aN 24 [.cell 4 38] Tryz.func66 rfl<|cR<|mO rfl<|mO rfl<|mT<|cR<|mW rfl<|mY (KH (⟨s0,Dw,t0,ys0,fun _ _ _ h=>h,e0,k0⟩:EO ([.v (.bool s0),lr K Dw] ++ [.v (.bool t0),lr K ys0]) K n d) (M:=(max K 2+1))) rfl<|mO rfl<|mZ rfl<|mT<|au<|cR<|mv3 rfl rfl rfl<|mT<|aJ<|dQ (ι:=Nat) (fun (u:Nat)=>⟨24,[(4,.ptr 4 0),(5,.ptr 5 0),(11,.d (.one (.v (.int .i64 0)))),(12,.d (.one (.v (.int .i64 0))))],[(4,.box 38 ([.v (.bool false),.v (.slice none 0 0),.v (.bool false),.v (.slice none 0 0)])),(5,.box 38 (tn (max K 2+1) (dL n d)))]⟩) (fun (u:Nat)=>True) (fun (u:Nat)=>u) 0 (trivial) (wkr rfl rfl) ?_;rintro u hI;have hT0:True:=hI;show AW _ _ _ ⟨_,_,_⟩
 exact cR<|mW rfl<|mT<|au<|cF rfl<|dO<|tE<|tE<|bE<|tN<|cR<|mW rfl<|mZ rfl<|mT<|aO<|rQ rfl (JF (by omega) rfl)
theorem ae0{a:List Lf}{K M:Nat}{n d:Int}(ha:EO a K n d)(hM:max K 2+1≤M:=by first|decide|omega)(vI:M≤100000000:=by first|decide|omega):aC Tryz.prog 125 [.agg a] (.d (.agg (tn M (dL n d)))):=by
 obtain ⟨s0,Dw,t0,ys0,ha,e0,k0⟩:=ha;exact aC.le (dl (DV.g ha) iM) AV.le.rfl<|aN 5 [.cell 2 38] Tryz.func125 rfl<|cR<|mO rfl<|mO rfl<|mT<|cR<|mW rfl<|mY (adC (⟨s0,Dw,t0,ys0,fun _ _ _ h=>h,e0,k0⟩:EO ([.v (.bool s0),lr K Dw] ++ [.v (.bool t0),lr K ys0]) K n d) (M:=(max K 2+1))) rfl<|mZ rfl<|mT<|aO<|rQ rfl (JF (by omega) rfl)
theorem Uk(a b:Nat→Int)(j:Nat):aX (rc a) (rc b) j=rc (aX a b) j:=SG _
theorem TJ{n:Nat}{c:Nat→Int}:IsI (YJ n c) n (fun i=>if i < n then c i else 0):=by
 refine ⟨qp fun i hi j hj B w v hv=>?_,fun i hi=>if_neg (by omega)⟩;show eu B w (.v (.int .i64 (if i < n then c i else 0))) v
 rw [if_pos hi];exact hv
def sm(f:Nat→Int):Nat→Int
 | 0=>0
 | m+1=>sm f m+f m
theorem Dh{f g:Nat→Int}:∀ {m:Nat},(∀ i,i < m→f i=g i)→sm f m=sm g m
 | 0,_=>rfl
 | m+1,h=>by show sm f m+f m=sm g m+g m;rw [Dh (fun i hi=>h i (by omega)),h m (by omega)]
theorem aad{f g:Nat→Int}:∀ m,sm (fun i=>f i+g i) m=sm f m+sm g m
 | 0=>rfl
 | m+1=>by show sm _ m+(f m+g m)=(sm f m+f m)+(sm g m+g m);rw [aad m];omega
theorem O9{f:Nat→Int}:∀ m,sm f (m+1)=f 0+sm (fun i=>f (i+1)) m
 | 0=>by show (0:Int)+f 0=f 0+0;omega
 | m+1=>by
  have h:=O9 (f:=f) m;show sm f (m+1)+f (m+1)=f 0+(sm (fun i=>f (i+1)) m+f (m+1))
  omega
theorem aae{f:Nat→Int}:∀ n,sm f (n+1)=sm (fun i=>f (n-i)) (n+1)
 | 0=>rfl
 | n+1=>by
  rw [O9 (f:=fun i=>f (n+1-i)) (n+1)];show sm f (n+1)+f (n+1)=f (n+1)+sm (fun i=>f (n+1-(i+1))) (n+1)
  rw [aae n,Int.add_comm];congr 1;exact Dh fun i _=>by congr 1;omega
theorem adI{a b:Nat→Int}{j:Nat}:∀ {m:Nat},m≤j+1→cv a b m j=sm (fun i=>a i*b (j-i)) m
 | 0,_=>rfl
 | m+1,h=>by
  show cv a b m j+(if m≤j then a m*b (j-m) else 0)=_
  rw [adI (by omega),if_pos (by omega)];rfl
theorem BH(a b:Nat→Int)(j:Nat):aX a b j=sm (fun i=>a i*b (j-i)) (j+1):=adI (Nat.le_refl _)
theorem yV(a b:Nat→Int)(j:Nat):aX a b j=aX b a j:=by
 rw [BH,BH,aae];exact Dh fun i hi=>by rw [show j-(j-i)=i by omega,Int.mul_comm]
theorem Xx(a b c:Nat→Int)(j:Nat):aX a (nH b c) j=nH (aX a b) (aX a c) j:=by
 show _=aX a b j+aX a c j
 rw [BH,BH,BH,← aad];exact Dh fun i _=>by show a i*(b (j-i)+c (j-i))=_;rw [Int.mul_add]
/-- The leading coefficient of a product. -/
theorem Gp{a b:Nat→Int}{n m:Nat}(ha:∀ i,n≤i→a i=0)(hb:∀ i,m≤i→b i=0)(hn:n≠0)(hm:m≠0):aX a b (n+m-2)=a (n-1)*b (m-1):=by
 obtain ⟨n,rfl⟩:=Nat.exists_eq_succ_of_ne_zero hn;obtain ⟨m,rfl⟩:=Nat.exists_eq_succ_of_ne_zero hm;rw [← SH (n:=n+1) ha];show cv a b n (n.succ+m.succ-2)+(if n≤n.succ+m.succ-2 then a n*b (n.succ+m.succ-2-n) else 0)=a n*b m
 rw [DU (fun i hi _=>by rw [hb (n.succ+m.succ-2-i) (by omega),Int.mul_zero]),if_pos (by omega),show n.succ+m.succ-2-n=m by omega,Int.zero_add]
theorem SV{a b:Nat→Int}{n m:Nat}(hn:n≠0)(hm:m≠0)(ha:∀ i,n≤i→a i=0)(hb:∀ i,m≤i→b i=0)(ha0:a (n-1)≠0)(hb0:b (m-1)≠0){p:Nat}(hp:∀ i,p≤i→aX a b i=0):dg (aX a b) p=n+m-1:=
 S9 XQ (nG hp) (Or.inr (by rw [show n+m-1-1=n+m-2 by omega,Gp ha hb hn hm];exact Int.mul_ne_zero ha0 hb0)) (fun i hi=>mQ ha hb (by omega))
theorem agA{K:Nat}{z:Int}(h:z=0):AV.le (.d (.agg [.v (.bool false),.v (.slice none 0 0)])) (.d (.agg (zn K z))):=by subst h;exact nT fun B w cs h=>Dt (Nat.zero_le _) _ _ _ (Ie h)
/-- Horner's rule over whole numbers. -/
def Ba(a:Nat→Int)(x y:Int)(top:Nat):Nat→Int
 | 0=>0
 | s+1=>Ba a x y top s*x+a (top-1-s)*y^s
def vlQ(a:Nat→Rat)(q:Rat)(top:Nat):Nat→Rat
 | 0=>0
 | s+1=>vlQ a q top s*q+a (top-1-s)
theorem Y2{t:TypeId}{K:Nat}:AO.le (.box t [.v (.bool false),.v (.slice none 0 0)]) (.box t (zn K 0)):=iY fun B w cs h=>Dt (Nat.zero_le _) _ _ _ (Ie h)
theorem aa1{a:Lf}{b e:List Lf}{K L1 L2 M n D T:Nat}{c:Nat→Int}{x y:Int}(ha:pY a K n c)(hb:EP b L1 x)(hd:EP e L2 y)(hn:n≤D)(hDD:D≤1000:=by decide)(hT:K+L1+L2+5≤T:=by decide)(hM:(D+1)*T≤M:=by decide)(vI:M≤1000000000:=by decide):aC Tryz.prog 126 [.one a,.agg b,.agg e] (.d (.agg (zn M (Ba c x y n n)))):=by
 obtain ⟨⟨fa,ha,ea⟩,za⟩:=ha;obtain ⟨s1,xs1,hb,ex⟩:=hb;obtain ⟨s2,xs2,hd,ey⟩:=hd;refine aC.le (dl (DV.l ha) (dl (DV.z hb) (dl (DV.z hd) iM))) AV.le.rfl ?_;obtain ⟨R,hR0,hR1,hRM⟩:∃ R:Nat→Nat,2≤R 0∧(∀ i,R i+T≤R (i+1))∧∀ i,i≤D→R i≤M:=⟨fun i=>(i+1)*T,by show 2≤(0+1)*T;omega,fun i=>by show (i+1)*T+T≤(i+1+1)*T;rw [Nat.succ_mul (i+1)];exact Nat.le_refl _,fun i hi=>Nat.le_trans (Nat.mul_le_mul_right _ (by omega)) hM⟩
 have hT1:=hRM 0 (Nat.zero_le _);have hTM:T≤M:=Nat.le_trans (Nat.le_mul_of_pos_left T (by omega)) hM;refine aN 32 [.cell 6 36] Tryz.func126 rfl<|cR<|mO rfl<|mO rfl<|mO rfl<|mT<|cR<|mO rfl<|mT<|cR<|mY aOf rfl<|mO rfl<|mZ rfl<|mT<|au<|cR<|mv2 rfl rfl<|mV aj (.d (.one (.v (.int .i64 ((n:Int)-1))))) (fH (dS (by omega) (by omega)))<|mW rfl<|mT<|aJ<|dQ (ι:=Nat) (fun (s:Nat)=>⟨32,[(0,.d (.one (.row 2 n (o8 K fa)))),(4,.ptr 4 0),(5,.ptr 5 0),(6,.ptr 6 0),(7,.ptr 7 0),(8,.ptr 8 0),(9,.d (.one (.v (.int .i64 ((n:Int)-1-(s:Int))))))],[(4,.box 36 ([.v (.bool s1),lr L1 xs1])),(5,.box 36 ([.v (.bool s2),lr L2 xs2])),(6,.box 36 ([.v (.bool false),.v (.slice none 0 0)])),(7,.box 36 (zn (R s) (Ba c x y n s))),(8,.box 36 (zn (R s) (y^s)))]⟩) (fun (s:Nat)=>s≤n) (fun (s:Nat)=>n-s) 0 (Nat.zero_le _) (wk rfl ⟨hs rfl,hs rfl,hs rfl,hs rfl,hs rfl,hs rfl,fM rfl (aG (by omega)),trivial⟩ ⟨ho rfl,ho rfl,ho rfl,dX rfl (Y2),dX rfl (Af (by omega) (Int.pow_zero y).symm),trivial⟩ rfl) ?_;rintro s hI;have hi:s≤n:=hI;show AW _ _ _ ⟨_,_,_⟩
 refine au<|cR<|mv2 rfl rfl<|mT<|aW rfl (fun hc1=>?_) (fun hc1=>?_)
 ·refine aF<|tN<|au<|aJ<|au ?_;have hsd:s < n:=by have h0:=of_decide_eq_true hc1;omega
  have hR:=hR1 s;have hRm:=hRM (s+1) (by omega);refine iJ 9 (.d (.one (.v (.int .i64 ((n-1-s:Nat):Int))))) rfl (aG (by omega))<|cDk 10<|oV rfl<|oV rfl<|oC (I7 (pR (R s) (Ba c x y n s)) ⟨s1,xs1,fun _ _ _ h=>h,ex⟩ (M:=((R s)+L1)) (by omega) (by omega) (by omega)) rfl<|.cons (aB.V _ rfl)<|.cons (aB.V _ rfl)<|.cons (aB.V (.d (.one (.at 2 ((o8 K fa) (n-1-s))))) (lu (el:=(o8 K fa)) (z:=((n-1-s:Nat):Int)) (n:=n) rfl rfl rfl rfl rfl rfl (by omega) (by omega))) ?_;exact oV rfl<|oV rfl<|oC (I7 ⟨_,_,fun _ _ _ h=>h,ea (n-1-s) (by omega)⟩ (pR (R s) (y^s)) (M:=(K+(R s))) (by omega) (by omega) (by omega)) rfl<|oC (WB (pR ((R s)+L1) ((Ba c x y n s)*x)) (pR (K+(R s)) ((c (n-1-s))*(y^s))) (M:=(max ((R s)+L1) (K+(R s))+1))) rfl<|.nil<|mZ rfl<|mT<|aA<|mv2 rfl rfl<|mY (I7 (pR (R s) (y^s)) ⟨s2,xs2,fun _ _ _ h=>h,ey⟩ (M:=((R s)+L2)) (by omega) (by omega) (by omega)) rfl<|mZ rfl<|ak<|bN<|tN<|aA<|mv3 rfl rfl rfl<|ak<|⟨(s+1),by omega,by omega,wk rfl ⟨hs rfl,hs rfl,hs rfl,hs rfl,hs rfl,hs rfl,fM rfl (aG ((dS (by omega) (by omega)).trans (by omega))),trivial⟩ ⟨ho rfl,ho rfl,ho rfl,dX rfl (Af (by omega) rfl),dX rfl (Af (by omega) (Int.pow_succ y s).symm),trivial⟩ rfl⟩
 ·refine dO<|tE<|tE<|bE<|tN<|cR<|mW rfl<|mZ rfl<|mT<|aO ?_;have hie:n=s:=by have h0:=of_decide_eq_false hc1;omega
  subst hie;exact rQ rfl (jC (hRM _ hn) rfl)
theorem Gh{a:Lf}{K n:Nat}{c:Nat→Int}(ha:pY a K n c)(hn:n≤1000000:=by first|decide|omega)(hK:K≤1000000000:=by first|decide|omega):aC Tryz.prog 158 [.one a] (.d (.agg (zn K (c (dg c n-1))))):=by
 obtain ⟨⟨fa,ha,ea⟩,za⟩:=ha;refine aC.le (dl (DV.l ha) iM) AV.le.rfl ?_;have hla:=qQ c n;refine aN 15 [.cell 2 36] Tryz.func158 rfl<|cR<|mO rfl<|mT<|au<|cR<|mW rfl<|mY (tY (⟨⟨fa,fun _ _ _ h=>h,ea⟩,za⟩:pY (vT K n fa) K n c)) rfl<|mW rfl<|mT<|cR<|mv3 rfl rfl rfl<|mT<|aW rfl (fun hc1=>?_) (fun hc1=>?_)
 ·exact cR<|mW rfl<|mZ rfl<|mT<|aO<|tR<|rQ rfl (agA (Gt za (by have h0:=eq_of_beq hc1;omega) _))
 ·refine aF<|tN<|au ?_;have hl0:dg c n≠0:=fun e=>by have h0:=hc1;rw [e] at h0;exact absurd h0 (by decide)
  refine aA<|mv3 rfl rfl rfl<|mV aj (.d (.one (.v (.int .i64 ((dg c n-1:Nat):Int))))) (fH ((dS (by omega) (by omega)).trans (by omega)))<|mV aj (.d (.one (.at 2 ((bW K c) (dg c n-1))))) (lu (el:=(bW K c)) (z:=((dg c n-1:Nat):Int)) (n:=(dg c n)) rfl rfl rfl rfl rfl rfl (by omega) (by omega)) ?_;exact mW rfl<|mZ rfl<|mT<|aO<|rQ rfl (AV.le.rfl)
theorem I5{K n:Nat}{c:Nat→Int}(hn:n≤1000000:=by omega):aC Tryz.prog 69 [.one (gQ K n c)] (.d (.one (.v (.int .i64 ((n:Int)-1))))):=by
 exact aN 6 [.tmp 2] Tryz.func69 rfl<|cR<|mW rfl<|mT<|cR<|mv2 rfl rfl<|mV aj (.d (.one (.v (.int .i64 ((n:Int)-1))))) (fH (dS (by omega) (by omega)))<|mW rfl<|mT<|aO<|rQ rfl (AV.le.rfl)
theorem Xr(z:Int):jS z 0=wM z:=by unfold jS wM;(repeat' split) <;> omega
theorem aeY{a:Lf}{b:List Lf}{K L M n D T:Nat}{c:Nat→Int}{nn dd:Int}(ha:pY a K n c)(hb:EO b L nn dd)(hn:n≤D)(hDD:D≤1000:=by decide)(hT:K+(max L 2+1)+(max L 2+1)+5≤T:=by decide)(hM:(D+1)*T≤M:=by decide)(vI:M≤1000000000:=by decide)(hL:L≤1000000:=by decide)(hK:K≤10000000:=by decide):aC Tryz.prog 100 [.one a,.agg b] (.d (.one (.v (.int .i64 (wM (Ba c (dL nn dd).num ((dL nn dd).den:Int) (dg c n) (dg c n))))))):=by
 obtain ⟨⟨fa,ha,ea⟩,za⟩:=ha;obtain ⟨s0,Dw,t0,ys0,hb,e0,k0⟩:=hb;refine aC.le (dl (DV.l ha) (dl (DV.g hb) iM)) AV.le.rfl ?_;have hla:=qQ c n;refine aN 16 [.tmp 4] Tryz.func100 rfl<|cR<|mO rfl<|mW rfl<|mT<|cR<|mW rfl<|mY (ae0 (⟨s0,Dw,t0,ys0,fun _ _ _ h=>h,e0,k0⟩:EO ([.v (.bool s0),lr L Dw] ++ [.v (.bool t0),lr L ys0]) L nn dd) (M:=(max L 2+1))) rfl<|mZ rfl<|mT<|au ?_;have hMb:T≤M:=Nat.le_trans (Nat.le_mul_of_pos_left T (by omega)) hM;exact cDk 10<|.cons (aB.V _ rfl)<|oC (tY (⟨⟨fa,fun _ _ _ h=>h,ea⟩,za⟩:pY (vT K n fa) K n c)) rfl<|oV rfl<|oV rfl<|oV rfl<|oV rfl<|oC (aa1 (uw (K:=K) (c:=c) (nG za)) (pR (max L 2+1) (Rat.num (dL nn dd))) (pR (max L 2+1) (Rat.den (dL nn dd):Int)) (D:=D) (T:=T) (M:=M) (by omega) hDD hT hM vI) rfl<|oV rfl<|oC (ahK (pR M (Ba c (Rat.num (dL nn dd)) (Rat.den (dL nn dd):Int) (dg c n) (dg c n))) ab2) rfl<|.cons (aB.V _ rfl)<|.nil<|mT<|aO<|rQ rfl (aG (Xr _))
theorem aa9{K n:Nat}{c:Nat→Int}(hn:n≤1000000):aC Tryz.prog 111 [.one (dJ K n (rc c))] (.d (.one (.v (.bool true)))):=by
 refine aN 29 [.tmp 2] Tryz.func111 rfl<|cR<|mW rfl<|mT<|au<|cR<|mv3 rfl rfl rfl<|mT<|aJ<|dQ (ι:=Nat) (fun (i:Nat)=>⟨29,[(0,.d (.one (.row 4 n (aK K (rc c))))),(5,.d (.one (.v (.int .i64 (n:Int))))),(6,.d (.one (.v (.int .i64 ((i:Nat):Int)))))],[]⟩) (fun (i:Nat)=>i≤n) (fun (i:Nat)=>n-i) 0 (Nat.zero_le _) (wkr rfl rfl) ?_;rintro i hI;have hi:i≤n:=hI;show AW _ _ _ ⟨_,_,_⟩
 refine cR<|mW rfl<|mT<|au<|aW rfl (fun hc1=>?_) (fun hc1=>?_)
 ·refine aF<|tN<|au<|aJ<|cR<|mv2 rfl rfl<|mT<|au ?_;have hin:i < n:=by have h0:=of_decide_eq_true hc1;omega
  have hden:Int.natAbs ((rc c i).den:Int)=1:=by unfold rc;rw [Rat.den_intCast];rfl
  refine aA<|mv2 rfl rfl<|mV aj (.d (.one (.at 4 ((aK K (rc c)) i)))) (lu (el:=(aK K (rc c))) (z:=((i:Nat):Int)) (n:=n) rfl rfl rfl rfl rfl rfl (by omega) (by omega)) ?_;refine mv4 rfl rfl rfl rfl<|mbF rfl (by show (((aT (Int.natAbs ((rc c i).den:Int))).length:Int) !=1)=false;rw [hden,(Jq.2 rfl).1];rfl)<|mv3 rfl rfl rfl<|mV aj (.d (.one (.at 4 ((aK K (rc c)) i)))) (lu (el:=(aK K (rc c))) (z:=((i:Nat):Int)) (n:=n) rfl rfl rfl rfl rfl rfl (by omega) (by omega)) ?_;refine mv3 rfl rfl rfl<|kH 23 (.d (.one (.row 1 ((aT (Int.natAbs ((rc c i).den:Int))).length) (fun i _=> .v (.int .i64 (((aT (Int.natAbs ((rc c i).den:Int))).getD i 0:Nat):Int)))))) rfl (FP _ _)<|mV aj (.d (.one (.at 1 ((fun i _=> .v (.int .i64 (((aT (Int.natAbs ((rc c i).den:Int))).getD i 0:Nat):Int))) 0)))) (lu (el:=(fun i _=> .v (.int .i64 (((aT (Int.natAbs ((rc c i).den:Int))).getD i 0:Nat):Int)))) (z:=0) (n:=((aT (Int.natAbs ((rc c i).den:Int))).length)) rfl rfl rfl rfl rfl rfl (by decide) (by rw [hden,(Jq.2 rfl).1];decide)) ?_;exact mW rfl<|mbF rfl (by show ((((aT (Int.natAbs ((rc c i).den:Int))).getD 0 0:Nat):Int) !=1)=false;rw [hden,(Jq.2 rfl).2];rfl)<|mW rfl<|mT<|cF rfl<|aF<|bN<|tN<|aA<|mv2 rfl rfl<|ak<|⟨(i+1),by omega,by omega,wk rfl ⟨hs rfl,hs rfl,fM rfl (aG (dG (by omega))),trivial⟩ trivial rfl⟩
 ·exact dO<|tE<|tE<|bE<|tN<|cR<|mW rfl<|mT<|aO<|rQ rfl (AV.le.rfl)
theorem OB{t:TypeId}{K:Nat}:AO.le (.box t [.v (.slice none 0 0),.v (.bool false)]) (.box t (rn K 0)):=iY fun B w cs h=>MK (Nat.zero_le _) _ _ _ (agz h)
theorem ae6{a:Lf}{b:List Lf}{K L M n D T:Nat}{c:Nat→Int}{q:Rat}(ha:∀ B w v,eu B w a v→eu B w (dJ K n (rc c)) v)(hb:P9 b L q)(hn:n≤D)(hDD:D≤1000:=by decide)(hT:K+L+140≤T:=by decide)(hM:(D+1)*T≤M:=by decide)(vI:M≤10000000:=by decide):aC Tryz.prog 74 [.one a,.agg b] (.d (.one (.v (.int .i64 (wM (Ba c q.num (q.den:Int) n n)))))):=by
 refine aC.le (dl (DV.l ha) (dl (DV.g hb) iM)) AV.le.rfl ?_;obtain ⟨R,hR0,hR1,hRM⟩:∃ R:Nat→Nat,64≤R 0∧(∀ i,R i+T≤R (i+1))∧∀ i,i≤D→R i≤M:=⟨fun i=>(i+1)*T,by show 64≤(0+1)*T;omega,fun i=>by show (i+1)*T+T≤(i+1+1)*T;rw [Nat.succ_mul (i+1)];exact Nat.le_refl _,fun i hi=>Nat.le_trans (Nat.mul_le_mul_right _ (by omega)) hM⟩
 have hT1:=hRM 0 (Nat.zero_le _);have hTM:T≤M:=Nat.le_trans (Nat.le_mul_of_pos_left T (by omega)) hM;refine aN 42 [.tmp 4] Tryz.func74 rfl<|cR<|mO rfl<|mW rfl<|mT<|au<|cR<|mW rfl<|mY (aa9 (by omega)) rfl<|mW rfl<|mT<|cFs rfl<|cR<|mO rfl<|mT<|cR<|mY ER rfl<|mO rfl<|mZ rfl<|mT<|au<|cR<|mv2 rfl rfl<|mV aj (.d (.one (.v (.int .i64 ((n:Int)-1))))) (fH (dS (by omega) (by omega)))<|mW rfl<|mT<|aJ<|dQ (ι:=Nat) (fun (s:Nat)=>⟨42,[(0,.d (.one (.row 4 n (aK K (rc c))))),(3,.ptr 3 0),(5,.ptr 5 0),(6,.ptr 6 0),(7,.d (.one (.v (.int .i64 ((n:Int)-1-(s:Int))))))],[(3,.box 49 (qn L q)),(5,.box 47 (rn (R s) (Ba c q.num (q.den:Int) n s))),(6,.box 47 (rn (R s) ((q.den:Int)^s)))]⟩) (fun (s:Nat)=>s≤n) (fun (s:Nat)=>n-s) 0 (Nat.zero_le _) (wk rfl ⟨hs rfl,hs rfl,hs rfl,hs rfl,fM rfl (aG (by omega)),trivial⟩ ⟨ho rfl,dX rfl (OB),dX rfl (Ae (by omega) (Int.pow_zero (q.den:Int)).symm),trivial⟩ rfl) ?_;rintro s hI;have hi:s≤n:=hI;show AW _ _ _ ⟨_,_,_⟩
 refine au<|cR<|mv2 rfl rfl<|mT<|aW rfl (fun hc1=>?_) (fun hc1=>?_)
 ·refine aF<|tN<|au<|aJ<|au ?_;have hsd:s < n:=by have h0:=of_decide_eq_true hc1;omega
  have hR:=hR1 s;have hRm:=hRM (s+1) (by omega);refine iJ 7 (.d (.one (.v (.int .i64 ((n-1-s:Nat):Int))))) rfl (aG (by omega))<|cDk 12<|oV rfl<|oV rfl<|oV rfl<|oC (ou (fG (R s) (Ba c q.num (q.den:Int) n s)) (fG L (Rat.num q)) (M:=((R s)+L))) rfl<|.cons (aB.V _ rfl)<|.cons (aB.V _ rfl)<|.cons (aB.V (.d (.one (.at 4 ((aK K (rc c)) (n-1-s))))) (lu (el:=(aK K (rc c))) (z:=((n-1-s:Nat):Int)) (n:=n) rfl rfl rfl rfl rfl rfl (by omega) (by omega))) ?_;exact .cons (aB.V _ rfl)<|oV rfl<|oV rfl<|oC (ou (fG K (Rat.num ((rc c) (n-1-s)))) (fG (R s) ((q.den:Int)^s)) (M:=(K+(R s)))) rfl<|oC (WU (fG ((R s)+L) ((Ba c q.num (q.den:Int) n s)*(Rat.num q))) (fG (K+(R s)) ((Rat.num ((rc c) (n-1-s)))*((q.den:Int)^s))) (M:=(max ((R s)+L) (K+(R s))+1))) rfl<|.nil<|mZ rfl<|mT<|aA<|mv3 rfl rfl rfl<|mY (ou (fG (R s) ((q.den:Int)^s)) (fG L (Rat.den q:Int)) (M:=((R s)+L))) rfl<|mZ rfl<|ak<|bN<|tN<|aA<|mv3 rfl rfl rfl<|ak<|⟨(s+1),by omega,by omega,wk rfl ⟨hs rfl,hs rfl,hs rfl,hs rfl,fM rfl (aG ((dS (by omega) (by omega)).trans (by omega))),trivial⟩ ⟨ho rfl,dX rfl (Ae (by omega) (by show _=Ba c q.num (q.den:Int) n s*q.num+c (n-1-s)*(q.den:Int)^s;rw [show (rc c (n-1-s)).num=c (n-1-s) from Rat.num_intCast _])),dX rfl (Ae (by omega) (Int.pow_succ (q.den:Int) s).symm),trivial⟩ rfl⟩
 ·refine dO<|tE<|tE<|bE<|tN<|cR<|mW rfl<|mY (WX (fG (R s) (Ba c q.num (q.den:Int) n s))) rfl<|mW rfl<|mT<|aO ?_;have hie:n=s:=by have h0:=of_decide_eq_false hc1;omega
  subst hie;exact rE rfl
theorem Aq{y:Int}(h:y≠0):∀ s:Nat,¬ y^s=0
 | 0=>by rw [Int.pow_zero];decide
 | s+1=>by rw [Int.pow_succ];exact Int.mul_ne_zero (Aq h s) h
theorem acz(q:Rat):q*((q.den:Int):Rat)=(q.num:Rat):=by
 have h:=LP (x:=q.num) (y:=(q.den:Int)) (lH q);rw [jG (lH q),Rat.num_divInt_den] at h;exact h
theorem aeC{a:Nat→Int}{q:Rat}{top:Nat}:∀ s,((Ba a q.num (q.den:Int) top s:Int):Rat)*((q.den:Int):Rat)=((q.den:Int):Rat)^s*vlQ (rc a) q top s
 | 0=>by show ((0:Int):Rat)*_=_*(0:Rat);rw [Rat.mul_zero];exact Rat.zero_mul _
 | s+1=>by
  have h0:=aeC (a:=a) (q:=q) (top:=top) s;have hq:=acz q;show ((Ba a q.num (q.den:Int) top s*q.num+a (top-1-s)*(q.den:Int)^s:Int):Rat)*((q.den:Int):Rat)=((q.den:Int):Rat)^(s+1)*(vlQ (rc a) q top s*q+rc a (top-1-s))
  have hrc:rc a (top-1-s)=((a (top-1-s):Int):Rat):=rfl;rw [hrc,Rat.intCast_add,Rat.intCast_mul,Rat.intCast_mul,BF,Rat.pow_succ];grind
/-- The value: the sum of the terms. -/
def pe(a:Nat→Rat)(q:Rat):Nat→Rat
 | 0=>0
 | n+1=>pe a q n+a n*q^n
theorem Zz{a:Nat→Rat}{q:Rat}{top:Nat}:∀ s,s≤top→pe a q top=pe a q (top-s)+q^(top-s)*vlQ a q top s
 | 0,_=>by show _=pe a q (top-0)+_*(0:Rat);rw [Nat.sub_zero,Rat.mul_zero,Rat.add_zero]
 | s+1,h=>by
  rw [Zz s (by omega)];have e:top-s=(top-(s+1))+1:=by omega
  show _=_+_*(vlQ a q top s*q+a (top-1-s))
  rw [e,show top-1-s=top-(s+1) by omega];show pe a q (top-(s+1))+a (top-(s+1))*q^(top-(s+1))+_=_
  rw [Rat.pow_succ];grind
theorem aj2(a:Nat→Rat)(q:Rat)(n:Nat):vlQ a q n n=pe a q n:=by
 have h:=Zz (a:=a) (q:=q) (top:=n) n (Nat.le_refl _);rw [Nat.sub_self] at h;rw [h];show _=(0:Rat)+_
 rw [Rat.pow_zero,Rat.one_mul,Rat.zero_add]
theorem lQ{a b:Nat→Rat}{q:Rat}:∀ {n:Nat},(∀ i,i < n→a i=b i)→pe a q n=pe b q n
 | 0,_=>rfl
 | n+1,h=>by show _+_=_+_;rw [lQ (n:=n) fun i hi=>h i (by omega),h n (by omega)]
theorem CV{a:Nat→Rat}{q:Rat}{n:Nat}(h:∀ i,n≤i→a i=0):∀ d,pe a q (n+d)=pe a q n
 | 0=>rfl
 | d+1=>by show pe a q (n+d)+a (n+d)*_=_;rw [CV h d,h (n+d) (by omega),Rat.zero_mul,Rat.add_zero]
theorem Ii{a:Nat→Rat}{q:Rat}{n m:Nat}(h:∀ i,n≤i→a i=0)(k:∀ i,m≤i→a i=0):pe a q n=pe a q m:=by
 rcases Nat.le_total n m with e | e
 ·have:=CV (q:=q) h (m-n);rw [show n+(m-n)=m by omega] at this;exact this.symm
 ·have:=CV (q:=q) k (n-m);rw [show m+(n-m)=n by omega] at this;exact this
theorem yC{a b:Nat→Rat}{q:Rat}:∀ n,pe (lM a b) q n=pe a q n+pe b q n
 | 0=>by show (0:Rat)=0+0;grind
 | n+1=>by show pe (lM a b) q n+(a n+b n)*q^n=(pe a q n+_)+(pe b q n+_);rw [yC n];grind
theorem rO{a:Nat→Rat}{q r:Rat}:∀ n,pe (fO a r) q n=pe a q n*r
 | 0=>by show (0:Rat)=0*r;grind
 | n+1=>by show pe (fO a r) q n+(a n*r)*q^n=(pe a q n+_)*r;rw [rO n];grind
theorem CW{a:Nat→Rat}{q:Rat}:∀ {n:Nat},(∀ i,i < n→a i=0)→pe a q n=0
 | 0,_=>rfl
 | n+1,h=>by show _+_=_;rw [CW (n:=n) fun i hi=>h i (by omega),h n (by omega),Rat.zero_mul,Rat.add_zero]
theorem CX(q:Rat)(k:Nat):∀ m:Nat,q^(k+m)=q^k*q^m
 | 0=>by rw [Nat.add_zero,Rat.pow_zero,Rat.mul_one]
 | m+1=>by rw [← Nat.add_assoc,Rat.pow_succ,Rat.pow_succ,CX q k m,Rat.mul_assoc]
theorem Ij{b:Nat→Rat}{q x:Rat}{k:Nat}:∀ m,pe (fun j=>if k≤j then x*b (j-k) else 0) q (k+m)=x*q^k*pe b q m
 | 0=>by
  show _=x*q^k*(0:Rat)
  rw [Rat.mul_zero];exact CW fun i hi=>if_neg (by omega)
 | m+1=>by
  show pe _ q (k+m)+(if k≤k+m then x*b (k+m-k) else 0)*q^(k+m)=x*q^k*(pe b q m+b m*q^m)
  rw [Ij m,if_pos (by omega),Nat.add_sub_cancel_left,CX];grind
theorem aef{a b:Nat→Rat}{q:Rat}{m:Nat}(hb:∀ i,m≤i→b i=0):∀ k,pe (cv a b k) q (k+m)=pe a q k*pe b q m
 | 0=>by
  show _=(0:Rat)*_
  rw [Rat.zero_mul];exact CW fun i hi=>rfl
 | k+1=>by
  have h1:pe (cv a b (k+1)) q (k+1+m)=pe (lM (cv a b k) (fun j=>if k≤j then a k*b (j-k) else 0)) q (k+1+m):=lQ fun i hi=>rfl
  rw [h1,yC,show k+1+m=(k+m)+1 by omega];have h2:pe (cv a b k) q (k+m+1)=pe (cv a b k) q (k+m):=CV (n:=k+m) (fun i hi=>BI fun j hj hji=>by rw [hb (i-j) (by omega),Rat.mul_zero]) 1;rw [h2,aef hb k];have h3:=Ij (b:=b) (q:=q) (x:=a k) (k:=k) (m+1);rw [← Nat.add_assoc] at h3;rw [h3];show _=(pe a q k+a k*q^k)*_
  have h4:pe b q (m+1)=pe b q m:=CV hb 1;rw [h4];grind
/-- The product's value. -/
theorem LW{a b:Nat→Rat}{q:Rat}{n m:Nat}(ha:∀ i,n≤i→a i=0)(hb:∀ i,m≤i→b i=0):pe (aX a b) q (n+m)=pe a q n*pe b q m:=by
 rw [← aef hb n];exact lQ fun i hi=>(NZ ha).symm
/-- The value of a row of whole numbers. -/
def pz(c:Nat→Int)(q:Rat)(n:Nat):Rat:=pe (rc c) q n
theorem zQ{c:Nat→Int}{q:Rat}{n m:Nat}(h:∀ i,n≤i→c i=0)(k:∀ i,m≤i→c i=0):pz c q n=pz c q m:=Ii (ql h) (ql k)
theorem MC{a b:Nat→Int}{q:Rat}{n m p:Nat}(ha:∀ i,n≤i→a i=0)(hb:∀ i,m≤i→b i=0)(hp:∀ i,p≤i→aX a b i=0):pz (aX a b) q p=pz a q n*pz b q m:=by
 rw [zQ hp (fK ha hb)];show pe _ q _=_
 rw [lQ (b:=aX (rc a) (rc b)) fun i _=>(Uk a b i).symm];exact LW (ql ha) (ql hb)
theorem ag1{a:Nat→Int}{q:Rat}{n:Nat}(y:Int):pz (iK a y) q n=pz a q n*(y:Rat):=by
 show pe _ q _=_
 rw [lQ (a:=rc (iK a y)) (b:=fO (rc a) (y:Rat)) fun i _=>Rat.intCast_mul _ _];exact rO n
theorem ZR(c:Nat→Int)(q:Rat)(n:Nat):vlQ (rc c) q n n=pz c q n:=aj2 _ _ _
/-! ### Far out -/
theorem qM{d:Int}(h:0 < d):wM d=1:=by unfold wM;rw [if_neg (by omega),if_neg (by omega)]
theorem tK{d:Int}(h:d < 0):wM d= -1:=by unfold wM;rw [if_pos h]
theorem IB:wM 0=0:=rfl
theorem acQ(a b:Int):wM (a*b)=wM a*wM b:=by
 rcases Int.lt_trichotomy a 0 with ha | ha | ha
 ·rcases Int.lt_trichotomy b 0 with hb | hb | hb
  ·rw [tK ha,tK hb,qM (Int.mul_pos_of_neg_of_neg ha hb)];rfl
  ·rw [hb,Int.mul_zero,IB,Int.mul_zero]
  ·rw [tK ha,qM hb,tK (Int.mul_neg_of_neg_of_pos ha hb)];rfl
 ·rw [ha,Int.zero_mul,IB,Int.zero_mul]
 ·rcases Int.lt_trichotomy b 0 with hb | hb | hb
  ·rw [qM ha,tK hb,tK (Int.mul_neg_of_pos_of_neg ha hb)];rfl
  ·rw [hb,Int.mul_zero,IB,Int.mul_zero]
  ·rw [qM ha,qM hb,qM (Int.mul_pos ha hb)];rfl
theorem acP{v x c:Int}(hv:v≠0)(h:c.natAbs < x.natAbs):wM (v*x+c)=wM v*wM x:=by
 rw [← acQ];have h1:x.natAbs≤(v*x).natAbs:=by rw [Int.natAbs_mul];exact Nat.le_mul_of_pos_left _ (Int.natAbs_pos.2 hv)
 rcases Int.lt_trichotomy (v*x) 0 with e | e | e
 ·rw [tK e,tK (by omega)]
 ·rw [e] at h1;have:(0:Int).natAbs=0:=rfl;omega
 ·rw [qM e,qM (by omega)]
theorem Ei{z:Int}:wM z≠0↔z≠0:=by unfold wM;constructor <;> intro h <;> (repeat' split at *) <;> omega
theorem KT{c:Nat→Int}{x:Int}{top:Nat}(h:∀ i,i < top→(c i).natAbs < x.natAbs)(h0:c (top-1)≠0):∀ s,s < top→wM (Ba c x 1 top (s+1))=wM (c (top-1))*(wM x)^s
 | 0,hs=>by
  show wM (0*x+c (top-1-0)*1^0)=_
  rw [Int.zero_mul,Int.zero_add,Int.pow_zero,Int.mul_one,Int.pow_zero,Int.mul_one,Nat.sub_zero]
 | s+1,hs=>by
  have ih:=KT h h0 s (by omega);have hx:x≠0:=by have:=h 0 (by omega);omega
  have hv:Ba c x 1 top (s+1)≠0:=by
   rw [← Ei,ih];exact Int.mul_ne_zero (Ei.2 h0) (Aq (Ei.2 hx) s)
  show wM (Ba c x 1 top (s+1)*x+c (top-1-(s+1))*1^(s+1))=_
  rw [Int.one_pow,Int.mul_one,acP hv (h _ (by omega)),ih,Int.pow_succ,Int.mul_assoc]
theorem RP{a:Nat→Int}{x:Int}{top:Nat}:∀ s,((Ba a x 1 top s:Int):Rat)=vlQ (rc a) (x:Rat) top s
 | 0=>rfl
 | s+1=>by
  show ((Ba a x 1 top s*x+a (top-1-s)*1^s:Int):Rat)=vlQ (rc a) (x:Rat) top s*(x:Rat)+rc a (top-1-s)
  rw [Int.one_pow,Int.mul_one,Rat.intCast_add,Rat.intCast_mul,RP s];rfl
/-- The sum of all sizes. -/
def szs(c:Nat→Int):Nat→Int
 | 0=>0
 | n+1=>szs c n+((c n).natAbs:Int)
theorem MS(c:Nat→Int):∀ n,0≤szs c n
 | 0=>Int.le_refl _
 | n+1=>by show 0≤szs c n+_;have:=MS c n;omega
theorem aap{c:Nat→Int}:∀ {n i:Nat},i < n→((c i).natAbs:Int)≤szs c n
 | n+1,i,h=>by
  show _≤szs c n+_
  have:=MS c n;rcases Nat.eq_or_lt_of_le (Nat.le_of_lt_succ h) with e | e
  ·subst e;omega
  ·have:=aap (c:=c) e;omega
/-- Rows that are 0 everywhere. -/
theorem FV{c:Nat→Int}{n:Nat}(hz:∀ i,n≤i→c i=0)(h:∀ x:Int,pz c (x:Rat) n=0):∀ i,c i=0:=by
 have hd:dg c n=0:=by
  refine Classical.byContradiction fun hne=>?_
  have h0:=Jp hne
  let m:=dg c n
  have h1:=KT (c:=c) (x:=1+szs c m) (top:=m) (fun i hi=>by have:=aap (c:=c) hi;have:=MS c m;omega) h0 (m-1) (by omega);rw [show m-1+1=m by omega] at h1;have h2:Ba c (1+szs c m) 1 m m=0:=by
   have h3:=RP (a:=c) (x:=1+szs c m) (top:=m) m;rw [ZR,zQ (nG hz) hz,h] at h3;exact Rat.intCast_eq_zero_iff.1 h3
  rw [h2] at h1;have hx:(1+szs c m)≠0:=by have:=MS c m;omega
  exact Int.mul_ne_zero (Ei.2 h0) (Aq (Ei.2 hx) (m-1)) h1.symm
 exact Gt hz hd
theorem ZQ{a b:Nat→Int}{q:Rat}{n:Nat}:pz (oK a b) q n=pz a q n-pz b q n:=by
 have h:pe (lM (rc a) (fO (rc b) (-1))) q n=pz (oK a b) q n:=lQ fun i _=>by
  show rc a i+rc b i*(-1)=((a i-b i:Int):Rat)
  rw [Rat.intCast_sub];show (a i:Rat)+(b i:Rat)*(-1)=_;grind
 rw [← h,yC,rO];show _=pe (rc a) q n-pe (rc b) q n
 grind
/-- THE LAW OF ONE: rows that have one value at all whole numbers are one. -/
theorem ag0{a b:Nat→Int}{n m:Nat}(ha:∀ i,n≤i→a i=0)(hb:∀ i,m≤i→b i=0)(h:∀ x:Int,pz a (x:Rat) n=pz b (x:Rat) m):∀ i,a i=b i:=by
 have hz:∀ i,max n m≤i→oK a b i=0:=QS ha hb
 have h1:=FV hz (fun x=>by
  rw [ZQ,zQ (c:=a) (n:=max n m) (m:=n) (fun i hi=>ha i (by omega)) ha,zQ (c:=b) (n:=max n m) (m:=m) (fun i hi=>hb i (by omega)) hb,h];grind)
 intro i;have:=h1 i;unfold oK at this;omega
theorem aeD(c:Nat→Int)(q:Rat)(n:Nat):((Ba c q.num (q.den:Int) n n:Int):Rat)*((q.den:Int):Rat)=((q.den:Int):Rat)^n*pz c q n:=by rw [aeC,ZR]
/-- Two rows one behind the other. -/
def abq{α:Type}(n:Nat)(c d:Nat→α):Nat→α:=fun i=>bif Nat.ble (i+1) n then c i else d (i-n)
theorem afl{α:Type}{n i:Nat}{c d:Nat→α}(h:i < n):abq n c d i=c i:=by unfold abq;rw [show Nat.ble (i+1) n=true from Nat.ble_eq_true_of_le h];rfl
/-- The least common denominator of the first n. -/
def lcd(q:Nat→Rat):Nat→Nat
 | 0=>1
 | n+1=>Nat.lcm (lcd q n) (q n).den
theorem Lu{q:Nat→Rat}:∀ n,0 < lcd q n
 | 0=>Nat.one_pos
 | n+1=>Nat.lcm_pos (Lu n) (q n).den_pos
theorem Lr{q:Nat→Rat}{i:Nat}:∀ {n},i < n→(q i).den∣lcd q n
 | 0,h=>absurd h (Nat.not_lt_zero _)
 | n+1,h=>by
  rcases Nat.lt_or_ge i n with h1 | h1
  ·exact Nat.dvd_trans (Lr h1) (Nat.dvd_lcm_left _ _)
  ·obtain rfl:i=n:=by omega
   exact Nat.dvd_lcm_right _ _
theorem Tq{c d:Nat→Int}:∀ {n:Nat},(∀ i,i < n→c i=d i)→bn c n=bn d n
 | 0,_=>rfl
 | n+1,h=>by show Nat.gcd (bn c n) _=Nat.gcd (bn d n) _;rw [Tq (fun i hi=>h i (by omega)),h n (by omega)]
theorem xM{c:Nat→Int}{i:Nat}:∀ {n},i < n→bn c n∣(c i).natAbs
 | 0,h=>absurd h (Nat.not_lt_zero _)
 | n+1,h=>by
  rcases Nat.lt_or_ge i n with h1 | h1
  ·exact Nat.dvd_trans (Nat.gcd_dvd_left _ _) (xM h1)
  ·obtain rfl:i=n:=by omega
   exact Nat.gcd_dvd_right _ _
/-- A normal curve's coefficients, over L. -/
def cX(L:Nat)(c:Nat→Rat):Nat→Int:=fun i=>(c i*dL (L:Int) 1).num
theorem afj{L n:Nat}{c:Nat→Rat}(h:∀ i,n≤i→c i=0):∀ i,n≤i→cX L c i=0:=fun i hi=>by unfold cX;rw [h i hi,Rat.zero_mul];rfl
def crL(n m:Nat)(p q:Nat→Rat):Nat:=lcd (abq (dg p n) p q) (dg p n+dg q m)
/-- Each over a number. -/
def qW(c:Nat→Int)(g:Int):Nat→Int:=fun i=>c i / g
theorem zI{c:Nat→Int}{g:Int}{n:Nat}(h:∀ i,n≤i→c i=0):∀ i,n≤i→qW c g i=0:=fun i hi=>by unfold qW;rw [h i hi];exact Int.zero_ediv _
theorem Xl{L:Nat}{p:Nat→Rat}{i:Nat}(h:(p i).den∣L):rc (cX L p) i=p i*dL (L:Int) 1:=by
 obtain ⟨e,rfl⟩:=h;have h:=LP (x:=(p i).num) (y:=((p i).den:Int)) (by have:=(p i).den_pos;omega);rw [jr] at h;have h2:p i*dL (((p i).den*e:Nat):Int) 1=(((p i).num*(e:Int):Int):Rat):=by
  rw [ji,Int.natCast_mul,Rat.intCast_mul,← Rat.mul_assoc,h,← Rat.intCast_mul]
 show (((p i*dL (((p i).den*e:Nat):Int) 1).num:Int):Rat)=_
 rw [h2,Rat.num_intCast]
theorem abw{n m:Nat}{p q:Nat→Rat}:0 < crL n m p q:=Lu _
theorem aek{n m:Nat}{p q:Nat→Rat}(zp:∀ i,n≤i→p i=0)(i:Nat):rc (cX (crL n m p q) p) i=p i*dL (crL n m p q:Int) 1:=by
 by_cases h:i < dg p n
 ·refine Xl ?_
  have:=Lr (q:=abq (dg p n) p q) (i:=i) (n:=dg p n+dg q m) (by omega);rwa [afl h] at this
 ·have hp:p i=0:=nG zp i (by omega)
  unfold rc cX;rw [hp,Rat.zero_mul];rfl
/-- Rows with one value at all whole numbers are one. -/
theorem Ub{c:Nat→Rat}{n:Nat}(hz:∀ i,n≤i→c i=0)(h:∀ x:Int,pe c (x:Rat) n=0)(i:Nat):c i=0:=by
 have hL:=abw (n:=n) (m:=0) (p:=c) (q:=fun _=>0);have hc:∀ j,rc (cX (crL n 0 c fun _=>0) c) j=fO c (dL (crL n 0 c fun _=>0:Int) 1) j:=fun j=>aek hz j
 have h0:=FV (c:=cX (crL n 0 c fun _=>0) c) (n:=n) (afj hz) (fun x=>by
  show pe (rc _) _ _=0
  rw [funext hc,rO,h x,Rat.zero_mul]) i
 have h1:=aek (m:=0) (q:=fun _=>0) hz i;unfold rc at h1;rw [h0,ji] at h1;rcases Rat.mul_eq_zero.1 h1.symm with h2 | h2
 ·exact h2
 ·have:=Rat.intCast_eq_zero_iff.1 h2;omega
theorem ZA{a b:Nat→Rat}{n m:Nat}(ha:∀ i,n≤i→a i=0)(hb:∀ i,m≤i→b i=0)(h:∀ x:Int,pe a (x:Rat) n=pe b (x:Rat) m)(i:Nat):a i=b i:=by
 have hz:∀ j,max n m≤j→lM a (fO b (-1)) j=0:=fun j hj=>by
  show a j+b j* -1=0
  rw [ha j (by omega),hb j (by omega)];grind
 have h0:=Ub hz (fun x=>by
  rw [yC,rO,Ii (m:=n) (fun j hj=>ha j (by omega)) ha,Ii (a:=b) (m:=m) (fun j hj=>hb j (by omega)) hb,h x];grind) i
 have h1:a i+b i* -1=0:=h0;grind
end Go.Proofs.YtapmpcgekdplfaaGreat
