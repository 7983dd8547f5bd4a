/-
  Laws of the program's functions by an abstract machine, part 2: joined, short spelling. No condition.
-/
import Derived.Test.YtapmpcgekdplfaaGreatJ1
set_option linter.unusedVariables false
set_option linter.unusedSimpArgs false
set_option maxRecDepth 100000
set_option maxHeartbeats 4000000
namespace Go.Proofs.YtapmpcgekdplfaaGreat
open Go.RowKit
section
variable {b M top next Vl head u2 Ul U V g r:Nat}
/-- The first guess is not too small. -/
theorem kn_init(hU:U=(head*b+u2)*M+Ul)(hUl:Ul < M)(hu2:u2 < b)(hV:V=(top*b+next)*M+Vl)(hh:head=g*top+r)(hr:r < top):U < (g+1)*V:=by
 have h1:(head*b+u2+1)*M≤((g+1)*(top*b))*M:=by
  refine Nat.mul_le_mul_right _ ?_;have h2:(head+1)*b≤((g+1)*top)*b:=Nat.mul_le_mul_right _ (by rw [hh,Nat.add_mul];omega);rw [Nat.add_mul] at h2;rw [← Nat.mul_assoc];omega
 have h3:(g+1)*V=((g+1)*(top*b))*M+(g+1)*(next*M+Vl):=by rw [hV];grind
 have h4:(head*b+u2+1)*M=(head*b+u2)*M+M:=by rw [Nat.add_mul,Nat.one_mul]
 omega
/-- Where the test says so the guess is too great. -/
theorem kn_dec(hU:U=(head*b+u2)*M+Ul)(hUl:Ul < M)(hV:V=(top*b+next)*M+Vl)(hh:head=g*top+r)(ht:r*b+u2 < g*next):U < g*V:=by
 have h1:(head*b+u2+1)*M≤(g*(top*b)+g*next)*M:=by
  refine Nat.mul_le_mul_right _ ?_;have:head*b=g*(top*b)+r*b:=by rw [hh];grind
  omega
 have h3:g*V=(g*(top*b)+g*next)*M+g*Vl:=by rw [hV];grind
 have h4:(head*b+u2+1)*M=(head*b+u2)*M+M:=by rw [Nat.add_mul,Nat.one_mul]
 omega
/-- Where the test says no the guess is one too great at most. -/
theorem kn_exit(hU:U=(head*b+u2)*M+Ul)(hV:V=(top*b+next)*M+Vl)(hVl:Vl < M)(hh:head=g*top+r)(ht:g*next≤r*b+u2)(hg:g < b)(htop:0 < top):g*V≤U+V:=by
 have h1:(g*(top*b)+g*next)*M≤(head*b+u2)*M:=by
  refine Nat.mul_le_mul_right _ ?_;have:head*b=g*(top*b)+r*b:=by rw [hh];grind
  omega
 have h3:g*V=(g*(top*b)+g*next)*M+g*Vl:=by rw [hV];grind
 have h5:g*Vl≤b*M:=Nat.mul_le_mul (Nat.le_of_lt hg) (Nat.le_of_lt hVl);have h6:b*M≤V:=by
  rw [hV];have h7:(1*b)*M≤(top*b+next)*M:=Nat.mul_le_mul_right _ (by have:=Nat.mul_le_mul_right b (show 1≤top from htop);omega);rw [Nat.one_mul] at h7;omega
 omega
end
/-- The highest digit of what is divided is no greater than the divisor's. -/
theorem kn_top{b M u0 u1 u2 Ul U top next Vl V:Nat}(hU:U=((u0*b+u1)*b+u2)*M+Ul)(hV:V=(top*b+next)*M+Vl)(hVl:Vl < M)(hn:next < b)(h:U < b*V):u0≤top:=by
 rcases Nat.lt_or_ge top u0 with h0 | h0
 ·exfalso
  have h1:((top+1)*b)*b*M≤(u0*b)*b*M:=Nat.mul_le_mul_right _ (Nat.mul_le_mul_right _ (Nat.mul_le_mul_right _ h0));have h2:(u0*b)*b*M≤U:=by
   rw [hU];have:(u0*b)*b*M≤((u0*b+u1)*b+u2)*M:=Nat.mul_le_mul_right _ (by rw [Nat.add_mul (u0*b)];omega);omega
  have h3:V+M≤((top+1)*b)*M+M:=by
   have:(top*b+next+1)*M≤((top+1)*b)*M:=Nat.mul_le_mul_right _ (by rw [Nat.add_mul];omega);rw [Nat.add_mul,Nat.one_mul] at this;rw [hV];omega
  have h3':V≤((top+1)*b)*M:=by omega
  have h4:=Nat.mul_le_mul_left b h3';have h5:b*((top+1)*b*M)=((top+1)*b)*b*M:=by grind
  omega
 ·exact h0
/-- A quotient between a guess less one and the guess. -/
theorem div_is{U V q:Nat}(hV:0 < V)(h1:q*V≤U)(h2:U < (q+1)*V):U / V=q:=by
 have h3:q≤U / V:=(Nat.le_div_iff_mul_le hV).2 h1;have h4:U / V < q+1:=(Nat.div_lt_iff_lt_mul hV).2 h2;omega
/-- One digit of a row less a multiple. -/
theorem msub_step{B i x y g cy bw d c1 b1:Nat}{W U Y:List Nat}(hi:i < W.length)(hv:valB B (W.take i)+g*valB B (Y.take i)=valB B (U.take i)+B^i*(cy+bw)) 
  (hU:U[i]?=some x) (hY:Y[i]?=some y) (hd:d+(g*y+cy)+bw=x+B*(b1+c1)):
  valB B ((W.set i d).take (i+1))+g*valB B (Y.take (i+1))=valB B (U.take (i+1))+B^(i+1)*(c1+b1):=by
 rw [valB_take_set B W i d hi,valB_take_some B hU,valB_take_some B hY,Nat.pow_succ,Nat.mul_assoc];have h1:B^i*(d+(g*y+cy)+bw)=B^i*(x+B*(b1+c1)):=by rw [hd]
 rw [Nat.mul_add,Nat.mul_add,Nat.mul_add,Nat.mul_add] at h1;have h2:g*(valB B (Y.take i)+B^i*y)=g*valB B (Y.take i)+B^i*(g*y):=by grind
 rw [h2,Nat.add_comm c1 b1];rw [Nat.mul_add] at hv;omega
/-- The end of a digit whose guess is right. -/
theorem digit_end0{B n u0 cy bw g t:Nat}{W Wc Y:List Nat}(hWl:W.length=n+1)(hWc:Wc.length=n+1)(hYl:Y.length=n)(hu:W[n]?=some u0) 
  (hv:valB B (Wc.take n)+g*valB B (Y.take n)=valB B (W.take n)+B^n*(cy+bw)) (ht:t+cy+bw=u0):valB B (Wc.set n t)+g*valB B Y=valB B W:=by
 have h1:=valB_take_set B Wc n t (by omega);rw [valB_take_all B (by rw [List.length_set];exact hWc)] at h1;have h2:=valB_take_some B hu;rw [valB_take_all B hWl] at h2;rw [valB_take_all B hYl] at hv;rw [h1,h2,← ht,Nat.mul_add,Nat.mul_add];rw [Nat.mul_add] at hv;omega
/-- .. whose guess is one too great: before what is added back. -/
theorem digit_end1{B n u0 cy bw g t:Nat}{W Wc Y:List Nat}(hWl:W.length=n+1)(hWc:Wc.length=n+1)(hYl:Y.length=n)(hu:W[n]?=some u0) 
  (hv:valB B (Wc.take n)+g*valB B (Y.take n)=valB B (W.take n)+B^n*(cy+bw)) (ht:t+cy+bw=u0+B):valB B (Wc.set n t)+g*valB B Y=valB B W+B^(n+1):=by
 have h1:=valB_take_set B Wc n t (by omega);rw [valB_take_all B (by rw [List.length_set];exact hWc)] at h1;have h2:=valB_take_some B hu;rw [valB_take_all B hWl] at h2;rw [valB_take_all B hYl] at hv;have h3:B^n*(t+cy+bw)=B^n*(u0+B):=by rw [ht]
 rw [h1,h2,Nat.pow_succ];rw [Nat.mul_add,Nat.mul_add,Nat.mul_add] at h3;rw [Nat.mul_add] at hv;omega
/-- .. behind it. -/
theorem digit_end2{B n bk g t e x:Nat}{V:Nat}{Wd Wc Y:List Nat}(hWd:Wd.length=n+1)(hWc:Wc.length=n+1)(hYl:Y.length=n)(ht:Wc[n]?=some t) 
  (hv:valB B (Wd.take n)+B^n*bk=valB B (Wc.take n)+valB B (Y.take n)) (hx:x+B*e=t+bk) (he:e≤1)
  (hW:valB B Wc+g*valB B Y=V+B^(n+1)) (hB:valB B (Wd.set n x) < B^(n+1)) (hY:valB B Y < B^(n+1)) (hg:g*valB B Y≤V+valB B Y) (hg2:V < g*valB B Y):
  valB B (Wd.set n x)+g*valB B Y=V+valB B Y:=by
 have h1:=valB_take_set B Wd n x (by omega);rw [valB_take_all B (by rw [List.length_set];exact hWd)] at h1;have h2:=valB_take_some B ht;rw [valB_take_all B hWc] at h2;rw [valB_take_all B hYl] at hv;have h3:B^n*(x+B*e)=B^n*(t+bk):=by rw [hx]
 have hp:B^n*(B*e)=B^(n+1)*e:=by rw [Nat.pow_succ,Nat.mul_assoc]
 rw [Nat.mul_add,Nat.mul_add,hp] at h3;have he2:e=0∨e=1:=by omega
 rcases he2 with rfl | rfl
 ·rw [Nat.mul_zero] at h3;omega
 ·rw [Nat.mul_one] at h3;omega
theorem mod_is{U V q r:Nat}(h:r+q*V=U)(hr:r < V):U / V=q∧U%V=r:=by
 have hV:0 < V:=by omega
 have h1:U / V=q:=div_is hV (by omega) (by rw [Nat.add_mul,Nat.one_mul];omega);refine ⟨h1,?_⟩;have h2:=Nat.mod_add_div U V;rw [h1,Nat.mul_comm V q] at h2;omega
/-- One digit of what is added back. -/
theorem addb_step{B i x y bk d c1:Nat}{W U Y:List Nat}(hi:i < W.length)(hv:valB B (W.take i)+B^i*bk=valB B (U.take i)+valB B (Y.take i)) 
  (hU:U[i]?=some x) (hY:Y[i]?=some y) (hd:d+B*c1=x+y+bk):
  valB B ((W.set i d).take (i+1))+B^(i+1)*c1=valB B (U.take (i+1))+valB B (Y.take (i+1)):=by
 rw [valB_take_set B W i d hi,valB_take_some B hU,valB_take_some B hY,Nat.pow_succ,Nat.mul_assoc];have h1:B^i*(d+B*c1)=B^i*(x+y+bk):=by rw [hd]
 rw [Nat.mul_add,Nat.mul_add,Nat.mul_add] at h1;omega
/-- A row of k + 2 digits by its two highest ones. -/
theorem top_two{B k a c:Nat}{Y:List Nat}(hl:Y.length=k+2)(ha:Y[k+1]?=some a)(hc:Y[k]?=some c):valB B Y=(a*B+c)*B^k+valB B (Y.take k):=by
 have h1:=valB_take_some B ha;have h2:=valB_take_some B hc;rw [valB_take_all B hl,h2,Nat.pow_succ] at h1;rw [h1];grind
/-- A row of k + 3 digits by its three highest ones. -/
theorem top_three{B k a c e:Nat}{U:List Nat}(hl:U.length=k+3)(ha:U[k+2]?=some a)(hc:U[k+1]?=some c)(he:U[k]?=some e):
  valB B U=((a*B+c)*B+e)*B^k+valB B (U.take k):=by
 have h1:=valB_take_some B ha;have h2:=valB_take_some B hc;have h3:=valB_take_some B he;rw [valB_take_all B hl,h2,h3,Nat.pow_succ,Nat.pow_succ] at h1;rw [h1,Nat.pow_succ];grind
theorem top_two'{B n a c:Nat}{Y:List Nat}(h2:2≤n)(hl:Y.length=n)(ha:Y[n-1]?=some a)(hc:Y[n-2]?=some c):valB B Y=(a*B+c)*B^(n-2)+valB B (Y.take (n-2)):=by
 obtain ⟨k,rfl⟩:∃ k,n=k+2:=⟨n-2,by omega⟩
 exact top_two hl ha hc
theorem top_three'{B n a c e:Nat}{U:List Nat}(h2:2≤n)(hl:U.length=n+1)(ha:U[n]?=some a)(hc:U[n-1]?=some c)(he:U[n-2]?=some e):
  valB B U=((a*B+c)*B+e)*B^(n-2)+valB B (U.take (n-2)):=by
 obtain ⟨k,rfl⟩:∃ k,n=k+2:=⟨n-2,by omega⟩
 exact top_three hl ha hc he
theorem take_lt{B k:Nat}{Y:List Nat}(hB:∀ x∈Y,x < B)(hk:k≤Y.length):valB B (Y.take k) < B^k:=by
 have:=valB_lt (B:=B) (xs:=Y.take k) (fun x h=>hB x (List.mem_of_mem_take h));rwa [List.length_take,Nat.min_eq_left hk] at this
/-- One digit of a long division: what is divided is low enough; what lies above is nothing. -/
theorem div_pre{B n V i:Nat}{A W C:List Nat}(hB:2≤B)(hi:A.length=i)(hW:W.length=n+1)(hlt:∀ x∈W,x < B)(hV:V < B^n)(h:valB B ((A ++(W ++C)).drop (i+1)) < V):
  valB B W < B*V∧valB B C=0:=by
 obtain ⟨x,W1,rfl⟩:∃ x W1,W=x ::W1:=by
  cases W with
  | nil=>simp at hW
  | cons x W1=>exact ⟨x,W1,rfl⟩
 have e:(A ++(x ::W1 ++C)).drop (i+1)=W1 ++C:=by
  subst hi;rw [← List.drop_drop,List.drop_left];rfl
 rw [e,valB_append] at h;have hx:x < B:=hlt x List.mem_cons_self;have hl:W1.length=n:=by simpa using hW
 rw [hl] at h;have h0:valB B C=0:=by
  rcases Nat.eq_zero_or_pos (valB B C) with h1 | h1
  ·exact h1
  ·have:=Nat.mul_le_mul_left (B^n) h1
   omega
 refine ⟨?_,h0⟩;rw [h0,Nat.mul_zero,Nat.add_zero] at h;rw [valB_cons];have:=Nat.mul_le_mul_left B (show valB B W1+1≤V from h);rw [Nat.mul_add,Nat.mul_one] at this;omega
theorem div_step{B n V i q X:Nat}{A W W' C qs:List Nat}(hA:A.length=i)(hC:valB B C=0)(hW:valB B W'+q*V=valB B W)(hi:i < qs.length) 
  (hv:valB B (A ++(W ++C))+B^(i+1)*(valB B (qs.drop (i+1))*V)=X) (hW':W'.length=n+1) (hWl:W.length=n+1):
  valB B (A ++(W' ++C))+B^i*(valB B ((qs.set i q).drop i)*V)=X∧valB B ((A ++(W' ++C)).drop i)=valB B W':=by
 constructor
 ·rw [valB_drop_set B qs i q hi]
  rw [valB_append,valB_append,hC,Nat.mul_zero,Nat.add_zero,hA] at hv ⊢;rw [← hv,← hW,Nat.pow_succ];grind
 ·subst hA
  rw [List.drop_left,valB_append,hC,Nat.mul_zero,Nat.add_zero]
theorem unscale{U V S q r:Nat}(hS:0 < S)(h:r+q*(V*S)=U*S)(hr:r < V*S):U / V=q∧U%V=r / S:=by
 have h1:q*(V*S)=(q*V)*S:=by rw [Nat.mul_assoc]
 have hle:q*V≤U:=by
  refine Nat.le_of_mul_le_mul_right (c:=S) ?_ hS;omega
 have hr2:r=(U-q*V)*S:=by rw [Nat.sub_mul];omega
 have hrS:r / S=U-q*V:=by rw [hr2,Nat.mul_div_cancel _ hS]
 have hlt:U-q*V < V:=by
  rw [hr2] at hr;exact Nat.lt_of_mul_lt_mul_right hr
 have:=mod_is (U:=U) (V:=V) (q:=q) (r:=U-q*V) (by omega) hlt;rw [hrS];exact this
/-- What the first divisor's digit says of the divisor moved up. -/
theorem scale_facts{B k v low S V:Nat}(hV:V=v*B^k+low)(hlow:low < B^k)(h1:(v+1)*S≤B)(h2:B≤2*(v*S))(hS:0 < S):
  V*S < B^(k+1)∧B*B^k≤2*(V*S)∧B^k*S≤V*S:=by
 have hv:1≤v:=by
  rcases Nat.eq_zero_or_pos v with h0 | h0
  ·exfalso
   subst h0;have:=Nat.mul_le_mul_left 1 hS;omega
  ·exact h0
 refine ⟨?_,?_,?_⟩
 ·have h3:V+1≤(v+1)*B^k:=by rw [Nat.add_mul];omega
  have h4:(V+1)*S≤(v+1)*B^k*S:=Nat.mul_le_mul_right _ h3;have h5:(v+1)*B^k*S=(v+1)*S*B^k:=by grind
  have h6:(v+1)*S*B^k≤B*B^k:=Nat.mul_le_mul_right _ h1;rw [Nat.pow_succ,Nat.mul_comm _ B];rw [Nat.add_mul] at h4;omega
 ·have h3:B*B^k≤2*(v*S)*B^k:=Nat.mul_le_mul_right _ h2
  have h4:2*(v*S)*B^k=2*((v*B^k)*S):=by grind
  have h5:(v*B^k)*S≤V*S:=Nat.mul_le_mul_right _ (by omega);omega
 ·refine Nat.mul_le_mul_right _ ?_
  have:=Nat.mul_le_mul_right (B^k) hv;omega
/-- What is divided, moved up, is less than the divisor above the quotient's place. -/
theorem start_lt{B k j S U V T D X:Nat}(hU:U < B^(j+k))(hX:X=T+B^j*D)(hXU:X=U*S)(hV:B^k*S≤V)(hB:0 < B)(hS:0 < S):D < V:=by
 have h1:B^j*D < B^j*(B^k*S):=by
  have h2:U*S < B^(j+k)*S:=Nat.mul_lt_mul_of_pos_right hU hS;rw [Nat.pow_add,Nat.mul_assoc] at h2;omega
 have:=Nat.lt_of_mul_lt_mul_left h1;omega
theorem top_digit{B k y V:Nat}{Y:List Nat}(hB:∀ x∈Y,x < B)(hl:Y.length=k+1)(hy:Y[k]?=some y)(hV:valB B Y=V)(h:B*B^k≤2*V):B≤2*y+1:=by
 have h1:=valB_take_some B hy;rw [valB_take_all B hl,hV] at h1;have h2:=take_lt hB (k:=k) (by omega);have h3:B*B^k < (2*y+2)*B^k:=by
  rw [Nat.mul_comm] at h1;rw [Nat.add_mul,Nat.mul_assoc];have:=Nat.mul_comm (B^k) y;omega
 have:=Nat.lt_of_mul_lt_mul_right h3;omega
/-- A WINDOW in a block of the call's own: the limbs W behind A, ahead of C. -/
def Win(w:World)(G:Nat)(A W C:List Nat)(off:Nat):Prop:=Blk w G 165 (ints .u32 (A ++(W ++C)))∧A.length=off
section
variable {w w':World} {G off:Nat} {A W C:List Nat}
theorem Win.lt(h:Win w G A W C off):G < w.heap.size:=h.1.lt
theorem Win.cell(h:Win w G A W C off){i x:Nat}(hi:W[i]?=some x):w.cell? ⟨G,off+i,none⟩=some (.int .u32 (x:Int)):=by
 obtain ⟨hb,hl⟩:=h;obtain ⟨hlt,hx⟩:=List.getElem?_eq_some_iff.1 hi;have hlen:off+i < (ints .u32 (A ++(W ++C))).length:=by rw [ints_length];simp;omega
 rw [hb.cell _ hlen,ints_get];congr 3;rw [List.getElem_append_right (by omega),List.getElem_append_left (by omega)];simp only [← hl,Nat.add_sub_cancel_left];exact hx
theorem Win.free(h:Win w G A W C off)(j:Nat):w.frozen? ⟨G,j,none⟩=false:=h.1.free j
theorem Win.set(h:Win w G A W C off){i:Nat}(hi:i < W.length)(d:Nat):Win (w.setCell ⟨G,off+i,none⟩ (.int .u32 (d:Int))) G A (W.set i d) C off:=by
 obtain ⟨hb,hl⟩:=h;refine ⟨?_,hl⟩;have:=hb.set (off+i) (.int .u32 (d:Int));rw [ints_set,List.set_append_right (off+i) d (by omega),List.set_append_left (off+i-A.length) d (by omega),show off+i-A.length=i by omega] at this;exact this
end
/-- Nothing has turned but the block G. -/
def OnlyB(G:Nat)(w w':World):Prop:=w'.os=w.os∧w'.tape=w.tape∧w'.output=w.output∧w'.heap.size=w.heap.size∧∀ k,k≠G→w'.heap[k]?=w.heap[k]?
theorem OnlyB.refl(G:Nat)(w:World):OnlyB G w w:=⟨rfl,rfl,rfl,rfl,fun _ _=>rfl⟩
theorem OnlyB.setCell{G:Nat}{w w':World}(h:OnlyB G w w')(i:Nat)(v:Value):OnlyB G w (w'.setCell ⟨G,i,none⟩ v):=
 ⟨h.1,h.2.1,h.2.2.1,by rw [World.size_setCell];exact h.2.2.2.1,fun k hk=>by rw [heap_setCell_other _ _ k _ hk];exact h.2.2.2.2 k hk⟩
theorem OnlyB.below{G B:Nat}{w w':World}(h:OnlyB G w w')(hB:B≤G):Below B w w':=⟨h.1,h.2.1,h.2.2.1,by rw [h.2.2.2.1];exact Nat.le_refl _,fun k hk=>h.2.2.2.2 k (by omega)⟩
theorem digit_any(G off n c b2 off2 d:Nat)(A W C Y:List Nat)(w:World)(hn:n≤1073741824)(hn2:2≤n)(hwin:Win w G A W C off)(hWl:W.length=n+1)(hWB:∀ x∈W,x < B32)(hc:n+1≤c) 
  (hy:Rw .u32 B32 w (some ⟨b2,off2,none⟩) n d Y) (hne:b2≠G) (top:Nat) (htop:Y[n-1]?=some top) (htopB:2147483648≤top) (hlt:val W < B32*val Y):
  Calls Tryz.prog 177 #[.slice (some ⟨G,off,none⟩) (n+1) c,.slice (some ⟨b2,off2,none⟩) n d] w fun e w'=>∃ W',e= .returned (.int .u32 ((val W / val Y:Nat):Int))∧Win w' G A W' C off∧W'.length=n+1∧
   (∀ x∈W',x < B32)∧val W'=val W%val Y∧OnlyB G w w':=by
 obtain ⟨next,hnext,hnextB,hcn⟩:=hy.cell (show n-2 < n by omega);obtain ⟨top',htop',htopB',hct⟩:=hy.cell (show n-1 < n by omega);rw [htop] at htop';obtain rfl:=Option.some.inj htop';obtain ⟨u0,hu0⟩:∃ u,W[n]?=some u:=⟨_,List.getElem?_eq_getElem (by omega)⟩
 obtain ⟨u1,hu1⟩:∃ u,W[n-1]?=some u:=⟨_,List.getElem?_eq_getElem (by omega)⟩
 obtain ⟨u2,hu2⟩:∃ u,W[n-2]?=some u:=⟨_,List.getElem?_eq_getElem (by omega)⟩
 have hu0B:u0 < 4294967296:=hWB _ (List.mem_of_getElem? hu0);have hu1B:u1 < 4294967296:=hWB _ (List.mem_of_getElem? hu1);have hu2B:u2 < 4294967296:=hWB _ (List.mem_of_getElem? hu2);have hc0:=hwin.cell hu0;have hc1:=hwin.cell hu1;have hc2:=hwin.cell hu2;have hnB:next < 4294967296:=hnextB;have htB:top < 4294967296:=htopB';obtain ⟨head,hhead⟩:∃ head:Nat,head=u0*4294967296+u1:=⟨_,rfl⟩
 have hor:=or_join u0 u1 hu0B hu1B;rw [← hhead] at hor;obtain ⟨g0,hg0⟩:∃ g:Nat,g=head / top:=⟨_,rfl⟩
 obtain ⟨r0,hr0⟩:∃ g:Nat,g=head%top:=⟨_,rfl⟩
 have hg0':(head:Int) / (top:Int)=(g0:Int):=by rw [hg0];rfl
 have hr0':(head:Int)%(top:Int)=(r0:Int):=by rw [hr0];rfl
 have htne:((top:Int)==0)=false:=by rw [beq_eq_false_iff_ne];omega
 have htpos:(1:Int)≤top:=by omega
 have hg0B:g0≤8589934592:=by
  rw [hg0];have h1:head / top < 8589934593:=by
   rw [Nat.div_lt_iff_lt_mul (by omega)];have:=Nat.mul_le_mul_left 8589934593 htopB;omega
  omega
 have HG0:=hid hg0;have HR0:=hid hr0;have HH:=hid hhead;have HT:=hid htop;have HU0:=hid hu0;have HU1:=hid hu1;have HU2:=hid hu2;have HN:=hid hnext;have HWL:=hid hWl;have HLT:=hid hlt;clear hg0 hr0 hhead htop hu0 hu1 hu2 hnext hWl hlt hnextB htopB';go_enter Tryz.func177,Tryz.ntmps177;go_wp2;go_quiet (fail);go_wp2;go_quiet (fail);go_upto_block 0 with (fail);rw [hr0'];clear hr0' hg0' hor;go_cut [9] (fun s9 wx=>∃ g:Nat,s9= .int .u64 g∧g < 4294967296∧val W < (g+1)*val Y∧g*val Y≤val W+val Y∧Win wx G A W C off∧OnlyB G w wx)
 case first=>
  have h2:=HH.out;have hUW:=top_three' hn2 HWL.out HU0.out HU1.out HU2.out (B:=B32);have hVY:=top_two' hn2 hy.len HT.out HN.out (B:=B32);have hUl:=take_lt hWB (k:=n-2) (by rw [HWL.out];omega);have hVl:=take_lt hy.lt (k:=n-2) (by rw [hy.len];omega);have hu0t:u0≤top:=kn_top hUW hVY hVl hnB HLT.out;rw [show u0*B32+u1=head from h2.symm] at hUW;have hhd:head=g0*top+r0:=by rw [HG0.out,HR0.out,Nat.mul_comm];exact (Nat.div_add_mod head top).symm
  have hin:val W < (g0+1)*val Y:=kn_init hUW hUl hu2B hVY hhd (by rw [HR0.out];exact Nat.mod_lt _ (by omega));have hr0t:r0 < 4294967296:=by rw [HR0.out];have:=Nat.mod_lt head (show 0 < top by omega);omega
  have HUW:=hid hUW;have HVY:=hid hVY;have HUL:=hid hUl;have HVL:=hid hVl;have HIN:=hid hin;have HHD:=hid hhd;clear h2 hUW hVY hUl hVl hin hhd;go_wp2_with fail;go_loop [9,10] (fun s9 s10=>∃ g r:Nat,s9= .int .u64 g∧s10= .int .u64 r∧g≤8589934592∧head=g*top+r∧r < 4294967296∧val W < (g+1)*val Y) (fun s9 _=>(intOf s9).toNat)
  case atStart=>exact ⟨g0,r0,rfl,rfl,hg0B,HHD.out,hr0t,HIN.out⟩
  case round=>
   obtain ⟨g,r,rfl,rfl,hgU,hgr,hrB,hUg⟩:=hrel;have HGR:=hid hgr;have HUG:=hid hUg;clear hgr hUg;obtain ⟨s2,hs2⟩:∃ s2:Nat,s2=r*4294967296+u2:=⟨_,rfl⟩
   have hor2:=or_join r u2 hrB hu2B;rw [← hs2] at hor2;have HS2:=hid hs2;clear hs2
   by_cases hgB:4294967296≤g
   ·have hg1:1≤g:=by omega
    have hdg:decide ((4294967296:Int)≤(g:Int))=true:=by rw [decide_eq_true_eq];omega
    have hUg':val W < g*val Y:=Nat.lt_of_lt_of_le HLT.out (Nat.mul_le_mul_right _ hgB);have HUG':=hid hUg';clear hUg';have hgr':head=(g-1)*top+(r+top):=by
     have:=HGR.out;have h3:=Nat.mul_le_mul_right top hg1;rw [Nat.sub_mul,Nat.one_mul];omega
    have HGR':=hid hgr';clear hgr';have hgc:((g:Int)-1)=((g-1:Nat):Int):=by omega
    have HGC:=hid hgc;clear hgc
    by_cases hbr:4294967296≤r+top
    ·have hdb:decide ((4294967296:Int)≤(r:Int)+(top:Int))=true:=by rw [decide_eq_true_eq];omega
     have hgsB:g-1 < 4294967296:=by
      have h3:(g-1)*top < 4294967296*top:=by
       have:=HGR'.out;have h5:=HH.out;have h6:=Nat.mul_le_mul_right 4294967296 hu0t;rw [Nat.mul_comm 4294967296 top];omega
      exact Nat.lt_of_mul_lt_mul_right h3
     have hex:(g-1)*val Y≤val W+val Y:=by
      refine kn_exit HUW.out HVY.out HVL.out HGR'.out ?_ hgsB (by omega);have h3:(g-1)*next≤4294967296*4294967296:=Nat.mul_le_mul (Nat.le_of_lt hgsB) (Nat.le_of_lt hnB);have h4:4294967296*4294967296≤(r+top)*4294967296:=Nat.mul_le_mul_right _ hbr;show (g-1)*next≤(r+top)*4294967296+u2
      omega
     have HEX:=hid hex;clear hex;go_wp2_with fail;go_meet;exact ⟨g-1,by rw [HGC.out],hgsB,by rw [Nat.sub_add_cancel hg1];exact HUG'.out,HEX.out,hwin,OnlyB.refl _ _⟩
    ·have hdb:decide ((4294967296:Int)≤(r:Int)+(top:Int))=false:=by rw [decide_eq_false_iff_not];omega
     go_wp2_with fail;go_round
     case rel=>exact ⟨g-1,r+top,by rw [HGC.out],by go_num,by omega,HGR'.out,by omega,by rw [Nat.sub_add_cancel hg1];exact HUG'.out⟩
     case measure=>simp [intOf];omega
   ·have hgB':g < 4294967296:=by omega
    have hdg:decide ((4294967296:Int)≤(g:Int))=false:=by rw [decide_eq_false_iff_not];omega
    obtain ⟨hm1,hm2⟩:=mul_boundZ g next hgB' hnB
    by_cases ht:s2 < g*next
    ·have hdt:decide ((s2:Int) < (g:Int)*(next:Int))=true:=by rw [decide_eq_true_eq,← Int.natCast_mul];omega
     have hg1:1≤g:=by
      rcases Nat.eq_zero_or_pos g with h0 | h0
      ·subst h0;omega
      ·exact h0
     have hUg':val W < g*val Y:=kn_dec HUW.out HUL.out HVY.out HGR.out (by rw [← HS2.out];exact ht);have HUG':=hid hUg';clear hUg';have hgr':head=(g-1)*top+(r+top):=by
      have:=HGR.out;have h3:=Nat.mul_le_mul_right top hg1;rw [Nat.sub_mul,Nat.one_mul];omega
     have HGR':=hid hgr';clear hgr';have hgc:((g:Int)-1)=((g-1:Nat):Int):=by omega
     have HGC:=hid hgc;clear hgc
     by_cases hbr:4294967296≤r+top
     ·have hdb:decide ((4294967296:Int)≤(r:Int)+(top:Int))=true:=by rw [decide_eq_true_eq];omega
      have hgsB:g-1 < 4294967296:=by
       have h3:(g-1)*top < 4294967296*top:=by
        have:=HGR'.out;have h5:=HH.out;have h6:=Nat.mul_le_mul_right 4294967296 hu0t;rw [Nat.mul_comm 4294967296 top];omega
       exact Nat.lt_of_mul_lt_mul_right h3
      have hex:(g-1)*val Y≤val W+val Y:=by
       refine kn_exit HUW.out HVY.out HVL.out HGR'.out ?_ hgsB (by omega);have h3:(g-1)*next≤4294967296*4294967296:=Nat.mul_le_mul (Nat.le_of_lt hgsB) (Nat.le_of_lt hnB);have h4:4294967296*4294967296≤(r+top)*4294967296:=Nat.mul_le_mul_right _ hbr;show (g-1)*next≤(r+top)*4294967296+u2
       omega
      have HEX:=hid hex;clear hex;go_wp2_with fail;go_meet;exact ⟨g-1,by rw [HGC.out],hgsB,by rw [Nat.sub_add_cancel hg1];exact HUG'.out,HEX.out,hwin,OnlyB.refl _ _⟩
     ·have hdb:decide ((4294967296:Int)≤(r:Int)+(top:Int))=false:=by rw [decide_eq_false_iff_not];omega
      go_wp2_with fail;go_round
      case rel=>exact ⟨g-1,r+top,by rw [HGC.out],by go_num,by omega,HGR'.out,by omega,by rw [Nat.sub_add_cancel hg1];exact HUG'.out⟩
      case measure=>simp [intOf];omega
    ·have hdt:decide ((s2:Int) < (g:Int)*(next:Int))=false:=by rw [decide_eq_false_iff_not,← Int.natCast_mul];omega
     have hex:g*val Y≤val W+val Y:=kn_exit HUW.out HVY.out HVL.out HGR.out (by rw [← HS2.out];omega) hgB' (by omega);have HEX:=hid hex;clear hex;go_wp2_with fail;go_meet;exact ⟨g,rfl,hgB',HUG.out,HEX.out,hwin,OnlyB.refl _ _⟩
 case rest=>
  obtain ⟨g,rfl,hgB,hUg,hex,hwin1,honly⟩:=hcut;have HUG:=hid hUg;have HEX:=hid hex;have hyc:Rw .u32 B32 wc (some ⟨b2,off2,none⟩) n d Y:=hy.same (honly.2.2.2.2 b2 hne);clear hUg hex hc0 hc1 hc2 hcn hct hwin hy htne htpos hg0B htopB htB hnB hu1B hu2B HG0 HR0 HH HT HU1 HU2 HN HLT;clear htop';go_wp2_with fail;go_loopw [11,12,81] (fun s11 s12 s81 wr=>∃ (i cy bw:Nat) (Wc:List Nat),i≤n∧s81= .int .i64 i∧s11= .int .u64 cy∧s12= .int .u64 bw∧cy < 4294967296∧bw≤1∧Wc.length=n+1∧(∀ x∈Wc,x < B32)∧Win wr G A Wc C off∧OnlyB G w wr∧
    (∀ j,i≤j→Wc[j]?=W[j]?)∧valB B32 (Wc.take i)+g*valB B32 (Y.take i)=valB B32 (W.take i)+B32^i*(cy+bw)) (fun _ _ s81 _=>n-(intOf s81).toNat)
  case atStart=>exact ⟨0,0,0,W,Nat.zero_le _,rfl,rfl,rfl,by omega,by omega,HWL.out,hWB,hwin1,honly,fun _ _=>rfl,by simp [valB]⟩
  case round=>
   obtain ⟨i,cy,bw,Wc,hi,rfl,rfl,rfl,hcy,hbw,hWcl,hWcB,hwr,hor,hrest,hv⟩:=hrel;have HV:=hid hv;have HWC:=hid hWcl;have HRE:=hid hrest;clear hv hWcl hrest;have hyr:Rw .u32 B32 wr (some ⟨b2,off2,none⟩) n d Y:=hyc.same (by rw [hor.2.2.2.2 b2 hne,honly.2.2.2.2 b2 hne]);have hb0:=hwr.lt
   by_cases hin:i < n
   ·obtain ⟨y,hy,hyB,hcy2⟩:=hyr.cell hin
    have hy':y < 4294967296:=hyB;obtain ⟨x,hx⟩:∃ x,Wc[i]?=some x:=⟨_,List.getElem?_eq_getElem (by rw [HWC.out];omega)⟩
    have hx':x < 4294967296:=hWcB _ (List.mem_of_getElem? hx);have hcx:=hwr.cell hx;have hfree:=hwr.free (off+i);have HX:=hid hx;have HY:=hid hy;clear hx hy hyB;obtain ⟨hm1,hm2⟩:=mul_boundZ g y hgB hy';have hmb:=mul_bound g y 0 cy hgB hy' (by omega) hcy;have hpc:(g:Int)*(y:Int)+(cy:Int)=((g*y+cy:Nat):Int):=by simp
    obtain ⟨lo,hlo⟩:∃ lo:Nat,lo=(g*y+cy)%4294967296:=⟨_,rfl⟩
    obtain ⟨hi1,hhi⟩:∃ hi1:Nat,hi1=(g*y+cy) / 4294967296:=⟨_,rfl⟩
    have elo:((g:Int)*(y:Int)+(cy:Int))%4294967296=(lo:Int):=by rw [hpc,hlo];rfl
    have ehi:((g:Int)*(y:Int)+(cy:Int)) / 4294967296=(hi1:Int):=by rw [hpc,hhi];rfl
    have hloB:lo < 4294967296:=by omega
    have hhiB:hi1 < 4294967296:=by omega
    have hsum:lo+4294967296*hi1=g*y+cy:=by omega
    obtain ⟨d1,b1,hd1,hb1,e1,e2,e3⟩:=sub_wrap2 x lo bw hx' hloB hbw;have HSUM:=hid hsum;have E1:=hid e1;have E2:=hid e2;have E3:=hid e3;have HMB:=hid hmb;clear hsum e1 e2 e3 hpc hlo hhi hmb;go_wp2;rw [E1.out,E2.out];go_roundw
    case rel=>
     refine ⟨i+1,hi1,b1,Wc.set i d1,by omega,by go_num,by first | rfl | rw [ehi],rfl,hhiB,hb1,by rw [List.length_set];exact HWC.out,mem_set_lt hWcB hd1 i,hwr.set (by rw [HWC.out];omega) d1,hor.setCell _ _,?_,?_⟩
     ·intro j hj
      rw [List.getElem?_set_ne (by omega)];exact HRE.out j (by omega)
     ·refine msub_step (by rw [HWC.out];omega) HV.out (by rw [← HRE.out i (Nat.le_refl _)];exact HX.out) HY.out ?_
      have h1:=HSUM.out;have h2:=E3.out;unfold B32 at h2 ⊢;omega
    case measure=>simp [intOf];omega
   ·obtain rfl:i=n:=by omega
    have hcx:=hwr.cell (show Wc[i]?=some u0 by rw [HRE.out i (Nat.le_refl _)];exact HU0.out);have hfree:=hwr.free (off+i);have hW2:=HWC.out
    by_cases hno:cy+bw≤u0
    ·have et:=top_wrap_no u0 cy bw hu0B hno
     obtain ⟨t,htt⟩:∃ t,t=u0-cy-bw:=⟨_,rfl⟩
     rw [← htt] at et;have htB:t < 4294967296:=by omega
     have hts:t+cy+bw=u0:=by omega
     have HTS:=hid hts;clear htt hts hno hW2;have ed:(t:Int) / 9223372036854775808=0:=by omega
     go_wp2;go_ret;have hend:=digit_end0 (t:=t) HWL.out HWC.out hyc.len HU0.out HV.out HTS.out;have hle:g*val Y≤val W:=by unfold val;omega
     have hmod:=mod_is (U:=val W) (V:=val Y) (q:=g) (r:=val (Wc.set i t)) (by unfold val;omega) (by
      have h1:=HUG.out;rw [Nat.add_mul,Nat.one_mul] at h1;unfold val at *;omega)
     exact ⟨Wc.set i t,by rw [hmod.1];rfl,hwr.set (by rw [HWC.out];omega) t,by rw [List.length_set];exact HWC.out,mem_set_lt hWcB htB _,hmod.2.symm,hor.setCell _ _⟩
    ·obtain ⟨t,tl,et,ed,etl,htlB,hts⟩:=top_wrap_yes u0 cy bw hu0B hcy hbw (by omega)
     have HTS:=hid hts;clear hts hno hW2;have hwin3:Win (wr.setCell ⟨G,off+i,none⟩ (.int .u32 (tl:Int))) G A (Wc.set i tl) C off:=hwr.set (by rw [HWC.out];omega) tl;have hor3:OnlyB G w (wr.setCell ⟨G,off+i,none⟩ (.int .u32 (tl:Int))):=hor.setCell _ _;have hend:=digit_end1 (t:=tl) HWL.out HWC.out hyc.len HU0.out HV.out HTS.out;have hWB3:∀ x∈Wc.set i tl,x < B32:=mem_set_lt hWcB htlB _
     have hl3:(Wc.set i tl).length=i+1:=by rw [List.length_set];exact HWC.out
     have hti:(Wc.set i tl)[i]?=some tl:=by rw [List.getElem?_set_self (by rw [HWC.out];omega)]
     have hg0:val W < g*val Y:=by
      have h1:=valB_lt hWB3;rw [hl3] at h1;unfold val;omega
     have HE:=hid hend;have HL3:=hid hl3;have HTI:=hid hti;have HG0:=hid hg0;clear hend hl3 hti hg0;have hgpos:1≤g:=by
      rcases Nat.eq_zero_or_pos g with h0 | h0
      ·have:=HG0.out;rw [h0,Nat.zero_mul] at this;omega
      ·exact h0
     go_wp2_with fail;generalize hgen:Wc.set i tl=W3 at *
     clear hgen;generalize hgenw:wr.setCell ⟨G,off+i,none⟩ (.int .u32 (tl:Int))=wx at *
     clear hgenw;go_loopw [18,134] (fun s18 s134 wr=>∃ (k bk:Nat) (Wd:List Nat),k≤i∧s134= .int .i64 k∧s18= .int .u64 bk∧bk≤1∧Wd.length=i+1∧(∀ x∈Wd,x < B32)∧Win wr G A Wd C off∧OnlyB G w wr∧
       (∀ j,k≤j→Wd[j]?=W3[j]?)∧valB B32 (Wd.take k)+B32^k*bk=valB B32 (W3.take k)+valB B32 (Y.take k)) (fun _ s134 _=>i-(intOf s134).toNat)
     case atStart=>exact ⟨0,0,W3,Nat.zero_le _,rfl,rfl,by omega,HL3.out,hWB3,hwin3,hor3,fun _ _=>rfl,by simp [valB]⟩
     case round=>
      obtain ⟨k,bk,Wd,hk,rfl,rfl,hbk,hWdl,hWdB,hwd,hod,hrest,hv⟩:=hrel;have HV4:=hid hv;have HWD:=hid hWdl;have HRE4:=hid hrest;clear hv hWdl hrest;have hyr4:Rw .u32 B32 wr (some ⟨b2,off2,none⟩) i d Y:=hyc.same (by rw [hod.2.2.2.2 b2 hne,honly.2.2.2.2 b2 hne]);have hb4:=hwd.lt
      by_cases hki:k < i
      ·obtain ⟨y,hy,hyB,hcy2⟩:=hyr4.cell hki
       have hy':y < 4294967296:=hyB;obtain ⟨x,hx⟩:∃ x,Wd[k]?=some x:=⟨_,List.getElem?_eq_getElem (by rw [HWD.out];omega)⟩
       have hx':x < 4294967296:=hWdB _ (List.mem_of_getElem? hx);have hcx4:=hwd.cell hx;have hfree4:=hwd.free (off+k);have HX:=hid hx;have HY:=hid hy;clear hx hy hyB;go_wp2;go_roundw
       case rel=>
        refine ⟨k+1,(x+y+bk) / 4294967296,Wd.set k ((x+y+bk)%4294967296),by omega,by go_num,by go_num,by omega,by rw [List.length_set];exact HWD.out,mem_set_lt hWdB (Nat.mod_lt _ (by decide)) k,?_,hod.setCell _ _,?_,?_⟩
        ·have e:((x:Int)+y+bk)%4294967296=(((x+y+bk)%4294967296:Nat):Int):=by omega
         rw [e];exact hwd.set (by rw [HWD.out];omega) _
        ·intro j hj
         rw [List.getElem?_set_ne (by omega)];exact HRE4.out j (by omega)
        ·exact addb_step (by rw [HWD.out];omega) HV4.out (by rw [← HRE4.out k (Nat.le_refl _)];exact HX.out) HY.out (Nat.mod_add_div _ _)
       case measure=>simp [intOf];omega
      ·obtain rfl:k=i:=by omega
       have hcx4:=hwd.cell (show Wd[k]?=some tl by rw [HRE4.out k (Nat.le_refl _)];exact HTI.out);have hfree4:=hwd.free (off+k);go_wp2;go_ret;have e:((tl:Int)+bk)%4294967296=(((tl+bk)%4294967296:Nat):Int):=by omega
       have hB5:∀ x∈Wd.set k ((tl+bk)%4294967296),x < B32:=mem_set_lt hWdB (Nat.mod_lt _ (by decide)) k
       have hl5:(Wd.set k ((tl+bk)%4294967296)).length=k+1:=by rw [List.length_set];exact HWD.out
       have h5:=valB_lt hB5;rw [hl5] at h5;have hYlt:valB B32 Y < B32^(k+1):=by
        have h1:=valB_lt hyc.lt;rw [hyc.len] at h1;exact Nat.lt_of_lt_of_le h1 (Nat.pow_le_pow_right (by decide) (by omega))
       have hend:=digit_end2 (V:=valB B32 W) (g:=g) (x:=(tl+bk)%4294967296) (e:=(tl+bk) / 4294967296) HWD.out HL3.out hyc.len HTI.out HV4.out (Nat.mod_add_div _ _) (by omega) HE.out h5 hYlt HEX.out HG0.out;have hmod:=mod_is (U:=val W) (V:=val Y) (q:=g-1) (r:=val (Wd.set k ((tl+bk)%4294967296))) (by
        have h6:=Nat.mul_le_mul_right (valB B32 Y) hgpos;rw [Nat.sub_mul,Nat.one_mul];unfold val;omega) (by
        have h6:=HG0.out;unfold val at *;omega)
       refine ⟨Wd.set k ((tl+bk)%4294967296),ret_int (by rw [hmod.1];omega),?_,hl5,hB5,hmod.2.symm,hod.setCell _ _⟩;rw [e];exact hwd.set (by rw [HWD.out];omega) _
theorem clampN_nat(s:Nat)(h:s≤65536):clampN (s:Int)=s:=by unfold clampN;omega
/-- A row moved up, in l limbs. -/
theorem wide_any(ao:Option Addr)(n c:Nat)(xs:List Nat)(s l:Nat)(w:World)(hn:n≤1073741824)(hs:s≤65536)(hl:l≤2147483648)(hr:Rw .u32 B32 w ao n c xs)(hfit:(limbs (val xs*2^s)).length≤l):
  Calls Tryz.prog 176 #[.slice ao n c,.int .i64 (s:Int),.int .i64 (l:Int)] w fun e w'=>∃ (G:Nat) (os:List Nat),e= .returned (.slice (some ⟨G,0,none⟩) l l)∧w.heap.size≤G∧Blk w' G 165 (ints .u32 os)∧
   os.length=l∧(∀ x∈os,x < B32)∧val os=val xs*2^s∧Below w.heap.size w w':=by
 go_enter Tryz.func176,Tryz.ntmps176;go_wp2_with (at_make;refine Hid.out ?_);refine hid ?_;refine wpList_mk _ rfl _ _ 34 rfl 165 (.int .u32 0) 4 Tryz.underlying34 Tryz.infoU32 rfl .i64 .i64 _ _ l rfl rfl (by omega) (by omega) (by omega) (by unfold maxLen;omega) fun w2 hblk hbelow hlt=>?_
 obtain ⟨G,hG⟩:∃ G,G=w.heap.size:=⟨_,rfl⟩
 rw [← hG] at hblk hlt hbelow ⊢;have HG:=hid hG;clear hG;rw [← ints_replicate] at hblk;have hr2:=hr.ext (by rw [← HG.out];exact hbelow);go_wp2_with fail;refine (shl_any ao n c xs (s:Int) _ hn hr2).mono ?_;rintro e w3 ⟨ro,k,c',rfl,hres,hown,hb3⟩;rw [clampN_nat s hs] at hres;have hblk3:=hblk.ext hb3;have hlen:=hres.len;have HFIT:=hid hfit;clear hfit;go_wp2_with (with_reducible refine Hid.out (p:=wpList _ _ _ ({dst:=some 14,op:=_,type:=_,pos:=_,after:=_,guard:=_} ::_) _ _) ?_);refine hid<|wpList_cp rfl _ _ 34 34 rfl 165 Tryz.underlying34 Tryz.sizeU32 G 0 l l ro k c' rfl rfl _ 165 hblk3 (ints .u32 (limbs (val xs*2^s))) ?_ hres.cells ?_ (ints_one _ _) G (Nat.le_refl _) fun w4 hblk4 hb4=>?_
 ·rw [ints_length,hlen];exact (Nat.min_eq_left (by rw [← hlen];exact HFIT.out)).symm
 ·rw [ints_length,ints_length];simp;exact HFIT.out
 have hsp:splice (ints .u32 (List.replicate l 0)) 0 (ints .u32 (limbs (val xs*2^s)))=ints .u32 (limbs (val xs*2^s) ++List.replicate (l-k) 0):=by
  simp [splice,ints,hlen]
 rw [hsp] at hblk4;go_wp2;go_ret;refine ⟨G,limbs (val xs*2^s) ++List.replicate (l-k) 0,rfl,by rw [HG.out];exact Nat.le_refl _,hblk4,?_,?_,?_,?_⟩
 ·have:=HFIT.out
  rw [List.length_append,List.length_replicate,hlen];rw [hlen] at this;omega
 ·intro x hx
  rcases List.mem_append.1 hx with hx | hx
  ·exact limbs_lt _ x hx
  ·have:=(List.mem_replicate.1 hx).2;subst this;decide
 ·unfold val
  rw [valB_append_zeros];exact val_limbs _
 ·rw [← HG.out]
  exact (hbelow.trans (hb3.mono (by omega))).trans hb4
theorem val_one(x:Nat):val [x]=x:=by simp [val,valB]
/-- The error of a division: 2 by 0. -/
def divErr(v:Nat):Int:=if v=0 then 2 else 0
/-- The remainder of a division; by 0 there is none. -/
def modZ(u v:Nat):Nat:=if v=0 then 0 else u%v
theorem divErr_pos{v:Nat}(h:v≠0):divErr v=0:=if_neg h
theorem modZ_zero(u:Nat):modZ u 0=0:=rfl
theorem modZ_pos(u:Nat){v:Nat}(h:v≠0):modZ u v=u%v:=if_neg h
theorem divmod_any(ao bo:Option Addr)(n c m d:Nat)(xs ys:List Nat)(w:World)(hn:n≤1073741823)(hm:m≤1073741823)(hr:Rw .u32 B32 w ao n c xs)(hs:Rw .u32 B32 w bo m d ys):
  Calls Tryz.prog 166 #[.slice ao n c,.slice bo m d] w fun e w'=>∃ qo qn qc ro rn rc,e= .returned (.tuple #[.slice qo qn qc,.slice ro rn rc,.int .i64 (divErr (val ys))])∧
   Rw .u32 B32 w' qo qn qc (limbs (val xs / val ys))∧Own w.heap.size w' qo qc∧Rw .u32 B32 w' ro rn rc (limbs (modZ (val xs) (val ys)))∧Own w.heap.size w' ro rc∧Below w.heap.size w w':=by
 go_enter Tryz.func166,Tryz.ntmps166;go_wp2_with fail;refine (cut_any ao n c xs _ (by omega) hr).mono ?_;rintro e w' ⟨n1,rfl,hn1,hp,rfl⟩;go_wp2_with fail;refine (cut_any bo m d ys _ (by omega) hs).mono ?_;rintro e w' ⟨m1,rfl,hm1,hq,rfl⟩;clear hr hs;have hpl:=hp.len;have hql:=hq.len
 by_cases h0:m1=0
 ·subst h0
  have hy0:val ys=0:=limbs_eq_nil.1 (List.eq_nil_of_length_eq_zero hql);have HY:=hid hy0;clear hy0 hpl hql;go_wp2;go_ret3;refine ⟨_,_,_,_,_,_,by rw [HY.out];rfl,?_,Own.nil _ _ _,?_,Own.nil _ _ _,Below.refl _ _⟩
  ·rw [HY.out,Nat.div_zero];exact Rw.nil _ _ _
  ·rw [HY.out];exact Rw.nil _ _ _
 ·have hy0:val ys≠0:=fun h=>h0 (by rw [← hql,h];rfl)
  have HY:=hid hy0;clear hy0
  by_cases hlt:n1 < m1
  ·have hlt2:val xs < val ys:=limbs_shorter (by rw [hpl,hql];exact hlt)
   have HLT:=hid hlt2;clear hlt2 hpl hql;have hm0:((m1:Int)==0)=false:=by rw [beq_eq_false_iff_ne];omega
   go_wp2_with fail;refine (norm_any _ _ _ _ _ (by omega) hp).mono ?_;rintro e w1 ⟨ro,k,c',rfl,hk,hres,hown,hb⟩;rw [val_limbs] at hres;go_wp2;go_ret3;refine ⟨_,_,_,_,_,_,by rw [divErr_pos HY.out];rfl,?_,Own.nil _ _ _,?_,hown,hb⟩
   ·rw [Nat.div_eq_of_lt HLT.out];exact Rw.nil _ _ _
   ·rw [modZ_pos _ HY.out,Nat.mod_eq_of_lt HLT.out];exact hres
  ·by_cases h1:m1=1
   ·subst h1
    obtain ⟨b1,off1,v,rfl,hv,hvB,hcv⟩:=hq.at (show 0 < 1 by omega);have hvB':v < 4294967296:=hvB;rw [Nat.add_zero] at hcv;have hvy:val ys=v:=by
     have h2:limbs (val ys)= [v]:=by
      match hL:limbs (val ys),hql with
      | [a],_=>rw [hL] at hv;simp at hv;rw [hv]
     have h3:=val_limbs (val ys);rw [h2,val_one] at h3;exact h3.symm
    have hv0:0 < v:=by have:=HY.out;omega
    have HV:=hid hvy;clear hvy hv hvB hpl hql;go_wp2_with fail;refine (one_any _ _ _ _ v _ (by omega) hv0 hvB' hp).mono ?_;rintro e w1 ⟨ro,k,c',rfl,hres,hown,hb⟩;rw [val_limbs] at hres ⊢;have hrB:val xs%v < 4294967296:=Nat.lt_trans (Nat.mod_lt _ hv0) hvB';obtain ⟨r,hr⟩:∃ r,r=val xs%v:=⟨_,rfl⟩
    rw [← hr] at hrB ⊢;have HR:=hid hr;clear hr;go_wp2_with fail;have hblk:Blk (w1.alloc (.cells #[.int .u32 (r:Int)] 165)) w1.heap.size 165 (ints .u32 [r]):=Blk.new w1 165 (ints .u32 [r]);have hb2:Below w1.heap.size w1 (w1.alloc (.cells #[.int .u32 (r:Int)] 165)):=(Below.refl _ _).alloc (Nat.le_refl _) _;have hrow:=hblk.rw (B:=B32) (by intro x hx;rw [List.mem_singleton.1 hx];exact hrB);refine (cut_any _ 1 1 [r] _ (by omega) hrow).mono ?_;rintro e w' ⟨k2,rfl,hk2,hres2,rfl⟩;have hown2:=hblk.own (base:=w.heap.size) hb.size (n:=1) (Nat.le_refl _);rw [val_one] at hres2;go_wp2;go_ret3;exact ⟨_,_,_,_,_,_,by rw [divErr_pos HY.out];rfl,by rw [HV.out];exact hres.ext hb2,hown.ext hb2,by rw [modZ_pos _ HY.out,HV.out,← HR.out];exact hres2,hown2,ext_trans hb hb2⟩
   ·have hm2:2≤m1:=by omega
    have hm0:((m1:Int)==0)=false:=by rw [beq_eq_false_iff_ne];omega
    have hm1':((m1:Int)==1)=false:=by rw [beq_eq_false_iff_ne];omega
    obtain ⟨b1,off1,v,rfl,hv,hvB,hcv⟩:=hq.at (show m1-1 < m1 by omega);have hvB':v < 4294967296:=hvB;have hv0:v≠0:=by
     rintro rfl;have h1:=(digs_nrm B32_two (val ys)).2;rw [List.getLast?_eq_getElem?] at h1
     change (limbs (val ys))[(limbs (val ys)).length-1]?≠some 0 at h1
     rw [hql] at h1;exact h1 hv
    have hnb:=nbits_le_of_lt (n:=v) (k:=32) hvB';have hnb1:=nbits_pos hv0;have hnb2:=nbits_lt v;have hnb3:=nbits_le hv0;obtain ⟨s,hs⟩:∃ s,s=32-nbits v:=⟨_,rfl⟩
    have hsB:s≤31:=by omega
    have hS1:(v+1)*2^s≤B32:=by
     have h3:=Nat.mul_le_mul_right (2^s) (show v+1≤2^nbits v from hnb2);rw [← Nat.pow_add,show nbits v+s=32 by omega] at h3;exact h3
    have hS2:B32≤2*(v*2^s):=by
     have h3:=Nat.mul_le_mul_right (2^s) hnb3;rw [← Nat.pow_add,show nbits v-1+s=31 by omega] at h3;unfold B32;omega
    have hSpos:=Nat.two_pow_pos s;have hVdec:val ys=v*B32^(m1-1)+val ((limbs (val ys)).take (m1-1)):=by
     have h3:=valB_take_some B32 hv;rw [show m1-1+1=m1 by omega,valB_take_all _ hql] at h3
     change val (limbs (val ys))=_ at h3
     rw [val_limbs] at h3;rw [Nat.mul_comm,Nat.add_comm];exact h3
    have hVlow:=take_lt (B:=B32) (k:=m1-1) (limbs_lt (val ys)) (by rw [hql];omega);obtain ⟨hs1,hs2,hs3⟩:=scale_facts hVdec hVlow hS1 hS2 hSpos;have hU1:val xs < B32^n1:=by have h3:=val_lt (limbs_lt (val xs));rwa [val_limbs,hpl] at h3
    have hfita:(limbs (val (limbs (val xs))*2^s)).length≤n1+1:=by
     rw [val_limbs];refine limbs_le ?_;rw [Nat.pow_succ];have h3:2^s≤B32:=by
      have:=Nat.mul_le_mul_right (2^s) (show 1≤v+1 by omega);omega
     exact Nat.lt_of_lt_of_le (Nat.mul_lt_mul_of_pos_right hU1 hSpos) (Nat.mul_le_mul_left _ h3)
    have hfitb:(limbs (val (limbs (val ys))*2^s)).length≤m1:=by
     rw [val_limbs];refine limbs_le ?_;rw [show m1-1+1=m1 by omega] at hs1;exact hs1
    have HS:=hid hs;have HPL:=hid hpl;have HQL:=hid hql;have HFA:=hid hfita;have HFB:=hid hfitb;have HS1:=hid hs1;have HS2:=hid hs2;have HS3:=hid hs3;have HU1:=hid hU1;have HSP:=hid hSpos;clear hs hv hpl hql hvB hVdec hVlow hfita hfitb hs1 hs2 hs3 hU1 hSpos hS1 hS2 hnb hnb1 hnb2 hnb3;go_wp2_with fail;refine (lz32_any v _ hvB').mono ?_;rintro e w' ⟨rfl,rfl⟩;rw [← HS.out];go_wp2_with fail;refine (wide_any ao n1 c _ s (n1+1) _ (by omega) (by omega) (by omega) hp HFA.out).mono ?_;rintro e w1 ⟨Gx,X0,rfl,hGx,hbx,hxl,hxB,hxv,hb1⟩;rw [val_limbs] at hxv;have HXL:=hid hxl;have HXV:=hid hxv;clear hxl hxv;have hbxlt:=hbx.lt;have hq1:=hq.ext hb1;go_wp2_with fail;refine (wide_any _ m1 d _ s m1 _ (by omega) (by omega) (by omega) hq1 HFB.out).mono ?_;rintro e w2 ⟨Gy,Y0,rfl,hGy,hby,hyl,hyB,hyv,hb2⟩;rw [val_limbs] at hyv;have HYL:=hid hyl;have HYV:=hid hyv;clear hyl hyv;have hbx2:=hbx.ext hb2;have hb12:Below w.heap.size w w2:=ext_trans hb1 hb2;have hbylt:=hby.lt;obtain ⟨l,hl⟩:∃ l,n1=m1+l:=⟨n1-m1,by omega⟩
    subst hl;go_wp2_with (at_make;refine Hid.out ?_);refine hid<|wpList_mk _ rfl _ _ 34 rfl 165 (.int .u32 0) 4 Tryz.underlying34 Tryz.infoU32 rfl .i64 .i64 _ _ (l+1) rfl rfl (by omega) (by omega) (by omega) (by unfold maxLen;omega) fun w3 hblk hbelow hlt3=>?_
    obtain ⟨Gq,hGq⟩:∃ G,G=w2.heap.size:=⟨_,rfl⟩
    rw [← hGq] at hblk hlt3 hbelow ⊢;rw [← ints_replicate] at hblk;have hbx3:=hbx2.ext (by rw [← hGq];exact hbelow);have hby3:=hby.ext (by rw [← hGq];exact hbelow);have hb13:Below w.heap.size w w3:=ext_trans hb12 (by rw [← hGq];exact hbelow);have HGQ:=hid hGq;have hxy:Gx≠Gy:=by omega
    have hxq:Gx≠Gq:=by omega
    have hyq:Gy≠Gq:=by omega
    have hqbase:w.heap.size≤Gq:=by rw [hGq];exact hb12.size
    clear hGq hbx hbx2 hby hp hq hq1;have hstart:valB B32 (X0.drop (l+1)) < val Y0:=by
     rw [HYV.out];have h3:=valB_drop B32 X0 (l+1) (by rw [HXL.out];omega);have h4:=HU1.out;rw [show m1+l=(l+1)+(m1-1) by omega] at h4;exact start_lt (B:=B32) (S:=2^s) h4 h3 (by have:=HXV.out;unfold val at *;exact this) HS3.out (by decide) HSP.out
    obtain ⟨yt,hyt⟩:∃ yt,Y0[m1-1]?=some yt:=⟨_,List.getElem?_eq_getElem (by rw [HYL.out];omega)⟩
    have hytB:2147483648≤yt:=by
     have h3:=top_digit (B:=B32) (k:=m1-1) (V:=val ys*2^s) hyB (by rw [HYL.out];omega) hyt HYV.out HS2.out;unfold B32 at h3;omega
    have hYlt:val Y0 < B32^m1:=by
     have h3:=HS1.out;rw [show m1-1+1=m1 by omega] at h3;rw [HYV.out];exact h3
    have HST:=hid hstart;have HYT:=hid hyt;have HYLT:=hid hYlt;clear hstart hyt hYlt;go_wp2_with fail;go_loopw [13] (fun s13 wr=>∃ (k:Nat) (os qs:List Nat),k≤l+1∧s13= .int .i64 ((k:Int)-1)∧os.length=m1+l+1∧(∀ x∈os,x < B32)∧qs.length=l+1∧(∀ x∈qs,x < B32)∧Blk wr Gx 165 (ints .u32 os)∧
      Blk wr Gy 165 (ints .u32 Y0)∧Blk wr Gq 165 (ints .u32 qs)∧Below w.heap.size w wr∧valB B32 (os.drop k) < val Y0∧valB B32 os+B32^k*(valB B32 (qs.drop k)*val Y0)=val X0) (fun s13 _=>(intOf s13+1).toNat)
    case atStart=>exact ⟨l+1,X0,List.replicate (l+1) 0,Nat.le_refl _,by go_num,HXL.out,hxB,by simp,(fun o ho=>by have:=(List.mem_replicate.1 ho).2;subst this;decide),hbx3,hby3,hblk,hb13,HST.out,by rw [List.drop_of_length_le (by simp)];simp [valB,val]⟩
    case round=>
     obtain ⟨k,os,qs,hk,rfl,hol,hoB,hqsl,hqsB,hbx,hby,hbq,hbe,hlt4,hv⟩:=hrel;have HOL:=hid hol;have HQSL:=hid hqsl;have HLT4:=hid hlt4;have HV:=hid hv;clear hol hqsl hlt4 hv hblk hbx3 hby3 hb13 hbelow
     by_cases hk0:k=0
     ·subst hk0
      have hv:=HV.out;have hlt4:=HLT4.out;rw [List.drop_zero] at hv hlt4;rw [Nat.pow_zero,Nat.one_mul,HXV.out,HYV.out] at hv;rw [HYV.out] at hlt4;obtain ⟨hdiv,hmod⟩:=unscale HSP.out hv hlt4;have hqrow:=hbq.rw hqsB;rw [HQSL.out] at hqrow;have hxrow:=hbx.rw hoB;rw [HOL.out] at hxrow;have hxrow2:=hxrow.take (m:=m1) (by omega);have hxval:val (os.take m1)=val os:=by
       have h3:=valB_drop B32 os m1 (by rw [HOL.out];omega);have h4:=HYLT.out;rw [HYV.out] at h4;have h5:valB B32 (os.drop m1)=0:=by
        rcases Nat.eq_zero_or_pos (valB B32 (os.drop m1)) with h5 | h5
        ·exact h5
        ·have:=Nat.mul_le_mul_left (B32^m1) h5
         omega
       rw [h5] at h3;exact h3.symm
      have hownq:=hbq.own (base:=w.heap.size) hqbase (n:=l+1) (by rw [ints_length,HQSL.out];exact Nat.le_refl _);have hdiv':val xs / val ys=val qs:=hdiv;have hmod':val xs%val ys=val os / 2^s:=hmod;have HD:=hid hdiv';have HM:=hid hmod';have HXVL:=hid hxval;clear hv hlt4 hdiv hmod hdiv' hmod' hxval HV HLT4;have hqd:Rw .u32 B32 wr.drew (some ⟨Gq,0,none⟩) (l+1) (l+1) qs:=hqrow;have hxd:Rw .u32 B32 wr.drew (some ⟨Gx,0,none⟩) m1 (m1+l+1) (os.take m1):=hxrow2;go_wp2_with fail;go_region_with (first | (go_at_call 155;refine (cut_any _ _ _ _ _ (by omega) hqd).mono ?_;rintro e w' ⟨k2,rfl,hk2,hres2,rfl⟩) | (go_at_call 178;refine (shr_any _ _ _ _ (s:Int) _ (by omega) hxd).mono ?_;rintro e w' ⟨ro,k3,c3,rfl,hres3,hown3,hb3⟩))
      all_goals
       go_wp2;go_ret3;rw [clampN_nat s (by omega),HXVL.out,← HM.out] at hres3;have hres4:Rw .u32 B32 wr.drew (some ⟨Gq,0,none⟩) k2 (l+1) (limbs (val xs / val ys)):=by rw [HD.out];exact hres2
       have hown4:Own w.heap.size wr.drew (some ⟨Gq,0,none⟩) (l+1):=hownq;have hbd:Below w.heap.size w wr.drew:=hbe.drew;exact ⟨_,_,_,_,_,_,by rw [divErr_pos HY.out];rfl,hres4.ext hb3,hown4.ext hb3,by rw [modZ_pos _ HY.out];exact hres3,hown3.mono hbd.size,ext_trans hbd hb3⟩
     ·obtain ⟨j,rfl⟩:∃ j,k=j+1:=⟨k-1,by omega⟩
      obtain ⟨A,hA⟩:∃ A,A=os.take j:=⟨_,rfl⟩
      obtain ⟨W,hW⟩:∃ W,W=(os.drop j).take (m1+1):=⟨_,rfl⟩
      obtain ⟨C,hC⟩:∃ C,C=(os.drop j).drop (m1+1):=⟨_,rfl⟩
      have hos:os=A ++(W ++C):=by rw [hA,hW,hC,List.take_append_drop,List.take_append_drop]
      have hAl:A.length=j:=by rw [hA,List.length_take,HOL.out];omega
      have hWl:W.length=m1+1:=by rw [hW,List.length_take,List.length_drop,HOL.out];omega
      have hWB:∀ x∈W,x < B32:=fun x hx=>hoB x (by rw [hos];exact List.mem_append_right _ (List.mem_append_left _ hx))
      have hABs:∀ x∈A,x < B32:=fun x hx=>hoB x (by rw [hos];exact List.mem_append_left _ hx)
      have hCBs:∀ x∈C,x < B32:=fun x hx=>hoB x (by rw [hos];exact List.mem_append_right _ (List.mem_append_right _ hx))
      have hCl:C.length+j+m1=m1+l:=by
       have:=HOL.out;rw [hos,List.length_append,List.length_append,hAl,hWl] at this;omega
      have hv:=HV.out;have hlt4:=HLT4.out;rw [hos] at hv hlt4 hbx;have hpre:=div_pre B32_two hAl hWl hWB HYLT.out hlt4;have hwin:Win wr Gx A W C j:=⟨hbx,hAl⟩;have hyrow:=hby.rw hyB;rw [HYL.out] at hyrow;have HV2:=hid hv;have HPRE:=hid hpre;have HWL:=hid hWl;have HCL:=hid hCl;have HAL:=hid hAl;clear hv hlt4 hbx hA hW hC hos hWl hCl hAl hpre HV HLT4;go_wp2_with fail;rw [show j+m1+1-j=m1+1 by omega];refine (digit_any Gx j m1 _ Gy 0 m1 A W C Y0 _ (by omega) hm2 hwin HWL.out hWB (by omega) hyrow (Ne.symm hxy) yt HYT.out hytB HPRE.out.1).mono ?_;rintro e w' ⟨W',rfl,hwin',hWl',hWB',hWv',honly⟩;have hbq':Blk w' Gq 165 (ints .u32 qs):=by unfold Blk;rw [honly.2.2.2.2 Gq (Ne.symm hxq)];exact hbq
      have hby':Blk w' Gy 165 (ints .u32 Y0):=by unfold Blk;rw [honly.2.2.2.2 Gy (Ne.symm hxy)];exact hby
      have hbe':Below w.heap.size w w':=hbe.trans (honly.below hGx);have hcell:=hbq'.cell j (by rw [ints_length,HQSL.out];omega);have hfree:=hbq'.free j;obtain ⟨q,hq⟩:∃ q,q=val W / val Y0:=⟨_,rfl⟩
      rw [← hq];have hYpos:0 < val Y0:=by
       have:=HPRE.out.1;rcases Nat.eq_zero_or_pos (val Y0) with h5 | h5
       ·rw [h5,Nat.mul_zero] at this;omega
       ·exact h5
      have hqB:q < 4294967296:=by
       rw [hq,Nat.div_lt_iff_lt_mul hYpos];exact HPRE.out.1
      have hWq:valB B32 W'+q*val Y0=valB B32 W:=by
       have:=Nat.mod_add_div (val W) (val Y0);rw [← hWv',← hq,Nat.mul_comm (val Y0)] at this;exact this
      have hWlt:valB B32 W' < val Y0:=by
       have:=Nat.mod_lt (val W) hYpos;rw [← hWv'] at this;exact this
      have hstep:=div_step (n:=m1) (C:=C) HAL.out HPRE.out.2 hWq (by rw [HQSL.out];omega) HV2.out hWl' HWL.out;have HQ:=hid hq;have HST2:=hid hstep;have HWL':=hid hWl';have HWV:=hid hWv';have HWLT:=hid hWlt;clear hq hstep hWl' hWv' hWq hWlt;have hlen':(A ++(W' ++C)).length=m1+l+1:=by
       rw [List.length_append,List.length_append,HAL.out,HWL'.out];have:=HCL.out;omega
      have HL5:=hid hlen';clear hlen';go_wp2;go_roundw
      case rel=>
       have hv:=hbq'.set j (.int .u32 (q:Int));rw [ints_set] at hv;refine ⟨j,A ++(W' ++C),qs.set j q,by omega,by go_num,HL5.out,?_,by rw [List.length_set];exact HQSL.out,mem_set_lt hqsB hqB j,hwin'.1.other hxq _,hby'.other hyq _,hv,hbe'.setCell hqbase _,?_,?_⟩
       ·intro x hx
        rcases List.mem_append.1 hx with hx | hx
        ·exact hABs x hx
        ·rcases List.mem_append.1 hx with hx | hx
         ·exact hWB' x hx
         ·exact hCBs x hx
       ·rw [HST2.out.2];exact HWLT.out
       ·exact HST2.out.1
      case measure=>simp [intOf];try omega
theorem ln_R{B:BS}{w w':World}{K m:Nat}{a:Option Addr}{n c:Nat}(hB:∀ b,B b→b < w.heap.size)(h:Rw .u32 B32 w' a n c (limbs m))(hm:m < B32^K)(ho:Own w.heap.size w' a c):LfR B w' (ln K m) (.slice a n c):=lr_R h (limbs_K h hm) (own_out hB ho h)
theorem dn_R{B:BS}{w w':World}{K m:Nat}{a:Option Addr}{n c:Nat}(hB:∀ b,B b→b < w.heap.size)(h:Rw .i64 B4 w' a n c (digs4 m))(hm:m < B4^K)(ho:Own w.heap.size w' a c):LfR B w' (dn K m) (.slice a n c):=dr_R h (digs_K h hm) (own_out hB ho h)
theorem pow_le{B K M:Nat}(hB:2≤B)(h:K≤M){m:Nat}(hm:m < B^K):m < B^M:=Nat.lt_of_lt_of_le hm (Nat.pow_le_pow_right (by omega) h)
theorem aLNorm{l:Lf}{K m:Nat}(h:IsL l K m)(hK:K≤1073741824:=by first|decide|omega):ACall Tryz.prog 147 [.one l] (.d (.one (ln K m))):=by
 obtain ⟨xs,hl1,rfl⟩:=h;refine ⟨enters Tryz.func147 rfl rfl,fun B w vs hB hvs=>?_⟩
 match vs,hvs with
 | [v],⟨h1,_⟩=>
  obtain ⟨a,n,c,rfl,hr,hn,hb⟩:=lr_of (hl1 _ _ _ h1);refine (norm_any a n c xs w (by omega) hr).mono ?_;rintro e w' ⟨ro,k,c',rfl,hk,h3,ho,hbb⟩;exact ⟨_,rfl,hbb,ln_R hB h3 (lr_lt hr hn) ho⟩
theorem aLAdd{a b:Lf}{K L M m n:Nat}(h:IsL a K m)(k:IsL b L n)(hM:max K L+1≤M:=by first|decide|omega)(hK:K≤1073741824:=by first|decide|omega)(hL:L≤1073741824:=by first|decide|omega):ACall Tryz.prog 164 [.one a,.one b] (.d (.one (ln M (m+n)))):=by
 obtain ⟨xs,hl1,rfl⟩:=h;obtain ⟨ys,hl2,rfl⟩:=k;refine ⟨enters Tryz.func164 rfl rfl,fun B w vs hB hvs=>?_⟩
 match vs,hvs with
 | [v,u],⟨h1,h2,_⟩=>
  obtain ⟨a,n,c,rfl,hr,hn,hb⟩:=lr_of (hl1 _ _ _ h1);obtain ⟨a',n',c',rfl,hr',hn',hb'⟩:=lr_of (hl2 _ _ _ h2);refine (add_any a a' n c n' c' xs ys w (by omega) (by omega) hr hr').mono ?_;rintro e w' ⟨ro,k,cc,rfl,h3,ho,hbb⟩;exact ⟨_,rfl,hbb,ln_R hB h3 (pow_le (by decide) hM (max_add_lt (by decide) (lr_lt hr hn) (lr_lt hr' hn'))) ho⟩
theorem aLSub{a b:Lf}{K L m n:Nat}(h:IsL a K m)(k:IsL b L n)(hK:K≤1073741824:=by first|decide|omega)(hL:L≤1073741824:=by first|decide|omega):ACall Tryz.prog 165 [.one a,.one b] (.tup [.one (ln K (m-n)),.one (.v (.bool (decide (n≤m))))]):=by
 obtain ⟨xs,hl1,rfl⟩:=h;obtain ⟨ys,hl2,rfl⟩:=k;refine ⟨enters Tryz.func165 rfl rfl,fun B w vs hB hvs=>?_⟩
 match vs,hvs with
 | [v,u],⟨h1,h2,_⟩=>
  obtain ⟨a,n,c,rfl,hr,hn,hb⟩:=lr_of (hl1 _ _ _ h1);obtain ⟨a',n',c',rfl,hr',hn',hb'⟩:=lr_of (hl2 _ _ _ h2);refine (sub_any a a' n c n' c' xs ys w (by omega) (by omega) hr hr').mono ?_;rintro e w' ⟨ro,k,cc,rfl,h3,ho,hbb⟩;have hlt:=lr_lt hr hn;exact ⟨_,rfl,hbb,[.slice ro k cc,.bool (decide (val ys≤val xs))],rfl,ln_R hB h3 (by omega) ho,⟨rfl,rfl⟩,trivial⟩
theorem aLMul{a b:Lf}{K L M m n:Nat}(h:IsL a K m)(k:IsL b L n)(hM:K+L≤M:=by first|decide|omega)(hK:K≤1073741824:=by first|decide|omega)(hL:L≤1073741824:=by first|decide|omega):ACall Tryz.prog 154 [.one a,.one b] (.d (.one (ln M (m*n)))):=by
 obtain ⟨xs,hl1,rfl⟩:=h;obtain ⟨ys,hl2,rfl⟩:=k;refine ⟨enters Tryz.func154 rfl rfl,fun B w vs hB hvs=>?_⟩
 match vs,hvs with
 | [v,u],⟨h1,h2,_⟩=>
  obtain ⟨a,n,c,rfl,hr,hn,hb⟩:=lr_of (hl1 _ _ _ h1);obtain ⟨a',n',c',rfl,hr',hn',hb'⟩:=lr_of (hl2 _ _ _ h2);refine (mul_any a a' n c n' c' xs ys w (by omega) (by omega) hr hr').mono ?_;rintro e w' ⟨ro,k,cc,rfl,h3,ho,hbb⟩;exact ⟨_,rfl,hbb,ln_R hB h3 (pow_le (by decide) hM (mul_lt_pow (lr_lt hr hn) (lr_lt hr' hn'))) ho⟩
theorem aLCmp{a b:Lf}{K L m n:Nat}(h:IsL a K m)(k:IsL b L n)(hK:K≤1073741824:=by first|decide|omega)(hL:L≤1073741824:=by first|decide|omega):ACall Tryz.prog 133 [.one a,.one b] (.d (.one (.v (.int .i64 (cmpZ m n))))):=by
 obtain ⟨xs,hl1,rfl⟩:=h;obtain ⟨ys,hl2,rfl⟩:=k;refine ⟨enters Tryz.func133 rfl rfl,fun B w vs hB hvs=>?_⟩
 match vs,hvs with
 | [v,u],⟨h1,h2,_⟩=>
  obtain ⟨a,n,c,rfl,hr,hn,hb⟩:=lr_of (hl1 _ _ _ h1);obtain ⟨a',n',c',rfl,hr',hn',hb'⟩:=lr_of (hl2 _ _ _ h2);refine (cmp_any a a' n c n' c' xs ys w (by omega) (by omega) hr hr').mono ?_;rintro e w' ⟨rfl,hbb⟩;exact ⟨_,rfl,hbb,rfl,rfl⟩
theorem aLBits{a:Lf}{K m:Nat}(h:IsL a K m)(hK:K≤1073741824:=by first|decide|omega):ACall Tryz.prog 136 [.one a] (.d (.one (.v (.int .i64 ((nbits m:Nat):Int))))):=by
 obtain ⟨xs,hl1,rfl⟩:=h;refine ⟨enters Tryz.func136 rfl rfl,fun B w vs hB hvs=>?_⟩
 match vs,hvs with
 | [v],⟨h1,_⟩=>
  obtain ⟨a,n,c,rfl,hr,hn,hb⟩:=lr_of (hl1 _ _ _ h1);refine (bits_any a n c xs w (by omega) hr).mono ?_;rintro e w' ⟨rfl,rfl⟩;exact ⟨_,rfl,Below.refl _ _,rfl,rfl⟩
theorem aLDiv{a b:Lf}{K L m n:Nat}(h:IsL a K m)(k:IsL b L n)(hK:K≤1073741823:=by first|decide|omega)(hL:L≤1073741823:=by first|decide|omega):ACall Tryz.prog 166 [.one a,.one b] (.tup [.one (ln K (m / n)),.one (ln L (modZ m n)),.one (.v (.int .i64 (divErr n)))]):=by
 obtain ⟨xs,hl1,rfl⟩:=h;obtain ⟨ys,hl2,rfl⟩:=k;refine ⟨enters Tryz.func166 rfl rfl,fun B w vs hB hvs=>?_⟩
 match vs,hvs with
 | [v,u],⟨h1,h2,_⟩=>
  obtain ⟨a,n,c,rfl,hr,hn,hb⟩:=lr_of (hl1 _ _ _ h1);obtain ⟨a',n',c',rfl,hr',hn',hb'⟩:=lr_of (hl2 _ _ _ h2);refine (divmod_any a a' n c n' c' xs ys w (by omega) (by omega) hr hr').mono ?_;rintro e w' ⟨qo,qn,qc,ro,rn,rc,rfl,h3,h4,h5,h6,hbb⟩;have hq:val xs / val ys < B32^K:=Nat.lt_of_le_of_lt (Nat.div_le_self _ _) (lr_lt hr hn);have hm:modZ (val xs) (val ys) < B32^L:=by
   by_cases h0:val ys=0
   ·rw [h0,modZ_zero];exact Nat.pow_pos (by decide)
   ·rw [modZ_pos _ h0];exact Nat.lt_trans (Nat.mod_lt _ (by omega)) (lr_lt hr' hn')
  exact ⟨_,rfl,hbb,[.slice qo qn qc,.slice ro rn rc,.int .i64 (divErr (val ys))],rfl,ln_R hB h3 hq h4,ln_R hB h5 hm h6,⟨rfl,rfl⟩,trivial⟩
theorem aNAdd{a b:Lf}{K L M m n:Nat}(h:IsD a K m)(k:IsD b L n)(hM:max K L+1≤M:=by first|decide|omega)(hK:K≤1073741824:=by first|decide|omega)(hL:L≤1073741824:=by first|decide|omega):ACall Tryz.prog 140 [.one a,.one b] (.d (.one (dn M (m+n)))):=by
 refine ⟨enters Tryz.func140 rfl rfl,fun B w vs hB hvs=>?_⟩
 match vs,hvs with
 | [v,u],⟨h1,h2,_⟩=>
  obtain ⟨a,na,c,rfl,hr,hn,hb⟩:=dr_of (h _ _ _ h1);obtain ⟨a',n',c',rfl,hr',hn',hb'⟩:=dr_of (k _ _ _ h2);refine (addN_own a a' na c n' c' m n w (by omega) (by omega) hr hr').mono ?_;rintro e w' ⟨ro,k,cc,rfl,h3,ho,hk,hbb⟩;exact ⟨_,rfl,hbb,dn_R hB h3 (pow_le (by decide) hM (max_add_lt (by decide) (dn_lt hr hn) (dn_lt hr' hn'))) ho⟩
theorem aNMul{a b:Lf}{K L M m n:Nat}(h:IsD a K m)(k:IsD b L n)(hM:K+L≤M:=by first|decide|omega)(hK:K≤1073741824:=by first|decide|omega)(hL:L≤1073741824:=by first|decide|omega):ACall Tryz.prog 118 [.one a,.one b] (.d (.one (dn M (m*n)))):=by
 refine ⟨enters Tryz.func118 rfl rfl,fun B w vs hB hvs=>?_⟩
 match vs,hvs with
 | [v,u],⟨h1,h2,_⟩=>
  obtain ⟨a,na,c,rfl,hr,hn,hb⟩:=dr_of (h _ _ _ h1);obtain ⟨a',n',c',rfl,hr',hn',hb'⟩:=dr_of (k _ _ _ h2);refine (mulN_own a a' na c n' c' m n w (by omega) (by omega) hr hr').mono ?_;rintro e w' ⟨ro,k,cc,rfl,h3,hk,ho,hbb⟩;exact ⟨_,rfl,hbb,dn_R hB h3 (pow_le (by decide) hM (mul_lt_pow (dn_lt hr hn) (dn_lt hr' hn'))) ho⟩
theorem aNSub{a b:Lf}{K L M m n:Nat}(h:IsD a K m)(k:IsD b L n)(hle:n≤m)(hM:K≤M:=by first|decide|omega)(hK:K≤1073741824:=by first|decide|omega)(hL:L≤1073741824:=by first|decide|omega):ACall Tryz.prog 142 [.one a,.one b] (.d (.one (dn M (m-n)))):=by
 refine ⟨enters Tryz.func142 rfl rfl,fun B w vs hB hvs=>?_⟩
 match vs,hvs with
 | [v,u],⟨h1,h2,_⟩=>
  obtain ⟨a,na,c,rfl,hr,hn,hb⟩:=dr_of (h _ _ _ h1);obtain ⟨a',n',c',rfl,hr',hn',hb'⟩:=dr_of (k _ _ _ h2);refine (subN_own a a' na c n' c' m n w (by omega) (by omega) hle hr hr').mono ?_;rintro e w' ⟨ro,k,cc,rfl,h3,hk,ho,hbb⟩;exact ⟨_,rfl,hbb,dn_R hB h3 (pow_le (by decide) hM (Nat.lt_of_le_of_lt (Nat.sub_le _ _) (dn_lt hr hn))) ho⟩
theorem aNCmp{a b:Lf}{K L m n:Nat}(h:IsD a K m)(k:IsD b L n)(hK:K≤1073741824:=by first|decide|omega)(hL:L≤1073741824:=by first|decide|omega):ACall Tryz.prog 141 [.one a,.one b] (.d (.one (.v (.int .i64 (cmpZ m n))))):=by
 refine ⟨enters Tryz.func141 rfl rfl,fun B w vs hB hvs=>?_⟩
 match vs,hvs with
 | [v,u],⟨h1,h2,_⟩=>
  obtain ⟨a,na,c,rfl,hr,hn,hb⟩:=dr_of (h _ _ _ h1);obtain ⟨a',n',c',rfl,hr',hn',hb'⟩:=dr_of (k _ _ _ h2);refine (cmpN_any a a' na c n' c' m n w (by omega) (by omega) hr hr').mono ?_;rintro e w' ⟨rfl,hbb⟩;exact ⟨_,rfl,hbb,rfl,rfl⟩
theorem aNDiv{a b:Lf}{K L m n:Nat}(h:IsD a K m)(k:IsD b L n)(hn0:0 < n)(hK:K≤100000000:=by first|decide|omega)(hL:L≤100000000:=by first|decide|omega):ACall Tryz.prog 119 [.one a,.one b] (.tup [.one (dn K (m / n)),.one (dn L (m%n))]):=by
 refine ⟨enters Tryz.func119 rfl rfl,fun B w vs hB hvs=>?_⟩
 match vs,hvs with
 | [v,u],⟨h1,h2,_⟩=>
  obtain ⟨a,na,c,rfl,hr,hn,hb⟩:=dr_of (h _ _ _ h1);obtain ⟨a',n',c',rfl,hr',hn',hb'⟩:=dr_of (k _ _ _ h2);refine (divN_own a a' na c n' c' m n w (by omega) (by omega) hn0 hr hr').mono ?_;rintro e w' ⟨qo,qn,qc,ro,rn,rc,rfl,h3,_,h5,_,h4,h6,hbb⟩;have hq:m / n < B4^K:=Nat.lt_of_le_of_lt (Nat.div_le_self _ _) (dn_lt hr hn);have hm:m%n < B4^L:=Nat.lt_trans (Nat.mod_lt _ hn0) (dn_lt hr' hn');exact ⟨_,rfl,hbb,[.slice qo qn qc,.slice ro rn rc],rfl,dn_R hB h3 hq h4,dn_R hB h5 hm h6,trivial⟩
theorem aNTo{a:Lf}{K m:Nat}(h:IsD a K m)(hK:K≤1000000000:=by first|decide|omega):ACall Tryz.prog 93 [.one a] (.d (.one (ln K m))):=by
 refine ⟨enters Tryz.func93 rfl rfl,fun B w vs hB hvs=>?_⟩
 match vs,hvs with
 | [v],⟨h1,_⟩=>
  obtain ⟨a,n,c,rfl,hr,hn,hb⟩:=dr_of (h _ _ _ h1);refine (toN_own a n c m w (by omega) hr).mono ?_;rintro e w' ⟨ro,k,c',rfl,h3,hk,ho,hbb⟩;exact ⟨_,rfl,hbb,lr_R h3 (by omega) (own_out hB ho h3)⟩
theorem aNPow{n:Nat}(hn:n≤1000000:=by decide):ACall Tryz.prog 89 [.one (.v (.int .i64 (n:Int)))] (.d (.one (dn (n+1) (2^n)))):=by
 refine ⟨enters Tryz.func89 rfl rfl,fun B w vs hB hvs=>?_⟩
 match vs,hvs with
 | [_],⟨⟨rfl,_⟩,_⟩=>
  refine (powN_own n w hn).mono ?_;rintro e w' ⟨ro,k,c',rfl,h3,hk,ho,hbb⟩;exact ⟨_,rfl,hbb,dr_R h3 hk (own_out hB ho h3)⟩
theorem aWithin{v:Int}{n:Nat}(hn:1≤n:=by decide)(hn2:n≤1000000:=by decide)(h1: -9223372036854775808≤v)(h2:v≤9223372036854775807):ACall Tryz.prog 20 [.one (.v (.int .i64 v)),.one (.v (.int .i64 (n:Int)))] (.d (.one (.v (.int .i64 (v%(n:Int)))))):=by
 refine ⟨enters Tryz.func20 rfl rfl,fun B w vs hB hvs=>?_⟩
 match vs,hvs with
 | [_,_],⟨⟨rfl,_⟩,⟨rfl,_⟩,_⟩=>
  refine (within_any v n w hn hn2 h1 h2).mono ?_;rintro e w' ⟨rfl,rfl⟩;exact ⟨_,rfl,Below.refl _ _,rfl,rfl⟩
theorem le_made{K m:Nat}{b:Bool}{z:Int}(h1:b=decide (z < 0))(h2:m=z.natAbs):AV.le (.d (.agg [.v (.bool b),ln K m])) (.d (.agg (zn K z))):=by subst h1;subst h2;exact AV.le.rfl
theorem le_rmade{K m:Nat}{b:Bool}{z:Int}(h1:b=decide (z < 0))(h2:m=z.natAbs):AV.le (.d (.agg [dn K m,.v (.bool b)])) (.d (.agg (rn K z))):=by subst h1;subst h2;exact AV.le.rfl
theorem limbs_len(m:Nat):(limbs m).length=0↔m=0:=by
 rw [List.length_eq_zero_iff];exact limbs_eq_nil
theorem digs_len(m:Nat):(digs4 m).length=0↔m=0:=by
 rw [List.length_eq_zero_iff];exact digs4_eq_nil
def sgn(z:Int):Int:=if z < 0 then -1 else if z=0 then 0 else 1
theorem nbits_zero_iff(m:Nat):nbits m=0↔m=0:=⟨fun h=>by
 rcases Nat.eq_zero_or_pos m with h0 | h0
 ·exact h0
 ·have:=nbits_pos (n:=m) (by omega);omega,fun h=>by subst h;rfl⟩
theorem zv_mul(s t:Bool)(a b:Nat):zv (s !=t) (a*b)=zv s a*zv t b:=by
 cases s <;> cases t <;> simp [zv,Int.neg_mul,Int.mul_neg]
theorem zv_add(s t:Bool)(a b:Nat)(h:(s==t)=true):zv s (a+b)=zv s a+zv t b:=by
 cases s <;> cases t <;> simp_all [zv] <;> omega
theorem zv_sub1(s t:Bool)(a b:Nat)(h:(s==t)=false)(hle:b≤a):zv s (a-b)=zv s a+zv t b:=by
 cases s <;> cases t <;> simp_all [zv] <;> omega
theorem zv_sub2(s t:Bool)(a b:Nat)(h:(s==t)=false)(hle:¬ b≤a):zv t (b-a)=zv s a+zv t b:=by
 cases s <;> cases t <;> simp_all [zv] <;> omega
theorem zvz(x:Int):x=zv (decide (x < 0)) x.natAbs:=(zv_natAbs x).symm
theorem aMade{K m:Nat}{neg:Bool}{z:Int}(hz:zv neg m=z):ACall Tryz.prog 146 [.one (ln K m),.one (.v (.bool neg))] (.d (.agg (zn K z))):=by
 subst hz;cases neg
 ·exact aN 13 [.cell 4 36] Tryz.func146 rfl<|cR<|mO rfl<|mT<|cR<|mv2 rfl rfl<|mG rfl rfl<|mG rfl rfl<|mG rfl rfl<|mv3 rfl rfl rfl<|mZ rfl<|mT<|cRet<|rQ rfl (le_made (by simp [zv_neg]) (zv_abs _ _).symm)
 ·exact aN 13 [.cell 4 36] Tryz.func146 rfl<|cR<|mO rfl<|mT<|cR<|mv6 rfl rfl rfl rfl rfl rfl<|mv2 rfl rfl<|mZ rfl<|mT<|cRet<|rQ rfl (le_made (by rw [zv_neg];have:=limbs_len m;rw [Bool.true_and,decide_eq_decide];omega) (zv_abs _ _).symm)
theorem aRMade{K m:Nat}{neg:Bool}{z:Int}(hz:zv neg m=z):ACall Tryz.prog 88 [.one (dn K m),.one (.v (.bool neg))] (.d (.agg (rn K z))):=by
 subst hz;cases neg
 ·exact aN 13 [.cell 4 47] Tryz.func88 rfl<|cR<|mO rfl<|mT<|cR<|mv3 rfl rfl rfl<|mG rfl rfl<|mG rfl rfl<|mG rfl rfl<|mv2 rfl rfl<|mZ rfl<|mT<|cRet<|rQ rfl (le_rmade (by simp [zv_neg]) (zv_abs _ _).symm)
 ·exact aN 13 [.cell 4 47] Tryz.func88 rfl<|cR<|mO rfl<|mT<|cR<|mv6 rfl rfl rfl rfl rfl rfl<|mv2 rfl rfl<|mZ rfl<|mT<|cRet<|rQ rfl (le_rmade (by rw [zv_neg];have:=digs_len m;rw [Bool.true_and,decide_eq_decide];omega) (zv_abs _ _).symm)
theorem aNorm{a:List Lf}{K:Nat}{x:Int}(ha:IsZ a K x)(hK:K≤1073741824:=by first|decide|omega):ACall Tryz.prog 123 [.agg a] (.d (.agg (zn K x))):=by
 obtain ⟨s,xs,ha,rfl⟩:=ha;exact ACall.le (dl (DV.z ha) dl0) AV.le.rfl<|aN 9 [.cell 2 36] Tryz.func123 rfl<|cR<|mO rfl<|mO rfl<|mT<|cSeq<|cDk 6<|oV rfl<|oV rfl<|oC (aLNorm (islv K xs)) rfl<|oV rfl<|oV rfl<|oC (aMade rfl) rfl<|.nil<|mZ rfl<|mT<|cRet<|rQ rfl (AV.le.rfl)
theorem aNeg{a:List Lf}{K:Nat}{x:Int}(ha:IsZ a K x)(hK:K≤1073741824:=by first|decide|omega):ACall Tryz.prog 152 [.agg a] (.d (.agg (zn K (-x)))):=by
 obtain ⟨s,xs,ha,rfl⟩:=ha;refine ACall.le (dl (DV.z ha) dl0) AV.le.rfl<|aN 10 [.cell 2 36] Tryz.func152 rfl<|cR<|mO rfl<|mO rfl<|mT<|cSeq<|cDk 7<|oV rfl<|oV rfl<|oC (aLNorm (islv K xs)) rfl<|oV rfl<|oV rfl<|oV rfl<|oC (aMade rfl) rfl<|.nil<|mZ rfl<|mT<|cRet ?_;exact rQ rfl (le_zn (Nat.le_refl _) (by cases s <;> simp [zv]))
theorem aAdd{a b:List Lf}{K L M:Nat}{x y:Int}(ha:IsZ a K x)(hb:IsZ b L y)(hM:max K L+1≤M:=by first|decide|omega)(hK:K≤1073741824:=by first|decide|omega)(hL:L≤1073741824:=by first|decide|omega):ACall Tryz.prog 148 [.agg a,.agg b] (.d (.agg (zn M (x+y)))):=by
 obtain ⟨s,xs,ha,rfl⟩:=ha;obtain ⟨t,ys,hb,rfl⟩:=hb;refine ACall.le (dl (DV.z ha) (dl (DV.z hb) dl0)) AV.le.rfl<|aN 47 [.cell 4 36] Tryz.func148 rfl<|cR<|mO rfl<|mO rfl<|mO rfl<|mT<|cSeq<|cR<|mv5 rfl rfl rfl rfl rfl<|mT<|cCond rfl (fun hc1=>?_) (fun hc1=>?_)
 ·exact cSeq<|cDk 8<|oV rfl<|oV rfl<|oV rfl<|oV rfl<|oC (aLAdd (islv K xs) (islv L ys) (M:=(max K L+1))) rfl<|oV rfl<|oV rfl<|oC (aMade rfl) rfl<|.nil<|mZ rfl<|mT<|cRet<|tR<|rQ rfl (le_zn hM (zv_add _ _ _ _ hc1))
 ·refine cSkip<|tN<|cSeq<|cR<|mv4 rfl rfl rfl rfl<|mY (aLSub (islv K xs) (islv L ys)) rfl<|mv5 rfl rfl rfl rfl rfl<|mT<|cR<|mW rfl<|mT<|cCond rfl (fun hc2=>?_) (fun hc2=>?_)
  ·exact cR<|mv3 rfl rfl rfl<|mY (aMade rfl) rfl<|mZ rfl<|mT<|cRet<|tR<|rQ rfl (le_zn (by omega) (zv_sub1 _ _ _ _ hc1 (by simpa using hc2)))
  ·exact cSkip<|tN<|cR<|mv4 rfl rfl rfl rfl<|mY (aLSub (islv L ys) (islv K xs)) rfl<|mv5 rfl rfl rfl rfl rfl<|mT<|cR<|mv3 rfl rfl rfl<|mY (aMade rfl) rfl<|mZ rfl<|mT<|cRet<|rQ rfl (le_zn (by omega) (zv_sub2 _ _ _ _ hc1 (by simpa using hc2)))
theorem aSub{a b:List Lf}{K L M:Nat}{x y:Int}(ha:IsZ a K x)(hb:IsZ b L y)(hM:max K L+1≤M:=by first|decide|omega)(hK:K≤1073741824:=by first|decide|omega)(hL:L≤1073741824:=by first|decide|omega):ACall Tryz.prog 138 [.agg a,.agg b] (.d (.agg (zn M (x-y)))):=by
 obtain ⟨s,xs,ha,rfl⟩:=ha;obtain ⟨t,ys,hb,rfl⟩:=hb;refine ACall.le (dl (DV.z ha) (dl (DV.z hb) dl0)) AV.le.rfl<|aN 12 [.cell 4 36] Tryz.func138 rfl<|cR<|mO rfl<|mO rfl<|mO rfl<|mT<|cR<|mv4 rfl rfl rfl rfl<|mZ rfl<|mT<|cR<|mv2 rfl rfl<|mY (aAdd (iszr K s xs) (iszr L (!t) ys) (M:=(max K L+1))) rfl<|mZ rfl<|mT<|cRet ?_;exact rQ rfl (le_zn hM (by cases t <;> simp [zv] <;> omega))
theorem aMul{a b:List Lf}{K L M:Nat}{x y:Int}(ha:IsZ a K x)(hb:IsZ b L y)(hM:K+L≤M:=by first|decide|omega)(hK:K≤1073741824:=by first|decide|omega)(hL:L≤1073741824:=by first|decide|omega):ACall Tryz.prog 131 [.agg a,.agg b] (.d (.agg (zn M (x*y)))):=by
 obtain ⟨s,xs,ha,rfl⟩:=ha;obtain ⟨t,ys,hb,rfl⟩:=hb;exact ACall.le (dl (DV.z ha) (dl (DV.z hb) dl0)) AV.le.rfl<|aN 16 [.cell 4 36] Tryz.func131 rfl<|cR<|mO rfl<|mO rfl<|mO rfl<|mT<|cSeq<|cDk 11<|oV rfl<|oV rfl<|oV rfl<|oV rfl<|oC (aLMul (islv K xs) (islv L ys) (M:=(K+L))) rfl<|oV rfl<|oV rfl<|oV rfl<|oV rfl<|oV rfl<|oC (aMade rfl) rfl<|.nil<|mZ rfl<|mT<|cRet<|rQ rfl (le_zn hM (zv_mul _ _ _ _))
theorem aSgn{a:List Lf}{K:Nat}{x:Int}(ha:IsZ a K x)(hK:K≤1073741824:=by first|decide|omega):ACall Tryz.prog 132 [.agg a] (.d (.one (.v (.int .i64 (sgn x))))):=by
 obtain ⟨s,xs,ha,rfl⟩:=ha;refine ACall.le (dl (DV.z ha) dl0) AV.le.rfl<|aN 11 [.tmp 2] Tryz.func132 rfl<|cR<|mO rfl<|mW rfl<|mT<|cSeq<|cBlock<|cR<|mv2 rfl rfl<|mY (aLBits (islv K xs)) rfl<|mv2 rfl rfl<|mT<|cCond rfl (fun hc1=>?_) (fun hc1=>?_)
 ·refine cR<|mW rfl<|mT<|cRet<|bR<|tR ?_;exact rQ rfl (le_int (by have h0:=nbits_zero_iff (val xs);simp only [beq_iff_eq,beq_eq_false_iff_ne,ne_eq,bne_iff_ne,bne_eq_false_iff_eq,decide_eq_true_eq,decide_eq_false_iff_not] at hc1;unfold sgn zv;cases s <;> (repeat' split) <;> first | omega | (exfalso;simp at *;done) | (simp at *;omega)))
 ·refine cR<|mv3 rfl rfl rfl<|mT<|cCond rfl (fun hc2=>?_) (fun hc2=>?_)
  ·refine cR<|mW rfl<|mT<|cRet<|bR<|tR ?_;exact rQ rfl (le_int (by have h0:=nbits_zero_iff (val xs);simp only [beq_iff_eq,beq_eq_false_iff_ne,ne_eq,bne_iff_ne,bne_eq_false_iff_eq,decide_eq_true_eq,decide_eq_false_iff_not] at hc1 hc2;unfold sgn zv;cases s <;> (repeat' split) <;> first | omega | (exfalso;simp at *;done) | (simp at *;omega)))
  ·refine cSkip<|bN<|tN<|cR<|mW rfl<|mT<|cRet ?_;exact rQ rfl (le_int (by have h0:=nbits_zero_iff (val xs);simp only [beq_iff_eq,beq_eq_false_iff_ne,ne_eq,bne_iff_ne,bne_eq_false_iff_eq,decide_eq_true_eq,decide_eq_false_iff_not] at hc1 hc2;unfold sgn zv;cases s <;> (repeat' split) <;> first | omega | (exfalso;simp at *;done) | (simp at *;omega)))
theorem aCmp{a b:List Lf}{K L:Nat}{x y:Int}(ha:IsZ a K x)(hb:IsZ b L y)(hK:K≤1073741824:=by first|decide|omega)(hL:L≤1073741824:=by first|decide|omega):ACall Tryz.prog 104 [.agg a,.agg b] (.d (.one (.v (.int .i64 (cmpZ x y))))):=by
 obtain ⟨s,xs,ha,hx⟩:=ha;obtain ⟨t,ys,hb,hy⟩:=hb;refine ACall.le (dl (DV.z ha) (dl (DV.z hb) dl0)) AV.le.rfl ?_;have hxa:val xs=x.natAbs:=by rw [← hx,zv_abs]
 have hya:val ys=y.natAbs:=by rw [← hy,zv_abs]
 refine aN 32 [.tmp 4] Tryz.func104 rfl<|cR<|mO rfl<|mO rfl<|mW rfl<|mT<|cSeq<|cDk 6<|oV rfl<|oC (aSgn ⟨s,xs,fun _ _ _ h=>h,hx⟩ (by omega)) rfl<|oV rfl<|oC (aSgn ⟨t,ys,fun _ _ _ h=>h,hy⟩ (by omega)) rfl<|.cons (OpS.V _ rfl)<|.cons (OpS.V _ rfl)<|.nil<|mT<|cSeq<|cBlock<|cR<|mv4 rfl rfl rfl rfl<|mT<|cCond rfl (fun hc1=>?_) (fun hc1=>?_)
 ·refine cR<|mW rfl<|mT<|cRet<|bR<|tR ?_;exact rQ rfl (le_int (by simp only [decide_eq_true_eq,decide_eq_false_iff_not] at hc1;(try rw [hxa,hya]);simp only [sgn,cmpZ] at *;(repeat' split at *) <;> omega))
 ·refine cR<|mv4 rfl rfl rfl rfl<|mT<|cCond rfl (fun hc2=>?_) (fun hc2=>?_)
  ·refine cR<|mW rfl<|mT<|cRet<|bR<|tR ?_;exact rQ rfl (le_int (by simp only [decide_eq_true_eq,decide_eq_false_iff_not] at hc1 hc2;(try rw [hxa,hya]);simp only [sgn,cmpZ] at *;(repeat' split at *) <;> omega))
  ·refine cR<|mv3 rfl rfl rfl<|mT<|cCond rfl (fun hc3=>?_) (fun hc3=>?_)
   ·refine cR<|mv4 rfl rfl rfl rfl<|mY (aLCmp (islv L ys) (islv K xs)) rfl<|mW rfl<|mT<|cRet<|bR<|tR ?_;exact rQ rfl (le_int (by simp only [decide_eq_true_eq,decide_eq_false_iff_not] at hc1 hc2 hc3;(try rw [hxa,hya]);simp only [sgn,cmpZ] at *;(repeat' split at *) <;> omega))
   ·refine cSkip<|bN<|tN<|cR<|mv4 rfl rfl rfl rfl<|mY (aLCmp (islv K xs) (islv L ys)) rfl<|mW rfl<|mT<|cRet ?_;exact rQ rfl (le_int (by simp only [decide_eq_true_eq,decide_eq_false_iff_not] at hc1 hc2 hc3;(try rw [hxa,hya]);simp only [sgn,cmpZ] at *;(repeat' split at *) <;> omega))
theorem aRTo{a:List Lf}{K:Nat}{x:Int}(ha:IsR a K x)(hK:K≤1000000000:=by first|decide|omega):ACall Tryz.prog 58 [.agg a] (.d (.agg (zn K x))):=by
 exact ACall.le (dl (DV.g ha) dl0) AV.le.rfl<|aN 9 [.cell 2 36] Tryz.func58 rfl<|cR<|mO rfl<|mO rfl<|mT<|cSeq<|cDk 6<|oV rfl<|oV rfl<|oV rfl<|oV rfl<|oC (aNTo (isd K x.natAbs)) rfl<|oV rfl<|.nil<|mZ rfl<|mT<|cRet<|rQ rfl (AV.le.rfl)
theorem aRNeg{a:List Lf}{K M:Nat}{x:Int}(ha:IsR a K x)(hM:K≤M:=by first|decide|omega)(hK:K≤1073741824:=by first|decide|omega):ACall Tryz.prog 84 [.agg a] (.d (.agg (rn M (-x)))):=by
 refine ACall.le (dl (DV.g ha) dl0) AV.le.rfl<|aN 9 [.cell 2 47] Tryz.func84 rfl<|cR<|mO rfl<|mO rfl<|mT<|cR<|mv5 rfl rfl rfl rfl rfl<|mY (aRMade rfl) rfl<|mZ rfl<|mT<|cRet ?_;exact rQ rfl (le_rn hM (by unfold zv;by_cases h:x < 0 <;> simp [h] <;> omega))
theorem aRAdd{a b:List Lf}{K L M:Nat}{x y:Int}(ha:IsR a K x)(hb:IsR b L y)(hM:max K L+1≤M:=by first|decide|omega)(hK:K≤1073741824:=by first|decide|omega)(hL:L≤1073741824:=by first|decide|omega):ACall Tryz.prog 114 [.agg a,.agg b] (.d (.agg (rn M (x+y)))):=by
 refine ACall.le (dl (DV.g ha) (dl (DV.g hb) dl0)) AV.le.rfl<|aN 40 [.cell 4 47] Tryz.func114 rfl<|cR<|mO rfl<|mO rfl<|mO rfl<|mT<|cSeq<|cR<|mv5 rfl rfl rfl rfl rfl<|mT<|cCond rfl (fun hc1=>?_) (fun hc1=>?_)
 ·exact cSeq<|cDk 8<|oV rfl<|oV rfl<|oV rfl<|oV rfl<|oC (aNAdd (isd K x.natAbs) (isd L y.natAbs) (M:=(max K L+1))) rfl<|oV rfl<|oV rfl<|oC (aRMade rfl) rfl<|.nil<|mZ rfl<|mT<|cRet<|tR<|rQ rfl (le_rn hM ((zv_add _ _ _ _ hc1).trans (by rw [← zvz x,← zvz y])))
 ·refine cSkip<|tN<|cSeq<|cR<|mv4 rfl rfl rfl rfl<|mY (aNCmp (isd K x.natAbs) (isd L y.natAbs)) rfl<|mW rfl<|mT<|cCond rfl (fun hc2=>?_) (fun hc2=>?_)
  ·refine cSeq<|cDk 8<|oV rfl<|oV rfl<|oV rfl<|.cons (OpS.V (.d (.one (dn L y.natAbs))) rfl) ?_;refine .cons (OpS.C0 (aNSub (isd K x.natAbs) (isd L y.natAbs) (by have h:=hc2;simp [cmpZ] at h;(repeat' split at h) <;> omega) (M:=K)) rfl rfl rfl) ?_;refine oV rfl<|oV rfl<|oC (aRMade rfl) rfl<|.nil<|mZ rfl<|mT<|cRet<|tR ?_;exact rQ rfl (le_rn (by omega) ((zv_sub1 _ _ _ _ hc1 (by have h:=hc2;simp [cmpZ] at h;(repeat' split at h) <;> omega)).trans (by rw [← zvz x,← zvz y])))
  ·refine cSkip<|tN<|cSeq<|cDk 8<|oV rfl<|oV rfl<|oV rfl<|.cons (OpS.V (.d (.one (dn K x.natAbs))) rfl) ?_;refine .cons (OpS.C0 (aNSub (isd L y.natAbs) (isd K x.natAbs) (by have h:=hc2;simp [cmpZ] at h;(repeat' split at h) <;> omega) (M:=L)) rfl rfl rfl) ?_;refine oV rfl<|oV rfl<|oC (aRMade rfl) rfl<|.nil<|mZ rfl<|mT<|cRet ?_;exact rQ rfl (le_rn (by omega) ((zv_sub2 _ _ _ _ hc1 (by have h:=hc2;simp [cmpZ] at h;(repeat' split at h) <;> omega)).trans (by rw [← zvz x,← zvz y])))
theorem aRSub{a b:List Lf}{K L M:Nat}{x y:Int}(ha:IsR a K x)(hb:IsR b L y)(hM:max K L+1≤M:=by first|decide|omega)(hK:K≤1073741824:=by first|decide|omega)(hL:L≤1073741824:=by first|decide|omega):ACall Tryz.prog 116 [.agg a,.agg b] (.d (.agg (rn M (x-y)))):=by
 exact ACall.le (dl (DV.g ha) (dl (DV.g hb) dl0)) AV.le.rfl<|aN 9 [.cell 4 47] Tryz.func116 rfl<|cR<|mO rfl<|mO rfl<|mO rfl<|mT<|cSeq<|cDk 4<|oV rfl<|oV rfl<|oC (aRNeg (isr L y) (M:=L)) rfl<|oC (aRAdd (isr K x) (isr L (-y)) (M:=(max K L+1))) rfl<|.nil<|mZ rfl<|mT<|cRet<|rQ rfl (le_rn hM (by omega))
theorem aRMul{a b:List Lf}{K L M:Nat}{x y:Int}(ha:IsR a K x)(hb:IsR b L y)(hM:K+L≤M:=by first|decide|omega)(hK:K≤1073741824:=by first|decide|omega)(hL:L≤1073741824:=by first|decide|omega):ACall Tryz.prog 82 [.agg a,.agg b] (.d (.agg (rn M (x*y)))):=by
 exact ACall.le (dl (DV.g ha) (dl (DV.g hb) dl0)) AV.le.rfl<|aN 16 [.cell 4 47] Tryz.func82 rfl<|cR<|mO rfl<|mO rfl<|mO rfl<|mT<|cSeq<|cDk 11<|oV rfl<|oV rfl<|oV rfl<|oV rfl<|oC (aNMul (isd K x.natAbs) (isd L y.natAbs) (M:=(K+L))) rfl<|oV rfl<|oV rfl<|oV rfl<|oV rfl<|oV rfl<|oC (aRMade rfl) rfl<|.nil<|mZ rfl<|mT<|cRet<|rQ rfl (le_rn hM ((zv_mul _ _ _ _).trans (by rw [← zvz x,← zvz y])))
theorem aRSign{a:List Lf}{K:Nat}{x:Int}(ha:IsR a K x):ACall Tryz.prog 112 [.agg a] (.d (.one (.v (.int .i64 (sgn x))))):=by
 refine ACall.le (dl (DV.g ha) dl0) AV.le.rfl<|aN 11 [.tmp 2] Tryz.func112 rfl<|cR<|mO rfl<|mW rfl<|mT<|cSeq<|cBlock<|cR<|mv5 rfl rfl rfl rfl rfl<|mT<|cCond rfl (fun hc1=>?_) (fun hc1=>?_)
 ·refine cR<|mW rfl<|mT<|cRet<|bR<|tR ?_;exact rQ rfl (le_int (by have h0:=digs_len x.natAbs;simp only [beq_iff_eq,beq_eq_false_iff_ne,ne_eq,bne_iff_ne,bne_eq_false_iff_eq,decide_eq_true_eq,decide_eq_false_iff_not] at hc1;unfold sgn;(repeat' split) <;> omega))
 ·refine cR<|mv3 rfl rfl rfl<|mT<|cCond rfl (fun hc2=>?_) (fun hc2=>?_)
  ·refine cR<|mW rfl<|mT<|cRet<|bR<|tR ?_;exact rQ rfl (le_int (by have h0:=digs_len x.natAbs;simp only [beq_iff_eq,beq_eq_false_iff_ne,ne_eq,bne_iff_ne,bne_eq_false_iff_eq,decide_eq_true_eq,decide_eq_false_iff_not] at hc1 hc2;unfold sgn;(repeat' split) <;> omega))
  ·refine cSkip<|bN<|tN<|cR<|mW rfl<|mT<|cRet ?_;exact rQ rfl (le_int (by have h0:=digs_len x.natAbs;simp only [beq_iff_eq,beq_eq_false_iff_ne,ne_eq,bne_iff_ne,bne_eq_false_iff_eq,decide_eq_true_eq,decide_eq_false_iff_not] at hc1 hc2;unfold sgn;(repeat' split) <;> omega))
theorem aRZero{a:List Lf}{K:Nat}{x:Int}(ha:IsR a K x):ACall Tryz.prog 85 [.agg a] (.d (.one (.v (.bool (decide (x=0)))))):=by
 exact ACall.le (dl (DV.g ha) dl0) AV.le.rfl<|aN 7 [.tmp 2] Tryz.func85 rfl<|cR<|mO rfl<|mW rfl<|mT<|cR<|mv5 rfl rfl rfl rfl rfl<|mT<|cRet<|rQ rfl (le_bool (by have h0:=digs_len x.natAbs;rw [Bool.eq_iff_iff,beq_iff_eq,decide_eq_true_eq];omega))
theorem aRCmp{a b:List Lf}{K L:Nat}{x y:Int}(ha:IsR a K x)(hb:IsR b L y)(hK:K≤1000000000:=by first|decide|omega)(hL:L≤1000000000:=by first|decide|omega):ACall Tryz.prog 81 [.agg a,.agg b] (.d (.one (.v (.int .i64 (cmpZ x y))))):=by
 refine ACall.le (dl (DV.g ha) (dl (DV.g hb) dl0)) AV.le.rfl<|aN 9 [.tmp 4] Tryz.func81 rfl<|cR<|mO rfl<|mO rfl<|mW rfl<|mT<|cR<|mv2 rfl rfl<|mY (aRSub (isr K x) (isr L y) (M:=(max K L+1))) rfl<|mY (aRSign (isr (max K L+1) (x-y))) rfl<|mW rfl<|mT<|cRet ?_;exact rQ rfl (le_int (by simp only [sgn,cmpZ];(repeat' split) <;> omega))
theorem dle{a b:DV}(h:AV.le (.d a) (.d b)):∀ B w v,DR B w a v→DR B w b v:=fun B w v hv=>h (fun _=>none) B w v hv
theorem le_tup{xs ys:List DV}(h:DsLe xs ys):AV.le (.tup xs) (.tup ys):=fun ρ B w v ⟨cs,e,hl⟩=>⟨cs,e,h.ok hl⟩
section
variable {T:TypeId→Option TI} {s:AS} {t e:TypeId} {ti te:TI} {x ix:Operand} {k:IntKind} {z:Int} {sz n id:Nat} {el:Nat→Nat→Lf}
theorem ixR(h1:T t=some ti)(h2:ti.elem=some e)(h3:T e=some te)(h4:ints2 s ix=some (k,z))(h5:geto s x=some (.d (.one (.row sz n el))))(h6:Nat.beq sz te.n=true)(hz:0≤z)(hz2:z < (n:Int)):evV T s (.indexAddr t x ix)=some (.d (.one (.at sz (el z.toNat)))):=by
 have h6':=Nat.eq_of_beq_eq_true h6;simp only [evV,h1,h2,h3,h4,h5];rw [if_pos ⟨h6',hz,hz2⟩];rfl
theorem ixO{e':TypeId}(h1:T t=some ti)(h2:ti.elem=some e)(h3:T e=some te)(h4:ints2 s ix=some (k,z))(h5:geto s x=some (.own id))(h7:lkU s.hp id=some (.row e' sz n el))(h6:Nat.beq sz te.n=true)(hz:0≤z)(hz2:z < (n:Int)):evV T s (.indexAddr t x ix)=some (.eptr id sz z.toNat 0):=by
 have h6':=Nat.eq_of_beq_eq_true h6;simp only [evV,h1,h2,h3,h4,h5,h7];rw [if_pos ⟨h6',hz,hz2⟩]
theorem slR{hi:Operand}(h1:T t=some ti)(h2:ti.elem=some e)(h3:T e=some te)(h4:ints2 s hi=some (k,z))(h5:geto s x=some (.d (.one (.row sz n el))))(h6:Nat.beq sz te.n=true)(hz:0≤z)(hz2:z≤(n:Int)):evV T s (.slice t x none (some hi) none)=some (.d (.one (.row sz z.toNat el))):=by
 have h6':=Nat.eq_of_beq_eq_true h6;simp only [evV,h1,h2,h3,h5,bndV,h4,if_pos hz];rw [if_pos ⟨h6',Nat.zero_le _,by omega⟩];show some (AV.d (.one (.row sz (z.toNat-0) fun i j=>el (0+i) j)))=_
 simp only [Nat.sub_zero,Nat.zero_add]
theorem mkO{l c:Operand}{zl zc:Int}{k':IntKind}{bts nn:Nat}{zz:List Value}(h1:T t=some ti)(h2:ti.elem=some e)(h3:T e=some te)(h4:ints2 s l=some (k,zl))(h5:ints2 s c=some (k',zc))(h0:0≤zl)(h6:zl≤zc)(hb:te.bytes=bts)(hn:te.n=nn)(hzz:te.zero=zz)(h7:(bts:Int)*zc≤140737488355328)(h8:zc≤9223372036854775807)(h9:Nat.beq te.zero.length te.n=true):evN T s (.makeSlice t l c)=some (.row e nn zl.toNat fun _ j=> .v ((zz[j]?).getD undef)):=by
 have h9':=Nat.eq_of_beq_eq_true h9;subst hb;subst hn;subst hzz;simp only [evN,h1,h2,h3,h4,h5];rw [if_pos ⟨h0,h6,h7,h8,h9'⟩]
end
theorem inc64{i:Nat}(h:i < 1000000001:=by omega):IntKind.i64.wrap ((i:Int)+1)=((i+1:Nat):Int):=(wr64 (by omega) (by omega)).trans (by omega)
theorem leo_row0{e:TypeId}{sz:Nat}{el el':Nat→Nat→Lf}:AO.le (.row e sz 0 el) (.row e sz 0 el'):=leo_row fun i hi=>absurd hi (Nat.not_lt_zero _)
/-! ### Small numbers -/
theorem shr32(m:Nat):Int.fdiv (m:Int) (2^(min (Int.toNat 32) 64))=((m / 4294967296:Nat):Int):=by
 rw [Int.fdiv_eq_ediv_of_nonneg _ (by decide)];exact (Int.natCast_ediv m 4294967296).symm
theorem of_row{m:Nat}{el:Nat→Nat→Lf}(hm:m < 18446744073709551616)(h0:el 0 0= .v (.int .u32 ((m%4294967296:Nat):Int)):=by rfl)(h1:el 1 0= .v (.int .u32 ((m / 4294967296:Nat):Int)):=by rfl):IsL (.row 1 2 el) 2 m:=by
 refine (isl_row (xs:= [m%4294967296,m / 4294967296]) rfl ?_ ?_).eq ?_
 ·intro x hx
  simp only [B32];rcases List.mem_cons.1 hx with rfl | hx
  ·exact Nat.mod_lt _ (by decide)
  ·rcases List.mem_cons.1 hx with rfl | hx
   ·omega
   ·simp at hx
 ·intro i hi
  match i,hi with
  | 0,_=>exact h0
  | 1,_=>exact h1
 ·show m%4294967296+B32*(m / 4294967296+B32*0)=m
  simp only [B32];omega
theorem one_row{el:Nat→Nat→Lf}(h0:el 0 0= .v (.int .u32 1):=by rfl):IsL (.row 1 1 el) 1 1:=by
 refine (isl_row (xs:= [1]) rfl ?_ ?_).eq rfl
 ·intro x hx
  simp at hx;subst hx;decide
 ·intro i hi
  have hi':i < 1:=hi;obtain rfl:i=0:=by omega
  exact h0
theorem neg_wrap2(n:Int)(h:n < 0)(h1: -9223372036854775808≤n):IntKind.u64.wrap (0-IntKind.u64.wrap n)=(n.natAbs:Int):=by
 rw [wrap_u64,wrap_u64];omega
theorem pos_wrap2(n:Int)(h:¬ n < 0)(h1:n≤9223372036854775807):IntKind.u64.wrap n=(n.natAbs:Int):=by
 rw [wrap_u64];omega
theorem dm1(t:Bool)(m n:Nat)(hn:n≠0):zv (false !=t) (m / n)=zv false m / zv t n∧zv false (modZ m n)=zv false m%zv t n:=by
 have h:=Nat.div_add_mod m n;have hlt:=Nat.mod_lt m (Nat.pos_of_ne_zero hn);refine euc ?_ ?_ ?_
 ·unfold modZ;rw [if_neg hn]
  have h2:((n*(m / n)+m%n:Nat):Int)=m:=by rw [h]
  rw [Int.natCast_add,Int.natCast_mul] at h2;cases t
  ·exact h2.symm
  ·show (m:Int)= -(n:Int)* -(((m / n:Nat)):Int)+(m%n:Nat)
   rw [Int.neg_mul_neg];exact h2.symm
 ·show (0:Int)≤(modZ m n:Nat);exact Int.natCast_nonneg _
 ·rw [zv_abs];show ((modZ m n:Nat):Int) < _
  unfold modZ;rw [if_neg hn];omega
theorem dm2(t:Bool)(m n:Nat)(hn:n≠0)(h0:modZ m n=0):zv (true !=t) (m / n)=zv true m / zv t n∧zv false (modZ m n)=zv true m%zv t n:=by
 have h:=Nat.div_add_mod m n;have h0':m%n=0:=by unfold modZ at h0;rw [if_neg hn] at h0;exact h0
 rw [h0];refine euc ?_ (by decide) (by rw [zv_abs];show (0:Int) < _;omega);have h2:((n*(m / n)+m%n:Nat):Int)=m:=by rw [h]
 rw [h0',Nat.add_zero,Int.natCast_mul] at h2;cases t
 ·show -(m:Int)=(n:Int)* -(((m / n:Nat)):Int)+(0:Nat)
  rw [Int.mul_neg,h2];simp
 ·show -(m:Int)= -(n:Int)*(((m / n:Nat)):Int)+(0:Nat)
  rw [Int.neg_mul,h2];simp
theorem dm3(t:Bool)(m n:Nat)(hn:n≠0)(h0:0 < modZ m n):zv (true !=t) (m / n+1)=zv true m / zv t n∧zv false (n-modZ m n)=zv true m%zv t n:=by
 have h:=Nat.div_add_mod m n;have hlt:=Nat.mod_lt m (Nat.pos_of_ne_zero hn);have e:modZ m n=m%n:=by unfold modZ;rw [if_neg hn]
 rw [e] at h0 ⊢;refine euc ?_ ?_ ?_
 ·have h2:((n*(m / n)+m%n:Nat):Int)=m:=by rw [h]
  rw [Int.natCast_add,Int.natCast_mul] at h2;have h3:((n-m%n:Nat):Int)=(n:Int)-(m%n:Nat):=by omega
  generalize m / n=q at h2 ⊢;generalize m%n=r at h2 h3 ⊢;cases t
  ·show -(m:Int)=(n:Int)* -((((q+1):Nat)):Int)+((n-r:Nat):Int)
   rw [h3,Int.natCast_add,Int.mul_neg,Int.mul_add];simp;omega
  ·show -(m:Int)= -(n:Int)*((((q+1):Nat)):Int)+((n-r:Nat):Int)
   rw [h3,Int.natCast_add,Int.neg_mul,Int.mul_add];simp;omega
 ·show (0:Int)≤((n-m%n:Nat):Int);exact Int.natCast_nonneg _
 ·rw [zv_abs];show ((n-m%n:Nat):Int) < _
  omega
/-- The greatest common divisor of the first n. -/
def gcdN(c:Nat→Int):Nat→Nat
 | 0=>0
 | n+1=>Nat.gcd (gcdN c n) (c n).natAbs
theorem gcdN_one{c:Nat→Int}{k n:Nat}(h:gcdN c k=1)(hk:k≤n):gcdN c n=1:=by
 obtain ⟨d,rfl⟩:=Nat.exists_eq_add_of_le hk;clear hk
 induction d with
 | zero=>exact h
 | succ d ih=>show Nat.gcd (gcdN c (k+d)) _=1;rw [ih,Nat.gcd_one_left]
theorem limbs1{m:Nat}:(limbs m).length=1∧(limbs m).getD 0 0=1↔m=1:=by
 constructor
 ·rintro ⟨h1,h2⟩
  have h3:=val_limbs m
  match h:limbs m,h1 with
  | [x],_=>
   rw [h] at h2 h3;simp at h2;subst h2;rw [← h3];rfl
 ·rintro rfl;exact ⟨rfl,rfl⟩
/-! ### A region that draws, order by order -/
section
variable {P:Program} {ops:Array Oper} {Q:Qs} {s:AS}
def AllI(p:Nat→Prop):List Nat→Prop
 | []=>True
 | i ::l=>p i∧AllI p l
theorem AllI.get{p:Nat→Prop}:∀ {l:List Nat},AllI p l→∀ i∈l,p i
 | i ::l,h,k,hk=>by
  rcases List.mem_cons.1 hk with rfl | hk
  ·exact h.1
  ·exact AllI.get h.2 k hk
def AnyA(P:Program)(ops:Array Oper)(Q:Qs):Nat→Array Bool→AS→Prop
 | 0,listed,s=>Region.ready .any ops listed= []∧Q .normal s
 | n+1,listed,s=>(Region.ready .any ops listed= []→Q .normal s)∧∀ i∈Region.ready .any ops listed,∃ o,ops[i]?=some o∧AL P ops (thn (AnyA P ops Q n (listed.setIfInBounds i true)) Q) [o] s
theorem anyS{n:Nat}{listed:Array Bool}(rs:List Nat)(hr:Region.ready .any ops listed=rs)(hne:rs.isEmpty=false)(h:AllI (fun i=>∃ o,ops[i]?=some o∧AL P ops (thn (AnyA P ops Q n (listed.setIfInBounds i true)) Q) [o] s) rs):AnyA P ops Q (n+1) listed s:=
 ⟨fun e=>absurd (hr.symm.trans e) (fun e2=>by subst e2;exact Bool.noConfusion hne),hr▸h.get⟩
theorem anyN{n:Nat}{listed:Array Bool}(hr:Region.ready .any ops listed= [])(h:Q .normal s):AnyA P ops Q n listed s:=by
 cases n with
 | zero=>exact ⟨hr,h⟩
 | succ n=>exact ⟨fun _=>h,by rw [hr];intro i hi;simp at hi⟩
theorem any_sound{B0:BS}{w0:Wz}:∀ (n:Nat) (listed:Array Bool) (s:AS) (a:Act) (w:World),AnyA P ops Q n listed s→Den s B0 w0 a w→wpAny P .any ops (DQ Q B0 w0) n listed a w
 | 0,listed,s,a,w,h,hd=>⟨h.1,s,h.2,hd⟩
 | n+1,listed,s,a,w,h,hd=>by
  refine ⟨fun e=>⟨s,h.1 e,hd⟩,fun i hi=>?_⟩;obtain ⟨o,ho,hal⟩:=h.2 i hi;have h1:=hal B0 w0 a w hd;unfold wpOp;rw [ho];simp only [wpList] at h1 ⊢;have hk:∀ a w,DQ (thn (AnyA P ops Q n (listed.setIfInBounds i true)) Q) B0 w0 .normal a w→wpAny P .any ops (DQ Q B0 w0) n (listed.setIfInBounds i true) a w:=fun a w ⟨s',h3,h4⟩=>any_sound n _ s' a w h3 h4
  split
  ·rename_i hw
   rw [if_pos hw] at h1;rcases h1 with h1 | ⟨h1,h2⟩
   ·refine Or.inl ?_
    have h3:=Oper.wp_mono hk h1;unfold Oper.wp at h3 ⊢;generalize (execOp a.eval o).run P w=r at h3 ⊢;cases r <;> first | exact h3 | (rename_i x w';cases x <;> exact h3)
   ·exact Or.inr ⟨h1,h2⟩
  ·rename_i hw
   rw [if_neg hw] at h1;exact hk _ _ h1
end
theorem aZero{a:List Lf}{K:Nat}{z:Int}(ha:IsN a K z):ACall Tryz.prog 128 [.agg a] (.d (.one (.v (.bool (decide (z=0)))))):=by
 exact ACall.le (dl (DV.g ha) dl0) AV.le.rfl<|aN 7 [.tmp 2] Tryz.func128 rfl<|cR<|mO rfl<|mW rfl<|mT<|cR<|mv5 rfl rfl rfl rfl rfl<|mT<|cRet<|rQ rfl (le_bool (by have h0:=limbs_len z.natAbs;rw [Bool.eq_iff_iff,beq_iff_eq,decide_eq_true_eq];omega))
theorem aOf{n:Int}(h1: -9223372036854775808≤n:=by first|decide|omega)(h2:n≤9223372036854775807:=by first|decide|omega):ACall Tryz.prog 129 [.one (.v (.int .i64 n))] (.d (.agg (zn 2 n))):=by
 refine aN 20 [.cell 2 36] Tryz.func129 rfl<|cR<|mO rfl<|mT<|cR<|mv3 rfl rfl rfl<|mT<|cSeq<|cR<|mv2 rfl rfl<|mT<|cCond rfl (fun hc1=>?_) (fun hc1=>?_)
 ·exact cReg<|mW rfl<|mV hTT (.d (.one (.v (.int .u64 ((n.natAbs:Nat):Int))))) (evi (neg_wrap2 n (of_decide_eq_true hc1) h1))<|mW rfl<|mT<|cR<|mW rfl<|mV hTT (.d (.one (.v (.int .u32 ((n.natAbs%4294967296:Nat):Int))))) (evi (by rw [wrap_u32];omega))<|mW rfl<|mV hTT (.d (.one (.v (.int .u64 ((n.natAbs / 4294967296:Nat):Int))))) (evi (shr32 _))<|mV hTT (.d (.one (.v (.int .u32 ((n.natAbs / 4294967296:Nat):Int))))) (evi (by rw [wrap_u32];omega))<|mB hTT (.d (.one (.row 1 2 (fun i' j'=>(([.v (.int .u32 ((n.natAbs%4294967296:Nat):Int)),.v (.int .u32 ((n.natAbs / 4294967296:Nat):Int))])[i'*1+j']?).getD (.v undef))))) rfl<|mY (aLNorm (of_row (m:=n.natAbs) (by omega))) rfl<|mv2 rfl rfl<|mY (aMade rfl) rfl<|mZ rfl<|mT<|cRet<|rQ rfl (le_zn (Nat.le_refl _) (zv_natAbs n))
 ·exact cSkip<|tN<|cSeq<|cView 3 (.d (.one (.v (.int .u64 ((n.natAbs:Nat):Int))))) rfl (le_int (pos_wrap2 n (of_decide_eq_false hc1) h2))<|cReg<|mW rfl<|mV hTT (.d (.one (.v (.int .u32 ((n.natAbs%4294967296:Nat):Int))))) (evi (by rw [wrap_u32];omega))<|mW rfl<|mV hTT (.d (.one (.v (.int .u64 ((n.natAbs / 4294967296:Nat):Int))))) (evi (shr32 _))<|mV hTT (.d (.one (.v (.int .u32 ((n.natAbs / 4294967296:Nat):Int))))) (evi (by rw [wrap_u32];omega))<|mB hTT (.d (.one (.row 1 2 (fun i' j'=>(([.v (.int .u32 ((n.natAbs%4294967296:Nat):Int)),.v (.int .u32 ((n.natAbs / 4294967296:Nat):Int))])[i'*1+j']?).getD (.v undef))))) rfl<|mY (aLNorm (of_row (m:=n.natAbs) (by omega))) rfl<|mv2 rfl rfl<|mY (aMade rfl) rfl<|mZ rfl<|mT<|cRet<|rQ rfl (le_zn (Nat.le_refl _) (zv_natAbs n))
theorem aDivMod{a b:List Lf}{K L M:Nat}{x y:Int}(ha:IsZ a K x)(hb:IsZ b L y)(hy:y≠0)(hM:max K 1+1≤M:=by first|decide|omega)(hK:K≤1073741823:=by first|decide|omega)(hL:L≤1073741823:=by first|decide|omega):ACall Tryz.prog 167 [.agg a,.agg b] (.tup [.agg (zn M (x / y)),.agg (zn L (x%y)),.one (.v (.int .i64 0))]):=by
 obtain ⟨s,xs,ha,rfl⟩:=ha;obtain ⟨t,ys,hb,rfl⟩:=hb;refine ACall.le (dl (DV.z ha) (dl (DV.z hb) dl0)) AV.le.rfl ?_;have hn:val ys≠0:=fun e=>hy (by rw [e];cases t <;> rfl)
 cases s
 ·refine aN 60 [.cell 4 36,.cell 5 36,.tmp 6] Tryz.func167 rfl<|cR<|mO rfl<|mO rfl<|mO rfl<|mO rfl<|mW rfl<|mT<|cR<|mv4 rfl rfl rfl rfl<|mY (aLDiv (islv K xs) (islv L ys)) rfl<|mv6 rfl rfl rfl rfl rfl rfl<|mW rfl<|mT<|cSeq<|cR<|mW rfl<|mbF rfl (by rw [show divErr (val ys)=0 from if_neg hn];rfl)<|mT<|cFs rfl<|cR<|mv6 rfl rfl rfl rfl rfl rfl<|mY (aMade rfl) rfl<|mW rfl<|mY (aMade rfl) rfl<|mZ rfl<|mZ rfl<|mT<|cSeq<|cR<|mv3 rfl rfl rfl<|mG rfl rfl<|mG rfl rfl<|mG rfl rfl<|mW rfl<|mT<|cFs rfl<|cSeq<|cDs 5<|pV rfl<|pV rfl<|.cons (OpS.S 4 (.box 36 (zn K (zv (!(false==t)) ((val xs) / (val ys))))) rfl rfl) (by kernel_rfl)<|.cons (OpS.S 5 (.box 36 (zn L (zv false (modZ (val xs) (val ys))))) rfl rfl) (by kernel_rfl)<|.cons (OpS.V _ rfl) (by kernel_rfl)<|.nil<|mT<|cRet ?_;obtain ⟨e1,e2⟩:=dm1 t (val xs) (val ys) hn;exact rQ rfl (le_tup (dl (dle (le_zn (by omega) e1)) (dl (dle (le_zn (Nat.le_refl _) e2)) (dl DV.same dl0))))
 ·refine aN 60 [.cell 4 36,.cell 5 36,.tmp 6] Tryz.func167 rfl<|cR<|mO rfl<|mO rfl<|mO rfl<|mO rfl<|mW rfl<|mT<|cR<|mv4 rfl rfl rfl rfl<|mY (aLDiv (islv K xs) (islv L ys)) rfl<|mv6 rfl rfl rfl rfl rfl rfl<|mW rfl<|mT<|cSeq<|cR<|mW rfl<|mbF rfl (by rw [show divErr (val ys)=0 from if_neg hn];rfl)<|mT<|cFs rfl<|cR<|mv6 rfl rfl rfl rfl rfl rfl<|mY (aMade rfl) rfl<|mW rfl<|mY (aMade rfl) rfl<|mZ rfl<|mZ rfl<|mT<|cSeq<|cR<|mv6 rfl rfl rfl rfl rfl rfl<|mW rfl<|mT<|cCond rfl (fun hc1=>?_) (fun hc1=>?_)
  ·refine cR<|mW rfl<|mB hTT (.d (.one (.row 1 1 (fun i' j'=>(([.v (.int .u32 1)])[i'*1+j']?).getD (.v undef))))) rfl<|mY (aLAdd (isl K ((val xs) / (val ys))) one_row (M:=(max K 1+1))) rfl<|mW rfl<|mT<|cR<|mv3 rfl rfl rfl<|mY (aLSub (islv L ys) (isl L (modZ (val xs) (val ys)))) rfl<|mv4 rfl rfl rfl rfl<|mT<|cReg<|mv6 rfl rfl rfl rfl rfl rfl<|mY (aMade rfl) rfl<|mW rfl<|mY (aMade rfl) rfl<|mZ rfl<|mZ rfl<|mT<|cSeq<|cDs 5<|pV rfl<|pV rfl<|.cons (OpS.S 4 (.box 36 (zn (max K 1+1) (zv (!(true==t)) (((val xs) / (val ys))+1)))) rfl rfl) (by kernel_rfl)<|.cons (OpS.S 5 (.box 36 (zn L (zv false ((val ys)-(modZ (val xs) (val ys)))))) rfl rfl) (by kernel_rfl)<|.cons (OpS.V _ rfl) (by kernel_rfl)<|.nil<|mT<|cRet ?_;obtain ⟨e1,e2⟩:=dm3 t (val xs) (val ys) hn (Nat.pos_of_ne_zero fun e=>by have h0:=of_decide_eq_true hc1;rw [e] at h0;exact absurd h0 (by decide));exact rQ rfl (le_tup (dl (dle (le_zn (by omega) e1)) (dl (dle (le_zn (Nat.le_refl _) e2)) (dl DV.same dl0))))
  ·refine cSkip<|tN<|cSeq<|cDs 5<|pV rfl<|pV rfl<|.cons (OpS.S 4 (.box 36 (zn K (zv (!(true==t)) ((val xs) / (val ys))))) rfl rfl) (by kernel_rfl)<|.cons (OpS.S 5 (.box 36 (zn L (zv false (modZ (val xs) (val ys))))) rfl rfl) (by kernel_rfl)<|.cons (OpS.V _ rfl) (by kernel_rfl)<|.nil<|mT<|cRet ?_;obtain ⟨e1,e2⟩:=dm2 t (val xs) (val ys) hn (by have h0:=of_decide_eq_false hc1;have h1:=limbs_len (modZ (val xs) (val ys));omega);exact rQ rfl (le_tup (dl (dle (le_zn (by omega) e1)) (dl (dle (le_zn (Nat.le_refl _) e2)) (dl DV.same dl0))))
theorem aExact{a b:List Lf}{K L M:Nat}{x y:Int}(ha:IsZ a K x)(hb:IsZ b L y)(hy:y≠0)(hd:y∣x)(hM:max K 1+1≤M:=by first|decide|omega)(hK:K≤1073741823:=by first|decide|omega)(hL:L≤1073741823:=by first|decide|omega):ACall Tryz.prog 153 [.agg a,.agg b] (.tup [.agg (zn M (x / y)),.one (.v (.int .i64 0))]):=by
 obtain ⟨sa,xa,ha,ea⟩:=ha;obtain ⟨sb,xb,hb,eb⟩:=hb;exact ACall.le (dl (DV.z ha) (dl (DV.z hb) dl0)) AV.le.rfl<|aN 26 [.cell 4 36,.tmp 5] Tryz.func153 rfl<|cR<|mO rfl<|mO rfl<|mO rfl<|mW rfl<|mT<|cR<|mv2 rfl rfl<|mY (aDivMod ⟨sa,xa,fun _ _ _ h=>h,ea⟩ ⟨sb,xb,fun _ _ _ h=>h,eb⟩ hy (M:=(max K 1+1)) (by omega) (by omega) (by omega)) rfl<|mv4 rfl rfl rfl rfl<|mO rfl<|mO rfl<|mZ rfl<|mZ rfl<|mW rfl<|mT<|cSeq<|cR<|mv2 rfl rfl<|mT<|cFs rfl<|cSeq<|cR<|mv3 rfl rfl rfl<|mdF rfl (by rw [Int.emod_eq_zero_of_dvd hd];decide)<|mT<|cFs rfl<|cR<|mW rfl<|mZ rfl<|mW rfl<|mT<|cRet<|rQ rfl (le_tup (dl (dle (le_zn hM rfl)) (dl DV.same dl0)))
theorem aGcd{l:Lf}{K n:Nat}{c:Nat→Int}(ha:IsP l K n c)(hn:n≤1000000:=by first|decide|omega)(hK:K≤1073741823:=by first|decide|omega):ACall Tryz.prog 151 [.one l] (.d (.agg (zn K (gcdN c n:Nat)))):=by
 obtain ⟨⟨f,ha,hf⟩,hz⟩:=ha;refine ACall.le (dl (DV.l ha) dl0) AV.le.rfl<|aN 44 [.cell 2 36] Tryz.func151 rfl<|cR<|mO rfl<|mT<|cR<|mW rfl<|mT<|cSeq<|cSeq<|cView 3 (.d (.one (ln K (gcdN c 0)))) rfl (nil_lr K)<|cReg<|mv3 rfl rfl rfl<|mT<|cBlock<|cLoop (ι:=Nat) (fun (i:Nat)=>⟨44,[(2,.ptr 2 0),(10,.d (.one (.row 2 n (ael K f)))),(11,.d (.one (.v (.int .i64 (n:Int))))),(12,.d (.one (.v (.int .i64 ((i:Nat):Int))))),(3,.d (.one (ln K (gcdN c i))))],[(2,.box 36 ([.v (.bool false),.v (.slice none 0 0)]))]⟩) (fun (i:Nat)=>i≤n) (fun (i:Nat)=>n-i) 0 (Nat.zero_le _) (wkr rfl rfl) ?_;rintro i hI;have hi0:i≤n:=hI;show AW _ _ _ ⟨_,_,_⟩
 refine cR<|mW rfl<|mT<|cSeq<|cCond rfl (fun hc1=>?_) (fun hc1=>?_)
 ·refine cSkip<|tN<|cSeq<|cBlock<|cSeq ?_;have hi:i < n:=by have h0:=of_decide_eq_true hc1;omega
  refine cReg<|mV hTT (.d (.one (.at 2 ((ael K f) i)))) (ixR (el:=(ael K f)) (z:=((i:Nat):Int)) (n:=n) rfl rfl rfl rfl rfl rfl (by omega) (by omega)) ?_;refine mW rfl<|mO rfl<|mZ rfl<|mT<|cR<|mv2 rfl rfl<|mY (aLNorm (islv K ((f i).2))) rfl<|mW rfl<|mT<|cSeq<|cBlock<|cLoop (ι:=Nat×Nat) (fun (p:Nat×Nat)=>match p with | (x,y)=>⟨44,[(2,.ptr 2 0),(10,.d (.one (.row 2 n (ael K f)))),(11,.d (.one (.v (.int .i64 (n:Int))))),(12,.d (.one (.v (.int .i64 ((i:Nat):Int))))),(3,.d (.one (ln K x))),(6,.d (.one (ln K y)))],[(2,.box 36 ([.v (.bool false),.v (.slice none 0 0)]))]⟩) (fun (p:Nat×Nat)=>match p with | (x,y)=>Nat.gcd x y=gcdN c (i+1)) (fun (p:Nat×Nat)=>match p with | (x,y)=>y) ((gcdN c i),(val (f i).2)) (by show Nat.gcd (gcdN c i) (val (f i).2)=Nat.gcd (gcdN c i) (c i).natAbs;rw [← hf i hi,show (fzv f i).natAbs=val (f i).2 from zv_abs _ _]) (wkr rfl rfl) ?_;rintro ⟨x,y⟩ hI;have hg:Nat.gcd x y=gcdN c (i+1):=hI;show AW _ _ _ ⟨_,_,_⟩
  refine cSeq<|cR<|mv3 rfl rfl rfl<|mT<|cCond rfl (fun hc2=>?_) (fun hc2=>?_)
  ·refine cSkip<|tN<|cBlock<|cSeq ?_;have hy0:y≠0:=fun e=>by have h0:=of_decide_eq_true hc2;rw [e] at h0;exact absurd h0 (by decide)
   exact cReg<|mv2 rfl rfl<|mY (aLDiv (isl K x) (isl K y)) rfl<|mv6 rfl rfl rfl rfl rfl rfl<|mW rfl<|mT<|cReg<|mv4 rfl rfl rfl rfl<|mNil<|bN<|⟨(y,(modZ x y)),by show Nat.gcd y (modZ x y)=_;unfold modZ;rw [if_neg hy0,← hg,Nat.gcd_comm x y,Nat.gcd_rec y x,Nat.gcd_comm],by show modZ x y < y;unfold modZ;rw [if_neg hy0];exact Nat.mod_lt _ (Nat.pos_of_ne_zero hy0),wkr rfl rfl⟩
  ·refine cExit<|tE<|tE<|bE<|tN<|cSeq ?_;have hy0:y=0:=by have h0:=of_decide_eq_false hc2;have h1:=limbs_len y;omega
   have hx:x=gcdN c (i+1):=by rw [← hg,hy0,Nat.gcd_zero_right]
   by_cases hl1:(limbs x).length=1
   ·refine cReg<|mv2 rfl rfl<|mbT rfl (by rw [hl1];rfl)<|mv2 rfl rfl<|mView 35 (.d (.one (.row 1 ((limbs x).length) (fun i _=> .v (.int .u32 (((limbs x).getD i 0:Nat):Int)))))) rfl (le_lrow _ _)<|mV hTT (.d (.one (.at 1 ((fun i _=> .v (.int .u32 (((limbs x).getD i 0:Nat):Int))) 0)))) (ixR (el:=(fun i _=> .v (.int .u32 (((limbs x).getD i 0:Nat):Int)))) (z:=0) (n:=((limbs x).length)) rfl rfl rfl rfl rfl rfl (by decide) (by rw [hl1];decide)) ?_;refine mv3 rfl rfl rfl<|mT<|cCond rfl (fun hc3=>?_) (fun hc3=>?_)
    ·refine cExit<|bX rfl<|tE<|tE<|bE<|tN<|cR<|mW rfl<|mY (aLNorm (isl K x)) rfl<|mY (aMade rfl) rfl<|mZ rfl<|mT<|cRet ?_;have h1:x=1:=limbs1.1 ⟨hl1,by have h0:=eq_of_beq hc3;exact Int.ofNat_inj.1 h0⟩;exact rQ rfl (le_zn (Nat.le_refl _) (by show ((x:Nat):Int)=_;rw [h1,gcdN_one (hx▸h1) (show i+1≤n from hi)]))
    ·exact cSkip<|bN<|tN<|cReg<|mv2 rfl rfl<|mNil<|⟨(i+1),by omega,by omega,wk rfl ⟨hs rfl,hs rfl,hs rfl,hs' rfl (le_int (inc64 (by omega))),hs' rfl (le_one (hx▸fun _ _ _ h=>h)),trivial⟩ ⟨ho rfl,trivial⟩ rfl⟩
   ·exact cReg<|mv2 rfl rfl<|mbF rfl (beq_eq_false_iff_ne.2 fun e=>hl1 (by exact_mod_cast e))<|mW rfl<|mG rfl rfl<|mG rfl rfl<|mG rfl rfl<|mG rfl rfl<|mW rfl<|mT<|cF rfl<|cSkip<|bN<|tN<|cReg<|mv2 rfl rfl<|mNil<|⟨(i+1),by omega,by omega,wk rfl ⟨hs rfl,hs rfl,hs rfl,hs' rfl (le_int (inc64 (by omega))),hs' rfl (le_one (hx▸fun _ _ _ h=>h)),trivial⟩ ⟨ho rfl,trivial⟩ rfl⟩
 ·refine cExit<|tE<|tE<|bE<|tN<|cR<|mW rfl<|mY (aLNorm (isl K (gcdN c i))) rfl<|mY (aMade rfl) rfl<|mZ rfl<|mT<|cRet ?_;have hin:i=n:=by have h0:=of_decide_eq_false hc1;omega
  exact rQ rfl (le_zn (Nat.le_refl _) (by rw [hin];rfl))
/-- Made: all are 0. -/
theorem leo_zero{e:TypeId}{n K:Nat}{c:Nat→Int}(h:∀ i,i < n→c i=0):AO.le (.row e 2 n fun _ j=> .v ((([Value.bool false,Value.slice none 0 0]:List Value)[j]?).getD undef)) (.row e 2 n (zel K c)):=by
 refine leo_row fun i hi j hj B w v hv=>?_
 unfold zel;rw [h i hi]
 match j,hj with
 | 0,_=>exact hv
 | 1,_=>exact nil_lr K (fun _=>none) B w v hv
theorem cell_z{K L:Nat}{z y:Int}(hK:K≤L)(e:z=y):∀ q,q < 2→∀ B w v,LfR B w (((zn K z)[q]?).getD (.v undef)) v→LfR B w (((zn L y)[q]?).getD (.v undef)) v:=by
 subst e;intro q hq B w v hv
 match q,hq with
 | 0,_=>exact hv
 | 1,_=>exact lr_mono hK _ _ _ hv
theorem cell_q{K L:Nat}{z y:Rat}(hK:K≤L)(e:z=y):∀ q,q < 4→∀ B w v,LfR B w (((qn K z)[q]?).getD (.v undef)) v→LfR B w (((qn L y)[q]?).getD (.v undef)) v:=by
 subst e;intro q hq B w v hv
 match q,hq with
 | 0,_=>exact dr_mono hK _ _ _ hv
 | 1,_=>exact hv
 | 2,_=>exact dr_mono hK _ _ _ hv
 | 3,_=>exact hv
/-- One element is written. -/
theorem st_z{e:TypeId}{n i K L M:Nat}{c d:Nat→Int}{z:Int}(hK:K≤L)(hM:M≤L)(hz:z=d i)(h:∀ p,p < n→p≠i→c p=d p):AO.le (.row e 2 n fun p q=>if p=i then ((zn M z)[q]?).getD (.v undef) else zel K c p q) (.row e 2 n (zel L d)):=by
 refine leo_row fun p hp q hq B w v hv=>?_
 by_cases hpi:p=i
 ·subst hpi
  rw [if_pos rfl] at hv;exact cell_z hM hz q hq _ _ _ hv
 ·rw [if_neg hpi] at hv
  unfold zel;exact cell_z hK (h p hp hpi) q hq _ _ _ hv
/-- Rationals, each of a bound of its own. -/
def qelv(Kf:Nat→Nat)(c:Nat→Rat):Nat→Nat→Lf:=fun i j=>((qn (Kf i) (c i))[j]?).getD (.v undef)
theorem st_q{e:TypeId}{n i M:Nat}{Kf Lf':Nat→Nat}{c d:Nat→Rat}{z:Rat}(hK:∀ p,p < n→p≠i→Kf p≤Lf' p)(hM:M≤Lf' i)(hz:z=d i)(h:∀ p,p < n→p≠i→c p=d p):AO.le (.row e 4 n fun p q=>if p=i then ((qn M z)[q]?).getD (.v undef) else qelv Kf c p q) (.row e 4 n (qelv Lf' d)):=by
 refine leo_row fun p hp q hq B w v hv=>?_
 by_cases hpi:p=i
 ·subst hpi
  rw [if_pos rfl] at hv;exact cell_q hM hz q hq _ _ _ hv
 ·rw [if_neg hpi] at hv
  exact cell_q (hK p hp hpi) (h p hp hpi) q hq _ _ _ hv
theorem leo_qelv{e:TypeId}{n:Nat}{Kf Lf':Nat→Nat}{c d:Nat→Rat}(hK:∀ p,p < n→Kf p≤Lf' p)(h:∀ p,p < n→c p=d p):AO.le (.row e 4 n (qelv Kf c)) (.row e 4 n (qelv Lf' d)):=
 leo_row fun p hp q hq B w v hv=>cell_q (hK p hp) (h p hp) q hq _ _ _ hv
theorem row_qelv{n K:Nat}{Kf:Nat→Nat}{c d:Nat→Rat}(hK:∀ p,p < n→Kf p≤K)(h:∀ p,p < n→c p=d p):∀ B w v,LfR B w (.row 4 n (qelv Kf c)) v→LfR B w (qrow K n d) v:=
 row_le fun p hp q hq B w v hv=>cell_q (hK p hp) (h p hp) q hq _ _ _ hv
/-- A row whose first ones are written; the others are still as they were made. -/
def qpre(K i:Nat)(c:Nat→Rat)(z:Nat→Lf):Nat→Nat→Lf:=fun p q=>if p < i then ((qn K (c p))[q]?).getD (.v undef) else z q
theorem st_pre{e:TypeId}{n i K M:Nat}{c:Nat→Rat}{z:Nat→Lf}{q0:Rat}(hM:M≤K)(hz:q0=c i):AO.le (.row e 4 n fun p q=>if p=i then ((qn M q0)[q]?).getD (.v undef) else qpre K i c z p q) (.row e 4 n (qpre K (i+1) c z)):=by
 refine leo_row fun p hp q hq B w v hv=>?_
 unfold qpre at *
 by_cases hpi:p=i
 ·subst hpi
  rw [if_pos rfl] at hv;rw [if_pos (by omega)];exact cell_q hM hz q hq _ _ _ hv
 ·rw [if_neg hpi] at hv
  by_cases hlt:p < i
  ·rw [if_pos hlt] at hv;rw [if_pos (by omega)];exact hv
  ·rw [if_neg hlt] at hv;rw [if_neg (by omega)];exact hv
theorem leo_pre{e:TypeId}{n K:Nat}{Kf:Nat→Nat}{c d:Nat→Rat}{z:Nat→Lf}(hK:∀ p,p < n→K≤Kf p)(h:∀ p,p < n→c p=d p):AO.le (.row e 4 n (qpre K n c z)) (.row e 4 n (qelv Kf d)):=by
 refine leo_row fun p hp q hq B w v hv=>?_
 unfold qpre at hv;rw [if_pos hp] at hv;exact cell_q (hK p hp) (h p hp) q hq _ _ _ hv
theorem leo_pre0{e:TypeId}{n K:Nat}{c:Nat→Rat}{z:Nat→Lf}:AO.le (.row e 4 n fun _ j=>z j) (.row e 4 n (qpre K 0 c z)):=by
 refine leo_row fun p hp q hq B w v hv=>?_
 unfold qpre;rw [if_neg (Nat.not_lt_zero _)];exact hv
/-- An element in any form, 0 where there is none. -/
def fx(n:Nat)(f:Nat→Bool×List Nat)(k:Nat):Bool×List Nat:=if k < n then f k else (false,[])
theorem fx_z{n k:Nat}{f:Nat→Bool×List Nat}{c:Nat→Int}(hf:∀ i,i < n→fzv f i=c i)(hz:∀ i,n≤i→c i=0):zv (fx n f k).1 (val (fx n f k).2)=c k:=by
 unfold fx
 by_cases h:k < n
 ·rw [if_pos h];exact hf k h
 ·rw [if_neg h];exact (hz k (by omega)).symm
theorem dg_down{α:Type}[DecidableEq α][OfNat α 0]{c:Nat→α}{n k:Nat}(h:dg c n=dg c k)(hk:k≠0)(h0:c (k-1)=0):dg c n=dg c (k-1):=by
 obtain ⟨j,rfl⟩:=Nat.exists_eq_succ_of_ne_zero hk;rw [h];exact dg_step h0
theorem maxNN(n m:Nat):(if (true=true) then (if (m:Int) > (n:Int) then (m:Int) else (n:Int)) else (if (m:Int) < (n:Int) then (m:Int) else (n:Int)))=((max n m:Nat):Int):=by
 rw [if_pos rfl];split <;> omega
theorem minNN(n m:Nat):(if (false=true) then (if (m:Int) > (n:Int) then (m:Int) else (n:Int)) else (if (m:Int) < (n:Int) then (m:Int) else (n:Int)))=((min n m:Nat):Int):=by
 rw [if_neg (by decide)];split <;> omega
/-- Rows of integers. -/
def irow(n:Nat)(c:Nat→Int):Lf:= .row 1 n fun i _=> .v (.int .i64 (c i))
def IsI(l:Lf)(n:Nat)(c:Nat→Int):Prop:=(∀ B w v,LfR B w l v→LfR B w (irow n c) v)∧∀ i,n≤i→c i=0
def lst(l:List Int):Nat→Int:=fun i=>l.getD i 0
theorem isi_lit{l:List Int}{n:Nat}{el:Nat→Nat→Lf}(hn:l.length=n)(h:∀ i,i < n→el i 0= .v (.int .i64 (lst l i))):IsI (.row 1 n el) n (lst l):=by
 refine ⟨row_le fun i hi j hj B w v hv=>?_,fun i hi=>?_⟩
 ·obtain rfl:j=0:=by omega
  rw [h i hi] at hv;exact hv
 ·unfold lst;rw [List.getD_eq_getElem?_getD,List.getElem?_eq_none (by omega)];rfl
theorem nil_prow{K:Nat}{c:Nat→Int}:AV.le (.d (.one (.v (.slice none 0 0)))) (.d (.one (prow K 0 c))):=by
 refine le_one ?_;rintro B w v ⟨rfl,_⟩;exact ⟨none,0,rfl,Nat.le_refl _,fun _=>rfl,fun i hi=>absurd hi (Nat.not_lt_zero _)⟩
theorem nil_qrow{K:Nat}{c:Nat→Rat}:AV.le (.d (.one (.v (.slice none 0 0)))) (.d (.one (qrow K 0 c))):=by
 refine le_one ?_;rintro B w v ⟨rfl,_⟩;exact ⟨none,0,rfl,Nat.le_refl _,fun _=>rfl,fun i hi=>absurd hi (Nat.not_lt_zero _)⟩
theorem dg_zero{α:Type}[DecidableEq α][OfNat α 0]{c:Nat→α}(h:∀ i,c i=0):∀ n,dg c n=0
 | 0=>rfl
 | n+1=>by rw [dg_step (h n)];exact dg_zero h n
theorem dg_all{α:Type}[DecidableEq α][OfNat α 0]{c:Nat→α}{n:Nat}(hz:∀ i,n≤i→c i=0)(h:dg c n=0):∀ i,c i=0:=fun i=>dg_z hz i (by omega)
/-- The coefficients as rationals. -/
def rc(c:Nat→Int):Nat→Rat:=fun i=>((c i:Int):Rat)
theorem rc_z{c:Nat→Int}{n:Nat}(h:∀ i,n≤i→c i=0):∀ i,n≤i→rc c i=0:=fun i hi=>by unfold rc;rw [h i hi];rfl
def faddQ(a b:Nat→Rat):Nat→Rat:=fun i=>a i+b i
def fsclQ(a:Nat→Rat)(q:Rat):Nat→Rat:=fun i=>a i*q
theorem faddQ_z{a b:Nat→Rat}{n m:Nat}(h:∀ i,n≤i→a i=0)(k:∀ i,m≤i→b i=0):∀ i,max n m≤i→faddQ a b i=0:=fun i hi=>by unfold faddQ;rw [h i (by omega),k i (by omega)];exact Rat.add_zero 0
theorem fsclQ_z{a:Nat→Rat}{q:Rat}{n:Nat}(h:∀ i,n≤i→a i=0):∀ i,n≤i→fsclQ a q i=0:=fun i hi=>by unfold fsclQ;rw [h i hi];grind
def fadd(a b:Nat→Int):Nat→Int:=fun i=>a i+b i
def fsub(a b:Nat→Int):Nat→Int:=fun i=>a i-b i
def fneg(a:Nat→Int):Nat→Int:=fun i=> -a i
def fscl(a:Nat→Int)(q:Int):Nat→Int:=fun i=>a i*q
def fder(a:Nat→Int):Nat→Int:=fun i=>a (i+1)*((i+1:Nat):Int)
theorem fadd_z{a b:Nat→Int}{n m:Nat}(h:∀ i,n≤i→a i=0)(k:∀ i,m≤i→b i=0):∀ i,max n m≤i→fadd a b i=0:=fun i hi=>by unfold fadd;rw [h i (by omega),k i (by omega)];rfl
theorem fsub_z{a b:Nat→Int}{n m:Nat}(h:∀ i,n≤i→a i=0)(k:∀ i,m≤i→b i=0):∀ i,max n m≤i→fsub a b i=0:=fun i hi=>by unfold fsub;rw [h i (by omega),k i (by omega)];rfl
theorem fneg_z{a:Nat→Int}{n:Nat}(h:∀ i,n≤i→a i=0):∀ i,n≤i→fneg a i=0:=fun i hi=>by unfold fneg;rw [h i hi];rfl
theorem fscl_z{a:Nat→Int}{q:Int}{n:Nat}(h:∀ i,n≤i→a i=0):∀ i,n≤i→fscl a q i=0:=fun i hi=>by unfold fscl;rw [h i hi];simp
theorem fder_z{a:Nat→Int}{n:Nat}(h:∀ i,n≤i→a i=0):∀ i,n-1≤i→fder a i=0:=fun i hi=>by unfold fder;rw [h (i+1) (by omega)];simp
/-! ### The product -/
theorem conv_z{a b:Nat→Int}{j:Nat}:∀ {m:Nat},(∀ i,i < m→i≤j→a i*b (j-i)=0)→cv a b m j=0
 | 0,_=>rfl
 | m+1,h=>by
  show cv a b m j+_=0
  rw [conv_z (fun i hi=>h i (Nat.lt_succ_of_lt hi))];split
  ·rename_i h1;rw [h m (Nat.lt_succ_self _) h1];rfl
  ·rfl
theorem conv_zQ{a b:Nat→Rat}{j:Nat}:∀ {m:Nat},(∀ i,i < m→i≤j→a i*b (j-i)=0)→cv a b m j=0
 | 0,_=>rfl
 | m+1,h=>by
  show cv a b m j+_=0
  rw [conv_zQ (fun i hi=>h i (Nat.lt_succ_of_lt hi))];split
  ·rename_i h1;rw [h m (Nat.lt_succ_self _) h1];exact Rat.add_zero 0
  ·exact Rat.add_zero 0
theorem cv_more{a b:Nat→Int}{j n:Nat}(ha:∀ i,n≤i→a i=0):∀ d,cv a b (n+d) j=cv a b n j
 | 0=>rfl
 | d+1=>by
  show cv a b (n+d) j+(if n+d≤j then a (n+d)*b (j-(n+d)) else 0)=_
  rw [cv_more ha d,ha (n+d) (by omega)];split <;> simp
theorem cv_moreQ{a b:Nat→Rat}{j n:Nat}(ha:∀ i,n≤i→a i=0):∀ d,cv a b (n+d) j=cv a b n j
 | 0=>rfl
 | d+1=>by
  show cv a b (n+d) j+(if n+d≤j then a (n+d)*b (j-(n+d)) else 0)=_
  rw [cv_moreQ ha d,ha (n+d) (by omega)];split <;> grind
theorem cv_past{a b:Nat→Int}{j:Nat}:∀ d,cv a b (j+1+d) j=cv a b (j+1) j
 | 0=>rfl
 | d+1=>by
  show cv a b (j+1+d) j+(if j+1+d≤j then a (j+1+d)*b (j-(j+1+d)) else 0)=_
  rw [cv_past d,if_neg (by omega)];simp
theorem cv_pastQ{a b:Nat→Rat}{j:Nat}:∀ d,cv a b (j+1+d) j=cv a b (j+1) j
 | 0=>rfl
 | d+1=>by
  show cv a b (j+1+d) j+(if j+1+d≤j then a (j+1+d)*b (j-(j+1+d)) else 0)=_
  rw [cv_pastQ d,if_neg (by omega)];grind
theorem cv_conv{a b:Nat→Int}{j n:Nat}(ha:∀ i,n≤i→a i=0):cv a b n j=conv a b j:=by
 unfold conv;rw [← cv_more ha (j+1),← cv_past (a:=a) (b:=b) (j:=j) n,Nat.add_comm]
theorem cv_convQ{a b:Nat→Rat}{j n:Nat}(ha:∀ i,n≤i→a i=0):cv a b n j=conv a b j:=by
 unfold conv;rw [← cv_moreQ ha (j+1),← cv_pastQ (a:=a) (b:=b) (j:=j) n,Nat.add_comm]
theorem conv_beyond{a b:Nat→Int}{j n m:Nat}(ha:∀ i,n≤i→a i=0)(hb:∀ i,m≤i→b i=0)(h:n+m≤j+1):conv a b j=0:=by
 refine conv_z fun i _ hi=>?_
 by_cases h1:n≤i
 ·rw [ha i h1];simp
 ·rw [hb (j-i) (by omega)];simp
theorem conv_beyondQ{a b:Nat→Rat}{j n m:Nat}(ha:∀ i,n≤i→a i=0)(hb:∀ i,m≤i→b i=0)(h:n+m≤j+1):conv a b j=0:=by
 refine conv_zQ fun i _ hi=>?_
 by_cases h1:n≤i
 ·rw [ha i h1];grind
 ·rw [hb (j-i) (by omega)];grind
theorem conv_z0{a b:Nat→Int}{n m:Nat}(h:∀ i,n≤i→a i=0)(k:∀ i,m≤i→b i=0):∀ i,n+m≤i→conv a b i=0:=fun i hi=>conv_beyond h k (by omega)
theorem conv_z0Q{a b:Nat→Rat}{n m:Nat}(h:∀ i,n≤i→a i=0)(k:∀ i,m≤i→b i=0):∀ i,n+m≤i→conv a b i=0:=fun i hi=>conv_beyondQ h k (by omega)
theorem cv_cast{a b:Nat→Int}{j:Nat}:∀ m,cv (fun i=>((a i:Int):Rat)) (fun i=>((b i:Int):Rat)) m j=((cv a b m j:Int):Rat)
 | 0=>rfl
 | m+1=>by
  show cv _ _ m j+_=(((cv a b m j+_:Int)):Rat)
  rw [cv_cast m,Rat.intCast_add];split
  ·rw [Rat.intCast_mul]
  ·rfl
/-- Within a round: the first k of the i-th have been added. -/
def cvk(a b:Nat→Int)(i k:Nat):Nat→Int:=fun j=>cv a b i j+(if i≤j∧j < i+k then a i*b (j-i) else 0)
def cvkQ(a b:Nat→Rat)(i k:Nat):Nat→Rat:=fun j=>cv a b i j+(if i≤j∧j < i+k then a i*b (j-i) else 0)
theorem cvk_zero{a b:Nat→Int}{i j:Nat}:cvk a b i 0 j=cv a b i j:=by unfold cvk;rw [if_neg (by omega)];simp
theorem cvkQ_zero{a b:Nat→Rat}{i j:Nat}:cvkQ a b i 0 j=cv a b i j:=by unfold cvkQ;rw [if_neg (by omega)];grind
theorem cvk_end{a b:Nat→Int}{i j m:Nat}(hb:∀ k,m≤k→b k=0):cvk a b i m j=cv a b (i+1) j:=by
 show _=cv a b i j+_
 unfold cvk
 by_cases h:i≤j
 ·by_cases h2:j < i+m
  ·rw [if_pos ⟨h,h2⟩,if_pos h]
  ·rw [if_neg (by omega),if_pos h,hb (j-i) (by omega)];simp
 ·rw [if_neg (by omega),if_neg h]
theorem cvkQ_end{a b:Nat→Rat}{i j m:Nat}(hb:∀ k,m≤k→b k=0):cvkQ a b i m j=cv a b (i+1) j:=by
 show _=cv a b i j+_
 unfold cvkQ
 by_cases h:i≤j
 ·by_cases h2:j < i+m
  ·rw [if_pos ⟨h,h2⟩,if_pos h]
  ·rw [if_neg (by omega),if_pos h,hb (j-i) (by omega)];grind
 ·rw [if_neg (by omega),if_neg h]
theorem cvk_step{a b:Nat→Int}{i k:Nat}:cvk a b i k (i+k)+a i*b k=cvk a b i (k+1) (i+k):=by
 unfold cvk;rw [if_neg (by omega),if_pos (by omega),Nat.add_sub_cancel_left];simp
theorem cvkQ_step{a b:Nat→Rat}{i k:Nat}:cvkQ a b i k (i+k)+a i*b k=cvkQ a b i (k+1) (i+k):=by
 unfold cvkQ;rw [if_neg (by omega),if_pos (by omega),Nat.add_sub_cancel_left];grind
theorem cvk_other{a b:Nat→Int}{i k j:Nat}(h:j≠i+k):cvk a b i k j=cvk a b i (k+1) j:=by
 unfold cvk
 by_cases h1:i≤j∧j < i+k
 ·rw [if_pos h1,if_pos (by omega)]
 ·rw [if_neg h1,if_neg (by omega)]
theorem cvkQ_other{a b:Nat→Rat}{i k j:Nat}(h:j≠i+k):cvkQ a b i k j=cvkQ a b i (k+1) j:=by
 unfold cvkQ
 by_cases h1:i≤j∧j < i+k
 ·rw [if_pos h1,if_pos (by omega)]
 ·rw [if_neg h1,if_neg (by omega)]
theorem conv_l0{a b:Nat→Int}(h:∀ i,a i=0)(j:Nat):conv a b j=0:=conv_z fun i _ _=>by rw [h i];simp
theorem conv_r0{a b:Nat→Int}(h:∀ i,b i=0)(j:Nat):conv a b j=0:=conv_z fun i _ _=>by rw [h];simp
theorem conv_l0Q{a b:Nat→Rat}(h:∀ i,a i=0)(j:Nat):conv a b j=0:=conv_zQ fun i _ _=>by rw [h i];grind
theorem conv_r0Q{a b:Nat→Rat}(h:∀ i,b i=0)(j:Nat):conv a b j=0:=conv_zQ fun i _ _=>by rw [h];grind
theorem nil_prow'{K n:Nat}{c:Nat→Int}(h:n=0):AV.le (.d (.one (.v (.slice none 0 0)))) (.d (.one (prow K n c))):=by subst h;exact nil_prow
theorem nil_qrow'{K n:Nat}{c:Nat→Rat}(h:n=0):AV.le (.d (.one (.v (.slice none 0 0)))) (.d (.one (qrow K n c))):=by subst h;exact nil_qrow
/-- The bounds of a product's elements, within a round. -/
def kf(R:Nat→Nat)(i k p:Nat):Nat:=if i≤p∧p < i+k then R (i+1) else R i
theorem kf_at{R:Nat→Nat}{i k:Nat}:kf R i k (i+k)=R i:=if_neg (by omega)
theorem kf_new{R:Nat→Nat}{i k:Nat}:kf R i (k+1) (i+k)=R (i+1):=if_pos (by omega)
theorem kf_le{R:Nat→Nat}{i k p:Nat}(h:R i≤R (i+1)):kf R i k p≤kf R i (k+1) p:=by
 unfold kf
 by_cases h1:i≤p∧p < i+k
 ·rw [if_pos h1,if_pos (by omega)];exact Nat.le_refl _
 ·rw [if_neg h1];split
  ·exact h
  ·exact Nat.le_refl _
theorem kf_end{R:Nat→Nat}{i k p:Nat}(h:R i≤R (i+1)):kf R i k p≤R (i+1):=by
 unfold kf;split
 ·exact Nat.le_refl _
 ·exact h
theorem kf_start{R:Nat→Nat}{i p:Nat}:R i≤kf R i 0 p:=by unfold kf;rw [if_neg (by omega)];exact Nat.le_refl _
theorem lst_z{l:List Int}:∀ i,l.length≤i→lst l i=0:=fun i hi=>by unfold lst;rw [List.getD_eq_getElem?_getD,List.getElem?_eq_none hi];rfl
/-- Moved: step by step from the top. -/
def lin(x y:Int):Nat→Int:=fun i=>if i=0 then x else if i=1 then y else 0
def onez(z:Int):Nat→Int:=fun i=>if i=0 then z else 0
theorem lin_z{x y:Int}:∀ i,2≤i→lin x y i=0:=fun i hi=>by unfold lin;rw [if_neg (by omega),if_neg (by omega)]
theorem onez_z{z:Int}:∀ i,1≤i→onez z i=0:=fun i hi=>if_neg (by omega)
def del(xs:List Nat):Nat→Nat→Lf:=fun i _=> .v (.int .i64 ((xs.getD i 0:Nat):Int))
theorem digs_small{N:Nat}(h:N≤9223372036854775808):(digs4 N).length≤5:=digs4_le (Nat.lt_of_le_of_lt h (by decide))
theorem digs_step{ds:List Nat}{R N:Nat}(hR:0 < R)(h:ds ++digs4 R=digs4 N):(ds ++ [R%B4]) ++digs4 (R / B4)=digs4 N:=by
 rw [← h,digs4_pos (show R≠0 by omega),List.append_assoc];rfl
theorem digs_end{ds:List Nat}{R N:Nat}(hR:¬ 0 < R)(h:ds ++digs4 R=digs4 N):ds=digs4 N:=by
 obtain rfl:R=0:=by omega
 rw [← h,show digs4 0= [] from rfl,List.append_nil]
theorem del_app{e:TypeId}{ds:List Nat}{x m:Nat}{el2:Nat→Nat→Lf}(hm:m=ds.length+1)(h0:el2 0 0= .v (.int .i64 (x:Int)):=by rfl):AO.le (.row e 1 (ds.length+1) (appEl ds.length (del ds) el2)) (.row e 1 m (del (ds ++ [x]))):=by
 refine app_el hm (fun i hi j hj B w v hv=>?_) (fun j hj B w v hv=>?_)
 ·unfold del at *;rw [List.getD_eq_getElem?_getD,List.getElem?_append_left hi,← List.getD_eq_getElem?_getD];exact hv
 ·obtain rfl:j=0:=by omega
  rw [h0] at hv;unfold del;rw [List.getD_eq_getElem?_getD,List.getElem?_append_right (Nat.le_refl _),Nat.sub_self];exact hv
/-- Cells one by one are a digit row. -/
theorem isd_row{n K N:Nat}{xs:List Nat}(hn:xs.length=n)(hx:xs=digs4 N)(hK:n≤K):IsD (.row 1 n (del xs)) K N:=by
 rintro B w c ⟨a,cap,rfl,h1,h2,h3⟩;subst hn;unfold dn;rw [← hx];refine dr_R ⟨rfl,h1,h2,by rw [hx];exact digs4_lt N,?_⟩ hK (fun x hx' hne hb=>?_)
 ·rcases Nat.eq_zero_or_pos xs.length with h0 | h0
  ·have:xs= []:=List.eq_nil_of_length_eq_zero h0
   rw [this];exact Or.inl rfl
  ·obtain ⟨b,off,rfl,_,_,_⟩:=h3 0 h0
   refine Or.inr ⟨b,off,rfl,fun j hj=>?_⟩;have hj':j < xs.length:=by simpa [ints] using hj
   obtain ⟨b',off',he',_,_,h4⟩:=h3 j hj';cases he'
   obtain ⟨x,hx1,hx2⟩:=h4 0 (by omega);obtain ⟨rfl,_⟩:=hx2;rw [Nat.mul_one,Nat.add_zero] at hx1;rw [hx1,ints_get];simp [hj']
 ·obtain ⟨b,off,he',hb',_,_⟩:=h3 0 (List.length_pos_iff.2 hne)
  rw [he'] at hx';cases hx'
  exact hb' hb
theorem digs1{m:Nat}:(digs4 m).length=1∧(digs4 m).getD 0 0=1↔m=1:=by
 constructor
 ·rintro ⟨h1,h2⟩
  have h3:=val4_digs4 m
  match h:digs4 m,h1 with
  | [x],_=>
   rw [h] at h2 h3;simp at h2;subst h2;rw [← h3];rfl
 ·rintro rfl;rw [digs4_pos (by decide)];exact ⟨rfl,rfl⟩
theorem quo_zv{x y:Int}(hd:y∣x):zv (decide (x < 0) !=decide (y < 0)) (x.natAbs / y.natAbs)=x / y:=by
 obtain ⟨q,rfl⟩:=hd;rcases Int.lt_trichotomy y 0 with hy | rfl | hy
 ·rw [Int.natAbs_mul,Nat.mul_div_cancel_left _ (by omega),Int.mul_ediv_cancel_left _ (by omega)]
  rcases Int.lt_trichotomy q 0 with hq | rfl | hq
  ·have:=Int.mul_pos_of_neg_of_neg hy hq
   simp [zv,hy,show ¬ y*q < 0 from by omega];omega
  ·simp [zv]
  ·have:=Int.mul_neg_of_neg_of_pos hy hq
   simp [zv,hy,this];omega
 ·simp [zv]
 ·rw [Int.natAbs_mul,Nat.mul_div_cancel_left _ (by omega),Int.mul_ediv_cancel_left _ (by omega)]
  rcases Int.lt_trichotomy q 0 with hq | rfl | hq
  ·have:=Int.mul_neg_of_pos_of_neg hy hq
   simp [zv,show ¬ y < 0 from by omega,this];omega
  ·simp [zv]
  ·have:=Int.mul_pos hy hq
   simp [zv,show ¬ y < 0 from by omega,show ¬ y*q < 0 from by omega];omega
/-- A rational of the program, in any form; normal. -/
def IsT(ls:List Lf)(K:Nat)(n d:Int):Prop:=∃ s xs t ys,(∀ B w cs,LsR B w ls cs→LsR B w ([.v (.bool s),lr K xs] ++ [.v (.bool t),lr K ys]) cs)∧zv s (val xs)=n∧zv t (val ys)=d
def tn(K:Nat)(q:Rat):List Lf:=zn K q.num ++zn K (q.den:Int)
def cmpQ(x y:Rat):Int:=cmpZ (x.num*y.den) (y.num*x.den)
/-- A fraction (over 0: over 1). -/
def mkR(n d:Int):Rat:=Rat.divInt n (if d=0 then 1 else d)
theorem mkR_pos{n d:Int}(h:0 < d):(Rat.divInt n d).num=n / ((Nat.gcd n.natAbs d.natAbs:Nat):Int)∧((Rat.divInt n d).den:Int)=d / ((Nat.gcd n.natAbs d.natAbs:Nat):Int):=by
 obtain ⟨k,rfl⟩:=Int.eq_ofNat_of_zero_le (Int.le_of_lt h);have hk:k≠0:=by rintro rfl;exact absurd h (by decide)
 rw [Rat.divInt_ofNat,← Rat.normalize_eq_mkRat hk,Rat.normalize_eq hk];exact ⟨rfl,Int.natCast_ediv _ _⟩
theorem mkR_one(n:Int):(Rat.divInt n 1).num=n∧((Rat.divInt n 1).den:Int)=1:=by
 have h:=mkR_pos (n:=n) (d:=1) (by decide);rw [show (Int.natAbs 1)=1 from rfl,Nat.gcd_one_right] at h;refine ⟨h.1.trans (Int.ediv_one n),h.2⟩
theorem gcd_dvd_l(n d:Int):((Nat.gcd n.natAbs d.natAbs:Nat):Int)∣n:=Int.dvd_natAbs.1 (Int.natCast_dvd_natCast.2 (Nat.gcd_dvd_left _ _))
theorem gcd_dvd_r(n d:Int):((Nat.gcd n.natAbs d.natAbs:Nat):Int)∣d:=Int.dvd_natAbs.1 (Int.natCast_dvd_natCast.2 (Nat.gcd_dvd_right _ _))
theorem gcd_nz{n d:Int}(h:d≠0):((Nat.gcd n.natAbs d.natAbs:Nat):Int)≠0:=by
 have:Nat.gcd n.natAbs d.natAbs≠0:=fun e=>by
  have:=(Nat.gcd_eq_zero_iff.1 e).2;omega
 omega
theorem den_ne(a:Rat):(a.den:Int)≠0:=by have:=a.den_nz;omega
theorem mkR_ne{n d:Int}(h:d≠0):mkR n d=Rat.divInt n d:=by unfold mkR;rw [if_neg h]
theorem mkR_add(a b:Rat):mkR (a.num*b.den+b.num*a.den) (a.den*b.den)=a+b:=by
 rw [mkR_ne (Int.mul_ne_zero (den_ne a) (den_ne b)),← Rat.divInt_add_divInt _ _ (den_ne a) (den_ne b),Rat.num_divInt_den,Rat.num_divInt_den]
theorem mkR_mul(a b:Rat):mkR (a.num*b.num) (a.den*b.den)=a*b:=by
 rw [mkR_ne (Int.mul_ne_zero (den_ne a) (den_ne b)),← Rat.divInt_mul_divInt,Rat.num_divInt_den,Rat.num_divInt_den]
theorem mkR_quo(a b:Rat)(h:b≠0):mkR (a.num*b.den) (a.den*b.num)=a / b:=by
 have hb:b.num≠0:=fun e=>h (Rat.num_eq_zero.1 e)
 rw [mkR_ne (Int.mul_ne_zero (den_ne a) hb),← Rat.divInt_mul_divInt,Rat.num_divInt_den,Rat.div_def,Rat.inv_def]
theorem mkR_int(n:Int):mkR n 1=(n:Rat):=by
 rw [mkR_ne (by decide)];exact Rat.ext (by rw [(mkR_one n).1,Rat.num_intCast]) (by have:=(mkR_one n).2;rw [Rat.den_intCast];omega)
theorem aROf{n:Int}(h1: -9223372036854775808≤n:=by decide)(h2:n≤9223372036854775807:=by decide):ACall Tryz.prog 48 [.one (.v (.int .i64 n))] (.d (.agg (rn 64 n))):=by
 refine aN 26 [.cell 2 47] Tryz.func48 rfl<|cR<|mO rfl<|mT<|cSeq<|cR<|mv2 rfl rfl<|mT<|cCond rfl (fun hc1=>?_) (fun hc1=>?_)
 ·refine cSeq ?_;have hn:n= -9223372036854775808:=eq_of_beq hc1;subst hn;exact cReg<|mY aNPow rfl<|mY (aRMade rfl) rfl<|mZ rfl<|mT<|cRet<|tR<|rQ rfl (le_rn (by decide) (by decide))
 ·refine cSkip<|tN<|cSeq ?_;have hn:n≠-9223372036854775808:=fun e=>by have h0:=hc1;rw [e] at h0;exact absurd h0 (by decide)
  have hN:n.natAbs≤9223372036854775808:=by omega
  refine cReg<|mv3 rfl rfl rfl<|mT<|cSeq<|cR<|mW rfl<|mT<|cCond rfl (fun hc2=>?_) (fun hc2=>?_)
  ·refine cReg<|mW rfl<|mV hTT (.d (.one (.v (.int .i64 (n.natAbs:Int))))) (evi (show IntKind.i64.wrap (0-n)=_ from by have h0:=of_decide_eq_true hc2;rw [wr64];omega))<|mW rfl<|mT<|cR<|mW rfl<|mT<|cSeq<|cBlock<|AW.wk (wkNil 4 4 3 1 (fun _ _=> .v undef) rfl rfl)<|cLoop (ι:=List Nat×Nat) (fun (p:List Nat×Nat)=>match p with | (ds,R)=>⟨26,[(0,.d (.one (.v (.int .i64 ((R:Nat):Int))))),(3,.d (.one (.v (.bool (decide (n < 0)))))),(2,.ptr 2 0),(4,.own 4)],[(2,.box 47 ([.v (.slice none 0 0),.v (.bool false)])),(4,.row 3 1 ds.length (del ds))]⟩) (fun (p:List Nat×Nat)=>match p with | (ds,R)=>ds ++digs4 R=digs4 n.natAbs∧R≤9223372036854775808-1) (fun (p:List Nat×Nat)=>match p with | (ds,R)=>R) ([],n.natAbs) (⟨rfl,by omega⟩) (wk rfl ⟨hs' rfl (le_int (rfl)),hs rfl,hs rfl,hs rfl,trivial⟩ ⟨ho rfl,ho' rfl (leo_row0),trivial⟩ rfl) ?_;rintro ⟨ds,R⟩ hI;obtain ⟨hd,hR9⟩:ds ++digs4 R=digs4 n.natAbs∧R≤9223372036854775808-1:=hI;show AW _ _ _ ⟨_,_,_⟩
   refine cSeq<|cR<|mv2 rfl rfl<|mT<|cCond rfl (fun hc3=>?_) (fun hc3=>?_)
   ·refine cSkip<|tN<|cBlock<|cSeq ?_;have hR:0 < R:=by have h0:=of_decide_eq_true hc3;omega
    have hlen:ds.length≤5:=by have h0:=digs_small hN;rw [← hd,List.length_append] at h0;omega
    exact cReg<|mv3 rfl rfl rfl<|mB hTT (.d (.one (.row 1 1 (fun i' j'=>(([.v (.int .i64 ((R%10000:Nat):Int))])[i'*1+j']?).getD (.v undef))))) rfl<|mA hTT (id:=4) (n:=ds.length) (m:=1) (el:=(del ds)) (el2:=(fun i' j'=>(([.v (.int .i64 ((R%10000:Nat):Int))])[i'*1+j']?).getD (.v undef))) rfl rfl rfl (by show (ds.length+1)*8≤140737488355328;omega) (by omega) rfl rfl rfl rfl rfl rfl rfl rfl rfl rfl<|mW rfl<|mT<|cReg<|mv3 rfl rfl rfl<|mNil<|bN<|⟨((ds ++ [R%10000]),(R / 10000)),⟨digs_step hR hd,by omega⟩,by show R / 10000 < R;omega,wk rfl ⟨hs' rfl (le_int (show IntKind.i64.wrap (Int.tdiv (R:Int) 10000)=_ from by rw [show Int.tdiv (R:Int) 10000=((R / 10000:Nat):Int) from rfl];exact wr64 (by omega) (by omega))),hs rfl,hs rfl,hs rfl,trivial⟩ ⟨ho rfl,ho' rfl (del_app (by simp)),trivial⟩ rfl⟩
   ·refine cExit<|tE<|tE<|bE<|tN<|cSeq ?_;have hde:ds=digs4 n.natAbs:=digs_end (by have h0:=of_decide_eq_false hc3;omega) hd;exact AW.wk (wkRow 4 rfl)<|cView 4 (.d (.one (dn 5 n.natAbs))) rfl (le_one (isd_row rfl hde (by rw [hde];exact digs_small hN)))<|cReg<|mv2 rfl rfl<|mY (aRMade rfl) rfl<|mZ rfl<|mT<|cRet<|rQ rfl (le_rn (by decide) (zv_natAbs n))
  ·refine cSkip<|tN<|cR<|mW rfl<|mT<|cSeq<|cBlock<|AW.wk (wkNil 4 4 3 1 (fun _ _=> .v undef) rfl rfl)<|cLoop (ι:=List Nat×Nat) (fun (p:List Nat×Nat)=>match p with | (ds,R)=>⟨26,[(0,.d (.one (.v (.int .i64 ((R:Nat):Int))))),(3,.d (.one (.v (.bool (decide (n < 0)))))),(2,.ptr 2 0),(4,.own 4)],[(2,.box 47 ([.v (.slice none 0 0),.v (.bool false)])),(4,.row 3 1 ds.length (del ds))]⟩) (fun (p:List Nat×Nat)=>match p with | (ds,R)=>ds ++digs4 R=digs4 n.natAbs∧R≤9223372036854775808-1) (fun (p:List Nat×Nat)=>match p with | (ds,R)=>R) ([],n.natAbs) (⟨rfl,by omega⟩) (wk rfl ⟨hs' rfl (le_int (by have h0:=of_decide_eq_false hc2;omega)),hs rfl,hs rfl,hs rfl,trivial⟩ ⟨ho rfl,ho' rfl (leo_row0),trivial⟩ rfl) ?_;rintro ⟨ds,R⟩ hI;obtain ⟨hd,hR9⟩:ds ++digs4 R=digs4 n.natAbs∧R≤9223372036854775808-1:=hI;show AW _ _ _ ⟨_,_,_⟩
   refine cSeq<|cR<|mv2 rfl rfl<|mT<|cCond rfl (fun hc4=>?_) (fun hc4=>?_)
   ·refine cSkip<|tN<|cBlock<|cSeq ?_;have hR:0 < R:=by have h0:=of_decide_eq_true hc4;omega
    have hlen:ds.length≤5:=by have h0:=digs_small hN;rw [← hd,List.length_append] at h0;omega
    exact cReg<|mv3 rfl rfl rfl<|mB hTT (.d (.one (.row 1 1 (fun i' j'=>(([.v (.int .i64 ((R%10000:Nat):Int))])[i'*1+j']?).getD (.v undef))))) rfl<|mA hTT (id:=4) (n:=ds.length) (m:=1) (el:=(del ds)) (el2:=(fun i' j'=>(([.v (.int .i64 ((R%10000:Nat):Int))])[i'*1+j']?).getD (.v undef))) rfl rfl rfl (by show (ds.length+1)*8≤140737488355328;omega) (by omega) rfl rfl rfl rfl rfl rfl rfl rfl rfl rfl<|mW rfl<|mT<|cReg<|mv3 rfl rfl rfl<|mNil<|bN<|⟨((ds ++ [R%10000]),(R / 10000)),⟨digs_step hR hd,by omega⟩,by show R / 10000 < R;omega,wk rfl ⟨hs' rfl (le_int (show IntKind.i64.wrap (Int.tdiv (R:Int) 10000)=_ from by rw [show Int.tdiv (R:Int) 10000=((R / 10000:Nat):Int) from rfl];exact wr64 (by omega) (by omega))),hs rfl,hs rfl,hs rfl,trivial⟩ ⟨ho rfl,ho' rfl (del_app (by simp)),trivial⟩ rfl⟩
   ·refine cExit<|tE<|tE<|bE<|tN<|cSeq ?_;have hde:ds=digs4 n.natAbs:=digs_end (by have h0:=of_decide_eq_false hc4;omega) hd;exact AW.wk (wkRow 4 rfl)<|cView 4 (.d (.one (dn 5 n.natAbs))) rfl (le_one (isd_row rfl hde (by rw [hde];exact digs_small hN)))<|cReg<|mv2 rfl rfl<|mY (aRMade rfl) rfl<|mZ rfl<|mT<|cRet<|rQ rfl (le_rn (by decide) (zv_natAbs n))
theorem aRQuo{a b:List Lf}{K L M:Nat}{x y:Int}(ha:IsR a K x)(hb:IsR b L y)(hy:y≠0)(hd:y∣x)(hM:K≤M:=by first|decide|omega)(hK:K≤100000000:=by first|decide|omega)(hL:L≤100000000:=by first|decide|omega):ACall Tryz.prog 87 [.agg a,.agg b] (.d (.agg (rn M (x / y)))):=by
 exact ACall.le (dl (DV.g ha) (dl (DV.g hb) dl0)) AV.le.rfl<|aN 22 [.cell 4 47] Tryz.func87 rfl<|cR<|mO rfl<|mO rfl<|mO rfl<|mT<|cR<|mv4 rfl rfl rfl rfl<|mY (aNDiv (isd K x.natAbs) (isd L y.natAbs) (by omega)) rfl<|mv5 rfl rfl rfl rfl rfl<|mT<|cR<|mv6 rfl rfl rfl rfl rfl rfl<|mY (aRMade rfl) rfl<|mZ rfl<|mT<|cRet<|rQ rfl (le_rn hM (quo_zv hd))
theorem aRGcd{a b:List Lf}{K L M:Nat}{x y:Int}(ha:IsR a K x)(hb:IsR b L y)(hM:max K L≤M:=by first|decide|omega)(hMM:M≤100000000:=by first|decide|omega):ACall Tryz.prog 86 [.agg a,.agg b] (.d (.agg (rn M ((Nat.gcd x.natAbs y.natAbs:Nat):Int)))):=by
 refine ACall.le (dl (DV.g ha) (dl (DV.g hb) dl0)) AV.le.rfl<|aN 26 [.cell 4 47] Tryz.func86 rfl<|cR<|mO rfl<|mO rfl<|mO rfl<|mT<|cSeq<|cDk 6<|oV rfl<|oV rfl<|oV rfl<|oV rfl<|.cons (OpS.V _ rfl)<|.cons (OpS.V _ rfl)<|.nil<|mT<|cSeq<|cBlock<|cLoop (ι:=Nat×Nat) (fun (p:Nat×Nat)=>match p with | (u,v)=>⟨26,[(4,.ptr 4 0),(5,.d (.one (dn M u))),(6,.d (.one (dn M v)))],[(4,.box 47 ([.v (.slice none 0 0),.v (.bool false)]))]⟩) (fun (p:Nat×Nat)=>match p with | (u,v)=>Nat.gcd u v=Nat.gcd x.natAbs y.natAbs) (fun (p:Nat×Nat)=>match p with | (u,v)=>v) (x.natAbs,y.natAbs) (rfl) (wk rfl ⟨hs rfl,hs' rfl (le_one (dr_mono (Nat.le_trans (Nat.le_max_left K L) hM))),hs' rfl (le_one (dr_mono (Nat.le_trans (Nat.le_max_right K L) hM))),trivial⟩ ⟨ho rfl,trivial⟩ rfl) ?_;rintro ⟨u,v⟩ hI;have hg:Nat.gcd u v=Nat.gcd x.natAbs y.natAbs:=hI;show AW _ _ _ ⟨_,_,_⟩
 refine cSeq<|cR<|mv3 rfl rfl rfl<|mT<|cCond rfl (fun hc1=>?_) (fun hc1=>?_)
 ·refine cSkip<|tN<|cBlock<|cSeq ?_;have hy0:0 < v:=by rcases Nat.eq_zero_or_pos v with e | e;exact absurd (of_decide_eq_true hc1) (by rw [e];decide);exact e
  exact cReg<|mv2 rfl rfl<|mY (aNDiv (isd M u) (isd M v) hy0) rfl<|mv5 rfl rfl rfl rfl rfl<|mT<|cReg<|mv4 rfl rfl rfl rfl<|mNil<|bN<|⟨(v,(u%v)),by show Nat.gcd v (u%v)=_;rw [← hg,Nat.gcd_comm u v,Nat.gcd_rec v u,Nat.gcd_comm],by show u%v < v;exact Nat.mod_lt _ hy0,wkr rfl rfl⟩
 ·refine cExit<|tE<|tE<|bE<|tN<|cSeq ?_;have hy0:v=0:=by have h0:=of_decide_eq_false hc1;have h1:=digs_len v;omega
  have hu:u=Nat.gcd x.natAbs y.natAbs:=by rw [← hg,hy0,Nat.gcd_zero_right]
  exact cReg<|mv2 rfl rfl<|mZ rfl<|mT<|cRet<|rQ rfl (le_rmade (by simp) (by rw [hu];rfl))
theorem aRMake{a b:List Lf}{K L M:Nat}{n d:Int}(ha:IsR a K n)(hb:IsR b L d)(hM:max K (max L 64)≤M:=by first|decide|omega)(hMM:M≤100000000:=by first|decide|omega):ACall Tryz.prog 47 [.agg a,.agg b] (.d (.agg (qn M (mkR n d)))):=by
 refine ACall.le (dl (DV.g ha) (dl (DV.g hb) dl0)) AV.le.rfl<|aN 39 [.cell 4 49] Tryz.func47 rfl<|cR<|mO rfl<|mO rfl<|mO rfl<|mT<|cSeq<|cR<|mW rfl<|mY (aRZero (isr L d)) rfl<|mT<|cCond rfl (fun hc1=>?_) (fun hc1=>?_)
 ·refine cReg<|mY aROf rfl<|mZ rfl<|mT<|cSeq<|cSeq ?_;have hd0:d=0:=of_decide_eq_true hc1;refine cReg<|mv2 rfl rfl<|mT<|cFs rfl<|cSeq<|cSeq ?_
  by_cases hl1:(digs4 (Int.natAbs 1)).length=1
  ·refine cReg<|mv3 rfl rfl rfl<|mbT rfl (by rw [hl1];rfl)<|mv3 rfl rfl rfl<|mView 21 (.d (.one (.row 1 ((digs4 (Int.natAbs 1)).length) (fun i _=> .v (.int .i64 (((digs4 (Int.natAbs 1)).getD i 0:Nat):Int)))))) rfl (le_drow _ _)<|mV hTT (.d (.one (.at 1 ((fun i _=> .v (.int .i64 (((digs4 (Int.natAbs 1)).getD i 0:Nat):Int))) 0)))) (ixR (el:=(fun i _=> .v (.int .i64 (((digs4 (Int.natAbs 1)).getD i 0:Nat):Int)))) (z:=0) (n:=((digs4 (Int.natAbs 1)).length)) rfl rfl rfl rfl rfl rfl (by decide) (by rw [hl1];decide)) ?_;refine mv3 rfl rfl rfl<|mT<|cCond rfl (fun hc2=>?_) (fun hc2=>?_)
   ·refine cR<|mv3 rfl rfl rfl<|mZ rfl<|mT<|cRet<|tR ?_;have hq:mkR n d=Rat.divInt n 1:=by unfold mkR;rw [if_pos hd0]
    have h1:(1:Int)=1:=by have h0:=digs1.1 ⟨hl1,Int.ofNat_inj.1 (eq_of_beq hc2)⟩;omega
    have hq1:mkR n d=Rat.divInt n 1:=hq.trans (congrArg (Rat.divInt n) h1);obtain ⟨e1,e2⟩:=mkR_one n;exact rQ rfl (le_qn2 (by omega) (by omega) (by rw [hq1];exact e1.symm) (by rw [hq1];exact h1.trans e2.symm))
   ·refine cSkip<|tN<|cSeq ?_;have hD:(0:Int) < 1:=by omega
    refine cReg<|mv2 rfl rfl<|mY (aRGcd (isr K n) (isr 64 1) (M:=(max K 64))) rfl<|mO rfl<|mZ rfl<|mT<|cSeq<|cDk 7<|oV rfl<|oV rfl<|oC (aRQuo (isr K n) (isr (max K 64) ((Nat.gcd (Int.natAbs n) (Int.natAbs 1):Nat):Int)) (gcd_nz (by omega)) (gcd_dvd_l _ _) (M:=K)) rfl<|oV rfl<|oV rfl<|oC (aRQuo (isr 64 1) (isr (max K 64) ((Nat.gcd (Int.natAbs n) (Int.natAbs 1):Nat):Int)) (gcd_nz (by omega)) (gcd_dvd_r _ _) (M:=64)) rfl<|oV rfl<|.nil<|mZ rfl<|mT<|cRet ?_;have hq:mkR n d=Rat.divInt n 1:=by unfold mkR;rw [if_pos hd0]
    obtain ⟨e1,e2⟩:=mkR_pos (n:=n) (d:=1) hD;exact rQ rfl (le_qn2 (by omega) (by omega) (by rw [hq];exact e1.symm) (by rw [hq];exact e2.symm))
  ·refine cReg<|mv3 rfl rfl rfl<|mbF rfl (beq_eq_false_iff_ne.2 fun e=>hl1 (by exact_mod_cast e))<|mW rfl<|mG rfl rfl<|mG rfl rfl<|mG rfl rfl<|mG rfl rfl<|mG rfl rfl<|mW rfl<|mT<|cFs rfl<|cSeq ?_;have hD:(0:Int) < 1:=by omega
   refine cReg<|mv2 rfl rfl<|mY (aRGcd (isr K n) (isr 64 1) (M:=(max K 64))) rfl<|mO rfl<|mZ rfl<|mT<|cSeq<|cDk 7<|oV rfl<|oV rfl<|oC (aRQuo (isr K n) (isr (max K 64) ((Nat.gcd (Int.natAbs n) (Int.natAbs 1):Nat):Int)) (gcd_nz (by omega)) (gcd_dvd_l _ _) (M:=K)) rfl<|oV rfl<|oV rfl<|oC (aRQuo (isr 64 1) (isr (max K 64) ((Nat.gcd (Int.natAbs n) (Int.natAbs 1):Nat):Int)) (gcd_nz (by omega)) (gcd_dvd_r _ _) (M:=64)) rfl<|oV rfl<|.nil<|mZ rfl<|mT<|cRet ?_;have hq:mkR n d=Rat.divInt n 1:=by unfold mkR;rw [if_pos hd0]
   obtain ⟨e1,e2⟩:=mkR_pos (n:=n) (d:=1) hD;exact rQ rfl (le_qn2 (by omega) (by omega) (by rw [hq];exact e1.symm) (by rw [hq];exact e2.symm))
 ·refine cSkip<|tN<|cSeq<|cSeq ?_;have hd0:d≠0:=of_decide_eq_false hc1;refine cReg<|mv2 rfl rfl<|mT<|cCond rfl (fun hc3=>?_) (fun hc3=>?_)
  ·have hdn:d < 0:=of_decide_eq_true hc3;refine cDk 4<|oV rfl<|oC (aRNeg (isr K n) (M:=K)) rfl<|oV rfl<|oC (aRNeg (isr L d) (M:=L)) rfl<|.nil<|mZ rfl<|mZ rfl<|mT<|cSeq<|cSeq ?_
   by_cases hl1:(digs4 (Int.natAbs (-d))).length=1
   ·refine cReg<|mv3 rfl rfl rfl<|mbT rfl (by rw [hl1];rfl)<|mv3 rfl rfl rfl<|mView 21 (.d (.one (.row 1 ((digs4 (Int.natAbs (-d))).length) (fun i _=> .v (.int .i64 (((digs4 (Int.natAbs (-d))).getD i 0:Nat):Int)))))) rfl (le_drow _ _)<|mV hTT (.d (.one (.at 1 ((fun i _=> .v (.int .i64 (((digs4 (Int.natAbs (-d))).getD i 0:Nat):Int))) 0)))) (ixR (el:=(fun i _=> .v (.int .i64 (((digs4 (Int.natAbs (-d))).getD i 0:Nat):Int)))) (z:=0) (n:=((digs4 (Int.natAbs (-d))).length)) rfl rfl rfl rfl rfl rfl (by decide) (by rw [hl1];decide)) ?_;refine mv3 rfl rfl rfl<|mT<|cCond rfl (fun hc4=>?_) (fun hc4=>?_)
    ·refine cR<|mv3 rfl rfl rfl<|mZ rfl<|mT<|cRet<|tR ?_;have hq:mkR n d=Rat.divInt (-n) (-d):=by rw [mkR_ne hd0,Rat.neg_divInt_neg]
     have h1:((-d):Int)=1:=by have h0:=digs1.1 ⟨hl1,Int.ofNat_inj.1 (eq_of_beq hc4)⟩;omega
     have hq1:mkR n d=Rat.divInt (-n) 1:=hq.trans (congrArg (Rat.divInt (-n)) h1);obtain ⟨e1,e2⟩:=mkR_one (-n);exact rQ rfl (le_qn2 (by omega) (by omega) (by rw [hq1];exact e1.symm) (by rw [hq1];exact h1.trans e2.symm))
    ·refine cSkip<|tN<|cSeq ?_;have hD:(0:Int) < (-d):=by omega
     refine cReg<|mv2 rfl rfl<|mY (aRGcd (isr K (-n)) (isr L (-d)) (M:=(max K L))) rfl<|mO rfl<|mZ rfl<|mT<|cSeq<|cDk 7<|oV rfl<|oV rfl<|oC (aRQuo (isr K (-n)) (isr (max K L) ((Nat.gcd (Int.natAbs (-n)) (Int.natAbs (-d)):Nat):Int)) (gcd_nz (by omega)) (gcd_dvd_l _ _) (M:=K)) rfl<|oV rfl<|oV rfl<|oC (aRQuo (isr L (-d)) (isr (max K L) ((Nat.gcd (Int.natAbs (-n)) (Int.natAbs (-d)):Nat):Int)) (gcd_nz (by omega)) (gcd_dvd_r _ _) (M:=L)) rfl<|oV rfl<|.nil<|mZ rfl<|mT<|cRet ?_;have hq:mkR n d=Rat.divInt (-n) (-d):=by rw [mkR_ne hd0,Rat.neg_divInt_neg]
     obtain ⟨e1,e2⟩:=mkR_pos (n:=(-n)) (d:=(-d)) hD;exact rQ rfl (le_qn2 (by omega) (by omega) (by rw [hq];exact e1.symm) (by rw [hq];exact e2.symm))
   ·refine cReg<|mv3 rfl rfl rfl<|mbF rfl (beq_eq_false_iff_ne.2 fun e=>hl1 (by exact_mod_cast e))<|mW rfl<|mG rfl rfl<|mG rfl rfl<|mG rfl rfl<|mG rfl rfl<|mG rfl rfl<|mW rfl<|mT<|cFs rfl<|cSeq ?_;have hD:(0:Int) < (-d):=by omega
    refine cReg<|mv2 rfl rfl<|mY (aRGcd (isr K (-n)) (isr L (-d)) (M:=(max K L))) rfl<|mO rfl<|mZ rfl<|mT<|cSeq<|cDk 7<|oV rfl<|oV rfl<|oC (aRQuo (isr K (-n)) (isr (max K L) ((Nat.gcd (Int.natAbs (-n)) (Int.natAbs (-d)):Nat):Int)) (gcd_nz (by omega)) (gcd_dvd_l _ _) (M:=K)) rfl<|oV rfl<|oV rfl<|oC (aRQuo (isr L (-d)) (isr (max K L) ((Nat.gcd (Int.natAbs (-n)) (Int.natAbs (-d)):Nat):Int)) (gcd_nz (by omega)) (gcd_dvd_r _ _) (M:=L)) rfl<|oV rfl<|.nil<|mZ rfl<|mT<|cRet ?_;have hq:mkR n d=Rat.divInt (-n) (-d):=by rw [mkR_ne hd0,Rat.neg_divInt_neg]
    obtain ⟨e1,e2⟩:=mkR_pos (n:=(-n)) (d:=(-d)) hD;exact rQ rfl (le_qn2 (by omega) (by omega) (by rw [hq];exact e1.symm) (by rw [hq];exact e2.symm))
  ·refine cSkip<|tN<|cSeq<|cSeq ?_;have hdp:0 < d:=by have h0:=of_decide_eq_false hc3;omega
   by_cases hl1:(digs4 d.natAbs).length=1
   ·refine cReg<|mv3 rfl rfl rfl<|mbT rfl (by rw [hl1];rfl)<|mv3 rfl rfl rfl<|mView 21 (.d (.one (.row 1 ((digs4 d.natAbs).length) (fun i _=> .v (.int .i64 (((digs4 d.natAbs).getD i 0:Nat):Int)))))) rfl (le_drow _ _)<|mV hTT (.d (.one (.at 1 ((fun i _=> .v (.int .i64 (((digs4 d.natAbs).getD i 0:Nat):Int))) 0)))) (ixR (el:=(fun i _=> .v (.int .i64 (((digs4 d.natAbs).getD i 0:Nat):Int)))) (z:=0) (n:=((digs4 d.natAbs).length)) rfl rfl rfl rfl rfl rfl (by decide) (by rw [hl1];decide)) ?_;refine mv3 rfl rfl rfl<|mT<|cCond rfl (fun hc5=>?_) (fun hc5=>?_)
    ·refine cR<|mv3 rfl rfl rfl<|mZ rfl<|mT<|cRet<|tR ?_;have hq:mkR n d=Rat.divInt n d:=mkR_ne hd0;have h1:(d:Int)=1:=by have h0:=digs1.1 ⟨hl1,Int.ofNat_inj.1 (eq_of_beq hc5)⟩;omega
     have hq1:mkR n d=Rat.divInt n 1:=hq.trans (congrArg (Rat.divInt n) h1);obtain ⟨e1,e2⟩:=mkR_one n;exact rQ rfl (le_qn2 (by omega) (by omega) (by rw [hq1];exact e1.symm) (by rw [hq1];exact h1.trans e2.symm))
    ·refine cSkip<|tN<|cSeq ?_;have hD:(0:Int) < d:=by omega
     refine cReg<|mv2 rfl rfl<|mY (aRGcd (isr K n) (isr L d) (M:=(max K L))) rfl<|mO rfl<|mZ rfl<|mT<|cSeq<|cDk 7<|oV rfl<|oV rfl<|oC (aRQuo (isr K n) (isr (max K L) ((Nat.gcd (Int.natAbs n) (Int.natAbs d):Nat):Int)) (gcd_nz (by omega)) (gcd_dvd_l _ _) (M:=K)) rfl<|oV rfl<|oV rfl<|oC (aRQuo (isr L d) (isr (max K L) ((Nat.gcd (Int.natAbs n) (Int.natAbs d):Nat):Int)) (gcd_nz (by omega)) (gcd_dvd_r _ _) (M:=L)) rfl<|oV rfl<|.nil<|mZ rfl<|mT<|cRet ?_;have hq:mkR n d=Rat.divInt n d:=mkR_ne hd0;obtain ⟨e1,e2⟩:=mkR_pos (n:=n) (d:=d) hD;exact rQ rfl (le_qn2 (by omega) (by omega) (by rw [hq];exact e1.symm) (by rw [hq];exact e2.symm))
   ·refine cReg<|mv3 rfl rfl rfl<|mbF rfl (beq_eq_false_iff_ne.2 fun e=>hl1 (by exact_mod_cast e))<|mW rfl<|mG rfl rfl<|mG rfl rfl<|mG rfl rfl<|mG rfl rfl<|mG rfl rfl<|mW rfl<|mT<|cFs rfl<|cSeq ?_;have hD:(0:Int) < d:=by omega
    refine cReg<|mv2 rfl rfl<|mY (aRGcd (isr K n) (isr L d) (M:=(max K L))) rfl<|mO rfl<|mZ rfl<|mT<|cSeq<|cDk 7<|oV rfl<|oV rfl<|oC (aRQuo (isr K n) (isr (max K L) ((Nat.gcd (Int.natAbs n) (Int.natAbs d):Nat):Int)) (gcd_nz (by omega)) (gcd_dvd_l _ _) (M:=K)) rfl<|oV rfl<|oV rfl<|oC (aRQuo (isr L d) (isr (max K L) ((Nat.gcd (Int.natAbs n) (Int.natAbs d):Nat):Int)) (gcd_nz (by omega)) (gcd_dvd_r _ _) (M:=L)) rfl<|oV rfl<|.nil<|mZ rfl<|mT<|cRet ?_;have hq:mkR n d=Rat.divInt n d:=mkR_ne hd0;obtain ⟨e1,e2⟩:=mkR_pos (n:=n) (d:=d) hD;exact rQ rfl (le_qn2 (by omega) (by omega) (by rw [hq];exact e1.symm) (by rw [hq];exact e2.symm))
theorem aROfR{n d:Int}(h1: -9223372036854775808≤n:=by first|decide|omega)(h2:n≤9223372036854775807:=by first|decide|omega)(h3: -9223372036854775808≤d:=by first|decide|omega)(h4:d≤9223372036854775807:=by first|decide|omega):ACall Tryz.prog 21 [.one (.v (.int .i64 n)),.one (.v (.int .i64 d))] (.d (.agg (qn 64 (mkR n d)))):=by
 exact aN 10 [.cell 4 49] Tryz.func21 rfl<|cR<|mO rfl<|mT<|cR<|mW rfl<|mY (aROf h1 h2) rfl<|mW rfl<|mY (aROf h3 h4) rfl<|mY (aRMake (isr 64 n) (isr 64 d) (M:=64)) rfl<|mZ rfl<|mT<|cRet<|rQ rfl (AV.le.rfl)
theorem aROfI{n:Int}(h1: -9223372036854775808≤n:=by first|decide|omega)(h2:n≤9223372036854775807:=by first|decide|omega):ACall Tryz.prog 21 [.one (.v (.int .i64 n)),.one (.v (.int .i64 1))] (.d (.agg (qn 64 (n:Rat)))):=by
 have h:=aROfR (d:=1) h1 h2 (by decide) (by decide);rw [mkR_int] at h;exact h
theorem aRAddR{a b:List Lf}{K L M:Nat}{x y:Rat}(ha:IsQ a K x)(hb:IsQ b L y)(hM:max (K+L+1) 64≤M:=by first|decide|omega)(hMM:M≤10000000:=by first|decide|omega):ACall Tryz.prog 97 [.agg a,.agg b] (.d (.agg (qn M (x+y)))):=by
 exact ACall.le (dl (DV.g ha) (dl (DV.g hb) dl0)) AV.le.rfl<|aN 22 [.cell 4 49] Tryz.func97 rfl<|cR<|mO rfl<|mO rfl<|mO rfl<|mT<|cSeq<|cDk 17<|oV rfl<|oV rfl<|oV rfl<|oV rfl<|oC (aRMul (isr K x.num) (isr L (y.den:Int)) (M:=(K+L))) rfl<|oV rfl<|oV rfl<|oV rfl<|oV rfl<|oC (aRMul (isr L y.num) (isr K (x.den:Int)) (M:=(L+K))) rfl<|oC (aRAdd (isr (K+L) (x.num*(y.den:Int))) (isr (L+K) (y.num*(x.den:Int))) (M:=(max (K+L) (L+K)+1))) rfl<|oV rfl<|oV rfl<|oV rfl<|oV rfl<|oC (aRMul (isr K (x.den:Int)) (isr L (y.den:Int)) (M:=(K+L))) rfl<|oC (aRMake (isr (max (K+L) (L+K)+1) ((x.num*(y.den:Int))+(y.num*(x.den:Int)))) (isr (K+L) ((x.den:Int)*(y.den:Int))) (M:=(max (max (K+L) (L+K)+1) (max (K+L) 64)))) rfl<|.nil<|mZ rfl<|mT<|cRet<|rQ rfl (le_qn (by omega) (mkR_add x y))
theorem aRMulR{a b:List Lf}{K L M:Nat}{x y:Rat}(ha:IsQ a K x)(hb:IsQ b L y)(hM:max (K+L+1) 64≤M:=by first|decide|omega)(hMM:M≤10000000:=by first|decide|omega):ACall Tryz.prog 115 [.agg a,.agg b] (.d (.agg (qn M (x*y)))):=by
 exact ACall.le (dl (DV.g ha) (dl (DV.g hb) dl0)) AV.le.rfl<|aN 16 [.cell 4 49] Tryz.func115 rfl<|cR<|mO rfl<|mO rfl<|mO rfl<|mT<|cSeq<|cDk 11<|oV rfl<|oV rfl<|oV rfl<|oV rfl<|oC (aRMul (isr K x.num) (isr L y.num) (M:=(K+L))) rfl<|oV rfl<|oV rfl<|oV rfl<|oV rfl<|oC (aRMul (isr K (x.den:Int)) (isr L (y.den:Int)) (M:=(K+L))) rfl<|oC (aRMake (isr (K+L) (x.num*y.num)) (isr (K+L) ((x.den:Int)*(y.den:Int))) (M:=(max (K+L) (max (K+L) 64)))) rfl<|.nil<|mZ rfl<|mT<|cRet<|rQ rfl (le_qn (by omega) (mkR_mul x y))
theorem aRNegR{a:List Lf}{K:Nat}{x:Rat}(ha:IsQ a K x)(hK:K≤10000000:=by first|decide|omega):ACall Tryz.prog 46 [.agg a] (.d (.agg (qn K (-x)))):=by
 exact ACall.le (dl (DV.g ha) dl0) AV.le.rfl<|aN 9 [.cell 2 49] Tryz.func46 rfl<|cR<|mO rfl<|mO rfl<|mT<|cSeq<|cDk 6<|oV rfl<|oV rfl<|oC (aRNeg (isr K x.num) (M:=K)) rfl<|oV rfl<|oV rfl<|oV rfl<|.nil<|mZ rfl<|mT<|cRet<|rQ rfl (le_qn2 (Nat.le_refl _) (Nat.le_refl _) (Rat.neg_num x).symm (by rw [Rat.neg_den]))
theorem aRQuoR{a b:List Lf}{K L M:Nat}{x y:Rat}(ha:IsQ a K x)(hb:IsQ b L y)(hy:y≠0)(hM:max (K+L+1) 64≤M:=by first|decide|omega)(hMM:M≤10000000:=by first|decide|omega):ACall Tryz.prog 98 [.agg a,.agg b] (.d (.agg (qn M (x / y)))):=by
 exact ACall.le (dl (DV.g ha) (dl (DV.g hb) dl0)) AV.le.rfl<|aN 16 [.cell 4 49] Tryz.func98 rfl<|cR<|mO rfl<|mO rfl<|mO rfl<|mT<|cSeq<|cDk 11<|oV rfl<|oV rfl<|oV rfl<|oV rfl<|oC (aRMul (isr K x.num) (isr L (y.den:Int)) (M:=(K+L))) rfl<|oV rfl<|oV rfl<|oV rfl<|oV rfl<|oC (aRMul (isr K (x.den:Int)) (isr L y.num) (M:=(K+L))) rfl<|oC (aRMake (isr (K+L) (x.num*(y.den:Int))) (isr (K+L) ((x.den:Int)*y.num)) (M:=(max (K+L) (max (K+L) 64)))) rfl<|.nil<|mZ rfl<|mT<|cRet<|rQ rfl (le_qn (by omega) (mkR_quo x y hy))
theorem aRCmpR{a b:List Lf}{K L:Nat}{x y:Rat}(ha:IsQ a K x)(hb:IsQ b L y)(hK:K≤10000000:=by first|decide|omega)(hL:L≤10000000:=by first|decide|omega):ACall Tryz.prog 44 [.agg a,.agg b] (.d (.one (.v (.int .i64 (cmpQ x y))))):=by
 exact ACall.le (dl (DV.g ha) (dl (DV.g hb) dl0)) AV.le.rfl<|aN 16 [.tmp 4] Tryz.func44 rfl<|cR<|mO rfl<|mO rfl<|mW rfl<|mT<|cSeq<|cDk 12<|oV rfl<|oV rfl<|oV rfl<|oV rfl<|oC (aRMul (isr K x.num) (isr L (y.den:Int)) (M:=(K+L))) rfl<|oV rfl<|oV rfl<|oV rfl<|oV rfl<|oC (aRMul (isr L y.num) (isr K (x.den:Int)) (M:=(L+K))) rfl<|oC (aRCmp (isr (K+L) (x.num*(y.den:Int))) (isr (L+K) (y.num*(x.den:Int)))) rfl<|.cons (OpS.V _ rfl)<|.nil<|mT<|cRet<|rQ rfl (AV.le.rfl)
theorem aPCut{K n:Nat}{c:Nat→Int}(hn:n≤1000000:=by omega):ACall Tryz.prog 124 [.one (prow K n c)] (.d (.one (prow K (dg c n) c))):=by
 refine aN 21 [.tmp 2] Tryz.func124 rfl<|cR<|mW rfl<|mT<|cR<|mv3 rfl rfl rfl<|mT<|cSeq<|cBlock<|cLoop (ι:=Nat) (fun (k:Nat)=>⟨21,[(0,.d (.one (.row 2 n (zel K c)))),(3,.d (.one (.v (.int .i64 ((k:Nat):Int)))))],[]⟩) (fun (k:Nat)=>k≤n∧dg c n=dg c k) (fun (k:Nat)=>k) n (⟨Nat.le_refl _,rfl⟩) (wkr rfl rfl) ?_;rintro k hI;obtain ⟨hkn,hk⟩:k≤n∧dg c n=dg c k:=hI;show AW _ _ _ ⟨_,_,_⟩
 refine cSeq<|cSeq ?_
 by_cases hk0:k=0
 ·refine cReg<|mW rfl<|mdF rfl (by omega)<|mW rfl<|mG rfl rfl<|mG rfl rfl<|mG rfl rfl<|mG rfl rfl<|mG rfl rfl<|mG rfl rfl<|mW rfl<|mT<|cF rfl<|cExit<|tE<|tE<|bE<|tN<|cSeq ?_;have hd:k=dg c n:=by rw [hk,hk0];rfl
  exact cReg<|mv2 rfl rfl<|mV hTT (.d (.one (.row 2 k (zel K c)))) (slR (z:=(k:Int)) (n:=n) rfl rfl rfl rfl rfl rfl (by omega) (by omega))<|mW rfl<|mT<|cRet<|rQ rfl (le_prow (Nat.le_refl _) hd (fun _ _=>rfl))
 ·refine cReg<|mW rfl<|mdT rfl (by omega)<|mv3 rfl rfl rfl<|mV hTT (.d (.one (.v (.int .i64 ((k-1:Nat):Int))))) (evi ((wr64 (by omega) (by omega)).trans (by omega)))<|mV hTT (.d (.one (.at 2 ((zel K c) (k-1))))) (ixR (el:=(zel K c)) (z:=((k-1:Nat):Int)) (n:=n) rfl rfl rfl rfl rfl rfl (by omega) (by omega)) ?_;refine mW rfl<|mY (aZero (isn K (c (k-1)))) rfl<|mW rfl<|mT<|cCond rfl (fun hc1=>?_) (fun hc1=>?_)
  ·refine cSkip<|tN<|cBlock ?_;have hc0:c (k-1)=0:=of_decide_eq_true hc1;exact cReg<|mW rfl<|mV hTT (.d (.one (.v (.int .i64 ((k-1:Nat):Int))))) (evi ((wr64 (by omega) (by omega)).trans (by omega)))<|mW rfl<|mNil<|bN<|⟨(k-1),⟨by omega,dg_down hk hk0 hc0⟩,by omega,wkr rfl rfl⟩
  ·refine cExit<|tE<|tE<|bE<|tN<|cSeq ?_;have hd:k=dg c n:=by rw [hk];exact (dg_stop (Or.inr fun e=>of_decide_eq_false hc1 e)).symm
   exact cReg<|mv2 rfl rfl<|mV hTT (.d (.one (.row 2 k (zel K c)))) (slR (z:=(k:Int)) (n:=n) rfl rfl rfl rfl rfl rfl (by omega) (by omega))<|mW rfl<|mT<|cRet<|rQ rfl (le_prow (Nat.le_refl _) hd (fun _ _=>rfl))
theorem aQCut{K n:Nat}{c:Nat→Rat}(hn:n≤1000000:=by omega):ACall Tryz.prog 59 [.one (qrow K n c)] (.d (.one (qrow K (dg c n) c))):=by
 refine aN 22 [.tmp 2] Tryz.func59 rfl<|cR<|mW rfl<|mT<|cR<|mv3 rfl rfl rfl<|mT<|cSeq<|cBlock<|cLoop (ι:=Nat) (fun (k:Nat)=>⟨22,[(0,.d (.one (.row 4 n (qel K c)))),(3,.d (.one (.v (.int .i64 ((k:Nat):Int)))))],[]⟩) (fun (k:Nat)=>k≤n∧dg c n=dg c k) (fun (k:Nat)=>k) n (⟨Nat.le_refl _,rfl⟩) (wkr rfl rfl) ?_;rintro k hI;obtain ⟨hkn,hk⟩:k≤n∧dg c n=dg c k:=hI;show AW _ _ _ ⟨_,_,_⟩
 refine cSeq<|cSeq ?_
 by_cases hk0:k=0
 ·refine cReg<|mW rfl<|mdF rfl (by omega)<|mW rfl<|mG rfl rfl<|mG rfl rfl<|mG rfl rfl<|mG rfl rfl<|mG rfl rfl<|mG rfl rfl<|mG rfl rfl<|mW rfl<|mT<|cF rfl<|cExit<|tE<|tE<|bE<|tN<|cSeq ?_;have hd:k=dg c n:=by rw [hk,hk0];rfl
  exact cReg<|mv2 rfl rfl<|mV hTT (.d (.one (.row 4 k (qel K c)))) (slR (z:=(k:Int)) (n:=n) rfl rfl rfl rfl rfl rfl (by omega) (by omega))<|mW rfl<|mT<|cRet<|rQ rfl (le_qrow (Nat.le_refl _) hd (fun _ _=>rfl))
 ·refine cReg<|mW rfl<|mdT rfl (by omega)<|mv3 rfl rfl rfl<|mV hTT (.d (.one (.v (.int .i64 ((k-1:Nat):Int))))) (evi ((wr64 (by omega) (by omega)).trans (by omega)))<|mV hTT (.d (.one (.at 4 ((qel K c) (k-1))))) (ixR (el:=(qel K c)) (z:=((k-1:Nat):Int)) (n:=n) rfl rfl rfl rfl rfl rfl (by omega) (by omega)) ?_;refine mv2 rfl rfl<|mY (aRZero (isr K (Rat.num (c (k-1))))) rfl<|mW rfl<|mT<|cCond rfl (fun hc1=>?_) (fun hc1=>?_)
  ·refine cSkip<|tN<|cBlock ?_;have hc0:(c (k-1)).num=0:=of_decide_eq_true hc1;exact cReg<|mW rfl<|mV hTT (.d (.one (.v (.int .i64 ((k-1:Nat):Int))))) (evi ((wr64 (by omega) (by omega)).trans (by omega)))<|mW rfl<|mNil<|bN<|⟨(k-1),⟨by omega,dg_down hk hk0 (Rat.num_eq_zero.1 hc0)⟩,by omega,wkr rfl rfl⟩
  ·refine cExit<|tE<|tE<|bE<|tN<|cSeq ?_;have hd:k=dg c n:=by rw [hk];exact (dg_stop (Or.inr fun e=>of_decide_eq_false hc1 (by show (c (k-1)).num=0;rw [e];rfl))).symm
   exact cReg<|mv2 rfl rfl<|mV hTT (.d (.one (.row 4 k (qel K c)))) (slR (z:=(k:Int)) (n:=n) rfl rfl rfl rfl rfl rfl (by omega) (by omega))<|mW rfl<|mT<|cRet<|rQ rfl (le_qrow (Nat.le_refl _) hd (fun _ _=>rfl))
theorem aQZero:ACall Tryz.prog 96 [] (.d (.agg (qn 64 0))):=by
 exact aN 2 [.cell 0 49] Tryz.func96 rfl<|cR<|mO rfl<|mT<|cR<|mY aROfI rfl<|mZ rfl<|mT<|cRet<|rQ rfl (le_qn (Nat.le_refl _) rfl)
theorem aQOf{a:Lf}{n:Nat}{c:Nat→Int}(ha:IsI a n c)(hb:∀ i,i < n→-9223372036854775808≤c i∧c i≤9223372036854775807:=by decide)(hn:n≤1000000:=by first|decide|omega):ACall Tryz.prog 32 [.one a] (.d (.one (qrow 64 (dg (rc c) (n)) (rc c)))):=by
 obtain ⟨ha,za⟩:=ha;refine ACall.le (dl (DV.l ha) dl0) AV.le.rfl<|aN 21 [.tmp 2] Tryz.func32 rfl<|cR<|mW rfl<|mT<|cR<|mW rfl<|mT<|cSeq<|cSeq<|AW.wk (wkNil 3 3 49 4 (fun _ _=> .v undef) rfl rfl)<|cReg<|mv3 rfl rfl rfl<|mT<|cBlock<|cLoop (ι:=Nat) (fun (i:Nat)=>⟨21,[(0,.d (.one (.row 1 n (fun i _=> .v (.int .i64 (c i)))))),(5,.d (.one (.row 1 n (fun i _=> .v (.int .i64 (c i)))))),(6,.d (.one (.v (.int .i64 (n:Int))))),(7,.d (.one (.v (.int .i64 ((i:Nat):Int))))),(3,.own 3)],[(3,.row 49 4 i (qel 64 (rc c)))]⟩) (fun (i:Nat)=>i≤n) (fun (i:Nat)=>n-i) 0 (Nat.zero_le _) (wk rfl ⟨hs rfl,hs rfl,hs rfl,hs rfl,hs rfl,trivial⟩ ⟨ho' rfl (leo_row0),trivial⟩ rfl) ?_;rintro i hI;have hi:i≤n:=hI;show AW _ _ _ ⟨_,_,_⟩
 refine cR<|mW rfl<|mT<|cSeq<|cCond rfl (fun hc1=>?_) (fun hc1=>?_)
 ·refine cSkip<|tN<|cSeq<|cBlock<|cR<|mv2 rfl rfl<|mT ?_;have hin:i < n:=by have h0:=of_decide_eq_true hc1;omega
  refine cReg<|mv3 rfl rfl rfl<|mV hTT (.d (.one (.at 1 ((fun i _=> .v (.int .i64 (c i))) i)))) (ixR (el:=(fun i _=> .v (.int .i64 (c i)))) (z:=((i:Nat):Int)) (n:=n) rfl rfl rfl rfl rfl rfl (by omega) (by omega)) ?_;exact mW rfl<|mY (aROfI (hb i hin).1 (hb i hin).2) rfl<|mB hTT (.d (.one (.row 4 1 (fun i' j'=>((qn 64 ((c i:Int):Rat))[i'*4+j']?).getD (.v undef))))) rfl<|mA hTT (id:=3) (n:=i) (m:=1) (el:=(qel 64 (rc c))) (el2:=(fun i' j'=>((qn 64 ((c i:Int):Rat))[i'*4+j']?).getD (.v undef))) rfl rfl rfl (by show (i+1)*64≤140737488355328;omega) (by omega) rfl rfl rfl rfl rfl rfl rfl rfl rfl rfl<|mW rfl<|mNil<|bN<|tN<|cReg<|mv2 rfl rfl<|mNil<|⟨(i+1),by omega,by omega,wk rfl ⟨hs rfl,hs rfl,hs rfl,hs' rfl (le_int (inc64 (by omega))),hs rfl,trivial⟩ ⟨ho' rfl (app_q rfl (Nat.le_refl _) (Nat.le_refl _) rfl (fun _ _=>rfl)),trivial⟩ rfl⟩
 ·refine cExit<|tE<|tE<|bE<|tN<|cSeq ?_;have hie:n=i:=by have h0:=of_decide_eq_false hc1;omega
  subst hie;exact AW.wk (wkRow 3 rfl)<|cReg<|mW rfl<|mY aQCut rfl<|mW rfl<|mT<|cRet<|rQ rfl (AV.le.rfl)
theorem aQAt{a:Lf}{K M n k:Nat}{c:Nat→Rat}(ha:IsQP a K n c)(hM:max K 64≤M:=by first|decide|omega):ACall Tryz.prog 173 [.one a,.one (.v (.int .i64 (k:Int)))] (.d (.agg (qn M (c k)))):=by
 obtain ⟨ha,za⟩:=ha;refine ACall.le (dl (DV.l ha) (dl DV.same dl0)) AV.le.rfl<|aN 18 [.cell 4 49] Tryz.func173 rfl<|cR<|mO rfl<|mT<|cSeq<|cR<|mW rfl<|mdF rfl (by omega)<|mv6 rfl rfl rfl rfl rfl rfl<|mT<|cCond rfl (fun hc1=>?_) (fun hc1=>?_)
 ·exact cR<|mY (aQZero) rfl<|mZ rfl<|mT<|cRet<|tR<|rQ rfl (le_qn (by omega) (za k (by have h0:=of_decide_eq_true hc1;omega)).symm)
 ·refine cSkip<|tN<|cSeq ?_;have hkn:k < n:=by have h0:=of_decide_eq_false hc1;omega
  refine cReg<|mv2 rfl rfl<|mV hTT (.d (.one (.at 4 ((qel K c) k)))) (ixR (el:=(qel K c)) (z:=(k:Int)) (n:=n) rfl rfl rfl rfl rfl rfl (by omega) (by omega)) ?_;exact mW rfl<|mZ rfl<|mT<|cRet<|rQ rfl (le_qn (by omega) rfl)
theorem aQAdd{a b:Lf}{K L M n m:Nat}{c d:Nat→Rat}(ha:IsQP a K n c)(hb:IsQP b L m d)(hM:max (max K 64+max L 64+1) 64≤M:=by first|decide|omega)(hn:max n m≤1000000:=by first|decide|omega)(hMM:M≤10000000:=by first|decide|omega):ACall Tryz.prog 163 [.one a,.one b] (.d (.one (qrow M (dg (faddQ c d) (max n m)) (faddQ c d)))):=by
 obtain ⟨ha,za⟩:=ha;obtain ⟨hb,zb⟩:=hb;refine ACall.le (dl (DV.l ha) (dl (DV.l hb) dl0)) AV.le.rfl<|aN 28 [.tmp 4] Tryz.func163 rfl<|cR<|mW rfl<|mT<|cR<|mW rfl<|mT<|cSeq<|cSeq<|AW.wk (wkNil 5 5 49 4 (fun _ _=> .v undef) rfl rfl)<|cReg<|mW rfl<|mT<|cBlock<|cLoop (ι:=Nat) (fun (i:Nat)=>⟨28,[(0,.d (.one (.row 4 n (qel K c)))),(1,.d (.one (.row 4 m (qel L d)))),(6,.d (.one (.v (.int .i64 ((i:Nat):Int))))),(5,.own 5)],[(5,.row 49 4 i (qel M (faddQ c d)))]⟩) (fun (i:Nat)=>i≤(max n m)) (fun (i:Nat)=>(max n m)-i) 0 (Nat.zero_le _) (wk rfl ⟨hs rfl,hs rfl,hs rfl,hs rfl,trivial⟩ ⟨ho' rfl (leo_row0),trivial⟩ rfl) ?_;rintro i hI;have hi:i≤(max n m):=hI;show AW _ _ _ ⟨_,_,_⟩
 refine cSeq<|cR<|mv5 rfl rfl rfl rfl rfl<|mV hTT (.d (.one (.v (.int .i64 ((max n m:Nat):Int))))) (evi (maxNN n m))<|mW rfl<|mT<|cCond rfl (fun hc1=>?_) (fun hc1=>?_)
 ·refine cSkip<|tN<|cSeq<|cBlock ?_;have hin:i < (max n m):=by have h0:=of_decide_eq_true hc1;omega
  exact cReg<|mv3 rfl rfl rfl<|mY (aQAt (isqp (K:=K) (c:=c) za) (M:=(max K 64))) rfl<|mv2 rfl rfl<|mY (aQAt (isqp (K:=L) (c:=d) zb) (M:=(max L 64))) rfl<|mY (aRAddR (isq (max K 64) (c i)) (isq (max L 64) (d i)) (M:=(max ((max K 64)+(max L 64)+1) 64))) rfl<|mB hTT (.d (.one (.row 4 1 (fun i' j'=>((qn (max ((max K 64)+(max L 64)+1) 64) ((c i)+(d i)))[i'*4+j']?).getD (.v undef))))) rfl<|mA hTT (id:=5) (n:=i) (m:=1) (el:=(qel M (faddQ c d))) (el2:=(fun i' j'=>((qn (max ((max K 64)+(max L 64)+1) 64) ((c i)+(d i)))[i'*4+j']?).getD (.v undef))) rfl rfl rfl (by show (i+1)*64≤140737488355328;omega) (by omega) rfl rfl rfl rfl rfl rfl rfl rfl rfl rfl<|mW rfl<|mNil<|bN<|tN<|cReg<|mv3 rfl rfl rfl<|mNil<|⟨(i+1),by omega,by omega,wk rfl ⟨hs rfl,hs rfl,hs' rfl (le_int (inc64 (by omega))),hs rfl,trivial⟩ ⟨ho' rfl (app_q rfl (Nat.le_refl _) (by omega) rfl (fun _ _=>rfl)),trivial⟩ rfl⟩
 ·refine cExit<|tE<|tE<|bE<|tN<|cSeq ?_;have hie:(max n m)=i:=by have h0:=of_decide_eq_false hc1;omega
  subst hie;exact AW.wk (wkRow 5 rfl)<|cReg<|mW rfl<|mY aQCut rfl<|mW rfl<|mT<|cRet<|rQ rfl (AV.le.rfl)
theorem aQScale{a:Lf}{b:List Lf}{K L M n:Nat}{c:Nat→Rat}{q:Rat}(ha:IsQP a K n c)(hq:IsQ b L q)(hM:max (K+L+1) 64≤M:=by first|decide|omega)(hn:n≤1000000:=by first|decide|omega)(hMM:M≤10000000:=by first|decide|omega):ACall Tryz.prog 109 [.one a,.agg b] (.d (.one (qrow M (dg (fsclQ c q) (n)) (fsclQ c q)))):=by
 obtain ⟨ha,za⟩:=ha;refine ACall.le (dl (DV.l ha) (dl (DV.g hq) dl0)) AV.le.rfl<|aN 24 [.tmp 4] Tryz.func109 rfl<|cR<|mO rfl<|mW rfl<|mT<|cR<|mW rfl<|mT<|cSeq<|cSeq<|AW.wk (wkNil 5 5 49 4 (fun _ _=> .v undef) rfl rfl)<|cReg<|mv3 rfl rfl rfl<|mT<|cBlock<|cLoop (ι:=Nat) (fun (i:Nat)=>⟨24,[(0,.d (.one (.row 4 n (qel K c)))),(7,.d (.one (.row 4 n (qel K c)))),(8,.d (.one (.v (.int .i64 (n:Int))))),(3,.ptr 3 0),(9,.d (.one (.v (.int .i64 ((i:Nat):Int))))),(5,.own 5)],[(3,.box 49 (qn L q)),(5,.row 49 4 i (qel M (fsclQ c q)))]⟩) (fun (i:Nat)=>i≤n) (fun (i:Nat)=>n-i) 0 (Nat.zero_le _) (wk rfl ⟨hs rfl,hs rfl,hs rfl,hs rfl,hs rfl,hs rfl,trivial⟩ ⟨ho rfl,ho' rfl (leo_row0),trivial⟩ rfl) ?_;rintro i hI;have hi:i≤n:=hI;show AW _ _ _ ⟨_,_,_⟩
 refine cR<|mW rfl<|mT<|cSeq<|cCond rfl (fun hc1=>?_) (fun hc1=>?_)
 ·refine cSkip<|tN<|cSeq<|cBlock<|cR<|mv2 rfl rfl<|mT ?_;have hin:i < n:=by have h0:=of_decide_eq_true hc1;omega
  refine cDk 8<|.cons (OpS.V _ rfl)<|.cons (OpS.V _ rfl)<|.cons (OpS.V _ rfl)<|.cons (OpS.V (.d (.one (.at 4 ((qel K c) i)))) (ixR (el:=(qel K c)) (z:=((i:Nat):Int)) (n:=n) rfl rfl rfl rfl rfl rfl (by omega) (by omega))) ?_;exact oV rfl<|oV rfl<|oC (aRMulR (isq K (c i)) (isq L q) (M:=(max (K+L+1) 64))) rfl<|.cons (OpS.B _ rfl)<|.nil<|mA hTT (id:=5) (n:=i) (m:=1) (el:=(qel M (fsclQ c q))) (el2:=(fun i' j'=>((qn (max (K+L+1) 64) ((c i)*q))[i'*4+j']?).getD (.v undef))) rfl rfl rfl (by show (i+1)*64≤140737488355328;omega) (by omega) rfl rfl rfl rfl rfl rfl rfl rfl rfl rfl<|mW rfl<|mNil<|bN<|tN<|cReg<|mv2 rfl rfl<|mNil<|⟨(i+1),by omega,by omega,wk rfl ⟨hs rfl,hs rfl,hs rfl,hs rfl,hs' rfl (le_int (inc64 (by omega))),hs rfl,trivial⟩ ⟨ho rfl,ho' rfl (app_q rfl (Nat.le_refl _) (by omega) rfl (fun _ _=>rfl)),trivial⟩ rfl⟩
 ·refine cExit<|tE<|tE<|bE<|tN<|cSeq ?_;have hie:n=i:=by have h0:=of_decide_eq_false hc1;omega
  subst hie;exact AW.wk (wkRow 5 rfl)<|cReg<|mW rfl<|mY aQCut rfl<|mW rfl<|mT<|cRet<|rQ rfl (AV.le.rfl)
def upd(c:Nat→Int)(i:Nat):Nat→Int:=fun p=>if p < i then c p else 0
theorem upd_self{c:Nat→Int}{i:Nat}:c i=upd c (i+1) i:=(if_pos (Nat.lt_succ_self i)).symm
theorem upd_ne{c:Nat→Int}{i p:Nat}(h:p≠i):upd c i p=upd c (i+1) p:=by
 unfold upd
 by_cases h1:p < i
 ·rw [if_pos h1,if_pos (by omega)]
 ·rw [if_neg h1,if_neg (by omega)]
theorem fx_pos{n k:Nat}{f:Nat→Bool×List Nat}(h:k < n):fx n f k=f k:=if_pos h
theorem fx_neg{n k:Nat}{f:Nat→Bool×List Nat}(h:¬ k < n):fx n f k=(false,[]):=if_neg h
theorem nil_at{K:Nat}:AV.le (.d (.agg [.v (.bool false),.v (.slice none 0 0)])) (.d (.agg [.v (.bool false),lr K []])):=le_agg fun B w cs h=>match cs,h with | [_,_],⟨h1,h2,h3⟩=>⟨h1,nil_lr K (fun _=>none) B w _ h2,h3⟩
theorem aPAt{K n k:Nat}{f:Nat→Bool×List Nat}:ACall Tryz.prog 180 [.one (arow K n f),.one (.v (.int .i64 (k:Int)))] (.d (.agg [.v (.bool (fx n f k).1),lr K (fx n f k).2])):=by
 refine aN 14 [.cell 4 36] Tryz.func180 rfl<|cR<|mO rfl<|mT<|cSeq<|cR<|mv4 rfl rfl rfl rfl<|mT<|cCond rfl (fun hc1=>?_) (fun hc1=>?_)
 ·refine cSeq ?_;have hkn:k < n:=by have h0:=of_decide_eq_true hc1;omega
  refine cReg<|mv2 rfl rfl<|mV hTT (.d (.one (.at 2 ((ael K f) k)))) (ixR (el:=(ael K f)) (z:=(k:Int)) (n:=n) rfl rfl rfl rfl rfl rfl (by omega) (by omega)) ?_;exact mW rfl<|mZ rfl<|mT<|cRet<|tR<|rQ rfl (by rw [fx_pos (by have h0:=of_decide_eq_true hc1;omega)];exact AV.le.rfl)
 ·exact cSkip<|tN<|cR<|mW rfl<|mZ rfl<|mT<|cRet<|rQ rfl (by rw [fx_neg (by have h0:=of_decide_eq_false hc1;omega)];exact nil_at)
theorem aEach{f:FuncId}{nc:Nat}{caps:Nat→Lf}{n K:Nat}{c:Nat→Int}(hf:∀ i,i < n→ACall Tryz.prog f (.one (.v (.int .i64 (i:Int))) ::capsD caps 0 nc) (.d (.agg (zn K (c i)))))(hn:n≤1000000:=by first|decide|omega):ACall Tryz.prog 149 [.one (.v (.int .i64 (n:Int))),.one (.fn f nc caps)] (.d (.one (prow K (dg c n) c))):=by
 refine aN 23 [.tmp 4] Tryz.func149 rfl<|cR<|mW rfl<|mT<|cR<|mW rfl<|mN hTT (.row 36 2 n (fun _ j=> .v ((([Value.bool false,Value.slice none 0 0]:List Value)[j]?).getD undef))) (mkO (zl:=(n:Int)) (zc:=(n:Int)) (bts:=32) rfl rfl rfl rfl rfl (by omega) (by omega) rfl rfl rfl (by omega) (by omega) rfl) rfl rfl<|mW rfl<|mT<|cSeq<|cR<|mv3 rfl rfl rfl<|mT<|cBlock<|cLoop (ι:=Nat) (fun (i:Nat)=>⟨23,[(1,.d (.one (.fn f nc caps))),(10,.d (.one (.v (.int .i64 (n:Int))))),(11,.d (.one (.v (.int .i64 ((i:Nat):Int))))),(5,.own 8)],[(8,.row 36 2 n (zel K (upd c i)))]⟩) (fun (i:Nat)=>i≤n) (fun (i:Nat)=>n-i) 0 (Nat.zero_le _) (wk rfl ⟨hs rfl,hs rfl,hs rfl,hs rfl,trivial⟩ ⟨ho' rfl (leo_zero (fun i _=>if_neg (Nat.not_lt_zero _))),trivial⟩ rfl) ?_;rintro i hI;have hi:i≤n:=hI;show AW _ _ _ ⟨_,_,_⟩
 refine cR<|mW rfl<|mT<|cSeq<|cCond rfl (fun hc1=>?_) (fun hc1=>?_)
 ·refine cSkip<|tN<|cSeq<|cBlock<|cR<|mv2 rfl rfl<|mT ?_;have hin:i < n:=by have h0:=of_decide_eq_true hc1;omega
  exact cReg<|mv4 rfl rfl rfl rfl<|mC (hf i hin) rfl rfl rfl<|mV hTT (.eptr 8 2 i 0) (ixO (z:=((i:Nat):Int)) (n:=n) rfl rfl rfl rfl rfl rfl rfl (by omega) (by omega))<|mZ rfl<|mNil<|bN<|tN<|cReg<|mv2 rfl rfl<|mNil<|⟨(i+1),by omega,by omega,wk rfl ⟨hs rfl,hs rfl,hs' rfl (le_int (inc64 (by omega))),hs rfl,trivial⟩ ⟨ho' rfl (st_z (Nat.le_refl _) (Nat.le_refl _) upd_self (fun p _ hp=>upd_ne hp)),trivial⟩ rfl⟩
 ·refine cExit<|tE<|tE<|bE<|tN<|cSeq ?_;have hie:n=i:=by have h0:=of_decide_eq_false hc1;omega
  subst hie;exact AW.wk (wkRow 8 rfl)<|cView 5 (.d (.one (.row 2 n (zel K c)))) rfl (le_one (prow_le (Nat.le_refl _) (fun i hi=>if_pos hi)))<|cReg<|mW rfl<|mY aPCut rfl<|mW rfl<|mT<|cRet<|rQ rfl (AV.le.rfl)
theorem aPAdd1{K L M n m k:Nat}{fa fb:Nat→Bool×List Nat}{c d:Nat→Int}(ea:∀ i,i < n→fzv fa i=c i)(za:∀ i,n≤i→c i=0)(eb:∀ i,i < m→fzv fb i=d i)(zb:∀ i,m≤i→d i=0)(hM:max K L+1≤M)(hMM:M≤1000000000):ACall Tryz.prog 179 [.one (.v (.int .i64 (k:Int))),.one (.at 1 (fun q=>(([.row 2 n (ael K fa)]:List Lf)[0+q]?).getD (.v undef))),.one (.at 1 (fun q=>(([.row 2 m (ael L fb)]:List Lf)[0+q]?).getD (.v undef)))] (.d (.agg (zn M (fadd c d k)))):=by
 exact aN 12 [.cell 4 36] Tryz.func179 rfl<|cR<|mO rfl<|mT<|cSeq<|cDk 7<|oV rfl<|.cons (OpS.V _ rfl)<|oC aPAt rfl<|oV rfl<|.cons (OpS.V _ rfl)<|oC aPAt rfl<|oC (aAdd ⟨_,_,fun _ _ _ h=>h,fx_z ea za⟩ ⟨_,_,fun _ _ _ h=>h,fx_z eb zb⟩ (M:=(max K L+1)) (by omega) (by omega) (by omega)) rfl<|.nil<|mZ rfl<|mT<|cRet<|rQ rfl (le_zn hM rfl)
theorem aPAdd{a b:Lf}{K L M n m:Nat}{c d:Nat→Int}(ha:IsP a K n c)(hb:IsP b L m d)(hM:max K L+1≤M:=by first|decide|omega)(hn:max n m≤1000000:=by first|decide|omega)(hMM:M≤1000000000:=by first|decide|omega):ACall Tryz.prog 168 [.one a,.one b] (.d (.one (prow M (dg (fadd c d) (max n m)) (fadd c d)))):=by
 obtain ⟨⟨fa,ha,ea⟩,za⟩:=ha;obtain ⟨⟨fb,hb,eb⟩,zb⟩:=hb;exact ACall.le (dl (DV.l ha) (dl (DV.l hb) dl0)) AV.le.rfl<|aN 12 [.tmp 4] Tryz.func168 rfl<|cR<|mO rfl<|mO rfl<|mW rfl<|mT<|cSeq<|AW.wk (wkBox 2 rfl)<|AW.wk (wkBox 3 rfl)<|cReg<|mv4 rfl rfl rfl rfl<|mV hTT (.d (.one (.v (.int .i64 ((max n m:Nat):Int))))) (evi (maxNN n m))<|mW rfl<|mY (aEach (K:=M) (c:=(fadd c d)) (fun i hi=>aPAdd1 ea za eb zb hM hMM)) rfl<|mW rfl<|mT<|cRet<|rQ rfl (AV.le.rfl)
theorem aPSub1{K L M n m k:Nat}{fa fb:Nat→Bool×List Nat}{c d:Nat→Int}(ea:∀ i,i < n→fzv fa i=c i)(za:∀ i,n≤i→c i=0)(eb:∀ i,i < m→fzv fb i=d i)(zb:∀ i,m≤i→d i=0)(hM:max K L+1≤M)(hMM:M≤1000000000):ACall Tryz.prog 182 [.one (.v (.int .i64 (k:Int))),.one (.at 1 (fun q=>(([.row 2 n (ael K fa)]:List Lf)[0+q]?).getD (.v undef))),.one (.at 1 (fun q=>(([.row 2 m (ael L fb)]:List Lf)[0+q]?).getD (.v undef)))] (.d (.agg (zn M (fsub c d k)))):=by
 exact aN 12 [.cell 4 36] Tryz.func182 rfl<|cR<|mO rfl<|mT<|cSeq<|cDk 7<|oV rfl<|.cons (OpS.V _ rfl)<|oC aPAt rfl<|oV rfl<|.cons (OpS.V _ rfl)<|oC aPAt rfl<|oC (aSub ⟨_,_,fun _ _ _ h=>h,fx_z ea za⟩ ⟨_,_,fun _ _ _ h=>h,fx_z eb zb⟩ (M:=(max K L+1)) (by omega) (by omega) (by omega)) rfl<|.nil<|mZ rfl<|mT<|cRet<|rQ rfl (le_zn hM rfl)
theorem aPSub{a b:Lf}{K L M n m:Nat}{c d:Nat→Int}(ha:IsP a K n c)(hb:IsP b L m d)(hM:max K L+1≤M:=by first|decide|omega)(hn:max n m≤1000000:=by first|decide|omega)(hMM:M≤1000000000:=by first|decide|omega):ACall Tryz.prog 170 [.one a,.one b] (.d (.one (prow M (dg (fsub c d) (max n m)) (fsub c d)))):=by
 obtain ⟨⟨fa,ha,ea⟩,za⟩:=ha;obtain ⟨⟨fb,hb,eb⟩,zb⟩:=hb;exact ACall.le (dl (DV.l ha) (dl (DV.l hb) dl0)) AV.le.rfl<|aN 12 [.tmp 4] Tryz.func170 rfl<|cR<|mO rfl<|mO rfl<|mW rfl<|mT<|cSeq<|AW.wk (wkBox 2 rfl)<|AW.wk (wkBox 3 rfl)<|cReg<|mv4 rfl rfl rfl rfl<|mV hTT (.d (.one (.v (.int .i64 ((max n m:Nat):Int))))) (evi (maxNN n m))<|mW rfl<|mY (aEach (K:=M) (c:=(fsub c d)) (fun i hi=>aPSub1 ea za eb zb hM hMM)) rfl<|mW rfl<|mT<|cRet<|rQ rfl (AV.le.rfl)
theorem aPNeg1{K n k:Nat}{fa:Nat→Bool×List Nat}{c:Nat→Int}(ea:∀ i,i < n→fzv fa i=c i)(hk:k < n)(hK:K≤1000000000):ACall Tryz.prog 172 [.one (.v (.int .i64 (k:Int))),.one (.at 1 (fun q=>(([.row 2 n (ael K fa)]:List Lf)[0+q]?).getD (.v undef)))] (.d (.agg (zn K (fneg c k)))):=by
 refine aN 9 [.cell 3 36] Tryz.func172 rfl<|cR<|mO rfl<|mT<|cR<|mv2 rfl rfl<|mV hTT (.d (.one (.at 2 ((ael K fa) k)))) (ixR (el:=(ael K fa)) (z:=(k:Int)) (n:=n) rfl rfl rfl rfl rfl rfl (by omega) (by omega)) ?_;exact mW rfl<|mY (aNeg ⟨_,_,fun _ _ _ h=>h,ea k (by omega)⟩ (by omega)) rfl<|mZ rfl<|mT<|cRet<|rQ rfl (le_zn (Nat.le_refl _) rfl)
theorem aPNeg{a:Lf}{K n:Nat}{c:Nat→Int}(ha:IsP a K n c)(hn:n≤1000000:=by first|decide|omega)(hK:K≤1000000000:=by first|decide|omega):ACall Tryz.prog 159 [.one a] (.d (.one (prow K (dg (fneg c) (n)) (fneg c)))):=by
 obtain ⟨⟨fa,ha,ea⟩,za⟩:=ha;exact ACall.le (dl (DV.l ha) dl0) AV.le.rfl<|aN 7 [.tmp 2] Tryz.func159 rfl<|cR<|mO rfl<|mW rfl<|mT<|cSeq<|AW.wk (wkBox 1 rfl)<|cReg<|mv3 rfl rfl rfl<|mY (aEach (K:=K) (c:=(fneg c)) (fun i hi=>aPNeg1 ea hi hK)) rfl<|mW rfl<|mT<|cRet<|rQ rfl (AV.le.rfl)
theorem aPScale1{K n k:Nat}{fa:Nat→Bool×List Nat}{c:Nat→Int}(ea:∀ i,i < n→fzv fa i=c i){L M:Nat}{s:Bool}{xs:List Nat}{y:Int}(hy:zv s (val xs)=y)(hk:k < n)(hM:K+L≤M)(hMM:M≤1000000000):ACall Tryz.prog 181 [.one (.v (.int .i64 (k:Int))),.one (.at 1 (fun q=>(([.row 2 n (ael K fa)]:List Lf)[0+q]?).getD (.v undef))),.one (.at 2 (fun q=>(([.v (.bool s),lr L xs]:List Lf)[0+q]?).getD (.v undef)))] (.d (.agg (zn M (fscl c y k)))):=by
 refine aN 11 [.cell 4 36] Tryz.func181 rfl<|cR<|mO rfl<|mT<|cSeq<|cDk 6<|oV rfl<|.cons (OpS.V _ rfl)<|.cons (OpS.V (.d (.one (.at 2 ((ael K fa) k)))) (ixR (el:=(ael K fa)) (z:=(k:Int)) (n:=n) rfl rfl rfl rfl rfl rfl (by omega) (by omega))) ?_;exact oV rfl<|oV rfl<|oC (aMul ⟨_,_,fun _ _ _ h=>h,ea k (by omega)⟩ ⟨_,_,fun _ _ _ h=>h,hy⟩ (M:=(K+L)) (by omega) (by omega) (by omega)) rfl<|.nil<|mZ rfl<|mT<|cRet<|rQ rfl (le_zn hM rfl)
theorem aPScale{a:Lf}{b:List Lf}{K L M n:Nat}{c:Nat→Int}{y:Int}(ha:IsP a K n c)(hb:IsZ b L y)(hM:K+L≤M:=by first|decide|omega)(hn:n≤1000000:=by first|decide|omega)(hMM:M≤1000000000:=by first|decide|omega):ACall Tryz.prog 169 [.one a,.agg b] (.d (.one (prow M (dg (fscl c y) (n)) (fscl c y)))):=by
 obtain ⟨⟨fa,ha,ea⟩,za⟩:=ha;obtain ⟨s,xs,hb,hy⟩:=hb;exact ACall.le (dl (DV.l ha) (dl (DV.z hb) dl0)) AV.le.rfl<|aN 9 [.tmp 4] Tryz.func169 rfl<|cR<|mO rfl<|mO rfl<|mW rfl<|mT<|cSeq<|AW.wk (wkBox 2 rfl)<|AW.wk (wkBox 3 rfl)<|cReg<|mv3 rfl rfl rfl<|mY (aEach (K:=M) (c:=(fscl c y)) (fun i hi=>aPScale1 ea hy hi hM hMM)) rfl<|mW rfl<|mT<|cRet<|rQ rfl (AV.le.rfl)
theorem aPDer1{K n k:Nat}{fa:Nat→Bool×List Nat}{c:Nat→Int}(ea:∀ i,i < n→fzv fa i=c i){M:Nat}(hk:k+1 < n)(hn:n≤1000000)(hM:K+2≤M)(hMM:M≤1000000000):ACall Tryz.prog 150 [.one (.v (.int .i64 (k:Int))),.one (.at 1 (fun q=>(([.row 2 n (ael K fa)]:List Lf)[0+q]?).getD (.v undef)))] (.d (.agg (zn M (fder c k)))):=by
 refine aN 13 [.cell 3 36] Tryz.func150 rfl<|cR<|mO rfl<|mT<|cSeq<|cDk 9<|oV rfl<|.cons (OpS.V _ rfl)<|.cons (OpS.V (.d (.one (.v (.int .i64 ((k+1:Nat):Int))))) (evi (inc64 (by omega))))<|.cons (OpS.V (.d (.one (.at 2 ((ael K fa) (k+1))))) (ixR (el:=(ael K fa)) (z:=((k+1:Nat):Int)) (n:=n) rfl rfl rfl rfl rfl rfl (by omega) (by omega))) ?_;exact oV rfl<|.cons (OpS.V _ rfl)<|.cons (OpS.V (.d (.one (.v (.int .i64 ((k+1:Nat):Int))))) (evi (inc64 (by omega))))<|oC aOf rfl<|oC (aMul ⟨_,_,fun _ _ _ h=>h,ea (k+1) (by omega)⟩ (isz 2 ((k+1:Nat):Int)) (M:=(K+2)) (by omega) (by omega) (by decide)) rfl<|.nil<|mZ rfl<|mT<|cRet<|rQ rfl (le_zn hM rfl)
theorem aPDer{a:Lf}{K M n:Nat}{c:Nat→Int}(ha:IsP a K n c)(hM:K+2≤M:=by first|decide|omega)(hn:n≤1000000:=by first|decide|omega)(hMM:M≤1000000000:=by first|decide|omega):ACall Tryz.prog 127 [.one a] (.d (.one (prow M (dg (fder c) (n-1)) (fder c)))):=by
 obtain ⟨⟨fa,ha,ea⟩,za⟩:=ha;refine ACall.le (dl (DV.l ha) dl0) AV.le.rfl<|aN 9 [.tmp 2] Tryz.func127 rfl<|cR<|mO rfl<|mW rfl<|mT<|cSeq<|AW.wk (wkBox 1 rfl)<|cReg<|mv2 rfl rfl<|mV hTT (.d (.one (.v (.int .i64 ((n:Int)-1))))) (evi (wr64 (by omega) (by omega))) ?_;refine mV hTT (.d (.one (.v (.int .i64 ((n-1:Nat):Int))))) (evi (by rw [if_pos rfl];split <;> omega)) ?_;exact mW rfl<|mY (aEach (K:=M) (c:=(fder c)) (fun i hi=>aPDer1 ea (by omega) hn hM hMM)) rfl<|mW rfl<|mT<|cRet<|rQ rfl (AV.le.rfl)
theorem aPNorm{a:Lf}{K n:Nat}{c:Nat→Int}(ha:IsP a K n c)(hn:n≤1000000:=by first|decide|omega)(hK:K≤1000000000:=by first|decide|omega):ACall Tryz.prog 99 [.one a] (.d (.one (prow K (dg c (n)) c))):=by
 obtain ⟨⟨fa,ha,ea⟩,za⟩:=ha;refine ACall.le (dl (DV.l ha) dl0) AV.le.rfl<|aN 24 [.tmp 2] Tryz.func99 rfl<|cR<|mW rfl<|mT<|cR<|mv2 rfl rfl<|mN hTT (.row 36 2 n (fun _ j=> .v ((([Value.bool false,Value.slice none 0 0]:List Value)[j]?).getD undef))) (mkO (zl:=(n:Int)) (zc:=(n:Int)) (bts:=32) rfl rfl rfl rfl rfl (by omega) (by omega) rfl rfl rfl (by omega) (by omega) rfl) rfl rfl<|mW rfl<|mT<|cSeq<|cR<|mv3 rfl rfl rfl<|mT<|cBlock<|cLoop (ι:=Nat) (fun (i:Nat)=>⟨24,[(9,.d (.one (.row 2 n (ael K fa)))),(10,.d (.one (.v (.int .i64 (n:Int))))),(11,.d (.one (.v (.int .i64 ((i:Nat):Int))))),(3,.own 8)],[(8,.row 36 2 n (zel K (upd c i)))]⟩) (fun (i:Nat)=>i≤n) (fun (i:Nat)=>n-i) 0 (Nat.zero_le _) (wk rfl ⟨hs rfl,hs rfl,hs rfl,hs rfl,trivial⟩ ⟨ho' rfl (leo_zero (fun i _=>if_neg (Nat.not_lt_zero _))),trivial⟩ rfl) ?_;rintro i hI;have hi:i≤n:=hI;show AW _ _ _ ⟨_,_,_⟩
 refine cR<|mW rfl<|mT<|cSeq<|cCond rfl (fun hc1=>?_) (fun hc1=>?_)
 ·refine cSkip<|tN<|cSeq<|cBlock<|cSeq ?_;have hin:i < n:=by have h0:=of_decide_eq_true hc1;omega
  refine cReg<|mW rfl<|mV hTT (.d (.one (.at 2 ((ael K fa) i)))) (ixR (el:=(ael K fa)) (z:=((i:Nat):Int)) (n:=n) rfl rfl rfl rfl rfl rfl (by omega) (by omega)) ?_;exact mW rfl<|mO rfl<|mW rfl<|mZ rfl<|mT<|cReg<|mv3 rfl rfl rfl<|mY (aNorm ⟨_,_,fun _ _ _ h=>h,ea i (by omega)⟩ (by omega)) rfl<|mV hTT (.eptr 8 2 i 0) (ixO (z:=((i:Nat):Int)) (n:=n) rfl rfl rfl rfl rfl rfl rfl (by omega) (by omega))<|mZ rfl<|mNil<|bN<|tN<|cReg<|mv2 rfl rfl<|mNil<|⟨(i+1),by omega,by omega,wk rfl ⟨hs rfl,hs rfl,hs' rfl (le_int (inc64 (by omega))),hs rfl,trivial⟩ ⟨ho' rfl (st_z (Nat.le_refl _) (Nat.le_refl _) upd_self (fun p _ hp=>upd_ne hp)),trivial⟩ rfl⟩
 ·refine cExit<|tE<|tE<|bE<|tN<|cSeq ?_;have hie:n=i:=by have h0:=of_decide_eq_false hc1;omega
  subst hie;exact AW.wk (wkRow 8 rfl)<|cView 3 (.d (.one (.row 2 n (zel K c)))) rfl (le_one (prow_le (Nat.le_refl _) (fun i hi=>if_pos hi)))<|cReg<|mW rfl<|mY aPCut rfl<|mW rfl<|mT<|cRet<|rQ rfl (AV.le.rfl)
theorem aPMul{a b:Lf}{K L M n m D:Nat}{c d:Nat→Int}(ha:IsP a K n c)(hb:IsP b L m d)(hD:n≤D:=by omega)(hm:m≤1000:=by omega)(hM:K+L+1+D*1000≤M:=by first|decide|omega)(hDD:D≤1000:=by decide)(hMM:M≤1000000000:=by first|decide|omega):ACall Tryz.prog 171 [.one a,.one b] (.d (.one (prow M (dg (conv c d) (n+m)) (conv c d)))):=by
 obtain ⟨⟨fa,ha,ea⟩,za⟩:=ha;obtain ⟨⟨fb,hb,eb⟩,zb⟩:=hb;refine ACall.le (dl (DV.l ha) (dl (DV.l hb) dl0)) AV.le.rfl<|aN 62 [.tmp 4] Tryz.func171 rfl<|cR<|mW rfl<|mT<|cR<|mW rfl<|mY (aPNorm (⟨⟨fa,fun _ _ _ h=>h,ea⟩,za⟩:IsP (arow K n fa) K n c)) rfl<|mW rfl<|mY (aPNorm (⟨⟨fb,fun _ _ _ h=>h,eb⟩,zb⟩:IsP (arow L m fb) L m d)) rfl<|mv2 rfl rfl<|mT<|cSeq<|cSeq ?_;have hla:=dg_le c n;have hlb:=dg_le d m
 by_cases h0a:(dg c n)=0
 ·exact cReg<|mv2 rfl rfl<|mbT rfl (by rw [h0a];rfl)<|mW rfl<|mG rfl rfl<|mG rfl rfl<|mG rfl rfl<|mW rfl<|mT<|cT rfl<|cR<|mW rfl<|mT<|cRet<|tR<|rQ rfl (nil_prow' (dg_zero (conv_l0 (dg_all za h0a)) _))
 ·by_cases h0b:(dg d m)=0
  ·exact cReg<|mv2 rfl rfl<|mbF rfl (beq_eq_false_iff_ne.2 fun e=>h0a (by omega))<|mv3 rfl rfl rfl<|mbT rfl (by rw [h0b];rfl)<|mW rfl<|mT<|cT rfl<|cR<|mW rfl<|mT<|cRet<|tR<|rQ rfl (nil_prow' (dg_zero (conv_r0 (dg_all zb h0b)) _))
  ·refine cReg<|mv2 rfl rfl<|mbF rfl (beq_eq_false_iff_ne.2 fun e=>h0a (by omega))<|mv3 rfl rfl rfl<|mbF rfl (beq_eq_false_iff_ne.2 fun e=>h0b (by omega))<|mW rfl<|mT<|cFs rfl<|cR<|mv4 rfl rfl rfl rfl<|mV hTT (.d (.one (.v (.int .i64 ((dg c n+dg d m:Nat):Int))))) (evi ((wr64 (by omega) (by omega)).trans (by omega)))<|mV hTT (.d (.one (.v (.int .i64 ((dg c n+dg d m-1:Nat):Int))))) (evi ((wr64 (by omega) (by omega)).trans (by omega)))<|mN hTT (.row 36 2 (dg c n+dg d m-1) (fun _ j=> .v ((([Value.bool false,Value.slice none 0 0]:List Value)[j]?).getD undef))) (mkO (zl:=((dg c n+dg d m-1:Nat):Int)) (zc:=((dg c n+dg d m-1:Nat):Int)) (bts:=32) rfl rfl rfl rfl rfl (by omega) (by omega) rfl rfl rfl (by omega) (by omega) rfl) rfl rfl<|mW rfl<|mT<|cSeq<|cR<|mv3 rfl rfl rfl<|mT<|cBlock<|cLoop (ι:=Nat) (fun (i:Nat)=>⟨62,[(1,.d (.one (.row 2 (dg d m) (zel L d)))),(5,.own 28),(29,.d (.one (.row 2 (dg c n) (zel K c)))),(30,.d (.one (.v (.int .i64 ((dg c n:Nat):Int))))),(31,.d (.one (.v (.int .i64 ((i:Nat):Int)))))],[(28,.row 36 2 (dg c n+dg d m-1) (zel (K+L+1+i*1000) (cv c d i)))]⟩) (fun (i:Nat)=>i≤dg c n) (fun (i:Nat)=>dg c n-i) 0 (Nat.zero_le _) (wk rfl ⟨hs rfl,hs rfl,hs rfl,hs rfl,hs rfl,trivial⟩ ⟨ho' rfl (leo_zero (fun _ _=>rfl)),trivial⟩ rfl) ?_;rintro i hI;have hi:i≤dg c n:=hI;show AW _ _ _ ⟨_,_,_⟩
   refine cR<|mW rfl<|mT<|cSeq<|cCond rfl (fun hc1=>?_) (fun hc1=>?_)
   ·refine cSkip<|tN<|cSeq<|cBlock<|cSeq ?_;have hia:i < dg c n:=by have h0:=of_decide_eq_true hc1;omega
    refine cReg<|mW rfl<|mV hTT (.d (.one (.at 2 ((zel K c) i)))) (ixR (el:=(zel K c)) (z:=((i:Nat):Int)) (n:=(dg c n)) rfl rfl rfl rfl rfl rfl (by omega) (by omega)) ?_;refine mW rfl<|mO rfl<|mW rfl<|mZ rfl<|mT<|cR<|mv3 rfl rfl rfl<|mT<|cBlock<|cLoop (ι:=Nat) (fun (k:Nat)=>⟨62,[(1,.d (.one (.row 2 (dg d m) (zel L d)))),(5,.own 28),(29,.d (.one (.row 2 (dg c n) (zel K c)))),(30,.d (.one (.v (.int .i64 ((dg c n:Nat):Int))))),(31,.d (.one (.v (.int .i64 ((i:Nat):Int))))),(6,.d (.one (.v (.int .i64 ((i:Nat):Int))))),(7,.ptr 7 0),(36,.d (.one (.row 2 (dg d m) (zel L d)))),(37,.d (.one (.v (.int .i64 ((dg d m:Nat):Int))))),(38,.d (.one (.v (.int .i64 ((k:Nat):Int)))))],[(7,.box 36 (zn K (c i))),(28,.row 36 2 (dg c n+dg d m-1) (zel (K+L+1+i*1000+k) (cvk c d i k)))]⟩) (fun (k:Nat)=>k≤dg d m) (fun (k:Nat)=>dg d m-k) 0 (Nat.zero_le _) (wk rfl ⟨hs rfl,hs rfl,hs rfl,hs rfl,hs rfl,hs rfl,hs rfl,hs rfl,hs rfl,hs rfl,trivial⟩ ⟨ho rfl,ho' rfl (leo_prow (by omega) (fun j _=>cvk_zero.symm)),trivial⟩ rfl) ?_;rintro k hI;have hk:k≤dg d m:=hI;show AW _ _ _ ⟨_,_,_⟩
    refine cR<|mW rfl<|mT<|cSeq<|cCond rfl (fun hc2=>?_) (fun hc2=>?_)
    ·refine cSkip<|tN<|cSeq<|cBlock<|cSeq ?_;have hkb:k < dg d m:=by have h0:=of_decide_eq_true hc2;omega
     refine cReg<|mW rfl<|mV hTT (.d (.one (.at 2 ((zel L d) k)))) (ixR (el:=(zel L d)) (z:=((k:Nat):Int)) (n:=(dg d m)) rfl rfl rfl rfl rfl rfl (by omega) (by omega)) ?_;exact mW rfl<|mO rfl<|mW rfl<|mZ rfl<|mT<|cDk 15<|.cons (OpS.V _ rfl)<|.cons (OpS.V _ rfl)<|.cons (OpS.V _ rfl)<|.cons (OpS.V (.d (.one (.v (.int .i64 ((i+k:Nat):Int))))) (evi ((wr64 (by omega) (by omega)).trans (by omega))))<|.cons (OpS.V _ rfl)<|.cons (OpS.V _ rfl)<|.cons (OpS.V _ rfl)<|.cons (OpS.V (.d (.one (.v (.int .i64 ((i+k:Nat):Int))))) (evi ((wr64 (by omega) (by omega)).trans (by omega))))<|.cons (OpS.V (.eptr 28 2 (i+k) 0) (ixO (z:=((i+k:Nat):Int)) (n:=(dg c n+dg d m-1)) rfl rfl rfl rfl rfl rfl rfl (by omega) (by omega)))<|oV rfl<|oV rfl<|oV rfl<|oC (aMul (isz K (c i)) (isz L (d k)) (M:=(K+L))) rfl<|oC (aAdd (isz (K+L+1+i*1000+k) (cvk c d i k (i+k))) (isz (K+L) ((c i)*(d k))) (M:=(max (K+L+1+i*1000+k) (K+L)+1))) rfl<|.cons (OpS.V (.eptr 28 2 (i+k) 0) (ixO (z:=((i+k:Nat):Int)) (n:=(dg c n+dg d m-1)) rfl rfl rfl rfl rfl rfl rfl (by omega) (by omega)))<|.nil<|mZ rfl<|mNil<|bN<|tN<|cReg<|mv2 rfl rfl<|mNil<|⟨(k+1),by omega,by omega,wk rfl ⟨hs rfl,hs rfl,hs rfl,hs rfl,hs rfl,hs rfl,hs rfl,hs rfl,hs rfl,hs' rfl (le_int (inc64 (by omega))),trivial⟩ ⟨ho rfl,ho' rfl (st_z (by omega) (by omega) cvk_step (fun p _ hp=>cvk_other hp)),trivial⟩ rfl⟩
    ·refine cExit<|tE<|tE<|bE<|bN<|tN ?_;have hke:dg d m=k:=by have h0:=of_decide_eq_false hc2;omega
     subst hke;exact cReg<|mv2 rfl rfl<|mNil<|⟨(i+1),by omega,by omega,wk rfl ⟨hs rfl,hs rfl,hs rfl,hs rfl,hs' rfl (le_int (inc64 (by omega))),trivial⟩ ⟨ho' rfl (leo_prow (by omega) (fun j _=>cvk_end (dg_z zb))),trivial⟩ rfl⟩
   ·refine cExit<|tE<|tE<|bE<|tN<|cSeq ?_;have hie:dg c n=i:=by have h0:=of_decide_eq_false hc1;omega
    subst hie;exact AW.wk (wkRow 28 rfl)<|cView 5 (.d (.one (.row 2 (dg c n+dg d m-1) (zel M (conv c d))))) rfl (le_one (prow_le (by omega) (fun j _=>cv_conv (dg_z za))))<|cReg<|mW rfl<|mY aPCut rfl<|mW rfl<|mT<|cRet<|rQ rfl (le_prow (Nat.le_refl _) (dg_eq (fun j hj=>conv_beyond (dg_z za) (dg_z zb) (by omega)) (fun j hj=>conv_beyond za zb (by omega))) (fun _ _=>rfl))
theorem aQMul{a b:Lf}{K L M n m D:Nat}{c d:Nat→Rat}(ha:IsQP a K n c)(hb:IsQP b L m d)(hD:n≤D)(hm:m≤1000)(hM:(D+1)*(K+L+66)≤M:=by first|decide|omega)(hDD:D≤1000:=by decide)(hMM:M≤10000000:=by first|decide|omega):ACall Tryz.prog 95 [.one a,.one b] (.d (.one (qrow M (dg (conv c d) (n+m)) (conv c d)))):=by
 obtain ⟨ha,za⟩:=ha;obtain ⟨hb,zb⟩:=hb;refine ACall.le (dl (DV.l ha) (dl (DV.l hb) dl0)) AV.le.rfl ?_;obtain ⟨R,hR0,hR1,hRM⟩:∃ R:Nat→Nat,64≤R 0∧(∀ i,R i+(K+L+66)≤R (i+1))∧∀ i,i≤n→R i≤M:=⟨fun i=>(i+1)*(K+L+66),by simp,fun i=>by show (i+1)*(K+L+66)+(K+L+66)≤(i+1+1)*(K+L+66);rw [Nat.succ_mul (i+1)];exact Nat.le_refl _,fun i hi=>Nat.le_trans (Nat.mul_le_mul_right _ (by omega)) hM⟩
 refine aN 69 [.tmp 4] Tryz.func95 rfl<|cR<|mW rfl<|mT<|cSeq<|cSeq ?_
 by_cases h0a:n=0
 ·exact cReg<|mv2 rfl rfl<|mbT rfl (by rw [h0a];rfl)<|mW rfl<|mG rfl rfl<|mG rfl rfl<|mG rfl rfl<|mW rfl<|mT<|cT rfl<|cR<|mW rfl<|mT<|cRet<|tR<|rQ rfl (nil_qrow' (dg_zero (conv_l0Q (fun i=>za i (by omega))) _))
 ·by_cases h0b:m=0
  ·exact cReg<|mv2 rfl rfl<|mbF rfl (beq_eq_false_iff_ne.2 fun e=>h0a (by omega))<|mv3 rfl rfl rfl<|mbT rfl (by rw [h0b];rfl)<|mW rfl<|mT<|cT rfl<|cR<|mW rfl<|mT<|cRet<|tR<|rQ rfl (nil_qrow' (dg_zero (conv_r0Q (fun i=>zb i (by omega))) _))
  ·refine cReg<|mv2 rfl rfl<|mbF rfl (beq_eq_false_iff_ne.2 fun e=>h0a (by omega))<|mv3 rfl rfl rfl<|mbF rfl (beq_eq_false_iff_ne.2 fun e=>h0b (by omega))<|mW rfl<|mT<|cFs rfl<|cR<|mv4 rfl rfl rfl rfl<|mV hTT (.d (.one (.v (.int .i64 ((n+m:Nat):Int))))) (evi ((wr64 (by omega) (by omega)).trans (by omega)))<|mV hTT (.d (.one (.v (.int .i64 ((n+m-1:Nat):Int))))) (evi ((wr64 (by omega) (by omega)).trans (by omega)))<|mN hTT (.row 49 4 (n+m-1) (fun _ j=> .v ((([Value.slice none 0 0,Value.bool false,Value.slice none 0 0,Value.bool false]:List Value)[j]?).getD undef))) (mkO (zl:=((n+m-1:Nat):Int)) (zc:=((n+m-1:Nat):Int)) (bts:=64) rfl rfl rfl rfl rfl (by omega) (by omega) rfl rfl rfl (by omega) (by omega) rfl) rfl rfl<|mW rfl<|mT<|cSeq<|cR<|mv3 rfl rfl rfl<|mT<|cBlock<|cLoop (ι:=Nat) (fun (i:Nat)=>⟨69,[(0,.d (.one (.row 4 n (qel K c)))),(1,.d (.one (.row 4 m (qel L d)))),(5,.own 23),(25,.d (.one (.v (.int .i64 ((n+m-1:Nat):Int))))),(26,.d (.one (.v (.int .i64 ((i:Nat):Int)))))],[(23,.row 49 4 (n+m-1) (qpre 64 i (fun _=>0) (fun j=> .v ((([Value.slice none 0 0,Value.bool false,Value.slice none 0 0,Value.bool false]:List Value)[j]?).getD undef))))]⟩) (fun (i:Nat)=>i≤n+m-1) (fun (i:Nat)=>n+m-1-i) 0 (Nat.zero_le _) (wk rfl ⟨hs rfl,hs rfl,hs rfl,hs rfl,hs rfl,trivial⟩ ⟨ho' rfl (leo_pre0),trivial⟩ rfl) ?_;rintro i hI;have hi:i≤n+m-1:=hI;show AW _ _ _ ⟨_,_,_⟩
   refine cR<|mW rfl<|mT<|cSeq<|cCond rfl (fun hc1=>?_) (fun hc1=>?_)
   ·refine cSkip<|tN<|cSeq<|cBlock<|cSeq ?_;have hin:i < n+m-1:=by have h0:=of_decide_eq_true hc1;omega
    exact cReg<|mv2 rfl rfl<|mT<|cReg<|mv2 rfl rfl<|mY (aQZero) rfl<|mV hTT (.eptr 23 4 i 0) (ixO (z:=((i:Nat):Int)) (n:=(n+m-1)) rfl rfl rfl rfl rfl rfl rfl (by omega) (by omega))<|mZ rfl<|mNil<|bN<|tN<|cReg<|mv2 rfl rfl<|mNil<|⟨(i+1),by omega,by omega,wk rfl ⟨hs rfl,hs rfl,hs rfl,hs rfl,hs' rfl (le_int (inc64 (by omega))),trivial⟩ ⟨ho' rfl (st_pre (Nat.le_refl _) rfl),trivial⟩ rfl⟩
   ·refine cExit<|tE<|tE<|bE<|tN<|cSeq<|cSeq ?_;have hie:n+m-1=i:=by have h0:=of_decide_eq_false hc1;omega
    subst hie;refine cReg<|mv3 rfl rfl rfl<|mT<|cBlock<|cLoop (ι:=Nat) (fun (i:Nat)=>⟨69,[(0,.d (.one (.row 4 n (qel K c)))),(1,.d (.one (.row 4 m (qel L d)))),(5,.own 23),(35,.d (.one (.v (.int .i64 (n:Int))))),(36,.d (.one (.v (.int .i64 ((i:Nat):Int)))))],[(23,.row 49 4 (n+m-1) (qelv (fun _=>R i) (cv c d i)))]⟩) (fun (i:Nat)=>i≤n) (fun (i:Nat)=>n-i) 0 (Nat.zero_le _) (wk rfl ⟨hs rfl,hs rfl,hs rfl,hs rfl,hs rfl,trivial⟩ ⟨ho' rfl (leo_pre (fun p _=>hR0) (fun _ _=>rfl)),trivial⟩ rfl) ?_;rintro i hI;have hi2:i≤n:=hI;show AW _ _ _ ⟨_,_,_⟩
    refine cR<|mW rfl<|mT<|cSeq<|cCond rfl (fun hc2=>?_) (fun hc2=>?_)
    ·refine cSkip<|tN<|cSeq<|cBlock<|cSeq ?_;have hia:i < n:=by have h0:=of_decide_eq_true hc2;omega
     have hR:=hR1 i;have hRm:=hRM (i+1) hia;refine cReg<|mv2 rfl rfl<|mT<|cR<|mv3 rfl rfl rfl<|mT<|cBlock<|cLoop (ι:=Nat) (fun (k:Nat)=>⟨69,[(0,.d (.one (.row 4 n (qel K c)))),(1,.d (.one (.row 4 m (qel L d)))),(5,.own 23),(35,.d (.one (.v (.int .i64 (n:Int))))),(36,.d (.one (.v (.int .i64 ((i:Nat):Int))))),(7,.d (.one (.v (.int .i64 ((i:Nat):Int))))),(40,.d (.one (.v (.int .i64 (m:Int))))),(41,.d (.one (.v (.int .i64 ((k:Nat):Int)))))],[(23,.row 49 4 (n+m-1) (qelv (kf R i k) (cvkQ c d i k)))]⟩) (fun (k:Nat)=>k≤m) (fun (k:Nat)=>m-k) 0 (Nat.zero_le _) (wk rfl ⟨hs rfl,hs rfl,hs rfl,hs rfl,hs rfl,hs rfl,hs rfl,hs rfl,trivial⟩ ⟨ho' rfl (leo_qelv (fun p _=>kf_start) (fun j _=>cvkQ_zero.symm)),trivial⟩ rfl) ?_;rintro k hI;have hk:k≤m:=hI;show AW _ _ _ ⟨_,_,_⟩
     refine cR<|mW rfl<|mT<|cSeq<|cCond rfl (fun hc3=>?_) (fun hc3=>?_)
     ·refine cSkip<|tN<|cSeq<|cBlock<|cSeq ?_;have hkb:k < m:=by have h0:=of_decide_eq_true hc3;omega
      have hkf:kf R i k (i+k)=R i:=kf_at;refine cReg<|mv2 rfl rfl<|mT<|cDk 21<|.cons (OpS.V _ rfl)<|.cons (OpS.V _ rfl)<|.cons (OpS.V _ rfl)<|.cons (OpS.V (.d (.one (.v (.int .i64 ((i+k:Nat):Int))))) (evi ((wr64 (by omega) (by omega)).trans (by omega))))<|.cons (OpS.V _ rfl)<|.cons (OpS.V _ rfl)<|.cons (OpS.V _ rfl)<|.cons (OpS.V (.d (.one (.v (.int .i64 ((i+k:Nat):Int))))) (evi ((wr64 (by omega) (by omega)).trans (by omega))))<|.cons (OpS.V (.eptr 23 4 (i+k) 0) (ixO (z:=((i+k:Nat):Int)) (n:=(n+m-1)) rfl rfl rfl rfl rfl rfl rfl (by omega) (by omega)))<|oV rfl<|.cons (OpS.V _ rfl)<|.cons (OpS.V _ rfl)<|.cons (OpS.V (.d (.one (.at 4 ((qel K c) i)))) (ixR (el:=(qel K c)) (z:=((i:Nat):Int)) (n:=n) rfl rfl rfl rfl rfl rfl (by omega) (by omega))) ?_;refine oV rfl<|.cons (OpS.V _ rfl)<|.cons (OpS.V _ rfl)<|.cons (OpS.V (.d (.one (.at 4 ((qel L d) k)))) (ixR (el:=(qel L d)) (z:=((k:Nat):Int)) (n:=m) rfl rfl rfl rfl rfl rfl (by omega) (by omega))) ?_;exact oV rfl<|oC (aRMulR (isq K (c i)) (isq L (d k)) (M:=(max (K+L+1) 64))) rfl<|oC (aRAddR (isq (kf R i k (i+k)) (cvkQ c d i k (i+k))) (isq (max (K+L+1) 64) ((c i)*(d k))) (M:=(max ((kf R i k (i+k))+(max (K+L+1) 64)+1) 64))) rfl<|.cons (OpS.V (.eptr 23 4 (i+k) 0) (ixO (z:=((i+k:Nat):Int)) (n:=(n+m-1)) rfl rfl rfl rfl rfl rfl rfl (by omega) (by omega)))<|.nil<|mZ rfl<|mNil<|bN<|tN<|cReg<|mv2 rfl rfl<|mNil<|⟨(k+1),by omega,by omega,wk rfl ⟨hs rfl,hs rfl,hs rfl,hs rfl,hs rfl,hs rfl,hs rfl,hs' rfl (le_int (inc64 (by omega))),trivial⟩ ⟨ho' rfl (st_q (fun p _ _=>kf_le (by omega)) (by rw [kf_new];omega) cvkQ_step (fun p _ hp=>cvkQ_other hp)),trivial⟩ rfl⟩
     ·refine cExit<|tE<|tE<|bE<|bN<|tN ?_;have hke:m=k:=by have h0:=of_decide_eq_false hc3;omega
      subst hke;exact cReg<|mv2 rfl rfl<|mNil<|⟨(i+1),by omega,by omega,wk rfl ⟨hs rfl,hs rfl,hs rfl,hs rfl,hs' rfl (le_int (inc64 (by omega))),trivial⟩ ⟨ho' rfl (leo_qelv (fun p _=>kf_end (by omega)) (fun j _=>cvkQ_end zb)),trivial⟩ rfl⟩
    ·refine cExit<|tE<|tE<|bE<|tN<|cSeq ?_;have hie2:n=i:=by have h0:=of_decide_eq_false hc2;omega
     subst hie2;exact AW.wk (wkRow 23 rfl)<|cView 5 (.d (.one (.row 4 (n+m-1) (qel M (conv c d))))) rfl (le_one (row_qelv (fun p _=>hRM n (Nat.le_refl _)) (fun j _=>cv_convQ za)))<|cReg<|mW rfl<|mY aQCut rfl<|mW rfl<|mT<|cRet<|rQ rfl (le_qrow (Nat.le_refl _) (dg_eq (fun j hj=>conv_beyondQ za zb (by omega)) (fun j hj=>conv_beyondQ za zb (by omega))) (fun _ _=>rfl))
theorem cv_low{a b:Nat→Int}{j:Nat}(hb:∀ i,2≤i→b i=0):∀ m,m+1≤j→cv a b m j=0:=fun m hm=>conv_z fun i hi hij=>by rw [hb (j-i) (by omega)];simp
theorem conv_lin{a:Nat→Int}{x y:Int}:∀ j,conv a (lin x y) j=a j*x+(if j=0 then 0 else a (j-1)*y)
 | 0=>by
  show cv a (lin x y) 0 0+(if 0≤0 then a 0*lin x y (0-0) else 0)=_
  rw [if_pos (Nat.le_refl _),if_pos rfl];show 0+a 0*x=a 0*x+0
  omega
 | j+1=>by
  show (cv a (lin x y) j (j+1)+(if j≤j+1 then a j*lin x y (j+1-j) else 0))+(if j+1≤j+1 then a (j+1)*lin x y (j+1-(j+1)) else 0)=_
  rw [cv_low lin_z j (Nat.le_refl _),if_pos (by omega),if_pos (Nat.le_refl _),if_neg (by omega),Nat.sub_self,show j+1-j=1 by omega,Nat.add_sub_cancel];show (0+a j*y)+a (j+1)*x=a (j+1)*x+a j*y
  omega
theorem mkR_div{x y:Int}(hy:¬ y=0):mkR x y*(y:Rat)=(x:Rat):=by
 rw [← mkR_int y,← mkR_int x,mkR_ne hy,mkR_ne (by decide),mkR_ne (by decide),Rat.divInt_mul_divInt,Int.mul_one,Int.mul_comm x y];have h:=Rat.divInt_mul_left (n:=x) (d:=1) hy;rwa [Int.mul_one] at h
theorem cast_pow(y:Int):∀ s:Nat,((y^s:Int):Rat)=(y:Rat)^s
 | 0=>rfl
 | s+1=>by rw [Int.pow_succ,Rat.intCast_mul,cast_pow y s,Rat.pow_succ]
theorem ist_tn(K:Nat)(q:Rat):IsT (tn K q) K q.num q.den:=⟨decide (q.num < 0),limbs q.num.natAbs,decide ((q.den:Int) < 0),limbs (Int.natAbs (q.den:Int)),fun _ _ _ h=>h,by rw [val_limbs];exact zv_natAbs _,by rw [val_limbs];exact zv_natAbs _⟩
theorem tn_mono{K L:Nat}{q:Rat}(h:K≤L):∀ B w cs,LsR B w (tn K q) cs→LsR B w (tn L q) cs
 | B,w,[a,b,c,d],⟨h1,h2,h3,h4,h5⟩=>⟨h1,lr_mono h _ _ _ h2,h3,lr_mono h _ _ _ h4,h5⟩
theorem le_tn{K L:Nat}{z y:Rat}(h:K≤L)(e:z=y):AV.le (.d (.agg (tn K z))) (.d (.agg (tn L y))):=by subst e;exact le_agg (tn_mono h)
theorem le_tn2{K L M:Nat}{n d:Int}{q:Rat}(h1:K≤M)(h2:L≤M)(e1:n=q.num)(e2:d=q.den):AV.le (.d (.agg (zn K n ++zn L d))) (.d (.agg (tn M q))):=by
 subst e1;subst e2;refine le_agg fun B w cs h=>?_
 match cs,h with
 | [a,b,c,d],⟨h1',h2',h3',h4',h5'⟩=>exact ⟨h1',lr_mono h1 _ _ _ h2',h3',lr_mono h2 _ _ _ h4',h5'⟩
theorem isp2a{K L:Nat}{s t:Bool}{xs ys:List Nat}{x y:Int}{el:Nat→Nat→Lf}(hx:zv s (val xs)=x)(hy:zv t (val ys)=y)(h0:el 0 0= .v (.bool s):=by rfl)(h1:el 0 1=lr K xs:=by rfl)(h2:el 1 0= .v (.bool t):=by rfl)(h3:el 1 1=lr L ys:=by rfl):IsP (.row 2 2 el) (max K L) 2 (lin x y):=by
 refine ⟨⟨fun i=>if i=0 then (s,xs) else (t,ys),row_le fun i hi j hj B w v hv=>?_,fun i hi=>?_⟩,lin_z⟩
 ·match i,hi,j,hj with
  | 0,_,0,_=>rw [h0] at hv;exact hv
  | 0,_,1,_=>rw [h1] at hv;exact lr_mono (Nat.le_max_left _ _) _ _ _ hv
  | 1,_,0,_=>rw [h2] at hv;exact hv
  | 1,_,1,_=>rw [h3] at hv;exact lr_mono (Nat.le_max_right _ _) _ _ _ hv
 ·match i,hi with
  | 0,_=>exact hx
  | 1,_=>exact hy
theorem gcdN_two{x y:Int}:gcdN (lin x y) 2=Nat.gcd x.natAbs y.natAbs:=by
 show Nat.gcd (Nat.gcd 0 x.natAbs) y.natAbs=_
 rw [Nat.gcd_zero_left]
theorem mkR_posN{n d:Int}(h:0 < d):(Rat.divInt n d).num=n / ((gcdN (lin n d) 2:Nat):Int)∧((Rat.divInt n d).den:Int)=d / ((gcdN (lin n d) 2:Nat):Int):=by rw [gcdN_two];exact mkR_pos h
theorem mkR_negN{n d:Int}(h:d < 0):(Rat.divInt n d).num= -n / ((gcdN (lin n d) 2:Nat):Int)∧((Rat.divInt n d).den:Int)= -d / ((gcdN (lin n d) 2:Nat):Int):=by
 have h1:=mkR_pos (n:= -n) (d:= -d) (by omega);rw [Rat.neg_divInt_neg,Int.natAbs_neg,Int.natAbs_neg] at h1;rw [gcdN_two];exact h1
theorem g_ne{n d:Int}(h:d≠0):((gcdN (lin n d) 2:Nat):Int)≠0:=by rw [gcdN_two];exact gcd_nz h
theorem g_l(n d:Int):((gcdN (lin n d) 2:Nat):Int)∣n:=by rw [gcdN_two];exact gcd_dvd_l n d
theorem g_r(n d:Int):((gcdN (lin n d) 2:Nat):Int)∣d:=by rw [gcdN_two];exact gcd_dvd_r n d
theorem mkR_zero(n:Int):mkR n 0=Rat.divInt n 1:=by unfold mkR;rw [if_pos rfl]
theorem mkR_self(q:Rat):mkR q.num (q.den:Int)=q:=by rw [mkR_ne (den_ne q),Rat.num_divInt_den]
theorem cmpQ_eq{a b:Rat}(h:a=b):cmpQ a b=0:=by subst h;unfold cmpQ cmpZ;simp
theorem cmpQ_lt{x y:Rat}(h:x < y):cmpQ x y= -1:=by
 have:=(Rat.lt_iff x y).1 h;unfold cmpQ cmpZ
 (repeat' split) <;> omega
theorem cmpQ_gt{x y:Rat}(h:y < x):cmpQ x y=1:=by
 have:=(Rat.lt_iff y x).1 h;unfold cmpQ cmpZ
 (repeat' split) <;> omega
theorem ratTri(x y:Rat):x < y∨x=y∨y < x:=by
 by_cases h:x < y
 ·exact Or.inl h
 ·by_cases k:y < x
  ·exact Or.inr (Or.inr k)
  ·exact Or.inr (Or.inl (by grind))
theorem cmpQ_spec(x y:Rat):(x < y∧cmpQ x y= -1)∨(x=y∧cmpQ x y=0)∨(y < x∧cmpQ x y=1):=by
 rcases ratTri x y with h | h | h
 ·exact Or.inl ⟨h,cmpQ_lt h⟩
 ·exact Or.inr (Or.inl ⟨h,cmpQ_eq h⟩)
 ·exact Or.inr (Or.inr ⟨h,cmpQ_gt h⟩)
theorem cmpQ_le{x y:Rat}:cmpQ x y≤0↔x≤y:=by
 rcases cmpQ_spec x y with ⟨h,e⟩ | ⟨h,e⟩ | ⟨h,e⟩ <;> rw [e] <;> constructor <;> intro k <;> first | omega | grind
theorem cmpQ_ge{x y:Rat}:cmpQ x y≥0↔y≤x:=by
 rcases cmpQ_spec x y with ⟨h,e⟩ | ⟨h,e⟩ | ⟨h,e⟩ <;> rw [e] <;> constructor <;> intro k <;> first | omega | grind
theorem cmpQ_zero{x y:Rat}:cmpQ x y=0↔x=y:=by
 rcases cmpQ_spec x y with ⟨h,e⟩ | ⟨h,e⟩ | ⟨h,e⟩ <;> rw [e] <;> constructor <;> intro k <;> first | omega | grind
theorem mid_div(P Q:Rat):Rat.divInt (P.num*Q.den+Q.num*P.den) (P.den*Q.den*2)=(P+Q) / 2:=by
 have h1:=mkR_add P Q;rw [mkR_ne (Int.mul_ne_zero (den_ne P) (den_ne Q))] at h1;have h2:Rat.divInt 1 2=(1:Rat) / 2:=by decide +kernel
 rw [← Int.mul_one (P.num*Q.den+Q.num*P.den),← Rat.divInt_mul_divInt,h1,h2];grind
theorem half_mul(P Q:Rat):(P+Q)*mkR 1 2=(P+Q) / 2:=by
 have h2:mkR 1 2=(1:Rat) / 2:=by decide +kernel
 rw [h2];grind
theorem aTLow{a b:List Lf}{K L M:Nat}{x y:Int}(ha:IsZ a K x)(hb:IsZ b L y)(hy:y≠0)(hM:max (max K L) 1+1≤M:=by first|decide|omega)(hMM:M≤100000000:=by first|decide|omega):ACall Tryz.prog 130 [.agg a,.agg b] (.d (.agg (tn M (Rat.divInt x y)))):=by
 obtain ⟨sa,xa,ha,ea⟩:=ha;obtain ⟨sb,xb,hb,eb⟩:=hb;refine ACall.le (dl (DV.z ha) (dl (DV.z hb) dl0)) AV.le.rfl<|aN 31 [.cell 4 38] Tryz.func130 rfl<|cR<|mO rfl<|mO rfl<|mO rfl<|mT<|cR<|mv2 rfl rfl<|mB hTT (.d (.one (.row 2 2 (fun i' j'=>(([.v (.bool sa),lr K xa] ++ [.v (.bool sb),lr L xb])[i'*2+j']?).getD (.v undef))))) rfl<|mY (aGcd (isp2a (K:=K) (L:=L) ea eb)) rfl<|mO rfl<|mZ rfl<|mT<|cSeq<|cR<|mv2 rfl rfl<|mT<|cCond rfl (fun hc1=>?_) (fun hc1=>?_)
 ·refine cDk 4<|oV rfl<|oC (aNeg ⟨sa,xa,fun _ _ _ h=>h,ea⟩ (by omega)) rfl<|oV rfl<|oC (aNeg ⟨sb,xb,fun _ _ _ h=>h,eb⟩ (by omega)) rfl<|.nil<|mZ rfl<|mZ rfl<|mT<|cSeq ?_;have hyn:y < 0:=by subst hc1;have h0: -(val xb:Int)=y:=eb;omega
  exact cReg<|mv2 rfl rfl<|mY (aExact (isz K (-x)) (isz (max K L) ((gcdN (lin x y) 2):Int)) (g_ne hy) (Int.dvd_neg.2 (g_l x y)) (M:=(max K 1+1))) rfl<|mv3 rfl rfl rfl<|mZ rfl<|mT<|cR<|mv2 rfl rfl<|mY (aExact (isz L (-y)) (isz (max K L) ((gcdN (lin x y) 2):Int)) (g_ne hy) (Int.dvd_neg.2 (g_r x y)) (M:=(max L 1+1))) rfl<|mv3 rfl rfl rfl<|mZ rfl<|mT<|cR<|mv3 rfl rfl rfl<|mZ rfl<|mT<|cRet<|rQ rfl (le_tn2 (by omega) (by omega) (mkR_negN hyn).1.symm (mkR_negN hyn).2.symm)
 ·refine cSkip<|tN<|cSeq ?_;have hyn:0 < y:=by subst hc1;have h0:(val xb:Int)=y:=eb;omega
  exact cReg<|mv2 rfl rfl<|mY (aExact ⟨sa,xa,fun _ _ _ h=>h,ea⟩ (isz (max K L) ((gcdN (lin x y) 2):Int)) (g_ne hy) (g_l x y) (M:=(max K 1+1)) (by omega) (by omega) (by omega)) rfl<|mv3 rfl rfl rfl<|mZ rfl<|mT<|cR<|mv2 rfl rfl<|mY (aExact ⟨sb,xb,fun _ _ _ h=>h,eb⟩ (isz (max K L) ((gcdN (lin x y) 2):Int)) (g_ne hy) (g_r x y) (M:=(max L 1+1)) (by omega) (by omega) (by omega)) rfl<|mv3 rfl rfl rfl<|mZ rfl<|mT<|cR<|mv3 rfl rfl rfl<|mZ rfl<|mT<|cRet<|rQ rfl (le_tn2 (by omega) (by omega) (mkR_posN hyn).1.symm (mkR_posN hyn).2.symm)
theorem aTNorm{a:List Lf}{K M:Nat}{n d:Int}(ha:IsT a K n d)(hM:max K 2+1≤M:=by first|decide|omega)(hMM:M≤100000000:=by first|decide|omega):ACall Tryz.prog 102 [.agg a] (.d (.agg (tn M (mkR n d)))):=by
 obtain ⟨s,xs,t,ys,ha,e1,e2⟩:=ha;refine ACall.le (dl (DV.g ha) dl0) AV.le.rfl<|aN 15 [.cell 2 38] Tryz.func102 rfl<|cR<|mO rfl<|mO rfl<|mT<|cR<|mv2 rfl rfl<|mY (aNorm ⟨t,ys,fun _ _ _ h=>h,e2⟩ (by omega)) rfl<|mO rfl<|mZ rfl<|mT<|cSeq<|cR<|mW rfl<|mY (aZero (isn K d)) rfl<|mT<|cCond rfl (fun hc1=>?_) (fun hc1=>?_)
 ·exact cReg<|mY aOf rfl<|mZ rfl<|mT<|cSeq<|cDk 5<|oV rfl<|oV rfl<|oC (aNorm ⟨s,xs,fun _ _ _ h=>h,e1⟩ (by omega)) rfl<|oV rfl<|oC (aTLow (isz K n) (isz 2 1) (by decide) (M:=(max (max K 2) 1+1))) rfl<|.nil<|mZ rfl<|mT<|cRet<|rQ rfl (le_tn (by omega) (by rw [of_decide_eq_true hc1,mkR_zero]))
 ·exact cSkip<|tN<|cSeq<|cDk 5<|oV rfl<|oV rfl<|oC (aNorm ⟨s,xs,fun _ _ _ h=>h,e1⟩ (by omega)) rfl<|oV rfl<|oC (aTLow (isz K n) (isz K d) (of_decide_eq_false hc1) (M:=(max (max K K) 1+1))) rfl<|.nil<|mZ rfl<|mT<|cRet<|rQ rfl (le_tn (by omega) (mkR_ne (of_decide_eq_false hc1)).symm)
theorem mkR_sub(a b:Rat):Rat.divInt (a.num*b.den-b.num*a.den) (a.den*b.den)=a-b:=by
 have h:=mkR_add a (-b);rw [mkR_ne (Int.mul_ne_zero (den_ne a) (den_ne (-b))),Rat.neg_num,Rat.neg_den,Int.neg_mul,← Int.sub_eq_add_neg,← Rat.sub_eq_add_neg] at h;exact h
theorem mkR_nz(a b:Rat):(a.den:Int)*(b.den:Int)≠0:=Int.mul_ne_zero (den_ne a) (den_ne b)
theorem aTCross{a b:List Lf}{K L M:Nat}{n d m e:Int}(ha:IsT a K n d)(hb:IsT b L m e)(hM:(max K 2+1)+(max L 2+1)≤M:=by first|decide|omega)(hMM:M≤100000000:=by first|decide|omega):ACall Tryz.prog 103 [.agg a,.agg b] (.tup [.agg (zn M (Rat.num (mkR n d)*(Rat.den (mkR m e):Int))),.agg (zn M (Rat.num (mkR m e)*(Rat.den (mkR n d):Int))),.agg (zn M ((Rat.den (mkR n d):Int)*(Rat.den (mkR m e):Int)))]):=by
 obtain ⟨s0,xs0,t0,ys0,ha,e0,k0⟩:=ha;obtain ⟨s1,xs1,t1,ys1,hb,e1,k1⟩:=hb;exact ACall.le (dl (DV.g ha) (dl (DV.g hb) dl0)) AV.le.rfl<|aN 26 [.cell 4 36,.cell 5 36,.cell 6 36] Tryz.func103 rfl<|cR<|mO rfl<|mO rfl<|mO rfl<|mO rfl<|mO rfl<|mT<|cSeq<|cDk 4<|oV rfl<|oC (aTNorm (⟨s0,xs0,t0,ys0,fun _ _ _ h=>h,e0,k0⟩:IsT ([.v (.bool s0),lr K xs0] ++ [.v (.bool t0),lr K ys0]) K n d) (M:=(max K 2+1))) rfl<|oV rfl<|oC (aTNorm (⟨s1,xs1,t1,ys1,fun _ _ _ h=>h,e1,k1⟩:IsT ([.v (.bool s1),lr L xs1] ++ [.v (.bool t1),lr L ys1]) L m e) (M:=(max L 2+1))) rfl<|.nil<|mZ rfl<|mZ rfl<|mT<|cSeq<|cDk 15<|oV rfl<|oV rfl<|oV rfl<|oV rfl<|oC (aMul (isz (max K 2+1) (Rat.num (mkR n d))) (isz (max L 2+1) (Rat.den (mkR m e):Int)) (M:=((max K 2+1)+(max L 2+1)))) rfl<|oV rfl<|oV rfl<|oV rfl<|oV rfl<|oC (aMul (isz (max L 2+1) (Rat.num (mkR m e))) (isz (max K 2+1) (Rat.den (mkR n d):Int)) (M:=((max L 2+1)+(max K 2+1)))) rfl<|oV rfl<|oV rfl<|oV rfl<|oV rfl<|oC (aMul (isz (max K 2+1) (Rat.den (mkR n d):Int)) (isz (max L 2+1) (Rat.den (mkR m e):Int)) (M:=((max K 2+1)+(max L 2+1)))) rfl<|.nil<|mZ rfl<|mZ rfl<|mZ rfl<|mT<|cRet<|rQ rfl (le_tup (dl (dle (le_zn (by omega) rfl)) (dl (dle (le_zn (by omega) rfl)) (dl (dle (le_zn (by omega) rfl)) dl0))))
theorem aTCmp{a b:List Lf}{K L:Nat}{n d m e:Int}(ha:IsT a K n d)(hb:IsT b L m e)(hK:K≤10000000:=by decide)(hL:L≤10000000:=by decide):ACall Tryz.prog 67 [.agg a,.agg b] (.d (.one (.v (.int .i64 (cmpQ (mkR n d) (mkR m e)))))):=by
 obtain ⟨s0,xs0,t0,ys0,ha,e0,k0⟩:=ha;obtain ⟨s1,xs1,t1,ys1,hb,e1,k1⟩:=hb;exact ACall.le (dl (DV.g ha) (dl (DV.g hb) dl0)) AV.le.rfl<|aN 18 [.tmp 4] Tryz.func67 rfl<|cR<|mO rfl<|mO rfl<|mW rfl<|mT<|cR<|mv2 rfl rfl<|mY (aTCross (⟨s0,xs0,t0,ys0,fun _ _ _ h=>h,e0,k0⟩:IsT ([.v (.bool s0),lr K xs0] ++ [.v (.bool t0),lr K ys0]) K n d) (⟨s1,xs1,t1,ys1,fun _ _ _ h=>h,e1,k1⟩:IsT ([.v (.bool s1),lr L xs1] ++ [.v (.bool t1),lr L ys1]) L m e) (M:=((max K 2+1)+(max L 2+1)))) rfl<|mv4 rfl rfl rfl rfl<|mO rfl<|mO rfl<|mO rfl<|mZ rfl<|mZ rfl<|mZ rfl<|mT<|cR<|mv2 rfl rfl<|mY (aCmp (isz ((max K 2+1)+(max L 2+1)) (Rat.num (mkR n d)*(Rat.den (mkR m e):Int))) (isz ((max K 2+1)+(max L 2+1)) (Rat.num (mkR m e)*(Rat.den (mkR n d):Int)))) rfl<|mW rfl<|mT<|cRet<|rQ rfl (AV.le.rfl)
theorem aTSub{a b:List Lf}{K L M:Nat}{n d m e:Int}(ha:IsT a K n d)(hb:IsT b L m e)(hM:(max K 2+1)+(max L 2+1)+2≤M:=by decide)(hMM:M≤100000000:=by decide):ACall Tryz.prog 107 [.agg a,.agg b] (.d (.agg (tn M ((mkR n d)-(mkR m e))))):=by
 obtain ⟨s0,xs0,t0,ys0,ha,e0,k0⟩:=ha;obtain ⟨s1,xs1,t1,ys1,hb,e1,k1⟩:=hb;exact ACall.le (dl (DV.g ha) (dl (DV.g hb) dl0)) AV.le.rfl<|aN 20 [.cell 4 38] Tryz.func107 rfl<|cR<|mO rfl<|mO rfl<|mO rfl<|mT<|cR<|mv2 rfl rfl<|mY (aTCross (⟨s0,xs0,t0,ys0,fun _ _ _ h=>h,e0,k0⟩:IsT ([.v (.bool s0),lr K xs0] ++ [.v (.bool t0),lr K ys0]) K n d) (⟨s1,xs1,t1,ys1,fun _ _ _ h=>h,e1,k1⟩:IsT ([.v (.bool s1),lr L xs1] ++ [.v (.bool t1),lr L ys1]) L m e) (M:=((max K 2+1)+(max L 2+1)))) rfl<|mv4 rfl rfl rfl rfl<|mO rfl<|mO rfl<|mO rfl<|mZ rfl<|mZ rfl<|mZ rfl<|mT<|cSeq<|cDk 5<|oV rfl<|oV rfl<|oC (aSub (isz ((max K 2+1)+(max L 2+1)) (Rat.num (mkR n d)*(Rat.den (mkR m e):Int))) (isz ((max K 2+1)+(max L 2+1)) (Rat.num (mkR m e)*(Rat.den (mkR n d):Int))) (M:=(max ((max K 2+1)+(max L 2+1)) ((max K 2+1)+(max L 2+1))+1))) rfl<|oV rfl<|oC (aTLow (isz (max ((max K 2+1)+(max L 2+1)) ((max K 2+1)+(max L 2+1))+1) ((Rat.num (mkR n d)*(Rat.den (mkR m e):Int))-(Rat.num (mkR m e)*(Rat.den (mkR n d):Int)))) (isz ((max K 2+1)+(max L 2+1)) ((Rat.den (mkR n d):Int)*(Rat.den (mkR m e):Int))) (mkR_nz (mkR n d) (mkR m e)) (M:=(max (max (max ((max K 2+1)+(max L 2+1)) ((max K 2+1)+(max L 2+1))+1) ((max K 2+1)+(max L 2+1))) 1+1))) rfl<|.nil<|mZ rfl<|mT<|cRet<|rQ rfl (le_tn (by omega) (mkR_sub (mkR n d) (mkR m e)))
theorem aTMax{a:List Lf}{K M:Nat}{n d:Int}(ha:IsT a K n d)(hM:max K 2+1≤M:=by first|decide|omega)(hMM:M≤100000000:=by first|decide|omega):ACall Tryz.prog 66 [.agg a,.one (.v (.slice none 0 0))] (.d (.agg (tn M (mkR n d)))):=by
 obtain ⟨s0,xs0,t0,ys0,ha,e0,k0⟩:=ha;refine ACall.le (dl (DV.g ha) (dl DV.same dl0)) AV.le.rfl<|aN 24 [.cell 4 38] Tryz.func66 rfl<|cR<|mO rfl<|mO rfl<|mT<|cR<|mW rfl<|mY (aTNorm (⟨s0,xs0,t0,ys0,fun _ _ _ h=>h,e0,k0⟩:IsT ([.v (.bool s0),lr K xs0] ++ [.v (.bool t0),lr K ys0]) K n d) (M:=(max K 2+1))) rfl<|mO rfl<|mZ rfl<|mT<|cSeq<|cR<|mv3 rfl rfl rfl<|mT<|cBlock<|cLoop (ι:=Nat) (fun (u:Nat)=>⟨24,[(4,.ptr 4 0),(5,.ptr 5 0),(11,.d (.one (.v (.int .i64 0)))),(12,.d (.one (.v (.int .i64 0))))],[(4,.box 38 ([.v (.bool false),.v (.slice none 0 0),.v (.bool false),.v (.slice none 0 0)])),(5,.box 38 (tn (max K 2+1) (mkR n d)))]⟩) (fun (u:Nat)=>True) (fun (u:Nat)=>u) 0 (trivial) (wkr rfl rfl) ?_;rintro u hI;have hT0:True:=hI;show AW _ _ _ ⟨_,_,_⟩
 exact cR<|mW rfl<|mT<|cSeq<|cF rfl<|cExit<|tE<|tE<|bE<|tN<|cR<|mW rfl<|mZ rfl<|mT<|cRet<|rQ rfl (le_tn (by omega) rfl)
theorem aPlain{a:List Lf}{K M:Nat}{n d:Int}(ha:IsT a K n d)(hM:max K 2+1≤M:=by first|decide|omega)(hMM:M≤100000000:=by first|decide|omega):ACall Tryz.prog 125 [.agg a] (.d (.agg (tn M (mkR n d)))):=by
 obtain ⟨s0,xs0,t0,ys0,ha,e0,k0⟩:=ha;exact ACall.le (dl (DV.g ha) dl0) AV.le.rfl<|aN 5 [.cell 2 38] Tryz.func125 rfl<|cR<|mO rfl<|mO rfl<|mT<|cR<|mW rfl<|mY (aTMax (⟨s0,xs0,t0,ys0,fun _ _ _ h=>h,e0,k0⟩:IsT ([.v (.bool s0),lr K xs0] ++ [.v (.bool t0),lr K ys0]) K n d) (M:=(max K 2+1))) rfl<|mZ rfl<|mT<|cRet<|rQ rfl (le_tn (by omega) rfl)
theorem rc_conv(a b:Nat→Int)(j:Nat):conv (rc a) (rc b) j=rc (conv a b) j:=cv_cast _
theorem isi_cut{n:Nat}{c:Nat→Int}:IsI (irow n c) n (fun i=>if i < n then c i else 0):=by
 refine ⟨row_le fun i hi j hj B w v hv=>?_,fun i hi=>if_neg (by omega)⟩;show LfR B w (.v (.int .i64 (if i < n then c i else 0))) v
 rw [if_pos hi];exact hv
def sm(f:Nat→Int):Nat→Int
 | 0=>0
 | m+1=>sm f m+f m
theorem sm_congr{f g:Nat→Int}:∀ {m:Nat},(∀ i,i < m→f i=g i)→sm f m=sm g m
 | 0,_=>rfl
 | m+1,h=>by show sm f m+f m=sm g m+g m;rw [sm_congr (fun i hi=>h i (by omega)),h m (by omega)]
theorem sm_add{f g:Nat→Int}:∀ m,sm (fun i=>f i+g i) m=sm f m+sm g m
 | 0=>rfl
 | m+1=>by show sm _ m+(f m+g m)=(sm f m+f m)+(sm g m+g m);rw [sm_add m];omega
theorem sm_first{f:Nat→Int}:∀ m,sm f (m+1)=f 0+sm (fun i=>f (i+1)) m
 | 0=>by show (0:Int)+f 0=f 0+0;omega
 | m+1=>by
  have h:=sm_first (f:=f) m;show sm f (m+1)+f (m+1)=f 0+(sm (fun i=>f (i+1)) m+f (m+1))
  omega
theorem sm_rev{f:Nat→Int}:∀ n,sm f (n+1)=sm (fun i=>f (n-i)) (n+1)
 | 0=>rfl
 | n+1=>by
  rw [sm_first (f:=fun i=>f (n+1-i)) (n+1)];show sm f (n+1)+f (n+1)=f (n+1)+sm (fun i=>f (n+1-(i+1))) (n+1)
  rw [sm_rev n,Int.add_comm];congr 1;exact sm_congr fun i _=>by congr 1;omega
theorem cv_sm{a b:Nat→Int}{j:Nat}:∀ {m:Nat},m≤j+1→cv a b m j=sm (fun i=>a i*b (j-i)) m
 | 0,_=>rfl
 | m+1,h=>by
  show cv a b m j+(if m≤j then a m*b (j-m) else 0)=_
  rw [cv_sm (by omega),if_pos (by omega)];rfl
theorem conv_sm(a b:Nat→Int)(j:Nat):conv a b j=sm (fun i=>a i*b (j-i)) (j+1):=cv_sm (Nat.le_refl _)
theorem conv_comm(a b:Nat→Int)(j:Nat):conv a b j=conv b a j:=by
 rw [conv_sm,conv_sm,sm_rev];exact sm_congr fun i hi=>by rw [show j-(j-i)=i by omega,Int.mul_comm]
theorem conv_add(a b c:Nat→Int)(j:Nat):conv a (fadd b c) j=fadd (conv a b) (conv a c) j:=by
 show _=conv a b j+conv a c j
 rw [conv_sm,conv_sm,conv_sm,← sm_add];exact sm_congr fun i _=>by show a i*(b (j-i)+c (j-i))=_;rw [Int.mul_add]
/-- The leading coefficient of a product. -/
theorem conv_top{a b:Nat→Int}{n m:Nat}(ha:∀ i,n≤i→a i=0)(hb:∀ i,m≤i→b i=0)(hn:n≠0)(hm:m≠0):conv a b (n+m-2)=a (n-1)*b (m-1):=by
 obtain ⟨n,rfl⟩:=Nat.exists_eq_succ_of_ne_zero hn;obtain ⟨m,rfl⟩:=Nat.exists_eq_succ_of_ne_zero hm;rw [← cv_conv (n:=n+1) ha];show cv a b n (n.succ+m.succ-2)+(if n≤n.succ+m.succ-2 then a n*b (n.succ+m.succ-2-n) else 0)=a n*b m
 rw [conv_z (fun i hi _=>by rw [hb (n.succ+m.succ-2-i) (by omega),Int.mul_zero]),if_pos (by omega),show n.succ+m.succ-2-n=m by omega,Int.zero_add]
theorem dg_conv{a b:Nat→Int}{n m:Nat}(hn:n≠0)(hm:m≠0)(ha:∀ i,n≤i→a i=0)(hb:∀ i,m≤i→b i=0)(ha0:a (n-1)≠0)(hb0:b (m-1)≠0){p:Nat}(hp:∀ i,p≤i→conv a b i=0):dg (conv a b) p=n+m-1:=
 dg_uniq dg_or (dg_z hp) (Or.inr (by rw [show n+m-1-1=n+m-2 by omega,conv_top ha hb hn hm];exact Int.mul_ne_zero ha0 hb0)) (fun i hi=>conv_beyond ha hb (by omega))
theorem nil_zn{K:Nat}{z:Int}(h:z=0):AV.le (.d (.agg [.v (.bool false),.v (.slice none 0 0)])) (.d (.agg (zn K z))):=by subst h;exact le_agg fun B w cs h=>zn_mono (Nat.zero_le _) _ _ _ (nil_ls h)
/-- Horner's rule over whole numbers. -/
def vlZ(a:Nat→Int)(x y:Int)(top:Nat):Nat→Int
 | 0=>0
 | s+1=>vlZ a x y top s*x+a (top-1-s)*y^s
def vlQ(a:Nat→Rat)(q:Rat)(top:Nat):Nat→Rat
 | 0=>0
 | s+1=>vlQ a q top s*q+a (top-1-s)
theorem leo_nilz{t:TypeId}{K:Nat}:AO.le (.box t [.v (.bool false),.v (.slice none 0 0)]) (.box t (zn K 0)):=leo_box fun B w cs h=>zn_mono (Nat.zero_le _) _ _ _ (nil_ls h)
theorem aPValue{a:Lf}{b e:List Lf}{K L1 L2 M n D T:Nat}{c:Nat→Int}{x y:Int}(ha:IsP a K n c)(hb:IsZ b L1 x)(hd:IsZ e L2 y)(hn:n≤D)(hDD:D≤1000:=by decide)(hT:K+L1+L2+5≤T:=by decide)(hM:(D+1)*T≤M:=by decide)(hMM:M≤1000000000:=by decide):ACall Tryz.prog 126 [.one a,.agg b,.agg e] (.d (.agg (zn M (vlZ c x y n n)))):=by
 obtain ⟨⟨fa,ha,ea⟩,za⟩:=ha;obtain ⟨s1,xs1,hb,ex⟩:=hb;obtain ⟨s2,xs2,hd,ey⟩:=hd;refine ACall.le (dl (DV.l ha) (dl (DV.z hb) (dl (DV.z hd) dl0))) AV.le.rfl ?_;obtain ⟨R,hR0,hR1,hRM⟩:∃ R:Nat→Nat,2≤R 0∧(∀ i,R i+T≤R (i+1))∧∀ i,i≤D→R i≤M:=⟨fun i=>(i+1)*T,by show 2≤(0+1)*T;omega,fun i=>by show (i+1)*T+T≤(i+1+1)*T;rw [Nat.succ_mul (i+1)];exact Nat.le_refl _,fun i hi=>Nat.le_trans (Nat.mul_le_mul_right _ (by omega)) hM⟩
 have hT1:=hRM 0 (Nat.zero_le _);have hTM:T≤M:=Nat.le_trans (Nat.le_mul_of_pos_left T (by omega)) hM;refine aN 32 [.cell 6 36] Tryz.func126 rfl<|cR<|mO rfl<|mO rfl<|mO rfl<|mT<|cR<|mO rfl<|mT<|cR<|mY aOf rfl<|mO rfl<|mZ rfl<|mT<|cSeq<|cR<|mv2 rfl rfl<|mV hTT (.d (.one (.v (.int .i64 ((n:Int)-1))))) (evi (wr64 (by omega) (by omega)))<|mW rfl<|mT<|cBlock<|cLoop (ι:=Nat) (fun (s:Nat)=>⟨32,[(0,.d (.one (.row 2 n (ael K fa)))),(4,.ptr 4 0),(5,.ptr 5 0),(6,.ptr 6 0),(7,.ptr 7 0),(8,.ptr 8 0),(9,.d (.one (.v (.int .i64 ((n:Int)-1-(s:Int))))))],[(4,.box 36 ([.v (.bool s1),lr L1 xs1])),(5,.box 36 ([.v (.bool s2),lr L2 xs2])),(6,.box 36 ([.v (.bool false),.v (.slice none 0 0)])),(7,.box 36 (zn (R s) (vlZ c x y n s))),(8,.box 36 (zn (R s) (y^s)))]⟩) (fun (s:Nat)=>s≤n) (fun (s:Nat)=>n-s) 0 (Nat.zero_le _) (wk rfl ⟨hs rfl,hs rfl,hs rfl,hs rfl,hs rfl,hs rfl,hs' rfl (le_int (by omega)),trivial⟩ ⟨ho rfl,ho rfl,ho rfl,ho' rfl (leo_nilz),ho' rfl (leo_zn (by omega) (Int.pow_zero y).symm),trivial⟩ rfl) ?_;rintro s hI;have hi:s≤n:=hI;show AW _ _ _ ⟨_,_,_⟩
 refine cSeq<|cR<|mv2 rfl rfl<|mT<|cCond rfl (fun hc1=>?_) (fun hc1=>?_)
 ·refine cSkip<|tN<|cSeq<|cBlock<|cSeq ?_;have hsd:s < n:=by have h0:=of_decide_eq_true hc1;omega
  have hR:=hR1 s;have hRm:=hRM (s+1) (by omega);refine cView 9 (.d (.one (.v (.int .i64 ((n-1-s:Nat):Int))))) rfl (le_int (by omega))<|cDk 10<|oV rfl<|oV rfl<|oC (aMul (isz (R s) (vlZ c x y n s)) ⟨s1,xs1,fun _ _ _ h=>h,ex⟩ (M:=((R s)+L1)) (by omega) (by omega) (by omega)) rfl<|.cons (OpS.V _ rfl)<|.cons (OpS.V _ rfl)<|.cons (OpS.V (.d (.one (.at 2 ((ael K fa) (n-1-s))))) (ixR (el:=(ael K fa)) (z:=((n-1-s:Nat):Int)) (n:=n) rfl rfl rfl rfl rfl rfl (by omega) (by omega))) ?_;exact oV rfl<|oV rfl<|oC (aMul ⟨_,_,fun _ _ _ h=>h,ea (n-1-s) (by omega)⟩ (isz (R s) (y^s)) (M:=(K+(R s))) (by omega) (by omega) (by omega)) rfl<|oC (aAdd (isz ((R s)+L1) ((vlZ c x y n s)*x)) (isz (K+(R s)) ((c (n-1-s))*(y^s))) (M:=(max ((R s)+L1) (K+(R s))+1))) rfl<|.nil<|mZ rfl<|mT<|cReg<|mv2 rfl rfl<|mY (aMul (isz (R s) (y^s)) ⟨s2,xs2,fun _ _ _ h=>h,ey⟩ (M:=((R s)+L2)) (by omega) (by omega) (by omega)) rfl<|mZ rfl<|mNil<|bN<|tN<|cReg<|mv3 rfl rfl rfl<|mNil<|⟨(s+1),by omega,by omega,wk rfl ⟨hs rfl,hs rfl,hs rfl,hs rfl,hs rfl,hs rfl,hs' rfl (le_int ((wr64 (by omega) (by omega)).trans (by omega))),trivial⟩ ⟨ho rfl,ho rfl,ho rfl,ho' rfl (leo_zn (by omega) rfl),ho' rfl (leo_zn (by omega) (Int.pow_succ y s).symm),trivial⟩ rfl⟩
 ·refine cExit<|tE<|tE<|bE<|tN<|cR<|mW rfl<|mZ rfl<|mT<|cRet ?_;have hie:n=s:=by have h0:=of_decide_eq_false hc1;omega
  subst hie;exact rQ rfl (le_zn (hRM _ hn) rfl)
theorem aPLead{a:Lf}{K n:Nat}{c:Nat→Int}(ha:IsP a K n c)(hn:n≤1000000:=by first|decide|omega)(hK:K≤1000000000:=by first|decide|omega):ACall Tryz.prog 158 [.one a] (.d (.agg (zn K (c (dg c n-1))))):=by
 obtain ⟨⟨fa,ha,ea⟩,za⟩:=ha;refine ACall.le (dl (DV.l ha) dl0) AV.le.rfl ?_;have hla:=dg_le c n;refine aN 15 [.cell 2 36] Tryz.func158 rfl<|cR<|mO rfl<|mT<|cSeq<|cR<|mW rfl<|mY (aPNorm (⟨⟨fa,fun _ _ _ h=>h,ea⟩,za⟩:IsP (arow K n fa) K n c)) rfl<|mW rfl<|mT<|cR<|mv3 rfl rfl rfl<|mT<|cCond rfl (fun hc1=>?_) (fun hc1=>?_)
 ·exact cR<|mW rfl<|mZ rfl<|mT<|cRet<|tR<|rQ rfl (nil_zn (dg_all za (by have h0:=eq_of_beq hc1;omega) _))
 ·refine cSkip<|tN<|cSeq ?_;have hl0:dg c n≠0:=fun e=>by have h0:=hc1;rw [e] at h0;exact absurd h0 (by decide)
  refine cReg<|mv3 rfl rfl rfl<|mV hTT (.d (.one (.v (.int .i64 ((dg c n-1:Nat):Int))))) (evi ((wr64 (by omega) (by omega)).trans (by omega)))<|mV hTT (.d (.one (.at 2 ((zel K c) (dg c n-1))))) (ixR (el:=(zel K c)) (z:=((dg c n-1:Nat):Int)) (n:=(dg c n)) rfl rfl rfl rfl rfl rfl (by omega) (by omega)) ?_;exact mW rfl<|mZ rfl<|mT<|cRet<|rQ rfl (AV.le.rfl)
theorem aDeg{K n:Nat}{c:Nat→Int}(hn:n≤1000000:=by omega):ACall Tryz.prog 69 [.one (prow K n c)] (.d (.one (.v (.int .i64 ((n:Int)-1))))):=by
 exact aN 6 [.tmp 2] Tryz.func69 rfl<|cR<|mW rfl<|mT<|cR<|mv2 rfl rfl<|mV hTT (.d (.one (.v (.int .i64 ((n:Int)-1))))) (evi (wr64 (by omega) (by omega)))<|mW rfl<|mT<|cRet<|rQ rfl (AV.le.rfl)
theorem cmpZ_sgn(z:Int):cmpZ z 0=sgn z:=by unfold cmpZ sgn;(repeat' split) <;> omega
theorem aPSign{a:Lf}{b:List Lf}{K L M n D T:Nat}{c:Nat→Int}{nn dd:Int}(ha:IsP a K n c)(hb:IsT b L nn dd)(hn:n≤D)(hDD:D≤1000:=by decide)(hT:K+(max L 2+1)+(max L 2+1)+5≤T:=by decide)(hM:(D+1)*T≤M:=by decide)(hMM:M≤1000000000:=by decide)(hL:L≤1000000:=by decide)(hK:K≤10000000:=by decide):ACall Tryz.prog 100 [.one a,.agg b] (.d (.one (.v (.int .i64 (sgn (vlZ c (mkR nn dd).num ((mkR nn dd).den:Int) (dg c n) (dg c n))))))):=by
 obtain ⟨⟨fa,ha,ea⟩,za⟩:=ha;obtain ⟨s0,xs0,t0,ys0,hb,e0,k0⟩:=hb;refine ACall.le (dl (DV.l ha) (dl (DV.g hb) dl0)) AV.le.rfl ?_;have hla:=dg_le c n;refine aN 16 [.tmp 4] Tryz.func100 rfl<|cR<|mO rfl<|mW rfl<|mT<|cR<|mW rfl<|mY (aPlain (⟨s0,xs0,t0,ys0,fun _ _ _ h=>h,e0,k0⟩:IsT ([.v (.bool s0),lr L xs0] ++ [.v (.bool t0),lr L ys0]) L nn dd) (M:=(max L 2+1))) rfl<|mZ rfl<|mT<|cSeq ?_;have hMb:T≤M:=Nat.le_trans (Nat.le_mul_of_pos_left T (by omega)) hM;exact cDk 10<|.cons (OpS.V _ rfl)<|oC (aPNorm (⟨⟨fa,fun _ _ _ h=>h,ea⟩,za⟩:IsP (arow K n fa) K n c)) rfl<|oV rfl<|oV rfl<|oV rfl<|oV rfl<|oC (aPValue (isp (K:=K) (c:=c) (dg_z za)) (isz (max L 2+1) (Rat.num (mkR nn dd))) (isz (max L 2+1) (Rat.den (mkR nn dd):Int)) (D:=D) (T:=T) (M:=M) (by omega) hDD hT hM hMM) rfl<|oV rfl<|oC (aCmp (isz M (vlZ c (Rat.num (mkR nn dd)) (Rat.den (mkR nn dd):Int) (dg c n) (dg c n))) isz_nil) rfl<|.cons (OpS.V _ rfl)<|.nil<|mT<|cRet<|rQ rfl (le_int (cmpZ_sgn _))
theorem aQWhole{K n:Nat}{c:Nat→Int}(hn:n≤1000000):ACall Tryz.prog 111 [.one (qrow K n (rc c))] (.d (.one (.v (.bool true)))):=by
 refine aN 29 [.tmp 2] Tryz.func111 rfl<|cR<|mW rfl<|mT<|cSeq<|cR<|mv3 rfl rfl rfl<|mT<|cBlock<|cLoop (ι:=Nat) (fun (i:Nat)=>⟨29,[(0,.d (.one (.row 4 n (qel K (rc c))))),(5,.d (.one (.v (.int .i64 (n:Int))))),(6,.d (.one (.v (.int .i64 ((i:Nat):Int)))))],[]⟩) (fun (i:Nat)=>i≤n) (fun (i:Nat)=>n-i) 0 (Nat.zero_le _) (wkr rfl rfl) ?_;rintro i hI;have hi:i≤n:=hI;show AW _ _ _ ⟨_,_,_⟩
 refine cR<|mW rfl<|mT<|cSeq<|cCond rfl (fun hc1=>?_) (fun hc1=>?_)
 ·refine cSkip<|tN<|cSeq<|cBlock<|cR<|mv2 rfl rfl<|mT<|cSeq ?_;have hin:i < n:=by have h0:=of_decide_eq_true hc1;omega
  have hden:Int.natAbs ((rc c i).den:Int)=1:=by unfold rc;rw [Rat.den_intCast];rfl
  refine cReg<|mv2 rfl rfl<|mV hTT (.d (.one (.at 4 ((qel K (rc c)) i)))) (ixR (el:=(qel K (rc c))) (z:=((i:Nat):Int)) (n:=n) rfl rfl rfl rfl rfl rfl (by omega) (by omega)) ?_;refine mv4 rfl rfl rfl rfl<|mbF rfl (by show (((digs4 (Int.natAbs ((rc c i).den:Int))).length:Int) !=1)=false;rw [hden,(digs1.2 rfl).1];rfl)<|mv3 rfl rfl rfl<|mV hTT (.d (.one (.at 4 ((qel K (rc c)) i)))) (ixR (el:=(qel K (rc c))) (z:=((i:Nat):Int)) (n:=n) rfl rfl rfl rfl rfl rfl (by omega) (by omega)) ?_;refine mv3 rfl rfl rfl<|mView 23 (.d (.one (.row 1 ((digs4 (Int.natAbs ((rc c i).den:Int))).length) (fun i _=> .v (.int .i64 (((digs4 (Int.natAbs ((rc c i).den:Int))).getD i 0:Nat):Int)))))) rfl (le_drow _ _)<|mV hTT (.d (.one (.at 1 ((fun i _=> .v (.int .i64 (((digs4 (Int.natAbs ((rc c i).den:Int))).getD i 0:Nat):Int))) 0)))) (ixR (el:=(fun i _=> .v (.int .i64 (((digs4 (Int.natAbs ((rc c i).den:Int))).getD i 0:Nat):Int)))) (z:=0) (n:=((digs4 (Int.natAbs ((rc c i).den:Int))).length)) rfl rfl rfl rfl rfl rfl (by decide) (by rw [hden,(digs1.2 rfl).1];decide)) ?_;exact mW rfl<|mbF rfl (by show ((((digs4 (Int.natAbs ((rc c i).den:Int))).getD 0 0:Nat):Int) !=1)=false;rw [hden,(digs1.2 rfl).2];rfl)<|mW rfl<|mT<|cF rfl<|cSkip<|bN<|tN<|cReg<|mv2 rfl rfl<|mNil<|⟨(i+1),by omega,by omega,wk rfl ⟨hs rfl,hs rfl,hs' rfl (le_int (inc64 (by omega))),trivial⟩ trivial rfl⟩
 ·exact cExit<|tE<|tE<|bE<|tN<|cR<|mW rfl<|mT<|cRet<|rQ rfl (AV.le.rfl)
theorem leo_nilr{t:TypeId}{K:Nat}:AO.le (.box t [.v (.slice none 0 0),.v (.bool false)]) (.box t (rn K 0)):=leo_box fun B w cs h=>rn_mono (Nat.zero_le _) _ _ _ (nil_rs h)
theorem aQSign{a:Lf}{b:List Lf}{K L M n D T:Nat}{c:Nat→Int}{q:Rat}(ha:∀ B w v,LfR B w a v→LfR B w (qrow K n (rc c)) v)(hb:IsQ b L q)(hn:n≤D)(hDD:D≤1000:=by decide)(hT:K+L+140≤T:=by decide)(hM:(D+1)*T≤M:=by decide)(hMM:M≤10000000:=by decide):ACall Tryz.prog 74 [.one a,.agg b] (.d (.one (.v (.int .i64 (sgn (vlZ c q.num (q.den:Int) n n)))))):=by
 refine ACall.le (dl (DV.l ha) (dl (DV.g hb) dl0)) AV.le.rfl ?_;obtain ⟨R,hR0,hR1,hRM⟩:∃ R:Nat→Nat,64≤R 0∧(∀ i,R i+T≤R (i+1))∧∀ i,i≤D→R i≤M:=⟨fun i=>(i+1)*T,by show 64≤(0+1)*T;omega,fun i=>by show (i+1)*T+T≤(i+1+1)*T;rw [Nat.succ_mul (i+1)];exact Nat.le_refl _,fun i hi=>Nat.le_trans (Nat.mul_le_mul_right _ (by omega)) hM⟩
 have hT1:=hRM 0 (Nat.zero_le _);have hTM:T≤M:=Nat.le_trans (Nat.le_mul_of_pos_left T (by omega)) hM;refine aN 42 [.tmp 4] Tryz.func74 rfl<|cR<|mO rfl<|mW rfl<|mT<|cSeq<|cR<|mW rfl<|mY (aQWhole (by omega)) rfl<|mW rfl<|mT<|cFs rfl<|cR<|mO rfl<|mT<|cR<|mY aROf rfl<|mO rfl<|mZ rfl<|mT<|cSeq<|cR<|mv2 rfl rfl<|mV hTT (.d (.one (.v (.int .i64 ((n:Int)-1))))) (evi (wr64 (by omega) (by omega)))<|mW rfl<|mT<|cBlock<|cLoop (ι:=Nat) (fun (s:Nat)=>⟨42,[(0,.d (.one (.row 4 n (qel K (rc c))))),(3,.ptr 3 0),(5,.ptr 5 0),(6,.ptr 6 0),(7,.d (.one (.v (.int .i64 ((n:Int)-1-(s:Int))))))],[(3,.box 49 (qn L q)),(5,.box 47 (rn (R s) (vlZ c q.num (q.den:Int) n s))),(6,.box 47 (rn (R s) ((q.den:Int)^s)))]⟩) (fun (s:Nat)=>s≤n) (fun (s:Nat)=>n-s) 0 (Nat.zero_le _) (wk rfl ⟨hs rfl,hs rfl,hs rfl,hs rfl,hs' rfl (le_int (by omega)),trivial⟩ ⟨ho rfl,ho' rfl (leo_nilr),ho' rfl (leo_rn (by omega) (Int.pow_zero (q.den:Int)).symm),trivial⟩ rfl) ?_;rintro s hI;have hi:s≤n:=hI;show AW _ _ _ ⟨_,_,_⟩
 refine cSeq<|cR<|mv2 rfl rfl<|mT<|cCond rfl (fun hc1=>?_) (fun hc1=>?_)
 ·refine cSkip<|tN<|cSeq<|cBlock<|cSeq ?_;have hsd:s < n:=by have h0:=of_decide_eq_true hc1;omega
  have hR:=hR1 s;have hRm:=hRM (s+1) (by omega);refine cView 7 (.d (.one (.v (.int .i64 ((n-1-s:Nat):Int))))) rfl (le_int (by omega))<|cDk 12<|oV rfl<|oV rfl<|oV rfl<|oC (aRMul (isr (R s) (vlZ c q.num (q.den:Int) n s)) (isr L (Rat.num q)) (M:=((R s)+L))) rfl<|.cons (OpS.V _ rfl)<|.cons (OpS.V _ rfl)<|.cons (OpS.V (.d (.one (.at 4 ((qel K (rc c)) (n-1-s))))) (ixR (el:=(qel K (rc c))) (z:=((n-1-s:Nat):Int)) (n:=n) rfl rfl rfl rfl rfl rfl (by omega) (by omega))) ?_;exact .cons (OpS.V _ rfl)<|oV rfl<|oV rfl<|oC (aRMul (isr K (Rat.num ((rc c) (n-1-s)))) (isr (R s) ((q.den:Int)^s)) (M:=(K+(R s)))) rfl<|oC (aRAdd (isr ((R s)+L) ((vlZ c q.num (q.den:Int) n s)*(Rat.num q))) (isr (K+(R s)) ((Rat.num ((rc c) (n-1-s)))*((q.den:Int)^s))) (M:=(max ((R s)+L) (K+(R s))+1))) rfl<|.nil<|mZ rfl<|mT<|cReg<|mv3 rfl rfl rfl<|mY (aRMul (isr (R s) ((q.den:Int)^s)) (isr L (Rat.den q:Int)) (M:=((R s)+L))) rfl<|mZ rfl<|mNil<|bN<|tN<|cReg<|mv3 rfl rfl rfl<|mNil<|⟨(s+1),by omega,by omega,wk rfl ⟨hs rfl,hs rfl,hs rfl,hs rfl,hs' rfl (le_int ((wr64 (by omega) (by omega)).trans (by omega))),trivial⟩ ⟨ho rfl,ho' rfl (leo_rn (by omega) (by show _=vlZ c q.num (q.den:Int) n s*q.num+c (n-1-s)*(q.den:Int)^s;rw [show (rc c (n-1-s)).num=c (n-1-s) from Rat.num_intCast _])),ho' rfl (leo_rn (by omega) (Int.pow_succ (q.den:Int) s).symm),trivial⟩ rfl⟩
 ·refine cExit<|tE<|tE<|bE<|tN<|cR<|mW rfl<|mY (aRSign (isr (R s) (vlZ c q.num (q.den:Int) n s))) rfl<|mW rfl<|mT<|cRet ?_;have hie:n=s:=by have h0:=of_decide_eq_false hc1;omega
  subst hie;exact rE rfl
theorem pow_ne_int{y:Int}(h:y≠0):∀ s:Nat,¬ y^s=0
 | 0=>by rw [Int.pow_zero];decide
 | s+1=>by rw [Int.pow_succ];exact Int.mul_ne_zero (pow_ne_int h s) h
theorem num_den(q:Rat):q*((q.den:Int):Rat)=(q.num:Rat):=by
 have h:=mkR_div (x:=q.num) (y:=(q.den:Int)) (den_ne q);rw [mkR_ne (den_ne q),Rat.num_divInt_den] at h;exact h
theorem vl_hv{a:Nat→Int}{q:Rat}{top:Nat}:∀ s,((vlZ a q.num (q.den:Int) top s:Int):Rat)*((q.den:Int):Rat)=((q.den:Int):Rat)^s*vlQ (rc a) q top s
 | 0=>by show ((0:Int):Rat)*_=_*(0:Rat);rw [Rat.mul_zero];exact Rat.zero_mul _
 | s+1=>by
  have h0:=vl_hv (a:=a) (q:=q) (top:=top) s;have hq:=num_den q;show ((vlZ a q.num (q.den:Int) top s*q.num+a (top-1-s)*(q.den:Int)^s:Int):Rat)*((q.den:Int):Rat)=((q.den:Int):Rat)^(s+1)*(vlQ (rc a) q top s*q+rc a (top-1-s))
  have hrc:rc a (top-1-s)=((a (top-1-s):Int):Rat):=rfl;rw [hrc,Rat.intCast_add,Rat.intCast_mul,Rat.intCast_mul,cast_pow,Rat.pow_succ];grind
/-- The value: the sum of the terms. -/
def pe(a:Nat→Rat)(q:Rat):Nat→Rat
 | 0=>0
 | n+1=>pe a q n+a n*q^n
theorem pe_hor{a:Nat→Rat}{q:Rat}{top:Nat}:∀ s,s≤top→pe a q top=pe a q (top-s)+q^(top-s)*vlQ a q top s
 | 0,_=>by show _=pe a q (top-0)+_*(0:Rat);rw [Nat.sub_zero,Rat.mul_zero,Rat.add_zero]
 | s+1,h=>by
  rw [pe_hor s (by omega)];have e:top-s=(top-(s+1))+1:=by omega
  show _=_+_*(vlQ a q top s*q+a (top-1-s))
  rw [e,show top-1-s=top-(s+1) by omega];show pe a q (top-(s+1))+a (top-(s+1))*q^(top-(s+1))+_=_
  rw [Rat.pow_succ];grind
theorem pe_vl(a:Nat→Rat)(q:Rat)(n:Nat):vlQ a q n n=pe a q n:=by
 have h:=pe_hor (a:=a) (q:=q) (top:=n) n (Nat.le_refl _);rw [Nat.sub_self] at h;rw [h];show _=(0:Rat)+_
 rw [Rat.pow_zero,Rat.one_mul,Rat.zero_add]
theorem pe_congr{a b:Nat→Rat}{q:Rat}:∀ {n:Nat},(∀ i,i < n→a i=b i)→pe a q n=pe b q n
 | 0,_=>rfl
 | n+1,h=>by show _+_=_+_;rw [pe_congr (n:=n) fun i hi=>h i (by omega),h n (by omega)]
theorem pe_more{a:Nat→Rat}{q:Rat}{n:Nat}(h:∀ i,n≤i→a i=0):∀ d,pe a q (n+d)=pe a q n
 | 0=>rfl
 | d+1=>by show pe a q (n+d)+a (n+d)*_=_;rw [pe_more h d,h (n+d) (by omega),Rat.zero_mul,Rat.add_zero]
theorem pe_eq{a:Nat→Rat}{q:Rat}{n m:Nat}(h:∀ i,n≤i→a i=0)(k:∀ i,m≤i→a i=0):pe a q n=pe a q m:=by
 rcases Nat.le_total n m with e | e
 ·have:=pe_more (q:=q) h (m-n);rw [show n+(m-n)=m by omega] at this;exact this.symm
 ·have:=pe_more (q:=q) k (n-m);rw [show m+(n-m)=n by omega] at this;exact this
theorem pe_add{a b:Nat→Rat}{q:Rat}:∀ n,pe (faddQ a b) q n=pe a q n+pe b q n
 | 0=>by show (0:Rat)=0+0;grind
 | n+1=>by show pe (faddQ a b) q n+(a n+b n)*q^n=(pe a q n+_)+(pe b q n+_);rw [pe_add n];grind
theorem pe_scl{a:Nat→Rat}{q r:Rat}:∀ n,pe (fsclQ a r) q n=pe a q n*r
 | 0=>by show (0:Rat)=0*r;grind
 | n+1=>by show pe (fsclQ a r) q n+(a n*r)*q^n=(pe a q n+_)*r;rw [pe_scl n];grind
theorem pe_zero{a:Nat→Rat}{q:Rat}:∀ {n:Nat},(∀ i,i < n→a i=0)→pe a q n=0
 | 0,_=>rfl
 | n+1,h=>by show _+_=_;rw [pe_zero (n:=n) fun i hi=>h i (by omega),h n (by omega),Rat.zero_mul,Rat.add_zero]
theorem pow_addQ(q:Rat)(k:Nat):∀ m:Nat,q^(k+m)=q^k*q^m
 | 0=>by rw [Nat.add_zero,Rat.pow_zero,Rat.mul_one]
 | m+1=>by rw [← Nat.add_assoc,Rat.pow_succ,Rat.pow_succ,pow_addQ q k m,Rat.mul_assoc]
theorem pe_shift{b:Nat→Rat}{q x:Rat}{k:Nat}:∀ m,pe (fun j=>if k≤j then x*b (j-k) else 0) q (k+m)=x*q^k*pe b q m
 | 0=>by
  show _=x*q^k*(0:Rat)
  rw [Rat.mul_zero];exact pe_zero fun i hi=>if_neg (by omega)
 | m+1=>by
  show pe _ q (k+m)+(if k≤k+m then x*b (k+m-k) else 0)*q^(k+m)=x*q^k*(pe b q m+b m*q^m)
  rw [pe_shift m,if_pos (by omega),Nat.add_sub_cancel_left,pow_addQ];grind
theorem pe_cv{a b:Nat→Rat}{q:Rat}{m:Nat}(hb:∀ i,m≤i→b i=0):∀ k,pe (cv a b k) q (k+m)=pe a q k*pe b q m
 | 0=>by
  show _=(0:Rat)*_
  rw [Rat.zero_mul];exact pe_zero fun i hi=>rfl
 | k+1=>by
  have h1:pe (cv a b (k+1)) q (k+1+m)=pe (faddQ (cv a b k) (fun j=>if k≤j then a k*b (j-k) else 0)) q (k+1+m):=pe_congr fun i hi=>rfl
  rw [h1,pe_add,show k+1+m=(k+m)+1 by omega];have h2:pe (cv a b k) q (k+m+1)=pe (cv a b k) q (k+m):=pe_more (n:=k+m) (fun i hi=>conv_zQ fun j hj hji=>by rw [hb (i-j) (by omega),Rat.mul_zero]) 1;rw [h2,pe_cv hb k];have h3:=pe_shift (b:=b) (q:=q) (x:=a k) (k:=k) (m+1);rw [← Nat.add_assoc] at h3;rw [h3];show _=(pe a q k+a k*q^k)*_
  have h4:pe b q (m+1)=pe b q m:=pe_more hb 1;rw [h4];grind
/-- The product's value. -/
theorem pe_conv{a b:Nat→Rat}{q:Rat}{n m:Nat}(ha:∀ i,n≤i→a i=0)(hb:∀ i,m≤i→b i=0):pe (conv a b) q (n+m)=pe a q n*pe b q m:=by
 rw [← pe_cv hb n];exact pe_congr fun i hi=>(cv_convQ ha).symm
/-- The value of a row of whole numbers. -/
def pz(c:Nat→Int)(q:Rat)(n:Nat):Rat:=pe (rc c) q n
theorem pz_eq{c:Nat→Int}{q:Rat}{n m:Nat}(h:∀ i,n≤i→c i=0)(k:∀ i,m≤i→c i=0):pz c q n=pz c q m:=pe_eq (rc_z h) (rc_z k)
theorem pz_conv{a b:Nat→Int}{q:Rat}{n m p:Nat}(ha:∀ i,n≤i→a i=0)(hb:∀ i,m≤i→b i=0)(hp:∀ i,p≤i→conv a b i=0):pz (conv a b) q p=pz a q n*pz b q m:=by
 rw [pz_eq hp (conv_z0 ha hb)];show pe _ q _=_
 rw [pe_congr (b:=conv (rc a) (rc b)) fun i _=>(rc_conv a b i).symm];exact pe_conv (rc_z ha) (rc_z hb)
theorem pz_scl{a:Nat→Int}{q:Rat}{n:Nat}(y:Int):pz (fscl a y) q n=pz a q n*(y:Rat):=by
 show pe _ q _=_
 rw [pe_congr (a:=rc (fscl a y)) (b:=fsclQ (rc a) (y:Rat)) fun i _=>Rat.intCast_mul _ _];exact pe_scl n
theorem pz_vl(c:Nat→Int)(q:Rat)(n:Nat):vlQ (rc c) q n n=pz c q n:=pe_vl _ _ _
/-! ### Far out -/
theorem sgn_pos{d:Int}(h:0 < d):sgn d=1:=by unfold sgn;rw [if_neg (by omega),if_neg (by omega)]
theorem sgn_neg{d:Int}(h:d < 0):sgn d= -1:=by unfold sgn;rw [if_pos h]
theorem sgn_zero:sgn 0=0:=rfl
theorem sgn_mul(a b:Int):sgn (a*b)=sgn a*sgn b:=by
 rcases Int.lt_trichotomy a 0 with ha | ha | ha
 ·rcases Int.lt_trichotomy b 0 with hb | hb | hb
  ·rw [sgn_neg ha,sgn_neg hb,sgn_pos (Int.mul_pos_of_neg_of_neg ha hb)];rfl
  ·rw [hb,Int.mul_zero,sgn_zero,Int.mul_zero]
  ·rw [sgn_neg ha,sgn_pos hb,sgn_neg (Int.mul_neg_of_neg_of_pos ha hb)];rfl
 ·rw [ha,Int.zero_mul,sgn_zero,Int.zero_mul]
 ·rcases Int.lt_trichotomy b 0 with hb | hb | hb
  ·rw [sgn_pos ha,sgn_neg hb,sgn_neg (Int.mul_neg_of_pos_of_neg ha hb)];rfl
  ·rw [hb,Int.mul_zero,sgn_zero,Int.mul_zero]
  ·rw [sgn_pos ha,sgn_pos hb,sgn_pos (Int.mul_pos ha hb)];rfl
theorem sgn_far{v x c:Int}(hv:v≠0)(h:c.natAbs < x.natAbs):sgn (v*x+c)=sgn v*sgn x:=by
 rw [← sgn_mul];have h1:x.natAbs≤(v*x).natAbs:=by rw [Int.natAbs_mul];exact Nat.le_mul_of_pos_left _ (Int.natAbs_pos.2 hv)
 rcases Int.lt_trichotomy (v*x) 0 with e | e | e
 ·rw [sgn_neg e,sgn_neg (by omega)]
 ·rw [e] at h1;have:(0:Int).natAbs=0:=rfl;omega
 ·rw [sgn_pos e,sgn_pos (by omega)]
theorem sgn_ne{z:Int}:sgn z≠0↔z≠0:=by unfold sgn;constructor <;> intro h <;> (repeat' split at *) <;> omega
theorem far_sgn{c:Nat→Int}{x:Int}{top:Nat}(h:∀ i,i < top→(c i).natAbs < x.natAbs)(h0:c (top-1)≠0):∀ s,s < top→sgn (vlZ c x 1 top (s+1))=sgn (c (top-1))*(sgn x)^s
 | 0,hs=>by
  show sgn (0*x+c (top-1-0)*1^0)=_
  rw [Int.zero_mul,Int.zero_add,Int.pow_zero,Int.mul_one,Int.pow_zero,Int.mul_one,Nat.sub_zero]
 | s+1,hs=>by
  have ih:=far_sgn h h0 s (by omega);have hx:x≠0:=by have:=h 0 (by omega);omega
  have hv:vlZ c x 1 top (s+1)≠0:=by
   rw [← sgn_ne,ih];exact Int.mul_ne_zero (sgn_ne.2 h0) (pow_ne_int (sgn_ne.2 hx) s)
  show sgn (vlZ c x 1 top (s+1)*x+c (top-1-(s+1))*1^(s+1))=_
  rw [Int.one_pow,Int.mul_one,sgn_far hv (h _ (by omega)),ih,Int.pow_succ,Int.mul_assoc]
theorem vl_one{a:Nat→Int}{x:Int}{top:Nat}:∀ s,((vlZ a x 1 top s:Int):Rat)=vlQ (rc a) (x:Rat) top s
 | 0=>rfl
 | s+1=>by
  show ((vlZ a x 1 top s*x+a (top-1-s)*1^s:Int):Rat)=vlQ (rc a) (x:Rat) top s*(x:Rat)+rc a (top-1-s)
  rw [Int.one_pow,Int.mul_one,Rat.intCast_add,Rat.intCast_mul,vl_one s];rfl
/-- The sum of all sizes. -/
def szs(c:Nat→Int):Nat→Int
 | 0=>0
 | n+1=>szs c n+((c n).natAbs:Int)
theorem szs_nn(c:Nat→Int):∀ n,0≤szs c n
 | 0=>Int.le_refl _
 | n+1=>by show 0≤szs c n+_;have:=szs_nn c n;omega
theorem szs_le{c:Nat→Int}:∀ {n i:Nat},i < n→((c i).natAbs:Int)≤szs c n
 | n+1,i,h=>by
  show _≤szs c n+_
  have:=szs_nn c n;rcases Nat.eq_or_lt_of_le (Nat.le_of_lt_succ h) with e | e
  ·subst e;omega
  ·have:=szs_le (c:=c) e;omega
/-- Rows that are 0 everywhere. -/
theorem pz_zero{c:Nat→Int}{n:Nat}(hz:∀ i,n≤i→c i=0)(h:∀ x:Int,pz c (x:Rat) n=0):∀ i,c i=0:=by
 have hd:dg c n=0:=by
  refine Classical.byContradiction fun hne=>?_
  have h0:=dg_ne hne
  let m:=dg c n
  have h1:=far_sgn (c:=c) (x:=1+szs c m) (top:=m) (fun i hi=>by have:=szs_le (c:=c) hi;have:=szs_nn c m;omega) h0 (m-1) (by omega);rw [show m-1+1=m by omega] at h1;have h2:vlZ c (1+szs c m) 1 m m=0:=by
   have h3:=vl_one (a:=c) (x:=1+szs c m) (top:=m) m;rw [pz_vl,pz_eq (dg_z hz) hz,h] at h3;exact Rat.intCast_eq_zero_iff.1 h3
  rw [h2] at h1;have hx:(1+szs c m)≠0:=by have:=szs_nn c m;omega
  exact Int.mul_ne_zero (sgn_ne.2 h0) (pow_ne_int (sgn_ne.2 hx) (m-1)) h1.symm
 exact dg_all hz hd
theorem pz_sub{a b:Nat→Int}{q:Rat}{n:Nat}:pz (fsub a b) q n=pz a q n-pz b q n:=by
 have h:pe (faddQ (rc a) (fsclQ (rc b) (-1))) q n=pz (fsub a b) q n:=pe_congr fun i _=>by
  show rc a i+rc b i*(-1)=((a i-b i:Int):Rat)
  rw [Rat.intCast_sub];show (a i:Rat)+(b i:Rat)*(-1)=_;grind
 rw [← h,pe_add,pe_scl];show _=pe (rc a) q n-pe (rc b) q n
 grind
/-- THE LAW OF ONE: rows that have one value at all whole numbers are one. -/
theorem pz_one{a b:Nat→Int}{n m:Nat}(ha:∀ i,n≤i→a i=0)(hb:∀ i,m≤i→b i=0)(h:∀ x:Int,pz a (x:Rat) n=pz b (x:Rat) m):∀ i,a i=b i:=by
 have hz:∀ i,max n m≤i→fsub a b i=0:=fsub_z ha hb
 have h1:=pz_zero hz (fun x=>by
  rw [pz_sub,pz_eq (c:=a) (n:=max n m) (m:=n) (fun i hi=>ha i (by omega)) ha,pz_eq (c:=b) (n:=max n m) (m:=m) (fun i hi=>hb i (by omega)) hb,h];grind)
 intro i;have:=h1 i;unfold fsub at this;omega
theorem vl_pz(c:Nat→Int)(q:Rat)(n:Nat):((vlZ c q.num (q.den:Int) n n:Int):Rat)*((q.den:Int):Rat)=((q.den:Int):Rat)^n*pz c q n:=by rw [vl_hv,pz_vl]
/-- Two rows one behind the other. -/
def catF{α:Type}(n:Nat)(c d:Nat→α):Nat→α:=fun i=>bif Nat.ble (i+1) n then c i else d (i-n)
theorem catF_l{α:Type}{n i:Nat}{c d:Nat→α}(h:i < n):catF n c d i=c i:=by unfold catF;rw [show Nat.ble (i+1) n=true from Nat.ble_eq_true_of_le h];rfl
/-- The least common denominator of the first n. -/
def lcd(q:Nat→Rat):Nat→Nat
 | 0=>1
 | n+1=>Nat.lcm (lcd q n) (q n).den
theorem lcd_pos{q:Nat→Rat}:∀ n,0 < lcd q n
 | 0=>Nat.one_pos
 | n+1=>Nat.lcm_pos (lcd_pos n) (q n).den_pos
theorem lcd_dvd{q:Nat→Rat}{i:Nat}:∀ {n},i < n→(q i).den∣lcd q n
 | 0,h=>absurd h (Nat.not_lt_zero _)
 | n+1,h=>by
  rcases Nat.lt_or_ge i n with h1 | h1
  ·exact Nat.dvd_trans (lcd_dvd h1) (Nat.dvd_lcm_left _ _)
  ·obtain rfl:i=n:=by omega
   exact Nat.dvd_lcm_right _ _
theorem gcdN_cg{c d:Nat→Int}:∀ {n:Nat},(∀ i,i < n→c i=d i)→gcdN c n=gcdN d n
 | 0,_=>rfl
 | n+1,h=>by show Nat.gcd (gcdN c n) _=Nat.gcd (gcdN d n) _;rw [gcdN_cg (fun i hi=>h i (by omega)),h n (by omega)]
theorem gcdN_dvd{c:Nat→Int}{i:Nat}:∀ {n},i < n→gcdN c n∣(c i).natAbs
 | 0,h=>absurd h (Nat.not_lt_zero _)
 | n+1,h=>by
  rcases Nat.lt_or_ge i n with h1 | h1
  ·exact Nat.dvd_trans (Nat.gcd_dvd_left _ _) (gcdN_dvd h1)
  ·obtain rfl:i=n:=by omega
   exact Nat.gcd_dvd_right _ _
/-- A normal curve's coefficients, over L. -/
def cX(L:Nat)(c:Nat→Rat):Nat→Int:=fun i=>(c i*mkR (L:Int) 1).num
theorem cX_z{L n:Nat}{c:Nat→Rat}(h:∀ i,n≤i→c i=0):∀ i,n≤i→cX L c i=0:=fun i hi=>by unfold cX;rw [h i hi,Rat.zero_mul];rfl
def crL(n m:Nat)(p q:Nat→Rat):Nat:=lcd (catF (dg p n) p q) (dg p n+dg q m)
/-- Each over a number. -/
def fdv(c:Nat→Int)(g:Int):Nat→Int:=fun i=>c i / g
theorem fdv_z{c:Nat→Int}{g:Int}{n:Nat}(h:∀ i,n≤i→c i=0):∀ i,n≤i→fdv c g i=0:=fun i hi=>by unfold fdv;rw [h i hi];exact Int.zero_ediv _
theorem cX_den{L:Nat}{p:Nat→Rat}{i:Nat}(h:(p i).den∣L):rc (cX L p) i=p i*mkR (L:Int) 1:=by
 obtain ⟨e,rfl⟩:=h;have h:=mkR_div (x:=(p i).num) (y:=((p i).den:Int)) (by have:=(p i).den_pos;omega);rw [mkR_self] at h;have h2:p i*mkR (((p i).den*e:Nat):Int) 1=(((p i).num*(e:Int):Int):Rat):=by
  rw [mkR_int,Int.natCast_mul,Rat.intCast_mul,← Rat.mul_assoc,h,← Rat.intCast_mul]
 show (((p i*mkR (((p i).den*e:Nat):Int) 1).num:Int):Rat)=_
 rw [h2,Rat.num_intCast]
theorem crL_pos{n m:Nat}{p q:Nat→Rat}:0 < crL n m p q:=lcd_pos _
theorem rc_cX{n m:Nat}{p q:Nat→Rat}(zp:∀ i,n≤i→p i=0)(i:Nat):rc (cX (crL n m p q) p) i=p i*mkR (crL n m p q:Int) 1:=by
 by_cases h:i < dg p n
 ·refine cX_den ?_
  have:=lcd_dvd (q:=catF (dg p n) p q) (i:=i) (n:=dg p n+dg q m) (by omega);rwa [catF_l h] at this
 ·have hp:p i=0:=dg_z zp i (by omega)
  unfold rc cX;rw [hp,Rat.zero_mul];rfl
/-- Rows with one value at all whole numbers are one. -/
theorem pe_none{c:Nat→Rat}{n:Nat}(hz:∀ i,n≤i→c i=0)(h:∀ x:Int,pe c (x:Rat) n=0)(i:Nat):c i=0:=by
 have hL:=crL_pos (n:=n) (m:=0) (p:=c) (q:=fun _=>0);have hc:∀ j,rc (cX (crL n 0 c fun _=>0) c) j=fsclQ c (mkR (crL n 0 c fun _=>0:Int) 1) j:=fun j=>rc_cX hz j
 have h0:=pz_zero (c:=cX (crL n 0 c fun _=>0) c) (n:=n) (cX_z hz) (fun x=>by
  show pe (rc _) _ _=0
  rw [funext hc,pe_scl,h x,Rat.zero_mul]) i
 have h1:=rc_cX (m:=0) (q:=fun _=>0) hz i;unfold rc at h1;rw [h0,mkR_int] at h1;rcases Rat.mul_eq_zero.1 h1.symm with h2 | h2
 ·exact h2
 ·have:=Rat.intCast_eq_zero_iff.1 h2;omega
theorem pe_one{a b:Nat→Rat}{n m:Nat}(ha:∀ i,n≤i→a i=0)(hb:∀ i,m≤i→b i=0)(h:∀ x:Int,pe a (x:Rat) n=pe b (x:Rat) m)(i:Nat):a i=b i:=by
 have hz:∀ j,max n m≤j→faddQ a (fsclQ b (-1)) j=0:=fun j hj=>by
  show a j+b j* -1=0
  rw [ha j (by omega),hb j (by omega)];grind
 have h0:=pe_none hz (fun x=>by
  rw [pe_add,pe_scl,pe_eq (m:=n) (fun j hj=>ha j (by omega)) ha,pe_eq (a:=b) (m:=m) (fun j hj=>hb j (by omega)) hb,h x];grind) i
 have h1:a i+b i* -1=0:=h0;grind
/-! ### Bounds of values -/
def Ab(x e:Rat):Prop:= -e≤x∧x≤e
theorem Ab.add{x y d e:Rat}(h:Ab x d)(k:Ab y e):Ab (x+y) (d+e):=by unfold Ab at *;constructor <;> grind
theorem Ab.sub{x y d e:Rat}(h:Ab x d)(k:Ab y e):Ab (x-y) (d+e):=by unfold Ab at *;constructor <;> grind
theorem Ab.mul{x y d e:Rat}(h:Ab x d)(k:Ab y e):Ab (x*y) (d*e):=mul_bd h.1 h.2 k.1 k.2
theorem Ab.mono{x d e:Rat}(h:Ab x d)(k:d≤e):Ab x e:=by unfold Ab at *;constructor <;> grind
theorem Ab.nn{x e:Rat}(h:Ab x e):0≤e:=by unfold Ab at h;grind
theorem Ab.eq{x y e:Rat}(h:Ab x e)(k:x=y):Ab y e:=k▸h
theorem ab_zero{e:Rat}(h:0≤e):Ab 0 e:=by unfold Ab;constructor <;> grind
theorem pow_ge{B:Rat}(h:1≤B):∀ n:Nat,1≤B^n
 | 0=>by rw [Rat.pow_zero];grind
 | n+1=>by rw [Rat.pow_succ];have h1:=pow_ge h n;have:=Rat.mul_nonneg (a:=B^n-1) (b:=B-1) (by grind) (by grind);grind
theorem pow_up{B:Rat}(h:1≤B)(n:Nat):B^n≤B^(n+1):=by
 rw [Rat.pow_succ];have h1:=pow_ge h n;have:=Rat.mul_nonneg (a:=B^n) (b:=B-1) (by grind) (by grind);grind
theorem pow_mono{B:Rat}(h:1≤B){n m:Nat}(hnm:n≤m):B^n≤B^m:=by
 induction hnm with
 | refl=>grind
 | step _ ih=>have:=pow_up h;grind
theorem nat_nn(n:Nat):(0:Rat)≤(n:Rat):=by exact_mod_cast Nat.zero_le n
theorem nat_succ(n:Nat):((n+1:Nat):Rat)=(n:Rat)+1:=by exact_mod_cast rfl
/-- Powers. -/
theorem pw_bd{B q:Rat}(hB:1≤B)(hq:Ab q B):∀ n:Nat,Ab (q^n) (B^n)
 | 0=>by rw [Rat.pow_zero,Rat.pow_zero];unfold Ab;constructor <;> grind
 | n+1=>by rw [Rat.pow_succ,Rat.pow_succ];exact (pw_bd hB hq n).mul hq
theorem pw_lip{B s t:Rat}(hB:1≤B)(hs:Ab s B)(ht:Ab t B)(hst:s≤t):∀ n:Nat,Ab (t^n-s^n) ((n:Rat)*B^n*(t-s))
 | 0=>by rw [Rat.pow_zero,Rat.pow_zero];refine (ab_zero (e:=0) (by grind)).eq (by grind) |>.mono ?_;have:((0:Nat):Rat)=0:=rfl;rw [this];grind
 | n+1=>by
  have ih:=pw_lip hB hs ht hst n;have h1:t^(n+1)-s^(n+1)=(t^n-s^n)*t+s^n*(t-s):=by rw [Rat.pow_succ,Rat.pow_succ];grind
  have h2:Ab (t-s) (t-s):=by unfold Ab;constructor <;> grind
  rw [h1];refine ((ih.mul ht).add ((pw_bd hB hs n).mul h2)).mono ?_;have hb:=pow_ge hB n;have h3:=Rat.mul_nonneg (a:=B^n*(t-s)) (b:=B-1) (Rat.mul_nonneg (by grind) (by grind)) (by grind);rw [nat_succ,Rat.pow_succ];grind
theorem pw_tay{B s t:Rat}(hB:1≤B)(hs:Ab s B)(ht:Ab t B)(hst:s≤t):∀ n:Nat,Ab (t^(n+1)-s^(n+1)-(t-s)*(((n+1:Nat):Rat)*s^n)) (((n+1:Nat):Rat)*((n+1:Nat):Rat)*B^(n+1)*((t-s)*(t-s)))
 | 0=>by
  refine (ab_zero (e:=0) (by grind)).eq ?_ |>.mono ?_
  ·rw [Rat.pow_succ,Rat.pow_succ,Rat.pow_zero,Rat.pow_zero];have:((0+1:Nat):Rat)=1:=rfl;rw [this];grind
  ·refine Rat.mul_nonneg (Rat.mul_nonneg (Rat.mul_nonneg (nat_nn _) (nat_nn _)) ?_) (Rat.mul_nonneg (by grind) (by grind))
   have:=pow_ge hB (0+1);grind
 | n+1=>by
  have ih:=pw_tay hB hs ht hst n;have e:t^(n+1+1)-s^(n+1+1)-(t-s)*(((n+1+1:Nat):Rat)*s^(n+1))=(t^(n+1)-s^(n+1)-(t-s)*(((n+1:Nat):Rat)*s^n))*t+(((n+1:Nat):Rat)*s^n)*((t-s)*(t-s)):=by
   rw [Rat.pow_succ t (n+1),Rat.pow_succ s (n+1),Rat.pow_succ s n,nat_succ (n+1)];grind
  rw [e];have hsq:0≤(t-s)*(t-s):=Rat.mul_nonneg (by grind) (by grind);have h2:Ab ((t-s)*(t-s)) ((t-s)*(t-s)):=by unfold Ab;constructor <;> grind
  have hn:Ab (((n+1:Nat):Rat)) (((n+1:Nat):Rat)):=by have:=nat_nn (n+1);unfold Ab;constructor <;> grind
  refine ((ih.mul ht).add ((hn.mul (pw_bd hB hs n)).mul h2)).mono ?_;have hb:=pow_ge hB n;have hb1:=pow_up hB n;have hb2:=pow_up hB (n+1);have hN:=nat_nn (n+1);have e1:((n+1+1:Nat):Rat)=((n+1:Nat):Rat)+1:=nat_succ (n+1);rw [e1];generalize ((n+1:Nat):Rat)=N at *
  generalize (t-s)*(t-s)=Z at *
  have e2:N*N*B^(n+1)*Z*B=N*N*B^(n+1+1)*Z:=by rw [Rat.pow_succ B (n+1)];grind
  rw [e2];have h5:N*B^n*Z≤N*B^(n+1+1)*Z:=Rat.mul_le_mul_of_nonneg_right (Rat.mul_le_mul_of_nonneg_left (by grind) hN) hsq;have h6:0≤B^(n+1+1)*Z:=Rat.mul_nonneg (by grind) hsq;have h7:0≤N*(B^(n+1+1)*Z):=Rat.mul_nonneg hN h6;grind
/-! ### Bounds of polynomials -/
def derQ(c:Nat→Rat):Nat→Rat:=fun i=>((i+1:Nat):Rat)*c (i+1)
theorem derQ_z{c:Nat→Rat}{n:Nat}(h:∀ i,n≤i→c i=0):∀ i,n-1≤i→derQ c i=0:=fun i hi=>by unfold derQ;rw [h (i+1) (by omega),Rat.mul_zero]
/-- The bound of one place. -/
def TB(N:Nat)(H B:Rat):Rat:=(N:Rat)*(N:Rat)*B^N*H
section
variable {c:Nat→Rat} {N:Nat} {H B:Rat}
theorem tb_nn(hB:1≤B)(hH:0≤H):0≤TB N H B:=Rat.mul_nonneg (Rat.mul_nonneg (Rat.mul_nonneg (nat_nn _) (nat_nn _)) (by have:=pow_ge hB N;grind)) hH
theorem nat_le{a b:Nat}(h:a≤b):(a:Rat)≤(b:Rat):=by exact_mod_cast h
theorem tb_1(hB:1≤B)(hH:0≤H){i:Nat}(hi:i+1≤N):H*B^i≤TB N H B:=by
 have h1:B^i≤B^N:=pow_mono hB (by omega);have h2:(1:Rat)≤(N:Rat):=nat_le (show 1≤N by omega);have h3:=pow_ge hB N;have h4:(1:Rat)≤(N:Rat)*(N:Rat):=by have:=Rat.mul_nonneg (a:=(N:Rat)-1) (b:=(N:Rat)+1) (by grind) (by grind);grind
 have h5:H*B^i≤H*B^N:=Rat.mul_le_mul_of_nonneg_left h1 hH;have h6:0≤H*B^N:=Rat.mul_nonneg hH (by grind);have h7:=Rat.mul_nonneg (a:=(N:Rat)*(N:Rat)-1) (b:=H*B^N) (by grind) h6;unfold TB;grind
theorem tb_2(hB:1≤B)(hH:0≤H){i:Nat}(hi:i+1≤N):H*((i:Rat)*B^i)≤TB N H B:=by
 have h1:B^i≤B^N:=pow_mono hB (by omega);have h2:(i:Rat)≤(N:Rat):=nat_le (by omega);have h3:=pow_ge hB N;have h8:(1:Rat)≤(N:Rat):=nat_le (show 1≤N by omega);have h4:(i:Rat)≤(N:Rat)*(N:Rat):=by have:=Rat.mul_nonneg (a:=(N:Rat)) (b:=(N:Rat)-1) (by grind) (by grind);grind
 have h5:(i:Rat)*B^i≤(N:Rat)*(N:Rat)*B^N:=by
  have a1:(i:Rat)*B^i≤(i:Rat)*B^N:=Rat.mul_le_mul_of_nonneg_left h1 (nat_nn _);have a2:(i:Rat)*B^N≤(N:Rat)*(N:Rat)*B^N:=Rat.mul_le_mul_of_nonneg_right h4 (by grind);grind
 have h6:H*((i:Rat)*B^i)≤H*((N:Rat)*(N:Rat)*B^N):=Rat.mul_le_mul_of_nonneg_left h5 hH;unfold TB;grind
theorem tb_3(hB:1≤B)(hH:0≤H){i:Nat}(hi:i+1≤N):H*((i:Rat)*(i:Rat)*B^i)≤TB N H B:=by
 have h1:B^i≤B^N:=pow_mono hB (by omega);have h2:(i:Rat)≤(N:Rat):=nat_le (by omega);have h3:=pow_ge hB N;have h4:(i:Rat)*(i:Rat)≤(N:Rat)*(N:Rat):=by
  have a1:(i:Rat)*(i:Rat)≤(i:Rat)*(N:Rat):=Rat.mul_le_mul_of_nonneg_left h2 (nat_nn _);have a2:(i:Rat)*(N:Rat)≤(N:Rat)*(N:Rat):=Rat.mul_le_mul_of_nonneg_right h2 (nat_nn _);grind
 have h5:(i:Rat)*(i:Rat)*B^i≤(N:Rat)*(N:Rat)*B^N:=by
  have a1:(i:Rat)*(i:Rat)*B^i≤(i:Rat)*(i:Rat)*B^N:=Rat.mul_le_mul_of_nonneg_left h1 (Rat.mul_nonneg (nat_nn _) (nat_nn _));have a2:(i:Rat)*(i:Rat)*B^N≤(N:Rat)*(N:Rat)*B^N:=Rat.mul_le_mul_of_nonneg_right h4 (by grind);grind
 have h6:H*((i:Rat)*(i:Rat)*B^i)≤H*((N:Rat)*(N:Rat)*B^N):=Rat.mul_le_mul_of_nonneg_left h5 hH;unfold TB;grind
theorem pe_bd(hB:1≤B)(hH:0≤H){q:Rat}(hq:Ab q B):∀ {n:Nat},n≤N→(∀ i,i < n→Ab (c i) H)→Ab (pe c q n) ((n:Rat)*TB N H B)
 | 0,_,_=>by show Ab 0 _;have:((0:Nat):Rat)=0:=rfl;rw [this,Rat.zero_mul];exact ab_zero (by grind)
 | n+1,hn,hc=>by
  show Ab (pe c q n+c n*q^n) _
  refine ((pe_bd hB hH hq (by omega) fun i hi=>hc i (by omega)).add (((hc n (by omega)).mul (pw_bd hB hq n)).mono (tb_1 hB hH hn))).mono ?_;rw [nat_succ];grind
theorem pe_lip(hB:1≤B)(hH:0≤H){s t:Rat}(hs:Ab s B)(ht:Ab t B)(hst:s≤t):∀ {n:Nat},n≤N→(∀ i,i < n→Ab (c i) H)→Ab (pe c t n-pe c s n) ((n:Rat)*TB N H B*(t-s))
 | 0,_,_=>by show Ab (0-0) _;have:((0:Nat):Rat)=0:=rfl;rw [this,Rat.zero_mul,Rat.zero_mul];exact (ab_zero (e:=0) (by grind)).eq (by grind)
 | n+1,hn,hc=>by
  have ih:=pe_lip hB hH hs ht hst (n:=n) (by omega) fun i hi=>hc i (by omega)
  have h1:=(hc n (by omega)).mul (pw_lip hB hs ht hst n);have h2:=Rat.mul_le_mul_of_nonneg_right (tb_2 hB hH hn) (show 0≤t-s by grind);refine ((ih.add h1).eq (y:=pe c t (n+1)-pe c s (n+1)) ?_).mono ?_
  ·show _=(pe c t n+c n*t^n)-(pe c s n+c n*s^n);grind
  ·rw [nat_succ];grind
theorem pe_tay(hB:1≤B)(hH:0≤H){s t:Rat}(hs:Ab s B)(ht:Ab t B)(hst:s≤t):∀ {n:Nat},n≤N→(∀ i,i < n→Ab (c i) H)→Ab (pe c t n-pe c s n-(t-s)*pe (derQ c) s (n-1)) ((n:Rat)*TB N H B*((t-s)*(t-s)))
 | 0,_,_=>by show Ab (0-0-(t-s)*0) _;have:((0:Nat):Rat)=0:=rfl;rw [this,Rat.zero_mul,Rat.zero_mul];exact (ab_zero (e:=0) (by grind)).eq (by grind)
 | 1,hn,hc=>by
  refine ((ab_zero (e:=0) (by grind)).eq ?_).mono ?_
  ·show 0=(0+c 0*t^0)-(0+c 0*s^0)-(t-s)*0;rw [Rat.pow_zero,Rat.pow_zero];grind
  ·exact Rat.mul_nonneg (Rat.mul_nonneg (nat_nn _) (tb_nn hB hH)) (Rat.mul_nonneg (by grind) (by grind))
 | n+1+1,hn,hc=>by
  have ih:=pe_tay hB hH hs ht hst (n:=n+1) (by omega) fun i hi=>hc i (by omega)
  have h1:=(hc (n+1) (by omega)).mul (pw_tay hB hs ht hst n);have h2:=Rat.mul_le_mul_of_nonneg_right (tb_3 hB hH hn) (show 0≤(t-s)*(t-s) from Rat.mul_nonneg (by grind) (by grind));refine ((ih.add h1).eq (y:=pe c t (n+1+1)-pe c s (n+1+1)-(t-s)*pe (derQ c) s (n+1+1-1)) ?_).mono ?_
  ·show _=(pe c t (n+1)+c (n+1)*t^(n+1))-(pe c s (n+1)+c (n+1)*s^(n+1))-(t-s)*(pe (derQ c) s n+(((n+1:Nat):Rat)*c (n+1))*s^n)
   rw [show n+1-1=n by omega];grind
  ·rw [nat_succ (n+1)];grind
end
/-- Some bound of the coefficients. -/
theorem ex_H(c:Nat→Rat):∀ n:Nat,∃ H:Rat,0≤H∧∀ i,i < n→Ab (c i) H
 | 0=>⟨0,by grind,fun i hi=>absurd hi (Nat.not_lt_zero _)⟩
 | n+1=>by
  obtain ⟨H,hH,h⟩:=ex_H c n;refine ⟨H+(if c n < 0 then -(c n) else c n),by split <;> grind,fun i hi=>?_⟩
  by_cases e:i < n
  ·exact (h i e).mono (by split <;> grind)
  ·obtain rfl:i=n:=by omega
   unfold Ab;constructor <;> (split <;> grind)
theorem ab_in{B x:Rat}(h:In B x){D:Rat}(hD:B≤D):Ab x D:=by unfold In at h;unfold Ab;constructor <;> grind
theorem ex_B(B:Rat):∃ D:Rat,1≤D∧B≤D:=⟨if B < 1 then 1 else B,by split <;> grind,by split <;> grind⟩
theorem pe_Lip(c:Nat→Rat)(n:Nat)(B:Rat):∃ L,0≤L∧Lip B (fun q=>pe c q n) L:=by
 obtain ⟨H,hH,hc⟩:=ex_H c n;obtain ⟨D,hD,hBD⟩:=ex_B B;refine ⟨(n:Rat)*TB n H D,Rat.mul_nonneg (nat_nn _) (tb_nn hD hH),fun x y hx hy hxy=>?_⟩;have h:=pe_lip hD hH (ab_in hx hBD) (ab_in hy hBD) hxy (Nat.le_refl n) hc;unfold Ab at h;constructor <;> grind
theorem pe_Bd(c:Nat→Rat)(n:Nat)(B:Rat):∃ M,0≤M∧∀ x,In B x→-M≤pe c x n∧pe c x n≤M:=by
 obtain ⟨H,hH,hc⟩:=ex_H c n;obtain ⟨D,hD,hBD⟩:=ex_B B;exact ⟨(n:Rat)*TB n H D,Rat.mul_nonneg (nat_nn _) (tb_nn hD hH),fun x hx=>pe_bd hD hH (ab_in hx hBD) (Nat.le_refl n) hc⟩
theorem pe_Der(c:Nat→Rat)(n:Nat)(B:Rat):∃ E,0≤E∧∀ s t,In B s→In B t→s≤t→(pe c t n-pe c s n)-(t-s)*pe (derQ c) s (n-1)≤(t-s)*((t-s)*E)∧(t-s)*pe (derQ c) s (n-1)-(pe c t n-pe c s n)≤(t-s)*((t-s)*E):=by
 obtain ⟨H,hH,hc⟩:=ex_H c n;obtain ⟨D,hD,hBD⟩:=ex_B B;refine ⟨(n:Rat)*TB n H D,Rat.mul_nonneg (nat_nn _) (tb_nn hD hH),fun s t hs ht hst=>?_⟩;have h:=pe_tay hD hH (ab_in hs hBD) (ab_in ht hBD) hst (Nat.le_refl n) hc;unfold Ab at h;constructor <;> grind
/-! ### Polynomials as functions -/
def Pl(n:Nat)(f:Fn):Prop:=∃ c:Nat→Rat,(∀ i,n≤i→c i=0)∧∀ q,f q=pe c q n
def Po(f:Fn):Prop:=∃ n,Pl n f
/-- .. of degree k, a in front. -/
def Lc(k:Nat)(f:Fn)(a:Rat):Prop:=∃ c:Nat→Rat,(∀ i,k < i→c i=0)∧c k=a∧a≠0∧∀ q,f q=pe c q (k+1)
theorem Pl.mono{n m:Nat}{f:Fn}(h:Pl n f)(k:n≤m):Pl m f:=by
 obtain ⟨c,hz,hf⟩:=h;exact ⟨c,fun i hi=>hz i (by omega),fun q=>(hf q).trans (pe_eq hz fun i hi=>hz i (by omega))⟩
theorem Pl.po{n:Nat}{f:Fn}(h:Pl n f):Po f:=⟨n,h⟩
theorem Po.congr{f g:Fn}(h:Po f)(e:∀ x,f x=g x):Po g:=by obtain rfl:f=g:=funext e;exact h
theorem Pl.add{n m:Nat}{f g:Fn}(h:Pl n f)(k:Pl m g):Pl (max n m) (fun x=>f x+g x):=by
 obtain ⟨c,h1,h2⟩:=h.mono (Nat.le_max_left n m);obtain ⟨d,k1,k2⟩:=k.mono (Nat.le_max_right n m);exact ⟨faddQ c d,fun i hi=>by show c i+d i=0;rw [h1 i hi,k1 i hi];grind,fun q=>by rw [pe_add,← h2,← k2]⟩
theorem Pl.scl{n:Nat}{f:Fn}(h:Pl n f)(r:Rat):Pl n (fun x=>f x*r):=by
 obtain ⟨c,h1,h2⟩:=h;exact ⟨fsclQ c r,fsclQ_z h1,fun q=>by rw [pe_scl,← h2]⟩
theorem Pl.mul{n m:Nat}{f g:Fn}(h:Pl n f)(k:Pl m g):Pl (n+m) (fun x=>f x*g x):=by
 obtain ⟨c,h1,h2⟩:=h;obtain ⟨d,k1,k2⟩:=k;exact ⟨conv c d,conv_z0Q h1 k1,fun q=>by rw [pe_conv h1 k1,← h2,← k2]⟩
theorem pl_const(a:Rat):Pl 1 (fun _=>a):=⟨fun i=>if i=0 then a else 0,fun i hi=>if_neg (by omega),fun q=>by show a=0+(if 0=0 then a else 0)*q^0;rw [if_pos rfl,Rat.pow_zero];grind⟩
theorem pl_var:Pl 2 (fun x=>x):=⟨fun i=>if i=1 then 1 else 0,fun i hi=>if_neg (by omega),fun q=>by
 show q=(0+(if 0=1 then 1 else 0)*q^0)+(if 1=1 then 1 else 0)*q^1
 rw [if_neg (by decide),if_pos rfl,Rat.pow_succ,Rat.pow_zero];grind⟩
theorem Po.add{f g:Fn}:Po f→Po g→Po (fun x=>f x+g x):=fun ⟨_,h⟩ ⟨_,k⟩=>⟨_,h.add k⟩
theorem Po.mul{f g:Fn}:Po f→Po g→Po (fun x=>f x*g x):=fun ⟨_,h⟩ ⟨_,k⟩=>⟨_,h.mul k⟩
theorem Po.scl{f:Fn}(r:Rat):Po f→Po (fun x=>f x*r):=fun ⟨_,h⟩=>⟨_,h.scl r⟩
theorem Po.neg{f:Fn}(h:Po f):Po (fun x=> - f x):=(h.scl (-1)).congr fun x=>by grind
theorem Po.sub{f g:Fn}(h:Po f)(k:Po g):Po (fun x=>f x-g x):=(h.add k.neg).congr fun x=>by grind
theorem po_const(a:Rat):Po (fun _=>a):=⟨1,pl_const a⟩
theorem po_var:Po (fun x=>x):=⟨2,pl_var⟩
theorem Po.pow{f:Fn}(h:Po f):∀ n:Nat,Po (fun x=>f x^n)
 | 0=>(po_const 1).congr fun x=>by rw [Rat.pow_zero]
 | n+1=>((h.pow n).mul h).congr fun x=>by rw [Rat.pow_succ]
theorem pl_tri{f:Fn}:∀ {n:Nat},Pl n f→(∀ x,f x=0)∨∃ k a,k < n∧Lc k f a
 | 0,⟨c,_,h⟩=>Or.inl fun x=>h x
 | n+1,⟨c,hz,h⟩=>by
  by_cases h0:c n=0
  ·have hz':∀ i,n≤i→c i=0:=fun i hi=>by
    rcases Nat.eq_or_lt_of_le hi with e | e
    ·rw [← e];exact h0
    ·exact hz i e
   rcases pl_tri (n:=n) ⟨c,hz',fun q=>(h q).trans (pe_eq hz hz')⟩ with k | ⟨k,a,h1,h2⟩
   ·exact Or.inl k
   ·exact Or.inr ⟨k,a,by omega,h2⟩
  ·exact Or.inr ⟨n,c n,by omega,c,fun i hi=>hz i hi,rfl,h0,h⟩
theorem Lc.ne{k:Nat}{f:Fn}{a:Rat}(h:Lc k f a):∃ x,f x≠0:=by
 obtain ⟨c,h1,h2,h3,h4⟩:=h
 by_cases hh:∃ x,f x≠0
 ·exact hh
 ·exfalso
  have:∀ x,f x=0:=fun x=>by by_cases h:f x=0;exact h;exact absurd ⟨x,h⟩ hh
  have h5:=pe_none (c:=c) (n:=k+1) (fun i hi=>h1 i (by omega)) (fun x=>(h4 x).symm.trans (this x)) k;exact h3 (h2.symm.trans h5)
theorem Lc.uniq{k j:Nat}{f:Fn}{a b:Rat}(h:Lc k f a)(g:Lc j f b):k=j∧a=b:=by
 obtain ⟨c,h1,h2,h3,h4⟩:=h;obtain ⟨d,k1,k2,k3,k4⟩:=g;have e:=pe_one (a:=c) (b:=d) (n:=k+1) (m:=j+1) (fun i hi=>h1 i (by omega)) (fun i hi=>k1 i (by omega)) (fun x=>(h4 x).symm.trans (k4 x));have hkj:k=j:=by
  rcases Nat.lt_trichotomy k j with h | h | h
  ·exact absurd ((h1 j h).symm.trans (e j)).symm (by rw [k2];exact k3)
  ·exact h
  ·exact absurd ((e k).trans (k1 k h)) (by rw [h2];exact h3)
 subst hkj;exact ⟨rfl,by rw [← h2,← k2];exact e k⟩
theorem Lc.congr{k:Nat}{f g:Fn}{a:Rat}(h:Lc k f a)(e:∀ x,f x=g x):Lc k g a:=by obtain rfl:f=g:=funext e;exact h
theorem conv_topQ{c d:Nat→Rat}{k j:Nat}(h1:∀ i,k < i→c i=0)(h2:∀ i,j < i→d i=0):conv c d (k+j)=c k*d j:=by
 have key:∀ m,cv c d m (k+j)=if k < m then c k*d j else 0:=by
  intro m
  induction m with
  | zero=>rfl
  | succ m ih=>
   show cv c d m (k+j)+(if m≤k+j then c m*d (k+j-m) else 0)=_
   rw [ih];rcases Nat.lt_trichotomy m k with h | h | h
   ·rw [if_neg (by omega),if_pos (by omega),if_neg (by omega),h2 _ (by omega)];grind
   ·subst h;rw [if_neg (by omega),if_pos (by omega),if_pos (by omega),show m+j-m=j by omega];grind
   ·rw [if_pos h,if_pos (show k < m+1 by omega),h1 m h];split <;> grind
 unfold conv;rw [key,if_pos (by omega)]
theorem Lc.mul{k j:Nat}{f g:Fn}{a b:Rat}(h:Lc k f a)(g':Lc j g b):Lc (k+j) (fun x=>f x*g x) (a*b):=by
 obtain ⟨c,h1,h2,h3,h4⟩:=h;obtain ⟨d,k1,k2,k3,k4⟩:=g';have z1:∀ i,k+1≤i→c i=0:=fun i hi=>h1 i (by omega)
 have z2:∀ i,j+1≤i→d i=0:=fun i hi=>k1 i (by omega)
 have hz:∀ i,k+j < i→conv c d i=0:=fun i hi=>conv_beyondQ (n:=k+1) (m:=j+1) z1 z2 (by omega)
 refine ⟨conv c d,hz,by rw [conv_topQ h1 k1,h2,k2],fun e=>by rcases Rat.mul_eq_zero.1 e with e | e;exact h3 e;exact k3 e,fun q=>?_⟩;show f q*g q=_
 rw [h4,k4,← pe_conv z1 z2];exact pe_eq (conv_z0Q z1 z2) (fun i hi=>hz i (by omega))
/-- DIVISION with a remainder. -/
theorem po_div{m:Nat}{b:Fn}{β:Rat}(hb:Lc m b β):∀ (n:Nat) (a:Fn),Pl n a→∃ q r:Fn,Po q∧Pl m r∧∀ x,a x=q x*b x+r x
 | 0,a,ha=>⟨fun _=>0,a,po_const 0,ha.mono (Nat.zero_le _),fun x=>by grind⟩
 | n+1,a,ha=>by
  by_cases hnm:n+1≤m
  ·exact ⟨fun _=>0,a,po_const 0,ha.mono hnm,fun x=>by grind⟩
  ·obtain ⟨c,hz,hc⟩:=ha
   obtain ⟨d,h1,h2,h3,h4⟩:=hb;have hk:n-m+(m+1)=n+1:=by omega
   obtain ⟨γ,hγ⟩:∃ γ,γ*β=c n:=⟨c n / β,Rat.div_mul_cancel h3⟩
   obtain ⟨e,he⟩:∃ e:Nat→Rat,e=fun i=>if n-m≤i then γ*d (i-(n-m)) else 0:=⟨_,rfl⟩
   have hsh:∀ q,pe e q (n+1)=γ*q^(n-m)*b q:=fun q=>by rw [h4,← hk,he];exact pe_shift (m+1)
   have hen:e n=c n:=by
    rw [he];show (if n-m≤n then γ*d (n-(n-m)) else 0)=c n
    rw [if_pos (by omega),show n-(n-m)=m by omega,h2];exact hγ
   have hez:∀ i,n+1≤i→e i=0:=fun i hi=>by
    rw [he];show (if n-m≤i then γ*d (i-(n-m)) else 0)=0
    rw [if_pos (by omega),h1 _ (by omega)];grind
   have hz':∀ i,n≤i→faddQ c (fsclQ e (-1)) i=0:=fun i hi=>by
    show c i+e i* -1=0
    rcases Nat.eq_or_lt_of_le hi with h | h
    ·subst h;rw [hen];grind
    ·rw [hz i h,hez i h];grind
   obtain ⟨q,r,hq,hr,hqr⟩:=po_div ⟨d,h1,h2,h3,h4⟩ n (fun x=>a x-γ*x^(n-m)*b x) ⟨faddQ c (fsclQ e (-1)),hz',fun x=>by
    rw [← pe_eq (n:=n+1) (fun i hi=>hz' i (by omega)) hz',pe_add,pe_scl,hsh,← hc];grind⟩
   refine ⟨fun x=>q x+γ*x^(n-m),r,hq.add (((po_var.pow (n-m)).scl γ).congr fun x=>Rat.mul_comm _ _),hr,fun x=>?_⟩;have h5:a x-γ*x^(n-m)*b x=q x*b x+r x:=hqr x;show a x=(q x+γ*x^(n-m))*b x+r x
   generalize x^(n-m)=y at *
   clear hqr hsh hen hez hz' he hγ hc h4;grind
/-- BEZOUT. -/
theorem po_gcd:∀ (m:Nat) (a b:Fn),Po a→Pl m b→∃ d u v s t:Fn,Po d∧Po u∧Po v∧Po s∧Po t∧(∀ x,d x=u x*a x+v x*b x)∧(∀ x,a x=s x*d x)∧∀ x,b x=t x*d x:=by
 intro m
 induction m using Nat.strongRecOn with
 | ind m ih=>
  intro a b ha hb
  rcases pl_tri hb with h | ⟨k,β,hk,hlc⟩
  ·exact ⟨a,fun _=>1,fun _=>0,fun _=>1,fun _=>0,ha,po_const 1,po_const 0,po_const 1,po_const 0,fun x=>by grind,fun x=>by grind,fun x=>by rw [h x];grind⟩
  ·obtain ⟨n,ha'⟩:=ha
   obtain ⟨q,r,hq,hr,hqr⟩:=po_div hlc n a ha';obtain ⟨d,u,v,s,t,hd,hu,hv,hs,ht,e1,e2,e3⟩:=ih k hk b r hb.po hr;exact ⟨d,v,fun x=>u x-v x*q x,fun x=>q x*s x+t x,s,hd,hv,hu.sub (hv.mul hq),(hq.mul hs).add ht,hs,fun x=>by have:=e1 x;have:=hqr x;grind,fun x=>by have:=e2 x;have:=e3 x;have:=hqr x;grind,e2⟩
def Dv(a b:Fn):Prop:=∃ q,Po q∧∀ x,b x=q x*a x
def Cop(a b:Fn):Prop:=∃ u v,Po u∧Po v∧∀ x,u x*a x+v x*b x=1
theorem Dv.trans{a b c:Fn}:Dv a b→Dv b c→Dv a c:=fun ⟨q,h1,h2⟩ ⟨r,k1,k2⟩=>⟨fun x=>r x*q x,k1.mul h1,fun x=>by rw [k2,h2];grind⟩
theorem Dv.refl(a:Fn):Dv a a:=⟨fun _=>1,po_const 1,fun x=>by grind⟩
theorem Dv.mulr{a b c:Fn}(hc:Po c):Dv a b→Dv a (fun x=>b x*c x):=fun ⟨q,h1,h2⟩=>⟨fun x=>q x*c x,h1.mul hc,fun x=>by have:=h2 x;grind⟩
theorem Dv.congr{a b c:Fn}(h:Dv a b)(e:∀ x,b x=c x):Dv a c:=by obtain rfl:b=c:=funext e;exact h
theorem Cop.symm{a b:Fn}:Cop a b→Cop b a:=fun ⟨u,v,h1,h2,h3⟩=>⟨v,u,h2,h1,fun x=>by have:=h3 x;grind⟩
/-- Euclid's lemma. -/
theorem Cop.dv{a b c:Fn}(h:Cop a b)(hc:Po c)(k:Dv a (fun x=>b x*c x)):Dv a c:=by
 obtain ⟨u,v,hu,hv,huv⟩:=h;obtain ⟨q,hq,hbc⟩:=k;exact ⟨fun x=>u x*c x+v x*q x,(hu.mul hc).add (hv.mul hq),fun x=>by have:=huv x;have:=hbc x;grind⟩
theorem Cop.mul{a b c:Fn}(h:Cop a b)(k:Cop a c)(ha:Po a)(hb:Po b)(hc:Po c):Cop a (fun x=>b x*c x):=by
 obtain ⟨u,v,hu,hv,huv⟩:=h;obtain ⟨p,q,hp,hq,hpq⟩:=k;exact ⟨fun x=>u x*p x*a x+u x*q x*c x+v x*b x*p x,fun x=>v x*q x,(((hu.mul hp).mul ha).add ((hu.mul hq).mul hc)).add ((hv.mul hb).mul hp),hv.mul hq,fun x=>by have:=huv x;have:=hpq x;grind⟩
/-! ### Derivatives -/
def Der(f f':Fn):Prop:=∀ B,∃ E,0≤E∧∀ s t,In B s→In B t→s≤t→Ab (f t-f s-(t-s)*f' s) ((t-s)*((t-s)*E))
theorem Po.bd{f:Fn}(h:Po f)(B:Rat):∃ M,0≤M∧∀ x,In B x→Ab (f x) M:=by
 obtain ⟨n,c,hz,hc⟩:=h;obtain ⟨M,hM,h⟩:=pe_Bd c n B;exact ⟨M,hM,fun x hx=>by rw [hc];exact h x hx⟩
theorem Po.lip{f:Fn}(h:Po f)(B:Rat):∃ L,0≤L∧Lip B f L:=by
 obtain ⟨n,c,hz,hc⟩:=h;obtain ⟨L,hL,h⟩:=pe_Lip c n B;exact ⟨L,hL,fun x y hx hy hxy=>by rw [hc,hc];exact h x y hx hy hxy⟩
theorem Po.der{f:Fn}(h:Po f):∃ f',Po f'∧Der f f':=by
 obtain ⟨n,c,hz,hc⟩:=h;refine ⟨fun q=>pe (derQ c) q (n-1),⟨n-1,derQ c,derQ_z hz,fun _=>rfl⟩,fun B=>?_⟩;obtain ⟨E,hE,h⟩:=pe_Der c n B;refine ⟨E,hE,fun s t hs ht hst=>?_⟩;have:=h s t hs ht hst;rw [hc,hc];unfold Ab;constructor <;> grind
theorem der_pe{c:Nat→Rat}{n:Nat}:Der (fun q=>pe c q n) (fun q=>pe (derQ c) q (n-1)):=fun B=>by
 obtain ⟨E,hE,h⟩:=pe_Der c n B;refine ⟨E,hE,fun s t hs ht hst=>?_⟩;have:=h s t hs ht hst;unfold Ab;constructor <;> grind
theorem Lip.ab{B L:Rat}{f:Fn}(h:Lip B f L){s t:Rat}(hs:In B s)(ht:In B t)(hst:s≤t):Ab (f t-f s) (L*(t-s)):=by have:=h s t hs ht hst;unfold Ab;constructor <;> grind
theorem ab_self{x:Rat}(h:0≤x):Ab x x:=by unfold Ab;constructor <;> grind
theorem Der.mul{f g f' g':Fn}(h:Der f f')(k:Der g g')(pf:Po f)(pg:Po g)(pf':Po f'):Der (fun x=>f x*g x) (fun x=>f' x*g x+f x*g' x):=fun B=>by
 obtain ⟨E,hE,h⟩:=h B;obtain ⟨F,hF,k⟩:=k B;obtain ⟨M,hM,m1⟩:=pg.bd B;obtain ⟨N,hN,m2⟩:=pf'.bd B;obtain ⟨K,hK,m3⟩:=pf.bd B;obtain ⟨L,hL,l1⟩:=pg.lip B;refine ⟨M*E+N*L+K*F,by have:=Rat.mul_nonneg hM hE;have:=Rat.mul_nonneg hN hL;have:=Rat.mul_nonneg hK hF;grind,fun s t hs ht hst=>?_⟩;have a1:=(m1 t ht).mul (h s t hs ht hst);have a2:=((ab_self (show 0≤t-s by grind)).mul (m2 s hs)).mul (l1.ab hs ht hst);have a3:=(m3 s hs).mul (k s t hs ht hst);refine (((a1.add a2).add a3).eq ?_).mono ?_
 ·show _=f t*g t-f s*g s-(t-s)*(f' s*g s+f s*g' s);grind
 ·grind
theorem Der.congr{f g f' g':Fn}(h:Der f f')(e:∀ x,f x=g x)(e':∀ x,f' x=g' x):Der g g':=by obtain rfl:f=g:=funext e;obtain rfl:f'=g':=funext e';exact h
theorem der_const(a:Rat):Der (fun _=>a) (fun _=>0):=fun B=>⟨0,by grind,fun s t _ _ _=>(ab_zero (e:=(t-s)*((t-s)*0)) (by grind)).eq (by grind)⟩
theorem Der.pow{f f':Fn}(h:Der f f')(pf:Po f)(pf':Po f'):∀ n:Nat,Der (fun x=>f x^(n+1)) (fun x=>((n+1:Nat):Rat)*f x^n*f' x)
 | 0=>h.congr (fun x=>by rw [Rat.pow_succ,Rat.pow_zero];grind) (fun x=>by rw [Rat.pow_zero];have:((0+1:Nat):Rat)=1:=rfl;rw [this];grind)
 | n+1=>by
  refine ((h.pow pf pf' n).mul h (pf.pow (n+1)) pf (((pf.pow n).mul pf').scl ((n+1:Nat):Rat) |>.congr fun x=>by grind)).congr (fun x=>by rw [Rat.pow_succ (f x) (n+1)]) (fun x=>?_);rw [nat_succ (n+1),Rat.pow_succ (f x) n];grind
theorem der_aux{w y p q E F z:Rat}(h1:Ab (w-y*p) (y*(y*E)))(h2:Ab (w-y*q) (y*(y*F)))(h3:(E+F)*y < z)(hy:0 < y)(hz:p-q=z):False:=by
 have h5:y*((E+F)*y) < y*z:=Rat.mul_lt_mul_of_pos_left h3 hy;have h6:y*z=y*p-y*q:=by rw [← hz];grind
 unfold Ab at h1 h2;grind
theorem Der.uniq{f f1 f2:Fn}(h:Der f f1)(k:Der f f2)(x:Rat):f1 x=f2 x:=by
 by_cases h0:f1 x=f2 x
 ·exact h0
 ·exfalso
  obtain ⟨B,hB1,hB2⟩:∃ B,In B x∧In B (x+1):=⟨(if x < 0 then -x else x)+1,by unfold In;constructor <;> (split <;> grind),by unfold In;constructor <;> (split <;> grind)⟩
  obtain ⟨E,hE,h⟩:=h B;obtain ⟨F,hF,k⟩:=k B;obtain ⟨z,hz,hz2⟩:∃ z:Rat,0 < z∧((f1 x-f2 x=z)∨(f2 x-f1 x=z)):=by
   by_cases h1:f2 x < f1 x
   ·exact ⟨f1 x-f2 x,by grind,Or.inl rfl⟩
   ·exact ⟨f2 x-f1 x,by grind,Or.inr rfl⟩
  obtain ⟨d,hd,hs⟩:=ex_small (L:=E+F) (m:=z) (by grind) hz;obtain ⟨e,he,he1,he2⟩:=ex_min hd (show (0:Rat) < 1 by grind);have hte:In B (x+e / 2):=by unfold In at *;constructor <;> grind
  have h1:=h x (x+e / 2) hB1 hte (by grind);have h2:=k x (x+e / 2) hB1 hte (by grind);have h3:=hs (e / 2) (by grind) (by grind);have h4:x+e / 2-x=e / 2:=by grind
  rw [h4] at h1 h2;rcases hz2 with hz2 | hz2
  ·exact der_aux h1 h2 h3 (by grind) hz2
  ·exact der_aux h2 h1 (show (F+E)*(e / 2) < z by grind) (by grind) hz2
theorem Lc.der{k:Nat}{f f':Fn}{a:Rat}(h:Lc (k+1) f a)(hd:Der f f'):Lc k f' (((k+1:Nat):Rat)*a):=by
 obtain ⟨c,h1,h2,h3,h4⟩:=h;have e:∀ x,pe (derQ c) x (k+1)=f' x:=fun x=>((der_pe (c:=c) (n:=k+1+1)).congr (fun q=>(h4 q).symm) (fun _=>rfl)).uniq hd x
 refine ⟨derQ c,fun i hi=>by unfold derQ;rw [h1 (i+1) (by omega),Rat.mul_zero],by unfold derQ;rw [h2],fun e=>?_,fun q=>(e q).symm⟩;rcases Rat.mul_eq_zero.1 e with e | e
 ·have:(k+1:Nat)=0:=by exact_mod_cast e
  omega
 ·exact h3 e
/-! ### Prime polynomials, what is squarefree -/
theorem po_cancel{x y:Fn}(hx:Po x)(hne:∃ t,x t≠0)(hy:Po y)(h:∀ t,x t*y t=0)(t:Rat):y t=0:=by
 obtain ⟨n,hx⟩:=hx;obtain ⟨m,hy⟩:=hy;rcases pl_tri hx with h1 | ⟨k,a,_,h1⟩
 ·obtain ⟨t,ht⟩:=hne;exact absurd (h1 t) ht
 ·rcases pl_tri hy with h2 | ⟨j,b,_,h2⟩
  ·exact h2 t
  ·obtain ⟨u,hu⟩:=(h1.mul h2).ne;exact absurd (h u) hu
theorem po_cancel2{x y z:Fn}(hx:Po x)(hne:∃ t,x t≠0)(hy:Po y)(hz:Po z)(h:∀ t,x t*y t=x t*z t)(t:Rat):y t=z t:=by
 have:=po_cancel hx hne (hy.sub hz) (fun t=>by have:=h t;grind) t;grind
theorem po_deg{f:Fn}(h:Po f)(hne:∃ t,f t≠0):∃ k a,Lc k f a:=by
 obtain ⟨n,h⟩:=h;rcases pl_tri h with h1 | ⟨k,a,_,h1⟩
 ·obtain ⟨t,ht⟩:=hne;exact absurd (h1 t) ht
 ·exact ⟨k,a,h1⟩
theorem Dv.deg{a b:Fn}{k j:Nat}{α β:Rat}(h:Dv a b)(ha:Lc k a α)(hb:Lc j b β):k≤j:=by
 obtain ⟨q,hq,e⟩:=h;obtain ⟨i,γ,hq⟩:=po_deg hq (by
  obtain ⟨t,ht⟩:=hb.ne;exact ⟨t,fun h0=>ht (by rw [e,h0];grind)⟩)
 have:=(hb.congr e).uniq (hq.mul ha);omega
theorem lc_cst{a:Rat}(h:a≠0):Lc 0 (fun _=>a) a:=⟨fun i=>if i=0 then a else 0,fun i hi=>if_neg (by omega),if_pos rfl,h,fun q=>by show a=0+(if 0=0 then a else 0)*q^0;rw [if_pos rfl,Rat.pow_zero];grind⟩
theorem pow_ne_fn{f:Fn}(hne:∃ k a,Lc k f a):∀ n:Nat,∃ k a,Lc k (fun x=>f x^n) a
 | 0=>⟨0,1,(lc_cst (a:=1) (by decide)).congr fun x=>by rw [Rat.pow_zero]⟩
 | n+1=>by
  obtain ⟨k,a,h⟩:=pow_ne_fn hne n;obtain ⟨j,b,g⟩:=hne;exact ⟨_,_,(h.mul g).congr fun x=>by rw [Rat.pow_succ]⟩
def Pr(π:Fn):Prop:=Po π∧(∃ k a,1≤k∧Lc k π a)∧∀ h,Po h→Dv π h∨Cop π h
theorem lc_const{f:Fn}{a:Rat}(h:Lc 0 f a)(x:Rat):f x=a:=by
 obtain ⟨c,h1,h2,h3,h4⟩:=h;rw [h4];show 0+c 0*x^0=a;rw [Rat.pow_zero,h2];grind
/-- Each that is not constant has a prime divisor. -/
theorem ex_pr:∀ (k:Nat) (d:Fn) (a:Rat),Lc k d a→1≤k→Po d→∃ π,Pr π∧Dv π d:=by
 intro k
 induction k using Nat.strongRecOn with
 | ind k ih=>
  intro d a hd hk pd
  by_cases hs:∃ e j b,Dv e d∧Po e∧Lc j e b∧1≤j∧j < k
  ·obtain ⟨e,j,b,h1,h2,h3,h4,h5⟩:=hs
   obtain ⟨π,h6,h7⟩:=ih j h5 e b h3 h4 h2;exact ⟨π,h6,h7.trans h1⟩
  ·refine ⟨d,⟨pd,⟨k,a,hk,hd⟩,fun h ph=>?_⟩,.refl _⟩
   obtain ⟨m,ph⟩:=ph;obtain ⟨e,u,v,s,t,pe',pu,pv,ps,pt,e1,e2,e3⟩:=po_gcd m d h pd ph;obtain ⟨j,b,he⟩:=po_deg pe' (by obtain ⟨y,hy⟩:=hd.ne;exact ⟨y,fun h0=>hy (by rw [e2,h0];grind)⟩);have hdv:Dv e d:=⟨s,ps,e2⟩;have hle:=hdv.deg he hd
   by_cases hj:j=0
   ·subst hj
    have hb:=lc_const he;have hb0:b≠0:=he.choose_spec.2.2.1;exact Or.inr ⟨fun x=>u x*b⁻¹,fun x=>v x*b⁻¹,pu.scl _,pv.scl _,fun x=>by have h5:=e1 x;rw [hb] at h5;have:=Rat.mul_inv_cancel b hb0;grind⟩
   ·have hjk:j=k:=by
     rcases Nat.lt_or_ge j k with h6 | h6
     ·exact absurd ⟨e,j,b,hdv,pe',he,by omega,h6⟩ hs
     ·omega
    subst hjk;obtain ⟨i,γ,hs'⟩:=po_deg ps (by obtain ⟨y,hy⟩:=hd.ne;exact ⟨y,fun h0=>hy (by rw [e2,h0];grind)⟩);have h7:=((hs'.mul he).congr fun x=>(e2 x).symm).uniq hd;have hi:i=0:=by omega
    subst hi;have hg:=lc_const hs';have hg0:γ≠0:=hs'.choose_spec.2.2.1;exact Or.inl ⟨fun x=>t x*γ⁻¹,pt.scl _,fun x=>by have h8:=e3 x;have h9:=e2 x;rw [hg] at h9;have:=Rat.mul_inv_cancel γ hg0;grind⟩
end Go.Proofs.YtapmpcgekdplfaaGreat
