/-
  Laws of the program's functions by an abstract machine, part 3: joined, short spelling. No condition.
-/
import Derived.Test.YtapmpcgekdplfaaGreatJ2
set_option linter.unusedVariables false
set_option linter.unusedSimpArgs false
set_option maxRecDepth 100000
set_option maxHeartbeats 4000000
namespace Go.Proofs.YtapmpcgekdplfaaGreat
open Go.RowKit
/-! ### Bounds of values -/
def Ab(x e:Rat):Prop:= -e≤x∧x≤e
theorem Ab.add{x y d e:Rat}(h:Ab x d)(k:Ab y e):Ab (x+y) (d+e):=by unfold Ab at *;constructor <;> grind
theorem Ab.sub{x y d e:Rat}(h:Ab x d)(k:Ab y e):Ab (x-y) (d+e):=by unfold Ab at *;constructor <;> grind
theorem Ab.mul{x y d e:Rat}(h:Ab x d)(k:Ab y e):Ab (x*y) (d*e):=aap h.1 h.2 k.1 k.2
theorem Ab.mono{x d e:Rat}(h:Ab x d)(k:d≤e):Ab x e:=by unfold Ab at *;constructor <;> grind
theorem Ab.nn{x e:Rat}(h:Ab x e):0≤e:=by unfold Ab at h;grind
theorem Ab.eq{x y e:Rat}(h:Ab x e)(k:x=y):Ab y e:=k▸h
theorem jR{e:Rat}(h:0≤e):Ab 0 e:=by unfold Ab;constructor <;> grind
theorem jW{B:Rat}(h:1≤B):∀ n:Nat,1≤B^n
 | 0=>by rw [Rat.pow_zero];grind
 | n+1=>by rw [Rat.pow_succ];have h1:=jW h n;have:=acQ (a:=B^n-1) (b:=B-1) (by grind) (by grind);grind
theorem N8{B:Rat}(h:1≤B)(n:Nat):B^n≤B^(n+1):=by
 rw [Rat.pow_succ];have h1:=jW h n;have:=acQ (a:=B^n) (b:=B-1) (by grind) (by grind);grind
theorem zK{B:Rat}(h:1≤B){n m:Nat}(hnm:n≤m):B^n≤B^m:=by
 induction hnm with
 | refl=>grind
 | step _ ih=>have:=N8 h;grind
theorem iT(n:Nat):(0:Rat)≤(n:Rat):=by exact_mod_cast abR n
theorem mM(n:Nat):((n+1:Nat):Rat)=(n:Rat)+1:=by exact_mod_cast rfl
/-- Powers. -/
theorem LG{B q:Rat}(hB:1≤B)(hq:Ab q B):∀ n:Nat,Ab (q^n) (B^n)
 | 0=>by rw [Rat.pow_zero,Rat.pow_zero];unfold Ab;constructor <;> grind
 | n+1=>by rw [Rat.pow_succ,Rat.pow_succ];exact (LG hB hq n).mul hq
theorem aaR{B s t:Rat}(hB:1≤B)(hs:Ab s B)(ht:Ab t B)(hst:s≤t):∀ n:Nat,Ab (t^n-s^n) ((n:Rat)*B^n*(t-s))
 | 0=>by rw [Rat.pow_zero,Rat.pow_zero];refine (jR (e:=0) (by grind)).eq (by grind) |>.mono ?_;have:((0:Nat):Rat)=0:=rfl;rw [this];grind
 | n+1=>by
  have ih:=aaR hB hs ht hst n;have h1:t^(n+1)-s^(n+1)=(t^n-s^n)*t+s^n*(t-s):=by rw [Rat.pow_succ,Rat.pow_succ];grind
  have h2:Ab (t-s) (t-s):=by unfold Ab;constructor <;> grind
  rw [h1];refine ((ih.mul ht).add ((LG hB hs n).mul h2)).mono ?_;have hb:=jW hB n;have h3:=acQ (a:=B^n*(t-s)) (b:=B-1) (acQ (by grind) (by grind)) (by grind);rw [mM,Rat.pow_succ];grind
theorem aaS{B s t:Rat}(hB:1≤B)(hs:Ab s B)(ht:Ab t B)(hst:s≤t):∀ n:Nat,Ab (t^(n+1)-s^(n+1)-(t-s)*(((n+1:Nat):Rat)*s^n)) (((n+1:Nat):Rat)*((n+1:Nat):Rat)*B^(n+1)*((t-s)*(t-s)))
 | 0=>by
  refine (jR (e:=0) (by grind)).eq ?_ |>.mono ?_
  ·rw [Rat.pow_succ,Rat.pow_succ,Rat.pow_zero,Rat.pow_zero];have:((0+1:Nat):Rat)=1:=rfl;rw [this];grind
  ·refine acQ (acQ (acQ (iT _) (iT _)) ?_) (acQ (by grind) (by grind))
   have:=jW hB (0+1);grind
 | n+1=>by
  have ih:=aaS hB hs ht hst n;have e:t^(n+1+1)-s^(n+1+1)-(t-s)*(((n+1+1:Nat):Rat)*s^(n+1))=(t^(n+1)-s^(n+1)-(t-s)*(((n+1:Nat):Rat)*s^n))*t+(((n+1:Nat):Rat)*s^n)*((t-s)*(t-s)):=by
   rw [Rat.pow_succ t (n+1),Rat.pow_succ s (n+1),Rat.pow_succ s n,mM (n+1)];grind
  rw [e];have hsq:0≤(t-s)*(t-s):=acQ (by grind) (by grind);have h2:Ab ((t-s)*(t-s)) ((t-s)*(t-s)):=by unfold Ab;constructor <;> grind
  have hn:Ab (((n+1:Nat):Rat)) (((n+1:Nat):Rat)):=by have:=iT (n+1);unfold Ab;constructor <;> grind
  refine ((ih.mul ht).add ((hn.mul (LG hB hs n)).mul h2)).mono ?_;have hb:=jW hB n;have hb1:=N8 hB n;have hb2:=N8 hB (n+1);have hN:=iT (n+1);have e1:((n+1+1:Nat):Rat)=((n+1:Nat):Rat)+1:=mM (n+1);rw [e1];generalize ((n+1:Nat):Rat)=N at *
  generalize (t-s)*(t-s)=Z at *
  have e2:N*N*B^(n+1)*Z*B=N*N*B^(n+1+1)*Z:=by rw [Rat.pow_succ B (n+1)];grind
  rw [e2];have h5:N*B^n*Z≤N*B^(n+1+1)*Z:=abS (abK (by grind) hN) hsq;have h6:0≤B^(n+1+1)*Z:=acQ (by grind) hsq;have h7:0≤N*(B^(n+1+1)*Z):=acQ hN h6;grind
/-! ### Bounds of polynomials -/
def Bq(c:Nat→Rat):Nat→Rat:=fun i=>((i+1:Nat):Rat)*c (i+1)
theorem agL{c:Nat→Rat}{n:Nat}(h:∀ i,n≤i→c i=0):∀ i,n-1≤i→Bq c i=0:=fun i hi=>by unfold Bq;rw [h (i+1) (by omega),Rat.mul_zero]
/-- The bound of one place. -/
def TB(N:Nat)(H B:Rat):Rat:=(N:Rat)*(N:Rat)*B^N*H
section
variable {c:Nat→Rat} {N:Nat} {H B:Rat}
theorem QV(hB:1≤B)(hH:0≤H):0≤TB N H B:=acQ (acQ (acQ (iT _) (iT _)) (by have:=jW hB N;grind)) hH
theorem qK{a b:Nat}(h:a≤b):(a:Rat)≤(b:Rat):=by exact_mod_cast h
theorem aoJ(hB:1≤B)(hH:0≤H){i:Nat}(hi:i+1≤N):H*B^i≤TB N H B:=by
 have h1:B^i≤B^N:=zK hB (by omega);have h2:(1:Rat)≤(N:Rat):=qK (show 1≤N by omega);have h3:=jW hB N;have h4:(1:Rat)≤(N:Rat)*(N:Rat):=by have:=acQ (a:=(N:Rat)-1) (b:=(N:Rat)+1) (by grind) (by grind);grind
 have h5:H*B^i≤H*B^N:=abK h1 hH;have h6:0≤H*B^N:=acQ hH (by grind);have h7:=acQ (a:=(N:Rat)*(N:Rat)-1) (b:=H*B^N) (by grind) h6;unfold TB;grind
theorem aoK(hB:1≤B)(hH:0≤H){i:Nat}(hi:i+1≤N):H*((i:Rat)*B^i)≤TB N H B:=by
 have h1:B^i≤B^N:=zK hB (by omega);have h2:(i:Rat)≤(N:Rat):=qK (by omega);have h3:=jW hB N;have h8:(1:Rat)≤(N:Rat):=qK (show 1≤N by omega);have h4:(i:Rat)≤(N:Rat)*(N:Rat):=by have:=acQ (a:=(N:Rat)) (b:=(N:Rat)-1) (by grind) (by grind);grind
 have h5:(i:Rat)*B^i≤(N:Rat)*(N:Rat)*B^N:=by
  have a1:(i:Rat)*B^i≤(i:Rat)*B^N:=abK h1 (iT _);have a2:(i:Rat)*B^N≤(N:Rat)*(N:Rat)*B^N:=abS h4 (by grind);grind
 have h6:H*((i:Rat)*B^i)≤H*((N:Rat)*(N:Rat)*B^N):=abK h5 hH;unfold TB;grind
theorem aoL(hB:1≤B)(hH:0≤H){i:Nat}(hi:i+1≤N):H*((i:Rat)*(i:Rat)*B^i)≤TB N H B:=by
 have h1:B^i≤B^N:=zK hB (by omega);have h2:(i:Rat)≤(N:Rat):=qK (by omega);have h3:=jW hB N;have h4:(i:Rat)*(i:Rat)≤(N:Rat)*(N:Rat):=by
  have a1:(i:Rat)*(i:Rat)≤(i:Rat)*(N:Rat):=abK h2 (iT _);have a2:(i:Rat)*(N:Rat)≤(N:Rat)*(N:Rat):=abS h2 (iT _);grind
 have h5:(i:Rat)*(i:Rat)*B^i≤(N:Rat)*(N:Rat)*B^N:=by
  have a1:(i:Rat)*(i:Rat)*B^i≤(i:Rat)*(i:Rat)*B^N:=abK h1 (acQ (iT _) (iT _));have a2:(i:Rat)*(i:Rat)*B^N≤(N:Rat)*(N:Rat)*B^N:=abS h4 (by grind);grind
 have h6:H*((i:Rat)*(i:Rat)*B^i)≤H*((N:Rat)*(N:Rat)*B^N):=abK h5 hH;unfold TB;grind
theorem aaD(hB:1≤B)(hH:0≤H){q:Rat}(hq:Ab q B):∀ {n:Nat},n≤N→(∀ i,i < n→Ab (c i) H)→Ab (pe c q n) ((n:Rat)*TB N H B)
 | 0,_,_=>by show Ab 0 _;have:((0:Nat):Rat)=0:=rfl;rw [this,Rat.zero_mul];exact jR (by grind)
 | n+1,hn,hc=>by
  show Ab (pe c q n+c n*q^n) _
  refine ((aaD hB hH hq (by omega) fun i hi=>hc i (by omega)).add (((hc n (by omega)).mul (LG hB hq n)).mono (aoJ hB hH hn))).mono ?_;rw [mM];grind
theorem TJ(hB:1≤B)(hH:0≤H){s t:Rat}(hs:Ab s B)(ht:Ab t B)(hst:s≤t):∀ {n:Nat},n≤N→(∀ i,i < n→Ab (c i) H)→Ab (pe c t n-pe c s n) ((n:Rat)*TB N H B*(t-s))
 | 0,_,_=>by show Ab (0-0) _;have:((0:Nat):Rat)=0:=rfl;rw [this,Rat.zero_mul,Rat.zero_mul];exact (jR (e:=0) (by grind)).eq (by grind)
 | n+1,hn,hc=>by
  have ih:=TJ hB hH hs ht hst (n:=n) (by omega) fun i hi=>hc i (by omega)
  have h1:=(hc n (by omega)).mul (aaR hB hs ht hst n);have h2:=abS (aoK hB hH hn) (show 0≤t-s by grind);refine ((ih.add h1).eq (y:=pe c t (n+1)-pe c s (n+1)) ?_).mono ?_
  ·show _=(pe c t n+c n*t^n)-(pe c s n+c n*s^n);grind
  ·rw [mM];grind
theorem aaG(hB:1≤B)(hH:0≤H){s t:Rat}(hs:Ab s B)(ht:Ab t B)(hst:s≤t):∀ {n:Nat},n≤N→(∀ i,i < n→Ab (c i) H)→Ab (pe c t n-pe c s n-(t-s)*pe (Bq c) s (n-1)) ((n:Rat)*TB N H B*((t-s)*(t-s)))
 | 0,_,_=>by show Ab (0-0-(t-s)*0) _;have:((0:Nat):Rat)=0:=rfl;rw [this,Rat.zero_mul,Rat.zero_mul];exact (jR (e:=0) (by grind)).eq (by grind)
 | 1,hn,hc=>by
  refine ((jR (e:=0) (by grind)).eq ?_).mono ?_
  ·show 0=(0+c 0*t^0)-(0+c 0*s^0)-(t-s)*0;rw [Rat.pow_zero,Rat.pow_zero];grind
  ·exact acQ (acQ (iT _) (QV hB hH)) (acQ (by grind) (by grind))
 | n+1+1,hn,hc=>by
  have ih:=aaG hB hH hs ht hst (n:=n+1) (by omega) fun i hi=>hc i (by omega)
  have h1:=(hc (n+1) (by omega)).mul (aaS hB hs ht hst n);have h2:=abS (aoL hB hH hn) (show 0≤(t-s)*(t-s) from acQ (by grind) (by grind));refine ((ih.add h1).eq (y:=pe c t (n+1+1)-pe c s (n+1+1)-(t-s)*pe (Bq c) s (n+1+1-1)) ?_).mono ?_
  ·show _=(pe c t (n+1)+c (n+1)*t^(n+1))-(pe c s (n+1)+c (n+1)*s^(n+1))-(t-s)*(pe (Bq c) s n+(((n+1:Nat):Rat)*c (n+1))*s^n)
   rw [show n+1-1=n by omega];grind
  ·rw [mM (n+1)];grind
end
/-- Some bound of the coefficients. -/
theorem acX(c:Nat→Rat):∀ n:Nat,∃ H:Rat,0≤H∧∀ i,i < n→Ab (c i) H
 | 0=>⟨0,by grind,fun i hi=>absurd hi (ab2 _)⟩
 | n+1=>by
  obtain ⟨H,hH,h⟩:=acX c n;refine ⟨H+(if c n < 0 then -(c n) else c n),by split <;> grind,fun i hi=>?_⟩
  by_cases e:i < n
  ·exact (h i e).mono (by split <;> grind)
  ·obtain rfl:i=n:=by omega
   unfold Ab;constructor <;> (split <;> grind)
theorem FP{B x:Rat}(h:In B x){D:Rat}(hD:B≤D):Ab x D:=by unfold In at h;unfold Ab;constructor <;> grind
theorem agS(B:Rat):∃ D:Rat,1≤D∧B≤D:=⟨if B < 1 then 1 else B,by split <;> grind,by split <;> grind⟩
theorem ahW(c:Nat→Rat)(n:Nat)(B:Rat):∃ L,0≤L∧RD B (fun q=>pe c q n) L:=by
 obtain ⟨H,hH,hc⟩:=acX c n;obtain ⟨D,hD,hBD⟩:=agS B;refine ⟨(n:Rat)*TB n H D,acQ (iT _) (QV hD hH),fun x y hx hy hxy=>?_⟩;have h:=TJ hD hH (FP hx hBD) (FP hy hBD) hxy (abJ n) hc;unfold Ab at h;constructor <;> grind
theorem alz(c:Nat→Rat)(n:Nat)(B:Rat):∃ M,0≤M∧∀ x,In B x→-M≤pe c x n∧pe c x n≤M:=by
 obtain ⟨H,hH,hc⟩:=acX c n;obtain ⟨D,hD,hBD⟩:=agS B;exact ⟨(n:Rat)*TB n H D,acQ (iT _) (QV hD hH),fun x hx=>aaD hD hH (FP hx hBD) (abJ n) hc⟩
theorem aaC(c:Nat→Rat)(n:Nat)(B:Rat):∃ E,0≤E∧∀ s t,In B s→In B t→s≤t→(pe c t n-pe c s n)-(t-s)*pe (Bq c) s (n-1)≤(t-s)*((t-s)*E)∧(t-s)*pe (Bq c) s (n-1)-(pe c t n-pe c s n)≤(t-s)*((t-s)*E):=by
 obtain ⟨H,hH,hc⟩:=acX c n;obtain ⟨D,hD,hBD⟩:=agS B;refine ⟨(n:Rat)*TB n H D,acQ (iT _) (QV hD hH),fun s t hs ht hst=>?_⟩;have h:=aaG hD hH (FP hs hBD) (FP ht hBD) hst (abJ n) hc;unfold Ab at h;constructor <;> grind
/-! ### Polynomials as functions -/
def Pl(n:Nat)(f:Fn):Prop:=∃ c:Nat→Rat,(∀ i,n≤i→c i=0)∧∀ q,f q=pe c q n
def Po(f:Fn):Prop:=∃ n,Pl n f
/-- .. of degree k, a in front. -/
def Lc(k:Nat)(f:Fn)(a:Rat):Prop:=∃ c:Nat→Rat,(∀ i,k < i→c i=0)∧c k=a∧a≠0∧∀ q,f q=pe c q (k+1)
theorem Pl.mono{n m:Nat}{f:Fn}(h:Pl n f)(k:n≤m):Pl m f:=by
 obtain ⟨c,hz,hf⟩:=h;exact ⟨c,fun i hi=>hz i (by omega),fun q=>(hf q).trans (Jo hz fun i hi=>hz i (by omega))⟩
theorem Pl.po{n:Nat}{f:Fn}(h:Pl n f):Po f:=⟨n,h⟩
theorem Po.congr{f g:Fn}(h:Po f)(e:∀ x,f x=g x):Po g:=by obtain rfl:f=g:=funext e;exact h
theorem Pl.add{n m:Nat}{f g:Fn}(h:Pl n f)(k:Pl m g):Pl (max n m) (fun x=>f x+g x):=by
 obtain ⟨c,h1,h2⟩:=h.mono (aiP n m);obtain ⟨d,k1,k2⟩:=k.mono (aiK n m);exact ⟨mJ c d,fun i hi=>by show c i+d i=0;rw [h1 i hi,k1 i hi];grind,fun q=>by rw [zF,← h2,← k2]⟩
theorem Pl.yG{n:Nat}{f:Fn}(h:Pl n f)(r:Rat):Pl n (fun x=>f x*r):=by
 obtain ⟨c,h1,h2⟩:=h;exact ⟨gG c r,Dw h1,fun q=>by rw [sV,← h2]⟩
theorem Pl.mul{n m:Nat}{f g:Fn}(h:Pl n f)(k:Pl m g):Pl (n+m) (fun x=>f x*g x):=by
 obtain ⟨c,h1,h2⟩:=h;obtain ⟨d,k1,k2⟩:=k;exact ⟨aY c d,Pq h1 k1,fun q=>by rw [NU h1 k1,← h2,← k2]⟩
theorem aaM(a:Rat):Pl 1 (fun _=>a):=⟨fun i=>if i=0 then a else 0,fun i hi=>if_neg (by omega),fun q=>by show a=0+(if 0=0 then a else 0)*q^0;rw [if_pos rfl,Rat.pow_zero];grind⟩
theorem ah8:Pl 2 (fun x=>x):=⟨fun i=>if i=1 then 1 else 0,fun i hi=>if_neg (by omega),fun q=>by
 show q=(0+(if 0=1 then 1 else 0)*q^0)+(if 1=1 then 1 else 0)*q^1
 rw [if_neg (by decide),if_pos rfl,Rat.pow_succ,Rat.pow_zero];grind⟩
theorem Po.add{f g:Fn}:Po f→Po g→Po (fun x=>f x+g x):=fun ⟨_,h⟩ ⟨_,k⟩=>⟨_,h.add k⟩
theorem Po.mul{f g:Fn}:Po f→Po g→Po (fun x=>f x*g x):=fun ⟨_,h⟩ ⟨_,k⟩=>⟨_,h.mul k⟩
theorem Po.yG{f:Fn}(r:Rat):Po f→Po (fun x=>f x*r):=fun ⟨_,h⟩=>⟨_,h.yG r⟩
theorem Po.neg{f:Fn}(h:Po f):Po (fun x=> - f x):=(h.yG (-1)).congr fun x=>by grind
theorem Po.sub{f g:Fn}(h:Po f)(k:Po g):Po (fun x=>f x-g x):=(h.add k.neg).congr fun x=>by grind
theorem bZ(a:Rat):Po (fun _=>a):=⟨1,aaM a⟩
theorem aaO:Po (fun x=>x):=⟨2,ah8⟩
theorem Po.pow{f:Fn}(h:Po f):∀ n:Nat,Po (fun x=>f x^n)
 | 0=>(bZ 1).congr fun x=>by rw [Rat.pow_zero]
 | n+1=>((h.pow n).mul h).congr fun x=>by rw [Rat.pow_succ]
theorem zI{f:Fn}:∀ {n:Nat},Pl n f→(∀ x,f x=0)∨∃ k a,k < n∧Lc k f a
 | 0,⟨c,_,h⟩=>Or.inl fun x=>h x
 | n+1,⟨c,hz,h⟩=>by
  by_cases h0:c n=0
  ·have hz':∀ i,n≤i→c i=0:=fun i hi=>by
    rcases Nat.eq_or_lt_of_le hi with e | e
    ·rw [← e];exact h0
    ·exact hz i e
   rcases zI (n:=n) ⟨c,hz',fun q=>(h q).trans (Jo hz hz')⟩ with k | ⟨k,a,h1,h2⟩
   ·exact Or.inl k
   ·exact Or.inr ⟨k,a,by omega,h2⟩
  ·exact Or.inr ⟨n,c n,by omega,c,fun i hi=>hz i hi,rfl,h0,h⟩
theorem Lc.ne{k:Nat}{f:Fn}{a:Rat}(h:Lc k f a):∃ x,f x≠0:=by
 obtain ⟨c,h1,h2,h3,h4⟩:=h
 by_cases hh:∃ x,f x≠0
 ·exact hh
 ·exfalso
  have:∀ x,f x=0:=fun x=>by by_cases h:f x=0;exact h;exact absurd ⟨x,h⟩ hh
  have h5:=Vt (c:=c) (n:=k+1) (fun i hi=>h1 i (by omega)) (fun x=>(h4 x).symm.trans (this x)) k;exact h3 (h2.symm.trans h5)
theorem Lc.uniq{k j:Nat}{f:Fn}{a b:Rat}(h:Lc k f a)(g:Lc j f b):k=j∧a=b:=by
 obtain ⟨c,h1,h2,h3,h4⟩:=h;obtain ⟨d,k1,k2,k3,k4⟩:=g;have e:=aaF (a:=c) (b:=d) (n:=k+1) (m:=j+1) (fun i hi=>h1 i (by omega)) (fun i hi=>k1 i (by omega)) (fun x=>(h4 x).symm.trans (k4 x));have hkj:k=j:=by
  rcases ag7 k j with h | h | h
  ·exact absurd ((h1 j h).symm.trans (e j)).symm (by rw [k2];exact k3)
  ·exact h
  ·exact absurd ((e k).trans (k1 k h)) (by rw [h2];exact h3)
 subst hkj;exact ⟨rfl,by rw [← h2,← k2];exact e k⟩
theorem Lc.congr{k:Nat}{f g:Fn}{a:Rat}(h:Lc k f a)(e:∀ x,f x=g x):Lc k g a:=by obtain rfl:f=g:=funext e;exact h
theorem V7{c d:Nat→Rat}{k j:Nat}(h1:∀ i,k < i→c i=0)(h2:∀ i,j < i→d i=0):aY c d (k+j)=c k*d j:=by
 have key:∀ m,cv c d m (k+j)=if k < m then c k*d j else 0:=by
  intro m
  induction m with
  | zero=>rfl
  | succ m ih=>
   show cv c d m (k+j)+(if m≤k+j then c m*d (k+j-m) else 0)=_
   rw [ih];rcases ag7 m k with h | h | h
   ·rw [if_neg (by omega),if_pos (by omega),if_neg (by omega),h2 _ (by omega)];grind
   ·subst h;rw [if_neg (by omega),if_pos (by omega),if_pos (by omega),show m+j-m=j by omega];grind
   ·rw [if_pos h,if_pos (show k < m+1 by omega),h1 m h];split <;> grind
 unfold aY;rw [key,if_pos (by omega)]
theorem Lc.mul{k j:Nat}{f g:Fn}{a b:Rat}(h:Lc k f a)(g':Lc j g b):Lc (k+j) (fun x=>f x*g x) (a*b):=by
 obtain ⟨c,h1,h2,h3,h4⟩:=h;obtain ⟨d,k1,k2,k3,k4⟩:=g';have z1:∀ i,k+1≤i→c i=0:=fun i hi=>h1 i (by omega)
 have z2:∀ i,j+1≤i→d i=0:=fun i hi=>k1 i (by omega)
 have hz:∀ i,k+j < i→aY c d i=0:=fun i hi=>qY (n:=k+1) (m:=j+1) z1 z2 (by omega)
 refine ⟨aY c d,hz,by rw [V7 h1 k1,h2,k2],fun e=>by rcases aiN.1 e with e | e;exact h3 e;exact k3 e,fun q=>?_⟩;show f q*g q=_
 rw [h4,k4,← NU z1 z2];exact Jo (Pq z1 z2) (fun i hi=>hz i (by omega))
/-- DIVISION with a remainder. -/
theorem TN{m:Nat}{b:Fn}{β:Rat}(hb:Lc m b β):∀ (n:Nat) (a:Fn),Pl n a→∃ q r:Fn,Po q∧Pl m r∧∀ x,a x=q x*b x+r x
 | 0,a,ha=>⟨fun _=>0,a,bZ 0,ha.mono (abR _),fun x=>by grind⟩
 | n+1,a,ha=>by
  by_cases hnm:n+1≤m
  ·exact ⟨fun _=>0,a,bZ 0,ha.mono hnm,fun x=>by grind⟩
  ·obtain ⟨c,hz,hc⟩:=ha
   obtain ⟨d,h1,h2,h3,h4⟩:=hb;have hk:n-m+(m+1)=n+1:=by omega
   obtain ⟨γ,hγ⟩:∃ γ,γ*β=c n:=⟨c n / β,aij h3⟩
   obtain ⟨e,he⟩:∃ e:Nat→Rat,e=fun i=>if n-m≤i then γ*d (i-(n-m)) else 0:=⟨_,rfl⟩
   have hsh:∀ q,pe e q (n+1)=γ*q^(n-m)*b q:=fun q=>by rw [h4,← hk,he];exact Jp (m+1)
   have hen:e n=c n:=by
    rw [he];show (if n-m≤n then γ*d (n-(n-m)) else 0)=c n
    rw [if_pos (by omega),show n-(n-m)=m by omega,h2];exact hγ
   have hez:∀ i,n+1≤i→e i=0:=fun i hi=>by
    rw [he];show (if n-m≤i then γ*d (i-(n-m)) else 0)=0
    rw [if_pos (by omega),h1 _ (by omega)];grind
   have hz':∀ i,n≤i→mJ c (gG e (-1)) i=0:=fun i hi=>by
    show c i+e i* -1=0
    rcases Nat.eq_or_lt_of_le hi with h | h
    ·subst h;rw [hen];grind
    ·rw [hz i h,hez i h];grind
   obtain ⟨q,r,hq,hr,hqr⟩:=TN ⟨d,h1,h2,h3,h4⟩ n (fun x=>a x-γ*x^(n-m)*b x) ⟨mJ c (gG e (-1)),hz',fun x=>by
    rw [← Jo (n:=n+1) (fun i hi=>hz' i (by omega)) hz',zF,sV,hsh,← hc];grind⟩
   refine ⟨fun x=>q x+γ*x^(n-m),r,hq.add (((aaO.pow (n-m)).yG γ).congr fun x=>aiF _ _),hr,fun x=>?_⟩;have h5:a x-γ*x^(n-m)*b x=q x*b x+r x:=hqr x;show a x=(q x+γ*x^(n-m))*b x+r x
   generalize x^(n-m)=y at *
   clear hqr hsh hen hez hz' he hγ hc h4;grind
/-- BEZOUT. -/
theorem Ju:∀ (m:Nat) (a b:Fn),Po a→Pl m b→∃ d u v s t:Fn,Po d∧Po u∧Po v∧Po s∧Po t∧(∀ x,d x=u x*a x+v x*b x)∧(∀ x,a x=s x*d x)∧∀ x,b x=t x*d x:=by
 intro m
 induction m using Nat.strongRecOn with
 | ind m ih=>
  intro a b ha hb
  rcases zI hb with h | ⟨k,β,hk,hlc⟩
  ·exact ⟨a,fun _=>1,fun _=>0,fun _=>1,fun _=>0,ha,bZ 1,bZ 0,bZ 1,bZ 0,fun x=>by grind,fun x=>by grind,fun x=>by rw [h x];grind⟩
  ·obtain ⟨n,ha'⟩:=ha
   obtain ⟨q,r,hq,hr,hqr⟩:=TN hlc n a ha';obtain ⟨d,u,v,s,t,hd,hu,hv,hs,ht,e1,e2,e3⟩:=ih k hk b r hb.po hr;exact ⟨d,v,fun x=>u x-v x*q x,fun x=>q x*s x+t x,s,hd,hv,hu.sub (hv.mul hq),(hq.mul hs).add ht,hs,fun x=>by have:=e1 x;have:=hqr x;grind,fun x=>by have:=e2 x;have:=e3 x;have:=hqr x;grind,e2⟩
def Dv(a b:Fn):Prop:=∃ q,Po q∧∀ x,b x=q x*a x
def Ey(a b:Fn):Prop:=∃ u v,Po u∧Po v∧∀ x,u x*a x+v x*b x=1
theorem Dv.trans{a b c:Fn}:Dv a b→Dv b c→Dv a c:=fun ⟨q,h1,h2⟩ ⟨r,k1,k2⟩=>⟨fun x=>r x*q x,k1.mul h1,fun x=>by rw [k2,h2];grind⟩
theorem Dv.refl(a:Fn):Dv a a:=⟨fun _=>1,bZ 1,fun x=>by grind⟩
theorem Dv.als{a b c:Fn}(hc:Po c):Dv a b→Dv a (fun x=>b x*c x):=fun ⟨q,h1,h2⟩=>⟨fun x=>q x*c x,h1.mul hc,fun x=>by have:=h2 x;grind⟩
theorem Dv.congr{a b c:Fn}(h:Dv a b)(e:∀ x,b x=c x):Dv a c:=by obtain rfl:b=c:=funext e;exact h
theorem Ey.symm{a b:Fn}:Ey a b→Ey b a:=fun ⟨u,v,h1,h2,h3⟩=>⟨v,u,h2,h1,fun x=>by have:=h3 x;grind⟩
/-- Euclid's lemma. -/
theorem Ey.dv{a b c:Fn}(h:Ey a b)(hc:Po c)(k:Dv a (fun x=>b x*c x)):Dv a c:=by
 obtain ⟨u,v,hu,hv,huv⟩:=h;obtain ⟨q,hq,hbc⟩:=k;exact ⟨fun x=>u x*c x+v x*q x,(hu.mul hc).add (hv.mul hq),fun x=>by have:=huv x;have:=hbc x;grind⟩
theorem Ey.mul{a b c:Fn}(h:Ey a b)(k:Ey a c)(ha:Po a)(hb:Po b)(hc:Po c):Ey a (fun x=>b x*c x):=by
 obtain ⟨u,v,hu,hv,huv⟩:=h;obtain ⟨p,q,hp,hq,hpq⟩:=k;exact ⟨fun x=>u x*p x*a x+u x*q x*c x+v x*b x*p x,fun x=>v x*q x,(((hu.mul hp).mul ha).add ((hu.mul hq).mul hc)).add ((hv.mul hb).mul hp),hv.mul hq,fun x=>by have:=huv x;have:=hpq x;grind⟩
/-! ### Derivatives -/
def yh(f f':Fn):Prop:=∀ B,∃ E,0≤E∧∀ s t,In B s→In B t→s≤t→Ab (f t-f s-(t-s)*f' s) ((t-s)*((t-s)*E))
theorem Po.bd{f:Fn}(h:Po f)(B:Rat):∃ M,0≤M∧∀ x,In B x→Ab (f x) M:=by
 obtain ⟨n,c,hz,hc⟩:=h;obtain ⟨M,hM,h⟩:=alz c n B;exact ⟨M,hM,fun x hx=>by rw [hc];exact h x hx⟩
theorem Po.lip{f:Fn}(h:Po f)(B:Rat):∃ L,0≤L∧RD B f L:=by
 obtain ⟨n,c,hz,hc⟩:=h;obtain ⟨L,hL,h⟩:=ahW c n B;exact ⟨L,hL,fun x y hx hy hxy=>by rw [hc,hc];exact h x y hx hy hxy⟩
theorem Po.AP{f:Fn}(h:Po f):∃ f',Po f'∧yh f f':=by
 obtain ⟨n,c,hz,hc⟩:=h;refine ⟨fun q=>pe (Bq c) q (n-1),⟨n-1,Bq c,agL hz,fun _=>rfl⟩,fun B=>?_⟩;obtain ⟨E,hE,h⟩:=aaC c n B;refine ⟨E,hE,fun s t hs ht hst=>?_⟩;have:=h s t hs ht hst;rw [hc,hc];unfold Ab;constructor <;> grind
theorem YS{c:Nat→Rat}{n:Nat}:yh (fun q=>pe c q n) (fun q=>pe (Bq c) q (n-1)):=fun B=>by
 obtain ⟨E,hE,h⟩:=aaC c n B;refine ⟨E,hE,fun s t hs ht hst=>?_⟩;have:=h s t hs ht hst;unfold Ab;constructor <;> grind
theorem RD.ab{B L:Rat}{f:Fn}(h:RD B f L){s t:Rat}(hs:In B s)(ht:In B t)(hst:s≤t):Ab (f t-f s) (L*(t-s)):=by have:=h s t hs ht hst;unfold Ab;constructor <;> grind
theorem acv{x:Rat}(h:0≤x):Ab x x:=by unfold Ab;constructor <;> grind
theorem yh.mul{f g f' g':Fn}(h:yh f f')(k:yh g g')(pf:Po f)(pg:Po g)(WW:Po f'):yh (fun x=>f x*g x) (fun x=>f' x*g x+f x*g' x):=fun B=>by
 obtain ⟨E,hE,h⟩:=h B;obtain ⟨F,hF,k⟩:=k B;obtain ⟨M,hM,m1⟩:=pg.bd B;obtain ⟨N,hN,m2⟩:=WW.bd B;obtain ⟨K,hK,m3⟩:=pf.bd B;obtain ⟨L,hL,l1⟩:=pg.lip B;refine ⟨M*E+N*L+K*F,by have:=acQ hM hE;have:=acQ hN hL;have:=acQ hK hF;grind,fun s t hs ht hst=>?_⟩;have a1:=(m1 t ht).mul (h s t hs ht hst);have a2:=((acv (show 0≤t-s by grind)).mul (m2 s hs)).mul (l1.ab hs ht hst);have a3:=(m3 s hs).mul (k s t hs ht hst);refine (((a1.add a2).add a3).eq ?_).mono ?_
 ·show _=f t*g t-f s*g s-(t-s)*(f' s*g s+f s*g' s);grind
 ·grind
theorem yh.congr{f g f' g':Fn}(h:yh f f')(e:∀ x,f x=g x)(e':∀ x,f' x=g' x):yh g g':=by obtain rfl:f=g:=funext e;obtain rfl:f'=g':=funext e';exact h
theorem Wn(a:Rat):yh (fun _=>a) (fun _=>0):=fun B=>⟨0,by grind,fun s t _ _ _=>(jR (e:=(t-s)*((t-s)*0)) (by grind)).eq (by grind)⟩
theorem yh.pow{f f':Fn}(h:yh f f')(pf:Po f)(WW:Po f'):∀ n:Nat,yh (fun x=>f x^(n+1)) (fun x=>((n+1:Nat):Rat)*f x^n*f' x)
 | 0=>h.congr (fun x=>by rw [Rat.pow_succ,Rat.pow_zero];grind) (fun x=>by rw [Rat.pow_zero];have:((0+1:Nat):Rat)=1:=rfl;rw [this];grind)
 | n+1=>by
  refine ((h.pow pf WW n).mul h (pf.pow (n+1)) pf (((pf.pow n).mul WW).yG ((n+1:Nat):Rat) |>.congr fun x=>by grind)).congr (fun x=>by rw [Rat.pow_succ (f x) (n+1)]) (fun x=>?_);rw [mM (n+1),Rat.pow_succ (f x) n];grind
theorem UN{w y p q E F z:Rat}(h1:Ab (w-y*p) (y*(y*E)))(h2:Ab (w-y*q) (y*(y*F)))(h3:(E+F)*y < z)(hy:0 < y)(hz:p-q=z):False:=by
 have h5:y*((E+F)*y) < y*z:=Rat.mul_lt_mul_of_pos_left h3 hy;have h6:y*z=y*p-y*q:=by rw [← hz];grind
 unfold Ab at h1 h2;grind
theorem yh.uniq{f f1 f2:Fn}(h:yh f f1)(k:yh f f2)(x:Rat):f1 x=f2 x:=by
 by_cases h0:f1 x=f2 x
 ·exact h0
 ·exfalso
  obtain ⟨B,hB1,hB2⟩:∃ B,In B x∧In B (x+1):=⟨(if x < 0 then -x else x)+1,by unfold In;constructor <;> (split <;> grind),by unfold In;constructor <;> (split <;> grind)⟩
  obtain ⟨E,hE,h⟩:=h B;obtain ⟨F,hF,k⟩:=k B;obtain ⟨z,hz,hz2⟩:∃ z:Rat,0 < z∧((f1 x-f2 x=z)∨(f2 x-f1 x=z)):=by
   by_cases h1:f2 x < f1 x
   ·exact ⟨f1 x-f2 x,by grind,Or.inl rfl⟩
   ·exact ⟨f2 x-f1 x,by grind,Or.inr rfl⟩
  obtain ⟨d,hd,hs⟩:=gY (L:=E+F) (m:=z) (by grind) hz;obtain ⟨e,he,he1,he2⟩:=kJ hd (show (0:Rat) < 1 by grind);have hte:In B (x+e / 2):=by unfold In at *;constructor <;> grind
  have h1:=h x (x+e / 2) hB1 hte (by grind);have h2:=k x (x+e / 2) hB1 hte (by grind);have h3:=hs (e / 2) (by grind) (by grind);have h4:x+e / 2-x=e / 2:=by grind
  rw [h4] at h1 h2;rcases hz2 with hz2 | hz2
  ·exact UN h1 h2 h3 (by grind) hz2
  ·exact UN h2 h1 (show (F+E)*(e / 2) < z by grind) (by grind) hz2
theorem Lc.AP{k:Nat}{f f':Fn}{a:Rat}(h:Lc (k+1) f a)(hd:yh f f'):Lc k f' (((k+1:Nat):Rat)*a):=by
 obtain ⟨c,h1,h2,h3,h4⟩:=h;have e:∀ x,pe (Bq c) x (k+1)=f' x:=fun x=>((YS (c:=c) (n:=k+1+1)).congr (fun q=>(h4 q).symm) (fun _=>rfl)).uniq hd x
 refine ⟨Bq c,fun i hi=>by unfold Bq;rw [h1 (i+1) (by omega),Rat.mul_zero],by unfold Bq;rw [h2],fun e=>?_,fun q=>(e q).symm⟩;rcases aiN.1 e with e | e
 ·have:(k+1:Nat)=0:=by exact_mod_cast e
  omega
 ·exact h3 e
/-! ### Prime polynomials, what is squarefree -/
theorem LC{x y:Fn}(hx:Po x)(hne:∃ t,x t≠0)(hy:Po y)(h:∀ t,x t*y t=0)(t:Rat):y t=0:=by
 obtain ⟨n,hx⟩:=hx;obtain ⟨m,hy⟩:=hy;rcases zI hx with h1 | ⟨k,a,_,h1⟩
 ·obtain ⟨t,ht⟩:=hne;exact absurd (h1 t) ht
 ·rcases zI hy with h2 | ⟨j,b,_,h2⟩
  ·exact h2 t
  ·obtain ⟨u,hu⟩:=(h1.mul h2).ne;exact absurd (h u) hu
theorem nK{x y z:Fn}(hx:Po x)(hne:∃ t,x t≠0)(hy:Po y)(hz:Po z)(h:∀ t,x t*y t=x t*z t)(t:Rat):y t=z t:=by
 have:=LC hx hne (hy.sub hz) (fun t=>by have:=h t;grind) t;grind
theorem nM{f:Fn}(h:Po f)(hne:∃ t,f t≠0):∃ k a,Lc k f a:=by
 obtain ⟨n,h⟩:=h;rcases zI h with h1 | ⟨k,a,_,h1⟩
 ·obtain ⟨t,ht⟩:=hne;exact absurd (h1 t) ht
 ·exact ⟨k,a,h1⟩
theorem Dv.deg{a b:Fn}{k j:Nat}{α β:Rat}(h:Dv a b)(ha:Lc k a α)(hb:Lc j b β):k≤j:=by
 obtain ⟨q,hq,e⟩:=h;obtain ⟨i,γ,hq⟩:=nM hq (by
  obtain ⟨t,ht⟩:=hb.ne;exact ⟨t,fun h0=>ht (by rw [e,h0];grind)⟩)
 have:=(hb.congr e).uniq (hq.mul ha);omega
theorem Nz{a:Rat}(h:a≠0):Lc 0 (fun _=>a) a:=⟨fun i=>if i=0 then a else 0,fun i hi=>if_neg (by omega),if_pos rfl,h,fun q=>by show a=0+(if 0=0 then a else 0)*q^0;rw [if_pos rfl,Rat.pow_zero];grind⟩
theorem LD{f:Fn}(hne:∃ k a,Lc k f a):∀ n:Nat,∃ k a,Lc k (fun x=>f x^n) a
 | 0=>⟨0,1,(Nz (a:=1) (by decide)).congr fun x=>by rw [Rat.pow_zero]⟩
 | n+1=>by
  obtain ⟨k,a,h⟩:=LD hne n;obtain ⟨j,b,g⟩:=hne;exact ⟨_,_,(h.mul g).congr fun x=>by rw [Rat.pow_succ]⟩
def Pr(π:Fn):Prop:=Po π∧(∃ k a,1≤k∧Lc k π a)∧∀ h,Po h→Dv π h∨Ey π h
theorem sQ{f:Fn}{a:Rat}(h:Lc 0 f a)(x:Rat):f x=a:=by
 obtain ⟨c,h1,h2,h3,h4⟩:=h;rw [h4];show 0+c 0*x^0=a;rw [Rat.pow_zero,h2];grind
/-- Each that is not constant has a prime divisor. -/
theorem aeY:∀ (k:Nat) (d:Fn) (a:Rat),Lc k d a→1≤k→Po d→∃ π,Pr π∧Dv π d:=by
 intro k
 induction k using Nat.strongRecOn with
 | ind k ih=>
  intro d a hd hk pd
  by_cases hs:∃ e j b,Dv e d∧Po e∧Lc j e b∧1≤j∧j < k
  ·obtain ⟨e,j,b,h1,h2,h3,h4,h5⟩:=hs
   obtain ⟨π,h6,h7⟩:=ih j h5 e b h3 h4 h2;exact ⟨π,h6,h7.trans h1⟩
  ·refine ⟨d,⟨pd,⟨k,a,hk,hd⟩,fun h ph=>?_⟩,.refl _⟩
   obtain ⟨m,ph⟩:=ph;obtain ⟨e,u,v,s,t,pe',pu,pv,ps,pt,e1,e2,e3⟩:=Ju m d h pd ph;obtain ⟨j,b,he⟩:=nM pe' (by obtain ⟨y,hy⟩:=hd.ne;exact ⟨y,fun h0=>hy (by rw [e2,h0];grind)⟩);have hdv:Dv e d:=⟨s,ps,e2⟩;have hle:=hdv.deg he hd
   by_cases hj:j=0
   ·subst hj
    have hb:=sQ he;have hb0:b≠0:=he.choose_spec.2.2.1;exact Or.inr ⟨fun x=>u x*b⁻¹,fun x=>v x*b⁻¹,pu.yG _,pv.yG _,fun x=>by have h5:=e1 x;rw [hb] at h5;have:=aii b hb0;grind⟩
   ·have hjk:j=k:=by
     rcases ag4 j k with h6 | h6
     ·exact absurd ⟨e,j,b,hdv,pe',he,by omega,h6⟩ hs
     ·omega
    subst hjk;obtain ⟨i,γ,fQ⟩:=nM ps (by obtain ⟨y,hy⟩:=hd.ne;exact ⟨y,fun h0=>hy (by rw [e2,h0];grind)⟩);have h7:=((fQ.mul he).congr fun x=>(e2 x).symm).uniq hd;have hi:i=0:=by omega
    subst hi;have hg:=sQ fQ;have hg0:γ≠0:=fQ.choose_spec.2.2.1;exact Or.inl ⟨fun x=>t x*γ⁻¹,pt.yG _,fun x=>by have h8:=e3 x;have h9:=e2 x;rw [hg] at h9;have:=aii γ hg0;grind⟩
theorem Pr.agP{π x y:Fn}(h:Pr π)(px:Po x)(py:Po y)(hd:Dv π (fun t=>x t*y t)):Dv π x∨Dv π y:=by
 rcases h.2.2 x px with h1 | h1
 ·exact Or.inl h1
 ·exact Or.inr (h1.dv py hd)
theorem Pr.ne{π:Fn}(h:Pr π):∃ t,π t≠0:=let ⟨_,⟨_,_,_,hl⟩,_⟩:=h;hl.ne
theorem Pr.AP{π π':Fn}(h:Pr π)(hd:yh π π')(pp:Po π'):Ey π π':=by
 rcases h.2.2 π' pp with h1 | h1
 ·exfalso
  obtain ⟨_,⟨k,a,hk,hl⟩,_⟩:=h;obtain ⟨j,rfl⟩:∃ j,k=j+1:=⟨k-1,by omega⟩
  have:=h1.deg hl (hl.AP hd);omega
 ·exact h1
/-- How often a prime polynomial is there. -/
theorem ac1{π a:Fn}(h:Pr π)(pa:Po a)(hne:∃ t,a t≠0):∃ (k:Nat) (b:Fn),Po b∧(∀ x,a x=π x^k*b x)∧¬ Dv π b:=by
 obtain ⟨n,α,ha⟩:=nM pa hne;obtain ⟨m,β,hm,hl⟩:=h.2.1;have key:∀ (n:Nat) (a:Fn) (α:Rat),Po a→Lc n a α→∃ (k:Nat) (b:Fn),Po b∧(∀ x,a x=π x^k*b x)∧¬ Dv π b:=by
  intro n
  induction n using Nat.strongRecOn with
  | ind n ih=>
   intro a α pa ha
   by_cases hd:Dv π a
   ·obtain ⟨q,pq,e⟩:=hd
    obtain ⟨i,γ,hi⟩:=nM pq (by obtain ⟨y,hy⟩:=ha.ne;exact ⟨y,fun h0=>hy (by rw [e,h0];grind)⟩);have h1:=((hi.mul hl).congr fun x=>(e x).symm).uniq ha;obtain ⟨k,b,pb,hb,hnb⟩:=ih i (by omega) q γ pq hi;exact ⟨k+1,b,pb,fun x=>by rw [e,hb,Rat.pow_succ];grind,hnb⟩
   ·exact ⟨0,a,pa,fun x=>by rw [Rat.pow_zero];grind,hd⟩
 exact key n a α pa ha
/-- A and its derivative: what is left over their common divisor has each prime factor once. -/
theorem QJ{π a a' f g u v w:Fn}(h:Pr π)(pa:Po a)(hne:∃ t,a t≠0)(hda:yh a a')(pa':Po a')(pf:Po f)(pg:Po g)(hfg:∀ x,a x=f x*g x)(pu:Po u)(pv:Po v)(hg:∀ x,g x=u x*a x+v x*a' x)(pw:Po w)(hga:∀ x,a' x=w x*g x)(hd:Dv π a):∃ f1,Po f1∧(∀ x,f x=π x*f1 x)∧¬ Dv π f1:=by
  obtain ⟨pp,hnc,hpr⟩:=h;have h:Pr π:=⟨pp,hnc,hpr⟩;obtain ⟨π',pp',hdp⟩:=pp.AP;obtain ⟨K,b,pb,hb,hnb⟩:=ac1 h pa hne;obtain ⟨k,rfl⟩:∃ k,K=k+1:=by
    cases K with
    | zero=>exact absurd (hd.congr fun x=>by rw [hb,Rat.pow_zero];grind) hnb
    | succ k=>exact ⟨k,rfl⟩
  obtain ⟨b',pb',hdb⟩:=pb.AP;have ha':∀ x,a' x=π x^k*(((k+1:Nat):Rat)*π' x*b x+π x*b' x):=by
    intro x;have h1:=((hdp.pow pp pp' k).mul hdb (pp.pow (k+1)) pb (((pp.pow k).mul pp').yG ((k+1:Nat):Rat) |>.congr fun x=>by grind));have h2:=(h1.congr (fun x=>(hb x).symm) (fun _=>rfl)).uniq hda x;rw [← h2,Rat.pow_succ];grind
  have pk:=pp.pow k;have nk:∃ t,π t^k≠0:=by
    obtain ⟨j,α,hj⟩:=LD (let ⟨k,a,_,hl⟩:=hnc;⟨k,a,hl⟩) k;exact hj.ne
  have hg1:∀ x,g x=π x^k*(u x*π x*b x+v x*(((k+1:Nat):Rat)*π' x*b x+π x*b' x)):=by
    intro x;rw [hg,hb,ha',Rat.pow_succ];grind
  obtain ⟨g1,akz⟩:∃ g1:Fn,g1=fun x=>u x*π x*b x+v x*(((k+1:Nat):Rat)*π' x*b x+π x*b' x):=⟨_,rfl⟩
  have pg1:Po g1:=by
    rw [akz];exact (((pu.mul pp).mul pb).add (pv.mul ((((pp'.yG ((k+1:Nat):Rat)).mul pb).add (pp.mul pb')).congr fun x=>by grind)))
  have hgg:∀ x,g x=π x^k*g1 x:=fun x=>by rw [hg1,akz]
  have an1:¬ Dv π g1:=by
    rintro ⟨q,pq,hq⟩;have e1:=nK pk nk ((((pp'.yG ((k+1:Nat):Rat)).mul pb).add (pp.mul pb')).congr (g:=fun x=>((k+1:Nat):Rat)*π' x*b x+π x*b' x) fun x=>by grind) ((pw.mul pq).mul pp) (fun x=>by
      rw [← ha',hga,hgg,hq];grind)
    have e2:Dv π (fun x=>π' x*b x):=by
      have hk0 : ((k + 1 : Nat) : Rat) ≠ 0 := by intro e; have : (k + 1 : Nat) = 0 := by exact_mod_cast e
                                                 omega
      refine ⟨fun x=>(w x*q x-b' x)*((k+1:Nat):Rat)⁻¹,((pw.mul pq).sub pb').yG _,fun x=>?_⟩;have h3:=e1 x;have h4:=aii _ hk0;generalize ((k+1:Nat):Rat)=N at *
      generalize N⁻¹=M at *
      have h5:N*π' x*b x=(w x*q x-b' x)*π x:=by grind
      have h6:π' x*b x=M*(N*π' x*b x):=by grind
      show π' x*b x=(w x*q x-b' x)*M*π x
      rw [h6,h5];grind
    exact hnb ((h.AP hdp pp').dv pb e2)
  have e3:=nK pk nk (pp.mul pb) (pf.mul pg1) (fun x=>by
    have h1:π x^(k+1)*b x=f x*(π x^k*g1 x):=by rw [← hb,← hgg,← hfg]
    rw [Rat.pow_succ] at h1;grind)
  have e4:Dv π f:=by
    rcases h.agP pf pg1 ⟨b,pb,fun x=>by have:=e3 x;grind⟩ with h1 | h1
    · exact h1
    · exact absurd h1 an1
  obtain ⟨f1,pf1,hf1⟩:=e4;refine ⟨f1,pf1,fun x=>by rw [hf1];grind,fun hd1=>?_⟩;have e5:=nK pp h.ne pb (pf1.mul pg1) (fun x=>by have:=e3 x;have:=hf1 x;grind);exact hnb ((hd1.als pg1).congr fun x=>(e5 x).symm)
/-- It is squarefree. -/
theorem ad9{a a' f f' g u v w:Fn}(pa:Po a)(hne:∃ t,a t≠0)(hda:yh a a')(pa':Po a')(pf:Po f)(pg:Po g)(hfg:∀ x,a x=f x*g x)(pu:Po u)(pv:Po v)(hg:∀ x,g x=u x*a x+v x*a' x)(pw:Po w)(hga:∀ x,a' x=w x*g x)(hdf:yh f f')(WW:Po f'):Ey f f':=by
 obtain ⟨n,pn⟩:=WW;obtain ⟨d,p,q,s,t,pd,pp,pq,ps,pt,e1,e2,e3⟩:=Ju n f f' pf pn;have WW:Po f':=⟨n,pn⟩;have anM:∃ t,f t≠0:=by obtain ⟨y,hy⟩:=hne;exact ⟨y,fun h0=>hy (by rw [hfg,h0];grind)⟩
 obtain ⟨k,δ,hd⟩:=nM pd (by obtain ⟨y,hy⟩:=anM;exact ⟨y,fun h0=>hy (by rw [e2,h0];grind)⟩)
 by_cases hk:k=0
 ·subst hk
  have hc:=sQ hd;have h0:δ≠0:=hd.choose_spec.2.2.1;exact ⟨fun x=>p x*δ⁻¹,fun x=>q x*δ⁻¹,pp.yG _,pq.yG _,fun x=>by have h5:=e1 x;rw [hc] at h5;have:=aii δ h0;grind⟩
 ·exfalso
  obtain ⟨π,hπ,hdv⟩:=aeY k d δ hd (by omega) pd;have hpf:Dv π f:=hdv.trans ⟨s,ps,e2⟩;have an7:Dv π f':=hdv.trans ⟨t,pt,e3⟩;obtain ⟨f1,pf1,hf1,hn⟩:=QJ hπ pa hne hda pa' pf pg hfg pu pv hg pw hga (hpf.trans ⟨g,pg,fun x=>by rw [hfg];grind⟩);obtain ⟨π',pp',hdp⟩:=hπ.1.AP;obtain ⟨f1',aox,Zk⟩:=pf1.AP;have e4:∀ x,f' x=π' x*f1 x+π x*f1' x:=fun x=>(((hdp.mul Zk hπ.1 pf1 pp').congr (fun x=>(hf1 x).symm) (fun _=>rfl)).uniq hdf x).symm
  obtain ⟨r,pr,hr⟩:=an7;have e5:Dv π (fun x=>π' x*f1 x):=⟨fun x=>r x-f1' x,pr.sub aox,fun x=>by have:=e4 x;have:=hr x;grind⟩;exact hn ((hπ.AP hdp pp').dv pf1 e5)
/-- A power of it is a multiple of the whole. -/
theorem aea{a a' f g u v w:Fn}(pa:Po a)(hne:∃ t,a t≠0)(hda:yh a a')(pa':Po a')(pf:Po f)(pg:Po g)(hfg:∀ x,a x=f x*g x)(pu:Po u)(pv:Po v)(hg:∀ x,g x=u x*a x+v x*a' x)(pw:Po w)(hga:∀ x,a' x=w x*g x):∃ N:Nat,Dv a (fun x=>f x^N):=by
 have key:∀ (n:Nat) (b:Fn) (β:Rat),Lc n b β→Po b→Dv b a→∃ N:Nat,Dv b (fun x=>f x^N):=by
  intro n
  induction n using Nat.strongRecOn with
  | ind n ih=>
   intro b β hb pb hba
   by_cases hn:n=0
   ·subst hn
    have h0:β≠0:=hb.choose_spec.2.2.1;exact ⟨0,fun _=>β⁻¹,bZ _,fun x=>by show f x^0=β⁻¹*b x;rw [Rat.pow_zero,sQ hb];have:=aii β h0;grind⟩
   ·obtain ⟨π,hπ,q,pq,hq⟩:=aeY n b β hb (by omega) pb
    obtain ⟨f1,pf1,hf1,_⟩:=QJ hπ pa hne hda pa' pf pg hfg pu pv hg pw hga (Dv.trans ⟨q,pq,hq⟩ hba);obtain ⟨i,γ,hi⟩:=nM pq (by obtain ⟨y,hy⟩:=hb.ne;exact ⟨y,fun h0=>hy (by rw [hq,h0];grind)⟩);obtain ⟨m,μ,hm,hl⟩:=hπ.2.1;have h1:=((hi.mul hl).congr fun x=>(hq x).symm).uniq hb;obtain ⟨N,r,pr,hr⟩:=ih i (by omega) q γ hi pq (Dv.trans ⟨π,hπ.1,fun x=>by rw [hq];grind⟩ hba);exact ⟨N+1,fun x=>r x*f1 x,pr.mul pf1,fun x=>by show f x^(N+1)=r x*f1 x*b x;have h2:f x^N=r x*q x:=hr x;rw [Rat.pow_succ,h2,hq x,hf1 x];grind⟩
 obtain ⟨n,α,ha⟩:=nM pa hne;exact key n a α ha pa (.refl a)
/-! ### Chains of polynomials -/
def PCh(a b:Fn):List Fn→Prop
 | []=>∃ c,c≠0∧∀ x,b x=c
 | c ::l=>(∃ (Q:Fn) (k:Rat),Po Q∧0 < k∧∀ x,a x=Q x*b x-k*c x)∧PCh b c l
theorem Vs(B:Rat):∀ (l:List Fn) (a b:Fn),PCh a b l→Chn B a b l
 | [],_,_,h=>h
 | c ::l,a,b,⟨⟨Q,k,pQ,hk,h⟩,hl⟩=>by
  obtain ⟨M,hM,hb⟩:=pQ.bd B;exact ⟨⟨Q,M,k,hM,hk,fun x hx=>hb x hx,h⟩,Vs B l b c hl⟩
theorem RD.mono{B L M:Rat}{f:Fn}(h:RD B f L)(k:L≤M):RD B f M:=fun x y hx hy hxy=>by
 have:=h x y hx hy hxy;have h2:=abS k (show 0≤y-x by grind);constructor <;> grind
theorem KX(B:Rat):∀ l:List Fn,(∀ f∈l,Po f)→∃ L,0≤L∧RF B L l
 | [],_=>⟨0,by grind,fun f hf=>by cases hf⟩
 | f ::l,h=>by
  obtain ⟨L,hL,h1⟩:=KX B l fun g hg=>h g (ag3 _ hg)
  obtain ⟨M,hM,h2⟩:=(h f aiG).lip B;refine ⟨L+M,by grind,fun g hg=>?_⟩;rcases afr.1 hg with rfl | hg
  ·exact h2.mono (by grind)
  ·exact (h1 g hg).mono (by grind)
theorem Ua{f f' g:Fn}{l:List Fn}{d:Rat}(hp:∀ h∈f ::g ::l,Po h)(hc:PCh f g l)(hd:yh f f')(hpos:0 < d)(hg:∀ x,f' x=d*g x):JZ f g l:=
 ⟨fun B=>Vs B l f g hc,fun B=>KX B _ hp,d,hpos,fun B=>by
  obtain ⟨E,hE,h⟩:=hd B;refine ⟨E,hE,fun s t hs ht hst=>?_⟩;have:=h s t hs ht hst;rw [hg] at this;unfold Ab at this;constructor <;> grind⟩
/-- Each squarefree polynomial has a chain. -/
theorem agT:∀ (m:Nat) (a b:Fn) (β:Rat),Po a→Lc m b β→Po b→Ey a b→∃ l:List Fn,(∀ h∈l,Po h)∧PCh a b l:=by
 intro m
 induction m using Nat.strongRecOn with
 | ind m ih=>
  intro a b β pa hb pb hc
  by_cases hm:m=0
  ·subst hm
   have h0:PCh a b []:=⟨β,hb.choose_spec.2.2.1,sQ hb⟩;exact ⟨[],⟨fun h hh=>(List.not_mem_nil hh).elim,h0⟩⟩
  ·obtain ⟨n,pn⟩:=pa
   obtain ⟨q,r,pq,pr,hqr⟩:=TN hb n a pn;obtain ⟨u,v,pu,pv,huv⟩:=hc;rcases zI pr with h0 | ⟨k,γ,hk,hr⟩
   ·exfalso
    have h1:∀ x,(u x*q x+v x)*b x=1:=fun x=>by have:=huv x;have:=hqr x;rw [h0 x] at this;grind
    obtain ⟨j,δ,hj⟩:=nM ((pu.mul pq).add pv) ⟨0,fun e=>by have:=h1 0;rw [e] at this;grind⟩;have:=((hj.mul hb).congr h1).uniq (Nz (a:=1) (by decide));omega
   ·have hnr:Lc k (fun x=> - r x) (-γ):=by
     have:=hr.mul (Nz (a:=(-1:Rat)) (by decide));have h2:=this.congr (g:=fun x=> - r x) fun x=>by grind
     rw [show γ* -1= -γ by grind] at h2;exact h2
    obtain ⟨l,hl,hpl⟩:=ih k hk b (fun x=> - r x) (-γ) pb hnr (pr.po.neg) ⟨fun x=>u x*q x+v x,fun x=> - u x,(pu.mul pq).add pv,pu.neg,fun x=>by have:=huv x;have:=hqr x;grind⟩;refine ⟨(fun x=> - r x) ::l,fun h hh=>?_,⟨q,1,pq,by grind,fun x=>by have:=hqr x;grind⟩,hpl⟩;rcases afr.1 hh with rfl | hh
    ·exact pr.po.neg
    ·exact hl h hh
/-- SQUAREFREE: with its derivative. -/
structure AB(f f':Fn):Prop where
 po:Po f
 Xx:Po f'
 AP:yh f f'
 cop:Ey f f'
theorem AB.stm{f f':Fn}(h:AB f f')(hn:∃ x,f' x≠0):∃ g l,JZ f g l∧∀ x,fC (g x)=fC (f' x):=by
 obtain ⟨m,β,hm⟩:=nM h.Xx hn;obtain ⟨l,hl,hc⟩:=agT m f f' β h.po hm h.Xx h.cop;refine ⟨f',l,Ua (fun g hg=>?_) hc h.AP (show (0:Rat) < 1 by grind) (fun x=>by grind),fun _=>rfl⟩;rcases afr.1 hg with rfl | hg
 ·exact h.po
 ·rcases afr.1 hg with rfl | hg
  ·exact h.Xx
  ·exact hl g hg
theorem JZ.sg{f f' g:Fn}{l:List Fn}(h:JZ f g l)(hd:yh f f')(x:Rat):fC (g x)=fC (f' x):=by
 obtain ⟨d,hpos,hb⟩:=h.AP;have:yh f (fun x=>d*g x):=fun B=>by
  obtain ⟨E,hE,h⟩:=hb B;refine ⟨E,hE,fun s t hs ht hst=>?_⟩;have:=h s t hs ht hst;unfold Ab;constructor <;> grind
 have e:=hd.uniq this x;rw [e,Ee,iG hpos,Int.one_mul]
/-- The sign just after x is that. -/
theorem CQ{f g:Fn}{l:List Fn}(h:JZ f g l)(pf:Po f)(x:Rat):yC f g x≠0∧∃ e,0 < e∧∀ t,x < t→t < x+e→fC (f t)=yC f g x:=by
 obtain ⟨B,hB1,hB2⟩:∃ B,In B x∧In B (x+1):=⟨(if x < 0 then -x else x)+1,by unfold In;constructor <;> (split <;> grind),by unfold In;constructor <;> (split <;> grind)⟩
 obtain ⟨δ,hδ,hne,hcell⟩:=tH h B;refine ⟨hne x hB1,?_⟩
 by_cases h0:fC (f x)=0
 ·obtain ⟨e,he,he1,he2⟩:=kJ hδ (show (0:Rat) < 1 by grind)
  refine ⟨e,he,fun t h1 h2=>?_⟩;have U8:In B t:=by unfold In at *;constructor <;> grind
  rw [MJ h0];rcases hcell x t hB1 U8 h1 (by grind) with ⟨⟨k,_⟩,_⟩ | ⟨τ,hτ,hg,hm,_⟩
  ·exact absurd h0 k
  ·rw [hg x (by grind) (by grind)]
   have h3:=hm x t (by grind) h1 (by grind);rw [fP] at h0;rw [h0] at h3;rwa [show f t-0=f t by grind] at h3
 ·rw [yK h0]
  obtain ⟨L,hL,hl⟩:=pf.lip B;obtain ⟨m,hm,hf⟩:∃ m:Rat,0 < m∧oQ (f x) m:=by
   rcases eH (f x) with ⟨k,_⟩ | ⟨_,k⟩ | ⟨k,_⟩
   ·exact ⟨-(f x),by grind,Or.inr (by grind)⟩
   ·exact absurd k h0
   ·exact ⟨f x,k,Or.inl (by grind)⟩
  obtain ⟨d,hd,hs⟩:=gY hL hm;obtain ⟨e,he,he1,he2⟩:=kJ hd (show (0:Rat) < 1 by grind);refine ⟨e,he,fun t h1 h2=>?_⟩;have U8:In B t:=by unfold In at *;constructor <;> grind
  exact (KY hl hL hB1 U8 hm (hs _ (by grind) (by grind)) hf).2.1 t (by grind) (by grind)
/-- FREE of roots: one sign above a, up to b. -/
def jP(f:Fn)(a b:Rat):Prop:=∃ s:Int,s≠0∧∀ t,a < t→t≤b→fC (f t)=s
theorem DZ{f g:Fn}{l:List Fn}(h:JZ f g l)(pf:Po f){a b:Rat}{N:Nat}(hab:a≤b)(k:RG f g l a b N):N=0↔jP f a b:=by
 obtain ⟨h0,e,he,hn⟩:=CQ h pf a;constructor
 ·intro hN;exact ⟨yC f g a,h0,k.nil.1 hN⟩
 ·rintro ⟨s,hs,hst⟩
  by_cases hlt:a < b
  ·refine k.nil.2 fun t h1 h2=>?_
   rw [hst t h1 h2];obtain ⟨z,hz,hz1,hz2⟩:=kJ he (show 0 < b-a by grind);have h3:=hn (a+z / 2) (by grind) (by grind);rw [← h3];exact (hst (a+z / 2) (by grind) (by grind)).symm
  ·exact k.nil.2 fun t h1 h2=>by grind
/-- THE COUNT. -/
def oP(f:Fn)(a b:Rat)(N:Nat):Prop:=∃ g l,JZ f g l∧RG f g l a b N
theorem oP.free{f:Fn}(pf:Po f){a b:Rat}{N:Nat}(hab:a≤b)(h:oP f a b N):N=0↔jP f a b:=let ⟨_,_,h1,h2⟩:=h;DZ h1 pf hab h2
theorem abh{f g g':Fn}{l l':List Fn}(pf:Po f)(h:JZ f g l)(h':JZ f g' l'){a b:Rat}(hab:a≤b){N N':Nat}(k:RG f g l a b N)(k':RG f g' l' a b N'):N=N':=by
 obtain ⟨B,hBa,hBb⟩:∃ B,In B a∧In B b:=by
  refine ⟨(if a < 0 then -a else a)+(if b < 0 then -b else b),?_,?_⟩ <;> (unfold In;constructor <;> (repeat' split) <;> grind)
 obtain ⟨δ1,hδ1,_,hcell1⟩:=tH h B;obtain ⟨δ2,hδ2,_,hcell2⟩:=tH h' B;obtain ⟨δ,hδ,hd1,hd2⟩:=kJ hδ1 hδ2;obtain ⟨n,hn⟩:=Iu (r:=b-a) (d:=δ / 2) (by grind);have cell:∀ x y,In B x→In B y→x < y→y-x < δ→∀ M M',RG f g l x y M→RG f g' l' x y M'→M=M':=by
  intro x y hx hy hxy hlt M M' p p';obtain ⟨M1,h1,p1⟩:=zD hxy (hcell1 x y hx hy hxy (by grind));obtain ⟨M2,h2,p2⟩:=zD hxy (hcell2 x y hx hy hxy (by grind));have e1:M=M1:=by have:=p.v;have:=p1.v;omega
  have e2:M'=M2:=by have:=p'.v;have:=p2.v;omega
  have f1:=DZ h pf (by grind) p;have f2:=DZ h' pf (by grind) p';have:M=0↔M'=0:=f1.trans f2.symm;omega
 have main:∀ n:Nat,∀ c,In B c→a≤c→c-a≤(n:Rat)*(δ / 2)→∀ N N',RG f g l a c N→RG f g' l' a c N'→N=N':=by
  intro n
  induction n with
  | zero=>
   intro c _ h1 h2 N N' p p';have:c=a:=by have:((0:Nat):Rat)=0:=rfl;grind
   subst this;have:=p.v;have:=p'.v;omega
  | succ n ih=>
   intro c hc h1 h2 N N' p p';rw [mM] at h2
   by_cases h3:c-a≤(n:Rat)*(δ / 2)
   ·exact ih c hc h1 h3 N N' p p'
   ·by_cases h4:c-δ / 2≤a
    ·by_cases h5:a=c
     ·subst h5;have:=p.v;have:=p'.v;omega
     ·exact cell a c hBa hc (by grind) (by grind) N N' p p'
    ·have hm:In B (c-δ / 2):=⟨by have:=hBa.1;grind,by have:=hc.2;grind⟩
     obtain ⟨N1,q1⟩:=qU h (a:=a) (b:=c-δ / 2) (by grind);obtain ⟨N2,q2⟩:=qU h' (a:=a) (b:=c-δ / 2) (by grind);obtain ⟨M1,r1⟩:=qU h (a:=c-δ / 2) (b:=c) (by grind);obtain ⟨M2,r2⟩:=qU h' (a:=c-δ / 2) (b:=c) (by grind);have e1:=ih (c-δ / 2) hm (by grind) (by grind) N1 N2 q1 q2;have e2:=cell (c-δ / 2) c hm hc (by grind) (by grind) M1 M2 r1 r2;have:=p.v;have:=q1.v;have:=r1.v;have:=p'.v;have:=q2.v;have:=r2.v;omega
 exact main n b hBb hab hn N N' k k'
theorem oP.uniq{f:Fn}(pf:Po f){a b:Rat}(hab:a≤b){N M:Nat}(h:oP f a b N)(k:oP f a b M):N=M:=let ⟨_,_,h1,h2⟩:=h;let ⟨_,_,k1,k2⟩:=k;abh pf h1 k1 hab h2 k2
theorem oP.split{f:Fn}{a m b:Rat}{N:Nat}(ham:a≤m)(hmb:m≤b)(h:oP f a b N):∃ K M,oP f a m K∧oP f m b M∧N=K+M:=by
 obtain ⟨g,l,h1,h2⟩:=h;obtain ⟨K,k⟩:=qU h1 ham;obtain ⟨M,m'⟩:=qU h1 hmb;exact ⟨K,M,⟨g,l,h1,k⟩,⟨g,l,h1,m'⟩,by have:=h2.v;have:=k.v;have:=m'.v;omega⟩
theorem oP.cat{f:Fn}(pf:Po f){a m b:Rat}{N M:Nat}(ham:a≤m)(hmb:m≤b)(h:oP f a m N)(k:oP f m b M):oP f a b (N+M):=by
 obtain ⟨g,l,h1,h2⟩:=h;obtain ⟨M',m'⟩:=qU h1 hmb;have e:=oP.uniq pf hmb k ⟨g,l,h1,m'⟩;subst e;exact ⟨g,l,h1,Vq ham hmb h2 m'⟩
/-! ### Siegel's lemma -/
theorem aaK:∀ (B A:Nat) (f:Nat→Nat),B < A→(∀ i,i < A→f i < B)→∃ i j,i < j∧j < A∧f i=f j
 | 0,A,f,h,hf=>absurd (hf 0 (by omega)) (ab2 _)
 | B+1,A,f,h,hf=>by
  obtain ⟨A',rfl⟩:∃ A',A=A'+1:=⟨A-1,by omega⟩
  by_cases hh:∃ i,i < A'∧f i=f A'
  ·obtain ⟨i,h1,h2⟩:=hh
   exact ⟨i,A',h1,by omega,h2⟩
  ·have hne:∀ i,i < A'→f i≠f A':=fun i hi e=>hh ⟨i,hi,e⟩
   have hA:=hf A' (by omega);obtain ⟨i,j,h1,h2,h3⟩:=aaK B A' (fun i=>if f i < f A' then f i else f i-1) (by omega) (fun i hi=>by
    have h1:=hne i hi;have h2:=hf i (by omega);show (if f i < f A' then f i else f i-1) < B
    split <;> omega)
   refine ⟨i,j,h1,by omega,?_⟩;have e:(if f i < f A' then f i else f i-1)=(if f j < f A' then f j else f j-1):=h3;have k1:=hne i (by omega);have k2:=hne j (by omega);split at e <;> split at e <;> omega
/-- A number's places to the base b. -/
def Jt(b t j:Nat):Nat:=t / b^j%b
theorem aaN{b:Nat}(hb:0 < b):∀ (n s t:Nat),s < b^n→t < b^n→(∀ j,j < n→Jt b s j=Jt b t j)→s=t
 | 0,s,t,hs,ht,_=>by rw [Nat.pow_zero] at hs ht;omega
 | n+1,s,t,hs,ht,h=>by
  have e0:s%b=t%b:=by have:=h 0 (by omega);unfold Jt at this;rwa [Nat.pow_zero,Nat.div_one,Nat.div_one] at this
  have e1:s / b=t / b:=by
   refine aaN hb n _ _ (afX (by rw [Nat.mul_comm,← Nat.pow_succ];exact hs)) (afX (by rw [Nat.mul_comm,← Nat.pow_succ];exact ht)) fun j hj=>?_
   have:=h (j+1) (by omega);unfold Jt at this ⊢;rwa [Nat.pow_succ,Nat.mul_comm,← Nat.div_div_eq_div_mul,← Nat.div_div_eq_div_mul] at this
  rw [← Nat.div_add_mod s b,← Nat.div_add_mod t b,e0,e1]
/-- .. put together. -/
def Kt(w:Nat→Nat)(R:Nat):Nat→Nat
 | 0=>0
 | m+1=>Kt w R m+w m*R^m
theorem Hq{w:Nat→Nat}{R:Nat}:∀ {m:Nat},(∀ i,i < m→w i < R)→Kt w R m < R^m
 | 0,_=>by rw [Nat.pow_zero];exact Nat.one_pos
 | m+1,h=>by
  have h1:=Hq (w:=w) (R:=R) (m:=m) fun i hi=>h i (by omega)
  have h2:=abN (R^m) (show w m+1≤R from h m (by omega));rw [Nat.add_mul,Nat.one_mul] at h2;show Kt w R m+w m*R^m < R^(m+1)
  rw [Nat.pow_succ,Nat.mul_comm (R^m)];omega
theorem QN{w v:Nat→Nat}{R:Nat}:∀ {m:Nat},(∀ i,i < m→w i < R)→(∀ i,i < m→v i < R)→Kt w R m=Kt v R m→∀ i,i < m→w i=v i
 | 0,_,_,_,i,hi=>absurd hi (ab2 _)
 | m+1,hw,hv,e,i,hi=>by
  have h1:=Hq (w:=w) (R:=R) (m:=m) fun i hi=>hw i (by omega)
  have h2:=Hq (w:=v) (R:=R) (m:=m) fun i hi=>hv i (by omega)
  have hpos:0 < R^m:=by omega
  have e':Kt w R m+w m*R^m=Kt v R m+v m*R^m:=e;have q:w m=v m:=by
   have:=ah5 (· / R^m) e';simp only [Nat.add_mul_div_right _ _ hpos,Nat.div_eq_of_lt h1,Nat.div_eq_of_lt h2] at this;omega
  have e2:Kt w R m=Kt v R m:=by rw [q] at e';omega
  rcases ag4 i m with h | h
  ·exact QN (fun i hi=>hw i (by omega)) (fun i hi=>hv i (by omega)) e2 i h
  ·obtain rfl:i=m:=by omega
   exact q
/-- Sums of whole numbers. -/
def kF(a:Nat→Int):Nat→Int
 | 0=>0
 | n+1=>kF a n+a n
theorem VN{a:Nat→Int}{H:Int}:∀ {n:Nat},(∀ j,j < n→-H≤a j∧a j≤H)→-(n*H)≤kF a n∧kF a n≤n*H
 | 0,_=>by constructor <;> (show _≤_;simp [kF])
 | n+1,h=>by
  have h1:=VN (a:=a) (H:=H) (n:=n) fun j hj=>h j (by omega)
  have h2:=h n (by omega);have e:((n+1:Nat):Int)*H=(n:Int)*H+H:=by rw [Int.natCast_add,Int.add_mul];simp
  rw [e];show _≤kF a n+a n∧kF a n+a n≤_
  omega
theorem QS{a b:Nat→Int}:∀ n:Nat,kF (fun j=>a j-b j) n=kF a n-kF b n
 | 0=>rfl
 | n+1=>by show kF (fun j=>a j-b j) n+(a n-b n)=(kF a n+a n)-(kF b n+b n);rw [QS n];omega
theorem ais{m n:Nat}{H:Nat}(A:Nat→Nat→Int)(hmn:m < n)(hH:1≤H)(hA:∀ i j,i < m→j < n→-(H:Int)≤A i j∧A i j≤H):
  ∃ x:Nat→Int,(∃ j,j < n∧x j≠0)∧(∀ j,n≤j→x j=0)∧(∀ j,-(((2*n*H)^m:Nat):Int)≤x j∧x j≤(((2*n*H)^m:Nat):Int))∧∀ i,i < m→kF (fun j=>A i j*x j) n=0:=by
 obtain ⟨M,hM⟩:∃ M,M=(2*n*H)^m:=⟨_,rfl⟩
 obtain ⟨S,hS⟩:∃ S:Nat,S=n*(H*M):=⟨_,rfl⟩
 let img:Nat→Nat→Int:=fun t i=>kF (fun j=>A i j*(Jt (M+1) t j:Int)) n
 have hp:∀ t j,Jt (M+1) t j≤M:=fun t j=>by unfold Jt;have:=adl (t / (M+1)^j) (show 0 < M+1 by omega);omega
 have ahh:∀ t i,i < m→-(S:Int)≤img t i∧img t i≤S:=by
  intro t i hi;have:=VN (a:=fun j=>A i j*(Jt (M+1) t j:Int)) (H:=((H*M:Nat):Int)) (n:=n) fun j hj=>by
   have h1:=hA i j hi hj;have h2:=hp t j;have h3:((Jt (M+1) t j:Nat):Int)≤M:=by omega
   have a1:=Int.mul_le_mul_of_nonneg_right h1.2 (show 0≤((Jt (M+1) t j:Nat):Int) by omega);have a2:=Int.mul_le_mul_of_nonneg_right h1.1 (show 0≤((Jt (M+1) t j:Nat):Int) by omega);have a3:=Int.mul_le_mul_of_nonneg_left h3 (show 0≤(H:Int) by omega);rw [Int.natCast_mul];rw [Int.neg_mul] at a2;show _≤A i j*_∧A i j*_≤_
   omega
  rw [← Int.natCast_mul,← hS] at this;exact this
 have hcnt:(2*S+1)^m < (M+1)^n:=by
  have h1:2*S+1≤2*n*H*(M+1):=by
   have hnH:1≤n*H:=agQ (by omega) hH;have:2*n*H*(M+1)=2*(n*H*M)+2*(n*H):=by rw [Nat.mul_add,Nat.mul_one,Nat.mul_assoc 2 n H,Nat.mul_assoc 2 (n*H) M]
   have h0:n*(H*M)=n*H*M:=(Nat.mul_assoc n H M).symm;rw [this,hS,h0];omega
  have h2:(2*S+1)^m≤M*(M+1)^m:=by
   have:=afb h1 m;rwa [Nat.mul_pow,← hM] at this
  have h3:M*(M+1)^m < (M+1)^(m+1):=by
   rw [Nat.pow_succ,Nat.mul_comm ((M+1)^m)];exact ahm (by omega) (aeA (by omega))
  have h4:(M+1)^(m+1)≤(M+1)^n:=ab1 (by omega) hmn;omega
 have hw:∀ t i,i < m→(img t i+S).toNat < 2*S+1:=fun t i hi=>by have:=ahh t i hi;omega
 obtain ⟨s,t,hst,ht,he⟩:=aaK ((2*S+1)^m) ((M+1)^n) (fun t=>Kt (fun i=>(img t i+S).toNat) (2*S+1) m) hcnt (fun t _=>Hq (hw t));have hi:∀ i,i < m→img s i=img t i:=fun i hi=>by
  have:=QN (hw s) (hw t) he i hi;have h1:=ahh s i hi;have h2:=ahh t i hi;omega
 refine ⟨fun j=>if j < n then (Jt (M+1) s j:Int)-Jt (M+1) t j else 0,?_,fun j hj=>if_neg (by omega),fun j=>?_,fun i him=>?_⟩
 ·by_cases hh:∃ j,j < n∧Jt (M+1) s j≠Jt (M+1) t j
  ·obtain ⟨j,h1,h2⟩:=hh
   exact ⟨j,h1,by show (if j < n then _ else _)≠(0:Int);rw [if_pos h1];omega⟩
  ·exfalso
   have:=aaN (b:=M+1) (by omega) n s t (by omega) ht fun j hj=>by
    by_cases h:Jt (M+1) s j=Jt (M+1) t j
    ·exact h
    ·exact absurd ⟨j,hj,h⟩ hh
   omega
 ·have h1:=hp s j
  have h2:=hp t j;rw [← hM];show -(M:Int)≤(if j < n then _ else _)∧(if j < n then _ else _)≤(M:Int)
  split <;> omega
 ·have e:kF (fun j=>A i j*(if j < n then (Jt (M+1) s j:Int)-Jt (M+1) t j else 0)) n=kF (fun j=>A i j*(Jt (M+1) s j:Int)-A i j*(Jt (M+1) t j:Int)) n:=by
   have cg:∀ (a b:Nat→Int) (k:Nat),(∀ j,j < k→a j=b j)→kF a k=kF b k:=by
    intro a b k
    induction k with
    | zero=>intro _;rfl
    | succ k ih=>intro h;show kF a k+a k=kF b k+b k;rw [ih fun j hj=>h j (by omega),h k (by omega)]
   refine cg _ _ n fun j hj=>?_
   show A i j*(if j < n then _ else _)=_
   rw [if_pos hj,Int.mul_sub]
  show kF (fun j=>A i j*(if j < n then (Jt (M+1) s j:Int)-Jt (M+1) t j else 0)) n=0
  rw [e,QS];have:=hi i him;show img s i-img t i=0
  omega
/-! ### What two polynomials have in common is a small combination of them -/
theorem UL(a b:Nat→Int)(j:Nat):∀ m,cv a b m j=kF (fun i=>if i≤j then a i*b (j-i) else 0) m
 | 0=>rfl
 | m+1=>by show cv a b m j+_=kF _ m+_;rw [UL a b j m]
theorem FB{a:Nat→Int}{n:Nat}(h:∀ i,n≤i→a i=0):∀ d,kF a (n+d)=kF a n
 | 0=>rfl
 | d+1=>by show kF a (n+d)+a (n+d)=_;rw [FB h d,h _ (by omega)];omega
theorem aed{a:Nat→Int}{n m:Nat}(h:∀ i,n≤i→a i=0)(k:∀ i,m≤i→a i=0):kF a n=kF a m:=by
 rcases Nat.le_total n m with h1 | h1
 ·obtain ⟨d,rfl⟩:=aiQ h1;exact (FB h d).symm
 ·obtain ⟨d,rfl⟩:=aiQ h1;exact FB k d
theorem KN{a b:Nat→Int}{n:Nat}(h:∀ i,n≤i→a i=0)(t:Nat):aY a b t=kF (fun i=>if i≤t then a i*b (t-i) else 0) n:=by
 unfold aY;rw [UL];refine aed (fun i hi=>if_neg (by omega)) (fun i hi=>?_);rw [h i hi];split <;> simp
theorem QO{a:Nat→Int}(n:Nat):∀ m,kF a (n+m)=kF a n+kF (fun j=>a (n+j)) m
 | 0=>(Int.add_zero _).symm
 | m+1=>by show kF a (n+m)+a (n+m)=_+(kF _ m+a (n+m));rw [QO n m];omega
theorem Ou{a b:Nat→Int}:∀ {k:Nat},(∀ j,j < k→a j=b j)→kF a k=kF b k
 | 0,_=>rfl
 | k+1,h=>by show kF a k+a k=kF b k+b k;rw [Ou fun j hj=>h j (by omega),h k (by omega)]
/-- A whole number that makes a primitive row whole. -/
theorem QB{γ:Nat→Int}{r:Nat}{κ:Rat}{W:Nat→Int}(hp:bF γ r=1)(h:∀ i,i < r→κ*(γ i:Rat)=(W i:Rat)):∃ z:Int,κ=(z:Rat):=by
 have h1:∀ n,n≤r→(κ.den∣bF γ n):=by
  intro n
  induction n with
  | zero=>intro _;exact Nat.dvd_zero _
  | succ n ih=>
   intro hn;refine Nat.dvd_gcd (ih (by omega)) ?_;have e:=h n (by omega);have hk:((κ.num*γ n:Int):Rat)=((W n*κ.den:Int):Rat):=by
    rw [Rat.intCast_mul,Rat.intCast_mul,← e];have h2:=NP (x:=κ.num) (y:=(κ.den:Int)) (by have:=κ.den_pos;omega);rw [jJ] at h2;rw [← h2];grind
   have hz:κ.num*γ n=W n*κ.den:=by exact_mod_cast hk
   have hd:(κ.den:Int)∣κ.num*γ n:=⟨W n,by rw [hz,Int.mul_comm]⟩;have hd2:κ.den∣κ.num.natAbs*(γ n).natAbs:=by
    have:=agH.1 hd;rwa [Int.natAbs_mul] at this
   exact Nat.Coprime.dvd_of_dvd_mul_left (Nat.Coprime.symm κ.reduced) hd2
 have h2:=h1 r (abJ r);rw [hp] at h2;have h3:κ.den=1:=Nat.dvd_one.1 h2;exact ⟨κ.num,by
  have h4:=jJ κ;rw [h3] at h4;exact h4.symm.trans (jE κ.num)⟩
/-- U F + V G2 = z G, and all is small. -/
theorem UF{c c' γ:Nat→Int}{d e r H:Nat}{k1 k2:Fn}(hc:∀ i,d < i→c i=0)(hc':∀ i,e < i→c' i=0)(hγ:∀ i,r < i→γ i=0)(hd:c d≠0)(he:c' e≠0)(hr:γ r≠0)(Zw:bF γ (r+1)=1) 
  (hH:1≤H) (bc:∀ i,-(H:Int)≤c i∧c i≤H) (bc':∀ i,-(H:Int)≤c' i∧c' i≤H) (pk1:Po k1) (pk2:Po k2) (h1:∀ x,pz c x (d+1)=k1 x*pz γ x (r+1)) (h2:∀ x,pz c' x (e+1)=k2 x*pz γ x (r+1)) (ahe:Ey k1 k2) (hrd:r≤d) (hre:r≤e) (hlt:r < d∨r < e):
  ∃ (U V:Nat→Int) (z:Int),z≠0∧(∀ j,e-r≤j→U j=0)∧(∀ j,d-r≤j→V j=0)∧(∀ j,-(((2*(d+e)*H)^(d+e):Nat):Int)≤U j∧U j≤(((2*(d+e)*H)^(d+e):Nat):Int))∧(∀ j,-(((2*(d+e)*H)^(d+e):Nat):Int)≤V j∧V j≤(((2*(d+e)*H)^(d+e):Nat):Int))∧
   ∀ x,pz U x (e-r)*pz c x (d+1)+pz V x (d-r)*pz c' x (e+1)=(z:Rat)*pz γ x (r+1):=by
 obtain ⟨n,hn⟩:∃ n,n=(e-r)+(d-r):=⟨_,rfl⟩
 obtain ⟨A,hA⟩:∃ A:Nat→Nat→Int,A=fun i j=>if j < e-r then (if j≤r+1+i then c (r+1+i-j) else 0) else (if j-(e-r)≤r+1+i then c' (r+1+i-(j-(e-r))) else 0):=⟨_,rfl⟩
 obtain ⟨x,⟨j0,hj0,hx0⟩,hxz,hxb,hxe⟩:=ais (m:=n-1) (n:=n) (H:=H) A (by omega) hH (fun i j _ _=>by
  rw [hA];show _≤(if j < e-r then _ else _)∧(if j < e-r then _ else _)≤_
  split
  ·split
   ·exact bc _
   ·omega
  ·split
   ·exact bc' _
   ·omega)
 have hbig:(2*n*H)^(n-1)≤(2*(d+e)*H)^(d+e):=by
  have h3:2*n*H≤2*(d+e)*H:=abN H (by omega);have h4:0 < 2*(d+e)*H:=agQ (by omega) hH;exact acS (afb h3 _) (ab1 h4 (by omega))
 obtain ⟨U,hU⟩:∃ U:Nat→Int,U=fun j=>if j < e-r then x j else 0:=⟨_,rfl⟩
 obtain ⟨V,hV⟩:∃ V:Nat→Int,V=fun j=>x (e-r+j):=⟨_,rfl⟩
 have Uz:∀ j,e-r≤j→U j=0:=fun j hj=>by rw [hU];exact if_neg (by omega)
 have Vz:∀ j,d-r≤j→V j=0:=fun j hj=>by rw [hV];exact hxz _ (by omega)
 have cz:∀ i,d+1≤i→c i=0:=fun i hi=>hc i (by omega)
 have cz':∀ i,e+1≤i→c' i=0:=fun i hi=>hc' i (by omega)
 have γz:∀ i,r+1≤i→γ i=0:=fun i hi=>hγ i (by omega)
 obtain ⟨W,hW⟩:∃ W:Nat→Int,W=nY (aY U c) (aY V c'):=⟨_,rfl⟩
 have Wz:∀ t,r+1≤t→W t=0:=by
  intro t ht;rw [hW];show aY U c t+aY V c' t=0
  by_cases hbt:t < d+e-r
  ·have h3:=hxe (t-(r+1)) (by omega)
   rw [hn,QO] at h3;rw [KN Uz,KN Vz];refine Eq.trans ?_ h3;congr 1
   ·refine Ou fun j hj=>?_
    rw [hA,hU];show _=(if j < e-r then _ else _)*x j
    rw [if_pos hj,show r+1+(t-(r+1))=t by omega];show (if j≤t then (if j < e-r then x j else 0)*c (t-j) else 0)=_
    rw [if_pos hj];split
    ·exact Int.mul_comm _ _
    ·simp
   ·refine Ou fun j hj=>?_
    have eA:A (t-(r+1)) (e-r+j)=if j≤t then c' (t-j) else 0:=by
     rw [hA];show (if e-r+j < e-r then _ else _)=_
     rw [if_neg (by omega),show r+1+(t-(r+1))=t by omega,show e-r+j-(e-r)=j by omega]
    have eV:V j=x (e-r+j):=by rw [hV]
    show (if j≤t then V j*c' (t-j) else 0)=A (t-(r+1)) (e-r+j)*x (e-r+j)
    rw [eA,eV];split
    ·exact Int.mul_comm _ _
    ·simp
  ·rw [nR (n:=e-r) (m:=d+1) Uz cz (by omega),nR (n:=d-r) (m:=e+1) Vz cz' (by omega)];rfl
 have hval:∀ q,pz W q (r+1)=pz U q (e-r)*pz c q (d+1)+pz V q (d-r)*pz c' q (e+1):=by
  intro q;have hz:∀ t,max (e-r+(d+1)) (d-r+(e+1))≤t→W t=0:=fun t ht=>Wz t (by omega)
  rw [Bf Wz hz];have z1:=gu Uz cz;have z2:=gu Vz cz';have e1:pz W q (max (e-r+(d+1)) (d-r+(e+1)))=pz (aY U c) q (max (e-r+(d+1)) (d-r+(e+1)))+pz (aY V c') q (max (e-r+(d+1)) (d-r+(e+1))):=by
   rw [hW];unfold pz;rw [← zF];refine mP fun i _=>?_
   show ((aY U c i+aY V c' i:Int):Rat)=((aY U c i:Int):Rat)+((aY V c' i:Int):Rat)
   exact Rat.intCast_add _ _
  rw [e1,Oe Uz cz (fun i hi=>z1 i (by omega)),Oe Vz cz' (fun i hi=>z2 i (by omega))]
 have pU:Pl (e-r) (fun q=>pz U q (e-r)):=⟨rc U,qM Uz,fun _=>rfl⟩;have pV:Pl (d-r) (fun q=>pz V q (d-r)):=⟨rc V,qM Vz,fun _=>rfl⟩;have lG:Lc r (fun q=>pz γ q (r+1)) (γ r:Rat):=⟨rc γ,fun i hi=>by unfold rc;rw [hγ i hi];rfl,rfl,fun e=>hr (aiO.1 e),fun _=>rfl⟩;have lF:Lc d (fun q=>pz c q (d+1)) (c d:Rat):=⟨rc c,fun i hi=>by unfold rc;rw [hc i hi];rfl,rfl,fun e=>hd (aiO.1 e),fun _=>rfl⟩;have lF':Lc e (fun q=>pz c' q (e+1)) (c' e:Rat):=⟨rc c',fun i hi=>by unfold rc;rw [hc' i hi];rfl,rfl,fun e=>he (aiO.1 e),fun _=>rfl⟩;have pK:Po (fun q=>pz U q (e-r)*k1 q+pz V q (d-r)*k2 q):=(pU.po.mul pk1).add (pV.po.mul pk2);have hKG:∀ q,(pz U q (e-r)*k1 q+pz V q (d-r)*k2 q)*pz γ q (r+1)=pz W q (r+1):=fun q=>by rw [hval,h1,h2];grind
 have ant:∃ q,pz U q (e-r)*k1 q+pz V q (d-r)*k2 q≠0:=by
  by_cases hh:∃ q,pz U q (e-r)*k1 q+pz V q (d-r)*k2 q≠0
  ·exact hh
  ·exfalso
   have h0:∀ q,pz U q (e-r)*k1 q+pz V q (d-r)*k2 q=0:=fun q=>by
    by_cases h:pz U q (e-r)*k1 q+pz V q (d-r)*k2 q=0
    ·exact h
    ·exact absurd ⟨q,h⟩ hh
   obtain ⟨j2,b2,l2⟩:=nM pk2 (by obtain ⟨y,hy⟩:=lF'.ne;exact ⟨y,fun e0=>hy (by show pz c' y (e+1)=0;rw [h2,e0];grind)⟩);have hj2:=((l2.mul lG).congr fun q=>(h2 q).symm).uniq lF';have hdv:Dv k2 (fun q=>pz U q (e-r)):=by
    refine ahe.symm.dv pU.po ⟨fun q=> - pz V q (d-r),pV.po.neg,fun q=>?_⟩;have:=h0 q;show k1 q*pz U q (e-r)= - pz V q (d-r)*k2 q
    grind
   have hU0:∀ q,pz U q (e-r)=0:=by
    rcases zI pU with h | ⟨k,a,hk,hl⟩
    ·exact h
    ·have:=hdv.deg l2 hl;omega
   have hV0:∀ q,pz V q (d-r)=0:=fun q=>LC pk2 l2.ne pV.po (fun t=>by have:=h0 t;rw [hU0] at this;grind) q
   have u0:=He Uz (fun t=>hU0 _);have v0:=He Vz (fun t=>hV0 _);apply hx0
   by_cases hj:j0 < e-r
   ·have:=u0 j0;rw [hU] at this;rwa [show (fun j=>if j < e-r then x j else 0) j0=x j0 from if_pos hj] at this
   ·have h9:x (e-r+(j0-(e-r)))=0:=by have:=v0 (j0-(e-r));rw [hV] at this;exact this
    rwa [show e-r+(j0-(e-r))=j0 by omega] at h9
 obtain ⟨jk,κ,hK⟩:=nM pK ant;have hW':=(hK.mul lG).congr hKG;have hjk:jk=0:=by
  rcases zI (⟨rc W,qM Wz,fun _=>rfl⟩:Pl (r+1) (fun q=>pz W q (r+1))) with h | ⟨k,a,hk,hl⟩
  ·obtain ⟨y,hy⟩:=hW'.ne;exact absurd (h y) hy
  ·have:=hW'.uniq hl;omega
 subst hjk;have hκ:=sQ hK;have hκ0:κ≠0:=hK.choose_spec.2.2.1;have hWγ:∀ i,κ*(γ i:Rat)=(W i:Rat):=by
  intro i;have:=aaF (a:=gG (rc γ) κ) (b:=rc W) (n:=r+1) (m:=r+1) (Dw (qM γz)) (qM Wz) (fun t=>by
   rw [sV];have:=hKG t;rw [hκ] at this;show pz γ t (r+1)*κ=pz W t (r+1)
   rw [← this];grind) i
  rw [Rat.mul_comm];exact this
 obtain ⟨z,hz⟩:=QB Zw (fun i _=>hWγ i);refine ⟨U,V,z,fun h0=>hκ0 (by rw [hz,h0];rfl),Uz,Vz,fun j=>?_,fun j=>?_,fun q=>?_⟩
 ·rw [hU]
  have:=hxb j;show _≤(if j < e-r then x j else 0)∧(if j < e-r then x j else 0)≤_
  split <;> omega
 ·rw [hV]
  have:=hxb (e-r+j);show _≤x (e-r+j)∧x (e-r+j)≤_
  omega
 ·rw [← hval,← hKG,hκ,hz]
/-! ### Along an interval -/
theorem vN{a b δ:Rat}(hδ:0 < δ)(hab:a≤b)(P:Rat→Prop)(h0:P a)(hs:∀ x y,a≤x→x < y→y≤b→y-x < δ→P x→P y):P b:=by
 obtain ⟨n,hn⟩:=Iu (r:=b-a) (d:=δ / 2) (by grind);have main:∀ n:Nat,∀ c,a≤c→c≤b→c-a≤(n:Rat)*(δ / 2)→P c:=by
  intro n
  induction n with
  | zero=>
   intro c h1 _ h2;have:c=a:=by have:((0:Nat):Rat)=0:=rfl;grind
   subst this;exact h0
  | succ n ih=>
   intro c h1 hcb h2;rw [mM] at h2
   by_cases h3:c-a≤(n:Rat)*(δ / 2)
   ·exact ih c h1 hcb h3
   ·by_cases h4:c-δ / 2≤a
    ·by_cases h5:a=c
     ·subst h5;exact h0
     ·exact hs a c (by grind) (by grind) hcb (by grind) h0
    ·exact hs (c-δ / 2) c (by grind) (by grind) hcb (by grind) (ih (c-δ / 2) (by grind) (by grind) (by grind))
 exact main n b hab (by grind) hn
theorem yQ(a b:Rat):∃ B,In B a∧In B b∧1≤B:=by
 refine ⟨(if a < 0 then -a else a)+(if b < 0 then -b else b)+1,?_,?_,?_⟩ <;> (try unfold In) <;> (try constructor) <;> (repeat' split) <;> grind
theorem In.J8{B a b t:Rat}(ha:In B a)(hb:In B b)(h1:a≤t)(h2:t≤b):In B t:=by unfold In at *;constructor <;> grind
/-- Far from 0 everywhere: one sign. -/
theorem Dt{f:Fn}(pf:Po f){a b e:Rat}(hab:a≤b)(he:0 < e)(h:∀ t,a≤t→t≤b→oQ (f t) e):fC (f a)≠0∧∀ t,a≤t→t≤b→fC (f t)=fC (f a):=by
 obtain ⟨B,hBa,hBb,_⟩:=yQ a b;obtain ⟨L,hL,hl⟩:=pf.lip B;obtain ⟨d,hd,hs⟩:=gY hL he;refine ⟨?_,fun t h1 h2=>?_⟩
 ·intro h0;rw [fP] at h0
  have:=h a (by grind) hab;rw [h0] at this;rcases this with k | k <;> grind
 ·refine vN hd h1 (fun c=>fC (f c)=fC (f a)) rfl fun x y hx hxy hy hlt ih=>?_
  have kC:=hBa.J8 hBb hx (by grind);have hyB:=hBa.J8 hBb (t:=y) (by grind) (by grind);show fC (f y)=fC (f a)
  rw [← ih];exact (KY hl hL kC hyB he (hs _ (by grind) hlt) (h x hx (by grind))).2.1 y (by grind) (by grind)
/-- Where there are roots f is as small as one likes. -/
theorem Dn{f:Fn}(pf:Po f){a b:Rat}{N:Nat}(hab:a≤b)(h:oP f a b N)(hN:N≠0){e:Rat}(he:0 < e):∃ x,a≤x∧x≤b∧Ab (f x) e:=by
 by_cases hh:∃ x,a≤x∧x≤b∧Ab (f x) e
 ·exact hh
 ·exfalso
  have hf:∀ t,a≤t→t≤b→oQ (f t) e:=fun t h1 h2=>by
   have:¬ Ab (f t) e:=fun h=>hh ⟨t,h1,h2,h⟩
   unfold Ab at this;unfold oQ;grind
  obtain ⟨h0,h1⟩:=Dt pf hab he hf;exact hN ((h.free pf hab).2 ⟨fC (f a),h0,fun t k1 k2=>h1 t (by grind) k2⟩)
/-- Where there are two its derivative is. -/
theorem Y5{f f':Fn}(hd:yh f f')(pf:Po f)(WW:Po f'){a b:Rat}{N:Nat}(hab:a≤b)(h:oP f a b N)(hN:2≤N){e:Rat}(he:0 < e):∃ x,a≤x∧x≤b∧Ab (f' x) e:=by
 by_cases hh:∃ x,a≤x∧x≤b∧Ab (f' x) e
 ·exact hh
 ·exfalso
  have hf:∀ t,a≤t→t≤b→oQ (f' t) e:=fun t h1 h2=>by
   have:¬ Ab (f' t) e:=fun h=>hh ⟨t,h1,h2,h⟩
   unfold Ab at this;unfold oQ;grind
  obtain ⟨h0,h1⟩:=Dt WW hab he hf;obtain ⟨g,l,hst,hp⟩:=h;have:=hp.mon (fC (f' a)) (wP h0) fun t k1 k2=>by rw [hst.sg hd];exact h1 t k1 k2
  have:=hp.v;split at* <;> split at* <;> omega
/-- NO TWO ROOTS so near. -/
theorem ad1{f f' U V:Fn}{z S L B a b:Rat}{N:Nat}(hd:yh f f')(pf:Po f)(WW:Po f')(hz:1≤z∨z≤-1)(Nk:∀ x,U x*f x+V x*f' x=z)(hU:∀ x,In B x→Ab (U x) S)(hV:∀ x,In B x→Ab (V x) S)(hL:RD B f' L)(hL0:0≤L)(ha:In B a)(hb:In B b)(hab:a≤b)(hs:S*(L*(b-a)) < 1)(h:oP f a b N):N≤1:=by
 rcases ag4 1 N with hN | hN
 ·exfalso
  have hS:0≤S:=(hU a ha).nn;obtain ⟨e,he,hse⟩:=gY (L:=2*S) (m:=1-S*(L*(b-a))) (by grind) (by grind);have he2:=hse (e / 2) (by grind) (by grind);obtain ⟨x,hx1,hx2,hx⟩:=Dn pf hab h (by omega) (show 0 < e / 2 by grind);obtain ⟨y,hy1,hy2,hy⟩:=Y5 hd pf WW hab h hN (show 0 < e / 2 by grind);have kC:=ha.J8 hb hx1 hx2;have hyB:=ha.J8 hb hy1 hy2;have hfx:Ab (f' x) (e / 2+L*(b-a)):=by
   by_cases hxy:x≤y
   ·have h1:=hL.ab kC hyB hxy
    have h2:L*(y-x)≤L*(b-a):=abK (by grind) hL0;unfold Ab at *;constructor <;> grind
   ·have h1:=hL.ab hyB kC (by grind)
    have h2:L*(x-y)≤L*(b-a):=abK (by grind) hL0;unfold Ab at *;constructor <;> grind
  have h3:=((hU x kC).mul hx).add ((hV x kC).mul hfx);rw [Nk] at h3;unfold Ab at h3;rcases hz with hz | hz <;> grind
 ·exact hN
/-- One sign on a closed interval: far from 0 there. -/
theorem PV{f g:Fn}{l:List Fn}(h:JZ f g l)(pf:Po f){a b:Rat}(hab:a≤b)(h0:fC (f a)≠0)(hs:∀ t,a≤t→t≤b→fC (f t)=fC (f a)):∃ e,0 < e∧∀ t,a≤t→t≤b→oQ (f t) e:=by
 obtain ⟨B,hBa,hBb,_⟩:=yQ a b;obtain ⟨δ,hδ,_,hcell⟩:=tH h B;obtain ⟨L,hL,hl⟩:=pf.lip B;have far:∀ x,fC (f x)≠0→∃ e,0 < e∧oQ (f x) e:=fun x hx=>by
  rcases eH (f x) with ⟨k,_⟩ | ⟨_,k⟩ | ⟨k,_⟩
  ·exact ⟨-(f x),by grind,Or.inr (by grind)⟩
  ·exact absurd k hx
  ·exact ⟨f x,k,Or.inl (by grind)⟩
 refine vN hδ hab (fun c=>∃ e,0 < e∧∀ t,a≤t→t≤c→oQ (f t) e) ?_ fun x y hx hxy hy hlt ih=>?_
 ·obtain ⟨e,he,hf⟩:=far a h0
  exact ⟨e, he, fun t h1 h2 => by have : t = a := by grind
                                  subst this; exact hf⟩
 ·obtain ⟨e,he,ih⟩:=ih
  have kC:=hBa.J8 hBb hx (by grind);have hyB:=hBa.J8 hBb (t:=y) (by grind) hy;have key:∃ e',0 < e'∧∀ t,x≤t→t≤y→oQ (f t) e':=by
   rcases hcell x y kC hyB hxy hlt with ⟨⟨_,_,k0⟩,_⟩ | ⟨τ,hτ,_,hm,_⟩
   ·exact k0
   ·obtain ⟨e1,he1,hf1⟩:=far x (by rw [hs x hx (by grind)];exact h0)
    obtain ⟨e2,he2,hf2⟩:=far y (by rw [hs y (by grind) hy];exact h0);obtain ⟨e',he',h1,h2⟩:=kJ he1 he2;refine ⟨e',he',fun t ht1 ht2=>?_⟩
    by_cases htx:t=x
    ·subst htx;rcases hf1 with k | k
     ·exact Or.inl (by grind)
     ·exact Or.inr (by grind)
    by_cases hty:t=y
    ·subst hty;rcases hf2 with k | k
     ·exact Or.inl (by grind)
     ·exact Or.inr (by grind)
    have m1:=hm x t (by grind) (by grind) ht2;have m2:=hm t y ht1 (by grind) (by grind);have sx:=hs x hx (by grind);have sy:=hs y (by grind) hy;have st:=hs t (by grind) (by grind);rcases eH (f t) with ⟨k,e⟩ | ⟨k,e⟩ | ⟨k,e⟩
    ·refine Or.inr ?_
     have kx:f x < 0:=by rcases eH (f x) with ⟨q,e'⟩ | ⟨q,e'⟩ | ⟨q,e'⟩ <;> first | exact q | omega
     have ky:f y < 0:=by rcases eH (f y) with ⟨q,e'⟩ | ⟨q,e'⟩ | ⟨q,e'⟩ <;> first | exact q | omega
     have a1:f x≤-e1:=by rcases hf1 with q | q <;> grind
     have a2:f y≤-e2:=by rcases hf2 with q | q <;> grind
     rcases hτ with rfl | rfl
     ·rcases eH (f y-f t) with ⟨q,e'⟩ | ⟨q,e'⟩ | ⟨q,e'⟩ <;> first | omega | grind
     ·rcases eH (f t-f x) with ⟨q,e'⟩ | ⟨q,e'⟩ | ⟨q,e'⟩ <;> first | omega | grind
    ·exact absurd (st.symm.trans e) h0
    ·refine Or.inl ?_
     have kx:0 < f x:=by rcases eH (f x) with ⟨q,e'⟩ | ⟨q,e'⟩ | ⟨q,e'⟩ <;> first | exact q | omega
     have ky:0 < f y:=by rcases eH (f y) with ⟨q,e'⟩ | ⟨q,e'⟩ | ⟨q,e'⟩ <;> first | exact q | omega
     have a1:e1≤f x:=by rcases hf1 with q | q <;> grind
     have a2:e2≤f y:=by rcases hf2 with q | q <;> grind
     rcases hτ with rfl | rfl
     ·rcases eH (f t-f x) with ⟨q,e'⟩ | ⟨q,e'⟩ | ⟨q,e'⟩ <;> first | omega | grind
     ·rcases eH (f y-f t) with ⟨q,e'⟩ | ⟨q,e'⟩ | ⟨q,e'⟩ <;> first | omega | grind
  obtain ⟨e',he',hk⟩:=key;obtain ⟨e2,he2,h1,h2⟩:=kJ he he';refine ⟨e2,he2,fun t k1 k2=>?_⟩
  by_cases htx:t≤x
  ·rcases ih t k1 htx with k | k
   ·exact Or.inl (by grind)
   ·exact Or.inr (by grind)
  ·rcases hk t (by grind) k2 with k | k
   ·exact Or.inl (by grind)
   ·exact Or.inr (by grind)
/-! ### Divisors -/
theorem Ey.far{g w:Fn}(h:Ey g w)(B:Rat):∃ m,0 < m∧∀ x,In B x→oQ (g x) m∨oQ (w x) m:=by
 obtain ⟨u,v,pu,pv,huv⟩:=h;obtain ⟨M,hM,m1⟩:=pu.bd B;obtain ⟨N,hN,m2⟩:=pv.bd B;obtain ⟨m,hm,hs⟩:=gY (L:=M+N) (m:=1) (by grind) (by grind);refine ⟨m / 2,by grind,fun x hx=>?_⟩
 by_cases h1:oQ (g x) (m / 2)
 ·exact Or.inl h1
 ·by_cases h2:oQ (w x) (m / 2)
  ·exact Or.inr h2
  ·exfalso
   have a1:Ab (g x) (m / 2):=by unfold oQ at h1;unfold Ab;constructor <;> grind
   have a2:Ab (w x) (m / 2):=by unfold oQ at h2;unfold Ab;constructor <;> grind
   have a3:=((m1 x hx).mul a1).add ((m2 x hx).mul a2);have:=huv x;have a4:=hs (m / 2) (by grind) (by grind);unfold Ab at a3;grind
theorem AB.YE{f f' g g' w w':Fn}(h:AB f f')(pg:Po g)(pw:Po w)(pg':Po g')(pw':Po w')(dg:yh g g')(dw:yh w w')(hf:∀ x,f x=g x*w x):Ey g w:=by
 obtain ⟨u,v,pu,pv,huv⟩:=h.cop;have e:∀ x,f' x=g' x*w x+g x*w' x:=fun x=>(((dg.mul dw pg pw pg').congr (fun x=>(hf x).symm) (fun _=>rfl)).uniq h.AP x).symm
 exact ⟨fun x=>u x*w x+v x*w' x,fun x=>v x*g' x,(pu.mul pw).add (pv.mul pw'),pv.mul pg',fun x=>by have h1:=huv x;rw [e,hf] at h1;grind⟩
theorem AB.dv{f f' g g' w:Fn}(h:AB f f')(pg:Po g)(pw:Po w)(pg':Po g')(dg:yh g g')(hf:∀ x,f x=g x*w x):AB g g':=by
 obtain ⟨w',pw',dw⟩:=pw.AP;obtain ⟨u,v,pu,pv,huv⟩:=h.cop;have e:∀ x,f' x=g' x*w x+g x*w' x:=fun x=>(((dg.mul dw pg pw pg').congr (fun x=>(hf x).symm) (fun _=>rfl)).uniq h.AP x).symm
 exact ⟨pg,pg',dg,fun x=>u x*w x+v x*w' x,fun x=>v x*w x,(pu.mul pw).add (pv.mul pw'),pv.mul pw,fun x=>by have h1:=huv x;rw [e,hf] at h1;grind⟩
/-- One sign close at hand. -/
theorem PU{f:Fn}(pf:Po f)(B:Rat){m:Rat}(hm:0 < m):∃ δ,0 < δ∧∀ x y,In B x→In B y→x < y→y-x < δ→oQ (f x) m→Gd f x y:=by
 obtain ⟨L,hL,hl⟩:=pf.lip B;obtain ⟨d,hd,hs⟩:=gY hL hm;exact ⟨d,hd,fun x y hx hy hxy hlt hf=>KY hl hL hx hy hm (hs _ (by grind) hlt) hf⟩
/-- A divisor has no more roots. -/
theorem YF{f g w gg gf:Fn}{lg lf:List Fn}(pf:Po f)(pg:Po g)(pw:Po w)(sg:JZ g gg lg)(sf:JZ f gf lf)(ahe:Ey g w)(hf:∀ x,f x=g x*w x){a b:Rat}(hab:a≤b):∀ {K N:Nat},oP g a b K→oP f a b N→K≤N:=by
 obtain ⟨B,hBa,hBb,_⟩:=yQ a b;obtain ⟨m,hm,anK⟩:=ahe.far B;obtain ⟨δ1,hδ1,c1⟩:=PU pg B hm;obtain ⟨δ2,hδ2,c2⟩:=PU pw B hm;obtain ⟨δ3,hδ3,_,c3⟩:=tH sg B;obtain ⟨δ4,hδ4,e1,e2⟩:=kJ hδ1 hδ2;obtain ⟨δ,hδ,e3,e4⟩:=kJ hδ4 hδ3;refine vN hδ hab (fun c=>∀ {K N:Nat},oP g a c K→oP f a c N→K≤N) ?_ fun x y hx hxy hy hlt ih=>?_
 ·intro K N h1 h2
  have:K=0:=(h1.free pg (by grind)).2 ⟨1,by decide,fun t k1 k2=>by grind⟩;omega
 ·intro K N h1 h2
  obtain ⟨K1,K2,k1,k2,rfl⟩:=h1.split hx (by grind);obtain ⟨N1,N2,n1,n2,rfl⟩:=h2.split hx (by grind);have:=ih k1 n1;have kC:=hBa.J8 hBb hx (by grind);have hyB:=hBa.J8 hBb (t:=y) (by grind) hy;have hK2:K2≤N2:=by
   obtain ⟨K',hK',kp⟩:=zD hxy (c3 x y kC hyB hxy (by grind));have e:K2=K':=oP.uniq pg (by grind) k2 ⟨gg,lg,sg,kp⟩;rcases anK x kC with h | h
   ·have hg:=c1 x y kC hyB hxy (by grind) h
    have:K2=0:=(k2.free pg (by grind)).2 ⟨_,hg.1,fun t q1 q2=>hg.2.1 t (by grind) q2⟩;omega
   ·have hw:=c2 x y kC hyB hxy (by grind) h
    by_cases hN:N2=0
    ·obtain ⟨s,hs,hst⟩:=(n2.free pf (by grind)).1 hN
     have:K2=0:=(k2.free pg (by grind)).2 ⟨s*fC (w x),af2 hs hw.1,fun t q1 q2=>by
      have a1:=hst t q1 q2;rw [hf,Ee,hw.2.1 t (by grind) q2] at a1;have a2:=wP hw.1;rcases a2 with a2 | a2 <;> rw [a2] at a1 ⊢ <;> omega⟩
     omega
    ·omega
  omega
/-- Has it one? -/
theorem MP{f f':Fn}{a b:Rat}{N:Nat}(hd:yh f f')(hab:a < b)(h:oP f a b N)(hN:N≤1):N=1↔(fC (f b)=0∨fC (f b)≠yC f f' a):=by
 obtain ⟨g,l,hs,hp⟩:=h;have e:∀ x,yC f g x=yC f f' x:=fun x=>by unfold yC;rw [hs.sg hd]
 constructor
 ·rintro rfl
  by_cases h0:fC (f b)=0
  ·exact Or.inl h0
  ·right
   have h1:=hp.par;rw [yK h0,e] at h1;have h2:m1 1 (yC f f' a)= -(yC f f' a):=by unfold m1;simp
   rw [h2] at h1;rcases wP h0 with h3 | h3 <;> omega
 ·intro h1
  rcases aev N with h0 | h0
  ·exfalso
   have h2:=hp.nil.1 h0 b hab (by grind);rw [e] at h2;rcases h1 with h1 | h1
   ·have h3:=hp.par
    subst h0;rw [e,e] at h3;rw [h1] at h2;have h4:yC f f' b=0:=by rw [h3];show m1 0 _=0;rw [← h2];rfl
    have h5:fC (f' b)=0:=by rw [MJ h1] at h4;exact h4
    obtain ⟨B,hB,_,_⟩:=yQ b b;obtain ⟨δ,hδ,hne,_⟩:=tH hs B;exact hne b hB (by rw [e];exact h4)
   ·exact h1 h2
  ·omega
/-! ### Cuts: what lies below a number -/
abbrev qO:=Rat→Prop
def fO(t:Rat):qO:=fun q=>q < t
def jT(f:Fn)(lo hi:Rat):qO:=fun q=>q≤lo∨(q < hi∧¬ jP f q hi)
structure eG(C:qO):Prop where
 down:∀ q r,C r→q≤r→C q
 up:∀ q,C q→∃ r,q < r∧C r
 lo:∃ q,C q
 hi:∃ q,¬ C q
/-- f has one root above lo, at most hi. -/
structure Et(f f':Fn)(lo hi:Rat):Prop where
 sq:AB f f'
 lt:lo < hi
 one:oP f lo hi 1
theorem Et.stm{f f':Fn}{lo hi:Rat}(h:Et f f' lo hi):∃ g l,JZ f g l:=let ⟨g,l,h1,_⟩:=h.one;⟨g,l,h1⟩
theorem Et.split{f f':Fn}{lo hi q:Rat}(h:Et f f' lo hi)(h1:lo≤q)(h2:q≤hi):(oP f lo q 0∧oP f q hi 1)∨(oP f lo q 1∧oP f q hi 0):=by
 obtain ⟨K,M,k,m,e⟩:=h.one.split h1 h2;rcases aev K with h0 | h0
 ·subst h0;exact Or.inl ⟨k,by rwa [show M=1 by omega] at m⟩
 ·exact Or.inr ⟨by rwa [show K=1 by omega] at k,by rwa [show M=0 by omega] at m⟩
theorem C9{f f':Fn}{lo hi q:Rat}(h:Et f f' lo hi)(h1:lo≤q)(h2:q < hi):jT f lo hi q↔oP f q hi 1:=by
 rcases h.split h1 (by grind) with ⟨k1,k2⟩ | ⟨k1,k2⟩
 ·refine ⟨fun _=>k2,fun _=>?_⟩
  by_cases he:q≤lo
  ·exact Or.inl he
  ·exact Or.inr ⟨h2,fun hf=>by have:=(k2.free h.sq.po (by grind)).2 hf;omega⟩
 ·have hf:=(k2.free h.sq.po (by grind)).1 rfl
  constructor
  ·rintro (he | ⟨_,hn⟩)
   ·have:q=lo:=by grind
    subst this;exact h.one
   ·exact absurd hf hn
  ·intro k;have:=k.uniq h.sq.po (by grind) k2;omega
theorem kP{f f':Fn}{lo hi q:Rat}(h:Et f f' lo hi)(h1:lo≤q)(h2:q < hi):jT f lo hi q↔oP f lo q 0:=by
 rw [C9 h h1 h2];rcases h.split h1 (by grind) with ⟨k1,k2⟩ | ⟨k1,k2⟩
 ·exact ⟨fun _=>k1,fun _=>k2⟩
 ·exact ⟨fun k=>by have:=k.uniq h.sq.po (by grind) k2;omega,fun k=>by have:=k.uniq h.sq.po h1 k1;omega⟩
theorem jD{f:Fn}{lo hi q:Rat}(hlt:lo < hi)(h:hi≤q):¬ jT f lo hi q:=by rintro (k | ⟨k,_⟩) <;> grind
theorem Ag{f f':Fn}{lo hi q:Rat}(h:Et f f' lo hi)(h1:lo≤q)(h2:q < hi):jT f lo hi q↔jP f lo q:=by
 rw [kP h h1 h2];refine ⟨fun k=>(k.free h.sq.po h1).1 rfl,fun hf=>?_⟩;rcases h.split h1 (by grind) with ⟨k1,_⟩ | ⟨k1,_⟩
 ·exact k1
 ·have:=(k1.free h.sq.po h1).2 hf;omega
theorem uq{f f':Fn}{lo hi:Rat}(h:Et f f' lo hi):eG (jT f lo hi):=by
 have hlt:=h.lt;refine ⟨fun q r hr hqr=>?_,fun q hq=>?_,⟨lo,Or.inl (by grind)⟩,⟨hi,jD hlt (by grind)⟩⟩
 ·by_cases hq:q≤lo
  ·exact Or.inl hq
  ·have hrh:r < hi:=by rcases hr with k | ⟨k,_⟩ <;> grind
   rw [Ag h (by grind) (by grind)];obtain ⟨s,hs,hst⟩:=(Ag h (by grind) hrh).1 hr;exact ⟨s,hs,fun t h1 h2=>hst t h1 (by grind)⟩
 ·
  obtain ⟨g,l,hst⟩:=h.stm;have key:∀ q,lo≤q→q < hi→oP f lo q 0→∃ r,q < r∧jT f lo hi r:=by
   intro q h1 h2 k;obtain ⟨h0,e,he,hn⟩:=CQ hst h.sq.po q;obtain ⟨z,hz,hz1,hz2⟩:=kJ he (show 0 < hi-q by grind);refine ⟨q+z / 2,by grind,?_⟩;rw [kP h (by grind) (by grind)];obtain ⟨M,hM⟩:=qU hst (a:=q) (b:=q+z / 2) (by grind);have hM0:M=0:=hM.nil.2 fun t h1 h2=>hn t h1 (by grind)
   subst hM0;exact oP.cat h.sq.po h1 (by grind) k ⟨g,l,hst,hM⟩
  by_cases hq1:q < lo
  ·exact ⟨lo,hq1,Or.inl (by grind)⟩
  ·have Zz:q < hi:=by rcases hq with k | ⟨k,_⟩ <;> grind
   exact key q (by grind) Zz ((kP h (by grind) Zz).1 hq)
theorem lQ(t:Rat):eG (fO t):=⟨fun q r h1 h2=>by unfold fO at *;grind,fun q h=>⟨(q+t) / 2,by unfold fO at h;grind,by unfold fO at *;grind⟩,⟨t-1,by unfold fO;grind⟩,⟨t,by unfold fO;grind⟩⟩
/-- A narrower interval. -/
theorem Et.narrow{f f':Fn}{lo hi a b:Rat}(h:Et f f' lo hi)(h1:lo≤a)(h2:b≤hi)(h3:jT f lo hi a)(h4:¬ jT f lo hi b):Et f f' a b∧∀ q,jT f a b q↔jT f lo hi q:=by
 have hc:=uq h;have hlt:=h.lt;have hab:a < b:=by
  by_cases hh:a < b
  ·exact hh
  ·exact absurd (hc.down b a h3 (by grind)) h4
 have k1:=(kP h h1 (by grind)).1 h3;have kb:oP f b hi 0:=by
  rcases h.split (q:=b) (by grind) h2 with ⟨m1,m2⟩ | ⟨_,m2⟩
  ·by_cases hbh:b < hi
   ·exact absurd ((kP h (by grind) hbh).2 m1) h4
   ·have:b=hi:=by grind
    subst this;have:=m2.free h.sq.po (by grind);have h0:(1:Nat)=0:=this.2 ⟨1,by decide,fun t h1 h2=>by grind⟩;omega
  ·exact m2
 have one:oP f a b 1:=by
  have k2:=(C9 h h1 (by grind)).1 h3;obtain ⟨K,M,m1,m2,e⟩:=k2.split (m:=b) (by grind) h2;have:=m2.uniq h.sq.po (by grind) kb;rwa [show K=1 by omega] at m1
 have hok:Et f f' a b:=⟨h.sq,hab,one⟩;refine ⟨hok,fun q=>?_⟩
 by_cases hq1:q≤a
 ·exact ⟨fun _=>hc.down q a h3 hq1,fun _=>Or.inl hq1⟩
 ·by_cases hq2:b≤q
  ·exact ⟨fun k=>absurd k (jD hab hq2),fun k=>absurd (hc.down b q k hq2) h4⟩
  ·rw [kP hok (by grind) (by grind),kP h (by grind) (by grind)]
   constructor
   ·intro k;exact oP.cat h.sq.po h1 (by grind) k1 k
   ·intro k
    obtain ⟨K,M,m1,m2,e⟩:=k.split (m:=a) h1 (by grind);rwa [show M=0 by omega] at m2
/-- A rational root is the number. -/
theorem KO{f f':Fn}{lo hi t:Rat}(h:Et f f' lo hi)(h1:lo < t)(h2:t≤hi)(h0:f t=0)(q:Rat):jT f lo hi q↔fO t q:=by
 have hs0:fC (f t)=0:=fP.2 h0;have nf:∀ a,a < t→¬ jP f a t:=fun a ha ⟨s,hs,hst⟩=>hs ((hst t ha (by grind)).symm.trans hs0)
 have k1:oP f lo t 1:=by
  rcases h.split (q:=t) (by grind) h2 with ⟨m1,_⟩ | ⟨m1,_⟩
  ·exact absurd ((m1.free h.sq.po (by grind)).1 rfl) (nf lo h1)
  ·exact m1
 have k2:oP f t hi 0:=by
  rcases h.split (q:=t) (by grind) h2 with ⟨m1,_⟩ | ⟨_,m2⟩
  ·have:=m1.uniq h.sq.po (by grind) k1;omega
  ·exact m2
 unfold fO
 by_cases hq:q≤lo
 ·exact ⟨fun _=>by grind,fun _=>Or.inl hq⟩
 ·by_cases Zz:q < hi
  ·rw [kP h (by grind) Zz]
   constructor
   ·intro k
    by_cases hqt:q < t
    ·exact hqt
    ·exfalso
     obtain ⟨K,M,a1,a2,e⟩:=k.split (m:=t) (by grind) (by grind);have:=a1.uniq h.sq.po (by grind) k1;omega
   ·intro hqt
    obtain ⟨K,M,a1,a2,e⟩:=k1.split (m:=q) (by grind) (by grind);have hM:M≠0:=fun hM=>nf q hqt ((a2.free h.sq.po (by grind)).1 hM)
    rwa [show K=0 by omega] at a1
  ·exact ⟨fun k=>absurd k (jD h.lt (by grind)),fun k=>by grind⟩
/-! ### Which one is greater -/
open Classical in
noncomputable def dG(C D:qO):Int:=if ∃ q,D q∧¬ C q then -1 else if ∃ q,C q∧¬ D q then 1 else 0
theorem xE{C D:qO}{q:Rat}(h1:D q)(h2:¬ C q):dG C D= -1:=if_pos ⟨q,h1,h2⟩
theorem eG.excl{C D:qO}(hC:eG C)(hD:eG D){q r:Rat}(h1:C q)(h2:¬ D q)(k1:D r)(k2:¬ C r):False:=by
 by_cases h:q≤r
 ·exact h2 (hD.down q r k1 h)
 ·exact k2 (hC.down r q h1 (by grind))
theorem CX{C D:qO}(hC:eG C)(hD:eG D){q:Rat}(h1:C q)(h2:¬ D q):dG C D=1:=by
 unfold dG;rw [if_neg (fun ⟨r,k1,k2⟩=>hC.excl hD h1 h2 k1 k2),if_pos ⟨q,h1,h2⟩]
theorem kN{C D:qO}(h:∀ q,C q↔D q):dG C D=0:=by
 unfold dG;rw [if_neg (fun ⟨q,h1,h2⟩=>h2 ((h q).2 h1)),if_neg (fun ⟨q,h1,h2⟩=>h2 ((h q).1 h1))]
theorem vO{C D:qO}(h:dG C D=0)(q:Rat):C q↔D q:=by
 unfold dG at h;split at h
 ·omega
 ·split at h
  ·omega
  ·rename_i h1 h2
   constructor
   ·intro k;by_cases hd:D q;exact hd;exact absurd ⟨q,k,hd⟩ h2
   ·intro k;by_cases hc:C q;exact hc;exact absurd ⟨q,k,hc⟩ h1
theorem je{C D:qO}(hC:eG C)(hD:eG D):dG D C= -dG C D:=by
 by_cases h1:∃ q,D q∧¬ C q
 ·obtain ⟨q,a,b⟩:=h1;rw [xE a b,CX hD hC a b];rfl
 ·by_cases h2:∃ q,C q∧¬ D q
  ·obtain ⟨q,a,b⟩:=h2;rw [CX hC hD a b,xE a b]
  ·have e:∀ q,C q↔D q:=fun q=>⟨fun k=>by by_cases hd:D q;exact hd;exact absurd ⟨q,k,hd⟩ h2,fun k=>by by_cases hc:C q;exact hc;exact absurd ⟨q,k,hc⟩ h1⟩
   rw [kN e,kN fun q=>(e q).symm];rfl
theorem oz(C D:qO):dG C D= -1∨dG C D=0∨dG C D=1:=by unfold dG;split;exact Or.inl rfl;split;exact Or.inr (Or.inr rfl);exact Or.inr (Or.inl rfl)
theorem um{C D:qO}(hC:eG C)(hD:eG D):dG C D≤0↔∀ q,C q→D q:=by
 constructor
 ·intro h q hq
  by_cases hd:D q
  ·exact hd
  ·rw [CX hC hD hq hd] at h;omega
 ·intro h
  unfold dG;split
  ·omega
  ·rw [if_neg (fun ⟨q,a,b⟩=>b (h q a))];exact Int.le_refl 0
/-- With a rational. -/
theorem xC{C:qO}(hC:eG C){t:Rat}(h:C t):dG C (fO t)=1:=CX hC (lQ t) h (by unfold fO;grind)
theorem acI{C:qO}{t:Rat}(h:∀ q,C q↔fO t q):dG C (fO t)=0:=kN h
theorem UC(s t:Rat):dG (fO s) (fO t)=vP s t:=by
 by_cases h1:s < t
 ·rw [xE (q:=s) (show fO t s from h1) (by unfold fO;grind),GN h1]
 ·by_cases h2:t < s
  ·rw [CX (lQ s) (lQ t) (q:=t) (show fO s t from h2) (by unfold fO;grind),abH h2]
  ·have:s=t:=by grind
   subst this;rw [kN fun q=>Iff.rfl,GL rfl]
/-- WHAT CmpRat ANSWERS. -/
theorem Yu{f f':Fn}{lo hi:Rat}(h:Et f f' lo hi)(t:Rat):dG (jT f lo hi) (fO t)=if t≤lo then 1 else if hi < t then -1 else if fC (f t)=0 then 0 else if fC (f t)=yC f f' lo then 1 else -1:=by
 have hc:=uq h;have hlt:=h.lt;split
 ·rename_i h1;exact xC hc (Or.inl h1)
 ·rename_i h1
  split
  ·rename_i h2;exact xE (q:=hi) (show hi < t from h2) (jD hlt (by grind))
  ·rename_i h2
   split
   ·rename_i h3;exact acI (KO h (by grind) (by grind) (fP.1 h3))
   ·rename_i h3
    rcases h.split (q:=t) (by grind) (by grind) with ⟨k1,k2⟩ | ⟨k1,k2⟩
    ·have hh:=MP h.sq.AP (by grind) k1 (by omega)
     have e:fC (f t)=yC f f' lo:=by
      by_cases h4:fC (f t)=yC f f' lo
      ·exact h4
      ·have:(0:Nat)=1:=hh.2 (Or.inr h4);omega
     rw [if_pos e];have hth:t < hi:=by
      by_cases h5:t < hi
      ·exact h5
      ·have:t=hi:=by grind
       subst this;have:=k1.uniq h.sq.po (by grind) h.one;omega
     exact xC hc ((kP h (by grind) hth).2 k1)
    ·have hh:=(MP h.sq.AP (by grind) k1 (by omega)).1 rfl
     have e:¬ fC (f t)=yC f f' lo:=by rcases hh with h4 | h4;exact absurd h4 h3;exact h4
     rw [if_neg e];have hz:∃ q,q < t∧¬ jT f lo hi q:=by
      obtain ⟨L,hL,hl⟩:=h.sq.po.lip (yQ lo hi).choose;obtain ⟨hB1,hB2,_⟩:=(yQ lo hi).choose_spec;generalize (yQ lo hi).choose=B at *
      obtain ⟨m,hm,hf⟩:∃ m:Rat,0 < m∧oQ (f t) m:=by
       rcases eH (f t) with ⟨k,_⟩ | ⟨_,k⟩ | ⟨k,_⟩
       ·exact ⟨-(f t),by grind,Or.inr (by grind)⟩
       ·exact absurd k h3
       ·exact ⟨f t,k,Or.inl (by grind)⟩
      obtain ⟨d,hd,hs⟩:=gY hL hm;obtain ⟨z,hz,hz1,hz2⟩:=kJ hd (show 0 < t-lo by grind);have kC:In B (t-z / 2):=hB1.J8 hB2 (by grind) (by grind);have U8:In B t:=hB1.J8 hB2 (by grind) (by grind);have hsm:=hs (t-(t-z / 2)) (by grind) (by grind);have sg:∀ y,t-z / 2≤y→y≤t→fC (f y)=fC (f t):=by
       intro y y1 y2;have hyB:In B y:=hB1.J8 hB2 (by grind) (by grind);have a1:=hl y t hyB U8 y2;have a2:L*(t-y)≤L*(t-(t-z / 2)):=abK (by grind) hL
       rcases hf with hf | hf
       ·rw [iG (x:=f t) (by grind)];exact iG (by grind)
       ·rw [jh (x:=f t) (by grind)];exact jh (by grind)
      refine ⟨t-z / 2,by grind,fun hcut=>?_⟩;have b1:=(kP h (by grind) (by grind)).1 hcut;obtain ⟨K,M,c1,c2,e2⟩:=k1.split (m:=t-z / 2) (by grind) (by grind);have c3:=c1.uniq h.sq.po (by grind) b1;have c4:M=0:=(c2.free h.sq.po (by grind)).2 ⟨fC (f t),h3,fun y y1 y2=>sg y (by grind) y2⟩;omega
     obtain ⟨q,q1,q2⟩:=hz;exact xE (q:=q) (show q < t from q1) q2
/-! ### The sign of a polynomial at a number -/
def Ky(p:Fn)(C:qO)(s:Int):Prop:=∃ e q r,0 < e∧C q∧¬ C r∧∀ t,q≤t→t≤r→oQ (p t) e∧fC (p t)=s
def VC(p:Fn)(C:qO):Prop:=∀ e,0 < e→∀ q r,C q→¬ C r→∃ t,q≤t∧t≤r∧Ab (p t) e
theorem eG.nb{C:qO}(h:eG C){q r:Rat}(h1:C q)(h2:¬ C r):q < r:=by
 by_cases h3:q < r
 ·exact h3
 ·exact absurd (h.down r q h1 (by grind)) h2
theorem eG.short{C:qO}(h:eG C){q r η:Rat}(h1:C q)(h2:¬ C r)(hη:0 < η):∃ q' r',q≤q'∧r'≤r∧C q'∧¬ C r'∧r'-q' < η:=by
 by_cases hh:∃ q' r',q≤q'∧r'≤r∧C q'∧¬ C r'∧r'-q' < η
 ·exact hh
 ·exfalso
  apply h2;refine vN hη (by have:=h.nb h1 h2;grind) (fun c=>C c) h1 fun x y hx hxy hy hlt ih=>?_
  by_cases hc:C y
  ·exact hc
  ·exact absurd ⟨x,y,hx,hy,ih,hc,hlt⟩ hh
theorem oQ.nz{x e:Rat}(h:oQ x e)(he:0 < e):fC x≠0:=by
 intro h0;rw [fP] at h0;subst h0;rcases h with h | h <;> grind
theorem Ky.meet{p q:Fn}{C:qO}(hC:eG C){s s':Int}(h:Ky p C s)(k:Ky q C s'):∃ e a b,0 < e∧C a∧¬ C b∧∀ t,a≤t→t≤b→(oQ (p t) e∧fC (p t)=s)∧(oQ (q t) e∧fC (q t)=s'):=by
 obtain ⟨e1,q1,r1,he1,c1,d1,h⟩:=h;obtain ⟨e2,q2,r2,he2,c2,d2,k⟩:=k;obtain ⟨e,he,le1,le2⟩:=kJ he1 he2;refine ⟨e,if q1≤q2 then q2 else q1,if r1≤r2 then r1 else r2,he,by split <;> assumption,by split <;> assumption,fun t h1 h2=>?_⟩;have a1:=h t (by split at h1 <;> grind) (by split at h2 <;> grind);have a2:=k t (by split at h1 <;> grind) (by split at h2 <;> grind);exact ⟨⟨by rcases a1.1 with x | x;exact Or.inl (by grind);exact Or.inr (by grind),a1.2⟩,⟨by rcases a2.1 with x | x;exact Or.inl (by grind);exact Or.inr (by grind),a2.2⟩⟩
theorem Ky.uniq{p:Fn}{C:qO}(hC:eG C){s s':Int}(h:Ky p C s)(k:Ky p C s'):s=s':=by
 obtain ⟨e,a,b,he,ha,hb,m⟩:=h.meet hC k;have:=m a (by grind) (by have:=hC.nb ha hb;grind);exact this.1.2.symm.trans this.2.2
theorem Ky.pm{p:Fn}{C:qO}(hC:eG C){s:Int}(h:Ky p C s):s=1∨s= -1:=by
 obtain ⟨e,q,r,he,c,d,h⟩:=h;have a:=h q (by grind) (by have:=hC.nb c d;grind);rw [← a.2];exact wP (a.1.nz he)
theorem Ky.Vp{p:Fn}{C:qO}{s:Int}(h:Ky p C s)(k:VC p C):False:=by
 obtain ⟨e,q,r,he,c,d,h⟩:=h;obtain ⟨t,t1,t2,ht⟩:=k (e / 2) (by grind) q r c d;have:=(h t t1 t2).1;unfold Ab at ht;rcases this with a | a <;> grind
theorem Hl{p:Fn}{C:qO}(hC:eG C)(pp:Po p):VC p C∨∃ s,Ky p C s:=by
 by_cases h:∃ e q r,0 < e∧C q∧¬ C r∧∀ t,q≤t→t≤r→¬ Ab (p t) e
 ·right
  obtain ⟨e,q,r,he,c,d,h⟩:=h;have hf:∀ t,q≤t→t≤r→oQ (p t) e:=fun t h1 h2=>by have:=h t h1 h2;unfold Ab at this;unfold oQ;grind
  have:=Dt pp (by have:=hC.nb c d;grind) he hf;exact ⟨fC (p q),e,q,r,he,c,d,fun t h1 h2=>⟨hf t h1 h2,this.2 t h1 h2⟩⟩
 ·left
  intro e he q r c d
  by_cases hh:∃ t,q≤t∧t≤r∧Ab (p t) e
  ·exact hh
  ·exact absurd ⟨e,q,r,he,c,d,fun t h1 h2 ha=>hh ⟨t,h1,h2,ha⟩⟩ h
open Classical in
noncomputable def Rl(p:Fn)(C:qO):Int:=if h:∃ s,Ky p C s then h.choose else 0
theorem Oq{p:Fn}{C:qO}(hC:eG C){s:Int}(h:Ky p C s):Rl p C=s:=by
 have hh:∃ s,Ky p C s:=⟨s,h⟩
 unfold Rl;rw [dif_pos hh];exact hh.choose_spec.uniq hC h
theorem zN{p:Fn}{C:qO}(h:VC p C):Rl p C=0:=by
 unfold Rl;rw [dif_neg (fun ⟨s,k⟩=>k.Vp h)]
theorem oQ.mul{x y d e:Rat}(hd:0 < d)(he:0 < e)(h:oQ x d)(k:oQ y e):oQ (x*y) (d*e):=by
 have c1:∀ u v:Rat,d≤u→e≤v→d*e≤u*v:=fun u v h1 h2=>by
  have a1:=abK h2 (show 0≤d by grind);have a2:=abS h1 (show 0≤v by grind);grind
 rcases h with i | i <;> rcases k with j | j
 ·exact Or.inl (c1 _ _ i j)
 ·exact Or.inr (by have:=c1 x (-y) i (by grind);grind)
 ·exact Or.inr (by have:=c1 (-x) y (by grind) j;grind)
 ·exact Or.inl (by have:=c1 (-x) (-y) (by grind) (by grind);grind)
theorem VC.mul{p q:Fn}{C:qO}(hC:eG C)(pq:Po q)(h:VC p C):VC (fun x=>p x*q x) C:=by
 intro e he a b ca cb;obtain ⟨B,hBa,hBb,_⟩:=yQ a b;obtain ⟨M,hM,hb⟩:=pq.bd B;obtain ⟨d,hd,hs⟩:=gY hM he;obtain ⟨t,t1,t2,ht⟩:=h (d / 2) (by grind) a b ca cb;refine ⟨t,t1,t2,(ht.mul (hb t (hBa.J8 hBb t1 t2))).mono ?_⟩;have:=hs (d / 2) (by grind) (by grind);grind
theorem Ky.mul{p q:Fn}{C:qO}(hC:eG C){s s':Int}(h:Ky p C s)(k:Ky q C s'):Ky (fun x=>p x*q x) C (s*s'):=by
 obtain ⟨e,a,b,he,ha,hb,m⟩:=h.meet hC k;exact ⟨e*e,a,b,ae5 he he,ha,hb,fun t h1 h2=>by
  have:=m t h1 h2;exact ⟨this.1.1.mul he he this.2.1,by rw [Ee,this.1.2,this.2.2]⟩⟩
theorem VC.congr{p q:Fn}{C:qO}(h:VC p C)(e:∀ x,p x=q x):VC q C:=by obtain rfl:p=q:=funext e;exact h
theorem afD{p:Fn}(pp:Po p)(t:Rat):Rl p (fO t)=fC (p t):=by
 by_cases h0:fC (p t)=0
 ·rw [h0]
  exact zN fun e he q r hq hr=>⟨t,by unfold fO at hq;grind,by unfold fO at hr;grind,by rw [fP.1 h0];exact jR (by grind)⟩
 ·obtain ⟨B,hB1,hB2,_⟩:=yQ (t-1) t
  obtain ⟨m,hm,hf⟩:∃ m:Rat,0 < m∧oQ (p t) m:=by
   rcases eH (p t) with ⟨k,_⟩ | ⟨_,k⟩ | ⟨k,_⟩
   ·exact ⟨-(p t),by grind,Or.inr (by grind)⟩
   ·exact absurd k h0
   ·exact ⟨p t,k,Or.inl (by grind)⟩
  obtain ⟨L,hL,hl⟩:=pp.lip B;obtain ⟨d,hd,hs⟩:=gY (L:=L) (m:=m / 2) hL (by grind);obtain ⟨z,hz,hz1,hz2⟩:=kJ hd (show (0:Rat) < 1 by grind);refine Oq (lQ t) ⟨m / 2,t-z / 2,t,by grind,by unfold fO;grind,by unfold fO;grind,fun y h1 h2=>?_⟩;have a1:=hl y t (hB1.J8 hB2 (by grind) h2) hB2 h2;have a2:L*(t-y)≤L*(z / 2):=abK (by grind) hL;have a3:=hs (z / 2) (by grind) (by grind);rcases hf with hf | hf
  ·exact ⟨Or.inl (by grind),by rw [iG (x:=p t) (by grind)];exact iG (by grind)⟩
  ·exact ⟨Or.inr (by grind),by rw [jh (x:=p t) (by grind)];exact jh (by grind)⟩
theorem ad2{p:Fn}{C D:qO}(h:∀ q,C q↔D q):Rl p C=Rl p D:=by
 obtain rfl:C=D:=funext fun q=>propext (h q)
 rfl
/-! ### By a common divisor -/
theorem Ph{g g':Fn}(pg:Po g)(hd:yh g g')(h:∀ x,g' x=0):∃ c,∀ x,g x=c:=by
 by_cases hn:∃ x,g x≠0
 ·obtain ⟨k,a,hk⟩:=nM pg hn
  cases k with
  | zero=>exact ⟨a,sQ hk⟩
  | succ k=>obtain ⟨y,hy⟩:=(hk.AP hd).ne;exact absurd (h y) hy
 ·exact ⟨0,fun x=>by by_cases h:g x=0;exact h;exact absurd ⟨x,h⟩ hn⟩
theorem AB.ne{f f':Fn}(h:AB f f'):∃ x,f x≠0:=by
 by_cases hh:∃ x,f x≠0
 ·exact hh
 ·exfalso
  have h0:∀ x,f x=0:=fun x=>by by_cases h:f x=0;exact h;exact absurd ⟨x,h⟩ hh
  have h1:∀ x,f' x=0:=fun x=>((h.AP.congr h0 (fun _=>rfl)).uniq (Wn 0) x)
  obtain ⟨u,v,_,_,e⟩:=h.cop;have:=e 0;rw [h0,h1] at this;grind
/-- A divisor with a root has a chain. -/
theorem Y2{f f' g w:Fn}(h:AB f f')(pg:Po g)(pw:Po w)(hf:∀ x,f x=g x*w x){a b:Rat}(hn:¬ jP g a b):∃ gg l,JZ g gg l:=by
 obtain ⟨g',pg',dg⟩:=pg.AP;have hs:=h.dv pg pw pg' dg hf
 by_cases h0:∃ x,g' x≠0
 ·obtain ⟨gg,l,h1,_⟩:=hs.stm h0;exact ⟨gg,l,h1⟩
 ·exfalso
  obtain ⟨c,hc⟩:=Ph pg dg fun x=>by by_cases h:g' x=0;exact h;exact absurd ⟨x,h⟩ h0
  have hc0:c≠0:=by
   rintro rfl;obtain ⟨x,hx⟩:=hs.ne;exact hx (hc x)
  exact hn ⟨fC c,fun e=>hc0 (fP.1 e),fun t _ _=>by rw [hc]⟩
theorem qA{f f' g w:Fn}{lo hi:Rat}(h:Et f f' lo hi)(pg:Po g)(pw:Po w)(hf:∀ x,f x=g x*w x){gg:Fn}{l:List Fn}(hs:JZ g gg l){a b:Rat}(hab:a≤b){K N:Nat}(k:oP g a b K)(n:oP f a b N):K≤N:=by
 obtain ⟨g',pg',dg⟩:=pg.AP;obtain ⟨w',pw',dw⟩:=pw.AP;obtain ⟨gf,lf,hst⟩:=h.stm;exact YF h.sq.po pg pw hs hst (h.sq.YE pg pw pg' pw' dg dw hf) hf hab k n
/-- The divisor's root is the number. -/
theorem acU{f f' g w:Fn}{lo hi:Rat}(h:Et f f' lo hi)(pg:Po g)(pw:Po w)(hf:∀ x,f x=g x*w x)(hn:¬ jP g lo hi){q r:Rat}(hq:jT f lo hi q)(hr:¬ jT f lo hi r)(h1:lo≤q)(h2:r≤hi):oP g q r 1:=by
 obtain ⟨gg,l,hs⟩:=Y2 h.sq pg pw hf hn;have hlt:=h.lt;have hqr:=(uq h).nb hq hr;obtain ⟨K,k⟩:∃ K,oP g lo hi K:=let ⟨N,n⟩:=qU hs (a:=lo) (b:=hi) (by grind);⟨N,gg,l,hs,n⟩
 have hK0:K≠0:=fun e=>hn ((k.free pg (by grind)).1 e)
 have hK1:=qA h pg pw hf hs (by grind) k h.one;obtain ⟨K1,K2,k1,k2,e⟩:=k.split (m:=q) h1 (by grind);obtain ⟨K3,K4,k3,k4,e'⟩:=k2.split (m:=r) (by grind) h2;have n1:=(kP h h1 (by grind)).1 hq;have c1:=qA h pg pw hf hs h1 k1 n1;obtain ⟨ho,_⟩:=h.narrow h1 h2 hq hr;have n3:oP f r hi 0:=by
  obtain ⟨N1,N2,m1,m2,e2⟩:=(((C9 h h1 (by grind)).1 hq)).split (m:=r) (by grind) h2;have:=m1.uniq h.sq.po (by grind) ho.one;rwa [show N2=0 by omega] at m2
 have c4:=qA h pg pw hf hs (by grind) k4 n3;rwa [show K3=1 by omega] at k3
theorem Yr{C:qO}{lo hi q r:Rat}(hlo:C lo)(hhi:¬ C hi)(hq:C q)(hr:¬ C r):∃ q' r',lo≤q'∧r'≤hi∧q≤q'∧r'≤r∧C q'∧¬ C r':=
 ⟨if q≤lo then lo else q,if r≤hi then r else hi,by split <;> grind,by split <;> grind,by split <;> grind,by split <;> grind,by split <;> assumption,by split <;> assumption⟩
/-- .. so what it divides vanishes there. -/
theorem Xg{f f' g w p p1:Fn}{lo hi:Rat}(h:Et f f' lo hi)(pg:Po g)(pw:Po w)(Fj:Po p1)(hf:∀ x,f x=g x*w x)(hp:∀ x,p x=g x*p1 x)(hn:¬ jP g lo hi):VC p (jT f lo hi):=by
 have hC:=uq h;have hg:VC g (jT f lo hi):=by
  intro e he q r hq hr;obtain ⟨q',r',h1,h2,h3,h4,c1,c2⟩:=Yr (C:=jT f lo hi) (lo:=lo) (hi:=hi) (Or.inl (by grind)) (jD h.lt (by grind)) hq hr;have k:=acU h pg pw hf hn c1 c2 h1 h2;obtain ⟨x,x1,x2,hx⟩:=Dn pg (by have:=hC.nb c1 c2;grind) k (by decide) he;exact ⟨x,by grind,by grind,hx⟩
 exact (hg.mul hC Fj).congr fun x=>(hp x).symm
/-- Where the common divisor has no root there is a sign. -/
theorem QF{f f' g w p p1 u v:Fn}{lo hi:Rat}(h:Et f f' lo hi)(pg:Po g)(pw:Po w)(Fj:Po p1)(pu:Po u)(pv:Po v)(hf:∀ x,f x=g x*w x)(hp:∀ x,p x=g x*p1 x)(huv:∀ x,g x=u x*p x+v x*f x)(hfr:jP g lo hi):∃ s,Ky p (jT f lo hi) s:=by
 have hC:=uq h;have hlt:=h.lt;rcases Hl hC ((pg.mul Fj).congr fun x=>(hp x).symm) with hv | hs
 ·exfalso
  obtain ⟨q0,hq0,c0⟩:=hC.up lo (Or.inl (by grind));have chi:¬ jT f lo hi hi:=jD hlt (by grind);obtain ⟨s,hs0,hst⟩:=hfr;have ag0:∃ e,0 < e∧∀ t,q0≤t→t≤hi→oQ (g t) e:=by
   obtain ⟨g',pg',dg⟩:=pg.AP;have hsq:=h.sq.dv pg pw pg' dg hf;have Zz:=hC.nb c0 chi
   by_cases hc:∃ x,g' x≠0
   ·obtain ⟨gg,l,hst',_⟩:=hsq.stm hc
    exact PV hst' pg (by grind) (by rw [hst q0 hq0 (by grind)];exact hs0) (fun t h1 h2=>by rw [hst t (by grind) h2,hst q0 hq0 (by grind)])
   ·obtain ⟨c,hcc⟩:=Ph pg dg fun x=>by by_cases h:g' x=0;exact h;exact absurd ⟨x,h⟩ hc
    have hc0:c≠0:=by rintro rfl;obtain ⟨x,hx⟩:=hsq.ne;exact hx (hcc x)
    rcases eH c with ⟨k,_⟩ | ⟨k,_⟩ | ⟨k,_⟩
    ·exact ⟨-c,by grind,fun t _ _=>by rw [hcc];exact Or.inr (by grind)⟩
    ·exact absurd k hc0
    ·exact ⟨c,k,fun t _ _=>by rw [hcc];exact Or.inl (by grind)⟩
  obtain ⟨e,he,ag0⟩:=ag0;obtain ⟨B,hB1,hB2,_⟩:=yQ q0 hi;obtain ⟨M,hM,mu⟩:=pu.bd B;obtain ⟨N,hN,mv⟩:=pv.bd B;obtain ⟨L,hL,hl⟩:=h.sq.po.lip B;obtain ⟨z,hz,hzs⟩:=gY (L:=M+N+N*L) (m:=e) (by have:=acQ hN hL;grind) he;obtain ⟨q',r',h1,h2,c1,c2,hsh⟩:=hC.short c0 chi (η:=z / 2) (by grind);have hqr:=hC.nb c1 c2;obtain ⟨ho,_⟩:=h.narrow (a:=q') (b:=r') (by grind) h2 c1 c2;obtain ⟨x,x1,x2,hx⟩:=Dn h.sq.po (by grind) ho.one (by decide) (show 0 < z / 2 by grind);obtain ⟨y,y1,y2,hy⟩:=hv (z / 2) (by grind) q' r' c1 c2;have xB:=hB1.J8 hB2 (t:=x) (by grind) (by grind);have yB:=hB1.J8 hB2 (t:=y) (by grind) (by grind);have hfy:Ab (f y) (z / 2+L*(z / 2)):=by
   by_cases hxy:x≤y
   ·have a1:=hl.ab xB yB hxy
    have a2:L*(y-x)≤L*(z / 2):=abK (by grind) hL;unfold Ab at *;constructor <;> grind
   ·have a1:=hl.ab yB xB (by grind)
    have a2:L*(x-y)≤L*(z / 2):=abK (by grind) hL;unfold Ab at *;constructor <;> grind
  have a3:=((mu y yB).mul hy).add ((mv y yB).mul hfy);rw [← huv] at a3;have a4:=hzs (z / 2) (by grind) (by grind);have a5:=ag0 y (by grind) (by grind);unfold Ab at a3;rcases a5 with a5 | a5 <;> grind
 ·exact hs
/-- ONE NUMBER: a common divisor has a root in both intervals. -/
theorem Yz{f1 f1' f2 f2' g w1 w2:Fn}{l1 h1 l2 h2 a b:Rat}(o1:Et f1 f1' l1 h1)(o2:Et f2 f2' l2 h2)(pg:Po g)(VB:Po w1)(Xy:Po w2)(e1:∀ x,f1 x=g x*w1 x)(e2:∀ x,f2 x=g x*w2 x)(a1:l1≤a)(a2:l2≤a)(b1:b≤h1)(b2:b≤h2)(hab:a < b)(hn:¬ jP g a b)(q:Rat):jT f1 l1 h1 q↔jT f2 l2 h2 q:=by
 obtain ⟨gg,l,hs⟩:=Y2 o1.sq pg VB e1 hn;obtain ⟨K,k⟩:∃ K,oP g a b K:=let ⟨N,n⟩:=qU hs (a:=a) (b:=b) (by grind);⟨N,gg,l,hs,n⟩
 have hK0:K≠0:=fun e=>hn ((k.free pg (by grind)).1 e)
 have side:∀ {f f' w:Fn} {lo hi:Rat},Et f f' lo hi→Po w→(∀ x,f x=g x*w x)→lo≤a→b≤hi→jT f lo hi a∧¬ jT f lo hi b:=by
  intro f f' w lo hi o pw e ha hb;have hlt:=o.lt;have hone:oP f a b 1∧oP f lo a 0∧oP f b hi 0:=by
   obtain ⟨N1,N2,n1,n2,x1⟩:=o.one.split (m:=a) ha (by grind);obtain ⟨N3,N4,n3,n4,x2⟩:=n2.split (m:=b) (by grind) hb;have:=qA o pg pw e hs (by grind) k n3;have:N3=1:=by omega
   subst this;exact ⟨n3,by rwa [show N1=0 by omega] at n1,by rwa [show N4=0 by omega] at n4⟩
  refine ⟨(kP o ha (by grind)).2 hone.2.1,fun hc=>?_⟩
  by_cases hbh:b < hi
  ·have:=(C9 o (by grind) hbh).1 hc
   have:=this.uniq o.sq.po hb hone.2.2;omega
  ·exact jD hlt (by grind) hc
 obtain ⟨c1,d1⟩:=side o1 VB e1 a1 b1;obtain ⟨c2,d2⟩:=side o2 Xy e2 a2 b2;obtain ⟨n1,m1⟩:=o1.narrow a1 b1 c1 d1;obtain ⟨n2,m2⟩:=o2.narrow a2 b2 c2 d2;rw [← m1,← m2]
 by_cases hq1:q≤a
 ·exact ⟨fun _=>Or.inl hq1,fun _=>Or.inl hq1⟩
 ·by_cases hq2:q < b
  ·rw [kP n1 (by grind) hq2,kP n2 (by grind) hq2]
   have hk1:K=1:=by have:=qA n1 pg VB e1 hs (by grind) k n1.one;omega
   subst hk1;obtain ⟨K1,K2,k1,k2,ek⟩:=k.split (m:=q) (by grind) (by grind);have key:∀ {f f' w:Fn},Et f f' a b→Po w→(∀ x,f x=g x*w x)→(oP f a q 0↔K1=0):=by
    intro f f' w o pw e
    rcases o.split (q:=q) (by grind) (by grind) with ⟨x1,x2⟩ | ⟨x1,x2⟩
    ·have:=qA o pg pw e hs (by grind) k1 x1
     exact ⟨fun _=>by omega,fun _=>x1⟩
    ·have:=qA o pg pw e hs (by grind) k2 x2
     exact ⟨fun x=>by have:=x.uniq o.sq.po (by grind) x1;omega,fun _=>by omega⟩
   rw [key n1 VB e1,key n2 Xy e2]
  ·exact ⟨fun c=>absurd c (jD n1.lt (by grind)),fun c=>absurd c (jD n2.lt (by grind))⟩
/-- TWO NUMBERS: it has none. -/
theorem Yx{f1 f1' f2 f2' g w1 w2 u v:Fn}{l1 h1 l2 h2 a b:Rat}(o1:Et f1 f1' l1 h1)(o2:Et f2 f2' l2 h2)(pg:Po g)(VB:Po w1)(Xy:Po w2)(pu:Po u)(pv:Po v)(e1:∀ x,f1 x=g x*w1 x)(e2:∀ x,f2 x=g x*w2 x)(huv:∀ x,g x=u x*f2 x+v x*f1 x)(ha:a=l1∨a=l2)(hb:b=h1∨b=h2)(a1:l1≤a)(a2:l2≤a)(b1:b≤h1)(b2:b≤h2)(hn:a < b→jP g a b)(he:∀ q,jT f1 l1 h1 q↔jT f2 l2 h2 q):False:=by
 have C1:=uq o1;have C2:=uq o2;have lt1:=o1.lt;have lt2:=o2.lt;have ca:jT f1 l1 h1 a:=by
  rcases ha with rfl | rfl
  ·exact Or.inl (by grind)
  ·exact (he _).2 (Or.inl (by grind))
 have cb:¬ jT f1 l1 h1 b:=by
  rcases hb with rfl | rfl
  ·exact jD lt1 (by grind)
  ·intro hc;exact jD lt2 (by grind) ((he _).1 hc)
 have hab:=C1.nb ca cb;obtain ⟨n1,m1⟩:=o1.narrow a1 b1 ca cb;obtain ⟨n2,m2⟩:=o2.narrow a2 b2 ((he a).1 ca) (fun hc=>cb ((he b).2 hc));obtain ⟨s,hs⟩:=QF (p:=f2) (p1:=w2) n1 pg VB Xy pu pv e1 e2 huv (hn hab);refine hs.Vp fun e he' q r hq hr=>?_
 obtain ⟨q',r',x1,x2,x3,x4,c1,c2⟩:=Yr (C:=jT f1 a b) (lo:=a) (hi:=b) (Or.inl (by grind)) (jD hab (by grind)) hq hr;have hx:∀ t,jT f1 a b t↔jT f2 a b t:=fun t=>by rw [m1,m2];exact he t
 obtain ⟨o,_⟩:=n2.narrow x1 x2 ((hx _).1 c1) (fun hc=>c2 ((hx _).2 hc));obtain ⟨x,y1,y2,hy⟩:=Dn n2.sq.po (by have:=o.lt;grind) o.one (by decide) he';exact ⟨x,by grind,by grind,hy⟩
/-- A normal row of n coefficients. -/
structure IP(n:Nat)(c:Nat→Int):Prop where
 z:∀ i,n≤i→c i=0
 l:n≠0→c (n-1)≠0
theorem IP.of{c:Nat→Int}{m:Nat}(h:∀ i,m≤i→c i=0):IP (dg c m) c:=⟨nX h,KQ⟩
theorem IP.self{n:Nat}{c:Nat→Int}(h:IP n c):dg c n=n:=uw (by by_cases e:n=0;exact Or.inl e;exact Or.inr (h.l e))
theorem IP.uniq{n m:Nat}{c:Nat→Int}(h:IP n c)(k:∀ i,m≤i→c i=0):dg c m=n:=by rw [PD k h.z];exact h.self
def pf(c:Nat→Int)(n:Nat):Fn:=fun q=>pz c q n
theorem aaI{c:Nat→Int}{n:Nat}(h:∀ i,n≤i→c i=0):Po (pf c n):=⟨n,rc c,qM h,fun _=>rfl⟩
theorem aaH{c:Nat→Int}{n m:Nat}(h:∀ i,n≤i→c i=0)(k:∀ i,m≤i→c i=0):pf c n=pf c m:=funext fun q=>Bf h k
theorem sZ{z:Int}(h:z≠0):(z:Rat)≠0:=fun e=>h (by exact_mod_cast e)
theorem IP.lc{n:Nat}{c:Nat→Int}(h:IP n c)(hn:n≠0):Lc (n-1) (pf c n) (c (n-1):Rat):=
 ⟨rc c,fun i hi=>qM h.z i (by omega),rfl,sZ (h.l hn),fun q=>by show pz c q n=pe (rc c) q (n-1+1);rw [Nat.sub_add_cancel (by omega)];rfl⟩
theorem IP.ne{n:Nat}{c:Nat→Int}(h:IP n c)(hn:n≠0):∃ x,pf c n x≠0:=(h.lc hn).ne
theorem IP.zero{n:Nat}{c:Nat→Int}(h:IP n c)(k:∀ x,pf c n x=0):n=0:=by
 by_cases hn:n=0
 ·exact hn
 ·obtain ⟨x,hx⟩:=h.ne hn;exact absurd (k x) hx
theorem G8(c:Nat→Int)(x:Rat):pf c 0 x=0:=rfl
theorem rC{a b:Nat→Int}{n m:Nat}(ha:∀ i,n≤i→a i=0)(hb:∀ i,m≤i→b i=0)(x:Rat):pf (aY a b) (n+m) x=pf a n x*pf b m x:=Oe ha hb (gu ha hb)
theorem zH{a:Nat→Int}{n:Nat}(y:Int)(x:Rat):pf (iW a y) n x=pf a n x*(y:Rat):=aif y
theorem ah4{a b:Nat→Int}{n:Nat}(x:Rat):pf (pI a b) n x=pf a n x-pf b n x:=aaT
theorem ah3{a:Nat→Int}{n:Nat}(x:Rat):pf (iE a) n x= - pf a n x:=by
 have:iE a=iW a (-1):=funext fun i=>by unfold iE iW;omega
 rw [this,zH];grind
theorem NV{a b:Nat→Int}{n m:Nat}(ha:∀ i,n≤i→a i=0)(hb:∀ i,m≤i→b i=0)(h:∀ x,pf a n x=pf b m x):∀ i,a i=b i:=aie ha hb fun x=>h x
theorem ahZ{c:Nat→Int}{n:Nat}:yh (pf c n) (pf (bP c) (n-1)):=by
 have h:=YS (c:=rc c) (n:=n);have e:Bq (rc c)=rc (bP c):=funext fun i=>by
  show ((i+1:Nat):Rat)*((c (i+1):Int):Rat)=((c (i+1)*((i+1:Nat):Int):Int):Rat)
  rw [Rat.intCast_mul,Rat.mul_comm];rfl
 rw [e] at h;exact h
theorem zG{c:Nat→Int}{x:Rat}:pf c 1 x=(c 0:Rat):=by
 show 0+rc c 0*x^0=_
 rw [Rat.pow_zero];show 0+(c 0:Rat)*1=_;grind
/-! ### Contents -/
theorem wC{c:Nat→Int}{g:Nat}:∀ {n:Nat},(∀ i,i < n→g∣(c i).natAbs)→g∣bF c n
 | 0,_=>Nat.dvd_zero _
 | n+1,h=>Nat.dvd_gcd (wC fun i hi=>h i (by omega)) (h n (by omega))
theorem PW{d:Nat→Int}{g:Int}:∀ n,bF (fun i=>g*d i) n=g.natAbs*bF d n
 | 0=>rfl
 | n+1=>by
  show Nat.gcd (bF (fun i=>g*d i) n) (g*d n).natAbs=g.natAbs*Nat.gcd (bF d n) (d n).natAbs
  rw [PW n,Int.natAbs_mul,Nat.gcd_mul_left]
theorem ES{c:Nat→Int}{n:Nat}(h:∀ i,n≤i→c i=0):∀ k,bF c (n+k)=bF c n
 | 0=>rfl
 | k+1=>by
  show Nat.gcd (bF c (n+k)) (c (n+k)).natAbs=_
  rw [h (n+k) (by omega),ES h k];exact Nat.gcd_zero_right _
theorem U5{c:Nat→Int}{n m:Nat}(h:∀ i,n≤i→c i=0)(k:∀ i,m≤i→c i=0):bF c n=bF c m:=by
 rcases Nat.le_total n m with e | e
 ·obtain ⟨d,rfl⟩:=aiQ e;exact (ES h d).symm
 ·obtain ⟨d,rfl⟩:=aiQ e;exact ES k d
theorem Ze{c:Nat→Int}{i n:Nat}(hi:i < n)(h:c i≠0):0 < bF c n:=by
 rcases aev (bF c n) with e | e
 ·have:=yR (c:=c) hi
  rw [e] at this;have:=Nat.eq_zero_of_zero_dvd this;omega
 ·exact e
theorem IP.uy{n:Nat}{c:Nat→Int}(h:IP n c)(hn:n≠0):0 < bF c n:=Ze (i:=n-1) (by omega) (h.l hn)
theorem IP.su{n:Nat}{c:Nat→Int}(h:IP n c){g:Int}(hg:g≠0)(hd:∀ i,i < n→g∣c i):IP n (su c g):=⟨AX h.z,fun hn e=>h.l hn (by
 have h1:=Int.mul_ediv_cancel' (hd (n-1) (by omega));unfold Go.Proofs.YtapmpcgekdplfaaGreat.su at e;rw [e] at h1;omega)⟩
theorem Zb{n:Nat}{c:Nat→Int}(hz:∀ i,n≤i→c i=0){g:Int}(hd:∀ i,i < n→g∣c i)(i:Nat):g*su c g i=c i:=by
 by_cases hi:i < n
 ·exact Int.mul_ediv_cancel' (hd i hi)
 ·unfold su;rw [hz i (by omega),Int.zero_ediv,Int.mul_zero]
theorem xM{c:Nat→Int}{i n:Nat}(hi:i < n):((bF c n:Nat):Int)∣c i:=agH.2 (yR hi)
/-- Over its content. -/
def uK(c:Nat→Int)(n:Nat):Nat→Int:=su c ((bF c n:Nat):Int)
def iD(c:Nat→Int)(n:Nat):Int:=if c (n-1) < 0 then -((bF c n:Nat):Int) else ((bF c n:Nat):Int)
def yF(c:Nat→Int)(n:Nat):Nat→Int:=su c (iD c n)
theorem abl{n:Nat}{c:Nat→Int}(hz:∀ i,n≤i→c i=0)(i:Nat):((bF c n:Nat):Int)*uK c n i=c i:=Zb hz (fun _ h=>xM h) i
theorem GU{c:Nat→Int}{i n:Nat}(hi:i < n):iD c n∣c i:=by
 unfold iD;split
 ·exact Int.neg_dvd.2 (xM hi)
 ·exact xM hi
theorem N9{n:Nat}{c:Nat→Int}(hz:∀ i,n≤i→c i=0)(i:Nat):iD c n*yF c n i=c i:=Zb hz (fun _ h=>GU h) i
theorem Pg{c:Nat→Int}{n:Nat}:(iD c n).natAbs=bF c n:=by unfold iD;split <;> omega
theorem IP.qX{n:Nat}{c:Nat→Int}(h:IP n c)(hn:n≠0):iD c n≠0:=by have:=h.uy hn;have:=Pg (c:=c) (n:=n);omega
theorem IP.yF{n:Nat}{c:Nat→Int}(h:IP n c):IP n (yF c n):=by
 by_cases hn:n=0
 ·subst hn;exact ⟨AX h.z,fun e=>absurd rfl e⟩
 ·exact h.su (h.qX hn) fun _ k=>GU k
theorem Jq{n:Nat}{c:Nat→Int}(hz:∀ i,n≤i→c i=0)(x:Rat):pf c n x=((bF c n:Nat):Rat)*pf (uK c n) n x:=by
 have:=zH (a:=uK c n) (n:=n) ((bF c n:Nat):Int) x;rw [show iW (uK c n) ((bF c n:Nat):Int)=c from funext fun i=>by rw [← abl hz i];exact Int.mul_comm _ _] at this;rw [this,Rat.mul_comm];rfl
theorem NW{n:Nat}{c:Nat→Int}(hz:∀ i,n≤i→c i=0)(x:Rat):pf c n x=(iD c n:Rat)*pf (yF c n) n x:=by
 have:=zH (a:=yF c n) (n:=n) (iD c n) x;rw [show iW (yF c n) (iD c n)=c from funext fun i=>by rw [← N9 hz i];exact Int.mul_comm _ _] at this;rw [this,Rat.mul_comm]
/-- Primitive, what stands in front is above 0. -/
structure Pm(n:Nat)(c:Nat→Int):Prop where
 ip:IP n c
 pos:n≠0
 one:bF c n=1
 lead:0 < c (n-1)
theorem PX{c d:Nat→Int}{g:Int}{n:Nat}(hg:g≠0)(h:∀ i,g*d i=c i)(hc:bF c n=g.natAbs):bF d n=1:=by
 have h1:bF c n=g.natAbs*bF d n:=by rw [← PW];exact U4 fun i _=>(h i).symm
 rw [hc] at h1;have h2:0 < g.natAbs:=by omega
 have h3:g.natAbs*1=g.natAbs*bF d n:=by rw [Nat.mul_one];exact h1
 exact (Nat.eq_of_mul_eq_mul_left h2 h3).symm
theorem IP.pm{n:Nat}{c:Nat→Int}(h:IP n c)(hn:n≠0):Pm n (Go.Proofs.YtapmpcgekdplfaaGreat.yF c n):=⟨h.yF,hn,PX (h.qX hn) (N9 h.z) Pg.symm,by
 have h1:=N9 h.z (n-1);have h2:=h.l hn;have h3:=h.uy hn;unfold iD at h1;generalize Go.Proofs.YtapmpcgekdplfaaGreat.yF c n (n-1)=y at h1 ⊢;split at h1
 ·rename_i h4
  rcases afQ y 0 with h5 | h5 | h5
  ·have:0≤-((bF c n:Nat):Int)*y:=Int.mul_nonneg_of_nonpos_of_nonpos (by omega) (by omega)
   omega
  ·subst h5;rw [Int.mul_zero] at h1;omega
  ·exact h5
 ·rcases afQ y 0 with h5 | h5 | h5
  ·have:((bF c n:Nat):Int)*y≤0:=Int.mul_nonpos_of_nonneg_of_nonpos (by omega) (by omega)
   omega
  ·subst h5;rw [Int.mul_zero] at h1;omega
  ·exact h5⟩
/-! ### What two make together -/
def OO(f a b:Fn):Prop:=∃ u v,Po u∧Po v∧∀ x,f x=u x*a x+v x*b x
theorem OO.l(a b:Fn):OO a a b:=⟨fun _=>1,fun _=>0,bZ 1,bZ 0,fun x=>by grind⟩
theorem OO.r(a b:Fn):OO b a b:=⟨fun _=>0,fun _=>1,bZ 0,bZ 1,fun x=>by grind⟩
theorem OO.trans{f a b A B:Fn}:OO f a b→OO a A B→OO b A B→OO f A B:=fun ⟨u,v,pu,pv,h⟩ ⟨p,q,pp,pq,h1⟩ ⟨r,s,pr,ps,h2⟩=>
 ⟨fun x=>u x*p x+v x*r x,fun x=>u x*q x+v x*s x,(pu.mul pp).add (pv.mul pr),(pu.mul pq).add (pv.mul ps),fun x=>by rw [h,h1,h2];grind⟩
/-- a, b and A, B make the same. -/
structure CB(A B a b:Fn):Prop where
 m1:OO a A B
 m2:OO b A B
 m3:OO A a b
 m4:OO B a b
theorem CB.refl(A B:Fn):CB A B A B:=⟨.l _ _,.r _ _,.l _ _,.r _ _⟩
theorem CB.trans{A B a b c d:Fn}(h:CB A B a b)(k:CB a b c d):CB A B c d:=⟨k.m1.trans h.m1 h.m2,k.m2.trans h.m1 h.m2,h.m3.trans k.m3 k.m4,h.m4.trans k.m3 k.m4⟩
/-- A step of Euclid's. -/
theorem CB.step{a b r Q:Fn}{k:Rat}(pQ:Po Q)(hk:k≠0)(h:∀ x,a x=Q x*b x+k*r x):CB a b b r:=
  ⟨.r _ _,⟨fun _=>k⁻¹,fun x=>Q x*(-k⁻¹),bZ _,pQ.yG _,fun x=>by have h1:=h x;have:k⁻¹*k=1:=Rat.inv_mul_cancel k hk;grind⟩,
   ⟨Q,fun _=>k,pQ,bZ _,h⟩,.l _ _⟩
theorem CB.scale{A B a b:Fn}{s t s' t':Rat}(h1:∀ x,A x=s*a x)(h2:∀ x,B x=t*b x)(h3:∀ x,a x=s'*A x)(h4:∀ x,b x=t'*B x):CB A B a b:=
  ⟨⟨fun _=>s',fun _=>0,bZ _,bZ _,fun x=>by rw [h3];grind⟩,⟨fun _=>0,fun _=>t',bZ _,bZ _,fun x=>by rw [h4];grind⟩,
   ⟨fun _=>s,fun _=>0,bZ _,bZ _,fun x=>by rw [h1];grind⟩,⟨fun _=>0,fun _=>t,bZ _,bZ _,fun x=>by rw [h2];grind⟩⟩
/-- d is what A and B make together. -/
structure Idl(A B d:Fn):Prop where
 cm:OO d A B
 da:Dv d A
 db:Dv d B
theorem CB.fin{A B a b:Fn}(h:CB A B a b)(hb:∀ x,b x=0):Idl A B a:=by
 have dv:∀ {f},OO f a b→Dv a f:=fun ⟨u,v,pu,pv,h⟩=>⟨u,pu,fun x=>by rw [h,hb];grind⟩
 exact ⟨h.m1,dv h.m3,dv h.m4⟩
theorem Idl.scale{A B d e:Fn}{s s':Rat}(h:Idl A B d)(h1:∀ x,d x=s*e x)(h2:∀ x,e x=s'*d x):Idl A B e:=by
 obtain ⟨⟨u,v,pu,pv,hm⟩,⟨p,pp,hp⟩,⟨q,pq,hq⟩⟩:=h;exact ⟨⟨fun x=>u x*s',fun x=>v x*s',pu.yG _,pv.yG _,fun x=>by rw [h2,hm];grind⟩,⟨fun x=>p x*s,pp.yG _,fun x=>by rw [hp,h1];grind⟩,⟨fun x=>q x*s,pq.yG _,fun x=>by rw [hq,h1];grind⟩⟩
/-- A row and its primitive one. -/
theorem W9{n:Nat}{c:Nat→Int}(h:IP n c):∃ s s':Rat,(∀ x,pf c n x=s*pf (yF c n) n x)∧∀ x,pf (yF c n) n x=s'*pf c n x:=by
 by_cases hn:n=0
 ·subst hn;exact ⟨1,1,fun x=>by rw [G8,G8];grind,fun x=>by rw [G8,G8];grind⟩
 ·have h1:=sZ (h.qX hn)
  refine ⟨(iD c n:Rat),(iD c n:Rat)⁻¹,NW h.z,fun x=>?_⟩;rw [NW h.z x];have:(iD c n:Rat)⁻¹*(iD c n:Rat)=1:=Rat.inv_mul_cancel _ h1;grind
/-! ### Primes -/
def Pn(p:Nat):Prop:=2≤p∧∀ d,d∣p→d=1∨d=p
theorem aj2:∀ n:Nat,n≠1→∃ p,Pn p∧p∣n:=by
 intro n hn
 by_cases h0:n=0
 ·subst h0
  exact ⟨2,⟨abJ 2,fun d hd=>by have:=Nat.le_of_dvd (by decide) hd;rcases d with _ | _ | _ | d <;> omega⟩,Nat.dvd_zero _⟩
 induction n using Nat.strongRecOn with
 | ind n ih=>
  by_cases h:∃ d,d∣n∧d≠1∧d≠n
  ·obtain ⟨d,h1,h2,h3⟩:=h
   have hle:=Nat.le_of_dvd (by omega) h1;have hd0:d≠0:=fun e=>by subst e;exact h0 (Nat.eq_zero_of_zero_dvd h1)
   obtain ⟨p,hp,hd⟩:=ih d (by omega) h2 hd0;exact ⟨p,hp,Nat.dvd_trans hd h1⟩
  ·refine ⟨n,⟨by omega,fun d hd=>?_⟩,Nat.dvd_refl n⟩
   by_cases h1:d=1
   ·exact Or.inl h1
   ·by_cases h2:d=n
    ·exact Or.inr h2
    ·exact absurd ⟨d,hd,h1,h2⟩ h
theorem Pn.mul{p:Nat}(h:Pn p){a b:Int}(hd:(p:Int)∣a*b):(p:Int)∣a∨(p:Int)∣b:=by
 rcases h.2 (Nat.gcd p a.natAbs) (Nat.gcd_dvd_left _ _) with e | e
 ·right
  have h1:p∣a.natAbs*b.natAbs:=by rw [← Int.natAbs_mul];exact agH.1 hd
  exact agH.2 (Nat.Coprime.dvd_of_dvd_mul_left e h1)
 ·left
  exact agH.2 (e▸Nat.gcd_dvd_right p a.natAbs)
theorem QA{p:Nat}(hp:Pn p){c:Nat→Int}:∀ {n:Nat},bF c n=1→∃ i,i < n∧¬ (p:Int)∣c i∧∀ j,j < i→(p:Int)∣c j:=by
 intro n h;have key:∀ m,m≤n→(∀ j,j < m→(p:Int)∣c j)∨∃ i,i < n∧¬ (p:Int)∣c i∧∀ j,j < i→(p:Int)∣c j:=by
  intro m
  induction m with
  | zero=>exact fun _=>Or.inl fun j hj=>absurd hj (ab2 _)
  | succ m ih=>
   intro hm
   rcases ih (by omega) with h1 | h1
   ·by_cases h2:(p:Int)∣c m
    ·left
     intro j hj
     rcases ag4 j m with h3 | h3
     ·exact h1 j h3
     ·obtain rfl:j=m:=by omega
      exact h2
    ·exact Or.inr ⟨m,by omega,h2,h1⟩
   ·exact Or.inr h1
 rcases key n (abJ n) with h1 | h1
 ·exfalso
  have:p∣bF c n:=wC fun i hi=>agH.1 (h1 i hi)
  rw [h] at this;have:=Nat.le_of_dvd (by decide) this;have:=hp.1;omega
 ·exact h1
theorem YJ{p:Int}{a b:Nat→Int}{t:Nat}:∀ {m:Nat},(∀ i,i < m→i≤t→p∣a i*b (t-i))→p∣cv a b m t
 | 0,_=>⟨0,(Int.mul_zero p).symm⟩
 | m+1,h=>by
  show p∣cv a b m t+(if m≤t then a m*b (t-m) else 0)
  refine Int.dvd_add (YJ fun i hi ht=>h i (by omega) ht) ?_;split
  ·exact h m (by omega) (by assumption)
  ·exact ⟨0,(Int.mul_zero p).symm⟩
theorem YL{p:Int}{a b:Nat→Int}{t i:Nat}(hit:i≤t)(h:∀ k,k≤t→k≠i→p∣a k*b (t-k)):∀ m,i < m→p∣cv a b m t-a i*b (t-i)
 | 0,h0=>absurd h0 (ab2 _)
 | m+1,hm=>by
  show p∣cv a b m t+(if m≤t then a m*b (t-m) else 0)-_
  rcases ag4 i m with h1 | h1
  ·have h2:=YL hit h m h1
   have h3:p∣(if m≤t then a m*b (t-m) else 0):=by
    split
    ·exact h m (by assumption) (by omega)
    ·exact ⟨0,(Int.mul_zero p).symm⟩
   have:=Int.dvd_add h2 h3;rwa [show cv a b m t-a i*b (t-i)+(if m≤t then a m*b (t-m) else 0)=cv a b m t+(if m≤t then a m*b (t-m) else 0)-a i*b (t-i) from by omega] at this
  ·obtain rfl:i=m:=by omega
   rw [if_pos hit];have h2:p∣cv a b i t:=YJ fun k hk ht=>h k ht (by omega)
   rwa [show cv a b i t+a i*b (t-i)-a i*b (t-i)=cv a b i t from by omega]
/-- GAUSS'S LEMMA. -/
theorem aeZ{a b:Nat→Int}{n m:Nat}(ha:∀ i,n≤i→a i=0)(hb:∀ i,m≤i→b i=0)(h1:bF a n=1)(h2:bF b m=1):bF (aY a b) (n+m)=1:=by
 by_cases hg:bF (aY a b) (n+m)=1
 ·exact hg
 ·exfalso
  obtain ⟨p,hp,hd⟩:=aj2 _ hg;obtain ⟨i,hi,i1,i2⟩:=QA hp h1;obtain ⟨j,hj,j1,j2⟩:=QA hp h2;have h3:(p:Int)∣aY a b (i+j):=agH.2 (Nat.dvd_trans hd (yR (by omega)));have h4:=YL (p:=(p:Int)) (a:=a) (b:=b) (t:=i+j) (i:=i) (by omega) (fun k hk hne=>by
   rcases ag4 k i with h5 | h5
   ·exact Int.dvd_mul_of_dvd_left (i2 k h5)
   ·exact Int.dvd_mul_of_dvd_right (j2 (i+j-k) (by omega))) (i+j+1) (by omega)
  rw [show i+j-i=j from by omega] at h4;have h5:(p:Int)∣a i*b j:=by
   have:=Int.dvd_sub h3 h4;rwa [show aY a b (i+j)-(cv a b (i+j+1) (i+j)-a i*b j)=a i*b j from by show cv a b (i+j+1) (i+j)-_=_;omega] at this
  rcases hp.mul h5 with h6 | h6
  ·exact i1 h6
  ·exact j1 h6
/-- A row of rationals is whole, but for a factor. -/
theorem FH{q:Nat→Rat}{k:Nat}(hq:∀ i,k≤i→q i=0):∃ (D:Nat) (w:Nat→Int),0 < D∧(∀ i,k≤i→w i=0)∧∀ i,(w i:Rat)=q i*(D:Rat):=
 ⟨lcd q k,cX (lcd q k) q,ND k,agD hq,fun i=>by
  by_cases hi:i < k
  ·have:=Yp (L:=lcd q k) (p:=q) (i:=i) (NC hi)
   rw [jE] at this;exact this
  ·show ((cX (lcd q k) q i:Int):Rat)=_
   rw [agD hq i (by omega),hq i (by omega),Rat.zero_mul];rfl⟩
/-- A primitive row that divides divides over the whole numbers. -/
theorem nT{a b:Nat→Int}{n m:Nat}{W:Fn}(ha:∀ i,n≤i→a i=0)(hb:∀ i,m≤i→b i=0)(h1:bF b m=1)(pW:Po W)(h:∀ x,pf a n x=W x*pf b m x):∃ (w:Nat→Int) (k:Nat),(∀ i,k≤i→w i=0)∧(∀ i,aY w b i=a i)∧∀ x,pf w k x=W x:=by
  obtain ⟨k,q,hq,hW⟩:=pW;obtain ⟨D,w,hD,hw,e⟩:=FH hq
  have hD' : (D : Rat) ≠ 0 := by have : (0 : Rat) < (D : Rat) := by exact_mod_cast hD
                                 grind
  have hpw:∀ x,pf w k x=W x*(D:Rat):=fun x=>by
    rw [hW x];show pe (rc w) x k=_
    rw [← sV];exact mP fun i _=>e i
  have hDa:∀ i,(iW a (D:Int)) i=aY w b i:=by
    refine NV (n:=n) (m:=k+m) (pG ha) (gu hw hb) fun x=>?_
    rw [zH,rC hw hb,h x,hpw x];show W x*pf b m x*((D:Int):Rat)=_
    rw [show ((D:Int):Rat)=(D:Rat) from rfl];grind
  by_cases hw0:∀ i,w i=0
  · refine ⟨w,k,hw,fun i=>?_,fun x=>?_⟩
    · rw [xH hw0]
      have:=hDa i;rw [xH hw0] at this;unfold iW at this;rcases Int.mul_eq_zero.1 this with h2 | h2
      · exact h2.symm
      · omega
    · have h3:=hpw x
      have h4:pf w k x=0:=D7 fun i _=>by unfold rc;rw [hw0 i];rfl
      rw [h4] at h3;rcases aiN.1 h3.symm with h5 | h5
      · rw [h4,h5]
      · exact absurd h5 hD'
  · have hg:0 < bF w k:=by
      by_cases hz:bF w k=0
      · exfalso;apply hw0;intro i
        by_cases hi:i < k
        · have:=yR (c:=w) hi;rw [hz] at this;have:=Nat.eq_zero_of_zero_dvd this;omega
        · exact hw i (by omega)
      · omega
    have hs1:bF (uK w k) k=1:=PX (g:=((bF w k:Nat):Int)) (by omega) (abl hw) rfl;have hsz:∀ i,k≤i→uK w k i=0:=AX hw
    have Zw:=aeZ hsz hb hs1 h1;have hcv:∀ i,aY w b i=((bF w k:Nat):Int)*aY (uK w k) b i:=by
      refine fun i=>(?_:aY w b i=iW (aY (uK w k) b) ((bF w k:Nat):Int) i).trans (Int.mul_comm _ _)
      refine NV (n:=k+m) (m:=k+m) (gu hw hb) (pG (gu hsz hb)) (fun x=>?_) i;rw [zH,rC hw hb,rC hsz hb,Jq hw];show _=_*(((bF w k:Nat):Int):Rat)
      rw [show (((bF w k:Nat):Int):Rat)=((bF w k:Nat):Rat) from rfl];grind
    obtain ⟨z,hz⟩:=QB (γ:=aY (uK w k) b) (r:=k+m) (κ:=((bF w k:Nat):Rat)*(D:Rat)⁻¹) (W:=a) Zw fun i _=>by
      have h2:((iW a (D:Int) i:Int):Rat)=((aY w b i:Int):Rat):=by rw [hDa i]
      rw [hcv i] at h2;unfold iW at h2;rw [Rat.intCast_mul,Rat.intCast_mul] at h2;have h3:(D:Rat)*(D:Rat)⁻¹=1:=aii _ hD';have h4:((D:Int):Rat)=(D:Rat):=rfl;have h5:(((bF w k:Nat):Int):Rat)=((bF w k:Nat):Rat):=rfl;rw [h4,h5] at h2;grind
    have hv:∀ i,aY (iW (uK w k) z) b i=a i:=by
      refine NV (n:=k+m) (m:=n) (gu (pG hsz) hb) ha fun x=>?_
      rw [rC (pG hsz) hb,zH,h x,← hz];have h2:=hpw x;rw [Jq hw] at h2;have h3:(D:Rat)*(D:Rat)⁻¹=1:=aii _ hD';have:W x=((bF w k:Nat):Rat)*pf (uK w k) k x*(D:Rat)⁻¹:=by rw [h2];grind
      rw [this];grind
    refine ⟨iW (uK w k) z,k,pG hsz,hv,fun x=>?_⟩;rw [zH,← hz];have h2:=hpw x;rw [Jq hw] at h2;have h3:(D:Rat)*(D:Rat)⁻¹=1:=aii _ hD';have:W x=((bF w k:Nat):Rat)*pf (uK w k) k x*(D:Rat)⁻¹:=by rw [h2];grind
    rw [this];grind
def Ci(c:Nat→Int)(x:Int)(n:Nat):Nat→Int
 | 0=>0
 | s+1=>Ci c x n s*x+c (n-s)
theorem Nq{c:Nat→Int}{x:Int}{n:Nat}(hz:∀ i,n+1≤i→c i=0)(j:Nat):c j=nY (aY (fun i=>Ci c x n (n-i)) (wW (-x) 1)) (iM (Ci c x n (n+1))) j:=by
 unfold nY;rw [Pj];unfold iM
 by_cases h0:j=0
 ·subst h0
  rw [if_pos rfl,if_pos rfl];show c 0=Ci c x n n* -x+0+(Ci c x n n*x+c (n-n))
  rw [Nat.sub_self,Int.mul_neg];omega
 ·rw [if_neg h0,if_neg h0]
  show c j=Ci c x n (n-j)* -x+Ci c x n (n-(j-1))*1+0
  by_cases h1:j≤n
  ·rw [show n-(j-1)=(n-j)+1 from by omega]
   show c j=Ci c x n (n-j)* -x+(Ci c x n (n-j)*x+c (n-(n-j)))*1+0
   rw [show n-(n-j)=j from by omega,Int.mul_neg];omega
  ·rw [hz j (by omega),show n-j=0 from by omega,show n-(j-1)=0 from by omega]
   show (0:Int)=0* -x+0*1+0
   omega
theorem ah1{x:Int}(q:Rat):pf (wW (-x) 1) 2 q=q-(x:Rat):=by
 show 0+rc (wW (-x) 1) 0*q^0+rc (wW (-x) 1) 1*q^1=_
 rw [Rat.pow_zero,show q^1=q from by rw [show (1:Nat)=0+1 from rfl,Rat.pow_succ,Rat.pow_zero];grind];show 0+((-x:Int):Rat)*1+((1:Int):Rat)*q=_
 rw [Rat.intCast_neg];grind
theorem ahX{a b:Nat→Int}{n:Nat}(x:Rat):pf (nY a b) n x=pf a n x+pf b n x:=by
 show pe _ x n=_
 rw [mP (a:=rc (nY a b)) (b:=mJ (rc a) (rc b)) fun i _=>Rat.intCast_add _ _];exact zF n
theorem akZ{c:Nat→Int}{x:Int}{n:Nat}(hz:∀ i,n+1≤i→c i=0)(q:Rat):pf c (n+1) q=pf (fun i=>Ci c x n (n-i)) n q*(q-(x:Rat))+(Ci c x n (n+1):Rat):=by
 have hq:∀ i,n≤i→(fun i=>Ci c x n (n-i)) i=0:=fun i hi=>by show Ci c x n (n-i)=0;rw [show n-i=0 from by omega];rfl
 rw [show c=nY (aY (fun i=>Ci c x n (n-i)) (wW (-x) 1)) (iM (Ci c x n (n+1))) from funext (Nq hz)];rw [← show c=nY (aY (fun i=>Ci c x n (n-i)) (wW (-x) 1)) (iM (Ci c x n (n+1))) from funext (Nq hz)];have e:pf c (n+1) q=pf (nY (aY (fun i=>Ci c x n (n-i)) (wW (-x) 1)) (iM (Ci c x n (n+1)))) (n+2) q:=by
  rw [← show c=nY (aY (fun i=>Ci c x n (n-i)) (wW (-x) 1)) (iM (Ci c x n (n+1))) from funext (Nq hz)];exact Bf hz fun i hi=>hz i (by omega)
 rw [e,ahX,rC hq Z9,ah1];congr 1;have:pf (iM (Ci c x n (n+1))) (n+2) q=pf (iM (Ci c x n (n+1))) 1 q:=Bf (fun i hi=>xX i (by omega)) xX;rw [this,zG];rfl
theorem adf{a b:Int}(h:a≠b):(1:Rat)≤(a:Rat)-(b:Rat)∨(a:Rat)-(b:Rat)≤-1:=by
 rcases Int.lt_or_gt_of_ne h with h1 | h1
 ·right
  have:(a:Rat)+1≤(b:Rat):=by exact_mod_cast h1
  grind
 ·left
  have:(b:Rat)+1≤(a:Rat):=by exact_mod_cast h1
  grind
theorem Yd{y d v M:Rat}(h:y*d=v)(hv:Ab v M)(hd:1≤d∨d≤-1):Ab y M:=by
 have hM:=hv.nn;unfold Ab at *
 obtain ⟨v1,v2⟩:=hv;rcases hd with hd | hd
 ·constructor
  ·rcases Rat.le_total (a:=0) (b:=y) with h0 | h0
   ·grind
   ·have: -y*1≤-y*d:=abK hd (by grind)
    grind
  ·rcases Rat.le_total (a:=0) (b:=y) with h0 | h0
   ·have:y*1≤y*d:=abK hd h0
    grind
   ·grind
 ·have hd':1≤-d:=by grind
  constructor
  ·rcases Rat.le_total (a:=0) (b:=y) with h0 | h0
   ·grind
   ·have: -y*1≤-y* -d:=abK hd' (by grind)
    grind
  ·rcases Rat.le_total (a:=0) (b:=y) with h0 | h0
   ·have:y*1≤y* -d:=abK hd' h0
    grind
   ·grind
def bet(R:Rat):Nat→Rat
 | 0=>0
 | n+1=>1+2*(1+R)*bet R n
theorem Yk{R:Rat}(hR:0≤R):∀ n,0≤bet R n
 | 0=>by show (0:Rat)≤0;grind
 | n+1=>by
  have:=acQ (a:=2*(1+R)) (by grind) (Yk hR n);show 0≤1+2*(1+R)*bet R n
  grind
/-- INTERPOLATION: coefficients out of values at whole places. -/
theorem Ns{R:Rat}(hR:0≤R):∀ (n:Nat) (c:Nat→Int) (xs:Nat→Int) (M:Rat),(∀ i,n≤i→c i=0)→(∀ i j,i < j→j < n→xs i≠xs j)→(∀ i,i < n→Ab (xs i:Rat) R)→(∀ i,i < n→Ab (pf c n (xs i:Rat)) M)→0≤M→∀ i,Ab (c i:Rat) (M*bet R n)
 | 0,c,xs,M,hz,_,_,_,hM,i=>by rw [hz i (Nat.zero_le _)];exact jR (by show 0≤M*0;grind)
 | n+1,c,xs,M,hz,hd,hx,hv,hM,i=>by
  let q:Nat→Int:=fun i=>Ci c (xs n) n (n-i)
  have hqz:∀ i,n≤i→q i=0:=fun i hi=>by show Ci c (xs n) n (n-i)=0;rw [show n-i=0 from by omega];rfl
  have hpf:=akZ (x:=xs n) hz;have h0:(Ci c (xs n) n (n+1):Rat)=pf c (n+1) (xs n:Rat):=by have:=hpf (xs n:Rat);grind
  have hv0:=hv n (by omega);have ih:=Ns hR n q xs (2*M) hqz (fun i j h1 h2=>hd i j h1 (by omega)) (fun i hi=>hx i (by omega)) (fun i hi=>by
   have h1:=hpf (xs i:Rat);have h2:pf q n (xs i:Rat)*((xs i:Rat)-(xs n:Rat))=pf c (n+1) (xs i:Rat)-pf c (n+1) (xs n:Rat):=by rw [h1,h0];grind
   exact Yd h2 (((hv i (by omega)).sub hv0).mono (by grind)) (adf (hd i n hi (by omega)))) (by grind)
  have hbn:=Yk hR n;have hX:0≤M*bet R n:=acQ hM hbn;have hXR:0≤R*(M*bet R n):=acQ hR hX;have e:=Nq (x:=xs n) hz i;unfold nY at e;rw [Pj] at e;have hxn:=hx n (by omega);have h3:Ab ((q i:Rat)*(xs n:Rat)) (2*M*bet R n*R):=(ih i).mul hxn;show Ab (c i:Rat) (M*(1+2*(1+R)*bet R n))
  by_cases hi0:i=0
  ·subst hi0
   rw [if_pos rfl] at e;have e':(c 0:Rat)=pf c (n+1) (xs n:Rat)-(q 0:Rat)*(xs n:Rat):=by
    rw [← h0,e];show ((q 0* -(xs n)+0+iM (Ci c (xs n) n (n+1)) 0:Int):Rat)=_
    rw [show iM (Ci c (xs n) n (n+1)) 0=Ci c (xs n) n (n+1) from rfl,Rat.intCast_add,Rat.intCast_add,Rat.intCast_mul,Rat.intCast_neg];grind
   exact ((hv0.sub h3).eq e'.symm).mono (by grind)
  ·rw [if_neg hi0,show iM (Ci c (xs n) n (n+1)) i=0 from if_neg hi0] at e
   have e':(c i:Rat)=(q (i-1):Rat)-(q i:Rat)*(xs n:Rat):=by
    rw [e];show ((q i* -(xs n)+q (i-1)*1+0:Int):Rat)=_
    rw [Rat.intCast_add,Rat.intCast_add,Rat.intCast_mul,Rat.intCast_neg,Rat.intCast_mul];grind
   exact (((ih (i-1)).sub h3).eq e'.symm).mono (by grind)
/-- Whole values. -/
theorem BK(c:Nat→Int)(x:Int):∀ n,∃ z:Int,pf c n (x:Rat)=(z:Rat)
 | 0=>⟨0,rfl⟩
 | n+1=>by
  obtain ⟨z,hz⟩:=BK c x n;refine ⟨z+c n*x^n,?_⟩;show pf c n (x:Rat)+(c n:Rat)*(x:Rat)^n=_
  rw [hz,Rat.intCast_add,Rat.intCast_mul,CW]
/-- Of two whole factors each is at most the product, if that is not 0. -/
theorem KG{a b w:Int}{M:Rat}(h:a=w*b)(ha:a≠0)(hM:Ab (a:Rat) M):Ab (b:Rat) M:=by
 have hw:w≠0:=fun e=>ha (by rw [h,e];omega)
 have h1:(b:Rat)*(w:Rat)=(a:Rat):=by rw [h,Rat.intCast_mul];grind
 refine Yd h1 hM ?_;rcases Int.lt_or_gt_of_ne hw with h2 | h2
 ·right
  have:w≤-1:=by omega
  have h3:(w:Rat)≤((-1:Int):Rat):=by exact_mod_cast this
  rwa [Rat.intCast_neg] at h3
 ·left
  have:1≤w:=by omega
  exact_mod_cast this
/-- Far out it is not 0. -/
theorem ah0{a:Nat→Int}{n:Nat}{H x:Int}(h:IP n a)(hn:n≠0)(hH:∀ i,((a i).natAbs:Int)≤H)(hx:H < x):pf a n (x:Rat)≠0:=by
 have h1:=Nh (c:=a) (x:=x) (top:=n) (fun i _=>by have:=hH i;omega) (h.l hn) (n-1) (by omega);rw [Nat.sub_add_cancel (by omega)] at h1;have h2:=Uf (a:=a) (x:=x) (top:=n) n;rw [aaU] at h2;intro e;have e':((Cm a x 1 n n:Int):Rat)=0:=h2.trans e;have e2:Cm a x 1 n n=0:=by exact_mod_cast e'
 rw [e2] at h1;have hx1:x9 x=1:=rF (by have:=hH 0;omega);rw [hx1,Int.one_pow,Int.mul_one] at h1;exact Fz.2 (h.l hn) h1.symm
theorem aia{B:Rat}:B^1=B:=by rw [show (1:Nat)=0+1 from rfl,Rat.pow_succ,Rat.pow_zero];grind
theorem Jm{c:Nat→Rat}{x H B:Rat}(hB:1≤B)(hx:Ab x B)(hH:0≤H):∀ n,(∀ i,i < n→Ab (c i) H)→Ab (pe c x n) ((n:Rat)*(H*B^n))
 | 0,_=>jR (by show (0:Rat)≤((0:Nat):Rat)*_;rw [show ((0:Nat):Rat)=0 from rfl];grind)
 | n+1,h=>by
  have h1:=Jm hB hx hH n fun i hi=>h i (by omega)
  have h2:=(h n (by omega)).mul (LG hB hx n);have h3:=N8 hB n;have h4:=abK h3 hH;have h5:=abK h4 (iT n);have h6:=mM n;show Ab (pe c x n+c n*x^n) _
  refine (h1.add h2).mono ?_;rw [h6];grind
theorem Jh(a b:Rat):∀ n:Nat,(a*b)^n=a^n*b^n
 | 0=>by rw [Rat.pow_zero,Rat.pow_zero,Rat.pow_zero];grind
 | n+1=>by rw [Rat.pow_succ,Rat.pow_succ,Rat.pow_succ,Jh a b n];grind
theorem Sz{R:Rat}(hR:1≤R):∀ n,bet R n≤(5*R)^n
 | 0=>by show (0:Rat)≤(5*R)^0;rw [Rat.pow_zero];grind
 | n+1=>by
  have ih:=Sz hR n;have h1:1≤(5*R)^n:=jW (by grind) n;have h2:=abK ih (c:=2*(1+R)) (by grind);have h3:(1:Rat)*(5*R)^n≤R*(5*R)^n:=abS hR (by grind);show 1+2*(1+R)*bet R n≤(5*R)^(n+1)
  rw [Rat.pow_succ];grind
/-- A DIVISOR's COEFFICIENTS. -/
theorem PG{a b w:Nat→Int}{n m k:Nat}{H:Int}(ha:IP n a)(hn:n≠0)(hb:∀ i,m≤i→b i=0)(hw:∀ i,k≤i→w i=0)(h:∀ i,aY w b i=a i)(hH:∀ i,((a i).natAbs:Int)≤H)(hH1:1≤H)(hmH:(m:Int)≤H)(i:Nat):
  Ab (b i:Rat) ((n:Rat)*((H:Rat)*(2*(H:Rat))^n)*(10*(H:Rat))^m):=by
 have hHq:(1:Rat)≤(H:Rat):=by exact_mod_cast hH1
 have hR0:(0:Rat)≤2*(H:Rat):=by grind
 have hval:∀ x,pf a n x=pf w k x*pf b m x:=fun x=>by
  rw [← rC hw hb,show aY w b=a from funext h];exact Bf ha.z fun i hi=>by rw [← h i];exact gu hw hb i hi
 have hx:∀ i,i < m→Ab (((H+1+(i:Int)):Int):Rat) (2*(H:Rat)):=fun i hi=>by
  have h1:H+1+(i:Int)≤2*H:=by omega
  have h2:((H+1+(i:Int):Int):Rat)≤((2*H:Int):Rat):=by exact_mod_cast h1
  have h3:(0:Int)≤H+1+(i:Int):=by omega
  have h4:(0:Rat)≤((H+1+(i:Int):Int):Rat):=by exact_mod_cast h3
  rw [Rat.intCast_mul] at h2;unfold Ab;constructor
  ·grind
  ·exact h2
 have hM:∀ i,i < m→Ab (pf b m (((H+1+(i:Int)):Int):Rat)) ((n:Rat)*((H:Rat)*(2*(H:Rat))^n)):=fun i hi=>by
  obtain ⟨za,hza⟩:=BK a (H+1+(i:Int)) n;obtain ⟨zb,hzb⟩:=BK b (H+1+(i:Int)) m;obtain ⟨zw,hzw⟩:=BK w (H+1+(i:Int)) k;have hne:=ah0 ha hn hH (x:=H+1+(i:Int)) (by omega);have h1:=hval (((H+1+(i:Int)):Int):Rat);have hA:Ab (pf a n (((H+1+(i:Int)):Int):Rat)) ((n:Rat)*((H:Rat)*(2*(H:Rat))^n)):=Jm (by grind) (hx i hi) (by grind) n fun j _=>by
   have h2:=hH j;have h3: -H≤a j∧a j≤H:=by omega
   unfold Ab rc;constructor
   ·have:((-H:Int):Rat)≤(a j:Rat):=by exact_mod_cast h3.1
    rw [Rat.intCast_neg] at this;exact this
   ·exact_mod_cast h3.2
  rw [hza] at h1 hne hA;rw [hzb,hzw,← Rat.intCast_mul] at h1;rw [hzb];exact KG (by exact_mod_cast h1) (fun e=>hne (by rw [e];rfl)) hA
 have hM0:0≤(n:Rat)*((H:Rat)*(2*(H:Rat))^n):=acQ (iT n) (acQ (by grind) (by have:=jW (B:=2*(H:Rat)) (by grind) n;grind));have key:=Ns hR0 m b (fun i=>H+1+(i:Int)) _ hb (fun i j h1 _=>by show H+1+(i:Int)≠H+1+(j:Int);omega) hx hM hM0 i;refine key.mono (abK ?_ hM0);have:=Sz (R:=2*(H:Rat)) (by grind) m;rwa [show 5*(2*(H:Rat))=10*(H:Rat) from by grind] at this
/-- All coefficients are below B^K. -/
def Lb(K:Nat)(c:Nat→Int):Prop:=∀ i,(c i).natAbs < bT^K
theorem Lb.mono{K L:Nat}{c:Nat→Int}(h:Lb K c)(k:K≤L):Lb L c:=fun i=>acC (h i) (ab1 (by decide) k)
theorem ajP{a b w:Nat→Int}{n m k K:Nat}(ha:IP n a)(hn:n≠0)(hb:∀ i,m≤i→b i=0)(hw:∀ i,k≤i→w i=0)(h:∀ i,aY w b i=a i)(hK:Lb K a)(hK1:1≤K)(akQ:n≤10)(anX:m≤10):Lb (21*K+3) b:=by
 intro i;have hB:1≤bT^K:=Nat.one_le_pow _ _ (by decide);have hB2:bT≤bT^K:=by
  have:=ab1 (n:=bT) (by decide) hK1;rwa [Nat.pow_one] at this
 have hBm:10≤bT:=by decide
 have key:=PG (H:=((bT^K:Nat):Int)) ha hn hb hw h (fun j=>by have:=hK j;omega) (by omega) (by omega) i;have hBq:(1:Rat)≤(((bT^K:Nat):Int):Rat):=by exact_mod_cast hB
 generalize hBB:(((bT^K:Nat):Int):Rat)=B at key hBq;have h1:(2*B)^n≤(2*B)^10:=zK (by grind) akQ;have h2:(10*B)^m≤(10*B)^10:=zK (by grind) anX;have h3:(n:Rat)≤10:=by exact_mod_cast akQ
 have p1:(0:Rat)≤(2*B)^n:=by have:=jW (B:=2*B) (by grind) n;grind
 have p2:(0:Rat)≤(10*B)^m:=by have:=jW (B:=10*B) (by grind) m;grind
 have p3:(0:Rat)≤(2*B)^10:=by have:=jW (B:=2*B) (by grind) 10;grind
 have h4:B*(2*B)^n≤B*(2*B)^10:=abK h1 (by grind);have h5:(n:Rat)*(B*(2*B)^n)≤10*(B*(2*B)^10):=by
  have a1:=abK h4 (iT n);have a2:=abS h3 (c:=B*(2*B)^10) (acQ (by grind) p3);grind
 have h6:(n:Rat)*(B*(2*B)^n)*(10*B)^m≤10*(B*(2*B)^10)*(10*B)^10:=by
  have a1:=abS h5 p2;have a2:=abK h2 (c:=10*(B*(2*B)^10)) (acQ (by grind) (acQ (by grind) p3));grind
 have h7:Ab (b i:Rat) (10*(B*(2*B)^10)*(10*B)^10):=key.mono h6;have h9:10*(B*(2*B)^10)*(10*B)^10=(((10*(2^10*10^10)*(bT^K)^21:Nat):Int):Rat):=by
  rw [Int.natCast_mul,Rat.intCast_mul];have hp:((((bT^K)^21:Nat):Int):Rat)=B^21:=by
   rw [← hBB,← CW,Int.natCast_pow]
  rw [hp];rw [Jh,Jh];have e21:B^21=B*B^10*B^10:=by rw [show (21:Nat)=1+10+10 from rfl,D8,D8,aia]
  rw [e21];have e2:(2:Rat)^10=1024:=by decide
  have e10:(10:Rat)^10=10000000000:=by decide
  have e0:(((10*(2^10*10^10):Nat):Int):Rat)=102400000000000:=by decide
  rw [e2,e10,e0];grind
 rw [h9] at h7;have h10:(b i).natAbs≤10*(2^10*10^10)*(bT^K)^21:=by
  obtain ⟨u1,u2⟩:=h7;have u3:b i≤((10*(2^10*10^10)*(bT^K)^21:Nat):Int):=by exact_mod_cast u2
  have u4: -((10*(2^10*10^10)*(bT^K)^21:Nat):Int)≤b i:=by
   rw [← Rat.intCast_neg] at u1;exact_mod_cast u1
  omega
 refine aeV h10 ?_;rw [← Nat.pow_mul,Nat.pow_add,Nat.mul_comm K 21,Nat.mul_comm];exact Nat.mul_lt_mul_of_pos_left (by decide) (aeA (by decide))
theorem aaf{K m:Nat}{B:BS}{w:World}{v:Value}(h:dY B w (ln K m) v):m < bT^K:=by
 obtain ⟨a,n,c,rfl,hr,hK,_⟩:=qR h;have:=AZ hr hK;rwa [aac] at this
theorem YX{K m:Nat}{B:BS}{w:World}{v:Value}(h:dY B w (dn K m) v):m < B4^K:=by
 obtain ⟨a,n,c,rfl,hr,hK,_⟩:=vW h;exact FT hr hK
theorem Jd{K L m:Nat}(hm:m < bT^L):∀ B w v,dY B w (ln K m) v→dY B w (ln L m) v:=by
 rintro B w v ⟨⟨a,n,c,h1,h2,h3,h4⟩,h5⟩;exact ⟨⟨a,n,c,h1,h2,Vh h2 hm,h4⟩,h5⟩
theorem yN{K L m:Nat}(hm:m < B4^L):∀ B w v,dY B w (dn K m) v→dY B w (dn L m) v:=by
 rintro B w v ⟨⟨a,n,c,h1,h2,h3,h4⟩,h5⟩;exact ⟨⟨a,n,c,h1,h2,by have:=rX hm;rw [h2.len] at this;exact this,h4⟩,h5⟩
theorem aaZ{K L:Nat}{z:Int}(hz:z.natAbs < B4^L):∀ B w cs,ig B w (rn K z) cs→ig B w (rn L z) cs
 | B,w,[a,b],⟨h1,h2,h3⟩=>⟨yN hz _ _ _ h1,h2,h3⟩
theorem BO{K L n:Nat}{c:Nat→Int}(h:∀ i,i < n→(c i).natAbs < bT^L):∀ B w v,dY B w (iC K n c) v→dY B w (iC L n c) v:=
 nN fun i hi j hj B w v hv=>by
  match j,hj with
  | 0,_=>exact hv
  | 1,_=>exact Jd (h i hi) _ _ _ hv
theorem Ld{K L n:Nat}{c:Nat→Int}(h:Lb L c):AV.le (.d (.one (iC K n c))) (.d (.one (iC L n c))):=gq (BO fun i _=>h i)
theorem Vy{K n:Nat}{c:Nat→Int}(hz:∀ i,n≤i→c i=0){B:BS}{w:World}{v:Value}(h:dY B w (iC K n c) v):Lb K c:=by
 intro i
 by_cases hi:i < n
 ·obtain ⟨a,cap,rfl,_,_,hj⟩:=h
  obtain ⟨b,off,rfl,_,_,hc⟩:=hj i hi;obtain ⟨x,_,hx⟩:=hc 1 (by omega);exact aaf (m:=(c i).natAbs) hx
 ·rw [hz i (by omega)];exact aeA (by decide)
theorem Tj{l:Lf}{K n:Nat}{c:Nat→Int}(hl:qI l K n c){B:BS}{w:World}{v:Value}(h:dY B w l v):Lb K c:=by
 obtain ⟨⟨f,h1,h2⟩,hz⟩:=hl;intro i
 by_cases hi:i < n
 ·obtain ⟨a,cap,rfl,_,_,hj⟩:=h1 _ _ _ h
  obtain ⟨b,off,rfl,_,_,hc⟩:=hj i hi;obtain ⟨x,_,hx⟩:=hc 1 (by omega);obtain ⟨a,n',c',rfl,hr,hK,_⟩:=qR (xs:=(f i).2) hx;rw [← h2 i hi];show (zv (f i).1 (val (f i).2)).natAbs < _
  rw [tV];exact AZ hr hK
 ·rw [hz i (by omega)];exact aeA (by decide)
/-- All below B4^K (whole numbers as the plain reckoning has them). -/
def Db(K:Nat)(c:Nat→Int):Prop:=∀ i,(c i).natAbs < B4^K
theorem Db.mono{K L:Nat}{c:Nat→Int}(h:Db K c)(k:K≤L):Db L c:=fun i=>acC (h i) (ab1 (by decide) k)
theorem Sj(K:Nat):bT^K≤B4^(3*K):=by
 rw [Nat.pow_mul];exact afb (by decide) K
theorem Sl(K:Nat):B4^(2*K)≤bT^K:=by
 rw [Nat.pow_mul];exact afb (by decide) K
theorem Lb.db{K:Nat}{c:Nat→Int}(h:Lb K c):Db (3*K) c:=fun i=>acC (h i) (Sj K)
theorem Db.lb{K:Nat}{c:Nat→Int}(h:Db (2*K) c):Lb K c:=fun i=>acC (h i) (Sl K)
theorem ny{K n:Nat}{c:Nat→Int}(hz:∀ i,n≤i→c i=0){B:BS}{w:World}{v:Value}(h:dY B w (dM K n (rc c)) v):Db K c:=by
 intro i
 by_cases hi:i < n
 ·obtain ⟨a,cap,rfl,_,_,hj⟩:=h
  obtain ⟨b,off,rfl,_,_,hc⟩:=hj i hi;obtain ⟨x,_,hx⟩:=hc 0 (by omega);have:=YX (m:=(rc c i).num.natAbs) hx;exact this
 ·rw [hz i (by omega)];exact aeA (by decide)
theorem xZ{K L n:Nat}{c:Nat→Int}(hL:1≤L)(h:∀ i,i < n→(c i).natAbs < B4^L):∀ B w v,dY B w (dM K n (rc c)) v→dY B w (dM L n (rc c)) v:=
 nN fun i hi j hj B w v hv=>by
  match j,hj with
  | 0,_=>exact yN (h i hi) _ _ _ hv
  | 1,_=>exact hv
  | 2,_=>exact yN (m:=((rc c i).den:Int).natAbs) (show 1 < B4^L from acC (by decide) (ab1 (by decide) hL)) _ _ _ hv
  | 3,_=>exact hv
theorem jc{K L n:Nat}{c:Nat→Int}(hL:1≤L)(h:Db L c):AV.le (.d (.one (dM K n (rc c)))) (.d (.one (dM L n (rc c)))):=gq (xZ hL fun i _=>h i)
/-- Rationals. -/
def Tb(K:Nat)(q:Rat):Prop:=q.num.natAbs < bT^K∧q.den < bT^K
def Qb(K:Nat)(q:Rat):Prop:=q.num.natAbs < B4^K∧q.den < B4^K
theorem wQ{K L:Nat}{q:Rat}(h:Tb L q):∀ B w cs,ig B w (tn K q) cs→ig B w (tn L q) cs
 | B,w,[a,b,c,d],⟨h1,h2,h3,h4,h5⟩=>⟨h1,Jd h.1 _ _ _ h2,h3,Jd (m:=(q.den:Int).natAbs) h.2 _ _ _ h4,h5⟩
theorem fF{K L:Nat}{q:Rat}(h:Qb L q):∀ B w cs,ig B w (qn K q) cs→ig B w (qn L q) cs
 | B,w,[a,b,c,d],⟨h1,h2,h3,h4,h5⟩=>⟨yN h.1 _ _ _ h1,h2,yN (m:=(q.den:Int).natAbs) h.2 _ _ _ h3,h4,h5⟩
theorem OB{K:Nat}{q:Rat}{B:BS}{w:World}{cs:List Value}(h:ig B w (tn K q) cs):Tb K q:=by
 match cs,h with
 | [x,y,u,v],⟨_,h2,_,h4,_⟩=>exact ⟨aaf h2,aaf (m:=(q.den:Int).natAbs) h4⟩
theorem Oi{K:Nat}{q:Rat}{B:BS}{w:World}{cs:List Value}(h:ig B w (qn K q) cs):Qb K q:=by
 match cs,h with
 | [x,y,u,v],⟨h1,_,h3,_⟩=>exact ⟨YX h1,YX (m:=(q.den:Int).natAbs) h3⟩
section
variable {P:Program} {ops:Array Oper} {Q:Qs} {l:List Oper} {s:AS}
theorem AW.fact{p:Prop}{c:Code}(h:∀ B0 w0 a w,Kv s B0 w0 a w→p)(k:p→AW P c Q s):AW P c Q s:=fun B0 w0 a w hd=>k (h B0 w0 a w hd) B0 w0 a w hd
theorem Y8{K n:Nat}{c:Nat→Int}(t:Nat)(h:lk s.sl t=some (.d (.one (iC K n c))))(hz:∀ i,n≤i→c i=0):∀ B0 w0 a w,Kv s B0 w0 a w→Lb K c:=by
 rintro B0 w0 a w ⟨ρ,hc,hn,hdf,hs⟩;obtain ⟨v,_,hl⟩:=hs t _ h;exact Vy hz hl
theorem ank{K:Nat}{q:Rat}(t:Nat)(h:lk s.sl t=some (.d (.agg (qn K q)))):∀ B0 w0 a w,Kv s B0 w0 a w→Qb K q:=by
 rintro B0 w0 a w ⟨ρ,hc,hn,hdf,hs⟩;obtain ⟨v,_,cs,_,hl⟩:=hs t _ h;exact Oi hl
end
/-- Bounds of what is reckoned. -/
theorem ZV{K L:Nat}{x y:Int}(hx:x.natAbs < bT^K)(hy:y.natAbs < bT^L):(x*y).natAbs < bT^(K+L):=by
 rw [Int.natAbs_mul,Nat.pow_add];exact Nat.mul_lt_mul_of_lt_of_le hx (adC hy) (aeV (abR _) hy)
theorem Lb.sub{K:Nat}{a b:Nat→Int}(h:Lb K a)(k:Lb K b):Lb (K+1) (pI a b):=fun i=>by
 have h1:=h i;have h2:=k i;unfold pI;rw [Nat.pow_succ];have:bT^K*2≤bT^K*bT:=ac4 _ (by decide);omega
theorem Lb.add{K:Nat}{a b:Nat→Int}(h:Lb K a)(k:Lb K b):Lb (K+1) (nY a b):=fun i=>by
 have h1:=h i;have h2:=k i;unfold nY;rw [Nat.pow_succ];have:bT^K*2≤bT^K*bT:=ac4 _ (by decide);omega
theorem Lb.neg{K:Nat}{a:Nat→Int}(h:Lb K a):Lb K (iE a):=fun i=>by have:=h i;unfold iE;omega
theorem Lb.yG{K L:Nat}{a:Nat→Int}{y:Int}(h:Lb K a)(hy:y.natAbs < bT^L):Lb (K+L) (iW a y):=fun i=>ZV (h i) hy
theorem Lb.su{K:Nat}{a:Nat→Int}{g:Int}(h:Lb K a):Lb K (su a g):=fun i=>aeV (by unfold Go.Proofs.YtapmpcgekdplfaaGreat.su;exact aiX _ _) (h i)
/-- x t^i as a row. -/
def nJ(x:Int)(i:Nat):Nat→Int:=fun j=>if j=i then x else 0
theorem uH{x:Int}{i:Nat}:∀ j,i+1≤j→nJ x i j=0:=fun j hj=>if_neg (by omega)
theorem YK{x:Int}{i j:Nat}{b:Nat→Int}:∀ m,cv (nJ x i) b m j=if i < m∧i≤j then x*b (j-i) else 0
 | 0=>by rw [if_neg (by omega)];rfl
 | m+1=>by
  show cv (nJ x i) b m j+(if m≤j then nJ x i m*b (j-m) else 0)=_
  rw [YK m];unfold nJ
  by_cases h1:m=i
  ·subst h1
   rw [if_neg (by omega),if_pos rfl]
   by_cases h2:m≤j
   ·rw [if_pos h2,if_pos ⟨by omega,h2⟩];omega
   ·rw [if_neg h2,if_neg (by omega)];rfl
  ·rw [if_neg h1]
   rw [show (if m≤j then (0:Int)*b (j-m) else 0)=0 from by split;exact Int.zero_mul _;rfl,Int.add_zero]
   by_cases h2:i < m∧i≤j
   ·rw [if_pos h2,if_pos (show i < m+1∧i≤j from ⟨by omega,h2.2⟩)]
   ·rw [if_neg h2,if_neg (show ¬ (i < m+1∧i≤j) from fun h3=>h2 ⟨by omega,h3.2⟩)]
theorem oD{x:Int}{i:Nat}{b:Nat→Int}(j:Nat):aY (nJ x i) b j=if i≤j then x*b (j-i) else 0:=by
 show cv _ _ _ _=_
 rw [YK]
 by_cases h:i≤j
 ·rw [if_pos ⟨by omega,h⟩,if_pos h]
 ·rw [if_neg (by omega),if_neg h]
theorem Lb.nJ{K L:Nat}{b:Nat→Int}{x:Int}{i:Nat}(h:Lb K b)(hx:x.natAbs < bT^L):Lb (L+K) (aY (nJ x i) b):=fun j=>by
 rw [oD];split
 ·exact ZV hx (h _)
 ·exact aeA (by decide)
theorem ah2{x:Int}{i:Nat}(q:Rat):pf (nJ x i) (i+1) q=(x:Rat)*q^i:=by
 show pe _ q i+rc (nJ x i) i*q^i=_
 rw [D7 fun j hj=>by unfold rc nJ;rw [if_neg (by omega)];rfl];unfold rc nJ;rw [if_pos rfl];grind
/-- No more than 20 places; how many there are; the function. -/
def bC(c:Nat→Int):Prop:=∀ i,20≤i→c i=0
def lg(c:Nat→Int):Nat:=dg c 20
def FF(c:Nat→Int):Fn:=pf c 20
theorem bC.of{c:Nat→Int}{n:Nat}(h:∀ i,n≤i→c i=0)(hn:n≤20):bC c:=fun i hi=>h i (by omega)
theorem lq{c:Nat→Int}{n:Nat}(h:∀ i,n≤i→c i=0)(z:bC c):dg c n=lg c:=PD h z
theorem dO(c:Nat→Int):lg c≤20:=rW c 20
theorem bC.lg{c:Nat→Int}(z:bC c):∀ i,lg c≤i→c i=0:=nX z
theorem bC.ip{c:Nat→Int}(z:bC c):IP (Go.Proofs.YtapmpcgekdplfaaGreat.lg c) c:=IP.of z
theorem yI{c:Nat→Int}{n:Nat}(h:∀ i,n≤i→c i=0)(z:bC c):pf c n=FF c:=aaH h z
theorem iO{c:Nat→Int}(z:bC c):pf c (lg c)=FF c:=yI z.lg z
theorem dh{c:Nat→Int}(z:bC c):Po (FF c):=aaI z
theorem jv{c:Nat→Int}(z:bC c){n:Nat}(h:∀ i,n≤i→c i=0):lg c≤n:=by rw [← lq h z];exact rW c n
theorem lu{c:Nat→Int}(h:lg c≠0):c (lg c-1)≠0:=KQ h
theorem iF{c:Nat→Int}(z:bC c):lg c=0↔∀ i,c i=0:=⟨fun h=>Il z h,fun h=>xJ h 20⟩
theorem oh{c:Nat→Int}(z:bC c):lg c=0↔∀ x,FF c x=0:=by
 constructor
 ·intro h x
  rw [← iO z,h];rfl
 ·intro h
  exact z.ip.zero fun x=>by rw [iO z];exact h x
theorem abI{c:Nat→Int}(z:bC c)(h:lg c≠0):∃ x,FF c x≠0:=by
 have:=z.ip.ne h;rwa [iO z] at this
theorem FI{c:Nat→Int}(z:bC c)(h:lg c≠0):Lc (lg c-1) (FF c) (c (lg c-1):Rat):=by
 have:=z.ip.lc h;rwa [iO z] at this
theorem H6{c d:Nat→Int}(z:bC c)(y:bC d)(h:∀ x,FF c x=FF d x):∀ i,c i=d i:=NV z y h
theorem aey{a b:Nat→Int}(h:bC a)(k:bC b):bC (pI a b):=fun i hi=>by unfold pI;rw [h i hi,k i hi];rfl
theorem aex{a b:Nat→Int}(h:bC a)(k:bC b):bC (nY a b):=fun i hi=>by unfold nY;rw [h i hi,k i hi];rfl
theorem OI{a:Nat→Int}{y:Int}(h:bC a):bC (iW a y):=fun i hi=>by unfold iW;rw [h i hi];simp
theorem Eo{a:Nat→Int}(h:bC a):bC (iE a):=fun i hi=>by unfold iE;rw [h i hi];rfl
theorem Au{a:Nat→Int}{g:Int}(h:bC a):bC (su a g):=AX h
theorem fA{a:Nat→Int}(h:bC a):bC (bP a):=fun i hi=>by unfold bP;rw [h (i+1) (by omega)];simp
theorem lY:bC (fun _=>0):=fun _ _=>rfl
theorem afT{a b:Nat→Int}(x:Rat):FF (pI a b) x=FF a x-FF b x:=ah4 x
theorem XE{a:Nat→Int}(y:Int)(x:Rat):FF (iW a y) x=FF a x*(y:Rat):=zH y x
theorem Rt{a:Nat→Int}(x:Rat):FF (iE a) x= - FF a x:=ah3 x
theorem qW{a b:Nat→Int}{n m:Nat}(ha:∀ i,n≤i→a i=0)(hb:∀ i,m≤i→b i=0)(hnm:n+m≤20)(za:bC a)(zb:bC b)(x:Rat):FF (aY a b) x=FF a x*FF b x:=by
 have h:=rC ha hb x;rw [aaH (gu ha hb) (fun i hi=>gu ha hb i (by omega):∀ i,20≤i→aY a b i=0),yI ha za,yI hb zb] at h;exact h
theorem qH{c:Nat→Int}(z:bC c):yh (FF c) (FF (bP c)):=by
 have h:=ahZ (c:=c) (n:=20);rwa [aaH (ER z:∀ i,20-1≤i→bP c i=0) (fA z)] at h
theorem XF{c:Nat→Int}(z:bC c)(x:Rat):FF c x=((bF c 20:Nat):Rat)*FF (uK c 20) x:=Jq z x
/-! ### A step of division -/
theorem aiu{r d:Nat→Int}{nb i:Nat}(hnb:nb≠0)(hd:∀ t,nb≤t→d t=0)(hr:∀ t,nb+i≤t→r t=0):∀ t,nb+i-1≤t→pI (iW r (d (nb-1))) (aY (nJ (r (nb-1+i)) i) d) t=0:=by
 intro t ht;show r t*d (nb-1)-aY (nJ (r (nb-1+i)) i) d t=0
 rw [oD,if_pos (by omega)]
 by_cases e:t=nb+i-1
 ·subst e
  rw [show nb+i-1-i=nb-1 by omega,show nb+i-1=nb-1+i by omega];omega
 ·rw [hr t (by omega),hd (t-i) (by omega)]
  simp
theorem aan{x:Int}{i:Nat}(h:i < 20):bC (nJ x i):=fun j hj=>uH j (by omega)
theorem afS{x:Int}{i:Nat}(h:i < 20)(q:Rat):FF (nJ x i) q=(x:Rat)*q^i:=by
 rw [← yI (n:=i+1) uH (aan h)];exact ah2 q
theorem abf{r d:Nat→Int}{nb i:Nat}{l x:Int}(hd:∀ t,nb≤t→d t=0)(zd:bC d)(h:i+1+nb≤20)(q:Rat):FF (pI (iW r l) (aY (nJ x i) d)) q=FF r q*(l:Rat)-((x:Rat)*q^i)*FF d q:=by
 rw [afT,XE,qW uH hd h (aan (by omega)) zd,afS (by omega)]
theorem Vx(x:Int)(i:Nat):Po (fun q=>(x:Rat)*q^i):=(bZ _).mul (aaO.pow i)
/-- What holds after so many steps (s), i of them left. -/
structure Xr(c d:Nat→Int)(nb:Nat)(K L:Nat)(s i:Nat)(r q:Nat→Int):Prop where
 z:∀ t,nb+i≤t+1→r t=0
 zr:bC r
 zq:bC q
 br:Lb (K+s*(L+1)) r
 bq:Lb (K+s*(L+1)) q
 eq:∃ Q,Po Q∧∀ x,((d (nb-1):Int):Rat)^s*FF c x=Q x*FF d x+FF r x
theorem Xr.start{c d:Nat→Int}{nb K L i:Nat}(zc:bC c)(hb:Lb K c)(h:∀ t,nb+i≤t+1→c t=0):Xr c d nb K L 0 i c (fun _=>0):=
 ⟨h,zc,lY,by rw [Nat.zero_mul,Nat.add_zero];exact hb,fun _=>aeA (by decide),⟨fun _=>0,bZ 0,fun x=>by rw [Rat.pow_zero];grind⟩⟩
theorem Xr.step{c d:Nat→Int}{nb K L s i:Nat}{r q:Nat→Int}(h:Xr c d nb K L s (i+1) r q)(hnb:nb≠0)(hd:∀ t,nb≤t→d t=0)(zd:bC d)(bd:Lb L d)(hi:i+1+nb≤20){x:Int}(hx:x=r (nb-1+i)):
  Xr c d nb K L (s+1) i (pI (iW r (d (nb-1))) (aY (nJ x i) d)) (nY (iW q (d (nb-1))) (nJ x i)):=by
 subst hx;have e1:K+(s+1)*(L+1)=K+s*(L+1)+L+1:=by rw [Nat.add_mul];omega
 have zcv:bC (aY (nJ (r (nb-1+i)) i) d):=fun t ht=>gu uH hd t (by omega)
 refine ⟨fun t ht=>aiu hnb hd (fun t ht=>h.z t (by omega)) t (by omega),aey (OI h.zr) zcv,aex (OI h.zq) (aan (by omega)),?_,?_,?_⟩
 ·rw [e1]
  refine Lb.sub (h.br.yG (bd _)) ?_;have:=Lb.nJ (i:=i) bd (h.br (nb-1+i));exact this
 ·rw [e1]
  refine Lb.add (h.bq.yG (bd _)) (fun j=>?_);unfold nJ;split
  ·exact acC (h.br _) (ab1 (by decide) (by omega))
  ·exact aeA (by decide)
 ·obtain ⟨Q,pQ,hQ⟩:=h.eq
  refine ⟨fun y=>Q y*((d (nb-1):Int):Rat)+((r (nb-1+i):Int):Rat)*y^i,(pQ.yG _).add (Vx _ _),fun y=>?_⟩;rw [abf hd zd hi,Rat.pow_succ];have:=hQ y;grind
/-! ### Remainders -/
structure CG(c d:Nat→Int)(M:Nat)(R:Nat→Int):Prop where
 z:bC R
 b:Lb M R
 lt:lg R < lg d
 eq:∃ (Q:Fn) (κ:Rat),Po Q∧0 < κ∧∀ x,FF c x=Q x*FF d x+κ*FF R x
theorem xY{l:Rat}(hl:l≠0):∀ s:Nat,(0 < l^s∧(s%2=0∨0 < l))∨(l^s < 0∧s%2=1∧l < 0)
 | 0=>by left;rw [Rat.pow_zero];exact ⟨by decide,Or.inl rfl⟩
 | s+1=>by
  rw [Rat.pow_succ];have hc:0 < l∨l < 0:=by grind
  rcases xY hl s with ⟨h1,h2⟩ | ⟨h1,h2,h3⟩
  ·rcases hc with hp | hn
   ·exact Or.inl ⟨ae5 h1 hp,Or.inr hp⟩
   ·rcases h2 with h2 | h2
    ·refine Or.inr ⟨?_,by omega,hn⟩
     have:=ae5 h1 (show (0:Rat) < -l by grind);grind
    ·exact absurd h2 (by grind)
  ·refine Or.inl ⟨?_,Or.inl (by omega)⟩
   have:=ae5 (show (0:Rat) < -(l^s) by grind) (show (0:Rat) < -l by grind);grind
/-- .. out of the steps, with the sign that it is to have. -/
theorem Oj{c d r:Nat→Int}{nb K L s M:Nat}{q:Nat→Int}(h:Xr c d nb K L s 0 r q)(zd:bC d)(hnb:lg d=nb)(hn0:nb≠0)(hM:K+s*(L+1)≤M){R:Nat→Int}(hR:(s%2=1∧d (nb-1) < 0∧∀ i,R i=uK (iE r) 20 i)∨(¬ (s%2=1∧d (nb-1) < 0)∧∀ i,R i=uK r 20 i)):
  CG c d M R:=by
 subst hnb;have hl:((d (lg d-1):Int):Rat)≠0:=sZ (lu hn0);have key:∀ (u:Nat→Int) (σ:Rat),bC u→Lb M u→(∀ t,lg d≤t+1→u t=0)→σ≠0→0 < σ*((d (lg d-1):Int):Rat)^s→(∀ x,FF r x=σ*FF u x)→σ*σ=1→(∀ i,R i=uK u 20 i)→CG c d M R:=by
  intro u σ zu bu hz hσ hpos hu hss hR;obtain rfl:R=uK u 20:=funext hR;have zs:bC (uK u 20):=Au zu;refine ⟨zs,bu.su,?_,?_⟩
  ·have:lg (uK u 20)≤lg d-1:=jv zs fun i hi=>AX (n:=lg d-1) (fun i hi=>hz i (by omega)) i hi
   omega
  ·obtain ⟨Q,pQ,hQ⟩:=h.eq
   obtain ⟨A,hA⟩:∃ A:Rat,A=((d (lg d-1):Int):Rat)^s:=⟨_,rfl⟩
   rw [← hA] at hpos;rw [← hA] at hQ;have hA0:A≠0:=by rintro rfl;grind
   by_cases hg:bF u 20=0
   ·have hz0:∀ x,FF u x=0:=fun x=>by rw [XF zu,hg];grind
    have hs0:∀ x,FF (uK u 20) x=0:=by
     have hall:∀ i,u i=0:=(iF zu).1 ((oh zu).2 hz0)
     exact (oh zs).1 ((iF zs).2 fun i=>by unfold uK su;rw [hall i];exact Int.zero_ediv _)
    refine ⟨fun x=>Q x*A⁻¹,1,pQ.yG _,by decide,fun x=>?_⟩;have h1:=hQ x;rw [hu,hz0] at h1;rw [hs0];grind
   ·refine ⟨fun x=>Q x*A⁻¹,σ*A⁻¹*((bF u 20:Nat):Rat),pQ.yG _,?_,fun x=>?_⟩
    ·have h1:(0:Rat) < ((bF u 20:Nat):Rat):=by exact_mod_cast afR hg
     refine ae5 ?_ h1;have h2:σ*A⁻¹=(σ*A)*(A⁻¹*A⁻¹):=by grind
     rw [h2];have h3:(0:Rat) < A⁻¹*A⁻¹:=by
      have h4:A⁻¹≠0:=by grind
      have h5:0 < A⁻¹∨A⁻¹ < 0:=by grind
      rcases h5 with h5 | h5
      ·exact ae5 h5 h5
      ·have:=ae5 (show (0:Rat) < -A⁻¹ by grind) (show (0:Rat) < -A⁻¹ by grind)
       grind
     exact ae5 hpos h3
    ·have h1:=hQ x
     rw [hu,XF zu] at h1;grind
 have hbM:Lb M r:=h.br.mono hM;have hz0:∀ t,lg d≤t+1→r t=0:=fun t ht=>h.z t (by omega)
 rcases hR with ⟨h1,h2,h3⟩ | ⟨h1,h3⟩
 ·have hl0:((d (lg d-1):Int):Rat) < 0:=by exact_mod_cast h2
  refine key (iE r) (-1) (Eo h.zr) hbM.neg (fun t ht=>by unfold iE;rw [hz0 t ht];rfl) (by decide) ?_ (fun x=>by rw [Rt];grind) (by grind) h3;rcases xY hl s with ⟨_,h6 | h6⟩ | ⟨h5,_,_⟩
  ·omega
  ·grind
  ·grind
 ·refine key r 1 h.zr hbM hz0 (by decide) ?_ (fun x=>by grind) (by grind) h3
  rcases xY hl s with ⟨h5,_⟩ | ⟨_,h6,h7⟩
  ·grind
  ·exact absurd ⟨h6,by exact_mod_cast h7⟩ h1
theorem CG.idp{c d R:Nat→Int}{M:Nat}(h:CG c d M R):CB (FF c) (FF d) (FF d) (FF R):=by
 obtain ⟨Q,κ,pQ,hκ,e⟩:=h.eq;exact CB.step pQ (by grind) e
/-- A row written out, the frame's own. -/
def evR(T:TypeId→Option TI)(s:AS):Op→Option AO
 | .buildSlice t len parts=>match T t with
  | none=>none
  | some ti=>match ti.elem with
   | none=>none
   | some e=>match T e,AY s parts.toList with
    | some te,some ps=>if te.zero.length=te.n∧te.n≠0∧len*te.n≤16777216 then match wz (fun i=>some (i*te.n,te.n)) ((List.range (len*te.n)).map fun q=>Lf.v ((te.zero[q%te.n]?).getD undef)) ps with
     | some r=>some (.row e te.n len fun i j=>(r[i*te.n+j]?).getD (.v undef))
     | none=>none
     else none
    | _,_=>none
 | _=>none
theorem agR{P:Program}{T:TypeId→Option TI}(hT:zU P T){s:AS}{o:Oper}{ob:AO}{ρ:kL}{B0:BS}{w0:Wz}{w:World}{hp:List (Nat×AO)}{a:Act}(hsl:fD ρ (Bd ρ B0) w s.sl a)(hc:eY ρ B0 w0 w hp)(h:evR T s o.op=some ob):
  ∃ v w',(execOp a.eval o).run P w= .ok (.value v) w'∧Below w.heap.size w w'∧(∀ b,jd v=some b→w.heap.size≤b)∧∀ B',(∀ b,b < w.heap.size→B' b→Bd ρ B0 b)→OR B' w0 w' ob v:=by
 unfold evR at h;unfold execOp;split at h
 ·rename_i t len parts hop
  rw [hop];split at h
  ·cases h
  rename_i ti hti
  replace hti:=hT _ _ hti
  split at h
  ·cases h
  rename_i e he;split at h
  ·rename_i te ps hte hps
   replace hte:=hT _ _ hte
   split at h
   ·rename_i hcond
    obtain ⟨hzl,hn0,hsm⟩:=hcond;split at h
    ·rename_i r hr
     cases h
     obtain ⟨i,z,dd,h1,h2,h3,h4,h5,h6,h7,h8,h9,_⟩:=cZ hti;have:=h9 e he;subst this;obtain ⟨i',z',dd',k1,k2,k3,k4,k5,k6,k7,_,_,_,_,hall⟩:=cZ hte;have hz':z'.cells=te.zero.toArray:=by rw [← k5]
     obtain ⟨g1,g2⟩:=DC hsl parts.toList ps hps;have hpos:0 < te.n:=by omega
     have hbase:ig (Bd ρ B0) w ((List.range (len*te.n)).map fun q=>Lf.v ((te.zero[q%te.n]?).getD undef)) ((List.range (len*te.n)).map fun q=>(te.zero[q%te.n]?).getD undef):=by
      have:=ig.vs (B:=Bd ρ B0) (w:=w) (cs:=(List.range (len*te.n)).map fun q=>(te.zero[q%te.n]?).getD undef) (fun c hcm=>by
       obtain ⟨q,_,rfl⟩:=List.mem_map.1 hcm;rw [List.getElem?_eq_getElem (show q%te.n < te.zero.length by rw [hzl];exact Nat.mod_lt _ hpos)];exact hall _ (aiM _))
      rwa [List.map_map] at this
     obtain ⟨rs,PZ,hrs⟩:=Du (fun i=>some (i*te.n,te.n)) ps _ _ r _ hbase hr g1 g2;have hrl:∀ (ps:List (Nat×List Lf)) (l r:List Lf),wz (fun i=>some (i*te.n,te.n)) l ps=some r→r.length=l.length:=by
      intro ps
      induction ps with
      | nil=>intro l r h;simp only [wz,Option.some.injEq] at h;rw [h]
      | cons p ps ih=>
       intro l r h;simp only [wz] at h;split at h
       ·rename_i hcnd
        rw [ih _ _ h];simp [Ny];omega
       ·cases h
     have hlen:rs.length=len*te.n:=by rw [← hrs.len,hrl _ _ _ hr];simp
     have hm:(parts.map fun x:Nat×Operand=>match x with | (i,x)=>(i,a.eval x)).toList=parts.toList.map fun q:Nat×Operand=>(q.1,a.eval q.2):=by rw [Array.toList_map]
     have hgt:¬ len*i'.size > 2^24:=by rw [k4];omega
     have hrun:(Instr.buildSlice t len (parts.map fun x:Nat×Operand=>match x with | (i,x)=>(i,a.eval x))).run P w= .ok (.slice (some ⟨w.heap.size,0,none⟩) len len) (w.alloc (.cells rs.toArray e)):=by
      have hA:∀ zc:Array Value,(len*te.n=0∨zc=te.zero.toArray)→(Array.range (len*te.n)).map (fun q=>zc[q%zc.size]!)=((List.range (len*te.n)).map fun q=>(te.zero[q%te.n]?).getD undef).toArray:=by
       rintro zc (h0 | rfl)
       ·rw [h0];simp
       ·rw [← Array.toList_inj]
        simp only [Array.toList_map,Array.toList_range];refine List.map_congr_left (fun q _=>?_);have hq:q%te.n < te.zero.length:=by rw [hzl];exact adl _ hpos
        simp [hzl,getElem!_def,List.getElem?_eq_getElem hq]
      have hfin:∀ zc:Array Value,(len*te.n=0∨zc=te.zero.toArray)→(do
        let some cells := Instr.fill (fun i => some (i * te.n, te.n)) ((Array.range (len * te.n)).map (fun q => zc[q % zc.size]!)) (parts.map fun x : Nat × Operand => match x with | (i, x) => (i, a.eval x)).toList | stuck "buildSlice: a part of the wrong size"
        pure (.slice (some (← newRow e cells)) len len):Sem Value).run P w= .ok (.slice (some ⟨w.heap.size,0,none⟩) len len) (w.alloc (.cells rs.toArray e)):=by
       intro zc hz;rw [hA zc hz,hm,PZ];rfl
      unfold Instr.buildSlice;simp only [Sem.run_bind,run_underlying h3,Result.andThen_ok,sizeOf,typeInfo,run_program,k1,Sem.run_pure,k4];rw [if_neg (by omega)]
      by_cases hl0:len*te.n=0
      ·rw [if_pos hl0]
       simp only [Sem.run_pure,Result.andThen_ok,Sem.run_bind];exact hfin #[] (Or.inl hl0)
      ·rw [if_neg hl0]
       simp only [Sem.run_bind,zeroValue,typeInfo,run_program,Result.andThen_ok,k1,Sem.run_pure,k2,hz'];exact hfin _ (Or.inr rfl)
     have hlm:len≤maxLen:=by
      have:len*1≤len*te.n:=ac4 _ hpos;simp [maxLen];omega
     refine ⟨_,_,dJ hrun,nP _ _,fun b hb=>by cases hb;exact abJ _,fun B' hB=>⟨rs,⟨⟨hlen,Or.inr ⟨w.heap.size,len,rs.toArray,rfl,abR _,heap_alloc_new w _,abJ _,hlm,by simp [hlen],by simp [← hlen]⟩⟩,fun b hb=>by cases hb;exact Or.inl hc.bel.size⟩,fun p q hp hq=>?_⟩⟩;have hidx:p*te.n+q < len*te.n:=by
      have:(p+1)*te.n≤len*te.n:=abN _ (by omega);rw [Nat.add_mul,Nat.one_mul] at this;omega
     have hrlen:r.length=len*te.n:=by rw [hrs.len,hlen]
     obtain ⟨l,hl⟩:∃ l,r[p*te.n+q]?=some l:=⟨r[p*te.n+q],by simp [hrlen,hidx]⟩
     obtain ⟨cc,hcc,hlr⟩:=hrs.get hl;refine ⟨cc,hcc,?_⟩;show dY _ _ ((r[p*te.n+q]?).getD _) cc
     rw [hl];exact dY.mv (.of_below (nP _ _)) hB _ hlr
    ·cases h
   ·cases h
  ·cases h
 ·cases h
section
variable {P:Program} {ops:Array Oper} {Q:Qs} {o:Oper} {l:List Oper} {s:AS}
theorem mR{T:TypeId→Option TI}(hT:zU P T)(ob:AO)(h:evR T s o.op=some ob){d:Nat}(hdst:o.dst=some d)(hfr:lk s.hp d=none)(k:AL P ops Q l (s.mk' d ob))(hg:jC ops s o=some true:=by rfl)(hd:kG (some d) s.n=true:=by rfl):AL P ops Q (o ::l) s:=by
 rintro B0 w0 a w ⟨ρ,hc,hn,hdf,hs⟩;obtain ⟨v,w',hr,hb,hv,ho⟩:=agR hT hs hc h;have hρ:ρ d=none:=by
  cases hρ:ρ d with
  | none=>rfl
  | some u=>obtain ⟨ob',h1,_⟩:=hc.obj d u hρ;rw [hfr] at h1;cases h1
 have dX:=ho (Bd (up ρ d v) B0) (vk hρ hv);have hc':eY (up ρ d v) B0 w0 w' ((d,ob) ::s.hp):=hc.new hρ hb hv (fun k ob hk hne=>by rw [aV,if_neg (fun e=>hne e.symm)];exact hk) (by rw [aV,if_pos rfl]) dX;have fQ:fD (up ρ d v) (Bd (up ρ d v) B0) w' s.sl a:=fun t av ht=>let ⟨u,h1,h2⟩:=hs t av ht;⟨u,h1,h2.new hρ hb hv⟩
 refine lX (dZ hg hs) hr (k B0 w0 _ w' ?_);rw [hdst];exact ⟨_,hc',(by show (a.tmps.setIfInBounds d v).size=s.n;simpa using hn),hdf,nV fQ hn (ada hd) (AO.CV dX (by simp [up]))⟩
end
theorem EH{P:Program}{t t' ty e e':TypeId}{args:Array Value}{w:World}(h:P.underlying t=some (.slice e))(h':P.underlying t'=some (.slice e')):(Builtin.append_ #[t,t'] ty args).run P w=(Builtin.append_ #[t,t] ty args).run P w:=by
 unfold Builtin.append_;cases args[0]? with
 | none=>simp
 | some s=>cases args[1]? with
  | none=>simp
  | some x=>cases s <;> simp [Sem.run_bind,run_underlying h,run_underlying h']
theorem mA2{P:Program}{T:TypeId→Option TI}(hT:zU P T){ops:Array Oper}{Q:Qs}{o:Oper}{l:List Oper}{s:AS}{c:Call}{x y:Operand}{t t2 e e2:TypeId}{ti ti2 te:TI}{id n m d:Nat}{el el2:Nat→Nat→Lf} 
  (hx:dH s x=some (.own id)) (hob:lk s.hp id=some (.row e te.n n el)) (hy:QK s y te.n=some (m,el2)) (hbd:(n+m)*te.bytes≤140737488355328) (hmx:n+m≤9223372036854775807) (hc:iw o.op=some c) (uP:c.callee= .builtin .append) (hargs:c.args.toList= [x,y]) (hty:c.argTypes.toList= [t,t2]) (ZE:T t2=some ti2) (he2:ti2.elem=some e2) (hti:T t=some ti) (he:ti.elem=some e) (hte:T e=some te) (hz:Nat.beq te.zero.length te.n=true) (h0:Nat.ble 1 te.n=true)
  (hdst:o.dst=some d) (k:AL P ops Q l ⟨s.n,(d,.own id) ::WA id .dead (fun _=> .dead) s.sl,(id,.row e te.n (n+m) (eU n el el2)) ::s.hp⟩) (hg:jC ops s o=some true:=by rfl) (hd:kG (some d) s.n=true:=by rfl):AL P ops Q (o ::l) s:=by
 rintro B0 w0 a w ⟨ρ,hcr,hn,hdf,hs⟩;have hop:o.op= .call c:=by
  unfold iw at hc;split at hc
  ·rename_i h;cases hc;exact h
  ·cases hc
 obtain ⟨aS,ad,n',cap,hxe⟩:=bQ hs hx;obtain ⟨ob,o1,o2⟩:=hcr.obj id _ aS;rw [hob] at o1;cases o1
 obtain ⟨xs,hown,hel⟩:=o2;obtain ⟨ao,cc,news,hye,hnl,hnil,hmc,hsrc,IK⟩:=JD hs hy;obtain ⟨i,z,dd,h1,h2,h3,h4,h5,h6,h7,h8,h9,_⟩:=cZ (hT _ _ hti);have:=h9 e he;subst this;obtain ⟨i',z',dd',k1,k2,k3,k4,k5,k6,k7,_⟩:=cZ (hT _ _ hte);have hzl:te.zero.length=te.n:=abO hz;have hsz:0 < te.n:=ada h0;have hzs:z'.cells.size=te.n:=by rw [← hzl,← k5];simp
 have hone:∀ u∈news,u.oneCell'=true:=by
  intro u hu;obtain ⟨q,hq,rfl⟩:=List.mem_iff_getElem.1 hu;rw [hnl] at hq;have hdiv:q / te.n < m:=afX (by rw [Nat.mul_comm];exact hq);obtain ⟨u,hu1,hu2⟩:=IK (q / te.n) (q%te.n) hdiv (adl _ hsz);rw [Nat.mul_comm,Nat.div_add_mod] at hu1;obtain ⟨_,hu3⟩:=abU.1 hu1;rw [hu3];exact hu2.one
 obtain ⟨v',w',hr,hown',hgrow,hblk⟩:=qp (P:=P) (w:=w) 0 t o.type e i' z' te.n te.bytes h3 k1 k2 k4 k7 hzs hsz (a.eval x) n xs hown.1 ao m cc news hnl hnil hmc hsrc hone (by simp [maxLen];omega) hbd (abR _);obtain ⟨_,_,dd2,_,_,g3,_,_,_,_,_,g9,_⟩:=cZ (hT _ _ ZE);have:=g9 e2 he2;subst this;have hr:=(EH (ty:=o.type) (args:=#[a.eval x,.slice ao m cc]) (w:=w) h3 g3).trans hr;have hrun:(execOp a.eval o).run P w= .ok (.value v') w':=by
  have ha:c.args=#[x,y]:=by rw [← Array.toList_inj];exact hargs
  have ht:c.argTypes=#[t,t2]:=by rw [← Array.toList_inj];exact hty
  unfold execOp;rw [hop];simp [resolve,uP,invoke,builtin,ha,ht,hye,hr]
 have hvb:∀ b,(a.eval x).ownBlock=some b→jd (a.eval x)=some b:=by
  intro b hb;rw [hxe] at hb ⊢;cases ad with
  | none=>cases hb
  | some q=>exact hb
 have hb0:Below 0 w w':=(Below.refl _ _).grown hgrow (abR _) (fun k hk=>abR _);have hbel:JW w0 w':=hcr.bel.put hb0.os hb0.tape hb0.output hgrow.size (g:=fun b=>jd (a.eval x)=some b) (fun b e=>hown.2 b e) (fun b hb hne=>hgrow.block b hb (fun e=>hne (hvb b e.symm)));have IQ:∀ b,b < w.heap.size→jd (a.eval x)≠some b→w'.heap[b]?=w.heap[b]? :=fun b hb hne=>hgrow.block b hb (fun e=>hne (hvb b e.symm))
 have hK:ku (Bd ρ B0) w w':=⟨hgrow.size,fun b hb hB=>IQ b hb (fun e=>hB (Or.inr ⟨id,_,aS,e⟩))⟩;have hB':∀ b,b < w.heap.size→Bd (up ρ id v') B0 b→Bd ρ B0 b:=by
  rintro b hb (h | ⟨k,u,q1,q2⟩)
  ·exact Or.inl h
  ·unfold up at q1
   split at q1
   ·cases q1
    rcases hblk b q2 with q3 | q3
    ·exact Or.inr ⟨id,_,aS,q3⟩
    ·omega
   ·exact Or.inr ⟨k,u,q1,q2⟩
 have hW:=eY.write (v':=v') (ob':= .row e te.n (n+m) (eU n el el2)) (hp':=(id,.row e te.n (n+m) (eU n el el2)) ::s.hp) hcr aS (w':=w') IQ hgrow.size hbel hblk
  (fun k ob hk hne=>by rw [aV,if_neg (fun e=>hne e.symm)];exact hk) (by rw [aV,if_pos rfl])
  ⟨xs ++news,⟨hown',fun b hb=>(hblk b hb).elim (hown.2 b) (fun h=>Or.inl (acS hcr.bel.size h))⟩,fun p q hp hq=>by
   have hxl:=hown.1.1
   by_cases hpn:p < n
   ·obtain ⟨u,hu1,hu2⟩:=hel p q hpn hq
    have hidx:=(abU.1 hu1).1;refine ⟨u,by rw [List.getElem?_append_left hidx];exact hu1,?_⟩;have:eU n el el2 p q=el p q:=by
     unfold eU;rw [show Nat.ble (p+1) n=true from Nat.ble_eq_true_of_le hpn];rfl
    rw [this];exact dY.mv hK hB' _ hu2
   ·obtain ⟨u,hu1,hu2⟩:=IK (p-n) q (by omega) hq
    have hpm:p*te.n+q=n*te.n+((p-n)*te.n+q):=by
     rw [← Nat.add_assoc,← Nat.add_mul];congr 2;omega
    refine ⟨u,by rw [hpm,List.getElem?_append_right (by omega),hxl,Nat.add_sub_cancel_left];exact hu1,?_⟩;have:eU n el el2 p q=el2 (p-n) q:=by
     unfold eU;rw [show Nat.ble (p+1) n=false from by rw [← Bool.not_eq_true];exact fun h=>hpn (Nat.le_of_ble_eq_true h)];rfl
    rw [this];exact dY.mv hK hB' _ hu2⟩
 refine lX (dZ hg hs) hrun (k B0 w0 _ w' ⟨up ρ id v',hW.1,by rw [hdst];show (a.tmps.setIfInBounds d v').size=s.n;simpa using hn,by rw [hdst];exact hdf,?_⟩);rw [hdst];have hsl2:fD (up ρ id v') (Bd (up ρ id v') B0) w' (WA id .dead (fun _=> .dead) s.sl) a:=by
  intro u av hu;obtain ⟨kV,q1,rfl⟩:=xQ _ _ _ hu;obtain ⟨v,q2,q3⟩:=hs u kV q1;refine ⟨v,q2,?_⟩;have keep:(∀ k,kV.on k=true→k≠id)→AR (up ρ id v') (Bd (up ρ id v') B0) w' kV v:=fun hne=>AR.mv hK hB' (fun k hk=>by unfold up;rw [if_neg (hne k hk)]) q3
  cases kV with
  | own k=>
   show AR _ _ _ (bif Nat.beq k id then .dead else .own k) v
   cases e:Nat.beq k id with
   | true=>trivial
   | false=>exact keep (fun k' hk'=>by have:k=k':=abO hk';rintro rfl;rw [this,Nat.beq_refl] at e;cases e)
  | ptr k off=>
   show AR _ _ _ (bif Nat.beq k id then .dead else .ptr k off) v
   cases e:Nat.beq k id with
   | true=>trivial
   | false=>exact keep (fun k' hk'=>by have:k=k':=abO hk';rintro rfl;rw [this,Nat.beq_refl] at e;cases e)
  | dW k sz i j=>
   show AR _ _ _ (bif Nat.beq k id then .dead else .dW k sz i j) v
   cases e:Nat.beq k id with
   | true=>trivial
   | false=>exact keep (fun k' hk'=>by have:k=k':=abO hk';rintro rfl;rw [this,Nat.beq_refl] at e;cases e)
  | lim k j=>
   show AR _ _ _ (bif Nat.beq k id then .dead else .lim k j) v
   cases e:Nat.beq k id with
   | true=>trivial
   | false=>exact keep (fun k' hk'=>by have:k=k':=abO hk';rintro rfl;rw [this,Nat.beq_refl] at e;cases e)
  | qL k j=>
   show AR _ _ _ (bif Nat.beq k id then .dead else .qL k j) v
   cases e:Nat.beq k id with
   | true=>trivial
   | false=>exact keep (fun k' hk'=>by have:k=k':=abO hk';rintro rfl;rw [this,Nat.beq_refl] at e;cases e)
  | wit k=>
   show AR _ _ _ (bif Nat.beq k id then .dead else .wit k) v
   cases e:Nat.beq k id with
   | true=>trivial
   | false=>exact keep (fun k' hk'=>by have:k=k':=abO hk';rintro rfl;rw [this,Nat.beq_refl] at e;cases e)
  | d x=>exact keep (fun k hk=>by cases hk)
  | ji x=>exact keep (fun k hk=>by cases hk)
  | dead=>trivial
 refine nV hsl2 hn (ada hd) ⟨by simp [up],?_⟩;obtain ⟨_,⟨rfl,_⟩ | ⟨g,cap',cur,rfl,_⟩⟩:=hown'
 ·exact ⟨none,0,0,rfl⟩
 ·exact ⟨_,_,_,rfl⟩
theorem mA0{P:Program}{T:TypeId→Option TI}(hT:zU P T){ops:Array Oper}{Q:Qs}{o:Oper}{l:List Oper}{s:AS}{c:Call}{x y:Operand}{t t2 e e2:TypeId}{ti ti2 te:TI}{m d:Nat}{el2:Nat→Nat→Lf} 
  (hx:dH s x=some (.d (.one (.v (.slice none 0 0))))) (hc:iw o.op=some c) (uP:c.callee= .builtin .append) (hargs:c.args.toList= [x,y]) (hty:c.argTypes.toList= [t,t2]) (ZE:T t2=some ti2) (he2:ti2.elem=some e2) (hti:T t=some ti) (he:ti.elem=some e) (hte:T e=some te) (hz:Nat.beq te.zero.length te.n=true) (h0:Nat.ble 1 te.n=true) (hy:QK s y te.n=some (m,el2)) (hbd:m*te.bytes≤140737488355328) (hmx:m≤9223372036854775807)
  (hdst:o.dst=some d) (hfr:lk s.hp d=none) (k:AL P ops Q l (s.mk' d (.row e te.n m el2))) (hg:jC ops s o=some true:=by rfl) (hd:kG (some d) s.n=true:=by rfl):AL P ops Q (o ::l) s:=by
 rintro B0 w0 a w ⟨ρ,hcr,hn,hdf,hs⟩;have hop:o.op= .call c:=by
  unfold iw at hc;split at hc
  ·rename_i h;cases hc;exact h
  ·cases hc
 have hxe:a.eval x= .slice none 0 0:=(bQ hs hx).1;obtain ⟨ao,cc,news,hye,hnl,hnil,hmc,hsrc,IK⟩:=JD hs hy;obtain ⟨i,z,dd,h1,h2,h3,h4,h5,h6,h7,h8,h9,_⟩:=cZ (hT _ _ hti);have:=h9 e he;subst this;obtain ⟨i',z',dd',k1,k2,k3,k4,k5,k6,k7,_⟩:=cZ (hT _ _ hte);have hzl:te.zero.length=te.n:=abO hz;have hsz:0 < te.n:=ada h0;have hzs:z'.cells.size=te.n:=by rw [← hzl,← k5];simp
 have hone:∀ u∈news,u.oneCell'=true:=by
  intro u hu;obtain ⟨q,hq,rfl⟩:=List.mem_iff_getElem.1 hu;rw [hnl] at hq;have hdiv:q / te.n < m:=afX (by rw [Nat.mul_comm];exact hq);obtain ⟨u,hu1,hu2⟩:=IK (q / te.n) (q%te.n) hdiv (adl _ hsz);rw [Nat.mul_comm,Nat.div_add_mod] at hu1;obtain ⟨_,hu3⟩:=abU.1 hu1;rw [hu3];exact hu2.one
 have hown:w.ownsRow 0 e te.n (.slice none 0 0) 0 []:=⟨by simp,Or.inl ⟨rfl,rfl⟩⟩;obtain ⟨v',w',hr,hown',hgrow,hblk⟩:=qp (P:=P) (w:=w) 0 t o.type e i' z' te.n te.bytes h3 k1 k2 k4 k7 hzs hsz (.slice none 0 0) 0 [] hown ao m cc news hnl hnil hmc hsrc hone (by simp [maxLen];omega) (by rw [Nat.zero_add];exact hbd) (abR _);obtain ⟨_,_,dd2,_,_,g3,_,_,_,_,_,g9,_⟩:=cZ (hT _ _ ZE);have:=g9 e2 he2;subst this;have hr:=(EH (ty:=o.type) (args:=#[.slice none 0 0,.slice ao m cc]) (w:=w) h3 g3).trans hr;have hrun:(execOp a.eval o).run P w= .ok (.value v') w':=by
  have ha:c.args=#[x,y]:=by rw [← Array.toList_inj];exact hargs
  have ht:c.argTypes=#[t,t2]:=by rw [← Array.toList_inj];exact hty
  unfold execOp;rw [hop];simp [resolve,uP,invoke,builtin,ha,ht,hye,hxe,hr]
 have hb:Below w.heap.size w w':=(Below.refl _ _).grown hgrow (abJ _) (fun k hk=>by cases hk);have hv:∀ b,jd v'=some b→w.heap.size≤b:=fun b hb'=>by
  rcases hblk b hb' with q | q
  ·cases q
  ·exact q
 have hρ:ρ d=none:=by
  cases hρ:ρ d with
  | none=>rfl
  | some u=>obtain ⟨ob',h1,_⟩:=hcr.obj d u hρ;rw [hfr] at h1;cases h1
 rw [Nat.zero_add,List.nil_append] at hown';have dX:OR (Bd (up ρ d v') B0) w0 w' (.row e te.n m el2) v':=⟨news,⟨hown',fun b hb=>Or.inl (acS hcr.bel.size (hv b hb))⟩,fun p q hp hq=>by
  obtain ⟨u,hu1,hu2⟩:=IK p q hp hq;exact ⟨u,hu1,dY.mv (.of_below hb) (vk hρ hv) _ hu2⟩⟩
 have hc':eY (up ρ d v') B0 w0 w' ((d,.row e te.n m el2) ::s.hp):=hcr.new hρ hb hv (fun k ob hk hne=>by rw [aV,if_neg (fun e=>hne e.symm)];exact hk) (by rw [aV,if_pos rfl]) dX;have fQ:fD (up ρ d v') (Bd (up ρ d v') B0) w' s.sl a:=fun t av ht=>let ⟨u,h1,h2⟩:=hs t av ht;⟨u,h1,h2.new hρ hb hv⟩
 refine lX (dZ hg hs) hrun (k B0 w0 _ w' ?_);rw [hdst];exact ⟨_,hc',(by show (a.tmps.setIfInBounds d v').size=s.n;simpa using hn),hdf,nV fQ hn (ada hd) (AO.CV dX (by simp [up]))⟩
theorem Cc{z:Int}(h:(Lit.int .i64 z).wf=true): -9223372036854775808≤z∧z≤9223372036854775807:=by
 simp only [Lit.wf,Bool.and_eq_true,decide_eq_true_eq] at h;have h1:IntKind.i64.min= -9223372036854775808:=by decide
 have h2:IntKind.i64.max=9223372036854775807:=by decide
 omega
section
open Go.RowKit Go.ChangeShapes Go.WideShapes
section
variable {H:Type} {enc:TypeId×Value→H} {P:Program} {w:World}
theorem vM{b off j:Nat}:(⟨b,off,none⟩:Addr).add j=⟨b,off+j,none⟩:=by
 unfold Addr.add;split
 ·next h=>subst h;rfl
 ·rfl
/-- The address of a cell that can be read has no spot. -/
theorem Ba{a:Addr}{v:Value}(h:w.cell? (a.add 0)=some v):∃ b off,a=⟨b,off,none⟩:=by
 obtain ⟨b,off,sp⟩:=a;cases sp with
 | none=>exact ⟨b,off,rfl⟩
 | some s=>
  exfalso;simp only [Addr.add,if_true,World.cell?] at h;split at h <;> simp_all
end
end
section
open Go.RowKit Go.ChangeShapes Go.WideShapes
def nb:BS:=fun _=>False
theorem agx{P:Program}{f:FuncId}{args:List DV}(h:aC P f args (.d (.one (.v (.bool true))))){w:World}{vs:List Value}(hvs:AA nb w args vs):Calls P f vs.toArray w fun e w'=>e= .returned (.bool true)∧Below w.heap.size w w':=
 (h.go nb w vs (fun _ h=>h.elim) hvs).mono fun e w' ⟨v,he,hb,hv⟩=>⟨by have h1:v= .bool true:=(show dY nb w' (.v (.bool true)) v from hv).1;rw [he,h1],hb⟩
section
variable {H:Type} {enc:TypeId×Value→H} {P:Program} {w:World}
theorem QH{a:Option Addr}{n c:Nat}:(Value.slice a n c).cells.toList= [.slice a n c]:=by simp [Value.cells]
end
end
section
open Go.RowKit Go.ChangeShapes Go.WideShapes
end
/-
 RATIONALS of the program, by the machine (3).
-/
theorem ajD{a b:List Lf}{K L M:Nat}{n d m e:Int}(ha:Gf a K n d)(hb:Gf b L m e)(hM:(max K 2+1)+(max L 2+1)+4≤M:=by decide)(wU:M≤100000000:=by decide):aC Tryz.prog 139 [.agg a,.agg b] (.d (.agg (tn M (((dQ n d)+(dQ m e)) / 2)))):=by
 obtain ⟨s0,Ew,t0,ys0,ha,e0,k0⟩:=ha;obtain ⟨s1,xs1,t1,ys1,hb,e1,k1⟩:=hb;exact aC.le (dl (DV.g ha) (dl (DV.g hb) iP)) AV.le.rfl<|aN 22 [.cell 4 38] Tryz.func139 rfl<|cR<|mO rfl<|mO rfl<|mO rfl<|mT<|cR<|mE 2 rfl<|mY (MH (⟨s0,Ew,t0,ys0,fun _ _ _ h=>h,e0,k0⟩:Gf ([.v (.bool s0),lr K Ew] ++ [.v (.bool t0),lr K ys0]) K n d) (⟨s1,xs1,t1,ys1,fun _ _ _ h=>h,e1,k1⟩:Gf ([.v (.bool s1),lr L xs1] ++ [.v (.bool t1),lr L ys1]) L m e) (M:=((max K 2+1)+(max L 2+1)))) rfl<|mE 4 rfl<|mO rfl<|mO rfl<|mO rfl<|mZ rfl<|mZ rfl<|mZ rfl<|mT<|au<|cDk 7<|oE 2 rfl<|oC (XO (qF ((max K 2+1)+(max L 2+1)) (Rat.num (dQ n d)*(Rat.den (dQ m e):Int))) (qF ((max K 2+1)+(max L 2+1)) (Rat.num (dQ m e)*(Rat.den (dQ n d):Int))) (M:=(max ((max K 2+1)+(max L 2+1)) ((max K 2+1)+(max L 2+1))+1))) rfl<|oV rfl<|oC aOf rfl<|oC (J4 (qF ((max K 2+1)+(max L 2+1)) ((Rat.den (dQ n d):Int)*(Rat.den (dQ m e):Int))) (qF 2 2) (M:=(((max K 2+1)+(max L 2+1))+2))) rfl<|oC (Ux (qF (max ((max K 2+1)+(max L 2+1)) ((max K 2+1)+(max L 2+1))+1) ((Rat.num (dQ n d)*(Rat.den (dQ m e):Int))+(Rat.num (dQ m e)*(Rat.den (dQ n d):Int)))) (qF (((max K 2+1)+(max L 2+1))+2) (((Rat.den (dQ n d):Int)*(Rat.den (dQ m e):Int))*2)) (af2 (aal (dQ n d) (dQ m e)) (by decide)) (M:=(max (max (max ((max K 2+1)+(max L 2+1)) ((max K 2+1)+(max L 2+1))+1) (((max K 2+1)+(max L 2+1))+2)) 1+1))) rfl<|.nil<|mZ rfl<|mT<|aH<|rQ rfl (Le (by omega) (adB (dQ n d) (dQ m e)))
theorem X7{a b:List Lf}{K L M:Nat}{x y:Rat}(ha:Rz a K x)(hb:Rz b L y)(hM:max K 64+L+200≤M:=by first|decide|omega)(wU:M≤1000000:=by first|decide|omega):aC Tryz.prog 83 [.agg a,.agg b] (.d (.agg (qn M ((x+y) / 2)))):=by
 exact aC.le (dl (DV.g ha) (dl (DV.g hb) iP)) AV.le.rfl<|aN 10 [.cell 4 49] Tryz.func83 rfl<|cR<|mO rfl<|mO rfl<|mO rfl<|mT<|cR<|mE 2 rfl<|mY (Me (l7 K x) (l7 L y) (M:=(max (K+L+1) 64))) rfl<|mY X8 rfl<|mY (MB (l7 (max (K+L+1) 64) (x+y)) (l7 64 (dQ 1 2)) (M:=(max ((max (K+L+1) 64)+64+1) 64))) rfl<|mZ rfl<|mT<|aH<|rQ rfl (wI (by omega) (Zh x y))
theorem acA{e:TypeId}{N m n sz:Nat}{el el2:Nat→Nat→Lf}(h0:m=0)(hN:N=m+n):AO.le (.row e sz (m+n) (eU m el el2)) (.row e sz N el2):=by
 subst h0;subst hN;exact gB fun i hi j hj B w v hv=>hv
theorem Lp{K:Nat}{c:Nat→Int}:AV.le (.d (.one (.v (.slice none 0 0)))) (.d (.one (iC K 0 c))):=gq (by
 rintro B w v ⟨rfl,_⟩;exact ⟨none,0,rfl,abJ _,fun _=>rfl,fun i hi=>absurd hi (ab2 _)⟩)
theorem AO.le.trans{a b c:AO}(h:AO.le a b)(k:AO.le b c):AO.le a c:=fun B w0 w v hv=>k _ _ _ _ (h _ _ _ _ hv)
theorem AO.of_eq{a b:AO}(h:a=b):AO.le a b:=fun _ _ _ _ hv=>h▸hv
theorem CJ{K n:Nat}{c:Nat→Int}(hz:∀ i,n≤i→c i=0)(hn:n≤20:=by omega)(hK:K≤100000000:=by omega):aC Tryz.prog 161 [.one (.row 1 1 (fun i' j'=>(([.row 2 n (cO K c)])[i'*1+j']?).getD (.v undef)))] (.d (.agg (zn K ((bF c n:Nat):Int)))):=by
 refine aN 18 [.cell 2 36] Tryz.func161 rfl<|cR<|mO rfl<|mT<|cR<|mW rfl<|mT<|au<|au<|AW.wk (qV 3 3 36 2 (fun _ _=> .v undef) rfl rfl)<|aA<|mE 3 rfl<|mT<|aI<|dU (ι:=Nat) (fun (i:Nat)=>⟨18,[(6,.d (.one (.row 1 1 (fun i' j'=>(([.row 2 n (cO K c)])[i'*1+j']?).getD (.v undef))))),(7,dI 1),(8,dI (i:Int)),(2,.ptr 2 0),(3,.own 3)],[(2,.box 36 ([.v (.bool false),.v (.slice none 0 0)])),(3,.row 36 2 (i*n) (cO K c))]⟩) (fun (i:Nat)=>i≤1) (fun (i:Nat)=>1-i) 0 (abR _) (wkv [] [1] trivial ⟨dX rfl (AO.le.trans iY (AO.of_eq (by rw [Nat.zero_mul]))),Pe⟩ rfl rfl) ?_;rintro i hI;have hi:i≤1:=hI;show AW _ _ _ ⟨_,_,_⟩
 refine cR<|mW rfl<|mT<|au<|aW rfl (fun hc1=>?_) (fun hc1=>?_)
 ·refine aF<|tN<|au<|aI<|au ?_;obtain rfl:i=0:=by have h0:=abM hc1;omega
  exact aA<|mE 3 rfl<|mT<|aA<|mE 2 rfl<|mA2 aj (id:=3) (n:=(0*n)) (m:=n) (el:=(cO K c)) (el2:=(cO K c)) rfl rfl rfl (by show ((0*n)+n)*32≤140737488355328;omega) (by omega) rfl rfl rfl rfl rfl rfl rfl rfl rfl rfl rfl rfl<|mW rfl<|ak<|bN<|tN<|aA<|mE 2 rfl<|ak<|⟨(0+1),by omega,by omega,wkv [2] [1] ⟨fQ rfl (aG rfl),Pe⟩ ⟨dX rfl (acA (by omega) (by omega)),Pe⟩ rfl rfl⟩
 ·refine dP<|tE<|tE<|bE<|tN<|au ?_;obtain rfl:i=1:=by have h0:=abL hc1;omega
  exact AW.wk (jl 3 rfl)<|iV 3 (.d (.one (.row 2 n (cO K c)))) rfl (gq (by rw [Nat.one_mul];exact fun _ _ _ h=>h))<|aA<|mW rfl<|mY (ajd (vF (K:=K) (c:=c) hz)) rfl<|mZ rfl<|mT<|aH<|rQ rfl (AV.le.rfl)
theorem OX{a:Lf}{b:List Lf}{K L M n:Nat}{c:Nat→Int}{y:Int}(ha:qI a K n c)(hb:Gg b L y)(hy:y≠0)(hd:∀ i,i < n→y∣c i)(hM:max K 1+1≤M:=by first|decide|omega)(hn:n≤1000:=by omega)(wU:M≤100000000:=by first|decide|omega)(hL:L≤100000000:=by first|decide|omega):aC Tryz.prog 160 [.one a,.agg b] (.d (.one (iC M (dg (su c y) n) (su c y)))):=by
 obtain ⟨⟨fa,ha,ea⟩,za⟩:=ha;obtain ⟨s,xs,hb,hy0⟩:=hb;refine aC.le (dl (DV.l ha) (dl (DV.z hb) iP)) AV.le.rfl<|aN 30 [.tmp 4] Tryz.func160 rfl<|cR<|mO rfl<|mW rfl<|mT<|cR<|mE 2 rfl<|mN aj (.row 36 2 n (fun _ j=> .v ((([Value.bool false,Value.slice none 0 0]:List Value)[j]?).getD undef))) (mkO (zl:=(n:Int)) (zc:=(n:Int)) (Rj:=32) rfl rfl rfl rfl rfl (by omega) (by omega) rfl rfl rfl (by omega) (by omega) rfl) rfl rfl<|mW rfl<|mT<|au<|cR<|mE 3 rfl<|mT<|aI<|dU (ι:=Nat) (fun (i:Nat)=>⟨30,[(3,.ptr 3 0),(11,.d (.one (.row 2 n (qw K fa)))),(12,dI (n:Int)),(13,dI (i:Int)),(5,.own 10)],[(3,.box 36 ([.v (.bool s),lr L xs])),(10,.row 36 2 n (cO M (upd (su c y) i)))]⟩) (fun (i:Nat)=>i≤n) (fun (i:Nat)=>n-i) 0 (abR _) (wkv [] [1] trivial ⟨dX rfl (wJ (fun i _=>if_neg (ab2 _))),Pe⟩ rfl rfl) ?_;rintro i hI;have hi:i≤n:=hI;show AW _ _ _ ⟨_,_,_⟩
 refine cR<|mW rfl<|mT<|au<|aW rfl (fun hc1=>?_) (fun hc1=>?_)
 ·refine aF<|tN<|au<|aI<|au ?_;have hin:i < n:=by have h0:=abM hc1;omega
  refine aA<|mW rfl<|mV aj (.d (.one (.at 2 ((qw K fa) i)))) (jZ (el:=(qw K fa)) (z:=(i:Int)) (n:=n) rfl rfl rfl rfl rfl rfl (by omega) (by omega)) ?_;exact mW rfl<|mO rfl<|mW rfl<|mZ rfl<|mT<|aA<|mE 4 rfl<|mY (H9 ⟨_,_,fun _ _ _ h=>h,ea i (by omega)⟩ ⟨s,xs,fun _ _ _ h=>h,hy0⟩ hy (hd i hin) (M:=(max K 1+1)) (by omega) (by omega) (by omega)) rfl<|mE 3 rfl<|mV aj (.dW 10 2 i 0) (qG (z:=(i:Int)) (n:=n) rfl rfl rfl rfl rfl rfl rfl (by omega) (by omega))<|mZ rfl<|ak<|bN<|tN<|aA<|mE 2 rfl<|ak<|⟨(i+1),by omega,by omega,wkv [3] [1] ⟨fQ rfl (aG (dF (by omega))),Pe⟩ ⟨dX rfl (Xh (abJ _) (by omega) (JI (c:=su c y)) (fun p _ hp=>Ue hp)),Pe⟩ rfl rfl⟩
 ·refine dP<|tE<|tE<|bE<|tN<|au ?_;have hie:n=i:=by have h0:=abL hc1;omega
  subst hie;exact AW.wk (jl 10 rfl)<|iV 5 (.d (.one (.row 2 n (cO M (su c y))))) rfl (gq (D9 (abJ _) (fun i hi=>if_pos hi)))<|aA<|mW rfl<|mY (uN (vF (K:=M) (c:=(su c y)) (AX za))) rfl<|mW rfl<|mT<|aH<|rQ rfl (AV.le.rfl)
theorem agm{a:Lf}{K n:Nat}{c:Nat→Int}(ha:qI a K n c)(zc:bC c)(hn:n≤20)(h0:lg c=0)(hK:K≤90000000):aC Tryz.prog 156 [.one a] (.ji [.agg (zn 0 0),.one (iC 0 0 (fun _=>0))]):=by
 obtain ⟨⟨fa,ha,ea⟩,za⟩:=ha;refine aC.le (dl (DV.l ha) iP) AV.le.rfl ?_;have hl:=lq za zc;exact aN 23 [.cell 2 36,.tmp 3] Tryz.func156 rfl<|cR<|mO rfl<|mW rfl<|mT<|cR<|mW rfl<|mY (uN (⟨⟨fa,fun _ _ _ h=>h,ea⟩,za⟩:qI (xA K n fa) K n c)) rfl<|mW rfl<|mT<|au<|cR<|mE 2 rfl<|mbT rfl (by rw [hl,h0];rfl)<|mT<|cT rfl<|cR<|mW rfl<|mZ rfl<|mW rfl<|mT<|aH<|tR<|rQ rfl (jI (dl (DV.g fun _ _ _ h=>Jj h) (dl (fun B w v h=>Lp (fun _=>none) B w v h) iP)))
theorem ajr{a:Lf}{K n:Nat}{c:Nat→Int}(ha:qI a K n c)(zc:bC c)(hn:n≤20)(h0:lg c≠0)(hK:K≤90000000):aC Tryz.prog 156 [.one a] (.ji [.agg (zn K (iD c (lg c))),.one (iC (max K 1+1) (lg c) (yF c (lg c)))]):=by
 obtain ⟨⟨fa,ha,ea⟩,za⟩:=ha;refine aC.le (dl (DV.l ha) iP) AV.le.rfl ?_;have hl:=lq za zc;refine aN 23 [.cell 2 36,.tmp 3] Tryz.func156 rfl<|cR<|mO rfl<|mW rfl<|mT<|cR<|mW rfl<|mY (uN (⟨⟨fa,fun _ _ _ h=>h,ea⟩,za⟩:qI (xA K n fa) K n c)) rfl<|mW rfl<|mT<|au<|cR<|mE 2 rfl<|mbF rfl (abX.2 fun e=>h0 (by omega))<|mT<|cFs rfl<|au ?_;have hip:=zc.ip;have hgp:=hip.uy h0;have hln:=dO c;have hdd:dg c (lg c)=lg c:=lq zc.lg zc;refine iV 0 (.d (.one (.row 2 (lg c) (cO K c)))) rfl (qZ (abJ _) hl (fun _ _=>rfl))<|aA<|mW rfl<|mB aj (.d (.one (.row 1 1 (fun i' j'=>(([.row 2 (lg c) (cO K c)])[i'*1+j']?).getD (.v undef))))) rfl<|mY (CJ (bC.lg zc)) rfl<|mO rfl<|mZ rfl<|mT<|au<|cR<|mW rfl<|mY (Ib (vF (K:=K) (c:=c) (bC.lg zc))) rfl<|mW rfl<|mT<|aW rfl (fun hneg=>?_) (fun hneg=>?_)
 ·have hcs:iD c (lg c)= -((bF c (lg c):Nat):Int):=by have h1:=abM hneg;rw [hdd] at h1;exact if_pos h1
  exact aA<|mW rfl<|mY (ab9 (qF K ((bF c (lg c):Nat):Int))) rfl<|mZ rfl<|mT<|au<|wB [18,17,16,15,14,4,13,12,11,9,8,7,6,5,3,2,0] [2] 4 (.box 36 (zn K (iD c (lg c)))) rfl rfl (BG (abJ _) hcs.symm) rfl<|cDk 4<|oV rfl<|.cons (aB.V _ rfl)<|oV rfl<|oC (OX (vF (K:=K) (c:=c) (bC.lg zc)) (qF K (iD c (lg c))) (hip.qX h0) (fun i hi=>GU hi) (M:=(max K 1+1))) rfl<|.nil<|mZ rfl<|mW rfl<|mT<|aH<|rQ rfl (jI (dl DV.same (dl (GV (qZ (abJ _) (uw (Or.inr (hip.yF.l h0))) (fun _ _=>rfl))) iP)))
 ·have hcs:iD c (lg c)=((bF c (lg c):Nat):Int):=by have h1:=abL hneg;rw [hdd] at h1;exact if_neg h1
  exact aF<|tN<|au<|wB [16,15,14,4,13,12,11,9,8,7,6,5,3,2,0] [2] 4 (.box 36 (zn K (iD c (lg c)))) rfl rfl (BG (abJ _) hcs.symm) rfl<|cDk 4<|oV rfl<|.cons (aB.V _ rfl)<|oV rfl<|oC (OX (vF (K:=K) (c:=c) (bC.lg zc)) (qF K (iD c (lg c))) (hip.qX h0) (fun i hi=>GU hi) (M:=(max K 1+1))) rfl<|.nil<|mZ rfl<|mW rfl<|mT<|aH<|rQ rfl (jI (dl DV.same (dl (GV (qZ (abJ _) (uw (Or.inr (hip.yF.l h0))) (fun _ _=>rfl))) iP)))
theorem jH{K KC n:Nat}{c:Nat→Int}(hn:n=lg c)(hb:Lb KC c):AV.le (.d (.one (iC K n c))) (.d (.one (iC KC (lg c) c))):=by subst hn;exact Ld hb
theorem Z7{t:TypeId}{K:Nat}{z:Int}(h:0=z):AO.le (.box t [.v (.bool false),.v (.slice none 0 0)]) (.box t (zn K z)):=by
 subst h;exact jf fun B w cs h=>Ep (abR K) B w cs (Jj h)
theorem xR{K:Nat}{c:Nat→Int}(h:lg c=0):AV.le (.d (.one (.v (.slice none 0 0)))) (.d (.one (iC K (lg c) c))):=by rw [h];exact Lp
theorem ahB:lg (fun _=>0)=0:=xJ (fun _=>rfl) 20
theorem dex{α:Type}{Q:α→Prop}{L:α→Lf}{l:Lf}(x:α)(hq:Q x)(h:AV.le (.d (.one l)) (.d (.one (L x)))):∀ B w v,DR B w (.one l) v→DR B w (.one (aX Q L)) v:=fun B w v hl=>⟨x,hq,h (fun _=>none) B w v hl⟩
theorem abk{u:Nat→Int}(z:bC u):su u ((bF u (lg u):Nat):Int)=uK u 20:=by
 unfold uK;rw [U5 z.lg z]
theorem abt(k:Nat):((k:Int)).tmod 2=((k%2:Nat):Int):=by
 rw [Int.tmod_eq_emod_of_nonneg (by omega)];omega
theorem acf{a b:Lf}{K L KC n m k:Nat}{c d:Nat→Int}(ha:qI a K n c)(hb:qI b L m d)(zc:bC c)(zd:bC d)(hk:k=lg c+1-lg d)(hn:n≤20)(hm:m≤20)(hc19:lg c≤19)(h0:lg d≠0)(nU:K+k*(L+1)≤KC)(hLC:L≤KC)(hC:KC≤90000000):aC Tryz.prog 157 [.one a,.one b] (.ji [.one (aX (fun _=>True) (fun q=>iC KC (lg q) q)),.one (aX (fun r=>∃ q,Xr c d (lg d) K L k 0 r q) (fun r=>iC KC (lg r) r)),.one (vI (k:Int)),.one (vI 0)]):=by
 obtain ⟨⟨fa,ha,ea⟩,za⟩:=ha;obtain ⟨⟨fb,hb,eb⟩,zb⟩:=hb;refine aC.le (dl (DV.l ha) (dl (DV.l hb) iP)) AV.le.rfl<|aN 65 [.tmp 4,.tmp 5,.tmp 6,.tmp 7] Tryz.func157 rfl<|cR<|mE 4 rfl<|mT<|cR<|mW rfl<|mY (uN (⟨⟨fa,fun _ _ _ h=>h,ea⟩,za⟩:qI (xA K n fa) K n c)) rfl<|mW rfl<|mY (uN (⟨⟨fb,fun _ _ _ h=>h,eb⟩,zb⟩:qI (xA L m fb) L m d)) rfl<|mE 2 rfl<|mT<|au<|au<|iV 5 (.d (.one (.row 2 (lg c) (cO K c)))) rfl (qZ (abJ _) (lq za zc) (fun _ _=>rfl))<|iV 1 (.d (.one (.row 2 (lg d) (cO L d)))) rfl (qZ (abJ _) (lq zb zd) (fun _ _=>rfl))<|AW.fact (Y8 5 rfl zc.lg) (fun hbc=>?_);refine AW.fact (Y8 1 rfl zd.lg) (fun hbd=>?_);have hlc:=dO c;have hld:=dO d;have hdd:dg d (lg d)=lg d:=lq zd.lg zd;refine aA<|mE 2 rfl<|mbF rfl (abX.2 fun e=>h0 (by omega))<|mT<|cFs rfl<|cR<|mW rfl<|mY (Ib (vF (K:=L) (c:=d) (bC.lg zd))) rfl<|mO rfl<|mZ rfl<|mT<|au<|wB [8,20,19,18,17,16,15,14,13,12,7,6,5,4,1,0] [] 8 (.box 36 (zn L (d (lg d-1)))) rfl rfl (BG (abJ _) (by rw [hdd])) rfl<|aA<|mW rfl<|mY J3 rfl<|mW rfl<|mY J3 rfl<|mV aj (dI ((lg c:Int)-1-((lg d:Int)-1))) (fM (eu (by omega) (by omega)))<|mV aj (dI ((lg c:Int)-1-((lg d:Int)-1)+1)) (fM (eu (by omega) (by omega))) ?_;refine mV aj (dI (k:Int)) (fM (by rw [if_pos rfl];split <;> omega)) ?_;refine mW rfl<|mT<|au<|cR<|mW rfl<|mV aj (dI ((k:Int)-1)) (fM (eu (by omega) (by omega)))<|mW rfl<|mT<|aI<|dU (ι:=Nat×Nat×(Nat→Int)×(Nat→Int)) (fun (p:Nat×Nat×(Nat→Int)×(Nat→Int))=>match p with | (j,u,r,q)=>⟨65,[(4,.d (.one (.row 2 (lg q) (cO KC q)))),(5,.d (.one (.row 2 (lg r) (cO KC r)))),(1,.d (.one (.row 2 (lg d) (cO L d)))),(6,dI (k:Int)),(8,.ptr 8 0),(9,dI ((j:Int)-1))],[(8,.box 36 (zn L (d (lg d-1))))]⟩) (fun (p:Nat×Nat×(Nat→Int)×(Nat→Int))=>match p with | (j,u,r,q)=>u+j=k∧Xr c d (lg d) K L u j r q) (fun (p:Nat×Nat×(Nat→Int)×(Nat→Int))=>match p with | (j,u,r,q)=>j) (k,0,c,(fun _=>0)) (⟨by omega,Xr.start zc hbc (fun t ht=>zc.lg t (by omega))⟩) (wkv [0,1] [] ⟨fQ rfl (xR ahB),fQ rfl (jH rfl (hbc.mono (by omega))),Pe⟩ trivial rfl rfl) ?_;rintro ⟨j,u,r,q⟩ hI;obtain ⟨huj,hI⟩:u+j=k∧Xr c d (lg d) K L u j r q:=hI;show AW _ _ _ ⟨_,_,_⟩
 refine au<|au ?_
 by_cases hj0:j=0
 ·subst hj0;refine aA<|mW rfl<|mdF rfl (by omega)<|mT<|cF rfl<|dP<|tE<|tE<|bE<|tN<|au ?_;obtain rfl:u=k:=by omega
  exact aA<|mE 7 rfl<|mT<|aH<|rQ rfl (jI (dl (dex q trivial AV.le.rfl) (dl (dex r ⟨q,hI⟩ AV.le.rfl) (dl DV.same (dl DV.same iP)))))
 ·obtain ⟨i,rfl⟩:∃ i,j=i+1:=⟨j-1,by omega⟩
  have hik:i < k:=by omega
  have hlr:=dO r;have hlq:=dO q;have hrd:dg r (lg r)=lg r:=lq hI.zr.lg hI.zr;have hrz:lg r≤lg d+i:=jv hI.zr fun t ht=>hI.z t (by omega)
  have hN:=hI.step h0 zd.lg zd hbd (by omega) (x:=r (lg d-1+i)) rfl;have hmul:=abN (L+1) (show u+1≤k by omega);have e1:=rW (iW q (d (lg d-1))) (lg q);have e2:=rW (iW r (d (lg d-1))) (lg r);have e3:=rW (aY (nJ (r (lg d-1+i)) i) d) (i+1+lg d);refine iV 9 (dI (i:Int)) rfl (aG (by omega))<|aA<|mW rfl<|mdT rfl (by omega)<|mT<|cT rfl<|aF<|tN<|au<|aI<|cR<|mO rfl<|mT<|au<|au ?_
  by_cases heq:lg r=lg d+i
  ·refine aA<|mW rfl<|mY J3 rfl<|mW rfl<|mY J3 rfl<|mW rfl<|mV aj (dI ((lg d:Int)-1+(i:Int))) (fM (eu (by omega) (by omega)))<|mbT rfl (aez.2 (by omega))<|mT<|cT rfl<|aA<|mW rfl<|mY (Ib (vF (K:=KC) (c:=r) (bC.lg hI.zr))) rfl<|mZ rfl<|mT<|au<|wB [42,41,40,39,38,37,36,35,34,10,31,30,9,8,6,1,5,4] [8] 10 (.box 36 (zn KC (r (lg d-1+i)))) rfl rfl (BG (abJ _) (by rw [hrd,heq,show lg d+i-1=lg d-1+i by omega])) rfl<|aA<|mW rfl<|mV aj (dI ((i+1:Nat):Int)) (fM (dF (by omega)))<|mN aj (.row 36 2 (i+1) (fun _ j=> .v ((([Value.bool false,Value.slice none 0 0]:List Value)[j]?).getD undef))) (mkO (zl:=((i+1:Nat):Int)) (zc:=((i+1:Nat):Int)) (Rj:=32) rfl rfl rfl rfl rfl (by omega) (by omega) rfl rfl rfl (by omega) (by omega) rfl) rfl rfl<|mW rfl<|mT<|au<|wB [11,45,44,43,42,41,40,39,38,37,36,35,34,10,31,30,9,8,6,1,5,4] [10,8] 45 (.row 36 2 (i+1) (cO KC (fun _=>0))) rfl rfl (wJ (fun _ _=>rfl)) rfl<|aA<|mE 3 rfl<|mV aj (.dW 45 2 i 0) (qG (z:=(i:Int)) (n:=(i+1)) rfl rfl rfl rfl rfl rfl rfl (by omega) (by omega))<|mZ rfl<|mT<|au<|wB [49,48,47,46,11,45,44,43,42,41,40,39,38,37,36,35,34,10,31,30,9,8,6,1,5,4] [10,8] 45 (.row 36 2 (i+1) (cO KC (nJ (r (lg d-1+i)) i))) rfl rfl (Xh (abJ _) (abJ _) (if_pos rfl).symm (fun p _ hp=>(if_neg hp).symm)) rfl<|AW.wk (jl 45 rfl)<|iV 11 (.d (.one (.row 2 (i+1) (cO KC (nJ (r (lg d-1+i)) i))))) rfl (AV.le.rfl)<|aA<|mE 2 rfl<|mY (Gs (vF (K:=KC) (c:=q) (bC.lg hI.zq)) (qF L (d (lg d-1))) (M:=(KC+L))) rfl<|mW rfl<|mY (aeI (vF (K:=(KC+L)) (c:=(iW q (d (lg d-1)))) (nX (pG (bC.lg hI.zq)))) (vF (K:=KC) (c:=(nJ (r (lg d-1+i)) i)) uH) (M:=(max (KC+L) KC+1))) rfl<|mW rfl<|mT<|aA<|mE 2 rfl<|mY (Gs (vF (K:=KC) (c:=r) (bC.lg hI.zr)) (qF L (d (lg d-1))) (M:=(KC+L))) rfl<|mE 2 rfl<|mY (aeJ (vF (K:=KC) (c:=(nJ (r (lg d-1+i)) i)) uH) (vF (K:=L) (c:=d) (bC.lg zd)) (M:=(KC+L+20001)) (D:=20)) rfl<|mY (aeK (vF (K:=(KC+L)) (c:=(iW r (d (lg d-1)))) (nX (pG (bC.lg hI.zr)))) (vF (K:=(KC+L+20001)) (c:=(aY (nJ (r (lg d-1+i)) i) d)) (nX (gu uH (bC.lg zd)))) (M:=(max (KC+L) (KC+L+20001)+1))) rfl ?_;refine mW rfl<|ak<|bN<|tN ?_;have hdl:=hN.br.mono (acS (aiV hmul K) nU);have hdq:=hN.bq.mono (acS (aiV hmul K) nU);exact iV 4 (.d (.one (.row 2 (lg (nY (iW q (d (lg d-1))) (nJ (r (lg d-1+i)) i))) (cO KC (nY (iW q (d (lg d-1))) (nJ (r (lg d-1+i)) i)))))) rfl (jH (lq (Za (nX (pG (bC.lg hI.zq))) uH) hN.zq) hdq)<|iV 5 (.d (.one (.row 2 (lg (pI (iW r (d (lg d-1))) (aY (nJ (r (lg d-1+i)) i) d))) (cO KC (pI (iW r (d (lg d-1))) (aY (nJ (r (lg d-1+i)) i) d)))))) rfl (jH (lq (SX (nX (pG (bC.lg hI.zr))) (nX (gu uH (bC.lg zd)))) hN.zr) hdl)<|aA<|mW rfl<|mV aj (dI ((i:Int)-1)) (fM (eu (by omega) (by omega)))<|mW rfl<|ak<|⟨(i,(u+1),(pI (iW r (d (lg d-1))) (aY (nJ (r (lg d-1+i)) i) d)),(nY (iW q (d (lg d-1))) (nJ (r (lg d-1+i)) i))),⟨by omega,hN⟩,afB i,wkr rfl rfl⟩
  ·refine aA<|mW rfl<|mY J3 rfl<|mW rfl<|mY J3 rfl<|mW rfl<|mV aj (dI ((lg d:Int)-1+(i:Int))) (fM (eu (by omega) (by omega)))<|mbF rfl (abX.2 (by omega))<|mT<|cFs rfl<|au<|wB [40,39,38,37,36,35,34,10,31,30,9,8,6,1,5,4] [8] 10 (.box 36 (zn KC (r (lg d-1+i)))) rfl rfl (Z7 (hI.zr.lg _ (by omega)).symm) rfl<|aA<|mW rfl<|mV aj (dI ((i+1:Nat):Int)) (fM (dF (by omega)))<|mN aj (.row 36 2 (i+1) (fun _ j=> .v ((([Value.bool false,Value.slice none 0 0]:List Value)[j]?).getD undef))) (mkO (zl:=((i+1:Nat):Int)) (zc:=((i+1:Nat):Int)) (Rj:=32) rfl rfl rfl rfl rfl (by omega) (by omega) rfl rfl rfl (by omega) (by omega) rfl) rfl rfl<|mW rfl<|mT<|au<|wB [11,45,44,43,40,39,38,37,36,35,34,10,31,30,9,8,6,1,5,4] [10,8] 45 (.row 36 2 (i+1) (cO KC (fun _=>0))) rfl rfl (wJ (fun _ _=>rfl)) rfl<|aA<|mE 3 rfl<|mV aj (.dW 45 2 i 0) (qG (z:=(i:Int)) (n:=(i+1)) rfl rfl rfl rfl rfl rfl rfl (by omega) (by omega))<|mZ rfl<|mT<|au<|wB [49,48,47,46,11,45,44,43,40,39,38,37,36,35,34,10,31,30,9,8,6,1,5,4] [10,8] 45 (.row 36 2 (i+1) (cO KC (nJ (r (lg d-1+i)) i))) rfl rfl (Xh (abJ _) (abJ _) (if_pos rfl).symm (fun p _ hp=>(if_neg hp).symm)) rfl<|AW.wk (jl 45 rfl)<|iV 11 (.d (.one (.row 2 (i+1) (cO KC (nJ (r (lg d-1+i)) i))))) rfl (AV.le.rfl)<|aA<|mE 2 rfl<|mY (Gs (vF (K:=KC) (c:=q) (bC.lg hI.zq)) (qF L (d (lg d-1))) (M:=(KC+L))) rfl<|mW rfl<|mY (aeI (vF (K:=(KC+L)) (c:=(iW q (d (lg d-1)))) (nX (pG (bC.lg hI.zq)))) (vF (K:=KC) (c:=(nJ (r (lg d-1+i)) i)) uH) (M:=(max (KC+L) KC+1))) rfl<|mW rfl<|mT<|aA<|mE 2 rfl<|mY (Gs (vF (K:=KC) (c:=r) (bC.lg hI.zr)) (qF L (d (lg d-1))) (M:=(KC+L))) rfl<|mE 2 rfl<|mY (aeJ (vF (K:=KC) (c:=(nJ (r (lg d-1+i)) i)) uH) (vF (K:=L) (c:=d) (bC.lg zd)) (M:=(KC+L+20001)) (D:=20)) rfl<|mY (aeK (vF (K:=(KC+L)) (c:=(iW r (d (lg d-1)))) (nX (pG (bC.lg hI.zr)))) (vF (K:=(KC+L+20001)) (c:=(aY (nJ (r (lg d-1+i)) i) d)) (nX (gu uH (bC.lg zd)))) (M:=(max (KC+L) (KC+L+20001)+1))) rfl<|mW rfl<|ak<|bN<|tN ?_;have hdl:=hN.br.mono (acS (aiV hmul K) nU);have hdq:=hN.bq.mono (acS (aiV hmul K) nU);exact iV 4 (.d (.one (.row 2 (lg (nY (iW q (d (lg d-1))) (nJ (r (lg d-1+i)) i))) (cO KC (nY (iW q (d (lg d-1))) (nJ (r (lg d-1+i)) i)))))) rfl (jH (lq (Za (nX (pG (bC.lg hI.zq))) uH) hN.zq) hdq)<|iV 5 (.d (.one (.row 2 (lg (pI (iW r (d (lg d-1))) (aY (nJ (r (lg d-1+i)) i) d))) (cO KC (pI (iW r (d (lg d-1))) (aY (nJ (r (lg d-1+i)) i) d)))))) rfl (jH (lq (SX (nX (pG (bC.lg hI.zr))) (nX (gu uH (bC.lg zd)))) hN.zr) hdl)<|aA<|mW rfl<|mV aj (dI ((i:Int)-1)) (fM (eu (by omega) (by omega)))<|mW rfl<|ak<|⟨(i,(u+1),(pI (iW r (d (lg d-1))) (aY (nJ (r (lg d-1+i)) i) d)),(nY (iW q (d (lg d-1))) (nJ (r (lg d-1+i)) i))),⟨by omega,hN⟩,afB i,wkr rfl rfl⟩
theorem ajz{a b:Lf}{K L KC n m:Nat}{c d:Nat→Int}(ha:qI a K n c)(hb:qI b L m d)(zc:bC c)(zd:bC d)(hn:n≤20)(hm:m≤20)(hc19:lg c≤19)(h0:lg d≠0)(nU:K+(lg c+1-lg d)*(L+1)≤KC)(hLC:L≤KC)(hC:KC≤90000000):aC Tryz.prog 135 [.one a,.one b] (.ji [.one (aX (CG c d KC) (fun R=>iC KC (lg R) R)),.one (vI 0)]):=by
 obtain ⟨⟨fa,ha,ea⟩,za⟩:=ha;obtain ⟨⟨fb,hb,eb⟩,zb⟩:=hb;have ha':qI (xA K n fa) K n c:=⟨⟨fa,fun _ _ _ h=>h,ea⟩,za⟩;have hb':qI (xA L m fb) L m d:=⟨⟨fb,fun _ _ _ h=>h,eb⟩,zb⟩;refine aC.le (dl (DV.l ha) (dl (DV.l hb) iP)) AV.le.rfl ?_;obtain ⟨k,hk⟩:∃ k,k=lg c+1-lg d:=⟨_,rfl⟩
 have hlc:=dO c;have hld:=dO d;have hdd:dg d m=lg d:=lq zb zd;have hKk:K+k*(L+1)≤KC:=by rw [hk];exact nU
 refine aN 39 [.tmp 4,.tmp 5] Tryz.func135 rfl<|cR<|mE 2 rfl<|mT<|cR<|mE 2 rfl<|mY (acf (KC:=KC) ha' hb' zc zd hk hn hm hc19 h0 hKk hLC hC) rfl<|mE 9 rfl<|mT<|au<|cR<|mE 2 rfl<|mT<|cFs rfl<|au<|au<|wK [8,7,1,0] [] rfl rfl<|cEx (Qx:=(fun r=>∃ q,Xr c d (lg d) K L k 0 r q)) (L:=(fun r=>iC KC (lg r) r)) 7 rfl (fun r hr=>?_);obtain ⟨q,hI⟩:=hr;have hlr:=dO r;have hbr:=hI.br.mono hKk
 by_cases hk1:k%2=1
 ·by_cases hl1:d (lg d-1) < 0
  ·refine aA<|mW rfl<|mV aj (dI ((k%2:Nat):Int)) (fM (abt k))<|mbT rfl (aez.2 (by omega))<|mE 2 rfl<|mY (Ib (⟨⟨fb,fun _ _ _ h=>h,eb⟩,zb⟩:qI (xA L m fb) L m d)) rfl<|mW rfl<|lD 27 (.d (.one (.v (.bool true)))) rfl (Aj (ae3 (by rw [hdd];exact hl1)))<|mW rfl<|mT<|cT rfl<|aA<|mW rfl<|mY (ajq (vF (K:=KC) (c:=r) (bC.lg hI.zr))) rfl<|mW rfl<|mT<|au<|au ?_;have zu:=Eo hI.zr;have hbu:=hbr.neg;refine iV 7 (.d (.one (.row 2 (lg (iE r)) (cO KC (iE r))))) rfl (jH (lq (agX (bC.lg hI.zr)) zu) hbu) ?_;have U6:CG c d KC (uK (iE r) 20):=Oj hI zd rfl h0 hKk (Or.inl ⟨hk1,hl1,fun _=>rfl⟩);have hlu:=dO (iE r)
   by_cases hu0:lg (iE r)=0
   ·refine aA<|mE 2 rfl<|mbT rfl (by rw [hu0];rfl)<|mT<|cT rfl<|cR<|mE 2 rfl<|mT<|aH<|tR ?_;have hz0:lg (uK (iE r) 20)=0:=(iF U6.z).2 fun i=>by unfold uK su;rw [(iF zu).1 hu0 i];exact Int.zero_ediv _
    exact rQ rfl (jI (dl (dex (uK (iE r) 20) U6 (xR hz0)) (dl DV.same iP)))
   ·refine aA<|mE 2 rfl<|mbF rfl (abX.2 fun e=>hu0 (by omega))<|mT<|cFs rfl<|au ?_;have hgp:=zu.ip.uy hu0;have e2:=rW (su (iE r) ((bF (iE r) (lg (iE r)):Nat):Int)) (lg (iE r));refine aA<|mE 2 rfl<|mB aj (.d (.one (.row 1 1 (fun i' j'=>(([.row 2 (lg (iE r)) (cO KC (iE r))])[i'*1+j']?).getD (.v undef))))) rfl<|mY (CJ (bC.lg zu)) rfl<|mY (OX (vF (K:=KC) (c:=(iE r)) (bC.lg zu)) (qF KC ((bF (iE r) (lg (iE r)):Nat):Int)) (by omega) (fun i hi=>xM hi) (M:=(max KC 1+1))) rfl<|mE 2 rfl<|mT<|aH ?_;have hfd:=abk zu;exact rQ rfl (jI (dl (dex (uK (iE r) 20) U6 (by rw [hfd];exact jH (by rw [← hfd];exact lq (AX (bC.lg zu)) (Au zu)) U6.b)) (dl DV.same iP)))
  ·refine aA<|mW rfl<|mV aj (dI ((k%2:Nat):Int)) (fM (abt k))<|mbT rfl (aez.2 (by omega))<|mE 2 rfl<|mY (Ib (⟨⟨fb,fun _ _ _ h=>h,eb⟩,zb⟩:qI (xA L m fb) L m d)) rfl<|mW rfl<|lD 27 (.d (.one (.v (.bool false)))) rfl (Aj (aef (by rw [hdd];exact hl1)))<|mW rfl<|mT<|cFs rfl<|au<|au ?_;have zu:=hI.zr;have hbu:=hbr;have U6:CG c d KC (uK r 20):=Oj hI zd rfl h0 hKk (Or.inr ⟨fun e=>hl1 e.2,fun _=>rfl⟩);have hlu:=dO r
   by_cases hu0:lg r=0
   ·refine aA<|mE 2 rfl<|mbT rfl (by rw [hu0];rfl)<|mT<|cT rfl<|cR<|mE 2 rfl<|mT<|aH<|tR ?_;have hz0:lg (uK r 20)=0:=(iF U6.z).2 fun i=>by unfold uK su;rw [(iF zu).1 hu0 i];exact Int.zero_ediv _
    exact rQ rfl (jI (dl (dex (uK r 20) U6 (xR hz0)) (dl DV.same iP)))
   ·refine aA<|mE 2 rfl<|mbF rfl (abX.2 fun e=>hu0 (by omega))<|mT<|cFs rfl<|au ?_;have hgp:=zu.ip.uy hu0;have e2:=rW (su r ((bF r (lg r):Nat):Int)) (lg r);refine aA<|mE 2 rfl<|mB aj (.d (.one (.row 1 1 (fun i' j'=>(([.row 2 (lg r) (cO KC r)])[i'*1+j']?).getD (.v undef))))) rfl<|mY (CJ (bC.lg hI.zr)) rfl<|mY (OX (vF (K:=KC) (c:=r) (bC.lg hI.zr)) (qF KC ((bF r (lg r):Nat):Int)) (by omega) (fun i hi=>xM hi) (M:=(max KC 1+1))) rfl<|mE 2 rfl<|mT<|aH ?_;have hfd:=abk zu;exact rQ rfl (jI (dl (dex (uK r 20) U6 (by rw [hfd];exact jH (by rw [← hfd];exact lq (AX (bC.lg zu)) (Au zu)) U6.b)) (dl DV.same iP)))
 ·refine aA<|mW rfl<|mV aj (dI ((k%2:Nat):Int)) (fM (abt k))<|mbF rfl (abX.2 (by omega))<|mW rfl<|mG rfl rfl<|mG rfl rfl<|mG rfl rfl<|mW rfl<|mT<|cFs rfl<|au<|au ?_;have zu:=hI.zr;have hbu:=hbr;have U6:CG c d KC (uK r 20):=Oj hI zd rfl h0 hKk (Or.inr ⟨fun e=>hk1 e.1,fun _=>rfl⟩);have hlu:=dO r
  by_cases hu0:lg r=0
  ·refine aA<|mE 2 rfl<|mbT rfl (by rw [hu0];rfl)<|mT<|cT rfl<|cR<|mE 2 rfl<|mT<|aH<|tR ?_;have hz0:lg (uK r 20)=0:=(iF U6.z).2 fun i=>by unfold uK su;rw [(iF zu).1 hu0 i];exact Int.zero_ediv _
   exact rQ rfl (jI (dl (dex (uK r 20) U6 (xR hz0)) (dl DV.same iP)))
  ·refine aA<|mE 2 rfl<|mbF rfl (abX.2 fun e=>hu0 (by omega))<|mT<|cFs rfl<|au ?_;have hgp:=zu.ip.uy hu0;have e2:=rW (su r ((bF r (lg r):Nat):Int)) (lg r);refine aA<|mE 2 rfl<|mB aj (.d (.one (.row 1 1 (fun i' j'=>(([.row 2 (lg r) (cO KC r)])[i'*1+j']?).getD (.v undef))))) rfl<|mY (CJ (bC.lg hI.zr)) rfl<|mY (OX (vF (K:=KC) (c:=r) (bC.lg hI.zr)) (qF KC ((bF r (lg r):Nat):Int)) (by omega) (fun i hi=>xM hi) (M:=(max KC 1+1))) rfl<|mE 2 rfl<|mT<|aH ?_;have hfd:=abk zu;exact rQ rfl (jI (dl (dex (uK r 20) U6 (by rw [hfd];exact jH (by rw [← hfd];exact lq (AX (bC.lg zu)) (Au zu)) U6.b)) (dl DV.same iP)))
def bH(c:Nat→Int):Nat→Int:=yF c (lg c)
theorem gK{c:Nat→Int}(z:bC c):bC (bH c):=Au z
theorem dL{c:Nat→Int}(z:bC c):lg (bH c)=lg c:=by
 have h:=z.ip.yF;exact (h.uniq (gK z))
theorem Lb.yF{K:Nat}{c:Nat→Int}(h:Lb K c):Lb K (bH c):=h.su
theorem RU{a:Lf}{K n:Nat}{c:Nat→Int}(ha:qI a K n c)(zc:bC c)(hn:n≤20:=by omega)(hK:K≤90000000:=by omega):aC Tryz.prog 134 [.one a] (.d (.one (iC K (lg (bH c)) (bH c)))):=by
 obtain ⟨⟨fa,ha,ea⟩,za⟩:=ha;refine aC.le (dl (DV.l ha) iP) AV.le.rfl ?_;have ha':qI (xA K n fa) K n c:=⟨⟨fa,fun _ _ _ h=>h,ea⟩,za⟩;refine aN 11 [.tmp 2] Tryz.func134 rfl<|AW.fact (p:=Lb K c) (fun B0 w0 a w ⟨ρ,hc,hn',hdf,fQ⟩=>let ⟨v,_,hv⟩:=fQ 0 _ rfl;Tj ha' hv) (fun hb=>?_)
 by_cases h0:lg c=0
 ·exact cR<|mW rfl<|mT<|cR<|mW rfl<|mY (agm ha' zc hn h0 hK) rfl<|mE 3 rfl<|mO rfl<|mZ rfl<|mW rfl<|mT<|cR<|mE 2 rfl<|mT<|aH<|rQ rfl (by rw [show lg (bH c)=0 from (dL zc).trans h0];exact qZ (abR _) rfl (fun i hi=>absurd hi (ab2 _)))
 ·exact cR<|mW rfl<|mT<|cR<|mW rfl<|mY (ajr ha' zc hn h0 hK) rfl<|mE 3 rfl<|mO rfl<|mZ rfl<|mW rfl<|mT<|cR<|mE 2 rfl<|mT<|aH<|rQ rfl (jH (dL zc).symm hb.yF)
theorem Lb.pos{K:Nat}{c:Nat→Int}(h:Lb K c){i:Nat}(hi:c i≠0):1≤K:=by
 have h1:=h i;rcases aev K with h0 | h0
 ·subst h0;rw [Nat.pow_zero] at h1;omega
 ·exact h0
theorem H7{c:Nat→Int}(z:bC c):∃ s s':Rat,(∀ x,FF c x=s*FF (bH c) x)∧∀ x,FF (bH c) x=s'*FF c x:=by
 obtain ⟨s,s',h1,h2⟩:=W9 z.ip;have e1:pf (yF c (lg c)) (lg c)=FF (bH c):=yI z.ip.yF.z (gK z);refine ⟨s,s',fun x=>?_,fun x=>?_⟩
 ·have:=h1 x;rw [e1,iO z] at this;exact this
 ·have:=h2 x;rw [e1,iO z] at this;exact this
theorem xk{c:Nat→Int}(z:bC c)(h0:lg c≠0):∃ s:Rat,s≠0∧∀ x,FF c x=s*FF (bH c) x:=by
 refine ⟨(iD c (lg c):Rat),sZ (z.ip.qX h0),fun x=>?_⟩;have h:=NW z.lg x;rw [show pf (yF c (lg c)) (lg c)=FF (bH c) from yI z.ip.yF.z (gK z),iO z] at h;exact h
theorem kE{c:Nat→Int}(z:bC c)(h0:lg c≠0):Pm (lg (bH c)) (bH c):=by
 rw [dL z];exact z.ip.pm h0
/-- What divides what is not 0 is as long at most. -/
theorem l9{c g:Nat→Int}(zc:bC c)(zg:bC g)(h0:lg c≠0)(h:Dv (FF g) (FF c)):lg g≠0∧lg g≤lg c:=by
 have hg:lg g≠0:=by
  intro e;obtain ⟨x,hx⟩:=abI zc h0;obtain ⟨q,_,hq⟩:=h;rw [hq,(oh zg).1 e x] at hx;exact hx (Rat.mul_zero _)
 have:=h.deg (FI zg hg) (FI zc h0);exact ⟨hg,by omega⟩
/-- A primitive divisor's coefficients. -/
theorem Dj{c g:Nat→Int}{K:Nat}(zc:bC c)(zg:bC g)(h0:lg c≠0)(h10:lg c≤10)(h:Dv (FF g) (FF c))(pm:bF g (lg g)=1)(hb:Lb K c):Lb (21*K+3) g:=by
 obtain ⟨hg,hle⟩:=l9 zc zg h0 h;obtain ⟨q,pq,hq⟩:=h;obtain ⟨w,k,hw,hc,_⟩:=nT zc.lg zg.lg pm pq (fun x=>by rw [iO zc,iO zg];exact hq x);exact ajP zc.ip h0 zg.lg hw hc hb (hb.pos (lu h0)) h10 (by omega)
/-- THE GREATEST COMMON DIVISOR of c and d. -/
structure oq(c d:Nat→Int)(M:Nat)(g:Nat→Int):Prop where
 z:bC g
 b:Lb M g
 IV:Idl (FF c) (FF d) (FF g)
 pm:lg g≠0→Pm (lg g) g
theorem oq.le{c d g:Nat→Int}{M:Nat}(h:oq c d M g)(zc:bC c)(h0:lg c≠0):lg g≠0∧lg g≤lg c:=l9 zc h.z h0 h.IV.da
theorem oq.le'{c d g:Nat→Int}{M:Nat}(h:oq c d M g)(zd:bC d)(h0:lg d≠0):lg g≠0∧lg g≤lg d:=l9 zd h.z h0 h.IV.db
theorem Nj{c d a b:Nat→Int}{K:Nat}(zc:bC c)(zd:bC d)(za:bC a)(zb:bC b)(h:CB (FF c) (FF d) (FF a) (FF b))(hb0:lg b=0)(hc:Lb K c)(hd:Lb K d)(EW:lg c≤10)(hd10:lg d≤10):oq c d (21*K+3) (bH a):=by
 obtain ⟨s,s',h1,h2⟩:=H7 za;have hi:Idl (FF c) (FF d) (FF (bH a)):=(h.fin fun x=>(oh zb).1 hb0 x).scale h1 h2;have zp:=gK za;have hpm:lg (bH a)≠0→Pm (lg (bH a)) (bH a):=fun e=>kE za (by rw [← dL za];exact e)
 refine ⟨zp,?_,hi,hpm⟩
 by_cases h0:lg (bH a)=0
 ·intro i
  rw [(iF zp).1 h0 i];exact aeA (by decide)
 by_cases hc0:lg c=0
 ·by_cases hd0:lg d=0
  ·exfalso
   obtain ⟨x,hx⟩:=abI zp h0;obtain ⟨u,v,_,_,e⟩:=hi.cm;rw [e,(oh zc).1 hc0,(oh zd).1 hd0] at hx;exact hx (by grind)
  ·exact Dj zd zp hd0 hd10 hi.db (hpm h0).one hd
 ·exact Dj zc zp hc0 EW hi.da (hpm h0).one hc
/-- How great numbers become. -/
theorem FC(k:Nat):k+2≤3^(k+1):=by
 induction k with
 | zero=>decide
 | succ k ih=>rw [Nat.pow_succ];omega
structure Xo(K N X na nb:Nat):Prop where
 h:(X+1)*3^na≤(K+1)*(2*3^N)
 o:nb < na∨X=K
theorem Xo.start{K N na nb:Nat}(h:na≤N):Xo K N K na nb:=⟨by
 have h1:3^na≤2*3^N:=by
  have:=ab1 (n:=3) (by decide) h;omega
 exact ac4 (K+1) h1,Or.inr rfl⟩
theorem Xo.step{K N X na nb nr:Nat}(h:Xo K N X na nb)(ha:na≤N)(hb:nb≤N)(hr:nr < nb):Xo K N (X+(na+1-nb)*(X+1)) nb nr:=by
 refine ⟨?_,Or.inl hr⟩;have e:X+(na+1-nb)*(X+1)+1=(na+1-nb+1)*(X+1):=by rw [Nat.add_mul (na+1-nb) 1];omega
 rw [e]
 by_cases h1:nb < na
 ·obtain ⟨k,rfl⟩:∃ k,na=nb+k+1:=⟨na-nb-1,by omega⟩
  have h2:=FC k;have h3:(nb+k+1+1-nb+1)=k+3:=by omega
  rw [h3];have h4:k+3≤3^(k+1):=by
   rcases aev k with h0 | h0
   ·subst h0;decide
   ·obtain ⟨j,rfl⟩:∃ j,k=j+1:=⟨k-1,by omega⟩
    have:=FC j;rw [Nat.pow_succ];omega
  calc (k+3)*(X+1)*3^nb≤3^(k+1)*(X+1)*3^nb:=abN _ (abN _ h4)
   _=(X+1)*3^(nb+k+1):=by rw [show nb+k+1=(k+1)+nb by omega,Nat.pow_add 3 (k+1) nb,Nat.mul_comm (3^(k+1)) (X+1),Nat.mul_assoc]
   _≤_:=h.h
 ·have hX:X=K:=by rcases h.o with h2 | h2;omega;exact h2
  subst hX;have h2:na+1-nb+1≤2:=by omega
  have h3:3^nb≤3^N:=ab1 (by decide) hb
  calc (na+1-nb+1)*(X+1)*3^nb≤2*(X+1)*3^nb:=abN _ (abN _ h2)
   _=(X+1)*(2*3^nb):=by rw [Nat.mul_comm 2 (X+1),Nat.mul_assoc]
   _≤_:=ac4 _ (ac4 _ h3)
theorem Xo.bd{K N X na nb KC:Nat}(h:Xo K N X na nb)(hK:(K+1)*(2*3^N)≤KC):X+1≤KC:=by
 have h1:X+1≤(X+1)*3^na:=aeT _ (aeA (by decide));have h2:=h.h;omega
theorem Oa{c d:Nat→Int}(zc:bC c)(zd:bC d):CB (FF c) (FF d) (FF (bH c)) (FF (bH d)):=by
 obtain ⟨s,s',h1,h2⟩:=H7 zc;obtain ⟨t,t',k1,k2⟩:=H7 zd;exact CB.scale h1 k1 h2 k2
theorem ajF{a b:Lf}{K KC N n m:Nat}{c d:Nat→Int}(ha:qI a K n c)(hb:qI b K m d)(zc:bC c)(zd:bC d)(hn:n≤20)(hm:m≤20)(hN:N≤10)(EW:lg c≤N)(hd10:lg d≤N)(nU:(K+1)*(2*3^N)≤KC)(hC:KC≤90000000):aC Tryz.prog 105 [.one a,.one b] (.d (.one (aX (oq c d (21*K+3)) (fun g=>iC (21*K+3) (lg g) g)))):=by
 obtain ⟨⟨fa,ha,ea⟩,za⟩:=ha;obtain ⟨⟨fb,hb,eb⟩,zb⟩:=hb;have ha':qI (xA K n fa) K n c:=⟨⟨fa,fun _ _ _ h=>h,ea⟩,za⟩;have hb':qI (xA K m fb) K m d:=⟨⟨fb,fun _ _ _ h=>h,eb⟩,zb⟩;refine aC.le (dl (DV.l ha) (dl (DV.l hb) iP)) AV.le.rfl<|aN 24 [.tmp 4] Tryz.func105 rfl ?_;have hK1:K+1≤KC:=acS (aeT _ (agQ (by decide) (aeA (by decide)))) nU;refine AW.fact (p:=Lb K c) (fun B0 w0 a w ⟨ρ,hc,hn',hdf,fQ⟩=>let ⟨v,_,hv⟩:=fQ 0 _ rfl;Tj ha' hv) (fun hbc=>?_);refine AW.fact (p:=Lb K d) (fun B0 w0 a w ⟨ρ,hc,hn',hdf,fQ⟩=>let ⟨v,_,hv⟩:=fQ 1 _ rfl;Tj hb' hv) (fun hbd=>?_);refine cR<|mW rfl<|mT<|cR<|mW rfl<|mY (RU (⟨⟨fa,fun _ _ _ h=>h,ea⟩,za⟩:qI (xA K n fa) K n c) zc) rfl<|mW rfl<|mY (RU (⟨⟨fb,fun _ _ _ h=>h,eb⟩,zb⟩:qI (xA K m fb) K m d) zd) rfl<|mE 2 rfl<|mT<|au<|aI<|dU (ι:=Nat×(Nat→Int)×(Nat→Int)) (fun (p:Nat×(Nat→Int)×(Nat→Int))=>match p with | (X,a,b)=>⟨24,[(0,.d (.one (.row 2 (lg a) (cO X a)))),(1,.d (.one (.row 2 (lg b) (cO X b))))],[]⟩) (fun (p:Nat×(Nat→Int)×(Nat→Int))=>match p with | (X,a,b)=>bC a∧bC b∧CB (FF c) (FF d) (FF a) (FF b)∧Lb X a∧Lb X b∧lg a≤N∧lg b≤N∧Xo K N X (lg a) (lg b)) (fun (p:Nat×(Nat→Int)×(Nat→Int))=>match p with | (X,a,b)=>lg b) (K,(bH c),(bH d)) (⟨gK zc,gK zd,Oa zc zd,hbc.yF,hbd.yF,by rw [dL zc];exact EW,by rw [dL zd];exact hd10,.start (by rw [dL zc];exact EW)⟩) (wkr rfl rfl) ?_;rintro ⟨X,a,b⟩ hI;obtain ⟨za,zb,aS,hba,hbb,WE,Nl,hG⟩:bC a∧bC b∧CB (FF c) (FF d) (FF a) (FF b)∧Lb X a∧Lb X b∧lg a≤N∧lg b≤N∧Xo K N X (lg a) (lg b):=hI;show AW _ _ _ ⟨_,_,_⟩
 refine au<|au ?_;have hXK:=hG.bd nU
 by_cases hb0:lg b=0
 ·refine aA<|mE 2 rfl<|mdF rfl (by omega)<|mT<|cF rfl<|dP<|tE<|tE<|bE<|tN<|au ?_;have hgf:=Nj zc zd za zb aS hb0 hbc hbd (by omega) (by omega);exact aA<|mW rfl<|mY (RU (vF (K:=X) (c:=a) (bC.lg za)) za) rfl<|mW rfl<|mT<|aH<|rQ rfl (gq (fun B w v hv=>dex (L:=fun g=>iC (21*K+3) (lg g) g) (bH a) hgf (jH rfl hgf.b) B w v hv))
 ·refine aA<|mE 2 rfl<|mdT rfl (by omega)<|mT<|cT rfl<|aF<|tN<|aI<|au ?_;have hg1:lg b-1 < lg b:=by omega
  have hN1:=(hG.step WE Nl hg1).bd nU;refine aA<|mE 2 rfl<|mY (ajz (KC:=X+(lg a+1-lg b)*(X+1)) (vF (K:=X) (c:=a) (bC.lg za)) (vF (K:=X) (c:=b) (bC.lg zb)) za zb (by omega) (by omega) (by omega) hb0 (abJ _) (by omega) (by omega)) rfl<|mE 5 rfl<|mT<|cEx (Qx:=(CG a b (X+(lg a+1-lg b)*(X+1)))) (L:=(fun R=>iC (X+(lg a+1-lg b)*(X+1)) (lg R) R)) 5 rfl (fun R hR=>?_);have hN:=hG.step WE Nl hR.lt;exact aA<|mE 4 rfl<|ak<|bN<|⟨((X+(lg a+1-lg b)*(X+1)),b,R),⟨zb,hR.z,aS.trans hR.idp,hbb.mono (aiL _ _),hR.b,Nl,by have:=hR.lt;omega,hN⟩,hR.lt,wk rfl ⟨fQ rfl (Ld (hbb.mono (aiL _ _))),hs rfl,Pe⟩ trivial rfl⟩
/-- The first j places. -/
def XB(w:Nat→Int)(j:Nat):Nat→Int:=fun t=>if t < j then w t else 0
def Gn(w:Nat→Int)(j:Nat):Nat→Int:=fun t=>if t < j then 0 else w t
theorem afJ{w:Nat→Int}{j:Nat}:∀ t,j≤t→XB w j t=0:=fun t ht=>if_neg (by omega)
theorem alR{w:Nat→Int}(z:bC w)(j:Nat):bC (XB w j):=fun t ht=>by unfold XB;split;exact z t ht;rfl
theorem aem{w:Nat→Int}{k:Nat}(h:∀ t,k≤t→w t=0):XB w k=w:=funext fun t=>by
 unfold XB;split;rfl;exact (h t (by omega)).symm
theorem abv{w:Nat→Int}(i:Nat):XB w (i+1)=nY (XB w i) (nJ (w i) i):=funext fun t=>by
 show (if t < i+1 then w t else 0)=(if t < i then w t else 0)+(if t=i then w i else 0)
 by_cases h1:t < i
 ·rw [if_pos (by omega),if_pos h1,if_neg (by omega)];omega
 ·by_cases h2:t=i
  ·subst h2;rw [if_pos (by omega),if_neg h1,if_pos rfl];omega
  ·rw [if_neg (by omega),if_neg h1,if_neg h2];rfl
def iH(w d:Nat→Int)(j:Nat):Nat→Int:=aY (XB w j) d
theorem Dp(w d:Nat→Int)(i:Nat)(t:Nat):iH w d (i+1) t=iH w d i t+aY (nJ (w i) i) d t:=by
 unfold iH;rw [abv,Af,YB];show aY d (XB w i) t+aY d (nJ (w i) i) t=_
 rw [Af d (XB w i),Af d (nJ (w i) i)]
theorem U1{w d:Nat→Int}{nb j:Nat}(hd:∀ t,nb≤t→d t=0)(h0:nb≠0):∀ t,nb+j≤t+1→iH w d j t=0:=by
 induction j with
 | zero=>
  intro t _;exact xH (fun i=>afJ i (abR _)) t
 | succ i ih=>
  intro t ht;rw [Dp,ih t (by omega),oD];split
  ·rw [hd (t-i) (by omega),Int.mul_zero];rfl
  ·rfl
theorem U0{w d:Nat→Int}{nb i:Nat}(hd:∀ t,nb≤t→d t=0)(h0:nb≠0):iH w d (i+1) (nb-1+i)=w i*d (nb-1):=by
 rw [Dp,U1 hd h0 _ (by omega),oD,if_pos (by omega),show nb-1+i-i=nb-1 by omega,Int.zero_add]
theorem PO{w d:Nat→Int}{i:Nat}(h:w i=0):iH w d (i+1)=iH w d i:=funext fun t=>by
 rw [Dp,oD,h];split <;> simp
theorem PN{w d:Nat→Int}{nb j:Nat}(hd:∀ t,nb≤t→d t=0)(h0:nb≠0)(hj:nb+j≤21):bC (iH w d j):=fun t ht=>U1 hd h0 t (by omega)
theorem agW{w d:Nat→Int}{i:Nat}(zd:bC d)(h0:lg d≠0)(hi:lg d+(i+1)≤21)(hw:w i≠0):lg (iH w d (i+1))=lg d+i:=by
 have z:=PN (w:=w) zd.lg h0 hi;have h1:lg (iH w d (i+1))≤lg d+i:=jv z fun t ht=>U1 zd.lg h0 t (by omega)
 have h2:iH w d (i+1) (lg d-1+i)≠0:=by rw [U0 zd.lg h0];exact af2 hw (lu h0)
 by_cases h3:lg (iH w d (i+1))≤lg d-1+i
 ·exact absurd (z.lg _ h3) h2
 ·omega
/-- An exact quotient is as long as it is to be. -/
theorem BQ{w d c:Nat→Int}(zw:bC w)(zd:bC d)(zc:bC c)(h:∀ i,aY w d i=c i)(h0:lg d≠0):lg w=lg c+1-lg d∧(lg w≠0→lg c≠0):=by
 obtain rfl:aY w d=c:=funext h
 by_cases hw:lg w=0
 ·have e:∀ i,aY w d i=0:=fun i=>xH ((iF zw).1 hw) i
  have:=(iF zc).2 e;refine ⟨by omega,fun e=>absurd hw e⟩
 ·have e:=UQ hw h0 zw.lg zd.lg (lu hw) (lu h0) (gu zw.lg zd.lg)
  have e2:dg (aY w d) (lg w+lg d)=lg (aY w d):=lq (gu zw.lg zd.lg) zc;rw [e2] at e;constructor
  ·omega
  ·omega
theorem AV.of_eq{a b:AV}(h:a=b):AV.le a b:=fun _ _ _ _ hv=>h▸hv
theorem AV.le.trans{a b c:AV}(h:AV.le a b)(k:AV.le b c):AV.le a c:=fun _ _ _ _ hv=>k _ _ _ _ (h _ _ _ _ hv)
theorem aiC(w:Nat→Int)(i:Nat):w i=Gn w i i:=(if_neg (Nat.lt_irrefl i)).symm
theorem aby{w:Nat→Int}{i p:Nat}(h:p≠i):Gn w (i+1) p=Gn w i p:=by
 unfold Gn
 by_cases h1:p < i
 ·rw [if_pos h1,if_pos (by omega)]
 ·rw [if_neg h1,if_neg (by omega)]
theorem QY{w:Nat→Int}{i:Nat}(h:w i=0):Gn w (i+1)=Gn w i:=funext fun p=>by
 by_cases hp:p=i
 ·subst hp;unfold Gn;rw [if_pos (by omega),if_neg (by omega),h]
 ·exact aby hp
theorem al3(w:Nat→Int):Gn w 0=w:=funext fun p=>if_neg (ab2 _)
/-- f is the SQUAREFREE PART of c. -/
structure wS(c:Nat→Int)(M:Nat)(f:Nat→Int):Prop where
 z:bC f
 b:Lb M f
 pm:Pm (lg f) f
 dv:Dv (FF f) (FF c)
 pw:∃ (N:Nat) (h:Fn),Po h∧∀ x,FF f x^N=h x*FF c x
 sq:AB (FF f) (FF (bP f))
theorem wS.ne{c f:Nat→Int}{M:Nat}(h:wS c M f):lg f≠0:=h.pm.pos
theorem LH{w g p:Nat→Int}{k:Nat}(zg:bC g)(zp:bC p)(hg:lg g≠0)(hw:∀ i,k≤i→w i=0)(hc:∀ i,aY w g i=p i):bC w:=by
 have h1:=nX hw
 by_cases h0:dg w k=0
 ·intro i _;exact h1 i (by omega)
 ·intro i hi
  by_cases h2:dg w k≤20
  ·exact h1 i (by omega)
  ·exfalso
   have h3:=Ij h1 zg.lg h0 hg;rw [hc,zp _ (by omega)] at h3;exact af2 (KQ h0) (lu hg) h3.symm
/-- A quotient of primitive rows is primitive. -/
theorem TP{w g p:Nat→Int}(zw:bC w)(zg:bC g)(zp:bC p)(hc:∀ i,aY w g i=p i)(pg:Pm (lg g) g)(pp:Pm (lg p) p):Pm (lg w) w:=by
 have hw0:lg w≠0:=by
  intro e;have:∀ i,p i=0:=fun i=>by rw [← hc];exact xH ((iF zw).1 e) i
  exact pp.pos ((iF zp).2 this)
 refine ⟨zw.ip,hw0,?_,?_⟩
 ·have h1:bF w (lg w)∣bF p (lg p):=wC fun i _=>by
   rw [← hc];refine agH.1 (YJ fun i _ _=>?_)
   by_cases hi:i < lg w
   ·exact Int.dvd_trans (xM hi) (Int.dvd_mul_right _ _)
   ·rw [zw.lg i (by omega),Int.zero_mul];exact Int.dvd_zero _
  rw [pp.one] at h1;exact Nat.dvd_one.1 h1
 ·have h1:=Ij zw.lg zg.lg hw0 pg.pos
  have h2:=UQ hw0 pg.pos zw.lg zg.lg (lu hw0) (lu pg.pos) (gu zw.lg zg.lg);have e:aY w g=p:=funext hc;rw [e] at h1 h2;rw [lq (by rw [← e];exact gu zw.lg zg.lg) zp] at h2;have h3:=pp.lead;rw [h2,show lg w+lg g-1-1=lg w+lg g-2 by omega,h1] at h3;have h4:=pg.lead;rcases Int.lt_or_le 0 (w (lg w-1)) with h5 | h5
  ·exact h5
  ·exfalso
   have:=Int.mul_nonpos_of_nonpos_of_nonneg h5 (Int.le_of_lt h4);omega
theorem alO{c g w:Nat→Int}{K M:Nat}(zc:bC c)(h1:2≤lg c)(h10:lg c≤10)(hb:Lb K c)(hg:oq (bH c) (bP (bH c)) M g)(zw:bC w)(hw:∀ i,aY w g i=bH c i):wS c (21*K+3) w:=by
 have zp:=gK zc;have hp0:lg (bH c)≠0:=by rw [dL zc];omega
 have pp:=kE zc (by omega);obtain ⟨hg0,hgl⟩:=hg.le zp hp0;have pg:=hg.pm hg0;have pw:=TP zw hg.z zp hw pg pp;have hF:∀ x,FF (bH c) x=FF w x*FF g x:=fun x=>by
  have e:aY w g=bH c:=funext hw;obtain ⟨hlq,_⟩:=BQ zw hg.z zp hw hg0;rw [← e];exact qW zw.lg hg.z.lg (by have hl:=dL zc;omega) zw hg.z x
 have dvp:Dv (FF w) (FF (bH c)):=⟨FF g,dh hg.z,fun x=>by rw [hF];exact aiF _ _⟩;obtain ⟨s,hs0,hs⟩:=xk zc (by omega);obtain ⟨⟨u,v,pu,pv,hm⟩,_,⟨q,pq,hq⟩⟩:=hg.IV;have hne:=abI zp hp0;have WI:=qH zp;have Xx:=dh (fA zp);refine ⟨zw,Dj zp zw hp0 (by rw [dL zc];exact h10) dvp pw.one hb.yF,pw,?_,?_,⟨dh zw,dh (fA zw),qH zw,?_⟩⟩
 ·obtain ⟨q2,pq2,hq2⟩:=dvp
  exact ⟨fun x=>q2 x*s,pq2.yG s,fun x=>by rw [hs,hq2];grind⟩
 ·obtain ⟨N,h,ph,hh⟩:=aea (dh zp) hne WI Xx (dh zw) (dh hg.z) hF pu pv hm pq hq
  exact ⟨N,fun x=>h x*s⁻¹,ph.yG _,fun x=>(hh x).trans (by show h x*FF (bH c) x=h x*s⁻¹*FF c x;rw [hs];grind)⟩
 ·exact ad9 (dh zp) hne WI Xx (dh zw) (dh hg.z) hF pu pv hm pq hq (qH zw) (dh (fA zw))
section
variable {P:Program} {T:TypeId→Option TI} {ops:Array Oper} {Q:Qs} {o:Oper} {l:List Oper} {s:AS}
theorem mX(av:AV)(h:EvX P s o av)(k:AL P ops Q l (s.put o.dst av))(hg:jC ops s o=some true:=by rfl)(hd:kG o.dst s.n=true:=by rfl):AL P ops Q (o ::l) s:=by
 rintro B0 w0 a w ⟨ρ,hc,hn,hdf,hs⟩;obtain ⟨v,hr,hv⟩:=h ρ (Bd ρ B0) w a (fun x hx kV hg=>bQ hs hg);exact lX (dZ hg hs) hr (k B0 w0 _ w (ni hc hn hdf hs hd hv))
theorem arV{ρ:kL}{B:BS}{w:World}{x c:Value}(h:AR ρ B w (.d (.one (.v x))) c):c=x:=(show dY B w (.v x) c from h).1
theorem adg{ρ:kL}{B:BS}{w:World}{a:Act}{x:Operand}{k:IntKind}{z:Int}(h:kD s x=some (k,z))(hs:∀ kV,dH s x=some kV→AR ρ B w kV (a.eval x)):a.eval x= .int k z:=by
 unfold kD at h;split at h
 ·rename_i hx
  cases h
  exact arV (hs _ hx)
 ·cases h
end
/-! ### Rows of polynomials -/
def gl(L:List (Nat→Int))(i:Nat):Nat→Int:=L.getD i (fun _=>0)
theorem yT{L:List (Nat→Int)}{b:Nat→Int}{i:Nat}(h:i < L.length):gl (L ++ [b]) i=gl L i:=by
 unfold gl;rw [List.getD_eq_getElem?_getD,List.getD_eq_getElem?_getD,List.getElem?_append_left h]
theorem uD{L:List (Nat→Int)}{b:Nat→Int}:gl (L ++ [b]) L.length=b:=by
 unfold gl;rw [List.getD_eq_getElem?_getD,List.getElem?_append_right (Nat.le_refl _),Nat.sub_self];rfl
/-! ### Sturm's chains -/
def Stp(x y z:Nat→Int):Prop:=∃ (Q:Fn) (k:Rat),Po Q∧0 < k∧∀ t,FF x t=Q t*FF y t-k*FF z t
def PT:List (Nat→Int)→Prop
 | x ::y ::z ::l=>Stp x y z∧PT (y ::z ::l)
 | _=>True
theorem VA:∀ (L:List (Nat→Int)) (x y z:Nat→Int),PT (L ++ [x,y])→Stp x y z→PT (L ++ [x,y,z])
 | [],x,y,z,_,h=>⟨h,Pe⟩
 | [a],x,y,z,⟨h1,_⟩,h=>⟨h1,h,Pe⟩
 | a ::b ::L,x,y,z,h,k=>by
  cases L with
  | nil=>exact ⟨h.1,h.2.1,k,Pe⟩
  | cons c L=>exact ⟨h.1,VA (b ::c ::L) x y z h.2 k⟩
theorem aaQ:∀ (l:List (Nat→Int)) (x y z:Nat→Int),PT (x ::y ::(l ++ [z]))→(∃ c,c≠0∧∀ t,FF z t=c)→PCh (FF x) (FF y) ((l ++ [z]).map FF)
 | [],x,y,z,⟨h,_⟩,hc=>⟨h,hc⟩
 | a ::l,x,y,z,⟨h,h2⟩,hc=>⟨h,aaQ l y a z h2 hc⟩
/-- THE CHAIN of c: what New makes. -/
structure ChP(c:Nat→Int)(M M2:Nat)(L:List (Nat→Int)):Prop where
 sq:wS c M (gl L 0)
 b:∀ i,Lb M2 (gl L i)
 z:∀ i,bC (gl L i)
 len:1≤L.length
 ln:L.length≤11
 cst:L.length=1→lg (gl L 0)=1
 stm:2≤L.length→∃ l,L=gl L 0 ::gl L 1 ::l∧JZ (FF (gl L 0)) (FF (gl L 1)) (l.map FF)∧∃ d:Rat,0 < d∧∀ x,FF (bP (gl L 0)) x=d*FF (gl L 1) x
theorem wu{f:Nat→Int}(z:bC f)(h:lg (bP f)=0):lg f≤1:=by
 have h1:=(iF (fA z)).1 h;refine jv z fun i hi=>?_
 obtain ⟨j,rfl⟩:∃ j,i=j+1:=⟨i-1,by omega⟩
 have h2:=h1 j;unfold bP at h2;rcases Int.mul_eq_zero.1 h2 with h3 | h3
 ·exact h3
 ·omega
theorem lW{a:Nat→Int}(z:bC a)(h:lg a=1):∃ c:Rat,c≠0∧∀ t,FF a t=c:=by
 refine ⟨((a 0:Int):Rat),sZ (by have:=lu (c:=a) (by omega);rw [h] at this;exact this),fun t=>?_⟩;rw [← iO z,h];exact zG
theorem aC.nH{P:Program}{f:FuncId}{args:List DV}{r:AV}{p:Prop}(hen:∀ vs w,(callFunc f vs).run P w= .ok (.enter f vs) w)(h:∀ B w vs,AA B w args vs→p)(k:p→aC P f args r):aC P f args r:=
 ⟨hen,fun B w vs hB hd=>(k (h B w vs hd)).go B w vs hB hd⟩
theorem ad6(z:Int):fC (z:Rat)=x9 z:=by
 unfold x9
 by_cases h1:z < 0
 ·rw [if_pos h1,jh (by exact_mod_cast h1)]
 ·rw [if_neg h1]
  by_cases h2:z=0
  ·subst h2;rw [if_pos rfl];exact tC
  ·rw [if_neg h2,iG (by have:0 < z:=(by omega);exact_mod_cast this)]
theorem aa6(c:Nat→Int)(q:Rat)(n:Nat):x9 (Cm c q.num (q.den:Int) n n)=fC (pz c q n):=by
 have h:=afM c q n;have hd:(0:Rat) < ((q.den:Int):Rat):=by
  have h1:(0:Int) < (q.den:Int):=by have:=q.den_pos;omega
  exact_mod_cast h1
 have hp:(0:Rat) < ((q.den:Int):Rat)^n:=by
  induction n with
  | zero=>rw [Rat.pow_zero];decide
  | succ n ih=>rw [Rat.pow_succ];exact ae5 (ih (afM c q n)) hd
 have h2:=ah5 fC h;rw [Ee,Ee,iG hd,iG hp,ad6] at h2;omega
theorem iU{K L:Nat}{p q:Rat}(hK:K≤1000000:=by omega)(hL:L≤1000000:=by omega):aC Tryz.prog 67 [.agg (tn K p),.agg (tn L q)] (dI (vP p q)):=by
 have h:=ajC (uS K p) (uS L q) (by omega) (by omega);rwa [jJ,jJ] at h
theorem aeF{K:Nat}{p:Rat}(hK:K≤1000000:=by omega):aC Tryz.prog 66 [.agg (tn K p),.one (.v (.slice none 0 0))] (.d (.agg (tn K p))):=by
 refine aC.nH (fJ Tryz.func66 rfl rfl) (p:=Tb K p) (fun B w vs h=>match vs,h with | [_,_],⟨⟨cs,_,hl⟩,_⟩=>OB hl) (fun hb=>?_);have h:=aeO (uS K p) (abJ _) (by omega);rw [jJ] at h;exact aC.le (dl DV.same (dl DV.same iP)) (oH (wQ hb)) h
theorem ajk{K L:Nat}{p q:Rat}(hK:K≤1000000)(hL:L≤1000000):aC Tryz.prog 139 [.agg (tn K p),.agg (tn L q)] (.d (.agg (tn (max K 2+1+(max L 2+1)+4) ((p+q) / 2)))):=by
 have h:=ajD (uS K p) (uS L q) (abJ _) (by omega);rwa [jJ,jJ] at h
theorem FN{K L:Nat}{p q:Rat}(hK:K≤1000000:=by omega)(hL:L≤1000000:=by omega):aC Tryz.prog 107 [.agg (tn K p),.agg (tn L q)] (.d (.agg (tn (max K 2+1+(max L 2+1)+2) (p-q)))):=by
 have h:=ajE (uS K p) (uS L q) (abJ _) (by omega);rwa [jJ,jJ] at h
theorem MF{a:Lf}{K L n:Nat}{c:Nat→Int}{q:Rat}(ha:qI a K n c)(zc:bC c)(hn:n≤20:=by omega)(hK:K≤10000000:=by omega)(hL:L≤1000000:=by omega):aC Tryz.prog 100 [.one a,.agg (tn L q)] (dI (fC (FF c q))):=by
 have h:=agj ha (uS L q) (D:=20) (T:=K+(max L 2+1)+(max L 2+1)+5) (M:=21*(K+(max L 2+1)+(max L 2+1)+5)) hn (by decide) (abJ _) (abJ _) (by omega) hL hK;have hz:=ha.2;have e:dg c n=lg c:=lq hz zc;rw [jJ,e,aa6] at h;rw [show fC (FF c q)=fC (pz c q (lg c)) by rw [← iO zc];rfl];exact h
/-- Signs one after another. -/
def Gm(L:List (Nat→Int))(t:Rat):List Int:=L.map fun c=>fC (FF c t)
theorem VI(L:List (Nat→Int))(t:Rat):Gm L t=Xd (L.map FF) t:=by unfold Gm Xd;rw [List.map_map];rfl
theorem abz{S:List Int}{i:Nat}{m:Int}(h:i < S.length):Cb m (S.drop i)=if S.getD i 0=0 then Cb m (S.drop (i+1)) else (if m= -(S.getD i 0) then 1 else 0)+Cb (S.getD i 0) (S.drop (i+1)):=by
 have e:S.drop i=S.getD i 0 ::S.drop (i+1):=by
  rw [List.drop_eq_getElem_cons h,List.getD_eq_getElem?_getD,List.getElem?_eq_getElem h];rfl
 rw [e];rfl
theorem aew{S:List Int}{i:Nat}{m:Int}(h:S.length≤i):Cb m (S.drop i)=0:=by rw [List.drop_eq_nil_of_le h];rfl
theorem OG:∀ (S:List Int) (m:Int),Cb m S≤S.length
 | [],m=>abJ _
 | s ::l,m=>by
  unfold Cb;have h1:=OG l m;have h2:=OG l s;split
  ·show _≤l.length+1;omega
  ·show _≤l.length+1;split <;> omega
theorem aa5{L:List (Nat→Int)}{t:Rat}{i:Nat}(h:i < L.length):(Gm L t).getD i 0=fC (FF (gl L i) t):=by
 unfold Gm gl;rw [List.getD_eq_getElem?_getD,List.getD_eq_getElem?_getD,List.getElem?_map,List.getElem?_eq_getElem h];rfl
theorem alM(L:List (Nat→Int))(t:Rat)(i:Nat):(Gm L t).getD i 0= -1∨(Gm L t).getD i 0=0∨(Gm L t).getD i 0=1:=by
 by_cases h:i < L.length
 ·rw [aa5 h];rcases TS (FF (gl L i) t) with h | h | h <;> omega
 ·refine Or.inr (Or.inl ?_)
  unfold Gm;rw [List.getD_eq_getElem?_getD,List.getElem?_eq_none (by rw [List.length_map];omega)];rfl
/-- The chain counts. -/
theorem ChP.cnt{c:Nat→Int}{M KC:Nat}{L:List (Nat→Int)}{lo hi:Rat}(h:ChP c M KC L)(hab:lo≤hi):∃ N,vr (Gm L lo)=vr (Gm L hi)+N∧(N=0↔jP (FF (gl L 0)) lo hi)∧(2≤L.length→oP (FF (gl L 0)) lo hi N):=by
 by_cases h2:2≤L.length
 ·obtain ⟨l,e,hs,_⟩:=h.stm h2
  obtain ⟨N,hN⟩:=qU hs hab;refine ⟨N,?_,DZ hs (dh (h.z 0)) hab hN,fun _=>⟨_,_,hs,hN⟩⟩;have:=hN.v;unfold Vr at this;rw [VI,VI,e];simpa using this
 ·have h1:L.length=1:=by have:=h.len;omega
  obtain ⟨c',hc,hf⟩:=lW (h.z 0) (h.cst h1)
  match L,h1,hf with
  | [a],_,hf=>
   have hf':∀ t,FF a t=c':=hf
   have e:∀ t,vr (Gm [a] t)=0:=fun t=>by
    show Cb 0 [fC (FF a t)]=0
    unfold Cb;have:fC (FF a t)≠0:=by rw [hf' t];exact fun h=>hc (fP.1 h)
    rw [if_neg this,if_neg (by omega)];rfl
   refine ⟨0,by rw [e,e],⟨fun _=>⟨fC c',fun h=>hc (fP.1 h),fun t _ _=>by show fC (FF a t)=_;rw [hf']⟩,fun _=>rfl⟩,fun h=>absurd h (by simp)⟩
/-! ### An algebraic number -/
def bK(c:Nat→Int)(lo hi:Rat):qO:=if hi≤lo then fO lo else jT (FF c) lo hi
structure tX(c:Nat→Int)(lo hi:Rat):Prop where
 z:bC c
 le:lo≤hi
 i:lo < hi→Et (FF c) (FF (bP c)) lo hi
theorem kZ{c:Nat→Int}{lo hi:Rat}(h:hi≤lo):bK c lo hi=fO lo:=if_pos h
theorem jS{c:Nat→Int}{lo hi:Rat}(h:lo < hi):bK c lo hi=jT (FF c) lo hi:=if_neg (by grind)
theorem tX.cut{c:Nat→Int}{lo hi:Rat}(h:tX c lo hi):eG (bK c lo hi):=by
 by_cases hl:hi≤lo
 ·rw [kZ hl];exact lQ lo
 ·rw [jS (by grind)];exact uq (h.i (by grind))
theorem aaA{c:Nat→Int}(z:bC c)(t:Rat):tX c t t:=⟨z,by grind,fun h=>by grind⟩
theorem tX.i'{c:Nat→Int}{lo hi:Rat}(h:tX c lo hi)(hl:¬ hi≤lo):Et (FF c) (FF (bP c)) lo hi:=h.i (by grind)
/-- Against a rational number. -/
theorem tX.rat{c:Nat→Int}{lo hi:Rat}(h:tX c lo hi)(t:Rat):dG (bK c lo hi) (fO t)=
  if hi≤lo then vP lo t else if t≤lo then 1 else if hi < t then -1 else if fC (FF c t)=0 then 0 else if fC (FF c t)=yC (FF c) (FF (bP c)) lo then 1 else -1:=by
 by_cases hl:hi≤lo
 ·rw [if_pos hl,kZ hl,UC]
 ·rw [if_neg hl,jS (by grind),Yu (h.i (by grind))]
theorem tX.lo_le{c:Nat→Int}{lo hi q:Rat}(h:tX c lo hi)(hq:bK c lo hi q):q < hi∨q=hi∧False∨q < hi:=by
 by_cases hl:hi≤lo
 ·rw [kZ hl] at hq;unfold fO at hq;have:=h.le;left;grind
 ·rw [jS (by grind)] at hq
  rcases hq with k | ⟨k,_⟩
  ·left;grind
  ·exact Or.inl k
/-! ### Halved -/
noncomputable def hlf(c:Nat→Int)(lo hi:Rat):Rat×Rat:=
 if hi≤lo then (lo,hi) else if dG (bK c lo hi) (fO ((lo+hi) / 2))=0 then ((lo+hi) / 2,(lo+hi) / 2) else if dG (bK c lo hi) (fO ((lo+hi) / 2))= -1 then (lo,(lo+hi) / 2) else ((lo+hi) / 2,hi)
structure LZ(c:Nat→Int)(lo hi a b:Rat):Prop where
 ok:tX c a b
 cut:∀ q,bK c a b q↔bK c lo hi q
 lo:lo≤a
 hi:b≤hi
theorem LZ.refl{c:Nat→Int}{lo hi:Rat}(h:tX c lo hi):LZ c lo hi lo hi:=⟨h,fun _=>Iff.rfl,by grind,by grind⟩
theorem LZ.trans{c:Nat→Int}{lo hi a b a' b':Rat}(h:LZ c lo hi a b)(k:LZ c a b a' b'):LZ c lo hi a' b':=⟨k.ok,fun q=>(k.cut q).trans (h.cut q),by have:=h.lo;have:=k.lo;grind,by have:=h.hi;have:=k.hi;grind⟩
theorem uF{c:Nat→Int}{lo hi:Rat}(h:tX c lo hi):LZ c lo hi (hlf c lo hi).1 (hlf c lo hi).2∧(lo < hi→(hlf c lo hi).2-(hlf c lo hi).1≤(hi-lo) / 2):=by
 obtain ⟨m,hm⟩:∃ m,m=(lo+hi) / 2:=⟨_,rfl⟩
 unfold hlf;rw [← hm]
 by_cases hl:hi≤lo
 ·rw [if_pos hl];exact ⟨LZ.refl h,fun k=>by grind⟩
 ·rw [if_neg hl]
  have ok:=h.i' hl;have hC:=h.cut;have eC:=jS (c:=c) (show lo < hi by grind)
  by_cases h0:dG (bK c lo hi) (fO m)=0
  ·rw [if_pos h0]
   refine ⟨⟨aaA h.z m,fun q=>?_,by show lo≤m;grind,by show m≤hi;grind⟩,fun _=>by show m-m≤_;grind⟩;show bK c m m q↔_
   rw [kZ (show m≤m by grind)];exact (vO h0 q).symm
  ·rw [if_neg h0]
   by_cases h1:dG (bK c lo hi) (fO m)= -1
   ·rw [if_pos h1]
    have nm:¬ jT (FF c) lo hi m:=fun k=>by
     rw [← eC] at k;have:=xC hC k;omega
    obtain ⟨o,e⟩:=ok.narrow (a:=lo) (b:=m) (by grind) (by grind) (Or.inl (by grind)) nm;refine ⟨⟨⟨h.z,by show lo≤m;grind,fun _=>o⟩,fun q=>?_,by show lo≤lo;grind,by show m≤hi;grind⟩,fun _=>by show m-lo≤_;grind⟩;show bK c lo m q↔_
    rw [jS (show lo < m by grind),eC];exact e q
   ·rw [if_neg h1]
    have cm:jT (FF c) lo hi m:=by
     rw [← eC];apply abP;intro nm;have h2:dG (bK c lo hi) (fO m)≤0:=(um hC (lQ m)).2 fun q hq=>hC.nb hq nm
     rcases oz (bK c lo hi) (fO m) with k | k | k
     ·exact h1 k
     ·exact h0 k
     ·omega
    obtain ⟨o,e⟩:=ok.narrow (a:=m) (b:=hi) (by grind) (by grind) cm (jD (by grind) (by grind));refine ⟨⟨⟨h.z,by show m≤hi;grind,fun _=>o⟩,fun q=>?_,by show lo≤m;grind,by show hi≤hi;grind⟩,fun _=>by show hi-m≤_;grind⟩;show bK c m hi q↔_
    rw [jS (show m < hi by grind),eC];exact e q
theorem rJ(q:Rat):q*(q.den:Rat)=(q.num:Rat):=by
 have h:=Rat.num_divInt_den q;rw [Rat.divInt_eq_div] at h;have hd:((q.den:Nat):Rat)≠0:=by exact_mod_cast q.den_nz
 have e:((q.den:Int):Rat)=((q.den:Nat):Rat):=rfl;rw [e] at h
 calc q*(q.den:Rat)=(q.num:Rat) / (q.den:Rat)*(q.den:Rat):=by rw [h]
  _=(q.num:Rat):=by grind
/-! ### How long the ends are -/
structure Dy(D R j:Nat)(q:Rat):Prop where
 d:∃ z:Int,q*(((D*2^j:Nat)):Rat)=(z:Rat)
 b:Ab q (R:Rat)
theorem acR{q:Rat}{m:Nat}{z:Int}(h:q*(m:Rat)=(z:Rat)):q.den∣m:=by
 have h0:(q.num:Rat)=q*(q.den:Rat):=(rJ q).symm;have h1:(q.num:Rat)*(m:Rat)=(z:Rat)*(q.den:Rat):=by rw [h0,← h];grind
 have h2:q.num*(m:Int)=z*(q.den:Int):=by exact_mod_cast h1
 have hd:(q.den:Int)∣q.num*(m:Int):=⟨z,by rw [h2,Int.mul_comm]⟩;have hd2:q.den∣q.num.natAbs*m:=by
  have:=agH.1 hd;rwa [Int.natAbs_mul,Int.natAbs_natCast] at this
 exact Nat.Coprime.dvd_of_dvd_mul_left (Nat.Coprime.symm q.reduced) hd2
theorem Lm{n:Nat}{z:Int}(h: -(n:Int)≤z): -(n:Rat)≤(z:Rat):=by
 have:((-(n:Int):Int):Rat)≤(z:Rat):=by exact_mod_cast h
 rwa [Rat.intCast_neg] at this
theorem aat{n m:Nat}{z:Int}(h: -((n:Rat)*(m:Rat))≤(z:Rat)): -((n*m:Nat):Int)≤z:=by
 have:((-((n*m:Nat):Int):Int):Rat)≤(z:Rat):=by
  rw [Rat.intCast_neg];rw [← Rat.natCast_mul] at h;exact h
 exact_mod_cast this
theorem ahS{q:Rat}{R:Nat}(h:Ab q (R:Rat)):q.num.natAbs≤R*q.den:=by
 have h0:(q.num:Rat)=q*(q.den:Rat):=(rJ q).symm;have hd:(0:Rat)≤(q.den:Rat):=by exact_mod_cast abR _
 have h1:(q.num:Rat)≤(R:Rat)*(q.den:Rat):=by rw [h0];exact abS h.2 hd
 have h2: -((R:Rat)*(q.den:Rat))≤(q.num:Rat):=by
  rw [h0];have:=abS h.1 hd;grind
 have h3:q.num≤((R*q.den:Nat):Int):=by exact_mod_cast h1
 have h4: -((R*q.den:Nat):Int)≤q.num:=aat h2;omega
theorem aen(j:Nat):2^j≤bT^(j / 32+1):=by
 rw [show bT=2^32 from rfl,← Nat.pow_mul];exact ab1 (by decide) (by omega)
theorem Dy.tb{D R j a b:Nat}{q:Rat}(h:Dy D R j q)(hD0:D≠0)(hD:D < bT^a)(hR:R≤bT^b):Tb (a+b+j / 32+1) q:=by
 obtain ⟨z,hz⟩:=h.d;have h1:=Nat.le_of_dvd (agQ (by omega) (afn j)) (acR hz);have h2:=aen j;have hp:0 < bT^(j / 32+1):=aeA (by decide);have h3:q.den < bT^a*bT^(j / 32+1):=aeV (acS h1 (ac4 D h2)) (ahm hD hp);have h4:=ahS h.b;have hb:0 < bT^b:=aeA (by decide);have h5:q.num.natAbs < bT^b*(bT^a*bT^(j / 32+1)):=aeV (acS h4 (abN _ hR)) (Nat.mul_lt_mul_of_pos_left h3 hb);have e:bT^(a+b+j / 32+1)=bT^b*(bT^a*bT^(j / 32+1)):=by
  rw [← Nat.pow_add,← Nat.pow_add];congr 1;omega
 refine ⟨by rw [e];exact h5,?_⟩;rw [e];exact acC h3 (aht _ hb)
theorem Dy.mono{D R j j':Nat}{q:Rat}(h:Dy D R j q)(k:j≤j'):Dy D R j' q:=by
 obtain ⟨z,hz⟩:=h.d;refine ⟨⟨z*((2^(j'-j):Nat):Int),?_⟩,h.b⟩;have e:D*2^j'=D*2^j*2^(j'-j):=by rw [Nat.mul_assoc,← Nat.pow_add];congr 2;omega
 rw [e,show (((D*2^j*2^(j'-j):Nat)):Rat)=((D*2^j:Nat):Rat)*((2^(j'-j):Nat):Rat) from Rat.natCast_mul _ _,← Rat.mul_assoc,hz];rw [Rat.intCast_mul];rfl
theorem Dy.mid{D R j:Nat}{p q:Rat}(h:Dy D R j p)(k:Dy D R j q):Dy D R (j+1) ((p+q) / 2):=by
 obtain ⟨y,hy⟩:=h.d;obtain ⟨z,hz⟩:=k.d;refine ⟨⟨y+z,?_⟩,?_⟩
 ·have e:D*2^(j+1)=D*2^j*2:=by rw [Nat.pow_succ,Nat.mul_assoc]
  rw [e,show (((D*2^j*2:Nat)):Rat)=((D*2^j:Nat):Rat)*2 from Rat.natCast_mul _ _,Rat.intCast_add,← hy,← hz];grind
 ·have h1:=h.b
  have h2:=k.b;unfold Ab at *
  constructor <;> grind
theorem vX{p q:Rat}{R:Nat}(hp:p.num.natAbs≤R):Dy (p.den*q.den) R 0 p:=by
 refine ⟨⟨p.num*(q.den:Int),?_⟩,?_⟩
 ·rw [show p.den*q.den*2^0=p.den*q.den by omega,Rat.natCast_mul,← Rat.mul_assoc,rJ,Rat.intCast_mul];rfl
 ·have h0:(p.num:Rat)=p*(p.den:Rat):=(rJ p).symm
  have hd:(1:Rat)≤(p.den:Rat):=by exact_mod_cast p.den_pos
  have h1:(p.num:Rat)≤(R:Rat):=by
   have:p.num≤(R:Int):=by omega
   exact_mod_cast this
  have h2: -(R:Rat)≤(p.num:Rat):=by
   exact Lm (by omega)
  have hR:(0:Rat)≤(R:Rat):=by exact_mod_cast abR R
  rw [h0] at h1 h2;unfold Ab;constructor
  ·apply abP
   intro hn;have:(-(R:Rat)-p)*1≤(-(R:Rat)-p)*(p.den:Rat):=abK hd (by grind);have:(R:Rat)*1≤(R:Rat)*(p.den:Rat):=abK hd hR;grind
  ·apply abP
   intro hn;have:(p-(R:Rat))*1≤(p-(R:Rat))*(p.den:Rat):=abK hd (by grind);have:(R:Rat)*1≤(R:Rat)*(p.den:Rat):=abK hd hR;grind
theorem Zm{c:Nat→Int}{lo hi:Rat}{D R j:Nat}(h:Dy D R j lo)(k:Dy D R j hi):Dy D R (j+1) (hlf c lo hi).1∧Dy D R (j+1) (hlf c lo hi).2:=by
 have m:=h.mid k;have h':=h.mono (afl j);have k':=k.mono (afl j);unfold hlf;split
 ·exact ⟨h',k'⟩
 ·split
  ·exact ⟨m,m⟩
  ·split
   ·exact ⟨h',m⟩
   ·exact ⟨m,k'⟩
/-! ### Far out -/
theorem TK{c:Nat→Rat}{x y H:Rat}(hx:Ab x y)(hH:0≤H)(hy:1+H≤y)(h:∀ i,Ab (c i) H):∀ n,Ab (pe c x n) (y^n-1)
 | 0=>jR (by rw [Rat.pow_zero];grind)
 | n+1=>by
  have h1:=(TK hx hH hy h n).add ((h n).mul (LG (by grind) hx n));refine h1.mono ?_;have h2:=jW (B:=y) (by grind) n;have h3:y^n*(1+H)≤y^n*y:=abK hy (by grind);rw [Rat.pow_succ];grind
theorem Nc{x y:Rat}(h:x=y∨x= -y)(hy:1≤y):∀ n:Nat,oQ (x^n) (y^n)
 | 0=>Or.inl (by rw [Rat.pow_zero,Rat.pow_zero];grind)
 | n+1=>by
  have h1:oQ x y:=by rcases h with h | h;exact Or.inl (by grind);exact Or.inr (by grind)
  have h2:=jW hy n;have:=(Nc h hy n).mul (d:=y^n) (e:=y) (by grind) (by grind) h1;rw [Rat.pow_succ,Rat.pow_succ];exact this
theorem U3{z:Int}(h:z≠0):oQ (z:Rat) 1:=by
 rcases Int.lt_or_gt_of_ne h with k | k
 ·right
  have:z≤-1:=by omega
  have h3:(z:Rat)≤((-1:Int):Rat):=by exact_mod_cast this
  rwa [Rat.intCast_neg] at h3
 ·left
  have:1≤z:=by omega
  exact_mod_cast this
theorem ahY{c:Nat→Int}{n:Nat}{x y H:Rat}(hn:c n≠0)(hx:x=y∨x= -y)(hH:0≤H)(hy:1+H≤y)(h:∀ i,Ab (c i:Rat) H):oQ (pf c (n+1) x) 1:=by
 have hab:Ab x y:=by rcases hx with k | k <;> unfold Ab <;> constructor <;> grind
 have h1:=TK (c:=rc c) hab hH hy h n;have hy1:1≤y:=by grind
 have h2:=jW hy1 n;have h3:=(U3 hn).mul (d:=1) (e:=y^n) (by grind) (by grind) (Nc hx hy1 n);show oQ (pe (rc c) x n+rc c n*x^n) 1
 have e:rc c n=(c n:Rat):=rfl;rw [e];unfold Ab at h1;rcases h3 with h3 | h3
 ·left;grind
 ·right;grind
theorem afK{c:Nat→Int}(z:bC c)(h0:lg c≠0){H:Rat}(hH:0≤H)(h:∀ i,Ab (c i:Rat) H){C:qO}(v:VC (FF c) C){q r:Rat}(hq:C q)(hr:¬ C r):q < 1+H∧-(1+H) < r:=by
 have far:∀ t y,(t=y∨t= -y)→1+H≤y→oQ (FF c t) 1:=fun t y ht hy=>by
  rw [← iO z,show lg c=(lg c-1)+1 by omega];exact ahY (lu h0) ht hH hy h
 obtain ⟨t,h1,h2,h3⟩:=v (1 / 2) (by grind) q r hq hr;unfold Ab at h3;constructor
 ·apply abP
  intro hn
  rcases far t t (Or.inl rfl) (by grind) with k | k <;> grind
 ·apply abP
  intro hn
  rcases far t (-t) (Or.inr (by grind)) (by grind) with k | k <;> grind
/-! ### Whole places where it is not 0 -/
theorem PK(P:Nat→Prop):∀ t,∃ (s:Nat) (xs ys:Nat→Nat),s≤t∧(∀ i j,i < j→j < s→xs i < xs j)∧(∀ i,i < s→xs i < t∧P (xs i))∧(∀ i j,i < j→j < t-s→ys i < ys j)∧(∀ i,i < t-s→ys i < t∧¬ P (ys i))
 | 0=>⟨0,fun _=>0,fun _=>0,abJ _,fun _ _ _ h=>absurd h (by omega),fun _ h=>absurd h (by omega),fun _ _ _ h=>absurd h (by omega),fun _ h=>absurd h (by omega)⟩
 | t+1=>by
  obtain ⟨s,xs,ys,h1,h2,h3,h4,h5⟩:=PK P t
  by_cases hp:P t
  ·refine ⟨s+1,fun i=>if i=s then t else xs i,ys,by omega,fun i j hij hj=>?_,fun i hi=>?_,fun i j hij hj=>h4 i j hij (by omega),fun i hi=>⟨by have:=(h5 i (by omega)).1;omega,(h5 i (by omega)).2⟩⟩
   ·show (if i=s then t else xs i) < (if j=s then t else xs j)
    rw [if_neg (by omega)]
    by_cases e:j=s
    ·rw [if_pos e];exact (h3 i (by omega)).1
    ·rw [if_neg e];exact h2 i j hij (by omega)
   ·show (if i=s then t else xs i) < t+1∧P (if i=s then t else xs i)
    by_cases e:i=s
    ·rw [if_pos e];exact ⟨by omega,hp⟩
    ·rw [if_neg e];exact ⟨by have:=(h3 i (by omega)).1;omega,(h3 i (by omega)).2⟩
  ·refine ⟨s,xs,fun i=>if i=t-s then t else ys i,by omega,h2,fun i hi=>⟨by have:=(h3 i hi).1;omega,(h3 i hi).2⟩,fun i j hij hj=>?_,fun i hi=>?_⟩
   ·show (if i=t-s then t else ys i) < (if j=t-s then t else ys j)
    rw [if_neg (by omega)]
    by_cases e:j=t-s
    ·rw [if_pos e];exact (h5 i (by omega)).1
    ·rw [if_neg e];exact h4 i j hij (by omega)
   ·show (if i=t-s then t else ys i) < t+1∧¬ P (if i=t-s then t else ys i)
    by_cases e:i=t-s
    ·rw [if_pos e];exact ⟨by omega,hp⟩
    ·rw [if_neg e];exact ⟨by have:=(h5 i (by omega)).1;omega,(h5 i (by omega)).2⟩
theorem Bl{x n:Nat}(h:x < 2*n):Ab ((x:Int):Rat) (2*(n:Rat)):=by
 have h1:(0:Rat)≤((x:Int):Rat):=iT x;have h2:((x:Int):Rat)≤((2*n:Nat):Rat):=qK (adC h);rw [Rat.natCast_mul] at h2;have e:((2:Nat):Rat)=2:=rfl;rw [e] at h2;unfold Ab;constructor <;> grind
theorem Y6{c:Nat→Int}{n:Nat}(hz:∀ i,n≤i→c i=0){i0:Nat}(hne:c i0≠0):∃ xs:Nat→Nat,(∀ i j,i < j→j < n→xs i < xs j)∧∀ i,i < n→xs i < 2*n∧pf c n (((xs i:Nat):Int):Rat)≠0:=by
 obtain ⟨s,xs,ys,h1,h2,h3,h4,h5⟩:=PK (fun k=>pf c n ((k:Int):Rat)≠0) (2*n)
 by_cases hs:n≤s
 ·exact ⟨xs,fun i j hij hj=>h2 i j hij (by omega),fun i hi=>h3 i (by omega)⟩
 ·exfalso
  have h6:=Ns (R:=2*(n:Rat)) (by have:=iT n;grind) n c (fun i=>((ys i:Nat):Int)) 0 hz (fun i j hij hj=>by have:=h4 i j hij (by omega);show ((ys i:Nat):Int)≠((ys j:Nat):Int);omega)
   (fun i hi=>Bl (h5 i (by omega)).1) (fun i hi=>by
    have:=(h5 i (by omega)).2;have e:pf c n (((ys i:Nat):Int):Rat)=0:=abP this;rw [e];exact jR (by grind)) (by grind) i0
  rw [Rat.zero_mul] at h6;have:(c i0:Rat)=0:=by unfold Ab at h6;grind
  exact sZ hne this
/-- A divisor's coefficients, in the degree alone. -/
theorem Y1{a b w:Nat→Int}{n k:Nat}{H:Rat}{i0:Nat}(ha:∀ i,n≤i→a i=0)(ha0:a i0≠0)(hn:n≠0)(hb:∀ i,n≤i→b i=0)(hw:∀ i,k≤i→w i=0)(h:∀ i,aY w b i=a i)(hH0:0≤H)(hH:∀ i,Ab (a i:Rat) H)(i:Nat):
  Ab (b i:Rat) ((n:Rat)*(H*(2*(n:Rat))^n)*(10*(n:Rat))^n):=by
 obtain ⟨xs,h1,h2⟩:=Y6 ha ha0;have hn1:(1:Rat)≤(n:Rat):=qK (a:=1) (by omega);have hval:∀ x,pf a n x=pf w k x*pf b n x:=fun x=>by
  rw [← rC hw hb,show aY w b=a from funext h];exact Bf ha fun i hi=>by rw [← h i];exact gu hw hb i hi
 have hM0:0≤(n:Rat)*(H*(2*(n:Rat))^n):=acQ (iT n) (acQ hH0 (by have:=jW (B:=2*(n:Rat)) (by grind) n;grind));have key:=Ns (R:=2*(n:Rat)) (by grind) n b (fun i=>((xs i:Nat):Int)) _ hb (fun i j hij hj=>by have:=h1 i j hij hj;show ((xs i:Nat):Int)≠((xs j:Nat):Int);omega) (fun i hi=>Bl (h2 i hi).1) (fun j hj=>by
  obtain ⟨za,hza⟩:=BK a ((xs j:Nat):Int) n;obtain ⟨zb,hzb⟩:=BK b ((xs j:Nat):Int) n;obtain ⟨zw,hzw⟩:=BK w ((xs j:Nat):Int) k;have hne:=(h2 j hj).2;have e1:=hval (((xs j:Nat):Int):Rat);have hA:Ab (pf a n (((xs j:Nat):Int):Rat)) ((n:Rat)*(H*(2*(n:Rat))^n)):=Jm (by grind) (Bl (h2 j hj).1) hH0 n fun t _=>hH t
  rw [hza] at e1 hne hA;rw [hzb,hzw,← Rat.intCast_mul] at e1;show Ab (pf b n (((xs j:Nat):Int):Rat)) _
  rw [hzb];exact KG (by exact_mod_cast e1) (fun e=>hne (by rw [e];rfl)) hA) hM0 i
 refine key.mono (abK ?_ hM0);have:=Sz (R:=2*(n:Rat)) (by grind) n;rwa [show 5*(2*(n:Rat))=10*(n:Rat) from by grind] at this
/-! ### Roots apart -/
theorem YQ{f f':Fn}(hd:yh f f'){a b μ:Rat}(hab:a≤b)(hμ:0 < μ)(h:∀ x,a≤x→x≤b→μ≤f' x):μ / 2*(b-a)≤f b-f a:=by
 obtain ⟨B,ha,hb,_⟩:=yQ a b;obtain ⟨E,hE,hE2⟩:=hd B;obtain ⟨δ,hδ,hs⟩:=gY hE (show 0 < μ / 2 by grind);refine vN hδ hab (fun t=>μ / 2*(t-a)≤f t-f a) (by grind) (fun x y hx hxy hy hd' ih=>?_);have h1:=hE2 x y (ha.J8 hb hx (by grind)) (ha.J8 hb (by grind) hy) (by grind);have h2:=h x hx (by grind);have h3:=hs (y-x) (by grind) hd';have h4:(y-x)*((y-x)*E)≤(y-x)*(μ / 2):=abK (by grind) (by grind);have h5:(y-x)*μ≤(y-x)*f' x:=abK h2 (by grind);unfold Ab at h1;grind
theorem aoF{k1 k2 U V:Fn}{z S L B a b:Rat}{C D:qO}(hz:1≤z∨z≤-1)(Nk:∀ x,U x*k1 x+V x*k2 x=z)(hU:∀ x,In B x→Ab (U x) S)(hV:∀ x,In B x→Ab (V x) S)(hL:RD B k2 L)(hL0:0≤L)(ha:In B a)(hb:In B b)(hs:S*(L*(b-a)) < 1)(vC:VC k1 C)(vD:VC k2 D)(ca:C a)(cb:¬ C b)(da:D a)(db:¬ D b):False:=by
 have hS:0≤S:=(hU a ha).nn;obtain ⟨e,he,hse⟩:=gY (L:=2*S) (m:=1-S*(L*(b-a))) (by grind) (by grind);have he2:=hse (e / 2) (by grind) (by grind);obtain ⟨x,hx1,hx2,hx⟩:=vC (e / 2) (by grind) a b ca cb;obtain ⟨y,hy1,hy2,hy⟩:=vD (e / 2) (by grind) a b da db;have kC:=ha.J8 hb hx1 hx2;have hyB:=ha.J8 hb hy1 hy2;have hgx:Ab (k2 x) (e / 2+L*(b-a)):=by
  by_cases hxy:x≤y
  ·have h1:=hL.ab kC hyB hxy
   have h2:L*(y-x)≤L*(b-a):=abK (by grind) hL0;unfold Ab at *;constructor <;> grind
  ·have h1:=hL.ab hyB kC (by grind)
   have h2:L*(x-y)≤L*(b-a):=abK (by grind) hL0;unfold Ab at *;constructor <;> grind
 have h3:=((hU x kC).mul hx).add ((hV x kC).mul hgx);rw [Nk] at h3;unfold Ab at h3;rcases hz with hz | hz <;> grind
theorem adZ{f f' U V:Fn}{z S L B a b q:Rat}{C D:qO}(hC:eG C)(hD:eG D)(hd:yh f f')(WW:Po f')(hz:1≤z∨z≤-1)(Nk:∀ x,U x*f x+V x*f' x=z)(hU:∀ x,In B x→Ab (U x) S)(hV:∀ x,In B x→Ab (V x) S)(hL:RD B f' L)(hL0:0≤L)(ha:In B a)(hb:In B b)(hs:S*(L*(b-a)) < 1)(vC:VC f C)(vD:VC f D)(ca:C a)(cb:¬ C b)(da:D a)(db:¬ D b)(hq:D q)(hq':¬ C q):False:=by
 have hS:0≤S:=(hU a ha).nn;obtain ⟨q1,hq1,aj9⟩:=hD.up q hq;have haq:=hC.nb ca hq';have hqb:=hD.nb aj9 db;obtain ⟨m,hm⟩:∃ m,m=1-S*(L*(b-a)):=⟨_,rfl⟩
 have hm0:0 < m:=by grind
 obtain ⟨μ1,hμ1,hμs⟩:=gY hS (show 0 < m / 2 by grind);obtain ⟨μ,hμ⟩:∃ μ,μ=μ1 / 2:=⟨_,rfl⟩
 have hμ0:0 < μ:=by grind
 have hSμ:=hμs μ hμ0 (by grind);obtain ⟨e1,he1,hes⟩:=gY hS (show 0 < m / 2 by grind);have hη:0 < μ / 2*(q1-q):=ae5 (by grind) (by grind);obtain ⟨e,he,hea,heb⟩:=kJ (a:=e1 / 2) (b:=μ / 2*(q1-q) / 4) (by grind) (by grind);have hSe:=hes e he (by grind);obtain ⟨x,hx1,hx2,hx⟩:=vC e he a q ca hq';obtain ⟨y,hy1,hy2,hy⟩:=vD e he q1 b aj9 db;have kC:=ha.J8 hb hx1 (show x≤b by grind);have far:∀ t,a≤t→t≤b→oQ (f' t) μ:=fun t ht1 ht2=>by
  apply abP;intro hn;have hft:Ab (f' t) μ:=by unfold oQ at hn;unfold Ab;constructor <;> grind
  have U8:=ha.J8 hb ht1 ht2;have hfx:Ab (f' x) (μ+L*(b-a)):=by
   by_cases hxy:x≤t
   ·have h1:=hL.ab kC U8 hxy
    have h2:L*(t-x)≤L*(b-a):=abK (by grind) hL0;unfold Ab at *;constructor <;> grind
   ·have h1:=hL.ab U8 kC (by grind)
    have h2:L*(x-t)≤L*(b-a):=abK (by grind) hL0;unfold Ab at *;constructor <;> grind
  have h3:=((hU x kC).mul hx).add ((hV x kC).mul hfx);rw [Nk] at h3;unfold Ab at h3;rcases hz with hz | hz <;> grind
 obtain ⟨h0,hsg⟩:=Dt WW (show a≤b by grind) hμ0 far;unfold Ab at hx hy;have hw:μ / 2*(q1-q)≤μ / 2*(y-x):=abK (by grind) (by grind);rcases wP h0 with hp | hp
 ·have:=YQ hd (show x≤y by grind) hμ0 (fun t h1 h2=>by
   have h3:=hsg t (by grind) (by grind);rcases far t (by grind) (by grind) with k | k
   ·exact k
   ·exfalso;rw [hp] at h3;have:=jh (x:=f' t) (by grind);omega)
  grind
 ·have hd':yh (fun x=> -f x) (fun x=> -f' x):=fun B=>by
   obtain ⟨E,hE,h⟩:=hd B;refine ⟨E,hE,fun s t h1 h2 h3=>?_⟩;have:=h s t h1 h2 h3;unfold Ab at *
   constructor <;> grind
  have:=YQ hd' (show x≤y by grind) hμ0 (fun t h1 h2=>by
   have h3:=hsg t (by grind) (by grind);rcases far t (by grind) (by grind) with k | k
   ·exfalso;rw [hp] at h3;have:=iG (x:=f' t) (by grind);omega
   ·show μ≤-f' t;grind)
  grind
end Go.Proofs.YtapmpcgekdplfaaGreat
