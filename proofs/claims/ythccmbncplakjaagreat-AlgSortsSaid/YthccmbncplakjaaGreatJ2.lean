/-
  Laws of the program's functions by an abstract machine, part 2: joined, short spelling. No condition.
-/
import Derived.Test.YthccmbncplakjaaGreatJ1
set_option linter.unusedVariables false
set_option linter.unusedSimpArgs false
set_option maxRecDepth 100000
set_option maxHeartbeats 4000000
namespace Go.Proofs.YthccmbncplakjaaGreat
open Go.RowKit
theorem le_made{K m:Nat}{b:Bool}{z:Int}(h1:b=decide (z < 0))(h2:m=z.natAbs):AV.le (.d (.agg [.v (.bool b),ln K m])) (.d (.agg (zn K z))):=by subst h1;subst h2;exact AV.le.rfl
theorem le_rmade{K m:Nat}{b:Bool}{z:Int}(h1:b=decide (z < 0))(h2:m=z.natAbs):AV.le (.d (.agg [dn K m,.v (.bool b)])) (.d (.agg (rn K z))):=by subst h1;subst h2;exact AV.le.rfl
theorem limbs_len(m:Nat):(limbs m).length=0↔m=0:=by
 rw [List.length_eq_zero_iff];exact limbs_eq_nil
theorem digs_len(m:Nat):(digs4 m).length=0↔m=0:=by
 rw [List.length_eq_zero_iff];exact digs4_eq_nil
def sgn(z:Int):Int:=if z < 0 then -1 else if z=0 then 0 else 1
theorem nbits_zero_iff(m:Nat):nbits m=0↔m=0:=⟨fun h=>by
 rcases Nat.eq_zero_or_pos m with h0 | h0
 ·exact h0
 ·have:=nbits_pos (n:=m) (by omega);omega,fun h=>by subst h;rfl⟩
theorem zv_mul(s t:Bool)(a b:Nat):zv (s !=t) (a*b)=zv s a*zv t b:=by
 cases s <;> cases t <;> simp [zv,Int.neg_mul,Int.mul_neg]
theorem zv_add(s t:Bool)(a b:Nat)(h:(s==t)=true):zv s (a+b)=zv s a+zv t b:=by
 cases s <;> cases t <;> simp_all [zv] <;> omega
theorem zv_sub1(s t:Bool)(a b:Nat)(h:(s==t)=false)(hle:b≤a):zv s (a-b)=zv s a+zv t b:=by
 cases s <;> cases t <;> simp_all [zv] <;> omega
theorem zv_sub2(s t:Bool)(a b:Nat)(h:(s==t)=false)(hle:¬ b≤a):zv t (b-a)=zv s a+zv t b:=by
 cases s <;> cases t <;> simp_all [zv] <;> omega
theorem zvz(x:Int):x=zv (decide (x < 0)) x.natAbs:=(zv_natAbs x).symm
theorem aMade{K m:Nat}{neg:Bool}{z:Int}(hz:zv neg m=z):ACall Tryz.prog 142 [.one (ln K m),.one (.v (.bool neg))] (.d (.agg (zn K z))):=by
 subst hz;cases neg
 ·exact aN 13 [.cell 4 42] Tryz.func142 rfl<|cR<|mO rfl<|mT<|cR<|mv2 rfl rfl<|mG rfl rfl<|mG rfl rfl<|mG rfl rfl<|mv3 rfl rfl rfl<|mZ rfl<|mT<|cRet<|rQ rfl (le_made (by simp [zv_neg]) (zv_abs _ _).symm)
 ·exact aN 13 [.cell 4 42] Tryz.func142 rfl<|cR<|mO rfl<|mT<|cR<|mv6 rfl rfl rfl rfl rfl rfl<|mv2 rfl rfl<|mZ rfl<|mT<|cRet<|rQ rfl (le_made (by rw [zv_neg];have:=limbs_len m;rw [Bool.true_and,decide_eq_decide];omega) (zv_abs _ _).symm)
theorem aRMade{K m:Nat}{neg:Bool}{z:Int}(hz:zv neg m=z):ACall Tryz.prog 103 [.one (dn K m),.one (.v (.bool neg))] (.d (.agg (rn K z))):=by
 subst hz;cases neg
 ·exact aN 13 [.cell 4 28] Tryz.func103 rfl<|cR<|mO rfl<|mT<|cR<|mv3 rfl rfl rfl<|mG rfl rfl<|mG rfl rfl<|mG rfl rfl<|mv2 rfl rfl<|mZ rfl<|mT<|cRet<|rQ rfl (le_rmade (by simp [zv_neg]) (zv_abs _ _).symm)
 ·exact aN 13 [.cell 4 28] Tryz.func103 rfl<|cR<|mO rfl<|mT<|cR<|mv6 rfl rfl rfl rfl rfl rfl<|mv2 rfl rfl<|mZ rfl<|mT<|cRet<|rQ rfl (le_rmade (by rw [zv_neg];have:=digs_len m;rw [Bool.true_and,decide_eq_decide];omega) (zv_abs _ _).symm)
theorem aNorm{a:List Lf}{K:Nat}{x:Int}(ha:IsZ a K x)(hK:K≤1073741824:=by first|decide|omega):ACall Tryz.prog 118 [.agg a] (.d (.agg (zn K x))):=by
 obtain ⟨s,xs,ha,rfl⟩:=ha;exact ACall.le (dl (DV.z ha) dl0) AV.le.rfl<|aN 9 [.cell 2 42] Tryz.func118 rfl<|cR<|mO rfl<|mO rfl<|mT<|cSeq<|cDk 6<|oV rfl<|oV rfl<|oC (aLNorm (islv K xs)) rfl<|oV rfl<|oV rfl<|oC (aMade rfl) rfl<|.nil<|mZ rfl<|mT<|cRet<|rQ rfl (AV.le.rfl)
theorem aNeg{a:List Lf}{K:Nat}{x:Int}(ha:IsZ a K x)(hK:K≤1073741824:=by first|decide|omega):ACall Tryz.prog 84 [.agg a] (.d (.agg (zn K (-x)))):=by
 obtain ⟨s,xs,ha,rfl⟩:=ha;refine ACall.le (dl (DV.z ha) dl0) AV.le.rfl<|aN 10 [.cell 2 42] Tryz.func84 rfl<|cR<|mO rfl<|mO rfl<|mT<|cSeq<|cDk 7<|oV rfl<|oV rfl<|oC (aLNorm (islv K xs)) rfl<|oV rfl<|oV rfl<|oV rfl<|oC (aMade rfl) rfl<|.nil<|mZ rfl<|mT<|cRet ?_;exact rQ rfl (le_zn (Nat.le_refl _) (by cases s <;> simp [zv]))
theorem aAdd{a b:List Lf}{K L M:Nat}{x y:Int}(ha:IsZ a K x)(hb:IsZ b L y)(hM:max K L+1≤M:=by first|decide|omega)(hK:K≤1073741824:=by first|decide|omega)(hL:L≤1073741824:=by first|decide|omega):ACall Tryz.prog 79 [.agg a,.agg b] (.d (.agg (zn M (x+y)))):=by
 obtain ⟨s,xs,ha,rfl⟩:=ha;obtain ⟨t,ys,hb,rfl⟩:=hb;refine ACall.le (dl (DV.z ha) (dl (DV.z hb) dl0)) AV.le.rfl<|aN 47 [.cell 4 42] Tryz.func79 rfl<|cR<|mO rfl<|mO rfl<|mO rfl<|mT<|cSeq<|cR<|mv5 rfl rfl rfl rfl rfl<|mT<|cCond rfl (fun hc1=>?_) (fun hc1=>?_)
 ·exact cSeq<|cDk 8<|oV rfl<|oV rfl<|oV rfl<|oV rfl<|oC (aLAdd (islv K xs) (islv L ys) (M:=(max K L+1))) rfl<|oV rfl<|oV rfl<|oC (aMade rfl) rfl<|.nil<|mZ rfl<|mT<|cRet<|tR<|rQ rfl (le_zn hM (zv_add _ _ _ _ hc1))
 ·refine cSkip<|tN<|cSeq<|cR<|mv4 rfl rfl rfl rfl<|mY (aLSub (islv K xs) (islv L ys)) rfl<|mv5 rfl rfl rfl rfl rfl<|mT<|cR<|mW rfl<|mT<|cCond rfl (fun hc2=>?_) (fun hc2=>?_)
  ·exact cR<|mv3 rfl rfl rfl<|mY (aMade rfl) rfl<|mZ rfl<|mT<|cRet<|tR<|rQ rfl (le_zn (by omega) (zv_sub1 _ _ _ _ hc1 (by simpa using hc2)))
  ·exact cSkip<|tN<|cR<|mv4 rfl rfl rfl rfl<|mY (aLSub (islv L ys) (islv K xs)) rfl<|mv5 rfl rfl rfl rfl rfl<|mT<|cR<|mv3 rfl rfl rfl<|mY (aMade rfl) rfl<|mZ rfl<|mT<|cRet<|rQ rfl (le_zn (by omega) (zv_sub2 _ _ _ _ hc1 (by simpa using hc2)))
theorem aSub{a b:List Lf}{K L M:Nat}{x y:Int}(ha:IsZ a K x)(hb:IsZ b L y)(hM:max K L+1≤M:=by first|decide|omega)(hK:K≤1073741824:=by first|decide|omega)(hL:L≤1073741824:=by first|decide|omega):ACall Tryz.prog 153 [.agg a,.agg b] (.d (.agg (zn M (x-y)))):=by
 obtain ⟨s,xs,ha,rfl⟩:=ha;obtain ⟨t,ys,hb,rfl⟩:=hb;refine ACall.le (dl (DV.z ha) (dl (DV.z hb) dl0)) AV.le.rfl<|aN 12 [.cell 4 42] Tryz.func153 rfl<|cR<|mO rfl<|mO rfl<|mO rfl<|mT<|cR<|mv4 rfl rfl rfl rfl<|mZ rfl<|mT<|cR<|mv2 rfl rfl<|mY (aAdd (iszr K s xs) (iszr L (!t) ys) (M:=(max K L+1))) rfl<|mZ rfl<|mT<|cRet ?_;exact rQ rfl (le_zn hM (by cases t <;> simp [zv] <;> omega))
theorem aMul{a b:List Lf}{K L M:Nat}{x y:Int}(ha:IsZ a K x)(hb:IsZ b L y)(hM:K+L≤M:=by first|decide|omega)(hK:K≤1073741824:=by first|decide|omega)(hL:L≤1073741824:=by first|decide|omega):ACall Tryz.prog 80 [.agg a,.agg b] (.d (.agg (zn M (x*y)))):=by
 obtain ⟨s,xs,ha,rfl⟩:=ha;obtain ⟨t,ys,hb,rfl⟩:=hb;exact ACall.le (dl (DV.z ha) (dl (DV.z hb) dl0)) AV.le.rfl<|aN 16 [.cell 4 42] Tryz.func80 rfl<|cR<|mO rfl<|mO rfl<|mO rfl<|mT<|cSeq<|cDk 11<|oV rfl<|oV rfl<|oV rfl<|oV rfl<|oC (aLMul (islv K xs) (islv L ys) (M:=(K+L))) rfl<|oV rfl<|oV rfl<|oV rfl<|oV rfl<|oV rfl<|oC (aMade rfl) rfl<|.nil<|mZ rfl<|mT<|cRet<|rQ rfl (le_zn hM (zv_mul _ _ _ _))
theorem aSgn{a:List Lf}{K:Nat}{x:Int}(ha:IsZ a K x)(hK:K≤1073741824:=by first|decide|omega):ACall Tryz.prog 165 [.agg a] (.d (.one (.v (.int .i64 (sgn x))))):=by
 obtain ⟨s,xs,ha,rfl⟩:=ha;refine ACall.le (dl (DV.z ha) dl0) AV.le.rfl<|aN 11 [.tmp 2] Tryz.func165 rfl<|cR<|mO rfl<|mW rfl<|mT<|cSeq<|cBlock<|cR<|mv2 rfl rfl<|mY (aLBits (islv K xs)) rfl<|mv2 rfl rfl<|mT<|cCond rfl (fun hc1=>?_) (fun hc1=>?_)
 ·refine cR<|mW rfl<|mT<|cRet<|bR<|tR ?_;exact rQ rfl (le_int (by have h0:=nbits_zero_iff (val xs);simp only [beq_iff_eq,beq_eq_false_iff_ne,ne_eq,bne_iff_ne,bne_eq_false_iff_eq,decide_eq_true_eq,decide_eq_false_iff_not] at hc1;unfold sgn zv;cases s <;> (repeat' split) <;> first | omega | (exfalso;simp at *;done) | (simp at *;omega)))
 ·refine cR<|mv3 rfl rfl rfl<|mT<|cCond rfl (fun hc2=>?_) (fun hc2=>?_)
  ·refine cR<|mW rfl<|mT<|cRet<|bR<|tR ?_;exact rQ rfl (le_int (by have h0:=nbits_zero_iff (val xs);simp only [beq_iff_eq,beq_eq_false_iff_ne,ne_eq,bne_iff_ne,bne_eq_false_iff_eq,decide_eq_true_eq,decide_eq_false_iff_not] at hc1 hc2;unfold sgn zv;cases s <;> (repeat' split) <;> first | omega | (exfalso;simp at *;done) | (simp at *;omega)))
  ·refine cSkip<|bN<|tN<|cR<|mW rfl<|mT<|cRet ?_;exact rQ rfl (le_int (by have h0:=nbits_zero_iff (val xs);simp only [beq_iff_eq,beq_eq_false_iff_ne,ne_eq,bne_iff_ne,bne_eq_false_iff_eq,decide_eq_true_eq,decide_eq_false_iff_not] at hc1 hc2;unfold sgn zv;cases s <;> (repeat' split) <;> first | omega | (exfalso;simp at *;done) | (simp at *;omega)))
theorem aCmp{a b:List Lf}{K L:Nat}{x y:Int}(ha:IsZ a K x)(hb:IsZ b L y)(hK:K≤1073741824:=by first|decide|omega)(hL:L≤1073741824:=by first|decide|omega):ACall Tryz.prog 120 [.agg a,.agg b] (.d (.one (.v (.int .i64 (cmpZ x y))))):=by
 obtain ⟨s,xs,ha,hx⟩:=ha;obtain ⟨t,ys,hb,hy⟩:=hb;refine ACall.le (dl (DV.z ha) (dl (DV.z hb) dl0)) AV.le.rfl ?_;have hxa:val xs=x.natAbs:=by rw [← hx,zv_abs]
 have hya:val ys=y.natAbs:=by rw [← hy,zv_abs]
 refine aN 32 [.tmp 4] Tryz.func120 rfl<|cR<|mO rfl<|mO rfl<|mW rfl<|mT<|cSeq<|cDk 6<|oV rfl<|oC (aSgn ⟨s,xs,fun _ _ _ h=>h,hx⟩ (by omega)) rfl<|oV rfl<|oC (aSgn ⟨t,ys,fun _ _ _ h=>h,hy⟩ (by omega)) rfl<|.cons (OpS.V _ rfl)<|.cons (OpS.V _ rfl)<|.nil<|mT<|cSeq<|cBlock<|cR<|mv4 rfl rfl rfl rfl<|mT<|cCond rfl (fun hc1=>?_) (fun hc1=>?_)
 ·refine cR<|mW rfl<|mT<|cRet<|bR<|tR ?_;exact rQ rfl (le_int (by simp only [decide_eq_true_eq,decide_eq_false_iff_not] at hc1;(try rw [hxa,hya]);simp only [sgn,cmpZ] at *;(repeat' split at *) <;> omega))
 ·refine cR<|mv4 rfl rfl rfl rfl<|mT<|cCond rfl (fun hc2=>?_) (fun hc2=>?_)
  ·refine cR<|mW rfl<|mT<|cRet<|bR<|tR ?_;exact rQ rfl (le_int (by simp only [decide_eq_true_eq,decide_eq_false_iff_not] at hc1 hc2;(try rw [hxa,hya]);simp only [sgn,cmpZ] at *;(repeat' split at *) <;> omega))
  ·refine cR<|mv3 rfl rfl rfl<|mT<|cCond rfl (fun hc3=>?_) (fun hc3=>?_)
   ·refine cR<|mv4 rfl rfl rfl rfl<|mY (aLCmp (islv L ys) (islv K xs)) rfl<|mW rfl<|mT<|cRet<|bR<|tR ?_;exact rQ rfl (le_int (by simp only [decide_eq_true_eq,decide_eq_false_iff_not] at hc1 hc2 hc3;(try rw [hxa,hya]);simp only [sgn,cmpZ] at *;(repeat' split at *) <;> omega))
   ·refine cSkip<|bN<|tN<|cR<|mv4 rfl rfl rfl rfl<|mY (aLCmp (islv K xs) (islv L ys)) rfl<|mW rfl<|mT<|cRet ?_;exact rQ rfl (le_int (by simp only [decide_eq_true_eq,decide_eq_false_iff_not] at hc1 hc2 hc3;(try rw [hxa,hya]);simp only [sgn,cmpZ] at *;(repeat' split at *) <;> omega))
theorem aRFrom{a:List Lf}{K M:Nat}{x:Int}(ha:IsZ a K x)(hM:3*K≤M:=by first|decide|omega)(hK:K≤100000000:=by first|decide|omega):ACall Tryz.prog 86 [.agg a] (.d (.agg (rn M x))):=by
 obtain ⟨s,xs,ha,rfl⟩:=ha;exact ACall.le (dl (DV.z ha) dl0) AV.le.rfl<|aN 9 [.cell 2 28] Tryz.func86 rfl<|cR<|mO rfl<|mO rfl<|mT<|cSeq<|cDk 6<|oV rfl<|oV rfl<|oC (aNFrom (islv K xs) (M:=(3*K))) rfl<|oV rfl<|oV rfl<|oC (aRMade rfl) rfl<|.nil<|mZ rfl<|mT<|cRet<|rQ rfl (le_rn hM rfl)
theorem aRTo{a:List Lf}{K:Nat}{x:Int}(ha:IsR a K x)(hK:K≤1000000000:=by first|decide|omega):ACall Tryz.prog 70 [.agg a] (.d (.agg (zn K x))):=by
 exact ACall.le (dl (DV.g ha) dl0) AV.le.rfl<|aN 9 [.cell 2 42] Tryz.func70 rfl<|cR<|mO rfl<|mO rfl<|mT<|cSeq<|cDk 6<|oV rfl<|oV rfl<|oV rfl<|oV rfl<|oC (aNTo (isd K x.natAbs)) rfl<|oV rfl<|.nil<|mZ rfl<|mT<|cRet<|rQ rfl (AV.le.rfl)
theorem aRNeg{a:List Lf}{K M:Nat}{x:Int}(ha:IsR a K x)(hM:K≤M:=by first|decide|omega)(hK:K≤1073741824:=by first|decide|omega):ACall Tryz.prog 100 [.agg a] (.d (.agg (rn M (-x)))):=by
 refine ACall.le (dl (DV.g ha) dl0) AV.le.rfl<|aN 9 [.cell 2 28] Tryz.func100 rfl<|cR<|mO rfl<|mO rfl<|mT<|cR<|mv5 rfl rfl rfl rfl rfl<|mY (aRMade rfl) rfl<|mZ rfl<|mT<|cRet ?_;exact rQ rfl (le_rn hM (by unfold zv;by_cases h:x < 0 <;> simp [h] <;> omega))
theorem aRAdd{a b:List Lf}{K L M:Nat}{x y:Int}(ha:IsR a K x)(hb:IsR b L y)(hM:max K L+1≤M:=by first|decide|omega)(hK:K≤1073741824:=by first|decide|omega)(hL:L≤1073741824:=by first|decide|omega):ACall Tryz.prog 117 [.agg a,.agg b] (.d (.agg (rn M (x+y)))):=by
 refine ACall.le (dl (DV.g ha) (dl (DV.g hb) dl0)) AV.le.rfl<|aN 40 [.cell 4 28] Tryz.func117 rfl<|cR<|mO rfl<|mO rfl<|mO rfl<|mT<|cSeq<|cR<|mv5 rfl rfl rfl rfl rfl<|mT<|cCond rfl (fun hc1=>?_) (fun hc1=>?_)
 ·exact cSeq<|cDk 8<|oV rfl<|oV rfl<|oV rfl<|oV rfl<|oC (aNAdd (isd K x.natAbs) (isd L y.natAbs) (M:=(max K L+1))) rfl<|oV rfl<|oV rfl<|oC (aRMade rfl) rfl<|.nil<|mZ rfl<|mT<|cRet<|tR<|rQ rfl (le_rn hM ((zv_add _ _ _ _ hc1).trans (by rw [← zvz x,← zvz y])))
 ·refine cSkip<|tN<|cSeq<|cR<|mv4 rfl rfl rfl rfl<|mY (aNCmp (isd K x.natAbs) (isd L y.natAbs)) rfl<|mW rfl<|mT<|cCond rfl (fun hc2=>?_) (fun hc2=>?_)
  ·refine cSeq<|cDk 8<|oV rfl<|oV rfl<|oV rfl<|.cons (OpS.V (.d (.one (dn L y.natAbs))) rfl) ?_;refine .cons (OpS.C0 (aNSub (isd K x.natAbs) (isd L y.natAbs) (by have h:=hc2;simp [cmpZ] at h;(repeat' split at h) <;> omega) (M:=K)) rfl rfl rfl) ?_;refine oV rfl<|oV rfl<|oC (aRMade rfl) rfl<|.nil<|mZ rfl<|mT<|cRet<|tR ?_;exact rQ rfl (le_rn (by omega) ((zv_sub1 _ _ _ _ hc1 (by have h:=hc2;simp [cmpZ] at h;(repeat' split at h) <;> omega)).trans (by rw [← zvz x,← zvz y])))
  ·refine cSkip<|tN<|cSeq<|cDk 8<|oV rfl<|oV rfl<|oV rfl<|.cons (OpS.V (.d (.one (dn K x.natAbs))) rfl) ?_;refine .cons (OpS.C0 (aNSub (isd L y.natAbs) (isd K x.natAbs) (by have h:=hc2;simp [cmpZ] at h;(repeat' split at h) <;> omega) (M:=L)) rfl rfl rfl) ?_;refine oV rfl<|oV rfl<|oC (aRMade rfl) rfl<|.nil<|mZ rfl<|mT<|cRet ?_;exact rQ rfl (le_rn (by omega) ((zv_sub2 _ _ _ _ hc1 (by have h:=hc2;simp [cmpZ] at h;(repeat' split at h) <;> omega)).trans (by rw [← zvz x,← zvz y])))
theorem aRSub{a b:List Lf}{K L M:Nat}{x y:Int}(ha:IsR a K x)(hb:IsR b L y)(hM:max K L+1≤M:=by first|decide|omega)(hK:K≤1073741824:=by first|decide|omega)(hL:L≤1073741824:=by first|decide|omega):ACall Tryz.prog 150 [.agg a,.agg b] (.d (.agg (rn M (x-y)))):=by
 exact ACall.le (dl (DV.g ha) (dl (DV.g hb) dl0)) AV.le.rfl<|aN 9 [.cell 4 28] Tryz.func150 rfl<|cR<|mO rfl<|mO rfl<|mO rfl<|mT<|cSeq<|cDk 4<|oV rfl<|oV rfl<|oC (aRNeg (isr L y) (M:=L)) rfl<|oC (aRAdd (isr K x) (isr L (-y)) (M:=(max K L+1))) rfl<|.nil<|mZ rfl<|mT<|cRet<|rQ rfl (le_rn hM (by omega))
theorem aRMul{a b:List Lf}{K L M:Nat}{x y:Int}(ha:IsR a K x)(hb:IsR b L y)(hM:K+L≤M:=by first|decide|omega)(hK:K≤1073741824:=by first|decide|omega)(hL:L≤1073741824:=by first|decide|omega):ACall Tryz.prog 105 [.agg a,.agg b] (.d (.agg (rn M (x*y)))):=by
 exact ACall.le (dl (DV.g ha) (dl (DV.g hb) dl0)) AV.le.rfl<|aN 16 [.cell 4 28] Tryz.func105 rfl<|cR<|mO rfl<|mO rfl<|mO rfl<|mT<|cSeq<|cDk 11<|oV rfl<|oV rfl<|oV rfl<|oV rfl<|oC (aNMul (isd K x.natAbs) (isd L y.natAbs) (M:=(K+L))) rfl<|oV rfl<|oV rfl<|oV rfl<|oV rfl<|oV rfl<|oC (aRMade rfl) rfl<|.nil<|mZ rfl<|mT<|cRet<|rQ rfl (le_rn hM ((zv_mul _ _ _ _).trans (by rw [← zvz x,← zvz y])))
theorem aRSign{a:List Lf}{K:Nat}{x:Int}(ha:IsR a K x):ACall Tryz.prog 133 [.agg a] (.d (.one (.v (.int .i64 (sgn x))))):=by
 refine ACall.le (dl (DV.g ha) dl0) AV.le.rfl<|aN 11 [.tmp 2] Tryz.func133 rfl<|cR<|mO rfl<|mW rfl<|mT<|cSeq<|cBlock<|cR<|mv5 rfl rfl rfl rfl rfl<|mT<|cCond rfl (fun hc1=>?_) (fun hc1=>?_)
 ·refine cR<|mW rfl<|mT<|cRet<|bR<|tR ?_;exact rQ rfl (le_int (by have h0:=digs_len x.natAbs;simp only [beq_iff_eq,beq_eq_false_iff_ne,ne_eq,bne_iff_ne,bne_eq_false_iff_eq,decide_eq_true_eq,decide_eq_false_iff_not] at hc1;unfold sgn;(repeat' split) <;> omega))
 ·refine cR<|mv3 rfl rfl rfl<|mT<|cCond rfl (fun hc2=>?_) (fun hc2=>?_)
  ·refine cR<|mW rfl<|mT<|cRet<|bR<|tR ?_;exact rQ rfl (le_int (by have h0:=digs_len x.natAbs;simp only [beq_iff_eq,beq_eq_false_iff_ne,ne_eq,bne_iff_ne,bne_eq_false_iff_eq,decide_eq_true_eq,decide_eq_false_iff_not] at hc1 hc2;unfold sgn;(repeat' split) <;> omega))
  ·refine cSkip<|bN<|tN<|cR<|mW rfl<|mT<|cRet ?_;exact rQ rfl (le_int (by have h0:=digs_len x.natAbs;simp only [beq_iff_eq,beq_eq_false_iff_ne,ne_eq,bne_iff_ne,bne_eq_false_iff_eq,decide_eq_true_eq,decide_eq_false_iff_not] at hc1 hc2;unfold sgn;(repeat' split) <;> omega))
theorem aRZero{a:List Lf}{K:Nat}{x:Int}(ha:IsR a K x):ACall Tryz.prog 99 [.agg a] (.d (.one (.v (.bool (decide (x=0)))))):=by
 exact ACall.le (dl (DV.g ha) dl0) AV.le.rfl<|aN 7 [.tmp 2] Tryz.func99 rfl<|cR<|mO rfl<|mW rfl<|mT<|cR<|mv5 rfl rfl rfl rfl rfl<|mT<|cRet<|rQ rfl (le_bool (by have h0:=digs_len x.natAbs;rw [Bool.eq_iff_iff,beq_iff_eq,decide_eq_true_eq];omega))
theorem aRCmp{a b:List Lf}{K L:Nat}{x y:Int}(ha:IsR a K x)(hb:IsR b L y)(hK:K≤1000000000:=by first|decide|omega)(hL:L≤1000000000:=by first|decide|omega):ACall Tryz.prog 90 [.agg a,.agg b] (.d (.one (.v (.int .i64 (cmpZ x y))))):=by
 refine ACall.le (dl (DV.g ha) (dl (DV.g hb) dl0)) AV.le.rfl<|aN 9 [.tmp 4] Tryz.func90 rfl<|cR<|mO rfl<|mO rfl<|mW rfl<|mT<|cR<|mv2 rfl rfl<|mY (aRSub (isr K x) (isr L y) (M:=(max K L+1))) rfl<|mY (aRSign (isr (max K L+1) (x-y))) rfl<|mW rfl<|mT<|cRet ?_;exact rQ rfl (le_int (by simp only [sgn,cmpZ];(repeat' split) <;> omega))
theorem dle{a b:DV}(h:AV.le (.d a) (.d b)):∀ B w v,DR B w a v→DR B w b v:=fun B w v hv=>h (fun _=>none) B w v hv
theorem le_tup{xs ys:List DV}(h:DsLe xs ys):AV.le (.tup xs) (.tup ys):=fun ρ B w v ⟨cs,e,hl⟩=>⟨cs,e,h.ok hl⟩
section
variable {T:TypeId→Option TI} {s:AS} {t e:TypeId} {ti te:TI} {x ix:Operand} {k:IntKind} {z:Int} {sz n id:Nat} {el:Nat→Nat→Lf}
theorem ixR(h1:T t=some ti)(h2:ti.elem=some e)(h3:T e=some te)(h4:ints2 s ix=some (k,z))(h5:geto s x=some (.d (.one (.row sz n el))))(h6:Nat.beq sz te.n=true)(hz:0≤z)(hz2:z < (n:Int)):evV T s (.indexAddr t x ix)=some (.d (.one (.at sz (el z.toNat)))):=by
 have h6':=Nat.eq_of_beq_eq_true h6;simp only [evV,h1,h2,h3,h4,h5];rw [if_pos ⟨h6',hz,hz2⟩];rfl
theorem ixO{e':TypeId}(h1:T t=some ti)(h2:ti.elem=some e)(h3:T e=some te)(h4:ints2 s ix=some (k,z))(h5:geto s x=some (.own id))(h7:lk s.hp id=some (.row e' sz n el))(h6:Nat.beq sz te.n=true)(hz:0≤z)(hz2:z < (n:Int)):evV T s (.indexAddr t x ix)=some (.eptr id sz z.toNat 0):=by
 have h6':=Nat.eq_of_beq_eq_true h6;simp only [evV,h1,h2,h3,h4,h5,h7];rw [if_pos ⟨h6',hz,hz2⟩]
theorem slR{hi:Operand}(h1:T t=some ti)(h2:ti.elem=some e)(h3:T e=some te)(h4:ints2 s hi=some (k,z))(h5:geto s x=some (.d (.one (.row sz n el))))(h6:Nat.beq sz te.n=true)(hz:0≤z)(hz2:z≤(n:Int)):evV T s (.slice t x none (some hi) none)=some (.d (.one (.row sz z.toNat el))):=by
 have h6':=Nat.eq_of_beq_eq_true h6;simp only [evV,h1,h2,h3,h5,bndV,h4,if_pos hz];rw [if_pos ⟨h6',Nat.zero_le _,by omega⟩];show some (AV.d (.one (.row sz (z.toNat-0) fun i j=>el (0+i) j)))=_
 simp only [Nat.sub_zero,Nat.zero_add]
theorem mkO{l c:Operand}{zl zc:Int}{k':IntKind}{bts nn:Nat}{zz:List Value}(h1:T t=some ti)(h2:ti.elem=some e)(h3:T e=some te)(h4:ints2 s l=some (k,zl))(h5:ints2 s c=some (k',zc))(h0:0≤zl)(h6:zl≤zc)(hb:te.bytes=bts)(hn:te.n=nn)(hzz:te.zero=zz)(h7:(bts:Int)*zc≤140737488355328)(h8:zc≤9223372036854775807)(h9:Nat.beq te.zero.length te.n=true):evN T s (.makeSlice t l c)=some (.row e nn zl.toNat fun _ j=> .v ((zz[j]?).getD undef)):=by
 have h9':=Nat.eq_of_beq_eq_true h9;subst hb;subst hn;subst hzz;simp only [evN,h1,h2,h3,h4,h5];rw [if_pos ⟨h0,h6,h7,h8,h9'⟩]
end
theorem inc64{i:Nat}(h:i < 1000000001:=by omega):IntKind.i64.wrap ((i:Int)+1)=((i+1:Nat):Int):=(wr64 (by omega) (by omega)).trans (by omega)
theorem leo_row0{e:TypeId}{sz:Nat}{el el':Nat→Nat→Lf}:AO.le (.row e sz 0 el) (.row e sz 0 el'):=leo_row fun i hi=>absurd hi (Nat.not_lt_zero _)
/-! ### Small numbers -/
theorem shr32(m:Nat):Int.fdiv (m:Int) (2^(min (Int.toNat 32) 64))=((m / 4294967296:Nat):Int):=by
 rw [Int.fdiv_eq_ediv_of_nonneg _ (by decide)];exact (Int.natCast_ediv m 4294967296).symm
theorem of_row{m:Nat}{el:Nat→Nat→Lf}(hm:m < 18446744073709551616)(h0:el 0 0= .v (.int .u32 ((m%4294967296:Nat):Int)):=by rfl)(h1:el 1 0= .v (.int .u32 ((m / 4294967296:Nat):Int)):=by rfl):IsL (.row 1 2 el) 2 m:=by
 refine (isl_row (xs:= [m%4294967296,m / 4294967296]) rfl ?_ ?_).eq ?_
 ·intro x hx
  simp only [B32];rcases List.mem_cons.1 hx with rfl | hx
  ·exact Nat.mod_lt _ (by decide)
  ·rcases List.mem_cons.1 hx with rfl | hx
   ·omega
   ·simp at hx
 ·intro i hi
  match i,hi with
  | 0,_=>exact h0
  | 1,_=>exact h1
 ·show m%4294967296+B32*(m / 4294967296+B32*0)=m
  simp only [B32];omega
theorem one_row{el:Nat→Nat→Lf}(h0:el 0 0= .v (.int .u32 1):=by rfl):IsL (.row 1 1 el) 1 1:=by
 refine (isl_row (xs:= [1]) rfl ?_ ?_).eq rfl
 ·intro x hx
  simp at hx;subst hx;decide
 ·intro i hi
  have hi':i < 1:=hi;obtain rfl:i=0:=by omega
  exact h0
theorem neg_wrap2(n:Int)(h:n < 0)(h1: -9223372036854775808≤n):IntKind.u64.wrap (0-IntKind.u64.wrap n)=(n.natAbs:Int):=by
 rw [wrap_u64,wrap_u64];omega
theorem pos_wrap2(n:Int)(h:¬ n < 0)(h1:n≤9223372036854775807):IntKind.u64.wrap n=(n.natAbs:Int):=by
 rw [wrap_u64];omega
theorem dm1(t:Bool)(m n:Nat)(hn:n≠0):zv (false !=t) (m / n)=zv false m / zv t n∧zv false (modZ m n)=zv false m%zv t n:=by
 have h:=Nat.div_add_mod m n;have hlt:=Nat.mod_lt m (Nat.pos_of_ne_zero hn);refine euc ?_ ?_ ?_
 ·unfold modZ;rw [if_neg hn]
  have h2:((n*(m / n)+m%n:Nat):Int)=m:=by rw [h]
  rw [Int.natCast_add,Int.natCast_mul] at h2;cases t
  ·exact h2.symm
  ·show (m:Int)= -(n:Int)* -(((m / n:Nat)):Int)+(m%n:Nat)
   rw [Int.neg_mul_neg];exact h2.symm
 ·show (0:Int)≤(modZ m n:Nat);exact Int.natCast_nonneg _
 ·rw [zv_abs];show ((modZ m n:Nat):Int) < _
  unfold modZ;rw [if_neg hn];omega
theorem dm2(t:Bool)(m n:Nat)(hn:n≠0)(h0:modZ m n=0):zv (true !=t) (m / n)=zv true m / zv t n∧zv false (modZ m n)=zv true m%zv t n:=by
 have h:=Nat.div_add_mod m n;have h0':m%n=0:=by unfold modZ at h0;rw [if_neg hn] at h0;exact h0
 rw [h0];refine euc ?_ (by decide) (by rw [zv_abs];show (0:Int) < _;omega);have h2:((n*(m / n)+m%n:Nat):Int)=m:=by rw [h]
 rw [h0',Nat.add_zero,Int.natCast_mul] at h2;cases t
 ·show -(m:Int)=(n:Int)* -(((m / n:Nat)):Int)+(0:Nat)
  rw [Int.mul_neg,h2];simp
 ·show -(m:Int)= -(n:Int)*(((m / n:Nat)):Int)+(0:Nat)
  rw [Int.neg_mul,h2];simp
theorem dm3(t:Bool)(m n:Nat)(hn:n≠0)(h0:0 < modZ m n):zv (true !=t) (m / n+1)=zv true m / zv t n∧zv false (n-modZ m n)=zv true m%zv t n:=by
 have h:=Nat.div_add_mod m n;have hlt:=Nat.mod_lt m (Nat.pos_of_ne_zero hn);have e:modZ m n=m%n:=by unfold modZ;rw [if_neg hn]
 rw [e] at h0 ⊢;refine euc ?_ ?_ ?_
 ·have h2:((n*(m / n)+m%n:Nat):Int)=m:=by rw [h]
  rw [Int.natCast_add,Int.natCast_mul] at h2;have h3:((n-m%n:Nat):Int)=(n:Int)-(m%n:Nat):=by omega
  generalize m / n=q at h2 ⊢;generalize m%n=r at h2 h3 ⊢;cases t
  ·show -(m:Int)=(n:Int)* -((((q+1):Nat)):Int)+((n-r:Nat):Int)
   rw [h3,Int.natCast_add,Int.mul_neg,Int.mul_add];simp;omega
  ·show -(m:Int)= -(n:Int)*((((q+1):Nat)):Int)+((n-r:Nat):Int)
   rw [h3,Int.natCast_add,Int.neg_mul,Int.mul_add];simp;omega
 ·show (0:Int)≤((n-m%n:Nat):Int);exact Int.natCast_nonneg _
 ·rw [zv_abs];show ((n-m%n:Nat):Int) < _
  omega
/-- The greatest common divisor of the first n. -/
def gcdN(c:Nat→Int):Nat→Nat
 | 0=>0
 | n+1=>Nat.gcd (gcdN c n) (c n).natAbs
theorem gcdN_one{c:Nat→Int}{k n:Nat}(h:gcdN c k=1)(hk:k≤n):gcdN c n=1:=by
 obtain ⟨d,rfl⟩:=Nat.exists_eq_add_of_le hk;clear hk
 induction d with
 | zero=>exact h
 | succ d ih=>show Nat.gcd (gcdN c (k+d)) _=1;rw [ih,Nat.gcd_one_left]
theorem limbs1{m:Nat}:(limbs m).length=1∧(limbs m).getD 0 0=1↔m=1:=by
 constructor
 ·rintro ⟨h1,h2⟩
  have h3:=val_limbs m
  match h:limbs m,h1 with
  | [x],_=>
   rw [h] at h2 h3;simp at h2;subst h2;rw [← h3];rfl
 ·rintro rfl;exact ⟨rfl,rfl⟩
/-! ### A region that draws, order by order -/
section
variable {P:Program} {ops:Array Oper} {Q:Qs} {s:AS}
def AllI(p:Nat→Prop):List Nat→Prop
 | []=>True
 | i ::l=>p i∧AllI p l
theorem AllI.get{p:Nat→Prop}:∀ {l:List Nat},AllI p l→∀ i∈l,p i
 | i ::l,h,k,hk=>by
  rcases List.mem_cons.1 hk with rfl | hk
  ·exact h.1
  ·exact AllI.get h.2 k hk
def AnyA(P:Program)(ops:Array Oper)(Q:Qs):Nat→Array Bool→AS→Prop
 | 0,listed,s=>Region.ready .any ops listed= []∧Q .normal s
 | n+1,listed,s=>(Region.ready .any ops listed= []→Q .normal s)∧∀ i∈Region.ready .any ops listed,∃ o,ops[i]?=some o∧AL P ops (thn (AnyA P ops Q n (listed.setIfInBounds i true)) Q) [o] s
theorem anyS{n:Nat}{listed:Array Bool}(rs:List Nat)(hr:Region.ready .any ops listed=rs)(hne:rs.isEmpty=false)(h:AllI (fun i=>∃ o,ops[i]?=some o∧AL P ops (thn (AnyA P ops Q n (listed.setIfInBounds i true)) Q) [o] s) rs):AnyA P ops Q (n+1) listed s:=
 ⟨fun e=>absurd (hr.symm.trans e) (fun e2=>by subst e2;exact Bool.noConfusion hne),hr▸h.get⟩
theorem anyN{n:Nat}{listed:Array Bool}(hr:Region.ready .any ops listed= [])(h:Q .normal s):AnyA P ops Q n listed s:=by
 cases n with
 | zero=>exact ⟨hr,h⟩
 | succ n=>exact ⟨fun _=>h,by rw [hr];intro i hi;simp at hi⟩
theorem any_sound{B0:BS}{w0:World}:∀ (n:Nat) (listed:Array Bool) (s:AS) (a:Act) (w:World),AnyA P ops Q n listed s→Den s B0 w0 a w→wpAny P .any ops (DQ Q B0 w0) n listed a w
 | 0,listed,s,a,w,h,hd=>⟨h.1,s,h.2,hd⟩
 | n+1,listed,s,a,w,h,hd=>by
  refine ⟨fun e=>⟨s,h.1 e,hd⟩,fun i hi=>?_⟩;obtain ⟨o,ho,hal⟩:=h.2 i hi;have h1:=hal B0 w0 a w hd;unfold wpOp;rw [ho];simp only [wpList] at h1 ⊢;have hk:∀ a w,DQ (thn (AnyA P ops Q n (listed.setIfInBounds i true)) Q) B0 w0 .normal a w→wpAny P .any ops (DQ Q B0 w0) n (listed.setIfInBounds i true) a w:=fun a w ⟨s',h3,h4⟩=>any_sound n _ s' a w h3 h4
  split
  ·rename_i hw
   rw [if_pos hw] at h1;rcases h1 with h1 | ⟨h1,h2⟩
   ·refine Or.inl ?_
    have h3:=Oper.wp_mono hk h1;unfold Oper.wp at h3 ⊢;generalize (execOp a.eval o).run P w=r at h3 ⊢;cases r <;> first | exact h3 | (rename_i x w';cases x <;> exact h3)
   ·exact Or.inr ⟨h1,h2⟩
  ·rename_i hw
   rw [if_neg hw] at h1;exact hk _ _ h1
end
theorem aZero{a:List Lf}{K:Nat}{z:Int}(ha:IsN a K z):ACall Tryz.prog 51 [.agg a] (.d (.one (.v (.bool (decide (z=0)))))):=by
 exact ACall.le (dl (DV.g ha) dl0) AV.le.rfl<|aN 7 [.tmp 2] Tryz.func51 rfl<|cR<|mO rfl<|mW rfl<|mT<|cR<|mv5 rfl rfl rfl rfl rfl<|mT<|cRet<|rQ rfl (le_bool (by have h0:=limbs_len z.natAbs;rw [Bool.eq_iff_iff,beq_iff_eq,decide_eq_true_eq];omega))
theorem aOf{n:Int}(h1: -9223372036854775808≤n:=by first|decide|omega)(h2:n≤9223372036854775807:=by first|decide|omega):ACall Tryz.prog 94 [.one (.v (.int .i64 n))] (.d (.agg (zn 2 n))):=by
 refine aN 20 [.cell 2 42] Tryz.func94 rfl<|cR<|mO rfl<|mT<|cR<|mv3 rfl rfl rfl<|mT<|cSeq<|cR<|mv2 rfl rfl<|mT<|cCond rfl (fun hc1=>?_) (fun hc1=>?_)
 ·exact cReg<|mW rfl<|mV hTT (.d (.one (.v (.int .u64 ((n.natAbs:Nat):Int))))) (evi (neg_wrap2 n (of_decide_eq_true hc1) h1))<|mW rfl<|mT<|cR<|mW rfl<|mV hTT (.d (.one (.v (.int .u32 ((n.natAbs%4294967296:Nat):Int))))) (evi (by rw [wrap_u32];omega))<|mW rfl<|mV hTT (.d (.one (.v (.int .u64 ((n.natAbs / 4294967296:Nat):Int))))) (evi (shr32 _))<|mV hTT (.d (.one (.v (.int .u32 ((n.natAbs / 4294967296:Nat):Int))))) (evi (by rw [wrap_u32];omega))<|mB hTT (.d (.one (.row 1 2 (fun i' j'=>(([.v (.int .u32 ((n.natAbs%4294967296:Nat):Int)),.v (.int .u32 ((n.natAbs / 4294967296:Nat):Int))])[i'*1+j']?).getD (.v undef))))) rfl<|mY (aLNorm (of_row (m:=n.natAbs) (by omega))) rfl<|mv2 rfl rfl<|mY (aMade rfl) rfl<|mZ rfl<|mT<|cRet<|rQ rfl (le_zn (Nat.le_refl _) (zv_natAbs n))
 ·exact cSkip<|tN<|cSeq<|cView 3 (.d (.one (.v (.int .u64 ((n.natAbs:Nat):Int))))) rfl (le_int (pos_wrap2 n (of_decide_eq_false hc1) h2))<|cReg<|mW rfl<|mV hTT (.d (.one (.v (.int .u32 ((n.natAbs%4294967296:Nat):Int))))) (evi (by rw [wrap_u32];omega))<|mW rfl<|mV hTT (.d (.one (.v (.int .u64 ((n.natAbs / 4294967296:Nat):Int))))) (evi (shr32 _))<|mV hTT (.d (.one (.v (.int .u32 ((n.natAbs / 4294967296:Nat):Int))))) (evi (by rw [wrap_u32];omega))<|mB hTT (.d (.one (.row 1 2 (fun i' j'=>(([.v (.int .u32 ((n.natAbs%4294967296:Nat):Int)),.v (.int .u32 ((n.natAbs / 4294967296:Nat):Int))])[i'*1+j']?).getD (.v undef))))) rfl<|mY (aLNorm (of_row (m:=n.natAbs) (by omega))) rfl<|mv2 rfl rfl<|mY (aMade rfl) rfl<|mZ rfl<|mT<|cRet<|rQ rfl (le_zn (Nat.le_refl _) (zv_natAbs n))
theorem aDivMod{a b:List Lf}{K L M:Nat}{x y:Int}(ha:IsZ a K x)(hb:IsZ b L y)(hy:y≠0)(hM:max K 1+1≤M:=by first|decide|omega)(hK:K≤1073741823:=by first|decide|omega)(hL:L≤1073741823:=by first|decide|omega):ACall Tryz.prog 161 [.agg a,.agg b] (.tup [.agg (zn M (x / y)),.agg (zn L (x%y)),.one (.v (.int .i64 0))]):=by
 obtain ⟨s,xs,ha,rfl⟩:=ha;obtain ⟨t,ys,hb,rfl⟩:=hb;refine ACall.le (dl (DV.z ha) (dl (DV.z hb) dl0)) AV.le.rfl ?_;have hn:val ys≠0:=fun e=>hy (by rw [e];cases t <;> rfl)
 cases s
 ·refine aN 60 [.cell 4 42,.cell 5 42,.tmp 6] Tryz.func161 rfl<|cR<|mO rfl<|mO rfl<|mO rfl<|mO rfl<|mW rfl<|mT<|cR<|mv4 rfl rfl rfl rfl<|mY (aLDiv (islv K xs) (islv L ys)) rfl<|mv6 rfl rfl rfl rfl rfl rfl<|mW rfl<|mT<|cSeq<|cR<|mW rfl<|mbF rfl (by rw [show divErr (val ys)=0 from if_neg hn];rfl)<|mT<|cFs rfl<|cR<|mv6 rfl rfl rfl rfl rfl rfl<|mY (aMade rfl) rfl<|mW rfl<|mY (aMade rfl) rfl<|mZ rfl<|mZ rfl<|mT<|cSeq<|cR<|mv3 rfl rfl rfl<|mG rfl rfl<|mG rfl rfl<|mG rfl rfl<|mW rfl<|mT<|cFs rfl<|cSeq<|cDs 5<|pV rfl<|pV rfl<|.cons (OpS.S 4 (.box 42 (zn K (zv (!(false==t)) ((val xs) / (val ys))))) rfl rfl) (by kernel_rfl)<|.cons (OpS.S 5 (.box 42 (zn L (zv false (modZ (val xs) (val ys))))) rfl rfl) (by kernel_rfl)<|.cons (OpS.V _ rfl) (by kernel_rfl)<|.nil<|mT<|cRet ?_;obtain ⟨e1,e2⟩:=dm1 t (val xs) (val ys) hn;exact rQ rfl (le_tup (dl (dle (le_zn (by omega) e1)) (dl (dle (le_zn (Nat.le_refl _) e2)) (dl DV.same dl0))))
 ·refine aN 60 [.cell 4 42,.cell 5 42,.tmp 6] Tryz.func161 rfl<|cR<|mO rfl<|mO rfl<|mO rfl<|mO rfl<|mW rfl<|mT<|cR<|mv4 rfl rfl rfl rfl<|mY (aLDiv (islv K xs) (islv L ys)) rfl<|mv6 rfl rfl rfl rfl rfl rfl<|mW rfl<|mT<|cSeq<|cR<|mW rfl<|mbF rfl (by rw [show divErr (val ys)=0 from if_neg hn];rfl)<|mT<|cFs rfl<|cR<|mv6 rfl rfl rfl rfl rfl rfl<|mY (aMade rfl) rfl<|mW rfl<|mY (aMade rfl) rfl<|mZ rfl<|mZ rfl<|mT<|cSeq<|cR<|mv6 rfl rfl rfl rfl rfl rfl<|mW rfl<|mT<|cCond rfl (fun hc1=>?_) (fun hc1=>?_)
  ·refine cR<|mW rfl<|mB hTT (.d (.one (.row 1 1 (fun i' j'=>(([.v (.int .u32 1)])[i'*1+j']?).getD (.v undef))))) rfl<|mY (aLAdd (isl K ((val xs) / (val ys))) one_row (M:=(max K 1+1))) rfl<|mW rfl<|mT<|cR<|mv3 rfl rfl rfl<|mY (aLSub (islv L ys) (isl L (modZ (val xs) (val ys)))) rfl<|mv4 rfl rfl rfl rfl<|mT<|cReg<|mv6 rfl rfl rfl rfl rfl rfl<|mY (aMade rfl) rfl<|mW rfl<|mY (aMade rfl) rfl<|mZ rfl<|mZ rfl<|mT<|cSeq<|cDs 5<|pV rfl<|pV rfl<|.cons (OpS.S 4 (.box 42 (zn (max K 1+1) (zv (!(true==t)) (((val xs) / (val ys))+1)))) rfl rfl) (by kernel_rfl)<|.cons (OpS.S 5 (.box 42 (zn L (zv false ((val ys)-(modZ (val xs) (val ys)))))) rfl rfl) (by kernel_rfl)<|.cons (OpS.V _ rfl) (by kernel_rfl)<|.nil<|mT<|cRet ?_;obtain ⟨e1,e2⟩:=dm3 t (val xs) (val ys) hn (Nat.pos_of_ne_zero fun e=>by have h0:=of_decide_eq_true hc1;rw [e] at h0;exact absurd h0 (by decide));exact rQ rfl (le_tup (dl (dle (le_zn (by omega) e1)) (dl (dle (le_zn (Nat.le_refl _) e2)) (dl DV.same dl0))))
  ·refine cSkip<|tN<|cSeq<|cDs 5<|pV rfl<|pV rfl<|.cons (OpS.S 4 (.box 42 (zn K (zv (!(true==t)) ((val xs) / (val ys))))) rfl rfl) (by kernel_rfl)<|.cons (OpS.S 5 (.box 42 (zn L (zv false (modZ (val xs) (val ys))))) rfl rfl) (by kernel_rfl)<|.cons (OpS.V _ rfl) (by kernel_rfl)<|.nil<|mT<|cRet ?_;obtain ⟨e1,e2⟩:=dm2 t (val xs) (val ys) hn (by have h0:=of_decide_eq_false hc1;have h1:=limbs_len (modZ (val xs) (val ys));omega);exact rQ rfl (le_tup (dl (dle (le_zn (by omega) e1)) (dl (dle (le_zn (Nat.le_refl _) e2)) (dl DV.same dl0))))
theorem aExact{a b:List Lf}{K L M:Nat}{x y:Int}(ha:IsZ a K x)(hb:IsZ b L y)(hy:y≠0)(hd:y∣x)(hM:max K 1+1≤M:=by first|decide|omega)(hK:K≤1073741823:=by first|decide|omega)(hL:L≤1073741823:=by first|decide|omega):ACall Tryz.prog 181 [.agg a,.agg b] (.tup [.agg (zn M (x / y)),.one (.v (.int .i64 0))]):=by
 obtain ⟨sa,xa,ha,ea⟩:=ha;obtain ⟨sb,xb,hb,eb⟩:=hb;exact ACall.le (dl (DV.z ha) (dl (DV.z hb) dl0)) AV.le.rfl<|aN 26 [.cell 4 42,.tmp 5] Tryz.func181 rfl<|cR<|mO rfl<|mO rfl<|mO rfl<|mW rfl<|mT<|cR<|mv2 rfl rfl<|mY (aDivMod ⟨sa,xa,fun _ _ _ h=>h,ea⟩ ⟨sb,xb,fun _ _ _ h=>h,eb⟩ hy (M:=(max K 1+1)) (by omega) (by omega) (by omega)) rfl<|mv4 rfl rfl rfl rfl<|mO rfl<|mO rfl<|mZ rfl<|mZ rfl<|mW rfl<|mT<|cSeq<|cR<|mv2 rfl rfl<|mT<|cFs rfl<|cSeq<|cR<|mv3 rfl rfl rfl<|mdF rfl (by rw [Int.emod_eq_zero_of_dvd hd];decide)<|mT<|cFs rfl<|cR<|mW rfl<|mZ rfl<|mW rfl<|mT<|cRet<|rQ rfl (le_tup (dl (dle (le_zn hM rfl)) (dl DV.same dl0)))
theorem aGcd{l:Lf}{K n:Nat}{c:Nat→Int}(ha:IsP l K n c)(hn:n≤1000000:=by first|decide|omega)(hK:K≤1073741823:=by first|decide|omega):ACall Tryz.prog 180 [.one l] (.d (.agg (zn K (gcdN c n:Nat)))):=by
 obtain ⟨⟨f,ha,hf⟩,hz⟩:=ha;refine ACall.le (dl (DV.l ha) dl0) AV.le.rfl<|aN 44 [.cell 2 42] Tryz.func180 rfl<|cR<|mO rfl<|mT<|cR<|mW rfl<|mT<|cSeq<|cSeq<|cView 3 (.d (.one (ln K (gcdN c 0)))) rfl (nil_lr K)<|cReg<|mv3 rfl rfl rfl<|mT<|cBlock<|cLoop (ι:=Nat) (fun (i:Nat)=>⟨44,[(2,.ptr 2 0),(10,.d (.one (.row 2 n (ael K f)))),(11,.d (.one (.v (.int .i64 (n:Int))))),(12,.d (.one (.v (.int .i64 ((i:Nat):Int))))),(3,.d (.one (ln K (gcdN c i))))],[(2,.box 42 ([.v (.bool false),.v (.slice none 0 0)]))]⟩) (fun (i:Nat)=>i≤n) (fun (i:Nat)=>n-i) 0 (Nat.zero_le _) (wkr rfl rfl) ?_;rintro i hI;have hi0:i≤n:=hI;show AW _ _ _ ⟨_,_,_⟩
 refine cR<|mW rfl<|mT<|cSeq<|cCond rfl (fun hc1=>?_) (fun hc1=>?_)
 ·refine cSkip<|tN<|cSeq<|cBlock<|cSeq ?_;have hi:i < n:=by have h0:=of_decide_eq_true hc1;omega
  refine cReg<|mV hTT (.d (.one (.at 2 ((ael K f) i)))) (ixR (el:=(ael K f)) (z:=((i:Nat):Int)) (n:=n) rfl rfl rfl rfl rfl rfl (by omega) (by omega)) ?_;refine mW rfl<|mO rfl<|mZ rfl<|mT<|cR<|mv2 rfl rfl<|mY (aLNorm (islv K ((f i).2))) rfl<|mW rfl<|mT<|cSeq<|cBlock<|cLoop (ι:=Nat×Nat) (fun (p:Nat×Nat)=>match p with | (x,y)=>⟨44,[(2,.ptr 2 0),(10,.d (.one (.row 2 n (ael K f)))),(11,.d (.one (.v (.int .i64 (n:Int))))),(12,.d (.one (.v (.int .i64 ((i:Nat):Int))))),(3,.d (.one (ln K x))),(6,.d (.one (ln K y)))],[(2,.box 42 ([.v (.bool false),.v (.slice none 0 0)]))]⟩) (fun (p:Nat×Nat)=>match p with | (x,y)=>Nat.gcd x y=gcdN c (i+1)) (fun (p:Nat×Nat)=>match p with | (x,y)=>y) ((gcdN c i),(val (f i).2)) (by show Nat.gcd (gcdN c i) (val (f i).2)=Nat.gcd (gcdN c i) (c i).natAbs;rw [← hf i hi,show (fzv f i).natAbs=val (f i).2 from zv_abs _ _]) (wkr rfl rfl) ?_;rintro ⟨x,y⟩ hI;have hg:Nat.gcd x y=gcdN c (i+1):=hI;show AW _ _ _ ⟨_,_,_⟩
  refine cSeq<|cR<|mv3 rfl rfl rfl<|mT<|cCond rfl (fun hc2=>?_) (fun hc2=>?_)
  ·refine cSkip<|tN<|cBlock<|cSeq ?_;have hy0:y≠0:=fun e=>by have h0:=of_decide_eq_true hc2;rw [e] at h0;exact absurd h0 (by decide)
   exact cReg<|mv2 rfl rfl<|mY (aLDiv (isl K x) (isl K y)) rfl<|mv6 rfl rfl rfl rfl rfl rfl<|mW rfl<|mT<|cReg<|mv4 rfl rfl rfl rfl<|mNil<|bN<|⟨(y,(modZ x y)),by show Nat.gcd y (modZ x y)=_;unfold modZ;rw [if_neg hy0,← hg,Nat.gcd_comm x y,Nat.gcd_rec y x,Nat.gcd_comm],by show modZ x y < y;unfold modZ;rw [if_neg hy0];exact Nat.mod_lt _ (Nat.pos_of_ne_zero hy0),wkr rfl rfl⟩
  ·refine cExit<|tE<|tE<|bE<|tN<|cSeq ?_;have hy0:y=0:=by have h0:=of_decide_eq_false hc2;have h1:=limbs_len y;omega
   have hx:x=gcdN c (i+1):=by rw [← hg,hy0,Nat.gcd_zero_right]
   by_cases hl1:(limbs x).length=1
   ·refine cReg<|mv2 rfl rfl<|mbT rfl (by rw [hl1];rfl)<|mv2 rfl rfl<|mView 35 (.d (.one (.row 1 ((limbs x).length) (fun i _=> .v (.int .u32 (((limbs x).getD i 0:Nat):Int)))))) rfl (le_lrow _ _)<|mV hTT (.d (.one (.at 1 ((fun i _=> .v (.int .u32 (((limbs x).getD i 0:Nat):Int))) 0)))) (ixR (el:=(fun i _=> .v (.int .u32 (((limbs x).getD i 0:Nat):Int)))) (z:=0) (n:=((limbs x).length)) rfl rfl rfl rfl rfl rfl (by decide) (by rw [hl1];decide)) ?_;refine mv3 rfl rfl rfl<|mT<|cCond rfl (fun hc3=>?_) (fun hc3=>?_)
    ·refine cExit<|bX rfl<|tE<|tE<|bE<|tN<|cR<|mW rfl<|mY (aLNorm (isl K x)) rfl<|mY (aMade rfl) rfl<|mZ rfl<|mT<|cRet ?_;have h1:x=1:=limbs1.1 ⟨hl1,by have h0:=eq_of_beq hc3;exact Int.ofNat_inj.1 h0⟩;exact rQ rfl (le_zn (Nat.le_refl _) (by show ((x:Nat):Int)=_;rw [h1,gcdN_one (hx▸h1) (show i+1≤n from hi)]))
    ·exact cSkip<|bN<|tN<|cReg<|mv2 rfl rfl<|mNil<|⟨(i+1),by omega,by omega,wk rfl ⟨hs rfl,hs rfl,hs rfl,hs' rfl (le_int (inc64 (by omega))),hs' rfl (le_one (hx▸fun _ _ _ h=>h)),trivial⟩ ⟨ho rfl,trivial⟩ rfl⟩
   ·exact cReg<|mv2 rfl rfl<|mbF rfl (beq_eq_false_iff_ne.2 fun e=>hl1 (by exact_mod_cast e))<|mW rfl<|mG rfl rfl<|mG rfl rfl<|mG rfl rfl<|mG rfl rfl<|mW rfl<|mT<|cF rfl<|cSkip<|bN<|tN<|cReg<|mv2 rfl rfl<|mNil<|⟨(i+1),by omega,by omega,wk rfl ⟨hs rfl,hs rfl,hs rfl,hs' rfl (le_int (inc64 (by omega))),hs' rfl (le_one (hx▸fun _ _ _ h=>h)),trivial⟩ ⟨ho rfl,trivial⟩ rfl⟩
 ·refine cExit<|tE<|tE<|bE<|tN<|cR<|mW rfl<|mY (aLNorm (isl K (gcdN c i))) rfl<|mY (aMade rfl) rfl<|mZ rfl<|mT<|cRet ?_;have hin:i=n:=by have h0:=of_decide_eq_false hc1;omega
  exact rQ rfl (le_zn (Nat.le_refl _) (by rw [hin];rfl))
/-- Made: all are 0. -/
theorem leo_zero{e:TypeId}{n K:Nat}{c:Nat→Int}(h:∀ i,i < n→c i=0):AO.le (.row e 2 n fun _ j=> .v ((([Value.bool false,Value.slice none 0 0]:List Value)[j]?).getD undef)) (.row e 2 n (zel K c)):=by
 refine leo_row fun i hi j hj B w v hv=>?_
 unfold zel;rw [h i hi]
 match j,hj with
 | 0,_=>exact hv
 | 1,_=>exact nil_lr K (fun _=>none) B w v hv
theorem cell_z{K L:Nat}{z y:Int}(hK:K≤L)(e:z=y):∀ q,q < 2→∀ B w v,LfR B w (((zn K z)[q]?).getD (.v undef)) v→LfR B w (((zn L y)[q]?).getD (.v undef)) v:=by
 subst e;intro q hq B w v hv
 match q,hq with
 | 0,_=>exact hv
 | 1,_=>exact lr_mono hK _ _ _ hv
theorem cell_q{K L:Nat}{z y:Rat}(hK:K≤L)(e:z=y):∀ q,q < 4→∀ B w v,LfR B w (((qn K z)[q]?).getD (.v undef)) v→LfR B w (((qn L y)[q]?).getD (.v undef)) v:=by
 subst e;intro q hq B w v hv
 match q,hq with
 | 0,_=>exact dr_mono hK _ _ _ hv
 | 1,_=>exact hv
 | 2,_=>exact dr_mono hK _ _ _ hv
 | 3,_=>exact hv
/-- One element is written. -/
theorem st_z{e:TypeId}{n i K L M:Nat}{c d:Nat→Int}{z:Int}(hK:K≤L)(hM:M≤L)(hz:z=d i)(h:∀ p,p < n→p≠i→c p=d p):AO.le (.row e 2 n fun p q=>if p=i then ((zn M z)[q]?).getD (.v undef) else zel K c p q) (.row e 2 n (zel L d)):=by
 refine leo_row fun p hp q hq B w v hv=>?_
 by_cases hpi:p=i
 ·subst hpi
  rw [if_pos rfl] at hv;exact cell_z hM hz q hq _ _ _ hv
 ·rw [if_neg hpi] at hv
  unfold zel;exact cell_z hK (h p hp hpi) q hq _ _ _ hv
/-- Rationals, each of a bound of its own. -/
def qelv(Kf:Nat→Nat)(c:Nat→Rat):Nat→Nat→Lf:=fun i j=>((qn (Kf i) (c i))[j]?).getD (.v undef)
theorem st_q{e:TypeId}{n i M:Nat}{Kf Lf':Nat→Nat}{c d:Nat→Rat}{z:Rat}(hK:∀ p,p < n→p≠i→Kf p≤Lf' p)(hM:M≤Lf' i)(hz:z=d i)(h:∀ p,p < n→p≠i→c p=d p):AO.le (.row e 4 n fun p q=>if p=i then ((qn M z)[q]?).getD (.v undef) else qelv Kf c p q) (.row e 4 n (qelv Lf' d)):=by
 refine leo_row fun p hp q hq B w v hv=>?_
 by_cases hpi:p=i
 ·subst hpi
  rw [if_pos rfl] at hv;exact cell_q hM hz q hq _ _ _ hv
 ·rw [if_neg hpi] at hv
  exact cell_q (hK p hp hpi) (h p hp hpi) q hq _ _ _ hv
theorem leo_qelv{e:TypeId}{n:Nat}{Kf Lf':Nat→Nat}{c d:Nat→Rat}(hK:∀ p,p < n→Kf p≤Lf' p)(h:∀ p,p < n→c p=d p):AO.le (.row e 4 n (qelv Kf c)) (.row e 4 n (qelv Lf' d)):=
 leo_row fun p hp q hq B w v hv=>cell_q (hK p hp) (h p hp) q hq _ _ _ hv
theorem row_qelv{n K:Nat}{Kf:Nat→Nat}{c d:Nat→Rat}(hK:∀ p,p < n→Kf p≤K)(h:∀ p,p < n→c p=d p):∀ B w v,LfR B w (.row 4 n (qelv Kf c)) v→LfR B w (qrow K n d) v:=
 row_le fun p hp q hq B w v hv=>cell_q (hK p hp) (h p hp) q hq _ _ _ hv
/-- A row whose first ones are written; the others are still as they were made. -/
def qpre(K i:Nat)(c:Nat→Rat)(z:Nat→Lf):Nat→Nat→Lf:=fun p q=>if p < i then ((qn K (c p))[q]?).getD (.v undef) else z q
theorem st_pre{e:TypeId}{n i K M:Nat}{c:Nat→Rat}{z:Nat→Lf}{q0:Rat}(hM:M≤K)(hz:q0=c i):AO.le (.row e 4 n fun p q=>if p=i then ((qn M q0)[q]?).getD (.v undef) else qpre K i c z p q) (.row e 4 n (qpre K (i+1) c z)):=by
 refine leo_row fun p hp q hq B w v hv=>?_
 unfold qpre at *
 by_cases hpi:p=i
 ·subst hpi
  rw [if_pos rfl] at hv;rw [if_pos (by omega)];exact cell_q hM hz q hq _ _ _ hv
 ·rw [if_neg hpi] at hv
  by_cases hlt:p < i
  ·rw [if_pos hlt] at hv;rw [if_pos (by omega)];exact hv
  ·rw [if_neg hlt] at hv;rw [if_neg (by omega)];exact hv
theorem leo_pre{e:TypeId}{n K:Nat}{Kf:Nat→Nat}{c d:Nat→Rat}{z:Nat→Lf}(hK:∀ p,p < n→K≤Kf p)(h:∀ p,p < n→c p=d p):AO.le (.row e 4 n (qpre K n c z)) (.row e 4 n (qelv Kf d)):=by
 refine leo_row fun p hp q hq B w v hv=>?_
 unfold qpre at hv;rw [if_pos hp] at hv;exact cell_q (hK p hp) (h p hp) q hq _ _ _ hv
theorem leo_pre0{e:TypeId}{n K:Nat}{c:Nat→Rat}{z:Nat→Lf}:AO.le (.row e 4 n fun _ j=>z j) (.row e 4 n (qpre K 0 c z)):=by
 refine leo_row fun p hp q hq B w v hv=>?_
 unfold qpre;rw [if_neg (Nat.not_lt_zero _)];exact hv
/-- An element in any form, 0 where there is none. -/
def fx(n:Nat)(f:Nat→Bool×List Nat)(k:Nat):Bool×List Nat:=if k < n then f k else (false,[])
theorem fx_z{n k:Nat}{f:Nat→Bool×List Nat}{c:Nat→Int}(hf:∀ i,i < n→fzv f i=c i)(hz:∀ i,n≤i→c i=0):zv (fx n f k).1 (val (fx n f k).2)=c k:=by
 unfold fx
 by_cases h:k < n
 ·rw [if_pos h];exact hf k h
 ·rw [if_neg h];exact (hz k (by omega)).symm
theorem dg_down{α:Type}[DecidableEq α][OfNat α 0]{c:Nat→α}{n k:Nat}(h:dg c n=dg c k)(hk:k≠0)(h0:c (k-1)=0):dg c n=dg c (k-1):=by
 obtain ⟨j,rfl⟩:=Nat.exists_eq_succ_of_ne_zero hk;rw [h];exact dg_step h0
theorem maxNN(n m:Nat):(if (true=true) then (if (m:Int) > (n:Int) then (m:Int) else (n:Int)) else (if (m:Int) < (n:Int) then (m:Int) else (n:Int)))=((max n m:Nat):Int):=by
 rw [if_pos rfl];split <;> omega
/-- Rows of integers. -/
def irow(n:Nat)(c:Nat→Int):Lf:= .row 1 n fun i _=> .v (.int .i64 (c i))
def IsI(l:Lf)(n:Nat)(c:Nat→Int):Prop:=(∀ B w v,LfR B w l v→LfR B w (irow n c) v)∧∀ i,n≤i→c i=0
def lst(l:List Int):Nat→Int:=fun i=>l.getD i 0
theorem isi_lit{l:List Int}{n:Nat}{el:Nat→Nat→Lf}(hn:l.length=n)(h:∀ i,i < n→el i 0= .v (.int .i64 (lst l i))):IsI (.row 1 n el) n (lst l):=by
 refine ⟨row_le fun i hi j hj B w v hv=>?_,fun i hi=>?_⟩
 ·obtain rfl:j=0:=by omega
  rw [h i hi] at hv;exact hv
 ·unfold lst;rw [List.getD_eq_getElem?_getD,List.getElem?_eq_none (by omega)];rfl
theorem nil_prow{K:Nat}{c:Nat→Int}:AV.le (.d (.one (.v (.slice none 0 0)))) (.d (.one (prow K 0 c))):=by
 refine le_one ?_;rintro B w v ⟨rfl,_⟩;exact ⟨none,0,rfl,Nat.le_refl _,fun _=>rfl,fun i hi=>absurd hi (Nat.not_lt_zero _)⟩
theorem nil_qrow{K:Nat}{c:Nat→Rat}:AV.le (.d (.one (.v (.slice none 0 0)))) (.d (.one (qrow K 0 c))):=by
 refine le_one ?_;rintro B w v ⟨rfl,_⟩;exact ⟨none,0,rfl,Nat.le_refl _,fun _=>rfl,fun i hi=>absurd hi (Nat.not_lt_zero _)⟩
theorem dg_zero{α:Type}[DecidableEq α][OfNat α 0]{c:Nat→α}(h:∀ i,c i=0):∀ n,dg c n=0
 | 0=>rfl
 | n+1=>by rw [dg_step (h n)];exact dg_zero h n
theorem dg_all{α:Type}[DecidableEq α][OfNat α 0]{c:Nat→α}{n:Nat}(hz:∀ i,n≤i→c i=0)(h:dg c n=0):∀ i,c i=0:=fun i=>dg_z hz i (by omega)
/-- The coefficients as rationals. -/
def rc(c:Nat→Int):Nat→Rat:=fun i=>((c i:Int):Rat)
theorem rc_z{c:Nat→Int}{n:Nat}(h:∀ i,n≤i→c i=0):∀ i,n≤i→rc c i=0:=fun i hi=>by unfold rc;rw [h i hi];rfl
def faddQ(a b:Nat→Rat):Nat→Rat:=fun i=>a i+b i
def fsclQ(a:Nat→Rat)(q:Rat):Nat→Rat:=fun i=>a i*q
theorem faddQ_z{a b:Nat→Rat}{n m:Nat}(h:∀ i,n≤i→a i=0)(k:∀ i,m≤i→b i=0):∀ i,max n m≤i→faddQ a b i=0:=fun i hi=>by unfold faddQ;rw [h i (by omega),k i (by omega)];exact Rat.add_zero 0
theorem fsclQ_z{a:Nat→Rat}{q:Rat}{n:Nat}(h:∀ i,n≤i→a i=0):∀ i,n≤i→fsclQ a q i=0:=fun i hi=>by unfold fsclQ;rw [h i hi];grind
def fadd(a b:Nat→Int):Nat→Int:=fun i=>a i+b i
def fsub(a b:Nat→Int):Nat→Int:=fun i=>a i-b i
def fneg(a:Nat→Int):Nat→Int:=fun i=> -a i
def fscl(a:Nat→Int)(q:Int):Nat→Int:=fun i=>a i*q
def fder(a:Nat→Int):Nat→Int:=fun i=>a (i+1)*((i+1:Nat):Int)
theorem fadd_z{a b:Nat→Int}{n m:Nat}(h:∀ i,n≤i→a i=0)(k:∀ i,m≤i→b i=0):∀ i,max n m≤i→fadd a b i=0:=fun i hi=>by unfold fadd;rw [h i (by omega),k i (by omega)];rfl
theorem fsub_z{a b:Nat→Int}{n m:Nat}(h:∀ i,n≤i→a i=0)(k:∀ i,m≤i→b i=0):∀ i,max n m≤i→fsub a b i=0:=fun i hi=>by unfold fsub;rw [h i (by omega),k i (by omega)];rfl
theorem fneg_z{a:Nat→Int}{n:Nat}(h:∀ i,n≤i→a i=0):∀ i,n≤i→fneg a i=0:=fun i hi=>by unfold fneg;rw [h i hi];rfl
theorem fscl_z{a:Nat→Int}{q:Int}{n:Nat}(h:∀ i,n≤i→a i=0):∀ i,n≤i→fscl a q i=0:=fun i hi=>by unfold fscl;rw [h i hi];simp
theorem fder_z{a:Nat→Int}{n:Nat}(h:∀ i,n≤i→a i=0):∀ i,n-1≤i→fder a i=0:=fun i hi=>by unfold fder;rw [h (i+1) (by omega)];simp
/-! ### The product -/
theorem conv_z{a b:Nat→Int}{j:Nat}:∀ {m:Nat},(∀ i,i < m→i≤j→a i*b (j-i)=0)→cv a b m j=0
 | 0,_=>rfl
 | m+1,h=>by
  show cv a b m j+_=0
  rw [conv_z (fun i hi=>h i (Nat.lt_succ_of_lt hi))];split
  ·rename_i h1;rw [h m (Nat.lt_succ_self _) h1];rfl
  ·rfl
theorem conv_zQ{a b:Nat→Rat}{j:Nat}:∀ {m:Nat},(∀ i,i < m→i≤j→a i*b (j-i)=0)→cv a b m j=0
 | 0,_=>rfl
 | m+1,h=>by
  show cv a b m j+_=0
  rw [conv_zQ (fun i hi=>h i (Nat.lt_succ_of_lt hi))];split
  ·rename_i h1;rw [h m (Nat.lt_succ_self _) h1];exact Rat.add_zero 0
  ·exact Rat.add_zero 0
theorem cv_more{a b:Nat→Int}{j n:Nat}(ha:∀ i,n≤i→a i=0):∀ d,cv a b (n+d) j=cv a b n j
 | 0=>rfl
 | d+1=>by
  show cv a b (n+d) j+(if n+d≤j then a (n+d)*b (j-(n+d)) else 0)=_
  rw [cv_more ha d,ha (n+d) (by omega)];split <;> simp
theorem cv_moreQ{a b:Nat→Rat}{j n:Nat}(ha:∀ i,n≤i→a i=0):∀ d,cv a b (n+d) j=cv a b n j
 | 0=>rfl
 | d+1=>by
  show cv a b (n+d) j+(if n+d≤j then a (n+d)*b (j-(n+d)) else 0)=_
  rw [cv_moreQ ha d,ha (n+d) (by omega)];split <;> grind
theorem cv_past{a b:Nat→Int}{j:Nat}:∀ d,cv a b (j+1+d) j=cv a b (j+1) j
 | 0=>rfl
 | d+1=>by
  show cv a b (j+1+d) j+(if j+1+d≤j then a (j+1+d)*b (j-(j+1+d)) else 0)=_
  rw [cv_past d,if_neg (by omega)];simp
theorem cv_pastQ{a b:Nat→Rat}{j:Nat}:∀ d,cv a b (j+1+d) j=cv a b (j+1) j
 | 0=>rfl
 | d+1=>by
  show cv a b (j+1+d) j+(if j+1+d≤j then a (j+1+d)*b (j-(j+1+d)) else 0)=_
  rw [cv_pastQ d,if_neg (by omega)];grind
theorem cv_conv{a b:Nat→Int}{j n:Nat}(ha:∀ i,n≤i→a i=0):cv a b n j=conv a b j:=by
 unfold conv;rw [← cv_more ha (j+1),← cv_past (a:=a) (b:=b) (j:=j) n,Nat.add_comm]
theorem cv_convQ{a b:Nat→Rat}{j n:Nat}(ha:∀ i,n≤i→a i=0):cv a b n j=conv a b j:=by
 unfold conv;rw [← cv_moreQ ha (j+1),← cv_pastQ (a:=a) (b:=b) (j:=j) n,Nat.add_comm]
theorem conv_beyond{a b:Nat→Int}{j n m:Nat}(ha:∀ i,n≤i→a i=0)(hb:∀ i,m≤i→b i=0)(h:n+m≤j+1):conv a b j=0:=by
 refine conv_z fun i _ hi=>?_
 by_cases h1:n≤i
 ·rw [ha i h1];simp
 ·rw [hb (j-i) (by omega)];simp
theorem conv_beyondQ{a b:Nat→Rat}{j n m:Nat}(ha:∀ i,n≤i→a i=0)(hb:∀ i,m≤i→b i=0)(h:n+m≤j+1):conv a b j=0:=by
 refine conv_zQ fun i _ hi=>?_
 by_cases h1:n≤i
 ·rw [ha i h1];grind
 ·rw [hb (j-i) (by omega)];grind
theorem conv_z0{a b:Nat→Int}{n m:Nat}(h:∀ i,n≤i→a i=0)(k:∀ i,m≤i→b i=0):∀ i,n+m≤i→conv a b i=0:=fun i hi=>conv_beyond h k (by omega)
theorem conv_z0Q{a b:Nat→Rat}{n m:Nat}(h:∀ i,n≤i→a i=0)(k:∀ i,m≤i→b i=0):∀ i,n+m≤i→conv a b i=0:=fun i hi=>conv_beyondQ h k (by omega)
theorem cv_cast{a b:Nat→Int}{j:Nat}:∀ m,cv (fun i=>((a i:Int):Rat)) (fun i=>((b i:Int):Rat)) m j=((cv a b m j:Int):Rat)
 | 0=>rfl
 | m+1=>by
  show cv _ _ m j+_=(((cv a b m j+_:Int)):Rat)
  rw [cv_cast m,Rat.intCast_add];split
  ·rw [Rat.intCast_mul]
  ·rfl
/-- Within a round: the first k of the i-th have been added. -/
def cvk(a b:Nat→Int)(i k:Nat):Nat→Int:=fun j=>cv a b i j+(if i≤j∧j < i+k then a i*b (j-i) else 0)
def cvkQ(a b:Nat→Rat)(i k:Nat):Nat→Rat:=fun j=>cv a b i j+(if i≤j∧j < i+k then a i*b (j-i) else 0)
theorem cvk_zero{a b:Nat→Int}{i j:Nat}:cvk a b i 0 j=cv a b i j:=by unfold cvk;rw [if_neg (by omega)];simp
theorem cvkQ_zero{a b:Nat→Rat}{i j:Nat}:cvkQ a b i 0 j=cv a b i j:=by unfold cvkQ;rw [if_neg (by omega)];grind
theorem cvk_end{a b:Nat→Int}{i j m:Nat}(hb:∀ k,m≤k→b k=0):cvk a b i m j=cv a b (i+1) j:=by
 show _=cv a b i j+_
 unfold cvk
 by_cases h:i≤j
 ·by_cases h2:j < i+m
  ·rw [if_pos ⟨h,h2⟩,if_pos h]
  ·rw [if_neg (by omega),if_pos h,hb (j-i) (by omega)];simp
 ·rw [if_neg (by omega),if_neg h]
theorem cvkQ_end{a b:Nat→Rat}{i j m:Nat}(hb:∀ k,m≤k→b k=0):cvkQ a b i m j=cv a b (i+1) j:=by
 show _=cv a b i j+_
 unfold cvkQ
 by_cases h:i≤j
 ·by_cases h2:j < i+m
  ·rw [if_pos ⟨h,h2⟩,if_pos h]
  ·rw [if_neg (by omega),if_pos h,hb (j-i) (by omega)];grind
 ·rw [if_neg (by omega),if_neg h]
theorem cvk_step{a b:Nat→Int}{i k:Nat}:cvk a b i k (i+k)+a i*b k=cvk a b i (k+1) (i+k):=by
 unfold cvk;rw [if_neg (by omega),if_pos (by omega),Nat.add_sub_cancel_left];simp
theorem cvkQ_step{a b:Nat→Rat}{i k:Nat}:cvkQ a b i k (i+k)+a i*b k=cvkQ a b i (k+1) (i+k):=by
 unfold cvkQ;rw [if_neg (by omega),if_pos (by omega),Nat.add_sub_cancel_left];grind
theorem cvk_other{a b:Nat→Int}{i k j:Nat}(h:j≠i+k):cvk a b i k j=cvk a b i (k+1) j:=by
 unfold cvk
 by_cases h1:i≤j∧j < i+k
 ·rw [if_pos h1,if_pos (by omega)]
 ·rw [if_neg h1,if_neg (by omega)]
theorem cvkQ_other{a b:Nat→Rat}{i k j:Nat}(h:j≠i+k):cvkQ a b i k j=cvkQ a b i (k+1) j:=by
 unfold cvkQ
 by_cases h1:i≤j∧j < i+k
 ·rw [if_pos h1,if_pos (by omega)]
 ·rw [if_neg h1,if_neg (by omega)]
theorem conv_l0{a b:Nat→Int}(h:∀ i,a i=0)(j:Nat):conv a b j=0:=conv_z fun i _ _=>by rw [h i];simp
theorem conv_r0{a b:Nat→Int}(h:∀ i,b i=0)(j:Nat):conv a b j=0:=conv_z fun i _ _=>by rw [h];simp
theorem conv_l0Q{a b:Nat→Rat}(h:∀ i,a i=0)(j:Nat):conv a b j=0:=conv_zQ fun i _ _=>by rw [h i];grind
theorem conv_r0Q{a b:Nat→Rat}(h:∀ i,b i=0)(j:Nat):conv a b j=0:=conv_zQ fun i _ _=>by rw [h];grind
theorem nil_prow'{K n:Nat}{c:Nat→Int}(h:n=0):AV.le (.d (.one (.v (.slice none 0 0)))) (.d (.one (prow K n c))):=by subst h;exact nil_prow
theorem nil_qrow'{K n:Nat}{c:Nat→Rat}(h:n=0):AV.le (.d (.one (.v (.slice none 0 0)))) (.d (.one (qrow K n c))):=by subst h;exact nil_qrow
/-- The bounds of a product's elements, within a round. -/
def kf(R:Nat→Nat)(i k p:Nat):Nat:=if i≤p∧p < i+k then R (i+1) else R i
theorem kf_at{R:Nat→Nat}{i k:Nat}:kf R i k (i+k)=R i:=if_neg (by omega)
theorem kf_new{R:Nat→Nat}{i k:Nat}:kf R i (k+1) (i+k)=R (i+1):=if_pos (by omega)
theorem kf_le{R:Nat→Nat}{i k p:Nat}(h:R i≤R (i+1)):kf R i k p≤kf R i (k+1) p:=by
 unfold kf
 by_cases h1:i≤p∧p < i+k
 ·rw [if_pos h1,if_pos (by omega)];exact Nat.le_refl _
 ·rw [if_neg h1];split
  ·exact h
  ·exact Nat.le_refl _
theorem kf_end{R:Nat→Nat}{i k p:Nat}(h:R i≤R (i+1)):kf R i k p≤R (i+1):=by
 unfold kf;split
 ·exact Nat.le_refl _
 ·exact h
theorem kf_start{R:Nat→Nat}{i p:Nat}:R i≤kf R i 0 p:=by unfold kf;rw [if_neg (by omega)];exact Nat.le_refl _
theorem lst_z{l:List Int}:∀ i,l.length≤i→lst l i=0:=fun i hi=>by unfold lst;rw [List.getD_eq_getElem?_getD,List.getElem?_eq_none hi];rfl
/-- Moved: step by step from the top. -/
def lin(x y:Int):Nat→Int:=fun i=>if i=0 then x else if i=1 then y else 0
def onez(z:Int):Nat→Int:=fun i=>if i=0 then z else 0
theorem lin_z{x y:Int}:∀ i,2≤i→lin x y i=0:=fun i hi=>by unfold lin;rw [if_neg (by omega),if_neg (by omega)]
theorem onez_z{z:Int}:∀ i,1≤i→onez z i=0:=fun i hi=>if_neg (by omega)
def del(xs:List Nat):Nat→Nat→Lf:=fun i _=> .v (.int .i64 ((xs.getD i 0:Nat):Int))
theorem digs_small{N:Nat}(h:N≤9223372036854775808):(digs4 N).length≤5:=digs4_le (Nat.lt_of_le_of_lt h (by decide))
theorem digs_step{ds:List Nat}{R N:Nat}(hR:0 < R)(h:ds ++digs4 R=digs4 N):(ds ++ [R%B4]) ++digs4 (R / B4)=digs4 N:=by
 rw [← h,digs4_pos (show R≠0 by omega),List.append_assoc];rfl
theorem digs_end{ds:List Nat}{R N:Nat}(hR:¬ 0 < R)(h:ds ++digs4 R=digs4 N):ds=digs4 N:=by
 obtain rfl:R=0:=by omega
 rw [← h,show digs4 0= [] from rfl,List.append_nil]
theorem del_app{e:TypeId}{ds:List Nat}{x m:Nat}{el2:Nat→Nat→Lf}(hm:m=ds.length+1)(h0:el2 0 0= .v (.int .i64 (x:Int)):=by rfl):AO.le (.row e 1 (ds.length+1) (appEl ds.length (del ds) el2)) (.row e 1 m (del (ds ++ [x]))):=by
 refine app_el hm (fun i hi j hj B w v hv=>?_) (fun j hj B w v hv=>?_)
 ·unfold del at *;rw [List.getD_eq_getElem?_getD,List.getElem?_append_left hi,← List.getD_eq_getElem?_getD];exact hv
 ·obtain rfl:j=0:=by omega
  rw [h0] at hv;unfold del;rw [List.getD_eq_getElem?_getD,List.getElem?_append_right (Nat.le_refl _),Nat.sub_self];exact hv
/-- Cells one by one are a digit row. -/
theorem isd_row{n K N:Nat}{xs:List Nat}(hn:xs.length=n)(hx:xs=digs4 N)(hK:n≤K):IsD (.row 1 n (del xs)) K N:=by
 rintro B w c ⟨a,cap,rfl,h1,h2,h3⟩;subst hn;unfold dn;rw [← hx];refine dr_R ⟨rfl,h1,h2,by rw [hx];exact digs4_lt N,?_⟩ hK (fun x hx' hne hb=>?_)
 ·rcases Nat.eq_zero_or_pos xs.length with h0 | h0
  ·have:xs= []:=List.eq_nil_of_length_eq_zero h0
   rw [this];exact Or.inl rfl
  ·obtain ⟨b,off,rfl,_,_,_⟩:=h3 0 h0
   refine Or.inr ⟨b,off,rfl,fun j hj=>?_⟩;have hj':j < xs.length:=by simpa [ints] using hj
   obtain ⟨b',off',he',_,_,h4⟩:=h3 j hj';cases he'
   obtain ⟨x,hx1,hx2⟩:=h4 0 (by omega);obtain ⟨rfl,_⟩:=hx2;rw [Nat.mul_one,Nat.add_zero] at hx1;rw [hx1,ints_get];simp [hj']
 ·obtain ⟨b,off,he',hb',_,_⟩:=h3 0 (List.length_pos_iff.2 hne)
  rw [he'] at hx';cases hx'
  exact hb' hb
theorem digs1{m:Nat}:(digs4 m).length=1∧(digs4 m).getD 0 0=1↔m=1:=by
 constructor
 ·rintro ⟨h1,h2⟩
  have h3:=val4_digs4 m
  match h:digs4 m,h1 with
  | [x],_=>
   rw [h] at h2 h3;simp at h2;subst h2;rw [← h3];rfl
 ·rintro rfl;rw [digs4_pos (by decide)];exact ⟨rfl,rfl⟩
theorem quo_zv{x y:Int}(hd:y∣x):zv (decide (x < 0) !=decide (y < 0)) (x.natAbs / y.natAbs)=x / y:=by
 obtain ⟨q,rfl⟩:=hd;rcases Int.lt_trichotomy y 0 with hy | rfl | hy
 ·rw [Int.natAbs_mul,Nat.mul_div_cancel_left _ (by omega),Int.mul_ediv_cancel_left _ (by omega)]
  rcases Int.lt_trichotomy q 0 with hq | rfl | hq
  ·have:=Int.mul_pos_of_neg_of_neg hy hq
   simp [zv,hy,show ¬ y*q < 0 from by omega];omega
  ·simp [zv]
  ·have:=Int.mul_neg_of_neg_of_pos hy hq
   simp [zv,hy,this];omega
 ·simp [zv]
 ·rw [Int.natAbs_mul,Nat.mul_div_cancel_left _ (by omega),Int.mul_ediv_cancel_left _ (by omega)]
  rcases Int.lt_trichotomy q 0 with hq | rfl | hq
  ·have:=Int.mul_neg_of_pos_of_neg hy hq
   simp [zv,show ¬ y < 0 from by omega,this];omega
  ·simp [zv]
  ·have:=Int.mul_pos hy hq
   simp [zv,show ¬ y < 0 from by omega,show ¬ y*q < 0 from by omega];omega
/-- A rational of the program, in any form; normal. -/
def IsT(ls:List Lf)(K:Nat)(n d:Int):Prop:=∃ s xs t ys,(∀ B w cs,LsR B w ls cs→LsR B w ([.v (.bool s),lr K xs] ++ [.v (.bool t),lr K ys]) cs)∧zv s (val xs)=n∧zv t (val ys)=d
def tn(K:Nat)(q:Rat):List Lf:=zn K q.num ++zn K (q.den:Int)
def cmpQ(x y:Rat):Int:=cmpZ (x.num*y.den) (y.num*x.den)
/-- A fraction (over 0: over 1). -/
def mkR(n d:Int):Rat:=Rat.divInt n (if d=0 then 1 else d)
theorem mkR_pos{n d:Int}(h:0 < d):(Rat.divInt n d).num=n / ((Nat.gcd n.natAbs d.natAbs:Nat):Int)∧((Rat.divInt n d).den:Int)=d / ((Nat.gcd n.natAbs d.natAbs:Nat):Int):=by
 obtain ⟨k,rfl⟩:=Int.eq_ofNat_of_zero_le (Int.le_of_lt h);have hk:k≠0:=by rintro rfl;exact absurd h (by decide)
 rw [Rat.divInt_ofNat,← Rat.normalize_eq_mkRat hk,Rat.normalize_eq hk];exact ⟨rfl,Int.natCast_ediv _ _⟩
theorem mkR_one(n:Int):(Rat.divInt n 1).num=n∧((Rat.divInt n 1).den:Int)=1:=by
 have h:=mkR_pos (n:=n) (d:=1) (by decide);rw [show (Int.natAbs 1)=1 from rfl,Nat.gcd_one_right] at h;refine ⟨h.1.trans (Int.ediv_one n),h.2⟩
theorem gcd_dvd_l(n d:Int):((Nat.gcd n.natAbs d.natAbs:Nat):Int)∣n:=Int.dvd_natAbs.1 (Int.natCast_dvd_natCast.2 (Nat.gcd_dvd_left _ _))
theorem gcd_dvd_r(n d:Int):((Nat.gcd n.natAbs d.natAbs:Nat):Int)∣d:=Int.dvd_natAbs.1 (Int.natCast_dvd_natCast.2 (Nat.gcd_dvd_right _ _))
theorem gcd_nz{n d:Int}(h:d≠0):((Nat.gcd n.natAbs d.natAbs:Nat):Int)≠0:=by
 have:Nat.gcd n.natAbs d.natAbs≠0:=fun e=>by
  have:=(Nat.gcd_eq_zero_iff.1 e).2;omega
 omega
theorem den_ne(a:Rat):(a.den:Int)≠0:=by have:=a.den_nz;omega
theorem mkR_ne{n d:Int}(h:d≠0):mkR n d=Rat.divInt n d:=by unfold mkR;rw [if_neg h]
theorem mkR_add(a b:Rat):mkR (a.num*b.den+b.num*a.den) (a.den*b.den)=a+b:=by
 rw [mkR_ne (Int.mul_ne_zero (den_ne a) (den_ne b)),← Rat.divInt_add_divInt _ _ (den_ne a) (den_ne b),Rat.num_divInt_den,Rat.num_divInt_den]
theorem mkR_mul(a b:Rat):mkR (a.num*b.num) (a.den*b.den)=a*b:=by
 rw [mkR_ne (Int.mul_ne_zero (den_ne a) (den_ne b)),← Rat.divInt_mul_divInt,Rat.num_divInt_den,Rat.num_divInt_den]
theorem mkR_quo(a b:Rat)(h:b≠0):mkR (a.num*b.den) (a.den*b.num)=a / b:=by
 have hb:b.num≠0:=fun e=>h (Rat.num_eq_zero.1 e)
 rw [mkR_ne (Int.mul_ne_zero (den_ne a) hb),← Rat.divInt_mul_divInt,Rat.num_divInt_den,Rat.div_def,Rat.inv_def]
theorem mkR_int(n:Int):mkR n 1=(n:Rat):=by
 rw [mkR_ne (by decide)];exact Rat.ext (by rw [(mkR_one n).1,Rat.num_intCast]) (by have:=(mkR_one n).2;rw [Rat.den_intCast];omega)
theorem aROf{n:Int}(h1: -9223372036854775808≤n:=by decide)(h2:n≤9223372036854775807:=by decide):ACall Tryz.prog 36 [.one (.v (.int .i64 n))] (.d (.agg (rn 64 n))):=by
 refine aN 26 [.cell 2 28] Tryz.func36 rfl<|cR<|mO rfl<|mT<|cSeq<|cR<|mv2 rfl rfl<|mT<|cCond rfl (fun hc1=>?_) (fun hc1=>?_)
 ·refine cSeq ?_;have hn:n= -9223372036854775808:=eq_of_beq hc1;subst hn;exact cReg<|mY aNPow rfl<|mY (aRMade rfl) rfl<|mZ rfl<|mT<|cRet<|tR<|rQ rfl (le_rn (by decide) (by decide))
 ·refine cSkip<|tN<|cSeq ?_;have hn:n≠-9223372036854775808:=fun e=>by have h0:=hc1;rw [e] at h0;exact absurd h0 (by decide)
  have hN:n.natAbs≤9223372036854775808:=by omega
  refine cReg<|mv3 rfl rfl rfl<|mT<|cSeq<|cR<|mW rfl<|mT<|cCond rfl (fun hc2=>?_) (fun hc2=>?_)
  ·refine cReg<|mW rfl<|mV hTT (.d (.one (.v (.int .i64 (n.natAbs:Int))))) (evi (show IntKind.i64.wrap (0-n)=_ from by have h0:=of_decide_eq_true hc2;rw [wr64];omega))<|mW rfl<|mT<|cR<|mW rfl<|mT<|cSeq<|cBlock<|AW.wk (wkNil 4 4 3 1 (fun _ _=> .v undef) rfl rfl)<|cLoop (ι:=List Nat×Nat) (fun (p:List Nat×Nat)=>match p with | (ds,R)=>⟨26,[(0,.d (.one (.v (.int .i64 ((R:Nat):Int))))),(3,.d (.one (.v (.bool (decide (n < 0)))))),(2,.ptr 2 0),(4,.own 4)],[(2,.box 28 ([.v (.slice none 0 0),.v (.bool false)])),(4,.row 3 1 ds.length (del ds))]⟩) (fun (p:List Nat×Nat)=>match p with | (ds,R)=>ds ++digs4 R=digs4 n.natAbs∧R≤9223372036854775808-1) (fun (p:List Nat×Nat)=>match p with | (ds,R)=>R) ([],n.natAbs) (⟨rfl,by omega⟩) (wk rfl ⟨hs' rfl (le_int (rfl)),hs rfl,hs rfl,hs rfl,trivial⟩ ⟨ho rfl,ho' rfl (leo_row0),trivial⟩ rfl) ?_;rintro ⟨ds,R⟩ hI;obtain ⟨hd,hR9⟩:ds ++digs4 R=digs4 n.natAbs∧R≤9223372036854775808-1:=hI;show AW _ _ _ ⟨_,_,_⟩
   refine cSeq<|cR<|mv2 rfl rfl<|mT<|cCond rfl (fun hc3=>?_) (fun hc3=>?_)
   ·refine cSkip<|tN<|cBlock<|cSeq ?_;have hR:0 < R:=by have h0:=of_decide_eq_true hc3;omega
    have hlen:ds.length≤5:=by have h0:=digs_small hN;rw [← hd,List.length_append] at h0;omega
    exact cReg<|mv3 rfl rfl rfl<|mB hTT (.d (.one (.row 1 1 (fun i' j'=>(([.v (.int .i64 ((R%10000:Nat):Int))])[i'*1+j']?).getD (.v undef))))) rfl<|mA hTT (id:=4) (n:=ds.length) (m:=1) (el:=(del ds)) (el2:=(fun i' j'=>(([.v (.int .i64 ((R%10000:Nat):Int))])[i'*1+j']?).getD (.v undef))) rfl rfl rfl (by show (ds.length+1)*8≤140737488355328;omega) (by omega) rfl rfl rfl rfl rfl rfl rfl rfl rfl rfl<|mW rfl<|mT<|cReg<|mv3 rfl rfl rfl<|mNil<|bN<|⟨((ds ++ [R%10000]),(R / 10000)),⟨digs_step hR hd,by omega⟩,by show R / 10000 < R;omega,wk rfl ⟨hs' rfl (le_int (show IntKind.i64.wrap (Int.tdiv (R:Int) 10000)=_ from by rw [show Int.tdiv (R:Int) 10000=((R / 10000:Nat):Int) from rfl];exact wr64 (by omega) (by omega))),hs rfl,hs rfl,hs rfl,trivial⟩ ⟨ho rfl,ho' rfl (del_app (by simp)),trivial⟩ rfl⟩
   ·refine cExit<|tE<|tE<|bE<|tN<|cSeq ?_;have hde:ds=digs4 n.natAbs:=digs_end (by have h0:=of_decide_eq_false hc3;omega) hd;exact AW.wk (wkRow 4 rfl)<|cView 4 (.d (.one (dn 5 n.natAbs))) rfl (le_one (isd_row rfl hde (by rw [hde];exact digs_small hN)))<|cReg<|mv2 rfl rfl<|mY (aRMade rfl) rfl<|mZ rfl<|mT<|cRet<|rQ rfl (le_rn (by decide) (zv_natAbs n))
  ·refine cSkip<|tN<|cR<|mW rfl<|mT<|cSeq<|cBlock<|AW.wk (wkNil 4 4 3 1 (fun _ _=> .v undef) rfl rfl)<|cLoop (ι:=List Nat×Nat) (fun (p:List Nat×Nat)=>match p with | (ds,R)=>⟨26,[(0,.d (.one (.v (.int .i64 ((R:Nat):Int))))),(3,.d (.one (.v (.bool (decide (n < 0)))))),(2,.ptr 2 0),(4,.own 4)],[(2,.box 28 ([.v (.slice none 0 0),.v (.bool false)])),(4,.row 3 1 ds.length (del ds))]⟩) (fun (p:List Nat×Nat)=>match p with | (ds,R)=>ds ++digs4 R=digs4 n.natAbs∧R≤9223372036854775808-1) (fun (p:List Nat×Nat)=>match p with | (ds,R)=>R) ([],n.natAbs) (⟨rfl,by omega⟩) (wk rfl ⟨hs' rfl (le_int (by have h0:=of_decide_eq_false hc2;omega)),hs rfl,hs rfl,hs rfl,trivial⟩ ⟨ho rfl,ho' rfl (leo_row0),trivial⟩ rfl) ?_;rintro ⟨ds,R⟩ hI;obtain ⟨hd,hR9⟩:ds ++digs4 R=digs4 n.natAbs∧R≤9223372036854775808-1:=hI;show AW _ _ _ ⟨_,_,_⟩
   refine cSeq<|cR<|mv2 rfl rfl<|mT<|cCond rfl (fun hc4=>?_) (fun hc4=>?_)
   ·refine cSkip<|tN<|cBlock<|cSeq ?_;have hR:0 < R:=by have h0:=of_decide_eq_true hc4;omega
    have hlen:ds.length≤5:=by have h0:=digs_small hN;rw [← hd,List.length_append] at h0;omega
    exact cReg<|mv3 rfl rfl rfl<|mB hTT (.d (.one (.row 1 1 (fun i' j'=>(([.v (.int .i64 ((R%10000:Nat):Int))])[i'*1+j']?).getD (.v undef))))) rfl<|mA hTT (id:=4) (n:=ds.length) (m:=1) (el:=(del ds)) (el2:=(fun i' j'=>(([.v (.int .i64 ((R%10000:Nat):Int))])[i'*1+j']?).getD (.v undef))) rfl rfl rfl (by show (ds.length+1)*8≤140737488355328;omega) (by omega) rfl rfl rfl rfl rfl rfl rfl rfl rfl rfl<|mW rfl<|mT<|cReg<|mv3 rfl rfl rfl<|mNil<|bN<|⟨((ds ++ [R%10000]),(R / 10000)),⟨digs_step hR hd,by omega⟩,by show R / 10000 < R;omega,wk rfl ⟨hs' rfl (le_int (show IntKind.i64.wrap (Int.tdiv (R:Int) 10000)=_ from by rw [show Int.tdiv (R:Int) 10000=((R / 10000:Nat):Int) from rfl];exact wr64 (by omega) (by omega))),hs rfl,hs rfl,hs rfl,trivial⟩ ⟨ho rfl,ho' rfl (del_app (by simp)),trivial⟩ rfl⟩
   ·refine cExit<|tE<|tE<|bE<|tN<|cSeq ?_;have hde:ds=digs4 n.natAbs:=digs_end (by have h0:=of_decide_eq_false hc4;omega) hd;exact AW.wk (wkRow 4 rfl)<|cView 4 (.d (.one (dn 5 n.natAbs))) rfl (le_one (isd_row rfl hde (by rw [hde];exact digs_small hN)))<|cReg<|mv2 rfl rfl<|mY (aRMade rfl) rfl<|mZ rfl<|mT<|cRet<|rQ rfl (le_rn (by decide) (zv_natAbs n))
theorem aRQuo{a b:List Lf}{K L M:Nat}{x y:Int}(ha:IsR a K x)(hb:IsR b L y)(hy:y≠0)(hd:y∣x)(hM:K≤M:=by first|decide|omega)(hK:K≤100000000:=by first|decide|omega)(hL:L≤100000000:=by first|decide|omega):ACall Tryz.prog 102 [.agg a,.agg b] (.d (.agg (rn M (x / y)))):=by
 exact ACall.le (dl (DV.g ha) (dl (DV.g hb) dl0)) AV.le.rfl<|aN 22 [.cell 4 28] Tryz.func102 rfl<|cR<|mO rfl<|mO rfl<|mO rfl<|mT<|cR<|mv4 rfl rfl rfl rfl<|mY (aNDiv (isd K x.natAbs) (isd L y.natAbs) (by omega)) rfl<|mv5 rfl rfl rfl rfl rfl<|mT<|cR<|mv6 rfl rfl rfl rfl rfl rfl<|mY (aRMade rfl) rfl<|mZ rfl<|mT<|cRet<|rQ rfl (le_rn hM (quo_zv hd))
theorem aRGcd{a b:List Lf}{K L M:Nat}{x y:Int}(ha:IsR a K x)(hb:IsR b L y)(hM:max K L≤M:=by first|decide|omega)(hMM:M≤100000000:=by first|decide|omega):ACall Tryz.prog 101 [.agg a,.agg b] (.d (.agg (rn M ((Nat.gcd x.natAbs y.natAbs:Nat):Int)))):=by
 refine ACall.le (dl (DV.g ha) (dl (DV.g hb) dl0)) AV.le.rfl<|aN 26 [.cell 4 28] Tryz.func101 rfl<|cR<|mO rfl<|mO rfl<|mO rfl<|mT<|cSeq<|cDk 6<|oV rfl<|oV rfl<|oV rfl<|oV rfl<|.cons (OpS.V _ rfl)<|.cons (OpS.V _ rfl)<|.nil<|mT<|cSeq<|cBlock<|cLoop (ι:=Nat×Nat) (fun (p:Nat×Nat)=>match p with | (u,v)=>⟨26,[(4,.ptr 4 0),(5,.d (.one (dn M u))),(6,.d (.one (dn M v)))],[(4,.box 28 ([.v (.slice none 0 0),.v (.bool false)]))]⟩) (fun (p:Nat×Nat)=>match p with | (u,v)=>Nat.gcd u v=Nat.gcd x.natAbs y.natAbs) (fun (p:Nat×Nat)=>match p with | (u,v)=>v) (x.natAbs,y.natAbs) (rfl) (wk rfl ⟨hs rfl,hs' rfl (le_one (dr_mono (Nat.le_trans (Nat.le_max_left K L) hM))),hs' rfl (le_one (dr_mono (Nat.le_trans (Nat.le_max_right K L) hM))),trivial⟩ ⟨ho rfl,trivial⟩ rfl) ?_;rintro ⟨u,v⟩ hI;have hg:Nat.gcd u v=Nat.gcd x.natAbs y.natAbs:=hI;show AW _ _ _ ⟨_,_,_⟩
 refine cSeq<|cR<|mv3 rfl rfl rfl<|mT<|cCond rfl (fun hc1=>?_) (fun hc1=>?_)
 ·refine cSkip<|tN<|cBlock<|cSeq ?_;have hy0:0 < v:=by rcases Nat.eq_zero_or_pos v with e | e;exact absurd (of_decide_eq_true hc1) (by rw [e];decide);exact e
  exact cReg<|mv2 rfl rfl<|mY (aNDiv (isd M u) (isd M v) hy0) rfl<|mv5 rfl rfl rfl rfl rfl<|mT<|cReg<|mv4 rfl rfl rfl rfl<|mNil<|bN<|⟨(v,(u%v)),by show Nat.gcd v (u%v)=_;rw [← hg,Nat.gcd_comm u v,Nat.gcd_rec v u,Nat.gcd_comm],by show u%v < v;exact Nat.mod_lt _ hy0,wkr rfl rfl⟩
 ·refine cExit<|tE<|tE<|bE<|tN<|cSeq ?_;have hy0:v=0:=by have h0:=of_decide_eq_false hc1;have h1:=digs_len v;omega
  have hu:u=Nat.gcd x.natAbs y.natAbs:=by rw [← hg,hy0,Nat.gcd_zero_right]
  exact cReg<|mv2 rfl rfl<|mZ rfl<|mT<|cRet<|rQ rfl (le_rmade (by simp) (by rw [hu];rfl))
theorem aRMake{a b:List Lf}{K L M:Nat}{n d:Int}(ha:IsR a K n)(hb:IsR b L d)(hM:max K (max L 64)≤M:=by first|decide|omega)(hMM:M≤100000000:=by first|decide|omega):ACall Tryz.prog 35 [.agg a,.agg b] (.d (.agg (qn M (mkR n d)))):=by
 refine ACall.le (dl (DV.g ha) (dl (DV.g hb) dl0)) AV.le.rfl<|aN 39 [.cell 4 30] Tryz.func35 rfl<|cR<|mO rfl<|mO rfl<|mO rfl<|mT<|cSeq<|cR<|mW rfl<|mY (aRZero (isr L d)) rfl<|mT<|cCond rfl (fun hc1=>?_) (fun hc1=>?_)
 ·refine cReg<|mY aROf rfl<|mZ rfl<|mT<|cSeq<|cSeq ?_;have hd0:d=0:=of_decide_eq_true hc1;refine cReg<|mv2 rfl rfl<|mT<|cFs rfl<|cSeq<|cSeq ?_
  by_cases hl1:(digs4 (Int.natAbs 1)).length=1
  ·refine cReg<|mv3 rfl rfl rfl<|mbT rfl (by rw [hl1];rfl)<|mv3 rfl rfl rfl<|mView 21 (.d (.one (.row 1 ((digs4 (Int.natAbs 1)).length) (fun i _=> .v (.int .i64 (((digs4 (Int.natAbs 1)).getD i 0:Nat):Int)))))) rfl (le_drow _ _)<|mV hTT (.d (.one (.at 1 ((fun i _=> .v (.int .i64 (((digs4 (Int.natAbs 1)).getD i 0:Nat):Int))) 0)))) (ixR (el:=(fun i _=> .v (.int .i64 (((digs4 (Int.natAbs 1)).getD i 0:Nat):Int)))) (z:=0) (n:=((digs4 (Int.natAbs 1)).length)) rfl rfl rfl rfl rfl rfl (by decide) (by rw [hl1];decide)) ?_;refine mv3 rfl rfl rfl<|mT<|cCond rfl (fun hc2=>?_) (fun hc2=>?_)
   ·refine cR<|mv3 rfl rfl rfl<|mZ rfl<|mT<|cRet<|tR ?_;have hq:mkR n d=Rat.divInt n 1:=by unfold mkR;rw [if_pos hd0]
    have h1:(1:Int)=1:=by have h0:=digs1.1 ⟨hl1,Int.ofNat_inj.1 (eq_of_beq hc2)⟩;omega
    have hq1:mkR n d=Rat.divInt n 1:=hq.trans (congrArg (Rat.divInt n) h1);obtain ⟨e1,e2⟩:=mkR_one n;exact rQ rfl (le_qn2 (by omega) (by omega) (by rw [hq1];exact e1.symm) (by rw [hq1];exact h1.trans e2.symm))
   ·refine cSkip<|tN<|cSeq ?_;have hD:(0:Int) < 1:=by omega
    refine cReg<|mv2 rfl rfl<|mY (aRGcd (isr K n) (isr 64 1) (M:=(max K 64))) rfl<|mO rfl<|mZ rfl<|mT<|cSeq<|cDk 7<|oV rfl<|oV rfl<|oC (aRQuo (isr K n) (isr (max K 64) ((Nat.gcd (Int.natAbs n) (Int.natAbs 1):Nat):Int)) (gcd_nz (by omega)) (gcd_dvd_l _ _) (M:=K)) rfl<|oV rfl<|oV rfl<|oC (aRQuo (isr 64 1) (isr (max K 64) ((Nat.gcd (Int.natAbs n) (Int.natAbs 1):Nat):Int)) (gcd_nz (by omega)) (gcd_dvd_r _ _) (M:=64)) rfl<|oV rfl<|.nil<|mZ rfl<|mT<|cRet ?_;have hq:mkR n d=Rat.divInt n 1:=by unfold mkR;rw [if_pos hd0]
    obtain ⟨e1,e2⟩:=mkR_pos (n:=n) (d:=1) hD;exact rQ rfl (le_qn2 (by omega) (by omega) (by rw [hq];exact e1.symm) (by rw [hq];exact e2.symm))
  ·refine cReg<|mv3 rfl rfl rfl<|mbF rfl (beq_eq_false_iff_ne.2 fun e=>hl1 (by exact_mod_cast e))<|mW rfl<|mG rfl rfl<|mG rfl rfl<|mG rfl rfl<|mG rfl rfl<|mG rfl rfl<|mW rfl<|mT<|cFs rfl<|cSeq ?_;have hD:(0:Int) < 1:=by omega
   refine cReg<|mv2 rfl rfl<|mY (aRGcd (isr K n) (isr 64 1) (M:=(max K 64))) rfl<|mO rfl<|mZ rfl<|mT<|cSeq<|cDk 7<|oV rfl<|oV rfl<|oC (aRQuo (isr K n) (isr (max K 64) ((Nat.gcd (Int.natAbs n) (Int.natAbs 1):Nat):Int)) (gcd_nz (by omega)) (gcd_dvd_l _ _) (M:=K)) rfl<|oV rfl<|oV rfl<|oC (aRQuo (isr 64 1) (isr (max K 64) ((Nat.gcd (Int.natAbs n) (Int.natAbs 1):Nat):Int)) (gcd_nz (by omega)) (gcd_dvd_r _ _) (M:=64)) rfl<|oV rfl<|.nil<|mZ rfl<|mT<|cRet ?_;have hq:mkR n d=Rat.divInt n 1:=by unfold mkR;rw [if_pos hd0]
   obtain ⟨e1,e2⟩:=mkR_pos (n:=n) (d:=1) hD;exact rQ rfl (le_qn2 (by omega) (by omega) (by rw [hq];exact e1.symm) (by rw [hq];exact e2.symm))
 ·refine cSkip<|tN<|cSeq<|cSeq ?_;have hd0:d≠0:=of_decide_eq_false hc1;refine cReg<|mv2 rfl rfl<|mT<|cCond rfl (fun hc3=>?_) (fun hc3=>?_)
  ·have hdn:d < 0:=of_decide_eq_true hc3;refine cDk 4<|oV rfl<|oC (aRNeg (isr K n) (M:=K)) rfl<|oV rfl<|oC (aRNeg (isr L d) (M:=L)) rfl<|.nil<|mZ rfl<|mZ rfl<|mT<|cSeq<|cSeq ?_
   by_cases hl1:(digs4 (Int.natAbs (-d))).length=1
   ·refine cReg<|mv3 rfl rfl rfl<|mbT rfl (by rw [hl1];rfl)<|mv3 rfl rfl rfl<|mView 21 (.d (.one (.row 1 ((digs4 (Int.natAbs (-d))).length) (fun i _=> .v (.int .i64 (((digs4 (Int.natAbs (-d))).getD i 0:Nat):Int)))))) rfl (le_drow _ _)<|mV hTT (.d (.one (.at 1 ((fun i _=> .v (.int .i64 (((digs4 (Int.natAbs (-d))).getD i 0:Nat):Int))) 0)))) (ixR (el:=(fun i _=> .v (.int .i64 (((digs4 (Int.natAbs (-d))).getD i 0:Nat):Int)))) (z:=0) (n:=((digs4 (Int.natAbs (-d))).length)) rfl rfl rfl rfl rfl rfl (by decide) (by rw [hl1];decide)) ?_;refine mv3 rfl rfl rfl<|mT<|cCond rfl (fun hc4=>?_) (fun hc4=>?_)
    ·refine cR<|mv3 rfl rfl rfl<|mZ rfl<|mT<|cRet<|tR ?_;have hq:mkR n d=Rat.divInt (-n) (-d):=by rw [mkR_ne hd0,Rat.neg_divInt_neg]
     have h1:((-d):Int)=1:=by have h0:=digs1.1 ⟨hl1,Int.ofNat_inj.1 (eq_of_beq hc4)⟩;omega
     have hq1:mkR n d=Rat.divInt (-n) 1:=hq.trans (congrArg (Rat.divInt (-n)) h1);obtain ⟨e1,e2⟩:=mkR_one (-n);exact rQ rfl (le_qn2 (by omega) (by omega) (by rw [hq1];exact e1.symm) (by rw [hq1];exact h1.trans e2.symm))
    ·refine cSkip<|tN<|cSeq ?_;have hD:(0:Int) < (-d):=by omega
     refine cReg<|mv2 rfl rfl<|mY (aRGcd (isr K (-n)) (isr L (-d)) (M:=(max K L))) rfl<|mO rfl<|mZ rfl<|mT<|cSeq<|cDk 7<|oV rfl<|oV rfl<|oC (aRQuo (isr K (-n)) (isr (max K L) ((Nat.gcd (Int.natAbs (-n)) (Int.natAbs (-d)):Nat):Int)) (gcd_nz (by omega)) (gcd_dvd_l _ _) (M:=K)) rfl<|oV rfl<|oV rfl<|oC (aRQuo (isr L (-d)) (isr (max K L) ((Nat.gcd (Int.natAbs (-n)) (Int.natAbs (-d)):Nat):Int)) (gcd_nz (by omega)) (gcd_dvd_r _ _) (M:=L)) rfl<|oV rfl<|.nil<|mZ rfl<|mT<|cRet ?_;have hq:mkR n d=Rat.divInt (-n) (-d):=by rw [mkR_ne hd0,Rat.neg_divInt_neg]
     obtain ⟨e1,e2⟩:=mkR_pos (n:=(-n)) (d:=(-d)) hD;exact rQ rfl (le_qn2 (by omega) (by omega) (by rw [hq];exact e1.symm) (by rw [hq];exact e2.symm))
   ·refine cReg<|mv3 rfl rfl rfl<|mbF rfl (beq_eq_false_iff_ne.2 fun e=>hl1 (by exact_mod_cast e))<|mW rfl<|mG rfl rfl<|mG rfl rfl<|mG rfl rfl<|mG rfl rfl<|mG rfl rfl<|mW rfl<|mT<|cFs rfl<|cSeq ?_;have hD:(0:Int) < (-d):=by omega
    refine cReg<|mv2 rfl rfl<|mY (aRGcd (isr K (-n)) (isr L (-d)) (M:=(max K L))) rfl<|mO rfl<|mZ rfl<|mT<|cSeq<|cDk 7<|oV rfl<|oV rfl<|oC (aRQuo (isr K (-n)) (isr (max K L) ((Nat.gcd (Int.natAbs (-n)) (Int.natAbs (-d)):Nat):Int)) (gcd_nz (by omega)) (gcd_dvd_l _ _) (M:=K)) rfl<|oV rfl<|oV rfl<|oC (aRQuo (isr L (-d)) (isr (max K L) ((Nat.gcd (Int.natAbs (-n)) (Int.natAbs (-d)):Nat):Int)) (gcd_nz (by omega)) (gcd_dvd_r _ _) (M:=L)) rfl<|oV rfl<|.nil<|mZ rfl<|mT<|cRet ?_;have hq:mkR n d=Rat.divInt (-n) (-d):=by rw [mkR_ne hd0,Rat.neg_divInt_neg]
    obtain ⟨e1,e2⟩:=mkR_pos (n:=(-n)) (d:=(-d)) hD;exact rQ rfl (le_qn2 (by omega) (by omega) (by rw [hq];exact e1.symm) (by rw [hq];exact e2.symm))
  ·refine cSkip<|tN<|cSeq<|cSeq ?_;have hdp:0 < d:=by have h0:=of_decide_eq_false hc3;omega
   by_cases hl1:(digs4 d.natAbs).length=1
   ·refine cReg<|mv3 rfl rfl rfl<|mbT rfl (by rw [hl1];rfl)<|mv3 rfl rfl rfl<|mView 21 (.d (.one (.row 1 ((digs4 d.natAbs).length) (fun i _=> .v (.int .i64 (((digs4 d.natAbs).getD i 0:Nat):Int)))))) rfl (le_drow _ _)<|mV hTT (.d (.one (.at 1 ((fun i _=> .v (.int .i64 (((digs4 d.natAbs).getD i 0:Nat):Int))) 0)))) (ixR (el:=(fun i _=> .v (.int .i64 (((digs4 d.natAbs).getD i 0:Nat):Int)))) (z:=0) (n:=((digs4 d.natAbs).length)) rfl rfl rfl rfl rfl rfl (by decide) (by rw [hl1];decide)) ?_;refine mv3 rfl rfl rfl<|mT<|cCond rfl (fun hc5=>?_) (fun hc5=>?_)
    ·refine cR<|mv3 rfl rfl rfl<|mZ rfl<|mT<|cRet<|tR ?_;have hq:mkR n d=Rat.divInt n d:=mkR_ne hd0;have h1:(d:Int)=1:=by have h0:=digs1.1 ⟨hl1,Int.ofNat_inj.1 (eq_of_beq hc5)⟩;omega
     have hq1:mkR n d=Rat.divInt n 1:=hq.trans (congrArg (Rat.divInt n) h1);obtain ⟨e1,e2⟩:=mkR_one n;exact rQ rfl (le_qn2 (by omega) (by omega) (by rw [hq1];exact e1.symm) (by rw [hq1];exact h1.trans e2.symm))
    ·refine cSkip<|tN<|cSeq ?_;have hD:(0:Int) < d:=by omega
     refine cReg<|mv2 rfl rfl<|mY (aRGcd (isr K n) (isr L d) (M:=(max K L))) rfl<|mO rfl<|mZ rfl<|mT<|cSeq<|cDk 7<|oV rfl<|oV rfl<|oC (aRQuo (isr K n) (isr (max K L) ((Nat.gcd (Int.natAbs n) (Int.natAbs d):Nat):Int)) (gcd_nz (by omega)) (gcd_dvd_l _ _) (M:=K)) rfl<|oV rfl<|oV rfl<|oC (aRQuo (isr L d) (isr (max K L) ((Nat.gcd (Int.natAbs n) (Int.natAbs d):Nat):Int)) (gcd_nz (by omega)) (gcd_dvd_r _ _) (M:=L)) rfl<|oV rfl<|.nil<|mZ rfl<|mT<|cRet ?_;have hq:mkR n d=Rat.divInt n d:=mkR_ne hd0;obtain ⟨e1,e2⟩:=mkR_pos (n:=n) (d:=d) hD;exact rQ rfl (le_qn2 (by omega) (by omega) (by rw [hq];exact e1.symm) (by rw [hq];exact e2.symm))
   ·refine cReg<|mv3 rfl rfl rfl<|mbF rfl (beq_eq_false_iff_ne.2 fun e=>hl1 (by exact_mod_cast e))<|mW rfl<|mG rfl rfl<|mG rfl rfl<|mG rfl rfl<|mG rfl rfl<|mG rfl rfl<|mW rfl<|mT<|cFs rfl<|cSeq ?_;have hD:(0:Int) < d:=by omega
    refine cReg<|mv2 rfl rfl<|mY (aRGcd (isr K n) (isr L d) (M:=(max K L))) rfl<|mO rfl<|mZ rfl<|mT<|cSeq<|cDk 7<|oV rfl<|oV rfl<|oC (aRQuo (isr K n) (isr (max K L) ((Nat.gcd (Int.natAbs n) (Int.natAbs d):Nat):Int)) (gcd_nz (by omega)) (gcd_dvd_l _ _) (M:=K)) rfl<|oV rfl<|oV rfl<|oC (aRQuo (isr L d) (isr (max K L) ((Nat.gcd (Int.natAbs n) (Int.natAbs d):Nat):Int)) (gcd_nz (by omega)) (gcd_dvd_r _ _) (M:=L)) rfl<|oV rfl<|.nil<|mZ rfl<|mT<|cRet ?_;have hq:mkR n d=Rat.divInt n d:=mkR_ne hd0;obtain ⟨e1,e2⟩:=mkR_pos (n:=n) (d:=d) hD;exact rQ rfl (le_qn2 (by omega) (by omega) (by rw [hq];exact e1.symm) (by rw [hq];exact e2.symm))
theorem aROfR{n d:Int}(h1: -9223372036854775808≤n:=by first|decide|omega)(h2:n≤9223372036854775807:=by first|decide|omega)(h3: -9223372036854775808≤d:=by first|decide|omega)(h4:d≤9223372036854775807:=by first|decide|omega):ACall Tryz.prog 78 [.one (.v (.int .i64 n)),.one (.v (.int .i64 d))] (.d (.agg (qn 64 (mkR n d)))):=by
 exact aN 10 [.cell 4 30] Tryz.func78 rfl<|cR<|mO rfl<|mT<|cR<|mW rfl<|mY (aROf h1 h2) rfl<|mW rfl<|mY (aROf h3 h4) rfl<|mY (aRMake (isr 64 n) (isr 64 d) (M:=64)) rfl<|mZ rfl<|mT<|cRet<|rQ rfl (AV.le.rfl)
theorem aROfI{n:Int}(h1: -9223372036854775808≤n:=by first|decide|omega)(h2:n≤9223372036854775807:=by first|decide|omega):ACall Tryz.prog 78 [.one (.v (.int .i64 n)),.one (.v (.int .i64 1))] (.d (.agg (qn 64 (n:Rat)))):=by
 have h:=aROfR (d:=1) h1 h2 (by decide) (by decide);rw [mkR_int] at h;exact h
theorem aRAddR{a b:List Lf}{K L M:Nat}{x y:Rat}(ha:IsQ a K x)(hb:IsQ b L y)(hM:max (K+L+1) 64≤M:=by first|decide|omega)(hMM:M≤10000000:=by first|decide|omega):ACall Tryz.prog 56 [.agg a,.agg b] (.d (.agg (qn M (x+y)))):=by
 exact ACall.le (dl (DV.g ha) (dl (DV.g hb) dl0)) AV.le.rfl<|aN 22 [.cell 4 30] Tryz.func56 rfl<|cR<|mO rfl<|mO rfl<|mO rfl<|mT<|cSeq<|cDk 17<|oV rfl<|oV rfl<|oV rfl<|oV rfl<|oC (aRMul (isr K x.num) (isr L (y.den:Int)) (M:=(K+L))) rfl<|oV rfl<|oV rfl<|oV rfl<|oV rfl<|oC (aRMul (isr L y.num) (isr K (x.den:Int)) (M:=(L+K))) rfl<|oC (aRAdd (isr (K+L) (x.num*(y.den:Int))) (isr (L+K) (y.num*(x.den:Int))) (M:=(max (K+L) (L+K)+1))) rfl<|oV rfl<|oV rfl<|oV rfl<|oV rfl<|oC (aRMul (isr K (x.den:Int)) (isr L (y.den:Int)) (M:=(K+L))) rfl<|oC (aRMake (isr (max (K+L) (L+K)+1) ((x.num*(y.den:Int))+(y.num*(x.den:Int)))) (isr (K+L) ((x.den:Int)*(y.den:Int))) (M:=(max (max (K+L) (L+K)+1) (max (K+L) 64)))) rfl<|.nil<|mZ rfl<|mT<|cRet<|rQ rfl (le_qn (by omega) (mkR_add x y))
theorem aRMulR{a b:List Lf}{K L M:Nat}{x y:Rat}(ha:IsQ a K x)(hb:IsQ b L y)(hM:max (K+L+1) 64≤M:=by first|decide|omega)(hMM:M≤10000000:=by first|decide|omega):ACall Tryz.prog 57 [.agg a,.agg b] (.d (.agg (qn M (x*y)))):=by
 exact ACall.le (dl (DV.g ha) (dl (DV.g hb) dl0)) AV.le.rfl<|aN 16 [.cell 4 30] Tryz.func57 rfl<|cR<|mO rfl<|mO rfl<|mO rfl<|mT<|cSeq<|cDk 11<|oV rfl<|oV rfl<|oV rfl<|oV rfl<|oC (aRMul (isr K x.num) (isr L y.num) (M:=(K+L))) rfl<|oV rfl<|oV rfl<|oV rfl<|oV rfl<|oC (aRMul (isr K (x.den:Int)) (isr L (y.den:Int)) (M:=(K+L))) rfl<|oC (aRMake (isr (K+L) (x.num*y.num)) (isr (K+L) ((x.den:Int)*(y.den:Int))) (M:=(max (K+L) (max (K+L) 64)))) rfl<|.nil<|mZ rfl<|mT<|cRet<|rQ rfl (le_qn (by omega) (mkR_mul x y))
theorem aRNegR{a:List Lf}{K:Nat}{x:Rat}(ha:IsQ a K x)(hK:K≤10000000:=by first|decide|omega):ACall Tryz.prog 88 [.agg a] (.d (.agg (qn K (-x)))):=by
 exact ACall.le (dl (DV.g ha) dl0) AV.le.rfl<|aN 9 [.cell 2 30] Tryz.func88 rfl<|cR<|mO rfl<|mO rfl<|mT<|cSeq<|cDk 6<|oV rfl<|oV rfl<|oC (aRNeg (isr K x.num) (M:=K)) rfl<|oV rfl<|oV rfl<|oV rfl<|.nil<|mZ rfl<|mT<|cRet<|rQ rfl (le_qn2 (Nat.le_refl _) (Nat.le_refl _) (Rat.neg_num x).symm (by rw [Rat.neg_den]))
theorem aRQuoR{a b:List Lf}{K L M:Nat}{x y:Rat}(ha:IsQ a K x)(hb:IsQ b L y)(hy:y≠0)(hM:max (K+L+1) 64≤M:=by first|decide|omega)(hMM:M≤10000000:=by first|decide|omega):ACall Tryz.prog 160 [.agg a,.agg b] (.d (.agg (qn M (x / y)))):=by
 exact ACall.le (dl (DV.g ha) (dl (DV.g hb) dl0)) AV.le.rfl<|aN 16 [.cell 4 30] Tryz.func160 rfl<|cR<|mO rfl<|mO rfl<|mO rfl<|mT<|cSeq<|cDk 11<|oV rfl<|oV rfl<|oV rfl<|oV rfl<|oC (aRMul (isr K x.num) (isr L (y.den:Int)) (M:=(K+L))) rfl<|oV rfl<|oV rfl<|oV rfl<|oV rfl<|oC (aRMul (isr K (x.den:Int)) (isr L y.num) (M:=(K+L))) rfl<|oC (aRMake (isr (K+L) (x.num*(y.den:Int))) (isr (K+L) ((x.den:Int)*y.num)) (M:=(max (K+L) (max (K+L) 64)))) rfl<|.nil<|mZ rfl<|mT<|cRet<|rQ rfl (le_qn (by omega) (mkR_quo x y hy))
theorem aRCmpR{a b:List Lf}{K L:Nat}{x y:Rat}(ha:IsQ a K x)(hb:IsQ b L y)(hK:K≤10000000:=by first|decide|omega)(hL:L≤10000000:=by first|decide|omega):ACall Tryz.prog 38 [.agg a,.agg b] (.d (.one (.v (.int .i64 (cmpQ x y))))):=by
 exact ACall.le (dl (DV.g ha) (dl (DV.g hb) dl0)) AV.le.rfl<|aN 16 [.tmp 4] Tryz.func38 rfl<|cR<|mO rfl<|mO rfl<|mW rfl<|mT<|cSeq<|cDk 12<|oV rfl<|oV rfl<|oV rfl<|oV rfl<|oC (aRMul (isr K x.num) (isr L (y.den:Int)) (M:=(K+L))) rfl<|oV rfl<|oV rfl<|oV rfl<|oV rfl<|oC (aRMul (isr L y.num) (isr K (x.den:Int)) (M:=(L+K))) rfl<|oC (aRCmp (isr (K+L) (x.num*(y.den:Int))) (isr (L+K) (y.num*(x.den:Int)))) rfl<|.cons (OpS.V _ rfl)<|.nil<|mT<|cRet<|rQ rfl (AV.le.rfl)
theorem aRFromR{a:List Lf}{K M:Nat}{n d:Int}(ha:IsT a K n d)(hM:max (3*K) 64≤M:=by decide)(hMM:M≤10000000:=by decide):ACall Tryz.prog 26 [.agg a] (.d (.agg (qn M (mkR n d)))):=by
 obtain ⟨s,xs,t,ys,ha,e1,e2⟩:=ha;exact ACall.le (dl (DV.g ha) dl0) AV.le.rfl<|aN 10 [.cell 2 30] Tryz.func26 rfl<|cR<|mO rfl<|mO rfl<|mT<|cSeq<|cDk 7<|oV rfl<|oV rfl<|oC (aRFrom ⟨s,xs,fun _ _ _ h=>h,e1⟩ (M:=(3*K)) (by omega) (by omega)) rfl<|oV rfl<|oV rfl<|oC (aRFrom ⟨t,ys,fun _ _ _ h=>h,e2⟩ (M:=(3*K)) (by omega) (by omega)) rfl<|oC (aRMake (isr (3*K) n) (isr (3*K) d) (M:=(max (3*K) (max (3*K) 64)))) rfl<|.nil<|mZ rfl<|mT<|cRet<|rQ rfl (le_qn (by omega) rfl)
theorem aPCut{K n:Nat}{c:Nat→Int}(hn:n≤1000000:=by omega):ACall Tryz.prog 81 [.one (prow K n c)] (.d (.one (prow K (dg c n) c))):=by
 refine aN 21 [.tmp 2] Tryz.func81 rfl<|cR<|mW rfl<|mT<|cR<|mv3 rfl rfl rfl<|mT<|cSeq<|cBlock<|cLoop (ι:=Nat) (fun (k:Nat)=>⟨21,[(0,.d (.one (.row 2 n (zel K c)))),(3,.d (.one (.v (.int .i64 ((k:Nat):Int)))))],[]⟩) (fun (k:Nat)=>k≤n∧dg c n=dg c k) (fun (k:Nat)=>k) n (⟨Nat.le_refl _,rfl⟩) (wkr rfl rfl) ?_;rintro k hI;obtain ⟨hkn,hk⟩:k≤n∧dg c n=dg c k:=hI;show AW _ _ _ ⟨_,_,_⟩
 refine cSeq<|cSeq ?_
 by_cases hk0:k=0
 ·refine cReg<|mW rfl<|mdF rfl (by omega)<|mW rfl<|mG rfl rfl<|mG rfl rfl<|mG rfl rfl<|mG rfl rfl<|mG rfl rfl<|mG rfl rfl<|mW rfl<|mT<|cF rfl<|cExit<|tE<|tE<|bE<|tN<|cSeq ?_;have hd:k=dg c n:=by rw [hk,hk0];rfl
  exact cReg<|mv2 rfl rfl<|mV hTT (.d (.one (.row 2 k (zel K c)))) (slR (z:=(k:Int)) (n:=n) rfl rfl rfl rfl rfl rfl (by omega) (by omega))<|mW rfl<|mT<|cRet<|rQ rfl (le_prow (Nat.le_refl _) hd (fun _ _=>rfl))
 ·refine cReg<|mW rfl<|mdT rfl (by omega)<|mv3 rfl rfl rfl<|mV hTT (.d (.one (.v (.int .i64 ((k-1:Nat):Int))))) (evi ((wr64 (by omega) (by omega)).trans (by omega)))<|mV hTT (.d (.one (.at 2 ((zel K c) (k-1))))) (ixR (el:=(zel K c)) (z:=((k-1:Nat):Int)) (n:=n) rfl rfl rfl rfl rfl rfl (by omega) (by omega)) ?_;refine mW rfl<|mY (aZero (isn K (c (k-1)))) rfl<|mW rfl<|mT<|cCond rfl (fun hc1=>?_) (fun hc1=>?_)
  ·refine cSkip<|tN<|cBlock ?_;have hc0:c (k-1)=0:=of_decide_eq_true hc1;exact cReg<|mW rfl<|mV hTT (.d (.one (.v (.int .i64 ((k-1:Nat):Int))))) (evi ((wr64 (by omega) (by omega)).trans (by omega)))<|mW rfl<|mNil<|bN<|⟨(k-1),⟨by omega,dg_down hk hk0 hc0⟩,by omega,wkr rfl rfl⟩
  ·refine cExit<|tE<|tE<|bE<|tN<|cSeq ?_;have hd:k=dg c n:=by rw [hk];exact (dg_stop (Or.inr fun e=>of_decide_eq_false hc1 e)).symm
   exact cReg<|mv2 rfl rfl<|mV hTT (.d (.one (.row 2 k (zel K c)))) (slR (z:=(k:Int)) (n:=n) rfl rfl rfl rfl rfl rfl (by omega) (by omega))<|mW rfl<|mT<|cRet<|rQ rfl (le_prow (Nat.le_refl _) hd (fun _ _=>rfl))
theorem aQCut{K n:Nat}{c:Nat→Rat}(hn:n≤1000000:=by omega):ACall Tryz.prog 58 [.one (qrow K n c)] (.d (.one (qrow K (dg c n) c))):=by
 refine aN 22 [.tmp 2] Tryz.func58 rfl<|cR<|mW rfl<|mT<|cR<|mv3 rfl rfl rfl<|mT<|cSeq<|cBlock<|cLoop (ι:=Nat) (fun (k:Nat)=>⟨22,[(0,.d (.one (.row 4 n (qel K c)))),(3,.d (.one (.v (.int .i64 ((k:Nat):Int)))))],[]⟩) (fun (k:Nat)=>k≤n∧dg c n=dg c k) (fun (k:Nat)=>k) n (⟨Nat.le_refl _,rfl⟩) (wkr rfl rfl) ?_;rintro k hI;obtain ⟨hkn,hk⟩:k≤n∧dg c n=dg c k:=hI;show AW _ _ _ ⟨_,_,_⟩
 refine cSeq<|cSeq ?_
 by_cases hk0:k=0
 ·refine cReg<|mW rfl<|mdF rfl (by omega)<|mW rfl<|mG rfl rfl<|mG rfl rfl<|mG rfl rfl<|mG rfl rfl<|mG rfl rfl<|mG rfl rfl<|mG rfl rfl<|mW rfl<|mT<|cF rfl<|cExit<|tE<|tE<|bE<|tN<|cSeq ?_;have hd:k=dg c n:=by rw [hk,hk0];rfl
  exact cReg<|mv2 rfl rfl<|mV hTT (.d (.one (.row 4 k (qel K c)))) (slR (z:=(k:Int)) (n:=n) rfl rfl rfl rfl rfl rfl (by omega) (by omega))<|mW rfl<|mT<|cRet<|rQ rfl (le_qrow (Nat.le_refl _) hd (fun _ _=>rfl))
 ·refine cReg<|mW rfl<|mdT rfl (by omega)<|mv3 rfl rfl rfl<|mV hTT (.d (.one (.v (.int .i64 ((k-1:Nat):Int))))) (evi ((wr64 (by omega) (by omega)).trans (by omega)))<|mV hTT (.d (.one (.at 4 ((qel K c) (k-1))))) (ixR (el:=(qel K c)) (z:=((k-1:Nat):Int)) (n:=n) rfl rfl rfl rfl rfl rfl (by omega) (by omega)) ?_;refine mv2 rfl rfl<|mY (aRZero (isr K (Rat.num (c (k-1))))) rfl<|mW rfl<|mT<|cCond rfl (fun hc1=>?_) (fun hc1=>?_)
  ·refine cSkip<|tN<|cBlock ?_;have hc0:(c (k-1)).num=0:=of_decide_eq_true hc1;exact cReg<|mW rfl<|mV hTT (.d (.one (.v (.int .i64 ((k-1:Nat):Int))))) (evi ((wr64 (by omega) (by omega)).trans (by omega)))<|mW rfl<|mNil<|bN<|⟨(k-1),⟨by omega,dg_down hk hk0 (Rat.num_eq_zero.1 hc0)⟩,by omega,wkr rfl rfl⟩
  ·refine cExit<|tE<|tE<|bE<|tN<|cSeq ?_;have hd:k=dg c n:=by rw [hk];exact (dg_stop (Or.inr fun e=>of_decide_eq_false hc1 (by show (c (k-1)).num=0;rw [e];rfl))).symm
   exact cReg<|mv2 rfl rfl<|mV hTT (.d (.one (.row 4 k (qel K c)))) (slR (z:=(k:Int)) (n:=n) rfl rfl rfl rfl rfl rfl (by omega) (by omega))<|mW rfl<|mT<|cRet<|rQ rfl (le_qrow (Nat.le_refl _) hd (fun _ _=>rfl))
theorem aQZero:ACall Tryz.prog 55 [] (.d (.agg (qn 64 0))):=by
 exact aN 2 [.cell 0 30] Tryz.func55 rfl<|cR<|mO rfl<|mT<|cR<|mY aROfI rfl<|mZ rfl<|mT<|cRet<|rQ rfl (le_qn (Nat.le_refl _) rfl)
theorem aQFrom{a:Lf}{K M n:Nat}{c:Nat→Int}(ha:IsP a K n c)(hM:max (3*K) 64≤M:=by first|decide|omega)(hn:n≤1000000:=by first|decide|omega)(hMM:M≤10000000:=by first|decide|omega):ACall Tryz.prog 154 [.one a] (.d (.one (qrow M (dg (rc c) (n)) (rc c)))):=by
 obtain ⟨⟨fa,ha,ea⟩,za⟩:=ha;refine ACall.le (dl (DV.l ha) dl0) AV.le.rfl<|aN 23 [.tmp 2] Tryz.func154 rfl<|cR<|mW rfl<|mT<|cR<|mW rfl<|mT<|cSeq<|cSeq<|AW.wk (wkNil 3 3 30 4 (fun _ _=> .v undef) rfl rfl)<|cReg<|mv3 rfl rfl rfl<|mT<|cBlock<|cLoop (ι:=Nat) (fun (i:Nat)=>⟨23,[(0,.d (.one (.row 2 n (ael K fa)))),(5,.d (.one (.row 2 n (ael K fa)))),(6,.d (.one (.v (.int .i64 (n:Int))))),(7,.d (.one (.v (.int .i64 ((i:Nat):Int))))),(3,.own 3)],[(3,.row 30 4 i (qel M (rc c)))]⟩) (fun (i:Nat)=>i≤n) (fun (i:Nat)=>n-i) 0 (Nat.zero_le _) (wk rfl ⟨hs rfl,hs rfl,hs rfl,hs rfl,hs rfl,trivial⟩ ⟨ho' rfl (leo_row0),trivial⟩ rfl) ?_;rintro i hI;have hi:i≤n:=hI;show AW _ _ _ ⟨_,_,_⟩
 refine cR<|mW rfl<|mT<|cSeq<|cCond rfl (fun hc1=>?_) (fun hc1=>?_)
 ·refine cSkip<|tN<|cSeq<|cBlock<|cR<|mv2 rfl rfl<|mT ?_;have hin:i < n:=by have h0:=of_decide_eq_true hc1;omega
  refine cReg<|mv3 rfl rfl rfl<|mV hTT (.d (.one (.at 2 ((ael K fa) i)))) (ixR (el:=(ael K fa)) (z:=((i:Nat):Int)) (n:=n) rfl rfl rfl rfl rfl rfl (by omega) (by omega)) ?_;exact mW rfl<|mY (aRFrom ⟨_,_,fun _ _ _ h=>h,ea i (by omega)⟩ (M:=(3*K)) (by omega) (by omega)) rfl<|mY aROf rfl<|mY (aRMake (isr (3*K) (c i)) (isr 64 1) (M:=(max (3*K) (max 64 64)))) rfl<|mB hTT (.d (.one (.row 4 1 (fun i' j'=>((qn (max (3*K) (max 64 64)) (mkR (c i) 1))[i'*4+j']?).getD (.v undef))))) rfl<|mA hTT (id:=3) (n:=i) (m:=1) (el:=(qel M (rc c))) (el2:=(fun i' j'=>((qn (max (3*K) (max 64 64)) (mkR (c i) 1))[i'*4+j']?).getD (.v undef))) rfl rfl rfl (by show (i+1)*64≤140737488355328;omega) (by omega) rfl rfl rfl rfl rfl rfl rfl rfl rfl rfl<|mW rfl<|mNil<|bN<|tN<|cReg<|mv2 rfl rfl<|mNil<|⟨(i+1),by omega,by omega,wk rfl ⟨hs rfl,hs rfl,hs rfl,hs' rfl (le_int (inc64 (by omega))),hs rfl,trivial⟩ ⟨ho' rfl (app_q rfl (Nat.le_refl _) (by omega) (mkR_int _) (fun _ _=>rfl)),trivial⟩ rfl⟩
 ·refine cExit<|tE<|tE<|bE<|tN<|cSeq ?_;have hie:n=i:=by have h0:=of_decide_eq_false hc1;omega
  subst hie;exact AW.wk (wkRow 3 rfl)<|cReg<|mW rfl<|mY aQCut rfl<|mW rfl<|mT<|cRet<|rQ rfl (AV.le.rfl)
theorem aQOf{a:Lf}{n:Nat}{c:Nat→Int}(ha:IsI a n c)(hb:∀ i,i < n→-9223372036854775808≤c i∧c i≤9223372036854775807:=by decide)(hn:n≤1000000:=by first|decide|omega):ACall Tryz.prog 48 [.one a] (.d (.one (qrow 64 (dg (rc c) (n)) (rc c)))):=by
 obtain ⟨ha,za⟩:=ha;refine ACall.le (dl (DV.l ha) dl0) AV.le.rfl<|aN 21 [.tmp 2] Tryz.func48 rfl<|cR<|mW rfl<|mT<|cR<|mW rfl<|mT<|cSeq<|cSeq<|AW.wk (wkNil 3 3 30 4 (fun _ _=> .v undef) rfl rfl)<|cReg<|mv3 rfl rfl rfl<|mT<|cBlock<|cLoop (ι:=Nat) (fun (i:Nat)=>⟨21,[(0,.d (.one (.row 1 n (fun i _=> .v (.int .i64 (c i)))))),(5,.d (.one (.row 1 n (fun i _=> .v (.int .i64 (c i)))))),(6,.d (.one (.v (.int .i64 (n:Int))))),(7,.d (.one (.v (.int .i64 ((i:Nat):Int))))),(3,.own 3)],[(3,.row 30 4 i (qel 64 (rc c)))]⟩) (fun (i:Nat)=>i≤n) (fun (i:Nat)=>n-i) 0 (Nat.zero_le _) (wk rfl ⟨hs rfl,hs rfl,hs rfl,hs rfl,hs rfl,trivial⟩ ⟨ho' rfl (leo_row0),trivial⟩ rfl) ?_;rintro i hI;have hi:i≤n:=hI;show AW _ _ _ ⟨_,_,_⟩
 refine cR<|mW rfl<|mT<|cSeq<|cCond rfl (fun hc1=>?_) (fun hc1=>?_)
 ·refine cSkip<|tN<|cSeq<|cBlock<|cR<|mv2 rfl rfl<|mT ?_;have hin:i < n:=by have h0:=of_decide_eq_true hc1;omega
  refine cReg<|mv3 rfl rfl rfl<|mV hTT (.d (.one (.at 1 ((fun i _=> .v (.int .i64 (c i))) i)))) (ixR (el:=(fun i _=> .v (.int .i64 (c i)))) (z:=((i:Nat):Int)) (n:=n) rfl rfl rfl rfl rfl rfl (by omega) (by omega)) ?_;exact mW rfl<|mY (aROfI (hb i hin).1 (hb i hin).2) rfl<|mB hTT (.d (.one (.row 4 1 (fun i' j'=>((qn 64 ((c i:Int):Rat))[i'*4+j']?).getD (.v undef))))) rfl<|mA hTT (id:=3) (n:=i) (m:=1) (el:=(qel 64 (rc c))) (el2:=(fun i' j'=>((qn 64 ((c i:Int):Rat))[i'*4+j']?).getD (.v undef))) rfl rfl rfl (by show (i+1)*64≤140737488355328;omega) (by omega) rfl rfl rfl rfl rfl rfl rfl rfl rfl rfl<|mW rfl<|mNil<|bN<|tN<|cReg<|mv2 rfl rfl<|mNil<|⟨(i+1),by omega,by omega,wk rfl ⟨hs rfl,hs rfl,hs rfl,hs' rfl (le_int (inc64 (by omega))),hs rfl,trivial⟩ ⟨ho' rfl (app_q rfl (Nat.le_refl _) (Nat.le_refl _) rfl (fun _ _=>rfl)),trivial⟩ rfl⟩
 ·refine cExit<|tE<|tE<|bE<|tN<|cSeq ?_;have hie:n=i:=by have h0:=of_decide_eq_false hc1;omega
  subst hie;exact AW.wk (wkRow 3 rfl)<|cReg<|mW rfl<|mY aQCut rfl<|mW rfl<|mT<|cRet<|rQ rfl (AV.le.rfl)
theorem aQAt{a:Lf}{K M n k:Nat}{c:Nat→Rat}(ha:IsQP a K n c)(hM:max K 64≤M:=by first|decide|omega):ACall Tryz.prog 198 [.one a,.one (.v (.int .i64 (k:Int)))] (.d (.agg (qn M (c k)))):=by
 obtain ⟨ha,za⟩:=ha;refine ACall.le (dl (DV.l ha) (dl DV.same dl0)) AV.le.rfl<|aN 18 [.cell 4 30] Tryz.func198 rfl<|cR<|mO rfl<|mT<|cSeq<|cR<|mW rfl<|mdF rfl (by omega)<|mv6 rfl rfl rfl rfl rfl rfl<|mT<|cCond rfl (fun hc1=>?_) (fun hc1=>?_)
 ·exact cR<|mY (aQZero) rfl<|mZ rfl<|mT<|cRet<|tR<|rQ rfl (le_qn (by omega) (za k (by have h0:=of_decide_eq_true hc1;omega)).symm)
 ·refine cSkip<|tN<|cSeq ?_;have hkn:k < n:=by have h0:=of_decide_eq_false hc1;omega
  refine cReg<|mv2 rfl rfl<|mV hTT (.d (.one (.at 4 ((qel K c) k)))) (ixR (el:=(qel K c)) (z:=(k:Int)) (n:=n) rfl rfl rfl rfl rfl rfl (by omega) (by omega)) ?_;exact mW rfl<|mZ rfl<|mT<|cRet<|rQ rfl (le_qn (by omega) rfl)
theorem aQAdd{a b:Lf}{K L M n m:Nat}{c d:Nat→Rat}(ha:IsQP a K n c)(hb:IsQP b L m d)(hM:max (max K 64+max L 64+1) 64≤M:=by first|decide|omega)(hn:max n m≤1000000:=by first|decide|omega)(hMM:M≤10000000:=by first|decide|omega):ACall Tryz.prog 188 [.one a,.one b] (.d (.one (qrow M (dg (faddQ c d) (max n m)) (faddQ c d)))):=by
 obtain ⟨ha,za⟩:=ha;obtain ⟨hb,zb⟩:=hb;refine ACall.le (dl (DV.l ha) (dl (DV.l hb) dl0)) AV.le.rfl<|aN 28 [.tmp 4] Tryz.func188 rfl<|cR<|mW rfl<|mT<|cR<|mW rfl<|mT<|cSeq<|cSeq<|AW.wk (wkNil 5 5 30 4 (fun _ _=> .v undef) rfl rfl)<|cReg<|mW rfl<|mT<|cBlock<|cLoop (ι:=Nat) (fun (i:Nat)=>⟨28,[(0,.d (.one (.row 4 n (qel K c)))),(1,.d (.one (.row 4 m (qel L d)))),(6,.d (.one (.v (.int .i64 ((i:Nat):Int))))),(5,.own 5)],[(5,.row 30 4 i (qel M (faddQ c d)))]⟩) (fun (i:Nat)=>i≤(max n m)) (fun (i:Nat)=>(max n m)-i) 0 (Nat.zero_le _) (wk rfl ⟨hs rfl,hs rfl,hs rfl,hs rfl,trivial⟩ ⟨ho' rfl (leo_row0),trivial⟩ rfl) ?_;rintro i hI;have hi:i≤(max n m):=hI;show AW _ _ _ ⟨_,_,_⟩
 refine cSeq<|cR<|mv5 rfl rfl rfl rfl rfl<|mV hTT (.d (.one (.v (.int .i64 ((max n m:Nat):Int))))) (evi (maxNN n m))<|mW rfl<|mT<|cCond rfl (fun hc1=>?_) (fun hc1=>?_)
 ·refine cSkip<|tN<|cSeq<|cBlock ?_;have hin:i < (max n m):=by have h0:=of_decide_eq_true hc1;omega
  exact cReg<|mv3 rfl rfl rfl<|mY (aQAt (isqp (K:=K) (c:=c) za) (M:=(max K 64))) rfl<|mv2 rfl rfl<|mY (aQAt (isqp (K:=L) (c:=d) zb) (M:=(max L 64))) rfl<|mY (aRAddR (isq (max K 64) (c i)) (isq (max L 64) (d i)) (M:=(max ((max K 64)+(max L 64)+1) 64))) rfl<|mB hTT (.d (.one (.row 4 1 (fun i' j'=>((qn (max ((max K 64)+(max L 64)+1) 64) ((c i)+(d i)))[i'*4+j']?).getD (.v undef))))) rfl<|mA hTT (id:=5) (n:=i) (m:=1) (el:=(qel M (faddQ c d))) (el2:=(fun i' j'=>((qn (max ((max K 64)+(max L 64)+1) 64) ((c i)+(d i)))[i'*4+j']?).getD (.v undef))) rfl rfl rfl (by show (i+1)*64≤140737488355328;omega) (by omega) rfl rfl rfl rfl rfl rfl rfl rfl rfl rfl<|mW rfl<|mNil<|bN<|tN<|cReg<|mv3 rfl rfl rfl<|mNil<|⟨(i+1),by omega,by omega,wk rfl ⟨hs rfl,hs rfl,hs' rfl (le_int (inc64 (by omega))),hs rfl,trivial⟩ ⟨ho' rfl (app_q rfl (Nat.le_refl _) (by omega) rfl (fun _ _=>rfl)),trivial⟩ rfl⟩
 ·refine cExit<|tE<|tE<|bE<|tN<|cSeq ?_;have hie:(max n m)=i:=by have h0:=of_decide_eq_false hc1;omega
  subst hie;exact AW.wk (wkRow 5 rfl)<|cReg<|mW rfl<|mY aQCut rfl<|mW rfl<|mT<|cRet<|rQ rfl (AV.le.rfl)
theorem aQScale{a:Lf}{b:List Lf}{K L M n:Nat}{c:Nat→Rat}{q:Rat}(ha:IsQP a K n c)(hq:IsQ b L q)(hM:max (K+L+1) 64≤M:=by first|decide|omega)(hn:n≤1000000:=by first|decide|omega)(hMM:M≤10000000:=by first|decide|omega):ACall Tryz.prog 54 [.one a,.agg b] (.d (.one (qrow M (dg (fsclQ c q) (n)) (fsclQ c q)))):=by
 obtain ⟨ha,za⟩:=ha;refine ACall.le (dl (DV.l ha) (dl (DV.g hq) dl0)) AV.le.rfl<|aN 24 [.tmp 4] Tryz.func54 rfl<|cR<|mO rfl<|mW rfl<|mT<|cR<|mW rfl<|mT<|cSeq<|cSeq<|AW.wk (wkNil 5 5 30 4 (fun _ _=> .v undef) rfl rfl)<|cReg<|mv3 rfl rfl rfl<|mT<|cBlock<|cLoop (ι:=Nat) (fun (i:Nat)=>⟨24,[(0,.d (.one (.row 4 n (qel K c)))),(7,.d (.one (.row 4 n (qel K c)))),(8,.d (.one (.v (.int .i64 (n:Int))))),(3,.ptr 3 0),(9,.d (.one (.v (.int .i64 ((i:Nat):Int))))),(5,.own 5)],[(3,.box 30 (qn L q)),(5,.row 30 4 i (qel M (fsclQ c q)))]⟩) (fun (i:Nat)=>i≤n) (fun (i:Nat)=>n-i) 0 (Nat.zero_le _) (wk rfl ⟨hs rfl,hs rfl,hs rfl,hs rfl,hs rfl,hs rfl,trivial⟩ ⟨ho rfl,ho' rfl (leo_row0),trivial⟩ rfl) ?_;rintro i hI;have hi:i≤n:=hI;show AW _ _ _ ⟨_,_,_⟩
 refine cR<|mW rfl<|mT<|cSeq<|cCond rfl (fun hc1=>?_) (fun hc1=>?_)
 ·refine cSkip<|tN<|cSeq<|cBlock<|cR<|mv2 rfl rfl<|mT ?_;have hin:i < n:=by have h0:=of_decide_eq_true hc1;omega
  refine cDk 8<|.cons (OpS.V _ rfl)<|.cons (OpS.V _ rfl)<|.cons (OpS.V _ rfl)<|.cons (OpS.V (.d (.one (.at 4 ((qel K c) i)))) (ixR (el:=(qel K c)) (z:=((i:Nat):Int)) (n:=n) rfl rfl rfl rfl rfl rfl (by omega) (by omega))) ?_;exact oV rfl<|oV rfl<|oC (aRMulR (isq K (c i)) (isq L q) (M:=(max (K+L+1) 64))) rfl<|.cons (OpS.B _ rfl)<|.nil<|mA hTT (id:=5) (n:=i) (m:=1) (el:=(qel M (fsclQ c q))) (el2:=(fun i' j'=>((qn (max (K+L+1) 64) ((c i)*q))[i'*4+j']?).getD (.v undef))) rfl rfl rfl (by show (i+1)*64≤140737488355328;omega) (by omega) rfl rfl rfl rfl rfl rfl rfl rfl rfl rfl<|mW rfl<|mNil<|bN<|tN<|cReg<|mv2 rfl rfl<|mNil<|⟨(i+1),by omega,by omega,wk rfl ⟨hs rfl,hs rfl,hs rfl,hs rfl,hs' rfl (le_int (inc64 (by omega))),hs rfl,trivial⟩ ⟨ho rfl,ho' rfl (app_q rfl (Nat.le_refl _) (by omega) rfl (fun _ _=>rfl)),trivial⟩ rfl⟩
 ·refine cExit<|tE<|tE<|bE<|tN<|cSeq ?_;have hie:n=i:=by have h0:=of_decide_eq_false hc1;omega
  subst hie;exact AW.wk (wkRow 5 rfl)<|cReg<|mW rfl<|mY aQCut rfl<|mW rfl<|mT<|cRet<|rQ rfl (AV.le.rfl)
def upd(c:Nat→Int)(i:Nat):Nat→Int:=fun p=>if p < i then c p else 0
theorem upd_self{c:Nat→Int}{i:Nat}:c i=upd c (i+1) i:=(if_pos (Nat.lt_succ_self i)).symm
theorem upd_ne{c:Nat→Int}{i p:Nat}(h:p≠i):upd c i p=upd c (i+1) p:=by
 unfold upd
 by_cases h1:p < i
 ·rw [if_pos h1,if_pos (by omega)]
 ·rw [if_neg h1,if_neg (by omega)]
theorem fx_pos{n k:Nat}{f:Nat→Bool×List Nat}(h:k < n):fx n f k=f k:=if_pos h
theorem fx_neg{n k:Nat}{f:Nat→Bool×List Nat}(h:¬ k < n):fx n f k=(false,[]):=if_neg h
theorem nil_at{K:Nat}:AV.le (.d (.agg [.v (.bool false),.v (.slice none 0 0)])) (.d (.agg [.v (.bool false),lr K []])):=le_agg fun B w cs h=>match cs,h with | [_,_],⟨h1,h2,h3⟩=>⟨h1,nil_lr K (fun _=>none) B w _ h2,h3⟩
theorem aPAt{K n k:Nat}{f:Nat→Bool×List Nat}:ACall Tryz.prog 195 [.one (arow K n f),.one (.v (.int .i64 (k:Int)))] (.d (.agg [.v (.bool (fx n f k).1),lr K (fx n f k).2])):=by
 refine aN 14 [.cell 4 42] Tryz.func195 rfl<|cR<|mO rfl<|mT<|cSeq<|cR<|mv4 rfl rfl rfl rfl<|mT<|cCond rfl (fun hc1=>?_) (fun hc1=>?_)
 ·refine cSeq ?_;have hkn:k < n:=by have h0:=of_decide_eq_true hc1;omega
  refine cReg<|mv2 rfl rfl<|mV hTT (.d (.one (.at 2 ((ael K f) k)))) (ixR (el:=(ael K f)) (z:=(k:Int)) (n:=n) rfl rfl rfl rfl rfl rfl (by omega) (by omega)) ?_;exact mW rfl<|mZ rfl<|mT<|cRet<|tR<|rQ rfl (by rw [fx_pos (by have h0:=of_decide_eq_true hc1;omega)];exact AV.le.rfl)
 ·exact cSkip<|tN<|cR<|mW rfl<|mZ rfl<|mT<|cRet<|rQ rfl (by rw [fx_neg (by have h0:=of_decide_eq_false hc1;omega)];exact nil_at)
theorem aEach{f:FuncId}{nc:Nat}{caps:Nat→Lf}{n K:Nat}{c:Nat→Int}(hf:∀ i,i < n→ACall Tryz.prog f (.one (.v (.int .i64 (i:Int))) ::capsD caps 0 nc) (.d (.agg (zn K (c i)))))(hn:n≤1000000:=by first|decide|omega):ACall Tryz.prog 82 [.one (.v (.int .i64 (n:Int))),.one (.fn f nc caps)] (.d (.one (prow K (dg c n) c))):=by
 refine aN 23 [.tmp 4] Tryz.func82 rfl<|cR<|mW rfl<|mT<|cR<|mW rfl<|mN hTT (.row 42 2 n (fun _ j=> .v ((([Value.bool false,Value.slice none 0 0]:List Value)[j]?).getD undef))) (mkO (zl:=(n:Int)) (zc:=(n:Int)) (bts:=32) rfl rfl rfl rfl rfl (by omega) (by omega) rfl rfl rfl (by omega) (by omega) rfl) rfl rfl<|mW rfl<|mT<|cSeq<|cR<|mv3 rfl rfl rfl<|mT<|cBlock<|cLoop (ι:=Nat) (fun (i:Nat)=>⟨23,[(1,.d (.one (.fn f nc caps))),(10,.d (.one (.v (.int .i64 (n:Int))))),(11,.d (.one (.v (.int .i64 ((i:Nat):Int))))),(5,.own 8)],[(8,.row 42 2 n (zel K (upd c i)))]⟩) (fun (i:Nat)=>i≤n) (fun (i:Nat)=>n-i) 0 (Nat.zero_le _) (wk rfl ⟨hs rfl,hs rfl,hs rfl,hs rfl,trivial⟩ ⟨ho' rfl (leo_zero (fun i _=>if_neg (Nat.not_lt_zero _))),trivial⟩ rfl) ?_;rintro i hI;have hi:i≤n:=hI;show AW _ _ _ ⟨_,_,_⟩
 refine cR<|mW rfl<|mT<|cSeq<|cCond rfl (fun hc1=>?_) (fun hc1=>?_)
 ·refine cSkip<|tN<|cSeq<|cBlock<|cR<|mv2 rfl rfl<|mT ?_;have hin:i < n:=by have h0:=of_decide_eq_true hc1;omega
  exact cReg<|mv4 rfl rfl rfl rfl<|mC (hf i hin) rfl rfl rfl<|mV hTT (.eptr 8 2 i 0) (ixO (z:=((i:Nat):Int)) (n:=n) rfl rfl rfl rfl rfl rfl rfl (by omega) (by omega))<|mZ rfl<|mNil<|bN<|tN<|cReg<|mv2 rfl rfl<|mNil<|⟨(i+1),by omega,by omega,wk rfl ⟨hs rfl,hs rfl,hs' rfl (le_int (inc64 (by omega))),hs rfl,trivial⟩ ⟨ho' rfl (st_z (Nat.le_refl _) (Nat.le_refl _) upd_self (fun p _ hp=>upd_ne hp)),trivial⟩ rfl⟩
 ·refine cExit<|tE<|tE<|bE<|tN<|cSeq ?_;have hie:n=i:=by have h0:=of_decide_eq_false hc1;omega
  subst hie;exact AW.wk (wkRow 8 rfl)<|cView 5 (.d (.one (.row 2 n (zel K c)))) rfl (le_one (prow_le (Nat.le_refl _) (fun i hi=>if_pos hi)))<|cReg<|mW rfl<|mY aPCut rfl<|mW rfl<|mT<|cRet<|rQ rfl (AV.le.rfl)
theorem aPAdd1{K L M n m k:Nat}{fa fb:Nat→Bool×List Nat}{c d:Nat→Int}(ea:∀ i,i < n→fzv fa i=c i)(za:∀ i,n≤i→c i=0)(eb:∀ i,i < m→fzv fb i=d i)(zb:∀ i,m≤i→d i=0)(hM:max K L+1≤M)(hMM:M≤1000000000):ACall Tryz.prog 194 [.one (.v (.int .i64 (k:Int))),.one (.at 1 (fun q=>(([.row 2 n (ael K fa)]:List Lf)[0+q]?).getD (.v undef))),.one (.at 1 (fun q=>(([.row 2 m (ael L fb)]:List Lf)[0+q]?).getD (.v undef)))] (.d (.agg (zn M (fadd c d k)))):=by
 exact aN 12 [.cell 4 42] Tryz.func194 rfl<|cR<|mO rfl<|mT<|cSeq<|cDk 7<|oV rfl<|.cons (OpS.V _ rfl)<|oC aPAt rfl<|oV rfl<|.cons (OpS.V _ rfl)<|oC aPAt rfl<|oC (aAdd ⟨_,_,fun _ _ _ h=>h,fx_z ea za⟩ ⟨_,_,fun _ _ _ h=>h,fx_z eb zb⟩ (M:=(max K L+1)) (by omega) (by omega) (by omega)) rfl<|.nil<|mZ rfl<|mT<|cRet<|rQ rfl (le_zn hM rfl)
theorem aPAdd{a b:Lf}{K L M n m:Nat}{c d:Nat→Int}(ha:IsP a K n c)(hb:IsP b L m d)(hM:max K L+1≤M:=by first|decide|omega)(hn:max n m≤1000000:=by first|decide|omega)(hMM:M≤1000000000:=by first|decide|omega):ACall Tryz.prog 185 [.one a,.one b] (.d (.one (prow M (dg (fadd c d) (max n m)) (fadd c d)))):=by
 obtain ⟨⟨fa,ha,ea⟩,za⟩:=ha;obtain ⟨⟨fb,hb,eb⟩,zb⟩:=hb;exact ACall.le (dl (DV.l ha) (dl (DV.l hb) dl0)) AV.le.rfl<|aN 12 [.tmp 4] Tryz.func185 rfl<|cR<|mO rfl<|mO rfl<|mW rfl<|mT<|cSeq<|AW.wk (wkBox 2 rfl)<|AW.wk (wkBox 3 rfl)<|cReg<|mv4 rfl rfl rfl rfl<|mV hTT (.d (.one (.v (.int .i64 ((max n m:Nat):Int))))) (evi (maxNN n m))<|mW rfl<|mY (aEach (K:=M) (c:=(fadd c d)) (fun i hi=>aPAdd1 ea za eb zb hM hMM)) rfl<|mW rfl<|mT<|cRet<|rQ rfl (AV.le.rfl)
theorem aPSub1{K L M n m k:Nat}{fa fb:Nat→Bool×List Nat}{c d:Nat→Int}(ea:∀ i,i < n→fzv fa i=c i)(za:∀ i,n≤i→c i=0)(eb:∀ i,i < m→fzv fb i=d i)(zb:∀ i,m≤i→d i=0)(hM:max K L+1≤M)(hMM:M≤1000000000):ACall Tryz.prog 197 [.one (.v (.int .i64 (k:Int))),.one (.at 1 (fun q=>(([.row 2 n (ael K fa)]:List Lf)[0+q]?).getD (.v undef))),.one (.at 1 (fun q=>(([.row 2 m (ael L fb)]:List Lf)[0+q]?).getD (.v undef)))] (.d (.agg (zn M (fsub c d k)))):=by
 exact aN 12 [.cell 4 42] Tryz.func197 rfl<|cR<|mO rfl<|mT<|cSeq<|cDk 7<|oV rfl<|.cons (OpS.V _ rfl)<|oC aPAt rfl<|oV rfl<|.cons (OpS.V _ rfl)<|oC aPAt rfl<|oC (aSub ⟨_,_,fun _ _ _ h=>h,fx_z ea za⟩ ⟨_,_,fun _ _ _ h=>h,fx_z eb zb⟩ (M:=(max K L+1)) (by omega) (by omega) (by omega)) rfl<|.nil<|mZ rfl<|mT<|cRet<|rQ rfl (le_zn hM rfl)
theorem aPSub{a b:Lf}{K L M n m:Nat}{c d:Nat→Int}(ha:IsP a K n c)(hb:IsP b L m d)(hM:max K L+1≤M:=by first|decide|omega)(hn:max n m≤1000000:=by first|decide|omega)(hMM:M≤1000000000:=by first|decide|omega):ACall Tryz.prog 187 [.one a,.one b] (.d (.one (prow M (dg (fsub c d) (max n m)) (fsub c d)))):=by
 obtain ⟨⟨fa,ha,ea⟩,za⟩:=ha;obtain ⟨⟨fb,hb,eb⟩,zb⟩:=hb;exact ACall.le (dl (DV.l ha) (dl (DV.l hb) dl0)) AV.le.rfl<|aN 12 [.tmp 4] Tryz.func187 rfl<|cR<|mO rfl<|mO rfl<|mW rfl<|mT<|cSeq<|AW.wk (wkBox 2 rfl)<|AW.wk (wkBox 3 rfl)<|cReg<|mv4 rfl rfl rfl rfl<|mV hTT (.d (.one (.v (.int .i64 ((max n m:Nat):Int))))) (evi (maxNN n m))<|mW rfl<|mY (aEach (K:=M) (c:=(fsub c d)) (fun i hi=>aPSub1 ea za eb zb hM hMM)) rfl<|mW rfl<|mT<|cRet<|rQ rfl (AV.le.rfl)
theorem aPNeg1{K n k:Nat}{fa:Nat→Bool×List Nat}{c:Nat→Int}(ea:∀ i,i < n→fzv fa i=c i)(hk:k < n)(hK:K≤1000000000):ACall Tryz.prog 83 [.one (.v (.int .i64 (k:Int))),.one (.at 1 (fun q=>(([.row 2 n (ael K fa)]:List Lf)[0+q]?).getD (.v undef)))] (.d (.agg (zn K (fneg c k)))):=by
 refine aN 9 [.cell 3 42] Tryz.func83 rfl<|cR<|mO rfl<|mT<|cR<|mv2 rfl rfl<|mV hTT (.d (.one (.at 2 ((ael K fa) k)))) (ixR (el:=(ael K fa)) (z:=(k:Int)) (n:=n) rfl rfl rfl rfl rfl rfl (by omega) (by omega)) ?_;exact mW rfl<|mY (aNeg ⟨_,_,fun _ _ _ h=>h,ea k (by omega)⟩ (by omega)) rfl<|mZ rfl<|mT<|cRet<|rQ rfl (le_zn (Nat.le_refl _) rfl)
theorem aPNeg{a:Lf}{K n:Nat}{c:Nat→Int}(ha:IsP a K n c)(hn:n≤1000000:=by first|decide|omega)(hK:K≤1000000000:=by first|decide|omega):ACall Tryz.prog 24 [.one a] (.d (.one (prow K (dg (fneg c) (n)) (fneg c)))):=by
 obtain ⟨⟨fa,ha,ea⟩,za⟩:=ha;exact ACall.le (dl (DV.l ha) dl0) AV.le.rfl<|aN 7 [.tmp 2] Tryz.func24 rfl<|cR<|mO rfl<|mW rfl<|mT<|cSeq<|AW.wk (wkBox 1 rfl)<|cReg<|mv3 rfl rfl rfl<|mY (aEach (K:=K) (c:=(fneg c)) (fun i hi=>aPNeg1 ea hi hK)) rfl<|mW rfl<|mT<|cRet<|rQ rfl (AV.le.rfl)
theorem aPScale1{K n k:Nat}{fa:Nat→Bool×List Nat}{c:Nat→Int}(ea:∀ i,i < n→fzv fa i=c i){L M:Nat}{s:Bool}{xs:List Nat}{y:Int}(hy:zv s (val xs)=y)(hk:k < n)(hM:K+L≤M)(hMM:M≤1000000000):ACall Tryz.prog 196 [.one (.v (.int .i64 (k:Int))),.one (.at 1 (fun q=>(([.row 2 n (ael K fa)]:List Lf)[0+q]?).getD (.v undef))),.one (.at 2 (fun q=>(([.v (.bool s),lr L xs]:List Lf)[0+q]?).getD (.v undef)))] (.d (.agg (zn M (fscl c y k)))):=by
 refine aN 11 [.cell 4 42] Tryz.func196 rfl<|cR<|mO rfl<|mT<|cSeq<|cDk 6<|oV rfl<|.cons (OpS.V _ rfl)<|.cons (OpS.V (.d (.one (.at 2 ((ael K fa) k)))) (ixR (el:=(ael K fa)) (z:=(k:Int)) (n:=n) rfl rfl rfl rfl rfl rfl (by omega) (by omega))) ?_;exact oV rfl<|oV rfl<|oC (aMul ⟨_,_,fun _ _ _ h=>h,ea k (by omega)⟩ ⟨_,_,fun _ _ _ h=>h,hy⟩ (M:=(K+L)) (by omega) (by omega) (by omega)) rfl<|.nil<|mZ rfl<|mT<|cRet<|rQ rfl (le_zn hM rfl)
theorem aPScale{a:Lf}{b:List Lf}{K L M n:Nat}{c:Nat→Int}{y:Int}(ha:IsP a K n c)(hb:IsZ b L y)(hM:K+L≤M:=by first|decide|omega)(hn:n≤1000000:=by first|decide|omega)(hMM:M≤1000000000:=by first|decide|omega):ACall Tryz.prog 186 [.one a,.agg b] (.d (.one (prow M (dg (fscl c y) (n)) (fscl c y)))):=by
 obtain ⟨⟨fa,ha,ea⟩,za⟩:=ha;obtain ⟨s,xs,hb,hy⟩:=hb;exact ACall.le (dl (DV.l ha) (dl (DV.z hb) dl0)) AV.le.rfl<|aN 9 [.tmp 4] Tryz.func186 rfl<|cR<|mO rfl<|mO rfl<|mW rfl<|mT<|cSeq<|AW.wk (wkBox 2 rfl)<|AW.wk (wkBox 3 rfl)<|cReg<|mv3 rfl rfl rfl<|mY (aEach (K:=M) (c:=(fscl c y)) (fun i hi=>aPScale1 ea hy hi hM hMM)) rfl<|mW rfl<|mT<|cRet<|rQ rfl (AV.le.rfl)
theorem aPDer1{K n k:Nat}{fa:Nat→Bool×List Nat}{c:Nat→Int}(ea:∀ i,i < n→fzv fa i=c i){M:Nat}(hk:k+1 < n)(hn:n≤1000000)(hM:K+2≤M)(hMM:M≤1000000000):ACall Tryz.prog 171 [.one (.v (.int .i64 (k:Int))),.one (.at 1 (fun q=>(([.row 2 n (ael K fa)]:List Lf)[0+q]?).getD (.v undef)))] (.d (.agg (zn M (fder c k)))):=by
 refine aN 13 [.cell 3 42] Tryz.func171 rfl<|cR<|mO rfl<|mT<|cSeq<|cDk 9<|oV rfl<|.cons (OpS.V _ rfl)<|.cons (OpS.V (.d (.one (.v (.int .i64 ((k+1:Nat):Int))))) (evi (inc64 (by omega))))<|.cons (OpS.V (.d (.one (.at 2 ((ael K fa) (k+1))))) (ixR (el:=(ael K fa)) (z:=((k+1:Nat):Int)) (n:=n) rfl rfl rfl rfl rfl rfl (by omega) (by omega))) ?_;exact oV rfl<|.cons (OpS.V _ rfl)<|.cons (OpS.V (.d (.one (.v (.int .i64 ((k+1:Nat):Int))))) (evi (inc64 (by omega))))<|oC aOf rfl<|oC (aMul ⟨_,_,fun _ _ _ h=>h,ea (k+1) (by omega)⟩ (isz 2 ((k+1:Nat):Int)) (M:=(K+2)) (by omega) (by omega) (by decide)) rfl<|.nil<|mZ rfl<|mT<|cRet<|rQ rfl (le_zn hM rfl)
theorem aPDer{a:Lf}{K M n:Nat}{c:Nat→Int}(ha:IsP a K n c)(hM:K+2≤M:=by first|decide|omega)(hn:n≤1000000:=by first|decide|omega)(hMM:M≤1000000000:=by first|decide|omega):ACall Tryz.prog 125 [.one a] (.d (.one (prow M (dg (fder c) (n-1)) (fder c)))):=by
 obtain ⟨⟨fa,ha,ea⟩,za⟩:=ha;refine ACall.le (dl (DV.l ha) dl0) AV.le.rfl<|aN 9 [.tmp 2] Tryz.func125 rfl<|cR<|mO rfl<|mW rfl<|mT<|cSeq<|AW.wk (wkBox 1 rfl)<|cReg<|mv2 rfl rfl<|mV hTT (.d (.one (.v (.int .i64 ((n:Int)-1))))) (evi (wr64 (by omega) (by omega))) ?_;refine mV hTT (.d (.one (.v (.int .i64 ((n-1:Nat):Int))))) (evi (by rw [if_pos rfl];split <;> omega)) ?_;exact mW rfl<|mY (aEach (K:=M) (c:=(fder c)) (fun i hi=>aPDer1 ea (by omega) hn hM hMM)) rfl<|mW rfl<|mT<|cRet<|rQ rfl (AV.le.rfl)
theorem aPNorm{a:Lf}{K n:Nat}{c:Nat→Int}(ha:IsP a K n c)(hn:n≤1000000:=by first|decide|omega)(hK:K≤1000000000:=by first|decide|omega):ACall Tryz.prog 59 [.one a] (.d (.one (prow K (dg c (n)) c))):=by
 obtain ⟨⟨fa,ha,ea⟩,za⟩:=ha;refine ACall.le (dl (DV.l ha) dl0) AV.le.rfl<|aN 24 [.tmp 2] Tryz.func59 rfl<|cR<|mW rfl<|mT<|cR<|mv2 rfl rfl<|mN hTT (.row 42 2 n (fun _ j=> .v ((([Value.bool false,Value.slice none 0 0]:List Value)[j]?).getD undef))) (mkO (zl:=(n:Int)) (zc:=(n:Int)) (bts:=32) rfl rfl rfl rfl rfl (by omega) (by omega) rfl rfl rfl (by omega) (by omega) rfl) rfl rfl<|mW rfl<|mT<|cSeq<|cR<|mv3 rfl rfl rfl<|mT<|cBlock<|cLoop (ι:=Nat) (fun (i:Nat)=>⟨24,[(9,.d (.one (.row 2 n (ael K fa)))),(10,.d (.one (.v (.int .i64 (n:Int))))),(11,.d (.one (.v (.int .i64 ((i:Nat):Int))))),(3,.own 8)],[(8,.row 42 2 n (zel K (upd c i)))]⟩) (fun (i:Nat)=>i≤n) (fun (i:Nat)=>n-i) 0 (Nat.zero_le _) (wk rfl ⟨hs rfl,hs rfl,hs rfl,hs rfl,trivial⟩ ⟨ho' rfl (leo_zero (fun i _=>if_neg (Nat.not_lt_zero _))),trivial⟩ rfl) ?_;rintro i hI;have hi:i≤n:=hI;show AW _ _ _ ⟨_,_,_⟩
 refine cR<|mW rfl<|mT<|cSeq<|cCond rfl (fun hc1=>?_) (fun hc1=>?_)
 ·refine cSkip<|tN<|cSeq<|cBlock<|cSeq ?_;have hin:i < n:=by have h0:=of_decide_eq_true hc1;omega
  refine cReg<|mW rfl<|mV hTT (.d (.one (.at 2 ((ael K fa) i)))) (ixR (el:=(ael K fa)) (z:=((i:Nat):Int)) (n:=n) rfl rfl rfl rfl rfl rfl (by omega) (by omega)) ?_;exact mW rfl<|mO rfl<|mW rfl<|mZ rfl<|mT<|cReg<|mv3 rfl rfl rfl<|mY (aNorm ⟨_,_,fun _ _ _ h=>h,ea i (by omega)⟩ (by omega)) rfl<|mV hTT (.eptr 8 2 i 0) (ixO (z:=((i:Nat):Int)) (n:=n) rfl rfl rfl rfl rfl rfl rfl (by omega) (by omega))<|mZ rfl<|mNil<|bN<|tN<|cReg<|mv2 rfl rfl<|mNil<|⟨(i+1),by omega,by omega,wk rfl ⟨hs rfl,hs rfl,hs' rfl (le_int (inc64 (by omega))),hs rfl,trivial⟩ ⟨ho' rfl (st_z (Nat.le_refl _) (Nat.le_refl _) upd_self (fun p _ hp=>upd_ne hp)),trivial⟩ rfl⟩
 ·refine cExit<|tE<|tE<|bE<|tN<|cSeq ?_;have hie:n=i:=by have h0:=of_decide_eq_false hc1;omega
  subst hie;exact AW.wk (wkRow 8 rfl)<|cView 3 (.d (.one (.row 2 n (zel K c)))) rfl (le_one (prow_le (Nat.le_refl _) (fun i hi=>if_pos hi)))<|cReg<|mW rfl<|mY aPCut rfl<|mW rfl<|mT<|cRet<|rQ rfl (AV.le.rfl)
theorem aPOf{a:Lf}{n:Nat}{c:Nat→Int}(ha:IsI a n c)(hb:∀ i,i < n→-9223372036854775808≤c i∧c i≤9223372036854775807)(hn:n≤1000000:=by decide):ACall Tryz.prog 77 [.one a] (.d (.one (prow 2 (dg c (n)) c))):=by
 obtain ⟨ha,za⟩:=ha;refine ACall.le (dl (DV.l ha) dl0) AV.le.rfl<|aN 24 [.tmp 2] Tryz.func77 rfl<|cR<|mW rfl<|mT<|cR<|mv2 rfl rfl<|mN hTT (.row 42 2 n (fun _ j=> .v ((([Value.bool false,Value.slice none 0 0]:List Value)[j]?).getD undef))) (mkO (zl:=(n:Int)) (zc:=(n:Int)) (bts:=32) rfl rfl rfl rfl rfl (by omega) (by omega) rfl rfl rfl (by omega) (by omega) rfl) rfl rfl<|mW rfl<|mT<|cSeq<|cR<|mv3 rfl rfl rfl<|mT<|cBlock<|cLoop (ι:=Nat) (fun (i:Nat)=>⟨24,[(9,.d (.one (.row 1 n (fun i _=> .v (.int .i64 (c i)))))),(10,.d (.one (.v (.int .i64 (n:Int))))),(11,.d (.one (.v (.int .i64 ((i:Nat):Int))))),(3,.own 8)],[(8,.row 42 2 n (zel 2 (upd c i)))]⟩) (fun (i:Nat)=>i≤n) (fun (i:Nat)=>n-i) 0 (Nat.zero_le _) (wk rfl ⟨hs rfl,hs rfl,hs rfl,hs rfl,trivial⟩ ⟨ho' rfl (leo_zero (fun i _=>if_neg (Nat.not_lt_zero _))),trivial⟩ rfl) ?_;rintro i hI;have hi:i≤n:=hI;show AW _ _ _ ⟨_,_,_⟩
 refine cR<|mW rfl<|mT<|cSeq<|cCond rfl (fun hc1=>?_) (fun hc1=>?_)
 ·refine cSkip<|tN<|cSeq<|cBlock<|cSeq ?_;have hin:i < n:=by have h0:=of_decide_eq_true hc1;omega
  refine cReg<|mW rfl<|mV hTT (.d (.one (.at 1 ((fun i _=> .v (.int .i64 (c i))) i)))) (ixR (el:=(fun i _=> .v (.int .i64 (c i)))) (z:=((i:Nat):Int)) (n:=n) rfl rfl rfl rfl rfl rfl (by omega) (by omega)) ?_;exact mv3 rfl rfl rfl<|mT<|cReg<|mv3 rfl rfl rfl<|mY (aOf (hb i hin).1 (hb i hin).2) rfl<|mV hTT (.eptr 8 2 i 0) (ixO (z:=((i:Nat):Int)) (n:=n) rfl rfl rfl rfl rfl rfl rfl (by omega) (by omega))<|mZ rfl<|mNil<|bN<|tN<|cReg<|mv2 rfl rfl<|mNil<|⟨(i+1),by omega,by omega,wk rfl ⟨hs rfl,hs rfl,hs' rfl (le_int (inc64 (by omega))),hs rfl,trivial⟩ ⟨ho' rfl (st_z (Nat.le_refl _) (Nat.le_refl _) upd_self (fun p _ hp=>upd_ne hp)),trivial⟩ rfl⟩
 ·refine cExit<|tE<|tE<|bE<|tN<|cSeq ?_;have hie:n=i:=by have h0:=of_decide_eq_false hc1;omega
  subst hie;exact AW.wk (wkRow 8 rfl)<|cView 3 (.d (.one (.row 2 n (zel 2 c)))) rfl (le_one (prow_le (Nat.le_refl _) (fun i hi=>if_pos hi)))<|cReg<|mW rfl<|mY aPCut rfl<|mW rfl<|mT<|cRet<|rQ rfl (AV.le.rfl)
theorem aPMul{a b:Lf}{K L M n m D:Nat}{c d:Nat→Int}(ha:IsP a K n c)(hb:IsP b L m d)(hD:n≤D:=by omega)(hm:m≤1000:=by omega)(hM:K+L+1+D*1000≤M:=by first|decide|omega)(hDD:D≤1000:=by decide)(hMM:M≤1000000000:=by first|decide|omega):ACall Tryz.prog 23 [.one a,.one b] (.d (.one (prow M (dg (conv c d) (n+m)) (conv c d)))):=by
 obtain ⟨⟨fa,ha,ea⟩,za⟩:=ha;obtain ⟨⟨fb,hb,eb⟩,zb⟩:=hb;refine ACall.le (dl (DV.l ha) (dl (DV.l hb) dl0)) AV.le.rfl<|aN 62 [.tmp 4] Tryz.func23 rfl<|cR<|mW rfl<|mT<|cR<|mW rfl<|mY (aPNorm (⟨⟨fa,fun _ _ _ h=>h,ea⟩,za⟩:IsP (arow K n fa) K n c)) rfl<|mW rfl<|mY (aPNorm (⟨⟨fb,fun _ _ _ h=>h,eb⟩,zb⟩:IsP (arow L m fb) L m d)) rfl<|mv2 rfl rfl<|mT<|cSeq<|cSeq ?_;have hla:=dg_le c n;have hlb:=dg_le d m
 by_cases h0a:(dg c n)=0
 ·exact cReg<|mv2 rfl rfl<|mbT rfl (by rw [h0a];rfl)<|mW rfl<|mG rfl rfl<|mG rfl rfl<|mG rfl rfl<|mW rfl<|mT<|cT rfl<|cR<|mW rfl<|mT<|cRet<|tR<|rQ rfl (nil_prow' (dg_zero (conv_l0 (dg_all za h0a)) _))
 ·by_cases h0b:(dg d m)=0
  ·exact cReg<|mv2 rfl rfl<|mbF rfl (beq_eq_false_iff_ne.2 fun e=>h0a (by omega))<|mv3 rfl rfl rfl<|mbT rfl (by rw [h0b];rfl)<|mW rfl<|mT<|cT rfl<|cR<|mW rfl<|mT<|cRet<|tR<|rQ rfl (nil_prow' (dg_zero (conv_r0 (dg_all zb h0b)) _))
  ·refine cReg<|mv2 rfl rfl<|mbF rfl (beq_eq_false_iff_ne.2 fun e=>h0a (by omega))<|mv3 rfl rfl rfl<|mbF rfl (beq_eq_false_iff_ne.2 fun e=>h0b (by omega))<|mW rfl<|mT<|cFs rfl<|cR<|mv4 rfl rfl rfl rfl<|mV hTT (.d (.one (.v (.int .i64 ((dg c n+dg d m:Nat):Int))))) (evi ((wr64 (by omega) (by omega)).trans (by omega)))<|mV hTT (.d (.one (.v (.int .i64 ((dg c n+dg d m-1:Nat):Int))))) (evi ((wr64 (by omega) (by omega)).trans (by omega)))<|mN hTT (.row 42 2 (dg c n+dg d m-1) (fun _ j=> .v ((([Value.bool false,Value.slice none 0 0]:List Value)[j]?).getD undef))) (mkO (zl:=((dg c n+dg d m-1:Nat):Int)) (zc:=((dg c n+dg d m-1:Nat):Int)) (bts:=32) rfl rfl rfl rfl rfl (by omega) (by omega) rfl rfl rfl (by omega) (by omega) rfl) rfl rfl<|mW rfl<|mT<|cSeq<|cR<|mv3 rfl rfl rfl<|mT<|cBlock<|cLoop (ι:=Nat) (fun (i:Nat)=>⟨62,[(1,.d (.one (.row 2 (dg d m) (zel L d)))),(5,.own 28),(29,.d (.one (.row 2 (dg c n) (zel K c)))),(30,.d (.one (.v (.int .i64 ((dg c n:Nat):Int))))),(31,.d (.one (.v (.int .i64 ((i:Nat):Int)))))],[(28,.row 42 2 (dg c n+dg d m-1) (zel (K+L+1+i*1000) (cv c d i)))]⟩) (fun (i:Nat)=>i≤dg c n) (fun (i:Nat)=>dg c n-i) 0 (Nat.zero_le _) (wk rfl ⟨hs rfl,hs rfl,hs rfl,hs rfl,hs rfl,trivial⟩ ⟨ho' rfl (leo_zero (fun _ _=>rfl)),trivial⟩ rfl) ?_;rintro i hI;have hi:i≤dg c n:=hI;show AW _ _ _ ⟨_,_,_⟩
   refine cR<|mW rfl<|mT<|cSeq<|cCond rfl (fun hc1=>?_) (fun hc1=>?_)
   ·refine cSkip<|tN<|cSeq<|cBlock<|cSeq ?_;have hia:i < dg c n:=by have h0:=of_decide_eq_true hc1;omega
    refine cReg<|mW rfl<|mV hTT (.d (.one (.at 2 ((zel K c) i)))) (ixR (el:=(zel K c)) (z:=((i:Nat):Int)) (n:=(dg c n)) rfl rfl rfl rfl rfl rfl (by omega) (by omega)) ?_;refine mW rfl<|mO rfl<|mW rfl<|mZ rfl<|mT<|cR<|mv3 rfl rfl rfl<|mT<|cBlock<|cLoop (ι:=Nat) (fun (k:Nat)=>⟨62,[(1,.d (.one (.row 2 (dg d m) (zel L d)))),(5,.own 28),(29,.d (.one (.row 2 (dg c n) (zel K c)))),(30,.d (.one (.v (.int .i64 ((dg c n:Nat):Int))))),(31,.d (.one (.v (.int .i64 ((i:Nat):Int))))),(6,.d (.one (.v (.int .i64 ((i:Nat):Int))))),(7,.ptr 7 0),(36,.d (.one (.row 2 (dg d m) (zel L d)))),(37,.d (.one (.v (.int .i64 ((dg d m:Nat):Int))))),(38,.d (.one (.v (.int .i64 ((k:Nat):Int)))))],[(7,.box 42 (zn K (c i))),(28,.row 42 2 (dg c n+dg d m-1) (zel (K+L+1+i*1000+k) (cvk c d i k)))]⟩) (fun (k:Nat)=>k≤dg d m) (fun (k:Nat)=>dg d m-k) 0 (Nat.zero_le _) (wk rfl ⟨hs rfl,hs rfl,hs rfl,hs rfl,hs rfl,hs rfl,hs rfl,hs rfl,hs rfl,hs rfl,trivial⟩ ⟨ho rfl,ho' rfl (leo_prow (by omega) (fun j _=>cvk_zero.symm)),trivial⟩ rfl) ?_;rintro k hI;have hk:k≤dg d m:=hI;show AW _ _ _ ⟨_,_,_⟩
    refine cR<|mW rfl<|mT<|cSeq<|cCond rfl (fun hc2=>?_) (fun hc2=>?_)
    ·refine cSkip<|tN<|cSeq<|cBlock<|cSeq ?_;have hkb:k < dg d m:=by have h0:=of_decide_eq_true hc2;omega
     refine cReg<|mW rfl<|mV hTT (.d (.one (.at 2 ((zel L d) k)))) (ixR (el:=(zel L d)) (z:=((k:Nat):Int)) (n:=(dg d m)) rfl rfl rfl rfl rfl rfl (by omega) (by omega)) ?_;exact mW rfl<|mO rfl<|mW rfl<|mZ rfl<|mT<|cDk 15<|.cons (OpS.V _ rfl)<|.cons (OpS.V _ rfl)<|.cons (OpS.V _ rfl)<|.cons (OpS.V (.d (.one (.v (.int .i64 ((i+k:Nat):Int))))) (evi ((wr64 (by omega) (by omega)).trans (by omega))))<|.cons (OpS.V _ rfl)<|.cons (OpS.V _ rfl)<|.cons (OpS.V _ rfl)<|.cons (OpS.V (.d (.one (.v (.int .i64 ((i+k:Nat):Int))))) (evi ((wr64 (by omega) (by omega)).trans (by omega))))<|.cons (OpS.V (.eptr 28 2 (i+k) 0) (ixO (z:=((i+k:Nat):Int)) (n:=(dg c n+dg d m-1)) rfl rfl rfl rfl rfl rfl rfl (by omega) (by omega)))<|oV rfl<|oV rfl<|oV rfl<|oC (aMul (isz K (c i)) (isz L (d k)) (M:=(K+L))) rfl<|oC (aAdd (isz (K+L+1+i*1000+k) (cvk c d i k (i+k))) (isz (K+L) ((c i)*(d k))) (M:=(max (K+L+1+i*1000+k) (K+L)+1))) rfl<|.cons (OpS.V (.eptr 28 2 (i+k) 0) (ixO (z:=((i+k:Nat):Int)) (n:=(dg c n+dg d m-1)) rfl rfl rfl rfl rfl rfl rfl (by omega) (by omega)))<|.nil<|mZ rfl<|mNil<|bN<|tN<|cReg<|mv2 rfl rfl<|mNil<|⟨(k+1),by omega,by omega,wk rfl ⟨hs rfl,hs rfl,hs rfl,hs rfl,hs rfl,hs rfl,hs rfl,hs rfl,hs rfl,hs' rfl (le_int (inc64 (by omega))),trivial⟩ ⟨ho rfl,ho' rfl (st_z (by omega) (by omega) cvk_step (fun p _ hp=>cvk_other hp)),trivial⟩ rfl⟩
    ·refine cExit<|tE<|tE<|bE<|bN<|tN ?_;have hke:dg d m=k:=by have h0:=of_decide_eq_false hc2;omega
     subst hke;exact cReg<|mv2 rfl rfl<|mNil<|⟨(i+1),by omega,by omega,wk rfl ⟨hs rfl,hs rfl,hs rfl,hs rfl,hs' rfl (le_int (inc64 (by omega))),trivial⟩ ⟨ho' rfl (leo_prow (by omega) (fun j _=>cvk_end (dg_z zb))),trivial⟩ rfl⟩
   ·refine cExit<|tE<|tE<|bE<|tN<|cSeq ?_;have hie:dg c n=i:=by have h0:=of_decide_eq_false hc1;omega
    subst hie;exact AW.wk (wkRow 28 rfl)<|cView 5 (.d (.one (.row 2 (dg c n+dg d m-1) (zel M (conv c d))))) rfl (le_one (prow_le (by omega) (fun j _=>cv_conv (dg_z za))))<|cReg<|mW rfl<|mY aPCut rfl<|mW rfl<|mT<|cRet<|rQ rfl (le_prow (Nat.le_refl _) (dg_eq (fun j hj=>conv_beyond (dg_z za) (dg_z zb) (by omega)) (fun j hj=>conv_beyond za zb (by omega))) (fun _ _=>rfl))
theorem aQMul{a b:Lf}{K L M n m D:Nat}{c d:Nat→Rat}(ha:IsQP a K n c)(hb:IsQP b L m d)(hD:n≤D)(hm:m≤1000)(hM:(D+1)*(K+L+66)≤M:=by first|decide|omega)(hDD:D≤1000:=by decide)(hMM:M≤10000000:=by first|decide|omega):ACall Tryz.prog 17 [.one a,.one b] (.d (.one (qrow M (dg (conv c d) (n+m)) (conv c d)))):=by
 obtain ⟨ha,za⟩:=ha;obtain ⟨hb,zb⟩:=hb;refine ACall.le (dl (DV.l ha) (dl (DV.l hb) dl0)) AV.le.rfl ?_;obtain ⟨R,hR0,hR1,hRM⟩:∃ R:Nat→Nat,64≤R 0∧(∀ i,R i+(K+L+66)≤R (i+1))∧∀ i,i≤n→R i≤M:=⟨fun i=>(i+1)*(K+L+66),by simp,fun i=>by show (i+1)*(K+L+66)+(K+L+66)≤(i+1+1)*(K+L+66);rw [Nat.succ_mul (i+1)];exact Nat.le_refl _,fun i hi=>Nat.le_trans (Nat.mul_le_mul_right _ (by omega)) hM⟩
 refine aN 69 [.tmp 4] Tryz.func17 rfl<|cR<|mW rfl<|mT<|cSeq<|cSeq ?_
 by_cases h0a:n=0
 ·exact cReg<|mv2 rfl rfl<|mbT rfl (by rw [h0a];rfl)<|mW rfl<|mG rfl rfl<|mG rfl rfl<|mG rfl rfl<|mW rfl<|mT<|cT rfl<|cR<|mW rfl<|mT<|cRet<|tR<|rQ rfl (nil_qrow' (dg_zero (conv_l0Q (fun i=>za i (by omega))) _))
 ·by_cases h0b:m=0
  ·exact cReg<|mv2 rfl rfl<|mbF rfl (beq_eq_false_iff_ne.2 fun e=>h0a (by omega))<|mv3 rfl rfl rfl<|mbT rfl (by rw [h0b];rfl)<|mW rfl<|mT<|cT rfl<|cR<|mW rfl<|mT<|cRet<|tR<|rQ rfl (nil_qrow' (dg_zero (conv_r0Q (fun i=>zb i (by omega))) _))
  ·refine cReg<|mv2 rfl rfl<|mbF rfl (beq_eq_false_iff_ne.2 fun e=>h0a (by omega))<|mv3 rfl rfl rfl<|mbF rfl (beq_eq_false_iff_ne.2 fun e=>h0b (by omega))<|mW rfl<|mT<|cFs rfl<|cR<|mv4 rfl rfl rfl rfl<|mV hTT (.d (.one (.v (.int .i64 ((n+m:Nat):Int))))) (evi ((wr64 (by omega) (by omega)).trans (by omega)))<|mV hTT (.d (.one (.v (.int .i64 ((n+m-1:Nat):Int))))) (evi ((wr64 (by omega) (by omega)).trans (by omega)))<|mN hTT (.row 30 4 (n+m-1) (fun _ j=> .v ((([Value.slice none 0 0,Value.bool false,Value.slice none 0 0,Value.bool false]:List Value)[j]?).getD undef))) (mkO (zl:=((n+m-1:Nat):Int)) (zc:=((n+m-1:Nat):Int)) (bts:=64) rfl rfl rfl rfl rfl (by omega) (by omega) rfl rfl rfl (by omega) (by omega) rfl) rfl rfl<|mW rfl<|mT<|cSeq<|cR<|mv3 rfl rfl rfl<|mT<|cBlock<|cLoop (ι:=Nat) (fun (i:Nat)=>⟨69,[(0,.d (.one (.row 4 n (qel K c)))),(1,.d (.one (.row 4 m (qel L d)))),(5,.own 23),(25,.d (.one (.v (.int .i64 ((n+m-1:Nat):Int))))),(26,.d (.one (.v (.int .i64 ((i:Nat):Int)))))],[(23,.row 30 4 (n+m-1) (qpre 64 i (fun _=>0) (fun j=> .v ((([Value.slice none 0 0,Value.bool false,Value.slice none 0 0,Value.bool false]:List Value)[j]?).getD undef))))]⟩) (fun (i:Nat)=>i≤n+m-1) (fun (i:Nat)=>n+m-1-i) 0 (Nat.zero_le _) (wk rfl ⟨hs rfl,hs rfl,hs rfl,hs rfl,hs rfl,trivial⟩ ⟨ho' rfl (leo_pre0),trivial⟩ rfl) ?_;rintro i hI;have hi:i≤n+m-1:=hI;show AW _ _ _ ⟨_,_,_⟩
   refine cR<|mW rfl<|mT<|cSeq<|cCond rfl (fun hc1=>?_) (fun hc1=>?_)
   ·refine cSkip<|tN<|cSeq<|cBlock<|cSeq ?_;have hin:i < n+m-1:=by have h0:=of_decide_eq_true hc1;omega
    exact cReg<|mv2 rfl rfl<|mT<|cReg<|mv2 rfl rfl<|mY (aQZero) rfl<|mV hTT (.eptr 23 4 i 0) (ixO (z:=((i:Nat):Int)) (n:=(n+m-1)) rfl rfl rfl rfl rfl rfl rfl (by omega) (by omega))<|mZ rfl<|mNil<|bN<|tN<|cReg<|mv2 rfl rfl<|mNil<|⟨(i+1),by omega,by omega,wk rfl ⟨hs rfl,hs rfl,hs rfl,hs rfl,hs' rfl (le_int (inc64 (by omega))),trivial⟩ ⟨ho' rfl (st_pre (Nat.le_refl _) rfl),trivial⟩ rfl⟩
   ·refine cExit<|tE<|tE<|bE<|tN<|cSeq<|cSeq ?_;have hie:n+m-1=i:=by have h0:=of_decide_eq_false hc1;omega
    subst hie;refine cReg<|mv3 rfl rfl rfl<|mT<|cBlock<|cLoop (ι:=Nat) (fun (i:Nat)=>⟨69,[(0,.d (.one (.row 4 n (qel K c)))),(1,.d (.one (.row 4 m (qel L d)))),(5,.own 23),(35,.d (.one (.v (.int .i64 (n:Int))))),(36,.d (.one (.v (.int .i64 ((i:Nat):Int)))))],[(23,.row 30 4 (n+m-1) (qelv (fun _=>R i) (cv c d i)))]⟩) (fun (i:Nat)=>i≤n) (fun (i:Nat)=>n-i) 0 (Nat.zero_le _) (wk rfl ⟨hs rfl,hs rfl,hs rfl,hs rfl,hs rfl,trivial⟩ ⟨ho' rfl (leo_pre (fun p _=>hR0) (fun _ _=>rfl)),trivial⟩ rfl) ?_;rintro i hI;have hi2:i≤n:=hI;show AW _ _ _ ⟨_,_,_⟩
    refine cR<|mW rfl<|mT<|cSeq<|cCond rfl (fun hc2=>?_) (fun hc2=>?_)
    ·refine cSkip<|tN<|cSeq<|cBlock<|cSeq ?_;have hia:i < n:=by have h0:=of_decide_eq_true hc2;omega
     have hR:=hR1 i;have hRm:=hRM (i+1) hia;refine cReg<|mv2 rfl rfl<|mT<|cR<|mv3 rfl rfl rfl<|mT<|cBlock<|cLoop (ι:=Nat) (fun (k:Nat)=>⟨69,[(0,.d (.one (.row 4 n (qel K c)))),(1,.d (.one (.row 4 m (qel L d)))),(5,.own 23),(35,.d (.one (.v (.int .i64 (n:Int))))),(36,.d (.one (.v (.int .i64 ((i:Nat):Int))))),(7,.d (.one (.v (.int .i64 ((i:Nat):Int))))),(40,.d (.one (.v (.int .i64 (m:Int))))),(41,.d (.one (.v (.int .i64 ((k:Nat):Int)))))],[(23,.row 30 4 (n+m-1) (qelv (kf R i k) (cvkQ c d i k)))]⟩) (fun (k:Nat)=>k≤m) (fun (k:Nat)=>m-k) 0 (Nat.zero_le _) (wk rfl ⟨hs rfl,hs rfl,hs rfl,hs rfl,hs rfl,hs rfl,hs rfl,hs rfl,trivial⟩ ⟨ho' rfl (leo_qelv (fun p _=>kf_start) (fun j _=>cvkQ_zero.symm)),trivial⟩ rfl) ?_;rintro k hI;have hk:k≤m:=hI;show AW _ _ _ ⟨_,_,_⟩
     refine cR<|mW rfl<|mT<|cSeq<|cCond rfl (fun hc3=>?_) (fun hc3=>?_)
     ·refine cSkip<|tN<|cSeq<|cBlock<|cSeq ?_;have hkb:k < m:=by have h0:=of_decide_eq_true hc3;omega
      have hkf:kf R i k (i+k)=R i:=kf_at;refine cReg<|mv2 rfl rfl<|mT<|cDk 21<|.cons (OpS.V _ rfl)<|.cons (OpS.V _ rfl)<|.cons (OpS.V _ rfl)<|.cons (OpS.V (.d (.one (.v (.int .i64 ((i+k:Nat):Int))))) (evi ((wr64 (by omega) (by omega)).trans (by omega))))<|.cons (OpS.V _ rfl)<|.cons (OpS.V _ rfl)<|.cons (OpS.V _ rfl)<|.cons (OpS.V (.d (.one (.v (.int .i64 ((i+k:Nat):Int))))) (evi ((wr64 (by omega) (by omega)).trans (by omega))))<|.cons (OpS.V (.eptr 23 4 (i+k) 0) (ixO (z:=((i+k:Nat):Int)) (n:=(n+m-1)) rfl rfl rfl rfl rfl rfl rfl (by omega) (by omega)))<|oV rfl<|.cons (OpS.V _ rfl)<|.cons (OpS.V _ rfl)<|.cons (OpS.V (.d (.one (.at 4 ((qel K c) i)))) (ixR (el:=(qel K c)) (z:=((i:Nat):Int)) (n:=n) rfl rfl rfl rfl rfl rfl (by omega) (by omega))) ?_;refine oV rfl<|.cons (OpS.V _ rfl)<|.cons (OpS.V _ rfl)<|.cons (OpS.V (.d (.one (.at 4 ((qel L d) k)))) (ixR (el:=(qel L d)) (z:=((k:Nat):Int)) (n:=m) rfl rfl rfl rfl rfl rfl (by omega) (by omega))) ?_;exact oV rfl<|oC (aRMulR (isq K (c i)) (isq L (d k)) (M:=(max (K+L+1) 64))) rfl<|oC (aRAddR (isq (kf R i k (i+k)) (cvkQ c d i k (i+k))) (isq (max (K+L+1) 64) ((c i)*(d k))) (M:=(max ((kf R i k (i+k))+(max (K+L+1) 64)+1) 64))) rfl<|.cons (OpS.V (.eptr 23 4 (i+k) 0) (ixO (z:=((i+k:Nat):Int)) (n:=(n+m-1)) rfl rfl rfl rfl rfl rfl rfl (by omega) (by omega)))<|.nil<|mZ rfl<|mNil<|bN<|tN<|cReg<|mv2 rfl rfl<|mNil<|⟨(k+1),by omega,by omega,wk rfl ⟨hs rfl,hs rfl,hs rfl,hs rfl,hs rfl,hs rfl,hs rfl,hs' rfl (le_int (inc64 (by omega))),trivial⟩ ⟨ho' rfl (st_q (fun p _ _=>kf_le (by omega)) (by rw [kf_new];omega) cvkQ_step (fun p _ hp=>cvkQ_other hp)),trivial⟩ rfl⟩
     ·refine cExit<|tE<|tE<|bE<|bN<|tN ?_;have hke:m=k:=by have h0:=of_decide_eq_false hc3;omega
      subst hke;exact cReg<|mv2 rfl rfl<|mNil<|⟨(i+1),by omega,by omega,wk rfl ⟨hs rfl,hs rfl,hs rfl,hs rfl,hs' rfl (le_int (inc64 (by omega))),trivial⟩ ⟨ho' rfl (leo_qelv (fun p _=>kf_end (by omega)) (fun j _=>cvkQ_end zb)),trivial⟩ rfl⟩
    ·refine cExit<|tE<|tE<|bE<|tN<|cSeq ?_;have hie2:n=i:=by have h0:=of_decide_eq_false hc2;omega
     subst hie2;exact AW.wk (wkRow 23 rfl)<|cView 5 (.d (.one (.row 4 (n+m-1) (qel M (conv c d))))) rfl (le_one (row_qelv (fun p _=>hRM n (Nat.le_refl _)) (fun j _=>cv_convQ za)))<|cReg<|mW rfl<|mY aQCut rfl<|mW rfl<|mT<|cRet<|rQ rfl (le_qrow (Nat.le_refl _) (dg_eq (fun j hj=>conv_beyondQ za zb (by omega)) (fun j hj=>conv_beyondQ za zb (by omega))) (fun _ _=>rfl))
theorem cv_low{a b:Nat→Int}{j:Nat}(hb:∀ i,2≤i→b i=0):∀ m,m+1≤j→cv a b m j=0:=fun m hm=>conv_z fun i hi hij=>by rw [hb (j-i) (by omega)];simp
theorem conv_lin{a:Nat→Int}{x y:Int}:∀ j,conv a (lin x y) j=a j*x+(if j=0 then 0 else a (j-1)*y)
 | 0=>by
  show cv a (lin x y) 0 0+(if 0≤0 then a 0*lin x y (0-0) else 0)=_
  rw [if_pos (Nat.le_refl _),if_pos rfl];show 0+a 0*x=a 0*x+0
  omega
 | j+1=>by
  show (cv a (lin x y) j (j+1)+(if j≤j+1 then a j*lin x y (j+1-j) else 0))+(if j+1≤j+1 then a (j+1)*lin x y (j+1-(j+1)) else 0)=_
  rw [cv_low lin_z j (Nat.le_refl _),if_pos (by omega),if_pos (Nat.le_refl _),if_neg (by omega),Nat.sub_self,show j+1-j=1 by omega,Nat.add_sub_cancel];show (0+a j*y)+a (j+1)*x=a (j+1)*x+a j*y
  omega
theorem mkR_div{x y:Int}(hy:¬ y=0):mkR x y*(y:Rat)=(x:Rat):=by
 rw [← mkR_int y,← mkR_int x,mkR_ne hy,mkR_ne (by decide),mkR_ne (by decide),Rat.divInt_mul_divInt,Int.mul_one,Int.mul_comm x y];have h:=Rat.divInt_mul_left (n:=x) (d:=1) hy;rwa [Int.mul_one] at h
theorem cast_pow(y:Int):∀ s:Nat,((y^s:Int):Rat)=(y:Rat)^s
 | 0=>rfl
 | s+1=>by rw [Int.pow_succ,Rat.intCast_mul,cast_pow y s,Rat.pow_succ]
theorem ist_tn(K:Nat)(q:Rat):IsT (tn K q) K q.num q.den:=⟨decide (q.num < 0),limbs q.num.natAbs,decide ((q.den:Int) < 0),limbs (Int.natAbs (q.den:Int)),fun _ _ _ h=>h,by rw [val_limbs];exact zv_natAbs _,by rw [val_limbs];exact zv_natAbs _⟩
theorem tn_mono{K L:Nat}{q:Rat}(h:K≤L):∀ B w cs,LsR B w (tn K q) cs→LsR B w (tn L q) cs
 | B,w,[a,b,c,d],⟨h1,h2,h3,h4,h5⟩=>⟨h1,lr_mono h _ _ _ h2,h3,lr_mono h _ _ _ h4,h5⟩
theorem le_tn{K L:Nat}{z y:Rat}(h:K≤L)(e:z=y):AV.le (.d (.agg (tn K z))) (.d (.agg (tn L y))):=by subst e;exact le_agg (tn_mono h)
theorem le_tn2{K L M:Nat}{n d:Int}{q:Rat}(h1:K≤M)(h2:L≤M)(e1:n=q.num)(e2:d=q.den):AV.le (.d (.agg (zn K n ++zn L d))) (.d (.agg (tn M q))):=by
 subst e1;subst e2;refine le_agg fun B w cs h=>?_
 match cs,h with
 | [a,b,c,d],⟨h1',h2',h3',h4',h5'⟩=>exact ⟨h1',lr_mono h1 _ _ _ h2',h3',lr_mono h2 _ _ _ h4',h5'⟩
theorem isp2a{K L:Nat}{s t:Bool}{xs ys:List Nat}{x y:Int}{el:Nat→Nat→Lf}(hx:zv s (val xs)=x)(hy:zv t (val ys)=y)(h0:el 0 0= .v (.bool s):=by rfl)(h1:el 0 1=lr K xs:=by rfl)(h2:el 1 0= .v (.bool t):=by rfl)(h3:el 1 1=lr L ys:=by rfl):IsP (.row 2 2 el) (max K L) 2 (lin x y):=by
 refine ⟨⟨fun i=>if i=0 then (s,xs) else (t,ys),row_le fun i hi j hj B w v hv=>?_,fun i hi=>?_⟩,lin_z⟩
 ·match i,hi,j,hj with
  | 0,_,0,_=>rw [h0] at hv;exact hv
  | 0,_,1,_=>rw [h1] at hv;exact lr_mono (Nat.le_max_left _ _) _ _ _ hv
  | 1,_,0,_=>rw [h2] at hv;exact hv
  | 1,_,1,_=>rw [h3] at hv;exact lr_mono (Nat.le_max_right _ _) _ _ _ hv
 ·match i,hi with
  | 0,_=>exact hx
  | 1,_=>exact hy
theorem gcdN_two{x y:Int}:gcdN (lin x y) 2=Nat.gcd x.natAbs y.natAbs:=by
 show Nat.gcd (Nat.gcd 0 x.natAbs) y.natAbs=_
 rw [Nat.gcd_zero_left]
theorem mkR_posN{n d:Int}(h:0 < d):(Rat.divInt n d).num=n / ((gcdN (lin n d) 2:Nat):Int)∧((Rat.divInt n d).den:Int)=d / ((gcdN (lin n d) 2:Nat):Int):=by rw [gcdN_two];exact mkR_pos h
theorem mkR_negN{n d:Int}(h:d < 0):(Rat.divInt n d).num= -n / ((gcdN (lin n d) 2:Nat):Int)∧((Rat.divInt n d).den:Int)= -d / ((gcdN (lin n d) 2:Nat):Int):=by
 have h1:=mkR_pos (n:= -n) (d:= -d) (by omega);rw [Rat.neg_divInt_neg,Int.natAbs_neg,Int.natAbs_neg] at h1;rw [gcdN_two];exact h1
theorem g_ne{n d:Int}(h:d≠0):((gcdN (lin n d) 2:Nat):Int)≠0:=by rw [gcdN_two];exact gcd_nz h
theorem g_l(n d:Int):((gcdN (lin n d) 2:Nat):Int)∣n:=by rw [gcdN_two];exact gcd_dvd_l n d
theorem g_r(n d:Int):((gcdN (lin n d) 2:Nat):Int)∣d:=by rw [gcdN_two];exact gcd_dvd_r n d
theorem mkR_zero(n:Int):mkR n 0=Rat.divInt n 1:=by unfold mkR;rw [if_pos rfl]
theorem mkR_self(q:Rat):mkR q.num (q.den:Int)=q:=by rw [mkR_ne (den_ne q),Rat.num_divInt_den]
theorem cmpQ_eq{a b:Rat}(h:a=b):cmpQ a b=0:=by subst h;unfold cmpQ cmpZ;simp
theorem cmpQ_lt{x y:Rat}(h:x < y):cmpQ x y= -1:=by
 have:=(Rat.lt_iff x y).1 h;unfold cmpQ cmpZ
 (repeat' split) <;> omega
theorem cmpQ_gt{x y:Rat}(h:y < x):cmpQ x y=1:=by
 have:=(Rat.lt_iff y x).1 h;unfold cmpQ cmpZ
 (repeat' split) <;> omega
theorem ratTri(x y:Rat):x < y∨x=y∨y < x:=by
 by_cases h:x < y
 ·exact Or.inl h
 ·by_cases k:y < x
  ·exact Or.inr (Or.inr k)
  ·exact Or.inr (Or.inl (by grind))
theorem cmpQ_spec(x y:Rat):(x < y∧cmpQ x y= -1)∨(x=y∧cmpQ x y=0)∨(y < x∧cmpQ x y=1):=by
 rcases ratTri x y with h | h | h
 ·exact Or.inl ⟨h,cmpQ_lt h⟩
 ·exact Or.inr (Or.inl ⟨h,cmpQ_eq h⟩)
 ·exact Or.inr (Or.inr ⟨h,cmpQ_gt h⟩)
theorem cmpQ_le{x y:Rat}:cmpQ x y≤0↔x≤y:=by
 rcases cmpQ_spec x y with ⟨h,e⟩ | ⟨h,e⟩ | ⟨h,e⟩ <;> rw [e] <;> constructor <;> intro k <;> first | omega | grind
theorem cmpQ_ge{x y:Rat}:cmpQ x y≥0↔y≤x:=by
 rcases cmpQ_spec x y with ⟨h,e⟩ | ⟨h,e⟩ | ⟨h,e⟩ <;> rw [e] <;> constructor <;> intro k <;> first | omega | grind
theorem cmpQ_zero{x y:Rat}:cmpQ x y=0↔x=y:=by
 rcases cmpQ_spec x y with ⟨h,e⟩ | ⟨h,e⟩ | ⟨h,e⟩ <;> rw [e] <;> constructor <;> intro k <;> first | omega | grind
theorem mid_div(P Q:Rat):Rat.divInt (P.num*Q.den+Q.num*P.den) (P.den*Q.den*2)=(P+Q) / 2:=by
 have h1:=mkR_add P Q;rw [mkR_ne (Int.mul_ne_zero (den_ne P) (den_ne Q))] at h1;have h2:Rat.divInt 1 2=(1:Rat) / 2:=by decide +kernel
 rw [← Int.mul_one (P.num*Q.den+Q.num*P.den),← Rat.divInt_mul_divInt,h1,h2];grind
theorem half_mul(P Q:Rat):(P+Q)*mkR 1 2=(P+Q) / 2:=by
 have h2:mkR 1 2=(1:Rat) / 2:=by decide +kernel
 rw [h2];grind
theorem aTLow{a b:List Lf}{K L M:Nat}{x y:Int}(ha:IsZ a K x)(hb:IsZ b L y)(hy:y≠0)(hM:max (max K L) 1+1≤M:=by first|decide|omega)(hMM:M≤100000000:=by first|decide|omega):ACall Tryz.prog 152 [.agg a,.agg b] (.d (.agg (tn M (Rat.divInt x y)))):=by
 obtain ⟨sa,xa,ha,ea⟩:=ha;obtain ⟨sb,xb,hb,eb⟩:=hb;refine ACall.le (dl (DV.z ha) (dl (DV.z hb) dl0)) AV.le.rfl<|aN 31 [.cell 4 44] Tryz.func152 rfl<|cR<|mO rfl<|mO rfl<|mO rfl<|mT<|cR<|mv2 rfl rfl<|mB hTT (.d (.one (.row 2 2 (fun i' j'=>(([.v (.bool sa),lr K xa] ++ [.v (.bool sb),lr L xb])[i'*2+j']?).getD (.v undef))))) rfl<|mY (aGcd (isp2a (K:=K) (L:=L) ea eb)) rfl<|mO rfl<|mZ rfl<|mT<|cSeq<|cR<|mv2 rfl rfl<|mT<|cCond rfl (fun hc1=>?_) (fun hc1=>?_)
 ·refine cDk 4<|oV rfl<|oC (aNeg ⟨sa,xa,fun _ _ _ h=>h,ea⟩ (by omega)) rfl<|oV rfl<|oC (aNeg ⟨sb,xb,fun _ _ _ h=>h,eb⟩ (by omega)) rfl<|.nil<|mZ rfl<|mZ rfl<|mT<|cSeq ?_;have hyn:y < 0:=by subst hc1;have h0: -(val xb:Int)=y:=eb;omega
  exact cReg<|mv2 rfl rfl<|mY (aExact (isz K (-x)) (isz (max K L) ((gcdN (lin x y) 2):Int)) (g_ne hy) (Int.dvd_neg.2 (g_l x y)) (M:=(max K 1+1))) rfl<|mv3 rfl rfl rfl<|mZ rfl<|mT<|cR<|mv2 rfl rfl<|mY (aExact (isz L (-y)) (isz (max K L) ((gcdN (lin x y) 2):Int)) (g_ne hy) (Int.dvd_neg.2 (g_r x y)) (M:=(max L 1+1))) rfl<|mv3 rfl rfl rfl<|mZ rfl<|mT<|cR<|mv3 rfl rfl rfl<|mZ rfl<|mT<|cRet<|rQ rfl (le_tn2 (by omega) (by omega) (mkR_negN hyn).1.symm (mkR_negN hyn).2.symm)
 ·refine cSkip<|tN<|cSeq ?_;have hyn:0 < y:=by subst hc1;have h0:(val xb:Int)=y:=eb;omega
  exact cReg<|mv2 rfl rfl<|mY (aExact ⟨sa,xa,fun _ _ _ h=>h,ea⟩ (isz (max K L) ((gcdN (lin x y) 2):Int)) (g_ne hy) (g_l x y) (M:=(max K 1+1)) (by omega) (by omega) (by omega)) rfl<|mv3 rfl rfl rfl<|mZ rfl<|mT<|cR<|mv2 rfl rfl<|mY (aExact ⟨sb,xb,fun _ _ _ h=>h,eb⟩ (isz (max K L) ((gcdN (lin x y) 2):Int)) (g_ne hy) (g_r x y) (M:=(max L 1+1)) (by omega) (by omega) (by omega)) rfl<|mv3 rfl rfl rfl<|mZ rfl<|mT<|cR<|mv3 rfl rfl rfl<|mZ rfl<|mT<|cRet<|rQ rfl (le_tn2 (by omega) (by omega) (mkR_posN hyn).1.symm (mkR_posN hyn).2.symm)
theorem aTNorm{a:List Lf}{K M:Nat}{n d:Int}(ha:IsT a K n d)(hM:max K 2+1≤M:=by first|decide|omega)(hMM:M≤100000000:=by first|decide|omega):ACall Tryz.prog 149 [.agg a] (.d (.agg (tn M (mkR n d)))):=by
 obtain ⟨s,xs,t,ys,ha,e1,e2⟩:=ha;refine ACall.le (dl (DV.g ha) dl0) AV.le.rfl<|aN 15 [.cell 2 44] Tryz.func149 rfl<|cR<|mO rfl<|mO rfl<|mT<|cR<|mv2 rfl rfl<|mY (aNorm ⟨t,ys,fun _ _ _ h=>h,e2⟩ (by omega)) rfl<|mO rfl<|mZ rfl<|mT<|cSeq<|cR<|mW rfl<|mY (aZero (isn K d)) rfl<|mT<|cCond rfl (fun hc1=>?_) (fun hc1=>?_)
 ·exact cReg<|mY aOf rfl<|mZ rfl<|mT<|cSeq<|cDk 5<|oV rfl<|oV rfl<|oC (aNorm ⟨s,xs,fun _ _ _ h=>h,e1⟩ (by omega)) rfl<|oV rfl<|oC (aTLow (isz K n) (isz 2 1) (by decide) (M:=(max (max K 2) 1+1))) rfl<|.nil<|mZ rfl<|mT<|cRet<|rQ rfl (le_tn (by omega) (by rw [of_decide_eq_true hc1,mkR_zero]))
 ·exact cSkip<|tN<|cSeq<|cDk 5<|oV rfl<|oV rfl<|oC (aNorm ⟨s,xs,fun _ _ _ h=>h,e1⟩ (by omega)) rfl<|oV rfl<|oC (aTLow (isz K n) (isz K d) (of_decide_eq_false hc1) (M:=(max (max K K) 1+1))) rfl<|.nil<|mZ rfl<|mT<|cRet<|rQ rfl (le_tn (by omega) (mkR_ne (of_decide_eq_false hc1)).symm)
theorem mkR_sub(a b:Rat):Rat.divInt (a.num*b.den-b.num*a.den) (a.den*b.den)=a-b:=by
 have h:=mkR_add a (-b);rw [mkR_ne (Int.mul_ne_zero (den_ne a) (den_ne (-b))),Rat.neg_num,Rat.neg_den,Int.neg_mul,← Int.sub_eq_add_neg,← Rat.sub_eq_add_neg] at h;exact h
theorem mkR_nz(a b:Rat):(a.den:Int)*(b.den:Int)≠0:=Int.mul_ne_zero (den_ne a) (den_ne b)
theorem aTCross{a b:List Lf}{K L M:Nat}{n d m e:Int}(ha:IsT a K n d)(hb:IsT b L m e)(hM:(max K 2+1)+(max L 2+1)≤M:=by first|decide|omega)(hMM:M≤100000000:=by first|decide|omega):ACall Tryz.prog 151 [.agg a,.agg b] (.tup [.agg (zn M (Rat.num (mkR n d)*(Rat.den (mkR m e):Int))),.agg (zn M (Rat.num (mkR m e)*(Rat.den (mkR n d):Int))),.agg (zn M ((Rat.den (mkR n d):Int)*(Rat.den (mkR m e):Int)))]):=by
 obtain ⟨s0,xs0,t0,ys0,ha,e0,k0⟩:=ha;obtain ⟨s1,xs1,t1,ys1,hb,e1,k1⟩:=hb;exact ACall.le (dl (DV.g ha) (dl (DV.g hb) dl0)) AV.le.rfl<|aN 26 [.cell 4 42,.cell 5 42,.cell 6 42] Tryz.func151 rfl<|cR<|mO rfl<|mO rfl<|mO rfl<|mO rfl<|mO rfl<|mT<|cSeq<|cDk 4<|oV rfl<|oC (aTNorm (⟨s0,xs0,t0,ys0,fun _ _ _ h=>h,e0,k0⟩:IsT ([.v (.bool s0),lr K xs0] ++ [.v (.bool t0),lr K ys0]) K n d) (M:=(max K 2+1))) rfl<|oV rfl<|oC (aTNorm (⟨s1,xs1,t1,ys1,fun _ _ _ h=>h,e1,k1⟩:IsT ([.v (.bool s1),lr L xs1] ++ [.v (.bool t1),lr L ys1]) L m e) (M:=(max L 2+1))) rfl<|.nil<|mZ rfl<|mZ rfl<|mT<|cSeq<|cDk 15<|oV rfl<|oV rfl<|oV rfl<|oV rfl<|oC (aMul (isz (max K 2+1) (Rat.num (mkR n d))) (isz (max L 2+1) (Rat.den (mkR m e):Int)) (M:=((max K 2+1)+(max L 2+1)))) rfl<|oV rfl<|oV rfl<|oV rfl<|oV rfl<|oC (aMul (isz (max L 2+1) (Rat.num (mkR m e))) (isz (max K 2+1) (Rat.den (mkR n d):Int)) (M:=((max L 2+1)+(max K 2+1)))) rfl<|oV rfl<|oV rfl<|oV rfl<|oV rfl<|oC (aMul (isz (max K 2+1) (Rat.den (mkR n d):Int)) (isz (max L 2+1) (Rat.den (mkR m e):Int)) (M:=((max K 2+1)+(max L 2+1)))) rfl<|.nil<|mZ rfl<|mZ rfl<|mZ rfl<|mT<|cRet<|rQ rfl (le_tup (dl (dle (le_zn (by omega) rfl)) (dl (dle (le_zn (by omega) rfl)) (dl (dle (le_zn (by omega) rfl)) dl0))))
theorem aTCmp{a b:List Lf}{K L:Nat}{n d m e:Int}(ha:IsT a K n d)(hb:IsT b L m e)(hK:K≤10000000:=by decide)(hL:L≤10000000:=by decide):ACall Tryz.prog 91 [.agg a,.agg b] (.d (.one (.v (.int .i64 (cmpQ (mkR n d) (mkR m e)))))):=by
 obtain ⟨s0,xs0,t0,ys0,ha,e0,k0⟩:=ha;obtain ⟨s1,xs1,t1,ys1,hb,e1,k1⟩:=hb;exact ACall.le (dl (DV.g ha) (dl (DV.g hb) dl0)) AV.le.rfl<|aN 18 [.tmp 4] Tryz.func91 rfl<|cR<|mO rfl<|mO rfl<|mW rfl<|mT<|cR<|mv2 rfl rfl<|mY (aTCross (⟨s0,xs0,t0,ys0,fun _ _ _ h=>h,e0,k0⟩:IsT ([.v (.bool s0),lr K xs0] ++ [.v (.bool t0),lr K ys0]) K n d) (⟨s1,xs1,t1,ys1,fun _ _ _ h=>h,e1,k1⟩:IsT ([.v (.bool s1),lr L xs1] ++ [.v (.bool t1),lr L ys1]) L m e) (M:=((max K 2+1)+(max L 2+1)))) rfl<|mv4 rfl rfl rfl rfl<|mO rfl<|mO rfl<|mO rfl<|mZ rfl<|mZ rfl<|mZ rfl<|mT<|cR<|mv2 rfl rfl<|mY (aCmp (isz ((max K 2+1)+(max L 2+1)) (Rat.num (mkR n d)*(Rat.den (mkR m e):Int))) (isz ((max K 2+1)+(max L 2+1)) (Rat.num (mkR m e)*(Rat.den (mkR n d):Int)))) rfl<|mW rfl<|mT<|cRet<|rQ rfl (AV.le.rfl)
theorem aTSub{a b:List Lf}{K L M:Nat}{n d m e:Int}(ha:IsT a K n d)(hb:IsT b L m e)(hM:(max K 2+1)+(max L 2+1)+2≤M:=by decide)(hMM:M≤100000000:=by decide):ACall Tryz.prog 96 [.agg a,.agg b] (.d (.agg (tn M ((mkR n d)-(mkR m e))))):=by
 obtain ⟨s0,xs0,t0,ys0,ha,e0,k0⟩:=ha;obtain ⟨s1,xs1,t1,ys1,hb,e1,k1⟩:=hb;exact ACall.le (dl (DV.g ha) (dl (DV.g hb) dl0)) AV.le.rfl<|aN 20 [.cell 4 44] Tryz.func96 rfl<|cR<|mO rfl<|mO rfl<|mO rfl<|mT<|cR<|mv2 rfl rfl<|mY (aTCross (⟨s0,xs0,t0,ys0,fun _ _ _ h=>h,e0,k0⟩:IsT ([.v (.bool s0),lr K xs0] ++ [.v (.bool t0),lr K ys0]) K n d) (⟨s1,xs1,t1,ys1,fun _ _ _ h=>h,e1,k1⟩:IsT ([.v (.bool s1),lr L xs1] ++ [.v (.bool t1),lr L ys1]) L m e) (M:=((max K 2+1)+(max L 2+1)))) rfl<|mv4 rfl rfl rfl rfl<|mO rfl<|mO rfl<|mO rfl<|mZ rfl<|mZ rfl<|mZ rfl<|mT<|cSeq<|cDk 5<|oV rfl<|oV rfl<|oC (aSub (isz ((max K 2+1)+(max L 2+1)) (Rat.num (mkR n d)*(Rat.den (mkR m e):Int))) (isz ((max K 2+1)+(max L 2+1)) (Rat.num (mkR m e)*(Rat.den (mkR n d):Int))) (M:=(max ((max K 2+1)+(max L 2+1)) ((max K 2+1)+(max L 2+1))+1))) rfl<|oV rfl<|oC (aTLow (isz (max ((max K 2+1)+(max L 2+1)) ((max K 2+1)+(max L 2+1))+1) ((Rat.num (mkR n d)*(Rat.den (mkR m e):Int))-(Rat.num (mkR m e)*(Rat.den (mkR n d):Int)))) (isz ((max K 2+1)+(max L 2+1)) ((Rat.den (mkR n d):Int)*(Rat.den (mkR m e):Int))) (mkR_nz (mkR n d) (mkR m e)) (M:=(max (max (max ((max K 2+1)+(max L 2+1)) ((max K 2+1)+(max L 2+1))+1) ((max K 2+1)+(max L 2+1))) 1+1))) rfl<|.nil<|mZ rfl<|mT<|cRet<|rQ rfl (le_tn (by omega) (mkR_sub (mkR n d) (mkR m e)))
theorem aTMax{a:List Lf}{K M:Nat}{n d:Int}(ha:IsT a K n d)(hM:max K 2+1≤M:=by first|decide|omega)(hMM:M≤100000000:=by first|decide|omega):ACall Tryz.prog 87 [.agg a,.one (.v (.slice none 0 0))] (.d (.agg (tn M (mkR n d)))):=by
 obtain ⟨s0,xs0,t0,ys0,ha,e0,k0⟩:=ha;refine ACall.le (dl (DV.g ha) (dl DV.same dl0)) AV.le.rfl<|aN 24 [.cell 4 44] Tryz.func87 rfl<|cR<|mO rfl<|mO rfl<|mT<|cR<|mW rfl<|mY (aTNorm (⟨s0,xs0,t0,ys0,fun _ _ _ h=>h,e0,k0⟩:IsT ([.v (.bool s0),lr K xs0] ++ [.v (.bool t0),lr K ys0]) K n d) (M:=(max K 2+1))) rfl<|mO rfl<|mZ rfl<|mT<|cSeq<|cR<|mv3 rfl rfl rfl<|mT<|cBlock<|cLoop (ι:=Nat) (fun (u:Nat)=>⟨24,[(4,.ptr 4 0),(5,.ptr 5 0),(11,.d (.one (.v (.int .i64 0)))),(12,.d (.one (.v (.int .i64 0))))],[(4,.box 44 ([.v (.bool false),.v (.slice none 0 0),.v (.bool false),.v (.slice none 0 0)])),(5,.box 44 (tn (max K 2+1) (mkR n d)))]⟩) (fun (u:Nat)=>True) (fun (u:Nat)=>u) 0 (trivial) (wkr rfl rfl) ?_;rintro u hI;have hT0:True:=hI;show AW _ _ _ ⟨_,_,_⟩
 exact cR<|mW rfl<|mT<|cSeq<|cF rfl<|cExit<|tE<|tE<|bE<|tN<|cR<|mW rfl<|mZ rfl<|mT<|cRet<|rQ rfl (le_tn (by omega) rfl)
theorem aPlain{a:List Lf}{K M:Nat}{n d:Int}(ha:IsT a K n d)(hM:max K 2+1≤M:=by first|decide|omega)(hMM:M≤100000000:=by first|decide|omega):ACall Tryz.prog 119 [.agg a] (.d (.agg (tn M (mkR n d)))):=by
 obtain ⟨s0,xs0,t0,ys0,ha,e0,k0⟩:=ha;exact ACall.le (dl (DV.g ha) dl0) AV.le.rfl<|aN 5 [.cell 2 44] Tryz.func119 rfl<|cR<|mO rfl<|mO rfl<|mT<|cR<|mW rfl<|mY (aTMax (⟨s0,xs0,t0,ys0,fun _ _ _ h=>h,e0,k0⟩:IsT ([.v (.bool s0),lr K xs0] ++ [.v (.bool t0),lr K ys0]) K n d) (M:=(max K 2+1))) rfl<|mZ rfl<|mT<|cRet<|rQ rfl (le_tn (by omega) rfl)
theorem rc_conv(a b:Nat→Int)(j:Nat):conv (rc a) (rc b) j=rc (conv a b) j:=cv_cast _
theorem isi_cut{n:Nat}{c:Nat→Int}:IsI (irow n c) n (fun i=>if i < n then c i else 0):=by
 refine ⟨row_le fun i hi j hj B w v hv=>?_,fun i hi=>if_neg (by omega)⟩;show LfR B w (.v (.int .i64 (if i < n then c i else 0))) v
 rw [if_pos hi];exact hv
def sm(f:Nat→Int):Nat→Int
 | 0=>0
 | m+1=>sm f m+f m
theorem sm_congr{f g:Nat→Int}:∀ {m:Nat},(∀ i,i < m→f i=g i)→sm f m=sm g m
 | 0,_=>rfl
 | m+1,h=>by show sm f m+f m=sm g m+g m;rw [sm_congr (fun i hi=>h i (by omega)),h m (by omega)]
theorem sm_add{f g:Nat→Int}:∀ m,sm (fun i=>f i+g i) m=sm f m+sm g m
 | 0=>rfl
 | m+1=>by show sm _ m+(f m+g m)=(sm f m+f m)+(sm g m+g m);rw [sm_add m];omega
theorem sm_first{f:Nat→Int}:∀ m,sm f (m+1)=f 0+sm (fun i=>f (i+1)) m
 | 0=>by show (0:Int)+f 0=f 0+0;omega
 | m+1=>by
  have h:=sm_first (f:=f) m;show sm f (m+1)+f (m+1)=f 0+(sm (fun i=>f (i+1)) m+f (m+1))
  omega
theorem sm_rev{f:Nat→Int}:∀ n,sm f (n+1)=sm (fun i=>f (n-i)) (n+1)
 | 0=>rfl
 | n+1=>by
  rw [sm_first (f:=fun i=>f (n+1-i)) (n+1)];show sm f (n+1)+f (n+1)=f (n+1)+sm (fun i=>f (n+1-(i+1))) (n+1)
  rw [sm_rev n,Int.add_comm];congr 1;exact sm_congr fun i _=>by congr 1;omega
theorem cv_sm{a b:Nat→Int}{j:Nat}:∀ {m:Nat},m≤j+1→cv a b m j=sm (fun i=>a i*b (j-i)) m
 | 0,_=>rfl
 | m+1,h=>by
  show cv a b m j+(if m≤j then a m*b (j-m) else 0)=_
  rw [cv_sm (by omega),if_pos (by omega)];rfl
theorem conv_sm(a b:Nat→Int)(j:Nat):conv a b j=sm (fun i=>a i*b (j-i)) (j+1):=cv_sm (Nat.le_refl _)
theorem conv_comm(a b:Nat→Int)(j:Nat):conv a b j=conv b a j:=by
 rw [conv_sm,conv_sm,sm_rev];exact sm_congr fun i hi=>by rw [show j-(j-i)=i by omega,Int.mul_comm]
theorem conv_add(a b c:Nat→Int)(j:Nat):conv a (fadd b c) j=fadd (conv a b) (conv a c) j:=by
 show _=conv a b j+conv a c j
 rw [conv_sm,conv_sm,conv_sm,← sm_add];exact sm_congr fun i _=>by show a i*(b (j-i)+c (j-i))=_;rw [Int.mul_add]
/-- The leading coefficient of a product. -/
theorem conv_top{a b:Nat→Int}{n m:Nat}(ha:∀ i,n≤i→a i=0)(hb:∀ i,m≤i→b i=0)(hn:n≠0)(hm:m≠0):conv a b (n+m-2)=a (n-1)*b (m-1):=by
 obtain ⟨n,rfl⟩:=Nat.exists_eq_succ_of_ne_zero hn;obtain ⟨m,rfl⟩:=Nat.exists_eq_succ_of_ne_zero hm;rw [← cv_conv (n:=n+1) ha];show cv a b n (n.succ+m.succ-2)+(if n≤n.succ+m.succ-2 then a n*b (n.succ+m.succ-2-n) else 0)=a n*b m
 rw [conv_z (fun i hi _=>by rw [hb (n.succ+m.succ-2-i) (by omega),Int.mul_zero]),if_pos (by omega),show n.succ+m.succ-2-n=m by omega,Int.zero_add]
theorem dg_conv{a b:Nat→Int}{n m:Nat}(hn:n≠0)(hm:m≠0)(ha:∀ i,n≤i→a i=0)(hb:∀ i,m≤i→b i=0)(ha0:a (n-1)≠0)(hb0:b (m-1)≠0){p:Nat}(hp:∀ i,p≤i→conv a b i=0):dg (conv a b) p=n+m-1:=
 dg_uniq dg_or (dg_z hp) (Or.inr (by rw [show n+m-1-1=n+m-2 by omega,conv_top ha hb hn hm];exact Int.mul_ne_zero ha0 hb0)) (fun i hi=>conv_beyond ha hb (by omega))
theorem nil_zn{K:Nat}{z:Int}(h:z=0):AV.le (.d (.agg [.v (.bool false),.v (.slice none 0 0)])) (.d (.agg (zn K z))):=by subst h;exact le_agg fun B w cs h=>zn_mono (Nat.zero_le _) _ _ _ (nil_ls h)
/-- Horner's rule over whole numbers. -/
def vlZ(a:Nat→Int)(x y:Int)(top:Nat):Nat→Int
 | 0=>0
 | s+1=>vlZ a x y top s*x+a (top-1-s)*y^s
def vlQ(a:Nat→Rat)(q:Rat)(top:Nat):Nat→Rat
 | 0=>0
 | s+1=>vlQ a q top s*q+a (top-1-s)
theorem leo_nilz{t:TypeId}{K:Nat}:AO.le (.box t [.v (.bool false),.v (.slice none 0 0)]) (.box t (zn K 0)):=leo_box fun B w cs h=>zn_mono (Nat.zero_le _) _ _ _ (nil_ls h)
theorem aPValue{a:Lf}{b e:List Lf}{K L1 L2 M n D T:Nat}{c:Nat→Int}{x y:Int}(ha:IsP a K n c)(hb:IsZ b L1 x)(hd:IsZ e L2 y)(hn:n≤D)(hDD:D≤1000:=by decide)(hT:K+L1+L2+5≤T:=by decide)(hM:(D+1)*T≤M:=by decide)(hMM:M≤1000000000:=by decide):ACall Tryz.prog 121 [.one a,.agg b,.agg e] (.d (.agg (zn M (vlZ c x y n n)))):=by
 obtain ⟨⟨fa,ha,ea⟩,za⟩:=ha;obtain ⟨s1,xs1,hb,ex⟩:=hb;obtain ⟨s2,xs2,hd,ey⟩:=hd;refine ACall.le (dl (DV.l ha) (dl (DV.z hb) (dl (DV.z hd) dl0))) AV.le.rfl ?_;obtain ⟨R,hR0,hR1,hRM⟩:∃ R:Nat→Nat,2≤R 0∧(∀ i,R i+T≤R (i+1))∧∀ i,i≤D→R i≤M:=⟨fun i=>(i+1)*T,by show 2≤(0+1)*T;omega,fun i=>by show (i+1)*T+T≤(i+1+1)*T;rw [Nat.succ_mul (i+1)];exact Nat.le_refl _,fun i hi=>Nat.le_trans (Nat.mul_le_mul_right _ (by omega)) hM⟩
 have hT1:=hRM 0 (Nat.zero_le _);have hTM:T≤M:=Nat.le_trans (Nat.le_mul_of_pos_left T (by omega)) hM;refine aN 32 [.cell 6 42] Tryz.func121 rfl<|cR<|mO rfl<|mO rfl<|mO rfl<|mT<|cR<|mO rfl<|mT<|cR<|mY aOf rfl<|mO rfl<|mZ rfl<|mT<|cSeq<|cR<|mv2 rfl rfl<|mV hTT (.d (.one (.v (.int .i64 ((n:Int)-1))))) (evi (wr64 (by omega) (by omega)))<|mW rfl<|mT<|cBlock<|cLoop (ι:=Nat) (fun (s:Nat)=>⟨32,[(0,.d (.one (.row 2 n (ael K fa)))),(4,.ptr 4 0),(5,.ptr 5 0),(6,.ptr 6 0),(7,.ptr 7 0),(8,.ptr 8 0),(9,.d (.one (.v (.int .i64 ((n:Int)-1-(s:Int))))))],[(4,.box 42 ([.v (.bool s1),lr L1 xs1])),(5,.box 42 ([.v (.bool s2),lr L2 xs2])),(6,.box 42 ([.v (.bool false),.v (.slice none 0 0)])),(7,.box 42 (zn (R s) (vlZ c x y n s))),(8,.box 42 (zn (R s) (y^s)))]⟩) (fun (s:Nat)=>s≤n) (fun (s:Nat)=>n-s) 0 (Nat.zero_le _) (wk rfl ⟨hs rfl,hs rfl,hs rfl,hs rfl,hs rfl,hs rfl,hs' rfl (le_int (by omega)),trivial⟩ ⟨ho rfl,ho rfl,ho rfl,ho' rfl (leo_nilz),ho' rfl (leo_zn (by omega) (Int.pow_zero y).symm),trivial⟩ rfl) ?_;rintro s hI;have hi:s≤n:=hI;show AW _ _ _ ⟨_,_,_⟩
 refine cSeq<|cR<|mv2 rfl rfl<|mT<|cCond rfl (fun hc1=>?_) (fun hc1=>?_)
 ·refine cSkip<|tN<|cSeq<|cBlock<|cSeq ?_;have hsd:s < n:=by have h0:=of_decide_eq_true hc1;omega
  have hR:=hR1 s;have hRm:=hRM (s+1) (by omega);refine cView 9 (.d (.one (.v (.int .i64 ((n-1-s:Nat):Int))))) rfl (le_int (by omega))<|cDk 10<|oV rfl<|oV rfl<|oC (aMul (isz (R s) (vlZ c x y n s)) ⟨s1,xs1,fun _ _ _ h=>h,ex⟩ (M:=((R s)+L1)) (by omega) (by omega) (by omega)) rfl<|.cons (OpS.V _ rfl)<|.cons (OpS.V _ rfl)<|.cons (OpS.V (.d (.one (.at 2 ((ael K fa) (n-1-s))))) (ixR (el:=(ael K fa)) (z:=((n-1-s:Nat):Int)) (n:=n) rfl rfl rfl rfl rfl rfl (by omega) (by omega))) ?_;exact oV rfl<|oV rfl<|oC (aMul ⟨_,_,fun _ _ _ h=>h,ea (n-1-s) (by omega)⟩ (isz (R s) (y^s)) (M:=(K+(R s))) (by omega) (by omega) (by omega)) rfl<|oC (aAdd (isz ((R s)+L1) ((vlZ c x y n s)*x)) (isz (K+(R s)) ((c (n-1-s))*(y^s))) (M:=(max ((R s)+L1) (K+(R s))+1))) rfl<|.nil<|mZ rfl<|mT<|cReg<|mv2 rfl rfl<|mY (aMul (isz (R s) (y^s)) ⟨s2,xs2,fun _ _ _ h=>h,ey⟩ (M:=((R s)+L2)) (by omega) (by omega) (by omega)) rfl<|mZ rfl<|mNil<|bN<|tN<|cReg<|mv3 rfl rfl rfl<|mNil<|⟨(s+1),by omega,by omega,wk rfl ⟨hs rfl,hs rfl,hs rfl,hs rfl,hs rfl,hs rfl,hs' rfl (le_int ((wr64 (by omega) (by omega)).trans (by omega))),trivial⟩ ⟨ho rfl,ho rfl,ho rfl,ho' rfl (leo_zn (by omega) rfl),ho' rfl (leo_zn (by omega) (Int.pow_succ y s).symm),trivial⟩ rfl⟩
 ·refine cExit<|tE<|tE<|bE<|tN<|cR<|mW rfl<|mZ rfl<|mT<|cRet ?_;have hie:n=s:=by have h0:=of_decide_eq_false hc1;omega
  subst hie;exact rQ rfl (le_zn (hRM _ hn) rfl)
theorem aPLead{a:Lf}{K n:Nat}{c:Nat→Int}(ha:IsP a K n c)(hn:n≤1000000:=by first|decide|omega)(hK:K≤1000000000:=by first|decide|omega):ACall Tryz.prog 111 [.one a] (.d (.agg (zn K (c (dg c n-1))))):=by
 obtain ⟨⟨fa,ha,ea⟩,za⟩:=ha;refine ACall.le (dl (DV.l ha) dl0) AV.le.rfl ?_;have hla:=dg_le c n;refine aN 15 [.cell 2 42] Tryz.func111 rfl<|cR<|mO rfl<|mT<|cSeq<|cR<|mW rfl<|mY (aPNorm (⟨⟨fa,fun _ _ _ h=>h,ea⟩,za⟩:IsP (arow K n fa) K n c)) rfl<|mW rfl<|mT<|cR<|mv3 rfl rfl rfl<|mT<|cCond rfl (fun hc1=>?_) (fun hc1=>?_)
 ·exact cR<|mW rfl<|mZ rfl<|mT<|cRet<|tR<|rQ rfl (nil_zn (dg_all za (by have h0:=eq_of_beq hc1;omega) _))
 ·refine cSkip<|tN<|cSeq ?_;have hl0:dg c n≠0:=fun e=>by have h0:=hc1;rw [e] at h0;exact absurd h0 (by decide)
  refine cReg<|mv3 rfl rfl rfl<|mV hTT (.d (.one (.v (.int .i64 ((dg c n-1:Nat):Int))))) (evi ((wr64 (by omega) (by omega)).trans (by omega)))<|mV hTT (.d (.one (.at 2 ((zel K c) (dg c n-1))))) (ixR (el:=(zel K c)) (z:=((dg c n-1:Nat):Int)) (n:=(dg c n)) rfl rfl rfl rfl rfl rfl (by omega) (by omega)) ?_;exact mW rfl<|mZ rfl<|mT<|cRet<|rQ rfl (AV.le.rfl)
theorem aDeg{K n:Nat}{c:Nat→Int}(hn:n≤1000000:=by omega):ACall Tryz.prog 64 [.one (prow K n c)] (.d (.one (.v (.int .i64 ((n:Int)-1))))):=by
 exact aN 6 [.tmp 2] Tryz.func64 rfl<|cR<|mW rfl<|mT<|cR<|mv2 rfl rfl<|mV hTT (.d (.one (.v (.int .i64 ((n:Int)-1))))) (evi (wr64 (by omega) (by omega)))<|mW rfl<|mT<|cRet<|rQ rfl (AV.le.rfl)
theorem cmpZ_sgn(z:Int):cmpZ z 0=sgn z:=by unfold cmpZ sgn;(repeat' split) <;> omega
theorem aPSign{a:Lf}{b:List Lf}{K L M n D T:Nat}{c:Nat→Int}{nn dd:Int}(ha:IsP a K n c)(hb:IsT b L nn dd)(hn:n≤D)(hDD:D≤1000:=by decide)(hT:K+(max L 2+1)+(max L 2+1)+5≤T:=by decide)(hM:(D+1)*T≤M:=by decide)(hMM:M≤1000000000:=by decide)(hL:L≤1000000:=by decide)(hK:K≤10000000:=by decide):ACall Tryz.prog 62 [.one a,.agg b] (.d (.one (.v (.int .i64 (sgn (vlZ c (mkR nn dd).num ((mkR nn dd).den:Int) (dg c n) (dg c n))))))):=by
 obtain ⟨⟨fa,ha,ea⟩,za⟩:=ha;obtain ⟨s0,xs0,t0,ys0,hb,e0,k0⟩:=hb;refine ACall.le (dl (DV.l ha) (dl (DV.g hb) dl0)) AV.le.rfl ?_;have hla:=dg_le c n;refine aN 16 [.tmp 4] Tryz.func62 rfl<|cR<|mO rfl<|mW rfl<|mT<|cR<|mW rfl<|mY (aPlain (⟨s0,xs0,t0,ys0,fun _ _ _ h=>h,e0,k0⟩:IsT ([.v (.bool s0),lr L xs0] ++ [.v (.bool t0),lr L ys0]) L nn dd) (M:=(max L 2+1))) rfl<|mZ rfl<|mT<|cSeq ?_;have hMb:T≤M:=Nat.le_trans (Nat.le_mul_of_pos_left T (by omega)) hM;exact cDk 10<|.cons (OpS.V _ rfl)<|oC (aPNorm (⟨⟨fa,fun _ _ _ h=>h,ea⟩,za⟩:IsP (arow K n fa) K n c)) rfl<|oV rfl<|oV rfl<|oV rfl<|oV rfl<|oC (aPValue (isp (K:=K) (c:=c) (dg_z za)) (isz (max L 2+1) (Rat.num (mkR nn dd))) (isz (max L 2+1) (Rat.den (mkR nn dd):Int)) (D:=D) (T:=T) (M:=M) (by omega) hDD hT hM hMM) rfl<|oV rfl<|oC (aCmp (isz M (vlZ c (Rat.num (mkR nn dd)) (Rat.den (mkR nn dd):Int) (dg c n) (dg c n))) isz_nil) rfl<|.cons (OpS.V _ rfl)<|.nil<|mT<|cRet<|rQ rfl (le_int (cmpZ_sgn _))
theorem aQWhole{K n:Nat}{c:Nat→Int}(hn:n≤1000000):ACall Tryz.prog 132 [.one (qrow K n (rc c))] (.d (.one (.v (.bool true)))):=by
 refine aN 29 [.tmp 2] Tryz.func132 rfl<|cR<|mW rfl<|mT<|cSeq<|cR<|mv3 rfl rfl rfl<|mT<|cBlock<|cLoop (ι:=Nat) (fun (i:Nat)=>⟨29,[(0,.d (.one (.row 4 n (qel K (rc c))))),(5,.d (.one (.v (.int .i64 (n:Int))))),(6,.d (.one (.v (.int .i64 ((i:Nat):Int)))))],[]⟩) (fun (i:Nat)=>i≤n) (fun (i:Nat)=>n-i) 0 (Nat.zero_le _) (wkr rfl rfl) ?_;rintro i hI;have hi:i≤n:=hI;show AW _ _ _ ⟨_,_,_⟩
 refine cR<|mW rfl<|mT<|cSeq<|cCond rfl (fun hc1=>?_) (fun hc1=>?_)
 ·refine cSkip<|tN<|cSeq<|cBlock<|cR<|mv2 rfl rfl<|mT<|cSeq ?_;have hin:i < n:=by have h0:=of_decide_eq_true hc1;omega
  have hden:Int.natAbs ((rc c i).den:Int)=1:=by unfold rc;rw [Rat.den_intCast];rfl
  refine cReg<|mv2 rfl rfl<|mV hTT (.d (.one (.at 4 ((qel K (rc c)) i)))) (ixR (el:=(qel K (rc c))) (z:=((i:Nat):Int)) (n:=n) rfl rfl rfl rfl rfl rfl (by omega) (by omega)) ?_;refine mv4 rfl rfl rfl rfl<|mbF rfl (by show (((digs4 (Int.natAbs ((rc c i).den:Int))).length:Int) !=1)=false;rw [hden,(digs1.2 rfl).1];rfl)<|mv3 rfl rfl rfl<|mV hTT (.d (.one (.at 4 ((qel K (rc c)) i)))) (ixR (el:=(qel K (rc c))) (z:=((i:Nat):Int)) (n:=n) rfl rfl rfl rfl rfl rfl (by omega) (by omega)) ?_;refine mv3 rfl rfl rfl<|mView 23 (.d (.one (.row 1 ((digs4 (Int.natAbs ((rc c i).den:Int))).length) (fun i _=> .v (.int .i64 (((digs4 (Int.natAbs ((rc c i).den:Int))).getD i 0:Nat):Int)))))) rfl (le_drow _ _)<|mV hTT (.d (.one (.at 1 ((fun i _=> .v (.int .i64 (((digs4 (Int.natAbs ((rc c i).den:Int))).getD i 0:Nat):Int))) 0)))) (ixR (el:=(fun i _=> .v (.int .i64 (((digs4 (Int.natAbs ((rc c i).den:Int))).getD i 0:Nat):Int)))) (z:=0) (n:=((digs4 (Int.natAbs ((rc c i).den:Int))).length)) rfl rfl rfl rfl rfl rfl (by decide) (by rw [hden,(digs1.2 rfl).1];decide)) ?_;exact mW rfl<|mbF rfl (by show ((((digs4 (Int.natAbs ((rc c i).den:Int))).getD 0 0:Nat):Int) !=1)=false;rw [hden,(digs1.2 rfl).2];rfl)<|mW rfl<|mT<|cF rfl<|cSkip<|bN<|tN<|cReg<|mv2 rfl rfl<|mNil<|⟨(i+1),by omega,by omega,wk rfl ⟨hs rfl,hs rfl,hs' rfl (le_int (inc64 (by omega))),trivial⟩ trivial rfl⟩
 ·exact cExit<|tE<|tE<|bE<|tN<|cR<|mW rfl<|mT<|cRet<|rQ rfl (AV.le.rfl)
theorem leo_nilr{t:TypeId}{K:Nat}:AO.le (.box t [.v (.slice none 0 0),.v (.bool false)]) (.box t (rn K 0)):=leo_box fun B w cs h=>rn_mono (Nat.zero_le _) _ _ _ (nil_rs h)
theorem aQSign{a:Lf}{b:List Lf}{K L M n D T:Nat}{c:Nat→Int}{q:Rat}(ha:∀ B w v,LfR B w a v→LfR B w (qrow K n (rc c)) v)(hb:IsQ b L q)(hn:n≤D)(hDD:D≤1000:=by decide)(hT:K+L+140≤T:=by decide)(hM:(D+1)*T≤M:=by decide)(hMM:M≤10000000:=by decide):ACall Tryz.prog 73 [.one a,.agg b] (.d (.one (.v (.int .i64 (sgn (vlZ c q.num (q.den:Int) n n)))))):=by
 refine ACall.le (dl (DV.l ha) (dl (DV.g hb) dl0)) AV.le.rfl ?_;obtain ⟨R,hR0,hR1,hRM⟩:∃ R:Nat→Nat,64≤R 0∧(∀ i,R i+T≤R (i+1))∧∀ i,i≤D→R i≤M:=⟨fun i=>(i+1)*T,by show 64≤(0+1)*T;omega,fun i=>by show (i+1)*T+T≤(i+1+1)*T;rw [Nat.succ_mul (i+1)];exact Nat.le_refl _,fun i hi=>Nat.le_trans (Nat.mul_le_mul_right _ (by omega)) hM⟩
 have hT1:=hRM 0 (Nat.zero_le _);have hTM:T≤M:=Nat.le_trans (Nat.le_mul_of_pos_left T (by omega)) hM;refine aN 42 [.tmp 4] Tryz.func73 rfl<|cR<|mO rfl<|mW rfl<|mT<|cSeq<|cR<|mW rfl<|mY (aQWhole (by omega)) rfl<|mW rfl<|mT<|cFs rfl<|cR<|mO rfl<|mT<|cR<|mY aROf rfl<|mO rfl<|mZ rfl<|mT<|cSeq<|cR<|mv2 rfl rfl<|mV hTT (.d (.one (.v (.int .i64 ((n:Int)-1))))) (evi (wr64 (by omega) (by omega)))<|mW rfl<|mT<|cBlock<|cLoop (ι:=Nat) (fun (s:Nat)=>⟨42,[(0,.d (.one (.row 4 n (qel K (rc c))))),(3,.ptr 3 0),(5,.ptr 5 0),(6,.ptr 6 0),(7,.d (.one (.v (.int .i64 ((n:Int)-1-(s:Int))))))],[(3,.box 30 (qn L q)),(5,.box 28 (rn (R s) (vlZ c q.num (q.den:Int) n s))),(6,.box 28 (rn (R s) ((q.den:Int)^s)))]⟩) (fun (s:Nat)=>s≤n) (fun (s:Nat)=>n-s) 0 (Nat.zero_le _) (wk rfl ⟨hs rfl,hs rfl,hs rfl,hs rfl,hs' rfl (le_int (by omega)),trivial⟩ ⟨ho rfl,ho' rfl (leo_nilr),ho' rfl (leo_rn (by omega) (Int.pow_zero (q.den:Int)).symm),trivial⟩ rfl) ?_;rintro s hI;have hi:s≤n:=hI;show AW _ _ _ ⟨_,_,_⟩
 refine cSeq<|cR<|mv2 rfl rfl<|mT<|cCond rfl (fun hc1=>?_) (fun hc1=>?_)
 ·refine cSkip<|tN<|cSeq<|cBlock<|cSeq ?_;have hsd:s < n:=by have h0:=of_decide_eq_true hc1;omega
  have hR:=hR1 s;have hRm:=hRM (s+1) (by omega);refine cView 7 (.d (.one (.v (.int .i64 ((n-1-s:Nat):Int))))) rfl (le_int (by omega))<|cDk 12<|oV rfl<|oV rfl<|oV rfl<|oC (aRMul (isr (R s) (vlZ c q.num (q.den:Int) n s)) (isr L (Rat.num q)) (M:=((R s)+L))) rfl<|.cons (OpS.V _ rfl)<|.cons (OpS.V _ rfl)<|.cons (OpS.V (.d (.one (.at 4 ((qel K (rc c)) (n-1-s))))) (ixR (el:=(qel K (rc c))) (z:=((n-1-s:Nat):Int)) (n:=n) rfl rfl rfl rfl rfl rfl (by omega) (by omega))) ?_;exact .cons (OpS.V _ rfl)<|oV rfl<|oV rfl<|oC (aRMul (isr K (Rat.num ((rc c) (n-1-s)))) (isr (R s) ((q.den:Int)^s)) (M:=(K+(R s)))) rfl<|oC (aRAdd (isr ((R s)+L) ((vlZ c q.num (q.den:Int) n s)*(Rat.num q))) (isr (K+(R s)) ((Rat.num ((rc c) (n-1-s)))*((q.den:Int)^s))) (M:=(max ((R s)+L) (K+(R s))+1))) rfl<|.nil<|mZ rfl<|mT<|cReg<|mv3 rfl rfl rfl<|mY (aRMul (isr (R s) ((q.den:Int)^s)) (isr L (Rat.den q:Int)) (M:=((R s)+L))) rfl<|mZ rfl<|mNil<|bN<|tN<|cReg<|mv3 rfl rfl rfl<|mNil<|⟨(s+1),by omega,by omega,wk rfl ⟨hs rfl,hs rfl,hs rfl,hs rfl,hs' rfl (le_int ((wr64 (by omega) (by omega)).trans (by omega))),trivial⟩ ⟨ho rfl,ho' rfl (leo_rn (by omega) (by show _=vlZ c q.num (q.den:Int) n s*q.num+c (n-1-s)*(q.den:Int)^s;rw [show (rc c (n-1-s)).num=c (n-1-s) from Rat.num_intCast _])),ho' rfl (leo_rn (by omega) (Int.pow_succ (q.den:Int) s).symm),trivial⟩ rfl⟩
 ·refine cExit<|tE<|tE<|bE<|tN<|cR<|mW rfl<|mY (aRSign (isr (R s) (vlZ c q.num (q.den:Int) n s))) rfl<|mW rfl<|mT<|cRet ?_;have hie:n=s:=by have h0:=of_decide_eq_false hc1;omega
  subst hie;exact rE rfl
theorem pow_ne_int{y:Int}(h:y≠0):∀ s:Nat,¬ y^s=0
 | 0=>by rw [Int.pow_zero];decide
 | s+1=>by rw [Int.pow_succ];exact Int.mul_ne_zero (pow_ne_int h s) h
theorem num_den(q:Rat):q*((q.den:Int):Rat)=(q.num:Rat):=by
 have h:=mkR_div (x:=q.num) (y:=(q.den:Int)) (den_ne q);rw [mkR_ne (den_ne q),Rat.num_divInt_den] at h;exact h
theorem vl_hv{a:Nat→Int}{q:Rat}{top:Nat}:∀ s,((vlZ a q.num (q.den:Int) top s:Int):Rat)*((q.den:Int):Rat)=((q.den:Int):Rat)^s*vlQ (rc a) q top s
 | 0=>by show ((0:Int):Rat)*_=_*(0:Rat);rw [Rat.mul_zero];exact Rat.zero_mul _
 | s+1=>by
  have h0:=vl_hv (a:=a) (q:=q) (top:=top) s;have hq:=num_den q;show ((vlZ a q.num (q.den:Int) top s*q.num+a (top-1-s)*(q.den:Int)^s:Int):Rat)*((q.den:Int):Rat)=((q.den:Int):Rat)^(s+1)*(vlQ (rc a) q top s*q+rc a (top-1-s))
  have hrc:rc a (top-1-s)=((a (top-1-s):Int):Rat):=rfl;rw [hrc,Rat.intCast_add,Rat.intCast_mul,Rat.intCast_mul,cast_pow,Rat.pow_succ];grind
/-- The value: the sum of the terms. -/
def pe(a:Nat→Rat)(q:Rat):Nat→Rat
 | 0=>0
 | n+1=>pe a q n+a n*q^n
theorem pe_hor{a:Nat→Rat}{q:Rat}{top:Nat}:∀ s,s≤top→pe a q top=pe a q (top-s)+q^(top-s)*vlQ a q top s
 | 0,_=>by show _=pe a q (top-0)+_*(0:Rat);rw [Nat.sub_zero,Rat.mul_zero,Rat.add_zero]
 | s+1,h=>by
  rw [pe_hor s (by omega)];have e:top-s=(top-(s+1))+1:=by omega
  show _=_+_*(vlQ a q top s*q+a (top-1-s))
  rw [e,show top-1-s=top-(s+1) by omega];show pe a q (top-(s+1))+a (top-(s+1))*q^(top-(s+1))+_=_
  rw [Rat.pow_succ];grind
theorem pe_vl(a:Nat→Rat)(q:Rat)(n:Nat):vlQ a q n n=pe a q n:=by
 have h:=pe_hor (a:=a) (q:=q) (top:=n) n (Nat.le_refl _);rw [Nat.sub_self] at h;rw [h];show _=(0:Rat)+_
 rw [Rat.pow_zero,Rat.one_mul,Rat.zero_add]
theorem pe_congr{a b:Nat→Rat}{q:Rat}:∀ {n:Nat},(∀ i,i < n→a i=b i)→pe a q n=pe b q n
 | 0,_=>rfl
 | n+1,h=>by show _+_=_+_;rw [pe_congr (n:=n) fun i hi=>h i (by omega),h n (by omega)]
theorem pe_more{a:Nat→Rat}{q:Rat}{n:Nat}(h:∀ i,n≤i→a i=0):∀ d,pe a q (n+d)=pe a q n
 | 0=>rfl
 | d+1=>by show pe a q (n+d)+a (n+d)*_=_;rw [pe_more h d,h (n+d) (by omega),Rat.zero_mul,Rat.add_zero]
theorem pe_eq{a:Nat→Rat}{q:Rat}{n m:Nat}(h:∀ i,n≤i→a i=0)(k:∀ i,m≤i→a i=0):pe a q n=pe a q m:=by
 rcases Nat.le_total n m with e | e
 ·have:=pe_more (q:=q) h (m-n);rw [show n+(m-n)=m by omega] at this;exact this.symm
 ·have:=pe_more (q:=q) k (n-m);rw [show m+(n-m)=n by omega] at this;exact this
theorem pe_add{a b:Nat→Rat}{q:Rat}:∀ n,pe (faddQ a b) q n=pe a q n+pe b q n
 | 0=>by show (0:Rat)=0+0;grind
 | n+1=>by show pe (faddQ a b) q n+(a n+b n)*q^n=(pe a q n+_)+(pe b q n+_);rw [pe_add n];grind
theorem pe_scl{a:Nat→Rat}{q r:Rat}:∀ n,pe (fsclQ a r) q n=pe a q n*r
 | 0=>by show (0:Rat)=0*r;grind
 | n+1=>by show pe (fsclQ a r) q n+(a n*r)*q^n=(pe a q n+_)*r;rw [pe_scl n];grind
theorem pe_zero{a:Nat→Rat}{q:Rat}:∀ {n:Nat},(∀ i,i < n→a i=0)→pe a q n=0
 | 0,_=>rfl
 | n+1,h=>by show _+_=_;rw [pe_zero (n:=n) fun i hi=>h i (by omega),h n (by omega),Rat.zero_mul,Rat.add_zero]
theorem pow_addQ(q:Rat)(k:Nat):∀ m:Nat,q^(k+m)=q^k*q^m
 | 0=>by rw [Nat.add_zero,Rat.pow_zero,Rat.mul_one]
 | m+1=>by rw [← Nat.add_assoc,Rat.pow_succ,Rat.pow_succ,pow_addQ q k m,Rat.mul_assoc]
theorem pe_shift{b:Nat→Rat}{q x:Rat}{k:Nat}:∀ m,pe (fun j=>if k≤j then x*b (j-k) else 0) q (k+m)=x*q^k*pe b q m
 | 0=>by
  show _=x*q^k*(0:Rat)
  rw [Rat.mul_zero];exact pe_zero fun i hi=>if_neg (by omega)
 | m+1=>by
  show pe _ q (k+m)+(if k≤k+m then x*b (k+m-k) else 0)*q^(k+m)=x*q^k*(pe b q m+b m*q^m)
  rw [pe_shift m,if_pos (by omega),Nat.add_sub_cancel_left,pow_addQ];grind
theorem pe_cv{a b:Nat→Rat}{q:Rat}{m:Nat}(hb:∀ i,m≤i→b i=0):∀ k,pe (cv a b k) q (k+m)=pe a q k*pe b q m
 | 0=>by
  show _=(0:Rat)*_
  rw [Rat.zero_mul];exact pe_zero fun i hi=>rfl
 | k+1=>by
  have h1:pe (cv a b (k+1)) q (k+1+m)=pe (faddQ (cv a b k) (fun j=>if k≤j then a k*b (j-k) else 0)) q (k+1+m):=pe_congr fun i hi=>rfl
  rw [h1,pe_add,show k+1+m=(k+m)+1 by omega];have h2:pe (cv a b k) q (k+m+1)=pe (cv a b k) q (k+m):=pe_more (n:=k+m) (fun i hi=>conv_zQ fun j hj hji=>by rw [hb (i-j) (by omega),Rat.mul_zero]) 1;rw [h2,pe_cv hb k];have h3:=pe_shift (b:=b) (q:=q) (x:=a k) (k:=k) (m+1);rw [← Nat.add_assoc] at h3;rw [h3];show _=(pe a q k+a k*q^k)*_
  have h4:pe b q (m+1)=pe b q m:=pe_more hb 1;rw [h4];grind
/-- The product's value. -/
theorem pe_conv{a b:Nat→Rat}{q:Rat}{n m:Nat}(ha:∀ i,n≤i→a i=0)(hb:∀ i,m≤i→b i=0):pe (conv a b) q (n+m)=pe a q n*pe b q m:=by
 rw [← pe_cv hb n];exact pe_congr fun i hi=>(cv_convQ ha).symm
/-- The value of a row of whole numbers. -/
def pz(c:Nat→Int)(q:Rat)(n:Nat):Rat:=pe (rc c) q n
theorem pz_eq{c:Nat→Int}{q:Rat}{n m:Nat}(h:∀ i,n≤i→c i=0)(k:∀ i,m≤i→c i=0):pz c q n=pz c q m:=pe_eq (rc_z h) (rc_z k)
theorem pz_conv{a b:Nat→Int}{q:Rat}{n m p:Nat}(ha:∀ i,n≤i→a i=0)(hb:∀ i,m≤i→b i=0)(hp:∀ i,p≤i→conv a b i=0):pz (conv a b) q p=pz a q n*pz b q m:=by
 rw [pz_eq hp (conv_z0 ha hb)];show pe _ q _=_
 rw [pe_congr (b:=conv (rc a) (rc b)) fun i _=>(rc_conv a b i).symm];exact pe_conv (rc_z ha) (rc_z hb)
theorem pz_scl{a:Nat→Int}{q:Rat}{n:Nat}(y:Int):pz (fscl a y) q n=pz a q n*(y:Rat):=by
 show pe _ q _=_
 rw [pe_congr (a:=rc (fscl a y)) (b:=fsclQ (rc a) (y:Rat)) fun i _=>Rat.intCast_mul _ _];exact pe_scl n
theorem pz_vl(c:Nat→Int)(q:Rat)(n:Nat):vlQ (rc c) q n n=pz c q n:=pe_vl _ _ _
/-! ### Far out -/
theorem sgn_pos{d:Int}(h:0 < d):sgn d=1:=by unfold sgn;rw [if_neg (by omega),if_neg (by omega)]
theorem sgn_neg{d:Int}(h:d < 0):sgn d= -1:=by unfold sgn;rw [if_pos h]
theorem sgn_zero:sgn 0=0:=rfl
theorem sgn_mul(a b:Int):sgn (a*b)=sgn a*sgn b:=by
 rcases Int.lt_trichotomy a 0 with ha | ha | ha
 ·rcases Int.lt_trichotomy b 0 with hb | hb | hb
  ·rw [sgn_neg ha,sgn_neg hb,sgn_pos (Int.mul_pos_of_neg_of_neg ha hb)];rfl
  ·rw [hb,Int.mul_zero,sgn_zero,Int.mul_zero]
  ·rw [sgn_neg ha,sgn_pos hb,sgn_neg (Int.mul_neg_of_neg_of_pos ha hb)];rfl
 ·rw [ha,Int.zero_mul,sgn_zero,Int.zero_mul]
 ·rcases Int.lt_trichotomy b 0 with hb | hb | hb
  ·rw [sgn_pos ha,sgn_neg hb,sgn_neg (Int.mul_neg_of_pos_of_neg ha hb)];rfl
  ·rw [hb,Int.mul_zero,sgn_zero,Int.mul_zero]
  ·rw [sgn_pos ha,sgn_pos hb,sgn_pos (Int.mul_pos ha hb)];rfl
theorem sgn_far{v x c:Int}(hv:v≠0)(h:c.natAbs < x.natAbs):sgn (v*x+c)=sgn v*sgn x:=by
 rw [← sgn_mul];have h1:x.natAbs≤(v*x).natAbs:=by rw [Int.natAbs_mul];exact Nat.le_mul_of_pos_left _ (Int.natAbs_pos.2 hv)
 rcases Int.lt_trichotomy (v*x) 0 with e | e | e
 ·rw [sgn_neg e,sgn_neg (by omega)]
 ·rw [e] at h1;have:(0:Int).natAbs=0:=rfl;omega
 ·rw [sgn_pos e,sgn_pos (by omega)]
theorem sgn_ne{z:Int}:sgn z≠0↔z≠0:=by unfold sgn;constructor <;> intro h <;> (repeat' split at *) <;> omega
theorem far_sgn{c:Nat→Int}{x:Int}{top:Nat}(h:∀ i,i < top→(c i).natAbs < x.natAbs)(h0:c (top-1)≠0):∀ s,s < top→sgn (vlZ c x 1 top (s+1))=sgn (c (top-1))*(sgn x)^s
 | 0,hs=>by
  show sgn (0*x+c (top-1-0)*1^0)=_
  rw [Int.zero_mul,Int.zero_add,Int.pow_zero,Int.mul_one,Int.pow_zero,Int.mul_one,Nat.sub_zero]
 | s+1,hs=>by
  have ih:=far_sgn h h0 s (by omega);have hx:x≠0:=by have:=h 0 (by omega);omega
  have hv:vlZ c x 1 top (s+1)≠0:=by
   rw [← sgn_ne,ih];exact Int.mul_ne_zero (sgn_ne.2 h0) (pow_ne_int (sgn_ne.2 hx) s)
  show sgn (vlZ c x 1 top (s+1)*x+c (top-1-(s+1))*1^(s+1))=_
  rw [Int.one_pow,Int.mul_one,sgn_far hv (h _ (by omega)),ih,Int.pow_succ,Int.mul_assoc]
theorem vl_one{a:Nat→Int}{x:Int}{top:Nat}:∀ s,((vlZ a x 1 top s:Int):Rat)=vlQ (rc a) (x:Rat) top s
 | 0=>rfl
 | s+1=>by
  show ((vlZ a x 1 top s*x+a (top-1-s)*1^s:Int):Rat)=vlQ (rc a) (x:Rat) top s*(x:Rat)+rc a (top-1-s)
  rw [Int.one_pow,Int.mul_one,Rat.intCast_add,Rat.intCast_mul,vl_one s];rfl
/-- The sum of all sizes. -/
def szs(c:Nat→Int):Nat→Int
 | 0=>0
 | n+1=>szs c n+((c n).natAbs:Int)
theorem szs_nn(c:Nat→Int):∀ n,0≤szs c n
 | 0=>Int.le_refl _
 | n+1=>by show 0≤szs c n+_;have:=szs_nn c n;omega
theorem szs_le{c:Nat→Int}:∀ {n i:Nat},i < n→((c i).natAbs:Int)≤szs c n
 | n+1,i,h=>by
  show _≤szs c n+_
  have:=szs_nn c n;rcases Nat.eq_or_lt_of_le (Nat.le_of_lt_succ h) with e | e
  ·subst e;omega
  ·have:=szs_le (c:=c) e;omega
/-- Rows that are 0 everywhere. -/
theorem pz_zero{c:Nat→Int}{n:Nat}(hz:∀ i,n≤i→c i=0)(h:∀ x:Int,pz c (x:Rat) n=0):∀ i,c i=0:=by
 have hd:dg c n=0:=by
  refine Classical.byContradiction fun hne=>?_
  have h0:=dg_ne hne
  let m:=dg c n
  have h1:=far_sgn (c:=c) (x:=1+szs c m) (top:=m) (fun i hi=>by have:=szs_le (c:=c) hi;have:=szs_nn c m;omega) h0 (m-1) (by omega);rw [show m-1+1=m by omega] at h1;have h2:vlZ c (1+szs c m) 1 m m=0:=by
   have h3:=vl_one (a:=c) (x:=1+szs c m) (top:=m) m;rw [pz_vl,pz_eq (dg_z hz) hz,h] at h3;exact Rat.intCast_eq_zero_iff.1 h3
  rw [h2] at h1;have hx:(1+szs c m)≠0:=by have:=szs_nn c m;omega
  exact Int.mul_ne_zero (sgn_ne.2 h0) (pow_ne_int (sgn_ne.2 hx) (m-1)) h1.symm
 exact dg_all hz hd
theorem pz_sub{a b:Nat→Int}{q:Rat}{n:Nat}:pz (fsub a b) q n=pz a q n-pz b q n:=by
 have h:pe (faddQ (rc a) (fsclQ (rc b) (-1))) q n=pz (fsub a b) q n:=pe_congr fun i _=>by
  show rc a i+rc b i*(-1)=((a i-b i:Int):Rat)
  rw [Rat.intCast_sub];show (a i:Rat)+(b i:Rat)*(-1)=_;grind
 rw [← h,pe_add,pe_scl];show _=pe (rc a) q n-pe (rc b) q n
 grind
/-- THE LAW OF ONE: rows that have one value at all whole numbers are one. -/
theorem pz_one{a b:Nat→Int}{n m:Nat}(ha:∀ i,n≤i→a i=0)(hb:∀ i,m≤i→b i=0)(h:∀ x:Int,pz a (x:Rat) n=pz b (x:Rat) m):∀ i,a i=b i:=by
 have hz:∀ i,max n m≤i→fsub a b i=0:=fsub_z ha hb
 have h1:=pz_zero hz (fun x=>by
  rw [pz_sub,pz_eq (c:=a) (n:=max n m) (m:=n) (fun i hi=>ha i (by omega)) ha,pz_eq (c:=b) (n:=max n m) (m:=m) (fun i hi=>hb i (by omega)) hb,h];grind)
 intro i;have:=h1 i;unfold fsub at this;omega
theorem vl_pz(c:Nat→Int)(q:Rat)(n:Nat):((vlZ c q.num (q.den:Int) n n:Int):Rat)*((q.den:Int):Rat)=((q.den:Int):Rat)^n*pz c q n:=by rw [vl_hv,pz_vl]
/-- Two rows one behind the other. -/
def catF{α:Type}(n:Nat)(c d:Nat→α):Nat→α:=fun i=>bif Nat.ble (i+1) n then c i else d (i-n)
theorem catF_l{α:Type}{n i:Nat}{c d:Nat→α}(h:i < n):catF n c d i=c i:=by unfold catF;rw [show Nat.ble (i+1) n=true from Nat.ble_eq_true_of_le h];rfl
/-- The least common denominator of the first n. -/
def lcd(q:Nat→Rat):Nat→Nat
 | 0=>1
 | n+1=>Nat.lcm (lcd q n) (q n).den
theorem lcd_pos{q:Nat→Rat}:∀ n,0 < lcd q n
 | 0=>Nat.one_pos
 | n+1=>Nat.lcm_pos (lcd_pos n) (q n).den_pos
theorem lcd_dvd{q:Nat→Rat}{i:Nat}:∀ {n},i < n→(q i).den∣lcd q n
 | 0,h=>absurd h (Nat.not_lt_zero _)
 | n+1,h=>by
  rcases Nat.lt_or_ge i n with h1 | h1
  ·exact Nat.dvd_trans (lcd_dvd h1) (Nat.dvd_lcm_left _ _)
  ·obtain rfl:i=n:=by omega
   exact Nat.dvd_lcm_right _ _
theorem gcdN_cg{c d:Nat→Int}:∀ {n:Nat},(∀ i,i < n→c i=d i)→gcdN c n=gcdN d n
 | 0,_=>rfl
 | n+1,h=>by show Nat.gcd (gcdN c n) _=Nat.gcd (gcdN d n) _;rw [gcdN_cg (fun i hi=>h i (by omega)),h n (by omega)]
theorem gcdN_dvd{c:Nat→Int}{i:Nat}:∀ {n},i < n→gcdN c n∣(c i).natAbs
 | 0,h=>absurd h (Nat.not_lt_zero _)
 | n+1,h=>by
  rcases Nat.lt_or_ge i n with h1 | h1
  ·exact Nat.dvd_trans (Nat.gcd_dvd_left _ _) (gcdN_dvd h1)
  ·obtain rfl:i=n:=by omega
   exact Nat.gcd_dvd_right _ _
/-- A normal curve's coefficients, over L. -/
def cX(L:Nat)(c:Nat→Rat):Nat→Int:=fun i=>(c i*mkR (L:Int) 1).num
theorem cX_z{L n:Nat}{c:Nat→Rat}(h:∀ i,n≤i→c i=0):∀ i,n≤i→cX L c i=0:=fun i hi=>by unfold cX;rw [h i hi,Rat.zero_mul];rfl
def crL(n m:Nat)(p q:Nat→Rat):Nat:=lcd (catF (dg p n) p q) (dg p n+dg q m)
/-- Each over a number. -/
def fdv(c:Nat→Int)(g:Int):Nat→Int:=fun i=>c i / g
theorem fdv_z{c:Nat→Int}{g:Int}{n:Nat}(h:∀ i,n≤i→c i=0):∀ i,n≤i→fdv c g i=0:=fun i hi=>by unfold fdv;rw [h i hi];exact Int.zero_ediv _
theorem cX_den{L:Nat}{p:Nat→Rat}{i:Nat}(h:(p i).den∣L):rc (cX L p) i=p i*mkR (L:Int) 1:=by
 obtain ⟨e,rfl⟩:=h;have h:=mkR_div (x:=(p i).num) (y:=((p i).den:Int)) (by have:=(p i).den_pos;omega);rw [mkR_self] at h;have h2:p i*mkR (((p i).den*e:Nat):Int) 1=(((p i).num*(e:Int):Int):Rat):=by
  rw [mkR_int,Int.natCast_mul,Rat.intCast_mul,← Rat.mul_assoc,h,← Rat.intCast_mul]
 show (((p i*mkR (((p i).den*e:Nat):Int) 1).num:Int):Rat)=_
 rw [h2,Rat.num_intCast]
theorem crL_pos{n m:Nat}{p q:Nat→Rat}:0 < crL n m p q:=lcd_pos _
theorem rc_cX{n m:Nat}{p q:Nat→Rat}(zp:∀ i,n≤i→p i=0)(i:Nat):rc (cX (crL n m p q) p) i=p i*mkR (crL n m p q:Int) 1:=by
 by_cases h:i < dg p n
 ·refine cX_den ?_
  have:=lcd_dvd (q:=catF (dg p n) p q) (i:=i) (n:=dg p n+dg q m) (by omega);rwa [catF_l h] at this
 ·have hp:p i=0:=dg_z zp i (by omega)
  unfold rc cX;rw [hp,Rat.zero_mul];rfl
/-- Rows with one value at all whole numbers are one. -/
theorem pe_none{c:Nat→Rat}{n:Nat}(hz:∀ i,n≤i→c i=0)(h:∀ x:Int,pe c (x:Rat) n=0)(i:Nat):c i=0:=by
 have hL:=crL_pos (n:=n) (m:=0) (p:=c) (q:=fun _=>0);have hc:∀ j,rc (cX (crL n 0 c fun _=>0) c) j=fsclQ c (mkR (crL n 0 c fun _=>0:Int) 1) j:=fun j=>rc_cX hz j
 have h0:=pz_zero (c:=cX (crL n 0 c fun _=>0) c) (n:=n) (cX_z hz) (fun x=>by
  show pe (rc _) _ _=0
  rw [funext hc,pe_scl,h x,Rat.zero_mul]) i
 have h1:=rc_cX (m:=0) (q:=fun _=>0) hz i;unfold rc at h1;rw [h0,mkR_int] at h1;rcases Rat.mul_eq_zero.1 h1.symm with h2 | h2
 ·exact h2
 ·have:=Rat.intCast_eq_zero_iff.1 h2;omega
theorem pe_one{a b:Nat→Rat}{n m:Nat}(ha:∀ i,n≤i→a i=0)(hb:∀ i,m≤i→b i=0)(h:∀ x:Int,pe a (x:Rat) n=pe b (x:Rat) m)(i:Nat):a i=b i:=by
 have hz:∀ j,max n m≤j→faddQ a (fsclQ b (-1)) j=0:=fun j hj=>by
  show a j+b j* -1=0
  rw [ha j (by omega),hb j (by omega)];grind
 have h0:=pe_none hz (fun x=>by
  rw [pe_add,pe_scl,pe_eq (m:=n) (fun j hj=>ha j (by omega)) ha,pe_eq (a:=b) (m:=m) (fun j hj=>hb j (by omega)) hb,h x];grind) i
 have h1:a i+b i* -1=0:=h0;grind
/-! ### Bounds of values -/
def Ab(x e:Rat):Prop:= -e≤x∧x≤e
theorem Ab.add{x y d e:Rat}(h:Ab x d)(k:Ab y e):Ab (x+y) (d+e):=by unfold Ab at *;constructor <;> grind
theorem Ab.sub{x y d e:Rat}(h:Ab x d)(k:Ab y e):Ab (x-y) (d+e):=by unfold Ab at *;constructor <;> grind
theorem Ab.mul{x y d e:Rat}(h:Ab x d)(k:Ab y e):Ab (x*y) (d*e):=mul_bd h.1 h.2 k.1 k.2
theorem Ab.mono{x d e:Rat}(h:Ab x d)(k:d≤e):Ab x e:=by unfold Ab at *;constructor <;> grind
theorem Ab.nn{x e:Rat}(h:Ab x e):0≤e:=by unfold Ab at h;grind
theorem Ab.eq{x y e:Rat}(h:Ab x e)(k:x=y):Ab y e:=k▸h
theorem ab_zero{e:Rat}(h:0≤e):Ab 0 e:=by unfold Ab;constructor <;> grind
theorem pow_ge{B:Rat}(h:1≤B):∀ n:Nat,1≤B^n
 | 0=>by rw [Rat.pow_zero];grind
 | n+1=>by rw [Rat.pow_succ];have h1:=pow_ge h n;have:=Rat.mul_nonneg (a:=B^n-1) (b:=B-1) (by grind) (by grind);grind
theorem pow_up{B:Rat}(h:1≤B)(n:Nat):B^n≤B^(n+1):=by
 rw [Rat.pow_succ];have h1:=pow_ge h n;have:=Rat.mul_nonneg (a:=B^n) (b:=B-1) (by grind) (by grind);grind
theorem pow_mono{B:Rat}(h:1≤B){n m:Nat}(hnm:n≤m):B^n≤B^m:=by
 induction hnm with
 | refl=>grind
 | step _ ih=>have:=pow_up h;grind
theorem nat_nn(n:Nat):(0:Rat)≤(n:Rat):=by exact_mod_cast Nat.zero_le n
theorem nat_succ(n:Nat):((n+1:Nat):Rat)=(n:Rat)+1:=by exact_mod_cast rfl
/-- Powers. -/
theorem pw_bd{B q:Rat}(hB:1≤B)(hq:Ab q B):∀ n:Nat,Ab (q^n) (B^n)
 | 0=>by rw [Rat.pow_zero,Rat.pow_zero];unfold Ab;constructor <;> grind
 | n+1=>by rw [Rat.pow_succ,Rat.pow_succ];exact (pw_bd hB hq n).mul hq
theorem pw_lip{B s t:Rat}(hB:1≤B)(hs:Ab s B)(ht:Ab t B)(hst:s≤t):∀ n:Nat,Ab (t^n-s^n) ((n:Rat)*B^n*(t-s))
 | 0=>by rw [Rat.pow_zero,Rat.pow_zero];refine (ab_zero (e:=0) (by grind)).eq (by grind) |>.mono ?_;have:((0:Nat):Rat)=0:=rfl;rw [this];grind
 | n+1=>by
  have ih:=pw_lip hB hs ht hst n;have h1:t^(n+1)-s^(n+1)=(t^n-s^n)*t+s^n*(t-s):=by rw [Rat.pow_succ,Rat.pow_succ];grind
  have h2:Ab (t-s) (t-s):=by unfold Ab;constructor <;> grind
  rw [h1];refine ((ih.mul ht).add ((pw_bd hB hs n).mul h2)).mono ?_;have hb:=pow_ge hB n;have h3:=Rat.mul_nonneg (a:=B^n*(t-s)) (b:=B-1) (Rat.mul_nonneg (by grind) (by grind)) (by grind);rw [nat_succ,Rat.pow_succ];grind
theorem pw_tay{B s t:Rat}(hB:1≤B)(hs:Ab s B)(ht:Ab t B)(hst:s≤t):∀ n:Nat,Ab (t^(n+1)-s^(n+1)-(t-s)*(((n+1:Nat):Rat)*s^n)) (((n+1:Nat):Rat)*((n+1:Nat):Rat)*B^(n+1)*((t-s)*(t-s)))
 | 0=>by
  refine (ab_zero (e:=0) (by grind)).eq ?_ |>.mono ?_
  ·rw [Rat.pow_succ,Rat.pow_succ,Rat.pow_zero,Rat.pow_zero];have:((0+1:Nat):Rat)=1:=rfl;rw [this];grind
  ·refine Rat.mul_nonneg (Rat.mul_nonneg (Rat.mul_nonneg (nat_nn _) (nat_nn _)) ?_) (Rat.mul_nonneg (by grind) (by grind))
   have:=pow_ge hB (0+1);grind
 | n+1=>by
  have ih:=pw_tay hB hs ht hst n;have e:t^(n+1+1)-s^(n+1+1)-(t-s)*(((n+1+1:Nat):Rat)*s^(n+1))=(t^(n+1)-s^(n+1)-(t-s)*(((n+1:Nat):Rat)*s^n))*t+(((n+1:Nat):Rat)*s^n)*((t-s)*(t-s)):=by
   rw [Rat.pow_succ t (n+1),Rat.pow_succ s (n+1),Rat.pow_succ s n,nat_succ (n+1)];grind
  rw [e];have hsq:0≤(t-s)*(t-s):=Rat.mul_nonneg (by grind) (by grind);have h2:Ab ((t-s)*(t-s)) ((t-s)*(t-s)):=by unfold Ab;constructor <;> grind
  have hn:Ab (((n+1:Nat):Rat)) (((n+1:Nat):Rat)):=by have:=nat_nn (n+1);unfold Ab;constructor <;> grind
  refine ((ih.mul ht).add ((hn.mul (pw_bd hB hs n)).mul h2)).mono ?_;have hb:=pow_ge hB n;have hb1:=pow_up hB n;have hb2:=pow_up hB (n+1);have hN:=nat_nn (n+1);have e1:((n+1+1:Nat):Rat)=((n+1:Nat):Rat)+1:=nat_succ (n+1);rw [e1];generalize ((n+1:Nat):Rat)=N at *
  generalize (t-s)*(t-s)=Z at *
  have e2:N*N*B^(n+1)*Z*B=N*N*B^(n+1+1)*Z:=by rw [Rat.pow_succ B (n+1)];grind
  rw [e2];have h5:N*B^n*Z≤N*B^(n+1+1)*Z:=Rat.mul_le_mul_of_nonneg_right (Rat.mul_le_mul_of_nonneg_left (by grind) hN) hsq;have h6:0≤B^(n+1+1)*Z:=Rat.mul_nonneg (by grind) hsq;have h7:0≤N*(B^(n+1+1)*Z):=Rat.mul_nonneg hN h6;grind
/-! ### Bounds of polynomials -/
def derQ(c:Nat→Rat):Nat→Rat:=fun i=>((i+1:Nat):Rat)*c (i+1)
theorem derQ_z{c:Nat→Rat}{n:Nat}(h:∀ i,n≤i→c i=0):∀ i,n-1≤i→derQ c i=0:=fun i hi=>by unfold derQ;rw [h (i+1) (by omega),Rat.mul_zero]
/-- The bound of one place. -/
def TB(N:Nat)(H B:Rat):Rat:=(N:Rat)*(N:Rat)*B^N*H
section
variable {c:Nat→Rat} {N:Nat} {H B:Rat}
theorem tb_nn(hB:1≤B)(hH:0≤H):0≤TB N H B:=Rat.mul_nonneg (Rat.mul_nonneg (Rat.mul_nonneg (nat_nn _) (nat_nn _)) (by have:=pow_ge hB N;grind)) hH
theorem nat_le{a b:Nat}(h:a≤b):(a:Rat)≤(b:Rat):=by exact_mod_cast h
theorem tb_1(hB:1≤B)(hH:0≤H){i:Nat}(hi:i+1≤N):H*B^i≤TB N H B:=by
 have h1:B^i≤B^N:=pow_mono hB (by omega);have h2:(1:Rat)≤(N:Rat):=nat_le (show 1≤N by omega);have h3:=pow_ge hB N;have h4:(1:Rat)≤(N:Rat)*(N:Rat):=by have:=Rat.mul_nonneg (a:=(N:Rat)-1) (b:=(N:Rat)+1) (by grind) (by grind);grind
 have h5:H*B^i≤H*B^N:=Rat.mul_le_mul_of_nonneg_left h1 hH;have h6:0≤H*B^N:=Rat.mul_nonneg hH (by grind);have h7:=Rat.mul_nonneg (a:=(N:Rat)*(N:Rat)-1) (b:=H*B^N) (by grind) h6;unfold TB;grind
theorem tb_2(hB:1≤B)(hH:0≤H){i:Nat}(hi:i+1≤N):H*((i:Rat)*B^i)≤TB N H B:=by
 have h1:B^i≤B^N:=pow_mono hB (by omega);have h2:(i:Rat)≤(N:Rat):=nat_le (by omega);have h3:=pow_ge hB N;have h8:(1:Rat)≤(N:Rat):=nat_le (show 1≤N by omega);have h4:(i:Rat)≤(N:Rat)*(N:Rat):=by have:=Rat.mul_nonneg (a:=(N:Rat)) (b:=(N:Rat)-1) (by grind) (by grind);grind
 have h5:(i:Rat)*B^i≤(N:Rat)*(N:Rat)*B^N:=by
  have a1:(i:Rat)*B^i≤(i:Rat)*B^N:=Rat.mul_le_mul_of_nonneg_left h1 (nat_nn _);have a2:(i:Rat)*B^N≤(N:Rat)*(N:Rat)*B^N:=Rat.mul_le_mul_of_nonneg_right h4 (by grind);grind
 have h6:H*((i:Rat)*B^i)≤H*((N:Rat)*(N:Rat)*B^N):=Rat.mul_le_mul_of_nonneg_left h5 hH;unfold TB;grind
theorem tb_3(hB:1≤B)(hH:0≤H){i:Nat}(hi:i+1≤N):H*((i:Rat)*(i:Rat)*B^i)≤TB N H B:=by
 have h1:B^i≤B^N:=pow_mono hB (by omega);have h2:(i:Rat)≤(N:Rat):=nat_le (by omega);have h3:=pow_ge hB N;have h4:(i:Rat)*(i:Rat)≤(N:Rat)*(N:Rat):=by
  have a1:(i:Rat)*(i:Rat)≤(i:Rat)*(N:Rat):=Rat.mul_le_mul_of_nonneg_left h2 (nat_nn _);have a2:(i:Rat)*(N:Rat)≤(N:Rat)*(N:Rat):=Rat.mul_le_mul_of_nonneg_right h2 (nat_nn _);grind
 have h5:(i:Rat)*(i:Rat)*B^i≤(N:Rat)*(N:Rat)*B^N:=by
  have a1:(i:Rat)*(i:Rat)*B^i≤(i:Rat)*(i:Rat)*B^N:=Rat.mul_le_mul_of_nonneg_left h1 (Rat.mul_nonneg (nat_nn _) (nat_nn _));have a2:(i:Rat)*(i:Rat)*B^N≤(N:Rat)*(N:Rat)*B^N:=Rat.mul_le_mul_of_nonneg_right h4 (by grind);grind
 have h6:H*((i:Rat)*(i:Rat)*B^i)≤H*((N:Rat)*(N:Rat)*B^N):=Rat.mul_le_mul_of_nonneg_left h5 hH;unfold TB;grind
theorem pe_bd(hB:1≤B)(hH:0≤H){q:Rat}(hq:Ab q B):∀ {n:Nat},n≤N→(∀ i,i < n→Ab (c i) H)→Ab (pe c q n) ((n:Rat)*TB N H B)
 | 0,_,_=>by show Ab 0 _;have:((0:Nat):Rat)=0:=rfl;rw [this,Rat.zero_mul];exact ab_zero (by grind)
 | n+1,hn,hc=>by
  show Ab (pe c q n+c n*q^n) _
  refine ((pe_bd hB hH hq (by omega) fun i hi=>hc i (by omega)).add (((hc n (by omega)).mul (pw_bd hB hq n)).mono (tb_1 hB hH hn))).mono ?_;rw [nat_succ];grind
theorem pe_lip(hB:1≤B)(hH:0≤H){s t:Rat}(hs:Ab s B)(ht:Ab t B)(hst:s≤t):∀ {n:Nat},n≤N→(∀ i,i < n→Ab (c i) H)→Ab (pe c t n-pe c s n) ((n:Rat)*TB N H B*(t-s))
 | 0,_,_=>by show Ab (0-0) _;have:((0:Nat):Rat)=0:=rfl;rw [this,Rat.zero_mul,Rat.zero_mul];exact (ab_zero (e:=0) (by grind)).eq (by grind)
 | n+1,hn,hc=>by
  have ih:=pe_lip hB hH hs ht hst (n:=n) (by omega) fun i hi=>hc i (by omega)
  have h1:=(hc n (by omega)).mul (pw_lip hB hs ht hst n);have h2:=Rat.mul_le_mul_of_nonneg_right (tb_2 hB hH hn) (show 0≤t-s by grind);refine ((ih.add h1).eq (y:=pe c t (n+1)-pe c s (n+1)) ?_).mono ?_
  ·show _=(pe c t n+c n*t^n)-(pe c s n+c n*s^n);grind
  ·rw [nat_succ];grind
theorem pe_tay(hB:1≤B)(hH:0≤H){s t:Rat}(hs:Ab s B)(ht:Ab t B)(hst:s≤t):∀ {n:Nat},n≤N→(∀ i,i < n→Ab (c i) H)→Ab (pe c t n-pe c s n-(t-s)*pe (derQ c) s (n-1)) ((n:Rat)*TB N H B*((t-s)*(t-s)))
 | 0,_,_=>by show Ab (0-0-(t-s)*0) _;have:((0:Nat):Rat)=0:=rfl;rw [this,Rat.zero_mul,Rat.zero_mul];exact (ab_zero (e:=0) (by grind)).eq (by grind)
 | 1,hn,hc=>by
  refine ((ab_zero (e:=0) (by grind)).eq ?_).mono ?_
  ·show 0=(0+c 0*t^0)-(0+c 0*s^0)-(t-s)*0;rw [Rat.pow_zero,Rat.pow_zero];grind
  ·exact Rat.mul_nonneg (Rat.mul_nonneg (nat_nn _) (tb_nn hB hH)) (Rat.mul_nonneg (by grind) (by grind))
 | n+1+1,hn,hc=>by
  have ih:=pe_tay hB hH hs ht hst (n:=n+1) (by omega) fun i hi=>hc i (by omega)
  have h1:=(hc (n+1) (by omega)).mul (pw_tay hB hs ht hst n);have h2:=Rat.mul_le_mul_of_nonneg_right (tb_3 hB hH hn) (show 0≤(t-s)*(t-s) from Rat.mul_nonneg (by grind) (by grind));refine ((ih.add h1).eq (y:=pe c t (n+1+1)-pe c s (n+1+1)-(t-s)*pe (derQ c) s (n+1+1-1)) ?_).mono ?_
  ·show _=(pe c t (n+1)+c (n+1)*t^(n+1))-(pe c s (n+1)+c (n+1)*s^(n+1))-(t-s)*(pe (derQ c) s n+(((n+1:Nat):Rat)*c (n+1))*s^n)
   rw [show n+1-1=n by omega];grind
  ·rw [nat_succ (n+1)];grind
end
/-- Some bound of the coefficients. -/
theorem ex_H(c:Nat→Rat):∀ n:Nat,∃ H:Rat,0≤H∧∀ i,i < n→Ab (c i) H
 | 0=>⟨0,by grind,fun i hi=>absurd hi (Nat.not_lt_zero _)⟩
 | n+1=>by
  obtain ⟨H,hH,h⟩:=ex_H c n;refine ⟨H+(if c n < 0 then -(c n) else c n),by split <;> grind,fun i hi=>?_⟩
  by_cases e:i < n
  ·exact (h i e).mono (by split <;> grind)
  ·obtain rfl:i=n:=by omega
   unfold Ab;constructor <;> (split <;> grind)
theorem ab_in{B x:Rat}(h:In B x){D:Rat}(hD:B≤D):Ab x D:=by unfold In at h;unfold Ab;constructor <;> grind
theorem ex_B(B:Rat):∃ D:Rat,1≤D∧B≤D:=⟨if B < 1 then 1 else B,by split <;> grind,by split <;> grind⟩
theorem pe_Lip(c:Nat→Rat)(n:Nat)(B:Rat):∃ L,0≤L∧Lip B (fun q=>pe c q n) L:=by
 obtain ⟨H,hH,hc⟩:=ex_H c n;obtain ⟨D,hD,hBD⟩:=ex_B B;refine ⟨(n:Rat)*TB n H D,Rat.mul_nonneg (nat_nn _) (tb_nn hD hH),fun x y hx hy hxy=>?_⟩;have h:=pe_lip hD hH (ab_in hx hBD) (ab_in hy hBD) hxy (Nat.le_refl n) hc;unfold Ab at h;constructor <;> grind
theorem pe_Bd(c:Nat→Rat)(n:Nat)(B:Rat):∃ M,0≤M∧∀ x,In B x→-M≤pe c x n∧pe c x n≤M:=by
 obtain ⟨H,hH,hc⟩:=ex_H c n;obtain ⟨D,hD,hBD⟩:=ex_B B;exact ⟨(n:Rat)*TB n H D,Rat.mul_nonneg (nat_nn _) (tb_nn hD hH),fun x hx=>pe_bd hD hH (ab_in hx hBD) (Nat.le_refl n) hc⟩
theorem pe_Der(c:Nat→Rat)(n:Nat)(B:Rat):∃ E,0≤E∧∀ s t,In B s→In B t→s≤t→(pe c t n-pe c s n)-(t-s)*pe (derQ c) s (n-1)≤(t-s)*((t-s)*E)∧(t-s)*pe (derQ c) s (n-1)-(pe c t n-pe c s n)≤(t-s)*((t-s)*E):=by
 obtain ⟨H,hH,hc⟩:=ex_H c n;obtain ⟨D,hD,hBD⟩:=ex_B B;refine ⟨(n:Rat)*TB n H D,Rat.mul_nonneg (nat_nn _) (tb_nn hD hH),fun s t hs ht hst=>?_⟩;have h:=pe_tay hD hH (ab_in hs hBD) (ab_in ht hBD) hst (Nat.le_refl n) hc;unfold Ab at h;constructor <;> grind
/-! ### Polynomials as functions -/
def Pl(n:Nat)(f:Fn):Prop:=∃ c:Nat→Rat,(∀ i,n≤i→c i=0)∧∀ q,f q=pe c q n
def Po(f:Fn):Prop:=∃ n,Pl n f
/-- .. of degree k, a in front. -/
def Lc(k:Nat)(f:Fn)(a:Rat):Prop:=∃ c:Nat→Rat,(∀ i,k < i→c i=0)∧c k=a∧a≠0∧∀ q,f q=pe c q (k+1)
theorem Pl.mono{n m:Nat}{f:Fn}(h:Pl n f)(k:n≤m):Pl m f:=by
 obtain ⟨c,hz,hf⟩:=h;exact ⟨c,fun i hi=>hz i (by omega),fun q=>(hf q).trans (pe_eq hz fun i hi=>hz i (by omega))⟩
theorem Pl.po{n:Nat}{f:Fn}(h:Pl n f):Po f:=⟨n,h⟩
theorem Po.congr{f g:Fn}(h:Po f)(e:∀ x,f x=g x):Po g:=by obtain rfl:f=g:=funext e;exact h
theorem Pl.add{n m:Nat}{f g:Fn}(h:Pl n f)(k:Pl m g):Pl (max n m) (fun x=>f x+g x):=by
 obtain ⟨c,h1,h2⟩:=h.mono (Nat.le_max_left n m);obtain ⟨d,k1,k2⟩:=k.mono (Nat.le_max_right n m);exact ⟨faddQ c d,fun i hi=>by show c i+d i=0;rw [h1 i hi,k1 i hi];grind,fun q=>by rw [pe_add,← h2,← k2]⟩
theorem Pl.scl{n:Nat}{f:Fn}(h:Pl n f)(r:Rat):Pl n (fun x=>f x*r):=by
 obtain ⟨c,h1,h2⟩:=h;exact ⟨fsclQ c r,fsclQ_z h1,fun q=>by rw [pe_scl,← h2]⟩
theorem Pl.mul{n m:Nat}{f g:Fn}(h:Pl n f)(k:Pl m g):Pl (n+m) (fun x=>f x*g x):=by
 obtain ⟨c,h1,h2⟩:=h;obtain ⟨d,k1,k2⟩:=k;exact ⟨conv c d,conv_z0Q h1 k1,fun q=>by rw [pe_conv h1 k1,← h2,← k2]⟩
theorem pl_const(a:Rat):Pl 1 (fun _=>a):=⟨fun i=>if i=0 then a else 0,fun i hi=>if_neg (by omega),fun q=>by show a=0+(if 0=0 then a else 0)*q^0;rw [if_pos rfl,Rat.pow_zero];grind⟩
theorem pl_var:Pl 2 (fun x=>x):=⟨fun i=>if i=1 then 1 else 0,fun i hi=>if_neg (by omega),fun q=>by
 show q=(0+(if 0=1 then 1 else 0)*q^0)+(if 1=1 then 1 else 0)*q^1
 rw [if_neg (by decide),if_pos rfl,Rat.pow_succ,Rat.pow_zero];grind⟩
theorem Po.add{f g:Fn}:Po f→Po g→Po (fun x=>f x+g x):=fun ⟨_,h⟩ ⟨_,k⟩=>⟨_,h.add k⟩
theorem Po.mul{f g:Fn}:Po f→Po g→Po (fun x=>f x*g x):=fun ⟨_,h⟩ ⟨_,k⟩=>⟨_,h.mul k⟩
theorem Po.scl{f:Fn}(r:Rat):Po f→Po (fun x=>f x*r):=fun ⟨_,h⟩=>⟨_,h.scl r⟩
theorem Po.neg{f:Fn}(h:Po f):Po (fun x=> - f x):=(h.scl (-1)).congr fun x=>by grind
theorem Po.sub{f g:Fn}(h:Po f)(k:Po g):Po (fun x=>f x-g x):=(h.add k.neg).congr fun x=>by grind
theorem po_const(a:Rat):Po (fun _=>a):=⟨1,pl_const a⟩
theorem po_var:Po (fun x=>x):=⟨2,pl_var⟩
theorem Po.pow{f:Fn}(h:Po f):∀ n:Nat,Po (fun x=>f x^n)
 | 0=>(po_const 1).congr fun x=>by rw [Rat.pow_zero]
 | n+1=>((h.pow n).mul h).congr fun x=>by rw [Rat.pow_succ]
theorem pl_tri{f:Fn}:∀ {n:Nat},Pl n f→(∀ x,f x=0)∨∃ k a,k < n∧Lc k f a
 | 0,⟨c,_,h⟩=>Or.inl fun x=>h x
 | n+1,⟨c,hz,h⟩=>by
  by_cases h0:c n=0
  ·have hz':∀ i,n≤i→c i=0:=fun i hi=>by
    rcases Nat.eq_or_lt_of_le hi with e | e
    ·rw [← e];exact h0
    ·exact hz i e
   rcases pl_tri (n:=n) ⟨c,hz',fun q=>(h q).trans (pe_eq hz hz')⟩ with k | ⟨k,a,h1,h2⟩
   ·exact Or.inl k
   ·exact Or.inr ⟨k,a,by omega,h2⟩
  ·exact Or.inr ⟨n,c n,by omega,c,fun i hi=>hz i hi,rfl,h0,h⟩
theorem Lc.ne{k:Nat}{f:Fn}{a:Rat}(h:Lc k f a):∃ x,f x≠0:=by
 obtain ⟨c,h1,h2,h3,h4⟩:=h
 by_cases hh:∃ x,f x≠0
 ·exact hh
 ·exfalso
  have:∀ x,f x=0:=fun x=>by by_cases h:f x=0;exact h;exact absurd ⟨x,h⟩ hh
  have h5:=pe_none (c:=c) (n:=k+1) (fun i hi=>h1 i (by omega)) (fun x=>(h4 x).symm.trans (this x)) k;exact h3 (h2.symm.trans h5)
theorem Lc.uniq{k j:Nat}{f:Fn}{a b:Rat}(h:Lc k f a)(g:Lc j f b):k=j∧a=b:=by
 obtain ⟨c,h1,h2,h3,h4⟩:=h;obtain ⟨d,k1,k2,k3,k4⟩:=g;have e:=pe_one (a:=c) (b:=d) (n:=k+1) (m:=j+1) (fun i hi=>h1 i (by omega)) (fun i hi=>k1 i (by omega)) (fun x=>(h4 x).symm.trans (k4 x));have hkj:k=j:=by
  rcases Nat.lt_trichotomy k j with h | h | h
  ·exact absurd ((h1 j h).symm.trans (e j)).symm (by rw [k2];exact k3)
  ·exact h
  ·exact absurd ((e k).trans (k1 k h)) (by rw [h2];exact h3)
 subst hkj;exact ⟨rfl,by rw [← h2,← k2];exact e k⟩
theorem Lc.congr{k:Nat}{f g:Fn}{a:Rat}(h:Lc k f a)(e:∀ x,f x=g x):Lc k g a:=by obtain rfl:f=g:=funext e;exact h
theorem conv_topQ{c d:Nat→Rat}{k j:Nat}(h1:∀ i,k < i→c i=0)(h2:∀ i,j < i→d i=0):conv c d (k+j)=c k*d j:=by
 have key:∀ m,cv c d m (k+j)=if k < m then c k*d j else 0:=by
  intro m
  induction m with
  | zero=>rfl
  | succ m ih=>
   show cv c d m (k+j)+(if m≤k+j then c m*d (k+j-m) else 0)=_
   rw [ih];rcases Nat.lt_trichotomy m k with h | h | h
   ·rw [if_neg (by omega),if_pos (by omega),if_neg (by omega),h2 _ (by omega)];grind
   ·subst h;rw [if_neg (by omega),if_pos (by omega),if_pos (by omega),show m+j-m=j by omega];grind
   ·rw [if_pos h,if_pos (show k < m+1 by omega),h1 m h];split <;> grind
 unfold conv;rw [key,if_pos (by omega)]
theorem Lc.mul{k j:Nat}{f g:Fn}{a b:Rat}(h:Lc k f a)(g':Lc j g b):Lc (k+j) (fun x=>f x*g x) (a*b):=by
 obtain ⟨c,h1,h2,h3,h4⟩:=h;obtain ⟨d,k1,k2,k3,k4⟩:=g';have z1:∀ i,k+1≤i→c i=0:=fun i hi=>h1 i (by omega)
 have z2:∀ i,j+1≤i→d i=0:=fun i hi=>k1 i (by omega)
 have hz:∀ i,k+j < i→conv c d i=0:=fun i hi=>conv_beyondQ (n:=k+1) (m:=j+1) z1 z2 (by omega)
 refine ⟨conv c d,hz,by rw [conv_topQ h1 k1,h2,k2],fun e=>by rcases Rat.mul_eq_zero.1 e with e | e;exact h3 e;exact k3 e,fun q=>?_⟩;show f q*g q=_
 rw [h4,k4,← pe_conv z1 z2];exact pe_eq (conv_z0Q z1 z2) (fun i hi=>hz i (by omega))
/-- DIVISION with a remainder. -/
theorem po_div{m:Nat}{b:Fn}{β:Rat}(hb:Lc m b β):∀ (n:Nat) (a:Fn),Pl n a→∃ q r:Fn,Po q∧Pl m r∧∀ x,a x=q x*b x+r x
 | 0,a,ha=>⟨fun _=>0,a,po_const 0,ha.mono (Nat.zero_le _),fun x=>by grind⟩
 | n+1,a,ha=>by
  by_cases hnm:n+1≤m
  ·exact ⟨fun _=>0,a,po_const 0,ha.mono hnm,fun x=>by grind⟩
  ·obtain ⟨c,hz,hc⟩:=ha
   obtain ⟨d,h1,h2,h3,h4⟩:=hb;have hk:n-m+(m+1)=n+1:=by omega
   obtain ⟨γ,hγ⟩:∃ γ,γ*β=c n:=⟨c n / β,Rat.div_mul_cancel h3⟩
   obtain ⟨e,he⟩:∃ e:Nat→Rat,e=fun i=>if n-m≤i then γ*d (i-(n-m)) else 0:=⟨_,rfl⟩
   have hsh:∀ q,pe e q (n+1)=γ*q^(n-m)*b q:=fun q=>by rw [h4,← hk,he];exact pe_shift (m+1)
   have hen:e n=c n:=by
    rw [he];show (if n-m≤n then γ*d (n-(n-m)) else 0)=c n
    rw [if_pos (by omega),show n-(n-m)=m by omega,h2];exact hγ
   have hez:∀ i,n+1≤i→e i=0:=fun i hi=>by
    rw [he];show (if n-m≤i then γ*d (i-(n-m)) else 0)=0
    rw [if_pos (by omega),h1 _ (by omega)];grind
   have hz':∀ i,n≤i→faddQ c (fsclQ e (-1)) i=0:=fun i hi=>by
    show c i+e i* -1=0
    rcases Nat.eq_or_lt_of_le hi with h | h
    ·subst h;rw [hen];grind
    ·rw [hz i h,hez i h];grind
   obtain ⟨q,r,hq,hr,hqr⟩:=po_div ⟨d,h1,h2,h3,h4⟩ n (fun x=>a x-γ*x^(n-m)*b x) ⟨faddQ c (fsclQ e (-1)),hz',fun x=>by
    rw [← pe_eq (n:=n+1) (fun i hi=>hz' i (by omega)) hz',pe_add,pe_scl,hsh,← hc];grind⟩
   refine ⟨fun x=>q x+γ*x^(n-m),r,hq.add (((po_var.pow (n-m)).scl γ).congr fun x=>Rat.mul_comm _ _),hr,fun x=>?_⟩;have h5:a x-γ*x^(n-m)*b x=q x*b x+r x:=hqr x;show a x=(q x+γ*x^(n-m))*b x+r x
   generalize x^(n-m)=y at *
   clear hqr hsh hen hez hz' he hγ hc h4;grind
/-- BEZOUT. -/
theorem po_gcd:∀ (m:Nat) (a b:Fn),Po a→Pl m b→∃ d u v s t:Fn,Po d∧Po u∧Po v∧Po s∧Po t∧(∀ x,d x=u x*a x+v x*b x)∧(∀ x,a x=s x*d x)∧∀ x,b x=t x*d x:=by
 intro m
 induction m using Nat.strongRecOn with
 | ind m ih=>
  intro a b ha hb
  rcases pl_tri hb with h | ⟨k,β,hk,hlc⟩
  ·exact ⟨a,fun _=>1,fun _=>0,fun _=>1,fun _=>0,ha,po_const 1,po_const 0,po_const 1,po_const 0,fun x=>by grind,fun x=>by grind,fun x=>by rw [h x];grind⟩
  ·obtain ⟨n,ha'⟩:=ha
   obtain ⟨q,r,hq,hr,hqr⟩:=po_div hlc n a ha';obtain ⟨d,u,v,s,t,hd,hu,hv,hs,ht,e1,e2,e3⟩:=ih k hk b r hb.po hr;exact ⟨d,v,fun x=>u x-v x*q x,fun x=>q x*s x+t x,s,hd,hv,hu.sub (hv.mul hq),(hq.mul hs).add ht,hs,fun x=>by have:=e1 x;have:=hqr x;grind,fun x=>by have:=e2 x;have:=e3 x;have:=hqr x;grind,e2⟩
def Dv(a b:Fn):Prop:=∃ q,Po q∧∀ x,b x=q x*a x
def Cop(a b:Fn):Prop:=∃ u v,Po u∧Po v∧∀ x,u x*a x+v x*b x=1
theorem Dv.trans{a b c:Fn}:Dv a b→Dv b c→Dv a c:=fun ⟨q,h1,h2⟩ ⟨r,k1,k2⟩=>⟨fun x=>r x*q x,k1.mul h1,fun x=>by rw [k2,h2];grind⟩
theorem Dv.refl(a:Fn):Dv a a:=⟨fun _=>1,po_const 1,fun x=>by grind⟩
theorem Dv.mulr{a b c:Fn}(hc:Po c):Dv a b→Dv a (fun x=>b x*c x):=fun ⟨q,h1,h2⟩=>⟨fun x=>q x*c x,h1.mul hc,fun x=>by have:=h2 x;grind⟩
theorem Dv.congr{a b c:Fn}(h:Dv a b)(e:∀ x,b x=c x):Dv a c:=by obtain rfl:b=c:=funext e;exact h
theorem Cop.symm{a b:Fn}:Cop a b→Cop b a:=fun ⟨u,v,h1,h2,h3⟩=>⟨v,u,h2,h1,fun x=>by have:=h3 x;grind⟩
/-- Euclid's lemma. -/
theorem Cop.dv{a b c:Fn}(h:Cop a b)(hc:Po c)(k:Dv a (fun x=>b x*c x)):Dv a c:=by
 obtain ⟨u,v,hu,hv,huv⟩:=h;obtain ⟨q,hq,hbc⟩:=k;exact ⟨fun x=>u x*c x+v x*q x,(hu.mul hc).add (hv.mul hq),fun x=>by have:=huv x;have:=hbc x;grind⟩
theorem Cop.mul{a b c:Fn}(h:Cop a b)(k:Cop a c)(ha:Po a)(hb:Po b)(hc:Po c):Cop a (fun x=>b x*c x):=by
 obtain ⟨u,v,hu,hv,huv⟩:=h;obtain ⟨p,q,hp,hq,hpq⟩:=k;exact ⟨fun x=>u x*p x*a x+u x*q x*c x+v x*b x*p x,fun x=>v x*q x,(((hu.mul hp).mul ha).add ((hu.mul hq).mul hc)).add ((hv.mul hb).mul hp),hv.mul hq,fun x=>by have:=huv x;have:=hpq x;grind⟩
/-! ### Derivatives -/
def Der(f f':Fn):Prop:=∀ B,∃ E,0≤E∧∀ s t,In B s→In B t→s≤t→Ab (f t-f s-(t-s)*f' s) ((t-s)*((t-s)*E))
theorem Po.bd{f:Fn}(h:Po f)(B:Rat):∃ M,0≤M∧∀ x,In B x→Ab (f x) M:=by
 obtain ⟨n,c,hz,hc⟩:=h;obtain ⟨M,hM,h⟩:=pe_Bd c n B;exact ⟨M,hM,fun x hx=>by rw [hc];exact h x hx⟩
theorem Po.lip{f:Fn}(h:Po f)(B:Rat):∃ L,0≤L∧Lip B f L:=by
 obtain ⟨n,c,hz,hc⟩:=h;obtain ⟨L,hL,h⟩:=pe_Lip c n B;exact ⟨L,hL,fun x y hx hy hxy=>by rw [hc,hc];exact h x y hx hy hxy⟩
theorem Po.der{f:Fn}(h:Po f):∃ f',Po f'∧Der f f':=by
 obtain ⟨n,c,hz,hc⟩:=h;refine ⟨fun q=>pe (derQ c) q (n-1),⟨n-1,derQ c,derQ_z hz,fun _=>rfl⟩,fun B=>?_⟩;obtain ⟨E,hE,h⟩:=pe_Der c n B;refine ⟨E,hE,fun s t hs ht hst=>?_⟩;have:=h s t hs ht hst;rw [hc,hc];unfold Ab;constructor <;> grind
theorem der_pe{c:Nat→Rat}{n:Nat}:Der (fun q=>pe c q n) (fun q=>pe (derQ c) q (n-1)):=fun B=>by
 obtain ⟨E,hE,h⟩:=pe_Der c n B;refine ⟨E,hE,fun s t hs ht hst=>?_⟩;have:=h s t hs ht hst;unfold Ab;constructor <;> grind
theorem Lip.ab{B L:Rat}{f:Fn}(h:Lip B f L){s t:Rat}(hs:In B s)(ht:In B t)(hst:s≤t):Ab (f t-f s) (L*(t-s)):=by have:=h s t hs ht hst;unfold Ab;constructor <;> grind
theorem ab_self{x:Rat}(h:0≤x):Ab x x:=by unfold Ab;constructor <;> grind
theorem Der.mul{f g f' g':Fn}(h:Der f f')(k:Der g g')(pf:Po f)(pg:Po g)(pf':Po f'):Der (fun x=>f x*g x) (fun x=>f' x*g x+f x*g' x):=fun B=>by
 obtain ⟨E,hE,h⟩:=h B;obtain ⟨F,hF,k⟩:=k B;obtain ⟨M,hM,m1⟩:=pg.bd B;obtain ⟨N,hN,m2⟩:=pf'.bd B;obtain ⟨K,hK,m3⟩:=pf.bd B;obtain ⟨L,hL,l1⟩:=pg.lip B;refine ⟨M*E+N*L+K*F,by have:=Rat.mul_nonneg hM hE;have:=Rat.mul_nonneg hN hL;have:=Rat.mul_nonneg hK hF;grind,fun s t hs ht hst=>?_⟩;have a1:=(m1 t ht).mul (h s t hs ht hst);have a2:=((ab_self (show 0≤t-s by grind)).mul (m2 s hs)).mul (l1.ab hs ht hst);have a3:=(m3 s hs).mul (k s t hs ht hst);refine (((a1.add a2).add a3).eq ?_).mono ?_
 ·show _=f t*g t-f s*g s-(t-s)*(f' s*g s+f s*g' s);grind
 ·grind
theorem Der.congr{f g f' g':Fn}(h:Der f f')(e:∀ x,f x=g x)(e':∀ x,f' x=g' x):Der g g':=by obtain rfl:f=g:=funext e;obtain rfl:f'=g':=funext e';exact h
theorem der_const(a:Rat):Der (fun _=>a) (fun _=>0):=fun B=>⟨0,by grind,fun s t _ _ _=>(ab_zero (e:=(t-s)*((t-s)*0)) (by grind)).eq (by grind)⟩
theorem Der.pow{f f':Fn}(h:Der f f')(pf:Po f)(pf':Po f'):∀ n:Nat,Der (fun x=>f x^(n+1)) (fun x=>((n+1:Nat):Rat)*f x^n*f' x)
 | 0=>h.congr (fun x=>by rw [Rat.pow_succ,Rat.pow_zero];grind) (fun x=>by rw [Rat.pow_zero];have:((0+1:Nat):Rat)=1:=rfl;rw [this];grind)
 | n+1=>by
  refine ((h.pow pf pf' n).mul h (pf.pow (n+1)) pf (((pf.pow n).mul pf').scl ((n+1:Nat):Rat) |>.congr fun x=>by grind)).congr (fun x=>by rw [Rat.pow_succ (f x) (n+1)]) (fun x=>?_);rw [nat_succ (n+1),Rat.pow_succ (f x) n];grind
theorem der_aux{w y p q E F z:Rat}(h1:Ab (w-y*p) (y*(y*E)))(h2:Ab (w-y*q) (y*(y*F)))(h3:(E+F)*y < z)(hy:0 < y)(hz:p-q=z):False:=by
 have h5:y*((E+F)*y) < y*z:=Rat.mul_lt_mul_of_pos_left h3 hy;have h6:y*z=y*p-y*q:=by rw [← hz];grind
 unfold Ab at h1 h2;grind
theorem Der.uniq{f f1 f2:Fn}(h:Der f f1)(k:Der f f2)(x:Rat):f1 x=f2 x:=by
 by_cases h0:f1 x=f2 x
 ·exact h0
 ·exfalso
  obtain ⟨B,hB1,hB2⟩:∃ B,In B x∧In B (x+1):=⟨(if x < 0 then -x else x)+1,by unfold In;constructor <;> (split <;> grind),by unfold In;constructor <;> (split <;> grind)⟩
  obtain ⟨E,hE,h⟩:=h B;obtain ⟨F,hF,k⟩:=k B;obtain ⟨z,hz,hz2⟩:∃ z:Rat,0 < z∧((f1 x-f2 x=z)∨(f2 x-f1 x=z)):=by
   by_cases h1:f2 x < f1 x
   ·exact ⟨f1 x-f2 x,by grind,Or.inl rfl⟩
   ·exact ⟨f2 x-f1 x,by grind,Or.inr rfl⟩
  obtain ⟨d,hd,hs⟩:=ex_small (L:=E+F) (m:=z) (by grind) hz;obtain ⟨e,he,he1,he2⟩:=ex_min hd (show (0:Rat) < 1 by grind);have hte:In B (x+e / 2):=by unfold In at *;constructor <;> grind
  have h1:=h x (x+e / 2) hB1 hte (by grind);have h2:=k x (x+e / 2) hB1 hte (by grind);have h3:=hs (e / 2) (by grind) (by grind);have h4:x+e / 2-x=e / 2:=by grind
  rw [h4] at h1 h2;rcases hz2 with hz2 | hz2
  ·exact der_aux h1 h2 h3 (by grind) hz2
  ·exact der_aux h2 h1 (show (F+E)*(e / 2) < z by grind) (by grind) hz2
theorem Lc.der{k:Nat}{f f':Fn}{a:Rat}(h:Lc (k+1) f a)(hd:Der f f'):Lc k f' (((k+1:Nat):Rat)*a):=by
 obtain ⟨c,h1,h2,h3,h4⟩:=h;have e:∀ x,pe (derQ c) x (k+1)=f' x:=fun x=>((der_pe (c:=c) (n:=k+1+1)).congr (fun q=>(h4 q).symm) (fun _=>rfl)).uniq hd x
 refine ⟨derQ c,fun i hi=>by unfold derQ;rw [h1 (i+1) (by omega),Rat.mul_zero],by unfold derQ;rw [h2],fun e=>?_,fun q=>(e q).symm⟩;rcases Rat.mul_eq_zero.1 e with e | e
 ·have:(k+1:Nat)=0:=by exact_mod_cast e
  omega
 ·exact h3 e
/-! ### Prime polynomials, what is squarefree -/
theorem po_cancel{x y:Fn}(hx:Po x)(hne:∃ t,x t≠0)(hy:Po y)(h:∀ t,x t*y t=0)(t:Rat):y t=0:=by
 obtain ⟨n,hx⟩:=hx;obtain ⟨m,hy⟩:=hy;rcases pl_tri hx with h1 | ⟨k,a,_,h1⟩
 ·obtain ⟨t,ht⟩:=hne;exact absurd (h1 t) ht
 ·rcases pl_tri hy with h2 | ⟨j,b,_,h2⟩
  ·exact h2 t
  ·obtain ⟨u,hu⟩:=(h1.mul h2).ne;exact absurd (h u) hu
theorem po_cancel2{x y z:Fn}(hx:Po x)(hne:∃ t,x t≠0)(hy:Po y)(hz:Po z)(h:∀ t,x t*y t=x t*z t)(t:Rat):y t=z t:=by
 have:=po_cancel hx hne (hy.sub hz) (fun t=>by have:=h t;grind) t;grind
theorem po_deg{f:Fn}(h:Po f)(hne:∃ t,f t≠0):∃ k a,Lc k f a:=by
 obtain ⟨n,h⟩:=h;rcases pl_tri h with h1 | ⟨k,a,_,h1⟩
 ·obtain ⟨t,ht⟩:=hne;exact absurd (h1 t) ht
 ·exact ⟨k,a,h1⟩
theorem Dv.deg{a b:Fn}{k j:Nat}{α β:Rat}(h:Dv a b)(ha:Lc k a α)(hb:Lc j b β):k≤j:=by
 obtain ⟨q,hq,e⟩:=h;obtain ⟨i,γ,hq⟩:=po_deg hq (by
  obtain ⟨t,ht⟩:=hb.ne;exact ⟨t,fun h0=>ht (by rw [e,h0];grind)⟩)
 have:=(hb.congr e).uniq (hq.mul ha);omega
theorem lc_cst{a:Rat}(h:a≠0):Lc 0 (fun _=>a) a:=⟨fun i=>if i=0 then a else 0,fun i hi=>if_neg (by omega),if_pos rfl,h,fun q=>by show a=0+(if 0=0 then a else 0)*q^0;rw [if_pos rfl,Rat.pow_zero];grind⟩
theorem pow_ne_fn{f:Fn}(hne:∃ k a,Lc k f a):∀ n:Nat,∃ k a,Lc k (fun x=>f x^n) a
 | 0=>⟨0,1,(lc_cst (a:=1) (by decide)).congr fun x=>by rw [Rat.pow_zero]⟩
 | n+1=>by
  obtain ⟨k,a,h⟩:=pow_ne_fn hne n;obtain ⟨j,b,g⟩:=hne;exact ⟨_,_,(h.mul g).congr fun x=>by rw [Rat.pow_succ]⟩
def Pr(π:Fn):Prop:=Po π∧(∃ k a,1≤k∧Lc k π a)∧∀ h,Po h→Dv π h∨Cop π h
theorem lc_const{f:Fn}{a:Rat}(h:Lc 0 f a)(x:Rat):f x=a:=by
 obtain ⟨c,h1,h2,h3,h4⟩:=h;rw [h4];show 0+c 0*x^0=a;rw [Rat.pow_zero,h2];grind
/-- Each that is not constant has a prime divisor. -/
theorem ex_pr:∀ (k:Nat) (d:Fn) (a:Rat),Lc k d a→1≤k→Po d→∃ π,Pr π∧Dv π d:=by
 intro k
 induction k using Nat.strongRecOn with
 | ind k ih=>
  intro d a hd hk pd
  by_cases hs:∃ e j b,Dv e d∧Po e∧Lc j e b∧1≤j∧j < k
  ·obtain ⟨e,j,b,h1,h2,h3,h4,h5⟩:=hs
   obtain ⟨π,h6,h7⟩:=ih j h5 e b h3 h4 h2;exact ⟨π,h6,h7.trans h1⟩
  ·refine ⟨d,⟨pd,⟨k,a,hk,hd⟩,fun h ph=>?_⟩,.refl _⟩
   obtain ⟨m,ph⟩:=ph;obtain ⟨e,u,v,s,t,pe',pu,pv,ps,pt,e1,e2,e3⟩:=po_gcd m d h pd ph;obtain ⟨j,b,he⟩:=po_deg pe' (by obtain ⟨y,hy⟩:=hd.ne;exact ⟨y,fun h0=>hy (by rw [e2,h0];grind)⟩);have hdv:Dv e d:=⟨s,ps,e2⟩;have hle:=hdv.deg he hd
   by_cases hj:j=0
   ·subst hj
    have hb:=lc_const he;have hb0:b≠0:=he.choose_spec.2.2.1;exact Or.inr ⟨fun x=>u x*b⁻¹,fun x=>v x*b⁻¹,pu.scl _,pv.scl _,fun x=>by have h5:=e1 x;rw [hb] at h5;have:=Rat.mul_inv_cancel b hb0;grind⟩
   ·have hjk:j=k:=by
     rcases Nat.lt_or_ge j k with h6 | h6
     ·exact absurd ⟨e,j,b,hdv,pe',he,by omega,h6⟩ hs
     ·omega
    subst hjk;obtain ⟨i,γ,hs'⟩:=po_deg ps (by obtain ⟨y,hy⟩:=hd.ne;exact ⟨y,fun h0=>hy (by rw [e2,h0];grind)⟩);have h7:=((hs'.mul he).congr fun x=>(e2 x).symm).uniq hd;have hi:i=0:=by omega
    subst hi;have hg:=lc_const hs';have hg0:γ≠0:=hs'.choose_spec.2.2.1;exact Or.inl ⟨fun x=>t x*γ⁻¹,pt.scl _,fun x=>by have h8:=e3 x;have h9:=e2 x;rw [hg] at h9;have:=Rat.mul_inv_cancel γ hg0;grind⟩
theorem Pr.dv_mul{π x y:Fn}(h:Pr π)(px:Po x)(py:Po y)(hd:Dv π (fun t=>x t*y t)):Dv π x∨Dv π y:=by
 rcases h.2.2 x px with h1 | h1
 ·exact Or.inl h1
 ·exact Or.inr (h1.dv py hd)
theorem Pr.ne{π:Fn}(h:Pr π):∃ t,π t≠0:=let ⟨_,⟨_,_,_,hl⟩,_⟩:=h;hl.ne
theorem Pr.der{π π':Fn}(h:Pr π)(hd:Der π π')(pp:Po π'):Cop π π':=by
 rcases h.2.2 π' pp with h1 | h1
 ·exfalso
  obtain ⟨_,⟨k,a,hk,hl⟩,_⟩:=h;obtain ⟨j,rfl⟩:∃ j,k=j+1:=⟨k-1,by omega⟩
  have:=h1.deg hl (hl.der hd);omega
 ·exact h1
/-- How often a prime polynomial is there. -/
theorem ex_mult{π a:Fn}(h:Pr π)(pa:Po a)(hne:∃ t,a t≠0):∃ (k:Nat) (b:Fn),Po b∧(∀ x,a x=π x^k*b x)∧¬ Dv π b:=by
 obtain ⟨n,α,ha⟩:=po_deg pa hne;obtain ⟨m,β,hm,hl⟩:=h.2.1;have key:∀ (n:Nat) (a:Fn) (α:Rat),Po a→Lc n a α→∃ (k:Nat) (b:Fn),Po b∧(∀ x,a x=π x^k*b x)∧¬ Dv π b:=by
  intro n
  induction n using Nat.strongRecOn with
  | ind n ih=>
   intro a α pa ha
   by_cases hd:Dv π a
   ·obtain ⟨q,pq,e⟩:=hd
    obtain ⟨i,γ,hi⟩:=po_deg pq (by obtain ⟨y,hy⟩:=ha.ne;exact ⟨y,fun h0=>hy (by rw [e,h0];grind)⟩);have h1:=((hi.mul hl).congr fun x=>(e x).symm).uniq ha;obtain ⟨k,b,pb,hb,hnb⟩:=ih i (by omega) q γ pq hi;exact ⟨k+1,b,pb,fun x=>by rw [e,hb,Rat.pow_succ];grind,hnb⟩
   ·exact ⟨0,a,pa,fun x=>by rw [Rat.pow_zero];grind,hd⟩
 exact key n a α pa ha
/-- A and its derivative: what is left over their common divisor has each prime factor once. -/
theorem sqf_once{π a a' f g u v w:Fn}(h:Pr π)(pa:Po a)(hne:∃ t,a t≠0)(hda:Der a a')(pa':Po a')(pf:Po f)(pg:Po g)(hfg:∀ x,a x=f x*g x)(pu:Po u)(pv:Po v)(hg:∀ x,g x=u x*a x+v x*a' x)(pw:Po w)(hga:∀ x,a' x=w x*g x)(hd:Dv π a):∃ f1,Po f1∧(∀ x,f x=π x*f1 x)∧¬ Dv π f1:=by
  obtain ⟨pp,hnc,hpr⟩:=h;have h:Pr π:=⟨pp,hnc,hpr⟩;obtain ⟨π',pp',hdp⟩:=pp.der;obtain ⟨K,b,pb,hb,hnb⟩:=ex_mult h pa hne;obtain ⟨k,rfl⟩:∃ k,K=k+1:=by
    cases K with
    | zero=>exact absurd (hd.congr fun x=>by rw [hb,Rat.pow_zero];grind) hnb
    | succ k=>exact ⟨k,rfl⟩
  obtain ⟨b',pb',hdb⟩:=pb.der;have ha':∀ x,a' x=π x^k*(((k+1:Nat):Rat)*π' x*b x+π x*b' x):=by
    intro x;have h1:=((hdp.pow pp pp' k).mul hdb (pp.pow (k+1)) pb (((pp.pow k).mul pp').scl ((k+1:Nat):Rat) |>.congr fun x=>by grind));have h2:=(h1.congr (fun x=>(hb x).symm) (fun _=>rfl)).uniq hda x;rw [← h2,Rat.pow_succ];grind
  have pk:=pp.pow k;have nk:∃ t,π t^k≠0:=by
    obtain ⟨j,α,hj⟩:=pow_ne_fn (let ⟨k,a,_,hl⟩:=hnc;⟨k,a,hl⟩) k;exact hj.ne
  have hg1:∀ x,g x=π x^k*(u x*π x*b x+v x*(((k+1:Nat):Rat)*π' x*b x+π x*b' x)):=by
    intro x;rw [hg,hb,ha',Rat.pow_succ];grind
  obtain ⟨g1,hg1e⟩:∃ g1:Fn,g1=fun x=>u x*π x*b x+v x*(((k+1:Nat):Rat)*π' x*b x+π x*b' x):=⟨_,rfl⟩
  have pg1:Po g1:=by
    rw [hg1e];exact (((pu.mul pp).mul pb).add (pv.mul ((((pp'.scl ((k+1:Nat):Rat)).mul pb).add (pp.mul pb')).congr fun x=>by grind)))
  have hgg:∀ x,g x=π x^k*g1 x:=fun x=>by rw [hg1,hg1e]
  have hng1:¬ Dv π g1:=by
    rintro ⟨q,pq,hq⟩;have e1:=po_cancel2 pk nk ((((pp'.scl ((k+1:Nat):Rat)).mul pb).add (pp.mul pb')).congr (g:=fun x=>((k+1:Nat):Rat)*π' x*b x+π x*b' x) fun x=>by grind) ((pw.mul pq).mul pp) (fun x=>by
      rw [← ha',hga,hgg,hq];grind)
    have e2:Dv π (fun x=>π' x*b x):=by
      have hk0 : ((k + 1 : Nat) : Rat) ≠ 0 := by intro e; have : (k + 1 : Nat) = 0 := by exact_mod_cast e
                                                 omega
      refine ⟨fun x=>(w x*q x-b' x)*((k+1:Nat):Rat)⁻¹,((pw.mul pq).sub pb').scl _,fun x=>?_⟩;have h3:=e1 x;have h4:=Rat.mul_inv_cancel _ hk0;generalize ((k+1:Nat):Rat)=N at *
      generalize N⁻¹=M at *
      have h5:N*π' x*b x=(w x*q x-b' x)*π x:=by grind
      have h6:π' x*b x=M*(N*π' x*b x):=by grind
      show π' x*b x=(w x*q x-b' x)*M*π x
      rw [h6,h5];grind
    exact hnb ((h.der hdp pp').dv pb e2)
  have e3:=po_cancel2 pk nk (pp.mul pb) (pf.mul pg1) (fun x=>by
    have h1:π x^(k+1)*b x=f x*(π x^k*g1 x):=by rw [← hb,← hgg,← hfg]
    rw [Rat.pow_succ] at h1;grind)
  have e4:Dv π f:=by
    rcases h.dv_mul pf pg1 ⟨b,pb,fun x=>by have:=e3 x;grind⟩ with h1 | h1
    · exact h1
    · exact absurd h1 hng1
  obtain ⟨f1,pf1,hf1⟩:=e4;refine ⟨f1,pf1,fun x=>by rw [hf1];grind,fun hd1=>?_⟩;have e5:=po_cancel2 pp h.ne pb (pf1.mul pg1) (fun x=>by have:=e3 x;have:=hf1 x;grind);exact hnb ((hd1.mulr pg1).congr fun x=>(e5 x).symm)
/-- It is squarefree. -/
theorem sqf_cop{a a' f f' g u v w:Fn}(pa:Po a)(hne:∃ t,a t≠0)(hda:Der a a')(pa':Po a')(pf:Po f)(pg:Po g)(hfg:∀ x,a x=f x*g x)(pu:Po u)(pv:Po v)(hg:∀ x,g x=u x*a x+v x*a' x)(pw:Po w)(hga:∀ x,a' x=w x*g x)(hdf:Der f f')(pf':Po f'):Cop f f':=by
 obtain ⟨n,pn⟩:=pf';obtain ⟨d,p,q,s,t,pd,pp,pq,ps,pt,e1,e2,e3⟩:=po_gcd n f f' pf pn;have pf':Po f':=⟨n,pn⟩;have hfne:∃ t,f t≠0:=by obtain ⟨y,hy⟩:=hne;exact ⟨y,fun h0=>hy (by rw [hfg,h0];grind)⟩
 obtain ⟨k,δ,hd⟩:=po_deg pd (by obtain ⟨y,hy⟩:=hfne;exact ⟨y,fun h0=>hy (by rw [e2,h0];grind)⟩)
 by_cases hk:k=0
 ·subst hk
  have hc:=lc_const hd;have h0:δ≠0:=hd.choose_spec.2.2.1;exact ⟨fun x=>p x*δ⁻¹,fun x=>q x*δ⁻¹,pp.scl _,pq.scl _,fun x=>by have h5:=e1 x;rw [hc] at h5;have:=Rat.mul_inv_cancel δ h0;grind⟩
 ·exfalso
  obtain ⟨π,hπ,hdv⟩:=ex_pr k d δ hd (by omega) pd;have hpf:Dv π f:=hdv.trans ⟨s,ps,e2⟩;have hpf':Dv π f':=hdv.trans ⟨t,pt,e3⟩;obtain ⟨f1,pf1,hf1,hn⟩:=sqf_once hπ pa hne hda pa' pf pg hfg pu pv hg pw hga (hpf.trans ⟨g,pg,fun x=>by rw [hfg];grind⟩);obtain ⟨π',pp',hdp⟩:=hπ.1.der;obtain ⟨f1',pf1',hdf1⟩:=pf1.der;have e4:∀ x,f' x=π' x*f1 x+π x*f1' x:=fun x=>(((hdp.mul hdf1 hπ.1 pf1 pp').congr (fun x=>(hf1 x).symm) (fun _=>rfl)).uniq hdf x).symm
  obtain ⟨r,pr,hr⟩:=hpf';have e5:Dv π (fun x=>π' x*f1 x):=⟨fun x=>r x-f1' x,pr.sub pf1',fun x=>by have:=e4 x;have:=hr x;grind⟩;exact hn ((hπ.der hdp pp').dv pf1 e5)
/-- A power of it is a multiple of the whole. -/
theorem sqf_pow{a a' f g u v w:Fn}(pa:Po a)(hne:∃ t,a t≠0)(hda:Der a a')(pa':Po a')(pf:Po f)(pg:Po g)(hfg:∀ x,a x=f x*g x)(pu:Po u)(pv:Po v)(hg:∀ x,g x=u x*a x+v x*a' x)(pw:Po w)(hga:∀ x,a' x=w x*g x):∃ N:Nat,Dv a (fun x=>f x^N):=by
 have key:∀ (n:Nat) (b:Fn) (β:Rat),Lc n b β→Po b→Dv b a→∃ N:Nat,Dv b (fun x=>f x^N):=by
  intro n
  induction n using Nat.strongRecOn with
  | ind n ih=>
   intro b β hb pb hba
   by_cases hn:n=0
   ·subst hn
    have h0:β≠0:=hb.choose_spec.2.2.1;exact ⟨0,fun _=>β⁻¹,po_const _,fun x=>by show f x^0=β⁻¹*b x;rw [Rat.pow_zero,lc_const hb];have:=Rat.mul_inv_cancel β h0;grind⟩
   ·obtain ⟨π,hπ,q,pq,hq⟩:=ex_pr n b β hb (by omega) pb
    obtain ⟨f1,pf1,hf1,_⟩:=sqf_once hπ pa hne hda pa' pf pg hfg pu pv hg pw hga (Dv.trans ⟨q,pq,hq⟩ hba);obtain ⟨i,γ,hi⟩:=po_deg pq (by obtain ⟨y,hy⟩:=hb.ne;exact ⟨y,fun h0=>hy (by rw [hq,h0];grind)⟩);obtain ⟨m,μ,hm,hl⟩:=hπ.2.1;have h1:=((hi.mul hl).congr fun x=>(hq x).symm).uniq hb;obtain ⟨N,r,pr,hr⟩:=ih i (by omega) q γ hi pq (Dv.trans ⟨π,hπ.1,fun x=>by rw [hq];grind⟩ hba);exact ⟨N+1,fun x=>r x*f1 x,pr.mul pf1,fun x=>by show f x^(N+1)=r x*f1 x*b x;have h2:f x^N=r x*q x:=hr x;rw [Rat.pow_succ,h2,hq x,hf1 x];grind⟩
 obtain ⟨n,α,ha⟩:=po_deg pa hne;exact key n a α ha pa (.refl a)
/-! ### Chains of polynomials -/
def PCh(a b:Fn):List Fn→Prop
 | []=>∃ c,c≠0∧∀ x,b x=c
 | c ::l=>(∃ (Q:Fn) (k:Rat),Po Q∧0 < k∧∀ x,a x=Q x*b x-k*c x)∧PCh b c l
theorem pch_chn(B:Rat):∀ (l:List Fn) (a b:Fn),PCh a b l→Chn B a b l
 | [],_,_,h=>h
 | c ::l,a,b,⟨⟨Q,k,pQ,hk,h⟩,hl⟩=>by
  obtain ⟨M,hM,hb⟩:=pQ.bd B;exact ⟨⟨Q,M,k,hM,hk,fun x hx=>hb x hx,h⟩,pch_chn B l b c hl⟩
theorem Lip.mono{B L M:Rat}{f:Fn}(h:Lip B f L)(k:L≤M):Lip B f M:=fun x y hx hy hxy=>by
 have:=h x y hx hy hxy;have h2:=Rat.mul_le_mul_of_nonneg_right k (show 0≤y-x by grind);constructor <;> grind
theorem ex_lipall(B:Rat):∀ l:List Fn,(∀ f∈l,Po f)→∃ L,0≤L∧LipAll B L l
 | [],_=>⟨0,by grind,fun f hf=>by cases hf⟩
 | f ::l,h=>by
  obtain ⟨L,hL,h1⟩:=ex_lipall B l fun g hg=>h g (List.mem_cons_of_mem _ hg)
  obtain ⟨M,hM,h2⟩:=(h f List.mem_cons_self).lip B;refine ⟨L+M,by grind,fun g hg=>?_⟩;rcases List.mem_cons.1 hg with rfl | hg
  ·exact h2.mono (by grind)
  ·exact (h1 g hg).mono (by grind)
theorem stm_of{f f' g:Fn}{l:List Fn}{d:Rat}(hp:∀ h∈f ::g ::l,Po h)(hc:PCh f g l)(hd:Der f f')(hpos:0 < d)(hg:∀ x,f' x=d*g x):Stm f g l:=
 ⟨fun B=>pch_chn B l f g hc,fun B=>ex_lipall B _ hp,d,hpos,fun B=>by
  obtain ⟨E,hE,h⟩:=hd B;refine ⟨E,hE,fun s t hs ht hst=>?_⟩;have:=h s t hs ht hst;rw [hg] at this;unfold Ab at this;constructor <;> grind⟩
/-- Each squarefree polynomial has a chain. -/
theorem ex_pch:∀ (m:Nat) (a b:Fn) (β:Rat),Po a→Lc m b β→Po b→Cop a b→∃ l:List Fn,(∀ h∈l,Po h)∧PCh a b l:=by
 intro m
 induction m using Nat.strongRecOn with
 | ind m ih=>
  intro a b β pa hb pb hc
  by_cases hm:m=0
  ·subst hm
   have h0:PCh a b []:=⟨β,hb.choose_spec.2.2.1,lc_const hb⟩;exact ⟨[],⟨fun h hh=>(List.not_mem_nil hh).elim,h0⟩⟩
  ·obtain ⟨n,pn⟩:=pa
   obtain ⟨q,r,pq,pr,hqr⟩:=po_div hb n a pn;obtain ⟨u,v,pu,pv,huv⟩:=hc;rcases pl_tri pr with h0 | ⟨k,γ,hk,hr⟩
   ·exfalso
    have h1:∀ x,(u x*q x+v x)*b x=1:=fun x=>by have:=huv x;have:=hqr x;rw [h0 x] at this;grind
    obtain ⟨j,δ,hj⟩:=po_deg ((pu.mul pq).add pv) ⟨0,fun e=>by have:=h1 0;rw [e] at this;grind⟩;have:=((hj.mul hb).congr h1).uniq (lc_cst (a:=1) (by decide));omega
   ·have hnr:Lc k (fun x=> - r x) (-γ):=by
     have:=hr.mul (lc_cst (a:=(-1:Rat)) (by decide));have h2:=this.congr (g:=fun x=> - r x) fun x=>by grind
     rw [show γ* -1= -γ by grind] at h2;exact h2
    obtain ⟨l,hl,hpl⟩:=ih k hk b (fun x=> - r x) (-γ) pb hnr (pr.po.neg) ⟨fun x=>u x*q x+v x,fun x=> - u x,(pu.mul pq).add pv,pu.neg,fun x=>by have:=huv x;have:=hqr x;grind⟩;refine ⟨(fun x=> - r x) ::l,fun h hh=>?_,⟨q,1,pq,by grind,fun x=>by have:=hqr x;grind⟩,hpl⟩;rcases List.mem_cons.1 hh with rfl | hh
    ·exact pr.po.neg
    ·exact hl h hh
/-- SQUAREFREE: with its derivative. -/
structure Sqf(f f':Fn):Prop where
 po:Po f
 po':Po f'
 der:Der f f'
 cop:Cop f f'
theorem Sqf.stm{f f':Fn}(h:Sqf f f')(hn:∃ x,f' x≠0):∃ g l,Stm f g l∧∀ x,sgq (g x)=sgq (f' x):=by
 obtain ⟨m,β,hm⟩:=po_deg h.po' hn;obtain ⟨l,hl,hc⟩:=ex_pch m f f' β h.po hm h.po' h.cop;refine ⟨f',l,stm_of (fun g hg=>?_) hc h.der (show (0:Rat) < 1 by grind) (fun x=>by grind),fun _=>rfl⟩;rcases List.mem_cons.1 hg with rfl | hg
 ·exact h.po
 ·rcases List.mem_cons.1 hg with rfl | hg
  ·exact h.po'
  ·exact hl g hg
theorem Stm.sg{f f' g:Fn}{l:List Fn}(h:Stm f g l)(hd:Der f f')(x:Rat):sgq (g x)=sgq (f' x):=by
 obtain ⟨d,hpos,hb⟩:=h.der;have:Der f (fun x=>d*g x):=fun B=>by
  obtain ⟨E,hE,h⟩:=hb B;refine ⟨E,hE,fun s t hs ht hst=>?_⟩;have:=h s t hs ht hst;unfold Ab;constructor <;> grind
 have e:=hd.uniq this x;rw [e,sgq_mul,sgq_pos hpos,Int.one_mul]
/-- The sign just after x is that. -/
theorem aft_near{f g:Fn}{l:List Fn}(h:Stm f g l)(pf:Po f)(x:Rat):aft f g x≠0∧∃ e,0 < e∧∀ t,x < t→t < x+e→sgq (f t)=aft f g x:=by
 obtain ⟨B,hB1,hB2⟩:∃ B,In B x∧In B (x+1):=⟨(if x < 0 then -x else x)+1,by unfold In;constructor <;> (split <;> grind),by unfold In;constructor <;> (split <;> grind)⟩
 obtain ⟨δ,hδ,hne,hcell⟩:=stm_cell h B;refine ⟨hne x hB1,?_⟩
 by_cases h0:sgq (f x)=0
 ·obtain ⟨e,he,he1,he2⟩:=ex_min hδ (show (0:Rat) < 1 by grind)
  refine ⟨e,he,fun t h1 h2=>?_⟩;have htB:In B t:=by unfold In at *;constructor <;> grind
  rw [aft_of0 h0];rcases hcell x t hB1 htB h1 (by grind) with ⟨⟨k,_⟩,_⟩ | ⟨τ,hτ,hg,hm,_⟩
  ·exact absurd h0 k
  ·rw [hg x (by grind) (by grind)]
   have h3:=hm x t (by grind) h1 (by grind);rw [sgq_eq_zero] at h0;rw [h0] at h3;rwa [show f t-0=f t by grind] at h3
 ·rw [aft_of h0]
  obtain ⟨L,hL,hl⟩:=pf.lip B;obtain ⟨m,hm,hf⟩:∃ m:Rat,0 < m∧Far (f x) m:=by
   rcases sgq_cases (f x) with ⟨k,_⟩ | ⟨_,k⟩ | ⟨k,_⟩
   ·exact ⟨-(f x),by grind,Or.inr (by grind)⟩
   ·exact absurd k h0
   ·exact ⟨f x,k,Or.inl (by grind)⟩
  obtain ⟨d,hd,hs⟩:=ex_small hL hm;obtain ⟨e,he,he1,he2⟩:=ex_min hd (show (0:Rat) < 1 by grind);refine ⟨e,he,fun t h1 h2=>?_⟩;have htB:In B t:=by unfold In at *;constructor <;> grind
  exact (gd_of hl hL hB1 htB hm (hs _ (by grind) (by grind)) hf).2.1 t (by grind) (by grind)
/-- FREE of roots: one sign above a, up to b. -/
def RFree(f:Fn)(a b:Rat):Prop:=∃ s:Int,s≠0∧∀ t,a < t→t≤b→sgq (f t)=s
theorem pab_free{f g:Fn}{l:List Fn}(h:Stm f g l)(pf:Po f){a b:Rat}{N:Nat}(hab:a≤b)(k:Pab f g l a b N):N=0↔RFree f a b:=by
 obtain ⟨h0,e,he,hn⟩:=aft_near h pf a;constructor
 ·intro hN;exact ⟨aft f g a,h0,k.nil.1 hN⟩
 ·rintro ⟨s,hs,hst⟩
  by_cases hlt:a < b
  ·refine k.nil.2 fun t h1 h2=>?_
   rw [hst t h1 h2];obtain ⟨z,hz,hz1,hz2⟩:=ex_min he (show 0 < b-a by grind);have h3:=hn (a+z / 2) (by grind) (by grind);rw [← h3];exact (hst (a+z / 2) (by grind) (by grind)).symm
  ·exact k.nil.2 fun t h1 h2=>by grind
/-- THE COUNT. -/
def Ctd(f:Fn)(a b:Rat)(N:Nat):Prop:=∃ g l,Stm f g l∧Pab f g l a b N
theorem Ctd.free{f:Fn}(pf:Po f){a b:Rat}{N:Nat}(hab:a≤b)(h:Ctd f a b N):N=0↔RFree f a b:=let ⟨_,_,h1,h2⟩:=h;pab_free h1 pf hab h2
theorem stm_uniq{f g g':Fn}{l l':List Fn}(pf:Po f)(h:Stm f g l)(h':Stm f g' l'){a b:Rat}(hab:a≤b){N N':Nat}(k:Pab f g l a b N)(k':Pab f g' l' a b N'):N=N':=by
 obtain ⟨B,hBa,hBb⟩:∃ B,In B a∧In B b:=by
  refine ⟨(if a < 0 then -a else a)+(if b < 0 then -b else b),?_,?_⟩ <;> (unfold In;constructor <;> (repeat' split) <;> grind)
 obtain ⟨δ1,hδ1,_,hcell1⟩:=stm_cell h B;obtain ⟨δ2,hδ2,_,hcell2⟩:=stm_cell h' B;obtain ⟨δ,hδ,hd1,hd2⟩:=ex_min hδ1 hδ2;obtain ⟨n,hn⟩:=ex_cells (r:=b-a) (d:=δ / 2) (by grind);have cell:∀ x y,In B x→In B y→x < y→y-x < δ→∀ M M',Pab f g l x y M→Pab f g' l' x y M'→M=M':=by
  intro x y hx hy hxy hlt M M' p p';obtain ⟨M1,h1,p1⟩:=pab_cell hxy (hcell1 x y hx hy hxy (by grind));obtain ⟨M2,h2,p2⟩:=pab_cell hxy (hcell2 x y hx hy hxy (by grind));have e1:M=M1:=by have:=p.v;have:=p1.v;omega
  have e2:M'=M2:=by have:=p'.v;have:=p2.v;omega
  have f1:=pab_free h pf (by grind) p;have f2:=pab_free h' pf (by grind) p';have:M=0↔M'=0:=f1.trans f2.symm;omega
 have main:∀ n:Nat,∀ c,In B c→a≤c→c-a≤(n:Rat)*(δ / 2)→∀ N N',Pab f g l a c N→Pab f g' l' a c N'→N=N':=by
  intro n
  induction n with
  | zero=>
   intro c _ h1 h2 N N' p p';have:c=a:=by have:((0:Nat):Rat)=0:=rfl;grind
   subst this;have:=p.v;have:=p'.v;omega
  | succ n ih=>
   intro c hc h1 h2 N N' p p';rw [nat_succ] at h2
   by_cases h3:c-a≤(n:Rat)*(δ / 2)
   ·exact ih c hc h1 h3 N N' p p'
   ·by_cases h4:c-δ / 2≤a
    ·by_cases h5:a=c
     ·subst h5;have:=p.v;have:=p'.v;omega
     ·exact cell a c hBa hc (by grind) (by grind) N N' p p'
    ·have hm:In B (c-δ / 2):=⟨by have:=hBa.1;grind,by have:=hc.2;grind⟩
     obtain ⟨N1,q1⟩:=sturm h (a:=a) (b:=c-δ / 2) (by grind);obtain ⟨N2,q2⟩:=sturm h' (a:=a) (b:=c-δ / 2) (by grind);obtain ⟨M1,r1⟩:=sturm h (a:=c-δ / 2) (b:=c) (by grind);obtain ⟨M2,r2⟩:=sturm h' (a:=c-δ / 2) (b:=c) (by grind);have e1:=ih (c-δ / 2) hm (by grind) (by grind) N1 N2 q1 q2;have e2:=cell (c-δ / 2) c hm hc (by grind) (by grind) M1 M2 r1 r2;have:=p.v;have:=q1.v;have:=r1.v;have:=p'.v;have:=q2.v;have:=r2.v;omega
 exact main n b hBb hab hn N N' k k'
theorem Ctd.uniq{f:Fn}(pf:Po f){a b:Rat}(hab:a≤b){N M:Nat}(h:Ctd f a b N)(k:Ctd f a b M):N=M:=let ⟨_,_,h1,h2⟩:=h;let ⟨_,_,k1,k2⟩:=k;stm_uniq pf h1 k1 hab h2 k2
theorem Ctd.split{f:Fn}{a m b:Rat}{N:Nat}(ham:a≤m)(hmb:m≤b)(h:Ctd f a b N):∃ K M,Ctd f a m K∧Ctd f m b M∧N=K+M:=by
 obtain ⟨g,l,h1,h2⟩:=h;obtain ⟨K,k⟩:=sturm h1 ham;obtain ⟨M,m'⟩:=sturm h1 hmb;exact ⟨K,M,⟨g,l,h1,k⟩,⟨g,l,h1,m'⟩,by have:=h2.v;have:=k.v;have:=m'.v;omega⟩
theorem Ctd.cat{f:Fn}(pf:Po f){a m b:Rat}{N M:Nat}(ham:a≤m)(hmb:m≤b)(h:Ctd f a m N)(k:Ctd f m b M):Ctd f a b (N+M):=by
 obtain ⟨g,l,h1,h2⟩:=h;obtain ⟨M',m'⟩:=sturm h1 hmb;have e:=Ctd.uniq pf hmb k ⟨g,l,h1,m'⟩;subst e;exact ⟨g,l,h1,pab_cat ham hmb h2 m'⟩
/-! ### Siegel's lemma -/
theorem pigeon:∀ (B A:Nat) (f:Nat→Nat),B < A→(∀ i,i < A→f i < B)→∃ i j,i < j∧j < A∧f i=f j
 | 0,A,f,h,hf=>absurd (hf 0 (by omega)) (Nat.not_lt_zero _)
 | B+1,A,f,h,hf=>by
  obtain ⟨A',rfl⟩:∃ A',A=A'+1:=⟨A-1,by omega⟩
  by_cases hh:∃ i,i < A'∧f i=f A'
  ·obtain ⟨i,h1,h2⟩:=hh
   exact ⟨i,A',h1,by omega,h2⟩
  ·have hne:∀ i,i < A'→f i≠f A':=fun i hi e=>hh ⟨i,hi,e⟩
   have hA:=hf A' (by omega);obtain ⟨i,j,h1,h2,h3⟩:=pigeon B A' (fun i=>if f i < f A' then f i else f i-1) (by omega) (fun i hi=>by
    have h1:=hne i hi;have h2:=hf i (by omega);show (if f i < f A' then f i else f i-1) < B
    split <;> omega)
   refine ⟨i,j,h1,by omega,?_⟩;have e:(if f i < f A' then f i else f i-1)=(if f j < f A' then f j else f j-1):=h3;have k1:=hne i (by omega);have k2:=hne j (by omega);split at e <;> split at e <;> omega
/-- A number's places to the base b. -/
def plc(b t j:Nat):Nat:=t / b^j%b
theorem plc_eq{b:Nat}(hb:0 < b):∀ (n s t:Nat),s < b^n→t < b^n→(∀ j,j < n→plc b s j=plc b t j)→s=t
 | 0,s,t,hs,ht,_=>by rw [Nat.pow_zero] at hs ht;omega
 | n+1,s,t,hs,ht,h=>by
  have e0:s%b=t%b:=by have:=h 0 (by omega);unfold plc at this;rwa [Nat.pow_zero,Nat.div_one,Nat.div_one] at this
  have e1:s / b=t / b:=by
   refine plc_eq hb n _ _ (Nat.div_lt_of_lt_mul (by rw [Nat.mul_comm,← Nat.pow_succ];exact hs)) (Nat.div_lt_of_lt_mul (by rw [Nat.mul_comm,← Nat.pow_succ];exact ht)) fun j hj=>?_
   have:=h (j+1) (by omega);unfold plc at this ⊢;rwa [Nat.pow_succ,Nat.mul_comm,← Nat.div_div_eq_div_mul,← Nat.div_div_eq_div_mul] at this
  rw [← Nat.div_add_mod s b,← Nat.div_add_mod t b,e0,e1]
/-- .. put together. -/
def sumN(w:Nat→Nat)(R:Nat):Nat→Nat
 | 0=>0
 | m+1=>sumN w R m+w m*R^m
theorem sumN_lt{w:Nat→Nat}{R:Nat}:∀ {m:Nat},(∀ i,i < m→w i < R)→sumN w R m < R^m
 | 0,_=>by rw [Nat.pow_zero];exact Nat.one_pos
 | m+1,h=>by
  have h1:=sumN_lt (w:=w) (R:=R) (m:=m) fun i hi=>h i (by omega)
  have h2:=Nat.mul_le_mul_right (R^m) (show w m+1≤R from h m (by omega));rw [Nat.add_mul,Nat.one_mul] at h2;show sumN w R m+w m*R^m < R^(m+1)
  rw [Nat.pow_succ,Nat.mul_comm (R^m)];omega
theorem sumN_inj{w v:Nat→Nat}{R:Nat}:∀ {m:Nat},(∀ i,i < m→w i < R)→(∀ i,i < m→v i < R)→sumN w R m=sumN v R m→∀ i,i < m→w i=v i
 | 0,_,_,_,i,hi=>absurd hi (Nat.not_lt_zero _)
 | m+1,hw,hv,e,i,hi=>by
  have h1:=sumN_lt (w:=w) (R:=R) (m:=m) fun i hi=>hw i (by omega)
  have h2:=sumN_lt (w:=v) (R:=R) (m:=m) fun i hi=>hv i (by omega)
  have hpos:0 < R^m:=by omega
  have e':sumN w R m+w m*R^m=sumN v R m+v m*R^m:=e;have q:w m=v m:=by
   have:=congrArg (· / R^m) e';simp only [Nat.add_mul_div_right _ _ hpos,Nat.div_eq_of_lt h1,Nat.div_eq_of_lt h2] at this;omega
  have e2:sumN w R m=sumN v R m:=by rw [q] at e';omega
  rcases Nat.lt_or_ge i m with h | h
  ·exact sumN_inj (fun i hi=>hw i (by omega)) (fun i hi=>hv i (by omega)) e2 i h
  ·obtain rfl:i=m:=by omega
   exact q
/-- Sums of whole numbers. -/
def sumZ(a:Nat→Int):Nat→Int
 | 0=>0
 | n+1=>sumZ a n+a n
theorem sumZ_bd{a:Nat→Int}{H:Int}:∀ {n:Nat},(∀ j,j < n→-H≤a j∧a j≤H)→-(n*H)≤sumZ a n∧sumZ a n≤n*H
 | 0,_=>by constructor <;> (show _≤_;simp [sumZ])
 | n+1,h=>by
  have h1:=sumZ_bd (a:=a) (H:=H) (n:=n) fun j hj=>h j (by omega)
  have h2:=h n (by omega);have e:((n+1:Nat):Int)*H=(n:Int)*H+H:=by rw [Int.natCast_add,Int.add_mul];simp
  rw [e];show _≤sumZ a n+a n∧sumZ a n+a n≤_
  omega
theorem sumZ_sub{a b:Nat→Int}:∀ n:Nat,sumZ (fun j=>a j-b j) n=sumZ a n-sumZ b n
 | 0=>rfl
 | n+1=>by show sumZ (fun j=>a j-b j) n+(a n-b n)=(sumZ a n+a n)-(sumZ b n+b n);rw [sumZ_sub n];omega
theorem siegel{m n:Nat}{H:Nat}(A:Nat→Nat→Int)(hmn:m < n)(hH:1≤H)(hA:∀ i j,i < m→j < n→-(H:Int)≤A i j∧A i j≤H):
  ∃ x:Nat→Int,(∃ j,j < n∧x j≠0)∧(∀ j,n≤j→x j=0)∧(∀ j,-(((2*n*H)^m:Nat):Int)≤x j∧x j≤(((2*n*H)^m:Nat):Int))∧∀ i,i < m→sumZ (fun j=>A i j*x j) n=0:=by
 obtain ⟨M,hM⟩:∃ M,M=(2*n*H)^m:=⟨_,rfl⟩
 obtain ⟨S,hS⟩:∃ S:Nat,S=n*(H*M):=⟨_,rfl⟩
 let img:Nat→Nat→Int:=fun t i=>sumZ (fun j=>A i j*(plc (M+1) t j:Int)) n
 have hp:∀ t j,plc (M+1) t j≤M:=fun t j=>by unfold plc;have:=Nat.mod_lt (t / (M+1)^j) (show 0 < M+1 by omega);omega
 have himg:∀ t i,i < m→-(S:Int)≤img t i∧img t i≤S:=by
  intro t i hi;have:=sumZ_bd (a:=fun j=>A i j*(plc (M+1) t j:Int)) (H:=((H*M:Nat):Int)) (n:=n) fun j hj=>by
   have h1:=hA i j hi hj;have h2:=hp t j;have h3:((plc (M+1) t j:Nat):Int)≤M:=by omega
   have a1:=Int.mul_le_mul_of_nonneg_right h1.2 (show 0≤((plc (M+1) t j:Nat):Int) by omega);have a2:=Int.mul_le_mul_of_nonneg_right h1.1 (show 0≤((plc (M+1) t j:Nat):Int) by omega);have a3:=Int.mul_le_mul_of_nonneg_left h3 (show 0≤(H:Int) by omega);rw [Int.natCast_mul];rw [Int.neg_mul] at a2;show _≤A i j*_∧A i j*_≤_
   omega
  rw [← Int.natCast_mul,← hS] at this;exact this
 have hcnt:(2*S+1)^m < (M+1)^n:=by
  have h1:2*S+1≤2*n*H*(M+1):=by
   have hnH:1≤n*H:=Nat.mul_pos (by omega) hH;have:2*n*H*(M+1)=2*(n*H*M)+2*(n*H):=by rw [Nat.mul_add,Nat.mul_one,Nat.mul_assoc 2 n H,Nat.mul_assoc 2 (n*H) M]
   have h0:n*(H*M)=n*H*M:=(Nat.mul_assoc n H M).symm;rw [this,hS,h0];omega
  have h2:(2*S+1)^m≤M*(M+1)^m:=by
   have:=Nat.pow_le_pow_left h1 m;rwa [Nat.mul_pow,← hM] at this
  have h3:M*(M+1)^m < (M+1)^(m+1):=by
   rw [Nat.pow_succ,Nat.mul_comm ((M+1)^m)];exact Nat.mul_lt_mul_of_pos_right (by omega) (Nat.pow_pos (by omega))
  have h4:(M+1)^(m+1)≤(M+1)^n:=Nat.pow_le_pow_right (by omega) hmn;omega
 have hw:∀ t i,i < m→(img t i+S).toNat < 2*S+1:=fun t i hi=>by have:=himg t i hi;omega
 obtain ⟨s,t,hst,ht,he⟩:=pigeon ((2*S+1)^m) ((M+1)^n) (fun t=>sumN (fun i=>(img t i+S).toNat) (2*S+1) m) hcnt (fun t _=>sumN_lt (hw t));have hi:∀ i,i < m→img s i=img t i:=fun i hi=>by
  have:=sumN_inj (hw s) (hw t) he i hi;have h1:=himg s i hi;have h2:=himg t i hi;omega
 refine ⟨fun j=>if j < n then (plc (M+1) s j:Int)-plc (M+1) t j else 0,?_,fun j hj=>if_neg (by omega),fun j=>?_,fun i him=>?_⟩
 ·by_cases hh:∃ j,j < n∧plc (M+1) s j≠plc (M+1) t j
  ·obtain ⟨j,h1,h2⟩:=hh
   exact ⟨j,h1,by show (if j < n then _ else _)≠(0:Int);rw [if_pos h1];omega⟩
  ·exfalso
   have:=plc_eq (b:=M+1) (by omega) n s t (by omega) ht fun j hj=>by
    by_cases h:plc (M+1) s j=plc (M+1) t j
    ·exact h
    ·exact absurd ⟨j,hj,h⟩ hh
   omega
 ·have h1:=hp s j
  have h2:=hp t j;rw [← hM];show -(M:Int)≤(if j < n then _ else _)∧(if j < n then _ else _)≤(M:Int)
  split <;> omega
 ·have e:sumZ (fun j=>A i j*(if j < n then (plc (M+1) s j:Int)-plc (M+1) t j else 0)) n=sumZ (fun j=>A i j*(plc (M+1) s j:Int)-A i j*(plc (M+1) t j:Int)) n:=by
   have cg:∀ (a b:Nat→Int) (k:Nat),(∀ j,j < k→a j=b j)→sumZ a k=sumZ b k:=by
    intro a b k
    induction k with
    | zero=>intro _;rfl
    | succ k ih=>intro h;show sumZ a k+a k=sumZ b k+b k;rw [ih fun j hj=>h j (by omega),h k (by omega)]
   refine cg _ _ n fun j hj=>?_
   show A i j*(if j < n then _ else _)=_
   rw [if_pos hj,Int.mul_sub]
  show sumZ (fun j=>A i j*(if j < n then (plc (M+1) s j:Int)-plc (M+1) t j else 0)) n=0
  rw [e,sumZ_sub];have:=hi i him;show img s i-img t i=0
  omega
/-! ### What two polynomials have in common is a small combination of them -/
theorem cv_sumZ(a b:Nat→Int)(j:Nat):∀ m,cv a b m j=sumZ (fun i=>if i≤j then a i*b (j-i) else 0) m
 | 0=>rfl
 | m+1=>by show cv a b m j+_=sumZ _ m+_;rw [cv_sumZ a b j m]
theorem sumZ_more{a:Nat→Int}{n:Nat}(h:∀ i,n≤i→a i=0):∀ d,sumZ a (n+d)=sumZ a n
 | 0=>rfl
 | d+1=>by show sumZ a (n+d)+a (n+d)=_;rw [sumZ_more h d,h _ (by omega)];omega
theorem sumZ_eq{a:Nat→Int}{n m:Nat}(h:∀ i,n≤i→a i=0)(k:∀ i,m≤i→a i=0):sumZ a n=sumZ a m:=by
 rcases Nat.le_total n m with h1 | h1
 ·obtain ⟨d,rfl⟩:=Nat.exists_eq_add_of_le h1;exact (sumZ_more h d).symm
 ·obtain ⟨d,rfl⟩:=Nat.exists_eq_add_of_le h1;exact sumZ_more k d
theorem conv_sumZ{a b:Nat→Int}{n:Nat}(h:∀ i,n≤i→a i=0)(t:Nat):conv a b t=sumZ (fun i=>if i≤t then a i*b (t-i) else 0) n:=by
 unfold conv;rw [cv_sumZ];refine sumZ_eq (fun i hi=>if_neg (by omega)) (fun i hi=>?_);rw [h i hi];split <;> simp
theorem sumZ_cat{a:Nat→Int}(n:Nat):∀ m,sumZ a (n+m)=sumZ a n+sumZ (fun j=>a (n+j)) m
 | 0=>(Int.add_zero _).symm
 | m+1=>by show sumZ a (n+m)+a (n+m)=_+(sumZ _ m+a (n+m));rw [sumZ_cat n m];omega
theorem sumZ_cg{a b:Nat→Int}:∀ {k:Nat},(∀ j,j < k→a j=b j)→sumZ a k=sumZ b k
 | 0,_=>rfl
 | k+1,h=>by show sumZ a k+a k=sumZ b k+b k;rw [sumZ_cg fun j hj=>h j (by omega),h k (by omega)]
/-- A whole number that makes a primitive row whole. -/
theorem prim_int{γ:Nat→Int}{r:Nat}{κ:Rat}{W:Nat→Int}(hp:gcdN γ r=1)(h:∀ i,i < r→κ*(γ i:Rat)=(W i:Rat)):∃ z:Int,κ=(z:Rat):=by
 have h1:∀ n,n≤r→(κ.den∣gcdN γ n):=by
  intro n
  induction n with
  | zero=>intro _;exact Nat.dvd_zero _
  | succ n ih=>
   intro hn;refine Nat.dvd_gcd (ih (by omega)) ?_;have e:=h n (by omega);have hk:((κ.num*γ n:Int):Rat)=((W n*κ.den:Int):Rat):=by
    rw [Rat.intCast_mul,Rat.intCast_mul,← e];have h2:=mkR_div (x:=κ.num) (y:=(κ.den:Int)) (by have:=κ.den_pos;omega);rw [mkR_self] at h2;rw [← h2];grind
   have hz:κ.num*γ n=W n*κ.den:=by exact_mod_cast hk
   have hd:(κ.den:Int)∣κ.num*γ n:=⟨W n,by rw [hz,Int.mul_comm]⟩;have hd2:κ.den∣κ.num.natAbs*(γ n).natAbs:=by
    have:=Int.ofNat_dvd_left.1 hd;rwa [Int.natAbs_mul] at this
   exact Nat.Coprime.dvd_of_dvd_mul_left (Nat.Coprime.symm κ.reduced) hd2
 have h2:=h1 r (Nat.le_refl r);rw [hp] at h2;have h3:κ.den=1:=Nat.dvd_one.1 h2;exact ⟨κ.num,by
  have h4:=mkR_self κ;rw [h3] at h4;exact h4.symm.trans (mkR_int κ.num)⟩
/-- U F + V G2 = z G, and all is small. -/
theorem combine{c c' γ:Nat→Int}{d e r H:Nat}{k1 k2:Fn}(hc:∀ i,d < i→c i=0)(hc':∀ i,e < i→c' i=0)(hγ:∀ i,r < i→γ i=0)(hd:c d≠0)(he:c' e≠0)(hr:γ r≠0)(hprim:gcdN γ (r+1)=1) 
  (hH:1≤H) (bc:∀ i,-(H:Int)≤c i∧c i≤H) (bc':∀ i,-(H:Int)≤c' i∧c' i≤H) (pk1:Po k1) (pk2:Po k2) (h1:∀ x,pz c x (d+1)=k1 x*pz γ x (r+1)) (h2:∀ x,pz c' x (e+1)=k2 x*pz γ x (r+1)) (hcop:Cop k1 k2) (hrd:r≤d) (hre:r≤e) (hlt:r < d∨r < e):
  ∃ (U V:Nat→Int) (z:Int),z≠0∧(∀ j,e-r≤j→U j=0)∧(∀ j,d-r≤j→V j=0)∧(∀ j,-(((2*(d+e)*H)^(d+e):Nat):Int)≤U j∧U j≤(((2*(d+e)*H)^(d+e):Nat):Int))∧(∀ j,-(((2*(d+e)*H)^(d+e):Nat):Int)≤V j∧V j≤(((2*(d+e)*H)^(d+e):Nat):Int))∧
   ∀ x,pz U x (e-r)*pz c x (d+1)+pz V x (d-r)*pz c' x (e+1)=(z:Rat)*pz γ x (r+1):=by
 obtain ⟨n,hn⟩:∃ n,n=(e-r)+(d-r):=⟨_,rfl⟩
 obtain ⟨A,hA⟩:∃ A:Nat→Nat→Int,A=fun i j=>if j < e-r then (if j≤r+1+i then c (r+1+i-j) else 0) else (if j-(e-r)≤r+1+i then c' (r+1+i-(j-(e-r))) else 0):=⟨_,rfl⟩
 obtain ⟨x,⟨j0,hj0,hx0⟩,hxz,hxb,hxe⟩:=siegel (m:=n-1) (n:=n) (H:=H) A (by omega) hH (fun i j _ _=>by
  rw [hA];show _≤(if j < e-r then _ else _)∧(if j < e-r then _ else _)≤_
  split
  ·split
   ·exact bc _
   ·omega
  ·split
   ·exact bc' _
   ·omega)
 have hbig:(2*n*H)^(n-1)≤(2*(d+e)*H)^(d+e):=by
  have h3:2*n*H≤2*(d+e)*H:=Nat.mul_le_mul_right H (by omega);have h4:0 < 2*(d+e)*H:=Nat.mul_pos (by omega) hH;exact Nat.le_trans (Nat.pow_le_pow_left h3 _) (Nat.pow_le_pow_right h4 (by omega))
 obtain ⟨U,hU⟩:∃ U:Nat→Int,U=fun j=>if j < e-r then x j else 0:=⟨_,rfl⟩
 obtain ⟨V,hV⟩:∃ V:Nat→Int,V=fun j=>x (e-r+j):=⟨_,rfl⟩
 have Uz:∀ j,e-r≤j→U j=0:=fun j hj=>by rw [hU];exact if_neg (by omega)
 have Vz:∀ j,d-r≤j→V j=0:=fun j hj=>by rw [hV];exact hxz _ (by omega)
 have cz:∀ i,d+1≤i→c i=0:=fun i hi=>hc i (by omega)
 have cz':∀ i,e+1≤i→c' i=0:=fun i hi=>hc' i (by omega)
 have γz:∀ i,r+1≤i→γ i=0:=fun i hi=>hγ i (by omega)
 obtain ⟨W,hW⟩:∃ W:Nat→Int,W=fadd (conv U c) (conv V c'):=⟨_,rfl⟩
 have Wz:∀ t,r+1≤t→W t=0:=by
  intro t ht;rw [hW];show conv U c t+conv V c' t=0
  by_cases hbt:t < d+e-r
  ·have h3:=hxe (t-(r+1)) (by omega)
   rw [hn,sumZ_cat] at h3;rw [conv_sumZ Uz,conv_sumZ Vz];refine Eq.trans ?_ h3;congr 1
   ·refine sumZ_cg fun j hj=>?_
    rw [hA,hU];show _=(if j < e-r then _ else _)*x j
    rw [if_pos hj,show r+1+(t-(r+1))=t by omega];show (if j≤t then (if j < e-r then x j else 0)*c (t-j) else 0)=_
    rw [if_pos hj];split
    ·exact Int.mul_comm _ _
    ·simp
   ·refine sumZ_cg fun j hj=>?_
    have eA:A (t-(r+1)) (e-r+j)=if j≤t then c' (t-j) else 0:=by
     rw [hA];show (if e-r+j < e-r then _ else _)=_
     rw [if_neg (by omega),show r+1+(t-(r+1))=t by omega,show e-r+j-(e-r)=j by omega]
    have eV:V j=x (e-r+j):=by rw [hV]
    show (if j≤t then V j*c' (t-j) else 0)=A (t-(r+1)) (e-r+j)*x (e-r+j)
    rw [eA,eV];split
    ·exact Int.mul_comm _ _
    ·simp
  ·rw [conv_beyond (n:=e-r) (m:=d+1) Uz cz (by omega),conv_beyond (n:=d-r) (m:=e+1) Vz cz' (by omega)];rfl
 have hval:∀ q,pz W q (r+1)=pz U q (e-r)*pz c q (d+1)+pz V q (d-r)*pz c' q (e+1):=by
  intro q;have hz:∀ t,max (e-r+(d+1)) (d-r+(e+1))≤t→W t=0:=fun t ht=>Wz t (by omega)
  rw [pz_eq Wz hz];have z1:=conv_z0 Uz cz;have z2:=conv_z0 Vz cz';have e1:pz W q (max (e-r+(d+1)) (d-r+(e+1)))=pz (conv U c) q (max (e-r+(d+1)) (d-r+(e+1)))+pz (conv V c') q (max (e-r+(d+1)) (d-r+(e+1))):=by
   rw [hW];unfold pz;rw [← pe_add];refine pe_congr fun i _=>?_
   show ((conv U c i+conv V c' i:Int):Rat)=((conv U c i:Int):Rat)+((conv V c' i:Int):Rat)
   exact Rat.intCast_add _ _
  rw [e1,pz_conv Uz cz (fun i hi=>z1 i (by omega)),pz_conv Vz cz' (fun i hi=>z2 i (by omega))]
 have pU:Pl (e-r) (fun q=>pz U q (e-r)):=⟨rc U,rc_z Uz,fun _=>rfl⟩;have pV:Pl (d-r) (fun q=>pz V q (d-r)):=⟨rc V,rc_z Vz,fun _=>rfl⟩;have lG:Lc r (fun q=>pz γ q (r+1)) (γ r:Rat):=⟨rc γ,fun i hi=>by unfold rc;rw [hγ i hi];rfl,rfl,fun e=>hr (Rat.intCast_eq_zero_iff.1 e),fun _=>rfl⟩;have lF:Lc d (fun q=>pz c q (d+1)) (c d:Rat):=⟨rc c,fun i hi=>by unfold rc;rw [hc i hi];rfl,rfl,fun e=>hd (Rat.intCast_eq_zero_iff.1 e),fun _=>rfl⟩;have lF':Lc e (fun q=>pz c' q (e+1)) (c' e:Rat):=⟨rc c',fun i hi=>by unfold rc;rw [hc' i hi];rfl,rfl,fun e=>he (Rat.intCast_eq_zero_iff.1 e),fun _=>rfl⟩;have pK:Po (fun q=>pz U q (e-r)*k1 q+pz V q (d-r)*k2 q):=(pU.po.mul pk1).add (pV.po.mul pk2);have hKG:∀ q,(pz U q (e-r)*k1 q+pz V q (d-r)*k2 q)*pz γ q (r+1)=pz W q (r+1):=fun q=>by rw [hval,h1,h2];grind
 have hKne:∃ q,pz U q (e-r)*k1 q+pz V q (d-r)*k2 q≠0:=by
  by_cases hh:∃ q,pz U q (e-r)*k1 q+pz V q (d-r)*k2 q≠0
  ·exact hh
  ·exfalso
   have h0:∀ q,pz U q (e-r)*k1 q+pz V q (d-r)*k2 q=0:=fun q=>by
    by_cases h:pz U q (e-r)*k1 q+pz V q (d-r)*k2 q=0
    ·exact h
    ·exact absurd ⟨q,h⟩ hh
   obtain ⟨j2,b2,l2⟩:=po_deg pk2 (by obtain ⟨y,hy⟩:=lF'.ne;exact ⟨y,fun e0=>hy (by show pz c' y (e+1)=0;rw [h2,e0];grind)⟩);have hj2:=((l2.mul lG).congr fun q=>(h2 q).symm).uniq lF';have hdv:Dv k2 (fun q=>pz U q (e-r)):=by
    refine hcop.symm.dv pU.po ⟨fun q=> - pz V q (d-r),pV.po.neg,fun q=>?_⟩;have:=h0 q;show k1 q*pz U q (e-r)= - pz V q (d-r)*k2 q
    grind
   have hU0:∀ q,pz U q (e-r)=0:=by
    rcases pl_tri pU with h | ⟨k,a,hk,hl⟩
    ·exact h
    ·have:=hdv.deg l2 hl;omega
   have hV0:∀ q,pz V q (d-r)=0:=fun q=>po_cancel pk2 l2.ne pV.po (fun t=>by have:=h0 t;rw [hU0] at this;grind) q
   have u0:=pz_zero Uz (fun t=>hU0 _);have v0:=pz_zero Vz (fun t=>hV0 _);apply hx0
   by_cases hj:j0 < e-r
   ·have:=u0 j0;rw [hU] at this;rwa [show (fun j=>if j < e-r then x j else 0) j0=x j0 from if_pos hj] at this
   ·have h9:x (e-r+(j0-(e-r)))=0:=by have:=v0 (j0-(e-r));rw [hV] at this;exact this
    rwa [show e-r+(j0-(e-r))=j0 by omega] at h9
 obtain ⟨jk,κ,hK⟩:=po_deg pK hKne;have hW':=(hK.mul lG).congr hKG;have hjk:jk=0:=by
  rcases pl_tri (⟨rc W,rc_z Wz,fun _=>rfl⟩:Pl (r+1) (fun q=>pz W q (r+1))) with h | ⟨k,a,hk,hl⟩
  ·obtain ⟨y,hy⟩:=hW'.ne;exact absurd (h y) hy
  ·have:=hW'.uniq hl;omega
 subst hjk;have hκ:=lc_const hK;have hκ0:κ≠0:=hK.choose_spec.2.2.1;have hWγ:∀ i,κ*(γ i:Rat)=(W i:Rat):=by
  intro i;have:=pe_one (a:=fsclQ (rc γ) κ) (b:=rc W) (n:=r+1) (m:=r+1) (fsclQ_z (rc_z γz)) (rc_z Wz) (fun t=>by
   rw [pe_scl];have:=hKG t;rw [hκ] at this;show pz γ t (r+1)*κ=pz W t (r+1)
   rw [← this];grind) i
  rw [Rat.mul_comm];exact this
 obtain ⟨z,hz⟩:=prim_int hprim (fun i _=>hWγ i);refine ⟨U,V,z,fun h0=>hκ0 (by rw [hz,h0];rfl),Uz,Vz,fun j=>?_,fun j=>?_,fun q=>?_⟩
 ·rw [hU]
  have:=hxb j;show _≤(if j < e-r then x j else 0)∧(if j < e-r then x j else 0)≤_
  split <;> omega
 ·rw [hV]
  have:=hxb (e-r+j);show _≤x (e-r+j)∧x (e-r+j)≤_
  omega
 ·rw [← hval,← hKG,hκ,hz]
/-! ### Along an interval -/
theorem cells_ind{a b δ:Rat}(hδ:0 < δ)(hab:a≤b)(P:Rat→Prop)(h0:P a)(hs:∀ x y,a≤x→x < y→y≤b→y-x < δ→P x→P y):P b:=by
 obtain ⟨n,hn⟩:=ex_cells (r:=b-a) (d:=δ / 2) (by grind);have main:∀ n:Nat,∀ c,a≤c→c≤b→c-a≤(n:Rat)*(δ / 2)→P c:=by
  intro n
  induction n with
  | zero=>
   intro c h1 _ h2;have:c=a:=by have:((0:Nat):Rat)=0:=rfl;grind
   subst this;exact h0
  | succ n ih=>
   intro c h1 hcb h2;rw [nat_succ] at h2
   by_cases h3:c-a≤(n:Rat)*(δ / 2)
   ·exact ih c h1 hcb h3
   ·by_cases h4:c-δ / 2≤a
    ·by_cases h5:a=c
     ·subst h5;exact h0
     ·exact hs a c (by grind) (by grind) hcb (by grind) h0
    ·exact hs (c-δ / 2) c (by grind) (by grind) hcb (by grind) (ih (c-δ / 2) (by grind) (by grind) (by grind))
 exact main n b hab (by grind) hn
theorem ex_in(a b:Rat):∃ B,In B a∧In B b∧1≤B:=by
 refine ⟨(if a < 0 then -a else a)+(if b < 0 then -b else b)+1,?_,?_,?_⟩ <;> (try unfold In) <;> (try constructor) <;> (repeat' split) <;> grind
theorem In.btw{B a b t:Rat}(ha:In B a)(hb:In B b)(h1:a≤t)(h2:t≤b):In B t:=by unfold In at *;constructor <;> grind
/-- Far from 0 everywhere: one sign. -/
theorem far_sign{f:Fn}(pf:Po f){a b e:Rat}(hab:a≤b)(he:0 < e)(h:∀ t,a≤t→t≤b→Far (f t) e):sgq (f a)≠0∧∀ t,a≤t→t≤b→sgq (f t)=sgq (f a):=by
 obtain ⟨B,hBa,hBb,_⟩:=ex_in a b;obtain ⟨L,hL,hl⟩:=pf.lip B;obtain ⟨d,hd,hs⟩:=ex_small hL he;refine ⟨?_,fun t h1 h2=>?_⟩
 ·intro h0;rw [sgq_eq_zero] at h0
  have:=h a (by grind) hab;rw [h0] at this;rcases this with k | k <;> grind
 ·refine cells_ind hd h1 (fun c=>sgq (f c)=sgq (f a)) rfl fun x y hx hxy hy hlt ih=>?_
  have hxB:=hBa.btw hBb hx (by grind);have hyB:=hBa.btw hBb (t:=y) (by grind) (by grind);show sgq (f y)=sgq (f a)
  rw [← ih];exact (gd_of hl hL hxB hyB he (hs _ (by grind) hlt) (h x hx (by grind))).2.1 y (by grind) (by grind)
/-- Where there are roots f is as small as one likes. -/
theorem ex_near{f:Fn}(pf:Po f){a b:Rat}{N:Nat}(hab:a≤b)(h:Ctd f a b N)(hN:N≠0){e:Rat}(he:0 < e):∃ x,a≤x∧x≤b∧Ab (f x) e:=by
 by_cases hh:∃ x,a≤x∧x≤b∧Ab (f x) e
 ·exact hh
 ·exfalso
  have hf:∀ t,a≤t→t≤b→Far (f t) e:=fun t h1 h2=>by
   have:¬ Ab (f t) e:=fun h=>hh ⟨t,h1,h2,h⟩
   unfold Ab at this;unfold Far;grind
  obtain ⟨h0,h1⟩:=far_sign pf hab he hf;exact hN ((h.free pf hab).2 ⟨sgq (f a),h0,fun t k1 k2=>h1 t (by grind) k2⟩)
/-- Where there are two its derivative is. -/
theorem ex_near'{f f':Fn}(hd:Der f f')(pf:Po f)(pf':Po f'){a b:Rat}{N:Nat}(hab:a≤b)(h:Ctd f a b N)(hN:2≤N){e:Rat}(he:0 < e):∃ x,a≤x∧x≤b∧Ab (f' x) e:=by
 by_cases hh:∃ x,a≤x∧x≤b∧Ab (f' x) e
 ·exact hh
 ·exfalso
  have hf:∀ t,a≤t→t≤b→Far (f' t) e:=fun t h1 h2=>by
   have:¬ Ab (f' t) e:=fun h=>hh ⟨t,h1,h2,h⟩
   unfold Ab at this;unfold Far;grind
  obtain ⟨h0,h1⟩:=far_sign pf' hab he hf;obtain ⟨g,l,hst,hp⟩:=h;have:=hp.mon (sgq (f' a)) (sg_pm h0) fun t k1 k2=>by rw [hst.sg hd];exact h1 t k1 k2
  have:=hp.v;split at* <;> split at* <;> omega
/-- NO TWO ROOTS so near. -/
theorem sep_one{f f' U V:Fn}{z S L B a b:Rat}{N:Nat}(hd:Der f f')(pf:Po f)(pf':Po f')(hz:1≤z∨z≤-1)(hUV:∀ x,U x*f x+V x*f' x=z)(hU:∀ x,In B x→Ab (U x) S)(hV:∀ x,In B x→Ab (V x) S)(hL:Lip B f' L)(hL0:0≤L)(ha:In B a)(hb:In B b)(hab:a≤b)(hs:S*(L*(b-a)) < 1)(h:Ctd f a b N):N≤1:=by
 rcases Nat.lt_or_ge 1 N with hN | hN
 ·exfalso
  have hS:0≤S:=(hU a ha).nn;obtain ⟨e,he,hse⟩:=ex_small (L:=2*S) (m:=1-S*(L*(b-a))) (by grind) (by grind);have he2:=hse (e / 2) (by grind) (by grind);obtain ⟨x,hx1,hx2,hx⟩:=ex_near pf hab h (by omega) (show 0 < e / 2 by grind);obtain ⟨y,hy1,hy2,hy⟩:=ex_near' hd pf pf' hab h hN (show 0 < e / 2 by grind);have hxB:=ha.btw hb hx1 hx2;have hyB:=ha.btw hb hy1 hy2;have hfx:Ab (f' x) (e / 2+L*(b-a)):=by
   by_cases hxy:x≤y
   ·have h1:=hL.ab hxB hyB hxy
    have h2:L*(y-x)≤L*(b-a):=Rat.mul_le_mul_of_nonneg_left (by grind) hL0;unfold Ab at *;constructor <;> grind
   ·have h1:=hL.ab hyB hxB (by grind)
    have h2:L*(x-y)≤L*(b-a):=Rat.mul_le_mul_of_nonneg_left (by grind) hL0;unfold Ab at *;constructor <;> grind
  have h3:=((hU x hxB).mul hx).add ((hV x hxB).mul hfx);rw [hUV] at h3;unfold Ab at h3;rcases hz with hz | hz <;> grind
 ·exact hN
/-- One sign on a closed interval: far from 0 there. -/
theorem free_far{f g:Fn}{l:List Fn}(h:Stm f g l)(pf:Po f){a b:Rat}(hab:a≤b)(h0:sgq (f a)≠0)(hs:∀ t,a≤t→t≤b→sgq (f t)=sgq (f a)):∃ e,0 < e∧∀ t,a≤t→t≤b→Far (f t) e:=by
 obtain ⟨B,hBa,hBb,_⟩:=ex_in a b;obtain ⟨δ,hδ,_,hcell⟩:=stm_cell h B;obtain ⟨L,hL,hl⟩:=pf.lip B;have far:∀ x,sgq (f x)≠0→∃ e,0 < e∧Far (f x) e:=fun x hx=>by
  rcases sgq_cases (f x) with ⟨k,_⟩ | ⟨_,k⟩ | ⟨k,_⟩
  ·exact ⟨-(f x),by grind,Or.inr (by grind)⟩
  ·exact absurd k hx
  ·exact ⟨f x,k,Or.inl (by grind)⟩
 refine cells_ind hδ hab (fun c=>∃ e,0 < e∧∀ t,a≤t→t≤c→Far (f t) e) ?_ fun x y hx hxy hy hlt ih=>?_
 ·obtain ⟨e,he,hf⟩:=far a h0
  exact ⟨e, he, fun t h1 h2 => by have : t = a := by grind
                                  subst this; exact hf⟩
 ·obtain ⟨e,he,ih⟩:=ih
  have hxB:=hBa.btw hBb hx (by grind);have hyB:=hBa.btw hBb (t:=y) (by grind) hy;have key:∃ e',0 < e'∧∀ t,x≤t→t≤y→Far (f t) e':=by
   rcases hcell x y hxB hyB hxy hlt with ⟨⟨_,_,k0⟩,_⟩ | ⟨τ,hτ,_,hm,_⟩
   ·exact k0
   ·obtain ⟨e1,he1,hf1⟩:=far x (by rw [hs x hx (by grind)];exact h0)
    obtain ⟨e2,he2,hf2⟩:=far y (by rw [hs y (by grind) hy];exact h0);obtain ⟨e',he',h1,h2⟩:=ex_min he1 he2;refine ⟨e',he',fun t ht1 ht2=>?_⟩
    by_cases htx:t=x
    ·subst htx;rcases hf1 with k | k
     ·exact Or.inl (by grind)
     ·exact Or.inr (by grind)
    by_cases hty:t=y
    ·subst hty;rcases hf2 with k | k
     ·exact Or.inl (by grind)
     ·exact Or.inr (by grind)
    have m1:=hm x t (by grind) (by grind) ht2;have m2:=hm t y ht1 (by grind) (by grind);have sx:=hs x hx (by grind);have sy:=hs y (by grind) hy;have st:=hs t (by grind) (by grind);rcases sgq_cases (f t) with ⟨k,e⟩ | ⟨k,e⟩ | ⟨k,e⟩
    ·refine Or.inr ?_
     have kx:f x < 0:=by rcases sgq_cases (f x) with ⟨q,e'⟩ | ⟨q,e'⟩ | ⟨q,e'⟩ <;> first | exact q | omega
     have ky:f y < 0:=by rcases sgq_cases (f y) with ⟨q,e'⟩ | ⟨q,e'⟩ | ⟨q,e'⟩ <;> first | exact q | omega
     have a1:f x≤-e1:=by rcases hf1 with q | q <;> grind
     have a2:f y≤-e2:=by rcases hf2 with q | q <;> grind
     rcases hτ with rfl | rfl
     ·rcases sgq_cases (f y-f t) with ⟨q,e'⟩ | ⟨q,e'⟩ | ⟨q,e'⟩ <;> first | omega | grind
     ·rcases sgq_cases (f t-f x) with ⟨q,e'⟩ | ⟨q,e'⟩ | ⟨q,e'⟩ <;> first | omega | grind
    ·exact absurd (st.symm.trans e) h0
    ·refine Or.inl ?_
     have kx:0 < f x:=by rcases sgq_cases (f x) with ⟨q,e'⟩ | ⟨q,e'⟩ | ⟨q,e'⟩ <;> first | exact q | omega
     have ky:0 < f y:=by rcases sgq_cases (f y) with ⟨q,e'⟩ | ⟨q,e'⟩ | ⟨q,e'⟩ <;> first | exact q | omega
     have a1:e1≤f x:=by rcases hf1 with q | q <;> grind
     have a2:e2≤f y:=by rcases hf2 with q | q <;> grind
     rcases hτ with rfl | rfl
     ·rcases sgq_cases (f t-f x) with ⟨q,e'⟩ | ⟨q,e'⟩ | ⟨q,e'⟩ <;> first | omega | grind
     ·rcases sgq_cases (f y-f t) with ⟨q,e'⟩ | ⟨q,e'⟩ | ⟨q,e'⟩ <;> first | omega | grind
  obtain ⟨e',he',hk⟩:=key;obtain ⟨e2,he2,h1,h2⟩:=ex_min he he';refine ⟨e2,he2,fun t k1 k2=>?_⟩
  by_cases htx:t≤x
  ·rcases ih t k1 htx with k | k
   ·exact Or.inl (by grind)
   ·exact Or.inr (by grind)
  ·rcases hk t (by grind) k2 with k | k
   ·exact Or.inl (by grind)
   ·exact Or.inr (by grind)
/-! ### Divisors -/
theorem Cop.far{g w:Fn}(h:Cop g w)(B:Rat):∃ m,0 < m∧∀ x,In B x→Far (g x) m∨Far (w x) m:=by
 obtain ⟨u,v,pu,pv,huv⟩:=h;obtain ⟨M,hM,m1⟩:=pu.bd B;obtain ⟨N,hN,m2⟩:=pv.bd B;obtain ⟨m,hm,hs⟩:=ex_small (L:=M+N) (m:=1) (by grind) (by grind);refine ⟨m / 2,by grind,fun x hx=>?_⟩
 by_cases h1:Far (g x) (m / 2)
 ·exact Or.inl h1
 ·by_cases h2:Far (w x) (m / 2)
  ·exact Or.inr h2
  ·exfalso
   have a1:Ab (g x) (m / 2):=by unfold Far at h1;unfold Ab;constructor <;> grind
   have a2:Ab (w x) (m / 2):=by unfold Far at h2;unfold Ab;constructor <;> grind
   have a3:=((m1 x hx).mul a1).add ((m2 x hx).mul a2);have:=huv x;have a4:=hs (m / 2) (by grind) (by grind);unfold Ab at a3;grind
theorem Sqf.cop_of{f f' g g' w w':Fn}(h:Sqf f f')(pg:Po g)(pw:Po w)(pg':Po g')(pw':Po w')(dg:Der g g')(dw:Der w w')(hf:∀ x,f x=g x*w x):Cop g w:=by
 obtain ⟨u,v,pu,pv,huv⟩:=h.cop;have e:∀ x,f' x=g' x*w x+g x*w' x:=fun x=>(((dg.mul dw pg pw pg').congr (fun x=>(hf x).symm) (fun _=>rfl)).uniq h.der x).symm
 exact ⟨fun x=>u x*w x+v x*w' x,fun x=>v x*g' x,(pu.mul pw).add (pv.mul pw'),pv.mul pg',fun x=>by have h1:=huv x;rw [e,hf] at h1;grind⟩
theorem Sqf.dv{f f' g g' w:Fn}(h:Sqf f f')(pg:Po g)(pw:Po w)(pg':Po g')(dg:Der g g')(hf:∀ x,f x=g x*w x):Sqf g g':=by
 obtain ⟨w',pw',dw⟩:=pw.der;obtain ⟨u,v,pu,pv,huv⟩:=h.cop;have e:∀ x,f' x=g' x*w x+g x*w' x:=fun x=>(((dg.mul dw pg pw pg').congr (fun x=>(hf x).symm) (fun _=>rfl)).uniq h.der x).symm
 exact ⟨pg,pg',dg,fun x=>u x*w x+v x*w' x,fun x=>v x*w x,(pu.mul pw).add (pv.mul pw'),pv.mul pw,fun x=>by have h1:=huv x;rw [e,hf] at h1;grind⟩
/-- One sign close at hand. -/
theorem far_cell{f:Fn}(pf:Po f)(B:Rat){m:Rat}(hm:0 < m):∃ δ,0 < δ∧∀ x y,In B x→In B y→x < y→y-x < δ→Far (f x) m→Gd f x y:=by
 obtain ⟨L,hL,hl⟩:=pf.lip B;obtain ⟨d,hd,hs⟩:=ex_small hL hm;exact ⟨d,hd,fun x y hx hy hxy hlt hf=>gd_of hl hL hx hy hm (hs _ (by grind) hlt) hf⟩
/-- A divisor has no more roots. -/
theorem ctd_mono{f g w gg gf:Fn}{lg lf:List Fn}(pf:Po f)(pg:Po g)(pw:Po w)(sg:Stm g gg lg)(sf:Stm f gf lf)(hcop:Cop g w)(hf:∀ x,f x=g x*w x){a b:Rat}(hab:a≤b):∀ {K N:Nat},Ctd g a b K→Ctd f a b N→K≤N:=by
 obtain ⟨B,hBa,hBb,_⟩:=ex_in a b;obtain ⟨m,hm,hfar⟩:=hcop.far B;obtain ⟨δ1,hδ1,c1⟩:=far_cell pg B hm;obtain ⟨δ2,hδ2,c2⟩:=far_cell pw B hm;obtain ⟨δ3,hδ3,_,c3⟩:=stm_cell sg B;obtain ⟨δ4,hδ4,e1,e2⟩:=ex_min hδ1 hδ2;obtain ⟨δ,hδ,e3,e4⟩:=ex_min hδ4 hδ3;refine cells_ind hδ hab (fun c=>∀ {K N:Nat},Ctd g a c K→Ctd f a c N→K≤N) ?_ fun x y hx hxy hy hlt ih=>?_
 ·intro K N h1 h2
  have:K=0:=(h1.free pg (by grind)).2 ⟨1,by decide,fun t k1 k2=>by grind⟩;omega
 ·intro K N h1 h2
  obtain ⟨K1,K2,k1,k2,rfl⟩:=h1.split hx (by grind);obtain ⟨N1,N2,n1,n2,rfl⟩:=h2.split hx (by grind);have:=ih k1 n1;have hxB:=hBa.btw hBb hx (by grind);have hyB:=hBa.btw hBb (t:=y) (by grind) hy;have hK2:K2≤N2:=by
   obtain ⟨K',hK',kp⟩:=pab_cell hxy (c3 x y hxB hyB hxy (by grind));have e:K2=K':=Ctd.uniq pg (by grind) k2 ⟨gg,lg,sg,kp⟩;rcases hfar x hxB with h | h
   ·have hg:=c1 x y hxB hyB hxy (by grind) h
    have:K2=0:=(k2.free pg (by grind)).2 ⟨_,hg.1,fun t q1 q2=>hg.2.1 t (by grind) q2⟩;omega
   ·have hw:=c2 x y hxB hyB hxy (by grind) h
    by_cases hN:N2=0
    ·obtain ⟨s,hs,hst⟩:=(n2.free pf (by grind)).1 hN
     have:K2=0:=(k2.free pg (by grind)).2 ⟨s*sgq (w x),Int.mul_ne_zero hs hw.1,fun t q1 q2=>by
      have a1:=hst t q1 q2;rw [hf,sgq_mul,hw.2.1 t (by grind) q2] at a1;have a2:=sg_pm hw.1;rcases a2 with a2 | a2 <;> rw [a2] at a1 ⊢ <;> omega⟩
     omega
    ·omega
  omega
/-- Has it one? -/
theorem ctd_has{f f':Fn}{a b:Rat}{N:Nat}(hd:Der f f')(hab:a < b)(h:Ctd f a b N)(hN:N≤1):N=1↔(sgq (f b)=0∨sgq (f b)≠aft f f' a):=by
 obtain ⟨g,l,hs,hp⟩:=h;have e:∀ x,aft f g x=aft f f' x:=fun x=>by unfold aft;rw [hs.sg hd]
 constructor
 ·rintro rfl
  by_cases h0:sgq (f b)=0
  ·exact Or.inl h0
  ·right
   have h1:=hp.par;rw [aft_of h0,e] at h1;have h2:m1 1 (aft f f' a)= -(aft f f' a):=by unfold m1;simp
   rw [h2] at h1;rcases sg_pm h0 with h3 | h3 <;> omega
 ·intro h1
  rcases Nat.eq_zero_or_pos N with h0 | h0
  ·exfalso
   have h2:=hp.nil.1 h0 b hab (by grind);rw [e] at h2;rcases h1 with h1 | h1
   ·have h3:=hp.par
    subst h0;rw [e,e] at h3;rw [h1] at h2;have h4:aft f f' b=0:=by rw [h3];show m1 0 _=0;rw [← h2];rfl
    have h5:sgq (f' b)=0:=by rw [aft_of0 h1] at h4;exact h4
    obtain ⟨B,hB,_,_⟩:=ex_in b b;obtain ⟨δ,hδ,hne,_⟩:=stm_cell hs B;exact hne b hB (by rw [e];exact h4)
   ·exact h1 h2
  ·omega
/-- What divides a power is far from 0 where the base is. -/
theorem far_dv{p f h:Fn}{k:Nat}(ph:Po h)(e:∀ x,f x^k=h x*p x){a b m:Rat}(hm:0 < m)(hf:∀ t,a≤t→t≤b→Far (f t) m):∃ m',0 < m'∧∀ t,a≤t→t≤b→Far (p t) m':=by
 obtain ⟨B,hBa,hBb,_⟩:=ex_in a b;obtain ⟨M,hM,hb⟩:=ph.bd B;have hpos:0 < m^k:=by
  clear e hf
  induction k with
  | zero=>rw [Rat.pow_zero];grind
  | succ k ih=>rw [Rat.pow_succ];exact Rat.mul_pos ih hm
 have hpow:∀ t,a≤t→t≤b→Far (f t^k) (m^k):=by
  intro t h1 h2;have:=hf t h1 h2;clear e hf hpos
  induction k with
  | zero=>rw [Rat.pow_zero,Rat.pow_zero];exact Or.inl (by grind)
  | succ k ih=>
   rw [Rat.pow_succ,Rat.pow_succ];have hp0:0 < m^k:=by
    clear ih
    induction k with
    | zero=>rw [Rat.pow_zero];grind
    | succ k ih=>rw [Rat.pow_succ];exact Rat.mul_pos ih hm
   generalize f t^k=y at *
   generalize m^k=z at *
   generalize f t=x at *
   have c1:∀ u v:Rat,z≤u→m≤v→z*m≤u*v:=fun u v h1 h2=>by
    have a1:=Rat.mul_le_mul_of_nonneg_left h2 (show 0≤z by grind);have a2:=Rat.mul_le_mul_of_nonneg_right h1 (show 0≤v by grind);grind
   rcases ih with i | i <;> rcases this with j | j
   ·exact Or.inl (c1 _ _ i j)
   ·exact Or.inr (by have:=c1 y (-x) i (by grind);grind)
   ·exact Or.inr (by have:=c1 (-y) x (by grind) j;grind)
   ·exact Or.inl (by have:=c1 (-y) (-x) (by grind) (by grind);grind)
 obtain ⟨m',hm',hs⟩:=ex_small (L:=M) (m:=m^k) hM hpos;refine ⟨m' / 2,by grind,fun t h1 h2=>?_⟩
 by_cases hfar:Far (p t) (m' / 2)
 ·exact hfar
 ·exfalso
  have a1:Ab (p t) (m' / 2):=by unfold Far at hfar;unfold Ab;constructor <;> grind
  have a2:=(hb t (hBa.btw hBb h1 h2)).mul a1;rw [← e] at a2;have a3:=hs (m' / 2) (by grind) (by grind);have a4:=hpow t h1 h2;unfold Ab at a2;rcases a4 with a4 | a4 <;> grind
end Go.Proofs.YthccmbncplakjaaGreat
