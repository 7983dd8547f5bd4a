/-
  What the proof of AlgRationals asks for besides: joined, short spelling. No condition.
-/
import Derived.Test.YthccmbncplakjaaGreatJ5
set_option linter.unusedVariables false
set_option linter.unusedSimpArgs false
set_option maxRecDepth 100000
set_option maxHeartbeats 4000000
namespace Go.Proofs.YthccmbncplakjaaGreat
open Go.RowKit
namespace Am
end Am
section
open Go.RowKit Am
end
section
open Go.RowKit Am
end
/-! ### Rows cut: noughts on top are taken away -/
/-! ### Sums, products -/
theorem aAbs{a:List Lf}{K:Nat}{x:Int}(ha:IsZ a K x)(hK:K≤1073741824:=by decide):ACall Tryz.prog 110 [.agg a] (.d (.agg (zn K (x.natAbs:Int)))):=by
 obtain ⟨s,xs,ha,rfl⟩:=ha;exact ACall.le (dl (DV.z ha) dl0) AV.le.rfl<|aN 7 [.cell 2 42] Tryz.func110 rfl<|cR<|mO rfl<|mO rfl<|mT<|cR<|mv2 rfl rfl<|mY (aLNorm (islv K xs)) rfl<|mY (aMade rfl) rfl<|mZ rfl<|mT<|cRet<|rQ rfl (le_zn (Nat.le_refl _) (by rw [zv_abs];rfl))
/-! ### A region that draws, order by order -/
theorem floor_q(q:Rat):q.num / (q.den:Int)=q.floor:=(Rat.floor_def q).symm
theorem floor_le'(q:Rat):((q.num / (q.den:Int):Int):Rat)≤q:=by rw [floor_q];exact Rat.floor_le q
theorem floor_gt'(q:Rat):q < ((q.num / (q.den:Int):Int):Rat)+1:=by
 rw [floor_q];have:=Rat.lt_floor (x:=q);grind
theorem aTInt{a:List Lf}{K M:Nat}{x:Int}(ha:IsZ a K x)(hM:max K 2≤M:=by decide)(hMM:M≤100000000:=by decide):ACall Tryz.prog 113 [.agg a] (.d (.agg (tn M (x:Rat)))):=by
 obtain ⟨sa,xa,ha,ea⟩:=ha;exact ACall.le (dl (DV.z ha) dl0) AV.le.rfl<|aN 7 [.cell 2 44] Tryz.func113 rfl<|cR<|mO rfl<|mO rfl<|mT<|cR<|mW rfl<|mY (aNorm ⟨sa,xa,fun _ _ _ h=>h,ea⟩ (by omega)) rfl<|mY aOf rfl<|mW rfl<|mZ rfl<|mT<|cRet<|rQ rfl (le_tn2 (by omega) (by omega) (Rat.num_intCast x).symm (by rw [Rat.den_intCast];rfl))
theorem aTMul{a b:List Lf}{K L M:Nat}{n d m e:Int}(ha:IsT a K n d)(hb:IsT b L m e)(hM:(max K 2+1)+(max L 2+1)+2≤M:=by decide)(hMM:M≤100000000:=by decide):ACall Tryz.prog 112 [.agg a,.agg b] (.d (.agg (tn M ((mkR n d)*(mkR m e))))):=by
 obtain ⟨s0,xs0,t0,ys0,ha,e0,k0⟩:=ha;obtain ⟨s1,xs1,t1,ys1,hb,e1,k1⟩:=hb;exact ACall.le (dl (DV.g ha) (dl (DV.g hb) dl0)) AV.le.rfl<|aN 20 [.cell 4 44] Tryz.func112 rfl<|cR<|mO rfl<|mO rfl<|mO rfl<|mT<|cSeq<|cDk 4<|oV rfl<|oC (aTNorm (⟨s0,xs0,t0,ys0,fun _ _ _ h=>h,e0,k0⟩:IsT ([.v (.bool s0),lr K xs0] ++ [.v (.bool t0),lr K ys0]) K n d) (M:=(max K 2+1))) rfl<|oV rfl<|oC (aTNorm (⟨s1,xs1,t1,ys1,fun _ _ _ h=>h,e1,k1⟩:IsT ([.v (.bool s1),lr L xs1] ++ [.v (.bool t1),lr L ys1]) L m e) (M:=(max L 2+1))) rfl<|.nil<|mZ rfl<|mZ rfl<|mT<|cSeq<|cDk 11<|oV rfl<|oV rfl<|oV rfl<|oV rfl<|oC (aMul (isz (max K 2+1) (Rat.num (mkR n d))) (isz (max L 2+1) (Rat.num (mkR m e))) (M:=((max K 2+1)+(max L 2+1)))) rfl<|oV rfl<|oV rfl<|oV rfl<|oV rfl<|oC (aMul (isz (max K 2+1) (Rat.den (mkR n d):Int)) (isz (max L 2+1) (Rat.den (mkR m e):Int)) (M:=((max K 2+1)+(max L 2+1)))) rfl<|oC (aTLow (isz ((max K 2+1)+(max L 2+1)) ((Rat.num (mkR n d))*(Rat.num (mkR m e)))) (isz ((max K 2+1)+(max L 2+1)) ((Rat.den (mkR n d):Int)*(Rat.den (mkR m e):Int))) (mkR_nz (mkR n d) (mkR m e)) (M:=(max (max ((max K 2+1)+(max L 2+1)) ((max K 2+1)+(max L 2+1))) 1+1))) rfl<|.nil<|mZ rfl<|mT<|cRet<|rQ rfl (le_tn (by omega) ((mkR_ne (mkR_nz _ _)).symm.trans (mkR_mul (mkR n d) (mkR m e))))
section
open Go.RowKit Go.ChangeShapes Go.WideShapes
end
section
open Go.RowKit Go.ChangeShapes Go.WideShapes
end
section
open Go.RowKit Go.ChangeShapes Go.WideShapes
end
/-
 RATIONALS of the program, by the machine (3).
-/
theorem aTFloor{a:List Lf}{K M:Nat}{n d:Int}(ha:IsT a K n d)(hM:max K 2+2≤M:=by decide)(hMM:M≤100000000:=by decide):ACall Tryz.prog 114 [.agg a] (.d (.agg (zn M (Rat.num (mkR n d) / (Rat.den (mkR n d):Int))))):=by
 obtain ⟨s0,xs0,t0,ys0,ha,e0,k0⟩:=ha;exact ACall.le (dl (DV.g ha) dl0) AV.le.rfl<|aN 18 [.cell 2 42] Tryz.func114 rfl<|cR<|mO rfl<|mO rfl<|mT<|cR<|mW rfl<|mY (aTNorm (⟨s0,xs0,t0,ys0,fun _ _ _ h=>h,e0,k0⟩:IsT ([.v (.bool s0),lr K xs0] ++ [.v (.bool t0),lr K ys0]) K n d) (M:=(max K 2+1))) rfl<|mZ rfl<|mT<|cR<|mv4 rfl rfl rfl rfl<|mY (aDivMod (isz (max K 2+1) (Rat.num (mkR n d))) (isz (max K 2+1) (Rat.den (mkR n d):Int)) (den_ne (mkR n d)) (M:=(max (max K 2+1) 1+1))) rfl<|mv4 rfl rfl rfl rfl<|mO rfl<|mO rfl<|mZ rfl<|mZ rfl<|mW rfl<|mT<|cR<|mW rfl<|mZ rfl<|mT<|cRet<|rQ rfl (le_zn (by omega) rfl)
instance {lo hi p q:Rat}:Decidable (bel lo hi p q):=inferInstanceAs (Decidable (_∧_))
theorem aAOf{K:Nat}{t:Rat}(hK:K≤1000000):ACall Tryz.prog 27 [.agg (tn K t)] (.d (.agg ([.row 2 (lg (lnP t)) (zel K (lnP t))] ++tn K t ++tn K t))):=by
 exact aN 15 [.cell 2 46] Tryz.func27 rfl<|cR<|mO rfl<|mO rfl<|mT<|cR<|mW rfl<|mY aMaxN rfl<|mZ rfl<|mT<|cSeq<|cDk 10<|oV rfl<|oV rfl<|oC (aNeg (isz K (Rat.num t))) rfl<|oV rfl<|oV rfl<|.cons (OpS.B _ rfl)<|oV rfl<|oV rfl<|oC aMaxN rfl<|oV rfl<|.nil<|mZ rfl<|mT<|cRet<|rQ rfl (al_row ln_row)
theorem lnP_lc(t:Rat):Lc 1 (FF (lnP t)) (lnP t 1:Rat):=by
 have h:=FF_lc (lnP_z t) (by rw [lnP_lg];decide);rwa [lnP_lg] at h
/-- A rational root's denominator divides the lead. -/
theorem rat_root{c:Nat→Int}{s:Rat}(zc:z20 c)(h0:lg c≠0)(hr:FF c s=0):∃ z:Int,c (lg c-1)=z*(s.den:Int):=by
 obtain ⟨q,r,pq,⟨k,hk,er⟩,e⟩:=po_div (lnP_lc s) 20 (FF c) ⟨rc c,rc_z zc,fun _=>rfl⟩;have hconst:∀ x,r x=r s:=fun x=>by
  rw [er x,er s];show 0+k 0*x^0=0+k 0*s^0
  rw [Rat.pow_zero,Rat.pow_zero]
 have hrs:r s=0:=by
  have:=e s;rw [hr,lnP_root] at this;grind
 have hFc:∀ x,FF c x=q x*FF (lnP s) x:=fun x=>by rw [e x,hconst x,hrs];grind
 obtain ⟨w,n,hw,hc,hq⟩:=exact_row (a:=c) (b:=lnP s) (n:=lg c) (m:=2) (W:=q) zc.lg (lnP_z2 s) (lnP_pm s) pq (fun x=>by
  rw [FF_lg zc,FF_pf (lnP_z2 s) (lnP_z s)];exact hFc x)
 have zw:=quo20 (lnP_z s) zc (by rw [lnP_lg];decide) hw hc;have hqw:∀ x,FF w x=q x:=fun x=>by rw [← FF_pz zw hw];exact hq x
 have hw0:lg w≠0:=fun h=>by
  obtain ⟨x,hx⟩:=FF_nz zc h0;apply hx;rw [hFc x,← hqw x,(FF_zero zw).1 h x,Rat.zero_mul]
 have h3:=conv_top zw.lg (lnP_z2 s) hw0 (by decide);rw [hc] at h3;have h4:lg c=lg w+1:=by
  have e1:∀ x,FF c x=FF w x*FF (lnP s) x:=fun x=>by rw [hqw x];exact hFc x
  have h5:=((FF_lc zw hw0).mul (lnP_lc s)).congr fun x=>(e1 x).symm
  have:=(h5.uniq (FF_lc zc h0)).1;omega
 refine ⟨w (lg w-1),?_⟩;rw [h4,show lg w+1-1=lg w+2-2 by omega,h3];rfl
noncomputable def rg(c:Nat→Int)(l:Rat):Nat→Rat→Rat→Rat×Rat
 | 0,lo,hi=>(lo,hi)
 | n+1,lo,hi=>if hi≤lo∨¬ 1≤(hi-lo)*l then (lo,hi) else rg c l n (hlf c lo hi).1 (hlf c lo hi).2
theorem rg_ok{c:Nat→Int}{l:Rat}(hl:0 < l):∀ (n:Nat) {lo hi:Rat},OkA c lo hi→(hi-lo)*l < t2 n→Nar c lo hi (rg c l n lo hi).1 (rg c l n lo hi).2∧((rg c l n lo hi).2≤(rg c l n lo hi).1∨((rg c l n lo hi).2-(rg c l n lo hi).1)*l < 1)
 | 0,lo,hi,h,k=>⟨Nar.refl h,Or.inr k⟩
 | n+1,lo,hi,h,k=>by
  unfold rg
  by_cases hs:hi≤lo∨¬ 1≤(hi-lo)*l
  ·rw [if_pos hs]
   refine ⟨Nar.refl h,?_⟩;rcases hs with a | a
   ·exact Or.inl a
   ·right;show (hi-lo)*l < 1;grind
  ·rw [if_neg hs]
   obtain ⟨a,b⟩:=hlf_nar h;have b':=b (by grind);rw [t2_add] at k;have e1:t2 1=2:=rfl;rw [e1] at k;have h3:=Rat.mul_le_mul_of_nonneg_right b' (show 0≤l by grind);obtain ⟨d,e⟩:=rg_ok hl n a.ok (by grind);exact ⟨a.trans d,e⟩
structure RgI(c:Nat→Int)(l:Rat)(L J f:Nat)(lo hi p q:Rat):Prop where
 ok:OkA c p q
 fl:f≤J
 w:(q-p)*l < t2 f
 d:Dz L (J-f) p q
 e:rg c l f p q=rg c l J lo hi
theorem RgI.start{c:Nat→Int}{l lo hi:Rat}{L J:Nat}(h:OkA c lo hi)(h1:Tb L lo)(h2:Tb L hi)(k:(hi-lo)*l < t2 J):RgI c l L J J lo hi lo hi:=⟨h,Nat.le_refl _,k,by rw [Nat.sub_self];exact dz_start h1 h2,rfl⟩
theorem RgI.stop{c:Nat→Int}{l lo hi p q:Rat}{L J f:Nat}(h:RgI c l L J f lo hi p q)(hs:q≤p∨¬ 1≤(q-p)*l):rg c l J lo hi=(p,q):=by
 rw [← h.e];cases f with
 | zero=>rfl
 | succ f=>exact if_pos hs
theorem RgI.go{c:Nat→Int}{l lo hi p q:Rat}{L J f:Nat}(h:RgI c l L J f lo hi p q)(hl:0 < l)(h1:¬ q≤p)(h2:1≤(q-p)*l):∃ f',f=f'+1∧RgI c l L J f' lo hi (hlf c p q).1 (hlf c p q).2:=by
 cases f with
 | zero=>exfalso;have:=h.w;have e:t2 0=1:=rfl;rw [e] at this;grind
 | succ f=>
  refine ⟨f,rfl,?_⟩;obtain ⟨a,b⟩:=hlf_nar h.ok;have b':=b (by grind);have hw:=h.w;have hf:=h.fl;rw [t2_add] at hw;have e1:t2 1=2:=rfl;rw [e1] at hw;have h3:=Rat.mul_le_mul_of_nonneg_right b' (show 0≤l by grind);have hd:=h.d.hlf (c:=c);rw [show J-(f+1)+1=J-f by omega] at hd;exact ⟨a.ok,by omega,by grind,hd,by rw [← h.e];exact (if_neg (by rintro (k | k);exact h1 k;exact k h2)).symm⟩
/-- The one that it may be. -/
theorem rat_fin{c:Nat→Int}{a b:Rat}{F:Int}(o:OkV c a b)(hab:a < b)(hw:(b-a)*((c (lg c-1)).natAbs:Rat) < 1)(hF1:(F:Rat)≤b*((c (lg c-1)).natAbs:Rat))(hF2:b*((c (lg c-1)).natAbs:Rat) < (F:Rat)+1){t:Rat}(ht:t*((c (lg c-1)).natAbs:Rat)=(F:Rat)):
  (a < t→FF c t=0→∀ q,cutA c a b q↔cutP t q)∧∀ s,(∀ q,cutA c a b q↔cutP s q)→t=s∧a < t∧FF c t=0:=by
 have hlc:c (lg c-1)≠0:=lg_ne (by have:=o.l2;omega);obtain ⟨l,hl⟩:∃ l:Rat,l=((c (lg c-1)).natAbs:Rat):=⟨_,rfl⟩
 rw [← hl] at hw hF1 hF2 ht;have hl0:0 < l:=by rw [hl];exact_mod_cast (by omega:0 < (c (lg c-1)).natAbs)
 have oi:=o.ok.i hab;refine ⟨fun h1 h2 q=>?_,fun s hs=>?_⟩
 ·rw [cutA_I hab]
  refine cutI_root oi h1 ?_ h2 q;apply Classical.byContradiction;intro hn;have:=Rat.mul_le_mul_of_nonneg_right (show b≤t by grind) (show 0≤l by grind);have h3:=Rat.mul_pos (show 0 < t-b by grind) hl0;grind
 ·have has:a < s:=(hs a).1 (by rw [cutA_I hab];exact Or.inl (by grind))
  have hsb:s≤b:=by
   apply Classical.byContradiction;intro hn;exact o.ok.above (q:=b) (by grind) ((hs b).2 (by show b < s;grind))
  have h0:FF c s=0:=by
   have h1:=sgC_zero (o.vc.cut (D:=cutP s) fun q=>(hs q).symm);rw [sgC_P (FF_po o.ok.z)] at h1;exact sgq_eq_zero.1 h1
  obtain ⟨z,hz⟩:=rat_root o.ok.z (by have:=o.l2;omega) h0;have hm:∃ m:Int,s*l=(m:Rat):=by
   refine ⟨s.num*(z.natAbs:Int),?_⟩;have e:(c (lg c-1)).natAbs=z.natAbs*s.den:=by rw [hz,Int.natAbs_mul,Int.natAbs_natCast]
   rw [hl,e,Rat.natCast_mul,Rat.intCast_mul];have:=q_mul_den s;have e2:(((z.natAbs:Nat):Int):Rat)=(z.natAbs:Rat):=rfl;rw [e2,← this];grind
  obtain ⟨m,hm⟩:=hm;have h1:(m:Rat)≤b*l:=by rw [← hm];exact Rat.mul_le_mul_of_nonneg_right hsb (by grind)
  have h2:b*l < (m:Rat)+1:=by
   rw [← hm];have:=Rat.mul_pos (show 0 < s-a by grind) hl0;grind
  have h3:m=F:=by
   have a1:(m:Rat) < ((F+1:Int):Rat):=by rw [Rat.intCast_add];have:((1:Int):Rat)=1:=rfl;rw [this];grind
   have a2:(F:Rat) < ((m+1:Int):Rat):=by rw [Rat.intCast_add];have:((1:Int):Rat)=1:=rfl;rw [this];grind
   have b1:m < F+1:=by exact_mod_cast a1
   have b2:F < m+1:=by exact_mod_cast a2
   omega
  have hts:t=s:=by
   have h4:(t-s)*l=0:=by rw [← h3,← hm] at ht;grind
   rcases Rat.mul_eq_zero.1 h4 with h | h
   ·grind
   ·grind
  rw [hts];exact ⟨rfl,has,h0⟩
theorem aMulN{K L:Nat}{p q:Rat}(hK:K≤1000000)(hL:L≤1000000):ACall Tryz.prog 112 [.agg (tn K p),.agg (tn L q)] (.d (.agg (tn (max K 2+1+(max L 2+1)+2) (p*q)))):=by
 have h:=aTMul (ist_tn K p) (ist_tn L q) (Nat.le_refl _) (by omega);rwa [mkR_self,mkR_self] at h
theorem aFloorN{K:Nat}{p:Rat}(hK:K≤10000000):ACall Tryz.prog 114 [.agg (tn K p)] (.d (.agg (zn (max K 2+2) (p.num / (p.den:Int))))):=by
 have h:=aTFloor (ist_tn K p) (Nat.le_refl _) (by omega);rwa [mkR_self] at h
theorem rg_wide{K L J i:Nat}{c:Nat→Int}{lo hi:Rat}(hb:Lb K c)(h:Tb L lo)(k:Tb L hi)(hJ:32*L+32*K+1≤J):(hi-lo)*(((c i).natAbs:Int):Rat) < t2 J:=by
 have h1:=tb_wide h k;have e:((2^(32*L+1):Nat):Rat)=t2 (32*L+1):=rfl;rw [e] at h1;have h2:(((c i).natAbs:Int):Rat) < t2 (32*K):=by
  have h3:=hb i;have h4:(c i).natAbs < 2^(32*K):=by rw [Nat.pow_mul];exact h3
  have h5:(((c i).natAbs:Nat):Rat) < ((2^(32*K):Nat):Rat):=by exact_mod_cast h4
  exact h5
 have h0:(0:Rat)≤(((c i).natAbs:Int):Rat):=nat_nn _;have hp:=t2_pos (32*L+1);have a1:(hi-lo)*(((c i).natAbs:Int):Rat)≤t2 (32*L+1)*(((c i).natAbs:Int):Rat):=Rat.mul_le_mul_of_nonneg_right h1 h0;have a2:=Rat.mul_pos hp (show 0 < t2 (32*K)-(((c i).natAbs:Int):Rat) by grind);have a3:t2 (32*L+1)*t2 (32*K)≤t2 J:=by rw [← t2_add];exact t2_mono (by omega)
 grind
theorem cutP_inj{s t:Rat}(h:∀ q,cutP s q↔cutP t q):s=t:=by
 apply Classical.byContradiction;intro hn
 rcases (show s < t∨t < s by grind) with k | k
 ·have:=(h s).2 k;unfold cutP at this;grind
 ·have:=(h t).1 k;unfold cutP at this;grind
theorem div_mul{F D:Int}(h:D≠0):Rat.divInt F D*((D:Int):Rat)=(F:Rat):=by
 rw [Rat.divInt_eq_div];have:((D:Int):Rat)≠0:=rc_ne h;grind
theorem aARat1{K L J X M:Nat}{c:Nat→Int}{lo hi s:Rat}(oa:OkV c lo hi)(hlt:¬ hi≤lo)(hJ:32*L+32*K+1≤J)(hX:3*L+J / 32+1≤X)(hX1:X≤100000)(hK:K≤100000)(hrt:∀ r,cutA c lo hi r↔cutP s r)(hM:2*X+2*K+30≤M):ACall Tryz.prog 47 [.agg ([.row 2 (lg c) (zel K c)] ++tn L lo ++tn L hi)] (.tup [.agg (tn M s),.one (.v (.bool true))]):=by
 have hlc:=lg_le c;have hd:dg c (lg c)=lg c:=lg_dg oa.ok.z.lg oa.ok.z;have hc2:=oa.l2;have hlead:c (lg c-1)≠0:=lg_ne (by omega);have hl0:(0:Rat) < (((Int.natAbs (c (lg c-1)):Int):Int):Rat):=by exact_mod_cast (by omega:(0:Int) < (Int.natAbs (c (lg c-1)):Int))
 refine ACall.fact10 (enters Tryz.func47 rfl rfl) (p:=Lb K c∧Tb L lo∧Tb L hi) (fun B w vs h=>match vs,h with | [_],⟨⟨cs,_,hl⟩,_⟩=>al_bd oa.ok.z hl) (fun hb=>?_);refine aN 72 [.cell 2 44,.tmp 3] Tryz.func47 rfl<|cR<|mO rfl<|mO rfl<|mW rfl<|mT<|cR<|mW rfl<|mY (aANorm oa.ok.z) rfl<|mZ rfl<|mT<|cSeq<|cR<|mW rfl<|mY aPoint rfl<|mT<|cCond rfl (fun hc1=>?_) (fun hc1=>?_)
 ·exact cSeq<|absurd (of_decide_eq_true hc1) hlt
 ·refine cSkip<|tN<|cR<|mv2 rfl rfl<|mY (aPLead (isp (K:=K) (c:=c) (z20.lg oa.ok.z))) rfl<|mY (aAbs (isz K (c (dg c (lg c)-1))) (by omega)) rfl<|mO rfl<|mZ rfl<|mT<|cSeq<|cBlock<|wB [4,16,15,14,13,10,9,8,7,3,2,1,0] [2,1] 4 (.box 42 (zn K (Int.natAbs (c (lg c-1)):Int))) rfl rfl (leo_zn (Nat.le_refl _) (by rw [hd])) rfl<|cLoop (ι:=Nat×Rat×Rat) (fun (p:Nat×Rat×Rat)=>match p with | (f,p,q)=>⟨72,[(1,.ptr 1 0),(2,.ptr 2 0),(3,.d (.one (.v (.bool false)))),(4,.ptr 4 0)],[(1,.box 46 ([.row 2 (lg c) (zel K c)] ++tn X p ++tn X q)),(2,.box 44 ([.v (.bool false),.v (.slice none 0 0),.v (.bool false),.v (.slice none 0 0)])),(4,.box 42 (zn K (Int.natAbs (c (lg c-1)):Int)))]⟩) (fun (p:Nat×Rat×Rat)=>match p with | (f,p,q)=>RgI c (((Int.natAbs (c (lg c-1)):Int):Int):Rat) L J f lo hi p q) (fun (p:Nat×Rat×Rat)=>match p with | (f,p,q)=>f) (J,lo,hi) (.start oa.ok hb.2.1 hb.2.2 (rg_wide hb.1 hb.2.1 hb.2.2 hJ)) (wk rfl ⟨hs rfl,hs rfl,hs rfl,hs rfl,trivial⟩ ⟨ho' rfl (al_leo (tb_mono hb.2.1 (by omega)) (tb_mono hb.2.2 (by omega))),ho rfl,ho rfl,trivial⟩ rfl) ?_;rintro ⟨f,p,q⟩ hI;have hI:RgI c (((Int.natAbs (c (lg c-1)):Int):Int):Rat) L J f lo hi p q:=hI;show AW _ _ _ ⟨_,_,_⟩
  refine cSeq<|cSeq ?_
  by_cases hp:q≤p
  ·refine cDk 17<|oV rfl<|oC aPoint rfl<|oF rfl (by rw [decide_eq_true hp];rfl)<|.cons (OpS.V _ rfl)<|.cons (OpS.G rfl rfl)<|.cons (OpS.G rfl rfl)<|.cons (OpS.G rfl rfl)<|.cons (OpS.G rfl rfl)<|.cons (OpS.G rfl rfl)<|.cons (OpS.G rfl rfl)<|.cons (OpS.G rfl rfl)<|.cons (OpS.G rfl rfl)<|.cons (OpS.G rfl rfl)<|.cons (OpS.G rfl rfl)<|.cons (OpS.G rfl rfl)<|.cons (OpS.G rfl rfl)<|.cons (OpS.V _ rfl)<|.nil<|mT<|cF rfl<|cExit<|tE<|tE<|bE<|tN<|cSeq<|cSeq ?_;have hst:=hI.stop (Or.inl hp);have hnr:=rg_ok hl0 J oa.ok (rg_wide hb.1 hb.2.1 hb.2.2 hJ);rw [hst] at hnr;have hna:Nar c lo hi p q:=hnr.1;refine cReg<|mW rfl<|mY aPoint rfl<|mT<|cCond rfl (fun hc2=>?_) (fun hc2=>?_)
   ·exact cR<|mv2 rfl rfl<|mZ rfl<|mW rfl<|mT<|cRet<|tR<|rQ rfl (by have e0:=cutP_inj (s:=p) (t:=s) (fun r=>by have h1:=hna.cut r;rw [cutA_P hp] at h1;exact h1.trans (hrt r));rw [e0];exact le_tup (dl (dle (le_agg (tn_mono (by omega)))) (dl DV.same dl0)))
   ·exact cSkip<|tN<|cSeq<|absurd hp (of_decide_eq_false hc2)
  ·by_cases hw:((1:Int):Rat)≤(q-p)*(((Int.natAbs (c (lg c-1)):Int):Int):Rat)
   ·refine cDk 17<|oV rfl<|oC aPoint rfl<|oT rfl (by rw [decide_eq_false hp];rfl)<|.cons (OpS.V _ rfl)<|oV rfl<|oV rfl<|oV rfl<|oV rfl<|oC aSubN rfl<|oV rfl<|oC (aTInt (isz K (Int.natAbs (c (lg c-1)):Int)) (M:=(max K 2)) (Nat.le_refl _) (by omega)) rfl<|oC (aMulN (by omega) (by omega)) rfl<|oC aOf rfl<|oC (aTInt (isz 2 1) (M:=(max 2 2)) (Nat.le_refl _) (by omega)) rfl<|oC aCmpN rfl<|oTd rfl (cmpQ_ge.2 hw)<|.cons (OpS.V _ rfl)<|.nil<|mT<|cT rfl<|cSkip<|tN<|cBlock<|cSeq<|cR<|mW rfl<|mY (aZero (isn K (Int.natAbs (c (lg c-1)):Int))) rfl<|mT<|cCond rfl (fun hc3=>?_) (fun hc3=>?_)
    ·exact cSeq<|absurd (of_decide_eq_true hc3) (by omega)
    ·refine cSkip<|tN ?_;obtain ⟨f',hf',h'⟩:=hI.go hl0 hp hw;have hT:=h'.d.tb (X:=X) (by omega);exact cReg<|mW rfl<|mY (aHalf (X:=X) hI.ok hT.1 hT.2) rfl<|mZ rfl<|mNil<|bN<|⟨(f',(hlf c p q).1,(hlf c p q).2),h',by show f' < f;omega,wkr rfl rfl⟩
   ·refine cDk 17<|oV rfl<|oC aPoint rfl<|oT rfl (by rw [decide_eq_false hp];rfl)<|.cons (OpS.V _ rfl)<|oV rfl<|oV rfl<|oV rfl<|oV rfl<|oC aSubN rfl<|oV rfl<|oC (aTInt (isz K (Int.natAbs (c (lg c-1)):Int)) (M:=(max K 2)) (Nat.le_refl _) (by omega)) rfl<|oC (aMulN (by omega) (by omega)) rfl<|oC aOf rfl<|oC (aTInt (isz 2 1) (M:=(max 2 2)) (Nat.le_refl _) (by omega)) rfl<|oC aCmpN rfl<|oFd rfl (fun h=>hw (cmpQ_ge.1 h))<|.cons (OpS.V _ rfl)<|.nil<|mT<|cF rfl<|cExit<|tE<|tE<|bE<|tN<|cSeq<|cSeq ?_;have hst:=hI.stop (Or.inr hw);have hnr:=rg_ok hl0 J oa.ok (rg_wide hb.1 hb.2.1 hb.2.2 hJ);rw [hst] at hnr;have hna:Nar c lo hi p q:=hnr.1;refine cReg<|mW rfl<|mY aPoint rfl<|mT<|cCond rfl (fun hc4=>?_) (fun hc4=>?_)
    ·exact cSeq<|absurd (of_decide_eq_true hc4) hp
    ·refine cSkip<|tN<|cSeq<|cDs 14<|pV rfl<|pV rfl<|pV rfl<|pC (aTInt (isz K (Int.natAbs (c (lg c-1)):Int)) (M:=(max K 2)) (Nat.le_refl _) (by omega)) rfl<|pC (aMulN (by omega) (by omega)) rfl<|pC (aFloorN (by omega)) rfl<|pV rfl<|pC (aTMake (isz (max (max X 2+1+(max (max K 2) 2+1)+2) 2+2) (Rat.num (q*(((Int.natAbs (c (lg c-1)):Int):Int):Rat)) / (Rat.den (q*(((Int.natAbs (c (lg c-1)):Int):Int):Rat)):Int))) (isz K (Int.natAbs (c (lg c-1)):Int)) (by omega) (M:=(max (max (max (max X 2+1+(max (max K 2) 2+1)+2) 2+2) K) 1+1)) (Nat.le_refl _) (by omega)) rfl<|.cons (OpS.V _ rfl) (by kernel_rfl)<|.cons (OpS.V _ rfl) (by kernel_rfl)<|.cons (OpS.V _ rfl) (by kernel_rfl)<|.cons (OpS.N (.box 44 ([.v (.bool false),.v (.slice none 0 0),.v (.bool false),.v (.slice none 0 0)])) rfl 5 rfl rfl) (by kernel_rfl)<|.cons (OpS.S 5 (.box 44 (tn (max (max (max (max X 2+1+(max (max K 2) 2+1)+2) 2+2) K) 1+1) (Rat.divInt (Rat.num (q*(((Int.natAbs (c (lg c-1)):Int):Int):Rat)) / (Rat.den (q*(((Int.natAbs (c (lg c-1)):Int):Int):Rat)):Int)) (Int.natAbs (c (lg c-1)):Int)))) rfl rfl) (by kernel_rfl)<|.cons (OpS.V _ rfl) (by kernel_rfl)<|.nil<|mT<|cSeq<|cSeq ?_;have hpq:p < q:=by grind
     have hfin:=rat_fin (F:=(Rat.num (q*(((Int.natAbs (c (lg c-1)):Int):Int):Rat)) / (Rat.den (q*(((Int.natAbs (c (lg c-1)):Int):Int):Rat)):Int))) (oa.nar hna) hpq (by have h1:((1:Int):Rat)=1:=rfl;rw [h1] at hw;exact Rat.not_le.1 hw) (floor_le' _) (floor_gt' _) (t:=(Rat.divInt (Rat.num (q*(((Int.natAbs (c (lg c-1)):Int):Int):Rat)) / (Rat.den (q*(((Int.natAbs (c (lg c-1)):Int):Int):Rat)):Int)) (Int.natAbs (c (lg c-1)):Int))) (div_mul (by omega));obtain ⟨e1,e2,e3⟩:=hfin.2 s (fun r=>(hna.cut r).trans (hrt r));exact cReg<|mv6 rfl rfl rfl rfl rfl rfl<|mY aCmpN rfl<|mbF rfl (decide_eq_false (fun h=>absurd (cmpQ_le.1 h) (by grind)))<|mv5 rfl rfl rfl rfl rfl<|mY (aSignN (isp (K:=K) (c:=c) (z20.lg oa.ok.z)) oa.ok.z) rfl<|mbF rfl (by rw [e3,sgq_zero];rfl)<|mW rfl<|mT<|cFs rfl<|cR<|mW rfl<|mZ rfl<|mW rfl<|mT<|cRet<|rQ rfl (by rw [e1];exact le_tup (dl (dle (le_agg (tn_mono (by omega)))) (dl DV.same dl0)))
theorem aARat2{K L J X:Nat}{c:Nat→Int}{lo hi:Rat}(oa:OkV c lo hi)(hlt:¬ hi≤lo)(hJ:32*L+32*K+1≤J)(hX:3*L+J / 32+1≤X)(hX1:X≤100000)(hK:K≤100000)(hrt:∀ s,¬ ∀ r,cutA c lo hi r↔cutP s r):ACall Tryz.prog 47 [.agg ([.row 2 (lg c) (zel K c)] ++tn L lo ++tn L hi)] (.tup [.agg [.v (.bool false),.v (.slice none 0 0),.v (.bool false),.v (.slice none 0 0)],.one (.v (.bool false))]):=by
 have hlc:=lg_le c;have hd:dg c (lg c)=lg c:=lg_dg oa.ok.z.lg oa.ok.z;have hc2:=oa.l2;have hlead:c (lg c-1)≠0:=lg_ne (by omega);have hl0:(0:Rat) < (((Int.natAbs (c (lg c-1)):Int):Int):Rat):=by exact_mod_cast (by omega:(0:Int) < (Int.natAbs (c (lg c-1)):Int))
 refine ACall.fact10 (enters Tryz.func47 rfl rfl) (p:=Lb K c∧Tb L lo∧Tb L hi) (fun B w vs h=>match vs,h with | [_],⟨⟨cs,_,hl⟩,_⟩=>al_bd oa.ok.z hl) (fun hb=>?_);refine aN 72 [.cell 2 44,.tmp 3] Tryz.func47 rfl<|cR<|mO rfl<|mO rfl<|mW rfl<|mT<|cR<|mW rfl<|mY (aANorm oa.ok.z) rfl<|mZ rfl<|mT<|cSeq<|cR<|mW rfl<|mY aPoint rfl<|mT<|cCond rfl (fun hc1=>?_) (fun hc1=>?_)
 ·exact cSeq<|absurd (of_decide_eq_true hc1) hlt
 ·refine cSkip<|tN<|cR<|mv2 rfl rfl<|mY (aPLead (isp (K:=K) (c:=c) (z20.lg oa.ok.z))) rfl<|mY (aAbs (isz K (c (dg c (lg c)-1))) (by omega)) rfl<|mO rfl<|mZ rfl<|mT<|cSeq<|cBlock<|wB [4,16,15,14,13,10,9,8,7,3,2,1,0] [2,1] 4 (.box 42 (zn K (Int.natAbs (c (lg c-1)):Int))) rfl rfl (leo_zn (Nat.le_refl _) (by rw [hd])) rfl<|cLoop (ι:=Nat×Rat×Rat) (fun (p:Nat×Rat×Rat)=>match p with | (f,p,q)=>⟨72,[(1,.ptr 1 0),(2,.ptr 2 0),(3,.d (.one (.v (.bool false)))),(4,.ptr 4 0)],[(1,.box 46 ([.row 2 (lg c) (zel K c)] ++tn X p ++tn X q)),(2,.box 44 ([.v (.bool false),.v (.slice none 0 0),.v (.bool false),.v (.slice none 0 0)])),(4,.box 42 (zn K (Int.natAbs (c (lg c-1)):Int)))]⟩) (fun (p:Nat×Rat×Rat)=>match p with | (f,p,q)=>RgI c (((Int.natAbs (c (lg c-1)):Int):Int):Rat) L J f lo hi p q) (fun (p:Nat×Rat×Rat)=>match p with | (f,p,q)=>f) (J,lo,hi) (.start oa.ok hb.2.1 hb.2.2 (rg_wide hb.1 hb.2.1 hb.2.2 hJ)) (wk rfl ⟨hs rfl,hs rfl,hs rfl,hs rfl,trivial⟩ ⟨ho' rfl (al_leo (tb_mono hb.2.1 (by omega)) (tb_mono hb.2.2 (by omega))),ho rfl,ho rfl,trivial⟩ rfl) ?_;rintro ⟨f,p,q⟩ hI;have hI:RgI c (((Int.natAbs (c (lg c-1)):Int):Int):Rat) L J f lo hi p q:=hI;show AW _ _ _ ⟨_,_,_⟩
  refine cSeq<|cSeq ?_
  by_cases hp:q≤p
  ·refine cDk 17<|oV rfl<|oC aPoint rfl<|oF rfl (by rw [decide_eq_true hp];rfl)<|.cons (OpS.V _ rfl)<|.cons (OpS.G rfl rfl)<|.cons (OpS.G rfl rfl)<|.cons (OpS.G rfl rfl)<|.cons (OpS.G rfl rfl)<|.cons (OpS.G rfl rfl)<|.cons (OpS.G rfl rfl)<|.cons (OpS.G rfl rfl)<|.cons (OpS.G rfl rfl)<|.cons (OpS.G rfl rfl)<|.cons (OpS.G rfl rfl)<|.cons (OpS.G rfl rfl)<|.cons (OpS.G rfl rfl)<|.cons (OpS.V _ rfl)<|.nil<|mT<|cF rfl<|cExit<|tE<|tE<|bE<|tN<|cSeq<|cSeq ?_;have hst:=hI.stop (Or.inl hp);have hnr:=rg_ok hl0 J oa.ok (rg_wide hb.1 hb.2.1 hb.2.2 hJ);rw [hst] at hnr;have hna:Nar c lo hi p q:=hnr.1;refine cReg<|mW rfl<|mY aPoint rfl<|mT<|cCond rfl (fun hc2=>?_) (fun hc2=>?_)
   ·exact cSeq<|absurd (fun r=>by have h1:=hna.cut r;rw [cutA_P hp] at h1;exact h1.symm) (hrt p)
   ·exact cSkip<|tN<|cSeq<|absurd hp (of_decide_eq_false hc2)
  ·by_cases hw:((1:Int):Rat)≤(q-p)*(((Int.natAbs (c (lg c-1)):Int):Int):Rat)
   ·refine cDk 17<|oV rfl<|oC aPoint rfl<|oT rfl (by rw [decide_eq_false hp];rfl)<|.cons (OpS.V _ rfl)<|oV rfl<|oV rfl<|oV rfl<|oV rfl<|oC aSubN rfl<|oV rfl<|oC (aTInt (isz K (Int.natAbs (c (lg c-1)):Int)) (M:=(max K 2)) (Nat.le_refl _) (by omega)) rfl<|oC (aMulN (by omega) (by omega)) rfl<|oC aOf rfl<|oC (aTInt (isz 2 1) (M:=(max 2 2)) (Nat.le_refl _) (by omega)) rfl<|oC aCmpN rfl<|oTd rfl (cmpQ_ge.2 hw)<|.cons (OpS.V _ rfl)<|.nil<|mT<|cT rfl<|cSkip<|tN<|cBlock<|cSeq<|cR<|mW rfl<|mY (aZero (isn K (Int.natAbs (c (lg c-1)):Int))) rfl<|mT<|cCond rfl (fun hc3=>?_) (fun hc3=>?_)
    ·exact cSeq<|absurd (of_decide_eq_true hc3) (by omega)
    ·refine cSkip<|tN ?_;obtain ⟨f',hf',h'⟩:=hI.go hl0 hp hw;have hT:=h'.d.tb (X:=X) (by omega);exact cReg<|mW rfl<|mY (aHalf (X:=X) hI.ok hT.1 hT.2) rfl<|mZ rfl<|mNil<|bN<|⟨(f',(hlf c p q).1,(hlf c p q).2),h',by show f' < f;omega,wkr rfl rfl⟩
   ·refine cDk 17<|oV rfl<|oC aPoint rfl<|oT rfl (by rw [decide_eq_false hp];rfl)<|.cons (OpS.V _ rfl)<|oV rfl<|oV rfl<|oV rfl<|oV rfl<|oC aSubN rfl<|oV rfl<|oC (aTInt (isz K (Int.natAbs (c (lg c-1)):Int)) (M:=(max K 2)) (Nat.le_refl _) (by omega)) rfl<|oC (aMulN (by omega) (by omega)) rfl<|oC aOf rfl<|oC (aTInt (isz 2 1) (M:=(max 2 2)) (Nat.le_refl _) (by omega)) rfl<|oC aCmpN rfl<|oFd rfl (fun h=>hw (cmpQ_ge.1 h))<|.cons (OpS.V _ rfl)<|.nil<|mT<|cF rfl<|cExit<|tE<|tE<|bE<|tN<|cSeq<|cSeq ?_;have hst:=hI.stop (Or.inr hw);have hnr:=rg_ok hl0 J oa.ok (rg_wide hb.1 hb.2.1 hb.2.2 hJ);rw [hst] at hnr;have hna:Nar c lo hi p q:=hnr.1;refine cReg<|mW rfl<|mY aPoint rfl<|mT<|cCond rfl (fun hc4=>?_) (fun hc4=>?_)
    ·exact cSeq<|absurd (of_decide_eq_true hc4) hp
    ·refine cSkip<|tN<|cSeq<|cDs 14<|pV rfl<|pV rfl<|pV rfl<|pC (aTInt (isz K (Int.natAbs (c (lg c-1)):Int)) (M:=(max K 2)) (Nat.le_refl _) (by omega)) rfl<|pC (aMulN (by omega) (by omega)) rfl<|pC (aFloorN (by omega)) rfl<|pV rfl<|pC (aTMake (isz (max (max X 2+1+(max (max K 2) 2+1)+2) 2+2) (Rat.num (q*(((Int.natAbs (c (lg c-1)):Int):Int):Rat)) / (Rat.den (q*(((Int.natAbs (c (lg c-1)):Int):Int):Rat)):Int))) (isz K (Int.natAbs (c (lg c-1)):Int)) (by omega) (M:=(max (max (max (max X 2+1+(max (max K 2) 2+1)+2) 2+2) K) 1+1)) (Nat.le_refl _) (by omega)) rfl<|.cons (OpS.V _ rfl) (by kernel_rfl)<|.cons (OpS.V _ rfl) (by kernel_rfl)<|.cons (OpS.V _ rfl) (by kernel_rfl)<|.cons (OpS.N (.box 44 ([.v (.bool false),.v (.slice none 0 0),.v (.bool false),.v (.slice none 0 0)])) rfl 5 rfl rfl) (by kernel_rfl)<|.cons (OpS.S 5 (.box 44 (tn (max (max (max (max X 2+1+(max (max K 2) 2+1)+2) 2+2) K) 1+1) (Rat.divInt (Rat.num (q*(((Int.natAbs (c (lg c-1)):Int):Int):Rat)) / (Rat.den (q*(((Int.natAbs (c (lg c-1)):Int):Int):Rat)):Int)) (Int.natAbs (c (lg c-1)):Int)))) rfl rfl) (by kernel_rfl)<|.cons (OpS.V _ rfl) (by kernel_rfl)<|.nil<|mT<|cSeq<|cSeq ?_;have hpq:p < q:=by grind
     have hfin:=rat_fin (F:=(Rat.num (q*(((Int.natAbs (c (lg c-1)):Int):Int):Rat)) / (Rat.den (q*(((Int.natAbs (c (lg c-1)):Int):Int):Rat)):Int))) (oa.nar hna) hpq (by have h1:((1:Int):Rat)=1:=rfl;rw [h1] at hw;exact Rat.not_le.1 hw) (floor_le' _) (floor_gt' _) (t:=(Rat.divInt (Rat.num (q*(((Int.natAbs (c (lg c-1)):Int):Int):Rat)) / (Rat.den (q*(((Int.natAbs (c (lg c-1)):Int):Int):Rat)):Int)) (Int.natAbs (c (lg c-1)):Int))) (div_mul (by omega))
     by_cases k1:(Rat.divInt (Rat.num (q*(((Int.natAbs (c (lg c-1)):Int):Int):Rat)) / (Rat.den (q*(((Int.natAbs (c (lg c-1)):Int):Int):Rat)):Int)) (Int.natAbs (c (lg c-1)):Int))≤p
     ·exact cReg<|mv6 rfl rfl rfl rfl rfl rfl<|mY aCmpN rfl<|mdT rfl (cmpQ_le.2 k1)<|mv2 rfl rfl<|mG rfl rfl<|mG rfl rfl<|mG rfl rfl<|mG rfl rfl<|mG rfl rfl<|mW rfl<|mT<|cT rfl<|cR<|mW rfl<|mZ rfl<|mW rfl<|mT<|cRet<|tR<|rQ rfl (AV.le.rfl)
     ·have k0:FF c (Rat.divInt (Rat.num (q*(((Int.natAbs (c (lg c-1)):Int):Int):Rat)) / (Rat.den (q*(((Int.natAbs (c (lg c-1)):Int):Int):Rat)):Int)) (Int.natAbs (c (lg c-1)):Int))≠0:=fun h=>hrt _ (fun r=>(hna.cut r).symm.trans (hfin.1 (Rat.not_le.1 k1) h r))
      exact cReg<|mv6 rfl rfl rfl rfl rfl rfl<|mY aCmpN rfl<|mbF rfl (decide_eq_false (fun h=>k1 (cmpQ_le.1 h)))<|mv5 rfl rfl rfl rfl rfl<|mY (aSignN (isp (K:=K) (c:=c) (z20.lg oa.ok.z)) oa.ok.z) rfl<|mbT rfl (bne_iff_ne.2 (fun h=>k0 (sgq_eq_zero.1 h)))<|mW rfl<|mT<|cT rfl<|cR<|mW rfl<|mZ rfl<|mW rfl<|mT<|cRet<|tR<|rQ rfl (AV.le.rfl)
theorem aARat0{K L:Nat}{c:Nat→Int}{t:Rat}(hz:z20 c)(hK:K≤100000)(hL:L≤1000000):ACall Tryz.prog 47 [.agg ([.row 2 (lg c) (zel K c)] ++tn L t ++tn L t)] (.tup [.agg (tn L t),.one (.v (.bool true))]):=by
 have htt:t≤t:=by grind
 refine aN 72 [.cell 2 44,.tmp 3] Tryz.func47 rfl<|cR<|mO rfl<|mO rfl<|mW rfl<|mT<|cR<|mW rfl<|mY (aANorm hz) rfl<|mZ rfl<|mT<|cSeq<|cR<|mW rfl<|mY aPoint rfl<|mT<|cCond rfl (fun hc1=>?_) (fun hc1=>?_)
 ·exact cR<|mv2 rfl rfl<|mZ rfl<|mW rfl<|mT<|cRet<|tR<|rQ rfl (AV.le.rfl)
 ·exact cSkip<|tN<|cSeq<|absurd htt (of_decide_eq_false hc1)
/-! ### Orders that come together again -/
/-! ### Operations that only look at slots may come first -/
section
open Go.RowKit Go.ChangeShapes Go.WideShapes
end
def qs7:List Int:= [2,3,5,6,7,8,10]
theorem nosq{q n:Nat}(h1:q≤10)(h:∀ n,n < 4→n*n≠q):n*n≠q:=fun e=>by
 by_cases hn:n < 4
 ·exact h n hn e
 ·have:=Nat.mul_le_mul (show 4≤n by omega) (show 4≤n by omega)
  omega
theorem qs_ok(i:Nat)(h:i < 7):∃ q:Nat,qs7.getD i 0=(q:Int)∧1≤q∧q≤10∧∀ n:Nat,n*n≠q:=by
 match i,h with
 | 0,_=>exact ⟨2,rfl,by decide,by decide,fun n=>nosq (by decide) (by decide)⟩
 | 1,_=>exact ⟨3,rfl,by decide,by decide,fun n=>nosq (by decide) (by decide)⟩
 | 2,_=>exact ⟨5,rfl,by decide,by decide,fun n=>nosq (by decide) (by decide)⟩
 | 3,_=>exact ⟨6,rfl,by decide,by decide,fun n=>nosq (by decide) (by decide)⟩
 | 4,_=>exact ⟨7,rfl,by decide,by decide,fun n=>nosq (by decide) (by decide)⟩
 | 5,_=>exact ⟨8,rfl,by decide,by decide,fun n=>nosq (by decide) (by decide)⟩
 | 6,_=>exact ⟨10,rfl,by decide,by decide,fun n=>nosq (by decide) (by decide)⟩
theorem qd_irr{q:Nat}(hn:∀ n:Nat,n*n≠q){s:Rat}(h:FF (qd q) s=0):False:=by
 obtain ⟨z,hz⟩:=rat_root (qd_z q) (by rw [qd_lg];decide) h;rw [qd_lg] at hz;have h1:(1:Int)=z*(s.den:Int):=hz;have hd:s.den=1:=by
  have h2:(s.den:Int)∣1:=⟨z,by rw [Int.mul_comm];exact h1⟩;have:=Int.le_of_dvd (by decide) h2;have:=s.den_pos;omega
 rw [qd_F] at h;have e:s=((s.num:Int):Rat):=by
  have:=q_mul_den s;rw [hd] at this;have e1:((1:Nat):Rat)=1:=rfl;rw [e1] at this;grind
 have h3:((s.num*s.num:Int):Rat)=(((q:Nat):Int):Rat):=by
  rw [Rat.intCast_mul,← e];have e2:(((q:Nat):Int):Rat)=(q:Rat):=rfl;rw [e2];grind
 have h4:s.num*s.num=(q:Int):=by exact_mod_cast h3
 refine hn s.num.natAbs ?_;have h5:((s.num.natAbs*s.num.natAbs:Nat):Int)=(q:Int):=by rw [Int.natCast_mul,Int.natAbs_mul_self'];exact h4
 exact_mod_cast h5
theorem vc_P{c:Nat→Int}(z:z20 c){s:Rat}(v:VC (FF c) (cutP s)):FF c s=0:=by
 have h:=(vc_iff (cutP_ok s) (FF_po z)).1 v;rw [sgC_P (FF_po z)] at h;exact sgq_eq_zero.1 h
theorem qd_no{q:Nat}(hn:∀ n:Nat,n*n≠q){lo hi:Rat}(o:OkV (qd q) lo hi)(s:Rat):¬ ∀ r,cutA (qd q) lo hi r↔cutP s r:=fun h=>qd_irr hn (vc_P (qd_z q) (o.vc.cut fun r=>(h r).symm))
theorem qd_pt{q:Nat}(hn:∀ n:Nat,n*n≠q){lo hi:Rat}(o:OkV (qd q) lo hi):¬ hi≤lo:=fun h=>qd_no hn o lo fun r=>by rw [cutA_P h]
theorem qd_dv{q:Nat}(h1:1≤q)(h:q≤10):DvB (qd q) 4:=dvb_small (H:=10) (n:=3) (qd_z q) (by rw [qd_lg];decide) (by rw [qd_lg];decide) (fun i=>by
 match i with
 | 0=>show (-(q:Int)).natAbs≤10;omega
 | 1=>show (0:Int).natAbs≤10;decide
 | 2=>show (1:Int).natAbs≤10;decide
 | i+3=>rw [qd_3 q (i+3) (by omega)];decide) (by decide) (by decide) (by decide)
theorem qd_db{q:Nat}(h:q≤10):Db 1 (qd q):=fun i=>by
  match i with
  | 0 => show (-(q : Int)).natAbs < B4 ^ 1; have : B4 ^ 1 = 10000 := by decide
         omega
  | 1=>show (0:Int).natAbs < B4^1;decide
  | 2=>show (1:Int).natAbs < B4^1;decide
  | i+3=>rw [qd_3 q (i+3) (by omega)];decide
theorem qd_s{q:Nat}(h1:1≤q)(h:q≤10):SmS (qd q) 4 5 (qd q):=by
 have h2:=sms_ok (N:=5) (qd_z q) (by rw [qd_lg];decide) (by rw [qd_lg];decide) (by decide) (qd_dv h1 h);rwa [qd_sqE h1] at h2
theorem qd_len{q:Nat}(h1:1≤q){l:List (Rat×Rat)}(h:RtP (qd q) l):l.length=2:=by rw [h.len];exact qd_two h1
/-- A small rational's polynomial times one that was made. -/
theorem rt_ok3{n d:Int}{g:Nat→Int}(k:MdP 3 g):z20 (conv (lnP (smT n d)) g)∧2≤lg (conv (lnP (smT n d)) g)∧lg (conv (lnP (smT n d)) g)≤5∧Db 2 (conv (lnP (smT n d)) g)∧DvB (conv (lnP (smT n d)) g) 16:=by
 have h1:=k.d;have h2:=k.l;have h3:=lnP_lg (smT n d);obtain ⟨z,e⟩:=lg_conv (lnP_z (smT n d)) k.z (by omega) k.n0 (by omega);have h30:∀ i,(lnP (smT n d) i).natAbs≤30:=fun i=>by
  obtain ⟨h1,h2⟩:=smT_bd n d
  match i with
  | 0=>show (-(smT n d).num).natAbs≤30;omega
  | 1=>show ((smT n d).den:Int).natAbs≤30;omega
  | i+2=>rw [lnP_z2 _ (i+2) (by omega)];exact Nat.zero_le _
 have hb:=conv_tm (n:=2) (lnP_z2 (smT n d)) h30 k.b;exact ⟨z,by omega,by omega,fun i=>Nat.lt_of_le_of_lt (hb i) (by decide),dvb_small (n:=5) z (by omega) (by omega) hb (by decide) (by decide) (by decide)⟩
theorem qud_qd(q:Nat):qud (-(q:Int)) 0 1=qd q:=funext fun i=>by
 match i with
 | 0=>rfl
 | 1=>rfl
 | 2=>rfl
 | i+3=>rw [qud_z _ _ _ (i+3) (by omega),qd_3 q (i+3) (by omega)]
theorem aQ7:AV.le (.d (.one (.row 1 7 (fun i' j'=>(([.v (.int .i64 2),.v (.int .i64 3),.v (.int .i64 5),.v (.int .i64 6),.v (.int .i64 7),.v (.int .i64 8),.v (.int .i64 10)]:List Lf)[i'*1+j']?).getD (.v undef))))) (.d (.one (.row 1 7 (fun i _=> .v (.int .i64 (qs7.getD i 0)))))):=le_one (row_le fun i hi j hj B w v hv=>by
 obtain rfl:j=0:=by omega
 match i,hi,hv with
 | 0,_,hv=>exact hv
 | 1,_,hv=>exact hv
 | 2,_,hv=>exact hv
 | 3,_,hv=>exact hv
 | 4,_,hv=>exact hv
 | 5,_,hv=>exact hv
 | 6,_,hv=>exact hv)
theorem aARatE{K L J X M:Nat}{c:Nat→Int}{lo hi s:Rat}(oa:OkV c lo hi)(hJ:32*L+32*K+1≤J)(hX:3*L+J / 32+1≤X)(hX1:X≤100000)(hK:K≤100000)(hrt:∀ r,cutA c lo hi r↔cutP s r)(hM:2*X+2*K+30≤M):ACall Tryz.prog 47 [.agg (alc K c L lo L hi)] (.tup [.agg (tn M s),.one (.v (.bool true))]):=by
 by_cases h:hi≤lo
 ·have hle:=oa.ok.le
  obtain rfl:lo=hi:=by grind
  obtain rfl:lo=s:=cutP_inj fun r=>by have:=hrt r;rwa [cutA_P h] at this
  exact ACall.le (dl DV.same dl0) (le_tup (dl (dle (le_agg (tn_mono (by omega)))) (dl DV.same dl0))) (aARat0 oa.ok.z hK (by omega))
 ·exact aARat1 oa h hJ hX hX1 hK hrt hM
theorem qud_bd3{q:Nat}(h:q≤10):∀ i,i < 3→-9223372036854775808≤qud (-(q:Int)) 0 1 i∧qud (-(q:Int)) 0 1 i≤9223372036854775807:=fun i hi=>by unfold qud;split;omega;split;omega;split <;> omega
theorem aAlgRationals{c0 c4:Nat→Int}{n0 n4:Nat}{a1 a2 a3:Int}(hn0:n0≤9223372036854775807)(hb0:∀ i,i < n0→-9223372036854775808≤c0 i∧c0 i≤9223372036854775807)(h1a: -9223372036854775808≤a1)(h1b:a1≤9223372036854775807)(h2a: -9223372036854775808≤a2)(h2b:a2≤9223372036854775807)(h3a: -9223372036854775808≤a3)(h3b:a3≤9223372036854775807)(hn4:n4≤9223372036854775807)(hb4:∀ i,i < n4→-9223372036854775808≤c4 i∧c4 i≤9223372036854775807):ACall Tryz.prog 9 [.one (irow n0 c0),.one (.v (.int .i64 a1)),.one (.v (.int .i64 a2)),.one (.v (.int .i64 a3)),.one (irow n4 c4)] (.d (.one (.v (.bool true)))):=by
 refine aN 108 [.tmp 10] Tryz.func9 rfl<|cR<|mW rfl<|mT<|cR<|mv2 rfl rfl<|mY (aSmall h2a h2b h3a h3b) rfl<|mO rfl<|mZ rfl<|mT<|cR<|mW rfl<|mY (aQRational (KC:=2916)) rfl<|mv2 rfl rfl<|mY (aMade7 hn4 hb4 (by decide)) rfl<|mEx (Qx:=MdP 3) (L:=fun p=>qrow 2 (lg p) (rc p)) 30 rfl (fun g hg=>?_);obtain ⟨yz,y2,y5,yb,ydv⟩:=rt_ok3 (n:=a2) (d:=a3) hg;obtain ⟨f,hS⟩:∃ f,SmS (conv (lnP (smT a2 a3)) g) 16 5 f:=⟨_,sms_ok yz y2 y5 (by decide) ydv⟩
 have hgl:=lg_le g;have hgd:=hg.d;have hnl:lg (lnP (smT a2 a3))=2:=lnP_lg (smT a2 a3);refine mY (aQMul (isqp (K:=64) (c:=(rc (lnP (smT a2 a3)))) (rc_z ((lnP_z (smT a2 a3))).lg)) (isqp (K:=2) (c:=(rc g)) (rc_z (hg.z).lg)) (M:=((20+1)*(64+2+66))) (D:=20)) rfl<|mView 31 (.d (.one (.row 4 (lg (conv (lnP (smT a2 a3)) g)) (qel 2 (rc (conv (lnP (smT a2 a3)) g)))))) rfl (cv_le yz (fun t ht=>conv_z0 (lnP_z (smT a2 a3)).lg hg.z.lg t ht) (by decide) yb)<|mY (ACall.le (dl DV.same dl0) (AV.of_eq (by rw [← hS.e])) (aQSquare (K:=2) (M:=16) (KC:=8748) (N:=5) (c:=(conv (lnP (smT a2 a3)) g)) yz y2 (by decide) y5 (by decide) (by decide) ydv (by decide) (by decide) (by decide) (by decide))) rfl<|mW rfl<|mT<|cR<|mW rfl<|mY (aQRootsS (KC:=8748) (X:=2000) hS (by decide) (by decide) (by decide) (by decide) (by decide) (by decide) (by decide)) rfl<|mW rfl<|mT<|cSeq<|cSeq<|cEx (Qx:=(fun l=>l=rtF f (14*16)∧l.length≤1000000)) (L:=(fun l=> .row 10 l.length (elA 16 f 8748 2000 l))) 13 rfl (fun l hl=>?_);obtain ⟨hl1,hll⟩:=hl;have hR:RtP f l:=hl1▸hS.rt;have hCn:=cnt_of hS.z hS.l2 hS.sq;refine cReg<|mv3 rfl rfl rfl<|mT<|cBlock<|cLoop (ι:=Nat) (fun (i:Nat)=>⟨108,[(0,.d (.one (.row 1 n0 (fun i _=> .v (.int .i64 (c0 i)))))),(1,.d (.one (.v (.int .i64 a1)))),(11,.ptr 11 0),(13,.d (.one (.row 10 l.length (elA 16 f 8748 2000 l)))),(36,.d (.one (.v (.int .i64 ((l.length:Nat):Int))))),(37,.d (.one (.v (.int .i64 ((i:Nat):Int)))))],[(11,.box 30 (qn 64 (smT a2 a3)))]⟩) (fun (i:Nat)=>i≤l.length) (fun (i:Nat)=>l.length-i) 0 (Nat.zero_le _) (wk rfl ⟨hs rfl,hs rfl,hs rfl,hs rfl,hs rfl,hs' rfl (le_int rfl),trivial⟩ ⟨ho rfl,trivial⟩ rfl) ?_;rintro i hI;have hi:i≤l.length:=hI;show AW _ _ _ ⟨_,_,_⟩
 refine cR<|mW rfl<|mT<|cSeq<|cCond rfl (fun hc1=>?_) (fun hc1=>?_)
 ·refine cSkip<|tN<|cSeq<|cBlock<|cSeq ?_;have hin:i < l.length:=by have h0:=of_decide_eq_true hc1;omega
  have ok:=(hR.ok _ (getD_mem' (d:=(0,0)) hin)).1;refine cReg<|mv2 rfl rfl<|mT<|cSeq<|cSeq ?_
  by_cases hz:cmpC (cutA f (l.getD i (0,0)).1 (l.getD i (0,0)).2) (cutP (smT a2 a3))=0
  ·refine cDk 7<|.cons (OpS.V _ rfl)<|.cons (OpS.V _ rfl)<|.cons (OpS.V (.d (.one (.at 10 ((elA 16 f 8748 2000 l) i)))) (ixR (el:=(elA 16 f 8748 2000 l)) (z:=((i:Nat):Int)) (n:=l.length) rfl rfl rfl rfl rfl rfl (by omega) (by omega))) ?_;refine oV rfl<|oV rfl<|oC (aQCmpRat hCn ok.ok) rfl<|oF rfl (by rw [hz];rfl)<|.nil<|mT<|cFs rfl<|cR<|mv2 rfl rfl<|mV hTT (.d (.one (.at 10 ((elA 16 f 8748 2000 l) i)))) (ixR (el:=(elA 16 f 8748 2000 l)) (z:=((i:Nat):Int)) (n:=l.length) rfl rfl rfl rfl rfl rfl (by omega) (by omega)) ?_;exact mW rfl<|mY (aQToA (hS.z)) rfl<|mY (aARatE (J:=64513) (X:=8100) (M:=16300) (s:=(smT a2 a3)) ok (by decide) (by decide) (by decide) (by decide) (cmpC_zero hz) (by decide)) rfl<|mv3 rfl rfl rfl<|mO rfl<|mZ rfl<|mW rfl<|mT<|cR<|mv5 rfl rfl rfl rfl rfl<|mY (aRSameR (isq 64 (smT a2 a3)) (istn 16300 (smT a2 a3))) rfl<|mv2 rfl rfl<|mT<|cF rfl<|cSkip<|bN<|tN<|cReg<|mv2 rfl rfl<|mNil<|⟨(i+1),by omega,by omega,wk rfl ⟨hs rfl,hs rfl,hs rfl,hs rfl,hs rfl,hs' rfl (le_int (inc64 (by omega))),trivial⟩ ⟨ho rfl,trivial⟩ rfl⟩
  ·refine cDk 7<|.cons (OpS.V _ rfl)<|.cons (OpS.V _ rfl)<|.cons (OpS.V (.d (.one (.at 10 ((elA 16 f 8748 2000 l) i)))) (ixR (el:=(elA 16 f 8748 2000 l)) (z:=((i:Nat):Int)) (n:=l.length) rfl rfl rfl rfl rfl rfl (by omega) (by omega))) ?_;exact oV rfl<|oV rfl<|oC (aQCmpRat hCn ok.ok) rfl<|oT rfl (bne_iff_ne.2 hz)<|.nil<|mT<|cT rfl<|cExit<|tE<|bE<|tN<|cReg<|mv2 rfl rfl<|mNil<|⟨(i+1),by omega,by omega,wk rfl ⟨hs rfl,hs rfl,hs rfl,hs rfl,hs rfl,hs' rfl (le_int (inc64 (by omega))),trivial⟩ ⟨ho rfl,trivial⟩ rfl⟩
 ·refine cExit<|tE<|tE<|bE<|tN<|cSeq<|wK [11,1,0] [11] rfl rfl ?_;obtain ⟨q,hq,hq1,hq2,hqn⟩:=qs_ok (a1%(7:Int)).toNat (by omega);refine cReg<|mB hTT (.d (.one (.row 1 7 (fun i' j'=>(([.v (.int .i64 2),.v (.int .i64 3),.v (.int .i64 5),.v (.int .i64 6),.v (.int .i64 7),.v (.int .i64 8),.v (.int .i64 10)])[i'*1+j']?).getD (.v undef))))) rfl<|mW rfl<|mY (aWithin (by decide) (by decide) h1a h1b) rfl<|mView 65 (.d (.one (.row 1 7 (fun i _=> .v (.int .i64 (qs7.getD i 0)))))) rfl (aQ7)<|mV hTT (.d (.one (.at 1 ((fun i _=> .v (.int .i64 (qs7.getD i 0))) ((a1%(7:Int)).toNat))))) (ixR (el:=(fun i _=> .v (.int .i64 (qs7.getD i 0)))) (z:=(a1%(7:Int))) (n:=7) rfl rfl rfl rfl rfl rfl (by omega) (by omega)) ?_;refine mv2 rfl rfl<|mT<|cSeq<|cView 17 (.d (.one (.v (.int .i64 (q:Int))))) rfl (le_int hq)<|cReg<|mW rfl<|mV hTT (.d (.one (.v (.int .i64 (-(q:Int)))))) (evi ((wr64 (by omega) (by omega)).trans (by omega)))<|mB hTT (.d (.one (.row 1 3 (fun i' j'=>(([.v (.int .i64 (-(q:Int))),.v (.int .i64 0),.v (.int .i64 1)])[i'*1+j']?).getD (.v undef))))) rfl<|mY (aQOf (isi_three _ _ _) (qud_bd3 hq2)) rfl<|mView 73 (.d (.one (.row 4 (lg (qd q)) (qel 4 (rc (qd q)))))) rfl (by rw [qud_qd];exact le_dg_t (lg_dg2 (qd_3 q) (qd_z q)) (by decide) ((qd_db hq2).mono (by decide)))<|mY (aQRootsS (KC:=2916) (X:=1200) (qd_s hq1 hq2) (by decide) (by decide) (by decide) (by decide) (by decide) (by decide) (by decide)) rfl<|mW rfl<|mT<|cSeq<|cEx (Qx:=(fun l=>l=rtF (qd q) (14*4)∧l.length≤1000000)) (L:=(fun l=> .row 10 l.length (elA 4 (qd q) 2916 1200 l))) 18 rfl (fun l2 hl2=>?_);obtain ⟨hl1,hll⟩:=hl2;have hR2:RtP (qd q) l2:=hl1▸(qd_s hq1 hq2).rt;have hlen:=qd_len hq1 hR2;have o2:=(hR2.ok _ (getD_mem' (d:=(0,0)) (show 1 < l2.length by omega))).1;refine cReg<|mW rfl<|mV hTT (.d (.one (.at 10 ((elA 4 (qd q) 2916 1200 l2) 1)))) (ixR (el:=(elA 4 (qd q) 2916 1200 l2)) (z:=1) (n:=l2.length) rfl rfl rfl rfl rfl rfl (by omega) (by omega)) ?_;exact mW rfl<|mY (aQToA ((qd_z q))) rfl<|mY (aARat2 (J:=38529) (X:=4900) o2 (qd_pt hqn o2) (by decide) (by decide) (by decide) (by decide) (qd_no hqn o2)) rfl<|mv3 rfl rfl rfl<|mO rfl<|mZ rfl<|mW rfl<|mT<|cR<|mW rfl<|mY (aRToR (isq 64 (smT a2 a3))) rfl<|mY (aAOf (by decide)) rfl<|mY (aARat0 (lnP_z (smT a2 a3)) (by decide) (by decide)) rfl<|mv3 rfl rfl rfl<|mO rfl<|mZ rfl<|mW rfl<|mT<|cR<|mv6 rfl rfl rfl rfl rfl rfl<|mv2 rfl rfl<|mY (aRSameR (isq 64 (smT a2 a3)) (istn 64 (smT a2 a3))) rfl<|mv4 rfl rfl rfl rfl<|mdT rfl (by omega)<|mv2 rfl rfl<|mY (aWakes10) rfl<|mv2 rfl rfl<|mT<|cRet<|rQ rfl (AV.le.rfl)
end Go.Proofs.YthccmbncplakjaaGreat
