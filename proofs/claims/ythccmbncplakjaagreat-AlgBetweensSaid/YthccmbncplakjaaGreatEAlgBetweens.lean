/-
  What the proof of AlgBetweens asks for besides: joined, short spelling. No condition.
-/
import Derived.Test.YthccmbncplakjaaGreatJ5
set_option linter.unusedVariables false
set_option linter.unusedSimpArgs false
set_option maxRecDepth 100000
set_option maxHeartbeats 4000000
namespace Go.Proofs.YthccmbncplakjaaGreat
open Go.RowKit
namespace Am
end Am
section
open Go.RowKit Am
end
section
open Go.RowKit Am
end
theorem isn_nil:IsN [.v (.bool false),.v (.slice none 0 0)] 0 0:=fun _ _ _ h=>nil_ls h
/-! ### Rows cut: noughts on top are taken away -/
/-! ### Sums, products -/
/-! ### A region that draws, order by order -/
section
open Go.RowKit Go.ChangeShapes Go.WideShapes
end
section
open Go.RowKit Go.ChangeShapes Go.WideShapes
end
section
open Go.RowKit Go.ChangeShapes Go.WideShapes
end
/-
 RATIONALS of the program, by the machine (3).
-/
instance {lo hi p q:Rat}:Decidable (bel lo hi p q):=inferInstanceAs (Decidable (_∧_))
theorem apF_dz{c d:Nat→Int}{L:Nat}:∀ (n J:Nat) {lo hi p q:Rat},Dz L J lo hi→Dz L J p q→Dz L (J+n) (apF c d n lo hi p q).1 (apF c d n lo hi p q).2.1∧Dz L (J+n) (apF c d n lo hi p q).2.2.1 (apF c d n lo hi p q).2.2.2.1
 | 0,J,lo,hi,p,q,h,k=>⟨h,k⟩
 | n+1,J,lo,hi,p,q,h,k=>by
  unfold apF;split
  ·exact ⟨h.mono (by omega),k.mono (by omega)⟩
  ·split
   ·exact ⟨h.mono (by omega),k.mono (by omega)⟩
   ·split
    ·have:=apF_dz (c:=c) (d:=d) n (J+1) (h.hlf (c:=c)) (k.mono (Nat.le_succ J))
     rwa [show J+1+n=J+(n+1) by omega] at this
    ·have:=apF_dz (c:=c) (d:=d) n (J+1) (h.mono (Nat.le_succ J)) (k.hlf (c:=d))
     rwa [show J+1+n=J+(n+1) by omega] at this
noncomputable def btF(c d:Nat→Int):Nat→Rat→Rat→Rat→Rat→Option Rat
 | 0,_,_,_,_=>none
 | n+1,lo,hi,p,q=>if cmpC (cutA c lo hi) (cutP ((hi+p) / 2)) < 0∧cmpC (cutA d p q) (cutP ((hi+p) / 2)) > 0 then some ((hi+p) / 2) else btF c d n (hlf c lo hi).1 (hlf c lo hi).2 (hlf d p q).1 (hlf d p q).2
theorem btF_ok{c d:Nat→Int}{h1 h2:Nat}(b1:∀ i,(c i).natAbs≤2^h1)(b2:∀ i,(d i).natAbs≤2^h2):∀ (n i j:Nat) {lo hi p q:Rat},OkV c lo hi→OkV d p q→cmpC (cutA c lo hi) (cutA d p q)= -1→hi≤p→i < n→j < n→(hi-lo)*t2 (sepE (lg c) (lg d) h1 h2+2)≤t2 i→(q-p)*t2 (sepE (lg c) (lg d) h1 h2+2)≤t2 j→
  ∃ m,btF c d n lo hi p q=some m∧cmpC (cutA c lo hi) (cutP m)= -1∧cmpC (cutA d p q) (cutP m)=1
 | 0,_,_,_,_,_,_,_,_,_,_,h,_,_,_=>absurd h (by omega)
 | n+1,i,j,lo,hi,p,q,oa,ob,hm,hle,hi1,hj1,w1,w2=>by
  unfold btF
  by_cases hc:cmpC (cutA c lo hi) (cutP ((hi+p) / 2)) < 0∧cmpC (cutA d p q) (cutP ((hi+p) / 2)) > 0
  ·rw [if_pos hc]
   refine ⟨_,rfl,?_,?_⟩
   ·have:=cmpC_bd (cutA c lo hi) (cutP ((hi+p) / 2));omega
   ·have:=cmpC_bd (cutA d p q) (cutP ((hi+p) / 2));omega
  ·rw [if_neg hc]
   have hhp:p≤hi:=by
    apply Classical.byContradiction;intro hn;refine hc ⟨?_,?_⟩
    ·rw [cmpC_lt (q:=hi) (show hi < (hi+p) / 2 by grind) (oa.ok.above (by grind))];omega
    ·rw [cmpC_P1 ob.ok.cut (ob.ok.below (show (hi+p) / 2 < p by grind))];omega
   have hl1:=oa.ok.le;have hl2:=ob.ok.le;have nz:¬ (i=0∧j=0):=fun ⟨e1,e2⟩=>by
    rw [e1] at w1;rw [e2] at w2;exact near_no b1 b2 rfl oa ob (by omega) hhp (by grind) w1 w2
   have na:=(hlf_nar oa.ok).1;have nb:=(hlf_nar ob.ok).1;have ea:cutA c (hlf c lo hi).1 (hlf c lo hi).2=cutA c lo hi:=funext fun t=>propext (na.cut t)
   have eb:cutA d (hlf d p q).1 (hlf d p q).2=cutA d p q:=funext fun t=>propext (nb.cut t)
   have ih:=btF_ok b1 b2 n (i-1) (j-1) (oa.nar na) (ob.nar nb) (by rw [ea,eb];exact hm) (by have:=na.hi;have:=nb.lo;grind) (by omega) (by omega) (hlf_w' oa.ok (t2_pos _) w1) (hlf_w' ob.ok (t2_pos _) w2);rw [ea,eb] at ih;exact ih
theorem btF_stp{c d:Nat→Int}{lo hi p q:Rat}(oa:OkV c lo hi)(ob:OkV d p q)(hm:cmpC (cutA c lo hi) (cutA d p q)= -1)(hle:hi≤p):∃ m,btF c d (stp c lo hi d p q) lo hi p q=some m∧cmpC (cutA c lo hi) (cutP m)= -1∧cmpC (cutA d p q) (cutP m)=1:=by
 obtain ⟨E,hE⟩:∃ E,E=sepE (lg c) (lg d) (szF c (lg c)) (szF d (lg d)):=⟨_,rfl⟩
 have hst:E+5+(nbits lo.num.natAbs+nbits hi.num.natAbs)+(nbits p.num.natAbs+nbits q.num.natAbs) < stp c lo hi d p q:=by
  rw [hE];unfold stp sepE;obtain ⟨P,hP⟩:∃ P,P=(lg c+lg d)*(szF c (lg c)+szF d (lg d)+(lg c+lg d)+8):=⟨_,rfl⟩
  rw [Nat.mul_assoc 2,Nat.mul_assoc 4,← hP];omega
 refine btF_ok (sz_bd oa.ok.z) (sz_bd ob.ok.z) _ (nbits lo.num.natAbs+nbits hi.num.natAbs+1+(E+2)) (nbits p.num.natAbs+nbits q.num.natAbs+1+(E+2)) oa ob hm hle (by omega) (by omega) ?_ ?_
 ·rw [← hE,t2_add _ (E+2)]
  exact Rat.mul_le_mul_of_nonneg_right (end_wide lo hi) (by have:=t2_pos (E+2);grind)
 ·rw [← hE,t2_add _ (E+2)]
  exact Rat.mul_le_mul_of_nonneg_right (end_wide p q) (by have:=t2_pos (E+2);grind)
/-- The loop's state. -/
structure BtI(c d:Nat→Int)(L J0 J f:Nat)(lo hi p q u1 u2 v1 v2:Rat):Prop where
 fl:f≤J
 oa:OkA c u1 u2
 ob:OkA d v1 v2
 da:Dz L (J0+(J-f)) u1 u2
 db:Dz L (J0+(J-f)) v1 v2
 e:btF c d f u1 u2 v1 v2=btF c d J lo hi p q
theorem BtI.start{c d:Nat→Int}{L J0 J:Nat}{lo hi p q:Rat}(h:OkA c lo hi)(k:OkA d p q)(h1:Dz L J0 lo hi)(h2:Dz L J0 p q):BtI c d L J0 J J lo hi p q lo hi p q:=⟨Nat.le_refl _,h,k,by rw [Nat.sub_self];exact h1,by rw [Nat.sub_self];exact h2,rfl⟩
theorem BtI.hit{c d:Nat→Int}{L J0 J f:Nat}{lo hi p q u1 u2 v1 v2:Rat}(h:BtI c d L J0 J f lo hi p q u1 u2 v1 v2)(hf:f≠0)(h1:cmpC (cutA c u1 u2) (cutP ((u2+v1) / 2)) < 0)(h2:cmpC (cutA d v1 v2) (cutP ((u2+v1) / 2)) > 0):btF c d J lo hi p q=some ((u2+v1) / 2):=by
 obtain ⟨g,rfl⟩:∃ g,f=g+1:=⟨f-1,by omega⟩
 rw [← h.e];exact if_pos ⟨h1,h2⟩
theorem BtI.go{c d:Nat→Int}{L J0 J f:Nat}{lo hi p q u1 u2 v1 v2:Rat}(h:BtI c d L J0 J f lo hi p q u1 u2 v1 v2)(hf:f≠0)(hn:¬ (cmpC (cutA c u1 u2) (cutP ((u2+v1) / 2)) < 0∧cmpC (cutA d v1 v2) (cutP ((u2+v1) / 2)) > 0)):BtI c d L J0 J (f-1) lo hi p q (hlf c u1 u2).1 (hlf c u1 u2).2 (hlf d v1 v2).1 (hlf d v1 v2).2:=by
 obtain ⟨g,rfl⟩:∃ g,f=g+1:=⟨f-1,by omega⟩
 have hfl:=h.fl;have hd:=h.da.hlf (c:=c);have hd2:=h.db.hlf (c:=d);rw [show J0+(J-(g+1))+1=J0+(J-g) by omega] at hd hd2;exact ⟨by omega,(hlf_nar h.oa).1.ok,(hlf_nar h.ob).1.ok,hd,hd2,by rw [← h.e];exact (if_neg hn).symm⟩
theorem aABetw0{K L X KC N:Nat}{c d:Nat→Int}{lo hi x1 x2:Rat}(oa:OkV c lo hi)(ob:OkV d x1 x2)(hN:N≤10)(hcN:lg c≤N)(hdN:lg d≤N)(hKC:(21*K+3+1)*(2*3^N)≤KC)(hC:KC≤90000000)(hX:11*L+320*K+300≤X)(hX1:X≤100000)(hm:(cmpC (cutA c lo hi) (cutA d x1 x2))≥0):ACall Tryz.prog 50 [.agg ([.row 2 (lg c) (zel K c)] ++tn L lo ++tn L hi),.agg ([.row 2 (lg d) (zel K d)] ++tn L x1 ++tn L x2)] (.tup [.agg [.v (.bool false),.v (.slice none 0 0),.v (.bool false),.v (.slice none 0 0)],.one (.v (.int .i64 1))]):=by
 have hlc:=lg_le c;have hld:=lg_le d;exact aN 50 [.cell 4 44,.tmp 5] Tryz.func50 rfl<|cR<|mO rfl<|mO rfl<|mO rfl<|mW rfl<|mT<|cSeq<|cDk 4<|oV rfl<|oC (aANorm oa.ok.z) rfl<|oV rfl<|oC (aANorm ob.ok.z) rfl<|.nil<|mZ rfl<|mZ rfl<|mT<|cSeq<|cR<|mv2 rfl rfl<|mY (aACmp (X:=X) (KC:=KC) (N:=N) oa ob hN hcN hdN hKC hC hX hX1) rfl<|mdT rfl hm<|mT<|cT rfl<|cR<|mW rfl<|mZ rfl<|mW rfl<|mT<|cRet<|tR<|rQ rfl (AV.le.rfl)
theorem aABetw1{K L X X2 KC N:Nat}{c d:Nat→Int}{lo hi x1 x2 mm:Rat}(oa:OkV c lo hi)(ob:OkV d x1 x2)(hN:N≤10)(hcN:lg c≤N)(hdN:lg d≤N)(hKC:(21*K+3+1)*(2*3^N)≤KC)(hC:KC≤90000000)(hX:11*L+320*K+300≤X)(hX1:X≤100000)(hX2:11*L+8*X+640*K+600≤X2)(hX3:X2≤100000)(hm:(cmpC (cutA c lo hi) (cutA d x1 x2))= -1)(he:btF c d (stp c (apF c d (stp c lo hi d x1 x2) lo hi x1 x2).1 (apF c d (stp c lo hi d x1 x2) lo hi x1 x2).2.1 d (apF c d (stp c lo hi d x1 x2) lo hi x1 x2).2.2.1 (apF c d (stp c lo hi d x1 x2) lo hi x1 x2).2.2.2.1) (apF c d (stp c lo hi d x1 x2) lo hi x1 x2).1 (apF c d (stp c lo hi d x1 x2) lo hi x1 x2).2.1 (apF c d (stp c lo hi d x1 x2) lo hi x1 x2).2.2.1 (apF c d (stp c lo hi d x1 x2) lo hi x1 x2).2.2.2.1=some mm):ACall Tryz.prog 50 [.agg ([.row 2 (lg c) (zel K c)] ++tn L lo ++tn L hi),.agg ([.row 2 (lg d) (zel K d)] ++tn L x1 ++tn L x2)] (.tup [.agg (tn (max X2 2+1+(max X2 2+1)+4) mm),.one (.v (.int .i64 0))]):=by
 have hlc:=lg_le c;have hld:=lg_le d;refine ACall.fact10 (enters Tryz.func50 rfl rfl) (p:=(Lb K c∧Tb L lo∧Tb L hi)∧(Lb K d∧Tb L x1∧Tb L x2)) (fun B w vs h=>match vs,h with | [_,_],⟨⟨cs,_,hl⟩,⟨ds,_,hk⟩,_⟩=>⟨al_bd oa.ok.z hl,al_bd ob.ok.z hk⟩) (fun hb=>?_);refine aN 50 [.cell 4 44,.tmp 5] Tryz.func50 rfl<|cR<|mO rfl<|mO rfl<|mO rfl<|mW rfl<|mT<|cSeq<|cDk 4<|oV rfl<|oC (aANorm oa.ok.z) rfl<|oV rfl<|oC (aANorm ob.ok.z) rfl<|.nil<|mZ rfl<|mZ rfl<|mT<|cSeq<|cR<|mv2 rfl rfl<|mY (aACmp (X:=X) (KC:=KC) (N:=N) oa ob hN hcN hdN hKC hC hX hX1) rfl<|mdF rfl (by rw [hm];decide)<|mT<|cFs rfl<|cR<|mv2 rfl rfl<|mY (aApart (X:=X) oa.ok ob.ok hX hX1) rfl<|mv4 rfl rfl rfl rfl<|mZ rfl<|mZ rfl<|mT<|cSeq<|cSeq ?_;have hap:=apF_stp oa ob (by rw [hm];decide);have hdz:=apF_dz (c:=c) (d:=d) (stp c lo hi d x1 x2) 0 (dz_start hb.1.2.1 hb.1.2.2) (dz_start hb.2.2.1 hb.2.2.2);have hJ1:=stp_le hb.1.1 hb.2.1 hb.1.2.1 hb.1.2.2 hb.2.2.1 hb.2.2.2;have ta:=hdz.1.tb (X:=X) (by omega);have tb:=hdz.2.tb (X:=X) (by omega);have hJ2:=stp_le (L:=X) hb.1.1 hb.2.1 ta.1 ta.2 tb.1 tb.2;refine cReg<|mv2 rfl rfl<|mY (aSteps oa.ok.z ob.ok.z (by omega) (by omega) (by omega) (by omega) (by omega) (by omega)) rfl<|mW rfl<|mT<|cBlock<|cLoop (ι:=Nat×Rat×Rat×Rat×Rat) (fun (p:Nat×Rat×Rat×Rat×Rat)=>match p with | (f,u1,u2,v1,v2)=>⟨50,[(2,.ptr 2 0),(3,.ptr 3 0),(4,.ptr 4 0),(5,.d (.one (.v (.int .i64 0)))),(25,.d (.one (.v (.int .i64 ((stp c ((apF c d (stp c lo hi d x1 x2) lo hi x1 x2).1) ((apF c d (stp c lo hi d x1 x2) lo hi x1 x2).2.1) d ((apF c d (stp c lo hi d x1 x2) lo hi x1 x2).2.2.1) ((apF c d (stp c lo hi d x1 x2) lo hi x1 x2).2.2.2.1):Nat):Int))))),(26,.d (.one (.v (.int .i64 (((stp c (apF c d (stp c lo hi d x1 x2) lo hi x1 x2).1 (apF c d (stp c lo hi d x1 x2) lo hi x1 x2).2.1 d (apF c d (stp c lo hi d x1 x2) lo hi x1 x2).2.2.1 (apF c d (stp c lo hi d x1 x2) lo hi x1 x2).2.2.2.1)-f:Nat):Int)))))],[(2,.box 46 ([.row 2 (lg c) (zel K c)] ++tn X2 u1 ++tn X2 u2)),(3,.box 46 ([.row 2 (lg d) (zel K d)] ++tn X2 v1 ++tn X2 v2)),(4,.box 44 ([.v (.bool false),.v (.slice none 0 0),.v (.bool false),.v (.slice none 0 0)]))]⟩) (fun (p:Nat×Rat×Rat×Rat×Rat)=>match p with | (f,u1,u2,v1,v2)=>BtI c d L (0+(stp c lo hi d x1 x2)) (stp c (apF c d (stp c lo hi d x1 x2) lo hi x1 x2).1 (apF c d (stp c lo hi d x1 x2) lo hi x1 x2).2.1 d (apF c d (stp c lo hi d x1 x2) lo hi x1 x2).2.2.1 (apF c d (stp c lo hi d x1 x2) lo hi x1 x2).2.2.2.1) f (apF c d (stp c lo hi d x1 x2) lo hi x1 x2).1 (apF c d (stp c lo hi d x1 x2) lo hi x1 x2).2.1 (apF c d (stp c lo hi d x1 x2) lo hi x1 x2).2.2.1 (apF c d (stp c lo hi d x1 x2) lo hi x1 x2).2.2.2.1 u1 u2 v1 v2) (fun (p:Nat×Rat×Rat×Rat×Rat)=>match p with | (f,u1,u2,v1,v2)=>f) ((stp c (apF c d (stp c lo hi d x1 x2) lo hi x1 x2).1 (apF c d (stp c lo hi d x1 x2) lo hi x1 x2).2.1 d (apF c d (stp c lo hi d x1 x2) lo hi x1 x2).2.2.1 (apF c d (stp c lo hi d x1 x2) lo hi x1 x2).2.2.2.1),(apF c d (stp c lo hi d x1 x2) lo hi x1 x2).1,(apF c d (stp c lo hi d x1 x2) lo hi x1 x2).2.1,(apF c d (stp c lo hi d x1 x2) lo hi x1 x2).2.2.1,(apF c d (stp c lo hi d x1 x2) lo hi x1 x2).2.2.2.1) (.start hap.a.ok hap.b.ok hdz.1 hdz.2) (wk rfl ⟨hs rfl,hs rfl,hs rfl,hs rfl,hs rfl,hs' rfl (le_int (by rw [Nat.sub_self];rfl)),trivial⟩ ⟨ho' rfl (al_leo (tb_mono ta.1 (by omega)) (tb_mono ta.2 (by omega))),ho' rfl (al_leo (tb_mono tb.1 (by omega)) (tb_mono tb.2 (by omega))),ho rfl,trivial⟩ rfl) ?_;rintro ⟨f,u1,u2,v1,v2⟩ hI;have hI:BtI c d L (0+(stp c lo hi d x1 x2)) (stp c (apF c d (stp c lo hi d x1 x2) lo hi x1 x2).1 (apF c d (stp c lo hi d x1 x2) lo hi x1 x2).2.1 d (apF c d (stp c lo hi d x1 x2) lo hi x1 x2).2.2.1 (apF c d (stp c lo hi d x1 x2) lo hi x1 x2).2.2.2.1) f (apF c d (stp c lo hi d x1 x2) lo hi x1 x2).1 (apF c d (stp c lo hi d x1 x2) lo hi x1 x2).2.1 (apF c d (stp c lo hi d x1 x2) lo hi x1 x2).2.2.1 (apF c d (stp c lo hi d x1 x2) lo hi x1 x2).2.2.2.1 u1 u2 v1 v2:=hI;show AW _ _ _ ⟨_,_,_⟩
 refine cR<|mW rfl<|mT<|cSeq<|cCond rfl (fun hc1=>?_) (fun hc1=>?_)
 ·refine cSkip<|tN<|cSeq<|cBlock<|cSeq ?_;have hf0:f≠0:=by have h0:=of_decide_eq_true hc1;omega
  refine cReg<|mv4 rfl rfl rfl rfl<|mY (aMidN (by omega) (by omega)) rfl<|mO rfl<|mZ rfl<|mT<|cSeq<|cSeq ?_
  by_cases k1:cmpC (cutA c u1 u2) (cutP ((u2+v1) / 2)) < 0
  ·by_cases k2:cmpC (cutA d v1 v2) (cutP ((u2+v1) / 2)) > 0
   ·exact cReg<|mv2 rfl rfl<|mY (aCmpRat hI.oa) rfl<|mdT rfl k1<|mv3 rfl rfl rfl<|mY (aCmpRat hI.ob) rfl<|mdT rfl k2<|mW rfl<|mT<|cT rfl<|cR<|mW rfl<|mZ rfl<|mW rfl<|mT<|cRet<|tR<|bR<|tR<|tR<|bR<|tR<|rQ rfl (by have e:=hI.hit hf0 k1 k2;rw [he] at e;have e2:=Option.some.inj e;rw [e2];exact AV.le.rfl)
   ·have kn:¬ (cmpC (cutA c u1 u2) (cutP ((u2+v1) / 2)) < 0∧cmpC (cutA d v1 v2) (cutP ((u2+v1) / 2)) > 0):=fun h=>k2 h.2
    refine cReg<|mv2 rfl rfl<|mY (aCmpRat hI.oa) rfl<|mdT rfl k1<|mv3 rfl rfl rfl<|mY (aCmpRat hI.ob) rfl<|mdF rfl k2<|mW rfl<|mT<|cFs rfl ?_;have h':=hI.go hf0 kn;have hT:=h'.da.tb (X:=X2) (by omega);have hT2:=h'.db.tb (X:=X2) (by omega);exact cDk 4<|oV rfl<|oC (aHalf (X:=X2) hI.oa hT.1 hT.2) rfl<|oV rfl<|oC (aHalf (X:=X2) hI.ob hT2.1 hT2.2) rfl<|.nil<|mZ rfl<|mZ rfl<|mNil<|bN<|tN<|cReg<|mv2 rfl rfl<|mNil<|⟨((f-1),(hlf c u1 u2).1,(hlf c u1 u2).2,(hlf d v1 v2).1,(hlf d v1 v2).2),h',by show f-1 < f;omega,wk rfl ⟨hs rfl,hs rfl,hs rfl,hs rfl,hs rfl,hs' rfl (le_int ((inc64 (by have:=h'.fl;omega)).trans (by have:=hI.fl;omega))),trivial⟩ ⟨ho rfl,ho rfl,ho rfl,trivial⟩ rfl⟩
  ·have kn:¬ (cmpC (cutA c u1 u2) (cutP ((u2+v1) / 2)) < 0∧cmpC (cutA d v1 v2) (cutP ((u2+v1) / 2)) > 0):=fun h=>k1 h.1
   refine cReg<|mv2 rfl rfl<|mY (aCmpRat hI.oa) rfl<|mdF rfl k1<|mW rfl<|mG rfl rfl<|mG rfl rfl<|mG rfl rfl<|mG rfl rfl<|mW rfl<|mT<|cFs rfl ?_;have h':=hI.go hf0 kn;have hT:=h'.da.tb (X:=X2) (by omega);have hT2:=h'.db.tb (X:=X2) (by omega);exact cDk 4<|oV rfl<|oC (aHalf (X:=X2) hI.oa hT.1 hT.2) rfl<|oV rfl<|oC (aHalf (X:=X2) hI.ob hT2.1 hT2.2) rfl<|.nil<|mZ rfl<|mZ rfl<|mNil<|bN<|tN<|cReg<|mv2 rfl rfl<|mNil<|⟨((f-1),(hlf c u1 u2).1,(hlf c u1 u2).2,(hlf d v1 v2).1,(hlf d v1 v2).2),h',by show f-1 < f;omega,wk rfl ⟨hs rfl,hs rfl,hs rfl,hs rfl,hs rfl,hs' rfl (le_int ((inc64 (by have:=h'.fl;omega)).trans (by have:=hI.fl;omega))),trivial⟩ ⟨ho rfl,ho rfl,ho rfl,trivial⟩ rfl⟩
 ·exact cExit<|tE<|tE<|bE<|tN<|cR<|mW rfl<|mZ rfl<|mW rfl<|mT<|cRet<|rQ rfl (by exfalso;have h0:=of_decide_eq_false hc1;have hfl:=hI.fl;have e:=hI.e;rw [he,show f=0 by omega] at e;exact absurd e (by show ¬ ((none:Option Rat)=some mm);exact fun h=>by cases h))
/-! ### Orders that come together again -/
/-! ### Operations that only look at slots may come first -/
section
open Go.RowKit Go.ChangeShapes Go.WideShapes
theorem pk_J{c d:Nat→Int}(h1:lg c≤5)(h2:lg d≤5):32*600+3+sepE (lg c) (lg d) (14*4) (14*4)≤22000:=by
 unfold sepE;have h3:2*(lg c+lg d)*(14*4+14*4+(lg c+lg d)+8)≤2*(5+5)*(14*4+14*4+(5+5)+8):=Nat.mul_le_mul (by omega) (by omega);omega
end
theorem bt_ex{c d:Nat→Int}{lo hi p q:Rat}(oa:OkV c lo hi)(ob:OkV d p q)(hm:cmpC (cutA c lo hi) (cutA d p q)= -1):∃ mm,btF c d (stp c (apF c d (stp c lo hi d p q) lo hi p q).1 (apF c d (stp c lo hi d p q) lo hi p q).2.1 d (apF c d (stp c lo hi d p q) lo hi p q).2.2.1 (apF c d (stp c lo hi d p q) lo hi p q).2.2.2.1) (apF c d (stp c lo hi d p q) lo hi p q).1 (apF c d (stp c lo hi d p q) lo hi p q).2.1 (apF c d (stp c lo hi d p q) lo hi p q).2.2.1 (apF c d (stp c lo hi d p q) lo hi p q).2.2.2.1=some mm∧cmpC (cutA c lo hi) (cutP mm)= -1∧cmpC (cutA d p q) (cutP mm)=1:=by
 have h:=apF_stp oa ob (by rw [hm];decide);obtain ⟨m,h1,h2,h3⟩:=btF_stp (oa.nar h.a) (ob.nar h.b) (by rw [cmpC_congr h.a.cut h.b.cut];exact hm) (h.l hm);exact ⟨m,h1,by rw [← cmpC_congr h.a.cut (fun _=>Iff.rfl)];exact h2,by rw [← cmpC_congr h.b.cut (fun _=>Iff.rfl)];exact h3⟩
theorem aZero0:ACall Tryz.prog 51 [.agg [.v (.bool false),.v (.slice none 0 0)]] (.d (.one (.v (.bool true)))):=ACall.le (dl DV.same dl0) (le_boolE (decide_eq_true rfl)) (aZero isn_nil)
theorem aAlgBetw0{c0 c2:Nat→Int}{n0 n2:Nat}{a1 a3:Int}(hn0:n0≤9223372036854775807)(hb0:∀ i,i < n0→-9223372036854775808≤c0 i∧c0 i≤9223372036854775807)(h1a: -9223372036854775808≤a1)(h1b:a1≤9223372036854775807)(hn2:n2≤9223372036854775807)(hb2:∀ i,i < n2→-9223372036854775808≤c2 i∧c2 i≤9223372036854775807)(h3a: -9223372036854775808≤a3)(h3b:a3≤9223372036854775807)(hm:0≤(cmpC (cutA (pkC c0 n0 a1) (pkL c0 n0 a1) (pkH c0 n0 a1)) (cutA (pkC c2 n2 a3) (pkL c2 n2 a3) (pkH c2 n2 a3)))):ACall Tryz.prog 11 [.one (irow n0 c0),.one (.v (.int .i64 a1)),.one (irow n2 c2),.one (.v (.int .i64 a3))] (.d (.one (.v (.bool true)))):=by
 refine aN 71 [.tmp 8] Tryz.func11 rfl<|cR<|mW rfl<|mT<|cR<|mv2 rfl rfl<|mY (aPick hn0 h1a h1b) rfl<|mv2 rfl rfl<|mY (aPick hn2 h3a h3b) rfl<|mO rfl<|mO rfl<|mZ rfl<|mZ rfl<|mT<|cSeq<|AW.fact (f_qa 16 rfl (pk_ok c0 n0 a1).v.ok.z) (fun hq1=>?_);refine AW.fact (f_qa 19 rfl (pk_ok c2 n2 a3).v.ok.z) (fun hq2=>?_);exact cDs 11<|pV rfl<|pC (ACall.le (dl DV.same dl0) (al_600 hq1.1 hq1.2.1 hq1.2.2) (aQToA (K:=4) (KC:=2916) (X:=1200) (c:=(pkC c0 n0 a1)) (lo:=(pkL c0 n0 a1)) (hi:=(pkH c0 n0 a1)) ((pk_ok c0 n0 a1).v.ok.z))) rfl<|pV rfl<|pC (ACall.le (dl DV.same dl0) (al_600 hq2.1 hq2.2.1 hq2.2.2) (aQToA (K:=4) (KC:=2916) (X:=1200) (c:=(pkC c2 n2 a3)) (lo:=(pkL c2 n2 a3)) (hi:=(pkH c2 n2 a3)) ((pk_ok c2 n2 a3).v.ok.z))) rfl<|pC (aABetw0 (X:=8180) (KC:=50000) (N:=5) (pk_ok c0 n0 a1).v (pk_ok c2 n2 a3).v (by decide) (pk_ok c0 n0 a1).l5 (pk_ok c2 n2 a3).l5 (by decide) (by decide) (by decide) (by decide) (by omega)) rfl<|.cons (OpS.V _ rfl) (by kernel_rfl)<|.cons (OpS.V _ rfl) (by kernel_rfl)<|.cons (OpS.V _ rfl) (by kernel_rfl)<|.cons (OpS.N (.box 44 ([.v (.bool false),.v (.slice none 0 0),.v (.bool false),.v (.slice none 0 0)])) rfl 11 rfl rfl) (by kernel_rfl)<|.cons (OpS.S 11 (.box 44 ([.v (.bool false),.v (.slice none 0 0),.v (.bool false),.v (.slice none 0 0)])) rfl rfl) (by kernel_rfl)<|.cons (OpS.V _ rfl) (by kernel_rfl)<|.nil<|mT<|cSeq<|cR<|mv2 rfl rfl<|mY (aQCmp (N:=5) (G:=8505) (M:=4) (KD:=2916) (J:=22000) (Z:=7500) (pk_ok c0 n0 a1).v (pk_ok c2 n2 a3).v (pk_ok c0 n0 a1).x (pk_ok c2 n2 a3).x (Nat.le_trans (pk_ok c2 n2 a3).l5 (by decide)) (Nat.le_trans (pk_ok c0 n0 a1).l5 (by decide)) (by decide) (pk_ok c0 n0 a1).l5 (by decide) (pk_G (pk_ok c0 n0 a1).l5 (pk_ok c2 n2 a3).l5) (by decide) (by decide) (pk_ok c0 n0 a1).dv (by decide) (by decide) (by decide) (by decide) (by decide) (pk_J (pk_ok c0 n0 a1).l5 (pk_ok c2 n2 a3).l5) (by decide) (by decide)) rfl<|mdT rfl (by omega)<|mT<|cT rfl<|cR<|mv5 rfl rfl rfl rfl rfl<|mY (aZero0) rfl<|mv4 rfl rfl rfl rfl<|mY (aZero0) rfl<|mv2 rfl rfl<|mY (aWakes10) rfl<|mv2 rfl rfl<|mT<|cRet<|tR<|rQ rfl (AV.le.rfl)
theorem aAlgBetw1{c0 c2:Nat→Int}{n0 n2:Nat}{a1 a3:Int}{mm:Rat}(hn0:n0≤9223372036854775807)(hb0:∀ i,i < n0→-9223372036854775808≤c0 i∧c0 i≤9223372036854775807)(h1a: -9223372036854775808≤a1)(h1b:a1≤9223372036854775807)(hn2:n2≤9223372036854775807)(hb2:∀ i,i < n2→-9223372036854775808≤c2 i∧c2 i≤9223372036854775807)(h3a: -9223372036854775808≤a3)(h3b:a3≤9223372036854775807)(hm:(cmpC (cutA (pkC c0 n0 a1) (pkL c0 n0 a1) (pkH c0 n0 a1)) (cutA (pkC c2 n2 a3) (pkL c2 n2 a3) (pkH c2 n2 a3)))= -1)(he:btF (pkC c0 n0 a1) (pkC c2 n2 a3) (stp (pkC c0 n0 a1) (apF (pkC c0 n0 a1) (pkC c2 n2 a3) (stp (pkC c0 n0 a1) (pkL c0 n0 a1) (pkH c0 n0 a1) (pkC c2 n2 a3) (pkL c2 n2 a3) (pkH c2 n2 a3)) (pkL c0 n0 a1) (pkH c0 n0 a1) (pkL c2 n2 a3) (pkH c2 n2 a3)).1 (apF (pkC c0 n0 a1) (pkC c2 n2 a3) (stp (pkC c0 n0 a1) (pkL c0 n0 a1) (pkH c0 n0 a1) (pkC c2 n2 a3) (pkL c2 n2 a3) (pkH c2 n2 a3)) (pkL c0 n0 a1) (pkH c0 n0 a1) (pkL c2 n2 a3) (pkH c2 n2 a3)).2.1 (pkC c2 n2 a3) (apF (pkC c0 n0 a1) (pkC c2 n2 a3) (stp (pkC c0 n0 a1) (pkL c0 n0 a1) (pkH c0 n0 a1) (pkC c2 n2 a3) (pkL c2 n2 a3) (pkH c2 n2 a3)) (pkL c0 n0 a1) (pkH c0 n0 a1) (pkL c2 n2 a3) (pkH c2 n2 a3)).2.2.1 (apF (pkC c0 n0 a1) (pkC c2 n2 a3) (stp (pkC c0 n0 a1) (pkL c0 n0 a1) (pkH c0 n0 a1) (pkC c2 n2 a3) (pkL c2 n2 a3) (pkH c2 n2 a3)) (pkL c0 n0 a1) (pkH c0 n0 a1) (pkL c2 n2 a3) (pkH c2 n2 a3)).2.2.2.1) (apF (pkC c0 n0 a1) (pkC c2 n2 a3) (stp (pkC c0 n0 a1) (pkL c0 n0 a1) (pkH c0 n0 a1) (pkC c2 n2 a3) (pkL c2 n2 a3) (pkH c2 n2 a3)) (pkL c0 n0 a1) (pkH c0 n0 a1) (pkL c2 n2 a3) (pkH c2 n2 a3)).1 (apF (pkC c0 n0 a1) (pkC c2 n2 a3) (stp (pkC c0 n0 a1) (pkL c0 n0 a1) (pkH c0 n0 a1) (pkC c2 n2 a3) (pkL c2 n2 a3) (pkH c2 n2 a3)) (pkL c0 n0 a1) (pkH c0 n0 a1) (pkL c2 n2 a3) (pkH c2 n2 a3)).2.1 (apF (pkC c0 n0 a1) (pkC c2 n2 a3) (stp (pkC c0 n0 a1) (pkL c0 n0 a1) (pkH c0 n0 a1) (pkC c2 n2 a3) (pkL c2 n2 a3) (pkH c2 n2 a3)) (pkL c0 n0 a1) (pkH c0 n0 a1) (pkL c2 n2 a3) (pkH c2 n2 a3)).2.2.1 (apF (pkC c0 n0 a1) (pkC c2 n2 a3) (stp (pkC c0 n0 a1) (pkL c0 n0 a1) (pkH c0 n0 a1) (pkC c2 n2 a3) (pkL c2 n2 a3) (pkH c2 n2 a3)) (pkL c0 n0 a1) (pkH c0 n0 a1) (pkL c2 n2 a3) (pkH c2 n2 a3)).2.2.2.1=some mm)(g1:(cmpC (cutA (pkC c0 n0 a1) (pkL c0 n0 a1) (pkH c0 n0 a1)) (cutP mm))= -1)(g2:(cmpC (cutA (pkC c2 n2 a3) (pkL c2 n2 a3) (pkH c2 n2 a3)) (cutP mm))=1):ACall Tryz.prog 11 [.one (irow n0 c0),.one (.v (.int .i64 a1)),.one (irow n2 c2),.one (.v (.int .i64 a3))] (.d (.one (.v (.bool true)))):=by
 refine aN 71 [.tmp 8] Tryz.func11 rfl<|cR<|mW rfl<|mT<|cR<|mv2 rfl rfl<|mY (aPick hn0 h1a h1b) rfl<|mv2 rfl rfl<|mY (aPick hn2 h3a h3b) rfl<|mO rfl<|mO rfl<|mZ rfl<|mZ rfl<|mT<|cSeq<|AW.fact (f_qa 16 rfl (pk_ok c0 n0 a1).v.ok.z) (fun hq1=>?_);refine AW.fact (f_qa 19 rfl (pk_ok c2 n2 a3).v.ok.z) (fun hq2=>?_);exact cDs 11<|pV rfl<|pC (ACall.le (dl DV.same dl0) (al_600 hq1.1 hq1.2.1 hq1.2.2) (aQToA (K:=4) (KC:=2916) (X:=1200) (c:=(pkC c0 n0 a1)) (lo:=(pkL c0 n0 a1)) (hi:=(pkH c0 n0 a1)) ((pk_ok c0 n0 a1).v.ok.z))) rfl<|pV rfl<|pC (ACall.le (dl DV.same dl0) (al_600 hq2.1 hq2.2.1 hq2.2.2) (aQToA (K:=4) (KC:=2916) (X:=1200) (c:=(pkC c2 n2 a3)) (lo:=(pkL c2 n2 a3)) (hi:=(pkH c2 n2 a3)) ((pk_ok c2 n2 a3).v.ok.z))) rfl<|pC (aABetw1 (X:=8180) (KC:=50000) (N:=5) (X2:=75200) (mm:=mm) (pk_ok c0 n0 a1).v (pk_ok c2 n2 a3).v (by decide) (pk_ok c0 n0 a1).l5 (pk_ok c2 n2 a3).l5 (by decide) (by decide) (by decide) (by decide) (by decide) (by decide) hm he) rfl<|.cons (OpS.V _ rfl) (by kernel_rfl)<|.cons (OpS.V _ rfl) (by kernel_rfl)<|.cons (OpS.V _ rfl) (by kernel_rfl)<|.cons (OpS.N (.box 44 ([.v (.bool false),.v (.slice none 0 0),.v (.bool false),.v (.slice none 0 0)])) rfl 11 rfl rfl) (by kernel_rfl)<|.cons (OpS.S 11 (.box 44 (tn 150406 mm)) rfl rfl) (by kernel_rfl)<|.cons (OpS.V _ rfl) (by kernel_rfl)<|.nil<|mT<|cSeq<|cR<|mv2 rfl rfl<|mY (aQCmp (N:=5) (G:=8505) (M:=4) (KD:=2916) (J:=22000) (Z:=7500) (pk_ok c0 n0 a1).v (pk_ok c2 n2 a3).v (pk_ok c0 n0 a1).x (pk_ok c2 n2 a3).x (Nat.le_trans (pk_ok c2 n2 a3).l5 (by decide)) (Nat.le_trans (pk_ok c0 n0 a1).l5 (by decide)) (by decide) (pk_ok c0 n0 a1).l5 (by decide) (pk_G (pk_ok c0 n0 a1).l5 (pk_ok c2 n2 a3).l5) (by decide) (by decide) (pk_ok c0 n0 a1).dv (by decide) (by decide) (by decide) (by decide) (by decide) (pk_J (pk_ok c0 n0 a1).l5 (pk_ok c2 n2 a3).l5) (by decide) (by decide)) rfl<|mdF rfl (by omega)<|mT<|cFs rfl<|cR<|mW rfl<|mY (aRFromRN (M:=451218) (by decide) (by decide)) rfl<|mO rfl<|mZ rfl<|mT<|cR<|mW rfl<|mbT rfl (beq_self_eq_true _)<|mv3 rfl rfl rfl<|mY (aRSameR (isq 451218 mm) (istn 150406 mm)) rfl<|mv4 rfl rfl rfl rfl<|mY (aQCmpRat (pk_ok c0 n0 a1).v.cn (pk_ok c0 n0 a1).v.ok (by decide) (by decide) (by decide) (by decide)) rfl<|mdT rfl (by omega)<|mv4 rfl rfl rfl rfl<|mY (aQCmpRat (pk_ok c2 n2 a3).v.cn (pk_ok c2 n2 a3).v.ok (by decide) (by decide) (by decide) (by decide)) rfl<|mdT rfl (by omega)<|mv2 rfl rfl<|mY (aWakes10) rfl<|mv2 rfl rfl<|mT<|cRet<|rQ rfl (AV.le.rfl)
theorem aAlgBetweens{c0 c2:Nat→Int}{n0 n2:Nat}{a1 a3:Int}(hn0:n0≤9223372036854775807)(hb0:∀ i,i < n0→-9223372036854775808≤c0 i∧c0 i≤9223372036854775807)(h1a: -9223372036854775808≤a1)(h1b:a1≤9223372036854775807)(hn2:n2≤9223372036854775807)(hb2:∀ i,i < n2→-9223372036854775808≤c2 i∧c2 i≤9223372036854775807)(h3a: -9223372036854775808≤a3)(h3b:a3≤9223372036854775807):ACall Tryz.prog 11 [.one (irow n0 c0),.one (.v (.int .i64 a1)),.one (irow n2 c2),.one (.v (.int .i64 a3))] (.d (.one (.v (.bool true)))):=by
 rcases cmpC_bd (cutA (pkC c0 n0 a1) (pkL c0 n0 a1) (pkH c0 n0 a1)) (cutA (pkC c2 n2 a3) (pkL c2 n2 a3) (pkH c2 n2 a3)) with hm | hm | hm
 ·obtain ⟨mm,he,g1,g2⟩:=bt_ex (pk_ok c0 n0 a1).v (pk_ok c2 n2 a3).v hm
  exact aAlgBetw1 hn0 hb0 h1a h1b hn2 hb2 h3a h3b hm he g1 g2
 ·exact aAlgBetw0 hn0 hb0 h1a h1b hn2 hb2 h3a h3b (by omega)
 ·exact aAlgBetw0 hn0 hb0 h1a h1b hn2 hb2 h3a h3b (by omega)
end Go.Proofs.YthccmbncplakjaaGreat
