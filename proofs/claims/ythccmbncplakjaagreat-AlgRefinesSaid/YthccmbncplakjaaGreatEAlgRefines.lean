/-
  What the proof of AlgRefines asks for besides: joined, short spelling. No condition.
-/
import Derived.Test.YthccmbncplakjaaGreatJ5
set_option linter.unusedVariables false
set_option linter.unusedSimpArgs false
set_option maxRecDepth 100000
set_option maxHeartbeats 4000000
namespace Go.Proofs.YthccmbncplakjaaGreat
open Go.RowKit
namespace Am
end Am
section
open Go.RowKit Am
end
section
open Go.RowKit Am
end
/-! ### Rows cut: noughts on top are taken away -/
/-! ### Sums, products -/
/-! ### A region that draws, order by order -/
theorem aRSubR{a b:List Lf}{K L M:Nat}{x y:Rat}(ha:IsQ a K x)(hb:IsQ b L y)(hM:max (K+L+1) 64≤M:=by decide)(hMM:M≤10000000:=by decide):ACall Tryz.prog 39 [.agg a,.agg b] (.d (.agg (qn M (x-y)))):=by
 exact ACall.le (dl (DV.g ha) (dl (DV.g hb) dl0)) AV.le.rfl<|aN 9 [.cell 4 30] Tryz.func39 rfl<|cR<|mO rfl<|mO rfl<|mO rfl<|mT<|cSeq<|cDk 4<|oV rfl<|oV rfl<|oC (aRNegR (isq L y)) rfl<|oC (aRAddR (isq K x) (isq L (-y)) (M:=(max (K+L+1) 64))) rfl<|.nil<|mZ rfl<|mT<|cRet<|rQ rfl (le_qn (by omega) (Rat.sub_eq_add_neg x y).symm)
theorem aQFrom{a:Lf}{K M n:Nat}{c:Nat→Int}(ha:IsP a K n c)(hM:max (3*K) 64≤M:=by decide)(hn:n≤1000000:=by decide)(hMM:M≤10000000:=by decide):ACall Tryz.prog 154 [.one a] (.d (.one (qrow M (dg (rc c) (n)) (rc c)))):=by
 obtain ⟨⟨fa,ha,ea⟩,za⟩:=ha;refine ACall.le (dl (DV.l ha) dl0) AV.le.rfl<|aN 23 [.tmp 2] Tryz.func154 rfl<|cR<|mW rfl<|mT<|cR<|mW rfl<|mT<|cSeq<|cSeq<|AW.wk (wkNil 3 3 30 4 (fun _ _=> .v undef) rfl rfl)<|cReg<|mv3 rfl rfl rfl<|mT<|cBlock<|cLoop (ι:=Nat) (fun (i:Nat)=>⟨23,[(0,.d (.one (.row 2 n (ael K fa)))),(5,.d (.one (.row 2 n (ael K fa)))),(6,.d (.one (.v (.int .i64 (n:Int))))),(7,.d (.one (.v (.int .i64 ((i:Nat):Int))))),(3,.own 3)],[(3,.row 30 4 i (qel M (rc c)))]⟩) (fun (i:Nat)=>i≤n) (fun (i:Nat)=>n-i) 0 (Nat.zero_le _) (wk rfl ⟨hs rfl,hs rfl,hs rfl,hs rfl,hs rfl,trivial⟩ ⟨ho' rfl (leo_row0),trivial⟩ rfl) ?_;rintro i hI;have hi:i≤n:=hI;show AW _ _ _ ⟨_,_,_⟩
 refine cR<|mW rfl<|mT<|cSeq<|cCond rfl (fun hc1=>?_) (fun hc1=>?_)
 ·refine cSkip<|tN<|cSeq<|cBlock<|cR<|mv2 rfl rfl<|mT ?_;have hin:i < n:=by have h0:=of_decide_eq_true hc1;omega
  refine cReg<|mv3 rfl rfl rfl<|mV hTT (.d (.one (.at 2 ((ael K fa) i)))) (ixR (el:=(ael K fa)) (z:=((i:Nat):Int)) (n:=n) rfl rfl rfl rfl rfl rfl (by omega) (by omega)) ?_;exact mW rfl<|mY (aRFrom ⟨_,_,fun _ _ _ h=>h,ea i (by omega)⟩ (M:=(3*K)) (by omega) (by omega)) rfl<|mY aROf rfl<|mY (aRMake (isr (3*K) (c i)) (isr 64 1) (M:=(max (3*K) (max 64 64)))) rfl<|mB hTT (.d (.one (.row 4 1 (fun i' j'=>((qn (max (3*K) (max 64 64)) (mkR (c i) 1))[i'*4+j']?).getD (.v undef))))) rfl<|mA hTT (id:=3) (n:=i) (m:=1) (el:=(qel M (rc c))) (el2:=(fun i' j'=>((qn (max (3*K) (max 64 64)) (mkR (c i) 1))[i'*4+j']?).getD (.v undef))) rfl rfl rfl (by show (i+1)*64≤140737488355328;omega) (by omega) rfl rfl rfl rfl rfl rfl rfl rfl rfl rfl<|mW rfl<|mNil<|bN<|tN<|cReg<|mv2 rfl rfl<|mNil<|⟨(i+1),by omega,by omega,wk rfl ⟨hs rfl,hs rfl,hs rfl,hs' rfl (le_int (inc64 (by omega))),hs rfl,trivial⟩ ⟨ho' rfl (app_q rfl (Nat.le_refl _) (by omega) (mkR_int _) (fun _ _=>rfl)),trivial⟩ rfl⟩
 ·refine cExit<|tE<|tE<|bE<|tN<|cSeq ?_;have hie:n=i:=by have h0:=of_decide_eq_false hc1;omega
  subst hie;exact AW.wk (wkRow 3 rfl)<|cReg<|mW rfl<|mY aQCut rfl<|mW rfl<|mT<|cRet<|rQ rfl (AV.le.rfl)
section
open Go.RowKit Go.ChangeShapes Go.WideShapes
end
section
open Go.RowKit Go.ChangeShapes Go.WideShapes
end
section
open Go.RowKit Go.ChangeShapes Go.WideShapes
end
/-
 RATIONALS of the program, by the machine (3).
-/
instance {lo hi p q:Rat}:Decidable (bel lo hi p q):=inferInstanceAs (Decidable (_∧_))
/-! ### Orders that come together again -/
/-! ### Operations that only look at slots may come first -/
theorem aQFromA{K L M KC N X Ms:Nat}{c:Nat→Int}{lo hi:Rat}(zc:z20 c)(hS:SqP c Ms c)(h2:2≤lg c)(hN:N≤10)(hcN:lg c≤N)(hM64:1≤M)(hb:Db M c)(hB:DvB c M)(hK:K≤100000)(hKC:(M+2)*(2*3^N)≤KC)(hC:KC≤90000)(hX:max (3*L) 64≤X)(hX1:X≤90000):ACall Tryz.prog 98 [.agg ([.row 2 (lg c) (zel K c)] ++tn L lo ++tn L hi)] (.d (.agg ([.row 4 (lg c) (qel M (rc c))] ++ [exL (ChQ c KC) (fun L=>qlr KC L)] ++qn X ((exF c lo hi).1) ++qn X ((exF c lo hi).2)))):=by
 have hlc:=lg_le c;have hMK:M+2≤KC:=Nat.le_trans (Nat.le_mul_of_pos_right _ (Nat.mul_pos (by decide) (Nat.pow_pos (by decide)))) hKC;exact aN 19 [.cell 2 32] Tryz.func98 rfl<|cR<|mO rfl<|mO rfl<|mT<|cR<|mv2 rfl rfl<|mY (aQFrom (isp (K:=K) (c:=c) (z20.lg zc)) (M:=(max (3*K) 64)) (by omega) (by omega) (by omega)) rfl<|mView 6 (.d (.one (.row 4 (lg c) (qel M (rc c))))) rfl (AV.le.trans (le_dg_t (lg_dg2 zc.lg zc) (by omega) hb) AV.le.rfl)<|mY (aQPrimP zc) rfl<|mW rfl<|mT<|cSeq<|cView 3 (.d (.one (.row 4 (lg c) (qel M (rc c))))) rfl (AV.of_eq (by rw [prm_self zc fun _=>hS.pm];rfl))<|cDk 11<|.cons (OpS.V _ rfl)<|.cons (OpS.V _ rfl)<|oC (aQChainS (M:=M) (KC:=KC) (N:=N) zc h2 hN hcN hM64 (by omega) hB (by omega) (by omega) hKC hC hS) rfl<|oV rfl<|oV rfl<|oC (aRFromRN (M:=X) (by omega) (by omega)) rfl<|oV rfl<|oV rfl<|oC (aRFromRN (M:=X) (by omega) (by omega)) rfl<|oV rfl<|oC (aQExact (zc)) rfl<|.nil<|mZ rfl<|mT<|cRet<|rQ rfl (AV.le.rfl)
section
open Go.RowKit Go.ChangeShapes Go.WideShapes
end
/-- Row of numbers as the plain reckoning has them. -/
def elq(K KC X:Nat)(As:List AT):Nat→Nat→Lf:=fun i j=>(([qrow K (lg (ac As i)) (rc (ac As i))] ++ [exL (ChQ (ac As i) KC) (fun L=>qlr KC L)] ++qn X (al As i) ++qn X (ah As i))[j]?).getD (.v undef)
/-- One number, as api has it and as it is wanted. -/
structure RgP(c:Nat→Int)(lo hi:Rat)(d:Nat→Int)(p q:Rat):Prop where
 a:OkV c lo hi
 pm:Pm (lg c) c
 b:Db 4 c
 l5:lg c≤5
 dv:DvB c 4
 w:PkP d p q
 e:∀ t,cutA c lo hi t↔cutA d p q t
theorem RgP.sq{c d:Nat→Int}{lo hi p q:Rat}(h:RgP c lo hi d p q):SqP c 4 c:=sq_self h.a.ok.z h.b.lb1 h.pm h.a.sq
theorem RgP.eq{c d:Nat→Int}{lo hi p q:Rat}(h:RgP c lo hi d p q):cmpC (cutA c (exF c lo hi).1 (exF c lo hi).2) (cutA d p q)=0:=by
 have h1:=(exF_nar h.a.ok).cut;exact cmpC_eq fun t=>(h1 t).trans (h.e t)
theorem RgP.v{c d:Nat→Int}{lo hi p q:Rat}(h:RgP c lo hi d p q):OkV c (exF c lo hi).1 (exF c lo hi).2:=h.a.nar (exF_nar h.a.ok)
theorem PkP.rg{c:Nat→Int}{lo hi a b:Rat}(h:PkP c lo hi)(n:Nar c lo hi a b):RgP c a b c lo hi:=⟨h.v.nar n,h.pm,h.b,h.l5,h.dv,h,n.cut⟩
theorem rg_J{c d:Nat→Int}{L J:Nat}(h1:lg c≤5)(h2:lg d≤5)(hJ:32*L+3000≤J):32*L+3+sepE (lg c) (lg d) (14*4) (14*4)≤J:=by
 have h:sepE (lg c) (lg d) (14*4) (14*4)≤2620:=by
  unfold sepE;have:=Nat.mul_le_mul (show 2*(lg c+lg d)≤20 by omega) (show 14*4+14*4+(lg c+lg d)+8≤130 by omega);omega
 omega
theorem elg_one{K L:Nat}{c:Nat→Int}{lo hi:Rat}:AV.le (.d (.one (.row 9 1 (fun i' j'=>((alc K c L lo L hi)[i'*9+j']?).getD (.v undef))))) (.d (.one (.row 9 1 (elg K L [(c,lo,hi)])))):=le_one (row_le fun i hi j hj B w v hv=>by
 obtain rfl:i=0:=by omega
 rw [Nat.zero_mul,Nat.zero_add] at hv;exact hv)
theorem elq_one{K KC X:Nat}{c:Nat→Int}{lo hi:Rat}:AV.le (.d (.one (.row 10 1 (fun i' j'=>(([qrow K (lg c) (rc c)] ++ [exL (ChQ c KC) (fun L=>qlr KC L)] ++qn X lo ++qn X hi)[i'*10+j']?).getD (.v undef))))) (.d (.one (.row 10 1 (elq K KC X [(c,lo,hi)])))):=le_one (row_le fun i hi j hj B w v hv=>by
 obtain rfl:i=0:=by omega
 rw [Nat.zero_mul,Nat.zero_add] at hv;exact hv)
theorem rg_one{c d:Nat→Int}{lo hi p q:Rat}(h:RgP c lo hi d p q):∀ i,i < 1→RgP (ac [(c,lo,hi)] i) (al [(c,lo,hi)] i) (ah [(c,lo,hi)] i) (ac [(d,p,q)] i) (al [(d,p,q)] i) (ah [(d,p,q)] i):=fun i hi=>by
 obtain rfl:i=0:=by omega
 exact h
theorem aValid{K L X M KC N Ms:Nat}{c:Nat→Int}{lo hi:Rat}(o:OkV c lo hi)(hS:SqP c Ms c)(hb:Db M c)(hB:DvB c M)(hN:N≤10)(hcN:lg c≤N)(hM64:1≤M)(hK:K≤100000)(hKC:(M+2)*(2*3^N)≤KC)(hC:KC≤90000)(hX:max (3*L) 64≤X)(hX1:X≤90000):ACall Tryz.prog 97 [.agg ([.row 2 (lg c) (zel K c)] ++tn L lo ++tn L hi)] (.d (.one (.v (.bool true)))):=by
 have zc:=o.ok.z;have h2:=o.l2;have hlc:=lg_le c;have hMK:M+2≤KC:=Nat.le_trans (Nat.le_mul_of_pos_right _ (Nat.mul_pos (by decide) (Nat.pow_pos (by decide)))) hKC;refine aN 52 [.tmp 2] Tryz.func97 rfl<|cR<|mO rfl<|mW rfl<|mT<|cR<|mv2 rfl rfl<|mY (aQFrom (isp (K:=K) (c:=c) (z20.lg zc)) (M:=(max (3*K) 64)) (by omega) (by omega) (by omega)) rfl<|mView 9 (.d (.one (.row 4 (lg c) (qel M (rc c))))) rfl (AV.le.trans (le_dg_t (lg_dg2 zc.lg zc) (by omega) hb) AV.le.rfl)<|mW rfl<|mT<|cSeq<|cR<|mv2 rfl rfl<|mdF rfl (by omega)<|mv6 rfl rfl rfl rfl rfl rfl<|mbF rfl (by simp)<|mv3 rfl rfl rfl<|mY (aQFactors (M:=M) (KC:=KC) (N:=N) zc h2 hN hcN hM64 hM64 hB hM64 (by omega) hKC hC) rfl<|mEx (Qx:=FacP c) (L:=fun Ls=>qlr M Ls) 23 rfl (fun Ls hLs=>?_);refine mW rfl<|mbF rfl (by rw [hLs.one o.sq];rfl)<|mW rfl<|mT<|cFs rfl<|cSeq<|cDk 8<|oV rfl<|oV rfl<|oC (aRFromRN (M:=X) (by omega) (by omega)) rfl<|oV rfl<|oV rfl<|oC (aRFromRN (M:=X) (by omega) (by omega)) rfl<|.cons (OpS.N (.box 30 ([.v (.slice none 0 0),.v (.bool false),.v (.slice none 0 0),.v (.bool false)])) rfl 4 rfl rfl)<|.cons (OpS.N (.box 30 ([.v (.slice none 0 0),.v (.bool false),.v (.slice none 0 0),.v (.bool false)])) rfl 5 rfl rfl)<|.nil<|mZ rfl<|mZ rfl<|mT<|cSeq<|cR<|mv2 rfl rfl<|mY (aRCmpR (isq X lo) (isq X hi)) rfl<|mW rfl<|mT<|cBlock<|cSeq ?_;have hle:=o.ok.le
 by_cases he:lo=hi
 ·have hz0:sgq (FF c lo)=0:=by have h:=sgC_zero o.vc;rwa [cutA_P (show hi≤lo by grind),sgC_P (FF_po zc)] at h
  exact cReg<|mW rfl<|mdF rfl (by have:=cmpQ_le.2 hle;omega)<|mW rfl<|mT<|cF rfl<|cR<|mW rfl<|mbT rfl (beq_iff_eq.2 (cmpQ_zero.2 he))<|mW rfl<|mT<|cT rfl<|cR<|mv2 rfl rfl<|mY (aQSignN (zc) rfl) rfl<|mbT rfl (beq_iff_eq.2 hz0)<|mW rfl<|mT<|cRet<|bR<|tR<|rQ rfl (AV.le.rfl)
 ·have hlt:lo < hi:=by grind
  exact cReg<|mW rfl<|mdF rfl (by have:=cmpQ_le.2 hle;omega)<|mW rfl<|mT<|cF rfl<|cR<|mW rfl<|mbF rfl (beq_eq_false_iff_ne.2 (fun k=>he (cmpQ_zero.1 k)))<|mW rfl<|mT<|cF rfl<|cSkip<|bN<|tN<|cSeq<|cDk 7<|.cons (OpS.V _ rfl)<|oC (aQChainS (M:=M) (KC:=KC) (N:=N) zc h2 hN hcN hM64 hM64 hB hM64 (by omega) hKC hC hS) rfl<|oV rfl<|oV rfl<|oC (aQBtw (by grind)) rfl<|oT rfl (beq_iff_eq.2 (by rw [o.cnt1 hlt];rfl))<|.cons (OpS.V _ rfl)<|.nil<|mT<|cRet<|rQ rfl (AV.le.rfl)
theorem elq_z{As:List AT}{n:Nat}(h:∀ i,i < n→z20 (ac As i))(hn:As.length≤n)(i:Nat):z20 (ac As i):=by
 by_cases hi:i < n
 ·exact h i hi
 ·have e:ga As i=(fun _=>0,0,0):=by unfold ga;rw [List.getD_eq_getElem?_getD,List.getElem?_eq_none (by omega)];rfl
  unfold ac;rw [e];exact z20_nil
theorem aRight{K L X n J1 J Z:Nat}{As Bs:List AT}(hA:As.length≤n)(hB:Bs.length≤n)(hn:n≤1000)(hok:∀ i,i < n→RgP (ac As i) (al As i) (ah As i) (ac Bs i) (al Bs i) (ah Bs i))(hK:K≤100000)(hX:max (3*L) 64≤X)(hX1:X≤90000)(hJ1:X≤2*J1)(hJ:32*J1+3000≤J)(hZ:3*(3*J1+J / 32+2)≤Z)(hZ9:Z≤90000):ACall Tryz.prog 34 [.one (.row 9 n (elg K L As)),.one (.row 10 n (elq 4 2916 X Bs))] (.d (.one (.v (.bool true)))):=by
 have hz:=elq_z (fun i hi=>(hok i hi).a.ok.z) hA;have hzB:=elq_z (fun i hi=>(hok i hi).w.v.ok.z) hB;refine aN 36 [.tmp 4] Tryz.func34 rfl<|cR<|mW rfl<|mT<|cSeq<|cR<|mv4 rfl rfl rfl rfl<|mbF rfl (by simp)<|mT<|cFs rfl<|cSeq<|cR<|mv3 rfl rfl rfl<|mT<|cBlock<|cLoop (ι:=Nat) (fun (i:Nat)=>⟨36,[(0,.d (.one (.row 9 n (elg K L As)))),(1,.d (.one (.row 10 n (elq 4 2916 X Bs)))),(12,.d (.one (.v (.int .i64 (n:Int))))),(13,.d (.one (.v (.int .i64 ((i:Nat):Int)))))],[]⟩) (fun (i:Nat)=>i≤n) (fun (i:Nat)=>n-i) 0 (Nat.zero_le _) (wk rfl ⟨hs rfl,hs rfl,hs rfl,hs' rfl (le_int rfl),trivial⟩ trivial rfl) ?_;rintro i hI;have hi:i≤n:=hI;show AW _ _ _ ⟨_,_,_⟩
 refine cR<|mW rfl<|mT<|cSeq<|cCond rfl (fun hc1=>?_) (fun hc1=>?_)
 ·refine cSkip<|tN<|cSeq<|cBlock<|cSeq ?_;have hin:i < n:=by have h0:=of_decide_eq_true hc1;omega
  have v:=hok i hin;refine cReg<|mv2 rfl rfl<|mT<|cSeq<|cDk 19<|.cons (OpS.V _ rfl)<|.cons (OpS.V _ rfl)<|.cons (OpS.V (.d (.one (.at 9 ((elg K L As) i)))) (ixR (el:=(elg K L As)) (z:=((i:Nat):Int)) (n:=n) rfl rfl rfl rfl rfl rfl (by omega) (by omega))) ?_;refine oV rfl<|oC (aValid (X:=X) (M:=4) (KC:=2916) (N:=5) (Ms:=4) v.a v.sq v.b v.dv (by decide) v.l5 (by decide) hK (by decide) (by decide) hX hX1) rfl<|oV rfl<|.cons (OpS.V _ rfl)<|.cons (OpS.V _ rfl)<|.cons (OpS.V _ rfl)<|.cons (OpS.V (.d (.one (.at 9 ((elg K L As) i)))) (ixR (el:=(elg K L As)) (z:=((i:Nat):Int)) (n:=n) rfl rfl rfl rfl rfl rfl (by omega) (by omega))) ?_;refine oV rfl<|oC (aQFromA (M:=4) (KC:=2916) (N:=5) (X:=X) (Ms:=4) v.a.ok.z v.sq v.a.l2 (by decide) v.l5 (by decide) v.b v.dv hK (by decide) (by decide) hX hX1) rfl<|.cons (OpS.V _ rfl)<|.cons (OpS.V _ rfl)<|.cons (OpS.V (.d (.one (.at 10 ((elq 4 2916 X Bs) i)))) (ixR (el:=(elq 4 2916 X Bs)) (z:=((i:Nat):Int)) (n:=n) rfl rfl rfl rfl rfl rfl (by omega) (by omega))) ?_;exact oV rfl<|oC (aQCmp (N:=5) (G:=8505) (M:=4) (KD:=2916) (J:=J) (Z:=Z) v.v v.w.v (exF_ex _ _ _) v.w.x (Nat.le_trans v.w.l5 (by decide)) (Nat.le_trans v.l5 (by decide)) (by decide) v.l5 (by decide) (pk_G v.l5 v.w.l5) (by decide) (by decide) v.dv (by decide) (by decide) (by decide) hX1 hJ1 (rg_J v.l5 v.w.l5 hJ) hZ hZ9) rfl<|oF rfl (by rw [v.eq];rfl)<|.cons (OpS.V _ rfl)<|.nil<|mT<|cF rfl<|cSkip<|bN<|tN<|cReg<|mv2 rfl rfl<|mNil<|⟨(i+1),by omega,by omega,wk rfl ⟨hs rfl,hs rfl,hs rfl,hs' rfl (le_int (inc64 (by omega))),trivial⟩ trivial rfl⟩
 ·exact cExit<|tE<|tE<|bE<|tN<|cR<|mW rfl<|mT<|cRet<|rQ rfl (AV.le.rfl)
theorem qa_X{K KC X Y:Nat}{c:Nat→Int}{lo hi:Rat}(h1:Qb Y lo)(h2:Qb Y hi):AV.le (.d (.agg ([qrow K (lg c) (rc c)] ++ [exL (ChQ c KC) (fun L=>qlr KC L)] ++qn X lo ++qn X hi))) (.d (.agg ([qrow K (lg c) (rc c)] ++ [exL (ChQ c KC) (fun L=>qlr KC L)] ++qn Y lo ++qn Y hi))):=le_agg (ls_cat (ls_cat (fun _ _ _ h=>h) (qn_tight h1)) (qn_tight h2))
abbrev qaA(K KC X:Nat)(c:Nat→Int)(lo hi:Rat):AV:= .d (.agg ([qrow K (lg c) (rc c)] ++ [exL (ChQ c KC) (fun L=>qlr KC L)] ++qn X lo ++qn X hi))
theorem le_rnp{K m:Nat}:AV.le (.d (.agg [dn K m,.v (.bool false)])) (.d (.agg (rn K ((m:Nat):Int)))):=AV.of_eq (by unfold rn;rw [Int.natAbs_natCast,decide_eq_false (by omega)])
theorem mk_pow(n:Nat):mkR 1 ((2^n:Nat):Int)=Rat.divInt 1 ((2:Int)^n):=by
 have e:((2^n:Nat):Int)=(2:Int)^n:=by rw [Int.natCast_pow];rfl
 rw [e,mkR_ne (two_ne n)]
theorem aAlgRefines{c0:Nat→Int}{n0:Nat}{a1 a2:Int}(hn0:n0≤9223372036854775807)(hb0:∀ i,i < n0→-9223372036854775808≤c0 i∧c0 i≤9223372036854775807)(h1a: -9223372036854775808≤a1)(h1b:a1≤9223372036854775807)(h2a: -9223372036854775808≤a2)(h2b:a2≤9223372036854775807):ACall Tryz.prog 6 [.one (irow n0 c0),.one (.v (.int .i64 a1)),.one (.v (.int .i64 a2))] (.d (.one (.v (.bool true)))):=by
 refine aN 66 [.tmp 6] Tryz.func6 rfl<|cR<|mW rfl<|mT<|cR<|mv2 rfl rfl<|mY (aPick hn0 h1a h1b) rfl<|mO rfl<|mZ rfl<|mT<|cSeq<|AW.fact (f_qa 15 rfl (pk_ok c0 n0 a1).v.ok.z) (fun hq1=>?_);refine cReg<|mW rfl<|mY (ACall.le (dl DV.same dl0) (al_600 hq1.1 hq1.2.1 hq1.2.2) (aQToA (K:=4) (KC:=2916) (X:=1200) (c:=(pkC c0 n0 a1)) (lo:=(pkL c0 n0 a1)) (hi:=(pkH c0 n0 a1)) ((pk_ok c0 n0 a1).v.ok.z))) rfl<|mO rfl<|mZ rfl<|mT<|cCut (ι:=Int) (fun k=>⟨66,[(6,.d (.one (.v (.bool false)))),(7,.ptr 7 0),(8,.ptr 8 0),(2,.d (.one (.v (.int .i64 k))))],[(7,.box 32 ([.row 4 (lg (pkC c0 n0 a1)) (qel 4 (rc (pkC c0 n0 a1)))] ++ [exL (ChQ (pkC c0 n0 a1) 2916) (fun L=>qlr 2916 L)] ++qn 1200 (pkL c0 n0 a1) ++qn 1200 (pkH c0 n0 a1))),(8,.box 46 ([.row 2 (lg (pkC c0 n0 a1)) (zel 4 (pkC c0 n0 a1))] ++tn 600 (pkL c0 n0 a1) ++tn 600 (pkH c0 n0 a1)))]⟩) (fun k=> -9223372036854775808≤k∧k≤60) ?_ (fun k hk0=>?_)
 ·refine cR<|mv2 rfl rfl<|mT<|cCond rfl (fun hc1=>?_) (fun hc1=>?_)
  ·exact cReg<|mW rfl<|mY (aWithin (by decide) (by decide) h2a h2b) rfl<|mW rfl<|mT<|⟨(a2%(60:Int)),by omega,wkr rfl rfl⟩
  ·exact cSkip<|tN<|⟨a2,⟨h2a,by have h0:=of_decide_eq_false hc1;omega⟩,wkr rfl rfl⟩
 ·obtain ⟨hk1,hk2⟩:=hk0;show AW _ _ _ ⟨_,_,_⟩
  obtain ⟨hn,hw⟩:=rf_ok (eps_pos k.toNat).1 19261 (pk_ok c0 n0 a1).v.ok (eps_wide (q6 hq1.2.1) (q6 hq1.2.2) (J:=19261) (n:=k.toNat) (by omega));refine cR<|mv2 rfl rfl<|mY (aRefine (J:=19261) (X:=2410) (pk_ok c0 n0 a1).v.ok hk1 (by omega) (by omega) (by decide) (by omega) (by omega)) rfl<|mO rfl<|mZ rfl<|mT<|cSeq<|cR<|mW rfl<|mB hTT (.d (.one (.row 9 1 (fun i' j'=>(([.row 2 (lg (pkC c0 n0 a1)) (zel 4 (pkC c0 n0 a1))] ++tn 2410 ((rf (pkC c0 n0 a1) (Rat.divInt 1 ((2:Int)^(k).toNat)) 19261 (pkL c0 n0 a1) (pkH c0 n0 a1)).1) ++tn 2410 ((rf (pkC c0 n0 a1) (Rat.divInt 1 ((2:Int)^(k).toNat)) 19261 (pkL c0 n0 a1) (pkH c0 n0 a1)).2))[i'*9+j']?).getD (.v undef))))) rfl<|mW rfl<|mView 27 (qaA 4 2916 7230 (pkC c0 n0 a1) (pkL c0 n0 a1) (pkH c0 n0 a1)) rfl (qa_X (K:=4) (KC:=2916) (X:=1200) (Y:=7230) (c:=(pkC c0 n0 a1)) (qb_mono hq1.2.1 (by decide)) (qb_mono hq1.2.2 (by decide)))<|mB hTT (.d (.one (.row 10 1 (fun i' j'=>(([.row 4 (lg (pkC c0 n0 a1)) (qel 4 (rc (pkC c0 n0 a1)))] ++ [exL (ChQ (pkC c0 n0 a1) 2916) (fun L=>qlr 2916 L)] ++qn 7230 (pkL c0 n0 a1) ++qn 7230 (pkH c0 n0 a1))[i'*10+j']?).getD (.v undef))))) rfl<|mY (ACall.le (dl (dle elg_one) (dl (dle elq_one) dl0)) AV.le.rfl (aRight (K:=4) (L:=2410) (X:=7230) (n:=1) (J1:=3615) (J:=118680) (Z:=44000) (As:= [((pkC c0 n0 a1),(rf (pkC c0 n0 a1) (Rat.divInt 1 ((2:Int)^k.toNat)) 19261 (pkL c0 n0 a1) (pkH c0 n0 a1)).1,(rf (pkC c0 n0 a1) (Rat.divInt 1 ((2:Int)^k.toNat)) 19261 (pkL c0 n0 a1) (pkH c0 n0 a1)).2)]) (Bs:= [((pkC c0 n0 a1),(pkL c0 n0 a1),(pkH c0 n0 a1))]) (Nat.le_refl 1) (Nat.le_refl 1) (by decide) (rg_one ((pk_ok c0 n0 a1).rg hn)) (by decide) (by decide) (by decide) (by decide) (by decide) (by decide) (by decide))) rfl<|mW rfl<|mT<|cFs rfl<|cSeq<|cDk 8<|oV rfl<|oV rfl<|oC (aRFromRN (M:=7230) (by decide) (by decide)) rfl<|oV rfl<|oV rfl<|oC (aRFromRN (M:=7230) (by decide) (by decide)) rfl<|.cons (OpS.N (.box 30 ([.v (.slice none 0 0),.v (.bool false),.v (.slice none 0 0),.v (.bool false)])) rfl 10 rfl rfl)<|.cons (OpS.N (.box 30 ([.v (.slice none 0 0),.v (.bool false),.v (.slice none 0 0),.v (.bool false)])) rfl 11 rfl rfl)<|.nil<|mZ rfl<|mZ rfl<|mT<|cR<|mY aROf rfl<|mW rfl ?_;refine mV hTT (.d (.one (.v (.int .i64 ((k.toNat:Nat):Int))))) (evi (by rw [if_pos rfl];split <;> omega)) ?_;exact mY (aNPow (by omega)) rfl<|mW rfl<|mView 41 (.d (.agg (rn (k.toNat+1) ((2^k.toNat:Nat):Int)))) rfl (le_rnp)<|mY (aRMake (isr 64 1) (isr (k.toNat+1) ((2^k.toNat:Nat):Int)) (M:=(max 64 (max (k.toNat+1) 64)))) rfl<|mO rfl<|mZ rfl<|mT<|cSeq<|cDk 24<|oV rfl<|oV rfl<|oC (aRSubR (isq 7230 ((rf (pkC c0 n0 a1) (Rat.divInt 1 ((2:Int)^(k).toNat)) 19261 (pkL c0 n0 a1) (pkH c0 n0 a1)).2)) (isq 7230 ((rf (pkC c0 n0 a1) (Rat.divInt 1 ((2:Int)^(k).toNat)) 19261 (pkL c0 n0 a1) (pkH c0 n0 a1)).1)) (M:=14461) (by decide) (by decide)) rfl<|oV rfl<|oC (aRCmpR (isq 14461 ((rf (pkC c0 n0 a1) (Rat.divInt 1 ((2:Int)^(k).toNat)) 19261 (pkL c0 n0 a1) (pkH c0 n0 a1)).2-(rf (pkC c0 n0 a1) (Rat.divInt 1 ((2:Int)^(k).toNat)) 19261 (pkL c0 n0 a1) (pkH c0 n0 a1)).1)) (isq (max 64 (max (k.toNat+1) 64)) (mkR 1 ((2^k.toNat:Nat):Int)))) rfl<|oTd rfl (cmpQ_le.2 (by rw [mk_pow];exact hw))<|.cons (OpS.V _ rfl)<|oV rfl<|oV rfl<|oV rfl<|oC (aRCmpR (isq 7230 ((rf (pkC c0 n0 a1) (Rat.divInt 1 ((2:Int)^(k).toNat)) 19261 (pkL c0 n0 a1) (pkH c0 n0 a1)).1)) (isq 1200 (pkL c0 n0 a1))) rfl<|oTd rfl (cmpQ_ge.2 hn.lo)<|.cons (OpS.V _ rfl)<|.cons (OpS.V _ rfl)<|oV rfl<|oV rfl<|oV rfl<|oC (aRCmpR (isq 7230 ((rf (pkC c0 n0 a1) (Rat.divInt 1 ((2:Int)^(k).toNat)) 19261 (pkL c0 n0 a1) (pkH c0 n0 a1)).2)) (isq 1200 (pkH c0 n0 a1))) rfl<|oTd rfl (cmpQ_le.2 hn.hi)<|.cons (OpS.V _ rfl)<|.cons (OpS.V _ rfl)<|oC (aWakes10) rfl<|.cons (OpS.V _ rfl)<|.cons (OpS.V _ rfl)<|.nil<|mT<|cRet<|rQ rfl (AV.le.rfl)
end Go.Proofs.YthccmbncplakjaaGreat
