/-
  What the proof of AlgSigns asks for besides: joined, short spelling. No condition.
-/
import Derived.Test.YthccmbncplakjaaGreatJ5
set_option linter.unusedVariables false
set_option linter.unusedSimpArgs false
set_option maxRecDepth 100000
set_option maxHeartbeats 4000000
namespace Go.Proofs.YthccmbncplakjaaGreat
open Go.RowKit
namespace Am
end Am
section
open Go.RowKit Am
end
section
open Go.RowKit Am
end
/-! ### Rows cut: noughts on top are taken away -/
/-! ### Sums, products -/
/-! ### A region that draws, order by order -/
section
open Go.RowKit Go.ChangeShapes Go.WideShapes
end
section
open Go.RowKit Go.ChangeShapes Go.WideShapes
end
section
open Go.RowKit Go.ChangeShapes Go.WideShapes
end
/-
 RATIONALS of the program, by the machine (3).
-/
instance {lo hi p q:Rat}:Decidable (bel lo hi p q):=inferInstanceAs (Decidable (_∧_))
/-! ### Orders that come together again -/
/-! ### Operations that only look at slots may come first -/
theorem sg_no{c y:Nat→Int}{M KC L f:Nat}{Lc:List (Nat→Int)}{lo hi u1 u2:Rat}(zy:z20 y)(hy0:lg y≠0)(hL:ChP y M KC Lc)(hV:OkV c lo hi)(hsg:¬ sgC (FF y) (cutA c lo hi)=0)(hI:SgI c Lc L (stp c lo hi y 0 0) f lo hi u1 u2)(hf:f=0)(hul:u1 < u2)(hcn:¬ cntC (sqP y) u1 u2=0):False:=by
 have hr:=sgF_stp (L:=Lc) zy hy0 hL hV (fun k=>hsg ((vc_iff hV.ok.cut (FF_po zy)).1 k));rw [hI.end_ hf] at hr;obtain ⟨_,hcf,_⟩:=hL.q.cnt (lo:=u1) (hi:=u2) (by grind);rcases hr.fr with k | k
 ·exact absurd (show u2≤u1 from k) (by grind)
 ·rw [hL.sq.eq] at k;exact hcn (hcf.2 k)
theorem sg_end{c y:Nat→Int}{M KC L f:Nat}{Lc:List (Nat→Int)}{lo hi u1 u2:Rat}(zy:z20 y)(hy0:lg y≠0)(hL:ChP y M KC Lc)(hV:OkV c lo hi)(hsg:¬ sgC (FF y) (cutA c lo hi)=0)(hI:SgI c Lc L (stp c lo hi y 0 0) f lo hi u1 u2)(hst:u2≤u1∨vr (sgL Lc u1)=vr (sgL Lc u2)):sgq (FF y u2)=sgC (FF y) (cutA c lo hi):=by
 have hr:=sgF_stp (L:=Lc) zy hy0 hL hV (fun k=>hsg ((vc_iff hV.ok.cut (FF_po zy)).1 k));have e:=hI.stop hst;have h9:=sign_fin zy hy0 hL hV hr;rw [e] at h9;exact h9
theorem aQSignAt{K KC X N G M KD My Ny KY Ms L J Z:Nat}{c y:Nat→Int}{lo hi:Rat}(zy:z20 y)(hV:OkV c lo hi)(hy10:lg y≤10)(hc10:lg c≤10)(hN:N≤10)(hcN:lg c≤N)(hK1:1≤K)(hG:(K+1)*(max (lg y+2-lg c) 1*3^lg c)≤G)(hG9:G≤90000)(hM64:1≤M)(hB:DvB c M)(hKD:(M+2)*(2*3^N)≤KD)(hKD9:KD≤90000)(hKC:KC≤90000)(hX1:X≤90000)(hex0:EX c lo hi)(hY:¬ (sgC (FF y) (cutA c lo hi))=0→2≤lg y→1≤My∧Ny≤10∧lg y≤Ny∧DvB y My∧(My+2)*(2*3^Ny)≤KY∧KY≤90000∧SqP y Ms (sqP y))(hL:X≤2*L)(hJ:J=stp c lo hi y 0 0)(hZ:3*(3*L+J / 32+2)≤Z)(hZ9:Z≤90000):ACall Tryz.prog 21 [.one (qrow K (lg y) (rc y)),.agg ([.row 4 (lg c) (qel K (rc c))] ++ [exL (ChQ c KC) (fun L=>qlr KC L)] ++qn X lo ++qn X hi)] (.d (.one (.v (.int .i64 (sgC (FF y) (cutA c lo hi)))))):=by
 refine ACall.fact10 (enters Tryz.func21 rfl rfl) (p:=Db K y∧Db K c∧Qb X lo∧Qb X hi) (fun B w vs h=>match vs,h with | [_,_],⟨h1,⟨cs,_,hl⟩,_⟩=>⟨qrow_bd zy.lg h1,qa_bd hV.ok.z hl⟩) (fun hb=>?_);have hlc:=lg_le c;have hly:=lg_le y;have hKG:=(Gw.mk hG).bd;have hMK:M+2≤KD:=Nat.le_trans (Nat.le_mul_of_pos_right _ (Nat.mul_pos (by decide) (Nat.pow_pos (by decide)))) hKD;refine aN 40 [.tmp 4] Tryz.func21 rfl<|cR<|mO rfl<|mW rfl<|mT<|cSeq<|cR<|mv2 rfl rfl<|mY (aQZeroA (N:=N) (G:=G) (M:=M) (KD:=KD) zy hV hy10 hc10 hN hcN hK1 hG hG9 hM64 hB hKD hKD9 hKC hX1) rfl<|mT<|cCond rfl (fun hc1=>?_) (fun hc1=>?_)
 ·exact cR<|mW rfl<|mT<|cRet<|tR<|rQ rfl (le_int (of_decide_eq_true hc1).symm)
 ·refine cSkip<|tN<|cSeq<|cSeq ?_;have hsg:¬ (sgC (FF y) (cutA c lo hi))=0:=of_decide_eq_false hc1;have hy0:lg y≠0:=fun e=>hsg (sgc_nil zy e hV.ok.cut)
  by_cases he:lo=hi
  ·exact cReg<|mW rfl<|mY (aQPointB (decide_eq_true he)) rfl<|mW rfl<|mG rfl rfl<|mG rfl rfl<|mG rfl rfl<|mW rfl<|mT<|cT rfl<|cR<|mv3 rfl rfl rfl<|mY (aQSignN (zy) rfl) rfl<|mW rfl<|mT<|cRet<|tR<|rQ rfl (le_int (by rw [cutA_P (show hi≤lo by grind),sgC_P (FF_po zy)]))
  ·have hlt:lo < hi:=by have:=hV.ok.le;grind
   by_cases hy1:lg y=1
   ·exact cReg<|mW rfl<|mY (aQPointB (decide_eq_false he)) rfl<|mv3 rfl rfl rfl<|mbT rfl (beq_iff_eq.2 (by omega))<|mW rfl<|mT<|cT rfl<|cR<|mv3 rfl rfl rfl<|mY (aQSignN (zy) rfl) rfl<|mW rfl<|mT<|cRet<|tR<|rQ rfl (le_int (sgC_eq hV.ok.cut (sgc_const zy hy1 hV.ok.cut lo)).symm)
   ·refine cReg<|mW rfl<|mY (aQPointB (decide_eq_false he)) rfl<|mv3 rfl rfl rfl<|mbF rfl (beq_eq_false_iff_ne.2 (by omega))<|mW rfl<|mT<|cFs rfl<|cSeq ?_;have hy2:2≤lg y:=by omega
    obtain ⟨hMy,hNy,hNyl,hBy,hKY,hKY9,hSy⟩:=hY hsg hy2;have hMyK:My+2≤KY:=Nat.le_trans (Nat.le_mul_of_pos_right _ (Nat.mul_pos (by decide) (Nat.pow_pos (by decide)))) hKY;refine cReg<|mW rfl<|mY (aQChain (M:=My) (KC:=KY) (N:=Ny) (Ms:=Ms) zy hy2 hNy (by omega) hMy (by omega) hBy (by omega) (by omega) hKY hKY9 hSy) rfl<|mW rfl<|mT<|cSeq<|cBlock<|AW.fact (f_exL 5 rfl) (fun hex=>?_);obtain ⟨Lc,hLc⟩:=hex;have hQc:=hLc.q;have tl:Tb L lo:=Qb.tb (K:=L) (qb_mono hb.2.2.1 (by omega)) (Nat.le_refl _);have th:Tb L hi:=Qb.tb (K:=L) (qb_mono hb.2.2.2 (by omega)) (Nat.le_refl _);refine cView 5 (.d (.one (exL (ChQ (sqP y) KY) (fun L=>qlr KY L)))) rfl (le_one (exL_mono fun L h=>⟨L,h.q,fun _ _ _ h=>h⟩))<|cLoop (ι:=Nat×Rat×Rat) (fun (p:Nat×Rat×Rat)=>match p with | (f,u1,u2)=>⟨40,[(0,.d (.one (.row 4 (lg y) (qel K (rc y))))),(3,.ptr 3 0),(4,.d (.one (.v (.int .i64 0)))),(5,.d (.one (exL (ChQ (sqP y) KY) (fun L=>qlr KY L))))],[(3,.box 32 ([.row 4 (lg c) (qel K (rc c))] ++ [exL (ChQ c KC) (fun L=>qlr KC L)] ++qn Z u1 ++qn Z u2))]⟩) (fun (p:Nat×Rat×Rat)=>match p with | (f,u1,u2)=>SgI c Lc L J f lo hi u1 u2∧EX c u1 u2) (fun (p:Nat×Rat×Rat)=>match p with | (f,u1,u2)=>f) (J,lo,hi) (⟨.start hV.ok tl th,hex0⟩) (wk rfl ⟨hs rfl,hs rfl,hs rfl,hs rfl,trivial⟩ ⟨ho' rfl (leo_box (ls_cat (ls_cat (fun B w cs h=>h) (qn_tight (tl.qb (by omega)))) (qn_tight (th.qb (by omega))))),trivial⟩ rfl) ?_;rintro ⟨f,u1,u2⟩ hI;obtain ⟨hI,hx⟩:SgI c Lc L J f lo hi u1 u2∧EX c u1 u2:=hI;show AW _ _ _ ⟨_,_,_⟩
    refine cSeq<|cSeq ?_
    by_cases hu:u1=u2
    ·exact cReg<|mW rfl<|mY (aQPointB (decide_eq_true hu)) rfl<|mv2 rfl rfl<|mG rfl rfl<|mG rfl rfl<|mG rfl rfl<|mG rfl rfl<|mG rfl rfl<|mG rfl rfl<|mG rfl rfl<|mW rfl<|mT<|cF rfl<|cExit<|tE<|tE<|bE<|tN<|cR<|mv3 rfl rfl rfl<|mY (aQSignN (zy) rfl) rfl<|mW rfl<|mT<|cRet<|rQ rfl (le_int (sg_end zy hy0 hLc hV hsg (hJ▸hI) (Or.inl (by grind))))
    ·have hul:u1 < u2:=by have:=hI.ok.le;grind
     obtain ⟨hcv,hcf,_⟩:=hQc.cnt (lo:=u1) (hi:=u2) (by grind)
     by_cases hcn:cntC (sqP y) u1 u2=0
     ·exact cReg<|mW rfl<|mY (aQPointB (decide_eq_false hu)) rfl<|mv6 rfl rfl rfl rfl rfl rfl<|mW rfl<|mY (aQBtw (by grind)) rfl<|mdF rfl (by omega)<|mW rfl<|mT<|cF rfl<|cExit<|tE<|tE<|bE<|tN<|cR<|mv3 rfl rfl rfl<|mY (aQSignN (zy) rfl) rfl<|mW rfl<|mT<|cRet<|rQ rfl (le_int (sg_end zy hy0 hLc hV hsg (hJ▸hI) (Or.inr (by omega))))
     ·refine cReg<|mW rfl<|mY (aQPointB (decide_eq_false hu)) rfl<|mv6 rfl rfl rfl rfl rfl rfl<|mW rfl<|mY (aQBtw (by grind)) rfl<|mdT rfl (by omega)<|mW rfl<|mT<|cT rfl<|cSkip<|tN<|cBlock ?_;have hf0:f≠0:=fun hf=>sg_no zy hy0 hLc hV hsg (hJ▸hI) hf hul hcn
      have hgo:=hI.go hf0 (show ¬ u2≤u1 by grind) (show ¬ vr (sgL Lc u1)=vr (sgL Lc u2) by omega);have hdm:=(hI.d.mid.2.qb (X:=Z) (by have:=hI.fl;omega)).1;have hex2:=(hV.cn.half hI.ok hx).2;exact cReg<|mW rfl<|mY (aQHalve (Y:=Z) hV.cn hI.ok hx hdm) rfl<|mZ rfl<|mNil<|bN<|⟨((f-1),(hlf c u1 u2).1,(hlf c u1 u2).2),⟨hgo,hex2⟩,by show f-1 < f;omega,wkr rfl rfl⟩
section
open Go.RowKit Go.ChangeShapes Go.WideShapes
end
theorem md4_cv{p c:Nat→Int}(h:MdP 4 p)(zc:z20 c)(bc:Db 4 c)(hc:lg c≠0)(l5:lg c≤5):z20 (conv p c)∧lg (conv p c)=lg p+lg c-1∧Db 7 (conv p c):=by
 have h1:=h.d;obtain ⟨z,e⟩:=lg_conv h.z zc h.n0 hc (by omega);exact ⟨z,e,fun i=>Nat.lt_of_le_of_lt (conv_get z h.b (fun i=>Nat.le_of_lt (bc i)) i) (by decide)⟩
theorem md4_dv{p:Nat→Int}(h:MdP 4 p):DvB p 14:=dvb_small h.z h.n0 h.d h.b (by decide) (by decide) (by decide)
theorem md4_lb{p:Nat→Int}(h:MdP 4 p):Lb 4 p:=fun i=>Nat.lt_of_le_of_lt (h.b i) (by decide)
theorem md4_sq{p:Nat→Int}(h:MdP 4 p):∃ M,2≤lg p→SqP p M (sqP p):=by
 by_cases h2:2≤lg p
 ·obtain ⟨M,hM⟩:=ex_sq h.z h2 (by have:=h.d;omega)
  exact ⟨M,fun _=>hM⟩
 ·exact ⟨0,fun k=>absurd k h2⟩
theorem qa_K{K L KC X Y:Nat}{c:Nat→Int}{lo hi:Rat}(h:K≤L):∀ B w cs,LsR B w ([qrow K (lg c) (rc c)] ++ [exL (ChQ c KC) (fun L=>qlr KC L)] ++qn X lo ++qn Y hi) cs→LsR B w ([qrow L (lg c) (rc c)] ++ [exL (ChQ c KC) (fun L=>qlr KC L)] ++qn X lo ++qn Y hi) cs:=
 ls_cat (ls_cat (ls_cat (fun B w cs k=>match cs,k with | [v],⟨k,_⟩=>⟨row_le (qel_le h (fun _ _=>rfl)) B w v k,trivial⟩) (fun _ _ _ h=>h)) (fun _ _ _ h=>h)) (fun _ _ _ h=>h)
theorem stp_sg{c y:Nat→Int}{lo hi:Rat}(b1:Lb 4 c)(b2:Lb 4 y)(t1:Tb 600 lo)(t2:Tb 600 hi):3*(3*600+stp c lo hi y 0 0 / 32+2)≤25000:=by
 have:=stp_le0 b1 b2 t1 t2;omega
theorem sg_G{a b:Nat}(ha:a≤9)(hb:b≤5):(7+1)*(max (a+2-b) 1*3^b)≤90000:=
 Nat.le_trans (Nat.mul_le_mul_left 8 (Nat.mul_le_mul (show max (a+2-b) 1≤11 by omega) (Nat.pow_le_pow_right (show 0 < 3 by decide) hb))) (by decide)
theorem aAlgSign0{c0 c2:Nat→Int}{n0 n2:Nat}{a1:Int}(hn0:n0≤9223372036854775807)(hb0:∀ i,i < n0→-9223372036854775808≤c0 i∧c0 i≤9223372036854775807)(h1a: -9223372036854775808≤a1)(h1b:a1≤9223372036854775807)(hn2:n2≤9223372036854775807)(hb2:∀ i,i < n2→-9223372036854775808≤c2 i∧c2 i≤9223372036854775807):ACall Tryz.prog 3 [.one (irow n0 c0),.one (.v (.int .i64 a1)),.one (irow n2 c2),.one (.v (.bool false))] (.d (.one (.v (.bool true)))):=by
 refine aN 43 [.tmp 8] Tryz.func3 rfl<|cR<|mW rfl<|mT<|cR<|mv2 rfl rfl<|mY (aPick hn0 h1a h1b) rfl<|mO rfl<|mZ rfl<|mT<|cSeq<|AW.fact (f_qa 14 rfl (pk_ok c0 n0 a1).v.ok.z) (fun hq1=>?_);have hlx:=hq1.1.lb1;have hl2:=(pk_ok c0 n0 a1).v.l2;have hl5:=(pk_ok c0 n0 a1).l5;refine cReg<|mW rfl<|mY (aMade7 hn2 hb2 (by decide)) rfl<|mW rfl<|mT<|cSeq<|cSeq<|cEx (Qx:=(MdP 4)) (L:=(fun p=>qrow 2 (lg p) (rc p))) 10 rfl (fun p hp=>?_);have hpl:=hp.l;have hpd:=hp.d;have hp2:=lg_le p;have hy9:lg p≤9:=by omega
 have hly:=md4_lb hp;obtain ⟨Ms,hMs⟩:=md4_sq hp;exact cReg<|mW rfl<|mT<|cFs rfl<|cSeq<|cDk 6<|.cons (OpS.V _ rfl)<|oC (aQToN (hp.z) (by decide)) rfl<|oV rfl<|oC (aQToA ((pk_ok c0 n0 a1).v.ok.z)) rfl<|oC (ACall.le (dl (dle (le_prow_t hly)) (dl DV.same dl0)) AV.le.rfl (aASign (K:=4) (L:=1200) (X:=20000) (KC:=4000000) (N:=9) (c:=(pkC c0 n0 a1)) (y:=p) (lo:=(pkL c0 n0 a1)) (hi:=(pkH c0 n0 a1)) hp.z (pk_ok c0 n0 a1).v (by decide) (Nat.le_trans (pk_ok c0 n0 a1).l5 (by decide)) hy9 (by decide) (by decide) (by decide) (by decide) (by decide))) rfl<|.cons (OpS.V _ rfl)<|.nil<|mT<|cR<|mv3 rfl rfl rfl<|mY (ACall.le (dl (dle (le_qrow (by decide) rfl (fun _ _=>rfl))) (dl (DV.g (qa_K (by decide))) dl0)) AV.le.rfl (aQSignAt (K:=7) (KC:=2916) (X:=1200) (N:=5) (G:=90000) (M:=4) (KD:=2916) (My:=14) (Ny:=5) (KY:=7776) (Ms:=Ms) (L:=600) (Z:=25000) (c:=(pkC c0 n0 a1)) (y:=p) (lo:=(pkL c0 n0 a1)) (hi:=(pkH c0 n0 a1)) hp.z (pk_ok c0 n0 a1).v (by omega) (Nat.le_trans (pk_ok c0 n0 a1).l5 (by decide)) (by decide) (pk_ok c0 n0 a1).l5 (by decide) (sg_G hy9 (pk_ok c0 n0 a1).l5) (by decide) (by decide) (pk_ok c0 n0 a1).dv (by decide) (by decide) (by decide) (by decide) (pk_ok c0 n0 a1).x (fun _ k2=>⟨by decide,by decide,hp.d,md4_dv hp,by decide,by decide,hMs k2⟩) (by decide) rfl (stp_sg hlx hly (q6 hq1.2.1) (q6 hq1.2.2)) (by decide))) rfl<|mbT rfl (beq_self_eq_true _)<|mv4 rfl rfl rfl rfl<|mG rfl rfl<|mG rfl rfl<|mv3 rfl rfl rfl<|mY (aWakes10) rfl<|mv2 rfl rfl<|mT<|cRet<|rQ rfl (AV.le.rfl)
theorem aAlgSign1{c0 c2:Nat→Int}{n0 n2:Nat}{a1:Int}(hn0:n0≤9223372036854775807)(hb0:∀ i,i < n0→-9223372036854775808≤c0 i∧c0 i≤9223372036854775807)(h1a: -9223372036854775808≤a1)(h1b:a1≤9223372036854775807)(hn2:n2≤9223372036854775807)(hb2:∀ i,i < n2→-9223372036854775808≤c2 i∧c2 i≤9223372036854775807):ACall Tryz.prog 3 [.one (irow n0 c0),.one (.v (.int .i64 a1)),.one (irow n2 c2),.one (.v (.bool true))] (.d (.one (.v (.bool true)))):=by
 refine aN 43 [.tmp 8] Tryz.func3 rfl<|cR<|mW rfl<|mT<|cR<|mv2 rfl rfl<|mY (aPick hn0 h1a h1b) rfl<|mO rfl<|mZ rfl<|mT<|cSeq<|AW.fact (f_qa 14 rfl (pk_ok c0 n0 a1).v.ok.z) (fun hq1=>?_);have hlx:=hq1.1.lb1;have hl2:=(pk_ok c0 n0 a1).v.l2;have hl5:=(pk_ok c0 n0 a1).l5;refine cReg<|mW rfl<|mY (aMade7 hn2 hb2 (by decide)) rfl<|mW rfl<|mT<|cSeq<|cSeq<|cEx (Qx:=(MdP 4)) (L:=(fun p=>qrow 2 (lg p) (rc p))) 10 rfl (fun p hp=>?_);have hpl:=hp.l;have hpd:=hp.d;have hp2:=lg_le p;have hy:=md4_cv hp (pk_ok c0 n0 a1).v.ok.z (pk_ok c0 n0 a1).b (by omega) hl5;have hy9:lg (conv p (pkC c0 n0 a1))≤9:=by rw [hy.2.1];omega
 have hly:Lb 4 (conv p (pkC c0 n0 a1)):=(hy.2.2.mono (by decide):Db 8 _).lb;have hs0:(sgC (FF (conv p (pkC c0 n0 a1))) (cutA (pkC c0 n0 a1) (pkL c0 n0 a1) (pkH c0 n0 a1)))=0:=by rw [sgC_conv (pk_ok c0 n0 a1).v.ok.cut hp.z (pk_ok c0 n0 a1).v.ok.z (by omega),sgC_zero (pk_ok c0 n0 a1).v.vc,Int.mul_zero]
 have Ms:Nat:=0;exact cReg<|mW rfl<|mT<|cT rfl<|cReg<|mv3 rfl rfl rfl<|mY (aQMul (isqp (K:=2) (c:=(rc p)) (rc_z (hp.z).lg)) (isqp (K:=4) (c:=(rc (pkC c0 n0 a1))) (rc_z ((pk_ok c0 n0 a1).v.ok.z).lg)) (M:=((20+1)*(2+4+66))) (D:=20)) rfl<|mW rfl<|mT<|cSeq<|cView 10 (.d (.one (.row 4 (lg (conv p (pkC c0 n0 a1))) (qel 7 (rc (conv p (pkC c0 n0 a1))))))) rfl (cv_le hy.1 (fun t ht=>conv_z0 hp.z.lg (pk_ok c0 n0 a1).v.ok.z.lg t ht) (by decide) hy.2.2)<|cDk 6<|.cons (OpS.V _ rfl)<|oC (aQToN (hy.1) (by decide)) rfl<|oV rfl<|oC (aQToA ((pk_ok c0 n0 a1).v.ok.z)) rfl<|oC (ACall.le (dl (dle (le_prow_t hly)) (dl DV.same dl0)) AV.le.rfl (aASign (K:=4) (L:=1200) (X:=20000) (KC:=4000000) (N:=9) (c:=(pkC c0 n0 a1)) (y:=(conv p (pkC c0 n0 a1))) (lo:=(pkL c0 n0 a1)) (hi:=(pkH c0 n0 a1)) hy.1 (pk_ok c0 n0 a1).v (by decide) (Nat.le_trans (pk_ok c0 n0 a1).l5 (by decide)) hy9 (by decide) (by decide) (by decide) (by decide) (by decide))) rfl<|.cons (OpS.V _ rfl)<|.nil<|mT<|cR<|mv3 rfl rfl rfl<|mY (ACall.le (dl (DV.same) (dl (DV.g (qa_K (by decide))) dl0)) AV.le.rfl (aQSignAt (K:=7) (KC:=2916) (X:=1200) (N:=5) (G:=90000) (M:=4) (KD:=2916) (My:=14) (Ny:=5) (KY:=7776) (Ms:=Ms) (L:=600) (Z:=25000) (c:=(pkC c0 n0 a1)) (y:=(conv p (pkC c0 n0 a1))) (lo:=(pkL c0 n0 a1)) (hi:=(pkH c0 n0 a1)) hy.1 (pk_ok c0 n0 a1).v (by omega) (Nat.le_trans (pk_ok c0 n0 a1).l5 (by decide)) (by decide) (pk_ok c0 n0 a1).l5 (by decide) (sg_G hy9 (pk_ok c0 n0 a1).l5) (by decide) (by decide) (pk_ok c0 n0 a1).dv (by decide) (by decide) (by decide) (by decide) (pk_ok c0 n0 a1).x (fun k _=>absurd hs0 k) (by decide) rfl (stp_sg hlx hly (q6 hq1.2.1) (q6 hq1.2.2)) (by decide))) rfl<|mbT rfl (beq_self_eq_true _)<|mv5 rfl rfl rfl rfl rfl<|mbT rfl (beq_iff_eq.2 hs0)<|mv3 rfl rfl rfl<|mY (aWakes10) rfl<|mv2 rfl rfl<|mT<|cRet<|rQ rfl (AV.le.rfl)
theorem aAlgSigns{c0 c2:Nat→Int}{n0 n2:Nat}{a1:Int}{a3:Bool}(hn0:n0≤9223372036854775807)(hb0:∀ i,i < n0→-9223372036854775808≤c0 i∧c0 i≤9223372036854775807)(h1a: -9223372036854775808≤a1)(h1b:a1≤9223372036854775807)(hn2:n2≤9223372036854775807)(hb2:∀ i,i < n2→-9223372036854775808≤c2 i∧c2 i≤9223372036854775807):ACall Tryz.prog 3 [.one (irow n0 c0),.one (.v (.int .i64 a1)),.one (irow n2 c2),.one (.v (.bool a3))] (.d (.one (.v (.bool true)))):=by
 cases a3
 ·exact aAlgSign0 hn0 hb0 h1a h1b hn2 hb2
 ·exact aAlgSign1 hn0 hb0 h1a h1b hn2 hb2
end Go.Proofs.YthccmbncplakjaaGreat
