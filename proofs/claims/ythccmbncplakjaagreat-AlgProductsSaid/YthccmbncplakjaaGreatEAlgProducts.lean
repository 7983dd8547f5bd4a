/-
  What the proof of AlgProducts asks for besides: joined, short spelling. No condition.
-/
import Derived.Test.YthccmbncplakjaaGreatJ5
set_option linter.unusedVariables false
set_option linter.unusedSimpArgs false
set_option maxRecDepth 100000
set_option maxHeartbeats 4000000
namespace Go.Proofs.YthccmbncplakjaaGreat
open Go.RowKit
namespace Am
end Am
section
open Go.RowKit Am
end
section
open Go.RowKit Am
end
/-! ### Rows cut: noughts on top are taken away -/
/-! ### Sums, products -/
/-! ### A region that draws, order by order -/
section
open Go.RowKit Go.ChangeShapes Go.WideShapes
end
section
open Go.RowKit Go.ChangeShapes Go.WideShapes
end
section
open Go.RowKit Go.ChangeShapes Go.WideShapes
end
/-
 RATIONALS of the program, by the machine (3).
-/
instance {lo hi p q:Rat}:Decidable (bel lo hi p q):=inferInstanceAs (Decidable (_∧_))
/-! ### Orders that come together again -/
/-! ### Operations that only look at slots may come first -/
section
open Go.RowKit Go.ChangeShapes Go.WideShapes
end
theorem sgC_bd{C:Cut}(hC:IsCut C)(p:Fn):sgC p C= -1∨sgC p C=0∨sgC p C=1:=by
 unfold sgC;split
 ·rename_i h
  obtain ⟨e,q,r,h0,h1,h2,h3⟩:=h.choose_spec;have h4:=(h3 q (by grind) (by have:=hC.nb h1 h2;grind)).2;rw [← h4];rcases sgq_cases (p q) with ⟨_,k⟩ | ⟨_,k⟩ | ⟨_,k⟩ <;> rw [k]
  ·exact Or.inl rfl
  ·exact Or.inr (Or.inl rfl)
  ·exact Or.inr (Or.inr rfl)
 ·exact Or.inr (Or.inl rfl)
theorem sgC_fneg{C:Cut}(hC:IsCut C){a:Nat→Int}(z:z20 a):sgC (FF (fneg a)) C= -sgC (FF a) C:=by
 have h:=sgC_mul hC (FF_po z) (po_const (-1));rw [sgC_m1 hC] at h;rw [show FF (fneg a)=(fun x=>FF a x* -1) from funext fun x=>by rw [FF_neg];grind,h];omega
theorem sgC_nil{C:Cut}(hC:IsCut C){a:Nat→Int}(z:z20 a)(h:lg a=0):sgC (FF a) C=0:=by
 refine sgC_zero fun e he q r h1 h2=>⟨q,by grind,by have:=hC.nb h1 h2;grind,?_⟩
 rw [(FF_zero z).1 h q];unfold Ab;grind
theorem MdP.lb{p:Nat→Int}(h:MdP 3 p):Lb 1 p:=fun i=>Nat.lt_of_le_of_lt (h.b i) (by decide)
theorem md_cv{p q:Nat→Int}(h:MdP 3 p)(k:MdP 3 q):z20 (conv p q)∧lg (conv p q)=lg p+lg q-1∧Lb 1 (conv p q):=by
 have h1:=h.d;have h2:=k.d;obtain ⟨z,e⟩:=lg_conv h.z k.z h.n0 k.n0 (by omega);exact ⟨z,e,fun i=>Nat.lt_of_le_of_lt (conv_get z h.b k.b i) (by decide)⟩
theorem md_neg{p:Nat→Int}(h:MdP 3 p):z20 (fneg p)∧lg (fneg p)≤4∧Lb 1 (fneg p):=by
 have z:z20 (fneg p):=fneg_z h.z;have h1:=h.d;refine ⟨z,lg_of_z z (fneg_z (fun i hi=>h.z.lg i (by omega))),fun i=>?_⟩;have e:fneg p i= -(p i):=rfl;rw [e,Int.natAbs_neg];exact h.lb i
theorem md_s{a b:Int}(ha:a= -1∨a=0∨a=1)(hb:b= -1∨b=0∨b=1):IntKind.i64.wrap (a*b)=a*b:=by
 refine wr64 ?_ ?_ <;> rcases ha with rfl | rfl | rfl <;> rcases hb with rfl | rfl | rfl <;> decide
theorem aAlgProducts{c0 c2 c3:Nat→Int}{n0 n2 n3:Nat}{a1:Int}(hn0:n0≤9223372036854775807)(hb0:∀ i,i < n0→-9223372036854775808≤c0 i∧c0 i≤9223372036854775807)(h1a: -9223372036854775808≤a1)(h1b:a1≤9223372036854775807)(hn2:n2≤9223372036854775807)(hb2:∀ i,i < n2→-9223372036854775808≤c2 i∧c2 i≤9223372036854775807)(hn3:n3≤9223372036854775807)(hb3:∀ i,i < n3→-9223372036854775808≤c3 i∧c3 i≤9223372036854775807):ACall Tryz.prog 4 [.one (irow n0 c0),.one (.v (.int .i64 a1)),.one (irow n2 c2),.one (irow n3 c3)] (.d (.one (.v (.bool true)))):=by
 refine aN 74 [.tmp 8] Tryz.func4 rfl<|cR<|mW rfl<|mT<|cR<|mv2 rfl rfl<|mY (aPick hn0 h1a h1b) rfl<|mY (aQToA ((pk_ok c0 n0 a1).v.ok.z)) rfl<|mO rfl<|mZ rfl<|mT<|cR<|mW rfl<|mY (aMade7 hn2 hb2 (by decide)) rfl<|mEx (Qx:=MdP 3) (L:=fun p=>qrow 2 (lg p) (rc p)) 19 rfl (fun p hp=>?_);refine mY (aQToN (hp.z) (by decide)) rfl<|mW rfl<|mY (aMade7 hn3 hb3 (by decide)) rfl<|mEx (Qx:=MdP 3) (L:=fun p=>qrow 2 (lg p) (rc p)) 22 rfl (fun q hq=>?_);refine mY (aQToN (hq.z) (by decide)) rfl<|mv2 rfl rfl<|mT<|cSeq ?_;have hpd:=hp.d;have hqd:=hq.d;have hps:=sgC_bd (pk_ok c0 n0 a1).v.ok.cut (FF p);have hqs:=sgC_bd (pk_ok c0 n0 a1).v.ok.cut (FF q);have hpl:=hp.l;have hql:=hq.l;refine cDk 8<|.cons (OpS.V _ rfl)<|oV rfl<|oC (ACall.le (dl (dle (le_prow_t (hp.lb.mono (by decide)))) (dl DV.same dl0)) AV.le.rfl (aASign (K:=4) (L:=1200) (X:=20000) (KC:=1000000) (N:=7) (c:=(pkC c0 n0 a1)) (y:=p) (lo:=(pkL c0 n0 a1)) (hi:=(pkH c0 n0 a1)) (hp.z) (pk_ok c0 n0 a1).v (by decide) (Nat.le_trans (pk_ok c0 n0 a1).l5 (by decide)) (by omega) (by decide) (by decide) (by decide) (by decide) (by decide))) rfl<|.cons (OpS.V _ rfl)<|oV rfl<|oC (ACall.le (dl (dle (le_prow_t (hq.lb.mono (by decide)))) (dl DV.same dl0)) AV.le.rfl (aASign (K:=4) (L:=1200) (X:=20000) (KC:=1000000) (N:=7) (c:=(pkC c0 n0 a1)) (y:=q) (lo:=(pkL c0 n0 a1)) (hi:=(pkH c0 n0 a1)) (hq.z) (pk_ok c0 n0 a1).v (by decide) (Nat.le_trans (pk_ok c0 n0 a1).l5 (by decide)) (by omega) (by decide) (by decide) (by decide) (by decide) (by decide))) rfl<|.cons (OpS.V _ rfl)<|.cons (OpS.V _ rfl)<|.nil<|mT<|cSeq<|cDk 45<|.cons (OpS.V _ rfl)<|.cons (OpS.V _ rfl)<|oC (aPMul (isp (K:=2) (c:=p) (z20.lg (hp.z))) (isp (K:=2) (c:=q) (z20.lg (hq.z))) (M:=(2+2+1+20*1000)) (D:=20)) rfl<|oV rfl<|oC (ACall.le (dl (dle (le_prow20 (lg_dg (conv_z0 hp.z.lg hq.z.lg) (md_cv hp hq).1) ((md_cv hp hq).2.2.mono (by decide)))) (dl DV.same dl0)) AV.le.rfl (aASign (K:=4) (L:=1200) (X:=20000) (KC:=1000000) (N:=7) (c:=(pkC c0 n0 a1)) (y:=(conv p q)) (lo:=(pkL c0 n0 a1)) (hi:=(pkH c0 n0 a1)) ((md_cv hp hq).1) (pk_ok c0 n0 a1).v (by decide) (Nat.le_trans (pk_ok c0 n0 a1).l5 (by decide)) (by rw [(md_cv hp hq).2.1];omega) (by decide) (by decide) (by decide) (by decide) (by decide))) rfl<|.cons (OpS.V _ rfl)<|.cons (OpS.V _ rfl)<|.cons (OpS.V (.d (.one (.v (.int .i64 ((sgC (FF p) (cutA (pkC c0 n0 a1) (pkL c0 n0 a1) (pkH c0 n0 a1)))*(sgC (FF q) (cutA (pkC c0 n0 a1) (pkL c0 n0 a1) (pkH c0 n0 a1)))))))) (evi (md_s hps hqs)))<|oT rfl (beq_iff_eq.2 (sgC_conv (pk_ok c0 n0 a1).v.ok.cut hp.z hq.z (by omega)))<|.cons (OpS.V _ rfl)<|.cons (OpS.V _ rfl)<|.cons (OpS.V _ rfl)<|oC (aPMul (isp (K:=2) (c:=p) (z20.lg (hp.z))) (isp (K:=2) (c:=p) (z20.lg (hp.z))) (M:=(2+2+1+20*1000)) (D:=20)) rfl<|oV rfl<|oC (ACall.le (dl (dle (le_prow20 (lg_dg (conv_z0 hp.z.lg hp.z.lg) (md_cv hp hp).1) ((md_cv hp hp).2.2.mono (by decide)))) (dl DV.same dl0)) AV.le.rfl (aASign (K:=4) (L:=1200) (X:=20000) (KC:=1000000) (N:=7) (c:=(pkC c0 n0 a1)) (y:=(conv p p)) (lo:=(pkL c0 n0 a1)) (hi:=(pkH c0 n0 a1)) ((md_cv hp hp).1) (pk_ok c0 n0 a1).v (by decide) (Nat.le_trans (pk_ok c0 n0 a1).l5 (by decide)) (by rw [(md_cv hp hp).2.1];omega) (by decide) (by decide) (by decide) (by decide) (by decide))) rfl<|.cons (OpS.V _ rfl)<|.cons (OpS.V _ rfl)<|.cons (OpS.V (.d (.one (.v (.int .i64 ((sgC (FF p) (cutA (pkC c0 n0 a1) (pkL c0 n0 a1) (pkH c0 n0 a1)))*(sgC (FF p) (cutA (pkC c0 n0 a1) (pkL c0 n0 a1) (pkH c0 n0 a1)))))))) (evi (md_s hps hps)))<|oT rfl (beq_iff_eq.2 (sgC_conv (pk_ok c0 n0 a1).v.ok.cut hp.z hp.z (by omega)))<|.cons (OpS.V _ rfl)<|.cons (OpS.V _ rfl)<|.cons (OpS.V _ rfl)<|oC (aPNeg (isp (K:=2) (c:=p) (z20.lg (hp.z)))) rfl<|oV rfl<|oC (ACall.le (dl (dle (le_prow20 (lg_dg (fneg_z hp.z.lg) (md_neg hp).1) ((md_neg hp).2.2.mono (by decide)))) (dl DV.same dl0)) AV.le.rfl (aASign (K:=4) (L:=1200) (X:=20000) (KC:=1000000) (N:=7) (c:=(pkC c0 n0 a1)) (y:=(fneg p)) (lo:=(pkL c0 n0 a1)) (hi:=(pkH c0 n0 a1)) ((md_neg hp).1) (pk_ok c0 n0 a1).v (by decide) (Nat.le_trans (pk_ok c0 n0 a1).l5 (by decide)) (Nat.le_trans (md_neg hp).2.1 (by decide)) (by decide) (by decide) (by decide) (by decide) (by decide))) rfl<|.cons (OpS.V _ rfl)<|.cons (OpS.V (.d (.one (.v (.int .i64 (-(sgC (FF p) (cutA (pkC c0 n0 a1) (pkL c0 n0 a1) (pkH c0 n0 a1)))))))) (evi ((wr64 (by omega) (by omega)).trans (by omega))))<|oT rfl (beq_iff_eq.2 (sgC_fneg (pk_ok c0 n0 a1).v.ok.cut hp.z))<|.cons (OpS.V _ rfl)<|.cons (OpS.V _ rfl)<|oV rfl<|oC (ACall.le (dl (dle (nil_prow20 lg_nil)) (dl DV.same dl0)) AV.le.rfl (aASign (K:=4) (L:=1200) (X:=20000) (KC:=1000000) (N:=7) (c:=(pkC c0 n0 a1)) (y:=(fun _=>0)) (lo:=(pkL c0 n0 a1)) (hi:=(pkH c0 n0 a1)) (fun _ _=>rfl) (pk_ok c0 n0 a1).v (by decide) (Nat.le_trans (pk_ok c0 n0 a1).l5 (by decide)) (by rw [lg_nil];decide) (by decide) (by decide) (by decide) (by decide) (by decide))) rfl<|oT rfl (beq_iff_eq.2 (sgC_nil (pk_ok c0 n0 a1).v.ok.cut (fun _ _=>rfl) lg_nil))<|.cons (OpS.V _ rfl)<|.cons (OpS.V _ rfl)<|oV rfl<|oV rfl<|oV rfl<|.cons (OpS.C0 (ACall.le (dl (dle (AV.le.rfl)) (dl DV.same dl0)) AV.le.rfl (aASign (K:=4) (L:=1200) (X:=20000) (KC:=1000000) (N:=7) (c:=(pkC c0 n0 a1)) (y:=(pkC c0 n0 a1)) (lo:=(pkL c0 n0 a1)) (hi:=(pkH c0 n0 a1)) ((pk_ok c0 n0 a1).v.ok.z) (pk_ok c0 n0 a1).v (by decide) (Nat.le_trans (pk_ok c0 n0 a1).l5 (by decide)) (Nat.le_trans (pk_ok c0 n0 a1).l5 (by decide)) (by decide) (by decide) (by decide) (by decide) (by decide))) rfl rfl rfl) ?_;exact oT rfl (beq_iff_eq.2 (sgC_zero (pk_ok c0 n0 a1).v.vc))<|.cons (OpS.V _ rfl)<|.cons (OpS.V _ rfl)<|oC (aWakes10) rfl<|.cons (OpS.V _ rfl)<|.cons (OpS.V _ rfl)<|.nil<|mT<|cRet<|rQ rfl (AV.le.rfl)
end Go.Proofs.YthccmbncplakjaaGreat
