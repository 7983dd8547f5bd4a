/-
  What the proof of AlgSames asks for besides: joined, short spelling. No condition.
-/
import Derived.Test.YthccmbncplakjaaGreatJ5
set_option linter.unusedVariables false
set_option linter.unusedSimpArgs false
set_option maxRecDepth 100000
set_option maxHeartbeats 4000000
namespace Go.Proofs.YthccmbncplakjaaGreat
open Go.RowKit
namespace Am
end Am
section
open Go.RowKit Am
end
section
open Go.RowKit Am
end
/-! ### Rows cut: noughts on top are taken away -/
/-! ### Sums, products -/
/-! ### A region that draws, order by order -/
section
open Go.RowKit Go.ChangeShapes Go.WideShapes
end
section
open Go.RowKit Go.ChangeShapes Go.WideShapes
end
section
open Go.RowKit Go.ChangeShapes Go.WideShapes
end
/-
 RATIONALS of the program, by the machine (3).
-/
instance {lo hi p q:Rat}:Decidable (bel lo hi p q):=inferInstanceAs (Decidable (_∧_))
/-! ### Orders that come together again -/
/-! ### Operations that only look at slots may come first -/
section
open Go.RowKit Go.ChangeShapes Go.WideShapes
end
theorem sgC_pw{f:Fn}{C:Cut}(hC:IsCut C)(pf:Po f)(h:sgC f C≠0):∀ N:Nat,sgC (fun x=>f x^N) C≠0
 | 0=>by
  have e:(fun x=>f x^0)=fun x:Rat=>(fun _:Rat=>(-1:Rat)) x*(fun _:Rat=>(-1:Rat)) x:=funext fun x=>by rw [Rat.pow_zero];grind
  rw [e,sgC_mul hC (po_const _) (po_const _),sgC_m1 hC];decide
 | N+1=>by
  have e:(fun x=>f x^(N+1))=fun x=>(fun x=>f x^N) x*f x:=funext fun x=>Rat.pow_succ _ _
  rw [e,sgC_mul hC (pf.pow N) pf];intro k;rcases Int.mul_eq_zero.1 k with k | k
  ·exact sgC_pw hC pf h N k
  ·exact h k
theorem SqP.vc{c f:Nat→Int}{M:Nat}(h:SqP c M f)(zc:z20 c){C:Cut}(hC:IsCut C)(v:VC (FF c) C):VC (FF f) C:=by
 obtain ⟨N,w,pw,e⟩:=h.pw;rw [vc_iff hC (FF_po h.z)];apply Classical.byContradiction;intro hn;have h1:=sgC_pw hC (FF_po h.z) hn N;have e2:(fun x=>FF f x^N)=fun x=>w x*FF c x:=funext e
 rw [e2,sgC_mul hC pw (FF_po zc),(vc_iff hC (FF_po zc)).1 v,Int.mul_zero] at h1;exact h1 rfl
theorem RtP.uniq{c:Nat→Int}{l:List (Rat×Rat)}(h:RtP c l){C:Cut}(hC:IsCut C)(v:VC (FF c) C):∃ j,j < l.length∧∀ k,k < l.length→(cmpC (cutA c (l.getD k (0,0)).1 (l.getD k (0,0)).2) C=0↔k=j):=by
 obtain ⟨p,hp,e⟩:=h.all C hC v;obtain ⟨j,hj,rfl⟩:=List.getElem_of_mem hp;refine ⟨j,hj,fun k hk=>?_⟩;have gk:l.getD k (0,0)=l[k]:=by rw [List.getD_eq_getElem?_getD,List.getElem?_eq_getElem hk];rfl
 rw [gk,cmpC_congr (C':=cutA c l[k].1 l[k].2) (D':=cutA c l[j].1 l[j].2) (fun q=>Iff.rfl) (fun q=>(e q).symm)];have hr:=List.pairwise_iff_getElem.1 h.rise;constructor
 ·intro h0
  apply Classical.byContradiction;intro hne
  by_cases hlt:k < j
  ·have:=hr k j hk hj hlt;omega
  ·have h1:=hr j k hj hk (by omega)
   have h2:=cmpC_neg (h.ok _ (List.getElem_mem hj)).1.ok.cut (h.ok _ (List.getElem_mem hk)).1.ok.cut;omega
 ·intro h0
  subst h0;exact cmpC_eq fun q=>Iff.rfl
theorem dv_conv{c p g:Nat→Int}(zc:z20 c)(zp:z20 p)(zg:z20 g)(h1:lg c+lg g≤20)(h2:lg p+lg g≤20)(h:Dv (FF c) (FF p)):Dv (FF (conv c g)) (FF (conv p g)):=by
 obtain ⟨q,pq,e⟩:=h;exact ⟨q,pq,fun x=>by rw [FF_conv zc.lg zg.lg h1 zc zg,FF_conv zp.lg zg.lg h2 zp zg,e];grind⟩
/-- A picked number's polynomial times one that was made. -/
structure SmP(c g:Nat→Int):Prop where
 z:z20 (conv c g)
 l2:2≤lg (conv c g)
 l7:lg (conv c g)≤7
 b:Db 5 (conv c g)
 dv:DvB (conv c g) 18
theorem sm_ok{c g:Nat→Int}{lo hi:Rat}(h:PkP c lo hi)(k:MdP 2 g):SmP c g:=by
 have h1:=k.d;have h2:=k.l;have h3:=h.l5;have h4:=h.v.l2;obtain ⟨z,e⟩:=lg_conv h.v.ok.z k.z (by omega) k.n0 (by omega);refine ⟨z,by omega,by omega,fun i=>Nat.lt_of_le_of_lt (conv_tm (n:=5) (fun i hi=>h.v.ok.z.lg i (by omega)) (fun i=>Nat.le_of_lt (h.b i)) k.b i) (by decide),?_⟩;obtain ⟨p,zp,hp,hl,hl2,hd,hs⟩:=h.sm;obtain ⟨zq,eq⟩:=lg_conv zp k.z (by omega) k.n0 (by omega);have hdv:=dv_conv h.v.ok.z zp k.z (by omega) (by omega) hd;rcases hs with hs | hs
 ·exact (dvb_small (n:=4) zq (by omega) (by omega) (conv_tm (n:=2) (fun i hi=>zp.lg i (by omega)) hp k.b) (by decide) (by decide) (by decide):DvB (conv p g) 18).dv hdv
 ·exact (dvb_small (n:=7) zq (by omega) (by omega) (conv_tm (n:=5) (fun i hi=>zp.lg i (by omega)) hs k.b) (by decide) (by decide) (by decide):DvB (conv p g) 18).dv hdv
theorem SmS.vc{y f:Nat→Int}{M N:Nat}(h:SmS y M N f)(z:z20 y){C:Cut}(hC:IsCut C)(v:VC (FF y) C):VC (FF f) C:=by
 obtain ⟨M,hM⟩:=h.s;exact hM.vc z hC v
theorem sm_vc{c g:Nat→Int}{lo hi:Rat}(hp:PkP c lo hi)(k:MdP 2 g):VC (FF (conv c g)) (cutA c lo hi):=by
 have h1:=k.d;have h3:=hp.l5;exact (VC.mul hp.v.ok.cut (FF_po k.z) hp.v.vc).congr fun x=>(FF_conv hp.v.ok.z.lg k.z.lg (by omega) hp.v.ok.z k.z x).symm
def cn(j i:Nat):Nat:=if j < i then 1 else 0
theorem cn_t{j i:Nat}(h:i=j):cn j i=0∧cn j (i+1)=1:=by subst h;exact ⟨if_neg (by omega),if_pos (by omega)⟩
theorem cn_f{j i:Nat}(h:¬ i=j):cn j i=cn j (i+1):=by unfold cn;by_cases k:j < i;rw [if_pos k,if_pos (by omega)];rw [if_neg k,if_neg (by omega)]
theorem aAlgSames{c0 c2:Nat→Int}{n0 n2:Nat}{a1 a3:Int}(hn0:n0≤9223372036854775807)(hb0:∀ i,i < n0→-9223372036854775808≤c0 i∧c0 i≤9223372036854775807)(h1a: -9223372036854775808≤a1)(h1b:a1≤9223372036854775807)(hn2:n2≤9223372036854775807)(hb2:∀ i,i < n2→-9223372036854775808≤c2 i∧c2 i≤9223372036854775807)(h3a: -9223372036854775808≤a3)(h3b:a3≤9223372036854775807):ACall Tryz.prog 12 [.one (irow n0 c0),.one (.v (.int .i64 a1)),.one (irow n2 c2),.one (.v (.int .i64 a3))] (.d (.one (.v (.bool true)))):=by
 refine aN 62 [.tmp 8] Tryz.func12 rfl<|cR<|mW rfl<|mT<|cR<|mv2 rfl rfl<|mY (aPick (cl:=c0) (n:=n0) (k:=a1) hn0 h1a h1b) rfl<|mO rfl<|mZ rfl<|mT<|cSeq<|AW.fact (f_qa 19 rfl (pk_ok c0 n0 a1).v.ok.z) (fun hq1=>?_);have hlx:=hq1.1.lb1;refine cReg<|mW rfl<|mY (aMade7 (cl:=c2) (n:=n2) (t:=2) hn2 hb2 (by decide)) rfl<|mW rfl<|mT<|cSeq<|cEx (Qx:=(MdP 2)) (L:=(fun p=>qrow 2 (lg p) (rc p))) 10 rfl (fun g hg=>?_);have hgl:=lg_le g;have hcl:=lg_le (pkC c0 n0 a1);have s:=sm_ok (pk_ok c0 n0 a1) hg;obtain ⟨f,hS⟩:∃ f,SmS (conv (pkC c0 n0 a1) g) 18 7 f:=⟨_,sms_ok s.z s.l2 s.l7 (by decide) s.dv⟩
 have hvc:=hS.vc s.z (pk_ok c0 n0 a1).v.ok.cut (sm_vc (pk_ok c0 n0 a1) hg);refine cReg<|mv3 rfl rfl rfl<|mY (aQMul (isqp (K:=4) (c:=(rc (pkC c0 n0 a1))) (rc_z ((pk_ok c0 n0 a1).v.ok.z).lg)) (isqp (K:=2) (c:=(rc g)) (rc_z (hg.z).lg)) (M:=((20+1)*(4+2+66))) (D:=20) (by omega) (by omega) (by decide) (by decide) (by decide)) rfl<|mView 25 (.d (.one (.row 4 (lg (conv (pkC c0 n0 a1) g)) (qel 5 (rc (conv (pkC c0 n0 a1) g)))))) rfl (cv_le s.z (fun t ht=>conv_z0 (pk_ok c0 n0 a1).v.ok.z.lg hg.z.lg t ht) (by decide) s.b)<|mY (ACall.le (dl DV.same dl0) (AV.of_eq (by rw [← hS.e])) (aQSquare (K:=5) (M:=18) (KC:=87480) (N:=7) (c:=conv (pkC c0 n0 a1) g) s.z s.l2 (by decide) s.l7 (by decide) (by decide) s.dv (by decide) (by decide) (by decide) (by decide))) rfl<|mW rfl<|mT<|cR<|mW rfl<|mY (aQRootsS (KC:=87480) (X:=2500) hS (by decide) (by decide) (by decide) (by decide) (by decide) (by decide) (by decide)) rfl<|mW rfl<|mT<|cSeq<|cEx (Qx:=(fun l=>l=rtF f (14*18)∧l.length≤1000000)) (L:=(fun l=> .row 10 l.length (elA 18 f 87480 2500 l))) 12 rfl (fun l hl=>?_);obtain ⟨hl1,hll⟩:=hl;have hR:RtP f l:=hl1▸hS.rt;obtain ⟨j,hj,hu⟩:=hR.uniq (pk_ok c0 n0 a1).v.ok.cut hvc;refine cReg<|mW rfl<|mY (ACall.le (dl DV.same dl0) (al_600 hq1.1 hq1.2.1 hq1.2.2) (aQToA (K:=4) (KC:=2916) (X:=1200) (c:=(pkC c0 n0 a1)) (lo:=(pkL c0 n0 a1)) (hi:=(pkH c0 n0 a1)) ((pk_ok c0 n0 a1).v.ok.z) (by omega) (by omega))) rfl<|mO rfl<|mZ rfl<|mT<|cR<|mW rfl<|mT<|cSeq<|cR<|mv3 rfl rfl rfl<|mT<|cBlock<|cLoop (ι:=Nat) (fun (i:Nat)=>⟨62,[(3,.d (.one (.v (.int .i64 a3)))),(12,.d (.one (.row 10 l.length (elA 18 f 87480 2500 l)))),(13,.ptr 13 0),(32,.d (.one (.v (.int .i64 ((l.length:Nat):Int))))),(14,.d (.one (.v (.int .i64 ((cn j i:Nat):Int))))),(33,.d (.one (.v (.int .i64 ((i:Nat):Int)))))],[(13,.box 46 ([.row 2 (lg (pkC c0 n0 a1)) (zel 4 (pkC c0 n0 a1))] ++tn 600 (pkL c0 n0 a1) ++tn 600 (pkH c0 n0 a1)))]⟩) (fun (i:Nat)=>i≤l.length) (fun (i:Nat)=>l.length-i) 0 (Nat.zero_le _) (wk rfl ⟨hs rfl,hs rfl,hs rfl,hs rfl,hs' rfl (le_int (by rw [show cn j 0=0 from if_neg (by omega)];rfl)),hs' rfl (le_int rfl),trivial⟩ ⟨ho rfl,trivial⟩ rfl) ?_;rintro i hI;have hi:i≤l.length:=hI;show AW _ _ _ ⟨_,_,_⟩
 refine cR<|mW rfl<|mT<|cSeq<|cCond rfl (fun hc1=>?_) (fun hc1=>?_)
 ·refine cSkip<|tN<|cSeq<|cBlock<|cSeq ?_;have hin:i < l.length:=by have h0:=of_decide_eq_true hc1;omega
  refine cReg<|mv2 rfl rfl<|mT<|cSeq ?_
  by_cases hk:i=j
  ·refine cDk 8<|.cons (OpS.V _ rfl)<|.cons (OpS.V _ rfl)<|.cons (OpS.V (.d (.one (.at 10 ((elA 18 f 87480 2500 l) i)))) (ixR (el:=(elA 18 f 87480 2500 l)) (z:=((i:Nat):Int)) (n:=l.length) rfl rfl rfl rfl rfl rfl (by omega) (by omega))) ?_;exact oV rfl<|oC (aQToA (K:=18) (KC:=87480) (X:=2500) (c:=f) (lo:=(l.getD i (0,0)).1) (hi:=(l.getD i (0,0)).2) (hS.z) (by omega) (by omega)) rfl<|oV rfl<|oC (ACall.le (dl DV.same (dl (dle (al_tight (hlx.mono (by decide)) (tb_mono (q6 hq1.2.1) (by decide)) (tb_mono (q6 hq1.2.2) (by decide)))) dl0)) AV.le.rfl (aACmp (K:=18) (L:=2500) (X:=34000) (KC:=1700000) (N:=7) (c:=f) (d:=(pkC c0 n0 a1)) (lo:=(l.getD i (0,0)).1) (hi:=(l.getD i (0,0)).2) (x1:=(pkL c0 n0 a1)) (x2:=(pkH c0 n0 a1)) (hR.ok _ (getD_mem' hin)).1 (pk_ok c0 n0 a1).v (by decide) hS.l7 (Nat.le_trans (pk_ok c0 n0 a1).l5 (by decide)) (by decide) (by decide) (by decide) (by decide))) rfl<|oT rfl (beq_iff_eq.2 ((hu i hin).2 hk))<|.nil<|mT<|cT rfl<|cReg<|mv3 rfl rfl rfl<|mNil<|bN<|tN<|cReg<|mv2 rfl rfl<|mNil<|⟨(i+1),by omega,by omega,wk rfl ⟨hs rfl,hs rfl,hs rfl,hs rfl,hs' rfl (le_int (by rw [(cn_t hk).1,(cn_t hk).2];rfl)),hs' rfl (le_int (inc64 (by omega))),trivial⟩ ⟨ho rfl,trivial⟩ rfl⟩
  ·refine cDk 8<|.cons (OpS.V _ rfl)<|.cons (OpS.V _ rfl)<|.cons (OpS.V (.d (.one (.at 10 ((elA 18 f 87480 2500 l) i)))) (ixR (el:=(elA 18 f 87480 2500 l)) (z:=((i:Nat):Int)) (n:=l.length) rfl rfl rfl rfl rfl rfl (by omega) (by omega))) ?_;exact oV rfl<|oC (aQToA (K:=18) (KC:=87480) (X:=2500) (c:=f) (lo:=(l.getD i (0,0)).1) (hi:=(l.getD i (0,0)).2) (hS.z) (by omega) (by omega)) rfl<|oV rfl<|oC (ACall.le (dl DV.same (dl (dle (al_tight (hlx.mono (by decide)) (tb_mono (q6 hq1.2.1) (by decide)) (tb_mono (q6 hq1.2.2) (by decide)))) dl0)) AV.le.rfl (aACmp (K:=18) (L:=2500) (X:=34000) (KC:=1700000) (N:=7) (c:=f) (d:=(pkC c0 n0 a1)) (lo:=(l.getD i (0,0)).1) (hi:=(l.getD i (0,0)).2) (x1:=(pkL c0 n0 a1)) (x2:=(pkH c0 n0 a1)) (hR.ok _ (getD_mem' hin)).1 (pk_ok c0 n0 a1).v (by decide) hS.l7 (Nat.le_trans (pk_ok c0 n0 a1).l5 (by decide)) (by decide) (by decide) (by decide) (by decide))) rfl<|oF rfl (beq_eq_false_iff_ne.2 (fun k=>hk ((hu i hin).1 k)))<|.nil<|mT<|cF rfl<|cSkip<|bN<|tN<|cReg<|mv2 rfl rfl<|mNil<|⟨(i+1),by omega,by omega,wk rfl ⟨hs rfl,hs rfl,hs rfl,hs rfl,hs' rfl (le_int (by rw [cn_f hk])),hs' rfl (le_int (inc64 (by omega))),trivial⟩ ⟨ho rfl,trivial⟩ rfl⟩
 ·refine cExit<|tE<|tE<|bE<|tN<|cSeq ?_;have hie:i=l.length:=by have h0:=of_decide_eq_false hc1;omega
  obtain ⟨hn,hw⟩:=rf_ok (eps_pos (a3%(40:Int)).toNat).1 19261 (pk_ok c0 n0 a1).v.ok (eps_wide (q6 hq1.2.1) (q6 hq1.2.2) (J:=19261) (n:=(a3%(40:Int)).toNat) (by omega));exact cDk 5<|oV rfl<|.cons (OpS.V _ rfl)<|oC (aWithin (v:=a3) (n:=40) (by decide) (by decide) h3a h3b) rfl<|oC (aRefine (K:=4) (c:=(pkC c0 n0 a1)) (L:=600) (lo:=(pkL c0 n0 a1)) (hi:=(pkH c0 n0 a1)) (k:=(a3%(40:Int))) (J:=19261) (X:=2410) (pk_ok c0 n0 a1).v.ok (by omega) (by omega) (by omega) (by decide) (by omega) (by omega)) rfl<|.cons (OpS.N (.box 46 ([.v (.slice none 0 0),.v (.bool false),.v (.slice none 0 0),.v (.bool false),.v (.slice none 0 0),.v (.bool false),.v (.slice none 0 0),.v (.bool false),.v (.slice none 0 0)])) rfl 16 rfl rfl)<|.nil<|mZ rfl<|mT<|cR<|mW rfl<|mbT rfl (beq_iff_eq.2 (by rw [hie,show cn j l.length=1 from if_pos hj];rfl))<|mv3 rfl rfl rfl<|mY (ACall.le (dl (dle (al_tight (hlx.mono (by decide)) (tb_mono (q6 hq1.2.1) (by decide)) (tb_mono (q6 hq1.2.2) (by decide)))) (dl DV.same dl0)) AV.le.rfl (aACmp (K:=4) (L:=2410) (X:=29000) (KC:=50000) (N:=5) (c:=(pkC c0 n0 a1)) (d:=(pkC c0 n0 a1)) (lo:=(pkL c0 n0 a1)) (hi:=(pkH c0 n0 a1)) (x1:=(rf (pkC c0 n0 a1) (Rat.divInt 1 ((2:Int)^((a3%(40:Int))).toNat)) 19261 (pkL c0 n0 a1) (pkH c0 n0 a1)).1) (x2:=(rf (pkC c0 n0 a1) (Rat.divInt 1 ((2:Int)^((a3%(40:Int))).toNat)) 19261 (pkL c0 n0 a1) (pkH c0 n0 a1)).2) (pk_ok c0 n0 a1).v ((pk_ok c0 n0 a1).v.nar hn) (by decide) (pk_ok c0 n0 a1).l5 (pk_ok c0 n0 a1).l5 (by decide) (by decide) (by decide) (by decide))) rfl<|mbT rfl (beq_iff_eq.2 (cmpC_eq fun q=>(hn.cut q).symm))<|mv2 rfl rfl<|mY (aWakes10) rfl<|mv2 rfl rfl<|mT<|cRet<|rQ rfl (AV.le.rfl)
end Go.Proofs.YthccmbncplakjaaGreat
