/-
  What the proof of AlgOrders asks for besides: joined, short spelling. No condition.
-/
import Derived.Test.YthccmbncplakjaaGreatJ5
set_option linter.unusedVariables false
set_option linter.unusedSimpArgs false
set_option maxRecDepth 100000
set_option maxHeartbeats 4000000
namespace Go.Proofs.YthccmbncplakjaaGreat
open Go.RowKit
namespace Am
end Am
section
open Go.RowKit Am
end
section
open Go.RowKit Am
end
/-! ### Rows cut: noughts on top are taken away -/
/-! ### Sums, products -/
/-! ### A region that draws, order by order -/
section
open Go.RowKit Go.ChangeShapes Go.WideShapes
end
section
open Go.RowKit Go.ChangeShapes Go.WideShapes
end
section
open Go.RowKit Go.ChangeShapes Go.WideShapes
end
/-
 RATIONALS of the program, by the machine (3).
-/
instance {lo hi p q:Rat}:Decidable (bel lo hi p q):=inferInstanceAs (Decidable (_∧_))
/-! ### Orders that come together again -/
/-! ### Operations that only look at slots may come first -/
section
open Go.RowKit Go.ChangeShapes Go.WideShapes
end
theorem insK_lt{L:List AT}{x:AT}:∀ k,insK L x k < k→cmpC (atC x) (acu L (insK L x k)) < 0
 | 0,h=>absurd h (Nat.not_lt_zero _)
 | k+1,h=>by
  by_cases hc:cmpC (atC x) (acu L k) < 0
  ·have e:insK L x (k+1)=insK L x k:=if_pos hc
   rw [e] at h ⊢
   by_cases hk:insK L x k < k
   ·exact insK_lt k hk
   ·have:=insK_le L x k
    rw [show insK L x k=k by omega];exact hc
  ·have e:insK L x (k+1)=k+1:=if_neg hc
   omega
theorem insK_ge{L:List AT}{x:AT}{j:Nat}:∀ k,insK L x k=j+1→¬ cmpC (atC x) (acu L j) < 0
 | 0,h=>by cases h
 | k+1,h=>by
  by_cases hc:cmpC (atC x) (acu L k) < 0
  ·have e:insK L x (k+1)=insK L x k:=if_pos hc
   exact insK_ge k (e▸h)
  ·have e:insK L x (k+1)=k+1:=if_neg hc
   obtain rfl:k=j:=by omega
   exact hc
theorem ins_up{L:List AT}{x:AT}(h:∀ j,j+1 < L.length→cmpC (acu L j) (acu L (j+1))≤0)(hc:∀ j,j < L.length→IsCut (acu L j))(hx:IsCut (atC x)):∀ j,j+1 < (ins L x).length→cmpC (acu (ins L x) j) (acu (ins L x) (j+1))≤0:=fun j hj=>by
 have hp:=insK_le L x L.length;rw [ins_len] at hj;have e:∀ j,acu (ins L x) j=if j < insK L x L.length then acu L j else if j=insK L x L.length then atC x else acu L (j-1):=fun j=>by
  unfold acu ac al ah atC;rw [ga_ins];split
  ·rfl
  ·split <;> rfl
 rw [e,e];obtain ⟨p,hpe⟩:∃ p,p=insK L x L.length:=⟨_,rfl⟩
 rw [← hpe] at hp ⊢
 by_cases h1:j+1 < p
 ·rw [if_pos (by omega),if_pos h1];exact h j (by omega)
 by_cases h2:j+1=p
 ·rw [if_pos (by omega),if_neg h1,if_pos h2]
  have h3:=insK_ge (L:=L) (x:=x) (j:=j) L.length (by omega);have h4:=cmpC_neg hx (hc j (by omega));omega
 by_cases h3:j=p
 ·rw [if_neg (by omega),if_pos h3,if_neg h1,if_neg h2]
  have h4:=insK_lt (L:=L) (x:=x) L.length (by omega);rw [← hpe,← h3] at h4;exact Int.le_of_lt h4
 ·rw [if_neg (by omega),if_neg h3,if_neg h1,if_neg h2]
  have:=h (j-1) (by omega);rwa [show j-1+1=j+1-1 by omega] at this
theorem srt_up{As:List AT}:∀ i,(∀ j,j < i→IsCut (acu As j))→∀ j,j+1 < i→cmpC (acu (srt As i) j) (acu (srt As i) (j+1))≤0
 | 0,_,j,h=>absurd h (Nat.not_lt_zero _)
 | i+1,h,j,hj=>ins_up (L:=srt As i) (x:=ga As i) (fun q hq=>srt_up i (fun j hj=>h j (by omega)) q (by rw [srt_len] at hq;exact hq)) (fun q hq=>srt_all (p:=fun x=>IsCut (atC x)) i (fun j hj=>h j (by omega)) q (by rw [srt_len] at hq;exact hq)) (h i (by omega)) j (by rw [ins_len,srt_len];exact hj)
theorem elg_thr{K L:Nat}{c d e:Nat→Int}{lo hi p q a b:Rat}:AV.le (.d (.one (.row 9 3 (fun i' j'=>(([prow K (lg c) c] ++tn L lo ++tn L hi ++ [prow K (lg d) d] ++tn L p ++tn L q ++ [prow K (lg e) e] ++tn L a ++tn L b)[i'*9+j']?).getD (.v undef))))) (.d (.one (.row 9 3 (elg K L [(c,lo,hi),(d,p,q),(e,a,b)])))):=le_one (row_le fun i hi' j hj B w v hv=>by
 have hv':LfR B w (((alc K c L lo L hi ++(alc K d L p L q ++alc K e L a L b))[i*9+j]?).getD (.v undef)) v:=by simpa only [List.append_assoc] using hv
 rw [cat9 rfl hj] at hv'
 by_cases h0:i=0
 ·rw [if_pos h0] at hv';subst h0;exact hv'
 ·rw [if_neg h0,cat9 rfl hj] at hv'
  by_cases h1:i=1
  ·subst h1;exact hv'
  ·obtain rfl:i=2:=by omega
   rw [if_neg (by decide),show (2-1-1)*9+j=j by omega] at hv';exact hv')
theorem thr_all{p:AT→Prop}{x y z:AT}(hx:p x)(hy:p y)(hz:p z):∀ i,i < 3→p (ga [x,y,z] i)
 | 0,_=>hx
 | 1,_=>hy
 | 2,_=>hz
theorem cmpC_tr{A B D:Cut}(hA:IsCut A)(hB:IsCut B)(hD:IsCut D)(h:cmpC A B≤0)(k:cmpC B D≤0):cmpC A D≤0:=(cmpC_le hA hD).2 fun q hq=>(cmpC_le hB hD).1 k q ((cmpC_le hA hB).1 h q hq)
theorem cmpC_tg{A B D:Cut}(hA:IsCut A)(hB:IsCut B)(hD:IsCut D)(h:0≤cmpC A B)(k:0≤cmpC B D):0≤cmpC A D:=by
 have h1:=cmpC_neg hA hB;have h2:=cmpC_neg hB hD;have h3:=cmpC_neg hA hD;have h4:=cmpC_tr hD hB hA (by omega) (by omega);omega
theorem aAlgOrders{c0 c2 c4:Nat→Int}{n0 n2 n4:Nat}{a1 a3 a5:Int}(hn0:n0≤9223372036854775807)(hb0:∀ i,i < n0→-9223372036854775808≤c0 i∧c0 i≤9223372036854775807)(h1a: -9223372036854775808≤a1)(h1b:a1≤9223372036854775807)(hn2:n2≤9223372036854775807)(hb2:∀ i,i < n2→-9223372036854775808≤c2 i∧c2 i≤9223372036854775807)(h3a: -9223372036854775808≤a3)(h3b:a3≤9223372036854775807)(hn4:n4≤9223372036854775807)(hb4:∀ i,i < n4→-9223372036854775808≤c4 i∧c4 i≤9223372036854775807)(h5a: -9223372036854775808≤a5)(h5b:a5≤9223372036854775807):ACall Tryz.prog 10 [.one (irow n0 c0),.one (.v (.int .i64 a1)),.one (irow n2 c2),.one (.v (.int .i64 a3)),.one (irow n4 c4),.one (.v (.int .i64 a5))] (.d (.one (.v (.bool true)))):=by
 refine aN 102 [.tmp 12] Tryz.func10 rfl<|cR<|mW rfl<|mT<|cR<|mv2 rfl rfl<|mY (aPick hn0 h1a h1b) rfl<|AL.fact (f_qa 22 rfl (pk_ok c0 n0 a1).v.ok.z) (fun hq1=>?_);refine mY (ACall.le (dl DV.same dl0) (al_600 hq1.1 hq1.2.1 hq1.2.2) (aQToA (K:=4) (KC:=2916) (X:=1200) (c:=(pkC c0 n0 a1)) (lo:=(pkL c0 n0 a1)) (hi:=(pkH c0 n0 a1)) ((pk_ok c0 n0 a1).v.ok.z))) rfl<|mv2 rfl rfl<|mY (aPick hn2 h3a h3b) rfl<|AL.fact (f_qa 26 rfl (pk_ok c2 n2 a3).v.ok.z) (fun hq2=>?_);refine mY (ACall.le (dl DV.same dl0) (al_600 hq2.1 hq2.2.1 hq2.2.2) (aQToA (K:=4) (KC:=2916) (X:=1200) (c:=(pkC c2 n2 a3)) (lo:=(pkL c2 n2 a3)) (hi:=(pkH c2 n2 a3)) ((pk_ok c2 n2 a3).v.ok.z))) rfl<|mv2 rfl rfl<|mY (aPick hn4 h5a h5b) rfl<|AL.fact (f_qa 30 rfl (pk_ok c4 n4 a5).v.ok.z) (fun hq3=>?_);refine mY (ACall.le (dl DV.same dl0) (al_600 hq3.1 hq3.2.1 hq3.2.2) (aQToA (K:=4) (KC:=2916) (X:=1200) (c:=(pkC c4 n4 a5)) (lo:=(pkL c4 n4 a5)) (hi:=(pkH c4 n4 a5)) ((pk_ok c4 n4 a5).v.ok.z))) rfl<|mO rfl<|mO rfl<|mO rfl<|mZ rfl<|mZ rfl<|mZ rfl<|mT<|cSeq<|cDk 12<|oV rfl<|oV rfl<|oC (aACmp (X:=8180) (KC:=50000) (N:=5) (pk_ok c0 n0 a1).v (pk_ok c2 n2 a3).v (by decide) (pk_ok c0 n0 a1).l5 (pk_ok c2 n2 a3).l5 (by decide) (by decide) (by decide) (by decide)) rfl<|oV rfl<|oV rfl<|oC (aACmp (X:=8180) (KC:=50000) (N:=5) (pk_ok c2 n2 a3).v (pk_ok c4 n4 a5).v (by decide) (pk_ok c2 n2 a3).l5 (pk_ok c4 n4 a5).l5 (by decide) (by decide) (by decide) (by decide)) rfl<|oV rfl<|oV rfl<|oC (aACmp (X:=8180) (KC:=50000) (N:=5) (pk_ok c0 n0 a1).v (pk_ok c4 n4 a5).v (by decide) (pk_ok c0 n0 a1).l5 (pk_ok c4 n4 a5).l5 (by decide) (by decide) (by decide) (by decide)) rfl<|.cons (OpS.V _ rfl)<|.cons (OpS.V _ rfl)<|.cons (OpS.V _ rfl)<|.nil<|mT<|cSeq<|cCut (ι:=Unit) (fun _=>⟨102,[(13,.ptr 13 0),(14,.ptr 14 0),(15,.ptr 15 0),(70,.d (.one (.v (.bool false))))],[(13,.box 46 ([.row 2 (lg (pkC c0 n0 a1)) (zel 4 (pkC c0 n0 a1))] ++tn 600 (pkL c0 n0 a1) ++tn 600 (pkH c0 n0 a1))),(14,.box 46 ([.row 2 (lg (pkC c2 n2 a3)) (zel 4 (pkC c2 n2 a3))] ++tn 600 (pkL c2 n2 a3) ++tn 600 (pkH c2 n2 a3))),(15,.box 46 ([.row 2 (lg (pkC c4 n4 a5)) (zel 4 (pkC c4 n4 a5))] ++tn 600 (pkL c4 n4 a5) ++tn 600 (pkH c4 n4 a5)))]⟩) (fun _=>True) ?_ (fun _ _=>?_)
 ·have hE:(cmpC (cutA (pkC c2 n2 a3) (pkL c2 n2 a3) (pkH c2 n2 a3)) (cutA (pkC c0 n0 a1) (pkL c0 n0 a1) (pkH c0 n0 a1)))= -(cmpC (cutA (pkC c0 n0 a1) (pkL c0 n0 a1) (pkH c0 n0 a1)) (cutA (pkC c2 n2 a3) (pkL c2 n2 a3) (pkH c2 n2 a3))):=cmpC_neg (pk_ok c0 n0 a1).v.ok.cut (pk_ok c2 n2 a3).v.ok.cut;have hbA:=cmpC_bd (cutA (pkC c2 n2 a3) (pkL c2 n2 a3) (pkH c2 n2 a3)) (cutA (pkC c0 n0 a1) (pkL c0 n0 a1) (pkH c0 n0 a1));have htr:=cmpC_tr (pk_ok c0 n0 a1).v.ok.cut (pk_ok c2 n2 a3).v.ok.cut (pk_ok c4 n4 a5).v.ok.cut;have htg:=cmpC_tg (pk_ok c0 n0 a1).v.ok.cut (pk_ok c2 n2 a3).v.ok.cut (pk_ok c4 n4 a5).v.ok.cut
  by_cases x1:(cmpC (cutA (pkC c0 n0 a1) (pkL c0 n0 a1) (pkH c0 n0 a1)) (cutA (pkC c2 n2 a3) (pkL c2 n2 a3) (pkH c2 n2 a3)))≤0
  ·by_cases x2:(cmpC (cutA (pkC c2 n2 a3) (pkL c2 n2 a3) (pkH c2 n2 a3)) (cutA (pkC c4 n4 a5) (pkL c4 n4 a5) (pkH c4 n4 a5)))≤0
   ·by_cases y1:(cmpC (cutA (pkC c0 n0 a1) (pkL c0 n0 a1) (pkH c0 n0 a1)) (cutA (pkC c2 n2 a3) (pkL c2 n2 a3) (pkH c2 n2 a3)))≥0
    ·by_cases y2:(cmpC (cutA (pkC c2 n2 a3) (pkL c2 n2 a3) (pkH c2 n2 a3)) (cutA (pkC c4 n4 a5) (pkL c4 n4 a5) (pkH c4 n4 a5)))≥0
     ·exact cReg<|mv3 rfl rfl rfl<|mY (aACmp (X:=8180) (KC:=50000) (N:=5) (pk_ok c2 n2 a3).v (pk_ok c0 n0 a1).v (by decide) (pk_ok c2 n2 a3).l5 (pk_ok c0 n0 a1).l5 (by decide) (by decide) (by decide) (by decide)) rfl<|mV hTT (.d (.one (.v (.int .i64 (-(cmpC (cutA (pkC c2 n2 a3) (pkL c2 n2 a3) (pkH c2 n2 a3)) (cutA (pkC c0 n0 a1) (pkL c0 n0 a1) (pkH c0 n0 a1)))))))) (evi ((wr64 (by omega) (by omega)).trans (by omega)))<|mbF rfl (by rw [hE,Int.neg_neg];simp)<|mv2 rfl rfl<|mdT rfl x1<|mv2 rfl rfl<|mdT rfl x2<|mv3 rfl rfl rfl<|mdF rfl (by have:=htr x1 x2;omega)<|mv4 rfl rfl rfl rfl<|mdT rfl y1<|mv2 rfl rfl<|mdT rfl y2<|mv3 rfl rfl rfl<|mdF rfl (by have:=htg y1 y2;omega)<|mv2 rfl rfl<|mT<|⟨(),trivial,wkr rfl rfl⟩
     ·exact cReg<|mv3 rfl rfl rfl<|mY (aACmp (X:=8180) (KC:=50000) (N:=5) (pk_ok c2 n2 a3).v (pk_ok c0 n0 a1).v (by decide) (pk_ok c2 n2 a3).l5 (pk_ok c0 n0 a1).l5 (by decide) (by decide) (by decide) (by decide)) rfl<|mV hTT (.d (.one (.v (.int .i64 (-(cmpC (cutA (pkC c2 n2 a3) (pkL c2 n2 a3) (pkH c2 n2 a3)) (cutA (pkC c0 n0 a1) (pkL c0 n0 a1) (pkH c0 n0 a1)))))))) (evi ((wr64 (by omega) (by omega)).trans (by omega)))<|mbF rfl (by rw [hE,Int.neg_neg];simp)<|mv2 rfl rfl<|mdT rfl x1<|mv2 rfl rfl<|mdT rfl x2<|mv3 rfl rfl rfl<|mdF rfl (by have:=htr x1 x2;omega)<|mv4 rfl rfl rfl rfl<|mdT rfl y1<|mv2 rfl rfl<|mdF rfl y2<|mv2 rfl rfl<|mG rfl rfl<|mG rfl rfl<|mv2 rfl rfl<|mT<|⟨(),trivial,wkr rfl rfl⟩
    ·exact cReg<|mv3 rfl rfl rfl<|mY (aACmp (X:=8180) (KC:=50000) (N:=5) (pk_ok c2 n2 a3).v (pk_ok c0 n0 a1).v (by decide) (pk_ok c2 n2 a3).l5 (pk_ok c0 n0 a1).l5 (by decide) (by decide) (by decide) (by decide)) rfl<|mV hTT (.d (.one (.v (.int .i64 (-(cmpC (cutA (pkC c2 n2 a3) (pkL c2 n2 a3) (pkH c2 n2 a3)) (cutA (pkC c0 n0 a1) (pkL c0 n0 a1) (pkH c0 n0 a1)))))))) (evi ((wr64 (by omega) (by omega)).trans (by omega)))<|mbF rfl (by rw [hE,Int.neg_neg];simp)<|mv2 rfl rfl<|mdT rfl x1<|mv2 rfl rfl<|mdT rfl x2<|mv3 rfl rfl rfl<|mdF rfl (by have:=htr x1 x2;omega)<|mv4 rfl rfl rfl rfl<|mdF rfl y1<|mW rfl<|mG rfl rfl<|mG rfl rfl<|mv2 rfl rfl<|mG rfl rfl<|mG rfl rfl<|mv2 rfl rfl<|mT<|⟨(),trivial,wkr rfl rfl⟩
   ·by_cases y1:(cmpC (cutA (pkC c0 n0 a1) (pkL c0 n0 a1) (pkH c0 n0 a1)) (cutA (pkC c2 n2 a3) (pkL c2 n2 a3) (pkH c2 n2 a3)))≥0
    ·by_cases y2:(cmpC (cutA (pkC c2 n2 a3) (pkL c2 n2 a3) (pkH c2 n2 a3)) (cutA (pkC c4 n4 a5) (pkL c4 n4 a5) (pkH c4 n4 a5)))≥0
     ·exact cReg<|mv3 rfl rfl rfl<|mY (aACmp (X:=8180) (KC:=50000) (N:=5) (pk_ok c2 n2 a3).v (pk_ok c0 n0 a1).v (by decide) (pk_ok c2 n2 a3).l5 (pk_ok c0 n0 a1).l5 (by decide) (by decide) (by decide) (by decide)) rfl<|mV hTT (.d (.one (.v (.int .i64 (-(cmpC (cutA (pkC c2 n2 a3) (pkL c2 n2 a3) (pkH c2 n2 a3)) (cutA (pkC c0 n0 a1) (pkL c0 n0 a1) (pkH c0 n0 a1)))))))) (evi ((wr64 (by omega) (by omega)).trans (by omega)))<|mbF rfl (by rw [hE,Int.neg_neg];simp)<|mv2 rfl rfl<|mdT rfl x1<|mv2 rfl rfl<|mdF rfl x2<|mv2 rfl rfl<|mG rfl rfl<|mG rfl rfl<|mv4 rfl rfl rfl rfl<|mdT rfl y1<|mv2 rfl rfl<|mdT rfl y2<|mv3 rfl rfl rfl<|mdF rfl (by have:=htg y1 y2;omega)<|mv2 rfl rfl<|mT<|⟨(),trivial,wkr rfl rfl⟩
     ·exact cReg<|mv3 rfl rfl rfl<|mY (aACmp (X:=8180) (KC:=50000) (N:=5) (pk_ok c2 n2 a3).v (pk_ok c0 n0 a1).v (by decide) (pk_ok c2 n2 a3).l5 (pk_ok c0 n0 a1).l5 (by decide) (by decide) (by decide) (by decide)) rfl<|mV hTT (.d (.one (.v (.int .i64 (-(cmpC (cutA (pkC c2 n2 a3) (pkL c2 n2 a3) (pkH c2 n2 a3)) (cutA (pkC c0 n0 a1) (pkL c0 n0 a1) (pkH c0 n0 a1)))))))) (evi ((wr64 (by omega) (by omega)).trans (by omega)))<|mbF rfl (by rw [hE,Int.neg_neg];simp)<|mv2 rfl rfl<|mdT rfl x1<|mv2 rfl rfl<|mdF rfl x2<|mv2 rfl rfl<|mG rfl rfl<|mG rfl rfl<|mv4 rfl rfl rfl rfl<|mdT rfl y1<|mv2 rfl rfl<|mdF rfl y2<|mv2 rfl rfl<|mG rfl rfl<|mG rfl rfl<|mv2 rfl rfl<|mT<|⟨(),trivial,wkr rfl rfl⟩
    ·exact cReg<|mv3 rfl rfl rfl<|mY (aACmp (X:=8180) (KC:=50000) (N:=5) (pk_ok c2 n2 a3).v (pk_ok c0 n0 a1).v (by decide) (pk_ok c2 n2 a3).l5 (pk_ok c0 n0 a1).l5 (by decide) (by decide) (by decide) (by decide)) rfl<|mV hTT (.d (.one (.v (.int .i64 (-(cmpC (cutA (pkC c2 n2 a3) (pkL c2 n2 a3) (pkH c2 n2 a3)) (cutA (pkC c0 n0 a1) (pkL c0 n0 a1) (pkH c0 n0 a1)))))))) (evi ((wr64 (by omega) (by omega)).trans (by omega)))<|mbF rfl (by rw [hE,Int.neg_neg];simp)<|mv2 rfl rfl<|mdT rfl x1<|mv2 rfl rfl<|mdF rfl x2<|mv2 rfl rfl<|mG rfl rfl<|mG rfl rfl<|mv4 rfl rfl rfl rfl<|mdF rfl y1<|mW rfl<|mG rfl rfl<|mG rfl rfl<|mv2 rfl rfl<|mG rfl rfl<|mG rfl rfl<|mv2 rfl rfl<|mT<|⟨(),trivial,wkr rfl rfl⟩
  ·by_cases y1:(cmpC (cutA (pkC c0 n0 a1) (pkL c0 n0 a1) (pkH c0 n0 a1)) (cutA (pkC c2 n2 a3) (pkL c2 n2 a3) (pkH c2 n2 a3)))≥0
   ·by_cases y2:(cmpC (cutA (pkC c2 n2 a3) (pkL c2 n2 a3) (pkH c2 n2 a3)) (cutA (pkC c4 n4 a5) (pkL c4 n4 a5) (pkH c4 n4 a5)))≥0
    ·exact cReg<|mv3 rfl rfl rfl<|mY (aACmp (X:=8180) (KC:=50000) (N:=5) (pk_ok c2 n2 a3).v (pk_ok c0 n0 a1).v (by decide) (pk_ok c2 n2 a3).l5 (pk_ok c0 n0 a1).l5 (by decide) (by decide) (by decide) (by decide)) rfl<|mV hTT (.d (.one (.v (.int .i64 (-(cmpC (cutA (pkC c2 n2 a3) (pkL c2 n2 a3) (pkH c2 n2 a3)) (cutA (pkC c0 n0 a1) (pkL c0 n0 a1) (pkH c0 n0 a1)))))))) (evi ((wr64 (by omega) (by omega)).trans (by omega)))<|mbF rfl (by rw [hE,Int.neg_neg];simp)<|mv2 rfl rfl<|mdF rfl x1<|mW rfl<|mG rfl rfl<|mG rfl rfl<|mv2 rfl rfl<|mG rfl rfl<|mG rfl rfl<|mv4 rfl rfl rfl rfl<|mdT rfl y1<|mv2 rfl rfl<|mdT rfl y2<|mv3 rfl rfl rfl<|mdF rfl (by have:=htg y1 y2;omega)<|mv2 rfl rfl<|mT<|⟨(),trivial,wkr rfl rfl⟩
    ·exact cReg<|mv3 rfl rfl rfl<|mY (aACmp (X:=8180) (KC:=50000) (N:=5) (pk_ok c2 n2 a3).v (pk_ok c0 n0 a1).v (by decide) (pk_ok c2 n2 a3).l5 (pk_ok c0 n0 a1).l5 (by decide) (by decide) (by decide) (by decide)) rfl<|mV hTT (.d (.one (.v (.int .i64 (-(cmpC (cutA (pkC c2 n2 a3) (pkL c2 n2 a3) (pkH c2 n2 a3)) (cutA (pkC c0 n0 a1) (pkL c0 n0 a1) (pkH c0 n0 a1)))))))) (evi ((wr64 (by omega) (by omega)).trans (by omega)))<|mbF rfl (by rw [hE,Int.neg_neg];simp)<|mv2 rfl rfl<|mdF rfl x1<|mW rfl<|mG rfl rfl<|mG rfl rfl<|mv2 rfl rfl<|mG rfl rfl<|mG rfl rfl<|mv4 rfl rfl rfl rfl<|mdT rfl y1<|mv2 rfl rfl<|mdF rfl y2<|mv2 rfl rfl<|mG rfl rfl<|mG rfl rfl<|mv2 rfl rfl<|mT<|⟨(),trivial,wkr rfl rfl⟩
   ·exact cReg<|mv3 rfl rfl rfl<|mY (aACmp (X:=8180) (KC:=50000) (N:=5) (pk_ok c2 n2 a3).v (pk_ok c0 n0 a1).v (by decide) (pk_ok c2 n2 a3).l5 (pk_ok c0 n0 a1).l5 (by decide) (by decide) (by decide) (by decide)) rfl<|mV hTT (.d (.one (.v (.int .i64 (-(cmpC (cutA (pkC c2 n2 a3) (pkL c2 n2 a3) (pkH c2 n2 a3)) (cutA (pkC c0 n0 a1) (pkL c0 n0 a1) (pkH c0 n0 a1)))))))) (evi ((wr64 (by omega) (by omega)).trans (by omega)))<|mbF rfl (by rw [hE,Int.neg_neg];simp)<|mv2 rfl rfl<|mdF rfl x1<|mW rfl<|mG rfl rfl<|mG rfl rfl<|mv2 rfl rfl<|mG rfl rfl<|mG rfl rfl<|mv4 rfl rfl rfl rfl<|mdF rfl y1<|mW rfl<|mG rfl rfl<|mG rfl rfl<|mv2 rfl rfl<|mG rfl rfl<|mG rfl rfl<|mv2 rfl rfl<|mT<|⟨(),trivial,wkr rfl rfl⟩
 ·show AW _ _ _ ⟨_,_,_⟩
  refine cFs rfl<|cSeq ?_;have hok:∀ i,i < 3→OkV (ac [((pkC c0 n0 a1),(pkL c0 n0 a1),(pkH c0 n0 a1)),((pkC c2 n2 a3),(pkL c2 n2 a3),(pkH c2 n2 a3)),((pkC c4 n4 a5),(pkL c4 n4 a5),(pkH c4 n4 a5))] i) (al [((pkC c0 n0 a1),(pkL c0 n0 a1),(pkH c0 n0 a1)),((pkC c2 n2 a3),(pkL c2 n2 a3),(pkH c2 n2 a3)),((pkC c4 n4 a5),(pkL c4 n4 a5),(pkH c4 n4 a5))] i) (ah [((pkC c0 n0 a1),(pkL c0 n0 a1),(pkH c0 n0 a1)),((pkC c2 n2 a3),(pkL c2 n2 a3),(pkH c2 n2 a3)),((pkC c4 n4 a5),(pkL c4 n4 a5),(pkH c4 n4 a5))] i):=thr_all (p:=fun x=>OkV x.1 x.2.1 x.2.2) (pk_ok c0 n0 a1).v (pk_ok c2 n2 a3).v (pk_ok c4 n4 a5).v
  have hlg:∀ i,i < 3→lg (ac [((pkC c0 n0 a1),(pkL c0 n0 a1),(pkH c0 n0 a1)),((pkC c2 n2 a3),(pkL c2 n2 a3),(pkH c2 n2 a3)),((pkC c4 n4 a5),(pkL c4 n4 a5),(pkH c4 n4 a5))] i)≤5:=thr_all (p:=fun x=>lg x.1≤5) (pk_ok c0 n0 a1).l5 (pk_ok c2 n2 a3).l5 (pk_ok c4 n4 a5).l5
  have hos:=srt_okv hok (Nat.le_refl 3);have hls:=srt_lg hlg (Nat.le_refl 3);have hup:=srt_up 3 (As:= [((pkC c0 n0 a1),(pkL c0 n0 a1),(pkH c0 n0 a1)),((pkC c2 n2 a3),(pkL c2 n2 a3),(pkH c2 n2 a3)),((pkC c4 n4 a5),(pkL c4 n4 a5),(pkH c4 n4 a5))]) (fun j hj=>(hok j hj).ok.cut);refine cReg<|mv3 rfl rfl rfl<|mB hTT (.d (.one (.row 9 3 (fun i' j'=>(([.row 2 (lg (pkC c0 n0 a1)) (zel 4 (pkC c0 n0 a1))] ++tn 600 (pkL c0 n0 a1) ++tn 600 (pkH c0 n0 a1) ++ [.row 2 (lg (pkC c2 n2 a3)) (zel 4 (pkC c2 n2 a3))] ++tn 600 (pkL c2 n2 a3) ++tn 600 (pkH c2 n2 a3) ++ [.row 2 (lg (pkC c4 n4 a5)) (zel 4 (pkC c4 n4 a5))] ++tn 600 (pkL c4 n4 a5) ++tn 600 (pkH c4 n4 a5))[i'*9+j']?).getD (.v undef))))) rfl<|mY (ACall.le (dl (dle elg_thr) dl0) AV.le.rfl (aSort (K:=4) (L:=600) (X:=8180) (KC:=50000) (N:=5) (n:=3) (As:= [((pkC c0 n0 a1),(pkL c0 n0 a1),(pkH c0 n0 a1)),((pkC c2 n2 a3),(pkL c2 n2 a3),(pkH c2 n2 a3)),((pkC c4 n4 a5),(pkL c4 n4 a5),(pkH c4 n4 a5))]) rfl (by decide) hok hlg (by decide) (by decide) (by decide) (by decide) (by decide))) rfl<|mW rfl<|mT<|cSeq<|cDk 27<|.cons (OpS.V _ rfl)<|oV rfl<|oV rfl<|.cons (OpS.V _ rfl)<|.cons (OpS.V _ rfl)<|.cons (OpS.V (.d (.one (.at 9 ((elg 4 600 (srt [((pkC c0 n0 a1),(pkL c0 n0 a1),(pkH c0 n0 a1)),((pkC c2 n2 a3),(pkL c2 n2 a3),(pkH c2 n2 a3)),((pkC c4 n4 a5),(pkL c4 n4 a5),(pkH c4 n4 a5))] 3)) 0)))) rfl) ?_;refine oV rfl<|.cons (OpS.V _ rfl)<|.cons (OpS.V (.d (.one (.at 9 ((elg 4 600 (srt [((pkC c0 n0 a1),(pkL c0 n0 a1),(pkH c0 n0 a1)),((pkC c2 n2 a3),(pkL c2 n2 a3),(pkH c2 n2 a3)),((pkC c4 n4 a5),(pkL c4 n4 a5),(pkH c4 n4 a5))] 3)) 1)))) rfl) ?_;refine oV rfl<|oC (aACmp (X:=8180) (KC:=50000) (N:=5) (hos 0 (by decide)) (hos 1 (by decide)) (by decide) (hls 0 (by decide)) (hls 1 (by decide)) (by decide) (by decide) (by decide) (by decide)) rfl<|oTd rfl (hup 0 (by decide))<|.cons (OpS.V _ rfl)<|.cons (OpS.V _ rfl)<|.cons (OpS.V _ rfl)<|.cons (OpS.V (.d (.one (.at 9 ((elg 4 600 (srt [((pkC c0 n0 a1),(pkL c0 n0 a1),(pkH c0 n0 a1)),((pkC c2 n2 a3),(pkL c2 n2 a3),(pkH c2 n2 a3)),((pkC c4 n4 a5),(pkL c4 n4 a5),(pkH c4 n4 a5))] 3)) 1)))) rfl) ?_;refine oV rfl<|.cons (OpS.V _ rfl)<|.cons (OpS.V (.d (.one (.at 9 ((elg 4 600 (srt [((pkC c0 n0 a1),(pkL c0 n0 a1),(pkH c0 n0 a1)),((pkC c2 n2 a3),(pkL c2 n2 a3),(pkH c2 n2 a3)),((pkC c4 n4 a5),(pkL c4 n4 a5),(pkH c4 n4 a5))] 3)) 2)))) rfl) ?_;exact oV rfl<|oC (aACmp (X:=8180) (KC:=50000) (N:=5) (hos 1 (by decide)) (hos 2 (by decide)) (by decide) (hls 1 (by decide)) (hls 2 (by decide)) (by decide) (by decide) (by decide) (by decide)) rfl<|oTd rfl (hup 1 (by decide))<|.cons (OpS.V _ rfl)<|.cons (OpS.V _ rfl)<|oC (aWakes10) rfl<|.cons (OpS.V _ rfl)<|.cons (OpS.V _ rfl)<|.nil<|mT<|cRet<|rQ rfl (AV.le.rfl)
end Go.Proofs.YthccmbncplakjaaGreat
