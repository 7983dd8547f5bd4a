/-
  Laws of the program's functions by an abstract machine, part 5: joined, short spelling. No condition.
-/
import Derived.Test.YtapmpcgekdplfaaGreatJ4
set_option linter.unusedVariables false
set_option linter.unusedSimpArgs false
set_option maxRecDepth 100000
set_option maxHeartbeats 4000000
namespace Go.Proofs.YtapmpcgekdplfaaGreat
open Go.RowKit
theorem leo_absq{t:TypeId}{K:Nat}{z:Int}:AO.le (.box t ([dn K (Int.natAbs (Rat.num ((z:Int):Rat))),.v (.bool false)] ++rn K ((Rat.den ((z:Int):Rat):Nat):Int))) (.box t (qn K ((Int.natAbs z:Nat):Rat))):=by
 have e: [dn K (Int.natAbs (Rat.num ((z:Int):Rat))),.v (.bool false)] ++rn K ((Rat.den ((z:Int):Rat):Nat):Int)=qn K ((Int.natAbs z:Nat):Rat):=by
  unfold qn;rw [Rat.num_intCast,Rat.den_intCast,Rat.num_natCast,Rat.den_natCast];show _= [dn K (Int.natAbs ((z.natAbs:Nat):Int)),.v (.bool (decide (((z.natAbs:Nat):Int) < 0)))] ++_
  rw [Int.natAbs_natCast,decide_eq_false (show ¬ ((z.natAbs:Nat):Int) < 0 by omega)]
 rw [e];exact fun _ _ _ _ h=>h
theorem aQBound{M Y:Nat}{c:Nat→Int}(zc:z20 c)(h2:2≤lg c)(hM:1≤M)(hM2:M≤100000)(hY:2*M+200≤Y):ACall Tryz.prog 61 [.one (qrow M (lg c) (rc c))] (.d (.agg (qn Y (bdQ c)))):=by
 have hlc:=lg_le c;refine aN 43 [.cell 2 49] Tryz.func61 rfl<|cR<|mO rfl<|mT<|cR<|mY (aQZero) rfl<|mO rfl<|mZ rfl<|mT<|cSeq<|cR<|mW rfl<|mT<|cBlock<|cLoop (ι:=Nat) (fun (i:Nat)=>⟨43,[(0,.d (.one (.row 4 (lg c) (qel M (rc c))))),(2,.ptr 2 0),(3,.ptr 3 0),(4,.d (.one (.v (.int .i64 ((i:Nat):Int)))))],[(2,.box 49 ([.v (.slice none 0 0),.v (.bool false),.v (.slice none 0 0),.v (.bool false)])),(3,.box 49 (qn M ((mxA c i:Nat):Rat)))]⟩) (fun (i:Nat)=>i≤lg c-1) (fun (i:Nat)=>lg c-1-i) 0 (Nat.zero_le _) (wk rfl ⟨hs rfl,hs rfl,hs rfl,hs' rfl (le_int rfl),trivial⟩ ⟨ho rfl,ho' rfl (leo_qt rfl (qb_int (z:=0) (Nat.pow_pos (by decide)) hM)),trivial⟩ rfl) ?_;rintro i hI;have hi:i≤lg c-1:=hI;show AW _ _ _ ⟨_,_,_⟩
 refine cSeq<|cR<|mW rfl<|mV hTT (.d (.one (.v (.int .i64 ((i+1:Nat):Int))))) (evi (inc64 (by omega)))<|mv3 rfl rfl rfl<|mT<|cCond rfl (fun hc1=>?_) (fun hc1=>?_)
 ·refine cSkip<|tN<|cSeq<|cBlock<|cSeq ?_;have hin:i+1 < lg c:=by have h0:=of_decide_eq_true hc1;omega
  refine cReg<|mv2 rfl rfl<|mV hTT (.d (.one (.at 4 ((qel M (rc c)) i)))) (ixR (el:=(qel M (rc c))) (z:=((i:Nat):Int)) (n:=(lg c)) rfl rfl rfl rfl rfl rfl (by omega) (by omega)) ?_;refine mW rfl<|mO rfl<|mZ rfl<|mT<|cR<|mv2 rfl rfl<|mZ rfl<|mT<|cSeq<|wB [20,19,5,18,17,16,15,12,11,10,9,8,4,3,2,0] [3,2] 5 (.box 49 (qn M ((Int.natAbs (c i):Nat):Rat))) rfl rfl (leo_absq) rfl ?_;refine cReg<|mv2 rfl rfl<|mY (aRCmpR (isq M ((Int.natAbs (c i):Nat):Rat)) (isq M ((mxA c i:Nat):Rat))) rfl<|mW rfl<|mT<|cCond rfl (fun hc2=>?_) (fun hc2=>?_)
  ·exact cReg<|mW rfl<|mZ rfl<|mNil<|bN<|tN<|cReg<|mv3 rfl rfl rfl<|mNil<|⟨(i+1),by omega,by omega,wk rfl ⟨hs rfl,hs rfl,hs rfl,hs' rfl (le_int (inc64 (by omega))),trivial⟩ ⟨ho rfl,ho' rfl (leo_qn (Nat.le_refl _) (by have h0:=of_decide_eq_true hc2;have h1:(mxA c i:Rat) < ((c i).natAbs:Rat):=(by apply Classical.byContradiction;intro k;have:=cmpQ_le.2 (show ((c i).natAbs:Rat)≤(mxA c i:Rat) by grind);omega);have h2:mxA c i < (c i).natAbs:=(by exact_mod_cast h1);show ((c i).natAbs:Rat)=((max (mxA c i) (c i).natAbs:Nat):Rat);rw [Nat.max_eq_right (by omega)])),trivial⟩ rfl⟩
  ·exact cSkip<|bN<|tN<|cReg<|mv3 rfl rfl rfl<|mNil<|⟨(i+1),by omega,by omega,wk rfl ⟨hs rfl,hs rfl,hs rfl,hs' rfl (le_int (inc64 (by omega))),trivial⟩ ⟨ho rfl,ho' rfl (leo_qn (Nat.le_refl _) (by have h0:=of_decide_eq_false hc2;have h1:((c i).natAbs:Rat)≤(mxA c i:Rat):=(by apply Classical.byContradiction;intro k;have:=cmpQ_gt (show (mxA c i:Rat) < ((c i).natAbs:Rat) by grind);omega);have h2:(c i).natAbs≤mxA c i:=(by exact_mod_cast h1);show (mxA c i:Rat)=((max (mxA c i) (c i).natAbs:Nat):Rat);rw [Nat.max_eq_left (by omega)])),trivial⟩ rfl⟩
 ·refine cExit<|tE<|tE<|bE<|tN<|cSeq<|cSeq ?_;have hie:i=lg c-1:=by have h0:=of_decide_eq_false hc1;omega
  subst hie;refine cReg<|mv2 rfl rfl<|mdF rfl (by omega)<|mT<|cFs rfl<|cR<|mv3 rfl rfl rfl<|mV hTT (.d (.one (.v (.int .i64 ((lg c-1:Nat):Int))))) (evi ((wr64 (by omega) (by omega)).trans (by omega)))<|mV hTT (.d (.one (.at 4 ((qel M (rc c)) (lg c-1))))) (ixR (el:=(qel M (rc c))) (z:=((lg c-1:Nat):Int)) (n:=(lg c)) rfl rfl rfl rfl rfl rfl (by omega) (by omega)) ?_;refine mW rfl<|mO rfl<|mZ rfl<|mT<|cR<|mv2 rfl rfl<|mZ rfl<|mT<|cSeq<|wB [37,36,6,35,34,33,32,31,30,28,27,26,12,11,10,9,8,4,3,2,0] [3,2] 6 (.box 49 (qn M ((Int.natAbs (c (lg c-1)):Nat):Rat))) rfl rfl (leo_absq) rfl ?_;exact cDk 5<|oC aROfI rfl<|oV rfl<|oV rfl<|oC (aRQuoR (isq M ((mxA c (lg c-1):Nat):Rat)) (isq M ((Int.natAbs (c (lg c-1)):Nat):Rat)) (by have h0:=lead_pos (c:=c) (by omega);grind) (M:=(max (M+M+1) 64))) rfl<|oC (aRAddR (isq 64 ((1:Int):Rat)) (isq (max (M+M+1) 64) (((mxA c (lg c-1):Nat):Rat) / ((Int.natAbs (c (lg c-1)):Nat):Rat))) (M:=(max (64+(max (M+M+1) 64)+1) 64))) rfl<|.nil<|mZ rfl<|mT<|cRet<|rQ rfl (le_qn (by omega) rfl)
theorem aQSplitI{K KC X L JM h1 J d:Nat}{c:Nat→Int}{lo hi:Rat}(hC:Cnt c)(b1:∀ i,(c i).natAbs≤2^h1)(hcb:∀ a b,a≤b→cntC c a b≤1000000)(hI:SpI c h1 L J d lo hi)(hJ:J+d≤JM)(hX:3*(3*L+JM / 32+1)≤X)(hX1:X≤90000)(hK:K≤100000)(hKC:KC≤100000)(ih:∀ d',d=d'+1→∀ lo hi J,SpI c h1 L J d' lo hi→J+d'≤JM→ACallR Tryz.prog 62 [.one (qrow K (lg c) (rc c)),.one (exL (ChQ c KC) (fun L=>qlr KC L)),.agg (qn X lo),.agg (qn X hi)] 51 10 (spF c (d'+1) lo hi).length (elA K c KC X (spF c (d'+1) lo hi))):ACallR Tryz.prog 62 [.one (qrow K (lg c) (rc c)),.one (exL (ChQ c KC) (fun L=>qlr KC L)),.agg (qn X lo),.agg (qn X hi)] 51 10 (spF c (d+1) lo hi).length (elA K c KC X (spF c (d+1) lo hi)):=by
 have hlc:=lg_le c;refine acallR hTT 40 8 Tryz.func62 rfl rfl rfl rfl rfl<|cR<|mO rfl<|mO rfl<|mW rfl<|mT<|cR<|mv3 rfl rfl rfl<|mY (aQBtw hI.le (by omega) (by omega) (by omega)) rfl<|mW rfl<|mT<|cSeq<|cSeq ?_
 by_cases hn0:cntC c lo hi=0
 ·exact cReg<|mW rfl<|mbT rfl (beq_iff_eq.2 (by omega))<|mT<|cT rfl<|cR<|mW rfl<|AL.wk (wkNil 8 8 51 10 (fun _ _=> .v undef) rfl rfl)<|mT<|cRet<|tR<|rR 8 (by rfl) (by rfl) (by rw [sp_0 hn0];exact leo_row0 (el:=fun _ _=> .v undef))
 ·by_cases hn1:cntC c lo hi=1
  ·exact cReg<|mW rfl<|mbF rfl (beq_eq_false_iff_ne.2 (by omega))<|mT<|cFs rfl<|cSeq<|cR<|mW rfl<|mbT rfl (beq_iff_eq.2 (by omega))<|mT<|cT rfl<|cR<|mv5 rfl rfl rfl rfl rfl<|mY (aQExact (hC.z) (by omega) (by omega)) rfl<|mR hTT (.row 51 10 1 (fun i' j'=>(([.row 4 (lg c) (qel K (rc c))] ++ [exL (ChQ c KC) (fun L=>qlr KC L)] ++qn X ((exF c lo hi).1) ++qn X ((exF c lo hi).2))[i'*10+j']?).getD (.v undef))) rfl rfl rfl<|mW rfl<|mT<|cRet<|tR<|rR 25 rfl rfl (by rw [sp_1 hn1];exact leo_aone (fun j hj=>by show (_[0*10+j]?).getD _=_;rw [Nat.zero_mul,Nat.zero_add];rfl))
  ·obtain ⟨d',rfl⟩:∃ d',d=d'+1:=by
    cases d with
    | zero=>exfalso;have h9:=split_one hC b1 hI.le hI.l hI.h (by have:=hI.w;rw [show t2 0=1 from rfl] at this;exact this);omega
    | succ d=>exact ⟨d,rfl⟩
   obtain ⟨i1,i2⟩:=hI.down;have hq:=(i1.d.qb (X:=X) (by omega)).2;refine cReg<|mW rfl<|mbF rfl (beq_eq_false_iff_ne.2 (by omega))<|mT<|cFs rfl<|cSeq<|cR<|mW rfl<|mbF rfl (beq_eq_false_iff_ne.2 (by omega))<|mT<|cFs rfl<|cR<|mv2 rfl rfl<|mY (aRHalf (isq X lo) (isq X hi) (M:=(((max X 64)+X)+200))) rfl<|mO rfl<|mZ rfl<|mT<|cSeq<|wB [10,28,27,26,18,17,16,15,9,14,13,12,11,8,7,6,3,2,1,0] [7,6] 10 (.box 49 (qn X ((lo+hi) / 2))) rfl rfl (leo_qt rfl hq) rfl<|wK [10,7,6,1,0] [10,7,6] rfl rfl ?_;obtain ⟨l1,hl1⟩:∃ l,l=spF c (d'+1) lo ((lo+hi) / 2):=⟨_,rfl⟩
   have cl1:=ih d' rfl lo ((lo+hi) / 2) (J+1) i1 (by omega);have nl1:l1.length≤1000000:=by have h8:=(i1.ok hC b1).len;have h7:=hcb _ _ i1.le;rw [← hl1] at h8;omega
   rw [← hl1] at cl1;obtain ⟨l2,hl2⟩:∃ l,l=spF c (d'+1) ((lo+hi) / 2) hi:=⟨_,rfl⟩
   have cl2:=ih d' rfl ((lo+hi) / 2) hi (J+1) i2 (by omega);have nl2:l2.length≤1000000:=by have h8:=(i2.ok hC b1).len;have h7:=hcb _ _ i2.le;rw [← hl2] at h8;omega
   rw [← hl2] at cl2;refine cAnyB (by kernel_rfl)<|bTake 0 rfl (by kernel_rfl) (by kernel_rfl) (by kernel_rfl) (fun _ _ h=>h) rfl rfl (av:= .d (.one (.row 4 (lg c) (qel K (rc c))))) (pMove rfl rfl)<|bTake 1 rfl (by kernel_rfl) (by kernel_rfl) (by kernel_rfl) (fun _ _ h=>h) rfl rfl (av:= .d (.one (exL (ChQ c KC) (fun L=>qlr KC L)))) (pMove rfl rfl)<|bTake 5 rfl (by kernel_rfl) (by kernel_rfl) (by kernel_rfl) (fun _ _ h=>h) rfl rfl (av:= .d (.one (.row 4 (lg c) (qel K (rc c))))) (pMove rfl rfl)<|bTake 6 rfl (by kernel_rfl) (by kernel_rfl) (by kernel_rfl) (fun _ _ h=>h) rfl rfl (av:= .d (.one (exL (ChQ c KC) (fun L=>qlr KC L)))) (pMove rfl rfl)<|bOf<|anyCut 1 #[true,true,true,true,true,true,true,true,true,true,true,false] ⟨40,[(0,.d (.one (.row 4 (lg c) (qel K (rc c))))),(1,.d (.one (exL (ChQ c KC) (fun L=>qlr KC L)))),(6,.ptr 6 0),(7,.ptr 7 0),(10,.ptr 10 0),(29,.d (.one (.row 4 (lg c) (qel K (rc c))))),(30,.d (.one (exL (ChQ c KC) (fun L=>qlr KC L)))),(34,.d (.one (.row 4 (lg c) (qel K (rc c))))),(35,.d (.one (exL (ChQ c KC) (fun L=>qlr KC L)))),(31,.d (.agg (qn X lo))),(32,.d (.agg (qn X ((lo+hi) / 2)))),(33,.dead),(36,.d (.agg (qn X ((lo+hi) / 2)))),(37,.d (.agg (qn X hi))),(38,.d (.one (.row 10 l2.length (elA K c KC X l2)))),(39,.own 33)],[(6,.box 49 (qn X lo)),(7,.box 49 (qn X hi)),(10,.box 49 (qn X ((lo+hi) / 2))),(33,.row 51 10 (l1.length+l2.length) (appEl l1.length (elA K c KC X l1) (elA K c KC X l2)))]⟩ ?_ (fun hD111111111110=>?_)
   ·refine anyS [11] (by kernel_rfl) rfl ?_;refine ⟨⟨_,rfl,?_⟩,trivial⟩
    ·exact mW rfl<|mT<|anyN (by kernel_rfl)<|tN<|cRet<|rR 33 rfl rfl (by rw [sp_2 hn0 hn1];rw [← hl1,← hl2];exact leo_aapp)
   refine anyCut 2 #[true,true,true,true,true,true,true,true,true,true,false,false] ⟨40,[(0,.d (.one (.row 4 (lg c) (qel K (rc c))))),(1,.d (.one (exL (ChQ c KC) (fun L=>qlr KC L)))),(6,.ptr 6 0),(7,.ptr 7 0),(10,.ptr 10 0),(29,.d (.one (.row 4 (lg c) (qel K (rc c))))),(30,.d (.one (exL (ChQ c KC) (fun L=>qlr KC L)))),(34,.d (.one (.row 4 (lg c) (qel K (rc c))))),(35,.d (.one (exL (ChQ c KC) (fun L=>qlr KC L)))),(31,.d (.agg (qn X lo))),(32,.d (.agg (qn X ((lo+hi) / 2)))),(33,.own 33),(36,.d (.agg (qn X ((lo+hi) / 2)))),(37,.d (.agg (qn X hi))),(38,.own 38)],[(6,.box 49 (qn X lo)),(7,.box 49 (qn X hi)),(10,.box 49 (qn X ((lo+hi) / 2))),(33,.row 51 10 l1.length (elA K c KC X l1)),(38,.row 51 10 l2.length (elA K c KC X l2))]⟩ ?_ (fun hD111111111100=>?_)
   ·refine anyS [10] (by kernel_rfl) rfl ?_;refine ⟨⟨_,rfl,?_⟩,trivial⟩
    ·exact AL.wk (wkRow 38 rfl)<|mA hTT (id:=33) (n:=l1.length) (m:=l2.length) (el:=(elA K c KC X l1)) (el2:=(elA K c KC X l2)) rfl rfl rfl (by show (l1.length+l2.length)*176≤140737488355328;omega) (by omega) rfl rfl rfl rfl rfl rfl rfl rfl rfl rfl<|mT<|anyV hD111111111110 11 [] (by kernel_rfl) (wkr rfl rfl)
   refine anyCut 3 #[true,true,true,true,true,true,true,true,true,false,false,false] ⟨40,[(0,.d (.one (.row 4 (lg c) (qel K (rc c))))),(1,.d (.one (exL (ChQ c KC) (fun L=>qlr KC L)))),(6,.ptr 6 0),(7,.ptr 7 0),(10,.ptr 10 0),(29,.d (.one (.row 4 (lg c) (qel K (rc c))))),(30,.d (.one (exL (ChQ c KC) (fun L=>qlr KC L)))),(34,.d (.one (.row 4 (lg c) (qel K (rc c))))),(35,.d (.one (exL (ChQ c KC) (fun L=>qlr KC L)))),(31,.d (.agg (qn X lo))),(32,.d (.agg (qn X ((lo+hi) / 2)))),(33,.own 33),(36,.d (.agg (qn X ((lo+hi) / 2)))),(37,.d (.agg (qn X hi)))],[(6,.box 49 (qn X lo)),(7,.box 49 (qn X hi)),(10,.box 49 (qn X ((lo+hi) / 2))),(33,.row 51 10 l1.length (elA K c KC X l1))]⟩ ?_ (fun hD111111111000=>?_)
   ·refine anyS [9] (by kernel_rfl) rfl ?_;refine ⟨⟨_,rfl,?_⟩,trivial⟩
    ·exact mCR cl2 rfl rfl rfl rfl rfl<|mT<|anyV hD111111111100 10 [] (by kernel_rfl) (wkr rfl rfl)
   refine anyCut 4 #[true,true,true,true,true,true,true,false,true,false,false,false] ⟨40,[(0,.d (.one (.row 4 (lg c) (qel K (rc c))))),(1,.d (.one (exL (ChQ c KC) (fun L=>qlr KC L)))),(6,.ptr 6 0),(7,.ptr 7 0),(10,.ptr 10 0),(29,.d (.one (.row 4 (lg c) (qel K (rc c))))),(30,.d (.one (exL (ChQ c KC) (fun L=>qlr KC L)))),(34,.d (.one (.row 4 (lg c) (qel K (rc c))))),(35,.d (.one (exL (ChQ c KC) (fun L=>qlr KC L)))),(31,.d (.agg (qn X lo))),(32,.d (.agg (qn X ((lo+hi) / 2)))),(33,.own 33),(37,.d (.agg (qn X hi)))],[(6,.box 49 (qn X lo)),(7,.box 49 (qn X hi)),(10,.box 49 (qn X ((lo+hi) / 2))),(33,.row 51 10 l1.length (elA K c KC X l1))]⟩ ?_ (fun hD111111101000=>?_)
   ·refine anyS [7] (by kernel_rfl) rfl ?_;refine ⟨⟨_,rfl,?_⟩,trivial⟩
    ·exact mW rfl<|mT<|anyV hD111111111000 9 [] (by kernel_rfl) (wkr rfl rfl)
   refine anyCut 4 #[true,true,true,true,true,true,true,true,false,false,false,false] ⟨40,[(0,.d (.one (.row 4 (lg c) (qel K (rc c))))),(1,.d (.one (exL (ChQ c KC) (fun L=>qlr KC L)))),(6,.ptr 6 0),(7,.ptr 7 0),(10,.ptr 10 0),(29,.d (.one (.row 4 (lg c) (qel K (rc c))))),(30,.d (.one (exL (ChQ c KC) (fun L=>qlr KC L)))),(34,.d (.one (.row 4 (lg c) (qel K (rc c))))),(35,.d (.one (exL (ChQ c KC) (fun L=>qlr KC L)))),(31,.d (.agg (qn X lo))),(32,.d (.agg (qn X ((lo+hi) / 2)))),(33,.own 33),(36,.d (.agg (qn X ((lo+hi) / 2))))],[(6,.box 49 (qn X lo)),(7,.box 49 (qn X hi)),(10,.box 49 (qn X ((lo+hi) / 2))),(33,.row 51 10 l1.length (elA K c KC X l1))]⟩ ?_ (fun hD111111110000=>?_)
   ·refine anyS [8] (by kernel_rfl) rfl ?_;refine ⟨⟨_,rfl,?_⟩,trivial⟩
    ·exact mW rfl<|mT<|anyV hD111111111000 9 [] (by kernel_rfl) (wkr rfl rfl)
   refine anyCut 4 #[true,true,true,true,false,true,true,true,true,false,false,false] ⟨40,[(0,.d (.one (.row 4 (lg c) (qel K (rc c))))),(1,.d (.one (exL (ChQ c KC) (fun L=>qlr KC L)))),(6,.ptr 6 0),(7,.ptr 7 0),(10,.ptr 10 0),(29,.d (.one (.row 4 (lg c) (qel K (rc c))))),(30,.d (.one (exL (ChQ c KC) (fun L=>qlr KC L)))),(34,.d (.one (.row 4 (lg c) (qel K (rc c))))),(35,.d (.one (exL (ChQ c KC) (fun L=>qlr KC L)))),(31,.d (.agg (qn X lo))),(32,.d (.agg (qn X ((lo+hi) / 2)))),(36,.d (.agg (qn X ((lo+hi) / 2)))),(37,.d (.agg (qn X hi)))],[(6,.box 49 (qn X lo)),(7,.box 49 (qn X hi)),(10,.box 49 (qn X ((lo+hi) / 2)))]⟩ ?_ (fun hD111101111000=>?_)
   ·refine anyS [4] (by kernel_rfl) rfl ?_;refine ⟨⟨_,rfl,?_⟩,trivial⟩
    ·exact mCR cl1 rfl rfl rfl rfl rfl<|mT<|anyV hD111111111000 9 [] (by kernel_rfl) (wkr rfl rfl)
   refine anyCut 5 #[true,true,true,true,false,true,true,true,false,false,false,false] ⟨40,[(0,.d (.one (.row 4 (lg c) (qel K (rc c))))),(1,.d (.one (exL (ChQ c KC) (fun L=>qlr KC L)))),(6,.ptr 6 0),(7,.ptr 7 0),(10,.ptr 10 0),(29,.d (.one (.row 4 (lg c) (qel K (rc c))))),(30,.d (.one (exL (ChQ c KC) (fun L=>qlr KC L)))),(34,.d (.one (.row 4 (lg c) (qel K (rc c))))),(35,.d (.one (exL (ChQ c KC) (fun L=>qlr KC L)))),(31,.d (.agg (qn X lo))),(32,.d (.agg (qn X ((lo+hi) / 2)))),(36,.d (.agg (qn X ((lo+hi) / 2))))],[(6,.box 49 (qn X lo)),(7,.box 49 (qn X hi)),(10,.box 49 (qn X ((lo+hi) / 2)))]⟩ ?_ (fun hD111101110000=>?_)
   ·refine anyS [4,8] (by kernel_rfl) rfl ?_;refine ⟨⟨_,rfl,?_⟩,⟨_,rfl,?_⟩,trivial⟩
    ·exact mCR cl1 rfl rfl rfl rfl rfl<|mT<|anyV hD111111110000 8 [] (by kernel_rfl) (wkr rfl rfl)
    ·exact mW rfl<|mT<|anyV hD111101111000 4 [] (by kernel_rfl) (wkr rfl rfl)
   refine anyCut 5 #[true,true,true,false,false,true,true,true,true,false,false,false] ⟨40,[(0,.d (.one (.row 4 (lg c) (qel K (rc c))))),(1,.d (.one (exL (ChQ c KC) (fun L=>qlr KC L)))),(6,.ptr 6 0),(7,.ptr 7 0),(10,.ptr 10 0),(29,.d (.one (.row 4 (lg c) (qel K (rc c))))),(30,.d (.one (exL (ChQ c KC) (fun L=>qlr KC L)))),(34,.d (.one (.row 4 (lg c) (qel K (rc c))))),(35,.d (.one (exL (ChQ c KC) (fun L=>qlr KC L)))),(31,.d (.agg (qn X lo))),(36,.d (.agg (qn X ((lo+hi) / 2)))),(37,.d (.agg (qn X hi)))],[(6,.box 49 (qn X lo)),(7,.box 49 (qn X hi)),(10,.box 49 (qn X ((lo+hi) / 2)))]⟩ ?_ (fun hD111001111000=>?_)
   ·refine anyS [3] (by kernel_rfl) rfl ?_;refine ⟨⟨_,rfl,?_⟩,trivial⟩
    ·exact mW rfl<|mT<|anyV hD111101111000 4 [] (by kernel_rfl) (wkr rfl rfl)
   refine anyCut 5 #[true,true,true,true,true,true,true,false,false,false,false,false] ⟨40,[(0,.d (.one (.row 4 (lg c) (qel K (rc c))))),(1,.d (.one (exL (ChQ c KC) (fun L=>qlr KC L)))),(6,.ptr 6 0),(7,.ptr 7 0),(10,.ptr 10 0),(29,.d (.one (.row 4 (lg c) (qel K (rc c))))),(30,.d (.one (exL (ChQ c KC) (fun L=>qlr KC L)))),(34,.d (.one (.row 4 (lg c) (qel K (rc c))))),(35,.d (.one (exL (ChQ c KC) (fun L=>qlr KC L)))),(31,.d (.agg (qn X lo))),(32,.d (.agg (qn X ((lo+hi) / 2)))),(33,.own 33)],[(6,.box 49 (qn X lo)),(7,.box 49 (qn X hi)),(10,.box 49 (qn X ((lo+hi) / 2))),(33,.row 51 10 l1.length (elA K c KC X l1))]⟩ ?_ (fun hD111111100000=>?_)
   ·refine anyS [7,8] (by kernel_rfl) rfl ?_;refine ⟨⟨_,rfl,?_⟩,⟨_,rfl,?_⟩,trivial⟩
    ·exact mW rfl<|mT<|anyV hD111111110000 8 [] (by kernel_rfl) (wkr rfl rfl)
    ·exact mW rfl<|mT<|anyV hD111111101000 7 [] (by kernel_rfl) (wkr rfl rfl)
   refine anyCut 5 #[true,true,true,true,false,true,true,false,true,false,false,false] ⟨40,[(0,.d (.one (.row 4 (lg c) (qel K (rc c))))),(1,.d (.one (exL (ChQ c KC) (fun L=>qlr KC L)))),(6,.ptr 6 0),(7,.ptr 7 0),(10,.ptr 10 0),(29,.d (.one (.row 4 (lg c) (qel K (rc c))))),(30,.d (.one (exL (ChQ c KC) (fun L=>qlr KC L)))),(34,.d (.one (.row 4 (lg c) (qel K (rc c))))),(35,.d (.one (exL (ChQ c KC) (fun L=>qlr KC L)))),(31,.d (.agg (qn X lo))),(32,.d (.agg (qn X ((lo+hi) / 2)))),(37,.d (.agg (qn X hi)))],[(6,.box 49 (qn X lo)),(7,.box 49 (qn X hi)),(10,.box 49 (qn X ((lo+hi) / 2)))]⟩ ?_ (fun hD111101101000=>?_)
   ·refine anyS [4,7] (by kernel_rfl) rfl ?_;refine ⟨⟨_,rfl,?_⟩,⟨_,rfl,?_⟩,trivial⟩
    ·exact mCR cl1 rfl rfl rfl rfl rfl<|mT<|anyV hD111111101000 7 [] (by kernel_rfl) (wkr rfl rfl)
    ·exact mW rfl<|mT<|anyV hD111101111000 4 [] (by kernel_rfl) (wkr rfl rfl)
   refine anyCut 5 #[true,true,false,true,false,true,true,true,true,false,false,false] ⟨40,[(0,.d (.one (.row 4 (lg c) (qel K (rc c))))),(1,.d (.one (exL (ChQ c KC) (fun L=>qlr KC L)))),(6,.ptr 6 0),(7,.ptr 7 0),(10,.ptr 10 0),(29,.d (.one (.row 4 (lg c) (qel K (rc c))))),(30,.d (.one (exL (ChQ c KC) (fun L=>qlr KC L)))),(34,.d (.one (.row 4 (lg c) (qel K (rc c))))),(35,.d (.one (exL (ChQ c KC) (fun L=>qlr KC L)))),(32,.d (.agg (qn X ((lo+hi) / 2)))),(36,.d (.agg (qn X ((lo+hi) / 2)))),(37,.d (.agg (qn X hi)))],[(6,.box 49 (qn X lo)),(7,.box 49 (qn X hi)),(10,.box 49 (qn X ((lo+hi) / 2)))]⟩ ?_ (fun hD110101111000=>?_)
   ·refine anyS [2] (by kernel_rfl) rfl ?_;refine ⟨⟨_,rfl,?_⟩,trivial⟩
    ·exact mW rfl<|mT<|anyV hD111101111000 4 [] (by kernel_rfl) (wkr rfl rfl)
   refine anyCut 6 #[true,true,false,true,false,true,true,true,false,false,false,false] ⟨40,[(0,.d (.one (.row 4 (lg c) (qel K (rc c))))),(1,.d (.one (exL (ChQ c KC) (fun L=>qlr KC L)))),(6,.ptr 6 0),(7,.ptr 7 0),(10,.ptr 10 0),(29,.d (.one (.row 4 (lg c) (qel K (rc c))))),(30,.d (.one (exL (ChQ c KC) (fun L=>qlr KC L)))),(34,.d (.one (.row 4 (lg c) (qel K (rc c))))),(35,.d (.one (exL (ChQ c KC) (fun L=>qlr KC L)))),(32,.d (.agg (qn X ((lo+hi) / 2)))),(36,.d (.agg (qn X ((lo+hi) / 2))))],[(6,.box 49 (qn X lo)),(7,.box 49 (qn X hi)),(10,.box 49 (qn X ((lo+hi) / 2)))]⟩ ?_ (fun hD110101110000=>?_)
   ·refine anyS [2,8] (by kernel_rfl) rfl ?_;refine ⟨⟨_,rfl,?_⟩,⟨_,rfl,?_⟩,trivial⟩
    ·exact mW rfl<|mT<|anyV hD111101110000 4 [8] (by kernel_rfl) (wkr rfl rfl)
    ·exact mW rfl<|mT<|anyV hD110101111000 2 [] (by kernel_rfl) (wkr rfl rfl)
   refine anyCut 6 #[true,true,true,false,false,true,true,false,true,false,false,false] ⟨40,[(0,.d (.one (.row 4 (lg c) (qel K (rc c))))),(1,.d (.one (exL (ChQ c KC) (fun L=>qlr KC L)))),(6,.ptr 6 0),(7,.ptr 7 0),(10,.ptr 10 0),(29,.d (.one (.row 4 (lg c) (qel K (rc c))))),(30,.d (.one (exL (ChQ c KC) (fun L=>qlr KC L)))),(34,.d (.one (.row 4 (lg c) (qel K (rc c))))),(35,.d (.one (exL (ChQ c KC) (fun L=>qlr KC L)))),(31,.d (.agg (qn X lo))),(37,.d (.agg (qn X hi)))],[(6,.box 49 (qn X lo)),(7,.box 49 (qn X hi)),(10,.box 49 (qn X ((lo+hi) / 2)))]⟩ ?_ (fun hD111001101000=>?_)
   ·refine anyS [3,7] (by kernel_rfl) rfl ?_;refine ⟨⟨_,rfl,?_⟩,⟨_,rfl,?_⟩,trivial⟩
    ·exact mW rfl<|mT<|anyV hD111101101000 4 [7] (by kernel_rfl) (wkr rfl rfl)
    ·exact mW rfl<|mT<|anyV hD111001111000 3 [] (by kernel_rfl) (wkr rfl rfl)
   refine anyCut 6 #[true,true,true,false,false,true,true,true,false,false,false,false] ⟨40,[(0,.d (.one (.row 4 (lg c) (qel K (rc c))))),(1,.d (.one (exL (ChQ c KC) (fun L=>qlr KC L)))),(6,.ptr 6 0),(7,.ptr 7 0),(10,.ptr 10 0),(29,.d (.one (.row 4 (lg c) (qel K (rc c))))),(30,.d (.one (exL (ChQ c KC) (fun L=>qlr KC L)))),(34,.d (.one (.row 4 (lg c) (qel K (rc c))))),(35,.d (.one (exL (ChQ c KC) (fun L=>qlr KC L)))),(31,.d (.agg (qn X lo))),(36,.d (.agg (qn X ((lo+hi) / 2))))],[(6,.box 49 (qn X lo)),(7,.box 49 (qn X hi)),(10,.box 49 (qn X ((lo+hi) / 2)))]⟩ ?_ (fun hD111001110000=>?_)
   ·refine anyS [3,8] (by kernel_rfl) rfl ?_;refine ⟨⟨_,rfl,?_⟩,⟨_,rfl,?_⟩,trivial⟩
    ·exact mW rfl<|mT<|anyV hD111101110000 4 [8] (by kernel_rfl) (wkr rfl rfl)
    ·exact mW rfl<|mT<|anyV hD111001111000 3 [] (by kernel_rfl) (wkr rfl rfl)
   refine anyCut 6 #[true,true,true,true,false,true,true,false,false,false,false,false] ⟨40,[(0,.d (.one (.row 4 (lg c) (qel K (rc c))))),(1,.d (.one (exL (ChQ c KC) (fun L=>qlr KC L)))),(6,.ptr 6 0),(7,.ptr 7 0),(10,.ptr 10 0),(29,.d (.one (.row 4 (lg c) (qel K (rc c))))),(30,.d (.one (exL (ChQ c KC) (fun L=>qlr KC L)))),(34,.d (.one (.row 4 (lg c) (qel K (rc c))))),(35,.d (.one (exL (ChQ c KC) (fun L=>qlr KC L)))),(31,.d (.agg (qn X lo))),(32,.d (.agg (qn X ((lo+hi) / 2))))],[(6,.box 49 (qn X lo)),(7,.box 49 (qn X hi)),(10,.box 49 (qn X ((lo+hi) / 2)))]⟩ ?_ (fun hD111101100000=>?_)
   ·refine anyS [4,7,8] (by kernel_rfl) rfl ?_;refine ⟨⟨_,rfl,?_⟩,⟨_,rfl,?_⟩,⟨_,rfl,?_⟩,trivial⟩
    ·exact mCR cl1 rfl rfl rfl rfl rfl<|mT<|anyV hD111111100000 7 [8] (by kernel_rfl) (wkr rfl rfl)
    ·exact mW rfl<|mT<|anyV hD111101110000 4 [8] (by kernel_rfl) (wkr rfl rfl)
    ·exact mW rfl<|mT<|anyV hD111101101000 4 [7] (by kernel_rfl) (wkr rfl rfl)
   refine anyCut 6 #[true,true,false,false,false,true,true,true,true,false,false,false] ⟨40,[(0,.d (.one (.row 4 (lg c) (qel K (rc c))))),(1,.d (.one (exL (ChQ c KC) (fun L=>qlr KC L)))),(6,.ptr 6 0),(7,.ptr 7 0),(10,.ptr 10 0),(29,.d (.one (.row 4 (lg c) (qel K (rc c))))),(30,.d (.one (exL (ChQ c KC) (fun L=>qlr KC L)))),(34,.d (.one (.row 4 (lg c) (qel K (rc c))))),(35,.d (.one (exL (ChQ c KC) (fun L=>qlr KC L)))),(36,.d (.agg (qn X ((lo+hi) / 2)))),(37,.d (.agg (qn X hi)))],[(6,.box 49 (qn X lo)),(7,.box 49 (qn X hi)),(10,.box 49 (qn X ((lo+hi) / 2)))]⟩ ?_ (fun hD110001111000=>?_)
   ·refine anyS [2,3] (by kernel_rfl) rfl ?_;refine ⟨⟨_,rfl,?_⟩,⟨_,rfl,?_⟩,trivial⟩
    ·exact mW rfl<|mT<|anyV hD111001111000 3 [] (by kernel_rfl) (wkr rfl rfl)
    ·exact mW rfl<|mT<|anyV hD110101111000 2 [] (by kernel_rfl) (wkr rfl rfl)
   refine anyCut 6 #[true,true,false,true,false,true,true,false,true,false,false,false] ⟨40,[(0,.d (.one (.row 4 (lg c) (qel K (rc c))))),(1,.d (.one (exL (ChQ c KC) (fun L=>qlr KC L)))),(6,.ptr 6 0),(7,.ptr 7 0),(10,.ptr 10 0),(29,.d (.one (.row 4 (lg c) (qel K (rc c))))),(30,.d (.one (exL (ChQ c KC) (fun L=>qlr KC L)))),(34,.d (.one (.row 4 (lg c) (qel K (rc c))))),(35,.d (.one (exL (ChQ c KC) (fun L=>qlr KC L)))),(32,.d (.agg (qn X ((lo+hi) / 2)))),(37,.d (.agg (qn X hi)))],[(6,.box 49 (qn X lo)),(7,.box 49 (qn X hi)),(10,.box 49 (qn X ((lo+hi) / 2)))]⟩ ?_ (fun hD110101101000=>?_)
   ·refine anyS [2,7] (by kernel_rfl) rfl ?_;refine ⟨⟨_,rfl,?_⟩,⟨_,rfl,?_⟩,trivial⟩
    ·exact mW rfl<|mT<|anyV hD111101101000 4 [7] (by kernel_rfl) (wkr rfl rfl)
    ·exact mW rfl<|mT<|anyV hD110101111000 2 [] (by kernel_rfl) (wkr rfl rfl)
   refine anyCut 7 #[true,true,true,false,false,true,true,false,false,false,false,false] ⟨40,[(0,.d (.one (.row 4 (lg c) (qel K (rc c))))),(1,.d (.one (exL (ChQ c KC) (fun L=>qlr KC L)))),(6,.ptr 6 0),(7,.ptr 7 0),(10,.ptr 10 0),(29,.d (.one (.row 4 (lg c) (qel K (rc c))))),(30,.d (.one (exL (ChQ c KC) (fun L=>qlr KC L)))),(34,.d (.one (.row 4 (lg c) (qel K (rc c))))),(35,.d (.one (exL (ChQ c KC) (fun L=>qlr KC L)))),(31,.d (.agg (qn X lo)))],[(6,.box 49 (qn X lo)),(7,.box 49 (qn X hi)),(10,.box 49 (qn X ((lo+hi) / 2)))]⟩ ?_ (fun hD111001100000=>?_)
   ·refine anyS [3,7,8] (by kernel_rfl) rfl ?_;refine ⟨⟨_,rfl,?_⟩,⟨_,rfl,?_⟩,⟨_,rfl,?_⟩,trivial⟩
    ·exact mW rfl<|mT<|anyV hD111101100000 4 [7,8] (by kernel_rfl) (wkr rfl rfl)
    ·exact mW rfl<|mT<|anyV hD111001110000 3 [8] (by kernel_rfl) (wkr rfl rfl)
    ·exact mW rfl<|mT<|anyV hD111001101000 3 [7] (by kernel_rfl) (wkr rfl rfl)
   refine anyCut 7 #[true,true,false,true,false,true,true,false,false,false,false,false] ⟨40,[(0,.d (.one (.row 4 (lg c) (qel K (rc c))))),(1,.d (.one (exL (ChQ c KC) (fun L=>qlr KC L)))),(6,.ptr 6 0),(7,.ptr 7 0),(10,.ptr 10 0),(29,.d (.one (.row 4 (lg c) (qel K (rc c))))),(30,.d (.one (exL (ChQ c KC) (fun L=>qlr KC L)))),(34,.d (.one (.row 4 (lg c) (qel K (rc c))))),(35,.d (.one (exL (ChQ c KC) (fun L=>qlr KC L)))),(32,.d (.agg (qn X ((lo+hi) / 2))))],[(6,.box 49 (qn X lo)),(7,.box 49 (qn X hi)),(10,.box 49 (qn X ((lo+hi) / 2)))]⟩ ?_ (fun hD110101100000=>?_)
   ·refine anyS [2,7,8] (by kernel_rfl) rfl ?_;refine ⟨⟨_,rfl,?_⟩,⟨_,rfl,?_⟩,⟨_,rfl,?_⟩,trivial⟩
    ·exact mW rfl<|mT<|anyV hD111101100000 4 [7,8] (by kernel_rfl) (wkr rfl rfl)
    ·exact mW rfl<|mT<|anyV hD110101110000 2 [8] (by kernel_rfl) (wkr rfl rfl)
    ·exact mW rfl<|mT<|anyV hD110101101000 2 [7] (by kernel_rfl) (wkr rfl rfl)
   refine anyCut 7 #[true,true,false,false,false,true,true,false,true,false,false,false] ⟨40,[(0,.d (.one (.row 4 (lg c) (qel K (rc c))))),(1,.d (.one (exL (ChQ c KC) (fun L=>qlr KC L)))),(6,.ptr 6 0),(7,.ptr 7 0),(10,.ptr 10 0),(29,.d (.one (.row 4 (lg c) (qel K (rc c))))),(30,.d (.one (exL (ChQ c KC) (fun L=>qlr KC L)))),(34,.d (.one (.row 4 (lg c) (qel K (rc c))))),(35,.d (.one (exL (ChQ c KC) (fun L=>qlr KC L)))),(37,.d (.agg (qn X hi)))],[(6,.box 49 (qn X lo)),(7,.box 49 (qn X hi)),(10,.box 49 (qn X ((lo+hi) / 2)))]⟩ ?_ (fun hD110001101000=>?_)
   ·refine anyS [2,3,7] (by kernel_rfl) rfl ?_;refine ⟨⟨_,rfl,?_⟩,⟨_,rfl,?_⟩,⟨_,rfl,?_⟩,trivial⟩
    ·exact mW rfl<|mT<|anyV hD111001101000 3 [7] (by kernel_rfl) (wkr rfl rfl)
    ·exact mW rfl<|mT<|anyV hD110101101000 2 [7] (by kernel_rfl) (wkr rfl rfl)
    ·exact mW rfl<|mT<|anyV hD110001111000 2 [3] (by kernel_rfl) (wkr rfl rfl)
   refine anyCut 7 #[true,true,false,false,false,true,true,true,false,false,false,false] ⟨40,[(0,.d (.one (.row 4 (lg c) (qel K (rc c))))),(1,.d (.one (exL (ChQ c KC) (fun L=>qlr KC L)))),(6,.ptr 6 0),(7,.ptr 7 0),(10,.ptr 10 0),(29,.d (.one (.row 4 (lg c) (qel K (rc c))))),(30,.d (.one (exL (ChQ c KC) (fun L=>qlr KC L)))),(34,.d (.one (.row 4 (lg c) (qel K (rc c))))),(35,.d (.one (exL (ChQ c KC) (fun L=>qlr KC L)))),(36,.d (.agg (qn X ((lo+hi) / 2))))],[(6,.box 49 (qn X lo)),(7,.box 49 (qn X hi)),(10,.box 49 (qn X ((lo+hi) / 2)))]⟩ ?_ (fun hD110001110000=>?_)
   ·refine anyS [2,3,8] (by kernel_rfl) rfl ?_;refine ⟨⟨_,rfl,?_⟩,⟨_,rfl,?_⟩,⟨_,rfl,?_⟩,trivial⟩
    ·exact mW rfl<|mT<|anyV hD111001110000 3 [8] (by kernel_rfl) (wkr rfl rfl)
    ·exact mW rfl<|mT<|anyV hD110101110000 2 [8] (by kernel_rfl) (wkr rfl rfl)
    ·exact mW rfl<|mT<|anyV hD110001111000 2 [3] (by kernel_rfl) (wkr rfl rfl)
   refine anyS [2,3,7,8] (by kernel_rfl) rfl ?_;refine ⟨⟨_,rfl,?_⟩,⟨_,rfl,?_⟩,⟨_,rfl,?_⟩,⟨_,rfl,?_⟩,trivial⟩
   ·exact mW rfl<|mT<|anyV hD111001100000 3 [7,8] (by kernel_rfl) (wkr rfl rfl)
   ·exact mW rfl<|mT<|anyV hD110101100000 2 [7,8] (by kernel_rfl) (wkr rfl rfl)
   ·exact mW rfl<|mT<|anyV hD110001110000 2 [3,8] (by kernel_rfl) (wkr rfl rfl)
   ·exact mW rfl<|mT<|anyV hD110001101000 2 [3,7] (by kernel_rfl) (wkr rfl rfl)
theorem cnt_bd{c:Nat→Int}{KC:Nat}{L:List (Nat→Int)}(h:ChQ c KC L)(a b:Rat)(hab:a≤b):cntC c a b≤1000000:=by
 obtain ⟨h1,_,_⟩:=h.cnt hab;obtain ⟨_,hl⟩:=h.len;have h2:vr (sgL L a)≤L.length:=by have:=vrA_le (sgL L a) 0;unfold sgL at this;rw [List.length_map] at this;exact this
 omega
theorem aQSplit{K KC X L JM h1:Nat}{c:Nat→Int}(hC:Cnt c)(b1:∀ i,(c i).natAbs≤2^h1)(hcb:∀ a b,a≤b→cntC c a b≤1000000)(hX:3*(3*L+JM / 32+1)≤X)(hX1:X≤90000)(hK:K≤100000)(hKC:KC≤100000):∀ (d J:Nat) (lo hi:Rat),SpI c h1 L J d lo hi→J+d≤JM→ACallR Tryz.prog 62 [.one (qrow K (lg c) (rc c)),.one (exL (ChQ c KC) (fun L=>qlr KC L)),.agg (qn X lo),.agg (qn X hi)] 51 10 (spF c (d+1) lo hi).length (elA K c KC X (spF c (d+1) lo hi)):=by
 intro d
 induction d with
 | zero=>exact fun J lo hi hI hJ=>aQSplitI hC b1 hcb hI hJ hX hX1 hK hKC (fun d' e=>by omega)
 | succ d ih=>exact fun J lo hi hI hJ=>aQSplitI hC b1 hcb hI hJ hX hX1 hK hKC (fun d' e lo hi J k1 k2=>by obtain rfl:d'=d:=by {omega};exact ih J lo hi k1 k2)
/-- What is the callee's own row is a row. -/
theorem ACallR.call{P:Program}{f:FuncId}{args:List DV}{e:TypeId}{sz n:Nat}{el:Nat→Nat→Lf}(h:ACallR P f args e sz n el):ACall P f args (.d (.one (.row sz n el))):=⟨h.en,fun B w vs hB hd=>(h.go B w vs hB hd).mono (by
 rintro r w' ⟨v,rfl,hb,xs,⟨⟨hxl,hown⟩,hbk⟩,hel⟩;refine ⟨v,rfl,hb,?_⟩
 rcases hown with ⟨rfl,h0⟩ | ⟨g,cap,cur,rfl,hge,hblk,hn,hm,hsz',htk⟩
 ·subst h0
  exact ⟨none,0,rfl,Nat.le_refl _,fun _=>rfl,fun i hi=>absurd hi (Nat.not_lt_zero _)⟩
 ·refine ⟨some ⟨g,0,none⟩,cap,rfl,hn,fun h=>(by cases h),fun i hi=>⟨g,0,rfl,fun hb2=>?_,lt_of_block hblk,fun j hj=>?_⟩⟩
  ·have:=hB g hb2
   have h9:w.heap.size≤g:=(hbk g rfl).resolve_right id;omega
  ·obtain ⟨x,hx1,hx2⟩:=hel i j hi hj
   refine ⟨x,?_,LfR.mv ⟨Nat.le_refl _,fun _ _ _=>rfl⟩ (fun b _ hb=>Or.inl hb) _ hx2⟩;rw [Nat.zero_add,cell_of_row w' g _ cur _ (0,0) hblk,← Array.getElem?_toList];rw [← htk,List.getElem?_take] at hx1;split at hx1
   ·exact hx1
   ·cases hx1)⟩
theorem f_exL{α:Type}{Qx:α→Prop}{L:α→Lf}{s:AS}(t:Nat)(h:lk s.sl t=some (.d (.one (exL Qx L)))):∀ B0 w0 a w,Den s B0 w0 a w→∃ x,Qx x:=by
 rintro B0 w0 a w ⟨ρ,_,_,_,hs⟩;obtain ⟨v,_,x,hq,_⟩:=hs t _ h;exact ⟨x,hq⟩
theorem lnP_pmL(t:Rat):Pm (lg (lnP t)) (lnP t):=by
 refine ⟨(lnP_z t).ip,by rw [lnP_lg];decide,by rw [lnP_lg];exact lnP_pm t,?_⟩;rw [lnP_lg];show 0 < (t.den:Int)
 have:=t.den_pos;omega
theorem lnP_sqP(t:Rat):∃ M,SqP (lnP t) M (lnP t):=by
 obtain ⟨M,_,hM⟩:=ex_lb (lnP_z t);exact ⟨M,sq_self (lnP_z t) hM (lnP_pmL t) (lnP_sq t)⟩
theorem lnP_sqE(t:Rat):sqP (lnP t)=lnP t:=let ⟨_,h⟩:=lnP_sqP t;h.eq.symm
theorem natAbs_one{z:Int}{n:Nat}(h:z.natAbs∣n)(h1:n=1):z.natAbs=1:=by subst h1;exact Nat.dvd_one.1 h
/-- A divisor of a linear polynomial. -/
theorem dvb_lin{c:Nat→Int}{K:Nat}(z:z20 c)(hl:lg c=2)(hb:Db K c)(hK:1≤K):DvB c K:=by
 intro g zg hg hd;have h0:lg c≠0:=by omega
 obtain ⟨hg0,hgl⟩:=lg_dv z zg h0 hd;obtain ⟨W,pW,hW⟩:=hd;obtain ⟨w,k,hw,hc,_⟩:=exact_row z.lg zg.lg hg pW (fun x=>by rw [FF_lg z,FF_lg zg];exact hW x);have zw:=quo20 zg z hg0 hw hc;obtain ⟨hlq,_⟩:=quo_lg zw zg z hc hg0;have one:(1:Nat) < B4^K:=Nat.lt_of_lt_of_le (by decide) (Nat.pow_le_pow_right (show 0 < B4 by decide) hK)
 by_cases h1:lg g=1
 ·intro i
  by_cases hi:i=0
  ·subst hi
   have hd2:(g 0).natAbs∣gcdN g (lg g):=gcdN_all fun i hi=>by
    obtain rfl:i=0:=by omega
    exact Nat.dvd_refl _
   rw [natAbs_one hd2 hg];exact one
  ·rw [zg.lg i (by omega)];omega
 ·have hw1:lg w=1:=by omega
  have hw0:=lg_ne (c:=w) (by omega);rw [hw1] at hw0;have hFw:∀ x,FF w x=(w 0:Rat):=fun x=>by rw [← FF_lg zw,hw1];exact pf_const
  have hF:∀ i,c i=w 0*g i:=by
   have e:∀ x,FF c x=FF (fscl g (w 0)) x:=fun x=>by
    rw [FF_scl,← hFw x,← show conv w g=c from funext hc,FF_conv zw.lg zg.lg (by have:=lg_le g;omega) zw zg];exact Rat.mul_comm _ _
   intro i;have:=FF_inj z (z20_scl zg) e i;rw [this];unfold fscl;exact Int.mul_comm _ _
  intro i;refine Nat.lt_of_le_of_lt ?_ (hb i);rw [hF i,Int.natAbs_mul];exact Nat.le_mul_of_pos_left _ (by have:w 0≠0:=hw0;omega)
theorem lnP_db{X:Nat}{t:Rat}(h:Qb X t):Db X (lnP t):=fun i=>by
 match i with
 | 0=>show (-t.num).natAbs < _;rw [Int.natAbs_neg];exact h.1
 | 1=>show (t.den:Int).natAbs < _;exact h.2
 | i+2=>rw [lnP_z2 t (i+2) (by omega)];exact Nat.pow_pos (by decide)
theorem SqP.l2{c f:Nat→Int}{M:Nat}(h:SqP c M f)(zc:z20 c)(h2:2≤lg c):2≤lg f:=by
 apply Classical.byContradiction;intro hn;have h1:lg f=1:=by have:=h.ne;omega
 obtain ⟨κ,hκ,hk⟩:=lg_one_const h.z h1;obtain ⟨N,w,pw,e⟩:=h.pw;have hp:κ^N≠0:=by
  intro k;have:∀ n:Nat,κ^n≠0:=fun n=>by
   induction n with
   | zero=>rw [Rat.pow_zero];decide
   | succ n ih=>rw [Rat.pow_succ];intro k;rcases Rat.mul_eq_zero.1 k with k | k;exact ih k;exact hκ k
  exact this N k
 have hd:Dv (FF c) (FF (onez 1)):=⟨fun x=>w x*(κ^N)⁻¹,pw.scl _,fun x=>by
  have h9:=e x;rw [hk] at h9;rw [onez_F];have:=Rat.inv_mul_cancel _ hp;grind⟩
 have:=(lg_dv onez20 zc (by rw [onez_lg];decide) hd).2;rw [onez_lg] at this;omega
theorem cnt_sq{c:Nat→Int}{M:Nat}(h:SqP c M (sqP c))(zc:z20 c)(h2:2≤lg c):Cnt (sqP c):=cnt_of h.z (h.l2 zc h2) h.sq
theorem lnq_row{K X:Nat}{t:Rat}(h:Qb X t)(hX:1≤X):AV.le (.d (.one (.row 4 2 (fun i' j'=>((qn K (-(mkR t.num 1)) ++qn K (mkR (t.den:Int) 1))[i'*4+j']?).getD (.v undef))))) (.d (.one (qrow X (lg (lnP t)) (rc (lnP t))))):=by
 refine AV.le.trans (b:= .d (.one (qrow K 2 (rc (lnP t))))) (le_one (row_le fun i hi j hj=>?_)) (by
  have h9:=le_qrow_t (K:=K) (n:=2) hX (lnP_db h);rw [lnP_lg];exact h9)
 have e0: -(mkR t.num 1)=rc (lnP t) 0:=by rw [mkR_int];show -((t.num:Int):Rat)=((-t.num:Int):Rat);rw [Rat.intCast_neg]
 have e1:mkR (t.den:Int) 1=rc (lnP t) 1:=by rw [mkR_int];rfl
 rw [e0,e1]
 match i,hi with
 | 0,_=>match j,hj with
  | 0,_=>exact fun _ _ _ h=>h
  | 1,_=>exact fun _ _ _ h=>h
  | 2,_=>exact fun _ _ _ h=>h
  | 3,_=>exact fun _ _ _ h=>h
 | 1,_=>match j,hj with
  | 0,_=>exact fun _ _ _ h=>h
  | 1,_=>exact fun _ _ _ h=>h
  | 2,_=>exact fun _ _ _ h=>h
  | 3,_=>exact fun _ _ _ h=>h
theorem aQChainQ{K M KC N Ms:Nat}{c:Nat→Int}(zc:z20 c)(h2:2≤lg c)(hN:N≤10)(hcN:lg c≤N)(hM64:1≤M)(hM1:1≤M)(hB:DvB c M)(hK1:1≤K)(hK:K≤100000)(hKC:(M+2)*(2*3^N)≤KC)(hC:KC≤90000)(hS:SqP c Ms (sqP c)):ACall Tryz.prog 39 [.one (qrow K (lg c) (rc c))] (.d (.one (exL (ChQ (sqP c) KC) (fun L=>qlr KC L)))):=
 ACall.le (dl DV.same dl0) (le_one (exL_mono fun L h=>⟨L,h.q,fun _ _ _ h=>h⟩)) (aQChain zc h2 hN hcN hM64 hM1 hB hK1 hK hKC hC hS)
theorem aQChainS{K M KC N Ms:Nat}{c:Nat→Int}(zc:z20 c)(h2:2≤lg c)(hN:N≤10)(hcN:lg c≤N)(hM64:1≤M)(hM1:1≤M)(hB:DvB c M)(hK1:1≤K)(hK:K≤100000)(hKC:(M+2)*(2*3^N)≤KC)(hC:KC≤90000)(hS:SqP c Ms c):ACall Tryz.prog 39 [.one (qrow K (lg c) (rc c))] (.d (.one (exL (ChQ c KC) (fun L=>qlr KC L)))):=by
 have e:=hS.eq.symm;have h:=aQChainQ zc h2 hN hcN hM64 hM1 hB hK1 hK hKC hC hS.self;rwa [e] at h
theorem aQRoots{K M KC N X h1 Ms:Nat}{c:Nat→Int}(zc:z20 c)(h2:2≤lg c)(hN:N≤10)(hcN:lg c≤N)(hM64:1≤M)(hM1:1≤M)(hB:DvB c M)(hK1:1≤K)(hK:K≤100000)(hKC:(M+2)*(2*3^N)≤KC)(hC:KC≤90000)(hS:SqP c Ms (sqP c))(b1:∀ i,(sqP c i).natAbs≤2^h1)(hX:3*(3*(M+100)+rtD (sqP c) h1 / 32+1)≤X:=by omega)(hX1:X≤90000:=by decide):ACall Tryz.prog 33 [.one (qrow K (lg c) (rc c))] (.d (.one (exL (fun l=>l=rtF (sqP c) h1∧l.length≤1000000) (fun l=> .row 10 l.length (elA M (sqP c) KC X l))))):=by
 have hlc:=lg_le c;have hMK:M+2≤KC:=Nat.le_trans (Nat.le_mul_of_pos_right _ (Nat.mul_pos (by decide) (Nat.pow_pos (by decide)))) hKC;have l2:=hS.l2 zc h2;have hCn:=cnt_sq hS zc h2;refine aN 18 [.tmp 2] Tryz.func33 rfl<|cR<|mW rfl<|mT<|cR<|mW rfl<|mY (aQSquare (M:=M) (KC:=KC) (N:=N) zc h2 hN hcN hM64 hM1 hB hK1 hK hKC hC) rfl<|mW rfl<|mT<|cR<|mW rfl<|mY (aQChainQ (M:=M) (KC:=KC) (N:=N) zc h2 hN hcN hM64 hM1 hB hK1 hK hKC hC hS) rfl<|mW rfl<|mT<|cR<|mW rfl<|mY (aQBound (Y:=(2*M+200)) hS.z l2 hM64 (by omega) (Nat.le_refl _)) rfl<|mO rfl<|mZ rfl<|mT<|cSeq<|AW.fact (f_qn 11 rfl) (fun hqb=>?_);have hT:Tb (M+100) (bdQ (sqP c)):=Qb.tb (K:=M+100) (qb_mono hqb (by omega)) (Nat.le_refl _);refine AW.fact (f_exL 4 rfl) (fun hex=>?_);obtain ⟨Lc,hLc⟩:=hex;have hcb:=cnt_bd hLc;exact wB [5,11,10,4,9,8,3,7,6,2,0] [] 5 (.box 49 (qn X (bdQ (sqP c)))) rfl rfl (leo_qn (by omega) rfl) rfl<|cDk 7<|.cons (OpS.V _ rfl)<|.cons (OpS.V _ rfl)<|oV rfl<|oC (aRNegR (isq X (bdQ (sqP c)))) rfl<|oV rfl<|oC ((aQSplit (K:=M) (KC:=KC) (X:=X) (L:=M+100) (JM:=rtD (sqP c) h1) (h1:=h1) (c:=sqP c) hCn b1 hcb hX hX1 (by omega) (by omega) (rtD (sqP c) h1) 0 (-(bdQ (sqP c))) (bdQ (sqP c)) (rt_start hCn b1 hT) (by omega)).call) rfl<|.cons (OpS.V _ rfl)<|.nil<|mT<|cRet<|rQ rfl (exL_intro (Q:=fun l=>l=rtF (sqP c) h1∧l.length≤1000000) (L:=fun l=> .row 10 l.length (elA M (sqP c) KC X l)) (rtF (sqP c) h1) ⟨rfl,by rw [(rt_ok hCn b1 hT).len];exact hcb _ _ (rt_start hCn b1 hT).le⟩)
theorem aQRational{X KC:Nat}{t:Rat}(hX64:64≤X:=by decide)(hKC:18*(X+2)≤KC:=by decide)(hC:KC≤90000:=by decide):ACall Tryz.prog 18 [.agg (qn X t)] (.d (.agg ([.row 4 (lg (lnP t)) (qel X (rc (lnP t)))] ++ [exL (ChQ (lnP t) KC) (fun L=>qlr KC L)] ++qn X t ++qn X t))):=by
 refine ACall.fact10 (enters Tryz.func18 rfl rfl) (p:=Qb X t) (fun B w vs h=>match vs,h with | [_],⟨⟨cs,_,hl⟩,_⟩=>qn_bdT hl) (fun hb=>?_);obtain ⟨Ms,hS⟩:=lnP_sqP t;exact aN 20 [.cell 2 51] Tryz.func18 rfl<|cR<|mO rfl<|mO rfl<|mT<|cSeq<|cDk 11<|oV rfl<|oV rfl<|oC aROf rfl<|oC (aRMake (isr X (Rat.num t)) (isr 64 1) (M:=(max X (max 64 64)))) rfl<|oC (aRNegR (isq (max X (max 64 64)) (mkR (Rat.num t) 1))) rfl<|oV rfl<|oV rfl<|oC aROf rfl<|oC (aRMake (isr X (Rat.den t:Int)) (isr 64 1) (M:=(max X (max 64 64)))) rfl<|.cons (OpS.B _ rfl)<|.cons (OpS.V _ rfl)<|.nil<|mT<|cSeq<|cView 3 (.d (.one (.row 4 (lg (lnP t)) (qel X (rc (lnP t)))))) rfl (lnq_row hb (by omega))<|cDk 6<|.cons (OpS.V _ rfl)<|.cons (OpS.V _ rfl)<|oC (aQChainS (M:=X) (KC:=KC) (N:=2) (lnP_z t) (by rw [lnP_lg];exact Nat.le_refl 2) (by decide) (by rw [lnP_lg];exact Nat.le_refl 2) (by omega) (by omega) (dvb_lin (lnP_z t) (lnP_lg t) (lnP_db hb) (by omega)) (by omega) (by omega) (by omega) (by omega) hS) rfl<|oV rfl<|oV rfl<|oV rfl<|.nil<|mZ rfl<|mT<|cRet<|rQ rfl (AV.le.rfl)
theorem aRToR{a:List Lf}{K:Nat}{q:Rat}(hq:IsQ a K q)(hK:K≤10000000:=by first|decide|omega):ACall Tryz.prog 31 [.agg a] (.d (.agg (tn K q))):=by
 exact ACall.le (dl (DV.g hq) dl0) AV.le.rfl<|aN 10 [.cell 2 38] Tryz.func31 rfl<|cR<|mO rfl<|mO rfl<|mT<|cSeq<|cDk 7<|oV rfl<|oV rfl<|oC (aRTo (isr K (Rat.num q))) rfl<|oV rfl<|oV rfl<|oC (aRTo (isr K (Rat.den q:Int))) rfl<|oV rfl<|.nil<|mZ rfl<|mT<|cRet<|rQ rfl (le_tn2 (Nat.le_refl _) (Nat.le_refl _) rfl rfl)
theorem numF_rc(c:Nat→Int):numF (rc c)=c:=funext fun i=>Rat.num_intCast (c i)
theorem aQToN{K:Nat}{c:Nat→Int}(zc:z20 c)(hK:K≤1000000):ACall Tryz.prog 30 [.one (qrow K (lg c) (rc c))] (.d (.one (prow K (lg c) c))):=by
 have hlc:=lg_le c;have h:=aQTo (isqp (K:=K) (n:=lg c) (c:=rc c) (rc_z zc.lg)) (by omega) (by omega);rwa [numF_rc] at h
theorem aQToA{K KC X:Nat}{c:Nat→Int}{lo hi:Rat}(zc:z20 c)(hK:K≤1000000:=by first|decide|omega)(hX:X≤1000000:=by first|decide|omega):ACall Tryz.prog 8 [.agg ([.row 4 (lg c) (qel K (rc c))] ++ [exL (ChQ c KC) (fun L=>qlr KC L)] ++qn X lo ++qn X hi)] (.d (.agg ([.row 2 (lg c) (zel K c)] ++tn X lo ++tn X hi))):=by
 have hlc:=lg_le c;exact aN 13 [.cell 2 40] Tryz.func8 rfl<|cR<|mO rfl<|mO rfl<|mT<|cSeq<|cDk 10<|oV rfl<|oV rfl<|oC (aQToN (zc) (by omega)) rfl<|oV rfl<|oV rfl<|oC (aRToR (isq X lo)) rfl<|oV rfl<|oV rfl<|oC (aRToR (isq X hi)) rfl<|oV rfl<|.nil<|mZ rfl<|mT<|cRet<|rQ rfl (AV.le.rfl)
theorem cmpC_congr{C C' D D':Cut}(h:∀ q,C q↔C' q)(k:∀ q,D q↔D' q):cmpC C D=cmpC C' D':=by
 have e1:C=C':=funext fun q=>propext (h q)
 have e2:D=D':=funext fun q=>propext (k q)
 rw [e1,e2]
section
variable {c d:Nat→Int} {L J E f:Nat} {lo hi p q u1 u2 v1 v2:Rat}
theorem db_bits{K:Nat}(h:Db K c)(i:Nat):(c i).natAbs≤2^(14*K):=by
 have h1:=h i;have h2:B4^K≤2^(14*K):=by rw [Nat.pow_mul];exact Nat.pow_le_pow_left (by decide) K
 omega
end
/-- There is one: by Bezout. -/
theorem ex_gcdP{c d:Nat→Int}(zc:z20 c)(zd:z20 d)(hc:lg c≠0):∃ M g,GcdP c d M g:=by
 obtain ⟨δ,u,v,s,t,pδ,pu,pv,ps,pt,e1,e2,e3⟩:=po_gcd 20 (FF c) (FF d) (FF_po zc) ⟨rc d,rc_z zd,fun _=>rfl⟩;obtain ⟨x0,hx0⟩:=FF_nz zc hc;have δne:∃ x,δ x≠0:=⟨x0,fun e=>hx0 (by rw [e2,e,Rat.mul_zero])⟩
 obtain ⟨kδ,aδ,hlδ⟩:=po_deg pδ δne;have hdv:Dv δ (FF c):=⟨s,ps,e2⟩;have hk:kδ+1≤20:=by
  have h1:=hdv.deg hlδ (FF_lc zc hc);have:=lg_le c;omega
 obtain ⟨q,hqz,_,_,hq⟩:=hlδ;obtain ⟨D,w,hD,hwz,hw⟩:=whole_row (q:=q) (k:=kδ+1) (fun i hi=>hqz i (by omega));have zw:z20 w:=z20.of hwz hk;have hDq:(D:Rat)≠0:=by
  have:(0:Rat) < (D:Rat):=by exact_mod_cast hD
  grind
 have hF:∀ x,FF w x=(D:Rat)*δ x:=fun x=>by
  rw [← FF_pf hwz zw,hq];show pe (rc w) x (kδ+1)=_
  rw [show rc w=fsclQ q (D:Rat) from funext hw,pe_scl];exact Rat.mul_comm _ _
 have hi:Idl (FF c) (FF d) δ:=⟨⟨u,v,pu,pv,e1⟩,hdv,⟨t,pt,e3⟩⟩;have hi2:Idl (FF c) (FF d) (FF w):=hi.scale (s:=(D:Rat)⁻¹) (s':=(D:Rat)) (fun x=>by rw [hF];have:=Rat.inv_mul_cancel _ hDq;grind) hF;obtain ⟨s1,s2,g1,g2⟩:=FF_prm zw;have zp:=prm20_z zw;obtain ⟨M,_,hM⟩:=ex_lb zp;exact ⟨M,prm20 w,zp,hM,hi2.scale g1 g2,fun e=>prm20_pm zw (by rw [← prm20_lg zw];exact e)⟩
theorem ex_sq{c:Nat→Int}(zc:z20 c)(h2:2≤lg c)(h10:lg c≤10):∃ M,SqP c M (sqP c):=by
 have zp:=prm20_z zc;have hl:=prm20_lg zc;have pp:=prm20_pm zc (by omega);obtain ⟨M,g,hg⟩:=ex_gcdP zp (z20_der zp) (by omega);obtain ⟨⟨M',h⟩,_⟩:=sq_step zp pp (by omega) (by omega) hg;have h3:=sqp_prm zc (by omega) h;exact ⟨M',h3.self⟩
theorem dvb_small{c:Nat→Int}{H n M:Nat}(zc:z20 c)(h0:lg c≠0)(hl:lg c≤n)(hH:∀ i,(c i).natAbs≤H)(hnH:n≤H)(h1:1≤H)(hM:n*(H*(2*H)^n)*(10*H)^n < B4^M):DvB c M:=by
 intro g zg hg hd;obtain ⟨hg0,hgl⟩:=lg_dv zc zg h0 hd;obtain ⟨W,pW,hW⟩:=hd;obtain ⟨w,k,hw,hc,_⟩:=exact_row zc.lg zg.lg hg pW (fun x=>by rw [FF_lg zc,FF_lg zg];exact hW x);intro i;have hb:=dv_bound (H:=(H:Int)) zc.ip h0 zg.lg hw hc (fun i=>by have:=hH i;omega) (by omega) (by omega) i;have e:((lg c:Rat)*(((H:Int):Rat)*(2*((H:Int):Rat))^lg c)*(10*((H:Int):Rat))^lg g)=((lg c*(H*(2*H)^lg c)*(10*H)^lg g:Nat):Rat):=by
  have pc:∀ (a b:Nat),((a^b:Nat):Rat)=(a:Rat)^b:=fun a b=>by
   induction b with
   | zero=>rw [Rat.pow_zero];rfl
   | succ b ih=>rw [Nat.pow_succ,Rat.pow_succ,Rat.natCast_mul,ih]
  rw [Rat.natCast_mul,Rat.natCast_mul,Rat.natCast_mul,pc,pc,Rat.natCast_mul,Rat.natCast_mul];rfl
 rw [e] at hb;have hle:(g i).natAbs≤lg c*(H*(2*H)^lg c)*(10*H)^lg g:=by
  unfold Ab at hb;have b1:((g i:Int):Rat)≤(((lg c*(H*(2*H)^lg c)*(10*H)^lg g:Nat):Int):Rat):=hb.2;have b2:((-((lg c*(H*(2*H)^lg c)*(10*H)^lg g:Nat):Int):Int):Rat)≤((g i:Int):Rat):=by rw [Rat.intCast_neg];exact hb.1
  have c1:g i≤((lg c*(H*(2*H)^lg c)*(10*H)^lg g:Nat):Int):=by exact_mod_cast b1
  have c2: -((lg c*(H*(2*H)^lg c)*(10*H)^lg g:Nat):Int)≤g i:=by exact_mod_cast b2
  omega
 refine Nat.lt_of_le_of_lt (Nat.le_trans hle ?_) hM;exact Nat.mul_le_mul (Nat.mul_le_mul hl (Nat.mul_le_mul_left _ (Nat.pow_le_pow_right (by omega) hl))) (Nat.pow_le_pow_right (by omega) (by omega))
theorem DvB.mono{c:Nat→Int}{K L:Nat}(h:DvB c K)(k:K≤L):DvB c L:=fun g zg hg hd=>(h g zg hg hd).mono k
theorem DvB.dv{c d:Nat→Int}{K:Nat}(h:DvB c K)(k:Dv (FF d) (FF c)):DvB d K:=fun g zg hg hd=>h g zg hg (hd.trans k)
/-! ### Picked -/
def pw(cl:Nat→Int)(i:Nat):Int:=IntKind.i64.wrap (cl i+6)%13-6
def pkP(cl:Nat→Int)(n:Nat):Nat→Int:=fun i=>if i < min n 5 then pw cl i else 0
def smT(n d:Int):Rat:=mkR (n%61-30) (1+d%6)
noncomputable def pkR(cl:Nat→Int)(n:Nat):List (Rat×Rat):=rtF (sqP (pkP cl n)) 56
noncomputable def pkA(cl:Nat→Int)(n:Nat)(k:Int):(Nat→Int)×Rat×Rat:=
 if 2≤lg (pkP cl n)∧(pkR cl n).length≠0 then (sqP (pkP cl n),((pkR cl n).getD (k%((pkR cl n).length:Int)).toNat (0,0)).1,((pkR cl n).getD (k%((pkR cl n).length:Int)).toNat (0,0)).2) else (lnP (smT k n),smT k n,smT k n)
noncomputable def pkC(cl:Nat→Int)(n:Nat)(k:Int):Nat→Int:=(pkA cl n k).1
noncomputable def pkL(cl:Nat→Int)(n:Nat)(k:Int):Rat:=(pkA cl n k).2.1
noncomputable def pkH(cl:Nat→Int)(n:Nat)(k:Int):Rat:=(pkA cl n k).2.2
theorem pkw_bd(cl:Nat→Int)(i:Nat): -6≤pw cl i∧pw cl i≤6:=by unfold pw;omega
theorem pkP_z(cl:Nat→Int)(n:Nat):∀ i,min n 5≤i→pkP cl n i=0:=fun i hi=>if_neg (by omega)
theorem pkP_20(cl:Nat→Int)(n:Nat):z20 (pkP cl n):= .of (pkP_z cl n) (by omega)
theorem pkP_l(cl:Nat→Int)(n:Nat):lg (pkP cl n)≤5:=Nat.le_trans (lg_of_z (pkP_20 cl n) (pkP_z cl n)) (by omega)
theorem pkP_b(cl:Nat→Int)(n i:Nat):(pkP cl n i).natAbs≤6:=by
 unfold pkP;split
 ·have:=pkw_bd cl i;omega
 ·exact Nat.zero_le _
theorem pkP_db(cl:Nat→Int)(n:Nat):Db 1 (pkP cl n):=fun i=>by
 have h:=pkP_b cl n i;have e:B4^1=10000:=by decide
 omega
theorem pkP_dvb{cl:Nat→Int}{n:Nat}(h:lg (pkP cl n)≠0):DvB (pkP cl n) 4:=dvb_small (pkP_20 cl n) h (pkP_l cl n) (pkP_b cl n) (by decide) (by decide) (by decide)
/-- What is picked. -/
structure PkP(c:Nat→Int)(lo hi:Rat):Prop where
 v:OkV c lo hi
 x:EX c lo hi
 pm:Pm (lg c) c
 b:Db 4 c
 l5:lg c≤5
 dv:DvB c 4
 sm:∃ p0,z20 p0∧(∀ i,(p0 i).natAbs≤30)∧lg p0≤5∧2≤lg p0∧Dv (FF c) (FF p0)∧(lg p0≤2∨∀ i,(p0 i).natAbs≤6)
theorem mkR_bd{n d:Int}(hd:0 < d):(mkR n d).num.natAbs≤n.natAbs∧(mkR n d).den≤d.natAbs:=by
 rw [mkR_ne (by omega)];obtain ⟨h1,h2⟩:=mkR_pos (n:=n) hd;refine ⟨by rw [h1];exact Int.natAbs_ediv_le_natAbs _ _,?_⟩;have h3:((Rat.divInt n d).den:Int).natAbs≤d.natAbs:=by rw [h2];exact Int.natAbs_ediv_le_natAbs _ _
 exact h3
theorem smT_bd(n d:Int):(smT n d).num.natAbs≤30∧(smT n d).den≤6:=by
 obtain ⟨h1,h2⟩:=mkR_bd (n:=n%61-30) (d:=1+d%6) (by omega);unfold smT;omega
theorem smT_qb(n d:Int):Qb 1 (smT n d):=by
 obtain ⟨h1,h2⟩:=smT_bd n d;have e:B4^1=10000:=by decide
 exact ⟨by omega,by omega⟩
theorem smT_tb(n d:Int):Tb 1 (smT n d):=by
 obtain ⟨h1,h2⟩:=smT_bd n d;have e:B32^1=4294967296:=by decide
 exact ⟨by omega,by omega⟩
theorem ex_tb(q:Rat):∃ L,Tb L q:=by
 refine ⟨q.num.natAbs+q.den,?_,?_⟩
 ·exact Nat.lt_of_lt_of_le (Nat.lt_of_lt_of_le Nat.lt_two_pow_self (Nat.pow_le_pow_left (show 2≤B32 by decide) _)) (Nat.pow_le_pow_right (by decide) (by omega))
 ·exact Nat.lt_of_lt_of_le (Nat.lt_of_lt_of_le Nat.lt_two_pow_self (Nat.pow_le_pow_left (show 2≤B32 by decide) _)) (Nat.pow_le_pow_right (by decide) (by omega))
theorem pkS{cl:Nat→Int}{n:Nat}(h2:2≤lg (pkP cl n)):(∃ M,SqP (pkP cl n) M (sqP (pkP cl n)))∧Db 4 (sqP (pkP cl n))∧(∀ i,(sqP (pkP cl n) i).natAbs≤2^56):=by
 obtain ⟨M,h⟩:=ex_sq (pkP_20 cl n) h2 (by have:=pkP_l cl n;omega);have hb:Db 4 (sqP (pkP cl n)):=pkP_dvb (by omega) _ h.z h.pm.one h.dv;exact ⟨⟨M,h⟩,hb,db_bits (K:=4) hb⟩
theorem pk_rt{cl:Nat→Int}{n:Nat}(h2:2≤lg (pkP cl n)):RtP (sqP (pkP cl n)) (pkR cl n):=by
 obtain ⟨⟨M,h⟩,hb,b1⟩:=pkS h2;obtain ⟨L,hL⟩:=ex_tb (bdQ (sqP (pkP cl n)));exact rt_ok (cnt_sq h (pkP_20 cl n) h2) b1 hL
theorem getD_mem'{α:Type}{l:List α}{i:Nat}{d:α}(h:i < l.length):l.getD i d∈l:=by
 rw [List.getD_eq_getElem?_getD,List.getElem?_eq_getElem h];exact List.getElem_mem h
theorem pk_ln(n d:Int):PkP (lnP (smT n d)) (smT n d) (smT n d):=by
 have hb:=lnP_db (smT_qb n d);have h30:∀ i,(lnP (smT n d) i).natAbs≤30:=fun i=>by
  obtain ⟨h1,h2⟩:=smT_bd n d
  match i with
  | 0=>show (-(smT n d).num).natAbs≤30;omega
  | 1=>show ((smT n d).den:Int).natAbs≤30;omega
  | i+2=>rw [lnP_z2 _ (i+2) (by omega)];exact Nat.zero_le _
 exact ⟨okV_ln _,Or.inl rfl,lnP_pmL _,hb.mono (by decide),by rw [lnP_lg];decide,(dvb_lin (lnP_z _) (lnP_lg _) hb (by decide)).mono (by decide),⟨lnP (smT n d),lnP_z _,h30,by rw [lnP_lg];decide,by rw [lnP_lg];decide,Dv.refl _,Or.inl (by rw [lnP_lg];decide)⟩⟩
theorem mod_lt'(k:Int){n:Nat}(h:n≠0):(k%(n:Int)).toNat < n:=by
 have h1:=Int.emod_nonneg k (show (n:Int)≠0 by omega);have h2:=Int.emod_lt_of_pos k (show (0:Int) < n by omega);omega
theorem pk_at{cl:Nat→Int}{n:Nat}(h2:2≤lg (pkP cl n)){p:Rat×Rat}(hp:p∈pkR cl n):PkP (sqP (pkP cl n)) p.1 p.2:=by
 obtain ⟨⟨M,h⟩,hb,b1⟩:=pkS h2;obtain ⟨o,x⟩:=(pk_rt h2).ok p hp;have hl:=pkP_l cl n;exact ⟨o,x,h.pm,hb,by have:=(lg_dv (pkP_20 cl n) h.z (by omega) h.dv).2;omega,(pkP_dvb (by omega)).dv h.dv,⟨pkP cl n,pkP_20 cl n,fun i=>by have:=pkP_b cl n i;omega,hl,h2,h.dv,Or.inr (pkP_b cl n)⟩⟩
theorem pk_ok(cl:Nat→Int)(n:Nat)(k:Int):PkP (pkC cl n k) (pkL cl n k) (pkH cl n k):=by
 unfold pkC pkL pkH pkA;split
 ·rename_i h
  exact pk_at h.1 (getD_mem' (mod_lt' k h.2))
 ·exact pk_ln k n
theorem aSmall{n d:Int}(hn1: -9223372036854775808≤n)(hn2:n≤9223372036854775807)(hd1: -9223372036854775808≤d:=by omega)(hd2:d≤9223372036854775807:=by omega):ACall Tryz.prog 19 [.one (.v (.int .i64 n)),.one (.v (.int .i64 d))] (.d (.agg (qn 64 (smT n d)))):=by
 exact aN 12 [.cell 4 49] Tryz.func19 rfl<|cR<|mO rfl<|mT<|cR<|mW rfl<|mY (aWithin (v:=n) (n:=61) (by decide) (by decide) hn1 hn2) rfl<|mV hTT (.d (.one (.v (.int .i64 (n%61-30))))) (evi (wr64 (by omega) (by omega)))<|mW rfl<|mY (aWithin (v:=d) (n:=6) (by decide) (by decide) hd1 hd2) rfl<|mV hTT (.d (.one (.v (.int .i64 (1+d%6))))) (evi (wr64 (by omega) (by omega)))<|mY (aROfR (n:=(n%61-30)) (d:=(1+d%6)) (by omega) (by omega) (by omega) (by omega)) rfl<|mZ rfl<|mT<|cRet<|rQ rfl (le_qn (Nat.le_refl _) rfl)
theorem wr_lo(z:Int): -9223372036854775808≤IntKind.i64.wrap z:=by rw [IntKind.wrap_i64];omega
theorem wr_hi(z:Int):IntKind.i64.wrap z≤9223372036854775807:=by rw [IntKind.wrap_i64];omega
theorem app_pw{cl:Nat→Int}{i p:Nat}{B:BS}{w:World}{v:Value}(hp:p < i+1)(hv:LfR B w (appEl i (fun i _=> .v (.int .i64 (pw cl i))) (fun i' j'=>((([.v (.int .i64 (pw cl i))]:List Lf))[i'*1+j']?).getD (.v undef)) p 0) v):LfR B w (.v (.int .i64 (pw cl p))) v:=by
 unfold appEl at hv
 by_cases h:p < i
 ·rw [show Nat.ble (p+1) i=true from Nat.ble_eq_true_of_le h] at hv;exact hv
 ·obtain rfl:p=i:=by omega
  rw [show Nat.ble (p+1) p=false from by rw [← Bool.not_eq_true,Nat.ble_eq];omega,Nat.sub_self] at hv;exact hv
theorem leo_pw{e:TypeId}{cl:Nat→Int}{i:Nat}:AO.le (.row e 1 (i+1) (appEl i (fun i _=> .v (.int .i64 (pw cl i))) (fun i' j'=>((([.v (.int .i64 (pw cl i))]:List Lf))[i'*1+j']?).getD (.v undef)))) (.row e 1 (i+1) (fun i _=> .v (.int .i64 (pw cl i)))):=leo_row fun p hp j hj B w v hv=>by
 obtain rfl:j=0:=by omega
 exact app_pw hp hv
theorem pk_of{cl:Nat→Int}{n:Nat}:AV.le (.d (.one (qrow 64 (dg (rc (pkP cl n)) (min n 5)) (rc (pkP cl n))))) (.d (.one (qrow 1 (lg (pkP cl n)) (rc (pkP cl n))))):=le_dg_t (lg_dg2 (pkP_z cl n) (pkP_20 cl n)) (by decide) (pkP_db cl n)
theorem pk_one{KC:Nat}{cl:Nat→Int}{n:Nat}{k:Int}(h:¬ (2≤lg (pkP cl n)∧(pkR cl n).length≠0)):AV.le (.d (.agg (qac 64 (lnP (smT k n)) KC 64 (smT k n) 64 (smT k n)))) (.d (.agg (qac 4 (pkC cl n k) KC 1200 (pkL cl n k) 1200 (pkH cl n k)))):=by
 have hb:=lnP_db (smT_qb k n);have hq:=smT_qb k n;unfold pkC pkL pkH pkA;rw [if_neg h];refine le_agg (ls_cat (ls_cat (ls_cat (fun B w cs k=>match cs,k with | [v],⟨k,_⟩=>⟨qrow_tight (by decide) (fun i _=>(hb.mono (by decide)) i) B w v k,trivial⟩) (fun _ _ _ h=>h)) (qn_tight (qb_mono hq (by decide)))) (qn_tight (qb_mono hq (by decide))))
theorem pk_two{KC:Nat}{cl:Nat→Int}{n:Nat}{k:Int}(h:2≤lg (pkP cl n)∧(pkR cl n).length≠0):AV.le (.d (.agg (qac 4 (sqP (pkP cl n)) KC 1200 ((pkR cl n).getD (k%((pkR cl n).length:Int)).toNat (0,0)).1 1200 ((pkR cl n).getD (k%((pkR cl n).length:Int)).toNat (0,0)).2))) (.d (.agg (qac 4 (pkC cl n k) KC 1200 (pkL cl n k) 1200 (pkH cl n k)))):=by
 unfold pkC pkL pkH pkA;rw [if_pos h];exact AV.le.rfl
theorem rtD_bd{c:Nat→Int}(h:lg c≤5):rtD c 56 / 32≤83:=by
 unfold rtD sepE;have h1:2*(lg c+lg c)*(56+56+(lg c+lg c)+8)≤2*(5+5)*(56+56+(5+5)+8):=Nat.mul_le_mul (by omega) (by omega);omega
theorem aPick{cl:Nat→Int}{n:Nat}{k:Int}(hn:n≤9223372036854775807:=by decide)(hk1: -9223372036854775808≤k:=by decide)(hk2:k≤9223372036854775807:=by decide):ACall Tryz.prog 9 [.one (irow n cl),.one (.v (.int .i64 k))] (.d (.agg ([.row 4 (lg (pkC cl n k)) (qel 4 (rc (pkC cl n k)))] ++ [exL (ChQ (pkC cl n k) 2916) (fun L=>qlr 2916 L)] ++qn 1200 (pkL cl n k) ++qn 1200 (pkH cl n k)))):=by
 refine aN 56 [.cell 4 51] Tryz.func9 rfl<|cR<|mO rfl<|mT<|cR<|mW rfl<|mT<|cSeq<|cSeq<|AW.wk (wkNil 5 5 3 1 (fun _ _=> .v undef) rfl rfl)<|cReg<|mW rfl<|mT<|cBlock<|cLoop (ι:=Nat) (fun (i:Nat)=>⟨56,[(0,.d (.one (.row 1 n (fun i _=> .v (.int .i64 (cl i)))))),(1,.d (.one (.v (.int .i64 k)))),(4,.ptr 4 0),(5,.own 5),(6,.d (.one (.v (.int .i64 ((i:Nat):Int)))))],[(4,.box 51 ([.v (.slice none 0 0),.v (.slice none 0 0),.v (.slice none 0 0),.v (.bool false),.v (.slice none 0 0),.v (.bool false),.v (.slice none 0 0),.v (.bool false),.v (.slice none 0 0),.v (.bool false)])),(5,.row 3 1 i (fun i _=> .v (.int .i64 (pw cl i))))]⟩) (fun (i:Nat)=>i≤min n 5) (fun (i:Nat)=>min n 5-i) 0 (Nat.zero_le _) (wk rfl ⟨hs rfl,hs rfl,hs rfl,hs rfl,hs' rfl (le_int rfl),trivial⟩ ⟨ho rfl,ho' rfl (leo_row0),trivial⟩ rfl) ?_;rintro i hI;have hi:i≤min n 5:=hI;show AW _ _ _ ⟨_,_,_⟩
 refine cSeq<|cSeq ?_
 by_cases hin:i < n
 ·by_cases hi5:i < 5
  ·refine cReg<|mv3 rfl rfl rfl<|mdT rfl (by omega)<|mv2 rfl rfl<|mdT rfl (by omega)<|mW rfl<|mT<|cT rfl<|cSkip<|tN<|cSeq<|cBlock<|cReg<|mv3 rfl rfl rfl<|mV hTT (.d (.one (.at 1 ((fun i _=> .v (.int .i64 (cl i))) i)))) (ixR (el:=(fun i _=> .v (.int .i64 (cl i)))) (z:=((i:Nat):Int)) (n:=n) rfl rfl rfl rfl rfl rfl (by omega) (by omega)) ?_;exact mv2 rfl rfl<|mY (aWithin (v:=(IntKind.i64.wrap (cl i+6))) (n:=13) (by decide) (by decide) (wr_lo _) (wr_hi _)) rfl<|mV hTT (.d (.one (.v (.int .i64 (pw cl i))))) (evi (wr64 (by omega) (by omega)))<|mB hTT (.d (.one (.row 1 1 (fun i' j'=>(([.v (.int .i64 (pw cl i))])[i'*1+j']?).getD (.v undef))))) rfl<|mA hTT (id:=5) (n:=i) (m:=1) (el:=(fun i _=> .v (.int .i64 (pw cl i)))) (el2:=(fun i' j'=>(([.v (.int .i64 (pw cl i))])[i'*1+j']?).getD (.v undef))) rfl rfl rfl (by show (i+1)*8≤140737488355328;omega) (by omega) rfl rfl rfl rfl rfl rfl rfl rfl rfl rfl<|mW rfl<|mNil<|bN<|tN<|cReg<|mv3 rfl rfl rfl<|mNil<|⟨(i+1),by omega,by omega,wk rfl ⟨hs rfl,hs rfl,hs rfl,hs rfl,hs' rfl (le_int (inc64 (by omega))),trivial⟩ ⟨ho rfl,ho' rfl (leo_pw),trivial⟩ rfl⟩
  ·refine cReg<|mv3 rfl rfl rfl<|mdT rfl (by omega)<|mv2 rfl rfl<|mdF rfl (by omega)<|mW rfl<|mT<|cF rfl<|cExit<|tE<|tE<|bE<|tN<|cSeq ?_;obtain rfl:i=min n 5:=by omega
   refine AW.wk (wkRow 5 rfl)<|cReg<|mW rfl<|mY (aQOf (isi_cut (n:=(min n 5)) (c:=pw cl)) (fun i hi=>by show _≤(if i < min n 5 then pw cl i else 0)∧(if i < min n 5 then pw cl i else 0)≤_;rw [if_pos hi];have:=pkw_bd cl i;omega) (by omega)) rfl<|mW rfl<|mT<|cSeq<|cSeq<|cView 7 (.d (.one (.row 4 (lg (pkP cl n)) (qel 1 (rc (pkP cl n)))))) rfl (pk_of) ?_
   by_cases h2:2≤lg (pkP cl n)
   ·obtain ⟨⟨Ms,hS⟩,hb4,hb56⟩:=pkS h2;have hR:=pk_rt h2;have hsl:=(lg_dv (pkP_20 cl n) hS.z (by omega) hS.dv).2;have hrd:=rtD_bd (c:=sqP (pkP cl n)) (by have:=pkP_l cl n;omega);have hpl:=pkP_l cl n;refine cReg<|mv2 rfl rfl<|mdF rfl (by omega)<|mT<|cFs rfl<|cR<|mW rfl<|mY (aQRoots (K:=1) (M:=4) (KC:=2916) (N:=5) (X:=1200) (h1:=56) (Ms:=Ms) (c:=pkP cl n) (pkP_20 cl n) h2 (by decide) hpl (by decide) (by decide) (pkP_dvb (by omega)) (by decide) (by decide) (by decide) (by decide) hS hb56 (by omega) (by decide)) rfl<|mW rfl<|mT<|cSeq<|cSeq<|cEx (Qx:=fun l=>l=rtF (sqP (pkP cl n)) 56∧l.length≤1000000) (L:=fun l=> .row 10 l.length (elA 4 (sqP (pkP cl n)) 2916 1200 l)) 8 rfl (fun l hl=>?_);obtain ⟨hl1,hrl⟩:=hl;have hl2:l=pkR cl n:=hl1;subst hl2
    by_cases hr0:(pkR cl n).length=0
    ·exact cReg<|mv2 rfl rfl<|mbT rfl (beq_iff_eq.2 (by omega))<|mT<|cT rfl<|cR<|mv3 rfl rfl rfl<|mY (aSmall (n:=k) (d:=(n:Int)) hk1 hk2 (by omega) (by omega)) rfl<|mY (aQRational (X:=64) (KC:=2916) (t:=smT k n) (by decide) (by decide) (by decide)) rfl<|mZ rfl<|mT<|cRet<|tR<|rQ rfl (pk_one (fun h=>h.2 hr0))
    ·refine cReg<|mv2 rfl rfl<|mbF rfl (beq_eq_false_iff_ne.2 (by omega))<|mT<|cFs rfl<|cSeq ?_;have hml:=mod_lt' k hr0;have hm0:0≤k%((pkR cl n).length:Int):=Int.emod_nonneg _ (by omega);refine cReg<|mv4 rfl rfl rfl rfl<|mY (aWithin (v:=k) (n:=(pkR cl n).length) (by omega) hrl hk1 hk2) rfl<|mV hTT (.d (.one (.at 10 ((elA 4 (sqP (pkP cl n)) 2916 1200 (pkR cl n)) (((k%(((pkR cl n).length:Nat):Int))).toNat))))) (ixR (el:=(elA 4 (sqP (pkP cl n)) 2916 1200 (pkR cl n))) (z:=(k%(((pkR cl n).length:Nat):Int))) (n:=((pkR cl n).length)) rfl rfl rfl rfl rfl rfl hm0 (by omega)) ?_;exact mW rfl<|mZ rfl<|mT<|cRet<|rQ rfl (pk_two ⟨h2,hr0⟩)
   ·exact cReg<|mv2 rfl rfl<|mdT rfl (by omega)<|mT<|cT rfl<|cR<|mv3 rfl rfl rfl<|mY (aSmall (n:=k) (d:=(n:Int)) hk1 hk2 (by omega) (by omega)) rfl<|mY (aQRational (X:=64) (KC:=2916) (t:=smT k n) (by decide) (by decide) (by decide)) rfl<|mZ rfl<|mT<|cRet<|tR<|rQ rfl (pk_one (fun h=>h2 h.1))
 ·refine cReg<|mv3 rfl rfl rfl<|mdF rfl (by omega)<|mW rfl<|mG rfl rfl<|mG rfl rfl<|mW rfl<|mT<|cF rfl<|cExit<|tE<|tE<|bE<|tN<|cSeq ?_;obtain rfl:i=min n 5:=by omega
  refine AW.wk (wkRow 5 rfl)<|cReg<|mW rfl<|mY (aQOf (isi_cut (n:=(min n 5)) (c:=pw cl)) (fun i hi=>by show _≤(if i < min n 5 then pw cl i else 0)∧(if i < min n 5 then pw cl i else 0)≤_;rw [if_pos hi];have:=pkw_bd cl i;omega) (by omega)) rfl<|mW rfl<|mT<|cSeq<|cSeq<|cView 7 (.d (.one (.row 4 (lg (pkP cl n)) (qel 1 (rc (pkP cl n)))))) rfl (pk_of) ?_
  by_cases h2:2≤lg (pkP cl n)
  ·obtain ⟨⟨Ms,hS⟩,hb4,hb56⟩:=pkS h2;have hR:=pk_rt h2;have hsl:=(lg_dv (pkP_20 cl n) hS.z (by omega) hS.dv).2;have hrd:=rtD_bd (c:=sqP (pkP cl n)) (by have:=pkP_l cl n;omega);have hpl:=pkP_l cl n;refine cReg<|mv2 rfl rfl<|mdF rfl (by omega)<|mT<|cFs rfl<|cR<|mW rfl<|mY (aQRoots (K:=1) (M:=4) (KC:=2916) (N:=5) (X:=1200) (h1:=56) (Ms:=Ms) (c:=pkP cl n) (pkP_20 cl n) h2 (by decide) hpl (by decide) (by decide) (pkP_dvb (by omega)) (by decide) (by decide) (by decide) (by decide) hS hb56 (by omega) (by decide)) rfl<|mW rfl<|mT<|cSeq<|cSeq<|cEx (Qx:=fun l=>l=rtF (sqP (pkP cl n)) 56∧l.length≤1000000) (L:=fun l=> .row 10 l.length (elA 4 (sqP (pkP cl n)) 2916 1200 l)) 8 rfl (fun l hl=>?_);obtain ⟨hl1,hrl⟩:=hl;have hl2:l=pkR cl n:=hl1;subst hl2
   by_cases hr0:(pkR cl n).length=0
   ·exact cReg<|mv2 rfl rfl<|mbT rfl (beq_iff_eq.2 (by omega))<|mT<|cT rfl<|cR<|mv3 rfl rfl rfl<|mY (aSmall (n:=k) (d:=(n:Int)) hk1 hk2 (by omega) (by omega)) rfl<|mY (aQRational (X:=64) (KC:=2916) (t:=smT k n) (by decide) (by decide) (by decide)) rfl<|mZ rfl<|mT<|cRet<|tR<|rQ rfl (pk_one (fun h=>h.2 hr0))
   ·refine cReg<|mv2 rfl rfl<|mbF rfl (beq_eq_false_iff_ne.2 (by omega))<|mT<|cFs rfl<|cSeq ?_;have hml:=mod_lt' k hr0;have hm0:0≤k%((pkR cl n).length:Int):=Int.emod_nonneg _ (by omega);refine cReg<|mv4 rfl rfl rfl rfl<|mY (aWithin (v:=k) (n:=(pkR cl n).length) (by omega) hrl hk1 hk2) rfl<|mV hTT (.d (.one (.at 10 ((elA 4 (sqP (pkP cl n)) 2916 1200 (pkR cl n)) (((k%(((pkR cl n).length:Nat):Int))).toNat))))) (ixR (el:=(elA 4 (sqP (pkP cl n)) 2916 1200 (pkR cl n))) (z:=(k%(((pkR cl n).length:Nat):Int))) (n:=((pkR cl n).length)) rfl rfl rfl rfl rfl rfl hm0 (by omega)) ?_;exact mW rfl<|mZ rfl<|mT<|cRet<|rQ rfl (pk_two ⟨h2,hr0⟩)
  ·exact cReg<|mv2 rfl rfl<|mdT rfl (by omega)<|mT<|cT rfl<|cR<|mv3 rfl rfl rfl<|mY (aSmall (n:=k) (d:=(n:Int)) hk1 hk2 (by omega) (by omega)) rfl<|mY (aQRational (X:=64) (KC:=2916) (t:=smT k n) (by decide) (by decide) (by decide)) rfl<|mZ rfl<|mT<|cRet<|tR<|rQ rfl (pk_one (fun h=>h2 h.1))
section
open Go.RowKit Go.ChangeShapes Go.WideShapes
section
variable {H:Type} {enc:TypeId×Value→H} {P:Program} {w:World}
theorem am_i64N{t e:TypeId}{fuel:Nat}{cs:List Value}{x:DataW H×List MemPlace}(ht:P.underlying t=some (.slice e))(he:P.underlying e=some (.int .i64))(hc:P.cellsOf e=1) 
  (h:DataW.trod enc P w 0 (fun _=>true) true fuel t cs=some x):∃ v n c,cs= [v]∧LfR nb w (irow n c) v∧n≤9223372036854775807∧∀ i,i < n→-9223372036854775808≤c i∧c i≤9223372036854775807:=by
 rcases open_ints ht he hc h with ⟨rfl,_⟩ | ⟨a,l,c,zs,rfl,_,hl,hm,hz,_,hcell,hwz⟩
 ·exact ⟨_,0,fun _=>0,rfl,⟨none,0,rfl,Nat.le_refl _,fun _=>rfl,fun i hi=>absurd hi (Nat.not_lt_zero _)⟩,Nat.zero_le _,fun i hi=>absurd hi (Nat.not_lt_zero _)⟩
 ·have hz':zs.length=c:=by simpa using hz
  have hmx:maxLen=9223372036854775807:=by decide
  refine ⟨_,l,fun i=>zs.getD i 0,rfl,⟨some a,c,rfl,hl,(fun e=>nomatch e),fun i hi=>?_⟩,by omega,fun i hi=>?_⟩
  ·have h0:=hcell 0 (by omega)
   obtain ⟨b,off,rfl⟩:=plain_of_cell h0;have h1:=hcell i (by omega);rw [add_plain] at h1;refine ⟨b,off,rfl,fun h=>h.elim,World.block_lt_of_cell? w _ h1,fun q hq=>?_⟩;obtain rfl:q=0:=by omega
   exact ⟨_,by rw [Nat.mul_one,Nat.add_zero];exact h1,rfl,rfl⟩
  ·have hi':i < zs.length:=by omega
   show _≤zs.getD i 0∧zs.getD i 0≤_
   rw [List.getD_eq_getElem?_getD,List.getElem?_eq_getElem hi'];exact wf_int (hwz _ (List.getElem_mem hi'))
theorem am_i64sN{r:Reach}{b0:Nat}{d:DataW H}{p:List MemPlace}{v:Value}{t e:TypeId}(ht:P.underlying t=some (.slice e))(he:P.underlying e=some (.int .i64))(hc:P.cellsOf e=1) 
  (hv:Value.okWide P w r b0 t v) (h:DataW.Trod enc P w 0 (fun _=>true) true t v d p):∃ n c,LfR nb w (irow n c) v∧n≤9223372036854775807∧∀ i,i < n→-9223372036854775808≤c i∧c i≤9223372036854775807:=by
 obtain ⟨a,len,cap,rfl⟩:=okWide_slice ht hv;obtain ⟨fuel,hf⟩:=h;rw [slice_cells] at hf;obtain ⟨v',n,c,e1,h2⟩:=am_i64N ht he hc hf;obtain rfl:=(List.cons.inj e1).1;exact ⟨n,c,h2⟩
end
end
theorem lnP_Ft(t x:Rat):FF (lnP t) x=(t.den:Rat)*(x-t):=by
 rw [lnP_F];have:=q_mul_den t;grind
theorem denR_pos(t:Rat):(0:Rat) < (t.den:Rat):=by
 have h:=t.den_pos;exact_mod_cast h
theorem ln_sgC{C:Cut}(hC:IsCut C)(t:Rat):sgC (FF (lnP t)) C=cmpC C (cutP t):=by
 have hd:=denR_pos t
 by_cases h:C t
 ·obtain ⟨r,h1,h2⟩:=hC.up t h
  obtain ⟨r2,h3⟩:=hC.hi;rw [cmpC_P1 hC h];have he:0 < (t.den:Rat)*(r-t):=Rat.mul_pos hd (by grind);refine sgC_eq hC ⟨(t.den:Rat)*(r-t),r,r2,he,h2,h3,fun x hx _=>?_⟩;rw [lnP_Ft];have hx2:(t.den:Rat)*(r-t)≤(t.den:Rat)*(x-t):=Rat.mul_le_mul_of_nonneg_left (by grind) (by grind);exact ⟨Or.inl hx2,sgq_pos (by grind)⟩
 ·by_cases h2:∃ q,q < t∧¬ C q
  ·obtain ⟨q,h3,h4⟩:=h2
   obtain ⟨q0,h5⟩:=hC.lo;rw [cmpC_lt (D:=cutP t) h3 h4];have he:0 < (t.den:Rat)*(t-q):=Rat.mul_pos hd (by grind);refine sgC_eq hC ⟨(t.den:Rat)*(t-q),q0,q,he,h5,h4,fun x _ hx=>?_⟩;rw [lnP_Ft];have hx2:(t.den:Rat)*(t-q)≤(t.den:Rat)*(t-x):=Rat.mul_le_mul_of_nonneg_left (by grind) (by grind);have hx3:(t.den:Rat)*(t-x)= -((t.den:Rat)*(x-t)):=by grind
   exact ⟨Or.inr (by grind),sgq_neg (by grind)⟩
  ·have hq:∀ q,C q↔cutP t q:=fun q=>by
    constructor
    ·intro h3
     apply Classical.byContradiction;intro h4;have h5:¬ q < t:=h4;exact h (hC.down t q h3 (by grind))
    ·intro h3
     apply Classical.byContradiction;intro h4;exact h2 ⟨q,h3,h4⟩
   rw [cmpC_eq hq,sgC_cut hq,sgC_P (FF_po (lnP_z t)),lnP_root];rfl
theorem lnP_lb{X:Nat}{t:Rat}(h:Tb X t):Lb X (lnP t):=fun i=>by
 match i with
 | 0=>show (-t.num).natAbs < _;rw [Int.natAbs_neg];exact h.1
 | 1=>show (t.den:Int).natAbs < _;exact h.2
 | i+2=>rw [lnP_z2 t (i+2) (by omega)];exact Nat.pow_pos (by decide)
theorem sm_lb(n d:Int):Lb 4 (lnP (smT n d)):=(lnP_lb (smT_tb n d)).mono (by decide)
theorem sm_al(K:Nat)(n d:Int):AV.le (.d (.agg (alc K (lnP (smT n d)) K (smT n d) K (smT n d)))) (.d (.agg (alc 4 (lnP (smT n d)) 1200 (smT n d) 1200 (smT n d)))):=al_tight (sm_lb n d) (tb_mono (smT_tb n d) (by decide)) (tb_mono (smT_tb n d) (by decide))
/-- A heap: how many handles, their places (from 1 on, 0: not there), how many places, the handles at them. -/
structure HS where
 n:Nat
 pl:Nat→Nat
 m:Nat
 tr:Nat→Nat
structure Con(S:HS):Prop where
 tr:∀ k,k < S.m→S.tr k≠0∧S.tr k≤S.n∧S.pl (S.tr k-1)=k+1
 pl:∀ i,i < S.n→S.pl i=0∨(S.pl i≤S.m∧S.tr (S.pl i-1)=i+1)
def HS.lay(S:HS)(k h:Nat):HS:=⟨S.n,fun i=>if i=h-1 then k+1 else S.pl i,S.m,fun i=>if i=k then h else S.tr i⟩
def HS.swp(S:HS)(k c:Nat):HS:=(S.lay k (S.tr c)).lay c (S.tr k)
/-- The same handles are there. -/
structure Sam(S T:HS):Prop where
 n:T.n=S.n
 m:T.m=S.m
 pl:∀ i,i < S.n→(T.pl i=0↔S.pl i=0)
theorem Sam.rfl'(S:HS):Sam S S:=⟨rfl,rfl,fun _ _=>Iff.rfl⟩
theorem Sam.trans{S T U:HS}(h:Sam S T)(k:Sam T U):Sam S U:=⟨k.n.trans h.n,k.m.trans h.m,fun i hi=>(k.pl i (by rw [h.n];exact hi)).trans (h.pl i hi)⟩
section
variable {S:HS} {k c:Nat}
theorem Con.ne(h:Con S)(hk:k < S.m)(hc:c < S.m)(hne:k≠c):S.tr k-1≠S.tr c-1:=fun e=>by
 have h1:=(h.tr k hk).2.2;have h2:=(h.tr c hc).2.2;rw [e] at h1;omega
theorem swp_tr(i:Nat):(S.swp k c).tr i=if i=c then S.tr k else if i=k then S.tr c else S.tr i:=rfl
theorem swp_pl(i:Nat):(S.swp k c).pl i=if i=S.tr k-1 then c+1 else if i=S.tr c-1 then k+1 else S.pl i:=rfl
theorem Con.swp(h:Con S)(hk:k < S.m)(hc:c < S.m)(hne:k≠c):Con (S.swp k c):=by
 have hn:=h.ne hk hc hne;obtain ⟨a1,a2,a3⟩:=h.tr k hk;obtain ⟨b1,b2,b3⟩:=h.tr c hc;refine ⟨fun i hi=>?_,fun i hi=>?_⟩
 ·show (S.swp k c).tr i≠0∧(S.swp k c).tr i≤S.n∧_
  rw [swp_tr,swp_pl]
  by_cases e:i=c
  ·rw [if_pos e,if_pos rfl,e];exact ⟨a1,a2,rfl⟩
  by_cases e2:i=k
  ·rw [if_neg e,if_pos e2,if_neg (fun q=>hn q.symm),if_pos rfl,e2];exact ⟨b1,b2,rfl⟩
  ·rw [if_neg e,if_neg e2,if_neg (h.ne hi hk e2),if_neg (h.ne hi hc e)];exact h.tr i hi
 ·show (S.swp k c).pl i=0∨((S.swp k c).pl i≤S.m∧_)
  rw [swp_tr,swp_pl]
  by_cases e:i=S.tr k-1
  ·rw [if_pos e];exact Or.inr ⟨hc,by rw [Nat.add_sub_cancel,if_pos rfl];omega⟩
  by_cases e2:i=S.tr c-1
  ·rw [if_neg e,if_pos e2];exact Or.inr ⟨hk,by rw [Nat.add_sub_cancel,if_neg hne,if_pos rfl];omega⟩
  ·rw [if_neg e,if_neg e2]
   rcases h.pl i hi with h1 | ⟨h1,h2⟩
   ·exact Or.inl h1
   ·refine Or.inr ⟨h1,?_⟩
    rw [if_neg (fun q=>by rw [q] at h2;omega),if_neg (fun q=>by rw [q] at h2;omega)];exact h2
theorem Sam.swp(h:Con S)(hk:k < S.m)(hc:c < S.m):Sam S (S.swp k c):=by
 refine ⟨rfl,rfl,fun i hi=>?_⟩;obtain ⟨a1,a2,a3⟩:=h.tr k hk;obtain ⟨b1,b2,b3⟩:=h.tr c hc;rw [swp_pl];split
 ·rename_i e;rw [e,a3];exact ⟨fun q=>by omega,fun q=>by omega⟩
 ·split
  ·rename_i e;rw [e,b3];exact ⟨fun q=>by omega,fun q=>by omega⟩
  ·exact Iff.rfl
end
/-- Not less is an order of those of n handles. -/
structure LO(lt:Nat→Nat→Prop)(n:Nat):Prop where
 asy:∀ a b,a≠0→b≠0→a≤n→b≤n→lt a b→¬ lt b a
 tra:∀ a b c,a≠0→b≠0→c≠0→a≤n→b≤n→c≤n→¬ lt b a→¬ lt c b→¬ lt c a
/-- In order, but for place k against what is above (u) or below it (d). -/
structure Fr(lt:Nat→Nat→Prop)(S:HS)(k:Nat)(u d:Bool):Prop where
 con:Con S
 a:∀ i,0 < i→i < S.m→(i=k→u=false)→((i-1) / 2=k→d=false)→¬ lt (S.tr i) (S.tr ((i-1) / 2))
 b:∀ i,0 < i→i < S.m→(i-1) / 2=k→0 < k→¬ lt (S.tr i) (S.tr ((k-1) / 2))
section
variable {lt:Nat→Nat→Prop} {S:HS} {k c:Nat} {d:Bool}
theorem Con.as(h:Con S)(o:LO lt S.n){i j:Nat}(hi:i < S.m)(hj:j < S.m)(hl:lt (S.tr i) (S.tr j)):¬ lt (S.tr j) (S.tr i):=o.asy _ _ (h.tr i hi).1 (h.tr j hj).1 (h.tr i hi).2.1 (h.tr j hj).2.1 hl
theorem Con.tra(h:Con S)(o:LO lt S.n){i j l:Nat}(hi:i < S.m)(hj:j < S.m)(hl:l < S.m)(h1:¬ lt (S.tr j) (S.tr i))(h2:¬ lt (S.tr l) (S.tr j)):¬ lt (S.tr l) (S.tr i):=o.tra _ _ _ (h.tr i hi).1 (h.tr j hj).1 (h.tr l hl).1 (h.tr i hi).2.1 (h.tr j hj).2.1 (h.tr l hl).2.1 h1 h2
theorem Fr.any{k':Nat}(h:Fr lt S k false false)(o:LO lt S.n){u d:Bool}:Fr lt S k' u d:=by
 have ha:∀ i,0 < i→i < S.m→¬ lt (S.tr i) (S.tr ((i-1) / 2)):=fun i h1 h2=>h.a i h1 h2 (fun _=>rfl) (fun _=>rfl)
 exact ⟨h.con,fun i h1 h2 _ _=>ha i h1 h2,fun i h1 h2 h3 h4=>h.con.tra o (by omega) (by omega) h2 (ha k' h4 (by omega)) (h3▸ha i h1 h2)⟩
theorem Fr.up(h:Fr lt S k true d)(o:LO lt S.n)(hk:k < S.m)(h0:0 < k)(hl:lt (S.tr k) (S.tr ((k-1) / 2))):Fr lt (S.swp k ((k-1) / 2)) ((k-1) / 2) true false:=by
 have hp:(k-1) / 2 < k:=by omega
 generalize hpe:(k-1) / 2=p at *
 have hyx:=h.con.as o hk (by omega) hl;refine ⟨h.con.swp hk (by omega) (by omega),fun i h1 h2 h3 _=>?_,fun i h1 h2 h3 h4=>?_⟩
 ·replace h3:i≠p:=fun e=>by cases h3 e
  replace h2:i < S.m:=h2
  rw [swp_tr,swp_tr,if_neg h3]
  by_cases e:i=k
  ·rw [if_pos e,e,hpe,if_pos rfl];exact hyx
  rw [if_neg e]
  by_cases e1:(i-1) / 2=p
  ·rw [if_pos e1]
   have h5:=h.a i h1 h2 (fun q=>absurd q e) (fun q=>by omega);rw [e1] at h5;exact h.con.tra o hk (by omega) h2 hyx h5
  rw [if_neg e1]
  by_cases e2:(i-1) / 2=k
  ·rw [if_pos e2]
   have h5:=h.b i h1 h2 e2 h0;rwa [hpe] at h5
  ·rw [if_neg e2]
   exact h.a i h1 h2 (fun q=>absurd q e) (fun q=>absurd q e2)
 ·replace h2:i < S.m:=h2
  rw [swp_tr,swp_tr,if_neg (show ¬ (p-1) / 2=p by omega),if_neg (show ¬ (p-1) / 2=k by omega),if_neg (show ¬ i=p by omega)];have h6:=h.a p h4 (by omega) (fun q=>by omega) (fun q=>by omega)
  by_cases e:i=k
  ·rw [if_pos e];exact h6
  ·rw [if_neg e]
   have h5:=h.a i h1 h2 (fun q=>absurd q e) (fun q=>by omega);rw [h3] at h5;exact h.con.tra o (by omega) (by omega) h2 h6 h5
theorem Fr.upE(h:Fr lt S k true d)(hl:k=0∨¬ lt (S.tr k) (S.tr ((k-1) / 2))):Fr lt S k false d:=by
 refine ⟨h.con,fun i h1 h2 _ h4=>?_,h.b⟩
 by_cases e:i=k
 ·rcases hl with hl | hl
  ·omega
  ·rw [e];exact hl
 ·exact h.a i h1 h2 (fun q=>absurd q e) h4
theorem Fr.dn(h:Fr lt S k false true)(o:LO lt S.n)(hc:c < S.m)(h0:0 < c)(hp:(c-1) / 2=k)(hl:lt (S.tr c) (S.tr k))(hb:∀ i,0 < i→i < S.m→(i-1) / 2=k→¬ lt (S.tr i) (S.tr c)):Fr lt (S.swp k c) c false true:=by
 have hk:k < c:=by omega
 refine ⟨h.con.swp (by omega) hc (by omega),fun i h1 h2 _ h4=>?_,fun i h1 h2 h3 _=>?_⟩
 ·replace h4:(i-1) / 2≠c:=fun e=>by cases h4 e
  replace h2:i < S.m:=h2
  rw [swp_tr,swp_tr,if_neg h4]
  by_cases e:i=c
  ·rw [if_pos e,e,hp,if_pos rfl];exact h.con.as o hc (by omega) hl
  rw [if_neg e]
  by_cases e1:i=k
  ·rw [if_pos e1,e1,if_neg (by omega)];exact h.b c h0 hc hp (by omega)
  rw [if_neg e1]
  by_cases e2:(i-1) / 2=k
  ·rw [if_pos e2];exact hb i h1 h2 e2
  ·rw [if_neg e2];exact h.a i h1 h2 (fun _=>rfl) (fun q=>absurd q e2)
 ·replace h2:i < S.m:=h2
  rw [swp_tr,swp_tr,hp,if_neg (show ¬ i=c by omega),if_neg (show ¬ i=k by omega),if_neg (show ¬ k=c by omega),if_pos rfl];have:=h.a i h1 h2 (fun _=>rfl) (fun q=>by omega);rwa [h3] at this
theorem Fr.dnE(h:Fr lt S k false true)(hb:∀ i,0 < i→i < S.m→(i-1) / 2=k→¬ lt (S.tr i) (S.tr k)):Fr lt S k false false:=by
 refine ⟨h.con,fun i h1 h2 _ _=>?_,h.b⟩
 by_cases e:(i-1) / 2=k
 ·rw [e];exact hb i h1 h2 e
 ·exact h.a i h1 h2 (fun _=>rfl) (fun q=>absurd q e)
/-- A heap. -/
def Hp(lt:Nat→Nat→Prop)(S:HS):Prop:=Fr lt S 0 false false
theorem Fr.hp(h:Fr lt S k false false)(o:LO lt S.n):Hp lt S:=h.any o
theorem Hp.root(h:Hp lt S)(o:LO lt S.n):∀ i,i < S.m→¬ lt (S.tr i) (S.tr 0)
 | 0,hi=>fun hl=>h.con.as o hi hi hl hl
 | i+1,hi=>h.con.tra o (by omega) (j:=i / 2) (by omega) hi (Hp.root h o (i / 2) (by omega)) (by
   have:=h.a (i+1) (by omega) hi (fun _=>rfl) (fun _=>rfl);simpa using this)
end
/-- An event: its tag (five numbers), its time. -/
abbrev ET:=(Nat→Int)×AT
def evC(e:ET):Cut:=cutA e.2.1 e.2.2.1 e.2.2.2
def tgE(t u:Nat→Int):Prop:=∀ j,j < 5→t j=u j
def tgL(t u:Nat→Int):Prop:=∃ i,i < 5∧(∀ j,j < i→t j=u j)∧t i < u i
theorem tgE.symm{t u:Nat→Int}(h:tgE t u):tgE u t:=fun j hj=>(h j hj).symm
theorem tgE.trans{t u v:Nat→Int}(h:tgE t u)(k:tgE u v):tgE t v:=fun j hj=>(h j hj).trans (k j hj)
theorem tgL.cl{t u v:Nat→Int}(h:tgL t u)(k:tgE u v):tgL t v:=by
 obtain ⟨i,h1,h2,h3⟩:=h;exact ⟨i,h1,fun j hj=>(h2 j hj).trans (k j (by omega)),k i h1▸h3⟩
theorem tgL.cr{t u v:Nat→Int}(h:tgE t u)(k:tgL u v):tgL t v:=by
 obtain ⟨i,h1,h2,h3⟩:=k;exact ⟨i,h1,fun j hj=>(h j (by omega)).trans (h2 j hj),h i h1▸h3⟩
theorem tgL.trans{t u v:Nat→Int}(h:tgL t u)(k:tgL u v):tgL t v:=by
 obtain ⟨i,h1,h2,h3⟩:=h;obtain ⟨j,k1,k2,k3⟩:=k;rcases Nat.lt_trichotomy i j with e | rfl | e
 ·exact ⟨i,h1,fun l hl=>(h2 l hl).trans (k2 l (by omega)),k2 i e▸h3⟩
 ·exact ⟨i,h1,fun l hl=>(h2 l hl).trans (k2 l hl),by omega⟩
 ·exact ⟨j,k1,fun l hl=>(h2 l (by omega)).trans (k2 l hl),(h2 j e).symm▸k3⟩
theorem tgL.ne{t u:Nat→Int}(h:tgL t u)(k:tgE t u):False:=by
 obtain ⟨i,h1,h2,h3⟩:=h;have:=k i h1;omega
theorem tg_tri(t u:Nat→Int):tgE t u∨tgL t u∨tgL u t:=by
 have key:∀ n,n≤5→(∀ j,j < n→t j=u j)∨tgL t u∨tgL u t:=by
  intro n
  induction n with
  | zero=>exact fun _=>Or.inl fun j hj=>absurd hj (Nat.not_lt_zero _)
  | succ n ih=>
   intro hn
   rcases ih (by omega) with h | h
   ·rcases Int.lt_trichotomy (t n) (u n) with e | e | e
    ·exact Or.inr (Or.inl ⟨n,hn,h,e⟩)
    ·exact Or.inl fun j hj=>if q:j=n then q▸e else h j (by omega)
    ·exact Or.inr (Or.inr ⟨n,hn,fun j hj=>(h j hj).symm,e⟩)
   ·exact Or.inr h
 exact key 5 (Nat.le_refl _)
/-- One event, of handle a, comes ahead of another. -/
def evL(e f:ET)(a b:Nat):Prop:=cmpC (evC e) (evC f) < 0∨(cmpC (evC e) (evC f)=0∧(tgL e.1 f.1∨(tgE e.1 f.1∧a < b)))
theorem cut_tr{A B D:Cut}(hA:IsCut A)(hB:IsCut B)(hD:IsCut D)(h:cmpC A B≤0)(k:cmpC B D≤0):cmpC A D≤0:=(cmpC_le hA hD).2 fun q hq=>(cmpC_le hB hD).1 k q ((cmpC_le hA hB).1 h q hq)
theorem cut_t0{A B D:Cut}(hA:IsCut A)(hB:IsCut B)(hD:IsCut D)(h:cmpC A B≤0)(k:cmpC B D≤0)(z:cmpC A D=0):cmpC A B=0∧cmpC B D=0:=by
 have z':cmpC D A=0:=by rw [cmpC_neg hA hD,z];rfl
 have h1:=cut_tr hB hD hA k (by omega);have h2:=cut_tr hD hA hB (by omega) h;have e1:=cmpC_neg hA hB;have e2:=cmpC_neg hB hD;omega
section
variable {e f g:ET} {a b c:Nat}
theorem evL.le(h:evL e f a b):cmpC (evC e) (evC f)≤0:=by rcases h with h | h <;> omega
theorem evL.trans(hA:IsCut (evC e))(hB:IsCut (evC f))(hD:IsCut (evC g))(h:evL e f a b)(k:evL f g b c):evL e g a c:=by
 have hle:=cut_tr hA hB hD h.le k.le
 by_cases z:cmpC (evC e) (evC g)=0
 ·obtain ⟨z1,z2⟩:=cut_t0 hA hB hD h.le k.le z
  refine Or.inr ⟨z,?_⟩;rcases h with h | ⟨_,h⟩
  ·omega
  rcases k with k | ⟨_,k⟩
  ·omega
  rcases h with h | ⟨h,h'⟩ <;> rcases k with k | ⟨k,k'⟩
  ·exact Or.inl (h.trans k)
  ·exact Or.inl (h.cl k)
  ·exact Or.inl (k.cr h)
  ·exact Or.inr ⟨h.trans k,by omega⟩
 ·exact Or.inl (by omega)
theorem evL.asy(hA:IsCut (evC e))(hB:IsCut (evC f))(h:evL e f a b)(k:evL f e b a):False:=by
 have e1:=cmpC_neg hA hB;rcases h with h | ⟨h,h'⟩ <;> rcases k with k | ⟨k,k'⟩
 ·omega
 ·omega
 ·omega
 rcases h' with h | ⟨h,h2⟩ <;> rcases k' with k | ⟨k,k2⟩
 ·exact (h.trans k).ne (fun _ _=>rfl)
 ·exact h.ne k.symm
 ·exact k.ne h.symm
 ·omega
theorem evL.tri(hA:IsCut (evC e))(hB:IsCut (evC f))(hab:a≠b):evL e f a b∨evL f e b a:=by
 have e1:=cmpC_neg hA hB;rcases Int.lt_trichotomy (cmpC (evC e) (evC f)) 0 with h | h | h
 ·exact Or.inl (Or.inl h)
 ·rcases tg_tri e.1 f.1 with k | k | k
  ·rcases Nat.lt_or_gt_of_ne hab with l | l
   ·exact Or.inl (Or.inr ⟨h,Or.inr ⟨k,l⟩⟩)
   ·exact Or.inr (Or.inr ⟨by omega,Or.inr ⟨k.symm,l⟩⟩)
  ·exact Or.inl (Or.inr ⟨h,Or.inl k⟩)
  ·exact Or.inr (Or.inr ⟨by omega,Or.inl k⟩)
 ·exact Or.inr (Or.inl (by omega))
end
/-- The order of handles. -/
def hL(ev:Nat→ET)(a b:Nat):Prop:=evL (ev (a-1)) (ev (b-1)) a b
theorem hL_lo{ev:Nat→ET}{n:Nat}(h:∀ i,i < n→IsCut (evC (ev i))):LO (hL ev) n:=by
 have hc:∀ a,a≠0→a≤n→IsCut (evC (ev (a-1))):=fun a h1 h2=>h (a-1) (by omega)
 refine ⟨fun a b a1 b1 a2 b2 h1 h2=>evL.asy (hc a a1 a2) (hc b b1 b2) h1 h2,fun a b c a1 b1 c1 a2 b2 c2 h1 h2 h3=>?_⟩;have ha:=hc a a1 a2;have hb:=hc b b1 b2;have hd:=hc c c1 c2
 by_cases e:a=b
 ·subst e;exact h2 h3
 by_cases e':b=c
 ·subst e';exact h1 h3
 have k1:hL ev a b:=(evL.tri hb ha (fun q=>e q.symm)).resolve_left h1;have k2:hL ev b c:=(evL.tri hd hb (fun q=>e' q.symm)).resolve_left h2;exact evL.asy ha hd (evL.trans ha hb hd k1 k2) h3
/-- Cells from place j on of element i are others. -/
def stE(i j:Nat)(cs:List Lf)(el:Nat→Nat→Lf):Nat→Nat→Lf:=fun p q=>if p=i∧j≤q∧q < j+cs.length then (cs[q-j]?).getD (.v undef) else el p q
section
variable {P:Program} {ops:Array Oper} {Q:Qs} {s:AS} {o:Oper} {l:List Oper}
theorem mSp{T:TypeId→Option TI}(hT:TOk P T){t:TypeId}{x y:Operand}{ti:TI}{d:DV}(id:Nat){i j sz e n:Nat}{el:Nat→Nat→Lf}{obn:AO}(hop:o.op= .store t x y)(hti:T t=some ti)(hx:geto s x=some (.eptr id sz i j))(hy:geto s y=some (.d d))(hob:lkP s.hp id=some (obn,.row e sz n el))(hl:d.cells.length=ti.n)(hj:j+ti.n≤sz) 
  (k:AL P ops Q l (AS.put ⟨s.n,s.sl,(id,AO.put (.row e sz n (stE i j d.cells el)) obn) ::s.hp⟩ o.dst .dead)) (hg:gst ops s o=some true:=by rfl) (hd:dok o.dst s.n=true:=by rfl):AL P ops Q (o ::l) s:=by
 rintro B0 w0 a w ⟨ρ,hc,hn,hdf,hsl⟩;obtain ⟨hob,hun⟩:=lkP_ok hob
 replace hti:=hT _ _ hti
 obtain ⟨g,n',cap,hgi,hi,hxe⟩:=geto_ok hsl hx;obtain ⟨vs,hv,hvr⟩:=DR.cells (geto_ok hsl hy);obtain ⟨ob,h1,h2⟩:=hc.obj id _ hgi;rw [hob] at h1;cases h1
 have h2n:=h2;have h2:=h2.un;rw [hun] at h2;obtain ⟨xs,⟨⟨hxl,hown2⟩,hbk⟩,hel⟩:=h2;rcases hown2 with ⟨he,_⟩ | ⟨g2,cap2,cur,he,hge,hblk,hn1,hm,hs,ht⟩
 ·cases he
 cases he
 have hb:Blk w g e cur.toList:=by unfold Blk;rw [hblk]
 have hlen:=hvr.len;have mul:∀ {p:Nat},p < n→p*sz+sz≤n*sz:=fun {p} hp=>by
  have:(p+1)*sz≤n*sz:=Nat.mul_le_mul_right _ hp;rwa [Nat.add_mul,Nat.one_mul] at this
 have hend:=mul hi;have hcl:n*sz≤cur.toList.length:=by rw [Array.length_toList,hs];exact Nat.mul_le_mul_right _ hn1
 have hst:=ti_store (w:=w) (b:=g) (o:=i*sz+j) hti hv (by omega) (fun q hq=>⟨by rw [hb.cell _ (by omega)];rfl,hb.free _⟩) hvr.one;obtain ⟨k1,k2,k3,k4,k5,k6⟩:=setCells_blk vs (i*sz+j) w _ hb (by omega);obtain ⟨w',hw'⟩:∃ w',w'=w.setCells g (i*sz+j) vs:=⟨_,rfl⟩
 rw [← hw'] at hst k1 k2 k3 k4 k5 k6;have hbel:Bel w0 w':=hc.bel.put k4 k5 k6 (by omega) (g:=fun b=>b=g) (fun b e=>e▸hbk g rfl) (fun b hb hne=>k2 b hne);have hK:Keep (Bd ρ B0) w w':=⟨by omega,fun b hb hB=>k2 b (fun e=>hB (Or.inr ⟨id,_,hgi,by rw [e];rfl⟩))⟩;have hll:(layV cur.toList (i*sz+j) vs).length=cap*sz:=by rw [layV_len (by omega),Array.length_toList,hs]
 have hW:=Core.write (v':= .slice (some ⟨g,0,none⟩) n cap) (ob':=AO.put (.row e sz n (stE i j d.cells el)) obn) (hp':=(id,AO.put (.row e sz n (stE i j d.cells el)) obn) ::s.hp) hc hgi (w':=w') (fun b hb hne=>k2 b (fun e=>hne (by rw [e];rfl))) (by omega) hbel
  (fun b hb=>Or.inl hb) (fun k ob hk hne=>by rw [lk_cons,if_neg (fun e=>hne e.symm)];exact hk) (by rw [lk_cons,if_pos rfl]) (by
   rw [up_same hgi];refine h2n.put (new:= .row e sz n (stE i j d.cells el)) ⟨(layV cur.toList (i*sz+j) vs).take (n*sz),⟨⟨by rw [List.length_take,hll,Nat.min_eq_left (by rw [← hs,← Array.length_toList];exact hcl)],Or.inr ⟨g,cap,(layV cur.toList (i*sz+j) vs).toArray,rfl,hge,k1,hn1,hm,by simpa using hll,rfl⟩⟩,hbk⟩,fun p q hp hq=>?_⟩;have hpm:=mul hp;rw [List.getElem?_take,if_pos (by omega),layV_get (by omega)]
   by_cases hpi:p=i∧j≤q∧q < j+d.cells.length
   ·obtain ⟨rfl,h3,h4⟩:=hpi
    rw [if_neg (by omega),if_pos (by omega),show p*sz+q-(p*sz+j)=q-j by omega];obtain ⟨lf,hl'⟩:∃ lf,d.cells[q-j]?=some lf:=⟨d.cells[q-j]'(by omega),by simp⟩
    obtain ⟨c,hc',hr⟩:=hvr.get hl';refine ⟨c,hc',?_⟩;unfold stE;rw [if_pos ⟨rfl,h3,h4⟩,hl'];exact LfR.mv hK (fun _ _ hB=>hB) _ hr
   ·obtain ⟨x,hx1,hx2⟩:=hel p q hp hq
    have hx1':cur.toList[p*sz+q]?=some x:=by
     rw [← ht,List.getElem?_take,if_pos (by omega)] at hx1;exact hx1
    have hout:p*sz+q < i*sz+j∨i*sz+j+vs.length≤p*sz+q:=by
     rcases Nat.lt_trichotomy p i with hlt | rfl | hgt
     ·left
      have:(p+1)*sz≤i*sz:=Nat.mul_le_mul_right _ hlt;rw [Nat.add_mul,Nat.one_mul] at this;omega
     ·omega
     ·right
      have:(i+1)*sz≤p*sz:=Nat.mul_le_mul_right _ hgt;rw [Nat.add_mul,Nat.one_mul] at this;omega
    refine ⟨x,?_,?_⟩
    ·rcases hout with ho | ho
     ·rw [if_pos ho];exact hx1'
     ·rw [if_neg (by omega),if_neg (by omega)];exact hx1'
    ·unfold stE
     rw [if_neg hpi];exact LfR.mv hK (fun _ _ hB=>hB) _ hx2)
 rw [up_same hgi] at hW;have hrun:(execOp a.eval o).run P w= .ok .skip w':=by
  unfold execOp;rw [hop];show (do Instr.storeAt t (a.eval x) (a.eval y);pure .skip:Sem Next).run P w=_
  rw [hxe];rw [Sem.run_bind,hst];rfl
 have hs':Slots ρ (Bd ρ B0) w' s.sl a:=fun t av ht=>let ⟨u,h1,h2⟩:=hsl t av ht;⟨u,h1,AR.mv hK (fun _ _ hB=>hB) (fun _ _=>rfl) h2⟩
 exact wpl_skip (gst_ok hg hsl) hrun (k B0 w0 _ w' (den_put (s:=⟨s.n,s.sl,(id,AO.put (.row e sz n (stE i j d.cells el)) obn) ::s.hp⟩) hW.1 hn hdf hs' hd trivial))
/-- Nothing is an empty row; a slot that is not needed says that it is there. -/
theorem wkNew(t id:Nat){e:TypeId}{sz:Nat}(el:Nat→Nat→Lf)(ht:Nat.ble (t+1) s.n=true)(h:lk s.hp id=none):Wk s ⟨s.n,(t,.wit id) ::s.sl,(id,.is (.slice none 0 0) (.row e sz 0 el)) ::s.hp⟩:=by
 rintro B0 w0 a w ⟨ρ,hc,hn,hdf,hs⟩;have ht':t < s.n:=Nat.le_of_ble_eq_true ht;have hρ:ρ id=none:=by
  cases hq:ρ id with
  | none=>rfl
  | some v=>obtain ⟨ob,q1,_⟩:=hc.obj id v hq;rw [h] at q1;cases q1
 have hbd:∀ b,b < w.heap.size→Bd (up ρ id (.slice none 0 0)) B0 b→Bd ρ B0 b:=up_new hρ (fun b hb=>by cases hb)
 have hK:Keep (Bd ρ B0) w w:=⟨Nat.le_refl _,fun _ _ _=>rfl⟩;have hu:∀ k,k≠id→up ρ id (.slice none 0 0) k=ρ k:=fun k hk=>by unfold up;rw [if_neg hk]
 refine ⟨up ρ id (.slice none 0 0),Core.new (ob:= .is (.slice none 0 0) (.row e sz 0 el)) (hp':=(id,.is (.slice none 0 0) (.row e sz 0 el)) ::s.hp) hc hρ (Below.refl _ _) (fun b hb=>by cases hb) (fun k ob hk hne=>by rw [lk_cons,if_neg (fun e=>hne e.symm)];exact hk) (by rw [lk_cons,if_pos rfl]) ⟨rfl,[],⟨⟨by simp,Or.inl ⟨rfl,rfl⟩⟩,fun b hb=>by cases hb⟩,fun i j hi=>absurd hi (Nat.not_lt_zero _)⟩,hn,hdf,fun u av hu'=>?_⟩;rw [lk_cons] at hu';split at hu'
 ·rename_i e
  cases hu'
  subst e;exact ⟨a.tmps[t]'(by omega),by simp,.slice none 0 0,by simp [up]⟩
 ·obtain ⟨v,q1,q2⟩:=hs u av hu'
  exact ⟨v,q1,AR.new hρ (Below.refl _ _) (fun b hb=>by cases hb) q2⟩
/-- Five numbers. -/
abbrev tgc(t:Nat→Int):List Lf:= [.v (.int .i64 (t 0)),.v (.int .i64 (t 1)),.v (.int .i64 (t 2)),.v (.int .i64 (t 3)),.v (.int .i64 (t 4))]
theorem tgc_of{B:BS}{w:World}{t:Nat→Int}{v:Value}(h:DR B w (.agg (tgc t)) v):v= .agg #[.int .i64 (t 0),.int .i64 (t 1),.int .i64 (t 2),.int .i64 (t 3),.int .i64 (t 4)]:=by
 obtain ⟨cs,rfl,h⟩:=h;have hl:=h.len
 match cs,hl with
 | [a,b,c,d,e],_=>
  obtain ⟨⟨h0,_⟩,⟨h1,_⟩,⟨h2,_⟩,⟨h3,_⟩,⟨h4,_⟩,_⟩:=h;rw [h0,h1,h2,h3,h4]
theorem run_part_v{P:Program}{t:TypeId}{k:IntKind}{w:World}{cs:Array Value}{i:Nat}{v:Value}(hu:P.underlying t=some (.int k))(h:cs[i]?=some v):(part t cs i).run P w= .ok v w:=by
 simp [part,isAgg,run_underlying hu,h]
theorem run_eq5{P : Program}(w : World){t i ar : TypeId}{f0 f1 : Field}(hu : P.underlying t = some (.struct #[f0, f1]))(hst : P.stoodInHeld t = false)(hn0 : f0.name ≠ "_")(hn1 : f1.name ≠ "_")(ht0 : f0.type = i)(ht1 : f1.type = ar)(ho0 : f0.offset = 0)(ho1 : f1.offset = 1) 
  (hi:P.underlying i=some (.int .i64)) (ha:P.underlying ar=some (.array 4 i)) (hsi:∀ w,(sizeOf i).run P w= .ok 1 w) (hsa:∀ w,(sizeOf ar).run P w= .ok 4 w) (a0 a1 a2 a3 a4 b0 b1 b2 b3 b4:Int):
  (Op.equalIn 10000 t (.agg #[.int .i64 a0,.int .i64 a1,.int .i64 a2,.int .i64 a3,.int .i64 a4]) (.agg #[.int .i64 b0,.int .i64 b1,.int .i64 b2,.int .i64 b3,.int .i64 b4])).run P w= .ok (a0==b0 && (a1==b1 && (a2==b2 && (a3==b3 && a4==b4)))) w:=by
 have hf:P.fieldsOf t=#[f0,f1]:=by unfold Program.fieldsOf;rw [hu]
 have ei:∀ (d:Nat) (x y:Int) (w:World),(Op.equalIn (d+1) i (.int .i64 x) (.int .i64 y)).run P w= .ok (x==y) w:=fun d x y w=>run_equalIn_int w d i .i64 .i64 x y hi
 have pa:∀ (c0 c1 c2 c3 c4:Value) (w:World),(part ar #[c0,c1,c2,c3,c4] 1).run P w= .ok (.agg #[c1,c2,c3,c4]) w:=fun c0 c1 c2 c3 c4 w=>by
  simp [part,isAgg,run_underlying ha,hsa]
 have ea:∀ (d:Nat) (w:World),(Op.equalIn (d+2) ar (.agg #[.int .i64 a1,.int .i64 a2,.int .i64 a3,.int .i64 a4]) (.agg #[.int .i64 b1,.int .i64 b2,.int .i64 b3,.int .i64 b4])).run P w= .ok (a1==b1 && (a2==b2 && (a3==b3 && a4==b4))) w:=fun d w=>by
  have pp:∀ (cs:Array Value) (q:Nat) (v:Value) (w:World),cs[q]?=some v→(part i cs q).run P w= .ok v w:=fun cs q v w h=>run_part_v hi h
  have h4: [0:4]=({stop:=4,step_pos:=Nat.one_pos}:Std.Legacy.Range):=rfl;rw [Op.equalIn];simp only [Sem.run_bind,run_underlying ha,Result.andThen_ok,hsi];simp [Std.Legacy.Range.forIn_eq_forIn_range',List.range',ei,run_part_v hi,Sem.run_bind];cases e1:a1==b1 <;> cases e2:a2==b2 <;> cases e3:a3==b3 <;> cases e4:a4==b4 <;> simp_all [Sem.run_bind]
 rw [run_equalIn_agg w 9999 t _ _ (by rw [hf];exact hu) hst,hf];subst ht0;subst ht1;have p0:∀ (c0 c1 c2 c3 c4:Value) (w:World),(part f0.type #[c0,c1,c2,c3,c4] 0).run P w= .ok c0 w:=fun c0 c1 c2 c3 c4 w=>run_part_v hi (by simp)
 simp only [Op.eqFields,if_pos hn0,if_pos hn1,ho0,ho1,Sem.run_bind,p0,Result.andThen_ok,ei 9998,pa,ea 9997];cases e0:a0==b0
 ·simp
 ·simp only [Bool.not_true,Bool.false_eq_true,if_false,Sem.run_bind,pa,Result.andThen_ok,ea 9997,Bool.true_and]
  cases a1==b1 && (a2==b2 && (a3==b3 && a4==b4)) <;> simp
def b5(a b:Nat→Int):Bool:=a 0==b 0 && (a 1==b 1 && (a 2==b 2 && (a 3==b 3 && a 4==b 4)))
theorem xT5{t i ar:TypeId}{f0 f1:Field}{x y:Operand}{op:BinOp}{yt:TypeId}{a b:Nat→Int}(r:Bool)(hop:o.op= .binOp op t x y yt)(hr:(op= .neq∧r= !b5 a b)∨(op= .eql∧r=b5 a b))(hx:geto s x=some (.d (.agg (tgc a))))(hy:geto s y=some (.d (.agg (tgc b))))(hm:P.eqGuardType P.depth t=false) 
  (hu : P.underlying t = some (.struct #[f0, f1])) (hst : P.stoodInHeld t = false) (hn0 : f0.name ≠ "_") (hn1 : f1.name ≠ "_") (ht0 : f0.type = i) (ht1 : f1.type = ar) (ho0 : f0.offset = 0) (ho1 : f1.offset = 1)
  (hi:P.underlying i=some (.int .i64)) (ha:P.underlying ar=some (.array 4 i)) (hsi:∀ w,(sizeOf i).run P w= .ok 1 w) (hsa:∀ w,(sizeOf ar).run P w= .ok 4 w):EvX P s o (.d (.one (.v (.bool r)))):=by
 intro ρ B w ac ho;have e1:=tgc_of (show DR B w (.agg (tgc a)) (ac.eval x) from ho x (by rw [hop];simp [Op.operands]) _ hx);have e2:=tgc_of (show DR B w (.agg (tgc b)) (ac.eval y) from ho y (by rw [hop];simp [Op.operands]) _ hy);have h5:=fun w=>run_eq5 (P:=P) w hu hst hn0 hn1 ht0 ht1 ho0 ho1 hi ha hsi hsa (a 0) (a 1) (a 2) (a 3) (a 4) (b 0) (b 1) (b 2) (b 3) (b 4)
 refine ⟨.bool r,?_,rfl,rfl⟩;unfold execOp;rw [hop];refine run_value ?_;rw [e1,e2];simp only [Sem.run_bind,run_eqGuard_agg w op t x y _ _ hm,Result.andThen_ok];rcases hr with ⟨rfl,rfl⟩ | ⟨rfl,rfl⟩
 ·rw [run_neq_struct,h5];rfl
 ·rw [run_eql_struct,h5];rfl
theorem run_ixA{w:World}{t elem:TypeId}{len i sz:Nat}{k:IntKind}{ad:Addr}(hu:P.underlying t=some (.array len elem))(hs:∀ w,(sizeOf elem).run P w= .ok sz w)(h:i < len):(Instr.indexAt t (.pointer (some ad)) (.int k ((i:Nat):Int))).run P w= .ok (.pointer (some (ad.add (i*sz)))) w:=by
 have hz:0≤((i:Nat):Int)∧((i:Nat):Int) < (len:Int):=⟨by omega,by omega⟩;simp [Instr.indexAt,asIntOf,Sem.run_bind,run_underlying hu,Instr.sureAddr,hz,hs,h]
/-- An array's element, in an object. -/
theorem xIxP{t elem:TypeId}{len i sz id off:Nat}{x ix:Operand}{k:IntKind}(hop:o.op= .indexAddr t x ix)(hu:P.underlying t=some (.array len elem))(hs:∀ w,(sizeOf elem).run P w= .ok sz w)(hx:geto s x=some (.ptr id off))(hi:geto s ix=some (.d (.one (.v (.int k ((i:Nat):Int))))))(h:i < len):EvX P s o (.ptr id (off+i*sz)):=by
 intro ρ B w a ho;obtain ⟨g,h1,e1⟩:AR ρ B w (.ptr id off) (a.eval x):=ho x (by rw [hop];simp [Op.operands]) _ hx;have e2:a.eval ix= .int k ((i:Nat):Int):=(ho ix (by rw [hop];simp [Op.operands]) _ hi:LfR _ _ _ _).1;refine ⟨_,?_,g,h1,rfl⟩;unfold execOp;rw [hop];refine run_value ?_;rw [e1,e2,run_ixA hu hs h,add_lit]
/-- .. of cells that nobody writes. -/
theorem xIxD{t elem:TypeId}{len i sz n:Nat}{cs:Nat→Lf}{x ix:Operand}{k:IntKind}(hop:o.op= .indexAddr t x ix)(hu:P.underlying t=some (.array len elem))(hs:∀ w,(sizeOf elem).run P w= .ok sz w)(hx:geto s x=some (.d (.one (.at n cs))))(hi:geto s ix=some (.d (.one (.v (.int k ((i:Nat):Int))))))(h:i < len)(hn:i*sz≤n):EvX P s o (.d (.one (.at (n-i*sz) fun q=>cs (i*sz+q)))):=by
 intro ρ B w a ho;have h1:LfR B w (.at n cs) (a.eval x):=ho x (by rw [hop];simp [Op.operands]) _ hx;have e2:a.eval ix= .int k ((i:Nat):Int):=(ho ix (by rw [hop];simp [Op.operands]) _ hi:LfR _ _ _ _).1;obtain ⟨b,of,e1,hb,hlt,hc⟩:=h1;refine ⟨.pointer (some ⟨b,of+i*sz,none⟩),?_,b,of+i*sz,rfl,hb,hlt,fun j hj=>by rw [Nat.add_assoc];exact hc _ (by omega)⟩;unfold execOp;rw [hop];refine run_value ?_;rw [e1,e2,run_ixA hu hs h,add_lit]
end
/-- An event's cells; those of a heap's row of events, of its tree, of a row of events. -/
abbrev evc(e:ET):List Lf:=tgc e.1 ++alc 4 e.2.1 1200 e.2.2.1 1200 e.2.2.2
def itl(ev:Nat→ET)(pl:Nat→Nat):Nat→Nat→Lf:=fun i j=>((evc (ev i) ++ [.v (.int .i64 ((pl i:Nat):Int))])[j]?).getD (.v undef)
def trl(tr:Nat→Nat):Nat→Nat→Lf:=fun i _=> .v (.int .i64 ((tr i:Nat):Int))
def evl(ev:Nat→ET):Nat→Nat→Lf:=fun i j=>((evc (ev i))[j]?).getD (.v undef)
/-- An event that is as it is to be. -/
structure HE(e:ET):Prop where
 v:OkV e.2.1 e.2.2.1 e.2.2.2
 l5:lg e.2.1≤5
theorem HE.z{e:ET}(h:HE e):z20 e.2.1:=h.v.ok.z
theorem HE.cut{e:ET}(h:HE e):IsCut (evC e):=h.v.ok.cut
theorem hL_ok{ev:Nat→ET}(h:∀ i,HE (ev i))(n:Nat):LO (hL ev) n:=hL_lo fun i _=>(h i).cut
/-- A function, at one place another. -/
def updH{α:Type}(f:Nat→α)(i:Nat)(x:α):Nat→α:=fun p=>if p=i then x else f p
theorem updH_all{α:Type}{q:α→Prop}{f:Nat→α}{i:Nat}{x:α}(h:∀ i,q (f i))(hx:q x)(j:Nat):q (updH f i x j):=by
 unfold updH;split
 ·exact hx
 ·exact h j
theorem leo_nm{x:Value}{a b:AO}(h:AO.le a b):AO.le (.is x a) (.is x b):=fun _ _ _ _ k=>⟨k.1,h _ _ _ _ k.2⟩
theorem evc_len(e:ET):(evc e).length=14:=rfl
theorem itl_ev{ev:Nat→ET}{pl:Nat→Nat}{i j:Nat}(h:j < 14):itl ev pl i j=((evc (ev i))[j]?).getD (.v undef):=by
 unfold itl;rw [List.getElem?_append_left (by rw [evc_len];exact h)]
theorem itl_pl{ev:Nat→ET}{pl:Nat→Nat}{i:Nat}:itl ev pl i 14= .v (.int .i64 ((pl i:Nat):Int)):=rfl
theorem leo_trl{e:TypeId}{m k h:Nat}{z:Int}{tr:Nat→Nat}(hz:z=((h:Nat):Int)):AO.le (.row e 1 m (fun p' q'=>if p'=k then (([.v (.int .i64 z)]:List Lf)[q']?).getD (.v undef) else trl tr p' q')) (.row e 1 m (trl (fun i=>if i=k then h else tr i))):=leo_row fun i hi j hj B w v hv=>by
 subst hz;obtain rfl:j=0:=by omega
 unfold trl at hv ⊢;show LfR B w (.v (.int .i64 ((if i=k then h else tr i:Nat):Int))) v
 by_cases e:i=k
 ·rw [if_pos e] at hv ⊢;exact hv
 ·rw [if_neg e] at hv ⊢;exact hv
theorem leo_itp{e:TypeId}{n i v:Nat}{z:Int}{ev:Nat→ET}{pl:Nat→Nat}(hz:z=((v:Nat):Int)):AO.le (.row e 15 n (stE i 14 [.v (.int .i64 z)] (itl ev pl))) (.row e 15 n (itl ev (fun p=>if p=i then v else pl p))):=leo_row fun p hp j hj B w c hc=>by
 subst hz;unfold stE at hc
 by_cases h14:j=14
 ·subst h14
  rw [itl_pl]
  by_cases e:p=i
  ·rw [if_pos ⟨e,Nat.le_refl _,Nat.lt_succ_self _⟩] at hc
   rw [if_pos e];exact hc
  ·rw [if_neg (fun q=>e q.1),itl_pl] at hc
   rw [if_neg e];exact hc
 ·rw [if_neg (fun q=>by omega),itl_ev (by omega)] at hc
  rw [itl_ev (by omega)];exact hc
theorem leo_ite{e:TypeId}{n i:Nat}{ev:Nat→ET}{pl:Nat→Nat}{a:AT}:AO.le (.row e 15 n (stE i 5 (alc 4 a.1 1200 a.2.1 1200 a.2.2) (itl ev pl))) (.row e 15 n (itl (updH ev i ((ev i).1,a)) pl)):=leo_row fun p hp j hj B w c hc=>by
 unfold stE at hc;have hlen:(alc 4 a.1 1200 a.2.1 1200 a.2.2).length=9:=rfl;rw [hlen] at hc
 by_cases h14:j=14
 ·subst h14
  rw [if_neg (fun q=>by omega)] at hc;exact hc
 rw [itl_ev (by omega)];unfold updH
 by_cases e:p=i
 ·rw [if_pos e]
  by_cases h5:5≤j
  ·rw [if_pos ⟨e,h5,by omega⟩] at hc
   rw [List.getElem?_append_right (by simpa using h5)];exact hc
  ·rw [if_neg (fun q=>h5 q.2.1),itl_ev (by omega),e,List.getElem?_append_left (by simp;omega)] at hc
   rw [List.getElem?_append_left (by simp;omega)];exact hc
 ·rw [if_neg e]
  rw [if_neg (fun q=>e q.1),itl_ev (by omega)] at hc;exact hc
theorem app_at{n p j:Nat}{el el2:Nat→Nat→Lf}(h:p < n+1):appEl n el el2 p j=if p=n then el2 0 j else el p j:=by
 unfold appEl
 by_cases e:p=n
 ·rw [if_pos e,e,show Nat.ble (n+1) n=false from by rw [← Bool.not_eq_true,Nat.ble_eq];omega,Nat.sub_self];rfl
 ·rw [if_neg e,show Nat.ble (p+1) n=true from Nat.ble_eq_true_of_le (by omega)];rfl
theorem leo_iap{t:TypeId}{n:Nat}{ev:Nat→ET}{pl:Nat→Nat}{e:ET}{el2:Nat→Nat→Lf}(h2:∀ j,j < 15→el2 0 j=((evc e ++ [.v (.int .i64 0)])[j]?).getD (.v undef)):AO.le (.row t 15 (n+1) (appEl n (itl ev pl) el2)) (.row t 15 (n+1) (itl (updH ev n e) (updH pl n 0))):=leo_row fun p hp j hj B w c hc=>by
 rw [app_at hp] at hc;unfold itl updH
 by_cases h:p=n
 ·rw [if_pos h,h2 j hj] at hc
  rw [if_pos h,if_pos h];exact hc
 ·rw [if_neg h] at hc
  rw [if_neg h,if_neg h];exact hc
theorem leo_tap{t:TypeId}{n h:Nat}{tr:Nat→Nat}{el2:Nat→Nat→Lf}(h2:el2 0 0= .v (.int .i64 ((h:Nat):Int))):AO.le (.row t 1 (n+1) (appEl n (trl tr) el2)) (.row t 1 (n+1) (trl (updH tr n h))):=leo_row fun p hp j hj B w c hc=>by
 obtain rfl:j=0:=by omega
 rw [app_at hp] at hc;unfold trl updH
 by_cases h:p=n
 ·rw [if_pos h,h2] at hc
  rw [if_pos h];exact hc
 ·rw [if_neg h] at hc
  rw [if_neg h];exact hc
theorem leo_eap{t:TypeId}{n:Nat}{ev:Nat→ET}{e:ET}{el2:Nat→Nat→Lf}(h2:∀ j,j < 14→el2 0 j=((evc e)[j]?).getD (.v undef)):AO.le (.row t 14 (n+1) (appEl n (evl ev) el2)) (.row t 14 (n+1) (evl (updH ev n e))):=leo_row fun p hp j hj B w c hc=>by
 rw [app_at hp] at hc;unfold evl updH
 by_cases h:p=n
 ·rw [if_pos h,h2 j hj] at hc
  rw [if_pos h];exact hc
 ·rw [if_neg h] at hc
  rw [if_neg h];exact hc
theorem elg_1{K L:Nat}{c:Nat→Int}{lo hi:Rat}:AV.le (.d (.one (.row 9 1 (fun i' j'=>(([prow K (lg c) c] ++tn L lo ++tn L hi)[i'*9+j']?).getD (.v undef))))) (.d (.one (.row 9 1 (elg K L [(c,lo,hi)])))):=le_one (row_le fun i hi' j hj B w v hv=>by
 obtain rfl:i=0:=by omega
 rw [Nat.zero_mul,Nat.zero_add] at hv;exact hv)
/-! ### Tags -/
theorem tgL_at{t u:Nat→Int}{i:Nat}(hi:i < 5)(he:∀ j,j < i→t j=u j)(hn:t i≠u i):tgL t u↔t i < u i:=by
 refine ⟨fun ⟨j,h1,h2,h3⟩=>?_,fun h=>⟨i,hi,he,h⟩⟩;rcases Nat.lt_trichotomy i j with e | rfl | e
 ·exact absurd (h2 i e) hn
 ·exact h3
 ·have:=he j e;omega
theorem tgL_no{t u:Nat→Int}(he:∀ j,j < 5→t j=u j):¬ tgL t u:=fun h=>h.ne he
theorem dec_b{p q:Prop}[Decidable q]{b:Bool}(hb:b=true↔p)(h:p↔q):decide q=b:=by
 rw [Bool.eq_iff_iff,decide_eq_true_iff];exact h.symm.trans hb.symm
theorem b5_iff{a b:Nat→Int}:b5 a b=true↔tgE a b:=by
 unfold b5 tgE;simp only [Bool.and_eq_true,beq_iff_eq];refine ⟨fun ⟨h0,h1,h2,h3,h4⟩ j hj=>?_,fun h=>⟨h 0 (by decide),h 1 (by decide),h 2 (by decide),h 3 (by decide),h 4 (by decide)⟩⟩;have:j=0∨j=1∨j=2∨j=3∨j=4:=by omega
 rcases this with rfl | rfl | rfl | rfl | rfl <;> assumption
section
variable {lt:Nat→Nat→Prop} {S T:HS} {k j h:Nat} {d:Bool}
/-- On the way up, down. -/
structure UpI(lt:Nat→Nat→Prop)(S:HS)(k:Nat)(d:Bool)(T:HS)(j:Nat):Prop where
 sam:Sam S T
 jm:j < T.m
 fr:(T=S∧j=k∧Fr lt S k true d)∨Fr lt T j true false
structure UpQ(lt:Nat→Nat→Prop)(S:HS)(k:Nat)(d:Bool)(T:HS):Prop where
 sam:Sam S T
 fr:(T=S∧Fr lt S k false d)∨Hp lt T
structure DnI(lt:Nat→Nat→Prop)(S T:HS)(j:Nat):Prop where
 sam:Sam S T
 jm:j < T.m
 fr:Fr lt T j false true
theorem UpI.start(h:Fr lt S k true d)(hk:k < S.m):UpI lt S k d S k:=⟨.rfl' S,hk,Or.inl ⟨rfl,rfl,h⟩⟩
theorem UpI.f(h:UpI lt S k d T j):∃ d',Fr lt T j true d':=by
 obtain ⟨_,_,⟨rfl,rfl,h⟩ | h⟩:=h
 ·exact ⟨d,h⟩
 ·exact ⟨false,h⟩
theorem UpI.con(h:UpI lt S k d T j):Con T:=let ⟨_,h⟩:=h.f;h.con
theorem UpI.step(h:UpI lt S k d T j)(o:∀ n,LO lt n)(h0:0 < j)(hl:lt (T.tr j) (T.tr ((j-1) / 2))):UpI lt S k d (T.swp j ((j-1) / 2)) ((j-1) / 2):=by
 have hj:=h.jm;obtain ⟨_,hf⟩:=h.f;exact ⟨h.sam.trans (.swp h.con hj (by omega)),show (j-1) / 2 < T.m by omega,Or.inr (hf.up (o _) hj h0 hl)⟩
theorem UpI.fin(h:UpI lt S k d T j)(o:∀ n,LO lt n)(hl:j=0∨¬ lt (T.tr j) (T.tr ((j-1) / 2))):UpQ lt S k d T:=by
 obtain ⟨h1,h2,⟨rfl,rfl,h⟩ | h⟩:=h
 ·exact ⟨h1,Or.inl ⟨rfl,h.upE hl⟩⟩
 ·exact ⟨h1,Or.inr ((h.upE hl).hp (o _))⟩
theorem DnI.start(h:Fr lt S k false true)(hk:k < S.m):DnI lt S S k:=⟨.rfl' S,hk,h⟩
theorem DnI.step{c:Nat}(h:DnI lt S T j)(o:∀ n,LO lt n)(hc:c < T.m)(h0:0 < c)(hp:(c-1) / 2=j)(hl:lt (T.tr c) (T.tr j))(hb:∀ i,0 < i→i < T.m→(i-1) / 2=j→¬ lt (T.tr i) (T.tr c)):DnI lt S (T.swp j c) c:=
 ⟨h.sam.trans (.swp h.fr.con h.jm hc),hc,h.fr.dn (o _) hc h0 hp hl hb⟩
theorem DnI.fin{c:Nat}(h:DnI lt S T j)(o:∀ n,LO lt n)(hc:c < T.m)(hl:¬ lt (T.tr c) (T.tr j))(hb:∀ i,0 < i→i < T.m→(i-1) / 2=j→¬ lt (T.tr i) (T.tr c)):Sam S T∧Hp lt T:=
 ⟨h.sam,(h.fr.dnE fun i h1 h2 h3=>h.fr.con.tra (o _) h.jm hc h2 hl (hb i h1 h2 h3)).hp (o _)⟩
theorem DnI.leaf(h:DnI lt S T j)(o:∀ n,LO lt n)(hm:T.m≤2*j+1):Sam S T∧Hp lt T:=
 ⟨h.sam,(h.fr.dnE fun i h1 h2 h3=>by omega).hp (o _)⟩
theorem DnI.one(h:DnI lt S T j)(o:∀ n,LO lt n)(hm:2*j+1 < T.m)(h2:2*j+1+1 < T.m→¬ lt (T.tr (2*j+1+1)) (T.tr (2*j+1))):∀ i,0 < i→i < T.m→(i-1) / 2=j→¬ lt (T.tr i) (T.tr (2*j+1)):=fun i i1 i2 i3=>by
 by_cases e:i=2*j+1
 ·subst e;exact fun q=>h.fr.con.as (o _) hm hm q q
 ·obtain rfl:i=2*j+1+1:=by omega
  exact h2 i2
theorem DnI.two(h:DnI lt S T j)(o:∀ n,LO lt n)(hm:2*j+1+1 < T.m)(hl:lt (T.tr (2*j+1+1)) (T.tr (2*j+1))):∀ i,0 < i→i < T.m→(i-1) / 2=j→¬ lt (T.tr i) (T.tr (2*j+1+1)):=fun i i1 i2 i3=>by
 by_cases e:i=2*j+1
 ·subst e;exact h.fr.con.as (o _) hm i2 hl
 ·obtain rfl:i=2*j+1+1:=by omega
  exact fun q=>h.fr.con.as (o _) hm hm q q
end
section
variable {ev:Nat→ET} {S T:HS} {h k:Nat}
theorem hL_upd{i a b:Nat}{e:ET}(ha:a-1≠i)(hb:b-1≠i):hL (updH ev i e) a b↔hL ev a b:=by unfold hL updH;rw [if_neg ha,if_neg hb]
/-- One more. -/
def HS.psh(S:HS):HS:=HS.lay ⟨S.n+1,updH S.pl S.n 0,S.m+1,updH S.tr S.m 0⟩ S.m (S.n+1)
theorem psh_tr(i:Nat):S.psh.tr i=if i=S.m then S.n+1 else S.tr i:=by
 show (if i=S.m then S.n+1 else updH S.tr S.m 0 i)=_
 unfold updH;split
 ·rfl
 ·rfl
theorem psh_pl(i:Nat):S.psh.pl i=if i=S.n then S.m+1 else S.pl i:=by
 show (if i=S.n+1-1 then S.m+1 else updH S.pl S.n 0 i)=_
 unfold updH;rw [Nat.add_sub_cancel];split
 ·rfl
 ·rfl
theorem psh_con(c:Con S):Con S.psh:=by
 refine ⟨fun i hi=>?_,fun i hi=>?_⟩
 ·replace hi:i < S.m+1:=hi
  show S.psh.tr i≠0∧S.psh.tr i≤S.n+1∧_
  rw [psh_tr,psh_pl]
  by_cases e:i=S.m
  ·rw [if_pos e,if_pos (Nat.add_sub_cancel ..),e];exact ⟨by omega,Nat.le_refl _,rfl⟩
  ·obtain ⟨h1,h2,h3⟩:=c.tr i (by omega)
   rw [if_neg e,if_neg (by omega)];exact ⟨h1,by omega,h3⟩
 ·replace hi:i < S.n+1:=hi
  show _∨(_≤S.m+1∧_)
  rw [psh_tr,psh_pl]
  by_cases e:i=S.n
  ·rw [if_pos e,Nat.add_sub_cancel,if_pos rfl];exact Or.inr ⟨Nat.le_refl _,by omega⟩
  ·rw [if_neg e]
   rcases c.pl i (by omega) with h | ⟨h1,h2⟩
   ·exact Or.inl h
   ·by_cases h0:S.pl i=0
    ·exact Or.inl h0
    ·exact Or.inr ⟨by omega,by rw [if_neg (by omega)];exact h2⟩
theorem psh_fr(hp:Hp (hL ev) S)(e:ET):Fr (hL (updH ev S.n e)) S.psh S.m true true:=by
 have c:=hp.con;refine ⟨psh_con c,fun i h1 h2 h3 h4=>?_,fun i h1 h2 h3 h4=>?_⟩
 ·replace h2:i < S.m+1:=h2
  have e1:i≠S.m:=fun e=>by cases h3 e
  rw [psh_tr,psh_tr,if_neg e1,if_neg (by omega)];obtain ⟨a1,a2,_⟩:=c.tr i (by omega);obtain ⟨b1,b2,_⟩:=c.tr ((i-1) / 2) (by omega);rw [hL_upd (by omega) (by omega)];exact hp.a i h1 (by omega) (fun _=>rfl) (fun _=>rfl)
 ·replace h2:i < S.m+1:=h2
  omega
structure PshR(S S':HS):Prop where
 n:S'.n=S.n+1
 m:S'.m=S.m+1
 pl:∀ i,i < S.n→(S'.pl i=0↔S.pl i=0)
 pn:S'.pl S.n≠0
theorem psh_ok{e:ET}(hE:∀ i,HE (updH ev S.n e i))(h:UpQ (hL (updH ev S.n e)) S.psh S.m true T):Hp (hL (updH ev S.n e)) T∧PshR S T:=by
 have o:=hL_ok hE;refine ⟨?_,h.sam.n,h.sam.m,fun i hi=>(h.sam.pl i (show i < S.n+1 by omega)).trans ?_,fun q=>?_⟩
 ·rcases h.fr with ⟨rfl,f⟩ | f
  ·exact (f.dnE fun i h1 h2 h3=>by have:i < S.m+1:=h2;omega).hp (o _)
  ·exact f
 ·rw [psh_pl,if_neg (by omega)]
 ·have:=(h.sam.pl S.n (Nat.lt_succ_self _)).1 q
  rw [psh_pl,if_pos rfl] at this;omega
/-- One less: handle h, at its place. -/
def HS.cut(S:HS)(h:Nat):HS:=⟨S.n,fun p=>if p=h-1 then 0 else S.pl p,S.m-1,S.tr⟩
structure DrpR(S:HS)(h:Nat)(S':HS):Prop where
 n:S'.n=S.n
 m:S'.m+1=S.m
 pl:∀ i,i < S.n→(S'.pl i=0↔S.pl i=0∨i=h-1)
/-- A handle that is there. -/
structure InH(S:HS)(h:Nat):Prop where
 h0:h≠0
 hn:h≤S.n
 pl:S.pl (h-1)≠0
theorem InH.at(c:Con S)(h':InH S h):S.pl (h-1)≤S.m∧S.tr (S.pl (h-1)-1)=h:=by
 have:=h'.h0;have:=h'.hn;rcases c.pl (h-1) (by omega) with q | ⟨q1,q2⟩
 ·exact absurd q h'.pl
 ·exact ⟨q1,by omega⟩
theorem Con.in(c:Con S)(hk:k < S.m):InH S (S.tr k):=let ⟨h1,h2,h3⟩:=c.tr k hk;⟨h1,h2,by omega⟩
theorem cut_last(c:Con S)(i':InH S h)(hk:S.pl (h-1)=S.m)(hp:Hp (hL ev) S):Hp (hL ev) (S.cut h)∧DrpR S h (S.cut h):=by
 obtain ⟨_,h2⟩:=i'.at c;have:=i'.h0;have hm:=i'.pl;have hne:∀ i,i < S.m-1→S.tr i-1≠h-1:=fun i hi q=>by
  have:=(c.tr i (by omega)).2.2;rw [q] at this;omega
 refine ⟨⟨⟨fun i hi=>?_,fun i hi=>?_⟩,fun i h1 h2 _ _=>hp.a i h1 (by have:i < S.m-1:=h2;omega) (fun _=>rfl) (fun _=>rfl),fun i h1 h2 h3 h4=>absurd h4 (Nat.lt_irrefl _)⟩,rfl,by show S.m-1+1=S.m;omega,fun i hi=>?_⟩
 ·replace hi:i < S.m-1:=hi
  obtain ⟨q1,q2,q3⟩:=c.tr i (by omega);exact ⟨q1,q2,by show (if S.tr i-1=h-1 then 0 else S.pl (S.tr i-1))=_;rw [if_neg (hne i hi)];exact q3⟩
 ·show (if _ then _ else _)=0∨((if _ then _ else _)≤S.m-1∧S.tr ((if _ then _ else _)-1)=i+1)
  by_cases e:i=h-1
  ·rw [if_pos e];exact Or.inl rfl
  ·rw [if_neg e]
   rcases c.pl i hi with q | ⟨q1,q2⟩
   ·exact Or.inl q
   ·refine Or.inr ⟨?_,q2⟩
    by_cases e2:S.pl i=S.m
    ·rw [e2,← hk,h2] at q2;omega
    ·omega
 ·show (if _ then _ else _)=0↔_
  by_cases e:i=h-1
  ·rw [if_pos e];exact ⟨fun _=>Or.inr e,fun _=>rfl⟩
  ·rw [if_neg e];exact ⟨Or.inl,fun q=>q.resolve_right e⟩
theorem cut_in(hE:∀ i,HE (ev i))(c:Con S)(i':InH S h)(hk:S.pl (h-1) < S.m)(hp:Hp (hL ev) S):Fr (hL ev) ((S.cut h).lay (S.pl (h-1)-1) (S.tr (S.m-1))) (S.pl (h-1)-1) true true:=by
 obtain ⟨_,h2⟩:=i'.at c;have h0:=i'.h0;have hm:=i'.pl;generalize hke:S.pl (h-1)-1=k at *
 have hkm:S.pl (h-1)=k+1:=by omega
 have hne:∀ i,i < S.m→i≠k→S.tr i-1≠h-1:=fun i hi q q'=>by
  have:=(c.tr i hi).2.2;rw [q',hkm] at this;omega
 obtain ⟨l1,l2,l3⟩:=c.tr (S.m-1) (by omega);have tr':∀ i,((S.cut h).lay k (S.tr (S.m-1))).tr i=if i=k then S.tr (S.m-1) else S.tr i:=fun i=>rfl
 have pl':∀ i,((S.cut h).lay k (S.tr (S.m-1))).pl i=if i=S.tr (S.m-1)-1 then k+1 else if i=h-1 then 0 else S.pl i:=fun i=>rfl
 refine ⟨⟨fun i hi=>?_,fun i hi=>?_⟩,fun i i1 i2 i3 i4=>?_,fun i i1 i2 i3 i4=>?_⟩
 ·replace hi:i < S.m-1:=hi
  show _∧_≤S.n∧_
  rw [tr',pl']
  by_cases e:i=k
  ·rw [if_pos e,if_pos rfl,e];exact ⟨l1,l2,rfl⟩
  ·obtain ⟨q1,q2,q3⟩:=c.tr i (by omega)
   rw [if_neg e,if_neg (c.ne (by omega) (by omega) (by omega)),if_neg (hne i (by omega) e)];exact ⟨q1,q2,q3⟩
 ·show _∨(_≤S.m-1∧_)
  rw [tr',pl']
  by_cases e:i=S.tr (S.m-1)-1
  ·rw [if_pos e,Nat.add_sub_cancel,if_pos rfl];exact Or.inr ⟨by omega,by omega⟩
  rw [if_neg e]
  by_cases e2:i=h-1
  ·rw [if_pos e2];exact Or.inl rfl
  rw [if_neg e2];rcases c.pl i hi with q | ⟨q1,q2⟩
  ·exact Or.inl q
  ·by_cases z:S.pl i=0
   ·exact Or.inl z
   have n1:S.pl i-1≠k:=fun q=>by rw [q,h2] at q2;omega
   have n2:S.pl i-1≠S.m-1:=fun q=>by rw [q] at q2;omega
   rw [if_neg n1];exact Or.inr ⟨by omega,q2⟩
 ·replace i2:i < S.m-1:=i2
  have e1:i≠k:=fun e=>by cases i3 e
  have e2:(i-1) / 2≠k:=fun e=>by cases i4 e
  rw [tr',tr',if_neg e1,if_neg e2];exact hp.a i i1 (by omega) (fun _=>rfl) (fun _=>rfl)
 ·replace i2:i < S.m-1:=i2
  rw [tr',tr',if_neg (by omega),if_neg (by omega)];have q1:=hp.a i i1 (by omega) (fun _=>rfl) (fun _=>rfl);rw [i3] at q1;have q2:=hp.a k i4 (by omega) (fun _=>rfl) (fun _=>rfl);exact c.tra (hL_ok hE _) (by omega) (j:=k) (by omega) (by omega) q2 q1
theorem cut_ok(hE:∀ i,HE (ev i))(c:Con S)(i':InH S h){U:HS}(hk:S.pl (h-1) < S.m)(h1:Sam ((S.cut h).lay (S.pl (h-1)-1) (S.tr (S.m-1))) U):DrpR S h U:=by
 have hm:=i'.pl;have h0:=i'.h0;obtain ⟨_,h2⟩:=i'.at c;obtain ⟨l1,l2,l3⟩:=c.tr (S.m-1) (by omega);refine ⟨h1.n,by rw [h1.m];show S.m-1+1=S.m;omega,fun i hi=>(h1.pl i hi).trans ?_⟩;show (if i=S.tr (S.m-1)-1 then S.pl (h-1)-1+1 else if i=h-1 then 0 else S.pl i)=0↔_
 by_cases e:i=S.tr (S.m-1)-1
 ·rw [if_pos e]
  refine ⟨fun q=>by omega,fun q=>?_⟩;rw [e] at q;rcases q with q | q
  ·omega
  ·rw [q] at l3;omega
 ·rw [if_neg e]
  by_cases e2:i=h-1
  ·rw [if_pos e2];exact ⟨fun _=>Or.inr e2,fun _=>rfl⟩
  ·rw [if_neg e2];exact ⟨Or.inl,fun q=>q.resolve_right e2⟩
/-- Another event at a handle. -/
theorem set_fr(hE:∀ i,HE (ev i))(i':InH S h)(hp:Hp (hL ev) S)(e:ET):Fr (hL (updH ev (h-1) e)) S (S.pl (h-1)-1) true true:=by
 have c:=hp.con;obtain ⟨h1,h2⟩:=i'.at c;have hm:=i'.pl;generalize hke:S.pl (h-1)-1=k at *
 have hkm:k < S.m:=by omega
 have hne:∀ i,i < S.m→i≠k→S.tr i-1≠h-1:=fun i hi q=>by
  have:=c.ne hi hkm q;rwa [h2] at this
 refine ⟨c,fun i i1 i2 i3 i4=>?_,fun i i1 i2 i3 i4=>?_⟩
 ·have e1:i≠k:=fun e=>by cases i3 e
  have e2:(i-1) / 2≠k:=fun e=>by cases i4 e
  rw [hL_upd (hne i i2 e1) (hne _ (by omega) e2)];exact hp.a i i1 i2 (fun _=>rfl) (fun _=>rfl)
 ·rw [hL_upd (hne i i2 (by omega)) (hne _ (by omega) (by omega))]
  have q1:=hp.a i i1 i2 (fun _=>rfl) (fun _=>rfl);rw [i3] at q1;exact c.tra (hL_ok hE _) (by omega) (j:=k) (by omega) (by omega) (hp.a k i4 hkm (fun _=>rfl) (fun _=>rfl)) q1
theorem Sam.in(h1:Sam S T)(i':InH S h):InH T h:=⟨i'.h0,by rw [h1.n];exact i'.hn,fun q=>i'.pl ((h1.pl _ (by have:=i'.h0;have:=i'.hn;omega)).1 q)⟩
theorem set_dn(hE:∀ i,HE (ev i))(i':InH S h)(h1:UpQ (hL ev) S (S.pl (h-1)-1) true T):Fr (hL ev) T (T.pl (h-1)-1) false true:=by
 rcases h1.fr with ⟨rfl,f⟩ | f
 ·exact f
 ·exact f.any (hL_ok hE _)
/-- The first of all. -/
theorem Hp.first(hE:∀ i,HE (ev i))(hp:Hp (hL ev) S)(i':InH S h):¬ hL ev h (S.tr 0):=by
 obtain ⟨h1,h2⟩:=i'.at hp.con;have:=hp.root (hL_ok hE _) (S.pl (h-1)-1) (by have:=i'.pl;omega);rwa [h2] at this
theorem Hp.m0(hp:Hp (hL ev) S)(hm:S.m=0)(i:Nat)(hi:i < S.n):S.pl i=0:=by
 rcases hp.con.pl i hi with q | ⟨q,_⟩
 ·exact q
 ·omega
/-- What a batch takes: k handles, hs, of S; T is left. -/
structure BatI(ev:Nat→ET)(S:HS)(k:Nat)(hs:Nat→Nat)(T:HS):Prop where
 hp:Hp (hL ev) T
 n:T.n=S.n
 m:T.m+k=S.m
 mem:∀ j,j < k→InH S (hs j)
 pl:∀ i,i < S.n→(T.pl i=0↔S.pl i=0∨∃ j,j < k∧hs j-1=i)
 eq:∀ j,j < k→cmpC (evC (ev (hs j-1))) (evC (ev (hs 0-1)))=0
 up:∀ j,j+1 < k→¬ hL ev (hs (j+1)) (hs j)
 lo:∀ j h,j < k→InH T h→¬ hL ev h (hs j)
 h0:k≠0→hs 0=S.tr 0
 z:k=0→T=S
 inj:∀ i j,i < j→j < k→hs i≠hs j
theorem BatI.start(hp:Hp (hL ev) S){hs:Nat→Nat}:BatI ev S 0 hs S:=⟨hp,rfl,rfl,fun j hj=>absurd hj (Nat.not_lt_zero _),fun i hi=>⟨Or.inl,fun q=>q.resolve_right fun ⟨j,hj,_⟩=>absurd hj (Nat.not_lt_zero _)⟩,fun j hj=>absurd hj (Nat.not_lt_zero _),fun j hj=>absurd hj (Nat.not_lt_zero _),fun j h hj=>absurd hj (Nat.not_lt_zero _),fun h=>absurd rfl h,fun _=>rfl,fun i j _ hj=>absurd hj (Nat.not_lt_zero _)⟩
theorem BatI.inS{hs:Nat→Nat}(b:BatI ev S k hs T)(i':InH T h):InH S h:=⟨i'.h0,b.n▸i'.hn,fun q=>i'.pl ((b.pl _ (by have:=i'.h0;have:=i'.hn;have:=b.n;omega)).2 (Or.inl q))⟩
theorem DrpR.in{U:HS}{g:Nat}(d:DrpR T g U)(i':InH U h):InH T h∧h-1≠g-1:=by
 have hi:h-1 < T.n:=by have:=i'.h0;have:=i'.hn;have:=d.n;omega
 exact ⟨⟨i'.h0,d.n▸i'.hn,fun q=>i'.pl ((d.pl _ hi).2 (Or.inl q))⟩,fun q=>i'.pl ((d.pl _ hi).2 (Or.inr q))⟩
theorem BatI.step{hs:Nat→Nat}{U:HS}(hE:∀ i,HE (ev i))(b:BatI ev S k hs T)(hm:T.m≠0)(hk:k≠0→cmpC (evC (ev (T.tr 0-1))) (evC (ev (hs 0-1)))=0)(hp:Hp (hL ev) U)(d:DrpR T (T.tr 0) U):BatI ev S (k+1) (updH hs k (T.tr 0)) U:=by
 have i0:=b.hp.con.in (k:=0) (by omega);have u1:∀ j,j < k→updH hs k (T.tr 0) j=hs j:=fun j hj=>if_neg (by omega)
 have u2:updH hs k (T.tr 0) k=T.tr 0:=if_pos rfl;have u0:updH hs k (T.tr 0) 0=if k=0 then T.tr 0 else hs 0:=by
  unfold updH
  by_cases e:k=0
  ·rw [if_pos e.symm,if_pos e]
  ·rw [if_neg (fun q=>e q.symm),if_neg e]
 refine ⟨hp,d.n.trans b.n,by have:=d.m;have:=b.m;omega,fun j hj=>?_,fun i hi=>?_,fun j hj=>?_,fun j hj=>?_,fun j h hj i'=>?_,fun _=>?_,fun q=>absurd q (Nat.succ_ne_zero _),fun i j hij hj=>?_⟩
 ·by_cases e:j=k
  ·rw [e,u2];exact b.inS i0
  ·rw [u1 j (by omega)];exact b.mem j (by omega)
 ·refine (d.pl i (by rw [b.n];exact hi)).trans ⟨fun q=>?_,fun q=>?_⟩
  ·rcases q with q | q
   ·rcases (b.pl i hi).1 q with q | ⟨j,j1,j2⟩
    ·exact Or.inl q
    ·exact Or.inr ⟨j,by omega,by rw [u1 j j1];exact j2⟩
   ·exact Or.inr ⟨k,Nat.lt_succ_self _,by rw [u2];exact q.symm⟩
  ·rcases q with q | ⟨j,j1,j2⟩
   ·exact Or.inl ((b.pl i hi).2 (Or.inl q))
   ·by_cases e:j=k
    ·rw [e,u2] at j2;exact Or.inr j2.symm
    ·rw [u1 j (by omega)] at j2;exact Or.inl ((b.pl i hi).2 (Or.inr ⟨j,by omega,j2⟩))
 ·rw [u0]
  by_cases e:j=k
  ·rw [e,u2]
   by_cases e0:k=0
   ·rw [if_pos e0];exact cmpC_eq fun _=>Iff.rfl
   ·rw [if_neg e0];exact hk e0
  ·rw [u1 j (by omega),if_neg (by omega)];exact b.eq j (by omega)
 ·rw [u1 j (by omega)]
  by_cases e:j+1=k
  ·rw [e,u2];exact b.lo j _ (by omega) i0
  ·rw [u1 _ (by omega)];exact b.up j (by omega)
 ·obtain ⟨i1,i2⟩:=d.in i'
  by_cases e:j=k
  ·rw [e,u2];exact b.hp.first hE i1
  ·rw [u1 j (by omega)];exact b.lo j h (by omega) i1
 ·rw [u0]
  by_cases e0:k=0
  ·rw [if_pos e0,b.z e0]
  ·rw [if_neg e0];exact b.h0 e0
 ·by_cases e:j=k
  ·rw [e,u2,u1 i (by omega)]
   intro q;have i1:=b.mem i (by omega);have z:=(b.pl (hs i-1) (by have:=i1.h0;have:=i1.hn;omega)).2 (Or.inr ⟨i,by omega,rfl⟩);rw [q] at z;exact i0.pl z
  ·rw [u1 i (by omega),u1 j (by omega)];exact b.inj i j hij (by omega)
end
abbrev hpO(p x y:Value)(ev:Nat→ET)(S:HS):List (Nat×AO):= [(0,.is p (.box 81 [.v x,.v y])),(1,.is x (.row 84 15 S.n (itl ev S.pl))),(2,.is y (.row 3 1 S.m (trl S.tr)))]
theorem aCLess{t u:Nat→Int}{b:Bool}(hb:b=true↔tgL t u):ACall Tryz.prog 92 [.agg (tgc t),.agg (tgc u)] (.d (.one (.v (.bool b)))):=by
 refine aN 36 [.tmp 4] Tryz.func92 rfl<|cR<|mO rfl<|mO rfl<|mW rfl<|mT<|cSeq<|cSeq ?_
 by_cases ht0:t 0=u 0
 ·refine cReg<|mv4 rfl rfl rfl rfl<|mbF rfl (by rw [ht0];exact bne_self_eq_false _)<|mT<|cFs rfl<|cSeq<|cR<|mv3 rfl rfl rfl<|mT<|cBlock<|cLoop (ι:=Nat) (fun (i:Nat)=>⟨36,[(2,.ptr 2 0),(3,.ptr 3 0),(18,.d (.agg ([.v (.int .i64 (t 1)),.v (.int .i64 (t 2)),.v (.int .i64 (t 3)),.v (.int .i64 (t 4))]))),(19,.d (.one (.v (.int .i64 ((i:Nat):Int)))))],[(2,.box 28 (tgc t)),(3,.box 28 (tgc u))]⟩) (fun (i:Nat)=>i≤4∧∀ j,j≤i→t j=u j) (fun (i:Nat)=>4-i) 0 (⟨Nat.zero_le _,fun j hj=>by obtain rfl:j=0:=(by omega);exact ht0⟩) (wk rfl ⟨hs rfl,hs rfl,hs rfl,hs' rfl (le_int rfl),trivial⟩ ⟨ho rfl,ho rfl,trivial⟩ rfl) ?_;rintro i hI;have hi:i≤4∧∀ j,j≤i→t j=u j:=hI
  show AW _ _ _ ⟨_,_,_⟩
  refine cR<|mW rfl<|mT<|cSeq<|cCond rfl (fun hc1=>?_) (fun hc1=>?_)
  ·refine cSkip<|tN<|cSeq<|cBlock<|cSeq ?_;have hi4:i=0∨i=1∨i=2∨i=3:=by have h0:=of_decide_eq_true hc1;omega
   rcases hi4 with rfl | rfl | rfl | rfl
   ·by_cases htn:t 1=u 1
    ·exact cReg<|mW rfl<|mX (.d (.one (.v (.int .i64 (t 1))))) (xIdx (i:=0) rfl Tryz.underlying26 (hTT _ _ rfl) rfl rfl (by decide) rfl)<|mv2 rfl rfl<|mT<|cR<|mv3 rfl rfl rfl<|mX (.ptr 3 1) (xIxP (i:=0) (sz:=1) rfl Tryz.underlying26 Tryz.sizeOf3 rfl rfl (by decide))<|mW rfl<|mbF rfl (by rw [htn];exact bne_self_eq_false _)<|mT<|cF rfl<|cSkip<|bN<|tN<|cReg<|mV hTT (.d (.one (.v (.int .i64 ((0+1:Nat):Int))))) (evi (inc64 (by omega)))<|mW rfl<|mNil<|⟨(0+1),⟨by decide,fun j hj=>if q:j=1 then by rw [q];exact htn else hi.2 j (by omega)⟩,by decide,wkr rfl rfl⟩
    ·exact cReg<|mW rfl<|mX (.d (.one (.v (.int .i64 (t 1))))) (xIdx (i:=0) rfl Tryz.underlying26 (hTT _ _ rfl) rfl rfl (by decide) rfl)<|mv2 rfl rfl<|mT<|cR<|mv3 rfl rfl rfl<|mX (.ptr 3 1) (xIxP (i:=0) (sz:=1) rfl Tryz.underlying26 Tryz.sizeOf3 rfl rfl (by decide))<|mW rfl<|mbT rfl (bne_iff_ne.2 htn)<|mT<|cT rfl<|cR<|mv3 rfl rfl rfl<|mX (.ptr 3 1) (xIxP (i:=0) (sz:=1) rfl Tryz.underlying26 Tryz.sizeOf3 rfl rfl (by decide))<|mW rfl<|mV hTT (.d (.one (.v (.bool b)))) (evb (dec_b hb (tgL_at (i:=1) (by decide) (fun j hj=>hi.2 j (by omega)) htn)))<|mW rfl<|mT<|cRet<|bR<|tR<|tR<|bR<|tR<|rQ rfl (AV.le.rfl)
   ·by_cases htn:t 2=u 2
    ·exact cReg<|mW rfl<|mX (.d (.one (.v (.int .i64 (t 2))))) (xIdx (i:=1) rfl Tryz.underlying26 (hTT _ _ rfl) rfl rfl (by decide) rfl)<|mv2 rfl rfl<|mT<|cR<|mv3 rfl rfl rfl<|mX (.ptr 3 2) (xIxP (i:=1) (sz:=1) rfl Tryz.underlying26 Tryz.sizeOf3 rfl rfl (by decide))<|mW rfl<|mbF rfl (by rw [htn];exact bne_self_eq_false _)<|mT<|cF rfl<|cSkip<|bN<|tN<|cReg<|mV hTT (.d (.one (.v (.int .i64 ((1+1:Nat):Int))))) (evi (inc64 (by omega)))<|mW rfl<|mNil<|⟨(1+1),⟨by decide,fun j hj=>if q:j=2 then by rw [q];exact htn else hi.2 j (by omega)⟩,by decide,wkr rfl rfl⟩
    ·exact cReg<|mW rfl<|mX (.d (.one (.v (.int .i64 (t 2))))) (xIdx (i:=1) rfl Tryz.underlying26 (hTT _ _ rfl) rfl rfl (by decide) rfl)<|mv2 rfl rfl<|mT<|cR<|mv3 rfl rfl rfl<|mX (.ptr 3 2) (xIxP (i:=1) (sz:=1) rfl Tryz.underlying26 Tryz.sizeOf3 rfl rfl (by decide))<|mW rfl<|mbT rfl (bne_iff_ne.2 htn)<|mT<|cT rfl<|cR<|mv3 rfl rfl rfl<|mX (.ptr 3 2) (xIxP (i:=1) (sz:=1) rfl Tryz.underlying26 Tryz.sizeOf3 rfl rfl (by decide))<|mW rfl<|mV hTT (.d (.one (.v (.bool b)))) (evb (dec_b hb (tgL_at (i:=2) (by decide) (fun j hj=>hi.2 j (by omega)) htn)))<|mW rfl<|mT<|cRet<|bR<|tR<|tR<|bR<|tR<|rQ rfl (AV.le.rfl)
   ·by_cases htn:t 3=u 3
    ·exact cReg<|mW rfl<|mX (.d (.one (.v (.int .i64 (t 3))))) (xIdx (i:=2) rfl Tryz.underlying26 (hTT _ _ rfl) rfl rfl (by decide) rfl)<|mv2 rfl rfl<|mT<|cR<|mv3 rfl rfl rfl<|mX (.ptr 3 3) (xIxP (i:=2) (sz:=1) rfl Tryz.underlying26 Tryz.sizeOf3 rfl rfl (by decide))<|mW rfl<|mbF rfl (by rw [htn];exact bne_self_eq_false _)<|mT<|cF rfl<|cSkip<|bN<|tN<|cReg<|mV hTT (.d (.one (.v (.int .i64 ((2+1:Nat):Int))))) (evi (inc64 (by omega)))<|mW rfl<|mNil<|⟨(2+1),⟨by decide,fun j hj=>if q:j=3 then by rw [q];exact htn else hi.2 j (by omega)⟩,by decide,wkr rfl rfl⟩
    ·exact cReg<|mW rfl<|mX (.d (.one (.v (.int .i64 (t 3))))) (xIdx (i:=2) rfl Tryz.underlying26 (hTT _ _ rfl) rfl rfl (by decide) rfl)<|mv2 rfl rfl<|mT<|cR<|mv3 rfl rfl rfl<|mX (.ptr 3 3) (xIxP (i:=2) (sz:=1) rfl Tryz.underlying26 Tryz.sizeOf3 rfl rfl (by decide))<|mW rfl<|mbT rfl (bne_iff_ne.2 htn)<|mT<|cT rfl<|cR<|mv3 rfl rfl rfl<|mX (.ptr 3 3) (xIxP (i:=2) (sz:=1) rfl Tryz.underlying26 Tryz.sizeOf3 rfl rfl (by decide))<|mW rfl<|mV hTT (.d (.one (.v (.bool b)))) (evb (dec_b hb (tgL_at (i:=3) (by decide) (fun j hj=>hi.2 j (by omega)) htn)))<|mW rfl<|mT<|cRet<|bR<|tR<|tR<|bR<|tR<|rQ rfl (AV.le.rfl)
   ·by_cases htn:t 4=u 4
    ·exact cReg<|mW rfl<|mX (.d (.one (.v (.int .i64 (t 4))))) (xIdx (i:=3) rfl Tryz.underlying26 (hTT _ _ rfl) rfl rfl (by decide) rfl)<|mv2 rfl rfl<|mT<|cR<|mv3 rfl rfl rfl<|mX (.ptr 3 4) (xIxP (i:=3) (sz:=1) rfl Tryz.underlying26 Tryz.sizeOf3 rfl rfl (by decide))<|mW rfl<|mbF rfl (by rw [htn];exact bne_self_eq_false _)<|mT<|cF rfl<|cSkip<|bN<|tN<|cReg<|mV hTT (.d (.one (.v (.int .i64 ((3+1:Nat):Int))))) (evi (inc64 (by omega)))<|mW rfl<|mNil<|⟨(3+1),⟨by decide,fun j hj=>if q:j=4 then by rw [q];exact htn else hi.2 j (by omega)⟩,by decide,wkr rfl rfl⟩
    ·exact cReg<|mW rfl<|mX (.d (.one (.v (.int .i64 (t 4))))) (xIdx (i:=3) rfl Tryz.underlying26 (hTT _ _ rfl) rfl rfl (by decide) rfl)<|mv2 rfl rfl<|mT<|cR<|mv3 rfl rfl rfl<|mX (.ptr 3 4) (xIxP (i:=3) (sz:=1) rfl Tryz.underlying26 Tryz.sizeOf3 rfl rfl (by decide))<|mW rfl<|mbT rfl (bne_iff_ne.2 htn)<|mT<|cT rfl<|cR<|mv3 rfl rfl rfl<|mX (.ptr 3 4) (xIxP (i:=3) (sz:=1) rfl Tryz.underlying26 Tryz.sizeOf3 rfl rfl (by decide))<|mW rfl<|mV hTT (.d (.one (.v (.bool b)))) (evb (dec_b hb (tgL_at (i:=4) (by decide) (fun j hj=>hi.2 j (by omega)) htn)))<|mW rfl<|mT<|cRet<|bR<|tR<|tR<|bR<|tR<|rQ rfl (AV.le.rfl)
  ·refine cExit<|tE<|tE<|bE<|tN<|cSeq ?_;have hno:¬ tgL t u:=tgL_no fun j hj=>hi.2 j (by have h0:=of_decide_eq_false hc1;omega)
   obtain rfl:b=false:=Bool.eq_false_iff.2 (fun q=>hno (hb.1 q));exact cReg<|mW rfl<|mT<|cRet<|rQ rfl (AV.le.rfl)
 ·exact cReg<|mv4 rfl rfl rfl rfl<|mbT rfl (bne_iff_ne.2 ht0)<|mT<|cT rfl<|cR<|mv4 rfl rfl rfl rfl<|mV hTT (.d (.one (.v (.bool b)))) (evb (dec_b hb (tgL_at (i:=0) (by decide) (fun j hj=>absurd hj (Nat.not_lt_zero _)) ht0)))<|mW rfl<|mT<|cRet<|tR<|rQ rfl (AV.le.rfl)
theorem aHFresh{c:Nat→Int}{lo hi:Rat}(ho:OkV c lo hi)(hl:lg c≤5):ACall Tryz.prog 27 [.agg (alc 4 c 1200 lo 1200 hi)] (.d (.agg (alc 4 c 1200 lo 1200 hi))):=by
 exact aN 12 [.cell 2 40] Tryz.func27 rfl<|cR<|mO rfl<|mO rfl<|mT<|cR<|mW rfl<|mB hTT (.d (.one (.row 9 1 (fun i' j'=>((([.row 2 (lg c) (zel 4 c)]:List Lf) ++tn 1200 lo ++tn 1200 hi)[i'*9+j']?).getD (.v undef))))) rfl<|mY (ACall.le (dl (dle elg_1) dl0) AV.le.rfl (aLeast (K:=4) (L:=1200) (X:=20000) (KC:=50000) (N:=5) (n:=1) (As:= [(c,lo,hi)]) rfl (by decide) (by decide) (fun i hi'=>by obtain rfl:i=0:=(by omega);exact ho) (fun i hi'=>by obtain rfl:i=0:=(by omega);exact hl) (by decide) (by decide) (by decide) (by decide) (by decide))) rfl<|mv3 rfl rfl rfl<|mO rfl<|mZ rfl<|mW rfl<|mT<|cR<|mW rfl<|mZ rfl<|mT<|cRet<|rQ rfl (AV.le.rfl)
section
variable {e f:ET} {a b:Nat}
theorem evL_m(h:cmpC (evC e) (evC f)= -1):evL e f a b:=Or.inl (by omega)
theorem evL_p(h:cmpC (evC e) (evC f)=1):¬ evL e f a b:=fun q=>by rcases q with q | ⟨q,_⟩ <;> omega
theorem evL_t(h:cmpC (evC e) (evC f)=0)(ht:¬ tgE e.1 f.1):evL e f a b↔tgL e.1 f.1:=⟨fun q=>by rcases q with q | ⟨_,q | ⟨q,_⟩⟩;omega;exact q;exact absurd q ht,fun q=>Or.inr ⟨h,Or.inl q⟩⟩
theorem evL_z(h:cmpC (evC e) (evC f)=0)(ht:tgE e.1 f.1):evL e f a b↔((a:Nat):Int) < ((b:Nat):Int):=⟨fun q=>by rcases q with q | ⟨_,q | ⟨_,q⟩⟩;omega;exact absurd ht q.ne;omega,fun q=>Or.inr ⟨h,Or.inr ⟨ht,by omega⟩⟩⟩
end
theorem aHLess{pp x y:Value}{ev:Nat→ET}{S:HS}{a b:Nat}{c:Bool}(hE:∀ i,HE (ev i))(a0:a≠0)(a1:a≤S.n)(b0:b≠0)(b1:b≤S.n)(hN:S.n≤100000)(hc:c=true↔hL ev a b):ACallL Tryz.prog 57 [.ptr 0 0,.d (.one (.v (.int .i64 ((a:Nat):Int)))),.d (.one (.v (.int .i64 ((b:Nat):Int))))] (hpO pp x y ev S) [0,1,2] [0,1,2] (fun r hp=>r= .d (.one (.v (.bool c)))∧hp=(hpO pp x y ev S)):=by
 refine acallLN 49 [.tmp 6] [(3,1),(4,2)] Tryz.func57 rfl rfl rfl rfl rfl ⟨⟨Nat.le_of_ble_eq_true rfl,by decide,by decide⟩,⟨Nat.le_of_ble_eq_true rfl,by decide,by decide⟩,trivial⟩ ?_;show AW _ _ _ ⟨49,[(0,.ptr 0 0),(1,.d (.one (.v (.int .i64 ((a:Nat):Int))))),(2,.d (.one (.v (.int .i64 ((b:Nat):Int))))),(3,.wit 1),(4,.wit 2)],[(0,.is pp (.box 81 ([.v x,.v y]))),(1,.is x (.row 84 15 S.n (itl ev S.pl))),(2,.is y (.row 3 1 S.m (trl S.tr)))]⟩
 refine cR<|mW rfl<|mT<|cSeq<|cDs 22<|.cons (OpS.V _ rfl) (by kernel_rfl)<|.cons (OpS.X (.ptr 0 0) (xNilP rfl rfl)) (by kernel_rfl)<|pV rfl<|.cons (OpS.Y x 3 1 rfl rfl rfl rfl rfl) (by kernel_rfl)<|.cons (OpS.V _ rfl) (by kernel_rfl)<|.cons (OpS.V (.d (.one (.v (.int .i64 ((a-1:Nat):Int))))) (evi ((wr64 (by omega) (by omega)).trans (by omega)))) (by kernel_rfl)<|.cons (OpS.V (.eptr 1 15 (a-1) 0) (ixO (z:=((a-1:Nat):Int)) (n:=S.n) rfl rfl rfl rfl rfl rfl rfl (by omega) (by omega))) (by kernel_rfl)<|pV rfl<|pV rfl<|.cons (OpS.V _ rfl) (by kernel_rfl)<|.cons (OpS.X (.ptr 0 0) (xNilP rfl rfl)) (by kernel_rfl)<|pV rfl<|.cons (OpS.Y x 3 1 rfl rfl rfl rfl rfl) (by kernel_rfl)<|.cons (OpS.V _ rfl) (by kernel_rfl)<|.cons (OpS.V (.d (.one (.v (.int .i64 ((b-1:Nat):Int))))) (evi ((wr64 (by omega) (by omega)).trans (by omega)))) (by kernel_rfl)<|.cons (OpS.V (.eptr 1 15 (b-1) 0) (ixO (z:=((b-1:Nat):Int)) (n:=S.n) rfl rfl rfl rfl rfl rfl rfl (by omega) (by omega))) (by kernel_rfl)<|pV rfl<|pV rfl<|.cons (OpS.N (.box 54 ([.v (.int .i64 0),.v (.int .i64 0),.v (.int .i64 0),.v (.int .i64 0),.v (.int .i64 0),.v (.slice none 0 0),.v (.bool false),.v (.slice none 0 0),.v (.bool false),.v (.slice none 0 0),.v (.bool false),.v (.slice none 0 0),.v (.bool false),.v (.slice none 0 0)])) rfl 7 rfl rfl) (by kernel_rfl)<|.cons (OpS.N (.box 54 ([.v (.int .i64 0),.v (.int .i64 0),.v (.int .i64 0),.v (.int .i64 0),.v (.int .i64 0),.v (.slice none 0 0),.v (.bool false),.v (.slice none 0 0),.v (.bool false),.v (.slice none 0 0),.v (.bool false),.v (.slice none 0 0),.v (.bool false),.v (.slice none 0 0)])) rfl 8 rfl rfl) (by kernel_rfl)<|.cons (OpS.S 7 (.box 54 (evc (ev (a-1)))) rfl rfl) (by kernel_rfl)<|.cons (OpS.S 8 (.box 54 (evc (ev (b-1)))) rfl rfl) (by kernel_rfl)<|.nil<|mT<|cSeq<|cSeq ?_
 by_cases hm:(cmpC (evC (ev (a-1))) (evC (ev (b-1))))= -1
 ·obtain rfl:c=true:=hc.2 (evL_m hm);exact cReg<|mv4 rfl rfl rfl rfl<|mY (aACmp (X:=20000) (KC:=50000) (N:=5) (hE (a-1)).v (hE (b-1)).v (by decide) (hE (a-1)).l5 (hE (b-1)).l5) rfl<|mT<|cBlock<|cR<|mbT rfl (beq_iff_eq.2 hm)<|mW rfl<|mT<|cT rfl<|cR<|mW rfl<|mT<|cRet<|bR<|tR<|rL (.d (.one (.v (.bool true)))) (.d (.one (.v (.bool true)))) [(0,.is pp (.box 81 ([.v x,.v y]))),(1,.is x (.row 84 15 S.n (itl ev S.pl))),(2,.is y (.row 3 1 S.m (trl S.tr)))] [(0,.ptr 0 0),(3,.wit 1),(4,.wit 2)] ⟨rfl,rfl⟩ (resL_p rfl) (wk (sl:= [(49,.d (.one (.v (.bool true)))),(0,.ptr 0 0),(3,.wit 1),(4,.wit 2)]) (hp:= [(0,.is pp (.box 81 ([.v x,.v y]))),(1,.is x (.row 84 15 S.n (itl ev S.pl))),(2,.is y (.row 3 1 S.m (trl S.tr)))]) rfl ⟨hs rfl,hs rfl,hs rfl,hs rfl,trivial⟩ ⟨ho rfl,ho rfl,ho rfl,trivial⟩ rfl) ⟨⟨0,_,rfl,rfl⟩,⟨3,_,rfl,rfl⟩,⟨4,_,rfl,rfl⟩,trivial⟩
 ·by_cases hp1:(cmpC (evC (ev (a-1))) (evC (ev (b-1))))=1
  ·obtain rfl:c=false:=Bool.eq_false_iff.2 (fun q=>evL_p hp1 (hc.1 q));exact cReg<|mv4 rfl rfl rfl rfl<|mY (aACmp (X:=20000) (KC:=50000) (N:=5) (hE (a-1)).v (hE (b-1)).v (by decide) (hE (a-1)).l5 (hE (b-1)).l5) rfl<|mT<|cBlock<|cR<|mbF rfl (beq_eq_false_iff_ne.2 hm)<|mW rfl<|mT<|cF rfl<|cR<|mbT rfl (beq_iff_eq.2 hp1)<|mW rfl<|mT<|cT rfl<|cR<|mW rfl<|mT<|cRet<|bR<|tR<|rL (.d (.one (.v (.bool false)))) (.d (.one (.v (.bool false)))) [(0,.is pp (.box 81 ([.v x,.v y]))),(1,.is x (.row 84 15 S.n (itl ev S.pl))),(2,.is y (.row 3 1 S.m (trl S.tr)))] [(0,.ptr 0 0),(3,.wit 1),(4,.wit 2)] ⟨rfl,rfl⟩ (resL_p rfl) (wk (sl:= [(49,.d (.one (.v (.bool false)))),(0,.ptr 0 0),(3,.wit 1),(4,.wit 2)]) (hp:= [(0,.is pp (.box 81 ([.v x,.v y]))),(1,.is x (.row 84 15 S.n (itl ev S.pl))),(2,.is y (.row 3 1 S.m (trl S.tr)))]) rfl ⟨hs rfl,hs rfl,hs rfl,hs rfl,trivial⟩ ⟨ho rfl,ho rfl,ho rfl,trivial⟩ rfl) ⟨⟨0,_,rfl,rfl⟩,⟨3,_,rfl,rfl⟩,⟨4,_,rfl,rfl⟩,trivial⟩
  ·have hz:(cmpC (evC (ev (a-1))) (evC (ev (b-1))))=0:=by have:=cmpC_bd (evC (ev (a-1))) (evC (ev (b-1)));omega
   by_cases ht:tgE (ev (a-1)).1 (ev (b-1)).1
   ·exact cReg<|mv4 rfl rfl rfl rfl<|mY (aACmp (X:=20000) (KC:=50000) (N:=5) (hE (a-1)).v (hE (b-1)).v (by decide) (hE (a-1)).l5 (hE (b-1)).l5) rfl<|mT<|cBlock<|cR<|mbF rfl (beq_eq_false_iff_ne.2 hm)<|mW rfl<|mT<|cF rfl<|cR<|mbF rfl (beq_eq_false_iff_ne.2 hp1)<|mW rfl<|mT<|cF rfl<|cSkip<|bN<|tN<|cSeq<|cR<|mv4 rfl rfl rfl rfl<|mX (.d (.one (.v (.bool false)))) (xT5 false rfl (Or.inl ⟨rfl,by rw [b5_iff.2 ht];rfl⟩) rfl rfl Tryz.eqGuardType28 Tryz.underlying28 Tryz.stoodInHeld28 (by decide) (by decide) rfl rfl rfl rfl Tryz.underlying3 Tryz.underlying26 Tryz.sizeOf3 Tryz.sizeOf26)<|mT<|cFs rfl<|cR<|mv2 rfl rfl<|mV hTT (.d (.one (.v (.bool c)))) (evb (dec_b hc (evL_z hz ht)))<|mW rfl<|mT<|cRet<|rL (.d (.one (.v (.bool c)))) (.d (.one (.v (.bool c)))) [(0,.is pp (.box 81 ([.v x,.v y]))),(1,.is x (.row 84 15 S.n (itl ev S.pl))),(2,.is y (.row 3 1 S.m (trl S.tr)))] [(0,.ptr 0 0),(3,.wit 1),(4,.wit 2)] ⟨rfl,rfl⟩ (resL_p rfl) (wk (sl:= [(49,.d (.one (.v (.bool c)))),(0,.ptr 0 0),(3,.wit 1),(4,.wit 2)]) (hp:= [(0,.is pp (.box 81 ([.v x,.v y]))),(1,.is x (.row 84 15 S.n (itl ev S.pl))),(2,.is y (.row 3 1 S.m (trl S.tr)))]) rfl ⟨hs rfl,hs rfl,hs rfl,hs rfl,trivial⟩ ⟨ho rfl,ho rfl,ho rfl,trivial⟩ rfl) ⟨⟨0,_,rfl,rfl⟩,⟨3,_,rfl,rfl⟩,⟨4,_,rfl,rfl⟩,trivial⟩
   ·exact cReg<|mv4 rfl rfl rfl rfl<|mY (aACmp (X:=20000) (KC:=50000) (N:=5) (hE (a-1)).v (hE (b-1)).v (by decide) (hE (a-1)).l5 (hE (b-1)).l5) rfl<|mT<|cBlock<|cR<|mbF rfl (beq_eq_false_iff_ne.2 hm)<|mW rfl<|mT<|cF rfl<|cR<|mbF rfl (beq_eq_false_iff_ne.2 hp1)<|mW rfl<|mT<|cF rfl<|cSkip<|bN<|tN<|cSeq<|cR<|mv4 rfl rfl rfl rfl<|mX (.d (.one (.v (.bool true)))) (xT5 true rfl (Or.inl ⟨rfl,by rw [Bool.eq_false_iff.2 (fun q=>ht (b5_iff.1 q))];rfl⟩) rfl rfl Tryz.eqGuardType28 Tryz.underlying28 Tryz.stoodInHeld28 (by decide) (by decide) rfl rfl rfl rfl Tryz.underlying3 Tryz.underlying26 Tryz.sizeOf3 Tryz.sizeOf26)<|mT<|cT rfl<|cR<|mv4 rfl rfl rfl rfl<|mY (aCLess (b:=c) (hc.trans (evL_t hz ht))) rfl<|mW rfl<|mT<|cRet<|tR<|rL (.d (.one (.v (.bool c)))) (.d (.one (.v (.bool c)))) [(0,.is pp (.box 81 ([.v x,.v y]))),(1,.is x (.row 84 15 S.n (itl ev S.pl))),(2,.is y (.row 3 1 S.m (trl S.tr)))] [(0,.ptr 0 0),(3,.wit 1),(4,.wit 2)] ⟨rfl,rfl⟩ (resL_p rfl) (wk (sl:= [(49,.d (.one (.v (.bool c)))),(0,.ptr 0 0),(3,.wit 1),(4,.wit 2)]) (hp:= [(0,.is pp (.box 81 ([.v x,.v y]))),(1,.is x (.row 84 15 S.n (itl ev S.pl))),(2,.is y (.row 3 1 S.m (trl S.tr)))]) rfl ⟨hs rfl,hs rfl,hs rfl,hs rfl,trivial⟩ ⟨ho rfl,ho rfl,ho rfl,trivial⟩ rfl) ⟨⟨0,_,rfl,rfl⟩,⟨3,_,rfl,rfl⟩,⟨4,_,rfl,rfl⟩,trivial⟩
theorem aHLay{pp x y:Value}{ev:Nat→ET}{S:HS}{k h:Nat}(hk:k < S.m)(h0:h≠0)(h1:h≤S.n)(hN:S.n≤100000)(hM:S.m≤100000):ACallL Tryz.prog 28 [.ptr 0 0,.d (.one (.v (.int .i64 ((k:Nat):Int)))),.d (.one (.v (.int .i64 ((h:Nat):Int))))] (hpO pp x y ev S) [0,1,2] [0,1,2] (fun r hp=>r= .tup []∧hp=(hpO pp x y ev (S.lay k h))):=by
 have hE:True:=trivial;refine acallLN 23 [] [(3,1),(4,2)] Tryz.func28 rfl rfl rfl rfl rfl ⟨⟨Nat.le_of_ble_eq_true rfl,by decide,by decide⟩,⟨Nat.le_of_ble_eq_true rfl,by decide,by decide⟩,trivial⟩ ?_;show AW _ _ _ ⟨23,[(0,.ptr 0 0),(1,.d (.one (.v (.int .i64 ((k:Nat):Int))))),(2,.d (.one (.v (.int .i64 ((h:Nat):Int))))),(3,.wit 1),(4,.wit 2)],[(0,.is pp (.box 81 ([.v x,.v y]))),(1,.is x (.row 84 15 S.n (itl ev S.pl))),(2,.is y (.row 3 1 S.m (trl S.tr)))]⟩
 exact cR<|mW rfl<|mX (.ptr 0 0) (xNilP rfl rfl)<|mv2 rfl rfl<|AL.wk (wkRaw 9 4 2 rfl rfl rfl rfl)<|mv2 rfl rfl<|mV hTT (.eptr 2 1 k 0) (ixO (z:=((k:Nat):Int)) (n:=S.m) rfl rfl rfl rfl rfl rfl rfl (by omega) (by omega))<|mZ rfl<|mT<|cReg<|mW rfl<|mX (.ptr 0 0) (xNilP rfl rfl)<|mv2 rfl rfl<|AL.wk (wkRaw 16 3 1 rfl rfl rfl rfl)<|mW rfl<|mV hTT (.d (.one (.v (.int .i64 ((h-1:Nat):Int))))) (evi ((wr64 (by omega) (by omega)).trans (by omega)))<|mW rfl<|mV hTT (.d (.one (.v (.int .i64 ((k+1:Nat):Int))))) (evi (inc64 (by omega)))<|mV hTT (.eptr 1 15 (h-1) 0) (ixO (z:=((h-1:Nat):Int)) (n:=S.n) rfl rfl rfl rfl rfl rfl rfl (by omega) (by omega))<|mW rfl<|mSp hTT (d:= .one (.v (.int .i64 ((k+1:Nat):Int)))) 1 (i:=(h-1)) (j:=14) rfl rfl rfl rfl rfl rfl (by decide)<|mNil<|rLn (.tup []) (.tup []) [(0,.is pp (.box 81 ([.v x,.v y]))),(1,.is x (.row 84 15 ((S.lay k h).n) (itl ev (S.lay k h).pl))),(2,.is y (.row 3 1 ((S.lay k h).m) (trl (S.lay k h).tr)))] [(0,.ptr 0 0),(3,.wit 1),(4,.wit 2)] ⟨rfl,rfl⟩ (resL_d hTT rfl AV.le.rfl) (wk (sl:= [(23,.tup []),(0,.ptr 0 0),(3,.wit 1),(4,.wit 2)]) (hp:= [(0,.is pp (.box 81 ([.v x,.v y]))),(1,.is x (.row 84 15 ((S.lay k h).n) (itl ev (S.lay k h).pl))),(2,.is y (.row 3 1 ((S.lay k h).m) (trl (S.lay k h).tr)))]) rfl ⟨hs rfl,hs rfl,hs rfl,hs rfl,trivial⟩ ⟨ho rfl,ho' rfl (leo_nm (leo_itp rfl)),ho' rfl (leo_nm (leo_trl rfl)),trivial⟩ rfl) ⟨⟨0,_,rfl,rfl⟩,⟨3,_,rfl,rfl⟩,⟨4,_,rfl,rfl⟩,trivial⟩
theorem aHPlace{pp x y:Value}{ev:Nat→ET}{S:HS}{h:Nat}(h0:h≠0)(h1:h≤S.n)(hN:S.n≤100000)(hpl:S.pl (h-1)≤100000):ACallL Tryz.prog 49 [.ptr 0 0,.d (.one (.v (.int .i64 ((h:Nat):Int))))] (hpO pp x y ev S) [0,1,2] [0,1,2] (fun r hp=>r= .d (.one (.v (.int .i64 (((S.pl (h-1):Nat):Int)-1))))∧hp=(hpO pp x y ev S)):=by
 refine acallLN 26 [.tmp 4] [(2,1),(3,2)] Tryz.func49 rfl rfl rfl rfl rfl ⟨⟨Nat.le_of_ble_eq_true rfl,by decide,by decide⟩,⟨Nat.le_of_ble_eq_true rfl,by decide,by decide⟩,trivial⟩ ?_;show AW _ _ _ ⟨26,[(0,.ptr 0 0),(1,.d (.one (.v (.int .i64 ((h:Nat):Int))))),(2,.wit 1),(3,.wit 2)],[(0,.is pp (.box 81 ([.v x,.v y]))),(1,.is x (.row 84 15 S.n (itl ev S.pl))),(2,.is y (.row 3 1 S.m (trl S.tr)))]⟩
 exact cR<|mW rfl<|mT<|cSeq<|cR<|mW rfl<|mdF rfl (by omega)<|mv3 rfl rfl rfl<|mX (.ptr 0 0) (xNilP rfl rfl)<|mv2 rfl rfl<|AL.wk (wkRaw 12 2 1 rfl rfl rfl rfl)<|mW rfl<|mdF rfl (by omega)<|mW rfl<|mT<|cFs rfl<|cR<|mW rfl<|mX (.ptr 0 0) (xNilP rfl rfl)<|mv2 rfl rfl<|AL.wk (wkRaw 19 2 1 rfl rfl rfl rfl)<|mW rfl<|mV hTT (.d (.one (.v (.int .i64 ((h-1:Nat):Int))))) (evi ((wr64 (by omega) (by omega)).trans (by omega)))<|mV hTT (.eptr 1 15 (h-1) 0) (ixO (z:=((h-1:Nat):Int)) (n:=S.n) rfl rfl rfl rfl rfl rfl rfl (by omega) (by omega))<|mv2 rfl rfl<|mV hTT (.d (.one (.v (.int .i64 (((S.pl (h-1):Nat):Int)-1))))) (evi (wr64 (by omega) (by omega)))<|mW rfl<|mT<|cRet<|rL (.d (.one (.v (.int .i64 (((S.pl (h-1):Nat):Int)-1))))) (.d (.one (.v (.int .i64 (((S.pl (h-1):Nat):Int)-1))))) [(0,.is pp (.box 81 ([.v x,.v y]))),(1,.is x (.row 84 15 S.n (itl ev S.pl))),(2,.is y (.row 3 1 S.m (trl S.tr)))] [(0,.ptr 0 0),(2,.wit 1),(3,.wit 2)] ⟨rfl,rfl⟩ (resL_p rfl) (wk (sl:= [(26,.d (.one (.v (.int .i64 (((S.pl (h-1):Nat):Int)-1))))),(0,.ptr 0 0),(2,.wit 1),(3,.wit 2)]) (hp:= [(0,.is pp (.box 81 ([.v x,.v y]))),(1,.is x (.row 84 15 S.n (itl ev S.pl))),(2,.is y (.row 3 1 S.m (trl S.tr)))]) rfl ⟨hs rfl,hs rfl,hs rfl,hs rfl,trivial⟩ ⟨ho rfl,ho rfl,ho rfl,trivial⟩ rfl) ⟨⟨0,_,rfl,rfl⟩,⟨2,_,rfl,rfl⟩,⟨3,_,rfl,rfl⟩,trivial⟩
theorem aHPlaceN{pp x y:Value}{ev:Nat→ET}{S:HS}{z:Int}(hz1:z < 1∨((S.n:Nat):Int) < z):ACallL Tryz.prog 49 [.ptr 0 0,.d (.one (.v (.int .i64 z)))] (hpO pp x y ev S) [0,1,2] [0,1,2] (fun r hp=>r= .d (.one (.v (.int .i64 (-1))))∧hp=(hpO pp x y ev S)):=by
 refine acallLN 26 [.tmp 4] [(2,1),(3,2)] Tryz.func49 rfl rfl rfl rfl rfl ⟨⟨Nat.le_of_ble_eq_true rfl,by decide,by decide⟩,⟨Nat.le_of_ble_eq_true rfl,by decide,by decide⟩,trivial⟩ ?_;show AW _ _ _ ⟨26,[(0,.ptr 0 0),(1,.d (.one (.v (.int .i64 z)))),(2,.wit 1),(3,.wit 2)],[(0,.is pp (.box 81 ([.v x,.v y]))),(1,.is x (.row 84 15 S.n (itl ev S.pl))),(2,.is y (.row 3 1 S.m (trl S.tr)))]⟩
 refine cR<|mW rfl<|mT<|cSeq<|cSeq ?_
 by_cases hz:z < 1
 ·exact cReg<|mW rfl<|mdT rfl (by omega)<|mW rfl<|mGt rfl rfl<|mGt rfl rfl<|mGt rfl rfl<|mGt rfl rfl<|mGt rfl rfl<|mGt rfl rfl<|mGt rfl rfl<|mW rfl<|mT<|cT rfl<|cR<|mW rfl<|mT<|cRet<|tR<|rL (.d (.one (.v (.int .i64 (-1))))) (.d (.one (.v (.int .i64 (-1))))) [(0,.is pp (.box 81 ([.v x,.v y]))),(1,.is x (.row 84 15 S.n (itl ev S.pl))),(2,.is y (.row 3 1 S.m (trl S.tr)))] [(0,.ptr 0 0),(2,.wit 1),(3,.wit 2)] ⟨rfl,rfl⟩ (resL_p rfl) (wk (sl:= [(26,.d (.one (.v (.int .i64 (-1))))),(0,.ptr 0 0),(2,.wit 1),(3,.wit 2)]) (hp:= [(0,.is pp (.box 81 ([.v x,.v y]))),(1,.is x (.row 84 15 S.n (itl ev S.pl))),(2,.is y (.row 3 1 S.m (trl S.tr)))]) rfl ⟨hs rfl,hs rfl,hs rfl,hs rfl,trivial⟩ ⟨ho rfl,ho rfl,ho rfl,trivial⟩ rfl) ⟨⟨0,_,rfl,rfl⟩,⟨2,_,rfl,rfl⟩,⟨3,_,rfl,rfl⟩,trivial⟩
 ·exact cReg<|mW rfl<|mdF rfl (by omega)<|mv3 rfl rfl rfl<|mX (.ptr 0 0) (xNilP rfl rfl)<|mv2 rfl rfl<|AL.wk (wkRaw 12 2 1 rfl rfl rfl rfl)<|mW rfl<|mdT rfl (by omega)<|mW rfl<|mT<|cT rfl<|cR<|mW rfl<|mT<|cRet<|tR<|rL (.d (.one (.v (.int .i64 (-1))))) (.d (.one (.v (.int .i64 (-1))))) [(0,.is pp (.box 81 ([.v x,.v y]))),(1,.is x (.row 84 15 S.n (itl ev S.pl))),(2,.is y (.row 3 1 S.m (trl S.tr)))] [(0,.ptr 0 0),(2,.wit 1),(3,.wit 2)] ⟨rfl,rfl⟩ (resL_p rfl) (wk (sl:= [(26,.d (.one (.v (.int .i64 (-1))))),(0,.ptr 0 0),(2,.wit 1),(3,.wit 2)]) (hp:= [(0,.is pp (.box 81 ([.v x,.v y]))),(1,.is x (.row 84 15 S.n (itl ev S.pl))),(2,.is y (.row 3 1 S.m (trl S.tr)))]) rfl ⟨hs rfl,hs rfl,hs rfl,hs rfl,trivial⟩ ⟨ho rfl,ho rfl,ho rfl,trivial⟩ rfl) ⟨⟨0,_,rfl,rfl⟩,⟨2,_,rfl,rfl⟩,⟨3,_,rfl,rfl⟩,trivial⟩
theorem aHLen{pp x y:Value}{ev:Nat→ET}{S:HS}:ACallL Tryz.prog 15 [.ptr 0 0] (hpO pp x y ev S) [0,1,2] [0,1,2] (fun r hp=>r= .d (.one (.v (.int .i64 ((S.m:Nat):Int))))∧hp=(hpO pp x y ev S)):=by
 refine acallLN 8 [.tmp 2] [(1,1),(7,2)] Tryz.func15 rfl rfl rfl rfl rfl ⟨⟨Nat.le_of_ble_eq_true rfl,by decide,by decide⟩,⟨Nat.le_of_ble_eq_true rfl,by decide,by decide⟩,trivial⟩ ?_;show AW _ _ _ ⟨8,[(0,.ptr 0 0),(1,.wit 1),(7,.wit 2)],[(0,.is pp (.box 81 ([.v x,.v y]))),(1,.is x (.row 84 15 S.n (itl ev S.pl))),(2,.is y (.row 3 1 S.m (trl S.tr)))]⟩
 exact cR<|mW rfl<|mT<|cR<|mW rfl<|mX (.ptr 0 0) (xNilP rfl rfl)<|mv2 rfl rfl<|AL.wk (wkRaw 6 7 2 rfl rfl rfl rfl)<|mv2 rfl rfl<|mT<|cRet<|rL (.d (.one (.v (.int .i64 ((S.m:Nat):Int))))) (.d (.one (.v (.int .i64 ((S.m:Nat):Int))))) [(0,.is pp (.box 81 ([.v x,.v y]))),(1,.is x (.row 84 15 S.n (itl ev S.pl))),(2,.is y (.row 3 1 S.m (trl S.tr)))] [(0,.ptr 0 0),(1,.wit 1),(6,.own 2)] ⟨rfl,rfl⟩ (resL_p rfl) (wk (sl:= [(8,.d (.one (.v (.int .i64 ((S.m:Nat):Int))))),(0,.ptr 0 0),(1,.wit 1),(6,.own 2)]) (hp:= [(0,.is pp (.box 81 ([.v x,.v y]))),(1,.is x (.row 84 15 S.n (itl ev S.pl))),(2,.is y (.row 3 1 S.m (trl S.tr)))]) rfl ⟨hs rfl,hs rfl,hs rfl,hs rfl,trivial⟩ ⟨ho rfl,ho rfl,ho rfl,trivial⟩ rfl) ⟨⟨0,_,rfl,rfl⟩,⟨1,_,rfl,rfl⟩,⟨6,_,rfl,rfl⟩,trivial⟩
theorem aHTold{pp x y:Value}{ev:Nat→ET}{S:HS}{h:Nat}(hE:∀ i,HE (ev i))(h0:h≠0)(h1:h≤S.n)(hN:S.n≤100000):ACallL Tryz.prog 34 [.ptr 0 0,.d (.one (.v (.int .i64 ((h:Nat):Int))))] (hpO pp x y ev S) [0,1,2] [0,1,2] (fun r hp=>r= .d (.agg (evc (ev (h-1))))∧hp=(hpO pp x y ev S)):=by
 refine acallLN 20 [.cell 4 54] [(2,1),(3,2)] Tryz.func34 rfl rfl rfl rfl rfl ⟨⟨Nat.le_of_ble_eq_true rfl,by decide,by decide⟩,⟨Nat.le_of_ble_eq_true rfl,by decide,by decide⟩,trivial⟩ ?_;show AW _ _ _ ⟨20,[(0,.ptr 0 0),(1,.d (.one (.v (.int .i64 ((h:Nat):Int))))),(2,.wit 1),(3,.wit 2)],[(0,.is pp (.box 81 ([.v x,.v y]))),(1,.is x (.row 84 15 S.n (itl ev S.pl))),(2,.is y (.row 3 1 S.m (trl S.tr)))]⟩
 exact cR<|mO rfl<|mT<|cR<|mW rfl<|mX (.ptr 0 0) (xNilP rfl rfl)<|mv2 rfl rfl<|AL.wk (wkRaw 9 2 1 rfl rfl rfl rfl)<|mW rfl<|mV hTT (.d (.one (.v (.int .i64 ((h-1:Nat):Int))))) (evi ((wr64 (by omega) (by omega)).trans (by omega)))<|mV hTT (.eptr 1 15 (h-1) 0) (ixO (z:=((h-1:Nat):Int)) (n:=S.n) rfl rfl rfl rfl rfl rfl rfl (by omega) (by omega))<|mv2 rfl rfl<|mO rfl<|mZ rfl<|mT<|cR<|mv2 rfl rfl<|mY (aHFresh (hE (h-1)).v (hE (h-1)).l5) rfl<|mW rfl<|mZ rfl<|mT<|cR<|mW rfl<|mZ rfl<|mT<|cRet<|rL (.d (.agg (tgc ((ev (h-1)).1) ++alc 4 ((ev (h-1)).2.1) 1200 ((ev (h-1)).2.2.1) 1200 ((ev (h-1)).2.2.2)))) (.d (.agg (tgc ((ev (h-1)).1) ++alc 4 ((ev (h-1)).2.1) 1200 ((ev (h-1)).2.2.1) 1200 ((ev (h-1)).2.2.2)))) [(0,.is pp (.box 81 ([.v x,.v y]))),(1,.is x (.row 84 15 S.n (itl ev S.pl))),(2,.is y (.row 3 1 S.m (trl S.tr)))] [(0,.ptr 0 0),(2,.wit 1),(3,.wit 2)] ⟨rfl,rfl⟩ (resL_d hTT rfl AV.le.rfl) (wk (sl:= [(20,.d (.agg (tgc ((ev (h-1)).1) ++alc 4 ((ev (h-1)).2.1) 1200 ((ev (h-1)).2.2.1) 1200 ((ev (h-1)).2.2.2)))),(0,.ptr 0 0),(2,.wit 1),(3,.wit 2)]) (hp:= [(0,.is pp (.box 81 ([.v x,.v y]))),(1,.is x (.row 84 15 S.n (itl ev S.pl))),(2,.is y (.row 3 1 S.m (trl S.tr)))]) rfl ⟨hs rfl,hs rfl,hs rfl,hs rfl,trivial⟩ ⟨ho rfl,ho rfl,ho rfl,trivial⟩ rfl) ⟨⟨0,_,rfl,rfl⟩,⟨2,_,rfl,rfl⟩,⟨3,_,rfl,rfl⟩,trivial⟩
section
variable {P:Program} {s:AS} {o:Oper}
theorem pNilP{x:Operand}{id off:Nat}(hop:o.op= .nilCheck x)(hx:geto s x=some (.ptr id off)):EvP P s o (.ptr id off):=by
 intro ρ B w a ho;obtain ⟨g,h1,e1⟩:AR ρ B w (.ptr id off) (a.eval x):=ho x (by rw [hop];simp [Op.operands]) _ hx;refine ⟨_,fun w'=>?_,g,h1,rfl⟩;unfold execOp;rw [hop];simp only [e1];rfl
theorem pFld{T:TypeId→Option TI}(hT:TOk P T){t u:TypeId}{ti tu:TI}{x:Operand}{id off f q:Nat}(hop:o.op= .fieldAddr t x f)(hti:T t=some ti)(hf:ti.fs[f]?=some (q,u))(hu:T u=some tu)(hn:Nat.beq tu.n 0=false)(hx:geto s x=some (.ptr id off)):EvP P s o (.ptr id (off+q)):=by
 intro ρ B w a ho;obtain ⟨g,h1,e1⟩:AR ρ B w (.ptr id off) (a.eval x):=ho x (by rw [hop];simp [Op.operands]) _ hx;refine ⟨_,fun w'=>?_,g,h1,rfl⟩;unfold execOp;rw [hop];exact run_value (by rw [e1];exact ti_field (hT _ _ hti) hf (hT _ _ hu) (fun e=>by rw [e] at hn;cases hn))
end
theorem wkWt{s:AS}(t tw id:Nat){av:AV}(ht:Nat.ble (t+1) s.n=true)(hw:lk s.sl tw=some av)(hi:avId av=some id):Wk s ⟨s.n,(t,.wit id) ::s.sl,s.hp⟩:=by
 rintro B0 w0 a w ⟨ρ,hc,hn,hdf,hs⟩;have ht':t < s.n:=Nat.le_of_ble_eq_true ht;obtain ⟨u,_,hu⟩:=hs tw _ hw;exact ⟨ρ,hc,hn,hdf,slots_cons hs (v:=a.tmps[t]'(by omega)) (by simp) (avId_R hi hu)⟩
theorem leo_un{x:Value}{a b:AO}(h:AO.le a b):AO.le (.is x a) b:=fun _ _ _ _ k=>h _ _ _ _ k.2
theorem q2{n:Nat}(h:n≤200000):IntKind.i64.wrap (Int.tdiv ((n:Nat):Int) 2)=((n / 2:Nat):Int):=by
 have:Int.tdiv ((n:Nat):Int) 2=((n / 2:Nat):Int):=rfl;rw [this];exact wr64 (by omega) (by omega)
theorem UpQ.dn{lt:Nat→Nat→Prop}{S T:HS}{k:Nat}(h:UpQ lt S k true T)(o:∀ n,LO lt n):Fr lt T k false true:=by
 rcases h.fr with ⟨rfl,f⟩ | f
 ·exact f
 ·exact f.any (o _)
/-- An event out of a batch. -/
def bev(ev:Nat→ET)(gs:Nat→Nat):Nat→ET:=fun j=>ev (gs j-1)
theorem bev_upd{ev:Nat→ET}{gs:Nat→Nat}{k t:Nat}:updH (bev ev gs) k (ev (t-1))=bev ev (updH gs k t):=by
 funext j;show (if j=k then ev (t-1) else ev (gs j-1))=ev ((if j=k then t else gs j)-1)
 split <;> rfl
theorem leo_bap{t:TypeId}{n h:Nat}{ev:Nat→ET}{gs:Nat→Nat}{el2:Nat→Nat→Lf}(h2:∀ j,j < 14→el2 0 j=((evc (ev (h-1)))[j]?).getD (.v undef)):AO.le (.row t 14 (n+1) (appEl n (evl (bev ev gs)) el2)) (.row t 14 (n+1) (evl (bev ev (updH gs n h)))):=bev_upd▸leo_eap h2
/-- A batch's end. -/
structure BatQ(ev:Nat→ET)(S:HS)(k:Nat)(gs:Nat→Nat)(T:HS):Prop where
 b:BatI ev S k gs T
 e:T.m=0∨(k≠0∧cmpC (evC (ev (T.tr 0-1))) (evC (ev (gs 0-1)))≠0)
theorem hp_nil(lt:Nat→Nat→Prop)(f g:Nat→Nat)(hf:∀ i,f i=0):Hp lt ⟨0,f,0,g⟩:=⟨⟨fun k hk=>absurd hk (Nat.not_lt_zero _),fun i hi=>absurd hi (Nat.not_lt_zero _)⟩,fun i _ hi=>absurd hi (Nat.not_lt_zero _),fun i _ hi=>absurd hi (Nat.not_lt_zero _)⟩
section
variable {ev:Nat→ET} {S T:HS} {k h a b:Nat} {gs:Nat→Nat}
theorem hL_ge(hE:∀ i,HE (ev i))(n:¬ hL ev a b):cmpC (evC (ev (b-1))) (evC (ev (a-1)))≤0:=by
 have h1:=cmpC_neg (hE (a-1)).cut (hE (b-1)).cut;have h2:¬ cmpC (evC (ev (a-1))) (evC (ev (b-1))) < 0:=fun q=>n (Or.inl q)
 omega
/-- The root is least. -/
theorem Hp.rt(hE:∀ i,HE (ev i))(hp:Hp (hL ev) S)(i:InH S h):cmpC (evC (ev (S.tr 0-1))) (evC (ev (h-1)))≤0:=hL_ge hE (hp.first hE i)
theorem Hp.mi(hp:Hp (hL ev) S)(i:InH S h):S.m≠0:=fun e=>i.pl (hp.m0 e _ (by have:=i.h0;have:=i.hn;omega))
/-- A batch takes what is least. -/
theorem BatQ.iff(hE:∀ i,HE (ev i))(hp:Hp (hL ev) S)(q:BatQ ev S k gs T)(i:InH S h):InH T h↔cmpC (evC (ev (S.tr 0-1))) (evC (ev (h-1)))≠0:=by
 have cut:=fun a=>(hE (a-1)).cut
 refine ⟨fun j z=>?_,fun z=>?_⟩
 ·have hm:=q.b.hp.mi j
  obtain ⟨k0,ne⟩:=q.e.resolve_left hm;rw [q.b.h0 k0] at ne;have it:=q.b.hp.con.in (k:=0) (by omega);have h1:=hp.rt hE (q.b.inS it);have h2:=q.b.hp.rt hE j;obtain ⟨z1,_⟩:=cut_t0 (cut _) (cut _) (cut _) h1 h2 z;exact ne (by rw [cmpC_neg (cut _) (cut _),z1];rfl)
 ·refine ⟨i.h0,by rw [q.b.n];exact i.hn,fun e=>?_⟩
  rcases (q.b.pl (h-1) (by have:=i.h0;have:=i.hn;omega)).1 e with e | ⟨j,j1,j2⟩
  ·exact i.pl e
  ·have:=q.b.eq j j1
   rw [q.b.h0 (by omega),j2] at this;exact z (by rw [cmpC_neg (cut _) (cut _),this];rfl)
theorem Con.m1(c:Con T)(i:InH T a)(h:∀ b,InH T b→b=a):T.m=1:=by
 obtain ⟨h1,h2⟩:=i.at c;have:=i.pl
 by_cases e:T.m=1
 ·exact e
 ·have e0:=h _ (c.in (k:=0) (by omega))
  have e1:=h _ (c.in (k:=1) (by omega));exact absurd (by rw [e0,e1]) (c.ne (k:=0) (c:=1) (by omega) (by omega) (by decide))
end
theorem PshR.all{S T:HS}(h:PshR S T)(a:∀ i,i < S.n→S.pl i≠0)(i:Nat)(hi:i < T.n):T.pl i≠0:=by
 rw [h.n] at hi
 by_cases e:i=S.n
 ·rw [e];exact h.pn
 ·exact fun q=>a i (by omega) ((h.pl i (by omega)).1 q)
/-! ### Rational times -/
def rT(t:Rat)(g:Nat→Int):ET:=(g,lnP t,t,t)
theorem rT_ok(t:Rat)(g:Nat→Int):HE (rT t g):=⟨okV_ln t,by show lg (lnP t)≤5;rw [lnP_lg];decide⟩
theorem rT_c(t:Rat)(g:Nat→Int):evC (rT t g)=cutP t:=cutA_P Rat.le_refl
/-! ### The example -/
theorem pk_lin{cl:Nat→Int}{n:Nat}{t:Rat}(hP:pkP cl n=lnP t)(k:Int):cmpC (cutA (pkC cl n k) (pkL cl n k) (pkH cl n k)) (cutP t)=0:=by
 have h2:2≤lg (pkP cl n):=by rw [hP,lnP_lg];exact Nat.le_refl _
 have hs:sqP (pkP cl n)=lnP t:=by rw [hP];exact lnP_sqE t
 have hR:=pk_rt h2;rw [hs] at hR;have v0:=(okV_ln t).vc;rw [cutA_P Rat.le_refl] at v0;obtain ⟨x,m,_⟩:=hR.all _ (cutP_ok t) v0;have hlen:(pkR cl n).length≠0:=fun e=>by
  have e2:rtF (lnP t) 56= []:=by rw [← hs];exact List.eq_nil_of_length_eq_zero e
  first
   | rw [e2] at m;cases m
   | (rw [List.eq_nil_of_length_eq_zero e] at m;cases m)
 have eC:pkC cl n k=lnP t:=by unfold pkC pkA;rw [if_pos ⟨h2,hlen⟩];exact hs
 have v:=(pk_ok cl n k).v;have z:=sgC_zero v.vc;have eF:FF (pkC cl n k)=FF (lnP t):=by rw [eC]
 rw [eF,ln_sgC v.ok.cut] at z;exact z
noncomputable def eW(l:List Int):ET:=((fun _=>0),pkC (lst l) 2 0,pkL (lst l) 2 0,pkH (lst l) 2 0)
theorem eW_ok(l:List Int):HE (eW l):=⟨(pk_ok (lst l) 2 0).v,(pk_ok (lst l) 2 0).l5⟩
theorem eW_c{l:List Int}{t:Rat}(h:pkP (lst l) 2=lnP t):∀ q,evC (eW l) q↔cutP t q:=cmpC_zero (pk_lin h 0)
theorem pk_l1:pkP (lst [-1,1]) 2=lnP 1:=funext fun i=>by
 match i with
 | 0=>decide
 | 1=>decide
 | i+2=>rw [pkP_z (lst [-1,1]) 2 (i+2) (by omega),lnP_z2 1 (i+2) (by omega)]
theorem pk_l2:pkP (lst [-2,1]) 2=lnP 2:=funext fun i=>by
 match i with
 | 0=>decide
 | 1=>decide
 | i+2=>rw [pkP_z (lst [-2,1]) 2 (i+2) (by omega),lnP_z2 2 (i+2) (by omega)]
theorem eW_12:cmpC (evC (eW [-1,1])) (evC (eW [-2,1]))= -1:=by
 rw [cmpC_congr (eW_c pk_l1) (eW_c pk_l2),cmpC_PP];exact cmpQ_lt (by decide)
theorem wk_fin{ev:Nat→ET}{S T:HS}{k:Nat}{gs:Nat→Nat}(hE:∀ i,HE (ev i))(e0:ev 0=eW [-2,1])(e1:ev 1=eW [-1,1])(e2:ev 2=eW [-1,1])(hp:Hp (hL ev) S)(hn:S.n=3)(hm:S.m=3)(hpl:∀ i,i < 3→S.pl i≠0)(q:BatQ ev S k gs T):k=2∧T.m=1:=by
 have hin:∀ h,h≠0→h≤3→InH S h:=fun h a b=>⟨a,by omega,hpl _ (by omega)⟩
 have ir:=hp.con.in (k:=0) (by omega);have h2:=hp.rt hE (hin 2 (by decide) (by decide));have e12:=eW_12;have e21:cmpC (evC (eW [-2,1])) (evC (eW [-1,1]))=1:=by rw [cmpC_neg (eW_ok _).cut (eW_ok _).cut,e12];rfl
 have er:ev (S.tr 0-1)=eW [-1,1]:=by
  have:=ir.h0;have:=ir.hn;have h3:S.tr 0=1∨S.tr 0=2∨S.tr 0=3:=by omega
  rcases h3 with h3 | h3 | h3
  ·rw [h3,e0,show (2:Nat)-1=1 from rfl,e1] at h2;omega
  ·rw [h3];exact e1
  ·rw [h3];exact e2
 have i1:InH T 1:=(q.iff hE hp (hin 1 (by decide) (by decide))).2 (by rw [er,e0,e12];decide);have hT:T.m=1:=q.b.hp.con.m1 i1 fun b ib=>by
  have:=ib.h0;have:=ib.hn;have:=q.b.n;have:=(q.iff hE hp (hin b (by omega) (by omega))).1 ib;rw [er] at this;have h3:b=1∨b=2∨b=3:=by omega
  rcases h3 with h3 | h3 | h3
  ·exact h3
  ·rw [h3,e1] at this;exact absurd (cmpC_eq fun _=>Iff.rfl) this
  ·rw [h3,e2] at this;exact absurd (cmpC_eq fun _=>Iff.rfl) this
 have:=q.b.m;exact ⟨by omega,hT⟩
theorem smT_lo(n d z:Int)(hz:z≤-1000):((z:Int):Rat) < smT n d:=by
 have h1:=(smT_bd n d).1;have h2:=q_mul_den (smT n d);have h3:=denR_pos (smT n d);have h9:=(smT n d).den_pos
 revert h1 h2 h3 h9
 generalize (smT n d).den=b;generalize (smT n d).num=c;generalize smT n d=x;intro h1 h2 h3 h9;have h4:(1:Rat)≤(b:Rat):=by exact_mod_cast h9
 have h5:((-30:Int):Rat)≤(c:Rat):=Rat.intCast_le_intCast.2 (by omega);have h6:((z:Int):Rat)≤((-1000:Int):Rat):=Rat.intCast_le_intCast.2 hz;have e1:((-30:Int):Rat)= -30:=rfl;have e2:((-1000:Int):Rat)= -1000:=rfl;rw [e1] at h5;rw [e2] at h6;apply Classical.byContradiction;intro hn;have h7:x≤-1000:=Rat.le_trans (Rat.not_lt.1 hn) h6;have h8:x*(b:Rat)≤-1000*(b:Rat):=Rat.mul_le_mul_of_nonneg_right h7 (Rat.le_of_lt h3);rw [h2] at h8;clear hn h7 h2;grind
theorem int_tb{z:Int}(h:z.natAbs≤2000):Tb 1 ((z:Int):Rat):=⟨by rw [Rat.num_intCast];exact Nat.lt_of_le_of_lt h (by decide),by rw [Rat.den_intCast];decide⟩
theorem int_al(K:Nat){z:Int}(h:z.natAbs≤2000):AV.le (.d (.agg (alc K (lnP ((z:Int):Rat)) K ((z:Int):Rat) K ((z:Int):Rat)))) (.d (.agg (alc 4 (lnP ((z:Int):Rat)) 1200 ((z:Int):Rat) 1200 ((z:Int):Rat)))):=al_tight ((lnP_lb (int_tb h)).mono (by decide)) (tb_mono (int_tb h) (by decide)) (tb_mono (int_tb h) (by decide))
/-- Four numbers, the first one given. -/
theorem xBld4{P:Program}{s:AS}{o:Oper}{t elem:TypeId}{x:Operand}{z:Int}(hop:o.op= .build t #[(0,x)])(hu:P.underlying t=some (.array 4 elem))(hz:∀ w,(zeroValue t).run P w= .ok (.agg #[.int .i64 0,.int .i64 0,.int .i64 0,.int .i64 0]) w)(hs:∀ w,(sizeOf elem).run P w= .ok 1 w)(hx:geto s x=some (.d (.one (.v (.int .i64 z))))):EvX P s o (.d (.agg [.v (.int .i64 z),.v (.int .i64 0),.v (.int .i64 0),.v (.int .i64 0)])):=by
 intro ρ B w a ho;have e1:a.eval x= .int .i64 z:=(ho x (by rw [hop];simp [Op.operands]) _ hx:LfR _ _ _ _).1;refine ⟨.agg #[.int .i64 z,.int .i64 0,.int .i64 0,.int .i64 0],?_,_,rfl,⟨rfl,rfl⟩,⟨rfl,rfl⟩,⟨rfl,rfl⟩,⟨rfl,rfl⟩,trivial⟩;unfold execOp;rw [hop];refine run_value ?_;simp [Instr.build,Sem.run_bind,hz,run_underlying hu,hs,e1,Instr.fill,Value.cells]
/-- An event of the law. -/
def eT(cl:Nat→Int)(i:Nat):ET:=rT (smT (cl i) ((i:Nat):Int)) (lst [1,((i:Nat):Int)])
theorem ht_fin{ev:Nat→ET}{cl:Nat→Int}{m K k:Nat}{z:Int}{U V:HS}{gs:Nat→Nat}(hz:z≤-1000)(hE:∀ p,HE (ev p))(hev:∀ p,p < m→p≠K→ev p=eT cl p)(hK:ev K=rT ((z:Int):Rat) (lst [1,((K:Nat):Int)]))(hKm:K < m)(hp:Hp (hL ev) U)(hn:U.n=m)(hm:U.m=m)(hpl:∀ i,i < m→U.pl i≠0)(q:BatQ ev U k gs V):k=1∧V.m+1=m∧V.pl K=0∧V.n=m∧(bev ev gs 0).1 1=((K:Nat):Int):=by
 have iK:InH U (K+1):=⟨Nat.succ_ne_zero _,by omega,hpl K hKm⟩;have key:∀ h,InH U h→cmpC (evC (ev (h-1))) (evC (ev (K+1-1)))≤0→h=K+1:=fun h i hc=>by
  apply Classical.byContradiction;intro ne;have:=i.h0;have:=i.hn;rw [Nat.add_sub_cancel,hK,hev (h-1) (by omega) (by omega),eT,rT_c,rT_c,cmpC_PP,cmpQ_gt (smT_lo _ _ z hz)] at hc;omega
 have hr:U.tr 0=K+1:=key _ (hp.con.in (k:=0) (by omega)) (hp.rt hE iK);have nK:¬ InH V (K+1):=fun j=>(q.iff hE hp iK).1 j (by rw [hr];exact cmpC_eq fun _=>Iff.rfl)
 have h0:V.pl K=0:=Classical.byContradiction fun e=>nK ⟨Nat.succ_ne_zero _,by rw [q.b.n];omega,e⟩
 have hk0:k≠0:=fun e=>by
  have:=q.b.z e;rw [this] at h0;exact hpl K hKm h0
 have g0:gs 0=K+1:=(q.b.h0 hk0).trans hr;have hk1:k=1:=by
  by_cases e:k=1
  ·exact e
  ·have e1:=q.b.eq 1 (by omega)
   rw [g0] at e1;have:=key _ (q.b.mem 1 (by omega)) (Int.le_of_eq e1);exact absurd (g0.trans this.symm) (q.b.inj 0 1 (by decide) (by omega))
 have:=q.b.m;have:=q.b.n;refine ⟨hk1,by omega,h0,by omega,?_⟩;unfold bev;rw [g0,Nat.add_sub_cancel,hK];rfl
theorem aHUp{pp x y:Value}{ev:Nat→ET}{S:HS}{k:Nat}{d:Bool}(hE:∀ i,HE (ev i))(hf:Fr (hL ev) S k true d)(hk:k < S.m)(hN:S.n≤100000)(hM:S.m≤100000):ACallL Tryz.prog 29 [.ptr 0 0,.d (.one (.v (.int .i64 ((k:Nat):Int))))] (hpO pp x y ev S) [0,1,2] [0,1,2] (fun r hp=>r= .tup []∧∃ T,UpQ (hL ev) S k d T∧hp=(hpO pp x y ev T)):=by
 refine acallLN 57 [] [(2,1),(3,2)] Tryz.func29 rfl rfl rfl rfl rfl ⟨⟨Nat.le_of_ble_eq_true rfl,by decide,by decide⟩,⟨Nat.le_of_ble_eq_true rfl,by decide,by decide⟩,trivial⟩ ?_;show AW _ _ _ ⟨57,[(0,.ptr 0 0),(1,.d (.one (.v (.int .i64 ((k:Nat):Int))))),(2,.wit 1),(3,.wit 2)],[(0,.is pp (.box 81 ([.v x,.v y]))),(1,.is x (.row 84 15 S.n (itl ev S.pl))),(2,.is y (.row 3 1 S.m (trl S.tr)))]⟩
 refine cBlock<|cLoop (ι:=HS×Nat) (fun (p:HS×Nat)=>match p with | (T,j)=>⟨57,[(0,.ptr 0 0),(1,.d (.one (.v (.int .i64 ((j:Nat):Int))))),(2,.wit 1),(3,.wit 2)],[(0,.is pp (.box 81 ([.v x,.v y]))),(1,.is x (.row 84 15 T.n (itl ev T.pl))),(2,.is y (.row 3 1 T.m (trl T.tr)))]⟩) (fun (p:HS×Nat)=>match p with | (T,j)=>UpI (hL ev) S k d T j) (fun (p:HS×Nat)=>match p with | (T,j)=>j) (S,k) (UpI.start hf hk) (wkr rfl rfl) ?_;rintro ⟨T,j⟩ hI;have hI:UpI (hL ev) S k d T j:=hI;show AW _ _ _ ⟨_,_,_⟩
 refine cSeq<|cSeq ?_;have hj:=hI.jm;have hc1:=hI.con.tr j hj;have hc2:=hI.con.tr ((j-1) / 2) (by omega);have hn:=hI.sam.n;have hmm:=hI.sam.m
 by_cases hj0:j=0
 ·exact cDk 22<|.cons (OpS.V _ rfl)<|oFd rfl (by omega)<|.cons (OpS.V _ rfl)<|.cons (OpS.G rfl rfl)<|.cons (OpS.G rfl rfl)<|.cons (OpS.G rfl rfl)<|.cons (OpS.G rfl rfl)<|.cons (OpS.G rfl rfl)<|.cons (OpS.G rfl rfl)<|.cons (OpS.G rfl rfl)<|.cons (OpS.G rfl rfl)<|.cons (OpS.G rfl rfl)<|.cons (OpS.G rfl rfl)<|.cons (OpS.G rfl rfl)<|.cons (OpS.G rfl rfl)<|.cons (OpS.G rfl rfl)<|.cons (OpS.G rfl rfl)<|.cons (OpS.G rfl rfl)<|.cons (OpS.G rfl rfl)<|.cons (OpS.G rfl rfl)<|.cons (OpS.G rfl rfl)<|.cons (OpS.V _ rfl)<|.nil<|mT<|cF rfl<|cExit<|tE<|tE<|bE<|rLn (.tup []) (.tup []) [(0,.is pp (.box 81 ([.v x,.v y]))),(1,.is x (.row 84 15 T.n (itl ev T.pl))),(2,.is y (.row 3 1 T.m (trl T.tr)))] [(0,.ptr 0 0),(2,.wit 1),(3,.wit 2)] ⟨rfl,T,hI.fin (hL_ok hE) (Or.inl hj0),rfl⟩ (resL_d hTT rfl AV.le.rfl) (wk (sl:= [(57,.tup []),(0,.ptr 0 0),(2,.wit 1),(3,.wit 2)]) (hp:= [(0,.is pp (.box 81 ([.v x,.v y]))),(1,.is x (.row 84 15 T.n (itl ev T.pl))),(2,.is y (.row 3 1 T.m (trl T.tr)))]) rfl ⟨hs rfl,hs rfl,hs rfl,hs rfl,trivial⟩ ⟨ho rfl,ho rfl,ho rfl,trivial⟩ rfl) ⟨⟨0,_,rfl,rfl⟩,⟨2,_,rfl,rfl⟩,⟨3,_,rfl,rfl⟩,trivial⟩
 ·by_cases hlt:hL ev (T.tr j) (T.tr ((j-1) / 2))
  ·refine cDk 20<|.cons (OpS.V _ rfl)<|oTd rfl (by omega)<|.cons (OpS.V _ rfl)<|.cons (OpS.V _ rfl)<|.cons (OpS.V _ rfl)<|.cons (OpS.X (.ptr 0 0) (xNilP rfl rfl))<|oV rfl<|.cons (OpS.Y y 3 2 rfl rfl rfl rfl rfl)<|.cons (OpS.V _ rfl)<|.cons (OpS.V (.eptr 2 1 j 0) (ixO (z:=((j:Nat):Int)) (n:=T.m) rfl rfl rfl rfl rfl rfl rfl (by omega) (by omega)))<|oV rfl<|.cons (OpS.V _ rfl)<|.cons (OpS.X (.ptr 0 0) (xNilP rfl rfl))<|oV rfl<|.cons (OpS.Y y 3 2 rfl rfl rfl rfl rfl)<|.cons (OpS.V _ rfl)<|.cons (OpS.V (.d (.one (.v (.int .i64 ((j-1:Nat):Int))))) (evi ((wr64 (by omega) (by omega)).trans (by omega))))<|.cons (OpS.V (.d (.one (.v (.int .i64 (((j-1) / 2:Nat):Int))))) (evi (q2 (by omega))))<|.cons (OpS.V (.eptr 2 1 ((j-1) / 2) 0) (ixO (z:=(((j-1) / 2:Nat):Int)) (n:=T.m) rfl rfl rfl rfl rfl rfl rfl (by omega) (by omega)))<|oV rfl<|.nil<|mCL (aHLess (pp:=pp) (x:=x) (y:=y) (ev:=ev) (S:=T) (a:=(T.tr j)) (b:=(T.tr ((j-1) / 2))) (c:=true) hE hc1.1 hc1.2.1 hc2.1 hc2.2.1 (by omega) ⟨fun _=>hlt,fun _=>rfl⟩) [(0,0),(1,1),(2,2)] [] [] [] rfl rfl ⟨⟨_,_,rfl,AV.le.rfl,rfl⟩,⟨_,_,rfl,AV.le.rfl,rfl⟩,⟨_,_,rfl,AV.le.rfl,rfl⟩,trivial⟩ ⟨⟨_,_,rfl,rfl,AO.le.rfl,rfl⟩,⟨_,_,rfl,rfl,AO.le.rfl,rfl⟩,⟨_,_,rfl,rfl,AO.le.rfl,rfl⟩,trivial⟩ trivial ⟨⟨_,0,_,rfl,rfl,rfl⟩,⟨_,2,_,rfl,rfl,rfl⟩,⟨_,3,_,rfl,rfl,rfl⟩,trivial⟩ ⟨Or.inr ⟨_,_,rfl,by decide,fun _ _ h=>by obtain ⟨rfl,rfl⟩:=h;exact ⟨_,rfl⟩⟩,Or.inr ⟨_,_,rfl,by decide,fun _ _ h=>by obtain ⟨rfl,rfl⟩:=h;exact ⟨_,rfl⟩⟩,Or.inr ⟨_,_,rfl,by decide,fun _ _ h=>by obtain ⟨rfl,rfl⟩:=h;exact ⟨_,rfl⟩⟩,trivial⟩ trivial ?_;rintro _ _ ⟨rfl,rfl⟩;refine AL.wk (wk (sl:= [(0,.ptr 0 0),(1,.d (.one (.v (.int .i64 ((j:Nat):Int))))),(2,.wit 1),(3,.wit 2),(8,.d (.one (.v (.bool true)))),(26,.d (.one (.v (.bool true))))]) (hp:= [(0,.is pp (.box 81 ([.v x,.v y]))),(1,.is x (.row 84 15 T.n (itl ev T.pl))),(2,.is y (.row 3 1 T.m (trl T.tr)))]) rfl ⟨hs rfl,hs rfl,hs rfl,hs rfl,hs rfl,hs rfl,trivial⟩ ⟨ho rfl,ho rfl,ho rfl,trivial⟩ rfl)<|mW rfl<|mT<|cT rfl<|cSkip<|tN<|cBlock<|cSeq<|cDk 18<|.cons (OpS.V _ rfl)<|.cons (OpS.X (.ptr 0 0) (xNilP rfl rfl))<|oV rfl<|.cons (OpS.Y y 3 2 rfl rfl rfl rfl rfl)<|.cons (OpS.V _ rfl)<|.cons (OpS.V (.eptr 2 1 j 0) (ixO (z:=((j:Nat):Int)) (n:=T.m) rfl rfl rfl rfl rfl rfl rfl (by omega) (by omega)))<|oV rfl<|.cons (OpS.V _ rfl)<|.cons (OpS.X (.ptr 0 0) (xNilP rfl rfl))<|oV rfl<|.cons (OpS.Y y 3 2 rfl rfl rfl rfl rfl)<|.cons (OpS.V _ rfl)<|.cons (OpS.V (.d (.one (.v (.int .i64 ((j-1:Nat):Int))))) (evi ((wr64 (by omega) (by omega)).trans (by omega))))<|.cons (OpS.V (.d (.one (.v (.int .i64 (((j-1) / 2:Nat):Int))))) (evi (q2 (by omega))))<|.cons (OpS.V (.eptr 2 1 ((j-1) / 2) 0) (ixO (z:=(((j-1) / 2:Nat):Int)) (n:=T.m) rfl rfl rfl rfl rfl rfl rfl (by omega) (by omega)))<|oV rfl<|.cons (OpS.V _ rfl)<|.cons (OpS.V _ rfl)<|.nil<|mT<|cR<|mv3 rfl rfl rfl<|mCL (aHLay (pp:=pp) (x:=x) (y:=y) (ev:=ev) (S:=T) (k:=j) (h:=(T.tr ((j-1) / 2))) hj hc2.1 hc2.2.1 (by omega) (by omega)) [(0,0),(1,1),(2,2)] [] [] [] rfl rfl ⟨⟨_,_,rfl,AV.le.rfl,rfl⟩,⟨_,_,rfl,AV.le.rfl,rfl⟩,⟨_,_,rfl,AV.le.rfl,rfl⟩,trivial⟩ ⟨⟨_,_,rfl,rfl,AO.le.rfl,rfl⟩,⟨_,_,rfl,rfl,AO.le.rfl,rfl⟩,⟨_,_,rfl,rfl,AO.le.rfl,rfl⟩,trivial⟩ trivial ⟨⟨_,0,_,rfl,rfl,rfl⟩,⟨_,2,_,rfl,rfl,rfl⟩,⟨_,3,_,rfl,rfl,rfl⟩,trivial⟩ ⟨Or.inr ⟨_,_,rfl,by decide,fun _ _ h=>by obtain ⟨rfl,rfl⟩:=h;exact ⟨_,rfl⟩⟩,Or.inr ⟨_,_,rfl,by decide,fun _ _ h=>by obtain ⟨rfl,rfl⟩:=h;exact ⟨_,rfl⟩⟩,Or.inr ⟨_,_,rfl,by decide,fun _ _ h=>by obtain ⟨rfl,rfl⟩:=h;exact ⟨_,rfl⟩⟩,trivial⟩ trivial ?_;rintro _ _ ⟨rfl,rfl⟩;refine AL.wk (wk (sl:= [(0,.ptr 0 0),(1,.d (.one (.v (.int .i64 ((j:Nat):Int))))),(2,.wit 1),(3,.wit 2),(27,.d (.one (.v (.bool true)))),(4,.d (.one (.v (.int .i64 ((T.tr j:Nat):Int))))),(5,.d (.one (.v (.int .i64 ((T.tr ((j-1) / 2):Nat):Int))))),(47,.tup [])]) (hp:= [(0,.is pp (.box 81 ([.v x,.v y]))),(1,.is x (.row 84 15 ((T.lay j (T.tr ((j-1) / 2))).n) (itl ev (T.lay j (T.tr ((j-1) / 2))).pl))),(2,.is y (.row 3 1 ((T.lay j (T.tr ((j-1) / 2))).m) (trl (T.lay j (T.tr ((j-1) / 2))).tr)))]) rfl ⟨hs rfl,hs rfl,hs rfl,hs rfl,hs rfl,hs rfl,hs rfl,hs rfl,trivial⟩ ⟨ho rfl,ho rfl,ho rfl,trivial⟩ rfl)<|mT<|cR<|mv2 rfl rfl<|mV hTT (.d (.one (.v (.int .i64 ((j-1:Nat):Int))))) (evi ((wr64 (by omega) (by omega)).trans (by omega)))<|mV hTT (.d (.one (.v (.int .i64 (((j-1) / 2:Nat):Int))))) (evi (q2 (by omega)))<|mW rfl<|mCL (aHLay (pp:=pp) (x:=x) (y:=y) (ev:=ev) (S:=(T.lay j (T.tr ((j-1) / 2)))) (k:=((j-1) / 2)) (h:=(T.tr j)) (show ((j-1) / 2) < T.m from by omega) hc1.1 hc1.2.1 (show T.n≤100000 from by omega) (show T.m≤100000 from by omega)) [(0,0),(1,1),(2,2)] [] [] [] rfl rfl ⟨⟨_,_,rfl,AV.le.rfl,rfl⟩,⟨_,_,rfl,AV.le.rfl,rfl⟩,⟨_,_,rfl,AV.le.rfl,rfl⟩,trivial⟩ ⟨⟨_,_,rfl,rfl,AO.le.rfl,rfl⟩,⟨_,_,rfl,rfl,AO.le.rfl,rfl⟩,⟨_,_,rfl,rfl,AO.le.rfl,rfl⟩,trivial⟩ trivial ⟨⟨_,0,_,rfl,rfl,rfl⟩,⟨_,2,_,rfl,rfl,rfl⟩,⟨_,3,_,rfl,rfl,rfl⟩,trivial⟩ ⟨Or.inr ⟨_,_,rfl,by decide,fun _ _ h=>by obtain ⟨rfl,rfl⟩:=h;exact ⟨_,rfl⟩⟩,Or.inr ⟨_,_,rfl,by decide,fun _ _ h=>by obtain ⟨rfl,rfl⟩:=h;exact ⟨_,rfl⟩⟩,Or.inr ⟨_,_,rfl,by decide,fun _ _ h=>by obtain ⟨rfl,rfl⟩:=h;exact ⟨_,rfl⟩⟩,trivial⟩ trivial ?_;rintro _ _ ⟨rfl,rfl⟩;exact AL.wk (wk (sl:= [(0,.ptr 0 0),(1,.d (.one (.v (.int .i64 ((j:Nat):Int))))),(2,.wit 1),(3,.wit 2),(27,.d (.one (.v (.bool true)))),(4,.d (.one (.v (.int .i64 ((T.tr j:Nat):Int))))),(5,.d (.one (.v (.int .i64 ((T.tr ((j-1) / 2):Nat):Int))))),(53,.tup [])]) (hp:= [(0,.is pp (.box 81 ([.v x,.v y]))),(1,.is x (.row 84 15 (((T.lay j (T.tr ((j-1) / 2))).lay ((j-1) / 2) (T.tr j)).n) (itl ev ((T.lay j (T.tr ((j-1) / 2))).lay ((j-1) / 2) (T.tr j)).pl))),(2,.is y (.row 3 1 (((T.lay j (T.tr ((j-1) / 2))).lay ((j-1) / 2) (T.tr j)).m) (trl ((T.lay j (T.tr ((j-1) / 2))).lay ((j-1) / 2) (T.tr j)).tr)))]) rfl ⟨hs rfl,hs rfl,hs rfl,hs rfl,hs rfl,hs rfl,hs rfl,hs rfl,trivial⟩ ⟨ho rfl,ho rfl,ho rfl,trivial⟩ rfl)<|mT<|cReg<|mW rfl<|mV hTT (.d (.one (.v (.int .i64 ((j-1:Nat):Int))))) (evi ((wr64 (by omega) (by omega)).trans (by omega)))<|mV hTT (.d (.one (.v (.int .i64 (((j-1) / 2:Nat):Int))))) (evi (q2 (by omega)))<|mW rfl<|mNil<|bN<|⟨((T.swp j ((j-1) / 2)),((j-1) / 2)),hI.step (hL_ok hE) (by omega) hlt,by show (j-1) / 2 < j;omega,wkr rfl rfl⟩
  ·refine cDk 20<|.cons (OpS.V _ rfl)<|oTd rfl (by omega)<|.cons (OpS.V _ rfl)<|.cons (OpS.V _ rfl)<|.cons (OpS.V _ rfl)<|.cons (OpS.X (.ptr 0 0) (xNilP rfl rfl))<|oV rfl<|.cons (OpS.Y y 3 2 rfl rfl rfl rfl rfl)<|.cons (OpS.V _ rfl)<|.cons (OpS.V (.eptr 2 1 j 0) (ixO (z:=((j:Nat):Int)) (n:=T.m) rfl rfl rfl rfl rfl rfl rfl (by omega) (by omega)))<|oV rfl<|.cons (OpS.V _ rfl)<|.cons (OpS.X (.ptr 0 0) (xNilP rfl rfl))<|oV rfl<|.cons (OpS.Y y 3 2 rfl rfl rfl rfl rfl)<|.cons (OpS.V _ rfl)<|.cons (OpS.V (.d (.one (.v (.int .i64 ((j-1:Nat):Int))))) (evi ((wr64 (by omega) (by omega)).trans (by omega))))<|.cons (OpS.V (.d (.one (.v (.int .i64 (((j-1) / 2:Nat):Int))))) (evi (q2 (by omega))))<|.cons (OpS.V (.eptr 2 1 ((j-1) / 2) 0) (ixO (z:=(((j-1) / 2:Nat):Int)) (n:=T.m) rfl rfl rfl rfl rfl rfl rfl (by omega) (by omega)))<|oV rfl<|.nil<|mCL (aHLess (pp:=pp) (x:=x) (y:=y) (ev:=ev) (S:=T) (a:=(T.tr j)) (b:=(T.tr ((j-1) / 2))) (c:=false) hE hc1.1 hc1.2.1 hc2.1 hc2.2.1 (by omega) ⟨fun q=>absurd q Bool.noConfusion,fun q=>absurd q hlt⟩) [(0,0),(1,1),(2,2)] [] [] [] rfl rfl ⟨⟨_,_,rfl,AV.le.rfl,rfl⟩,⟨_,_,rfl,AV.le.rfl,rfl⟩,⟨_,_,rfl,AV.le.rfl,rfl⟩,trivial⟩ ⟨⟨_,_,rfl,rfl,AO.le.rfl,rfl⟩,⟨_,_,rfl,rfl,AO.le.rfl,rfl⟩,⟨_,_,rfl,rfl,AO.le.rfl,rfl⟩,trivial⟩ trivial ⟨⟨_,0,_,rfl,rfl,rfl⟩,⟨_,2,_,rfl,rfl,rfl⟩,⟨_,3,_,rfl,rfl,rfl⟩,trivial⟩ ⟨Or.inr ⟨_,_,rfl,by decide,fun _ _ h=>by obtain ⟨rfl,rfl⟩:=h;exact ⟨_,rfl⟩⟩,Or.inr ⟨_,_,rfl,by decide,fun _ _ h=>by obtain ⟨rfl,rfl⟩:=h;exact ⟨_,rfl⟩⟩,Or.inr ⟨_,_,rfl,by decide,fun _ _ h=>by obtain ⟨rfl,rfl⟩:=h;exact ⟨_,rfl⟩⟩,trivial⟩ trivial ?_;rintro _ _ ⟨rfl,rfl⟩;exact AL.wk (wk (sl:= [(0,.ptr 0 0),(1,.d (.one (.v (.int .i64 ((j:Nat):Int))))),(2,.wit 1),(3,.wit 2),(8,.d (.one (.v (.bool true)))),(26,.d (.one (.v (.bool false))))]) (hp:= [(0,.is pp (.box 81 ([.v x,.v y]))),(1,.is x (.row 84 15 T.n (itl ev T.pl))),(2,.is y (.row 3 1 T.m (trl T.tr)))]) rfl ⟨hs rfl,hs rfl,hs rfl,hs rfl,hs rfl,hs rfl,trivial⟩ ⟨ho rfl,ho rfl,ho rfl,trivial⟩ rfl)<|mW rfl<|mT<|cF rfl<|cExit<|tE<|tE<|bE<|rLn (.tup []) (.tup []) [(0,.is pp (.box 81 ([.v x,.v y]))),(1,.is x (.row 84 15 T.n (itl ev T.pl))),(2,.is y (.row 3 1 T.m (trl T.tr)))] [(0,.ptr 0 0),(2,.wit 1),(3,.wit 2)] ⟨rfl,T,hI.fin (hL_ok hE) (Or.inr hlt),rfl⟩ (resL_d hTT rfl AV.le.rfl) (wk (sl:= [(57,.tup []),(0,.ptr 0 0),(2,.wit 1),(3,.wit 2)]) (hp:= [(0,.is pp (.box 81 ([.v x,.v y]))),(1,.is x (.row 84 15 T.n (itl ev T.pl))),(2,.is y (.row 3 1 T.m (trl T.tr)))]) rfl ⟨hs rfl,hs rfl,hs rfl,hs rfl,trivial⟩ ⟨ho rfl,ho rfl,ho rfl,trivial⟩ rfl) ⟨⟨0,_,rfl,rfl⟩,⟨2,_,rfl,rfl⟩,⟨3,_,rfl,rfl⟩,trivial⟩
theorem aHDown{pp x y:Value}{ev:Nat→ET}{S:HS}{k:Nat}(hE:∀ i,HE (ev i))(hf:Fr (hL ev) S k false true)(hk:k < S.m)(hN:S.n≤100000)(hM:S.m≤100000):ACallL Tryz.prog 50 [.ptr 0 0,.d (.one (.v (.int .i64 ((k:Nat):Int))))] (hpO pp x y ev S) [0,1,2] [0,1,2] (fun r hp=>r= .tup []∧∃ T,(Sam S T∧Hp (hL ev) T)∧hp=(hpO pp x y ev T)):=by
 refine acallLN 86 [] [(2,1),(3,2)] Tryz.func50 rfl rfl rfl rfl rfl ⟨⟨Nat.le_of_ble_eq_true rfl,by decide,by decide⟩,⟨Nat.le_of_ble_eq_true rfl,by decide,by decide⟩,trivial⟩ ?_;show AW _ _ _ ⟨86,[(0,.ptr 0 0),(1,.d (.one (.v (.int .i64 ((k:Nat):Int))))),(2,.wit 1),(3,.wit 2)],[(0,.is pp (.box 81 ([.v x,.v y]))),(1,.is x (.row 84 15 S.n (itl ev S.pl))),(2,.is y (.row 3 1 S.m (trl S.tr)))]⟩
 refine cBlock<|cLoop (ι:=HS×Nat) (fun (p:HS×Nat)=>match p with | (T,j)=>⟨86,[(0,.ptr 0 0),(1,.d (.one (.v (.int .i64 ((j:Nat):Int))))),(2,.wit 1),(3,.wit 2)],[(0,.is pp (.box 81 ([.v x,.v y]))),(1,.is x (.row 84 15 T.n (itl ev T.pl))),(2,.is y (.row 3 1 T.m (trl T.tr)))]⟩) (fun (p:HS×Nat)=>match p with | (T,j)=>DnI (hL ev) S T j) (fun (p:HS×Nat)=>match p with | (T,j)=>T.m-j) (S,k) (DnI.start hf hk) (wkr rfl rfl) ?_;rintro ⟨T,j⟩ hI;have hI:DnI (hL ev) S T j:=hI;show AW _ _ _ ⟨_,_,_⟩
 refine cBlock<|cSeq ?_;have hj:=hI.jm;have hcj:=hI.fr.con.tr j hj;have hn:=hI.sam.n;have hmm:=hI.sam.m;refine cReg<|mW rfl<|mV hTT (.d (.one (.v (.int .i64 ((2*j:Nat):Int))))) (evi ((wr64 (by omega) (by omega)).trans (by omega)))<|mV hTT (.d (.one (.v (.int .i64 ((2*j+1:Nat):Int))))) (evi (inc64 (by omega)))<|mW rfl<|mT<|cSeq<|cSeq ?_
 by_cases hm1:T.m≤2*j+1
 ·exact cReg<|mv2 rfl rfl<|mX (.ptr 0 0) (xNilP rfl rfl)<|mv2 rfl rfl<|AL.wk (wkRaw 14 3 2 rfl rfl rfl rfl)<|mW rfl<|mdT rfl (by omega)<|mT<|cT rfl<|cRet<|tR<|bR<|tR<|bR<|rL (.tup []) (.tup []) [(0,.is pp (.box 81 ([.v x,.v y]))),(1,.is x (.row 84 15 T.n (itl ev T.pl))),(2,.is y (.row 3 1 T.m (trl T.tr)))] [(0,.ptr 0 0),(2,.wit 1),(3,.wit 2)] ⟨rfl,T,hI.leaf (hL_ok hE) hm1,rfl⟩ (resL_d hTT rfl AV.le.rfl) (wk (sl:= [(86,.tup []),(0,.ptr 0 0),(2,.wit 1),(3,.wit 2)]) (hp:= [(0,.is pp (.box 81 ([.v x,.v y]))),(1,.is x (.row 84 15 T.n (itl ev T.pl))),(2,.is y (.row 3 1 T.m (trl T.tr)))]) rfl ⟨hs rfl,hs rfl,hs rfl,hs rfl,trivial⟩ ⟨ho rfl,ho rfl,ho rfl,trivial⟩ rfl) ⟨⟨0,_,rfl,rfl⟩,⟨2,_,rfl,rfl⟩,⟨3,_,rfl,rfl⟩,trivial⟩
 ·refine cReg<|mv2 rfl rfl<|mX (.ptr 0 0) (xNilP rfl rfl)<|mv2 rfl rfl<|AL.wk (wkRaw 14 3 2 rfl rfl rfl rfl)<|mW rfl<|mdF rfl (by omega)<|mT<|cFs rfl<|cCut (ι:=Nat) (fun c=>⟨86,[(0,.ptr 0 0),(1,.d (.one (.v (.int .i64 ((j:Nat):Int))))),(2,.wit 1),(3,.wit 2),(4,.d (.one (.v (.int .i64 ((c:Nat):Int)))))],[(0,.is pp (.box 81 ([.v x,.v y]))),(1,.is x (.row 84 15 T.n (itl ev T.pl))),(2,.is y (.row 3 1 T.m (trl T.tr)))]⟩) (fun c=>c < T.m∧0 < c∧(c-1) / 2=j∧∀ i,0 < i→i < T.m→(i-1) / 2=j→¬ hL ev (T.tr i) (T.tr c)) ?_ (fun c hK=>?_)
  ·refine cCut (ι:=Bool) (fun b=>⟨86,[(0,.ptr 0 0),(1,.d (.one (.v (.int .i64 ((j:Nat):Int))))),(2,.wit 1),(3,.wit 2),(4,.d (.one (.v (.int .i64 ((2*j+1:Nat):Int))))),(43,.d (.one (.v (.bool b))))],[(0,.is pp (.box 81 ([.v x,.v y]))),(1,.is x (.row 84 15 T.n (itl ev T.pl))),(2,.is y (.row 3 1 T.m (trl T.tr)))]⟩) (fun b=>(b=true→2*j+1+1 < T.m∧hL ev (T.tr (2*j+1+1)) (T.tr (2*j+1)))∧(b=false→2*j+1+1 < T.m→¬ hL ev (T.tr (2*j+1+1)) (T.tr (2*j+1)))) ?_ (fun b hK=>?_)
   ·by_cases hm2:2*j+1+1 < T.m
    ·have hc1:=hI.fr.con.tr (2*j+1) (by omega);have hc2:=hI.fr.con.tr (2*j+1+1) hm2
     by_cases hl2:hL ev (T.tr (2*j+1+1)) (T.tr (2*j+1))
     ·refine cDk 25<|.cons (OpS.V _ rfl)<|.cons (OpS.V (.d (.one (.v (.int .i64 (((2*j+1)+1:Nat):Int))))) (evi (inc64 (by omega))))<|.cons (OpS.V _ rfl)<|.cons (OpS.X (.ptr 0 0) (xNilP rfl rfl))<|oV rfl<|.cons (OpS.Y y 3 2 rfl rfl rfl rfl rfl)<|oV rfl<|oTd rfl (by omega)<|.cons (OpS.V _ rfl)<|.cons (OpS.V _ rfl)<|.cons (OpS.V _ rfl)<|.cons (OpS.X (.ptr 0 0) (xNilP rfl rfl))<|oV rfl<|.cons (OpS.Y y 3 2 rfl rfl rfl rfl rfl)<|.cons (OpS.V _ rfl)<|.cons (OpS.V (.d (.one (.v (.int .i64 (((2*j+1)+1:Nat):Int))))) (evi (inc64 (by omega))))<|.cons (OpS.V (.eptr 2 1 ((2*j+1)+1) 0) (ixO (z:=(((2*j+1)+1:Nat):Int)) (n:=T.m) rfl rfl rfl rfl rfl rfl rfl (by omega) (by omega)))<|oV rfl<|.cons (OpS.V _ rfl)<|.cons (OpS.X (.ptr 0 0) (xNilP rfl rfl))<|oV rfl<|.cons (OpS.Y y 3 2 rfl rfl rfl rfl rfl)<|.cons (OpS.V _ rfl)<|.cons (OpS.V (.eptr 2 1 (2*j+1) 0) (ixO (z:=((2*j+1:Nat):Int)) (n:=T.m) rfl rfl rfl rfl rfl rfl rfl (by omega) (by omega)))<|oV rfl<|.nil<|mCL (aHLess (pp:=pp) (x:=x) (y:=y) (ev:=ev) (S:=T) (a:=(T.tr (2*j+1+1))) (b:=(T.tr (2*j+1))) (c:=true) hE hc2.1 hc2.2.1 hc1.1 hc1.2.1 (by omega) ⟨fun _=>hl2,fun _=>rfl⟩) [(0,0),(1,1),(2,2)] [] [] [] rfl rfl ⟨⟨_,_,rfl,AV.le.rfl,rfl⟩,⟨_,_,rfl,AV.le.rfl,rfl⟩,⟨_,_,rfl,AV.le.rfl,rfl⟩,trivial⟩ ⟨⟨_,_,rfl,rfl,AO.le.rfl,rfl⟩,⟨_,_,rfl,rfl,AO.le.rfl,rfl⟩,⟨_,_,rfl,rfl,AO.le.rfl,rfl⟩,trivial⟩ trivial ⟨⟨_,0,_,rfl,rfl,rfl⟩,⟨_,2,_,rfl,rfl,rfl⟩,⟨_,3,_,rfl,rfl,rfl⟩,trivial⟩ ⟨Or.inr ⟨_,_,rfl,by decide,fun _ _ h=>by obtain ⟨rfl,rfl⟩:=h;exact ⟨_,rfl⟩⟩,Or.inr ⟨_,_,rfl,by decide,fun _ _ h=>by obtain ⟨rfl,rfl⟩:=h;exact ⟨_,rfl⟩⟩,Or.inr ⟨_,_,rfl,by decide,fun _ _ h=>by obtain ⟨rfl,rfl⟩:=h;exact ⟨_,rfl⟩⟩,trivial⟩ trivial ?_;rintro _ _ ⟨rfl,rfl⟩;exact AL.wk (wk (sl:= [(0,.ptr 0 0),(1,.d (.one (.v (.int .i64 ((j:Nat):Int))))),(2,.wit 1),(3,.wit 2),(4,.d (.one (.v (.int .i64 ((2*j+1:Nat):Int))))),(16,.d (.one (.v (.bool false)))),(25,.d (.one (.v (.bool true)))),(42,.d (.one (.v (.bool true))))]) (hp:= [(0,.is pp (.box 81 ([.v x,.v y]))),(1,.is x (.row 84 15 T.n (itl ev T.pl))),(2,.is y (.row 3 1 T.m (trl T.tr)))]) rfl ⟨hs rfl,hs rfl,hs rfl,hs rfl,hs rfl,hs rfl,hs rfl,hs rfl,trivial⟩ ⟨ho rfl,ho rfl,ho rfl,trivial⟩ rfl)<|mW rfl<|mT<|⟨true,⟨fun _=>⟨hm2,hl2⟩,fun q=>absurd q Bool.noConfusion⟩,wkr rfl rfl⟩
     ·refine cDk 25<|.cons (OpS.V _ rfl)<|.cons (OpS.V (.d (.one (.v (.int .i64 (((2*j+1)+1:Nat):Int))))) (evi (inc64 (by omega))))<|.cons (OpS.V _ rfl)<|.cons (OpS.X (.ptr 0 0) (xNilP rfl rfl))<|oV rfl<|.cons (OpS.Y y 3 2 rfl rfl rfl rfl rfl)<|oV rfl<|oTd rfl (by omega)<|.cons (OpS.V _ rfl)<|.cons (OpS.V _ rfl)<|.cons (OpS.V _ rfl)<|.cons (OpS.X (.ptr 0 0) (xNilP rfl rfl))<|oV rfl<|.cons (OpS.Y y 3 2 rfl rfl rfl rfl rfl)<|.cons (OpS.V _ rfl)<|.cons (OpS.V (.d (.one (.v (.int .i64 (((2*j+1)+1:Nat):Int))))) (evi (inc64 (by omega))))<|.cons (OpS.V (.eptr 2 1 ((2*j+1)+1) 0) (ixO (z:=(((2*j+1)+1:Nat):Int)) (n:=T.m) rfl rfl rfl rfl rfl rfl rfl (by omega) (by omega)))<|oV rfl<|.cons (OpS.V _ rfl)<|.cons (OpS.X (.ptr 0 0) (xNilP rfl rfl))<|oV rfl<|.cons (OpS.Y y 3 2 rfl rfl rfl rfl rfl)<|.cons (OpS.V _ rfl)<|.cons (OpS.V (.eptr 2 1 (2*j+1) 0) (ixO (z:=((2*j+1:Nat):Int)) (n:=T.m) rfl rfl rfl rfl rfl rfl rfl (by omega) (by omega)))<|oV rfl<|.nil<|mCL (aHLess (pp:=pp) (x:=x) (y:=y) (ev:=ev) (S:=T) (a:=(T.tr (2*j+1+1))) (b:=(T.tr (2*j+1))) (c:=false) hE hc2.1 hc2.2.1 hc1.1 hc1.2.1 (by omega) ⟨fun q=>absurd q Bool.noConfusion,fun q=>absurd q hl2⟩) [(0,0),(1,1),(2,2)] [] [] [] rfl rfl ⟨⟨_,_,rfl,AV.le.rfl,rfl⟩,⟨_,_,rfl,AV.le.rfl,rfl⟩,⟨_,_,rfl,AV.le.rfl,rfl⟩,trivial⟩ ⟨⟨_,_,rfl,rfl,AO.le.rfl,rfl⟩,⟨_,_,rfl,rfl,AO.le.rfl,rfl⟩,⟨_,_,rfl,rfl,AO.le.rfl,rfl⟩,trivial⟩ trivial ⟨⟨_,0,_,rfl,rfl,rfl⟩,⟨_,2,_,rfl,rfl,rfl⟩,⟨_,3,_,rfl,rfl,rfl⟩,trivial⟩ ⟨Or.inr ⟨_,_,rfl,by decide,fun _ _ h=>by obtain ⟨rfl,rfl⟩:=h;exact ⟨_,rfl⟩⟩,Or.inr ⟨_,_,rfl,by decide,fun _ _ h=>by obtain ⟨rfl,rfl⟩:=h;exact ⟨_,rfl⟩⟩,Or.inr ⟨_,_,rfl,by decide,fun _ _ h=>by obtain ⟨rfl,rfl⟩:=h;exact ⟨_,rfl⟩⟩,trivial⟩ trivial ?_;rintro _ _ ⟨rfl,rfl⟩;exact AL.wk (wk (sl:= [(0,.ptr 0 0),(1,.d (.one (.v (.int .i64 ((j:Nat):Int))))),(2,.wit 1),(3,.wit 2),(4,.d (.one (.v (.int .i64 ((2*j+1:Nat):Int))))),(16,.d (.one (.v (.bool false)))),(25,.d (.one (.v (.bool true)))),(42,.d (.one (.v (.bool false))))]) (hp:= [(0,.is pp (.box 81 ([.v x,.v y]))),(1,.is x (.row 84 15 T.n (itl ev T.pl))),(2,.is y (.row 3 1 T.m (trl T.tr)))]) rfl ⟨hs rfl,hs rfl,hs rfl,hs rfl,hs rfl,hs rfl,hs rfl,hs rfl,trivial⟩ ⟨ho rfl,ho rfl,ho rfl,trivial⟩ rfl)<|mW rfl<|mT<|⟨false,⟨fun q=>absurd q Bool.noConfusion,fun _ _=>hl2⟩,wkr rfl rfl⟩
    ·exact cDk 27<|.cons (OpS.V _ rfl)<|.cons (OpS.V (.d (.one (.v (.int .i64 (((2*j+1)+1:Nat):Int))))) (evi (inc64 (by omega))))<|.cons (OpS.V _ rfl)<|.cons (OpS.X (.ptr 0 0) (xNilP rfl rfl))<|oV rfl<|.cons (OpS.Y y 3 2 rfl rfl rfl rfl rfl)<|oV rfl<|oFd rfl (by omega)<|.cons (OpS.V _ rfl)<|.cons (OpS.G rfl rfl)<|.cons (OpS.G rfl rfl)<|.cons (OpS.G rfl rfl)<|.cons (OpS.G rfl rfl)<|.cons (OpS.G rfl rfl)<|.cons (OpS.G rfl rfl)<|.cons (OpS.G rfl rfl)<|.cons (OpS.G rfl rfl)<|.cons (OpS.G rfl rfl)<|.cons (OpS.G rfl rfl)<|.cons (OpS.G rfl rfl)<|.cons (OpS.G rfl rfl)<|.cons (OpS.G rfl rfl)<|.cons (OpS.G rfl rfl)<|.cons (OpS.G rfl rfl)<|.cons (OpS.G rfl rfl)<|.cons (OpS.G rfl rfl)<|.cons (OpS.V _ rfl)<|.nil<|mT<|⟨false,⟨fun q=>absurd q Bool.noConfusion,fun _ q=>absurd q hm2⟩,wkr rfl rfl⟩
   ·obtain ⟨hb1,hb2⟩:=hK;show AW _ _ _ ⟨_,_,_⟩
    cases b
    ·exact cFs rfl<|⟨(2*j+1),⟨by omega,by omega,by omega,hI.one (hL_ok hE) (by omega) (hb2 rfl)⟩,wkr rfl rfl⟩
    ·exact cT rfl<|cReg<|mW rfl<|mV hTT (.d (.one (.v (.int .i64 (((2*j+1)+1:Nat):Int))))) (evi (inc64 (by omega)))<|mW rfl<|mT<|⟨(2*j+1+1),⟨(hb1 rfl).1,by omega,by omega,hI.two (hL_ok hE) (hb1 rfl).1 (hb1 rfl).2⟩,wkr rfl rfl⟩
  ·obtain ⟨hcm,hc0,hcp,hcb⟩:=hK;show AW _ _ _ ⟨_,_,_⟩
   refine cSeq<|cSeq ?_;have hcc:=hI.fr.con.tr c hcm
   by_cases hlt:hL ev (T.tr c) (T.tr j)
   ·refine cDk 15<|.cons (OpS.V _ rfl)<|.cons (OpS.V _ rfl)<|.cons (OpS.X (.ptr 0 0) (xNilP rfl rfl))<|oV rfl<|.cons (OpS.Y y 3 2 rfl rfl rfl rfl rfl)<|.cons (OpS.V _ rfl)<|.cons (OpS.V (.eptr 2 1 c 0) (ixO (z:=((c:Nat):Int)) (n:=T.m) rfl rfl rfl rfl rfl rfl rfl (by omega) (by omega)))<|oV rfl<|.cons (OpS.V _ rfl)<|.cons (OpS.X (.ptr 0 0) (xNilP rfl rfl))<|oV rfl<|.cons (OpS.Y y 3 2 rfl rfl rfl rfl rfl)<|.cons (OpS.V _ rfl)<|.cons (OpS.V (.eptr 2 1 j 0) (ixO (z:=((j:Nat):Int)) (n:=T.m) rfl rfl rfl rfl rfl rfl rfl (by omega) (by omega)))<|oV rfl<|.nil<|mCL (aHLess (pp:=pp) (x:=x) (y:=y) (ev:=ev) (S:=T) (a:=(T.tr c)) (b:=(T.tr j)) (c:=true) hE hcc.1 hcc.2.1 hcj.1 hcj.2.1 (by omega) ⟨fun _=>hlt,fun _=>rfl⟩) [(0,0),(1,1),(2,2)] [] [] [] rfl rfl ⟨⟨_,_,rfl,AV.le.rfl,rfl⟩,⟨_,_,rfl,AV.le.rfl,rfl⟩,⟨_,_,rfl,AV.le.rfl,rfl⟩,trivial⟩ ⟨⟨_,_,rfl,rfl,AO.le.rfl,rfl⟩,⟨_,_,rfl,rfl,AO.le.rfl,rfl⟩,⟨_,_,rfl,rfl,AO.le.rfl,rfl⟩,trivial⟩ trivial ⟨⟨_,0,_,rfl,rfl,rfl⟩,⟨_,2,_,rfl,rfl,rfl⟩,⟨_,3,_,rfl,rfl,rfl⟩,trivial⟩ ⟨Or.inr ⟨_,_,rfl,by decide,fun _ _ h=>by obtain ⟨rfl,rfl⟩:=h;exact ⟨_,rfl⟩⟩,Or.inr ⟨_,_,rfl,by decide,fun _ _ h=>by obtain ⟨rfl,rfl⟩:=h;exact ⟨_,rfl⟩⟩,Or.inr ⟨_,_,rfl,by decide,fun _ _ h=>by obtain ⟨rfl,rfl⟩:=h;exact ⟨_,rfl⟩⟩,trivial⟩ trivial ?_;rintro _ _ ⟨rfl,rfl⟩;refine AL.wk (wk (sl:= [(0,.ptr 0 0),(1,.d (.one (.v (.int .i64 ((j:Nat):Int))))),(2,.wit 1),(3,.wit 2),(4,.d (.one (.v (.int .i64 ((c:Nat):Int))))),(61,.d (.one (.v (.bool true))))]) (hp:= [(0,.is pp (.box 81 ([.v x,.v y]))),(1,.is x (.row 84 15 T.n (itl ev T.pl))),(2,.is y (.row 3 1 T.m (trl T.tr)))]) rfl ⟨hs rfl,hs rfl,hs rfl,hs rfl,hs rfl,hs rfl,trivial⟩ ⟨ho rfl,ho rfl,ho rfl,trivial⟩ rfl)<|mW rfl<|mT<|cFs rfl<|cSeq<|cDk 16<|.cons (OpS.V _ rfl)<|.cons (OpS.X (.ptr 0 0) (xNilP rfl rfl))<|oV rfl<|.cons (OpS.Y y 3 2 rfl rfl rfl rfl rfl)<|.cons (OpS.V _ rfl)<|.cons (OpS.V (.eptr 2 1 j 0) (ixO (z:=((j:Nat):Int)) (n:=T.m) rfl rfl rfl rfl rfl rfl rfl (by omega) (by omega)))<|oV rfl<|.cons (OpS.V _ rfl)<|.cons (OpS.X (.ptr 0 0) (xNilP rfl rfl))<|oV rfl<|.cons (OpS.Y y 3 2 rfl rfl rfl rfl rfl)<|.cons (OpS.V _ rfl)<|.cons (OpS.V (.eptr 2 1 c 0) (ixO (z:=((c:Nat):Int)) (n:=T.m) rfl rfl rfl rfl rfl rfl rfl (by omega) (by omega)))<|oV rfl<|.cons (OpS.V _ rfl)<|.cons (OpS.V _ rfl)<|.nil<|mT<|cR<|mv3 rfl rfl rfl<|mCL (aHLay (pp:=pp) (x:=x) (y:=y) (ev:=ev) (S:=T) (k:=j) (h:=(T.tr c)) hj hcc.1 hcc.2.1 (by omega) (by omega)) [(0,0),(1,1),(2,2)] [] [] [] rfl rfl ⟨⟨_,_,rfl,AV.le.rfl,rfl⟩,⟨_,_,rfl,AV.le.rfl,rfl⟩,⟨_,_,rfl,AV.le.rfl,rfl⟩,trivial⟩ ⟨⟨_,_,rfl,rfl,AO.le.rfl,rfl⟩,⟨_,_,rfl,rfl,AO.le.rfl,rfl⟩,⟨_,_,rfl,rfl,AO.le.rfl,rfl⟩,trivial⟩ trivial ⟨⟨_,0,_,rfl,rfl,rfl⟩,⟨_,2,_,rfl,rfl,rfl⟩,⟨_,3,_,rfl,rfl,rfl⟩,trivial⟩ ⟨Or.inr ⟨_,_,rfl,by decide,fun _ _ h=>by obtain ⟨rfl,rfl⟩:=h;exact ⟨_,rfl⟩⟩,Or.inr ⟨_,_,rfl,by decide,fun _ _ h=>by obtain ⟨rfl,rfl⟩:=h;exact ⟨_,rfl⟩⟩,Or.inr ⟨_,_,rfl,by decide,fun _ _ h=>by obtain ⟨rfl,rfl⟩:=h;exact ⟨_,rfl⟩⟩,trivial⟩ trivial ?_;rintro _ _ ⟨rfl,rfl⟩;refine AL.wk (wk (sl:= [(0,.ptr 0 0),(1,.d (.one (.v (.int .i64 ((j:Nat):Int))))),(2,.wit 1),(3,.wit 2),(4,.d (.one (.v (.int .i64 ((c:Nat):Int))))),(62,.d (.one (.v (.bool false)))),(5,.d (.one (.v (.int .i64 ((T.tr j:Nat):Int))))),(6,.d (.one (.v (.int .i64 ((T.tr c:Nat):Int))))),(80,.tup [])]) (hp:= [(0,.is pp (.box 81 ([.v x,.v y]))),(1,.is x (.row 84 15 ((T.lay j (T.tr c)).n) (itl ev (T.lay j (T.tr c)).pl))),(2,.is y (.row 3 1 ((T.lay j (T.tr c)).m) (trl (T.lay j (T.tr c)).tr)))]) rfl ⟨hs rfl,hs rfl,hs rfl,hs rfl,hs rfl,hs rfl,hs rfl,hs rfl,hs rfl,trivial⟩ ⟨ho rfl,ho rfl,ho rfl,trivial⟩ rfl)<|mT<|cR<|mv3 rfl rfl rfl<|mCL (aHLay (pp:=pp) (x:=x) (y:=y) (ev:=ev) (S:=(T.lay j (T.tr c))) (k:=c) (h:=(T.tr j)) (show c < T.m from hcm) hcj.1 hcj.2.1 (show T.n≤100000 from by omega) (show T.m≤100000 from by omega)) [(0,0),(1,1),(2,2)] [] [] [] rfl rfl ⟨⟨_,_,rfl,AV.le.rfl,rfl⟩,⟨_,_,rfl,AV.le.rfl,rfl⟩,⟨_,_,rfl,AV.le.rfl,rfl⟩,trivial⟩ ⟨⟨_,_,rfl,rfl,AO.le.rfl,rfl⟩,⟨_,_,rfl,rfl,AO.le.rfl,rfl⟩,⟨_,_,rfl,rfl,AO.le.rfl,rfl⟩,trivial⟩ trivial ⟨⟨_,0,_,rfl,rfl,rfl⟩,⟨_,2,_,rfl,rfl,rfl⟩,⟨_,3,_,rfl,rfl,rfl⟩,trivial⟩ ⟨Or.inr ⟨_,_,rfl,by decide,fun _ _ h=>by obtain ⟨rfl,rfl⟩:=h;exact ⟨_,rfl⟩⟩,Or.inr ⟨_,_,rfl,by decide,fun _ _ h=>by obtain ⟨rfl,rfl⟩:=h;exact ⟨_,rfl⟩⟩,Or.inr ⟨_,_,rfl,by decide,fun _ _ h=>by obtain ⟨rfl,rfl⟩:=h;exact ⟨_,rfl⟩⟩,trivial⟩ trivial ?_;rintro _ _ ⟨rfl,rfl⟩;exact AL.wk (wk (sl:= [(0,.ptr 0 0),(1,.d (.one (.v (.int .i64 ((j:Nat):Int))))),(2,.wit 1),(3,.wit 2),(4,.d (.one (.v (.int .i64 ((c:Nat):Int))))),(62,.d (.one (.v (.bool false)))),(5,.d (.one (.v (.int .i64 ((T.tr j:Nat):Int))))),(6,.d (.one (.v (.int .i64 ((T.tr c:Nat):Int))))),(84,.tup [])]) (hp:= [(0,.is pp (.box 81 ([.v x,.v y]))),(1,.is x (.row 84 15 (((T.lay j (T.tr c)).lay c (T.tr j)).n) (itl ev ((T.lay j (T.tr c)).lay c (T.tr j)).pl))),(2,.is y (.row 3 1 (((T.lay j (T.tr c)).lay c (T.tr j)).m) (trl ((T.lay j (T.tr c)).lay c (T.tr j)).tr)))]) rfl ⟨hs rfl,hs rfl,hs rfl,hs rfl,hs rfl,hs rfl,hs rfl,hs rfl,hs rfl,trivial⟩ ⟨ho rfl,ho rfl,ho rfl,trivial⟩ rfl)<|mT<|cReg<|mv2 rfl rfl<|mNil<|bN<|⟨((T.swp j c),c),hI.step (hL_ok hE) hcm hc0 hcp hlt hcb,by show T.m-c < T.m-j;omega,wkr rfl rfl⟩
   ·refine cDk 15<|.cons (OpS.V _ rfl)<|.cons (OpS.V _ rfl)<|.cons (OpS.X (.ptr 0 0) (xNilP rfl rfl))<|oV rfl<|.cons (OpS.Y y 3 2 rfl rfl rfl rfl rfl)<|.cons (OpS.V _ rfl)<|.cons (OpS.V (.eptr 2 1 c 0) (ixO (z:=((c:Nat):Int)) (n:=T.m) rfl rfl rfl rfl rfl rfl rfl (by omega) (by omega)))<|oV rfl<|.cons (OpS.V _ rfl)<|.cons (OpS.X (.ptr 0 0) (xNilP rfl rfl))<|oV rfl<|.cons (OpS.Y y 3 2 rfl rfl rfl rfl rfl)<|.cons (OpS.V _ rfl)<|.cons (OpS.V (.eptr 2 1 j 0) (ixO (z:=((j:Nat):Int)) (n:=T.m) rfl rfl rfl rfl rfl rfl rfl (by omega) (by omega)))<|oV rfl<|.nil<|mCL (aHLess (pp:=pp) (x:=x) (y:=y) (ev:=ev) (S:=T) (a:=(T.tr c)) (b:=(T.tr j)) (c:=false) hE hcc.1 hcc.2.1 hcj.1 hcj.2.1 (by omega) ⟨fun q=>absurd q Bool.noConfusion,fun q=>absurd q hlt⟩) [(0,0),(1,1),(2,2)] [] [] [] rfl rfl ⟨⟨_,_,rfl,AV.le.rfl,rfl⟩,⟨_,_,rfl,AV.le.rfl,rfl⟩,⟨_,_,rfl,AV.le.rfl,rfl⟩,trivial⟩ ⟨⟨_,_,rfl,rfl,AO.le.rfl,rfl⟩,⟨_,_,rfl,rfl,AO.le.rfl,rfl⟩,⟨_,_,rfl,rfl,AO.le.rfl,rfl⟩,trivial⟩ trivial ⟨⟨_,0,_,rfl,rfl,rfl⟩,⟨_,2,_,rfl,rfl,rfl⟩,⟨_,3,_,rfl,rfl,rfl⟩,trivial⟩ ⟨Or.inr ⟨_,_,rfl,by decide,fun _ _ h=>by obtain ⟨rfl,rfl⟩:=h;exact ⟨_,rfl⟩⟩,Or.inr ⟨_,_,rfl,by decide,fun _ _ h=>by obtain ⟨rfl,rfl⟩:=h;exact ⟨_,rfl⟩⟩,Or.inr ⟨_,_,rfl,by decide,fun _ _ h=>by obtain ⟨rfl,rfl⟩:=h;exact ⟨_,rfl⟩⟩,trivial⟩ trivial ?_;rintro _ _ ⟨rfl,rfl⟩;exact AL.wk (wk (sl:= [(0,.ptr 0 0),(1,.d (.one (.v (.int .i64 ((j:Nat):Int))))),(2,.wit 1),(3,.wit 2),(4,.d (.one (.v (.int .i64 ((c:Nat):Int))))),(61,.d (.one (.v (.bool false))))]) (hp:= [(0,.is pp (.box 81 ([.v x,.v y]))),(1,.is x (.row 84 15 T.n (itl ev T.pl))),(2,.is y (.row 3 1 T.m (trl T.tr)))]) rfl ⟨hs rfl,hs rfl,hs rfl,hs rfl,hs rfl,hs rfl,trivial⟩ ⟨ho rfl,ho rfl,ho rfl,trivial⟩ rfl)<|mW rfl<|mT<|cT rfl<|cRet<|tR<|bR<|tR<|bR<|rL (.tup []) (.tup []) [(0,.is pp (.box 81 ([.v x,.v y]))),(1,.is x (.row 84 15 T.n (itl ev T.pl))),(2,.is y (.row 3 1 T.m (trl T.tr)))] [(0,.ptr 0 0),(2,.wit 1),(3,.wit 2)] ⟨rfl,T,hI.fin (hL_ok hE) hcm hlt hcb,rfl⟩ (resL_d hTT rfl AV.le.rfl) (wk (sl:= [(86,.tup []),(0,.ptr 0 0),(2,.wit 1),(3,.wit 2)]) (hp:= [(0,.is pp (.box 81 ([.v x,.v y]))),(1,.is x (.row 84 15 T.n (itl ev T.pl))),(2,.is y (.row 3 1 T.m (trl T.tr)))]) rfl ⟨hs rfl,hs rfl,hs rfl,hs rfl,trivial⟩ ⟨ho rfl,ho rfl,ho rfl,trivial⟩ rfl) ⟨⟨0,_,rfl,rfl⟩,⟨2,_,rfl,rfl⟩,⟨3,_,rfl,rfl⟩,trivial⟩
theorem mSh{P:Program}{T:TypeId→Option TI}(hT:TOk P T){ops:Array Oper}{Q:Qs}{o:Oper}{l:List Oper}{s:AS}{x y:Operand}{t e:TypeId}{ti te:TI}{id n h d:Nat}{el:Nat→Nat→Lf} 
  (hop:o.op= .slice t x none (some y) none) (hx:geto s x=some (.own id)) (hob:lk s.hp id=some (.row e te.n n el)) (hhi:bndV s (some y) n=some h) (hle:h≤n) (hti:T t=some ti) (he:ti.elem=some e) (hte:T e=some te)
  (hdst:o.dst=some d) (k:AL P ops Q l ⟨s.n,(d,.own id) ::fzs id .dead (fun _=> .dead) s.sl,(id,.row e te.n h el) ::s.hp⟩) (hg:gst ops s o=some true:=by rfl) (hd:dok (some d) s.n=true:=by rfl):AL P ops Q (o ::l) s:=by
 rintro B0 w0 a w ⟨ρ,hcr,hn,hdf,hs⟩;obtain ⟨hid,ad,n',cap,hxe⟩:=geto_ok hs hx;obtain ⟨ob,o1,o2⟩:=hcr.obj id _ hid;rw [hob] at o1;cases o1
 obtain ⟨xs,hown,hel⟩:=o2;obtain ⟨i,z,dd,h1,h2,h3,h4,h5,h6,h7,h8,h9,_⟩:=ti_parts (hT _ _ hti);have:=h9 e he;subst this;obtain ⟨i',z',dd',k1,k2,k3,k4,_⟩:=ti_parts (hT _ _ hte);have hshape:n'=n∧n≤cap∧(if cap=0 then ad else ad.map (·.add (0*i'.size)))=ad:=by
  rcases hown.1.2 with ⟨hee,hn0⟩ | ⟨g2,cap2,cur,hee,hge,hblk,hnc,hm,hsz,ht⟩
  ·rw [hxe] at hee;cases hee;subst hn0;exact ⟨rfl,Nat.le_refl _,rfl⟩
  ·rw [hxe] at hee;cases hee
   refine ⟨rfl,hnc,?_⟩;split
   ·rfl
   ·rw [Nat.zero_mul];simp [add_lit]
 obtain ⟨rfl,hncap,hadd⟩:=hshape;have hb:=bndV_ok (P:=P) (w:=w) (code:= .sliceAcap) hs hhi (show h≤cap by omega);have hrun:(execOp a.eval o).run P w= .ok (.value (.slice ad h cap)) w:=by
  unfold execOp;rw [hop];refine run_value ?_;have hbs:(Instr.sliceBounds true n' cap none (some (a.eval y)) none).run P w= .ok (0,h,cap) w:=by simp [Instr.sliceBounds,hb]
  rw [hxe];simp only [Instr.sliceAt,Instr.slice,Sem.run_bind,run_underlying h3,Result.andThen_ok,Option.map_none,Option.map_some,hbs,sizeOf,typeInfo,run_program,k1,Sem.run_pure];rw [hadd];rfl
 have hvb:∀ b,vblk (.slice ad h cap)=some b→vblk (a.eval x)=some b:=by
  intro b hb2;rw [hxe];cases ad with
  | none=>cases hb2
  | some q=>exact hb2
 have hown':w.ownsRow 0 e te.n (.slice ad h cap) h (xs.take (h*te.n)):=by
  have hmul:h*te.n≤n'*te.n:=Nat.mul_le_mul_right _ hle;refine ⟨by rw [List.length_take,hown.1.1];omega,?_⟩;rcases hown.1.2 with ⟨hee,hn0⟩ | ⟨g2,cap2,cur,hee,hge,hblk,hnc,hm,hsz,ht⟩
  ·rw [hxe] at hee;cases hee
   have h0:h=0:=by omega
   subst h0;exact Or.inl ⟨rfl,rfl⟩
  ·rw [hxe] at hee;cases hee
   refine Or.inr ⟨g2,cap,cur,rfl,hge,hblk,by omega,hm,hsz,?_⟩;rw [← ht,List.take_take,Nat.min_eq_left hmul]
 have hK:Keep (Bd ρ B0) w w:=⟨Nat.le_refl _,fun _ _ _=>rfl⟩;have hB':∀ b,b < w.heap.size→Bd (up ρ id (.slice ad h cap)) B0 b→Bd ρ B0 b:=by
  rintro b hb2 (h' | ⟨k',u,q1,q2⟩)
  ·exact Or.inl h'
  ·unfold up at q1
   split at q1
   ·cases q1;exact Or.inr ⟨id,_,hid,hvb b q2⟩
   ·exact Or.inr ⟨k',u,q1,q2⟩
 have hW:=Core.write (v':= .slice ad h cap) (ob':= .row e te.n h el) (hp':=(id,.row e te.n h el) ::s.hp) hcr hid (w':=w) (fun _ _ _=>rfl) (Nat.le_refl _) hcr.bel (fun b hb2=>Or.inl (hvb b hb2))
  (fun k' ob hk hne=>by rw [lk_cons,if_neg (fun e=>hne e.symm)];exact hk) (by rw [lk_cons,if_pos rfl])
  ⟨xs.take (h*te.n),⟨hown',fun b hb=>hown.2 b (hvb b hb)⟩,fun p q hp hq=>by
   obtain ⟨u,hu1,hu2⟩:=hel p q (by omega) hq;refine ⟨u,?_,LfR.mv hK hB' _ hu2⟩;rw [List.getElem?_take,if_pos]
   ·exact hu1
   ·have:(p+1)*te.n≤h*te.n:=Nat.mul_le_mul_right _ hp
    rw [Nat.succ_mul] at this;omega⟩
 refine wpl_value (gst_ok hg hs) hrun (k B0 w0 _ w ⟨up ρ id (.slice ad h cap),hW.1,by rw [hdst];show (a.tmps.setIfInBounds d _).size=s.n;simpa using hn,by rw [hdst];exact hdf,?_⟩);rw [hdst];have hsl2:Slots (up ρ id (.slice ad h cap)) (Bd (up ρ id (.slice ad h cap)) B0) w (fzs id .dead (fun _=> .dead) s.sl) a:=by
  intro u av hu;obtain ⟨av',q1,rfl⟩:=lk_fzs _ _ _ hu;obtain ⟨v,q2,q3⟩:=hs u av' q1;refine ⟨v,q2,?_⟩;have keep:(∀ k,av'.on k=true→k≠id)→AR (up ρ id (.slice ad h cap)) (Bd (up ρ id (.slice ad h cap)) B0) w av' v:=fun hne=>AR.mv hK hB' (fun k hk=>by unfold up;rw [if_neg (hne k hk)]) q3
  cases av' with
  | own k=>
   show AR _ _ _ (bif Nat.beq k id then .dead else .own k) v
   cases e:Nat.beq k id with
   | true=>trivial
   | false=>exact keep (fun k' hk'=>by have:k=k':=Nat.eq_of_beq_eq_true hk';rintro rfl;rw [this,Nat.beq_refl] at e;cases e)
  | ptr k off=>
   show AR _ _ _ (bif Nat.beq k id then .dead else .ptr k off) v
   cases e:Nat.beq k id with
   | true=>trivial
   | false=>exact keep (fun k' hk'=>by have:k=k':=Nat.eq_of_beq_eq_true hk';rintro rfl;rw [this,Nat.beq_refl] at e;cases e)
  | eptr k sz i j=>
   show AR _ _ _ (bif Nat.beq k id then .dead else .eptr k sz i j) v
   cases e:Nat.beq k id with
   | true=>trivial
   | false=>exact keep (fun k' hk'=>by have:k=k':=Nat.eq_of_beq_eq_true hk';rintro rfl;rw [this,Nat.beq_refl] at e;cases e)
  | lim k j=>
   show AR _ _ _ (bif Nat.beq k id then .dead else .lim k j) v
   cases e:Nat.beq k id with
   | true=>trivial
   | false=>exact keep (fun k' hk'=>by have:k=k':=Nat.eq_of_beq_eq_true hk';rintro rfl;rw [this,Nat.beq_refl] at e;cases e)
  | ptup k j=>
   show AR _ _ _ (bif Nat.beq k id then .dead else .ptup k j) v
   cases e:Nat.beq k id with
   | true=>trivial
   | false=>exact keep (fun k' hk'=>by have:k=k':=Nat.eq_of_beq_eq_true hk';rintro rfl;rw [this,Nat.beq_refl] at e;cases e)
  | wit k=>
   show AR _ _ _ (bif Nat.beq k id then .dead else .wit k) v
   cases e:Nat.beq k id with
   | true=>trivial
   | false=>exact keep (fun k' hk'=>by have:k=k':=Nat.eq_of_beq_eq_true hk';rintro rfl;rw [this,Nat.beq_refl] at e;cases e)
  | d x=>exact keep (fun k hk=>by cases hk)
  | tup x=>exact keep (fun k hk=>by cases hk)
  | dead=>trivial
 exact slots_put hsl2 hn (Nat.le_of_ble_eq_true hd) ⟨by simp [up],⟨_,_,_,rfl⟩⟩
theorem aHPush{pp x y:Value}{ev:Nat→ET}{S:HS}{e:ET}(hE:∀ i,HE (ev i))(he:HE e)(hp:Hp (hL ev) S)(hN:S.n≤1000)(hM:S.m≤1000):ACallL Tryz.prog 7 [.ptr 0 0,.d (.agg (evc e))] (hpO pp x y ev S) [0,1,2] [0,1,2] (fun r hp=>∃ T x' y',(Hp (hL (updH ev S.n e)) T∧PshR S T)∧r= .d (.one (.v (.int .i64 ((S.n+1:Nat):Int))))∧hp=(hpO pp x' y' (updH ev S.n e) T)):=by
 have hE1:=updH_all (q:=HE) (i:=S.n) hE he;refine acallLN 55 [.tmp 4] [(2,1),(41,2)] Tryz.func7 rfl rfl rfl rfl rfl ⟨⟨Nat.le_of_ble_eq_true rfl,by decide,by decide⟩,⟨Nat.le_of_ble_eq_true rfl,by decide,by decide⟩,trivial⟩ ?_;show AW _ _ _ ⟨55,[(0,.ptr 0 0),(1,.d (.agg (evc e))),(2,.wit 1),(41,.wit 2)],[(0,.is pp (.box 81 ([.v x,.v y]))),(1,.is x (.row 84 15 S.n (itl ev S.pl))),(2,.is y (.row 3 1 S.m (trl S.tr)))]⟩
 refine cR<|mO rfl<|mW rfl<|mT<|cR<|mv2 rfl rfl<|mY (aHFresh he.v he.l5) rfl<|mW rfl<|mZ rfl<|mT<|cSeq<|cAnyB (by kernel_rfl)<|bTake 0 rfl (by kernel_rfl) (by kernel_rfl) (by kernel_rfl) (fun _ _ h=>h) rfl rfl (av:= .ptr 0 0) (pMove rfl rfl)<|bTake 1 rfl (by kernel_rfl) (by kernel_rfl) (by kernel_rfl) (fun _ _ h=>h) rfl rfl (av:= .ptr 0 0) (pMove rfl rfl)<|bTake 2 rfl (by kernel_rfl) (by kernel_rfl) (by kernel_rfl) (fun _ _ h=>h) rfl rfl (av:= .ptr 0 0) (pNilP rfl rfl)<|bTake 3 rfl (by kernel_rfl) (by kernel_rfl) (by kernel_rfl) (fun _ _ h=>h) rfl rfl (av:= .ptr 0 0) (pFld hTT (off:=0) (q:=0) rfl rfl rfl rfl rfl rfl)<|bOf<|anyCut 1 #[true,true,true,true,true,true,true,true,true,true,true,false] ⟨55,[(0,.ptr 0 0),(1,.d (.agg (evc e))),(2,.dead),(41,.wit 2),(3,.ptr 3 0),(4,.d (.one (.v (.int .i64 0)))),(9,.ptr 0 0),(10,.ptr 0 0),(11,.ptr 0 0),(12,.ptr 0 0),(13,.dead),(14,.d (.agg (tgc e.1 ++alc 4 e.2.1 1200 e.2.2.1 1200 e.2.2.2))),(15,.d (.agg (tgc e.1 ++alc 4 e.2.1 1200 e.2.2.1 1200 e.2.2.2 ++([.v (.int .i64 0)]:List Lf)))),(16,.d (.one (.row 15 1 (fun i' j'=>((tgc e.1 ++alc 4 e.2.1 1200 e.2.2.1 1200 e.2.2.2 ++([.v (.int .i64 0)]:List Lf))[i'*15+j']?).getD (.v undef))))),(17,.own 1),(18,.ptr 0 0),(19,.ptr 0 0)],[(0,.is pp (.box 81 ([.v x,.v y]))),(1,.row 84 15 (S.n+1) (appEl S.n (itl ev S.pl) (fun i' j'=>((tgc e.1 ++alc 4 e.2.1 1200 e.2.2.1 1200 e.2.2.2 ++([.v (.int .i64 0)]:List Lf))[i'*15+j']?).getD (.v undef)))),(2,.is y (.row 3 1 S.m (trl S.tr))),(3,.box 54 (tgc e.1 ++alc 4 e.2.1 1200 e.2.2.1 1200 e.2.2.2))]⟩ ?_ (fun hD111111111110=>?_)
 ·refine anyS [11] (by kernel_rfl) rfl ?_;refine ⟨⟨_,rfl,?_⟩,trivial⟩
  ·refine mSo hTT 17 1 0 (fun x'=> .is pp (.box 81 ([.v x',.v y]))) rfl rfl (fun _=>rfl) (fun x1=>?_);refine mT<|anyN (by kernel_rfl)<|tN<|cR<|mv2 rfl rfl<|mX (.ptr 0 0) (xNilP rfl rfl)<|mv2 rfl rfl<|AL.wk (wkRaw 24 41 2 rfl rfl rfl rfl)<|mB hTT (.d (.one (.row 1 1 (fun i' j'=>(([.v (.int .i64 0)])[i'*1+j']?).getD (.v undef))))) rfl<|AL.wk (wk (sl:= [(0,.ptr 0 0),(1,.d (.agg (evc e))),(41,.wit 2),(3,.ptr 3 0),(4,.d (.one (.v (.int .i64 0)))),(17,.own 1),(20,.ptr 0 0),(24,.own 2),(25,.d (.one (.row 1 1 (fun i' j'=>(([.v (.int .i64 0)])[i'*1+j']?).getD (.v undef)))))]) (hp:= [(0,.is pp (.box 81 ([.v x1,.v y]))),(1,.is x1 (.row 84 15 (S.n+1) (appEl S.n (itl ev S.pl) (fun i' j'=>((tgc e.1 ++alc 4 e.2.1 1200 e.2.2.1 1200 e.2.2.2 ++([.v (.int .i64 0)]:List Lf))[i'*15+j']?).getD (.v undef))))),(2,.row 3 1 S.m (trl S.tr)),(3,.box 54 (tgc e.1 ++alc 4 e.2.1 1200 e.2.2.1 1200 e.2.2.2))]) rfl ⟨hs rfl,hs rfl,hs rfl,hs rfl,hs rfl,hs rfl,hs rfl,hs rfl,hs rfl,trivial⟩ ⟨ho rfl,ho rfl,ho' rfl (leo_un AO.le.rfl),ho rfl,trivial⟩ rfl)<|mA hTT (id:=2) (n:=S.m) (m:=1) (el:=(trl S.tr)) (el2:=(fun i' j'=>(([.v (.int .i64 0)])[i'*1+j']?).getD (.v undef))) rfl rfl rfl (by show (S.m+1)*8≤140737488355328;omega) (by omega) rfl rfl rfl rfl rfl rfl rfl rfl rfl rfl<|mX (.ptr 0 0) (xNilP rfl rfl)<|mW rfl<|mSo hTT 26 2 0 (fun x'=> .is pp (.box 81 ([.v x1,.v x']))) rfl rfl (fun _=>rfl) (fun x2=>?_);refine mT<|cSeq<|AW.wk (wk (sl:= [(0,.ptr 0 0),(1,.d (.agg (evc e))),(3,.ptr 3 0),(4,.d (.one (.v (.int .i64 0)))),(17,.own 1),(26,.own 2)]) (hp:= [(0,.is pp (.box 81 ([.v x1,.v x2]))),(1,.is x1 (.row 84 15 ((⟨S.n+1,updH S.pl S.n 0,S.m+1,updH S.tr S.m 0⟩:HS).n) (itl (updH ev S.n e) (⟨S.n+1,updH S.pl S.n 0,S.m+1,updH S.tr S.m 0⟩:HS).pl))),(2,.is x2 (.row 3 1 ((⟨S.n+1,updH S.pl S.n 0,S.m+1,updH S.tr S.m 0⟩:HS).m) (trl (⟨S.n+1,updH S.pl S.n 0,S.m+1,updH S.tr S.m 0⟩:HS).tr))),(3,.box 54 (tgc e.1 ++alc 4 e.2.1 1200 e.2.2.1 1200 e.2.2.2))]) rfl ⟨hs rfl,hs rfl,hs rfl,hs rfl,hs rfl,hs rfl,trivial⟩ ⟨ho rfl,ho' rfl (leo_nm (leo_iap (fun j hj=>by rw [Nat.zero_mul,Nat.zero_add]))),ho' rfl (leo_nm (leo_tap rfl)),ho rfl,trivial⟩ rfl) ?_;have em1:(⟨S.n+1,updH S.pl S.n 0,S.m+1,updH S.tr S.m 0⟩:HS).m=S.m+1:=rfl;have em2:S.psh.m=S.m+1:=rfl;refine cDk 12<|.cons (OpS.V _ rfl)<|.cons (OpS.V _ rfl)<|.cons (OpS.X (.ptr 0 0) (xNilP rfl rfl))<|oV rfl<|.cons (OpS.Y x2 26 2 rfl rfl rfl rfl rfl)<|oV rfl<|.cons (OpS.V (.d (.one (.v (.int .i64 ((S.m:Nat):Int))))) (evi ((wr64 (by omega) (by omega)).trans (by omega))))<|.cons (OpS.V _ rfl)<|.cons (OpS.X (.ptr 0 0) (xNilP rfl rfl))<|oV rfl<|.cons (OpS.Y x1 17 1 rfl rfl rfl rfl rfl)<|oV rfl<|.nil<|mCL (aHLay (pp:=pp) (x:=x1) (y:=x2) (ev:=(updH ev S.n e)) (S:=(⟨S.n+1,updH S.pl S.n 0,S.m+1,updH S.tr S.m 0⟩:HS)) (k:=S.m) (h:=(S.n+1)) (Nat.lt_succ_self _) (Nat.succ_ne_zero _) (Nat.le_refl _) (show S.n+1≤100000 from by omega) (show S.m+1≤100000 from by omega)) [(0,0),(1,1),(2,2)] [] [] [] rfl rfl ⟨⟨_,_,rfl,AV.le.rfl,rfl⟩,⟨_,_,rfl,AV.le.rfl,rfl⟩,⟨_,_,rfl,AV.le.rfl,rfl⟩,trivial⟩ ⟨⟨_,_,rfl,rfl,AO.le.rfl,rfl⟩,⟨_,_,rfl,rfl,AO.le.rfl,rfl⟩,⟨_,_,rfl,rfl,AO.le.rfl,rfl⟩,trivial⟩ trivial ⟨⟨_,0,_,rfl,rfl,rfl⟩,⟨_,17,_,rfl,rfl,rfl⟩,⟨_,26,_,rfl,rfl,rfl⟩,trivial⟩ ⟨Or.inr ⟨_,_,rfl,by decide,fun _ _ h=>by obtain ⟨rfl,rfl⟩:=h;exact ⟨_,rfl⟩⟩,Or.inr ⟨_,_,rfl,by decide,fun _ _ h=>by obtain ⟨rfl,rfl⟩:=h;exact ⟨_,rfl⟩⟩,Or.inr ⟨_,_,rfl,by decide,fun _ _ h=>by obtain ⟨rfl,rfl⟩:=h;exact ⟨_,rfl⟩⟩,trivial⟩ trivial ?_;rintro _ _ ⟨rfl,rfl⟩;refine AL.wk (wk (sl:= [(0,.ptr 0 0),(1,.d (.agg (evc e))),(3,.ptr 3 0),(4,.d (.one (.v (.int .i64 0)))),(17,.own 1),(26,.own 2),(41,.tup [])]) (hp:= [(0,.is pp (.box 81 ([.v x1,.v x2]))),(1,.is x1 (.row 84 15 S.psh.n (itl (updH ev S.n e) S.psh.pl))),(2,.is x2 (.row 3 1 S.psh.m (trl S.psh.tr))),(3,.box 54 (tgc e.1 ++alc 4 e.2.1 1200 e.2.2.1 1200 e.2.2.2))]) rfl ⟨hs rfl,hs rfl,hs rfl,hs rfl,hs rfl,hs rfl,hs rfl,trivial⟩ ⟨ho rfl,ho rfl,ho rfl,ho rfl,trivial⟩ rfl)<|mT<|cR<|mv2 rfl rfl<|mX (.ptr 0 0) (xNilP rfl rfl)<|mv2 rfl rfl<|AL.wk (wkRaw 46 26 2 rfl rfl rfl rfl)<|mW rfl<|mV hTT (.d (.one (.v (.int .i64 ((S.m:Nat):Int))))) (evi ((wr64 (by omega) (by omega)).trans (by omega)))<|mCL (aHUp (pp:=pp) (x:=x1) (y:=x2) (ev:=(updH ev S.n e)) (S:=S.psh) (k:=S.m) (d:=true) hE1 (psh_fr hp e) (Nat.lt_succ_self _) (show S.n+1≤100000 from by omega) (show S.m+1≤100000 from by omega)) [(0,0),(1,1),(2,2)] [] [] [] rfl rfl ⟨⟨_,_,rfl,AV.le.rfl,rfl⟩,⟨_,_,rfl,AV.le.rfl,rfl⟩,trivial⟩ ⟨⟨_,_,rfl,rfl,AO.le.rfl,rfl⟩,⟨_,_,rfl,rfl,AO.le.rfl,rfl⟩,⟨_,_,rfl,rfl,AO.le.rfl,rfl⟩,trivial⟩ trivial ⟨⟨_,0,_,rfl,rfl,rfl⟩,⟨_,17,_,rfl,rfl,rfl⟩,⟨_,26,_,rfl,rfl,rfl⟩,trivial⟩ ⟨Or.inr ⟨_,_,rfl,by decide,fun _ _ h=>by obtain ⟨rfl,T,hT,rfl⟩:=h;exact ⟨_,rfl⟩⟩,Or.inr ⟨_,_,rfl,by decide,fun _ _ h=>by obtain ⟨rfl,T,hT,rfl⟩:=h;exact ⟨_,rfl⟩⟩,Or.inr ⟨_,_,rfl,by decide,fun _ _ h=>by obtain ⟨rfl,T,hT,rfl⟩:=h;exact ⟨_,rfl⟩⟩,trivial⟩ trivial ?_;rintro _ _ ⟨rfl,T,hT,rfl⟩;exact AL.wk (wk (sl:= [(0,.ptr 0 0),(1,.d (.agg (evc e))),(3,.ptr 3 0),(4,.d (.one (.v (.int .i64 0)))),(17,.own 1),(26,.own 2),(49,.tup [])]) (hp:= [(0,.is pp (.box 81 ([.v x1,.v x2]))),(1,.is x1 (.row 84 15 T.n (itl (updH ev S.n e) T.pl))),(2,.is x2 (.row 3 1 T.m (trl T.tr))),(3,.box 54 (tgc e.1 ++alc 4 e.2.1 1200 e.2.2.1 1200 e.2.2.2))]) rfl ⟨hs rfl,hs rfl,hs rfl,hs rfl,hs rfl,hs rfl,hs rfl,trivial⟩ ⟨ho rfl,ho rfl,ho rfl,ho rfl,trivial⟩ rfl)<|mT<|cR<|mW rfl<|mX (.ptr 0 0) (xNilP rfl rfl)<|mv2 rfl rfl<|AL.wk (wkRaw 53 17 1 rfl rfl rfl rfl)<|mV hTT (.d (.one (.v (.int .i64 ((S.n+1:Nat):Int))))) (evi (congrArg Nat.cast hT.sam.n))<|mW rfl<|mT<|cRet<|rL (.d (.one (.v (.int .i64 ((S.n+1:Nat):Int))))) (.d (.one (.v (.int .i64 ((S.n+1:Nat):Int))))) [(0,.is pp (.box 81 ([.v x1,.v x2]))),(1,.is x1 (.row 84 15 T.n (itl (updH ev S.n e) T.pl))),(2,.is x2 (.row 3 1 T.m (trl T.tr)))] [(0,.ptr 0 0),(17,.own 1),(26,.own 2)] ⟨T,x1,x2,psh_ok hE1 hT,rfl,rfl⟩ (resL_p rfl) (wk (sl:= [(55,.d (.one (.v (.int .i64 ((S.n+1:Nat):Int))))),(0,.ptr 0 0),(17,.own 1),(26,.own 2)]) (hp:= [(0,.is pp (.box 81 ([.v x1,.v x2]))),(1,.is x1 (.row 84 15 T.n (itl (updH ev S.n e) T.pl))),(2,.is x2 (.row 3 1 T.m (trl T.tr)))]) rfl ⟨hs rfl,hs rfl,hs rfl,hs rfl,trivial⟩ ⟨ho rfl,ho rfl,ho rfl,trivial⟩ rfl) ⟨⟨0,_,rfl,rfl⟩,⟨17,_,rfl,rfl⟩,⟨26,_,rfl,rfl⟩,trivial⟩
 refine anyCut 2 #[true,true,true,true,true,true,true,true,true,true,false,false] ⟨55,[(0,.ptr 0 0),(1,.d (.agg (evc e))),(2,.dead),(41,.wit 2),(3,.ptr 3 0),(4,.d (.one (.v (.int .i64 0)))),(9,.ptr 0 0),(10,.ptr 0 0),(11,.ptr 0 0),(12,.ptr 0 0),(13,.dead),(14,.d (.agg (tgc e.1 ++alc 4 e.2.1 1200 e.2.2.1 1200 e.2.2.2))),(15,.d (.agg (tgc e.1 ++alc 4 e.2.1 1200 e.2.2.1 1200 e.2.2.2 ++([.v (.int .i64 0)]:List Lf)))),(16,.d (.one (.row 15 1 (fun i' j'=>((tgc e.1 ++alc 4 e.2.1 1200 e.2.2.1 1200 e.2.2.2 ++([.v (.int .i64 0)]:List Lf))[i'*15+j']?).getD (.v undef))))),(17,.own 1),(18,.ptr 0 0)],[(0,.is pp (.box 81 ([.v x,.v y]))),(1,.row 84 15 (S.n+1) (appEl S.n (itl ev S.pl) (fun i' j'=>((tgc e.1 ++alc 4 e.2.1 1200 e.2.2.1 1200 e.2.2.2 ++([.v (.int .i64 0)]:List Lf))[i'*15+j']?).getD (.v undef)))),(2,.is y (.row 3 1 S.m (trl S.tr))),(3,.box 54 (tgc e.1 ++alc 4 e.2.1 1200 e.2.2.1 1200 e.2.2.2))]⟩ ?_ (fun hD111111111100=>?_)
 ·refine anyS [10] (by kernel_rfl) rfl ?_;refine ⟨⟨_,rfl,?_⟩,trivial⟩
  ·exact mW rfl<|mT<|anyV hD111111111110 11 [] (by kernel_rfl) (wkr rfl rfl)
 refine anyCut 3 #[true,true,true,true,true,true,true,true,true,false,false,false] ⟨55,[(0,.ptr 0 0),(1,.d (.agg (evc e))),(2,.dead),(41,.wit 2),(3,.ptr 3 0),(4,.d (.one (.v (.int .i64 0)))),(9,.ptr 0 0),(10,.ptr 0 0),(11,.ptr 0 0),(12,.ptr 0 0),(13,.dead),(14,.d (.agg (tgc e.1 ++alc 4 e.2.1 1200 e.2.2.1 1200 e.2.2.2))),(15,.d (.agg (tgc e.1 ++alc 4 e.2.1 1200 e.2.2.1 1200 e.2.2.2 ++([.v (.int .i64 0)]:List Lf)))),(16,.d (.one (.row 15 1 (fun i' j'=>((tgc e.1 ++alc 4 e.2.1 1200 e.2.2.1 1200 e.2.2.2 ++([.v (.int .i64 0)]:List Lf))[i'*15+j']?).getD (.v undef))))),(17,.own 1)],[(0,.is pp (.box 81 ([.v x,.v y]))),(1,.row 84 15 (S.n+1) (appEl S.n (itl ev S.pl) (fun i' j'=>((tgc e.1 ++alc 4 e.2.1 1200 e.2.2.1 1200 e.2.2.2 ++([.v (.int .i64 0)]:List Lf))[i'*15+j']?).getD (.v undef)))),(2,.is y (.row 3 1 S.m (trl S.tr))),(3,.box 54 (tgc e.1 ++alc 4 e.2.1 1200 e.2.2.1 1200 e.2.2.2))]⟩ ?_ (fun hD111111111000=>?_)
 ·refine anyS [9] (by kernel_rfl) rfl ?_;refine ⟨⟨_,rfl,?_⟩,trivial⟩
  ·exact mX (.ptr 0 0) (xNilP rfl rfl)<|mT<|anyV hD111111111100 10 [] (by kernel_rfl) (wkr rfl rfl)
 refine anyCut 4 #[true,true,true,true,true,true,true,true,false,false,false,false] ⟨55,[(0,.ptr 0 0),(1,.d (.agg (evc e))),(2,.wit 1),(41,.wit 2),(3,.ptr 3 0),(4,.d (.one (.v (.int .i64 0)))),(5,.ptr 3 5),(6,.d (.agg (alc 4 e.2.1 1200 e.2.2.1 1200 e.2.2.2))),(7,.d (.agg (alc 4 e.2.1 1200 e.2.2.1 1200 e.2.2.2))),(8,.ptr 3 5),(9,.ptr 0 0),(10,.ptr 0 0),(11,.ptr 0 0),(12,.ptr 0 0),(13,.own 1),(14,.d (.agg (tgc e.1 ++alc 4 e.2.1 1200 e.2.2.1 1200 e.2.2.2))),(15,.d (.agg (tgc e.1 ++alc 4 e.2.1 1200 e.2.2.1 1200 e.2.2.2 ++([.v (.int .i64 0)]:List Lf)))),(16,.d (.one (.row 15 1 (fun i' j'=>((tgc e.1 ++alc 4 e.2.1 1200 e.2.2.1 1200 e.2.2.2 ++([.v (.int .i64 0)]:List Lf))[i'*15+j']?).getD (.v undef)))))],[(0,.is pp (.box 81 ([.v x,.v y]))),(1,.is x (.row 84 15 S.n (itl ev S.pl))),(2,.is y (.row 3 1 S.m (trl S.tr))),(3,.box 54 (tgc e.1 ++alc 4 e.2.1 1200 e.2.2.1 1200 e.2.2.2))]⟩ ?_ (fun hD111111110000=>?_)
 ·refine anyS [8] (by kernel_rfl) rfl ?_;refine ⟨⟨_,rfl,?_⟩,trivial⟩
  ·exact AL.wk (wk (sl:= [(0,.ptr 0 0),(1,.d (.agg (evc e))),(2,.wit 1),(41,.wit 2),(3,.ptr 3 0),(4,.d (.one (.v (.int .i64 0)))),(9,.ptr 0 0),(10,.ptr 0 0),(11,.ptr 0 0),(12,.ptr 0 0),(13,.own 1),(14,.d (.agg (tgc e.1 ++alc 4 e.2.1 1200 e.2.2.1 1200 e.2.2.2))),(15,.d (.agg (tgc e.1 ++alc 4 e.2.1 1200 e.2.2.1 1200 e.2.2.2 ++([.v (.int .i64 0)]:List Lf)))),(16,.d (.one (.row 15 1 (fun i' j'=>((tgc e.1 ++alc 4 e.2.1 1200 e.2.2.1 1200 e.2.2.2 ++([.v (.int .i64 0)]:List Lf))[i'*15+j']?).getD (.v undef)))))]) (hp:= [(0,.is pp (.box 81 ([.v x,.v y]))),(1,.row 84 15 S.n (itl ev S.pl)),(2,.is y (.row 3 1 S.m (trl S.tr))),(3,.box 54 (tgc e.1 ++alc 4 e.2.1 1200 e.2.2.1 1200 e.2.2.2))]) rfl ⟨hs rfl,hs rfl,hs rfl,hs rfl,hs rfl,hs rfl,hs rfl,hs rfl,hs rfl,hs rfl,hs rfl,hs rfl,hs rfl,hs rfl,trivial⟩ ⟨ho rfl,ho' rfl (leo_un AO.le.rfl),ho rfl,ho rfl,trivial⟩ rfl)<|mA hTT (id:=1) (n:=S.n) (m:=1) (el:=(itl ev S.pl)) (el2:=(fun i' j'=>((tgc e.1 ++alc 4 e.2.1 1200 e.2.2.1 1200 e.2.2.2 ++([.v (.int .i64 0)]:List Lf))[i'*15+j']?).getD (.v undef))) rfl rfl rfl (by show (S.n+1)*200≤140737488355328;omega) (by omega) rfl rfl rfl rfl rfl rfl rfl rfl rfl rfl<|mT<|anyV hD111111111000 9 [] (by kernel_rfl) (wkr rfl rfl)
 refine anyCut 5 #[true,true,true,true,true,true,true,false,false,false,false,false] ⟨55,[(0,.ptr 0 0),(1,.d (.agg (evc e))),(2,.wit 1),(41,.wit 2),(3,.ptr 3 0),(4,.d (.one (.v (.int .i64 0)))),(5,.ptr 3 5),(6,.d (.agg (alc 4 e.2.1 1200 e.2.2.1 1200 e.2.2.2))),(7,.d (.agg (alc 4 e.2.1 1200 e.2.2.1 1200 e.2.2.2))),(8,.ptr 3 5),(9,.ptr 0 0),(10,.ptr 0 0),(11,.ptr 0 0),(12,.ptr 0 0),(13,.own 1),(14,.d (.agg (tgc e.1 ++alc 4 e.2.1 1200 e.2.2.1 1200 e.2.2.2))),(15,.d (.agg (tgc e.1 ++alc 4 e.2.1 1200 e.2.2.1 1200 e.2.2.2 ++([.v (.int .i64 0)]:List Lf))))],[(0,.is pp (.box 81 ([.v x,.v y]))),(1,.is x (.row 84 15 S.n (itl ev S.pl))),(2,.is y (.row 3 1 S.m (trl S.tr))),(3,.box 54 (tgc e.1 ++alc 4 e.2.1 1200 e.2.2.1 1200 e.2.2.2))]⟩ ?_ (fun hD111111100000=>?_)
 ·refine anyS [7] (by kernel_rfl) rfl ?_;refine ⟨⟨_,rfl,?_⟩,trivial⟩
  ·exact mB hTT (.d (.one (.row 15 1 (fun i' j'=>((tgc e.1 ++alc 4 e.2.1 1200 e.2.2.1 1200 e.2.2.2 ++([.v (.int .i64 0)]:List Lf))[i'*15+j']?).getD (.v undef))))) rfl<|mT<|anyV hD111111110000 8 [] (by kernel_rfl) (wkr rfl rfl)
 refine anyCut 5 #[true,true,true,true,false,true,true,true,false,false,false,false] ⟨55,[(0,.ptr 0 0),(1,.d (.agg (evc e))),(2,.wit 1),(41,.wit 2),(3,.ptr 3 0),(4,.d (.one (.v (.int .i64 0)))),(5,.ptr 3 5),(6,.d (.agg (alc 4 e.2.1 1200 e.2.2.1 1200 e.2.2.2))),(7,.d (.agg (alc 4 e.2.1 1200 e.2.2.1 1200 e.2.2.2))),(8,.ptr 3 5),(9,.ptr 0 0),(10,.ptr 0 0),(11,.ptr 0 0),(12,.ptr 0 0),(14,.d (.agg (tgc e.1 ++alc 4 e.2.1 1200 e.2.2.1 1200 e.2.2.2))),(15,.d (.agg (tgc e.1 ++alc 4 e.2.1 1200 e.2.2.1 1200 e.2.2.2 ++([.v (.int .i64 0)]:List Lf)))),(16,.d (.one (.row 15 1 (fun i' j'=>((tgc e.1 ++alc 4 e.2.1 1200 e.2.2.1 1200 e.2.2.2 ++([.v (.int .i64 0)]:List Lf))[i'*15+j']?).getD (.v undef)))))],[(0,.is pp (.box 81 ([.v x,.v y]))),(1,.is x (.row 84 15 S.n (itl ev S.pl))),(2,.is y (.row 3 1 S.m (trl S.tr))),(3,.box 54 (tgc e.1 ++alc 4 e.2.1 1200 e.2.2.1 1200 e.2.2.2))]⟩ ?_ (fun hD111101110000=>?_)
 ·refine anyS [4] (by kernel_rfl) rfl ?_;refine ⟨⟨_,rfl,?_⟩,trivial⟩
  ·exact mW rfl<|AL.wk (wkRaw 13 2 1 rfl rfl rfl rfl)<|mT<|anyV hD111111110000 8 [] (by kernel_rfl) (wkr rfl rfl)
 refine anyCut 6 #[true,true,true,true,false,true,true,false,false,false,false,false] ⟨55,[(0,.ptr 0 0),(1,.d (.agg (evc e))),(2,.wit 1),(41,.wit 2),(3,.ptr 3 0),(4,.d (.one (.v (.int .i64 0)))),(5,.ptr 3 5),(6,.d (.agg (alc 4 e.2.1 1200 e.2.2.1 1200 e.2.2.2))),(7,.d (.agg (alc 4 e.2.1 1200 e.2.2.1 1200 e.2.2.2))),(8,.ptr 3 5),(9,.ptr 0 0),(10,.ptr 0 0),(11,.ptr 0 0),(12,.ptr 0 0),(14,.d (.agg (tgc e.1 ++alc 4 e.2.1 1200 e.2.2.1 1200 e.2.2.2))),(15,.d (.agg (tgc e.1 ++alc 4 e.2.1 1200 e.2.2.1 1200 e.2.2.2 ++([.v (.int .i64 0)]:List Lf))))],[(0,.is pp (.box 81 ([.v x,.v y]))),(1,.is x (.row 84 15 S.n (itl ev S.pl))),(2,.is y (.row 3 1 S.m (trl S.tr))),(3,.box 54 (tgc e.1 ++alc 4 e.2.1 1200 e.2.2.1 1200 e.2.2.2))]⟩ ?_ (fun hD111101100000=>?_)
 ·refine anyS [4,7] (by kernel_rfl) rfl ?_;refine ⟨⟨_,rfl,?_⟩,⟨_,rfl,?_⟩,trivial⟩
  ·exact mW rfl<|AL.wk (wkRaw 13 2 1 rfl rfl rfl rfl)<|mT<|anyV hD111111100000 7 [] (by kernel_rfl) (wkr rfl rfl)
  ·exact mB hTT (.d (.one (.row 15 1 (fun i' j'=>((tgc e.1 ++alc 4 e.2.1 1200 e.2.2.1 1200 e.2.2.2 ++([.v (.int .i64 0)]:List Lf))[i'*15+j']?).getD (.v undef))))) rfl<|mT<|anyV hD111101110000 4 [] (by kernel_rfl) (wkr rfl rfl)
 refine anyCut 6 #[true,true,true,true,true,true,false,false,false,false,false,false] ⟨55,[(0,.ptr 0 0),(1,.d (.agg (evc e))),(2,.wit 1),(41,.wit 2),(3,.ptr 3 0),(4,.d (.one (.v (.int .i64 0)))),(5,.ptr 3 5),(6,.d (.agg (alc 4 e.2.1 1200 e.2.2.1 1200 e.2.2.2))),(7,.d (.agg (alc 4 e.2.1 1200 e.2.2.1 1200 e.2.2.2))),(8,.ptr 3 5),(9,.ptr 0 0),(10,.ptr 0 0),(11,.ptr 0 0),(12,.ptr 0 0),(13,.own 1),(14,.d (.agg (tgc e.1 ++alc 4 e.2.1 1200 e.2.2.1 1200 e.2.2.2)))],[(0,.is pp (.box 81 ([.v x,.v y]))),(1,.is x (.row 84 15 S.n (itl ev S.pl))),(2,.is y (.row 3 1 S.m (trl S.tr))),(3,.box 54 (tgc e.1 ++alc 4 e.2.1 1200 e.2.2.1 1200 e.2.2.2))]⟩ ?_ (fun hD111111000000=>?_)
 ·refine anyS [6] (by kernel_rfl) rfl ?_;refine ⟨⟨_,rfl,?_⟩,trivial⟩
  ·exact mW rfl<|mT<|anyV hD111111100000 7 [] (by kernel_rfl) (wkr rfl rfl)
 refine anyCut 7 #[true,true,true,true,true,false,false,false,false,false,false,false] ⟨55,[(0,.ptr 0 0),(1,.d (.agg (evc e))),(2,.wit 1),(41,.wit 2),(3,.ptr 3 0),(4,.d (.one (.v (.int .i64 0)))),(5,.ptr 3 5),(6,.d (.agg (alc 4 e.2.1 1200 e.2.2.1 1200 e.2.2.2))),(7,.d (.agg (alc 4 e.2.1 1200 e.2.2.1 1200 e.2.2.2))),(8,.ptr 3 5),(9,.ptr 0 0),(10,.ptr 0 0),(11,.ptr 0 0),(12,.ptr 0 0),(13,.own 1)],[(0,.is pp (.box 81 ([.v x,.v y]))),(1,.is x (.row 84 15 S.n (itl ev S.pl))),(2,.is y (.row 3 1 S.m (trl S.tr))),(3,.box 54 (tgc e.1 ++alc 4 e.2.1 1200 e.2.2.1 1200 e.2.2.2))]⟩ ?_ (fun hD111110000000=>?_)
 ·refine anyS [5] (by kernel_rfl) rfl ?_;refine ⟨⟨_,rfl,?_⟩,trivial⟩
  ·exact mW rfl<|mT<|anyV hD111111000000 6 [] (by kernel_rfl) (wkr rfl rfl)
 refine anyCut 7 #[true,true,true,true,false,true,false,false,false,false,false,false] ⟨55,[(0,.ptr 0 0),(1,.d (.agg (evc e))),(2,.wit 1),(41,.wit 2),(3,.ptr 3 0),(4,.d (.one (.v (.int .i64 0)))),(5,.ptr 3 5),(6,.d (.agg (alc 4 e.2.1 1200 e.2.2.1 1200 e.2.2.2))),(7,.d (.agg (alc 4 e.2.1 1200 e.2.2.1 1200 e.2.2.2))),(8,.ptr 3 5),(9,.ptr 0 0),(10,.ptr 0 0),(11,.ptr 0 0),(12,.ptr 0 0),(14,.d (.agg (tgc e.1 ++alc 4 e.2.1 1200 e.2.2.1 1200 e.2.2.2)))],[(0,.is pp (.box 81 ([.v x,.v y]))),(1,.is x (.row 84 15 S.n (itl ev S.pl))),(2,.is y (.row 3 1 S.m (trl S.tr))),(3,.box 54 (tgc e.1 ++alc 4 e.2.1 1200 e.2.2.1 1200 e.2.2.2))]⟩ ?_ (fun hD111101000000=>?_)
 ·refine anyS [4,6] (by kernel_rfl) rfl ?_;refine ⟨⟨_,rfl,?_⟩,⟨_,rfl,?_⟩,trivial⟩
  ·exact mW rfl<|AL.wk (wkRaw 13 2 1 rfl rfl rfl rfl)<|mT<|anyV hD111111000000 6 [] (by kernel_rfl) (wkr rfl rfl)
  ·exact mW rfl<|mT<|anyV hD111101100000 4 [7] (by kernel_rfl) (wkr rfl rfl)
 refine anyS [4,5] (by kernel_rfl) rfl ?_;refine ⟨⟨_,rfl,?_⟩,⟨_,rfl,?_⟩,trivial⟩
 ·exact mW rfl<|AL.wk (wkRaw 13 2 1 rfl rfl rfl rfl)<|mT<|anyV hD111110000000 5 [] (by kernel_rfl) (wkr rfl rfl)
 ·exact mW rfl<|mT<|anyV hD111101000000 4 [6] (by kernel_rfl) (wkr rfl rfl)
theorem aHDrop0{pp x y:Value}{ev:Nat→ET}{S:HS}{h:Nat}(h0:h≠0)(h1:h≤S.n)(hN:S.n≤100000)(hz:S.pl (h-1)=0):ACallL Tryz.prog 23 [.ptr 0 0,.d (.one (.v (.int .i64 ((h:Nat):Int))))] (hpO pp x y ev S) [0,1,2] [0,1,2] (fun r hp=>r= .d (.one (.v (.bool false)))∧hp=(hpO pp x y ev S)):=by
 refine acallLN 56 [.tmp 4] [(2,1),(3,2)] Tryz.func23 rfl rfl rfl rfl rfl ⟨⟨Nat.le_of_ble_eq_true rfl,by decide,by decide⟩,⟨Nat.le_of_ble_eq_true rfl,by decide,by decide⟩,trivial⟩ ?_;show AW _ _ _ ⟨56,[(0,.ptr 0 0),(1,.d (.one (.v (.int .i64 ((h:Nat):Int))))),(2,.wit 1),(3,.wit 2)],[(0,.is pp (.box 81 ([.v x,.v y]))),(1,.is x (.row 84 15 S.n (itl ev S.pl))),(2,.is y (.row 3 1 S.m (trl S.tr)))]⟩
 refine cR<|mW rfl<|mT<|cR<|mv2 rfl rfl<|mCL (aHPlace (pp:=pp) (x:=x) (y:=y) (ev:=ev) (S:=S) (h:=h) h0 h1 hN (by omega)) [(0,0),(1,1),(2,2)] [] [] [] rfl rfl ⟨⟨_,_,rfl,AV.le.rfl,rfl⟩,⟨_,_,rfl,AV.le.rfl,rfl⟩,trivial⟩ ⟨⟨_,_,rfl,rfl,AO.le.rfl,rfl⟩,⟨_,_,rfl,rfl,AO.le.rfl,rfl⟩,⟨_,_,rfl,rfl,AO.le.rfl,rfl⟩,trivial⟩ trivial ⟨⟨_,0,_,rfl,rfl,rfl⟩,⟨_,2,_,rfl,rfl,rfl⟩,⟨_,3,_,rfl,rfl,rfl⟩,trivial⟩ ⟨Or.inr ⟨_,_,rfl,by decide,fun _ _ h=>by obtain ⟨rfl,rfl⟩:=h;exact ⟨_,rfl⟩⟩,Or.inr ⟨_,_,rfl,by decide,fun _ _ h=>by obtain ⟨rfl,rfl⟩:=h;exact ⟨_,rfl⟩⟩,Or.inr ⟨_,_,rfl,by decide,fun _ _ h=>by obtain ⟨rfl,rfl⟩:=h;exact ⟨_,rfl⟩⟩,trivial⟩ trivial ?_;rintro _ _ ⟨rfl,rfl⟩;exact AL.wk (wk (sl:= [(0,.ptr 0 0),(1,.d (.one (.v (.int .i64 ((h:Nat):Int))))),(2,.wit 1),(3,.wit 2),(4,.d (.one (.v (.bool false)))),(10,.d (.one (.v (.int .i64 (((S.pl (h-1):Nat):Int)-1)))))]) (hp:= [(0,.is pp (.box 81 ([.v x,.v y]))),(1,.is x (.row 84 15 S.n (itl ev S.pl))),(2,.is y (.row 3 1 S.m (trl S.tr)))]) rfl ⟨hs rfl,hs rfl,hs rfl,hs rfl,hs rfl,hs rfl,trivial⟩ ⟨ho rfl,ho rfl,ho rfl,trivial⟩ rfl)<|mW rfl<|mT<|cSeq<|cR<|mW rfl<|mdT rfl (by omega)<|mT<|cT rfl<|cR<|mW rfl<|mT<|cRet<|tR<|rL (.d (.one (.v (.bool false)))) (.d (.one (.v (.bool false)))) [(0,.is pp (.box 81 ([.v x,.v y]))),(1,.is x (.row 84 15 S.n (itl ev S.pl))),(2,.is y (.row 3 1 S.m (trl S.tr)))] [(0,.ptr 0 0),(2,.wit 1),(3,.wit 2)] ⟨rfl,rfl⟩ (resL_p rfl) (wk (sl:= [(56,.d (.one (.v (.bool false)))),(0,.ptr 0 0),(2,.wit 1),(3,.wit 2)]) (hp:= [(0,.is pp (.box 81 ([.v x,.v y]))),(1,.is x (.row 84 15 S.n (itl ev S.pl))),(2,.is y (.row 3 1 S.m (trl S.tr)))]) rfl ⟨hs rfl,hs rfl,hs rfl,hs rfl,trivial⟩ ⟨ho rfl,ho rfl,ho rfl,trivial⟩ rfl) ⟨⟨0,_,rfl,rfl⟩,⟨2,_,rfl,rfl⟩,⟨3,_,rfl,rfl⟩,trivial⟩
theorem aHDrop{pp x y:Value}{ev:Nat→ET}{S:HS}{h:Nat}(hE:∀ i,HE (ev i))(hp:Hp (hL ev) S)(hi:InH S h)(hN:S.n≤100000)(hM:S.m≤100000):ACallL Tryz.prog 23 [.ptr 0 0,.d (.one (.v (.int .i64 ((h:Nat):Int))))] (hpO pp x y ev S) [0,1,2] [0,1,2] (fun r hp=>r= .d (.one (.v (.bool true)))∧∃ T y',(Hp (hL ev) T∧DrpR S h T)∧hp=(hpO pp x y' ev T)):=by
 have h0:=hi.h0;have h1:=hi.hn;have hz:=hi.pl;have hat:=hi.at hp.con;refine acallLN 56 [.tmp 4] [(2,1),(3,2)] Tryz.func23 rfl rfl rfl rfl rfl ⟨⟨Nat.le_of_ble_eq_true rfl,by decide,by decide⟩,⟨Nat.le_of_ble_eq_true rfl,by decide,by decide⟩,trivial⟩ ?_;show AW _ _ _ ⟨56,[(0,.ptr 0 0),(1,.d (.one (.v (.int .i64 ((h:Nat):Int))))),(2,.wit 1),(3,.wit 2)],[(0,.is pp (.box 81 ([.v x,.v y]))),(1,.is x (.row 84 15 S.n (itl ev S.pl))),(2,.is y (.row 3 1 S.m (trl S.tr)))]⟩
 refine cR<|mW rfl<|mT<|cR<|mv2 rfl rfl<|mCL (aHPlace (pp:=pp) (x:=x) (y:=y) (ev:=ev) (S:=S) (h:=h) h0 h1 hN (by omega)) [(0,0),(1,1),(2,2)] [] [] [] rfl rfl ⟨⟨_,_,rfl,AV.le.rfl,rfl⟩,⟨_,_,rfl,AV.le.rfl,rfl⟩,trivial⟩ ⟨⟨_,_,rfl,rfl,AO.le.rfl,rfl⟩,⟨_,_,rfl,rfl,AO.le.rfl,rfl⟩,⟨_,_,rfl,rfl,AO.le.rfl,rfl⟩,trivial⟩ trivial ⟨⟨_,0,_,rfl,rfl,rfl⟩,⟨_,2,_,rfl,rfl,rfl⟩,⟨_,3,_,rfl,rfl,rfl⟩,trivial⟩ ⟨Or.inr ⟨_,_,rfl,by decide,fun _ _ h=>by obtain ⟨rfl,rfl⟩:=h;exact ⟨_,rfl⟩⟩,Or.inr ⟨_,_,rfl,by decide,fun _ _ h=>by obtain ⟨rfl,rfl⟩:=h;exact ⟨_,rfl⟩⟩,Or.inr ⟨_,_,rfl,by decide,fun _ _ h=>by obtain ⟨rfl,rfl⟩:=h;exact ⟨_,rfl⟩⟩,trivial⟩ trivial ?_;rintro _ _ ⟨rfl,rfl⟩;refine AL.wk (wk (sl:= [(0,.ptr 0 0),(1,.d (.one (.v (.int .i64 ((h:Nat):Int))))),(2,.wit 1),(3,.wit 2),(4,.d (.one (.v (.bool false)))),(10,.d (.one (.v (.int .i64 (((S.pl (h-1):Nat):Int)-1)))))]) (hp:= [(0,.is pp (.box 81 ([.v x,.v y]))),(1,.is x (.row 84 15 S.n (itl ev S.pl))),(2,.is y (.row 3 1 S.m (trl S.tr)))]) rfl ⟨hs rfl,hs rfl,hs rfl,hs rfl,hs rfl,hs rfl,trivial⟩ ⟨ho rfl,ho rfl,ho rfl,trivial⟩ rfl)<|mV hTT (.d (.one (.v (.int .i64 ((S.pl (h-1)-1:Nat):Int))))) (evi (by omega))<|mT<|cSeq<|cR<|mW rfl<|mdF rfl (by omega)<|mT<|cFs rfl<|cR<|mW rfl<|mX (.ptr 0 0) (xNilP rfl rfl)<|mv2 rfl rfl<|AL.wk (wkRaw 16 3 2 rfl rfl rfl rfl)<|mW rfl<|mV hTT (.d (.one (.v (.int .i64 ((S.m-1:Nat):Int))))) (evi ((wr64 (by omega) (by omega)).trans (by omega)))<|mW rfl<|mT<|cR<|mW rfl<|mX (.ptr 0 0) (xNilP rfl rfl)<|mv2 rfl rfl<|AL.wk (wkRaw 22 3 2 rfl rfl rfl rfl)<|mW rfl<|mV hTT (.eptr 2 1 (S.m-1) 0) (ixO (z:=((S.m-1:Nat):Int)) (n:=S.m) rfl rfl rfl rfl rfl rfl rfl (by omega) (by omega))<|mv2 rfl rfl<|mT<|cR<|mW rfl<|mX (.ptr 0 0) (xNilP rfl rfl)<|mv2 rfl rfl<|AL.wk (wkRaw 29 2 1 rfl rfl rfl rfl)<|mW rfl<|mV hTT (.d (.one (.v (.int .i64 ((h-1:Nat):Int))))) (evi ((wr64 (by omega) (by omega)).trans (by omega)))<|mV hTT (.eptr 1 15 (h-1) 0) (ixO (z:=((h-1:Nat):Int)) (n:=S.n) rfl rfl rfl rfl rfl rfl rfl (by omega) (by omega))<|mW rfl<|mSp hTT (d:= .one (.v (.int .i64 0))) 1 (i:=(h-1)) (j:=14) rfl rfl rfl rfl rfl rfl (by decide)<|mT<|cR<|mv2 rfl rfl<|mX (.ptr 0 0) (xNilP rfl rfl)<|mv2 rfl rfl<|AL.wk (wkRaw 38 3 2 rfl rfl rfl rfl)<|mW rfl<|AL.wk (wk (sl:= [(0,.ptr 0 0),(1,.d (.one (.v (.int .i64 ((h:Nat):Int))))),(2,.wit 1),(3,.wit 2),(4,.d (.one (.v (.bool false)))),(5,.d (.one (.v (.int .i64 ((S.pl (h-1)-1:Nat):Int))))),(12,.d (.one (.v (.bool false)))),(6,.d (.one (.v (.int .i64 ((S.m-1:Nat):Int))))),(7,.d (.one (.v (.int .i64 ((S.tr (S.m-1):Nat):Int))))),(34,.ptr 0 0),(38,.own 2),(39,.d (.one (.v (.int .i64 ((S.m-1:Nat):Int)))))]) (hp:= [(0,.is pp (.box 81 ([.v x,.v y]))),(1,.is x (.row 84 15 S.n (stE (h-1) 14 ([.v (.int .i64 0)]) (itl ev S.pl)))),(2,.row 3 1 S.m (trl S.tr))]) rfl ⟨hs rfl,hs rfl,hs rfl,hs rfl,hs rfl,hs rfl,hs rfl,hs rfl,hs rfl,hs rfl,hs rfl,hs rfl,trivial⟩ ⟨ho rfl,ho rfl,ho' rfl (leo_un AO.le.rfl),trivial⟩ rfl)<|mSh hTT (id:=2) (n:=S.m) (h:=(S.m-1)) rfl rfl rfl (bndK rfl) (by omega) rfl rfl rfl rfl<|mX (.ptr 0 0) (xNilP rfl rfl)<|mW rfl<|mSo hTT 40 2 0 (fun x'=> .is pp (.box 81 ([.v x,.v x']))) rfl rfl (fun _=>rfl) (fun x1=>?_);refine mT<|cSeq<|cSeq<|AW.wk (wk (sl:= [(0,.ptr 0 0),(1,.d (.one (.v (.int .i64 ((h:Nat):Int))))),(2,.wit 1),(4,.d (.one (.v (.bool false)))),(5,.d (.one (.v (.int .i64 ((S.pl (h-1)-1:Nat):Int))))),(12,.d (.one (.v (.bool false)))),(6,.d (.one (.v (.int .i64 ((S.m-1:Nat):Int))))),(7,.d (.one (.v (.int .i64 ((S.tr (S.m-1):Nat):Int))))),(40,.own 2)]) (hp:= [(0,.is pp (.box 81 ([.v x,.v x1]))),(1,.is x (.row 84 15 ((S.cut h).n) (itl ev (S.cut h).pl))),(2,.is x1 (.row 3 1 ((S.cut h).m) (trl (S.cut h).tr)))]) rfl ⟨hs rfl,hs rfl,hs rfl,hs rfl,hs rfl,hs rfl,hs rfl,hs rfl,hs rfl,trivial⟩ ⟨ho rfl,ho' rfl (leo_nm (leo_itp rfl)),ho' rfl (AO.le.rfl),trivial⟩ rfl)<|AW.wk (wkWt 3 40 2 rfl rfl rfl) ?_
 by_cases hk:S.pl (h-1) < S.m
 ·have hcl:=hp.con.tr (S.m-1) (by omega);have hfr:=cut_in hE hp.con hi hk hp;refine cReg<|mv2 rfl rfl<|mdT rfl (by omega)<|mT<|cT rfl<|cR<|mv3 rfl rfl rfl<|mCL (aHLay (pp:=pp) (x:=x) (y:=x1) (ev:=ev) (S:=(S.cut h)) (k:=(S.pl (h-1)-1)) (h:=(S.tr (S.m-1))) (show (S.pl (h-1)-1) < S.m-1 from by omega) hcl.1 hcl.2.1 (show S.n≤100000 from by omega) (show S.m-1≤100000 from by omega)) [(0,0),(1,1),(2,2)] [] [] [] rfl rfl ⟨⟨_,_,rfl,AV.le.rfl,rfl⟩,⟨_,_,rfl,AV.le.rfl,rfl⟩,⟨_,_,rfl,AV.le.rfl,rfl⟩,trivial⟩ ⟨⟨_,_,rfl,rfl,AO.le.rfl,rfl⟩,⟨_,_,rfl,rfl,AO.le.rfl,rfl⟩,⟨_,_,rfl,rfl,AO.le.rfl,rfl⟩,trivial⟩ trivial ⟨⟨_,0,_,rfl,rfl,rfl⟩,⟨_,2,_,rfl,rfl,rfl⟩,⟨_,40,_,rfl,rfl,rfl⟩,trivial⟩ ⟨Or.inr ⟨_,_,rfl,by decide,fun _ _ h=>by obtain ⟨rfl,rfl⟩:=h;exact ⟨_,rfl⟩⟩,Or.inr ⟨_,_,rfl,by decide,fun _ _ h=>by obtain ⟨rfl,rfl⟩:=h;exact ⟨_,rfl⟩⟩,Or.inr ⟨_,_,rfl,by decide,fun _ _ h=>by obtain ⟨rfl,rfl⟩:=h;exact ⟨_,rfl⟩⟩,trivial⟩ trivial ?_;rintro _ _ ⟨rfl,rfl⟩;refine AL.wk (wk (sl:= [(0,.ptr 0 0),(1,.d (.one (.v (.int .i64 ((h:Nat):Int))))),(2,.wit 1),(4,.d (.one (.v (.bool false)))),(5,.d (.one (.v (.int .i64 ((S.pl (h-1)-1:Nat):Int))))),(12,.d (.one (.v (.bool false)))),(6,.d (.one (.v (.int .i64 ((S.m-1:Nat):Int))))),(7,.d (.one (.v (.int .i64 ((S.tr (S.m-1):Nat):Int))))),(40,.own 2),(3,.wit 2),(45,.d (.one (.v (.bool true)))),(49,.tup [])]) (hp:= [(0,.is pp (.box 81 ([.v x,.v x1]))),(1,.is x (.row 84 15 (((S.cut h).lay (S.pl (h-1)-1) (S.tr (S.m-1))).n) (itl ev ((S.cut h).lay (S.pl (h-1)-1) (S.tr (S.m-1))).pl))),(2,.is x1 (.row 3 1 (((S.cut h).lay (S.pl (h-1)-1) (S.tr (S.m-1))).m) (trl ((S.cut h).lay (S.pl (h-1)-1) (S.tr (S.m-1))).tr)))]) rfl ⟨hs rfl,hs rfl,hs rfl,hs rfl,hs rfl,hs rfl,hs rfl,hs rfl,hs rfl,hs rfl,hs rfl,hs rfl,trivial⟩ ⟨ho rfl,ho rfl,ho rfl,trivial⟩ rfl)<|mT<|cR<|mv2 rfl rfl<|mCL (aHUp (pp:=pp) (x:=x) (y:=x1) (ev:=ev) (S:=((S.cut h).lay (S.pl (h-1)-1) (S.tr (S.m-1)))) (k:=(S.pl (h-1)-1)) (d:=true) hE hfr (show (S.pl (h-1)-1) < S.m-1 from by omega) (show S.n≤100000 from by omega) (show S.m-1≤100000 from by omega)) [(0,0),(1,1),(2,2)] [] [] [] rfl rfl ⟨⟨_,_,rfl,AV.le.rfl,rfl⟩,⟨_,_,rfl,AV.le.rfl,rfl⟩,trivial⟩ ⟨⟨_,_,rfl,rfl,AO.le.rfl,rfl⟩,⟨_,_,rfl,rfl,AO.le.rfl,rfl⟩,⟨_,_,rfl,rfl,AO.le.rfl,rfl⟩,trivial⟩ trivial ⟨⟨_,0,_,rfl,rfl,rfl⟩,⟨_,2,_,rfl,rfl,rfl⟩,⟨_,40,_,rfl,rfl,rfl⟩,trivial⟩ ⟨Or.inr ⟨_,_,rfl,by decide,fun _ _ h=>by obtain ⟨rfl,T,hT,rfl⟩:=h;exact ⟨_,rfl⟩⟩,Or.inr ⟨_,_,rfl,by decide,fun _ _ h=>by obtain ⟨rfl,T,hT,rfl⟩:=h;exact ⟨_,rfl⟩⟩,Or.inr ⟨_,_,rfl,by decide,fun _ _ h=>by obtain ⟨rfl,T,hT,rfl⟩:=h;exact ⟨_,rfl⟩⟩,trivial⟩ trivial ?_;rintro _ _ ⟨rfl,T,hT,rfl⟩;refine AL.wk (wk (sl:= [(0,.ptr 0 0),(1,.d (.one (.v (.int .i64 ((h:Nat):Int))))),(2,.wit 1),(4,.d (.one (.v (.bool false)))),(5,.d (.one (.v (.int .i64 ((S.pl (h-1)-1:Nat):Int))))),(12,.d (.one (.v (.bool false)))),(6,.d (.one (.v (.int .i64 ((S.m-1:Nat):Int))))),(7,.d (.one (.v (.int .i64 ((S.tr (S.m-1):Nat):Int))))),(40,.own 2),(3,.wit 2),(45,.d (.one (.v (.bool true)))),(52,.tup [])]) (hp:= [(0,.is pp (.box 81 ([.v x,.v x1]))),(1,.is x (.row 84 15 T.n (itl ev T.pl))),(2,.is x1 (.row 3 1 T.m (trl T.tr)))]) rfl ⟨hs rfl,hs rfl,hs rfl,hs rfl,hs rfl,hs rfl,hs rfl,hs rfl,hs rfl,hs rfl,hs rfl,hs rfl,trivial⟩ ⟨ho rfl,ho rfl,ho rfl,trivial⟩ rfl)<|mT ?_;have hTn:T.n=S.n:=hT.sam.n;have hTm:T.m=S.m-1:=hT.sam.m;refine cReg<|mv2 rfl rfl<|mCL (aHDown (pp:=pp) (x:=x) (y:=x1) (ev:=ev) (S:=T) (k:=(S.pl (h-1)-1)) hE (hT.dn (hL_ok hE)) (by omega) (by omega) (by omega)) [(0,0),(1,1),(2,2)] [] [] [] rfl rfl ⟨⟨_,_,rfl,AV.le.rfl,rfl⟩,⟨_,_,rfl,AV.le.rfl,rfl⟩,trivial⟩ ⟨⟨_,_,rfl,rfl,AO.le.rfl,rfl⟩,⟨_,_,rfl,rfl,AO.le.rfl,rfl⟩,⟨_,_,rfl,rfl,AO.le.rfl,rfl⟩,trivial⟩ trivial ⟨⟨_,0,_,rfl,rfl,rfl⟩,⟨_,2,_,rfl,rfl,rfl⟩,⟨_,40,_,rfl,rfl,rfl⟩,trivial⟩ ⟨Or.inr ⟨_,_,rfl,by decide,fun _ _ h=>by obtain ⟨rfl,U,hU,rfl⟩:=h;exact ⟨_,rfl⟩⟩,Or.inr ⟨_,_,rfl,by decide,fun _ _ h=>by obtain ⟨rfl,U,hU,rfl⟩:=h;exact ⟨_,rfl⟩⟩,Or.inr ⟨_,_,rfl,by decide,fun _ _ h=>by obtain ⟨rfl,U,hU,rfl⟩:=h;exact ⟨_,rfl⟩⟩,trivial⟩ trivial ?_;rintro _ _ ⟨rfl,U,hU,rfl⟩;exact AL.wk (wk (sl:= [(0,.ptr 0 0),(1,.d (.one (.v (.int .i64 ((h:Nat):Int))))),(2,.wit 1),(4,.d (.one (.v (.bool false)))),(5,.d (.one (.v (.int .i64 ((S.pl (h-1)-1:Nat):Int))))),(12,.d (.one (.v (.bool false)))),(6,.d (.one (.v (.int .i64 ((S.m-1:Nat):Int))))),(7,.d (.one (.v (.int .i64 ((S.tr (S.m-1):Nat):Int))))),(40,.own 2),(3,.wit 2),(45,.d (.one (.v (.bool true)))),(55,.tup [])]) (hp:= [(0,.is pp (.box 81 ([.v x,.v x1]))),(1,.is x (.row 84 15 U.n (itl ev U.pl))),(2,.is x1 (.row 3 1 U.m (trl U.tr)))]) rfl ⟨hs rfl,hs rfl,hs rfl,hs rfl,hs rfl,hs rfl,hs rfl,hs rfl,hs rfl,hs rfl,hs rfl,hs rfl,trivial⟩ ⟨ho rfl,ho rfl,ho rfl,trivial⟩ rfl)<|mT<|cR<|mW rfl<|mT<|cRet<|rL (.d (.one (.v (.bool true)))) (.d (.one (.v (.bool true)))) [(0,.is pp (.box 81 ([.v x,.v x1]))),(1,.is x (.row 84 15 U.n (itl ev U.pl))),(2,.is x1 (.row 3 1 U.m (trl U.tr)))] [(0,.ptr 0 0),(2,.wit 1),(40,.own 2)] ⟨rfl,U,x1,⟨hU.2,cut_ok hE hp.con hi hk (hT.sam.trans hU.1)⟩,rfl⟩ (resL_p rfl) (wk (sl:= [(56,.d (.one (.v (.bool true)))),(0,.ptr 0 0),(2,.wit 1),(40,.own 2)]) (hp:= [(0,.is pp (.box 81 ([.v x,.v x1]))),(1,.is x (.row 84 15 U.n (itl ev U.pl))),(2,.is x1 (.row 3 1 U.m (trl U.tr)))]) rfl ⟨hs rfl,hs rfl,hs rfl,hs rfl,trivial⟩ ⟨ho rfl,ho rfl,ho rfl,trivial⟩ rfl) ⟨⟨0,_,rfl,rfl⟩,⟨2,_,rfl,rfl⟩,⟨40,_,rfl,rfl⟩,trivial⟩
 ·exact cReg<|mv2 rfl rfl<|mdF rfl (by omega)<|mT<|cFs rfl<|cR<|mW rfl<|mT<|cRet<|rL (.d (.one (.v (.bool true)))) (.d (.one (.v (.bool true)))) [(0,.is pp (.box 81 ([.v x,.v x1]))),(1,.is x (.row 84 15 ((S.cut h).n) (itl ev (S.cut h).pl))),(2,.is x1 (.row 3 1 ((S.cut h).m) (trl (S.cut h).tr)))] [(0,.ptr 0 0),(2,.wit 1),(40,.own 2)] ⟨rfl,(S.cut h),x1,(cut_last hp.con hi (by omega) hp),rfl⟩ (resL_p rfl) (wk (sl:= [(56,.d (.one (.v (.bool true)))),(0,.ptr 0 0),(2,.wit 1),(40,.own 2)]) (hp:= [(0,.is pp (.box 81 ([.v x,.v x1]))),(1,.is x (.row 84 15 ((S.cut h).n) (itl ev (S.cut h).pl))),(2,.is x1 (.row 3 1 ((S.cut h).m) (trl (S.cut h).tr)))]) rfl ⟨hs rfl,hs rfl,hs rfl,hs rfl,trivial⟩ ⟨ho rfl,ho rfl,ho rfl,trivial⟩ rfl) ⟨⟨0,_,rfl,rfl⟩,⟨2,_,rfl,rfl⟩,⟨40,_,rfl,rfl⟩,trivial⟩
theorem aHNew:ACallL Tryz.prog 6 [] [] [] [2] (fun r hp=>r= .ptr 2 0∧hp= [(2,.box 81 [.v (.slice none 0 0),.v (.slice none 0 0)])]):=by
 refine acallLN 3 [.tmp 0] [] Tryz.func6 rfl rfl rfl rfl rfl trivial ?_;show AW _ _ _ ⟨3,[],[]⟩
 exact cR<|mW rfl<|mT<|cR<|mW rfl<|mO rfl<|mW rfl<|mT<|cRet<|rL (.ptr 2 0) (.ptr 2 0) [(2,.box 81 ([.v (.slice none 0 0),.v (.slice none 0 0)]))] [] ⟨rfl,rfl⟩ (resL_p rfl) (wk (sl:= [(3,.ptr 2 0)]) (hp:= [(2,.box 81 ([.v (.slice none 0 0),.v (.slice none 0 0)]))]) rfl ⟨hs rfl,trivial⟩ ⟨ho rfl,trivial⟩ rfl) ⟨⟨3,_,rfl,rfl⟩,trivial⟩
theorem aHSetN{pp x y:Value}{ev:Nat→ET}{S:HS}{z:Int}(hz:z < 1∨((S.n:Nat):Int) < z){a:AT}(ha:HE ((fun _=>0),a)):ACallL Tryz.prog 22 [.ptr 0 0,.d (.one (.v (.int .i64 z))),.d (.agg (alc 4 a.1 1200 a.2.1 1200 a.2.2))] (hpO pp x y ev S) [0,1,2] [0,1,2] (fun r hp=>r= .d (.one (.v (.bool false)))∧hp=(hpO pp x y ev S)):=by
 refine acallLN 32 [.tmp 6] [(3,1),(4,2)] Tryz.func22 rfl rfl rfl rfl rfl ⟨⟨Nat.le_of_ble_eq_true rfl,by decide,by decide⟩,⟨Nat.le_of_ble_eq_true rfl,by decide,by decide⟩,trivial⟩ ?_;show AW _ _ _ ⟨32,[(0,.ptr 0 0),(1,.d (.one (.v (.int .i64 z)))),(2,.d (.agg (alc 4 a.1 1200 a.2.1 1200 a.2.2))),(3,.wit 1),(4,.wit 2)],[(0,.is pp (.box 81 ([.v x,.v y]))),(1,.is x (.row 84 15 S.n (itl ev S.pl))),(2,.is y (.row 3 1 S.m (trl S.tr)))]⟩
 refine cR<|mO rfl<|mW rfl<|mT<|cR<|mv2 rfl rfl<|mCL (aHPlaceN (pp:=pp) (x:=x) (y:=y) (ev:=ev) (S:=S) (z:=z) hz) [(0,0),(1,1),(2,2)] [] [] [] rfl rfl ⟨⟨_,_,rfl,AV.le.rfl,rfl⟩,⟨_,_,rfl,AV.le.rfl,rfl⟩,trivial⟩ ⟨⟨_,_,rfl,rfl,AO.le.rfl,rfl⟩,⟨_,_,rfl,rfl,AO.le.rfl,rfl⟩,⟨_,_,rfl,rfl,AO.le.rfl,rfl⟩,trivial⟩ trivial ⟨⟨_,0,_,rfl,rfl,rfl⟩,⟨_,3,_,rfl,rfl,rfl⟩,⟨_,4,_,rfl,rfl,rfl⟩,trivial⟩ ⟨Or.inr ⟨_,_,rfl,by decide,fun _ _ h=>by obtain ⟨rfl,rfl⟩:=h;exact ⟨_,rfl⟩⟩,Or.inr ⟨_,_,rfl,by decide,fun _ _ h=>by obtain ⟨rfl,rfl⟩:=h;exact ⟨_,rfl⟩⟩,Or.inr ⟨_,_,rfl,by decide,fun _ _ h=>by obtain ⟨rfl,rfl⟩:=h;exact ⟨_,rfl⟩⟩,trivial⟩ trivial ?_;rintro _ _ ⟨rfl,rfl⟩;exact AL.wk (wk (sl:= [(0,.ptr 0 0),(1,.d (.one (.v (.int .i64 z)))),(2,.d (.agg (alc 4 a.1 1200 a.2.1 1200 a.2.2))),(3,.wit 1),(4,.wit 2),(5,.ptr 5 0),(6,.d (.one (.v (.bool false)))),(10,.d (.one (.v (.int .i64 (-1)))))]) (hp:= [(0,.is pp (.box 81 ([.v x,.v y]))),(1,.is x (.row 84 15 S.n (itl ev S.pl))),(2,.is y (.row 3 1 S.m (trl S.tr))),(5,.box 40 (alc 4 a.1 1200 a.2.1 1200 a.2.2))]) rfl ⟨hs rfl,hs rfl,hs rfl,hs rfl,hs rfl,hs rfl,hs rfl,hs rfl,trivial⟩ ⟨ho rfl,ho rfl,ho rfl,ho rfl,trivial⟩ rfl)<|mW rfl<|mT<|cSeq<|cR<|mW rfl<|mbT rfl rfl<|mT<|cT rfl<|cR<|mW rfl<|mT<|cRet<|tR<|rL (.d (.one (.v (.bool false)))) (.d (.one (.v (.bool false)))) [(0,.is pp (.box 81 ([.v x,.v y]))),(1,.is x (.row 84 15 S.n (itl ev S.pl))),(2,.is y (.row 3 1 S.m (trl S.tr)))] [(0,.ptr 0 0),(3,.wit 1),(4,.wit 2)] ⟨rfl,rfl⟩ (resL_p rfl) (wk (sl:= [(32,.d (.one (.v (.bool false)))),(0,.ptr 0 0),(3,.wit 1),(4,.wit 2)]) (hp:= [(0,.is pp (.box 81 ([.v x,.v y]))),(1,.is x (.row 84 15 S.n (itl ev S.pl))),(2,.is y (.row 3 1 S.m (trl S.tr)))]) rfl ⟨hs rfl,hs rfl,hs rfl,hs rfl,trivial⟩ ⟨ho rfl,ho rfl,ho rfl,trivial⟩ rfl) ⟨⟨0,_,rfl,rfl⟩,⟨3,_,rfl,rfl⟩,⟨4,_,rfl,rfl⟩,trivial⟩
theorem aHSet{pp x y:Value}{ev:Nat→ET}{S:HS}{h:Nat}{a:AT}(ha:HE ((fun _=>0),a))(hE:∀ i,HE (ev i))(hp:Hp (hL ev) S)(hi:InH S h)(hN:S.n≤100000)(hM:S.m≤100000):ACallL Tryz.prog 22 [.ptr 0 0,.d (.one (.v (.int .i64 ((h:Nat):Int)))),.d (.agg (alc 4 a.1 1200 a.2.1 1200 a.2.2))] (hpO pp x y ev S) [0,1,2] [0,1,2] (fun r hp=>r= .d (.one (.v (.bool true)))∧∃ T,(Hp (hL (updH ev (h-1) ((ev (h-1)).1,a))) T∧Sam S T)∧hp=(hpO pp x y (updH ev (h-1) ((ev (h-1)).1,a)) T)):=by
 have h0:=hi.h0;have h1:=hi.hn;have hz:=hi.pl;have hat:=hi.at hp.con;have hE1:=updH_all (q:=HE) (i:=h-1) (x:=((ev (h-1)).1,a)) hE ⟨ha.v,ha.l5⟩;refine acallLN 32 [.tmp 6] [(3,1),(4,2)] Tryz.func22 rfl rfl rfl rfl rfl ⟨⟨Nat.le_of_ble_eq_true rfl,by decide,by decide⟩,⟨Nat.le_of_ble_eq_true rfl,by decide,by decide⟩,trivial⟩ ?_;show AW _ _ _ ⟨32,[(0,.ptr 0 0),(1,.d (.one (.v (.int .i64 ((h:Nat):Int))))),(2,.d (.agg (alc 4 a.1 1200 a.2.1 1200 a.2.2))),(3,.wit 1),(4,.wit 2)],[(0,.is pp (.box 81 ([.v x,.v y]))),(1,.is x (.row 84 15 S.n (itl ev S.pl))),(2,.is y (.row 3 1 S.m (trl S.tr)))]⟩
 refine cR<|mO rfl<|mW rfl<|mT<|cR<|mv2 rfl rfl<|mCL (aHPlace (pp:=pp) (x:=x) (y:=y) (ev:=ev) (S:=S) (h:=h) h0 h1 hN (by omega)) [(0,0),(1,1),(2,2)] [] [] [] rfl rfl ⟨⟨_,_,rfl,AV.le.rfl,rfl⟩,⟨_,_,rfl,AV.le.rfl,rfl⟩,trivial⟩ ⟨⟨_,_,rfl,rfl,AO.le.rfl,rfl⟩,⟨_,_,rfl,rfl,AO.le.rfl,rfl⟩,⟨_,_,rfl,rfl,AO.le.rfl,rfl⟩,trivial⟩ trivial ⟨⟨_,0,_,rfl,rfl,rfl⟩,⟨_,3,_,rfl,rfl,rfl⟩,⟨_,4,_,rfl,rfl,rfl⟩,trivial⟩ ⟨Or.inr ⟨_,_,rfl,by decide,fun _ _ h=>by obtain ⟨rfl,rfl⟩:=h;exact ⟨_,rfl⟩⟩,Or.inr ⟨_,_,rfl,by decide,fun _ _ h=>by obtain ⟨rfl,rfl⟩:=h;exact ⟨_,rfl⟩⟩,Or.inr ⟨_,_,rfl,by decide,fun _ _ h=>by obtain ⟨rfl,rfl⟩:=h;exact ⟨_,rfl⟩⟩,trivial⟩ trivial ?_;rintro _ _ ⟨rfl,rfl⟩;refine AL.wk (wk (sl:= [(0,.ptr 0 0),(1,.d (.one (.v (.int .i64 ((h:Nat):Int))))),(2,.d (.agg (alc 4 a.1 1200 a.2.1 1200 a.2.2))),(3,.wit 1),(4,.wit 2),(5,.ptr 5 0),(6,.d (.one (.v (.bool false)))),(10,.d (.one (.v (.int .i64 (((S.pl (h-1):Nat):Int)-1)))))]) (hp:= [(0,.is pp (.box 81 ([.v x,.v y]))),(1,.is x (.row 84 15 S.n (itl ev S.pl))),(2,.is y (.row 3 1 S.m (trl S.tr))),(5,.box 40 (alc 4 a.1 1200 a.2.1 1200 a.2.2))]) rfl ⟨hs rfl,hs rfl,hs rfl,hs rfl,hs rfl,hs rfl,hs rfl,hs rfl,trivial⟩ ⟨ho rfl,ho rfl,ho rfl,ho rfl,trivial⟩ rfl)<|mV hTT (.d (.one (.v (.int .i64 ((S.pl (h-1)-1:Nat):Int))))) (evi (by omega))<|mT<|cSeq<|cR<|mW rfl<|mdF rfl (by omega)<|mT<|cFs rfl<|cSeq<|cDk 11<|.cons (OpS.V _ rfl)<|.cons (OpS.X (.ptr 0 0) (xNilP rfl rfl))<|oV rfl<|.cons (OpS.Y x 3 1 rfl rfl rfl rfl rfl)<|.cons (OpS.V _ rfl)<|.cons (OpS.V (.d (.one (.v (.int .i64 ((h-1:Nat):Int))))) (evi ((wr64 (by omega) (by omega)).trans (by omega))))<|oV rfl<|oC (aHFresh ha.v ha.l5) rfl<|.cons (OpS.V (.eptr 1 15 (h-1) 0) (ixO (z:=((h-1:Nat):Int)) (n:=S.n) rfl rfl rfl rfl rfl rfl rfl (by omega) (by omega)))<|oV rfl<|oV rfl<|.nil<|mSp hTT (d:= .agg (alc 4 a.1 1200 a.2.1 1200 a.2.2)) 1 (i:=(h-1)) (j:=5) rfl rfl rfl rfl rfl rfl (by decide)<|mT<|cSeq<|wB [12,7,6,5,4,3,2,1,0] [5,2,0] 1 (.is x (.row 84 15 S.n (itl (updH ev (h-1) ((ev (h-1)).1,a)) S.pl))) rfl rfl (leo_nm leo_ite) rfl ?_;have hfr:=set_fr hE hi hp ((ev (h-1)).1,a);refine cReg<|mv2 rfl rfl<|mCL (aHUp (pp:=pp) (x:=x) (y:=y) (ev:=(updH ev (h-1) ((ev (h-1)).1,a))) (S:=S) (k:=(S.pl (h-1)-1)) (d:=true) hE1 hfr (by omega) hN hM) [(0,0),(1,1),(2,2)] [] [] [] rfl rfl ⟨⟨_,_,rfl,AV.le.rfl,rfl⟩,⟨_,_,rfl,AV.le.rfl,rfl⟩,trivial⟩ ⟨⟨_,_,rfl,rfl,AO.le.rfl,rfl⟩,⟨_,_,rfl,rfl,AO.le.rfl,rfl⟩,⟨_,_,rfl,rfl,AO.le.rfl,rfl⟩,trivial⟩ trivial ⟨⟨_,0,_,rfl,rfl,rfl⟩,⟨_,3,_,rfl,rfl,rfl⟩,⟨_,4,_,rfl,rfl,rfl⟩,trivial⟩ ⟨Or.inr ⟨_,_,rfl,by decide,fun _ _ h=>by obtain ⟨rfl,T,hT,rfl⟩:=h;exact ⟨_,rfl⟩⟩,Or.inr ⟨_,_,rfl,by decide,fun _ _ h=>by obtain ⟨rfl,T,hT,rfl⟩:=h;exact ⟨_,rfl⟩⟩,Or.inr ⟨_,_,rfl,by decide,fun _ _ h=>by obtain ⟨rfl,T,hT,rfl⟩:=h;exact ⟨_,rfl⟩⟩,trivial⟩ trivial ?_;rintro _ _ ⟨rfl,T,hT,rfl⟩;refine AL.wk (wk (sl:= [(0,.ptr 0 0),(1,.d (.one (.v (.int .i64 ((h:Nat):Int))))),(2,.d (.agg (alc 4 a.1 1200 a.2.1 1200 a.2.2))),(3,.wit 1),(4,.wit 2),(5,.ptr 5 0),(6,.d (.one (.v (.bool false)))),(7,.d (.one (.v (.int .i64 ((S.pl (h-1)-1:Nat):Int))))),(12,.d (.one (.v (.bool false)))),(26,.tup [])]) (hp:= [(0,.is pp (.box 81 ([.v x,.v y]))),(1,.is x (.row 84 15 T.n (itl (updH ev (h-1) ((ev (h-1)).1,a)) T.pl))),(2,.is y (.row 3 1 T.m (trl T.tr))),(5,.box 40 (alc 4 a.1 1200 a.2.1 1200 a.2.2))]) rfl ⟨hs rfl,hs rfl,hs rfl,hs rfl,hs rfl,hs rfl,hs rfl,hs rfl,hs rfl,hs rfl,trivial⟩ ⟨ho rfl,ho rfl,ho rfl,ho rfl,trivial⟩ rfl)<|mT<|cSeq ?_;have hTn:T.n=S.n:=hT.sam.n;have hTm:T.m=S.m:=hT.sam.m;have hiT:=hT.sam.in hi;have hfT:=set_dn hE1 hi hT;have hat2:=hiT.at hfT.con;have hz2:=hiT.pl;refine cReg<|mv3 rfl rfl rfl<|mCL (aHPlace (pp:=pp) (x:=x) (y:=y) (ev:=(updH ev (h-1) ((ev (h-1)).1,a))) (S:=T) (h:=h) h0 (by omega) (by omega) (by omega)) [(0,0),(1,1),(2,2)] [] [] [] rfl rfl ⟨⟨_,_,rfl,AV.le.rfl,rfl⟩,⟨_,_,rfl,AV.le.rfl,rfl⟩,trivial⟩ ⟨⟨_,_,rfl,rfl,AO.le.rfl,rfl⟩,⟨_,_,rfl,rfl,AO.le.rfl,rfl⟩,⟨_,_,rfl,rfl,AO.le.rfl,rfl⟩,trivial⟩ trivial ⟨⟨_,0,_,rfl,rfl,rfl⟩,⟨_,3,_,rfl,rfl,rfl⟩,⟨_,4,_,rfl,rfl,rfl⟩,trivial⟩ ⟨Or.inr ⟨_,_,rfl,by decide,fun _ _ h=>by obtain ⟨rfl,rfl⟩:=h;exact ⟨_,rfl⟩⟩,Or.inr ⟨_,_,rfl,by decide,fun _ _ h=>by obtain ⟨rfl,rfl⟩:=h;exact ⟨_,rfl⟩⟩,Or.inr ⟨_,_,rfl,by decide,fun _ _ h=>by obtain ⟨rfl,rfl⟩:=h;exact ⟨_,rfl⟩⟩,trivial⟩ trivial ?_;rintro _ _ ⟨rfl,rfl⟩;refine AL.wk (wk (sl:= [(0,.ptr 0 0),(1,.d (.one (.v (.int .i64 ((h:Nat):Int))))),(2,.d (.agg (alc 4 a.1 1200 a.2.1 1200 a.2.2))),(3,.wit 1),(4,.wit 2),(5,.ptr 5 0),(6,.d (.one (.v (.bool false)))),(7,.d (.one (.v (.int .i64 ((S.pl (h-1)-1:Nat):Int))))),(12,.d (.one (.v (.bool false)))),(27,.ptr 0 0),(30,.d (.one (.v (.int .i64 (((T.pl (h-1):Nat):Int)-1)))))]) (hp:= [(0,.is pp (.box 81 ([.v x,.v y]))),(1,.is x (.row 84 15 T.n (itl (updH ev (h-1) ((ev (h-1)).1,a)) T.pl))),(2,.is y (.row 3 1 T.m (trl T.tr))),(5,.box 40 (alc 4 a.1 1200 a.2.1 1200 a.2.2))]) rfl ⟨hs rfl,hs rfl,hs rfl,hs rfl,hs rfl,hs rfl,hs rfl,hs rfl,hs rfl,hs rfl,hs rfl,trivial⟩ ⟨ho rfl,ho rfl,ho rfl,ho rfl,trivial⟩ rfl)<|mView 30 (.d (.one (.v (.int .i64 ((T.pl (h-1)-1:Nat):Int))))) rfl (le_int (by omega))<|mCL (aHDown (pp:=pp) (x:=x) (y:=y) (ev:=(updH ev (h-1) ((ev (h-1)).1,a))) (S:=T) (k:=(T.pl (h-1)-1)) hE1 hfT (by omega) (by omega) (by omega)) [(0,0),(1,1),(2,2)] [] [] [] rfl rfl ⟨⟨_,_,rfl,AV.le.rfl,rfl⟩,⟨_,_,rfl,AV.le.rfl,rfl⟩,trivial⟩ ⟨⟨_,_,rfl,rfl,AO.le.rfl,rfl⟩,⟨_,_,rfl,rfl,AO.le.rfl,rfl⟩,⟨_,_,rfl,rfl,AO.le.rfl,rfl⟩,trivial⟩ trivial ⟨⟨_,0,_,rfl,rfl,rfl⟩,⟨_,3,_,rfl,rfl,rfl⟩,⟨_,4,_,rfl,rfl,rfl⟩,trivial⟩ ⟨Or.inr ⟨_,_,rfl,by decide,fun _ _ h=>by obtain ⟨rfl,U,hU,rfl⟩:=h;exact ⟨_,rfl⟩⟩,Or.inr ⟨_,_,rfl,by decide,fun _ _ h=>by obtain ⟨rfl,U,hU,rfl⟩:=h;exact ⟨_,rfl⟩⟩,Or.inr ⟨_,_,rfl,by decide,fun _ _ h=>by obtain ⟨rfl,U,hU,rfl⟩:=h;exact ⟨_,rfl⟩⟩,trivial⟩ trivial ?_;rintro _ _ ⟨rfl,U,hU,rfl⟩;exact AL.wk (wk (sl:= [(0,.ptr 0 0),(1,.d (.one (.v (.int .i64 ((h:Nat):Int))))),(2,.d (.agg (alc 4 a.1 1200 a.2.1 1200 a.2.2))),(3,.wit 1),(4,.wit 2),(5,.ptr 5 0),(6,.d (.one (.v (.bool false)))),(7,.d (.one (.v (.int .i64 ((S.pl (h-1)-1:Nat):Int))))),(12,.d (.one (.v (.bool false)))),(31,.tup [])]) (hp:= [(0,.is pp (.box 81 ([.v x,.v y]))),(1,.is x (.row 84 15 U.n (itl (updH ev (h-1) ((ev (h-1)).1,a)) U.pl))),(2,.is y (.row 3 1 U.m (trl U.tr))),(5,.box 40 (alc 4 a.1 1200 a.2.1 1200 a.2.2))]) rfl ⟨hs rfl,hs rfl,hs rfl,hs rfl,hs rfl,hs rfl,hs rfl,hs rfl,hs rfl,hs rfl,trivial⟩ ⟨ho rfl,ho rfl,ho rfl,ho rfl,trivial⟩ rfl)<|mT<|cR<|mW rfl<|mT<|cRet<|rL (.d (.one (.v (.bool true)))) (.d (.one (.v (.bool true)))) [(0,.is pp (.box 81 ([.v x,.v y]))),(1,.is x (.row 84 15 U.n (itl (updH ev (h-1) ((ev (h-1)).1,a)) U.pl))),(2,.is y (.row 3 1 U.m (trl U.tr)))] [(0,.ptr 0 0),(3,.wit 1),(4,.wit 2)] ⟨rfl,U,⟨hU.2,hT.sam.trans hU.1⟩,rfl⟩ (resL_p rfl) (wk (sl:= [(32,.d (.one (.v (.bool true)))),(0,.ptr 0 0),(3,.wit 1),(4,.wit 2)]) (hp:= [(0,.is pp (.box 81 ([.v x,.v y]))),(1,.is x (.row 84 15 U.n (itl (updH ev (h-1) ((ev (h-1)).1,a)) U.pl))),(2,.is y (.row 3 1 U.m (trl U.tr)))]) rfl ⟨hs rfl,hs rfl,hs rfl,hs rfl,trivial⟩ ⟨ho rfl,ho rfl,ho rfl,trivial⟩ rfl) ⟨⟨0,_,rfl,rfl⟩,⟨3,_,rfl,rfl⟩,⟨4,_,rfl,rfl⟩,trivial⟩
theorem aHGet0{pp x y:Value}{ev:Nat→ET}{S:HS}{h:Nat}(h0:h≠0)(h1:h≤S.n)(hN:S.n≤100000)(hz:S.pl (h-1)=0):ACallL Tryz.prog 24 [.ptr 0 0,.d (.one (.v (.int .i64 ((h:Nat):Int))))] (hpO pp x y ev S) [0,1,2] [0,1,2] (fun r hp=>r= .tup [.agg ([.v (.int .i64 0),.v (.int .i64 0),.v (.int .i64 0),.v (.int .i64 0),.v (.int .i64 0),.v (.slice none 0 0),.v (.bool false),.v (.slice none 0 0),.v (.bool false),.v (.slice none 0 0),.v (.bool false),.v (.slice none 0 0),.v (.bool false),.v (.slice none 0 0)]),.one (.v (.bool false))]∧hp=(hpO pp x y ev S)):=by
 refine acallLN 14 [.cell 4 54,.tmp 5] [(2,1),(3,2)] Tryz.func24 rfl rfl rfl rfl rfl ⟨⟨Nat.le_of_ble_eq_true rfl,by decide,by decide⟩,⟨Nat.le_of_ble_eq_true rfl,by decide,by decide⟩,trivial⟩ ?_;show AW _ _ _ ⟨14,[(0,.ptr 0 0),(1,.d (.one (.v (.int .i64 ((h:Nat):Int))))),(2,.wit 1),(3,.wit 2)],[(0,.is pp (.box 81 ([.v x,.v y]))),(1,.is x (.row 84 15 S.n (itl ev S.pl))),(2,.is y (.row 3 1 S.m (trl S.tr)))]⟩
 refine cR<|mO rfl<|mW rfl<|mT<|cSeq<|cR<|mv2 rfl rfl<|mCL (aHPlace (pp:=pp) (x:=x) (y:=y) (ev:=ev) (S:=S) (h:=h) h0 h1 hN (by omega)) [(0,0),(1,1),(2,2)] [] [] [] rfl rfl ⟨⟨_,_,rfl,AV.le.rfl,rfl⟩,⟨_,_,rfl,AV.le.rfl,rfl⟩,trivial⟩ ⟨⟨_,_,rfl,rfl,AO.le.rfl,rfl⟩,⟨_,_,rfl,rfl,AO.le.rfl,rfl⟩,⟨_,_,rfl,rfl,AO.le.rfl,rfl⟩,trivial⟩ trivial ⟨⟨_,0,_,rfl,rfl,rfl⟩,⟨_,2,_,rfl,rfl,rfl⟩,⟨_,3,_,rfl,rfl,rfl⟩,trivial⟩ ⟨Or.inr ⟨_,_,rfl,by decide,fun _ _ h=>by obtain ⟨rfl,rfl⟩:=h;exact ⟨_,rfl⟩⟩,Or.inr ⟨_,_,rfl,by decide,fun _ _ h=>by obtain ⟨rfl,rfl⟩:=h;exact ⟨_,rfl⟩⟩,Or.inr ⟨_,_,rfl,by decide,fun _ _ h=>by obtain ⟨rfl,rfl⟩:=h;exact ⟨_,rfl⟩⟩,trivial⟩ trivial ?_;rintro _ _ ⟨rfl,rfl⟩;exact AL.wk (wk (sl:= [(0,.ptr 0 0),(1,.d (.one (.v (.int .i64 ((h:Nat):Int))))),(2,.wit 1),(3,.wit 2),(4,.ptr 4 0),(5,.d (.one (.v (.bool false)))),(8,.d (.one (.v (.int .i64 (((S.pl (h-1):Nat):Int)-1)))))]) (hp:= [(0,.is pp (.box 81 ([.v x,.v y]))),(1,.is x (.row 84 15 S.n (itl ev S.pl))),(2,.is y (.row 3 1 S.m (trl S.tr))),(4,.box 54 ([.v (.int .i64 0),.v (.int .i64 0),.v (.int .i64 0),.v (.int .i64 0),.v (.int .i64 0),.v (.slice none 0 0),.v (.bool false),.v (.slice none 0 0),.v (.bool false),.v (.slice none 0 0),.v (.bool false),.v (.slice none 0 0),.v (.bool false),.v (.slice none 0 0)]))]) rfl ⟨hs rfl,hs rfl,hs rfl,hs rfl,hs rfl,hs rfl,hs rfl,trivial⟩ ⟨ho rfl,ho rfl,ho rfl,ho rfl,trivial⟩ rfl)<|mdT rfl (by omega)<|mT<|cT rfl<|cR<|mW rfl<|mZ rfl<|mW rfl<|mT<|cRet<|tR<|rL (.tup [.agg ([.v (.int .i64 0),.v (.int .i64 0),.v (.int .i64 0),.v (.int .i64 0),.v (.int .i64 0),.v (.slice none 0 0),.v (.bool false),.v (.slice none 0 0),.v (.bool false),.v (.slice none 0 0),.v (.bool false),.v (.slice none 0 0),.v (.bool false),.v (.slice none 0 0)]),.one (.v (.bool false))]) (.tup [.agg ([.v (.int .i64 0),.v (.int .i64 0),.v (.int .i64 0),.v (.int .i64 0),.v (.int .i64 0),.v (.slice none 0 0),.v (.bool false),.v (.slice none 0 0),.v (.bool false),.v (.slice none 0 0),.v (.bool false),.v (.slice none 0 0),.v (.bool false),.v (.slice none 0 0)]),.one (.v (.bool false))]) [(0,.is pp (.box 81 ([.v x,.v y]))),(1,.is x (.row 84 15 S.n (itl ev S.pl))),(2,.is y (.row 3 1 S.m (trl S.tr)))] [(0,.ptr 0 0),(2,.wit 1),(3,.wit 2)] ⟨rfl,rfl⟩ (resL_d hTT rfl AV.le.rfl) (wk (sl:= [(14,.tup [.agg ([.v (.int .i64 0),.v (.int .i64 0),.v (.int .i64 0),.v (.int .i64 0),.v (.int .i64 0),.v (.slice none 0 0),.v (.bool false),.v (.slice none 0 0),.v (.bool false),.v (.slice none 0 0),.v (.bool false),.v (.slice none 0 0),.v (.bool false),.v (.slice none 0 0)]),.one (.v (.bool false))]),(0,.ptr 0 0),(2,.wit 1),(3,.wit 2)]) (hp:= [(0,.is pp (.box 81 ([.v x,.v y]))),(1,.is x (.row 84 15 S.n (itl ev S.pl))),(2,.is y (.row 3 1 S.m (trl S.tr)))]) rfl ⟨hs rfl,hs rfl,hs rfl,hs rfl,trivial⟩ ⟨ho rfl,ho rfl,ho rfl,trivial⟩ rfl) ⟨⟨0,_,rfl,rfl⟩,⟨2,_,rfl,rfl⟩,⟨3,_,rfl,rfl⟩,trivial⟩
theorem aHLeast0{pp x y:Value}{ev:Nat→ET}{S:HS}(hz:S.m=0):ACallL Tryz.prog 10 [.ptr 0 0] [(0,.is pp (.box 81 ([.v x,.v y]))),(101,.is x (.row 84 15 S.n (itl ev S.pl))),(102,.is y (.row 3 1 S.m (trl S.tr)))] [0,101,102] [0,101,102] (fun r hp=>r= .tup [.agg ([.v (.int .i64 0),.v (.int .i64 0),.v (.int .i64 0),.v (.int .i64 0),.v (.int .i64 0),.v (.slice none 0 0),.v (.bool false),.v (.slice none 0 0),.v (.bool false),.v (.slice none 0 0),.v (.bool false),.v (.slice none 0 0),.v (.bool false),.v (.slice none 0 0)]),.one (.v (.bool false))]∧hp= [(0,.is pp (.box 81 ([.v x,.v y]))),(101,.is x (.row 84 15 S.n (itl ev S.pl))),(102,.is y (.row 3 1 S.m (trl S.tr)))]):=by
 refine acallLN 19 [.cell 2 54,.tmp 3] [(1,101),(18,102)] Tryz.func10 rfl rfl rfl rfl rfl ⟨⟨Nat.le_of_ble_eq_true rfl,by decide,by decide⟩,⟨Nat.le_of_ble_eq_true rfl,by decide,by decide⟩,trivial⟩ ?_;show AW _ _ _ ⟨19,[(0,.ptr 0 0),(1,.wit 101),(18,.wit 102)],[(0,.is pp (.box 81 ([.v x,.v y]))),(101,.is x (.row 84 15 S.n (itl ev S.pl))),(102,.is y (.row 3 1 S.m (trl S.tr)))]⟩
 exact cR<|mO rfl<|mW rfl<|mT<|cSeq<|cR<|mW rfl<|mX (.ptr 0 0) (xNilP rfl rfl)<|mv2 rfl rfl<|AL.wk (wkRaw 7 18 102 rfl rfl rfl rfl)<|mW rfl<|mbT rfl (beq_iff_eq.2 (by omega))<|mT<|cT rfl<|cR<|mW rfl<|mZ rfl<|mW rfl<|mT<|cRet<|tR<|rL (.tup [.agg ([.v (.int .i64 0),.v (.int .i64 0),.v (.int .i64 0),.v (.int .i64 0),.v (.int .i64 0),.v (.slice none 0 0),.v (.bool false),.v (.slice none 0 0),.v (.bool false),.v (.slice none 0 0),.v (.bool false),.v (.slice none 0 0),.v (.bool false),.v (.slice none 0 0)]),.one (.v (.bool false))]) (.tup [.agg ([.v (.int .i64 0),.v (.int .i64 0),.v (.int .i64 0),.v (.int .i64 0),.v (.int .i64 0),.v (.slice none 0 0),.v (.bool false),.v (.slice none 0 0),.v (.bool false),.v (.slice none 0 0),.v (.bool false),.v (.slice none 0 0),.v (.bool false),.v (.slice none 0 0)]),.one (.v (.bool false))]) [(0,.is pp (.box 81 ([.v x,.v y]))),(101,.is x (.row 84 15 S.n (itl ev S.pl))),(102,.is y (.row 3 1 S.m (trl S.tr)))] [(0,.ptr 0 0),(1,.wit 101),(18,.wit 102)] ⟨rfl,rfl⟩ (resL_d hTT rfl AV.le.rfl) (wk (sl:= [(19,.tup [.agg ([.v (.int .i64 0),.v (.int .i64 0),.v (.int .i64 0),.v (.int .i64 0),.v (.int .i64 0),.v (.slice none 0 0),.v (.bool false),.v (.slice none 0 0),.v (.bool false),.v (.slice none 0 0),.v (.bool false),.v (.slice none 0 0),.v (.bool false),.v (.slice none 0 0)]),.one (.v (.bool false))]),(0,.ptr 0 0),(1,.wit 101),(18,.wit 102)]) (hp:= [(0,.is pp (.box 81 ([.v x,.v y]))),(101,.is x (.row 84 15 S.n (itl ev S.pl))),(102,.is y (.row 3 1 S.m (trl S.tr)))]) rfl ⟨hs rfl,hs rfl,hs rfl,hs rfl,trivial⟩ ⟨ho rfl,ho rfl,ho rfl,trivial⟩ rfl) ⟨⟨0,_,rfl,rfl⟩,⟨1,_,rfl,rfl⟩,⟨18,_,rfl,rfl⟩,trivial⟩
theorem aHBatch{pp x y:Value}{ev:Nat→ET}{S:HS}(hE:∀ i,HE (ev i))(hp:Hp (hL ev) S)(hN:S.n≤100000)(hM:S.m≤100000):ACallL Tryz.prog 11 [.ptr 0 0] (hpO pp x y ev S) [0,1,2] [0,1,2] (fun r hp=>∃ k gs T y',BatQ ev S k gs T∧r= .d (.one (.row 14 k (evl (bev ev gs))))∧hp=(hpO pp x y' ev T)):=by
 refine acallLN 45 [.tmp 2] [(1,1),(44,2)] Tryz.func11 rfl rfl rfl rfl rfl ⟨⟨Nat.le_of_ble_eq_true rfl,by decide,by decide⟩,⟨Nat.le_of_ble_eq_true rfl,by decide,by decide⟩,trivial⟩ ?_;show AW _ _ _ ⟨45,[(0,.ptr 0 0),(1,.wit 1),(44,.wit 2)],[(0,.is pp (.box 81 ([.v x,.v y]))),(1,.is x (.row 84 15 S.n (itl ev S.pl))),(2,.is y (.row 3 1 S.m (trl S.tr)))]⟩
 refine cR<|mW rfl<|mT<|cR<|mW rfl<|mT<|cSeq<|cBlock<|AW.wk (wkNil 3 3 54 14 (fun _ _=> .v undef) rfl rfl)<|cLoop (ι:=HS×Nat×(Nat→Nat)×Value) (fun (p:HS×Nat×(Nat→Nat)×Value)=>match p with | (T,k,gs,yy)=>⟨45,[(0,.ptr 0 0),(1,.wit 1),(44,.wit 2),(3,.own 3)],[(0,.is pp (.box 81 ([.v x,.v yy]))),(1,.is x (.row 84 15 T.n (itl ev T.pl))),(2,.is yy (.row 3 1 T.m (trl T.tr))),(3,.row 54 14 k (evl (bev ev gs)))]⟩) (fun (p:HS×Nat×(Nat→Nat)×Value)=>match p with | (T,k,gs,yy)=>BatI ev S k gs T) (fun (p:HS×Nat×(Nat→Nat)×Value)=>match p with | (T,k,gs,yy)=>T.m) (S,0,(fun _=>0),y) (BatI.start hp) (wk rfl ⟨hs rfl,hs rfl,hs rfl,hs rfl,trivial⟩ ⟨ho rfl,ho rfl,ho rfl,ho' rfl (leo_row0),trivial⟩ rfl) ?_;rintro ⟨T,k,gs,yy⟩ hI;have hI:BatI ev S k gs T:=hI;show AW _ _ _ ⟨_,_,_⟩
 refine cSeq<|cSeq ?_;have hn:=hI.n;have hmk:=hI.m
 by_cases hm:T.m=0
 ·exact cReg<|mW rfl<|mX (.ptr 0 0) (xNilP rfl rfl)<|mv2 rfl rfl<|AL.wk (wkRaw 8 44 2 rfl rfl rfl rfl)<|mW rfl<|mdF rfl (by omega)<|mT<|cF rfl<|cExit<|tE<|tE<|bE<|tN<|cSeq<|AW.wk (wkWt 43 44 2 rfl rfl rfl)<|AW.wk (wkRow 3 rfl)<|cReg<|mv2 rfl rfl<|mT<|cRet<|rL (.d (.one (.row 14 k (evl (bev ev gs))))) (.d (.one (.row 14 k (evl (bev ev gs))))) [(0,.is pp (.box 81 ([.v x,.v yy]))),(1,.is x (.row 84 15 T.n (itl ev T.pl))),(2,.is yy (.row 3 1 T.m (trl T.tr)))] [(0,.ptr 0 0),(1,.wit 1),(8,.own 2)] ⟨k,gs,T,yy,⟨hI,Or.inl hm⟩,rfl,rfl⟩ (resL_p rfl) (wk (sl:= [(45,.d (.one (.row 14 k (evl (bev ev gs))))),(0,.ptr 0 0),(1,.wit 1),(8,.own 2)]) (hp:= [(0,.is pp (.box 81 ([.v x,.v yy]))),(1,.is x (.row 84 15 T.n (itl ev T.pl))),(2,.is yy (.row 3 1 T.m (trl T.tr)))]) rfl ⟨hs rfl,hs rfl,hs rfl,hs rfl,trivial⟩ ⟨ho rfl,ho rfl,ho rfl,trivial⟩ rfl) ⟨⟨0,_,rfl,rfl⟩,⟨1,_,rfl,rfl⟩,⟨8,_,rfl,rfl⟩,trivial⟩
 ·have hc0:=hI.hp.con.tr 0 (by omega);refine cReg<|mW rfl<|mX (.ptr 0 0) (xNilP rfl rfl)<|mv2 rfl rfl<|AL.wk (wkRaw 8 44 2 rfl rfl rfl rfl)<|mW rfl<|mdT rfl (by omega)<|mT<|cT rfl<|cSkip<|tN<|cBlock<|cR<|mv2 rfl rfl<|mX (.ptr 0 0) (xNilP rfl rfl)<|mv2 rfl rfl<|AL.wk (wkRaw 15 44 2 rfl rfl rfl rfl)<|mV hTT (.eptr 2 1 0 0) (ixO (z:=0) (n:=T.m) rfl rfl rfl rfl rfl rfl rfl (by omega) (by omega))<|mW rfl<|mCL (aHTold (pp:=pp) (x:=x) (y:=yy) (ev:=ev) (S:=T) (h:=T.tr 0) hE hc0.1 hc0.2.1 (by omega)) [(0,0),(1,1),(2,2)] [] [] [] rfl rfl ⟨⟨_,_,rfl,AV.le.rfl,rfl⟩,⟨_,_,rfl,AV.le.rfl,rfl⟩,trivial⟩ ⟨⟨_,_,rfl,rfl,AO.le.rfl,rfl⟩,⟨_,_,rfl,rfl,AO.le.rfl,rfl⟩,⟨_,_,rfl,rfl,AO.le.rfl,rfl⟩,trivial⟩ trivial ⟨⟨_,0,_,rfl,rfl,rfl⟩,⟨_,1,_,rfl,rfl,rfl⟩,⟨_,44,_,rfl,rfl,rfl⟩,trivial⟩ ⟨Or.inr ⟨_,_,rfl,by decide,fun _ _ h=>by obtain ⟨rfl,rfl⟩:=h;exact ⟨_,rfl⟩⟩,Or.inr ⟨_,_,rfl,by decide,fun _ _ h=>by obtain ⟨rfl,rfl⟩:=h;exact ⟨_,rfl⟩⟩,Or.inr ⟨_,_,rfl,by decide,fun _ _ h=>by obtain ⟨rfl,rfl⟩:=h;exact ⟨_,rfl⟩⟩,trivial⟩ trivial ?_;rintro _ _ ⟨rfl,rfl⟩;refine AL.wk (wk (sl:= [(0,.ptr 0 0),(1,.wit 1),(44,.wit 2),(3,.own 3),(10,.d (.one (.v (.bool true)))),(18,.d (.agg (evc (ev (T.tr 0-1)))))]) (hp:= [(0,.is pp (.box 81 ([.v x,.v yy]))),(1,.is x (.row 84 15 T.n (itl ev T.pl))),(2,.is yy (.row 3 1 T.m (trl T.tr))),(3,.row 54 14 k (evl (bev ev gs)))]) rfl ⟨hs rfl,hs rfl,hs rfl,hs rfl,hs rfl,hs rfl,trivial⟩ ⟨ho rfl,ho rfl,ho rfl,ho rfl,trivial⟩ rfl)<|mO rfl<|mZ rfl<|mT<|cSeq<|cSeq ?_
  by_cases hk:k=0
  ·refine cDk 13<|.cons (OpS.V _ rfl)<|oV rfl<|oFd rfl (by omega)<|.cons (OpS.V _ rfl)<|.cons (OpS.G rfl rfl)<|.cons (OpS.G rfl rfl)<|.cons (OpS.G rfl rfl)<|.cons (OpS.G rfl rfl)<|.cons (OpS.G rfl rfl)<|.cons (OpS.G rfl rfl)<|.cons (OpS.G rfl rfl)<|.cons (OpS.G rfl rfl)<|.cons (OpS.V _ rfl)<|.nil<|mT<|cFs rfl<|cR<|mv2 rfl rfl<|mB hTT (.d (.one (.row 14 1 (fun i' j'=>((evc (ev (T.tr 0-1)))[i'*14+j']?).getD (.v undef))))) rfl<|mA hTT (id:=3) (n:=k) (m:=1) (el:=(evl (bev ev gs))) (el2:=(fun i' j'=>((evc (ev (T.tr 0-1)))[i'*14+j']?).getD (.v undef))) rfl rfl rfl (by show (k+1)*192≤140737488355328;omega) (by omega) rfl rfl rfl rfl rfl rfl rfl rfl rfl rfl<|mW rfl<|mT<|cReg<|mv2 rfl rfl<|mX (.ptr 0 0) (xNilP rfl rfl)<|mv2 rfl rfl<|AL.wk (wkRaw 40 44 2 rfl rfl rfl rfl)<|mV hTT (.eptr 2 1 0 0) (ixO (z:=0) (n:=T.m) rfl rfl rfl rfl rfl rfl rfl (by omega) (by omega))<|mW rfl<|mCL (aHDrop (pp:=pp) (x:=x) (y:=yy) (ev:=ev) (S:=T) (h:=T.tr 0) hE hI.hp (hI.hp.con.in (by omega)) (by omega) (by omega)) [(0,0),(1,1),(2,2)] [] [2] [2] rfl rfl ⟨⟨_,_,rfl,AV.le.rfl,rfl⟩,⟨_,_,rfl,AV.le.rfl,rfl⟩,trivial⟩ ⟨⟨_,_,rfl,rfl,AO.le.rfl,rfl⟩,⟨_,_,rfl,rfl,AO.le.rfl,rfl⟩,⟨_,_,rfl,rfl,AO.le.rfl,rfl⟩,trivial⟩ trivial ⟨⟨_,0,_,rfl,rfl,rfl⟩,⟨_,1,_,rfl,rfl,rfl⟩,⟨_,44,_,rfl,rfl,rfl⟩,trivial⟩ ⟨Or.inr ⟨_,_,rfl,by decide,fun _ _ h=>by obtain ⟨rfl,U,y1,hU,rfl⟩:=h;exact ⟨_,rfl⟩⟩,Or.inr ⟨_,_,rfl,by decide,fun _ _ h=>by obtain ⟨rfl,U,y1,hU,rfl⟩:=h;exact ⟨_,rfl⟩⟩,Or.inl rfl,trivial⟩ ⟨⟨2,rfl,by decide⟩,trivial⟩ ?_;rintro _ _ ⟨rfl,U,y1,hU,rfl⟩;exact AL.wk (wk (sl:= [(0,.ptr 0 0),(1,.wit 1),(44,.wit 2),(3,.own 3),(10,.d (.one (.v (.bool true)))),(4,.ptr 4 0),(31,.d (.one (.v (.bool false)))),(40,.wit 2),(41,.wit 2),(43,.d (.one (.v (.bool true))))]) (hp:= [(0,.is pp (.box 81 ([.v x,.v y1]))),(1,.is x (.row 84 15 U.n (itl ev U.pl))),(2,.is y1 (.row 3 1 U.m (trl U.tr))),(3,.row 54 14 (k+1) (appEl k (evl (bev ev gs)) (fun i' j'=>((evc (ev (T.tr 0-1)))[i'*14+j']?).getD (.v undef)))),(4,.box 54 (evc (ev (T.tr 0-1))))]) rfl ⟨hs rfl,hs rfl,hs rfl,hs rfl,hs rfl,hs rfl,hs rfl,hs rfl,hs rfl,hs rfl,trivial⟩ ⟨ho rfl,ho rfl,ho rfl,ho rfl,ho rfl,trivial⟩ rfl)<|mNil<|bN<|⟨(U,(k+1),(updH gs k (T.tr 0)),y1),hI.step hE hm (fun q=>absurd hk q) hU.1 hU.2,by have:=hU.2.m;show U.m < T.m;omega,wk rfl ⟨hs rfl,hs rfl,hs rfl,hs rfl,trivial⟩ ⟨ho rfl,ho rfl,ho rfl,ho' rfl (leo_bap (fun j hj=>by rw [Nat.zero_mul,Nat.zero_add])),trivial⟩ rfl⟩
  ·by_cases hz:cmpC (evC (ev (T.tr 0-1))) (evC (ev (gs 0-1)))=0
   ·refine cDk 13<|.cons (OpS.V _ rfl)<|oV rfl<|oTd rfl (by omega)<|.cons (OpS.V _ rfl)<|oV rfl<|oV rfl<|.cons (OpS.V _ rfl)<|.cons (OpS.V (.eptr 3 14 0 0) (ixO (z:=0) (n:=k) rfl rfl rfl rfl rfl rfl rfl (by omega) (by omega)))<|oV rfl<|oV rfl<|oC (aACmp (X:=20000) (KC:=50000) (N:=5) (hE (T.tr 0-1)).v (hE (gs 0-1)).v (by decide) (hE (T.tr 0-1)).l5 (hE (gs 0-1)).l5) rfl<|oF rfl (bne_eq_false_iff_eq.2 hz)<|.cons (OpS.V _ rfl)<|.nil<|mT<|cFs rfl<|cR<|mv2 rfl rfl<|mB hTT (.d (.one (.row 14 1 (fun i' j'=>((evc (ev (T.tr 0-1)))[i'*14+j']?).getD (.v undef))))) rfl<|mA hTT (id:=3) (n:=k) (m:=1) (el:=(evl (bev ev gs))) (el2:=(fun i' j'=>((evc (ev (T.tr 0-1)))[i'*14+j']?).getD (.v undef))) rfl rfl rfl (by show (k+1)*192≤140737488355328;omega) (by omega) rfl rfl rfl rfl rfl rfl rfl rfl rfl rfl<|mW rfl<|mT<|cReg<|mv2 rfl rfl<|mX (.ptr 0 0) (xNilP rfl rfl)<|mv2 rfl rfl<|AL.wk (wkRaw 40 44 2 rfl rfl rfl rfl)<|mV hTT (.eptr 2 1 0 0) (ixO (z:=0) (n:=T.m) rfl rfl rfl rfl rfl rfl rfl (by omega) (by omega))<|mW rfl<|mCL (aHDrop (pp:=pp) (x:=x) (y:=yy) (ev:=ev) (S:=T) (h:=T.tr 0) hE hI.hp (hI.hp.con.in (by omega)) (by omega) (by omega)) [(0,0),(1,1),(2,2)] [] [2] [2] rfl rfl ⟨⟨_,_,rfl,AV.le.rfl,rfl⟩,⟨_,_,rfl,AV.le.rfl,rfl⟩,trivial⟩ ⟨⟨_,_,rfl,rfl,AO.le.rfl,rfl⟩,⟨_,_,rfl,rfl,AO.le.rfl,rfl⟩,⟨_,_,rfl,rfl,AO.le.rfl,rfl⟩,trivial⟩ trivial ⟨⟨_,0,_,rfl,rfl,rfl⟩,⟨_,1,_,rfl,rfl,rfl⟩,⟨_,44,_,rfl,rfl,rfl⟩,trivial⟩ ⟨Or.inr ⟨_,_,rfl,by decide,fun _ _ h=>by obtain ⟨rfl,U,y1,hU,rfl⟩:=h;exact ⟨_,rfl⟩⟩,Or.inr ⟨_,_,rfl,by decide,fun _ _ h=>by obtain ⟨rfl,U,y1,hU,rfl⟩:=h;exact ⟨_,rfl⟩⟩,Or.inl rfl,trivial⟩ ⟨⟨2,rfl,by decide⟩,trivial⟩ ?_;rintro _ _ ⟨rfl,U,y1,hU,rfl⟩;exact AL.wk (wk (sl:= [(0,.ptr 0 0),(1,.wit 1),(44,.wit 2),(3,.own 3),(10,.d (.one (.v (.bool true)))),(4,.ptr 4 0),(31,.d (.one (.v (.bool false)))),(40,.wit 2),(41,.wit 2),(43,.d (.one (.v (.bool true))))]) (hp:= [(0,.is pp (.box 81 ([.v x,.v y1]))),(1,.is x (.row 84 15 U.n (itl ev U.pl))),(2,.is y1 (.row 3 1 U.m (trl U.tr))),(3,.row 54 14 (k+1) (appEl k (evl (bev ev gs)) (fun i' j'=>((evc (ev (T.tr 0-1)))[i'*14+j']?).getD (.v undef)))),(4,.box 54 (evc (ev (T.tr 0-1))))]) rfl ⟨hs rfl,hs rfl,hs rfl,hs rfl,hs rfl,hs rfl,hs rfl,hs rfl,hs rfl,hs rfl,trivial⟩ ⟨ho rfl,ho rfl,ho rfl,ho rfl,ho rfl,trivial⟩ rfl)<|mNil<|bN<|⟨(U,(k+1),(updH gs k (T.tr 0)),y1),hI.step hE hm (fun _=>hz) hU.1 hU.2,by have:=hU.2.m;show U.m < T.m;omega,wk rfl ⟨hs rfl,hs rfl,hs rfl,hs rfl,trivial⟩ ⟨ho rfl,ho rfl,ho rfl,ho' rfl (leo_bap (fun j hj=>by rw [Nat.zero_mul,Nat.zero_add])),trivial⟩ rfl⟩
   ·exact cDk 13<|.cons (OpS.V _ rfl)<|oV rfl<|oTd rfl (by omega)<|.cons (OpS.V _ rfl)<|oV rfl<|oV rfl<|.cons (OpS.V _ rfl)<|.cons (OpS.V (.eptr 3 14 0 0) (ixO (z:=0) (n:=k) rfl rfl rfl rfl rfl rfl rfl (by omega) (by omega)))<|oV rfl<|oV rfl<|oC (aACmp (X:=20000) (KC:=50000) (N:=5) (hE (T.tr 0-1)).v (hE (gs 0-1)).v (by decide) (hE (T.tr 0-1)).l5 (hE (gs 0-1)).l5) rfl<|oT rfl (bne_iff_ne.2 hz)<|.cons (OpS.V _ rfl)<|.nil<|mT<|cT rfl<|cExit<|tE<|bX rfl<|tE<|bE<|tN<|cSeq<|AW.wk (wkWt 43 44 2 rfl rfl rfl)<|AW.wk (wkRow 3 rfl)<|cReg<|mv2 rfl rfl<|mT<|cRet<|rL (.d (.one (.row 14 k (evl (bev ev gs))))) (.d (.one (.row 14 k (evl (bev ev gs))))) [(0,.is pp (.box 81 ([.v x,.v yy]))),(1,.is x (.row 84 15 T.n (itl ev T.pl))),(2,.is yy (.row 3 1 T.m (trl T.tr)))] [(0,.ptr 0 0),(1,.wit 1),(43,.wit 2)] ⟨k,gs,T,yy,⟨hI,Or.inr ⟨hk,hz⟩⟩,rfl,rfl⟩ (resL_p rfl) (wk (sl:= [(45,.d (.one (.row 14 k (evl (bev ev gs))))),(0,.ptr 0 0),(1,.wit 1),(43,.wit 2)]) (hp:= [(0,.is pp (.box 81 ([.v x,.v yy]))),(1,.is x (.row 84 15 T.n (itl ev T.pl))),(2,.is yy (.row 3 1 T.m (trl T.tr)))]) rfl ⟨hs rfl,hs rfl,hs rfl,hs rfl,trivial⟩ ⟨ho rfl,ho rfl,ho rfl,trivial⟩ rfl) ⟨⟨0,_,rfl,rfl⟩,⟨1,_,rfl,rfl⟩,⟨43,_,rfl,rfl⟩,trivial⟩
end Go.Proofs.YtapmpcgekdplfaaGreat
