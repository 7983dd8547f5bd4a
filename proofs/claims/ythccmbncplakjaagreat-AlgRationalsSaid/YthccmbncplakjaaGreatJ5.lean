/-
  Laws of the program's functions by an abstract machine, part 5: joined, short spelling. No condition.
-/
import Derived.Test.YthccmbncplakjaaGreatJ4
set_option linter.unusedVariables false
set_option linter.unusedSimpArgs false
set_option maxRecDepth 100000
set_option maxHeartbeats 4000000
namespace Go.Proofs.YthccmbncplakjaaGreat
open Go.RowKit
theorem aQSignN{K L n:Nat}{c:Nat→Int}{q:Rat}(zc:z20 c)(hn:n=lg c)(hK:K+L≤476000:=by omega)(hL:L≤476000:=by omega):ACall Tryz.prog 73 [.one (qrow K n (rc c)),.agg (qn L q)] (.d (.one (.v (.int .i64 (sgq (FF c q)))))):=by
 subst hn;have hlc:=lg_le c;have h:=aQSign (a:=qrow K (lg c) (rc c)) (K:=K) (c:=c) (n:=lg c) (fun _ _ _ h=>h) (isq L q) (D:=20) (T:=K+L+140) (M:=21*(K+L+140)) (by omega) (by decide) (Nat.le_refl _) (Nat.le_refl _) (by omega);rw [sgn_vl] at h;rw [show sgq (FF c q)=sgq (pz c q (lg c)) by rw [← FF_lg zc];rfl];exact h
theorem leo_iapp{e:TypeId}{i:Nat}{S:List Int}{el2:Nat→Nat→Lf}(h2:el2 0 0= .v (.int .i64 (S.getD i 0))):AO.le (.row e 1 (i+1) (appEl i (sgl S) el2)) (.row e 1 (i+1) (sgl S)):=leo_row fun p hp j hj B w v hv=>by
 obtain rfl:j=0:=by omega
 unfold appEl at hv
 by_cases h:p < i
 ·rw [show Nat.ble (p+1) i=true from Nat.ble_eq_true_of_le h] at hv;exact hv
 ·obtain rfl:p=i:=by omega
  rw [show Nat.ble (p+1) p=false from by rw [← Bool.not_eq_true,Nat.ble_eq];omega,Nat.sub_self] at hv;exact (show LfR B w (el2 0 0) v from hv) |> fun h9=>by rw [h2] at h9;exact h9
theorem ACall.exh{α:Type}{P:Program}{f:FuncId}{Q:α→Prop}{L:α→Lf}{ds:List DV}{res:AV}(hen:∀ vs w,(callFunc f vs).run P w= .ok (.enter f vs) w)(h:∀ x,Q x→ACall P f (.one (L x) ::ds) res):ACall P f (.one (exL Q L) ::ds) res:=
 ⟨hen,fun B w vs hB hd=>match vs,hd with | v ::vs,⟨⟨x,hq,hl⟩,h2⟩=>(h x hq).go B w (v ::vs) hB ⟨hl,h2⟩⟩
theorem cmpQ_dec(p q:Rat):(cmpQ p q==0)=decide (p=q):=by
 by_cases h:p=q
 ·rw [decide_eq_true h,cmpQ_eq h];rfl
 ·rw [decide_eq_false h];exact beq_eq_false_iff_ne.2 fun e=>h (cmpQ_zero.1 e)
def qac(K:Nat)(c:Nat→Int)(KC X:Nat)(lo:Rat)(Y:Nat)(hi:Rat):List Lf:= [qrow K (lg c) (rc c)] ++ [exL (ChQ c KC) (fun L=>qlr KC L)] ++qn X lo ++qn Y hi
theorem qb_mono{K L:Nat}{q:Rat}(h:Qb K q)(k:K≤L):Qb L q:=⟨Nat.lt_of_lt_of_le h.1 (Nat.pow_le_pow_right (by decide) k),Nat.lt_of_lt_of_le h.2 (Nat.pow_le_pow_right (by decide) k)⟩
theorem qa_bd{K KC X Y:Nat}{c:Nat→Int}{lo hi:Rat}(z:z20 c){B:BS}{w:World}{cs:List Value}(h:LsR B w ([qrow K (lg c) (rc c)] ++ [exL (ChQ c KC) (fun L=>qlr KC L)] ++qn X lo ++qn Y hi) cs):Db K c∧Qb X lo∧Qb Y hi:=by
 have e1:LsR B w ([qrow K (lg c) (rc c)] ++ [exL (ChQ c KC) (fun L=>qlr KC L)] ++qn X lo ++qn Y hi) cs:=h;have d1:=LsR.take 1 h;have d2:=LsR.take 4 (LsR.drop 2 h);have d3:=LsR.drop 6 h;have d2':LsR B w (qn X lo) ((cs.drop 2).take 4):=d2;have d3':LsR B w (qn Y hi) (cs.drop 6):=d3;refine ⟨?_,qn_bdT d2',qn_bdT d3'⟩;cases cs with
 | nil=>exact h.elim
 | cons a r=>exact qrow_bd z.lg (show LfR B w (qrow K (lg c) (rc c)) a from h.1)
theorem qa_le{K KC X Y:Nat}{c:Nat→Int}{lo hi:Rat}(h1:Qb Y lo)(h2:Qb Y hi):AV.le (.d (.agg ([qrow K (lg c) (rc c)] ++ [exL (ChQ c KC) (fun L=>qlr KC L)] ++qn X lo ++qn X hi))) (.d (.agg ([qrow K (lg c) (rc c)] ++ [exL (ChQ c KC) (fun L=>qlr KC L)] ++qn Y lo ++qn Y hi))):=le_agg (ls_cat (ls_cat (fun B w cs h=>h) (qn_tight h1)) (qn_tight h2))
theorem aQTurnsAt{KC X:Nat}{L:List (Nat→Int)}{t:Rat}(hz:∀ i,z20 (gl L i))(hL:L.length≤100000:=by omega)(hK:KC≤100000:=by omega)(hX:KC+X≤476000:=by omega):ACall Tryz.prog 139 [.one (qlr KC L),.agg (qn X t)] (.d (.one (.v (.int .i64 ((vr (sgL L t):Nat):Int))))):=by
 refine aN 24 [.tmp 4] Tryz.func139 rfl<|cR<|mO rfl<|mW rfl<|mT<|cR<|mW rfl<|mT<|cSeq<|cR<|mv3 rfl rfl rfl<|mT<|cBlock<|AW.wk (wkNil 5 5 3 1 (fun _ _=> .v undef) rfl rfl)<|cLoop (ι:=Nat) (fun (i:Nat)=>⟨24,[(0,.d (.one (.row 1 L.length (elQ KC L)))),(3,.ptr 3 0),(8,.d (.one (.v (.int .i64 ((L.length:Nat):Int))))),(5,.own 5),(9,.d (.one (.v (.int .i64 ((i:Nat):Int)))))],[(3,.box 30 (qn X t)),(5,.row 3 1 i (sgl (sgL L t)))]⟩) (fun (i:Nat)=>i≤L.length) (fun (i:Nat)=>L.length-i) 0 (Nat.zero_le _) (wk rfl ⟨hs rfl,hs rfl,hs rfl,hs rfl,hs' rfl (le_int rfl),trivial⟩ ⟨ho rfl,ho' rfl (leo_row0),trivial⟩ rfl) ?_;rintro i hI;have hi:i≤L.length:=hI;show AW _ _ _ ⟨_,_,_⟩
 refine cR<|mW rfl<|mT<|cSeq<|cCond rfl (fun hc1=>?_) (fun hc1=>?_)
 ·refine cSkip<|tN<|cSeq<|cBlock<|cR<|mv2 rfl rfl<|mT ?_;have hin:i < L.length:=by have h0:=of_decide_eq_true hc1;omega
  refine cDk 8<|.cons (OpS.V _ rfl)<|.cons (OpS.V _ rfl)<|.cons (OpS.V _ rfl)<|.cons (OpS.V (.d (.one (.at 1 ((elQ KC L) i)))) (ixR (el:=(elQ KC L)) (z:=((i:Nat):Int)) (n:=L.length) rfl rfl rfl rfl rfl rfl (by omega) (by omega))) ?_;exact oV rfl<|oV rfl<|oC (aQSignN (hz i) rfl) rfl<|.cons (OpS.B _ rfl)<|.nil<|mA hTT (id:=5) (n:=i) (m:=1) (el:=(sgl (sgL L t))) (el2:=(fun i' j'=>(([.v (.int .i64 (sgq (FF (gl L i) t)))])[i'*1+j']?).getD (.v undef))) rfl rfl rfl (by show (i+1)*8≤140737488355328;omega) (by omega) rfl rfl rfl rfl rfl rfl rfl rfl rfl rfl<|mW rfl<|mNil<|bN<|tN<|cReg<|mv2 rfl rfl<|mNil<|⟨(i+1),by omega,by omega,wk rfl ⟨hs rfl,hs rfl,hs rfl,hs rfl,hs' rfl (le_int (inc64 (by omega))),trivial⟩ ⟨ho rfl,ho' rfl (leo_iapp (by rw [sgL_at hin];rfl)),trivial⟩ rfl⟩
 ·refine cExit<|tE<|tE<|bE<|tN<|cSeq ?_;have hie:i=L.length:=by have h0:=of_decide_eq_false hc1;omega
  have hSl:(sgL L t).length=L.length:=by unfold sgL;rw [List.length_map]
  rw [← hSl] at hie;subst hie;exact AW.wk (wkRow 5 rfl)<|cReg<|mW rfl<|mY (aQTurns (sgL_3 L t) (by omega)) rfl<|mW rfl<|mT<|cRet<|rQ rfl (AV.le.rfl)
theorem aQBtwL{KC X Y:Nat}{c:Nat→Int}{L:List (Nat→Int)}{lo hi:Rat}(hQ:ChQ c KC L)(hab:lo≤hi)(hK:KC≤100000)(hX:KC+X≤476000)(hY:KC+Y≤476000):ACall Tryz.prog 75 [.one (qlr KC L),.agg (qn X lo),.agg (qn Y hi)] (.d (.one (.v (.int .i64 ((cntC c lo hi:Nat):Int))))):=by
 obtain ⟨hc1,_,_⟩:=hQ.cnt hab;obtain ⟨_,hln⟩:=hQ.len;have hvl:vr (sgL L lo)≤L.length:=by have:=vrA_le (sgL L lo) 0;unfold sgL at this;rw [List.length_map] at this;exact this
 exact aN 18 [.tmp 6] Tryz.func75 rfl<|cR<|mO rfl<|mO rfl<|mW rfl<|mT<|cSeq<|cR<|mv2 rfl rfl<|mY (aRCmpR (isq Y hi) (isq X lo)) rfl<|mdF rfl (by have:=cmpQ_ge.2 hab;omega)<|mT<|cFs rfl<|cSeq<|cDk 8<|.cons (OpS.V _ rfl)<|oV rfl<|oC (aQTurnsAt hQ.zz) rfl<|.cons (OpS.V _ rfl)<|oV rfl<|oC (aQTurnsAt hQ.zz) rfl<|.cons (OpS.V (.d (.one (.v (.int .i64 ((cntC c lo hi:Nat):Int))))) (evi ((wr64 (by omega) (by omega)).trans (by omega))))<|.cons (OpS.V _ rfl)<|.nil<|mT<|cRet<|rQ rfl (AV.le.rfl)
theorem aQBtw{KC X Y:Nat}{c:Nat→Int}{lo hi:Rat}(hab:lo≤hi)(hK:KC≤100000:=by omega)(hX:KC+X≤476000:=by omega)(hY:KC+Y≤476000:=by omega):ACall Tryz.prog 75 [.one (exL (ChQ c KC) (fun L=>qlr KC L)),.agg (qn X lo),.agg (qn Y hi)] (.d (.one (.v (.int .i64 ((cntC c lo hi:Nat):Int))))):=
 ACall.exh (enters Tryz.func75 rfl rfl) fun L hQ=>aQBtwL hQ hab hK hX hY
theorem aQPoint{K KC X Y:Nat}{c:Nat→Int}{lo hi:Rat}(hX:X≤100000:=by omega)(hY:Y≤100000:=by omega):ACall Tryz.prog 72 [.agg ([.row 4 (lg c) (qel K (rc c))] ++ [exL (ChQ c KC) (fun L=>qlr KC L)] ++qn X lo ++qn Y hi)] (.d (.one (.v (.bool (decide (lo=hi)))))):=by
 exact aN 9 [.tmp 2] Tryz.func72 rfl<|cR<|mO rfl<|mW rfl<|mT<|cR<|mv4 rfl rfl rfl rfl<|mY (aRCmpR (isq X lo) (isq Y hi)) rfl<|mV hTT (.d (.one (.v (.bool (decide (lo=hi)))))) (evb (cmpQ_dec _ _))<|mW rfl<|mT<|cRet<|rQ rfl (AV.le.rfl)
theorem aQExact{K KC X:Nat}{c:Nat→Int}{lo hi:Rat}(zc:z20 c)(hX:X≤100000:=by omega)(hK:K≤100000:=by omega):ACall Tryz.prog 141 [.agg ([.row 4 (lg c) (qel K (rc c))] ++ [exL (ChQ c KC) (fun L=>qlr KC L)] ++qn X lo ++qn X hi)] (.d (.agg ([.row 4 (lg c) (qel K (rc c))] ++ [exL (ChQ c KC) (fun L=>qlr KC L)] ++qn X ((exF c lo hi).1) ++qn X ((exF c lo hi).2)))):=by
 have hlc:=lg_le c;refine aN 21 [.cell 2 32] Tryz.func141 rfl<|cR<|mO rfl<|mO rfl<|mT<|cSeq<|cSeq ?_
 by_cases he:lo=hi
 ·exact cReg<|mv4 rfl rfl rfl rfl<|mY (aRCmpR (isq X lo) (isq X hi)) rfl<|mbF rfl (by rw [cmpQ_eq he];rfl)<|mW rfl<|mG rfl rfl<|mG rfl rfl<|mG rfl rfl<|mG rfl rfl<|mG rfl rfl<|mG rfl rfl<|mW rfl<|mT<|cFs rfl<|cR<|mW rfl<|mZ rfl<|mT<|cRet<|rQ rfl (by rw [show exF c lo hi=(lo,hi) from if_neg (fun k=>k.1 he)];exact AV.le.rfl)
 ·by_cases h0:sgq (FF c hi)=0
  ·exact cReg<|mv4 rfl rfl rfl rfl<|mY (aRCmpR (isq X lo) (isq X hi)) rfl<|mbT rfl (bne_iff_ne.2 fun e=>he (cmpQ_zero.1 e))<|mv5 rfl rfl rfl rfl rfl<|mY (aQSignN (zc) rfl) rfl<|mbT rfl (beq_iff_eq.2 h0)<|mW rfl<|mT<|cT rfl<|cReg<|mv3 rfl rfl rfl<|mZ rfl<|mT<|cR<|mW rfl<|mZ rfl<|mT<|cRet<|rQ rfl (by rw [show exF c lo hi=(hi,hi) from if_pos ⟨he,h0⟩];exact AV.le.rfl)
  ·exact cReg<|mv4 rfl rfl rfl rfl<|mY (aRCmpR (isq X lo) (isq X hi)) rfl<|mbT rfl (bne_iff_ne.2 fun e=>he (cmpQ_zero.1 e))<|mv5 rfl rfl rfl rfl rfl<|mY (aQSignN (zc) rfl) rfl<|mbF rfl (beq_eq_false_iff_ne.2 h0)<|mW rfl<|mT<|cFs rfl<|cR<|mW rfl<|mZ rfl<|mT<|cRet<|rQ rfl (by rw [show exF c lo hi=(lo,hi) from if_neg (fun k=>h0 k.2)];exact AV.le.rfl)
theorem aQHalve{K KC X Y:Nat}{c:Nat→Int}{lo hi:Rat}(hC:Cnt c)(hA:OkA c lo hi)(hex:EX c lo hi)(hm:Qb Y ((lo+hi) / 2))(hXY:X≤Y:=by omega)(hK:K≤100000:=by omega)(hKC:KC≤100000:=by omega)(hY:Y≤100000:=by omega):ACall Tryz.prog 76 [.agg ([.row 4 (lg c) (qel K (rc c))] ++ [exL (ChQ c KC) (fun L=>qlr KC L)] ++qn X lo ++qn X hi)] (.d (.agg ([.row 4 (lg c) (qel K (rc c))] ++ [exL (ChQ c KC) (fun L=>qlr KC L)] ++qn Y ((hlf c lo hi).1) ++qn Y ((hlf c lo hi).2)))):=by
 refine ACall.fact10 (enters Tryz.func76 rfl rfl) (p:=Db K c∧Qb X lo∧Qb X hi) (fun B w vs h=>match vs,h with | [_],⟨⟨cs,_,hl⟩,_⟩=>qa_bd hA.z hl) (fun hb=>?_);have hlc:=lg_le c;refine acallN hTT 25 [.cell 2 32] Tryz.func76 rfl rfl rfl rfl rfl<|cR<|mN hTT (.box 32 ([.row 4 (lg c) (qel K (rc c))] ++ [exL (ChQ c KC) (fun L=>qlr KC L)] ++qn X lo ++qn X hi)) rfl rfl rfl<|mN hTT (.box 32 ([.v (.slice none 0 0),.v (.slice none 0 0),.v (.slice none 0 0),.v (.bool false),.v (.slice none 0 0),.v (.bool false),.v (.slice none 0 0),.v (.bool false),.v (.slice none 0 0),.v (.bool false)])) rfl rfl rfl<|mT<|cSeq<|cR<|mW rfl<|mC0 (aQPoint (K:=K) (KC:=KC) (X:=X) (Y:=X) (c:=c) (lo:=lo) (hi:=hi) (by omega) (by omega)) rfl rfl rfl<|mT<|cCond rfl (fun hc1=>?_) (fun hc1=>?_)
 ·exact cR<|mW rfl<|mS hTT 2 (.box 32 ([.row 4 (lg c) (qel K (rc c))] ++ [exL (ChQ c KC) (fun L=>qlr KC L)] ++qn X lo ++qn X hi)) rfl<|mT<|cRet<|tR<|rQ rfl (by have he:lo=hi:=of_decide_eq_true hc1;rw [← (hC.half hA hex).1,show qhl c lo hi=(lo,hi) from if_pos he];exact qa_le (K:=K) (KC:=KC) (X:=X) (Y:=Y) (c:=c) (lo:=lo) (hi:=hi) (qb_mono hb.2.1 hXY) (qb_mono hb.2.2 hXY))
 ·refine cSkip<|tN<|cSeq ?_;have hne:¬ lo=hi:=of_decide_eq_false hc1;have hlt:lo < hi:=by have:=hA.le;grind
  refine cReg<|mv4 rfl rfl rfl rfl<|mC0 (aRHalf (isq X lo) (isq X hi) (M:=(((max X 64)+X)+200)) (by omega) (by omega)) rfl rfl rfl<|mN hTT (.box 30 ([.v (.slice none 0 0),.v (.bool false),.v (.slice none 0 0),.v (.bool false)])) rfl rfl rfl<|mS hTT 3 (.box 30 (qn (((max X 64)+X)+200) ((lo+hi) / 2))) rfl<|mT<|cSeq<|cSeq<|wB [3,11,10,9,8,7,5,4,2,1,0] [2,1] 3 (.box 30 (qn Y ((lo+hi) / 2))) rfl rfl (leo_qt rfl hm) rfl<|cReg<|mv5 rfl rfl rfl rfl rfl<|mC0 (aQBtw (KC:=KC) (X:=X) (Y:=Y) (c:=c) (lo:=lo) (hi:=((lo+hi) / 2)) (by grind) (by omega) (by omega) (by omega)) rfl rfl rfl<|mW rfl<|mT<|cCond rfl (fun hc2=>?_) (fun hc2=>?_)
  ·exact cReg<|mv2 rfl rfl<|mS hTT 1 (.box 32 ([.row 4 (lg c) (qel K (rc c))] ++ [exL (ChQ c KC) (fun L=>qlr KC L)] ++qn X lo ++qn Y ((lo+hi) / 2))) rfl<|mT<|cSeq<|wB [20,19,18,17,16,15,14,13,12,3,11,10,9,8,7,5,4,2,1,0] [3,2] 1 (.box 32 ([.row 4 (lg c) (qel K (rc c))] ++ [exL (ChQ c KC) (fun L=>qlr KC L)] ++qn Y lo ++qn Y ((lo+hi) / 2))) rfl rfl (leo_box (ls_cat (ls_cat (fun B w cs h=>h) (qn_tight (qb_mono hb.2.1 hXY))) (qn_tight hm))) rfl<|cReg<|mW rfl<|mC0 (aQExact (K:=K) (KC:=KC) (X:=Y) (c:=c) (lo:=lo) (hi:=((lo+hi) / 2)) (hA.z) (by omega) (by omega)) rfl rfl rfl<|mS hTT 2 (.box 32 ([.row 4 (lg c) (qel K (rc c))] ++ [exL (ChQ c KC) (fun L=>qlr KC L)] ++qn Y ((exF c lo ((lo+hi) / 2)).1) ++qn Y ((exF c lo ((lo+hi) / 2)).2))) rfl<|mT<|cRet<|rQ rfl (by rw [← (hC.half hA hex).1];unfold qhl;rw [if_neg hne,if_pos (show 0 < cntC c lo ((lo+hi) / 2) by have h0:=of_decide_eq_true hc2;omega)];exact AV.le.rfl)
  ·exact cReg<|mv2 rfl rfl<|mS hTT 1 (.box 32 ([.row 4 (lg c) (qel K (rc c))] ++ [exL (ChQ c KC) (fun L=>qlr KC L)] ++qn Y ((lo+hi) / 2) ++qn X hi)) rfl<|mT<|cSeq<|wB [22,21,18,17,16,15,14,13,12,3,11,10,9,8,7,5,4,2,1,0] [3,2] 1 (.box 32 ([.row 4 (lg c) (qel K (rc c))] ++ [exL (ChQ c KC) (fun L=>qlr KC L)] ++qn Y ((lo+hi) / 2) ++qn Y hi)) rfl rfl (leo_box (ls_cat (ls_cat (fun B w cs h=>h) (qn_tight hm)) (qn_tight (qb_mono hb.2.2 hXY)))) rfl<|cReg<|mW rfl<|mC0 (aQExact (K:=K) (KC:=KC) (X:=Y) (c:=c) (lo:=((lo+hi) / 2)) (hi:=hi) (hA.z) (by omega) (by omega)) rfl rfl rfl<|mS hTT 2 (.box 32 ([.row 4 (lg c) (qel K (rc c))] ++ [exL (ChQ c KC) (fun L=>qlr KC L)] ++qn Y ((exF c ((lo+hi) / 2) hi).1) ++qn Y ((exF c ((lo+hi) / 2) hi).2))) rfl<|mT<|cRet<|rQ rfl (by rw [← (hC.half hA hex).1];unfold qhl;rw [if_neg hne,if_neg (show ¬ 0 < cntC c lo ((lo+hi) / 2) by have h0:=of_decide_eq_false hc2;omega)];exact AV.le.rfl)
theorem aQCmpRat{K KC X Y:Nat}{c:Nat→Int}{lo hi t:Rat}(hC:Cnt c)(hA:OkA c lo hi)(hK:K≤100000:=by omega)(hKC:KC≤100000:=by omega)(hX:X≤100000:=by omega)(hY:max K KC+Y≤476000:=by omega):ACall Tryz.prog 44 [.agg ([.row 4 (lg c) (qel K (rc c))] ++ [exL (ChQ c KC) (fun L=>qlr KC L)] ++qn X lo ++qn X hi),.agg (qn Y t)] (.d (.one (.v (.int .i64 (cmpC (cutA c lo hi) (cutP t)))))):=by
 have hlc:=lg_le c;refine aN 33 [.tmp 4] Tryz.func44 rfl<|cR<|mO rfl<|mO rfl<|mW rfl<|mT<|cSeq<|cR<|mW rfl<|mY aQPoint rfl<|mT<|cCond rfl (fun hc1=>?_) (fun hc1=>?_)
 ·exact cR<|mv3 rfl rfl rfl<|mY (aRCmpR (isq X lo) (isq Y t)) rfl<|mW rfl<|mT<|cRet<|tR<|rQ rfl (by have he:lo=hi:=of_decide_eq_true hc1;exact le_int (by rw [← hC.rat hA];unfold crQ;rw [if_pos he]))
 ·refine cSkip<|tN<|cSeq<|cSeq ?_;have hne:¬ lo=hi:=of_decide_eq_false hc1;have hlt:lo < hi:=by have:=hA.le;grind
  refine cReg<|mv3 rfl rfl rfl<|mY (aRCmpR (isq Y t) (isq X lo)) rfl<|mW rfl<|mT<|cCond rfl (fun hc2=>?_) (fun hc2=>?_)
  ·exact cR<|mW rfl<|mT<|cRet<|tR<|rQ rfl (by have h1:t≤lo:=by {have h0:=of_decide_eq_true hc2;exact cmpQ_le.1 (by omega)};exact le_int (by rw [← hC.rat hA];unfold crQ;rw [if_neg hne,if_pos h1]))
  ·refine cSkip<|tN<|cSeq<|cSeq ?_;have h1:¬ t≤lo:=fun k=>by have h0:=of_decide_eq_false hc2;have:=cmpQ_le.2 k;omega
   refine cReg<|mv3 rfl rfl rfl<|mY (aRCmpR (isq Y t) (isq X hi)) rfl<|mW rfl<|mT<|cCond rfl (fun hc3=>?_) (fun hc3=>?_)
   ·exact cR<|mW rfl<|mT<|cRet<|tR<|rQ rfl (by have h2:hi < t:=by {have h0:=of_decide_eq_true hc3;apply Classical.byContradiction;intro k;have:=cmpQ_le.2 (show t≤hi by grind);omega};exact le_int (by rw [← hC.rat hA];unfold crQ;rw [if_neg hne,if_neg h1,if_pos h2]))
   ·refine cSkip<|tN<|cSeq<|cSeq ?_;have h2:¬ hi < t:=fun k=>by have h0:=of_decide_eq_false hc3;have:=cmpQ_gt k;omega
    refine cReg<|mv5 rfl rfl rfl rfl rfl<|mY (aQBtw (by grind)) rfl<|mW rfl<|mT<|cCond rfl (fun hc4=>?_) (fun hc4=>?_)
    ·exact cR<|mW rfl<|mT<|cRet<|tR<|rQ rfl (by have h3:cntC c lo t=0:=by {have h0:=eq_of_beq hc4;omega};exact le_int (by rw [← hC.rat hA];unfold crQ;rw [if_neg hne,if_neg h1,if_neg h2,if_pos h3]))
    ·refine cSkip<|tN<|cSeq<|cR<|mv3 rfl rfl rfl<|mY (aQSignN (hA.z) rfl) rfl<|mW rfl<|mT<|cCond rfl (fun hc5=>?_) (fun hc5=>?_)
     ·exact cR<|mW rfl<|mT<|cRet<|tR<|rQ rfl (by have h3:¬ cntC c lo t=0:=by {have h0:=beq_eq_false_iff_ne.1 hc4;omega};have h4:=eq_of_beq hc5;exact le_int (by rw [← hC.rat hA];unfold crQ;rw [if_neg hne,if_neg h1,if_neg h2,if_neg h3,if_pos h4]))
     ·exact cSkip<|tN<|cR<|mW rfl<|mT<|cRet<|rQ rfl (by have h3:¬ cntC c lo t=0:=by {have h0:=beq_eq_false_iff_ne.1 hc4;omega};have h4:=beq_eq_false_iff_ne.1 hc5;exact le_int (by rw [← hC.rat hA];unfold crQ;rw [if_neg hne,if_neg h1,if_neg h2,if_neg h3,if_neg h4]))
def elA(K:Nat)(c:Nat→Int)(KC X:Nat)(l:List (Rat×Rat)):Nat→Nat→Lf:=fun i j=>((qac K c KC X (l.getD i (0,0)).1 X (l.getD i (0,0)).2)[j]?).getD (.v undef)
section
variable {e:TypeId} {K:Nat} {c:Nat→Int} {KC X:Nat}
theorem leo_aone{p:Rat×Rat}{el2:Nat→Nat→Lf}(h:∀ j,j < 10→el2 0 j=((qac K c KC X p.1 X p.2)[j]?).getD (.v undef)):AO.le (.row e 10 1 el2) (.row e 10 [p].length (elA K c KC X [p])):=leo_row fun i hi j hj B w v hv=>by
 obtain rfl:i=0:=by omega
 rw [h j hj] at hv;exact hv
theorem leo_aapp{l l2:List (Rat×Rat)}:AO.le (.row e 10 (l.length+l2.length) (appEl l.length (elA K c KC X l) (elA K c KC X l2))) (.row e 10 (l ++l2).length (elA K c KC X (l ++l2))):=by
 rw [List.length_append];refine leo_row fun i hi j hj B w v hv=>?_
 unfold appEl at hv
 by_cases h:i < l.length
 ·rw [show Nat.ble (i+1) l.length=true from Nat.ble_eq_true_of_le h] at hv
  have e2:(l ++l2).getD i (0,0)=l.getD i (0,0):=by rw [List.getD_eq_getElem?_getD,List.getD_eq_getElem?_getD,List.getElem?_append_left h]
  unfold elA;rw [e2];exact hv
 ·rw [show Nat.ble (i+1) l.length=false from by rw [← Bool.not_eq_true,Nat.ble_eq];omega] at hv
  have e2:(l ++l2).getD i (0,0)=l2.getD (i-l.length) (0,0):=by rw [List.getD_eq_getElem?_getD,List.getD_eq_getElem?_getD,List.getElem?_append_right (by omega)]
  unfold elA;rw [e2];exact hv
end
theorem Tb.qb{K L:Nat}{q:Rat}(h:Tb K q)(k:3*K≤L):Qb L q:=⟨Nat.lt_of_lt_of_le (Nat.lt_of_lt_of_le h.1 (b32_b4 K)) (Nat.pow_le_pow_right (by decide) k),Nat.lt_of_lt_of_le (Nat.lt_of_lt_of_le h.2 (b32_b4 K)) (Nat.pow_le_pow_right (by decide) k)⟩
theorem Qb.tb{K L:Nat}{q:Rat}(h:Qb (2*K) q)(k:K≤L):Tb L q:=tb_mono ⟨Nat.lt_of_lt_of_le h.1 (b4_b32 K),Nat.lt_of_lt_of_le h.2 (b4_b32 K)⟩ k
theorem Dz.mid{L J:Nat}{p q:Rat}(h:Dz L J p q):Dz L (J+1) p ((p+q) / 2)∧Dz L (J+1) ((p+q) / 2) q:=by
 obtain ⟨D,R,a,b,c,d,e⟩:=h.e;have hm:=d.mid e;exact ⟨⟨D,R,a,b,c,d.mono (Nat.le_succ _),hm⟩,⟨D,R,a,b,c,hm,e.mono (Nat.le_succ _)⟩⟩
theorem Dz.qb{L J X:Nat}{p q:Rat}(h:Dz L J p q)(hX:3*(3*L+J / 32+1)≤X):Qb X p∧Qb X q:=by
 obtain ⟨a,b⟩:=h.tb (Nat.le_refl _);exact ⟨a.qb hX,b.qb hX⟩
/-- An interval on the way down. -/
structure SpI(c:Nat→Int)(h1 L J d:Nat)(lo hi:Rat):Prop where
 le:lo≤hi
 l: -(t2 (h1+1))≤lo
 h:hi≤t2 (h1+1)
 w:(hi-lo)*t2 (sepE (lg c) (lg c) h1 h1)≤t2 d
 d:Dz L J lo hi
theorem SpI.down{c:Nat→Int}{h1 L J d:Nat}{lo hi:Rat}(h:SpI c h1 L J (d+1) lo hi):SpI c h1 L (J+1) d lo ((lo+hi) / 2)∧SpI c h1 L (J+1) d ((lo+hi) / 2) hi:=by
 obtain ⟨a1,a2,a3,a4,a5⟩:=h;obtain ⟨m,hm⟩:∃ m,m=(lo+hi) / 2:=⟨_,rfl⟩
 have hd:=a5.mid;rw [← hm] at hd ⊢;have hE:=t2_pos (sepE (lg c) (lg c) h1 h1);have e2:t2 (d+1)=t2 d*2:=by rw [t2_add d 1];rfl
 have w1:m-lo=(hi-lo) / 2:=by grind
 have w2:hi-m=(hi-lo) / 2:=by grind
 refine ⟨⟨by grind,a2,by grind,?_,hd.1⟩,⟨by grind,by grind,a3,?_,hd.2⟩⟩
 ·rw [w1];rw [e2] at a4;grind
 ·rw [w2];rw [e2] at a4;grind
theorem SpI.ok{c:Nat→Int}{h1 L J d:Nat}{lo hi:Rat}(h:SpI c h1 L J d lo hi)(hC:Cnt c)(b1:∀ i,(c i).natAbs≤2^h1):SpP c lo hi (spF c (d+1) lo hi):=spF_ok hC b1 d lo hi h.le h.l h.h h.w
theorem sp_0{c:Nat→Int}{n:Nat}{lo hi:Rat}(h:cntC c lo hi=0):spF c (n+1) lo hi= []:=if_pos h
theorem sp_1{c:Nat→Int}{n:Nat}{lo hi:Rat}(h:cntC c lo hi=1):spF c (n+1) lo hi= [exF c lo hi]:=by
 show (if cntC c lo hi=0 then [] else _)=_
 rw [if_neg (by omega),if_pos h]
theorem sp_2{c:Nat→Int}{n:Nat}{lo hi:Rat}(h0:¬ cntC c lo hi=0)(h1:¬ cntC c lo hi=1):spF c (n+1) lo hi=spF c n lo ((lo+hi) / 2) ++spF c n ((lo+hi) / 2) hi:=by
 show (if cntC c lo hi=0 then [] else _)=_
 rw [if_neg h0,if_neg h1]
/-- How deep. -/
def rtD(c:Nat→Int)(h1:Nat):Nat:=sepE (lg c) (lg c) h1 h1+h1+2
/-- ALL ROOTS. -/
noncomputable def rtF(c:Nat→Int)(h1:Nat):List (Rat×Rat):=spF c (rtD c h1+1) (-(bdQ c)) (bdQ c)
theorem rt_start{c:Nat→Int}{h1 L:Nat}(hC:Cnt c)(b1:∀ i,(c i).natAbs≤2^h1)(hL:Tb L (bdQ c)):SpI c h1 L 0 (rtD c h1) (-(bdQ c)) (bdQ c):=by
 have h0:lg c≠0:=by have:=hC.l2;omega
 have g1:=bdQ_ge h0;have g2:=bdQ_le h0 b1;have hp:=t2_one h1;have e1:((2^h1:Nat):Rat)=t2 h1:=by unfold t2;rfl
 have e2:t2 (h1+1)=t2 h1*2:=by rw [t2_add h1 1];rfl
 rw [e1] at g2;have hE:=t2_pos (sepE (lg c) (lg c) h1 h1);refine ⟨by grind,by rw [e2];grind,by rw [e2];grind,?_,dz_start ?_ hL⟩
 ·have w1:bdQ c- -(bdQ c)≤t2 (h1+2):=by rw [show h1+2=h1+1+1 from rfl,t2_add (h1+1) 1,e2,show t2 1=2 from rfl];grind
  have:=Rat.mul_le_mul_of_nonneg_right w1 (show 0≤t2 (sepE (lg c) (lg c) h1 h1) by grind);unfold rtD;rw [Nat.add_assoc,t2_add (sepE _ _ _ _) (h1+2)];grind
 ·exact ⟨by rw [Rat.neg_num,Int.natAbs_neg];exact hL.1,by rw [Rat.neg_den];exact hL.2⟩
/-- What all roots are. -/
structure RtP(c:Nat→Int)(l:List (Rat×Rat)):Prop where
 ok:∀ p∈l,OkV c p.1 p.2∧EX c p.1 p.2
 all:∀ C,IsCut C→VC (FF c) C→∃ p∈l,∀ q,cutA c p.1 p.2 q↔C q
 rise:l.Pairwise fun p q=>cmpC (cutA c p.1 p.2) (cutA c q.1 q.2)= -1
 len:l.length=cntC c (-(bdQ c)) (bdQ c)
theorem rt_ok{c:Nat→Int}{h1 L:Nat}(hC:Cnt c)(b1:∀ i,(c i).natAbs≤2^h1)(hL:Tb L (bdQ c)):RtP c (rtF c h1):=by
 have h:=(rt_start hC b1 hL).ok hC b1;exact ⟨fun p hp=>⟨(h.ok p hp).1,(h.ok p hp).2.1⟩,fun C hI v=>by
  obtain ⟨k1,k2⟩:=bdQ_vc hC.z (by have:=hC.l2;omega) hI v;exact h.all C hI v k1 k2,h.rise,h.len⟩
theorem leo_absq{t:TypeId}{K:Nat}{z:Int}:AO.le (.box t ([dn K (Int.natAbs (Rat.num ((z:Int):Rat))),.v (.bool false)] ++rn K ((Rat.den ((z:Int):Rat):Nat):Int))) (.box t (qn K ((Int.natAbs z:Nat):Rat))):=by
 have e: [dn K (Int.natAbs (Rat.num ((z:Int):Rat))),.v (.bool false)] ++rn K ((Rat.den ((z:Int):Rat):Nat):Int)=qn K ((Int.natAbs z:Nat):Rat):=by
  unfold qn;rw [Rat.num_intCast,Rat.den_intCast,Rat.num_natCast,Rat.den_natCast];show _= [dn K (Int.natAbs ((z.natAbs:Nat):Int)),.v (.bool (decide (((z.natAbs:Nat):Int) < 0)))] ++_
  rw [Int.natAbs_natCast,decide_eq_false (show ¬ ((z.natAbs:Nat):Int) < 0 by omega)]
 rw [e];exact fun _ _ _ _ h=>h
theorem aQBound{M Y:Nat}{c:Nat→Int}(zc:z20 c)(h2:2≤lg c)(hM:1≤M)(hM2:M≤100000)(hY:2*M+200≤Y):ACall Tryz.prog 108 [.one (qrow M (lg c) (rc c))] (.d (.agg (qn Y (bdQ c)))):=by
 have hlc:=lg_le c;refine aN 43 [.cell 2 30] Tryz.func108 rfl<|cR<|mO rfl<|mT<|cR<|mY (aQZero) rfl<|mO rfl<|mZ rfl<|mT<|cSeq<|cR<|mW rfl<|mT<|cBlock<|cLoop (ι:=Nat) (fun (i:Nat)=>⟨43,[(0,.d (.one (.row 4 (lg c) (qel M (rc c))))),(2,.ptr 2 0),(3,.ptr 3 0),(4,.d (.one (.v (.int .i64 ((i:Nat):Int)))))],[(2,.box 30 ([.v (.slice none 0 0),.v (.bool false),.v (.slice none 0 0),.v (.bool false)])),(3,.box 30 (qn M ((mxA c i:Nat):Rat)))]⟩) (fun (i:Nat)=>i≤lg c-1) (fun (i:Nat)=>lg c-1-i) 0 (Nat.zero_le _) (wk rfl ⟨hs rfl,hs rfl,hs rfl,hs' rfl (le_int rfl),trivial⟩ ⟨ho rfl,ho' rfl (leo_qt rfl (qb_int (z:=0) (Nat.pow_pos (by decide)) hM)),trivial⟩ rfl) ?_;rintro i hI;have hi:i≤lg c-1:=hI;show AW _ _ _ ⟨_,_,_⟩
 refine cSeq<|cR<|mW rfl<|mV hTT (.d (.one (.v (.int .i64 ((i+1:Nat):Int))))) (evi (inc64 (by omega)))<|mv3 rfl rfl rfl<|mT<|cCond rfl (fun hc1=>?_) (fun hc1=>?_)
 ·refine cSkip<|tN<|cSeq<|cBlock<|cSeq ?_;have hin:i+1 < lg c:=by have h0:=of_decide_eq_true hc1;omega
  refine cReg<|mv2 rfl rfl<|mV hTT (.d (.one (.at 4 ((qel M (rc c)) i)))) (ixR (el:=(qel M (rc c))) (z:=((i:Nat):Int)) (n:=(lg c)) rfl rfl rfl rfl rfl rfl (by omega) (by omega)) ?_;refine mW rfl<|mO rfl<|mZ rfl<|mT<|cR<|mv2 rfl rfl<|mZ rfl<|mT<|cSeq<|wB [20,19,5,18,17,16,15,12,11,10,9,8,4,3,2,0] [3,2] 5 (.box 30 (qn M ((Int.natAbs (c i):Nat):Rat))) rfl rfl (leo_absq) rfl ?_;refine cReg<|mv2 rfl rfl<|mY (aRCmpR (isq M ((Int.natAbs (c i):Nat):Rat)) (isq M ((mxA c i:Nat):Rat))) rfl<|mW rfl<|mT<|cCond rfl (fun hc2=>?_) (fun hc2=>?_)
  ·exact cReg<|mW rfl<|mZ rfl<|mNil<|bN<|tN<|cReg<|mv3 rfl rfl rfl<|mNil<|⟨(i+1),by omega,by omega,wk rfl ⟨hs rfl,hs rfl,hs rfl,hs' rfl (le_int (inc64 (by omega))),trivial⟩ ⟨ho rfl,ho' rfl (leo_qn (Nat.le_refl _) (by have h0:=of_decide_eq_true hc2;have h1:(mxA c i:Rat) < ((c i).natAbs:Rat):=(by apply Classical.byContradiction;intro k;have:=cmpQ_le.2 (show ((c i).natAbs:Rat)≤(mxA c i:Rat) by grind);omega);have h2:mxA c i < (c i).natAbs:=(by exact_mod_cast h1);show ((c i).natAbs:Rat)=((max (mxA c i) (c i).natAbs:Nat):Rat);rw [Nat.max_eq_right (by omega)])),trivial⟩ rfl⟩
  ·exact cSkip<|bN<|tN<|cReg<|mv3 rfl rfl rfl<|mNil<|⟨(i+1),by omega,by omega,wk rfl ⟨hs rfl,hs rfl,hs rfl,hs' rfl (le_int (inc64 (by omega))),trivial⟩ ⟨ho rfl,ho' rfl (leo_qn (Nat.le_refl _) (by have h0:=of_decide_eq_false hc2;have h1:((c i).natAbs:Rat)≤(mxA c i:Rat):=(by apply Classical.byContradiction;intro k;have:=cmpQ_gt (show (mxA c i:Rat) < ((c i).natAbs:Rat) by grind);omega);have h2:(c i).natAbs≤mxA c i:=(by exact_mod_cast h1);show (mxA c i:Rat)=((max (mxA c i) (c i).natAbs:Nat):Rat);rw [Nat.max_eq_left (by omega)])),trivial⟩ rfl⟩
 ·refine cExit<|tE<|tE<|bE<|tN<|cSeq<|cSeq ?_;have hie:i=lg c-1:=by have h0:=of_decide_eq_false hc1;omega
  subst hie;refine cReg<|mv2 rfl rfl<|mdF rfl (by omega)<|mT<|cFs rfl<|cR<|mv3 rfl rfl rfl<|mV hTT (.d (.one (.v (.int .i64 ((lg c-1:Nat):Int))))) (evi ((wr64 (by omega) (by omega)).trans (by omega)))<|mV hTT (.d (.one (.at 4 ((qel M (rc c)) (lg c-1))))) (ixR (el:=(qel M (rc c))) (z:=((lg c-1:Nat):Int)) (n:=(lg c)) rfl rfl rfl rfl rfl rfl (by omega) (by omega)) ?_;refine mW rfl<|mO rfl<|mZ rfl<|mT<|cR<|mv2 rfl rfl<|mZ rfl<|mT<|cSeq<|wB [37,36,6,35,34,33,32,31,30,28,27,26,12,11,10,9,8,4,3,2,0] [3,2] 6 (.box 30 (qn M ((Int.natAbs (c (lg c-1)):Nat):Rat))) rfl rfl (leo_absq) rfl ?_;exact cDk 5<|oC aROfI rfl<|oV rfl<|oV rfl<|oC (aRQuoR (isq M ((mxA c (lg c-1):Nat):Rat)) (isq M ((Int.natAbs (c (lg c-1)):Nat):Rat)) (by have h0:=lead_pos (c:=c) (by omega);grind) (M:=(max (M+M+1) 64))) rfl<|oC (aRAddR (isq 64 ((1:Int):Rat)) (isq (max (M+M+1) 64) (((mxA c (lg c-1):Nat):Rat) / ((Int.natAbs (c (lg c-1)):Nat):Rat))) (M:=(max (64+(max (M+M+1) 64)+1) 64))) rfl<|.nil<|mZ rfl<|mT<|cRet<|rQ rfl (le_qn (by omega) rfl)
theorem aQSplitI{K KC X L JM h1 J d:Nat}{c:Nat→Int}{lo hi:Rat}(hC:Cnt c)(b1:∀ i,(c i).natAbs≤2^h1)(hcb:∀ a b,a≤b→cntC c a b≤1000000)(hI:SpI c h1 L J d lo hi)(hJ:J+d≤JM)(hX:3*(3*L+JM / 32+1)≤X)(hX1:X≤90000)(hK:K≤100000)(hKC:KC≤100000)(ih:∀ d',d=d'+1→∀ lo hi J,SpI c h1 L J d' lo hi→J+d'≤JM→ACallR Tryz.prog 109 [.one (qrow K (lg c) (rc c)),.one (exL (ChQ c KC) (fun L=>qlr KC L)),.agg (qn X lo),.agg (qn X hi)] 32 10 (spF c (d'+1) lo hi).length (elA K c KC X (spF c (d'+1) lo hi))):ACallR Tryz.prog 109 [.one (qrow K (lg c) (rc c)),.one (exL (ChQ c KC) (fun L=>qlr KC L)),.agg (qn X lo),.agg (qn X hi)] 32 10 (spF c (d+1) lo hi).length (elA K c KC X (spF c (d+1) lo hi)):=by
 have hlc:=lg_le c;refine acallR hTT 40 8 Tryz.func109 rfl rfl rfl rfl rfl<|cR<|mO rfl<|mO rfl<|mW rfl<|mT<|cR<|mv3 rfl rfl rfl<|mY (aQBtw hI.le) rfl<|mW rfl<|mT<|cSeq<|cSeq ?_
 by_cases hn0:cntC c lo hi=0
 ·exact cReg<|mW rfl<|mbT rfl (beq_iff_eq.2 (by omega))<|mT<|cT rfl<|cR<|mW rfl<|AL.wk (wkNil 8 8 32 10 (fun _ _=> .v undef) rfl rfl)<|mT<|cRet<|tR<|rR 8 (by rfl) (by rfl) (by rw [sp_0 hn0];exact leo_row0 (el:=fun _ _=> .v undef))
 ·by_cases hn1:cntC c lo hi=1
  ·exact cReg<|mW rfl<|mbF rfl (beq_eq_false_iff_ne.2 (by omega))<|mT<|cFs rfl<|cSeq<|cR<|mW rfl<|mbT rfl (beq_iff_eq.2 (by omega))<|mT<|cT rfl<|cR<|mv5 rfl rfl rfl rfl rfl<|mY (aQExact (hC.z)) rfl<|mR hTT (.row 32 10 1 (fun i' j'=>(([.row 4 (lg c) (qel K (rc c))] ++ [exL (ChQ c KC) (fun L=>qlr KC L)] ++qn X ((exF c lo hi).1) ++qn X ((exF c lo hi).2))[i'*10+j']?).getD (.v undef))) rfl rfl rfl<|mW rfl<|mT<|cRet<|tR<|rR 25 rfl rfl (by rw [sp_1 hn1];exact leo_aone (fun j hj=>by show (_[0*10+j]?).getD _=_;rw [Nat.zero_mul,Nat.zero_add];rfl))
  ·obtain ⟨d',rfl⟩:∃ d',d=d'+1:=by
    cases d with
    | zero=>exfalso;have h9:=split_one hC b1 hI.le hI.l hI.h (by have:=hI.w;rw [show t2 0=1 from rfl] at this;exact this);omega
    | succ d=>exact ⟨d,rfl⟩
   obtain ⟨i1,i2⟩:=hI.down;have hq:=(i1.d.qb (X:=X) (by omega)).2;refine cReg<|mW rfl<|mbF rfl (beq_eq_false_iff_ne.2 (by omega))<|mT<|cFs rfl<|cSeq<|cR<|mW rfl<|mbF rfl (beq_eq_false_iff_ne.2 (by omega))<|mT<|cFs rfl<|cR<|mv2 rfl rfl<|mY (aRHalf (isq X lo) (isq X hi) (M:=(((max X 64)+X)+200))) rfl<|mO rfl<|mZ rfl<|mT<|cSeq<|wB [10,28,27,26,18,17,16,15,9,14,13,12,11,8,7,6,3,2,1,0] [7,6] 10 (.box 30 (qn X ((lo+hi) / 2))) rfl rfl (leo_qt rfl hq) rfl<|wK [10,7,6,1,0] [10,7,6] rfl rfl ?_;obtain ⟨l1,hl1⟩:∃ l,l=spF c (d'+1) lo ((lo+hi) / 2):=⟨_,rfl⟩
   have cl1:=ih d' rfl lo ((lo+hi) / 2) (J+1) i1 (by omega);have nl1:l1.length≤1000000:=by have h8:=(i1.ok hC b1).len;have h7:=hcb _ _ i1.le;rw [← hl1] at h8;omega
   rw [← hl1] at cl1;obtain ⟨l2,hl2⟩:∃ l,l=spF c (d'+1) ((lo+hi) / 2) hi:=⟨_,rfl⟩
   have cl2:=ih d' rfl ((lo+hi) / 2) hi (J+1) i2 (by omega);have nl2:l2.length≤1000000:=by have h8:=(i2.ok hC b1).len;have h7:=hcb _ _ i2.le;rw [← hl2] at h8;omega
   rw [← hl2] at cl2;refine cAnyB (by kernel_rfl)<|bTake 0 rfl (by kernel_rfl) (by kernel_rfl) (by kernel_rfl) (fun _ _ h=>h) rfl rfl (av:= .d (.one (.row 4 (lg c) (qel K (rc c))))) (pMove rfl rfl)<|bTake 1 rfl (by kernel_rfl) (by kernel_rfl) (by kernel_rfl) (fun _ _ h=>h) rfl rfl (av:= .d (.one (exL (ChQ c KC) (fun L=>qlr KC L)))) (pMove rfl rfl)<|bTake 5 rfl (by kernel_rfl) (by kernel_rfl) (by kernel_rfl) (fun _ _ h=>h) rfl rfl (av:= .d (.one (.row 4 (lg c) (qel K (rc c))))) (pMove rfl rfl)<|bTake 6 rfl (by kernel_rfl) (by kernel_rfl) (by kernel_rfl) (fun _ _ h=>h) rfl rfl (av:= .d (.one (exL (ChQ c KC) (fun L=>qlr KC L)))) (pMove rfl rfl)<|bOf<|anyCut 1 #[true,true,true,true,true,true,true,true,true,true,true,false] ⟨40,[(0,.d (.one (.row 4 (lg c) (qel K (rc c))))),(1,.d (.one (exL (ChQ c KC) (fun L=>qlr KC L)))),(6,.ptr 6 0),(7,.ptr 7 0),(10,.ptr 10 0),(29,.d (.one (.row 4 (lg c) (qel K (rc c))))),(30,.d (.one (exL (ChQ c KC) (fun L=>qlr KC L)))),(34,.d (.one (.row 4 (lg c) (qel K (rc c))))),(35,.d (.one (exL (ChQ c KC) (fun L=>qlr KC L)))),(31,.d (.agg (qn X lo))),(32,.d (.agg (qn X ((lo+hi) / 2)))),(33,.dead),(36,.d (.agg (qn X ((lo+hi) / 2)))),(37,.d (.agg (qn X hi))),(38,.d (.one (.row 10 l2.length (elA K c KC X l2)))),(39,.own 33)],[(6,.box 30 (qn X lo)),(7,.box 30 (qn X hi)),(10,.box 30 (qn X ((lo+hi) / 2))),(33,.row 32 10 (l1.length+l2.length) (appEl l1.length (elA K c KC X l1) (elA K c KC X l2)))]⟩ ?_ (fun hD111111111110=>?_)
   ·refine anyS [11] (by kernel_rfl) rfl ?_;refine ⟨⟨_,rfl,?_⟩,trivial⟩
    ·exact mW rfl<|mT<|anyN (by kernel_rfl)<|tN<|cRet<|rR 33 rfl rfl (by rw [sp_2 hn0 hn1];rw [← hl1,← hl2];exact leo_aapp)
   refine anyCut 2 #[true,true,true,true,true,true,true,true,true,true,false,false] ⟨40,[(0,.d (.one (.row 4 (lg c) (qel K (rc c))))),(1,.d (.one (exL (ChQ c KC) (fun L=>qlr KC L)))),(6,.ptr 6 0),(7,.ptr 7 0),(10,.ptr 10 0),(29,.d (.one (.row 4 (lg c) (qel K (rc c))))),(30,.d (.one (exL (ChQ c KC) (fun L=>qlr KC L)))),(34,.d (.one (.row 4 (lg c) (qel K (rc c))))),(35,.d (.one (exL (ChQ c KC) (fun L=>qlr KC L)))),(31,.d (.agg (qn X lo))),(32,.d (.agg (qn X ((lo+hi) / 2)))),(33,.own 33),(36,.d (.agg (qn X ((lo+hi) / 2)))),(37,.d (.agg (qn X hi))),(38,.own 38)],[(6,.box 30 (qn X lo)),(7,.box 30 (qn X hi)),(10,.box 30 (qn X ((lo+hi) / 2))),(33,.row 32 10 l1.length (elA K c KC X l1)),(38,.row 32 10 l2.length (elA K c KC X l2))]⟩ ?_ (fun hD111111111100=>?_)
   ·refine anyS [10] (by kernel_rfl) rfl ?_;refine ⟨⟨_,rfl,?_⟩,trivial⟩
    ·exact AL.wk (wkRow 38 rfl)<|mA hTT (id:=33) (n:=l1.length) (m:=l2.length) (el:=(elA K c KC X l1)) (el2:=(elA K c KC X l2)) rfl rfl rfl (by show (l1.length+l2.length)*176≤140737488355328;omega) (by omega) rfl rfl rfl rfl rfl rfl rfl rfl rfl rfl<|mT<|anyV hD111111111110 11 [] (by kernel_rfl) (wkr rfl rfl)
   refine anyCut 3 #[true,true,true,true,true,true,true,true,true,false,false,false] ⟨40,[(0,.d (.one (.row 4 (lg c) (qel K (rc c))))),(1,.d (.one (exL (ChQ c KC) (fun L=>qlr KC L)))),(6,.ptr 6 0),(7,.ptr 7 0),(10,.ptr 10 0),(29,.d (.one (.row 4 (lg c) (qel K (rc c))))),(30,.d (.one (exL (ChQ c KC) (fun L=>qlr KC L)))),(34,.d (.one (.row 4 (lg c) (qel K (rc c))))),(35,.d (.one (exL (ChQ c KC) (fun L=>qlr KC L)))),(31,.d (.agg (qn X lo))),(32,.d (.agg (qn X ((lo+hi) / 2)))),(33,.own 33),(36,.d (.agg (qn X ((lo+hi) / 2)))),(37,.d (.agg (qn X hi)))],[(6,.box 30 (qn X lo)),(7,.box 30 (qn X hi)),(10,.box 30 (qn X ((lo+hi) / 2))),(33,.row 32 10 l1.length (elA K c KC X l1))]⟩ ?_ (fun hD111111111000=>?_)
   ·refine anyS [9] (by kernel_rfl) rfl ?_;refine ⟨⟨_,rfl,?_⟩,trivial⟩
    ·exact mCR cl2 rfl rfl rfl rfl rfl<|mT<|anyV hD111111111100 10 [] (by kernel_rfl) (wkr rfl rfl)
   refine anyCut 4 #[true,true,true,true,true,true,true,false,true,false,false,false] ⟨40,[(0,.d (.one (.row 4 (lg c) (qel K (rc c))))),(1,.d (.one (exL (ChQ c KC) (fun L=>qlr KC L)))),(6,.ptr 6 0),(7,.ptr 7 0),(10,.ptr 10 0),(29,.d (.one (.row 4 (lg c) (qel K (rc c))))),(30,.d (.one (exL (ChQ c KC) (fun L=>qlr KC L)))),(34,.d (.one (.row 4 (lg c) (qel K (rc c))))),(35,.d (.one (exL (ChQ c KC) (fun L=>qlr KC L)))),(31,.d (.agg (qn X lo))),(32,.d (.agg (qn X ((lo+hi) / 2)))),(33,.own 33),(37,.d (.agg (qn X hi)))],[(6,.box 30 (qn X lo)),(7,.box 30 (qn X hi)),(10,.box 30 (qn X ((lo+hi) / 2))),(33,.row 32 10 l1.length (elA K c KC X l1))]⟩ ?_ (fun hD111111101000=>?_)
   ·refine anyS [7] (by kernel_rfl) rfl ?_;refine ⟨⟨_,rfl,?_⟩,trivial⟩
    ·exact mW rfl<|mT<|anyV hD111111111000 9 [] (by kernel_rfl) (wkr rfl rfl)
   refine anyCut 4 #[true,true,true,true,true,true,true,true,false,false,false,false] ⟨40,[(0,.d (.one (.row 4 (lg c) (qel K (rc c))))),(1,.d (.one (exL (ChQ c KC) (fun L=>qlr KC L)))),(6,.ptr 6 0),(7,.ptr 7 0),(10,.ptr 10 0),(29,.d (.one (.row 4 (lg c) (qel K (rc c))))),(30,.d (.one (exL (ChQ c KC) (fun L=>qlr KC L)))),(34,.d (.one (.row 4 (lg c) (qel K (rc c))))),(35,.d (.one (exL (ChQ c KC) (fun L=>qlr KC L)))),(31,.d (.agg (qn X lo))),(32,.d (.agg (qn X ((lo+hi) / 2)))),(33,.own 33),(36,.d (.agg (qn X ((lo+hi) / 2))))],[(6,.box 30 (qn X lo)),(7,.box 30 (qn X hi)),(10,.box 30 (qn X ((lo+hi) / 2))),(33,.row 32 10 l1.length (elA K c KC X l1))]⟩ ?_ (fun hD111111110000=>?_)
   ·refine anyS [8] (by kernel_rfl) rfl ?_;refine ⟨⟨_,rfl,?_⟩,trivial⟩
    ·exact mW rfl<|mT<|anyV hD111111111000 9 [] (by kernel_rfl) (wkr rfl rfl)
   refine anyCut 4 #[true,true,true,true,false,true,true,true,true,false,false,false] ⟨40,[(0,.d (.one (.row 4 (lg c) (qel K (rc c))))),(1,.d (.one (exL (ChQ c KC) (fun L=>qlr KC L)))),(6,.ptr 6 0),(7,.ptr 7 0),(10,.ptr 10 0),(29,.d (.one (.row 4 (lg c) (qel K (rc c))))),(30,.d (.one (exL (ChQ c KC) (fun L=>qlr KC L)))),(34,.d (.one (.row 4 (lg c) (qel K (rc c))))),(35,.d (.one (exL (ChQ c KC) (fun L=>qlr KC L)))),(31,.d (.agg (qn X lo))),(32,.d (.agg (qn X ((lo+hi) / 2)))),(36,.d (.agg (qn X ((lo+hi) / 2)))),(37,.d (.agg (qn X hi)))],[(6,.box 30 (qn X lo)),(7,.box 30 (qn X hi)),(10,.box 30 (qn X ((lo+hi) / 2)))]⟩ ?_ (fun hD111101111000=>?_)
   ·refine anyS [4] (by kernel_rfl) rfl ?_;refine ⟨⟨_,rfl,?_⟩,trivial⟩
    ·exact mCR cl1 rfl rfl rfl rfl rfl<|mT<|anyV hD111111111000 9 [] (by kernel_rfl) (wkr rfl rfl)
   refine anyCut 5 #[true,true,true,true,false,true,true,true,false,false,false,false] ⟨40,[(0,.d (.one (.row 4 (lg c) (qel K (rc c))))),(1,.d (.one (exL (ChQ c KC) (fun L=>qlr KC L)))),(6,.ptr 6 0),(7,.ptr 7 0),(10,.ptr 10 0),(29,.d (.one (.row 4 (lg c) (qel K (rc c))))),(30,.d (.one (exL (ChQ c KC) (fun L=>qlr KC L)))),(34,.d (.one (.row 4 (lg c) (qel K (rc c))))),(35,.d (.one (exL (ChQ c KC) (fun L=>qlr KC L)))),(31,.d (.agg (qn X lo))),(32,.d (.agg (qn X ((lo+hi) / 2)))),(36,.d (.agg (qn X ((lo+hi) / 2))))],[(6,.box 30 (qn X lo)),(7,.box 30 (qn X hi)),(10,.box 30 (qn X ((lo+hi) / 2)))]⟩ ?_ (fun hD111101110000=>?_)
   ·refine anyS [4,8] (by kernel_rfl) rfl ?_;refine ⟨⟨_,rfl,?_⟩,⟨_,rfl,?_⟩,trivial⟩
    ·exact mCR cl1 rfl rfl rfl rfl rfl<|mT<|anyV hD111111110000 8 [] (by kernel_rfl) (wkr rfl rfl)
    ·exact mW rfl<|mT<|anyV hD111101111000 4 [] (by kernel_rfl) (wkr rfl rfl)
   refine anyCut 5 #[true,true,true,false,false,true,true,true,true,false,false,false] ⟨40,[(0,.d (.one (.row 4 (lg c) (qel K (rc c))))),(1,.d (.one (exL (ChQ c KC) (fun L=>qlr KC L)))),(6,.ptr 6 0),(7,.ptr 7 0),(10,.ptr 10 0),(29,.d (.one (.row 4 (lg c) (qel K (rc c))))),(30,.d (.one (exL (ChQ c KC) (fun L=>qlr KC L)))),(34,.d (.one (.row 4 (lg c) (qel K (rc c))))),(35,.d (.one (exL (ChQ c KC) (fun L=>qlr KC L)))),(31,.d (.agg (qn X lo))),(36,.d (.agg (qn X ((lo+hi) / 2)))),(37,.d (.agg (qn X hi)))],[(6,.box 30 (qn X lo)),(7,.box 30 (qn X hi)),(10,.box 30 (qn X ((lo+hi) / 2)))]⟩ ?_ (fun hD111001111000=>?_)
   ·refine anyS [3] (by kernel_rfl) rfl ?_;refine ⟨⟨_,rfl,?_⟩,trivial⟩
    ·exact mW rfl<|mT<|anyV hD111101111000 4 [] (by kernel_rfl) (wkr rfl rfl)
   refine anyCut 5 #[true,true,true,true,true,true,true,false,false,false,false,false] ⟨40,[(0,.d (.one (.row 4 (lg c) (qel K (rc c))))),(1,.d (.one (exL (ChQ c KC) (fun L=>qlr KC L)))),(6,.ptr 6 0),(7,.ptr 7 0),(10,.ptr 10 0),(29,.d (.one (.row 4 (lg c) (qel K (rc c))))),(30,.d (.one (exL (ChQ c KC) (fun L=>qlr KC L)))),(34,.d (.one (.row 4 (lg c) (qel K (rc c))))),(35,.d (.one (exL (ChQ c KC) (fun L=>qlr KC L)))),(31,.d (.agg (qn X lo))),(32,.d (.agg (qn X ((lo+hi) / 2)))),(33,.own 33)],[(6,.box 30 (qn X lo)),(7,.box 30 (qn X hi)),(10,.box 30 (qn X ((lo+hi) / 2))),(33,.row 32 10 l1.length (elA K c KC X l1))]⟩ ?_ (fun hD111111100000=>?_)
   ·refine anyS [7,8] (by kernel_rfl) rfl ?_;refine ⟨⟨_,rfl,?_⟩,⟨_,rfl,?_⟩,trivial⟩
    ·exact mW rfl<|mT<|anyV hD111111110000 8 [] (by kernel_rfl) (wkr rfl rfl)
    ·exact mW rfl<|mT<|anyV hD111111101000 7 [] (by kernel_rfl) (wkr rfl rfl)
   refine anyCut 5 #[true,true,true,true,false,true,true,false,true,false,false,false] ⟨40,[(0,.d (.one (.row 4 (lg c) (qel K (rc c))))),(1,.d (.one (exL (ChQ c KC) (fun L=>qlr KC L)))),(6,.ptr 6 0),(7,.ptr 7 0),(10,.ptr 10 0),(29,.d (.one (.row 4 (lg c) (qel K (rc c))))),(30,.d (.one (exL (ChQ c KC) (fun L=>qlr KC L)))),(34,.d (.one (.row 4 (lg c) (qel K (rc c))))),(35,.d (.one (exL (ChQ c KC) (fun L=>qlr KC L)))),(31,.d (.agg (qn X lo))),(32,.d (.agg (qn X ((lo+hi) / 2)))),(37,.d (.agg (qn X hi)))],[(6,.box 30 (qn X lo)),(7,.box 30 (qn X hi)),(10,.box 30 (qn X ((lo+hi) / 2)))]⟩ ?_ (fun hD111101101000=>?_)
   ·refine anyS [4,7] (by kernel_rfl) rfl ?_;refine ⟨⟨_,rfl,?_⟩,⟨_,rfl,?_⟩,trivial⟩
    ·exact mCR cl1 rfl rfl rfl rfl rfl<|mT<|anyV hD111111101000 7 [] (by kernel_rfl) (wkr rfl rfl)
    ·exact mW rfl<|mT<|anyV hD111101111000 4 [] (by kernel_rfl) (wkr rfl rfl)
   refine anyCut 5 #[true,true,false,true,false,true,true,true,true,false,false,false] ⟨40,[(0,.d (.one (.row 4 (lg c) (qel K (rc c))))),(1,.d (.one (exL (ChQ c KC) (fun L=>qlr KC L)))),(6,.ptr 6 0),(7,.ptr 7 0),(10,.ptr 10 0),(29,.d (.one (.row 4 (lg c) (qel K (rc c))))),(30,.d (.one (exL (ChQ c KC) (fun L=>qlr KC L)))),(34,.d (.one (.row 4 (lg c) (qel K (rc c))))),(35,.d (.one (exL (ChQ c KC) (fun L=>qlr KC L)))),(32,.d (.agg (qn X ((lo+hi) / 2)))),(36,.d (.agg (qn X ((lo+hi) / 2)))),(37,.d (.agg (qn X hi)))],[(6,.box 30 (qn X lo)),(7,.box 30 (qn X hi)),(10,.box 30 (qn X ((lo+hi) / 2)))]⟩ ?_ (fun hD110101111000=>?_)
   ·refine anyS [2] (by kernel_rfl) rfl ?_;refine ⟨⟨_,rfl,?_⟩,trivial⟩
    ·exact mW rfl<|mT<|anyV hD111101111000 4 [] (by kernel_rfl) (wkr rfl rfl)
   refine anyCut 6 #[true,true,false,true,false,true,true,true,false,false,false,false] ⟨40,[(0,.d (.one (.row 4 (lg c) (qel K (rc c))))),(1,.d (.one (exL (ChQ c KC) (fun L=>qlr KC L)))),(6,.ptr 6 0),(7,.ptr 7 0),(10,.ptr 10 0),(29,.d (.one (.row 4 (lg c) (qel K (rc c))))),(30,.d (.one (exL (ChQ c KC) (fun L=>qlr KC L)))),(34,.d (.one (.row 4 (lg c) (qel K (rc c))))),(35,.d (.one (exL (ChQ c KC) (fun L=>qlr KC L)))),(32,.d (.agg (qn X ((lo+hi) / 2)))),(36,.d (.agg (qn X ((lo+hi) / 2))))],[(6,.box 30 (qn X lo)),(7,.box 30 (qn X hi)),(10,.box 30 (qn X ((lo+hi) / 2)))]⟩ ?_ (fun hD110101110000=>?_)
   ·refine anyS [2,8] (by kernel_rfl) rfl ?_;refine ⟨⟨_,rfl,?_⟩,⟨_,rfl,?_⟩,trivial⟩
    ·exact mW rfl<|mT<|anyV hD111101110000 4 [8] (by kernel_rfl) (wkr rfl rfl)
    ·exact mW rfl<|mT<|anyV hD110101111000 2 [] (by kernel_rfl) (wkr rfl rfl)
   refine anyCut 6 #[true,true,true,false,false,true,true,false,true,false,false,false] ⟨40,[(0,.d (.one (.row 4 (lg c) (qel K (rc c))))),(1,.d (.one (exL (ChQ c KC) (fun L=>qlr KC L)))),(6,.ptr 6 0),(7,.ptr 7 0),(10,.ptr 10 0),(29,.d (.one (.row 4 (lg c) (qel K (rc c))))),(30,.d (.one (exL (ChQ c KC) (fun L=>qlr KC L)))),(34,.d (.one (.row 4 (lg c) (qel K (rc c))))),(35,.d (.one (exL (ChQ c KC) (fun L=>qlr KC L)))),(31,.d (.agg (qn X lo))),(37,.d (.agg (qn X hi)))],[(6,.box 30 (qn X lo)),(7,.box 30 (qn X hi)),(10,.box 30 (qn X ((lo+hi) / 2)))]⟩ ?_ (fun hD111001101000=>?_)
   ·refine anyS [3,7] (by kernel_rfl) rfl ?_;refine ⟨⟨_,rfl,?_⟩,⟨_,rfl,?_⟩,trivial⟩
    ·exact mW rfl<|mT<|anyV hD111101101000 4 [7] (by kernel_rfl) (wkr rfl rfl)
    ·exact mW rfl<|mT<|anyV hD111001111000 3 [] (by kernel_rfl) (wkr rfl rfl)
   refine anyCut 6 #[true,true,true,false,false,true,true,true,false,false,false,false] ⟨40,[(0,.d (.one (.row 4 (lg c) (qel K (rc c))))),(1,.d (.one (exL (ChQ c KC) (fun L=>qlr KC L)))),(6,.ptr 6 0),(7,.ptr 7 0),(10,.ptr 10 0),(29,.d (.one (.row 4 (lg c) (qel K (rc c))))),(30,.d (.one (exL (ChQ c KC) (fun L=>qlr KC L)))),(34,.d (.one (.row 4 (lg c) (qel K (rc c))))),(35,.d (.one (exL (ChQ c KC) (fun L=>qlr KC L)))),(31,.d (.agg (qn X lo))),(36,.d (.agg (qn X ((lo+hi) / 2))))],[(6,.box 30 (qn X lo)),(7,.box 30 (qn X hi)),(10,.box 30 (qn X ((lo+hi) / 2)))]⟩ ?_ (fun hD111001110000=>?_)
   ·refine anyS [3,8] (by kernel_rfl) rfl ?_;refine ⟨⟨_,rfl,?_⟩,⟨_,rfl,?_⟩,trivial⟩
    ·exact mW rfl<|mT<|anyV hD111101110000 4 [8] (by kernel_rfl) (wkr rfl rfl)
    ·exact mW rfl<|mT<|anyV hD111001111000 3 [] (by kernel_rfl) (wkr rfl rfl)
   refine anyCut 6 #[true,true,true,true,false,true,true,false,false,false,false,false] ⟨40,[(0,.d (.one (.row 4 (lg c) (qel K (rc c))))),(1,.d (.one (exL (ChQ c KC) (fun L=>qlr KC L)))),(6,.ptr 6 0),(7,.ptr 7 0),(10,.ptr 10 0),(29,.d (.one (.row 4 (lg c) (qel K (rc c))))),(30,.d (.one (exL (ChQ c KC) (fun L=>qlr KC L)))),(34,.d (.one (.row 4 (lg c) (qel K (rc c))))),(35,.d (.one (exL (ChQ c KC) (fun L=>qlr KC L)))),(31,.d (.agg (qn X lo))),(32,.d (.agg (qn X ((lo+hi) / 2))))],[(6,.box 30 (qn X lo)),(7,.box 30 (qn X hi)),(10,.box 30 (qn X ((lo+hi) / 2)))]⟩ ?_ (fun hD111101100000=>?_)
   ·refine anyS [4,7,8] (by kernel_rfl) rfl ?_;refine ⟨⟨_,rfl,?_⟩,⟨_,rfl,?_⟩,⟨_,rfl,?_⟩,trivial⟩
    ·exact mCR cl1 rfl rfl rfl rfl rfl<|mT<|anyV hD111111100000 7 [8] (by kernel_rfl) (wkr rfl rfl)
    ·exact mW rfl<|mT<|anyV hD111101110000 4 [8] (by kernel_rfl) (wkr rfl rfl)
    ·exact mW rfl<|mT<|anyV hD111101101000 4 [7] (by kernel_rfl) (wkr rfl rfl)
   refine anyCut 6 #[true,true,false,false,false,true,true,true,true,false,false,false] ⟨40,[(0,.d (.one (.row 4 (lg c) (qel K (rc c))))),(1,.d (.one (exL (ChQ c KC) (fun L=>qlr KC L)))),(6,.ptr 6 0),(7,.ptr 7 0),(10,.ptr 10 0),(29,.d (.one (.row 4 (lg c) (qel K (rc c))))),(30,.d (.one (exL (ChQ c KC) (fun L=>qlr KC L)))),(34,.d (.one (.row 4 (lg c) (qel K (rc c))))),(35,.d (.one (exL (ChQ c KC) (fun L=>qlr KC L)))),(36,.d (.agg (qn X ((lo+hi) / 2)))),(37,.d (.agg (qn X hi)))],[(6,.box 30 (qn X lo)),(7,.box 30 (qn X hi)),(10,.box 30 (qn X ((lo+hi) / 2)))]⟩ ?_ (fun hD110001111000=>?_)
   ·refine anyS [2,3] (by kernel_rfl) rfl ?_;refine ⟨⟨_,rfl,?_⟩,⟨_,rfl,?_⟩,trivial⟩
    ·exact mW rfl<|mT<|anyV hD111001111000 3 [] (by kernel_rfl) (wkr rfl rfl)
    ·exact mW rfl<|mT<|anyV hD110101111000 2 [] (by kernel_rfl) (wkr rfl rfl)
   refine anyCut 6 #[true,true,false,true,false,true,true,false,true,false,false,false] ⟨40,[(0,.d (.one (.row 4 (lg c) (qel K (rc c))))),(1,.d (.one (exL (ChQ c KC) (fun L=>qlr KC L)))),(6,.ptr 6 0),(7,.ptr 7 0),(10,.ptr 10 0),(29,.d (.one (.row 4 (lg c) (qel K (rc c))))),(30,.d (.one (exL (ChQ c KC) (fun L=>qlr KC L)))),(34,.d (.one (.row 4 (lg c) (qel K (rc c))))),(35,.d (.one (exL (ChQ c KC) (fun L=>qlr KC L)))),(32,.d (.agg (qn X ((lo+hi) / 2)))),(37,.d (.agg (qn X hi)))],[(6,.box 30 (qn X lo)),(7,.box 30 (qn X hi)),(10,.box 30 (qn X ((lo+hi) / 2)))]⟩ ?_ (fun hD110101101000=>?_)
   ·refine anyS [2,7] (by kernel_rfl) rfl ?_;refine ⟨⟨_,rfl,?_⟩,⟨_,rfl,?_⟩,trivial⟩
    ·exact mW rfl<|mT<|anyV hD111101101000 4 [7] (by kernel_rfl) (wkr rfl rfl)
    ·exact mW rfl<|mT<|anyV hD110101111000 2 [] (by kernel_rfl) (wkr rfl rfl)
   refine anyCut 7 #[true,true,true,false,false,true,true,false,false,false,false,false] ⟨40,[(0,.d (.one (.row 4 (lg c) (qel K (rc c))))),(1,.d (.one (exL (ChQ c KC) (fun L=>qlr KC L)))),(6,.ptr 6 0),(7,.ptr 7 0),(10,.ptr 10 0),(29,.d (.one (.row 4 (lg c) (qel K (rc c))))),(30,.d (.one (exL (ChQ c KC) (fun L=>qlr KC L)))),(34,.d (.one (.row 4 (lg c) (qel K (rc c))))),(35,.d (.one (exL (ChQ c KC) (fun L=>qlr KC L)))),(31,.d (.agg (qn X lo)))],[(6,.box 30 (qn X lo)),(7,.box 30 (qn X hi)),(10,.box 30 (qn X ((lo+hi) / 2)))]⟩ ?_ (fun hD111001100000=>?_)
   ·refine anyS [3,7,8] (by kernel_rfl) rfl ?_;refine ⟨⟨_,rfl,?_⟩,⟨_,rfl,?_⟩,⟨_,rfl,?_⟩,trivial⟩
    ·exact mW rfl<|mT<|anyV hD111101100000 4 [7,8] (by kernel_rfl) (wkr rfl rfl)
    ·exact mW rfl<|mT<|anyV hD111001110000 3 [8] (by kernel_rfl) (wkr rfl rfl)
    ·exact mW rfl<|mT<|anyV hD111001101000 3 [7] (by kernel_rfl) (wkr rfl rfl)
   refine anyCut 7 #[true,true,false,true,false,true,true,false,false,false,false,false] ⟨40,[(0,.d (.one (.row 4 (lg c) (qel K (rc c))))),(1,.d (.one (exL (ChQ c KC) (fun L=>qlr KC L)))),(6,.ptr 6 0),(7,.ptr 7 0),(10,.ptr 10 0),(29,.d (.one (.row 4 (lg c) (qel K (rc c))))),(30,.d (.one (exL (ChQ c KC) (fun L=>qlr KC L)))),(34,.d (.one (.row 4 (lg c) (qel K (rc c))))),(35,.d (.one (exL (ChQ c KC) (fun L=>qlr KC L)))),(32,.d (.agg (qn X ((lo+hi) / 2))))],[(6,.box 30 (qn X lo)),(7,.box 30 (qn X hi)),(10,.box 30 (qn X ((lo+hi) / 2)))]⟩ ?_ (fun hD110101100000=>?_)
   ·refine anyS [2,7,8] (by kernel_rfl) rfl ?_;refine ⟨⟨_,rfl,?_⟩,⟨_,rfl,?_⟩,⟨_,rfl,?_⟩,trivial⟩
    ·exact mW rfl<|mT<|anyV hD111101100000 4 [7,8] (by kernel_rfl) (wkr rfl rfl)
    ·exact mW rfl<|mT<|anyV hD110101110000 2 [8] (by kernel_rfl) (wkr rfl rfl)
    ·exact mW rfl<|mT<|anyV hD110101101000 2 [7] (by kernel_rfl) (wkr rfl rfl)
   refine anyCut 7 #[true,true,false,false,false,true,true,false,true,false,false,false] ⟨40,[(0,.d (.one (.row 4 (lg c) (qel K (rc c))))),(1,.d (.one (exL (ChQ c KC) (fun L=>qlr KC L)))),(6,.ptr 6 0),(7,.ptr 7 0),(10,.ptr 10 0),(29,.d (.one (.row 4 (lg c) (qel K (rc c))))),(30,.d (.one (exL (ChQ c KC) (fun L=>qlr KC L)))),(34,.d (.one (.row 4 (lg c) (qel K (rc c))))),(35,.d (.one (exL (ChQ c KC) (fun L=>qlr KC L)))),(37,.d (.agg (qn X hi)))],[(6,.box 30 (qn X lo)),(7,.box 30 (qn X hi)),(10,.box 30 (qn X ((lo+hi) / 2)))]⟩ ?_ (fun hD110001101000=>?_)
   ·refine anyS [2,3,7] (by kernel_rfl) rfl ?_;refine ⟨⟨_,rfl,?_⟩,⟨_,rfl,?_⟩,⟨_,rfl,?_⟩,trivial⟩
    ·exact mW rfl<|mT<|anyV hD111001101000 3 [7] (by kernel_rfl) (wkr rfl rfl)
    ·exact mW rfl<|mT<|anyV hD110101101000 2 [7] (by kernel_rfl) (wkr rfl rfl)
    ·exact mW rfl<|mT<|anyV hD110001111000 2 [3] (by kernel_rfl) (wkr rfl rfl)
   refine anyCut 7 #[true,true,false,false,false,true,true,true,false,false,false,false] ⟨40,[(0,.d (.one (.row 4 (lg c) (qel K (rc c))))),(1,.d (.one (exL (ChQ c KC) (fun L=>qlr KC L)))),(6,.ptr 6 0),(7,.ptr 7 0),(10,.ptr 10 0),(29,.d (.one (.row 4 (lg c) (qel K (rc c))))),(30,.d (.one (exL (ChQ c KC) (fun L=>qlr KC L)))),(34,.d (.one (.row 4 (lg c) (qel K (rc c))))),(35,.d (.one (exL (ChQ c KC) (fun L=>qlr KC L)))),(36,.d (.agg (qn X ((lo+hi) / 2))))],[(6,.box 30 (qn X lo)),(7,.box 30 (qn X hi)),(10,.box 30 (qn X ((lo+hi) / 2)))]⟩ ?_ (fun hD110001110000=>?_)
   ·refine anyS [2,3,8] (by kernel_rfl) rfl ?_;refine ⟨⟨_,rfl,?_⟩,⟨_,rfl,?_⟩,⟨_,rfl,?_⟩,trivial⟩
    ·exact mW rfl<|mT<|anyV hD111001110000 3 [8] (by kernel_rfl) (wkr rfl rfl)
    ·exact mW rfl<|mT<|anyV hD110101110000 2 [8] (by kernel_rfl) (wkr rfl rfl)
    ·exact mW rfl<|mT<|anyV hD110001111000 2 [3] (by kernel_rfl) (wkr rfl rfl)
   refine anyS [2,3,7,8] (by kernel_rfl) rfl ?_;refine ⟨⟨_,rfl,?_⟩,⟨_,rfl,?_⟩,⟨_,rfl,?_⟩,⟨_,rfl,?_⟩,trivial⟩
   ·exact mW rfl<|mT<|anyV hD111001100000 3 [7,8] (by kernel_rfl) (wkr rfl rfl)
   ·exact mW rfl<|mT<|anyV hD110101100000 2 [7,8] (by kernel_rfl) (wkr rfl rfl)
   ·exact mW rfl<|mT<|anyV hD110001110000 2 [3,8] (by kernel_rfl) (wkr rfl rfl)
   ·exact mW rfl<|mT<|anyV hD110001101000 2 [3,7] (by kernel_rfl) (wkr rfl rfl)
theorem cnt_bd{c:Nat→Int}{KC:Nat}{L:List (Nat→Int)}(h:ChQ c KC L)(a b:Rat)(hab:a≤b):cntC c a b≤1000000:=by
 obtain ⟨h1,_,_⟩:=h.cnt hab;obtain ⟨_,hl⟩:=h.len;have h2:vr (sgL L a)≤L.length:=by have:=vrA_le (sgL L a) 0;unfold sgL at this;rw [List.length_map] at this;exact this
 omega
theorem aQSplit{K KC X L JM h1:Nat}{c:Nat→Int}(hC:Cnt c)(b1:∀ i,(c i).natAbs≤2^h1)(hcb:∀ a b,a≤b→cntC c a b≤1000000)(hX:3*(3*L+JM / 32+1)≤X)(hX1:X≤90000)(hK:K≤100000)(hKC:KC≤100000):∀ (d J:Nat) (lo hi:Rat),SpI c h1 L J d lo hi→J+d≤JM→ACallR Tryz.prog 109 [.one (qrow K (lg c) (rc c)),.one (exL (ChQ c KC) (fun L=>qlr KC L)),.agg (qn X lo),.agg (qn X hi)] 32 10 (spF c (d+1) lo hi).length (elA K c KC X (spF c (d+1) lo hi)):=by
 intro d
 induction d with
 | zero=>exact fun J lo hi hI hJ=>aQSplitI hC b1 hcb hI hJ hX hX1 hK hKC (fun d' e=>by omega)
 | succ d ih=>exact fun J lo hi hI hJ=>aQSplitI hC b1 hcb hI hJ hX hX1 hK hKC (fun d' e lo hi J k1 k2=>by obtain rfl:d'=d:=by {omega};exact ih J lo hi k1 k2)
/-- What is the callee's own row is a row. -/
theorem ACallR.call{P:Program}{f:FuncId}{args:List DV}{e:TypeId}{sz n:Nat}{el:Nat→Nat→Lf}(h:ACallR P f args e sz n el):ACall P f args (.d (.one (.row sz n el))):=⟨h.en,fun B w vs hB hd=>(h.go B w vs hB hd).mono (by
 rintro r w' ⟨v,rfl,hb,xs,⟨hxl,hown⟩,hel⟩;refine ⟨v,rfl,hb,?_⟩
 rcases hown with ⟨rfl,h0⟩ | ⟨g,cap,cur,rfl,hge,hblk,hn,hm,hsz',htk⟩
 ·subst h0
  exact ⟨none,0,rfl,Nat.le_refl _,fun _=>rfl,fun i hi=>absurd hi (Nat.not_lt_zero _)⟩
 ·refine ⟨some ⟨g,0,none⟩,cap,rfl,hn,fun h=>(by cases h),fun i hi=>⟨g,0,rfl,fun hb2=>?_,lt_of_block hblk,fun j hj=>?_⟩⟩
  ·have:=hB g hb2;omega
  ·obtain ⟨x,hx1,hx2⟩:=hel i j hi hj
   refine ⟨x,?_,LfR.mv ⟨Nat.le_refl _,fun _ _ _=>rfl⟩ (fun b _ hb=>Or.inl hb) _ hx2⟩;rw [Nat.zero_add,cell_of_row w' g _ cur _ (0,0) hblk,← Array.getElem?_toList];rw [← htk,List.getElem?_take] at hx1;split at hx1
   ·exact hx1
   ·cases hx1)⟩
theorem f_exL{α:Type}{Qx:α→Prop}{L:α→Lf}{s:AS}(t:Nat)(h:lk s.sl t=some (.d (.one (exL Qx L)))):∀ B0 w0 a w,Den s B0 w0 a w→∃ x,Qx x:=by
 rintro B0 w0 a w ⟨ρ,_,_,_,hs⟩;obtain ⟨v,_,x,hq,_⟩:=hs t _ h;exact ⟨x,hq⟩
theorem lnP_pmL(t:Rat):Pm (lg (lnP t)) (lnP t):=by
 refine ⟨(lnP_z t).ip,by rw [lnP_lg];decide,by rw [lnP_lg];exact lnP_pm t,?_⟩;rw [lnP_lg];show 0 < (t.den:Int)
 have:=t.den_pos;omega
theorem lnP_sqP(t:Rat):∃ M,SqP (lnP t) M (lnP t):=by
 obtain ⟨M,_,hM⟩:=ex_lb (lnP_z t);exact ⟨M,sq_self (lnP_z t) hM (lnP_pmL t) (lnP_sq t)⟩
theorem natAbs_one{z:Int}{n:Nat}(h:z.natAbs∣n)(h1:n=1):z.natAbs=1:=by subst h1;exact Nat.dvd_one.1 h
/-- A divisor of a linear polynomial. -/
theorem dvb_lin{c:Nat→Int}{K:Nat}(z:z20 c)(hl:lg c=2)(hb:Db K c)(hK:1≤K):DvB c K:=by
 intro g zg hg hd;have h0:lg c≠0:=by omega
 obtain ⟨hg0,hgl⟩:=lg_dv z zg h0 hd;obtain ⟨W,pW,hW⟩:=hd;obtain ⟨w,k,hw,hc,_⟩:=exact_row z.lg zg.lg hg pW (fun x=>by rw [FF_lg z,FF_lg zg];exact hW x);have zw:=quo20 zg z hg0 hw hc;obtain ⟨hlq,_⟩:=quo_lg zw zg z hc hg0;have one:(1:Nat) < B4^K:=Nat.lt_of_lt_of_le (by decide) (Nat.pow_le_pow_right (show 0 < B4 by decide) hK)
 by_cases h1:lg g=1
 ·intro i
  by_cases hi:i=0
  ·subst hi
   have hd2:(g 0).natAbs∣gcdN g (lg g):=gcdN_all fun i hi=>by
    obtain rfl:i=0:=by omega
    exact Nat.dvd_refl _
   rw [natAbs_one hd2 hg];exact one
  ·rw [zg.lg i (by omega)];omega
 ·have hw1:lg w=1:=by omega
  have hw0:=lg_ne (c:=w) (by omega);rw [hw1] at hw0;have hFw:∀ x,FF w x=(w 0:Rat):=fun x=>by rw [← FF_lg zw,hw1];exact pf_const
  have hF:∀ i,c i=w 0*g i:=by
   have e:∀ x,FF c x=FF (fscl g (w 0)) x:=fun x=>by
    rw [FF_scl,← hFw x,← show conv w g=c from funext hc,FF_conv zw.lg zg.lg (by have:=lg_le g;omega) zw zg];exact Rat.mul_comm _ _
   intro i;have:=FF_inj z (z20_scl zg) e i;rw [this];unfold fscl;exact Int.mul_comm _ _
  intro i;refine Nat.lt_of_le_of_lt ?_ (hb i);rw [hF i,Int.natAbs_mul];exact Nat.le_mul_of_pos_left _ (by have:w 0≠0:=hw0;omega)
theorem lnP_db{X:Nat}{t:Rat}(h:Qb X t):Db X (lnP t):=fun i=>by
 match i with
 | 0=>show (-t.num).natAbs < _;rw [Int.natAbs_neg];exact h.1
 | 1=>show (t.den:Int).natAbs < _;exact h.2
 | i+2=>rw [lnP_z2 t (i+2) (by omega)];exact Nat.pow_pos (by decide)
theorem SqP.l2{c f:Nat→Int}{M:Nat}(h:SqP c M f)(zc:z20 c)(h2:2≤lg c):2≤lg f:=by
 apply Classical.byContradiction;intro hn;have h1:lg f=1:=by have:=h.ne;omega
 obtain ⟨κ,hκ,hk⟩:=lg_one_const h.z h1;obtain ⟨N,w,pw,e⟩:=h.pw;have hp:κ^N≠0:=by
  intro k;have:∀ n:Nat,κ^n≠0:=fun n=>by
   induction n with
   | zero=>rw [Rat.pow_zero];decide
   | succ n ih=>rw [Rat.pow_succ];intro k;rcases Rat.mul_eq_zero.1 k with k | k;exact ih k;exact hκ k
  exact this N k
 have hd:Dv (FF c) (FF (onez 1)):=⟨fun x=>w x*(κ^N)⁻¹,pw.scl _,fun x=>by
  have h9:=e x;rw [hk] at h9;rw [onez_F];have:=Rat.inv_mul_cancel _ hp;grind⟩
 have:=(lg_dv onez20 zc (by rw [onez_lg];decide) hd).2;rw [onez_lg] at this;omega
theorem cnt_sq{c:Nat→Int}{M:Nat}(h:SqP c M (sqP c))(zc:z20 c)(h2:2≤lg c):Cnt (sqP c):=cnt_of h.z (h.l2 zc h2) h.sq
theorem lnq_row{K X:Nat}{t:Rat}(h:Qb X t)(hX:1≤X):AV.le (.d (.one (.row 4 2 (fun i' j'=>((qn K (-(mkR t.num 1)) ++qn K (mkR (t.den:Int) 1))[i'*4+j']?).getD (.v undef))))) (.d (.one (qrow X (lg (lnP t)) (rc (lnP t))))):=by
 refine AV.le.trans (b:= .d (.one (qrow K 2 (rc (lnP t))))) (le_one (row_le fun i hi j hj=>?_)) (by
  have h9:=le_qrow_t (K:=K) (n:=2) hX (lnP_db h);rw [lnP_lg];exact h9)
 have e0: -(mkR t.num 1)=rc (lnP t) 0:=by rw [mkR_int];show -((t.num:Int):Rat)=((-t.num:Int):Rat);rw [Rat.intCast_neg]
 have e1:mkR (t.den:Int) 1=rc (lnP t) 1:=by rw [mkR_int];rfl
 rw [e0,e1]
 match i,hi with
 | 0,_=>match j,hj with
  | 0,_=>exact fun _ _ _ h=>h
  | 1,_=>exact fun _ _ _ h=>h
  | 2,_=>exact fun _ _ _ h=>h
  | 3,_=>exact fun _ _ _ h=>h
 | 1,_=>match j,hj with
  | 0,_=>exact fun _ _ _ h=>h
  | 1,_=>exact fun _ _ _ h=>h
  | 2,_=>exact fun _ _ _ h=>h
  | 3,_=>exact fun _ _ _ h=>h
theorem aQChainQ{K M KC N Ms:Nat}{c:Nat→Int}(zc:z20 c)(h2:2≤lg c)(hN:N≤10)(hcN:lg c≤N)(hM64:1≤M)(hM1:1≤M)(hB:DvB c M)(hK1:1≤K)(hK:K≤100000)(hKC:(M+2)*(2*3^N)≤KC)(hC:KC≤90000)(hS:SqP c Ms (sqP c)):ACall Tryz.prog 74 [.one (qrow K (lg c) (rc c))] (.d (.one (exL (ChQ (sqP c) KC) (fun L=>qlr KC L)))):=
 ACall.le (dl DV.same dl0) (le_one (exL_mono fun L h=>⟨L,h.q,fun _ _ _ h=>h⟩)) (aQChain zc h2 hN hcN hM64 hM1 hB hK1 hK hKC hC hS)
theorem aQChainS{K M KC N Ms:Nat}{c:Nat→Int}(zc:z20 c)(h2:2≤lg c)(hN:N≤10)(hcN:lg c≤N)(hM64:1≤M)(hM1:1≤M)(hB:DvB c M)(hK1:1≤K)(hK:K≤100000)(hKC:(M+2)*(2*3^N)≤KC)(hC:KC≤90000)(hS:SqP c Ms c):ACall Tryz.prog 74 [.one (qrow K (lg c) (rc c))] (.d (.one (exL (ChQ c KC) (fun L=>qlr KC L)))):=by
 have e:=hS.eq.symm;have h:=aQChainQ zc h2 hN hcN hM64 hM1 hB hK1 hK hKC hC hS.self;rwa [e] at h
theorem aQRoots{K M KC N X h1 Ms:Nat}{c:Nat→Int}(zc:z20 c)(h2:2≤lg c)(hN:N≤10)(hcN:lg c≤N)(hM64:1≤M)(hM1:1≤M)(hB:DvB c M)(hK1:1≤K)(hK:K≤100000)(hKC:(M+2)*(2*3^N)≤KC)(hC:KC≤90000)(hS:SqP c Ms (sqP c))(b1:∀ i,(sqP c i).natAbs≤2^h1)(hX:3*(3*(M+100)+rtD (sqP c) h1 / 32+1)≤X:=by omega)(hX1:X≤90000:=by decide):ACall Tryz.prog 46 [.one (qrow K (lg c) (rc c))] (.d (.one (exL (fun l=>l=rtF (sqP c) h1∧l.length≤1000000) (fun l=> .row 10 l.length (elA M (sqP c) KC X l))))):=by
 have hlc:=lg_le c;have hMK:M+2≤KC:=Nat.le_trans (Nat.le_mul_of_pos_right _ (Nat.mul_pos (by decide) (Nat.pow_pos (by decide)))) hKC;have l2:=hS.l2 zc h2;have hCn:=cnt_sq hS zc h2;refine aN 18 [.tmp 2] Tryz.func46 rfl<|cR<|mW rfl<|mT<|cR<|mW rfl<|mY (aQSquare (M:=M) (KC:=KC) (N:=N) zc h2 hN hcN hM64 hM1 hB hK1 hK hKC hC) rfl<|mW rfl<|mT<|cR<|mW rfl<|mY (aQChainQ (M:=M) (KC:=KC) (N:=N) zc h2 hN hcN hM64 hM1 hB hK1 hK hKC hC hS) rfl<|mW rfl<|mT<|cR<|mW rfl<|mY (aQBound (Y:=(2*M+200)) hS.z l2 hM64 (by omega) (Nat.le_refl _)) rfl<|mO rfl<|mZ rfl<|mT<|cSeq<|AW.fact (f_qn 11 rfl) (fun hqb=>?_);have hT:Tb (M+100) (bdQ (sqP c)):=Qb.tb (K:=M+100) (qb_mono hqb (by omega)) (Nat.le_refl _);refine AW.fact (f_exL 4 rfl) (fun hex=>?_);obtain ⟨Lc,hLc⟩:=hex;have hcb:=cnt_bd hLc;exact wB [5,11,10,4,9,8,3,7,6,2,0] [] 5 (.box 30 (qn X (bdQ (sqP c)))) rfl rfl (leo_qn (by omega) rfl) rfl<|cDk 7<|.cons (OpS.V _ rfl)<|.cons (OpS.V _ rfl)<|oV rfl<|oC (aRNegR (isq X (bdQ (sqP c)))) rfl<|oV rfl<|oC ((aQSplit (K:=M) (KC:=KC) (X:=X) (L:=M+100) (JM:=rtD (sqP c) h1) (h1:=h1) (c:=sqP c) hCn b1 hcb hX hX1 (by omega) (by omega) (rtD (sqP c) h1) 0 (-(bdQ (sqP c))) (bdQ (sqP c)) (rt_start hCn b1 hT) (by omega)).call) rfl<|.cons (OpS.V _ rfl)<|.nil<|mT<|cRet<|rQ rfl (exL_intro (Q:=fun l=>l=rtF (sqP c) h1∧l.length≤1000000) (L:=fun l=> .row 10 l.length (elA M (sqP c) KC X l)) (rtF (sqP c) h1) ⟨rfl,by rw [(rt_ok hCn b1 hT).len];exact hcb _ _ (rt_start hCn b1 hT).le⟩)
theorem aQRational{X KC:Nat}{t:Rat}(hX64:64≤X:=by decide)(hKC:18*(X+2)≤KC:=by decide)(hC:KC≤90000:=by decide):ACall Tryz.prog 28 [.agg (qn X t)] (.d (.agg ([.row 4 (lg (lnP t)) (qel X (rc (lnP t)))] ++ [exL (ChQ (lnP t) KC) (fun L=>qlr KC L)] ++qn X t ++qn X t))):=by
 refine ACall.fact10 (enters Tryz.func28 rfl rfl) (p:=Qb X t) (fun B w vs h=>match vs,h with | [_],⟨⟨cs,_,hl⟩,_⟩=>qn_bdT hl) (fun hb=>?_);obtain ⟨Ms,hS⟩:=lnP_sqP t;exact aN 20 [.cell 2 32] Tryz.func28 rfl<|cR<|mO rfl<|mO rfl<|mT<|cSeq<|cDk 11<|oV rfl<|oV rfl<|oC aROf rfl<|oC (aRMake (isr X (Rat.num t)) (isr 64 1) (M:=(max X (max 64 64)))) rfl<|oC (aRNegR (isq (max X (max 64 64)) (mkR (Rat.num t) 1))) rfl<|oV rfl<|oV rfl<|oC aROf rfl<|oC (aRMake (isr X (Rat.den t:Int)) (isr 64 1) (M:=(max X (max 64 64)))) rfl<|.cons (OpS.B _ rfl)<|.cons (OpS.V _ rfl)<|.nil<|mT<|cSeq<|cView 3 (.d (.one (.row 4 (lg (lnP t)) (qel X (rc (lnP t)))))) rfl (lnq_row hb (by omega))<|cDk 6<|.cons (OpS.V _ rfl)<|.cons (OpS.V _ rfl)<|oC (aQChainS (M:=X) (KC:=KC) (N:=2) (lnP_z t) (by rw [lnP_lg];exact Nat.le_refl 2) (by decide) (by rw [lnP_lg];exact Nat.le_refl 2) (by omega) (by omega) (dvb_lin (lnP_z t) (lnP_lg t) (lnP_db hb) (by omega)) (by omega) (by omega) (by omega) (by omega) hS) rfl<|oV rfl<|oV rfl<|oV rfl<|.nil<|mZ rfl<|mT<|cRet<|rQ rfl (AV.le.rfl)
theorem aRToR{a:List Lf}{K:Nat}{q:Rat}(hq:IsQ a K q)(hK:K≤10000000:=by first|decide|omega):ACall Tryz.prog 43 [.agg a] (.d (.agg (tn K q))):=by
 exact ACall.le (dl (DV.g hq) dl0) AV.le.rfl<|aN 10 [.cell 2 44] Tryz.func43 rfl<|cR<|mO rfl<|mO rfl<|mT<|cSeq<|cDk 7<|oV rfl<|oV rfl<|oC (aRTo (isr K (Rat.num q))) rfl<|oV rfl<|oV rfl<|oC (aRTo (isr K (Rat.den q:Int))) rfl<|oV rfl<|.nil<|mZ rfl<|mT<|cRet<|rQ rfl (le_tn2 (Nat.le_refl _) (Nat.le_refl _) rfl rfl)
theorem numF_rc(c:Nat→Int):numF (rc c)=c:=funext fun i=>Rat.num_intCast (c i)
theorem aQToN{K:Nat}{c:Nat→Int}(zc:z20 c)(hK:K≤1000000):ACall Tryz.prog 19 [.one (qrow K (lg c) (rc c))] (.d (.one (prow K (lg c) c))):=by
 have hlc:=lg_le c;have h:=aQTo (isqp (K:=K) (n:=lg c) (c:=rc c) (rc_z zc.lg)) (by omega) (by omega);rwa [numF_rc] at h
theorem aRFromRN{L M:Nat}{q:Rat}(hM:max (3*L) 64≤M)(hMM:M≤10000000):ACall Tryz.prog 26 [.agg (tn L q)] (.d (.agg (qn M q))):=by
 have h:=aRFromR (ist_tn L q) hM hMM;rwa [mkR_self] at h
theorem aQToA{K KC X:Nat}{c:Nat→Int}{lo hi:Rat}(zc:z20 c)(hK:K≤1000000:=by omega)(hX:X≤1000000:=by omega):ACall Tryz.prog 20 [.agg ([.row 4 (lg c) (qel K (rc c))] ++ [exL (ChQ c KC) (fun L=>qlr KC L)] ++qn X lo ++qn X hi)] (.d (.agg ([.row 2 (lg c) (zel K c)] ++tn X lo ++tn X hi))):=by
 have hlc:=lg_le c;exact aN 13 [.cell 2 46] Tryz.func20 rfl<|cR<|mO rfl<|mO rfl<|mT<|cSeq<|cDk 10<|oV rfl<|oV rfl<|oC (aQToN (zc) (by omega)) rfl<|oV rfl<|oV rfl<|oC (aRToR (isq X lo)) rfl<|oV rfl<|oV rfl<|oC (aRToR (isq X hi)) rfl<|oV rfl<|.nil<|mZ rfl<|mT<|cRet<|rQ rfl (AV.le.rfl)
structure Gw(G X na nb:Nat):Prop where
 h:(X+1)*(max (na+2-nb) 1*3^nb)≤G
theorem Gw.bd{G X na nb:Nat}(h:Gw G X na nb):X+1≤G:=by
 have h1:=h.h;have h2:1≤max (na+2-nb) 1*3^nb:=Nat.mul_pos (by omega) (Nat.pow_pos (by decide));exact Nat.le_trans (Nat.le_mul_of_pos_right _ h2) h1
theorem Gw.step{G X na nb nr:Nat}(h:Gw G X na nb)(hr:nr < nb):Gw G (X+(na+1-nb)*(X+1)) nb nr:=by
 refine ⟨Nat.le_trans ?_ h.h⟩;have e:X+(na+1-nb)*(X+1)+1=(na+1-nb+1)*(X+1):=by rw [Nat.add_mul (na+1-nb) 1];omega
 rw [e];have h1:na+1-nb+1≤max (na+2-nb) 1:=by omega
 have h2:max (nb+2-nr) 1*3^nr≤3^nb:=by
  obtain ⟨k,rfl⟩:∃ k,nb=nr+k+1:=⟨nb-nr-1,by omega⟩
  have h3:max (nr+k+1+2-nr) 1=k+3:=by omega
  rw [h3];have h4:k+3≤3^(k+1):=by
   rcases Nat.eq_zero_or_pos k with h0 | h0
   ·subst h0;decide
   ·obtain ⟨j,rfl⟩:∃ j,k=j+1:=⟨k-1,by omega⟩
    have:=three_pow j;rw [Nat.pow_succ];omega
  rw [show nr+k+1=(k+1)+nr by omega,Nat.pow_add 3 (k+1) nr];exact Nat.mul_le_mul_right _ h4
 calc (na+1-nb+1)*(X+1)*(max (nb+2-nr) 1*3^nr)≤max (na+2-nb) 1*(X+1)*3^nb:=Nat.mul_le_mul (Nat.mul_le_mul_right _ h1) h2
  _=(X+1)*(max (na+2-nb) 1*3^nb):=by rw [Nat.mul_comm (max (na+2-nb) 1) (X+1),Nat.mul_assoc]
theorem vc_iff{p:Fn}{C:Cut}(hC:IsCut C)(pp:Po p):VC p C↔sgC p C=0:=by
 refine ⟨sgC_zero,fun h=>?_⟩;rcases sg_or_v hC pp with k | ⟨s,k⟩
 ·exact k
 ·have:=sgC_eq hC k
  have:=k.pm hC;omega
theorem cmpC_congr{C C' D D':Cut}(h:∀ q,C q↔C' q)(k:∀ q,D q↔D' q):cmpC C D=cmpC C' D':=by
 have e1:C=C':=funext fun q=>propext (h q)
 have e2:D=D':=funext fun q=>propext (k q)
 rw [e1,e2]
section
variable {c d y:Nat→Int} {lo hi p q:Rat}
theorem zero_sq(hd:Dv (FF d) (FF c))(zd:z20 d)(sc:Sqf (FF c) (FF (fder c))):Sqf (FF d) (FF (fder d)):=by
 obtain ⟨w,pw,e⟩:=hd;exact sc.dv (FF_po zd) pw (FF_po (z20_der zd)) (FF_der zd) (fun x=>by rw [e x];exact Rat.mul_comm _ _)
theorem zero_cnt{G:Nat→Int}{M:Nat}(o:OkV c lo hi)(hlt:lo < hi)(zy:z20 y)(hg:GcdP y c M G)(hg0:lg G≠0)(h2:2≤lg G):decide (((cntC G lo hi:Nat):Int) > 0)=decide (sgC (FF y) (cutA c lo hi)=0):=by
 have hC:=cnt_of hg.z h2 (zero_sq hg.idl.db hg.z o.sq);obtain ⟨w,pw,e⟩:=hg.idl.db;have hf:=has_free (o.ok.i hlt) hg.z pw (fun x=>by rw [e x];exact Rat.mul_comm _ _) h2 (show lo≤lo by grind) (show hi≤hi by grind) hlt;obtain ⟨s1,s2⟩:=sign_has o (by grind) zy hg hg0;have h0:=hC.free (show lo≤hi by grind);refine decide_eq_decide.2 ⟨fun k=>s1 h2 (hf.2 fun r=>by have:=h0.2 r;omega),fun k=>?_⟩;apply Classical.byContradiction;intro nk;have hr:=h0.1 (by omega);have hb:hasB G lo hi=false:=by rw [← Bool.not_eq_true];exact fun b=>hf.1 b hr
 exact s2 (fun _=>hb) ((vc_iff o.ok.cut (FF_po zy)).2 k)
theorem zero_short{G:Nat→Int}{M:Nat}(o:OkV c lo hi)(hlt:lo < hi)(zy:z20 y)(hg:GcdP y c M G)(hg0:lg G≠0)(h2:¬ 2≤lg G):¬ sgC (FF y) (cutA c lo hi)=0:=fun k=>(sign_has o (by grind) zy hg hg0).2 (fun h=>absurd h h2) ((vc_iff o.ok.cut (FF_po zy)).2 k)
theorem OkV.cn(h:OkV c lo hi):Cnt c:=cnt_of h.ok.z h.l2 h.sq
theorem OkV.cnt1(h:OkV c lo hi)(hlt:lo < hi):cntC c lo hi=1:=cntC_eq h.ok.z (by grind) (h.ok.i hlt).one
/-- A root of the other's polynomial in the other's interval is the other. -/
theorem OkV.same(h:OkV c lo hi)(k:OkV d p q)(hlt:p < q)(hz:sgC (FF d) (cutA c lo hi)=0)(h1:cmpC (cutA c lo hi) (cutP p) > 0)(h2:cmpC (cutA c lo hi) (cutP q)≤0):cmpC (cutA c lo hi) (cutA d p q)=0:=by
 have hC:=h.ok.cut;have c1:cutA c lo hi p:=by
  apply Classical.byContradiction;intro n;have:=(cmpC_le hC (cutP_ok p)).2 fun t ht=>hC.nb ht n
  omega
 have c2:¬ cutA c lo hi q:=fun c2=>by
  have:=cmpC_P1 hC c2;omega
 exact cmpC_eq fun t=>(k.cn.one (by grind) (k.cnt1 hlt) hC ((vc_iff hC (FF_po k.ok.z)).2 hz) c1 c2 t).symm
/-- .. and else it is none. -/
theorem OkV.unlike(h:OkV c lo hi)(k:OkV d p q)(hlt:p < q)(hn:¬ (sgC (FF d) (cutA c lo hi)=0∧cmpC (cutA c lo hi) (cutP p) > 0∧cmpC (cutA c lo hi) (cutP q)≤0)):cmpC (cutA c lo hi) (cutA d p q)≠0:=by
 intro e;have hC:=h.ok.cut;have hD:=k.ok.cut;have he:=cmpC_zero e;refine hn ⟨(vc_iff hC (FF_po k.ok.z)).1 (k.vc.cut he),?_,?_⟩
 ·have:=cmpC_P1 hC ((he p).2 (by rw [cutA_I hlt];exact Or.inl (by grind)))
  omega
 ·exact (cmpC_le hC (cutP_ok q)).2 fun t ht=>k.ok.lt_hi ((he t).1 ht)
end
theorem aQGcdW{K G:Nat}{c d:Nat→Int}(zc:z20 c)(zd:z20 d)(hc10:lg c≤10)(hd10:lg d≤10)(hK1:1≤K)(hG:(K+1)*(max (lg c+2-lg d) 1*3^lg d)≤G)(hC:G≤90000):ACall Tryz.prog 131 [.one (qrow K (lg c) (rc c)),.one (qrow K (lg d) (rc d))] (.d (.one (exL (GcdP c d (21*K+3)) (fun g=>qrow (63*K+9) (lg g) (rc g))))):=by
 have hlc:=lg_le c;have hld:=lg_le d;have hKG:=(Gw.mk hG).bd;refine ACall.fact10 (enters Tryz.func131 rfl rfl) (p:=Db K c∧Db K d) (fun B w vs h=>match vs,h with | [_,_],⟨h1,h2,_⟩=>⟨qrow_bd zc.lg h1,qrow_bd zd.lg h2⟩) (fun hb=>?_);obtain ⟨hbc,hbd⟩:=hb;have lbc:Lb K c:=(hbc.mono (by omega)).lb;have lbd:Lb K d:=(hbd.mono (by omega)).lb;refine aN 18 [.tmp 4] Tryz.func131 rfl<|cR<|mW rfl<|mT<|cR<|mW rfl<|mY (aQPrimP zc) rfl<|mW rfl<|mY (aQPrimP zd) rfl<|mv2 rfl rfl<|mT<|cSeq<|cBlock<|cLoop (ι:=Nat×(Nat→Int)×(Nat→Int)) (fun (p:Nat×(Nat→Int)×(Nat→Int))=>match p with | (X,a,b)=>⟨18,[(0,.d (.one (.row 4 (lg a) (qel X (rc a))))),(1,.d (.one (.row 4 (lg b) (qel X (rc b))))),(4,.d (.one (.v (.slice none 0 0))))],[]⟩) (fun (p:Nat×(Nat→Int)×(Nat→Int))=>match p with | (X,a,b)=>z20 a∧z20 b∧Idp (FF c) (FF d) (FF a) (FF b)∧Db X a∧Db X b∧lg a≤10∧lg b≤10∧1≤X∧Gw G X (lg a) (lg b)∧(lg a≠0→Pm (lg a) a)∧(lg b≠0→Pm (lg b) b)) (fun (p:Nat×(Nat→Int)×(Nat→Int))=>match p with | (X,a,b)=>lg b) (K,(prm20 c),(prm20 d)) (⟨prm20_z zc,prm20_z zd,prm_idp zc zd,hbc.fdv,hbd.fdv,by rw [prm20_lg zc];exact hc10,by rw [prm20_lg zd];exact hd10,hK1,⟨by rw [prm20_lg zc,prm20_lg zd];exact hG⟩,fun h0=>prm20_pm zc (by rw [← prm20_lg zc];exact h0),fun h0=>prm20_pm zd (by rw [← prm20_lg zd];exact h0)⟩) (wkr rfl rfl) ?_;rintro ⟨X,a,b⟩ hI;obtain ⟨za,zb,hid,hba,hbb,ha10,hb10,hX1,hG,hpa,hpb⟩:z20 a∧z20 b∧Idp (FF c) (FF d) (FF a) (FF b)∧Db X a∧Db X b∧lg a≤10∧lg b≤10∧1≤X∧Gw G X (lg a) (lg b)∧(lg a≠0→Pm (lg a) a)∧(lg b≠0→Pm (lg b) b):=hI;show AW _ _ _ ⟨_,_,_⟩
 refine cSeq<|cSeq ?_;have hXK:=hG.bd
 by_cases hb0:lg b=0
 ·exact cReg<|mv2 rfl rfl<|mdF rfl (by omega)<|mT<|cF rfl<|cExit<|tE<|tE<|bE<|tN<|cR<|mv2 rfl rfl<|mT<|cRet<|rQ rfl (by have hgf:=gcd_fin zc zd za zb hid hb0 lbc lbd (by omega) (by omega);exact fun ρ B w v hv=>exL_intro (Q:=GcdP c d (21*K+3)) (L:=fun g=>qrow (63*K+9) (lg g) (rc g)) (prm20 a) hgf ρ B w v (by rw [prm_self za hpa];exact le_qrow_t (by omega) (by have hd:=hgf.dbq;rwa [prm_self za hpa] at hd) ρ B w v hv))
 ·refine cReg<|mv2 rfl rfl<|mdT rfl (by omega)<|mT<|cT rfl<|cSkip<|tN<|cBlock ?_;have hg1:lg b-1 < lg b:=by omega
  have hN1:=(hG.step hg1).bd;refine cReg<|mv3 rfl rfl rfl<|mY (aQRest (M:=(X+(lg a+1-lg b)*(X+1))) za zb hb0 (by omega) (by omega) (by omega) (by omega) (Nat.le_refl _)) rfl<|mY (aQPrimE zb) rfl<|mEx (Qx:=RpP a b (X+(lg a+1-lg b)*(X+1))) (L:=fun r=>qrow (X+(lg a+1-lg b)*(X+1)) (lg r) (rc r)) 16 rfl (fun R hR=>?_);exact mv2 rfl rfl<|mNil<|bN<|⟨((X+(lg a+1-lg b)*(X+1)),b,R),⟨zb,hR.z,hid.trans hR.idp,hbb.mono (Nat.le_add_right _ _),hR.b,hb10,by have:=hR.lt;omega,by omega,hG.step hR.lt,hpb,hR.pm⟩,hR.lt,wk rfl ⟨hs' rfl (le_qrow_t (by omega) (hbb.mono (Nat.le_add_right _ _))),hs rfl,hs rfl,trivial⟩ trivial rfl⟩
theorem aQPointB{K KC X Y:Nat}{c:Nat→Int}{lo hi:Rat}{b:Bool}(h:decide (lo=hi)=b)(hX:X≤100000:=by omega)(hY:Y≤100000:=by omega):ACall Tryz.prog 72 [.agg (qac K c KC X lo Y hi)] (.d (.one (.v (.bool b)))):=by
 subst h;exact aQPoint hX hY
theorem le_boolE{a b:Bool}(h:a=b):AV.le (.d (.one (.v (.bool a)))) (.d (.one (.v (.bool b)))):=by subst h;exact AV.le.rfl
theorem aQZeroA{K KC X N G M KD:Nat}{c y:Nat→Int}{lo hi:Rat}(zy:z20 y)(hV:OkV c lo hi)(hy10:lg y≤10)(hc10:lg c≤10)(hN:N≤10)(hcN:lg c≤N)(hK1:1≤K)(hG:(K+1)*(max (lg y+2-lg c) 1*3^lg c)≤G)(hG9:G≤90000)(hM64:1≤M)(hB:DvB c M)(hKD:(M+2)*(2*3^N)≤KD)(hKD9:KD≤90000)(hKC:KC≤90000)(hX:X≤90000):ACall Tryz.prog 71 [.one (qrow K (lg y) (rc y)),.agg ([.row 4 (lg c) (qel K (rc c))] ++ [exL (ChQ c KC) (fun L=>qlr KC L)] ++qn X lo ++qn X hi)] (.d (.one (.v (.bool (decide ((sgC (FF y) (cutA c lo hi))=0)))))):=by
 refine ACall.fact10 (enters Tryz.func71 rfl rfl) (p:=Db K y∧Db K c∧Qb X lo∧Qb X hi) (fun B w vs h=>match vs,h with | [_,_],⟨h1,⟨cs,_,hl⟩,_⟩=>⟨qrow_bd zy.lg h1,qa_bd hV.ok.z hl⟩) (fun hb=>?_);have hlc:=lg_le c;have hly:=lg_le y;have hKG:=(Gw.mk hG).bd;have hMK:M+2≤KD:=Nat.le_trans (Nat.le_mul_of_pos_right _ (Nat.mul_pos (by decide) (Nat.pow_pos (by decide)))) hKD;refine aN 31 [.tmp 4] Tryz.func71 rfl<|cR<|mO rfl<|mW rfl<|mT<|cSeq<|cSeq ?_
 by_cases hy0:lg y=0
 ·exact cReg<|mv2 rfl rfl<|mbT rfl (beq_iff_eq.2 (by omega))<|mT<|cT rfl<|cR<|mW rfl<|mT<|cRet<|tR<|rQ rfl (le_boolE (decide_eq_true (sgc_nil zy hy0 hV.ok.cut)).symm)
 ·refine cReg<|mv2 rfl rfl<|mbF rfl (beq_eq_false_iff_ne.2 (by omega))<|mT<|cFs rfl<|cSeq<|cR<|mW rfl<|mY aQPoint rfl<|mT<|cCond rfl (fun hc1=>?_) (fun hc1=>?_)
  ·exact cR<|mv3 rfl rfl rfl<|mY (aQSignN (zy) rfl) rfl<|mv2 rfl rfl<|mT<|cRet<|tR<|rQ rfl (by have he:lo=hi:=of_decide_eq_true hc1;exact le_boolE (by rw [cutA_P (show hi≤lo by grind),sgC_P (FF_po zy)];rfl))
  ·refine cSkip<|tN<|cSeq ?_;have hne:¬ lo=hi:=of_decide_eq_false hc1;have hlt:lo < hi:=by have:=hV.ok.le;grind
   refine cReg<|mv3 rfl rfl rfl<|mY (aQGcdW (G:=G) zy hV.ok.z hy10 hc10 hK1 hG hG9) rfl<|mW rfl<|mT<|cSeq<|cSeq<|cEx (Qx:=GcdP y c (21*K+3)) (L:=fun g=>qrow (63*K+9) (lg g) (rc g)) 5 rfl (fun D hD=>?_);obtain ⟨hD0,hDl⟩:=hD.le' hV.ok.z (by have:=hV.l2;omega);have dB:DvB c M:=hB;have dD:DvB D M:=fun g zg hg hd=>hB g zg hg (hd.trans hD.idl.db)
   have bD:Db M D:=hB D hD.z (hD.pm hD0).one hD.idl.db;refine cView 5 (.d (.one (.row 4 (lg D) (qel M (rc D))))) rfl (le_qrow_t (by omega) bD) ?_
   by_cases hd2:2≤lg D
   ·have sD:=zero_sq hD.idl.db hD.z hV.sq;obtain ⟨Ms,_,hMs⟩:=ex_lb hD.z;have hSD:=sq_self hD.z hMs (hD.pm hD0) sD;exact cReg<|mv2 rfl rfl<|mdF rfl (by omega)<|mT<|cFs rfl<|cSeq<|cDk 9<|.cons (OpS.V _ rfl)<|oC (aQChainS (M:=M) (KC:=KD) (N:=N) hD.z hd2 hN (by omega) hM64 (by omega) dD (by omega) (by omega) hKD hKD9 hSD) rfl<|oV rfl<|oV rfl<|oV rfl<|oV rfl<|oC (aQBtw (by grind)) rfl<|oV rfl<|.cons (OpS.V _ rfl)<|.nil<|mT<|cRet<|rQ rfl (le_boolE (zero_cnt hV hlt zy hD hD0 hd2))
   ·exact cReg<|mv2 rfl rfl<|mdT rfl (by omega)<|mT<|cT rfl<|cR<|mW rfl<|mT<|cRet<|tR<|rQ rfl (le_boolE (decide_eq_false (zero_short hV hlt zy hD hD0 hd2)).symm)
structure CmI(c d:Nat→Int)(L J E f:Nat)(lo hi p q u1 u2 v1 v2:Rat):Prop where
 fl:f≤J
 n1:Nar c lo hi u1 u2
 n2:Nar d p q v1 v2
 x1:EX c u1 u2
 x2:EX d v1 v2
 d1:Dz L (J-f) u1 u2
 d2:Dz L (J-f) v1 v2
 w1:(u2-u1)*t2 (E+2)≤t2 f
 w2:(v2-v1)*t2 (E+2)≤t2 f
section
variable {c d:Nat→Int} {L J E f:Nat} {lo hi p q u1 u2 v1 v2:Rat}
theorem CmI.go(h:CmI c d L J E f lo hi p q u1 u2 v1 v2)(hf:f≠0)(hc:Cnt c)(hd:Cnt d):CmI c d L J E (f-1) lo hi p q (hlf c u1 u2).1 (hlf c u1 u2).2 (hlf d v1 v2).1 (hlf d v1 v2).2:=by
 have hp:=t2_pos (E+2);have hfl:=h.fl;have e:J-f+1=J-(f-1):=by omega
 exact ⟨by omega,h.n1.trans (hlf_nar h.n1.ok).1,h.n2.trans (hlf_nar h.n2.ok).1,(hc.half h.n1.ok h.x1).2,(hd.half h.n2.ok h.x2).2,e▸h.d1.hlf,e▸h.d2.hlf,hlf_w' h.n1.ok hp h.w1,hlf_w' h.n2.ok hp h.w2⟩
theorem cm_wide{lo hi:Rat}{L E J:Nat}(h:Tb L lo)(k:Tb L hi)(hJ:32*L+1+(E+2)≤J):(hi-lo)*t2 (E+2)≤t2 J:=by
 have h1:=tb_wide h k;have e1:((2^(32*L+1):Nat):Rat)=t2 (32*L+1):=by unfold t2;rfl
 rw [e1] at h1;have h2:=Rat.mul_le_mul_of_nonneg_right h1 (show 0≤t2 (E+2) by have:=t2_pos (E+2);grind);rw [← t2_add] at h2;have h3:t2 (32*L+1+(E+2))≤t2 J:=t2_mono hJ;grind
theorem CmI.start(ha:OkA c lo hi)(hb:OkA d p q)(x1:EX c lo hi)(x2:EX d p q)(t1:Tb L lo)(t2:Tb L hi)(t3:Tb L p)(t4:Tb L q)(hJ:32*L+1+(E+2)≤J):CmI c d L J E J lo hi p q lo hi p q:=⟨Nat.le_refl _,.refl ha,.refl hb,x1,x2,by rw [Nat.sub_self];exact dz_start t1 t2,by rw [Nat.sub_self];exact dz_start t3 t4,cm_wide t1 t2 hJ,cm_wide t3 t4 hJ⟩
theorem CmI.eq(h:CmI c d L J E f lo hi p q u1 u2 v1 v2):cmpC (cutA c u1 u2) (cutA d v1 v2)=cmpC (cutA c lo hi) (cutA d p q):=cmpC_congr h.n1.cut h.n2.cut
theorem CmI.lt(h:CmI c d L J E f lo hi p q u1 u2 v1 v2)(hne:cmpC (cutA c lo hi) (cutA d p q)≠0)(hb:u2≤v1):cmpC (cutA c lo hi) (cutA d p q)= -1:=by
 have h1:=bel_cmp h.n1.ok h.n2.ok hb;rw [h.eq] at h1;rcases cmpC_bd (cutA c lo hi) (cutA d p q) with k | k | k
 ·exact k
 ·exact absurd k hne
 ·omega
theorem CmI.gt(h:CmI c d L J E f lo hi p q u1 u2 v1 v2)(hne:cmpC (cutA c lo hi) (cutA d p q)≠0)(hb:v2≤u1):cmpC (cutA c lo hi) (cutA d p q)=1:=by
 have h1:=bel_cmp h.n2.ok h.n1.ok hb;have h2:=cmpC_neg h.n1.ok.cut h.n2.ok.cut;rw [h.eq] at h2;rcases cmpC_bd (cutA c lo hi) (cutA d p q) with k | k | k
 ·omega
 ·exact absurd k hne
 ·exact k
theorem CmI.no{h1 h2:Nat}(h:CmI c d L J E f lo hi p q u1 u2 v1 v2)(b1:∀ i,(c i).natAbs≤2^h1)(b2:∀ i,(d i).natAbs≤2^h2)(hE:E=sepE (lg c) (lg d) h1 h2)(oa:OkV c lo hi)(ob:OkV d p q)(hne:cmpC (cutA c lo hi) (cutA d p q)≠0)(hf:f=0)(o1:¬ u2≤v1)(o2:¬ v2≤u1):False:=by
 have w1:=h.w1;have w2:=h.w2;rw [hf,show t2 0=1 from rfl] at w1 w2;exact near_no b1 b2 hE (oa.nar h.n1) (ob.nar h.n2) (by rw [h.eq];exact hne) (by grind) (by grind) w1 w2
theorem db_bits{K:Nat}(h:Db K c)(i:Nat):(c i).natAbs≤2^(14*K):=by
 have h1:=h i;have h2:B4^K≤2^(14*K):=by rw [Nat.pow_mul];exact Nat.pow_le_pow_left (by decide) K
 omega
end
theorem aQCmpP{K KC X:Nat}{c d:Nat→Int}{lo hi e1 e2:Rat}(hV:OkV c lo hi)(hW:OkV d e1 e2)(hpt:lo=hi∨e1=e2)(hK:K≤100000:=by omega)(hKC:KC≤100000:=by omega)(hX:X≤100000:=by omega):ACall Tryz.prog 41 [.agg ([.row 4 (lg c) (qel K (rc c))] ++ [exL (ChQ c KC) (fun L=>qlr KC L)] ++qn X lo ++qn X hi),.agg ([.row 4 (lg d) (qel K (rc d))] ++ [exL (ChQ d KC) (fun L=>qlr KC L)] ++qn X e1 ++qn X e2)] (.d (.one (.v (.int .i64 (cmpC (cutA c lo hi) (cutA d e1 e2)))))):=by
 have hlc:=lg_le c;have hld:=lg_le d;refine aN 59 [.tmp 4] Tryz.func41 rfl<|cR<|mO rfl<|mO rfl<|mW rfl<|mT<|cSeq<|cSeq ?_
 by_cases ha:lo=hi
 ·exact cReg<|mW rfl<|mY (aQPointB (decide_eq_true ha)) rfl<|mT<|cT rfl<|cR<|mv3 rfl rfl rfl<|mY (aQCmpRat hW.cn hW.ok) rfl<|mV hTT (.d (.one (.v (.int .i64 (-(cmpC (cutA d e1 e2) (cutP lo))))))) (evi ((wr64 (by have:=cmpC_bd (cutA d e1 e2) (cutP lo);omega) (by have:=cmpC_bd (cutA d e1 e2) (cutP lo);omega)).trans (by omega)))<|mW rfl<|mT<|cRet<|tR<|rQ rfl (le_int (by rw [show cutA c lo hi=cutP lo from cutA_P (by grind),cmpC_neg hW.ok.cut (cutP_ok lo)]))
 ·by_cases hb0:e1=e2
  ·exact cReg<|mW rfl<|mY (aQPointB (decide_eq_false ha)) rfl<|mT<|cFs rfl<|cSeq<|cR<|mW rfl<|mY (aQPointB (decide_eq_true hb0)) rfl<|mT<|cT rfl<|cR<|mv3 rfl rfl rfl<|mY (aQCmpRat hV.cn hV.ok) rfl<|mW rfl<|mT<|cRet<|tR<|rQ rfl (le_int (by rw [show cutA d e1 e2=cutP e1 from cutA_P (by grind)]))
  ·exact absurd hpt (by rintro (k | k);exact ha k;exact hb0 k)
theorem aQCmp{K KC X N G M KD L J Z:Nat}{c d:Nat→Int}{lo hi e1 e2:Rat}(hV:OkV c lo hi)(hW:OkV d e1 e2)(hx1:EX c lo hi)(hx2:EX d e1 e2)(hd10:lg d≤10)(hc10:lg c≤10)(hN:N≤10)(hcN:lg c≤N)(hK1:1≤K)(hG:(K+1)*(max (lg d+2-lg c) 1*3^lg c)≤G)(hG9:G≤90000)(hM64:1≤M)(hB:DvB c M)(hKD:(M+2)*(2*3^N)≤KD)(hKD9:KD≤90000)(hKC:KC≤90000)(hX:X≤90000)(hL:X≤2*L)(hJ:32*L+3+sepE (lg c) (lg d) (14*K) (14*K)≤J)(hZ:3*(3*L+J / 32+2)≤Z)(hZ9:Z≤90000):ACall Tryz.prog 41 [.agg ([.row 4 (lg c) (qel K (rc c))] ++ [exL (ChQ c KC) (fun L=>qlr KC L)] ++qn X lo ++qn X hi),.agg ([.row 4 (lg d) (qel K (rc d))] ++ [exL (ChQ d KC) (fun L=>qlr KC L)] ++qn X e1 ++qn X e2)] (.d (.one (.v (.int .i64 (cmpC (cutA c lo hi) (cutA d e1 e2)))))):=by
 refine ACall.fact10 (enters Tryz.func41 rfl rfl) (p:=(Db K c∧Qb X lo∧Qb X hi)∧(Db K d∧Qb X e1∧Qb X e2)) (fun B w vs h=>match vs,h with | [_,_],⟨⟨cs,_,hl⟩,⟨ds,_,hk⟩,_⟩=>⟨qa_bd hV.ok.z hl,qa_bd hW.ok.z hk⟩) (fun hb=>?_);have hlc:=lg_le c;have hld:=lg_le d;have hKG:=(Gw.mk hG).bd;refine aN 59 [.tmp 4] Tryz.func41 rfl<|cR<|mO rfl<|mO rfl<|mW rfl<|mT<|cSeq<|cSeq ?_
 by_cases ha:lo=hi
 ·exact cReg<|mW rfl<|mY (aQPointB (decide_eq_true ha)) rfl<|mT<|cT rfl<|cR<|mv3 rfl rfl rfl<|mY (aQCmpRat hW.cn hW.ok) rfl<|mV hTT (.d (.one (.v (.int .i64 (-(cmpC (cutA d e1 e2) (cutP lo))))))) (evi ((wr64 (by have:=cmpC_bd (cutA d e1 e2) (cutP lo);omega) (by have:=cmpC_bd (cutA d e1 e2) (cutP lo);omega)).trans (by omega)))<|mW rfl<|mT<|cRet<|tR<|rQ rfl (le_int (by rw [show cutA c lo hi=cutP lo from cutA_P (by grind),cmpC_neg hW.ok.cut (cutP_ok lo)]))
 ·by_cases hb0:e1=e2
  ·exact cReg<|mW rfl<|mY (aQPointB (decide_eq_false ha)) rfl<|mT<|cFs rfl<|cSeq<|cR<|mW rfl<|mY (aQPointB (decide_eq_true hb0)) rfl<|mT<|cT rfl<|cR<|mv3 rfl rfl rfl<|mY (aQCmpRat hV.cn hV.ok) rfl<|mW rfl<|mT<|cRet<|tR<|rQ rfl (le_int (by rw [show cutA d e1 e2=cutP e1 from cutA_P (by grind)]))
  ·refine cReg<|mW rfl<|mY (aQPointB (decide_eq_false ha)) rfl<|mT<|cFs rfl<|cSeq<|cR<|mW rfl<|mY (aQPointB (decide_eq_false hb0)) rfl<|mT<|cFs rfl<|cSeq<|cR<|mv3 rfl rfl rfl<|mY (aQZeroA (N:=N) (G:=G) (M:=M) (KD:=KD) hW.ok.z hV hd10 hc10 hN hcN hK1 hG hG9 hM64 hB hKD hKD9 hKC hX) rfl<|mT<|cCond rfl (fun hc1=>?_) (fun hc1=>?_)
   ·refine cSeq ?_
    by_cases hk1:cmpC (cutA c lo hi) (cutP e1) > 0
    ·by_cases hk2:cmpC (cutA c lo hi) (cutP e2)≤0
     ·exact cReg<|mv3 rfl rfl rfl<|mY (aQCmpRat hV.cn hV.ok) rfl<|mdT rfl hk1<|mv4 rfl rfl rfl rfl<|mY (aQCmpRat hV.cn hV.ok) rfl<|mdT rfl hk2<|mW rfl<|mT<|cT rfl<|cR<|mW rfl<|mT<|cRet<|tR<|rQ rfl (le_int (hV.same hW (by have:=hW.ok.le;grind) (of_decide_eq_true hc1) hk1 hk2).symm)
     ·refine cReg<|mv3 rfl rfl rfl<|mY (aQCmpRat hV.cn hV.ok) rfl<|mdT rfl hk1<|mv4 rfl rfl rfl rfl<|mY (aQCmpRat hV.cn hV.ok) rfl<|mdF rfl hk2<|mW rfl<|mT<|cFs rfl<|cBlock ?_;have hpq:e1 < e2:=by have:=hW.ok.le;grind
      have hne:=hV.unlike hW hpq (fun k=>by first | exact hk1 k.2.1 | exact hk2 k.2.2);have t1:Tb L lo:=Qb.tb (K:=L) (qb_mono hb.1.2.1 (by omega)) (Nat.le_refl _);have t2':Tb L hi:=Qb.tb (K:=L) (qb_mono hb.1.2.2 (by omega)) (Nat.le_refl _);have t3:Tb L e1:=Qb.tb (K:=L) (qb_mono hb.2.2.1 (by omega)) (Nat.le_refl _);have t4:Tb L e2:=Qb.tb (K:=L) (qb_mono hb.2.2.2 (by omega)) (Nat.le_refl _);refine cLoop (ι:=Nat×Rat×Rat×Rat×Rat) (fun (p:Nat×Rat×Rat×Rat×Rat)=>match p with | (f,u1,u2,v1,v2)=>⟨59,[(2,.ptr 2 0),(3,.ptr 3 0)],[(2,.box 32 ([.row 4 (lg c) (qel K (rc c))] ++ [exL (ChQ c KC) (fun L=>qlr KC L)] ++qn Z u1 ++qn Z u2)),(3,.box 32 ([.row 4 (lg d) (qel K (rc d))] ++ [exL (ChQ d KC) (fun L=>qlr KC L)] ++qn Z v1 ++qn Z v2))]⟩) (fun (p:Nat×Rat×Rat×Rat×Rat)=>match p with | (f,u1,u2,v1,v2)=>CmI c d L J (sepE (lg c) (lg d) (14*K) (14*K)) f lo hi e1 e2 u1 u2 v1 v2) (fun (p:Nat×Rat×Rat×Rat×Rat)=>match p with | (f,u1,u2,v1,v2)=>f) (J,lo,hi,e1,e2) (CmI.start hV.ok hW.ok hx1 hx2 t1 t2' t3 t4 (by omega)) (wk rfl ⟨hs rfl,hs rfl,trivial⟩ ⟨ho' rfl (leo_box (ls_cat (ls_cat (fun B w cs h=>h) (qn_tight (t1.qb (by omega)))) (qn_tight (t2'.qb (by omega))))),ho' rfl (leo_box (ls_cat (ls_cat (fun B w cs h=>h) (qn_tight (t3.qb (by omega)))) (qn_tight (t4.qb (by omega))))),trivial⟩ rfl) ?_;rintro ⟨f,u1,u2,v1,v2⟩ hI;have hI:CmI c d L J (sepE (lg c) (lg d) (14*K) (14*K)) f lo hi e1 e2 u1 u2 v1 v2:=hI;show AW _ _ _ ⟨_,_,_⟩
      refine cBlock<|cSeq<|cSeq ?_
      by_cases hu:u1=u2
      ·exact cReg<|mW rfl<|mY (aQPointB (decide_eq_true hu)) rfl<|mW rfl<|mG rfl rfl<|mG rfl rfl<|mW rfl<|mT<|cT rfl<|cR<|mv2 rfl rfl<|mY (aQCmpP (hV.nar hI.n1) (hW.nar hI.n2) (Or.inl hu)) rfl<|mW rfl<|mT<|cRet<|tR<|bR<|tR<|bR<|rQ rfl (le_int hI.eq)
      ·by_cases hv:v1=v2
       ·exact cReg<|mW rfl<|mY (aQPointB (decide_eq_false hu)) rfl<|mv2 rfl rfl<|mY (aQPointB (decide_eq_true hv)) rfl<|mW rfl<|mT<|cT rfl<|cR<|mv2 rfl rfl<|mY (aQCmpP (hV.nar hI.n1) (hW.nar hI.n2) (Or.inr hv)) rfl<|mW rfl<|mT<|cRet<|tR<|bR<|tR<|bR<|rQ rfl (le_int hI.eq)
       ·refine cReg<|mW rfl<|mY (aQPointB (decide_eq_false hu)) rfl<|mv2 rfl rfl<|mY (aQPointB (decide_eq_false hv)) rfl<|mW rfl<|mT<|cFs rfl<|cSeq<|cR<|mv4 rfl rfl rfl rfl<|mY (aRCmpR (isq Z u2) (isq Z v1)) rfl<|mW rfl<|mT<|cCond rfl (fun hc2=>?_) (fun hc2=>?_)
        ·exact cR<|mW rfl<|mT<|cRet<|tR<|bR<|tR<|bR<|rQ rfl (le_int (hI.lt hne (by have h0:=of_decide_eq_true hc2;exact cmpQ_le.1 h0)).symm)
        ·refine cSkip<|tN<|cSeq<|cSeq ?_;have o1:¬ u2≤v1:=fun k=>by have h0:=of_decide_eq_false hc2;exact h0 (cmpQ_le.2 k)
         refine cReg<|mv4 rfl rfl rfl rfl<|mY (aRCmpR (isq Z v2) (isq Z u1)) rfl<|mW rfl<|mT<|cCond rfl (fun hc3=>?_) (fun hc3=>?_)
         ·exact cR<|mW rfl<|mT<|cRet<|tR<|bR<|tR<|bR<|rQ rfl (le_int (hI.gt hne (by have h0:=of_decide_eq_true hc3;exact cmpQ_le.1 h0)).symm)
         ·refine cSkip<|tN ?_;have o2:¬ v2≤u1:=fun k=>by have h0:=of_decide_eq_false hc3;exact h0 (cmpQ_le.2 k)
          have hf0:f≠0:=fun hf=>hI.no (db_bits hb.1.1) (db_bits hb.2.1) rfl hV hW hne hf o1 o2
          have hfl:=hI.fl;have hd1:=(hI.d1.mid.2.qb (X:=Z) (by omega)).1;have hd2:=(hI.d2.mid.2.qb (X:=Z) (by omega)).1;exact cDk 4<|oV rfl<|oC (aQHalve (Y:=Z) hV.cn hI.n1.ok hI.x1 hd1) rfl<|oV rfl<|oC (aQHalve (Y:=Z) hW.cn hI.n2.ok hI.x2 hd2) rfl<|.nil<|mZ rfl<|mZ rfl<|mNil<|bN<|⟨((f-1),(hlf c u1 u2).1,(hlf c u1 u2).2,(hlf d v1 v2).1,(hlf d v1 v2).2),hI.go hf0 hV.cn hW.cn,by show f-1 < f;omega,wkr rfl rfl⟩
    ·refine cReg<|mv3 rfl rfl rfl<|mY (aQCmpRat hV.cn hV.ok) rfl<|mdF rfl hk1<|mW rfl<|mG rfl rfl<|mG rfl rfl<|mG rfl rfl<|mG rfl rfl<|mG rfl rfl<|mW rfl<|mT<|cFs rfl<|cBlock ?_;have hpq:e1 < e2:=by have:=hW.ok.le;grind
     have hne:=hV.unlike hW hpq (fun k=>by first | exact hk1 k.2.1 | exact hk2 k.2.2);have t1:Tb L lo:=Qb.tb (K:=L) (qb_mono hb.1.2.1 (by omega)) (Nat.le_refl _);have t2':Tb L hi:=Qb.tb (K:=L) (qb_mono hb.1.2.2 (by omega)) (Nat.le_refl _);have t3:Tb L e1:=Qb.tb (K:=L) (qb_mono hb.2.2.1 (by omega)) (Nat.le_refl _);have t4:Tb L e2:=Qb.tb (K:=L) (qb_mono hb.2.2.2 (by omega)) (Nat.le_refl _);refine cLoop (ι:=Nat×Rat×Rat×Rat×Rat) (fun (p:Nat×Rat×Rat×Rat×Rat)=>match p with | (f,u1,u2,v1,v2)=>⟨59,[(2,.ptr 2 0),(3,.ptr 3 0)],[(2,.box 32 ([.row 4 (lg c) (qel K (rc c))] ++ [exL (ChQ c KC) (fun L=>qlr KC L)] ++qn Z u1 ++qn Z u2)),(3,.box 32 ([.row 4 (lg d) (qel K (rc d))] ++ [exL (ChQ d KC) (fun L=>qlr KC L)] ++qn Z v1 ++qn Z v2))]⟩) (fun (p:Nat×Rat×Rat×Rat×Rat)=>match p with | (f,u1,u2,v1,v2)=>CmI c d L J (sepE (lg c) (lg d) (14*K) (14*K)) f lo hi e1 e2 u1 u2 v1 v2) (fun (p:Nat×Rat×Rat×Rat×Rat)=>match p with | (f,u1,u2,v1,v2)=>f) (J,lo,hi,e1,e2) (CmI.start hV.ok hW.ok hx1 hx2 t1 t2' t3 t4 (by omega)) (wk rfl ⟨hs rfl,hs rfl,trivial⟩ ⟨ho' rfl (leo_box (ls_cat (ls_cat (fun B w cs h=>h) (qn_tight (t1.qb (by omega)))) (qn_tight (t2'.qb (by omega))))),ho' rfl (leo_box (ls_cat (ls_cat (fun B w cs h=>h) (qn_tight (t3.qb (by omega)))) (qn_tight (t4.qb (by omega))))),trivial⟩ rfl) ?_;rintro ⟨f,u1,u2,v1,v2⟩ hI;have hI:CmI c d L J (sepE (lg c) (lg d) (14*K) (14*K)) f lo hi e1 e2 u1 u2 v1 v2:=hI;show AW _ _ _ ⟨_,_,_⟩
     refine cBlock<|cSeq<|cSeq ?_
     by_cases hu:u1=u2
     ·exact cReg<|mW rfl<|mY (aQPointB (decide_eq_true hu)) rfl<|mW rfl<|mG rfl rfl<|mG rfl rfl<|mW rfl<|mT<|cT rfl<|cR<|mv2 rfl rfl<|mY (aQCmpP (hV.nar hI.n1) (hW.nar hI.n2) (Or.inl hu)) rfl<|mW rfl<|mT<|cRet<|tR<|bR<|tR<|bR<|rQ rfl (le_int hI.eq)
     ·by_cases hv:v1=v2
      ·exact cReg<|mW rfl<|mY (aQPointB (decide_eq_false hu)) rfl<|mv2 rfl rfl<|mY (aQPointB (decide_eq_true hv)) rfl<|mW rfl<|mT<|cT rfl<|cR<|mv2 rfl rfl<|mY (aQCmpP (hV.nar hI.n1) (hW.nar hI.n2) (Or.inr hv)) rfl<|mW rfl<|mT<|cRet<|tR<|bR<|tR<|bR<|rQ rfl (le_int hI.eq)
      ·refine cReg<|mW rfl<|mY (aQPointB (decide_eq_false hu)) rfl<|mv2 rfl rfl<|mY (aQPointB (decide_eq_false hv)) rfl<|mW rfl<|mT<|cFs rfl<|cSeq<|cR<|mv4 rfl rfl rfl rfl<|mY (aRCmpR (isq Z u2) (isq Z v1)) rfl<|mW rfl<|mT<|cCond rfl (fun hc4=>?_) (fun hc4=>?_)
       ·exact cR<|mW rfl<|mT<|cRet<|tR<|bR<|tR<|bR<|rQ rfl (le_int (hI.lt hne (by have h0:=of_decide_eq_true hc4;exact cmpQ_le.1 h0)).symm)
       ·refine cSkip<|tN<|cSeq<|cSeq ?_;have o1:¬ u2≤v1:=fun k=>by have h0:=of_decide_eq_false hc4;exact h0 (cmpQ_le.2 k)
        refine cReg<|mv4 rfl rfl rfl rfl<|mY (aRCmpR (isq Z v2) (isq Z u1)) rfl<|mW rfl<|mT<|cCond rfl (fun hc5=>?_) (fun hc5=>?_)
        ·exact cR<|mW rfl<|mT<|cRet<|tR<|bR<|tR<|bR<|rQ rfl (le_int (hI.gt hne (by have h0:=of_decide_eq_true hc5;exact cmpQ_le.1 h0)).symm)
        ·refine cSkip<|tN ?_;have o2:¬ v2≤u1:=fun k=>by have h0:=of_decide_eq_false hc5;exact h0 (cmpQ_le.2 k)
         have hf0:f≠0:=fun hf=>hI.no (db_bits hb.1.1) (db_bits hb.2.1) rfl hV hW hne hf o1 o2
         have hfl:=hI.fl;have hd1:=(hI.d1.mid.2.qb (X:=Z) (by omega)).1;have hd2:=(hI.d2.mid.2.qb (X:=Z) (by omega)).1;exact cDk 4<|oV rfl<|oC (aQHalve (Y:=Z) hV.cn hI.n1.ok hI.x1 hd1) rfl<|oV rfl<|oC (aQHalve (Y:=Z) hW.cn hI.n2.ok hI.x2 hd2) rfl<|.nil<|mZ rfl<|mZ rfl<|mNil<|bN<|⟨((f-1),(hlf c u1 u2).1,(hlf c u1 u2).2,(hlf d v1 v2).1,(hlf d v1 v2).2),hI.go hf0 hV.cn hW.cn,by show f-1 < f;omega,wkr rfl rfl⟩
   ·refine cSkip<|tN<|cBlock ?_;have hpq:e1 < e2:=by have:=hW.ok.le;grind
    have hne:=hV.unlike hW hpq (fun k=>of_decide_eq_false hc1 k.1);have t1:Tb L lo:=Qb.tb (K:=L) (qb_mono hb.1.2.1 (by omega)) (Nat.le_refl _);have t2':Tb L hi:=Qb.tb (K:=L) (qb_mono hb.1.2.2 (by omega)) (Nat.le_refl _);have t3:Tb L e1:=Qb.tb (K:=L) (qb_mono hb.2.2.1 (by omega)) (Nat.le_refl _);have t4:Tb L e2:=Qb.tb (K:=L) (qb_mono hb.2.2.2 (by omega)) (Nat.le_refl _);refine cLoop (ι:=Nat×Rat×Rat×Rat×Rat) (fun (p:Nat×Rat×Rat×Rat×Rat)=>match p with | (f,u1,u2,v1,v2)=>⟨59,[(2,.ptr 2 0),(3,.ptr 3 0)],[(2,.box 32 ([.row 4 (lg c) (qel K (rc c))] ++ [exL (ChQ c KC) (fun L=>qlr KC L)] ++qn Z u1 ++qn Z u2)),(3,.box 32 ([.row 4 (lg d) (qel K (rc d))] ++ [exL (ChQ d KC) (fun L=>qlr KC L)] ++qn Z v1 ++qn Z v2))]⟩) (fun (p:Nat×Rat×Rat×Rat×Rat)=>match p with | (f,u1,u2,v1,v2)=>CmI c d L J (sepE (lg c) (lg d) (14*K) (14*K)) f lo hi e1 e2 u1 u2 v1 v2) (fun (p:Nat×Rat×Rat×Rat×Rat)=>match p with | (f,u1,u2,v1,v2)=>f) (J,lo,hi,e1,e2) (CmI.start hV.ok hW.ok hx1 hx2 t1 t2' t3 t4 (by omega)) (wk rfl ⟨hs rfl,hs rfl,trivial⟩ ⟨ho' rfl (leo_box (ls_cat (ls_cat (fun B w cs h=>h) (qn_tight (t1.qb (by omega)))) (qn_tight (t2'.qb (by omega))))),ho' rfl (leo_box (ls_cat (ls_cat (fun B w cs h=>h) (qn_tight (t3.qb (by omega)))) (qn_tight (t4.qb (by omega))))),trivial⟩ rfl) ?_;rintro ⟨f,u1,u2,v1,v2⟩ hI;have hI:CmI c d L J (sepE (lg c) (lg d) (14*K) (14*K)) f lo hi e1 e2 u1 u2 v1 v2:=hI;show AW _ _ _ ⟨_,_,_⟩
    refine cBlock<|cSeq<|cSeq ?_
    by_cases hu:u1=u2
    ·exact cReg<|mW rfl<|mY (aQPointB (decide_eq_true hu)) rfl<|mW rfl<|mG rfl rfl<|mG rfl rfl<|mW rfl<|mT<|cT rfl<|cR<|mv2 rfl rfl<|mY (aQCmpP (hV.nar hI.n1) (hW.nar hI.n2) (Or.inl hu)) rfl<|mW rfl<|mT<|cRet<|tR<|bR<|tR<|bR<|rQ rfl (le_int hI.eq)
    ·by_cases hv:v1=v2
     ·exact cReg<|mW rfl<|mY (aQPointB (decide_eq_false hu)) rfl<|mv2 rfl rfl<|mY (aQPointB (decide_eq_true hv)) rfl<|mW rfl<|mT<|cT rfl<|cR<|mv2 rfl rfl<|mY (aQCmpP (hV.nar hI.n1) (hW.nar hI.n2) (Or.inr hv)) rfl<|mW rfl<|mT<|cRet<|tR<|bR<|tR<|bR<|rQ rfl (le_int hI.eq)
     ·refine cReg<|mW rfl<|mY (aQPointB (decide_eq_false hu)) rfl<|mv2 rfl rfl<|mY (aQPointB (decide_eq_false hv)) rfl<|mW rfl<|mT<|cFs rfl<|cSeq<|cR<|mv4 rfl rfl rfl rfl<|mY (aRCmpR (isq Z u2) (isq Z v1)) rfl<|mW rfl<|mT<|cCond rfl (fun hc6=>?_) (fun hc6=>?_)
      ·exact cR<|mW rfl<|mT<|cRet<|tR<|bR<|tR<|bR<|rQ rfl (le_int (hI.lt hne (by have h0:=of_decide_eq_true hc6;exact cmpQ_le.1 h0)).symm)
      ·refine cSkip<|tN<|cSeq<|cSeq ?_;have o1:¬ u2≤v1:=fun k=>by have h0:=of_decide_eq_false hc6;exact h0 (cmpQ_le.2 k)
       refine cReg<|mv4 rfl rfl rfl rfl<|mY (aRCmpR (isq Z v2) (isq Z u1)) rfl<|mW rfl<|mT<|cCond rfl (fun hc7=>?_) (fun hc7=>?_)
       ·exact cR<|mW rfl<|mT<|cRet<|tR<|bR<|tR<|bR<|rQ rfl (le_int (hI.gt hne (by have h0:=of_decide_eq_true hc7;exact cmpQ_le.1 h0)).symm)
       ·refine cSkip<|tN ?_;have o2:¬ v2≤u1:=fun k=>by have h0:=of_decide_eq_false hc7;exact h0 (cmpQ_le.2 k)
        have hf0:f≠0:=fun hf=>hI.no (db_bits hb.1.1) (db_bits hb.2.1) rfl hV hW hne hf o1 o2
        have hfl:=hI.fl;have hd1:=(hI.d1.mid.2.qb (X:=Z) (by omega)).1;have hd2:=(hI.d2.mid.2.qb (X:=Z) (by omega)).1;exact cDk 4<|oV rfl<|oC (aQHalve (Y:=Z) hV.cn hI.n1.ok hI.x1 hd1) rfl<|oV rfl<|oC (aQHalve (Y:=Z) hW.cn hI.n2.ok hI.x2 hd2) rfl<|.nil<|mZ rfl<|mZ rfl<|mNil<|bN<|⟨((f-1),(hlf c u1 u2).1,(hlf c u1 u2).2,(hlf d v1 v2).1,(hlf d v1 v2).2),hI.go hf0 hV.cn hW.cn,by show f-1 < f;omega,wkr rfl rfl⟩
/-- There is one: by Bezout. -/
theorem ex_gcdP{c d:Nat→Int}(zc:z20 c)(zd:z20 d)(hc:lg c≠0):∃ M g,GcdP c d M g:=by
 obtain ⟨δ,u,v,s,t,pδ,pu,pv,ps,pt,e1,e2,e3⟩:=po_gcd 20 (FF c) (FF d) (FF_po zc) ⟨rc d,rc_z zd,fun _=>rfl⟩;obtain ⟨x0,hx0⟩:=FF_nz zc hc;have δne:∃ x,δ x≠0:=⟨x0,fun e=>hx0 (by rw [e2,e,Rat.mul_zero])⟩
 obtain ⟨kδ,aδ,hlδ⟩:=po_deg pδ δne;have hdv:Dv δ (FF c):=⟨s,ps,e2⟩;have hk:kδ+1≤20:=by
  have h1:=hdv.deg hlδ (FF_lc zc hc);have:=lg_le c;omega
 obtain ⟨q,hqz,_,_,hq⟩:=hlδ;obtain ⟨D,w,hD,hwz,hw⟩:=whole_row (q:=q) (k:=kδ+1) (fun i hi=>hqz i (by omega));have zw:z20 w:=z20.of hwz hk;have hDq:(D:Rat)≠0:=by
  have:(0:Rat) < (D:Rat):=by exact_mod_cast hD
  grind
 have hF:∀ x,FF w x=(D:Rat)*δ x:=fun x=>by
  rw [← FF_pf hwz zw,hq];show pe (rc w) x (kδ+1)=_
  rw [show rc w=fsclQ q (D:Rat) from funext hw,pe_scl];exact Rat.mul_comm _ _
 have hi:Idl (FF c) (FF d) δ:=⟨⟨u,v,pu,pv,e1⟩,hdv,⟨t,pt,e3⟩⟩;have hi2:Idl (FF c) (FF d) (FF w):=hi.scale (s:=(D:Rat)⁻¹) (s':=(D:Rat)) (fun x=>by rw [hF];have:=Rat.inv_mul_cancel _ hDq;grind) hF;obtain ⟨s1,s2,g1,g2⟩:=FF_prm zw;have zp:=prm20_z zw;obtain ⟨M,_,hM⟩:=ex_lb zp;exact ⟨M,prm20 w,zp,hM,hi2.scale g1 g2,fun e=>prm20_pm zw (by rw [← prm20_lg zw];exact e)⟩
theorem ex_sq{c:Nat→Int}(zc:z20 c)(h2:2≤lg c)(h10:lg c≤10):∃ M,SqP c M (sqP c):=by
 have zp:=prm20_z zc;have hl:=prm20_lg zc;have pp:=prm20_pm zc (by omega);obtain ⟨M,g,hg⟩:=ex_gcdP zp (z20_der zp) (by omega);obtain ⟨⟨M',h⟩,_⟩:=sq_step zp pp (by omega) (by omega) hg;have h3:=sqp_prm zc (by omega) h;exact ⟨M',h3.self⟩
theorem dvb_small{c:Nat→Int}{H n M:Nat}(zc:z20 c)(h0:lg c≠0)(hl:lg c≤n)(hH:∀ i,(c i).natAbs≤H)(hnH:n≤H)(h1:1≤H)(hM:n*(H*(2*H)^n)*(10*H)^n < B4^M):DvB c M:=by
 intro g zg hg hd;obtain ⟨hg0,hgl⟩:=lg_dv zc zg h0 hd;obtain ⟨W,pW,hW⟩:=hd;obtain ⟨w,k,hw,hc,_⟩:=exact_row zc.lg zg.lg hg pW (fun x=>by rw [FF_lg zc,FF_lg zg];exact hW x);intro i;have hb:=dv_bound (H:=(H:Int)) zc.ip h0 zg.lg hw hc (fun i=>by have:=hH i;omega) (by omega) (by omega) i;have e:((lg c:Rat)*(((H:Int):Rat)*(2*((H:Int):Rat))^lg c)*(10*((H:Int):Rat))^lg g)=((lg c*(H*(2*H)^lg c)*(10*H)^lg g:Nat):Rat):=by
  have pc:∀ (a b:Nat),((a^b:Nat):Rat)=(a:Rat)^b:=fun a b=>by
   induction b with
   | zero=>rw [Rat.pow_zero];rfl
   | succ b ih=>rw [Nat.pow_succ,Rat.pow_succ,Rat.natCast_mul,ih]
  rw [Rat.natCast_mul,Rat.natCast_mul,Rat.natCast_mul,pc,pc,Rat.natCast_mul,Rat.natCast_mul];rfl
 rw [e] at hb;have hle:(g i).natAbs≤lg c*(H*(2*H)^lg c)*(10*H)^lg g:=by
  unfold Ab at hb;have b1:((g i:Int):Rat)≤(((lg c*(H*(2*H)^lg c)*(10*H)^lg g:Nat):Int):Rat):=hb.2;have b2:((-((lg c*(H*(2*H)^lg c)*(10*H)^lg g:Nat):Int):Int):Rat)≤((g i:Int):Rat):=by rw [Rat.intCast_neg];exact hb.1
  have c1:g i≤((lg c*(H*(2*H)^lg c)*(10*H)^lg g:Nat):Int):=by exact_mod_cast b1
  have c2: -((lg c*(H*(2*H)^lg c)*(10*H)^lg g:Nat):Int)≤g i:=by exact_mod_cast b2
  omega
 refine Nat.lt_of_le_of_lt (Nat.le_trans hle ?_) hM;exact Nat.mul_le_mul (Nat.mul_le_mul hl (Nat.mul_le_mul_left _ (Nat.pow_le_pow_right (by omega) hl))) (Nat.pow_le_pow_right (by omega) (by omega))
theorem DvB.mono{c:Nat→Int}{K L:Nat}(h:DvB c K)(k:K≤L):DvB c L:=fun g zg hg hd=>(h g zg hg hd).mono k
theorem DvB.dv{c d:Nat→Int}{K:Nat}(h:DvB c K)(k:Dv (FF d) (FF c)):DvB d K:=fun g zg hg hd=>h g zg hg (hd.trans k)
/-! ### Picked -/
def pw(cl:Nat→Int)(i:Nat):Int:=IntKind.i64.wrap (cl i+6)%13-6
def pkP(cl:Nat→Int)(n:Nat):Nat→Int:=fun i=>if i < min n 5 then pw cl i else 0
def smT(n d:Int):Rat:=mkR (n%61-30) (1+d%6)
noncomputable def pkR(cl:Nat→Int)(n:Nat):List (Rat×Rat):=rtF (sqP (pkP cl n)) 56
noncomputable def pkA(cl:Nat→Int)(n:Nat)(k:Int):(Nat→Int)×Rat×Rat:=
 if 2≤lg (pkP cl n)∧(pkR cl n).length≠0 then (sqP (pkP cl n),((pkR cl n).getD (k%((pkR cl n).length:Int)).toNat (0,0)).1,((pkR cl n).getD (k%((pkR cl n).length:Int)).toNat (0,0)).2) else (lnP (smT k n),smT k n,smT k n)
noncomputable def pkC(cl:Nat→Int)(n:Nat)(k:Int):Nat→Int:=(pkA cl n k).1
noncomputable def pkL(cl:Nat→Int)(n:Nat)(k:Int):Rat:=(pkA cl n k).2.1
noncomputable def pkH(cl:Nat→Int)(n:Nat)(k:Int):Rat:=(pkA cl n k).2.2
theorem pkw_bd(cl:Nat→Int)(i:Nat): -6≤pw cl i∧pw cl i≤6:=by unfold pw;omega
theorem pkP_z(cl:Nat→Int)(n:Nat):∀ i,min n 5≤i→pkP cl n i=0:=fun i hi=>if_neg (by omega)
theorem pkP_20(cl:Nat→Int)(n:Nat):z20 (pkP cl n):= .of (pkP_z cl n) (by omega)
theorem pkP_l(cl:Nat→Int)(n:Nat):lg (pkP cl n)≤5:=Nat.le_trans (lg_of_z (pkP_20 cl n) (pkP_z cl n)) (by omega)
theorem pkP_b(cl:Nat→Int)(n i:Nat):(pkP cl n i).natAbs≤6:=by
 unfold pkP;split
 ·have:=pkw_bd cl i;omega
 ·exact Nat.zero_le _
theorem pkP_db(cl:Nat→Int)(n:Nat):Db 1 (pkP cl n):=fun i=>by
 have h:=pkP_b cl n i;have e:B4^1=10000:=by decide
 omega
theorem pkP_dvb{cl:Nat→Int}{n:Nat}(h:lg (pkP cl n)≠0):DvB (pkP cl n) 4:=dvb_small (pkP_20 cl n) h (pkP_l cl n) (pkP_b cl n) (by decide) (by decide) (by decide)
/-- What is picked. -/
structure PkP(c:Nat→Int)(lo hi:Rat):Prop where
 v:OkV c lo hi
 x:EX c lo hi
 pm:Pm (lg c) c
 b:Db 4 c
 l5:lg c≤5
 dv:DvB c 4
 sm:∃ p0,z20 p0∧(∀ i,(p0 i).natAbs≤30)∧lg p0≤5∧2≤lg p0∧Dv (FF c) (FF p0)∧(lg p0≤2∨∀ i,(p0 i).natAbs≤6)
theorem mkR_bd{n d:Int}(hd:0 < d):(mkR n d).num.natAbs≤n.natAbs∧(mkR n d).den≤d.natAbs:=by
 rw [mkR_ne (by omega)];obtain ⟨h1,h2⟩:=mkR_pos (n:=n) hd;refine ⟨by rw [h1];exact Int.natAbs_ediv_le_natAbs _ _,?_⟩;have h3:((Rat.divInt n d).den:Int).natAbs≤d.natAbs:=by rw [h2];exact Int.natAbs_ediv_le_natAbs _ _
 exact h3
theorem smT_bd(n d:Int):(smT n d).num.natAbs≤30∧(smT n d).den≤6:=by
 obtain ⟨h1,h2⟩:=mkR_bd (n:=n%61-30) (d:=1+d%6) (by omega);unfold smT;omega
theorem smT_qb(n d:Int):Qb 1 (smT n d):=by
 obtain ⟨h1,h2⟩:=smT_bd n d;have e:B4^1=10000:=by decide
 exact ⟨by omega,by omega⟩
theorem ex_tb(q:Rat):∃ L,Tb L q:=by
 refine ⟨q.num.natAbs+q.den,?_,?_⟩
 ·exact Nat.lt_of_lt_of_le (Nat.lt_of_lt_of_le Nat.lt_two_pow_self (Nat.pow_le_pow_left (show 2≤B32 by decide) _)) (Nat.pow_le_pow_right (by decide) (by omega))
 ·exact Nat.lt_of_lt_of_le (Nat.lt_of_lt_of_le Nat.lt_two_pow_self (Nat.pow_le_pow_left (show 2≤B32 by decide) _)) (Nat.pow_le_pow_right (by decide) (by omega))
theorem pkS{cl:Nat→Int}{n:Nat}(h2:2≤lg (pkP cl n)):(∃ M,SqP (pkP cl n) M (sqP (pkP cl n)))∧Db 4 (sqP (pkP cl n))∧(∀ i,(sqP (pkP cl n) i).natAbs≤2^56):=by
 obtain ⟨M,h⟩:=ex_sq (pkP_20 cl n) h2 (by have:=pkP_l cl n;omega);have hb:Db 4 (sqP (pkP cl n)):=pkP_dvb (by omega) _ h.z h.pm.one h.dv;exact ⟨⟨M,h⟩,hb,db_bits (K:=4) hb⟩
theorem pk_rt{cl:Nat→Int}{n:Nat}(h2:2≤lg (pkP cl n)):RtP (sqP (pkP cl n)) (pkR cl n):=by
 obtain ⟨⟨M,h⟩,hb,b1⟩:=pkS h2;obtain ⟨L,hL⟩:=ex_tb (bdQ (sqP (pkP cl n)));exact rt_ok (cnt_sq h (pkP_20 cl n) h2) b1 hL
theorem getD_mem'{α:Type}{l:List α}{i:Nat}{d:α}(h:i < l.length):l.getD i d∈l:=by
 rw [List.getD_eq_getElem?_getD,List.getElem?_eq_getElem h];exact List.getElem_mem h
theorem pk_ln(n d:Int):PkP (lnP (smT n d)) (smT n d) (smT n d):=by
 have hb:=lnP_db (smT_qb n d);have h30:∀ i,(lnP (smT n d) i).natAbs≤30:=fun i=>by
  obtain ⟨h1,h2⟩:=smT_bd n d
  match i with
  | 0=>show (-(smT n d).num).natAbs≤30;omega
  | 1=>show ((smT n d).den:Int).natAbs≤30;omega
  | i+2=>rw [lnP_z2 _ (i+2) (by omega)];exact Nat.zero_le _
 exact ⟨okV_ln _,Or.inl rfl,lnP_pmL _,hb.mono (by decide),by rw [lnP_lg];decide,(dvb_lin (lnP_z _) (lnP_lg _) hb (by decide)).mono (by decide),⟨lnP (smT n d),lnP_z _,h30,by rw [lnP_lg];decide,by rw [lnP_lg];decide,Dv.refl _,Or.inl (by rw [lnP_lg];decide)⟩⟩
theorem mod_lt'(k:Int){n:Nat}(h:n≠0):(k%(n:Int)).toNat < n:=by
 have h1:=Int.emod_nonneg k (show (n:Int)≠0 by omega);have h2:=Int.emod_lt_of_pos k (show (0:Int) < n by omega);omega
theorem pk_at{cl:Nat→Int}{n:Nat}(h2:2≤lg (pkP cl n)){p:Rat×Rat}(hp:p∈pkR cl n):PkP (sqP (pkP cl n)) p.1 p.2:=by
 obtain ⟨⟨M,h⟩,hb,b1⟩:=pkS h2;obtain ⟨o,x⟩:=(pk_rt h2).ok p hp;have hl:=pkP_l cl n;exact ⟨o,x,h.pm,hb,by have:=(lg_dv (pkP_20 cl n) h.z (by omega) h.dv).2;omega,(pkP_dvb (by omega)).dv h.dv,⟨pkP cl n,pkP_20 cl n,fun i=>by have:=pkP_b cl n i;omega,hl,h2,h.dv,Or.inr (pkP_b cl n)⟩⟩
theorem pk_ok(cl:Nat→Int)(n:Nat)(k:Int):PkP (pkC cl n k) (pkL cl n k) (pkH cl n k):=by
 unfold pkC pkL pkH pkA;split
 ·rename_i h
  exact pk_at h.1 (getD_mem' (mod_lt' k h.2))
 ·exact pk_ln k n
theorem aSmall{n d:Int}(hn1: -9223372036854775808≤n)(hn2:n≤9223372036854775807)(hd1: -9223372036854775808≤d:=by omega)(hd2:d≤9223372036854775807:=by omega):ACall Tryz.prog 40 [.one (.v (.int .i64 n)),.one (.v (.int .i64 d))] (.d (.agg (qn 64 (smT n d)))):=by
 exact aN 12 [.cell 4 30] Tryz.func40 rfl<|cR<|mO rfl<|mT<|cR<|mW rfl<|mY (aWithin (v:=n) (n:=61) (by decide) (by decide) hn1 hn2) rfl<|mV hTT (.d (.one (.v (.int .i64 (n%61-30))))) (evi (wr64 (by omega) (by omega)))<|mW rfl<|mY (aWithin (v:=d) (n:=6) (by decide) (by decide) hd1 hd2) rfl<|mV hTT (.d (.one (.v (.int .i64 (1+d%6))))) (evi (wr64 (by omega) (by omega)))<|mY (aROfR (n:=(n%61-30)) (d:=(1+d%6)) (by omega) (by omega) (by omega) (by omega)) rfl<|mZ rfl<|mT<|cRet<|rQ rfl (le_qn (Nat.le_refl _) rfl)
theorem wr_lo(z:Int): -9223372036854775808≤IntKind.i64.wrap z:=by rw [IntKind.wrap_i64];omega
theorem wr_hi(z:Int):IntKind.i64.wrap z≤9223372036854775807:=by rw [IntKind.wrap_i64];omega
theorem app_pw{cl:Nat→Int}{i p:Nat}{B:BS}{w:World}{v:Value}(hp:p < i+1)(hv:LfR B w (appEl i (fun i _=> .v (.int .i64 (pw cl i))) (fun i' j'=>((([.v (.int .i64 (pw cl i))]:List Lf))[i'*1+j']?).getD (.v undef)) p 0) v):LfR B w (.v (.int .i64 (pw cl p))) v:=by
 unfold appEl at hv
 by_cases h:p < i
 ·rw [show Nat.ble (p+1) i=true from Nat.ble_eq_true_of_le h] at hv;exact hv
 ·obtain rfl:p=i:=by omega
  rw [show Nat.ble (p+1) p=false from by rw [← Bool.not_eq_true,Nat.ble_eq];omega,Nat.sub_self] at hv;exact hv
theorem leo_pw{e:TypeId}{cl:Nat→Int}{i:Nat}:AO.le (.row e 1 (i+1) (appEl i (fun i _=> .v (.int .i64 (pw cl i))) (fun i' j'=>((([.v (.int .i64 (pw cl i))]:List Lf))[i'*1+j']?).getD (.v undef)))) (.row e 1 (i+1) (fun i _=> .v (.int .i64 (pw cl i)))):=leo_row fun p hp j hj B w v hv=>by
 obtain rfl:j=0:=by omega
 exact app_pw hp hv
theorem pk_of{cl:Nat→Int}{n:Nat}:AV.le (.d (.one (qrow 64 (dg (rc (pkP cl n)) (min n 5)) (rc (pkP cl n))))) (.d (.one (qrow 1 (lg (pkP cl n)) (rc (pkP cl n))))):=le_dg_t (lg_dg2 (pkP_z cl n) (pkP_20 cl n)) (by decide) (pkP_db cl n)
theorem pk_one{KC:Nat}{cl:Nat→Int}{n:Nat}{k:Int}(h:¬ (2≤lg (pkP cl n)∧(pkR cl n).length≠0)):AV.le (.d (.agg (qac 64 (lnP (smT k n)) KC 64 (smT k n) 64 (smT k n)))) (.d (.agg (qac 4 (pkC cl n k) KC 1200 (pkL cl n k) 1200 (pkH cl n k)))):=by
 have hb:=lnP_db (smT_qb k n);have hq:=smT_qb k n;unfold pkC pkL pkH pkA;rw [if_neg h];refine le_agg (ls_cat (ls_cat (ls_cat (fun B w cs k=>match cs,k with | [v],⟨k,_⟩=>⟨qrow_tight (by decide) (fun i _=>(hb.mono (by decide)) i) B w v k,trivial⟩) (fun _ _ _ h=>h)) (qn_tight (qb_mono hq (by decide)))) (qn_tight (qb_mono hq (by decide))))
theorem pk_two{KC:Nat}{cl:Nat→Int}{n:Nat}{k:Int}(h:2≤lg (pkP cl n)∧(pkR cl n).length≠0):AV.le (.d (.agg (qac 4 (sqP (pkP cl n)) KC 1200 ((pkR cl n).getD (k%((pkR cl n).length:Int)).toNat (0,0)).1 1200 ((pkR cl n).getD (k%((pkR cl n).length:Int)).toNat (0,0)).2))) (.d (.agg (qac 4 (pkC cl n k) KC 1200 (pkL cl n k) 1200 (pkH cl n k)))):=by
 unfold pkC pkL pkH pkA;rw [if_pos h];exact AV.le.rfl
theorem rtD_bd{c:Nat→Int}(h:lg c≤5):rtD c 56 / 32≤83:=by
 unfold rtD sepE;have h1:2*(lg c+lg c)*(56+56+(lg c+lg c)+8)≤2*(5+5)*(56+56+(5+5)+8):=Nat.mul_le_mul (by omega) (by omega);omega
theorem aPick{cl:Nat→Int}{n:Nat}{k:Int}(hn:n≤9223372036854775807)(hk1: -9223372036854775808≤k)(hk2:k≤9223372036854775807):ACall Tryz.prog 15 [.one (irow n cl),.one (.v (.int .i64 k))] (.d (.agg ([.row 4 (lg (pkC cl n k)) (qel 4 (rc (pkC cl n k)))] ++ [exL (ChQ (pkC cl n k) 2916) (fun L=>qlr 2916 L)] ++qn 1200 (pkL cl n k) ++qn 1200 (pkH cl n k)))):=by
 refine aN 56 [.cell 4 32] Tryz.func15 rfl<|cR<|mO rfl<|mT<|cR<|mW rfl<|mT<|cSeq<|cSeq<|AW.wk (wkNil 5 5 3 1 (fun _ _=> .v undef) rfl rfl)<|cReg<|mW rfl<|mT<|cBlock<|cLoop (ι:=Nat) (fun (i:Nat)=>⟨56,[(0,.d (.one (.row 1 n (fun i _=> .v (.int .i64 (cl i)))))),(1,.d (.one (.v (.int .i64 k)))),(4,.ptr 4 0),(5,.own 5),(6,.d (.one (.v (.int .i64 ((i:Nat):Int)))))],[(4,.box 32 ([.v (.slice none 0 0),.v (.slice none 0 0),.v (.slice none 0 0),.v (.bool false),.v (.slice none 0 0),.v (.bool false),.v (.slice none 0 0),.v (.bool false),.v (.slice none 0 0),.v (.bool false)])),(5,.row 3 1 i (fun i _=> .v (.int .i64 (pw cl i))))]⟩) (fun (i:Nat)=>i≤min n 5) (fun (i:Nat)=>min n 5-i) 0 (Nat.zero_le _) (wk rfl ⟨hs rfl,hs rfl,hs rfl,hs rfl,hs' rfl (le_int rfl),trivial⟩ ⟨ho rfl,ho' rfl (leo_row0),trivial⟩ rfl) ?_;rintro i hI;have hi:i≤min n 5:=hI;show AW _ _ _ ⟨_,_,_⟩
 refine cSeq<|cSeq ?_
 by_cases hin:i < n
 ·by_cases hi5:i < 5
  ·refine cReg<|mv3 rfl rfl rfl<|mdT rfl (by omega)<|mv2 rfl rfl<|mdT rfl (by omega)<|mW rfl<|mT<|cT rfl<|cSkip<|tN<|cSeq<|cBlock<|cReg<|mv3 rfl rfl rfl<|mV hTT (.d (.one (.at 1 ((fun i _=> .v (.int .i64 (cl i))) i)))) (ixR (el:=(fun i _=> .v (.int .i64 (cl i)))) (z:=((i:Nat):Int)) (n:=n) rfl rfl rfl rfl rfl rfl (by omega) (by omega)) ?_;exact mv2 rfl rfl<|mY (aWithin (v:=(IntKind.i64.wrap (cl i+6))) (n:=13) (by decide) (by decide) (wr_lo _) (wr_hi _)) rfl<|mV hTT (.d (.one (.v (.int .i64 (pw cl i))))) (evi (wr64 (by omega) (by omega)))<|mB hTT (.d (.one (.row 1 1 (fun i' j'=>(([.v (.int .i64 (pw cl i))])[i'*1+j']?).getD (.v undef))))) rfl<|mA hTT (id:=5) (n:=i) (m:=1) (el:=(fun i _=> .v (.int .i64 (pw cl i)))) (el2:=(fun i' j'=>(([.v (.int .i64 (pw cl i))])[i'*1+j']?).getD (.v undef))) rfl rfl rfl (by show (i+1)*8≤140737488355328;omega) (by omega) rfl rfl rfl rfl rfl rfl rfl rfl rfl rfl<|mW rfl<|mNil<|bN<|tN<|cReg<|mv3 rfl rfl rfl<|mNil<|⟨(i+1),by omega,by omega,wk rfl ⟨hs rfl,hs rfl,hs rfl,hs rfl,hs' rfl (le_int (inc64 (by omega))),trivial⟩ ⟨ho rfl,ho' rfl (leo_pw),trivial⟩ rfl⟩
  ·refine cReg<|mv3 rfl rfl rfl<|mdT rfl (by omega)<|mv2 rfl rfl<|mdF rfl (by omega)<|mW rfl<|mT<|cF rfl<|cExit<|tE<|tE<|bE<|tN<|cSeq ?_;obtain rfl:i=min n 5:=by omega
   refine AW.wk (wkRow 5 rfl)<|cReg<|mW rfl<|mY (aQOf (isi_cut (n:=(min n 5)) (c:=pw cl)) (fun i hi=>by show _≤(if i < min n 5 then pw cl i else 0)∧(if i < min n 5 then pw cl i else 0)≤_;rw [if_pos hi];have:=pkw_bd cl i;omega) (by omega)) rfl<|mW rfl<|mT<|cSeq<|cSeq<|cView 7 (.d (.one (.row 4 (lg (pkP cl n)) (qel 1 (rc (pkP cl n)))))) rfl (pk_of) ?_
   by_cases h2:2≤lg (pkP cl n)
   ·obtain ⟨⟨Ms,hS⟩,hb4,hb56⟩:=pkS h2;have hR:=pk_rt h2;have hsl:=(lg_dv (pkP_20 cl n) hS.z (by omega) hS.dv).2;have hrd:=rtD_bd (c:=sqP (pkP cl n)) (by have:=pkP_l cl n;omega);have hpl:=pkP_l cl n;refine cReg<|mv2 rfl rfl<|mdF rfl (by omega)<|mT<|cFs rfl<|cR<|mW rfl<|mY (aQRoots (K:=1) (M:=4) (KC:=2916) (N:=5) (X:=1200) (h1:=56) (Ms:=Ms) (c:=pkP cl n) (pkP_20 cl n) h2 (by decide) hpl (by decide) (by decide) (pkP_dvb (by omega)) (by decide) (by decide) (by decide) (by decide) hS hb56 (by omega) (by decide)) rfl<|mW rfl<|mT<|cSeq<|cSeq<|cEx (Qx:=fun l=>l=rtF (sqP (pkP cl n)) 56∧l.length≤1000000) (L:=fun l=> .row 10 l.length (elA 4 (sqP (pkP cl n)) 2916 1200 l)) 8 rfl (fun l hl=>?_);obtain ⟨hl1,hrl⟩:=hl;have hl2:l=pkR cl n:=hl1;subst hl2
    by_cases hr0:(pkR cl n).length=0
    ·exact cReg<|mv2 rfl rfl<|mbT rfl (beq_iff_eq.2 (by omega))<|mT<|cT rfl<|cR<|mv3 rfl rfl rfl<|mY (aSmall (n:=k) (d:=(n:Int)) hk1 hk2 (by omega) (by omega)) rfl<|mY (aQRational (X:=64) (KC:=2916) (t:=smT k n) (by decide) (by decide) (by decide)) rfl<|mZ rfl<|mT<|cRet<|tR<|rQ rfl (pk_one (fun h=>h.2 hr0))
    ·refine cReg<|mv2 rfl rfl<|mbF rfl (beq_eq_false_iff_ne.2 (by omega))<|mT<|cFs rfl<|cSeq ?_;have hml:=mod_lt' k hr0;have hm0:0≤k%((pkR cl n).length:Int):=Int.emod_nonneg _ (by omega);refine cReg<|mv4 rfl rfl rfl rfl<|mY (aWithin (v:=k) (n:=(pkR cl n).length) (by omega) hrl hk1 hk2) rfl<|mV hTT (.d (.one (.at 10 ((elA 4 (sqP (pkP cl n)) 2916 1200 (pkR cl n)) (((k%(((pkR cl n).length:Nat):Int))).toNat))))) (ixR (el:=(elA 4 (sqP (pkP cl n)) 2916 1200 (pkR cl n))) (z:=(k%(((pkR cl n).length:Nat):Int))) (n:=((pkR cl n).length)) rfl rfl rfl rfl rfl rfl hm0 (by omega)) ?_;exact mW rfl<|mZ rfl<|mT<|cRet<|rQ rfl (pk_two ⟨h2,hr0⟩)
   ·exact cReg<|mv2 rfl rfl<|mdT rfl (by omega)<|mT<|cT rfl<|cR<|mv3 rfl rfl rfl<|mY (aSmall (n:=k) (d:=(n:Int)) hk1 hk2 (by omega) (by omega)) rfl<|mY (aQRational (X:=64) (KC:=2916) (t:=smT k n) (by decide) (by decide) (by decide)) rfl<|mZ rfl<|mT<|cRet<|tR<|rQ rfl (pk_one (fun h=>h2 h.1))
 ·refine cReg<|mv3 rfl rfl rfl<|mdF rfl (by omega)<|mW rfl<|mG rfl rfl<|mG rfl rfl<|mW rfl<|mT<|cF rfl<|cExit<|tE<|tE<|bE<|tN<|cSeq ?_;obtain rfl:i=min n 5:=by omega
  refine AW.wk (wkRow 5 rfl)<|cReg<|mW rfl<|mY (aQOf (isi_cut (n:=(min n 5)) (c:=pw cl)) (fun i hi=>by show _≤(if i < min n 5 then pw cl i else 0)∧(if i < min n 5 then pw cl i else 0)≤_;rw [if_pos hi];have:=pkw_bd cl i;omega) (by omega)) rfl<|mW rfl<|mT<|cSeq<|cSeq<|cView 7 (.d (.one (.row 4 (lg (pkP cl n)) (qel 1 (rc (pkP cl n)))))) rfl (pk_of) ?_
  by_cases h2:2≤lg (pkP cl n)
  ·obtain ⟨⟨Ms,hS⟩,hb4,hb56⟩:=pkS h2;have hR:=pk_rt h2;have hsl:=(lg_dv (pkP_20 cl n) hS.z (by omega) hS.dv).2;have hrd:=rtD_bd (c:=sqP (pkP cl n)) (by have:=pkP_l cl n;omega);have hpl:=pkP_l cl n;refine cReg<|mv2 rfl rfl<|mdF rfl (by omega)<|mT<|cFs rfl<|cR<|mW rfl<|mY (aQRoots (K:=1) (M:=4) (KC:=2916) (N:=5) (X:=1200) (h1:=56) (Ms:=Ms) (c:=pkP cl n) (pkP_20 cl n) h2 (by decide) hpl (by decide) (by decide) (pkP_dvb (by omega)) (by decide) (by decide) (by decide) (by decide) hS hb56 (by omega) (by decide)) rfl<|mW rfl<|mT<|cSeq<|cSeq<|cEx (Qx:=fun l=>l=rtF (sqP (pkP cl n)) 56∧l.length≤1000000) (L:=fun l=> .row 10 l.length (elA 4 (sqP (pkP cl n)) 2916 1200 l)) 8 rfl (fun l hl=>?_);obtain ⟨hl1,hrl⟩:=hl;have hl2:l=pkR cl n:=hl1;subst hl2
   by_cases hr0:(pkR cl n).length=0
   ·exact cReg<|mv2 rfl rfl<|mbT rfl (beq_iff_eq.2 (by omega))<|mT<|cT rfl<|cR<|mv3 rfl rfl rfl<|mY (aSmall (n:=k) (d:=(n:Int)) hk1 hk2 (by omega) (by omega)) rfl<|mY (aQRational (X:=64) (KC:=2916) (t:=smT k n) (by decide) (by decide) (by decide)) rfl<|mZ rfl<|mT<|cRet<|tR<|rQ rfl (pk_one (fun h=>h.2 hr0))
   ·refine cReg<|mv2 rfl rfl<|mbF rfl (beq_eq_false_iff_ne.2 (by omega))<|mT<|cFs rfl<|cSeq ?_;have hml:=mod_lt' k hr0;have hm0:0≤k%((pkR cl n).length:Int):=Int.emod_nonneg _ (by omega);refine cReg<|mv4 rfl rfl rfl rfl<|mY (aWithin (v:=k) (n:=(pkR cl n).length) (by omega) hrl hk1 hk2) rfl<|mV hTT (.d (.one (.at 10 ((elA 4 (sqP (pkP cl n)) 2916 1200 (pkR cl n)) (((k%(((pkR cl n).length:Nat):Int))).toNat))))) (ixR (el:=(elA 4 (sqP (pkP cl n)) 2916 1200 (pkR cl n))) (z:=(k%(((pkR cl n).length:Nat):Int))) (n:=((pkR cl n).length)) rfl rfl rfl rfl rfl rfl hm0 (by omega)) ?_;exact mW rfl<|mZ rfl<|mT<|cRet<|rQ rfl (pk_two ⟨h2,hr0⟩)
  ·exact cReg<|mv2 rfl rfl<|mdT rfl (by omega)<|mT<|cT rfl<|cR<|mv3 rfl rfl rfl<|mY (aSmall (n:=k) (d:=(n:Int)) hk1 hk2 (by omega) (by omega)) rfl<|mY (aQRational (X:=64) (KC:=2916) (t:=smT k n) (by decide) (by decide) (by decide)) rfl<|mZ rfl<|mT<|cRet<|tR<|rQ rfl (pk_one (fun h=>h2 h.1))
def qd(q:Nat):Nat→Int:=lst [-(q:Int),0,1]
theorem qd_3(q:Nat):∀ i,3≤i→qd q i=0:=fun i hi=>lst_z i hi
theorem qd_z(q:Nat):z20 (qd q):= .of (qd_3 q) (by decide)
theorem qd_lg(q:Nat):lg (qd q)=3:=by
 rw [← lg_dg (qd_3 q) (qd_z q)];exact dg_stop (Or.inr (show (1:Int)≠0 by decide))
theorem qd_F(q:Nat)(x:Rat):FF (qd q) x=x*x-(q:Rat):=by
 rw [← FF_pf (qd_3 q) (qd_z q)];show (((0:Rat)+((-(q:Int):Int):Rat)*x^0)+((0:Int):Rat)*x^1)+((1:Int):Rat)*x^2=_
 rw [Rat.pow_zero,show x^2=x*x from by rw [show (2:Nat)=1+1 from rfl,Rat.pow_succ,pow1],Rat.intCast_neg,show ((0:Int):Rat)=0 from rfl,show ((1:Int):Rat)=1 from rfl,show (((q:Nat):Int):Rat)=(q:Rat) from rfl];grind
theorem qd_F'(q:Nat)(x:Rat):FF (fder (qd q)) x=2*x:=by
 have hz:∀ i,2≤i→fder (qd q) i=0:=fun i hi=>by unfold fder;rw [qd_3 q (i+1) (by omega)];simp
 rw [← FF_pf hz (z20_der (qd_z q))];show ((0:Rat)+((fder (qd q) 0:Int):Rat)*x^0)+((fder (qd q) 1:Int):Rat)*x^1=_
 have e0:fder (qd q) 0=0:=by show (0:Int)*((0+1:Nat):Int)=0;omega
 have e1:fder (qd q) 1=2:=by show (1:Int)*((1+1:Nat):Int)=2;omega
 rw [e0,e1,pow1,show ((0:Int):Rat)=0 from rfl,show ((2:Int):Rat)=2 from rfl];grind
theorem qd_pm(q:Nat):Pm (lg (qd q)) (qd q):=by
 refine ⟨(qd_z q).ip,by rw [qd_lg];decide,?_,?_⟩
 ·rw [qd_lg]
  show Nat.gcd (gcdN (qd q) 2) (qd q 2).natAbs=1
  rw [show (qd q 2).natAbs=1 from rfl];exact Nat.gcd_one_right _
 ·rw [qd_lg];show (0:Int) < 1;decide
section
variable {q:Nat}
theorem qnz(hq:1≤q):(1:Rat)≤(q:Rat):=by exact_mod_cast hq
theorem qd_sqf(hq:1≤q):Sqf (FF (qd q)) (FF (fder (qd q))):=⟨FF_po (qd_z q),FF_po (z20_der (qd_z q)),FF_der (qd_z q),fun _=> -1 / (q:Rat),fun x=>x*(1 / (2*(q:Rat))),po_const _,po_var.scl _,fun x=>by
 have:=qnz hq;rw [qd_F,qd_F'];grind⟩
theorem qd_stm(hq:1≤q):Stm (FF (qd q)) (fun x=>x) [fun _=>1]:=stm_of (d:=2) (fun h hh=>by
  rcases List.mem_cons.1 hh with rfl | hh
  ·exact FF_po (qd_z q)
  ·rcases List.mem_cons.1 hh with rfl | hh
   ·exact po_var
   ·rcases List.mem_cons.1 hh with rfl | hh
    ·exact po_const 1
    ·cases hh) ⟨⟨fun x=>x,(q:Rat),po_var,by have:=qnz hq;grind,fun x=>by rw [qd_F];grind⟩,1,by decide,fun _=>rfl⟩ (FF_der (qd_z q)) (by decide) (qd_F' q)
theorem qd_ctd(hq:1≤q){lo hi:Rat}(hab:lo≤hi){N:Nat}(h:Vr (FF (qd q)) (fun x=>x) [fun _=>1] lo=Vr (FF (qd q)) (fun x=>x) [fun _=>1] hi+N):Ctd (FF (qd q)) lo hi N:=by
 obtain ⟨M,hM⟩:=sturm (qd_stm hq) hab;have h1:=hM.v;obtain rfl:N=M:=by omega
 exact ⟨_,_,qd_stm hq,hM⟩
theorem qv(x:Rat){a b:Int}(h1:sgq (FF (qd q) x)=a)(h2:sgq x=b):Vr (FF (qd q)) (fun x=>x) [fun _=>1] x=vr [a,b,1]:=by
 have e:sgs (FF (qd q) ::(fun x=>x) :: [fun _=>1]) x= [sgq (FF (qd q) x),sgq x,sgq 1]:=rfl;show vr (sgs (FF (qd q) ::(fun x=>x) :: [fun _=>1]) x)=_
 rw [e,h1,h2];rfl
theorem qv0{x:Rat}(h:0 < x)(k:(q:Rat) < x*x):Vr (FF (qd q)) (fun x=>x) [fun _=>1] x=0:=by rw [qv x (sgq_pos (by rw [qd_F];grind)) (sgq_pos h)];decide
theorem qv1{x:Rat}(h:0 < x)(k:x*x < (q:Rat)):Vr (FF (qd q)) (fun x=>x) [fun _=>1] x=1:=by rw [qv x (sgq_neg (by rw [qd_F];grind)) (sgq_pos h)];decide
theorem qv2{x:Rat}(h:x < 0)(k:(q:Rat) < x*x):Vr (FF (qd q)) (fun x=>x) [fun _=>1] x=2:=by rw [qv x (sgq_pos (by rw [qd_F];grind)) (sgq_neg h)];decide
theorem qv3{x:Rat}(h:x < 0)(k:x*x < (q:Rat)):Vr (FF (qd q)) (fun x=>x) [fun _=>1] x=1:=by rw [qv x (sgq_neg (by rw [qd_F];grind)) (sgq_neg h)];decide
theorem qd_bd(q:Nat):bdQ (qd q)=1+(q:Rat):=by
 unfold bdQ;rw [qd_lg];have e1:mxA (qd q) (3-1)=q:=by
  show max (max 0 (qd q 0).natAbs) (qd q 1).natAbs=q
  rw [show (qd q 1).natAbs=0 from rfl,show (qd q 0).natAbs=(-(q:Int)).natAbs from rfl];omega
 rw [e1,show ((qd q (3-1)).natAbs:Rat)=1 from rfl];grind
theorem qd_two(hq:1≤q):cntC (qd q) (-(bdQ (qd q))) (bdQ (qd q))=2:=by
 have h1:=qnz hq;have h2:=Rat.mul_nonneg (show (0:Rat)≤q by grind) (show (0:Rat)≤q by grind);rw [qd_bd];refine cntC_eq (qd_z q) (by grind) (qd_ctd hq (by grind) ?_);rw [qv0 (x:=1+(q:Rat)) (by grind) (by grind),qv2 (x:= -(1+(q:Rat))) (by grind) (by grind)]
theorem qd_self(hq:1≤q):∃ M,SqP (qd q) M (qd q):=by
 obtain ⟨M,_,hM⟩:=ex_lb (qd_z q);exact ⟨M,sq_self (qd_z q) hM (qd_pm q) (qd_sqf hq)⟩
theorem qd_sqE(hq:1≤q):sqP (qd q)=qd q:=let ⟨_,h⟩:=qd_self hq;h.eq.symm
end
/-! ### The example -/
def c2:Nat→Int:=lst [-2,0,1]
theorem c2_pk:pkP c2 3=qd 2:=funext fun i=>by
 match i with
 | 0=>decide
 | 1=>decide
 | 2=>decide
 | i+3=>rw [pkP_z c2 3 (i+3) (by omega),qd_3 2 (i+3) (by omega)]
theorem wk_okI{a b:Rat}(h:Ctd (FF (qd 2)) a b 1)(hlt:a < b):OkI (FF (qd 2)) (FF (fder (qd 2))) a b:=⟨qd_sqf (by decide),hlt,h⟩
theorem wk_pk:cmpC (cutA (pkC c2 3 1) (pkL c2 3 1) (pkH c2 3 1)) (cutP 1)=1∧sgC (FF (qd 2)) (cutA (pkC c2 3 1) (pkL c2 3 1) (pkH c2 3 1))=0:=by
 have h2:2≤lg (pkP c2 3):=by rw [c2_pk,qd_lg];decide
 have hR:=pk_rt h2;have hs:sqP (pkP c2 3)=qd 2:=by rw [c2_pk];exact qd_sqE (by decide)
 rw [hs] at hR;have hlen:(pkR c2 3).length=2:=by rw [hR.len];exact qd_two (by decide)
 have two:((2:Nat):Rat)=2:=rfl;have k0:Ctd (FF (qd 2)) 1 2 1:=qd_ctd (by decide) (by decide) (by rw [qv1 (x:=1) (by decide) (by rw [two];grind),qv0 (x:=2) (by decide) (by rw [two];grind)]);have k1:Ctd (FF (qd 2)) (-2) (-1) 1:=qd_ctd (by decide) (by decide) (by rw [qv2 (x:= -2) (by decide) (by rw [two];grind),qv3 (x:= -1) (by decide) (by rw [two];grind)]);have o0:=okV_I (qd_z 2) (wk_okI k0 (by decide));have o1:=okV_I (qd_z 2) (wk_okI k1 (by decide));have C0:=o0.ok.cut;have C1:=o1.ok.cut;obtain ⟨x0,m0,e0⟩:=hR.all _ C0 o0.vc;obtain ⟨x1,m1,e1⟩:=hR.all _ C1 o1.vc;have a0:cutA (qd 2) 1 2 (-1):=o0.ok.below (by decide);have a1:¬ cutA (qd 2) (-2) (-1) (-1):=o1.ok.above (by grind);have hr:=hR.rise
 match hl:pkR c2 3,hlen with
 | [y0,y1],_=>
  rw [hl] at m0 m1 hr;have hr2:cmpC (cutA (qd 2) y0.1 y0.2) (cutA (qd 2) y1.1 y1.2)= -1:=by
   have:=(List.pairwise_cons.1 hr).1 y1 (by simp);exact this
  have hx:x0=y1:=by
   rcases List.mem_cons.1 m0 with h | h
   ·exfalso
    subst h;have hx1:x1=y1∨x1=x0:=by
     rcases List.mem_cons.1 m1 with k | k
     ·exact Or.inr k
     ·exact Or.inl (by simpa using k)
    rcases hx1 with k | k
    ·subst k
     rw [cmpC_congr e0 e1] at hr2;have:=cmpC_gt C0 C1 a0 a1;omega
    ·subst k
     exact a1 ((e1 _).1 ((e0 _).2 a0))
   ·simpa using h
  subst hx;have hp:pkA c2 3 1=(qd 2,x0.1,x0.2):=by
   unfold pkA;rw [if_pos ⟨h2,by rw [hl];show 2≠0;decide⟩,hs,hl];rfl
  have eC:pkC c2 3 1=qd 2:=by unfold pkC;rw [hp]
  have eL:pkL c2 3 1=x0.1:=by unfold pkL;rw [hp]
  have eH:pkH c2 3 1=x0.2:=by unfold pkH;rw [hp]
  rw [eC,eL,eH];refine ⟨?_,?_⟩
  ·have b0:cutA (qd 2) 1 2 1:=by rw [cutA_I (by decide)];exact Or.inl (by grind)
   rw [cmpC_congr e0 (fun _=>Iff.rfl)];exact cmpC_P1 C0 b0
  ·exact sgC_zero (o0.vc.cut e0)
theorem wk_of:AV.le (.d (.one (prow 2 (dg (lst [-2,0,1]) 3) (lst [-2,0,1])))) (.d (.one (prow 4 (lg (qd 2)) (qd 2)))):=le_prow (by decide) (by rw [qd_lg];decide) (fun _ _=>rfl)
theorem aWakes10:ACall Tryz.prog 22 [] (.d (.one (.v (.bool true)))):=by
 exact aN 18 [.tmp 0] Tryz.func22 rfl<|cR<|mW rfl<|mT<|cR<|mB hTT (.d (.one (.row 1 3 (fun i' j'=>(([.v (.int .i64 (-2)),.v (.int .i64 0),.v (.int .i64 1)])[i'*1+j']?).getD (.v undef))))) rfl<|mY (ACall.le (dl (dle (le_one (isi_lit (l:= [-2,0,1]) (n:=3) rfl (fun i hi=>match i,hi with | 0,_=>rfl | 1,_=>rfl | 2,_=>rfl)).1)) (dl DV.same dl0)) AV.le.rfl (aPick (cl:=c2) (n:=3) (k:=1) (by decide) (by decide) (by decide))) rfl<|mO rfl<|mZ rfl<|mT<|cSeq<|cDk 15<|.cons (OpS.B _ rfl)<|oC (ACall.le (dl DV.same dl0) wk_of (aPOf (isi_lit (l:= [-2,0,1]) (n:=3) rfl (fun i hi=>match i,hi with | 0,_=>rfl | 1,_=>rfl | 2,_=>rfl)) (fun i hi=>match i,hi with | 0,_=>by decide | 1,_=>by decide | 2,_=>by decide))) rfl<|oV rfl<|oC (aQToA ((pk_ok c2 3 1).v.ok.z)) rfl<|oC (aASign (X:=20000) (KC:=50000) (N:=5) (qd_z 2) (pk_ok c2 3 1).v (by decide) (pk_ok c2 3 1).l5 (by rw [qd_lg];decide) (by decide) (by decide) (by decide) (by decide) (by decide)) rfl<|oT rfl (by rw [wk_pk.2];rfl)<|.cons (OpS.V _ rfl)<|oV rfl<|oC (aQToA ((pk_ok c2 3 1).v.ok.z)) rfl<|oC aROfI rfl<|oC (aRToR (isq 64 ((1:Int):Rat))) rfl<|oC (aCmpRat (pk_ok c2 3 1).v.ok) rfl<|oT rfl (by show (cmpC _ (cutP 1)==1)=true;rw [wk_pk.1];rfl)<|.cons (OpS.V _ rfl)<|.cons (OpS.V _ rfl)<|.nil<|mT<|cRet<|rQ rfl (AV.le.rfl)
section
open Go.RowKit Go.ChangeShapes Go.WideShapes
section
variable {H:Type} {enc:TypeId×Value→H} {P:Program} {w:World}
theorem am_i64N{t e:TypeId}{fuel:Nat}{cs:List Value}{x:DataW H×List MemPlace}(ht:P.underlying t=some (.slice e))(he:P.underlying e=some (.int .i64))(hc:P.cellsOf e=1) 
  (h:DataW.trod enc P w 0 (fun _=>true) true fuel t cs=some x):∃ v n c,cs= [v]∧LfR nb w (irow n c) v∧n≤9223372036854775807∧∀ i,i < n→-9223372036854775808≤c i∧c i≤9223372036854775807:=by
 rcases open_ints ht he hc h with ⟨rfl,_⟩ | ⟨a,l,c,zs,rfl,_,hl,hm,hz,_,hcell,hwz⟩
 ·exact ⟨_,0,fun _=>0,rfl,⟨none,0,rfl,Nat.le_refl _,fun _=>rfl,fun i hi=>absurd hi (Nat.not_lt_zero _)⟩,Nat.zero_le _,fun i hi=>absurd hi (Nat.not_lt_zero _)⟩
 ·have hz':zs.length=c:=by simpa using hz
  have hmx:maxLen=9223372036854775807:=by decide
  refine ⟨_,l,fun i=>zs.getD i 0,rfl,⟨some a,c,rfl,hl,(fun e=>nomatch e),fun i hi=>?_⟩,by omega,fun i hi=>?_⟩
  ·have h0:=hcell 0 (by omega)
   obtain ⟨b,off,rfl⟩:=plain_of_cell h0;have h1:=hcell i (by omega);rw [add_plain] at h1;refine ⟨b,off,rfl,fun h=>h.elim,World.block_lt_of_cell? w _ h1,fun q hq=>?_⟩;obtain rfl:q=0:=by omega
   exact ⟨_,by rw [Nat.mul_one,Nat.add_zero];exact h1,rfl,rfl⟩
  ·have hi':i < zs.length:=by omega
   show _≤zs.getD i 0∧zs.getD i 0≤_
   rw [List.getD_eq_getElem?_getD,List.getElem?_eq_getElem hi'];exact wf_int (hwz _ (List.getElem_mem hi'))
theorem am_i64sN{r:Reach}{b0:Nat}{d:DataW H}{p:List MemPlace}{v:Value}{t e:TypeId}(ht:P.underlying t=some (.slice e))(he:P.underlying e=some (.int .i64))(hc:P.cellsOf e=1) 
  (hv:Value.okWide P w r b0 t v) (h:DataW.Trod enc P w 0 (fun _=>true) true t v d p):∃ n c,LfR nb w (irow n c) v∧n≤9223372036854775807∧∀ i,i < n→-9223372036854775808≤c i∧c i≤9223372036854775807:=by
 obtain ⟨a,len,cap,rfl⟩:=okWide_slice ht hv;obtain ⟨fuel,hf⟩:=h;rw [slice_cells] at hf;obtain ⟨v',n,c,e1,h2⟩:=am_i64N ht he hc hf;obtain rfl:=(List.cons.inj e1).1;exact ⟨n,c,h2⟩
end
theorem pk_G{c d:Nat→Int}(h1:lg c≤5)(h2:lg d≤5):(4+1)*(max (lg d+2-lg c) 1*3^lg c)≤8505:=by
 have h3:3^lg c≤3^5:=Nat.pow_le_pow_right (by decide) h1;have h4:max (lg d+2-lg c) 1*3^lg c≤7*3^5:=Nat.mul_le_mul (by omega) h3;exact Nat.mul_le_mul_left 5 h4
end
section
variable {s:AS}
theorem f_qa{K KC X Y:Nat}{c:Nat→Int}{lo hi:Rat}(t:Nat)(h:lk s.sl t=some (.d (.agg ([qrow K (lg c) (rc c)] ++ [exL (ChQ c KC) (fun L=>qlr KC L)] ++qn X lo ++qn Y hi))))(z:z20 c):∀ B0 w0 a w,Den s B0 w0 a w→Db K c∧Qb X lo∧Qb Y hi:=by
 rintro B0 w0 a w ⟨ρ,hc,hn,hdf,hs⟩;obtain ⟨v,_,cs,_,hl⟩:=hs t _ h;exact qa_bd z hl
end
theorem q6{q:Rat}(h:Qb 1200 q):Tb 600 q:=Qb.tb (K:=600) h (by decide)
theorem al_600{c:Nat→Int}{lo hi:Rat}(hb:Db 4 c)(h1:Qb 1200 lo)(h2:Qb 1200 hi):AV.le (.d (.agg (alc 4 c 1200 lo 1200 hi))) (.d (.agg (alc 4 c 600 lo 600 hi))):=al_tight hb.lb1 (q6 h1) (q6 h2)
def nrm(c:Nat→Int):Nat→Nat
 | 0=>0
 | n+1=>nrm c n+(c n).natAbs
theorem nrm_get{c:Nat→Int}{i:Nat}:∀ {n:Nat},i < n→(c i).natAbs≤nrm c n
 | n+1,h=>by
  show _≤nrm c n+(c n).natAbs
  by_cases e:i=n
  ·subst e;omega
  ·have:=nrm_get (c:=c) (i:=i) (n:=n) (by omega);omega
theorem nrm_ext{a b:Nat→Int}:∀ {n:Nat},(∀ i,i < n→a i=b i)→nrm a n=nrm b n
 | 0,_=>rfl
 | n+1,h=>by
  show nrm a n+(a n).natAbs=nrm b n+(b n).natAbs
  rw [nrm_ext (n:=n) (fun i hi=>h i (by omega)),h n (by omega)]
theorem nrm_mono{c:Nat→Int}{n:Nat}:∀ {m:Nat},n≤m→nrm c n≤nrm c m
  | 0, h => by obtain rfl : n = 0 := by omega
               exact Nat.le_refl _
  | m+1,h=>by
    by_cases e:n=m+1
    · subst e;exact Nat.le_refl _
    · have h1:=nrm_mono (c:=c) (n:=n) (m:=m) (by omega)
      show _≤nrm c m+(c m).natAbs
      omega
theorem nrm_z{c:Nat→Int}{n:Nat}(h:∀ i,n≤i→c i=0):∀ k,nrm c (n+k)=nrm c n
 | 0=>rfl
 | k+1=>by
  show nrm c (n+k)+(c (n+k)).natAbs=_
  rw [nrm_z h k,h (n+k) (by omega)];rfl
theorem nrm_add(a b:Nat→Int):∀ n,nrm (fun i=>a i+b i) n≤nrm a n+nrm b n
 | 0=>Nat.le_refl _
 | n+1=>by
  have h1:=nrm_add a b n;have h2:=Int.natAbs_add_le (a n) (b n);show nrm (fun i=>a i+b i) n+(a n+b n).natAbs≤(nrm a n+(a n).natAbs)+(nrm b n+(b n).natAbs)
  omega
theorem nrm_sh(x:Int)(b:Nat→Int)(m:Nat):∀ n,nrm (fun j=>if m≤j then x*b (j-m) else 0) n=x.natAbs*nrm b (n-m)
 | 0=>by rw [Nat.zero_sub];show 0=x.natAbs*0;rw [Nat.mul_zero]
 | n+1=>by
  have h1:=nrm_sh x b m n;show nrm (fun j=>if m≤j then x*b (j-m) else 0) n+(if m≤n then x*b (n-m) else 0).natAbs=_
  rw [h1]
  by_cases h:m≤n
  ·rw [if_pos h,Int.natAbs_mul,show n+1-m=(n-m)+1 by omega]
   show _=x.natAbs*(nrm b (n-m)+(b (n-m)).natAbs)
   rw [Nat.mul_add]
  ·rw [if_neg h,show n+1-m=0 by omega,show n-m=0 by omega];rfl
theorem nrm_cv(a b:Nat→Int)(n:Nat):∀ m,nrm (cv a b m) n≤nrm a m*nrm b n
 | 0=>by
  have h:nrm (cv a b 0) n=0:=by
   have h1:=nrm_z (c:=cv a b 0) (n:=0) (fun i _=>rfl) n;rw [Nat.zero_add] at h1;rw [h1];rfl
  rw [h];exact Nat.zero_le _
 | m+1=>by
  have h1:=nrm_cv a b n m;have h2:nrm (cv a b (m+1)) n≤nrm (cv a b m) n+nrm (fun j=>if m≤j then a m*b (j-m) else 0) n:=nrm_add (cv a b m) (fun j=>if m≤j then a m*b (j-m) else 0) n;rw [nrm_sh (a m) b m n] at h2;have h3:(a m).natAbs*nrm b (n-m)≤(a m).natAbs*nrm b n:=Nat.mul_le_mul_left _ (nrm_mono (by omega));show _≤(nrm a m+(a m).natAbs)*nrm b n
  rw [Nat.add_mul];omega
theorem cv_mre(a b:Nat→Int)(j:Nat):∀ d,cv a b (j+1+d) j=cv a b (j+1) j
 | 0=>rfl
 | d+1=>by
  show cv a b (j+1+d) j+(if j+1+d≤j then a (j+1+d)*b (j-(j+1+d)) else 0)=_
  rw [if_neg (by omega),cv_mre a b j d];simp
theorem nrm_conv(a b:Nat→Int):nrm (conv a b) 20≤nrm a 20*nrm b 20:=by
 have h:nrm (conv a b) 20=nrm (cv a b 20) 20:=nrm_ext fun j hj=>by
  have h1:=cv_mre a b j (19-j);rw [show j+1+(19-j)=20 by omega] at h1;rw [h1];rfl
 rw [h];exact nrm_cv a b 20 20
theorem lg_conv{a b:Nat→Int}(za:z20 a)(zb:z20 b)(ha:lg a≠0)(hb:lg b≠0)(h:lg a+lg b≤21):z20 (conv a b)∧lg (conv a b)=lg a+lg b-1:=by
 have hz:∀ i,lg a+lg b-1≤i→conv a b i=0:=fun i hi=>conv_beyond za.lg zb.lg (by omega)
 have z:z20 (conv a b):=z20.of hz (by omega);have ht:=conv_top za.lg zb.lg ha hb;have h1:=lg_of_z z hz;refine ⟨z,?_⟩;apply Classical.byContradiction;intro hn;rw [z.lg (lg a+lg b-2) (by omega)] at ht;rcases Int.mul_eq_zero.1 ht.symm with h2 | h2
 ·exact lg_ne ha h2
 ·exact lg_ne hb h2
structure MdI(p:Nat→Int):Prop where
 z:z20 p
 l:1≤lg p
 n:nrm p 20≤9^(lg p-1)
theorem MdI.mul{p q:Nat→Int}(h:MdI p)(k:MdI q)(hl:lg p+lg q≤21):MdI (conv p q)∧lg (conv p q)=lg p+lg q-1:=by
 have h1:=h.l;have h2:=k.l;obtain ⟨z,e⟩:=lg_conv h.z k.z (by omega) (by omega) hl;refine ⟨⟨z,by omega,?_⟩,e⟩;rw [e,show lg p+lg q-1-1=(lg p-1)+(lg q-1) by omega,Nat.pow_add];exact Nat.le_trans (nrm_conv p q) (Nat.mul_le_mul h.n k.n)
theorem md_one:MdI (onez 1)∧lg (onez 1)=1:=⟨⟨onez20,by decide,by decide⟩,by decide⟩
theorem lg_at{c:Nat→Int}{n:Nat}(hz:∀ i,n+1≤i→c i=0)(hn:n < 20)(h:c n≠0):z20 c∧lg c=n+1:=by
 have z:z20 c:=z20.of hz (by omega);have h1:=lg_of_z z hz;refine ⟨z,?_⟩;apply Classical.byContradiction;intro hne;exact h (z.lg n (by omega))
theorem md_lin{x y:Int}(hx:x.natAbs≤4)(hy1:1≤y)(hy:y≤5):MdI (lin x y)∧lg (lin x y)=2:=by
 have hz:∀ i,2≤i→lin x y i=0:=fun i hi=>by unfold lin;rw [if_neg (by omega),if_neg (by omega)]
 obtain ⟨z,e⟩:=lg_at (n:=1) hz (by decide) (show y≠0 by omega);refine ⟨⟨z,by omega,?_⟩,e⟩;have h1:=nrm_z hz 18;have h2:nrm (lin x y) 2=0+x.natAbs+y.natAbs:=rfl;rw [e,h1,h2];show _≤9
 omega
def qud(x y z:Int):Nat→Int:=fun i=>if i=0 then x else if i=1 then y else if i=2 then z else 0
theorem md_qud{x y z:Int}(hx:x.natAbs≤4)(hy:y.natAbs≤1)(hz1:1≤z)(hz5:z≤5):MdI (qud x y z)∧lg (qud x y z)=3:=by
 have hz:∀ i,3≤i→qud x y z i=0:=fun i hi=>by unfold qud;rw [if_neg (by omega),if_neg (by omega),if_neg (by omega)]
 obtain ⟨hzz,e⟩:=lg_at (n:=2) hz (by decide) (show z≠0 by omega);refine ⟨⟨hzz,by omega,?_⟩,e⟩;have h1:=nrm_z hz 17;have h2:nrm (qud x y z) 3=0+x.natAbs+y.natAbs+z.natAbs:=rfl;rw [e,h1,h2];show _≤81
 omega
def pwE(f:Nat→Int):Nat→Nat→Int
 | 0=>onez 1
 | e+1=>conv (pwE f e) f
theorem MdI.pw{f:Nat→Int}(h:MdI f)(h3:lg f≤3):∀ e,e≤3→MdI (pwE f e)∧lg (pwE f e)=e*(lg f-1)+1
 | 0,_=>⟨md_one.1,by rw [Nat.zero_mul];exact md_one.2⟩
 | e+1,he=>by
  obtain ⟨i1,i2⟩:=h.pw h3 e (by omega);have h1:=h.l;have h4:e*(lg f-1)≤2*2:=Nat.mul_le_mul (by omega) (by omega);obtain ⟨j1,j2⟩:=i1.mul h (by omega);refine ⟨j1,?_⟩;show lg (conv (pwE f e) f)=_
  rw [j2,i2,Nat.succ_mul];omega
theorem MdI.get{p:Nat→Int}(h:MdI p)(i:Nat):(p i).natAbs≤9^(lg p-1):=by
 by_cases hi:i < 20
 ·exact Nat.le_trans (nrm_get hi) h.n
 ·rw [h.z i (by omega)];exact Nat.zero_le _
theorem MdI.db{p:Nat→Int}(h:MdI p)(hl:lg p≤8):Db 2 p:=fun i=>Nat.lt_of_le_of_lt (h.get i) (Nat.lt_of_le_of_lt (Nat.pow_le_pow_right (by decide) (show lg p-1≤7 by omega)) (by decide))
structure MdP(t:Nat)(p:Nat→Int):Prop where
 z:z20 p
 l:1≤lg p
 d:lg p≤t+1
 b:∀ i,(p i).natAbs≤3*9^t
theorem MdI.fin{p:Nat→Int}{t:Nat}(h:MdI p)(ht:lg p≤t+1):MdP t p:=⟨h.z,h.l,ht,fun i=>by
 have h1:=h.get i;have h2:9^(lg p-1)≤9^t:=Nat.pow_le_pow_right (by decide) (by omega);omega⟩
theorem MdI.neg3{p:Nat→Int}{t:Nat}(h:MdI p)(ht:lg p≤t+1):MdP t (fun i=>p i* -3)∧lg (fun i=>p i* -3)=lg p:=by
 have h0:=h.l;have hl:=lg_le p;obtain ⟨z,e⟩:=lg_at (c:=fun i=>p i* -3) (n:=lg p-1) (fun i hi=>by show p i* -3=0;rw [h.z.lg i (by omega)];rfl) (by omega) (fun k=>lg_ne (c:=p) (by omega) (by have k':p (lg p-1)* -3=0:=k;omega));refine ⟨⟨z,by omega,by omega,fun i=>?_⟩,by omega⟩;show (p i* -3).natAbs≤_
 rw [Int.natAbs_mul];have h1:=h.get i;have h2:9^(lg p-1)≤9^t:=Nat.pow_le_pow_right (by decide) (by omega);have h3:(-3:Int).natAbs=3:=rfl;rw [h3];omega
theorem sgC_m1{C:Cut}(hC:IsCut C):sgC (fun _=>(-1:Rat)) C= -1:=by
 obtain ⟨q,h1⟩:=hC.lo;obtain ⟨r,h2⟩:=hC.hi;exact sgC_eq hC ⟨1,q,r,by decide,h1,h2,fun t _ _=>⟨Or.inr (show (-1:Rat)≤-1 by grind),sgq_neg (show (-1:Rat) < 0 by decide)⟩⟩
theorem sgC_conv{C:Cut}(hC:IsCut C){a b:Nat→Int}(za:z20 a)(zb:z20 b)(h:lg a+lg b≤20):sgC (FF (conv a b)) C=sgC (FF a) C*sgC (FF b) C:=by
 rw [← sgC_mul hC (FF_po za) (FF_po zb)];congr 1;exact funext fun x=>FF_conv za.lg zb.lg h za zb x
theorem MdP.n0{t:Nat}{p:Nat→Int}(h:MdP t p):lg p≠0:=by have:=h.l;omega
theorem cv_get{a b:Nat→Int}{H M:Nat}(ha:∀ i,(a i).natAbs≤H)(hb:∀ i,(b i).natAbs≤M)(j:Nat):∀ m,(cv a b m j).natAbs≤m*(H*M)
 | 0=>Nat.zero_le _
 | m+1=>by
  have h1:=cv_get ha hb j m;have h2:(if m≤j then a m*b (j-m) else 0).natAbs≤H*M:=by
   split
   ·rw [Int.natAbs_mul];exact Nat.mul_le_mul (ha m) (hb _)
   ·exact Nat.zero_le _
  have h3:=Int.natAbs_add_le (cv a b m j) (if m≤j then a m*b (j-m) else 0);rw [Nat.succ_mul];show (cv a b m j+(if m≤j then a m*b (j-m) else 0)).natAbs≤_
  omega
theorem conv_get{a b:Nat→Int}{H M:Nat}(z:z20 (conv a b))(ha:∀ i,(a i).natAbs≤H)(hb:∀ i,(b i).natAbs≤M)(j:Nat):(conv a b j).natAbs≤20*(H*M):=by
 by_cases hj:j < 20
 ·exact Nat.le_trans (cv_get ha hb j (j+1)) (Nat.mul_le_mul_right _ (by omega))
 ·rw [z j (by omega)];exact Nat.zero_le _
theorem aQPow{f:Nat→Int}{e:Nat}(hf:MdI f)(h3:lg f≤3)(he:e≤3):ACall Tryz.prog 53 [.one (qrow 2 (lg f) (rc f)),.one (.v (.int .i64 ((e:Nat):Int)))] (.d (.one (qrow 2 (lg (pwE f e)) (rc (pwE f e))))):=by
 have hlf:=lg_le f;refine aN 18 [.tmp 4] Tryz.func53 rfl<|cR<|mW rfl<|mT<|cR<|mB hTT (.d (.one (.row 1 1 (fun i' j'=>(([.v (.int .i64 1)])[i'*1+j']?).getD (.v undef))))) rfl<|mY (aQOf (isi_lit (l:= [1]) (n:=1) rfl (fun i hi=>match i,hi with | 0,_=>rfl))) rfl<|mW rfl<|mT<|cSeq<|cSeq<|cView 5 (.d (.one (.row 4 (lg (onez 1)) (qel 2 (rc (onez 1)))))) rfl (of1_le (by decide))<|cReg<|mW rfl<|mT<|cBlock<|cLoop (ι:=Nat) (fun (i:Nat)=>⟨18,[(0,.d (.one (.row 4 (lg f) (qel 2 (rc f))))),(1,.d (.one (.v (.int .i64 ((e:Nat):Int))))),(5,.d (.one (.row 4 (lg (pwE f i)) (qel 2 (rc (pwE f i)))))),(6,.d (.one (.v (.int .i64 ((i:Nat):Int)))))],[]⟩) (fun (i:Nat)=>i≤e) (fun (i:Nat)=>e-i) 0 (Nat.zero_le _) (wk rfl ⟨hs rfl,hs rfl,hs rfl,hs' rfl (le_int rfl),trivial⟩ trivial rfl) ?_;rintro i hI;have hi:i≤e:=hI;show AW _ _ _ ⟨_,_,_⟩
 refine cSeq<|cR<|mv3 rfl rfl rfl<|mT<|cCond rfl (fun hc1=>?_) (fun hc1=>?_)
 ·refine cSkip<|tN<|cSeq<|cBlock ?_;have hin:i < e:=by have h0:=of_decide_eq_true hc1;omega
  obtain ⟨i1,i2⟩:=hf.pw h3 i (by omega);obtain ⟨j1,j2⟩:=hf.pw h3 (i+1) (by omega);have hpl:=lg_le (pwE f i);have hm4:(i+1)*(lg f-1)≤3*2:=Nat.mul_le_mul (by omega) (by omega);exact cReg<|mv2 rfl rfl<|mY (aQMul (isqp (K:=2) (c:=(rc (pwE f i))) (rc_z ((hf.pw h3 i (by omega)).1.z).lg)) (isqp (K:=2) (c:=(rc f)) (rc_z (hf.z).lg)) (M:=((20+1)*(2+2+66))) (D:=20)) rfl<|mW rfl<|mNil<|bN<|tN<|cReg<|mv3 rfl rfl rfl<|mNil<|⟨(i+1),(by show i+1≤e;omega),by show e-(i+1) < e-i;omega,wk rfl ⟨hs rfl,hs rfl,hs' rfl (cv_le j1.z (fun t ht=>conv_z0 i1.z.lg hf.z.lg t ht) (by decide) (j1.db (by omega))),hs' rfl (le_int (inc64 (by omega))),trivial⟩ trivial rfl⟩
 ·refine cExit<|tE<|tE<|bE<|tN<|cSeq ?_;obtain rfl:i=e:=by have h0:=of_decide_eq_false hc1;omega
  exact cReg<|mv2 rfl rfl<|mT<|cRet<|rQ rfl (AV.le.rfl)
theorem qud_z(x y z:Int):∀ i,3≤i→qud x y z i=0:=fun i hi=>by unfold qud;rw [if_neg (by omega),if_neg (by omega),if_neg (by omega)]
theorem isi_two(x y:Int):IsI (.row 1 2 (fun i' j'=>(([.v (.int .i64 x),.v (.int .i64 y)]:List Lf)[i'*1+j']?).getD (.v undef))) 2 (lin x y):=by
 refine ⟨row_le fun i hi j hj B w v hv=>?_,lin_z⟩;obtain rfl:j=0:=by omega
 match i,hi,hv with
 | 0,_,hv=>exact hv
 | 1,_,hv=>exact hv
theorem isi_three(x y z:Int):IsI (.row 1 3 (fun i' j'=>(([.v (.int .i64 x),.v (.int .i64 y),.v (.int .i64 z)]:List Lf)[i'*1+j']?).getD (.v undef))) 3 (qud x y z):=by
 refine ⟨row_le fun i hi j hj B w v hv=>?_,qud_z x y z⟩;obtain rfl:j=0:=by omega
 match i,hi,hv with
 | 0,_,hv=>exact hv
 | 1,_,hv=>exact hv
 | 2,_,hv=>exact hv
theorem lin_bd{x y:Int}(hx:x.natAbs≤4)(hy:y.natAbs≤5):∀ i,i < 2→-9223372036854775808≤lin x y i∧lin x y i≤9223372036854775807:=fun i hi=>by unfold lin;split;omega;split <;> omega
theorem qud_bd{x y z:Int}(hx:x.natAbs≤4)(hy:y.natAbs≤1)(hz:z.natAbs≤5):∀ i,i < 3→-9223372036854775808≤qud x y z i∧qud x y z i≤9223372036854775807:=fun i hi=>by unfold qud;split;omega;split;omega;split <;> omega
theorem of_md{c:Nat→Int}{n:Nat}(h:MdI c)(hz:∀ i,n≤i→c i=0)(hl:lg c≤8):AV.le (.d (.one (qrow 64 (dg (rc c) n) (rc c)))) (.d (.one (qrow 2 (lg c) (rc c)))):=le_dg_t (lg_dg2 hz h.z) (by decide) (h.db hl)
theorem ng9(z:Int):IntKind.i64.wrap (0-(z%9-4))= -(z%9-4):=(wr64 (by omega) (by omega)).trans (by omega)
theorem md3:dg (rc (lst [-3])) 1=1:=by decide +kernel
theorem ng3_le{K:Nat}{p:Nat→Int}{t:Nat}(ht:t≤4)(h:MdI p)(hl:lg p≤t+1):AV.le (.d (.one (qrow K (dg (fsclQ (rc p) (rc (lst [-3]) 0)) (lg p)) (fsclQ (rc p) (rc (lst [-3]) 0))))) (.d (.one (qrow 2 (lg (fun i=>p i* -3)) (rc (fun i=>p i* -3))))):=by
 have e:fsclQ (rc p) (rc (lst [-3]) 0)=rc (fun i=>p i* -3):=funext fun i=>by
  show (p i:Rat)*((-3:Int):Rat)=((p i* -3:Int):Rat)
  rw [Rat.intCast_mul]
 rw [e];have hn:=(h.neg3 hl).1;exact le_dg_t (lg_dg2 (fun i hi=>by show p i* -3=0;rw [h.z.lg i hi];rfl) hn.z) (by decide) (fun i=>Nat.lt_of_le_of_lt (hn.b i) (Nat.lt_of_le_of_lt (Nat.mul_le_mul_left 3 (Nat.pow_le_pow_right (by decide) ht)) (by decide)))
theorem md_mul{e m:Nat}(he:e≤3)(hm:m≤2):IntKind.i64.wrap ((e:Int)*(m:Int))=((e*m:Nat):Int):=by
 have h:e*m≤3*2:=Nat.mul_le_mul he hm;have h2:(e:Int)*(m:Int)=((e*m:Nat):Int):=(Int.natCast_mul e m).symm;rw [h2];exact wr64 (by omega) (by omega)
theorem aMade7{cl:Nat→Int}{n t:Nat}(hn:n≤9223372036854775807)(hb:∀ i,i < n→-9223372036854775808≤cl i∧cl i≤9223372036854775807)(ht:t≤4):ACall Tryz.prog 16 [.one (irow n cl),.one (.v (.int .i64 ((t:Nat):Int)))] (.d (.one (exL (MdP t) (fun p=>qrow 2 (lg p) (rc p))))):=by
 refine aN 100 [.tmp 4] Tryz.func16 rfl<|cR<|mW rfl<|mT<|cR<|mB hTT (.d (.one (.row 1 1 (fun i' j'=>(([.v (.int .i64 1)])[i'*1+j']?).getD (.v undef))))) rfl<|mY (aQOf (isi_lit (l:= [1]) (n:=1) rfl (fun i hi=>match i,hi with | 0,_=>rfl)) (by decide) (by omega)) rfl<|mW rfl<|mT<|cSeq<|cSeq<|cView 5 (.d (.one (.row 4 (lg (onez 1)) (qel 2 (rc (onez 1)))))) rfl (of1_le (by decide))<|cReg<|mW rfl<|mT<|cBlock<|cLoop (ι:=Nat×(Nat→Int)) (fun (p:Nat×(Nat→Int))=>match p with | (i,p)=>⟨100,[(0,.d (.one (.row 1 n (fun i _=> .v (.int .i64 (cl i)))))),(1,.d (.one (.v (.int .i64 ((t:Nat):Int))))),(4,.d (.one (.v (.slice none 0 0)))),(5,.d (.one (.row 4 (lg p) (qel 2 (rc p))))),(6,.d (.one (.v (.int .i64 ((i:Nat):Int)))))],[]⟩) (fun (p:Nat×(Nat→Int))=>match p with | (i,p)=>i≤21∧MdI p∧lg p≤t+1) (fun (p:Nat×(Nat→Int))=>match p with | (i,p)=>24-i) (0,(onez 1)) (⟨by omega,md_one.1,by rw [md_one.2];omega⟩) (wk rfl ⟨hs rfl,hs rfl,hs rfl,hs rfl,hs' rfl (le_int rfl),trivial⟩ trivial rfl) ?_;rintro ⟨i,p⟩ hI;obtain ⟨hi,hP,hpt⟩:i≤21∧MdI p∧lg p≤t+1:=hI;show AW _ _ _ ⟨_,_,_⟩
 refine cSeq<|cSeq ?_
 by_cases hin:i+2 < n
 ·by_cases hi18:i < 18
  ·refine cReg<|mW rfl<|mV hTT (.d (.one (.v (.int .i64 ((i+2:Nat):Int))))) (evi ((wr64 (by omega) (by omega)).trans (by omega)))<|mv2 rfl rfl<|mdT rfl (by omega)<|mv2 rfl rfl<|mdT rfl (by omega)<|mW rfl<|mT<|cT rfl<|cSkip<|tN<|cSeq<|cBlock<|cSeq ?_;have hpl:=lg_le p;obtain ⟨e,he1⟩:∃ e:Nat,(e:Int)=1+cl (i+2)%3:=⟨(1+cl (i+2)%3).toNat,by omega⟩
   have he3:e≤3:=by omega
   refine cDk 23<|.cons (OpS.V _ rfl)<|.cons (OpS.V _ rfl)<|.cons (OpS.V (.d (.one (.at 1 ((fun i _=> .v (.int .i64 (cl i))) i)))) (ixR (el:=(fun i _=> .v (.int .i64 (cl i)))) (z:=((i:Nat):Int)) (n:=n) rfl rfl rfl rfl rfl rfl (by omega) (by omega))) ?_;refine oV rfl<|oC (aWithin (v:=(cl i)) (n:=9) (by decide) (by decide) (hb i (by omega)).1 (hb i (by omega)).2) rfl<|.cons (OpS.V (.d (.one (.v (.int .i64 (cl i%9-4))))) (evi (wr64 (by omega) (by omega))))<|.cons (OpS.V _ rfl)<|.cons (OpS.V _ rfl)<|.cons (OpS.V (.d (.one (.v (.int .i64 ((i+1:Nat):Int))))) (evi ((wr64 (by omega) (by omega)).trans (by omega))))<|.cons (OpS.V (.d (.one (.at 1 ((fun i _=> .v (.int .i64 (cl i))) (i+1))))) (ixR (el:=(fun i _=> .v (.int .i64 (cl i)))) (z:=((i+1:Nat):Int)) (n:=n) rfl rfl rfl rfl rfl rfl (by omega) (by omega))) ?_;refine oV rfl<|oC (aWithin (v:=(cl (i+1))) (n:=5) (by decide) (by decide) (hb (i+1) (by omega)).1 (hb (i+1) (by omega)).2) rfl<|.cons (OpS.V (.d (.one (.v (.int .i64 (cl (i+1)%5+1))))) (evi (wr64 (by omega) (by omega))))<|.cons (OpS.V _ rfl)<|.cons (OpS.V _ rfl)<|.cons (OpS.V (.d (.one (.v (.int .i64 ((i+2:Nat):Int))))) (evi ((wr64 (by omega) (by omega)).trans (by omega))))<|.cons (OpS.V (.d (.one (.at 1 ((fun i _=> .v (.int .i64 (cl i))) (i+2))))) (ixR (el:=(fun i _=> .v (.int .i64 (cl i)))) (z:=((i+2:Nat):Int)) (n:=n) rfl rfl rfl rfl rfl rfl (by omega) (by omega))) ?_;refine oV rfl<|oC (aWithin (v:=(cl (i+2))) (n:=3) (by decide) (by decide) (hb (i+2) (by omega)).1 (hb (i+2) (by omega)).2) rfl<|.cons (OpS.V (.d (.one (.v (.int .i64 ((e:Nat):Int))))) (evi ((wr64 (by omega) (by omega)).trans (by omega))))<|.cons (OpS.V _ rfl)<|.cons (OpS.V _ rfl)<|.cons (OpS.V _ rfl)<|.nil<|mT<|cR<|mW rfl<|mV hTT (.d (.one (.v (.int .i64 (-(cl i%9-4)))))) (evi (ng9 _))<|mW rfl<|mB hTT (.d (.one (.row 1 2 (fun i' j'=>(([.v (.int .i64 (-(cl i%9-4))),.v (.int .i64 (cl (i+1)%5+1))])[i'*1+j']?).getD (.v undef))))) rfl<|mY (aQOf (isi_two _ _) (lin_bd (by omega) (by omega)) (by omega)) rfl<|mW rfl<|mT<|cCut (ι:=Nat→Int) (fun f=>⟨100,[(0,.d (.one (.row 1 n (fun i _=> .v (.int .i64 (cl i)))))),(1,.d (.one (.v (.int .i64 ((t:Nat):Int))))),(4,.d (.one (.v (.slice none 0 0)))),(5,.d (.one (.row 4 (lg p) (qel 2 (rc p))))),(6,.d (.one (.v (.int .i64 ((i:Nat):Int))))),(9,.d (.one (.v (.int .i64 ((e:Nat):Int))))),(10,.d (.one (.row 4 (lg f) (qel 2 (rc f)))))],[]⟩) (fun f=>MdI f∧2≤lg f∧lg f≤3) ?_ (fun f hf0=>?_)
   ·refine cSeq ?_;obtain ⟨m1,m2⟩:=md_lin (x:=(-(cl i%9-4))) (y:=(cl (i+1)%5+1)) (by omega) (by omega) (by omega);obtain ⟨u1,u2⟩:=md_qud (x:=(-(cl i%9-4))) (y:=(cl (i+2)%3-1)) (z:=(cl (i+1)%5+1)) (by omega) (by omega) (by omega) (by omega);refine cView 10 (.d (.one (.row 4 (lg (lin (-(cl i%9-4)) (cl (i+1)%5+1))) (qel 2 (rc (lin (-(cl i%9-4)) (cl (i+1)%5+1))))))) rfl (of_md m1 lin_z (by omega)) ?_
    by_cases hq:Int.tmod (cl i) 5=3
    ·refine cReg<|mv2 rfl rfl<|mV hTT (.d (.one (.at 1 ((fun i _=> .v (.int .i64 (cl i))) i)))) (ixR (el:=(fun i _=> .v (.int .i64 (cl i)))) (z:=((i:Nat):Int)) (n:=n) rfl rfl rfl rfl rfl rfl (by omega) (by omega)) ?_;refine mv2 rfl rfl<|mbT rfl (beq_iff_eq.2 hq)<|mT<|cT rfl<|cReg<|mW rfl<|mV hTT (.d (.one (.v (.int .i64 (-(cl i%9-4)))))) (evi (ng9 _))<|mv2 rfl rfl<|mV hTT (.d (.one (.v (.int .i64 ((i+2:Nat):Int))))) (evi ((wr64 (by omega) (by omega)).trans (by omega)))<|mV hTT (.d (.one (.at 1 ((fun i _=> .v (.int .i64 (cl i))) (i+2))))) (ixR (el:=(fun i _=> .v (.int .i64 (cl i)))) (z:=((i+2:Nat):Int)) (n:=n) rfl rfl rfl rfl rfl rfl (by omega) (by omega)) ?_;exact mW rfl<|mY (aWithin (v:=(cl (i+2))) (n:=3) (by decide) (by decide) (hb (i+2) (by omega)).1 (hb (i+2) (by omega)).2) rfl<|mV hTT (.d (.one (.v (.int .i64 (cl (i+2)%3-1))))) (evi (wr64 (by omega) (by omega)))<|mW rfl<|mB hTT (.d (.one (.row 1 3 (fun i' j'=>(([.v (.int .i64 (-(cl i%9-4))),.v (.int .i64 (cl (i+2)%3-1)),.v (.int .i64 (cl (i+1)%5+1))])[i'*1+j']?).getD (.v undef))))) rfl<|mY (aQOf (isi_three _ _ _) (qud_bd (by omega) (by omega) (by omega)) (by omega)) rfl<|mW rfl<|mT<|⟨(qud (-(cl i%9-4)) (cl (i+2)%3-1) (cl (i+1)%5+1)),⟨u1,by omega,by omega⟩,wk rfl ⟨hs rfl,hs rfl,hs rfl,hs rfl,hs rfl,hs rfl,hs' rfl (of_md u1 (qud_z _ _ _) (by omega)),trivial⟩ trivial rfl⟩
    ·refine cReg<|mv2 rfl rfl<|mV hTT (.d (.one (.at 1 ((fun i _=> .v (.int .i64 (cl i))) i)))) (ixR (el:=(fun i _=> .v (.int .i64 (cl i)))) (z:=((i:Nat):Int)) (n:=n) rfl rfl rfl rfl rfl rfl (by omega) (by omega)) ?_;exact mv2 rfl rfl<|mbF rfl (beq_eq_false_iff_ne.2 hq)<|mT<|cFs rfl<|⟨(lin (-(cl i%9-4)) (cl (i+1)%5+1)),⟨m1,by omega,by omega⟩,wkr rfl rfl⟩
   ·obtain ⟨hf,hf2,hf3⟩:=hf0;show AW _ _ _ ⟨_,_,_⟩
    refine cSeq<|cSeq ?_;have hfl:=lg_le f;have hp1:=hP.l;obtain ⟨m,hm⟩:∃ m,m=e*(lg f-1):=⟨_,rfl⟩
    have hm6:m≤6:=by rw [hm];exact (Nat.mul_le_mul he3 (show lg f-1≤2 by omega):e*(lg f-1)≤3*2)
    obtain ⟨w1,w2⟩:=hf.pw hf3 e he3;rw [← hm] at w2
    by_cases hbig:t < lg p-1+m
    ·exact cReg<|mv2 rfl rfl<|mV hTT (.d (.one (.v (.int .i64 ((lg p-1:Nat):Int))))) (evi ((wr64 (by omega) (by omega)).trans (by omega)))<|mv3 rfl rfl rfl<|mV hTT (.d (.one (.v (.int .i64 ((lg f-1:Nat):Int))))) (evi ((wr64 (by omega) (by omega)).trans (by omega)))<|mV hTT (.d (.one (.v (.int .i64 ((m:Nat):Int))))) (evi ((md_mul he3 (by omega)).trans (by rw [hm])))<|mV hTT (.d (.one (.v (.int .i64 ((lg p-1+m:Nat):Int))))) (evi ((wr64 (by omega) (by omega)).trans (by omega)))<|mW rfl<|mdT rfl (by omega)<|mT<|cT rfl<|cExit<|tE<|bE<|tN<|cReg<|mW rfl<|mV hTT (.d (.one (.v (.int .i64 ((i+3:Nat):Int))))) (evi ((wr64 (by omega) (by omega)).trans (by omega)))<|mW rfl<|mNil<|⟨((i+3),p),⟨by omega,hP,hpt⟩,by show 24-(i+3) < 24-i;omega,wkr rfl rfl⟩
    ·refine cReg<|mv2 rfl rfl<|mV hTT (.d (.one (.v (.int .i64 ((lg p-1:Nat):Int))))) (evi ((wr64 (by omega) (by omega)).trans (by omega)))<|mv3 rfl rfl rfl<|mV hTT (.d (.one (.v (.int .i64 ((lg f-1:Nat):Int))))) (evi ((wr64 (by omega) (by omega)).trans (by omega)))<|mV hTT (.d (.one (.v (.int .i64 ((m:Nat):Int))))) (evi ((md_mul he3 (by omega)).trans (by rw [hm])))<|mV hTT (.d (.one (.v (.int .i64 ((lg p-1+m:Nat):Int))))) (evi ((wr64 (by omega) (by omega)).trans (by omega)))<|mW rfl<|mdF rfl (by omega)<|mT<|cFs rfl ?_;obtain ⟨g1,g2⟩:=hP.mul w1 (by omega);exact cReg<|mv3 rfl rfl rfl<|mY (aQPow (f:=f) (e:=e) hf hf3 he3) rfl<|mY (aQMul (isqp (K:=2) (c:=(rc p)) (rc_z (hP.z).lg)) (isqp (K:=2) (c:=(rc (pwE f e))) (rc_z (w1.z).lg)) (M:=((20+1)*(2+2+66))) (D:=20) (by omega) (by omega) (by decide) (by decide) (by decide)) rfl<|mW rfl<|mNil<|bN<|tN<|cReg<|mW rfl<|mV hTT (.d (.one (.v (.int .i64 ((i+3:Nat):Int))))) (evi ((wr64 (by omega) (by omega)).trans (by omega)))<|mW rfl<|mNil<|⟨((i+3),(conv p (pwE f e))),⟨by omega,g1,by omega⟩,by show 24-(i+3) < 24-i;omega,wk rfl ⟨hs rfl,hs rfl,hs rfl,hs' rfl (cv_le g1.z (fun t ht=>conv_z0 hP.z.lg w1.z.lg t ht) (by decide) (g1.db (by omega))),hs rfl,trivial⟩ trivial rfl⟩
  ·refine cReg<|mW rfl<|mV hTT (.d (.one (.v (.int .i64 ((i+2:Nat):Int))))) (evi ((wr64 (by omega) (by omega)).trans (by omega)))<|mv2 rfl rfl<|mdT rfl (by omega)<|mv2 rfl rfl<|mdF rfl (by omega)<|mW rfl<|mT<|cF rfl<|cExit<|tE<|tE<|bE<|tN<|cSeq<|cSeq ?_;have hpl:=lg_le p
   by_cases hn0:0 < n
   ·by_cases hq7:Int.tmod (cl 0) 7=6
    ·refine cReg<|mv2 rfl rfl<|mdT rfl (by omega)<|mv2 rfl rfl<|mV hTT (.d (.one (.at 1 ((fun i _=> .v (.int .i64 (cl i))) 0)))) (ixR (el:=(fun i _=> .v (.int .i64 (cl i)))) (z:=0) (n:=n) rfl rfl rfl rfl rfl rfl (by omega) (by omega)) ?_;refine mv2 rfl rfl<|mbT rfl (beq_iff_eq.2 hq7)<|mW rfl<|mT<|cT rfl<|cReg<|mW rfl<|mB hTT (.d (.one (.row 1 1 (fun i' j'=>(([.v (.int .i64 (-3))])[i'*1+j']?).getD (.v undef))))) rfl<|mY (aQOf (isi_lit (l:= [-3]) (n:=1) rfl (fun i hi=>match i,hi with | 0,_=>rfl)) (by decide) (by omega)) rfl<|mV hTT (.d (.one (.at 4 ((qel 64 (rc (lst [-3]))) 0)))) (ixR (el:=(qel 64 (rc (lst [-3])))) (z:=0) (n:=(dg (rc (lst [-3])) 1)) rfl rfl rfl rfl rfl rfl (by omega) (by rw [md3];decide)) ?_;exact mW rfl<|mY (aQScale (isqp (K:=2) (c:=(rc p)) (rc_z (hP.z).lg)) (isq 64 ((rc (lst [-3])) 0)) (M:=67) (by decide) (by omega) (by decide)) rfl<|mW rfl<|mT<|cR<|mv2 rfl rfl<|mT<|cRet<|rQ rfl (le_one (fun B w v hv=>dex (L:=fun p=>qrow 2 (lg p) (rc p)) (fun i=>p i* -3) (hP.neg3 hpt).1 (ng3_le ht hP hpt) B w v hv))
    ·refine cReg<|mv2 rfl rfl<|mdT rfl (by omega)<|mv2 rfl rfl<|mV hTT (.d (.one (.at 1 ((fun i _=> .v (.int .i64 (cl i))) 0)))) (ixR (el:=(fun i _=> .v (.int .i64 (cl i)))) (z:=0) (n:=n) rfl rfl rfl rfl rfl rfl (by omega) (by omega)) ?_;exact mv2 rfl rfl<|mbF rfl (beq_eq_false_iff_ne.2 hq7)<|mW rfl<|mT<|cFs rfl<|cR<|mv2 rfl rfl<|mT<|cRet<|rQ rfl (le_one (fun B w v hv=>dex (L:=fun p=>qrow 2 (lg p) (rc p)) p (hP.fin hpt) AV.le.rfl B w v hv))
   ·exact cReg<|mv2 rfl rfl<|mdF rfl (by omega)<|mW rfl<|mG rfl rfl<|mG rfl rfl<|mG rfl rfl<|mG rfl rfl<|mG rfl rfl<|mW rfl<|mT<|cFs rfl<|cR<|mv2 rfl rfl<|mT<|cRet<|rQ rfl (le_one (fun B w v hv=>dex (L:=fun p=>qrow 2 (lg p) (rc p)) p (hP.fin hpt) AV.le.rfl B w v hv))
 ·refine cReg<|mW rfl<|mV hTT (.d (.one (.v (.int .i64 ((i+2:Nat):Int))))) (evi ((wr64 (by omega) (by omega)).trans (by omega)))<|mv2 rfl rfl<|mdF rfl (by omega)<|mW rfl<|mG rfl rfl<|mG rfl rfl<|mW rfl<|mT<|cF rfl<|cExit<|tE<|tE<|bE<|tN<|cSeq<|cSeq ?_;have hpl:=lg_le p
  by_cases hn0:0 < n
  ·by_cases hq7:Int.tmod (cl 0) 7=6
   ·refine cReg<|mv2 rfl rfl<|mdT rfl (by omega)<|mv2 rfl rfl<|mV hTT (.d (.one (.at 1 ((fun i _=> .v (.int .i64 (cl i))) 0)))) (ixR (el:=(fun i _=> .v (.int .i64 (cl i)))) (z:=0) (n:=n) rfl rfl rfl rfl rfl rfl (by omega) (by omega)) ?_;refine mv2 rfl rfl<|mbT rfl (beq_iff_eq.2 hq7)<|mW rfl<|mT<|cT rfl<|cReg<|mW rfl<|mB hTT (.d (.one (.row 1 1 (fun i' j'=>(([.v (.int .i64 (-3))])[i'*1+j']?).getD (.v undef))))) rfl<|mY (aQOf (isi_lit (l:= [-3]) (n:=1) rfl (fun i hi=>match i,hi with | 0,_=>rfl)) (by decide) (by omega)) rfl<|mV hTT (.d (.one (.at 4 ((qel 64 (rc (lst [-3]))) 0)))) (ixR (el:=(qel 64 (rc (lst [-3])))) (z:=0) (n:=(dg (rc (lst [-3])) 1)) rfl rfl rfl rfl rfl rfl (by omega) (by rw [md3];decide)) ?_;exact mW rfl<|mY (aQScale (isqp (K:=2) (c:=(rc p)) (rc_z (hP.z).lg)) (isq 64 ((rc (lst [-3])) 0)) (M:=67) (by decide) (by omega) (by decide)) rfl<|mW rfl<|mT<|cR<|mv2 rfl rfl<|mT<|cRet<|rQ rfl (le_one (fun B w v hv=>dex (L:=fun p=>qrow 2 (lg p) (rc p)) (fun i=>p i* -3) (hP.neg3 hpt).1 (ng3_le ht hP hpt) B w v hv))
   ·refine cReg<|mv2 rfl rfl<|mdT rfl (by omega)<|mv2 rfl rfl<|mV hTT (.d (.one (.at 1 ((fun i _=> .v (.int .i64 (cl i))) 0)))) (ixR (el:=(fun i _=> .v (.int .i64 (cl i)))) (z:=0) (n:=n) rfl rfl rfl rfl rfl rfl (by omega) (by omega)) ?_;exact mv2 rfl rfl<|mbF rfl (beq_eq_false_iff_ne.2 hq7)<|mW rfl<|mT<|cFs rfl<|cR<|mv2 rfl rfl<|mT<|cRet<|rQ rfl (le_one (fun B w v hv=>dex (L:=fun p=>qrow 2 (lg p) (rc p)) p (hP.fin hpt) AV.le.rfl B w v hv))
  ·exact cReg<|mv2 rfl rfl<|mdF rfl (by omega)<|mW rfl<|mG rfl rfl<|mG rfl rfl<|mG rfl rfl<|mG rfl rfl<|mG rfl rfl<|mW rfl<|mT<|cFs rfl<|cR<|mv2 rfl rfl<|mT<|cRet<|rQ rfl (le_one (fun B w v hv=>dex (L:=fun p=>qrow 2 (lg p) (rc p)) p (hP.fin hpt) AV.le.rfl B w v hv))
theorem cv_tm{a b:Nat→Int}{H M n:Nat}(h0:∀ i,n≤i→a i=0)(ha:∀ i,(a i).natAbs≤H)(hb:∀ i,(b i).natAbs≤M)(j:Nat):∀ m,(cv a b m j).natAbs≤min m n*(H*M)
 | 0=>by show (0:Int).natAbs≤_;exact Nat.zero_le _
 | m+1=>by
  have h1:=cv_tm h0 ha hb j m;have e:cv a b (m+1) j=cv a b m j+(if m≤j then a m*b (j-m) else 0):=rfl
  by_cases hm:m < n
  ·have h2:(if m≤j then a m*b (j-m) else 0).natAbs≤H*M:=by
    split
    ·rw [Int.natAbs_mul];exact Nat.mul_le_mul (ha m) (hb _)
    ·exact Nat.zero_le _
   have h3:=Int.natAbs_add_le (cv a b m j) (if m≤j then a m*b (j-m) else 0);rw [e,show min (m+1) n=min m n+1 by omega,Nat.succ_mul];omega
  ·have h2:(if m≤j then a m*b (j-m) else 0)=0:=by
    split
    ·rw [h0 m (by omega),Int.zero_mul]
    ·rfl
   rw [e,h2,Int.add_zero,show min (m+1) n=min m n by omega];exact h1
theorem conv_tm{a b:Nat→Int}{H M n:Nat}(h0:∀ i,n≤i→a i=0)(ha:∀ i,(a i).natAbs≤H)(hb:∀ i,(b i).natAbs≤M)(j:Nat):(conv a b j).natAbs≤n*(H*M):=
 Nat.le_trans (cv_tm h0 ha hb j (j+1)) (Nat.mul_le_mul_right _ (Nat.min_le_right _ _))
/-- The squarefree part of y, of at most M digits and N places. -/
structure SmS(y:Nat→Int)(M N:Nat)(f:Nat→Int):Prop where
 s:∃ M,SqP y M f
 e:f=sqP y
 z:z20 f
 b:Db M f
 pm:Pm (lg f) f
 sq:Sqf (FF f) (FF (fder f))
 l2:2≤lg f
 l7:lg f≤N
 dv:DvB f M
theorem sms_ok{y:Nat→Int}{M N:Nat}(z:z20 y)(l2:2≤lg y)(l7:lg y≤N)(hN:N≤10)(dv:DvB y M):SmS y M N (sqP y):=by
 obtain ⟨M',hM⟩:=ex_sq z l2 (by omega);exact ⟨⟨M',hM⟩,rfl,hM.z,dv _ hM.z hM.pm.one hM.dv,hM.pm,hM.sq,hM.l2 z l2,by have:=(lg_dv z hM.z (by omega) hM.dv).2;omega,dv.dv hM.dv⟩
theorem SmS.self{y f:Nat→Int}{M N:Nat}(h:SmS y M N f):SqP f M f:=sq_self h.z h.b.lb1 h.pm h.sq
theorem SmS.rt{y f:Nat→Int}{M N:Nat}(h:SmS y M N f):RtP f (rtF f (14*M)):=by
 obtain ⟨L,hL⟩:=ex_tb (bdQ f);exact rt_ok (cnt_of h.z h.l2 h.sq) (db_bits (K:=M) h.b) hL
theorem sms_D{f:Nat→Int}{N M:Nat}(h:lg f≤N):rtD f M≤20+4*N*(2*M+2*N+8)+M+2:=by
 unfold rtD sepE;have:=Nat.mul_le_mul (show 2*(lg f+lg f)≤4*N by omega) (show M+M+(lg f+lg f)+8≤2*M+2*N+8 by omega);omega
theorem aQRootsS{y f:Nat→Int}{M N KC X:Nat}(hS:SmS y M N f)(hN:N≤10)(hM1:1≤M)(hM:M≤100000)(hKC:(M+2)*(2*3^N)≤KC)(hC:KC≤90000)(hX:3*(3*(M+100)+(20+4*N*(2*(14*M)+2*N+8)+14*M+2) / 32+1)≤X)(hX1:X≤90000):ACall Tryz.prog 46 [.one (qrow M (lg f) (rc f))] (.d (.one (exL (fun l=>l=rtF f (14*M)∧l.length≤1000000) (fun l=> .row 10 l.length (elA M f KC X l))))):=by
 have e:=hS.self.eq.symm;have hD:=sms_D (M:=14*M) hS.l7;have h:=aQRoots (K:=M) (M:=M) (KC:=KC) (N:=N) (X:=X) (h1:=14*M) (Ms:=M) (c:=f) hS.z hS.l2 hN hS.l7 hM1 hM1 hS.dv hM1 hM hKC hC (by rw [e];exact hS.self) (by rw [e];exact db_bits (K:=M) hS.b) (by rw [e];refine Nat.le_trans (Nat.mul_le_mul_left 3 (Nat.add_le_add_right (Nat.add_le_add_left (Nat.div_le_div_right hD) _) 1)) hX) hX1;rwa [e] at h
theorem run_copy_sz{P:Program}(w:World)(dT sT ty elem:TypeId)(g o dLen dCap:Nat)(a:Addr)(sLen sCap:Nat)(cur:Array Value)(t:TypeId)(cs:List Value)(sz:Nat) 
  (hu:P.underlying dT=some (.slice elem)) (hs:(P.info? elem).map (·.size)=some sz)
  (hg:w.heap[g]?=some (.cells cur t (0,0))) (hn:cs.length=Nat.min sLen dLen*sz)
  (hsrc:∀ j v,cs[j]?=some v→w.cell? (a.add j)=some v) (hfit:o+cs.length≤cur.size) (h1:∀ v∈cs,v.oneCell'=true):
  (Builtin.copy_ #[dT,sT] ty #[.slice (some ⟨g,o,none⟩) dLen dCap,.slice (some a) sLen sCap]).run P w=
   .ok (goInt (Nat.min sLen dLen)) (w.setRow g (cur.toList.take o ++cs ++cur.toList.drop (o+cs.length)).toArray):=by
 have hl:=run_loadCells_list (P:=P) w a cs hsrc;have hst:=run_storeCells_at P g o t cs 0 cur w hg (by simpa using hfit) h1;cases hq:P.info? elem with
 | none=>simp [hq] at hs
 | some i=>
  have hi:i.size=sz:=by simpa [hq] using hs
  rw [hn] at hl;simp [Builtin.copy_,run_underlying hu,Builtin.lenOf,Builtin.firstCells,sizeOf,typeInfo,hq,hi,hl,hst]
section
variable {P:Program} {ops:Array Oper} {Q:Qs} {s:AS} {o:Oper} {l:List Oper}
/-- An own row's value, by its address. -/
theorem cRaw{c:Code}(t id:Nat){e:TypeId}{sz n:Nat}{el:Nat→Nat→Lf}(h1:lk s.sl t=some (.own id))(h2:lk s.hp id=some (.row e sz n el))(hn:n≠0) 
  (k:∀ g cap,n≤cap→AW P c Q ⟨s.n,(t,.d (.one (.v (.slice (some ⟨g,0,none⟩) n cap)))) ::s.sl,(id,.is (.slice (some ⟨g,0,none⟩) n cap) (.row e sz n el)) ::s.hp⟩):AW P c Q s:=by
 rintro B0 w0 a w ⟨ρ,hc,hnn,hdf,hs⟩;obtain ⟨x,hx,hρ,_⟩:=hs t _ h1;obtain ⟨ob,q1,q2⟩:=hc.obj id x hρ;rw [h2] at q1;cases q1
 have q3:=q2;obtain ⟨xs,⟨hl,hown⟩,hel⟩:=q2;rcases hown with ⟨_,h0⟩ | ⟨g,cap,cur,rfl,hg1,hg2,hg3,hg4⟩
 ·exact absurd h0 hn
 refine k g cap hg3 B0 w0 a w ⟨ρ,⟨hc.bel,hc.b0,fun j v hj=>?_,hc.dist⟩,hnn,hdf,slots_cons hs hx ⟨rfl,rfl⟩⟩
 by_cases e:id=j
 ·subst e
  rw [hρ] at hj;cases hj
  exact ⟨.is (.slice (some ⟨g,0,none⟩) n cap) (.row e sz n el),by rw [lk_cons,if_pos rfl],rfl,q3⟩
 ·obtain ⟨ob',r1,r2⟩:=hc.obj j v hj
  exact ⟨ob',by rw [lk_cons,if_neg e];exact r1,r2⟩
theorem evx_p{av:AV}(h:EvP P s o av):EvX P s o av:=fun ρ B w a ho=>let ⟨v,h1,h2⟩:=h ρ B w a ho;⟨v,h1 w,h2⟩
/-- A part of a row whose value is known. -/
theorem pSlR{T:TypeId→Option TI}(hT:TOk P T){t e:TypeId}{x y:Operand}{ti te:TI}{N cap lo g sz:Nat}(hop:o.op= .slice t x (some y) none none)(hti:T t=some ti)(he:ti.elem=some e)(hte:T e=some te)(hsz:Nat.beq te.n sz=true)(hx:geto s x=some (.d (.one (.v (.slice (some ⟨g,0,none⟩) N cap)))))(hlo:bndV s (some y) 0=some lo)(h1:lo≤N):
  EvP P s o (.d (.one (.v (.slice (some ⟨g,if cap=lo then 0 else lo*sz,none⟩) (N-lo) (cap-lo))))):=by
 intro ρ B w a ho;have hsz':=Nat.eq_of_beq_eq_true hsz;subst hsz';have hxe:a.eval x= .slice (some ⟨g,0,none⟩) N cap:=arV (ho x (by rw [hop];simp [Op.operands]) _ hx);obtain ⟨i,z,dd,g1,g2,g3,g4,g5,g6,g7,g8,g9,_⟩:=ti_parts (hT _ _ hti);have:=g9 e he;subst this;obtain ⟨i',zz',dd',k1,k2,k3,k4,_⟩:=ti_parts (hT _ _ hte);have b1:∀ (c:BoundsCode) (w:World),(Instr.sliceBound (a.eval y) N c).run P w= .ok lo w:=fun c=>bnd_e hlo h1 (ho y (by rw [hop];simp [Op.operands]))
 have hb:∀ w:World,(Instr.sliceBounds true N cap (some (a.eval y)) none none).run P w= .ok (lo,N,cap) w:=by
  intro w;simp [Instr.sliceBounds,b1 _ w]
 refine ⟨.slice (some ⟨g,if cap=lo then 0 else lo*te.n,none⟩) (N-lo) (cap-lo),?_,rfl,rfl⟩;intro w';unfold execOp;rw [hop];refine run_value ?_;rw [hxe];simp only [Instr.sliceAt,Instr.slice,Sem.run_bind,run_underlying g3,Result.andThen_ok,sizeOf,typeInfo,run_program,k1,Sem.run_pure,Option.map_none,Option.map_some];rw [hb w']
 by_cases hcl:cap=lo
 ·simp [hcl]
 ·simp [hcl,k4,add_lit]
/-- Elements from place k on moved up by one. -/
def shE(k:Nat)(el:Nat→Nat→Lf):Nat→Nat→Lf:=fun i j=>if i≤k then el i j else el (i-1) j
theorem mCpO{T:TypeId→Option TI}(hT:TOk P T){c:Call}{x y:Operand}{dT sT:TypeId}{ti te:TI}{e:TypeId}{id tw N k sz g cap:Nat}{el:Nat→Nat→Lf}{z1 z2:Nat}(hop:callOf o.op=some c)(hcb:c.callee= .builtin .copy)(ha:c.args.toList= [x,y])(hty:c.argTypes.toList= [dT,sT])(hti:T dT=some ti)(he:ti.elem=some e)(hte:T e=some te)(hsz:Nat.beq te.n sz=true) 
  (hx:geto s x=some (.d (.one (.v (.slice (some ⟨g,if cap=k+1 then 0 else (k+1)*te.n,none⟩) (N-(k+1)) z1))))) (hy:geto s y=some (.d (.one (.v (.slice (some ⟨g,if cap=k then 0 else k*te.n,none⟩) (N-k) z2)))))
  (hw:lk s.sl tw=some (.own id)) (h2:lk s.hp id=some (.is (.slice (some ⟨g,0,none⟩) N cap) (.row e sz N el))) (hk:k < N) (hcap:N≤cap)
  (kk:AL P ops Q l (AS.put ⟨s.n,s.sl,(id,.is (.slice (some ⟨g,0,none⟩) N cap) (.row e sz N (shE k el))) ::s.hp⟩ o.dst (.d (.one (.v (.int .i64 ((N-(k+1):Nat):Int))))))) (hg:gst ops s o=some true:=by rfl) (hd:dok o.dst s.n=true:=by rfl):AL P ops Q (o ::l) s:=by
 rintro B0 w0 a w ⟨ρ,hc,hn,hdf,hs⟩;have hsz':=Nat.eq_of_beq_eq_true hsz;subst hsz';obtain ⟨v,hv,hρ,_⟩:=hs tw _ hw;obtain ⟨ob,q1,q2⟩:=hc.obj id v hρ;rw [h2] at q1;cases q1
 obtain ⟨rfl,xs,⟨hl,hown⟩,hel⟩:=q2;rcases hown with ⟨h0,_⟩ | ⟨g',cap',cur,h0,hg1,hg2,hg3,hg4,hg5,hg6⟩
 ·cases h0
 cases h0
 obtain ⟨i,z,dd,g1,g2,g3,g4,g5,g6,g7,g8,g9,_⟩:=ti_parts (hT _ _ hti);have:=g9 e he;subst this;obtain ⟨i',zz',dd',k1,k2,k3,k4,_⟩:=ti_parts (hT _ _ hte);have ex:a.eval x=_:=arV (geto_ok hs hx);have ey:a.eval y=_:=arV (geto_ok hs hy);obtain ⟨m,hm⟩:∃ m,m=N-(k+1):=⟨_,rfl⟩
 have hxl:xs.length=N*te.n:=hl;have hNs:N*te.n≤cap*te.n:=Nat.mul_le_mul_right _ hcap;have hkN:k*te.n+(m+1)*te.n=N*te.n:=by rw [← Nat.add_mul];congr 1;omega
 have hk1:(k+1)*te.n=k*te.n+te.n:=Nat.succ_mul _ _;have hm1:(m+1)*te.n=m*te.n+te.n:=Nat.succ_mul _ _;obtain ⟨cs,hcs⟩:∃ cs,cs=(xs.drop (k*te.n)).take (m*te.n):=⟨_,rfl⟩
 have hcl:cs.length=m*te.n:=by rw [hcs];simp;omega
 have hcg:∀ j,j < m*te.n→cs[j]?=xs[k*te.n+j]? :=fun j hj=>by rw [hcs,List.getElem?_take,if_pos hj,List.getElem?_drop]
 have hone:∀ j,j < N*te.n→∃ u,xs[j]?=some u∧u.oneCell'=true:=fun j hj=>by
  have hn0:0 < te.n:=Nat.pos_of_ne_zero (fun e=>by rw [e,Nat.mul_zero] at hj;omega);have hj1:j / te.n < N:=Nat.div_lt_of_lt_mul (by rw [Nat.mul_comm];exact hj);obtain ⟨u,hu,hr⟩:=hel (j / te.n) (j%te.n) hj1 (Nat.mod_lt _ hn0);refine ⟨u,?_,hr.one⟩;rw [Nat.mul_comm,Nat.div_add_mod] at hu;exact hu
 have hxc:∀ j,j < N*te.n→cur.toList[j]?=xs[j]? :=fun j hj=>by rw [← hg6,List.getElem?_take,if_pos hj]
 obtain ⟨off,hoff⟩:∃ off,off=if cap=k+1 then 0 else (k+1)*te.n:=⟨_,rfl⟩
 have hoff1:off≤(k+1)*te.n:=by rw [hoff];split <;> omega
 have hoff2:m≠0→off=(k+1)*te.n:=fun h=>by rw [hoff,if_neg (by omega)]
 have hfit:off+cs.length≤cur.size:=by rw [hcl,hg5];omega
 have hk0:(if cap=k then 0 else k*te.n)=k*te.n:=if_neg (by omega);have hmin:Nat.min (N-k) (N-(k+1))=m:=by rw [hm];exact Nat.min_eq_right (by omega)
 have hrun:=run_copy_sz (P:=P) w dT sT o.type e g off (N-(k+1)) z1 ⟨g,k*te.n,none⟩ (N-k) z2 cur e cs te.n g3 (by rw [k1];simp [k4]) hg2 (by rw [hmin];exact hcl) (fun j u hu=>by
  obtain ⟨hj,_⟩:=List.getElem?_eq_some_iff.1 hu;rw [hcl] at hj;rw [hcg j hj,← hxc (k*te.n+j) (by omega)] at hu;rw [add_lit];simp [World.cell?,hg2];simpa using hu) hfit (fun u hu=>by
  obtain ⟨j,hj,rfl⟩:=List.getElem_of_mem hu;have hj':=hj;rw [hcl] at hj';obtain ⟨u',h1,h3⟩:=hone (k*te.n+j) (by omega);rw [← hcg j hj',List.getElem?_eq_getElem hj] at h1;cases h1;exact h3)
 rw [hmin] at hrun;obtain ⟨nw,hnw⟩:∃ nw,nw=cur.toList.take off ++cs ++cur.toList.drop (off+cs.length):=⟨_,rfl⟩
 rw [← hnw] at hrun;have hnl:nw.length=cap*te.n:=by rw [hnw];simp;omega
 obtain ⟨w',hw'⟩:∃ w',w'=w.setRow g nw.toArray:=⟨_,rfl⟩
 have hg':w'.heap[g]?=some (.cells nw.toArray e (0,0)):=by rw [hw'];exact setRow_heap w g _ _ e _ hg2
 have hoth:∀ b,b≠g→w'.heap[b]?=w.heap[b]? :=fun b hb=>by rw [hw'];exact setRow_other w g b _ hb
 have hws:w'.heap.size=w.heap.size:=by rw [hw'];simp [World.setRow]
 have hnwg:∀ j,j < N*te.n→nw[j]?=if j < (k+1)*te.n then xs[j]? else xs[j-te.n]? :=fun j hj=>by
  rw [hnw]
  by_cases hm0:m=0
  ·have hc0:cs= []:=List.eq_nil_of_length_eq_zero (by rw [hcl,hm0,Nat.zero_mul])
   rw [hc0,List.append_nil,List.length_nil,Nat.add_zero,List.take_append_drop,hxc j hj,if_pos (by rw [hm0] at hkN;omega)]
  ·have ho:=hoff2 hm0
   have htl:(cur.toList.take off).length=off:=by simp;omega
   by_cases h1:j < (k+1)*te.n
   ·rw [if_pos h1,List.append_assoc,List.getElem?_append_left (by omega),List.getElem?_take,if_pos (by omega),hxc j hj]
   ·rw [if_neg h1,List.append_assoc,List.getElem?_append_right (by omega),htl,List.getElem?_append_left (by omega),hcg _ (by omega)]
    congr 1;omega
 have hB:Below w.heap.size w w'→False∨True:=fun _=>Or.inr trivial
 have hbel:Below w0.heap.size w0 w':=hw'▸below_setRow hc.bel hg1 _;have hup:up ρ id (.slice (some ⟨g,0,none⟩) N cap)=ρ:=funext fun q=>by unfold up;split;rename_i h;rw [h,hρ];rfl
 obtain ⟨hc',hK,hBB⟩:=hc.write (v':= .slice (some ⟨g,0,none⟩) N cap) (ob':= .is (.slice (some ⟨g,0,none⟩) N cap) (.row e te.n N (shE k el))) (hp':=(id,.is (.slice (some ⟨g,0,none⟩) N cap) (.row e te.n N (shE k el))) ::s.hp) (w':=w') hρ
  (fun b hb hne=>hoth b (fun e=>hne (by rw [e];rfl))) (Nat.le_of_eq hws.symm) hbel (fun b hb=>Or.inl hb) (fun q ob hq hne=>by rw [lk_cons,if_neg (fun e=>hne e.symm)];exact hq) (by rw [lk_cons,if_pos rfl])
  ⟨rfl,nw.take (N*te.n),⟨by simp;omega,Or.inr ⟨g,cap,nw.toArray,rfl,hg1,hg',hg3,hg4,by simpa using hnl,by simp⟩⟩,fun i j hi hj=>by
   have hij:i*te.n+j < N*te.n:=by
    have:=Nat.mul_le_mul_right te.n (show i+1≤N by omega);rw [Nat.succ_mul] at this;omega
   rw [List.getElem?_take,if_pos hij,hnwg _ hij];have hKp:Keep (Bd ρ B0) w w':=⟨Nat.le_of_eq hws.symm,fun b hb hnb=>hoth b (fun e=>hnb (Or.inr ⟨id,_,hρ,by rw [e];rfl⟩))⟩;unfold shE
   by_cases hik:i≤k
   ·rw [if_pos (by have:=Nat.mul_le_mul_right te.n (show i+1≤k+1 by omega);rw [Nat.succ_mul i] at this;omega),if_pos hik]
    obtain ⟨u,h1,h3⟩:=hel i j hi hj;exact ⟨u,h1,by rw [hup];exact LfR.mv hKp (fun _ _ h=>h) _ h3⟩
   ·have hi1:i=(i-1)+1:=by omega
    have e1:i*te.n=(i-1)*te.n+te.n:=by rw [← Nat.succ_mul];congr 1
    have e2:=Nat.mul_le_mul_right te.n (show k+1≤i by omega);rw [if_neg (by omega),if_neg hik,show i*te.n+j-te.n=(i-1)*te.n+j by omega];obtain ⟨u,h1,h3⟩:=hel (i-1) j (by omega) hj;exact ⟨u,h1,by rw [hup];exact LfR.mv hKp (fun _ _ h=>h) _ h3⟩⟩
 rw [hup] at hc';have hs':Slots ρ (Bd ρ B0) w' s.sl a:=fun t av ht=>let ⟨u,h1,h3⟩:=hs t av ht;⟨u,h1,AR.mv hK (fun _ _ hB=>hB) (fun _ _=>rfl) h3⟩
 have hc1:o.op= .call c:=by
  revert hop
  unfold callOf;cases o.op <;> simp
 have ha':c.args=#[x,y]:=by rw [← Array.toList_inj];simpa using ha
 have ht':c.argTypes=#[dT,sT]:=by rw [← Array.toList_inj];simpa using hty
 have hrun2:(execOp a.eval o).run P w= .ok (.value (goInt m)) w':=by
  rw [← hoff] at ex;rw [hk0] at ey;unfold execOp;rw [hc1];simp [resolve,hcb,ha',ht',invoke,builtin,ex,ey,hrun,hw']
 rw [← hm] at kk;exact wpl_value (gst_ok hg hs) hrun2 (kk B0 w0 _ w' (den_put (s:=⟨s.n,s.sl,(id,.is (.slice (some ⟨g,0,none⟩) N cap) (.row e te.n N (shE k el))) ::s.hp⟩) hc' hn hdf hs' hd ⟨rfl,rfl⟩))
end
def atC(x:AT):Cut:=cutA x.1 x.2.1 x.2.2
/-- Where a number is put, among the first k. -/
noncomputable def insK(L:List AT)(x:AT):Nat→Nat
 | 0=>0
 | k+1=>if cmpC (atC x) (acu L k) < 0 then insK L x k else k+1
theorem insK_le(L:List AT)(x:AT):∀ k,insK L x k≤k
 | 0=>Nat.le_refl _
 | k+1=>by unfold insK;split;exact Nat.le_succ_of_le (insK_le L x k);exact Nat.le_refl _
theorem insK_t{L:List AT}{x:AT}{k:Nat}(hk:k≠0)(h:cmpC (atC x) (acu L (k-1)) < 0):insK L x (k-1)=insK L x k:=by
 obtain ⟨j,rfl⟩:∃ j,k=j+1:=⟨k-1,by omega⟩
 exact (if_pos h).symm
theorem insK_f{L:List AT}{x:AT}{k:Nat}(h:k=0∨¬ cmpC (atC x) (acu L (k-1)) < 0):insK L x k=k:=by
 cases k with
 | zero=>rfl
 | succ j=>rcases h with h | h;omega;exact if_neg h
noncomputable def ins(L:List AT)(x:AT):List AT:=L.take (insK L x L.length) ++x ::L.drop (insK L x L.length)
noncomputable def srt(As:List AT):Nat→List AT
 | 0=> []
 | i+1=>ins (srt As i) (ga As i)
theorem ins_len(L:List AT)(x:AT):(ins L x).length=L.length+1:=by
 have:=insK_le L x L.length;unfold ins;simp;omega
theorem srt_len(As:List AT):∀ i,(srt As i).length=i
 | 0=>rfl
 | i+1=>by show (ins _ _).length=_;rw [ins_len,srt_len As i]
theorem ga_ins(L:List AT)(x:AT)(j:Nat):ga (ins L x) j=if j < insK L x L.length then ga L j else if j=insK L x L.length then x else ga L (j-1):=by
 have hp:=insK_le L x L.length;unfold ga ins;rw [List.getD_eq_getElem?_getD]
 by_cases h1:j < insK L x L.length
 ·rw [if_pos h1,List.getElem?_append_left (by simp;omega),List.getElem?_take,if_pos h1,← List.getD_eq_getElem?_getD]
 ·rw [if_neg h1,List.getElem?_append_right (by simp;omega)]
  have e:(L.take (insK L x L.length)).length=insK L x L.length:=by simp;omega
  rw [e]
  by_cases h2:j=insK L x L.length
  ·rw [if_pos h2,h2,Nat.sub_self];rfl
  ·rw [if_neg h2]
   obtain ⟨d,hd⟩:∃ d,j=insK L x L.length+d+1:=⟨j-insK L x L.length-1,by omega⟩
   rw [show j-insK L x L.length=d+1 by omega,List.getElem?_cons_succ,List.getElem?_drop,← List.getD_eq_getElem?_getD,show insK L x L.length+d=j-1 by omega]
theorem ins_all{p:AT→Prop}{L:List AT}{x:AT}(h:∀ j,j < L.length→p (ga L j))(hx:p x):∀ j,j < (ins L x).length→p (ga (ins L x) j):=fun j hj=>by
 have hp:=insK_le L x L.length;rw [ins_len] at hj;rw [ga_ins];split
 ·exact h j (by omega)
 ·split
  ·exact hx
  ·exact h (j-1) (by omega)
theorem srt_all{p:AT→Prop}{As:List AT}:∀ i,(∀ j,j < i→p (ga As j))→∀ j,j < i→p (ga (srt As i) j)
 | 0,_,j,h=>absurd h (Nat.not_lt_zero _)
 | i+1,h,j,hj=>ins_all (L:=srt As i) (x:=ga As i) (fun q hq=>srt_all i (fun j hj=>h j (by omega)) q (by rw [srt_len] at hq;exact hq)) (h i (by omega)) j (by rw [ins_len,srt_len];exact hj)
theorem srt_okv{As:List AT}{n:Nat}(h:∀ i,i < n→OkV (ac As i) (al As i) (ah As i)){i:Nat}(hi:i≤n):∀ j,j < i→OkV (ac (srt As i) j) (al (srt As i) j) (ah (srt As i) j):=srt_all (p:=fun x=>OkV x.1 x.2.1 x.2.2) i (fun j hj=>h j (by omega))
theorem srt_lg{As:List AT}{n N:Nat}(h:∀ i,i < n→lg (ac As i)≤N){i:Nat}(hi:i≤n):∀ j,j < i→lg (ac (srt As i) j)≤N:=srt_all (p:=fun x=>lg x.1≤N) i (fun j hj=>h j (by omega))
theorem leo_ins{e:TypeId}{K L i p:Nat}{Ls:List AT}{x:AT}{el2:Nat→Nat→Lf}{cs:List Lf}(hl:Ls.length=i)(hp:insK Ls x i=p)(hcs:cs=alc K x.1 L x.2.1 L x.2.2):AO.le (.row e 9 (i+1) (fun p' q'=>if p'=p then (cs[q']?).getD (.v undef) else shE p (appEl i (elg K L Ls) el2) p' q')) (.row e 9 (i+1) (elg K L (ins Ls x))):=by
 subst hcs;subst hl;have hpl:=insK_le Ls x Ls.length;rw [hp] at hpl;refine leo_row fun q hq j hj B w v hv=>?_
 have e:ga (ins Ls x) q=_:=ga_ins Ls x q;rw [hp] at e;unfold elg ac al ah;rw [e]
 by_cases h1:q < p
 ·rw [if_pos h1]
  rw [if_neg (by omega)] at hv;unfold shE appEl at hv;rw [if_pos (by omega),show Nat.ble (q+1) Ls.length=true from Nat.ble_eq_true_of_le (by omega)] at hv;exact hv
 ·rw [if_neg h1]
  by_cases h2:q=p
  ·rw [if_pos h2]
   rw [if_pos h2] at hv;exact hv
  ·rw [if_neg h2]
   rw [if_neg h2] at hv;unfold shE appEl at hv;rw [if_neg (by omega),show Nat.ble (q-1+1) Ls.length=true from Nat.ble_eq_true_of_le (by omega)] at hv;exact hv
theorem cat9{A B:List Lf}(h:A.length=9){i j:Nat}(hj:j < 9):(A ++B)[i*9+j]?=if i=0 then A[j]? else B[(i-1)*9+j]? :=by
 by_cases hi:i=0
 ·rw [if_pos hi,hi,Nat.zero_mul,Nat.zero_add,List.getElem?_append_left (by omega)]
 ·rw [if_neg hi,List.getElem?_append_right (by omega),h];congr 1;omega
theorem aSort{K L X KC N n:Nat}{As:List AT}(hn:n=As.length)(hn1:n≤1000)(hok:∀ i,i < n→OkV (ac As i) (al As i) (ah As i))(hcN:∀ i,i < n→lg (ac As i)≤N)(hN:N≤10)(hKC:(21*K+3+1)*(2*3^N)≤KC)(hC:KC≤90000000)(hX:11*L+320*K+300≤X)(hX1:X≤100000):ACall Tryz.prog 49 [.one (.row 9 n (elg K L As))] (.d (.one (.row 9 n (elg K L (srt As n))))):=by
 have hz:=elg_z hok (by omega);refine aN 48 [.tmp 2] Tryz.func49 rfl<|cR<|mW rfl<|mT<|cR<|mW rfl<|mT<|cSeq<|cSeq<|AW.wk (wkNil 3 3 46 9 (fun _ _=> .v undef) rfl rfl)<|cReg<|mv3 rfl rfl rfl<|mT<|cBlock<|cLoop (ι:=Nat) (fun (i:Nat)=>⟨48,[(3,.own 3),(7,.d (.one (.row 9 n (elg K L As)))),(8,.d (.one (.v (.int .i64 (n:Int))))),(9,.d (.one (.v (.int .i64 ((i:Nat):Int)))))],[(3,.row 46 9 i (elg K L (srt As i)))]⟩) (fun (i:Nat)=>i≤n) (fun (i:Nat)=>n-i) 0 (Nat.zero_le _) (wk rfl ⟨hs rfl,hs rfl,hs rfl,hs' rfl (le_int rfl),trivial⟩ ⟨ho' rfl (leo_row0),trivial⟩ rfl) ?_;rintro i hI;have hi:i≤n:=hI;show AW _ _ _ ⟨_,_,_⟩
 refine cR<|mW rfl<|mT<|cSeq<|cCond rfl (fun hc1=>?_) (fun hc1=>?_)
 ·refine cSkip<|tN<|cSeq<|cBlock<|cSeq ?_;have hin:i < n:=by have h0:=of_decide_eq_true hc1;omega
  have hoi:=hok i hin;have hos:=srt_okv hok hi;have hls:=srt_lg hcN hi;have hsl:=srt_len As i;have hzs:=elg_z (As:=srt As i) (n:=i) hos (by omega);refine cReg<|mV hTT (.d (.one (.at 9 ((elg K L As) i)))) (ixR (el:=(elg K L As)) (z:=((i:Nat):Int)) (n:=n) rfl rfl rfl rfl rfl rfl (by omega) (by omega)) ?_;refine mW rfl<|mO rfl<|mZ rfl<|mT<|cR<|mv3 rfl rfl rfl<|mT<|cSeq<|cBlock<|cLoop (ι:=Nat) (fun (k:Nat)=>⟨48,[(3,.own 3),(5,.ptr 5 0),(7,.d (.one (.row 9 n (elg K L As)))),(8,.d (.one (.v (.int .i64 (n:Int))))),(9,.d (.one (.v (.int .i64 ((i:Nat):Int))))),(6,.d (.one (.v (.int .i64 ((k:Nat):Int)))))],[(3,.row 46 9 i (elg K L (srt As i))),(5,.box 46 ([.row 2 (lg (ac As i)) (zel K (ac As i))] ++tn L (al As i) ++tn L (ah As i)))]⟩) (fun (k:Nat)=>k≤i∧insK (srt As i) (ga As i) k=insK (srt As i) (ga As i) i) (fun (k:Nat)=>k) i (⟨Nat.le_refl _,rfl⟩) (wkr rfl rfl) ?_;rintro k hI;obtain ⟨hki,hK⟩:k≤i∧insK (srt As i) (ga As i) k=insK (srt As i) (ga As i) i:=hI;show AW _ _ _ ⟨_,_,_⟩
  refine cSeq<|cSeq ?_
  by_cases hk0:k=0
  ·refine cDk 12<|.cons (OpS.V _ rfl)<|oFd rfl (by omega)<|.cons (OpS.V _ rfl)<|.cons (OpS.G rfl rfl)<|.cons (OpS.G rfl rfl)<|.cons (OpS.G rfl rfl)<|.cons (OpS.G rfl rfl)<|.cons (OpS.G rfl rfl)<|.cons (OpS.G rfl rfl)<|.cons (OpS.G rfl rfl)<|.cons (OpS.G rfl rfl)<|.cons (OpS.V _ rfl)<|.nil<|mT<|cF rfl<|cExit<|tE<|tE<|bE<|tN<|cSeq ?_;have hkp:insK (srt As i) (ga As i) i=k:=hK▸insK_f (Or.inl hk0);refine cReg<|mv2 rfl rfl<|mB hTT (.d (.one (.row 9 1 (fun i' j'=>(([.v (.slice none 0 0),.v (.bool false),.v (.slice none 0 0),.v (.bool false),.v (.slice none 0 0),.v (.bool false),.v (.slice none 0 0),.v (.bool false),.v (.slice none 0 0)])[i'*9+j']?).getD (.v undef))))) rfl<|mA hTT (id:=3) (n:=i) (m:=1) (el:=(elg K L (srt As i))) (el2:=(fun i' j'=>(([.v (.slice none 0 0),.v (.bool false),.v (.slice none 0 0),.v (.bool false),.v (.slice none 0 0),.v (.bool false),.v (.slice none 0 0),.v (.bool false),.v (.slice none 0 0)])[i'*9+j']?).getD (.v undef))) rfl rfl rfl (by show (i+1)*152≤140737488355328;omega) (by omega) rfl rfl rfl rfl rfl rfl rfl rfl rfl rfl<|mW rfl<|mT<|cSeq<|cRaw 3 3 rfl rfl (by omega) (fun gg cp hcp=>?_);refine cAnyB (by kernel_rfl)<|bTake 0 rfl (by kernel_rfl) (by kernel_rfl) (by kernel_rfl) (fun _ _ h=>h) rfl rfl (av:= .d (.one (.v (.slice (some ⟨gg,0,none⟩) (i+1) cp)))) (pMove rfl rfl)<|bTake 1 rfl (by kernel_rfl) (by kernel_rfl) (by kernel_rfl) (fun _ _ h=>h) rfl rfl (av:= .d (.one (.v (.int .i64 ((k:Nat):Int))))) (pMove rfl rfl)<|bTake 4 rfl (by kernel_rfl) (by kernel_rfl) (by kernel_rfl) (fun _ _ h=>h) rfl rfl (av:= .d (.one (.v (.slice (some ⟨gg,0,none⟩) (i+1) cp)))) (pMove rfl rfl)<|bTake 5 rfl (by kernel_rfl) (by kernel_rfl) (by kernel_rfl) (fun _ _ h=>h) rfl rfl (av:= .d (.one (.v (.int .i64 ((k:Nat):Int))))) (pMove rfl rfl)<|bTake 6 rfl (by kernel_rfl) (by kernel_rfl) (by kernel_rfl) (fun _ _ h=>h) rfl rfl (av:= .d (.one (.v (.slice (some ⟨gg,if cp=k then 0 else k*9,none⟩) ((i+1)-k) (cp-k))))) (pSlR hTT (lo:=k) (N:=i+1) rfl rfl rfl rfl rfl rfl (bndK rfl) (by omega))<|bOf<|anyS [2] (by kernel_rfl) rfl ?_;refine ⟨⟨_,rfl,?_⟩,trivial⟩;refine mV hTT (.d (.one (.v (.int .i64 ((k+1:Nat):Int))))) (evi (inc64 (by omega)))<|mT<|anyS [3] (by kernel_rfl) rfl ?_;refine ⟨⟨_,rfl,?_⟩,trivial⟩;refine mX (.d (.one (.v (.slice (some ⟨gg,if cp=k+1 then 0 else (k+1)*9,none⟩) ((i+1)-(k+1)) (cp-(k+1)))))) (evx_p (pSlR hTT (lo:=k+1) (N:=i+1) rfl rfl rfl rfl rfl rfl (bndK rfl) (by omega)))<|mT<|anyS [7] (by kernel_rfl) rfl ?_;refine ⟨⟨_,rfl,?_⟩,trivial⟩;exact mCpO hTT (tw:=32) (id:=3) (N:=(i+1)) (k:=k) (g:=gg) (cap:=cp) rfl rfl rfl rfl rfl rfl rfl rfl rfl rfl rfl rfl (by omega) hcp<|mT<|anyN (by kernel_rfl)<|tN<|AW.wk (wkLo 3 32 3 rfl rfl rfl)<|cReg<|mv3 rfl rfl rfl<|mY (aAFresh (hz i)) rfl<|mV hTT (.eptr 3 9 k 0) (ixO (z:=((k:Nat):Int)) (n:=(i+1)) rfl rfl rfl rfl rfl rfl rfl (by omega) (by omega))<|mZ rfl<|mNil<|bN<|tN<|cReg<|mv2 rfl rfl<|mNil<|⟨(i+1),by omega,by omega,wk rfl ⟨hs rfl,hs rfl,hs rfl,hs' rfl (le_int (inc64 (by omega))),trivial⟩ ⟨ho' rfl (leo_ins (x:=ga As i) hsl hkp rfl),trivial⟩ rfl⟩
  ·by_cases hc:cmpC (atC (ga As i)) (acu (srt As i) (k-1)) < 0
   ·exact cDk 12<|.cons (OpS.V _ rfl)<|oTd rfl (by omega)<|.cons (OpS.V _ rfl)<|oV rfl<|.cons (OpS.V _ rfl)<|.cons (OpS.V _ rfl)<|.cons (OpS.V (.d (.one (.v (.int .i64 ((k-1:Nat):Int))))) (evi ((wr64 (by omega) (by omega)).trans (by omega))))<|.cons (OpS.V (.eptr 3 9 (k-1) 0) (ixO (z:=((k-1:Nat):Int)) (n:=i) rfl rfl rfl rfl rfl rfl rfl (by omega) (by omega)))<|oV rfl<|oC (aACmp (X:=X) (KC:=KC) (N:=N) hoi (hos (k-1) (by omega)) hN (hcN i hin) (hls (k-1) (by omega)) hKC hC hX hX1) rfl<|oTd rfl hc<|.cons (OpS.V _ rfl)<|.nil<|mT<|cT rfl<|cSkip<|tN<|cBlock<|cReg<|mW rfl<|mV hTT (.d (.one (.v (.int .i64 ((k-1:Nat):Int))))) (evi ((wr64 (by omega) (by omega)).trans (by omega)))<|mW rfl<|mNil<|bN<|⟨(k-1),⟨by omega,(insK_t hk0 hc).trans hK⟩,by show k-1 < k;omega,wkr rfl rfl⟩
   ·refine cDk 12<|.cons (OpS.V _ rfl)<|oTd rfl (by omega)<|.cons (OpS.V _ rfl)<|oV rfl<|.cons (OpS.V _ rfl)<|.cons (OpS.V _ rfl)<|.cons (OpS.V (.d (.one (.v (.int .i64 ((k-1:Nat):Int))))) (evi ((wr64 (by omega) (by omega)).trans (by omega))))<|.cons (OpS.V (.eptr 3 9 (k-1) 0) (ixO (z:=((k-1:Nat):Int)) (n:=i) rfl rfl rfl rfl rfl rfl rfl (by omega) (by omega)))<|oV rfl<|oC (aACmp (X:=X) (KC:=KC) (N:=N) hoi (hos (k-1) (by omega)) hN (hcN i hin) (hls (k-1) (by omega)) hKC hC hX hX1) rfl<|oFd rfl hc<|.cons (OpS.V _ rfl)<|.nil<|mT<|cF rfl<|cExit<|tE<|tE<|bE<|tN<|cSeq ?_;have hkp:insK (srt As i) (ga As i) i=k:=hK▸insK_f (Or.inr hc);refine cReg<|mv2 rfl rfl<|mB hTT (.d (.one (.row 9 1 (fun i' j'=>(([.v (.slice none 0 0),.v (.bool false),.v (.slice none 0 0),.v (.bool false),.v (.slice none 0 0),.v (.bool false),.v (.slice none 0 0),.v (.bool false),.v (.slice none 0 0)])[i'*9+j']?).getD (.v undef))))) rfl<|mA hTT (id:=3) (n:=i) (m:=1) (el:=(elg K L (srt As i))) (el2:=(fun i' j'=>(([.v (.slice none 0 0),.v (.bool false),.v (.slice none 0 0),.v (.bool false),.v (.slice none 0 0),.v (.bool false),.v (.slice none 0 0),.v (.bool false),.v (.slice none 0 0)])[i'*9+j']?).getD (.v undef))) rfl rfl rfl (by show (i+1)*152≤140737488355328;omega) (by omega) rfl rfl rfl rfl rfl rfl rfl rfl rfl rfl<|mW rfl<|mT<|cSeq<|cRaw 3 3 rfl rfl (by omega) (fun gg cp hcp=>?_);refine cAnyB (by kernel_rfl)<|bTake 0 rfl (by kernel_rfl) (by kernel_rfl) (by kernel_rfl) (fun _ _ h=>h) rfl rfl (av:= .d (.one (.v (.slice (some ⟨gg,0,none⟩) (i+1) cp)))) (pMove rfl rfl)<|bTake 1 rfl (by kernel_rfl) (by kernel_rfl) (by kernel_rfl) (fun _ _ h=>h) rfl rfl (av:= .d (.one (.v (.int .i64 ((k:Nat):Int))))) (pMove rfl rfl)<|bTake 4 rfl (by kernel_rfl) (by kernel_rfl) (by kernel_rfl) (fun _ _ h=>h) rfl rfl (av:= .d (.one (.v (.slice (some ⟨gg,0,none⟩) (i+1) cp)))) (pMove rfl rfl)<|bTake 5 rfl (by kernel_rfl) (by kernel_rfl) (by kernel_rfl) (fun _ _ h=>h) rfl rfl (av:= .d (.one (.v (.int .i64 ((k:Nat):Int))))) (pMove rfl rfl)<|bTake 6 rfl (by kernel_rfl) (by kernel_rfl) (by kernel_rfl) (fun _ _ h=>h) rfl rfl (av:= .d (.one (.v (.slice (some ⟨gg,if cp=k then 0 else k*9,none⟩) ((i+1)-k) (cp-k))))) (pSlR hTT (lo:=k) (N:=i+1) rfl rfl rfl rfl rfl rfl (bndK rfl) (by omega))<|bOf<|anyS [2] (by kernel_rfl) rfl ?_;refine ⟨⟨_,rfl,?_⟩,trivial⟩;refine mV hTT (.d (.one (.v (.int .i64 ((k+1:Nat):Int))))) (evi (inc64 (by omega)))<|mT<|anyS [3] (by kernel_rfl) rfl ?_;refine ⟨⟨_,rfl,?_⟩,trivial⟩;refine mX (.d (.one (.v (.slice (some ⟨gg,if cp=k+1 then 0 else (k+1)*9,none⟩) ((i+1)-(k+1)) (cp-(k+1)))))) (evx_p (pSlR hTT (lo:=k+1) (N:=i+1) rfl rfl rfl rfl rfl rfl (bndK rfl) (by omega)))<|mT<|anyS [7] (by kernel_rfl) rfl ?_;refine ⟨⟨_,rfl,?_⟩,trivial⟩;exact mCpO hTT (tw:=32) (id:=3) (N:=(i+1)) (k:=k) (g:=gg) (cap:=cp) rfl rfl rfl rfl rfl rfl rfl rfl rfl rfl rfl rfl (by omega) hcp<|mT<|anyN (by kernel_rfl)<|tN<|AW.wk (wkLo 3 32 3 rfl rfl rfl)<|cReg<|mv3 rfl rfl rfl<|mY (aAFresh (hz i)) rfl<|mV hTT (.eptr 3 9 k 0) (ixO (z:=((k:Nat):Int)) (n:=(i+1)) rfl rfl rfl rfl rfl rfl rfl (by omega) (by omega))<|mZ rfl<|mNil<|bN<|tN<|cReg<|mv2 rfl rfl<|mNil<|⟨(i+1),by omega,by omega,wk rfl ⟨hs rfl,hs rfl,hs rfl,hs' rfl (le_int (inc64 (by omega))),trivial⟩ ⟨ho' rfl (leo_ins (x:=ga As i) hsl hkp rfl),trivial⟩ rfl⟩
 ·refine cExit<|tE<|tE<|bE<|tN<|cSeq ?_;obtain rfl:i=n:=by have h0:=of_decide_eq_false hc1;omega
  exact AW.wk (wkRow 3 rfl)<|cReg<|mv2 rfl rfl<|mT<|cRet<|rQ rfl (AV.le.rfl)
end Go.Proofs.YthccmbncplakjaaGreat
