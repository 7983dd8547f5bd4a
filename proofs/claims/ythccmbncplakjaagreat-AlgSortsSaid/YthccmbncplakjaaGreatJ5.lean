/-
  Laws of the program's functions by an abstract machine, part 5: joined, short spelling. No condition.
-/
import Derived.Test.YthccmbncplakjaaGreatJ4
set_option linter.unusedVariables false
set_option linter.unusedSimpArgs false
set_option maxRecDepth 100000
set_option maxHeartbeats 4000000
namespace Go.Proofs.YthccmbncplakjaaGreat
open Go.RowKit
theorem aQSizedE{c d:Nat→Int}{M:Nat}(zd:z20 d)(h1:1≤M)(hM:M≤100000):ACall Tryz.prog 135 [.one (exL (RsP c d M) (fun r=>qrow M (lg r) (rc r)))] (.d (.one (exL (RsP c d M) (fun r=>qrow M (lg r) (rc r))))):=
 ACall.exl (enters Tryz.func135 rfl rfl) fun r hr=>ACall.le (dl DV.same dl0) (exL_intro (Q:=RsP c d M) (L:=fun r=>qrow M (lg r) (rc r)) (szq r) hr.szq) (aQSized hr.z h1 hM)
theorem neg_le{X K:Nat}{c:Nat→Int}(z:z20 c)(hK:1≤K)(h:Db K c):AV.le (.d (.one (qrow X (dg (fsclQ (rc c) ((-1:Int):Rat)) (lg c)) (fsclQ (rc c) ((-1:Int):Rat))))) (.d (.one (qrow K (lg (fneg c)) (rc (fneg c))))):=by
 have e:fsclQ (rc c) ((-1:Int):Rat)=rc (fneg c):=funext fun i=>by
  show ((c i:Int):Rat)*((-1:Int):Rat)=((-(c i):Int):Rat)
  rw [← Rat.intCast_mul];congr 1;omega
 rw [e];exact le_dg_t (lg_dg2 (fun i hi=>by unfold fneg;rw [z.lg i hi];rfl) (z20_neg z)) hK h.neg
theorem leo_qapp2{e:TypeId}{K n:Nat}{L:List (Nat→Int)}{b:Nat→Int}{el2:Nat→Nat→Lf}(hn:L.length=n)(h2:∀ B w v,LfR B w (el2 0 0) v→LfR B w (qrow K (lg b) (rc b)) v):AO.le (.row e 1 (L.length+1) (appEl L.length (elQ K L) el2)) (.row e 1 (L ++ [b]).length (elQ K (L ++ [b]))):=by
 rw [show (L ++ [b]).length=L.length+1 from by rw [List.length_append];rfl];refine leo_row fun i hi j hj B w v hv=>?_
 obtain rfl:j=0:=by omega
 unfold appEl at hv
 by_cases h:i < L.length
 ·rw [show Nat.ble (i+1) L.length=true from Nat.ble_eq_true_of_le h] at hv
  unfold elQ;rw [gl_app h];exact hv
 ·obtain rfl:i=L.length:=by omega
  rw [show Nat.ble (L.length+1) L.length=false from by rw [← Bool.not_eq_true,Nat.ble_eq];omega,Nat.sub_self] at hv;unfold elQ;rw [gl_last];exact h2 _ _ _ hv
theorem aQChain{K M KC N Ms:Nat}{c:Nat→Int}(zc:z20 c)(h2:2≤lg c)(hN:N≤10)(hcN:lg c≤N)(hM64:1≤M)(hM1:1≤M)(hB:DvB c M)(hK1:1≤K)(hK:K≤100000)(hKC:(M+2)*(2*3^N)≤KC)(hC:KC≤90000)(hS:SqP c Ms (sqP c)):ACall Tryz.prog 74 [.one (qrow K (lg c) (rc c))] (.d (.one (exL (ChP c Ms KC) (fun L=>qlr KC L)))):=by
 have hlc:=lg_le c;have hMK:M+2≤KC:=Nat.le_trans (Nat.le_mul_of_pos_right _ (Nat.mul_pos (by decide) (Nat.pow_pos (by decide)))) hKC;have bs:Db M (sqP c):=hB _ hS.z hS.pm.one hS.dv;have hsl:=(lg_dv zc hS.z (by omega) hS.dv).2;refine aN 31 [.tmp 2] Tryz.func74 rfl<|cR<|mW rfl<|mT<|cR<|mW rfl<|mY (aQSquare (M:=M) (KC:=KC) (N:=N) zc h2 hN hcN hM64 hM1 hB hK1 hK hKC hC) rfl<|mW rfl<|mT<|cR<|mW rfl<|mR hTT (.row 24 1 1 (fun i' j'=>(([.row 4 (lg (sqP c)) (qel M (rc (sqP c)))])[i'*1+j']?).getD (.v undef))) rfl rfl rfl<|mW rfl<|mT<|cR<|mW rfl<|mY (aQDer (isqp (K:=M) (c:=(rc (sqP c))) (rc_z hS.z.lg)) (M:=(max (M+65) 64))) rfl<|mView 11 (.d (.one (.row 4 (lg (fder (sqP c))) (qel (M+1) (rc (fder (sqP c))))))) rfl (der_le hS.z (by omega) (bs.fder hS.z))<|mY (aQSized (z20_der hS.z) (by omega) (by omega)) rfl<|mW rfl<|mT<|cSeq<|cBlock<|wK [5,4] [9] rfl rfl<|wB [5,4] [] 9 (.row 24 1 (([] ++ [sqP c]).length) (elQ KC ([] ++ [sqP c]))) rfl rfl (AO.le.trans (leo_qone rfl) (leo_row fun i hi j hj B w v hv=>by obtain rfl:i=0:=(by have:i < 1:=hi;omega);exact qrow_tight (by omega) (fun i _=>(bs.mono (by omega)) i) B w v hv)) rfl ?_;refine cView 5 (.d (.one (.row 4 (lg (prm20 (fder (sqP c)))) (qel (M+1) (rc (prm20 (fder (sqP c)))))))) rfl (AV.of_eq (by rw [szq_der hS.z hS.pm] <;> rfl)) ?_;refine cLoop (ι:=Nat×List (Nat→Int)×(Nat→Int)×(Nat→Int)) (fun (p:Nat×List (Nat→Int)×(Nat→Int)×(Nat→Int))=>match p with | (X,L0,a,b)=>⟨31,[(4,.own 9),(5,.d (.one (.row 4 (lg b) (qel X (rc b)))))],[(9,.row 24 1 ((L0 ++ [a]).length) (elQ KC (L0 ++ [a])))]⟩) (fun (p:Nat×List (Nat→Int)×(Nat→Int)×(Nat→Int))=>match p with | (X,L0,a,b)=>ChD (sqP c) (M+1) N KC X L0 a b∧1≤X) (fun (p:Nat×List (Nat→Int)×(Nat→Int)×(Nat→Int))=>match p with | (X,L0,a,b)=>lg b) ((M+1),[],(sqP c),(prm20 (fder (sqP c)))) (⟨.start hN hS.z (bs.mono (by omega)) (bs.fder hS.z).fdv (by omega) hS.ne,by omega⟩) (wkr rfl rfl) ?_;rintro ⟨X,L0,a,b⟩ hI;obtain ⟨hD,hX1⟩:ChD (sqP c) (M+1) N KC X L0 a b∧1≤X:=hI;show AW _ _ _ ⟨_,_,_⟩
 refine cSeq<|cSeq ?_;have za:=hD.za;have zb:=hD.zb;have hXK:=hD.gr.bd hKC;have hla:=hD.la;have hlb:=hD.lb;have ha0:=hD.la0;have hln:=hD.ln;have hlen:(L0 ++ [a]).length=L0.length+1:=by rw [List.length_append];rfl
 by_cases hb0:lg b=0
 ·refine cReg<|mv2 rfl rfl<|mdF rfl (by omega)<|mT<|cF rfl<|cExit<|tE<|tE<|bE<|tN<|cSeq ?_;have hfin:=hD.fin hS hKC hb0;exact AW.wk (wkRow 9 rfl)<|cReg<|mv2 rfl rfl<|mT<|cRet<|rQ rfl (exL_intro (Q:=ChP c Ms KC) (L:=fun L=>qlr KC L) (L0 ++ [a]) hfin.1)
 ·refine cReg<|mv2 rfl rfl<|mdT rfl (by omega)<|mT<|cT rfl<|cSkip<|tN<|cBlock<|cR<|mv2 rfl rfl<|mB hTT (.d (.one (.row 1 1 (fun i' j'=>(([.row 4 (lg b) (qel X (rc b))])[i'*1+j']?).getD (.v undef))))) rfl<|mA hTT (id:=9) (n:=((L0 ++ [a]).length)) (m:=1) (el:=(elQ KC (L0 ++ [a]))) (el2:=(fun i' j'=>(([.row 4 (lg b) (qel X (rc b))])[i'*1+j']?).getD (.v undef))) rfl rfl rfl (by show ((L0 ++ [a]).length+1)*24≤140737488355328;omega) (by omega) rfl rfl rfl rfl rfl rfl rfl rfl rfl rfl<|mW rfl<|mT ?_;have hg1:lg b-1 < lg b:=by omega
  have hN1:=(hD.gr.step hla hlb hg1).bd hKC;refine wB [19,18,17,16,15,14,13,5,4] [] 9 (.row 24 1 ((L0 ++ [a] ++ [b]).length) (elQ KC (L0 ++ [a] ++ [b]))) rfl rfl (leo_qapp2 hlen (qrow_tight (by omega) (fun i _=>(hD.bb.mono (by omega)) i))) rfl ?_;have hgla:gl (L0 ++ [a] ++ [b]) L0.length=a:=by rw [gl_app (by omega),gl_last]
  have hlen2:(L0 ++ [a] ++ [b]).length=L0.length+2:=by rw [List.length_append,hlen];rfl
  refine cReg<|mv3 rfl rfl rfl<|mV hTT (.d (.one (.v (.int .i64 ((L0.length:Nat):Int))))) (evi ((wr64 (by omega) (by omega)).trans (by omega)))<|mV hTT (.eptr 9 1 L0.length 0) (ixO (z:=((L0.length:Nat):Int)) (n:=((L0 ++ [a] ++ [b]).length)) rfl rfl rfl rfl rfl rfl rfl (by omega) (by omega))<|mv2 rfl rfl<|mView 25 (.d (.one (.row 4 (lg a) (qel X (rc a))))) rfl ((fun ρ B w v h=>by have h:AR ρ B w (.d (.one (qrow KC (lg (gl (L0 ++ [a] ++ [b]) L0.length)) (rc (gl (L0 ++ [a] ++ [b]) L0.length))))) v:=h;rw [hgla] at h;exact le_qrow_t (by omega) hD.ba ρ B w v h)) ?_;refine mView 26 (.d (.one (.row 4 (lg b) (qel X (rc b))))) rfl (AV.le.rfl)<|mY (aQRest (M:=(X+(lg a+1-lg b)*(X+1))) za zb hb0 (by omega) (by omega) (by omega) (by omega) (Nat.le_refl _)) rfl<|mY (aQSizedE zb (by omega) (by omega)) rfl<|mEx (Qx:=RsP a b (X+(lg a+1-lg b)*(X+1))) (L:=fun r=>qrow (X+(lg a+1-lg b)*(X+1)) (lg r) (rc r)) 28 rfl (fun R hR=>?_);have hRl:=lg_le R;exact mY (aQNeg (isqp (K:=(X+(lg a+1-lg b)*(X+1))) (c:=(rc R)) (rc_z hR.z.lg)) (M:=(max ((X+(lg a+1-lg b)*(X+1))+65) 64))) rfl<|mW rfl<|mNil<|bN<|⟨((X+(lg a+1-lg b)*(X+1)),(L0 ++ [a]),b,(fneg R)),⟨hD.step hKC hb0 hR,by omega⟩,by have hl9:=hR.lt;have hl8:lg (fneg R)≤lg R:=lg_of_z (z20_neg hR.z) fun i hi=>by {unfold fneg;rw [hR.z.lg i hi];rfl};show lg (fneg R) < lg b;omega,wk rfl ⟨hs rfl,hs' rfl (neg_le hR.z (by omega) hR.b),trivial⟩ ⟨ho rfl,trivial⟩ rfl⟩
/-! ### Counts -/
def ChQ(c:Nat→Int)(KC:Nat)(L:List (Nat→Int)):Prop:=∃ p M,ChP p M KC L∧gl L 0=c
theorem ChP.q{p:Nat→Int}{M KC:Nat}{L:List (Nat→Int)}(h:ChP p M KC L):ChQ (sqP p) KC L:=⟨p,M,h,h.sq.eq⟩
noncomputable def cntC(c:Nat→Int)(lo hi:Rat):Nat:=open Classical in if h:∃ N,Ctd (FF c) lo hi N then h.choose else 0
theorem cntC_eq{c:Nat→Int}(z:z20 c){lo hi:Rat}(hab:lo≤hi){N:Nat}(h:Ctd (FF c) lo hi N):cntC c lo hi=N:=by
 have hx:∃ N,Ctd (FF c) lo hi N:=⟨N,h⟩
 unfold cntC;rw [dif_pos hx];exact hx.choose_spec.uniq (FF_po z) hab h
section
variable {c:Nat→Int} {KC:Nat} {L:List (Nat→Int)}
theorem ChQ.z(h:ChQ c KC L):z20 c:=by obtain ⟨p,M,k,e⟩:=h;rw [← e];exact k.z 0
theorem ChQ.len(h:ChQ c KC L):1≤L.length∧L.length≤11:=by obtain ⟨p,M,k,e⟩:=h;exact ⟨k.len,k.ln⟩
theorem ChQ.zz(h:ChQ c KC L)(i:Nat):z20 (gl L i):=by obtain ⟨p,M,k,e⟩:=h;exact k.z i
theorem ChQ.cnt(h:ChQ c KC L){lo hi:Rat}(hab:lo≤hi):vr (sgL L lo)=vr (sgL L hi)+cntC c lo hi∧(cntC c lo hi=0↔RFree (FF c) lo hi)∧(2≤lg c→Ctd (FF c) lo hi (cntC c lo hi)):=by
 have zc:=h.z;obtain ⟨p,M,k,e⟩:=h;obtain ⟨N,h1,h2,h3⟩:=k.cnt hab;rw [e] at h2 h3
 by_cases hl:2≤L.length
 ·have hN:=cntC_eq zc hab (h3 hl)
  rw [hN];exact ⟨h1,h2,fun _=>h3 hl⟩
 ·have hl1:L.length=1:=by have:=k.len;omega
  have hlg:=k.cst hl1;rw [e] at hlg;have hf:RFree (FF c) lo hi:=by
   obtain ⟨κ,hκ,hk⟩:=lg_one_const zc hlg;exact ⟨sgq κ,fun h=>hκ (sgq_eq_zero.1 h),fun t _ _=>by rw [hk]⟩
  have h0:cntC c lo hi=0:=by
   unfold cntC;split
   ·rename_i hx
    exact (hx.choose_spec.free (FF_po zc) hab).2 hf
   ·rfl
  rw [h0];have:=h2.2 hf;exact ⟨by omega,⟨fun _=>hf,fun _=>rfl⟩,fun h=>by omega⟩
end
/-- That counts are counts. -/
structure Cnt(c:Nat→Int):Prop where
 z:z20 c
 l2:2≤lg c
 sq:Sqf (FF c) (FF (fder c))
 ctd:∀ lo hi,lo≤hi→Ctd (FF c) lo hi (cntC c lo hi)
theorem Cnt.free{c:Nat→Int}(h:Cnt c){lo hi:Rat}(hab:lo≤hi):cntC c lo hi=0↔RFree (FF c) lo hi:=(h.ctd lo hi hab).free (FF_po h.z) hab
theorem ex_der0{c:Nat→Int}(z:z20 c)(h2:2≤lg c):∃ x,FF (fder c) x≠0:=by
 refine FF_nz (z20_der z) fun e=>?_
 have:=fder_zero z e;omega
theorem cnt_of{c:Nat→Int}(z:z20 c)(h2:2≤lg c)(sq:Sqf (FF c) (FF (fder c))):Cnt c:=by
 refine ⟨z,h2,sq,fun lo hi hab=>?_⟩;obtain ⟨g,l,hst,_⟩:=sq.stm (ex_der0 z h2);obtain ⟨N,hN⟩:=sturm hst hab;have h:Ctd (FF c) lo hi N:=⟨g,l,hst,hN⟩;rw [cntC_eq z hab h];exact h
section
variable {c:Nat→Int} {lo hi:Rat}
theorem rfree_self(f:Fn)(a:Rat):RFree f a a:=⟨1,by decide,fun t h1 h2=>by grind⟩
theorem Cnt.lt(h:Cnt c)(hab:lo≤hi)(hn:cntC c lo hi≠0):lo < hi:=by
 by_cases e:lo < hi
 ·exact e
 ·exfalso
  have:lo=hi:=by grind
  subst this;exact hn ((h.free hab).2 (rfree_self _ _))
theorem Cnt.add(h:Cnt c){m:Rat}(h1:lo≤m)(h2:m≤hi):cntC c lo hi=cntC c lo m+cntC c m hi:=by
 exact cntC_eq h.z (by grind) ((h.ctd lo m h1).cat (FF_po h.z) h1 h2 (h.ctd m hi h2))
theorem Cnt.okI(h:Cnt c)(hab:lo≤hi)(h1:cntC c lo hi=1):OkI (FF c) (FF (fder c)) lo hi:=⟨h.sq,h.lt hab (by omega),by rw [← h1];exact h.ctd lo hi hab⟩
/-! ### Ends that are roots -/
noncomputable def exF(c:Nat→Int)(lo hi:Rat):Rat×Rat:=if ¬ lo=hi∧sgq (FF c hi)=0 then (hi,hi) else (lo,hi)
def EX(c:Nat→Int)(lo hi:Rat):Prop:=lo=hi∨sgq (FF c hi)≠0
theorem exF_ex(c:Nat→Int)(lo hi:Rat):EX c (exF c lo hi).1 (exF c lo hi).2:=by
 unfold exF;split
 ·exact Or.inl rfl
 ·rename_i h
  by_cases e:lo=hi
  ·exact Or.inl e
  ·exact Or.inr fun k=>h ⟨e,k⟩
/-- One root in an interval. -/
theorem Cnt.okV(h:Cnt c)(hab:lo≤hi)(h1:cntC c lo hi=1):OkV c lo hi:=by
 have o:=h.okI hab h1;have hlt:=o.lt;refine ⟨⟨h.z,hab,fun _=>o⟩,h.sq,h.l2,?_⟩;rw [cutA_I hlt];obtain ⟨g,l,hst⟩:=o.stm;exact cutN_vc hst (FF_po h.z) hlt fun hf=>by have:=(h.free hab).2 hf;omega
theorem exF_nar(o:OkA c lo hi):Nar c lo hi (exF c lo hi).1 (exF c lo hi).2:=by
 unfold exF
 by_cases h:¬ lo=hi∧sgq (FF c hi)=0
 ·rw [if_pos h]
  have hlt:lo < hi:=by have:=o.le;grind
  refine ⟨okA_P o.z hi,fun q=>?_,o.le,by show hi≤hi;grind⟩;show cutA c hi hi q↔_
  rw [cutA_P (show hi≤hi by grind),cutA_I hlt];exact (cutI_root (o.i hlt) hlt (by grind) (sgq_eq_zero.1 h.2) q).symm
 ·rw [if_neg h];exact Nar.refl o
/-! ### Halved -/
noncomputable def qhl(c:Nat→Int)(lo hi:Rat):Rat×Rat:=
 if lo=hi then (lo,hi) else if 0 < cntC c lo ((lo+hi) / 2) then exF c lo ((lo+hi) / 2) else exF c ((lo+hi) / 2) hi
theorem OkA.rat0(o:OkA c lo hi){m:Rat}(h1:lo < m)(h2:m≤hi):cmpC (cutA c lo hi) (cutP m)=0↔sgq (FF c m)=0:=by
 rw [o.rat,if_neg (show ¬ hi≤lo by grind),if_neg (show ¬ m≤lo by grind),if_neg (show ¬ hi < m by grind)];split
 ·exact ⟨fun _=>by assumption,fun _=>rfl⟩
 ·rename_i k
  split
  ·exact ⟨fun e=>by omega,fun e=>absurd e k⟩
  ·exact ⟨fun e=>by omega,fun e=>absurd e k⟩
theorem Cnt.cut(h:Cnt c)(o:OkA c lo hi){m:Rat}(h1:lo < m)(h2:m≤hi):cutA c lo hi m↔cntC c lo m=0:=by
 have hlt:lo < hi:=by grind
 rw [h.free (show lo≤m by grind),cutA_I hlt]
 by_cases e:m < hi
 ·exact cutI_free (o.i hlt) (by grind) e
 ·have e2:m=hi:=by grind
  subst e2;refine ⟨fun k=>absurd k (cutI_hi hlt (by grind)),fun k=>?_⟩;have:=((o.i hlt).one.free (FF_po h.z) (by grind)).2 k;omega
theorem Cnt.cmp(h:Cnt c)(o:OkA c lo hi){m:Rat}(h1:lo < m)(h2:m≤hi):cmpC (cutA c lo hi) (cutP m)=if cntC c lo m=0 then 1 else if sgq (FF c m)=0 then 0 else -1:=by
 have hc:=h.cut o h1 h2
 by_cases h0:cntC c lo m=0
 ·rw [if_pos h0];exact cmpC_P1 o.cut (hc.2 h0)
 ·rw [if_neg h0]
  by_cases hs0:sgq (FF c m)=0
  ·rw [if_pos hs0];exact (o.rat0 h1 h2).2 hs0
  ·rw [if_neg hs0]
   rcases cmpC_bd (cutA c lo hi) (cutP m) with k | k | k
   ·exact k
   ·exact absurd ((o.rat0 h1 h2).1 k) hs0
   ·exfalso
    have h3:¬ cutA c lo hi m:=fun k=>h0 (hc.1 k)
    have h4:cmpC (cutA c lo hi) (cutP m)≤0:=(cmpC_le o.cut (cutP_ok m)).2 fun q hq=>o.cut.nb hq h3
    omega
theorem Cnt.half(h:Cnt c)(o:OkA c lo hi)(ex:EX c lo hi):qhl c lo hi=hlf c lo hi∧EX c (hlf c lo hi).1 (hlf c lo hi).2:=by
 have key:qhl c lo hi=hlf c lo hi:=by
  unfold qhl hlf
  by_cases e:lo=hi
  ·rw [if_pos e,if_pos (by grind)]
  ·have hlt:lo < hi:=by have:=o.le;grind
   rw [if_neg e,if_neg (show ¬ hi≤lo by grind)];obtain ⟨m,hm⟩:∃ m,m=(lo+hi) / 2:=⟨_,rfl⟩
   rw [← hm];have m1:lo < m:=by grind
   have m2:m < hi:=by grind
   rw [h.cmp o m1 (show m≤hi by grind)]
   by_cases h0:cntC c lo m=0
   ·rw [if_neg (show ¬ 0 < cntC c lo m by omega),if_pos h0,if_neg (show ¬ (1:Int)=0 by decide),if_neg (show ¬ (1:Int)= -1 by decide)]
    unfold exF;rw [if_neg];rintro ⟨_,k⟩;rcases ex with x | x
    ·exact e x
    ·exact x k
   ·rw [if_pos (show 0 < cntC c lo m by omega),if_neg h0]
    unfold exF
    by_cases hs0:sgq (FF c m)=0
    ·rw [if_pos ⟨by grind,hs0⟩,if_pos hs0,if_pos rfl]
    ·rw [if_neg (fun k=>hs0 k.2),if_neg hs0,if_neg (show ¬ (-1:Int)=0 by decide),if_pos rfl]
 refine ⟨key,?_⟩;rw [← key];unfold qhl;split
 ·rename_i e;exact Or.inl e
 ·split
  ·exact exF_ex _ _ _
  ·exact exF_ex _ _ _
/-! ### Against a rational number -/
noncomputable def crQ(c:Nat→Int)(lo hi t:Rat):Int:=if lo=hi then cmpQ lo t else if t≤lo then 1 else if hi < t then -1 else if cntC c lo t=0 then 1 else if sgq (FF c t)=0 then 0 else -1
theorem Cnt.rat(h:Cnt c)(o:OkA c lo hi)(t:Rat):crQ c lo hi t=cmpC (cutA c lo hi) (cutP t):=by
 unfold crQ
 by_cases e:lo=hi
 ·rw [if_pos e,o.rat,if_pos (by grind)]
 ·have hlt:lo < hi:=by have:=o.le;grind
  rw [if_neg e]
  by_cases h1:t≤lo
  ·rw [if_pos h1,o.rat,if_neg (by grind),if_pos h1]
  ·by_cases h2:hi < t
   ·rw [if_neg h1,if_pos h2,o.rat,if_neg (by grind),if_neg h1,if_pos h2]
   ·rw [if_neg h1,if_neg h2,h.cmp o (by grind) (by grind)]
end
/-! ### All roots -/
noncomputable def spF(c:Nat→Int):Nat→Rat→Rat→List (Rat×Rat)
 | 0,_,_=> []
 | n+1,lo,hi=>if cntC c lo hi=0 then [] else if cntC c lo hi=1 then [exF c lo hi] else spF c n lo ((lo+hi) / 2) ++spF c n ((lo+hi) / 2) hi
structure SpP(c:Nat→Int)(lo hi:Rat)(l:List (Rat×Rat)):Prop where
 ok:∀ p∈l,OkV c p.1 p.2∧EX c p.1 p.2∧lo≤p.1∧p.2≤hi∧cutA c p.1 p.2 lo
 all:∀ C,IsCut C→VC (FF c) C→C lo→¬ C hi→∃ p∈l,∀ q,cutA c p.1 p.2 q↔C q
 rise:l.Pairwise fun p q=>cmpC (cutA c p.1 p.2) (cutA c q.1 q.2)= -1
 len:l.length=cntC c lo hi
theorem rfree_vc{f g:Fn}{l:List Fn}(hst:Stm f g l)(pf:Po f){a b:Rat}(h:RFree f a b){C:Cut}(hC:IsCut C)(ca:C a)(cb:¬ C b)(v:VC f C):False:=by
 obtain ⟨a',h1,h2⟩:=hC.up a ca;obtain ⟨s,hs,hst'⟩:=h;have hab:=hC.nb h2 cb;obtain ⟨e,he,hf⟩:=free_far hst pf (a:=a') (b:=b) (by grind) (by rw [hst' a' h1 (by grind)];exact hs) fun t t1 t2=>by rw [hst' t (by grind) t2,hst' a' h1 (by grind)]
 obtain ⟨t,t1,t2,ht⟩:=v (e / 2) (by grind) a' b h2 cb;have:=hf t t1 t2;unfold Ab at ht;rcases this with k | k <;> grind
theorem Cnt.one{c:Nat→Int}{lo hi:Rat}(h:Cnt c)(hab:lo≤hi)(h1:cntC c lo hi=1){C:Cut}(hC:IsCut C)(v:VC (FF c) C)(ca:C lo)(cb:¬ C hi)(q:Rat):cutA c lo hi q↔C q:=by
 have o:=h.okI hab h1;obtain ⟨g,l,hst⟩:=o.stm;rw [cutA_I o.lt];constructor
 ·intro k
  apply Classical.byContradiction;intro nq;have hq:=hC.nb ca nq;have hqh:q < hi:=by rcases k with k | k;grind;exact k.1
  exact rfree_vc hst (FF_po h.z) ((cutI_free o (by grind) hqh).1 k) hC ca nq v
 ·intro k
  apply Classical.byContradiction;intro nq;have hqh:=hC.nb k cb;have hf:RFree (FF c) q hi:=Classical.byContradiction fun nf=>nq (Or.inr ⟨hqh,nf⟩)
  exact rfree_vc hst (FF_po h.z) hf hC k cb v
theorem split_one{c:Nat→Int}(h:Cnt c){h1:Nat}(b1:∀ i,(c i).natAbs≤2^h1){lo hi:Rat}(hab:lo≤hi)(hl: -(t2 (h1+1))≤lo)(hh:hi≤t2 (h1+1))(hw:(hi-lo)*t2 (sepE (lg c) (lg c) h1 h1)≤1):cntC c lo hi≤1:=by
 have hlc:=lg_le c;have hp:=t2_pos h1;have e2:t2 (h1+2)=t2 (h1+1)*2:=by rw [show h1+2=(h1+1)+1 from rfl,t2_add (h1+1) 1];rfl
 have hp1:=t2_pos (h1+1);have hin:In (t2 (h1+2)) lo∧In (t2 (h1+2)) hi:=by
  unfold In;constructor <;> constructor <;> grind
 obtain ⟨U,V,z,hz,hUV,hU,hV,hL⟩:=capA h.z h.sq h.l2 b1 (h1+2) (lg c / 2+1) (lg_two _ (by omega));have hx:=expA (n1:=lg c) (n2:=lg c) (h1:=h1) (h2:=h1) (hl:=h1) h.l2 hlc h.l2 (Nat.le_refl _) (Nat.le_refl _);have hs:=small_of hx (show 0≤hi-lo by grind) hw;exact sep_one h.sq.der h.sq.po h.sq.po' hz hUV hU hV hL (by have:=t2_pos (3*(lg c / 2+1)+(h1+2)*lg c+(lg c / 2+1+h1));grind) hin.1 hin.2 hab hs (h.ctd lo hi hab)
theorem spF_ok{c:Nat→Int}(h:Cnt c){h1:Nat}(b1:∀ i,(c i).natAbs≤2^h1):∀ (d:Nat) (lo hi:Rat),lo≤hi→-(t2 (h1+1))≤lo→hi≤t2 (h1+1)→(hi-lo)*t2 (sepE (lg c) (lg c) h1 h1)≤t2 d→SpP c lo hi (spF c (d+1) lo hi):=by
 intro d
 induction d with
 | zero=>
  intro lo hi hab hl hh hw;have h9:=split_one h b1 hab hl hh (by rw [show t2 0=1 from rfl] at hw;exact hw);unfold spF
  by_cases h0:cntC c lo hi=0
  ·rw [if_pos h0]
   obtain ⟨g,l,hst,_⟩:=h.ctd lo hi hab;exact ⟨fun p hp=>absurd hp (by simp),fun C hC v ca cb=>(rfree_vc hst (FF_po h.z) ((h.free hab).1 h0) hC ca cb v).elim,List.Pairwise.nil,by rw [h0];rfl⟩
  ·have e1:cntC c lo hi=1:=by omega
   rw [if_neg h0,if_pos e1];have o:=h.okV hab e1;have n:=exF_nar o.ok;refine ⟨fun p hp=>?_,fun C hC v ca cb=>⟨_,by simp,fun q=>(n.cut q).trans (h.one hab e1 hC v ca cb q)⟩,List.pairwise_singleton _ _,by rw [e1];rfl⟩;obtain rfl:p=exF c lo hi:=by simpa using hp
   refine ⟨o.nar n,exF_ex _ _ _,n.lo,n.hi,(n.cut lo).2 ?_⟩;rw [cutA_I (h.lt hab h0)];exact Or.inl (by grind)
 | succ d ih=>
  intro lo hi hab hl hh hw;unfold spF
  by_cases h0:cntC c lo hi=0
  ·rw [if_pos h0]
   obtain ⟨g,l,hst,_⟩:=h.ctd lo hi hab;exact ⟨fun p hp=>absurd hp (by simp),fun C hC v ca cb=>(rfree_vc hst (FF_po h.z) ((h.free hab).1 h0) hC ca cb v).elim,List.Pairwise.nil,by rw [h0];rfl⟩
  ·rw [if_neg h0]
   by_cases e1:cntC c lo hi=1
   ·rw [if_pos e1]
    have o:=h.okV hab e1;have n:=exF_nar o.ok;refine ⟨fun p hp=>?_,fun C hC v ca cb=>⟨_,by simp,fun q=>(n.cut q).trans (h.one hab e1 hC v ca cb q)⟩,List.pairwise_singleton _ _,by rw [e1];rfl⟩;obtain rfl:p=exF c lo hi:=by simpa using hp
    refine ⟨o.nar n,exF_ex _ _ _,n.lo,n.hi,(n.cut lo).2 ?_⟩;rw [cutA_I (h.lt hab h0)];exact Or.inl (by grind)
   ·rw [if_neg e1]
    obtain ⟨m,hm⟩:∃ m,m=(lo+hi) / 2:=⟨_,rfl⟩
    rw [← hm];have hE:=t2_pos (sepE (lg c) (lg c) h1 h1);have e2:t2 (d+1)=t2 d*2:=by rw [t2_add d 1];rfl
    have m1:lo≤m:=by grind
    have m2:m≤hi:=by grind
    have w1:(m-lo)*t2 (sepE (lg c) (lg c) h1 h1)≤t2 d:=by
     have:m-lo=(hi-lo) / 2:=by grind
     rw [this];rw [e2] at hw;grind
    have w2:(hi-m)*t2 (sepE (lg c) (lg c) h1 h1)≤t2 d:=by
     have:hi-m=(hi-lo) / 2:=by grind
     rw [this];rw [e2] at hw;grind
    have A:=ih lo m m1 hl (by grind) w1;have B:=ih m hi m2 (by grind) hh w2;refine ⟨fun p hp=>?_,fun C hC v ca cb=>?_,?_,by rw [List.length_append,A.len,B.len,h.add m1 m2]⟩
    ·rcases List.mem_append.1 hp with k | k
     ·obtain ⟨a1,a2,a3,a4,a5⟩:=A.ok p k
      exact ⟨a1,a2,a3,by grind,a5⟩
     ·obtain ⟨a1,a2,a3,a4,a5⟩:=B.ok p k
      exact ⟨a1,a2,by grind,a4,a1.ok.cut.down _ _ a5 m1⟩
    ·by_cases cm:C m
     ·obtain ⟨p,k,e⟩:=B.all C hC v cm cb
      exact ⟨p,List.mem_append.2 (Or.inr k),e⟩
     ·obtain ⟨p,k,e⟩:=A.all C hC v ca cm
      exact ⟨p,List.mem_append.2 (Or.inl k),e⟩
    ·refine List.pairwise_append.2 ⟨A.rise,B.rise,fun p hp q hq=>?_⟩
     obtain ⟨a1,a2,a3,a4,a5⟩:=A.ok p hp;obtain ⟨b1,b2,b3,b4,b5⟩:=B.ok q hq;exact cmpC_lt b5 (a1.ok.above a4)
/-! ### The bound -/
def mxA(c:Nat→Int):Nat→Nat
 | 0=>0
 | i+1=>max (mxA c i) (c i).natAbs
theorem mxA_le(c:Nat→Int):∀ {i n:Nat},i < n→(c i).natAbs≤mxA c n
 | i,0,h=>absurd h (Nat.not_lt_zero _)
 | i,n+1,h=>by
  unfold mxA
  by_cases e:i=n
  ·subst e;exact Nat.le_max_right _ _
  ·exact Nat.le_trans (mxA_le c (i:=i) (n:=n) (by omega)) (Nat.le_max_left _ _)
theorem mxA_bd{c:Nat→Int}{H:Nat}(h:∀ i,(c i).natAbs≤H):∀ n,mxA c n≤H
 | 0=>Nat.zero_le _
 | n+1=>by unfold mxA;exact Nat.max_le.2 ⟨mxA_bd h n,h n⟩
def bdQ(c:Nat→Int):Rat:=1+(mxA c (lg c-1):Rat) / ((c (lg c-1)).natAbs:Rat)
section
variable {c:Nat→Int}
theorem lead_pos(h0:lg c≠0):(1:Rat)≤((c (lg c-1)).natAbs:Rat):=by
 have:=lg_ne h0;exact_mod_cast (show 1≤(c (lg c-1)).natAbs by omega)
theorem bdQ_ge(h0:lg c≠0):1≤bdQ c:=by
 have h1:=lead_pos h0;have h2:=nat_nn (mxA c (lg c-1));unfold bdQ;have:0≤(mxA c (lg c-1):Rat) / ((c (lg c-1)).natAbs:Rat):=by
  rw [Rat.div_def];exact Rat.mul_nonneg h2 (by have:=Rat.inv_pos.2 (show (0:Rat) < ((c (lg c-1)).natAbs:Rat) by grind);grind)
 grind
theorem bdQ_le(h0:lg c≠0){H:Nat}(h:∀ i,(c i).natAbs≤H):bdQ c≤1+(H:Rat):=by
 have h1:=lead_pos h0;have h2:(mxA c (lg c-1):Rat)≤(H:Rat):=nat_le (mxA_bd h _);have h3:=nat_nn (mxA c (lg c-1));obtain ⟨k,hk⟩:∃ k,k=(mxA c (lg c-1):Rat) / ((c (lg c-1)).natAbs:Rat):=⟨_,rfl⟩
 have h4:k*((c (lg c-1)).natAbs:Rat)=(mxA c (lg c-1):Rat):=by rw [hk];exact Rat.div_mul_cancel (by grind)
 have hk0:0≤k:=by
  have:=bdQ_ge h0;unfold bdQ at this;rw [← hk] at this;grind
 have h5:k*1≤k*((c (lg c-1)).natAbs:Rat):=Rat.mul_le_mul_of_nonneg_left h1 hk0;unfold bdQ;rw [← hk];grind
theorem bdQ_vc(z:z20 c)(h0:lg c≠0){C:Cut}(hC:IsCut C)(v:VC (FF c) C):C (-(bdQ c))∧¬ C (bdQ c):=by
 obtain ⟨n,hn⟩:∃ n,n=lg c-1:=⟨_,rfl⟩
 obtain ⟨a,ha⟩:∃ a:Rat,a=(c n:Rat):=⟨_,rfl⟩
 have hcn:c n≠0:=by rw [hn];exact lg_ne h0
 have ha0:a≠0:=by rw [ha];exact rc_ne hcn
 obtain ⟨A,hA⟩:∃ A:Rat,A=((c n).natAbs:Rat):=⟨_,rfl⟩
 have hAa:A=a∨A= -a:=by
  rw [hA,ha];rcases Int.natAbs_eq (c n) with e | e
  ·left;rw [e];simp;rfl
  ·right
   obtain ⟨k,hk⟩:∃ k,k=(c n).natAbs:=⟨_,rfl⟩
   rw [← hk] at e ⊢;rw [e,Rat.intCast_neg,Rat.neg_neg];rfl
 have hA1:1≤A:=by rw [hA,hn];exact lead_pos h0
 obtain ⟨H,hH⟩:∃ H:Rat,H=(mxA c n:Rat) / A:=⟨_,rfl⟩
 have hHA:H*A=(mxA c n:Rat):=by rw [hH];exact Rat.div_mul_cancel (by grind)
 have hb:bdQ c=1+H:=by unfold bdQ;rw [hH,hA,hn]
 have hH0:0≤H:=by have:=bdQ_ge h0;grind
 have hce:∀ i,Ab ((if i < n then (c i:Rat) / A else 0)) H:=fun i=>by
  by_cases hi:i < n
  ·rw [if_pos hi]
   obtain ⟨q,hq⟩:∃ q,q=(c i:Rat) / A:=⟨_,rfl⟩
   have h1:q*A=(c i:Rat):=by rw [hq];exact Rat.div_mul_cancel (by grind)
   have h2:((c i).natAbs:Rat)≤(mxA c n:Rat):=nat_le (mxA_le c hi);have h3: -((c i).natAbs:Rat)≤(c i:Rat)∧(c i:Rat)≤((c i).natAbs:Rat):=by
    constructor
    ·have: -(((c i).natAbs:Nat):Int)≤c i:=by omega
     have h9:((-(((c i).natAbs:Nat):Int):Int):Rat)≤(c i:Rat):=by exact_mod_cast this
     rw [Rat.intCast_neg] at h9;exact h9
    ·have:c i≤(((c i).natAbs:Nat):Int):=by omega
     exact_mod_cast this
   rw [← hq];rw [← h1,← hHA] at *
   unfold Ab;constructor
   ·apply Classical.byContradiction
    intro k;have:(q+H)*A < 0:=by
     have:=Rat.mul_pos (show 0 < -(q+H) by grind) (show 0 < A by grind);grind
    grind
   ·apply Classical.byContradiction
    intro k;have:=Rat.mul_pos (show 0 < q-H by grind) (show 0 < A by grind);grind
  ·rw [if_neg hi];exact ab_zero hH0
 have far:∀ t y,(t=y∨t= -y)→1+H≤y→Far (FF c t) 1:=fun t y ht hy=>by
  have hab:Ab t y:=by rcases ht with k | k <;> unfold Ab <;> constructor <;> grind
  have h1:=pe_low hab hH0 hy hce n;have h2:=far_pow ht (show 1≤y by grind) n;have hy1:=pow_ge (B:=y) (by grind) n;have e:∀ m,m≤n→pe (fun i=>if i < n then (c i:Rat) / A else 0) t m*A=pe (rc c) t m:=by
   intro m
   induction m with
   | zero=>intro _;show (0:Rat)*A=0;grind
   | succ m ih=>
    intro hm;show (pe (fun i=>if i < n then (c i:Rat) / A else 0) t m+(if m < n then (c m:Rat) / A else 0)*t^m)*A=pe (rc c) t m+rc c m*t^m
    rw [if_pos (by omega),← ih (by omega)];have:(c m:Rat) / A*A=(c m:Rat):=Rat.div_mul_cancel (by grind);show _=_+(c m:Rat)*t^m
    grind
  have e2:FF c t=pe (rc c) t n+a*t^n:=by
   rw [← FF_lg z,show lg c=n+1 by omega,ha];rfl
  rw [e2,← e n (Nat.le_refl _)];obtain ⟨P,hP⟩:∃ P,P=pe (fun i=>if i < n then (c i:Rat) / A else 0) t n:=⟨_,rfl⟩
  rw [← hP] at h1 ⊢;have h5:Far (P+(if A=a then 1 else -1)*t^n) 1:=by
   unfold Ab at h1;split
   ·rcases h2 with k | k
    ·left;grind
    ·right;grind
   ·rcases h2 with k | k
    ·right;grind
    ·left;grind
  have h6:=Far.mul (d:=1) (e:=A) (by grind) (by grind) h5 (Or.inl (show A≤A by grind));have e3:(P+(if A=a then 1 else -1)*t^n)*A=P*A+a*t^n:=by
   split
   ·rename_i k;rw [← k];grind
   ·rename_i k
    have:A= -a:=by rcases hAa with x | x;exact absurd x k;exact x
    have ha':a= -A:=by grind
    rw [ha'];grind
  rw [e3] at h6;rcases h6 with k | k
  ·left;grind
  ·right;grind
 rw [hb];constructor
 ·apply Classical.byContradiction
  intro nc;obtain ⟨q,hq⟩:=hC.lo;obtain ⟨t,t1,t2,ht⟩:=v (1 / 2) (by grind) q (-(1+H)) hq nc;unfold Ab at ht
  rcases far t (-t) (Or.inr (by grind)) (by grind) with k | k <;> grind
 ·intro cc
  obtain ⟨r,hr⟩:=hC.hi;obtain ⟨t,t1,t2,ht⟩:=v (1 / 2) (by grind) (1+H) r cc hr;unfold Ab at ht;rcases far t t (Or.inl rfl) (by grind) with k | k <;> grind
end
theorem aQSignN{K L n:Nat}{c:Nat→Int}{q:Rat}(zc:z20 c)(hn:n=lg c)(hK:K+L≤476000:=by omega)(hL:L≤476000:=by omega):ACall Tryz.prog 73 [.one (qrow K n (rc c)),.agg (qn L q)] (.d (.one (.v (.int .i64 (sgq (FF c q)))))):=by
 subst hn;have hlc:=lg_le c;have h:=aQSign (a:=qrow K (lg c) (rc c)) (K:=K) (c:=c) (n:=lg c) (fun _ _ _ h=>h) (isq L q) (D:=20) (T:=K+L+140) (M:=21*(K+L+140)) (by omega) (by decide) (Nat.le_refl _) (Nat.le_refl _) (by omega);rw [sgn_vl] at h;rw [show sgq (FF c q)=sgq (pz c q (lg c)) by rw [← FF_lg zc];rfl];exact h
theorem leo_iapp{e:TypeId}{i:Nat}{S:List Int}{el2:Nat→Nat→Lf}(h2:el2 0 0= .v (.int .i64 (S.getD i 0))):AO.le (.row e 1 (i+1) (appEl i (sgl S) el2)) (.row e 1 (i+1) (sgl S)):=leo_row fun p hp j hj B w v hv=>by
 obtain rfl:j=0:=by omega
 unfold appEl at hv
 by_cases h:p < i
 ·rw [show Nat.ble (p+1) i=true from Nat.ble_eq_true_of_le h] at hv;exact hv
 ·obtain rfl:p=i:=by omega
  rw [show Nat.ble (p+1) p=false from by rw [← Bool.not_eq_true,Nat.ble_eq];omega,Nat.sub_self] at hv;exact (show LfR B w (el2 0 0) v from hv) |> fun h9=>by rw [h2] at h9;exact h9
theorem ACall.exh{α:Type}{P:Program}{f:FuncId}{Q:α→Prop}{L:α→Lf}{ds:List DV}{res:AV}(hen:∀ vs w,(callFunc f vs).run P w= .ok (.enter f vs) w)(h:∀ x,Q x→ACall P f (.one (L x) ::ds) res):ACall P f (.one (exL Q L) ::ds) res:=
 ⟨hen,fun B w vs hB hd=>match vs,hd with | v ::vs,⟨⟨x,hq,hl⟩,h2⟩=>(h x hq).go B w (v ::vs) hB ⟨hl,h2⟩⟩
theorem cmpQ_dec(p q:Rat):(cmpQ p q==0)=decide (p=q):=by
 by_cases h:p=q
 ·rw [decide_eq_true h,cmpQ_eq h];rfl
 ·rw [decide_eq_false h];exact beq_eq_false_iff_ne.2 fun e=>h (cmpQ_zero.1 e)
def qac(K:Nat)(c:Nat→Int)(KC X:Nat)(lo:Rat)(Y:Nat)(hi:Rat):List Lf:= [qrow K (lg c) (rc c)] ++ [exL (ChQ c KC) (fun L=>qlr KC L)] ++qn X lo ++qn Y hi
theorem qb_mono{K L:Nat}{q:Rat}(h:Qb K q)(k:K≤L):Qb L q:=⟨Nat.lt_of_lt_of_le h.1 (Nat.pow_le_pow_right (by decide) k),Nat.lt_of_lt_of_le h.2 (Nat.pow_le_pow_right (by decide) k)⟩
theorem qa_bd{K KC X Y:Nat}{c:Nat→Int}{lo hi:Rat}(z:z20 c){B:BS}{w:World}{cs:List Value}(h:LsR B w ([qrow K (lg c) (rc c)] ++ [exL (ChQ c KC) (fun L=>qlr KC L)] ++qn X lo ++qn Y hi) cs):Db K c∧Qb X lo∧Qb Y hi:=by
 have e1:LsR B w ([qrow K (lg c) (rc c)] ++ [exL (ChQ c KC) (fun L=>qlr KC L)] ++qn X lo ++qn Y hi) cs:=h;have d1:=LsR.take 1 h;have d2:=LsR.take 4 (LsR.drop 2 h);have d3:=LsR.drop 6 h;have d2':LsR B w (qn X lo) ((cs.drop 2).take 4):=d2;have d3':LsR B w (qn Y hi) (cs.drop 6):=d3;refine ⟨?_,qn_bdT d2',qn_bdT d3'⟩;cases cs with
 | nil=>exact h.elim
 | cons a r=>exact qrow_bd z.lg (show LfR B w (qrow K (lg c) (rc c)) a from h.1)
theorem qa_le{K KC X Y:Nat}{c:Nat→Int}{lo hi:Rat}(h1:Qb Y lo)(h2:Qb Y hi):AV.le (.d (.agg ([qrow K (lg c) (rc c)] ++ [exL (ChQ c KC) (fun L=>qlr KC L)] ++qn X lo ++qn X hi))) (.d (.agg ([qrow K (lg c) (rc c)] ++ [exL (ChQ c KC) (fun L=>qlr KC L)] ++qn Y lo ++qn Y hi))):=le_agg (ls_cat (ls_cat (fun B w cs h=>h) (qn_tight h1)) (qn_tight h2))
theorem aQTurnsAt{KC X:Nat}{L:List (Nat→Int)}{t:Rat}(hz:∀ i,z20 (gl L i))(hL:L.length≤100000:=by omega)(hK:KC≤100000:=by omega)(hX:KC+X≤476000:=by omega):ACall Tryz.prog 139 [.one (qlr KC L),.agg (qn X t)] (.d (.one (.v (.int .i64 ((vr (sgL L t):Nat):Int))))):=by
 refine aN 24 [.tmp 4] Tryz.func139 rfl<|cR<|mO rfl<|mW rfl<|mT<|cR<|mW rfl<|mT<|cSeq<|cR<|mv3 rfl rfl rfl<|mT<|cBlock<|AW.wk (wkNil 5 5 3 1 (fun _ _=> .v undef) rfl rfl)<|cLoop (ι:=Nat) (fun (i:Nat)=>⟨24,[(0,.d (.one (.row 1 L.length (elQ KC L)))),(3,.ptr 3 0),(8,.d (.one (.v (.int .i64 ((L.length:Nat):Int))))),(5,.own 5),(9,.d (.one (.v (.int .i64 ((i:Nat):Int)))))],[(3,.box 30 (qn X t)),(5,.row 3 1 i (sgl (sgL L t)))]⟩) (fun (i:Nat)=>i≤L.length) (fun (i:Nat)=>L.length-i) 0 (Nat.zero_le _) (wk rfl ⟨hs rfl,hs rfl,hs rfl,hs rfl,hs' rfl (le_int rfl),trivial⟩ ⟨ho rfl,ho' rfl (leo_row0),trivial⟩ rfl) ?_;rintro i hI;have hi:i≤L.length:=hI;show AW _ _ _ ⟨_,_,_⟩
 refine cR<|mW rfl<|mT<|cSeq<|cCond rfl (fun hc1=>?_) (fun hc1=>?_)
 ·refine cSkip<|tN<|cSeq<|cBlock<|cR<|mv2 rfl rfl<|mT ?_;have hin:i < L.length:=by have h0:=of_decide_eq_true hc1;omega
  refine cDk 8<|.cons (OpS.V _ rfl)<|.cons (OpS.V _ rfl)<|.cons (OpS.V _ rfl)<|.cons (OpS.V (.d (.one (.at 1 ((elQ KC L) i)))) (ixR (el:=(elQ KC L)) (z:=((i:Nat):Int)) (n:=L.length) rfl rfl rfl rfl rfl rfl (by omega) (by omega))) ?_;exact oV rfl<|oV rfl<|oC (aQSignN (hz i) rfl) rfl<|.cons (OpS.B _ rfl)<|.nil<|mA hTT (id:=5) (n:=i) (m:=1) (el:=(sgl (sgL L t))) (el2:=(fun i' j'=>(([.v (.int .i64 (sgq (FF (gl L i) t)))])[i'*1+j']?).getD (.v undef))) rfl rfl rfl (by show (i+1)*8≤140737488355328;omega) (by omega) rfl rfl rfl rfl rfl rfl rfl rfl rfl rfl<|mW rfl<|mNil<|bN<|tN<|cReg<|mv2 rfl rfl<|mNil<|⟨(i+1),by omega,by omega,wk rfl ⟨hs rfl,hs rfl,hs rfl,hs rfl,hs' rfl (le_int (inc64 (by omega))),trivial⟩ ⟨ho rfl,ho' rfl (leo_iapp (by rw [sgL_at hin];rfl)),trivial⟩ rfl⟩
 ·refine cExit<|tE<|tE<|bE<|tN<|cSeq ?_;have hie:i=L.length:=by have h0:=of_decide_eq_false hc1;omega
  have hSl:(sgL L t).length=L.length:=by unfold sgL;rw [List.length_map]
  rw [← hSl] at hie;subst hie;exact AW.wk (wkRow 5 rfl)<|cReg<|mW rfl<|mY (aQTurns (sgL_3 L t) (by omega)) rfl<|mW rfl<|mT<|cRet<|rQ rfl (AV.le.rfl)
theorem aQBtwL{KC X Y:Nat}{c:Nat→Int}{L:List (Nat→Int)}{lo hi:Rat}(hQ:ChQ c KC L)(hab:lo≤hi)(hK:KC≤100000)(hX:KC+X≤476000)(hY:KC+Y≤476000):ACall Tryz.prog 75 [.one (qlr KC L),.agg (qn X lo),.agg (qn Y hi)] (.d (.one (.v (.int .i64 ((cntC c lo hi:Nat):Int))))):=by
 obtain ⟨hc1,_,_⟩:=hQ.cnt hab;obtain ⟨_,hln⟩:=hQ.len;have hvl:vr (sgL L lo)≤L.length:=by have:=vrA_le (sgL L lo) 0;unfold sgL at this;rw [List.length_map] at this;exact this
 exact aN 18 [.tmp 6] Tryz.func75 rfl<|cR<|mO rfl<|mO rfl<|mW rfl<|mT<|cSeq<|cR<|mv2 rfl rfl<|mY (aRCmpR (isq Y hi) (isq X lo)) rfl<|mdF rfl (by have:=cmpQ_ge.2 hab;omega)<|mT<|cFs rfl<|cSeq<|cDk 8<|.cons (OpS.V _ rfl)<|oV rfl<|oC (aQTurnsAt hQ.zz) rfl<|.cons (OpS.V _ rfl)<|oV rfl<|oC (aQTurnsAt hQ.zz) rfl<|.cons (OpS.V (.d (.one (.v (.int .i64 ((cntC c lo hi:Nat):Int))))) (evi ((wr64 (by omega) (by omega)).trans (by omega))))<|.cons (OpS.V _ rfl)<|.nil<|mT<|cRet<|rQ rfl (AV.le.rfl)
theorem aQBtw{KC X Y:Nat}{c:Nat→Int}{lo hi:Rat}(hab:lo≤hi)(hK:KC≤100000:=by omega)(hX:KC+X≤476000:=by omega)(hY:KC+Y≤476000:=by omega):ACall Tryz.prog 75 [.one (exL (ChQ c KC) (fun L=>qlr KC L)),.agg (qn X lo),.agg (qn Y hi)] (.d (.one (.v (.int .i64 ((cntC c lo hi:Nat):Int))))):=
 ACall.exh (enters Tryz.func75 rfl rfl) fun L hQ=>aQBtwL hQ hab hK hX hY
theorem aQPoint{K KC X Y:Nat}{c:Nat→Int}{lo hi:Rat}(hX:X≤100000:=by omega)(hY:Y≤100000:=by omega):ACall Tryz.prog 72 [.agg ([.row 4 (lg c) (qel K (rc c))] ++ [exL (ChQ c KC) (fun L=>qlr KC L)] ++qn X lo ++qn Y hi)] (.d (.one (.v (.bool (decide (lo=hi)))))):=by
 exact aN 9 [.tmp 2] Tryz.func72 rfl<|cR<|mO rfl<|mW rfl<|mT<|cR<|mv4 rfl rfl rfl rfl<|mY (aRCmpR (isq X lo) (isq Y hi)) rfl<|mV hTT (.d (.one (.v (.bool (decide (lo=hi)))))) (evb (cmpQ_dec _ _))<|mW rfl<|mT<|cRet<|rQ rfl (AV.le.rfl)
theorem aQExact{K KC X:Nat}{c:Nat→Int}{lo hi:Rat}(zc:z20 c)(hX:X≤100000:=by omega)(hK:K≤100000:=by omega):ACall Tryz.prog 141 [.agg ([.row 4 (lg c) (qel K (rc c))] ++ [exL (ChQ c KC) (fun L=>qlr KC L)] ++qn X lo ++qn X hi)] (.d (.agg ([.row 4 (lg c) (qel K (rc c))] ++ [exL (ChQ c KC) (fun L=>qlr KC L)] ++qn X ((exF c lo hi).1) ++qn X ((exF c lo hi).2)))):=by
 have hlc:=lg_le c;refine aN 21 [.cell 2 32] Tryz.func141 rfl<|cR<|mO rfl<|mO rfl<|mT<|cSeq<|cSeq ?_
 by_cases he:lo=hi
 ·exact cReg<|mv4 rfl rfl rfl rfl<|mY (aRCmpR (isq X lo) (isq X hi)) rfl<|mbF rfl (by rw [cmpQ_eq he];rfl)<|mW rfl<|mG rfl rfl<|mG rfl rfl<|mG rfl rfl<|mG rfl rfl<|mG rfl rfl<|mG rfl rfl<|mW rfl<|mT<|cFs rfl<|cR<|mW rfl<|mZ rfl<|mT<|cRet<|rQ rfl (by rw [show exF c lo hi=(lo,hi) from if_neg (fun k=>k.1 he)];exact AV.le.rfl)
 ·by_cases h0:sgq (FF c hi)=0
  ·exact cReg<|mv4 rfl rfl rfl rfl<|mY (aRCmpR (isq X lo) (isq X hi)) rfl<|mbT rfl (bne_iff_ne.2 fun e=>he (cmpQ_zero.1 e))<|mv5 rfl rfl rfl rfl rfl<|mY (aQSignN (zc) rfl) rfl<|mbT rfl (beq_iff_eq.2 h0)<|mW rfl<|mT<|cT rfl<|cReg<|mv3 rfl rfl rfl<|mZ rfl<|mT<|cR<|mW rfl<|mZ rfl<|mT<|cRet<|rQ rfl (by rw [show exF c lo hi=(hi,hi) from if_pos ⟨he,h0⟩];exact AV.le.rfl)
  ·exact cReg<|mv4 rfl rfl rfl rfl<|mY (aRCmpR (isq X lo) (isq X hi)) rfl<|mbT rfl (bne_iff_ne.2 fun e=>he (cmpQ_zero.1 e))<|mv5 rfl rfl rfl rfl rfl<|mY (aQSignN (zc) rfl) rfl<|mbF rfl (beq_eq_false_iff_ne.2 h0)<|mW rfl<|mT<|cFs rfl<|cR<|mW rfl<|mZ rfl<|mT<|cRet<|rQ rfl (by rw [show exF c lo hi=(lo,hi) from if_neg (fun k=>h0 k.2)];exact AV.le.rfl)
theorem aQHalve{K KC X Y:Nat}{c:Nat→Int}{lo hi:Rat}(hC:Cnt c)(hA:OkA c lo hi)(hex:EX c lo hi)(hm:Qb Y ((lo+hi) / 2))(hXY:X≤Y:=by omega)(hK:K≤100000:=by omega)(hKC:KC≤100000:=by omega)(hY:Y≤100000:=by omega):ACall Tryz.prog 76 [.agg ([.row 4 (lg c) (qel K (rc c))] ++ [exL (ChQ c KC) (fun L=>qlr KC L)] ++qn X lo ++qn X hi)] (.d (.agg ([.row 4 (lg c) (qel K (rc c))] ++ [exL (ChQ c KC) (fun L=>qlr KC L)] ++qn Y ((hlf c lo hi).1) ++qn Y ((hlf c lo hi).2)))):=by
 refine ACall.fact10 (enters Tryz.func76 rfl rfl) (p:=Db K c∧Qb X lo∧Qb X hi) (fun B w vs h=>match vs,h with | [_],⟨⟨cs,_,hl⟩,_⟩=>qa_bd hA.z hl) (fun hb=>?_);have hlc:=lg_le c;refine acallN hTT 25 [.cell 2 32] Tryz.func76 rfl rfl rfl rfl rfl<|cR<|mN hTT (.box 32 ([.row 4 (lg c) (qel K (rc c))] ++ [exL (ChQ c KC) (fun L=>qlr KC L)] ++qn X lo ++qn X hi)) rfl rfl rfl<|mN hTT (.box 32 ([.v (.slice none 0 0),.v (.slice none 0 0),.v (.slice none 0 0),.v (.bool false),.v (.slice none 0 0),.v (.bool false),.v (.slice none 0 0),.v (.bool false),.v (.slice none 0 0),.v (.bool false)])) rfl rfl rfl<|mT<|cSeq<|cR<|mW rfl<|mC0 (aQPoint (K:=K) (KC:=KC) (X:=X) (Y:=X) (c:=c) (lo:=lo) (hi:=hi) (by omega) (by omega)) rfl rfl rfl<|mT<|cCond rfl (fun hc1=>?_) (fun hc1=>?_)
 ·exact cR<|mW rfl<|mS hTT 2 (.box 32 ([.row 4 (lg c) (qel K (rc c))] ++ [exL (ChQ c KC) (fun L=>qlr KC L)] ++qn X lo ++qn X hi)) rfl<|mT<|cRet<|tR<|rQ rfl (by have he:lo=hi:=of_decide_eq_true hc1;rw [← (hC.half hA hex).1,show qhl c lo hi=(lo,hi) from if_pos he];exact qa_le (K:=K) (KC:=KC) (X:=X) (Y:=Y) (c:=c) (lo:=lo) (hi:=hi) (qb_mono hb.2.1 hXY) (qb_mono hb.2.2 hXY))
 ·refine cSkip<|tN<|cSeq ?_;have hne:¬ lo=hi:=of_decide_eq_false hc1;have hlt:lo < hi:=by have:=hA.le;grind
  refine cReg<|mv4 rfl rfl rfl rfl<|mC0 (aRHalf (isq X lo) (isq X hi) (M:=(((max X 64)+X)+200)) (by omega) (by omega)) rfl rfl rfl<|mN hTT (.box 30 ([.v (.slice none 0 0),.v (.bool false),.v (.slice none 0 0),.v (.bool false)])) rfl rfl rfl<|mS hTT 3 (.box 30 (qn (((max X 64)+X)+200) ((lo+hi) / 2))) rfl<|mT<|cSeq<|cSeq<|wB [3,11,10,9,8,7,5,4,2,1,0] [2,1] 3 (.box 30 (qn Y ((lo+hi) / 2))) rfl rfl (leo_qt rfl hm) rfl<|cReg<|mv5 rfl rfl rfl rfl rfl<|mC0 (aQBtw (KC:=KC) (X:=X) (Y:=Y) (c:=c) (lo:=lo) (hi:=((lo+hi) / 2)) (by grind) (by omega) (by omega) (by omega)) rfl rfl rfl<|mW rfl<|mT<|cCond rfl (fun hc2=>?_) (fun hc2=>?_)
  ·exact cReg<|mv2 rfl rfl<|mS hTT 1 (.box 32 ([.row 4 (lg c) (qel K (rc c))] ++ [exL (ChQ c KC) (fun L=>qlr KC L)] ++qn X lo ++qn Y ((lo+hi) / 2))) rfl<|mT<|cSeq<|wB [20,19,18,17,16,15,14,13,12,3,11,10,9,8,7,5,4,2,1,0] [3,2] 1 (.box 32 ([.row 4 (lg c) (qel K (rc c))] ++ [exL (ChQ c KC) (fun L=>qlr KC L)] ++qn Y lo ++qn Y ((lo+hi) / 2))) rfl rfl (leo_box (ls_cat (ls_cat (fun B w cs h=>h) (qn_tight (qb_mono hb.2.1 hXY))) (qn_tight hm))) rfl<|cReg<|mW rfl<|mC0 (aQExact (K:=K) (KC:=KC) (X:=Y) (c:=c) (lo:=lo) (hi:=((lo+hi) / 2)) (hA.z) (by omega) (by omega)) rfl rfl rfl<|mS hTT 2 (.box 32 ([.row 4 (lg c) (qel K (rc c))] ++ [exL (ChQ c KC) (fun L=>qlr KC L)] ++qn Y ((exF c lo ((lo+hi) / 2)).1) ++qn Y ((exF c lo ((lo+hi) / 2)).2))) rfl<|mT<|cRet<|rQ rfl (by rw [← (hC.half hA hex).1];unfold qhl;rw [if_neg hne,if_pos (show 0 < cntC c lo ((lo+hi) / 2) by have h0:=of_decide_eq_true hc2;omega)];exact AV.le.rfl)
  ·exact cReg<|mv2 rfl rfl<|mS hTT 1 (.box 32 ([.row 4 (lg c) (qel K (rc c))] ++ [exL (ChQ c KC) (fun L=>qlr KC L)] ++qn Y ((lo+hi) / 2) ++qn X hi)) rfl<|mT<|cSeq<|wB [22,21,18,17,16,15,14,13,12,3,11,10,9,8,7,5,4,2,1,0] [3,2] 1 (.box 32 ([.row 4 (lg c) (qel K (rc c))] ++ [exL (ChQ c KC) (fun L=>qlr KC L)] ++qn Y ((lo+hi) / 2) ++qn Y hi)) rfl rfl (leo_box (ls_cat (ls_cat (fun B w cs h=>h) (qn_tight hm)) (qn_tight (qb_mono hb.2.2 hXY)))) rfl<|cReg<|mW rfl<|mC0 (aQExact (K:=K) (KC:=KC) (X:=Y) (c:=c) (lo:=((lo+hi) / 2)) (hi:=hi) (hA.z) (by omega) (by omega)) rfl rfl rfl<|mS hTT 2 (.box 32 ([.row 4 (lg c) (qel K (rc c))] ++ [exL (ChQ c KC) (fun L=>qlr KC L)] ++qn Y ((exF c ((lo+hi) / 2) hi).1) ++qn Y ((exF c ((lo+hi) / 2) hi).2))) rfl<|mT<|cRet<|rQ rfl (by rw [← (hC.half hA hex).1];unfold qhl;rw [if_neg hne,if_neg (show ¬ 0 < cntC c lo ((lo+hi) / 2) by have h0:=of_decide_eq_false hc2;omega)];exact AV.le.rfl)
theorem aQCmpRat{K KC X Y:Nat}{c:Nat→Int}{lo hi t:Rat}(hC:Cnt c)(hA:OkA c lo hi)(hK:K≤100000:=by omega)(hKC:KC≤100000:=by omega)(hX:X≤100000:=by omega)(hY:max K KC+Y≤476000:=by omega):ACall Tryz.prog 44 [.agg ([.row 4 (lg c) (qel K (rc c))] ++ [exL (ChQ c KC) (fun L=>qlr KC L)] ++qn X lo ++qn X hi),.agg (qn Y t)] (.d (.one (.v (.int .i64 (cmpC (cutA c lo hi) (cutP t)))))):=by
 have hlc:=lg_le c;refine aN 33 [.tmp 4] Tryz.func44 rfl<|cR<|mO rfl<|mO rfl<|mW rfl<|mT<|cSeq<|cR<|mW rfl<|mY aQPoint rfl<|mT<|cCond rfl (fun hc1=>?_) (fun hc1=>?_)
 ·exact cR<|mv3 rfl rfl rfl<|mY (aRCmpR (isq X lo) (isq Y t)) rfl<|mW rfl<|mT<|cRet<|tR<|rQ rfl (by have he:lo=hi:=of_decide_eq_true hc1;exact le_int (by rw [← hC.rat hA];unfold crQ;rw [if_pos he]))
 ·refine cSkip<|tN<|cSeq<|cSeq ?_;have hne:¬ lo=hi:=of_decide_eq_false hc1;have hlt:lo < hi:=by have:=hA.le;grind
  refine cReg<|mv3 rfl rfl rfl<|mY (aRCmpR (isq Y t) (isq X lo)) rfl<|mW rfl<|mT<|cCond rfl (fun hc2=>?_) (fun hc2=>?_)
  ·exact cR<|mW rfl<|mT<|cRet<|tR<|rQ rfl (by have h1:t≤lo:=by {have h0:=of_decide_eq_true hc2;exact cmpQ_le.1 (by omega)};exact le_int (by rw [← hC.rat hA];unfold crQ;rw [if_neg hne,if_pos h1]))
  ·refine cSkip<|tN<|cSeq<|cSeq ?_;have h1:¬ t≤lo:=fun k=>by have h0:=of_decide_eq_false hc2;have:=cmpQ_le.2 k;omega
   refine cReg<|mv3 rfl rfl rfl<|mY (aRCmpR (isq Y t) (isq X hi)) rfl<|mW rfl<|mT<|cCond rfl (fun hc3=>?_) (fun hc3=>?_)
   ·exact cR<|mW rfl<|mT<|cRet<|tR<|rQ rfl (by have h2:hi < t:=by {have h0:=of_decide_eq_true hc3;apply Classical.byContradiction;intro k;have:=cmpQ_le.2 (show t≤hi by grind);omega};exact le_int (by rw [← hC.rat hA];unfold crQ;rw [if_neg hne,if_neg h1,if_pos h2]))
   ·refine cSkip<|tN<|cSeq<|cSeq ?_;have h2:¬ hi < t:=fun k=>by have h0:=of_decide_eq_false hc3;have:=cmpQ_gt k;omega
    refine cReg<|mv5 rfl rfl rfl rfl rfl<|mY (aQBtw (by grind)) rfl<|mW rfl<|mT<|cCond rfl (fun hc4=>?_) (fun hc4=>?_)
    ·exact cR<|mW rfl<|mT<|cRet<|tR<|rQ rfl (by have h3:cntC c lo t=0:=by {have h0:=eq_of_beq hc4;omega};exact le_int (by rw [← hC.rat hA];unfold crQ;rw [if_neg hne,if_neg h1,if_neg h2,if_pos h3]))
    ·refine cSkip<|tN<|cSeq<|cR<|mv3 rfl rfl rfl<|mY (aQSignN (hA.z) rfl) rfl<|mW rfl<|mT<|cCond rfl (fun hc5=>?_) (fun hc5=>?_)
     ·exact cR<|mW rfl<|mT<|cRet<|tR<|rQ rfl (by have h3:¬ cntC c lo t=0:=by {have h0:=beq_eq_false_iff_ne.1 hc4;omega};have h4:=eq_of_beq hc5;exact le_int (by rw [← hC.rat hA];unfold crQ;rw [if_neg hne,if_neg h1,if_neg h2,if_neg h3,if_pos h4]))
     ·exact cSkip<|tN<|cR<|mW rfl<|mT<|cRet<|rQ rfl (by have h3:¬ cntC c lo t=0:=by {have h0:=beq_eq_false_iff_ne.1 hc4;omega};have h4:=beq_eq_false_iff_ne.1 hc5;exact le_int (by rw [← hC.rat hA];unfold crQ;rw [if_neg hne,if_neg h1,if_neg h2,if_neg h3,if_neg h4]))
def elA(K:Nat)(c:Nat→Int)(KC X:Nat)(l:List (Rat×Rat)):Nat→Nat→Lf:=fun i j=>((qac K c KC X (l.getD i (0,0)).1 X (l.getD i (0,0)).2)[j]?).getD (.v undef)
section
variable {e:TypeId} {K:Nat} {c:Nat→Int} {KC X:Nat}
theorem leo_aone{p:Rat×Rat}{el2:Nat→Nat→Lf}(h:∀ j,j < 10→el2 0 j=((qac K c KC X p.1 X p.2)[j]?).getD (.v undef)):AO.le (.row e 10 1 el2) (.row e 10 [p].length (elA K c KC X [p])):=leo_row fun i hi j hj B w v hv=>by
 obtain rfl:i=0:=by omega
 rw [h j hj] at hv;exact hv
theorem leo_aapp{l l2:List (Rat×Rat)}:AO.le (.row e 10 (l.length+l2.length) (appEl l.length (elA K c KC X l) (elA K c KC X l2))) (.row e 10 (l ++l2).length (elA K c KC X (l ++l2))):=by
 rw [List.length_append];refine leo_row fun i hi j hj B w v hv=>?_
 unfold appEl at hv
 by_cases h:i < l.length
 ·rw [show Nat.ble (i+1) l.length=true from Nat.ble_eq_true_of_le h] at hv
  have e2:(l ++l2).getD i (0,0)=l.getD i (0,0):=by rw [List.getD_eq_getElem?_getD,List.getD_eq_getElem?_getD,List.getElem?_append_left h]
  unfold elA;rw [e2];exact hv
 ·rw [show Nat.ble (i+1) l.length=false from by rw [← Bool.not_eq_true,Nat.ble_eq];omega] at hv
  have e2:(l ++l2).getD i (0,0)=l2.getD (i-l.length) (0,0):=by rw [List.getD_eq_getElem?_getD,List.getD_eq_getElem?_getD,List.getElem?_append_right (by omega)]
  unfold elA;rw [e2];exact hv
end
theorem Tb.qb{K L:Nat}{q:Rat}(h:Tb K q)(k:3*K≤L):Qb L q:=⟨Nat.lt_of_lt_of_le (Nat.lt_of_lt_of_le h.1 (b32_b4 K)) (Nat.pow_le_pow_right (by decide) k),Nat.lt_of_lt_of_le (Nat.lt_of_lt_of_le h.2 (b32_b4 K)) (Nat.pow_le_pow_right (by decide) k)⟩
theorem Qb.tb{K L:Nat}{q:Rat}(h:Qb (2*K) q)(k:K≤L):Tb L q:=tb_mono ⟨Nat.lt_of_lt_of_le h.1 (b4_b32 K),Nat.lt_of_lt_of_le h.2 (b4_b32 K)⟩ k
theorem Dz.mid{L J:Nat}{p q:Rat}(h:Dz L J p q):Dz L (J+1) p ((p+q) / 2)∧Dz L (J+1) ((p+q) / 2) q:=by
 obtain ⟨D,R,a,b,c,d,e⟩:=h.e;have hm:=d.mid e;exact ⟨⟨D,R,a,b,c,d.mono (Nat.le_succ _),hm⟩,⟨D,R,a,b,c,hm,e.mono (Nat.le_succ _)⟩⟩
theorem Dz.qb{L J X:Nat}{p q:Rat}(h:Dz L J p q)(hX:3*(3*L+J / 32+1)≤X):Qb X p∧Qb X q:=by
 obtain ⟨a,b⟩:=h.tb (Nat.le_refl _);exact ⟨a.qb hX,b.qb hX⟩
/-- An interval on the way down. -/
structure SpI(c:Nat→Int)(h1 L J d:Nat)(lo hi:Rat):Prop where
 le:lo≤hi
 l: -(t2 (h1+1))≤lo
 h:hi≤t2 (h1+1)
 w:(hi-lo)*t2 (sepE (lg c) (lg c) h1 h1)≤t2 d
 d:Dz L J lo hi
theorem SpI.down{c:Nat→Int}{h1 L J d:Nat}{lo hi:Rat}(h:SpI c h1 L J (d+1) lo hi):SpI c h1 L (J+1) d lo ((lo+hi) / 2)∧SpI c h1 L (J+1) d ((lo+hi) / 2) hi:=by
 obtain ⟨a1,a2,a3,a4,a5⟩:=h;obtain ⟨m,hm⟩:∃ m,m=(lo+hi) / 2:=⟨_,rfl⟩
 have hd:=a5.mid;rw [← hm] at hd ⊢;have hE:=t2_pos (sepE (lg c) (lg c) h1 h1);have e2:t2 (d+1)=t2 d*2:=by rw [t2_add d 1];rfl
 have w1:m-lo=(hi-lo) / 2:=by grind
 have w2:hi-m=(hi-lo) / 2:=by grind
 refine ⟨⟨by grind,a2,by grind,?_,hd.1⟩,⟨by grind,by grind,a3,?_,hd.2⟩⟩
 ·rw [w1];rw [e2] at a4;grind
 ·rw [w2];rw [e2] at a4;grind
theorem SpI.ok{c:Nat→Int}{h1 L J d:Nat}{lo hi:Rat}(h:SpI c h1 L J d lo hi)(hC:Cnt c)(b1:∀ i,(c i).natAbs≤2^h1):SpP c lo hi (spF c (d+1) lo hi):=spF_ok hC b1 d lo hi h.le h.l h.h h.w
theorem sp_0{c:Nat→Int}{n:Nat}{lo hi:Rat}(h:cntC c lo hi=0):spF c (n+1) lo hi= []:=if_pos h
theorem sp_1{c:Nat→Int}{n:Nat}{lo hi:Rat}(h:cntC c lo hi=1):spF c (n+1) lo hi= [exF c lo hi]:=by
 show (if cntC c lo hi=0 then [] else _)=_
 rw [if_neg (by omega),if_pos h]
theorem sp_2{c:Nat→Int}{n:Nat}{lo hi:Rat}(h0:¬ cntC c lo hi=0)(h1:¬ cntC c lo hi=1):spF c (n+1) lo hi=spF c n lo ((lo+hi) / 2) ++spF c n ((lo+hi) / 2) hi:=by
 show (if cntC c lo hi=0 then [] else _)=_
 rw [if_neg h0,if_neg h1]
/-- How deep. -/
def rtD(c:Nat→Int)(h1:Nat):Nat:=sepE (lg c) (lg c) h1 h1+h1+2
/-- ALL ROOTS. -/
noncomputable def rtF(c:Nat→Int)(h1:Nat):List (Rat×Rat):=spF c (rtD c h1+1) (-(bdQ c)) (bdQ c)
theorem rt_start{c:Nat→Int}{h1 L:Nat}(hC:Cnt c)(b1:∀ i,(c i).natAbs≤2^h1)(hL:Tb L (bdQ c)):SpI c h1 L 0 (rtD c h1) (-(bdQ c)) (bdQ c):=by
 have h0:lg c≠0:=by have:=hC.l2;omega
 have g1:=bdQ_ge h0;have g2:=bdQ_le h0 b1;have hp:=t2_one h1;have e1:((2^h1:Nat):Rat)=t2 h1:=by unfold t2;rfl
 have e2:t2 (h1+1)=t2 h1*2:=by rw [t2_add h1 1];rfl
 rw [e1] at g2;have hE:=t2_pos (sepE (lg c) (lg c) h1 h1);refine ⟨by grind,by rw [e2];grind,by rw [e2];grind,?_,dz_start ?_ hL⟩
 ·have w1:bdQ c- -(bdQ c)≤t2 (h1+2):=by rw [show h1+2=h1+1+1 from rfl,t2_add (h1+1) 1,e2,show t2 1=2 from rfl];grind
  have:=Rat.mul_le_mul_of_nonneg_right w1 (show 0≤t2 (sepE (lg c) (lg c) h1 h1) by grind);unfold rtD;rw [Nat.add_assoc,t2_add (sepE _ _ _ _) (h1+2)];grind
 ·exact ⟨by rw [Rat.neg_num,Int.natAbs_neg];exact hL.1,by rw [Rat.neg_den];exact hL.2⟩
/-- What all roots are. -/
structure RtP(c:Nat→Int)(l:List (Rat×Rat)):Prop where
 ok:∀ p∈l,OkV c p.1 p.2∧EX c p.1 p.2
 all:∀ C,IsCut C→VC (FF c) C→∃ p∈l,∀ q,cutA c p.1 p.2 q↔C q
 rise:l.Pairwise fun p q=>cmpC (cutA c p.1 p.2) (cutA c q.1 q.2)= -1
 len:l.length=cntC c (-(bdQ c)) (bdQ c)
theorem rt_ok{c:Nat→Int}{h1 L:Nat}(hC:Cnt c)(b1:∀ i,(c i).natAbs≤2^h1)(hL:Tb L (bdQ c)):RtP c (rtF c h1):=by
 have h:=(rt_start hC b1 hL).ok hC b1;exact ⟨fun p hp=>⟨(h.ok p hp).1,(h.ok p hp).2.1⟩,fun C hI v=>by
  obtain ⟨k1,k2⟩:=bdQ_vc hC.z (by have:=hC.l2;omega) hI v;exact h.all C hI v k1 k2,h.rise,h.len⟩
theorem leo_absq{t:TypeId}{K:Nat}{z:Int}:AO.le (.box t ([dn K (Int.natAbs (Rat.num ((z:Int):Rat))),.v (.bool false)] ++rn K ((Rat.den ((z:Int):Rat):Nat):Int))) (.box t (qn K ((Int.natAbs z:Nat):Rat))):=by
 have e: [dn K (Int.natAbs (Rat.num ((z:Int):Rat))),.v (.bool false)] ++rn K ((Rat.den ((z:Int):Rat):Nat):Int)=qn K ((Int.natAbs z:Nat):Rat):=by
  unfold qn;rw [Rat.num_intCast,Rat.den_intCast,Rat.num_natCast,Rat.den_natCast];show _= [dn K (Int.natAbs ((z.natAbs:Nat):Int)),.v (.bool (decide (((z.natAbs:Nat):Int) < 0)))] ++_
  rw [Int.natAbs_natCast,decide_eq_false (show ¬ ((z.natAbs:Nat):Int) < 0 by omega)]
 rw [e];exact fun _ _ _ _ h=>h
theorem aQBound{M Y:Nat}{c:Nat→Int}(zc:z20 c)(h2:2≤lg c)(hM:1≤M)(hM2:M≤100000)(hY:2*M+200≤Y):ACall Tryz.prog 108 [.one (qrow M (lg c) (rc c))] (.d (.agg (qn Y (bdQ c)))):=by
 have hlc:=lg_le c;refine aN 43 [.cell 2 30] Tryz.func108 rfl<|cR<|mO rfl<|mT<|cR<|mY (aQZero) rfl<|mO rfl<|mZ rfl<|mT<|cSeq<|cR<|mW rfl<|mT<|cBlock<|cLoop (ι:=Nat) (fun (i:Nat)=>⟨43,[(0,.d (.one (.row 4 (lg c) (qel M (rc c))))),(2,.ptr 2 0),(3,.ptr 3 0),(4,.d (.one (.v (.int .i64 ((i:Nat):Int)))))],[(2,.box 30 ([.v (.slice none 0 0),.v (.bool false),.v (.slice none 0 0),.v (.bool false)])),(3,.box 30 (qn M ((mxA c i:Nat):Rat)))]⟩) (fun (i:Nat)=>i≤lg c-1) (fun (i:Nat)=>lg c-1-i) 0 (Nat.zero_le _) (wk rfl ⟨hs rfl,hs rfl,hs rfl,hs' rfl (le_int rfl),trivial⟩ ⟨ho rfl,ho' rfl (leo_qt rfl (qb_int (z:=0) (Nat.pow_pos (by decide)) hM)),trivial⟩ rfl) ?_;rintro i hI;have hi:i≤lg c-1:=hI;show AW _ _ _ ⟨_,_,_⟩
 refine cSeq<|cR<|mW rfl<|mV hTT (.d (.one (.v (.int .i64 ((i+1:Nat):Int))))) (evi (inc64 (by omega)))<|mv3 rfl rfl rfl<|mT<|cCond rfl (fun hc1=>?_) (fun hc1=>?_)
 ·refine cSkip<|tN<|cSeq<|cBlock<|cSeq ?_;have hin:i+1 < lg c:=by have h0:=of_decide_eq_true hc1;omega
  refine cReg<|mv2 rfl rfl<|mV hTT (.d (.one (.at 4 ((qel M (rc c)) i)))) (ixR (el:=(qel M (rc c))) (z:=((i:Nat):Int)) (n:=(lg c)) rfl rfl rfl rfl rfl rfl (by omega) (by omega)) ?_;refine mW rfl<|mO rfl<|mZ rfl<|mT<|cR<|mv2 rfl rfl<|mZ rfl<|mT<|cSeq<|wB [20,19,5,18,17,16,15,12,11,10,9,8,4,3,2,0] [3,2] 5 (.box 30 (qn M ((Int.natAbs (c i):Nat):Rat))) rfl rfl (leo_absq) rfl ?_;refine cReg<|mv2 rfl rfl<|mY (aRCmpR (isq M ((Int.natAbs (c i):Nat):Rat)) (isq M ((mxA c i:Nat):Rat))) rfl<|mW rfl<|mT<|cCond rfl (fun hc2=>?_) (fun hc2=>?_)
  ·exact cReg<|mW rfl<|mZ rfl<|mNil<|bN<|tN<|cReg<|mv3 rfl rfl rfl<|mNil<|⟨(i+1),by omega,by omega,wk rfl ⟨hs rfl,hs rfl,hs rfl,hs' rfl (le_int (inc64 (by omega))),trivial⟩ ⟨ho rfl,ho' rfl (leo_qn (Nat.le_refl _) (by have h0:=of_decide_eq_true hc2;have h1:(mxA c i:Rat) < ((c i).natAbs:Rat):=(by apply Classical.byContradiction;intro k;have:=cmpQ_le.2 (show ((c i).natAbs:Rat)≤(mxA c i:Rat) by grind);omega);have h2:mxA c i < (c i).natAbs:=(by exact_mod_cast h1);show ((c i).natAbs:Rat)=((max (mxA c i) (c i).natAbs:Nat):Rat);rw [Nat.max_eq_right (by omega)])),trivial⟩ rfl⟩
  ·exact cSkip<|bN<|tN<|cReg<|mv3 rfl rfl rfl<|mNil<|⟨(i+1),by omega,by omega,wk rfl ⟨hs rfl,hs rfl,hs rfl,hs' rfl (le_int (inc64 (by omega))),trivial⟩ ⟨ho rfl,ho' rfl (leo_qn (Nat.le_refl _) (by have h0:=of_decide_eq_false hc2;have h1:((c i).natAbs:Rat)≤(mxA c i:Rat):=(by apply Classical.byContradiction;intro k;have:=cmpQ_gt (show (mxA c i:Rat) < ((c i).natAbs:Rat) by grind);omega);have h2:(c i).natAbs≤mxA c i:=(by exact_mod_cast h1);show (mxA c i:Rat)=((max (mxA c i) (c i).natAbs:Nat):Rat);rw [Nat.max_eq_left (by omega)])),trivial⟩ rfl⟩
 ·refine cExit<|tE<|tE<|bE<|tN<|cSeq<|cSeq ?_;have hie:i=lg c-1:=by have h0:=of_decide_eq_false hc1;omega
  subst hie;refine cReg<|mv2 rfl rfl<|mdF rfl (by omega)<|mT<|cFs rfl<|cR<|mv3 rfl rfl rfl<|mV hTT (.d (.one (.v (.int .i64 ((lg c-1:Nat):Int))))) (evi ((wr64 (by omega) (by omega)).trans (by omega)))<|mV hTT (.d (.one (.at 4 ((qel M (rc c)) (lg c-1))))) (ixR (el:=(qel M (rc c))) (z:=((lg c-1:Nat):Int)) (n:=(lg c)) rfl rfl rfl rfl rfl rfl (by omega) (by omega)) ?_;refine mW rfl<|mO rfl<|mZ rfl<|mT<|cR<|mv2 rfl rfl<|mZ rfl<|mT<|cSeq<|wB [37,36,6,35,34,33,32,31,30,28,27,26,12,11,10,9,8,4,3,2,0] [3,2] 6 (.box 30 (qn M ((Int.natAbs (c (lg c-1)):Nat):Rat))) rfl rfl (leo_absq) rfl ?_;exact cDk 5<|oC aROfI rfl<|oV rfl<|oV rfl<|oC (aRQuoR (isq M ((mxA c (lg c-1):Nat):Rat)) (isq M ((Int.natAbs (c (lg c-1)):Nat):Rat)) (by have h0:=lead_pos (c:=c) (by omega);grind) (M:=(max (M+M+1) 64))) rfl<|oC (aRAddR (isq 64 ((1:Int):Rat)) (isq (max (M+M+1) 64) (((mxA c (lg c-1):Nat):Rat) / ((Int.natAbs (c (lg c-1)):Nat):Rat))) (M:=(max (64+(max (M+M+1) 64)+1) 64))) rfl<|.nil<|mZ rfl<|mT<|cRet<|rQ rfl (le_qn (by omega) rfl)
theorem aQSplitI{K KC X L JM h1 J d:Nat}{c:Nat→Int}{lo hi:Rat}(hC:Cnt c)(b1:∀ i,(c i).natAbs≤2^h1)(hcb:∀ a b,a≤b→cntC c a b≤1000000)(hI:SpI c h1 L J d lo hi)(hJ:J+d≤JM)(hX:3*(3*L+JM / 32+1)≤X)(hX1:X≤90000)(hK:K≤100000)(hKC:KC≤100000)(ih:∀ d',d=d'+1→∀ lo hi J,SpI c h1 L J d' lo hi→J+d'≤JM→ACallR Tryz.prog 109 [.one (qrow K (lg c) (rc c)),.one (exL (ChQ c KC) (fun L=>qlr KC L)),.agg (qn X lo),.agg (qn X hi)] 32 10 (spF c (d'+1) lo hi).length (elA K c KC X (spF c (d'+1) lo hi))):ACallR Tryz.prog 109 [.one (qrow K (lg c) (rc c)),.one (exL (ChQ c KC) (fun L=>qlr KC L)),.agg (qn X lo),.agg (qn X hi)] 32 10 (spF c (d+1) lo hi).length (elA K c KC X (spF c (d+1) lo hi)):=by
 have hlc:=lg_le c;refine acallR hTT 40 8 Tryz.func109 rfl rfl rfl rfl rfl<|cR<|mO rfl<|mO rfl<|mW rfl<|mT<|cR<|mv3 rfl rfl rfl<|mY (aQBtw hI.le) rfl<|mW rfl<|mT<|cSeq<|cSeq ?_
 by_cases hn0:cntC c lo hi=0
 ·exact cReg<|mW rfl<|mbT rfl (beq_iff_eq.2 (by omega))<|mT<|cT rfl<|cR<|mW rfl<|AL.wk (wkNil 8 8 32 10 (fun _ _=> .v undef) rfl rfl)<|mT<|cRet<|tR<|rR 8 (by rfl) (by rfl) (by rw [sp_0 hn0];exact leo_row0 (el:=fun _ _=> .v undef))
 ·by_cases hn1:cntC c lo hi=1
  ·exact cReg<|mW rfl<|mbF rfl (beq_eq_false_iff_ne.2 (by omega))<|mT<|cFs rfl<|cSeq<|cR<|mW rfl<|mbT rfl (beq_iff_eq.2 (by omega))<|mT<|cT rfl<|cR<|mv5 rfl rfl rfl rfl rfl<|mY (aQExact (hC.z)) rfl<|mR hTT (.row 32 10 1 (fun i' j'=>(([.row 4 (lg c) (qel K (rc c))] ++ [exL (ChQ c KC) (fun L=>qlr KC L)] ++qn X ((exF c lo hi).1) ++qn X ((exF c lo hi).2))[i'*10+j']?).getD (.v undef))) rfl rfl rfl<|mW rfl<|mT<|cRet<|tR<|rR 25 rfl rfl (by rw [sp_1 hn1];exact leo_aone (fun j hj=>by show (_[0*10+j]?).getD _=_;rw [Nat.zero_mul,Nat.zero_add];rfl))
  ·obtain ⟨d',rfl⟩:∃ d',d=d'+1:=by
    cases d with
    | zero=>exfalso;have h9:=split_one hC b1 hI.le hI.l hI.h (by have:=hI.w;rw [show t2 0=1 from rfl] at this;exact this);omega
    | succ d=>exact ⟨d,rfl⟩
   obtain ⟨i1,i2⟩:=hI.down;have hq:=(i1.d.qb (X:=X) (by omega)).2;refine cReg<|mW rfl<|mbF rfl (beq_eq_false_iff_ne.2 (by omega))<|mT<|cFs rfl<|cSeq<|cR<|mW rfl<|mbF rfl (beq_eq_false_iff_ne.2 (by omega))<|mT<|cFs rfl<|cR<|mv2 rfl rfl<|mY (aRHalf (isq X lo) (isq X hi) (M:=(((max X 64)+X)+200))) rfl<|mO rfl<|mZ rfl<|mT<|cSeq<|wB [10,28,27,26,18,17,16,15,9,14,13,12,11,8,7,6,3,2,1,0] [7,6] 10 (.box 30 (qn X ((lo+hi) / 2))) rfl rfl (leo_qt rfl hq) rfl<|wK [10,7,6,1,0] [10,7,6] rfl rfl ?_;obtain ⟨l1,hl1⟩:∃ l,l=spF c (d'+1) lo ((lo+hi) / 2):=⟨_,rfl⟩
   have cl1:=ih d' rfl lo ((lo+hi) / 2) (J+1) i1 (by omega);have nl1:l1.length≤1000000:=by have h8:=(i1.ok hC b1).len;have h7:=hcb _ _ i1.le;rw [← hl1] at h8;omega
   rw [← hl1] at cl1;obtain ⟨l2,hl2⟩:∃ l,l=spF c (d'+1) ((lo+hi) / 2) hi:=⟨_,rfl⟩
   have cl2:=ih d' rfl ((lo+hi) / 2) hi (J+1) i2 (by omega);have nl2:l2.length≤1000000:=by have h8:=(i2.ok hC b1).len;have h7:=hcb _ _ i2.le;rw [← hl2] at h8;omega
   rw [← hl2] at cl2;refine cAnyB (by kernel_rfl)<|bTake 0 rfl (by kernel_rfl) (by kernel_rfl) (by kernel_rfl) (fun _ _ h=>h) rfl rfl (av:= .d (.one (.row 4 (lg c) (qel K (rc c))))) (pMove rfl rfl)<|bTake 1 rfl (by kernel_rfl) (by kernel_rfl) (by kernel_rfl) (fun _ _ h=>h) rfl rfl (av:= .d (.one (exL (ChQ c KC) (fun L=>qlr KC L)))) (pMove rfl rfl)<|bTake 5 rfl (by kernel_rfl) (by kernel_rfl) (by kernel_rfl) (fun _ _ h=>h) rfl rfl (av:= .d (.one (.row 4 (lg c) (qel K (rc c))))) (pMove rfl rfl)<|bTake 6 rfl (by kernel_rfl) (by kernel_rfl) (by kernel_rfl) (fun _ _ h=>h) rfl rfl (av:= .d (.one (exL (ChQ c KC) (fun L=>qlr KC L)))) (pMove rfl rfl)<|bOf<|anyCut 1 #[true,true,true,true,true,true,true,true,true,true,true,false] ⟨40,[(0,.d (.one (.row 4 (lg c) (qel K (rc c))))),(1,.d (.one (exL (ChQ c KC) (fun L=>qlr KC L)))),(6,.ptr 6 0),(7,.ptr 7 0),(10,.ptr 10 0),(29,.d (.one (.row 4 (lg c) (qel K (rc c))))),(30,.d (.one (exL (ChQ c KC) (fun L=>qlr KC L)))),(34,.d (.one (.row 4 (lg c) (qel K (rc c))))),(35,.d (.one (exL (ChQ c KC) (fun L=>qlr KC L)))),(31,.d (.agg (qn X lo))),(32,.d (.agg (qn X ((lo+hi) / 2)))),(33,.dead),(36,.d (.agg (qn X ((lo+hi) / 2)))),(37,.d (.agg (qn X hi))),(38,.d (.one (.row 10 l2.length (elA K c KC X l2)))),(39,.own 33)],[(6,.box 30 (qn X lo)),(7,.box 30 (qn X hi)),(10,.box 30 (qn X ((lo+hi) / 2))),(33,.row 32 10 (l1.length+l2.length) (appEl l1.length (elA K c KC X l1) (elA K c KC X l2)))]⟩ ?_ (fun hD111111111110=>?_)
   ·refine anyS [11] (by kernel_rfl) rfl ?_;refine ⟨⟨_,rfl,?_⟩,trivial⟩
    ·exact mW rfl<|mT<|anyN (by kernel_rfl)<|tN<|cRet<|rR 33 rfl rfl (by rw [sp_2 hn0 hn1];rw [← hl1,← hl2];exact leo_aapp)
   refine anyCut 2 #[true,true,true,true,true,true,true,true,true,true,false,false] ⟨40,[(0,.d (.one (.row 4 (lg c) (qel K (rc c))))),(1,.d (.one (exL (ChQ c KC) (fun L=>qlr KC L)))),(6,.ptr 6 0),(7,.ptr 7 0),(10,.ptr 10 0),(29,.d (.one (.row 4 (lg c) (qel K (rc c))))),(30,.d (.one (exL (ChQ c KC) (fun L=>qlr KC L)))),(34,.d (.one (.row 4 (lg c) (qel K (rc c))))),(35,.d (.one (exL (ChQ c KC) (fun L=>qlr KC L)))),(31,.d (.agg (qn X lo))),(32,.d (.agg (qn X ((lo+hi) / 2)))),(33,.own 33),(36,.d (.agg (qn X ((lo+hi) / 2)))),(37,.d (.agg (qn X hi))),(38,.own 38)],[(6,.box 30 (qn X lo)),(7,.box 30 (qn X hi)),(10,.box 30 (qn X ((lo+hi) / 2))),(33,.row 32 10 l1.length (elA K c KC X l1)),(38,.row 32 10 l2.length (elA K c KC X l2))]⟩ ?_ (fun hD111111111100=>?_)
   ·refine anyS [10] (by kernel_rfl) rfl ?_;refine ⟨⟨_,rfl,?_⟩,trivial⟩
    ·exact AL.wk (wkRow 38 rfl)<|mA hTT (id:=33) (n:=l1.length) (m:=l2.length) (el:=(elA K c KC X l1)) (el2:=(elA K c KC X l2)) rfl rfl rfl (by show (l1.length+l2.length)*176≤140737488355328;omega) (by omega) rfl rfl rfl rfl rfl rfl rfl rfl rfl rfl<|mT<|anyV hD111111111110 11 [] (by kernel_rfl) (wkr rfl rfl)
   refine anyCut 3 #[true,true,true,true,true,true,true,true,true,false,false,false] ⟨40,[(0,.d (.one (.row 4 (lg c) (qel K (rc c))))),(1,.d (.one (exL (ChQ c KC) (fun L=>qlr KC L)))),(6,.ptr 6 0),(7,.ptr 7 0),(10,.ptr 10 0),(29,.d (.one (.row 4 (lg c) (qel K (rc c))))),(30,.d (.one (exL (ChQ c KC) (fun L=>qlr KC L)))),(34,.d (.one (.row 4 (lg c) (qel K (rc c))))),(35,.d (.one (exL (ChQ c KC) (fun L=>qlr KC L)))),(31,.d (.agg (qn X lo))),(32,.d (.agg (qn X ((lo+hi) / 2)))),(33,.own 33),(36,.d (.agg (qn X ((lo+hi) / 2)))),(37,.d (.agg (qn X hi)))],[(6,.box 30 (qn X lo)),(7,.box 30 (qn X hi)),(10,.box 30 (qn X ((lo+hi) / 2))),(33,.row 32 10 l1.length (elA K c KC X l1))]⟩ ?_ (fun hD111111111000=>?_)
   ·refine anyS [9] (by kernel_rfl) rfl ?_;refine ⟨⟨_,rfl,?_⟩,trivial⟩
    ·exact mCR cl2 rfl rfl rfl rfl rfl<|mT<|anyV hD111111111100 10 [] (by kernel_rfl) (wkr rfl rfl)
   refine anyCut 4 #[true,true,true,true,true,true,true,false,true,false,false,false] ⟨40,[(0,.d (.one (.row 4 (lg c) (qel K (rc c))))),(1,.d (.one (exL (ChQ c KC) (fun L=>qlr KC L)))),(6,.ptr 6 0),(7,.ptr 7 0),(10,.ptr 10 0),(29,.d (.one (.row 4 (lg c) (qel K (rc c))))),(30,.d (.one (exL (ChQ c KC) (fun L=>qlr KC L)))),(34,.d (.one (.row 4 (lg c) (qel K (rc c))))),(35,.d (.one (exL (ChQ c KC) (fun L=>qlr KC L)))),(31,.d (.agg (qn X lo))),(32,.d (.agg (qn X ((lo+hi) / 2)))),(33,.own 33),(37,.d (.agg (qn X hi)))],[(6,.box 30 (qn X lo)),(7,.box 30 (qn X hi)),(10,.box 30 (qn X ((lo+hi) / 2))),(33,.row 32 10 l1.length (elA K c KC X l1))]⟩ ?_ (fun hD111111101000=>?_)
   ·refine anyS [7] (by kernel_rfl) rfl ?_;refine ⟨⟨_,rfl,?_⟩,trivial⟩
    ·exact mW rfl<|mT<|anyV hD111111111000 9 [] (by kernel_rfl) (wkr rfl rfl)
   refine anyCut 4 #[true,true,true,true,true,true,true,true,false,false,false,false] ⟨40,[(0,.d (.one (.row 4 (lg c) (qel K (rc c))))),(1,.d (.one (exL (ChQ c KC) (fun L=>qlr KC L)))),(6,.ptr 6 0),(7,.ptr 7 0),(10,.ptr 10 0),(29,.d (.one (.row 4 (lg c) (qel K (rc c))))),(30,.d (.one (exL (ChQ c KC) (fun L=>qlr KC L)))),(34,.d (.one (.row 4 (lg c) (qel K (rc c))))),(35,.d (.one (exL (ChQ c KC) (fun L=>qlr KC L)))),(31,.d (.agg (qn X lo))),(32,.d (.agg (qn X ((lo+hi) / 2)))),(33,.own 33),(36,.d (.agg (qn X ((lo+hi) / 2))))],[(6,.box 30 (qn X lo)),(7,.box 30 (qn X hi)),(10,.box 30 (qn X ((lo+hi) / 2))),(33,.row 32 10 l1.length (elA K c KC X l1))]⟩ ?_ (fun hD111111110000=>?_)
   ·refine anyS [8] (by kernel_rfl) rfl ?_;refine ⟨⟨_,rfl,?_⟩,trivial⟩
    ·exact mW rfl<|mT<|anyV hD111111111000 9 [] (by kernel_rfl) (wkr rfl rfl)
   refine anyCut 4 #[true,true,true,true,false,true,true,true,true,false,false,false] ⟨40,[(0,.d (.one (.row 4 (lg c) (qel K (rc c))))),(1,.d (.one (exL (ChQ c KC) (fun L=>qlr KC L)))),(6,.ptr 6 0),(7,.ptr 7 0),(10,.ptr 10 0),(29,.d (.one (.row 4 (lg c) (qel K (rc c))))),(30,.d (.one (exL (ChQ c KC) (fun L=>qlr KC L)))),(34,.d (.one (.row 4 (lg c) (qel K (rc c))))),(35,.d (.one (exL (ChQ c KC) (fun L=>qlr KC L)))),(31,.d (.agg (qn X lo))),(32,.d (.agg (qn X ((lo+hi) / 2)))),(36,.d (.agg (qn X ((lo+hi) / 2)))),(37,.d (.agg (qn X hi)))],[(6,.box 30 (qn X lo)),(7,.box 30 (qn X hi)),(10,.box 30 (qn X ((lo+hi) / 2)))]⟩ ?_ (fun hD111101111000=>?_)
   ·refine anyS [4] (by kernel_rfl) rfl ?_;refine ⟨⟨_,rfl,?_⟩,trivial⟩
    ·exact mCR cl1 rfl rfl rfl rfl rfl<|mT<|anyV hD111111111000 9 [] (by kernel_rfl) (wkr rfl rfl)
   refine anyCut 5 #[true,true,true,true,false,true,true,true,false,false,false,false] ⟨40,[(0,.d (.one (.row 4 (lg c) (qel K (rc c))))),(1,.d (.one (exL (ChQ c KC) (fun L=>qlr KC L)))),(6,.ptr 6 0),(7,.ptr 7 0),(10,.ptr 10 0),(29,.d (.one (.row 4 (lg c) (qel K (rc c))))),(30,.d (.one (exL (ChQ c KC) (fun L=>qlr KC L)))),(34,.d (.one (.row 4 (lg c) (qel K (rc c))))),(35,.d (.one (exL (ChQ c KC) (fun L=>qlr KC L)))),(31,.d (.agg (qn X lo))),(32,.d (.agg (qn X ((lo+hi) / 2)))),(36,.d (.agg (qn X ((lo+hi) / 2))))],[(6,.box 30 (qn X lo)),(7,.box 30 (qn X hi)),(10,.box 30 (qn X ((lo+hi) / 2)))]⟩ ?_ (fun hD111101110000=>?_)
   ·refine anyS [4,8] (by kernel_rfl) rfl ?_;refine ⟨⟨_,rfl,?_⟩,⟨_,rfl,?_⟩,trivial⟩
    ·exact mCR cl1 rfl rfl rfl rfl rfl<|mT<|anyV hD111111110000 8 [] (by kernel_rfl) (wkr rfl rfl)
    ·exact mW rfl<|mT<|anyV hD111101111000 4 [] (by kernel_rfl) (wkr rfl rfl)
   refine anyCut 5 #[true,true,true,false,false,true,true,true,true,false,false,false] ⟨40,[(0,.d (.one (.row 4 (lg c) (qel K (rc c))))),(1,.d (.one (exL (ChQ c KC) (fun L=>qlr KC L)))),(6,.ptr 6 0),(7,.ptr 7 0),(10,.ptr 10 0),(29,.d (.one (.row 4 (lg c) (qel K (rc c))))),(30,.d (.one (exL (ChQ c KC) (fun L=>qlr KC L)))),(34,.d (.one (.row 4 (lg c) (qel K (rc c))))),(35,.d (.one (exL (ChQ c KC) (fun L=>qlr KC L)))),(31,.d (.agg (qn X lo))),(36,.d (.agg (qn X ((lo+hi) / 2)))),(37,.d (.agg (qn X hi)))],[(6,.box 30 (qn X lo)),(7,.box 30 (qn X hi)),(10,.box 30 (qn X ((lo+hi) / 2)))]⟩ ?_ (fun hD111001111000=>?_)
   ·refine anyS [3] (by kernel_rfl) rfl ?_;refine ⟨⟨_,rfl,?_⟩,trivial⟩
    ·exact mW rfl<|mT<|anyV hD111101111000 4 [] (by kernel_rfl) (wkr rfl rfl)
   refine anyCut 5 #[true,true,true,true,true,true,true,false,false,false,false,false] ⟨40,[(0,.d (.one (.row 4 (lg c) (qel K (rc c))))),(1,.d (.one (exL (ChQ c KC) (fun L=>qlr KC L)))),(6,.ptr 6 0),(7,.ptr 7 0),(10,.ptr 10 0),(29,.d (.one (.row 4 (lg c) (qel K (rc c))))),(30,.d (.one (exL (ChQ c KC) (fun L=>qlr KC L)))),(34,.d (.one (.row 4 (lg c) (qel K (rc c))))),(35,.d (.one (exL (ChQ c KC) (fun L=>qlr KC L)))),(31,.d (.agg (qn X lo))),(32,.d (.agg (qn X ((lo+hi) / 2)))),(33,.own 33)],[(6,.box 30 (qn X lo)),(7,.box 30 (qn X hi)),(10,.box 30 (qn X ((lo+hi) / 2))),(33,.row 32 10 l1.length (elA K c KC X l1))]⟩ ?_ (fun hD111111100000=>?_)
   ·refine anyS [7,8] (by kernel_rfl) rfl ?_;refine ⟨⟨_,rfl,?_⟩,⟨_,rfl,?_⟩,trivial⟩
    ·exact mW rfl<|mT<|anyV hD111111110000 8 [] (by kernel_rfl) (wkr rfl rfl)
    ·exact mW rfl<|mT<|anyV hD111111101000 7 [] (by kernel_rfl) (wkr rfl rfl)
   refine anyCut 5 #[true,true,true,true,false,true,true,false,true,false,false,false] ⟨40,[(0,.d (.one (.row 4 (lg c) (qel K (rc c))))),(1,.d (.one (exL (ChQ c KC) (fun L=>qlr KC L)))),(6,.ptr 6 0),(7,.ptr 7 0),(10,.ptr 10 0),(29,.d (.one (.row 4 (lg c) (qel K (rc c))))),(30,.d (.one (exL (ChQ c KC) (fun L=>qlr KC L)))),(34,.d (.one (.row 4 (lg c) (qel K (rc c))))),(35,.d (.one (exL (ChQ c KC) (fun L=>qlr KC L)))),(31,.d (.agg (qn X lo))),(32,.d (.agg (qn X ((lo+hi) / 2)))),(37,.d (.agg (qn X hi)))],[(6,.box 30 (qn X lo)),(7,.box 30 (qn X hi)),(10,.box 30 (qn X ((lo+hi) / 2)))]⟩ ?_ (fun hD111101101000=>?_)
   ·refine anyS [4,7] (by kernel_rfl) rfl ?_;refine ⟨⟨_,rfl,?_⟩,⟨_,rfl,?_⟩,trivial⟩
    ·exact mCR cl1 rfl rfl rfl rfl rfl<|mT<|anyV hD111111101000 7 [] (by kernel_rfl) (wkr rfl rfl)
    ·exact mW rfl<|mT<|anyV hD111101111000 4 [] (by kernel_rfl) (wkr rfl rfl)
   refine anyCut 5 #[true,true,false,true,false,true,true,true,true,false,false,false] ⟨40,[(0,.d (.one (.row 4 (lg c) (qel K (rc c))))),(1,.d (.one (exL (ChQ c KC) (fun L=>qlr KC L)))),(6,.ptr 6 0),(7,.ptr 7 0),(10,.ptr 10 0),(29,.d (.one (.row 4 (lg c) (qel K (rc c))))),(30,.d (.one (exL (ChQ c KC) (fun L=>qlr KC L)))),(34,.d (.one (.row 4 (lg c) (qel K (rc c))))),(35,.d (.one (exL (ChQ c KC) (fun L=>qlr KC L)))),(32,.d (.agg (qn X ((lo+hi) / 2)))),(36,.d (.agg (qn X ((lo+hi) / 2)))),(37,.d (.agg (qn X hi)))],[(6,.box 30 (qn X lo)),(7,.box 30 (qn X hi)),(10,.box 30 (qn X ((lo+hi) / 2)))]⟩ ?_ (fun hD110101111000=>?_)
   ·refine anyS [2] (by kernel_rfl) rfl ?_;refine ⟨⟨_,rfl,?_⟩,trivial⟩
    ·exact mW rfl<|mT<|anyV hD111101111000 4 [] (by kernel_rfl) (wkr rfl rfl)
   refine anyCut 6 #[true,true,false,true,false,true,true,true,false,false,false,false] ⟨40,[(0,.d (.one (.row 4 (lg c) (qel K (rc c))))),(1,.d (.one (exL (ChQ c KC) (fun L=>qlr KC L)))),(6,.ptr 6 0),(7,.ptr 7 0),(10,.ptr 10 0),(29,.d (.one (.row 4 (lg c) (qel K (rc c))))),(30,.d (.one (exL (ChQ c KC) (fun L=>qlr KC L)))),(34,.d (.one (.row 4 (lg c) (qel K (rc c))))),(35,.d (.one (exL (ChQ c KC) (fun L=>qlr KC L)))),(32,.d (.agg (qn X ((lo+hi) / 2)))),(36,.d (.agg (qn X ((lo+hi) / 2))))],[(6,.box 30 (qn X lo)),(7,.box 30 (qn X hi)),(10,.box 30 (qn X ((lo+hi) / 2)))]⟩ ?_ (fun hD110101110000=>?_)
   ·refine anyS [2,8] (by kernel_rfl) rfl ?_;refine ⟨⟨_,rfl,?_⟩,⟨_,rfl,?_⟩,trivial⟩
    ·exact mW rfl<|mT<|anyV hD111101110000 4 [8] (by kernel_rfl) (wkr rfl rfl)
    ·exact mW rfl<|mT<|anyV hD110101111000 2 [] (by kernel_rfl) (wkr rfl rfl)
   refine anyCut 6 #[true,true,true,false,false,true,true,false,true,false,false,false] ⟨40,[(0,.d (.one (.row 4 (lg c) (qel K (rc c))))),(1,.d (.one (exL (ChQ c KC) (fun L=>qlr KC L)))),(6,.ptr 6 0),(7,.ptr 7 0),(10,.ptr 10 0),(29,.d (.one (.row 4 (lg c) (qel K (rc c))))),(30,.d (.one (exL (ChQ c KC) (fun L=>qlr KC L)))),(34,.d (.one (.row 4 (lg c) (qel K (rc c))))),(35,.d (.one (exL (ChQ c KC) (fun L=>qlr KC L)))),(31,.d (.agg (qn X lo))),(37,.d (.agg (qn X hi)))],[(6,.box 30 (qn X lo)),(7,.box 30 (qn X hi)),(10,.box 30 (qn X ((lo+hi) / 2)))]⟩ ?_ (fun hD111001101000=>?_)
   ·refine anyS [3,7] (by kernel_rfl) rfl ?_;refine ⟨⟨_,rfl,?_⟩,⟨_,rfl,?_⟩,trivial⟩
    ·exact mW rfl<|mT<|anyV hD111101101000 4 [7] (by kernel_rfl) (wkr rfl rfl)
    ·exact mW rfl<|mT<|anyV hD111001111000 3 [] (by kernel_rfl) (wkr rfl rfl)
   refine anyCut 6 #[true,true,true,false,false,true,true,true,false,false,false,false] ⟨40,[(0,.d (.one (.row 4 (lg c) (qel K (rc c))))),(1,.d (.one (exL (ChQ c KC) (fun L=>qlr KC L)))),(6,.ptr 6 0),(7,.ptr 7 0),(10,.ptr 10 0),(29,.d (.one (.row 4 (lg c) (qel K (rc c))))),(30,.d (.one (exL (ChQ c KC) (fun L=>qlr KC L)))),(34,.d (.one (.row 4 (lg c) (qel K (rc c))))),(35,.d (.one (exL (ChQ c KC) (fun L=>qlr KC L)))),(31,.d (.agg (qn X lo))),(36,.d (.agg (qn X ((lo+hi) / 2))))],[(6,.box 30 (qn X lo)),(7,.box 30 (qn X hi)),(10,.box 30 (qn X ((lo+hi) / 2)))]⟩ ?_ (fun hD111001110000=>?_)
   ·refine anyS [3,8] (by kernel_rfl) rfl ?_;refine ⟨⟨_,rfl,?_⟩,⟨_,rfl,?_⟩,trivial⟩
    ·exact mW rfl<|mT<|anyV hD111101110000 4 [8] (by kernel_rfl) (wkr rfl rfl)
    ·exact mW rfl<|mT<|anyV hD111001111000 3 [] (by kernel_rfl) (wkr rfl rfl)
   refine anyCut 6 #[true,true,true,true,false,true,true,false,false,false,false,false] ⟨40,[(0,.d (.one (.row 4 (lg c) (qel K (rc c))))),(1,.d (.one (exL (ChQ c KC) (fun L=>qlr KC L)))),(6,.ptr 6 0),(7,.ptr 7 0),(10,.ptr 10 0),(29,.d (.one (.row 4 (lg c) (qel K (rc c))))),(30,.d (.one (exL (ChQ c KC) (fun L=>qlr KC L)))),(34,.d (.one (.row 4 (lg c) (qel K (rc c))))),(35,.d (.one (exL (ChQ c KC) (fun L=>qlr KC L)))),(31,.d (.agg (qn X lo))),(32,.d (.agg (qn X ((lo+hi) / 2))))],[(6,.box 30 (qn X lo)),(7,.box 30 (qn X hi)),(10,.box 30 (qn X ((lo+hi) / 2)))]⟩ ?_ (fun hD111101100000=>?_)
   ·refine anyS [4,7,8] (by kernel_rfl) rfl ?_;refine ⟨⟨_,rfl,?_⟩,⟨_,rfl,?_⟩,⟨_,rfl,?_⟩,trivial⟩
    ·exact mCR cl1 rfl rfl rfl rfl rfl<|mT<|anyV hD111111100000 7 [8] (by kernel_rfl) (wkr rfl rfl)
    ·exact mW rfl<|mT<|anyV hD111101110000 4 [8] (by kernel_rfl) (wkr rfl rfl)
    ·exact mW rfl<|mT<|anyV hD111101101000 4 [7] (by kernel_rfl) (wkr rfl rfl)
   refine anyCut 6 #[true,true,false,false,false,true,true,true,true,false,false,false] ⟨40,[(0,.d (.one (.row 4 (lg c) (qel K (rc c))))),(1,.d (.one (exL (ChQ c KC) (fun L=>qlr KC L)))),(6,.ptr 6 0),(7,.ptr 7 0),(10,.ptr 10 0),(29,.d (.one (.row 4 (lg c) (qel K (rc c))))),(30,.d (.one (exL (ChQ c KC) (fun L=>qlr KC L)))),(34,.d (.one (.row 4 (lg c) (qel K (rc c))))),(35,.d (.one (exL (ChQ c KC) (fun L=>qlr KC L)))),(36,.d (.agg (qn X ((lo+hi) / 2)))),(37,.d (.agg (qn X hi)))],[(6,.box 30 (qn X lo)),(7,.box 30 (qn X hi)),(10,.box 30 (qn X ((lo+hi) / 2)))]⟩ ?_ (fun hD110001111000=>?_)
   ·refine anyS [2,3] (by kernel_rfl) rfl ?_;refine ⟨⟨_,rfl,?_⟩,⟨_,rfl,?_⟩,trivial⟩
    ·exact mW rfl<|mT<|anyV hD111001111000 3 [] (by kernel_rfl) (wkr rfl rfl)
    ·exact mW rfl<|mT<|anyV hD110101111000 2 [] (by kernel_rfl) (wkr rfl rfl)
   refine anyCut 6 #[true,true,false,true,false,true,true,false,true,false,false,false] ⟨40,[(0,.d (.one (.row 4 (lg c) (qel K (rc c))))),(1,.d (.one (exL (ChQ c KC) (fun L=>qlr KC L)))),(6,.ptr 6 0),(7,.ptr 7 0),(10,.ptr 10 0),(29,.d (.one (.row 4 (lg c) (qel K (rc c))))),(30,.d (.one (exL (ChQ c KC) (fun L=>qlr KC L)))),(34,.d (.one (.row 4 (lg c) (qel K (rc c))))),(35,.d (.one (exL (ChQ c KC) (fun L=>qlr KC L)))),(32,.d (.agg (qn X ((lo+hi) / 2)))),(37,.d (.agg (qn X hi)))],[(6,.box 30 (qn X lo)),(7,.box 30 (qn X hi)),(10,.box 30 (qn X ((lo+hi) / 2)))]⟩ ?_ (fun hD110101101000=>?_)
   ·refine anyS [2,7] (by kernel_rfl) rfl ?_;refine ⟨⟨_,rfl,?_⟩,⟨_,rfl,?_⟩,trivial⟩
    ·exact mW rfl<|mT<|anyV hD111101101000 4 [7] (by kernel_rfl) (wkr rfl rfl)
    ·exact mW rfl<|mT<|anyV hD110101111000 2 [] (by kernel_rfl) (wkr rfl rfl)
   refine anyCut 7 #[true,true,true,false,false,true,true,false,false,false,false,false] ⟨40,[(0,.d (.one (.row 4 (lg c) (qel K (rc c))))),(1,.d (.one (exL (ChQ c KC) (fun L=>qlr KC L)))),(6,.ptr 6 0),(7,.ptr 7 0),(10,.ptr 10 0),(29,.d (.one (.row 4 (lg c) (qel K (rc c))))),(30,.d (.one (exL (ChQ c KC) (fun L=>qlr KC L)))),(34,.d (.one (.row 4 (lg c) (qel K (rc c))))),(35,.d (.one (exL (ChQ c KC) (fun L=>qlr KC L)))),(31,.d (.agg (qn X lo)))],[(6,.box 30 (qn X lo)),(7,.box 30 (qn X hi)),(10,.box 30 (qn X ((lo+hi) / 2)))]⟩ ?_ (fun hD111001100000=>?_)
   ·refine anyS [3,7,8] (by kernel_rfl) rfl ?_;refine ⟨⟨_,rfl,?_⟩,⟨_,rfl,?_⟩,⟨_,rfl,?_⟩,trivial⟩
    ·exact mW rfl<|mT<|anyV hD111101100000 4 [7,8] (by kernel_rfl) (wkr rfl rfl)
    ·exact mW rfl<|mT<|anyV hD111001110000 3 [8] (by kernel_rfl) (wkr rfl rfl)
    ·exact mW rfl<|mT<|anyV hD111001101000 3 [7] (by kernel_rfl) (wkr rfl rfl)
   refine anyCut 7 #[true,true,false,true,false,true,true,false,false,false,false,false] ⟨40,[(0,.d (.one (.row 4 (lg c) (qel K (rc c))))),(1,.d (.one (exL (ChQ c KC) (fun L=>qlr KC L)))),(6,.ptr 6 0),(7,.ptr 7 0),(10,.ptr 10 0),(29,.d (.one (.row 4 (lg c) (qel K (rc c))))),(30,.d (.one (exL (ChQ c KC) (fun L=>qlr KC L)))),(34,.d (.one (.row 4 (lg c) (qel K (rc c))))),(35,.d (.one (exL (ChQ c KC) (fun L=>qlr KC L)))),(32,.d (.agg (qn X ((lo+hi) / 2))))],[(6,.box 30 (qn X lo)),(7,.box 30 (qn X hi)),(10,.box 30 (qn X ((lo+hi) / 2)))]⟩ ?_ (fun hD110101100000=>?_)
   ·refine anyS [2,7,8] (by kernel_rfl) rfl ?_;refine ⟨⟨_,rfl,?_⟩,⟨_,rfl,?_⟩,⟨_,rfl,?_⟩,trivial⟩
    ·exact mW rfl<|mT<|anyV hD111101100000 4 [7,8] (by kernel_rfl) (wkr rfl rfl)
    ·exact mW rfl<|mT<|anyV hD110101110000 2 [8] (by kernel_rfl) (wkr rfl rfl)
    ·exact mW rfl<|mT<|anyV hD110101101000 2 [7] (by kernel_rfl) (wkr rfl rfl)
   refine anyCut 7 #[true,true,false,false,false,true,true,false,true,false,false,false] ⟨40,[(0,.d (.one (.row 4 (lg c) (qel K (rc c))))),(1,.d (.one (exL (ChQ c KC) (fun L=>qlr KC L)))),(6,.ptr 6 0),(7,.ptr 7 0),(10,.ptr 10 0),(29,.d (.one (.row 4 (lg c) (qel K (rc c))))),(30,.d (.one (exL (ChQ c KC) (fun L=>qlr KC L)))),(34,.d (.one (.row 4 (lg c) (qel K (rc c))))),(35,.d (.one (exL (ChQ c KC) (fun L=>qlr KC L)))),(37,.d (.agg (qn X hi)))],[(6,.box 30 (qn X lo)),(7,.box 30 (qn X hi)),(10,.box 30 (qn X ((lo+hi) / 2)))]⟩ ?_ (fun hD110001101000=>?_)
   ·refine anyS [2,3,7] (by kernel_rfl) rfl ?_;refine ⟨⟨_,rfl,?_⟩,⟨_,rfl,?_⟩,⟨_,rfl,?_⟩,trivial⟩
    ·exact mW rfl<|mT<|anyV hD111001101000 3 [7] (by kernel_rfl) (wkr rfl rfl)
    ·exact mW rfl<|mT<|anyV hD110101101000 2 [7] (by kernel_rfl) (wkr rfl rfl)
    ·exact mW rfl<|mT<|anyV hD110001111000 2 [3] (by kernel_rfl) (wkr rfl rfl)
   refine anyCut 7 #[true,true,false,false,false,true,true,true,false,false,false,false] ⟨40,[(0,.d (.one (.row 4 (lg c) (qel K (rc c))))),(1,.d (.one (exL (ChQ c KC) (fun L=>qlr KC L)))),(6,.ptr 6 0),(7,.ptr 7 0),(10,.ptr 10 0),(29,.d (.one (.row 4 (lg c) (qel K (rc c))))),(30,.d (.one (exL (ChQ c KC) (fun L=>qlr KC L)))),(34,.d (.one (.row 4 (lg c) (qel K (rc c))))),(35,.d (.one (exL (ChQ c KC) (fun L=>qlr KC L)))),(36,.d (.agg (qn X ((lo+hi) / 2))))],[(6,.box 30 (qn X lo)),(7,.box 30 (qn X hi)),(10,.box 30 (qn X ((lo+hi) / 2)))]⟩ ?_ (fun hD110001110000=>?_)
   ·refine anyS [2,3,8] (by kernel_rfl) rfl ?_;refine ⟨⟨_,rfl,?_⟩,⟨_,rfl,?_⟩,⟨_,rfl,?_⟩,trivial⟩
    ·exact mW rfl<|mT<|anyV hD111001110000 3 [8] (by kernel_rfl) (wkr rfl rfl)
    ·exact mW rfl<|mT<|anyV hD110101110000 2 [8] (by kernel_rfl) (wkr rfl rfl)
    ·exact mW rfl<|mT<|anyV hD110001111000 2 [3] (by kernel_rfl) (wkr rfl rfl)
   refine anyS [2,3,7,8] (by kernel_rfl) rfl ?_;refine ⟨⟨_,rfl,?_⟩,⟨_,rfl,?_⟩,⟨_,rfl,?_⟩,⟨_,rfl,?_⟩,trivial⟩
   ·exact mW rfl<|mT<|anyV hD111001100000 3 [7,8] (by kernel_rfl) (wkr rfl rfl)
   ·exact mW rfl<|mT<|anyV hD110101100000 2 [7,8] (by kernel_rfl) (wkr rfl rfl)
   ·exact mW rfl<|mT<|anyV hD110001110000 2 [3,8] (by kernel_rfl) (wkr rfl rfl)
   ·exact mW rfl<|mT<|anyV hD110001101000 2 [3,7] (by kernel_rfl) (wkr rfl rfl)
theorem cnt_bd{c:Nat→Int}{KC:Nat}{L:List (Nat→Int)}(h:ChQ c KC L)(a b:Rat)(hab:a≤b):cntC c a b≤1000000:=by
 obtain ⟨h1,_,_⟩:=h.cnt hab;obtain ⟨_,hl⟩:=h.len;have h2:vr (sgL L a)≤L.length:=by have:=vrA_le (sgL L a) 0;unfold sgL at this;rw [List.length_map] at this;exact this
 omega
theorem aQSplit{K KC X L JM h1:Nat}{c:Nat→Int}(hC:Cnt c)(b1:∀ i,(c i).natAbs≤2^h1)(hcb:∀ a b,a≤b→cntC c a b≤1000000)(hX:3*(3*L+JM / 32+1)≤X)(hX1:X≤90000)(hK:K≤100000)(hKC:KC≤100000):∀ (d J:Nat) (lo hi:Rat),SpI c h1 L J d lo hi→J+d≤JM→ACallR Tryz.prog 109 [.one (qrow K (lg c) (rc c)),.one (exL (ChQ c KC) (fun L=>qlr KC L)),.agg (qn X lo),.agg (qn X hi)] 32 10 (spF c (d+1) lo hi).length (elA K c KC X (spF c (d+1) lo hi)):=by
 intro d
 induction d with
 | zero=>exact fun J lo hi hI hJ=>aQSplitI hC b1 hcb hI hJ hX hX1 hK hKC (fun d' e=>by omega)
 | succ d ih=>exact fun J lo hi hI hJ=>aQSplitI hC b1 hcb hI hJ hX hX1 hK hKC (fun d' e lo hi J k1 k2=>by obtain rfl:d'=d:=by {omega};exact ih J lo hi k1 k2)
/-- What is the callee's own row is a row. -/
theorem ACallR.call{P:Program}{f:FuncId}{args:List DV}{e:TypeId}{sz n:Nat}{el:Nat→Nat→Lf}(h:ACallR P f args e sz n el):ACall P f args (.d (.one (.row sz n el))):=⟨h.en,fun B w vs hB hd=>(h.go B w vs hB hd).mono (by
 rintro r w' ⟨v,rfl,hb,xs,⟨hxl,hown⟩,hel⟩;refine ⟨v,rfl,hb,?_⟩
 rcases hown with ⟨rfl,h0⟩ | ⟨g,cap,cur,rfl,hge,hblk,hn,hm,hsz',htk⟩
 ·subst h0
  exact ⟨none,0,rfl,Nat.le_refl _,fun _=>rfl,fun i hi=>absurd hi (Nat.not_lt_zero _)⟩
 ·refine ⟨some ⟨g,0,none⟩,cap,rfl,hn,fun h=>(by cases h),fun i hi=>⟨g,0,rfl,fun hb2=>?_,lt_of_block hblk,fun j hj=>?_⟩⟩
  ·have:=hB g hb2;omega
  ·obtain ⟨x,hx1,hx2⟩:=hel i j hi hj
   refine ⟨x,?_,LfR.mv ⟨Nat.le_refl _,fun _ _ _=>rfl⟩ (fun b _ hb=>Or.inl hb) _ hx2⟩;rw [Nat.zero_add,cell_of_row w' g _ cur _ (0,0) hblk,← Array.getElem?_toList];rw [← htk,List.getElem?_take] at hx1;split at hx1
   ·exact hx1
   ·cases hx1)⟩
theorem f_exL{α:Type}{Qx:α→Prop}{L:α→Lf}{s:AS}(t:Nat)(h:lk s.sl t=some (.d (.one (exL Qx L)))):∀ B0 w0 a w,Den s B0 w0 a w→∃ x,Qx x:=by
 rintro B0 w0 a w ⟨ρ,_,_,_,hs⟩;obtain ⟨v,_,x,hq,_⟩:=hs t _ h;exact ⟨x,hq⟩
theorem lnP_pmL(t:Rat):Pm (lg (lnP t)) (lnP t):=by
 refine ⟨(lnP_z t).ip,by rw [lnP_lg];decide,by rw [lnP_lg];exact lnP_pm t,?_⟩;rw [lnP_lg];show 0 < (t.den:Int)
 have:=t.den_pos;omega
theorem lnP_sqP(t:Rat):∃ M,SqP (lnP t) M (lnP t):=by
 obtain ⟨M,_,hM⟩:=ex_lb (lnP_z t);exact ⟨M,sq_self (lnP_z t) hM (lnP_pmL t) (lnP_sq t)⟩
theorem natAbs_one{z:Int}{n:Nat}(h:z.natAbs∣n)(h1:n=1):z.natAbs=1:=by subst h1;exact Nat.dvd_one.1 h
/-- A divisor of a linear polynomial. -/
theorem dvb_lin{c:Nat→Int}{K:Nat}(z:z20 c)(hl:lg c=2)(hb:Db K c)(hK:1≤K):DvB c K:=by
 intro g zg hg hd;have h0:lg c≠0:=by omega
 obtain ⟨hg0,hgl⟩:=lg_dv z zg h0 hd;obtain ⟨W,pW,hW⟩:=hd;obtain ⟨w,k,hw,hc,_⟩:=exact_row z.lg zg.lg hg pW (fun x=>by rw [FF_lg z,FF_lg zg];exact hW x);have zw:=quo20 zg z hg0 hw hc;obtain ⟨hlq,_⟩:=quo_lg zw zg z hc hg0;have one:(1:Nat) < B4^K:=Nat.lt_of_lt_of_le (by decide) (Nat.pow_le_pow_right (show 0 < B4 by decide) hK)
 by_cases h1:lg g=1
 ·intro i
  by_cases hi:i=0
  ·subst hi
   have hd2:(g 0).natAbs∣gcdN g (lg g):=gcdN_all fun i hi=>by
    obtain rfl:i=0:=by omega
    exact Nat.dvd_refl _
   rw [natAbs_one hd2 hg];exact one
  ·rw [zg.lg i (by omega)];omega
 ·have hw1:lg w=1:=by omega
  have hw0:=lg_ne (c:=w) (by omega);rw [hw1] at hw0;have hFw:∀ x,FF w x=(w 0:Rat):=fun x=>by rw [← FF_lg zw,hw1];exact pf_const
  have hF:∀ i,c i=w 0*g i:=by
   have e:∀ x,FF c x=FF (fscl g (w 0)) x:=fun x=>by
    rw [FF_scl,← hFw x,← show conv w g=c from funext hc,FF_conv zw.lg zg.lg (by have:=lg_le g;omega) zw zg];exact Rat.mul_comm _ _
   intro i;have:=FF_inj z (z20_scl zg) e i;rw [this];unfold fscl;exact Int.mul_comm _ _
  intro i;refine Nat.lt_of_le_of_lt ?_ (hb i);rw [hF i,Int.natAbs_mul];exact Nat.le_mul_of_pos_left _ (by have:w 0≠0:=hw0;omega)
theorem lnP_db{X:Nat}{t:Rat}(h:Qb X t):Db X (lnP t):=fun i=>by
 match i with
 | 0=>show (-t.num).natAbs < _;rw [Int.natAbs_neg];exact h.1
 | 1=>show (t.den:Int).natAbs < _;exact h.2
 | i+2=>rw [lnP_z2 t (i+2) (by omega)];exact Nat.pow_pos (by decide)
theorem SqP.l2{c f:Nat→Int}{M:Nat}(h:SqP c M f)(zc:z20 c)(h2:2≤lg c):2≤lg f:=by
 apply Classical.byContradiction;intro hn;have h1:lg f=1:=by have:=h.ne;omega
 obtain ⟨κ,hκ,hk⟩:=lg_one_const h.z h1;obtain ⟨N,w,pw,e⟩:=h.pw;have hp:κ^N≠0:=by
  intro k;have:∀ n:Nat,κ^n≠0:=fun n=>by
   induction n with
   | zero=>rw [Rat.pow_zero];decide
   | succ n ih=>rw [Rat.pow_succ];intro k;rcases Rat.mul_eq_zero.1 k with k | k;exact ih k;exact hκ k
  exact this N k
 have hd:Dv (FF c) (FF (onez 1)):=⟨fun x=>w x*(κ^N)⁻¹,pw.scl _,fun x=>by
  have h9:=e x;rw [hk] at h9;rw [onez_F];have:=Rat.inv_mul_cancel _ hp;grind⟩
 have:=(lg_dv onez20 zc (by rw [onez_lg];decide) hd).2;rw [onez_lg] at this;omega
theorem cnt_sq{c:Nat→Int}{M:Nat}(h:SqP c M (sqP c))(zc:z20 c)(h2:2≤lg c):Cnt (sqP c):=cnt_of h.z (h.l2 zc h2) h.sq
theorem lnq_row{K X:Nat}{t:Rat}(h:Qb X t)(hX:1≤X):AV.le (.d (.one (.row 4 2 (fun i' j'=>((qn K (-(mkR t.num 1)) ++qn K (mkR (t.den:Int) 1))[i'*4+j']?).getD (.v undef))))) (.d (.one (qrow X (lg (lnP t)) (rc (lnP t))))):=by
 refine AV.le.trans (b:= .d (.one (qrow K 2 (rc (lnP t))))) (le_one (row_le fun i hi j hj=>?_)) (by
  have h9:=le_qrow_t (K:=K) (n:=2) hX (lnP_db h);rw [lnP_lg];exact h9)
 have e0: -(mkR t.num 1)=rc (lnP t) 0:=by rw [mkR_int];show -((t.num:Int):Rat)=((-t.num:Int):Rat);rw [Rat.intCast_neg]
 have e1:mkR (t.den:Int) 1=rc (lnP t) 1:=by rw [mkR_int];rfl
 rw [e0,e1]
 match i,hi with
 | 0,_=>match j,hj with
  | 0,_=>exact fun _ _ _ h=>h
  | 1,_=>exact fun _ _ _ h=>h
  | 2,_=>exact fun _ _ _ h=>h
  | 3,_=>exact fun _ _ _ h=>h
 | 1,_=>match j,hj with
  | 0,_=>exact fun _ _ _ h=>h
  | 1,_=>exact fun _ _ _ h=>h
  | 2,_=>exact fun _ _ _ h=>h
  | 3,_=>exact fun _ _ _ h=>h
theorem aQChainQ{K M KC N Ms:Nat}{c:Nat→Int}(zc:z20 c)(h2:2≤lg c)(hN:N≤10)(hcN:lg c≤N)(hM64:1≤M)(hM1:1≤M)(hB:DvB c M)(hK1:1≤K)(hK:K≤100000)(hKC:(M+2)*(2*3^N)≤KC)(hC:KC≤90000)(hS:SqP c Ms (sqP c)):ACall Tryz.prog 74 [.one (qrow K (lg c) (rc c))] (.d (.one (exL (ChQ (sqP c) KC) (fun L=>qlr KC L)))):=
 ACall.le (dl DV.same dl0) (le_one (exL_mono fun L h=>⟨L,h.q,fun _ _ _ h=>h⟩)) (aQChain zc h2 hN hcN hM64 hM1 hB hK1 hK hKC hC hS)
theorem aQChainS{K M KC N Ms:Nat}{c:Nat→Int}(zc:z20 c)(h2:2≤lg c)(hN:N≤10)(hcN:lg c≤N)(hM64:1≤M)(hM1:1≤M)(hB:DvB c M)(hK1:1≤K)(hK:K≤100000)(hKC:(M+2)*(2*3^N)≤KC)(hC:KC≤90000)(hS:SqP c Ms c):ACall Tryz.prog 74 [.one (qrow K (lg c) (rc c))] (.d (.one (exL (ChQ c KC) (fun L=>qlr KC L)))):=by
 have e:=hS.eq.symm;have h:=aQChainQ zc h2 hN hcN hM64 hM1 hB hK1 hK hKC hC hS.self;rwa [e] at h
theorem aQRoots{K M KC N X h1 Ms:Nat}{c:Nat→Int}(zc:z20 c)(h2:2≤lg c)(hN:N≤10)(hcN:lg c≤N)(hM64:1≤M)(hM1:1≤M)(hB:DvB c M)(hK1:1≤K)(hK:K≤100000)(hKC:(M+2)*(2*3^N)≤KC)(hC:KC≤90000)(hS:SqP c Ms (sqP c))(b1:∀ i,(sqP c i).natAbs≤2^h1)(hX:3*(3*(M+100)+rtD (sqP c) h1 / 32+1)≤X:=by omega)(hX1:X≤90000:=by decide):ACall Tryz.prog 46 [.one (qrow K (lg c) (rc c))] (.d (.one (exL (fun l=>l=rtF (sqP c) h1∧l.length≤1000000) (fun l=> .row 10 l.length (elA M (sqP c) KC X l))))):=by
 have hlc:=lg_le c;have hMK:M+2≤KC:=Nat.le_trans (Nat.le_mul_of_pos_right _ (Nat.mul_pos (by decide) (Nat.pow_pos (by decide)))) hKC;have l2:=hS.l2 zc h2;have hCn:=cnt_sq hS zc h2;refine aN 18 [.tmp 2] Tryz.func46 rfl<|cR<|mW rfl<|mT<|cR<|mW rfl<|mY (aQSquare (M:=M) (KC:=KC) (N:=N) zc h2 hN hcN hM64 hM1 hB hK1 hK hKC hC) rfl<|mW rfl<|mT<|cR<|mW rfl<|mY (aQChainQ (M:=M) (KC:=KC) (N:=N) zc h2 hN hcN hM64 hM1 hB hK1 hK hKC hC hS) rfl<|mW rfl<|mT<|cR<|mW rfl<|mY (aQBound (Y:=(2*M+200)) hS.z l2 hM64 (by omega) (Nat.le_refl _)) rfl<|mO rfl<|mZ rfl<|mT<|cSeq<|AW.fact (f_qn 11 rfl) (fun hqb=>?_);have hT:Tb (M+100) (bdQ (sqP c)):=Qb.tb (K:=M+100) (qb_mono hqb (by omega)) (Nat.le_refl _);refine AW.fact (f_exL 4 rfl) (fun hex=>?_);obtain ⟨Lc,hLc⟩:=hex;have hcb:=cnt_bd hLc;exact wB [5,11,10,4,9,8,3,7,6,2,0] [] 5 (.box 30 (qn X (bdQ (sqP c)))) rfl rfl (leo_qn (by omega) rfl) rfl<|cDk 7<|.cons (OpS.V _ rfl)<|.cons (OpS.V _ rfl)<|oV rfl<|oC (aRNegR (isq X (bdQ (sqP c)))) rfl<|oV rfl<|oC ((aQSplit (K:=M) (KC:=KC) (X:=X) (L:=M+100) (JM:=rtD (sqP c) h1) (h1:=h1) (c:=sqP c) hCn b1 hcb hX hX1 (by omega) (by omega) (rtD (sqP c) h1) 0 (-(bdQ (sqP c))) (bdQ (sqP c)) (rt_start hCn b1 hT) (by omega)).call) rfl<|.cons (OpS.V _ rfl)<|.nil<|mT<|cRet<|rQ rfl (exL_intro (Q:=fun l=>l=rtF (sqP c) h1∧l.length≤1000000) (L:=fun l=> .row 10 l.length (elA M (sqP c) KC X l)) (rtF (sqP c) h1) ⟨rfl,by rw [(rt_ok hCn b1 hT).len];exact hcb _ _ (rt_start hCn b1 hT).le⟩)
theorem aQRational{X KC:Nat}{t:Rat}(hX64:64≤X:=by decide)(hKC:18*(X+2)≤KC:=by decide)(hC:KC≤90000:=by decide):ACall Tryz.prog 28 [.agg (qn X t)] (.d (.agg ([.row 4 (lg (lnP t)) (qel X (rc (lnP t)))] ++ [exL (ChQ (lnP t) KC) (fun L=>qlr KC L)] ++qn X t ++qn X t))):=by
 refine ACall.fact10 (enters Tryz.func28 rfl rfl) (p:=Qb X t) (fun B w vs h=>match vs,h with | [_],⟨⟨cs,_,hl⟩,_⟩=>qn_bdT hl) (fun hb=>?_);obtain ⟨Ms,hS⟩:=lnP_sqP t;exact aN 20 [.cell 2 32] Tryz.func28 rfl<|cR<|mO rfl<|mO rfl<|mT<|cSeq<|cDk 11<|oV rfl<|oV rfl<|oC aROf rfl<|oC (aRMake (isr X (Rat.num t)) (isr 64 1) (M:=(max X (max 64 64)))) rfl<|oC (aRNegR (isq (max X (max 64 64)) (mkR (Rat.num t) 1))) rfl<|oV rfl<|oV rfl<|oC aROf rfl<|oC (aRMake (isr X (Rat.den t:Int)) (isr 64 1) (M:=(max X (max 64 64)))) rfl<|.cons (OpS.B _ rfl)<|.cons (OpS.V _ rfl)<|.nil<|mT<|cSeq<|cView 3 (.d (.one (.row 4 (lg (lnP t)) (qel X (rc (lnP t)))))) rfl (lnq_row hb (by omega))<|cDk 6<|.cons (OpS.V _ rfl)<|.cons (OpS.V _ rfl)<|oC (aQChainS (M:=X) (KC:=KC) (N:=2) (lnP_z t) (by rw [lnP_lg];exact Nat.le_refl 2) (by decide) (by rw [lnP_lg];exact Nat.le_refl 2) (by omega) (by omega) (dvb_lin (lnP_z t) (lnP_lg t) (lnP_db hb) (by omega)) (by omega) (by omega) (by omega) (by omega) hS) rfl<|oV rfl<|oV rfl<|oV rfl<|.nil<|mZ rfl<|mT<|cRet<|rQ rfl (AV.le.rfl)
theorem aRToR{a:List Lf}{K:Nat}{q:Rat}(hq:IsQ a K q)(hK:K≤10000000:=by first|decide|omega):ACall Tryz.prog 43 [.agg a] (.d (.agg (tn K q))):=by
 exact ACall.le (dl (DV.g hq) dl0) AV.le.rfl<|aN 10 [.cell 2 44] Tryz.func43 rfl<|cR<|mO rfl<|mO rfl<|mT<|cSeq<|cDk 7<|oV rfl<|oV rfl<|oC (aRTo (isr K (Rat.num q))) rfl<|oV rfl<|oV rfl<|oC (aRTo (isr K (Rat.den q:Int))) rfl<|oV rfl<|.nil<|mZ rfl<|mT<|cRet<|rQ rfl (le_tn2 (Nat.le_refl _) (Nat.le_refl _) rfl rfl)
theorem numF_rc(c:Nat→Int):numF (rc c)=c:=funext fun i=>Rat.num_intCast (c i)
theorem aQToN{K:Nat}{c:Nat→Int}(zc:z20 c)(hK:K≤1000000):ACall Tryz.prog 19 [.one (qrow K (lg c) (rc c))] (.d (.one (prow K (lg c) c))):=by
 have hlc:=lg_le c;have h:=aQTo (isqp (K:=K) (n:=lg c) (c:=rc c) (rc_z zc.lg)) (by omega) (by omega);rwa [numF_rc] at h
theorem aRFromRN{L M:Nat}{q:Rat}(hM:max (3*L) 64≤M:=by omega)(hMM:M≤10000000:=by omega):ACall Tryz.prog 26 [.agg (tn L q)] (.d (.agg (qn M q))):=by
 have h:=aRFromR (ist_tn L q) hM hMM;rwa [mkR_self] at h
theorem aQToA{K KC X:Nat}{c:Nat→Int}{lo hi:Rat}(zc:z20 c)(hK:K≤1000000:=by first|decide|omega)(hX:X≤1000000:=by first|decide|omega):ACall Tryz.prog 20 [.agg ([.row 4 (lg c) (qel K (rc c))] ++ [exL (ChQ c KC) (fun L=>qlr KC L)] ++qn X lo ++qn X hi)] (.d (.agg ([.row 2 (lg c) (zel K c)] ++tn X lo ++tn X hi))):=by
 have hlc:=lg_le c;exact aN 13 [.cell 2 46] Tryz.func20 rfl<|cR<|mO rfl<|mO rfl<|mT<|cSeq<|cDk 10<|oV rfl<|oV rfl<|oC (aQToN (zc) (by omega)) rfl<|oV rfl<|oV rfl<|oC (aRToR (isq X lo)) rfl<|oV rfl<|oV rfl<|oC (aRToR (isq X hi)) rfl<|oV rfl<|.nil<|mZ rfl<|mT<|cRet<|rQ rfl (AV.le.rfl)
theorem aQFromA{K L M KC N X Ms:Nat}{c:Nat→Int}{lo hi:Rat}(zc:z20 c)(hS:SqP c Ms c)(h2:2≤lg c)(hN:N≤10)(hcN:lg c≤N)(hM64:1≤M)(hb:Db M c)(hB:DvB c M)(hK:K≤100000)(hKC:(M+2)*(2*3^N)≤KC)(hC:KC≤90000)(hX:max (3*L) 64≤X)(hX1:X≤90000):ACall Tryz.prog 98 [.agg ([.row 2 (lg c) (zel K c)] ++tn L lo ++tn L hi)] (.d (.agg ([.row 4 (lg c) (qel M (rc c))] ++ [exL (ChQ c KC) (fun L=>qlr KC L)] ++qn X ((exF c lo hi).1) ++qn X ((exF c lo hi).2)))):=by
 have hlc:=lg_le c;have hMK:M+2≤KC:=Nat.le_trans (Nat.le_mul_of_pos_right _ (Nat.mul_pos (by decide) (Nat.pow_pos (by decide)))) hKC;exact aN 19 [.cell 2 32] Tryz.func98 rfl<|cR<|mO rfl<|mO rfl<|mT<|cR<|mv2 rfl rfl<|mY (aQFrom (isp (K:=K) (c:=c) (z20.lg zc)) (M:=(max (3*K) 64))) rfl<|mView 6 (.d (.one (.row 4 (lg c) (qel M (rc c))))) rfl (AV.le.trans (le_dg_t (lg_dg2 zc.lg zc) (by omega) hb) AV.le.rfl)<|mY (aQPrimP zc) rfl<|mW rfl<|mT<|cSeq<|cView 3 (.d (.one (.row 4 (lg c) (qel M (rc c))))) rfl (AV.of_eq (by rw [prm_self zc fun _=>hS.pm];rfl))<|cDk 11<|.cons (OpS.V _ rfl)<|.cons (OpS.V _ rfl)<|oC (aQChainS (M:=M) (KC:=KC) (N:=N) zc h2 hN hcN hM64 (by omega) hB (by omega) (by omega) hKC hC hS) rfl<|oV rfl<|oV rfl<|oC (aRFromRN (M:=X)) rfl<|oV rfl<|oV rfl<|oC (aRFromRN (M:=X)) rfl<|oV rfl<|oC (aQExact (zc)) rfl<|.nil<|mZ rfl<|mT<|cRet<|rQ rfl (AV.le.rfl)
structure Gw(G X na nb:Nat):Prop where
 h:(X+1)*(max (na+2-nb) 1*3^nb)≤G
theorem Gw.bd{G X na nb:Nat}(h:Gw G X na nb):X+1≤G:=by
 have h1:=h.h;have h2:1≤max (na+2-nb) 1*3^nb:=Nat.mul_pos (by omega) (Nat.pow_pos (by decide));exact Nat.le_trans (Nat.le_mul_of_pos_right _ h2) h1
theorem Gw.step{G X na nb nr:Nat}(h:Gw G X na nb)(hr:nr < nb):Gw G (X+(na+1-nb)*(X+1)) nb nr:=by
 refine ⟨Nat.le_trans ?_ h.h⟩;have e:X+(na+1-nb)*(X+1)+1=(na+1-nb+1)*(X+1):=by rw [Nat.add_mul (na+1-nb) 1];omega
 rw [e];have h1:na+1-nb+1≤max (na+2-nb) 1:=by omega
 have h2:max (nb+2-nr) 1*3^nr≤3^nb:=by
  obtain ⟨k,rfl⟩:∃ k,nb=nr+k+1:=⟨nb-nr-1,by omega⟩
  have h3:max (nr+k+1+2-nr) 1=k+3:=by omega
  rw [h3];have h4:k+3≤3^(k+1):=by
   rcases Nat.eq_zero_or_pos k with h0 | h0
   ·subst h0;decide
   ·obtain ⟨j,rfl⟩:∃ j,k=j+1:=⟨k-1,by omega⟩
    have:=three_pow j;rw [Nat.pow_succ];omega
  rw [show nr+k+1=(k+1)+nr by omega,Nat.pow_add 3 (k+1) nr];exact Nat.mul_le_mul_right _ h4
 calc (na+1-nb+1)*(X+1)*(max (nb+2-nr) 1*3^nr)≤max (na+2-nb) 1*(X+1)*3^nb:=Nat.mul_le_mul (Nat.mul_le_mul_right _ h1) h2
  _=(X+1)*(max (na+2-nb) 1*3^nb):=by rw [Nat.mul_comm (max (na+2-nb) 1) (X+1),Nat.mul_assoc]
theorem vc_iff{p:Fn}{C:Cut}(hC:IsCut C)(pp:Po p):VC p C↔sgC p C=0:=by
 refine ⟨sgC_zero,fun h=>?_⟩;rcases sg_or_v hC pp with k | ⟨s,k⟩
 ·exact k
 ·have:=sgC_eq hC k
  have:=k.pm hC;omega
theorem cmpC_congr{C C' D D':Cut}(h:∀ q,C q↔C' q)(k:∀ q,D q↔D' q):cmpC C D=cmpC C' D':=by
 have e1:C=C':=funext fun q=>propext (h q)
 have e2:D=D':=funext fun q=>propext (k q)
 rw [e1,e2]
section
variable {c d y:Nat→Int} {lo hi p q:Rat}
theorem zero_sq(hd:Dv (FF d) (FF c))(zd:z20 d)(sc:Sqf (FF c) (FF (fder c))):Sqf (FF d) (FF (fder d)):=by
 obtain ⟨w,pw,e⟩:=hd;exact sc.dv (FF_po zd) pw (FF_po (z20_der zd)) (FF_der zd) (fun x=>by rw [e x];exact Rat.mul_comm _ _)
theorem zero_cnt{G:Nat→Int}{M:Nat}(o:OkV c lo hi)(hlt:lo < hi)(zy:z20 y)(hg:GcdP y c M G)(hg0:lg G≠0)(h2:2≤lg G):decide (((cntC G lo hi:Nat):Int) > 0)=decide (sgC (FF y) (cutA c lo hi)=0):=by
 have hC:=cnt_of hg.z h2 (zero_sq hg.idl.db hg.z o.sq);obtain ⟨w,pw,e⟩:=hg.idl.db;have hf:=has_free (o.ok.i hlt) hg.z pw (fun x=>by rw [e x];exact Rat.mul_comm _ _) h2 (show lo≤lo by grind) (show hi≤hi by grind) hlt;obtain ⟨s1,s2⟩:=sign_has o (by grind) zy hg hg0;have h0:=hC.free (show lo≤hi by grind);refine decide_eq_decide.2 ⟨fun k=>s1 h2 (hf.2 fun r=>by have:=h0.2 r;omega),fun k=>?_⟩;apply Classical.byContradiction;intro nk;have hr:=h0.1 (by omega);have hb:hasB G lo hi=false:=by rw [← Bool.not_eq_true];exact fun b=>hf.1 b hr
 exact s2 (fun _=>hb) ((vc_iff o.ok.cut (FF_po zy)).2 k)
theorem zero_short{G:Nat→Int}{M:Nat}(o:OkV c lo hi)(hlt:lo < hi)(zy:z20 y)(hg:GcdP y c M G)(hg0:lg G≠0)(h2:¬ 2≤lg G):¬ sgC (FF y) (cutA c lo hi)=0:=fun k=>(sign_has o (by grind) zy hg hg0).2 (fun h=>absurd h h2) ((vc_iff o.ok.cut (FF_po zy)).2 k)
theorem OkV.cn(h:OkV c lo hi):Cnt c:=cnt_of h.ok.z h.l2 h.sq
theorem OkV.cnt1(h:OkV c lo hi)(hlt:lo < hi):cntC c lo hi=1:=cntC_eq h.ok.z (by grind) (h.ok.i hlt).one
/-- A root of the other's polynomial in the other's interval is the other. -/
theorem OkV.same(h:OkV c lo hi)(k:OkV d p q)(hlt:p < q)(hz:sgC (FF d) (cutA c lo hi)=0)(h1:cmpC (cutA c lo hi) (cutP p) > 0)(h2:cmpC (cutA c lo hi) (cutP q)≤0):cmpC (cutA c lo hi) (cutA d p q)=0:=by
 have hC:=h.ok.cut;have c1:cutA c lo hi p:=by
  apply Classical.byContradiction;intro n;have:=(cmpC_le hC (cutP_ok p)).2 fun t ht=>hC.nb ht n
  omega
 have c2:¬ cutA c lo hi q:=fun c2=>by
  have:=cmpC_P1 hC c2;omega
 exact cmpC_eq fun t=>(k.cn.one (by grind) (k.cnt1 hlt) hC ((vc_iff hC (FF_po k.ok.z)).2 hz) c1 c2 t).symm
/-- .. and else it is none. -/
theorem OkV.unlike(h:OkV c lo hi)(k:OkV d p q)(hlt:p < q)(hn:¬ (sgC (FF d) (cutA c lo hi)=0∧cmpC (cutA c lo hi) (cutP p) > 0∧cmpC (cutA c lo hi) (cutP q)≤0)):cmpC (cutA c lo hi) (cutA d p q)≠0:=by
 intro e;have hC:=h.ok.cut;have hD:=k.ok.cut;have he:=cmpC_zero e;refine hn ⟨(vc_iff hC (FF_po k.ok.z)).1 (k.vc.cut he),?_,?_⟩
 ·have:=cmpC_P1 hC ((he p).2 (by rw [cutA_I hlt];exact Or.inl (by grind)))
  omega
 ·exact (cmpC_le hC (cutP_ok q)).2 fun t ht=>k.ok.lt_hi ((he t).1 ht)
end
theorem aQGcdW{K G:Nat}{c d:Nat→Int}(zc:z20 c)(zd:z20 d)(hc10:lg c≤10)(hd10:lg d≤10)(hK1:1≤K)(hG:(K+1)*(max (lg c+2-lg d) 1*3^lg d)≤G)(hC:G≤90000):ACall Tryz.prog 131 [.one (qrow K (lg c) (rc c)),.one (qrow K (lg d) (rc d))] (.d (.one (exL (GcdP c d (21*K+3)) (fun g=>qrow (63*K+9) (lg g) (rc g))))):=by
 have hlc:=lg_le c;have hld:=lg_le d;have hKG:=(Gw.mk hG).bd;refine ACall.fact10 (enters Tryz.func131 rfl rfl) (p:=Db K c∧Db K d) (fun B w vs h=>match vs,h with | [_,_],⟨h1,h2,_⟩=>⟨qrow_bd zc.lg h1,qrow_bd zd.lg h2⟩) (fun hb=>?_);obtain ⟨hbc,hbd⟩:=hb;have lbc:Lb K c:=(hbc.mono (by omega)).lb;have lbd:Lb K d:=(hbd.mono (by omega)).lb;refine aN 18 [.tmp 4] Tryz.func131 rfl<|cR<|mW rfl<|mT<|cR<|mW rfl<|mY (aQPrimP zc) rfl<|mW rfl<|mY (aQPrimP zd) rfl<|mv2 rfl rfl<|mT<|cSeq<|cBlock<|cLoop (ι:=Nat×(Nat→Int)×(Nat→Int)) (fun (p:Nat×(Nat→Int)×(Nat→Int))=>match p with | (X,a,b)=>⟨18,[(0,.d (.one (.row 4 (lg a) (qel X (rc a))))),(1,.d (.one (.row 4 (lg b) (qel X (rc b))))),(4,.d (.one (.v (.slice none 0 0))))],[]⟩) (fun (p:Nat×(Nat→Int)×(Nat→Int))=>match p with | (X,a,b)=>z20 a∧z20 b∧Idp (FF c) (FF d) (FF a) (FF b)∧Db X a∧Db X b∧lg a≤10∧lg b≤10∧1≤X∧Gw G X (lg a) (lg b)∧(lg a≠0→Pm (lg a) a)∧(lg b≠0→Pm (lg b) b)) (fun (p:Nat×(Nat→Int)×(Nat→Int))=>match p with | (X,a,b)=>lg b) (K,(prm20 c),(prm20 d)) (⟨prm20_z zc,prm20_z zd,prm_idp zc zd,hbc.fdv,hbd.fdv,by rw [prm20_lg zc];exact hc10,by rw [prm20_lg zd];exact hd10,hK1,⟨by rw [prm20_lg zc,prm20_lg zd];exact hG⟩,fun h0=>prm20_pm zc (by rw [← prm20_lg zc];exact h0),fun h0=>prm20_pm zd (by rw [← prm20_lg zd];exact h0)⟩) (wkr rfl rfl) ?_;rintro ⟨X,a,b⟩ hI;obtain ⟨za,zb,hid,hba,hbb,ha10,hb10,hX1,hG,hpa,hpb⟩:z20 a∧z20 b∧Idp (FF c) (FF d) (FF a) (FF b)∧Db X a∧Db X b∧lg a≤10∧lg b≤10∧1≤X∧Gw G X (lg a) (lg b)∧(lg a≠0→Pm (lg a) a)∧(lg b≠0→Pm (lg b) b):=hI;show AW _ _ _ ⟨_,_,_⟩
 refine cSeq<|cSeq ?_;have hXK:=hG.bd
 by_cases hb0:lg b=0
 ·exact cReg<|mv2 rfl rfl<|mdF rfl (by omega)<|mT<|cF rfl<|cExit<|tE<|tE<|bE<|tN<|cR<|mv2 rfl rfl<|mT<|cRet<|rQ rfl (by have hgf:=gcd_fin zc zd za zb hid hb0 lbc lbd (by omega) (by omega);exact fun ρ B w v hv=>exL_intro (Q:=GcdP c d (21*K+3)) (L:=fun g=>qrow (63*K+9) (lg g) (rc g)) (prm20 a) hgf ρ B w v (by rw [prm_self za hpa];exact le_qrow_t (by omega) (by have hd:=hgf.dbq;rwa [prm_self za hpa] at hd) ρ B w v hv))
 ·refine cReg<|mv2 rfl rfl<|mdT rfl (by omega)<|mT<|cT rfl<|cSkip<|tN<|cBlock ?_;have hg1:lg b-1 < lg b:=by omega
  have hN1:=(hG.step hg1).bd;refine cReg<|mv3 rfl rfl rfl<|mY (aQRest (M:=(X+(lg a+1-lg b)*(X+1))) za zb hb0 (by omega) (by omega) (by omega) (by omega) (Nat.le_refl _)) rfl<|mY (aQPrimE zb) rfl<|mEx (Qx:=RpP a b (X+(lg a+1-lg b)*(X+1))) (L:=fun r=>qrow (X+(lg a+1-lg b)*(X+1)) (lg r) (rc r)) 16 rfl (fun R hR=>?_);exact mv2 rfl rfl<|mNil<|bN<|⟨((X+(lg a+1-lg b)*(X+1)),b,R),⟨zb,hR.z,hid.trans hR.idp,hbb.mono (Nat.le_add_right _ _),hR.b,hb10,by have:=hR.lt;omega,by omega,hG.step hR.lt,hpb,hR.pm⟩,hR.lt,wk rfl ⟨hs' rfl (le_qrow_t (by omega) (hbb.mono (Nat.le_add_right _ _))),hs rfl,hs rfl,trivial⟩ trivial rfl⟩
theorem aQPointB{K KC X Y:Nat}{c:Nat→Int}{lo hi:Rat}{b:Bool}(h:decide (lo=hi)=b)(hX:X≤100000:=by omega)(hY:Y≤100000:=by omega):ACall Tryz.prog 72 [.agg (qac K c KC X lo Y hi)] (.d (.one (.v (.bool b)))):=by
 subst h;exact aQPoint hX hY
theorem le_boolE{a b:Bool}(h:a=b):AV.le (.d (.one (.v (.bool a)))) (.d (.one (.v (.bool b)))):=by subst h;exact AV.le.rfl
theorem aQZeroA{K KC X N G M KD:Nat}{c y:Nat→Int}{lo hi:Rat}(zy:z20 y)(hV:OkV c lo hi)(hy10:lg y≤10)(hc10:lg c≤10)(hN:N≤10)(hcN:lg c≤N)(hK1:1≤K)(hG:(K+1)*(max (lg y+2-lg c) 1*3^lg c)≤G)(hG9:G≤90000)(hM64:1≤M)(hB:DvB c M)(hKD:(M+2)*(2*3^N)≤KD)(hKD9:KD≤90000)(hKC:KC≤90000)(hX:X≤90000):ACall Tryz.prog 71 [.one (qrow K (lg y) (rc y)),.agg ([.row 4 (lg c) (qel K (rc c))] ++ [exL (ChQ c KC) (fun L=>qlr KC L)] ++qn X lo ++qn X hi)] (.d (.one (.v (.bool (decide ((sgC (FF y) (cutA c lo hi))=0)))))):=by
 refine ACall.fact10 (enters Tryz.func71 rfl rfl) (p:=Db K y∧Db K c∧Qb X lo∧Qb X hi) (fun B w vs h=>match vs,h with | [_,_],⟨h1,⟨cs,_,hl⟩,_⟩=>⟨qrow_bd zy.lg h1,qa_bd hV.ok.z hl⟩) (fun hb=>?_);have hlc:=lg_le c;have hly:=lg_le y;have hKG:=(Gw.mk hG).bd;have hMK:M+2≤KD:=Nat.le_trans (Nat.le_mul_of_pos_right _ (Nat.mul_pos (by decide) (Nat.pow_pos (by decide)))) hKD;refine aN 31 [.tmp 4] Tryz.func71 rfl<|cR<|mO rfl<|mW rfl<|mT<|cSeq<|cSeq ?_
 by_cases hy0:lg y=0
 ·exact cReg<|mv2 rfl rfl<|mbT rfl (beq_iff_eq.2 (by omega))<|mT<|cT rfl<|cR<|mW rfl<|mT<|cRet<|tR<|rQ rfl (le_boolE (decide_eq_true (sgc_nil zy hy0 hV.ok.cut)).symm)
 ·refine cReg<|mv2 rfl rfl<|mbF rfl (beq_eq_false_iff_ne.2 (by omega))<|mT<|cFs rfl<|cSeq<|cR<|mW rfl<|mY aQPoint rfl<|mT<|cCond rfl (fun hc1=>?_) (fun hc1=>?_)
  ·exact cR<|mv3 rfl rfl rfl<|mY (aQSignN (zy) rfl) rfl<|mv2 rfl rfl<|mT<|cRet<|tR<|rQ rfl (by have he:lo=hi:=of_decide_eq_true hc1;exact le_boolE (by rw [cutA_P (show hi≤lo by grind),sgC_P (FF_po zy)];rfl))
  ·refine cSkip<|tN<|cSeq ?_;have hne:¬ lo=hi:=of_decide_eq_false hc1;have hlt:lo < hi:=by have:=hV.ok.le;grind
   refine cReg<|mv3 rfl rfl rfl<|mY (aQGcdW (G:=G) zy hV.ok.z hy10 hc10 hK1 hG hG9) rfl<|mW rfl<|mT<|cSeq<|cSeq<|cEx (Qx:=GcdP y c (21*K+3)) (L:=fun g=>qrow (63*K+9) (lg g) (rc g)) 5 rfl (fun D hD=>?_);obtain ⟨hD0,hDl⟩:=hD.le' hV.ok.z (by have:=hV.l2;omega);have dB:DvB c M:=hB;have dD:DvB D M:=fun g zg hg hd=>hB g zg hg (hd.trans hD.idl.db)
   have bD:Db M D:=hB D hD.z (hD.pm hD0).one hD.idl.db;refine cView 5 (.d (.one (.row 4 (lg D) (qel M (rc D))))) rfl (le_qrow_t (by omega) bD) ?_
   by_cases hd2:2≤lg D
   ·have sD:=zero_sq hD.idl.db hD.z hV.sq;obtain ⟨Ms,_,hMs⟩:=ex_lb hD.z;have hSD:=sq_self hD.z hMs (hD.pm hD0) sD;exact cReg<|mv2 rfl rfl<|mdF rfl (by omega)<|mT<|cFs rfl<|cSeq<|cDk 9<|.cons (OpS.V _ rfl)<|oC (aQChainS (M:=M) (KC:=KD) (N:=N) hD.z hd2 hN (by omega) hM64 (by omega) dD (by omega) (by omega) hKD hKD9 hSD) rfl<|oV rfl<|oV rfl<|oV rfl<|oV rfl<|oC (aQBtw (by grind)) rfl<|oV rfl<|.cons (OpS.V _ rfl)<|.nil<|mT<|cRet<|rQ rfl (le_boolE (zero_cnt hV hlt zy hD hD0 hd2))
   ·exact cReg<|mv2 rfl rfl<|mdT rfl (by omega)<|mT<|cT rfl<|cR<|mW rfl<|mT<|cRet<|tR<|rQ rfl (le_boolE (decide_eq_false (zero_short hV hlt zy hD hD0 hd2)).symm)
structure CmI(c d:Nat→Int)(L J E f:Nat)(lo hi p q u1 u2 v1 v2:Rat):Prop where
 fl:f≤J
 n1:Nar c lo hi u1 u2
 n2:Nar d p q v1 v2
 x1:EX c u1 u2
 x2:EX d v1 v2
 d1:Dz L (J-f) u1 u2
 d2:Dz L (J-f) v1 v2
 w1:(u2-u1)*t2 (E+2)≤t2 f
 w2:(v2-v1)*t2 (E+2)≤t2 f
section
variable {c d:Nat→Int} {L J E f:Nat} {lo hi p q u1 u2 v1 v2:Rat}
theorem CmI.go(h:CmI c d L J E f lo hi p q u1 u2 v1 v2)(hf:f≠0)(hc:Cnt c)(hd:Cnt d):CmI c d L J E (f-1) lo hi p q (hlf c u1 u2).1 (hlf c u1 u2).2 (hlf d v1 v2).1 (hlf d v1 v2).2:=by
 have hp:=t2_pos (E+2);have hfl:=h.fl;have e:J-f+1=J-(f-1):=by omega
 exact ⟨by omega,h.n1.trans (hlf_nar h.n1.ok).1,h.n2.trans (hlf_nar h.n2.ok).1,(hc.half h.n1.ok h.x1).2,(hd.half h.n2.ok h.x2).2,e▸h.d1.hlf,e▸h.d2.hlf,hlf_w' h.n1.ok hp h.w1,hlf_w' h.n2.ok hp h.w2⟩
theorem cm_wide{lo hi:Rat}{L E J:Nat}(h:Tb L lo)(k:Tb L hi)(hJ:32*L+1+(E+2)≤J):(hi-lo)*t2 (E+2)≤t2 J:=by
 have h1:=tb_wide h k;have e1:((2^(32*L+1):Nat):Rat)=t2 (32*L+1):=by unfold t2;rfl
 rw [e1] at h1;have h2:=Rat.mul_le_mul_of_nonneg_right h1 (show 0≤t2 (E+2) by have:=t2_pos (E+2);grind);rw [← t2_add] at h2;have h3:t2 (32*L+1+(E+2))≤t2 J:=t2_mono hJ;grind
theorem CmI.start(ha:OkA c lo hi)(hb:OkA d p q)(x1:EX c lo hi)(x2:EX d p q)(t1:Tb L lo)(t2:Tb L hi)(t3:Tb L p)(t4:Tb L q)(hJ:32*L+1+(E+2)≤J):CmI c d L J E J lo hi p q lo hi p q:=⟨Nat.le_refl _,.refl ha,.refl hb,x1,x2,by rw [Nat.sub_self];exact dz_start t1 t2,by rw [Nat.sub_self];exact dz_start t3 t4,cm_wide t1 t2 hJ,cm_wide t3 t4 hJ⟩
theorem CmI.eq(h:CmI c d L J E f lo hi p q u1 u2 v1 v2):cmpC (cutA c u1 u2) (cutA d v1 v2)=cmpC (cutA c lo hi) (cutA d p q):=cmpC_congr h.n1.cut h.n2.cut
theorem CmI.lt(h:CmI c d L J E f lo hi p q u1 u2 v1 v2)(hne:cmpC (cutA c lo hi) (cutA d p q)≠0)(hb:u2≤v1):cmpC (cutA c lo hi) (cutA d p q)= -1:=by
 have h1:=bel_cmp h.n1.ok h.n2.ok hb;rw [h.eq] at h1;rcases cmpC_bd (cutA c lo hi) (cutA d p q) with k | k | k
 ·exact k
 ·exact absurd k hne
 ·omega
theorem CmI.gt(h:CmI c d L J E f lo hi p q u1 u2 v1 v2)(hne:cmpC (cutA c lo hi) (cutA d p q)≠0)(hb:v2≤u1):cmpC (cutA c lo hi) (cutA d p q)=1:=by
 have h1:=bel_cmp h.n2.ok h.n1.ok hb;have h2:=cmpC_neg h.n1.ok.cut h.n2.ok.cut;rw [h.eq] at h2;rcases cmpC_bd (cutA c lo hi) (cutA d p q) with k | k | k
 ·omega
 ·exact absurd k hne
 ·exact k
theorem CmI.no{h1 h2:Nat}(h:CmI c d L J E f lo hi p q u1 u2 v1 v2)(b1:∀ i,(c i).natAbs≤2^h1)(b2:∀ i,(d i).natAbs≤2^h2)(hE:E=sepE (lg c) (lg d) h1 h2)(oa:OkV c lo hi)(ob:OkV d p q)(hne:cmpC (cutA c lo hi) (cutA d p q)≠0)(hf:f=0)(o1:¬ u2≤v1)(o2:¬ v2≤u1):False:=by
 have w1:=h.w1;have w2:=h.w2;rw [hf,show t2 0=1 from rfl] at w1 w2;exact near_no b1 b2 hE (oa.nar h.n1) (ob.nar h.n2) (by rw [h.eq];exact hne) (by grind) (by grind) w1 w2
theorem db_bits{K:Nat}(h:Db K c)(i:Nat):(c i).natAbs≤2^(14*K):=by
 have h1:=h i;have h2:B4^K≤2^(14*K):=by rw [Nat.pow_mul];exact Nat.pow_le_pow_left (by decide) K
 omega
end
theorem aQCmpP{K KC X:Nat}{c d:Nat→Int}{lo hi e1 e2:Rat}(hV:OkV c lo hi)(hW:OkV d e1 e2)(hpt:lo=hi∨e1=e2)(hK:K≤100000:=by omega)(hKC:KC≤100000:=by omega)(hX:X≤100000:=by omega):ACall Tryz.prog 41 [.agg ([.row 4 (lg c) (qel K (rc c))] ++ [exL (ChQ c KC) (fun L=>qlr KC L)] ++qn X lo ++qn X hi),.agg ([.row 4 (lg d) (qel K (rc d))] ++ [exL (ChQ d KC) (fun L=>qlr KC L)] ++qn X e1 ++qn X e2)] (.d (.one (.v (.int .i64 (cmpC (cutA c lo hi) (cutA d e1 e2)))))):=by
 have hlc:=lg_le c;have hld:=lg_le d;refine aN 59 [.tmp 4] Tryz.func41 rfl<|cR<|mO rfl<|mO rfl<|mW rfl<|mT<|cSeq<|cSeq ?_
 by_cases ha:lo=hi
 ·exact cReg<|mW rfl<|mY (aQPointB (decide_eq_true ha)) rfl<|mT<|cT rfl<|cR<|mv3 rfl rfl rfl<|mY (aQCmpRat hW.cn hW.ok) rfl<|mV hTT (.d (.one (.v (.int .i64 (-(cmpC (cutA d e1 e2) (cutP lo))))))) (evi ((wr64 (by have:=cmpC_bd (cutA d e1 e2) (cutP lo);omega) (by have:=cmpC_bd (cutA d e1 e2) (cutP lo);omega)).trans (by omega)))<|mW rfl<|mT<|cRet<|tR<|rQ rfl (le_int (by rw [show cutA c lo hi=cutP lo from cutA_P (by grind),cmpC_neg hW.ok.cut (cutP_ok lo)]))
 ·by_cases hb0:e1=e2
  ·exact cReg<|mW rfl<|mY (aQPointB (decide_eq_false ha)) rfl<|mT<|cFs rfl<|cSeq<|cR<|mW rfl<|mY (aQPointB (decide_eq_true hb0)) rfl<|mT<|cT rfl<|cR<|mv3 rfl rfl rfl<|mY (aQCmpRat hV.cn hV.ok) rfl<|mW rfl<|mT<|cRet<|tR<|rQ rfl (le_int (by rw [show cutA d e1 e2=cutP e1 from cutA_P (by grind)]))
  ·exact absurd hpt (by rintro (k | k);exact ha k;exact hb0 k)
theorem aQCmp{K KC X N G M KD L J Z:Nat}{c d:Nat→Int}{lo hi e1 e2:Rat}(hV:OkV c lo hi)(hW:OkV d e1 e2)(hx1:EX c lo hi)(hx2:EX d e1 e2)(hd10:lg d≤10)(hc10:lg c≤10)(hN:N≤10)(hcN:lg c≤N)(hK1:1≤K)(hG:(K+1)*(max (lg d+2-lg c) 1*3^lg c)≤G)(hG9:G≤90000)(hM64:1≤M)(hB:DvB c M)(hKD:(M+2)*(2*3^N)≤KD)(hKD9:KD≤90000)(hKC:KC≤90000)(hX:X≤90000)(hL:X≤2*L)(hJ:32*L+3+sepE (lg c) (lg d) (14*K) (14*K)≤J)(hZ:3*(3*L+J / 32+2)≤Z:=by decide)(hZ9:Z≤90000:=by decide):ACall Tryz.prog 41 [.agg ([.row 4 (lg c) (qel K (rc c))] ++ [exL (ChQ c KC) (fun L=>qlr KC L)] ++qn X lo ++qn X hi),.agg ([.row 4 (lg d) (qel K (rc d))] ++ [exL (ChQ d KC) (fun L=>qlr KC L)] ++qn X e1 ++qn X e2)] (.d (.one (.v (.int .i64 (cmpC (cutA c lo hi) (cutA d e1 e2)))))):=by
 refine ACall.fact10 (enters Tryz.func41 rfl rfl) (p:=(Db K c∧Qb X lo∧Qb X hi)∧(Db K d∧Qb X e1∧Qb X e2)) (fun B w vs h=>match vs,h with | [_,_],⟨⟨cs,_,hl⟩,⟨ds,_,hk⟩,_⟩=>⟨qa_bd hV.ok.z hl,qa_bd hW.ok.z hk⟩) (fun hb=>?_);have hlc:=lg_le c;have hld:=lg_le d;have hKG:=(Gw.mk hG).bd;refine aN 59 [.tmp 4] Tryz.func41 rfl<|cR<|mO rfl<|mO rfl<|mW rfl<|mT<|cSeq<|cSeq ?_
 by_cases ha:lo=hi
 ·exact cReg<|mW rfl<|mY (aQPointB (decide_eq_true ha)) rfl<|mT<|cT rfl<|cR<|mv3 rfl rfl rfl<|mY (aQCmpRat hW.cn hW.ok) rfl<|mV hTT (.d (.one (.v (.int .i64 (-(cmpC (cutA d e1 e2) (cutP lo))))))) (evi ((wr64 (by have:=cmpC_bd (cutA d e1 e2) (cutP lo);omega) (by have:=cmpC_bd (cutA d e1 e2) (cutP lo);omega)).trans (by omega)))<|mW rfl<|mT<|cRet<|tR<|rQ rfl (le_int (by rw [show cutA c lo hi=cutP lo from cutA_P (by grind),cmpC_neg hW.ok.cut (cutP_ok lo)]))
 ·by_cases hb0:e1=e2
  ·exact cReg<|mW rfl<|mY (aQPointB (decide_eq_false ha)) rfl<|mT<|cFs rfl<|cSeq<|cR<|mW rfl<|mY (aQPointB (decide_eq_true hb0)) rfl<|mT<|cT rfl<|cR<|mv3 rfl rfl rfl<|mY (aQCmpRat hV.cn hV.ok) rfl<|mW rfl<|mT<|cRet<|tR<|rQ rfl (le_int (by rw [show cutA d e1 e2=cutP e1 from cutA_P (by grind)]))
  ·refine cReg<|mW rfl<|mY (aQPointB (decide_eq_false ha)) rfl<|mT<|cFs rfl<|cSeq<|cR<|mW rfl<|mY (aQPointB (decide_eq_false hb0)) rfl<|mT<|cFs rfl<|cSeq<|cR<|mv3 rfl rfl rfl<|mY (aQZeroA (N:=N) (G:=G) (M:=M) (KD:=KD) hW.ok.z hV hd10 hc10 hN hcN hK1 hG hG9 hM64 hB hKD hKD9 hKC hX) rfl<|mT<|cCond rfl (fun hc1=>?_) (fun hc1=>?_)
   ·refine cSeq ?_
    by_cases hk1:cmpC (cutA c lo hi) (cutP e1) > 0
    ·by_cases hk2:cmpC (cutA c lo hi) (cutP e2)≤0
     ·exact cReg<|mv3 rfl rfl rfl<|mY (aQCmpRat hV.cn hV.ok) rfl<|mdT rfl hk1<|mv4 rfl rfl rfl rfl<|mY (aQCmpRat hV.cn hV.ok) rfl<|mdT rfl hk2<|mW rfl<|mT<|cT rfl<|cR<|mW rfl<|mT<|cRet<|tR<|rQ rfl (le_int (hV.same hW (by have:=hW.ok.le;grind) (of_decide_eq_true hc1) hk1 hk2).symm)
     ·refine cReg<|mv3 rfl rfl rfl<|mY (aQCmpRat hV.cn hV.ok) rfl<|mdT rfl hk1<|mv4 rfl rfl rfl rfl<|mY (aQCmpRat hV.cn hV.ok) rfl<|mdF rfl hk2<|mW rfl<|mT<|cFs rfl<|cBlock ?_;have hpq:e1 < e2:=by have:=hW.ok.le;grind
      have hne:=hV.unlike hW hpq (fun k=>by first | exact hk1 k.2.1 | exact hk2 k.2.2);have t1:Tb L lo:=Qb.tb (K:=L) (qb_mono hb.1.2.1 (by omega)) (Nat.le_refl _);have t2':Tb L hi:=Qb.tb (K:=L) (qb_mono hb.1.2.2 (by omega)) (Nat.le_refl _);have t3:Tb L e1:=Qb.tb (K:=L) (qb_mono hb.2.2.1 (by omega)) (Nat.le_refl _);have t4:Tb L e2:=Qb.tb (K:=L) (qb_mono hb.2.2.2 (by omega)) (Nat.le_refl _);refine cLoop (ι:=Nat×Rat×Rat×Rat×Rat) (fun (p:Nat×Rat×Rat×Rat×Rat)=>match p with | (f,u1,u2,v1,v2)=>⟨59,[(2,.ptr 2 0),(3,.ptr 3 0)],[(2,.box 32 ([.row 4 (lg c) (qel K (rc c))] ++ [exL (ChQ c KC) (fun L=>qlr KC L)] ++qn Z u1 ++qn Z u2)),(3,.box 32 ([.row 4 (lg d) (qel K (rc d))] ++ [exL (ChQ d KC) (fun L=>qlr KC L)] ++qn Z v1 ++qn Z v2))]⟩) (fun (p:Nat×Rat×Rat×Rat×Rat)=>match p with | (f,u1,u2,v1,v2)=>CmI c d L J (sepE (lg c) (lg d) (14*K) (14*K)) f lo hi e1 e2 u1 u2 v1 v2) (fun (p:Nat×Rat×Rat×Rat×Rat)=>match p with | (f,u1,u2,v1,v2)=>f) (J,lo,hi,e1,e2) (CmI.start hV.ok hW.ok hx1 hx2 t1 t2' t3 t4 (by omega)) (wk rfl ⟨hs rfl,hs rfl,trivial⟩ ⟨ho' rfl (leo_box (ls_cat (ls_cat (fun B w cs h=>h) (qn_tight (t1.qb (by omega)))) (qn_tight (t2'.qb (by omega))))),ho' rfl (leo_box (ls_cat (ls_cat (fun B w cs h=>h) (qn_tight (t3.qb (by omega)))) (qn_tight (t4.qb (by omega))))),trivial⟩ rfl) ?_;rintro ⟨f,u1,u2,v1,v2⟩ hI;have hI:CmI c d L J (sepE (lg c) (lg d) (14*K) (14*K)) f lo hi e1 e2 u1 u2 v1 v2:=hI;show AW _ _ _ ⟨_,_,_⟩
      refine cBlock<|cSeq<|cSeq ?_
      by_cases hu:u1=u2
      ·exact cReg<|mW rfl<|mY (aQPointB (decide_eq_true hu)) rfl<|mW rfl<|mG rfl rfl<|mG rfl rfl<|mW rfl<|mT<|cT rfl<|cR<|mv2 rfl rfl<|mY (aQCmpP (hV.nar hI.n1) (hW.nar hI.n2) (Or.inl hu)) rfl<|mW rfl<|mT<|cRet<|tR<|bR<|tR<|bR<|rQ rfl (le_int hI.eq)
      ·by_cases hv:v1=v2
       ·exact cReg<|mW rfl<|mY (aQPointB (decide_eq_false hu)) rfl<|mv2 rfl rfl<|mY (aQPointB (decide_eq_true hv)) rfl<|mW rfl<|mT<|cT rfl<|cR<|mv2 rfl rfl<|mY (aQCmpP (hV.nar hI.n1) (hW.nar hI.n2) (Or.inr hv)) rfl<|mW rfl<|mT<|cRet<|tR<|bR<|tR<|bR<|rQ rfl (le_int hI.eq)
       ·refine cReg<|mW rfl<|mY (aQPointB (decide_eq_false hu)) rfl<|mv2 rfl rfl<|mY (aQPointB (decide_eq_false hv)) rfl<|mW rfl<|mT<|cFs rfl<|cSeq<|cR<|mv4 rfl rfl rfl rfl<|mY (aRCmpR (isq Z u2) (isq Z v1)) rfl<|mW rfl<|mT<|cCond rfl (fun hc2=>?_) (fun hc2=>?_)
        ·exact cR<|mW rfl<|mT<|cRet<|tR<|bR<|tR<|bR<|rQ rfl (le_int (hI.lt hne (by have h0:=of_decide_eq_true hc2;exact cmpQ_le.1 h0)).symm)
        ·refine cSkip<|tN<|cSeq<|cSeq ?_;have o1:¬ u2≤v1:=fun k=>by have h0:=of_decide_eq_false hc2;exact h0 (cmpQ_le.2 k)
         refine cReg<|mv4 rfl rfl rfl rfl<|mY (aRCmpR (isq Z v2) (isq Z u1)) rfl<|mW rfl<|mT<|cCond rfl (fun hc3=>?_) (fun hc3=>?_)
         ·exact cR<|mW rfl<|mT<|cRet<|tR<|bR<|tR<|bR<|rQ rfl (le_int (hI.gt hne (by have h0:=of_decide_eq_true hc3;exact cmpQ_le.1 h0)).symm)
         ·refine cSkip<|tN ?_;have o2:¬ v2≤u1:=fun k=>by have h0:=of_decide_eq_false hc3;exact h0 (cmpQ_le.2 k)
          have hf0:f≠0:=fun hf=>hI.no (db_bits hb.1.1) (db_bits hb.2.1) rfl hV hW hne hf o1 o2
          have hfl:=hI.fl;have hd1:=(hI.d1.mid.2.qb (X:=Z) (by omega)).1;have hd2:=(hI.d2.mid.2.qb (X:=Z) (by omega)).1;exact cDk 4<|oV rfl<|oC (aQHalve (Y:=Z) hV.cn hI.n1.ok hI.x1 hd1) rfl<|oV rfl<|oC (aQHalve (Y:=Z) hW.cn hI.n2.ok hI.x2 hd2) rfl<|.nil<|mZ rfl<|mZ rfl<|mNil<|bN<|⟨((f-1),(hlf c u1 u2).1,(hlf c u1 u2).2,(hlf d v1 v2).1,(hlf d v1 v2).2),hI.go hf0 hV.cn hW.cn,by show f-1 < f;omega,wkr rfl rfl⟩
    ·refine cReg<|mv3 rfl rfl rfl<|mY (aQCmpRat hV.cn hV.ok) rfl<|mdF rfl hk1<|mW rfl<|mG rfl rfl<|mG rfl rfl<|mG rfl rfl<|mG rfl rfl<|mG rfl rfl<|mW rfl<|mT<|cFs rfl<|cBlock ?_;have hpq:e1 < e2:=by have:=hW.ok.le;grind
     have hne:=hV.unlike hW hpq (fun k=>by first | exact hk1 k.2.1 | exact hk2 k.2.2);have t1:Tb L lo:=Qb.tb (K:=L) (qb_mono hb.1.2.1 (by omega)) (Nat.le_refl _);have t2':Tb L hi:=Qb.tb (K:=L) (qb_mono hb.1.2.2 (by omega)) (Nat.le_refl _);have t3:Tb L e1:=Qb.tb (K:=L) (qb_mono hb.2.2.1 (by omega)) (Nat.le_refl _);have t4:Tb L e2:=Qb.tb (K:=L) (qb_mono hb.2.2.2 (by omega)) (Nat.le_refl _);refine cLoop (ι:=Nat×Rat×Rat×Rat×Rat) (fun (p:Nat×Rat×Rat×Rat×Rat)=>match p with | (f,u1,u2,v1,v2)=>⟨59,[(2,.ptr 2 0),(3,.ptr 3 0)],[(2,.box 32 ([.row 4 (lg c) (qel K (rc c))] ++ [exL (ChQ c KC) (fun L=>qlr KC L)] ++qn Z u1 ++qn Z u2)),(3,.box 32 ([.row 4 (lg d) (qel K (rc d))] ++ [exL (ChQ d KC) (fun L=>qlr KC L)] ++qn Z v1 ++qn Z v2))]⟩) (fun (p:Nat×Rat×Rat×Rat×Rat)=>match p with | (f,u1,u2,v1,v2)=>CmI c d L J (sepE (lg c) (lg d) (14*K) (14*K)) f lo hi e1 e2 u1 u2 v1 v2) (fun (p:Nat×Rat×Rat×Rat×Rat)=>match p with | (f,u1,u2,v1,v2)=>f) (J,lo,hi,e1,e2) (CmI.start hV.ok hW.ok hx1 hx2 t1 t2' t3 t4 (by omega)) (wk rfl ⟨hs rfl,hs rfl,trivial⟩ ⟨ho' rfl (leo_box (ls_cat (ls_cat (fun B w cs h=>h) (qn_tight (t1.qb (by omega)))) (qn_tight (t2'.qb (by omega))))),ho' rfl (leo_box (ls_cat (ls_cat (fun B w cs h=>h) (qn_tight (t3.qb (by omega)))) (qn_tight (t4.qb (by omega))))),trivial⟩ rfl) ?_;rintro ⟨f,u1,u2,v1,v2⟩ hI;have hI:CmI c d L J (sepE (lg c) (lg d) (14*K) (14*K)) f lo hi e1 e2 u1 u2 v1 v2:=hI;show AW _ _ _ ⟨_,_,_⟩
     refine cBlock<|cSeq<|cSeq ?_
     by_cases hu:u1=u2
     ·exact cReg<|mW rfl<|mY (aQPointB (decide_eq_true hu)) rfl<|mW rfl<|mG rfl rfl<|mG rfl rfl<|mW rfl<|mT<|cT rfl<|cR<|mv2 rfl rfl<|mY (aQCmpP (hV.nar hI.n1) (hW.nar hI.n2) (Or.inl hu)) rfl<|mW rfl<|mT<|cRet<|tR<|bR<|tR<|bR<|rQ rfl (le_int hI.eq)
     ·by_cases hv:v1=v2
      ·exact cReg<|mW rfl<|mY (aQPointB (decide_eq_false hu)) rfl<|mv2 rfl rfl<|mY (aQPointB (decide_eq_true hv)) rfl<|mW rfl<|mT<|cT rfl<|cR<|mv2 rfl rfl<|mY (aQCmpP (hV.nar hI.n1) (hW.nar hI.n2) (Or.inr hv)) rfl<|mW rfl<|mT<|cRet<|tR<|bR<|tR<|bR<|rQ rfl (le_int hI.eq)
      ·refine cReg<|mW rfl<|mY (aQPointB (decide_eq_false hu)) rfl<|mv2 rfl rfl<|mY (aQPointB (decide_eq_false hv)) rfl<|mW rfl<|mT<|cFs rfl<|cSeq<|cR<|mv4 rfl rfl rfl rfl<|mY (aRCmpR (isq Z u2) (isq Z v1)) rfl<|mW rfl<|mT<|cCond rfl (fun hc4=>?_) (fun hc4=>?_)
       ·exact cR<|mW rfl<|mT<|cRet<|tR<|bR<|tR<|bR<|rQ rfl (le_int (hI.lt hne (by have h0:=of_decide_eq_true hc4;exact cmpQ_le.1 h0)).symm)
       ·refine cSkip<|tN<|cSeq<|cSeq ?_;have o1:¬ u2≤v1:=fun k=>by have h0:=of_decide_eq_false hc4;exact h0 (cmpQ_le.2 k)
        refine cReg<|mv4 rfl rfl rfl rfl<|mY (aRCmpR (isq Z v2) (isq Z u1)) rfl<|mW rfl<|mT<|cCond rfl (fun hc5=>?_) (fun hc5=>?_)
        ·exact cR<|mW rfl<|mT<|cRet<|tR<|bR<|tR<|bR<|rQ rfl (le_int (hI.gt hne (by have h0:=of_decide_eq_true hc5;exact cmpQ_le.1 h0)).symm)
        ·refine cSkip<|tN ?_;have o2:¬ v2≤u1:=fun k=>by have h0:=of_decide_eq_false hc5;exact h0 (cmpQ_le.2 k)
         have hf0:f≠0:=fun hf=>hI.no (db_bits hb.1.1) (db_bits hb.2.1) rfl hV hW hne hf o1 o2
         have hfl:=hI.fl;have hd1:=(hI.d1.mid.2.qb (X:=Z) (by omega)).1;have hd2:=(hI.d2.mid.2.qb (X:=Z) (by omega)).1;exact cDk 4<|oV rfl<|oC (aQHalve (Y:=Z) hV.cn hI.n1.ok hI.x1 hd1) rfl<|oV rfl<|oC (aQHalve (Y:=Z) hW.cn hI.n2.ok hI.x2 hd2) rfl<|.nil<|mZ rfl<|mZ rfl<|mNil<|bN<|⟨((f-1),(hlf c u1 u2).1,(hlf c u1 u2).2,(hlf d v1 v2).1,(hlf d v1 v2).2),hI.go hf0 hV.cn hW.cn,by show f-1 < f;omega,wkr rfl rfl⟩
   ·refine cSkip<|tN<|cBlock ?_;have hpq:e1 < e2:=by have:=hW.ok.le;grind
    have hne:=hV.unlike hW hpq (fun k=>of_decide_eq_false hc1 k.1);have t1:Tb L lo:=Qb.tb (K:=L) (qb_mono hb.1.2.1 (by omega)) (Nat.le_refl _);have t2':Tb L hi:=Qb.tb (K:=L) (qb_mono hb.1.2.2 (by omega)) (Nat.le_refl _);have t3:Tb L e1:=Qb.tb (K:=L) (qb_mono hb.2.2.1 (by omega)) (Nat.le_refl _);have t4:Tb L e2:=Qb.tb (K:=L) (qb_mono hb.2.2.2 (by omega)) (Nat.le_refl _);refine cLoop (ι:=Nat×Rat×Rat×Rat×Rat) (fun (p:Nat×Rat×Rat×Rat×Rat)=>match p with | (f,u1,u2,v1,v2)=>⟨59,[(2,.ptr 2 0),(3,.ptr 3 0)],[(2,.box 32 ([.row 4 (lg c) (qel K (rc c))] ++ [exL (ChQ c KC) (fun L=>qlr KC L)] ++qn Z u1 ++qn Z u2)),(3,.box 32 ([.row 4 (lg d) (qel K (rc d))] ++ [exL (ChQ d KC) (fun L=>qlr KC L)] ++qn Z v1 ++qn Z v2))]⟩) (fun (p:Nat×Rat×Rat×Rat×Rat)=>match p with | (f,u1,u2,v1,v2)=>CmI c d L J (sepE (lg c) (lg d) (14*K) (14*K)) f lo hi e1 e2 u1 u2 v1 v2) (fun (p:Nat×Rat×Rat×Rat×Rat)=>match p with | (f,u1,u2,v1,v2)=>f) (J,lo,hi,e1,e2) (CmI.start hV.ok hW.ok hx1 hx2 t1 t2' t3 t4 (by omega)) (wk rfl ⟨hs rfl,hs rfl,trivial⟩ ⟨ho' rfl (leo_box (ls_cat (ls_cat (fun B w cs h=>h) (qn_tight (t1.qb (by omega)))) (qn_tight (t2'.qb (by omega))))),ho' rfl (leo_box (ls_cat (ls_cat (fun B w cs h=>h) (qn_tight (t3.qb (by omega)))) (qn_tight (t4.qb (by omega))))),trivial⟩ rfl) ?_;rintro ⟨f,u1,u2,v1,v2⟩ hI;have hI:CmI c d L J (sepE (lg c) (lg d) (14*K) (14*K)) f lo hi e1 e2 u1 u2 v1 v2:=hI;show AW _ _ _ ⟨_,_,_⟩
    refine cBlock<|cSeq<|cSeq ?_
    by_cases hu:u1=u2
    ·exact cReg<|mW rfl<|mY (aQPointB (decide_eq_true hu)) rfl<|mW rfl<|mG rfl rfl<|mG rfl rfl<|mW rfl<|mT<|cT rfl<|cR<|mv2 rfl rfl<|mY (aQCmpP (hV.nar hI.n1) (hW.nar hI.n2) (Or.inl hu)) rfl<|mW rfl<|mT<|cRet<|tR<|bR<|tR<|bR<|rQ rfl (le_int hI.eq)
    ·by_cases hv:v1=v2
     ·exact cReg<|mW rfl<|mY (aQPointB (decide_eq_false hu)) rfl<|mv2 rfl rfl<|mY (aQPointB (decide_eq_true hv)) rfl<|mW rfl<|mT<|cT rfl<|cR<|mv2 rfl rfl<|mY (aQCmpP (hV.nar hI.n1) (hW.nar hI.n2) (Or.inr hv)) rfl<|mW rfl<|mT<|cRet<|tR<|bR<|tR<|bR<|rQ rfl (le_int hI.eq)
     ·refine cReg<|mW rfl<|mY (aQPointB (decide_eq_false hu)) rfl<|mv2 rfl rfl<|mY (aQPointB (decide_eq_false hv)) rfl<|mW rfl<|mT<|cFs rfl<|cSeq<|cR<|mv4 rfl rfl rfl rfl<|mY (aRCmpR (isq Z u2) (isq Z v1)) rfl<|mW rfl<|mT<|cCond rfl (fun hc6=>?_) (fun hc6=>?_)
      ·exact cR<|mW rfl<|mT<|cRet<|tR<|bR<|tR<|bR<|rQ rfl (le_int (hI.lt hne (by have h0:=of_decide_eq_true hc6;exact cmpQ_le.1 h0)).symm)
      ·refine cSkip<|tN<|cSeq<|cSeq ?_;have o1:¬ u2≤v1:=fun k=>by have h0:=of_decide_eq_false hc6;exact h0 (cmpQ_le.2 k)
       refine cReg<|mv4 rfl rfl rfl rfl<|mY (aRCmpR (isq Z v2) (isq Z u1)) rfl<|mW rfl<|mT<|cCond rfl (fun hc7=>?_) (fun hc7=>?_)
       ·exact cR<|mW rfl<|mT<|cRet<|tR<|bR<|tR<|bR<|rQ rfl (le_int (hI.gt hne (by have h0:=of_decide_eq_true hc7;exact cmpQ_le.1 h0)).symm)
       ·refine cSkip<|tN ?_;have o2:¬ v2≤u1:=fun k=>by have h0:=of_decide_eq_false hc7;exact h0 (cmpQ_le.2 k)
        have hf0:f≠0:=fun hf=>hI.no (db_bits hb.1.1) (db_bits hb.2.1) rfl hV hW hne hf o1 o2
        have hfl:=hI.fl;have hd1:=(hI.d1.mid.2.qb (X:=Z) (by omega)).1;have hd2:=(hI.d2.mid.2.qb (X:=Z) (by omega)).1;exact cDk 4<|oV rfl<|oC (aQHalve (Y:=Z) hV.cn hI.n1.ok hI.x1 hd1) rfl<|oV rfl<|oC (aQHalve (Y:=Z) hW.cn hI.n2.ok hI.x2 hd2) rfl<|.nil<|mZ rfl<|mZ rfl<|mNil<|bN<|⟨((f-1),(hlf c u1 u2).1,(hlf c u1 u2).2,(hlf d v1 v2).1,(hlf d v1 v2).2),hI.go hf0 hV.cn hW.cn,by show f-1 < f;omega,wkr rfl rfl⟩
/-- There is one: by Bezout. -/
theorem ex_gcdP{c d:Nat→Int}(zc:z20 c)(zd:z20 d)(hc:lg c≠0):∃ M g,GcdP c d M g:=by
 obtain ⟨δ,u,v,s,t,pδ,pu,pv,ps,pt,e1,e2,e3⟩:=po_gcd 20 (FF c) (FF d) (FF_po zc) ⟨rc d,rc_z zd,fun _=>rfl⟩;obtain ⟨x0,hx0⟩:=FF_nz zc hc;have δne:∃ x,δ x≠0:=⟨x0,fun e=>hx0 (by rw [e2,e,Rat.mul_zero])⟩
 obtain ⟨kδ,aδ,hlδ⟩:=po_deg pδ δne;have hdv:Dv δ (FF c):=⟨s,ps,e2⟩;have hk:kδ+1≤20:=by
  have h1:=hdv.deg hlδ (FF_lc zc hc);have:=lg_le c;omega
 obtain ⟨q,hqz,_,_,hq⟩:=hlδ;obtain ⟨D,w,hD,hwz,hw⟩:=whole_row (q:=q) (k:=kδ+1) (fun i hi=>hqz i (by omega));have zw:z20 w:=z20.of hwz hk;have hDq:(D:Rat)≠0:=by
  have:(0:Rat) < (D:Rat):=by exact_mod_cast hD
  grind
 have hF:∀ x,FF w x=(D:Rat)*δ x:=fun x=>by
  rw [← FF_pf hwz zw,hq];show pe (rc w) x (kδ+1)=_
  rw [show rc w=fsclQ q (D:Rat) from funext hw,pe_scl];exact Rat.mul_comm _ _
 have hi:Idl (FF c) (FF d) δ:=⟨⟨u,v,pu,pv,e1⟩,hdv,⟨t,pt,e3⟩⟩;have hi2:Idl (FF c) (FF d) (FF w):=hi.scale (s:=(D:Rat)⁻¹) (s':=(D:Rat)) (fun x=>by rw [hF];have:=Rat.inv_mul_cancel _ hDq;grind) hF;obtain ⟨s1,s2,g1,g2⟩:=FF_prm zw;have zp:=prm20_z zw;obtain ⟨M,_,hM⟩:=ex_lb zp;exact ⟨M,prm20 w,zp,hM,hi2.scale g1 g2,fun e=>prm20_pm zw (by rw [← prm20_lg zw];exact e)⟩
theorem ex_sq{c:Nat→Int}(zc:z20 c)(h2:2≤lg c)(h10:lg c≤10):∃ M,SqP c M (sqP c):=by
 have zp:=prm20_z zc;have hl:=prm20_lg zc;have pp:=prm20_pm zc (by omega);obtain ⟨M,g,hg⟩:=ex_gcdP zp (z20_der zp) (by omega);obtain ⟨⟨M',h⟩,_⟩:=sq_step zp pp (by omega) (by omega) hg;have h3:=sqp_prm zc (by omega) h;exact ⟨M',h3.self⟩
theorem dvb_small{c:Nat→Int}{H n M:Nat}(zc:z20 c)(h0:lg c≠0)(hl:lg c≤n)(hH:∀ i,(c i).natAbs≤H)(hnH:n≤H)(h1:1≤H)(hM:n*(H*(2*H)^n)*(10*H)^n < B4^M):DvB c M:=by
 intro g zg hg hd;obtain ⟨hg0,hgl⟩:=lg_dv zc zg h0 hd;obtain ⟨W,pW,hW⟩:=hd;obtain ⟨w,k,hw,hc,_⟩:=exact_row zc.lg zg.lg hg pW (fun x=>by rw [FF_lg zc,FF_lg zg];exact hW x);intro i;have hb:=dv_bound (H:=(H:Int)) zc.ip h0 zg.lg hw hc (fun i=>by have:=hH i;omega) (by omega) (by omega) i;have e:((lg c:Rat)*(((H:Int):Rat)*(2*((H:Int):Rat))^lg c)*(10*((H:Int):Rat))^lg g)=((lg c*(H*(2*H)^lg c)*(10*H)^lg g:Nat):Rat):=by
  have pc:∀ (a b:Nat),((a^b:Nat):Rat)=(a:Rat)^b:=fun a b=>by
   induction b with
   | zero=>rw [Rat.pow_zero];rfl
   | succ b ih=>rw [Nat.pow_succ,Rat.pow_succ,Rat.natCast_mul,ih]
  rw [Rat.natCast_mul,Rat.natCast_mul,Rat.natCast_mul,pc,pc,Rat.natCast_mul,Rat.natCast_mul];rfl
 rw [e] at hb;have hle:(g i).natAbs≤lg c*(H*(2*H)^lg c)*(10*H)^lg g:=by
  unfold Ab at hb;have b1:((g i:Int):Rat)≤(((lg c*(H*(2*H)^lg c)*(10*H)^lg g:Nat):Int):Rat):=hb.2;have b2:((-((lg c*(H*(2*H)^lg c)*(10*H)^lg g:Nat):Int):Int):Rat)≤((g i:Int):Rat):=by rw [Rat.intCast_neg];exact hb.1
  have c1:g i≤((lg c*(H*(2*H)^lg c)*(10*H)^lg g:Nat):Int):=by exact_mod_cast b1
  have c2: -((lg c*(H*(2*H)^lg c)*(10*H)^lg g:Nat):Int)≤g i:=by exact_mod_cast b2
  omega
 refine Nat.lt_of_le_of_lt (Nat.le_trans hle ?_) hM;exact Nat.mul_le_mul (Nat.mul_le_mul hl (Nat.mul_le_mul_left _ (Nat.pow_le_pow_right (by omega) hl))) (Nat.pow_le_pow_right (by omega) (by omega))
theorem DvB.mono{c:Nat→Int}{K L:Nat}(h:DvB c K)(k:K≤L):DvB c L:=fun g zg hg hd=>(h g zg hg hd).mono k
theorem DvB.dv{c d:Nat→Int}{K:Nat}(h:DvB c K)(k:Dv (FF d) (FF c)):DvB d K:=fun g zg hg hd=>h g zg hg (hd.trans k)
/-! ### Picked -/
def pw(cl:Nat→Int)(i:Nat):Int:=IntKind.i64.wrap (cl i+6)%13-6
def pkP(cl:Nat→Int)(n:Nat):Nat→Int:=fun i=>if i < min n 5 then pw cl i else 0
def smT(n d:Int):Rat:=mkR (n%61-30) (1+d%6)
noncomputable def pkR(cl:Nat→Int)(n:Nat):List (Rat×Rat):=rtF (sqP (pkP cl n)) 56
noncomputable def pkA(cl:Nat→Int)(n:Nat)(k:Int):(Nat→Int)×Rat×Rat:=
 if 2≤lg (pkP cl n)∧(pkR cl n).length≠0 then (sqP (pkP cl n),((pkR cl n).getD (k%((pkR cl n).length:Int)).toNat (0,0)).1,((pkR cl n).getD (k%((pkR cl n).length:Int)).toNat (0,0)).2) else (lnP (smT k n),smT k n,smT k n)
noncomputable def pkC(cl:Nat→Int)(n:Nat)(k:Int):Nat→Int:=(pkA cl n k).1
noncomputable def pkL(cl:Nat→Int)(n:Nat)(k:Int):Rat:=(pkA cl n k).2.1
noncomputable def pkH(cl:Nat→Int)(n:Nat)(k:Int):Rat:=(pkA cl n k).2.2
theorem pkw_bd(cl:Nat→Int)(i:Nat): -6≤pw cl i∧pw cl i≤6:=by unfold pw;omega
theorem pkP_z(cl:Nat→Int)(n:Nat):∀ i,min n 5≤i→pkP cl n i=0:=fun i hi=>if_neg (by omega)
theorem pkP_20(cl:Nat→Int)(n:Nat):z20 (pkP cl n):= .of (pkP_z cl n) (by omega)
theorem pkP_l(cl:Nat→Int)(n:Nat):lg (pkP cl n)≤5:=Nat.le_trans (lg_of_z (pkP_20 cl n) (pkP_z cl n)) (by omega)
theorem pkP_b(cl:Nat→Int)(n i:Nat):(pkP cl n i).natAbs≤6:=by
 unfold pkP;split
 ·have:=pkw_bd cl i;omega
 ·exact Nat.zero_le _
theorem pkP_db(cl:Nat→Int)(n:Nat):Db 1 (pkP cl n):=fun i=>by
 have h:=pkP_b cl n i;have e:B4^1=10000:=by decide
 omega
theorem pkP_dvb{cl:Nat→Int}{n:Nat}(h:lg (pkP cl n)≠0):DvB (pkP cl n) 4:=dvb_small (pkP_20 cl n) h (pkP_l cl n) (pkP_b cl n) (by decide) (by decide) (by decide)
/-- What is picked. -/
structure PkP(c:Nat→Int)(lo hi:Rat):Prop where
 v:OkV c lo hi
 x:EX c lo hi
 pm:Pm (lg c) c
 b:Db 4 c
 l5:lg c≤5
 dv:DvB c 4
 sm:∃ p0,z20 p0∧(∀ i,(p0 i).natAbs≤30)∧lg p0≤5∧2≤lg p0∧Dv (FF c) (FF p0)∧(lg p0≤2∨∀ i,(p0 i).natAbs≤6)
theorem mkR_bd{n d:Int}(hd:0 < d):(mkR n d).num.natAbs≤n.natAbs∧(mkR n d).den≤d.natAbs:=by
 rw [mkR_ne (by omega)];obtain ⟨h1,h2⟩:=mkR_pos (n:=n) hd;refine ⟨by rw [h1];exact Int.natAbs_ediv_le_natAbs _ _,?_⟩;have h3:((Rat.divInt n d).den:Int).natAbs≤d.natAbs:=by rw [h2];exact Int.natAbs_ediv_le_natAbs _ _
 exact h3
theorem smT_bd(n d:Int):(smT n d).num.natAbs≤30∧(smT n d).den≤6:=by
 obtain ⟨h1,h2⟩:=mkR_bd (n:=n%61-30) (d:=1+d%6) (by omega);unfold smT;omega
theorem smT_qb(n d:Int):Qb 1 (smT n d):=by
 obtain ⟨h1,h2⟩:=smT_bd n d;have e:B4^1=10000:=by decide
 exact ⟨by omega,by omega⟩
theorem ex_tb(q:Rat):∃ L,Tb L q:=by
 refine ⟨q.num.natAbs+q.den,?_,?_⟩
 ·exact Nat.lt_of_lt_of_le (Nat.lt_of_lt_of_le Nat.lt_two_pow_self (Nat.pow_le_pow_left (show 2≤B32 by decide) _)) (Nat.pow_le_pow_right (by decide) (by omega))
 ·exact Nat.lt_of_lt_of_le (Nat.lt_of_lt_of_le Nat.lt_two_pow_self (Nat.pow_le_pow_left (show 2≤B32 by decide) _)) (Nat.pow_le_pow_right (by decide) (by omega))
theorem pkS{cl:Nat→Int}{n:Nat}(h2:2≤lg (pkP cl n)):(∃ M,SqP (pkP cl n) M (sqP (pkP cl n)))∧Db 4 (sqP (pkP cl n))∧(∀ i,(sqP (pkP cl n) i).natAbs≤2^56):=by
 obtain ⟨M,h⟩:=ex_sq (pkP_20 cl n) h2 (by have:=pkP_l cl n;omega);have hb:Db 4 (sqP (pkP cl n)):=pkP_dvb (by omega) _ h.z h.pm.one h.dv;exact ⟨⟨M,h⟩,hb,db_bits (K:=4) hb⟩
theorem pk_rt{cl:Nat→Int}{n:Nat}(h2:2≤lg (pkP cl n)):RtP (sqP (pkP cl n)) (pkR cl n):=by
 obtain ⟨⟨M,h⟩,hb,b1⟩:=pkS h2;obtain ⟨L,hL⟩:=ex_tb (bdQ (sqP (pkP cl n)));exact rt_ok (cnt_sq h (pkP_20 cl n) h2) b1 hL
theorem getD_mem'{α:Type}{l:List α}{i:Nat}{d:α}(h:i < l.length):l.getD i d∈l:=by
 rw [List.getD_eq_getElem?_getD,List.getElem?_eq_getElem h];exact List.getElem_mem h
theorem pk_ln(n d:Int):PkP (lnP (smT n d)) (smT n d) (smT n d):=by
 have hb:=lnP_db (smT_qb n d);have h30:∀ i,(lnP (smT n d) i).natAbs≤30:=fun i=>by
  obtain ⟨h1,h2⟩:=smT_bd n d
  match i with
  | 0=>show (-(smT n d).num).natAbs≤30;omega
  | 1=>show ((smT n d).den:Int).natAbs≤30;omega
  | i+2=>rw [lnP_z2 _ (i+2) (by omega)];exact Nat.zero_le _
 exact ⟨okV_ln _,Or.inl rfl,lnP_pmL _,hb.mono (by decide),by rw [lnP_lg];decide,(dvb_lin (lnP_z _) (lnP_lg _) hb (by decide)).mono (by decide),⟨lnP (smT n d),lnP_z _,h30,by rw [lnP_lg];decide,by rw [lnP_lg];decide,Dv.refl _,Or.inl (by rw [lnP_lg];decide)⟩⟩
theorem mod_lt'(k:Int){n:Nat}(h:n≠0):(k%(n:Int)).toNat < n:=by
 have h1:=Int.emod_nonneg k (show (n:Int)≠0 by omega);have h2:=Int.emod_lt_of_pos k (show (0:Int) < n by omega);omega
theorem pk_at{cl:Nat→Int}{n:Nat}(h2:2≤lg (pkP cl n)){p:Rat×Rat}(hp:p∈pkR cl n):PkP (sqP (pkP cl n)) p.1 p.2:=by
 obtain ⟨⟨M,h⟩,hb,b1⟩:=pkS h2;obtain ⟨o,x⟩:=(pk_rt h2).ok p hp;have hl:=pkP_l cl n;exact ⟨o,x,h.pm,hb,by have:=(lg_dv (pkP_20 cl n) h.z (by omega) h.dv).2;omega,(pkP_dvb (by omega)).dv h.dv,⟨pkP cl n,pkP_20 cl n,fun i=>by have:=pkP_b cl n i;omega,hl,h2,h.dv,Or.inr (pkP_b cl n)⟩⟩
theorem pk_ok(cl:Nat→Int)(n:Nat)(k:Int):PkP (pkC cl n k) (pkL cl n k) (pkH cl n k):=by
 unfold pkC pkL pkH pkA;split
 ·rename_i h
  exact pk_at h.1 (getD_mem' (mod_lt' k h.2))
 ·exact pk_ln k n
theorem aSmall{n d:Int}(hn1: -9223372036854775808≤n)(hn2:n≤9223372036854775807)(hd1: -9223372036854775808≤d:=by omega)(hd2:d≤9223372036854775807:=by omega):ACall Tryz.prog 40 [.one (.v (.int .i64 n)),.one (.v (.int .i64 d))] (.d (.agg (qn 64 (smT n d)))):=by
 exact aN 12 [.cell 4 30] Tryz.func40 rfl<|cR<|mO rfl<|mT<|cR<|mW rfl<|mY (aWithin (v:=n) (n:=61) (by decide) (by decide) hn1 hn2) rfl<|mV hTT (.d (.one (.v (.int .i64 (n%61-30))))) (evi (wr64 (by omega) (by omega)))<|mW rfl<|mY (aWithin (v:=d) (n:=6) (by decide) (by decide) hd1 hd2) rfl<|mV hTT (.d (.one (.v (.int .i64 (1+d%6))))) (evi (wr64 (by omega) (by omega)))<|mY (aROfR (n:=(n%61-30)) (d:=(1+d%6)) (by omega) (by omega) (by omega) (by omega)) rfl<|mZ rfl<|mT<|cRet<|rQ rfl (le_qn (Nat.le_refl _) rfl)
theorem wr_lo(z:Int): -9223372036854775808≤IntKind.i64.wrap z:=by rw [IntKind.wrap_i64];omega
theorem wr_hi(z:Int):IntKind.i64.wrap z≤9223372036854775807:=by rw [IntKind.wrap_i64];omega
theorem app_pw{cl:Nat→Int}{i p:Nat}{B:BS}{w:World}{v:Value}(hp:p < i+1)(hv:LfR B w (appEl i (fun i _=> .v (.int .i64 (pw cl i))) (fun i' j'=>((([.v (.int .i64 (pw cl i))]:List Lf))[i'*1+j']?).getD (.v undef)) p 0) v):LfR B w (.v (.int .i64 (pw cl p))) v:=by
 unfold appEl at hv
 by_cases h:p < i
 ·rw [show Nat.ble (p+1) i=true from Nat.ble_eq_true_of_le h] at hv;exact hv
 ·obtain rfl:p=i:=by omega
  rw [show Nat.ble (p+1) p=false from by rw [← Bool.not_eq_true,Nat.ble_eq];omega,Nat.sub_self] at hv;exact hv
theorem leo_pw{e:TypeId}{cl:Nat→Int}{i:Nat}:AO.le (.row e 1 (i+1) (appEl i (fun i _=> .v (.int .i64 (pw cl i))) (fun i' j'=>((([.v (.int .i64 (pw cl i))]:List Lf))[i'*1+j']?).getD (.v undef)))) (.row e 1 (i+1) (fun i _=> .v (.int .i64 (pw cl i)))):=leo_row fun p hp j hj B w v hv=>by
 obtain rfl:j=0:=by omega
 exact app_pw hp hv
theorem pk_of{cl:Nat→Int}{n:Nat}:AV.le (.d (.one (qrow 64 (dg (rc (pkP cl n)) (min n 5)) (rc (pkP cl n))))) (.d (.one (qrow 1 (lg (pkP cl n)) (rc (pkP cl n))))):=le_dg_t (lg_dg2 (pkP_z cl n) (pkP_20 cl n)) (by decide) (pkP_db cl n)
theorem pk_one{KC:Nat}{cl:Nat→Int}{n:Nat}{k:Int}(h:¬ (2≤lg (pkP cl n)∧(pkR cl n).length≠0)):AV.le (.d (.agg (qac 64 (lnP (smT k n)) KC 64 (smT k n) 64 (smT k n)))) (.d (.agg (qac 4 (pkC cl n k) KC 1200 (pkL cl n k) 1200 (pkH cl n k)))):=by
 have hb:=lnP_db (smT_qb k n);have hq:=smT_qb k n;unfold pkC pkL pkH pkA;rw [if_neg h];refine le_agg (ls_cat (ls_cat (ls_cat (fun B w cs k=>match cs,k with | [v],⟨k,_⟩=>⟨qrow_tight (by decide) (fun i _=>(hb.mono (by decide)) i) B w v k,trivial⟩) (fun _ _ _ h=>h)) (qn_tight (qb_mono hq (by decide)))) (qn_tight (qb_mono hq (by decide))))
theorem pk_two{KC:Nat}{cl:Nat→Int}{n:Nat}{k:Int}(h:2≤lg (pkP cl n)∧(pkR cl n).length≠0):AV.le (.d (.agg (qac 4 (sqP (pkP cl n)) KC 1200 ((pkR cl n).getD (k%((pkR cl n).length:Int)).toNat (0,0)).1 1200 ((pkR cl n).getD (k%((pkR cl n).length:Int)).toNat (0,0)).2))) (.d (.agg (qac 4 (pkC cl n k) KC 1200 (pkL cl n k) 1200 (pkH cl n k)))):=by
 unfold pkC pkL pkH pkA;rw [if_pos h];exact AV.le.rfl
theorem rtD_bd{c:Nat→Int}(h:lg c≤5):rtD c 56 / 32≤83:=by
 unfold rtD sepE;have h1:2*(lg c+lg c)*(56+56+(lg c+lg c)+8)≤2*(5+5)*(56+56+(5+5)+8):=Nat.mul_le_mul (by omega) (by omega);omega
theorem aPick{cl:Nat→Int}{n:Nat}{k:Int}(hn:n≤9223372036854775807)(hk1: -9223372036854775808≤k)(hk2:k≤9223372036854775807):ACall Tryz.prog 15 [.one (irow n cl),.one (.v (.int .i64 k))] (.d (.agg ([.row 4 (lg (pkC cl n k)) (qel 4 (rc (pkC cl n k)))] ++ [exL (ChQ (pkC cl n k) 2916) (fun L=>qlr 2916 L)] ++qn 1200 (pkL cl n k) ++qn 1200 (pkH cl n k)))):=by
 refine aN 56 [.cell 4 32] Tryz.func15 rfl<|cR<|mO rfl<|mT<|cR<|mW rfl<|mT<|cSeq<|cSeq<|AW.wk (wkNil 5 5 3 1 (fun _ _=> .v undef) rfl rfl)<|cReg<|mW rfl<|mT<|cBlock<|cLoop (ι:=Nat) (fun (i:Nat)=>⟨56,[(0,.d (.one (.row 1 n (fun i _=> .v (.int .i64 (cl i)))))),(1,.d (.one (.v (.int .i64 k)))),(4,.ptr 4 0),(5,.own 5),(6,.d (.one (.v (.int .i64 ((i:Nat):Int)))))],[(4,.box 32 ([.v (.slice none 0 0),.v (.slice none 0 0),.v (.slice none 0 0),.v (.bool false),.v (.slice none 0 0),.v (.bool false),.v (.slice none 0 0),.v (.bool false),.v (.slice none 0 0),.v (.bool false)])),(5,.row 3 1 i (fun i _=> .v (.int .i64 (pw cl i))))]⟩) (fun (i:Nat)=>i≤min n 5) (fun (i:Nat)=>min n 5-i) 0 (Nat.zero_le _) (wk rfl ⟨hs rfl,hs rfl,hs rfl,hs rfl,hs' rfl (le_int rfl),trivial⟩ ⟨ho rfl,ho' rfl (leo_row0),trivial⟩ rfl) ?_;rintro i hI;have hi:i≤min n 5:=hI;show AW _ _ _ ⟨_,_,_⟩
 refine cSeq<|cSeq ?_
 by_cases hin:i < n
 ·by_cases hi5:i < 5
  ·refine cReg<|mv3 rfl rfl rfl<|mdT rfl (by omega)<|mv2 rfl rfl<|mdT rfl (by omega)<|mW rfl<|mT<|cT rfl<|cSkip<|tN<|cSeq<|cBlock<|cReg<|mv3 rfl rfl rfl<|mV hTT (.d (.one (.at 1 ((fun i _=> .v (.int .i64 (cl i))) i)))) (ixR (el:=(fun i _=> .v (.int .i64 (cl i)))) (z:=((i:Nat):Int)) (n:=n) rfl rfl rfl rfl rfl rfl (by omega) (by omega)) ?_;exact mv2 rfl rfl<|mY (aWithin (v:=(IntKind.i64.wrap (cl i+6))) (n:=13) (by decide) (by decide) (wr_lo _) (wr_hi _)) rfl<|mV hTT (.d (.one (.v (.int .i64 (pw cl i))))) (evi (wr64 (by omega) (by omega)))<|mB hTT (.d (.one (.row 1 1 (fun i' j'=>(([.v (.int .i64 (pw cl i))])[i'*1+j']?).getD (.v undef))))) rfl<|mA hTT (id:=5) (n:=i) (m:=1) (el:=(fun i _=> .v (.int .i64 (pw cl i)))) (el2:=(fun i' j'=>(([.v (.int .i64 (pw cl i))])[i'*1+j']?).getD (.v undef))) rfl rfl rfl (by show (i+1)*8≤140737488355328;omega) (by omega) rfl rfl rfl rfl rfl rfl rfl rfl rfl rfl<|mW rfl<|mNil<|bN<|tN<|cReg<|mv3 rfl rfl rfl<|mNil<|⟨(i+1),by omega,by omega,wk rfl ⟨hs rfl,hs rfl,hs rfl,hs rfl,hs' rfl (le_int (inc64 (by omega))),trivial⟩ ⟨ho rfl,ho' rfl (leo_pw),trivial⟩ rfl⟩
  ·refine cReg<|mv3 rfl rfl rfl<|mdT rfl (by omega)<|mv2 rfl rfl<|mdF rfl (by omega)<|mW rfl<|mT<|cF rfl<|cExit<|tE<|tE<|bE<|tN<|cSeq ?_;obtain rfl:i=min n 5:=by omega
   refine AW.wk (wkRow 5 rfl)<|cReg<|mW rfl<|mY (aQOf (isi_cut (n:=(min n 5)) (c:=pw cl)) (fun i hi=>by show _≤(if i < min n 5 then pw cl i else 0)∧(if i < min n 5 then pw cl i else 0)≤_;rw [if_pos hi];have:=pkw_bd cl i;omega) (by omega)) rfl<|mW rfl<|mT<|cSeq<|cSeq<|cView 7 (.d (.one (.row 4 (lg (pkP cl n)) (qel 1 (rc (pkP cl n)))))) rfl (pk_of) ?_
   by_cases h2:2≤lg (pkP cl n)
   ·obtain ⟨⟨Ms,hS⟩,hb4,hb56⟩:=pkS h2;have hR:=pk_rt h2;have hsl:=(lg_dv (pkP_20 cl n) hS.z (by omega) hS.dv).2;have hrd:=rtD_bd (c:=sqP (pkP cl n)) (by have:=pkP_l cl n;omega);have hpl:=pkP_l cl n;refine cReg<|mv2 rfl rfl<|mdF rfl (by omega)<|mT<|cFs rfl<|cR<|mW rfl<|mY (aQRoots (K:=1) (M:=4) (KC:=2916) (N:=5) (X:=1200) (h1:=56) (Ms:=Ms) (c:=pkP cl n) (pkP_20 cl n) h2 (by decide) hpl (by decide) (by decide) (pkP_dvb (by omega)) (by decide) (by decide) (by decide) (by decide) hS hb56 (by omega) (by decide)) rfl<|mW rfl<|mT<|cSeq<|cSeq<|cEx (Qx:=fun l=>l=rtF (sqP (pkP cl n)) 56∧l.length≤1000000) (L:=fun l=> .row 10 l.length (elA 4 (sqP (pkP cl n)) 2916 1200 l)) 8 rfl (fun l hl=>?_);obtain ⟨hl1,hrl⟩:=hl;have hl2:l=pkR cl n:=hl1;subst hl2
    by_cases hr0:(pkR cl n).length=0
    ·exact cReg<|mv2 rfl rfl<|mbT rfl (beq_iff_eq.2 (by omega))<|mT<|cT rfl<|cR<|mv3 rfl rfl rfl<|mY (aSmall (n:=k) (d:=(n:Int)) hk1 hk2 (by omega) (by omega)) rfl<|mY (aQRational (X:=64) (KC:=2916) (t:=smT k n) (by decide) (by decide) (by decide)) rfl<|mZ rfl<|mT<|cRet<|tR<|rQ rfl (pk_one (fun h=>h.2 hr0))
    ·refine cReg<|mv2 rfl rfl<|mbF rfl (beq_eq_false_iff_ne.2 (by omega))<|mT<|cFs rfl<|cSeq ?_;have hml:=mod_lt' k hr0;have hm0:0≤k%((pkR cl n).length:Int):=Int.emod_nonneg _ (by omega);refine cReg<|mv4 rfl rfl rfl rfl<|mY (aWithin (v:=k) (n:=(pkR cl n).length) (by omega) hrl hk1 hk2) rfl<|mV hTT (.d (.one (.at 10 ((elA 4 (sqP (pkP cl n)) 2916 1200 (pkR cl n)) (((k%(((pkR cl n).length:Nat):Int))).toNat))))) (ixR (el:=(elA 4 (sqP (pkP cl n)) 2916 1200 (pkR cl n))) (z:=(k%(((pkR cl n).length:Nat):Int))) (n:=((pkR cl n).length)) rfl rfl rfl rfl rfl rfl hm0 (by omega)) ?_;exact mW rfl<|mZ rfl<|mT<|cRet<|rQ rfl (pk_two ⟨h2,hr0⟩)
   ·exact cReg<|mv2 rfl rfl<|mdT rfl (by omega)<|mT<|cT rfl<|cR<|mv3 rfl rfl rfl<|mY (aSmall (n:=k) (d:=(n:Int)) hk1 hk2 (by omega) (by omega)) rfl<|mY (aQRational (X:=64) (KC:=2916) (t:=smT k n) (by decide) (by decide) (by decide)) rfl<|mZ rfl<|mT<|cRet<|tR<|rQ rfl (pk_one (fun h=>h2 h.1))
 ·refine cReg<|mv3 rfl rfl rfl<|mdF rfl (by omega)<|mW rfl<|mG rfl rfl<|mG rfl rfl<|mW rfl<|mT<|cF rfl<|cExit<|tE<|tE<|bE<|tN<|cSeq ?_;obtain rfl:i=min n 5:=by omega
  refine AW.wk (wkRow 5 rfl)<|cReg<|mW rfl<|mY (aQOf (isi_cut (n:=(min n 5)) (c:=pw cl)) (fun i hi=>by show _≤(if i < min n 5 then pw cl i else 0)∧(if i < min n 5 then pw cl i else 0)≤_;rw [if_pos hi];have:=pkw_bd cl i;omega) (by omega)) rfl<|mW rfl<|mT<|cSeq<|cSeq<|cView 7 (.d (.one (.row 4 (lg (pkP cl n)) (qel 1 (rc (pkP cl n)))))) rfl (pk_of) ?_
  by_cases h2:2≤lg (pkP cl n)
  ·obtain ⟨⟨Ms,hS⟩,hb4,hb56⟩:=pkS h2;have hR:=pk_rt h2;have hsl:=(lg_dv (pkP_20 cl n) hS.z (by omega) hS.dv).2;have hrd:=rtD_bd (c:=sqP (pkP cl n)) (by have:=pkP_l cl n;omega);have hpl:=pkP_l cl n;refine cReg<|mv2 rfl rfl<|mdF rfl (by omega)<|mT<|cFs rfl<|cR<|mW rfl<|mY (aQRoots (K:=1) (M:=4) (KC:=2916) (N:=5) (X:=1200) (h1:=56) (Ms:=Ms) (c:=pkP cl n) (pkP_20 cl n) h2 (by decide) hpl (by decide) (by decide) (pkP_dvb (by omega)) (by decide) (by decide) (by decide) (by decide) hS hb56 (by omega) (by decide)) rfl<|mW rfl<|mT<|cSeq<|cSeq<|cEx (Qx:=fun l=>l=rtF (sqP (pkP cl n)) 56∧l.length≤1000000) (L:=fun l=> .row 10 l.length (elA 4 (sqP (pkP cl n)) 2916 1200 l)) 8 rfl (fun l hl=>?_);obtain ⟨hl1,hrl⟩:=hl;have hl2:l=pkR cl n:=hl1;subst hl2
   by_cases hr0:(pkR cl n).length=0
   ·exact cReg<|mv2 rfl rfl<|mbT rfl (beq_iff_eq.2 (by omega))<|mT<|cT rfl<|cR<|mv3 rfl rfl rfl<|mY (aSmall (n:=k) (d:=(n:Int)) hk1 hk2 (by omega) (by omega)) rfl<|mY (aQRational (X:=64) (KC:=2916) (t:=smT k n) (by decide) (by decide) (by decide)) rfl<|mZ rfl<|mT<|cRet<|tR<|rQ rfl (pk_one (fun h=>h.2 hr0))
   ·refine cReg<|mv2 rfl rfl<|mbF rfl (beq_eq_false_iff_ne.2 (by omega))<|mT<|cFs rfl<|cSeq ?_;have hml:=mod_lt' k hr0;have hm0:0≤k%((pkR cl n).length:Int):=Int.emod_nonneg _ (by omega);refine cReg<|mv4 rfl rfl rfl rfl<|mY (aWithin (v:=k) (n:=(pkR cl n).length) (by omega) hrl hk1 hk2) rfl<|mV hTT (.d (.one (.at 10 ((elA 4 (sqP (pkP cl n)) 2916 1200 (pkR cl n)) (((k%(((pkR cl n).length:Nat):Int))).toNat))))) (ixR (el:=(elA 4 (sqP (pkP cl n)) 2916 1200 (pkR cl n))) (z:=(k%(((pkR cl n).length:Nat):Int))) (n:=((pkR cl n).length)) rfl rfl rfl rfl rfl rfl hm0 (by omega)) ?_;exact mW rfl<|mZ rfl<|mT<|cRet<|rQ rfl (pk_two ⟨h2,hr0⟩)
  ·exact cReg<|mv2 rfl rfl<|mdT rfl (by omega)<|mT<|cT rfl<|cR<|mv3 rfl rfl rfl<|mY (aSmall (n:=k) (d:=(n:Int)) hk1 hk2 (by omega) (by omega)) rfl<|mY (aQRational (X:=64) (KC:=2916) (t:=smT k n) (by decide) (by decide) (by decide)) rfl<|mZ rfl<|mT<|cRet<|tR<|rQ rfl (pk_one (fun h=>h2 h.1))
def qd(q:Nat):Nat→Int:=lst [-(q:Int),0,1]
theorem qd_3(q:Nat):∀ i,3≤i→qd q i=0:=fun i hi=>lst_z i hi
theorem qd_z(q:Nat):z20 (qd q):= .of (qd_3 q) (by decide)
theorem qd_lg(q:Nat):lg (qd q)=3:=by
 rw [← lg_dg (qd_3 q) (qd_z q)];exact dg_stop (Or.inr (show (1:Int)≠0 by decide))
theorem qd_F(q:Nat)(x:Rat):FF (qd q) x=x*x-(q:Rat):=by
 rw [← FF_pf (qd_3 q) (qd_z q)];show (((0:Rat)+((-(q:Int):Int):Rat)*x^0)+((0:Int):Rat)*x^1)+((1:Int):Rat)*x^2=_
 rw [Rat.pow_zero,show x^2=x*x from by rw [show (2:Nat)=1+1 from rfl,Rat.pow_succ,pow1],Rat.intCast_neg,show ((0:Int):Rat)=0 from rfl,show ((1:Int):Rat)=1 from rfl,show (((q:Nat):Int):Rat)=(q:Rat) from rfl];grind
theorem qd_F'(q:Nat)(x:Rat):FF (fder (qd q)) x=2*x:=by
 have hz:∀ i,2≤i→fder (qd q) i=0:=fun i hi=>by unfold fder;rw [qd_3 q (i+1) (by omega)];simp
 rw [← FF_pf hz (z20_der (qd_z q))];show ((0:Rat)+((fder (qd q) 0:Int):Rat)*x^0)+((fder (qd q) 1:Int):Rat)*x^1=_
 have e0:fder (qd q) 0=0:=by show (0:Int)*((0+1:Nat):Int)=0;omega
 have e1:fder (qd q) 1=2:=by show (1:Int)*((1+1:Nat):Int)=2;omega
 rw [e0,e1,pow1,show ((0:Int):Rat)=0 from rfl,show ((2:Int):Rat)=2 from rfl];grind
theorem qd_pm(q:Nat):Pm (lg (qd q)) (qd q):=by
 refine ⟨(qd_z q).ip,by rw [qd_lg];decide,?_,?_⟩
 ·rw [qd_lg]
  show Nat.gcd (gcdN (qd q) 2) (qd q 2).natAbs=1
  rw [show (qd q 2).natAbs=1 from rfl];exact Nat.gcd_one_right _
 ·rw [qd_lg];show (0:Int) < 1;decide
section
variable {q:Nat}
theorem qnz(hq:1≤q):(1:Rat)≤(q:Rat):=by exact_mod_cast hq
theorem qd_sqf(hq:1≤q):Sqf (FF (qd q)) (FF (fder (qd q))):=⟨FF_po (qd_z q),FF_po (z20_der (qd_z q)),FF_der (qd_z q),fun _=> -1 / (q:Rat),fun x=>x*(1 / (2*(q:Rat))),po_const _,po_var.scl _,fun x=>by
 have:=qnz hq;rw [qd_F,qd_F'];grind⟩
theorem qd_stm(hq:1≤q):Stm (FF (qd q)) (fun x=>x) [fun _=>1]:=stm_of (d:=2) (fun h hh=>by
  rcases List.mem_cons.1 hh with rfl | hh
  ·exact FF_po (qd_z q)
  ·rcases List.mem_cons.1 hh with rfl | hh
   ·exact po_var
   ·rcases List.mem_cons.1 hh with rfl | hh
    ·exact po_const 1
    ·cases hh) ⟨⟨fun x=>x,(q:Rat),po_var,by have:=qnz hq;grind,fun x=>by rw [qd_F];grind⟩,1,by decide,fun _=>rfl⟩ (FF_der (qd_z q)) (by decide) (qd_F' q)
theorem qd_ctd(hq:1≤q){lo hi:Rat}(hab:lo≤hi){N:Nat}(h:Vr (FF (qd q)) (fun x=>x) [fun _=>1] lo=Vr (FF (qd q)) (fun x=>x) [fun _=>1] hi+N):Ctd (FF (qd q)) lo hi N:=by
 obtain ⟨M,hM⟩:=sturm (qd_stm hq) hab;have h1:=hM.v;obtain rfl:N=M:=by omega
 exact ⟨_,_,qd_stm hq,hM⟩
theorem qv(x:Rat){a b:Int}(h1:sgq (FF (qd q) x)=a)(h2:sgq x=b):Vr (FF (qd q)) (fun x=>x) [fun _=>1] x=vr [a,b,1]:=by
 have e:sgs (FF (qd q) ::(fun x=>x) :: [fun _=>1]) x= [sgq (FF (qd q) x),sgq x,sgq 1]:=rfl;show vr (sgs (FF (qd q) ::(fun x=>x) :: [fun _=>1]) x)=_
 rw [e,h1,h2];rfl
theorem qv0{x:Rat}(h:0 < x)(k:(q:Rat) < x*x):Vr (FF (qd q)) (fun x=>x) [fun _=>1] x=0:=by rw [qv x (sgq_pos (by rw [qd_F];grind)) (sgq_pos h)];decide
theorem qv1{x:Rat}(h:0 < x)(k:x*x < (q:Rat)):Vr (FF (qd q)) (fun x=>x) [fun _=>1] x=1:=by rw [qv x (sgq_neg (by rw [qd_F];grind)) (sgq_pos h)];decide
theorem qv2{x:Rat}(h:x < 0)(k:(q:Rat) < x*x):Vr (FF (qd q)) (fun x=>x) [fun _=>1] x=2:=by rw [qv x (sgq_pos (by rw [qd_F];grind)) (sgq_neg h)];decide
theorem qv3{x:Rat}(h:x < 0)(k:x*x < (q:Rat)):Vr (FF (qd q)) (fun x=>x) [fun _=>1] x=1:=by rw [qv x (sgq_neg (by rw [qd_F];grind)) (sgq_neg h)];decide
theorem qd_bd(q:Nat):bdQ (qd q)=1+(q:Rat):=by
 unfold bdQ;rw [qd_lg];have e1:mxA (qd q) (3-1)=q:=by
  show max (max 0 (qd q 0).natAbs) (qd q 1).natAbs=q
  rw [show (qd q 1).natAbs=0 from rfl,show (qd q 0).natAbs=(-(q:Int)).natAbs from rfl];omega
 rw [e1,show ((qd q (3-1)).natAbs:Rat)=1 from rfl];grind
theorem qd_two(hq:1≤q):cntC (qd q) (-(bdQ (qd q))) (bdQ (qd q))=2:=by
 have h1:=qnz hq;have h2:=Rat.mul_nonneg (show (0:Rat)≤q by grind) (show (0:Rat)≤q by grind);rw [qd_bd];refine cntC_eq (qd_z q) (by grind) (qd_ctd hq (by grind) ?_);rw [qv0 (x:=1+(q:Rat)) (by grind) (by grind),qv2 (x:= -(1+(q:Rat))) (by grind) (by grind)]
theorem qd_self(hq:1≤q):∃ M,SqP (qd q) M (qd q):=by
 obtain ⟨M,_,hM⟩:=ex_lb (qd_z q);exact ⟨M,sq_self (qd_z q) hM (qd_pm q) (qd_sqf hq)⟩
theorem qd_sqE(hq:1≤q):sqP (qd q)=qd q:=let ⟨_,h⟩:=qd_self hq;h.eq.symm
end
/-! ### The example -/
def c2:Nat→Int:=lst [-2,0,1]
theorem c2_pk:pkP c2 3=qd 2:=funext fun i=>by
 match i with
 | 0=>decide
 | 1=>decide
 | 2=>decide
 | i+3=>rw [pkP_z c2 3 (i+3) (by omega),qd_3 2 (i+3) (by omega)]
theorem wk_okI{a b:Rat}(h:Ctd (FF (qd 2)) a b 1)(hlt:a < b):OkI (FF (qd 2)) (FF (fder (qd 2))) a b:=⟨qd_sqf (by decide),hlt,h⟩
theorem wk_pk:cmpC (cutA (pkC c2 3 1) (pkL c2 3 1) (pkH c2 3 1)) (cutP 1)=1∧sgC (FF (qd 2)) (cutA (pkC c2 3 1) (pkL c2 3 1) (pkH c2 3 1))=0:=by
 have h2:2≤lg (pkP c2 3):=by rw [c2_pk,qd_lg];decide
 have hR:=pk_rt h2;have hs:sqP (pkP c2 3)=qd 2:=by rw [c2_pk];exact qd_sqE (by decide)
 rw [hs] at hR;have hlen:(pkR c2 3).length=2:=by rw [hR.len];exact qd_two (by decide)
 have two:((2:Nat):Rat)=2:=rfl;have k0:Ctd (FF (qd 2)) 1 2 1:=qd_ctd (by decide) (by decide) (by rw [qv1 (x:=1) (by decide) (by rw [two];grind),qv0 (x:=2) (by decide) (by rw [two];grind)]);have k1:Ctd (FF (qd 2)) (-2) (-1) 1:=qd_ctd (by decide) (by decide) (by rw [qv2 (x:= -2) (by decide) (by rw [two];grind),qv3 (x:= -1) (by decide) (by rw [two];grind)]);have o0:=okV_I (qd_z 2) (wk_okI k0 (by decide));have o1:=okV_I (qd_z 2) (wk_okI k1 (by decide));have C0:=o0.ok.cut;have C1:=o1.ok.cut;obtain ⟨x0,m0,e0⟩:=hR.all _ C0 o0.vc;obtain ⟨x1,m1,e1⟩:=hR.all _ C1 o1.vc;have a0:cutA (qd 2) 1 2 (-1):=o0.ok.below (by decide);have a1:¬ cutA (qd 2) (-2) (-1) (-1):=o1.ok.above (by grind);have hr:=hR.rise
 match hl:pkR c2 3,hlen with
 | [y0,y1],_=>
  rw [hl] at m0 m1 hr;have hr2:cmpC (cutA (qd 2) y0.1 y0.2) (cutA (qd 2) y1.1 y1.2)= -1:=by
   have:=(List.pairwise_cons.1 hr).1 y1 (by simp);exact this
  have hx:x0=y1:=by
   rcases List.mem_cons.1 m0 with h | h
   ·exfalso
    subst h;have hx1:x1=y1∨x1=x0:=by
     rcases List.mem_cons.1 m1 with k | k
     ·exact Or.inr k
     ·exact Or.inl (by simpa using k)
    rcases hx1 with k | k
    ·subst k
     rw [cmpC_congr e0 e1] at hr2;have:=cmpC_gt C0 C1 a0 a1;omega
    ·subst k
     exact a1 ((e1 _).1 ((e0 _).2 a0))
   ·simpa using h
  subst hx;have hp:pkA c2 3 1=(qd 2,x0.1,x0.2):=by
   unfold pkA;rw [if_pos ⟨h2,by rw [hl];show 2≠0;decide⟩,hs,hl];rfl
  have eC:pkC c2 3 1=qd 2:=by unfold pkC;rw [hp]
  have eL:pkL c2 3 1=x0.1:=by unfold pkL;rw [hp]
  have eH:pkH c2 3 1=x0.2:=by unfold pkH;rw [hp]
  rw [eC,eL,eH];refine ⟨?_,?_⟩
  ·have b0:cutA (qd 2) 1 2 1:=by rw [cutA_I (by decide)];exact Or.inl (by grind)
   rw [cmpC_congr e0 (fun _=>Iff.rfl)];exact cmpC_P1 C0 b0
  ·exact sgC_zero (o0.vc.cut e0)
theorem wk_of:AV.le (.d (.one (prow 2 (dg (lst [-2,0,1]) 3) (lst [-2,0,1])))) (.d (.one (prow 4 (lg (qd 2)) (qd 2)))):=le_prow (by decide) (by rw [qd_lg];decide) (fun _ _=>rfl)
theorem aWakes10:ACall Tryz.prog 22 [] (.d (.one (.v (.bool true)))):=by
 exact aN 18 [.tmp 0] Tryz.func22 rfl<|cR<|mW rfl<|mT<|cR<|mB hTT (.d (.one (.row 1 3 (fun i' j'=>(([.v (.int .i64 (-2)),.v (.int .i64 0),.v (.int .i64 1)])[i'*1+j']?).getD (.v undef))))) rfl<|mY (ACall.le (dl (dle (le_one (isi_lit (l:= [-2,0,1]) (n:=3) rfl (fun i hi=>match i,hi with | 0,_=>rfl | 1,_=>rfl | 2,_=>rfl)).1)) (dl DV.same dl0)) AV.le.rfl (aPick (cl:=c2) (n:=3) (k:=1) (by decide) (by decide) (by decide))) rfl<|mO rfl<|mZ rfl<|mT<|cSeq<|cDk 15<|.cons (OpS.B _ rfl)<|oC (ACall.le (dl DV.same dl0) wk_of (aPOf (isi_lit (l:= [-2,0,1]) (n:=3) rfl (fun i hi=>match i,hi with | 0,_=>rfl | 1,_=>rfl | 2,_=>rfl)) (fun i hi=>match i,hi with | 0,_=>by decide | 1,_=>by decide | 2,_=>by decide))) rfl<|oV rfl<|oC (aQToA ((pk_ok c2 3 1).v.ok.z)) rfl<|oC (aASign (X:=20000) (KC:=50000) (N:=5) (qd_z 2) (pk_ok c2 3 1).v (by decide) (pk_ok c2 3 1).l5 (by rw [qd_lg];decide) (by decide) (by decide) (by decide) (by decide) (by decide)) rfl<|oT rfl (by rw [wk_pk.2];rfl)<|.cons (OpS.V _ rfl)<|oV rfl<|oC (aQToA ((pk_ok c2 3 1).v.ok.z)) rfl<|oC aROfI rfl<|oC (aRToR (isq 64 ((1:Int):Rat))) rfl<|oC (aCmpRat (pk_ok c2 3 1).v.ok) rfl<|oT rfl (by show (cmpC _ (cutP 1)==1)=true;rw [wk_pk.1];rfl)<|.cons (OpS.V _ rfl)<|.cons (OpS.V _ rfl)<|.nil<|mT<|cRet<|rQ rfl (AV.le.rfl)
section
open Go.RowKit Go.ChangeShapes Go.WideShapes
section
variable {H:Type} {enc:TypeId×Value→H} {P:Program} {w:World}
theorem am_i64N{t e:TypeId}{fuel:Nat}{cs:List Value}{x:DataW H×List MemPlace}(ht:P.underlying t=some (.slice e))(he:P.underlying e=some (.int .i64))(hc:P.cellsOf e=1) 
  (h:DataW.trod enc P w 0 (fun _=>true) true fuel t cs=some x):∃ v n c,cs= [v]∧LfR nb w (irow n c) v∧n≤9223372036854775807∧∀ i,i < n→-9223372036854775808≤c i∧c i≤9223372036854775807:=by
 rcases open_ints ht he hc h with ⟨rfl,_⟩ | ⟨a,l,c,zs,rfl,_,hl,hm,hz,_,hcell,hwz⟩
 ·exact ⟨_,0,fun _=>0,rfl,⟨none,0,rfl,Nat.le_refl _,fun _=>rfl,fun i hi=>absurd hi (Nat.not_lt_zero _)⟩,Nat.zero_le _,fun i hi=>absurd hi (Nat.not_lt_zero _)⟩
 ·have hz':zs.length=c:=by simpa using hz
  have hmx:maxLen=9223372036854775807:=by decide
  refine ⟨_,l,fun i=>zs.getD i 0,rfl,⟨some a,c,rfl,hl,(fun e=>nomatch e),fun i hi=>?_⟩,by omega,fun i hi=>?_⟩
  ·have h0:=hcell 0 (by omega)
   obtain ⟨b,off,rfl⟩:=plain_of_cell h0;have h1:=hcell i (by omega);rw [add_plain] at h1;refine ⟨b,off,rfl,fun h=>h.elim,World.block_lt_of_cell? w _ h1,fun q hq=>?_⟩;obtain rfl:q=0:=by omega
   exact ⟨_,by rw [Nat.mul_one,Nat.add_zero];exact h1,rfl,rfl⟩
  ·have hi':i < zs.length:=by omega
   show _≤zs.getD i 0∧zs.getD i 0≤_
   rw [List.getD_eq_getElem?_getD,List.getElem?_eq_getElem hi'];exact wf_int (hwz _ (List.getElem_mem hi'))
theorem am_i64sN{r:Reach}{b0:Nat}{d:DataW H}{p:List MemPlace}{v:Value}{t e:TypeId}(ht:P.underlying t=some (.slice e))(he:P.underlying e=some (.int .i64))(hc:P.cellsOf e=1) 
  (hv:Value.okWide P w r b0 t v) (h:DataW.Trod enc P w 0 (fun _=>true) true t v d p):∃ n c,LfR nb w (irow n c) v∧n≤9223372036854775807∧∀ i,i < n→-9223372036854775808≤c i∧c i≤9223372036854775807:=by
 obtain ⟨a,len,cap,rfl⟩:=okWide_slice ht hv;obtain ⟨fuel,hf⟩:=h;rw [slice_cells] at hf;obtain ⟨v',n,c,e1,h2⟩:=am_i64N ht he hc hf;obtain rfl:=(List.cons.inj e1).1;exact ⟨n,c,h2⟩
end
theorem pk_G{c d:Nat→Int}(h1:lg c≤5)(h2:lg d≤5):(4+1)*(max (lg d+2-lg c) 1*3^lg c)≤8505:=by
 have h3:3^lg c≤3^5:=Nat.pow_le_pow_right (by decide) h1;have h4:max (lg d+2-lg c) 1*3^lg c≤7*3^5:=Nat.mul_le_mul (by omega) h3;exact Nat.mul_le_mul_left 5 h4
end
/-- Row of numbers as the plain reckoning has them. -/
def elq(K KC X:Nat)(As:List AT):Nat→Nat→Lf:=fun i j=>(([qrow K (lg (ac As i)) (rc (ac As i))] ++ [exL (ChQ (ac As i) KC) (fun L=>qlr KC L)] ++qn X (al As i) ++qn X (ah As i))[j]?).getD (.v undef)
/-- One number, as api has it and as it is wanted. -/
structure RgP(c:Nat→Int)(lo hi:Rat)(d:Nat→Int)(p q:Rat):Prop where
 a:OkV c lo hi
 pm:Pm (lg c) c
 b:Db 4 c
 l5:lg c≤5
 dv:DvB c 4
 w:PkP d p q
 e:∀ t,cutA c lo hi t↔cutA d p q t
theorem RgP.sq{c d:Nat→Int}{lo hi p q:Rat}(h:RgP c lo hi d p q):SqP c 4 c:=sq_self h.a.ok.z h.b.lb1 h.pm h.a.sq
theorem RgP.eq{c d:Nat→Int}{lo hi p q:Rat}(h:RgP c lo hi d p q):cmpC (cutA c (exF c lo hi).1 (exF c lo hi).2) (cutA d p q)=0:=by
 have h1:=(exF_nar h.a.ok).cut;exact cmpC_eq fun t=>(h1 t).trans (h.e t)
theorem RgP.v{c d:Nat→Int}{lo hi p q:Rat}(h:RgP c lo hi d p q):OkV c (exF c lo hi).1 (exF c lo hi).2:=h.a.nar (exF_nar h.a.ok)
theorem PkP.rg{c:Nat→Int}{lo hi a b:Rat}(h:PkP c lo hi)(n:Nar c lo hi a b):RgP c a b c lo hi:=⟨h.v.nar n,h.pm,h.b,h.l5,h.dv,h,n.cut⟩
theorem rg_J{c d:Nat→Int}{L J:Nat}(h1:lg c≤5)(h2:lg d≤5)(hJ:32*L+3000≤J):32*L+3+sepE (lg c) (lg d) (14*4) (14*4)≤J:=by
 have h:sepE (lg c) (lg d) (14*4) (14*4)≤2620:=by
  unfold sepE;have:=Nat.mul_le_mul (show 2*(lg c+lg d)≤20 by omega) (show 14*4+14*4+(lg c+lg d)+8≤130 by omega);omega
 omega
theorem elg_one{K L:Nat}{c:Nat→Int}{lo hi:Rat}:AV.le (.d (.one (.row 9 1 (fun i' j'=>((alc K c L lo L hi)[i'*9+j']?).getD (.v undef))))) (.d (.one (.row 9 1 (elg K L [(c,lo,hi)])))):=le_one (row_le fun i hi j hj B w v hv=>by
 obtain rfl:i=0:=by omega
 rw [Nat.zero_mul,Nat.zero_add] at hv;exact hv)
theorem rg_one{c d:Nat→Int}{lo hi p q:Rat}(h:RgP c lo hi d p q):∀ i,i < 1→RgP (ac [(c,lo,hi)] i) (al [(c,lo,hi)] i) (ah [(c,lo,hi)] i) (ac [(d,p,q)] i) (al [(d,p,q)] i) (ah [(d,p,q)] i):=fun i hi=>by
 obtain rfl:i=0:=by omega
 exact h
theorem aValid{K L X M KC N Ms:Nat}{c:Nat→Int}{lo hi:Rat}(o:OkV c lo hi)(hS:SqP c Ms c)(hb:Db M c)(hB:DvB c M)(hN:N≤10)(hcN:lg c≤N)(hM64:1≤M)(hK:K≤100000)(hKC:(M+2)*(2*3^N)≤KC)(hC:KC≤90000)(hX:max (3*L) 64≤X)(hX1:X≤90000):ACall Tryz.prog 97 [.agg ([.row 2 (lg c) (zel K c)] ++tn L lo ++tn L hi)] (.d (.one (.v (.bool true)))):=by
 have zc:=o.ok.z;have h2:=o.l2;have hlc:=lg_le c;have hMK:M+2≤KC:=Nat.le_trans (Nat.le_mul_of_pos_right _ (Nat.mul_pos (by decide) (Nat.pow_pos (by decide)))) hKC;refine aN 52 [.tmp 2] Tryz.func97 rfl<|cR<|mO rfl<|mW rfl<|mT<|cR<|mv2 rfl rfl<|mY (aQFrom (isp (K:=K) (c:=c) (z20.lg zc)) (M:=(max (3*K) 64))) rfl<|mView 9 (.d (.one (.row 4 (lg c) (qel M (rc c))))) rfl (AV.le.trans (le_dg_t (lg_dg2 zc.lg zc) (by omega) hb) AV.le.rfl)<|mW rfl<|mT<|cSeq<|cR<|mv2 rfl rfl<|mdF rfl (by omega)<|mv6 rfl rfl rfl rfl rfl rfl<|mbF rfl (by simp)<|mv3 rfl rfl rfl<|mY (aQFactors (M:=M) (KC:=KC) (N:=N) zc h2 hN hcN hM64 hM64 hB hM64 (by omega) hKC hC) rfl<|mEx (Qx:=FacP c) (L:=fun Ls=>qlr M Ls) 23 rfl (fun Ls hLs=>?_);refine mW rfl<|mbF rfl (by rw [hLs.one o.sq];rfl)<|mW rfl<|mT<|cFs rfl<|cSeq<|cDk 8<|oV rfl<|oV rfl<|oC (aRFromRN (M:=X)) rfl<|oV rfl<|oV rfl<|oC (aRFromRN (M:=X)) rfl<|.cons (OpS.N (.box 30 ([.v (.slice none 0 0),.v (.bool false),.v (.slice none 0 0),.v (.bool false)])) rfl 4 rfl rfl)<|.cons (OpS.N (.box 30 ([.v (.slice none 0 0),.v (.bool false),.v (.slice none 0 0),.v (.bool false)])) rfl 5 rfl rfl)<|.nil<|mZ rfl<|mZ rfl<|mT<|cSeq<|cR<|mv2 rfl rfl<|mY (aRCmpR (isq X lo) (isq X hi)) rfl<|mW rfl<|mT<|cBlock<|cSeq ?_;have hle:=o.ok.le
 by_cases he:lo=hi
 ·have hz0:sgq (FF c lo)=0:=by have h:=sgC_zero o.vc;rwa [cutA_P (show hi≤lo by grind),sgC_P (FF_po zc)] at h
  exact cReg<|mW rfl<|mdF rfl (by have:=cmpQ_le.2 hle;omega)<|mW rfl<|mT<|cF rfl<|cR<|mW rfl<|mbT rfl (beq_iff_eq.2 (cmpQ_zero.2 he))<|mW rfl<|mT<|cT rfl<|cR<|mv2 rfl rfl<|mY (aQSignN (zc) rfl) rfl<|mbT rfl (beq_iff_eq.2 hz0)<|mW rfl<|mT<|cRet<|bR<|tR<|rQ rfl (AV.le.rfl)
 ·have hlt:lo < hi:=by grind
  exact cReg<|mW rfl<|mdF rfl (by have:=cmpQ_le.2 hle;omega)<|mW rfl<|mT<|cF rfl<|cR<|mW rfl<|mbF rfl (beq_eq_false_iff_ne.2 (fun k=>he (cmpQ_zero.1 k)))<|mW rfl<|mT<|cF rfl<|cSkip<|bN<|tN<|cSeq<|cDk 7<|.cons (OpS.V _ rfl)<|oC (aQChainS (M:=M) (KC:=KC) (N:=N) zc h2 hN hcN hM64 hM64 hB hM64 (by omega) hKC hC hS) rfl<|oV rfl<|oV rfl<|oC (aQBtw (by grind)) rfl<|oT rfl (beq_iff_eq.2 (by rw [o.cnt1 hlt];rfl))<|.cons (OpS.V _ rfl)<|.nil<|mT<|cRet<|rQ rfl (AV.le.rfl)
theorem elq_z{As:List AT}{n:Nat}(h:∀ i,i < n→z20 (ac As i))(hn:As.length≤n)(i:Nat):z20 (ac As i):=by
 by_cases hi:i < n
 ·exact h i hi
 ·have e:ga As i=(fun _=>0,0,0):=by unfold ga;rw [List.getD_eq_getElem?_getD,List.getElem?_eq_none (by omega)];rfl
  unfold ac;rw [e];exact z20_nil
theorem aRight{K L X n J1 J Z:Nat}{As Bs:List AT}(hA:As.length≤n)(hB:Bs.length≤n)(hn:n≤1000)(hok:∀ i,i < n→RgP (ac As i) (al As i) (ah As i) (ac Bs i) (al Bs i) (ah Bs i))(hK:K≤100000:=by decide)(hX:max (3*L) 64≤X:=by decide)(hX1:X≤90000:=by decide)(hJ1:X≤2*J1:=by decide)(hJ:32*J1+3000≤J:=by decide)(hZ:3*(3*J1+J / 32+2)≤Z:=by decide)(hZ9:Z≤90000:=by decide):ACall Tryz.prog 34 [.one (.row 9 n (elg K L As)),.one (.row 10 n (elq 4 2916 X Bs))] (.d (.one (.v (.bool true)))):=by
 have hz:=elq_z (fun i hi=>(hok i hi).a.ok.z) hA;have hzB:=elq_z (fun i hi=>(hok i hi).w.v.ok.z) hB;refine aN 36 [.tmp 4] Tryz.func34 rfl<|cR<|mW rfl<|mT<|cSeq<|cR<|mv4 rfl rfl rfl rfl<|mbF rfl (by simp)<|mT<|cFs rfl<|cSeq<|cR<|mv3 rfl rfl rfl<|mT<|cBlock<|cLoop (ι:=Nat) (fun (i:Nat)=>⟨36,[(0,.d (.one (.row 9 n (elg K L As)))),(1,.d (.one (.row 10 n (elq 4 2916 X Bs)))),(12,.d (.one (.v (.int .i64 (n:Int))))),(13,.d (.one (.v (.int .i64 ((i:Nat):Int)))))],[]⟩) (fun (i:Nat)=>i≤n) (fun (i:Nat)=>n-i) 0 (Nat.zero_le _) (wk rfl ⟨hs rfl,hs rfl,hs rfl,hs' rfl (le_int rfl),trivial⟩ trivial rfl) ?_;rintro i hI;have hi:i≤n:=hI;show AW _ _ _ ⟨_,_,_⟩
 refine cR<|mW rfl<|mT<|cSeq<|cCond rfl (fun hc1=>?_) (fun hc1=>?_)
 ·refine cSkip<|tN<|cSeq<|cBlock<|cSeq ?_;have hin:i < n:=by have h0:=of_decide_eq_true hc1;omega
  have v:=hok i hin;refine cReg<|mv2 rfl rfl<|mT<|cSeq<|cDk 19<|.cons (OpS.V _ rfl)<|.cons (OpS.V _ rfl)<|.cons (OpS.V (.d (.one (.at 9 ((elg K L As) i)))) (ixR (el:=(elg K L As)) (z:=((i:Nat):Int)) (n:=n) rfl rfl rfl rfl rfl rfl (by omega) (by omega))) ?_;refine oV rfl<|oC (aValid (X:=X) (M:=4) (KC:=2916) (N:=5) (Ms:=4) v.a v.sq v.b v.dv (by decide) v.l5 (by decide) hK (by decide) (by decide) hX hX1) rfl<|oV rfl<|.cons (OpS.V _ rfl)<|.cons (OpS.V _ rfl)<|.cons (OpS.V _ rfl)<|.cons (OpS.V (.d (.one (.at 9 ((elg K L As) i)))) (ixR (el:=(elg K L As)) (z:=((i:Nat):Int)) (n:=n) rfl rfl rfl rfl rfl rfl (by omega) (by omega))) ?_;refine oV rfl<|oC (aQFromA (M:=4) (KC:=2916) (N:=5) (X:=X) (Ms:=4) v.a.ok.z v.sq v.a.l2 (by decide) v.l5 (by decide) v.b v.dv hK (by decide) (by decide) hX hX1) rfl<|.cons (OpS.V _ rfl)<|.cons (OpS.V _ rfl)<|.cons (OpS.V (.d (.one (.at 10 ((elq 4 2916 X Bs) i)))) (ixR (el:=(elq 4 2916 X Bs)) (z:=((i:Nat):Int)) (n:=n) rfl rfl rfl rfl rfl rfl (by omega) (by omega))) ?_;exact oV rfl<|oC (aQCmp (N:=5) (G:=8505) (M:=4) (KD:=2916) (J:=J) (Z:=Z) v.v v.w.v (exF_ex _ _ _) v.w.x (Nat.le_trans v.w.l5 (by decide)) (Nat.le_trans v.l5 (by decide)) (by decide) v.l5 (by decide) (pk_G v.l5 v.w.l5) (by decide) (by decide) v.dv (by decide) (by decide) (by decide) hX1 hJ1 (rg_J v.l5 v.w.l5 hJ) hZ hZ9) rfl<|oF rfl (by rw [v.eq];rfl)<|.cons (OpS.V _ rfl)<|.nil<|mT<|cF rfl<|cSkip<|bN<|tN<|cReg<|mv2 rfl rfl<|mNil<|⟨(i+1),by omega,by omega,wk rfl ⟨hs rfl,hs rfl,hs rfl,hs' rfl (le_int (inc64 (by omega))),trivial⟩ trivial rfl⟩
 ·exact cExit<|tE<|tE<|bE<|tN<|cR<|mW rfl<|mT<|cRet<|rQ rfl (AV.le.rfl)
def atC(x:AT):Cut:=cutA x.1 x.2.1 x.2.2
/-- Where a number is put, among the first k. -/
noncomputable def insK(L:List AT)(x:AT):Nat→Nat
 | 0=>0
 | k+1=>if cmpC (atC x) (acu L k) < 0 then insK L x k else k+1
theorem insK_le(L:List AT)(x:AT):∀ k,insK L x k≤k
 | 0=>Nat.le_refl _
 | k+1=>by unfold insK;split;exact Nat.le_succ_of_le (insK_le L x k);exact Nat.le_refl _
theorem insK_t{L:List AT}{x:AT}{k:Nat}(hk:k≠0)(h:cmpC (atC x) (acu L (k-1)) < 0):insK L x (k-1)=insK L x k:=by
 obtain ⟨j,rfl⟩:∃ j,k=j+1:=⟨k-1,by omega⟩
 exact (if_pos h).symm
theorem insK_f{L:List AT}{x:AT}{k:Nat}(h:k=0∨¬ cmpC (atC x) (acu L (k-1)) < 0):insK L x k=k:=by
 cases k with
 | zero=>rfl
 | succ j=>rcases h with h | h;omega;exact if_neg h
theorem insK_lt{L:List AT}{x:AT}:∀ k,insK L x k < k→cmpC (atC x) (acu L (insK L x k)) < 0
 | 0,h=>absurd h (Nat.not_lt_zero _)
 | k+1,h=>by
  by_cases hc:cmpC (atC x) (acu L k) < 0
  ·have e:insK L x (k+1)=insK L x k:=if_pos hc
   rw [e] at h ⊢
   by_cases hk:insK L x k < k
   ·exact insK_lt k hk
   ·have:=insK_le L x k
    rw [show insK L x k=k by omega];exact hc
  ·have e:insK L x (k+1)=k+1:=if_neg hc
   omega
theorem insK_ge{L:List AT}{x:AT}{j:Nat}:∀ k,insK L x k=j+1→¬ cmpC (atC x) (acu L j) < 0
 | 0,h=>by cases h
 | k+1,h=>by
  by_cases hc:cmpC (atC x) (acu L k) < 0
  ·have e:insK L x (k+1)=insK L x k:=if_pos hc
   exact insK_ge k (e▸h)
  ·have e:insK L x (k+1)=k+1:=if_neg hc
   obtain rfl:k=j:=by omega
   exact hc
noncomputable def ins(L:List AT)(x:AT):List AT:=L.take (insK L x L.length) ++x ::L.drop (insK L x L.length)
noncomputable def srt(As:List AT):Nat→List AT
 | 0=> []
 | i+1=>ins (srt As i) (ga As i)
theorem ins_len(L:List AT)(x:AT):(ins L x).length=L.length+1:=by
 have:=insK_le L x L.length;unfold ins;simp;omega
theorem srt_len(As:List AT):∀ i,(srt As i).length=i
 | 0=>rfl
 | i+1=>by show (ins _ _).length=_;rw [ins_len,srt_len As i]
theorem ga_ins(L:List AT)(x:AT)(j:Nat):ga (ins L x) j=if j < insK L x L.length then ga L j else if j=insK L x L.length then x else ga L (j-1):=by
 have hp:=insK_le L x L.length;unfold ga ins;rw [List.getD_eq_getElem?_getD]
 by_cases h1:j < insK L x L.length
 ·rw [if_pos h1,List.getElem?_append_left (by simp;omega),List.getElem?_take,if_pos h1,← List.getD_eq_getElem?_getD]
 ·rw [if_neg h1,List.getElem?_append_right (by simp;omega)]
  have e:(L.take (insK L x L.length)).length=insK L x L.length:=by simp;omega
  rw [e]
  by_cases h2:j=insK L x L.length
  ·rw [if_pos h2,h2,Nat.sub_self];rfl
  ·rw [if_neg h2]
   obtain ⟨d,hd⟩:∃ d,j=insK L x L.length+d+1:=⟨j-insK L x L.length-1,by omega⟩
   rw [show j-insK L x L.length=d+1 by omega,List.getElem?_cons_succ,List.getElem?_drop,← List.getD_eq_getElem?_getD,show insK L x L.length+d=j-1 by omega]
theorem ins_all{p:AT→Prop}{L:List AT}{x:AT}(h:∀ j,j < L.length→p (ga L j))(hx:p x):∀ j,j < (ins L x).length→p (ga (ins L x) j):=fun j hj=>by
 have hp:=insK_le L x L.length;rw [ins_len] at hj;rw [ga_ins];split
 ·exact h j (by omega)
 ·split
  ·exact hx
  ·exact h (j-1) (by omega)
theorem srt_all{p:AT→Prop}{As:List AT}:∀ i,(∀ j,j < i→p (ga As j))→∀ j,j < i→p (ga (srt As i) j)
 | 0,_,j,h=>absurd h (Nat.not_lt_zero _)
 | i+1,h,j,hj=>ins_all (L:=srt As i) (x:=ga As i) (fun q hq=>srt_all i (fun j hj=>h j (by omega)) q (by rw [srt_len] at hq;exact hq)) (h i (by omega)) j (by rw [ins_len,srt_len];exact hj)
theorem ins_up{L:List AT}{x:AT}(h:∀ j,j+1 < L.length→cmpC (acu L j) (acu L (j+1))≤0)(hc:∀ j,j < L.length→IsCut (acu L j))(hx:IsCut (atC x)):∀ j,j+1 < (ins L x).length→cmpC (acu (ins L x) j) (acu (ins L x) (j+1))≤0:=fun j hj=>by
 have hp:=insK_le L x L.length;rw [ins_len] at hj;have e:∀ j,acu (ins L x) j=if j < insK L x L.length then acu L j else if j=insK L x L.length then atC x else acu L (j-1):=fun j=>by
  unfold acu ac al ah atC;rw [ga_ins];split
  ·rfl
  ·split <;> rfl
 rw [e,e];obtain ⟨p,hpe⟩:∃ p,p=insK L x L.length:=⟨_,rfl⟩
 rw [← hpe] at hp ⊢
 by_cases h1:j+1 < p
 ·rw [if_pos (by omega),if_pos h1];exact h j (by omega)
 by_cases h2:j+1=p
 ·rw [if_pos (by omega),if_neg h1,if_pos h2]
  have h3:=insK_ge (L:=L) (x:=x) (j:=j) L.length (by omega);have h4:=cmpC_neg hx (hc j (by omega));omega
 by_cases h3:j=p
 ·rw [if_neg (by omega),if_pos h3,if_neg h1,if_neg h2]
  have h4:=insK_lt (L:=L) (x:=x) L.length (by omega);rw [← hpe,← h3] at h4;exact Int.le_of_lt h4
 ·rw [if_neg (by omega),if_neg h3,if_neg h1,if_neg h2]
  have:=h (j-1) (by omega);rwa [show j-1+1=j+1-1 by omega] at this
theorem srt_up{As:List AT}:∀ i,(∀ j,j < i→IsCut (acu As j))→∀ j,j+1 < i→cmpC (acu (srt As i) j) (acu (srt As i) (j+1))≤0
 | 0,_,j,h=>absurd h (Nat.not_lt_zero _)
 | i+1,h,j,hj=>ins_up (L:=srt As i) (x:=ga As i) (fun q hq=>srt_up i (fun j hj=>h j (by omega)) q (by rw [srt_len] at hq;exact hq)) (fun q hq=>srt_all (p:=fun x=>IsCut (atC x)) i (fun j hj=>h j (by omega)) q (by rw [srt_len] at hq;exact hq)) (h i (by omega)) j (by rw [ins_len,srt_len];exact hj)
theorem srt_okv{As:List AT}{n:Nat}(h:∀ i,i < n→OkV (ac As i) (al As i) (ah As i)){i:Nat}(hi:i≤n):∀ j,j < i→OkV (ac (srt As i) j) (al (srt As i) j) (ah (srt As i) j):=srt_all (p:=fun x=>OkV x.1 x.2.1 x.2.2) i (fun j hj=>h j (by omega))
theorem srt_lg{As:List AT}{n N:Nat}(h:∀ i,i < n→lg (ac As i)≤N){i:Nat}(hi:i≤n):∀ j,j < i→lg (ac (srt As i) j)≤N:=srt_all (p:=fun x=>lg x.1≤N) i (fun j hj=>h j (by omega))
theorem leo_ins{e:TypeId}{K L i p:Nat}{Ls:List AT}{x:AT}{el2:Nat→Nat→Lf}{cs:List Lf}(hl:Ls.length=i)(hp:insK Ls x i=p)(hcs:cs=alc K x.1 L x.2.1 L x.2.2):AO.le (.row e 9 (i+1) (fun p' q'=>if p'=p then (cs[q']?).getD (.v undef) else shE p (appEl i (elg K L Ls) el2) p' q')) (.row e 9 (i+1) (elg K L (ins Ls x))):=by
 subst hcs;subst hl;have hpl:=insK_le Ls x Ls.length;rw [hp] at hpl;refine leo_row fun q hq j hj B w v hv=>?_
 have e:ga (ins Ls x) q=_:=ga_ins Ls x q;rw [hp] at e;unfold elg ac al ah;rw [e]
 by_cases h1:q < p
 ·rw [if_pos h1]
  rw [if_neg (by omega)] at hv;unfold shE appEl at hv;rw [if_pos (by omega),show Nat.ble (q+1) Ls.length=true from Nat.ble_eq_true_of_le (by omega)] at hv;exact hv
 ·rw [if_neg h1]
  by_cases h2:q=p
  ·rw [if_pos h2]
   rw [if_pos h2] at hv;exact hv
  ·rw [if_neg h2]
   rw [if_neg h2] at hv;unfold shE appEl at hv;rw [if_neg (by omega),show Nat.ble (q-1+1) Ls.length=true from Nat.ble_eq_true_of_le (by omega)] at hv;exact hv
section
open Go.RowKit Go.ChangeShapes Go.WideShapes
abbrev irows(n:Nat)(ns:Nat→Nat)(cs:Nat→Nat→Int):Lf:= .row 1 n (fun i _=>irow (ns i) (cs i))
section
variable {H:Type} {enc:TypeId×Value→H} {P:Program} {w:World}
theorem am_i64r{t s e:TypeId}{fuel:Nat}{cs:List Value}{x:DataW H×List MemPlace}(hts:P.underlying t=some (.slice s))(hcs1:P.cellsOf s=1)(ht:P.underlying s=some (.slice e))(he:P.underlying e=some (.int .i64))(hc:P.cellsOf e=1) 
  (h:DataW.trod enc P w 0 (fun _=>true) true fuel t cs=some x):∃ v n ns fs,cs= [v]∧LfR nb w (irows n ns fs) v∧∀ j,ns j≤9223372036854775807∧∀ i,i < ns j→-9223372036854775808≤fs j i∧fs j i≤9223372036854775807:=by
 rcases Go.Deep.open_slice1 hts hcs1 h with ⟨rfl,_⟩ | ⟨a,len,cap,m,n,V,D,Pl,rfl,_,hl,hm,hmm,_,hx⟩
 ·exact ⟨_,0,fun _=>0,fun _ _=>0,rfl,⟨none,0,rfl,Nat.le_refl _,fun _=>rfl,fun i hi=>absurd hi (Nat.not_lt_zero _)⟩,fun j=>⟨Nat.zero_le _,fun i hi=>absurd hi (Nat.not_lt_zero _)⟩⟩
 ·have hm2:m=cap:=by simpa using hmm
  have key:∀ j,j < len→∃ F:Nat×(Nat→Int),(∃ b off v1,a=⟨b,off,none⟩∧w.cell? ⟨b,off+j,none⟩=some v1∧LfR nb w (irow F.1 F.2) v1)∧F.1≤9223372036854775807∧∀ i,i < F.1→-9223372036854775808≤F.2 i∧F.2 i≤9223372036854775807:=by
   intro j hj;obtain ⟨b,off,rfl⟩:=plain_of_cell (hx 0 (by omega)).1;obtain ⟨h1',h2⟩:=hx j (by omega);obtain ⟨v,n',f,e1,hr,hb⟩:=am_i64N ht he hc h2;rw [add_plain] at h1';obtain e2:=(List.cons.inj e1).1;exact ⟨(n',f),⟨b,off,v,rfl,by rw [h1',e2],hr⟩,hb⟩
  refine ⟨_,len,fun j=>if h:j < len then (key j h).choose.1 else 0,fun j=>if h:j < len then (key j h).choose.2 else fun _=>0,rfl,⟨some a,cap,rfl,hl,(fun e=>nomatch e),fun j hj=>?_⟩,fun j=>?_⟩
  ·obtain ⟨⟨b,off,v1,rfl,h2,h4⟩,_⟩:=(key j hj).choose_spec
   refine ⟨b,off,rfl,fun h=>h.elim,World.block_lt_of_cell? w _ h2,fun q hq=>?_⟩;obtain rfl:q=0:=by omega
   refine ⟨_,by rw [Nat.mul_one,Nat.add_zero];exact h2,?_⟩;show LfR nb w (irow (if h:j < len then (key j h).choose.1 else 0) (if h:j < len then (key j h).choose.2 else fun _=>0)) _
   rw [dif_pos hj,dif_pos hj];exact h4
  ·by_cases hj:j < len
   ·simp only [dif_pos hj];exact (key j hj).choose_spec.2
   ·simp only [dif_neg hj];exact ⟨Nat.zero_le _,fun i hi=>absurd hi (Nat.not_lt_zero _)⟩
theorem am_i64rT{r:Reach}{b0:Nat}{d:DataW H}{p:List MemPlace}{v:Value}{t s e:TypeId}(hts:P.underlying t=some (.slice s))(hcs1:P.cellsOf s=1)(ht:P.underlying s=some (.slice e))(he:P.underlying e=some (.int .i64))(hc:P.cellsOf e=1) 
  (hv:Value.okWide P w r b0 t v) (h:DataW.Trod enc P w 0 (fun _=>true) true t v d p):∃ n ns fs,LfR nb w (irows n ns fs) v∧∀ j,ns j≤9223372036854775807∧∀ i,i < ns j→-9223372036854775808≤fs j i∧fs j i≤9223372036854775807:=by
 obtain ⟨a,len,cap,rfl⟩:=okWide_slice hts hv;obtain ⟨fuel,hf⟩:=h;rw [slice_cells] at hf;obtain ⟨v',n,ns,fs,e1,h2⟩:=am_i64r hts hcs1 ht he hc hf;obtain rfl:=(List.cons.inj e1).1;exact ⟨n,ns,fs,h2⟩
end
def kfF(n:Nat)(c:Nat→Int)(i:Nat):Int:=if i < n then c i else 0
noncomputable def pkx(ns:Nat→Nat)(cs:Nat→Nat→Int)(n:Nat)(c:Nat→Int)(i:Nat):AT:=(pkC (cs i) (ns i) (kfF n c i),pkL (cs i) (ns i) (kfF n c i),pkH (cs i) (ns i) (kfF n c i))
noncomputable def xsL(ns:Nat→Nat)(cs:Nat→Nat→Int)(n:Nat)(c:Nat→Int):Nat→List AT
 | 0=> []
 | i+1=>xsL ns cs n c i ++ [pkx ns cs n c i]
section
variable {ns:Nat→Nat} {cs:Nat→Nat→Int} {n:Nat} {c:Nat→Int}
theorem xsL_len:∀ i,(xsL ns cs n c i).length=i
 | 0=>rfl
 | i+1=>by show (_ ++ [_]).length=_;rw [List.length_append,xsL_len i];rfl
theorem ga_app{L:List AT}{x:AT}{j:Nat}:ga (L ++ [x]) j=if j < L.length then ga L j else if j=L.length then x else ga [] 0:=by
 unfold ga;rw [List.getD_eq_getElem?_getD]
 by_cases h1:j < L.length
 ·rw [if_pos h1,List.getElem?_append_left h1,← List.getD_eq_getElem?_getD]
 ·rw [if_neg h1,List.getElem?_append_right (by omega)]
  by_cases h2:j=L.length
  ·rw [if_pos h2,h2,Nat.sub_self];rfl
  ·rw [if_neg h2,List.getElem?_eq_none (by show 1≤_;omega)];rfl
theorem xsL_last(i:Nat):ga (xsL ns cs n c (i+1)) i=pkx ns cs n c i:=by
 show ga (_ ++ [_]) i=_
 rw [ga_app,if_neg (by rw [xsL_len];omega),if_pos (xsL_len i).symm]
theorem xsL_pk:∀ i j,j < i→PkP (ac (xsL ns cs n c i) j) (al (xsL ns cs n c i) j) (ah (xsL ns cs n c i) j)
 | 0,j,h=>absurd h (Nat.not_lt_zero _)
 | i+1,j,h=>by
  have e:ga (xsL ns cs n c (i+1)) j=if j < i then ga (xsL ns cs n c i) j else if j=i then pkx ns cs n c i else ga [] 0:=by
   show ga (_ ++ [_]) j=_
   rw [ga_app,xsL_len]
  unfold ac al ah;rw [e]
  by_cases h1:j < i
  ·rw [if_pos h1];exact xsL_pk i j h1
  ·rw [if_neg h1,if_pos (by omega)];exact pk_ok _ _ _
end
theorem leo_gapp{e:TypeId}{K L i:Nat}{Ls:List AT}{x:AT}{el2:Nat→Nat→Lf}(hl:Ls.length=i)(h2:∀ j,j < 9→el2 0 j=((alc K x.1 L x.2.1 L x.2.2)[j]?).getD (.v undef)):AO.le (.row e 9 (i+1) (appEl i (elg K L Ls) el2)) (.row e 9 (i+1) (elg K L (Ls ++ [x]))):=by
 subst hl;refine leo_row fun q hq j hj B w v hv=>?_
 unfold elg ac al ah;rw [ga_app];unfold appEl at hv
 by_cases h1:q < Ls.length
 ·rw [if_pos h1]
  rw [show Nat.ble (q+1) Ls.length=true from Nat.ble_eq_true_of_le h1] at hv;exact hv
 ·obtain rfl:q=Ls.length:=by omega
  rw [if_neg h1,if_pos rfl];rw [show Nat.ble (Ls.length+1) Ls.length=false by rw [← Bool.not_eq_true];exact fun h=>by have:=Nat.le_of_ble_eq_true h;omega,cond_false,Nat.sub_self,h2 j hj] at hv;exact hv
theorem leo_qap{e:TypeId}{K KC X i:Nat}{Ls:List AT}{x:AT}{el2:Nat→Nat→Lf}(hl:Ls.length=i)(h2:∀ j,j < 10→el2 0 j=(([qrow K (lg x.1) (rc x.1)] ++ [exL (ChQ x.1 KC) (fun L=>qlr KC L)] ++qn X x.2.1 ++qn X x.2.2)[j]?).getD (.v undef)):AO.le (.row e 10 (i+1) (appEl i (elq K KC X Ls) el2)) (.row e 10 (i+1) (elq K KC X (Ls ++ [x]))):=by
 subst hl;refine leo_row fun q hq j hj B w v hv=>?_
 unfold elq ac al ah;rw [ga_app];unfold appEl at hv
 by_cases h1:q < Ls.length
 ·rw [if_pos h1]
  rw [show Nat.ble (q+1) Ls.length=true from Nat.ble_eq_true_of_le h1] at hv;exact hv
 ·obtain rfl:q=Ls.length:=by omega
  rw [if_neg h1,if_pos rfl];rw [show Nat.ble (Ls.length+1) Ls.length=false by rw [← Bool.not_eq_true];exact fun h=>by have:=Nat.le_of_ble_eq_true h;omega,cond_false,Nat.sub_self,h2 j hj] at hv;exact hv
theorem leo_insq{e:TypeId}{K KC X i p n':Nat}{Ls:List AT}{x:AT}{el1:Nat→Nat→Lf}(hl:Ls.length=i)(hp:insK Ls x i=p)(hn:p+(1+(i-p))=n')(hn':n'=i+1)(h2:∀ j,j < 10→el1 0 j=(([qrow K (lg x.1) (rc x.1)] ++ [exL (ChQ x.1 KC) (fun L=>qlr KC L)] ++qn X x.2.1 ++qn X x.2.2)[j]?).getD (.v undef)):AO.le (.row e 10 (p+(1+(i-p))) (appEl p (elq K KC X Ls) (appEl 1 el1 (fun i' j'=>elq K KC X Ls (p+i') j')))) (.row e 10 (i+1) (elq K KC X (ins Ls x))):=by
 rw [hn,hn'];subst hl;have hpl:=insK_le Ls x Ls.length;rw [hp] at hpl;refine leo_row fun q hq j hj B w v hv=>?_
 have e:ga (ins Ls x) q=_:=ga_ins Ls x q;rw [hp] at e;unfold elq ac al ah;rw [e];unfold appEl at hv
 by_cases h1:q < p
 ·rw [if_pos h1]
  rw [show Nat.ble (q+1) p=true from Nat.ble_eq_true_of_le h1] at hv;exact hv
 ·rw [if_neg h1]
  rw [show Nat.ble (q+1) p=false by rw [← Bool.not_eq_true];exact fun h=>h1 (Nat.le_of_ble_eq_true h),cond_false] at hv
  by_cases h3:q=p
  ·rw [if_pos h3]
   rw [h3,Nat.sub_self,show Nat.ble (0+1) 1=true from rfl,cond_true,h2 j hj] at hv;exact hv
  ·rw [if_neg h3]
   rw [show Nat.ble (q-p+1) 1=false by rw [← Bool.not_eq_true];exact fun h=>by have:=Nat.le_of_ble_eq_true h;omega,cond_false] at hv;have hv':LfR B w (elq K KC X Ls (p+(q-p-1)) j) v:=hv;rw [show p+(q-p-1)=q-1 by omega] at hv';exact hv'
theorem cmpC_tz{A B D:Cut}(hA:IsCut A)(hB:IsCut B)(hD:IsCut D)(h:cmpC A B≤0)(k:cmpC B D≤0):cmpC A D≤0:=(cmpC_le hA hD).2 fun q hq=>(cmpC_le hB hD).1 k q ((cmpC_le hA hB).1 h q hq)
theorem lsI_min{As:List AT}{n:Nat}(hc:∀ i,i≤n→IsCut (acu As i)):∀ m,m≤n→∀ j,j≤m→cmpC (acu As (lsI As m)) (acu As j)≤0
 | 0,_,j,hj=>by
  obtain rfl:j=0:=by omega
  show cmpC (acu As 0) (acu As 0)≤0
  rw [cmpC_eq fun q=>Iff.rfl];decide
 | m+1,hm,j,hj=>by
  have hl:=lsI_le As m;have ih:=lsI_min hc m (by omega);unfold lsI
  by_cases h:cmpC (acu As (m+1)) (acu As (lsI As m)) < 0
  ·rw [if_pos h]
   by_cases e:j=m+1
   ·rw [e,cmpC_eq fun q=>Iff.rfl];decide
   ·exact cmpC_tz (hc _ hm) (hc _ (by omega)) (hc _ (by omega)) (by omega) (ih j (by omega))
  ·rw [if_neg h]
   by_cases e:j=m+1
   ·rw [e]
    have:=cmpC_neg (hc (m+1) hm) (hc (lsI As m) (by omega));omega
   ·exact ih j (by omega)
theorem up_first{S:List AT}{n:Nat}(hc:∀ i,i < n→IsCut (acu S i))(hu:∀ j,j+1 < n→cmpC (acu S j) (acu S (j+1))≤0):∀ j,j < n→cmpC (acu S 0) (acu S j)≤0
 | 0,h=>by rw [cmpC_eq fun q=>Iff.rfl];decide
 | j+1,h=>cmpC_tz (hc 0 (by omega)) (hc j (by omega)) (hc (j+1) h) (up_first hc hu j (by omega)) (hu j h)
theorem ins_mem{L:List AT}{x:AT}:(∃ q,q < (ins L x).length∧ga (ins L x) q=x)∧∀ j,j < L.length→∃ q,q < (ins L x).length∧ga (ins L x) q=ga L j:=by
 have hp:=insK_le L x L.length;rw [ins_len];refine ⟨⟨insK L x L.length,by omega,by rw [ga_ins,if_neg (by omega),if_pos rfl]⟩,fun j hj=>?_⟩
 by_cases h:j < insK L x L.length
 ·exact ⟨j,by omega,by rw [ga_ins,if_pos h]⟩
 ·exact ⟨j+1,by omega,by rw [ga_ins,if_neg (by omega),if_neg (by omega)];rfl⟩
theorem srt_mem{As:List AT}:∀ i j,j < i→∃ q,q < i∧ga (srt As i) q=ga As j
 | 0,j,h=>absurd h (Nat.not_lt_zero _)
 | i+1,j,h=>by
  obtain ⟨⟨q,h1,h2⟩,h3⟩:=ins_mem (L:=srt As i) (x:=ga As i);rw [ins_len,srt_len] at h1
  by_cases hj:j < i
  ·obtain ⟨p,h4,h5⟩:=srt_mem i j hj
   obtain ⟨r,h6,h7⟩:=h3 p (by rw [srt_len];exact h4);rw [ins_len,srt_len] at h6;exact ⟨r,h6,h7.trans h5⟩
  ·obtain rfl:j=i:=by omega
   exact ⟨q,h1,h2⟩
theorem least_first{As:List AT}{n:Nat}(hn:0 < n)(hc:∀ i,i < n→IsCut (acu As i))(t:Rat):acu As (lsI As (n-1)) t↔acu (srt As n) 0 t:=by
 have hcs:∀ i,i < n→IsCut (acu (srt As n) i):=srt_all (p:=fun x=>IsCut (atC x)) n hc
 have hl:lsI As (n-1) < n:=by have:=lsI_le As (n-1);omega
 obtain ⟨q,h1,h2⟩:=srt_mem (As:=As) n (lsI As (n-1)) hl;have h3:=up_first hcs (srt_up n hc) q h1;have e3:acu (srt As n) q=acu As (lsI As (n-1)):=by show atC (ga _ _)=atC (ga _ _);rw [h2]
 rw [e3] at h3;obtain ⟨j,h4,h5⟩:∃ j,j < n∧ga (srt As n) 0=ga As j:=srt_all (p:=fun x=>∃ j,j < n∧x=ga As j) n (fun j hj=>⟨j,hj,rfl⟩) 0 hn
 have h6:=lsI_min (n:=n-1) (fun i hi=>hc i (by omega)) (n-1) (Nat.le_refl _) j (by omega);have e6:acu As j=acu (srt As n) 0:=by show atC (ga _ _)=atC (ga _ _);rw [h5]
 rw [e6] at h6;have h7:=cmpC_neg (hc _ hl) (hcs 0 hn);exact cmpC_zero (by omega) t
end
section
variable {s:AS}
theorem f_qa{K KC X Y:Nat}{c:Nat→Int}{lo hi:Rat}(t:Nat)(h:lk s.sl t=some (.d (.agg ([qrow K (lg c) (rc c)] ++ [exL (ChQ c KC) (fun L=>qlr KC L)] ++qn X lo ++qn Y hi))))(z:z20 c):∀ B0 w0 a w,Den s B0 w0 a w→Db K c∧Qb X lo∧Qb Y hi:=by
 rintro B0 w0 a w ⟨ρ,hc,hn,hdf,hs⟩;obtain ⟨v,_,cs,_,hl⟩:=hs t _ h;exact qa_bd z hl
end
theorem q6{q:Rat}(h:Qb 1200 q):Tb 600 q:=Qb.tb (K:=600) h (by decide)
theorem qa_X{K KC X Y:Nat}{c:Nat→Int}{lo hi:Rat}(h1:Qb Y lo)(h2:Qb Y hi):AV.le (.d (.agg ([qrow K (lg c) (rc c)] ++ [exL (ChQ c KC) (fun L=>qlr KC L)] ++qn X lo ++qn X hi))) (.d (.agg ([qrow K (lg c) (rc c)] ++ [exL (ChQ c KC) (fun L=>qlr KC L)] ++qn Y lo ++qn Y hi))):=le_agg (ls_cat (ls_cat (fun _ _ _ h=>h) (qn_tight h1)) (qn_tight h2))
abbrev qaA(K KC X:Nat)(c:Nat→Int)(lo hi:Rat):AV:= .d (.agg ([qrow K (lg c) (rc c)] ++ [exL (ChQ c KC) (fun L=>qlr KC L)] ++qn X lo ++qn X hi))
theorem aSort{K L X KC N n:Nat}{As:List AT}(hn:n=As.length)(hn1:n≤1000)(hok:∀ i,i < n→OkV (ac As i) (al As i) (ah As i))(hcN:∀ i,i < n→lg (ac As i)≤N)(hN:N≤10:=by decide)(hKC:(21*K+3+1)*(2*3^N)≤KC:=by decide)(hC:KC≤90000000:=by decide)(hX:11*L+320*K+300≤X:=by decide)(hX1:X≤100000:=by decide):ACall Tryz.prog 49 [.one (.row 9 n (elg K L As))] (.d (.one (.row 9 n (elg K L (srt As n))))):=by
 have hz:=elg_z hok (by omega);refine aN 48 [.tmp 2] Tryz.func49 rfl<|cR<|mW rfl<|mT<|cR<|mW rfl<|mT<|cSeq<|cSeq<|AW.wk (wkNil 3 3 46 9 (fun _ _=> .v undef) rfl rfl)<|cReg<|mv3 rfl rfl rfl<|mT<|cBlock<|cLoop (ι:=Nat) (fun (i:Nat)=>⟨48,[(3,.own 3),(7,.d (.one (.row 9 n (elg K L As)))),(8,.d (.one (.v (.int .i64 (n:Int))))),(9,.d (.one (.v (.int .i64 ((i:Nat):Int)))))],[(3,.row 46 9 i (elg K L (srt As i)))]⟩) (fun (i:Nat)=>i≤n) (fun (i:Nat)=>n-i) 0 (Nat.zero_le _) (wk rfl ⟨hs rfl,hs rfl,hs rfl,hs' rfl (le_int rfl),trivial⟩ ⟨ho' rfl (leo_row0),trivial⟩ rfl) ?_;rintro i hI;have hi:i≤n:=hI;show AW _ _ _ ⟨_,_,_⟩
 refine cR<|mW rfl<|mT<|cSeq<|cCond rfl (fun hc1=>?_) (fun hc1=>?_)
 ·refine cSkip<|tN<|cSeq<|cBlock<|cSeq ?_;have hin:i < n:=by have h0:=of_decide_eq_true hc1;omega
  have hoi:=hok i hin;have hos:=srt_okv hok hi;have hls:=srt_lg hcN hi;have hsl:=srt_len As i;have hzs:=elg_z (As:=srt As i) (n:=i) hos (by omega);refine cReg<|mV hTT (.d (.one (.at 9 ((elg K L As) i)))) (ixR (el:=(elg K L As)) (z:=((i:Nat):Int)) (n:=n) rfl rfl rfl rfl rfl rfl (by omega) (by omega)) ?_;refine mW rfl<|mO rfl<|mZ rfl<|mT<|cR<|mv3 rfl rfl rfl<|mT<|cSeq<|cBlock<|cLoop (ι:=Nat) (fun (k:Nat)=>⟨48,[(3,.own 3),(5,.ptr 5 0),(7,.d (.one (.row 9 n (elg K L As)))),(8,.d (.one (.v (.int .i64 (n:Int))))),(9,.d (.one (.v (.int .i64 ((i:Nat):Int))))),(6,.d (.one (.v (.int .i64 ((k:Nat):Int)))))],[(3,.row 46 9 i (elg K L (srt As i))),(5,.box 46 ([.row 2 (lg (ac As i)) (zel K (ac As i))] ++tn L (al As i) ++tn L (ah As i)))]⟩) (fun (k:Nat)=>k≤i∧insK (srt As i) (ga As i) k=insK (srt As i) (ga As i) i) (fun (k:Nat)=>k) i (⟨Nat.le_refl _,rfl⟩) (wkr rfl rfl) ?_;rintro k hI;obtain ⟨hki,hK⟩:k≤i∧insK (srt As i) (ga As i) k=insK (srt As i) (ga As i) i:=hI;show AW _ _ _ ⟨_,_,_⟩
  refine cSeq<|cSeq ?_
  by_cases hk0:k=0
  ·refine cDk 12<|.cons (OpS.V _ rfl)<|oFd rfl (by omega)<|.cons (OpS.V _ rfl)<|.cons (OpS.G rfl rfl)<|.cons (OpS.G rfl rfl)<|.cons (OpS.G rfl rfl)<|.cons (OpS.G rfl rfl)<|.cons (OpS.G rfl rfl)<|.cons (OpS.G rfl rfl)<|.cons (OpS.G rfl rfl)<|.cons (OpS.G rfl rfl)<|.cons (OpS.V _ rfl)<|.nil<|mT<|cF rfl<|cExit<|tE<|tE<|bE<|tN<|cSeq ?_;have hkp:insK (srt As i) (ga As i) i=k:=hK▸insK_f (Or.inl hk0);refine cReg<|mv2 rfl rfl<|mB hTT (.d (.one (.row 9 1 (fun i' j'=>(([.v (.slice none 0 0),.v (.bool false),.v (.slice none 0 0),.v (.bool false),.v (.slice none 0 0),.v (.bool false),.v (.slice none 0 0),.v (.bool false),.v (.slice none 0 0)])[i'*9+j']?).getD (.v undef))))) rfl<|mA hTT (id:=3) (n:=i) (m:=1) (el:=(elg K L (srt As i))) (el2:=(fun i' j'=>(([.v (.slice none 0 0),.v (.bool false),.v (.slice none 0 0),.v (.bool false),.v (.slice none 0 0),.v (.bool false),.v (.slice none 0 0),.v (.bool false),.v (.slice none 0 0)])[i'*9+j']?).getD (.v undef))) rfl rfl rfl (by show (i+1)*152≤140737488355328;omega) (by omega) rfl rfl rfl rfl rfl rfl rfl rfl rfl rfl<|mW rfl<|mT<|cSeq<|cRaw 3 3 rfl rfl (by omega) (fun gg cp hcp=>?_);refine cAnyB (by kernel_rfl)<|bTake 0 rfl (by kernel_rfl) (by kernel_rfl) (by kernel_rfl) (fun _ _ h=>h) rfl rfl (av:= .d (.one (.v (.slice (some ⟨gg,0,none⟩) (i+1) cp)))) (pMove rfl rfl)<|bTake 1 rfl (by kernel_rfl) (by kernel_rfl) (by kernel_rfl) (fun _ _ h=>h) rfl rfl (av:= .d (.one (.v (.int .i64 ((k:Nat):Int))))) (pMove rfl rfl)<|bTake 4 rfl (by kernel_rfl) (by kernel_rfl) (by kernel_rfl) (fun _ _ h=>h) rfl rfl (av:= .d (.one (.v (.slice (some ⟨gg,0,none⟩) (i+1) cp)))) (pMove rfl rfl)<|bTake 5 rfl (by kernel_rfl) (by kernel_rfl) (by kernel_rfl) (fun _ _ h=>h) rfl rfl (av:= .d (.one (.v (.int .i64 ((k:Nat):Int))))) (pMove rfl rfl)<|bTake 6 rfl (by kernel_rfl) (by kernel_rfl) (by kernel_rfl) (fun _ _ h=>h) rfl rfl (av:= .d (.one (.v (.slice (some ⟨gg,if cp=k then 0 else k*9,none⟩) ((i+1)-k) (cp-k))))) (pSlR hTT (lo:=k) (N:=i+1) rfl rfl rfl rfl rfl rfl (bndK rfl) (by omega))<|bOf<|anyS [2] (by kernel_rfl) rfl ?_;refine ⟨⟨_,rfl,?_⟩,trivial⟩;refine mV hTT (.d (.one (.v (.int .i64 ((k+1:Nat):Int))))) (evi (inc64 (by omega)))<|mT<|anyS [3] (by kernel_rfl) rfl ?_;refine ⟨⟨_,rfl,?_⟩,trivial⟩;refine mX (.d (.one (.v (.slice (some ⟨gg,if cp=k+1 then 0 else (k+1)*9,none⟩) ((i+1)-(k+1)) (cp-(k+1)))))) (evx_p (pSlR hTT (lo:=k+1) (N:=i+1) rfl rfl rfl rfl rfl rfl (bndK rfl) (by omega)))<|mT<|anyS [7] (by kernel_rfl) rfl ?_;refine ⟨⟨_,rfl,?_⟩,trivial⟩;exact mCpO hTT (tw:=32) (id:=3) (N:=(i+1)) (k:=k) (g:=gg) (cap:=cp) rfl rfl rfl rfl rfl rfl rfl rfl rfl rfl rfl rfl (by omega) hcp<|mT<|anyN (by kernel_rfl)<|tN<|AW.wk (wkLo 3 32 3 rfl rfl rfl)<|cReg<|mv3 rfl rfl rfl<|mY (aAFresh (hz i)) rfl<|mV hTT (.eptr 3 9 k 0) (ixO (z:=((k:Nat):Int)) (n:=(i+1)) rfl rfl rfl rfl rfl rfl rfl (by omega) (by omega))<|mZ rfl<|mNil<|bN<|tN<|cReg<|mv2 rfl rfl<|mNil<|⟨(i+1),by omega,by omega,wk rfl ⟨hs rfl,hs rfl,hs rfl,hs' rfl (le_int (inc64 (by omega))),trivial⟩ ⟨ho' rfl (leo_ins (x:=ga As i) hsl hkp rfl),trivial⟩ rfl⟩
  ·by_cases hc:cmpC (atC (ga As i)) (acu (srt As i) (k-1)) < 0
   ·exact cDk 12<|.cons (OpS.V _ rfl)<|oTd rfl (by omega)<|.cons (OpS.V _ rfl)<|oV rfl<|.cons (OpS.V _ rfl)<|.cons (OpS.V _ rfl)<|.cons (OpS.V (.d (.one (.v (.int .i64 ((k-1:Nat):Int))))) (evi ((wr64 (by omega) (by omega)).trans (by omega))))<|.cons (OpS.V (.eptr 3 9 (k-1) 0) (ixO (z:=((k-1:Nat):Int)) (n:=i) rfl rfl rfl rfl rfl rfl rfl (by omega) (by omega)))<|oV rfl<|oC (aACmp (X:=X) (KC:=KC) (N:=N) hoi (hos (k-1) (by omega)) hN (hcN i hin) (hls (k-1) (by omega)) hKC hC hX hX1) rfl<|oTd rfl hc<|.cons (OpS.V _ rfl)<|.nil<|mT<|cT rfl<|cSkip<|tN<|cBlock<|cReg<|mW rfl<|mV hTT (.d (.one (.v (.int .i64 ((k-1:Nat):Int))))) (evi ((wr64 (by omega) (by omega)).trans (by omega)))<|mW rfl<|mNil<|bN<|⟨(k-1),⟨by omega,(insK_t hk0 hc).trans hK⟩,by show k-1 < k;omega,wkr rfl rfl⟩
   ·refine cDk 12<|.cons (OpS.V _ rfl)<|oTd rfl (by omega)<|.cons (OpS.V _ rfl)<|oV rfl<|.cons (OpS.V _ rfl)<|.cons (OpS.V _ rfl)<|.cons (OpS.V (.d (.one (.v (.int .i64 ((k-1:Nat):Int))))) (evi ((wr64 (by omega) (by omega)).trans (by omega))))<|.cons (OpS.V (.eptr 3 9 (k-1) 0) (ixO (z:=((k-1:Nat):Int)) (n:=i) rfl rfl rfl rfl rfl rfl rfl (by omega) (by omega)))<|oV rfl<|oC (aACmp (X:=X) (KC:=KC) (N:=N) hoi (hos (k-1) (by omega)) hN (hcN i hin) (hls (k-1) (by omega)) hKC hC hX hX1) rfl<|oFd rfl hc<|.cons (OpS.V _ rfl)<|.nil<|mT<|cF rfl<|cExit<|tE<|tE<|bE<|tN<|cSeq ?_;have hkp:insK (srt As i) (ga As i) i=k:=hK▸insK_f (Or.inr hc);refine cReg<|mv2 rfl rfl<|mB hTT (.d (.one (.row 9 1 (fun i' j'=>(([.v (.slice none 0 0),.v (.bool false),.v (.slice none 0 0),.v (.bool false),.v (.slice none 0 0),.v (.bool false),.v (.slice none 0 0),.v (.bool false),.v (.slice none 0 0)])[i'*9+j']?).getD (.v undef))))) rfl<|mA hTT (id:=3) (n:=i) (m:=1) (el:=(elg K L (srt As i))) (el2:=(fun i' j'=>(([.v (.slice none 0 0),.v (.bool false),.v (.slice none 0 0),.v (.bool false),.v (.slice none 0 0),.v (.bool false),.v (.slice none 0 0),.v (.bool false),.v (.slice none 0 0)])[i'*9+j']?).getD (.v undef))) rfl rfl rfl (by show (i+1)*152≤140737488355328;omega) (by omega) rfl rfl rfl rfl rfl rfl rfl rfl rfl rfl<|mW rfl<|mT<|cSeq<|cRaw 3 3 rfl rfl (by omega) (fun gg cp hcp=>?_);refine cAnyB (by kernel_rfl)<|bTake 0 rfl (by kernel_rfl) (by kernel_rfl) (by kernel_rfl) (fun _ _ h=>h) rfl rfl (av:= .d (.one (.v (.slice (some ⟨gg,0,none⟩) (i+1) cp)))) (pMove rfl rfl)<|bTake 1 rfl (by kernel_rfl) (by kernel_rfl) (by kernel_rfl) (fun _ _ h=>h) rfl rfl (av:= .d (.one (.v (.int .i64 ((k:Nat):Int))))) (pMove rfl rfl)<|bTake 4 rfl (by kernel_rfl) (by kernel_rfl) (by kernel_rfl) (fun _ _ h=>h) rfl rfl (av:= .d (.one (.v (.slice (some ⟨gg,0,none⟩) (i+1) cp)))) (pMove rfl rfl)<|bTake 5 rfl (by kernel_rfl) (by kernel_rfl) (by kernel_rfl) (fun _ _ h=>h) rfl rfl (av:= .d (.one (.v (.int .i64 ((k:Nat):Int))))) (pMove rfl rfl)<|bTake 6 rfl (by kernel_rfl) (by kernel_rfl) (by kernel_rfl) (fun _ _ h=>h) rfl rfl (av:= .d (.one (.v (.slice (some ⟨gg,if cp=k then 0 else k*9,none⟩) ((i+1)-k) (cp-k))))) (pSlR hTT (lo:=k) (N:=i+1) rfl rfl rfl rfl rfl rfl (bndK rfl) (by omega))<|bOf<|anyS [2] (by kernel_rfl) rfl ?_;refine ⟨⟨_,rfl,?_⟩,trivial⟩;refine mV hTT (.d (.one (.v (.int .i64 ((k+1:Nat):Int))))) (evi (inc64 (by omega)))<|mT<|anyS [3] (by kernel_rfl) rfl ?_;refine ⟨⟨_,rfl,?_⟩,trivial⟩;refine mX (.d (.one (.v (.slice (some ⟨gg,if cp=k+1 then 0 else (k+1)*9,none⟩) ((i+1)-(k+1)) (cp-(k+1)))))) (evx_p (pSlR hTT (lo:=k+1) (N:=i+1) rfl rfl rfl rfl rfl rfl (bndK rfl) (by omega)))<|mT<|anyS [7] (by kernel_rfl) rfl ?_;refine ⟨⟨_,rfl,?_⟩,trivial⟩;exact mCpO hTT (tw:=32) (id:=3) (N:=(i+1)) (k:=k) (g:=gg) (cap:=cp) rfl rfl rfl rfl rfl rfl rfl rfl rfl rfl rfl rfl (by omega) hcp<|mT<|anyN (by kernel_rfl)<|tN<|AW.wk (wkLo 3 32 3 rfl rfl rfl)<|cReg<|mv3 rfl rfl rfl<|mY (aAFresh (hz i)) rfl<|mV hTT (.eptr 3 9 k 0) (ixO (z:=((k:Nat):Int)) (n:=(i+1)) rfl rfl rfl rfl rfl rfl rfl (by omega) (by omega))<|mZ rfl<|mNil<|bN<|tN<|cReg<|mv2 rfl rfl<|mNil<|⟨(i+1),by omega,by omega,wk rfl ⟨hs rfl,hs rfl,hs rfl,hs' rfl (le_int (inc64 (by omega))),trivial⟩ ⟨ho' rfl (leo_ins (x:=ga As i) hsl hkp rfl),trivial⟩ rfl⟩
 ·refine cExit<|tE<|tE<|bE<|tN<|cSeq ?_;obtain rfl:i=n:=by have h0:=of_decide_eq_false hc1;omega
  exact AW.wk (wkRow 3 rfl)<|cReg<|mv2 rfl rfl<|mT<|cRet<|rQ rfl (AV.le.rfl)
theorem kf_bd{n:Nat}{c:Nat→Int}(h:∀ i,i < n→-9223372036854775808≤c i∧c i≤9223372036854775807)(i:Nat): -9223372036854775808≤kfF n c i∧kfF n c i≤9223372036854775807:=by
 unfold kfF;split
 ·rename_i hi;exact h i hi
 ·omega
theorem slH1{T:TypeId→Option TI}{s:AS}{t e:TypeId}{ti te:TI}{x:Operand}{sz n:Nat}{el:Nat→Nat→Lf}(h1:T t=some ti)(h2:ti.elem=some e)(h3:T e=some te)(h5:geto s x=some (.d (.one (.row sz n el))))(h6:Nat.beq sz te.n=true)(hn:1≤n):evV T s (.slice t x none (some (.const (.int .i64 1))) none)=some (.d (.one (.row sz 1 fun i j=>el (0+i) j))):=by
 have h6':=Nat.eq_of_beq_eq_true h6;have hb:bndV s (some (.const (.int .i64 1))) n=some 1:=by
  refine bndK (k:= .i64) (n:=1) ?_;rfl
 have h0:bndV s none 0=some 0:=rfl;simp only [evV,h1,h2,h3,h5,hb,h0];rw [if_pos ⟨h6',by omega,by omega⟩];rfl
theorem elq_hd{K KC X:Nat}{S:List AT}:AV.le (.d (.one (.row 10 1 (fun i j=>elq K KC X S (0+i) j)))) (.d (.one (.row 10 1 (elq K KC X [(ac S 0,al S 0,ah S 0)])))):=le_one (row_le fun i hi j hj B w v hv=>by
 obtain rfl:i=0:=by omega
 exact hv)
theorem aLeastZ{el:Nat→Nat→Lf}:ACall Tryz.prog 52 [.one (.row 9 0 el)] (.tup [.agg ([.v (.slice none 0 0),.v (.bool false),.v (.slice none 0 0),.v (.bool false),.v (.slice none 0 0),.v (.bool false),.v (.slice none 0 0),.v (.bool false),.v (.slice none 0 0)]),.one (.v (.bool false))]):=by
 exact aN 29 [.cell 2 46,.tmp 3] Tryz.func52 rfl<|cR<|mO rfl<|mW rfl<|mT<|cSeq<|cR<|mv2 rfl rfl<|mbT rfl rfl<|mT<|cT rfl<|cR<|mW rfl<|mZ rfl<|mW rfl<|mT<|cRet<|tR<|rQ rfl (AV.le.rfl)
theorem aAlgSorts{n0 n1:Nat}{ns0:Nat→Nat}{cs0:Nat→Nat→Int}{c1:Nat→Int}(hb0:∀ j,ns0 j≤9223372036854775807∧∀ i,i < ns0 j→-9223372036854775808≤cs0 j i∧cs0 j i≤9223372036854775807)(hn1:n1≤9223372036854775807)(hb1:∀ i,i < n1→-9223372036854775808≤c1 i∧c1 i≤9223372036854775807):ACall Tryz.prog 13 [.one (irows n0 ns0 cs0),.one (irow n1 c1)] (.d (.one (.v (.bool true)))):=by
 refine aN 118 [.tmp 4] Tryz.func13 rfl<|cR<|mW rfl<|mT<|cR<|mW rfl<|mT<|cR<|mW rfl<|mT<|cSeq<|cSeq<|AW.wk (wkNil 5 5 32 10 (fun _ _=> .v undef) rfl rfl)<|AW.wk (wkNil 6 6 46 9 (fun _ _=> .v undef) rfl rfl)<|cReg<|mW rfl<|mT<|cBlock<|cLoop (ι:=Nat) (fun (i:Nat)=>⟨118,[(0,.d (.one (.row 1 n0 (fun i _=>irow (ns0 i) (cs0 i))))),(1,.d (.one (.row 1 n1 (fun i _=> .v (.int .i64 (c1 i)))))),(5,.own 5),(6,.own 6),(7,.d (.one (.v (.int .i64 ((i:Nat):Int)))))],[(5,.row 32 10 i (elq 4 2916 1800 (xsL ns0 cs0 n1 c1 i))),(6,.row 46 9 i (elg 4 600 (xsL ns0 cs0 n1 c1 i)))]⟩) (fun (i:Nat)=>i≤5) (fun (i:Nat)=>5-i) 0 (Nat.zero_le _) (wk rfl ⟨hs rfl,hs rfl,hs rfl,hs rfl,hs' rfl (le_int rfl),trivial⟩ ⟨ho' rfl (leo_row0),ho' rfl (leo_row0),trivial⟩ rfl) ?_;rintro i hI;have hi:i≤5:=hI;show AW _ _ _ ⟨_,_,_⟩
 refine cSeq<|cSeq ?_
 by_cases hin:i < n0
 ·by_cases hi5:i < 5
  ·refine cReg<|mv3 rfl rfl rfl<|mdT rfl (by omega)<|mv2 rfl rfl<|mdT rfl (by omega)<|mW rfl<|mT<|cT rfl<|cSkip<|tN<|cSeq<|cBlock<|cR<|mW rfl<|mT<|cCut (ι:=Unit) (fun _=>⟨118,[(0,.d (.one (.row 1 n0 (fun i _=>irow (ns0 i) (cs0 i))))),(1,.d (.one (.row 1 n1 (fun i _=> .v (.int .i64 (c1 i)))))),(5,.own 5),(6,.own 6),(7,.d (.one (.v (.int .i64 ((i:Nat):Int))))),(8,.d (.one (.v (.int .i64 (kfF n1 c1 i)))))],[(5,.row 32 10 i (elq 4 2916 1800 (xsL ns0 cs0 n1 c1 i))),(6,.row 46 9 i (elg 4 600 (xsL ns0 cs0 n1 c1 i)))]⟩) (fun _=>True) ?_ (fun _ _=>?_)
   ·refine cSeq ?_
    by_cases hik:i < n1
    ·refine cReg<|mv3 rfl rfl rfl<|mdT rfl (by omega)<|mT<|cT rfl<|cReg<|mv2 rfl rfl<|mV hTT (.d (.one (.at 1 ((fun i _=> .v (.int .i64 (c1 i))) i)))) (ixR (el:=(fun i _=> .v (.int .i64 (c1 i)))) (z:=((i:Nat):Int)) (n:=n1) rfl rfl rfl rfl rfl rfl (by omega) (by omega)) ?_;exact mv2 rfl rfl<|mT<|⟨(),trivial,wk rfl ⟨hs rfl,hs rfl,hs rfl,hs rfl,hs rfl,hs' rfl (le_int (if_pos hik).symm),trivial⟩ ⟨ho rfl,ho rfl,trivial⟩ rfl⟩
    ·exact cReg<|mv3 rfl rfl rfl<|mdF rfl (by omega)<|mT<|cFs rfl<|⟨(),trivial,wk rfl ⟨hs rfl,hs rfl,hs rfl,hs rfl,hs rfl,hs' rfl (le_int (if_neg hik).symm),trivial⟩ ⟨ho rfl,ho rfl,trivial⟩ rfl⟩
   ·show AW _ _ _ ⟨_,_,_⟩
    refine cSeq ?_;have hkf:=kf_bd hb1 i;refine cReg<|mv3 rfl rfl rfl<|mV hTT (.d (.one (.at 1 ((fun i _=>irow (ns0 i) (cs0 i)) i)))) (ixR (el:=(fun i _=>irow (ns0 i) (cs0 i))) (z:=((i:Nat):Int)) (n:=n0) rfl rfl rfl rfl rfl rfl (by omega) (by omega)) ?_;refine mv2 rfl rfl<|mY (aPick (cl:=(cs0 i)) (n:=(ns0 i)) (k:=(kfF n1 c1 i)) (hb0 i).1 hkf.1 hkf.2) rfl<|AL.fact (f_qa 39 rfl (pk_ok (cs0 i) (ns0 i) (kfF n1 c1 i)).v.ok.z) (fun hq1=>?_);refine mView 39 (qaA 4 2916 1800 (pkC (cs0 i) (ns0 i) (kfF n1 c1 i)) (pkL (cs0 i) (ns0 i) (kfF n1 c1 i)) (pkH (cs0 i) (ns0 i) (kfF n1 c1 i))) rfl (qa_X (K:=4) (KC:=2916) (X:=1200) (Y:=1800) (c:=(pkC (cs0 i) (ns0 i) (kfF n1 c1 i))) (qb_mono hq1.2.1 (by decide)) (qb_mono hq1.2.2 (by decide)))<|mB hTT (.d (.one (.row 10 1 (fun i' j'=>(([.row 4 (lg (pkC (cs0 i) (ns0 i) (kfF n1 c1 i))) (qel 4 (rc (pkC (cs0 i) (ns0 i) (kfF n1 c1 i))))] ++ [exL (ChQ (pkC (cs0 i) (ns0 i) (kfF n1 c1 i)) 2916) (fun L=>qlr 2916 L)] ++qn 1800 (pkL (cs0 i) (ns0 i) (kfF n1 c1 i)) ++qn 1800 (pkH (cs0 i) (ns0 i) (kfF n1 c1 i)))[i'*10+j']?).getD (.v undef))))) rfl<|mA hTT (id:=5) (n:=i) (m:=1) (el:=(elq 4 2916 1800 (xsL ns0 cs0 n1 c1 i))) (el2:=(fun i' j'=>(([.row 4 (lg (pkC (cs0 i) (ns0 i) (kfF n1 c1 i))) (qel 4 (rc (pkC (cs0 i) (ns0 i) (kfF n1 c1 i))))] ++ [exL (ChQ (pkC (cs0 i) (ns0 i) (kfF n1 c1 i)) 2916) (fun L=>qlr 2916 L)] ++qn 1800 (pkL (cs0 i) (ns0 i) (kfF n1 c1 i)) ++qn 1800 (pkH (cs0 i) (ns0 i) (kfF n1 c1 i)))[i'*10+j']?).getD (.v undef))) rfl rfl rfl (by show (i+1)*176≤140737488355328;omega) (by omega) rfl rfl rfl rfl rfl rfl rfl rfl rfl rfl<|mW rfl<|mT<|wB [41,40,39,38,37,36,35,34,33,8,7,6,5,1,0] [6] 5 (.row 32 10 (i+1) (elq 4 2916 1800 (xsL ns0 cs0 n1 c1 (i+1)))) rfl rfl (leo_qap (x:=pkx ns0 cs0 n1 c1 i) (xsL_len i) (fun j hj=>by show (_[0*10+j]?).getD _=_;rw [Nat.zero_mul,Nat.zero_add];rfl)) rfl ?_;exact cReg<|mv3 rfl rfl rfl<|mV hTT (.eptr 5 10 i 0) (ixO (z:=((i:Nat):Int)) (n:=(i+1)) rfl rfl rfl rfl rfl rfl rfl (by omega) (by omega))<|mW rfl<|mY (ACall.le (dl (dle (AV.of_eq (by first | (unfold ac al ah;rw [xsL_last];rfl) | (unfold elq ac al ah;simp only [xsL_last];rfl)))) dl0) (al_tight hq1.1.lb1 (q6 hq1.2.1) (q6 hq1.2.2)) (aQToA (K:=4) (KC:=2916) (X:=1800) (c:=(pkC (cs0 i) (ns0 i) (kfF n1 c1 i))) (lo:=(pkL (cs0 i) (ns0 i) (kfF n1 c1 i))) (hi:=(pkH (cs0 i) (ns0 i) (kfF n1 c1 i))) (pk_ok (cs0 i) (ns0 i) (kfF n1 c1 i)).v.ok.z (by decide) (by decide))) rfl<|mB hTT (.d (.one (.row 9 1 (fun i' j'=>(([.row 2 (lg (pkC (cs0 i) (ns0 i) (kfF n1 c1 i))) (zel 4 (pkC (cs0 i) (ns0 i) (kfF n1 c1 i)))] ++tn 600 (pkL (cs0 i) (ns0 i) (kfF n1 c1 i)) ++tn 600 (pkH (cs0 i) (ns0 i) (kfF n1 c1 i)))[i'*9+j']?).getD (.v undef))))) rfl<|mA hTT (id:=6) (n:=i) (m:=1) (el:=(elg 4 600 (xsL ns0 cs0 n1 c1 i))) (el2:=(fun i' j'=>(([.row 2 (lg (pkC (cs0 i) (ns0 i) (kfF n1 c1 i))) (zel 4 (pkC (cs0 i) (ns0 i) (kfF n1 c1 i)))] ++tn 600 (pkL (cs0 i) (ns0 i) (kfF n1 c1 i)) ++tn 600 (pkH (cs0 i) (ns0 i) (kfF n1 c1 i)))[i'*9+j']?).getD (.v undef))) rfl rfl rfl (by show (i+1)*152≤140737488355328;omega) (by omega) rfl rfl rfl rfl rfl rfl rfl rfl rfl rfl<|mW rfl<|mNil<|bN<|tN<|cReg<|mv3 rfl rfl rfl<|mNil<|⟨(i+1),by omega,by show 5-(i+1) < 5-i;omega,wk rfl ⟨hs rfl,hs rfl,hs rfl,hs rfl,hs' rfl (le_int (inc64 (by omega))),trivial⟩ ⟨ho rfl,ho' rfl (leo_gapp (x:=pkx ns0 cs0 n1 c1 i) (xsL_len i) (fun j hj=>by show (_[0*9+j]?).getD _=_;rw [Nat.zero_mul,Nat.zero_add];rfl)),trivial⟩ rfl⟩
  ·refine cReg<|mv3 rfl rfl rfl<|mdT rfl (by omega)<|mv2 rfl rfl<|mdF rfl (by omega)<|mW rfl<|mT<|cF rfl<|cExit<|tE<|tE<|bE<|tN<|cSeq ?_;have hpk:=xsL_pk (ns:=ns0) (cs:=cs0) (n:=n1) (c:=c1) i;have hxl:=xsL_len (ns:=ns0) (cs:=cs0) (n:=n1) (c:=c1) i;have hzx:=elq_z (fun j hj=>(hpk j hj).v.ok.z) (Nat.le_of_eq hxl);refine AW.wk (wkRow 5 rfl)<|AW.wk (wkRow 6 rfl)<|cReg<|mW rfl<|mT<|cSeq<|cSeq<|AW.wk (wkNil 9 9 32 10 (fun _ _=> .v undef) rfl rfl)<|cReg<|mv3 rfl rfl rfl<|mT<|cBlock<|cLoop (ι:=Nat) (fun (j:Nat)=>⟨118,[(5,.d (.one (.row 10 i (elq 4 2916 1800 (xsL ns0 cs0 n1 c1 i))))),(6,.d (.one (.row 9 i (elg 4 600 (xsL ns0 cs0 n1 c1 i))))),(51,.d (.one (.v (.int .i64 (i:Int))))),(9,.own 9),(52,.d (.one (.v (.int .i64 ((j:Nat):Int)))))],[(9,.row 32 10 j (elq 4 2916 1800 (srt (xsL ns0 cs0 n1 c1 i) j)))]⟩) (fun (j:Nat)=>j≤i) (fun (j:Nat)=>i-j) 0 (Nat.zero_le _) (wk rfl ⟨hs rfl,hs rfl,hs rfl,hs rfl,hs' rfl (le_int rfl),trivial⟩ ⟨ho' rfl (leo_row0),trivial⟩ rfl) ?_;rintro j hI;have hj:j≤i:=hI;show AW _ _ _ ⟨_,_,_⟩
   refine cR<|mW rfl<|mT<|cSeq<|cCond rfl (fun hc1=>?_) (fun hc1=>?_)
   ·refine cSkip<|tN<|cSeq<|cBlock<|cSeq ?_;have hjn:j < i:=by have h0:=of_decide_eq_true hc1;omega
    have hps:∀ q,q < j→PkP (ac (srt (xsL ns0 cs0 n1 c1 i) j) q) (al (srt (xsL ns0 cs0 n1 c1 i) j) q) (ah (srt (xsL ns0 cs0 n1 c1 i) j) q):=srt_all (p:=fun x=>PkP x.1 x.2.1 x.2.2) j (fun q hq=>hpk q (by omega))
    have hsl:=srt_len (xsL ns0 cs0 n1 c1 i) j;have hzs:=elq_z (fun q hq=>(hps q hq).v.ok.z) (Nat.le_of_eq hsl);refine cReg<|mv2 rfl rfl<|mT<|cR<|mv3 rfl rfl rfl<|mT<|cSeq<|cBlock<|cLoop (ι:=Nat) (fun (k:Nat)=>⟨118,[(5,.d (.one (.row 10 i (elq 4 2916 1800 (xsL ns0 cs0 n1 c1 i))))),(6,.d (.one (.row 9 i (elg 4 600 (xsL ns0 cs0 n1 c1 i))))),(51,.d (.one (.v (.int .i64 (i:Int))))),(52,.d (.one (.v (.int .i64 ((j:Nat):Int))))),(9,.own 9),(55,.own 9),(10,.d (.one (.v (.int .i64 ((j:Nat):Int))))),(11,.d (.one (.v (.int .i64 ((k:Nat):Int)))))],[(9,.row 32 10 j (elq 4 2916 1800 (srt (xsL ns0 cs0 n1 c1 i) j)))]⟩) (fun (k:Nat)=>k≤j∧insK (srt (xsL ns0 cs0 n1 c1 i) j) (ga (xsL ns0 cs0 n1 c1 i) j) k=insK (srt (xsL ns0 cs0 n1 c1 i) j) (ga (xsL ns0 cs0 n1 c1 i) j) j) (fun (k:Nat)=>k) j (⟨Nat.le_refl _,rfl⟩) (wkr rfl rfl) ?_;rintro k hI;obtain ⟨hkj,hK⟩:k≤j∧insK (srt (xsL ns0 cs0 n1 c1 i) j) (ga (xsL ns0 cs0 n1 c1 i) j) k=insK (srt (xsL ns0 cs0 n1 c1 i) j) (ga (xsL ns0 cs0 n1 c1 i) j) j:=hI;show AW _ _ _ ⟨_,_,_⟩
    refine cSeq<|cSeq ?_
    by_cases hk0:k=0
    ·refine cDk 15<|.cons (OpS.V _ rfl)<|oFd rfl (by omega)<|.cons (OpS.V _ rfl)<|.cons (OpS.G rfl rfl)<|.cons (OpS.G rfl rfl)<|.cons (OpS.G rfl rfl)<|.cons (OpS.G rfl rfl)<|.cons (OpS.G rfl rfl)<|.cons (OpS.G rfl rfl)<|.cons (OpS.G rfl rfl)<|.cons (OpS.G rfl rfl)<|.cons (OpS.G rfl rfl)<|.cons (OpS.G rfl rfl)<|.cons (OpS.G rfl rfl)<|.cons (OpS.V _ rfl)<|.nil<|mT<|cF rfl<|cExit<|tE<|tE<|bE<|tN ?_;have hkp:insK (srt (xsL ns0 cs0 n1 c1 i) j) (ga (xsL ns0 cs0 n1 c1 i) j) j=k:=hK▸insK_f (Or.inl hk0);refine cRawN 9 9 rfl rfl (fun gg cp hcp=>?_);refine cAnyB (by kernel_rfl)<|bTake 0 rfl (by kernel_rfl) (by kernel_rfl) (by kernel_rfl) (fun _ _ h=>h) rfl rfl (av:= .d (.one (.v (.slice (adr gg 0) j cp)))) (pMove rfl rfl)<|bTake 1 rfl (by kernel_rfl) (by kernel_rfl) (by kernel_rfl) (fun _ _ h=>h) rfl rfl (av:= .d (.one (.v (.int .i64 ((k:Nat):Int))))) (pMove rfl rfl)<|bTake 2 rfl (by kernel_rfl) (by kernel_rfl) (by kernel_rfl) (fun _ _ h=>h) rfl rfl (av:= .d (.one (.v (.slice (adr gg 0) k cp)))) (pSlH hTT rfl rfl rfl rfl rfl (bndK rfl) (by omega))<|bTake 3 rfl (by kernel_rfl) (by kernel_rfl) (by kernel_rfl) (fun _ _ h=>h) rfl rfl (av:= .d (.one (.row 10 i (elq 4 2916 1800 (xsL ns0 cs0 n1 c1 i))))) (pMove rfl rfl)<|bTake 4 rfl (by kernel_rfl) (by kernel_rfl) (by kernel_rfl) (fun _ _ h=>h) rfl rfl (av:= .d (.one (.v (.int .i64 ((j:Nat):Int))))) (pMove rfl rfl)<|bTake 8 rfl (by kernel_rfl) (by kernel_rfl) (by kernel_rfl) (fun _ _ h=>h) rfl rfl (av:= .d (.one (.v (.slice (adr gg 0) j cp)))) (pMove rfl rfl)<|bTake 9 rfl (by kernel_rfl) (by kernel_rfl) (by kernel_rfl) (fun _ _ h=>h) rfl rfl (av:= .d (.one (.v (.int .i64 ((k:Nat):Int))))) (pMove rfl rfl)<|bTake 10 rfl (by kernel_rfl) (by kernel_rfl) (by kernel_rfl) (fun _ _ h=>h) rfl rfl (av:= .d (.one (.v (.slice (adr gg (if cp=k then 0 else k*10)) (j-k) (cp-k))))) (pSlL hTT (lo:=k) (N:=j) rfl rfl rfl rfl rfl rfl (bndK rfl) (by omega))<|bOf<|anyS [5] (by kernel_rfl) rfl ?_;refine ⟨⟨_,rfl,?_⟩,trivial⟩;refine mV hTT (.d (.one (.at 10 ((elq 4 2916 1800 (xsL ns0 cs0 n1 c1 i)) j)))) (ixR (el:=(elq 4 2916 1800 (xsL ns0 cs0 n1 c1 i))) (z:=((j:Nat):Int)) (n:=i) rfl rfl rfl rfl rfl rfl (by omega) (by omega)) ?_;refine mT<|anyS [6] (by kernel_rfl) rfl ?_;refine ⟨⟨_,rfl,?_⟩,trivial⟩;refine mW rfl<|mT<|anyS [7] (by kernel_rfl) rfl ?_;refine ⟨⟨_,rfl,?_⟩,trivial⟩;refine mR hTT (.row 32 10 1 (fun i' j'=>(([.row 4 (lg (ac (xsL ns0 cs0 n1 c1 i) j)) (qel 4 (rc (ac (xsL ns0 cs0 n1 c1 i) j)))] ++ [exL (ChQ (ac (xsL ns0 cs0 n1 c1 i) j) 2916) (fun L=>qlr 2916 L)] ++qn 1800 (al (xsL ns0 cs0 n1 c1 i) j) ++qn 1800 (ah (xsL ns0 cs0 n1 c1 i) j))[i'*10+j']?).getD (.v undef))) rfl rfl rfl<|mT<|anyS [11] (by kernel_rfl) rfl ?_;refine ⟨⟨_,rfl,?_⟩,trivial⟩;refine mAS hTT (id:=81) (n:=1) (m:=(j-k)) (el:=(fun i' j'=>(([.row 4 (lg (ac (xsL ns0 cs0 n1 c1 i) j)) (qel 4 (rc (ac (xsL ns0 cs0 n1 c1 i) j)))] ++ [exL (ChQ (ac (xsL ns0 cs0 n1 c1 i) j) 2916) (fun L=>qlr 2916 L)] ++qn 1800 (al (xsL ns0 cs0 n1 c1 i) j) ++qn 1800 (ah (xsL ns0 cs0 n1 c1 i) j))[i'*10+j']?).getD (.v undef))) (el2:=(fun i' j'=>(elq 4 2916 1800 (srt (xsL ns0 cs0 n1 c1 i) j)) (k+i') j')) rfl rfl (raw_src (tw:=55) (id:=9) (sz:=10) rfl rfl rfl (by omega)) (by show (1+(j-k))*176≤140737488355328;omega) (by omega) rfl rfl rfl rfl rfl rfl rfl rfl rfl rfl<|mT<|anyS [12] (by kernel_rfl) rfl ?_;refine ⟨⟨_,rfl,?_⟩,trivial⟩;refine mShr 76 55 9 rfl rfl rfl (by omega)<|AL.wk (wkRow 81 rfl)<|mA hTT (id:=9) (n:=k) (m:=(1+(j-k))) (el:=(elq 4 2916 1800 (srt (xsL ns0 cs0 n1 c1 i) j))) (el2:=(appEl 1 (fun i' j'=>(([.row 4 (lg (ac (xsL ns0 cs0 n1 c1 i) j)) (qel 4 (rc (ac (xsL ns0 cs0 n1 c1 i) j)))] ++ [exL (ChQ (ac (xsL ns0 cs0 n1 c1 i) j) 2916) (fun L=>qlr 2916 L)] ++qn 1800 (al (xsL ns0 cs0 n1 c1 i) j) ++qn 1800 (ah (xsL ns0 cs0 n1 c1 i) j))[i'*10+j']?).getD (.v undef)) (fun i' j'=>(elq 4 2916 1800 (srt (xsL ns0 cs0 n1 c1 i) j)) (k+i') j'))) rfl rfl rfl (by show (k+(1+(j-k)))*176≤140737488355328;omega) (by omega) rfl rfl rfl rfl rfl rfl rfl rfl rfl rfl<|mT<|anyS [13] (by kernel_rfl) rfl ?_;refine ⟨⟨_,rfl,?_⟩,trivial⟩;exact mW rfl<|mT<|anyN (by kernel_rfl)<|bN<|tN<|cReg<|mv2 rfl rfl<|mNil<|⟨(j+1),by omega,by omega,wk rfl ⟨hs rfl,hs rfl,hs rfl,hs rfl,hs' rfl (le_int (inc64 (by omega))),trivial⟩ ⟨ho' rfl (leo_insq (x:=ga (xsL ns0 cs0 n1 c1 i) j) hsl hkp rfl (by omega) (fun j hj=>by show (_[0*10+j]?).getD _=_;rw [Nat.zero_mul,Nat.zero_add];rfl)),trivial⟩ rfl⟩
    ·have v1:=hpk j hjn;have v2:=hps (k-1) (by omega)
     by_cases hc:cmpC (atC (ga (xsL ns0 cs0 n1 c1 i) j)) (acu (srt (xsL ns0 cs0 n1 c1 i) j) (k-1)) < 0
     ·refine cDk 15<|.cons (OpS.V _ rfl)<|oTd rfl (by omega)<|.cons (OpS.V _ rfl)<|.cons (OpS.V _ rfl)<|.cons (OpS.V _ rfl)<|.cons (OpS.V (.d (.one (.at 10 ((elq 4 2916 1800 (xsL ns0 cs0 n1 c1 i)) j)))) (ixR (el:=(elq 4 2916 1800 (xsL ns0 cs0 n1 c1 i))) (z:=((j:Nat):Int)) (n:=i) rfl rfl rfl rfl rfl rfl (by omega) (by omega))) ?_;exact oV rfl<|.cons (OpS.V _ rfl)<|.cons (OpS.V _ rfl)<|.cons (OpS.V (.d (.one (.v (.int .i64 ((k-1:Nat):Int))))) (evi ((wr64 (by omega) (by omega)).trans (by omega))))<|.cons (OpS.V (.eptr 9 10 (k-1) 0) (ixO (z:=((k-1:Nat):Int)) (n:=j) rfl rfl rfl rfl rfl rfl rfl (by omega) (by omega)))<|oV rfl<|oC (aQCmp (K:=4) (KC:=2916) (X:=1800) (N:=5) (G:=8505) (M:=4) (KD:=2916) (L:=900) (J:=31800) (Z:=11100) (c:=(ac (xsL ns0 cs0 n1 c1 i) j)) (d:=(ac (srt (xsL ns0 cs0 n1 c1 i) j) (k-1))) (lo:=(al (xsL ns0 cs0 n1 c1 i) j)) (hi:=(ah (xsL ns0 cs0 n1 c1 i) j)) (e1:=(al (srt (xsL ns0 cs0 n1 c1 i) j) (k-1))) (e2:=(ah (srt (xsL ns0 cs0 n1 c1 i) j) (k-1))) v1.v v2.v v1.x v2.x (Nat.le_trans v2.l5 (by decide)) (Nat.le_trans v1.l5 (by decide)) (by decide) v1.l5 (by decide) (pk_G v1.l5 v2.l5) (by decide) (by decide) v1.dv (by decide) (by decide) (by decide) (by decide) (by decide) (rg_J v1.l5 v2.l5 (by decide)) (by decide) (by decide)) rfl<|oTd rfl hc<|.cons (OpS.V _ rfl)<|.nil<|mT<|cT rfl<|cSkip<|tN<|cBlock<|cReg<|mW rfl<|mV hTT (.d (.one (.v (.int .i64 ((k-1:Nat):Int))))) (evi ((wr64 (by omega) (by omega)).trans (by omega)))<|mW rfl<|mNil<|bN<|⟨(k-1),⟨by omega,(insK_t hk0 hc).trans hK⟩,by show k-1 < k;omega,wkr rfl rfl⟩
     ·refine cDk 15<|.cons (OpS.V _ rfl)<|oTd rfl (by omega)<|.cons (OpS.V _ rfl)<|.cons (OpS.V _ rfl)<|.cons (OpS.V _ rfl)<|.cons (OpS.V (.d (.one (.at 10 ((elq 4 2916 1800 (xsL ns0 cs0 n1 c1 i)) j)))) (ixR (el:=(elq 4 2916 1800 (xsL ns0 cs0 n1 c1 i))) (z:=((j:Nat):Int)) (n:=i) rfl rfl rfl rfl rfl rfl (by omega) (by omega))) ?_;refine oV rfl<|.cons (OpS.V _ rfl)<|.cons (OpS.V _ rfl)<|.cons (OpS.V (.d (.one (.v (.int .i64 ((k-1:Nat):Int))))) (evi ((wr64 (by omega) (by omega)).trans (by omega))))<|.cons (OpS.V (.eptr 9 10 (k-1) 0) (ixO (z:=((k-1:Nat):Int)) (n:=j) rfl rfl rfl rfl rfl rfl rfl (by omega) (by omega)))<|oV rfl<|oC (aQCmp (K:=4) (KC:=2916) (X:=1800) (N:=5) (G:=8505) (M:=4) (KD:=2916) (L:=900) (J:=31800) (Z:=11100) (c:=(ac (xsL ns0 cs0 n1 c1 i) j)) (d:=(ac (srt (xsL ns0 cs0 n1 c1 i) j) (k-1))) (lo:=(al (xsL ns0 cs0 n1 c1 i) j)) (hi:=(ah (xsL ns0 cs0 n1 c1 i) j)) (e1:=(al (srt (xsL ns0 cs0 n1 c1 i) j) (k-1))) (e2:=(ah (srt (xsL ns0 cs0 n1 c1 i) j) (k-1))) v1.v v2.v v1.x v2.x (Nat.le_trans v2.l5 (by decide)) (Nat.le_trans v1.l5 (by decide)) (by decide) v1.l5 (by decide) (pk_G v1.l5 v2.l5) (by decide) (by decide) v1.dv (by decide) (by decide) (by decide) (by decide) (by decide) (rg_J v1.l5 v2.l5 (by decide)) (by decide) (by decide)) rfl<|oFd rfl hc<|.cons (OpS.V _ rfl)<|.nil<|mT<|cF rfl<|cExit<|tE<|tE<|bE<|tN ?_;have hkp:insK (srt (xsL ns0 cs0 n1 c1 i) j) (ga (xsL ns0 cs0 n1 c1 i) j) j=k:=hK▸insK_f (Or.inr hc);refine cRawN 9 9 rfl rfl (fun gg cp hcp=>?_);refine cAnyB (by kernel_rfl)<|bTake 0 rfl (by kernel_rfl) (by kernel_rfl) (by kernel_rfl) (fun _ _ h=>h) rfl rfl (av:= .d (.one (.v (.slice (adr gg 0) j cp)))) (pMove rfl rfl)<|bTake 1 rfl (by kernel_rfl) (by kernel_rfl) (by kernel_rfl) (fun _ _ h=>h) rfl rfl (av:= .d (.one (.v (.int .i64 ((k:Nat):Int))))) (pMove rfl rfl)<|bTake 2 rfl (by kernel_rfl) (by kernel_rfl) (by kernel_rfl) (fun _ _ h=>h) rfl rfl (av:= .d (.one (.v (.slice (adr gg 0) k cp)))) (pSlH hTT rfl rfl rfl rfl rfl (bndK rfl) (by omega))<|bTake 3 rfl (by kernel_rfl) (by kernel_rfl) (by kernel_rfl) (fun _ _ h=>h) rfl rfl (av:= .d (.one (.row 10 i (elq 4 2916 1800 (xsL ns0 cs0 n1 c1 i))))) (pMove rfl rfl)<|bTake 4 rfl (by kernel_rfl) (by kernel_rfl) (by kernel_rfl) (fun _ _ h=>h) rfl rfl (av:= .d (.one (.v (.int .i64 ((j:Nat):Int))))) (pMove rfl rfl)<|bTake 8 rfl (by kernel_rfl) (by kernel_rfl) (by kernel_rfl) (fun _ _ h=>h) rfl rfl (av:= .d (.one (.v (.slice (adr gg 0) j cp)))) (pMove rfl rfl)<|bTake 9 rfl (by kernel_rfl) (by kernel_rfl) (by kernel_rfl) (fun _ _ h=>h) rfl rfl (av:= .d (.one (.v (.int .i64 ((k:Nat):Int))))) (pMove rfl rfl)<|bTake 10 rfl (by kernel_rfl) (by kernel_rfl) (by kernel_rfl) (fun _ _ h=>h) rfl rfl (av:= .d (.one (.v (.slice (adr gg (if cp=k then 0 else k*10)) (j-k) (cp-k))))) (pSlL hTT (lo:=k) (N:=j) rfl rfl rfl rfl rfl rfl (bndK rfl) (by omega))<|bOf<|anyS [5] (by kernel_rfl) rfl ?_;refine ⟨⟨_,rfl,?_⟩,trivial⟩;refine mV hTT (.d (.one (.at 10 ((elq 4 2916 1800 (xsL ns0 cs0 n1 c1 i)) j)))) (ixR (el:=(elq 4 2916 1800 (xsL ns0 cs0 n1 c1 i))) (z:=((j:Nat):Int)) (n:=i) rfl rfl rfl rfl rfl rfl (by omega) (by omega)) ?_;refine mT<|anyS [6] (by kernel_rfl) rfl ?_;refine ⟨⟨_,rfl,?_⟩,trivial⟩;refine mW rfl<|mT<|anyS [7] (by kernel_rfl) rfl ?_;refine ⟨⟨_,rfl,?_⟩,trivial⟩;refine mR hTT (.row 32 10 1 (fun i' j'=>(([.row 4 (lg (ac (xsL ns0 cs0 n1 c1 i) j)) (qel 4 (rc (ac (xsL ns0 cs0 n1 c1 i) j)))] ++ [exL (ChQ (ac (xsL ns0 cs0 n1 c1 i) j) 2916) (fun L=>qlr 2916 L)] ++qn 1800 (al (xsL ns0 cs0 n1 c1 i) j) ++qn 1800 (ah (xsL ns0 cs0 n1 c1 i) j))[i'*10+j']?).getD (.v undef))) rfl rfl rfl<|mT<|anyS [11] (by kernel_rfl) rfl ?_;refine ⟨⟨_,rfl,?_⟩,trivial⟩;refine mAS hTT (id:=81) (n:=1) (m:=(j-k)) (el:=(fun i' j'=>(([.row 4 (lg (ac (xsL ns0 cs0 n1 c1 i) j)) (qel 4 (rc (ac (xsL ns0 cs0 n1 c1 i) j)))] ++ [exL (ChQ (ac (xsL ns0 cs0 n1 c1 i) j) 2916) (fun L=>qlr 2916 L)] ++qn 1800 (al (xsL ns0 cs0 n1 c1 i) j) ++qn 1800 (ah (xsL ns0 cs0 n1 c1 i) j))[i'*10+j']?).getD (.v undef))) (el2:=(fun i' j'=>(elq 4 2916 1800 (srt (xsL ns0 cs0 n1 c1 i) j)) (k+i') j')) rfl rfl (raw_src (tw:=55) (id:=9) (sz:=10) rfl rfl rfl (by omega)) (by show (1+(j-k))*176≤140737488355328;omega) (by omega) rfl rfl rfl rfl rfl rfl rfl rfl rfl rfl<|mT<|anyS [12] (by kernel_rfl) rfl ?_;refine ⟨⟨_,rfl,?_⟩,trivial⟩;refine mShr 76 55 9 rfl rfl rfl (by omega)<|AL.wk (wkRow 81 rfl)<|mA hTT (id:=9) (n:=k) (m:=(1+(j-k))) (el:=(elq 4 2916 1800 (srt (xsL ns0 cs0 n1 c1 i) j))) (el2:=(appEl 1 (fun i' j'=>(([.row 4 (lg (ac (xsL ns0 cs0 n1 c1 i) j)) (qel 4 (rc (ac (xsL ns0 cs0 n1 c1 i) j)))] ++ [exL (ChQ (ac (xsL ns0 cs0 n1 c1 i) j) 2916) (fun L=>qlr 2916 L)] ++qn 1800 (al (xsL ns0 cs0 n1 c1 i) j) ++qn 1800 (ah (xsL ns0 cs0 n1 c1 i) j))[i'*10+j']?).getD (.v undef)) (fun i' j'=>(elq 4 2916 1800 (srt (xsL ns0 cs0 n1 c1 i) j)) (k+i') j'))) rfl rfl rfl (by show (k+(1+(j-k)))*176≤140737488355328;omega) (by omega) rfl rfl rfl rfl rfl rfl rfl rfl rfl rfl<|mT<|anyS [13] (by kernel_rfl) rfl ?_;refine ⟨⟨_,rfl,?_⟩,trivial⟩;exact mW rfl<|mT<|anyN (by kernel_rfl)<|bN<|tN<|cReg<|mv2 rfl rfl<|mNil<|⟨(j+1),by omega,by omega,wk rfl ⟨hs rfl,hs rfl,hs rfl,hs rfl,hs' rfl (le_int (inc64 (by omega))),trivial⟩ ⟨ho' rfl (leo_insq (x:=ga (xsL ns0 cs0 n1 c1 i) j) hsl hkp rfl (by omega) (fun j hj=>by show (_[0*10+j]?).getD _=_;rw [Nat.zero_mul,Nat.zero_add];rfl)),trivial⟩ rfl⟩
   ·refine cExit<|tE<|tE<|bE<|tN<|cSeq ?_;obtain rfl:j=i:=by have h0:=of_decide_eq_false hc1;omega
    refine AW.wk (wkRow 9 rfl)<|cReg<|mW rfl<|mY (aSort (K:=4) (L:=600) (X:=8180) (KC:=50000) (N:=5) (n:=j) (As:=(xsL ns0 cs0 n1 c1 j)) hxl.symm (by omega) (fun q hq=>(hpk q hq).v) (fun q hq=>(hpk q hq).l5) (by decide) (by decide) (by decide) (by decide) (by decide)) rfl<|mW rfl<|mT<|cSeq ?_;have hps:∀ q,q < j→PkP (ac (srt (xsL ns0 cs0 n1 c1 j) j) q) (al (srt (xsL ns0 cs0 n1 c1 j) j) q) (ah (srt (xsL ns0 cs0 n1 c1 j) j) q):=srt_all (p:=fun x=>PkP x.1 x.2.1 x.2.2) j hpk
    have hsl:=srt_len (xsL ns0 cs0 n1 c1 j) j
    by_cases hm0:j=0
    ·subst hm0;exact cReg<|mW rfl<|mY (aLeastZ) rfl<|mv3 rfl rfl rfl<|mO rfl<|mZ rfl<|mW rfl<|mT<|cSeq<|cR<|mv2 rfl rfl<|mY (aRight (K:=4) (L:=600) (X:=1800) (n:=0) (J1:=900) (J:=31800) (Z:=11100) (As:=(srt (xsL ns0 cs0 n1 c1 0) 0)) (Bs:=(srt (xsL ns0 cs0 n1 c1 0) 0)) (Nat.le_of_eq hsl) (Nat.le_of_eq hsl) (by omega) (fun q hq=>(hps q hq).rg (.refl (hps q hq).v.ok)) (by decide) (by decide) (by decide) (by decide) (by decide) (by decide) (by decide)) rfl<|mv6 rfl rfl rfl rfl rfl rfl<|mv2 rfl rfl<|mT<|cFs rfl<|cSeq<|cDk 13<|.cons (OpS.V _ rfl)<|oV rfl<|.cons (OpS.V _ rfl)<|.cons (OpS.G rfl rfl)<|.cons (OpS.G rfl rfl)<|.cons (OpS.G rfl rfl)<|.cons (OpS.G rfl rfl)<|.cons (OpS.G rfl rfl)<|.cons (OpS.V _ rfl)<|.cons (OpS.V _ rfl)<|oC (aWakes10) rfl<|.cons (OpS.V _ rfl)<|.cons (OpS.V _ rfl)<|.nil<|mT<|cRet<|rQ rfl (AV.le.rfl)
    ·have hli:(lsI (xsL ns0 cs0 n1 c1 j) (j-1)) < j:=by have:=lsI_le (xsL ns0 cs0 n1 c1 j) (j-1);omega
     have hrg:RgP (ac (xsL ns0 cs0 n1 c1 j) (lsI (xsL ns0 cs0 n1 c1 j) (j-1))) (al (xsL ns0 cs0 n1 c1 j) (lsI (xsL ns0 cs0 n1 c1 j) (j-1))) (ah (xsL ns0 cs0 n1 c1 j) (lsI (xsL ns0 cs0 n1 c1 j) (j-1))) (ac (srt (xsL ns0 cs0 n1 c1 j) j) 0) (al (srt (xsL ns0 cs0 n1 c1 j) j) 0) (ah (srt (xsL ns0 cs0 n1 c1 j) j) 0):=⟨(hpk _ hli).v,(hpk _ hli).pm,(hpk _ hli).b,(hpk _ hli).l5,(hpk _ hli).dv,hps 0 (by omega),least_first (by omega) (fun q hq=>(hpk q hq).v.ok.cut)⟩;exact cReg<|mW rfl<|mY (aLeast (K:=4) (L:=600) (X:=8180) (KC:=50000) (N:=5) (n:=j) (As:=(xsL ns0 cs0 n1 c1 j)) hxl.symm hm0 (by omega) (fun q hq=>(hpk q hq).v) (fun q hq=>(hpk q hq).l5) (by decide) (by decide) (by decide) (by decide) (by decide)) rfl<|mv3 rfl rfl rfl<|mO rfl<|mZ rfl<|mW rfl<|mT<|cSeq<|cR<|mv2 rfl rfl<|mY (aRight (K:=4) (L:=600) (X:=1800) (n:=j) (J1:=900) (J:=31800) (Z:=11100) (As:=(srt (xsL ns0 cs0 n1 c1 j) j)) (Bs:=(srt (xsL ns0 cs0 n1 c1 j) j)) (Nat.le_of_eq hsl) (Nat.le_of_eq hsl) (by omega) (fun q hq=>(hps q hq).rg (.refl (hps q hq).v.ok)) (by decide) (by decide) (by decide) (by decide) (by decide) (by decide) (by decide)) rfl<|mv5 rfl rfl rfl rfl rfl<|mdT rfl (by omega)<|mv2 rfl rfl<|mT<|cFs rfl<|cSeq<|cDk 13<|.cons (OpS.V _ rfl)<|oV rfl<|.cons (OpS.V _ rfl)<|oV rfl<|.cons (OpS.B _ rfl)<|.cons (OpS.V _ rfl)<|.cons (OpS.V (.d (.one (.row 10 1 (fun i' j'=>(elq 4 2916 1800 (srt (xsL ns0 cs0 n1 c1 j) j)) (0+i') j')))) (slH1 rfl rfl rfl rfl rfl (by omega)))<|oC (ACall.le (dl (dle elg_one) (dl (dle elq_hd) dl0)) AV.le.rfl (aRight (K:=4) (L:=600) (X:=1800) (n:=1) (J1:=900) (J:=31800) (Z:=11100) (As:= [(ac (xsL ns0 cs0 n1 c1 j) (lsI (xsL ns0 cs0 n1 c1 j) (j-1)),al (xsL ns0 cs0 n1 c1 j) (lsI (xsL ns0 cs0 n1 c1 j) (j-1)),ah (xsL ns0 cs0 n1 c1 j) (lsI (xsL ns0 cs0 n1 c1 j) (j-1)))]) (Bs:= [(ac (srt (xsL ns0 cs0 n1 c1 j) j) 0,al (srt (xsL ns0 cs0 n1 c1 j) j) 0,ah (srt (xsL ns0 cs0 n1 c1 j) j) 0)]) (Nat.le_refl 1) (Nat.le_refl 1) (by decide) (rg_one hrg) (by decide) (by decide) (by decide) (by decide) (by decide) (by decide) (by decide))) rfl<|.cons (OpS.V _ rfl)<|.cons (OpS.V _ rfl)<|oC (aWakes10) rfl<|.cons (OpS.V _ rfl)<|.cons (OpS.V _ rfl)<|.nil<|mT<|cRet<|rQ rfl (AV.le.rfl)
 ·refine cReg<|mv3 rfl rfl rfl<|mdF rfl (by omega)<|mW rfl<|mG rfl rfl<|mG rfl rfl<|mW rfl<|mT<|cF rfl<|cExit<|tE<|tE<|bE<|tN<|cSeq ?_;have hpk:=xsL_pk (ns:=ns0) (cs:=cs0) (n:=n1) (c:=c1) i;have hxl:=xsL_len (ns:=ns0) (cs:=cs0) (n:=n1) (c:=c1) i;have hzx:=elq_z (fun j hj=>(hpk j hj).v.ok.z) (Nat.le_of_eq hxl);refine AW.wk (wkRow 5 rfl)<|AW.wk (wkRow 6 rfl)<|cReg<|mW rfl<|mT<|cSeq<|cSeq<|AW.wk (wkNil 9 9 32 10 (fun _ _=> .v undef) rfl rfl)<|cReg<|mv3 rfl rfl rfl<|mT<|cBlock<|cLoop (ι:=Nat) (fun (j:Nat)=>⟨118,[(5,.d (.one (.row 10 i (elq 4 2916 1800 (xsL ns0 cs0 n1 c1 i))))),(6,.d (.one (.row 9 i (elg 4 600 (xsL ns0 cs0 n1 c1 i))))),(51,.d (.one (.v (.int .i64 (i:Int))))),(9,.own 9),(52,.d (.one (.v (.int .i64 ((j:Nat):Int)))))],[(9,.row 32 10 j (elq 4 2916 1800 (srt (xsL ns0 cs0 n1 c1 i) j)))]⟩) (fun (j:Nat)=>j≤i) (fun (j:Nat)=>i-j) 0 (Nat.zero_le _) (wk rfl ⟨hs rfl,hs rfl,hs rfl,hs rfl,hs' rfl (le_int rfl),trivial⟩ ⟨ho' rfl (leo_row0),trivial⟩ rfl) ?_;rintro j hI;have hj:j≤i:=hI;show AW _ _ _ ⟨_,_,_⟩
  refine cR<|mW rfl<|mT<|cSeq<|cCond rfl (fun hc2=>?_) (fun hc2=>?_)
  ·refine cSkip<|tN<|cSeq<|cBlock<|cSeq ?_;have hjn:j < i:=by have h0:=of_decide_eq_true hc2;omega
   have hps:∀ q,q < j→PkP (ac (srt (xsL ns0 cs0 n1 c1 i) j) q) (al (srt (xsL ns0 cs0 n1 c1 i) j) q) (ah (srt (xsL ns0 cs0 n1 c1 i) j) q):=srt_all (p:=fun x=>PkP x.1 x.2.1 x.2.2) j (fun q hq=>hpk q (by omega))
   have hsl:=srt_len (xsL ns0 cs0 n1 c1 i) j;have hzs:=elq_z (fun q hq=>(hps q hq).v.ok.z) (Nat.le_of_eq hsl);refine cReg<|mv2 rfl rfl<|mT<|cR<|mv3 rfl rfl rfl<|mT<|cSeq<|cBlock<|cLoop (ι:=Nat) (fun (k:Nat)=>⟨118,[(5,.d (.one (.row 10 i (elq 4 2916 1800 (xsL ns0 cs0 n1 c1 i))))),(6,.d (.one (.row 9 i (elg 4 600 (xsL ns0 cs0 n1 c1 i))))),(51,.d (.one (.v (.int .i64 (i:Int))))),(52,.d (.one (.v (.int .i64 ((j:Nat):Int))))),(9,.own 9),(55,.own 9),(10,.d (.one (.v (.int .i64 ((j:Nat):Int))))),(11,.d (.one (.v (.int .i64 ((k:Nat):Int)))))],[(9,.row 32 10 j (elq 4 2916 1800 (srt (xsL ns0 cs0 n1 c1 i) j)))]⟩) (fun (k:Nat)=>k≤j∧insK (srt (xsL ns0 cs0 n1 c1 i) j) (ga (xsL ns0 cs0 n1 c1 i) j) k=insK (srt (xsL ns0 cs0 n1 c1 i) j) (ga (xsL ns0 cs0 n1 c1 i) j) j) (fun (k:Nat)=>k) j (⟨Nat.le_refl _,rfl⟩) (wkr rfl rfl) ?_;rintro k hI;obtain ⟨hkj,hK⟩:k≤j∧insK (srt (xsL ns0 cs0 n1 c1 i) j) (ga (xsL ns0 cs0 n1 c1 i) j) k=insK (srt (xsL ns0 cs0 n1 c1 i) j) (ga (xsL ns0 cs0 n1 c1 i) j) j:=hI;show AW _ _ _ ⟨_,_,_⟩
   refine cSeq<|cSeq ?_
   by_cases hk0:k=0
   ·refine cDk 15<|.cons (OpS.V _ rfl)<|oFd rfl (by omega)<|.cons (OpS.V _ rfl)<|.cons (OpS.G rfl rfl)<|.cons (OpS.G rfl rfl)<|.cons (OpS.G rfl rfl)<|.cons (OpS.G rfl rfl)<|.cons (OpS.G rfl rfl)<|.cons (OpS.G rfl rfl)<|.cons (OpS.G rfl rfl)<|.cons (OpS.G rfl rfl)<|.cons (OpS.G rfl rfl)<|.cons (OpS.G rfl rfl)<|.cons (OpS.G rfl rfl)<|.cons (OpS.V _ rfl)<|.nil<|mT<|cF rfl<|cExit<|tE<|tE<|bE<|tN ?_;have hkp:insK (srt (xsL ns0 cs0 n1 c1 i) j) (ga (xsL ns0 cs0 n1 c1 i) j) j=k:=hK▸insK_f (Or.inl hk0);refine cRawN 9 9 rfl rfl (fun gg cp hcp=>?_);refine cAnyB (by kernel_rfl)<|bTake 0 rfl (by kernel_rfl) (by kernel_rfl) (by kernel_rfl) (fun _ _ h=>h) rfl rfl (av:= .d (.one (.v (.slice (adr gg 0) j cp)))) (pMove rfl rfl)<|bTake 1 rfl (by kernel_rfl) (by kernel_rfl) (by kernel_rfl) (fun _ _ h=>h) rfl rfl (av:= .d (.one (.v (.int .i64 ((k:Nat):Int))))) (pMove rfl rfl)<|bTake 2 rfl (by kernel_rfl) (by kernel_rfl) (by kernel_rfl) (fun _ _ h=>h) rfl rfl (av:= .d (.one (.v (.slice (adr gg 0) k cp)))) (pSlH hTT rfl rfl rfl rfl rfl (bndK rfl) (by omega))<|bTake 3 rfl (by kernel_rfl) (by kernel_rfl) (by kernel_rfl) (fun _ _ h=>h) rfl rfl (av:= .d (.one (.row 10 i (elq 4 2916 1800 (xsL ns0 cs0 n1 c1 i))))) (pMove rfl rfl)<|bTake 4 rfl (by kernel_rfl) (by kernel_rfl) (by kernel_rfl) (fun _ _ h=>h) rfl rfl (av:= .d (.one (.v (.int .i64 ((j:Nat):Int))))) (pMove rfl rfl)<|bTake 8 rfl (by kernel_rfl) (by kernel_rfl) (by kernel_rfl) (fun _ _ h=>h) rfl rfl (av:= .d (.one (.v (.slice (adr gg 0) j cp)))) (pMove rfl rfl)<|bTake 9 rfl (by kernel_rfl) (by kernel_rfl) (by kernel_rfl) (fun _ _ h=>h) rfl rfl (av:= .d (.one (.v (.int .i64 ((k:Nat):Int))))) (pMove rfl rfl)<|bTake 10 rfl (by kernel_rfl) (by kernel_rfl) (by kernel_rfl) (fun _ _ h=>h) rfl rfl (av:= .d (.one (.v (.slice (adr gg (if cp=k then 0 else k*10)) (j-k) (cp-k))))) (pSlL hTT (lo:=k) (N:=j) rfl rfl rfl rfl rfl rfl (bndK rfl) (by omega))<|bOf<|anyS [5] (by kernel_rfl) rfl ?_;refine ⟨⟨_,rfl,?_⟩,trivial⟩;refine mV hTT (.d (.one (.at 10 ((elq 4 2916 1800 (xsL ns0 cs0 n1 c1 i)) j)))) (ixR (el:=(elq 4 2916 1800 (xsL ns0 cs0 n1 c1 i))) (z:=((j:Nat):Int)) (n:=i) rfl rfl rfl rfl rfl rfl (by omega) (by omega)) ?_;refine mT<|anyS [6] (by kernel_rfl) rfl ?_;refine ⟨⟨_,rfl,?_⟩,trivial⟩;refine mW rfl<|mT<|anyS [7] (by kernel_rfl) rfl ?_;refine ⟨⟨_,rfl,?_⟩,trivial⟩;refine mR hTT (.row 32 10 1 (fun i' j'=>(([.row 4 (lg (ac (xsL ns0 cs0 n1 c1 i) j)) (qel 4 (rc (ac (xsL ns0 cs0 n1 c1 i) j)))] ++ [exL (ChQ (ac (xsL ns0 cs0 n1 c1 i) j) 2916) (fun L=>qlr 2916 L)] ++qn 1800 (al (xsL ns0 cs0 n1 c1 i) j) ++qn 1800 (ah (xsL ns0 cs0 n1 c1 i) j))[i'*10+j']?).getD (.v undef))) rfl rfl rfl<|mT<|anyS [11] (by kernel_rfl) rfl ?_;refine ⟨⟨_,rfl,?_⟩,trivial⟩;refine mAS hTT (id:=81) (n:=1) (m:=(j-k)) (el:=(fun i' j'=>(([.row 4 (lg (ac (xsL ns0 cs0 n1 c1 i) j)) (qel 4 (rc (ac (xsL ns0 cs0 n1 c1 i) j)))] ++ [exL (ChQ (ac (xsL ns0 cs0 n1 c1 i) j) 2916) (fun L=>qlr 2916 L)] ++qn 1800 (al (xsL ns0 cs0 n1 c1 i) j) ++qn 1800 (ah (xsL ns0 cs0 n1 c1 i) j))[i'*10+j']?).getD (.v undef))) (el2:=(fun i' j'=>(elq 4 2916 1800 (srt (xsL ns0 cs0 n1 c1 i) j)) (k+i') j')) rfl rfl (raw_src (tw:=55) (id:=9) (sz:=10) rfl rfl rfl (by omega)) (by show (1+(j-k))*176≤140737488355328;omega) (by omega) rfl rfl rfl rfl rfl rfl rfl rfl rfl rfl<|mT<|anyS [12] (by kernel_rfl) rfl ?_;refine ⟨⟨_,rfl,?_⟩,trivial⟩;refine mShr 76 55 9 rfl rfl rfl (by omega)<|AL.wk (wkRow 81 rfl)<|mA hTT (id:=9) (n:=k) (m:=(1+(j-k))) (el:=(elq 4 2916 1800 (srt (xsL ns0 cs0 n1 c1 i) j))) (el2:=(appEl 1 (fun i' j'=>(([.row 4 (lg (ac (xsL ns0 cs0 n1 c1 i) j)) (qel 4 (rc (ac (xsL ns0 cs0 n1 c1 i) j)))] ++ [exL (ChQ (ac (xsL ns0 cs0 n1 c1 i) j) 2916) (fun L=>qlr 2916 L)] ++qn 1800 (al (xsL ns0 cs0 n1 c1 i) j) ++qn 1800 (ah (xsL ns0 cs0 n1 c1 i) j))[i'*10+j']?).getD (.v undef)) (fun i' j'=>(elq 4 2916 1800 (srt (xsL ns0 cs0 n1 c1 i) j)) (k+i') j'))) rfl rfl rfl (by show (k+(1+(j-k)))*176≤140737488355328;omega) (by omega) rfl rfl rfl rfl rfl rfl rfl rfl rfl rfl<|mT<|anyS [13] (by kernel_rfl) rfl ?_;refine ⟨⟨_,rfl,?_⟩,trivial⟩;exact mW rfl<|mT<|anyN (by kernel_rfl)<|bN<|tN<|cReg<|mv2 rfl rfl<|mNil<|⟨(j+1),by omega,by omega,wk rfl ⟨hs rfl,hs rfl,hs rfl,hs rfl,hs' rfl (le_int (inc64 (by omega))),trivial⟩ ⟨ho' rfl (leo_insq (x:=ga (xsL ns0 cs0 n1 c1 i) j) hsl hkp rfl (by omega) (fun j hj=>by show (_[0*10+j]?).getD _=_;rw [Nat.zero_mul,Nat.zero_add];rfl)),trivial⟩ rfl⟩
   ·have v1:=hpk j hjn;have v2:=hps (k-1) (by omega)
    by_cases hc:cmpC (atC (ga (xsL ns0 cs0 n1 c1 i) j)) (acu (srt (xsL ns0 cs0 n1 c1 i) j) (k-1)) < 0
    ·refine cDk 15<|.cons (OpS.V _ rfl)<|oTd rfl (by omega)<|.cons (OpS.V _ rfl)<|.cons (OpS.V _ rfl)<|.cons (OpS.V _ rfl)<|.cons (OpS.V (.d (.one (.at 10 ((elq 4 2916 1800 (xsL ns0 cs0 n1 c1 i)) j)))) (ixR (el:=(elq 4 2916 1800 (xsL ns0 cs0 n1 c1 i))) (z:=((j:Nat):Int)) (n:=i) rfl rfl rfl rfl rfl rfl (by omega) (by omega))) ?_;exact oV rfl<|.cons (OpS.V _ rfl)<|.cons (OpS.V _ rfl)<|.cons (OpS.V (.d (.one (.v (.int .i64 ((k-1:Nat):Int))))) (evi ((wr64 (by omega) (by omega)).trans (by omega))))<|.cons (OpS.V (.eptr 9 10 (k-1) 0) (ixO (z:=((k-1:Nat):Int)) (n:=j) rfl rfl rfl rfl rfl rfl rfl (by omega) (by omega)))<|oV rfl<|oC (aQCmp (K:=4) (KC:=2916) (X:=1800) (N:=5) (G:=8505) (M:=4) (KD:=2916) (L:=900) (J:=31800) (Z:=11100) (c:=(ac (xsL ns0 cs0 n1 c1 i) j)) (d:=(ac (srt (xsL ns0 cs0 n1 c1 i) j) (k-1))) (lo:=(al (xsL ns0 cs0 n1 c1 i) j)) (hi:=(ah (xsL ns0 cs0 n1 c1 i) j)) (e1:=(al (srt (xsL ns0 cs0 n1 c1 i) j) (k-1))) (e2:=(ah (srt (xsL ns0 cs0 n1 c1 i) j) (k-1))) v1.v v2.v v1.x v2.x (Nat.le_trans v2.l5 (by decide)) (Nat.le_trans v1.l5 (by decide)) (by decide) v1.l5 (by decide) (pk_G v1.l5 v2.l5) (by decide) (by decide) v1.dv (by decide) (by decide) (by decide) (by decide) (by decide) (rg_J v1.l5 v2.l5 (by decide)) (by decide) (by decide)) rfl<|oTd rfl hc<|.cons (OpS.V _ rfl)<|.nil<|mT<|cT rfl<|cSkip<|tN<|cBlock<|cReg<|mW rfl<|mV hTT (.d (.one (.v (.int .i64 ((k-1:Nat):Int))))) (evi ((wr64 (by omega) (by omega)).trans (by omega)))<|mW rfl<|mNil<|bN<|⟨(k-1),⟨by omega,(insK_t hk0 hc).trans hK⟩,by show k-1 < k;omega,wkr rfl rfl⟩
    ·refine cDk 15<|.cons (OpS.V _ rfl)<|oTd rfl (by omega)<|.cons (OpS.V _ rfl)<|.cons (OpS.V _ rfl)<|.cons (OpS.V _ rfl)<|.cons (OpS.V (.d (.one (.at 10 ((elq 4 2916 1800 (xsL ns0 cs0 n1 c1 i)) j)))) (ixR (el:=(elq 4 2916 1800 (xsL ns0 cs0 n1 c1 i))) (z:=((j:Nat):Int)) (n:=i) rfl rfl rfl rfl rfl rfl (by omega) (by omega))) ?_;refine oV rfl<|.cons (OpS.V _ rfl)<|.cons (OpS.V _ rfl)<|.cons (OpS.V (.d (.one (.v (.int .i64 ((k-1:Nat):Int))))) (evi ((wr64 (by omega) (by omega)).trans (by omega))))<|.cons (OpS.V (.eptr 9 10 (k-1) 0) (ixO (z:=((k-1:Nat):Int)) (n:=j) rfl rfl rfl rfl rfl rfl rfl (by omega) (by omega)))<|oV rfl<|oC (aQCmp (K:=4) (KC:=2916) (X:=1800) (N:=5) (G:=8505) (M:=4) (KD:=2916) (L:=900) (J:=31800) (Z:=11100) (c:=(ac (xsL ns0 cs0 n1 c1 i) j)) (d:=(ac (srt (xsL ns0 cs0 n1 c1 i) j) (k-1))) (lo:=(al (xsL ns0 cs0 n1 c1 i) j)) (hi:=(ah (xsL ns0 cs0 n1 c1 i) j)) (e1:=(al (srt (xsL ns0 cs0 n1 c1 i) j) (k-1))) (e2:=(ah (srt (xsL ns0 cs0 n1 c1 i) j) (k-1))) v1.v v2.v v1.x v2.x (Nat.le_trans v2.l5 (by decide)) (Nat.le_trans v1.l5 (by decide)) (by decide) v1.l5 (by decide) (pk_G v1.l5 v2.l5) (by decide) (by decide) v1.dv (by decide) (by decide) (by decide) (by decide) (by decide) (rg_J v1.l5 v2.l5 (by decide)) (by decide) (by decide)) rfl<|oFd rfl hc<|.cons (OpS.V _ rfl)<|.nil<|mT<|cF rfl<|cExit<|tE<|tE<|bE<|tN ?_;have hkp:insK (srt (xsL ns0 cs0 n1 c1 i) j) (ga (xsL ns0 cs0 n1 c1 i) j) j=k:=hK▸insK_f (Or.inr hc);refine cRawN 9 9 rfl rfl (fun gg cp hcp=>?_);refine cAnyB (by kernel_rfl)<|bTake 0 rfl (by kernel_rfl) (by kernel_rfl) (by kernel_rfl) (fun _ _ h=>h) rfl rfl (av:= .d (.one (.v (.slice (adr gg 0) j cp)))) (pMove rfl rfl)<|bTake 1 rfl (by kernel_rfl) (by kernel_rfl) (by kernel_rfl) (fun _ _ h=>h) rfl rfl (av:= .d (.one (.v (.int .i64 ((k:Nat):Int))))) (pMove rfl rfl)<|bTake 2 rfl (by kernel_rfl) (by kernel_rfl) (by kernel_rfl) (fun _ _ h=>h) rfl rfl (av:= .d (.one (.v (.slice (adr gg 0) k cp)))) (pSlH hTT rfl rfl rfl rfl rfl (bndK rfl) (by omega))<|bTake 3 rfl (by kernel_rfl) (by kernel_rfl) (by kernel_rfl) (fun _ _ h=>h) rfl rfl (av:= .d (.one (.row 10 i (elq 4 2916 1800 (xsL ns0 cs0 n1 c1 i))))) (pMove rfl rfl)<|bTake 4 rfl (by kernel_rfl) (by kernel_rfl) (by kernel_rfl) (fun _ _ h=>h) rfl rfl (av:= .d (.one (.v (.int .i64 ((j:Nat):Int))))) (pMove rfl rfl)<|bTake 8 rfl (by kernel_rfl) (by kernel_rfl) (by kernel_rfl) (fun _ _ h=>h) rfl rfl (av:= .d (.one (.v (.slice (adr gg 0) j cp)))) (pMove rfl rfl)<|bTake 9 rfl (by kernel_rfl) (by kernel_rfl) (by kernel_rfl) (fun _ _ h=>h) rfl rfl (av:= .d (.one (.v (.int .i64 ((k:Nat):Int))))) (pMove rfl rfl)<|bTake 10 rfl (by kernel_rfl) (by kernel_rfl) (by kernel_rfl) (fun _ _ h=>h) rfl rfl (av:= .d (.one (.v (.slice (adr gg (if cp=k then 0 else k*10)) (j-k) (cp-k))))) (pSlL hTT (lo:=k) (N:=j) rfl rfl rfl rfl rfl rfl (bndK rfl) (by omega))<|bOf<|anyS [5] (by kernel_rfl) rfl ?_;refine ⟨⟨_,rfl,?_⟩,trivial⟩;refine mV hTT (.d (.one (.at 10 ((elq 4 2916 1800 (xsL ns0 cs0 n1 c1 i)) j)))) (ixR (el:=(elq 4 2916 1800 (xsL ns0 cs0 n1 c1 i))) (z:=((j:Nat):Int)) (n:=i) rfl rfl rfl rfl rfl rfl (by omega) (by omega)) ?_;refine mT<|anyS [6] (by kernel_rfl) rfl ?_;refine ⟨⟨_,rfl,?_⟩,trivial⟩;refine mW rfl<|mT<|anyS [7] (by kernel_rfl) rfl ?_;refine ⟨⟨_,rfl,?_⟩,trivial⟩;refine mR hTT (.row 32 10 1 (fun i' j'=>(([.row 4 (lg (ac (xsL ns0 cs0 n1 c1 i) j)) (qel 4 (rc (ac (xsL ns0 cs0 n1 c1 i) j)))] ++ [exL (ChQ (ac (xsL ns0 cs0 n1 c1 i) j) 2916) (fun L=>qlr 2916 L)] ++qn 1800 (al (xsL ns0 cs0 n1 c1 i) j) ++qn 1800 (ah (xsL ns0 cs0 n1 c1 i) j))[i'*10+j']?).getD (.v undef))) rfl rfl rfl<|mT<|anyS [11] (by kernel_rfl) rfl ?_;refine ⟨⟨_,rfl,?_⟩,trivial⟩;refine mAS hTT (id:=81) (n:=1) (m:=(j-k)) (el:=(fun i' j'=>(([.row 4 (lg (ac (xsL ns0 cs0 n1 c1 i) j)) (qel 4 (rc (ac (xsL ns0 cs0 n1 c1 i) j)))] ++ [exL (ChQ (ac (xsL ns0 cs0 n1 c1 i) j) 2916) (fun L=>qlr 2916 L)] ++qn 1800 (al (xsL ns0 cs0 n1 c1 i) j) ++qn 1800 (ah (xsL ns0 cs0 n1 c1 i) j))[i'*10+j']?).getD (.v undef))) (el2:=(fun i' j'=>(elq 4 2916 1800 (srt (xsL ns0 cs0 n1 c1 i) j)) (k+i') j')) rfl rfl (raw_src (tw:=55) (id:=9) (sz:=10) rfl rfl rfl (by omega)) (by show (1+(j-k))*176≤140737488355328;omega) (by omega) rfl rfl rfl rfl rfl rfl rfl rfl rfl rfl<|mT<|anyS [12] (by kernel_rfl) rfl ?_;refine ⟨⟨_,rfl,?_⟩,trivial⟩;refine mShr 76 55 9 rfl rfl rfl (by omega)<|AL.wk (wkRow 81 rfl)<|mA hTT (id:=9) (n:=k) (m:=(1+(j-k))) (el:=(elq 4 2916 1800 (srt (xsL ns0 cs0 n1 c1 i) j))) (el2:=(appEl 1 (fun i' j'=>(([.row 4 (lg (ac (xsL ns0 cs0 n1 c1 i) j)) (qel 4 (rc (ac (xsL ns0 cs0 n1 c1 i) j)))] ++ [exL (ChQ (ac (xsL ns0 cs0 n1 c1 i) j) 2916) (fun L=>qlr 2916 L)] ++qn 1800 (al (xsL ns0 cs0 n1 c1 i) j) ++qn 1800 (ah (xsL ns0 cs0 n1 c1 i) j))[i'*10+j']?).getD (.v undef)) (fun i' j'=>(elq 4 2916 1800 (srt (xsL ns0 cs0 n1 c1 i) j)) (k+i') j'))) rfl rfl rfl (by show (k+(1+(j-k)))*176≤140737488355328;omega) (by omega) rfl rfl rfl rfl rfl rfl rfl rfl rfl rfl<|mT<|anyS [13] (by kernel_rfl) rfl ?_;refine ⟨⟨_,rfl,?_⟩,trivial⟩;exact mW rfl<|mT<|anyN (by kernel_rfl)<|bN<|tN<|cReg<|mv2 rfl rfl<|mNil<|⟨(j+1),by omega,by omega,wk rfl ⟨hs rfl,hs rfl,hs rfl,hs rfl,hs' rfl (le_int (inc64 (by omega))),trivial⟩ ⟨ho' rfl (leo_insq (x:=ga (xsL ns0 cs0 n1 c1 i) j) hsl hkp rfl (by omega) (fun j hj=>by show (_[0*10+j]?).getD _=_;rw [Nat.zero_mul,Nat.zero_add];rfl)),trivial⟩ rfl⟩
  ·refine cExit<|tE<|tE<|bE<|tN<|cSeq ?_;obtain rfl:j=i:=by have h0:=of_decide_eq_false hc2;omega
   refine AW.wk (wkRow 9 rfl)<|cReg<|mW rfl<|mY (aSort (K:=4) (L:=600) (X:=8180) (KC:=50000) (N:=5) (n:=j) (As:=(xsL ns0 cs0 n1 c1 j)) hxl.symm (by omega) (fun q hq=>(hpk q hq).v) (fun q hq=>(hpk q hq).l5) (by decide) (by decide) (by decide) (by decide) (by decide)) rfl<|mW rfl<|mT<|cSeq ?_;have hps:∀ q,q < j→PkP (ac (srt (xsL ns0 cs0 n1 c1 j) j) q) (al (srt (xsL ns0 cs0 n1 c1 j) j) q) (ah (srt (xsL ns0 cs0 n1 c1 j) j) q):=srt_all (p:=fun x=>PkP x.1 x.2.1 x.2.2) j hpk
   have hsl:=srt_len (xsL ns0 cs0 n1 c1 j) j
   by_cases hm0:j=0
   ·subst hm0;exact cReg<|mW rfl<|mY (aLeastZ) rfl<|mv3 rfl rfl rfl<|mO rfl<|mZ rfl<|mW rfl<|mT<|cSeq<|cR<|mv2 rfl rfl<|mY (aRight (K:=4) (L:=600) (X:=1800) (n:=0) (J1:=900) (J:=31800) (Z:=11100) (As:=(srt (xsL ns0 cs0 n1 c1 0) 0)) (Bs:=(srt (xsL ns0 cs0 n1 c1 0) 0)) (Nat.le_of_eq hsl) (Nat.le_of_eq hsl) (by omega) (fun q hq=>(hps q hq).rg (.refl (hps q hq).v.ok)) (by decide) (by decide) (by decide) (by decide) (by decide) (by decide) (by decide)) rfl<|mv6 rfl rfl rfl rfl rfl rfl<|mv2 rfl rfl<|mT<|cFs rfl<|cSeq<|cDk 13<|.cons (OpS.V _ rfl)<|oV rfl<|.cons (OpS.V _ rfl)<|.cons (OpS.G rfl rfl)<|.cons (OpS.G rfl rfl)<|.cons (OpS.G rfl rfl)<|.cons (OpS.G rfl rfl)<|.cons (OpS.G rfl rfl)<|.cons (OpS.V _ rfl)<|.cons (OpS.V _ rfl)<|oC (aWakes10) rfl<|.cons (OpS.V _ rfl)<|.cons (OpS.V _ rfl)<|.nil<|mT<|cRet<|rQ rfl (AV.le.rfl)
   ·have hli:(lsI (xsL ns0 cs0 n1 c1 j) (j-1)) < j:=by have:=lsI_le (xsL ns0 cs0 n1 c1 j) (j-1);omega
    have hrg:RgP (ac (xsL ns0 cs0 n1 c1 j) (lsI (xsL ns0 cs0 n1 c1 j) (j-1))) (al (xsL ns0 cs0 n1 c1 j) (lsI (xsL ns0 cs0 n1 c1 j) (j-1))) (ah (xsL ns0 cs0 n1 c1 j) (lsI (xsL ns0 cs0 n1 c1 j) (j-1))) (ac (srt (xsL ns0 cs0 n1 c1 j) j) 0) (al (srt (xsL ns0 cs0 n1 c1 j) j) 0) (ah (srt (xsL ns0 cs0 n1 c1 j) j) 0):=⟨(hpk _ hli).v,(hpk _ hli).pm,(hpk _ hli).b,(hpk _ hli).l5,(hpk _ hli).dv,hps 0 (by omega),least_first (by omega) (fun q hq=>(hpk q hq).v.ok.cut)⟩;exact cReg<|mW rfl<|mY (aLeast (K:=4) (L:=600) (X:=8180) (KC:=50000) (N:=5) (n:=j) (As:=(xsL ns0 cs0 n1 c1 j)) hxl.symm hm0 (by omega) (fun q hq=>(hpk q hq).v) (fun q hq=>(hpk q hq).l5) (by decide) (by decide) (by decide) (by decide) (by decide)) rfl<|mv3 rfl rfl rfl<|mO rfl<|mZ rfl<|mW rfl<|mT<|cSeq<|cR<|mv2 rfl rfl<|mY (aRight (K:=4) (L:=600) (X:=1800) (n:=j) (J1:=900) (J:=31800) (Z:=11100) (As:=(srt (xsL ns0 cs0 n1 c1 j) j)) (Bs:=(srt (xsL ns0 cs0 n1 c1 j) j)) (Nat.le_of_eq hsl) (Nat.le_of_eq hsl) (by omega) (fun q hq=>(hps q hq).rg (.refl (hps q hq).v.ok)) (by decide) (by decide) (by decide) (by decide) (by decide) (by decide) (by decide)) rfl<|mv5 rfl rfl rfl rfl rfl<|mdT rfl (by omega)<|mv2 rfl rfl<|mT<|cFs rfl<|cSeq<|cDk 13<|.cons (OpS.V _ rfl)<|oV rfl<|.cons (OpS.V _ rfl)<|oV rfl<|.cons (OpS.B _ rfl)<|.cons (OpS.V _ rfl)<|.cons (OpS.V (.d (.one (.row 10 1 (fun i' j'=>(elq 4 2916 1800 (srt (xsL ns0 cs0 n1 c1 j) j)) (0+i') j')))) (slH1 rfl rfl rfl rfl rfl (by omega)))<|oC (ACall.le (dl (dle elg_one) (dl (dle elq_hd) dl0)) AV.le.rfl (aRight (K:=4) (L:=600) (X:=1800) (n:=1) (J1:=900) (J:=31800) (Z:=11100) (As:= [(ac (xsL ns0 cs0 n1 c1 j) (lsI (xsL ns0 cs0 n1 c1 j) (j-1)),al (xsL ns0 cs0 n1 c1 j) (lsI (xsL ns0 cs0 n1 c1 j) (j-1)),ah (xsL ns0 cs0 n1 c1 j) (lsI (xsL ns0 cs0 n1 c1 j) (j-1)))]) (Bs:= [(ac (srt (xsL ns0 cs0 n1 c1 j) j) 0,al (srt (xsL ns0 cs0 n1 c1 j) j) 0,ah (srt (xsL ns0 cs0 n1 c1 j) j) 0)]) (Nat.le_refl 1) (Nat.le_refl 1) (by decide) (rg_one hrg) (by decide) (by decide) (by decide) (by decide) (by decide) (by decide) (by decide))) rfl<|.cons (OpS.V _ rfl)<|.cons (OpS.V _ rfl)<|oC (aWakes10) rfl<|.cons (OpS.V _ rfl)<|.cons (OpS.V _ rfl)<|.nil<|mT<|cRet<|rQ rfl (AV.le.rfl)
end Go.Proofs.YthccmbncplakjaaGreat
