/-
  Laws of the program's functions by an abstract machine, part 5: joined, short spelling. No condition.
-/
import Derived.Test.YtapmpcgekdplfaaGreatJ4
set_option linter.unusedVariables false
set_option linter.unusedSimpArgs false
set_option maxRecDepth 100000
set_option maxHeartbeats 4000000
namespace Go.Proofs.YtapmpcgekdplfaaGreat
open Go.RowKit
theorem Bq{K L n:Nat}{c:Nat→Int}{q:Rat}(zc:aZ c)(hn:n=lg c)(hK:K+L≤476000:=by omega)(hL:L≤476000:=by omega):aC Tryz.prog 74 [.one (dJ K n (rc c)),.agg (qn L q)] (.d (.one (.v (.int .i64 (eP (FF c q)))))):=by
 subst hn;have hlc:=dK c;have h:=ae6 (a:=dJ K (lg c) (rc c)) (K:=K) (c:=c) (n:=lg c) (fun _ _ _ h=>h) (lq L q) (D:=20) (T:=K+L+140) (M:=21*(K+L+140)) (by omega) (by decide) (Nat.le_refl _) (Nat.le_refl _) (by omega);rw [Z8] at h;rw [show eP (FF c q)=eP (pz c q (lg c)) by rw [← iD zc];rfl];exact h
theorem YZ{e:TypeId}{i:Nat}{S:List Int}{el2:Nat→Nat→Lf}(h2:el2 0 0= .v (.int .i64 (S.getD i 0))):AO.le (.row e 1 (i+1) (fB i (I9 S) el2)) (.row e 1 (i+1) (I9 S)):=fV fun p hp j hj B w v hv=>by
 obtain rfl:j=0:=by omega
 unfold fB at hv
 by_cases h:p < i
 ·rw [show Nat.ble (p+1) i=true from Nat.ble_eq_true_of_le h] at hv;exact hv
 ·obtain rfl:p=i:=by omega
  rw [show Nat.ble (p+1) p=false from by rw [← Bool.not_eq_true,Nat.ble_eq];omega,Nat.sub_self] at hv;exact (show eu B w (el2 0 0) v from hv) |> fun h9=>by rw [h2] at h9;exact h9
theorem aC.exh{α:Type}{P:Program}{f:FuncId}{Q:α→Prop}{L:α→Lf}{ds:List DV}{res:AV}(hen:∀ vs w,(callFunc f vs).run P w= .ok (.enter f vs) w)(h:∀ x,Q x→aC P f (.one (L x) ::ds) res):aC P f (.one (aY Q L) ::ds) res:=
 ⟨hen,fun B w vs hB hd=>match vs,hd with | v ::vs,⟨⟨x,hq,hl⟩,h2⟩=>(h x hq).go B w (v ::vs) hB ⟨hl,h2⟩⟩
theorem Xq(p q:Rat):(uH p q==0)=decide (p=q):=by
 by_cases h:p=q
 ·rw [decide_eq_true h,Fv h];rfl
 ·rw [decide_eq_false h];exact beq_eq_false_iff_ne.2 fun e=>h (kM.1 e)
def qac(K:Nat)(c:Nat→Int)(KC X:Nat)(lo:Rat)(Y:Nat)(hi:Rat):List Lf:= [dJ K (lg c) (rc c)] ++ [aY (bF c KC) (fun L=>bH KC L)] ++qn X lo ++qn Y hi
theorem iO{K L:Nat}{q:Rat}(h:Qb K q)(k:K≤L):Qb L q:=⟨Nat.lt_of_lt_of_le h.1 (Nat.pow_le_pow_right (by decide) k),Nat.lt_of_lt_of_le h.2 (Nat.pow_le_pow_right (by decide) k)⟩
theorem O3{K KC X Y:Nat}{c:Nat→Int}{lo hi:Rat}(z:aZ c){B:BS}{w:World}{cs:List Value}(h:gJ B w ([dJ K (lg c) (rc c)] ++ [aY (bF c KC) (fun L=>bH KC L)] ++qn X lo ++qn Y hi) cs):Db K c∧Qb X lo∧Qb Y hi:=by
 have e1:gJ B w ([dJ K (lg c) (rc c)] ++ [aY (bF c KC) (fun L=>bH KC L)] ++qn X lo ++qn Y hi) cs:=h;have d1:=gJ.take 1 h;have d2:=gJ.take 4 (gJ.drop 2 h);have d3:=gJ.drop 6 h;have d2':gJ B w (qn X lo) ((cs.drop 2).take 4):=d2;have d3':gJ B w (qn Y hi) (cs.drop 6):=d3;refine ⟨?_,MH d2',MH d3'⟩;cases cs with
 | nil=>exact h.elim
 | cons a r=>exact lW z.lg (show eu B w (dJ K (lg c) (rc c)) a from h.1)
theorem akc{K KC X Y:Nat}{c:Nat→Int}{lo hi:Rat}(h1:Qb Y lo)(h2:Qb Y hi):AV.le (.d (.agg ([dJ K (lg c) (rc c)] ++ [aY (bF c KC) (fun L=>bH KC L)] ++qn X lo ++qn X hi))) (.d (.agg ([dJ K (lg c) (rc c)] ++ [aY (bF c KC) (fun L=>bH KC L)] ++qn Y lo ++qn Y hi))):=nT (gK (gK (fun B w cs h=>h) (eX h1)) (eX h2))
theorem Jg{KC X:Nat}{L:List (Nat→Int)}{t:Rat}(hz:∀ i,aZ (gl L i))(hL:L.length≤100000:=by omega)(hK:KC≤100000:=by omega)(hX:KC+X≤476000:=by omega):aC Tryz.prog 117 [.one (bH KC L),.agg (qn X t)] (.d (.one (.v (.int .i64 ((vr (EZ L t):Nat):Int))))):=by
 refine aN 24 [.tmp 4] Tryz.func117 rfl<|cR<|mO rfl<|mW rfl<|mT<|cR<|mW rfl<|mT<|au<|cR<|mv3 rfl rfl rfl<|mT<|aJ<|AW.wk (qC 5 5 3 1 (fun _ _=> .v undef) rfl rfl)<|dQ (ι:=Nat) (fun (i:Nat)=>⟨24,[(0,.d (.one (.row 1 L.length (BO KC L)))),(3,.ptr 3 0),(8,.d (.one (.v (.int .i64 ((L.length:Nat):Int))))),(5,.own 5),(9,.d (.one (.v (.int .i64 ((i:Nat):Int)))))],[(3,.box 49 (qn X t)),(5,.row 3 1 i (I9 (EZ L t)))]⟩) (fun (i:Nat)=>i≤L.length) (fun (i:Nat)=>L.length-i) 0 (Nat.zero_le _) (wk rfl ⟨hs rfl,hs rfl,hs rfl,hs rfl,fM rfl (aG rfl),trivial⟩ ⟨ho rfl,dX rfl (iL),trivial⟩ rfl) ?_;rintro i hI;have hi:i≤L.length:=hI;show AW _ _ _ ⟨_,_,_⟩
 refine cR<|mW rfl<|mT<|au<|aW rfl (fun hc1=>?_) (fun hc1=>?_)
 ·refine aF<|tN<|au<|aJ<|cR<|mv2 rfl rfl<|mT ?_;have hin:i < L.length:=by have h0:=of_decide_eq_true hc1;omega
  refine cDk 8<|.cons (aB.V _ rfl)<|.cons (aB.V _ rfl)<|.cons (aB.V _ rfl)<|.cons (aB.V (.d (.one (.at 1 ((BO KC L) i)))) (lu (el:=(BO KC L)) (z:=((i:Nat):Int)) (n:=L.length) rfl rfl rfl rfl rfl rfl (by omega) (by omega))) ?_;exact oV rfl<|oV rfl<|oC (Bq (hz i) rfl) rfl<|.cons (aB.B _ rfl)<|.nil<|mA aj (id:=5) (n:=i) (m:=1) (el:=(I9 (EZ L t))) (el2:=(fun i' j'=>(([.v (.int .i64 (eP (FF (gl L i) t)))])[i'*1+j']?).getD (.v undef))) rfl rfl rfl (by show (i+1)*8≤140737488355328;omega) (by omega) rfl rfl rfl rfl rfl rfl rfl rfl rfl rfl<|mW rfl<|ak<|bN<|tN<|aA<|mv2 rfl rfl<|ak<|⟨(i+1),by omega,by omega,wk rfl ⟨hs rfl,hs rfl,hs rfl,hs rfl,fM rfl (aG (dG (by omega))),trivial⟩ ⟨ho rfl,dX rfl (YZ (by rw [Z7 hin];rfl)),trivial⟩ rfl⟩
 ·refine dO<|tE<|tE<|bE<|tN<|au ?_;have hie:i=L.length:=by have h0:=of_decide_eq_false hc1;omega
  have hSl:(EZ L t).length=L.length:=by unfold EZ;rw [List.length_map]
  rw [← hSl] at hie;subst hie;exact AW.wk (jf 5 rfl)<|aA<|mW rfl<|mY (aa8 (akg L t) (by omega)) rfl<|mW rfl<|mT<|aO<|rQ rfl (AV.le.rfl)
theorem ae2{KC X Y:Nat}{c:Nat→Int}{L:List (Nat→Int)}{lo hi:Rat}(hQ:bF c KC L)(hab:lo≤hi)(hK:KC≤100000)(hX:KC+X≤476000)(hY:KC+Y≤476000):aC Tryz.prog 79 [.one (bH KC L),.agg (qn X lo),.agg (qn Y hi)] (.d (.one (.v (.int .i64 ((fP c lo hi:Nat):Int))))):=by
 obtain ⟨hc1,_,_⟩:=hQ.cnt hab;obtain ⟨_,hln⟩:=hQ.len;have hvl:vr (EZ L lo)≤L.length:=by have:=Nh (EZ L lo) 0;unfold EZ at this;rw [List.length_map] at this;exact this
 exact aN 18 [.tmp 6] Tryz.func79 rfl<|cR<|mO rfl<|mO rfl<|mW rfl<|mT<|au<|cR<|mv2 rfl rfl<|mY (lZ (lq Y hi) (lq X lo)) rfl<|mdF rfl (by have:=vW.2 hab;omega)<|mT<|cFs rfl<|au<|cDk 8<|.cons (aB.V _ rfl)<|oV rfl<|oC (Jg hQ.zz) rfl<|.cons (aB.V _ rfl)<|oV rfl<|oC (Jg hQ.zz) rfl<|.cons (aB.V (.d (.one (.v (.int .i64 ((fP c lo hi:Nat):Int))))) (fH ((dS (by omega) (by omega)).trans (by omega))))<|.cons (aB.V _ rfl)<|.nil<|mT<|aO<|rQ rfl (AV.le.rfl)
theorem RZ{KC X Y:Nat}{c:Nat→Int}{lo hi:Rat}(hab:lo≤hi)(hK:KC≤100000:=by omega)(hX:KC+X≤476000:=by omega)(hY:KC+Y≤476000:=by omega):aC Tryz.prog 79 [.one (aY (bF c KC) (fun L=>bH KC L)),.agg (qn X lo),.agg (qn Y hi)] (.d (.one (.v (.int .i64 ((fP c lo hi:Nat):Int))))):=
 aC.exh (fC Tryz.func79 rfl rfl) fun L hQ=>ae2 hQ hab hK hX hY
theorem Fh{K KC X Y:Nat}{c:Nat→Int}{lo hi:Rat}(hX:X≤100000:=by omega)(hY:Y≤100000:=by omega):aC Tryz.prog 41 [.agg ([.row 4 (lg c) (aK K (rc c))] ++ [aY (bF c KC) (fun L=>bH KC L)] ++qn X lo ++qn Y hi)] (.d (.one (.v (.bool (decide (lo=hi)))))):=by
 exact aN 9 [.tmp 2] Tryz.func41 rfl<|cR<|mO rfl<|mW rfl<|mT<|cR<|mv4 rfl rfl rfl rfl<|mY (lZ (lq X lo) (lq Y hi)) rfl<|mV aj (.d (.one (.v (.bool (decide (lo=hi)))))) (bZ (Xq _ _))<|mW rfl<|mT<|aO<|rQ rfl (AV.le.rfl)
theorem Fg{K KC X:Nat}{c:Nat→Int}{lo hi:Rat}(zc:aZ c)(hX:X≤100000:=by omega)(hK:K≤100000:=by omega):aC Tryz.prog 38 [.agg ([.row 4 (lg c) (aK K (rc c))] ++ [aY (bF c KC) (fun L=>bH KC L)] ++qn X lo ++qn X hi)] (.d (.agg ([.row 4 (lg c) (aK K (rc c))] ++ [aY (bF c KC) (fun L=>bH KC L)] ++qn X ((zH c lo hi).1) ++qn X ((zH c lo hi).2)))):=by
 have hlc:=dK c;refine aN 21 [.cell 2 51] Tryz.func38 rfl<|cR<|mO rfl<|mO rfl<|mT<|au<|au ?_
 by_cases he:lo=hi
 ·exact aA<|mv4 rfl rfl rfl rfl<|mY (lZ (lq X lo) (lq X hi)) rfl<|mbF rfl (by rw [Fv he];rfl)<|mW rfl<|mG rfl rfl<|mG rfl rfl<|mG rfl rfl<|mG rfl rfl<|mG rfl rfl<|mG rfl rfl<|mW rfl<|mT<|cFs rfl<|cR<|mW rfl<|mZ rfl<|mT<|aO<|rQ rfl (by rw [show zH c lo hi=(lo,hi) from if_neg (fun k=>k.1 he)];exact AV.le.rfl)
 ·by_cases h0:eP (FF c hi)=0
  ·exact aA<|mv4 rfl rfl rfl rfl<|mY (lZ (lq X lo) (lq X hi)) rfl<|mbT rfl (bne_iff_ne.2 fun e=>he (kM.1 e))<|mv5 rfl rfl rfl rfl rfl<|mY (Bq (zc) rfl) rfl<|mbT rfl (beq_iff_eq.2 h0)<|mW rfl<|mT<|cT rfl<|aA<|mv3 rfl rfl rfl<|mZ rfl<|mT<|cR<|mW rfl<|mZ rfl<|mT<|aO<|rQ rfl (by rw [show zH c lo hi=(hi,hi) from if_pos ⟨he,h0⟩];exact AV.le.rfl)
  ·exact aA<|mv4 rfl rfl rfl rfl<|mY (lZ (lq X lo) (lq X hi)) rfl<|mbT rfl (bne_iff_ne.2 fun e=>he (kM.1 e))<|mv5 rfl rfl rfl rfl rfl<|mY (Bq (zc) rfl) rfl<|mbF rfl (beq_eq_false_iff_ne.2 h0)<|mW rfl<|mT<|cFs rfl<|cR<|mW rfl<|mZ rfl<|mT<|aO<|rQ rfl (by rw [show zH c lo hi=(lo,hi) from if_neg (fun k=>h0 k.2)];exact AV.le.rfl)
theorem yP{K KC X Y:Nat}{c:Nat→Int}{lo hi:Rat}(hC:yO c)(hA:sH c lo hi)(hex:EX c lo hi)(hm:Qb Y ((lo+hi) / 2))(hXY:X≤Y:=by omega)(hK:K≤100000:=by omega)(ny:KC≤100000:=by omega)(hY:Y≤100000:=by omega):aC Tryz.prog 45 [.agg ([.row 4 (lg c) (aK K (rc c))] ++ [aY (bF c KC) (fun L=>bH KC L)] ++qn X lo ++qn X hi)] (.d (.agg ([.row 4 (lg c) (aK K (rc c))] ++ [aY (bF c KC) (fun L=>bH KC L)] ++qn Y ((hlf c lo hi).1) ++qn Y ((hlf c lo hi).2)))):=by
 refine aC.l9 (fC Tryz.func45 rfl rfl) (p:=Db K c∧Qb X lo∧Qb X hi) (fun B w vs h=>match vs,h with | [_],⟨⟨cs,_,hl⟩,_⟩=>O3 hA.z hl) (fun hb=>?_);have hlc:=dK c;refine aH aj 25 [.cell 2 51] Tryz.func45 rfl rfl rfl rfl rfl<|cR<|mN aj (.box 51 ([.row 4 (lg c) (aK K (rc c))] ++ [aY (bF c KC) (fun L=>bH KC L)] ++qn X lo ++qn X hi)) rfl rfl rfl<|mN aj (.box 51 ([.v (.slice none 0 0),.v (.slice none 0 0),.v (.slice none 0 0),.v (.bool false),.v (.slice none 0 0),.v (.bool false),.v (.slice none 0 0),.v (.bool false),.v (.slice none 0 0),.v (.bool false)])) rfl rfl rfl<|mT<|au<|cR<|mW rfl<|aU (Fh (K:=K) (KC:=KC) (X:=X) (Y:=X) (c:=c) (lo:=lo) (hi:=hi) (by omega) (by omega)) rfl rfl rfl<|mT<|aW rfl (fun hc1=>?_) (fun hc1=>?_)
 ·exact cR<|mW rfl<|mS aj 2 (.box 51 ([.row 4 (lg c) (aK K (rc c))] ++ [aY (bF c KC) (fun L=>bH KC L)] ++qn X lo ++qn X hi)) rfl<|mT<|aO<|tR<|rQ rfl (by have he:lo=hi:=of_decide_eq_true hc1;rw [← (hC.half hA hex).1,show qhl c lo hi=(lo,hi) from if_pos he];exact akc (K:=K) (KC:=KC) (X:=X) (Y:=Y) (c:=c) (lo:=lo) (hi:=hi) (iO hb.2.1 hXY) (iO hb.2.2 hXY))
 ·refine aF<|tN<|au ?_;have hne:¬ lo=hi:=of_decide_eq_false hc1;have hlt:lo < hi:=by have:=hA.le;grind
  refine aA<|mv4 rfl rfl rfl rfl<|aU (WV (lq X lo) (lq X hi) (M:=(((max X 64)+X)+200)) (by omega) (by omega)) rfl rfl rfl<|mN aj (.box 49 ([.v (.slice none 0 0),.v (.bool false),.v (.slice none 0 0),.v (.bool false)])) rfl rfl rfl<|mS aj 3 (.box 49 (qn (((max X 64)+X)+200) ((lo+hi) / 2))) rfl<|mT<|au<|au<|wB [3,11,10,9,8,7,5,4,2,1,0] [2,1] 3 (.box 49 (qn Y ((lo+hi) / 2))) rfl rfl (LG rfl hm) rfl<|aA<|mv5 rfl rfl rfl rfl rfl<|aU (RZ (KC:=KC) (X:=X) (Y:=Y) (c:=c) (lo:=lo) (hi:=((lo+hi) / 2)) (by grind) (by omega) (by omega) (by omega)) rfl rfl rfl<|mW rfl<|mT<|aW rfl (fun hc2=>?_) (fun hc2=>?_)
  ·exact aA<|mv2 rfl rfl<|mS aj 1 (.box 51 ([.row 4 (lg c) (aK K (rc c))] ++ [aY (bF c KC) (fun L=>bH KC L)] ++qn X lo ++qn Y ((lo+hi) / 2))) rfl<|mT<|au<|wB [20,19,18,17,16,15,14,13,12,3,11,10,9,8,7,5,4,2,1,0] [3,2] 1 (.box 51 ([.row 4 (lg c) (aK K (rc c))] ++ [aY (bF c KC) (fun L=>bH KC L)] ++qn Y lo ++qn Y ((lo+hi) / 2))) rfl rfl (iY (gK (gK (fun B w cs h=>h) (eX (iO hb.2.1 hXY))) (eX hm))) rfl<|aA<|mW rfl<|aU (Fg (K:=K) (KC:=KC) (X:=Y) (c:=c) (lo:=lo) (hi:=((lo+hi) / 2)) (hA.z) (by omega) (by omega)) rfl rfl rfl<|mS aj 2 (.box 51 ([.row 4 (lg c) (aK K (rc c))] ++ [aY (bF c KC) (fun L=>bH KC L)] ++qn Y ((zH c lo ((lo+hi) / 2)).1) ++qn Y ((zH c lo ((lo+hi) / 2)).2))) rfl<|mT<|aO<|rQ rfl (by rw [← (hC.half hA hex).1];unfold qhl;rw [if_neg hne,if_pos (show 0 < fP c lo ((lo+hi) / 2) by have h0:=of_decide_eq_true hc2;omega)];exact AV.le.rfl)
  ·exact aA<|mv2 rfl rfl<|mS aj 1 (.box 51 ([.row 4 (lg c) (aK K (rc c))] ++ [aY (bF c KC) (fun L=>bH KC L)] ++qn Y ((lo+hi) / 2) ++qn X hi)) rfl<|mT<|au<|wB [22,21,18,17,16,15,14,13,12,3,11,10,9,8,7,5,4,2,1,0] [3,2] 1 (.box 51 ([.row 4 (lg c) (aK K (rc c))] ++ [aY (bF c KC) (fun L=>bH KC L)] ++qn Y ((lo+hi) / 2) ++qn Y hi)) rfl rfl (iY (gK (gK (fun B w cs h=>h) (eX hm)) (eX (iO hb.2.2 hXY)))) rfl<|aA<|mW rfl<|aU (Fg (K:=K) (KC:=KC) (X:=Y) (c:=c) (lo:=((lo+hi) / 2)) (hi:=hi) (hA.z) (by omega) (by omega)) rfl rfl rfl<|mS aj 2 (.box 51 ([.row 4 (lg c) (aK K (rc c))] ++ [aY (bF c KC) (fun L=>bH KC L)] ++qn Y ((zH c ((lo+hi) / 2) hi).1) ++qn Y ((zH c ((lo+hi) / 2) hi).2))) rfl<|mT<|aO<|rQ rfl (by rw [← (hC.half hA hex).1];unfold qhl;rw [if_neg hne,if_neg (show ¬ 0 < fP c lo ((lo+hi) / 2) by have h0:=of_decide_eq_false hc2;omega)];exact AV.le.rfl)
theorem nO{K KC X Y:Nat}{c:Nat→Int}{lo hi t:Rat}(hC:yO c)(hA:sH c lo hi)(hK:K≤100000:=by omega)(ny:KC≤100000:=by omega)(hX:X≤100000:=by omega)(hY:max K KC+Y≤476000:=by omega):aC Tryz.prog 42 [.agg ([.row 4 (lg c) (aK K (rc c))] ++ [aY (bF c KC) (fun L=>bH KC L)] ++qn X lo ++qn X hi),.agg (qn Y t)] (.d (.one (.v (.int .i64 (cZ (bJ c lo hi) (fE t)))))):=by
 have hlc:=dK c;refine aN 33 [.tmp 4] Tryz.func42 rfl<|cR<|mO rfl<|mO rfl<|mW rfl<|mT<|au<|cR<|mW rfl<|mY Fh rfl<|mT<|aW rfl (fun hc1=>?_) (fun hc1=>?_)
 ·exact cR<|mv3 rfl rfl rfl<|mY (lZ (lq X lo) (lq Y t)) rfl<|mW rfl<|mT<|aO<|tR<|rQ rfl (by have he:lo=hi:=of_decide_eq_true hc1;exact aG (by rw [← hC.rat hA];unfold crQ;rw [if_pos he]))
 ·refine aF<|tN<|au<|au ?_;have hne:¬ lo=hi:=of_decide_eq_false hc1;have hlt:lo < hi:=by have:=hA.le;grind
  refine aA<|mv3 rfl rfl rfl<|mY (lZ (lq Y t) (lq X lo)) rfl<|mW rfl<|mT<|aW rfl (fun hc2=>?_) (fun hc2=>?_)
  ·exact cR<|mW rfl<|mT<|aO<|tR<|rQ rfl (by have h1:t≤lo:=by {have h0:=of_decide_eq_true hc2;exact dP.1 (by omega)};exact aG (by rw [← hC.rat hA];unfold crQ;rw [if_neg hne,if_pos h1]))
  ·refine aF<|tN<|au<|au ?_;have h1:¬ t≤lo:=fun k=>by have h0:=of_decide_eq_false hc2;have:=dP.2 k;omega
   refine aA<|mv3 rfl rfl rfl<|mY (lZ (lq Y t) (lq X hi)) rfl<|mW rfl<|mT<|aW rfl (fun hc3=>?_) (fun hc3=>?_)
   ·exact cR<|mW rfl<|mT<|aO<|tR<|rQ rfl (by have h2:hi < t:=by {have h0:=of_decide_eq_true hc3;apply Classical.byContradiction;intro k;have:=dP.2 (show t≤hi by grind);omega};exact aG (by rw [← hC.rat hA];unfold crQ;rw [if_neg hne,if_neg h1,if_pos h2]))
   ·refine aF<|tN<|au<|au ?_;have h2:¬ hi < t:=fun k=>by have h0:=of_decide_eq_false hc3;have:=sS k;omega
    refine aA<|mv5 rfl rfl rfl rfl rfl<|mY (RZ (by grind)) rfl<|mW rfl<|mT<|aW rfl (fun hc4=>?_) (fun hc4=>?_)
    ·exact cR<|mW rfl<|mT<|aO<|tR<|rQ rfl (by have h3:fP c lo t=0:=by {have h0:=eq_of_beq hc4;omega};exact aG (by rw [← hC.rat hA];unfold crQ;rw [if_neg hne,if_neg h1,if_neg h2,if_pos h3]))
    ·refine aF<|tN<|au<|cR<|mv3 rfl rfl rfl<|mY (Bq (hA.z) rfl) rfl<|mW rfl<|mT<|aW rfl (fun hc5=>?_) (fun hc5=>?_)
     ·exact cR<|mW rfl<|mT<|aO<|tR<|rQ rfl (by have h3:¬ fP c lo t=0:=by {have h0:=beq_eq_false_iff_ne.1 hc4;omega};have h4:=eq_of_beq hc5;exact aG (by rw [← hC.rat hA];unfold crQ;rw [if_neg hne,if_neg h1,if_neg h2,if_neg h3,if_pos h4]))
     ·exact aF<|tN<|cR<|mW rfl<|mT<|aO<|rQ rfl (by have h3:¬ fP c lo t=0:=by {have h0:=beq_eq_false_iff_ne.1 hc4;omega};have h4:=beq_eq_false_iff_ne.1 hc5;exact aG (by rw [← hC.rat hA];unfold crQ;rw [if_neg hne,if_neg h1,if_neg h2,if_neg h3,if_neg h4]))
def uO(K:Nat)(c:Nat→Int)(KC X:Nat)(l:List (Rat×Rat)):Nat→Nat→Lf:=fun i j=>((qac K c KC X (l.getD i (0,0)).1 X (l.getD i (0,0)).2)[j]?).getD (.v undef)
section
variable {e:TypeId} {K:Nat} {c:Nat→Int} {KC X:Nat}
theorem YX{p:Rat×Rat}{el2:Nat→Nat→Lf}(h:∀ j,j < 10→el2 0 j=((qac K c KC X p.1 X p.2)[j]?).getD (.v undef)):AO.le (.row e 10 1 el2) (.row e 10 [p].length (uO K c KC X [p])):=fV fun i hi j hj B w v hv=>by
 obtain rfl:i=0:=by omega
 rw [h j hj] at hv;exact hv
theorem YV{l l2:List (Rat×Rat)}:AO.le (.row e 10 (l.length+l2.length) (fB l.length (uO K c KC X l) (uO K c KC X l2))) (.row e 10 (l ++l2).length (uO K c KC X (l ++l2))):=by
 rw [List.length_append];refine fV fun i hi j hj B w v hv=>?_
 unfold fB at hv
 by_cases h:i < l.length
 ·rw [show Nat.ble (i+1) l.length=true from Nat.ble_eq_true_of_le h] at hv
  have e2:(l ++l2).getD i (0,0)=l.getD i (0,0):=by rw [List.getD_eq_getElem?_getD,List.getD_eq_getElem?_getD,List.getElem?_append_left h]
  unfold uO;rw [e2];exact hv
 ·rw [show Nat.ble (i+1) l.length=false from by rw [← Bool.not_eq_true,Nat.ble_eq];omega] at hv
  have e2:(l ++l2).getD i (0,0)=l2.getD (i-l.length) (0,0):=by rw [List.getD_eq_getElem?_getD,List.getD_eq_getElem?_getD,List.getElem?_append_right (by omega)]
  unfold uO;rw [e2];exact hv
end
theorem Tb.qb{K L:Nat}{q:Rat}(h:Tb K q)(k:3*K≤L):Qb L q:=⟨Nat.lt_of_lt_of_le (Nat.lt_of_lt_of_le h.1 (Qp K)) (Nat.pow_le_pow_right (by decide) k),Nat.lt_of_lt_of_le (Nat.lt_of_lt_of_le h.2 (Qp K)) (Nat.pow_le_pow_right (by decide) k)⟩
theorem Qb.tb{K L:Nat}{q:Rat}(h:Qb (2*K) q)(k:K≤L):Tb L q:=wO ⟨Nat.lt_of_lt_of_le h.1 (Qq K),Nat.lt_of_lt_of_le h.2 (Qq K)⟩ k
theorem Dz.mid{L J:Nat}{p q:Rat}(h:Dz L J p q):Dz L (J+1) p ((p+q) / 2)∧Dz L (J+1) ((p+q) / 2) q:=by
 obtain ⟨D,R,a,b,c,d,e⟩:=h.e;have hm:=d.mid e;exact ⟨⟨D,R,a,b,c,d.mono (Nat.le_succ _),hm⟩,⟨D,R,a,b,c,hm,e.mono (Nat.le_succ _)⟩⟩
theorem Dz.qb{L J X:Nat}{p q:Rat}(h:Dz L J p q)(hX:3*(3*L+J / 32+1)≤X):Qb X p∧Qb X q:=by
 obtain ⟨a,b⟩:=h.tb (Nat.le_refl _);exact ⟨a.qb hX,b.qb hX⟩
/-- An interval on the way down. -/
structure SpI(c:Nat→Int)(h1 L J d:Nat)(lo hi:Rat):Prop where
 le:lo≤hi
 l: -(t2 (h1+1))≤lo
 h:hi≤t2 (h1+1)
 w:(hi-lo)*t2 (lS (lg c) (lg c) h1 h1)≤t2 d
 d:Dz L J lo hi
theorem SpI.down{c:Nat→Int}{h1 L J d:Nat}{lo hi:Rat}(h:SpI c h1 L J (d+1) lo hi):SpI c h1 L (J+1) d lo ((lo+hi) / 2)∧SpI c h1 L (J+1) d ((lo+hi) / 2) hi:=by
 obtain ⟨a1,a2,a3,a4,a5⟩:=h;obtain ⟨m,hm⟩:∃ m,m=(lo+hi) / 2:=⟨_,rfl⟩
 have hd:=a5.mid;rw [← hm] at hd ⊢;have hE:=iq (lS (lg c) (lg c) h1 h1);have e2:t2 (d+1)=t2 d*2:=by rw [jv d 1];rfl
 have w1:m-lo=(hi-lo) / 2:=by grind
 have w2:hi-m=(hi-lo) / 2:=by grind
 refine ⟨⟨by grind,a2,by grind,?_,hd.1⟩,⟨by grind,by grind,a3,?_,hd.2⟩⟩
 ·rw [w1];rw [e2] at a4;grind
 ·rw [w2];rw [e2] at a4;grind
theorem SpI.ok{c:Nat→Int}{h1 L J d:Nat}{lo hi:Rat}(h:SpI c h1 L J d lo hi)(hC:yO c)(b1:∀ i,(c i).natAbs≤2^h1):SpP c lo hi (JY c (d+1) lo hi):=aha hC b1 d lo hi h.le h.l h.h h.w
theorem am8{c:Nat→Int}{n:Nat}{lo hi:Rat}(h:fP c lo hi=0):JY c (n+1) lo hi= []:=if_pos h
theorem am9{c:Nat→Int}{n:Nat}{lo hi:Rat}(h:fP c lo hi=1):JY c (n+1) lo hi= [zH c lo hi]:=by
 show (if fP c lo hi=0 then [] else _)=_
 rw [if_neg (by omega),if_pos h]
theorem ana{c:Nat→Int}{n:Nat}{lo hi:Rat}(h0:¬ fP c lo hi=0)(h1:¬ fP c lo hi=1):JY c (n+1) lo hi=JY c n lo ((lo+hi) / 2) ++JY c n ((lo+hi) / 2) hi:=by
 show (if fP c lo hi=0 then [] else _)=_
 rw [if_neg h0,if_neg h1]
/-- How deep. -/
def rtD(c:Nat→Int)(h1:Nat):Nat:=lS (lg c) (lg c) h1 h1+h1+2
/-- ALL ROOTS. -/
noncomputable def rtF(c:Nat→Int)(h1:Nat):List (Rat×Rat):=JY c (rtD c h1+1) (-(AY c)) (AY c)
theorem Iy{c:Nat→Int}{h1 L:Nat}(hC:yO c)(b1:∀ i,(c i).natAbs≤2^h1)(hL:Tb L (AY c)):SpI c h1 L 0 (rtD c h1) (-(AY c)) (AY c):=by
 have h0:lg c≠0:=by have:=hC.l2;omega
 have g1:=Qv h0;have g2:=aff h0 b1;have hp:=MV h1;have e1:((2^h1:Nat):Rat)=t2 h1:=by unfold t2;rfl
 have e2:t2 (h1+1)=t2 h1*2:=by rw [jv h1 1];rfl
 rw [e1] at g2;have hE:=iq (lS (lg c) (lg c) h1 h1);refine ⟨by grind,by rw [e2];grind,by rw [e2];grind,?_,xJ ?_ hL⟩
 ·have w1:AY c- -(AY c)≤t2 (h1+2):=by rw [show h1+2=h1+1+1 from rfl,jv (h1+1) 1,e2,show t2 1=2 from rfl];grind
  have:=Rat.mul_le_mul_of_nonneg_right w1 (show 0≤t2 (lS (lg c) (lg c) h1 h1) by grind);unfold rtD;rw [Nat.add_assoc,jv (lS _ _ _ _) (h1+2)];grind
 ·exact ⟨by rw [Rat.neg_num,Int.natAbs_neg];exact hL.1,by rw [Rat.neg_den];exact hL.2⟩
/-- What all roots are. -/
structure RtP(c:Nat→Int)(l:List (Rat×Rat)):Prop where
 ok:∀ p∈l,uD c p.1 p.2∧EX c p.1 p.2
 all:∀ C,dV C→VC (FF c) C→∃ p∈l,∀ q,bJ c p.1 p.2 q↔C q
 rise:l.Pairwise fun p q=>cZ (bJ c p.1 p.2) (bJ c q.1 q.2)= -1
 len:l.length=fP c (-(AY c)) (AY c)
theorem aes{c:Nat→Int}{h1 L:Nat}(hC:yO c)(b1:∀ i,(c i).natAbs≤2^h1)(hL:Tb L (AY c)):RtP c (rtF c h1):=by
 have h:=(Iy hC b1 hL).ok hC b1;exact ⟨fun p hp=>⟨(h.ok p hp).1,(h.ok p hp).2.1⟩,fun C hI v=>by
  obtain ⟨k1,k2⟩:=afg hC.z (by have:=hC.l2;omega) hI v;exact h.all C hI v k1 k2,h.rise,h.len⟩
theorem OA{t:TypeId}{K:Nat}{z:Int}:AO.le (.box t ([dn K (Int.natAbs (Rat.num ((z:Int):Rat))),.v (.bool false)] ++rn K ((Rat.den ((z:Int):Rat):Nat):Int))) (.box t (qn K ((Int.natAbs z:Nat):Rat))):=by
 have e: [dn K (Int.natAbs (Rat.num ((z:Int):Rat))),.v (.bool false)] ++rn K ((Rat.den ((z:Int):Rat):Nat):Int)=qn K ((Int.natAbs z:Nat):Rat):=by
  unfold qn;rw [Rat.num_intCast,Rat.den_intCast,Rat.num_natCast,Rat.den_natCast];show _= [dn K (Int.natAbs ((z.natAbs:Nat):Int)),.v (.bool (decide (((z.natAbs:Nat):Int) < 0)))] ++_
  rw [Int.natAbs_natCast,decide_eq_false (show ¬ ((z.natAbs:Nat):Int) < 0 by omega)]
 rw [e];exact fun _ _ _ _ h=>h
theorem aa3{M Y:Nat}{c:Nat→Int}(zc:aZ c)(h2:2≤lg c)(hM:1≤M)(hM2:M≤100000)(hY:2*M+200≤Y):aC Tryz.prog 61 [.one (dJ M (lg c) (rc c))] (.d (.agg (qn Y (AY c)))):=by
 have hlc:=dK c;refine aN 43 [.cell 2 49] Tryz.func61 rfl<|cR<|mO rfl<|mT<|cR<|mY (DL) rfl<|mO rfl<|mZ rfl<|mT<|au<|cR<|mW rfl<|mT<|aJ<|dQ (ι:=Nat) (fun (i:Nat)=>⟨43,[(0,.d (.one (.row 4 (lg c) (aK M (rc c))))),(2,.ptr 2 0),(3,.ptr 3 0),(4,.d (.one (.v (.int .i64 ((i:Nat):Int)))))],[(2,.box 49 ([.v (.slice none 0 0),.v (.bool false),.v (.slice none 0 0),.v (.bool false)])),(3,.box 49 (qn M ((zM c i:Nat):Rat)))]⟩) (fun (i:Nat)=>i≤lg c-1) (fun (i:Nat)=>lg c-1-i) 0 (Nat.zero_le _) (wk rfl ⟨hs rfl,hs rfl,hs rfl,fM rfl (aG rfl),trivial⟩ ⟨ho rfl,dX rfl (LG rfl (ZT (z:=0) (Nat.pow_pos (by decide)) hM)),trivial⟩ rfl) ?_;rintro i hI;have hi:i≤lg c-1:=hI;show AW _ _ _ ⟨_,_,_⟩
 refine au<|cR<|mW rfl<|mV aj (.d (.one (.v (.int .i64 ((i+1:Nat):Int))))) (fH (dG (by omega)))<|mv3 rfl rfl rfl<|mT<|aW rfl (fun hc1=>?_) (fun hc1=>?_)
 ·refine aF<|tN<|au<|aJ<|au ?_;have hin:i+1 < lg c:=by have h0:=of_decide_eq_true hc1;omega
  refine aA<|mv2 rfl rfl<|mV aj (.d (.one (.at 4 ((aK M (rc c)) i)))) (lu (el:=(aK M (rc c))) (z:=((i:Nat):Int)) (n:=(lg c)) rfl rfl rfl rfl rfl rfl (by omega) (by omega)) ?_;refine mW rfl<|mO rfl<|mZ rfl<|mT<|cR<|mv2 rfl rfl<|mZ rfl<|mT<|au<|wB [20,19,5,18,17,16,15,12,11,10,9,8,4,3,2,0] [3,2] 5 (.box 49 (qn M ((Int.natAbs (c i):Nat):Rat))) rfl rfl (OA) rfl ?_;refine aA<|mv2 rfl rfl<|mY (lZ (lq M ((Int.natAbs (c i):Nat):Rat)) (lq M ((zM c i:Nat):Rat))) rfl<|mW rfl<|mT<|aW rfl (fun hc2=>?_) (fun hc2=>?_)
  ·exact aA<|mW rfl<|mZ rfl<|ak<|bN<|tN<|aA<|mv3 rfl rfl rfl<|ak<|⟨(i+1),by omega,by omega,wk rfl ⟨hs rfl,hs rfl,hs rfl,fM rfl (aG (dG (by omega))),trivial⟩ ⟨ho rfl,dX rfl (Q5 (Nat.le_refl _) (by have h0:=of_decide_eq_true hc2;have h1:(zM c i:Rat) < ((c i).natAbs:Rat):=(by apply Classical.byContradiction;intro k;have:=dP.2 (show ((c i).natAbs:Rat)≤(zM c i:Rat) by grind);omega);have h2:zM c i < (c i).natAbs:=(by exact_mod_cast h1);show ((c i).natAbs:Rat)=((max (zM c i) (c i).natAbs:Nat):Rat);rw [Nat.max_eq_right (by omega)])),trivial⟩ rfl⟩
  ·exact aF<|bN<|tN<|aA<|mv3 rfl rfl rfl<|ak<|⟨(i+1),by omega,by omega,wk rfl ⟨hs rfl,hs rfl,hs rfl,fM rfl (aG (dG (by omega))),trivial⟩ ⟨ho rfl,dX rfl (Q5 (Nat.le_refl _) (by have h0:=of_decide_eq_false hc2;have h1:((c i).natAbs:Rat)≤(zM c i:Rat):=(by apply Classical.byContradiction;intro k;have:=sS (show (zM c i:Rat) < ((c i).natAbs:Rat) by grind);omega);have h2:(c i).natAbs≤zM c i:=(by exact_mod_cast h1);show (zM c i:Rat)=((max (zM c i) (c i).natAbs:Nat):Rat);rw [Nat.max_eq_left (by omega)])),trivial⟩ rfl⟩
 ·refine dO<|tE<|tE<|bE<|tN<|au<|au ?_;have hie:i=lg c-1:=by have h0:=of_decide_eq_false hc1;omega
  subst hie;refine aA<|mv2 rfl rfl<|mdF rfl (by omega)<|mT<|cFs rfl<|cR<|mv3 rfl rfl rfl<|mV aj (.d (.one (.v (.int .i64 ((lg c-1:Nat):Int))))) (fH ((dS (by omega) (by omega)).trans (by omega)))<|mV aj (.d (.one (.at 4 ((aK M (rc c)) (lg c-1))))) (lu (el:=(aK M (rc c))) (z:=((lg c-1:Nat):Int)) (n:=(lg c)) rfl rfl rfl rfl rfl rfl (by omega) (by omega)) ?_;refine mW rfl<|mO rfl<|mZ rfl<|mT<|cR<|mv2 rfl rfl<|mZ rfl<|mT<|au<|wB [37,36,6,35,34,33,32,31,30,28,27,26,12,11,10,9,8,4,3,2,0] [3,2] 6 (.box 49 (qn M ((Int.natAbs (c (lg c-1)):Nat):Rat))) rfl rfl (OA) rfl ?_;exact cDk 5<|oC Gj rfl<|oV rfl<|oV rfl<|oC (KA (lq M ((zM c (lg c-1):Nat):Rat)) (lq M ((Int.natAbs (c (lg c-1)):Nat):Rat)) (by have h0:=Cm (c:=c) (by omega);grind) (M:=(max (M+M+1) 64))) rfl<|oC (Ky (lq 64 ((1:Int):Rat)) (lq (max (M+M+1) 64) (((zM c (lg c-1):Nat):Rat) / ((Int.natAbs (c (lg c-1)):Nat):Rat))) (M:=(max (64+(max (M+M+1) 64)+1) 64))) rfl<|.nil<|mZ rfl<|mT<|aO<|rQ rfl (uY (by omega) rfl)
theorem NG{K KC X L JM h1 J d:Nat}{c:Nat→Int}{lo hi:Rat}(hC:yO c)(b1:∀ i,(c i).natAbs≤2^h1)(hcb:∀ a b,a≤b→fP c a b≤1000000)(hI:SpI c h1 L J d lo hi)(hJ:J+d≤JM)(hX:3*(3*L+JM / 32+1)≤X)(hX1:X≤90000)(hK:K≤100000)(ny:KC≤100000)(ih:∀ d',d=d'+1→∀ lo hi J,SpI c h1 L J d' lo hi→J+d'≤JM→zU Tryz.prog 62 [.one (dJ K (lg c) (rc c)),.one (aY (bF c KC) (fun L=>bH KC L)),.agg (qn X lo),.agg (qn X hi)] 51 10 (JY c (d'+1) lo hi).length (uO K c KC X (JY c (d'+1) lo hi))):zU Tryz.prog 62 [.one (dJ K (lg c) (rc c)),.one (aY (bF c KC) (fun L=>bH KC L)),.agg (qn X lo),.agg (qn X hi)] 51 10 (JY c (d+1) lo hi).length (uO K c KC X (JY c (d+1) lo hi)):=by
 have hlc:=dK c;refine afb aj 40 8 Tryz.func62 rfl rfl rfl rfl rfl<|cR<|mO rfl<|mO rfl<|mW rfl<|mT<|cR<|mv3 rfl rfl rfl<|mY (RZ hI.le) rfl<|mW rfl<|mT<|au<|au ?_
 by_cases hn0:fP c lo hi=0
 ·exact aA<|mW rfl<|mbT rfl (beq_iff_eq.2 (by omega))<|mT<|cT rfl<|cR<|mW rfl<|AL.wk (qC 8 8 51 10 (fun _ _=> .v undef) rfl rfl)<|mT<|aO<|tR<|rR 8 (by rfl) (by rfl) (by rw [am8 hn0];exact iL (el:=fun _ _=> .v undef))
 ·by_cases hn1:fP c lo hi=1
  ·exact aA<|mW rfl<|mbF rfl (beq_eq_false_iff_ne.2 (by omega))<|mT<|cFs rfl<|au<|cR<|mW rfl<|mbT rfl (beq_iff_eq.2 (by omega))<|mT<|cT rfl<|cR<|mv5 rfl rfl rfl rfl rfl<|mY (Fg (hC.z)) rfl<|mR aj (.row 51 10 1 (fun i' j'=>(([.row 4 (lg c) (aK K (rc c))] ++ [aY (bF c KC) (fun L=>bH KC L)] ++qn X ((zH c lo hi).1) ++qn X ((zH c lo hi).2))[i'*10+j']?).getD (.v undef))) rfl rfl rfl<|mW rfl<|mT<|aO<|tR<|rR 25 rfl rfl (by rw [am9 hn1];exact YX (fun j hj=>by show (_[0*10+j]?).getD _=_;rw [Nat.zero_mul,Nat.zero_add];rfl))
  ·obtain ⟨d',rfl⟩:∃ d',d=d'+1:=by
    cases d with
    | zero=>exfalso;have h9:=JZ hC b1 hI.le hI.l hI.h (by have:=hI.w;rw [show t2 0=1 from rfl] at this;exact this);omega
    | succ d=>exact ⟨d,rfl⟩
   obtain ⟨i1,i2⟩:=hI.down;have hq:=(i1.d.qb (X:=X) (by omega)).2;refine aA<|mW rfl<|mbF rfl (beq_eq_false_iff_ne.2 (by omega))<|mT<|cFs rfl<|au<|cR<|mW rfl<|mbF rfl (beq_eq_false_iff_ne.2 (by omega))<|mT<|cFs rfl<|cR<|mv2 rfl rfl<|mY (WV (lq X lo) (lq X hi) (M:=(((max X 64)+X)+200))) rfl<|mO rfl<|mZ rfl<|mT<|au<|wB [10,28,27,26,18,17,16,15,9,14,13,12,11,8,7,6,3,2,1,0] [7,6] 10 (.box 49 (qn X ((lo+hi) / 2))) rfl rfl (LG rfl hq) rfl<|wK [10,7,6,1,0] [10,7,6] rfl rfl ?_;obtain ⟨l1,hl1⟩:∃ l,l=JY c (d'+1) lo ((lo+hi) / 2):=⟨_,rfl⟩
   have cl1:=ih d' rfl lo ((lo+hi) / 2) (J+1) i1 (by omega);have nl1:l1.length≤1000000:=by have h8:=(i1.ok hC b1).len;have h7:=hcb _ _ i1.le;rw [← hl1] at h8;omega
   rw [← hl1] at cl1;obtain ⟨l2,hl2⟩:∃ l,l=JY c (d'+1) ((lo+hi) / 2) hi:=⟨_,rfl⟩
   have cl2:=ih d' rfl ((lo+hi) / 2) hi (J+1) i2 (by omega);have nl2:l2.length≤1000000:=by have h8:=(i2.ok hC b1).len;have h7:=hcb _ _ i2.le;rw [← hl2] at h8;omega
   rw [← hl2] at cl2;refine adG (by kernel_rfl)<|wR 0 rfl (by kernel_rfl) (by kernel_rfl) (by kernel_rfl) (fun _ _ h=>h) rfl rfl (av:= .d (.one (.row 4 (lg c) (aK K (rc c))))) (CQ rfl rfl)<|wR 1 rfl (by kernel_rfl) (by kernel_rfl) (by kernel_rfl) (fun _ _ h=>h) rfl rfl (av:= .d (.one (aY (bF c KC) (fun L=>bH KC L)))) (CQ rfl rfl)<|wR 5 rfl (by kernel_rfl) (by kernel_rfl) (by kernel_rfl) (fun _ _ h=>h) rfl rfl (av:= .d (.one (.row 4 (lg c) (aK K (rc c))))) (CQ rfl rfl)<|wR 6 rfl (by kernel_rfl) (by kernel_rfl) (by kernel_rfl) (fun _ _ h=>h) rfl rfl (av:= .d (.one (aY (bF c KC) (fun L=>bH KC L)))) (CQ rfl rfl)<|bOf<|jd 1 #[true,true,true,true,true,true,true,true,true,true,true,false] ⟨40,[(0,.d (.one (.row 4 (lg c) (aK K (rc c))))),(1,.d (.one (aY (bF c KC) (fun L=>bH KC L)))),(6,.ptr 6 0),(7,.ptr 7 0),(10,.ptr 10 0),(29,.d (.one (.row 4 (lg c) (aK K (rc c))))),(30,.d (.one (aY (bF c KC) (fun L=>bH KC L)))),(34,.d (.one (.row 4 (lg c) (aK K (rc c))))),(35,.d (.one (aY (bF c KC) (fun L=>bH KC L)))),(31,.d (.agg (qn X lo))),(32,.d (.agg (qn X ((lo+hi) / 2)))),(33,.dead),(36,.d (.agg (qn X ((lo+hi) / 2)))),(37,.d (.agg (qn X hi))),(38,.d (.one (.row 10 l2.length (uO K c KC X l2)))),(39,.own 33)],[(6,.box 49 (qn X lo)),(7,.box 49 (qn X hi)),(10,.box 49 (qn X ((lo+hi) / 2))),(33,.row 51 10 (l1.length+l2.length) (fB l1.length (uO K c KC X l1) (uO K c KC X l2)))]⟩ ?_ (fun G5=>?_)
   ·refine oG [11] (by kernel_rfl) rfl ?_;refine ⟨⟨_,rfl,?_⟩,trivial⟩
    ·exact mW rfl<|mT<|aii (by kernel_rfl)<|tN<|aO<|rR 33 rfl rfl (by rw [ana hn0 hn1];rw [← hl1,← hl2];exact YV)
   refine jd 2 #[true,true,true,true,true,true,true,true,true,true,false,false] ⟨40,[(0,.d (.one (.row 4 (lg c) (aK K (rc c))))),(1,.d (.one (aY (bF c KC) (fun L=>bH KC L)))),(6,.ptr 6 0),(7,.ptr 7 0),(10,.ptr 10 0),(29,.d (.one (.row 4 (lg c) (aK K (rc c))))),(30,.d (.one (aY (bF c KC) (fun L=>bH KC L)))),(34,.d (.one (.row 4 (lg c) (aK K (rc c))))),(35,.d (.one (aY (bF c KC) (fun L=>bH KC L)))),(31,.d (.agg (qn X lo))),(32,.d (.agg (qn X ((lo+hi) / 2)))),(33,.own 33),(36,.d (.agg (qn X ((lo+hi) / 2)))),(37,.d (.agg (qn X hi))),(38,.own 38)],[(6,.box 49 (qn X lo)),(7,.box 49 (qn X hi)),(10,.box 49 (qn X ((lo+hi) / 2))),(33,.row 51 10 l1.length (uO K c KC X l1)),(38,.row 51 10 l2.length (uO K c KC X l2))]⟩ ?_ (fun GZ=>?_)
   ·refine oG [10] (by kernel_rfl) rfl ?_;refine ⟨⟨_,rfl,?_⟩,trivial⟩
    ·exact AL.wk (jf 38 rfl)<|mA aj (id:=33) (n:=l1.length) (m:=l2.length) (el:=(uO K c KC X l1)) (el2:=(uO K c KC X l2)) rfl rfl rfl (by show (l1.length+l2.length)*176≤140737488355328;omega) (by omega) rfl rfl rfl rfl rfl rfl rfl rfl rfl rfl<|mT<|anyV G5 11 [] (by kernel_rfl) (wkr rfl rfl)
   refine jd 3 #[true,true,true,true,true,true,true,true,true,false,false,false] ⟨40,[(0,.d (.one (.row 4 (lg c) (aK K (rc c))))),(1,.d (.one (aY (bF c KC) (fun L=>bH KC L)))),(6,.ptr 6 0),(7,.ptr 7 0),(10,.ptr 10 0),(29,.d (.one (.row 4 (lg c) (aK K (rc c))))),(30,.d (.one (aY (bF c KC) (fun L=>bH KC L)))),(34,.d (.one (.row 4 (lg c) (aK K (rc c))))),(35,.d (.one (aY (bF c KC) (fun L=>bH KC L)))),(31,.d (.agg (qn X lo))),(32,.d (.agg (qn X ((lo+hi) / 2)))),(33,.own 33),(36,.d (.agg (qn X ((lo+hi) / 2)))),(37,.d (.agg (qn X hi)))],[(6,.box 49 (qn X lo)),(7,.box 49 (qn X hi)),(10,.box 49 (qn X ((lo+hi) / 2))),(33,.row 51 10 l1.length (uO K c KC X l1))]⟩ ?_ (fun rD=>?_)
   ·refine oG [9] (by kernel_rfl) rfl ?_;refine ⟨⟨_,rfl,?_⟩,trivial⟩
    ·exact mCR cl2 rfl rfl rfl rfl rfl<|mT<|anyV GZ 10 [] (by kernel_rfl) (wkr rfl rfl)
   refine jd 4 #[true,true,true,true,true,true,true,false,true,false,false,false] ⟨40,[(0,.d (.one (.row 4 (lg c) (aK K (rc c))))),(1,.d (.one (aY (bF c KC) (fun L=>bH KC L)))),(6,.ptr 6 0),(7,.ptr 7 0),(10,.ptr 10 0),(29,.d (.one (.row 4 (lg c) (aK K (rc c))))),(30,.d (.one (aY (bF c KC) (fun L=>bH KC L)))),(34,.d (.one (.row 4 (lg c) (aK K (rc c))))),(35,.d (.one (aY (bF c KC) (fun L=>bH KC L)))),(31,.d (.agg (qn X lo))),(32,.d (.agg (qn X ((lo+hi) / 2)))),(33,.own 33),(37,.d (.agg (qn X hi)))],[(6,.box 49 (qn X lo)),(7,.box 49 (qn X hi)),(10,.box 49 (qn X ((lo+hi) / 2))),(33,.row 51 10 l1.length (uO K c KC X l1))]⟩ ?_ (fun x9=>?_)
   ·refine oG [7] (by kernel_rfl) rfl ?_;refine ⟨⟨_,rfl,?_⟩,trivial⟩
    ·exact mW rfl<|mT<|anyV rD 9 [] (by kernel_rfl) (wkr rfl rfl)
   refine jd 4 #[true,true,true,true,true,true,true,true,false,false,false,false] ⟨40,[(0,.d (.one (.row 4 (lg c) (aK K (rc c))))),(1,.d (.one (aY (bF c KC) (fun L=>bH KC L)))),(6,.ptr 6 0),(7,.ptr 7 0),(10,.ptr 10 0),(29,.d (.one (.row 4 (lg c) (aK K (rc c))))),(30,.d (.one (aY (bF c KC) (fun L=>bH KC L)))),(34,.d (.one (.row 4 (lg c) (aK K (rc c))))),(35,.d (.one (aY (bF c KC) (fun L=>bH KC L)))),(31,.d (.agg (qn X lo))),(32,.d (.agg (qn X ((lo+hi) / 2)))),(33,.own 33),(36,.d (.agg (qn X ((lo+hi) / 2))))],[(6,.box 49 (qn X lo)),(7,.box 49 (qn X hi)),(10,.box 49 (qn X ((lo+hi) / 2))),(33,.row 51 10 l1.length (uO K c KC X l1))]⟩ ?_ (fun yc=>?_)
   ·refine oG [8] (by kernel_rfl) rfl ?_;refine ⟨⟨_,rfl,?_⟩,trivial⟩
    ·exact mW rfl<|mT<|anyV rD 9 [] (by kernel_rfl) (wkr rfl rfl)
   refine jd 4 #[true,true,true,true,false,true,true,true,true,false,false,false] ⟨40,[(0,.d (.one (.row 4 (lg c) (aK K (rc c))))),(1,.d (.one (aY (bF c KC) (fun L=>bH KC L)))),(6,.ptr 6 0),(7,.ptr 7 0),(10,.ptr 10 0),(29,.d (.one (.row 4 (lg c) (aK K (rc c))))),(30,.d (.one (aY (bF c KC) (fun L=>bH KC L)))),(34,.d (.one (.row 4 (lg c) (aK K (rc c))))),(35,.d (.one (aY (bF c KC) (fun L=>bH KC L)))),(31,.d (.agg (qn X lo))),(32,.d (.agg (qn X ((lo+hi) / 2)))),(36,.d (.agg (qn X ((lo+hi) / 2)))),(37,.d (.agg (qn X hi)))],[(6,.box 49 (qn X lo)),(7,.box 49 (qn X hi)),(10,.box 49 (qn X ((lo+hi) / 2)))]⟩ ?_ (fun nS=>?_)
   ·refine oG [4] (by kernel_rfl) rfl ?_;refine ⟨⟨_,rfl,?_⟩,trivial⟩
    ·exact mCR cl1 rfl rfl rfl rfl rfl<|mT<|anyV rD 9 [] (by kernel_rfl) (wkr rfl rfl)
   refine jd 5 #[true,true,true,true,false,true,true,true,false,false,false,false] ⟨40,[(0,.d (.one (.row 4 (lg c) (aK K (rc c))))),(1,.d (.one (aY (bF c KC) (fun L=>bH KC L)))),(6,.ptr 6 0),(7,.ptr 7 0),(10,.ptr 10 0),(29,.d (.one (.row 4 (lg c) (aK K (rc c))))),(30,.d (.one (aY (bF c KC) (fun L=>bH KC L)))),(34,.d (.one (.row 4 (lg c) (aK K (rc c))))),(35,.d (.one (aY (bF c KC) (fun L=>bH KC L)))),(31,.d (.agg (qn X lo))),(32,.d (.agg (qn X ((lo+hi) / 2)))),(36,.d (.agg (qn X ((lo+hi) / 2))))],[(6,.box 49 (qn X lo)),(7,.box 49 (qn X hi)),(10,.box 49 (qn X ((lo+hi) / 2)))]⟩ ?_ (fun rC=>?_)
   ·refine oG [4,8] (by kernel_rfl) rfl ?_;refine ⟨⟨_,rfl,?_⟩,⟨_,rfl,?_⟩,trivial⟩
    ·exact mCR cl1 rfl rfl rfl rfl rfl<|mT<|anyV yc 8 [] (by kernel_rfl) (wkr rfl rfl)
    ·exact mW rfl<|mT<|anyV nS 4 [] (by kernel_rfl) (wkr rfl rfl)
   refine jd 5 #[true,true,true,false,false,true,true,true,true,false,false,false] ⟨40,[(0,.d (.one (.row 4 (lg c) (aK K (rc c))))),(1,.d (.one (aY (bF c KC) (fun L=>bH KC L)))),(6,.ptr 6 0),(7,.ptr 7 0),(10,.ptr 10 0),(29,.d (.one (.row 4 (lg c) (aK K (rc c))))),(30,.d (.one (aY (bF c KC) (fun L=>bH KC L)))),(34,.d (.one (.row 4 (lg c) (aK K (rc c))))),(35,.d (.one (aY (bF c KC) (fun L=>bH KC L)))),(31,.d (.agg (qn X lo))),(36,.d (.agg (qn X ((lo+hi) / 2)))),(37,.d (.agg (qn X hi)))],[(6,.box 49 (qn X lo)),(7,.box 49 (qn X hi)),(10,.box 49 (qn X ((lo+hi) / 2)))]⟩ ?_ (fun qZ=>?_)
   ·refine oG [3] (by kernel_rfl) rfl ?_;refine ⟨⟨_,rfl,?_⟩,trivial⟩
    ·exact mW rfl<|mT<|anyV nS 4 [] (by kernel_rfl) (wkr rfl rfl)
   refine jd 5 #[true,true,true,true,true,true,true,false,false,false,false,false] ⟨40,[(0,.d (.one (.row 4 (lg c) (aK K (rc c))))),(1,.d (.one (aY (bF c KC) (fun L=>bH KC L)))),(6,.ptr 6 0),(7,.ptr 7 0),(10,.ptr 10 0),(29,.d (.one (.row 4 (lg c) (aK K (rc c))))),(30,.d (.one (aY (bF c KC) (fun L=>bH KC L)))),(34,.d (.one (.row 4 (lg c) (aK K (rc c))))),(35,.d (.one (aY (bF c KC) (fun L=>bH KC L)))),(31,.d (.agg (qn X lo))),(32,.d (.agg (qn X ((lo+hi) / 2)))),(33,.own 33)],[(6,.box 49 (qn X lo)),(7,.box 49 (qn X hi)),(10,.box 49 (qn X ((lo+hi) / 2))),(33,.row 51 10 l1.length (uO K c KC X l1))]⟩ ?_ (fun GY=>?_)
   ·refine oG [7,8] (by kernel_rfl) rfl ?_;refine ⟨⟨_,rfl,?_⟩,⟨_,rfl,?_⟩,trivial⟩
    ·exact mW rfl<|mT<|anyV yc 8 [] (by kernel_rfl) (wkr rfl rfl)
    ·exact mW rfl<|mT<|anyV x9 7 [] (by kernel_rfl) (wkr rfl rfl)
   refine jd 5 #[true,true,true,true,false,true,true,false,true,false,false,false] ⟨40,[(0,.d (.one (.row 4 (lg c) (aK K (rc c))))),(1,.d (.one (aY (bF c KC) (fun L=>bH KC L)))),(6,.ptr 6 0),(7,.ptr 7 0),(10,.ptr 10 0),(29,.d (.one (.row 4 (lg c) (aK K (rc c))))),(30,.d (.one (aY (bF c KC) (fun L=>bH KC L)))),(34,.d (.one (.row 4 (lg c) (aK K (rc c))))),(35,.d (.one (aY (bF c KC) (fun L=>bH KC L)))),(31,.d (.agg (qn X lo))),(32,.d (.agg (qn X ((lo+hi) / 2)))),(37,.d (.agg (qn X hi)))],[(6,.box 49 (qn X lo)),(7,.box 49 (qn X hi)),(10,.box 49 (qn X ((lo+hi) / 2)))]⟩ ?_ (fun ru=>?_)
   ·refine oG [4,7] (by kernel_rfl) rfl ?_;refine ⟨⟨_,rfl,?_⟩,⟨_,rfl,?_⟩,trivial⟩
    ·exact mCR cl1 rfl rfl rfl rfl rfl<|mT<|anyV x9 7 [] (by kernel_rfl) (wkr rfl rfl)
    ·exact mW rfl<|mT<|anyV nS 4 [] (by kernel_rfl) (wkr rfl rfl)
   refine jd 5 #[true,true,false,true,false,true,true,true,true,false,false,false] ⟨40,[(0,.d (.one (.row 4 (lg c) (aK K (rc c))))),(1,.d (.one (aY (bF c KC) (fun L=>bH KC L)))),(6,.ptr 6 0),(7,.ptr 7 0),(10,.ptr 10 0),(29,.d (.one (.row 4 (lg c) (aK K (rc c))))),(30,.d (.one (aY (bF c KC) (fun L=>bH KC L)))),(34,.d (.one (.row 4 (lg c) (aK K (rc c))))),(35,.d (.one (aY (bF c KC) (fun L=>bH KC L)))),(32,.d (.agg (qn X ((lo+hi) / 2)))),(36,.d (.agg (qn X ((lo+hi) / 2)))),(37,.d (.agg (qn X hi)))],[(6,.box 49 (qn X lo)),(7,.box 49 (qn X hi)),(10,.box 49 (qn X ((lo+hi) / 2)))]⟩ ?_ (fun qY=>?_)
   ·refine oG [2] (by kernel_rfl) rfl ?_;refine ⟨⟨_,rfl,?_⟩,trivial⟩
    ·exact mW rfl<|mT<|anyV nS 4 [] (by kernel_rfl) (wkr rfl rfl)
   refine jd 6 #[true,true,false,true,false,true,true,true,false,false,false,false] ⟨40,[(0,.d (.one (.row 4 (lg c) (aK K (rc c))))),(1,.d (.one (aY (bF c KC) (fun L=>bH KC L)))),(6,.ptr 6 0),(7,.ptr 7 0),(10,.ptr 10 0),(29,.d (.one (.row 4 (lg c) (aK K (rc c))))),(30,.d (.one (aY (bF c KC) (fun L=>bH KC L)))),(34,.d (.one (.row 4 (lg c) (aK K (rc c))))),(35,.d (.one (aY (bF c KC) (fun L=>bH KC L)))),(32,.d (.agg (qn X ((lo+hi) / 2)))),(36,.d (.agg (qn X ((lo+hi) / 2))))],[(6,.box 49 (qn X lo)),(7,.box 49 (qn X hi)),(10,.box 49 (qn X ((lo+hi) / 2)))]⟩ ?_ (fun xW=>?_)
   ·refine oG [2,8] (by kernel_rfl) rfl ?_;refine ⟨⟨_,rfl,?_⟩,⟨_,rfl,?_⟩,trivial⟩
    ·exact mW rfl<|mT<|anyV rC 4 [8] (by kernel_rfl) (wkr rfl rfl)
    ·exact mW rfl<|mT<|anyV qY 2 [] (by kernel_rfl) (wkr rfl rfl)
   refine jd 6 #[true,true,true,false,false,true,true,false,true,false,false,false] ⟨40,[(0,.d (.one (.row 4 (lg c) (aK K (rc c))))),(1,.d (.one (aY (bF c KC) (fun L=>bH KC L)))),(6,.ptr 6 0),(7,.ptr 7 0),(10,.ptr 10 0),(29,.d (.one (.row 4 (lg c) (aK K (rc c))))),(30,.d (.one (aY (bF c KC) (fun L=>bH KC L)))),(34,.d (.one (.row 4 (lg c) (aK K (rc c))))),(35,.d (.one (aY (bF c KC) (fun L=>bH KC L)))),(31,.d (.agg (qn X lo))),(37,.d (.agg (qn X hi)))],[(6,.box 49 (qn X lo)),(7,.box 49 (qn X hi)),(10,.box 49 (qn X ((lo+hi) / 2)))]⟩ ?_ (fun xX=>?_)
   ·refine oG [3,7] (by kernel_rfl) rfl ?_;refine ⟨⟨_,rfl,?_⟩,⟨_,rfl,?_⟩,trivial⟩
    ·exact mW rfl<|mT<|anyV ru 4 [7] (by kernel_rfl) (wkr rfl rfl)
    ·exact mW rfl<|mT<|anyV qZ 3 [] (by kernel_rfl) (wkr rfl rfl)
   refine jd 6 #[true,true,true,false,false,true,true,true,false,false,false,false] ⟨40,[(0,.d (.one (.row 4 (lg c) (aK K (rc c))))),(1,.d (.one (aY (bF c KC) (fun L=>bH KC L)))),(6,.ptr 6 0),(7,.ptr 7 0),(10,.ptr 10 0),(29,.d (.one (.row 4 (lg c) (aK K (rc c))))),(30,.d (.one (aY (bF c KC) (fun L=>bH KC L)))),(34,.d (.one (.row 4 (lg c) (aK K (rc c))))),(35,.d (.one (aY (bF c KC) (fun L=>bH KC L)))),(31,.d (.agg (qn X lo))),(36,.d (.agg (qn X ((lo+hi) / 2))))],[(6,.box 49 (qn X lo)),(7,.box 49 (qn X hi)),(10,.box 49 (qn X ((lo+hi) / 2)))]⟩ ?_ (fun xY=>?_)
   ·refine oG [3,8] (by kernel_rfl) rfl ?_;refine ⟨⟨_,rfl,?_⟩,⟨_,rfl,?_⟩,trivial⟩
    ·exact mW rfl<|mT<|anyV rC 4 [8] (by kernel_rfl) (wkr rfl rfl)
    ·exact mW rfl<|mT<|anyV qZ 3 [] (by kernel_rfl) (wkr rfl rfl)
   refine jd 6 #[true,true,true,true,false,true,true,false,false,false,false,false] ⟨40,[(0,.d (.one (.row 4 (lg c) (aK K (rc c))))),(1,.d (.one (aY (bF c KC) (fun L=>bH KC L)))),(6,.ptr 6 0),(7,.ptr 7 0),(10,.ptr 10 0),(29,.d (.one (.row 4 (lg c) (aK K (rc c))))),(30,.d (.one (aY (bF c KC) (fun L=>bH KC L)))),(34,.d (.one (.row 4 (lg c) (aK K (rc c))))),(35,.d (.one (aY (bF c KC) (fun L=>bH KC L)))),(31,.d (.agg (qn X lo))),(32,.d (.agg (qn X ((lo+hi) / 2))))],[(6,.box 49 (qn X lo)),(7,.box 49 (qn X hi)),(10,.box 49 (qn X ((lo+hi) / 2)))]⟩ ?_ (fun xZ=>?_)
   ·refine oG [4,7,8] (by kernel_rfl) rfl ?_;refine ⟨⟨_,rfl,?_⟩,⟨_,rfl,?_⟩,⟨_,rfl,?_⟩,trivial⟩
    ·exact mCR cl1 rfl rfl rfl rfl rfl<|mT<|anyV GY 7 [8] (by kernel_rfl) (wkr rfl rfl)
    ·exact mW rfl<|mT<|anyV rC 4 [8] (by kernel_rfl) (wkr rfl rfl)
    ·exact mW rfl<|mT<|anyV ru 4 [7] (by kernel_rfl) (wkr rfl rfl)
   refine jd 6 #[true,true,false,false,false,true,true,true,true,false,false,false] ⟨40,[(0,.d (.one (.row 4 (lg c) (aK K (rc c))))),(1,.d (.one (aY (bF c KC) (fun L=>bH KC L)))),(6,.ptr 6 0),(7,.ptr 7 0),(10,.ptr 10 0),(29,.d (.one (.row 4 (lg c) (aK K (rc c))))),(30,.d (.one (aY (bF c KC) (fun L=>bH KC L)))),(34,.d (.one (.row 4 (lg c) (aK K (rc c))))),(35,.d (.one (aY (bF c KC) (fun L=>bH KC L)))),(36,.d (.agg (qn X ((lo+hi) / 2)))),(37,.d (.agg (qn X hi)))],[(6,.box 49 (qn X lo)),(7,.box 49 (qn X hi)),(10,.box 49 (qn X ((lo+hi) / 2)))]⟩ ?_ (fun xR=>?_)
   ·refine oG [2,3] (by kernel_rfl) rfl ?_;refine ⟨⟨_,rfl,?_⟩,⟨_,rfl,?_⟩,trivial⟩
    ·exact mW rfl<|mT<|anyV qZ 3 [] (by kernel_rfl) (wkr rfl rfl)
    ·exact mW rfl<|mT<|anyV qY 2 [] (by kernel_rfl) (wkr rfl rfl)
   refine jd 6 #[true,true,false,true,false,true,true,false,true,false,false,false] ⟨40,[(0,.d (.one (.row 4 (lg c) (aK K (rc c))))),(1,.d (.one (aY (bF c KC) (fun L=>bH KC L)))),(6,.ptr 6 0),(7,.ptr 7 0),(10,.ptr 10 0),(29,.d (.one (.row 4 (lg c) (aK K (rc c))))),(30,.d (.one (aY (bF c KC) (fun L=>bH KC L)))),(34,.d (.one (.row 4 (lg c) (aK K (rc c))))),(35,.d (.one (aY (bF c KC) (fun L=>bH KC L)))),(32,.d (.agg (qn X ((lo+hi) / 2)))),(37,.d (.agg (qn X hi)))],[(6,.box 49 (qn X lo)),(7,.box 49 (qn X hi)),(10,.box 49 (qn X ((lo+hi) / 2)))]⟩ ?_ (fun xU=>?_)
   ·refine oG [2,7] (by kernel_rfl) rfl ?_;refine ⟨⟨_,rfl,?_⟩,⟨_,rfl,?_⟩,trivial⟩
    ·exact mW rfl<|mT<|anyV ru 4 [7] (by kernel_rfl) (wkr rfl rfl)
    ·exact mW rfl<|mT<|anyV qY 2 [] (by kernel_rfl) (wkr rfl rfl)
   refine jd 7 #[true,true,true,false,false,true,true,false,false,false,false,false] ⟨40,[(0,.d (.one (.row 4 (lg c) (aK K (rc c))))),(1,.d (.one (aY (bF c KC) (fun L=>bH KC L)))),(6,.ptr 6 0),(7,.ptr 7 0),(10,.ptr 10 0),(29,.d (.one (.row 4 (lg c) (aK K (rc c))))),(30,.d (.one (aY (bF c KC) (fun L=>bH KC L)))),(34,.d (.one (.row 4 (lg c) (aK K (rc c))))),(35,.d (.one (aY (bF c KC) (fun L=>bH KC L)))),(31,.d (.agg (qn X lo)))],[(6,.box 49 (qn X lo)),(7,.box 49 (qn X hi)),(10,.box 49 (qn X ((lo+hi) / 2)))]⟩ ?_ (fun GX=>?_)
   ·refine oG [3,7,8] (by kernel_rfl) rfl ?_;refine ⟨⟨_,rfl,?_⟩,⟨_,rfl,?_⟩,⟨_,rfl,?_⟩,trivial⟩
    ·exact mW rfl<|mT<|anyV xZ 4 [7,8] (by kernel_rfl) (wkr rfl rfl)
    ·exact mW rfl<|mT<|anyV xY 3 [8] (by kernel_rfl) (wkr rfl rfl)
    ·exact mW rfl<|mT<|anyV xX 3 [7] (by kernel_rfl) (wkr rfl rfl)
   refine jd 7 #[true,true,false,true,false,true,true,false,false,false,false,false] ⟨40,[(0,.d (.one (.row 4 (lg c) (aK K (rc c))))),(1,.d (.one (aY (bF c KC) (fun L=>bH KC L)))),(6,.ptr 6 0),(7,.ptr 7 0),(10,.ptr 10 0),(29,.d (.one (.row 4 (lg c) (aK K (rc c))))),(30,.d (.one (aY (bF c KC) (fun L=>bH KC L)))),(34,.d (.one (.row 4 (lg c) (aK K (rc c))))),(35,.d (.one (aY (bF c KC) (fun L=>bH KC L)))),(32,.d (.agg (qn X ((lo+hi) / 2))))],[(6,.box 49 (qn X lo)),(7,.box 49 (qn X hi)),(10,.box 49 (qn X ((lo+hi) / 2)))]⟩ ?_ (fun GV=>?_)
   ·refine oG [2,7,8] (by kernel_rfl) rfl ?_;refine ⟨⟨_,rfl,?_⟩,⟨_,rfl,?_⟩,⟨_,rfl,?_⟩,trivial⟩
    ·exact mW rfl<|mT<|anyV xZ 4 [7,8] (by kernel_rfl) (wkr rfl rfl)
    ·exact mW rfl<|mT<|anyV xW 2 [8] (by kernel_rfl) (wkr rfl rfl)
    ·exact mW rfl<|mT<|anyV xU 2 [7] (by kernel_rfl) (wkr rfl rfl)
   refine jd 7 #[true,true,false,false,false,true,true,false,true,false,false,false] ⟨40,[(0,.d (.one (.row 4 (lg c) (aK K (rc c))))),(1,.d (.one (aY (bF c KC) (fun L=>bH KC L)))),(6,.ptr 6 0),(7,.ptr 7 0),(10,.ptr 10 0),(29,.d (.one (.row 4 (lg c) (aK K (rc c))))),(30,.d (.one (aY (bF c KC) (fun L=>bH KC L)))),(34,.d (.one (.row 4 (lg c) (aK K (rc c))))),(35,.d (.one (aY (bF c KC) (fun L=>bH KC L)))),(37,.d (.agg (qn X hi)))],[(6,.box 49 (qn X lo)),(7,.box 49 (qn X hi)),(10,.box 49 (qn X ((lo+hi) / 2)))]⟩ ?_ (fun GR=>?_)
   ·refine oG [2,3,7] (by kernel_rfl) rfl ?_;refine ⟨⟨_,rfl,?_⟩,⟨_,rfl,?_⟩,⟨_,rfl,?_⟩,trivial⟩
    ·exact mW rfl<|mT<|anyV xX 3 [7] (by kernel_rfl) (wkr rfl rfl)
    ·exact mW rfl<|mT<|anyV xU 2 [7] (by kernel_rfl) (wkr rfl rfl)
    ·exact mW rfl<|mT<|anyV xR 2 [3] (by kernel_rfl) (wkr rfl rfl)
   refine jd 7 #[true,true,false,false,false,true,true,true,false,false,false,false] ⟨40,[(0,.d (.one (.row 4 (lg c) (aK K (rc c))))),(1,.d (.one (aY (bF c KC) (fun L=>bH KC L)))),(6,.ptr 6 0),(7,.ptr 7 0),(10,.ptr 10 0),(29,.d (.one (.row 4 (lg c) (aK K (rc c))))),(30,.d (.one (aY (bF c KC) (fun L=>bH KC L)))),(34,.d (.one (.row 4 (lg c) (aK K (rc c))))),(35,.d (.one (aY (bF c KC) (fun L=>bH KC L)))),(36,.d (.agg (qn X ((lo+hi) / 2))))],[(6,.box 49 (qn X lo)),(7,.box 49 (qn X hi)),(10,.box 49 (qn X ((lo+hi) / 2)))]⟩ ?_ (fun GU=>?_)
   ·refine oG [2,3,8] (by kernel_rfl) rfl ?_;refine ⟨⟨_,rfl,?_⟩,⟨_,rfl,?_⟩,⟨_,rfl,?_⟩,trivial⟩
    ·exact mW rfl<|mT<|anyV xY 3 [8] (by kernel_rfl) (wkr rfl rfl)
    ·exact mW rfl<|mT<|anyV xW 2 [8] (by kernel_rfl) (wkr rfl rfl)
    ·exact mW rfl<|mT<|anyV xR 2 [3] (by kernel_rfl) (wkr rfl rfl)
   refine oG [2,3,7,8] (by kernel_rfl) rfl ?_;refine ⟨⟨_,rfl,?_⟩,⟨_,rfl,?_⟩,⟨_,rfl,?_⟩,⟨_,rfl,?_⟩,trivial⟩
   ·exact mW rfl<|mT<|anyV GX 3 [7,8] (by kernel_rfl) (wkr rfl rfl)
   ·exact mW rfl<|mT<|anyV GV 2 [7,8] (by kernel_rfl) (wkr rfl rfl)
   ·exact mW rfl<|mT<|anyV GU 2 [3,8] (by kernel_rfl) (wkr rfl rfl)
   ·exact mW rfl<|mT<|anyV GR 2 [3,7] (by kernel_rfl) (wkr rfl rfl)
theorem afm{c:Nat→Int}{KC:Nat}{L:List (Nat→Int)}(h:bF c KC L)(a b:Rat)(hab:a≤b):fP c a b≤1000000:=by
 obtain ⟨h1,_,_⟩:=h.cnt hab;obtain ⟨_,hl⟩:=h.len;have h2:vr (EZ L a)≤L.length:=by have:=Nh (EZ L a) 0;unfold EZ at this;rw [List.length_map] at this;exact this
 omega
theorem aa7{K KC X L JM h1:Nat}{c:Nat→Int}(hC:yO c)(b1:∀ i,(c i).natAbs≤2^h1)(hcb:∀ a b,a≤b→fP c a b≤1000000)(hX:3*(3*L+JM / 32+1)≤X)(hX1:X≤90000)(hK:K≤100000)(ny:KC≤100000):∀ (d J:Nat) (lo hi:Rat),SpI c h1 L J d lo hi→J+d≤JM→zU Tryz.prog 62 [.one (dJ K (lg c) (rc c)),.one (aY (bF c KC) (fun L=>bH KC L)),.agg (qn X lo),.agg (qn X hi)] 51 10 (JY c (d+1) lo hi).length (uO K c KC X (JY c (d+1) lo hi)):=by
 intro d
 induction d with
 | zero=>exact fun J lo hi hI hJ=>NG hC b1 hcb hI hJ hX hX1 hK ny (fun d' e=>by omega)
 | succ d ih=>exact fun J lo hi hI hJ=>NG hC b1 hcb hI hJ hX hX1 hK ny (fun d' e lo hi J k1 k2=>by obtain rfl:d'=d:=by {omega};exact ih J lo hi k1 k2)
/-- What is the callee's own row is a row. -/
theorem zU.call{P:Program}{f:FuncId}{args:List DV}{e:TypeId}{sz n:Nat}{el:Nat→Nat→Lf}(h:zU P f args e sz n el):aC P f args (.d (.one (.row sz n el))):=⟨h.en,fun B w vs hB hd=>(h.go B w vs hB hd).mono (by
 rintro r w' ⟨v,rfl,hb,xs,⟨⟨hxl,hown⟩,hbk⟩,hel⟩;refine ⟨v,rfl,hb,?_⟩
 rcases hown with ⟨rfl,h0⟩ | ⟨g,cap,cur,rfl,hge,hblk,hn,hm,hsz',htk⟩
 ·subst h0
  exact ⟨none,0,rfl,Nat.le_refl _,fun _=>rfl,fun i hi=>absurd hi (Nat.not_lt_zero _)⟩
 ·refine ⟨some ⟨g,0,none⟩,cap,rfl,hn,fun h=>(by cases h),fun i hi=>⟨g,0,rfl,fun hb2=>?_,lt_of_block hblk,fun j hj=>?_⟩⟩
  ·have:=hB g hb2
   have h9:w.heap.size≤g:=(hbk g rfl).resolve_right id;omega
  ·obtain ⟨x,hx1,hx2⟩:=hel i j hi hj
   refine ⟨x,?_,eu.mv ⟨Nat.le_refl _,fun _ _ _=>rfl⟩ (fun b _ hb=>Or.inl hb) _ hx2⟩;rw [Nat.zero_add,cell_of_row w' g _ cur _ (0,0) hblk,← Array.getElem?_toList];rw [← htk,List.getElem?_take] at hx1;split at hx1
   ·exact hx1
   ·cases hx1)⟩
theorem aiG{α:Type}{Qx:α→Prop}{L:α→Lf}{s:AS}(t:Nat)(h:lk s.sl t=some (.d (.one (aY Qx L)))):∀ B0 w0 a w,J6 s B0 w0 a w→∃ x,Qx x:=by
 rintro B0 w0 a w ⟨ρ,_,_,_,hs⟩;obtain ⟨v,_,x,hq,_⟩:=hs t _ h;exact ⟨x,hq⟩
theorem TR(t:Rat):Pm (lg (ku t)) (ku t):=by
 refine ⟨(rJ t).ip,by rw [nV];decide,by rw [nV];exact agr t,?_⟩;rw [nV];show 0 < (t.den:Int)
 have:=t.den_pos;omega
theorem TS(t:Rat):∃ M,vH (ku t) M (ku t):=by
 obtain ⟨M,_,hM⟩:=Jw (rJ t);exact ⟨M,Dj (rJ t) hM (TR t) (Y8 t)⟩
theorem acg(t:Rat):eY (ku t)=ku t:=let ⟨_,h⟩:=TS t;h.eq.symm
theorem Rf{z:Int}{n:Nat}(h:z.natAbs∣n)(h1:n=1):z.natAbs=1:=by subst h1;exact Nat.dvd_one.1 h
/-- A divisor of a linear polynomial. -/
theorem Td{c:Nat→Int}{K:Nat}(z:aZ c)(hl:lg c=2)(hb:Db K c)(hK:1≤K):Fa c K:=by
 intro g zg hg hd;have h0:lg c≠0:=by omega
 obtain ⟨hg0,hgl⟩:=lC z zg h0 hd;obtain ⟨W,pW,hW⟩:=hd;obtain ⟨w,k,hw,hc,_⟩:=ni z.lg zg.lg hg pW (fun x=>by rw [iD z,iD zg];exact hW x);have zw:=JU zg z hg0 hw hc;obtain ⟨hlq,_⟩:=Aw zw zg z hc hg0;have one:(1:Nat) < B4^K:=Nat.lt_of_lt_of_le (by decide) (Nat.pow_le_pow_right (show 0 < B4 by decide) hK)
 by_cases h1:lg g=1
 ·intro i
  by_cases hi:i=0
  ·subst hi
   have hd2:(g 0).natAbs∣bn g (lg g):=uS fun i hi=>by
    obtain rfl:i=0:=by omega
    exact Nat.dvd_refl _
   rw [Rf hd2 hg];exact one
  ·rw [zg.lg i (by omega)];omega
 ·have hw1:lg w=1:=by omega
  have hw0:=kG (c:=w) (by omega);rw [hw1] at hw0;have hFw:∀ x,FF w x=(w 0:Rat):=fun x=>by rw [← iD zw,hw1];exact yD
  have hF:∀ i,c i=w 0*g i:=by
   have e:∀ x,FF c x=FF (iK g (w 0)) x:=fun x=>by
    rw [Wn,← hFw x,← show aX w g=c from funext hc,qE zw.lg zg.lg (by have:=dK g;omega) zw zg];exact Rat.mul_comm _ _
   intro i;have:=F8 z (Nk zg) e i;rw [this];unfold iK;exact Int.mul_comm _ _
  intro i;refine Nat.lt_of_le_of_lt ?_ (hb i);rw [hF i,Int.natAbs_mul];exact Nat.le_mul_of_pos_left _ (by have:w 0≠0:=hw0;omega)
theorem LJ{X:Nat}{t:Rat}(h:Qb X t):Db X (ku t):=fun i=>by
 match i with
 | 0=>show (-t.num).natAbs < _;rw [Int.natAbs_neg];exact h.1
 | 1=>show (t.den:Int).natAbs < _;exact h.2
 | i+2=>rw [yw t (i+2) (by omega)];exact Nat.pow_pos (by decide)
theorem vH.l2{c f:Nat→Int}{M:Nat}(h:vH c M f)(zc:aZ c)(h2:2≤lg c):2≤lg f:=by
 apply Classical.byContradiction;intro hn;have h1:lg f=1:=by have:=h.ne;omega
 obtain ⟨κ,hκ,hk⟩:=kV h.z h1;obtain ⟨N,w,pw,e⟩:=h.pw;have hp:κ^N≠0:=by
  intro k;have:∀ n:Nat,κ^n≠0:=fun n=>by
   induction n with
   | zero=>rw [Rat.pow_zero];decide
   | succ n ih=>rw [Rat.pow_succ];intro k;rcases Rat.mul_eq_zero.1 k with k | k;exact ih k;exact hκ k
  exact this N k
 have hd:Dv (FF c) (FF (iC 1)):=⟨fun x=>w x*(κ^N)⁻¹,pw.xk _,fun x=>by
  have h9:=e x;rw [hk] at h9;rw [wH];have:=Rat.inv_mul_cancel _ hp;grind⟩
 have:=(lC jH zc (by rw [nY];decide) hd).2;rw [nY] at this;omega
theorem Xw{c:Nat→Int}{M:Nat}(h:vH c M (eY c))(zc:aZ c)(h2:2≤lg c):yO (eY c):=QA h.z (h.l2 zc h2) h.sq
theorem ach{K X:Nat}{t:Rat}(h:Qb X t)(hX:1≤X):AV.le (.d (.one (.row 4 2 (fun i' j'=>((qn K (-(dL t.num 1)) ++qn K (dL (t.den:Int) 1))[i'*4+j']?).getD (.v undef))))) (.d (.one (dJ X (lg (ku t)) (rc (ku t))))):=by
 refine AV.le.trans (b:= .d (.one (dJ K 2 (rc (ku t))))) (fJ (qp fun i hi j hj=>?_)) (by
  have h9:=iP (K:=K) (n:=2) hX (LJ h);rw [nV];exact h9)
 have e0: -(dL t.num 1)=rc (ku t) 0:=by rw [ji];show -((t.num:Int):Rat)=((-t.num:Int):Rat);rw [Rat.intCast_neg]
 have e1:dL (t.den:Int) 1=rc (ku t) 1:=by rw [ji];rfl
 rw [e0,e1]
 match i,hi with
 | 0,_=>match j,hj with
  | 0,_=>exact fun _ _ _ h=>h
  | 1,_=>exact fun _ _ _ h=>h
  | 2,_=>exact fun _ _ _ h=>h
  | 3,_=>exact fun _ _ _ h=>h
 | 1,_=>match j,hj with
  | 0,_=>exact fun _ _ _ h=>h
  | 1,_=>exact fun _ _ _ h=>h
  | 2,_=>exact fun _ _ _ h=>h
  | 3,_=>exact fun _ _ _ h=>h
theorem ND{K M KC N Ms:Nat}{c:Nat→Int}(zc:aZ c)(h2:2≤lg c)(hN:N≤10)(ED:lg c≤N)(uT:1≤M)(hM1:1≤M)(hB:Fa c M)(hK1:1≤K)(hK:K≤100000)(ny:(M+2)*(2*3^N)≤KC)(hC:KC≤90000)(hS:vH c Ms (eY c)):aC Tryz.prog 39 [.one (dJ K (lg c) (rc c))] (.d (.one (aY (bF (eY c) KC) (fun L=>bH KC L)))):=
 aC.le (dl DV.same iM) (fJ (BP fun L h=>⟨L,h.q,fun _ _ _ h=>h⟩)) (aa4 zc h2 hN ED uT hM1 hB hK1 hK ny hC hS)
theorem Gi{K M KC N Ms:Nat}{c:Nat→Int}(zc:aZ c)(h2:2≤lg c)(hN:N≤10)(ED:lg c≤N)(uT:1≤M)(hM1:1≤M)(hB:Fa c M)(hK1:1≤K)(hK:K≤100000)(ny:(M+2)*(2*3^N)≤KC)(hC:KC≤90000)(hS:vH c Ms c):aC Tryz.prog 39 [.one (dJ K (lg c) (rc c))] (.d (.one (aY (bF c KC) (fun L=>bH KC L)))):=by
 have e:=hS.eq.symm;have h:=ND zc h2 hN ED uT hM1 hB hK1 hK ny hC hS.self;rwa [e] at h
theorem Sl{K M KC N X h1 Ms:Nat}{c:Nat→Int}(zc:aZ c)(h2:2≤lg c)(hN:N≤10)(ED:lg c≤N)(uT:1≤M)(hM1:1≤M)(hB:Fa c M)(hK1:1≤K)(hK:K≤100000)(ny:(M+2)*(2*3^N)≤KC)(hC:KC≤90000)(hS:vH c Ms (eY c))(b1:∀ i,(eY c i).natAbs≤2^h1)(hX:3*(3*(M+100)+rtD (eY c) h1 / 32+1)≤X:=by omega)(hX1:X≤90000:=by decide):aC Tryz.prog 33 [.one (dJ K (lg c) (rc c))] (.d (.one (aY (fun l=>l=rtF (eY c) h1∧l.length≤1000000) (fun l=> .row 10 l.length (uO M (eY c) KC X l))))):=by
 have hlc:=dK c;have hMK:M+2≤KC:=Nat.le_trans (Nat.le_mul_of_pos_right _ (Nat.mul_pos (by decide) (Nat.pow_pos (by decide)))) ny;have l2:=hS.l2 zc h2;have hCn:=Xw hS zc h2;refine aN 18 [.tmp 2] Tryz.func33 rfl<|cR<|mW rfl<|mT<|cR<|mW rfl<|mY (NH (M:=M) (KC:=KC) (N:=N) zc h2 hN ED uT hM1 hB hK1 hK ny hC) rfl<|mW rfl<|mT<|cR<|mW rfl<|mY (ND (M:=M) (KC:=KC) (N:=N) zc h2 hN ED uT hM1 hB hK1 hK ny hC hS) rfl<|mW rfl<|mT<|cR<|mW rfl<|mY (aa3 (Y:=(2*M+200)) hS.z l2 uT (by omega) (Nat.le_refl _)) rfl<|mO rfl<|mZ rfl<|mT<|au<|AW.fact (alM 11 rfl) (fun hqb=>?_);have hT:Tb (M+100) (AY (eY c)):=Qb.tb (K:=M+100) (iO hqb (by omega)) (Nat.le_refl _);refine AW.fact (aiG 4 rfl) (fun hex=>?_);obtain ⟨Lc,hLc⟩:=hex;have hcb:=afm hLc;exact wB [5,11,10,4,9,8,3,7,6,2,0] [] 5 (.box 49 (qn X (AY (eY c)))) rfl rfl (Q5 (by omega) rfl) rfl<|cDk 7<|.cons (aB.V _ rfl)<|.cons (aB.V _ rfl)<|oV rfl<|oC (Ql (lq X (AY (eY c)))) rfl<|oV rfl<|oC ((aa7 (K:=M) (KC:=KC) (X:=X) (L:=M+100) (JM:=rtD (eY c) h1) (h1:=h1) (c:=eY c) hCn b1 hcb hX hX1 (by omega) (by omega) (rtD (eY c) h1) 0 (-(AY (eY c))) (AY (eY c)) (Iy hCn b1 hT) (by omega)).call) rfl<|.cons (aB.V _ rfl)<|.nil<|mT<|aO<|rQ rfl (kR (Q:=fun l=>l=rtF (eY c) h1∧l.length≤1000000) (L:=fun l=> .row 10 l.length (uO M (eY c) KC X l)) (rtF (eY c) h1) ⟨rfl,by rw [(aes hCn b1 hT).len];exact hcb _ _ (Iy hCn b1 hT).le⟩)
theorem vP{X KC:Nat}{t:Rat}(hX64:64≤X:=by decide)(ny:18*(X+2)≤KC:=by decide)(hC:KC≤90000:=by decide):aC Tryz.prog 18 [.agg (qn X t)] (.d (.agg ([.row 4 (lg (ku t)) (aK X (rc (ku t)))] ++ [aY (bF (ku t) KC) (fun L=>bH KC L)] ++qn X t ++qn X t))):=by
 refine aC.l9 (fC Tryz.func18 rfl rfl) (p:=Qb X t) (fun B w vs h=>match vs,h with | [_],⟨⟨cs,_,hl⟩,_⟩=>MH hl) (fun hb=>?_);obtain ⟨Ms,hS⟩:=TS t;exact aN 20 [.cell 2 51] Tryz.func18 rfl<|cR<|mO rfl<|mO rfl<|mT<|au<|cDk 11<|oV rfl<|oV rfl<|oC ER rfl<|oC (oD (fG X (Rat.num t)) (fG 64 1) (M:=(max X (max 64 64)))) rfl<|oC (Ql (lq (max X (max 64 64)) (dL (Rat.num t) 1))) rfl<|oV rfl<|oV rfl<|oC ER rfl<|oC (oD (fG X (Rat.den t:Int)) (fG 64 1) (M:=(max X (max 64 64)))) rfl<|.cons (aB.B _ rfl)<|.cons (aB.V _ rfl)<|.nil<|mT<|au<|iJ 3 (.d (.one (.row 4 (lg (ku t)) (aK X (rc (ku t)))))) rfl (ach hb (by omega))<|cDk 6<|.cons (aB.V _ rfl)<|.cons (aB.V _ rfl)<|oC (Gi (M:=X) (KC:=KC) (N:=2) (rJ t) (by rw [nV];exact Nat.le_refl 2) (by decide) (by rw [nV];exact Nat.le_refl 2) (by omega) (by omega) (Td (rJ t) (nV t) (LJ hb) (by omega)) (by omega) (by omega) (by omega) (by omega) hS) rfl<|oV rfl<|oV rfl<|oV rfl<|.nil<|mZ rfl<|mT<|aO<|rQ rfl (AV.le.rfl)
theorem adA{a:List Lf}{K:Nat}{q:Rat}(hq:P9 a K q)(hK:K≤10000000:=by first|decide|omega):aC Tryz.prog 31 [.agg a] (.d (.agg (tn K q))):=by
 exact aC.le (dl (DV.g hq) iM) AV.le.rfl<|aN 10 [.cell 2 38] Tryz.func31 rfl<|cR<|mO rfl<|mO rfl<|mT<|au<|cDk 7<|oV rfl<|oV rfl<|oC (ae8 (fG K (Rat.num q))) rfl<|oV rfl<|oV rfl<|oC (ae8 (fG K (Rat.den q:Int))) rfl<|oV rfl<|.nil<|mZ rfl<|mT<|aO<|rQ rfl (QZ (Nat.le_refl _) (Nat.le_refl _) rfl rfl)
theorem acy(c:Nat→Int):acw (rc c)=c:=funext fun i=>Rat.num_intCast (c i)
theorem ah4{K:Nat}{c:Nat→Int}(zc:aZ c)(hK:K≤1000000):aC Tryz.prog 30 [.one (dJ K (lg c) (rc c))] (.d (.one (gQ K (lg c) c))):=by
 have hlc:=dK c;have h:=alC (wZ (K:=K) (n:=lg c) (c:=rc c) (ql zc.lg)) (by omega) (by omega);rwa [acy] at h
theorem NI{L M:Nat}{q:Rat}(hM:max (3*L) 64≤M:=by omega)(vI:M≤10000000:=by omega):aC Tryz.prog 40 [.agg (tn L q)] (.d (.agg (qn M q))):=by
 have h:=abd (ug L q) hM vI;rwa [jr] at h
theorem WT{K KC X:Nat}{c:Nat→Int}{lo hi:Rat}(zc:aZ c)(hK:K≤1000000:=by first|decide|omega)(hX:X≤1000000:=by first|decide|omega):aC Tryz.prog 8 [.agg ([.row 4 (lg c) (aK K (rc c))] ++ [aY (bF c KC) (fun L=>bH KC L)] ++qn X lo ++qn X hi)] (.d (.agg ([.row 2 (lg c) (bW K c)] ++tn X lo ++tn X hi))):=by
 have hlc:=dK c;exact aN 13 [.cell 2 40] Tryz.func8 rfl<|cR<|mO rfl<|mO rfl<|mT<|au<|cDk 10<|oV rfl<|oV rfl<|oC (ah4 (zc) (by omega)) rfl<|oV rfl<|oV rfl<|oC (adA (lq X lo)) rfl<|oV rfl<|oV rfl<|oC (adA (lq X hi)) rfl<|oV rfl<|.nil<|mZ rfl<|mT<|aO<|rQ rfl (AV.le.rfl)
theorem Kw{K L M KC N X Ms:Nat}{c:Nat→Int}{lo hi:Rat}(zc:aZ c)(hS:vH c Ms c)(h2:2≤lg c)(hN:N≤10)(ED:lg c≤N)(uT:1≤M)(hb:Db M c)(hB:Fa c M)(hK:K≤100000:=by decide)(ny:(M+2)*(2*3^N)≤KC:=by decide)(hC:KC≤90000:=by decide)(hX:max (3*L) 64≤X:=by decide)(hX1:X≤90000:=by decide):aC Tryz.prog 12 [.agg ([.row 2 (lg c) (bW K c)] ++tn L lo ++tn L hi)] (.d (.agg ([.row 4 (lg c) (aK M (rc c))] ++ [aY (bF c KC) (fun L=>bH KC L)] ++qn X ((zH c lo hi).1) ++qn X ((zH c lo hi).2)))):=by
 have hlc:=dK c;have hMK:M+2≤KC:=Nat.le_trans (Nat.le_mul_of_pos_right _ (Nat.mul_pos (by decide) (Nat.pow_pos (by decide)))) ny;exact aN 19 [.cell 2 51] Tryz.func12 rfl<|cR<|mO rfl<|mO rfl<|mT<|cR<|mv2 rfl rfl<|mY (ae3 (uw (K:=K) (c:=c) (aZ.lg zc)) (M:=(max (3*K) 64))) rfl<|kH 6 (.d (.one (.row 4 (lg c) (aK M (rc c))))) rfl (AV.le.trans (oZ (uj zc.lg zc) (by omega) hb) AV.le.rfl)<|mY (oW zc) rfl<|mW rfl<|mT<|au<|iJ 3 (.d (.one (.row 4 (lg c) (aK M (rc c))))) rfl (AV.of_eq (by rw [nZ zc fun _=>hS.pm];rfl))<|cDk 11<|.cons (aB.V _ rfl)<|.cons (aB.V _ rfl)<|oC (Gi (M:=M) (KC:=KC) (N:=N) zc h2 hN ED uT (by omega) hB (by omega) (by omega) ny hC hS) rfl<|oV rfl<|oV rfl<|oC (NI (M:=X)) rfl<|oV rfl<|oV rfl<|oC (NI (M:=X)) rfl<|oV rfl<|oC (Fg (zc)) rfl<|.nil<|mZ rfl<|mT<|aO<|rQ rfl (AV.le.rfl)
structure Gw(G X na nb:Nat):Prop where
 h:(X+1)*(max (na+2-nb) 1*3^nb)≤G
theorem Gw.bd{G X na nb:Nat}(h:Gw G X na nb):X+1≤G:=by
 have h1:=h.h;have h2:1≤max (na+2-nb) 1*3^nb:=Nat.mul_pos (by omega) (Nat.pow_pos (by decide));exact Nat.le_trans (Nat.le_mul_of_pos_right _ h2) h1
theorem Gw.step{G X na nb nr:Nat}(h:Gw G X na nb)(hr:nr < nb):Gw G (X+(na+1-nb)*(X+1)) nb nr:=by
 refine ⟨Nat.le_trans ?_ h.h⟩;have e:X+(na+1-nb)*(X+1)+1=(na+1-nb+1)*(X+1):=by rw [Nat.add_mul (na+1-nb) 1];omega
 rw [e];have h1:na+1-nb+1≤max (na+2-nb) 1:=by omega
 have h2:max (nb+2-nr) 1*3^nr≤3^nb:=by
  obtain ⟨k,rfl⟩:∃ k,nb=nr+k+1:=⟨nb-nr-1,by omega⟩
  have h3:max (nr+k+1+2-nr) 1=k+3:=by omega
  rw [h3];have h4:k+3≤3^(k+1):=by
   rcases Nat.eq_zero_or_pos k with h0 | h0
   ·subst h0;decide
   ·obtain ⟨j,rfl⟩:∃ j,k=j+1:=⟨k-1,by omega⟩
    have:=Em j;rw [Nat.pow_succ];omega
  rw [show nr+k+1=(k+1)+nr by omega,Nat.pow_add 3 (k+1) nr];exact Nat.mul_le_mul_right _ h4
 calc (na+1-nb+1)*(X+1)*(max (nb+2-nr) 1*3^nr)≤max (na+2-nb) 1*(X+1)*3^nb:=Nat.mul_le_mul (Nat.mul_le_mul_right _ h1) h2
  _=(X+1)*(max (na+2-nb) 1*3^nb):=by rw [Nat.mul_comm (max (na+2-nb) 1) (X+1),Nat.mul_assoc]
theorem Nc{p:Fn}{C:qw}(hC:dV C)(pp:Po p):VC p C↔PZ p C=0:=by
 refine ⟨yK,fun h=>?_⟩;rcases FX hC pp with k | ⟨s,k⟩
 ·exact k
 ·have:=MN hC k
  have:=k.pm hC;omega
theorem Gn{C C' D D':qw}(h:∀ q,C q↔C' q)(k:∀ q,D q↔D' q):cZ C D=cZ C' D':=by
 have e1:C=C':=funext fun q=>propext (h q)
 have e2:D=D':=funext fun q=>propext (k q)
 rw [e1,e2]
section
variable {c d y:Nat→Int} {lo hi p q:Rat}
theorem UD(hd:Dv (FF d) (FF c))(zd:aZ d)(sc:zD (FF c) (FF (bM c))):zD (FF d) (FF (bM d)):=by
 obtain ⟨w,pw,e⟩:=hd;exact sc.dv (cu zd) pw (cu (eH zd)) (pX zd) (fun x=>by rw [e x];exact Rat.mul_comm _ _)
theorem aaB{G:Nat→Int}{M:Nat}(o:uD c lo hi)(hlt:lo < hi)(zy:aZ y)(hg:nN y c M G)(hg0:lg G≠0)(h2:2≤lg G):decide (((fP G lo hi:Nat):Int) > 0)=decide (PZ (FF y) (bJ c lo hi)=0):=by
 have hC:=QA hg.z h2 (UD hg.G9.db hg.z o.sq);obtain ⟨w,pw,e⟩:=hg.G9.db;have hf:=yg (o.ok.i hlt) hg.z pw (fun x=>by rw [e x];exact Rat.mul_comm _ _) h2 (show lo≤lo by grind) (show hi≤hi by grind) hlt;obtain ⟨s1,s2⟩:=O7 o (by grind) zy hg hg0;have h0:=hC.free (show lo≤hi by grind);refine decide_eq_decide.2 ⟨fun k=>s1 h2 (hf.2 fun r=>by have:=h0.2 r;omega),fun k=>?_⟩;apply Classical.byContradiction;intro nk;have hr:=h0.1 (by omega);have hb:G6 G lo hi=false:=by rw [← Bool.not_eq_true];exact fun b=>hf.1 b hr
 exact s2 (fun _=>hb) ((Nc o.ok.cut (cu zy)).2 k)
theorem RU{G:Nat→Int}{M:Nat}(o:uD c lo hi)(hlt:lo < hi)(zy:aZ y)(hg:nN y c M G)(hg0:lg G≠0)(h2:¬ 2≤lg G):¬ PZ (FF y) (bJ c lo hi)=0:=fun k=>(O7 o (by grind) zy hg hg0).2 (fun h=>absurd h h2) ((Nc o.ok.cut (cu zy)).2 k)
theorem uD.cn(h:uD c lo hi):yO c:=QA h.ok.z h.l2 h.sq
theorem uD.cnt1(h:uD c lo hi)(hlt:lo < hi):fP c lo hi=1:=FB h.ok.z (by grind) (h.ok.i hlt).one
/-- A root of the other's polynomial in the other's interval is the other. -/
theorem uD.same(h:uD c lo hi)(k:uD d p q)(hlt:p < q)(hz:PZ (FF d) (bJ c lo hi)=0)(h1:cZ (bJ c lo hi) (fE p) > 0)(h2:cZ (bJ c lo hi) (fE q)≤0):cZ (bJ c lo hi) (bJ d p q)=0:=by
 have hC:=h.ok.cut;have c1:bJ c lo hi p:=by
  apply Classical.byContradiction;intro n;have:=(sQ hC (kN p)).2 fun t ht=>hC.nb ht n
  omega
 have c2:¬ bJ c lo hi q:=fun c2=>by
  have:=vU hC c2;omega
 exact jU fun t=>(k.cn.one (by grind) (k.cnt1 hlt) hC ((Nc hC (cu k.ok.z)).2 hz) c1 c2 t).symm
/-- .. and else it is none. -/
theorem uD.unlike(h:uD c lo hi)(k:uD d p q)(hlt:p < q)(hn:¬ (PZ (FF d) (bJ c lo hi)=0∧cZ (bJ c lo hi) (fE p) > 0∧cZ (bJ c lo hi) (fE q)≤0)):cZ (bJ c lo hi) (bJ d p q)≠0:=by
 intro e;have hC:=h.ok.cut;have hD:=k.ok.cut;have he:=oH e;refine hn ⟨(Nc hC (cu k.ok.z)).1 (k.vc.cut he),?_,?_⟩
 ·have:=vU hC ((he p).2 (by rw [jE hlt];exact Or.inl (by grind)))
  omega
 ·exact (sQ hC (kN q)).2 fun t ht=>k.ok.aed ((he t).1 ht)
end
theorem ae4{K G:Nat}{c d:Nat→Int}(zc:aZ c)(zd:aZ d)(D7:lg c≤10)(hd10:lg d≤10)(hK1:1≤K)(hG:(K+1)*(max (lg c+2-lg d) 1*3^lg d)≤G)(hC:G≤90000):aC Tryz.prog 80 [.one (dJ K (lg c) (rc c)),.one (dJ K (lg d) (rc d))] (.d (.one (aY (nN c d (21*K+3)) (fun g=>dJ (63*K+9) (lg g) (rc g))))):=by
 have hlc:=dK c;have hld:=dK d;have hKG:=(Gw.mk hG).bd;refine aC.l9 (fC Tryz.func80 rfl rfl) (p:=Db K c∧Db K d) (fun B w vs h=>match vs,h with | [_,_],⟨h1,h2,_⟩=>⟨lW zc.lg h1,lW zd.lg h2⟩) (fun hb=>?_);obtain ⟨hbc,hbd⟩:=hb;have lbc:Lb K c:=(hbc.mono (by omega)).lb;have lbd:Lb K d:=(hbd.mono (by omega)).lb;refine aN 18 [.tmp 4] Tryz.func80 rfl<|cR<|mW rfl<|mT<|cR<|mW rfl<|mY (oW zc) rfl<|mW rfl<|mY (oW zd) rfl<|mv2 rfl rfl<|mT<|au<|aJ<|dQ (ι:=Nat×(Nat→Int)×(Nat→Int)) (fun (p:Nat×(Nat→Int)×(Nat→Int))=>match p with | (X,a,b)=>⟨18,[(0,.d (.one (.row 4 (lg a) (aK X (rc a))))),(1,.d (.one (.row 4 (lg b) (aK X (rc b))))),(4,.d (.one (.v (.slice none 0 0))))],[]⟩) (fun (p:Nat×(Nat→Int)×(Nat→Int))=>match p with | (X,a,b)=>aZ a∧aZ b∧Bf (FF c) (FF d) (FF a) (FF b)∧Db X a∧Db X b∧lg a≤10∧lg b≤10∧1≤X∧Gw G X (lg a) (lg b)∧(lg a≠0→Pm (lg a) a)∧(lg b≠0→Pm (lg b) b)) (fun (p:Nat×(Nat→Int)×(Nat→Int))=>match p with | (X,a,b)=>lg b) (K,(bC c),(bC d)) (⟨fZ zc,fZ zd,Md zc zd,hbc.qW,hbd.qW,by rw [dI zc];exact D7,by rw [dI zd];exact hd10,hK1,⟨by rw [dI zc,dI zd];exact hG⟩,fun h0=>jM zc (by rw [← dI zc];exact h0),fun h0=>jM zd (by rw [← dI zd];exact h0)⟩) (wkr rfl rfl) ?_;rintro ⟨X,a,b⟩ hI;obtain ⟨za,zb,aS,hba,hbb,Vb,KY,hX1,hG,hpa,hpb⟩:aZ a∧aZ b∧Bf (FF c) (FF d) (FF a) (FF b)∧Db X a∧Db X b∧lg a≤10∧lg b≤10∧1≤X∧Gw G X (lg a) (lg b)∧(lg a≠0→Pm (lg a) a)∧(lg b≠0→Pm (lg b) b):=hI;show AW _ _ _ ⟨_,_,_⟩
 refine au<|au ?_;have hXK:=hG.bd
 by_cases hb0:lg b=0
 ·exact aA<|mv2 rfl rfl<|mdF rfl (by omega)<|mT<|cF rfl<|dO<|tE<|tE<|bE<|tN<|cR<|mv2 rfl rfl<|mT<|aO<|rQ rfl (by have hgf:=KW zc zd za zb aS hb0 lbc lbd (by omega) (by omega);exact fun ρ B w v hv=>kR (Q:=nN c d (21*K+3)) (L:=fun g=>dJ (63*K+9) (lg g) (rc g)) (bC a) hgf ρ B w v (by rw [nZ za hpa];exact iP (by omega) (by have hd:=hgf.dbq;rwa [nZ za hpa] at hd) ρ B w v hv))
 ·refine aA<|mv2 rfl rfl<|mdT rfl (by omega)<|mT<|cT rfl<|aF<|tN<|aJ ?_;have hg1:lg b-1 < lg b:=by omega
  have hN1:=(hG.step hg1).bd;refine aA<|mv3 rfl rfl rfl<|mY (Qj (M:=(X+(lg a+1-lg b)*(X+1))) za zb hb0 (by omega) (by omega) (by omega) (by omega) (Nat.le_refl _)) rfl<|mY (Sj zb) rfl<|mEx (Qx:=RpP a b (X+(lg a+1-lg b)*(X+1))) (L:=fun r=>dJ (X+(lg a+1-lg b)*(X+1)) (lg r) (rc r)) 16 rfl (fun R hR=>?_);exact mv2 rfl rfl<|ak<|bN<|⟨((X+(lg a+1-lg b)*(X+1)),b,R),⟨zb,hR.z,aS.trans hR.idp,hbb.mono (Nat.le_add_right _ _),hR.b,KY,by have:=hR.lt;omega,by omega,hG.step hR.lt,hpb,hR.pm⟩,hR.lt,wk rfl ⟨fM rfl (iP (by omega) (hbb.mono (Nat.le_add_right _ _))),hs rfl,hs rfl,trivial⟩ trivial rfl⟩
theorem eU{K KC X Y:Nat}{c:Nat→Int}{lo hi:Rat}{b:Bool}(h:decide (lo=hi)=b)(hX:X≤100000:=by omega)(hY:Y≤100000:=by omega):aC Tryz.prog 41 [.agg (qac K c KC X lo Y hi)] (.d (.one (.v (.bool b)))):=by
 subst h;exact Fh hX hY
theorem Cj{a b:Bool}(h:a=b):AV.le (.d (.one (.v (.bool a)))) (.d (.one (.v (.bool b)))):=by subst h;exact AV.le.rfl
theorem abb{K KC X N G M KD:Nat}{c y:Nat→Int}{lo hi:Rat}(zy:aZ y)(hV:uD c lo hi)(amJ:lg y≤10)(D7:lg c≤10)(hN:N≤10)(ED:lg c≤N)(hK1:1≤K)(hG:(K+1)*(max (lg y+2-lg c) 1*3^lg c)≤G)(hG9:G≤90000)(uT:1≤M)(hB:Fa c M)(hKD:(M+2)*(2*3^N)≤KD)(afM:KD≤90000)(ny:KC≤90000)(hX:X≤90000):aC Tryz.prog 43 [.one (dJ K (lg y) (rc y)),.agg ([.row 4 (lg c) (aK K (rc c))] ++ [aY (bF c KC) (fun L=>bH KC L)] ++qn X lo ++qn X hi)] (.d (.one (.v (.bool (decide ((PZ (FF y) (bJ c lo hi))=0)))))):=by
 refine aC.l9 (fC Tryz.func43 rfl rfl) (p:=Db K y∧Db K c∧Qb X lo∧Qb X hi) (fun B w vs h=>match vs,h with | [_,_],⟨h1,⟨cs,_,hl⟩,_⟩=>⟨lW zy.lg h1,O3 hV.ok.z hl⟩) (fun hb=>?_);have hlc:=dK c;have hly:=dK y;have hKG:=(Gw.mk hG).bd;have hMK:M+2≤KD:=Nat.le_trans (Nat.le_mul_of_pos_right _ (Nat.mul_pos (by decide) (Nat.pow_pos (by decide)))) hKD;refine aN 31 [.tmp 4] Tryz.func43 rfl<|cR<|mO rfl<|mW rfl<|mT<|au<|au ?_
 by_cases hy0:lg y=0
 ·exact aA<|mv2 rfl rfl<|mbT rfl (beq_iff_eq.2 (by omega))<|mT<|cT rfl<|cR<|mW rfl<|mT<|aO<|tR<|rQ rfl (Cj (decide_eq_true (acO zy hy0 hV.ok.cut)).symm)
 ·refine aA<|mv2 rfl rfl<|mbF rfl (beq_eq_false_iff_ne.2 (by omega))<|mT<|cFs rfl<|au<|cR<|mW rfl<|mY Fh rfl<|mT<|aW rfl (fun hc1=>?_) (fun hc1=>?_)
  ·exact cR<|mv3 rfl rfl rfl<|mY (Bq (zy) rfl) rfl<|mv2 rfl rfl<|mT<|aO<|tR<|rQ rfl (by have he:lo=hi:=of_decide_eq_true hc1;exact Cj (by rw [kE (show hi≤lo by grind),aeu (cu zy)];rfl))
  ·refine aF<|tN<|au ?_;have hne:¬ lo=hi:=of_decide_eq_false hc1;have hlt:lo < hi:=by have:=hV.ok.le;grind
   refine aA<|mv3 rfl rfl rfl<|mY (ae4 (G:=G) zy hV.ok.z amJ D7 hK1 hG hG9) rfl<|mW rfl<|mT<|au<|au<|cEx (Qx:=nN y c (21*K+3)) (L:=fun g=>dJ (63*K+9) (lg g) (rc g)) 5 rfl (fun D hD=>?_);obtain ⟨hD0,hDl⟩:=hD.le' hV.ok.z (by have:=hV.l2;omega);have dB:Fa c M:=hB;have dD:Fa D M:=fun g zg hg hd=>hB g zg hg (hd.trans hD.G9.db)
   have bD:Db M D:=hB D hD.z (hD.pm hD0).one hD.G9.db;refine iJ 5 (.d (.one (.row 4 (lg D) (aK M (rc D))))) rfl (iP (by omega) bD) ?_
   by_cases hd2:2≤lg D
   ·have sD:=UD hD.G9.db hD.z hV.sq;obtain ⟨Ms,_,hMs⟩:=Jw hD.z;have hSD:=Dj hD.z hMs (hD.pm hD0) sD;exact aA<|mv2 rfl rfl<|mdF rfl (by omega)<|mT<|cFs rfl<|au<|cDk 9<|.cons (aB.V _ rfl)<|oC (Gi (M:=M) (KC:=KD) (N:=N) hD.z hd2 hN (by omega) uT (by omega) dD (by omega) (by omega) hKD afM hSD) rfl<|oV rfl<|oV rfl<|oV rfl<|oV rfl<|oC (RZ (by grind)) rfl<|oV rfl<|.cons (aB.V _ rfl)<|.nil<|mT<|aO<|rQ rfl (Cj (aaB hV hlt zy hD hD0 hd2))
   ·exact aA<|mv2 rfl rfl<|mdT rfl (by omega)<|mT<|cT rfl<|cR<|mW rfl<|mT<|aO<|tR<|rQ rfl (Cj (decide_eq_false (RU hV hlt zy hD hD0 hd2)).symm)
structure IV(c d:Nat→Int)(L J E f:Nat)(lo hi p q u1 u2 v1 v2:Rat):Prop where
 fl:f≤J
 n1:Ko c lo hi u1 u2
 n2:Ko d p q v1 v2
 x1:EX c u1 u2
 x2:EX d v1 v2
 d1:Dz L (J-f) u1 u2
 d2:Dz L (J-f) v1 v2
 w1:(u2-u1)*t2 (E+2)≤t2 f
 w2:(v2-v1)*t2 (E+2)≤t2 f
section
variable {c d:Nat→Int} {L J E f:Nat} {lo hi p q u1 u2 v1 v2:Rat}
theorem IV.go(h:IV c d L J E f lo hi p q u1 u2 v1 v2)(hf:f≠0)(hc:yO c)(hd:yO d):IV c d L J E (f-1) lo hi p q (hlf c u1 u2).1 (hlf c u1 u2).2 (hlf d v1 v2).1 (hlf d v1 v2).2:=by
 have hp:=iq (E+2);have hfl:=h.fl;have e:J-f+1=J-(f-1):=by omega
 exact ⟨by omega,h.n1.trans (tC h.n1.ok).1,h.n2.trans (tC h.n2.ok).1,(hc.half h.n1.ok h.x1).2,(hd.half h.n2.ok h.x2).2,e▸h.d1.hlf,e▸h.d2.hlf,Yo h.n1.ok hp h.w1,Yo h.n2.ok hp h.w2⟩
theorem Sz{lo hi:Rat}{L E J:Nat}(h:Tb L lo)(k:Tb L hi)(hJ:32*L+1+(E+2)≤J):(hi-lo)*t2 (E+2)≤t2 J:=by
 have h1:=ac1 h k;have e1:((2^(32*L+1):Nat):Rat)=t2 (32*L+1):=by unfold t2;rfl
 rw [e1] at h1;have h2:=Rat.mul_le_mul_of_nonneg_right h1 (show 0≤t2 (E+2) by have:=iq (E+2);grind);rw [← jv] at h2;have h3:t2 (32*L+1+(E+2))≤t2 J:=FZ hJ;grind
theorem IV.start(ha:sH c lo hi)(hb:sH d p q)(x1:EX c lo hi)(x2:EX d p q)(t1:Tb L lo)(t2:Tb L hi)(t3:Tb L p)(t4:Tb L q)(hJ:32*L+1+(E+2)≤J):IV c d L J E J lo hi p q lo hi p q:=⟨Nat.le_refl _,.refl ha,.refl hb,x1,x2,by rw [Nat.sub_self];exact xJ t1 t2,by rw [Nat.sub_self];exact xJ t3 t4,Sz t1 t2 hJ,Sz t3 t4 hJ⟩
theorem IV.eq(h:IV c d L J E f lo hi p q u1 u2 v1 v2):cZ (bJ c u1 u2) (bJ d v1 v2)=cZ (bJ c lo hi) (bJ d p q):=Gn h.n1.cut h.n2.cut
theorem IV.lt(h:IV c d L J E f lo hi p q u1 u2 v1 v2)(hne:cZ (bJ c lo hi) (bJ d p q)≠0)(hb:u2≤v1):cZ (bJ c lo hi) (bJ d p q)= -1:=by
 have h1:=Fq h.n1.ok h.n2.ok hb;rw [h.eq] at h1;rcases nP (bJ c lo hi) (bJ d p q) with k | k | k
 ·exact k
 ·exact absurd k hne
 ·omega
theorem IV.gt(h:IV c d L J E f lo hi p q u1 u2 v1 v2)(hne:cZ (bJ c lo hi) (bJ d p q)≠0)(hb:v2≤u1):cZ (bJ c lo hi) (bJ d p q)=1:=by
 have h1:=Fq h.n2.ok h.n1.ok hb;have h2:=iQ h.n1.ok.cut h.n2.ok.cut;rw [h.eq] at h2;rcases nP (bJ c lo hi) (bJ d p q) with k | k | k
 ·omega
 ·exact absurd k hne
 ·exact k
theorem IV.no{h1 h2:Nat}(h:IV c d L J E f lo hi p q u1 u2 v1 v2)(b1:∀ i,(c i).natAbs≤2^h1)(b2:∀ i,(d i).natAbs≤2^h2)(hE:E=lS (lg c) (lg d) h1 h2)(oa:uD c lo hi)(ob:uD d p q)(hne:cZ (bJ c lo hi) (bJ d p q)≠0)(hf:f=0)(o1:¬ u2≤v1)(o2:¬ v2≤u1):False:=by
 have w1:=h.w1;have w2:=h.w2;rw [hf,show t2 0=1 from rfl] at w1 w2;exact acs b1 b2 hE (oa.Np h.n1) (ob.Np h.n2) (by rw [h.eq];exact hne) (by grind) (by grind) w1 w2
theorem vY{K:Nat}(h:Db K c)(i:Nat):(c i).natAbs≤2^(14*K):=by
 have h1:=h i;have h2:B4^K≤2^(14*K):=by rw [Nat.pow_mul];exact Nat.pow_le_pow_left (by decide) K
 omega
end
theorem DK{K KC X:Nat}{c d:Nat→Int}{lo hi e1 e2:Rat}(hV:uD c lo hi)(hW:uD d e1 e2)(hpt:lo=hi∨e1=e2)(hK:K≤100000:=by omega)(ny:KC≤100000:=by omega)(hX:X≤100000:=by omega):aC Tryz.prog 13 [.agg ([.row 4 (lg c) (aK K (rc c))] ++ [aY (bF c KC) (fun L=>bH KC L)] ++qn X lo ++qn X hi),.agg ([.row 4 (lg d) (aK K (rc d))] ++ [aY (bF d KC) (fun L=>bH KC L)] ++qn X e1 ++qn X e2)] (.d (.one (.v (.int .i64 (cZ (bJ c lo hi) (bJ d e1 e2)))))):=by
 have hlc:=dK c;have hld:=dK d;refine aN 59 [.tmp 4] Tryz.func13 rfl<|cR<|mO rfl<|mO rfl<|mW rfl<|mT<|au<|au ?_
 by_cases ha:lo=hi
 ·exact aA<|mW rfl<|mY (eU (decide_eq_true ha)) rfl<|mT<|cT rfl<|cR<|mv3 rfl rfl rfl<|mY (nO hW.cn hW.ok) rfl<|mV aj (.d (.one (.v (.int .i64 (-(cZ (bJ d e1 e2) (fE lo))))))) (fH ((dS (by have:=nP (bJ d e1 e2) (fE lo);omega) (by have:=nP (bJ d e1 e2) (fE lo);omega)).trans (by omega)))<|mW rfl<|mT<|aO<|tR<|rQ rfl (aG (by rw [show bJ c lo hi=fE lo from kE (by grind),iQ hW.ok.cut (kN lo)]))
 ·by_cases hb0:e1=e2
  ·exact aA<|mW rfl<|mY (eU (decide_eq_false ha)) rfl<|mT<|cFs rfl<|au<|cR<|mW rfl<|mY (eU (decide_eq_true hb0)) rfl<|mT<|cT rfl<|cR<|mv3 rfl rfl rfl<|mY (nO hV.cn hV.ok) rfl<|mW rfl<|mT<|aO<|tR<|rQ rfl (aG (by rw [show bJ d e1 e2=fE e1 from kE (by grind)]))
  ·exact absurd hpt (by rintro (k | k);exact ha k;exact hb0 k)
theorem WO{K KC X N G M KD L J Z:Nat}{c d:Nat→Int}{lo hi e1 e2:Rat}(hV:uD c lo hi)(hW:uD d e1 e2)(hx1:EX c lo hi)(hx2:EX d e1 e2)(hd10:lg d≤10)(D7:lg c≤10)(hN:N≤10)(ED:lg c≤N)(hK1:1≤K)(hG:(K+1)*(max (lg d+2-lg c) 1*3^lg c)≤G)(hG9:G≤90000)(uT:1≤M)(hB:Fa c M)(hKD:(M+2)*(2*3^N)≤KD)(afM:KD≤90000)(ny:KC≤90000)(hX:X≤90000)(hL:X≤2*L)(hJ:32*L+3+lS (lg c) (lg d) (14*K) (14*K)≤J)(hZ:3*(3*L+J / 32+2)≤Z:=by decide)(hZ9:Z≤90000:=by decide):aC Tryz.prog 13 [.agg ([.row 4 (lg c) (aK K (rc c))] ++ [aY (bF c KC) (fun L=>bH KC L)] ++qn X lo ++qn X hi),.agg ([.row 4 (lg d) (aK K (rc d))] ++ [aY (bF d KC) (fun L=>bH KC L)] ++qn X e1 ++qn X e2)] (.d (.one (.v (.int .i64 (cZ (bJ c lo hi) (bJ d e1 e2)))))):=by
 refine aC.l9 (fC Tryz.func13 rfl rfl) (p:=(Db K c∧Qb X lo∧Qb X hi)∧(Db K d∧Qb X e1∧Qb X e2)) (fun B w vs h=>match vs,h with | [_,_],⟨⟨cs,_,hl⟩,⟨ds,_,hk⟩,_⟩=>⟨O3 hV.ok.z hl,O3 hW.ok.z hk⟩) (fun hb=>?_);have hlc:=dK c;have hld:=dK d;have hKG:=(Gw.mk hG).bd;refine aN 59 [.tmp 4] Tryz.func13 rfl<|cR<|mO rfl<|mO rfl<|mW rfl<|mT<|au<|au ?_
 by_cases ha:lo=hi
 ·exact aA<|mW rfl<|mY (eU (decide_eq_true ha)) rfl<|mT<|cT rfl<|cR<|mv3 rfl rfl rfl<|mY (nO hW.cn hW.ok) rfl<|mV aj (.d (.one (.v (.int .i64 (-(cZ (bJ d e1 e2) (fE lo))))))) (fH ((dS (by have:=nP (bJ d e1 e2) (fE lo);omega) (by have:=nP (bJ d e1 e2) (fE lo);omega)).trans (by omega)))<|mW rfl<|mT<|aO<|tR<|rQ rfl (aG (by rw [show bJ c lo hi=fE lo from kE (by grind),iQ hW.ok.cut (kN lo)]))
 ·by_cases hb0:e1=e2
  ·exact aA<|mW rfl<|mY (eU (decide_eq_false ha)) rfl<|mT<|cFs rfl<|au<|cR<|mW rfl<|mY (eU (decide_eq_true hb0)) rfl<|mT<|cT rfl<|cR<|mv3 rfl rfl rfl<|mY (nO hV.cn hV.ok) rfl<|mW rfl<|mT<|aO<|tR<|rQ rfl (aG (by rw [show bJ d e1 e2=fE e1 from kE (by grind)]))
  ·refine aA<|mW rfl<|mY (eU (decide_eq_false ha)) rfl<|mT<|cFs rfl<|au<|cR<|mW rfl<|mY (eU (decide_eq_false hb0)) rfl<|mT<|cFs rfl<|au<|cR<|mv3 rfl rfl rfl<|mY (abb (N:=N) (G:=G) (M:=M) (KD:=KD) hW.ok.z hV hd10 D7 hN ED hK1 hG hG9 uT hB hKD afM ny hX) rfl<|mT<|aW rfl (fun hc1=>?_) (fun hc1=>?_)
   ·refine au ?_
    by_cases hk1:cZ (bJ c lo hi) (fE e1) > 0
    ·by_cases hk2:cZ (bJ c lo hi) (fE e2)≤0
     ·exact aA<|mv3 rfl rfl rfl<|mY (nO hV.cn hV.ok) rfl<|mdT rfl hk1<|mv4 rfl rfl rfl rfl<|mY (nO hV.cn hV.ok) rfl<|mdT rfl hk2<|mW rfl<|mT<|cT rfl<|cR<|mW rfl<|mT<|aO<|tR<|rQ rfl (aG (hV.same hW (by have:=hW.ok.le;grind) (of_decide_eq_true hc1) hk1 hk2).symm)
     ·refine aA<|mv3 rfl rfl rfl<|mY (nO hV.cn hV.ok) rfl<|mdT rfl hk1<|mv4 rfl rfl rfl rfl<|mY (nO hV.cn hV.ok) rfl<|mdF rfl hk2<|mW rfl<|mT<|cFs rfl<|aJ ?_;have hpq:e1 < e2:=by have:=hW.ok.le;grind
      have hne:=hV.unlike hW hpq (fun k=>by first | exact hk1 k.2.1 | exact hk2 k.2.2);have t1:Tb L lo:=Qb.tb (K:=L) (iO hb.1.2.1 (by omega)) (Nat.le_refl _);have t2':Tb L hi:=Qb.tb (K:=L) (iO hb.1.2.2 (by omega)) (Nat.le_refl _);have t3:Tb L e1:=Qb.tb (K:=L) (iO hb.2.2.1 (by omega)) (Nat.le_refl _);have t4:Tb L e2:=Qb.tb (K:=L) (iO hb.2.2.2 (by omega)) (Nat.le_refl _);refine dQ (ι:=Nat×Rat×Rat×Rat×Rat) (fun (p:Nat×Rat×Rat×Rat×Rat)=>match p with | (f,u1,u2,v1,v2)=>⟨59,[(2,.ptr 2 0),(3,.ptr 3 0)],[(2,.box 51 ([.row 4 (lg c) (aK K (rc c))] ++ [aY (bF c KC) (fun L=>bH KC L)] ++qn Z u1 ++qn Z u2)),(3,.box 51 ([.row 4 (lg d) (aK K (rc d))] ++ [aY (bF d KC) (fun L=>bH KC L)] ++qn Z v1 ++qn Z v2))]⟩) (fun (p:Nat×Rat×Rat×Rat×Rat)=>match p with | (f,u1,u2,v1,v2)=>IV c d L J (lS (lg c) (lg d) (14*K) (14*K)) f lo hi e1 e2 u1 u2 v1 v2) (fun (p:Nat×Rat×Rat×Rat×Rat)=>match p with | (f,u1,u2,v1,v2)=>f) (J,lo,hi,e1,e2) (IV.start hV.ok hW.ok hx1 hx2 t1 t2' t3 t4 (by omega)) (wk rfl ⟨hs rfl,hs rfl,trivial⟩ ⟨dX rfl (iY (gK (gK (fun B w cs h=>h) (eX (t1.qb (by omega)))) (eX (t2'.qb (by omega))))),dX rfl (iY (gK (gK (fun B w cs h=>h) (eX (t3.qb (by omega)))) (eX (t4.qb (by omega))))),trivial⟩ rfl) ?_;rintro ⟨f,u1,u2,v1,v2⟩ hI;have hI:IV c d L J (lS (lg c) (lg d) (14*K) (14*K)) f lo hi e1 e2 u1 u2 v1 v2:=hI;show AW _ _ _ ⟨_,_,_⟩
      refine aJ<|au<|au ?_
      by_cases hu:u1=u2
      ·exact aA<|mW rfl<|mY (eU (decide_eq_true hu)) rfl<|mW rfl<|mG rfl rfl<|mG rfl rfl<|mW rfl<|mT<|cT rfl<|cR<|mv2 rfl rfl<|mY (DK (hV.Np hI.n1) (hW.Np hI.n2) (Or.inl hu)) rfl<|mW rfl<|mT<|aO<|tR<|bR<|tR<|bR<|rQ rfl (aG hI.eq)
      ·by_cases hv:v1=v2
       ·exact aA<|mW rfl<|mY (eU (decide_eq_false hu)) rfl<|mv2 rfl rfl<|mY (eU (decide_eq_true hv)) rfl<|mW rfl<|mT<|cT rfl<|cR<|mv2 rfl rfl<|mY (DK (hV.Np hI.n1) (hW.Np hI.n2) (Or.inr hv)) rfl<|mW rfl<|mT<|aO<|tR<|bR<|tR<|bR<|rQ rfl (aG hI.eq)
       ·refine aA<|mW rfl<|mY (eU (decide_eq_false hu)) rfl<|mv2 rfl rfl<|mY (eU (decide_eq_false hv)) rfl<|mW rfl<|mT<|cFs rfl<|au<|cR<|mv4 rfl rfl rfl rfl<|mY (lZ (lq Z u2) (lq Z v1)) rfl<|mW rfl<|mT<|aW rfl (fun hc2=>?_) (fun hc2=>?_)
        ·exact cR<|mW rfl<|mT<|aO<|tR<|bR<|tR<|bR<|rQ rfl (aG (hI.lt hne (by have h0:=of_decide_eq_true hc2;exact dP.1 h0)).symm)
        ·refine aF<|tN<|au<|au ?_;have o1:¬ u2≤v1:=fun k=>by have h0:=of_decide_eq_false hc2;exact h0 (dP.2 k)
         refine aA<|mv4 rfl rfl rfl rfl<|mY (lZ (lq Z v2) (lq Z u1)) rfl<|mW rfl<|mT<|aW rfl (fun hc3=>?_) (fun hc3=>?_)
         ·exact cR<|mW rfl<|mT<|aO<|tR<|bR<|tR<|bR<|rQ rfl (aG (hI.gt hne (by have h0:=of_decide_eq_true hc3;exact dP.1 h0)).symm)
         ·refine aF<|tN ?_;have o2:¬ v2≤u1:=fun k=>by have h0:=of_decide_eq_false hc3;exact h0 (dP.2 k)
          have hf0:f≠0:=fun hf=>hI.no (vY hb.1.1) (vY hb.2.1) rfl hV hW hne hf o1 o2
          have hfl:=hI.fl;have hd1:=(hI.d1.mid.2.qb (X:=Z) (by omega)).1;have hd2:=(hI.d2.mid.2.qb (X:=Z) (by omega)).1;exact cDk 4<|oV rfl<|oC (yP (Y:=Z) hV.cn hI.n1.ok hI.x1 hd1) rfl<|oV rfl<|oC (yP (Y:=Z) hW.cn hI.n2.ok hI.x2 hd2) rfl<|.nil<|mZ rfl<|mZ rfl<|ak<|bN<|⟨((f-1),(hlf c u1 u2).1,(hlf c u1 u2).2,(hlf d v1 v2).1,(hlf d v1 v2).2),hI.go hf0 hV.cn hW.cn,by show f-1 < f;omega,wkr rfl rfl⟩
    ·refine aA<|mv3 rfl rfl rfl<|mY (nO hV.cn hV.ok) rfl<|mdF rfl hk1<|mW rfl<|mG rfl rfl<|mG rfl rfl<|mG rfl rfl<|mG rfl rfl<|mG rfl rfl<|mW rfl<|mT<|cFs rfl<|aJ ?_;have hpq:e1 < e2:=by have:=hW.ok.le;grind
     have hne:=hV.unlike hW hpq (fun k=>by first | exact hk1 k.2.1 | exact hk2 k.2.2);have t1:Tb L lo:=Qb.tb (K:=L) (iO hb.1.2.1 (by omega)) (Nat.le_refl _);have t2':Tb L hi:=Qb.tb (K:=L) (iO hb.1.2.2 (by omega)) (Nat.le_refl _);have t3:Tb L e1:=Qb.tb (K:=L) (iO hb.2.2.1 (by omega)) (Nat.le_refl _);have t4:Tb L e2:=Qb.tb (K:=L) (iO hb.2.2.2 (by omega)) (Nat.le_refl _);refine dQ (ι:=Nat×Rat×Rat×Rat×Rat) (fun (p:Nat×Rat×Rat×Rat×Rat)=>match p with | (f,u1,u2,v1,v2)=>⟨59,[(2,.ptr 2 0),(3,.ptr 3 0)],[(2,.box 51 ([.row 4 (lg c) (aK K (rc c))] ++ [aY (bF c KC) (fun L=>bH KC L)] ++qn Z u1 ++qn Z u2)),(3,.box 51 ([.row 4 (lg d) (aK K (rc d))] ++ [aY (bF d KC) (fun L=>bH KC L)] ++qn Z v1 ++qn Z v2))]⟩) (fun (p:Nat×Rat×Rat×Rat×Rat)=>match p with | (f,u1,u2,v1,v2)=>IV c d L J (lS (lg c) (lg d) (14*K) (14*K)) f lo hi e1 e2 u1 u2 v1 v2) (fun (p:Nat×Rat×Rat×Rat×Rat)=>match p with | (f,u1,u2,v1,v2)=>f) (J,lo,hi,e1,e2) (IV.start hV.ok hW.ok hx1 hx2 t1 t2' t3 t4 (by omega)) (wk rfl ⟨hs rfl,hs rfl,trivial⟩ ⟨dX rfl (iY (gK (gK (fun B w cs h=>h) (eX (t1.qb (by omega)))) (eX (t2'.qb (by omega))))),dX rfl (iY (gK (gK (fun B w cs h=>h) (eX (t3.qb (by omega)))) (eX (t4.qb (by omega))))),trivial⟩ rfl) ?_;rintro ⟨f,u1,u2,v1,v2⟩ hI;have hI:IV c d L J (lS (lg c) (lg d) (14*K) (14*K)) f lo hi e1 e2 u1 u2 v1 v2:=hI;show AW _ _ _ ⟨_,_,_⟩
     refine aJ<|au<|au ?_
     by_cases hu:u1=u2
     ·exact aA<|mW rfl<|mY (eU (decide_eq_true hu)) rfl<|mW rfl<|mG rfl rfl<|mG rfl rfl<|mW rfl<|mT<|cT rfl<|cR<|mv2 rfl rfl<|mY (DK (hV.Np hI.n1) (hW.Np hI.n2) (Or.inl hu)) rfl<|mW rfl<|mT<|aO<|tR<|bR<|tR<|bR<|rQ rfl (aG hI.eq)
     ·by_cases hv:v1=v2
      ·exact aA<|mW rfl<|mY (eU (decide_eq_false hu)) rfl<|mv2 rfl rfl<|mY (eU (decide_eq_true hv)) rfl<|mW rfl<|mT<|cT rfl<|cR<|mv2 rfl rfl<|mY (DK (hV.Np hI.n1) (hW.Np hI.n2) (Or.inr hv)) rfl<|mW rfl<|mT<|aO<|tR<|bR<|tR<|bR<|rQ rfl (aG hI.eq)
      ·refine aA<|mW rfl<|mY (eU (decide_eq_false hu)) rfl<|mv2 rfl rfl<|mY (eU (decide_eq_false hv)) rfl<|mW rfl<|mT<|cFs rfl<|au<|cR<|mv4 rfl rfl rfl rfl<|mY (lZ (lq Z u2) (lq Z v1)) rfl<|mW rfl<|mT<|aW rfl (fun hc4=>?_) (fun hc4=>?_)
       ·exact cR<|mW rfl<|mT<|aO<|tR<|bR<|tR<|bR<|rQ rfl (aG (hI.lt hne (by have h0:=of_decide_eq_true hc4;exact dP.1 h0)).symm)
       ·refine aF<|tN<|au<|au ?_;have o1:¬ u2≤v1:=fun k=>by have h0:=of_decide_eq_false hc4;exact h0 (dP.2 k)
        refine aA<|mv4 rfl rfl rfl rfl<|mY (lZ (lq Z v2) (lq Z u1)) rfl<|mW rfl<|mT<|aW rfl (fun hc5=>?_) (fun hc5=>?_)
        ·exact cR<|mW rfl<|mT<|aO<|tR<|bR<|tR<|bR<|rQ rfl (aG (hI.gt hne (by have h0:=of_decide_eq_true hc5;exact dP.1 h0)).symm)
        ·refine aF<|tN ?_;have o2:¬ v2≤u1:=fun k=>by have h0:=of_decide_eq_false hc5;exact h0 (dP.2 k)
         have hf0:f≠0:=fun hf=>hI.no (vY hb.1.1) (vY hb.2.1) rfl hV hW hne hf o1 o2
         have hfl:=hI.fl;have hd1:=(hI.d1.mid.2.qb (X:=Z) (by omega)).1;have hd2:=(hI.d2.mid.2.qb (X:=Z) (by omega)).1;exact cDk 4<|oV rfl<|oC (yP (Y:=Z) hV.cn hI.n1.ok hI.x1 hd1) rfl<|oV rfl<|oC (yP (Y:=Z) hW.cn hI.n2.ok hI.x2 hd2) rfl<|.nil<|mZ rfl<|mZ rfl<|ak<|bN<|⟨((f-1),(hlf c u1 u2).1,(hlf c u1 u2).2,(hlf d v1 v2).1,(hlf d v1 v2).2),hI.go hf0 hV.cn hW.cn,by show f-1 < f;omega,wkr rfl rfl⟩
   ·refine aF<|tN<|aJ ?_;have hpq:e1 < e2:=by have:=hW.ok.le;grind
    have hne:=hV.unlike hW hpq (fun k=>of_decide_eq_false hc1 k.1);have t1:Tb L lo:=Qb.tb (K:=L) (iO hb.1.2.1 (by omega)) (Nat.le_refl _);have t2':Tb L hi:=Qb.tb (K:=L) (iO hb.1.2.2 (by omega)) (Nat.le_refl _);have t3:Tb L e1:=Qb.tb (K:=L) (iO hb.2.2.1 (by omega)) (Nat.le_refl _);have t4:Tb L e2:=Qb.tb (K:=L) (iO hb.2.2.2 (by omega)) (Nat.le_refl _);refine dQ (ι:=Nat×Rat×Rat×Rat×Rat) (fun (p:Nat×Rat×Rat×Rat×Rat)=>match p with | (f,u1,u2,v1,v2)=>⟨59,[(2,.ptr 2 0),(3,.ptr 3 0)],[(2,.box 51 ([.row 4 (lg c) (aK K (rc c))] ++ [aY (bF c KC) (fun L=>bH KC L)] ++qn Z u1 ++qn Z u2)),(3,.box 51 ([.row 4 (lg d) (aK K (rc d))] ++ [aY (bF d KC) (fun L=>bH KC L)] ++qn Z v1 ++qn Z v2))]⟩) (fun (p:Nat×Rat×Rat×Rat×Rat)=>match p with | (f,u1,u2,v1,v2)=>IV c d L J (lS (lg c) (lg d) (14*K) (14*K)) f lo hi e1 e2 u1 u2 v1 v2) (fun (p:Nat×Rat×Rat×Rat×Rat)=>match p with | (f,u1,u2,v1,v2)=>f) (J,lo,hi,e1,e2) (IV.start hV.ok hW.ok hx1 hx2 t1 t2' t3 t4 (by omega)) (wk rfl ⟨hs rfl,hs rfl,trivial⟩ ⟨dX rfl (iY (gK (gK (fun B w cs h=>h) (eX (t1.qb (by omega)))) (eX (t2'.qb (by omega))))),dX rfl (iY (gK (gK (fun B w cs h=>h) (eX (t3.qb (by omega)))) (eX (t4.qb (by omega))))),trivial⟩ rfl) ?_;rintro ⟨f,u1,u2,v1,v2⟩ hI;have hI:IV c d L J (lS (lg c) (lg d) (14*K) (14*K)) f lo hi e1 e2 u1 u2 v1 v2:=hI;show AW _ _ _ ⟨_,_,_⟩
    refine aJ<|au<|au ?_
    by_cases hu:u1=u2
    ·exact aA<|mW rfl<|mY (eU (decide_eq_true hu)) rfl<|mW rfl<|mG rfl rfl<|mG rfl rfl<|mW rfl<|mT<|cT rfl<|cR<|mv2 rfl rfl<|mY (DK (hV.Np hI.n1) (hW.Np hI.n2) (Or.inl hu)) rfl<|mW rfl<|mT<|aO<|tR<|bR<|tR<|bR<|rQ rfl (aG hI.eq)
    ·by_cases hv:v1=v2
     ·exact aA<|mW rfl<|mY (eU (decide_eq_false hu)) rfl<|mv2 rfl rfl<|mY (eU (decide_eq_true hv)) rfl<|mW rfl<|mT<|cT rfl<|cR<|mv2 rfl rfl<|mY (DK (hV.Np hI.n1) (hW.Np hI.n2) (Or.inr hv)) rfl<|mW rfl<|mT<|aO<|tR<|bR<|tR<|bR<|rQ rfl (aG hI.eq)
     ·refine aA<|mW rfl<|mY (eU (decide_eq_false hu)) rfl<|mv2 rfl rfl<|mY (eU (decide_eq_false hv)) rfl<|mW rfl<|mT<|cFs rfl<|au<|cR<|mv4 rfl rfl rfl rfl<|mY (lZ (lq Z u2) (lq Z v1)) rfl<|mW rfl<|mT<|aW rfl (fun hc6=>?_) (fun hc6=>?_)
      ·exact cR<|mW rfl<|mT<|aO<|tR<|bR<|tR<|bR<|rQ rfl (aG (hI.lt hne (by have h0:=of_decide_eq_true hc6;exact dP.1 h0)).symm)
      ·refine aF<|tN<|au<|au ?_;have o1:¬ u2≤v1:=fun k=>by have h0:=of_decide_eq_false hc6;exact h0 (dP.2 k)
       refine aA<|mv4 rfl rfl rfl rfl<|mY (lZ (lq Z v2) (lq Z u1)) rfl<|mW rfl<|mT<|aW rfl (fun hc7=>?_) (fun hc7=>?_)
       ·exact cR<|mW rfl<|mT<|aO<|tR<|bR<|tR<|bR<|rQ rfl (aG (hI.gt hne (by have h0:=of_decide_eq_true hc7;exact dP.1 h0)).symm)
       ·refine aF<|tN ?_;have o2:¬ v2≤u1:=fun k=>by have h0:=of_decide_eq_false hc7;exact h0 (dP.2 k)
        have hf0:f≠0:=fun hf=>hI.no (vY hb.1.1) (vY hb.2.1) rfl hV hW hne hf o1 o2
        have hfl:=hI.fl;have hd1:=(hI.d1.mid.2.qb (X:=Z) (by omega)).1;have hd2:=(hI.d2.mid.2.qb (X:=Z) (by omega)).1;exact cDk 4<|oV rfl<|oC (yP (Y:=Z) hV.cn hI.n1.ok hI.x1 hd1) rfl<|oV rfl<|oC (yP (Y:=Z) hW.cn hI.n2.ok hI.x2 hd2) rfl<|.nil<|mZ rfl<|mZ rfl<|ak<|bN<|⟨((f-1),(hlf c u1 u2).1,(hlf c u1 u2).2,(hlf d v1 v2).1,(hlf d v1 v2).2),hI.go hf0 hV.cn hW.cn,by show f-1 < f;omega,wkr rfl rfl⟩
/-- There is one: by Bezout. -/
theorem abL{c d:Nat→Int}(zc:aZ c)(zd:aZ d)(hc:lg c≠0):∃ M g,nN c d M g:=by
 obtain ⟨δ,u,v,s,t,pδ,pu,pv,ps,pt,e1,e2,e3⟩:=Ip 20 (FF c) (FF d) (cu zc) ⟨rc d,ql zd,fun _=>rfl⟩;obtain ⟨x0,hx0⟩:=uz zc hc;have δne:∃ x,δ x≠0:=⟨x0,fun e=>hx0 (by rw [e2,e,Rat.mul_zero])⟩
 obtain ⟨kδ,aδ,hlδ⟩:=mM pδ δne;have hdv:Dv δ (FF c):=⟨s,ps,e2⟩;have hk:kδ+1≤20:=by
  have h1:=hdv.deg hlδ (Ep zc hc);have:=dK c;omega
 obtain ⟨q,hqz,_,_,hq⟩:=hlδ;obtain ⟨D,w,hD,hwz,hw⟩:=Eo (q:=q) (k:=kδ+1) (fun i hi=>hqz i (by omega));have zw:aZ w:=aZ.of hwz hk;have hDq:(D:Rat)≠0:=by
  have:(0:Rat) < (D:Rat):=by exact_mod_cast hD
  grind
 have hF:∀ x,FF w x=(D:Rat)*δ x:=fun x=>by
  rw [← xu hwz zw,hq];show pe (rc w) x (kδ+1)=_
  rw [show rc w=fO q (D:Rat) from funext hw,rO];exact Rat.mul_comm _ _
 have hi:Idl (FF c) (FF d) δ:=⟨⟨u,v,pu,pv,e1⟩,hdv,⟨t,pt,e3⟩⟩;have hi2:Idl (FF c) (FF d) (FF w):=hi.scale (s:=(D:Rat)⁻¹) (s':=(D:Rat)) (fun x=>by rw [hF];have:=Rat.inv_mul_cancel _ hDq;grind) hF;obtain ⟨s1,s2,g1,g2⟩:=F9 zw;have zp:=fZ zw;obtain ⟨M,_,hM⟩:=Jw zp;exact ⟨M,bC w,zp,hM,hi2.scale g1 g2,fun e=>jM zw (by rw [← dI zw];exact e)⟩
theorem aiD{c:Nat→Int}(zc:aZ c)(h2:2≤lg c)(h10:lg c≤10):∃ M,vH c M (eY c):=by
 have zp:=fZ zc;have hl:=dI zc;have pp:=jM zc (by omega);obtain ⟨M,g,hg⟩:=abL zp (eH zp) (by omega);obtain ⟨⟨M',h⟩,_⟩:=MO zp pp (by omega) (by omega) hg;have h3:=Ur zc (by omega) h;exact ⟨M',h3.self⟩
theorem U3{c:Nat→Int}{H n M:Nat}(zc:aZ c)(h0:lg c≠0)(hl:lg c≤n)(hH:∀ i,(c i).natAbs≤H)(hnH:n≤H)(h1:1≤H)(hM:n*(H*(2*H)^n)*(10*H)^n < B4^M):Fa c M:=by
 intro g zg hg hd;obtain ⟨hg0,hgl⟩:=lC zc zg h0 hd;obtain ⟨W,pW,hW⟩:=hd;obtain ⟨w,k,hw,hc,_⟩:=ni zc.lg zg.lg hg pW (fun x=>by rw [iD zc,iD zg];exact hW x);intro i;have hb:=Ob (H:=(H:Int)) zc.ip h0 zg.lg hw hc (fun i=>by have:=hH i;omega) (by omega) (by omega) i;have e:((lg c:Rat)*(((H:Int):Rat)*(2*((H:Int):Rat))^lg c)*(10*((H:Int):Rat))^lg g)=((lg c*(H*(2*H)^lg c)*(10*H)^lg g:Nat):Rat):=by
  have pc:∀ (a b:Nat),((a^b:Nat):Rat)=(a:Rat)^b:=fun a b=>by
   induction b with
   | zero=>rw [Rat.pow_zero];rfl
   | succ b ih=>rw [Nat.pow_succ,Rat.pow_succ,Rat.natCast_mul,ih]
  rw [Rat.natCast_mul,Rat.natCast_mul,Rat.natCast_mul,pc,pc,Rat.natCast_mul,Rat.natCast_mul];rfl
 rw [e] at hb;have hle:(g i).natAbs≤lg c*(H*(2*H)^lg c)*(10*H)^lg g:=by
  unfold Ab at hb;have b1:((g i:Int):Rat)≤(((lg c*(H*(2*H)^lg c)*(10*H)^lg g:Nat):Int):Rat):=hb.2;have b2:((-((lg c*(H*(2*H)^lg c)*(10*H)^lg g:Nat):Int):Int):Rat)≤((g i:Int):Rat):=by rw [Rat.intCast_neg];exact hb.1
  have c1:g i≤((lg c*(H*(2*H)^lg c)*(10*H)^lg g:Nat):Int):=by exact_mod_cast b1
  have c2: -((lg c*(H*(2*H)^lg c)*(10*H)^lg g:Nat):Int)≤g i:=by exact_mod_cast b2
  omega
 refine Nat.lt_of_le_of_lt (Nat.le_trans hle ?_) hM;exact Nat.mul_le_mul (Nat.mul_le_mul hl (Nat.mul_le_mul_left _ (Nat.pow_le_pow_right (by omega) hl))) (Nat.pow_le_pow_right (by omega) (by omega))
theorem Fa.mono{c:Nat→Int}{K L:Nat}(h:Fa c K)(k:K≤L):Fa c L:=fun g zg hg hd=>(h g zg hg hd).mono k
theorem Fa.dv{c d:Nat→Int}{K:Nat}(h:Fa c K)(k:Dv (FF d) (FF c)):Fa d K:=fun g zg hg hd=>h g zg hg (hd.trans k)
/-! ### Picked -/
def pw(cl:Nat→Int)(i:Nat):Int:=IntKind.i64.wrap (cl i+6)%13-6
def nJ(cl:Nat→Int)(n:Nat):Nat→Int:=fun i=>if i < min n 5 then pw cl i else 0
def uy(n d:Int):Rat:=dL (n%61-30) (1+d%6)
noncomputable def vK(cl:Nat→Int)(n:Nat):List (Rat×Rat):=rtF (eY (nJ cl n)) 56
noncomputable def pkA(cl:Nat→Int)(n:Nat)(k:Int):(Nat→Int)×Rat×Rat:=
 if 2≤lg (nJ cl n)∧(vK cl n).length≠0 then (eY (nJ cl n),((vK cl n).getD (k%((vK cl n).length:Int)).toNat (0,0)).1,((vK cl n).getD (k%((vK cl n).length:Int)).toNat (0,0)).2) else (ku (uy k n),uy k n,uy k n)
noncomputable def IY(cl:Nat→Int)(n:Nat)(k:Int):Nat→Int:=(pkA cl n k).1
noncomputable def Rn(cl:Nat→Int)(n:Nat)(k:Int):Rat:=(pkA cl n k).2.1
noncomputable def Rl(cl:Nat→Int)(n:Nat)(k:Int):Rat:=(pkA cl n k).2.2
theorem Ro(cl:Nat→Int)(i:Nat): -6≤pw cl i∧pw cl i≤6:=by unfold pw;omega
theorem OY(cl:Nat→Int)(n:Nat):∀ i,min n 5≤i→nJ cl n i=0:=fun i hi=>if_neg (by omega)
theorem rP(cl:Nat→Int)(n:Nat):aZ (nJ cl n):= .of (OY cl n) (by omega)
theorem Il(cl:Nat→Int)(n:Nat):lg (nJ cl n)≤5:=Nat.le_trans (iZ (rP cl n) (OY cl n)) (by omega)
theorem Ud(cl:Nat→Int)(n i:Nat):(nJ cl n i).natAbs≤6:=by
 unfold nJ;split
 ·have:=Ro cl i;omega
 ·exact Nat.zero_le _
theorem agR(cl:Nat→Int)(n:Nat):Db 1 (nJ cl n):=fun i=>by
 have h:=Ud cl n i;have e:B4^1=10000:=by decide
 omega
theorem FU{cl:Nat→Int}{n:Nat}(h:lg (nJ cl n)≠0):Fa (nJ cl n) 4:=U3 (rP cl n) h (Il cl n) (Ud cl n) (by decide) (by decide) (by decide)
/-- What is picked. -/
structure PkP(c:Nat→Int)(lo hi:Rat):Prop where
 v:uD c lo hi
 x:EX c lo hi
 pm:Pm (lg c) c
 b:Db 4 c
 l5:lg c≤5
 dv:Fa c 4
 sm:∃ p0,aZ p0∧(∀ i,(p0 i).natAbs≤30)∧lg p0≤5∧2≤lg p0∧Dv (FF c) (FF p0)∧(lg p0≤2∨∀ i,(p0 i).natAbs≤6)
theorem PkP.sq{c:Nat→Int}{lo hi:Rat}(h:PkP c lo hi):vH c 4 c:=Dj h.v.ok.z h.b.lb1 h.pm h.v.sq
theorem agw{n d:Int}(hd:0 < d):(dL n d).num.natAbs≤n.natAbs∧(dL n d).den≤d.natAbs:=by
 rw [jG (by omega)];obtain ⟨h1,h2⟩:=o7 (n:=n) hd;refine ⟨by rw [h1];exact Int.natAbs_ediv_le_natAbs _ _,?_⟩;have h3:((Rat.divInt n d).den:Int).natAbs≤d.natAbs:=by rw [h2];exact Int.natAbs_ediv_le_natAbs _ _
 exact h3
theorem aac(n d:Int):(uy n d).num.natAbs≤30∧(uy n d).den≤6:=by
 obtain ⟨h1,h2⟩:=agw (n:=n%61-30) (d:=1+d%6) (by omega);unfold uy;omega
theorem RD(n d:Int):Qb 1 (uy n d):=by
 obtain ⟨h1,h2⟩:=aac n d;have e:B4^1=10000:=by decide
 exact ⟨by omega,by omega⟩
theorem aiE(q:Rat):∃ L,Tb L q:=by
 refine ⟨q.num.natAbs+q.den,?_,?_⟩
 ·exact Nat.lt_of_lt_of_le (Nat.lt_of_lt_of_le Nat.lt_two_pow_self (Nat.pow_le_pow_left (show 2≤bP by decide) _)) (Nat.pow_le_pow_right (by decide) (by omega))
 ·exact Nat.lt_of_lt_of_le (Nat.lt_of_lt_of_le Nat.lt_two_pow_self (Nat.pow_le_pow_left (show 2≤bP by decide) _)) (Nat.pow_le_pow_right (by decide) (by omega))
theorem pkS{cl:Nat→Int}{n:Nat}(h2:2≤lg (nJ cl n)):(∃ M,vH (nJ cl n) M (eY (nJ cl n)))∧Db 4 (eY (nJ cl n))∧(∀ i,(eY (nJ cl n) i).natAbs≤2^56):=by
 obtain ⟨M,h⟩:=aiD (rP cl n) h2 (by have:=Il cl n;omega);have hb:Db 4 (eY (nJ cl n)):=FU (by omega) _ h.z h.pm.one h.dv;exact ⟨⟨M,h⟩,hb,vY (K:=4) hb⟩
theorem Ue{cl:Nat→Int}{n:Nat}(h2:2≤lg (nJ cl n)):RtP (eY (nJ cl n)) (vK cl n):=by
 obtain ⟨⟨M,h⟩,hb,b1⟩:=pkS h2;obtain ⟨L,hL⟩:=aiE (AY (eY (nJ cl n)));exact aes (Xw h (rP cl n) h2) b1 hL
theorem U9{α:Type}{l:List α}{i:Nat}{d:α}(h:i < l.length):l.getD i d∈l:=by
 rw [List.getD_eq_getElem?_getD,List.getElem?_eq_getElem h];exact List.getElem_mem h
theorem aj8(n d:Int):PkP (ku (uy n d)) (uy n d) (uy n d):=by
 have hb:=LJ (RD n d);have h30:∀ i,(ku (uy n d) i).natAbs≤30:=fun i=>by
  obtain ⟨h1,h2⟩:=aac n d
  match i with
  | 0=>show (-(uy n d).num).natAbs≤30;omega
  | 1=>show ((uy n d).den:Int).natAbs≤30;omega
  | i+2=>rw [yw _ (i+2) (by omega)];exact Nat.zero_le _
 exact ⟨Zv _,Or.inl rfl,TR _,hb.mono (by decide),by rw [nV];decide,(Td (rJ _) (nV _) hb (by decide)).mono (by decide),⟨ku (uy n d),rJ _,h30,by rw [nV];decide,by rw [nV];decide,Dv.refl _,Or.inl (by rw [nV];decide)⟩⟩
theorem LQ(k:Int){n:Nat}(h:n≠0):(k%(n:Int)).toNat < n:=by
 have h1:=Int.emod_nonneg k (show (n:Int)≠0 by omega);have h2:=Int.emod_lt_of_pos k (show (0:Int) < n by omega);omega
theorem aj3{cl:Nat→Int}{n:Nat}(h2:2≤lg (nJ cl n)){p:Rat×Rat}(hp:p∈vK cl n):PkP (eY (nJ cl n)) p.1 p.2:=by
 obtain ⟨⟨M,h⟩,hb,b1⟩:=pkS h2;obtain ⟨o,x⟩:=(Ue h2).ok p hp;have hl:=Il cl n;exact ⟨o,x,h.pm,hb,by have:=(lC (rP cl n) h.z (by omega) h.dv).2;omega,(FU (by omega)).dv h.dv,⟨nJ cl n,rP cl n,fun i=>by have:=Ud cl n i;omega,hl,h2,h.dv,Or.inr (Ud cl n)⟩⟩
theorem OZ(cl:Nat→Int)(n:Nat)(k:Int):PkP (IY cl n k) (Rn cl n k) (Rl cl n k):=by
 unfold IY Rn Rl pkA;split
 ·rename_i h
  exact aj3 h.1 (U9 (LQ k h.2))
 ·exact aj8 k n
theorem KF{n d:Int}(hn1: -9223372036854775808≤n)(hn2:n≤9223372036854775807)(hd1: -9223372036854775808≤d:=by omega)(hd2:d≤9223372036854775807:=by omega):aC Tryz.prog 19 [.one (.v (.int .i64 n)),.one (.v (.int .i64 d))] (.d (.agg (qn 64 (uy n d)))):=by
 exact aN 12 [.cell 4 49] Tryz.func19 rfl<|cR<|mO rfl<|mT<|cR<|mW rfl<|mY (Bv (v:=n) (n:=61) (by decide) (by decide) hn1 hn2) rfl<|mV aj (.d (.one (.v (.int .i64 (n%61-30))))) (fH (dS (by omega) (by omega)))<|mW rfl<|mY (Bv (v:=d) (n:=6) (by decide) (by decide) hd1 hd2) rfl<|mV aj (.d (.one (.v (.int .i64 (1+d%6))))) (fH (dS (by omega) (by omega)))<|mY (WW (n:=(n%61-30)) (d:=(1+d%6)) (by omega) (by omega) (by omega) (by omega)) rfl<|mZ rfl<|mT<|aO<|rQ rfl (uY (Nat.le_refl _) rfl)
theorem aky(z:Int): -9223372036854775808≤IntKind.i64.wrap z:=by rw [IntKind.wrap_i64];omega
theorem akx(z:Int):IntKind.i64.wrap z≤9223372036854775807:=by rw [IntKind.wrap_i64];omega
theorem afe{cl:Nat→Int}{i p:Nat}{B:BS}{w:World}{v:Value}(hp:p < i+1)(hv:eu B w (fB i (fun i _=> .v (.int .i64 (pw cl i))) (fun i' j'=>((([.v (.int .i64 (pw cl i))]:List Lf))[i'*1+j']?).getD (.v undef)) p 0) v):eu B w (.v (.int .i64 (pw cl p))) v:=by
 unfold fB at hv
 by_cases h:p < i
 ·rw [show Nat.ble (p+1) i=true from Nat.ble_eq_true_of_le h] at hv;exact hv
 ·obtain rfl:p=i:=by omega
  rw [show Nat.ble (p+1) p=false from by rw [← Bool.not_eq_true,Nat.ble_eq];omega,Nat.sub_self] at hv;exact hv
theorem agk{e:TypeId}{cl:Nat→Int}{i:Nat}:AO.le (.row e 1 (i+1) (fB i (fun i _=> .v (.int .i64 (pw cl i))) (fun i' j'=>((([.v (.int .i64 (pw cl i))]:List Lf))[i'*1+j']?).getD (.v undef)))) (.row e 1 (i+1) (fun i _=> .v (.int .i64 (pw cl i)))):=fV fun p hp j hj B w v hv=>by
 obtain rfl:j=0:=by omega
 exact afe hp hv
theorem aei{cl:Nat→Int}{n:Nat}:AV.le (.d (.one (dJ 64 (dg (rc (nJ cl n)) (min n 5)) (rc (nJ cl n))))) (.d (.one (dJ 1 (lg (nJ cl n)) (rc (nJ cl n))))):=oZ (uj (OY cl n) (rP cl n)) (by decide) (agR cl n)
theorem LZ{KC:Nat}{cl:Nat→Int}{n:Nat}{k:Int}(h:¬ (2≤lg (nJ cl n)∧(vK cl n).length≠0)):AV.le (.d (.agg (qac 64 (ku (uy k n)) KC 64 (uy k n) 64 (uy k n)))) (.d (.agg (qac 4 (IY cl n k) KC 1200 (Rn cl n k) 1200 (Rl cl n k)))):=by
 have hb:=LJ (RD k n);have hq:=RD k n;unfold IY Rn Rl pkA;rw [if_neg h];refine nT (gK (gK (gK (fun B w cs k=>match cs,k with | [v],⟨k,_⟩=>⟨wL (by decide) (fun i _=>(hb.mono (by decide)) i) B w v k,trivial⟩) (fun _ _ _ h=>h)) (eX (iO hq (by decide)))) (eX (iO hq (by decide))))
theorem ZI{KC:Nat}{cl:Nat→Int}{n:Nat}{k:Int}(h:2≤lg (nJ cl n)∧(vK cl n).length≠0):AV.le (.d (.agg (qac 4 (eY (nJ cl n)) KC 1200 ((vK cl n).getD (k%((vK cl n).length:Int)).toNat (0,0)).1 1200 ((vK cl n).getD (k%((vK cl n).length:Int)).toNat (0,0)).2))) (.d (.agg (qac 4 (IY cl n k) KC 1200 (Rn cl n k) 1200 (Rl cl n k)))):=by
 unfold IY Rn Rl pkA;rw [if_pos h];exact AV.le.rfl
theorem Z4{c:Nat→Int}(h:lg c≤5):rtD c 56 / 32≤83:=by
 unfold rtD lS;have h1:2*(lg c+lg c)*(56+56+(lg c+lg c)+8)≤2*(5+5)*(56+56+(5+5)+8):=Nat.mul_le_mul (by omega) (by omega);omega
theorem WM{cl:Nat→Int}{n:Nat}{k:Int}(hn:n≤9223372036854775807:=by decide)(hk1: -9223372036854775808≤k:=by decide)(hk2:k≤9223372036854775807:=by decide):aC Tryz.prog 9 [.one (YJ n cl),.one (.v (.int .i64 k))] (.d (.agg ([.row 4 (lg (IY cl n k)) (aK 4 (rc (IY cl n k)))] ++ [aY (bF (IY cl n k) 2916) (fun L=>bH 2916 L)] ++qn 1200 (Rn cl n k) ++qn 1200 (Rl cl n k)))):=by
 refine aN 56 [.cell 4 51] Tryz.func9 rfl<|cR<|mO rfl<|mT<|cR<|mW rfl<|mT<|au<|au<|AW.wk (qC 5 5 3 1 (fun _ _=> .v undef) rfl rfl)<|aA<|mW rfl<|mT<|aJ<|dQ (ι:=Nat) (fun (i:Nat)=>⟨56,[(0,.d (.one (.row 1 n (fun i _=> .v (.int .i64 (cl i)))))),(1,.d (.one (.v (.int .i64 k)))),(4,.ptr 4 0),(5,.own 5),(6,.d (.one (.v (.int .i64 ((i:Nat):Int)))))],[(4,.box 51 ([.v (.slice none 0 0),.v (.slice none 0 0),.v (.slice none 0 0),.v (.bool false),.v (.slice none 0 0),.v (.bool false),.v (.slice none 0 0),.v (.bool false),.v (.slice none 0 0),.v (.bool false)])),(5,.row 3 1 i (fun i _=> .v (.int .i64 (pw cl i))))]⟩) (fun (i:Nat)=>i≤min n 5) (fun (i:Nat)=>min n 5-i) 0 (Nat.zero_le _) (wk rfl ⟨hs rfl,hs rfl,hs rfl,hs rfl,fM rfl (aG rfl),trivial⟩ ⟨ho rfl,dX rfl (iL),trivial⟩ rfl) ?_;rintro i hI;have hi:i≤min n 5:=hI;show AW _ _ _ ⟨_,_,_⟩
 refine au<|au ?_
 by_cases hin:i < n
 ·by_cases hi5:i < 5
  ·refine aA<|mv3 rfl rfl rfl<|mdT rfl (by omega)<|mv2 rfl rfl<|mdT rfl (by omega)<|mW rfl<|mT<|cT rfl<|aF<|tN<|au<|aJ<|aA<|mv3 rfl rfl rfl<|mV aj (.d (.one (.at 1 ((fun i _=> .v (.int .i64 (cl i))) i)))) (lu (el:=(fun i _=> .v (.int .i64 (cl i)))) (z:=((i:Nat):Int)) (n:=n) rfl rfl rfl rfl rfl rfl (by omega) (by omega)) ?_;exact mv2 rfl rfl<|mY (Bv (v:=(IntKind.i64.wrap (cl i+6))) (n:=13) (by decide) (by decide) (aky _) (akx _)) rfl<|mV aj (.d (.one (.v (.int .i64 (pw cl i))))) (fH (dS (by omega) (by omega)))<|mB aj (.d (.one (.row 1 1 (fun i' j'=>(([.v (.int .i64 (pw cl i))])[i'*1+j']?).getD (.v undef))))) rfl<|mA aj (id:=5) (n:=i) (m:=1) (el:=(fun i _=> .v (.int .i64 (pw cl i)))) (el2:=(fun i' j'=>(([.v (.int .i64 (pw cl i))])[i'*1+j']?).getD (.v undef))) rfl rfl rfl (by show (i+1)*8≤140737488355328;omega) (by omega) rfl rfl rfl rfl rfl rfl rfl rfl rfl rfl<|mW rfl<|ak<|bN<|tN<|aA<|mv3 rfl rfl rfl<|ak<|⟨(i+1),by omega,by omega,wk rfl ⟨hs rfl,hs rfl,hs rfl,hs rfl,fM rfl (aG (dG (by omega))),trivial⟩ ⟨ho rfl,dX rfl (agk),trivial⟩ rfl⟩
  ·refine aA<|mv3 rfl rfl rfl<|mdT rfl (by omega)<|mv2 rfl rfl<|mdF rfl (by omega)<|mW rfl<|mT<|cF rfl<|dO<|tE<|tE<|bE<|tN<|au ?_;obtain rfl:i=min n 5:=by omega
   refine AW.wk (jf 5 rfl)<|aA<|mW rfl<|mY (aa5 (TJ (n:=(min n 5)) (c:=pw cl)) (fun i hi=>by show _≤(if i < min n 5 then pw cl i else 0)∧(if i < min n 5 then pw cl i else 0)≤_;rw [if_pos hi];have:=Ro cl i;omega) (by omega)) rfl<|mW rfl<|mT<|au<|au<|iJ 7 (.d (.one (.row 4 (lg (nJ cl n)) (aK 1 (rc (nJ cl n)))))) rfl (aei) ?_
   by_cases h2:2≤lg (nJ cl n)
   ·obtain ⟨⟨Ms,hS⟩,hb4,afR⟩:=pkS h2;have hR:=Ue h2;have hsl:=(lC (rP cl n) hS.z (by omega) hS.dv).2;have hrd:=Z4 (c:=eY (nJ cl n)) (by have:=Il cl n;omega);have hpl:=Il cl n;refine aA<|mv2 rfl rfl<|mdF rfl (by omega)<|mT<|cFs rfl<|cR<|mW rfl<|mY (Sl (K:=1) (M:=4) (KC:=2916) (N:=5) (X:=1200) (h1:=56) (Ms:=Ms) (c:=nJ cl n) (rP cl n) h2 (by decide) hpl (by decide) (by decide) (FU (by omega)) (by decide) (by decide) (by decide) (by decide) hS afR (by omega) (by decide)) rfl<|mW rfl<|mT<|au<|au<|cEx (Qx:=fun l=>l=rtF (eY (nJ cl n)) 56∧l.length≤1000000) (L:=fun l=> .row 10 l.length (uO 4 (eY (nJ cl n)) 2916 1200 l)) 8 rfl (fun l hl=>?_);obtain ⟨hl1,hrl⟩:=hl;have hl2:l=vK cl n:=hl1;subst hl2
    by_cases hr0:(vK cl n).length=0
    ·exact aA<|mv2 rfl rfl<|mbT rfl (beq_iff_eq.2 (by omega))<|mT<|cT rfl<|cR<|mv3 rfl rfl rfl<|mY (KF (n:=k) (d:=(n:Int)) hk1 hk2 (by omega) (by omega)) rfl<|mY (vP (X:=64) (KC:=2916) (t:=uy k n) (by decide) (by decide) (by decide)) rfl<|mZ rfl<|mT<|aO<|tR<|rQ rfl (LZ (fun h=>h.2 hr0))
    ·refine aA<|mv2 rfl rfl<|mbF rfl (beq_eq_false_iff_ne.2 (by omega))<|mT<|cFs rfl<|au ?_;have hml:=LQ k hr0;have hm0:0≤k%((vK cl n).length:Int):=Int.emod_nonneg _ (by omega);refine aA<|mv4 rfl rfl rfl rfl<|mY (Bv (v:=k) (n:=(vK cl n).length) (by omega) hrl hk1 hk2) rfl<|mV aj (.d (.one (.at 10 ((uO 4 (eY (nJ cl n)) 2916 1200 (vK cl n)) (((k%(((vK cl n).length:Nat):Int))).toNat))))) (lu (el:=(uO 4 (eY (nJ cl n)) 2916 1200 (vK cl n))) (z:=(k%(((vK cl n).length:Nat):Int))) (n:=((vK cl n).length)) rfl rfl rfl rfl rfl rfl hm0 (by omega)) ?_;exact mW rfl<|mZ rfl<|mT<|aO<|rQ rfl (ZI ⟨h2,hr0⟩)
   ·exact aA<|mv2 rfl rfl<|mdT rfl (by omega)<|mT<|cT rfl<|cR<|mv3 rfl rfl rfl<|mY (KF (n:=k) (d:=(n:Int)) hk1 hk2 (by omega) (by omega)) rfl<|mY (vP (X:=64) (KC:=2916) (t:=uy k n) (by decide) (by decide) (by decide)) rfl<|mZ rfl<|mT<|aO<|tR<|rQ rfl (LZ (fun h=>h2 h.1))
 ·refine aA<|mv3 rfl rfl rfl<|mdF rfl (by omega)<|mW rfl<|mG rfl rfl<|mG rfl rfl<|mW rfl<|mT<|cF rfl<|dO<|tE<|tE<|bE<|tN<|au ?_;obtain rfl:i=min n 5:=by omega
  refine AW.wk (jf 5 rfl)<|aA<|mW rfl<|mY (aa5 (TJ (n:=(min n 5)) (c:=pw cl)) (fun i hi=>by show _≤(if i < min n 5 then pw cl i else 0)∧(if i < min n 5 then pw cl i else 0)≤_;rw [if_pos hi];have:=Ro cl i;omega) (by omega)) rfl<|mW rfl<|mT<|au<|au<|iJ 7 (.d (.one (.row 4 (lg (nJ cl n)) (aK 1 (rc (nJ cl n)))))) rfl (aei) ?_
  by_cases h2:2≤lg (nJ cl n)
  ·obtain ⟨⟨Ms,hS⟩,hb4,afR⟩:=pkS h2;have hR:=Ue h2;have hsl:=(lC (rP cl n) hS.z (by omega) hS.dv).2;have hrd:=Z4 (c:=eY (nJ cl n)) (by have:=Il cl n;omega);have hpl:=Il cl n;refine aA<|mv2 rfl rfl<|mdF rfl (by omega)<|mT<|cFs rfl<|cR<|mW rfl<|mY (Sl (K:=1) (M:=4) (KC:=2916) (N:=5) (X:=1200) (h1:=56) (Ms:=Ms) (c:=nJ cl n) (rP cl n) h2 (by decide) hpl (by decide) (by decide) (FU (by omega)) (by decide) (by decide) (by decide) (by decide) hS afR (by omega) (by decide)) rfl<|mW rfl<|mT<|au<|au<|cEx (Qx:=fun l=>l=rtF (eY (nJ cl n)) 56∧l.length≤1000000) (L:=fun l=> .row 10 l.length (uO 4 (eY (nJ cl n)) 2916 1200 l)) 8 rfl (fun l hl=>?_);obtain ⟨hl1,hrl⟩:=hl;have hl2:l=vK cl n:=hl1;subst hl2
   by_cases hr0:(vK cl n).length=0
   ·exact aA<|mv2 rfl rfl<|mbT rfl (beq_iff_eq.2 (by omega))<|mT<|cT rfl<|cR<|mv3 rfl rfl rfl<|mY (KF (n:=k) (d:=(n:Int)) hk1 hk2 (by omega) (by omega)) rfl<|mY (vP (X:=64) (KC:=2916) (t:=uy k n) (by decide) (by decide) (by decide)) rfl<|mZ rfl<|mT<|aO<|tR<|rQ rfl (LZ (fun h=>h.2 hr0))
   ·refine aA<|mv2 rfl rfl<|mbF rfl (beq_eq_false_iff_ne.2 (by omega))<|mT<|cFs rfl<|au ?_;have hml:=LQ k hr0;have hm0:0≤k%((vK cl n).length:Int):=Int.emod_nonneg _ (by omega);refine aA<|mv4 rfl rfl rfl rfl<|mY (Bv (v:=k) (n:=(vK cl n).length) (by omega) hrl hk1 hk2) rfl<|mV aj (.d (.one (.at 10 ((uO 4 (eY (nJ cl n)) 2916 1200 (vK cl n)) (((k%(((vK cl n).length:Nat):Int))).toNat))))) (lu (el:=(uO 4 (eY (nJ cl n)) 2916 1200 (vK cl n))) (z:=(k%(((vK cl n).length:Nat):Int))) (n:=((vK cl n).length)) rfl rfl rfl rfl rfl rfl hm0 (by omega)) ?_;exact mW rfl<|mZ rfl<|mT<|aO<|rQ rfl (ZI ⟨h2,hr0⟩)
  ·exact aA<|mv2 rfl rfl<|mdT rfl (by omega)<|mT<|cT rfl<|cR<|mv3 rfl rfl rfl<|mY (KF (n:=k) (d:=(n:Int)) hk1 hk2 (by omega) (by omega)) rfl<|mY (vP (X:=64) (KC:=2916) (t:=uy k n) (by decide) (by decide) (by decide)) rfl<|mZ rfl<|mT<|aO<|tR<|rQ rfl (LZ (fun h=>h2 h.1))
section
open Go.RowKit Go.ChangeShapes Go.WideShapes
section
variable {H:Type} {enc:TypeId×Value→H} {P:Program} {w:World}
theorem abk{t e:TypeId}{fuel:Nat}{cs:List Value}{x:DataW H×List MemPlace}(ht:P.underlying t=some (.slice e))(he:P.underlying e=some (.int .i64))(hc:P.cellsOf e=1) 
  (h:DataW.trod enc P w 0 (fun _=>true) true fuel t cs=some x):∃ v n c,cs= [v]∧eu nb w (YJ n c) v∧n≤9223372036854775807∧∀ i,i < n→-9223372036854775808≤c i∧c i≤9223372036854775807:=by
 rcases open_ints ht he hc h with ⟨rfl,_⟩ | ⟨a,l,c,zs,rfl,_,hl,hm,hz,_,hcell,hwz⟩
 ·exact ⟨_,0,fun _=>0,rfl,⟨none,0,rfl,Nat.le_refl _,fun _=>rfl,fun i hi=>absurd hi (Nat.not_lt_zero _)⟩,Nat.zero_le _,fun i hi=>absurd hi (Nat.not_lt_zero _)⟩
 ·have hz':zs.length=c:=by simpa using hz
  have hmx:maxLen=9223372036854775807:=by decide
  refine ⟨_,l,fun i=>zs.getD i 0,rfl,⟨some a,c,rfl,hl,(fun e=>nomatch e),fun i hi=>?_⟩,by omega,fun i hi=>?_⟩
  ·have h0:=hcell 0 (by omega)
   obtain ⟨b,off,rfl⟩:=zN h0;have h1:=hcell i (by omega);rw [uF] at h1;refine ⟨b,off,rfl,fun h=>h.elim,World.block_lt_of_cell? w _ h1,fun q hq=>?_⟩;obtain rfl:q=0:=by omega
   exact ⟨_,by rw [Nat.mul_one,Nat.add_zero];exact h1,rfl,rfl⟩
  ·have hi':i < zs.length:=by omega
   show _≤zs.getD i 0∧zs.getD i 0≤_
   rw [List.getD_eq_getElem?_getD,List.getElem?_eq_getElem hi'];exact AX (hwz _ (List.getElem_mem hi'))
end
theorem agS{c d:Nat→Int}(h1:lg c≤5)(h2:lg d≤5):(4+1)*(max (lg d+2-lg c) 1*3^lg c)≤8505:=by
 have h3:3^lg c≤3^5:=Nat.pow_le_pow_right (by decide) h1;have h4:max (lg d+2-lg c) 1*3^lg c≤7*3^5:=Nat.mul_le_mul (by omega) h3;exact Nat.mul_le_mul_left 5 h4
theorem agT{c d:Nat→Int}(h1:lg c≤5)(h2:lg d≤5):32*600+3+lS (lg c) (lg d) (14*4) (14*4)≤22000:=by
 unfold lS;have h3:2*(lg c+lg d)*(14*4+14*4+(lg c+lg d)+8)≤2*(5+5)*(14*4+14*4+(5+5)+8):=Nat.mul_le_mul (by omega) (by omega);omega
end
theorem Y7(t x:Rat):FF (ku t) x=(t.den:Rat)*(x-t):=by
 rw [aec];have:=qO t;grind
theorem XL(t:Rat):(0:Rat) < (t.den:Rat):=by
 have h:=t.den_pos;exact_mod_cast h
theorem ags{C:qw}(hC:dV C)(t:Rat):PZ (FF (ku t)) C=cZ C (fE t):=by
 have hd:=XL t
 by_cases h:C t
 ·obtain ⟨r,h1,h2⟩:=hC.up t h
  obtain ⟨r2,h3⟩:=hC.hi;rw [vU hC h];have he:0 < (t.den:Rat)*(r-t):=Rat.mul_pos hd (by grind);refine MN hC ⟨(t.den:Rat)*(r-t),r,r2,he,h2,h3,fun x hx _=>?_⟩;rw [Y7];have hx2:(t.den:Rat)*(r-t)≤(t.den:Rat)*(x-t):=Rat.mul_le_mul_of_nonneg_left (by grind) (by grind);exact ⟨Or.inl hx2,gX (by grind)⟩
 ·by_cases h2:∃ q,q < t∧¬ C q
  ·obtain ⟨q,h3,h4⟩:=h2
   obtain ⟨q0,h5⟩:=hC.lo;rw [vV (D:=fE t) h3 h4];have he:0 < (t.den:Rat)*(t-q):=Rat.mul_pos hd (by grind);refine MN hC ⟨(t.den:Rat)*(t-q),q0,q,he,h5,h4,fun x _ hx=>?_⟩;rw [Y7];have hx2:(t.den:Rat)*(t-q)≤(t.den:Rat)*(t-x):=Rat.mul_le_mul_of_nonneg_left (by grind) (by grind);have hx3:(t.den:Rat)*(t-x)= -((t.den:Rat)*(x-t)):=by grind
   exact ⟨Or.inr (by grind),iT (by grind)⟩
  ·have hq:∀ q,C q↔fE t q:=fun q=>by
    constructor
    ·intro h3
     apply Classical.byContradiction;intro h4;have h5:¬ q < t:=h4;exact h (hC.down t q h3 (by grind))
    ·intro h3
     apply Classical.byContradiction;intro h4;exact h2 ⟨q,h3,h4⟩
   rw [jU hq,acN hq,aeu (cu (rJ t)),OI];rfl
/-- A heap: how many handles, their places (from 1 on, 0: not there), how many places, the handles at them. -/
structure HS where
 n:Nat
 pl:Nat→Nat
 m:Nat
 tr:Nat→Nat
structure IW(S:HS):Prop where
 tr:∀ k,k < S.m→S.tr k≠0∧S.tr k≤S.n∧S.pl (S.tr k-1)=k+1
 pl:∀ i,i < S.n→S.pl i=0∨(S.pl i≤S.m∧S.tr (S.pl i-1)=i+1)
def HS.lay(S:HS)(k h:Nat):HS:=⟨S.n,fun i=>if i=h-1 then k+1 else S.pl i,S.m,fun i=>if i=k then h else S.tr i⟩
def HS.swp(S:HS)(k c:Nat):HS:=(S.lay k (S.tr c)).lay c (S.tr k)
/-- The same handles are there. -/
structure Qg(S T:HS):Prop where
 n:T.n=S.n
 m:T.m=S.m
 pl:∀ i,i < S.n→(T.pl i=0↔S.pl i=0)
theorem Qg.rfl'(S:HS):Qg S S:=⟨rfl,rfl,fun _ _=>Iff.rfl⟩
theorem Qg.trans{S T U:HS}(h:Qg S T)(k:Qg T U):Qg S U:=⟨k.n.trans h.n,k.m.trans h.m,fun i hi=>(k.pl i (by rw [h.n];exact hi)).trans (h.pl i hi)⟩
section
variable {S:HS} {k c:Nat}
theorem IW.ne(h:IW S)(hk:k < S.m)(hc:c < S.m)(hne:k≠c):S.tr k-1≠S.tr c-1:=fun e=>by
 have h1:=(h.tr k hk).2.2;have h2:=(h.tr c hc).2.2;rw [e] at h1;omega
theorem uo(i:Nat):(S.swp k c).tr i=if i=c then S.tr k else if i=k then S.tr c else S.tr i:=rfl
theorem RH(i:Nat):(S.swp k c).pl i=if i=S.tr k-1 then c+1 else if i=S.tr c-1 then k+1 else S.pl i:=rfl
theorem IW.swp(h:IW S)(hk:k < S.m)(hc:c < S.m)(hne:k≠c):IW (S.swp k c):=by
 have hn:=h.ne hk hc hne;obtain ⟨a1,a2,a3⟩:=h.tr k hk;obtain ⟨b1,b2,b3⟩:=h.tr c hc;refine ⟨fun i hi=>?_,fun i hi=>?_⟩
 ·show (S.swp k c).tr i≠0∧(S.swp k c).tr i≤S.n∧_
  rw [uo,RH]
  by_cases e:i=c
  ·rw [if_pos e,if_pos rfl,e];exact ⟨a1,a2,rfl⟩
  by_cases e2:i=k
  ·rw [if_neg e,if_pos e2,if_neg (fun q=>hn q.symm),if_pos rfl,e2];exact ⟨b1,b2,rfl⟩
  ·rw [if_neg e,if_neg e2,if_neg (h.ne hi hk e2),if_neg (h.ne hi hc e)];exact h.tr i hi
 ·show (S.swp k c).pl i=0∨((S.swp k c).pl i≤S.m∧_)
  rw [uo,RH]
  by_cases e:i=S.tr k-1
  ·rw [if_pos e];exact Or.inr ⟨hc,by rw [Nat.add_sub_cancel,if_pos rfl];omega⟩
  by_cases e2:i=S.tr c-1
  ·rw [if_neg e,if_pos e2];exact Or.inr ⟨hk,by rw [Nat.add_sub_cancel,if_neg hne,if_pos rfl];omega⟩
  ·rw [if_neg e,if_neg e2]
   rcases h.pl i hi with h1 | ⟨h1,h2⟩
   ·exact Or.inl h1
   ·refine Or.inr ⟨h1,?_⟩
    rw [if_neg (fun q=>by rw [q] at h2;omega),if_neg (fun q=>by rw [q] at h2;omega)];exact h2
theorem Qg.swp(h:IW S)(hk:k < S.m)(hc:c < S.m):Qg S (S.swp k c):=by
 refine ⟨rfl,rfl,fun i hi=>?_⟩;obtain ⟨a1,a2,a3⟩:=h.tr k hk;obtain ⟨b1,b2,b3⟩:=h.tr c hc;rw [RH];split
 ·rename_i e;rw [e,a3];exact ⟨fun q=>by omega,fun q=>by omega⟩
 ·split
  ·rename_i e;rw [e,b3];exact ⟨fun q=>by omega,fun q=>by omega⟩
  ·exact Iff.rfl
end
/-- Not less is an order of those of n handles. -/
structure LO(lt:Nat→Nat→Prop)(n:Nat):Prop where
 asy:∀ a b,a≠0→b≠0→a≤n→b≤n→lt a b→¬ lt b a
 tra:∀ a b c,a≠0→b≠0→c≠0→a≤n→b≤n→c≤n→¬ lt b a→¬ lt c b→¬ lt c a
/-- In order, but for place k against what is above (u) or below it (d). -/
structure Fr(lt:Nat→Nat→Prop)(S:HS)(k:Nat)(u d:Bool):Prop where
 con:IW S
 a:∀ i,0 < i→i < S.m→(i=k→u=false)→((i-1) / 2=k→d=false)→¬ lt (S.tr i) (S.tr ((i-1) / 2))
 b:∀ i,0 < i→i < S.m→(i-1) / 2=k→0 < k→¬ lt (S.tr i) (S.tr ((k-1) / 2))
section
variable {lt:Nat→Nat→Prop} {S:HS} {k c:Nat} {d:Bool}
theorem IW.as(h:IW S)(o:LO lt S.n){i j:Nat}(hi:i < S.m)(hj:j < S.m)(hl:lt (S.tr i) (S.tr j)):¬ lt (S.tr j) (S.tr i):=o.asy _ _ (h.tr i hi).1 (h.tr j hj).1 (h.tr i hi).2.1 (h.tr j hj).2.1 hl
theorem IW.tra(h:IW S)(o:LO lt S.n){i j l:Nat}(hi:i < S.m)(hj:j < S.m)(hl:l < S.m)(h1:¬ lt (S.tr j) (S.tr i))(h2:¬ lt (S.tr l) (S.tr j)):¬ lt (S.tr l) (S.tr i):=o.tra _ _ _ (h.tr i hi).1 (h.tr j hj).1 (h.tr l hl).1 (h.tr i hi).2.1 (h.tr j hj).2.1 (h.tr l hl).2.1 h1 h2
theorem Fr.any{k':Nat}(h:Fr lt S k false false)(o:LO lt S.n){u d:Bool}:Fr lt S k' u d:=by
 have ha:∀ i,0 < i→i < S.m→¬ lt (S.tr i) (S.tr ((i-1) / 2)):=fun i h1 h2=>h.a i h1 h2 (fun _=>rfl) (fun _=>rfl)
 exact ⟨h.con,fun i h1 h2 _ _=>ha i h1 h2,fun i h1 h2 h3 h4=>h.con.tra o (by omega) (by omega) h2 (ha k' h4 (by omega)) (h3▸ha i h1 h2)⟩
theorem Fr.up(h:Fr lt S k true d)(o:LO lt S.n)(hk:k < S.m)(h0:0 < k)(hl:lt (S.tr k) (S.tr ((k-1) / 2))):Fr lt (S.swp k ((k-1) / 2)) ((k-1) / 2) true false:=by
 have hp:(k-1) / 2 < k:=by omega
 generalize hpe:(k-1) / 2=p at *
 have hyx:=h.con.as o hk (by omega) hl;refine ⟨h.con.swp hk (by omega) (by omega),fun i h1 h2 h3 _=>?_,fun i h1 h2 h3 h4=>?_⟩
 ·replace h3:i≠p:=fun e=>by cases h3 e
  replace h2:i < S.m:=h2
  rw [uo,uo,if_neg h3]
  by_cases e:i=k
  ·rw [if_pos e,e,hpe,if_pos rfl];exact hyx
  rw [if_neg e]
  by_cases e1:(i-1) / 2=p
  ·rw [if_pos e1]
   have h5:=h.a i h1 h2 (fun q=>absurd q e) (fun q=>by omega);rw [e1] at h5;exact h.con.tra o hk (by omega) h2 hyx h5
  rw [if_neg e1]
  by_cases e2:(i-1) / 2=k
  ·rw [if_pos e2]
   have h5:=h.b i h1 h2 e2 h0;rwa [hpe] at h5
  ·rw [if_neg e2]
   exact h.a i h1 h2 (fun q=>absurd q e) (fun q=>absurd q e2)
 ·replace h2:i < S.m:=h2
  rw [uo,uo,if_neg (show ¬ (p-1) / 2=p by omega),if_neg (show ¬ (p-1) / 2=k by omega),if_neg (show ¬ i=p by omega)];have h6:=h.a p h4 (by omega) (fun q=>by omega) (fun q=>by omega)
  by_cases e:i=k
  ·rw [if_pos e];exact h6
  ·rw [if_neg e]
   have h5:=h.a i h1 h2 (fun q=>absurd q e) (fun q=>by omega);rw [h3] at h5;exact h.con.tra o (by omega) (by omega) h2 h6 h5
theorem Fr.upE(h:Fr lt S k true d)(hl:k=0∨¬ lt (S.tr k) (S.tr ((k-1) / 2))):Fr lt S k false d:=by
 refine ⟨h.con,fun i h1 h2 _ h4=>?_,h.b⟩
 by_cases e:i=k
 ·rcases hl with hl | hl
  ·omega
  ·rw [e];exact hl
 ·exact h.a i h1 h2 (fun q=>absurd q e) h4
theorem Fr.dn(h:Fr lt S k false true)(o:LO lt S.n)(hc:c < S.m)(h0:0 < c)(hp:(c-1) / 2=k)(hl:lt (S.tr c) (S.tr k))(hb:∀ i,0 < i→i < S.m→(i-1) / 2=k→¬ lt (S.tr i) (S.tr c)):Fr lt (S.swp k c) c false true:=by
 have hk:k < c:=by omega
 refine ⟨h.con.swp (by omega) hc (by omega),fun i h1 h2 _ h4=>?_,fun i h1 h2 h3 _=>?_⟩
 ·replace h4:(i-1) / 2≠c:=fun e=>by cases h4 e
  replace h2:i < S.m:=h2
  rw [uo,uo,if_neg h4]
  by_cases e:i=c
  ·rw [if_pos e,e,hp,if_pos rfl];exact h.con.as o hc (by omega) hl
  rw [if_neg e]
  by_cases e1:i=k
  ·rw [if_pos e1,e1,if_neg (by omega)];exact h.b c h0 hc hp (by omega)
  rw [if_neg e1]
  by_cases e2:(i-1) / 2=k
  ·rw [if_pos e2];exact hb i h1 h2 e2
  ·rw [if_neg e2];exact h.a i h1 h2 (fun _=>rfl) (fun q=>absurd q e2)
 ·replace h2:i < S.m:=h2
  rw [uo,uo,hp,if_neg (show ¬ i=c by omega),if_neg (show ¬ i=k by omega),if_neg (show ¬ k=c by omega),if_pos rfl];have:=h.a i h1 h2 (fun _=>rfl) (fun q=>by omega);rwa [h3] at this
theorem Fr.dnE(h:Fr lt S k false true)(hb:∀ i,0 < i→i < S.m→(i-1) / 2=k→¬ lt (S.tr i) (S.tr k)):Fr lt S k false false:=by
 refine ⟨h.con,fun i h1 h2 _ _=>?_,h.b⟩
 by_cases e:(i-1) / 2=k
 ·rw [e];exact hb i h1 h2 e
 ·exact h.a i h1 h2 (fun _=>rfl) (fun q=>absurd q e)
/-- A heap. -/
def Hp(lt:Nat→Nat→Prop)(S:HS):Prop:=Fr lt S 0 false false
theorem Fr.hp(h:Fr lt S k false false)(o:LO lt S.n):Hp lt S:=h.any o
theorem Hp.root(h:Hp lt S)(o:LO lt S.n):∀ i,i < S.m→¬ lt (S.tr i) (S.tr 0)
 | 0,hi=>fun hl=>h.con.as o hi hi hl hl
 | i+1,hi=>h.con.tra o (by omega) (j:=i / 2) (by omega) hi (Hp.root h o (i / 2) (by omega)) (by
   have:=h.a (i+1) (by omega) hi (fun _=>rfl) (fun _=>rfl);simpa using this)
end
/-- An event: its tag (five numbers), its time. -/
abbrev ET:=(Nat→Int)×AT
def lV(e:ET):qw:=bJ e.2.1 e.2.2.1 e.2.2.2
def Nr(t u:Nat→Int):Prop:=∀ j,j < 5→t j=u j
def E5(t u:Nat→Int):Prop:=∃ i,i < 5∧(∀ j,j < i→t j=u j)∧t i < u i
theorem Nr.symm{t u:Nat→Int}(h:Nr t u):Nr u t:=fun j hj=>(h j hj).symm
theorem Nr.trans{t u v:Nat→Int}(h:Nr t u)(k:Nr u v):Nr t v:=fun j hj=>(h j hj).trans (k j hj)
theorem E5.cl{t u v:Nat→Int}(h:E5 t u)(k:Nr u v):E5 t v:=by
 obtain ⟨i,h1,h2,h3⟩:=h;exact ⟨i,h1,fun j hj=>(h2 j hj).trans (k j (by omega)),k i h1▸h3⟩
theorem E5.cr{t u v:Nat→Int}(h:Nr t u)(k:E5 u v):E5 t v:=by
 obtain ⟨i,h1,h2,h3⟩:=k;exact ⟨i,h1,fun j hj=>(h j (by omega)).trans (h2 j hj),h i h1▸h3⟩
theorem E5.trans{t u v:Nat→Int}(h:E5 t u)(k:E5 u v):E5 t v:=by
 obtain ⟨i,h1,h2,h3⟩:=h;obtain ⟨j,k1,k2,k3⟩:=k;rcases Nat.lt_trichotomy i j with e | rfl | e
 ·exact ⟨i,h1,fun l hl=>(h2 l hl).trans (k2 l (by omega)),k2 i e▸h3⟩
 ·exact ⟨i,h1,fun l hl=>(h2 l hl).trans (k2 l hl),by omega⟩
 ·exact ⟨j,k1,fun l hl=>(h2 l (by omega)).trans (k2 l hl),(h2 j e).symm▸k3⟩
theorem E5.ne{t u:Nat→Int}(h:E5 t u)(k:Nr t u):False:=by
 obtain ⟨i,h1,h2,h3⟩:=h;have:=k i h1;omega
theorem ahe(t u:Nat→Int):Nr t u∨E5 t u∨E5 u t:=by
 have key:∀ n,n≤5→(∀ j,j < n→t j=u j)∨E5 t u∨E5 u t:=by
  intro n
  induction n with
  | zero=>exact fun _=>Or.inl fun j hj=>absurd hj (Nat.not_lt_zero _)
  | succ n ih=>
   intro hn
   rcases ih (by omega) with h | h
   ·rcases Int.lt_trichotomy (t n) (u n) with e | e | e
    ·exact Or.inr (Or.inl ⟨n,hn,h,e⟩)
    ·exact Or.inl fun j hj=>if q:j=n then q▸e else h j (by omega)
    ·exact Or.inr (Or.inr ⟨n,hn,fun j hj=>(h j hj).symm,e⟩)
   ·exact Or.inr h
 exact key 5 (Nat.le_refl _)
/-- One event, of handle a, comes ahead of another. -/
def IX(e f:ET)(a b:Nat):Prop:=cZ (lV e) (lV f) < 0∨(cZ (lV e) (lV f)=0∧(E5 e.1 f.1∨(Nr e.1 f.1∧a < b)))
theorem QB{A B D:qw}(hA:dV A)(hB:dV B)(hD:dV D)(h:cZ A B≤0)(k:cZ B D≤0):cZ A D≤0:=(sQ hA hD).2 fun q hq=>(sQ hB hD).1 k q ((sQ hA hB).1 h q hq)
theorem XD{A B D:qw}(hA:dV A)(hB:dV B)(hD:dV D)(h:cZ A B≤0)(k:cZ B D≤0)(z:cZ A D=0):cZ A B=0∧cZ B D=0:=by
 have z':cZ D A=0:=by rw [iQ hA hD,z];rfl
 have h1:=QB hB hD hA k (by omega);have h2:=QB hD hA hB (by omega) h;have e1:=iQ hA hB;have e2:=iQ hB hD;omega
section
variable {e f g:ET} {a b c:Nat}
theorem IX.le(h:IX e f a b):cZ (lV e) (lV f)≤0:=by rcases h with h | h <;> omega
theorem IX.trans(hA:dV (lV e))(hB:dV (lV f))(hD:dV (lV g))(h:IX e f a b)(k:IX f g b c):IX e g a c:=by
 have hle:=QB hA hB hD h.le k.le
 by_cases z:cZ (lV e) (lV g)=0
 ·obtain ⟨z1,z2⟩:=XD hA hB hD h.le k.le z
  refine Or.inr ⟨z,?_⟩;rcases h with h | ⟨_,h⟩
  ·omega
  rcases k with k | ⟨_,k⟩
  ·omega
  rcases h with h | ⟨h,h'⟩ <;> rcases k with k | ⟨k,k'⟩
  ·exact Or.inl (h.trans k)
  ·exact Or.inl (h.cl k)
  ·exact Or.inl (k.cr h)
  ·exact Or.inr ⟨h.trans k,by omega⟩
 ·exact Or.inl (by omega)
theorem IX.asy(hA:dV (lV e))(hB:dV (lV f))(h:IX e f a b)(k:IX f e b a):False:=by
 have e1:=iQ hA hB;rcases h with h | ⟨h,h'⟩ <;> rcases k with k | ⟨k,k'⟩
 ·omega
 ·omega
 ·omega
 rcases h' with h | ⟨h,h2⟩ <;> rcases k' with k | ⟨k,k2⟩
 ·exact (h.trans k).ne (fun _ _=>rfl)
 ·exact h.ne k.symm
 ·exact k.ne h.symm
 ·omega
theorem IX.tri(hA:dV (lV e))(hB:dV (lV f))(hab:a≠b):IX e f a b∨IX f e b a:=by
 have e1:=iQ hA hB;rcases Int.lt_trichotomy (cZ (lV e) (lV f)) 0 with h | h | h
 ·exact Or.inl (Or.inl h)
 ·rcases ahe e.1 f.1 with k | k | k
  ·rcases Nat.lt_or_gt_of_ne hab with l | l
   ·exact Or.inl (Or.inr ⟨h,Or.inr ⟨k,l⟩⟩)
   ·exact Or.inr (Or.inr ⟨by omega,Or.inr ⟨k.symm,l⟩⟩)
  ·exact Or.inl (Or.inr ⟨h,Or.inl k⟩)
  ·exact Or.inr (Or.inr ⟨by omega,Or.inl k⟩)
 ·exact Or.inr (Or.inl (by omega))
end
/-- The order of handles. -/
def hL(ev:Nat→ET)(a b:Nat):Prop:=IX (ev (a-1)) (ev (b-1)) a b
theorem aiL{ev:Nat→ET}{n:Nat}(h:∀ i,i < n→dV (lV (ev i))):LO (hL ev) n:=by
 have hc:∀ a,a≠0→a≤n→dV (lV (ev (a-1))):=fun a h1 h2=>h (a-1) (by omega)
 refine ⟨fun a b a1 b1 a2 b2 h1 h2=>IX.asy (hc a a1 a2) (hc b b1 b2) h1 h2,fun a b c a1 b1 c1 a2 b2 c2 h1 h2 h3=>?_⟩;have ha:=hc a a1 a2;have hb:=hc b b1 b2;have hd:=hc c c1 c2
 by_cases e:a=b
 ·subst e;exact h2 h3
 by_cases e':b=c
 ·subst e';exact h1 h3
 have k1:hL ev a b:=(IX.tri hb ha (fun q=>e q.symm)).resolve_left h1;have k2:hL ev b c:=(IX.tri hd hb (fun q=>e' q.symm)).resolve_left h2;exact IX.asy ha hd (IX.trans ha hb hd k1 k2) h3
/-- Cells from place j on of element i are others. -/
def stE(i j:Nat)(cs:List Lf)(el:Nat→Nat→Lf):Nat→Nat→Lf:=fun p q=>if p=i∧j≤q∧q < j+cs.length then (cs[q-j]?).getD (.v undef) else el p q
section
variable {P:Program} {ops:Array Oper} {Q:Qs} {s:AS} {o:Oper} {l:List Oper}
theorem mSp{T:TypeId→Option TI}(hT:Bj P T){t:TypeId}{x y:Operand}{ti:TI}{d:DV}(id:Nat){i j sz e n:Nat}{el:Nat→Nat→Lf}{Zq:AO}(hop:o.op= .store t x y)(hti:T t=some ti)(hx:dM s x=some (.dU id sz i j))(hy:dM s y=some (.d d))(hob:lkP s.hp id=some (Zq,.row e sz n el))(hl:d.cells.length=ti.n)(hj:j+ti.n≤sz) 
  (k:AL P ops Q l (AS.put ⟨s.n,s.sl,(id,AO.put (.row e sz n (stE i j d.cells el)) Zq) ::s.hp⟩ o.dst .dead)) (hg:jP ops s o=some true:=by rfl) (hd:kP o.dst s.n=true:=by rfl):AL P ops Q (o ::l) s:=by
 rintro B0 w0 a w ⟨ρ,hc,hn,hdf,hsl⟩;obtain ⟨hob,hun⟩:=H6 hob
 replace hti:=hT _ _ hti
 obtain ⟨g,n',cap,hgi,hi,hxe⟩:=bY hsl hx;obtain ⟨vs,hv,YF⟩:=DR.cells (bY hsl hy);obtain ⟨ob,h1,h2⟩:=hc.obj id _ hgi;rw [hob] at h1;cases h1
 have h2n:=h2;have h2:=h2.un;rw [hun] at h2;obtain ⟨xs,⟨⟨hxl,hown2⟩,hbk⟩,hel⟩:=h2;rcases hown2 with ⟨he,_⟩ | ⟨g2,cap2,cur,he,hge,hblk,hn1,hm,hs,ht⟩
 ·cases he
 cases he
 have hb:kC w g e cur.toList:=by unfold kC;rw [hblk]
 have hlen:=YF.len;have mul:∀ {p:Nat},p < n→p*sz+sz≤n*sz:=fun {p} hp=>by
  have:(p+1)*sz≤n*sz:=Nat.mul_le_mul_right _ hp;rwa [Nat.add_mul,Nat.one_mul] at this
 have hend:=mul hi;have hcl:n*sz≤cur.toList.length:=by rw [Array.length_toList,hs];exact Nat.mul_le_mul_right _ hn1
 have hst:=IJ (w:=w) (b:=g) (o:=i*sz+j) hti hv (by omega) (fun q hq=>⟨by rw [hb.cell _ (by omega)];rfl,hb.free _⟩) YF.one;obtain ⟨k1,k2,k3,k4,k5,k6⟩:=qL vs (i*sz+j) w _ hb (by omega);obtain ⟨w',hw'⟩:∃ w',w'=w.setCells g (i*sz+j) vs:=⟨_,rfl⟩
 rw [← hw'] at hst k1 k2 k3 k4 k5 k6;have hbel:Jc w0 w':=hc.bel.put k4 k5 k6 (by omega) (g:=fun b=>b=g) (fun b e=>e▸hbk g rfl) (fun b hb hne=>k2 b hne);have hK:kL (Bd ρ B0) w w':=⟨by omega,fun b hb hB=>k2 b (fun e=>hB (Or.inr ⟨id,_,hgi,by rw [e];rfl⟩))⟩;have hll:(rF cur.toList (i*sz+j) vs).length=cap*sz:=by rw [Oz (by omega),Array.length_toList,hs]
 have hW:=fU.write (v':= .slice (some ⟨g,0,none⟩) n cap) (ob':=AO.put (.row e sz n (stE i j d.cells el)) Zq) (hp':=(id,AO.put (.row e sz n (stE i j d.cells el)) Zq) ::s.hp) hc hgi (w':=w') (fun b hb hne=>k2 b (fun e=>hne (by rw [e];rfl))) (by omega) hbel
  (fun b hb=>Or.inl hb) (fun k ob hk hne=>by rw [aV,if_neg (fun e=>hne e.symm)];exact hk) (by rw [aV,if_pos rfl]) (by
   rw [y9 hgi];refine h2n.put (new:= .row e sz n (stE i j d.cells el)) ⟨(rF cur.toList (i*sz+j) vs).take (n*sz),⟨⟨by rw [List.length_take,hll,Nat.min_eq_left (by rw [← hs,← Array.length_toList];exact hcl)],Or.inr ⟨g,cap,(rF cur.toList (i*sz+j) vs).toArray,rfl,hge,k1,hn1,hm,by simpa using hll,rfl⟩⟩,hbk⟩,fun p q hp hq=>?_⟩;have hpm:=mul hp;rw [List.getElem?_take,if_pos (by omega),Oy (by omega)]
   by_cases hpi:p=i∧j≤q∧q < j+d.cells.length
   ·obtain ⟨rfl,h3,h4⟩:=hpi
    rw [if_neg (by omega),if_pos (by omega),show p*sz+q-(p*sz+j)=q-j by omega];obtain ⟨lf,hl'⟩:∃ lf,d.cells[q-j]?=some lf:=⟨d.cells[q-j]'(by omega),by simp⟩
    obtain ⟨c,hc',hr⟩:=YF.get hl';refine ⟨c,hc',?_⟩;unfold stE;rw [if_pos ⟨rfl,h3,h4⟩,hl'];exact eu.mv hK (fun _ _ hB=>hB) _ hr
   ·obtain ⟨x,hx1,hx2⟩:=hel p q hp hq
    have YG:cur.toList[p*sz+q]?=some x:=by
     rw [← ht,List.getElem?_take,if_pos (by omega)] at hx1;exact hx1
    have hout:p*sz+q < i*sz+j∨i*sz+j+vs.length≤p*sz+q:=by
     rcases Nat.lt_trichotomy p i with hlt | rfl | hgt
     ·left
      have:(p+1)*sz≤i*sz:=Nat.mul_le_mul_right _ hlt;rw [Nat.add_mul,Nat.one_mul] at this;omega
     ·omega
     ·right
      have:(i+1)*sz≤p*sz:=Nat.mul_le_mul_right _ hgt;rw [Nat.add_mul,Nat.one_mul] at this;omega
    refine ⟨x,?_,?_⟩
    ·rcases hout with ho | ho
     ·rw [if_pos ho];exact YG
     ·rw [if_neg (by omega),if_neg (by omega)];exact YG
    ·unfold stE
     rw [if_neg hpi];exact eu.mv hK (fun _ _ hB=>hB) _ hx2)
 rw [y9 hgi] at hW;have hrun:(execOp a.eval o).run P w= .ok .skip w':=by
  unfold execOp;rw [hop];show (do Instr.storeAt t (a.eval x) (a.eval y);pure .skip:Sem Next).run P w=_
  rw [hxe];rw [Sem.run_bind,hst];rfl
 have fM:gq ρ (Bd ρ B0) w' s.sl a:=fun t av ht=>let ⟨u,h1,h2⟩:=hsl t av ht;⟨u,h1,AR.mv hK (fun _ _ hB=>hB) (fun _ _=>rfl) h2⟩
 exact IU (fQ hg hsl) hrun (k B0 w0 _ w' (lU (s:=⟨s.n,s.sl,(id,AO.put (.row e sz n (stE i j d.cells el)) Zq) ::s.hp⟩) hW.1 hn hdf fM hd trivial))
/-- Nothing is an empty row; a slot that is not needed says that it is there. -/
theorem UC(t id:Nat){e:TypeId}{sz:Nat}(el:Nat→Nat→Lf)(ht:Nat.ble (t+1) s.n=true)(h:lk s.hp id=none):Wk s ⟨s.n,(t,.wit id) ::s.sl,(id,.is (.slice none 0 0) (.row e sz 0 el)) ::s.hp⟩:=by
 rintro B0 w0 a w ⟨ρ,hc,hn,hdf,hs⟩;have ht':t < s.n:=Nat.le_of_ble_eq_true ht;have hρ:ρ id=none:=by
  cases hq:ρ id with
  | none=>rfl
  | some v=>obtain ⟨ob,q1,_⟩:=hc.obj id v hq;rw [h] at q1;cases q1
 have hbd:∀ b,b < w.heap.size→Bd (up ρ id (.slice none 0 0)) B0 b→Bd ρ B0 b:=AQ hρ (fun b hb=>by cases hb)
 have hK:kL (Bd ρ B0) w w:=⟨Nat.le_refl _,fun _ _ _=>rfl⟩;have hu:∀ k,k≠id→up ρ id (.slice none 0 0) k=ρ k:=fun k hk=>by unfold up;rw [if_neg hk]
 refine ⟨up ρ id (.slice none 0 0),fU.new (ob:= .is (.slice none 0 0) (.row e sz 0 el)) (hp':=(id,.is (.slice none 0 0) (.row e sz 0 el)) ::s.hp) hc hρ (Below.refl _ _) (fun b hb=>by cases hb) (fun k ob hk hne=>by rw [aV,if_neg (fun e=>hne e.symm)];exact hk) (by rw [aV,if_pos rfl]) ⟨rfl,[],⟨⟨by simp,Or.inl ⟨rfl,rfl⟩⟩,fun b hb=>by cases hb⟩,fun i j hi=>absurd hi (Nat.not_lt_zero _)⟩,hn,hdf,fun u av hu'=>?_⟩;rw [aV] at hu';split at hu'
 ·rename_i e
  cases hu'
  subst e;exact ⟨a.tmps[t]'(by omega),by simp,.slice none 0 0,by simp [up]⟩
 ·obtain ⟨v,q1,q2⟩:=hs u av hu'
  exact ⟨v,q1,AR.new hρ (Below.refl _ _) (fun b hb=>by cases hb) q2⟩
/-- Five numbers. -/
abbrev vw(t:Nat→Int):List Lf:= [.v (.int .i64 (t 0)),.v (.int .i64 (t 1)),.v (.int .i64 (t 2)),.v (.int .i64 (t 3)),.v (.int .i64 (t 4))]
theorem aar{B:BS}{w:World}{t:Nat→Int}{v:Value}(h:DR B w (.agg (vw t)) v):v= .agg #[.int .i64 (t 0),.int .i64 (t 1),.int .i64 (t 2),.int .i64 (t 3),.int .i64 (t 4)]:=by
 obtain ⟨cs,rfl,h⟩:=h;have hl:=h.len
 match cs,hl with
 | [a,b,c,d,e],_=>
  obtain ⟨⟨h0,_⟩,⟨h1,_⟩,⟨h2,_⟩,⟨h3,_⟩,⟨h4,_⟩,_⟩:=h;rw [h0,h1,h2,h3,h4]
theorem AA{P:Program}{t:TypeId}{k:IntKind}{w:World}{cs:Array Value}{i:Nat}{v:Value}(hu:P.underlying t=some (.int k))(h:cs[i]?=some v):(part t cs i).run P w= .ok v w:=by
 simp [part,isAgg,run_underlying hu,h]
theorem acJ{P : Program}(w : World){t i ar : TypeId}{f0 f1 : Field}(hu : P.underlying t = some (.struct #[f0, f1]))(hst : P.stoodInHeld t = false)(hn0 : f0.name ≠ "_")(hn1 : f1.name ≠ "_")(ht0 : f0.type = i)(ht1 : f1.type = ar)(ho0 : f0.offset = 0)(ho1 : f1.offset = 1) 
  (hi:P.underlying i=some (.int .i64)) (ha:P.underlying ar=some (.array 4 i)) (hsi:∀ w,(sizeOf i).run P w= .ok 1 w) (hsa:∀ w,(sizeOf ar).run P w= .ok 4 w) (a0 a1 a2 a3 a4 b0 b1 b2 b3 b4:Int):
  (Op.equalIn 10000 t (.agg #[.int .i64 a0,.int .i64 a1,.int .i64 a2,.int .i64 a3,.int .i64 a4]) (.agg #[.int .i64 b0,.int .i64 b1,.int .i64 b2,.int .i64 b3,.int .i64 b4])).run P w= .ok (a0==b0 && (a1==b1 && (a2==b2 && (a3==b3 && a4==b4)))) w:=by
 have hf:P.fieldsOf t=#[f0,f1]:=by unfold Program.fieldsOf;rw [hu]
 have ei:∀ (d:Nat) (x y:Int) (w:World),(Op.equalIn (d+1) i (.int .i64 x) (.int .i64 y)).run P w= .ok (x==y) w:=fun d x y w=>run_equalIn_int w d i .i64 .i64 x y hi
 have pa:∀ (c0 c1 c2 c3 c4:Value) (w:World),(part ar #[c0,c1,c2,c3,c4] 1).run P w= .ok (.agg #[c1,c2,c3,c4]) w:=fun c0 c1 c2 c3 c4 w=>by
  simp [part,isAgg,run_underlying ha,hsa]
 have ea:∀ (d:Nat) (w:World),(Op.equalIn (d+2) ar (.agg #[.int .i64 a1,.int .i64 a2,.int .i64 a3,.int .i64 a4]) (.agg #[.int .i64 b1,.int .i64 b2,.int .i64 b3,.int .i64 b4])).run P w= .ok (a1==b1 && (a2==b2 && (a3==b3 && a4==b4))) w:=fun d w=>by
  have pp:∀ (cs:Array Value) (q:Nat) (v:Value) (w:World),cs[q]?=some v→(part i cs q).run P w= .ok v w:=fun cs q v w h=>AA hi h
  have h4: [0:4]=({stop:=4,step_pos:=Nat.one_pos}:Std.Legacy.Range):=rfl;rw [Op.equalIn];simp only [Sem.run_bind,run_underlying ha,Result.andThen_ok,hsi];simp [Std.Legacy.Range.forIn_eq_forIn_range',List.range',ei,AA hi,Sem.run_bind];cases e1:a1==b1 <;> cases e2:a2==b2 <;> cases e3:a3==b3 <;> cases e4:a4==b4 <;> simp_all [Sem.run_bind]
 rw [run_equalIn_agg w 9999 t _ _ (by rw [hf];exact hu) hst,hf];subst ht0;subst ht1;have p0:∀ (c0 c1 c2 c3 c4:Value) (w:World),(part f0.type #[c0,c1,c2,c3,c4] 0).run P w= .ok c0 w:=fun c0 c1 c2 c3 c4 w=>AA hi (by simp)
 simp only [Op.eqFields,if_pos hn0,if_pos hn1,ho0,ho1,Sem.run_bind,p0,Result.andThen_ok,ei 9998,pa,ea 9997];cases e0:a0==b0
 ·simp
 ·simp only [Bool.not_true,Bool.false_eq_true,if_false,Sem.run_bind,pa,Result.andThen_ok,ea 9997,Bool.true_and]
  cases a1==b1 && (a2==b2 && (a3==b3 && a4==b4)) <;> simp
def b5(a b:Nat→Int):Bool:=a 0==b 0 && (a 1==b 1 && (a 2==b 2 && (a 3==b 3 && a 4==b 4)))
theorem xT5{t i ar:TypeId}{f0 f1:Field}{x y:Operand}{op:BinOp}{yt:TypeId}{a b:Nat→Int}(r:Bool)(hop:o.op= .binOp op t x y yt)(hr:(op= .neq∧r= !b5 a b)∨(op= .eql∧r=b5 a b))(hx:dM s x=some (.d (.agg (vw a))))(hy:dM s y=some (.d (.agg (vw b))))(hm:P.eqGuardType P.depth t=false) 
  (hu : P.underlying t = some (.struct #[f0, f1])) (hst : P.stoodInHeld t = false) (hn0 : f0.name ≠ "_") (hn1 : f1.name ≠ "_") (ht0 : f0.type = i) (ht1 : f1.type = ar) (ho0 : f0.offset = 0) (ho1 : f1.offset = 1)
  (hi:P.underlying i=some (.int .i64)) (ha:P.underlying ar=some (.array 4 i)) (hsi:∀ w,(sizeOf i).run P w= .ok 1 w) (hsa:∀ w,(sizeOf ar).run P w= .ok 4 w):EvX P s o (.d (.one (.v (.bool r)))):=by
 intro ρ B w ac ho;have e1:=aar (show DR B w (.agg (vw a)) (ac.eval x) from ho x (by rw [hop];simp [Op.operands]) _ hx);have e2:=aar (show DR B w (.agg (vw b)) (ac.eval y) from ho y (by rw [hop];simp [Op.operands]) _ hy);have h5:=fun w=>acJ (P:=P) w hu hst hn0 hn1 ht0 ht1 ho0 ho1 hi ha hsi hsa (a 0) (a 1) (a 2) (a 3) (a 4) (b 0) (b 1) (b 2) (b 3) (b 4)
 refine ⟨.bool r,?_,rfl,rfl⟩;unfold execOp;rw [hop];refine dF ?_;rw [e1,e2];simp only [Sem.run_bind,run_eqGuard_agg w op t x y _ _ hm,Result.andThen_ok];rcases hr with ⟨rfl,rfl⟩ | ⟨rfl,rfl⟩
 ·rw [run_neq_struct,h5];rfl
 ·rw [run_eql_struct,h5];rfl
theorem acK{w:World}{t elem:TypeId}{len i sz:Nat}{k:IntKind}{ad:Addr}(hu:P.underlying t=some (.array len elem))(hs:∀ w,(sizeOf elem).run P w= .ok sz w)(h:i < len):(Instr.indexAt t (.pointer (some ad)) (.int k ((i:Nat):Int))).run P w= .ok (.pointer (some (ad.add (i*sz)))) w:=by
 have hz:0≤((i:Nat):Int)∧((i:Nat):Int) < (len:Int):=⟨by omega,by omega⟩;simp [Instr.indexAt,asIntOf,Sem.run_bind,run_underlying hu,Instr.sureAddr,hz,hs,h]
/-- An array's element, in an object. -/
theorem jZ{t elem:TypeId}{len i sz id off:Nat}{x ix:Operand}{k:IntKind}(hop:o.op= .indexAddr t x ix)(hu:P.underlying t=some (.array len elem))(hs:∀ w,(sizeOf elem).run P w= .ok sz w)(hx:dM s x=some (.ptr id off))(hi:dM s ix=some (.d (.one (.v (.int k ((i:Nat):Int))))))(h:i < len):EvX P s o (.ptr id (off+i*sz)):=by
 intro ρ B w a ho;obtain ⟨g,h1,e1⟩:AR ρ B w (.ptr id off) (a.eval x):=ho x (by rw [hop];simp [Op.operands]) _ hx;have e2:a.eval ix= .int k ((i:Nat):Int):=(ho ix (by rw [hop];simp [Op.operands]) _ hi:eu _ _ _ _).1;refine ⟨_,?_,g,h1,rfl⟩;unfold execOp;rw [hop];refine dF ?_;rw [e1,e2,acK hu hs h,add_lit]
end
/-- An event's cells; those of a heap's row of events, of its tree, of a row of events. -/
abbrev nI(e:ET):List Lf:=vw e.1 ++yR 4 e.2.1 1200 e.2.2.1 1200 e.2.2.2
def gY(ev:Nat→ET)(pl:Nat→Nat):Nat→Nat→Lf:=fun i j=>((nI (ev i) ++ [.v (.int .i64 ((pl i:Nat):Int))])[j]?).getD (.v undef)
def iw(tr:Nat→Nat):Nat→Nat→Lf:=fun i _=> .v (.int .i64 ((tr i:Nat):Int))
def wU(ev:Nat→ET):Nat→Nat→Lf:=fun i j=>((nI (ev i))[j]?).getD (.v undef)
/-- An event that is as it is to be. -/
structure HE(e:ET):Prop where
 v:uD e.2.1 e.2.2.1 e.2.2.2
 l5:lg e.2.1≤5
theorem HE.z{e:ET}(h:HE e):aZ e.2.1:=h.v.ok.z
theorem HE.cut{e:ET}(h:HE e):dV (lV e):=h.v.ok.cut
theorem wW{ev:Nat→ET}(h:∀ i,HE (ev i))(n:Nat):LO (hL ev) n:=aiL fun i _=>(h i).cut
/-- A function, at one place another. -/
def dR{α:Type}(f:Nat→α)(i:Nat)(x:α):Nat→α:=fun p=>if p=i then x else f p
theorem yL{α:Type}{q:α→Prop}{f:Nat→α}{i:Nat}{x:α}(h:∀ i,q (f i))(hx:q x)(j:Nat):q (dR f i x j):=by
 unfold dR;split
 ·exact hx
 ·exact h j
theorem Hq{x:Value}{a b:AO}(h:AO.le a b):AO.le (.is x a) (.is x b):=fun _ _ _ _ k=>⟨k.1,h _ _ _ _ k.2⟩
theorem abH(e:ET):(nI e).length=14:=rfl
theorem YL{ev:Nat→ET}{pl:Nat→Nat}{i j:Nat}(h:j < 14):gY ev pl i j=((nI (ev i))[j]?).getD (.v undef):=by
 unfold gY;rw [List.getElem?_append_left (by rw [abH];exact h)]
theorem YM{ev:Nat→ET}{pl:Nat→Nat}{i:Nat}:gY ev pl i 14= .v (.int .i64 ((pl i:Nat):Int)):=rfl
theorem ace{e:TypeId}{m k h:Nat}{z:Int}{tr:Nat→Nat}(hz:z=((h:Nat):Int)):AO.le (.row e 1 m (fun p' q'=>if p'=k then (([.v (.int .i64 z)]:List Lf)[q']?).getD (.v undef) else iw tr p' q')) (.row e 1 m (iw (fun i=>if i=k then h else tr i))):=fV fun i hi j hj B w v hv=>by
 subst hz;obtain rfl:j=0:=by omega
 unfold iw at hv ⊢;show eu B w (.v (.int .i64 ((if i=k then h else tr i:Nat):Int))) v
 by_cases e:i=k
 ·rw [if_pos e] at hv ⊢;exact hv
 ·rw [if_neg e] at hv ⊢;exact hv
theorem TP{e:TypeId}{n i v:Nat}{z:Int}{ev:Nat→ET}{pl:Nat→Nat}(hz:z=((v:Nat):Int)):AO.le (.row e 15 n (stE i 14 [.v (.int .i64 z)] (gY ev pl))) (.row e 15 n (gY ev (fun p=>if p=i then v else pl p))):=fV fun p hp j hj B w c hc=>by
 subst hz;unfold stE at hc
 by_cases h14:j=14
 ·subst h14
  rw [YM]
  by_cases e:p=i
  ·rw [if_pos ⟨e,Nat.le_refl _,Nat.lt_succ_self _⟩] at hc
   rw [if_pos e];exact hc
  ·rw [if_neg (fun q=>e q.1),YM] at hc
   rw [if_neg e];exact hc
 ·rw [if_neg (fun q=>by omega),YL (by omega)] at hc
  rw [YL (by omega)];exact hc
theorem Qn{n p j:Nat}{el el2:Nat→Nat→Lf}(h:p < n+1):fB n el el2 p j=if p=n then el2 0 j else el p j:=by
 unfold fB
 by_cases e:p=n
 ·rw [if_pos e,e,show Nat.ble (n+1) n=false from by rw [← Bool.not_eq_true,Nat.ble_eq];omega,Nat.sub_self];rfl
 ·rw [if_neg e,show Nat.ble (p+1) n=true from Nat.ble_eq_true_of_le (by omega)];rfl
theorem ab8{t:TypeId}{n:Nat}{ev:Nat→ET}{pl:Nat→Nat}{e:ET}{el2:Nat→Nat→Lf}(h2:∀ j,j < 15→el2 0 j=((nI e ++ [.v (.int .i64 0)])[j]?).getD (.v undef)):AO.le (.row t 15 (n+1) (fB n (gY ev pl) el2)) (.row t 15 (n+1) (gY (dR ev n e) (dR pl n 0))):=fV fun p hp j hj B w c hc=>by
 rw [Qn hp] at hc;unfold gY dR
 by_cases h:p=n
 ·rw [if_pos h,h2 j hj] at hc
  rw [if_pos h,if_pos h];exact hc
 ·rw [if_neg h] at hc
  rw [if_neg h,if_neg h];exact hc
theorem acd{t:TypeId}{n h:Nat}{tr:Nat→Nat}{el2:Nat→Nat→Lf}(h2:el2 0 0= .v (.int .i64 ((h:Nat):Int))):AO.le (.row t 1 (n+1) (fB n (iw tr) el2)) (.row t 1 (n+1) (iw (dR tr n h))):=fV fun p hp j hj B w c hc=>by
 obtain rfl:j=0:=by omega
 rw [Qn hp] at hc;unfold iw dR
 by_cases h:p=n
 ·rw [if_pos h,h2] at hc
  rw [if_pos h];exact hc
 ·rw [if_neg h] at hc
  rw [if_neg h];exact hc
theorem ab7{t:TypeId}{n:Nat}{ev:Nat→ET}{e:ET}{el2:Nat→Nat→Lf}(h2:∀ j,j < 14→el2 0 j=((nI e)[j]?).getD (.v undef)):AO.le (.row t 14 (n+1) (fB n (wU ev) el2)) (.row t 14 (n+1) (wU (dR ev n e))):=fV fun p hp j hj B w c hc=>by
 rw [Qn hp] at hc;unfold wU dR
 by_cases h:p=n
 ·rw [if_pos h,h2 j hj] at hc
  rw [if_pos h];exact hc
 ·rw [if_neg h] at hc
  rw [if_neg h];exact hc
theorem aiu{K L:Nat}{c:Nat→Int}{lo hi:Rat}:AV.le (.d (.one (.row 9 1 (fun i' j'=>(([gQ K (lg c) c] ++tn L lo ++tn L hi)[i'*9+j']?).getD (.v undef))))) (.d (.one (.row 9 1 (elg K L [(c,lo,hi)])))):=fJ (qp fun i hi' j hj B w v hv=>by
 obtain rfl:i=0:=by omega
 rw [Nat.zero_mul,Nat.zero_add] at hv;exact hv)
/-! ### Tags -/
theorem uq{t u:Nat→Int}{i:Nat}(hi:i < 5)(he:∀ j,j < i→t j=u j)(hn:t i≠u i):E5 t u↔t i < u i:=by
 refine ⟨fun ⟨j,h1,h2,h3⟩=>?_,fun h=>⟨i,hi,he,h⟩⟩;rcases Nat.lt_trichotomy i j with e | rfl | e
 ·exact absurd (h2 i e) hn
 ·exact h3
 ·have:=he j e;omega
theorem aaq{t u:Nat→Int}(he:∀ j,j < 5→t j=u j):¬ E5 t u:=fun h=>h.ne he
theorem xE{p q:Prop}[Decidable q]{b:Bool}(hb:b=true↔p)(h:p↔q):decide q=b:=by
 rw [Bool.eq_iff_iff,decide_eq_true_iff];exact h.symm.trans hb.symm
theorem Qu{a b:Nat→Int}:b5 a b=true↔Nr a b:=by
 unfold b5 Nr;simp only [Bool.and_eq_true,beq_iff_eq];refine ⟨fun ⟨h0,h1,h2,h3,h4⟩ j hj=>?_,fun h=>⟨h 0 (by decide),h 1 (by decide),h 2 (by decide),h 3 (by decide),h 4 (by decide)⟩⟩;have:j=0∨j=1∨j=2∨j=3∨j=4:=by omega
 rcases this with rfl | rfl | rfl | rfl | rfl <;> assumption
section
variable {lt:Nat→Nat→Prop} {S T:HS} {k j h:Nat} {d:Bool}
/-- On the way up, down. -/
structure RV(lt:Nat→Nat→Prop)(S:HS)(k:Nat)(d:Bool)(T:HS)(j:Nat):Prop where
 Nq:Qg S T
 jm:j < T.m
 fr:(T=S∧j=k∧Fr lt S k true d)∨Fr lt T j true false
structure UpQ(lt:Nat→Nat→Prop)(S:HS)(k:Nat)(d:Bool)(T:HS):Prop where
 Nq:Qg S T
 fr:(T=S∧Fr lt S k false d)∨Hp lt T
structure PW(lt:Nat→Nat→Prop)(S T:HS)(j:Nat):Prop where
 Nq:Qg S T
 jm:j < T.m
 fr:Fr lt T j false true
theorem RV.start(h:Fr lt S k true d)(hk:k < S.m):RV lt S k d S k:=⟨.rfl' S,hk,Or.inl ⟨rfl,rfl,h⟩⟩
theorem RV.f(h:RV lt S k d T j):∃ d',Fr lt T j true d':=by
 obtain ⟨_,_,⟨rfl,rfl,h⟩ | h⟩:=h
 ·exact ⟨d,h⟩
 ·exact ⟨false,h⟩
theorem RV.con(h:RV lt S k d T j):IW T:=let ⟨_,h⟩:=h.f;h.con
theorem RV.step(h:RV lt S k d T j)(o:∀ n,LO lt n)(h0:0 < j)(hl:lt (T.tr j) (T.tr ((j-1) / 2))):RV lt S k d (T.swp j ((j-1) / 2)) ((j-1) / 2):=by
 have hj:=h.jm;obtain ⟨_,hf⟩:=h.f;exact ⟨h.Nq.trans (.swp h.con hj (by omega)),show (j-1) / 2 < T.m by omega,Or.inr (hf.up (o _) hj h0 hl)⟩
theorem RV.fin(h:RV lt S k d T j)(o:∀ n,LO lt n)(hl:j=0∨¬ lt (T.tr j) (T.tr ((j-1) / 2))):UpQ lt S k d T:=by
 obtain ⟨h1,h2,⟨rfl,rfl,h⟩ | h⟩:=h
 ·exact ⟨h1,Or.inl ⟨rfl,h.upE hl⟩⟩
 ·exact ⟨h1,Or.inr ((h.upE hl).hp (o _))⟩
theorem PW.start(h:Fr lt S k false true)(hk:k < S.m):PW lt S S k:=⟨.rfl' S,hk,h⟩
theorem PW.step{c:Nat}(h:PW lt S T j)(o:∀ n,LO lt n)(hc:c < T.m)(h0:0 < c)(hp:(c-1) / 2=j)(hl:lt (T.tr c) (T.tr j))(hb:∀ i,0 < i→i < T.m→(i-1) / 2=j→¬ lt (T.tr i) (T.tr c)):PW lt S (T.swp j c) c:=
 ⟨h.Nq.trans (.swp h.fr.con h.jm hc),hc,h.fr.dn (o _) hc h0 hp hl hb⟩
theorem PW.fin{c:Nat}(h:PW lt S T j)(o:∀ n,LO lt n)(hc:c < T.m)(hl:¬ lt (T.tr c) (T.tr j))(hb:∀ i,0 < i→i < T.m→(i-1) / 2=j→¬ lt (T.tr i) (T.tr c)):Qg S T∧Hp lt T:=
 ⟨h.Nq,(h.fr.dnE fun i h1 h2 h3=>h.fr.con.tra (o _) h.jm hc h2 hl (hb i h1 h2 h3)).hp (o _)⟩
theorem PW.leaf(h:PW lt S T j)(o:∀ n,LO lt n)(hm:T.m≤2*j+1):Qg S T∧Hp lt T:=
 ⟨h.Nq,(h.fr.dnE fun i h1 h2 h3=>by omega).hp (o _)⟩
theorem PW.one(h:PW lt S T j)(o:∀ n,LO lt n)(hm:2*j+1 < T.m)(h2:2*j+1+1 < T.m→¬ lt (T.tr (2*j+1+1)) (T.tr (2*j+1))):∀ i,0 < i→i < T.m→(i-1) / 2=j→¬ lt (T.tr i) (T.tr (2*j+1)):=fun i i1 i2 i3=>by
 by_cases e:i=2*j+1
 ·subst e;exact fun q=>h.fr.con.as (o _) hm hm q q
 ·obtain rfl:i=2*j+1+1:=by omega
  exact h2 i2
theorem PW.two(h:PW lt S T j)(o:∀ n,LO lt n)(hm:2*j+1+1 < T.m)(hl:lt (T.tr (2*j+1+1)) (T.tr (2*j+1))):∀ i,0 < i→i < T.m→(i-1) / 2=j→¬ lt (T.tr i) (T.tr (2*j+1+1)):=fun i i1 i2 i3=>by
 by_cases e:i=2*j+1
 ·subst e;exact h.fr.con.as (o _) hm i2 hl
 ·obtain rfl:i=2*j+1+1:=by omega
  exact fun q=>h.fr.con.as (o _) hm hm q q
end
section
variable {ev:Nat→ET} {S T:HS} {h k:Nat}
theorem afN{i a b:Nat}{e:ET}(ha:a-1≠i)(hb:b-1≠i):hL (dR ev i e) a b↔hL ev a b:=by unfold hL dR;rw [if_neg ha,if_neg hb]
/-- One more. -/
def HS.VA(S:HS):HS:=HS.lay ⟨S.n+1,dR S.pl S.n 0,S.m+1,dR S.tr S.m 0⟩ S.m (S.n+1)
theorem MB(i:Nat):S.VA.tr i=if i=S.m then S.n+1 else S.tr i:=by
 show (if i=S.m then S.n+1 else dR S.tr S.m 0 i)=_
 unfold dR;split
 ·rfl
 ·rfl
theorem Me(i:Nat):S.VA.pl i=if i=S.n then S.m+1 else S.pl i:=by
 show (if i=S.n+1-1 then S.m+1 else dR S.pl S.n 0 i)=_
 unfold dR;rw [Nat.add_sub_cancel];split
 ·rfl
 ·rfl
theorem acF(c:IW S):IW S.VA:=by
 refine ⟨fun i hi=>?_,fun i hi=>?_⟩
 ·replace hi:i < S.m+1:=hi
  show S.VA.tr i≠0∧S.VA.tr i≤S.n+1∧_
  rw [MB,Me]
  by_cases e:i=S.m
  ·rw [if_pos e,if_pos (Nat.add_sub_cancel ..),e];exact ⟨by omega,Nat.le_refl _,rfl⟩
  ·obtain ⟨h1,h2,h3⟩:=c.tr i (by omega)
   rw [if_neg e,if_neg (by omega)];exact ⟨h1,by omega,h3⟩
 ·replace hi:i < S.n+1:=hi
  show _∨(_≤S.m+1∧_)
  rw [MB,Me]
  by_cases e:i=S.n
  ·rw [if_pos e,Nat.add_sub_cancel,if_pos rfl];exact Or.inr ⟨Nat.le_refl _,by omega⟩
  ·rw [if_neg e]
   rcases c.pl i (by omega) with h | ⟨h1,h2⟩
   ·exact Or.inl h
   ·by_cases h0:S.pl i=0
    ·exact Or.inl h0
    ·exact Or.inr ⟨by omega,by rw [if_neg (by omega)];exact h2⟩
theorem agY(hp:Hp (hL ev) S)(e:ET):Fr (hL (dR ev S.n e)) S.VA S.m true true:=by
 have c:=hp.con;refine ⟨acF c,fun i h1 h2 h3 h4=>?_,fun i h1 h2 h3 h4=>?_⟩
 ·replace h2:i < S.m+1:=h2
  have e1:i≠S.m:=fun e=>by cases h3 e
  rw [MB,MB,if_neg e1,if_neg (by omega)];obtain ⟨a1,a2,_⟩:=c.tr i (by omega);obtain ⟨b1,b2,_⟩:=c.tr ((i-1) / 2) (by omega);rw [afN (by omega) (by omega)];exact hp.a i h1 (by omega) (fun _=>rfl) (fun _=>rfl)
 ·replace h2:i < S.m+1:=h2
  omega
structure aaS(S S':HS):Prop where
 n:S'.n=S.n+1
 m:S'.m=S.m+1
 pl:∀ i,i < S.n→(S'.pl i=0↔S.pl i=0)
 pn:S'.pl S.n≠0
theorem agZ{e:ET}(hE:∀ i,HE (dR ev S.n e i))(h:UpQ (hL (dR ev S.n e)) S.VA S.m true T):Hp (hL (dR ev S.n e)) T∧aaS S T:=by
 have o:=wW hE;refine ⟨?_,h.Nq.n,h.Nq.m,fun i hi=>(h.Nq.pl i (show i < S.n+1 by omega)).trans ?_,fun q=>?_⟩
 ·rcases h.fr with ⟨rfl,f⟩ | f
  ·exact (f.dnE fun i h1 h2 h3=>by have:i < S.m+1:=h2;omega).hp (o _)
  ·exact f
 ·rw [Me,if_neg (by omega)]
 ·have:=(h.Nq.pl S.n (Nat.lt_succ_self _)).1 q
  rw [Me,if_pos rfl] at this;omega
/-- One less: handle h, at its place. -/
def HS.cut(S:HS)(h:Nat):HS:=⟨S.n,fun p=>if p=h-1 then 0 else S.pl p,S.m-1,S.tr⟩
structure UG(S:HS)(h:Nat)(S':HS):Prop where
 n:S'.n=S.n
 m:S'.m+1=S.m
 pl:∀ i,i < S.n→(S'.pl i=0↔S.pl i=0∨i=h-1)
/-- A handle that is there. -/
structure Fb(S:HS)(h:Nat):Prop where
 h0:h≠0
 hn:h≤S.n
 pl:S.pl (h-1)≠0
theorem Fb.at(c:IW S)(h':Fb S h):S.pl (h-1)≤S.m∧S.tr (S.pl (h-1)-1)=h:=by
 have:=h'.h0;have:=h'.hn;rcases c.pl (h-1) (by omega) with q | ⟨q1,q2⟩
 ·exact absurd q h'.pl
 ·exact ⟨q1,by omega⟩
theorem IW.in(c:IW S)(hk:k < S.m):Fb S (S.tr k):=let ⟨h1,h2,h3⟩:=c.tr k hk;⟨h1,h2,by omega⟩
theorem XC(c:IW S)(i':Fb S h)(hk:S.pl (h-1)=S.m)(hp:Hp (hL ev) S):Hp (hL ev) (S.cut h)∧UG S h (S.cut h):=by
 obtain ⟨_,h2⟩:=i'.at c;have:=i'.h0;have hm:=i'.pl;have hne:∀ i,i < S.m-1→S.tr i-1≠h-1:=fun i hi q=>by
  have:=(c.tr i (by omega)).2.2;rw [q] at this;omega
 refine ⟨⟨⟨fun i hi=>?_,fun i hi=>?_⟩,fun i h1 h2 _ _=>hp.a i h1 (by have:i < S.m-1:=h2;omega) (fun _=>rfl) (fun _=>rfl),fun i h1 h2 h3 h4=>absurd h4 (Nat.lt_irrefl _)⟩,rfl,by show S.m-1+1=S.m;omega,fun i hi=>?_⟩
 ·replace hi:i < S.m-1:=hi
  obtain ⟨q1,q2,q3⟩:=c.tr i (by omega);exact ⟨q1,q2,by show (if S.tr i-1=h-1 then 0 else S.pl (S.tr i-1))=_;rw [if_neg (hne i hi)];exact q3⟩
 ·show (if _ then _ else _)=0∨((if _ then _ else _)≤S.m-1∧S.tr ((if _ then _ else _)-1)=i+1)
  by_cases e:i=h-1
  ·rw [if_pos e];exact Or.inl rfl
  ·rw [if_neg e]
   rcases c.pl i hi with q | ⟨q1,q2⟩
   ·exact Or.inl q
   ·refine Or.inr ⟨?_,q2⟩
    by_cases e2:S.pl i=S.m
    ·rw [e2,← hk,h2] at q2;omega
    ·omega
 ·show (if _ then _ else _)=0↔_
  by_cases e:i=h-1
  ·rw [if_pos e];exact ⟨fun _=>Or.inr e,fun _=>rfl⟩
  ·rw [if_neg e];exact ⟨Or.inl,fun q=>q.resolve_right e⟩
theorem afo(hE:∀ i,HE (ev i))(c:IW S)(i':Fb S h)(hk:S.pl (h-1) < S.m)(hp:Hp (hL ev) S):Fr (hL ev) ((S.cut h).lay (S.pl (h-1)-1) (S.tr (S.m-1))) (S.pl (h-1)-1) true true:=by
 obtain ⟨_,h2⟩:=i'.at c;have h0:=i'.h0;have hm:=i'.pl;generalize hke:S.pl (h-1)-1=k at *
 have hkm:S.pl (h-1)=k+1:=by omega
 have hne:∀ i,i < S.m→i≠k→S.tr i-1≠h-1:=fun i hi q q'=>by
  have:=(c.tr i hi).2.2;rw [q',hkm] at this;omega
 obtain ⟨l1,l2,l3⟩:=c.tr (S.m-1) (by omega);have tr':∀ i,((S.cut h).lay k (S.tr (S.m-1))).tr i=if i=k then S.tr (S.m-1) else S.tr i:=fun i=>rfl
 have pl':∀ i,((S.cut h).lay k (S.tr (S.m-1))).pl i=if i=S.tr (S.m-1)-1 then k+1 else if i=h-1 then 0 else S.pl i:=fun i=>rfl
 refine ⟨⟨fun i hi=>?_,fun i hi=>?_⟩,fun i i1 i2 i3 i4=>?_,fun i i1 i2 i3 i4=>?_⟩
 ·replace hi:i < S.m-1:=hi
  show _∧_≤S.n∧_
  rw [tr',pl']
  by_cases e:i=k
  ·rw [if_pos e,if_pos rfl,e];exact ⟨l1,l2,rfl⟩
  ·obtain ⟨q1,q2,q3⟩:=c.tr i (by omega)
   rw [if_neg e,if_neg (c.ne (by omega) (by omega) (by omega)),if_neg (hne i (by omega) e)];exact ⟨q1,q2,q3⟩
 ·show _∨(_≤S.m-1∧_)
  rw [tr',pl']
  by_cases e:i=S.tr (S.m-1)-1
  ·rw [if_pos e,Nat.add_sub_cancel,if_pos rfl];exact Or.inr ⟨by omega,by omega⟩
  rw [if_neg e]
  by_cases e2:i=h-1
  ·rw [if_pos e2];exact Or.inl rfl
  rw [if_neg e2];rcases c.pl i hi with q | ⟨q1,q2⟩
  ·exact Or.inl q
  ·by_cases z:S.pl i=0
   ·exact Or.inl z
   have n1:S.pl i-1≠k:=fun q=>by rw [q,h2] at q2;omega
   have n2:S.pl i-1≠S.m-1:=fun q=>by rw [q] at q2;omega
   rw [if_neg n1];exact Or.inr ⟨by omega,q2⟩
 ·replace i2:i < S.m-1:=i2
  have e1:i≠k:=fun e=>by cases i3 e
  have e2:(i-1) / 2≠k:=fun e=>by cases i4 e
  rw [tr',tr',if_neg e1,if_neg e2];exact hp.a i i1 (by omega) (fun _=>rfl) (fun _=>rfl)
 ·replace i2:i < S.m-1:=i2
  rw [tr',tr',if_neg (by omega),if_neg (by omega)];have q1:=hp.a i i1 (by omega) (fun _=>rfl) (fun _=>rfl);rw [i3] at q1;have q2:=hp.a k i4 (by omega) (fun _=>rfl) (fun _=>rfl);exact c.tra (wW hE _) (by omega) (j:=k) (by omega) (by omega) q2 q1
theorem afp(hE:∀ i,HE (ev i))(c:IW S)(i':Fb S h){U:HS}(hk:S.pl (h-1) < S.m)(h1:Qg ((S.cut h).lay (S.pl (h-1)-1) (S.tr (S.m-1))) U):UG S h U:=by
 have hm:=i'.pl;have h0:=i'.h0;obtain ⟨_,h2⟩:=i'.at c;obtain ⟨l1,l2,l3⟩:=c.tr (S.m-1) (by omega);refine ⟨h1.n,by rw [h1.m];show S.m-1+1=S.m;omega,fun i hi=>(h1.pl i hi).trans ?_⟩;show (if i=S.tr (S.m-1)-1 then S.pl (h-1)-1+1 else if i=h-1 then 0 else S.pl i)=0↔_
 by_cases e:i=S.tr (S.m-1)-1
 ·rw [if_pos e]
  refine ⟨fun q=>by omega,fun q=>?_⟩;rw [e] at q;rcases q with q | q
  ·omega
  ·rw [q] at l3;omega
 ·rw [if_neg e]
  by_cases e2:i=h-1
  ·rw [if_pos e2];exact ⟨fun _=>Or.inr e2,fun _=>rfl⟩
  ·rw [if_neg e2];exact ⟨Or.inl,fun q=>q.resolve_right e2⟩
/-- The first of all. -/
theorem Hp.first(hE:∀ i,HE (ev i))(hp:Hp (hL ev) S)(i':Fb S h):¬ hL ev h (S.tr 0):=by
 obtain ⟨h1,h2⟩:=i'.at hp.con;have:=hp.root (wW hE _) (S.pl (h-1)-1) (by have:=i'.pl;omega);rwa [h2] at this
theorem Hp.m0(hp:Hp (hL ev) S)(hm:S.m=0)(i:Nat)(hi:i < S.n):S.pl i=0:=by
 rcases hp.con.pl i hi with q | ⟨q,_⟩
 ·exact q
 ·omega
/-- What a batch takes: k handles, hs, of S; T is left. -/
structure F7(ev:Nat→ET)(S:HS)(k:Nat)(hs:Nat→Nat)(T:HS):Prop where
 hp:Hp (hL ev) T
 n:T.n=S.n
 m:T.m+k=S.m
 mem:∀ j,j < k→Fb S (hs j)
 pl:∀ i,i < S.n→(T.pl i=0↔S.pl i=0∨∃ j,j < k∧hs j-1=i)
 eq:∀ j,j < k→cZ (lV (ev (hs j-1))) (lV (ev (hs 0-1)))=0
 up:∀ j,j+1 < k→¬ hL ev (hs (j+1)) (hs j)
 lo:∀ j h,j < k→Fb T h→¬ hL ev h (hs j)
 h0:k≠0→hs 0=S.tr 0
 z:k=0→T=S
 inj:∀ i j,i < j→j < k→hs i≠hs j
theorem F7.start(hp:Hp (hL ev) S){hs:Nat→Nat}:F7 ev S 0 hs S:=⟨hp,rfl,rfl,fun j hj=>absurd hj (Nat.not_lt_zero _),fun i hi=>⟨Or.inl,fun q=>q.resolve_right fun ⟨j,hj,_⟩=>absurd hj (Nat.not_lt_zero _)⟩,fun j hj=>absurd hj (Nat.not_lt_zero _),fun j hj=>absurd hj (Nat.not_lt_zero _),fun j h hj=>absurd hj (Nat.not_lt_zero _),fun h=>absurd rfl h,fun _=>rfl,fun i j _ hj=>absurd hj (Nat.not_lt_zero _)⟩
theorem F7.inS{hs:Nat→Nat}(b:F7 ev S k hs T)(i':Fb T h):Fb S h:=⟨i'.h0,b.n▸i'.hn,fun q=>i'.pl ((b.pl _ (by have:=i'.h0;have:=i'.hn;have:=b.n;omega)).2 (Or.inl q))⟩
theorem UG.in{U:HS}{g:Nat}(d:UG T g U)(i':Fb U h):Fb T h∧h-1≠g-1:=by
 have hi:h-1 < T.n:=by have:=i'.h0;have:=i'.hn;have:=d.n;omega
 exact ⟨⟨i'.h0,d.n▸i'.hn,fun q=>i'.pl ((d.pl _ hi).2 (Or.inl q))⟩,fun q=>i'.pl ((d.pl _ hi).2 (Or.inr q))⟩
theorem F7.step{hs:Nat→Nat}{U:HS}(hE:∀ i,HE (ev i))(b:F7 ev S k hs T)(hm:T.m≠0)(hk:k≠0→cZ (lV (ev (T.tr 0-1))) (lV (ev (hs 0-1)))=0)(hp:Hp (hL ev) U)(d:UG T (T.tr 0) U):F7 ev S (k+1) (dR hs k (T.tr 0)) U:=by
 have i0:=b.hp.con.in (k:=0) (by omega);have u1:∀ j,j < k→dR hs k (T.tr 0) j=hs j:=fun j hj=>if_neg (by omega)
 have u2:dR hs k (T.tr 0) k=T.tr 0:=if_pos rfl;have u0:dR hs k (T.tr 0) 0=if k=0 then T.tr 0 else hs 0:=by
  unfold dR
  by_cases e:k=0
  ·rw [if_pos e.symm,if_pos e]
  ·rw [if_neg (fun q=>e q.symm),if_neg e]
 refine ⟨hp,d.n.trans b.n,by have:=d.m;have:=b.m;omega,fun j hj=>?_,fun i hi=>?_,fun j hj=>?_,fun j hj=>?_,fun j h hj i'=>?_,fun _=>?_,fun q=>absurd q (Nat.succ_ne_zero _),fun i j hij hj=>?_⟩
 ·by_cases e:j=k
  ·rw [e,u2];exact b.inS i0
  ·rw [u1 j (by omega)];exact b.mem j (by omega)
 ·refine (d.pl i (by rw [b.n];exact hi)).trans ⟨fun q=>?_,fun q=>?_⟩
  ·rcases q with q | q
   ·rcases (b.pl i hi).1 q with q | ⟨j,j1,j2⟩
    ·exact Or.inl q
    ·exact Or.inr ⟨j,by omega,by rw [u1 j j1];exact j2⟩
   ·exact Or.inr ⟨k,Nat.lt_succ_self _,by rw [u2];exact q.symm⟩
  ·rcases q with q | ⟨j,j1,j2⟩
   ·exact Or.inl ((b.pl i hi).2 (Or.inl q))
   ·by_cases e:j=k
    ·rw [e,u2] at j2;exact Or.inr j2.symm
    ·rw [u1 j (by omega)] at j2;exact Or.inl ((b.pl i hi).2 (Or.inr ⟨j,by omega,j2⟩))
 ·rw [u0]
  by_cases e:j=k
  ·rw [e,u2]
   by_cases e0:k=0
   ·rw [if_pos e0];exact jU fun _=>Iff.rfl
   ·rw [if_neg e0];exact hk e0
  ·rw [u1 j (by omega),if_neg (by omega)];exact b.eq j (by omega)
 ·rw [u1 j (by omega)]
  by_cases e:j+1=k
  ·rw [e,u2];exact b.lo j _ (by omega) i0
  ·rw [u1 _ (by omega)];exact b.up j (by omega)
 ·obtain ⟨i1,i2⟩:=d.in i'
  by_cases e:j=k
  ·rw [e,u2];exact b.hp.first hE i1
  ·rw [u1 j (by omega)];exact b.lo j h (by omega) i1
 ·rw [u0]
  by_cases e0:k=0
  ·rw [if_pos e0,b.z e0]
  ·rw [if_neg e0];exact b.h0 e0
 ·by_cases e:j=k
  ·rw [e,u2,u1 i (by omega)]
   intro q;have i1:=b.mem i (by omega);have z:=(b.pl (hs i-1) (by have:=i1.h0;have:=i1.hn;omega)).2 (Or.inr ⟨i,by omega,rfl⟩);rw [q] at z;exact i0.pl z
  ·rw [u1 i (by omega),u1 j (by omega)];exact b.inj i j hij (by omega)
end
abbrev JC(p x y:Value)(ev:Nat→ET)(S:HS):List (Nat×AO):= [(0,.is p (.box 81 [.v x,.v y])),(1,.is x (.row 84 15 S.n (gY ev S.pl))),(2,.is y (.row 3 1 S.m (iw S.tr)))]
theorem aeR{t u:Nat→Int}{b:Bool}(hb:b=true↔E5 t u):aC Tryz.prog 92 [.agg (vw t),.agg (vw u)] (.d (.one (.v (.bool b)))):=by
 refine aN 36 [.tmp 4] Tryz.func92 rfl<|cR<|mO rfl<|mO rfl<|mW rfl<|mT<|au<|au ?_
 by_cases ht0:t 0=u 0
 ·refine aA<|mv4 rfl rfl rfl rfl<|mbF rfl (by rw [ht0];exact bne_self_eq_false _)<|mT<|cFs rfl<|au<|cR<|mv3 rfl rfl rfl<|mT<|aJ<|dQ (ι:=Nat) (fun (i:Nat)=>⟨36,[(2,.ptr 2 0),(3,.ptr 3 0),(18,.d (.agg ([.v (.int .i64 (t 1)),.v (.int .i64 (t 2)),.v (.int .i64 (t 3)),.v (.int .i64 (t 4))]))),(19,.d (.one (.v (.int .i64 ((i:Nat):Int)))))],[(2,.box 28 (vw t)),(3,.box 28 (vw u))]⟩) (fun (i:Nat)=>i≤4∧∀ j,j≤i→t j=u j) (fun (i:Nat)=>4-i) 0 (⟨Nat.zero_le _,fun j hj=>by obtain rfl:j=0:=(by omega);exact ht0⟩) (wk rfl ⟨hs rfl,hs rfl,hs rfl,fM rfl (aG rfl),trivial⟩ ⟨ho rfl,ho rfl,trivial⟩ rfl) ?_;rintro i hI;have hi:i≤4∧∀ j,j≤i→t j=u j:=hI
  show AW _ _ _ ⟨_,_,_⟩
  refine cR<|mW rfl<|mT<|au<|aW rfl (fun hc1=>?_) (fun hc1=>?_)
  ·refine aF<|tN<|au<|aJ<|au ?_;have hi4:i=0∨i=1∨i=2∨i=3:=by have h0:=of_decide_eq_true hc1;omega
   rcases hi4 with rfl | rfl | rfl | rfl
   ·by_cases htn:t 1=u 1
    ·exact aA<|mW rfl<|mX (.d (.one (.v (.int .i64 (t 1))))) (PU (i:=0) rfl Tryz.underlying26 (aj _ _ rfl) rfl rfl (by decide) rfl)<|mv2 rfl rfl<|mT<|cR<|mv3 rfl rfl rfl<|mX (.ptr 3 1) (jZ (i:=0) (sz:=1) rfl Tryz.underlying26 Tryz.sizeOf3 rfl rfl (by decide))<|mW rfl<|mbF rfl (by rw [htn];exact bne_self_eq_false _)<|mT<|cF rfl<|aF<|bN<|tN<|aA<|mV aj (.d (.one (.v (.int .i64 ((0+1:Nat):Int))))) (fH (dG (by omega)))<|mW rfl<|ak<|⟨(0+1),⟨by decide,fun j hj=>if q:j=1 then by rw [q];exact htn else hi.2 j (by omega)⟩,by decide,wkr rfl rfl⟩
    ·exact aA<|mW rfl<|mX (.d (.one (.v (.int .i64 (t 1))))) (PU (i:=0) rfl Tryz.underlying26 (aj _ _ rfl) rfl rfl (by decide) rfl)<|mv2 rfl rfl<|mT<|cR<|mv3 rfl rfl rfl<|mX (.ptr 3 1) (jZ (i:=0) (sz:=1) rfl Tryz.underlying26 Tryz.sizeOf3 rfl rfl (by decide))<|mW rfl<|mbT rfl (bne_iff_ne.2 htn)<|mT<|cT rfl<|cR<|mv3 rfl rfl rfl<|mX (.ptr 3 1) (jZ (i:=0) (sz:=1) rfl Tryz.underlying26 Tryz.sizeOf3 rfl rfl (by decide))<|mW rfl<|mV aj (.d (.one (.v (.bool b)))) (bZ (xE hb (uq (i:=1) (by decide) (fun j hj=>hi.2 j (by omega)) htn)))<|mW rfl<|mT<|aO<|bR<|tR<|tR<|bR<|tR<|rQ rfl (AV.le.rfl)
   ·by_cases htn:t 2=u 2
    ·exact aA<|mW rfl<|mX (.d (.one (.v (.int .i64 (t 2))))) (PU (i:=1) rfl Tryz.underlying26 (aj _ _ rfl) rfl rfl (by decide) rfl)<|mv2 rfl rfl<|mT<|cR<|mv3 rfl rfl rfl<|mX (.ptr 3 2) (jZ (i:=1) (sz:=1) rfl Tryz.underlying26 Tryz.sizeOf3 rfl rfl (by decide))<|mW rfl<|mbF rfl (by rw [htn];exact bne_self_eq_false _)<|mT<|cF rfl<|aF<|bN<|tN<|aA<|mV aj (.d (.one (.v (.int .i64 ((1+1:Nat):Int))))) (fH (dG (by omega)))<|mW rfl<|ak<|⟨(1+1),⟨by decide,fun j hj=>if q:j=2 then by rw [q];exact htn else hi.2 j (by omega)⟩,by decide,wkr rfl rfl⟩
    ·exact aA<|mW rfl<|mX (.d (.one (.v (.int .i64 (t 2))))) (PU (i:=1) rfl Tryz.underlying26 (aj _ _ rfl) rfl rfl (by decide) rfl)<|mv2 rfl rfl<|mT<|cR<|mv3 rfl rfl rfl<|mX (.ptr 3 2) (jZ (i:=1) (sz:=1) rfl Tryz.underlying26 Tryz.sizeOf3 rfl rfl (by decide))<|mW rfl<|mbT rfl (bne_iff_ne.2 htn)<|mT<|cT rfl<|cR<|mv3 rfl rfl rfl<|mX (.ptr 3 2) (jZ (i:=1) (sz:=1) rfl Tryz.underlying26 Tryz.sizeOf3 rfl rfl (by decide))<|mW rfl<|mV aj (.d (.one (.v (.bool b)))) (bZ (xE hb (uq (i:=2) (by decide) (fun j hj=>hi.2 j (by omega)) htn)))<|mW rfl<|mT<|aO<|bR<|tR<|tR<|bR<|tR<|rQ rfl (AV.le.rfl)
   ·by_cases htn:t 3=u 3
    ·exact aA<|mW rfl<|mX (.d (.one (.v (.int .i64 (t 3))))) (PU (i:=2) rfl Tryz.underlying26 (aj _ _ rfl) rfl rfl (by decide) rfl)<|mv2 rfl rfl<|mT<|cR<|mv3 rfl rfl rfl<|mX (.ptr 3 3) (jZ (i:=2) (sz:=1) rfl Tryz.underlying26 Tryz.sizeOf3 rfl rfl (by decide))<|mW rfl<|mbF rfl (by rw [htn];exact bne_self_eq_false _)<|mT<|cF rfl<|aF<|bN<|tN<|aA<|mV aj (.d (.one (.v (.int .i64 ((2+1:Nat):Int))))) (fH (dG (by omega)))<|mW rfl<|ak<|⟨(2+1),⟨by decide,fun j hj=>if q:j=3 then by rw [q];exact htn else hi.2 j (by omega)⟩,by decide,wkr rfl rfl⟩
    ·exact aA<|mW rfl<|mX (.d (.one (.v (.int .i64 (t 3))))) (PU (i:=2) rfl Tryz.underlying26 (aj _ _ rfl) rfl rfl (by decide) rfl)<|mv2 rfl rfl<|mT<|cR<|mv3 rfl rfl rfl<|mX (.ptr 3 3) (jZ (i:=2) (sz:=1) rfl Tryz.underlying26 Tryz.sizeOf3 rfl rfl (by decide))<|mW rfl<|mbT rfl (bne_iff_ne.2 htn)<|mT<|cT rfl<|cR<|mv3 rfl rfl rfl<|mX (.ptr 3 3) (jZ (i:=2) (sz:=1) rfl Tryz.underlying26 Tryz.sizeOf3 rfl rfl (by decide))<|mW rfl<|mV aj (.d (.one (.v (.bool b)))) (bZ (xE hb (uq (i:=3) (by decide) (fun j hj=>hi.2 j (by omega)) htn)))<|mW rfl<|mT<|aO<|bR<|tR<|tR<|bR<|tR<|rQ rfl (AV.le.rfl)
   ·by_cases htn:t 4=u 4
    ·exact aA<|mW rfl<|mX (.d (.one (.v (.int .i64 (t 4))))) (PU (i:=3) rfl Tryz.underlying26 (aj _ _ rfl) rfl rfl (by decide) rfl)<|mv2 rfl rfl<|mT<|cR<|mv3 rfl rfl rfl<|mX (.ptr 3 4) (jZ (i:=3) (sz:=1) rfl Tryz.underlying26 Tryz.sizeOf3 rfl rfl (by decide))<|mW rfl<|mbF rfl (by rw [htn];exact bne_self_eq_false _)<|mT<|cF rfl<|aF<|bN<|tN<|aA<|mV aj (.d (.one (.v (.int .i64 ((3+1:Nat):Int))))) (fH (dG (by omega)))<|mW rfl<|ak<|⟨(3+1),⟨by decide,fun j hj=>if q:j=4 then by rw [q];exact htn else hi.2 j (by omega)⟩,by decide,wkr rfl rfl⟩
    ·exact aA<|mW rfl<|mX (.d (.one (.v (.int .i64 (t 4))))) (PU (i:=3) rfl Tryz.underlying26 (aj _ _ rfl) rfl rfl (by decide) rfl)<|mv2 rfl rfl<|mT<|cR<|mv3 rfl rfl rfl<|mX (.ptr 3 4) (jZ (i:=3) (sz:=1) rfl Tryz.underlying26 Tryz.sizeOf3 rfl rfl (by decide))<|mW rfl<|mbT rfl (bne_iff_ne.2 htn)<|mT<|cT rfl<|cR<|mv3 rfl rfl rfl<|mX (.ptr 3 4) (jZ (i:=3) (sz:=1) rfl Tryz.underlying26 Tryz.sizeOf3 rfl rfl (by decide))<|mW rfl<|mV aj (.d (.one (.v (.bool b)))) (bZ (xE hb (uq (i:=4) (by decide) (fun j hj=>hi.2 j (by omega)) htn)))<|mW rfl<|mT<|aO<|bR<|tR<|tR<|bR<|tR<|rQ rfl (AV.le.rfl)
  ·refine dO<|tE<|tE<|bE<|tN<|au ?_;have hno:¬ E5 t u:=aaq fun j hj=>hi.2 j (by have h0:=of_decide_eq_false hc1;omega)
   obtain rfl:b=false:=Bool.eq_false_iff.2 (fun q=>hno (hb.1 q));exact aA<|mW rfl<|mT<|aO<|rQ rfl (AV.le.rfl)
 ·exact aA<|mv4 rfl rfl rfl rfl<|mbT rfl (bne_iff_ne.2 ht0)<|mT<|cT rfl<|cR<|mv4 rfl rfl rfl rfl<|mV aj (.d (.one (.v (.bool b)))) (bZ (xE hb (uq (i:=0) (by decide) (fun j hj=>absurd hj (Nat.not_lt_zero _)) ht0)))<|mW rfl<|mT<|aO<|tR<|rQ rfl (AV.le.rfl)
theorem RX{c:Nat→Int}{lo hi:Rat}(ho:uD c lo hi)(hl:lg c≤5):aC Tryz.prog 27 [.agg (yR 4 c 1200 lo 1200 hi)] (.d (.agg (yR 4 c 1200 lo 1200 hi))):=by
 exact aN 12 [.cell 2 40] Tryz.func27 rfl<|cR<|mO rfl<|mO rfl<|mT<|cR<|mW rfl<|mB aj (.d (.one (.row 9 1 (fun i' j'=>((([.row 2 (lg c) (bW 4 c)]:List Lf) ++tn 1200 lo ++tn 1200 hi)[i'*9+j']?).getD (.v undef))))) rfl<|mY (aC.le (dl (FD aiu) iM) AV.le.rfl (aeT (K:=4) (L:=1200) (X:=20000) (KC:=50000) (N:=5) (n:=1) (As:= [(c,lo,hi)]) rfl (by decide) (by decide) (fun i hi'=>by obtain rfl:i=0:=(by omega);exact ho) (fun i hi'=>by obtain rfl:i=0:=(by omega);exact hl) (by decide) (by decide) (by decide) (by decide) (by decide))) rfl<|mv3 rfl rfl rfl<|mO rfl<|mZ rfl<|mW rfl<|mT<|cR<|mW rfl<|mZ rfl<|mT<|aO<|rQ rfl (AV.le.rfl)
section
variable {e f:ET} {a b:Nat}
theorem aiw(h:cZ (lV e) (lV f)= -1):IX e f a b:=Or.inl (by omega)
theorem aix(h:cZ (lV e) (lV f)=1):¬ IX e f a b:=fun q=>by rcases q with q | ⟨q,_⟩ <;> omega
theorem aiy(h:cZ (lV e) (lV f)=0)(ht:¬ Nr e.1 f.1):IX e f a b↔E5 e.1 f.1:=⟨fun q=>by rcases q with q | ⟨_,q | ⟨q,_⟩⟩;omega;exact q;exact absurd q ht,fun q=>Or.inr ⟨h,Or.inl q⟩⟩
theorem aiz(h:cZ (lV e) (lV f)=0)(ht:Nr e.1 f.1):IX e f a b↔((a:Nat):Int) < ((b:Nat):Int):=⟨fun q=>by rcases q with q | ⟨_,q | ⟨_,q⟩⟩;omega;exact absurd ht q.ne;omega,fun q=>Or.inr ⟨h,Or.inr ⟨ht,by omega⟩⟩⟩
end
theorem DI{pp x y:Value}{ev:Nat→ET}{S:HS}{a b:Nat}{c:Bool}(hE:∀ i,HE (ev i))(a0:a≠0)(a1:a≤S.n)(b0:b≠0)(b1:b≤S.n)(hN:S.n≤100000)(hc:c=true↔hL ev a b):lY Tryz.prog 57 [.ptr 0 0,.d (.one (.v (.int .i64 ((a:Nat):Int)))),.d (.one (.v (.int .i64 ((b:Nat):Int))))] (JC pp x y ev S) [0,1,2] [0,1,2] (fun r hp=>r= .d (.one (.v (.bool c)))∧hp=(JC pp x y ev S)):=by
 refine lT 49 [.tmp 6] [(3,1),(4,2)] Tryz.func57 rfl rfl rfl rfl rfl ⟨⟨Nat.le_of_ble_eq_true rfl,by decide,by decide⟩,⟨Nat.le_of_ble_eq_true rfl,by decide,by decide⟩,trivial⟩ ?_;show AW _ _ _ ⟨49,[(0,.ptr 0 0),(1,.d (.one (.v (.int .i64 ((a:Nat):Int))))),(2,.d (.one (.v (.int .i64 ((b:Nat):Int))))),(3,.wit 1),(4,.wit 2)],[(0,.is pp (.box 81 ([.v x,.v y]))),(1,.is x (.row 84 15 S.n (gY ev S.pl))),(2,.is y (.row 3 1 S.m (iw S.tr)))]⟩
 refine cR<|mW rfl<|mT<|au<|cDs 22<|.cons (aB.V _ rfl) (by kernel_rfl)<|.cons (aB.X (.ptr 0 0) (eG rfl rfl)) (by kernel_rfl)<|pV rfl<|.cons (aB.Y x 3 1 rfl rfl rfl rfl rfl) (by kernel_rfl)<|.cons (aB.V _ rfl) (by kernel_rfl)<|.cons (aB.V (.d (.one (.v (.int .i64 ((a-1:Nat):Int))))) (fH ((dS (by omega) (by omega)).trans (by omega)))) (by kernel_rfl)<|.cons (aB.V (.dU 1 15 (a-1) 0) (qy (z:=((a-1:Nat):Int)) (n:=S.n) rfl rfl rfl rfl rfl rfl rfl (by omega) (by omega))) (by kernel_rfl)<|pV rfl<|pV rfl<|.cons (aB.V _ rfl) (by kernel_rfl)<|.cons (aB.X (.ptr 0 0) (eG rfl rfl)) (by kernel_rfl)<|pV rfl<|.cons (aB.Y x 3 1 rfl rfl rfl rfl rfl) (by kernel_rfl)<|.cons (aB.V _ rfl) (by kernel_rfl)<|.cons (aB.V (.d (.one (.v (.int .i64 ((b-1:Nat):Int))))) (fH ((dS (by omega) (by omega)).trans (by omega)))) (by kernel_rfl)<|.cons (aB.V (.dU 1 15 (b-1) 0) (qy (z:=((b-1:Nat):Int)) (n:=S.n) rfl rfl rfl rfl rfl rfl rfl (by omega) (by omega))) (by kernel_rfl)<|pV rfl<|pV rfl<|.cons (aB.N (.box 54 ([.v (.int .i64 0),.v (.int .i64 0),.v (.int .i64 0),.v (.int .i64 0),.v (.int .i64 0),.v (.slice none 0 0),.v (.bool false),.v (.slice none 0 0),.v (.bool false),.v (.slice none 0 0),.v (.bool false),.v (.slice none 0 0),.v (.bool false),.v (.slice none 0 0)])) rfl 7 rfl rfl) (by kernel_rfl)<|.cons (aB.N (.box 54 ([.v (.int .i64 0),.v (.int .i64 0),.v (.int .i64 0),.v (.int .i64 0),.v (.int .i64 0),.v (.slice none 0 0),.v (.bool false),.v (.slice none 0 0),.v (.bool false),.v (.slice none 0 0),.v (.bool false),.v (.slice none 0 0),.v (.bool false),.v (.slice none 0 0)])) rfl 8 rfl rfl) (by kernel_rfl)<|.cons (aB.S 7 (.box 54 (nI (ev (a-1)))) rfl rfl) (by kernel_rfl)<|.cons (aB.S 8 (.box 54 (nI (ev (b-1)))) rfl rfl) (by kernel_rfl)<|.nil<|mT<|au<|au ?_
 by_cases hm:(cZ (lV (ev (a-1))) (lV (ev (b-1))))= -1
 ·obtain rfl:c=true:=hc.2 (aiw hm);exact aA<|mv4 rfl rfl rfl rfl<|mY (Gf (X:=20000) (KC:=50000) (N:=5) (hE (a-1)).v (hE (b-1)).v (by decide) (hE (a-1)).l5 (hE (b-1)).l5) rfl<|mT<|aJ<|cR<|mbT rfl (beq_iff_eq.2 hm)<|mW rfl<|mT<|cT rfl<|cR<|mW rfl<|mT<|aO<|bR<|tR<|rL (.d (.one (.v (.bool true)))) (.d (.one (.v (.bool true)))) [(0,.is pp (.box 81 ([.v x,.v y]))),(1,.is x (.row 84 15 S.n (gY ev S.pl))),(2,.is y (.row 3 1 S.m (iw S.tr)))] [(0,.ptr 0 0),(3,.wit 1),(4,.wit 2)] ⟨rfl,rfl⟩ (qm rfl) (wk (sl:= [(49,.d (.one (.v (.bool true)))),(0,.ptr 0 0),(3,.wit 1),(4,.wit 2)]) (hp:= [(0,.is pp (.box 81 ([.v x,.v y]))),(1,.is x (.row 84 15 S.n (gY ev S.pl))),(2,.is y (.row 3 1 S.m (iw S.tr)))]) rfl ⟨hs rfl,hs rfl,hs rfl,hs rfl,trivial⟩ ⟨ho rfl,ho rfl,ho rfl,trivial⟩ rfl) ⟨⟨0,_,rfl,rfl⟩,⟨3,_,rfl,rfl⟩,⟨4,_,rfl,rfl⟩,trivial⟩
 ·by_cases hp1:(cZ (lV (ev (a-1))) (lV (ev (b-1))))=1
  ·obtain rfl:c=false:=Bool.eq_false_iff.2 (fun q=>aix hp1 (hc.1 q));exact aA<|mv4 rfl rfl rfl rfl<|mY (Gf (X:=20000) (KC:=50000) (N:=5) (hE (a-1)).v (hE (b-1)).v (by decide) (hE (a-1)).l5 (hE (b-1)).l5) rfl<|mT<|aJ<|cR<|mbF rfl (beq_eq_false_iff_ne.2 hm)<|mW rfl<|mT<|cF rfl<|cR<|mbT rfl (beq_iff_eq.2 hp1)<|mW rfl<|mT<|cT rfl<|cR<|mW rfl<|mT<|aO<|bR<|tR<|rL (.d (.one (.v (.bool false)))) (.d (.one (.v (.bool false)))) [(0,.is pp (.box 81 ([.v x,.v y]))),(1,.is x (.row 84 15 S.n (gY ev S.pl))),(2,.is y (.row 3 1 S.m (iw S.tr)))] [(0,.ptr 0 0),(3,.wit 1),(4,.wit 2)] ⟨rfl,rfl⟩ (qm rfl) (wk (sl:= [(49,.d (.one (.v (.bool false)))),(0,.ptr 0 0),(3,.wit 1),(4,.wit 2)]) (hp:= [(0,.is pp (.box 81 ([.v x,.v y]))),(1,.is x (.row 84 15 S.n (gY ev S.pl))),(2,.is y (.row 3 1 S.m (iw S.tr)))]) rfl ⟨hs rfl,hs rfl,hs rfl,hs rfl,trivial⟩ ⟨ho rfl,ho rfl,ho rfl,trivial⟩ rfl) ⟨⟨0,_,rfl,rfl⟩,⟨3,_,rfl,rfl⟩,⟨4,_,rfl,rfl⟩,trivial⟩
  ·have hz:(cZ (lV (ev (a-1))) (lV (ev (b-1))))=0:=by have:=nP (lV (ev (a-1))) (lV (ev (b-1)));omega
   by_cases ht:Nr (ev (a-1)).1 (ev (b-1)).1
   ·exact aA<|mv4 rfl rfl rfl rfl<|mY (Gf (X:=20000) (KC:=50000) (N:=5) (hE (a-1)).v (hE (b-1)).v (by decide) (hE (a-1)).l5 (hE (b-1)).l5) rfl<|mT<|aJ<|cR<|mbF rfl (beq_eq_false_iff_ne.2 hm)<|mW rfl<|mT<|cF rfl<|cR<|mbF rfl (beq_eq_false_iff_ne.2 hp1)<|mW rfl<|mT<|cF rfl<|aF<|bN<|tN<|au<|cR<|mv4 rfl rfl rfl rfl<|mX (.d (.one (.v (.bool false)))) (xT5 false rfl (Or.inl ⟨rfl,by rw [Qu.2 ht];rfl⟩) rfl rfl Tryz.eqGuardType28 Tryz.underlying28 Tryz.stoodInHeld28 (by decide) (by decide) rfl rfl rfl rfl Tryz.underlying3 Tryz.underlying26 Tryz.sizeOf3 Tryz.sizeOf26)<|mT<|cFs rfl<|cR<|mv2 rfl rfl<|mV aj (.d (.one (.v (.bool c)))) (bZ (xE hc (aiz hz ht)))<|mW rfl<|mT<|aO<|rL (.d (.one (.v (.bool c)))) (.d (.one (.v (.bool c)))) [(0,.is pp (.box 81 ([.v x,.v y]))),(1,.is x (.row 84 15 S.n (gY ev S.pl))),(2,.is y (.row 3 1 S.m (iw S.tr)))] [(0,.ptr 0 0),(3,.wit 1),(4,.wit 2)] ⟨rfl,rfl⟩ (qm rfl) (wk (sl:= [(49,.d (.one (.v (.bool c)))),(0,.ptr 0 0),(3,.wit 1),(4,.wit 2)]) (hp:= [(0,.is pp (.box 81 ([.v x,.v y]))),(1,.is x (.row 84 15 S.n (gY ev S.pl))),(2,.is y (.row 3 1 S.m (iw S.tr)))]) rfl ⟨hs rfl,hs rfl,hs rfl,hs rfl,trivial⟩ ⟨ho rfl,ho rfl,ho rfl,trivial⟩ rfl) ⟨⟨0,_,rfl,rfl⟩,⟨3,_,rfl,rfl⟩,⟨4,_,rfl,rfl⟩,trivial⟩
   ·exact aA<|mv4 rfl rfl rfl rfl<|mY (Gf (X:=20000) (KC:=50000) (N:=5) (hE (a-1)).v (hE (b-1)).v (by decide) (hE (a-1)).l5 (hE (b-1)).l5) rfl<|mT<|aJ<|cR<|mbF rfl (beq_eq_false_iff_ne.2 hm)<|mW rfl<|mT<|cF rfl<|cR<|mbF rfl (beq_eq_false_iff_ne.2 hp1)<|mW rfl<|mT<|cF rfl<|aF<|bN<|tN<|au<|cR<|mv4 rfl rfl rfl rfl<|mX (.d (.one (.v (.bool true)))) (xT5 true rfl (Or.inl ⟨rfl,by rw [Bool.eq_false_iff.2 (fun q=>ht (Qu.1 q))];rfl⟩) rfl rfl Tryz.eqGuardType28 Tryz.underlying28 Tryz.stoodInHeld28 (by decide) (by decide) rfl rfl rfl rfl Tryz.underlying3 Tryz.underlying26 Tryz.sizeOf3 Tryz.sizeOf26)<|mT<|cT rfl<|cR<|mv4 rfl rfl rfl rfl<|mY (aeR (b:=c) (hc.trans (aiy hz ht))) rfl<|mW rfl<|mT<|aO<|tR<|rL (.d (.one (.v (.bool c)))) (.d (.one (.v (.bool c)))) [(0,.is pp (.box 81 ([.v x,.v y]))),(1,.is x (.row 84 15 S.n (gY ev S.pl))),(2,.is y (.row 3 1 S.m (iw S.tr)))] [(0,.ptr 0 0),(3,.wit 1),(4,.wit 2)] ⟨rfl,rfl⟩ (qm rfl) (wk (sl:= [(49,.d (.one (.v (.bool c)))),(0,.ptr 0 0),(3,.wit 1),(4,.wit 2)]) (hp:= [(0,.is pp (.box 81 ([.v x,.v y]))),(1,.is x (.row 84 15 S.n (gY ev S.pl))),(2,.is y (.row 3 1 S.m (iw S.tr)))]) rfl ⟨hs rfl,hs rfl,hs rfl,hs rfl,trivial⟩ ⟨ho rfl,ho rfl,ho rfl,trivial⟩ rfl) ⟨⟨0,_,rfl,rfl⟩,⟨3,_,rfl,rfl⟩,⟨4,_,rfl,rfl⟩,trivial⟩
theorem Jf{pp x y:Value}{ev:Nat→ET}{S:HS}{k h:Nat}(hk:k < S.m)(h0:h≠0)(h1:h≤S.n)(hN:S.n≤100000)(hM:S.m≤100000):lY Tryz.prog 28 [.ptr 0 0,.d (.one (.v (.int .i64 ((k:Nat):Int)))),.d (.one (.v (.int .i64 ((h:Nat):Int))))] (JC pp x y ev S) [0,1,2] [0,1,2] (fun r hp=>r= .lK []∧hp=(JC pp x y ev (S.lay k h))):=by
 have hE:True:=trivial;refine lT 23 [] [(3,1),(4,2)] Tryz.func28 rfl rfl rfl rfl rfl ⟨⟨Nat.le_of_ble_eq_true rfl,by decide,by decide⟩,⟨Nat.le_of_ble_eq_true rfl,by decide,by decide⟩,trivial⟩ ?_;show AW _ _ _ ⟨23,[(0,.ptr 0 0),(1,.d (.one (.v (.int .i64 ((k:Nat):Int))))),(2,.d (.one (.v (.int .i64 ((h:Nat):Int))))),(3,.wit 1),(4,.wit 2)],[(0,.is pp (.box 81 ([.v x,.v y]))),(1,.is x (.row 84 15 S.n (gY ev S.pl))),(2,.is y (.row 3 1 S.m (iw S.tr)))]⟩
 exact cR<|mW rfl<|mX (.ptr 0 0) (eG rfl rfl)<|mv2 rfl rfl<|AL.wk (lD 9 4 2 rfl rfl rfl rfl)<|mv2 rfl rfl<|mV aj (.dU 2 1 k 0) (qy (z:=((k:Nat):Int)) (n:=S.m) rfl rfl rfl rfl rfl rfl rfl (by omega) (by omega))<|mZ rfl<|mT<|aA<|mW rfl<|mX (.ptr 0 0) (eG rfl rfl)<|mv2 rfl rfl<|AL.wk (lD 16 3 1 rfl rfl rfl rfl)<|mW rfl<|mV aj (.d (.one (.v (.int .i64 ((h-1:Nat):Int))))) (fH ((dS (by omega) (by omega)).trans (by omega)))<|mW rfl<|mV aj (.d (.one (.v (.int .i64 ((k+1:Nat):Int))))) (fH (dG (by omega)))<|mV aj (.dU 1 15 (h-1) 0) (qy (z:=((h-1:Nat):Int)) (n:=S.n) rfl rfl rfl rfl rfl rfl rfl (by omega) (by omega))<|mW rfl<|mSp aj (d:= .one (.v (.int .i64 ((k+1:Nat):Int)))) 1 (i:=(h-1)) (j:=14) rfl rfl rfl rfl rfl rfl (by decide)<|ak<|rLn (.lK []) (.lK []) [(0,.is pp (.box 81 ([.v x,.v y]))),(1,.is x (.row 84 15 ((S.lay k h).n) (gY ev (S.lay k h).pl))),(2,.is y (.row 3 1 ((S.lay k h).m) (iw (S.lay k h).tr)))] [(0,.ptr 0 0),(3,.wit 1),(4,.wit 2)] ⟨rfl,rfl⟩ (Az aj rfl AV.le.rfl) (wk (sl:= [(23,.lK []),(0,.ptr 0 0),(3,.wit 1),(4,.wit 2)]) (hp:= [(0,.is pp (.box 81 ([.v x,.v y]))),(1,.is x (.row 84 15 ((S.lay k h).n) (gY ev (S.lay k h).pl))),(2,.is y (.row 3 1 ((S.lay k h).m) (iw (S.lay k h).tr)))]) rfl ⟨hs rfl,hs rfl,hs rfl,hs rfl,trivial⟩ ⟨ho rfl,dX rfl (Hq (TP rfl)),dX rfl (Hq (ace rfl)),trivial⟩ rfl) ⟨⟨0,_,rfl,rfl⟩,⟨3,_,rfl,rfl⟩,⟨4,_,rfl,rfl⟩,trivial⟩
theorem aaY{pp x y:Value}{ev:Nat→ET}{S:HS}{h:Nat}(h0:h≠0)(h1:h≤S.n)(hN:S.n≤100000)(hpl:S.pl (h-1)≤100000):lY Tryz.prog 49 [.ptr 0 0,.d (.one (.v (.int .i64 ((h:Nat):Int))))] (JC pp x y ev S) [0,1,2] [0,1,2] (fun r hp=>r= .d (.one (.v (.int .i64 (((S.pl (h-1):Nat):Int)-1))))∧hp=(JC pp x y ev S)):=by
 refine lT 26 [.tmp 4] [(2,1),(3,2)] Tryz.func49 rfl rfl rfl rfl rfl ⟨⟨Nat.le_of_ble_eq_true rfl,by decide,by decide⟩,⟨Nat.le_of_ble_eq_true rfl,by decide,by decide⟩,trivial⟩ ?_;show AW _ _ _ ⟨26,[(0,.ptr 0 0),(1,.d (.one (.v (.int .i64 ((h:Nat):Int))))),(2,.wit 1),(3,.wit 2)],[(0,.is pp (.box 81 ([.v x,.v y]))),(1,.is x (.row 84 15 S.n (gY ev S.pl))),(2,.is y (.row 3 1 S.m (iw S.tr)))]⟩
 exact cR<|mW rfl<|mT<|au<|cR<|mW rfl<|mdF rfl (by omega)<|mv3 rfl rfl rfl<|mX (.ptr 0 0) (eG rfl rfl)<|mv2 rfl rfl<|AL.wk (lD 12 2 1 rfl rfl rfl rfl)<|mW rfl<|mdF rfl (by omega)<|mW rfl<|mT<|cFs rfl<|cR<|mW rfl<|mX (.ptr 0 0) (eG rfl rfl)<|mv2 rfl rfl<|AL.wk (lD 19 2 1 rfl rfl rfl rfl)<|mW rfl<|mV aj (.d (.one (.v (.int .i64 ((h-1:Nat):Int))))) (fH ((dS (by omega) (by omega)).trans (by omega)))<|mV aj (.dU 1 15 (h-1) 0) (qy (z:=((h-1:Nat):Int)) (n:=S.n) rfl rfl rfl rfl rfl rfl rfl (by omega) (by omega))<|mv2 rfl rfl<|mV aj (.d (.one (.v (.int .i64 (((S.pl (h-1):Nat):Int)-1))))) (fH (dS (by omega) (by omega)))<|mW rfl<|mT<|aO<|rL (.d (.one (.v (.int .i64 (((S.pl (h-1):Nat):Int)-1))))) (.d (.one (.v (.int .i64 (((S.pl (h-1):Nat):Int)-1))))) [(0,.is pp (.box 81 ([.v x,.v y]))),(1,.is x (.row 84 15 S.n (gY ev S.pl))),(2,.is y (.row 3 1 S.m (iw S.tr)))] [(0,.ptr 0 0),(2,.wit 1),(3,.wit 2)] ⟨rfl,rfl⟩ (qm rfl) (wk (sl:= [(26,.d (.one (.v (.int .i64 (((S.pl (h-1):Nat):Int)-1))))),(0,.ptr 0 0),(2,.wit 1),(3,.wit 2)]) (hp:= [(0,.is pp (.box 81 ([.v x,.v y]))),(1,.is x (.row 84 15 S.n (gY ev S.pl))),(2,.is y (.row 3 1 S.m (iw S.tr)))]) rfl ⟨hs rfl,hs rfl,hs rfl,hs rfl,trivial⟩ ⟨ho rfl,ho rfl,ho rfl,trivial⟩ rfl) ⟨⟨0,_,rfl,rfl⟩,⟨2,_,rfl,rfl⟩,⟨3,_,rfl,rfl⟩,trivial⟩
theorem adp{pp x y:Value}{ev:Nat→ET}{S:HS}:lY Tryz.prog 15 [.ptr 0 0] (JC pp x y ev S) [0,1,2] [0,1,2] (fun r hp=>r= .d (.one (.v (.int .i64 ((S.m:Nat):Int))))∧hp=(JC pp x y ev S)):=by
 refine lT 8 [.tmp 2] [(1,1),(7,2)] Tryz.func15 rfl rfl rfl rfl rfl ⟨⟨Nat.le_of_ble_eq_true rfl,by decide,by decide⟩,⟨Nat.le_of_ble_eq_true rfl,by decide,by decide⟩,trivial⟩ ?_;show AW _ _ _ ⟨8,[(0,.ptr 0 0),(1,.wit 1),(7,.wit 2)],[(0,.is pp (.box 81 ([.v x,.v y]))),(1,.is x (.row 84 15 S.n (gY ev S.pl))),(2,.is y (.row 3 1 S.m (iw S.tr)))]⟩
 exact cR<|mW rfl<|mT<|cR<|mW rfl<|mX (.ptr 0 0) (eG rfl rfl)<|mv2 rfl rfl<|AL.wk (lD 6 7 2 rfl rfl rfl rfl)<|mv2 rfl rfl<|mT<|aO<|rL (.d (.one (.v (.int .i64 ((S.m:Nat):Int))))) (.d (.one (.v (.int .i64 ((S.m:Nat):Int))))) [(0,.is pp (.box 81 ([.v x,.v y]))),(1,.is x (.row 84 15 S.n (gY ev S.pl))),(2,.is y (.row 3 1 S.m (iw S.tr)))] [(0,.ptr 0 0),(1,.wit 1),(6,.own 2)] ⟨rfl,rfl⟩ (qm rfl) (wk (sl:= [(8,.d (.one (.v (.int .i64 ((S.m:Nat):Int))))),(0,.ptr 0 0),(1,.wit 1),(6,.own 2)]) (hp:= [(0,.is pp (.box 81 ([.v x,.v y]))),(1,.is x (.row 84 15 S.n (gY ev S.pl))),(2,.is y (.row 3 1 S.m (iw S.tr)))]) rfl ⟨hs rfl,hs rfl,hs rfl,hs rfl,trivial⟩ ⟨ho rfl,ho rfl,ho rfl,trivial⟩ rfl) ⟨⟨0,_,rfl,rfl⟩,⟨1,_,rfl,rfl⟩,⟨6,_,rfl,rfl⟩,trivial⟩
theorem WE{pp x y:Value}{ev:Nat→ET}{S:HS}{h:Nat}(hE:∀ i,HE (ev i))(h0:h≠0)(h1:h≤S.n)(hN:S.n≤100000):lY Tryz.prog 34 [.ptr 0 0,.d (.one (.v (.int .i64 ((h:Nat):Int))))] (JC pp x y ev S) [0,1,2] [0,1,2] (fun r hp=>r= .d (.agg (nI (ev (h-1))))∧hp=(JC pp x y ev S)):=by
 refine lT 20 [.cell 4 54] [(2,1),(3,2)] Tryz.func34 rfl rfl rfl rfl rfl ⟨⟨Nat.le_of_ble_eq_true rfl,by decide,by decide⟩,⟨Nat.le_of_ble_eq_true rfl,by decide,by decide⟩,trivial⟩ ?_;show AW _ _ _ ⟨20,[(0,.ptr 0 0),(1,.d (.one (.v (.int .i64 ((h:Nat):Int))))),(2,.wit 1),(3,.wit 2)],[(0,.is pp (.box 81 ([.v x,.v y]))),(1,.is x (.row 84 15 S.n (gY ev S.pl))),(2,.is y (.row 3 1 S.m (iw S.tr)))]⟩
 exact cR<|mO rfl<|mT<|cR<|mW rfl<|mX (.ptr 0 0) (eG rfl rfl)<|mv2 rfl rfl<|AL.wk (lD 9 2 1 rfl rfl rfl rfl)<|mW rfl<|mV aj (.d (.one (.v (.int .i64 ((h-1:Nat):Int))))) (fH ((dS (by omega) (by omega)).trans (by omega)))<|mV aj (.dU 1 15 (h-1) 0) (qy (z:=((h-1:Nat):Int)) (n:=S.n) rfl rfl rfl rfl rfl rfl rfl (by omega) (by omega))<|mv2 rfl rfl<|mO rfl<|mZ rfl<|mT<|cR<|mv2 rfl rfl<|mY (RX (hE (h-1)).v (hE (h-1)).l5) rfl<|mW rfl<|mZ rfl<|mT<|cR<|mW rfl<|mZ rfl<|mT<|aO<|rL (.d (.agg (vw ((ev (h-1)).1) ++yR 4 ((ev (h-1)).2.1) 1200 ((ev (h-1)).2.2.1) 1200 ((ev (h-1)).2.2.2)))) (.d (.agg (vw ((ev (h-1)).1) ++yR 4 ((ev (h-1)).2.1) 1200 ((ev (h-1)).2.2.1) 1200 ((ev (h-1)).2.2.2)))) [(0,.is pp (.box 81 ([.v x,.v y]))),(1,.is x (.row 84 15 S.n (gY ev S.pl))),(2,.is y (.row 3 1 S.m (iw S.tr)))] [(0,.ptr 0 0),(2,.wit 1),(3,.wit 2)] ⟨rfl,rfl⟩ (Az aj rfl AV.le.rfl) (wk (sl:= [(20,.d (.agg (vw ((ev (h-1)).1) ++yR 4 ((ev (h-1)).2.1) 1200 ((ev (h-1)).2.2.1) 1200 ((ev (h-1)).2.2.2)))),(0,.ptr 0 0),(2,.wit 1),(3,.wit 2)]) (hp:= [(0,.is pp (.box 81 ([.v x,.v y]))),(1,.is x (.row 84 15 S.n (gY ev S.pl))),(2,.is y (.row 3 1 S.m (iw S.tr)))]) rfl ⟨hs rfl,hs rfl,hs rfl,hs rfl,trivial⟩ ⟨ho rfl,ho rfl,ho rfl,trivial⟩ rfl) ⟨⟨0,_,rfl,rfl⟩,⟨2,_,rfl,rfl⟩,⟨3,_,rfl,rfl⟩,trivial⟩
theorem ahj{s:AS}(t tw id:Nat){av:AV}(ht:Nat.ble (t+1) s.n=true)(hw:lk s.sl tw=some av)(hi:wY av=some id):Wk s ⟨s.n,(t,.wit id) ::s.sl,s.hp⟩:=by
 rintro B0 w0 a w ⟨ρ,hc,hn,hdf,hs⟩;have ht':t < s.n:=Nat.le_of_ble_eq_true ht;obtain ⟨u,_,hu⟩:=hs tw _ hw;exact ⟨ρ,hc,hn,hdf,rZ hs (v:=a.tmps[t]'(by omega)) (by simp) (xC hi hu)⟩
theorem Q7{x:Value}{a b:AO}(h:AO.le a b):AO.le (.is x a) b:=fun _ _ _ _ k=>h _ _ _ _ k.2
theorem q2{n:Nat}(h:n≤200000):IntKind.i64.wrap (Int.tdiv ((n:Nat):Int) 2)=((n / 2:Nat):Int):=by
 have:Int.tdiv ((n:Nat):Int) 2=((n / 2:Nat):Int):=rfl;rw [this];exact dS (by omega) (by omega)
theorem UpQ.dn{lt:Nat→Nat→Prop}{S T:HS}{k:Nat}(h:UpQ lt S k true T)(o:∀ n,LO lt n):Fr lt T k false true:=by
 rcases h.fr with ⟨rfl,f⟩ | f
 ·exact f
 ·exact f.any (o _)
/-- An event out of a batch. -/
def fA(ev:Nat→ET)(gs:Nat→Nat):Nat→ET:=fun j=>ev (gs j-1)
theorem abm{ev:Nat→ET}{gs:Nat→Nat}{k t:Nat}:dR (fA ev gs) k (ev (t-1))=fA ev (dR gs k t):=by
 funext j;show (if j=k then ev (t-1) else ev (gs j-1))=ev ((if j=k then t else gs j)-1)
 split <;> rfl
theorem TN{t:TypeId}{n h:Nat}{ev:Nat→ET}{gs:Nat→Nat}{el2:Nat→Nat→Lf}(h2:∀ j,j < 14→el2 0 j=((nI (ev (h-1)))[j]?).getD (.v undef)):AO.le (.row t 14 (n+1) (fB n (wU (fA ev gs)) el2)) (.row t 14 (n+1) (wU (fA ev (dR gs n h)))):=abm▸ab7 h2
/-- A batch's end. -/
structure Dx(ev:Nat→ET)(S:HS)(k:Nat)(gs:Nat→Nat)(T:HS):Prop where
 b:F7 ev S k gs T
 e:T.m=0∨(k≠0∧cZ (lV (ev (T.tr 0-1))) (lV (ev (gs 0-1)))≠0)
theorem Yu(lt:Nat→Nat→Prop)(f g:Nat→Nat)(hf:∀ i,f i=0):Hp lt ⟨0,f,0,g⟩:=⟨⟨fun k hk=>absurd hk (Nat.not_lt_zero _),fun i hi=>absurd hi (Nat.not_lt_zero _)⟩,fun i _ hi=>absurd hi (Nat.not_lt_zero _),fun i _ hi=>absurd hi (Nat.not_lt_zero _)⟩
section
variable {ev:Nat→ET} {S T:HS} {k h a b:Nat} {gs:Nat→Nat}
theorem aiK(hE:∀ i,HE (ev i))(n:¬ hL ev a b):cZ (lV (ev (b-1))) (lV (ev (a-1)))≤0:=by
 have h1:=iQ (hE (a-1)).cut (hE (b-1)).cut;have h2:¬ cZ (lV (ev (a-1))) (lV (ev (b-1))) < 0:=fun q=>n (Or.inl q)
 omega
/-- The root is least. -/
theorem Hp.rt(hE:∀ i,HE (ev i))(hp:Hp (hL ev) S)(i:Fb S h):cZ (lV (ev (S.tr 0-1))) (lV (ev (h-1)))≤0:=aiK hE (hp.first hE i)
theorem Hp.mi(hp:Hp (hL ev) S)(i:Fb S h):S.m≠0:=fun e=>i.pl (hp.m0 e _ (by have:=i.h0;have:=i.hn;omega))
/-- A batch takes what is least. -/
theorem Dx.iff(hE:∀ i,HE (ev i))(hp:Hp (hL ev) S)(q:Dx ev S k gs T)(i:Fb S h):Fb T h↔cZ (lV (ev (S.tr 0-1))) (lV (ev (h-1)))≠0:=by
 have cut:=fun a=>(hE (a-1)).cut
 refine ⟨fun j z=>?_,fun z=>?_⟩
 ·have hm:=q.b.hp.mi j
  obtain ⟨k0,ne⟩:=q.e.resolve_left hm;rw [q.b.h0 k0] at ne;have it:=q.b.hp.con.in (k:=0) (by omega);have h1:=hp.rt hE (q.b.inS it);have h2:=q.b.hp.rt hE j;obtain ⟨z1,_⟩:=XD (cut _) (cut _) (cut _) h1 h2 z;exact ne (by rw [iQ (cut _) (cut _),z1];rfl)
 ·refine ⟨i.h0,by rw [q.b.n];exact i.hn,fun e=>?_⟩
  rcases (q.b.pl (h-1) (by have:=i.h0;have:=i.hn;omega)).1 e with e | ⟨j,j1,j2⟩
  ·exact i.pl e
  ·have:=q.b.eq j j1
   rw [q.b.h0 (by omega),j2] at this;exact z (by rw [iQ (cut _) (cut _),this];rfl)
theorem IW.m1(c:IW T)(i:Fb T a)(h:∀ b,Fb T b→b=a):T.m=1:=by
 obtain ⟨h1,h2⟩:=i.at c;have:=i.pl
 by_cases e:T.m=1
 ·exact e
 ·have e0:=h _ (c.in (k:=0) (by omega))
  have e1:=h _ (c.in (k:=1) (by omega));exact absurd (by rw [e0,e1]) (c.ne (k:=0) (c:=1) (by omega) (by omega) (by decide))
end
theorem aaS.all{S T:HS}(h:aaS S T)(a:∀ i,i < S.n→S.pl i≠0)(i:Nat)(hi:i < T.n):T.pl i≠0:=by
 rw [h.n] at hi
 by_cases e:i=S.n
 ·rw [e];exact h.pn
 ·exact fun q=>a i (by omega) ((h.pl i (by omega)).1 q)
/-! ### The example -/
theorem agU{cl:Nat→Int}{n:Nat}{t:Rat}(hP:nJ cl n=ku t)(k:Int):cZ (bJ (IY cl n k) (Rn cl n k) (Rl cl n k)) (fE t)=0:=by
 have h2:2≤lg (nJ cl n):=by rw [hP,nV];exact Nat.le_refl _
 have hs:eY (nJ cl n)=ku t:=by rw [hP];exact acg t
 have hR:=Ue h2;rw [hs] at hR;have v0:=(Zv t).vc;rw [kE Rat.le_refl] at v0;obtain ⟨x,m,_⟩:=hR.all _ (kN t) v0;have hlen:(vK cl n).length≠0:=fun e=>by
  have e2:rtF (ku t) 56= []:=by rw [← hs];exact List.eq_nil_of_length_eq_zero e
  first
   | rw [e2] at m;cases m
   | (rw [List.eq_nil_of_length_eq_zero e] at m;cases m)
 have eC:IY cl n k=ku t:=by unfold IY pkA;rw [if_pos ⟨h2,hlen⟩];exact hs
 have v:=(OZ cl n k).v;have z:=yK v.vc;have eF:FF (IY cl n k)=FF (ku t):=by rw [eC]
 rw [eF,ags v.ok.cut] at z;exact z
noncomputable def eW(l:List Int):ET:=((fun _=>0),IY (EH l) 2 0,Rn (EH l) 2 0,Rl (EH l) 2 0)
theorem wS(l:List Int):HE (eW l):=⟨(OZ (EH l) 2 0).v,(OZ (EH l) 2 0).l5⟩
theorem ais{l:List Int}{t:Rat}(h:nJ (EH l) 2=ku t):∀ q,lV (eW l) q↔fE t q:=oH (agU h 0)
theorem aj6:nJ (EH [-1,1]) 2=ku 1:=funext fun i=>by
 match i with
 | 0=>decide
 | 1=>decide
 | i+2=>rw [OY (EH [-1,1]) 2 (i+2) (by omega),yw 1 (i+2) (by omega)]
theorem aj7:nJ (EH [-2,1]) 2=ku 2:=funext fun i=>by
 match i with
 | 0=>decide
 | 1=>decide
 | i+2=>rw [OY (EH [-2,1]) 2 (i+2) (by omega),yw 2 (i+2) (by omega)]
theorem air:cZ (lV (eW [-1,1])) (lV (eW [-2,1]))= -1:=by
 rw [Gn (ais aj6) (ais aj7),SA];exact Fz (by decide)
theorem ahk{ev:Nat→ET}{S T:HS}{k:Nat}{gs:Nat→Nat}(hE:∀ i,HE (ev i))(e0:ev 0=eW [-2,1])(e1:ev 1=eW [-1,1])(e2:ev 2=eW [-1,1])(hp:Hp (hL ev) S)(hn:S.n=3)(hm:S.m=3)(hpl:∀ i,i < 3→S.pl i≠0)(q:Dx ev S k gs T):k=2∧T.m=1:=by
 have hin:∀ h,h≠0→h≤3→Fb S h:=fun h a b=>⟨a,by omega,hpl _ (by omega)⟩
 have ir:=hp.con.in (k:=0) (by omega);have h2:=hp.rt hE (hin 2 (by decide) (by decide));have e12:=air;have e21:cZ (lV (eW [-2,1])) (lV (eW [-1,1]))=1:=by rw [iQ (wS _).cut (wS _).cut,e12];rfl
 have er:ev (S.tr 0-1)=eW [-1,1]:=by
  have:=ir.h0;have:=ir.hn;have h3:S.tr 0=1∨S.tr 0=2∨S.tr 0=3:=by omega
  rcases h3 with h3 | h3 | h3
  ·rw [h3,e0,show (2:Nat)-1=1 from rfl,e1] at h2;omega
  ·rw [h3];exact e1
  ·rw [h3];exact e2
 have i1:Fb T 1:=(q.iff hE hp (hin 1 (by decide) (by decide))).2 (by rw [er,e0,e12];decide);have hT:T.m=1:=q.b.hp.con.m1 i1 fun b ib=>by
  have:=ib.h0;have:=ib.hn;have:=q.b.n;have:=(q.iff hE hp (hin b (by omega) (by omega))).1 ib;rw [er] at this;have h3:b=1∨b=2∨b=3:=by omega
  rcases h3 with h3 | h3 | h3
  ·exact h3
  ·rw [h3,e1] at this;exact absurd (jU fun _=>Iff.rfl) this
  ·rw [h3,e2] at this;exact absurd (jU fun _=>Iff.rfl) this
 have:=q.b.m;exact ⟨by omega,hT⟩
section
open Go.RowKit Go.ChangeShapes Go.WideShapes
/-- Three numbers, a tag, a row. -/
abbrev J4:=(Int×Int×Int)×(Nat→Int)×Nat×(Nat→Int)
abbrev acc(a:J4):List Lf:= [.v (.int .i64 a.1.1),.v (.int .i64 a.1.2.1),.v (.int .i64 a.1.2.2)] ++vw a.2.1 ++ [YJ a.2.2.1 a.2.2.2]
abbrev ES(F:Nat→J4):Nat→Nat→Lf:=fun i j=>((acc (F i))[j]?).getD (.v undef)
/-- Its numbers are as they come in. -/
structure Wi(a:J4):Prop where
 d1: -9223372036854775808≤a.1.1
 d2:a.1.1≤9223372036854775807
 k1: -9223372036854775808≤a.1.2.1
 k2:a.1.2.1≤9223372036854775807
 h1: -9223372036854775808≤a.1.2.2
 h2:a.1.2.2≤9223372036854775807
 n:a.2.2.1≤9223372036854775807
 c:∀ i,i < a.2.2.1→-9223372036854775808≤a.2.2.2 i∧a.2.2.2 i≤9223372036854775807
section
variable {H:Type} {enc:TypeId×Value→H} {P:Program} {w:World}
theorem afd{t i ar:TypeId}{f0 f1:Field}{fuel:Nat}{c0 c1 c2 c3 c4:Value}{x:DataW H×List MemPlace}(hs:P.underlying t=some (.struct #[f0,f1]))(t0:f0.type=i)(t1:f1.type=ar)(ho:f0.offset=0∧f1.offset=1)(hi:P.underlying i=some (.int .i64))(ha:P.underlying ar=some (.array 4 i))(ci:P.cellsOf i=1)(ca:P.cellsOf ar=4) 
  (h:DataW.trod enc P w 0 (fun _=>true) true fuel t [c0,c1,c2,c3,c4]=some x):∃ a0 a1 a2 a3 a4:Int,c0= .int .i64 a0∧c1= .int .i64 a1∧c2= .int .i64 a2∧c3= .int .i64 a3∧c4= .int .i64 a4:=by
 obtain ⟨y0,y1,q,_,_,h0,h1⟩:=trod_struct2 hs h;obtain ⟨o0,o1⟩:=ho;rw [o0,t0,ci] at h0;rw [o1,t1,ca] at h1;obtain ⟨_,_,_,_,_,_,k1,k2,k3,k4⟩:=trod_array4 ha ci (show DataW.trod enc P w 0 (fun _=>true) true q ar [c1,c2,c3,c4]=some y1 from h1);obtain ⟨a0,e0,_⟩:=DataW.trod_int hi h0;obtain ⟨a1,e1,_⟩:=DataW.trod_int hi k1;obtain ⟨a2,e2,_⟩:=DataW.trod_int hi k2;obtain ⟨a3,e3,_⟩:=DataW.trod_int hi k3;obtain ⟨a4,e4,_⟩:=DataW.trod_int hi k4;exact ⟨a0,a1,a2,a3,a4,(List.cons.inj e0).1,(List.cons.inj e1).1,(List.cons.inj e2).1,(List.cons.inj e3).1,(List.cons.inj e4).1⟩
theorem abh{t tt sl i ar:TypeId}{g0 g1 g2 g3 g4 f0 f1:Field}{fuel:Nat}{cs:List Value}{x:DataW H×List MemPlace}(hr:P.underlying t=some (.struct #[g0,g1,g2,g3,g4]))(u0:g0.type=i)(u1:g1.type=i)(u2:g2.type=i)(u3:g3.type=tt)(u4:g4.type=sl) 
  (hg:g0.offset=0∧g1.offset=1∧g2.offset=2∧g3.offset=3∧g4.offset=8) (hs:P.underlying tt=some (.struct #[f0,f1])) (t0:f0.type=i) (t1:f1.type=ar) (ho:f0.offset=0∧f1.offset=1) (hi:P.underlying i=some (.int .i64)) (ha:P.underlying ar=some (.array 4 i)) (hsl:P.underlying sl=some (.slice i)) (ci:P.cellsOf i=1) (ca:P.cellsOf ar=4) (ct:P.cellsOf tt=5) (cl:P.cellsOf sl=1) (hl:cs.length=9)
  (h:DataW.trod enc P w 0 (fun _=>true) true fuel t cs=some x):∃ a:J4,gJ nb w (acc a) cs∧Wi a:=by
 obtain ⟨xs,n,_,_,_,hlen,hf⟩:=DataW.trod_struct hr h;obtain ⟨o0,o1,o2,o3,o4⟩:=hg
 match xs,hlen with
 | [y0,y1,y2,y3,y4],_=>
 match cs,hl with
 | [c0,c1,c2,c3,c4,c5,c6,c7,c8],_=>
  have k0:=hf 0 g0 rfl;have k1:=hf 1 g1 rfl;have k2:=hf 2 g2 rfl;have k3:=hf 3 g3 rfl;have k4:=hf 4 g4 rfl;rw [o0,u0,ci] at k0;rw [o1,u1,ci] at k1;rw [o2,u2,ci] at k2;rw [o3,u3,ct] at k3;rw [o4,u4,cl] at k4;obtain ⟨d,e0,_,w0⟩:=DataW.trod_int hi k0;obtain ⟨k,e1,_,w1⟩:=DataW.trod_int hi k1;obtain ⟨hh,e2,_,w2⟩:=DataW.trod_int hi k2;obtain ⟨a0,a1,a2,a3,a4,q0,q1,q2,q3,q4⟩:=afd hs t0 t1 ho hi ha ci ca (show DataW.trod enc P w 0 (fun _=>true) true n tt [c3,c4,c5,c6,c7]=some y3 from k3);obtain ⟨v,m,c,e8,r8,b8,b9⟩:=abk hsl hi ci k4;obtain rfl:=(List.cons.inj e0).1;obtain rfl:=(List.cons.inj e1).1;obtain rfl:=(List.cons.inj e2).1;obtain rfl:=(List.cons.inj e8).1;subst q0;subst q1;subst q2;subst q3;subst q4;exact ⟨((d,k,hh),(fun j=> [a0,a1,a2,a3,a4].getD j 0),m,c),⟨⟨rfl,rfl⟩,⟨rfl,rfl⟩,⟨rfl,rfl⟩,⟨rfl,rfl⟩,⟨rfl,rfl⟩,⟨rfl,rfl⟩,⟨rfl,rfl⟩,⟨rfl,rfl⟩,r8,trivial⟩,(AX w0).1,(AX w0).2,(AX w1).1,(AX w1).2,(AX w2).1,(AX w2).2,b8,b9⟩
theorem abj{r:Reach}{b0:Nat}{d:DataW H}{p:List MemPlace}{v:Value}{ts t tt sl i ar:TypeId}{g0 g1 g2 g3 g4 f0 f1:Field}(hts:P.underlying ts=some (.slice t))(hC:P.cellsOf t=9)(hr:P.underlying t=some (.struct #[g0,g1,g2,g3,g4]))(u0:g0.type=i)(u1:g1.type=i)(u2:g2.type=i)(u3:g3.type=tt)(u4:g4.type=sl) 
  (hg:g0.offset=0∧g1.offset=1∧g2.offset=2∧g3.offset=3∧g4.offset=8) (hs:P.underlying tt=some (.struct #[f0,f1])) (t0:f0.type=i) (t1:f1.type=ar) (ho:f0.offset=0∧f1.offset=1) (hi:P.underlying i=some (.int .i64)) (ha:P.underlying ar=some (.array 4 i)) (hsl:P.underlying sl=some (.slice i)) (ci:P.cellsOf i=1) (ca:P.cellsOf ar=4) (ct:P.cellsOf tt=5) (cl:P.cellsOf sl=1)
  (hv:Value.okWide P w r b0 ts v) (h:DataW.Trod enc P w 0 (fun _=>true) true ts v d p):∃ n F,eu nb w (.row 9 n (ES F)) v∧n≤9223372036854775807∧∀ j,Wi (F j):=by
 obtain ⟨a,len,cap,rfl⟩:=okWide_slice hts hv;obtain ⟨fuel,hf⟩:=h;rw [O8] at hf;have z0:Wi ((0,0,0),(fun _=>0),0,fun _=>0):=⟨by decide,by decide,by decide,by decide,by decide,by decide,by decide,fun i hi=>absurd hi (Nat.not_lt_zero _)⟩;rcases Go.Deep.open_slice hts hf with ⟨hcs,_⟩ | ⟨a',len',cap',m,n,D,Pl,hcs,_,hl,hm,hmm,_,hx⟩
 ·obtain e:=(List.cons.inj hcs).1
  rw [e];exact ⟨0,fun _=>((0,0,0),(fun _=>0),0,fun _=>0),⟨none,0,rfl,Nat.le_refl _,fun _=>rfl,fun i hi=>absurd hi (Nat.not_lt_zero _)⟩,Nat.zero_le _,fun _=>z0⟩
 ·obtain e:=(List.cons.inj hcs).1
  rw [e];have hm2:m=cap':=by simpa using hmm
  have hmx:maxLen=9223372036854775807:=by decide
  have key:∀ j,j < len'→∃ F:J4,(∃ b off,a'=⟨b,off,none⟩∧b < w.heap.size∧∀ q,q < 9→∃ c,w.cell? ⟨b,off+j*9+q,none⟩=some c∧eu nb w (((acc F)[q]?).getD (.v undef)) c)∧Wi F:=by
   intro j hj;have hfirst:∃ v0,w.cell? (a'.add 0)=some v0:=by
    obtain ⟨cs,h2,_⟩:=hx 0 (by omega);rw [hC] at h2;obtain ⟨_,hlen,hcell⟩:=World.cells?_some h2;have h3:=hcell 0 (by omega);rw [Nat.zero_mul,show (a'.add 0).add 0=a'.add 0 by simp [Addr.add]] at h3;exact ⟨_,h3.trans (List.getElem?_eq_getElem (by omega))⟩
   obtain ⟨v0,hv0⟩:=hfirst;obtain ⟨b,off,rfl⟩:=zN hv0;obtain ⟨cs,h2,h3⟩:=hx j (by omega);rw [hC] at h2;obtain ⟨_,hlen,hcell⟩:=World.cells?_some h2;obtain ⟨F,hls,hB⟩:=abh hr u0 u1 u2 u3 u4 hg hs t0 t1 ho hi ha hsl ci ca ct cl hlen h3;have hlt:b < w.heap.size:=by
    have h4:=hcell 0 (by omega);rw [uF,uF] at h4;exact World.block_lt_of_cell? w _ (h4.trans (List.getElem?_eq_getElem (by omega)))
   refine ⟨F,⟨b,off,rfl,hlt,fun q hq=>?_⟩,hB⟩;have h4:=hcell q (by omega);rw [uF,uF] at h4;obtain ⟨c,hc1,hc2⟩:=hls.get (j:=q) (l:=((acc F)[q]?).getD (.v undef)) (by
    have hl9:(acc F).length=9:=rfl;rw [List.getElem?_eq_getElem (by omega)];rfl)
   exact ⟨c,h4.trans hc1,hc2⟩
  refine ⟨len',fun j=>if h:j < len' then (key j h).choose else ((0,0,0),(fun _=>0),0,fun _=>0),⟨some a',cap',rfl,hl,(fun e=>nomatch e),fun j hj=>?_⟩,by omega,fun j=>?_⟩
  ·obtain ⟨⟨b,off,rfl,h2,h3⟩,_⟩:=(key j hj).choose_spec
   refine ⟨b,off,rfl,fun h=>h.elim,h2,fun q hq=>?_⟩;obtain ⟨c,h4,h5⟩:=h3 q hq;refine ⟨c,h4,?_⟩;simp only [ES,dif_pos hj];exact h5
  ·by_cases hj:j < len'
   ·simp only [dif_pos hj];exact (key j hj).choose_spec.2
   ·simp only [dif_neg hj];exact z0
end
end
section
variable {s:AS}
theorem alL{K KC X Y:Nat}{c:Nat→Int}{lo hi:Rat}(t:Nat)(h:lk s.sl t=some (.d (.agg ([dJ K (lg c) (rc c)] ++ [aY (bF c KC) (fun L=>bH KC L)] ++qn X lo ++qn Y hi))))(z:aZ c):∀ B0 w0 a w,J6 s B0 w0 a w→Db K c∧Qb X lo∧Qb Y hi:=by
 rintro B0 w0 a w ⟨ρ,hc,hn,hdf,hs⟩;obtain ⟨v,_,cs,_,hl⟩:=hs t _ h;exact O3 z hl
end
theorem LC{a b:AO}(h:a=b):AO.le a b:=h▸AO.le.rfl
/-- A picked number's ends stay as they are. -/
theorem aiB{c:Nat→Int}{lo hi:Rat}(h:EX c lo hi):zH c lo hi=(lo,hi):=if_neg fun q=>h.elim q.1 fun k=>k q.2
theorem X9{c:Nat→Int}{X:Nat}{lo hi:Rat}(x:EX c lo hi)(h1:Qb 1200 lo)(h2:Qb 1200 hi):AV.le (.d (.agg ([.row 4 (lg c) (aK 4 (rc c))] ++ [aY (bF c 2916) (fun L=>bH 2916 L)] ++qn X ((zH c lo hi).1) ++qn X ((zH c lo hi).2)))) (.d (.agg ([.row 4 (lg c) (aK 4 (rc c))] ++ [aY (bF c 2916) (fun L=>bH 2916 L)] ++qn 1200 lo ++qn 1200 hi))):=by
 rw [aiB x];exact nT (gK (gK (fun _ _ _ h=>h) (eX h1)) (eX h2))
/-- An event at a picked time. -/
structure BE(e:ET):Prop where
 o:PkP e.2.1 e.2.2.1 e.2.2.2
 q1:Qb 1200 e.2.2.1
 q2:Qb 1200 e.2.2.2
noncomputable def pkE(F:Nat→J4)(i:Nat):ET:=((F i).2.1,IY (F i).2.2.2 (F i).2.2.1 (F i).1.2.1,Rn (F i).2.2.2 (F i).2.2.1 (F i).1.2.1,Rl (F i).2.2.2 (F i).2.2.1 (F i).1.2.1)
theorem Uc(F:Nat→J4)(i:Nat):PkP (pkE F i).2.1 (pkE F i).2.2.1 (pkE F i).2.2.2:=OZ _ _ _
theorem ZH(F:Nat→J4)(i:Nat):HE (pkE F i):=⟨(Uc F i).v,(Uc F i).l5⟩
section
variable {ev:Nat→ET} {S T:HS} {k:Nat} {gs:Nat→Nat}
theorem Dx.k0(q:Dx ev S k gs T)(hm:S.m≠0):k≠0:=fun e=>by
 rcases q.e with h | h
 ·have:=q.b.z e
  rw [this] at h;exact hm h
 ·exact h.1 e
theorem Dx.tag(q:Dx ev S k gs T)(hm:S.m≠0):Nr (ev (S.tr 0-1)).1 (fA ev gs 0).1:=fun j _=>by
 show _=(ev (gs 0-1)).1 j
 rw [q.b.h0 (q.k0 hm)]
theorem Dx.ntg(hE:∀ i,HE (ev i))(q:Dx ev S k gs T){j:Nat}(h:j+1 < k):¬ E5 (fA ev gs (j+1)).1 (fA ev gs j).1:=fun t=>by
 have c:=fun a=>(hE (a-1)).cut
 refine q.b.up j h (Or.inr ⟨?_,Or.inl t⟩);have h1:=q.b.eq (j+1) h;have h2:=q.b.eq j (by omega);have h3:cZ (lV (ev (gs 0-1))) (lV (ev (gs j-1)))=0:=by rw [iQ (c _) (c _),h2];rfl
 exact jU fun r=>(oH h1 r).trans (oH h3 r)
/-- What is left is later. -/
theorem Dx.lt(hE:∀ i,HE (ev i))(hp:Hp (hL ev) S)(q:Dx ev S k gs T)(h:Nat)(i:Fb T h):cZ (lV (fA ev gs 0)) (lV (ev (h-1))) < 0:=by
 have is:=q.b.inS i;have hm:=hp.mi is;have h1:=hp.rt hE is;have h2:=(q.iff hE hp is).1 i;show cZ (lV (ev (gs 0-1))) _ < 0
 rw [q.b.h0 (q.k0 hm)];omega
end
/-- The last batch's time. -/
abbrev qcE(e:ET):List Lf:= [.row 4 (lg e.2.1) (aK 4 (rc e.2.1))] ++ [aY (bF e.2.1 2916) (fun L=>bH 2916 L)] ++qn 1200 e.2.2.1 ++qn 1200 e.2.2.2
structure LsI(ev:Nat→ET)(n:Nat)(Z:List Lf)(V:HS)(s:Nat)(le:List Lf):Prop where
 hp:Hp (hL ev) V
 vn:V.n=n
 vm:V.m+s=n
 l:(s=0∧le=Z)∨(s≠0∧∃ e,BE e∧le=qcE e∧∀ h,Fb V h→cZ (lV e) (lV (ev (h-1))) < 0)
theorem LsI.next{ev:Nat→ET}{n:Nat}{Z:List Lf}{V T:HS}{s k:Nat}{le:List Lf}{gs:Nat→Nat}(h:LsI ev n Z V s le)(hE:∀ i,HE (ev i))(hB:∀ p,p < n→BE (ev p))(hm:V.m≠0)(q:Dx ev V k gs T):LsI ev n Z T (s+k) (qcE (fA ev gs 0)):=by
 have:=q.k0 hm;have:=q.b.m;have:=h.vm;have i0:=q.b.mem 0 (by omega);have:=i0.hn;have:=i0.h0;have:=h.vn;exact ⟨q.b.hp,q.b.n.trans h.vn,by omega,Or.inr ⟨by omega,_,hB (gs 0-1) (by omega),rfl,q.lt hE h.hp⟩⟩
theorem ae7{t u:Nat→Int}{b:Bool}(hb:b=true↔E5 t u):aC Tryz.prog 14 [.agg (vw t),.agg (vw u)] (.d (.one (.v (.bool b)))):=by
 refine aN 38 [.tmp 4] Tryz.func14 rfl<|cR<|mO rfl<|mO rfl<|mW rfl<|mT<|au<|au ?_
 by_cases ht0:t 0=u 0
 ·refine aA<|mv4 rfl rfl rfl rfl<|mbF rfl (by rw [ht0];exact bne_self_eq_false _)<|mT<|cFs rfl<|au<|cR<|mW rfl<|mT<|aJ<|dQ (ι:=Nat) (fun (i:Nat)=>⟨38,[(2,.ptr 2 0),(3,.ptr 3 0),(5,.d (.one (.v (.int .i64 ((i:Nat):Int)))))],[(2,.box 28 (vw t)),(3,.box 28 (vw u))]⟩) (fun (i:Nat)=>i≤4∧∀ j,j≤i→t j=u j) (fun (i:Nat)=>4-i) 0 (⟨Nat.zero_le _,fun j hj=>by obtain rfl:j=0:=(by omega);exact ht0⟩) (wk rfl ⟨hs rfl,hs rfl,fM rfl (aG rfl),trivial⟩ ⟨ho rfl,ho rfl,trivial⟩ rfl) ?_;rintro i hI;have hi:i≤4∧∀ j,j≤i→t j=u j:=hI
  show AW _ _ _ ⟨_,_,_⟩
  refine au<|cR<|mv2 rfl rfl<|mT<|aW rfl (fun hc1=>?_) (fun hc1=>?_)
  ·refine aF<|tN<|au<|aJ<|au ?_;have hi4:i=0∨i=1∨i=2∨i=3:=by have h0:=of_decide_eq_true hc1;omega
   rcases hi4 with rfl | rfl | rfl | rfl
   ·by_cases htn:t 1=u 1
    ·exact cDk 9<|.cons (aB.V _ rfl)<|oV rfl<|.cons (aB.X (.ptr 2 1) (jZ (i:=0) (sz:=1) rfl Tryz.underlying26 Tryz.sizeOf3 rfl rfl (by decide)))<|oV rfl<|.cons (aB.V _ rfl)<|oV rfl<|.cons (aB.X (.ptr 3 1) (jZ (i:=0) (sz:=1) rfl Tryz.underlying26 Tryz.sizeOf3 rfl rfl (by decide)))<|oV rfl<|oF rfl (by rw [htn];exact bne_self_eq_false _)<|.nil<|mT<|cF rfl<|aF<|bN<|tN<|aA<|mW rfl<|mV aj (.d (.one (.v (.int .i64 ((0+1:Nat):Int))))) (fH (dG (by omega)))<|mW rfl<|ak<|⟨(0+1),⟨by decide,fun j hj=>if q:j=1 then by rw [q];exact htn else hi.2 j (by omega)⟩,by decide,wkr rfl rfl⟩
    ·exact cDk 9<|.cons (aB.V _ rfl)<|oV rfl<|.cons (aB.X (.ptr 2 1) (jZ (i:=0) (sz:=1) rfl Tryz.underlying26 Tryz.sizeOf3 rfl rfl (by decide)))<|oV rfl<|.cons (aB.V _ rfl)<|oV rfl<|.cons (aB.X (.ptr 3 1) (jZ (i:=0) (sz:=1) rfl Tryz.underlying26 Tryz.sizeOf3 rfl rfl (by decide)))<|oV rfl<|oT rfl (bne_iff_ne.2 htn)<|.nil<|mT<|cT rfl<|au<|cDk 10<|.cons (aB.V _ rfl)<|oV rfl<|.cons (aB.X (.ptr 2 1) (jZ (i:=0) (sz:=1) rfl Tryz.underlying26 Tryz.sizeOf3 rfl rfl (by decide)))<|oV rfl<|.cons (aB.V _ rfl)<|oV rfl<|.cons (aB.X (.ptr 3 1) (jZ (i:=0) (sz:=1) rfl Tryz.underlying26 Tryz.sizeOf3 rfl rfl (by decide)))<|oV rfl<|.cons (aB.V (.d (.one (.v (.bool b)))) (bZ (xE hb (uq (i:=1) (by decide) (fun j hj=>hi.2 j (by omega)) htn))))<|.cons (aB.V _ rfl)<|.nil<|mT<|aO<|bR<|tR<|tR<|bR<|tR<|rQ rfl (AV.le.rfl)
   ·by_cases htn:t 2=u 2
    ·exact cDk 9<|.cons (aB.V _ rfl)<|oV rfl<|.cons (aB.X (.ptr 2 2) (jZ (i:=1) (sz:=1) rfl Tryz.underlying26 Tryz.sizeOf3 rfl rfl (by decide)))<|oV rfl<|.cons (aB.V _ rfl)<|oV rfl<|.cons (aB.X (.ptr 3 2) (jZ (i:=1) (sz:=1) rfl Tryz.underlying26 Tryz.sizeOf3 rfl rfl (by decide)))<|oV rfl<|oF rfl (by rw [htn];exact bne_self_eq_false _)<|.nil<|mT<|cF rfl<|aF<|bN<|tN<|aA<|mW rfl<|mV aj (.d (.one (.v (.int .i64 ((1+1:Nat):Int))))) (fH (dG (by omega)))<|mW rfl<|ak<|⟨(1+1),⟨by decide,fun j hj=>if q:j=2 then by rw [q];exact htn else hi.2 j (by omega)⟩,by decide,wkr rfl rfl⟩
    ·exact cDk 9<|.cons (aB.V _ rfl)<|oV rfl<|.cons (aB.X (.ptr 2 2) (jZ (i:=1) (sz:=1) rfl Tryz.underlying26 Tryz.sizeOf3 rfl rfl (by decide)))<|oV rfl<|.cons (aB.V _ rfl)<|oV rfl<|.cons (aB.X (.ptr 3 2) (jZ (i:=1) (sz:=1) rfl Tryz.underlying26 Tryz.sizeOf3 rfl rfl (by decide)))<|oV rfl<|oT rfl (bne_iff_ne.2 htn)<|.nil<|mT<|cT rfl<|au<|cDk 10<|.cons (aB.V _ rfl)<|oV rfl<|.cons (aB.X (.ptr 2 2) (jZ (i:=1) (sz:=1) rfl Tryz.underlying26 Tryz.sizeOf3 rfl rfl (by decide)))<|oV rfl<|.cons (aB.V _ rfl)<|oV rfl<|.cons (aB.X (.ptr 3 2) (jZ (i:=1) (sz:=1) rfl Tryz.underlying26 Tryz.sizeOf3 rfl rfl (by decide)))<|oV rfl<|.cons (aB.V (.d (.one (.v (.bool b)))) (bZ (xE hb (uq (i:=2) (by decide) (fun j hj=>hi.2 j (by omega)) htn))))<|.cons (aB.V _ rfl)<|.nil<|mT<|aO<|bR<|tR<|tR<|bR<|tR<|rQ rfl (AV.le.rfl)
   ·by_cases htn:t 3=u 3
    ·exact cDk 9<|.cons (aB.V _ rfl)<|oV rfl<|.cons (aB.X (.ptr 2 3) (jZ (i:=2) (sz:=1) rfl Tryz.underlying26 Tryz.sizeOf3 rfl rfl (by decide)))<|oV rfl<|.cons (aB.V _ rfl)<|oV rfl<|.cons (aB.X (.ptr 3 3) (jZ (i:=2) (sz:=1) rfl Tryz.underlying26 Tryz.sizeOf3 rfl rfl (by decide)))<|oV rfl<|oF rfl (by rw [htn];exact bne_self_eq_false _)<|.nil<|mT<|cF rfl<|aF<|bN<|tN<|aA<|mW rfl<|mV aj (.d (.one (.v (.int .i64 ((2+1:Nat):Int))))) (fH (dG (by omega)))<|mW rfl<|ak<|⟨(2+1),⟨by decide,fun j hj=>if q:j=3 then by rw [q];exact htn else hi.2 j (by omega)⟩,by decide,wkr rfl rfl⟩
    ·exact cDk 9<|.cons (aB.V _ rfl)<|oV rfl<|.cons (aB.X (.ptr 2 3) (jZ (i:=2) (sz:=1) rfl Tryz.underlying26 Tryz.sizeOf3 rfl rfl (by decide)))<|oV rfl<|.cons (aB.V _ rfl)<|oV rfl<|.cons (aB.X (.ptr 3 3) (jZ (i:=2) (sz:=1) rfl Tryz.underlying26 Tryz.sizeOf3 rfl rfl (by decide)))<|oV rfl<|oT rfl (bne_iff_ne.2 htn)<|.nil<|mT<|cT rfl<|au<|cDk 10<|.cons (aB.V _ rfl)<|oV rfl<|.cons (aB.X (.ptr 2 3) (jZ (i:=2) (sz:=1) rfl Tryz.underlying26 Tryz.sizeOf3 rfl rfl (by decide)))<|oV rfl<|.cons (aB.V _ rfl)<|oV rfl<|.cons (aB.X (.ptr 3 3) (jZ (i:=2) (sz:=1) rfl Tryz.underlying26 Tryz.sizeOf3 rfl rfl (by decide)))<|oV rfl<|.cons (aB.V (.d (.one (.v (.bool b)))) (bZ (xE hb (uq (i:=3) (by decide) (fun j hj=>hi.2 j (by omega)) htn))))<|.cons (aB.V _ rfl)<|.nil<|mT<|aO<|bR<|tR<|tR<|bR<|tR<|rQ rfl (AV.le.rfl)
   ·by_cases htn:t 4=u 4
    ·exact cDk 9<|.cons (aB.V _ rfl)<|oV rfl<|.cons (aB.X (.ptr 2 4) (jZ (i:=3) (sz:=1) rfl Tryz.underlying26 Tryz.sizeOf3 rfl rfl (by decide)))<|oV rfl<|.cons (aB.V _ rfl)<|oV rfl<|.cons (aB.X (.ptr 3 4) (jZ (i:=3) (sz:=1) rfl Tryz.underlying26 Tryz.sizeOf3 rfl rfl (by decide)))<|oV rfl<|oF rfl (by rw [htn];exact bne_self_eq_false _)<|.nil<|mT<|cF rfl<|aF<|bN<|tN<|aA<|mW rfl<|mV aj (.d (.one (.v (.int .i64 ((3+1:Nat):Int))))) (fH (dG (by omega)))<|mW rfl<|ak<|⟨(3+1),⟨by decide,fun j hj=>if q:j=4 then by rw [q];exact htn else hi.2 j (by omega)⟩,by decide,wkr rfl rfl⟩
    ·exact cDk 9<|.cons (aB.V _ rfl)<|oV rfl<|.cons (aB.X (.ptr 2 4) (jZ (i:=3) (sz:=1) rfl Tryz.underlying26 Tryz.sizeOf3 rfl rfl (by decide)))<|oV rfl<|.cons (aB.V _ rfl)<|oV rfl<|.cons (aB.X (.ptr 3 4) (jZ (i:=3) (sz:=1) rfl Tryz.underlying26 Tryz.sizeOf3 rfl rfl (by decide)))<|oV rfl<|oT rfl (bne_iff_ne.2 htn)<|.nil<|mT<|cT rfl<|au<|cDk 10<|.cons (aB.V _ rfl)<|oV rfl<|.cons (aB.X (.ptr 2 4) (jZ (i:=3) (sz:=1) rfl Tryz.underlying26 Tryz.sizeOf3 rfl rfl (by decide)))<|oV rfl<|.cons (aB.V _ rfl)<|oV rfl<|.cons (aB.X (.ptr 3 4) (jZ (i:=3) (sz:=1) rfl Tryz.underlying26 Tryz.sizeOf3 rfl rfl (by decide)))<|oV rfl<|.cons (aB.V (.d (.one (.v (.bool b)))) (bZ (xE hb (uq (i:=4) (by decide) (fun j hj=>hi.2 j (by omega)) htn))))<|.cons (aB.V _ rfl)<|.nil<|mT<|aO<|bR<|tR<|tR<|bR<|tR<|rQ rfl (AV.le.rfl)
  ·refine dO<|tE<|tE<|bE<|tN<|au ?_;have hno:¬ E5 t u:=aaq fun j hj=>hi.2 j (by have h0:=of_decide_eq_false hc1;omega)
   obtain rfl:b=false:=Bool.eq_false_iff.2 (fun q=>hno (hb.1 q));exact aA<|mW rfl<|mT<|aO<|rQ rfl (AV.le.rfl)
 ·exact aA<|mv4 rfl rfl rfl rfl<|mbT rfl (bne_iff_ne.2 ht0)<|mT<|cT rfl<|cR<|mv4 rfl rfl rfl rfl<|mV aj (.d (.one (.v (.bool b)))) (bZ (xE hb (uq (i:=0) (by decide) (fun j hj=>absurd hj (Nat.not_lt_zero _)) ht0)))<|mW rfl<|mT<|aO<|tR<|rQ rfl (AV.le.rfl)
theorem ahM{pp x y:Value}{ev:Nat→ET}{S:HS}{k:Nat}{d:Bool}(hE:∀ i,HE (ev i))(hf:Fr (hL ev) S k true d)(hk:k < S.m)(hN:S.n≤100000)(hM:S.m≤100000):lY Tryz.prog 29 [.ptr 0 0,.d (.one (.v (.int .i64 ((k:Nat):Int))))] (JC pp x y ev S) [0,1,2] [0,1,2] (fun r hp=>r= .lK []∧∃ T,UpQ (hL ev) S k d T∧hp=(JC pp x y ev T)):=by
 refine lT 57 [] [(2,1),(3,2)] Tryz.func29 rfl rfl rfl rfl rfl ⟨⟨Nat.le_of_ble_eq_true rfl,by decide,by decide⟩,⟨Nat.le_of_ble_eq_true rfl,by decide,by decide⟩,trivial⟩ ?_;show AW _ _ _ ⟨57,[(0,.ptr 0 0),(1,.d (.one (.v (.int .i64 ((k:Nat):Int))))),(2,.wit 1),(3,.wit 2)],[(0,.is pp (.box 81 ([.v x,.v y]))),(1,.is x (.row 84 15 S.n (gY ev S.pl))),(2,.is y (.row 3 1 S.m (iw S.tr)))]⟩
 refine aJ<|dQ (ι:=HS×Nat) (fun (p:HS×Nat)=>match p with | (T,j)=>⟨57,[(0,.ptr 0 0),(1,.d (.one (.v (.int .i64 ((j:Nat):Int))))),(2,.wit 1),(3,.wit 2)],[(0,.is pp (.box 81 ([.v x,.v y]))),(1,.is x (.row 84 15 T.n (gY ev T.pl))),(2,.is y (.row 3 1 T.m (iw T.tr)))]⟩) (fun (p:HS×Nat)=>match p with | (T,j)=>RV (hL ev) S k d T j) (fun (p:HS×Nat)=>match p with | (T,j)=>j) (S,k) (RV.start hf hk) (wkr rfl rfl) ?_;rintro ⟨T,j⟩ hI;have hI:RV (hL ev) S k d T j:=hI;show AW _ _ _ ⟨_,_,_⟩
 refine au<|au ?_;have hj:=hI.jm;have hc1:=hI.con.tr j hj;have hc2:=hI.con.tr ((j-1) / 2) (by omega);have hn:=hI.Nq.n;have hmm:=hI.Nq.m
 by_cases hj0:j=0
 ·exact cDk 22<|.cons (aB.V _ rfl)<|oFd rfl (by omega)<|.cons (aB.V _ rfl)<|.cons (aB.G rfl rfl)<|.cons (aB.G rfl rfl)<|.cons (aB.G rfl rfl)<|.cons (aB.G rfl rfl)<|.cons (aB.G rfl rfl)<|.cons (aB.G rfl rfl)<|.cons (aB.G rfl rfl)<|.cons (aB.G rfl rfl)<|.cons (aB.G rfl rfl)<|.cons (aB.G rfl rfl)<|.cons (aB.G rfl rfl)<|.cons (aB.G rfl rfl)<|.cons (aB.G rfl rfl)<|.cons (aB.G rfl rfl)<|.cons (aB.G rfl rfl)<|.cons (aB.G rfl rfl)<|.cons (aB.G rfl rfl)<|.cons (aB.G rfl rfl)<|.cons (aB.V _ rfl)<|.nil<|mT<|cF rfl<|dO<|tE<|tE<|bE<|rLn (.lK []) (.lK []) [(0,.is pp (.box 81 ([.v x,.v y]))),(1,.is x (.row 84 15 T.n (gY ev T.pl))),(2,.is y (.row 3 1 T.m (iw T.tr)))] [(0,.ptr 0 0),(2,.wit 1),(3,.wit 2)] ⟨rfl,T,hI.fin (wW hE) (Or.inl hj0),rfl⟩ (Az aj rfl AV.le.rfl) (wk (sl:= [(57,.lK []),(0,.ptr 0 0),(2,.wit 1),(3,.wit 2)]) (hp:= [(0,.is pp (.box 81 ([.v x,.v y]))),(1,.is x (.row 84 15 T.n (gY ev T.pl))),(2,.is y (.row 3 1 T.m (iw T.tr)))]) rfl ⟨hs rfl,hs rfl,hs rfl,hs rfl,trivial⟩ ⟨ho rfl,ho rfl,ho rfl,trivial⟩ rfl) ⟨⟨0,_,rfl,rfl⟩,⟨2,_,rfl,rfl⟩,⟨3,_,rfl,rfl⟩,trivial⟩
 ·by_cases hlt:hL ev (T.tr j) (T.tr ((j-1) / 2))
  ·refine cDk 20<|.cons (aB.V _ rfl)<|oTd rfl (by omega)<|.cons (aB.V _ rfl)<|.cons (aB.V _ rfl)<|.cons (aB.V _ rfl)<|.cons (aB.X (.ptr 0 0) (eG rfl rfl))<|oV rfl<|.cons (aB.Y y 3 2 rfl rfl rfl rfl rfl)<|.cons (aB.V _ rfl)<|.cons (aB.V (.dU 2 1 j 0) (qy (z:=((j:Nat):Int)) (n:=T.m) rfl rfl rfl rfl rfl rfl rfl (by omega) (by omega)))<|oV rfl<|.cons (aB.V _ rfl)<|.cons (aB.X (.ptr 0 0) (eG rfl rfl))<|oV rfl<|.cons (aB.Y y 3 2 rfl rfl rfl rfl rfl)<|.cons (aB.V _ rfl)<|.cons (aB.V (.d (.one (.v (.int .i64 ((j-1:Nat):Int))))) (fH ((dS (by omega) (by omega)).trans (by omega))))<|.cons (aB.V (.d (.one (.v (.int .i64 (((j-1) / 2:Nat):Int))))) (fH (q2 (by omega))))<|.cons (aB.V (.dU 2 1 ((j-1) / 2) 0) (qy (z:=(((j-1) / 2:Nat):Int)) (n:=T.m) rfl rfl rfl rfl rfl rfl rfl (by omega) (by omega)))<|oV rfl<|.nil<|zL (DI (pp:=pp) (x:=x) (y:=y) (ev:=ev) (S:=T) (a:=(T.tr j)) (b:=(T.tr ((j-1) / 2))) (c:=true) hE hc1.1 hc1.2.1 hc2.1 hc2.2.1 (by omega) ⟨fun _=>hlt,fun _=>rfl⟩) [(0,0),(1,1),(2,2)] [] [] [] [] rfl rfl ⟨⟨_,_,rfl,AV.le.rfl,rfl⟩,⟨_,_,rfl,AV.le.rfl,rfl⟩,⟨_,_,rfl,AV.le.rfl,rfl⟩,trivial⟩ ⟨⟨_,_,rfl,rfl,AO.le.rfl,rfl⟩,⟨_,_,rfl,rfl,AO.le.rfl,rfl⟩,⟨_,_,rfl,rfl,AO.le.rfl,rfl⟩,trivial⟩ trivial ⟨⟨_,0,_,rfl,rfl,rfl⟩,⟨_,2,_,rfl,rfl,rfl⟩,⟨_,3,_,rfl,rfl,rfl⟩,trivial⟩ ⟨Or.inr ⟨_,_,rfl,by decide,fun _ _ h=>by obtain ⟨rfl,rfl⟩:=h;exact ⟨_,rfl⟩⟩,Or.inr ⟨_,_,rfl,by decide,fun _ _ h=>by obtain ⟨rfl,rfl⟩:=h;exact ⟨_,rfl⟩⟩,Or.inr ⟨_,_,rfl,by decide,fun _ _ h=>by obtain ⟨rfl,rfl⟩:=h;exact ⟨_,rfl⟩⟩,trivial⟩ trivial trivial ?_;rintro _ _ ⟨rfl,rfl⟩;refine AL.wk (wk (sl:= [(0,.ptr 0 0),(1,.d (.one (.v (.int .i64 ((j:Nat):Int))))),(2,.wit 1),(3,.wit 2),(8,.d (.one (.v (.bool true)))),(26,.d (.one (.v (.bool true))))]) (hp:= [(0,.is pp (.box 81 ([.v x,.v y]))),(1,.is x (.row 84 15 T.n (gY ev T.pl))),(2,.is y (.row 3 1 T.m (iw T.tr)))]) rfl ⟨hs rfl,hs rfl,hs rfl,hs rfl,hs rfl,hs rfl,trivial⟩ ⟨ho rfl,ho rfl,ho rfl,trivial⟩ rfl)<|mW rfl<|mT<|cT rfl<|aF<|tN<|aJ<|au<|cDk 18<|.cons (aB.V _ rfl)<|.cons (aB.X (.ptr 0 0) (eG rfl rfl))<|oV rfl<|.cons (aB.Y y 3 2 rfl rfl rfl rfl rfl)<|.cons (aB.V _ rfl)<|.cons (aB.V (.dU 2 1 j 0) (qy (z:=((j:Nat):Int)) (n:=T.m) rfl rfl rfl rfl rfl rfl rfl (by omega) (by omega)))<|oV rfl<|.cons (aB.V _ rfl)<|.cons (aB.X (.ptr 0 0) (eG rfl rfl))<|oV rfl<|.cons (aB.Y y 3 2 rfl rfl rfl rfl rfl)<|.cons (aB.V _ rfl)<|.cons (aB.V (.d (.one (.v (.int .i64 ((j-1:Nat):Int))))) (fH ((dS (by omega) (by omega)).trans (by omega))))<|.cons (aB.V (.d (.one (.v (.int .i64 (((j-1) / 2:Nat):Int))))) (fH (q2 (by omega))))<|.cons (aB.V (.dU 2 1 ((j-1) / 2) 0) (qy (z:=(((j-1) / 2:Nat):Int)) (n:=T.m) rfl rfl rfl rfl rfl rfl rfl (by omega) (by omega)))<|oV rfl<|.cons (aB.V _ rfl)<|.cons (aB.V _ rfl)<|.nil<|mT<|cR<|mv3 rfl rfl rfl<|zL (Jf (pp:=pp) (x:=x) (y:=y) (ev:=ev) (S:=T) (k:=j) (h:=(T.tr ((j-1) / 2))) hj hc2.1 hc2.2.1 (by omega) (by omega)) [(0,0),(1,1),(2,2)] [] [] [] [] rfl rfl ⟨⟨_,_,rfl,AV.le.rfl,rfl⟩,⟨_,_,rfl,AV.le.rfl,rfl⟩,⟨_,_,rfl,AV.le.rfl,rfl⟩,trivial⟩ ⟨⟨_,_,rfl,rfl,AO.le.rfl,rfl⟩,⟨_,_,rfl,rfl,AO.le.rfl,rfl⟩,⟨_,_,rfl,rfl,AO.le.rfl,rfl⟩,trivial⟩ trivial ⟨⟨_,0,_,rfl,rfl,rfl⟩,⟨_,2,_,rfl,rfl,rfl⟩,⟨_,3,_,rfl,rfl,rfl⟩,trivial⟩ ⟨Or.inr ⟨_,_,rfl,by decide,fun _ _ h=>by obtain ⟨rfl,rfl⟩:=h;exact ⟨_,rfl⟩⟩,Or.inr ⟨_,_,rfl,by decide,fun _ _ h=>by obtain ⟨rfl,rfl⟩:=h;exact ⟨_,rfl⟩⟩,Or.inr ⟨_,_,rfl,by decide,fun _ _ h=>by obtain ⟨rfl,rfl⟩:=h;exact ⟨_,rfl⟩⟩,trivial⟩ trivial trivial ?_;rintro _ _ ⟨rfl,rfl⟩;refine AL.wk (wk (sl:= [(0,.ptr 0 0),(1,.d (.one (.v (.int .i64 ((j:Nat):Int))))),(2,.wit 1),(3,.wit 2),(27,.d (.one (.v (.bool true)))),(4,.d (.one (.v (.int .i64 ((T.tr j:Nat):Int))))),(5,.d (.one (.v (.int .i64 ((T.tr ((j-1) / 2):Nat):Int))))),(47,.lK [])]) (hp:= [(0,.is pp (.box 81 ([.v x,.v y]))),(1,.is x (.row 84 15 ((T.lay j (T.tr ((j-1) / 2))).n) (gY ev (T.lay j (T.tr ((j-1) / 2))).pl))),(2,.is y (.row 3 1 ((T.lay j (T.tr ((j-1) / 2))).m) (iw (T.lay j (T.tr ((j-1) / 2))).tr)))]) rfl ⟨hs rfl,hs rfl,hs rfl,hs rfl,hs rfl,hs rfl,hs rfl,hs rfl,trivial⟩ ⟨ho rfl,ho rfl,ho rfl,trivial⟩ rfl)<|mT<|cR<|mv2 rfl rfl<|mV aj (.d (.one (.v (.int .i64 ((j-1:Nat):Int))))) (fH ((dS (by omega) (by omega)).trans (by omega)))<|mV aj (.d (.one (.v (.int .i64 (((j-1) / 2:Nat):Int))))) (fH (q2 (by omega)))<|mW rfl<|zL (Jf (pp:=pp) (x:=x) (y:=y) (ev:=ev) (S:=(T.lay j (T.tr ((j-1) / 2)))) (k:=((j-1) / 2)) (h:=(T.tr j)) (show ((j-1) / 2) < T.m from by omega) hc1.1 hc1.2.1 (show T.n≤100000 from by omega) (show T.m≤100000 from by omega)) [(0,0),(1,1),(2,2)] [] [] [] [] rfl rfl ⟨⟨_,_,rfl,AV.le.rfl,rfl⟩,⟨_,_,rfl,AV.le.rfl,rfl⟩,⟨_,_,rfl,AV.le.rfl,rfl⟩,trivial⟩ ⟨⟨_,_,rfl,rfl,AO.le.rfl,rfl⟩,⟨_,_,rfl,rfl,AO.le.rfl,rfl⟩,⟨_,_,rfl,rfl,AO.le.rfl,rfl⟩,trivial⟩ trivial ⟨⟨_,0,_,rfl,rfl,rfl⟩,⟨_,2,_,rfl,rfl,rfl⟩,⟨_,3,_,rfl,rfl,rfl⟩,trivial⟩ ⟨Or.inr ⟨_,_,rfl,by decide,fun _ _ h=>by obtain ⟨rfl,rfl⟩:=h;exact ⟨_,rfl⟩⟩,Or.inr ⟨_,_,rfl,by decide,fun _ _ h=>by obtain ⟨rfl,rfl⟩:=h;exact ⟨_,rfl⟩⟩,Or.inr ⟨_,_,rfl,by decide,fun _ _ h=>by obtain ⟨rfl,rfl⟩:=h;exact ⟨_,rfl⟩⟩,trivial⟩ trivial trivial ?_;rintro _ _ ⟨rfl,rfl⟩;exact AL.wk (wk (sl:= [(0,.ptr 0 0),(1,.d (.one (.v (.int .i64 ((j:Nat):Int))))),(2,.wit 1),(3,.wit 2),(27,.d (.one (.v (.bool true)))),(4,.d (.one (.v (.int .i64 ((T.tr j:Nat):Int))))),(5,.d (.one (.v (.int .i64 ((T.tr ((j-1) / 2):Nat):Int))))),(53,.lK [])]) (hp:= [(0,.is pp (.box 81 ([.v x,.v y]))),(1,.is x (.row 84 15 (((T.lay j (T.tr ((j-1) / 2))).lay ((j-1) / 2) (T.tr j)).n) (gY ev ((T.lay j (T.tr ((j-1) / 2))).lay ((j-1) / 2) (T.tr j)).pl))),(2,.is y (.row 3 1 (((T.lay j (T.tr ((j-1) / 2))).lay ((j-1) / 2) (T.tr j)).m) (iw ((T.lay j (T.tr ((j-1) / 2))).lay ((j-1) / 2) (T.tr j)).tr)))]) rfl ⟨hs rfl,hs rfl,hs rfl,hs rfl,hs rfl,hs rfl,hs rfl,hs rfl,trivial⟩ ⟨ho rfl,ho rfl,ho rfl,trivial⟩ rfl)<|mT<|aA<|mW rfl<|mV aj (.d (.one (.v (.int .i64 ((j-1:Nat):Int))))) (fH ((dS (by omega) (by omega)).trans (by omega)))<|mV aj (.d (.one (.v (.int .i64 (((j-1) / 2:Nat):Int))))) (fH (q2 (by omega)))<|mW rfl<|ak<|bN<|⟨((T.swp j ((j-1) / 2)),((j-1) / 2)),hI.step (wW hE) (by omega) hlt,by show (j-1) / 2 < j;omega,wkr rfl rfl⟩
  ·refine cDk 20<|.cons (aB.V _ rfl)<|oTd rfl (by omega)<|.cons (aB.V _ rfl)<|.cons (aB.V _ rfl)<|.cons (aB.V _ rfl)<|.cons (aB.X (.ptr 0 0) (eG rfl rfl))<|oV rfl<|.cons (aB.Y y 3 2 rfl rfl rfl rfl rfl)<|.cons (aB.V _ rfl)<|.cons (aB.V (.dU 2 1 j 0) (qy (z:=((j:Nat):Int)) (n:=T.m) rfl rfl rfl rfl rfl rfl rfl (by omega) (by omega)))<|oV rfl<|.cons (aB.V _ rfl)<|.cons (aB.X (.ptr 0 0) (eG rfl rfl))<|oV rfl<|.cons (aB.Y y 3 2 rfl rfl rfl rfl rfl)<|.cons (aB.V _ rfl)<|.cons (aB.V (.d (.one (.v (.int .i64 ((j-1:Nat):Int))))) (fH ((dS (by omega) (by omega)).trans (by omega))))<|.cons (aB.V (.d (.one (.v (.int .i64 (((j-1) / 2:Nat):Int))))) (fH (q2 (by omega))))<|.cons (aB.V (.dU 2 1 ((j-1) / 2) 0) (qy (z:=(((j-1) / 2:Nat):Int)) (n:=T.m) rfl rfl rfl rfl rfl rfl rfl (by omega) (by omega)))<|oV rfl<|.nil<|zL (DI (pp:=pp) (x:=x) (y:=y) (ev:=ev) (S:=T) (a:=(T.tr j)) (b:=(T.tr ((j-1) / 2))) (c:=false) hE hc1.1 hc1.2.1 hc2.1 hc2.2.1 (by omega) ⟨fun q=>absurd q Bool.noConfusion,fun q=>absurd q hlt⟩) [(0,0),(1,1),(2,2)] [] [] [] [] rfl rfl ⟨⟨_,_,rfl,AV.le.rfl,rfl⟩,⟨_,_,rfl,AV.le.rfl,rfl⟩,⟨_,_,rfl,AV.le.rfl,rfl⟩,trivial⟩ ⟨⟨_,_,rfl,rfl,AO.le.rfl,rfl⟩,⟨_,_,rfl,rfl,AO.le.rfl,rfl⟩,⟨_,_,rfl,rfl,AO.le.rfl,rfl⟩,trivial⟩ trivial ⟨⟨_,0,_,rfl,rfl,rfl⟩,⟨_,2,_,rfl,rfl,rfl⟩,⟨_,3,_,rfl,rfl,rfl⟩,trivial⟩ ⟨Or.inr ⟨_,_,rfl,by decide,fun _ _ h=>by obtain ⟨rfl,rfl⟩:=h;exact ⟨_,rfl⟩⟩,Or.inr ⟨_,_,rfl,by decide,fun _ _ h=>by obtain ⟨rfl,rfl⟩:=h;exact ⟨_,rfl⟩⟩,Or.inr ⟨_,_,rfl,by decide,fun _ _ h=>by obtain ⟨rfl,rfl⟩:=h;exact ⟨_,rfl⟩⟩,trivial⟩ trivial trivial ?_;rintro _ _ ⟨rfl,rfl⟩;exact AL.wk (wk (sl:= [(0,.ptr 0 0),(1,.d (.one (.v (.int .i64 ((j:Nat):Int))))),(2,.wit 1),(3,.wit 2),(8,.d (.one (.v (.bool true)))),(26,.d (.one (.v (.bool false))))]) (hp:= [(0,.is pp (.box 81 ([.v x,.v y]))),(1,.is x (.row 84 15 T.n (gY ev T.pl))),(2,.is y (.row 3 1 T.m (iw T.tr)))]) rfl ⟨hs rfl,hs rfl,hs rfl,hs rfl,hs rfl,hs rfl,trivial⟩ ⟨ho rfl,ho rfl,ho rfl,trivial⟩ rfl)<|mW rfl<|mT<|cF rfl<|dO<|tE<|tE<|bE<|rLn (.lK []) (.lK []) [(0,.is pp (.box 81 ([.v x,.v y]))),(1,.is x (.row 84 15 T.n (gY ev T.pl))),(2,.is y (.row 3 1 T.m (iw T.tr)))] [(0,.ptr 0 0),(2,.wit 1),(3,.wit 2)] ⟨rfl,T,hI.fin (wW hE) (Or.inr hlt),rfl⟩ (Az aj rfl AV.le.rfl) (wk (sl:= [(57,.lK []),(0,.ptr 0 0),(2,.wit 1),(3,.wit 2)]) (hp:= [(0,.is pp (.box 81 ([.v x,.v y]))),(1,.is x (.row 84 15 T.n (gY ev T.pl))),(2,.is y (.row 3 1 T.m (iw T.tr)))]) rfl ⟨hs rfl,hs rfl,hs rfl,hs rfl,trivial⟩ ⟨ho rfl,ho rfl,ho rfl,trivial⟩ rfl) ⟨⟨0,_,rfl,rfl⟩,⟨2,_,rfl,rfl⟩,⟨3,_,rfl,rfl⟩,trivial⟩
theorem aeS{pp x y:Value}{ev:Nat→ET}{S:HS}{k:Nat}(hE:∀ i,HE (ev i))(hf:Fr (hL ev) S k false true)(hk:k < S.m)(hN:S.n≤100000)(hM:S.m≤100000):lY Tryz.prog 50 [.ptr 0 0,.d (.one (.v (.int .i64 ((k:Nat):Int))))] (JC pp x y ev S) [0,1,2] [0,1,2] (fun r hp=>r= .lK []∧∃ T,(Qg S T∧Hp (hL ev) T)∧hp=(JC pp x y ev T)):=by
 refine lT 86 [] [(2,1),(3,2)] Tryz.func50 rfl rfl rfl rfl rfl ⟨⟨Nat.le_of_ble_eq_true rfl,by decide,by decide⟩,⟨Nat.le_of_ble_eq_true rfl,by decide,by decide⟩,trivial⟩ ?_;show AW _ _ _ ⟨86,[(0,.ptr 0 0),(1,.d (.one (.v (.int .i64 ((k:Nat):Int))))),(2,.wit 1),(3,.wit 2)],[(0,.is pp (.box 81 ([.v x,.v y]))),(1,.is x (.row 84 15 S.n (gY ev S.pl))),(2,.is y (.row 3 1 S.m (iw S.tr)))]⟩
 refine aJ<|dQ (ι:=HS×Nat) (fun (p:HS×Nat)=>match p with | (T,j)=>⟨86,[(0,.ptr 0 0),(1,.d (.one (.v (.int .i64 ((j:Nat):Int))))),(2,.wit 1),(3,.wit 2)],[(0,.is pp (.box 81 ([.v x,.v y]))),(1,.is x (.row 84 15 T.n (gY ev T.pl))),(2,.is y (.row 3 1 T.m (iw T.tr)))]⟩) (fun (p:HS×Nat)=>match p with | (T,j)=>PW (hL ev) S T j) (fun (p:HS×Nat)=>match p with | (T,j)=>T.m-j) (S,k) (PW.start hf hk) (wkr rfl rfl) ?_;rintro ⟨T,j⟩ hI;have hI:PW (hL ev) S T j:=hI;show AW _ _ _ ⟨_,_,_⟩
 refine aJ<|au ?_;have hj:=hI.jm;have hcj:=hI.fr.con.tr j hj;have hn:=hI.Nq.n;have hmm:=hI.Nq.m;refine aA<|mW rfl<|mV aj (.d (.one (.v (.int .i64 ((2*j:Nat):Int))))) (fH ((dS (by omega) (by omega)).trans (by omega)))<|mV aj (.d (.one (.v (.int .i64 ((2*j+1:Nat):Int))))) (fH (dG (by omega)))<|mW rfl<|mT<|au<|au ?_
 by_cases hm1:T.m≤2*j+1
 ·exact aA<|mv2 rfl rfl<|mX (.ptr 0 0) (eG rfl rfl)<|mv2 rfl rfl<|AL.wk (lD 14 3 2 rfl rfl rfl rfl)<|mW rfl<|mdT rfl (by omega)<|mT<|cT rfl<|aO<|tR<|bR<|tR<|bR<|rL (.lK []) (.lK []) [(0,.is pp (.box 81 ([.v x,.v y]))),(1,.is x (.row 84 15 T.n (gY ev T.pl))),(2,.is y (.row 3 1 T.m (iw T.tr)))] [(0,.ptr 0 0),(2,.wit 1),(3,.wit 2)] ⟨rfl,T,hI.leaf (wW hE) hm1,rfl⟩ (Az aj rfl AV.le.rfl) (wk (sl:= [(86,.lK []),(0,.ptr 0 0),(2,.wit 1),(3,.wit 2)]) (hp:= [(0,.is pp (.box 81 ([.v x,.v y]))),(1,.is x (.row 84 15 T.n (gY ev T.pl))),(2,.is y (.row 3 1 T.m (iw T.tr)))]) rfl ⟨hs rfl,hs rfl,hs rfl,hs rfl,trivial⟩ ⟨ho rfl,ho rfl,ho rfl,trivial⟩ rfl) ⟨⟨0,_,rfl,rfl⟩,⟨2,_,rfl,rfl⟩,⟨3,_,rfl,rfl⟩,trivial⟩
 ·refine aA<|mv2 rfl rfl<|mX (.ptr 0 0) (eG rfl rfl)<|mv2 rfl rfl<|AL.wk (lD 14 3 2 rfl rfl rfl rfl)<|mW rfl<|mdF rfl (by omega)<|mT<|cFs rfl<|afi (ι:=Nat) (fun c=>⟨86,[(0,.ptr 0 0),(1,.d (.one (.v (.int .i64 ((j:Nat):Int))))),(2,.wit 1),(3,.wit 2),(4,.d (.one (.v (.int .i64 ((c:Nat):Int)))))],[(0,.is pp (.box 81 ([.v x,.v y]))),(1,.is x (.row 84 15 T.n (gY ev T.pl))),(2,.is y (.row 3 1 T.m (iw T.tr)))]⟩) (fun c=>c < T.m∧0 < c∧(c-1) / 2=j∧∀ i,0 < i→i < T.m→(i-1) / 2=j→¬ hL ev (T.tr i) (T.tr c)) ?_ (fun c hK=>?_)
  ·refine afi (ι:=Bool) (fun b=>⟨86,[(0,.ptr 0 0),(1,.d (.one (.v (.int .i64 ((j:Nat):Int))))),(2,.wit 1),(3,.wit 2),(4,.d (.one (.v (.int .i64 ((2*j+1:Nat):Int))))),(43,.d (.one (.v (.bool b))))],[(0,.is pp (.box 81 ([.v x,.v y]))),(1,.is x (.row 84 15 T.n (gY ev T.pl))),(2,.is y (.row 3 1 T.m (iw T.tr)))]⟩) (fun b=>(b=true→2*j+1+1 < T.m∧hL ev (T.tr (2*j+1+1)) (T.tr (2*j+1)))∧(b=false→2*j+1+1 < T.m→¬ hL ev (T.tr (2*j+1+1)) (T.tr (2*j+1)))) ?_ (fun b hK=>?_)
   ·by_cases hm2:2*j+1+1 < T.m
    ·have hc1:=hI.fr.con.tr (2*j+1) (by omega);have hc2:=hI.fr.con.tr (2*j+1+1) hm2
     by_cases hl2:hL ev (T.tr (2*j+1+1)) (T.tr (2*j+1))
     ·refine cDk 25<|.cons (aB.V _ rfl)<|.cons (aB.V (.d (.one (.v (.int .i64 (((2*j+1)+1:Nat):Int))))) (fH (dG (by omega))))<|.cons (aB.V _ rfl)<|.cons (aB.X (.ptr 0 0) (eG rfl rfl))<|oV rfl<|.cons (aB.Y y 3 2 rfl rfl rfl rfl rfl)<|oV rfl<|oTd rfl (by omega)<|.cons (aB.V _ rfl)<|.cons (aB.V _ rfl)<|.cons (aB.V _ rfl)<|.cons (aB.X (.ptr 0 0) (eG rfl rfl))<|oV rfl<|.cons (aB.Y y 3 2 rfl rfl rfl rfl rfl)<|.cons (aB.V _ rfl)<|.cons (aB.V (.d (.one (.v (.int .i64 (((2*j+1)+1:Nat):Int))))) (fH (dG (by omega))))<|.cons (aB.V (.dU 2 1 ((2*j+1)+1) 0) (qy (z:=(((2*j+1)+1:Nat):Int)) (n:=T.m) rfl rfl rfl rfl rfl rfl rfl (by omega) (by omega)))<|oV rfl<|.cons (aB.V _ rfl)<|.cons (aB.X (.ptr 0 0) (eG rfl rfl))<|oV rfl<|.cons (aB.Y y 3 2 rfl rfl rfl rfl rfl)<|.cons (aB.V _ rfl)<|.cons (aB.V (.dU 2 1 (2*j+1) 0) (qy (z:=((2*j+1:Nat):Int)) (n:=T.m) rfl rfl rfl rfl rfl rfl rfl (by omega) (by omega)))<|oV rfl<|.nil<|zL (DI (pp:=pp) (x:=x) (y:=y) (ev:=ev) (S:=T) (a:=(T.tr (2*j+1+1))) (b:=(T.tr (2*j+1))) (c:=true) hE hc2.1 hc2.2.1 hc1.1 hc1.2.1 (by omega) ⟨fun _=>hl2,fun _=>rfl⟩) [(0,0),(1,1),(2,2)] [] [] [] [] rfl rfl ⟨⟨_,_,rfl,AV.le.rfl,rfl⟩,⟨_,_,rfl,AV.le.rfl,rfl⟩,⟨_,_,rfl,AV.le.rfl,rfl⟩,trivial⟩ ⟨⟨_,_,rfl,rfl,AO.le.rfl,rfl⟩,⟨_,_,rfl,rfl,AO.le.rfl,rfl⟩,⟨_,_,rfl,rfl,AO.le.rfl,rfl⟩,trivial⟩ trivial ⟨⟨_,0,_,rfl,rfl,rfl⟩,⟨_,2,_,rfl,rfl,rfl⟩,⟨_,3,_,rfl,rfl,rfl⟩,trivial⟩ ⟨Or.inr ⟨_,_,rfl,by decide,fun _ _ h=>by obtain ⟨rfl,rfl⟩:=h;exact ⟨_,rfl⟩⟩,Or.inr ⟨_,_,rfl,by decide,fun _ _ h=>by obtain ⟨rfl,rfl⟩:=h;exact ⟨_,rfl⟩⟩,Or.inr ⟨_,_,rfl,by decide,fun _ _ h=>by obtain ⟨rfl,rfl⟩:=h;exact ⟨_,rfl⟩⟩,trivial⟩ trivial trivial ?_;rintro _ _ ⟨rfl,rfl⟩;exact AL.wk (wk (sl:= [(0,.ptr 0 0),(1,.d (.one (.v (.int .i64 ((j:Nat):Int))))),(2,.wit 1),(3,.wit 2),(4,.d (.one (.v (.int .i64 ((2*j+1:Nat):Int))))),(16,.d (.one (.v (.bool false)))),(25,.d (.one (.v (.bool true)))),(42,.d (.one (.v (.bool true))))]) (hp:= [(0,.is pp (.box 81 ([.v x,.v y]))),(1,.is x (.row 84 15 T.n (gY ev T.pl))),(2,.is y (.row 3 1 T.m (iw T.tr)))]) rfl ⟨hs rfl,hs rfl,hs rfl,hs rfl,hs rfl,hs rfl,hs rfl,hs rfl,trivial⟩ ⟨ho rfl,ho rfl,ho rfl,trivial⟩ rfl)<|mW rfl<|mT<|⟨true,⟨fun _=>⟨hm2,hl2⟩,fun q=>absurd q Bool.noConfusion⟩,wkr rfl rfl⟩
     ·refine cDk 25<|.cons (aB.V _ rfl)<|.cons (aB.V (.d (.one (.v (.int .i64 (((2*j+1)+1:Nat):Int))))) (fH (dG (by omega))))<|.cons (aB.V _ rfl)<|.cons (aB.X (.ptr 0 0) (eG rfl rfl))<|oV rfl<|.cons (aB.Y y 3 2 rfl rfl rfl rfl rfl)<|oV rfl<|oTd rfl (by omega)<|.cons (aB.V _ rfl)<|.cons (aB.V _ rfl)<|.cons (aB.V _ rfl)<|.cons (aB.X (.ptr 0 0) (eG rfl rfl))<|oV rfl<|.cons (aB.Y y 3 2 rfl rfl rfl rfl rfl)<|.cons (aB.V _ rfl)<|.cons (aB.V (.d (.one (.v (.int .i64 (((2*j+1)+1:Nat):Int))))) (fH (dG (by omega))))<|.cons (aB.V (.dU 2 1 ((2*j+1)+1) 0) (qy (z:=(((2*j+1)+1:Nat):Int)) (n:=T.m) rfl rfl rfl rfl rfl rfl rfl (by omega) (by omega)))<|oV rfl<|.cons (aB.V _ rfl)<|.cons (aB.X (.ptr 0 0) (eG rfl rfl))<|oV rfl<|.cons (aB.Y y 3 2 rfl rfl rfl rfl rfl)<|.cons (aB.V _ rfl)<|.cons (aB.V (.dU 2 1 (2*j+1) 0) (qy (z:=((2*j+1:Nat):Int)) (n:=T.m) rfl rfl rfl rfl rfl rfl rfl (by omega) (by omega)))<|oV rfl<|.nil<|zL (DI (pp:=pp) (x:=x) (y:=y) (ev:=ev) (S:=T) (a:=(T.tr (2*j+1+1))) (b:=(T.tr (2*j+1))) (c:=false) hE hc2.1 hc2.2.1 hc1.1 hc1.2.1 (by omega) ⟨fun q=>absurd q Bool.noConfusion,fun q=>absurd q hl2⟩) [(0,0),(1,1),(2,2)] [] [] [] [] rfl rfl ⟨⟨_,_,rfl,AV.le.rfl,rfl⟩,⟨_,_,rfl,AV.le.rfl,rfl⟩,⟨_,_,rfl,AV.le.rfl,rfl⟩,trivial⟩ ⟨⟨_,_,rfl,rfl,AO.le.rfl,rfl⟩,⟨_,_,rfl,rfl,AO.le.rfl,rfl⟩,⟨_,_,rfl,rfl,AO.le.rfl,rfl⟩,trivial⟩ trivial ⟨⟨_,0,_,rfl,rfl,rfl⟩,⟨_,2,_,rfl,rfl,rfl⟩,⟨_,3,_,rfl,rfl,rfl⟩,trivial⟩ ⟨Or.inr ⟨_,_,rfl,by decide,fun _ _ h=>by obtain ⟨rfl,rfl⟩:=h;exact ⟨_,rfl⟩⟩,Or.inr ⟨_,_,rfl,by decide,fun _ _ h=>by obtain ⟨rfl,rfl⟩:=h;exact ⟨_,rfl⟩⟩,Or.inr ⟨_,_,rfl,by decide,fun _ _ h=>by obtain ⟨rfl,rfl⟩:=h;exact ⟨_,rfl⟩⟩,trivial⟩ trivial trivial ?_;rintro _ _ ⟨rfl,rfl⟩;exact AL.wk (wk (sl:= [(0,.ptr 0 0),(1,.d (.one (.v (.int .i64 ((j:Nat):Int))))),(2,.wit 1),(3,.wit 2),(4,.d (.one (.v (.int .i64 ((2*j+1:Nat):Int))))),(16,.d (.one (.v (.bool false)))),(25,.d (.one (.v (.bool true)))),(42,.d (.one (.v (.bool false))))]) (hp:= [(0,.is pp (.box 81 ([.v x,.v y]))),(1,.is x (.row 84 15 T.n (gY ev T.pl))),(2,.is y (.row 3 1 T.m (iw T.tr)))]) rfl ⟨hs rfl,hs rfl,hs rfl,hs rfl,hs rfl,hs rfl,hs rfl,hs rfl,trivial⟩ ⟨ho rfl,ho rfl,ho rfl,trivial⟩ rfl)<|mW rfl<|mT<|⟨false,⟨fun q=>absurd q Bool.noConfusion,fun _ _=>hl2⟩,wkr rfl rfl⟩
    ·exact cDk 27<|.cons (aB.V _ rfl)<|.cons (aB.V (.d (.one (.v (.int .i64 (((2*j+1)+1:Nat):Int))))) (fH (dG (by omega))))<|.cons (aB.V _ rfl)<|.cons (aB.X (.ptr 0 0) (eG rfl rfl))<|oV rfl<|.cons (aB.Y y 3 2 rfl rfl rfl rfl rfl)<|oV rfl<|oFd rfl (by omega)<|.cons (aB.V _ rfl)<|.cons (aB.G rfl rfl)<|.cons (aB.G rfl rfl)<|.cons (aB.G rfl rfl)<|.cons (aB.G rfl rfl)<|.cons (aB.G rfl rfl)<|.cons (aB.G rfl rfl)<|.cons (aB.G rfl rfl)<|.cons (aB.G rfl rfl)<|.cons (aB.G rfl rfl)<|.cons (aB.G rfl rfl)<|.cons (aB.G rfl rfl)<|.cons (aB.G rfl rfl)<|.cons (aB.G rfl rfl)<|.cons (aB.G rfl rfl)<|.cons (aB.G rfl rfl)<|.cons (aB.G rfl rfl)<|.cons (aB.G rfl rfl)<|.cons (aB.V _ rfl)<|.nil<|mT<|⟨false,⟨fun q=>absurd q Bool.noConfusion,fun _ q=>absurd q hm2⟩,wkr rfl rfl⟩
   ·obtain ⟨hb1,hb2⟩:=hK;show AW _ _ _ ⟨_,_,_⟩
    cases b
    ·exact cFs rfl<|⟨(2*j+1),⟨by omega,by omega,by omega,hI.one (wW hE) (by omega) (hb2 rfl)⟩,wkr rfl rfl⟩
    ·exact cT rfl<|aA<|mW rfl<|mV aj (.d (.one (.v (.int .i64 (((2*j+1)+1:Nat):Int))))) (fH (dG (by omega)))<|mW rfl<|mT<|⟨(2*j+1+1),⟨(hb1 rfl).1,by omega,by omega,hI.two (wW hE) (hb1 rfl).1 (hb1 rfl).2⟩,wkr rfl rfl⟩
  ·obtain ⟨hcm,hc0,hcp,hcb⟩:=hK;show AW _ _ _ ⟨_,_,_⟩
   refine au<|au ?_;have hcc:=hI.fr.con.tr c hcm
   by_cases hlt:hL ev (T.tr c) (T.tr j)
   ·refine cDk 15<|.cons (aB.V _ rfl)<|.cons (aB.V _ rfl)<|.cons (aB.X (.ptr 0 0) (eG rfl rfl))<|oV rfl<|.cons (aB.Y y 3 2 rfl rfl rfl rfl rfl)<|.cons (aB.V _ rfl)<|.cons (aB.V (.dU 2 1 c 0) (qy (z:=((c:Nat):Int)) (n:=T.m) rfl rfl rfl rfl rfl rfl rfl (by omega) (by omega)))<|oV rfl<|.cons (aB.V _ rfl)<|.cons (aB.X (.ptr 0 0) (eG rfl rfl))<|oV rfl<|.cons (aB.Y y 3 2 rfl rfl rfl rfl rfl)<|.cons (aB.V _ rfl)<|.cons (aB.V (.dU 2 1 j 0) (qy (z:=((j:Nat):Int)) (n:=T.m) rfl rfl rfl rfl rfl rfl rfl (by omega) (by omega)))<|oV rfl<|.nil<|zL (DI (pp:=pp) (x:=x) (y:=y) (ev:=ev) (S:=T) (a:=(T.tr c)) (b:=(T.tr j)) (c:=true) hE hcc.1 hcc.2.1 hcj.1 hcj.2.1 (by omega) ⟨fun _=>hlt,fun _=>rfl⟩) [(0,0),(1,1),(2,2)] [] [] [] [] rfl rfl ⟨⟨_,_,rfl,AV.le.rfl,rfl⟩,⟨_,_,rfl,AV.le.rfl,rfl⟩,⟨_,_,rfl,AV.le.rfl,rfl⟩,trivial⟩ ⟨⟨_,_,rfl,rfl,AO.le.rfl,rfl⟩,⟨_,_,rfl,rfl,AO.le.rfl,rfl⟩,⟨_,_,rfl,rfl,AO.le.rfl,rfl⟩,trivial⟩ trivial ⟨⟨_,0,_,rfl,rfl,rfl⟩,⟨_,2,_,rfl,rfl,rfl⟩,⟨_,3,_,rfl,rfl,rfl⟩,trivial⟩ ⟨Or.inr ⟨_,_,rfl,by decide,fun _ _ h=>by obtain ⟨rfl,rfl⟩:=h;exact ⟨_,rfl⟩⟩,Or.inr ⟨_,_,rfl,by decide,fun _ _ h=>by obtain ⟨rfl,rfl⟩:=h;exact ⟨_,rfl⟩⟩,Or.inr ⟨_,_,rfl,by decide,fun _ _ h=>by obtain ⟨rfl,rfl⟩:=h;exact ⟨_,rfl⟩⟩,trivial⟩ trivial trivial ?_;rintro _ _ ⟨rfl,rfl⟩;refine AL.wk (wk (sl:= [(0,.ptr 0 0),(1,.d (.one (.v (.int .i64 ((j:Nat):Int))))),(2,.wit 1),(3,.wit 2),(4,.d (.one (.v (.int .i64 ((c:Nat):Int))))),(61,.d (.one (.v (.bool true))))]) (hp:= [(0,.is pp (.box 81 ([.v x,.v y]))),(1,.is x (.row 84 15 T.n (gY ev T.pl))),(2,.is y (.row 3 1 T.m (iw T.tr)))]) rfl ⟨hs rfl,hs rfl,hs rfl,hs rfl,hs rfl,hs rfl,trivial⟩ ⟨ho rfl,ho rfl,ho rfl,trivial⟩ rfl)<|mW rfl<|mT<|cFs rfl<|au<|cDk 16<|.cons (aB.V _ rfl)<|.cons (aB.X (.ptr 0 0) (eG rfl rfl))<|oV rfl<|.cons (aB.Y y 3 2 rfl rfl rfl rfl rfl)<|.cons (aB.V _ rfl)<|.cons (aB.V (.dU 2 1 j 0) (qy (z:=((j:Nat):Int)) (n:=T.m) rfl rfl rfl rfl rfl rfl rfl (by omega) (by omega)))<|oV rfl<|.cons (aB.V _ rfl)<|.cons (aB.X (.ptr 0 0) (eG rfl rfl))<|oV rfl<|.cons (aB.Y y 3 2 rfl rfl rfl rfl rfl)<|.cons (aB.V _ rfl)<|.cons (aB.V (.dU 2 1 c 0) (qy (z:=((c:Nat):Int)) (n:=T.m) rfl rfl rfl rfl rfl rfl rfl (by omega) (by omega)))<|oV rfl<|.cons (aB.V _ rfl)<|.cons (aB.V _ rfl)<|.nil<|mT<|cR<|mv3 rfl rfl rfl<|zL (Jf (pp:=pp) (x:=x) (y:=y) (ev:=ev) (S:=T) (k:=j) (h:=(T.tr c)) hj hcc.1 hcc.2.1 (by omega) (by omega)) [(0,0),(1,1),(2,2)] [] [] [] [] rfl rfl ⟨⟨_,_,rfl,AV.le.rfl,rfl⟩,⟨_,_,rfl,AV.le.rfl,rfl⟩,⟨_,_,rfl,AV.le.rfl,rfl⟩,trivial⟩ ⟨⟨_,_,rfl,rfl,AO.le.rfl,rfl⟩,⟨_,_,rfl,rfl,AO.le.rfl,rfl⟩,⟨_,_,rfl,rfl,AO.le.rfl,rfl⟩,trivial⟩ trivial ⟨⟨_,0,_,rfl,rfl,rfl⟩,⟨_,2,_,rfl,rfl,rfl⟩,⟨_,3,_,rfl,rfl,rfl⟩,trivial⟩ ⟨Or.inr ⟨_,_,rfl,by decide,fun _ _ h=>by obtain ⟨rfl,rfl⟩:=h;exact ⟨_,rfl⟩⟩,Or.inr ⟨_,_,rfl,by decide,fun _ _ h=>by obtain ⟨rfl,rfl⟩:=h;exact ⟨_,rfl⟩⟩,Or.inr ⟨_,_,rfl,by decide,fun _ _ h=>by obtain ⟨rfl,rfl⟩:=h;exact ⟨_,rfl⟩⟩,trivial⟩ trivial trivial ?_;rintro _ _ ⟨rfl,rfl⟩;refine AL.wk (wk (sl:= [(0,.ptr 0 0),(1,.d (.one (.v (.int .i64 ((j:Nat):Int))))),(2,.wit 1),(3,.wit 2),(4,.d (.one (.v (.int .i64 ((c:Nat):Int))))),(62,.d (.one (.v (.bool false)))),(5,.d (.one (.v (.int .i64 ((T.tr j:Nat):Int))))),(6,.d (.one (.v (.int .i64 ((T.tr c:Nat):Int))))),(80,.lK [])]) (hp:= [(0,.is pp (.box 81 ([.v x,.v y]))),(1,.is x (.row 84 15 ((T.lay j (T.tr c)).n) (gY ev (T.lay j (T.tr c)).pl))),(2,.is y (.row 3 1 ((T.lay j (T.tr c)).m) (iw (T.lay j (T.tr c)).tr)))]) rfl ⟨hs rfl,hs rfl,hs rfl,hs rfl,hs rfl,hs rfl,hs rfl,hs rfl,hs rfl,trivial⟩ ⟨ho rfl,ho rfl,ho rfl,trivial⟩ rfl)<|mT<|cR<|mv3 rfl rfl rfl<|zL (Jf (pp:=pp) (x:=x) (y:=y) (ev:=ev) (S:=(T.lay j (T.tr c))) (k:=c) (h:=(T.tr j)) (show c < T.m from hcm) hcj.1 hcj.2.1 (show T.n≤100000 from by omega) (show T.m≤100000 from by omega)) [(0,0),(1,1),(2,2)] [] [] [] [] rfl rfl ⟨⟨_,_,rfl,AV.le.rfl,rfl⟩,⟨_,_,rfl,AV.le.rfl,rfl⟩,⟨_,_,rfl,AV.le.rfl,rfl⟩,trivial⟩ ⟨⟨_,_,rfl,rfl,AO.le.rfl,rfl⟩,⟨_,_,rfl,rfl,AO.le.rfl,rfl⟩,⟨_,_,rfl,rfl,AO.le.rfl,rfl⟩,trivial⟩ trivial ⟨⟨_,0,_,rfl,rfl,rfl⟩,⟨_,2,_,rfl,rfl,rfl⟩,⟨_,3,_,rfl,rfl,rfl⟩,trivial⟩ ⟨Or.inr ⟨_,_,rfl,by decide,fun _ _ h=>by obtain ⟨rfl,rfl⟩:=h;exact ⟨_,rfl⟩⟩,Or.inr ⟨_,_,rfl,by decide,fun _ _ h=>by obtain ⟨rfl,rfl⟩:=h;exact ⟨_,rfl⟩⟩,Or.inr ⟨_,_,rfl,by decide,fun _ _ h=>by obtain ⟨rfl,rfl⟩:=h;exact ⟨_,rfl⟩⟩,trivial⟩ trivial trivial ?_;rintro _ _ ⟨rfl,rfl⟩;exact AL.wk (wk (sl:= [(0,.ptr 0 0),(1,.d (.one (.v (.int .i64 ((j:Nat):Int))))),(2,.wit 1),(3,.wit 2),(4,.d (.one (.v (.int .i64 ((c:Nat):Int))))),(62,.d (.one (.v (.bool false)))),(5,.d (.one (.v (.int .i64 ((T.tr j:Nat):Int))))),(6,.d (.one (.v (.int .i64 ((T.tr c:Nat):Int))))),(84,.lK [])]) (hp:= [(0,.is pp (.box 81 ([.v x,.v y]))),(1,.is x (.row 84 15 (((T.lay j (T.tr c)).lay c (T.tr j)).n) (gY ev ((T.lay j (T.tr c)).lay c (T.tr j)).pl))),(2,.is y (.row 3 1 (((T.lay j (T.tr c)).lay c (T.tr j)).m) (iw ((T.lay j (T.tr c)).lay c (T.tr j)).tr)))]) rfl ⟨hs rfl,hs rfl,hs rfl,hs rfl,hs rfl,hs rfl,hs rfl,hs rfl,hs rfl,trivial⟩ ⟨ho rfl,ho rfl,ho rfl,trivial⟩ rfl)<|mT<|aA<|mv2 rfl rfl<|ak<|bN<|⟨((T.swp j c),c),hI.step (wW hE) hcm hc0 hcp hlt hcb,by show T.m-c < T.m-j;omega,wkr rfl rfl⟩
   ·refine cDk 15<|.cons (aB.V _ rfl)<|.cons (aB.V _ rfl)<|.cons (aB.X (.ptr 0 0) (eG rfl rfl))<|oV rfl<|.cons (aB.Y y 3 2 rfl rfl rfl rfl rfl)<|.cons (aB.V _ rfl)<|.cons (aB.V (.dU 2 1 c 0) (qy (z:=((c:Nat):Int)) (n:=T.m) rfl rfl rfl rfl rfl rfl rfl (by omega) (by omega)))<|oV rfl<|.cons (aB.V _ rfl)<|.cons (aB.X (.ptr 0 0) (eG rfl rfl))<|oV rfl<|.cons (aB.Y y 3 2 rfl rfl rfl rfl rfl)<|.cons (aB.V _ rfl)<|.cons (aB.V (.dU 2 1 j 0) (qy (z:=((j:Nat):Int)) (n:=T.m) rfl rfl rfl rfl rfl rfl rfl (by omega) (by omega)))<|oV rfl<|.nil<|zL (DI (pp:=pp) (x:=x) (y:=y) (ev:=ev) (S:=T) (a:=(T.tr c)) (b:=(T.tr j)) (c:=false) hE hcc.1 hcc.2.1 hcj.1 hcj.2.1 (by omega) ⟨fun q=>absurd q Bool.noConfusion,fun q=>absurd q hlt⟩) [(0,0),(1,1),(2,2)] [] [] [] [] rfl rfl ⟨⟨_,_,rfl,AV.le.rfl,rfl⟩,⟨_,_,rfl,AV.le.rfl,rfl⟩,⟨_,_,rfl,AV.le.rfl,rfl⟩,trivial⟩ ⟨⟨_,_,rfl,rfl,AO.le.rfl,rfl⟩,⟨_,_,rfl,rfl,AO.le.rfl,rfl⟩,⟨_,_,rfl,rfl,AO.le.rfl,rfl⟩,trivial⟩ trivial ⟨⟨_,0,_,rfl,rfl,rfl⟩,⟨_,2,_,rfl,rfl,rfl⟩,⟨_,3,_,rfl,rfl,rfl⟩,trivial⟩ ⟨Or.inr ⟨_,_,rfl,by decide,fun _ _ h=>by obtain ⟨rfl,rfl⟩:=h;exact ⟨_,rfl⟩⟩,Or.inr ⟨_,_,rfl,by decide,fun _ _ h=>by obtain ⟨rfl,rfl⟩:=h;exact ⟨_,rfl⟩⟩,Or.inr ⟨_,_,rfl,by decide,fun _ _ h=>by obtain ⟨rfl,rfl⟩:=h;exact ⟨_,rfl⟩⟩,trivial⟩ trivial trivial ?_;rintro _ _ ⟨rfl,rfl⟩;exact AL.wk (wk (sl:= [(0,.ptr 0 0),(1,.d (.one (.v (.int .i64 ((j:Nat):Int))))),(2,.wit 1),(3,.wit 2),(4,.d (.one (.v (.int .i64 ((c:Nat):Int))))),(61,.d (.one (.v (.bool false))))]) (hp:= [(0,.is pp (.box 81 ([.v x,.v y]))),(1,.is x (.row 84 15 T.n (gY ev T.pl))),(2,.is y (.row 3 1 T.m (iw T.tr)))]) rfl ⟨hs rfl,hs rfl,hs rfl,hs rfl,hs rfl,hs rfl,trivial⟩ ⟨ho rfl,ho rfl,ho rfl,trivial⟩ rfl)<|mW rfl<|mT<|cT rfl<|aO<|tR<|bR<|tR<|bR<|rL (.lK []) (.lK []) [(0,.is pp (.box 81 ([.v x,.v y]))),(1,.is x (.row 84 15 T.n (gY ev T.pl))),(2,.is y (.row 3 1 T.m (iw T.tr)))] [(0,.ptr 0 0),(2,.wit 1),(3,.wit 2)] ⟨rfl,T,hI.fin (wW hE) hcm hlt hcb,rfl⟩ (Az aj rfl AV.le.rfl) (wk (sl:= [(86,.lK []),(0,.ptr 0 0),(2,.wit 1),(3,.wit 2)]) (hp:= [(0,.is pp (.box 81 ([.v x,.v y]))),(1,.is x (.row 84 15 T.n (gY ev T.pl))),(2,.is y (.row 3 1 T.m (iw T.tr)))]) rfl ⟨hs rfl,hs rfl,hs rfl,hs rfl,trivial⟩ ⟨ho rfl,ho rfl,ho rfl,trivial⟩ rfl) ⟨⟨0,_,rfl,rfl⟩,⟨2,_,rfl,rfl⟩,⟨3,_,rfl,rfl⟩,trivial⟩
theorem mSh{P:Program}{T:TypeId→Option TI}(hT:Bj P T){ops:Array Oper}{Q:Qs}{o:Oper}{l:List Oper}{s:AS}{x y:Operand}{t e:TypeId}{ti te:TI}{id n h d:Nat}{el:Nat→Nat→Lf} 
  (hop:o.op= .slice t x none (some y) none) (hx:dM s x=some (.own id)) (hob:lk s.hp id=some (.row e te.n n el)) (hhi:qg s (some y) n=some h) (hle:h≤n) (hti:T t=some ti) (he:ti.elem=some e) (hte:T e=some te)
  (hdst:o.dst=some d) (k:AL P ops Q l ⟨s.n,(d,.own id) ::VX id .dead (fun _=> .dead) s.sl,(id,.row e te.n h el) ::s.hp⟩) (hg:jP ops s o=some true:=by rfl) (hd:kP (some d) s.n=true:=by rfl):AL P ops Q (o ::l) s:=by
 rintro B0 w0 a w ⟨ρ,hcr,hn,hdf,hs⟩;obtain ⟨aS,ad,n',cap,hxe⟩:=bY hs hx;obtain ⟨ob,o1,o2⟩:=hcr.obj id _ aS;rw [hob] at o1;cases o1
 obtain ⟨xs,hown,hel⟩:=o2;obtain ⟨i,z,dd,h1,h2,h3,h4,h5,h6,h7,h8,h9,_⟩:=dA (hT _ _ hti);have:=h9 e he;subst this;obtain ⟨i',z',dd',k1,k2,k3,k4,_⟩:=dA (hT _ _ hte);have hshape:n'=n∧n≤cap∧(if cap=0 then ad else ad.map (·.add (0*i'.size)))=ad:=by
  rcases hown.1.2 with ⟨hee,hn0⟩ | ⟨g2,cap2,cur,hee,hge,hblk,hnc,hm,hsz,ht⟩
  ·rw [hxe] at hee;cases hee;subst hn0;exact ⟨rfl,Nat.le_refl _,rfl⟩
  ·rw [hxe] at hee;cases hee
   refine ⟨rfl,hnc,?_⟩;split
   ·rfl
   ·rw [Nat.zero_mul];simp [add_lit]
 obtain ⟨rfl,hncap,hadd⟩:=hshape;have hb:=KJ (P:=P) (w:=w) (code:= .sliceAcap) hs hhi (show h≤cap by omega);have hrun:(execOp a.eval o).run P w= .ok (.value (.slice ad h cap)) w:=by
  unfold execOp;rw [hop];refine dF ?_;have hbs:(Instr.sliceBounds true n' cap none (some (a.eval y)) none).run P w= .ok (0,h,cap) w:=by simp [Instr.sliceBounds,hb]
  rw [hxe];simp only [Instr.sliceAt,Instr.slice,Sem.run_bind,run_underlying h3,Result.andThen_ok,Option.map_none,Option.map_some,hbs,sizeOf,typeInfo,run_program,k1,Sem.run_pure];rw [hadd];rfl
 have hvb:∀ b,jA (.slice ad h cap)=some b→jA (a.eval x)=some b:=by
  intro b hb2;rw [hxe];cases ad with
  | none=>cases hb2
  | some q=>exact hb2
 have hown':w.ownsRow 0 e te.n (.slice ad h cap) h (xs.take (h*te.n)):=by
  have hmul:h*te.n≤n'*te.n:=Nat.mul_le_mul_right _ hle;refine ⟨by rw [List.length_take,hown.1.1];omega,?_⟩;rcases hown.1.2 with ⟨hee,hn0⟩ | ⟨g2,cap2,cur,hee,hge,hblk,hnc,hm,hsz,ht⟩
  ·rw [hxe] at hee;cases hee
   have h0:h=0:=by omega
   subst h0;exact Or.inl ⟨rfl,rfl⟩
  ·rw [hxe] at hee;cases hee
   refine Or.inr ⟨g2,cap,cur,rfl,hge,hblk,by omega,hm,hsz,?_⟩;rw [← ht,List.take_take,Nat.min_eq_left hmul]
 have hK:kL (Bd ρ B0) w w:=⟨Nat.le_refl _,fun _ _ _=>rfl⟩;have hB':∀ b,b < w.heap.size→Bd (up ρ id (.slice ad h cap)) B0 b→Bd ρ B0 b:=by
  rintro b hb2 (h' | ⟨k',u,q1,q2⟩)
  ·exact Or.inl h'
  ·unfold up at q1
   split at q1
   ·cases q1;exact Or.inr ⟨id,_,aS,hvb b q2⟩
   ·exact Or.inr ⟨k',u,q1,q2⟩
 have hW:=fU.write (v':= .slice ad h cap) (ob':= .row e te.n h el) (hp':=(id,.row e te.n h el) ::s.hp) hcr aS (w':=w) (fun _ _ _=>rfl) (Nat.le_refl _) hcr.bel (fun b hb2=>Or.inl (hvb b hb2))
  (fun k' ob hk hne=>by rw [aV,if_neg (fun e=>hne e.symm)];exact hk) (by rw [aV,if_pos rfl])
  ⟨xs.take (h*te.n),⟨hown',fun b hb=>hown.2 b (hvb b hb)⟩,fun p q hp hq=>by
   obtain ⟨u,hu1,hu2⟩:=hel p q (by omega) hq;refine ⟨u,?_,eu.mv hK hB' _ hu2⟩;rw [List.getElem?_take,if_pos]
   ·exact hu1
   ·have:(p+1)*te.n≤h*te.n:=Nat.mul_le_mul_right _ hp
    rw [Nat.succ_mul] at this;omega⟩
 refine nC (fQ hg hs) hrun (k B0 w0 _ w ⟨up ρ id (.slice ad h cap),hW.1,by rw [hdst];show (a.tmps.setIfInBounds d _).size=s.n;simpa using hn,by rw [hdst];exact hdf,?_⟩);rw [hdst];have hsl2:gq (up ρ id (.slice ad h cap)) (Bd (up ρ id (.slice ad h cap)) B0) w (VX id .dead (fun _=> .dead) s.sl) a:=by
  intro u av hu;obtain ⟨kZ,q1,rfl⟩:=yu _ _ _ hu;obtain ⟨v,q2,q3⟩:=hs u kZ q1;refine ⟨v,q2,?_⟩;have keep:(∀ k,kZ.on k=true→k≠id)→AR (up ρ id (.slice ad h cap)) (Bd (up ρ id (.slice ad h cap)) B0) w kZ v:=fun hne=>AR.mv hK hB' (fun k hk=>by unfold up;rw [if_neg (hne k hk)]) q3
  cases kZ with
  | own k=>
   show AR _ _ _ (bif Nat.beq k id then .dead else .own k) v
   cases e:Nat.beq k id with
   | true=>trivial
   | false=>exact keep (fun k' hk'=>by have:k=k':=Nat.eq_of_beq_eq_true hk';rintro rfl;rw [this,Nat.beq_refl] at e;cases e)
  | ptr k off=>
   show AR _ _ _ (bif Nat.beq k id then .dead else .ptr k off) v
   cases e:Nat.beq k id with
   | true=>trivial
   | false=>exact keep (fun k' hk'=>by have:k=k':=Nat.eq_of_beq_eq_true hk';rintro rfl;rw [this,Nat.beq_refl] at e;cases e)
  | dU k sz i j=>
   show AR _ _ _ (bif Nat.beq k id then .dead else .dU k sz i j) v
   cases e:Nat.beq k id with
   | true=>trivial
   | false=>exact keep (fun k' hk'=>by have:k=k':=Nat.eq_of_beq_eq_true hk';rintro rfl;rw [this,Nat.beq_refl] at e;cases e)
  | lim k j=>
   show AR _ _ _ (bif Nat.beq k id then .dead else .lim k j) v
   cases e:Nat.beq k id with
   | true=>trivial
   | false=>exact keep (fun k' hk'=>by have:k=k':=Nat.eq_of_beq_eq_true hk';rintro rfl;rw [this,Nat.beq_refl] at e;cases e)
  | qK k j=>
   show AR _ _ _ (bif Nat.beq k id then .dead else .qK k j) v
   cases e:Nat.beq k id with
   | true=>trivial
   | false=>exact keep (fun k' hk'=>by have:k=k':=Nat.eq_of_beq_eq_true hk';rintro rfl;rw [this,Nat.beq_refl] at e;cases e)
  | wit k=>
   show AR _ _ _ (bif Nat.beq k id then .dead else .wit k) v
   cases e:Nat.beq k id with
   | true=>trivial
   | false=>exact keep (fun k' hk'=>by have:k=k':=Nat.eq_of_beq_eq_true hk';rintro rfl;rw [this,Nat.beq_refl] at e;cases e)
  | d x=>exact keep (fun k hk=>by cases hk)
  | lK x=>exact keep (fun k hk=>by cases hk)
  | dead=>trivial
 exact oP hsl2 hn (Nat.le_of_ble_eq_true hd) ⟨by simp [up],⟨_,_,_,rfl⟩⟩
end Go.Proofs.YtapmpcgekdplfaaGreat
