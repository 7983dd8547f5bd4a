/-
  Laws of the program's functions by an abstract machine, part 5: joined, short spelling. No condition.
-/
import Derived.Test.YtapmpcgekdplfaaGreatJ4
set_option linter.unusedVariables false
set_option linter.unusedSimpArgs false
set_option maxRecDepth 100000
set_option maxHeartbeats 4000000
namespace Go.Proofs.YtapmpcgekdplfaaGreat
open Go.RowKit
theorem CP{K L n:Nat}{c:Nat→Int}{q:Rat}(zc:bC c)(hn:n=lg c)(hK:K+L≤476000:=by omega)(hL:L≤476000:=by omega):aC Tryz.prog 74 [.one (dM K n (rc c)),.agg (qn L q)] (dI (fC (FF c q))):=by
 subst hn;have hlc:=dO c;have h:=ags (a:=dM K (lg c) (rc c)) (K:=K) (c:=c) (n:=lg c) (fun _ _ _ h=>h) (l7 L q) (D:=20) (T:=K+L+140) (M:=21*(K+L+140)) (by omega) (by decide) (abJ _) (abJ _) (by omega);rw [aa6] at h;rw [show fC (FF c q)=fC (pz c q (lg c)) by rw [← iO zc];rfl];exact h
theorem Z5{e:TypeId}{i:Nat}{S:List Int}{el2:Nat→Nat→Lf}(h2:el2 0 0= vI (S.getD i 0)):AO.le (.row e 1 (i+1) (eU i (Kr S) el2)) (.row e 1 (i+1) (Kr S)):=gB fun p hp j hj B w v hv=>by
 obtain rfl:j=0:=by omega
 unfold eU at hv
 by_cases h:p < i
 ·rw [show Nat.ble (p+1) i=true from Nat.ble_eq_true_of_le h] at hv;exact hv
 ·obtain rfl:p=i:=by omega
  rw [show Nat.ble (p+1) p=false from by rw [← Bool.not_eq_true,Nat.ble_eq];omega,Nat.sub_self] at hv;exact (show dY B w (el2 0 0) v from hv) |> fun h9=>by rw [h2] at h9;exact h9
theorem aC.exh{α:Type}{P:Program}{f:FuncId}{Q:α→Prop}{L:α→Lf}{ds:List DV}{res:AV}(hen:∀ vs w,(callFunc f vs).run P w= .ok (.enter f vs) w)(h:∀ x,Q x→aC P f (.one (L x) ::ds) res):aC P f (.one (aX Q L) ::ds) res:=
 ⟨hen,fun B w vs hB hd=>match vs,hd with | v ::vs,⟨⟨x,hq,hl⟩,h2⟩=>(h x hq).go B w (v ::vs) hB ⟨hl,h2⟩⟩
theorem Yv(p q:Rat):(vP p q==0)=decide (p=q):=by
 by_cases h:p=q
 ·rw [decide_eq_true h,GL h];rfl
 ·rw [decide_eq_false h];exact abX.2 fun e=>h (lN.1 e)
def qac(K:Nat)(c:Nat→Int)(KC X:Nat)(lo:Rat)(Y:Nat)(hi:Rat):List Lf:= [dM K (lg c) (rc c)] ++ [aX (aZ c KC) (fun L=>bn KC L)] ++qn X lo ++qn Y hi
theorem iZ{K L:Nat}{q:Rat}(h:Qb K q)(k:K≤L):Qb L q:=⟨acC h.1 (ab1 (by decide) k),acC h.2 (ab1 (by decide) k)⟩
theorem QC{K KC X Y:Nat}{c:Nat→Int}{lo hi:Rat}(z:bC c){B:BS}{w:World}{cs:List Value}(h:ig B w ([dM K (lg c) (rc c)] ++ [aX (aZ c KC) (fun L=>bn KC L)] ++qn X lo ++qn Y hi) cs):Db K c∧Qb X lo∧Qb Y hi:=by
 have e1:ig B w ([dM K (lg c) (rc c)] ++ [aX (aZ c KC) (fun L=>bn KC L)] ++qn X lo ++qn Y hi) cs:=h;have d1:=ig.take 1 h;have d2:=ig.take 4 (ig.drop 2 h);have d3:=ig.drop 6 h;have d2':ig B w (qn X lo) ((cs.drop 2).take 4):=d2;have d3':ig B w (qn Y hi) (cs.drop 6):=d3;refine ⟨?_,Oi d2',Oi d3'⟩;cases cs with
 | nil=>exact h.elim
 | cons a r=>exact ny z.lg (show dY B w (dM K (lg c) (rc c)) a from h.1)
theorem alH{K KC X Y:Nat}{c:Nat→Int}{lo hi:Rat}(h1:Qb Y lo)(h2:Qb Y hi):AV.le (.d (.agg ([dM K (lg c) (rc c)] ++ [aX (aZ c KC) (fun L=>bn KC L)] ++qn X lo ++qn X hi))) (.d (.agg ([dM K (lg c) (rc c)] ++ [aX (aZ c KC) (fun L=>bn KC L)] ++qn Y lo ++qn Y hi))):=oH (iy (iy (fun B w cs h=>h) (fF h1)) (fF h2))
theorem KF{KC X:Nat}{L:List (Nat→Int)}{t:Rat}(hz:∀ i,bC (gl L i))(hL:L.length≤100000:=by omega)(hK:KC≤100000:=by omega)(hX:KC+X≤476000:=by omega):aC Tryz.prog 117 [.one (bn KC L),.agg (qn X t)] (dI ((vr (Gm L t):Nat):Int)):=by
 refine aN 24 [.tmp 4] Tryz.func117 rfl<|cR<|mO rfl<|mW rfl<|mT<|cR<|mW rfl<|mT<|au<|cR<|mE 3 rfl<|mT<|aI<|AW.wk (qV 5 5 3 1 (fun _ _=> .v undef) rfl rfl)<|dU (ι:=Nat) (fun (i:Nat)=>⟨24,[(0,.d (.one (.row 1 L.length (Dk KC L)))),(3,.ptr 3 0),(8,dI (L.length:Int)),(5,.own 5),(9,dI (i:Int))],[(3,.box 49 (qn X t)),(5,.row 3 1 i (Kr (Gm L t)))]⟩) (fun (i:Nat)=>i≤L.length) (fun (i:Nat)=>L.length-i) 0 (abR _) (wkv [4] [1] ⟨fQ rfl (aG rfl),Pe⟩ ⟨dX rfl (iY),Pe⟩ rfl rfl) ?_;rintro i hI;have hi:i≤L.length:=hI;show AW _ _ _ ⟨_,_,_⟩
 refine cR<|mW rfl<|mT<|au<|aW rfl (fun hc1=>?_) (fun hc1=>?_)
 ·refine aF<|tN<|au<|aI<|cR<|mE 2 rfl<|mT ?_;have hin:i < L.length:=by have h0:=abM hc1;omega
  refine cDk 8<|.cons (aB.V _ rfl)<|.cons (aB.V _ rfl)<|.cons (aB.V _ rfl)<|.cons (aB.V (.d (.one (.at 1 ((Dk KC L) i)))) (jZ (el:=(Dk KC L)) (z:=(i:Int)) (n:=L.length) rfl rfl rfl rfl rfl rfl (by omega) (by omega))) ?_;exact oE 2 rfl<|oC (CP (hz i) rfl) rfl<|.cons (aB.B _ rfl)<|.nil<|mA aj (id:=5) (n:=i) (m:=1) (el:=(Kr (Gm L t))) (el2:=(fun i' j'=>(([vI (fC (FF (gl L i) t))])[i'*1+j']?).getD (.v undef))) rfl rfl rfl (by show (i+1)*8≤140737488355328;omega) (by omega) rfl rfl rfl rfl rfl rfl rfl rfl rfl rfl<|mW rfl<|ak<|bN<|tN<|aA<|mE 2 rfl<|ak<|⟨(i+1),by omega,by omega,wkv [4] [1] ⟨fQ rfl (aG (dF (by omega))),Pe⟩ ⟨dX rfl (Z5 (by rw [aa5 hin];rfl)),Pe⟩ rfl rfl⟩
 ·refine dP<|tE<|tE<|bE<|tN<|au ?_;have hie:i=L.length:=by have h0:=abL hc1;omega
  have hSl:(Gm L t).length=L.length:=by unfold Gm;rw [List.length_map]
  rw [← hSl] at hie;subst hie;exact AW.wk (jl 5 rfl)<|aA<|mW rfl<|mY (aco (alM L t) (by omega)) rfl<|mW rfl<|mT<|aH<|rQ rfl (AV.le.rfl)
theorem agn{KC X Y:Nat}{c:Nat→Int}{L:List (Nat→Int)}{lo hi:Rat}(hQ:aZ c KC L)(hab:lo≤hi)(hK:KC≤100000)(hX:KC+X≤476000)(hY:KC+Y≤476000):aC Tryz.prog 79 [.one (bn KC L),.agg (qn X lo),.agg (qn Y hi)] (dI ((gI c lo hi:Nat):Int)):=by
 obtain ⟨hc1,_,_⟩:=hQ.cnt hab;obtain ⟨_,hln⟩:=hQ.len;have hvl:vr (Gm L lo)≤L.length:=by have:=OG (Gm L lo) 0;unfold Gm at this;rw [List.length_map] at this;exact this
 exact aN 18 [.tmp 6] Tryz.func79 rfl<|cR<|mO rfl<|mO rfl<|mW rfl<|mT<|au<|cR<|mE 2 rfl<|mY (nD (l7 Y hi) (l7 X lo)) rfl<|mdF rfl (by have:=xG.2 hab;omega)<|mT<|cFs rfl<|au<|cDk 8<|.cons (aB.V _ rfl)<|oV rfl<|oC (KF hQ.zz) rfl<|.cons (aB.V _ rfl)<|oV rfl<|oC (KF hQ.zz) rfl<|.cons (aB.V (dI ((gI c lo hi:Nat):Int)) (fM ((eu (by omega) (by omega)).trans (by omega))))<|.cons (aB.V _ rfl)<|.nil<|mT<|aH<|rQ rfl (AV.le.rfl)
theorem Uo{KC X Y:Nat}{c:Nat→Int}{lo hi:Rat}(hab:lo≤hi)(hK:KC≤100000:=by omega)(hX:KC+X≤476000:=by omega)(hY:KC+Y≤476000:=by omega):aC Tryz.prog 79 [.one (aX (aZ c KC) (fun L=>bn KC L)),.agg (qn X lo),.agg (qn Y hi)] (dI ((gI c lo hi:Nat):Int)):=
 aC.exh (fJ Tryz.func79 rfl rfl) fun L hQ=>agn hQ hab hK hX hY
theorem Gv{K KC X Y:Nat}{c:Nat→Int}{lo hi:Rat}(hX:X≤100000:=by omega)(hY:Y≤100000:=by omega):aC Tryz.prog 41 [.agg ([.row 4 (lg c) (aJ K (rc c))] ++ [aX (aZ c KC) (fun L=>bn KC L)] ++qn X lo ++qn Y hi)] (.d (.one (.v (.bool (decide (lo=hi)))))):=by
 exact aN 9 [.tmp 2] Tryz.func41 rfl<|cR<|mO rfl<|mW rfl<|mT<|cR<|mE 4 rfl<|mY (nD (l7 X lo) (l7 Y hi)) rfl<|mV aj (.d (.one (.v (.bool (decide (lo=hi)))))) (bI (Yv _ _))<|mW rfl<|mT<|aH<|rQ rfl (AV.le.rfl)
theorem Gu{K KC X:Nat}{c:Nat→Int}{lo hi:Rat}(zc:bC c)(hX:X≤100000:=by omega)(hK:K≤100000:=by omega):aC Tryz.prog 38 [.agg ([.row 4 (lg c) (aJ K (rc c))] ++ [aX (aZ c KC) (fun L=>bn KC L)] ++qn X lo ++qn X hi)] (.d (.agg ([.row 4 (lg c) (aJ K (rc c))] ++ [aX (aZ c KC) (fun L=>bn KC L)] ++qn X ((AU c lo hi).1) ++qn X ((AU c lo hi).2)))):=by
 have hlc:=dO c;refine aN 21 [.cell 2 51] Tryz.func38 rfl<|cR<|mO rfl<|mO rfl<|mT<|au<|au ?_
 by_cases he:lo=hi
 ·exact aA<|mE 4 rfl<|mY (nD (l7 X lo) (l7 X hi)) rfl<|mbF rfl (by rw [GL he];rfl)<|mW rfl<|mG rfl rfl<|mG rfl rfl<|mG rfl rfl<|mG rfl rfl<|mG rfl rfl<|mG rfl rfl<|mW rfl<|mT<|cFs rfl<|cR<|mW rfl<|mZ rfl<|mT<|aH<|rQ rfl (by rw [show AU c lo hi=(lo,hi) from if_neg (fun k=>k.1 he)];exact AV.le.rfl)
 ·by_cases h0:fC (FF c hi)=0
  ·exact aA<|mE 4 rfl<|mY (nD (l7 X lo) (l7 X hi)) rfl<|mbT rfl (afA.2 fun e=>he (lN.1 e))<|mE 5 rfl<|mY (CP (zc) rfl) rfl<|mbT rfl (aez.2 h0)<|mW rfl<|mT<|cT rfl<|aA<|mE 3 rfl<|mZ rfl<|mT<|cR<|mW rfl<|mZ rfl<|mT<|aH<|rQ rfl (by rw [show AU c lo hi=(hi,hi) from if_pos ⟨he,h0⟩];exact AV.le.rfl)
  ·exact aA<|mE 4 rfl<|mY (nD (l7 X lo) (l7 X hi)) rfl<|mbT rfl (afA.2 fun e=>he (lN.1 e))<|mE 5 rfl<|mY (CP (zc) rfl) rfl<|mbF rfl (abX.2 h0)<|mW rfl<|mT<|cFs rfl<|cR<|mW rfl<|mZ rfl<|mT<|aH<|rQ rfl (by rw [show AU c lo hi=(lo,hi) from if_neg (fun k=>h0 k.2)];exact AV.le.rfl)
theorem zW{K KC X Y:Nat}{c:Nat→Int}{lo hi:Rat}(hC:zS c)(hA:tX c lo hi)(hex:EX c lo hi)(hm:Qb Y ((lo+hi) / 2))(hXY:X≤Y:=by omega)(hK:K≤100000:=by omega)(nU:KC≤100000:=by omega)(hY:Y≤100000:=by omega):aC Tryz.prog 45 [.agg ([.row 4 (lg c) (aJ K (rc c))] ++ [aX (aZ c KC) (fun L=>bn KC L)] ++qn X lo ++qn X hi)] (.d (.agg ([.row 4 (lg c) (aJ K (rc c))] ++ [aX (aZ c KC) (fun L=>bn KC L)] ++qn Y ((hlf c lo hi).1) ++qn Y ((hlf c lo hi).2)))):=by
 refine aC.nH (fJ Tryz.func45 rfl rfl) (p:=Db K c∧Qb X lo∧Qb X hi) (fun B w vs h=>match vs,h with | [_],⟨⟨cs,_,hl⟩,_⟩=>QC hA.z hl) (fun hb=>?_);have hlc:=dO c;refine aK aj 25 [.cell 2 51] Tryz.func45 rfl rfl rfl rfl rfl<|cR<|mN aj (.box 51 ([.row 4 (lg c) (aJ K (rc c))] ++ [aX (aZ c KC) (fun L=>bn KC L)] ++qn X lo ++qn X hi)) rfl rfl rfl<|mN aj (.box 51 ([.v (.slice none 0 0),.v (.slice none 0 0),.v (.slice none 0 0),.v (.bool false),.v (.slice none 0 0),.v (.bool false),.v (.slice none 0 0),.v (.bool false),.v (.slice none 0 0),.v (.bool false)])) rfl rfl rfl<|mT<|au<|cR<|mW rfl<|aU (Gv (K:=K) (KC:=KC) (X:=X) (Y:=X) (c:=c) (lo:=lo) (hi:=hi) (by omega) (by omega)) rfl rfl rfl<|mT<|aW rfl (fun hc1=>?_) (fun hc1=>?_)
 ·exact cR<|mW rfl<|mS aj 2 (.box 51 ([.row 4 (lg c) (aJ K (rc c))] ++ [aX (aZ c KC) (fun L=>bn KC L)] ++qn X lo ++qn X hi)) rfl<|mT<|aH<|tR<|rQ rfl (by have he:lo=hi:=abM hc1;rw [← (hC.half hA hex).1,show qhl c lo hi=(lo,hi) from if_pos he];exact alH (K:=K) (KC:=KC) (X:=X) (Y:=Y) (c:=c) (lo:=lo) (hi:=hi) (iZ hb.2.1 hXY) (iZ hb.2.2 hXY))
 ·refine aF<|tN<|au ?_;have hne:¬ lo=hi:=abL hc1;have hlt:lo < hi:=by have:=hA.le;grind
  refine aA<|mv4 rfl rfl rfl rfl<|aU (X7 (l7 X lo) (l7 X hi) (M:=(((max X 64)+X)+200)) (by omega) (by omega)) rfl rfl rfl<|mN aj (.box 49 ([.v (.slice none 0 0),.v (.bool false),.v (.slice none 0 0),.v (.bool false)])) rfl rfl rfl<|mS aj 3 (.box 49 (qn (((max X 64)+X)+200) ((lo+hi) / 2))) rfl<|mT<|au<|au<|wB [3,11,10,9,8,7,5,4,2,1,0] [2,1] 3 (.box 49 (qn Y ((lo+hi) / 2))) rfl rfl (NI rfl hm) rfl<|aA<|mv5 rfl rfl rfl rfl rfl<|aU (Uo (KC:=KC) (X:=X) (Y:=Y) (c:=c) (lo:=lo) (hi:=((lo+hi) / 2)) (by grind) (by omega) (by omega) (by omega)) rfl rfl rfl<|mW rfl<|mT<|aW rfl (fun hc2=>?_) (fun hc2=>?_)
  ·exact aA<|mv2 rfl rfl<|mS aj 1 (.box 51 ([.row 4 (lg c) (aJ K (rc c))] ++ [aX (aZ c KC) (fun L=>bn KC L)] ++qn X lo ++qn Y ((lo+hi) / 2))) rfl<|mT<|au<|wB [20,19,18,17,16,15,14,13,12,3,11,10,9,8,7,5,4,2,1,0] [3,2] 1 (.box 51 ([.row 4 (lg c) (aJ K (rc c))] ++ [aX (aZ c KC) (fun L=>bn KC L)] ++qn Y lo ++qn Y ((lo+hi) / 2))) rfl rfl (jf (iy (iy (fun B w cs h=>h) (fF (iZ hb.2.1 hXY))) (fF hm))) rfl<|aA<|mW rfl<|aU (Gu (K:=K) (KC:=KC) (X:=Y) (c:=c) (lo:=lo) (hi:=((lo+hi) / 2)) (hA.z) (by omega) (by omega)) rfl rfl rfl<|mS aj 2 (.box 51 ([.row 4 (lg c) (aJ K (rc c))] ++ [aX (aZ c KC) (fun L=>bn KC L)] ++qn Y ((AU c lo ((lo+hi) / 2)).1) ++qn Y ((AU c lo ((lo+hi) / 2)).2))) rfl<|mT<|aH<|rQ rfl (by rw [← (hC.half hA hex).1];unfold qhl;rw [if_neg hne,if_pos (show 0 < gI c lo ((lo+hi) / 2) by have h0:=of_decide_eq_true hc2;omega)];exact AV.le.rfl)
  ·exact aA<|mv2 rfl rfl<|mS aj 1 (.box 51 ([.row 4 (lg c) (aJ K (rc c))] ++ [aX (aZ c KC) (fun L=>bn KC L)] ++qn Y ((lo+hi) / 2) ++qn X hi)) rfl<|mT<|au<|wB [22,21,18,17,16,15,14,13,12,3,11,10,9,8,7,5,4,2,1,0] [3,2] 1 (.box 51 ([.row 4 (lg c) (aJ K (rc c))] ++ [aX (aZ c KC) (fun L=>bn KC L)] ++qn Y ((lo+hi) / 2) ++qn Y hi)) rfl rfl (jf (iy (iy (fun B w cs h=>h) (fF hm)) (fF (iZ hb.2.2 hXY)))) rfl<|aA<|mW rfl<|aU (Gu (K:=K) (KC:=KC) (X:=Y) (c:=c) (lo:=((lo+hi) / 2)) (hi:=hi) (hA.z) (by omega) (by omega)) rfl rfl rfl<|mS aj 2 (.box 51 ([.row 4 (lg c) (aJ K (rc c))] ++ [aX (aZ c KC) (fun L=>bn KC L)] ++qn Y ((AU c ((lo+hi) / 2) hi).1) ++qn Y ((AU c ((lo+hi) / 2) hi).2))) rfl<|mT<|aH<|rQ rfl (by rw [← (hC.half hA hex).1];unfold qhl;rw [if_neg hne,if_neg (show ¬ 0 < gI c lo ((lo+hi) / 2) by have h0:=of_decide_eq_false hc2;omega)];exact AV.le.rfl)
theorem ou{K KC X Y:Nat}{c:Nat→Int}{lo hi t:Rat}(hC:zS c)(hA:tX c lo hi)(hK:K≤100000:=by omega)(nU:KC≤100000:=by omega)(hX:X≤100000:=by omega)(hY:max K KC+Y≤476000:=by omega):aC Tryz.prog 42 [.agg ([.row 4 (lg c) (aJ K (rc c))] ++ [aX (aZ c KC) (fun L=>bn KC L)] ++qn X lo ++qn X hi),.agg (qn Y t)] (dI (dG (bK c lo hi) (fO t))):=by
 have hlc:=dO c;refine aN 33 [.tmp 4] Tryz.func42 rfl<|cR<|mO rfl<|mO rfl<|mW rfl<|mT<|au<|cR<|mW rfl<|mY Gv rfl<|mT<|aW rfl (fun hc1=>?_) (fun hc1=>?_)
 ·exact cR<|mE 3 rfl<|mY (nD (l7 X lo) (l7 Y t)) rfl<|mW rfl<|mT<|aH<|tR<|rQ rfl (by have he:lo=hi:=abM hc1;exact aG (by rw [← hC.rat hA];unfold crQ;rw [if_pos he]))
 ·refine aF<|tN<|au<|au ?_;have hne:¬ lo=hi:=abL hc1;have hlt:lo < hi:=by have:=hA.le;grind
  refine aA<|mE 3 rfl<|mY (nD (l7 Y t) (l7 X lo)) rfl<|mW rfl<|mT<|aW rfl (fun hc2=>?_) (fun hc2=>?_)
  ·exact cR<|mW rfl<|mT<|aH<|tR<|rQ rfl (by have h1:t≤lo:=by {have h0:=abM hc2;exact dV.1 (by omega)};exact aG (by rw [← hC.rat hA];unfold crQ;rw [if_neg hne,if_pos h1]))
  ·refine aF<|tN<|au<|au ?_;have h1:¬ t≤lo:=fun k=>by have h0:=abL hc2;have:=dV.2 k;omega
   refine aA<|mE 3 rfl<|mY (nD (l7 Y t) (l7 X hi)) rfl<|mW rfl<|mT<|aW rfl (fun hc3=>?_) (fun hc3=>?_)
   ·exact cR<|mW rfl<|mT<|aH<|tR<|rQ rfl (by have h2:hi < t:=by {have h0:=abM hc3;apply abP;intro k;have:=dV.2 (show t≤hi by grind);omega};exact aG (by rw [← hC.rat hA];unfold crQ;rw [if_neg hne,if_neg h1,if_pos h2]))
   ·refine aF<|tN<|au<|au ?_;have h2:¬ hi < t:=fun k=>by have h0:=abL hc3;have:=abH k;omega
    refine aA<|mE 5 rfl<|mY (Uo (by grind)) rfl<|mW rfl<|mT<|aW rfl (fun hc4=>?_) (fun hc4=>?_)
    ·exact cR<|mW rfl<|mT<|aH<|tR<|rQ rfl (by have h3:gI c lo t=0:=by {have h0:=eq_of_beq hc4;omega};exact aG (by rw [← hC.rat hA];unfold crQ;rw [if_neg hne,if_neg h1,if_neg h2,if_pos h3]))
    ·refine aF<|tN<|au<|cR<|mE 3 rfl<|mY (CP (hA.z) rfl) rfl<|mW rfl<|mT<|aW rfl (fun hc5=>?_) (fun hc5=>?_)
     ·exact cR<|mW rfl<|mT<|aH<|tR<|rQ rfl (by have h3:¬ gI c lo t=0:=by {have h0:=abX.1 hc4;omega};have h4:=eq_of_beq hc5;exact aG (by rw [← hC.rat hA];unfold crQ;rw [if_neg hne,if_neg h1,if_neg h2,if_neg h3,if_pos h4]))
     ·exact aF<|tN<|cR<|mW rfl<|mT<|aH<|rQ rfl (by have h3:¬ gI c lo t=0:=by {have h0:=abX.1 hc4;omega};have h4:=abX.1 hc5;exact aG (by rw [← hC.rat hA];unfold crQ;rw [if_neg hne,if_neg h1,if_neg h2,if_neg h3,if_neg h4]))
def vY(K:Nat)(c:Nat→Int)(KC X:Nat)(l:List (Rat×Rat)):Nat→Nat→Lf:=fun i j=>((qac K c KC X (l.getD i (0,0)).1 X (l.getD i (0,0)).2)[j]?).getD (.v undef)
section
variable {e:TypeId} {K:Nat} {c:Nat→Int} {KC X:Nat}
theorem Z4{p:Rat×Rat}{el2:Nat→Nat→Lf}(h:∀ j,j < 10→el2 0 j=((qac K c KC X p.1 X p.2)[j]?).getD (.v undef)):AO.le (.row e 10 1 el2) (.row e 10 [p].length (vY K c KC X [p])):=gB fun i hi j hj B w v hv=>by
 obtain rfl:i=0:=by omega
 rw [h j hj] at hv;exact hv
theorem ZX{l l2:List (Rat×Rat)}:AO.le (.row e 10 (l.length+l2.length) (eU l.length (vY K c KC X l) (vY K c KC X l2))) (.row e 10 (l ++l2).length (vY K c KC X (l ++l2))):=by
 rw [List.length_append];refine gB fun i hi j hj B w v hv=>?_
 unfold eU at hv
 by_cases h:i < l.length
 ·rw [show Nat.ble (i+1) l.length=true from Nat.ble_eq_true_of_le h] at hv
  have e2:(l ++l2).getD i (0,0)=l.getD i (0,0):=by rw [List.getD_eq_getElem?_getD,List.getD_eq_getElem?_getD,List.getElem?_append_left h]
  unfold vY;rw [e2];exact hv
 ·rw [show Nat.ble (i+1) l.length=false from by rw [← Bool.not_eq_true,Nat.ble_eq];omega] at hv
  have e2:(l ++l2).getD i (0,0)=l2.getD (i-l.length) (0,0):=by rw [List.getD_eq_getElem?_getD,List.getD_eq_getElem?_getD,List.getElem?_append_right (by omega)]
  unfold vY;rw [e2];exact hv
end
theorem Tb.qb{K L:Nat}{q:Rat}(h:Tb K q)(k:3*K≤L):Qb L q:=⟨acC (acC h.1 (Sj K)) (ab1 (by decide) k),acC (acC h.2 (Sj K)) (ab1 (by decide) k)⟩
theorem Qb.tb{K L:Nat}{q:Rat}(h:Qb (2*K) q)(k:K≤L):Tb L q:=yc ⟨acC h.1 (Sl K),acC h.2 (Sl K)⟩ k
theorem Dz.mid{L J:Nat}{p q:Rat}(h:Dz L J p q):Dz L (J+1) p ((p+q) / 2)∧Dz L (J+1) ((p+q) / 2) q:=by
 obtain ⟨D,R,a,b,c,d,e⟩:=h.e;have hm:=d.mid e;exact ⟨⟨D,R,a,b,c,d.mono (afl _),hm⟩,⟨D,R,a,b,c,hm,e.mono (afl _)⟩⟩
theorem Dz.qb{L J X:Nat}{p q:Rat}(h:Dz L J p q)(hX:3*(3*L+J / 32+1)≤X):Qb X p∧Qb X q:=by
 obtain ⟨a,b⟩:=h.tb (abJ _);exact ⟨a.qb hX,b.qb hX⟩
/-- An interval on the way down. -/
structure SpI(c:Nat→Int)(h1 L J d:Nat)(lo hi:Rat):Prop where
 le:lo≤hi
 l: -(t2 (h1+1))≤lo
 h:hi≤t2 (h1+1)
 w:(hi-lo)*t2 (mQ (lg c) (lg c) h1 h1)≤t2 d
 d:Dz L J lo hi
theorem SpI.down{c:Nat→Int}{h1 L J d:Nat}{lo hi:Rat}(h:SpI c h1 L J (d+1) lo hi):SpI c h1 L (J+1) d lo ((lo+hi) / 2)∧SpI c h1 L (J+1) d ((lo+hi) / 2) hi:=by
 obtain ⟨a1,a2,a3,a4,a5⟩:=h;obtain ⟨m,hm⟩:∃ m,m=(lo+hi) / 2:=⟨_,rfl⟩
 have hd:=a5.mid;rw [← hm] at hd ⊢;have hE:=iK (mQ (lg c) (lg c) h1 h1);have e2:t2 (d+1)=t2 d*2:=by rw [jK d 1];rfl
 have w1:m-lo=(hi-lo) / 2:=by grind
 have w2:hi-m=(hi-lo) / 2:=by grind
 refine ⟨⟨by grind,a2,by grind,?_,hd.1⟩,⟨by grind,by grind,a3,?_,hd.2⟩⟩
 ·rw [w1];rw [e2] at a4;grind
 ·rw [w2];rw [e2] at a4;grind
theorem SpI.ok{c:Nat→Int}{h1 L J d:Nat}{lo hi:Rat}(h:SpI c h1 L J d lo hi)(hC:zS c)(b1:∀ i,(c i).natAbs≤2^h1):SpP c lo hi (LP c (d+1) lo hi):=ait hC b1 d lo hi h.le h.l h.h h.w
theorem aoG{c:Nat→Int}{n:Nat}{lo hi:Rat}(h:gI c lo hi=0):LP c (n+1) lo hi= []:=if_pos h
theorem aoH{c:Nat→Int}{n:Nat}{lo hi:Rat}(h:gI c lo hi=1):LP c (n+1) lo hi= [AU c lo hi]:=by
 show (if gI c lo hi=0 then [] else _)=_
 rw [if_neg (by omega),if_pos h]
theorem aoI{c:Nat→Int}{n:Nat}{lo hi:Rat}(h0:¬ gI c lo hi=0)(h1:¬ gI c lo hi=1):LP c (n+1) lo hi=LP c n lo ((lo+hi) / 2) ++LP c n ((lo+hi) / 2) hi:=by
 show (if gI c lo hi=0 then [] else _)=_
 rw [if_neg h0,if_neg h1]
/-- How deep. -/
def rtD(c:Nat→Int)(h1:Nat):Nat:=mQ (lg c) (lg c) h1 h1+h1+2
/-- ALL ROOTS. -/
noncomputable def rtF(c:Nat→Int)(h1:Nat):List (Rat×Rat):=LP c (rtD c h1+1) (-(Ce c)) (Ce c)
theorem Jy{c:Nat→Int}{h1 L:Nat}(hC:zS c)(b1:∀ i,(c i).natAbs≤2^h1)(hL:Tb L (Ce c)):SpI c h1 L 0 (rtD c h1) (-(Ce c)) (Ce c):=by
 have h0:lg c≠0:=by have:=hC.l2;omega
 have g1:=Sv h0;have g2:=agA h0 b1;have hp:=Oz h1;have e1:((2^h1:Nat):Rat)=t2 h1:=by unfold t2;rfl
 have e2:t2 (h1+1)=t2 h1*2:=by rw [jK h1 1];rfl
 rw [e1] at g2;have hE:=iK (mQ (lg c) (lg c) h1 h1);refine ⟨by grind,by rw [e2];grind,by rw [e2];grind,?_,yO ?_ hL⟩
 ·have w1:Ce c- -(Ce c)≤t2 (h1+2):=by rw [show h1+2=h1+1+1 from rfl,jK (h1+1) 1,e2,show t2 1=2 from rfl];grind
  have:=abS w1 (show 0≤t2 (mQ (lg c) (lg c) h1 h1) by grind);unfold rtD;rw [Nat.add_assoc,jK (mQ _ _ _ _) (h1+2)];grind
 ·exact ⟨by rw [Rat.neg_num,Int.natAbs_neg];exact hL.1,by rw [Rat.neg_den];exact hL.2⟩
/-- What all roots are. -/
structure RtP(c:Nat→Int)(l:List (Rat×Rat)):Prop where
 ok:∀ p∈l,vJ c p.1 p.2∧EX c p.1 p.2
 all:∀ C,eG C→VC (FF c) C→∃ p∈l,∀ q,bK c p.1 p.2 q↔C q
 rise:l.Pairwise fun p q=>dG (bK c p.1 p.2) (bK c q.1 q.2)= -1
 len:l.length=gI c (-(Ce c)) (Ce c)
theorem afC{c:Nat→Int}{h1 L:Nat}(hC:zS c)(b1:∀ i,(c i).natAbs≤2^h1)(hL:Tb L (Ce c)):RtP c (rtF c h1):=by
 have h:=(Jy hC b1 hL).ok hC b1;exact ⟨fun p hp=>⟨(h.ok p hp).1,(h.ok p hp).2.1⟩,fun C hI v=>by
  obtain ⟨k1,k2⟩:=agB hC.z (by have:=hC.l2;omega) hI v;exact h.all C hI v k1 k2,h.rise,h.len⟩
theorem Qd{t:TypeId}{K:Nat}{z:Int}:AO.le (.box t ([dn K (Int.natAbs (Rat.num ((z:Int):Rat))),.v (.bool false)] ++rn K ((Rat.den ((z:Int):Rat):Nat):Int))) (.box t (qn K ((Int.natAbs z:Nat):Rat))):=by
 have e: [dn K (Int.natAbs (Rat.num ((z:Int):Rat))),.v (.bool false)] ++rn K ((Rat.den ((z:Int):Rat):Nat):Int)=qn K ((Int.natAbs z:Nat):Rat):=by
  unfold qn;rw [Rat.num_intCast,Rat.den_intCast,Rat.num_natCast,Rat.den_natCast];show _= [dn K (Int.natAbs (z.natAbs:Int)),.v (.bool (decide ((z.natAbs:Int) < 0)))] ++_
  rw [Int.natAbs_natCast,decide_eq_false (show ¬ (z.natAbs:Int) < 0 by omega)]
 rw [e];exact fun _ _ _ _ h=>h
theorem acg{M Y:Nat}{c:Nat→Int}(zc:bC c)(h2:2≤lg c)(hM:1≤M)(hM2:M≤100000)(hY:2*M+200≤Y):aC Tryz.prog 61 [.one (dM M (lg c) (rc c))] (.d (.agg (qn Y (Ce c)))):=by
 have hlc:=dO c;refine aN 43 [.cell 2 49] Tryz.func61 rfl<|cR<|mO rfl<|mT<|cR<|mY (EG) rfl<|mO rfl<|mZ rfl<|mT<|au<|cR<|mW rfl<|mT<|aI<|dU (ι:=Nat) (fun (i:Nat)=>⟨43,[(0,.d (.one (.row 4 (lg c) (aJ M (rc c))))),(2,.ptr 2 0),(3,.ptr 3 0),(4,dI (i:Int))],[(2,.box 49 ([.v (.slice none 0 0),.v (.bool false),.v (.slice none 0 0),.v (.bool false)])),(3,.box 49 (qn M ((A8 c i:Nat):Rat)))]⟩) (fun (i:Nat)=>i≤lg c-1) (fun (i:Nat)=>lg c-1-i) 0 (abR _) (wkv [3] [1] ⟨fQ rfl (aG rfl),Pe⟩ ⟨dX rfl (NI rfl (aaV (z:=0) (aeA (by decide)) hM)),Pe⟩ rfl rfl) ?_;rintro i hI;have hi:i≤lg c-1:=hI;show AW _ _ _ ⟨_,_,_⟩
 refine au<|cR<|mW rfl<|mV aj (dI ((i+1:Nat):Int)) (fM (dF (by omega)))<|mE 3 rfl<|mT<|aW rfl (fun hc1=>?_) (fun hc1=>?_)
 ·refine aF<|tN<|au<|aI<|au ?_;have hin:i+1 < lg c:=by have h0:=abM hc1;omega
  refine aA<|mE 2 rfl<|mV aj (.d (.one (.at 4 ((aJ M (rc c)) i)))) (jZ (el:=(aJ M (rc c))) (z:=(i:Int)) (n:=(lg c)) rfl rfl rfl rfl rfl rfl (by omega) (by omega)) ?_;refine mW rfl<|mO rfl<|mZ rfl<|mT<|cR<|mE 2 rfl<|mZ rfl<|mT<|au<|wB [20,19,5,18,17,16,15,12,11,10,9,8,4,3,2,0] [3,2] 5 (.box 49 (qn M ((Int.natAbs (c i):Nat):Rat))) rfl rfl (Qd) rfl ?_;refine aA<|mE 2 rfl<|mY (nD (l7 M ((Int.natAbs (c i):Nat):Rat)) (l7 M ((A8 c i:Nat):Rat))) rfl<|mW rfl<|mT<|aW rfl (fun hc2=>?_) (fun hc2=>?_)
  ·exact aA<|mW rfl<|mZ rfl<|ak<|bN<|tN<|aA<|mE 3 rfl<|ak<|⟨(i+1),by omega,by omega,wkv [3] [1] ⟨fQ rfl (aG (dF (by omega))),Pe⟩ ⟨dX rfl (Tq (abJ _) (by have h0:=abM hc2;have h1:(A8 c i:Rat) < ((c i).natAbs:Rat):=(by apply abP;intro k;have:=dV.2 (show ((c i).natAbs:Rat)≤(A8 c i:Rat) by grind);omega);have h2:A8 c i < (c i).natAbs:=(by exact_mod_cast h1);show ((c i).natAbs:Rat)=((max (A8 c i) (c i).natAbs:Nat):Rat);rw [Nat.max_eq_right (by omega)])),Pe⟩ rfl rfl⟩
  ·exact aF<|bN<|tN<|aA<|mE 3 rfl<|ak<|⟨(i+1),by omega,by omega,wkv [3] [1] ⟨fQ rfl (aG (dF (by omega))),Pe⟩ ⟨dX rfl (Tq (abJ _) (by have h0:=abL hc2;have h1:((c i).natAbs:Rat)≤(A8 c i:Rat):=(by apply abP;intro k;have:=abH (show (A8 c i:Rat) < ((c i).natAbs:Rat) by grind);omega);have h2:(c i).natAbs≤A8 c i:=(by exact_mod_cast h1);show (A8 c i:Rat)=((max (A8 c i) (c i).natAbs:Nat):Rat);rw [Nat.max_eq_left (by omega)])),Pe⟩ rfl rfl⟩
 ·refine dP<|tE<|tE<|bE<|tN<|au<|au ?_;have hie:i=lg c-1:=by have h0:=abL hc1;omega
  subst hie;refine aA<|mE 2 rfl<|mdF rfl (by omega)<|mT<|cFs rfl<|cR<|mE 3 rfl<|mV aj (dI ((lg c-1:Nat):Int)) (fM ((eu (by omega) (by omega)).trans (by omega)))<|mV aj (.d (.one (.at 4 ((aJ M (rc c)) (lg c-1))))) (jZ (el:=(aJ M (rc c))) (z:=((lg c-1:Nat):Int)) (n:=(lg c)) rfl rfl rfl rfl rfl rfl (by omega) (by omega)) ?_;refine mW rfl<|mO rfl<|mZ rfl<|mT<|cR<|mE 2 rfl<|mZ rfl<|mT<|au<|wB [37,36,6,35,34,33,32,31,30,28,27,26,12,11,10,9,8,4,3,2,0] [3,2] 6 (.box 49 (qn M ((Int.natAbs (c (lg c-1)):Nat):Rat))) rfl rfl (Qd) rfl ?_;exact cDk 5<|oC Ie rfl<|oE 2 rfl<|oC (MC (l7 M ((A8 c (lg c-1):Nat):Rat)) (l7 M ((Int.natAbs (c (lg c-1)):Nat):Rat)) (by have h0:=DL (c:=c) (by omega);grind) (M:=(max (M+M+1) 64))) rfl<|oC (Me (l7 64 ((1:Int):Rat)) (l7 (max (M+M+1) 64) (((A8 c (lg c-1):Nat):Rat) / ((Int.natAbs (c (lg c-1)):Nat):Rat))) (M:=(max (64+(max (M+M+1) 64)+1) 64))) rfl<|.nil<|mZ rfl<|mT<|aH<|rQ rfl (wI (by omega) rfl)
theorem OZ{K KC X L JM h1 J d:Nat}{c:Nat→Int}{lo hi:Rat}(hC:zS c)(b1:∀ i,(c i).natAbs≤2^h1)(hcb:∀ a b,a≤b→gI c a b≤1000000)(hI:SpI c h1 L J d lo hi)(hJ:J+d≤JM)(hX:3*(3*L+JM / 32+1)≤X)(hX1:X≤90000)(hK:K≤100000)(nU:KC≤100000)(ih:∀ d',d=d'+1→∀ lo hi J,SpI c h1 L J d' lo hi→J+d'≤JM→wZ Tryz.prog 62 [.one (dM K (lg c) (rc c)),.one (aX (aZ c KC) (fun L=>bn KC L)),.agg (qn X lo),.agg (qn X hi)] 51 10 (LP c (d'+1) lo hi).length (vY K c KC X (LP c (d'+1) lo hi))):wZ Tryz.prog 62 [.one (dM K (lg c) (rc c)),.one (aX (aZ c KC) (fun L=>bn KC L)),.agg (qn X lo),.agg (qn X hi)] 51 10 (LP c (d+1) lo hi).length (vY K c KC X (LP c (d+1) lo hi)):=by
 have hlc:=dO c;refine Ye aj 40 8 Tryz.func62 rfl rfl rfl rfl rfl<|cR<|mO rfl<|mO rfl<|mW rfl<|mT<|cR<|mE 3 rfl<|mY (Uo hI.le) rfl<|mW rfl<|mT<|au<|au ?_
 by_cases hn0:gI c lo hi=0
 ·exact aA<|mW rfl<|mbT rfl (aez.2 (by omega))<|mT<|cT rfl<|cR<|mW rfl<|AL.wk (qV 8 8 51 10 (fun _ _=> .v undef) rfl rfl)<|mT<|aH<|tR<|rR 8 (by rfl) (by rfl) (by rw [aoG hn0];exact iY (el:=fun _ _=> .v undef))
 ·by_cases hn1:gI c lo hi=1
  ·exact aA<|mW rfl<|mbF rfl (abX.2 (by omega))<|mT<|cFs rfl<|au<|cR<|mW rfl<|mbT rfl (aez.2 (by omega))<|mT<|cT rfl<|cR<|mE 5 rfl<|mY (Gu (hC.z)) rfl<|mR aj (.row 51 10 1 (fun i' j'=>(([.row 4 (lg c) (aJ K (rc c))] ++ [aX (aZ c KC) (fun L=>bn KC L)] ++qn X ((AU c lo hi).1) ++qn X ((AU c lo hi).2))[i'*10+j']?).getD (.v undef))) rfl rfl rfl<|mW rfl<|mT<|aH<|tR<|rR 25 rfl rfl (by rw [aoH hn1];exact Z4 (fun j hj=>by show (_[0*10+j]?).getD _=_;rw [Nat.zero_mul,Nat.zero_add];rfl))
  ·obtain ⟨d',rfl⟩:∃ d',d=d'+1:=by
    cases d with
    | zero=>exfalso;have h9:=LQ hC b1 hI.le hI.l hI.h (by have:=hI.w;rw [show t2 0=1 from rfl] at this;exact this);omega
    | succ d=>exact ⟨d,rfl⟩
   obtain ⟨i1,i2⟩:=hI.down;have hq:=(i1.d.qb (X:=X) (by omega)).2;refine aA<|mW rfl<|mbF rfl (abX.2 (by omega))<|mT<|cFs rfl<|au<|cR<|mW rfl<|mbF rfl (abX.2 (by omega))<|mT<|cFs rfl<|cR<|mE 2 rfl<|mY (X7 (l7 X lo) (l7 X hi) (M:=(((max X 64)+X)+200))) rfl<|mO rfl<|mZ rfl<|mT<|au<|wB [10,28,27,26,18,17,16,15,9,14,13,12,11,8,7,6,3,2,1,0] [7,6] 10 (.box 49 (qn X ((lo+hi) / 2))) rfl rfl (NI rfl hq) rfl<|wK [10,7,6,1,0] [10,7,6] rfl rfl ?_;obtain ⟨l1,hl1⟩:∃ l,l=LP c (d'+1) lo ((lo+hi) / 2):=⟨_,rfl⟩
   have cl1:=ih d' rfl lo ((lo+hi) / 2) (J+1) i1 (by omega);have nl1:l1.length≤1000000:=by have h8:=(i1.ok hC b1).len;have h7:=hcb _ _ i1.le;rw [← hl1] at h8;omega
   rw [← hl1] at cl1;obtain ⟨l2,hl2⟩:∃ l,l=LP c (d'+1) ((lo+hi) / 2) hi:=⟨_,rfl⟩
   have cl2:=ih d' rfl ((lo+hi) / 2) hi (J+1) i2 (by omega);have nl2:l2.length≤1000000:=by have h8:=(i2.ok hC b1).len;have h7:=hcb _ _ i2.le;rw [← hl2] at h8;omega
   rw [← hl2] at cl2;refine aeS (by kernel_rfl)<|yu 0 rfl (by kernel_rfl) (by kernel_rfl) (by kernel_rfl) (fun _ _ h=>h) rfl rfl (av:= .d (.one (.row 4 (lg c) (aJ K (rc c))))) (DY rfl rfl)<|yu 1 rfl (by kernel_rfl) (by kernel_rfl) (by kernel_rfl) (fun _ _ h=>h) rfl rfl (av:= .d (.one (aX (aZ c KC) (fun L=>bn KC L)))) (DY rfl rfl)<|yu 5 rfl (by kernel_rfl) (by kernel_rfl) (by kernel_rfl) (fun _ _ h=>h) rfl rfl (av:= .d (.one (.row 4 (lg c) (aJ K (rc c))))) (DY rfl rfl)<|yu 6 rfl (by kernel_rfl) (by kernel_rfl) (by kernel_rfl) (fun _ _ h=>h) rfl rfl (av:= .d (.one (aX (aZ c KC) (fun L=>bn KC L)))) (DY rfl rfl)<|bOf<|jA 1 #[true,true,true,true,true,true,true,true,true,true,true,false] ⟨40,[(0,.d (.one (.row 4 (lg c) (aJ K (rc c))))),(1,.d (.one (aX (aZ c KC) (fun L=>bn KC L)))),(6,.ptr 6 0),(7,.ptr 7 0),(10,.ptr 10 0),(29,.d (.one (.row 4 (lg c) (aJ K (rc c))))),(30,.d (.one (aX (aZ c KC) (fun L=>bn KC L)))),(34,.d (.one (.row 4 (lg c) (aJ K (rc c))))),(35,.d (.one (aX (aZ c KC) (fun L=>bn KC L)))),(31,.d (.agg (qn X lo))),(32,.d (.agg (qn X ((lo+hi) / 2)))),(33,.dead),(36,.d (.agg (qn X ((lo+hi) / 2)))),(37,.d (.agg (qn X hi))),(38,.d (.one (.row 10 l2.length (vY K c KC X l2)))),(39,.own 33)],[(6,.box 49 (qn X lo)),(7,.box 49 (qn X hi)),(10,.box 49 (qn X ((lo+hi) / 2))),(33,.row 51 10 (l1.length+l2.length) (eU l1.length (vY K c KC X l1) (vY K c KC X l2)))]⟩ ?_ (fun IG=>?_)
   ·refine o8 [11] (by kernel_rfl) rfl ?_;refine ⟨⟨_,rfl,?_⟩,Pe⟩
    ·exact mW rfl<|mT<|ajJ (by kernel_rfl)<|tN<|aH<|rR 33 rfl rfl (by rw [aoI hn0 hn1];rw [← hl1,← hl2];exact ZX)
   refine jA 2 #[true,true,true,true,true,true,true,true,true,true,false,false] ⟨40,[(0,.d (.one (.row 4 (lg c) (aJ K (rc c))))),(1,.d (.one (aX (aZ c KC) (fun L=>bn KC L)))),(6,.ptr 6 0),(7,.ptr 7 0),(10,.ptr 10 0),(29,.d (.one (.row 4 (lg c) (aJ K (rc c))))),(30,.d (.one (aX (aZ c KC) (fun L=>bn KC L)))),(34,.d (.one (.row 4 (lg c) (aJ K (rc c))))),(35,.d (.one (aX (aZ c KC) (fun L=>bn KC L)))),(31,.d (.agg (qn X lo))),(32,.d (.agg (qn X ((lo+hi) / 2)))),(33,.own 33),(36,.d (.agg (qn X ((lo+hi) / 2)))),(37,.d (.agg (qn X hi))),(38,.own 38)],[(6,.box 49 (qn X lo)),(7,.box 49 (qn X hi)),(10,.box 49 (qn X ((lo+hi) / 2))),(33,.row 51 10 l1.length (vY K c KC X l1)),(38,.row 51 10 l2.length (vY K c KC X l2))]⟩ ?_ (fun IE=>?_)
   ·refine o8 [10] (by kernel_rfl) rfl ?_;refine ⟨⟨_,rfl,?_⟩,Pe⟩
    ·exact AL.wk (jl 38 rfl)<|mA aj (id:=33) (n:=l1.length) (m:=l2.length) (el:=(vY K c KC X l1)) (el2:=(vY K c KC X l2)) rfl rfl rfl (by show (l1.length+l2.length)*176≤140737488355328;omega) (by omega) rfl rfl rfl rfl rfl rfl rfl rfl rfl rfl<|mT<|anyV IG 11 [] (by kernel_rfl) (wkr rfl rfl)
   refine jA 3 #[true,true,true,true,true,true,true,true,true,false,false,false] ⟨40,[(0,.d (.one (.row 4 (lg c) (aJ K (rc c))))),(1,.d (.one (aX (aZ c KC) (fun L=>bn KC L)))),(6,.ptr 6 0),(7,.ptr 7 0),(10,.ptr 10 0),(29,.d (.one (.row 4 (lg c) (aJ K (rc c))))),(30,.d (.one (aX (aZ c KC) (fun L=>bn KC L)))),(34,.d (.one (.row 4 (lg c) (aJ K (rc c))))),(35,.d (.one (aX (aZ c KC) (fun L=>bn KC L)))),(31,.d (.agg (qn X lo))),(32,.d (.agg (qn X ((lo+hi) / 2)))),(33,.own 33),(36,.d (.agg (qn X ((lo+hi) / 2)))),(37,.d (.agg (qn X hi)))],[(6,.box 49 (qn X lo)),(7,.box 49 (qn X hi)),(10,.box 49 (qn X ((lo+hi) / 2))),(33,.row 51 10 l1.length (vY K c KC X l1))]⟩ ?_ (fun sK=>?_)
   ·refine o8 [9] (by kernel_rfl) rfl ?_;refine ⟨⟨_,rfl,?_⟩,Pe⟩
    ·exact mCR cl2 rfl rfl rfl rfl rfl<|mT<|anyV IE 10 [] (by kernel_rfl) (wkr rfl rfl)
   refine jA 4 #[true,true,true,true,true,true,true,false,true,false,false,false] ⟨40,[(0,.d (.one (.row 4 (lg c) (aJ K (rc c))))),(1,.d (.one (aX (aZ c KC) (fun L=>bn KC L)))),(6,.ptr 6 0),(7,.ptr 7 0),(10,.ptr 10 0),(29,.d (.one (.row 4 (lg c) (aJ K (rc c))))),(30,.d (.one (aX (aZ c KC) (fun L=>bn KC L)))),(34,.d (.one (.row 4 (lg c) (aJ K (rc c))))),(35,.d (.one (aX (aZ c KC) (fun L=>bn KC L)))),(31,.d (.agg (qn X lo))),(32,.d (.agg (qn X ((lo+hi) / 2)))),(33,.own 33),(37,.d (.agg (qn X hi)))],[(6,.box 49 (qn X lo)),(7,.box 49 (qn X hi)),(10,.box 49 (qn X ((lo+hi) / 2))),(33,.row 51 10 l1.length (vY K c KC X l1))]⟩ ?_ (fun y8=>?_)
   ·refine o8 [7] (by kernel_rfl) rfl ?_;refine ⟨⟨_,rfl,?_⟩,Pe⟩
    ·exact mW rfl<|mT<|anyV sK 9 [] (by kernel_rfl) (wkr rfl rfl)
   refine jA 4 #[true,true,true,true,true,true,true,true,false,false,false,false] ⟨40,[(0,.d (.one (.row 4 (lg c) (aJ K (rc c))))),(1,.d (.one (aX (aZ c KC) (fun L=>bn KC L)))),(6,.ptr 6 0),(7,.ptr 7 0),(10,.ptr 10 0),(29,.d (.one (.row 4 (lg c) (aJ K (rc c))))),(30,.d (.one (aX (aZ c KC) (fun L=>bn KC L)))),(34,.d (.one (.row 4 (lg c) (aJ K (rc c))))),(35,.d (.one (aX (aZ c KC) (fun L=>bn KC L)))),(31,.d (.agg (qn X lo))),(32,.d (.agg (qn X ((lo+hi) / 2)))),(33,.own 33),(36,.d (.agg (qn X ((lo+hi) / 2))))],[(6,.box 49 (qn X lo)),(7,.box 49 (qn X hi)),(10,.box 49 (qn X ((lo+hi) / 2))),(33,.row 51 10 l1.length (vY K c KC X l1))]⟩ ?_ (fun y9=>?_)
   ·refine o8 [8] (by kernel_rfl) rfl ?_;refine ⟨⟨_,rfl,?_⟩,Pe⟩
    ·exact mW rfl<|mT<|anyV sK 9 [] (by kernel_rfl) (wkr rfl rfl)
   refine jA 4 #[true,true,true,true,false,true,true,true,true,false,false,false] ⟨40,[(0,.d (.one (.row 4 (lg c) (aJ K (rc c))))),(1,.d (.one (aX (aZ c KC) (fun L=>bn KC L)))),(6,.ptr 6 0),(7,.ptr 7 0),(10,.ptr 10 0),(29,.d (.one (.row 4 (lg c) (aJ K (rc c))))),(30,.d (.one (aX (aZ c KC) (fun L=>bn KC L)))),(34,.d (.one (.row 4 (lg c) (aJ K (rc c))))),(35,.d (.one (aX (aZ c KC) (fun L=>bn KC L)))),(31,.d (.agg (qn X lo))),(32,.d (.agg (qn X ((lo+hi) / 2)))),(36,.d (.agg (qn X ((lo+hi) / 2)))),(37,.d (.agg (qn X hi)))],[(6,.box 49 (qn X lo)),(7,.box 49 (qn X hi)),(10,.box 49 (qn X ((lo+hi) / 2)))]⟩ ?_ (fun oG=>?_)
   ·refine o8 [4] (by kernel_rfl) rfl ?_;refine ⟨⟨_,rfl,?_⟩,Pe⟩
    ·exact mCR cl1 rfl rfl rfl rfl rfl<|mT<|anyV sK 9 [] (by kernel_rfl) (wkr rfl rfl)
   refine jA 5 #[true,true,true,true,false,true,true,true,false,false,false,false] ⟨40,[(0,.d (.one (.row 4 (lg c) (aJ K (rc c))))),(1,.d (.one (aX (aZ c KC) (fun L=>bn KC L)))),(6,.ptr 6 0),(7,.ptr 7 0),(10,.ptr 10 0),(29,.d (.one (.row 4 (lg c) (aJ K (rc c))))),(30,.d (.one (aX (aZ c KC) (fun L=>bn KC L)))),(34,.d (.one (.row 4 (lg c) (aJ K (rc c))))),(35,.d (.one (aX (aZ c KC) (fun L=>bn KC L)))),(31,.d (.agg (qn X lo))),(32,.d (.agg (qn X ((lo+hi) / 2)))),(36,.d (.agg (qn X ((lo+hi) / 2))))],[(6,.box 49 (qn X lo)),(7,.box 49 (qn X hi)),(10,.box 49 (qn X ((lo+hi) / 2)))]⟩ ?_ (fun sJ=>?_)
   ·refine o8 [4,8] (by kernel_rfl) rfl ?_;refine ⟨⟨_,rfl,?_⟩,⟨_,rfl,?_⟩,Pe⟩
    ·exact mCR cl1 rfl rfl rfl rfl rfl<|mT<|anyV y9 8 [] (by kernel_rfl) (wkr rfl rfl)
    ·exact mW rfl<|mT<|anyV oG 4 [] (by kernel_rfl) (wkr rfl rfl)
   refine jA 5 #[true,true,true,false,false,true,true,true,true,false,false,false] ⟨40,[(0,.d (.one (.row 4 (lg c) (aJ K (rc c))))),(1,.d (.one (aX (aZ c KC) (fun L=>bn KC L)))),(6,.ptr 6 0),(7,.ptr 7 0),(10,.ptr 10 0),(29,.d (.one (.row 4 (lg c) (aJ K (rc c))))),(30,.d (.one (aX (aZ c KC) (fun L=>bn KC L)))),(34,.d (.one (.row 4 (lg c) (aJ K (rc c))))),(35,.d (.one (aX (aZ c KC) (fun L=>bn KC L)))),(31,.d (.agg (qn X lo))),(36,.d (.agg (qn X ((lo+hi) / 2)))),(37,.d (.agg (qn X hi)))],[(6,.box 49 (qn X lo)),(7,.box 49 (qn X hi)),(10,.box 49 (qn X ((lo+hi) / 2)))]⟩ ?_ (fun sG=>?_)
   ·refine o8 [3] (by kernel_rfl) rfl ?_;refine ⟨⟨_,rfl,?_⟩,Pe⟩
    ·exact mW rfl<|mT<|anyV oG 4 [] (by kernel_rfl) (wkr rfl rfl)
   refine jA 5 #[true,true,true,true,true,true,true,false,false,false,false,false] ⟨40,[(0,.d (.one (.row 4 (lg c) (aJ K (rc c))))),(1,.d (.one (aX (aZ c KC) (fun L=>bn KC L)))),(6,.ptr 6 0),(7,.ptr 7 0),(10,.ptr 10 0),(29,.d (.one (.row 4 (lg c) (aJ K (rc c))))),(30,.d (.one (aX (aZ c KC) (fun L=>bn KC L)))),(34,.d (.one (.row 4 (lg c) (aJ K (rc c))))),(35,.d (.one (aX (aZ c KC) (fun L=>bn KC L)))),(31,.d (.agg (qn X lo))),(32,.d (.agg (qn X ((lo+hi) / 2)))),(33,.own 33)],[(6,.box 49 (qn X lo)),(7,.box 49 (qn X hi)),(10,.box 49 (qn X ((lo+hi) / 2))),(33,.row 51 10 l1.length (vY K c KC X l1))]⟩ ?_ (fun IC=>?_)
   ·refine o8 [7,8] (by kernel_rfl) rfl ?_;refine ⟨⟨_,rfl,?_⟩,⟨_,rfl,?_⟩,Pe⟩
    ·exact mW rfl<|mT<|anyV y9 8 [] (by kernel_rfl) (wkr rfl rfl)
    ·exact mW rfl<|mT<|anyV y8 7 [] (by kernel_rfl) (wkr rfl rfl)
   refine jA 5 #[true,true,true,true,false,true,true,false,true,false,false,false] ⟨40,[(0,.d (.one (.row 4 (lg c) (aJ K (rc c))))),(1,.d (.one (aX (aZ c KC) (fun L=>bn KC L)))),(6,.ptr 6 0),(7,.ptr 7 0),(10,.ptr 10 0),(29,.d (.one (.row 4 (lg c) (aJ K (rc c))))),(30,.d (.one (aX (aZ c KC) (fun L=>bn KC L)))),(34,.d (.one (.row 4 (lg c) (aJ K (rc c))))),(35,.d (.one (aX (aZ c KC) (fun L=>bn KC L)))),(31,.d (.agg (qn X lo))),(32,.d (.agg (qn X ((lo+hi) / 2)))),(37,.d (.agg (qn X hi)))],[(6,.box 49 (qn X lo)),(7,.box 49 (qn X hi)),(10,.box 49 (qn X ((lo+hi) / 2)))]⟩ ?_ (fun sH=>?_)
   ·refine o8 [4,7] (by kernel_rfl) rfl ?_;refine ⟨⟨_,rfl,?_⟩,⟨_,rfl,?_⟩,Pe⟩
    ·exact mCR cl1 rfl rfl rfl rfl rfl<|mT<|anyV y8 7 [] (by kernel_rfl) (wkr rfl rfl)
    ·exact mW rfl<|mT<|anyV oG 4 [] (by kernel_rfl) (wkr rfl rfl)
   refine jA 5 #[true,true,false,true,false,true,true,true,true,false,false,false] ⟨40,[(0,.d (.one (.row 4 (lg c) (aJ K (rc c))))),(1,.d (.one (aX (aZ c KC) (fun L=>bn KC L)))),(6,.ptr 6 0),(7,.ptr 7 0),(10,.ptr 10 0),(29,.d (.one (.row 4 (lg c) (aJ K (rc c))))),(30,.d (.one (aX (aZ c KC) (fun L=>bn KC L)))),(34,.d (.one (.row 4 (lg c) (aJ K (rc c))))),(35,.d (.one (aX (aZ c KC) (fun L=>bn KC L)))),(32,.d (.agg (qn X ((lo+hi) / 2)))),(36,.d (.agg (qn X ((lo+hi) / 2)))),(37,.d (.agg (qn X hi)))],[(6,.box 49 (qn X lo)),(7,.box 49 (qn X hi)),(10,.box 49 (qn X ((lo+hi) / 2)))]⟩ ?_ (fun sF=>?_)
   ·refine o8 [2] (by kernel_rfl) rfl ?_;refine ⟨⟨_,rfl,?_⟩,Pe⟩
    ·exact mW rfl<|mT<|anyV oG 4 [] (by kernel_rfl) (wkr rfl rfl)
   refine jA 6 #[true,true,false,true,false,true,true,true,false,false,false,false] ⟨40,[(0,.d (.one (.row 4 (lg c) (aJ K (rc c))))),(1,.d (.one (aX (aZ c KC) (fun L=>bn KC L)))),(6,.ptr 6 0),(7,.ptr 7 0),(10,.ptr 10 0),(29,.d (.one (.row 4 (lg c) (aJ K (rc c))))),(30,.d (.one (aX (aZ c KC) (fun L=>bn KC L)))),(34,.d (.one (.row 4 (lg c) (aJ K (rc c))))),(35,.d (.one (aX (aZ c KC) (fun L=>bn KC L)))),(32,.d (.agg (qn X ((lo+hi) / 2)))),(36,.d (.agg (qn X ((lo+hi) / 2))))],[(6,.box 49 (qn X lo)),(7,.box 49 (qn X hi)),(10,.box 49 (qn X ((lo+hi) / 2)))]⟩ ?_ (fun yX=>?_)
   ·refine o8 [2,8] (by kernel_rfl) rfl ?_;refine ⟨⟨_,rfl,?_⟩,⟨_,rfl,?_⟩,Pe⟩
    ·exact mW rfl<|mT<|anyV sJ 4 [8] (by kernel_rfl) (wkr rfl rfl)
    ·exact mW rfl<|mT<|anyV sF 2 [] (by kernel_rfl) (wkr rfl rfl)
   refine jA 6 #[true,true,true,false,false,true,true,false,true,false,false,false] ⟨40,[(0,.d (.one (.row 4 (lg c) (aJ K (rc c))))),(1,.d (.one (aX (aZ c KC) (fun L=>bn KC L)))),(6,.ptr 6 0),(7,.ptr 7 0),(10,.ptr 10 0),(29,.d (.one (.row 4 (lg c) (aJ K (rc c))))),(30,.d (.one (aX (aZ c KC) (fun L=>bn KC L)))),(34,.d (.one (.row 4 (lg c) (aJ K (rc c))))),(35,.d (.one (aX (aZ c KC) (fun L=>bn KC L)))),(31,.d (.agg (qn X lo))),(37,.d (.agg (qn X hi)))],[(6,.box 49 (qn X lo)),(7,.box 49 (qn X hi)),(10,.box 49 (qn X ((lo+hi) / 2)))]⟩ ?_ (fun yY=>?_)
   ·refine o8 [3,7] (by kernel_rfl) rfl ?_;refine ⟨⟨_,rfl,?_⟩,⟨_,rfl,?_⟩,Pe⟩
    ·exact mW rfl<|mT<|anyV sH 4 [7] (by kernel_rfl) (wkr rfl rfl)
    ·exact mW rfl<|mT<|anyV sG 3 [] (by kernel_rfl) (wkr rfl rfl)
   refine jA 6 #[true,true,true,false,false,true,true,true,false,false,false,false] ⟨40,[(0,.d (.one (.row 4 (lg c) (aJ K (rc c))))),(1,.d (.one (aX (aZ c KC) (fun L=>bn KC L)))),(6,.ptr 6 0),(7,.ptr 7 0),(10,.ptr 10 0),(29,.d (.one (.row 4 (lg c) (aJ K (rc c))))),(30,.d (.one (aX (aZ c KC) (fun L=>bn KC L)))),(34,.d (.one (.row 4 (lg c) (aJ K (rc c))))),(35,.d (.one (aX (aZ c KC) (fun L=>bn KC L)))),(31,.d (.agg (qn X lo))),(36,.d (.agg (qn X ((lo+hi) / 2))))],[(6,.box 49 (qn X lo)),(7,.box 49 (qn X hi)),(10,.box 49 (qn X ((lo+hi) / 2)))]⟩ ?_ (fun yZ=>?_)
   ·refine o8 [3,8] (by kernel_rfl) rfl ?_;refine ⟨⟨_,rfl,?_⟩,⟨_,rfl,?_⟩,Pe⟩
    ·exact mW rfl<|mT<|anyV sJ 4 [8] (by kernel_rfl) (wkr rfl rfl)
    ·exact mW rfl<|mT<|anyV sG 3 [] (by kernel_rfl) (wkr rfl rfl)
   refine jA 6 #[true,true,true,true,false,true,true,false,false,false,false,false] ⟨40,[(0,.d (.one (.row 4 (lg c) (aJ K (rc c))))),(1,.d (.one (aX (aZ c KC) (fun L=>bn KC L)))),(6,.ptr 6 0),(7,.ptr 7 0),(10,.ptr 10 0),(29,.d (.one (.row 4 (lg c) (aJ K (rc c))))),(30,.d (.one (aX (aZ c KC) (fun L=>bn KC L)))),(34,.d (.one (.row 4 (lg c) (aJ K (rc c))))),(35,.d (.one (aX (aZ c KC) (fun L=>bn KC L)))),(31,.d (.agg (qn X lo))),(32,.d (.agg (qn X ((lo+hi) / 2))))],[(6,.box 49 (qn X lo)),(7,.box 49 (qn X hi)),(10,.box 49 (qn X ((lo+hi) / 2)))]⟩ ?_ (fun y7=>?_)
   ·refine o8 [4,7,8] (by kernel_rfl) rfl ?_;refine ⟨⟨_,rfl,?_⟩,⟨_,rfl,?_⟩,⟨_,rfl,?_⟩,Pe⟩
    ·exact mCR cl1 rfl rfl rfl rfl rfl<|mT<|anyV IC 7 [8] (by kernel_rfl) (wkr rfl rfl)
    ·exact mW rfl<|mT<|anyV sJ 4 [8] (by kernel_rfl) (wkr rfl rfl)
    ·exact mW rfl<|mT<|anyV sH 4 [7] (by kernel_rfl) (wkr rfl rfl)
   refine jA 6 #[true,true,false,false,false,true,true,true,true,false,false,false] ⟨40,[(0,.d (.one (.row 4 (lg c) (aJ K (rc c))))),(1,.d (.one (aX (aZ c KC) (fun L=>bn KC L)))),(6,.ptr 6 0),(7,.ptr 7 0),(10,.ptr 10 0),(29,.d (.one (.row 4 (lg c) (aJ K (rc c))))),(30,.d (.one (aX (aZ c KC) (fun L=>bn KC L)))),(34,.d (.one (.row 4 (lg c) (aJ K (rc c))))),(35,.d (.one (aX (aZ c KC) (fun L=>bn KC L)))),(36,.d (.agg (qn X ((lo+hi) / 2)))),(37,.d (.agg (qn X hi)))],[(6,.box 49 (qn X lo)),(7,.box 49 (qn X hi)),(10,.box 49 (qn X ((lo+hi) / 2)))]⟩ ?_ (fun yU=>?_)
   ·refine o8 [2,3] (by kernel_rfl) rfl ?_;refine ⟨⟨_,rfl,?_⟩,⟨_,rfl,?_⟩,Pe⟩
    ·exact mW rfl<|mT<|anyV sG 3 [] (by kernel_rfl) (wkr rfl rfl)
    ·exact mW rfl<|mT<|anyV sF 2 [] (by kernel_rfl) (wkr rfl rfl)
   refine jA 6 #[true,true,false,true,false,true,true,false,true,false,false,false] ⟨40,[(0,.d (.one (.row 4 (lg c) (aJ K (rc c))))),(1,.d (.one (aX (aZ c KC) (fun L=>bn KC L)))),(6,.ptr 6 0),(7,.ptr 7 0),(10,.ptr 10 0),(29,.d (.one (.row 4 (lg c) (aJ K (rc c))))),(30,.d (.one (aX (aZ c KC) (fun L=>bn KC L)))),(34,.d (.one (.row 4 (lg c) (aJ K (rc c))))),(35,.d (.one (aX (aZ c KC) (fun L=>bn KC L)))),(32,.d (.agg (qn X ((lo+hi) / 2)))),(37,.d (.agg (qn X hi)))],[(6,.box 49 (qn X lo)),(7,.box 49 (qn X hi)),(10,.box 49 (qn X ((lo+hi) / 2)))]⟩ ?_ (fun yV=>?_)
   ·refine o8 [2,7] (by kernel_rfl) rfl ?_;refine ⟨⟨_,rfl,?_⟩,⟨_,rfl,?_⟩,Pe⟩
    ·exact mW rfl<|mT<|anyV sH 4 [7] (by kernel_rfl) (wkr rfl rfl)
    ·exact mW rfl<|mT<|anyV sF 2 [] (by kernel_rfl) (wkr rfl rfl)
   refine jA 7 #[true,true,true,false,false,true,true,false,false,false,false,false] ⟨40,[(0,.d (.one (.row 4 (lg c) (aJ K (rc c))))),(1,.d (.one (aX (aZ c KC) (fun L=>bn KC L)))),(6,.ptr 6 0),(7,.ptr 7 0),(10,.ptr 10 0),(29,.d (.one (.row 4 (lg c) (aJ K (rc c))))),(30,.d (.one (aX (aZ c KC) (fun L=>bn KC L)))),(34,.d (.one (.row 4 (lg c) (aJ K (rc c))))),(35,.d (.one (aX (aZ c KC) (fun L=>bn KC L)))),(31,.d (.agg (qn X lo)))],[(6,.box 49 (qn X lo)),(7,.box 49 (qn X hi)),(10,.box 49 (qn X ((lo+hi) / 2)))]⟩ ?_ (fun IB=>?_)
   ·refine o8 [3,7,8] (by kernel_rfl) rfl ?_;refine ⟨⟨_,rfl,?_⟩,⟨_,rfl,?_⟩,⟨_,rfl,?_⟩,Pe⟩
    ·exact mW rfl<|mT<|anyV y7 4 [7,8] (by kernel_rfl) (wkr rfl rfl)
    ·exact mW rfl<|mT<|anyV yZ 3 [8] (by kernel_rfl) (wkr rfl rfl)
    ·exact mW rfl<|mT<|anyV yY 3 [7] (by kernel_rfl) (wkr rfl rfl)
   refine jA 7 #[true,true,false,true,false,true,true,false,false,false,false,false] ⟨40,[(0,.d (.one (.row 4 (lg c) (aJ K (rc c))))),(1,.d (.one (aX (aZ c KC) (fun L=>bn KC L)))),(6,.ptr 6 0),(7,.ptr 7 0),(10,.ptr 10 0),(29,.d (.one (.row 4 (lg c) (aJ K (rc c))))),(30,.d (.one (aX (aZ c KC) (fun L=>bn KC L)))),(34,.d (.one (.row 4 (lg c) (aJ K (rc c))))),(35,.d (.one (aX (aZ c KC) (fun L=>bn KC L)))),(32,.d (.agg (qn X ((lo+hi) / 2))))],[(6,.box 49 (qn X lo)),(7,.box 49 (qn X hi)),(10,.box 49 (qn X ((lo+hi) / 2)))]⟩ ?_ (fun Iz=>?_)
   ·refine o8 [2,7,8] (by kernel_rfl) rfl ?_;refine ⟨⟨_,rfl,?_⟩,⟨_,rfl,?_⟩,⟨_,rfl,?_⟩,Pe⟩
    ·exact mW rfl<|mT<|anyV y7 4 [7,8] (by kernel_rfl) (wkr rfl rfl)
    ·exact mW rfl<|mT<|anyV yX 2 [8] (by kernel_rfl) (wkr rfl rfl)
    ·exact mW rfl<|mT<|anyV yV 2 [7] (by kernel_rfl) (wkr rfl rfl)
   refine jA 7 #[true,true,false,false,false,true,true,false,true,false,false,false] ⟨40,[(0,.d (.one (.row 4 (lg c) (aJ K (rc c))))),(1,.d (.one (aX (aZ c KC) (fun L=>bn KC L)))),(6,.ptr 6 0),(7,.ptr 7 0),(10,.ptr 10 0),(29,.d (.one (.row 4 (lg c) (aJ K (rc c))))),(30,.d (.one (aX (aZ c KC) (fun L=>bn KC L)))),(34,.d (.one (.row 4 (lg c) (aJ K (rc c))))),(35,.d (.one (aX (aZ c KC) (fun L=>bn KC L)))),(37,.d (.agg (qn X hi)))],[(6,.box 49 (qn X lo)),(7,.box 49 (qn X hi)),(10,.box 49 (qn X ((lo+hi) / 2)))]⟩ ?_ (fun Iw=>?_)
   ·refine o8 [2,3,7] (by kernel_rfl) rfl ?_;refine ⟨⟨_,rfl,?_⟩,⟨_,rfl,?_⟩,⟨_,rfl,?_⟩,Pe⟩
    ·exact mW rfl<|mT<|anyV yY 3 [7] (by kernel_rfl) (wkr rfl rfl)
    ·exact mW rfl<|mT<|anyV yV 2 [7] (by kernel_rfl) (wkr rfl rfl)
    ·exact mW rfl<|mT<|anyV yU 2 [3] (by kernel_rfl) (wkr rfl rfl)
   refine jA 7 #[true,true,false,false,false,true,true,true,false,false,false,false] ⟨40,[(0,.d (.one (.row 4 (lg c) (aJ K (rc c))))),(1,.d (.one (aX (aZ c KC) (fun L=>bn KC L)))),(6,.ptr 6 0),(7,.ptr 7 0),(10,.ptr 10 0),(29,.d (.one (.row 4 (lg c) (aJ K (rc c))))),(30,.d (.one (aX (aZ c KC) (fun L=>bn KC L)))),(34,.d (.one (.row 4 (lg c) (aJ K (rc c))))),(35,.d (.one (aX (aZ c KC) (fun L=>bn KC L)))),(36,.d (.agg (qn X ((lo+hi) / 2))))],[(6,.box 49 (qn X lo)),(7,.box 49 (qn X hi)),(10,.box 49 (qn X ((lo+hi) / 2)))]⟩ ?_ (fun Iy=>?_)
   ·refine o8 [2,3,8] (by kernel_rfl) rfl ?_;refine ⟨⟨_,rfl,?_⟩,⟨_,rfl,?_⟩,⟨_,rfl,?_⟩,Pe⟩
    ·exact mW rfl<|mT<|anyV yZ 3 [8] (by kernel_rfl) (wkr rfl rfl)
    ·exact mW rfl<|mT<|anyV yX 2 [8] (by kernel_rfl) (wkr rfl rfl)
    ·exact mW rfl<|mT<|anyV yU 2 [3] (by kernel_rfl) (wkr rfl rfl)
   refine o8 [2,3,7,8] (by kernel_rfl) rfl ?_;refine ⟨⟨_,rfl,?_⟩,⟨_,rfl,?_⟩,⟨_,rfl,?_⟩,⟨_,rfl,?_⟩,Pe⟩
   ·exact mW rfl<|mT<|anyV IB 3 [7,8] (by kernel_rfl) (wkr rfl rfl)
   ·exact mW rfl<|mT<|anyV Iz 2 [7,8] (by kernel_rfl) (wkr rfl rfl)
   ·exact mW rfl<|mT<|anyV Iy 2 [3,8] (by kernel_rfl) (wkr rfl rfl)
   ·exact mW rfl<|mT<|anyV Iw 2 [3,7] (by kernel_rfl) (wkr rfl rfl)
theorem agG{c:Nat→Int}{KC:Nat}{L:List (Nat→Int)}(h:aZ c KC L)(a b:Rat)(hab:a≤b):gI c a b≤1000000:=by
 obtain ⟨h1,_,_⟩:=h.cnt hab;obtain ⟨_,hl⟩:=h.len;have h2:vr (Gm L a)≤L.length:=by have:=OG (Gm L a) 0;unfold Gm at this;rw [List.length_map] at this;exact this
 omega
theorem acn{K KC X L JM h1:Nat}{c:Nat→Int}(hC:zS c)(b1:∀ i,(c i).natAbs≤2^h1)(hcb:∀ a b,a≤b→gI c a b≤1000000)(hX:3*(3*L+JM / 32+1)≤X)(hX1:X≤90000)(hK:K≤100000)(nU:KC≤100000):∀ (d J:Nat) (lo hi:Rat),SpI c h1 L J d lo hi→J+d≤JM→wZ Tryz.prog 62 [.one (dM K (lg c) (rc c)),.one (aX (aZ c KC) (fun L=>bn KC L)),.agg (qn X lo),.agg (qn X hi)] 51 10 (LP c (d+1) lo hi).length (vY K c KC X (LP c (d+1) lo hi)):=by
 intro d
 induction d with
 | zero=>exact fun J lo hi hI hJ=>OZ hC b1 hcb hI hJ hX hX1 hK nU (fun d' e=>by omega)
 | succ d ih=>exact fun J lo hi hI hJ=>OZ hC b1 hcb hI hJ hX hX1 hK nU (fun d' e lo hi J k1 k2=>by obtain rfl:d'=d:=by {omega};exact ih J lo hi k1 k2)
/-- What is the callee's own row is a row. -/
theorem wZ.call{P:Program}{f:FuncId}{args:List DV}{e:TypeId}{sz n:Nat}{el:Nat→Nat→Lf}(h:wZ P f args e sz n el):aC P f args (.d (.one (.row sz n el))):=⟨h.en,fun B w vs hB hd=>(h.go B w vs hB hd).mono (by
 rintro r w' ⟨v,rfl,hb,xs,⟨⟨hxl,hown⟩,hbk⟩,hel⟩;refine ⟨v,rfl,hb,?_⟩
 rcases hown with ⟨rfl,h0⟩ | ⟨g,cap,cur,rfl,hge,hblk,hn,hm,hsz',htk⟩
 ·subst h0
  exact ⟨none,0,rfl,abJ _,fun _=>rfl,fun i hi=>absurd hi (ab2 _)⟩
 ·refine ⟨some ⟨g,0,none⟩,cap,rfl,hn,fun h=>(by cases h),fun i hi=>⟨g,0,rfl,fun hb2=>?_,lt_of_block hblk,fun j hj=>?_⟩⟩
  ·have:=hB g hb2
   have h9:w.heap.size≤g:=(hbk g rfl).resolve_right id;omega
  ·obtain ⟨x,hx1,hx2⟩:=hel i j hi hj
   refine ⟨x,?_,dY.mv ⟨abJ _,fun _ _ _=>rfl⟩ (fun b _ hb=>Or.inl hb) _ hx2⟩;rw [Nat.zero_add,cell_of_row w' g _ cur _ (0,0) hblk,← Array.getElem?_toList];rw [← htk,List.getElem?_take] at hx1;split at hx1
   ·exact hx1
   ·cases hx1)⟩
theorem aj8{α:Type}{Qx:α→Prop}{L:α→Lf}{s:AS}(t:Nat)(h:lk s.sl t=some (.d (.one (aX Qx L)))):∀ B0 w0 a w,Kv s B0 w0 a w→∃ x,Qx x:=by
 rintro B0 w0 a w ⟨ρ,_,_,_,hs⟩;obtain ⟨v,_,x,hq,_⟩:=hs t _ h;exact ⟨x,hq⟩
theorem Vk(t:Rat):Pm (lg (kW t)) (kW t):=by
 refine ⟨(sS t).ip,by rw [oL];decide,by rw [oL];exact ahG t,?_⟩;rw [oL];show 0 < (t.den:Int)
 have:=t.den_pos;omega
theorem Vm(t:Rat):∃ M,wS (kW t) M (kW t):=by
 obtain ⟨M,_,hM⟩:=KW (sS t);exact ⟨M,Ei (sS t) hM (Vk t) (aae t)⟩
theorem adz(t:Rat):fG (kW t)=kW t:=let ⟨_,h⟩:=Vm t;h.eq.symm
theorem TD{z:Int}{n:Nat}(h:z.natAbs∣n)(h1:n=1):z.natAbs=1:=by subst h1;exact Nat.dvd_one.1 h
/-- A divisor of a linear polynomial. -/
theorem UY{c:Nat→Int}{K:Nat}(z:bC c)(hl:lg c=2)(hb:Db K c)(hK:1≤K):Gp c K:=by
 intro g zg hg hd;have h0:lg c≠0:=by omega
 obtain ⟨hg0,hgl⟩:=l9 z zg h0 hd;obtain ⟨W,pW,hW⟩:=hd;obtain ⟨w,k,hw,hc,_⟩:=nT z.lg zg.lg hg pW (fun x=>by rw [iO z,iO zg];exact hW x);have zw:=LH zg z hg0 hw hc;obtain ⟨hlq,_⟩:=BQ zw zg z hc hg0;have one:(1:Nat) < B4^K:=acC (by decide) (ab1 (show 0 < B4 by decide) hK)
 by_cases h1:lg g=1
 ·intro i
  by_cases hi:i=0
  ·subst hi
   have hd2:(g 0).natAbs∣bF g (lg g):=wC fun i hi=>by
    obtain rfl:i=0:=by omega
    exact Nat.dvd_refl _
   rw [TD hd2 hg];exact one
  ·rw [zg.lg i (by omega)];omega
 ·have hw1:lg w=1:=by omega
  have hw0:=lu (c:=w) (by omega);rw [hw1] at hw0;have hFw:∀ x,FF w x=(w 0:Rat):=fun x=>by rw [← iO zw,hw1];exact zG
  have hF:∀ i,c i=w 0*g i:=by
   have e:∀ x,FF c x=FF (iW g (w 0)) x:=fun x=>by
    rw [XE,← hFw x,← show aY w g=c from funext hc,qW zw.lg zg.lg (by have:=dO g;omega) zw zg];exact aiF _ _
   intro i;have:=H6 z (OI zg) e i;rw [this];unfold iW;exact Int.mul_comm _ _
  intro i;refine aeV ?_ (hb i);rw [hF i,Int.natAbs_mul];exact aht _ (by have:w 0≠0:=hw0;omega)
theorem NJ{X:Nat}{t:Rat}(h:Qb X t):Db X (kW t):=fun i=>by
 match i with
 | 0=>show (-t.num).natAbs < _;rw [Int.natAbs_neg];exact h.1
 | 1=>show (t.den:Int).natAbs < _;exact h.2
 | i+2=>rw [zB t (i+2) (by omega)];exact aeA (by decide)
theorem wS.l2{c f:Nat→Int}{M:Nat}(h:wS c M f)(zc:bC c)(h2:2≤lg c):2≤lg f:=by
 apply abP;intro hn;have h1:lg f=1:=by have:=h.ne;omega
 obtain ⟨κ,hκ,hk⟩:=lW h.z h1;obtain ⟨N,w,pw,e⟩:=h.pw;have hp:κ^N≠0:=by
  intro k;have:∀ n:Nat,κ^n≠0:=fun n=>by
   induction n with
   | zero=>rw [Rat.pow_zero];decide
   | succ n ih=>rw [Rat.pow_succ];intro k;rcases aiN.1 k with k | k;exact ih k;exact hκ k
  exact this N k
 have hd:Dv (FF c) (FF (iM 1)):=⟨fun x=>w x*(κ^N)⁻¹,pw.yG _,fun x=>by
  have h9:=e x;rw [hk] at h9;rw [xW];have:=Rat.inv_mul_cancel _ hp;grind⟩
 have:=(l9 jV zc (by rw [oN];decide) hd).2;rw [oN] at this;omega
theorem YA{c:Nat→Int}{M:Nat}(h:wS c M (fG c))(zc:bC c)(h2:2≤lg c):zS (fG c):=SB h.z (h.l2 zc h2) h.sq
theorem adA{K X:Nat}{t:Rat}(h:Qb X t)(hX:1≤X):AV.le (.d (.one (.row 4 2 (fun i' j'=>((qn K (-(dQ t.num 1)) ++qn K (dQ (t.den:Int) 1))[i'*4+j']?).getD (.v undef))))) (.d (.one (dM X (lg (kW t)) (rc (kW t))))):=by
 refine AV.le.trans (b:= .d (.one (dM K 2 (rc (kW t))))) (gq (nN fun i hi j hj=>?_)) (by
  have h9:=jc (K:=K) (n:=2) hX (NJ h);rw [oL];exact h9)
 have e0: -(dQ t.num 1)=rc (kW t) 0:=by rw [jE];show -((t.num:Int):Rat)=((-t.num:Int):Rat);rw [Rat.intCast_neg]
 have e1:dQ (t.den:Int) 1=rc (kW t) 1:=by rw [jE];rfl
 rw [e0,e1]
 match i,hi with
 | 0,_=>match j,hj with
  | 0,_=>exact fun _ _ _ h=>h
  | 1,_=>exact fun _ _ _ h=>h
  | 2,_=>exact fun _ _ _ h=>h
  | 3,_=>exact fun _ _ _ h=>h
 | 1,_=>match j,hj with
  | 0,_=>exact fun _ _ _ h=>h
  | 1,_=>exact fun _ _ _ h=>h
  | 2,_=>exact fun _ _ _ h=>h
  | 3,_=>exact fun _ _ _ h=>h
theorem OY{K M KC N Ms:Nat}{c:Nat→Int}(zc:bC c)(h2:2≤lg c)(hN:N≤10)(FU:lg c≤N)(wE:1≤M)(hM1:1≤M)(hB:Gp c M)(hK1:1≤K)(hK:K≤100000)(nU:(M+2)*(2*3^N)≤KC)(hC:KC≤90000)(hS:wS c Ms (fG c)):aC Tryz.prog 39 [.one (dM K (lg c) (rc c))] (.d (.one (aX (aZ (fG c) KC) (fun L=>bn KC L)))):=
 aC.le (dl DV.same iP) (gq (Dl fun L h=>⟨L,h.q,fun _ _ _ h=>h⟩)) (ach zc h2 hN FU wE hM1 hB hK1 hK nU hC hS)
theorem Ic{K M KC N Ms:Nat}{c:Nat→Int}(zc:bC c)(h2:2≤lg c)(hN:N≤10)(FU:lg c≤N)(wE:1≤M)(hM1:1≤M)(hB:Gp c M)(hK1:1≤K)(hK:K≤100000)(nU:(M+2)*(2*3^N)≤KC)(hC:KC≤90000)(hS:wS c Ms c):aC Tryz.prog 39 [.one (dM K (lg c) (rc c))] (.d (.one (aX (aZ c KC) (fun L=>bn KC L)))):=by
 have e:=hS.eq.symm;have h:=OY zc h2 hN FU wE hM1 hB hK1 hK nU hC hS.self;rwa [e] at h
theorem Uu{K M KC N X h1 Ms:Nat}{c:Nat→Int}(zc:bC c)(h2:2≤lg c)(hN:N≤10)(FU:lg c≤N)(wE:1≤M)(hM1:1≤M)(hB:Gp c M)(hK1:1≤K)(hK:K≤100000)(nU:(M+2)*(2*3^N)≤KC)(hC:KC≤90000)(hS:wS c Ms (fG c))(b1:∀ i,(fG c i).natAbs≤2^h1)(hX:3*(3*(M+100)+rtD (fG c) h1 / 32+1)≤X:=by omega)(hX1:X≤90000:=by decide):aC Tryz.prog 33 [.one (dM K (lg c) (rc c))] (.d (.one (aX (fun l=>l=rtF (fG c) h1∧l.length≤1000000) (fun l=> .row 10 l.length (vY M (fG c) KC X l))))):=by
 have hlc:=dO c;have hMK:M+2≤KC:=acS (aeT _ (agQ (by decide) (aeA (by decide)))) nU;have l2:=hS.l2 zc h2;have hCn:=YA hS zc h2;refine aN 18 [.tmp 2] Tryz.func33 rfl<|cR<|mW rfl<|mT<|cR<|mW rfl<|mY (O0 (M:=M) (KC:=KC) (N:=N) zc h2 hN FU wE hM1 hB hK1 hK nU hC) rfl<|mW rfl<|mT<|cR<|mW rfl<|mY (OY (M:=M) (KC:=KC) (N:=N) zc h2 hN FU wE hM1 hB hK1 hK nU hC hS) rfl<|mW rfl<|mT<|cR<|mW rfl<|mY (acg (Y:=(2*M+200)) hS.z l2 wE (by omega) (abJ _)) rfl<|mO rfl<|mZ rfl<|mT<|au<|AW.fact (ank 11 rfl) (fun hqb=>?_);have hT:Tb (M+100) (Ce (fG c)):=Qb.tb (K:=M+100) (iZ hqb (by omega)) (abJ _);refine AW.fact (aj8 4 rfl) (fun hex=>?_);obtain ⟨Lc,hLc⟩:=hex;have hcb:=agG hLc;exact wB [5,11,10,4,9,8,3,7,6,2,0] [] 5 (.box 49 (qn X (Ce (fG c)))) rfl rfl (Tq (by omega) rfl) rfl<|cDk 7<|.cons (aB.V _ rfl)<|.cons (aB.V _ rfl)<|oV rfl<|oC (RY (l7 X (Ce (fG c)))) rfl<|oV rfl<|oC ((acn (K:=M) (KC:=KC) (X:=X) (L:=M+100) (JM:=rtD (fG c) h1) (h1:=h1) (c:=fG c) hCn b1 hcb hX hX1 (by omega) (by omega) (rtD (fG c) h1) 0 (-(Ce (fG c))) (Ce (fG c)) (Jy hCn b1 hT) (by omega)).call) rfl<|.cons (aB.V _ rfl)<|.nil<|mT<|aH<|rQ rfl (lT (Q:=fun l=>l=rtF (fG c) h1∧l.length≤1000000) (L:=fun l=> .row 10 l.length (vY M (fG c) KC X l)) (rtF (fG c) h1) ⟨rfl,by rw [(afC hCn b1 hT).len];exact hcb _ _ (Jy hCn b1 hT).le⟩)
theorem xu{X KC:Nat}{t:Rat}(hX64:64≤X:=by decide)(nU:18*(X+2)≤KC:=by decide)(hC:KC≤90000:=by decide):aC Tryz.prog 18 [.agg (qn X t)] (.d (.agg ([.row 4 (lg (kW t)) (aJ X (rc (kW t)))] ++ [aX (aZ (kW t) KC) (fun L=>bn KC L)] ++qn X t ++qn X t))):=by
 refine aC.nH (fJ Tryz.func18 rfl rfl) (p:=Qb X t) (fun B w vs h=>match vs,h with | [_],⟨⟨cs,_,hl⟩,_⟩=>Oi hl) (fun hb=>?_);obtain ⟨Ms,hS⟩:=Vm t;exact aN 20 [.cell 2 51] Tryz.func18 rfl<|cR<|mO rfl<|mO rfl<|mT<|au<|cDk 11<|oE 2 rfl<|oC Gh rfl<|oC (o7 (fV X (Rat.num t)) (fV 64 1) (M:=(max X (max 64 64)))) rfl<|oC (RY (l7 (max X (max 64 64)) (dQ (Rat.num t) 1))) rfl<|oE 2 rfl<|oC Gh rfl<|oC (o7 (fV X (Rat.den t:Int)) (fV 64 1) (M:=(max X (max 64 64)))) rfl<|.cons (aB.B _ rfl)<|.cons (aB.V _ rfl)<|.nil<|mT<|au<|iV 3 (.d (.one (.row 4 (lg (kW t)) (aJ X (rc (kW t)))))) rfl (adA hb (by omega))<|cDk 6<|.cons (aB.V _ rfl)<|.cons (aB.V _ rfl)<|oC (Ic (M:=X) (KC:=KC) (N:=2) (sS t) (by rw [oL];exact abJ 2) (by decide) (by rw [oL];exact abJ 2) (by omega) (by omega) (UY (sS t) (oL t) (NJ hb) (by omega)) (by omega) (by omega) (by omega) (by omega) hS) rfl<|oE 3 rfl<|.nil<|mZ rfl<|mT<|aH<|rQ rfl (AV.le.rfl)
theorem aeM{a:List Lf}{K:Nat}{q:Rat}(hq:Rz a K q)(hK:K≤10000000:=by first|decide|omega):aC Tryz.prog 31 [.agg a] (.d (.agg (tn K q))):=by
 exact aC.le (dl (DV.g hq) iP) AV.le.rfl<|aN 10 [.cell 2 38] Tryz.func31 rfl<|cR<|mO rfl<|mO rfl<|mT<|au<|cDk 7<|oE 2 rfl<|oC (agu (fV K (Rat.num q))) rfl<|oE 2 rfl<|oC (agu (fV K (Rat.den q:Int))) rfl<|oV rfl<|.nil<|mZ rfl<|mT<|aH<|rQ rfl (Tn (abJ _) (abJ _) rfl rfl)
theorem adK(c:Nat→Int):adJ (rc c)=c:=funext fun i=>Rat.num_intCast (c i)
theorem ajx{K:Nat}{c:Nat→Int}(zc:bC c)(hK:K≤1000000):aC Tryz.prog 30 [.one (dM K (lg c) (rc c))] (.d (.one (iC K (lg c) c))):=by
 have hlc:=dO c;have h:=am9 (yE (K:=K) (n:=lg c) (c:=rc c) (qM zc.lg)) (by omega) (by omega);rwa [adK] at h
theorem O1{L M:Nat}{q:Rat}(hM:max (3*L) 64≤M:=by omega)(wU:M≤10000000:=by omega):aC Tryz.prog 40 [.agg (tn L q)] (.d (.agg (qn M q))):=by
 have h:=acs (uS L q) hM wU;rwa [jJ] at h
theorem KE{K KC X:Nat}{c:Nat→Int}{lo hi:Rat}(zc:bC c)(hK:K≤1000000:=by first|decide|omega)(hX:X≤1000000:=by first|decide|omega):aC Tryz.prog 8 [.agg ([.row 4 (lg c) (aJ K (rc c))] ++ [aX (aZ c KC) (fun L=>bn KC L)] ++qn X lo ++qn X hi)] (.d (.agg ([.row 2 (lg c) (cO K c)] ++tn X lo ++tn X hi))):=by
 have hlc:=dO c;exact aN 13 [.cell 2 40] Tryz.func8 rfl<|cR<|mO rfl<|mO rfl<|mT<|au<|cDk 10<|oE 2 rfl<|oC (ajx (zc) (by omega)) rfl<|oE 2 rfl<|oC (aeM (l7 X lo)) rfl<|oE 2 rfl<|oC (aeM (l7 X hi)) rfl<|oV rfl<|.nil<|mZ rfl<|mT<|aH<|rQ rfl (AV.le.rfl)
theorem Md{K L M KC N X Ms:Nat}{c:Nat→Int}{lo hi:Rat}(zc:bC c)(hS:wS c Ms c)(h2:2≤lg c)(hN:N≤10)(FU:lg c≤N)(wE:1≤M)(hb:Db M c)(hB:Gp c M)(hK:K≤100000:=by decide)(nU:(M+2)*(2*3^N)≤KC:=by decide)(hC:KC≤90000:=by decide)(hX:max (3*L) 64≤X:=by decide)(hX1:X≤90000:=by decide):aC Tryz.prog 12 [.agg ([.row 2 (lg c) (cO K c)] ++tn L lo ++tn L hi)] (.d (.agg ([.row 4 (lg c) (aJ M (rc c))] ++ [aX (aZ c KC) (fun L=>bn KC L)] ++qn X ((AU c lo hi).1) ++qn X ((AU c lo hi).2)))):=by
 have hlc:=dO c;have hMK:M+2≤KC:=acS (aeT _ (agQ (by decide) (aeA (by decide)))) nU;exact aN 19 [.cell 2 51] Tryz.func12 rfl<|cR<|mO rfl<|mO rfl<|mT<|cR<|mE 2 rfl<|mY (agp (vF (K:=K) (c:=c) (bC.lg zc)) (M:=(max (3*K) 64))) rfl<|lD 6 (.d (.one (.row 4 (lg c) (aJ M (rc c))))) rfl (AV.le.trans (ql (uV zc.lg zc) (by omega) hb) AV.le.rfl)<|mY (qj zc) rfl<|mW rfl<|mT<|au<|iV 3 (.d (.one (.row 4 (lg c) (aJ M (rc c))))) rfl (AV.of_eq (by rw [oO zc fun _=>hS.pm];rfl))<|cDk 11<|.cons (aB.V _ rfl)<|.cons (aB.V _ rfl)<|oC (Ic (M:=M) (KC:=KC) (N:=N) zc h2 hN FU wE (by omega) hB (by omega) (by omega) nU hC hS) rfl<|oE 2 rfl<|oC (O1 (M:=X)) rfl<|oE 2 rfl<|oC (O1 (M:=X)) rfl<|oV rfl<|oC (Gu (zc)) rfl<|.nil<|mZ rfl<|mT<|aH<|rQ rfl (AV.le.rfl)
structure Gw(G X na nb:Nat):Prop where
 h:(X+1)*(max (na+2-nb) 1*3^nb)≤G
theorem Gw.bd{G X na nb:Nat}(h:Gw G X na nb):X+1≤G:=by
 have h1:=h.h;have h2:1≤max (na+2-nb) 1*3^nb:=agQ (by omega) (aeA (by decide));exact acS (aeT _ h2) h1
theorem Gw.step{G X na nb nr:Nat}(h:Gw G X na nb)(hr:nr < nb):Gw G (X+(na+1-nb)*(X+1)) nb nr:=by
 refine ⟨acS ?_ h.h⟩;have e:X+(na+1-nb)*(X+1)+1=(na+1-nb+1)*(X+1):=by rw [Nat.add_mul (na+1-nb) 1];omega
 rw [e];have h1:na+1-nb+1≤max (na+2-nb) 1:=by omega
 have h2:max (nb+2-nr) 1*3^nr≤3^nb:=by
  obtain ⟨k,rfl⟩:∃ k,nb=nr+k+1:=⟨nb-nr-1,by omega⟩
  have h3:max (nr+k+1+2-nr) 1=k+3:=by omega
  rw [h3];have h4:k+3≤3^(k+1):=by
   rcases aev k with h0 | h0
   ·subst h0;decide
   ·obtain ⟨j,rfl⟩:∃ j,k=j+1:=⟨k-1,by omega⟩
    have:=FC j;rw [Nat.pow_succ];omega
  rw [show nr+k+1=(k+1)+nr by omega,Nat.pow_add 3 (k+1) nr];exact abN _ h4
 calc (na+1-nb+1)*(X+1)*(max (nb+2-nr) 1*3^nr)≤max (na+2-nb) 1*(X+1)*3^nb:=ae0 (abN _ h1) h2
  _=(X+1)*(max (na+2-nb) 1*3^nb):=by rw [Nat.mul_comm (max (na+2-nb) 1) (X+1),Nat.mul_assoc]
theorem OE{p:Fn}{C:qO}(hC:eG C)(pp:Po p):VC p C↔Rl p C=0:=by
 refine ⟨zN,fun h=>?_⟩;rcases Hl hC pp with k | ⟨s,k⟩
 ·exact k
 ·have:=Oq hC k
  have:=k.pm hC;omega
theorem Ii{C C' D D':qO}(h:∀ q,C q↔C' q)(k:∀ q,D q↔D' q):dG C D=dG C' D':=by
 have e1:C=C':=funext fun q=>propext (h q)
 have e2:D=D':=funext fun q=>propext (k q)
 rw [e1,e2]
section
variable {c d y:Nat→Int} {lo hi p q:Rat}
theorem VW(hd:Dv (FF d) (FF c))(zd:bC d)(sc:AB (FF c) (FF (bP c))):AB (FF d) (FF (bP d)):=by
 obtain ⟨w,pw,e⟩:=hd;exact sc.dv (dh zd) pw (dh (fA zd)) (qH zd) (fun x=>by rw [e x];exact aiF _ _)
theorem abC{G:Nat→Int}{M:Nat}(o:vJ c lo hi)(hlt:lo < hi)(zy:bC y)(hg:oq y c M G)(hg0:lg G≠0)(h2:2≤lg G):decide (((gI G lo hi:Nat):Int) > 0)=decide (Rl (FF y) (bK c lo hi)=0):=by
 have hC:=SB hg.z h2 (VW hg.IV.db hg.z o.sq);obtain ⟨w,pw,e⟩:=hg.IV.db;have hf:=zh (o.ok.i hlt) hg.z pw (fun x=>by rw [e x];exact aiF _ _) h2 (show lo≤lo by grind) (show hi≤hi by grind) hlt;obtain ⟨s1,s2⟩:=QG o (by grind) zy hg hg0;have h0:=hC.free (show lo≤hi by grind);refine ahE.2 ⟨fun k=>s1 h2 (hf.2 fun r=>by have:=h0.2 r;omega),fun k=>?_⟩;apply abP;intro nk;have hr:=h0.1 (by omega);have hb:II G lo hi=false:=by rw [← Bool.not_eq_true];exact fun b=>hf.1 b hr
 exact s2 (fun _=>hb) ((OE o.ok.cut (dh zy)).2 k)
theorem Ui{G:Nat→Int}{M:Nat}(o:vJ c lo hi)(hlt:lo < hi)(zy:bC y)(hg:oq y c M G)(hg0:lg G≠0)(h2:¬ 2≤lg G):¬ Rl (FF y) (bK c lo hi)=0:=fun k=>(QG o (by grind) zy hg hg0).2 (fun h=>absurd h h2) ((OE o.ok.cut (dh zy)).2 k)
theorem vJ.cn(h:vJ c lo hi):zS c:=SB h.ok.z h.l2 h.sq
theorem vJ.cnt1(h:vJ c lo hi)(hlt:lo < hi):gI c lo hi=1:=GR h.ok.z (by grind) (h.ok.i hlt).one
/-- A root of the other's polynomial in the other's interval is the other. -/
theorem vJ.same(h:vJ c lo hi)(k:vJ d p q)(hlt:p < q)(hz:Rl (FF d) (bK c lo hi)=0)(h1:dG (bK c lo hi) (fO p) > 0)(h2:dG (bK c lo hi) (fO q)≤0):dG (bK c lo hi) (bK d p q)=0:=by
 have hC:=h.ok.cut;have c1:bK c lo hi p:=by
  apply abP;intro n;have:=(um hC (lQ p)).2 fun t ht=>hC.nb ht n
  omega
 have c2:¬ bK c lo hi q:=fun c2=>by
  have:=xC hC c2;omega
 exact kN fun t=>(k.cn.one (by grind) (k.cnt1 hlt) hC ((OE hC (dh k.ok.z)).2 hz) c1 c2 t).symm
/-- .. and else it is none. -/
theorem vJ.unlike(h:vJ c lo hi)(k:vJ d p q)(hlt:p < q)(hn:¬ (Rl (FF d) (bK c lo hi)=0∧dG (bK c lo hi) (fO p) > 0∧dG (bK c lo hi) (fO q)≤0)):dG (bK c lo hi) (bK d p q)≠0:=by
 intro e;have hC:=h.ok.cut;have hD:=k.ok.cut;have he:=vO e;refine hn ⟨(OE hC (dh k.ok.z)).1 (k.vc.cut he),?_,?_⟩
 ·have:=xC hC ((he p).2 (by rw [jS hlt];exact Or.inl (by grind)))
  omega
 ·exact (um hC (lQ q)).2 fun t ht=>k.ok.afp ((he t).1 ht)
end
theorem agq{K G:Nat}{c d:Nat→Int}(zc:bC c)(zd:bC d)(EW:lg c≤10)(hd10:lg d≤10)(hK1:1≤K)(hG:(K+1)*(max (lg c+2-lg d) 1*3^lg d)≤G)(hC:G≤90000):aC Tryz.prog 80 [.one (dM K (lg c) (rc c)),.one (dM K (lg d) (rc d))] (.d (.one (aX (oq c d (21*K+3)) (fun g=>dM (63*K+9) (lg g) (rc g))))):=by
 have hlc:=dO c;have hld:=dO d;have hKG:=(Gw.mk hG).bd;refine aC.nH (fJ Tryz.func80 rfl rfl) (p:=Db K c∧Db K d) (fun B w vs h=>match vs,h with | [_,_],⟨h1,h2,_⟩=>⟨ny zc.lg h1,ny zd.lg h2⟩) (fun hb=>?_);obtain ⟨hbc,hbd⟩:=hb;have lbc:Lb K c:=(hbc.mono (by omega)).lb;have lbd:Lb K d:=(hbd.mono (by omega)).lb;refine aN 18 [.tmp 4] Tryz.func80 rfl<|cR<|mW rfl<|mT<|cR<|mW rfl<|mY (qj zc) rfl<|mW rfl<|mY (qj zd) rfl<|mE 2 rfl<|mT<|au<|aI<|dU (ι:=Nat×(Nat→Int)×(Nat→Int)) (fun (p:Nat×(Nat→Int)×(Nat→Int))=>match p with | (X,a,b)=>⟨18,[(0,.d (.one (.row 4 (lg a) (aJ X (rc a))))),(1,.d (.one (.row 4 (lg b) (aJ X (rc b))))),(4,.d (.one (.v (.slice none 0 0))))],[]⟩) (fun (p:Nat×(Nat→Int)×(Nat→Int))=>match p with | (X,a,b)=>bC a∧bC b∧CB (FF c) (FF d) (FF a) (FF b)∧Db X a∧Db X b∧lg a≤10∧lg b≤10∧1≤X∧Gw G X (lg a) (lg b)∧(lg a≠0→Pm (lg a) a)∧(lg b≠0→Pm (lg b) b)) (fun (p:Nat×(Nat→Int)×(Nat→Int))=>match p with | (X,a,b)=>lg b) (K,(bH c),(bH d)) (⟨gK zc,gK zd,Oa zc zd,hbc.su,hbd.su,by rw [dL zc];exact EW,by rw [dL zd];exact hd10,hK1,⟨by rw [dL zc,dL zd];exact hG⟩,fun h0=>kE zc (by rw [← dL zc];exact h0),fun h0=>kE zd (by rw [← dL zd];exact h0)⟩) (wkr rfl rfl) ?_;rintro ⟨X,a,b⟩ hI;obtain ⟨za,zb,aS,hba,hbb,WE,Nl,hX1,hG,hpa,hpb⟩:bC a∧bC b∧CB (FF c) (FF d) (FF a) (FF b)∧Db X a∧Db X b∧lg a≤10∧lg b≤10∧1≤X∧Gw G X (lg a) (lg b)∧(lg a≠0→Pm (lg a) a)∧(lg b≠0→Pm (lg b) b):=hI;show AW _ _ _ ⟨_,_,_⟩
 refine au<|au ?_;have hXK:=hG.bd
 by_cases hb0:lg b=0
 ·exact aA<|mE 2 rfl<|mdF rfl (by omega)<|mT<|cF rfl<|dP<|tE<|tE<|bE<|tN<|cR<|mE 2 rfl<|mT<|aH<|rQ rfl (by have hgf:=Nj zc zd za zb aS hb0 lbc lbd (by omega) (by omega);exact fun ρ B w v hv=>lT (Q:=oq c d (21*K+3)) (L:=fun g=>dM (63*K+9) (lg g) (rc g)) (bH a) hgf ρ B w v (by rw [oO za hpa];exact jc (by omega) (by have hd:=hgf.dbq;rwa [oO za hpa] at hd) ρ B w v hv))
 ·refine aA<|mE 2 rfl<|mdT rfl (by omega)<|mT<|cT rfl<|aF<|tN<|aI ?_;have hg1:lg b-1 < lg b:=by omega
  have hN1:=(hG.step hg1).bd;refine aA<|mE 3 rfl<|mY (RV (M:=(X+(lg a+1-lg b)*(X+1))) za zb hb0 (by omega) (by omega) (by omega) (by omega) (abJ _)) rfl<|mY (Ut zb) rfl<|mEx (Qx:=RpP a b (X+(lg a+1-lg b)*(X+1))) (L:=fun r=>dM (X+(lg a+1-lg b)*(X+1)) (lg r) (rc r)) 16 rfl (fun R hR=>?_);exact mE 2 rfl<|ak<|bN<|⟨((X+(lg a+1-lg b)*(X+1)),b,R),⟨zb,hR.z,aS.trans hR.idp,hbb.mono (aiL _ _),hR.b,Nl,by have:=hR.lt;omega,by omega,hG.step hR.lt,hpb,hR.pm⟩,hR.lt,wkv [0] [] ⟨fQ rfl (jc (by omega) (hbb.mono (aiL _ _))),Pe⟩ trivial rfl rfl⟩
theorem fE{K KC X Y:Nat}{c:Nat→Int}{lo hi:Rat}{b:Bool}(h:decide (lo=hi)=b)(hX:X≤100000:=by omega)(hY:Y≤100000:=by omega):aC Tryz.prog 41 [.agg (qac K c KC X lo Y hi)] (.d (.one (.v (.bool b)))):=by
 subst h;exact Gv hX hY
theorem DK{a b:Bool}(h:a=b):AV.le (.d (.one (.v (.bool a)))) (.d (.one (.v (.bool b)))):=by subst h;exact AV.le.rfl
theorem acr{K KC X N G M KD:Nat}{c y:Nat→Int}{lo hi:Rat}(zy:bC y)(hV:vJ c lo hi)(aoh:lg y≤10)(EW:lg c≤10)(hN:N≤10)(FU:lg c≤N)(hK1:1≤K)(hG:(K+1)*(max (lg y+2-lg c) 1*3^lg c)≤G)(hG9:G≤90000)(wE:1≤M)(hB:Gp c M)(hKD:(M+2)*(2*3^N)≤KD)(ag6:KD≤90000)(nU:KC≤90000)(hX:X≤90000):aC Tryz.prog 43 [.one (dM K (lg y) (rc y)),.agg ([.row 4 (lg c) (aJ K (rc c))] ++ [aX (aZ c KC) (fun L=>bn KC L)] ++qn X lo ++qn X hi)] (.d (.one (.v (.bool (decide ((Rl (FF y) (bK c lo hi))=0)))))):=by
 refine aC.nH (fJ Tryz.func43 rfl rfl) (p:=Db K y∧Db K c∧Qb X lo∧Qb X hi) (fun B w vs h=>match vs,h with | [_,_],⟨h1,⟨cs,_,hl⟩,_⟩=>⟨ny zy.lg h1,QC hV.ok.z hl⟩) (fun hb=>?_);have hlc:=dO c;have hly:=dO y;have hKG:=(Gw.mk hG).bd;have hMK:M+2≤KD:=acS (aeT _ (agQ (by decide) (aeA (by decide)))) hKD;refine aN 31 [.tmp 4] Tryz.func43 rfl<|cR<|mO rfl<|mW rfl<|mT<|au<|au ?_
 by_cases hy0:lg y=0
 ·exact aA<|mE 2 rfl<|mbT rfl (aez.2 (by omega))<|mT<|cT rfl<|cR<|mW rfl<|mT<|aH<|tR<|rQ rfl (DK (ae3 (ad3 zy hy0 hV.ok.cut)).symm)
 ·refine aA<|mE 2 rfl<|mbF rfl (abX.2 (by omega))<|mT<|cFs rfl<|au<|cR<|mW rfl<|mY Gv rfl<|mT<|aW rfl (fun hc1=>?_) (fun hc1=>?_)
  ·exact cR<|mE 3 rfl<|mY (CP (zy) rfl) rfl<|mE 2 rfl<|mT<|aH<|tR<|rQ rfl (by have he:lo=hi:=abM hc1;exact DK (by rw [kZ (show hi≤lo by grind),afD (dh zy)];rfl))
  ·refine aF<|tN<|au ?_;have hne:¬ lo=hi:=abL hc1;have hlt:lo < hi:=by have:=hV.ok.le;grind
   refine aA<|mE 3 rfl<|mY (agq (G:=G) zy hV.ok.z aoh EW hK1 hG hG9) rfl<|mW rfl<|mT<|au<|au<|cEx (Qx:=oq y c (21*K+3)) (L:=fun g=>dM (63*K+9) (lg g) (rc g)) 5 rfl (fun D hD=>?_);obtain ⟨hD0,hDl⟩:=hD.le' hV.ok.z (by have:=hV.l2;omega);have dB:Gp c M:=hB;have dD:Gp D M:=fun g zg hg hd=>hB g zg hg (hd.trans hD.IV.db)
   have bD:Db M D:=hB D hD.z (hD.pm hD0).one hD.IV.db;refine iV 5 (.d (.one (.row 4 (lg D) (aJ M (rc D))))) rfl (jc (by omega) bD) ?_
   by_cases hd2:2≤lg D
   ·have sD:=VW hD.IV.db hD.z hV.sq;obtain ⟨Ms,_,hMs⟩:=KW hD.z;have hSD:=Ei hD.z hMs (hD.pm hD0) sD;exact aA<|mE 2 rfl<|mdF rfl (by omega)<|mT<|cFs rfl<|au<|cDk 9<|.cons (aB.V _ rfl)<|oC (Ic (M:=M) (KC:=KD) (N:=N) hD.z hd2 hN (by omega) wE (by omega) dD (by omega) (by omega) hKD ag6 hSD) rfl<|oE 4 rfl<|oC (Uo (by grind)) rfl<|oV rfl<|.cons (aB.V _ rfl)<|.nil<|mT<|aH<|rQ rfl (DK (abC hV hlt zy hD hD0 hd2))
   ·exact aA<|mE 2 rfl<|mdT rfl (by omega)<|mT<|cT rfl<|cR<|mW rfl<|mT<|aH<|tR<|rQ rfl (DK (aef (Ui hV hlt zy hD hD0 hd2)).symm)
structure JO(c d:Nat→Int)(L J E f:Nat)(lo hi p q u1 u2 v1 v2:Rat):Prop where
 fl:f≤J
 n1:LZ c lo hi u1 u2
 n2:LZ d p q v1 v2
 x1:EX c u1 u2
 x2:EX d v1 v2
 d1:Dz L (J-f) u1 u2
 d2:Dz L (J-f) v1 v2
 w1:(u2-u1)*t2 (E+2)≤t2 f
 w2:(v2-v1)*t2 (E+2)≤t2 f
section
variable {c d:Nat→Int} {L J E f:Nat} {lo hi p q u1 u2 v1 v2:Rat}
theorem JO.go(h:JO c d L J E f lo hi p q u1 u2 v1 v2)(hf:f≠0)(hc:zS c)(hd:zS d):JO c d L J E (f-1) lo hi p q (hlf c u1 u2).1 (hlf c u1 u2).2 (hlf d v1 v2).1 (hlf d v1 v2).2:=by
 have hp:=iK (E+2);have hfl:=h.fl;have e:J-f+1=J-(f-1):=by omega
 exact ⟨by omega,h.n1.trans (uF h.n1.ok).1,h.n2.trans (uF h.n2.ok).1,(hc.half h.n1.ok h.x1).2,(hd.half h.n2.ok h.x2).2,e▸h.d1.hlf,e▸h.d2.hlf,Zo h.n1.ok hp h.w1,Zo h.n2.ok hp h.w2⟩
theorem UA{lo hi:Rat}{L E J:Nat}(h:Tb L lo)(k:Tb L hi)(hJ:32*L+1+(E+2)≤J):(hi-lo)*t2 (E+2)≤t2 J:=by
 have h1:=aeg h k;have e1:((2^(32*L+1):Nat):Rat)=t2 (32*L+1):=by unfold t2;rfl
 rw [e1] at h1;have h2:=abS h1 (show 0≤t2 (E+2) by have:=iK (E+2);grind);rw [← jK] at h2;have h3:t2 (32*L+1+(E+2))≤t2 J:=Hr hJ;grind
theorem JO.start(ha:tX c lo hi)(hb:tX d p q)(x1:EX c lo hi)(x2:EX d p q)(t1:Tb L lo)(t2:Tb L hi)(t3:Tb L p)(t4:Tb L q)(hJ:32*L+1+(E+2)≤J):JO c d L J E J lo hi p q lo hi p q:=⟨abJ _,.refl ha,.refl hb,x1,x2,by rw [Nat.sub_self];exact yO t1 t2,by rw [Nat.sub_self];exact yO t3 t4,UA t1 t2 hJ,UA t3 t4 hJ⟩
theorem JO.eq(h:JO c d L J E f lo hi p q u1 u2 v1 v2):dG (bK c u1 u2) (bK d v1 v2)=dG (bK c lo hi) (bK d p q):=Ii h.n1.cut h.n2.cut
theorem JO.lt(h:JO c d L J E f lo hi p q u1 u2 v1 v2)(hne:dG (bK c lo hi) (bK d p q)≠0)(hb:u2≤v1):dG (bK c lo hi) (bK d p q)= -1:=by
 have h1:=GK h.n1.ok h.n2.ok hb;rw [h.eq] at h1;rcases oz (bK c lo hi) (bK d p q) with k | k | k
 ·exact k
 ·exact absurd k hne
 ·omega
theorem JO.gt(h:JO c d L J E f lo hi p q u1 u2 v1 v2)(hne:dG (bK c lo hi) (bK d p q)≠0)(hb:v2≤u1):dG (bK c lo hi) (bK d p q)=1:=by
 have h1:=GK h.n2.ok h.n1.ok hb;have h2:=je h.n1.ok.cut h.n2.ok.cut;rw [h.eq] at h2;rcases oz (bK c lo hi) (bK d p q) with k | k | k
 ·omega
 ·exact absurd k hne
 ·exact k
theorem JO.no{h1 h2:Nat}(h:JO c d L J E f lo hi p q u1 u2 v1 v2)(b1:∀ i,(c i).natAbs≤2^h1)(b2:∀ i,(d i).natAbs≤2^h2)(hE:E=mQ (lg c) (lg d) h1 h2)(oa:vJ c lo hi)(ob:vJ d p q)(hne:dG (bK c lo hi) (bK d p q)≠0)(hf:f=0)(o1:¬ u2≤v1)(o2:¬ v2≤u1):False:=by
 have w1:=h.w1;have w2:=h.w2;rw [hf,show t2 0=1 from rfl] at w1 w2;exact adH b1 b2 hE (oa.OL h.n1) (ob.OL h.n2) (by rw [h.eq];exact hne) (by grind) (by grind) w1 w2
theorem xI{K:Nat}(h:Db K c)(i:Nat):(c i).natAbs≤2^(14*K):=by
 have h1:=h i;have h2:B4^K≤2^(14*K):=by rw [Nat.pow_mul];exact afb (by decide) K
 omega
end
theorem EF{K KC X:Nat}{c d:Nat→Int}{lo hi e1 e2:Rat}(hV:vJ c lo hi)(hW:vJ d e1 e2)(hpt:lo=hi∨e1=e2)(hK:K≤100000:=by omega)(nU:KC≤100000:=by omega)(hX:X≤100000:=by omega):aC Tryz.prog 13 [.agg ([.row 4 (lg c) (aJ K (rc c))] ++ [aX (aZ c KC) (fun L=>bn KC L)] ++qn X lo ++qn X hi),.agg ([.row 4 (lg d) (aJ K (rc d))] ++ [aX (aZ d KC) (fun L=>bn KC L)] ++qn X e1 ++qn X e2)] (dI (dG (bK c lo hi) (bK d e1 e2))):=by
 have hlc:=dO c;have hld:=dO d;refine aN 59 [.tmp 4] Tryz.func13 rfl<|cR<|mO rfl<|mO rfl<|mW rfl<|mT<|au<|au ?_
 by_cases ha:lo=hi
 ·exact aA<|mW rfl<|mY (fE (ae3 ha)) rfl<|mT<|cT rfl<|cR<|mE 3 rfl<|mY (ou hW.cn hW.ok) rfl<|mV aj (dI (-(dG (bK d e1 e2) (fO lo)))) (fM ((eu (by have:=oz (bK d e1 e2) (fO lo);omega) (by have:=oz (bK d e1 e2) (fO lo);omega)).trans (by omega)))<|mW rfl<|mT<|aH<|tR<|rQ rfl (aG (by rw [show bK c lo hi=fO lo from kZ (by grind),je hW.ok.cut (lQ lo)]))
 ·by_cases hb0:e1=e2
  ·exact aA<|mW rfl<|mY (fE (aef ha)) rfl<|mT<|cFs rfl<|au<|cR<|mW rfl<|mY (fE (ae3 hb0)) rfl<|mT<|cT rfl<|cR<|mE 3 rfl<|mY (ou hV.cn hV.ok) rfl<|mW rfl<|mT<|aH<|tR<|rQ rfl (aG (by rw [show bK d e1 e2=fO e1 from kZ (by grind)]))
  ·exact absurd hpt (by rintro (k | k);exact ha k;exact hb0 k)
theorem Ur{K KC X N G M KD L J Z:Nat}{c d:Nat→Int}{lo hi e1 e2:Rat}(hV:vJ c lo hi)(hW:vJ d e1 e2)(hx1:EX c lo hi)(hx2:EX d e1 e2)(hd10:lg d≤10)(EW:lg c≤10)(hN:N≤10)(FU:lg c≤N)(hK1:1≤K)(hG:(K+1)*(max (lg d+2-lg c) 1*3^lg c)≤G)(hG9:G≤90000)(wE:1≤M)(hB:Gp c M)(hKD:(M+2)*(2*3^N)≤KD)(ag6:KD≤90000)(nU:KC≤90000)(hX:X≤90000)(hL:X≤2*L)(hJ:32*L+3+mQ (lg c) (lg d) (14*K) (14*K)≤J)(hZ:3*(3*L+J / 32+2)≤Z:=by decide)(hZ9:Z≤90000:=by decide):aC Tryz.prog 13 [.agg ([.row 4 (lg c) (aJ K (rc c))] ++ [aX (aZ c KC) (fun L=>bn KC L)] ++qn X lo ++qn X hi),.agg ([.row 4 (lg d) (aJ K (rc d))] ++ [aX (aZ d KC) (fun L=>bn KC L)] ++qn X e1 ++qn X e2)] (dI (dG (bK c lo hi) (bK d e1 e2))):=by
 refine aC.nH (fJ Tryz.func13 rfl rfl) (p:=(Db K c∧Qb X lo∧Qb X hi)∧(Db K d∧Qb X e1∧Qb X e2)) (fun B w vs h=>match vs,h with | [_,_],⟨⟨cs,_,hl⟩,⟨ds,_,hk⟩,_⟩=>⟨QC hV.ok.z hl,QC hW.ok.z hk⟩) (fun hb=>?_);have hlc:=dO c;have hld:=dO d;have hKG:=(Gw.mk hG).bd;refine aN 59 [.tmp 4] Tryz.func13 rfl<|cR<|mO rfl<|mO rfl<|mW rfl<|mT<|au<|au ?_
 by_cases ha:lo=hi
 ·exact aA<|mW rfl<|mY (fE (ae3 ha)) rfl<|mT<|cT rfl<|cR<|mE 3 rfl<|mY (ou hW.cn hW.ok) rfl<|mV aj (dI (-(dG (bK d e1 e2) (fO lo)))) (fM ((eu (by have:=oz (bK d e1 e2) (fO lo);omega) (by have:=oz (bK d e1 e2) (fO lo);omega)).trans (by omega)))<|mW rfl<|mT<|aH<|tR<|rQ rfl (aG (by rw [show bK c lo hi=fO lo from kZ (by grind),je hW.ok.cut (lQ lo)]))
 ·by_cases hb0:e1=e2
  ·exact aA<|mW rfl<|mY (fE (aef ha)) rfl<|mT<|cFs rfl<|au<|cR<|mW rfl<|mY (fE (ae3 hb0)) rfl<|mT<|cT rfl<|cR<|mE 3 rfl<|mY (ou hV.cn hV.ok) rfl<|mW rfl<|mT<|aH<|tR<|rQ rfl (aG (by rw [show bK d e1 e2=fO e1 from kZ (by grind)]))
  ·refine aA<|mW rfl<|mY (fE (aef ha)) rfl<|mT<|cFs rfl<|au<|cR<|mW rfl<|mY (fE (aef hb0)) rfl<|mT<|cFs rfl<|au<|cR<|mE 3 rfl<|mY (acr (N:=N) (G:=G) (M:=M) (KD:=KD) hW.ok.z hV hd10 EW hN FU hK1 hG hG9 wE hB hKD ag6 nU hX) rfl<|mT<|aW rfl (fun hc1=>?_) (fun hc1=>?_)
   ·refine au ?_
    by_cases hk1:dG (bK c lo hi) (fO e1) > 0
    ·by_cases hk2:dG (bK c lo hi) (fO e2)≤0
     ·exact aA<|mE 3 rfl<|mY (ou hV.cn hV.ok) rfl<|mdT rfl hk1<|mE 4 rfl<|mY (ou hV.cn hV.ok) rfl<|mdT rfl hk2<|mW rfl<|mT<|cT rfl<|cR<|mW rfl<|mT<|aH<|tR<|rQ rfl (aG (hV.same hW (by have:=hW.ok.le;grind) (abM hc1) hk1 hk2).symm)
     ·refine aA<|mE 3 rfl<|mY (ou hV.cn hV.ok) rfl<|mdT rfl hk1<|mE 4 rfl<|mY (ou hV.cn hV.ok) rfl<|mdF rfl hk2<|mW rfl<|mT<|cFs rfl<|aI ?_;have hpq:e1 < e2:=by have:=hW.ok.le;grind
      have hne:=hV.unlike hW hpq (fun k=>by first | exact hk1 k.2.1 | exact hk2 k.2.2);have t1:Tb L lo:=Qb.tb (K:=L) (iZ hb.1.2.1 (by omega)) (abJ _);have t2':Tb L hi:=Qb.tb (K:=L) (iZ hb.1.2.2 (by omega)) (abJ _);have t3:Tb L e1:=Qb.tb (K:=L) (iZ hb.2.2.1 (by omega)) (abJ _);have t4:Tb L e2:=Qb.tb (K:=L) (iZ hb.2.2.2 (by omega)) (abJ _);refine dU (ι:=Nat×Rat×Rat×Rat×Rat) (fun (p:Nat×Rat×Rat×Rat×Rat)=>match p with | (f,u1,u2,v1,v2)=>⟨59,[(2,.ptr 2 0),(3,.ptr 3 0)],[(2,.box 51 ([.row 4 (lg c) (aJ K (rc c))] ++ [aX (aZ c KC) (fun L=>bn KC L)] ++qn Z u1 ++qn Z u2)),(3,.box 51 ([.row 4 (lg d) (aJ K (rc d))] ++ [aX (aZ d KC) (fun L=>bn KC L)] ++qn Z v1 ++qn Z v2))]⟩) (fun (p:Nat×Rat×Rat×Rat×Rat)=>match p with | (f,u1,u2,v1,v2)=>JO c d L J (mQ (lg c) (lg d) (14*K) (14*K)) f lo hi e1 e2 u1 u2 v1 v2) (fun (p:Nat×Rat×Rat×Rat×Rat)=>match p with | (f,u1,u2,v1,v2)=>f) (J,lo,hi,e1,e2) (JO.start hV.ok hW.ok hx1 hx2 t1 t2' t3 t4 (by omega)) (wkv [] [0,1] trivial ⟨dX rfl (jf (iy (iy (fun B w cs h=>h) (fF (t1.qb (by omega)))) (fF (t2'.qb (by omega))))),dX rfl (jf (iy (iy (fun B w cs h=>h) (fF (t3.qb (by omega)))) (fF (t4.qb (by omega))))),Pe⟩ rfl rfl) ?_;rintro ⟨f,u1,u2,v1,v2⟩ hI;have hI:JO c d L J (mQ (lg c) (lg d) (14*K) (14*K)) f lo hi e1 e2 u1 u2 v1 v2:=hI;show AW _ _ _ ⟨_,_,_⟩
      refine aI<|au<|au ?_
      by_cases hu:u1=u2
      ·exact aA<|mW rfl<|mY (fE (ae3 hu)) rfl<|mW rfl<|mG rfl rfl<|mG rfl rfl<|mW rfl<|mT<|cT rfl<|cR<|mE 2 rfl<|mY (EF (hV.OL hI.n1) (hW.OL hI.n2) (Or.inl hu)) rfl<|mW rfl<|mT<|aH<|tR<|bR<|tR<|bR<|rQ rfl (aG hI.eq)
      ·by_cases hv:v1=v2
       ·exact aA<|mW rfl<|mY (fE (aef hu)) rfl<|mE 2 rfl<|mY (fE (ae3 hv)) rfl<|mW rfl<|mT<|cT rfl<|cR<|mE 2 rfl<|mY (EF (hV.OL hI.n1) (hW.OL hI.n2) (Or.inr hv)) rfl<|mW rfl<|mT<|aH<|tR<|bR<|tR<|bR<|rQ rfl (aG hI.eq)
       ·refine aA<|mW rfl<|mY (fE (aef hu)) rfl<|mE 2 rfl<|mY (fE (aef hv)) rfl<|mW rfl<|mT<|cFs rfl<|au<|cR<|mE 4 rfl<|mY (nD (l7 Z u2) (l7 Z v1)) rfl<|mW rfl<|mT<|aW rfl (fun hc2=>?_) (fun hc2=>?_)
        ·exact cR<|mW rfl<|mT<|aH<|tR<|bR<|tR<|bR<|rQ rfl (aG (hI.lt hne (by have h0:=abM hc2;exact dV.1 h0)).symm)
        ·refine aF<|tN<|au<|au ?_;have o1:¬ u2≤v1:=fun k=>by have h0:=abL hc2;exact h0 (dV.2 k)
         refine aA<|mE 4 rfl<|mY (nD (l7 Z v2) (l7 Z u1)) rfl<|mW rfl<|mT<|aW rfl (fun hc3=>?_) (fun hc3=>?_)
         ·exact cR<|mW rfl<|mT<|aH<|tR<|bR<|tR<|bR<|rQ rfl (aG (hI.gt hne (by have h0:=abM hc3;exact dV.1 h0)).symm)
         ·refine aF<|tN ?_;have o2:¬ v2≤u1:=fun k=>by have h0:=abL hc3;exact h0 (dV.2 k)
          have hf0:f≠0:=fun hf=>hI.no (xI hb.1.1) (xI hb.2.1) rfl hV hW hne hf o1 o2
          have hfl:=hI.fl;have hd1:=(hI.d1.mid.2.qb (X:=Z) (by omega)).1;have hd2:=(hI.d2.mid.2.qb (X:=Z) (by omega)).1;exact cDk 4<|oV rfl<|oC (zW (Y:=Z) hV.cn hI.n1.ok hI.x1 hd1) rfl<|oV rfl<|oC (zW (Y:=Z) hW.cn hI.n2.ok hI.x2 hd2) rfl<|.nil<|mZ rfl<|mZ rfl<|ak<|bN<|⟨((f-1),(hlf c u1 u2).1,(hlf c u1 u2).2,(hlf d v1 v2).1,(hlf d v1 v2).2),hI.go hf0 hV.cn hW.cn,by show f-1 < f;omega,wkr rfl rfl⟩
    ·refine aA<|mE 3 rfl<|mY (ou hV.cn hV.ok) rfl<|mdF rfl hk1<|mW rfl<|mG rfl rfl<|mG rfl rfl<|mG rfl rfl<|mG rfl rfl<|mG rfl rfl<|mW rfl<|mT<|cFs rfl<|aI ?_;have hpq:e1 < e2:=by have:=hW.ok.le;grind
     have hne:=hV.unlike hW hpq (fun k=>by first | exact hk1 k.2.1 | exact hk2 k.2.2);have t1:Tb L lo:=Qb.tb (K:=L) (iZ hb.1.2.1 (by omega)) (abJ _);have t2':Tb L hi:=Qb.tb (K:=L) (iZ hb.1.2.2 (by omega)) (abJ _);have t3:Tb L e1:=Qb.tb (K:=L) (iZ hb.2.2.1 (by omega)) (abJ _);have t4:Tb L e2:=Qb.tb (K:=L) (iZ hb.2.2.2 (by omega)) (abJ _);refine dU (ι:=Nat×Rat×Rat×Rat×Rat) (fun (p:Nat×Rat×Rat×Rat×Rat)=>match p with | (f,u1,u2,v1,v2)=>⟨59,[(2,.ptr 2 0),(3,.ptr 3 0)],[(2,.box 51 ([.row 4 (lg c) (aJ K (rc c))] ++ [aX (aZ c KC) (fun L=>bn KC L)] ++qn Z u1 ++qn Z u2)),(3,.box 51 ([.row 4 (lg d) (aJ K (rc d))] ++ [aX (aZ d KC) (fun L=>bn KC L)] ++qn Z v1 ++qn Z v2))]⟩) (fun (p:Nat×Rat×Rat×Rat×Rat)=>match p with | (f,u1,u2,v1,v2)=>JO c d L J (mQ (lg c) (lg d) (14*K) (14*K)) f lo hi e1 e2 u1 u2 v1 v2) (fun (p:Nat×Rat×Rat×Rat×Rat)=>match p with | (f,u1,u2,v1,v2)=>f) (J,lo,hi,e1,e2) (JO.start hV.ok hW.ok hx1 hx2 t1 t2' t3 t4 (by omega)) (wkv [] [0,1] trivial ⟨dX rfl (jf (iy (iy (fun B w cs h=>h) (fF (t1.qb (by omega)))) (fF (t2'.qb (by omega))))),dX rfl (jf (iy (iy (fun B w cs h=>h) (fF (t3.qb (by omega)))) (fF (t4.qb (by omega))))),Pe⟩ rfl rfl) ?_;rintro ⟨f,u1,u2,v1,v2⟩ hI;have hI:JO c d L J (mQ (lg c) (lg d) (14*K) (14*K)) f lo hi e1 e2 u1 u2 v1 v2:=hI;show AW _ _ _ ⟨_,_,_⟩
     refine aI<|au<|au ?_
     by_cases hu:u1=u2
     ·exact aA<|mW rfl<|mY (fE (ae3 hu)) rfl<|mW rfl<|mG rfl rfl<|mG rfl rfl<|mW rfl<|mT<|cT rfl<|cR<|mE 2 rfl<|mY (EF (hV.OL hI.n1) (hW.OL hI.n2) (Or.inl hu)) rfl<|mW rfl<|mT<|aH<|tR<|bR<|tR<|bR<|rQ rfl (aG hI.eq)
     ·by_cases hv:v1=v2
      ·exact aA<|mW rfl<|mY (fE (aef hu)) rfl<|mE 2 rfl<|mY (fE (ae3 hv)) rfl<|mW rfl<|mT<|cT rfl<|cR<|mE 2 rfl<|mY (EF (hV.OL hI.n1) (hW.OL hI.n2) (Or.inr hv)) rfl<|mW rfl<|mT<|aH<|tR<|bR<|tR<|bR<|rQ rfl (aG hI.eq)
      ·refine aA<|mW rfl<|mY (fE (aef hu)) rfl<|mE 2 rfl<|mY (fE (aef hv)) rfl<|mW rfl<|mT<|cFs rfl<|au<|cR<|mE 4 rfl<|mY (nD (l7 Z u2) (l7 Z v1)) rfl<|mW rfl<|mT<|aW rfl (fun hc4=>?_) (fun hc4=>?_)
       ·exact cR<|mW rfl<|mT<|aH<|tR<|bR<|tR<|bR<|rQ rfl (aG (hI.lt hne (by have h0:=abM hc4;exact dV.1 h0)).symm)
       ·refine aF<|tN<|au<|au ?_;have o1:¬ u2≤v1:=fun k=>by have h0:=abL hc4;exact h0 (dV.2 k)
        refine aA<|mE 4 rfl<|mY (nD (l7 Z v2) (l7 Z u1)) rfl<|mW rfl<|mT<|aW rfl (fun hc5=>?_) (fun hc5=>?_)
        ·exact cR<|mW rfl<|mT<|aH<|tR<|bR<|tR<|bR<|rQ rfl (aG (hI.gt hne (by have h0:=abM hc5;exact dV.1 h0)).symm)
        ·refine aF<|tN ?_;have o2:¬ v2≤u1:=fun k=>by have h0:=abL hc5;exact h0 (dV.2 k)
         have hf0:f≠0:=fun hf=>hI.no (xI hb.1.1) (xI hb.2.1) rfl hV hW hne hf o1 o2
         have hfl:=hI.fl;have hd1:=(hI.d1.mid.2.qb (X:=Z) (by omega)).1;have hd2:=(hI.d2.mid.2.qb (X:=Z) (by omega)).1;exact cDk 4<|oV rfl<|oC (zW (Y:=Z) hV.cn hI.n1.ok hI.x1 hd1) rfl<|oV rfl<|oC (zW (Y:=Z) hW.cn hI.n2.ok hI.x2 hd2) rfl<|.nil<|mZ rfl<|mZ rfl<|ak<|bN<|⟨((f-1),(hlf c u1 u2).1,(hlf c u1 u2).2,(hlf d v1 v2).1,(hlf d v1 v2).2),hI.go hf0 hV.cn hW.cn,by show f-1 < f;omega,wkr rfl rfl⟩
   ·refine aF<|tN<|aI ?_;have hpq:e1 < e2:=by have:=hW.ok.le;grind
    have hne:=hV.unlike hW hpq (fun k=>abL hc1 k.1);have t1:Tb L lo:=Qb.tb (K:=L) (iZ hb.1.2.1 (by omega)) (abJ _);have t2':Tb L hi:=Qb.tb (K:=L) (iZ hb.1.2.2 (by omega)) (abJ _);have t3:Tb L e1:=Qb.tb (K:=L) (iZ hb.2.2.1 (by omega)) (abJ _);have t4:Tb L e2:=Qb.tb (K:=L) (iZ hb.2.2.2 (by omega)) (abJ _);refine dU (ι:=Nat×Rat×Rat×Rat×Rat) (fun (p:Nat×Rat×Rat×Rat×Rat)=>match p with | (f,u1,u2,v1,v2)=>⟨59,[(2,.ptr 2 0),(3,.ptr 3 0)],[(2,.box 51 ([.row 4 (lg c) (aJ K (rc c))] ++ [aX (aZ c KC) (fun L=>bn KC L)] ++qn Z u1 ++qn Z u2)),(3,.box 51 ([.row 4 (lg d) (aJ K (rc d))] ++ [aX (aZ d KC) (fun L=>bn KC L)] ++qn Z v1 ++qn Z v2))]⟩) (fun (p:Nat×Rat×Rat×Rat×Rat)=>match p with | (f,u1,u2,v1,v2)=>JO c d L J (mQ (lg c) (lg d) (14*K) (14*K)) f lo hi e1 e2 u1 u2 v1 v2) (fun (p:Nat×Rat×Rat×Rat×Rat)=>match p with | (f,u1,u2,v1,v2)=>f) (J,lo,hi,e1,e2) (JO.start hV.ok hW.ok hx1 hx2 t1 t2' t3 t4 (by omega)) (wkv [] [0,1] trivial ⟨dX rfl (jf (iy (iy (fun B w cs h=>h) (fF (t1.qb (by omega)))) (fF (t2'.qb (by omega))))),dX rfl (jf (iy (iy (fun B w cs h=>h) (fF (t3.qb (by omega)))) (fF (t4.qb (by omega))))),Pe⟩ rfl rfl) ?_;rintro ⟨f,u1,u2,v1,v2⟩ hI;have hI:JO c d L J (mQ (lg c) (lg d) (14*K) (14*K)) f lo hi e1 e2 u1 u2 v1 v2:=hI;show AW _ _ _ ⟨_,_,_⟩
    refine aI<|au<|au ?_
    by_cases hu:u1=u2
    ·exact aA<|mW rfl<|mY (fE (ae3 hu)) rfl<|mW rfl<|mG rfl rfl<|mG rfl rfl<|mW rfl<|mT<|cT rfl<|cR<|mE 2 rfl<|mY (EF (hV.OL hI.n1) (hW.OL hI.n2) (Or.inl hu)) rfl<|mW rfl<|mT<|aH<|tR<|bR<|tR<|bR<|rQ rfl (aG hI.eq)
    ·by_cases hv:v1=v2
     ·exact aA<|mW rfl<|mY (fE (aef hu)) rfl<|mE 2 rfl<|mY (fE (ae3 hv)) rfl<|mW rfl<|mT<|cT rfl<|cR<|mE 2 rfl<|mY (EF (hV.OL hI.n1) (hW.OL hI.n2) (Or.inr hv)) rfl<|mW rfl<|mT<|aH<|tR<|bR<|tR<|bR<|rQ rfl (aG hI.eq)
     ·refine aA<|mW rfl<|mY (fE (aef hu)) rfl<|mE 2 rfl<|mY (fE (aef hv)) rfl<|mW rfl<|mT<|cFs rfl<|au<|cR<|mE 4 rfl<|mY (nD (l7 Z u2) (l7 Z v1)) rfl<|mW rfl<|mT<|aW rfl (fun hc6=>?_) (fun hc6=>?_)
      ·exact cR<|mW rfl<|mT<|aH<|tR<|bR<|tR<|bR<|rQ rfl (aG (hI.lt hne (by have h0:=abM hc6;exact dV.1 h0)).symm)
      ·refine aF<|tN<|au<|au ?_;have o1:¬ u2≤v1:=fun k=>by have h0:=abL hc6;exact h0 (dV.2 k)
       refine aA<|mE 4 rfl<|mY (nD (l7 Z v2) (l7 Z u1)) rfl<|mW rfl<|mT<|aW rfl (fun hc7=>?_) (fun hc7=>?_)
       ·exact cR<|mW rfl<|mT<|aH<|tR<|bR<|tR<|bR<|rQ rfl (aG (hI.gt hne (by have h0:=abM hc7;exact dV.1 h0)).symm)
       ·refine aF<|tN ?_;have o2:¬ v2≤u1:=fun k=>by have h0:=abL hc7;exact h0 (dV.2 k)
        have hf0:f≠0:=fun hf=>hI.no (xI hb.1.1) (xI hb.2.1) rfl hV hW hne hf o1 o2
        have hfl:=hI.fl;have hd1:=(hI.d1.mid.2.qb (X:=Z) (by omega)).1;have hd2:=(hI.d2.mid.2.qb (X:=Z) (by omega)).1;exact cDk 4<|oV rfl<|oC (zW (Y:=Z) hV.cn hI.n1.ok hI.x1 hd1) rfl<|oV rfl<|oC (zW (Y:=Z) hW.cn hI.n2.ok hI.x2 hd2) rfl<|.nil<|mZ rfl<|mZ rfl<|ak<|bN<|⟨((f-1),(hlf c u1 u2).1,(hlf c u1 u2).2,(hlf d v1 v2).1,(hlf d v1 v2).2),hI.go hf0 hV.cn hW.cn,by show f-1 < f;omega,wkr rfl rfl⟩
/-- There is one: by Bezout. -/
theorem ac0{c d:Nat→Int}(zc:bC c)(zd:bC d)(hc:lg c≠0):∃ M g,oq c d M g:=by
 obtain ⟨δ,u,v,s,t,pδ,pu,pv,ps,pt,e1,e2,e3⟩:=Ju 20 (FF c) (FF d) (dh zc) ⟨rc d,qM zd,fun _=>rfl⟩;obtain ⟨x0,hx0⟩:=abI zc hc;have δne:∃ x,δ x≠0:=⟨x0,fun e=>hx0 (by rw [e2,e,Rat.mul_zero])⟩
 obtain ⟨kδ,aδ,hlδ⟩:=nM pδ δne;have hdv:Dv δ (FF c):=⟨s,ps,e2⟩;have hk:kδ+1≤20:=by
  have h1:=hdv.deg hlδ (FI zc hc);have:=dO c;omega
 obtain ⟨q,hqz,_,_,hq⟩:=hlδ;obtain ⟨D,w,hD,hwz,hw⟩:=FH (q:=q) (k:=kδ+1) (fun i hi=>hqz i (by omega));have zw:bC w:=bC.of hwz hk;have hDq:(D:Rat)≠0:=by
  have:(0:Rat) < (D:Rat):=by exact_mod_cast hD
  grind
 have hF:∀ x,FF w x=(D:Rat)*δ x:=fun x=>by
  rw [← yI hwz zw,hq];show pe (rc w) x (kδ+1)=_
  rw [show rc w=gG q (D:Rat) from funext hw,sV];exact aiF _ _
 have hi:Idl (FF c) (FF d) δ:=⟨⟨u,v,pu,pv,e1⟩,hdv,⟨t,pt,e3⟩⟩;have hi2:Idl (FF c) (FF d) (FF w):=hi.scale (s:=(D:Rat)⁻¹) (s':=(D:Rat)) (fun x=>by rw [hF];have:=Rat.inv_mul_cancel _ hDq;grind) hF;obtain ⟨s1,s2,g1,g2⟩:=H7 zw;have zp:=gK zw;obtain ⟨M,_,hM⟩:=KW zp;exact ⟨M,bH w,zp,hM,hi2.scale g1 g2,fun e=>kE zw (by rw [← dL zw];exact e)⟩
theorem aj3{c:Nat→Int}(zc:bC c)(h2:2≤lg c)(h10:lg c≤10):∃ M,wS c M (fG c):=by
 have zp:=gK zc;have hl:=dL zc;have pp:=kE zc (by omega);obtain ⟨M,g,hg⟩:=ac0 zp (fA zp) (by omega);obtain ⟨⟨M',h⟩,_⟩:=Ot zp pp (by omega) (by omega) hg;have h3:=VL zc (by omega) h;exact ⟨M',h3.self⟩
theorem Wq{c:Nat→Int}{H n M:Nat}(zc:bC c)(h0:lg c≠0)(hl:lg c≤n)(hH:∀ i,(c i).natAbs≤H)(hnH:n≤H)(h1:1≤H)(hM:n*(H*(2*H)^n)*(10*H)^n < B4^M):Gp c M:=by
 intro g zg hg hd;obtain ⟨hg0,hgl⟩:=l9 zc zg h0 hd;obtain ⟨W,pW,hW⟩:=hd;obtain ⟨w,k,hw,hc,_⟩:=nT zc.lg zg.lg hg pW (fun x=>by rw [iO zc,iO zg];exact hW x);intro i;have hb:=PG (H:=(H:Int)) zc.ip h0 zg.lg hw hc (fun i=>by have:=hH i;omega) (by omega) (by omega) i;have e:((lg c:Rat)*(((H:Int):Rat)*(2*((H:Int):Rat))^lg c)*(10*((H:Int):Rat))^lg g)=((lg c*(H*(2*H)^lg c)*(10*H)^lg g:Nat):Rat):=by
  have pc:∀ (a b:Nat),((a^b:Nat):Rat)=(a:Rat)^b:=fun a b=>by
   induction b with
   | zero=>rw [Rat.pow_zero];rfl
   | succ b ih=>rw [Nat.pow_succ,Rat.pow_succ,Rat.natCast_mul,ih]
  rw [Rat.natCast_mul,Rat.natCast_mul,Rat.natCast_mul,pc,pc,Rat.natCast_mul,Rat.natCast_mul];rfl
 rw [e] at hb;have hle:(g i).natAbs≤lg c*(H*(2*H)^lg c)*(10*H)^lg g:=by
  unfold Ab at hb;have b1:((g i:Int):Rat)≤(((lg c*(H*(2*H)^lg c)*(10*H)^lg g:Nat):Int):Rat):=hb.2;have b2:((-((lg c*(H*(2*H)^lg c)*(10*H)^lg g:Nat):Int):Int):Rat)≤((g i:Int):Rat):=by rw [Rat.intCast_neg];exact hb.1
  have c1:g i≤((lg c*(H*(2*H)^lg c)*(10*H)^lg g:Nat):Int):=by exact_mod_cast b1
  have c2: -((lg c*(H*(2*H)^lg c)*(10*H)^lg g:Nat):Int)≤g i:=by exact_mod_cast b2
  omega
 refine aeV (acS hle ?_) hM;exact ae0 (ae0 hl (ac4 _ (ab1 (by omega) hl))) (ab1 (by omega) (by omega))
theorem Gp.mono{c:Nat→Int}{K L:Nat}(h:Gp c K)(k:K≤L):Gp c L:=fun g zg hg hd=>(h g zg hg hd).mono k
theorem Gp.dv{c d:Nat→Int}{K:Nat}(h:Gp c K)(k:Dv (FF d) (FF c)):Gp d K:=fun g zg hg hd=>h g zg hg (hd.trans k)
/-! ### Picked -/
def pw(cl:Nat→Int)(i:Nat):Int:=IntKind.i64.wrap (cl i+6)%13-6
def og(cl:Nat→Int)(n:Nat):Nat→Int:=fun i=>if i < min n 5 then pw cl i else 0
def vG(n d:Int):Rat:=dQ (n%61-30) (1+d%6)
noncomputable def wX(cl:Nat→Int)(n:Nat):List (Rat×Rat):=rtF (fG (og cl n)) 56
noncomputable def pkA(cl:Nat→Int)(n:Nat)(k:Int):(Nat→Int)×Rat×Rat:=
 if 2≤lg (og cl n)∧(wX cl n).length≠0 then (fG (og cl n),((wX cl n).getD (k%((wX cl n).length:Int)).toNat (0,0)).1,((wX cl n).getD (k%((wX cl n).length:Int)).toNat (0,0)).2) else (kW (vG k n),vG k n,vG k n)
noncomputable def Lu(cl:Nat→Int)(n:Nat)(k:Int):Nat→Int:=(pkA cl n k).1
noncomputable def WY(cl:Nat→Int)(n:Nat)(k:Int):Rat:=(pkA cl n k).2.1
noncomputable def WX(cl:Nat→Int)(n:Nat)(k:Int):Rat:=(pkA cl n k).2.2
theorem TM(cl:Nat→Int)(i:Nat): -6≤pw cl i∧pw cl i≤6:=by unfold pw;omega
theorem Qy(cl:Nat→Int)(n:Nat):∀ i,min n 5≤i→og cl n i=0:=fun i hi=>if_neg (by omega)
theorem sW(cl:Nat→Int)(n:Nat):bC (og cl n):= .of (Qy cl n) (by omega)
theorem Js(cl:Nat→Int)(n:Nat):lg (og cl n)≤5:=acS (jv (sW cl n) (Qy cl n)) (by omega)
theorem Vu(cl:Nat→Int)(n i:Nat):(og cl n i).natAbs≤6:=by
 unfold og;split
 ·have:=TM cl i;omega
 ·exact abR _
theorem ah6(cl:Nat→Int)(n:Nat):Db 1 (og cl n):=fun i=>by
 have h:=Vu cl n i;have e:B4^1=10000:=by decide
 omega
theorem G9{cl:Nat→Int}{n:Nat}(h:lg (og cl n)≠0):Gp (og cl n) 4:=Wq (sW cl n) h (Js cl n) (Vu cl n) (by decide) (by decide) (by decide)
/-- What is picked. -/
structure PkP(c:Nat→Int)(lo hi:Rat):Prop where
 v:vJ c lo hi
 x:EX c lo hi
 pm:Pm (lg c) c
 b:Db 4 c
 l5:lg c≤5
 dv:Gp c 4
 sm:∃ p0,bC p0∧(∀ i,(p0 i).natAbs≤30)∧lg p0≤5∧2≤lg p0∧Dv (FF c) (FF p0)∧(lg p0≤2∨∀ i,(p0 i).natAbs≤6)
theorem PkP.sq{c:Nat→Int}{lo hi:Rat}(h:PkP c lo hi):wS c 4 c:=Ei h.v.ok.z h.b.lb1 h.pm h.v.sq
theorem ahL{n d:Int}(hd:0 < d):(dQ n d).num.natAbs≤n.natAbs∧(dQ n d).den≤d.natAbs:=by
 rw [jU (by omega)];obtain ⟨h1,h2⟩:=qm (n:=n) hd;refine ⟨by rw [h1];exact aiX _ _,?_⟩;have h3:((Rat.divInt n d).den:Int).natAbs≤d.natAbs:=by rw [h2];exact aiX _ _
 exact h3
theorem aa8(n d:Int):(vG n d).num.natAbs≤30∧(vG n d).den≤6:=by
 obtain ⟨h1,h2⟩:=ahL (n:=n%61-30) (d:=1+d%6) (by omega);unfold vG;omega
theorem TV(n d:Int):Qb 1 (vG n d):=by
 obtain ⟨h1,h2⟩:=aa8 n d;have e:B4^1=10000:=by decide
 exact ⟨by omega,by omega⟩
theorem aj6(q:Rat):∃ L,Tb L q:=by
 refine ⟨q.num.natAbs+q.den,?_,?_⟩
 ·exact acC (acC Nat.lt_two_pow_self (afb (show 2≤bT by decide) _)) (ab1 (by decide) (by omega))
 ·exact acC (acC Nat.lt_two_pow_self (afb (show 2≤bT by decide) _)) (ab1 (by decide) (by omega))
theorem pkS{cl:Nat→Int}{n:Nat}(h2:2≤lg (og cl n)):(∃ M,wS (og cl n) M (fG (og cl n)))∧Db 4 (fG (og cl n))∧(∀ i,(fG (og cl n) i).natAbs≤2^56):=by
 obtain ⟨M,h⟩:=aj3 (sW cl n) h2 (by have:=Js cl n;omega);have hb:Db 4 (fG (og cl n)):=G9 (by omega) _ h.z h.pm.one h.dv;exact ⟨⟨M,h⟩,hb,xI (K:=4) hb⟩
theorem Vw{cl:Nat→Int}{n:Nat}(h2:2≤lg (og cl n)):RtP (fG (og cl n)) (wX cl n):=by
 obtain ⟨⟨M,h⟩,hb,b1⟩:=pkS h2;obtain ⟨L,hL⟩:=aj6 (Ce (fG (og cl n)));exact afC (YA h (sW cl n) h2) b1 hL
theorem WB{α:Type}{l:List α}{i:Nat}{d:α}(h:i < l.length):l.getD i d∈l:=by
 rw [List.getD_eq_getElem?_getD,List.getElem?_eq_getElem h];exact aiM h
theorem alE(n d:Int):PkP (kW (vG n d)) (vG n d) (vG n d):=by
 have hb:=NJ (TV n d);have h30:∀ i,(kW (vG n d) i).natAbs≤30:=fun i=>by
  obtain ⟨h1,h2⟩:=aa8 n d
  match i with
  | 0=>show (-(vG n d).num).natAbs≤30;omega
  | 1=>show ((vG n d).den:Int).natAbs≤30;omega
  | i+2=>rw [zB _ (i+2) (by omega)];exact abR _
 exact ⟨aaB _,Or.inl rfl,Vk _,hb.mono (by decide),by rw [oL];decide,(UY (sS _) (oL _) hb (by decide)).mono (by decide),⟨kW (vG n d),sS _,h30,by rw [oL];decide,by rw [oL];decide,Dv.refl _,Or.inl (by rw [oL];decide)⟩⟩
theorem NQ(k:Int){n:Nat}(h:n≠0):(k%(n:Int)).toNat < n:=by
 have h1:=Int.emod_nonneg k (show (n:Int)≠0 by omega);have h2:=Int.emod_lt_of_pos k (show (0:Int) < n by omega);omega
theorem alB{cl:Nat→Int}{n:Nat}(h2:2≤lg (og cl n)){p:Rat×Rat}(hp:p∈wX cl n):PkP (fG (og cl n)) p.1 p.2:=by
 obtain ⟨⟨M,h⟩,hb,b1⟩:=pkS h2;obtain ⟨o,x⟩:=(Vw h2).ok p hp;have hl:=Js cl n;exact ⟨o,x,h.pm,hb,by have:=(l9 (sW cl n) h.z (by omega) h.dv).2;omega,(G9 (by omega)).dv h.dv,⟨og cl n,sW cl n,fun i=>by have:=Vu cl n i;omega,hl,h2,h.dv,Or.inr (Vu cl n)⟩⟩
theorem Qz(cl:Nat→Int)(n:Nat)(k:Int):PkP (Lu cl n k) (WY cl n k) (WX cl n k):=by
 unfold Lu WY WX pkA;split
 ·rename_i h
  exact alB h.1 (WB (NQ k h.2))
 ·exact alE k n
theorem MG{n d:Int}(hn1: -9223372036854775808≤n)(hn2:n≤9223372036854775807)(hd1: -9223372036854775808≤d:=by omega)(hd2:d≤9223372036854775807:=by omega):aC Tryz.prog 19 [.one (.v (.int .i64 n)),.one (.v (.int .i64 d))] (.d (.agg (qn 64 (vG n d)))):=by
 exact aN 12 [.cell 4 49] Tryz.func19 rfl<|cR<|mO rfl<|mT<|cR<|mW rfl<|mY (zY (v:=n) (n:=61) (by decide) (by decide) hn1 hn2) rfl<|mV aj (.d (.one (.v (.int .i64 (n%61-30))))) (fM (eu (by omega) (by omega)))<|mW rfl<|mY (zY (v:=d) (n:=6) (by decide) (by decide) hd1 hd2) rfl<|mV aj (.d (.one (.v (.int .i64 (1+d%6))))) (fM (eu (by omega) (by omega)))<|mY (X8 (n:=(n%61-30)) (d:=(1+d%6)) (by omega) (by omega) (by omega) (by omega)) rfl<|mZ rfl<|mT<|aH<|rQ rfl (wI (abJ _) rfl)
theorem al6(z:Int): -9223372036854775808≤IntKind.i64.wrap z:=by rw [IntKind.wrap_i64];omega
theorem al5(z:Int):IntKind.i64.wrap z≤9223372036854775807:=by rw [IntKind.wrap_i64];omega
theorem agz{cl:Nat→Int}{i p:Nat}{B:BS}{w:World}{v:Value}(hp:p < i+1)(hv:dY B w (eU i (fun i _=> vI (pw cl i)) (fun i' j'=>((([vI (pw cl i)]:List Lf))[i'*1+j']?).getD (.v undef)) p 0) v):dY B w (vI (pw cl p)) v:=by
 unfold eU at hv
 by_cases h:p < i
 ·rw [show Nat.ble (p+1) i=true from Nat.ble_eq_true_of_le h] at hv;exact hv
 ·obtain rfl:p=i:=by omega
  rw [show Nat.ble (p+1) p=false from by rw [← Bool.not_eq_true,Nat.ble_eq];omega,Nat.sub_self] at hv;exact hv
theorem ahA{e:TypeId}{cl:Nat→Int}{i:Nat}:AO.le (.row e 1 (i+1) (eU i (fun i _=> vI (pw cl i)) (fun i' j'=>((([vI (pw cl i)]:List Lf))[i'*1+j']?).getD (.v undef)))) (.row e 1 (i+1) (fun i _=> vI (pw cl i))):=gB fun p hp j hj B w v hv=>by
 obtain rfl:j=0:=by omega
 exact agz hp hv
theorem afs{cl:Nat→Int}{n:Nat}:AV.le (.d (.one (dM 64 (dg (rc (og cl n)) (min n 5)) (rc (og cl n))))) (.d (.one (dM 1 (lg (og cl n)) (rc (og cl n))))):=ql (uV (Qy cl n) (sW cl n)) (by decide) (ah6 cl n)
theorem NY{KC:Nat}{cl:Nat→Int}{n:Nat}{k:Int}(h:¬ (2≤lg (og cl n)∧(wX cl n).length≠0)):AV.le (.d (.agg (qac 64 (kW (vG k n)) KC 64 (vG k n) 64 (vG k n)))) (.d (.agg (qac 4 (Lu cl n k) KC 1200 (WY cl n k) 1200 (WX cl n k)))):=by
 have hb:=NJ (TV k n);have hq:=TV k n;unfold Lu WY WX pkA;rw [if_neg h];refine oH (iy (iy (iy (fun B w cs k=>match cs,k with | [v],⟨k,_⟩=>⟨xZ (by decide) (fun i _=>(hb.mono (by decide)) i) B w v k,Pe⟩) (fun _ _ _ h=>h)) (fF (iZ hq (by decide)))) (fF (iZ hq (by decide))))
theorem aaL{KC:Nat}{cl:Nat→Int}{n:Nat}{k:Int}(h:2≤lg (og cl n)∧(wX cl n).length≠0):AV.le (.d (.agg (qac 4 (fG (og cl n)) KC 1200 ((wX cl n).getD (k%((wX cl n).length:Int)).toNat (0,0)).1 1200 ((wX cl n).getD (k%((wX cl n).length:Int)).toNat (0,0)).2))) (.d (.agg (qac 4 (Lu cl n k) KC 1200 (WY cl n k) 1200 (WX cl n k)))):=by
 unfold Lu WY WX pkA;rw [if_pos h];exact AV.le.rfl
theorem aa2{c:Nat→Int}(h:lg c≤5):rtD c 56 / 32≤83:=by
 unfold rtD mQ;have h1:2*(lg c+lg c)*(56+56+(lg c+lg c)+8)≤2*(5+5)*(56+56+(5+5)+8):=ae0 (by omega) (by omega);omega
theorem XZ{cl:Nat→Int}{n:Nat}{k:Int}(hn:n≤9223372036854775807:=by decide)(hk1: -9223372036854775808≤k:=by decide)(hk2:k≤9223372036854775807:=by decide):aC Tryz.prog 9 [.one (ZK n cl),.one (.v (.int .i64 k))] (.d (.agg ([.row 4 (lg (Lu cl n k)) (aJ 4 (rc (Lu cl n k)))] ++ [aX (aZ (Lu cl n k) 2916) (fun L=>bn 2916 L)] ++qn 1200 (WY cl n k) ++qn 1200 (WX cl n k)))):=by
 refine aN 56 [.cell 4 51] Tryz.func9 rfl<|cR<|mO rfl<|mT<|cR<|mW rfl<|mT<|au<|au<|AW.wk (qV 5 5 3 1 (fun _ _=> .v undef) rfl rfl)<|aA<|mW rfl<|mT<|aI<|dU (ι:=Nat) (fun (i:Nat)=>⟨56,[(0,.d (.one (.row 1 n (fun i _=> .v (.int .i64 (cl i)))))),(1,.d (.one (.v (.int .i64 k)))),(4,.ptr 4 0),(5,.own 5),(6,.d (.one (.v (.int .i64 ((i:Nat):Int)))))],[(4,.box 51 ([.v (.slice none 0 0),.v (.slice none 0 0),.v (.slice none 0 0),.v (.bool false),.v (.slice none 0 0),.v (.bool false),.v (.slice none 0 0),.v (.bool false),.v (.slice none 0 0),.v (.bool false)])),(5,.row 3 1 i (fun i _=> .v (.int .i64 (pw cl i))))]⟩) (fun (i:Nat)=>i≤min n 5) (fun (i:Nat)=>min n 5-i) 0 (abR _) (wk rfl ⟨hs rfl,hs rfl,hs rfl,hs rfl,fQ rfl (aG rfl),Pe⟩ ⟨ho rfl,dX rfl (iY),Pe⟩ rfl) ?_;rintro i hI;have hi:i≤min n 5:=hI;show AW _ _ _ ⟨_,_,_⟩
 refine au<|au ?_
 by_cases hin:i < n
 ·by_cases hi5:i < 5
  ·refine aA<|mv3 rfl rfl rfl<|mdT rfl (by omega)<|mv2 rfl rfl<|mdT rfl (by omega)<|mW rfl<|mT<|cT rfl<|aF<|tN<|au<|aI<|aA<|mv3 rfl rfl rfl<|mV aj (.d (.one (.at 1 ((fun i _=> .v (.int .i64 (cl i))) i)))) (jZ (el:=(fun i _=> .v (.int .i64 (cl i)))) (z:=((i:Nat):Int)) (n:=n) rfl rfl rfl rfl rfl rfl (by omega) (by omega)) ?_;exact mv2 rfl rfl<|mY (zY (v:=(IntKind.i64.wrap (cl i+6))) (n:=13) (by decide) (by decide) (al6 _) (al5 _)) rfl<|mV aj (.d (.one (.v (.int .i64 (pw cl i))))) (fM (eu (by omega) (by omega)))<|mB aj (.d (.one (.row 1 1 (fun i' j'=>(([.v (.int .i64 (pw cl i))])[i'*1+j']?).getD (.v undef))))) rfl<|mA aj (id:=5) (n:=i) (m:=1) (el:=(fun i _=> .v (.int .i64 (pw cl i)))) (el2:=(fun i' j'=>(([.v (.int .i64 (pw cl i))])[i'*1+j']?).getD (.v undef))) rfl rfl rfl (by show (i+1)*8≤140737488355328;omega) (by omega) rfl rfl rfl rfl rfl rfl rfl rfl rfl rfl<|mW rfl<|ak<|bN<|tN<|aA<|mv3 rfl rfl rfl<|ak<|⟨(i+1),by omega,by omega,wk rfl ⟨hs rfl,hs rfl,hs rfl,hs rfl,fQ rfl (aG (dF (by omega))),Pe⟩ ⟨ho rfl,dX rfl (ahA),Pe⟩ rfl⟩
  ·refine aA<|mv3 rfl rfl rfl<|mdT rfl (by omega)<|mv2 rfl rfl<|mdF rfl (by omega)<|mW rfl<|mT<|cF rfl<|dP<|tE<|tE<|bE<|tN<|au ?_;obtain rfl:i=min n 5:=by omega
   refine AW.wk (jl 5 rfl)<|aA<|mW rfl<|mY (aci (Va (n:=(min n 5)) (c:=pw cl)) (fun i hi=>by show _≤(if i < min n 5 then pw cl i else 0)∧(if i < min n 5 then pw cl i else 0)≤_;rw [if_pos hi];have:=TM cl i;omega) (by omega)) rfl<|mW rfl<|mT<|au<|au<|iV 7 (.d (.one (.row 4 (lg (og cl n)) (aJ 1 (rc (og cl n)))))) rfl (afs) ?_
   by_cases h2:2≤lg (og cl n)
   ·obtain ⟨⟨Ms,hS⟩,hb4,ahb⟩:=pkS h2;have hR:=Vw h2;have hsl:=(l9 (sW cl n) hS.z (by omega) hS.dv).2;have hrd:=aa2 (c:=fG (og cl n)) (by have:=Js cl n;omega);have hpl:=Js cl n;refine aA<|mv2 rfl rfl<|mdF rfl (by omega)<|mT<|cFs rfl<|cR<|mW rfl<|mY (Uu (K:=1) (M:=4) (KC:=2916) (N:=5) (X:=1200) (h1:=56) (Ms:=Ms) (c:=og cl n) (sW cl n) h2 (by decide) hpl (by decide) (by decide) (G9 (by omega)) (by decide) (by decide) (by decide) (by decide) hS ahb (by omega) (by decide)) rfl<|mW rfl<|mT<|au<|au<|cEx (Qx:=fun l=>l=rtF (fG (og cl n)) 56∧l.length≤1000000) (L:=fun l=> .row 10 l.length (vY 4 (fG (og cl n)) 2916 1200 l)) 8 rfl (fun l hl=>?_);obtain ⟨hl1,hrl⟩:=hl;have hl2:l=wX cl n:=hl1;subst hl2
    by_cases hr0:(wX cl n).length=0
    ·exact aA<|mv2 rfl rfl<|mbT rfl (aez.2 (by omega))<|mT<|cT rfl<|cR<|mv3 rfl rfl rfl<|mY (MG (n:=k) (d:=(n:Int)) hk1 hk2 (by omega) (by omega)) rfl<|mY (xu (X:=64) (KC:=2916) (t:=vG k n) (by decide) (by decide) (by decide)) rfl<|mZ rfl<|mT<|aH<|tR<|rQ rfl (NY (fun h=>h.2 hr0))
    ·refine aA<|mv2 rfl rfl<|mbF rfl (abX.2 (by omega))<|mT<|cFs rfl<|au ?_;have hml:=NQ k hr0;have hm0:0≤k%((wX cl n).length:Int):=Int.emod_nonneg _ (by omega);refine aA<|mv4 rfl rfl rfl rfl<|mY (zY (v:=k) (n:=(wX cl n).length) (by omega) hrl hk1 hk2) rfl<|mV aj (.d (.one (.at 10 ((vY 4 (fG (og cl n)) 2916 1200 (wX cl n)) (((k%(((wX cl n).length:Nat):Int))).toNat))))) (jZ (el:=(vY 4 (fG (og cl n)) 2916 1200 (wX cl n))) (z:=(k%(((wX cl n).length:Nat):Int))) (n:=((wX cl n).length)) rfl rfl rfl rfl rfl rfl hm0 (by omega)) ?_;exact mW rfl<|mZ rfl<|mT<|aH<|rQ rfl (aaL ⟨h2,hr0⟩)
   ·exact aA<|mv2 rfl rfl<|mdT rfl (by omega)<|mT<|cT rfl<|cR<|mv3 rfl rfl rfl<|mY (MG (n:=k) (d:=(n:Int)) hk1 hk2 (by omega) (by omega)) rfl<|mY (xu (X:=64) (KC:=2916) (t:=vG k n) (by decide) (by decide) (by decide)) rfl<|mZ rfl<|mT<|aH<|tR<|rQ rfl (NY (fun h=>h2 h.1))
 ·refine aA<|mv3 rfl rfl rfl<|mdF rfl (by omega)<|mW rfl<|mG rfl rfl<|mG rfl rfl<|mW rfl<|mT<|cF rfl<|dP<|tE<|tE<|bE<|tN<|au ?_;obtain rfl:i=min n 5:=by omega
  refine AW.wk (jl 5 rfl)<|aA<|mW rfl<|mY (aci (Va (n:=(min n 5)) (c:=pw cl)) (fun i hi=>by show _≤(if i < min n 5 then pw cl i else 0)∧(if i < min n 5 then pw cl i else 0)≤_;rw [if_pos hi];have:=TM cl i;omega) (by omega)) rfl<|mW rfl<|mT<|au<|au<|iV 7 (.d (.one (.row 4 (lg (og cl n)) (aJ 1 (rc (og cl n)))))) rfl (afs) ?_
  by_cases h2:2≤lg (og cl n)
  ·obtain ⟨⟨Ms,hS⟩,hb4,ahb⟩:=pkS h2;have hR:=Vw h2;have hsl:=(l9 (sW cl n) hS.z (by omega) hS.dv).2;have hrd:=aa2 (c:=fG (og cl n)) (by have:=Js cl n;omega);have hpl:=Js cl n;refine aA<|mv2 rfl rfl<|mdF rfl (by omega)<|mT<|cFs rfl<|cR<|mW rfl<|mY (Uu (K:=1) (M:=4) (KC:=2916) (N:=5) (X:=1200) (h1:=56) (Ms:=Ms) (c:=og cl n) (sW cl n) h2 (by decide) hpl (by decide) (by decide) (G9 (by omega)) (by decide) (by decide) (by decide) (by decide) hS ahb (by omega) (by decide)) rfl<|mW rfl<|mT<|au<|au<|cEx (Qx:=fun l=>l=rtF (fG (og cl n)) 56∧l.length≤1000000) (L:=fun l=> .row 10 l.length (vY 4 (fG (og cl n)) 2916 1200 l)) 8 rfl (fun l hl=>?_);obtain ⟨hl1,hrl⟩:=hl;have hl2:l=wX cl n:=hl1;subst hl2
   by_cases hr0:(wX cl n).length=0
   ·exact aA<|mv2 rfl rfl<|mbT rfl (aez.2 (by omega))<|mT<|cT rfl<|cR<|mv3 rfl rfl rfl<|mY (MG (n:=k) (d:=(n:Int)) hk1 hk2 (by omega) (by omega)) rfl<|mY (xu (X:=64) (KC:=2916) (t:=vG k n) (by decide) (by decide) (by decide)) rfl<|mZ rfl<|mT<|aH<|tR<|rQ rfl (NY (fun h=>h.2 hr0))
   ·refine aA<|mv2 rfl rfl<|mbF rfl (abX.2 (by omega))<|mT<|cFs rfl<|au ?_;have hml:=NQ k hr0;have hm0:0≤k%((wX cl n).length:Int):=Int.emod_nonneg _ (by omega);refine aA<|mv4 rfl rfl rfl rfl<|mY (zY (v:=k) (n:=(wX cl n).length) (by omega) hrl hk1 hk2) rfl<|mV aj (.d (.one (.at 10 ((vY 4 (fG (og cl n)) 2916 1200 (wX cl n)) (((k%(((wX cl n).length:Nat):Int))).toNat))))) (jZ (el:=(vY 4 (fG (og cl n)) 2916 1200 (wX cl n))) (z:=(k%(((wX cl n).length:Nat):Int))) (n:=((wX cl n).length)) rfl rfl rfl rfl rfl rfl hm0 (by omega)) ?_;exact mW rfl<|mZ rfl<|mT<|aH<|rQ rfl (aaL ⟨h2,hr0⟩)
  ·exact aA<|mv2 rfl rfl<|mdT rfl (by omega)<|mT<|cT rfl<|cR<|mv3 rfl rfl rfl<|mY (MG (n:=k) (d:=(n:Int)) hk1 hk2 (by omega) (by omega)) rfl<|mY (xu (X:=64) (KC:=2916) (t:=vG k n) (by decide) (by decide) (by decide)) rfl<|mZ rfl<|mT<|aH<|tR<|rQ rfl (NY (fun h=>h2 h.1))
section
open Go.RowKit Go.ChangeShapes Go.WideShapes
section
variable {H:Type} {enc:TypeId×Value→H} {P:Program} {w:World}
theorem acz{t e:TypeId}{fuel:Nat}{cs:List Value}{x:DataW H×List MemPlace}(ht:P.underlying t=some (.slice e))(he:P.underlying e=some (.int .i64))(hc:P.cellsOf e=1) 
  (h:DataW.trod enc P w 0 (fun _=>true) true fuel t cs=some x):∃ v n c,cs= [v]∧dY nb w (ZK n c) v∧n≤9223372036854775807∧∀ i,i < n→-9223372036854775808≤c i∧c i≤9223372036854775807:=by
 rcases open_ints ht he hc h with ⟨rfl,_⟩ | ⟨a,l,c,zs,rfl,_,hl,hm,hz,_,hcell,hwz⟩
 ·exact ⟨_,0,fun _=>0,rfl,⟨none,0,rfl,abJ _,fun _=>rfl,fun i hi=>absurd hi (ab2 _)⟩,abR _,fun i hi=>absurd hi (ab2 _)⟩
 ·have hz':zs.length=c:=by simpa using hz
  have hmx:maxLen=9223372036854775807:=by decide
  refine ⟨_,l,fun i=>zs.getD i 0,rfl,⟨some a,c,rfl,hl,(fun e=>nomatch e),fun i hi=>?_⟩,by omega,fun i hi=>?_⟩
  ·have h0:=hcell 0 (by omega)
   obtain ⟨b,off,rfl⟩:=Ba h0;have h1:=hcell i (by omega);rw [vM] at h1;refine ⟨b,off,rfl,fun h=>h.elim,World.block_lt_of_cell? w _ h1,fun q hq=>?_⟩;obtain rfl:q=0:=by omega
   exact ⟨_,by rw [Nat.mul_one,Nat.add_zero];exact h1,rfl,rfl⟩
  ·have hi':i < zs.length:=by omega
   show _≤zs.getD i 0∧zs.getD i 0≤_
   rw [List.getD_eq_getElem?_getD,List.getElem?_eq_getElem hi'];exact Cc (hwz _ (aiM hi'))
end
theorem adQ{c d:Nat→Int}(h1:lg c≤5)(h2:lg d≤5):(4+1)*(max (lg d+2-lg c) 1*3^lg c)≤8505:=by
 have h3:3^lg c≤3^5:=ab1 (by decide) h1;have h4:max (lg d+2-lg c) 1*3^lg c≤7*3^5:=ae0 (by omega) h3;exact ac4 5 h4
theorem adR{c d:Nat→Int}(h1:lg c≤5)(h2:lg d≤5):32*600+3+mQ (lg c) (lg d) (14*4) (14*4)≤22000:=by
 unfold mQ;have h3:2*(lg c+lg d)*(14*4+14*4+(lg c+lg d)+8)≤2*(5+5)*(14*4+14*4+(5+5)+8):=ae0 (by omega) (by omega);omega
end
theorem aad(t x:Rat):FF (kW t) x=(t.den:Rat)*(x-t):=by
 rw [afo];have:=rJ t;grind
theorem YP(t:Rat):(0:Rat) < (t.den:Rat):=by
 have h:=t.den_pos;exact_mod_cast h
theorem ahH{C:qO}(hC:eG C)(t:Rat):Rl (FF (kW t)) C=dG C (fO t):=by
 have hd:=YP t
 by_cases h:C t
 ·obtain ⟨r,h1,h2⟩:=hC.up t h
  obtain ⟨r2,h3⟩:=hC.hi;rw [xC hC h];have he:0 < (t.den:Rat)*(r-t):=ae5 hd (by grind);refine Oq hC ⟨(t.den:Rat)*(r-t),r,r2,he,h2,h3,fun x hx _=>?_⟩;rw [aad];have hx2:(t.den:Rat)*(r-t)≤(t.den:Rat)*(x-t):=abK (by grind) (by grind);exact ⟨Or.inl hx2,iG (by grind)⟩
 ·by_cases h2:∃ q,q < t∧¬ C q
  ·obtain ⟨q,h3,h4⟩:=h2
   obtain ⟨q0,h5⟩:=hC.lo;rw [xE (D:=fO t) h3 h4];have he:0 < (t.den:Rat)*(t-q):=ae5 hd (by grind);refine Oq hC ⟨(t.den:Rat)*(t-q),q0,q,he,h5,h4,fun x _ hx=>?_⟩;rw [aad];have hx2:(t.den:Rat)*(t-q)≤(t.den:Rat)*(t-x):=abK (by grind) (by grind);have hx3:(t.den:Rat)*(t-x)= -((t.den:Rat)*(x-t)):=by grind
   exact ⟨Or.inr (by grind),jh (by grind)⟩
  ·have hq:∀ q,C q↔fO t q:=fun q=>by
    constructor
    ·intro h3
     apply abP;intro h4;have h5:¬ q < t:=h4;exact h (hC.down t q h3 (by grind))
    ·intro h3
     apply abP;intro h4;exact h2 ⟨q,h3,h4⟩
   rw [kN hq,ad2 hq,afD (dh (sS t)),Qj];rfl
/-- A heap: how many handles, their places (from 1 on, 0: not there), how many places, the handles at them. -/
structure HS where
 n:Nat
 pl:Nat→Nat
 m:Nat
 tr:Nat→Nat
structure JQ(S:HS):Prop where
 tr:∀ k,k < S.m→S.tr k≠0∧S.tr k≤S.n∧S.pl (S.tr k-1)=k+1
 pl:∀ i,i < S.n→S.pl i=0∨(S.pl i≤S.m∧S.tr (S.pl i-1)=i+1)
def HS.lay(S:HS)(k h:Nat):HS:=⟨S.n,fun i=>if i=h-1 then k+1 else S.pl i,S.m,fun i=>if i=k then h else S.tr i⟩
def HS.swp(S:HS)(k c:Nat):HS:=(S.lay k (S.tr c)).lay c (S.tr k)
/-- The same handles are there. -/
structure Kw(S T:HS):Prop where
 n:T.n=S.n
 m:T.m=S.m
 pl:∀ i,i < S.n→(T.pl i=0↔S.pl i=0)
theorem Kw.rfl'(S:HS):Kw S S:=⟨rfl,rfl,fun _ _=>Iff.rfl⟩
theorem Kw.trans{S T U:HS}(h:Kw S T)(k:Kw T U):Kw S U:=⟨k.n.trans h.n,k.m.trans h.m,fun i hi=>(k.pl i (by rw [h.n];exact hi)).trans (h.pl i hi)⟩
section
variable {S:HS} {k c:Nat}
theorem JQ.ne(h:JQ S)(hk:k < S.m)(hc:c < S.m)(hne:k≠c):S.tr k-1≠S.tr c-1:=fun e=>by
 have h1:=(h.tr k hk).2.2;have h2:=(h.tr c hc).2.2;rw [e] at h1;omega
theorem uZ(i:Nat):(S.swp k c).tr i=if i=c then S.tr k else if i=k then S.tr c else S.tr i:=rfl
theorem Ub(i:Nat):(S.swp k c).pl i=if i=S.tr k-1 then c+1 else if i=S.tr c-1 then k+1 else S.pl i:=rfl
theorem JQ.swp(h:JQ S)(hk:k < S.m)(hc:c < S.m)(hne:k≠c):JQ (S.swp k c):=by
 have hn:=h.ne hk hc hne;obtain ⟨a1,a2,a3⟩:=h.tr k hk;obtain ⟨b1,b2,b3⟩:=h.tr c hc;refine ⟨fun i hi=>?_,fun i hi=>?_⟩
 ·show (S.swp k c).tr i≠0∧(S.swp k c).tr i≤S.n∧_
  rw [uZ,Ub]
  by_cases e:i=c
  ·rw [if_pos e,if_pos rfl,e];exact ⟨a1,a2,rfl⟩
  by_cases e2:i=k
  ·rw [if_neg e,if_pos e2,if_neg (fun q=>hn q.symm),if_pos rfl,e2];exact ⟨b1,b2,rfl⟩
  ·rw [if_neg e,if_neg e2,if_neg (h.ne hi hk e2),if_neg (h.ne hi hc e)];exact h.tr i hi
 ·show (S.swp k c).pl i=0∨((S.swp k c).pl i≤S.m∧_)
  rw [uZ,Ub]
  by_cases e:i=S.tr k-1
  ·rw [if_pos e];exact Or.inr ⟨hc,by rw [Nat.add_sub_cancel,if_pos rfl];omega⟩
  by_cases e2:i=S.tr c-1
  ·rw [if_neg e,if_pos e2];exact Or.inr ⟨hk,by rw [Nat.add_sub_cancel,if_neg hne,if_pos rfl];omega⟩
  ·rw [if_neg e,if_neg e2]
   rcases h.pl i hi with h1 | ⟨h1,h2⟩
   ·exact Or.inl h1
   ·refine Or.inr ⟨h1,?_⟩
    rw [if_neg (fun q=>by rw [q] at h2;omega),if_neg (fun q=>by rw [q] at h2;omega)];exact h2
theorem Kw.swp(h:JQ S)(hk:k < S.m)(hc:c < S.m):Kw S (S.swp k c):=by
 refine ⟨rfl,rfl,fun i hi=>?_⟩;obtain ⟨a1,a2,a3⟩:=h.tr k hk;obtain ⟨b1,b2,b3⟩:=h.tr c hc;rw [Ub];split
 ·rename_i e;rw [e,a3];exact ⟨fun q=>by omega,fun q=>by omega⟩
 ·split
  ·rename_i e;rw [e,b3];exact ⟨fun q=>by omega,fun q=>by omega⟩
  ·exact Iff.rfl
end
/-- Not less is an order of those of n handles. -/
structure LO(lt:Nat→Nat→Prop)(n:Nat):Prop where
 asy:∀ a b,a≠0→b≠0→a≤n→b≤n→lt a b→¬ lt b a
 tra:∀ a b c,a≠0→b≠0→c≠0→a≤n→b≤n→c≤n→¬ lt b a→¬ lt c b→¬ lt c a
/-- In order, but for place k against what is above (u) or below it (d). -/
structure Fr(lt:Nat→Nat→Prop)(S:HS)(k:Nat)(u d:Bool):Prop where
 con:JQ S
 a:∀ i,0 < i→i < S.m→(i=k→u=false)→((i-1) / 2=k→d=false)→¬ lt (S.tr i) (S.tr ((i-1) / 2))
 b:∀ i,0 < i→i < S.m→(i-1) / 2=k→0 < k→¬ lt (S.tr i) (S.tr ((k-1) / 2))
section
variable {lt:Nat→Nat→Prop} {S:HS} {k c:Nat} {d:Bool}
theorem JQ.as(h:JQ S)(o:LO lt S.n){i j:Nat}(hi:i < S.m)(hj:j < S.m)(hl:lt (S.tr i) (S.tr j)):¬ lt (S.tr j) (S.tr i):=o.asy _ _ (h.tr i hi).1 (h.tr j hj).1 (h.tr i hi).2.1 (h.tr j hj).2.1 hl
theorem JQ.tra(h:JQ S)(o:LO lt S.n){i j l:Nat}(hi:i < S.m)(hj:j < S.m)(hl:l < S.m)(h1:¬ lt (S.tr j) (S.tr i))(h2:¬ lt (S.tr l) (S.tr j)):¬ lt (S.tr l) (S.tr i):=o.tra _ _ _ (h.tr i hi).1 (h.tr j hj).1 (h.tr l hl).1 (h.tr i hi).2.1 (h.tr j hj).2.1 (h.tr l hl).2.1 h1 h2
theorem Fr.any{k':Nat}(h:Fr lt S k false false)(o:LO lt S.n){u d:Bool}:Fr lt S k' u d:=by
 have ha:∀ i,0 < i→i < S.m→¬ lt (S.tr i) (S.tr ((i-1) / 2)):=fun i h1 h2=>h.a i h1 h2 (fun _=>rfl) (fun _=>rfl)
 exact ⟨h.con,fun i h1 h2 _ _=>ha i h1 h2,fun i h1 h2 h3 h4=>h.con.tra o (by omega) (by omega) h2 (ha k' h4 (by omega)) (h3▸ha i h1 h2)⟩
theorem Fr.up(h:Fr lt S k true d)(o:LO lt S.n)(hk:k < S.m)(h0:0 < k)(hl:lt (S.tr k) (S.tr ((k-1) / 2))):Fr lt (S.swp k ((k-1) / 2)) ((k-1) / 2) true false:=by
 have hp:(k-1) / 2 < k:=by omega
 generalize hpe:(k-1) / 2=p at *
 have hyx:=h.con.as o hk (by omega) hl;refine ⟨h.con.swp hk (by omega) (by omega),fun i h1 h2 h3 _=>?_,fun i h1 h2 h3 h4=>?_⟩
 ·replace h3:i≠p:=fun e=>by cases h3 e
  replace h2:i < S.m:=h2
  rw [uZ,uZ,if_neg h3]
  by_cases e:i=k
  ·rw [if_pos e,e,hpe,if_pos rfl];exact hyx
  rw [if_neg e]
  by_cases e1:(i-1) / 2=p
  ·rw [if_pos e1]
   have h5:=h.a i h1 h2 (fun q=>absurd q e) (fun q=>by omega);rw [e1] at h5;exact h.con.tra o hk (by omega) h2 hyx h5
  rw [if_neg e1]
  by_cases e2:(i-1) / 2=k
  ·rw [if_pos e2]
   have h5:=h.b i h1 h2 e2 h0;rwa [hpe] at h5
  ·rw [if_neg e2]
   exact h.a i h1 h2 (fun q=>absurd q e) (fun q=>absurd q e2)
 ·replace h2:i < S.m:=h2
  rw [uZ,uZ,if_neg (show ¬ (p-1) / 2=p by omega),if_neg (show ¬ (p-1) / 2=k by omega),if_neg (show ¬ i=p by omega)];have h6:=h.a p h4 (by omega) (fun q=>by omega) (fun q=>by omega)
  by_cases e:i=k
  ·rw [if_pos e];exact h6
  ·rw [if_neg e]
   have h5:=h.a i h1 h2 (fun q=>absurd q e) (fun q=>by omega);rw [h3] at h5;exact h.con.tra o (by omega) (by omega) h2 h6 h5
theorem Fr.upE(h:Fr lt S k true d)(hl:k=0∨¬ lt (S.tr k) (S.tr ((k-1) / 2))):Fr lt S k false d:=by
 refine ⟨h.con,fun i h1 h2 _ h4=>?_,h.b⟩
 by_cases e:i=k
 ·rcases hl with hl | hl
  ·omega
  ·rw [e];exact hl
 ·exact h.a i h1 h2 (fun q=>absurd q e) h4
theorem Fr.dn(h:Fr lt S k false true)(o:LO lt S.n)(hc:c < S.m)(h0:0 < c)(hp:(c-1) / 2=k)(hl:lt (S.tr c) (S.tr k))(hb:∀ i,0 < i→i < S.m→(i-1) / 2=k→¬ lt (S.tr i) (S.tr c)):Fr lt (S.swp k c) c false true:=by
 have hk:k < c:=by omega
 refine ⟨h.con.swp (by omega) hc (by omega),fun i h1 h2 _ h4=>?_,fun i h1 h2 h3 _=>?_⟩
 ·replace h4:(i-1) / 2≠c:=fun e=>by cases h4 e
  replace h2:i < S.m:=h2
  rw [uZ,uZ,if_neg h4]
  by_cases e:i=c
  ·rw [if_pos e,e,hp,if_pos rfl];exact h.con.as o hc (by omega) hl
  rw [if_neg e]
  by_cases e1:i=k
  ·rw [if_pos e1,e1,if_neg (by omega)];exact h.b c h0 hc hp (by omega)
  rw [if_neg e1]
  by_cases e2:(i-1) / 2=k
  ·rw [if_pos e2];exact hb i h1 h2 e2
  ·rw [if_neg e2];exact h.a i h1 h2 (fun _=>rfl) (fun q=>absurd q e2)
 ·replace h2:i < S.m:=h2
  rw [uZ,uZ,hp,if_neg (show ¬ i=c by omega),if_neg (show ¬ i=k by omega),if_neg (show ¬ k=c by omega),if_pos rfl];have:=h.a i h1 h2 (fun _=>rfl) (fun q=>by omega);rwa [h3] at this
theorem Fr.dnE(h:Fr lt S k false true)(hb:∀ i,0 < i→i < S.m→(i-1) / 2=k→¬ lt (S.tr i) (S.tr k)):Fr lt S k false false:=by
 refine ⟨h.con,fun i h1 h2 _ _=>?_,h.b⟩
 by_cases e:(i-1) / 2=k
 ·rw [e];exact hb i h1 h2 e
 ·exact h.a i h1 h2 (fun _=>rfl) (fun q=>absurd q e)
/-- A heap. -/
def Hp(lt:Nat→Nat→Prop)(S:HS):Prop:=Fr lt S 0 false false
theorem Fr.hp(h:Fr lt S k false false)(o:LO lt S.n):Hp lt S:=h.any o
theorem Hp.root(h:Hp lt S)(o:LO lt S.n):∀ i,i < S.m→¬ lt (S.tr i) (S.tr 0)
 | 0,hi=>fun hl=>h.con.as o hi hi hl hl
 | i+1,hi=>h.con.tra o (by omega) (j:=i / 2) (by omega) hi (Hp.root h o (i / 2) (by omega)) (by
   have:=h.a (i+1) (by omega) hi (fun _=>rfl) (fun _=>rfl);simpa using this)
end
/-- An event: its tag (five numbers), its time. -/
abbrev ET:=(Nat→Int)×AT
def kS(e:ET):qO:=bK e.2.1 e.2.2.1 e.2.2.2
def OM(t u:Nat→Int):Prop:=∀ j,j < 5→t j=u j
def Hu(t u:Nat→Int):Prop:=∃ i,i < 5∧(∀ j,j < i→t j=u j)∧t i < u i
theorem OM.symm{t u:Nat→Int}(h:OM t u):OM u t:=fun j hj=>(h j hj).symm
theorem OM.trans{t u v:Nat→Int}(h:OM t u)(k:OM u v):OM t v:=fun j hj=>(h j hj).trans (k j hj)
theorem Hu.cl{t u v:Nat→Int}(h:Hu t u)(k:OM u v):Hu t v:=by
 obtain ⟨i,h1,h2,h3⟩:=h;exact ⟨i,h1,fun j hj=>(h2 j hj).trans (k j (by omega)),k i h1▸h3⟩
theorem Hu.cr{t u v:Nat→Int}(h:OM t u)(k:Hu u v):Hu t v:=by
 obtain ⟨i,h1,h2,h3⟩:=k;exact ⟨i,h1,fun j hj=>(h j (by omega)).trans (h2 j hj),h i h1▸h3⟩
theorem Hu.trans{t u v:Nat→Int}(h:Hu t u)(k:Hu u v):Hu t v:=by
 obtain ⟨i,h1,h2,h3⟩:=h;obtain ⟨j,k1,k2,k3⟩:=k;rcases ag7 i j with e | rfl | e
 ·exact ⟨i,h1,fun l hl=>(h2 l hl).trans (k2 l (by omega)),k2 i e▸h3⟩
 ·exact ⟨i,h1,fun l hl=>(h2 l hl).trans (k2 l hl),by omega⟩
 ·exact ⟨j,k1,fun l hl=>(h2 l (by omega)).trans (k2 l hl),(h2 j e).symm▸k3⟩
theorem Hu.ne{t u:Nat→Int}(h:Hu t u)(k:OM t u):False:=by
 obtain ⟨i,h1,h2,h3⟩:=h;have:=k i h1;omega
theorem aix(t u:Nat→Int):OM t u∨Hu t u∨Hu u t:=by
 have key:∀ n,n≤5→(∀ j,j < n→t j=u j)∨Hu t u∨Hu u t:=by
  intro n
  induction n with
  | zero=>exact fun _=>Or.inl fun j hj=>absurd hj (ab2 _)
  | succ n ih=>
   intro hn
   rcases ih (by omega) with h | h
   ·rcases afQ (t n) (u n) with e | e | e
    ·exact Or.inr (Or.inl ⟨n,hn,h,e⟩)
    ·exact Or.inl fun j hj=>if q:j=n then q▸e else h j (by omega)
    ·exact Or.inr (Or.inr ⟨n,hn,fun j hj=>(h j hj).symm,e⟩)
   ·exact Or.inr h
 exact key 5 (abJ _)
/-- One event, of handle a, comes ahead of another. -/
def Eu(e f:ET)(a b:Nat):Prop:=dG (kS e) (kS f) < 0∨(dG (kS e) (kS f)=0∧(Hu e.1 f.1∨(OM e.1 f.1∧a < b)))
theorem SC{A B D:qO}(hA:eG A)(hB:eG B)(hD:eG D)(h:dG A B≤0)(k:dG B D≤0):dG A D≤0:=(um hA hD).2 fun q hq=>(um hB hD).1 k q ((um hA hB).1 h q hq)
theorem YH{A B D:qO}(hA:eG A)(hB:eG B)(hD:eG D)(h:dG A B≤0)(k:dG B D≤0)(z:dG A D=0):dG A B=0∧dG B D=0:=by
 have z':dG D A=0:=by rw [je hA hD,z];rfl
 have h1:=SC hB hD hA k (by omega);have h2:=SC hD hA hB (by omega) h;have e1:=je hA hB;have e2:=je hB hD;omega
section
variable {e f g:ET} {a b c:Nat}
theorem Eu.le(h:Eu e f a b):dG (kS e) (kS f)≤0:=by rcases h with h | h <;> omega
theorem Eu.trans(hA:eG (kS e))(hB:eG (kS f))(hD:eG (kS g))(h:Eu e f a b)(k:Eu f g b c):Eu e g a c:=by
 have hle:=SC hA hB hD h.le k.le
 by_cases z:dG (kS e) (kS g)=0
 ·obtain ⟨z1,z2⟩:=YH hA hB hD h.le k.le z
  refine Or.inr ⟨z,?_⟩;rcases h with h | ⟨_,h⟩
  ·omega
  rcases k with k | ⟨_,k⟩
  ·omega
  rcases h with h | ⟨h,h'⟩ <;> rcases k with k | ⟨k,k'⟩
  ·exact Or.inl (h.trans k)
  ·exact Or.inl (h.cl k)
  ·exact Or.inl (k.cr h)
  ·exact Or.inr ⟨h.trans k,by omega⟩
 ·exact Or.inl (by omega)
theorem Eu.asy(hA:eG (kS e))(hB:eG (kS f))(h:Eu e f a b)(k:Eu f e b a):False:=by
 have e1:=je hA hB;rcases h with h | ⟨h,h'⟩ <;> rcases k with k | ⟨k,k'⟩
 ·omega
 ·omega
 ·omega
 rcases h' with h | ⟨h,h2⟩ <;> rcases k' with k | ⟨k,k2⟩
 ·exact (h.trans k).ne (fun _ _=>rfl)
 ·exact h.ne k.symm
 ·exact k.ne h.symm
 ·omega
theorem Eu.tri(hA:eG (kS e))(hB:eG (kS f))(hab:a≠b):Eu e f a b∨Eu f e b a:=by
 have e1:=je hA hB;rcases afQ (dG (kS e) (kS f)) 0 with h | h | h
 ·exact Or.inl (Or.inl h)
 ·rcases aix e.1 f.1 with k | k | k
  ·rcases Nat.lt_or_gt_of_ne hab with l | l
   ·exact Or.inl (Or.inr ⟨h,Or.inr ⟨k,l⟩⟩)
   ·exact Or.inr (Or.inr ⟨by omega,Or.inr ⟨k.symm,l⟩⟩)
  ·exact Or.inl (Or.inr ⟨h,Or.inl k⟩)
  ·exact Or.inr (Or.inr ⟨by omega,Or.inl k⟩)
 ·exact Or.inr (Or.inl (by omega))
end
/-- The order of handles. -/
def hL(ev:Nat→ET)(a b:Nat):Prop:=Eu (ev (a-1)) (ev (b-1)) a b
theorem ake{ev:Nat→ET}{n:Nat}(h:∀ i,i < n→eG (kS (ev i))):LO (hL ev) n:=by
 have hc:∀ a,a≠0→a≤n→eG (kS (ev (a-1))):=fun a h1 h2=>h (a-1) (by omega)
 refine ⟨fun a b a1 b1 a2 b2 h1 h2=>Eu.asy (hc a a1 a2) (hc b b1 b2) h1 h2,fun a b c a1 b1 c1 a2 b2 c2 h1 h2 h3=>?_⟩;have ha:=hc a a1 a2;have hb:=hc b b1 b2;have hd:=hc c c1 c2
 by_cases e:a=b
 ·subst e;exact h2 h3
 by_cases e':b=c
 ·subst e';exact h1 h3
 have k1:hL ev a b:=(Eu.tri hb ha (fun q=>e q.symm)).resolve_left h1;have k2:hL ev b c:=(Eu.tri hd hb (fun q=>e' q.symm)).resolve_left h2;exact Eu.asy ha hd (Eu.trans ha hb hd k1 k2) h3
/-- Cells from place j on of element i are others. -/
def TW(i j:Nat)(cs:List Lf)(el:Nat→Nat→Lf):Nat→Nat→Lf:=fun p q=>if p=i∧j≤q∧q < j+cs.length then (cs[q-j]?).getD (.v undef) else el p q
section
variable {P:Program} {ops:Array Oper} {Q:Qs} {s:AS} {o:Oper} {l:List Oper}
theorem mSp{T:TypeId→Option TI}(hT:zU P T){t:TypeId}{x y:Operand}{ti:TI}{d:DV}(id:Nat){i j sz e n:Nat}{el:Nat→Nat→Lf}{obn:AO}(hop:o.op= .store t x y)(hti:T t=some ti)(hx:dH s x=some (.dW id sz i j))(hy:dH s y=some (.d d))(hob:lkP s.hp id=some (obn,.row e sz n el))(hl:d.cells.length=ti.n)(hj:j+ti.n≤sz) 
  (k:AL P ops Q l (AS.put ⟨s.n,s.sl,(id,AO.put (.row e sz n (TW i j d.cells el)) obn) ::s.hp⟩ o.dst .dead)) (hg:jC ops s o=some true:=by rfl) (hd:kG o.dst s.n=true:=by rfl):AL P ops Q (o ::l) s:=by
 rintro B0 w0 a w ⟨ρ,hc,hn,hdf,hsl⟩;obtain ⟨hob,hun⟩:=Jb hob
 replace hti:=hT _ _ hti
 obtain ⟨g,n',cap,hgi,hi,hxe⟩:=bQ hsl hx;obtain ⟨vs,hv,ZH⟩:=DR.cells (bQ hsl hy);obtain ⟨ob,h1,h2⟩:=hc.obj id _ hgi;rw [hob] at h1;cases h1
 have h2n:=h2;have h2:=h2.un;rw [hun] at h2;obtain ⟨xs,⟨⟨hxl,hown2⟩,hbk⟩,hel⟩:=h2;rcases hown2 with ⟨he,_⟩ | ⟨g2,cap2,cur,he,hge,hblk,hn1,hm,hs,ht⟩
 ·cases he
 cases he
 have hb:kX w g e cur.toList:=by unfold kX;rw [hblk]
 have hlen:=ZH.len;have mul:∀ {p:Nat},p < n→p*sz+sz≤n*sz:=fun {p} hp=>by
  have:(p+1)*sz≤n*sz:=abN _ hp;rwa [Nat.add_mul,Nat.one_mul] at this
 have hend:=mul hi;have hcl:n*sz≤cur.toList.length:=by rw [Array.length_toList,hs];exact abN _ hn1
 have hst:=JH (w:=w) (b:=g) (o:=i*sz+j) hti hv (by omega) (fun q hq=>⟨by rw [hb.cell _ (by omega)];rfl,hb.free _⟩) ZH.one;obtain ⟨k1,k2,k3,k4,k5,k6⟩:=rD vs (i*sz+j) w _ hb (by omega);obtain ⟨w',hw'⟩:∃ w',w'=w.setCells g (i*sz+j) vs:=⟨_,rfl⟩
 rw [← hw'] at hst k1 k2 k3 k4 k5 k6;have hbel:JW w0 w':=hc.bel.put k4 k5 k6 (by omega) (g:=fun b=>b=g) (fun b e=>e▸hbk g rfl) (fun b hb hne=>k2 b hne);have hK:ku (Bd ρ B0) w w':=⟨by omega,fun b hb hB=>k2 b (fun e=>hB (Or.inr ⟨id,_,hgi,by rw [e];rfl⟩))⟩;have hll:(sO cur.toList (i*sz+j) vs).length=cap*sz:=by rw [Qa (by omega),Array.length_toList,hs]
 have hW:=eY.write (v':= .slice (some ⟨g,0,none⟩) n cap) (ob':=AO.put (.row e sz n (TW i j d.cells el)) obn) (hp':=(id,AO.put (.row e sz n (TW i j d.cells el)) obn) ::s.hp) hc hgi (w':=w') (fun b hb hne=>k2 b (fun e=>hne (by rw [e];rfl))) (by omega) hbel
  (fun b hb=>Or.inl hb) (fun k ob hk hne=>by rw [aV,if_neg (fun e=>hne e.symm)];exact hk) (by rw [aV,if_pos rfl]) (by
   rw [Aq hgi];refine h2n.put (new:= .row e sz n (TW i j d.cells el)) ⟨(sO cur.toList (i*sz+j) vs).take (n*sz),⟨⟨by rw [List.length_take,hll,Nat.min_eq_left (by rw [← hs,← Array.length_toList];exact hcl)],Or.inr ⟨g,cap,(sO cur.toList (i*sz+j) vs).toArray,rfl,hge,k1,hn1,hm,by simpa using hll,rfl⟩⟩,hbk⟩,fun p q hp hq=>?_⟩;have hpm:=mul hp;rw [List.getElem?_take,if_pos (by omega),P9 (by omega)]
   by_cases hpi:p=i∧j≤q∧q < j+d.cells.length
   ·obtain ⟨rfl,h3,h4⟩:=hpi
    rw [if_neg (by omega),if_pos (by omega),show p*sz+q-(p*sz+j)=q-j by omega];obtain ⟨lf,hl'⟩:∃ lf,d.cells[q-j]?=some lf:=⟨d.cells[q-j]'(by omega),by simp⟩
    obtain ⟨c,hc',hr⟩:=ZH.get hl';refine ⟨c,hc',?_⟩;unfold TW;rw [if_pos ⟨rfl,h3,h4⟩,hl'];exact dY.mv hK (fun _ _ hB=>hB) _ hr
   ·obtain ⟨x,hx1,hx2⟩:=hel p q hp hq
    have ZI:cur.toList[p*sz+q]?=some x:=by
     rw [← ht,List.getElem?_take,if_pos (by omega)] at hx1;exact hx1
    have hout:p*sz+q < i*sz+j∨i*sz+j+vs.length≤p*sz+q:=by
     rcases ag7 p i with hlt | rfl | hgt
     ·left
      have:(p+1)*sz≤i*sz:=abN _ hlt;rw [Nat.add_mul,Nat.one_mul] at this;omega
     ·omega
     ·right
      have:(i+1)*sz≤p*sz:=abN _ hgt;rw [Nat.add_mul,Nat.one_mul] at this;omega
    refine ⟨x,?_,?_⟩
    ·rcases hout with ho | ho
     ·rw [if_pos ho];exact ZI
     ·rw [if_neg (by omega),if_neg (by omega)];exact ZI
    ·unfold TW
     rw [if_neg hpi];exact dY.mv hK (fun _ _ hB=>hB) _ hx2)
 rw [Aq hgi] at hW;have hrun:(execOp a.eval o).run P w= .ok .skip w':=by
  unfold execOp;rw [hop];show (do Instr.storeAt t (a.eval x) (a.eval y);pure .skip:Sem Next).run P w=_
  rw [hxe];rw [Sem.run_bind,hst];rfl
 have fQ:fD ρ (Bd ρ B0) w' s.sl a:=fun t av ht=>let ⟨u,h1,h2⟩:=hsl t av ht;⟨u,h1,AR.mv hK (fun _ _ hB=>hB) (fun _ _=>rfl) h2⟩
 exact JL (dZ hg hsl) hrun (k B0 w0 _ w' (ni (s:=⟨s.n,s.sl,(id,AO.put (.row e sz n (TW i j d.cells el)) obn) ::s.hp⟩) hW.1 hn hdf fQ hd trivial))
/-- Nothing is an empty row; a slot that is not needed says that it is there. -/
theorem VU(t id:Nat){e:TypeId}{sz:Nat}(el:Nat→Nat→Lf)(ht:Nat.ble (t+1) s.n=true)(h:lk s.hp id=none):Wk s ⟨s.n,(t,.wit id) ::s.sl,(id,.is (.slice none 0 0) (.row e sz 0 el)) ::s.hp⟩:=by
 rintro B0 w0 a w ⟨ρ,hc,hn,hdf,hs⟩;have ht':t < s.n:=ada ht;have hρ:ρ id=none:=by
  cases hq:ρ id with
  | none=>rfl
  | some v=>obtain ⟨ob,q1,_⟩:=hc.obj id v hq;rw [h] at q1;cases q1
 have hbd:∀ b,b < w.heap.size→Bd (up ρ id (.slice none 0 0)) B0 b→Bd ρ B0 b:=vk hρ (fun b hb=>by cases hb)
 have hK:ku (Bd ρ B0) w w:=⟨abJ _,fun _ _ _=>rfl⟩;have hu:∀ k,k≠id→up ρ id (.slice none 0 0) k=ρ k:=fun k hk=>by unfold up;rw [if_neg hk]
 refine ⟨up ρ id (.slice none 0 0),eY.new (ob:= .is (.slice none 0 0) (.row e sz 0 el)) (hp':=(id,.is (.slice none 0 0) (.row e sz 0 el)) ::s.hp) hc hρ (Below.refl _ _) (fun b hb=>by cases hb) (fun k ob hk hne=>by rw [aV,if_neg (fun e=>hne e.symm)];exact hk) (by rw [aV,if_pos rfl]) ⟨rfl,[],⟨⟨by simp,Or.inl ⟨rfl,rfl⟩⟩,fun b hb=>by cases hb⟩,fun i j hi=>absurd hi (ab2 _)⟩,hn,hdf,fun u av hu'=>?_⟩;rw [aV] at hu';split at hu'
 ·rename_i e
  cases hu'
  subst e;exact ⟨a.tmps[t]'(by omega),by simp,.slice none 0 0,by simp [up]⟩
 ·obtain ⟨v,q1,q2⟩:=hs u av hu'
  exact ⟨v,q1,AR.new hρ (Below.refl _ _) (fun b hb=>by cases hb) q2⟩
/-- Five numbers. -/
abbrev jL(t:Nat→Int):List Lf:= [vI (t 0),vI (t 1),vI (t 2),vI (t 3),vI (t 4)]
theorem abq{B:BS}{w:World}{t:Nat→Int}{v:Value}(h:DR B w (.agg (jL t)) v):v= .agg #[.int .i64 (t 0),.int .i64 (t 1),.int .i64 (t 2),.int .i64 (t 3),.int .i64 (t 4)]:=by
 obtain ⟨cs,rfl,h⟩:=h;have hl:=h.len
 match cs,hl with
 | [a,b,c,d,e],_=>
  obtain ⟨⟨h0,_⟩,⟨h1,_⟩,⟨h2,_⟩,⟨h3,_⟩,⟨h4,_⟩,_⟩:=h;rw [h0,h1,h2,h3,h4]
theorem BU{P:Program}{t:TypeId}{k:IntKind}{w:World}{cs:Array Value}{i:Nat}{v:Value}(hu:P.underlying t=some (.int k))(h:cs[i]?=some v):(part t cs i).run P w= .ok v w:=by
 simp [part,isAgg,run_underlying hu,h]
theorem adW{P : Program}(w : World){t i ar : TypeId}{f0 f1 : Field}(hu : P.underlying t = some (.struct #[f0, f1]))(hst : P.stoodInHeld t = false)(hn0 : f0.name ≠ "_")(hn1 : f1.name ≠ "_")(ht0 : f0.type = i)(ht1 : f1.type = ar)(ho0 : f0.offset = 0)(ho1 : f1.offset = 1) 
  (hi:P.underlying i=some (.int .i64)) (ha:P.underlying ar=some (.array 4 i)) (hsi:∀ w,(sizeOf i).run P w= .ok 1 w) (hsa:∀ w,(sizeOf ar).run P w= .ok 4 w) (a0 a1 a2 a3 a4 b0 b1 b2 b3 b4:Int):
  (Op.equalIn 10000 t (.agg #[.int .i64 a0,.int .i64 a1,.int .i64 a2,.int .i64 a3,.int .i64 a4]) (.agg #[.int .i64 b0,.int .i64 b1,.int .i64 b2,.int .i64 b3,.int .i64 b4])).run P w= .ok (a0==b0 && (a1==b1 && (a2==b2 && (a3==b3 && a4==b4)))) w:=by
 have hf:P.fieldsOf t=#[f0,f1]:=by unfold Program.fieldsOf;rw [hu]
 have ei:∀ (d:Nat) (x y:Int) (w:World),(Op.equalIn (d+1) i (.int .i64 x) (.int .i64 y)).run P w= .ok (x==y) w:=fun d x y w=>run_equalIn_int w d i .i64 .i64 x y hi
 have pa:∀ (c0 c1 c2 c3 c4:Value) (w:World),(part ar #[c0,c1,c2,c3,c4] 1).run P w= .ok (.agg #[c1,c2,c3,c4]) w:=fun c0 c1 c2 c3 c4 w=>by
  simp [part,isAgg,run_underlying ha,hsa]
 have ea:∀ (d:Nat) (w:World),(Op.equalIn (d+2) ar (.agg #[.int .i64 a1,.int .i64 a2,.int .i64 a3,.int .i64 a4]) (.agg #[.int .i64 b1,.int .i64 b2,.int .i64 b3,.int .i64 b4])).run P w= .ok (a1==b1 && (a2==b2 && (a3==b3 && a4==b4))) w:=fun d w=>by
  have pp:∀ (cs:Array Value) (q:Nat) (v:Value) (w:World),cs[q]?=some v→(part i cs q).run P w= .ok v w:=fun cs q v w h=>BU hi h
  have h4: [0:4]=({stop:=4,step_pos:=Nat.one_pos}:Std.Legacy.Range):=rfl;rw [Op.equalIn];simp only [Sem.run_bind,run_underlying ha,Result.andThen_ok,hsi];simp [Std.Legacy.Range.forIn_eq_forIn_range',List.range',ei,BU hi,Sem.run_bind];cases e1:a1==b1 <;> cases e2:a2==b2 <;> cases e3:a3==b3 <;> cases e4:a4==b4 <;> simp_all [Sem.run_bind]
 rw [run_equalIn_agg w 9999 t _ _ (by rw [hf];exact hu) hst,hf];subst ht0;subst ht1;have p0:∀ (c0 c1 c2 c3 c4:Value) (w:World),(part f0.type #[c0,c1,c2,c3,c4] 0).run P w= .ok c0 w:=fun c0 c1 c2 c3 c4 w=>BU hi (by simp)
 simp only [Op.eqFields,if_pos hn0,if_pos hn1,ho0,ho1,Sem.run_bind,p0,Result.andThen_ok,ei 9998,pa,ea 9997];cases e0:a0==b0
 ·simp
 ·simp only [Bool.not_true,Bool.false_eq_true,if_false,Sem.run_bind,pa,Result.andThen_ok,ea 9997,Bool.true_and]
  cases a1==b1 && (a2==b2 && (a3==b3 && a4==b4)) <;> simp
def b5(a b:Nat→Int):Bool:=a 0==b 0 && (a 1==b 1 && (a 2==b 2 && (a 3==b 3 && a 4==b 4)))
theorem xT5{t i ar:TypeId}{f0 f1:Field}{x y:Operand}{op:BinOp}{yt:TypeId}{a b:Nat→Int}(r:Bool)(hop:o.op= .binOp op t x y yt)(hr:(op= .neq∧r= !b5 a b)∨(op= .eql∧r=b5 a b))(hx:dH s x=some (.d (.agg (jL a))))(hy:dH s y=some (.d (.agg (jL b))))(hm:P.eqGuardType P.depth t=false) 
  (hu : P.underlying t = some (.struct #[f0, f1])) (hst : P.stoodInHeld t = false) (hn0 : f0.name ≠ "_") (hn1 : f1.name ≠ "_") (ht0 : f0.type = i) (ht1 : f1.type = ar) (ho0 : f0.offset = 0) (ho1 : f1.offset = 1)
  (hi:P.underlying i=some (.int .i64)) (ha:P.underlying ar=some (.array 4 i)) (hsi:∀ w,(sizeOf i).run P w= .ok 1 w) (hsa:∀ w,(sizeOf ar).run P w= .ok 4 w):EvX P s o (.d (.one (.v (.bool r)))):=by
 intro ρ B w ac ho;have e1:=abq (show DR B w (.agg (jL a)) (ac.eval x) from ho x (by rw [hop];simp [Op.operands]) _ hx);have e2:=abq (show DR B w (.agg (jL b)) (ac.eval y) from ho y (by rw [hop];simp [Op.operands]) _ hy);have h5:=fun w=>adW (P:=P) w hu hst hn0 hn1 ht0 ht1 ho0 ho1 hi ha hsi hsa (a 0) (a 1) (a 2) (a 3) (a 4) (b 0) (b 1) (b 2) (b 3) (b 4)
 refine ⟨.bool r,?_,rfl,rfl⟩;unfold execOp;rw [hop];refine dJ ?_;rw [e1,e2];simp only [Sem.run_bind,run_eqGuard_agg w op t x y _ _ hm,Result.andThen_ok];rcases hr with ⟨rfl,rfl⟩ | ⟨rfl,rfl⟩
 ·rw [run_neq_struct,h5];rfl
 ·rw [run_eql_struct,h5];rfl
theorem adX{w:World}{t elem:TypeId}{len i sz:Nat}{k:IntKind}{ad:Addr}(hu:P.underlying t=some (.array len elem))(hs:∀ w,(sizeOf elem).run P w= .ok sz w)(h:i < len):(Instr.indexAt t (.pointer (some ad)) (.int k (i:Int))).run P w= .ok (.pointer (some (ad.add (i*sz)))) w:=by
 have hz:0≤(i:Int)∧(i:Int) < (len:Int):=⟨by omega,by omega⟩;simp [Instr.indexAt,asIntOf,Sem.run_bind,run_underlying hu,Instr.sureAddr,hz,hs,h]
/-- An array's element, in an object. -/
theorem kU{t elem:TypeId}{len i sz id off:Nat}{x ix:Operand}{k:IntKind}(hop:o.op= .indexAddr t x ix)(hu:P.underlying t=some (.array len elem))(hs:∀ w,(sizeOf elem).run P w= .ok sz w)(hx:dH s x=some (.ptr id off))(hi:dH s ix=some (.d (.one (.v (.int k (i:Int))))))(h:i < len):EvX P s o (.ptr id (off+i*sz)):=by
 intro ρ B w a ho;obtain ⟨g,h1,e1⟩:AR ρ B w (.ptr id off) (a.eval x):=ho x (by rw [hop];simp [Op.operands]) _ hx;have e2:a.eval ix= .int k (i:Int):=(ho ix (by rw [hop];simp [Op.operands]) _ hi:dY _ _ _ _).1;refine ⟨_,?_,g,h1,rfl⟩;unfold execOp;rw [hop];refine dJ ?_;rw [e1,e2,adX hu hs h,add_lit]
end
/-- An event's cells; those of a heap's row of events, of its tree, of a row of events. -/
abbrev lK(e:ET):List Lf:=jL e.1 ++nO 4 e.2.1 1200 e.2.2.1 1200 e.2.2.2
def dN(ev:Nat→ET)(pl:Nat→Nat):Nat→Nat→Lf:=fun i j=>((lK (ev i) ++ [vI ((pl i:Nat):Int)])[j]?).getD (.v undef)
def dR(tr:Nat→Nat):Nat→Nat→Lf:=fun i _=> vI ((tr i:Nat):Int)
def yP(ev:Nat→ET):Nat→Nat→Lf:=fun i j=>((lK (ev i))[j]?).getD (.v undef)
/-- An event that is as it is to be. -/
structure HE(e:ET):Prop where
 v:vJ e.2.1 e.2.2.1 e.2.2.2
 l5:lg e.2.1≤5
theorem HE.z{e:ET}(h:HE e):bC e.2.1:=h.v.ok.z
theorem HE.cut{e:ET}(h:HE e):eG (kS e):=h.v.ok.cut
theorem sN{ev:Nat→ET}(h:∀ i,HE (ev i))(n:Nat):LO (hL ev) n:=ake fun i _=>(h i).cut
/-- A function, at one place another. -/
def bY{α:Type}(f:Nat→α)(i:Nat)(x:α):Nat→α:=fun p=>if p=i then x else f p
theorem tJ{α:Type}{q:α→Prop}{f:Nat→α}{i:Nat}{x:α}(h:∀ i,q (f i))(hx:q x)(j:Nat):q (bY f i x j):=by
 unfold bY;split
 ·exact hx
 ·exact h j
theorem uU{x:Value}{a b:AO}(h:AO.le a b):AO.le (.is x a) (.is x b):=fun _ _ _ _ k=>⟨k.1,h _ _ _ _ k.2⟩
theorem acW(e:ET):(lK e).length=14:=rfl
theorem IX{ev:Nat→ET}{pl:Nat→Nat}{i j:Nat}(h:j < 14):dN ev pl i j=((lK (ev i))[j]?).getD (.v undef):=by
 unfold dN;rw [List.getElem?_append_left (by rw [acW];exact h)]
theorem ZN{ev:Nat→ET}{pl:Nat→Nat}{i:Nat}:dN ev pl i 14= vI ((pl i:Nat):Int):=rfl
theorem adx{e:TypeId}{m k h:Nat}{z:Int}{tr:Nat→Nat}(hz:z=(h:Int)):AO.le (.row e 1 m (fun p' q'=>if p'=k then (([vI z]:List Lf)[q']?).getD (.v undef) else dR tr p' q')) (.row e 1 m (dR (fun i=>if i=k then h else tr i))):=gB fun i hi j hj B w v hv=>by
 subst hz;obtain rfl:j=0:=by omega
 unfold dR at hv ⊢;show dY B w (vI ((if i=k then h else tr i:Nat):Int)) v
 by_cases e:i=k
 ·rw [if_pos e] at hv ⊢;exact hv
 ·rw [if_neg e] at hv ⊢;exact hv
theorem Vg{e:TypeId}{n i v:Nat}{z:Int}{ev:Nat→ET}{pl:Nat→Nat}(hz:z=(v:Int)):AO.le (.row e 15 n (TW i 14 [vI z] (dN ev pl))) (.row e 15 n (dN ev (fun p=>if p=i then v else pl p))):=gB fun p hp j hj B w c hc=>by
 subst hz;unfold TW at hc
 by_cases h14:j=14
 ·subst h14
  rw [ZN]
  by_cases e:p=i
  ·rw [if_pos ⟨e,Nat.le_refl _,Nat.lt_succ_self _⟩] at hc
   rw [if_pos e];exact hc
  ·rw [if_neg (fun q=>e q.1),ZN] at hc
   rw [if_neg e];exact hc
 ·rw [if_neg (fun q=>by omega),IX (by omega)] at hc
  rw [IX (by omega)];exact hc
theorem adu{e:TypeId}{n i:Nat}{ev:Nat→ET}{pl:Nat→Nat}{a:AT}:AO.le (.row e 15 n (TW i 5 (nO 4 a.1 1200 a.2.1 1200 a.2.2) (dN ev pl))) (.row e 15 n (dN (bY ev i ((ev i).1,a)) pl)):=gB fun p hp j hj B w c hc=>by
 unfold TW at hc;have hlen:(nO 4 a.1 1200 a.2.1 1200 a.2.2).length=9:=rfl;rw [hlen] at hc
 by_cases h14:j=14
 ·subst h14
  rw [if_neg (fun q=>by omega)] at hc;exact hc
 rw [IX (by omega)];unfold bY
 by_cases e:p=i
 ·rw [if_pos e]
  by_cases h5:5≤j
  ·rw [if_pos ⟨e,h5,by omega⟩] at hc
   rw [List.getElem?_append_right (by simpa using h5)];exact hc
  ·rw [if_neg (fun q=>h5 q.2.1),IX (by omega),e,List.getElem?_append_left (by simp;omega)] at hc
   rw [List.getElem?_append_left (by simp;omega)];exact hc
 ·rw [if_neg e]
  rw [if_neg (fun q=>e q.1),IX (by omega)] at hc;exact hc
theorem ML{n p j:Nat}{el el2:Nat→Nat→Lf}(h:p < n+1):eU n el el2 p j=if p=n then el2 0 j else el p j:=by
 unfold eU
 by_cases e:p=n
 ·rw [if_pos e,e,show Nat.ble (n+1) n=false from by rw [← Bool.not_eq_true,Nat.ble_eq];omega,Nat.sub_self];rfl
 ·rw [if_neg e,show Nat.ble (p+1) n=true from Nat.ble_eq_true_of_le (by omega)];rfl
theorem adt{t:TypeId}{n:Nat}{ev:Nat→ET}{pl:Nat→Nat}{e:ET}{el2:Nat→Nat→Lf}(h2:∀ j,j < 15→el2 0 j=((lK e ++ [vI 0])[j]?).getD (.v undef)):AO.le (.row t 15 (n+1) (eU n (dN ev pl) el2)) (.row t 15 (n+1) (dN (bY ev n e) (bY pl n 0))):=gB fun p hp j hj B w c hc=>by
 rw [ML hp] at hc;unfold dN bY
 by_cases h:p=n
 ·rw [if_pos h,h2 j hj] at hc
  rw [if_pos h,if_pos h];exact hc
 ·rw [if_neg h] at hc
  rw [if_neg h,if_neg h];exact hc
theorem adw{t:TypeId}{n h:Nat}{tr:Nat→Nat}{el2:Nat→Nat→Lf}(h2:el2 0 0= vI (h:Int)):AO.le (.row t 1 (n+1) (eU n (dR tr) el2)) (.row t 1 (n+1) (dR (bY tr n h))):=gB fun p hp j hj B w c hc=>by
 obtain rfl:j=0:=by omega
 rw [ML hp] at hc;unfold dR bY
 by_cases h:p=n
 ·rw [if_pos h,h2] at hc
  rw [if_pos h];exact hc
 ·rw [if_neg h] at hc
  rw [if_neg h];exact hc
theorem ads{t:TypeId}{n:Nat}{ev:Nat→ET}{e:ET}{el2:Nat→Nat→Lf}(h2:∀ j,j < 14→el2 0 j=((lK e)[j]?).getD (.v undef)):AO.le (.row t 14 (n+1) (eU n (yP ev) el2)) (.row t 14 (n+1) (yP (bY ev n e))):=gB fun p hp j hj B w c hc=>by
 rw [ML hp] at hc;unfold yP bY
 by_cases h:p=n
 ·rw [if_pos h,h2 j hj] at hc
  rw [if_pos h];exact hc
 ·rw [if_neg h] at hc
  rw [if_neg h];exact hc
theorem ajT{K L:Nat}{c:Nat→Int}{lo hi:Rat}:AV.le (.d (.one (.row 9 1 (fun i' j'=>(([iC K (lg c) c] ++tn L lo ++tn L hi)[i'*9+j']?).getD (.v undef))))) (.d (.one (.row 9 1 (elg K L [(c,lo,hi)])))):=gq (nN fun i hi' j hj B w v hv=>by
 obtain rfl:i=0:=by omega
 rw [Nat.zero_mul,Nat.zero_add] at hv;exact hv)
/-! ### Tags -/
theorem vg{t u:Nat→Int}{i:Nat}(hi:i < 5)(he:∀ j,j < i→t j=u j)(hn:t i≠u i):Hu t u↔t i < u i:=by
 refine ⟨fun ⟨j,h1,h2,h3⟩=>?_,fun h=>⟨i,hi,he,h⟩⟩;rcases ag7 i j with e | rfl | e
 ·exact absurd (h2 i e) hn
 ·exact h3
 ·have:=he j e;omega
theorem abp{t u:Nat→Int}(he:∀ j,j < 5→t j=u j):¬ Hu t u:=fun h=>h.ne he
theorem vS{p q:Prop}[Decidable q]{b:Bool}(hb:b=true↔p)(h:p↔q):decide q=b:=by
 rw [Bool.eq_iff_iff,decide_eq_true_iff];exact h.symm.trans hb.symm
theorem Ig{a b:Nat→Int}:b5 a b=true↔OM a b:=by
 unfold b5 OM;simp only [Bool.and_eq_true,beq_iff_eq];refine ⟨fun ⟨h0,h1,h2,h3,h4⟩ j hj=>?_,fun h=>⟨h 0 (by decide),h 1 (by decide),h 2 (by decide),h 3 (by decide),h 4 (by decide)⟩⟩;have:j=0∨j=1∨j=2∨j=3∨j=4:=by omega
 rcases this with rfl | rfl | rfl | rfl | rfl <;> assumption
section
variable {lt:Nat→Nat→Prop} {S T:HS} {k j h:Nat} {d:Bool}
/-- On the way up, down. -/
structure Uk(lt:Nat→Nat→Prop)(S:HS)(k:Nat)(d:Bool)(T:HS)(j:Nat):Prop where
 JU:Kw S T
 jm:j < T.m
 fr:(T=S∧j=k∧Fr lt S k true d)∨Fr lt T j true false
structure UpQ(lt:Nat→Nat→Prop)(S:HS)(k:Nat)(d:Bool)(T:HS):Prop where
 JU:Kw S T
 fr:(T=S∧Fr lt S k false d)∨Hp lt T
structure Rh(lt:Nat→Nat→Prop)(S T:HS)(j:Nat):Prop where
 JU:Kw S T
 jm:j < T.m
 fr:Fr lt T j false true
theorem Uk.start(h:Fr lt S k true d)(hk:k < S.m):Uk lt S k d S k:=⟨.rfl' S,hk,Or.inl ⟨rfl,rfl,h⟩⟩
theorem Uk.f(h:Uk lt S k d T j):∃ d',Fr lt T j true d':=by
 obtain ⟨_,_,⟨rfl,rfl,h⟩ | h⟩:=h
 ·exact ⟨d,h⟩
 ·exact ⟨false,h⟩
theorem Uk.con(h:Uk lt S k d T j):JQ T:=let ⟨_,h⟩:=h.f;h.con
theorem Uk.step(h:Uk lt S k d T j)(o:∀ n,LO lt n)(h0:0 < j)(hl:lt (T.tr j) (T.tr ((j-1) / 2))):Uk lt S k d (T.swp j ((j-1) / 2)) ((j-1) / 2):=by
 have hj:=h.jm;obtain ⟨_,hf⟩:=h.f;exact ⟨h.JU.trans (.swp h.con hj (by omega)),show (j-1) / 2 < T.m by omega,Or.inr (hf.up (o _) hj h0 hl)⟩
theorem Uk.fin(h:Uk lt S k d T j)(o:∀ n,LO lt n)(hl:j=0∨¬ lt (T.tr j) (T.tr ((j-1) / 2))):UpQ lt S k d T:=by
 obtain ⟨h1,h2,⟨rfl,rfl,h⟩ | h⟩:=h
 ·exact ⟨h1,Or.inl ⟨rfl,h.upE hl⟩⟩
 ·exact ⟨h1,Or.inr ((h.upE hl).hp (o _))⟩
theorem Rh.start(h:Fr lt S k false true)(hk:k < S.m):Rh lt S S k:=⟨.rfl' S,hk,h⟩
theorem Rh.step{c:Nat}(h:Rh lt S T j)(o:∀ n,LO lt n)(hc:c < T.m)(h0:0 < c)(hp:(c-1) / 2=j)(hl:lt (T.tr c) (T.tr j))(hb:∀ i,0 < i→i < T.m→(i-1) / 2=j→¬ lt (T.tr i) (T.tr c)):Rh lt S (T.swp j c) c:=
 ⟨h.JU.trans (.swp h.fr.con h.jm hc),hc,h.fr.dn (o _) hc h0 hp hl hb⟩
theorem Rh.fin{c:Nat}(h:Rh lt S T j)(o:∀ n,LO lt n)(hc:c < T.m)(hl:¬ lt (T.tr c) (T.tr j))(hb:∀ i,0 < i→i < T.m→(i-1) / 2=j→¬ lt (T.tr i) (T.tr c)):Kw S T∧Hp lt T:=
 ⟨h.JU,(h.fr.dnE fun i h1 h2 h3=>h.fr.con.tra (o _) h.jm hc h2 hl (hb i h1 h2 h3)).hp (o _)⟩
theorem Rh.leaf(h:Rh lt S T j)(o:∀ n,LO lt n)(hm:T.m≤2*j+1):Kw S T∧Hp lt T:=
 ⟨h.JU,(h.fr.dnE fun i h1 h2 h3=>by omega).hp (o _)⟩
theorem Rh.one(h:Rh lt S T j)(o:∀ n,LO lt n)(hm:2*j+1 < T.m)(h2:2*j+1+1 < T.m→¬ lt (T.tr (2*j+1+1)) (T.tr (2*j+1))):∀ i,0 < i→i < T.m→(i-1) / 2=j→¬ lt (T.tr i) (T.tr (2*j+1)):=fun i i1 i2 i3=>by
 by_cases e:i=2*j+1
 ·subst e;exact fun q=>h.fr.con.as (o _) hm hm q q
 ·obtain rfl:i=2*j+1+1:=by omega
  exact h2 i2
theorem Rh.two(h:Rh lt S T j)(o:∀ n,LO lt n)(hm:2*j+1+1 < T.m)(hl:lt (T.tr (2*j+1+1)) (T.tr (2*j+1))):∀ i,0 < i→i < T.m→(i-1) / 2=j→¬ lt (T.tr i) (T.tr (2*j+1+1)):=fun i i1 i2 i3=>by
 by_cases e:i=2*j+1
 ·subst e;exact h.fr.con.as (o _) hm i2 hl
 ·obtain rfl:i=2*j+1+1:=by omega
  exact fun q=>h.fr.con.as (o _) hm hm q q
end
section
variable {ev:Nat→ET} {S T:HS} {h k:Nat}
theorem SY{i a b:Nat}{e:ET}(ha:a-1≠i)(hb:b-1≠i):hL (bY ev i e) a b↔hL ev a b:=by unfold hL bY;rw [if_neg ha,if_neg hb]
/-- One more. -/
def HS.Xa(S:HS):HS:=HS.lay ⟨S.n+1,bY S.pl S.n 0,S.m+1,bY S.tr S.m 0⟩ S.m (S.n+1)
theorem Oc(i:Nat):S.Xa.tr i=if i=S.m then S.n+1 else S.tr i:=by
 show (if i=S.m then S.n+1 else bY S.tr S.m 0 i)=_
 unfold bY;split
 ·rfl
 ·rfl
theorem Ob(i:Nat):S.Xa.pl i=if i=S.n then S.m+1 else S.pl i:=by
 show (if i=S.n+1-1 then S.m+1 else bY S.pl S.n 0 i)=_
 unfold bY;rw [Nat.add_sub_cancel];split
 ·rfl
 ·rfl
theorem adS(c:JQ S):JQ S.Xa:=by
 refine ⟨fun i hi=>?_,fun i hi=>?_⟩
 ·replace hi:i < S.m+1:=hi
  show S.Xa.tr i≠0∧S.Xa.tr i≤S.n+1∧_
  rw [Oc,Ob]
  by_cases e:i=S.m
  ·rw [if_pos e,if_pos (Nat.add_sub_cancel ..),e];exact ⟨by omega,abJ _,rfl⟩
  ·obtain ⟨h1,h2,h3⟩:=c.tr i (by omega)
   rw [if_neg e,if_neg (by omega)];exact ⟨h1,by omega,h3⟩
 ·replace hi:i < S.n+1:=hi
  show _∨(_≤S.m+1∧_)
  rw [Oc,Ob]
  by_cases e:i=S.n
  ·rw [if_pos e,Nat.add_sub_cancel,if_pos rfl];exact Or.inr ⟨abJ _,by omega⟩
  ·rw [if_neg e]
   rcases c.pl i (by omega) with h | ⟨h1,h2⟩
   ·exact Or.inl h
   ·by_cases h0:S.pl i=0
    ·exact Or.inl h0
    ·exact Or.inr ⟨by omega,by rw [if_neg (by omega)];exact h2⟩
theorem aib(hp:Hp (hL ev) S)(e:ET):Fr (hL (bY ev S.n e)) S.Xa S.m true true:=by
 have c:=hp.con;refine ⟨adS c,fun i h1 h2 h3 h4=>?_,fun i h1 h2 h3 h4=>?_⟩
 ·replace h2:i < S.m+1:=h2
  have e1:i≠S.m:=fun e=>by cases h3 e
  rw [Oc,Oc,if_neg e1,if_neg (by omega)];obtain ⟨a1,a2,_⟩:=c.tr i (by omega);obtain ⟨b1,b2,_⟩:=c.tr ((i-1) / 2) (by omega);rw [SY (by omega) (by omega)];exact hp.a i h1 (by omega) (fun _=>rfl) (fun _=>rfl)
 ·replace h2:i < S.m+1:=h2
  omega
structure V3(S S':HS):Prop where
 n:S'.n=S.n+1
 m:S'.m=S.m+1
 pl:∀ i,i < S.n→(S'.pl i=0↔S.pl i=0)
 pn:S'.pl S.n≠0
theorem aic{e:ET}(hE:∀ i,HE (bY ev S.n e i))(h:UpQ (hL (bY ev S.n e)) S.Xa S.m true T):Hp (hL (bY ev S.n e)) T∧V3 S T:=by
 have o:=sN hE;refine ⟨?_,h.JU.n,h.JU.m,fun i hi=>(h.JU.pl i (show i < S.n+1 by omega)).trans ?_,fun q=>?_⟩
 ·rcases h.fr with ⟨rfl,f⟩ | f
  ·exact (f.dnE fun i h1 h2 h3=>by have:i < S.m+1:=h2;omega).hp (o _)
  ·exact f
 ·rw [Ob,if_neg (by omega)]
 ·have:=(h.JU.pl S.n (afB _)).1 q
  rw [Ob,if_pos rfl] at this;omega
/-- One less: handle h, at its place. -/
def HS.cut(S:HS)(h:Nat):HS:=⟨S.n,fun p=>if p=h-1 then 0 else S.pl p,S.m-1,S.tr⟩
structure Rq(S:HS)(h:Nat)(S':HS):Prop where
 n:S'.n=S.n
 m:S'.m+1=S.m
 pl:∀ i,i < S.n→(S'.pl i=0↔S.pl i=0∨i=h-1)
/-- A handle that is there. -/
structure zT(S:HS)(h:Nat):Prop where
 h0:h≠0
 hn:h≤S.n
 pl:S.pl (h-1)≠0
theorem zT.at(c:JQ S)(h':zT S h):S.pl (h-1)≤S.m∧S.tr (S.pl (h-1)-1)=h:=by
 have:=h'.h0;have:=h'.hn;rcases c.pl (h-1) (by omega) with q | ⟨q1,q2⟩
 ·exact absurd q h'.pl
 ·exact ⟨q1,by omega⟩
theorem JQ.in(c:JQ S)(hk:k < S.m):zT S (S.tr k):=let ⟨h1,h2,h3⟩:=c.tr k hk;⟨h1,h2,by omega⟩
theorem YG(c:JQ S)(i':zT S h)(hk:S.pl (h-1)=S.m)(hp:Hp (hL ev) S):Hp (hL ev) (S.cut h)∧Rq S h (S.cut h):=by
 obtain ⟨_,h2⟩:=i'.at c;have:=i'.h0;have hm:=i'.pl;have hne:∀ i,i < S.m-1→S.tr i-1≠h-1:=fun i hi q=>by
  have:=(c.tr i (by omega)).2.2;rw [q] at this;omega
 refine ⟨⟨⟨fun i hi=>?_,fun i hi=>?_⟩,fun i h1 h2 _ _=>hp.a i h1 (by have:i < S.m-1:=h2;omega) (fun _=>rfl) (fun _=>rfl),fun i h1 h2 h3 h4=>absurd h4 (Nat.lt_irrefl _)⟩,rfl,by show S.m-1+1=S.m;omega,fun i hi=>?_⟩
 ·replace hi:i < S.m-1:=hi
  obtain ⟨q1,q2,q3⟩:=c.tr i (by omega);exact ⟨q1,q2,by show (if S.tr i-1=h-1 then 0 else S.pl (S.tr i-1))=_;rw [if_neg (hne i hi)];exact q3⟩
 ·show (if _ then _ else _)=0∨((if _ then _ else _)≤S.m-1∧S.tr ((if _ then _ else _)-1)=i+1)
  by_cases e:i=h-1
  ·rw [if_pos e];exact Or.inl rfl
  ·rw [if_neg e]
   rcases c.pl i hi with q | ⟨q1,q2⟩
   ·exact Or.inl q
   ·refine Or.inr ⟨?_,q2⟩
    by_cases e2:S.pl i=S.m
    ·rw [e2,← hk,h2] at q2;omega
    ·omega
 ·show (if _ then _ else _)=0↔_
  by_cases e:i=h-1
  ·rw [if_pos e];exact ⟨fun _=>Or.inr e,fun _=>rfl⟩
  ·rw [if_neg e];exact ⟨Or.inl,fun q=>q.resolve_right e⟩
theorem agI(hE:∀ i,HE (ev i))(c:JQ S)(i':zT S h)(hk:S.pl (h-1) < S.m)(hp:Hp (hL ev) S):Fr (hL ev) ((S.cut h).lay (S.pl (h-1)-1) (S.tr (S.m-1))) (S.pl (h-1)-1) true true:=by
 obtain ⟨_,h2⟩:=i'.at c;have h0:=i'.h0;have hm:=i'.pl;generalize hke:S.pl (h-1)-1=k at *
 have hkm:S.pl (h-1)=k+1:=by omega
 have hne:∀ i,i < S.m→i≠k→S.tr i-1≠h-1:=fun i hi q q'=>by
  have:=(c.tr i hi).2.2;rw [q',hkm] at this;omega
 obtain ⟨l1,l2,l3⟩:=c.tr (S.m-1) (by omega);have tr':∀ i,((S.cut h).lay k (S.tr (S.m-1))).tr i=if i=k then S.tr (S.m-1) else S.tr i:=fun i=>rfl
 have pl':∀ i,((S.cut h).lay k (S.tr (S.m-1))).pl i=if i=S.tr (S.m-1)-1 then k+1 else if i=h-1 then 0 else S.pl i:=fun i=>rfl
 refine ⟨⟨fun i hi=>?_,fun i hi=>?_⟩,fun i i1 i2 i3 i4=>?_,fun i i1 i2 i3 i4=>?_⟩
 ·replace hi:i < S.m-1:=hi
  show _∧_≤S.n∧_
  rw [tr',pl']
  by_cases e:i=k
  ·rw [if_pos e,if_pos rfl,e];exact ⟨l1,l2,rfl⟩
  ·obtain ⟨q1,q2,q3⟩:=c.tr i (by omega)
   rw [if_neg e,if_neg (c.ne (by omega) (by omega) (by omega)),if_neg (hne i (by omega) e)];exact ⟨q1,q2,q3⟩
 ·show _∨(_≤S.m-1∧_)
  rw [tr',pl']
  by_cases e:i=S.tr (S.m-1)-1
  ·rw [if_pos e,Nat.add_sub_cancel,if_pos rfl];exact Or.inr ⟨by omega,by omega⟩
  rw [if_neg e]
  by_cases e2:i=h-1
  ·rw [if_pos e2];exact Or.inl rfl
  rw [if_neg e2];rcases c.pl i hi with q | ⟨q1,q2⟩
  ·exact Or.inl q
  ·by_cases z:S.pl i=0
   ·exact Or.inl z
   have n1:S.pl i-1≠k:=fun q=>by rw [q,h2] at q2;omega
   have n2:S.pl i-1≠S.m-1:=fun q=>by rw [q] at q2;omega
   rw [if_neg n1];exact Or.inr ⟨by omega,q2⟩
 ·replace i2:i < S.m-1:=i2
  have e1:i≠k:=fun e=>by cases i3 e
  have e2:(i-1) / 2≠k:=fun e=>by cases i4 e
  rw [tr',tr',if_neg e1,if_neg e2];exact hp.a i i1 (by omega) (fun _=>rfl) (fun _=>rfl)
 ·replace i2:i < S.m-1:=i2
  rw [tr',tr',if_neg (by omega),if_neg (by omega)];have q1:=hp.a i i1 (by omega) (fun _=>rfl) (fun _=>rfl);rw [i3] at q1;have q2:=hp.a k i4 (by omega) (fun _=>rfl) (fun _=>rfl);exact c.tra (sN hE _) (by omega) (j:=k) (by omega) (by omega) q2 q1
theorem agJ(hE:∀ i,HE (ev i))(c:JQ S)(i':zT S h){U:HS}(hk:S.pl (h-1) < S.m)(h1:Kw ((S.cut h).lay (S.pl (h-1)-1) (S.tr (S.m-1))) U):Rq S h U:=by
 have hm:=i'.pl;have h0:=i'.h0;obtain ⟨_,h2⟩:=i'.at c;obtain ⟨l1,l2,l3⟩:=c.tr (S.m-1) (by omega);refine ⟨h1.n,by rw [h1.m];show S.m-1+1=S.m;omega,fun i hi=>(h1.pl i hi).trans ?_⟩;show (if i=S.tr (S.m-1)-1 then S.pl (h-1)-1+1 else if i=h-1 then 0 else S.pl i)=0↔_
 by_cases e:i=S.tr (S.m-1)-1
 ·rw [if_pos e]
  refine ⟨fun q=>by omega,fun q=>?_⟩;rw [e] at q;rcases q with q | q
  ·omega
  ·rw [q] at l3;omega
 ·rw [if_neg e]
  by_cases e2:i=h-1
  ·rw [if_pos e2];exact ⟨fun _=>Or.inr e2,fun _=>rfl⟩
  ·rw [if_neg e2];exact ⟨Or.inl,fun q=>q.resolve_right e2⟩
/-- Another event at a handle. -/
theorem aiq(hE:∀ i,HE (ev i))(i':zT S h)(hp:Hp (hL ev) S)(e:ET):Fr (hL (bY ev (h-1) e)) S (S.pl (h-1)-1) true true:=by
 have c:=hp.con;obtain ⟨h1,h2⟩:=i'.at c;have hm:=i'.pl;generalize hke:S.pl (h-1)-1=k at *
 have hkm:k < S.m:=by omega
 have hne:∀ i,i < S.m→i≠k→S.tr i-1≠h-1:=fun i hi q=>by
  have:=c.ne hi hkm q;rwa [h2] at this
 refine ⟨c,fun i i1 i2 i3 i4=>?_,fun i i1 i2 i3 i4=>?_⟩
 ·have e1:i≠k:=fun e=>by cases i3 e
  have e2:(i-1) / 2≠k:=fun e=>by cases i4 e
  rw [SY (hne i i2 e1) (hne _ (by omega) e2)];exact hp.a i i1 i2 (fun _=>rfl) (fun _=>rfl)
 ·rw [SY (hne i i2 (by omega)) (hne _ (by omega) (by omega))]
  have q1:=hp.a i i1 i2 (fun _=>rfl) (fun _=>rfl);rw [i3] at q1;exact c.tra (sN hE _) (by omega) (j:=k) (by omega) (by omega) (hp.a k i4 hkm (fun _=>rfl) (fun _=>rfl)) q1
theorem Kw.in(h1:Kw S T)(i':zT S h):zT T h:=⟨i'.h0,by rw [h1.n];exact i'.hn,fun q=>i'.pl ((h1.pl _ (by have:=i'.h0;have:=i'.hn;omega)).1 q)⟩
theorem aip(hE:∀ i,HE (ev i))(i':zT S h)(h1:UpQ (hL ev) S (S.pl (h-1)-1) true T):Fr (hL ev) T (T.pl (h-1)-1) false true:=by
 rcases h1.fr with ⟨rfl,f⟩ | f
 ·exact f
 ·exact f.any (sN hE _)
/-- The first of all. -/
theorem Hp.first(hE:∀ i,HE (ev i))(hp:Hp (hL ev) S)(i':zT S h):¬ hL ev h (S.tr 0):=by
 obtain ⟨h1,h2⟩:=i'.at hp.con;have:=hp.root (sN hE _) (S.pl (h-1)-1) (by have:=i'.pl;omega);rwa [h2] at this
theorem Hp.m0(hp:Hp (hL ev) S)(hm:S.m=0)(i:Nat)(hi:i < S.n):S.pl i=0:=by
 rcases hp.con.pl i hi with q | ⟨q,_⟩
 ·exact q
 ·omega
/-- What a batch takes: k handles, hs, of S; T is left. -/
structure yA(ev:Nat→ET)(S:HS)(k:Nat)(hs:Nat→Nat)(T:HS):Prop where
 hp:Hp (hL ev) T
 n:T.n=S.n
 m:T.m+k=S.m
 mem:∀ j,j < k→zT S (hs j)
 pl:∀ i,i < S.n→(T.pl i=0↔S.pl i=0∨∃ j,j < k∧hs j-1=i)
 eq:∀ j,j < k→dG (kS (ev (hs j-1))) (kS (ev (hs 0-1)))=0
 up:∀ j,j+1 < k→¬ hL ev (hs (j+1)) (hs j)
 lo:∀ j h,j < k→zT T h→¬ hL ev h (hs j)
 h0:k≠0→hs 0=S.tr 0
 z:k=0→T=S
 inj:∀ i j,i < j→j < k→hs i≠hs j
theorem yA.start(hp:Hp (hL ev) S){hs:Nat→Nat}:yA ev S 0 hs S:=⟨hp,rfl,rfl,fun j hj=>absurd hj (ab2 _),fun i hi=>⟨Or.inl,fun q=>q.resolve_right fun ⟨j,hj,_⟩=>absurd hj (ab2 _)⟩,fun j hj=>absurd hj (ab2 _),fun j hj=>absurd hj (ab2 _),fun j h hj=>absurd hj (ab2 _),fun h=>absurd rfl h,fun _=>rfl,fun i j _ hj=>absurd hj (ab2 _)⟩
theorem yA.inS{hs:Nat→Nat}(b:yA ev S k hs T)(i':zT T h):zT S h:=⟨i'.h0,b.n▸i'.hn,fun q=>i'.pl ((b.pl _ (by have:=i'.h0;have:=i'.hn;have:=b.n;omega)).2 (Or.inl q))⟩
theorem Rq.in{U:HS}{g:Nat}(d:Rq T g U)(i':zT U h):zT T h∧h-1≠g-1:=by
 have hi:h-1 < T.n:=by have:=i'.h0;have:=i'.hn;have:=d.n;omega
 exact ⟨⟨i'.h0,d.n▸i'.hn,fun q=>i'.pl ((d.pl _ hi).2 (Or.inl q))⟩,fun q=>i'.pl ((d.pl _ hi).2 (Or.inr q))⟩
theorem yA.step{hs:Nat→Nat}{U:HS}(hE:∀ i,HE (ev i))(b:yA ev S k hs T)(hm:T.m≠0)(hk:k≠0→dG (kS (ev (T.tr 0-1))) (kS (ev (hs 0-1)))=0)(hp:Hp (hL ev) U)(d:Rq T (T.tr 0) U):yA ev S (k+1) (bY hs k (T.tr 0)) U:=by
 have i0:=b.hp.con.in (k:=0) (by omega);have u1:∀ j,j < k→bY hs k (T.tr 0) j=hs j:=fun j hj=>if_neg (by omega)
 have u2:bY hs k (T.tr 0) k=T.tr 0:=if_pos rfl;have u0:bY hs k (T.tr 0) 0=if k=0 then T.tr 0 else hs 0:=by
  unfold bY
  by_cases e:k=0
  ·rw [if_pos e.symm,if_pos e]
  ·rw [if_neg (fun q=>e q.symm),if_neg e]
 refine ⟨hp,d.n.trans b.n,by have:=d.m;have:=b.m;omega,fun j hj=>?_,fun i hi=>?_,fun j hj=>?_,fun j hj=>?_,fun j h hj i'=>?_,fun _=>?_,fun q=>absurd q (Nat.succ_ne_zero _),fun i j hij hj=>?_⟩
 ·by_cases e:j=k
  ·rw [e,u2];exact b.inS i0
  ·rw [u1 j (by omega)];exact b.mem j (by omega)
 ·refine (d.pl i (by rw [b.n];exact hi)).trans ⟨fun q=>?_,fun q=>?_⟩
  ·rcases q with q | q
   ·rcases (b.pl i hi).1 q with q | ⟨j,j1,j2⟩
    ·exact Or.inl q
    ·exact Or.inr ⟨j,by omega,by rw [u1 j j1];exact j2⟩
   ·exact Or.inr ⟨k,afB _,by rw [u2];exact q.symm⟩
  ·rcases q with q | ⟨j,j1,j2⟩
   ·exact Or.inl ((b.pl i hi).2 (Or.inl q))
   ·by_cases e:j=k
    ·rw [e,u2] at j2;exact Or.inr j2.symm
    ·rw [u1 j (by omega)] at j2;exact Or.inl ((b.pl i hi).2 (Or.inr ⟨j,by omega,j2⟩))
 ·rw [u0]
  by_cases e:j=k
  ·rw [e,u2]
   by_cases e0:k=0
   ·rw [if_pos e0];exact kN fun _=>Iff.rfl
   ·rw [if_neg e0];exact hk e0
  ·rw [u1 j (by omega),if_neg (by omega)];exact b.eq j (by omega)
 ·rw [u1 j (by omega)]
  by_cases e:j+1=k
  ·rw [e,u2];exact b.lo j _ (by omega) i0
  ·rw [u1 _ (by omega)];exact b.up j (by omega)
 ·obtain ⟨i1,i2⟩:=d.in i'
  by_cases e:j=k
  ·rw [e,u2];exact b.hp.first hE i1
  ·rw [u1 j (by omega)];exact b.lo j h (by omega) i1
 ·rw [u0]
  by_cases e0:k=0
  ·rw [if_pos e0,b.z e0]
  ·rw [if_neg e0];exact b.h0 e0
 ·by_cases e:j=k
  ·rw [e,u2,u1 i (by omega)]
   intro q;have i1:=b.mem i (by omega);have z:=(b.pl (hs i-1) (by have:=i1.h0;have:=i1.hn;omega)).2 (Or.inr ⟨i,by omega,rfl⟩);rw [q] at z;exact i0.pl z
  ·rw [u1 i (by omega),u1 j (by omega)];exact b.inj i j hij (by omega)
end
abbrev vw(p x y:Value)(ev:Nat→ET)(S:HS):List (Nat×AO):= [(0,.is p (.box 81 [.v x,.v y])),(1,.is x (.row 84 15 S.n (dN ev S.pl))),(2,.is y (.row 3 1 S.m (dR S.tr)))]
theorem af5{t u:Nat→Int}{b:Bool}(hb:b=true↔Hu t u):aC Tryz.prog 92 [.agg (jL t),.agg (jL u)] (.d (.one (.v (.bool b)))):=by
 refine aN 36 [.tmp 4] Tryz.func92 rfl<|cR<|mO rfl<|mO rfl<|mW rfl<|mT<|au<|au ?_
 by_cases ht0:t 0=u 0
 ·refine aA<|mE 4 rfl<|mbF rfl (by rw [ht0];exact afO _)<|mT<|cFs rfl<|au<|cR<|mE 3 rfl<|mT<|aI<|dU (ι:=Nat) (fun (i:Nat)=>⟨36,[(2,.ptr 2 0),(3,.ptr 3 0),(18,.d (.agg ([vI (t 1),vI (t 2),vI (t 3),vI (t 4)]))),(19,dI (i:Int))],[(2,.box 28 (jL t)),(3,.box 28 (jL u))]⟩) (fun (i:Nat)=>i≤4∧∀ j,j≤i→t j=u j) (fun (i:Nat)=>4-i) 0 (⟨abR _,fun j hj=>by obtain rfl:j=0:=(by omega);exact ht0⟩) (wkv [3] [] ⟨fQ rfl (aG rfl),Pe⟩ trivial rfl rfl) ?_;rintro i hI;have hi:i≤4∧∀ j,j≤i→t j=u j:=hI
  show AW _ _ _ ⟨_,_,_⟩
  refine cR<|mW rfl<|mT<|au<|aW rfl (fun hc1=>?_) (fun hc1=>?_)
  ·refine aF<|tN<|au<|aI<|au ?_;have hi4:i=0∨i=1∨i=2∨i=3:=by have h0:=abM hc1;omega
   rcases hi4 with rfl | rfl | rfl | rfl
   ·by_cases htn:t 1=u 1
    ·exact aA<|mW rfl<|mX _ (Q9 (i:=0) rfl Tryz.underlying26 (aj _ _ rfl) rfl rfl (by decide) rfl)<|mE 2 rfl<|mT<|cR<|mE 3 rfl<|mX _ (kU (i:=0) (sz:=1) rfl Tryz.underlying26 Tryz.sizeOf3 rfl rfl (by decide))<|mW rfl<|mbF rfl (by rw [htn];exact afO _)<|mT<|cF rfl<|aF<|bN<|tN<|aA<|mV aj (dI ((0+1:Nat):Int)) (fM (dF (by omega)))<|mW rfl<|ak<|⟨(0+1),⟨by decide,fun j hj=>if q:j=1 then by rw [q];exact htn else hi.2 j (by omega)⟩,by decide,wkr rfl rfl⟩
    ·exact aA<|mW rfl<|mX _ (Q9 (i:=0) rfl Tryz.underlying26 (aj _ _ rfl) rfl rfl (by decide) rfl)<|mE 2 rfl<|mT<|cR<|mE 3 rfl<|mX _ (kU (i:=0) (sz:=1) rfl Tryz.underlying26 Tryz.sizeOf3 rfl rfl (by decide))<|mW rfl<|mbT rfl (afA.2 htn)<|mT<|cT rfl<|cR<|mE 3 rfl<|mX _ (kU (i:=0) (sz:=1) rfl Tryz.underlying26 Tryz.sizeOf3 rfl rfl (by decide))<|mW rfl<|mV aj (.d (.one (.v (.bool b)))) (bI (vS hb (vg (i:=1) (by decide) (fun j hj=>hi.2 j (by omega)) htn)))<|mW rfl<|mT<|aH<|bR<|tR<|tR<|bR<|tR<|rQ rfl (AV.le.rfl)
   ·by_cases htn:t 2=u 2
    ·exact aA<|mW rfl<|mX _ (Q9 (i:=1) rfl Tryz.underlying26 (aj _ _ rfl) rfl rfl (by decide) rfl)<|mE 2 rfl<|mT<|cR<|mE 3 rfl<|mX _ (kU (i:=1) (sz:=1) rfl Tryz.underlying26 Tryz.sizeOf3 rfl rfl (by decide))<|mW rfl<|mbF rfl (by rw [htn];exact afO _)<|mT<|cF rfl<|aF<|bN<|tN<|aA<|mV aj (dI ((1+1:Nat):Int)) (fM (dF (by omega)))<|mW rfl<|ak<|⟨(1+1),⟨by decide,fun j hj=>if q:j=2 then by rw [q];exact htn else hi.2 j (by omega)⟩,by decide,wkr rfl rfl⟩
    ·exact aA<|mW rfl<|mX _ (Q9 (i:=1) rfl Tryz.underlying26 (aj _ _ rfl) rfl rfl (by decide) rfl)<|mE 2 rfl<|mT<|cR<|mE 3 rfl<|mX _ (kU (i:=1) (sz:=1) rfl Tryz.underlying26 Tryz.sizeOf3 rfl rfl (by decide))<|mW rfl<|mbT rfl (afA.2 htn)<|mT<|cT rfl<|cR<|mE 3 rfl<|mX _ (kU (i:=1) (sz:=1) rfl Tryz.underlying26 Tryz.sizeOf3 rfl rfl (by decide))<|mW rfl<|mV aj (.d (.one (.v (.bool b)))) (bI (vS hb (vg (i:=2) (by decide) (fun j hj=>hi.2 j (by omega)) htn)))<|mW rfl<|mT<|aH<|bR<|tR<|tR<|bR<|tR<|rQ rfl (AV.le.rfl)
   ·by_cases htn:t 3=u 3
    ·exact aA<|mW rfl<|mX _ (Q9 (i:=2) rfl Tryz.underlying26 (aj _ _ rfl) rfl rfl (by decide) rfl)<|mE 2 rfl<|mT<|cR<|mE 3 rfl<|mX _ (kU (i:=2) (sz:=1) rfl Tryz.underlying26 Tryz.sizeOf3 rfl rfl (by decide))<|mW rfl<|mbF rfl (by rw [htn];exact afO _)<|mT<|cF rfl<|aF<|bN<|tN<|aA<|mV aj (dI ((2+1:Nat):Int)) (fM (dF (by omega)))<|mW rfl<|ak<|⟨(2+1),⟨by decide,fun j hj=>if q:j=3 then by rw [q];exact htn else hi.2 j (by omega)⟩,by decide,wkr rfl rfl⟩
    ·exact aA<|mW rfl<|mX _ (Q9 (i:=2) rfl Tryz.underlying26 (aj _ _ rfl) rfl rfl (by decide) rfl)<|mE 2 rfl<|mT<|cR<|mE 3 rfl<|mX _ (kU (i:=2) (sz:=1) rfl Tryz.underlying26 Tryz.sizeOf3 rfl rfl (by decide))<|mW rfl<|mbT rfl (afA.2 htn)<|mT<|cT rfl<|cR<|mE 3 rfl<|mX _ (kU (i:=2) (sz:=1) rfl Tryz.underlying26 Tryz.sizeOf3 rfl rfl (by decide))<|mW rfl<|mV aj (.d (.one (.v (.bool b)))) (bI (vS hb (vg (i:=3) (by decide) (fun j hj=>hi.2 j (by omega)) htn)))<|mW rfl<|mT<|aH<|bR<|tR<|tR<|bR<|tR<|rQ rfl (AV.le.rfl)
   ·by_cases htn:t 4=u 4
    ·exact aA<|mW rfl<|mX _ (Q9 (i:=3) rfl Tryz.underlying26 (aj _ _ rfl) rfl rfl (by decide) rfl)<|mE 2 rfl<|mT<|cR<|mE 3 rfl<|mX _ (kU (i:=3) (sz:=1) rfl Tryz.underlying26 Tryz.sizeOf3 rfl rfl (by decide))<|mW rfl<|mbF rfl (by rw [htn];exact afO _)<|mT<|cF rfl<|aF<|bN<|tN<|aA<|mV aj (dI ((3+1:Nat):Int)) (fM (dF (by omega)))<|mW rfl<|ak<|⟨(3+1),⟨by decide,fun j hj=>if q:j=4 then by rw [q];exact htn else hi.2 j (by omega)⟩,by decide,wkr rfl rfl⟩
    ·exact aA<|mW rfl<|mX _ (Q9 (i:=3) rfl Tryz.underlying26 (aj _ _ rfl) rfl rfl (by decide) rfl)<|mE 2 rfl<|mT<|cR<|mE 3 rfl<|mX _ (kU (i:=3) (sz:=1) rfl Tryz.underlying26 Tryz.sizeOf3 rfl rfl (by decide))<|mW rfl<|mbT rfl (afA.2 htn)<|mT<|cT rfl<|cR<|mE 3 rfl<|mX _ (kU (i:=3) (sz:=1) rfl Tryz.underlying26 Tryz.sizeOf3 rfl rfl (by decide))<|mW rfl<|mV aj (.d (.one (.v (.bool b)))) (bI (vS hb (vg (i:=4) (by decide) (fun j hj=>hi.2 j (by omega)) htn)))<|mW rfl<|mT<|aH<|bR<|tR<|tR<|bR<|tR<|rQ rfl (AV.le.rfl)
  ·refine dP<|tE<|tE<|bE<|tN<|au ?_;have hno:¬ Hu t u:=abp fun j hj=>hi.2 j (by have h0:=abL hc1;omega)
   obtain rfl:b=false:=Bool.eq_false_iff.2 (fun q=>hno (hb.1 q));exact aA<|mW rfl<|mT<|aH<|rQ rfl (AV.le.rfl)
 ·exact aA<|mE 4 rfl<|mbT rfl (afA.2 ht0)<|mT<|cT rfl<|cR<|mE 4 rfl<|mV aj (.d (.one (.v (.bool b)))) (bI (vS hb (vg (i:=0) (by decide) (fun j hj=>absurd hj (ab2 _)) ht0)))<|mW rfl<|mT<|aH<|tR<|rQ rfl (AV.le.rfl)
theorem L8{c:Nat→Int}{lo hi:Rat}(ho:vJ c lo hi)(hl:lg c≤5):aC Tryz.prog 27 [.agg (nO 4 c 1200 lo 1200 hi)] (.d (.agg (nO 4 c 1200 lo 1200 hi))):=by
 exact aN 12 [.cell 2 40] Tryz.func27 rfl<|cR<|mO rfl<|mO rfl<|mT<|cR<|mW rfl<|mB aj (.d (.one (.row 9 1 (fun i' j'=>((([.row 2 (lg c) (cO 4 c)]:List Lf) ++tn 1200 lo ++tn 1200 hi)[i'*9+j']?).getD (.v undef))))) rfl<|mY (aC.le (dl (GV ajT) iP) AV.le.rfl (agb (K:=4) (L:=1200) (X:=20000) (KC:=50000) (N:=5) (n:=1) (As:= [(c,lo,hi)]) rfl (by decide) (by decide) (fun i hi'=>by obtain rfl:i=0:=(by omega);exact ho) (fun i hi'=>by obtain rfl:i=0:=(by omega);exact hl) (by decide) (by decide) (by decide) (by decide) (by decide))) rfl<|mE 3 rfl<|mO rfl<|mZ rfl<|mW rfl<|mT<|cR<|mW rfl<|mZ rfl<|mT<|aH<|rQ rfl (AV.le.rfl)
section
variable {e f:ET} {a b:Nat}
theorem ajV(h:dG (kS e) (kS f)= -1):Eu e f a b:=Or.inl (by omega)
theorem ajX(h:dG (kS e) (kS f)=1):¬ Eu e f a b:=fun q=>by rcases q with q | ⟨q,_⟩ <;> omega
theorem aeW(h:dG (kS e) (kS f)=0)(ht:¬ OM e.1 f.1):Eu e f a b↔Hu e.1 f.1:=⟨fun q=>by rcases q with q | ⟨_,q | ⟨q,_⟩⟩;omega;exact q;exact absurd q ht,fun q=>Or.inr ⟨h,Or.inl q⟩⟩
theorem aeX(h:dG (kS e) (kS f)=0)(ht:OM e.1 f.1):Eu e f a b↔(a:Int) < (b:Int):=⟨fun q=>by rcases q with q | ⟨_,q | ⟨_,q⟩⟩;omega;exact absurd ht q.ne;omega,fun q=>Or.inr ⟨h,Or.inr ⟨ht,by omega⟩⟩⟩
end
theorem EC{pp x y:Value}{ev:Nat→ET}{S:HS}{a b:Nat}{c:Bool}(hE:∀ i,HE (ev i))(a0:a≠0)(a1:a≤S.n)(b0:b≠0)(b1:b≤S.n)(hN:S.n≤100000)(hc:c=true↔hL ev a b):fZ Tryz.prog 57 [.ptr 0 0,dI (a:Int),dI (b:Int)] (vw pp x y ev S) [0,1,2] [0,1,2] (fun r hp=>r= .d (.one (.v (.bool c)))∧hp=(vw pp x y ev S)):=by
 refine aLr 49 [.tmp 6] [(3,1),(4,2)] Tryz.func57 rfl rfl ?_;show AW _ _ _ ⟨_,_,_⟩
 refine cR<|mW rfl<|mT<|au<|cDs 22<|.cons (aB.V _ rfl) (by kernel_rfl)<|.cons (aB.X (.ptr 0 0) (cu rfl rfl)) (by kernel_rfl)<|pV rfl<|.cons (aB.Y x 3 1 rfl rfl rfl rfl rfl) (by kernel_rfl)<|.cons (aB.V _ rfl) (by kernel_rfl)<|.cons (aB.V (dI ((a-1:Nat):Int)) (fM ((eu (by omega) (by omega)).trans (by omega)))) (by kernel_rfl)<|.cons (aB.V (.dW 1 15 (a-1) 0) (qG (z:=((a-1:Nat):Int)) (n:=S.n) rfl rfl rfl rfl rfl rfl rfl (by omega) (by omega))) (by kernel_rfl)<|pV rfl<|pV rfl<|.cons (aB.V _ rfl) (by kernel_rfl)<|.cons (aB.X (.ptr 0 0) (cu rfl rfl)) (by kernel_rfl)<|pV rfl<|.cons (aB.Y x 3 1 rfl rfl rfl rfl rfl) (by kernel_rfl)<|.cons (aB.V _ rfl) (by kernel_rfl)<|.cons (aB.V (dI ((b-1:Nat):Int)) (fM ((eu (by omega) (by omega)).trans (by omega)))) (by kernel_rfl)<|.cons (aB.V (.dW 1 15 (b-1) 0) (qG (z:=((b-1:Nat):Int)) (n:=S.n) rfl rfl rfl rfl rfl rfl rfl (by omega) (by omega))) (by kernel_rfl)<|pV rfl<|pV rfl<|.cons (aB.N (.box 54 ([vI 0,vI 0,vI 0,vI 0,vI 0,.v (.slice none 0 0),.v (.bool false),.v (.slice none 0 0),.v (.bool false),.v (.slice none 0 0),.v (.bool false),.v (.slice none 0 0),.v (.bool false),.v (.slice none 0 0)])) rfl 7 rfl rfl) (by kernel_rfl)<|.cons (aB.N (.box 54 ([vI 0,vI 0,vI 0,vI 0,vI 0,.v (.slice none 0 0),.v (.bool false),.v (.slice none 0 0),.v (.bool false),.v (.slice none 0 0),.v (.bool false),.v (.slice none 0 0),.v (.bool false),.v (.slice none 0 0)])) rfl 8 rfl rfl) (by kernel_rfl)<|.cons (aB.S 7 (.box 54 (lK (ev (a-1)))) rfl rfl) (by kernel_rfl)<|.cons (aB.S 8 (.box 54 (lK (ev (b-1)))) rfl rfl) (by kernel_rfl)<|.nil<|mT<|au<|au ?_
 by_cases hm:(dG (kS (ev (a-1))) (kS (ev (b-1))))= -1
 ·obtain rfl:c=true:=hc.2 (ajV hm);exact aA<|mE 4 rfl<|mY (H8 (X:=20000) (KC:=50000) (N:=5) (hE (a-1)).v (hE (b-1)).v (by decide) (hE (a-1)).l5 (hE (b-1)).l5) rfl<|mT<|aI<|cR<|mbT rfl (aez.2 hm)<|mW rfl<|mT<|cT rfl<|cR<|mW rfl<|mT<|aH<|bR<|tR<|rLg [4,3,0] ⟨rfl,rfl⟩ (iJ rfl) rfl rfl rfl rfl rfl
 ·by_cases hp1:(dG (kS (ev (a-1))) (kS (ev (b-1))))=1
  ·obtain rfl:c=false:=Bool.eq_false_iff.2 (fun q=>ajX hp1 (hc.1 q));exact aA<|mE 4 rfl<|mY (H8 (X:=20000) (KC:=50000) (N:=5) (hE (a-1)).v (hE (b-1)).v (by decide) (hE (a-1)).l5 (hE (b-1)).l5) rfl<|mT<|aI<|cR<|mbF rfl (abX.2 hm)<|mW rfl<|mT<|cF rfl<|cR<|mbT rfl (aez.2 hp1)<|mW rfl<|mT<|cT rfl<|cR<|mW rfl<|mT<|aH<|bR<|tR<|rLg [4,3,0] ⟨rfl,rfl⟩ (iJ rfl) rfl rfl rfl rfl rfl
  ·have hz:(dG (kS (ev (a-1))) (kS (ev (b-1))))=0:=by have:=oz (kS (ev (a-1))) (kS (ev (b-1)));omega
   by_cases ht:OM (ev (a-1)).1 (ev (b-1)).1
   ·exact aA<|mE 4 rfl<|mY (H8 (X:=20000) (KC:=50000) (N:=5) (hE (a-1)).v (hE (b-1)).v (by decide) (hE (a-1)).l5 (hE (b-1)).l5) rfl<|mT<|aI<|cR<|mbF rfl (abX.2 hm)<|mW rfl<|mT<|cF rfl<|cR<|mbF rfl (abX.2 hp1)<|mW rfl<|mT<|cF rfl<|aF<|bN<|tN<|au<|cR<|mE 4 rfl<|mX _ (xT5 false rfl (Or.inl ⟨rfl,by rw [Ig.2 ht];rfl⟩) rfl rfl Tryz.eqGuardType28 Tryz.underlying28 Tryz.stoodInHeld28 (by decide) (by decide) rfl rfl rfl rfl Tryz.underlying3 Tryz.underlying26 Tryz.sizeOf3 Tryz.sizeOf26)<|mT<|cFs rfl<|cR<|mE 2 rfl<|mV aj (.d (.one (.v (.bool c)))) (bI (vS hc (aeX hz ht)))<|mW rfl<|mT<|aH<|rLg [4,3,0] ⟨rfl,rfl⟩ (iJ rfl) rfl rfl rfl rfl rfl
   ·exact aA<|mE 4 rfl<|mY (H8 (X:=20000) (KC:=50000) (N:=5) (hE (a-1)).v (hE (b-1)).v (by decide) (hE (a-1)).l5 (hE (b-1)).l5) rfl<|mT<|aI<|cR<|mbF rfl (abX.2 hm)<|mW rfl<|mT<|cF rfl<|cR<|mbF rfl (abX.2 hp1)<|mW rfl<|mT<|cF rfl<|aF<|bN<|tN<|au<|cR<|mE 4 rfl<|mX _ (xT5 true rfl (Or.inl ⟨rfl,by rw [Bool.eq_false_iff.2 (fun q=>ht (Ig.1 q))];rfl⟩) rfl rfl Tryz.eqGuardType28 Tryz.underlying28 Tryz.stoodInHeld28 (by decide) (by decide) rfl rfl rfl rfl Tryz.underlying3 Tryz.underlying26 Tryz.sizeOf3 Tryz.sizeOf26)<|mT<|cT rfl<|cR<|mE 4 rfl<|mY (af5 (b:=c) (hc.trans (aeW hz ht))) rfl<|mW rfl<|mT<|aH<|tR<|rLg [4,3,0] ⟨rfl,rfl⟩ (iJ rfl) rfl rfl rfl rfl rfl
theorem Kz{pp x y:Value}{ev:Nat→ET}{S:HS}{k h:Nat}(hk:k < S.m)(h0:h≠0)(h1:h≤S.n)(hN:S.n≤100000)(hM:S.m≤100000):fZ Tryz.prog 28 [.ptr 0 0,dI (k:Int),dI (h:Int)] (vw pp x y ev S) [0,1,2] [0,1,2] (fun r hp=>r= .ji []∧hp=(vw pp x y ev (S.lay k h))):=by
 have hE:True:=trivial;refine aLr 23 [] [(3,1),(4,2)] Tryz.func28 rfl rfl ?_;show AW _ _ _ ⟨_,_,_⟩
 exact cR<|mW rfl<|mX _ (cu rfl rfl)<|mE 2 rfl<|AL.wk (kR 9 4 2 rfl rfl rfl rfl)<|mE 2 rfl<|mV aj (.dW 2 1 k 0) (qG (z:=(k:Int)) (n:=S.m) rfl rfl rfl rfl rfl rfl rfl (by omega) (by omega))<|mZ rfl<|mT<|aA<|mW rfl<|mX _ (cu rfl rfl)<|mE 2 rfl<|AL.wk (kR 16 3 1 rfl rfl rfl rfl)<|mW rfl<|mV aj (dI ((h-1:Nat):Int)) (fM ((eu (by omega) (by omega)).trans (by omega)))<|mW rfl<|mV aj (dI ((k+1:Nat):Int)) (fM (dF (by omega)))<|mV aj (.dW 1 15 (h-1) 0) (qG (z:=((h-1:Nat):Int)) (n:=S.n) rfl rfl rfl rfl rfl rfl rfl (by omega) (by omega))<|mW rfl<|mSp aj (d:= .one (vI ((k+1:Nat):Int))) 1 (i:=(h-1)) (j:=14) rfl rfl rfl rfl rfl rfl (by decide)<|ak<|rLn (.ji []) (.ji []) [(0,.is pp (.box 81 ([.v x,.v y]))),(1,.is x (.row 84 15 ((S.lay k h).n) (dN ev (S.lay k h).pl))),(2,.is y (.row 3 1 ((S.lay k h).m) (dR (S.lay k h).tr)))] [(0,.ptr 0 0),(3,.wit 1),(4,.wit 2)] ⟨rfl,rfl⟩ (qN aj rfl AV.le.rfl) (wk (sl:= [(23,.ji []),(0,.ptr 0 0),(3,.wit 1),(4,.wit 2)]) (hp:= [(0,.is pp (.box 81 ([.v x,.v y]))),(1,.is x (.row 84 15 ((S.lay k h).n) (dN ev (S.lay k h).pl))),(2,.is y (.row 3 1 ((S.lay k h).m) (dR (S.lay k h).tr)))]) rfl ⟨hs rfl,hs rfl,hs rfl,hs rfl,Pe⟩ ⟨ho rfl,dX rfl (uU (Vg rfl)),dX rfl (uU (adx rfl)),Pe⟩ rfl) ⟨⟨0,_,rfl,rfl⟩,⟨3,_,rfl,rfl⟩,⟨4,_,rfl,rfl⟩,Pe⟩
theorem xq{pp x y:Value}{ev:Nat→ET}{S:HS}{h:Nat}(h0:h≠0)(h1:h≤S.n)(hN:S.n≤100000)(hpl:S.pl (h-1)≤100000):fZ Tryz.prog 49 [.ptr 0 0,dI (h:Int)] (vw pp x y ev S) [0,1,2] [0,1,2] (fun r hp=>r= dI (((S.pl (h-1):Nat):Int)-1)∧hp=(vw pp x y ev S)):=by
 refine aLr 26 [.tmp 4] [(2,1),(3,2)] Tryz.func49 rfl rfl ?_;show AW _ _ _ ⟨_,_,_⟩
 exact cR<|mW rfl<|mT<|au<|cR<|mW rfl<|mdF rfl (by omega)<|mE 3 rfl<|mX _ (cu rfl rfl)<|mE 2 rfl<|AL.wk (kR 12 2 1 rfl rfl rfl rfl)<|mW rfl<|mdF rfl (by omega)<|mW rfl<|mT<|cFs rfl<|cR<|mW rfl<|mX _ (cu rfl rfl)<|mE 2 rfl<|AL.wk (kR 19 2 1 rfl rfl rfl rfl)<|mW rfl<|mV aj (dI ((h-1:Nat):Int)) (fM ((eu (by omega) (by omega)).trans (by omega)))<|mV aj (.dW 1 15 (h-1) 0) (qG (z:=((h-1:Nat):Int)) (n:=S.n) rfl rfl rfl rfl rfl rfl rfl (by omega) (by omega))<|mE 2 rfl<|mV aj (dI (((S.pl (h-1):Nat):Int)-1)) (fM (eu (by omega) (by omega)))<|mW rfl<|mT<|aH<|rLg [3,2,0] ⟨rfl,rfl⟩ (iJ rfl) rfl rfl rfl rfl rfl
theorem Ia{pp x y:Value}{ev:Nat→ET}{S:HS}{z:Int}(hz1:z < 1∨(S.n:Int) < z):fZ Tryz.prog 49 [.ptr 0 0,dI z] (vw pp x y ev S) [0,1,2] [0,1,2] (fun r hp=>r= dI (-1)∧hp=(vw pp x y ev S)):=by
 refine aLr 26 [.tmp 4] [(2,1),(3,2)] Tryz.func49 rfl rfl ?_;show AW _ _ _ ⟨_,_,_⟩
 refine cR<|mW rfl<|mT<|au<|au ?_
 by_cases hz:z < 1
 ·exact aA<|mW rfl<|mdT rfl (by omega)<|mW rfl<|kQ rfl rfl<|kQ rfl rfl<|kQ rfl rfl<|kQ rfl rfl<|kQ rfl rfl<|kQ rfl rfl<|kQ rfl rfl<|mW rfl<|mT<|cT rfl<|cR<|mW rfl<|mT<|aH<|tR<|rLg [3,2,0] ⟨rfl,rfl⟩ (iJ rfl) rfl rfl rfl rfl rfl
 ·exact aA<|mW rfl<|mdF rfl (by omega)<|mE 3 rfl<|mX _ (cu rfl rfl)<|mE 2 rfl<|AL.wk (kR 12 2 1 rfl rfl rfl rfl)<|mW rfl<|mdT rfl (by omega)<|mW rfl<|mT<|cT rfl<|cR<|mW rfl<|mT<|aH<|tR<|rLg [3,2,0] ⟨rfl,rfl⟩ (iJ rfl) rfl rfl rfl rfl rfl
theorem KA{pp x y:Value}{ev:Nat→ET}{S:HS}:fZ Tryz.prog 15 [.ptr 0 0] (vw pp x y ev S) [0,1,2] [0,1,2] (fun r hp=>r= dI (S.m:Int)∧hp=(vw pp x y ev S)):=by
 refine aLr 8 [.tmp 2] [(1,1),(7,2)] Tryz.func15 rfl rfl ?_;show AW _ _ _ ⟨_,_,_⟩
 exact cR<|mW rfl<|mT<|cR<|mW rfl<|mX _ (cu rfl rfl)<|mE 2 rfl<|AL.wk (kR 6 7 2 rfl rfl rfl rfl)<|mE 2 rfl<|mT<|aH<|rLg [6,1,0] ⟨rfl,rfl⟩ (iJ rfl) rfl rfl rfl rfl rfl
theorem RN{pp x y:Value}{ev:Nat→ET}{S:HS}{h:Nat}(hE:∀ i,HE (ev i))(h0:h≠0)(h1:h≤S.n)(hN:S.n≤100000):fZ Tryz.prog 34 [.ptr 0 0,dI (h:Int)] (vw pp x y ev S) [0,1,2] [0,1,2] (fun r hp=>r= .d (.agg (lK (ev (h-1))))∧hp=(vw pp x y ev S)):=by
 refine aLr 20 [.cell 4 54] [(2,1),(3,2)] Tryz.func34 rfl rfl ?_;show AW _ _ _ ⟨_,_,_⟩
 exact cR<|mO rfl<|mT<|cR<|mW rfl<|mX _ (cu rfl rfl)<|mE 2 rfl<|AL.wk (kR 9 2 1 rfl rfl rfl rfl)<|mW rfl<|mV aj (dI ((h-1:Nat):Int)) (fM ((eu (by omega) (by omega)).trans (by omega)))<|mV aj (.dW 1 15 (h-1) 0) (qG (z:=((h-1:Nat):Int)) (n:=S.n) rfl rfl rfl rfl rfl rfl rfl (by omega) (by omega))<|mE 2 rfl<|mO rfl<|mZ rfl<|mT<|cR<|mE 2 rfl<|mY (L8 (hE (h-1)).v (hE (h-1)).l5) rfl<|mW rfl<|mZ rfl<|mT<|cR<|mW rfl<|mZ rfl<|mT<|aH<|rLg [3,2,0] ⟨rfl,rfl⟩ (qN aj rfl AV.le.rfl) rfl rfl rfl rfl rfl
theorem abB{s:AS}(t tw id:Nat){av:AV}(ht:Nat.ble (t+1) s.n=true)(hw:lk s.sl tw=some av)(hi:tZ av=some id):Wk s ⟨s.n,(t,.wit id) ::s.sl,s.hp⟩:=by
 rintro B0 w0 a w ⟨ρ,hc,hn,hdf,hs⟩;have ht':t < s.n:=ada ht;obtain ⟨u,_,hu⟩:=hs tw _ hw;exact ⟨ρ,hc,hn,hdf,pY hs (v:=a.tmps[t]'(by omega)) (by simp) (rP hi hu)⟩
theorem Tt{x:Value}{a b:AO}(h:AO.le a b):AO.le (.is x a) b:=fun _ _ _ _ k=>h _ _ _ _ k.2
theorem q2{n:Nat}(h:n≤200000):IntKind.i64.wrap (Int.tdiv (n:Int) 2)=((n / 2:Nat):Int):=by
 have:Int.tdiv (n:Int) 2=((n / 2:Nat):Int):=rfl;rw [this];exact eu (by omega) (by omega)
theorem UpQ.dn{lt:Nat→Nat→Prop}{S T:HS}{k:Nat}(h:UpQ lt S k true T)(o:∀ n,LO lt n):Fr lt T k false true:=by
 rcases h.fr with ⟨rfl,f⟩ | f
 ·exact f
 ·exact f.any (o _)
/-- An event out of a batch. -/
def kM(ev:Nat→ET)(gs:Nat→Nat):Nat→ET:=fun j=>ev (gs j-1)
theorem acD{ev:Nat→ET}{gs:Nat→Nat}{k t:Nat}:bY (kM ev gs) k (ev (t-1))=kM ev (bY gs k t):=by
 funext j;show (if j=k then ev (t-1) else ev (gs j-1))=ev ((if j=k then t else gs j)-1)
 split <;> rfl
theorem Vf{t:TypeId}{n h:Nat}{ev:Nat→ET}{gs:Nat→Nat}{el2:Nat→Nat→Lf}(h2:∀ j,j < 14→el2 0 j=((lK (ev (h-1)))[j]?).getD (.v undef)):AO.le (.row t 14 (n+1) (eU n (yP (kM ev gs)) el2)) (.row t 14 (n+1) (yP (kM ev (bY gs n h)))):=acD▸ads h2
/-- A batch's end. -/
structure Hz(ev:Nat→ET)(S:HS)(k:Nat)(gs:Nat→Nat)(T:HS):Prop where
 b:yA ev S k gs T
 e:T.m=0∨(k≠0∧dG (kS (ev (T.tr 0-1))) (kS (ev (gs 0-1)))≠0)
theorem Zu(lt:Nat→Nat→Prop)(f g:Nat→Nat)(hf:∀ i,f i=0):Hp lt ⟨0,f,0,g⟩:=⟨⟨fun k hk=>absurd hk (ab2 _),fun i hi=>absurd hi (ab2 _)⟩,fun i _ hi=>absurd hi (ab2 _),fun i _ hi=>absurd hi (ab2 _)⟩
section
variable {ev:Nat→ET} {S T:HS} {k h a b:Nat} {gs:Nat→Nat}
theorem akd(hE:∀ i,HE (ev i))(n:¬ hL ev a b):dG (kS (ev (b-1))) (kS (ev (a-1)))≤0:=by
 have h1:=je (hE (a-1)).cut (hE (b-1)).cut;have h2:¬ dG (kS (ev (a-1))) (kS (ev (b-1))) < 0:=fun q=>n (Or.inl q)
 omega
/-- The root is least. -/
theorem Hp.rt(hE:∀ i,HE (ev i))(hp:Hp (hL ev) S)(i:zT S h):dG (kS (ev (S.tr 0-1))) (kS (ev (h-1)))≤0:=akd hE (hp.first hE i)
theorem Hp.mi(hp:Hp (hL ev) S)(i:zT S h):S.m≠0:=fun e=>i.pl (hp.m0 e _ (by have:=i.h0;have:=i.hn;omega))
/-- A batch takes what is least. -/
theorem Hz.iff(hE:∀ i,HE (ev i))(hp:Hp (hL ev) S)(q:Hz ev S k gs T)(i:zT S h):zT T h↔dG (kS (ev (S.tr 0-1))) (kS (ev (h-1)))≠0:=by
 have cut:=fun a=>(hE (a-1)).cut
 refine ⟨fun j z=>?_,fun z=>?_⟩
 ·have hm:=q.b.hp.mi j
  obtain ⟨k0,ne⟩:=q.e.resolve_left hm;rw [q.b.h0 k0] at ne;have it:=q.b.hp.con.in (k:=0) (by omega);have h1:=hp.rt hE (q.b.inS it);have h2:=q.b.hp.rt hE j;obtain ⟨z1,_⟩:=YH (cut _) (cut _) (cut _) h1 h2 z;exact ne (by rw [je (cut _) (cut _),z1];rfl)
 ·refine ⟨i.h0,by rw [q.b.n];exact i.hn,fun e=>?_⟩
  rcases (q.b.pl (h-1) (by have:=i.h0;have:=i.hn;omega)).1 e with e | ⟨j,j1,j2⟩
  ·exact i.pl e
  ·have:=q.b.eq j j1
   rw [q.b.h0 (by omega),j2] at this;exact z (by rw [je (cut _) (cut _),this];rfl)
theorem JQ.m1(c:JQ T)(i:zT T a)(h:∀ b,zT T b→b=a):T.m=1:=by
 obtain ⟨h1,h2⟩:=i.at c;have:=i.pl
 by_cases e:T.m=1
 ·exact e
 ·have e0:=h _ (c.in (k:=0) (by omega))
  have e1:=h _ (c.in (k:=1) (by omega));exact absurd (by rw [e0,e1]) (c.ne (k:=0) (c:=1) (by omega) (by omega) (by decide))
end
theorem V3.all{S T:HS}(h:V3 S T)(a:∀ i,i < S.n→S.pl i≠0)(i:Nat)(hi:i < T.n):T.pl i≠0:=by
 rw [h.n] at hi
 by_cases e:i=S.n
 ·rw [e];exact h.pn
 ·exact fun q=>a i (by omega) ((h.pl i (by omega)).1 q)
/-! ### The example -/
theorem ah7{cl:Nat→Int}{n:Nat}{t:Rat}(hP:og cl n=kW t)(k:Int):dG (bK (Lu cl n k) (WY cl n k) (WX cl n k)) (fO t)=0:=by
 have h2:2≤lg (og cl n):=by rw [hP,oL];exact abJ _
 have hs:fG (og cl n)=kW t:=by rw [hP];exact adz t
 have hR:=Vw h2;rw [hs] at hR;have v0:=(aaB t).vc;rw [kZ Rat.le_refl] at v0;obtain ⟨x,m,_⟩:=hR.all _ (lQ t) v0;have hlen:(wX cl n).length≠0:=fun e=>by
  have e2:rtF (kW t) 56= []:=by rw [← hs];exact adb e
  first
   | rw [e2] at m;cases m
   | (rw [List.eq_nil_of_length_eq_zero e] at m;cases m)
 have eC:Lu cl n k=kW t:=by unfold Lu pkA;rw [if_pos ⟨h2,hlen⟩];exact hs
 have v:=(Qz cl n k).v;have z:=zN v.vc;have eF:FF (Lu cl n k)=FF (kW t):=by rw [eC]
 rw [eF,ahH v.ok.cut] at z;exact z
noncomputable def eW(l:List Int):ET:=((fun _=>0),Lu (FY l) 2 0,WY (FY l) 2 0,WX (FY l) 2 0)
theorem yw(l:List Int):HE (eW l):=⟨(Qz (FY l) 2 0).v,(Qz (FY l) 2 0).l5⟩
theorem ajR{l:List Int}{t:Rat}(h:og (FY l) 2=kW t):∀ q,kS (eW l) q↔fO t q:=vO (ah7 h 0)
theorem alC:og (FY [-1,1]) 2=kW 1:=funext fun i=>by
 match i with
 | 0=>decide
 | 1=>decide
 | i+2=>rw [Qy (FY [-1,1]) 2 (i+2) (by omega),zB 1 (i+2) (by omega)]
theorem alD:og (FY [-2,1]) 2=kW 2:=funext fun i=>by
 match i with
 | 0=>decide
 | 1=>decide
 | i+2=>rw [Qy (FY [-2,1]) 2 (i+2) (by omega),zB 2 (i+2) (by omega)]
theorem ajQ:dG (kS (eW [-1,1])) (kS (eW [-2,1]))= -1:=by
 rw [Ii (ajR alC) (ajR alD),UC];exact GN (by decide)
theorem aiE{ev:Nat→ET}{S T:HS}{k:Nat}{gs:Nat→Nat}(hE:∀ i,HE (ev i))(e0:ev 0=eW [-2,1])(e1:ev 1=eW [-1,1])(e2:ev 2=eW [-1,1])(hp:Hp (hL ev) S)(hn:S.n=3)(hm:S.m=3)(hpl:∀ i,i < 3→S.pl i≠0)(q:Hz ev S k gs T):k=2∧T.m=1:=by
 have hin:∀ h,h≠0→h≤3→zT S h:=fun h a b=>⟨a,by omega,hpl _ (by omega)⟩
 have ir:=hp.con.in (k:=0) (by omega);have h2:=hp.rt hE (hin 2 (by decide) (by decide));have e12:=ajQ;have e21:dG (kS (eW [-2,1])) (kS (eW [-1,1]))=1:=by rw [je (yw _).cut (yw _).cut,e12];rfl
 have er:ev (S.tr 0-1)=eW [-1,1]:=by
  have:=ir.h0;have:=ir.hn;have h3:S.tr 0=1∨S.tr 0=2∨S.tr 0=3:=by omega
  rcases h3 with h3 | h3 | h3
  ·rw [h3,e0,show (2:Nat)-1=1 from rfl,e1] at h2;omega
  ·rw [h3];exact e1
  ·rw [h3];exact e2
 have i1:zT T 1:=(q.iff hE hp (hin 1 (by decide) (by decide))).2 (by rw [er,e0,e12];decide);have hT:T.m=1:=q.b.hp.con.m1 i1 fun b ib=>by
  have:=ib.h0;have:=ib.hn;have:=q.b.n;have:=(q.iff hE hp (hin b (by omega) (by omega))).1 ib;rw [er] at this;have h3:b=1∨b=2∨b=3:=by omega
  rcases h3 with h3 | h3 | h3
  ·exact h3
  ·rw [h3,e1] at this;exact absurd (kN fun _=>Iff.rfl) this
  ·rw [h3,e2] at this;exact absurd (kN fun _=>Iff.rfl) this
 have:=q.b.m;exact ⟨by omega,hT⟩
section
open Go.RowKit Go.ChangeShapes Go.WideShapes
/-- Three numbers, a tag, a row. -/
abbrev Ro:=(Int×Int×Int)×(Nat→Int)×Nat×(Nat→Int)
abbrev acc(a:Ro):List Lf:= [vI a.1.1,vI a.1.2.1,vI a.1.2.2] ++jL a.2.1 ++ [ZK a.2.2.1 a.2.2.2]
abbrev vK(F:Nat→Ro):Nat→Nat→Lf:=fun i j=>((acc (F i))[j]?).getD (.v undef)
/-- Its numbers are as they come in. -/
structure Rn(a:Ro):Prop where
 d1: -9223372036854775808≤a.1.1
 d2:a.1.1≤9223372036854775807
 k1: -9223372036854775808≤a.1.2.1
 k2:a.1.2.1≤9223372036854775807
 h1: -9223372036854775808≤a.1.2.2
 h2:a.1.2.2≤9223372036854775807
 n:a.2.2.1≤9223372036854775807
 c:∀ i,i < a.2.2.1→-9223372036854775808≤a.2.2.2 i∧a.2.2.2 i≤9223372036854775807
section
variable {H:Type} {enc:TypeId×Value→H} {P:Program} {w:World}
theorem agy{t i ar:TypeId}{f0 f1:Field}{fuel:Nat}{c0 c1 c2 c3 c4:Value}{x:DataW H×List MemPlace}(hs:P.underlying t=some (.struct #[f0,f1]))(t0:f0.type=i)(t1:f1.type=ar)(ho:f0.offset=0∧f1.offset=1)(hi:P.underlying i=some (.int .i64))(ha:P.underlying ar=some (.array 4 i))(ci:P.cellsOf i=1)(ca:P.cellsOf ar=4) 
  (h:DataW.trod enc P w 0 (fun _=>true) true fuel t [c0,c1,c2,c3,c4]=some x):∃ a0 a1 a2 a3 a4:Int,c0= .int .i64 a0∧c1= .int .i64 a1∧c2= .int .i64 a2∧c3= .int .i64 a3∧c4= .int .i64 a4:=by
 obtain ⟨y0,y1,q,_,_,h0,h1⟩:=trod_struct2 hs h;obtain ⟨o0,o1⟩:=ho;rw [o0,t0,ci] at h0;rw [o1,t1,ca] at h1;obtain ⟨_,_,_,_,_,_,k1,k2,k3,k4⟩:=trod_array4 ha ci (show DataW.trod enc P w 0 (fun _=>true) true q ar [c1,c2,c3,c4]=some y1 from h1);obtain ⟨a0,e0,_⟩:=DataW.trod_int hi h0;obtain ⟨a1,e1,_⟩:=DataW.trod_int hi k1;obtain ⟨a2,e2,_⟩:=DataW.trod_int hi k2;obtain ⟨a3,e3,_⟩:=DataW.trod_int hi k3;obtain ⟨a4,e4,_⟩:=DataW.trod_int hi k4;exact ⟨a0,a1,a2,a3,a4,(afY e0).1,(afY e1).1,(afY e2).1,(afY e3).1,(afY e4).1⟩
theorem acy{t tt sl i ar:TypeId}{g0 g1 g2 g3 g4 f0 f1:Field}{fuel:Nat}{cs:List Value}{x:DataW H×List MemPlace}(hr:P.underlying t=some (.struct #[g0,g1,g2,g3,g4]))(u0:g0.type=i)(u1:g1.type=i)(u2:g2.type=i)(u3:g3.type=tt)(u4:g4.type=sl) 
  (hg:g0.offset=0∧g1.offset=1∧g2.offset=2∧g3.offset=3∧g4.offset=8) (hs:P.underlying tt=some (.struct #[f0,f1])) (t0:f0.type=i) (t1:f1.type=ar) (ho:f0.offset=0∧f1.offset=1) (hi:P.underlying i=some (.int .i64)) (ha:P.underlying ar=some (.array 4 i)) (hsl:P.underlying sl=some (.slice i)) (ci:P.cellsOf i=1) (ca:P.cellsOf ar=4) (ct:P.cellsOf tt=5) (cl:P.cellsOf sl=1) (hl:cs.length=9)
  (h:DataW.trod enc P w 0 (fun _=>true) true fuel t cs=some x):∃ a:Ro,ig nb w (acc a) cs∧Rn a:=by
 obtain ⟨xs,n,_,_,_,hlen,hf⟩:=DataW.trod_struct hr h;obtain ⟨o0,o1,o2,o3,o4⟩:=hg
 match xs,hlen with
 | [y0,y1,y2,y3,y4],_=>
 match cs,hl with
 | [c0,c1,c2,c3,c4,c5,c6,c7,c8],_=>
  have k0:=hf 0 g0 rfl;have k1:=hf 1 g1 rfl;have k2:=hf 2 g2 rfl;have k3:=hf 3 g3 rfl;have k4:=hf 4 g4 rfl;rw [o0,u0,ci] at k0;rw [o1,u1,ci] at k1;rw [o2,u2,ci] at k2;rw [o3,u3,ct] at k3;rw [o4,u4,cl] at k4;obtain ⟨d,e0,_,w0⟩:=DataW.trod_int hi k0;obtain ⟨k,e1,_,w1⟩:=DataW.trod_int hi k1;obtain ⟨hh,e2,_,w2⟩:=DataW.trod_int hi k2;obtain ⟨a0,a1,a2,a3,a4,q0,q1,q2,q3,q4⟩:=agy hs t0 t1 ho hi ha ci ca (show DataW.trod enc P w 0 (fun _=>true) true n tt [c3,c4,c5,c6,c7]=some y3 from k3);obtain ⟨v,m,c,e8,r8,b8,b9⟩:=acz hsl hi ci k4;obtain rfl:=(afY e0).1;obtain rfl:=(afY e1).1;obtain rfl:=(afY e2).1;obtain rfl:=(afY e8).1;subst q0;subst q1;subst q2;subst q3;subst q4;exact ⟨((d,k,hh),(fun j=> [a0,a1,a2,a3,a4].getD j 0),m,c),⟨⟨rfl,rfl⟩,⟨rfl,rfl⟩,⟨rfl,rfl⟩,⟨rfl,rfl⟩,⟨rfl,rfl⟩,⟨rfl,rfl⟩,⟨rfl,rfl⟩,⟨rfl,rfl⟩,r8,Pe⟩,(Cc w0).1,(Cc w0).2,(Cc w1).1,(Cc w1).2,(Cc w2).1,(Cc w2).2,b8,b9⟩
theorem Uy{r:Reach}{b0:Nat}{d:DataW H}{p:List MemPlace}{v:Value}{ts t tt sl i ar:TypeId}{g0 g1 g2 g3 g4 f0 f1:Field}(hts:P.underlying ts=some (.slice t))(hC:P.cellsOf t=9)(hr:P.underlying t=some (.struct #[g0,g1,g2,g3,g4]))(u0:g0.type=i)(u1:g1.type=i)(u2:g2.type=i)(u3:g3.type=tt)(u4:g4.type=sl) 
  (hg:g0.offset=0∧g1.offset=1∧g2.offset=2∧g3.offset=3∧g4.offset=8) (hs:P.underlying tt=some (.struct #[f0,f1])) (t0:f0.type=i) (t1:f1.type=ar) (ho:f0.offset=0∧f1.offset=1) (hi:P.underlying i=some (.int .i64)) (ha:P.underlying ar=some (.array 4 i)) (hsl:P.underlying sl=some (.slice i)) (ci:P.cellsOf i=1) (ca:P.cellsOf ar=4) (ct:P.cellsOf tt=5) (cl:P.cellsOf sl=1)
  (hv:Value.okWide P w r b0 ts v) (h:DataW.Trod enc P w 0 (fun _=>true) true ts v d p):∃ n F,dY nb w (.row 9 n (vK F)) v∧n≤9223372036854775807∧∀ j,Rn (F j):=by
 obtain ⟨a,len,cap,rfl⟩:=okWide_slice hts hv;obtain ⟨fuel,hf⟩:=h;rw [QH] at hf;have z0:Rn ((0,0,0),(fun _=>0),0,fun _=>0):=⟨by decide,by decide,by decide,by decide,by decide,by decide,by decide,fun i hi=>absurd hi (ab2 _)⟩;rcases Go.Deep.open_slice hts hf with ⟨hcs,_⟩ | ⟨a',len',cap',m,n,D,Pl,hcs,_,hl,hm,hmm,_,hx⟩
 ·obtain e:=(afY hcs).1
  rw [e];exact ⟨0,fun _=>((0,0,0),(fun _=>0),0,fun _=>0),⟨none,0,rfl,abJ _,fun _=>rfl,fun i hi=>absurd hi (ab2 _)⟩,abR _,fun _=>z0⟩
 ·obtain e:=(afY hcs).1
  rw [e];have hm2:m=cap':=by simpa using hmm
  have hmx:maxLen=9223372036854775807:=by decide
  have key:∀ j,j < len'→∃ F:Ro,(∃ b off,a'=⟨b,off,none⟩∧b < w.heap.size∧∀ q,q < 9→∃ c,w.cell? ⟨b,off+j*9+q,none⟩=some c∧dY nb w (((acc F)[q]?).getD (.v undef)) c)∧Rn F:=by
   intro j hj;have hfirst:∃ v0,w.cell? (a'.add 0)=some v0:=by
    obtain ⟨cs,h2,_⟩:=hx 0 (by omega);rw [hC] at h2;obtain ⟨_,hlen,hcell⟩:=World.cells?_some h2;have h3:=hcell 0 (by omega);rw [Nat.zero_mul,show (a'.add 0).add 0=a'.add 0 by simp [Addr.add]] at h3;exact ⟨_,h3.trans (afm (by omega))⟩
   obtain ⟨v0,hv0⟩:=hfirst;obtain ⟨b,off,rfl⟩:=Ba hv0;obtain ⟨cs,h2,h3⟩:=hx j (by omega);rw [hC] at h2;obtain ⟨_,hlen,hcell⟩:=World.cells?_some h2;obtain ⟨F,hls,hB⟩:=acy hr u0 u1 u2 u3 u4 hg hs t0 t1 ho hi ha hsl ci ca ct cl hlen h3;have hlt:b < w.heap.size:=by
    have h4:=hcell 0 (by omega);rw [vM,vM] at h4;exact World.block_lt_of_cell? w _ (h4.trans (afm (by omega)))
   refine ⟨F,⟨b,off,rfl,hlt,fun q hq=>?_⟩,hB⟩;have h4:=hcell q (by omega);rw [vM,vM] at h4;obtain ⟨c,hc1,hc2⟩:=hls.get (j:=q) (l:=((acc F)[q]?).getD (.v undef)) (by
    have hl9:(acc F).length=9:=rfl;rw [List.getElem?_eq_getElem (by omega)];rfl)
   exact ⟨c,h4.trans hc1,hc2⟩
  refine ⟨len',fun j=>if h:j < len' then (key j h).choose else ((0,0,0),(fun _=>0),0,fun _=>0),⟨some a',cap',rfl,hl,(fun e=>nomatch e),fun j hj=>?_⟩,by omega,fun j=>?_⟩
  ·obtain ⟨⟨b,off,rfl,h2,h3⟩,_⟩:=(key j hj).choose_spec
   refine ⟨b,off,rfl,fun h=>h.elim,h2,fun q hq=>?_⟩;obtain ⟨c,h4,h5⟩:=h3 q hq;refine ⟨c,h4,?_⟩;simp only [vK,dif_pos hj];exact h5
  ·by_cases hj:j < len'
   ·simp only [dif_pos hj];exact (key j hj).choose_spec.2
   ·simp only [dif_neg hj];exact z0
end
end
section
variable {s:AS}
theorem anj{K KC X Y:Nat}{c:Nat→Int}{lo hi:Rat}(t:Nat)(h:lk s.sl t=some (.d (.agg ([dM K (lg c) (rc c)] ++ [aX (aZ c KC) (fun L=>bn KC L)] ++qn X lo ++qn Y hi))))(z:bC c):∀ B0 w0 a w,Kv s B0 w0 a w→Db K c∧Qb X lo∧Qb Y hi:=by
 rintro B0 w0 a w ⟨ρ,hc,hn,hdf,hs⟩;obtain ⟨v,_,cs,_,hl⟩:=hs t _ h;exact QC z hl
end
theorem ahz{a b:AO}(h:a=b):AO.le a b:=h▸AO.le.rfl
/-- A picked number's ends stay as they are. -/
theorem aj1{c:Nat→Int}{lo hi:Rat}(h:EX c lo hi):AU c lo hi=(lo,hi):=if_neg fun q=>h.elim q.1 fun k=>k q.2
theorem Y9{c:Nat→Int}{X:Nat}{lo hi:Rat}(x:EX c lo hi)(h1:Qb 1200 lo)(h2:Qb 1200 hi):AV.le (.d (.agg ([.row 4 (lg c) (aJ 4 (rc c))] ++ [aX (aZ c 2916) (fun L=>bn 2916 L)] ++qn X ((AU c lo hi).1) ++qn X ((AU c lo hi).2)))) (.d (.agg ([.row 4 (lg c) (aJ 4 (rc c))] ++ [aX (aZ c 2916) (fun L=>bn 2916 L)] ++qn 1200 lo ++qn 1200 hi))):=by
 rw [aj1 x];exact oH (iy (iy (fun _ _ _ h=>h) (fF h1)) (fF h2))
/-- An event at a picked time. -/
structure BE(e:ET):Prop where
 o:PkP e.2.1 e.2.2.1 e.2.2.2
 q1:Qb 1200 e.2.2.1
 q2:Qb 1200 e.2.2.2
theorem BE.he{e:ET}(h:BE e):HE e:=⟨h.o.v,h.o.l5⟩
section
variable {ev:Nat→ET} {S T:HS} {k:Nat} {gs:Nat→Nat}
theorem Hz.k0(q:Hz ev S k gs T)(hm:S.m≠0):k≠0:=fun e=>by
 rcases q.e with h | h
 ·have:=q.b.z e
  rw [this] at h;exact hm h
 ·exact h.1 e
/-- What is left is later. -/
theorem Hz.lt(hE:∀ i,HE (ev i))(hp:Hp (hL ev) S)(q:Hz ev S k gs T)(h:Nat)(i:zT T h):dG (kS (kM ev gs 0)) (kS (ev (h-1))) < 0:=by
 have is:=q.b.inS i;have hm:=hp.mi is;have h1:=hp.rt hE is;have h2:=(q.iff hE hp is).1 i;show dG (kS (ev (gs 0-1))) _ < 0
 rw [q.b.h0 (q.k0 hm)];omega
end
/-- The last batch's time. -/
abbrev qcE(e:ET):List Lf:= [.row 4 (lg e.2.1) (aJ 4 (rc e.2.1))] ++ [aX (aZ e.2.1 2916) (fun L=>bn 2916 L)] ++qn 1200 e.2.2.1 ++qn 1200 e.2.2.2
/-- An item of the list: its handle, its event. -/
abbrev IT:=Nat×ET
abbrev FX(x:IT):List Lf:= [vI (x.1:Int)] ++jL x.2.1 ++qcE x.2
def fU(I:Nat→IT):Nat→Nat→Lf:=fun i j=>((FX (I i))[j]?).getD (.v undef)
def WJ(x y:IT):Prop:=Eu x.2 y.2 x.1 y.1
def JR(I:Nat→IT)(i:Nat):Nat→IT:=fun p=>if p < i then I p else I (p+1)
/-- The first item of a handle. -/
def Fnd(m:Nat)(I:Nat→IT)(z f:Int):Prop:=(f= -1∧∀ i,i < m→((I i).1:Int)≠z)∨∃ i:Nat,i < m∧f=(i:Int)∧((I i).1:Int)=z∧∀ j,j < i→((I j).1:Int)≠z
theorem Fnd.ex(I:Nat→IT)(z:Int):∀ m,∃ f,Fnd m I z f
 | 0=>⟨-1,Or.inl ⟨rfl,fun i hi=>absurd hi (ab2 _)⟩⟩
 | m+1=>by
  obtain ⟨f,h⟩:=Fnd.ex I z m;rcases h with ⟨h1,h2⟩ | ⟨i,h1,h2,h3,h4⟩
  ·by_cases e:((I m).1:Int)=z
   ·exact ⟨m,Or.inr ⟨m,afB _,rfl,e,h2⟩⟩
   ·exact ⟨-1,Or.inl ⟨rfl,fun i hi=>if q:i=m then q▸e else h2 i (by omega)⟩⟩
  ·exact ⟨f,Or.inr ⟨i,by omega,h2,h3,h4⟩⟩
theorem Fnd.at{m i:Nat}{I:Nat→IT}{z f:Int}(h:Fnd m I z f)(hi:i < m)(hz:((I i).1:Int)=z)(hl:∀ j,j < i→((I j).1:Int)≠z):f=(i:Int):=by
 rcases h with ⟨_,h⟩ | ⟨j,h1,h2,h3,h4⟩
 ·exact absurd hz (h i hi)
 ·rcases ag7 i j with e | e | e
  ·exact absurd hz (h4 i e)
  ·rw [h2,e]
  ·exact absurd h3 (hl j e)
theorem Fnd.no{m:Nat}{I:Nat→IT}{z f:Int}(h:Fnd m I z f)(hl:∀ j,j < m→((I j).1:Int)≠z):f= -1:=by
 rcases h with ⟨h,_⟩ | ⟨j,h1,h2,h3,h4⟩
 ·exact h
 ·exact absurd h3 (hl j h1)
/-- The least item. -/
def Bh(m:Nat)(I:Nat→IT)(f:Int):Prop:=(m=0∧f= -1)∨∃ j:Nat,j < m∧f=(j:Int)∧∀ i,i < m→i≠j→WJ (I j) (I i)
structure IOk(m:Nat)(I:Nat→IT):Prop where
 be:∀ i,i < m→BE (I i).2
 inj:∀ i j,i < m→j < m→(I i).1=(I j).1→i=j
section
variable {m:Nat} {I:Nat→IT}
theorem Bh.start:Bh 0 I (-1):=Or.inl ⟨rfl,rfl⟩
theorem Bh.z{f:Int}(h:Bh 0 I f):f= -1:=h.elim (fun h=>h.2) fun ⟨j,h,_⟩=>absurd h (ab2 _)
theorem Bh.k{f:Int}(h:Bh m I f)(hm:m≠0):∃ k:Nat,k < m∧f=(k:Int)∧∀ i,i < m→i≠k→WJ (I k) (I i):=h.resolve_left fun q=>hm q.1
theorem Bh.z0{f:Int}(h:Bh m I f)(hm:m=0):f= -1:=by rw [hm] at h;exact h.z
theorem Bh.one:Bh (0+1) I ((0:Nat):Int):=Or.inr ⟨0,Nat.zero_lt_one,rfl,fun i h1 h2=>by omega⟩
theorem Bh.up(o:IOk m I){i k:Nat}(hi:i < m)(hk:k < i)(h:∀ q,q < i→q≠k→WJ (I k) (I q))(l:WJ (I i) (I k)):Bh (i+1) I (i:Int):=
 Or.inr ⟨i,afB _,rfl,fun q h1 h2=>by
  have c:=fun a h=>(o.be a h).he.cut
  by_cases e:q=k
  ·rw [e];exact l
  ·exact Eu.trans (c i hi) (c k (by omega)) (c q (by omega)) l (h q (by omega) e)⟩
theorem Bh.stay(o:IOk m I){i k:Nat}(hi:i < m)(hk:k < i)(h:∀ q,q < i→q≠k→WJ (I k) (I q))(l:¬ WJ (I i) (I k)):Bh (i+1) I (k:Int):=
 Or.inr ⟨k,by omega,rfl,fun q h1 h2=>by
  have c:=fun a h=>(o.be a h).he.cut
  by_cases e:q=i
  ·rw [e]
   exact (Eu.tri (c i hi) (c k (by omega)) (fun h=>by have:=o.inj i k hi (by omega) h;omega)).resolve_left l
  ·exact h q (by omega) h2⟩
theorem Bh.uniq(o:IOk m I){f g:Int}(h:Bh m I f)(k:Bh m I g):f=g:=by
 rcases h with ⟨h1,h2⟩ | ⟨i,h1,h2,h3⟩ <;> rcases k with ⟨k1,k2⟩ | ⟨j,k1,k2,k3⟩
 ·rw [h2,k2]
 ·omega
 ·omega
 ·by_cases e:i=j
  ·rw [h2,k2,e]
  ·exact absurd (h3 j k1 (fun q=>e q.symm)) fun q=>Eu.asy (o.be i h1).he.cut (o.be j k1).he.cut q (k3 i h1 e)
theorem Bh.ex(o:IOk m I):∀ i,i≤m→∃ f,Bh i I f
 | 0,_=>⟨-1,.start⟩
 | i+1,hi=>by
  obtain ⟨f,h⟩:=Bh.ex o i (by omega);rcases h with ⟨h1,_⟩ | ⟨k,h1,_,h3⟩
  ·exact ⟨i,Or.inr ⟨i,afB _,rfl,fun q q1 q2=>by omega⟩⟩
  ·by_cases l:WJ (I i) (I k)
   ·exact ⟨_,.up o hi h1 h3 l⟩
   ·exact ⟨_,.stay o hi h1 h3 l⟩
end
/-- Heap and list have the same events. -/
structure PR(S:HS)(ev:Nat→ET)(last m:Nat)(I:Nat→IT):Prop where
 hE:∀ p,HE (ev p)
 hp:Hp (hL ev) S
 l:last=S.n
 c:m=S.m
 o:IOk m I
 inn:∀ i,i < m→zT S (I i).1
 ee:∀ i,i < m→ev ((I i).1-1)=(I i).2
 all:∀ h,zT S h→∃ i,i < m∧(I i).1=h
theorem aaY{m i:Nat}{I:Nat→IT}(o:IOk m I)(hi:i < m):IOk (m-1) (JR I i):=by
 have e:∀ p,JR I i p=I (if p < i then p else p+1):=fun p=>by unfold JR;split <;> rfl
 refine ⟨fun p hp=>?_,fun p q hp hq h=>?_⟩
 ·rw [e];exact o.be _ (by split <;> omega)
 ·rw [e,e] at h
  have:=o.inj _ _ (by split <;> omega) (by split <;> omega) h;split at this <;> split at this <;> omega
/-- What is left but for item i. -/
theorem Hg{m i:Nat}{I:Nat→IT}(hi:i < m){p:Nat}(hp:p < m-1):∃ q,q < m∧q≠i∧JR I i p=I q:=by
 unfold JR;split
 ·exact ⟨p,by omega,by omega,rfl⟩
 ·exact ⟨p+1,by omega,by omega,rfl⟩
theorem Ol{m i:Nat}{I:Nat→IT}{q:Nat}(hi:i < m)(hq:q < m)(hne:q≠i):∃ p,p < m-1∧JR I i p=I q:=by
 by_cases h:q < i
 ·exact ⟨q,by omega,if_pos h⟩
 ·exact ⟨q-1,by omega,by unfold JR;rw [if_neg (by omega),show q-1+1=q by omega]⟩
section
variable {S T:HS} {ev:Nat→ET} {last m i:Nat} {I:Nat→IT}
theorem PR.start{f g:Nat→Nat}(hE:∀ p,HE (ev p))(hf:∀ i,f i=0):PR ⟨0,f,0,g⟩ ev 0 0 I:=⟨hE,Zu _ _ _ hf,rfl,rfl,⟨fun i hi=>absurd hi (ab2 _),fun i j hi=>absurd hi (ab2 _)⟩,fun i hi=>absurd hi (ab2 _),fun i hi=>absurd hi (ab2 _),fun h i=>absurd (afR i.h0) (Nat.not_lt.2 i.hn)⟩
theorem PR.push{e:ET}(h:PR S ev last m I)(he:BE e)(hp:Hp (hL (bY ev S.n e)) T)(r:V3 S T):PR T (bY ev S.n e) (last+1) (m+1) (bY I m (S.n+1,e)):=by
 have e1:∀ p,p < m→bY I m (S.n+1,e) p=I p:=fun p hp=>if_neg (by omega)
 have e2:bY I m (S.n+1,e) m=(S.n+1,e):=if_pos rfl;have hb:∀ p,p < m→(I p).1≤S.n:=fun p hp=>(h.inn p hp).hn
 have z:∀ p,p < m→(I p).1≠0:=fun p hp=>(h.inn p hp).h0
 refine ⟨tJ (q:=HE) h.hE he.he,hp,by rw [r.n,h.l],by rw [r.m,h.c],⟨fun p hp=>?_,fun p q hp hq k=>?_⟩,fun p hp=>?_,fun p hp=>?_,fun g i=>?_⟩
 ·by_cases c:p=m
  ·rw [c,e2];exact he
  ·rw [e1 p (by omega)];exact h.o.be p (by omega)
 ·by_cases c:p=m <;> by_cases d:q=m
  ·rw [c,d]
  ·rw [c,e2,e1 q (by omega)] at k
   have:=hb q (by omega);have k':S.n+1=(I q).1:=k;omega
  ·rw [d,e2,e1 p (by omega)] at k
   have:=hb p (by omega);have k':(I p).1=S.n+1:=k;omega
  ·rw [e1 p (by omega),e1 q (by omega)] at k;exact h.o.inj p q (by omega) (by omega) k
 ·by_cases c:p=m
  ·rw [c,e2];exact ⟨Nat.succ_ne_zero _,by rw [r.n];exact abJ _,r.pn⟩
  ·rw [e1 p (by omega)]
   have i:=h.inn p (by omega);exact ⟨i.h0,by rw [r.n];exact Nat.le_succ_of_le i.hn,fun q=>i.pl ((r.pl _ (by have:=i.h0;have:=i.hn;omega)).1 q)⟩
 ·by_cases c:p=m
  ·rw [c,e2];exact if_pos rfl
  ·rw [e1 p (by omega)]
   have:=hb p (by omega);have:=z p (by omega);exact (if_neg (by omega)).trans (h.ee p (by omega))
 ·by_cases c:g=S.n+1
  ·exact ⟨m,afB _,by rw [e2,c]⟩
  ·have g0:=i.h0
   have gn:=i.hn;have rn:=r.n;obtain ⟨p,p1,p2⟩:=h.all g ⟨g0,by omega,fun q=>i.pl ((r.pl _ (by omega)).2 q)⟩;exact ⟨p,by omega,by rw [e1 p p1];exact p2⟩
theorem PR.drop(h:PR S ev last m I)(hi:i < m)(hp:Hp (hL ev) T)(r:Rq S (I i).1 T):PR T ev last (m-1) (JR I i):=by
 have ii:=h.inn i hi;have h0:=ii.h0;refine ⟨h.hE,hp,by rw [r.n,h.l],by have:=r.m;have:=h.c;omega,aaY h.o hi,fun p hp=>?_,fun p hp=>?_,fun g j=>?_⟩
 ·obtain ⟨q,q1,q2,q3⟩:=Hg (I:=I) hi hp
  rw [q3];have iq:=h.inn q q1;refine ⟨iq.h0,by rw [r.n];exact iq.hn,fun e=>?_⟩;have:=iq.h0;rcases (r.pl _ (by have:=iq.hn;omega)).1 e with e | e
  ·exact iq.pl e
  ·exact q2 (h.o.inj q i q1 hi (by omega))
 ·obtain ⟨q,q1,q2,q3⟩:=Hg (I:=I) hi hp
  rw [q3];exact h.ee q q1
 ·obtain ⟨j1,j2⟩:=r.in j
  obtain ⟨q,q1,q2⟩:=h.all g j1;obtain ⟨p,p1,p2⟩:=Ol (I:=I) (i:=i) hi q1 (fun e=>j2 (by rw [← q2,e]));exact ⟨p,p1,by rw [p2];exact q2⟩
theorem PR.set{a:AT}(h:PR S ev last m I)(hi:i < m)(he:BE ((I i).2.1,a))(hp:Hp (hL (bY ev ((I i).1-1) ((ev ((I i).1-1)).1,a))) T)(r:Kw S T):PR T (bY ev ((I i).1-1) ((ev ((I i).1-1)).1,a)) last m (bY I i ((I i).1,((I i).2.1,a))):=by
 have z:∀ p,p < m→(I p).1≠0:=fun p hp=>(h.inn p hp).h0
 have e0:∀ p,(bY I i ((I i).1,((I i).2.1,a)) p).1=(I p).1:=fun p=>by
  unfold bY;split
  ·rename_i c;rw [c]
  ·rfl
 have ie:=h.ee i hi;refine ⟨tJ (q:=HE) h.hE (by rw [ie];exact he.he),hp,by rw [r.n,h.l],by rw [r.m,h.c],⟨fun p hp=>?_,fun p q hp hq k=>?_⟩,fun p hp=>?_,fun p hp=>?_,fun g j=>?_⟩
 ·unfold bY
  split
  ·exact he
  ·exact h.o.be p hp
 ·rw [e0,e0] at k;exact h.o.inj p q hp hq k
 ·rw [e0];exact r.in (h.inn p hp)
 ·rw [e0]
  unfold bY
  by_cases c:p=i
  ·rw [c,if_pos rfl,if_pos rfl,ie]
  ·have:=z p hp
   have:=z i hi;rw [if_neg c,if_neg (fun q=>c (h.o.inj p i hp hi (by omega)))];exact h.ee p hp
 ·obtain ⟨p,p1,p2⟩:=h.all g ⟨j.h0,by rw [← r.n];exact j.hn,fun q=>j.pl ((r.pl _ (by have:=j.h0;have:=j.hn;have:=r.n;omega)).2 q)⟩
  exact ⟨p,p1,by rw [e0];exact p2⟩
/-- A handle that the list does not have. -/
theorem PR.out{z:Int}(h:PR S ev last m I)(hf:∀ p,p < m→((I p).1:Int)≠z):(z < 1∨(S.n:Int) < z)∨∃ g:Nat,z=(g:Int)∧g≠0∧g≤S.n∧S.pl (g-1)=0:=by
 by_cases c:z < 1∨(S.n:Int) < z
 ·exact Or.inl c
 ·refine Or.inr ⟨z.toNat,by omega,by omega,by omega,?_⟩
  apply abP;intro k;obtain ⟨p,p1,p2⟩:=h.all z.toNat ⟨by omega,by omega,k⟩;exact hf p p1 (by rw [p2];omega)
theorem PR.lt(h:PR S ev last m I){p q:Nat}(hp:p < m)(hq:q < m):WJ (I p) (I q)↔hL ev (I p).1 (I q).1:=by
 unfold WJ hL;rw [h.ee p hp,h.ee q hq]
/-- The list's least is the heap's root. -/
theorem PR.root{f:Int}(h:PR S ev last m I)(hf:Bh m I f)(hm:m≠0):∃ j:Nat,j < m∧f=(j:Int)∧(I j).1=S.tr 0:=by
 have hc:=h.c;rcases hf with ⟨h1,_⟩ | ⟨j,h1,h2,h3⟩
 ·exact absurd h1 hm
 ·obtain ⟨p,p1,p2⟩:=h.all _ (h.hp.con.in (k:=0) (by omega))
  by_cases e:p=j
  ·exact ⟨j,h1,h2,e▸p2⟩
  ·have:=(h.lt h1 p1).1 (h3 p p1 e)
   rw [p2] at this;exact absurd this (h.hp.first h.hE (h.inn j h1))
end
/-- While a batch is compared: r of it are gone from the list. -/
structure BR(ev:Nat→ET)(S T:HS)(k:Nat)(gs:Nat→Nat)(r m:Nat)(I:Nat→IT):Prop where
 rk:r≤k
 c:m+r=S.m
 o:IOk m I
 ee:∀ i,i < m→ev ((I i).1-1)=(I i).2
 inn:∀ i,i < m→zT T (I i).1∨∃ j,r≤j∧j < k∧gs j=(I i).1
 allT:∀ h,zT T h→∃ i,i < m∧(I i).1=h
 ajH:∀ j,r≤j→j < k→∃ i,i < m∧(I i).1=gs j
section
variable {S T:HS} {ev:Nat→ET} {last m r k:Nat} {I:Nat→IT} {gs:Nat→Nat}
theorem BR.start(h:PR S ev last m I)(q:Hz ev S k gs T):BR ev S T k gs 0 m I:=by
 refine ⟨abR _,h.c,h.o,h.ee,fun i hi=>?_,fun g j=>h.all g (q.b.inS j),fun j _ hj=>h.all _ (q.b.mem j hj)⟩;have ii:=h.inn i hi;have:=ii.h0;have:=ii.hn
 by_cases e:T.pl ((I i).1-1)=0
 ·rcases (q.b.pl _ (by omega)).1 e with e | ⟨j,j1,j2⟩
  ·exact absurd e ii.pl
  ·exact Or.inr ⟨j,abR _,j1,by have:=(q.b.mem j j1).h0;omega⟩
 ·exact Or.inl ⟨ii.h0,by rw [q.b.n];exact ii.hn,e⟩
theorem yA.mono(hE:∀ i,HE (ev i))(b:yA ev S k gs T)(j:Nat):∀ d,j+d < k→¬ hL ev (gs (j+d)) (gs j)
 | 0,hj=>fun q=>Eu.asy (hE _).cut (hE _).cut q q
 | d+1,hj=>by
  have m1:=b.mem j (by omega);have m2:=b.mem (j+d) (by omega);have m3:=b.mem (j+d+1) hj;exact (sN hE S.n).tra _ _ _ m1.h0 m2.h0 m3.h0 m1.hn m2.hn m3.hn (yA.mono hE b j d (by omega)) (b.up (j+d) hj)
theorem BR.lt(h:BR ev S T k gs r m I){p q:Nat}(hp:p < m)(hq:q < m):WJ (I p) (I q)↔hL ev (I p).1 (I q).1:=by
 unfold WJ hL;rw [h.ee p hp,h.ee q hq]
theorem BR.min{f:Int}(hE:∀ i,HE (ev i))(h:BR ev S T k gs r m I)(b:yA ev S k gs T)(hf:Bh m I f)(hr:r < k):∃ j:Nat,j < m∧f=(j:Int)∧(I j).1=gs r:=by
 obtain ⟨p,p1,p2⟩:=h.ajH r (abJ _) hr;rcases hf with ⟨h1,_⟩ | ⟨j,h1,h2,h3⟩
 ·omega
 ·by_cases e:p=j
  ·exact ⟨j,h1,h2,e▸p2⟩
  ·exfalso
   have hl:=(h.lt h1 p1).1 (h3 p p1 e);rw [p2] at hl;rcases h.inn j h1 with i | ⟨q,q1,q2,q3⟩
   ·exact b.lo r _ hr i hl
   ·obtain ⟨d,rfl⟩:∃ d,q=r+d:=⟨q-r,by omega⟩
    rw [← q3] at hl;exact b.mono hE r d q2 hl
theorem BR.step{j:Nat}(h:BR ev S T k gs r m I)(b:yA ev S k gs T)(hr:r < k)(hj:j < m)(hg:(I j).1=gs r):BR ev S T k gs (r+1) (m-1) (JR I j):=by
 have dis:∀ q,r≤q→q < k→gs q=gs r→q=r:=fun q q1 q2 q3=>by
  by_cases e:q=r
  ·exact e
  ·exact absurd q3.symm (b.inj r q (by omega) q2)
 have gT:¬ zT T (gs r):=fun i=>by
  have mr:=b.mem r hr;exact i.pl ((b.pl _ (by have:=mr.h0;have:=mr.hn;omega)).2 (Or.inr ⟨r,hr,rfl⟩))
 refine ⟨hr,by have:=h.c;omega,aaY h.o hj,fun p hp=>?_,fun p hp=>?_,fun g i=>?_,fun q q1 q2=>?_⟩
 ·obtain ⟨q,q1,q2,q3⟩:=Hg (I:=I) hj hp
  rw [q3];exact h.ee q q1
 ·obtain ⟨q,q1,q2,q3⟩:=Hg (I:=I) hj hp
  rw [q3];rcases h.inn q q1 with i | ⟨t,t1,t2,t3⟩
  ·exact Or.inl i
  ·refine Or.inr ⟨t,?_,t2,t3⟩
   by_cases e:t=r
   ·exact absurd (h.o.inj q j q1 hj (by rw [← t3,e,hg])) q2
   ·omega
 ·obtain ⟨q,q1,q2⟩:=h.allT g i
  obtain ⟨p,p1,p2⟩:=Ol (I:=I) (i:=j) hj q1 (fun e=>gT (by rw [← hg,← e,q2];exact i));exact ⟨p,p1,by rw [p2];exact q2⟩
 ·obtain ⟨t,t1,t2⟩:=h.ajH q (by omega) q2
  obtain ⟨p,p1,p2⟩:=Ol (I:=I) (i:=j) hj t1 (fun e=>by have:=dis q (by omega) q2 (by rw [← t2,e,hg]);omega);exact ⟨p,p1,by rw [p2];exact t2⟩
theorem BR.fin{m':Nat}{I0:Nat→IT}(h0:PR S ev last m' I0)(h:BR ev S T k gs r m I)(b:yA ev S k gs T)(hr:r=k):PR T ev last m I:=by
 have hc:=h.c;have hm:=b.m;refine ⟨h0.hE,b.hp,by rw [b.n,h0.l],by omega,h.o,fun i hi=>?_,h.ee,h.allT⟩;rcases h.inn i hi with i | ⟨j,j1,j2,_⟩
 ·exact i
 ·omega
theorem BR.gt{m':Nat}{I0:Nat→IT}(h0:PR S ev last m' I0)(h:BR ev S T k gs r m I)(q:Hz ev S k gs T)(hr:r=k){j:Nat}(hj:j < m):dG (kS (I j).2) (kS (kM ev gs 0))≠0:=by
 have p:=h.fin h0 q.b hr;have l:=q.lt h0.hE h0.hp _ (p.inn j hj);rw [h.ee j hj] at l;have e:=je (h.o.be j hj).he.cut (h0.hE (gs 0-1)).cut;show dG _ (kS (ev (gs 0-1)))≠0
 replace l:dG (kS (ev (gs 0-1))) (kS (I j).2) < 0:=l
 omega
theorem BR.eq0(h:BR ev S T k gs r m I)(b:yA ev S k gs T)(hr:r < k){j:Nat}(hj:j < m)(hg:(I j).1=gs r):dG (kS (I j).2) (kS (kM ev gs 0))=0:=by
 have e:=b.eq r hr;rw [← hg,h.ee j hj] at e;exact e
theorem BR.kM(h:BR ev S T k gs r m I){j:Nat}(hj:j < m)(hg:(I j).1=gs r):kM ev gs r=(I j).2:=by
 show ev (gs r-1)=_
 rw [← hg];exact h.ee j hj
theorem PR.bat(h:PR S ev last m I)(q:Hz ev S k gs T)(hm:S.m≠0):BE (kM ev gs 0):=by
 obtain ⟨i,h1,h2⟩:=h.all _ (q.b.mem 0 (afR (q.k0 hm)));show BE (ev (gs 0-1))
 rw [← h2,h.ee i h1];exact h.o.be i h1
end
section
open Go.RowKit Am
section
variable {P:Program} {T:TypeId→Option TI} {ops:Array Oper} {o:Oper} {Q:Qs} {s:AS}
theorem vH.congr{m:List (Nat×Nat)}{s s':AS}:∀ {xs:List Operand} {avs:List AV},(∀ x∈xs,dH s x=dH s' x)→vH m s xs avs→vH m s' xs avs
 | [],[],_,_=>trivial
 | x ::r,y ::avs,hx,⟨⟨a',b,h1,h2,h3⟩,h⟩=>⟨⟨a',b,(hx x (by simp)).symm.trans h1,h2,h3⟩,vH.congr (fun z hz=>hx z (by simp [hz])) h⟩
/-- A call that is lent objects, in such a region. -/
theorem MZ{Y:Type}{F:Y→Prop}{wV:Y→List (Nat×AO)}{r:DV}{c:Call}{f:FuncId}{args:List AV}{hp:List (Nat×AO)}{wi wo:List Nat}{Qc:AV→List (Nat×AO)→Prop}(h:fZ P f args hp wi wo Qc)(m:List (Nat×Nat))(ks kw JV:List Nat) 
  (hc:iw o.op=some c) (hf:ZL c.callee=some f) (ha:vH m s c.args.toList args)
  (hob:lM (fun p=>∃ ob' ob,lk s.hp p.2=some ob'∧lk hp p.1=some ob∧AO.le ob' ob∧ob.aaw=true) m)
  (hwi:lM (fun i=>∃ j,lk m i=some j) wi) (hwm:lM (fun p=>p.2∈JV) m)
  (hks:lM (fun p=>(ks.any fun k=>Nat.beq k p.2)=true∨∃ x b,lk s.hp p.2=some (.is x b)∧p.1∈wo∧∀ r hp',Qc r hp'→∃ d,lk hp' p.1=some (.is x d)) m)
  (hkw:lM (fun j=>∃ i,lk m i=some j∧i∈wo) kw) (hQ:∀ r' hp',Qc r' hp'→r'= .d r∧∃ y,F y∧VF m hp'=wV y) (hm:Ti m=true:=by rfl):EvL P s o F wV ks kw JV r:=by
 intro ρ B0 w0 w a hpS s' hext ZB hcr hs hal;have hop:=Ac hc;have ha':vH m s' c.args.toList args:=ha.congr fun x hx=>ZB x (by rw [hop];simp only [Op.operands,Call.operands];exact aiT.2 (Or.inr (by simpa using hx)))
 have wm:∀ {α:Type} {p q:α→Prop} {l:List α},lM p l→(∀ x,p x→q x)→lM q l:=by
  intro α p q l
  induction l with
  | nil=>intro _ _;trivial
  | cons x l ih=>intro h k;exact ⟨k x h.1,ih h.2 k⟩
 refine ⟨f,_,aa3 hs hc hf h.en,(ZW h m [] ks kw (hpS:=hpS) (wm hob fun p ⟨ob',ob,h1,h2⟩=>⟨ob',ob,hext _ _ h1,h2⟩) trivial (wm hks fun p hp=>hp.imp id fun ⟨x,b,h1,h2⟩=>⟨x,b,hext _ _ h1,h2⟩) hkw hm hcr (fun i hi=>?_) (fun ρc Bc hB hρ=>vH.ok hs hB hρ ha')).mono ?_⟩
 ·obtain ⟨j,hj⟩:=hwi.get i hi
  obtain ⟨v,hv⟩:=hal j (hwm.get _ (kK hj));exact ⟨j,v,hj,hv⟩
 ·rintro e w' ⟨v,ρ2,r',hp',rfl,hq,hc2,har,hwo,hno,hv⟩
  obtain ⟨rfl,y,hy,hx⟩:=hQ r' hp' hq;rw [List.nil_append,hx] at hc2;refine ⟨v,ρ2,y,rfl,hy,hc2,har,fun id u hu=>?_,hv⟩
  by_cases hj:∃ i,lk m i=some id
  ·obtain ⟨i,hi⟩:=hj
   exact hal id (hwm.get _ (kK hi))
  ·rw [hno id (fun i hi=>hj ⟨i,hi⟩)] at hu;exact ⟨u,hu⟩
/-- The state behind such a call. -/
def J7(ks kw:List Nat)(hpy:List (Nat×AO))(s:AS):AS:=⟨s.n,zx ks kw s.sl,hpy ++s.hp⟩
theorem Way.app{l:List Oper}{n:Nat}{st:Nat→AS}(h:Way l n st)(ks kw:List Nat)(hpy:List (Nat×AO)):Way l n fun i=>J7 ks kw hpy (st i):=by
 refine ⟨h.nn,fun i o d hi ho hd=>?_,fun i j hij hj id ob hk=>?_,fun i hi id ob hk=>?_⟩
 ·have e:=h.sl i o d hi ho hd
  show zx ks kw (st (i+1)).sl=(d,yj ⟨_,zx ks kw (st (i+1)).sl,_⟩) ::zx ks kw (st i).sl
  rw [e];rfl
 ·show lk (hpy ++(st j).hp) id=some ob
  replace hk:lk (hpy ++(st i).hp) id=some ob:=hk
  rw [uY] at hk ⊢;cases hq:lk hpy id with
  | some x=>rw [hq] at hk;exact hk
  | none=>rw [hq] at hk;exact h.hp i j hij hj id ob hk
 ·show (lk (hpy ++(st 0).hp) id).isSome=true∨_
  replace hk:lk (hpy ++(st i).hp) id=some ob:=hk
  rw [uY] at hk ⊢;cases hq:lk hpy id with
  | some x=>exact Or.inl rfl
  | none=>rw [hq] at hk;exact h.new i hi id ob hk
theorem JC.app{l:List Oper}{n N:Nat}{st:Nat→AS}(C:JC l n N st)(ks kw:List Nat)(hpy:List (Nat×AO)):JC l n N fun i=>J7 ks kw hpy (st i):=⟨C.hr,C.hnl,C.hD,C.way.app ks kw hpy⟩
theorem acB(ks kw:List Nat)(hpy:List (Nat×AO))(s:AS):yj (J7 ks kw hpy s)=DJ ks kw (yj s):=by
 obtain ⟨n,sl,hp⟩:=s;cases sl with
 | nil=>rfl
 | cons p sl=>obtain ⟨t,av⟩:=p;rfl
/-- Operations ahead of the call ox, or at any time. -/
inductive ChX (P:Program) (T:TypeId→Option TI) (ops:Array Oper) {Y:Type} (F:Y→Prop) (wV:Y→List (Nat×AO)) (ks kw:List Nat) (r:DV) (n x:Nat) (ox:Oper) (K:AS→Prop):Nat→List Oper→AS→Prop
 | nil {i:Nat} {s:AS} (h:K s):ChX P T ops F wV ks kw r n x ox K i [] s
 | cons {i:Nat} {o:Oper} {l:List Oper} {s s1:AS} (h:JY P T ops n o s s1) (hr:Ea ops 6 ox i=true) (hi:Nat.beq i x=false) (k:ChX P T ops F wV ks kw r n x ox K (i+1) l s1):ChX P T ops F wV ks kw r n x ox K i (o ::l) s
 | early {i:Nat} {o:Oper} {l:List Oper} {s s1:AS} (h:JY P T ops n o s s1) (h2:∀ y,F y→JY P T ops n o (J7 ks kw (wV y) s) (J7 ks kw (wV y) s1)) (hi:Nat.beq i x=false) (k:ChX P T ops F wV ks kw r n x ox K (i+1) l s1):ChX P T ops F wV ks kw r n x ox K i (o ::l) s
 | X {l:List Oper} {s:AS} (JV:List Nat) (h:EvL P s ox F wV ks kw JV r) (hw:XM ops n s JV) (hg:jC ops s ox=some true) (hd:kG ox.dst s.n=true) (k:ChX P T ops F wV ks kw r n x ox K (x+1) l (s.put ox.dst (.d r))):ChX P T ops F wV ks kw r n x ox K x (ox ::l) s
def StX(P:Program)(T:TypeId→Option TI)(ops:Array Oper){Y:Type}(F:Y→Prop)(wV:Y→List (Nat×AO))(ks kw:List Nat)(r:DV)(n x:Nat)(ox:Oper)(st:Nat→AS)(i j:Nat)(o:Oper):Prop:=(i=x∧o=ox∧∃ JV,EvL P (st j) ox F wV ks kw JV r∧XM ops n (st j) JV∧jC ops (st j) ox=some true∧st (j+1)=(st j).put ox.dst (.d r))∨(i≠x∧JY P T ops n o (st j) (st (j+1))∧(Ea ops 6 ox i=true∨∀ y,F y→JY P T ops n o (J7 ks kw (wV y) (st j)) (J7 ks kw (wV y) (st (j+1)))))
theorem ChX.st{Y:Type}{F:Y→Prop}{wV:Y→List (Nat×AO)}{ks kw:List Nat}{r:DV}{n x:Nat}{ox:Oper}{K:AS→Prop}{i:Nat}{l:List Oper}(h:ChX P T ops F wV ks kw r n x ox K i l s):∃ st:Nat→AS,st 0=s∧K (st l.length)∧∀ j o,l[j]?=some o→StX P T ops F wV ks kw r n x ox st (i+j) j o:=by
 have one:∀ {i:Nat} {o:Oper} {l:List Oper} {s:AS} {st:Nat→AS},(∀ j o,l[j]?=some o→StX P T ops F wV ks kw r n x ox st (i+1+j) j o)→StX P T ops F wV ks kw r n x ox (fun | 0=>s | j+1=>st j) i 0 o→∀ j o',(o ::l)[j]?=some o'→StX P T ops F wV ks kw r n x ox (fun | 0=>s | j+1=>st j) (i+j) j o':=by
  intro i o l s st h3 h4 j o' ho;cases j with
  | zero=>
   obtain rfl:o=o':=by simpa using ho
   exact h4
  | succ j=>
   have:=h3 j o' (by simpa using ho);rw [show i+1+j=i+(j+1) by omega] at this;exact this
 have ne:∀ {i:Nat},Nat.beq i x=false→i≠x:=fun h e=>by rw [e,Nat.beq_refl] at h;cases h
 induction h with
 | nil h=>rename_i s;exact ⟨fun _=>s,rfl,h,fun i o h=>by simp at h⟩
 | cons h hr hi k ih=>
  obtain ⟨st,h1,h2,h3⟩:=ih;refine ⟨fun | 0=>_ | j+1=>st j,rfl,h2,one h3 (Or.inr ⟨ne hi,?_,Or.inl hr⟩)⟩;show JY _ _ _ _ _ _ (st 0)
  rw [h1];exact h
 | early h he hi k ih=>
  obtain ⟨st,h1,h2,h3⟩:=ih;refine ⟨fun | 0=>_ | j+1=>st j,rfl,h2,one h3 (Or.inr ⟨ne hi,?_,Or.inr fun y hy=>?_⟩)⟩
  ·show JY _ _ _ _ _ _ (st 0)
   rw [h1];exact h
  ·show JY _ _ _ _ _ _ (J7 _ _ _ (st 0))
   rw [h1];exact he y hy
 | X JV h hw hg hd k ih=>
  obtain ⟨st,h1,h2,h3⟩:=ih;exact ⟨fun | 0=>_ | j+1=>st j,rfl,h2,one h3 (Or.inl ⟨rfl,rfl,JV,h,hw,hg,h1⟩)⟩
theorem Yo(hT:zU P T){id:Nat}{l:List Oper}(n x:Nat)(ls:List Nat){Y:Type}(F:Y→Prop)(wV:Y→List (Nat×AO))(ks kw:List Nat)(r:DV){ox:Oper}(hx:l[x]?=some ox)(hxn:Nat.ble (x+1) n=true)(hm:P.follows .mixedOrders=true)(hB:O5 l.toArray n s.n ls=true)(hD:MS l.toArray n=true)(hP:∀ c s,¬ Q (.panic c) s) 
  (h:ChX P T l.toArray F wV ks kw r n x ox (fun s1=>∀ y,F y→AL P l.toArray Q (l.drop n) (J7 ks kw (wV y) s1)) 0 (l.take n) s):AW P (.region id l.toArray true) Q s:=by
 rintro B0 w0 a0 w ⟨ρ0,hc0,hn0,uQ,hs0⟩;obtain ⟨hB,hL⟩:=MK hB;have hB':=hB;obtain ⟨⟨⟨⟨hsel,Nr⟩,Ko⟩,_⟩,_⟩:=hB';have hnl:n≤l.length:=by simpa using Ko
 have hxn:=ada hxn;obtain ⟨st,Tf,P7,hop0⟩:=h.st;have hlen:(l.take n).length=n:=by simp;omega
 rw [hlen] at P7;have hop:∀ i o,i < n→l[i]?=some o→StX P T l.toArray F wV ks kw r n x ox st i i o:=fun i o hi ho=>by have:=hop0 i o (by rw [List.getElem?_take,if_pos hi];exact ho);rwa [Nat.zero_add] at this
 have C:JC l n s.n st:=⟨Ec Nr,hnl,hD,al4 hnl fun i hi=>by
  have ho:l[i]?=some (l[i]'(by omega)):=by simp
  obtain ⟨d,hdd⟩:=Di hD i (l[i]'(by omega)) hi (by simp);rcases hop i _ hi ho with ⟨_,e,_,_,_,_,h1⟩ | ⟨_,h1,_⟩
  ·rw [e] at hdd
   rw [h1,hdd];exact ⟨_,d,ho,by rw [e];exact hdd,rfl,rfl,Or.inl rfl⟩
  ·exact ⟨_,d,ho,hdd,h1.shape hdd⟩⟩
 subst Tf;obtain ⟨J,hJd⟩:∃ J:(Nat→Prop)→(Nat→Value)→World→Prop,J=fun D vs w=>(¬ D x∧Jr l n st B0 w0 a0 D vs w)∨(D x∧∃ y,F y∧Jr l n (fun i=>J7 ks kw (wV y) (st i)) B0 w0 a0 D vs w):=⟨_,rfl⟩
 refine rG (J:=J) n (st 0).n hm hn0 uQ hB (fun i hi h=>⟨hL i h,fun c a w d v ⟨s',hq,_⟩=>absurd hq (hP c s')⟩) (fun D D' vs vs' w h hDD hv=>?_) (by rw [hJd];exact Or.inl ⟨fun q=>q,C.start hc0 hs0⟩) ?_ (fun D vs w' hall hJ=>?_)
 ·rw [hJd] at h ⊢
  rcases h with ⟨h1,h2⟩ | ⟨h1,y,hy,h2⟩
  ·exact Or.inl ⟨fun q=>h1 ((hDD x hxn).2 q),h2.congr _ _ _ _ _ hDD hv⟩
  ·exact Or.inr ⟨(hDD x hxn).1 h1,y,hy,h2.congr _ _ _ _ _ hDD hv⟩
 ·intro i o hi ho D vs w' hni uG yD hJ
  have dX:l[i]?=some o:=by simpa using ho
  have hxo:l.toArray[x]?=some ox:=by simpa using hx
  rcases hop i o hi dX with ⟨rfl,rfl,JV,he,hw,hg,hst⟩ | ⟨hne,h1,h2⟩
  ·rw [hJd] at hJ
   replace hJ:=(hJ.resolve_right fun q=>hni q.1).2
   obtain ⟨d,hd⟩:=C.dst i o hi dX;have hdN:=C.hr.dst i o d hi ho hd;have hA:=lJ (a0:=a0) (ops:=l.toArray) rfl C.hr hn0 C.hnl vs i (adC hi);obtain ⟨ρ,hc,q2,q3,q4⟩:=hJ;have hSl:=C.see hn0 hi ho hni uG yD q3 q4;rw [VH (st i) o l.toArray] at hg;obtain ⟨f,us,hrun,hcl⟩:=he ρ B0 w0 w' (fB (l.take i) 0 a0 vs) _ ⟨(st i).n,_,(st i).hp⟩ (C.way.hp i n (adC hi) (abJ _)) (VG (st i) o l.toArray) hc hSl (C.wit (adC hi) hw q3);refine gX (dZ hg hSl) ?_;unfold Oper.wp;rw [hrun];refine hcl.mono ?_;rintro e w2 ⟨v,ρ2,y,rfl,hy,hc2,har,hdm,hv⟩;refine ⟨by rw [hd];exact hA.defs.trans uQ,?_⟩;rw [Am.rM hd (by rw [hA.size,hn0];exact hdN),hJd];refine Or.inr ⟨Or.inr rfl,y,hy,ρ2,hc2,fun id u hu=>?_,fun t av ht hno=>?_,fun k hk' gJ=>?_⟩
   ·obtain ⟨u',hu'⟩:=hdm id u hu
    rcases q2 id u' hu' with h5 | ⟨k,ok,hk',gJ,h5⟩
    ·refine Or.inl ?_
     show (lk (wV y ++(st 0).hp) id).isSome=true
     rw [uY];cases lk (wV y) id with
     | some _=>rfl
     | none=>exact h5
    ·exact Or.inr ⟨k,ok,hk',Or.inl gJ,h5⟩
   ·obtain ⟨kV,h5,rfl⟩:=Jc ht
    obtain ⟨u,h6,h7⟩:=q3 t kV h5 (fun k o hk ho gJ=>hno k o hk ho (Or.inl gJ));exact ⟨u,h6,har _ _ h7⟩
   ·rw [acB]
    unfold tq
    by_cases e:k=i
    ·rw [if_pos e,e,hst,hd];exact hv
    ·rw [if_neg e]
     rcases gJ with gJ | gJ
     ·exact har _ _ (q4 k hk' gJ)
     ·exact absurd gJ e
  ·rw [hJd] at hJ
   rcases hJ with ⟨h3,hJ⟩ | ⟨h3,y,hy,hJ⟩
   ·exact C.step hT hn0 uQ hi ho h1 hni uG yD hJ (fun vs w hj=>by rw [hJd];exact Or.inl ⟨fun q=>q.elim h3 (fun e=>hne e.symm),hj⟩)
   ·rcases h2 with h2 | h2
    ·exact absurd (Eb yD 6 ox i (yD x ox hxo h3) h2) hni
    ·exact (C.app ks kw (wV y)).step hT hn0 uQ hi ho (h2 y hy) hni uG yD hJ (fun vs w hj=>by rw [hJd];exact Or.inr ⟨Or.inl h3,y,hy,hj⟩)
 ·rw [hJd] at hJ
  rcases hJ with ⟨h3,_⟩ | ⟨_,y,hy,hJ⟩
  ·exact absurd (hall x hxn) h3
  ·exact P7 y hy B0 w0 _ w' ((C.app ks kw (wV y)).fin hn0 rfl uQ hall hJ)
end
/-! ### Rows that are copied, named, frozen -/
section
variable {P:Program} {T:TypeId→Option TI} {ops:Array Oper} {o:Oper} {Q:Qs} {s:AS}
/-- A call that answers a fresh own row, in such a region. -/
theorem aj0{c:Call}{f:FuncId}{ds:List DV}{e:TypeId}{sz n:Nat}{el:Nat→Nat→Lf}(h:wZ P f ds e sz n el)(hc:iw o.op=some c)(hf:ZL c.callee=some f)(ha:qQ s c.args.toList=some ds):EvR P s o (.row e sz n el):=by
 intro ρ B0 w0 w a hp s' hext ZB hcr hs;have hop:=Ac hc;rw [qB _ (fun x hx=>ZB x (by rw [hop];simp only [Op.operands,Call.operands];exact Array.mem_append.2 (Or.inr (by simpa using hx))))] at ha;obtain ⟨vs,hvs,hr⟩:=wO (cap:= []) hs hc (E5 hf) ha h.en;rw [List.append_nil] at hvs;refine Or.inr ⟨f,_,hr,(h.go (Bd ρ B0) w vs hcr.MN hvs).mono ?_⟩;rintro r w' ⟨v,rfl,hb,xs,hown,hel⟩;have hv:∀ b,jd v=some b→w.heap.size≤b:=fun b e=>(hown.2 b e).elim id (fun h=>h.elim)
 refine ⟨v,rfl,hb,hv,fun d hρ=>?_⟩;have hB:∀ b,Bd (up ρ d v) B0 b→Bd ρ B0 b∨jd v=some b:=by
  rintro b (h1 | ⟨id,u,h1,h2⟩)
  ·exact Or.inl (Or.inl h1)
  ·unfold up at h1
   split at h1
   ·cases h1;exact Or.inr h2
   ·exact Or.inl (Or.inr ⟨id,u,h1,h2⟩)
 exact ⟨xs,⟨hown.1,fun b hb=>Or.inl (acS hcr.bel.size (hv b hb))⟩,fun i j hi hj=>let ⟨x,hx,hl⟩:=hel i j hi hj;⟨x,hx,dY.mv ⟨abJ _,fun _ _ _=>rfl⟩ (fun b _ hb=>hB b hb) _ hl⟩⟩
/-- The row y can be copied: m elements el. -/
def aja(s:AS)(y:Operand)(sz m:Nat)(el:Nat→Nat→Lf):Prop:=∀ (hp:List (Nat×AO)) (ρ:kL) (B0:BS) (w0:Wz) (w:World) (a:Act) (s':AS),Ext s.hp hp→dH s y=dH s' y→eY ρ B0 w0 w hp→fD ρ (Bd ρ B0) w s'.sl a→
 ∃ ao c,∃ news:List Value,a.eval y= .slice ao m c∧news.length=m*sz∧(ao=none→c=0)∧m≤c∧ng w ao news∧∀ i j,i < m→j < sz→∃ x,news[i*sz+j]?=some x∧dY (Bd ρ B0) w (el i j) x
theorem afG{y:Operand}{id:Nat}{e:TypeId}{sz m:Nat}{el:Nat→Nat→Lf}(hy:dH s y=some (.own id))(ho:unO (lk s.hp id)=some (.row e sz m el)):aja s y sz m el:=by
 intro hp ρ B0 w0 w a s' hext he hc hs;obtain ⟨aS,_⟩:AR ρ (Bd ρ B0) w (.own id) (a.eval y):=bQ hs (he.symm.trans hy);obtain ⟨ob,o1,o2⟩:=hc.obj id _ aS;cases hq:lk s.hp id with
 | none=>rw [hq] at ho;cases ho
 | some ob'=>
  rw [hext id ob' hq] at o1;have o4:ob'=ob:=afZ o1;rw [← o4] at o2;rw [hq] at ho;have hu:ob'.un= .row e sz m el:=afZ ho;have o3:=o2.un;rw [hu] at o3;generalize a.eval y=v at o3;obtain ⟨xs,⟨⟨hxl,hown⟩,hbk⟩,hel⟩:=o3;rcases hown with ⟨rfl,h0⟩ | ⟨g,cap,cur,rfl,hge,hblk,hn,hm,hsz',htk⟩
  ·subst h0
   exact ⟨none,0,xs,rfl,hxl,fun _=>rfl,abJ _,Or.inl (adb (by rw [hxl,Nat.zero_mul])),hel⟩
  ·refine ⟨_,cap,xs,rfl,hxl,fun h=>(by cases h),hn,Or.inr ⟨g,0,rfl,fun j hj=>?_⟩,hel⟩
   rw [Nat.zero_add,cell_of_row w g _ cur _ (0,0) hblk,← Array.getElem?_toList];have hx1:xs[j]?=some xs[j]:=afm hj;generalize xs[j]=z at hx1 ⊢;rw [← htk,List.getElem?_take] at hx1;split at hx1
   ·exact hx1
   ·cases hx1
theorem ajZ(hT:zU P T){c:Call}{x y:Operand}{t t2 e e2:TypeId}{ti ti2 te:TI}{sz m Rj:Nat}{el2:Nat→Nat→Lf} 
  (hx:dH s x=some (.d (.one (.v (.slice none 0 0))))) (hc:iw o.op=some c) (uP:c.callee= .builtin .append) (hargs:c.args.toList= [x,y]) (hty:c.argTypes.toList= [t,t2]) (ZE:T t2=some ti2) (he2:ti2.elem=some e2) (hti:T t=some ti) (he:ti.elem=some e) (hte:T e=some te) (hz:Nat.beq te.zero.length te.n=true) (h0:Nat.ble 1 te.n=true) (hy:aja s y te.n m el2) (hsz:te.n=sz) (hbt:te.bytes=Rj) (hbd:m*Rj≤140737488355328) (hmx:m≤9223372036854775807):EvR P s o (.row e sz m el2):=by
 intro ρ B0 w0 w a hp s' hext ZB hcr hs;rw [← hbt] at hbd;subst hsz;have hop:=Ac hc;have hop2:∀ z∈c.args.toList,dH s z=dH s' z:=fun z hz=>ZB z (by rw [hop];simp only [Op.operands,Call.operands];exact aiT.2 (Or.inr (by simpa using hz)))
 have hxe:a.eval x= .slice none 0 0:=(bQ hs ((hop2 x (by rw [hargs];simp)).symm.trans hx)).1;obtain ⟨ao,cc,news,hye,hnl,hnil,hmc,hsrc,IK⟩:=hy hp ρ B0 w0 w a s' hext (hop2 y (by rw [hargs];simp)) hcr hs;obtain ⟨i,z,dd,h1,h2,h3,h4,h5,h6,h7,h8,h9,_⟩:=cZ (hT _ _ hti);have:=h9 e he;subst this;obtain ⟨i',z',dd',k1,k2,k3,k4,k5,k6,k7,_⟩:=cZ (hT _ _ hte);have hzl:te.zero.length=te.n:=abO hz;have hsz:0 < te.n:=ada h0;have hzs:z'.cells.size=te.n:=by rw [← hzl,← k5];simp
 have hone:∀ u∈news,u.oneCell'=true:=by
  intro u hu;obtain ⟨q,hq,rfl⟩:=List.mem_iff_getElem.1 hu;rw [hnl] at hq;have hdiv:q / te.n < m:=afX (by rw [Nat.mul_comm];exact hq);obtain ⟨u,hu1,hu2⟩:=IK (q / te.n) (q%te.n) hdiv (adl _ hsz);rw [Nat.mul_comm,Nat.div_add_mod] at hu1;obtain ⟨_,hu3⟩:=abU.1 hu1;rw [hu3];exact hu2.one
 have hown:w.ownsRow 0 e te.n (.slice none 0 0) 0 []:=⟨by simp,Or.inl ⟨rfl,rfl⟩⟩;obtain ⟨v',w',hr,hown',hgrow,hblk⟩:=qp (P:=P) (w:=w) 0 t o.type e i' z' te.n te.bytes h3 k1 k2 k4 k7 hzs hsz (.slice none 0 0) 0 [] hown ao m cc news hnl hnil hmc hsrc hone (by simp [maxLen];omega) (by rw [Nat.zero_add];exact hbd) (abR _);obtain ⟨_,_,dd2,_,_,g3,_,_,_,_,_,g9,_⟩:=cZ (hT _ _ ZE);have:=g9 e2 he2;subst this;have hr:=(EH (ty:=o.type) (args:=#[.slice none 0 0,.slice ao m cc]) (w:=w) h3 g3).trans hr;have hrun:(execOp a.eval o).run P w= .ok (.value v') w':=by
  have ha:c.args=#[x,y]:=by rw [← Array.toList_inj];exact hargs
  have ht:c.argTypes=#[t,t2]:=by rw [← Array.toList_inj];exact hty
  unfold execOp;rw [hop];simp [resolve,uP,invoke,builtin,ha,ht,hye,hxe,hr]
 have hb:Below w.heap.size w w':=(Below.refl _ _).grown hgrow (abJ _) (fun k hk=>by cases hk);have hv:∀ b,jd v'=some b→w.heap.size≤b:=fun b hb'=>by
  rcases hblk b hb' with q | q
  ·cases q
  ·exact q
 rw [Nat.zero_add,List.nil_append] at hown';exact Or.inl ⟨v',w',hrun,hb,hv,fun d hρ=>⟨news,⟨hown',fun b hb=>Or.inl (acS hcr.bel.size (hv b hb))⟩,fun p q hp hq=>by
  obtain ⟨u,hu1,hu2⟩:=IK p q hp hq;exact ⟨u,hu1,dY.mv (.of_below hb) (vk hρ hv) _ hu2⟩⟩⟩
/-- A row that has a name is that value. -/
theorem afN(t:Nat){id:Nat}{x:Value}{ob:AO}(h1:lk s.sl t=some (.own id))(h2:lk s.hp id=some (.is x ob)):Wk s ⟨s.n,(t,.d (.one (.v x))) ::s.sl,s.hp⟩:=by
 rintro B0 w0 a w ⟨ρ,hc,hn,hdf,hs⟩;obtain ⟨v,hv,aS,a',n',c',e⟩:=hs t _ h1;obtain ⟨ob',q1,q2⟩:=hc.obj id v aS;rw [h2] at q1;cases q1
 obtain ⟨e2,_⟩:=q2;exact ⟨ρ,hc,hn,hdf,pY hs hv ⟨e2,by rw [← e2,e];rfl⟩⟩
/-- An own row that is written no more is a row. -/
theorem alK{ρ:kL}{B0:BS}{w0:Wz}{w:World}{hp:List (Nat×AO)}{id:Nat}{v:Value}{e:TypeId}{sz n:Nat}{el:Nat→Nat→Lf}(hc:eY ρ B0 w0 w hp)(aS:ρ id=some v)(o2:OR (Bd ρ B0) w0 w (.row e sz n el) v):dY (Bd (less ρ id) B0) w (.row sz n el) v:=by
 have hK:ku (Bd ρ B0) w w:=⟨abJ _,fun _ _ _=>rfl⟩;obtain ⟨xs,⟨⟨hxl,hown⟩,hbk⟩,hel⟩:=o2;rcases hown with ⟨rfl,h0⟩ | ⟨g,cap,cur,rfl,hge,hblk,hn,hm,hsz',htk⟩
 ·subst h0
  exact ⟨none,0,rfl,abJ _,fun _=>rfl,fun i hi=>absurd hi (ab2 _)⟩
 ·refine ⟨some ⟨g,0,none⟩,cap,rfl,hn,fun h=>(by cases h),fun i hi=>⟨g,0,rfl,hc.lone aS rfl,lt_of_block hblk,fun j hj=>?_⟩⟩
  obtain ⟨x,hx1,hx2⟩:=hel i j hi hj;refine ⟨x,?_,dY.mv hK (fun b _ hb=>I7 b hb) _ hx2⟩;rw [Nat.zero_add,cell_of_row w g _ cur _ (0,0) hblk,← Array.getElem?_toList];rw [← htk,List.getElem?_take] at hx1;split at hx1
  ·exact hx1
  ·cases hx1
/-- A row in an own variable's cell is written no more. -/
theorem aiD(q id tw:Nat){av:AV}{x:Value}{e:TypeId}{sz n:Nat}{el:Nat→Nat→Lf}{bq bq':AO}(hw:lk s.sl tw=some av)(hi:tZ av=some id)(h:lk s.hp id=some (.is x (.row e sz n el)))(hq:lk s.hp q=some bq)(hne:Nat.beq q id=false)(hl:∀ B w0 w v,dY B w (.row sz n el) x→OR B w0 w bq v→OR B w0 w bq' v):Wk s ⟨s.n,WA id .dead (fun _=> .dead) s.sl,(q,bq') ::dk s.hp id⟩:=by
 rintro B0 w0 a w ⟨ρ,hc,hn,hdf,hs⟩;obtain ⟨u,_,hu⟩:=hs tw _ hw;obtain ⟨y,hy⟩:=rP hi hu;obtain ⟨ob,q1,q2⟩:=hc.obj id y hy;rw [h] at q1;cases q1
 obtain ⟨e2,q3⟩:=q2;have hlf:=alK hc hy q3;rw [e2] at hlf;have hcl:=hc.less (id:=id);refine ⟨less ρ id,⟨hcl.bel,hcl.b0,fun k v hk=>?_,hcl.dist⟩,hn,hdf,fun t kV ht=>?_⟩
 ·obtain ⟨ob,r1,r2⟩:=hcl.obj k v hk
  rw [aV]
  by_cases ek:q=k
  ·subst ek
   rw [Vj,if_neg (fun e=>by rw [e,Nat.beq_refl] at hne;cases hne),hq] at r1;cases r1
   exact ⟨bq',if_pos rfl,hl _ _ _ _ hlf r2⟩
  ·exact ⟨ob,by rw [if_neg ek];exact r1,r2⟩
 ·obtain ⟨av2,r1,rfl⟩:=xQ _ _ _ ht
  obtain ⟨c,r2,r3⟩:=hs t av2 r1;exact ⟨c,r2,r3.fz hy (fun _=>trivial) (fun _ _ _=>trivial)⟩
theorem ado{x y:Value}{t:TypeId}{l l':Lf}(h:∀ B w v,v=x→dY B w l' x→dY B w l' v:=by intro _ _ _ e h;rw [e];exact h):∀ B w0 w v,dY B w l' x→OR B w0 w (.is y (.box t [l,.v x])) v→OR B w0 w (.is y (.box t [l,l'])) v:=by
 rintro B w0 w v hl ⟨e,g,us,rfl,h1,h2,h3⟩;cases us with
 | nil=>exact h3.elim
 | cons u us=>
  cases us with
  | nil=>exact h3.2.elim
  | cons u' us=>exact ⟨e,g,_,rfl,h1,h2,h3.1,h _ _ _ h3.2.1.1 hl,h3.2.2⟩
end
end
theorem agt{t u:Nat→Int}{b:Bool}(hb:b=true↔Hu t u):aC Tryz.prog 14 [.agg (jL t),.agg (jL u)] (.d (.one (.v (.bool b)))):=by
 refine aN 38 [.tmp 4] Tryz.func14 rfl<|cR<|mO rfl<|mO rfl<|mW rfl<|mT<|au<|au ?_
 by_cases ht0:t 0=u 0
 ·refine aA<|mE 4 rfl<|mbF rfl (by rw [ht0];exact afO _)<|mT<|cFs rfl<|au<|cR<|mW rfl<|mT<|aI<|dU (ι:=Nat) (fun (i:Nat)=>⟨38,[(2,.ptr 2 0),(3,.ptr 3 0),(5,dI (i:Int))],[(2,.box 28 (jL t)),(3,.box 28 (jL u))]⟩) (fun (i:Nat)=>i≤4∧∀ j,j≤i→t j=u j) (fun (i:Nat)=>4-i) 0 (⟨abR _,fun j hj=>by obtain rfl:j=0:=(by omega);exact ht0⟩) (wkv [2] [] ⟨fQ rfl (aG rfl),Pe⟩ trivial rfl rfl) ?_;rintro i hI;have hi:i≤4∧∀ j,j≤i→t j=u j:=hI
  show AW _ _ _ ⟨_,_,_⟩
  refine au<|cR<|mE 2 rfl<|mT<|aW rfl (fun hc1=>?_) (fun hc1=>?_)
  ·refine aF<|tN<|au<|aI<|au ?_;have hi4:i=0∨i=1∨i=2∨i=3:=by have h0:=abM hc1;omega
   rcases hi4 with rfl | rfl | rfl | rfl
   ·by_cases htn:t 1=u 1
    ·exact cDk 9<|.cons (aB.V _ rfl)<|oV rfl<|oXr (kU (i:=0) (sz:=1) rfl Tryz.underlying26 Tryz.sizeOf3 rfl rfl (by decide))<|oV rfl<|.cons (aB.V _ rfl)<|oV rfl<|oXr (kU (i:=0) (sz:=1) rfl Tryz.underlying26 Tryz.sizeOf3 rfl rfl (by decide))<|oV rfl<|oF rfl (by rw [htn];exact afO _)<|.nil<|mT<|cF rfl<|aF<|bN<|tN<|aA<|mW rfl<|mV aj (dI ((0+1:Nat):Int)) (fM (dF (by omega)))<|mW rfl<|ak<|⟨(0+1),⟨by decide,fun j hj=>if q:j=1 then by rw [q];exact htn else hi.2 j (by omega)⟩,by decide,wkr rfl rfl⟩
    ·exact cDk 9<|.cons (aB.V _ rfl)<|oV rfl<|oXr (kU (i:=0) (sz:=1) rfl Tryz.underlying26 Tryz.sizeOf3 rfl rfl (by decide))<|oV rfl<|.cons (aB.V _ rfl)<|oV rfl<|oXr (kU (i:=0) (sz:=1) rfl Tryz.underlying26 Tryz.sizeOf3 rfl rfl (by decide))<|oV rfl<|oT rfl (afA.2 htn)<|.nil<|mT<|cT rfl<|au<|cDk 10<|.cons (aB.V _ rfl)<|oV rfl<|oXr (kU (i:=0) (sz:=1) rfl Tryz.underlying26 Tryz.sizeOf3 rfl rfl (by decide))<|oV rfl<|.cons (aB.V _ rfl)<|oV rfl<|oXr (kU (i:=0) (sz:=1) rfl Tryz.underlying26 Tryz.sizeOf3 rfl rfl (by decide))<|oV rfl<|.cons (aB.V (.d (.one (.v (.bool b)))) (bI (vS hb (vg (i:=1) (by decide) (fun j hj=>hi.2 j (by omega)) htn))))<|.cons (aB.V _ rfl)<|.nil<|mT<|aH<|bR<|tR<|tR<|bR<|tR<|rQ rfl (AV.le.rfl)
   ·by_cases htn:t 2=u 2
    ·exact cDk 9<|.cons (aB.V _ rfl)<|oV rfl<|oXr (kU (i:=1) (sz:=1) rfl Tryz.underlying26 Tryz.sizeOf3 rfl rfl (by decide))<|oV rfl<|.cons (aB.V _ rfl)<|oV rfl<|oXr (kU (i:=1) (sz:=1) rfl Tryz.underlying26 Tryz.sizeOf3 rfl rfl (by decide))<|oV rfl<|oF rfl (by rw [htn];exact afO _)<|.nil<|mT<|cF rfl<|aF<|bN<|tN<|aA<|mW rfl<|mV aj (dI ((1+1:Nat):Int)) (fM (dF (by omega)))<|mW rfl<|ak<|⟨(1+1),⟨by decide,fun j hj=>if q:j=2 then by rw [q];exact htn else hi.2 j (by omega)⟩,by decide,wkr rfl rfl⟩
    ·exact cDk 9<|.cons (aB.V _ rfl)<|oV rfl<|oXr (kU (i:=1) (sz:=1) rfl Tryz.underlying26 Tryz.sizeOf3 rfl rfl (by decide))<|oV rfl<|.cons (aB.V _ rfl)<|oV rfl<|oXr (kU (i:=1) (sz:=1) rfl Tryz.underlying26 Tryz.sizeOf3 rfl rfl (by decide))<|oV rfl<|oT rfl (afA.2 htn)<|.nil<|mT<|cT rfl<|au<|cDk 10<|.cons (aB.V _ rfl)<|oV rfl<|oXr (kU (i:=1) (sz:=1) rfl Tryz.underlying26 Tryz.sizeOf3 rfl rfl (by decide))<|oV rfl<|.cons (aB.V _ rfl)<|oV rfl<|oXr (kU (i:=1) (sz:=1) rfl Tryz.underlying26 Tryz.sizeOf3 rfl rfl (by decide))<|oV rfl<|.cons (aB.V (.d (.one (.v (.bool b)))) (bI (vS hb (vg (i:=2) (by decide) (fun j hj=>hi.2 j (by omega)) htn))))<|.cons (aB.V _ rfl)<|.nil<|mT<|aH<|bR<|tR<|tR<|bR<|tR<|rQ rfl (AV.le.rfl)
   ·by_cases htn:t 3=u 3
    ·exact cDk 9<|.cons (aB.V _ rfl)<|oV rfl<|oXr (kU (i:=2) (sz:=1) rfl Tryz.underlying26 Tryz.sizeOf3 rfl rfl (by decide))<|oV rfl<|.cons (aB.V _ rfl)<|oV rfl<|oXr (kU (i:=2) (sz:=1) rfl Tryz.underlying26 Tryz.sizeOf3 rfl rfl (by decide))<|oV rfl<|oF rfl (by rw [htn];exact afO _)<|.nil<|mT<|cF rfl<|aF<|bN<|tN<|aA<|mW rfl<|mV aj (dI ((2+1:Nat):Int)) (fM (dF (by omega)))<|mW rfl<|ak<|⟨(2+1),⟨by decide,fun j hj=>if q:j=3 then by rw [q];exact htn else hi.2 j (by omega)⟩,by decide,wkr rfl rfl⟩
    ·exact cDk 9<|.cons (aB.V _ rfl)<|oV rfl<|oXr (kU (i:=2) (sz:=1) rfl Tryz.underlying26 Tryz.sizeOf3 rfl rfl (by decide))<|oV rfl<|.cons (aB.V _ rfl)<|oV rfl<|oXr (kU (i:=2) (sz:=1) rfl Tryz.underlying26 Tryz.sizeOf3 rfl rfl (by decide))<|oV rfl<|oT rfl (afA.2 htn)<|.nil<|mT<|cT rfl<|au<|cDk 10<|.cons (aB.V _ rfl)<|oV rfl<|oXr (kU (i:=2) (sz:=1) rfl Tryz.underlying26 Tryz.sizeOf3 rfl rfl (by decide))<|oV rfl<|.cons (aB.V _ rfl)<|oV rfl<|oXr (kU (i:=2) (sz:=1) rfl Tryz.underlying26 Tryz.sizeOf3 rfl rfl (by decide))<|oV rfl<|.cons (aB.V (.d (.one (.v (.bool b)))) (bI (vS hb (vg (i:=3) (by decide) (fun j hj=>hi.2 j (by omega)) htn))))<|.cons (aB.V _ rfl)<|.nil<|mT<|aH<|bR<|tR<|tR<|bR<|tR<|rQ rfl (AV.le.rfl)
   ·by_cases htn:t 4=u 4
    ·exact cDk 9<|.cons (aB.V _ rfl)<|oV rfl<|oXr (kU (i:=3) (sz:=1) rfl Tryz.underlying26 Tryz.sizeOf3 rfl rfl (by decide))<|oV rfl<|.cons (aB.V _ rfl)<|oV rfl<|oXr (kU (i:=3) (sz:=1) rfl Tryz.underlying26 Tryz.sizeOf3 rfl rfl (by decide))<|oV rfl<|oF rfl (by rw [htn];exact afO _)<|.nil<|mT<|cF rfl<|aF<|bN<|tN<|aA<|mW rfl<|mV aj (dI ((3+1:Nat):Int)) (fM (dF (by omega)))<|mW rfl<|ak<|⟨(3+1),⟨by decide,fun j hj=>if q:j=4 then by rw [q];exact htn else hi.2 j (by omega)⟩,by decide,wkr rfl rfl⟩
    ·exact cDk 9<|.cons (aB.V _ rfl)<|oV rfl<|oXr (kU (i:=3) (sz:=1) rfl Tryz.underlying26 Tryz.sizeOf3 rfl rfl (by decide))<|oV rfl<|.cons (aB.V _ rfl)<|oV rfl<|oXr (kU (i:=3) (sz:=1) rfl Tryz.underlying26 Tryz.sizeOf3 rfl rfl (by decide))<|oV rfl<|oT rfl (afA.2 htn)<|.nil<|mT<|cT rfl<|au<|cDk 10<|.cons (aB.V _ rfl)<|oV rfl<|oXr (kU (i:=3) (sz:=1) rfl Tryz.underlying26 Tryz.sizeOf3 rfl rfl (by decide))<|oV rfl<|.cons (aB.V _ rfl)<|oV rfl<|oXr (kU (i:=3) (sz:=1) rfl Tryz.underlying26 Tryz.sizeOf3 rfl rfl (by decide))<|oV rfl<|.cons (aB.V (.d (.one (.v (.bool b)))) (bI (vS hb (vg (i:=4) (by decide) (fun j hj=>hi.2 j (by omega)) htn))))<|.cons (aB.V _ rfl)<|.nil<|mT<|aH<|bR<|tR<|tR<|bR<|tR<|rQ rfl (AV.le.rfl)
  ·refine dP<|tE<|tE<|bE<|tN<|au ?_;have hno:¬ Hu t u:=abp fun j hj=>hi.2 j (by have h0:=abL hc1;omega)
   obtain rfl:b=false:=Bool.eq_false_iff.2 (fun q=>hno (hb.1 q));exact aA<|mW rfl<|mT<|aH<|rQ rfl (AV.le.rfl)
 ·exact aA<|mE 4 rfl<|mbT rfl (afA.2 ht0)<|mT<|cT rfl<|cR<|mE 4 rfl<|mV aj (.d (.one (.v (.bool b)))) (bI (vS hb (vg (i:=0) (by decide) (fun j hj=>absurd hj (ab2 _)) ht0)))<|mW rfl<|mT<|aH<|tR<|rQ rfl (AV.le.rfl)
theorem aga{pp x y:Value}{ev:Nat→ET}{S:HS}{k:Nat}{d:Bool}(hE:∀ i,HE (ev i))(hf:Fr (hL ev) S k true d)(hk:k < S.m)(hN:S.n≤100000)(hM:S.m≤100000):fZ Tryz.prog 29 [.ptr 0 0,dI (k:Int)] (vw pp x y ev S) [0,1,2] [0,1,2] (fun r hp=>r= .ji []∧∃ T,UpQ (hL ev) S k d T∧hp=(vw pp x y ev T)):=by
 refine aLr 57 [] [(2,1),(3,2)] Tryz.func29 rfl rfl ?_;show AW _ _ _ ⟨_,_,_⟩
 refine aI<|dU (ι:=HS×Nat) (fun (p:HS×Nat)=>match p with | (T,j)=>⟨57,[(0,.ptr 0 0),(1,dI (j:Int)),(2,.wit 1),(3,.wit 2)],[(0,.is pp (.box 81 ([.v x,.v y]))),(1,.is x (.row 84 15 T.n (dN ev T.pl))),(2,.is y (.row 3 1 T.m (dR T.tr)))]⟩) (fun (p:HS×Nat)=>match p with | (T,j)=>Uk (hL ev) S k d T j) (fun (p:HS×Nat)=>match p with | (T,j)=>j) (S,k) (Uk.start hf hk) (wkr rfl rfl) ?_;rintro ⟨T,j⟩ hI;have hI:Uk (hL ev) S k d T j:=hI;show AW _ _ _ ⟨_,_,_⟩
 refine au<|au ?_;have hj:=hI.jm;have hc1:=hI.con.tr j hj;have hc2:=hI.con.tr ((j-1) / 2) (by omega);have hn:=hI.JU.n;have hmm:=hI.JU.m
 by_cases hj0:j=0
 ·exact cDk 22<|.cons (aB.V _ rfl)<|oFd rfl (by omega)<|.cons (aB.V _ rfl)<|.cons (aB.G rfl rfl)<|.cons (aB.G rfl rfl)<|.cons (aB.G rfl rfl)<|.cons (aB.G rfl rfl)<|.cons (aB.G rfl rfl)<|.cons (aB.G rfl rfl)<|.cons (aB.G rfl rfl)<|.cons (aB.G rfl rfl)<|.cons (aB.G rfl rfl)<|.cons (aB.G rfl rfl)<|.cons (aB.G rfl rfl)<|.cons (aB.G rfl rfl)<|.cons (aB.G rfl rfl)<|.cons (aB.G rfl rfl)<|.cons (aB.G rfl rfl)<|.cons (aB.G rfl rfl)<|.cons (aB.G rfl rfl)<|.cons (aB.G rfl rfl)<|.cons (aB.V _ rfl)<|.nil<|mT<|cF rfl<|dP<|tE<|tE<|bE<|rLn (.ji []) (.ji []) [(0,.is pp (.box 81 ([.v x,.v y]))),(1,.is x (.row 84 15 T.n (dN ev T.pl))),(2,.is y (.row 3 1 T.m (dR T.tr)))] [(0,.ptr 0 0),(2,.wit 1),(3,.wit 2)] ⟨rfl,T,hI.fin (sN hE) (Or.inl hj0),rfl⟩ (qN aj rfl AV.le.rfl) (wk (sl:= [(57,.ji []),(0,.ptr 0 0),(2,.wit 1),(3,.wit 2)]) (hp:= [(0,.is pp (.box 81 ([.v x,.v y]))),(1,.is x (.row 84 15 T.n (dN ev T.pl))),(2,.is y (.row 3 1 T.m (dR T.tr)))]) rfl ⟨hs rfl,hs rfl,hs rfl,hs rfl,Pe⟩ ⟨ho rfl,ho rfl,ho rfl,Pe⟩ rfl) ⟨⟨0,_,rfl,rfl⟩,⟨2,_,rfl,rfl⟩,⟨3,_,rfl,rfl⟩,Pe⟩
 ·by_cases hlt:hL ev (T.tr j) (T.tr ((j-1) / 2))
  ·refine cDk 20<|.cons (aB.V _ rfl)<|oTd rfl (by omega)<|.cons (aB.V _ rfl)<|.cons (aB.V _ rfl)<|.cons (aB.V _ rfl)<|oXr (cu rfl rfl)<|oV rfl<|.cons (aB.Y y 3 2 rfl rfl rfl rfl rfl)<|.cons (aB.V _ rfl)<|.cons (aB.V (.dW 2 1 j 0) (qG (z:=(j:Int)) (n:=T.m) rfl rfl rfl rfl rfl rfl rfl (by omega) (by omega)))<|oV rfl<|.cons (aB.V _ rfl)<|oXr (cu rfl rfl)<|oV rfl<|.cons (aB.Y y 3 2 rfl rfl rfl rfl rfl)<|.cons (aB.V _ rfl)<|.cons (aB.V (dI ((j-1:Nat):Int)) (fM ((eu (by omega) (by omega)).trans (by omega))))<|.cons (aB.V (dI (((j-1) / 2:Nat):Int)) (fM (q2 (by omega))))<|.cons (aB.V (.dW 2 1 ((j-1) / 2) 0) (qG (z:=(((j-1) / 2:Nat):Int)) (n:=T.m) rfl rfl rfl rfl rfl rfl rfl (by omega) (by omega)))<|oV rfl<|.nil<|nZ (EC (pp:=pp) (x:=x) (y:=y) (ev:=ev) (S:=T) (a:=(T.tr j)) (b:=(T.tr ((j-1) / 2))) (c:=true) hE hc1.1 hc1.2.1 hc2.1 hc2.2.1 (by omega) ⟨fun _=>hlt,fun _=>rfl⟩) [(0,0),(1,1),(2,2)] [] [] [] [] rfl rfl ⟨arr,arr,arr,Pe⟩ ⟨obr,obr,obr,Pe⟩ trivial ⟨wjr 0,wjr 2,wjr 3,Pe⟩ ⟨oir,oir,oir,Pe⟩ trivial trivial ?_;rintro _ _ ⟨rfl,rfl⟩;refine wKm [26,8,3,2,1,0] [2,1,0] rfl rfl<|mW rfl<|mT<|cT rfl<|aF<|tN<|aI<|au<|cDk 18<|.cons (aB.V _ rfl)<|oXr (cu rfl rfl)<|oV rfl<|.cons (aB.Y y 3 2 rfl rfl rfl rfl rfl)<|.cons (aB.V _ rfl)<|.cons (aB.V (.dW 2 1 j 0) (qG (z:=(j:Int)) (n:=T.m) rfl rfl rfl rfl rfl rfl rfl (by omega) (by omega)))<|oV rfl<|.cons (aB.V _ rfl)<|oXr (cu rfl rfl)<|oV rfl<|.cons (aB.Y y 3 2 rfl rfl rfl rfl rfl)<|.cons (aB.V _ rfl)<|.cons (aB.V (dI ((j-1:Nat):Int)) (fM ((eu (by omega) (by omega)).trans (by omega))))<|.cons (aB.V (dI (((j-1) / 2:Nat):Int)) (fM (q2 (by omega))))<|.cons (aB.V (.dW 2 1 ((j-1) / 2) 0) (qG (z:=(((j-1) / 2:Nat):Int)) (n:=T.m) rfl rfl rfl rfl rfl rfl rfl (by omega) (by omega)))<|oV rfl<|.cons (aB.V _ rfl)<|.cons (aB.V _ rfl)<|.nil<|mT<|cR<|mE 3 rfl<|nZ (Kz (pp:=pp) (x:=x) (y:=y) (ev:=ev) (S:=T) (k:=j) (h:=(T.tr ((j-1) / 2))) hj hc2.1 hc2.2.1 (by omega) (by omega)) [(0,0),(1,1),(2,2)] [] [] [] [] rfl rfl ⟨arr,arr,arr,Pe⟩ ⟨obr,obr,obr,Pe⟩ trivial ⟨wjr 0,wjr 2,wjr 3,Pe⟩ ⟨oir,oir,oir,Pe⟩ trivial trivial ?_;rintro _ _ ⟨rfl,rfl⟩;refine wKm [47,5,4,27,3,2,1,0] [2,1,0] rfl rfl<|mT<|cR<|mE 2 rfl<|mV aj (dI ((j-1:Nat):Int)) (fM ((eu (by omega) (by omega)).trans (by omega)))<|mV aj (dI (((j-1) / 2:Nat):Int)) (fM (q2 (by omega)))<|mW rfl<|nZ (Kz (pp:=pp) (x:=x) (y:=y) (ev:=ev) (S:=(T.lay j (T.tr ((j-1) / 2)))) (k:=((j-1) / 2)) (h:=(T.tr j)) (show ((j-1) / 2) < T.m from by omega) hc1.1 hc1.2.1 (show T.n≤100000 from by omega) (show T.m≤100000 from by omega)) [(0,0),(1,1),(2,2)] [] [] [] [] rfl rfl ⟨arr,arr,arr,Pe⟩ ⟨obr,obr,obr,Pe⟩ trivial ⟨wjr 0,wjr 2,wjr 3,Pe⟩ ⟨oir,oir,oir,Pe⟩ trivial trivial ?_;rintro _ _ ⟨rfl,rfl⟩;exact wKm [53,5,4,27,3,2,1,0] [2,1,0] rfl rfl<|mT<|aA<|mW rfl<|mV aj (dI ((j-1:Nat):Int)) (fM ((eu (by omega) (by omega)).trans (by omega)))<|mV aj (dI (((j-1) / 2:Nat):Int)) (fM (q2 (by omega)))<|mW rfl<|ak<|bN<|⟨((T.swp j ((j-1) / 2)),((j-1) / 2)),hI.step (sN hE) (by omega) hlt,by show (j-1) / 2 < j;omega,wkr rfl rfl⟩
  ·refine cDk 20<|.cons (aB.V _ rfl)<|oTd rfl (by omega)<|.cons (aB.V _ rfl)<|.cons (aB.V _ rfl)<|.cons (aB.V _ rfl)<|oXr (cu rfl rfl)<|oV rfl<|.cons (aB.Y y 3 2 rfl rfl rfl rfl rfl)<|.cons (aB.V _ rfl)<|.cons (aB.V (.dW 2 1 j 0) (qG (z:=(j:Int)) (n:=T.m) rfl rfl rfl rfl rfl rfl rfl (by omega) (by omega)))<|oV rfl<|.cons (aB.V _ rfl)<|oXr (cu rfl rfl)<|oV rfl<|.cons (aB.Y y 3 2 rfl rfl rfl rfl rfl)<|.cons (aB.V _ rfl)<|.cons (aB.V (dI ((j-1:Nat):Int)) (fM ((eu (by omega) (by omega)).trans (by omega))))<|.cons (aB.V (dI (((j-1) / 2:Nat):Int)) (fM (q2 (by omega))))<|.cons (aB.V (.dW 2 1 ((j-1) / 2) 0) (qG (z:=(((j-1) / 2:Nat):Int)) (n:=T.m) rfl rfl rfl rfl rfl rfl rfl (by omega) (by omega)))<|oV rfl<|.nil<|nZ (EC (pp:=pp) (x:=x) (y:=y) (ev:=ev) (S:=T) (a:=(T.tr j)) (b:=(T.tr ((j-1) / 2))) (c:=false) hE hc1.1 hc1.2.1 hc2.1 hc2.2.1 (by omega) ⟨fun q=>absurd q Bool.noConfusion,fun q=>absurd q hlt⟩) [(0,0),(1,1),(2,2)] [] [] [] [] rfl rfl ⟨arr,arr,arr,Pe⟩ ⟨obr,obr,obr,Pe⟩ trivial ⟨wjr 0,wjr 2,wjr 3,Pe⟩ ⟨oir,oir,oir,Pe⟩ trivial trivial ?_;rintro _ _ ⟨rfl,rfl⟩;exact wKm [26,8,3,2,1,0] [2,1,0] rfl rfl<|mW rfl<|mT<|cF rfl<|dP<|tE<|tE<|bE<|rLn (.ji []) (.ji []) [(0,.is pp (.box 81 ([.v x,.v y]))),(1,.is x (.row 84 15 T.n (dN ev T.pl))),(2,.is y (.row 3 1 T.m (dR T.tr)))] [(0,.ptr 0 0),(2,.wit 1),(3,.wit 2)] ⟨rfl,T,hI.fin (sN hE) (Or.inr hlt),rfl⟩ (qN aj rfl AV.le.rfl) (wk (sl:= [(57,.ji []),(0,.ptr 0 0),(2,.wit 1),(3,.wit 2)]) (hp:= [(0,.is pp (.box 81 ([.v x,.v y]))),(1,.is x (.row 84 15 T.n (dN ev T.pl))),(2,.is y (.row 3 1 T.m (dR T.tr)))]) rfl ⟨hs rfl,hs rfl,hs rfl,hs rfl,Pe⟩ ⟨ho rfl,ho rfl,ho rfl,Pe⟩ rfl) ⟨⟨0,_,rfl,rfl⟩,⟨2,_,rfl,rfl⟩,⟨3,_,rfl,rfl⟩,Pe⟩
theorem XP{pp x y:Value}{ev:Nat→ET}{S:HS}{k:Nat}(hE:∀ i,HE (ev i))(hf:Fr (hL ev) S k false true)(hk:k < S.m)(hN:S.n≤100000)(hM:S.m≤100000):fZ Tryz.prog 50 [.ptr 0 0,dI (k:Int)] (vw pp x y ev S) [0,1,2] [0,1,2] (fun r hp=>r= .ji []∧∃ T,(Kw S T∧Hp (hL ev) T)∧hp=(vw pp x y ev T)):=by
 refine aLr 86 [] [(2,1),(3,2)] Tryz.func50 rfl rfl ?_;show AW _ _ _ ⟨_,_,_⟩
 refine aI<|dU (ι:=HS×Nat) (fun (p:HS×Nat)=>match p with | (T,j)=>⟨86,[(0,.ptr 0 0),(1,dI (j:Int)),(2,.wit 1),(3,.wit 2)],[(0,.is pp (.box 81 ([.v x,.v y]))),(1,.is x (.row 84 15 T.n (dN ev T.pl))),(2,.is y (.row 3 1 T.m (dR T.tr)))]⟩) (fun (p:HS×Nat)=>match p with | (T,j)=>Rh (hL ev) S T j) (fun (p:HS×Nat)=>match p with | (T,j)=>T.m-j) (S,k) (Rh.start hf hk) (wkr rfl rfl) ?_;rintro ⟨T,j⟩ hI;have hI:Rh (hL ev) S T j:=hI;show AW _ _ _ ⟨_,_,_⟩
 refine aI<|au ?_;have hj:=hI.jm;have hcj:=hI.fr.con.tr j hj;have hn:=hI.JU.n;have hmm:=hI.JU.m;refine aA<|mW rfl<|mV aj (dI ((2*j:Nat):Int)) (fM ((eu (by omega) (by omega)).trans (by omega)))<|mV aj (dI ((2*j+1:Nat):Int)) (fM (dF (by omega)))<|mW rfl<|mT<|au<|au ?_
 by_cases hm1:T.m≤2*j+1
 ·exact aA<|mE 2 rfl<|mX _ (cu rfl rfl)<|mE 2 rfl<|AL.wk (kR 14 3 2 rfl rfl rfl rfl)<|mW rfl<|mdT rfl (by omega)<|mT<|cT rfl<|aH<|tR<|bR<|tR<|bR<|rLg [3,2,0] ⟨rfl,T,hI.leaf (sN hE) hm1,rfl⟩ (qN aj rfl AV.le.rfl) rfl rfl rfl rfl rfl
 ·refine aA<|mE 2 rfl<|mX _ (cu rfl rfl)<|mE 2 rfl<|AL.wk (kR 14 3 2 rfl rfl rfl rfl)<|mW rfl<|mdF rfl (by omega)<|mT<|cFs rfl<|Ym (ι:=Nat) (fun c=>⟨86,[(0,.ptr 0 0),(1,dI (j:Int)),(2,.wit 1),(3,.wit 2),(4,dI (c:Int))],[(0,.is pp (.box 81 ([.v x,.v y]))),(1,.is x (.row 84 15 T.n (dN ev T.pl))),(2,.is y (.row 3 1 T.m (dR T.tr)))]⟩) (fun c=>c < T.m∧0 < c∧(c-1) / 2=j∧∀ i,0 < i→i < T.m→(i-1) / 2=j→¬ hL ev (T.tr i) (T.tr c)) ?_ (fun c hK=>?_)
  ·refine Ym (ι:=Bool) (fun b=>⟨86,[(0,.ptr 0 0),(1,dI (j:Int)),(2,.wit 1),(3,.wit 2),(4,dI ((2*j+1:Nat):Int)),(43,.d (.one (.v (.bool b))))],[(0,.is pp (.box 81 ([.v x,.v y]))),(1,.is x (.row 84 15 T.n (dN ev T.pl))),(2,.is y (.row 3 1 T.m (dR T.tr)))]⟩) (fun b=>(b=true→2*j+1+1 < T.m∧hL ev (T.tr (2*j+1+1)) (T.tr (2*j+1)))∧(b=false→2*j+1+1 < T.m→¬ hL ev (T.tr (2*j+1+1)) (T.tr (2*j+1)))) ?_ (fun b hK=>?_)
   ·by_cases hm2:2*j+1+1 < T.m
    ·have hc1:=hI.fr.con.tr (2*j+1) (by omega);have hc2:=hI.fr.con.tr (2*j+1+1) hm2
     by_cases hl2:hL ev (T.tr (2*j+1+1)) (T.tr (2*j+1))
     ·refine cDk 25<|.cons (aB.V _ rfl)<|.cons (aB.V (dI (((2*j+1)+1:Nat):Int)) (fM (dF (by omega))))<|.cons (aB.V _ rfl)<|oXr (cu rfl rfl)<|oV rfl<|.cons (aB.Y y 3 2 rfl rfl rfl rfl rfl)<|oV rfl<|oTd rfl (by omega)<|.cons (aB.V _ rfl)<|.cons (aB.V _ rfl)<|.cons (aB.V _ rfl)<|oXr (cu rfl rfl)<|oV rfl<|.cons (aB.Y y 3 2 rfl rfl rfl rfl rfl)<|.cons (aB.V _ rfl)<|.cons (aB.V (dI (((2*j+1)+1:Nat):Int)) (fM (dF (by omega))))<|.cons (aB.V (.dW 2 1 ((2*j+1)+1) 0) (qG (z:=(((2*j+1)+1:Nat):Int)) (n:=T.m) rfl rfl rfl rfl rfl rfl rfl (by omega) (by omega)))<|oV rfl<|.cons (aB.V _ rfl)<|oXr (cu rfl rfl)<|oV rfl<|.cons (aB.Y y 3 2 rfl rfl rfl rfl rfl)<|.cons (aB.V _ rfl)<|.cons (aB.V (.dW 2 1 (2*j+1) 0) (qG (z:=((2*j+1:Nat):Int)) (n:=T.m) rfl rfl rfl rfl rfl rfl rfl (by omega) (by omega)))<|oV rfl<|.nil<|nZ (EC (pp:=pp) (x:=x) (y:=y) (ev:=ev) (S:=T) (a:=(T.tr (2*j+1+1))) (b:=(T.tr (2*j+1))) (c:=true) hE hc2.1 hc2.2.1 hc1.1 hc1.2.1 (by omega) ⟨fun _=>hl2,fun _=>rfl⟩) [(0,0),(1,1),(2,2)] [] [] [] [] rfl rfl ⟨arr,arr,arr,Pe⟩ ⟨obr,obr,obr,Pe⟩ trivial ⟨wjr 0,wjr 2,wjr 3,Pe⟩ ⟨oir,oir,oir,Pe⟩ trivial trivial ?_;rintro _ _ ⟨rfl,rfl⟩;exact wKm [42,25,16,4,3,2,1,0] [2,1,0] rfl rfl<|mW rfl<|mT<|⟨true,⟨fun _=>⟨hm2,hl2⟩,fun q=>absurd q Bool.noConfusion⟩,wkr rfl rfl⟩
     ·refine cDk 25<|.cons (aB.V _ rfl)<|.cons (aB.V (dI (((2*j+1)+1:Nat):Int)) (fM (dF (by omega))))<|.cons (aB.V _ rfl)<|oXr (cu rfl rfl)<|oV rfl<|.cons (aB.Y y 3 2 rfl rfl rfl rfl rfl)<|oV rfl<|oTd rfl (by omega)<|.cons (aB.V _ rfl)<|.cons (aB.V _ rfl)<|.cons (aB.V _ rfl)<|oXr (cu rfl rfl)<|oV rfl<|.cons (aB.Y y 3 2 rfl rfl rfl rfl rfl)<|.cons (aB.V _ rfl)<|.cons (aB.V (dI (((2*j+1)+1:Nat):Int)) (fM (dF (by omega))))<|.cons (aB.V (.dW 2 1 ((2*j+1)+1) 0) (qG (z:=(((2*j+1)+1:Nat):Int)) (n:=T.m) rfl rfl rfl rfl rfl rfl rfl (by omega) (by omega)))<|oV rfl<|.cons (aB.V _ rfl)<|oXr (cu rfl rfl)<|oV rfl<|.cons (aB.Y y 3 2 rfl rfl rfl rfl rfl)<|.cons (aB.V _ rfl)<|.cons (aB.V (.dW 2 1 (2*j+1) 0) (qG (z:=((2*j+1:Nat):Int)) (n:=T.m) rfl rfl rfl rfl rfl rfl rfl (by omega) (by omega)))<|oV rfl<|.nil<|nZ (EC (pp:=pp) (x:=x) (y:=y) (ev:=ev) (S:=T) (a:=(T.tr (2*j+1+1))) (b:=(T.tr (2*j+1))) (c:=false) hE hc2.1 hc2.2.1 hc1.1 hc1.2.1 (by omega) ⟨fun q=>absurd q Bool.noConfusion,fun q=>absurd q hl2⟩) [(0,0),(1,1),(2,2)] [] [] [] [] rfl rfl ⟨arr,arr,arr,Pe⟩ ⟨obr,obr,obr,Pe⟩ trivial ⟨wjr 0,wjr 2,wjr 3,Pe⟩ ⟨oir,oir,oir,Pe⟩ trivial trivial ?_;rintro _ _ ⟨rfl,rfl⟩;exact wKm [42,25,16,4,3,2,1,0] [2,1,0] rfl rfl<|mW rfl<|mT<|⟨false,⟨fun q=>absurd q Bool.noConfusion,fun _ _=>hl2⟩,wkr rfl rfl⟩
    ·exact cDk 27<|.cons (aB.V _ rfl)<|.cons (aB.V (dI (((2*j+1)+1:Nat):Int)) (fM (dF (by omega))))<|.cons (aB.V _ rfl)<|oXr (cu rfl rfl)<|oV rfl<|.cons (aB.Y y 3 2 rfl rfl rfl rfl rfl)<|oV rfl<|oFd rfl (by omega)<|.cons (aB.V _ rfl)<|.cons (aB.G rfl rfl)<|.cons (aB.G rfl rfl)<|.cons (aB.G rfl rfl)<|.cons (aB.G rfl rfl)<|.cons (aB.G rfl rfl)<|.cons (aB.G rfl rfl)<|.cons (aB.G rfl rfl)<|.cons (aB.G rfl rfl)<|.cons (aB.G rfl rfl)<|.cons (aB.G rfl rfl)<|.cons (aB.G rfl rfl)<|.cons (aB.G rfl rfl)<|.cons (aB.G rfl rfl)<|.cons (aB.G rfl rfl)<|.cons (aB.G rfl rfl)<|.cons (aB.G rfl rfl)<|.cons (aB.G rfl rfl)<|.cons (aB.V _ rfl)<|.nil<|mT<|⟨false,⟨fun q=>absurd q Bool.noConfusion,fun _ q=>absurd q hm2⟩,wkr rfl rfl⟩
   ·obtain ⟨hb1,hb2⟩:=hK;show AW _ _ _ ⟨_,_,_⟩
    cases b
    ·exact cFs rfl<|⟨(2*j+1),⟨by omega,by omega,by omega,hI.one (sN hE) (by omega) (hb2 rfl)⟩,wkr rfl rfl⟩
    ·exact cT rfl<|aA<|mW rfl<|mV aj (dI (((2*j+1)+1:Nat):Int)) (fM (dF (by omega)))<|mW rfl<|mT<|⟨(2*j+1+1),⟨(hb1 rfl).1,by omega,by omega,hI.two (sN hE) (hb1 rfl).1 (hb1 rfl).2⟩,wkr rfl rfl⟩
  ·obtain ⟨hcm,hc0,hcp,hcb⟩:=hK;show AW _ _ _ ⟨_,_,_⟩
   refine au<|au ?_;have hcc:=hI.fr.con.tr c hcm
   by_cases hlt:hL ev (T.tr c) (T.tr j)
   ·refine cDk 15<|.cons (aB.V _ rfl)<|.cons (aB.V _ rfl)<|oXr (cu rfl rfl)<|oV rfl<|.cons (aB.Y y 3 2 rfl rfl rfl rfl rfl)<|.cons (aB.V _ rfl)<|.cons (aB.V (.dW 2 1 c 0) (qG (z:=(c:Int)) (n:=T.m) rfl rfl rfl rfl rfl rfl rfl (by omega) (by omega)))<|oV rfl<|.cons (aB.V _ rfl)<|oXr (cu rfl rfl)<|oV rfl<|.cons (aB.Y y 3 2 rfl rfl rfl rfl rfl)<|.cons (aB.V _ rfl)<|.cons (aB.V (.dW 2 1 j 0) (qG (z:=(j:Int)) (n:=T.m) rfl rfl rfl rfl rfl rfl rfl (by omega) (by omega)))<|oV rfl<|.nil<|nZ (EC (pp:=pp) (x:=x) (y:=y) (ev:=ev) (S:=T) (a:=(T.tr c)) (b:=(T.tr j)) (c:=true) hE hcc.1 hcc.2.1 hcj.1 hcj.2.1 (by omega) ⟨fun _=>hlt,fun _=>rfl⟩) [(0,0),(1,1),(2,2)] [] [] [] [] rfl rfl ⟨arr,arr,arr,Pe⟩ ⟨obr,obr,obr,Pe⟩ trivial ⟨wjr 0,wjr 2,wjr 3,Pe⟩ ⟨oir,oir,oir,Pe⟩ trivial trivial ?_;rintro _ _ ⟨rfl,rfl⟩;refine wKm [61,4,3,2,1,0] [2,1,0] rfl rfl<|mW rfl<|mT<|cFs rfl<|au<|cDk 16<|.cons (aB.V _ rfl)<|oXr (cu rfl rfl)<|oV rfl<|.cons (aB.Y y 3 2 rfl rfl rfl rfl rfl)<|.cons (aB.V _ rfl)<|.cons (aB.V (.dW 2 1 j 0) (qG (z:=(j:Int)) (n:=T.m) rfl rfl rfl rfl rfl rfl rfl (by omega) (by omega)))<|oV rfl<|.cons (aB.V _ rfl)<|oXr (cu rfl rfl)<|oV rfl<|.cons (aB.Y y 3 2 rfl rfl rfl rfl rfl)<|.cons (aB.V _ rfl)<|.cons (aB.V (.dW 2 1 c 0) (qG (z:=(c:Int)) (n:=T.m) rfl rfl rfl rfl rfl rfl rfl (by omega) (by omega)))<|oV rfl<|.cons (aB.V _ rfl)<|.cons (aB.V _ rfl)<|.nil<|mT<|cR<|mE 3 rfl<|nZ (Kz (pp:=pp) (x:=x) (y:=y) (ev:=ev) (S:=T) (k:=j) (h:=(T.tr c)) hj hcc.1 hcc.2.1 (by omega) (by omega)) [(0,0),(1,1),(2,2)] [] [] [] [] rfl rfl ⟨arr,arr,arr,Pe⟩ ⟨obr,obr,obr,Pe⟩ trivial ⟨wjr 0,wjr 2,wjr 3,Pe⟩ ⟨oir,oir,oir,Pe⟩ trivial trivial ?_;rintro _ _ ⟨rfl,rfl⟩;refine wKm [80,6,5,62,4,3,2,1,0] [2,1,0] rfl rfl<|mT<|cR<|mE 3 rfl<|nZ (Kz (pp:=pp) (x:=x) (y:=y) (ev:=ev) (S:=(T.lay j (T.tr c))) (k:=c) (h:=(T.tr j)) (show c < T.m from hcm) hcj.1 hcj.2.1 (show T.n≤100000 from by omega) (show T.m≤100000 from by omega)) [(0,0),(1,1),(2,2)] [] [] [] [] rfl rfl ⟨arr,arr,arr,Pe⟩ ⟨obr,obr,obr,Pe⟩ trivial ⟨wjr 0,wjr 2,wjr 3,Pe⟩ ⟨oir,oir,oir,Pe⟩ trivial trivial ?_;rintro _ _ ⟨rfl,rfl⟩;exact wKm [84,6,5,62,4,3,2,1,0] [2,1,0] rfl rfl<|mT<|aA<|mE 2 rfl<|ak<|bN<|⟨((T.swp j c),c),hI.step (sN hE) hcm hc0 hcp hlt hcb,by show T.m-c < T.m-j;omega,wkr rfl rfl⟩
   ·refine cDk 15<|.cons (aB.V _ rfl)<|.cons (aB.V _ rfl)<|oXr (cu rfl rfl)<|oV rfl<|.cons (aB.Y y 3 2 rfl rfl rfl rfl rfl)<|.cons (aB.V _ rfl)<|.cons (aB.V (.dW 2 1 c 0) (qG (z:=(c:Int)) (n:=T.m) rfl rfl rfl rfl rfl rfl rfl (by omega) (by omega)))<|oV rfl<|.cons (aB.V _ rfl)<|oXr (cu rfl rfl)<|oV rfl<|.cons (aB.Y y 3 2 rfl rfl rfl rfl rfl)<|.cons (aB.V _ rfl)<|.cons (aB.V (.dW 2 1 j 0) (qG (z:=(j:Int)) (n:=T.m) rfl rfl rfl rfl rfl rfl rfl (by omega) (by omega)))<|oV rfl<|.nil<|nZ (EC (pp:=pp) (x:=x) (y:=y) (ev:=ev) (S:=T) (a:=(T.tr c)) (b:=(T.tr j)) (c:=false) hE hcc.1 hcc.2.1 hcj.1 hcj.2.1 (by omega) ⟨fun q=>absurd q Bool.noConfusion,fun q=>absurd q hlt⟩) [(0,0),(1,1),(2,2)] [] [] [] [] rfl rfl ⟨arr,arr,arr,Pe⟩ ⟨obr,obr,obr,Pe⟩ trivial ⟨wjr 0,wjr 2,wjr 3,Pe⟩ ⟨oir,oir,oir,Pe⟩ trivial trivial ?_;rintro _ _ ⟨rfl,rfl⟩;exact wKm [61,4,3,2,1,0] [2,1,0] rfl rfl<|mW rfl<|mT<|cT rfl<|aH<|tR<|bR<|tR<|bR<|rLg [3,2,0] ⟨rfl,T,hI.fin (sN hE) hcm hlt hcb,rfl⟩ (qN aj rfl AV.le.rfl) rfl rfl rfl rfl rfl
end Go.Proofs.YtapmpcgekdplfaaGreat
