/-
  What the proof of AlgOf asks for besides: joined, short spelling. No condition.
-/
import Derived.Test.YthccmbncplakjaaGreatJ5
set_option linter.unusedVariables false
set_option linter.unusedSimpArgs false
set_option maxRecDepth 100000
set_option maxHeartbeats 4000000
namespace Go.Proofs.YthccmbncplakjaaGreat
open Go.RowKit
namespace Am
end Am
section
open Go.RowKit Am
end
theorem IsR.eq{l:List Lf}{K:Nat}{m n:Int}(h:IsR l K m)(e:m=n):IsR l K n:=e▸h
section
open Go.RowKit Am
end
/-! ### Rows cut: noughts on top are taken away -/
/-! ### Sums, products -/
/-- Row: the first k limbs at most. -/
theorem row_any(ao:Option Addr)(n c k:Nat)(xs:List Nat)(w:World)(hn:n≤9223372036854775807)(hk:k≤1000000)(hr:Rw .u32 B32 w ao n c xs):
  Calls Tryz.prog 147 #[.slice ao n c,.int .i64 (k:Int)] w fun e w'=>∃ m,e= .returned (.slice ao m c)∧m≤k∧m≤n∧Rw .u32 B32 w ao m c (xs.take k)∧w=w':=by
 have hlc:=hr.le
 by_cases h:n≤k
 ·go_enter Tryz.func147,Tryz.ntmps147
  go_wp2;go_ret;exact ⟨_,rfl,h,Nat.le_refl _,by rw [List.take_of_length_le (by rw [hr.len];exact h)];exact hr,rfl⟩
 ·have hkc:k≤c:=by omega
  go_enter Tryz.func147,Tryz.ntmps147;go_wp2;go_ret;exact ⟨_,rfl,Nat.le_refl _,by omega,hr.take (by omega),rfl⟩
theorem aRow{K k:Nat}{xs:List Nat}(hk:k≤1000000:=by decide)(hK:K≤9223372036854775807:=by decide):ACall Tryz.prog 147 [.one (lr K xs),.one (.v (.int .i64 (k:Int)))] (.d (.one (lr k (xs.take k)))):=by
 refine ⟨enters Tryz.func147 rfl rfl,fun B w vs hB hvs=>?_⟩
 match vs,hvs with
 | [v,_],⟨h1,⟨rfl,_⟩,_⟩=>
  obtain ⟨a,n,c,rfl,hr,hn,hb⟩:=lr_of h1;refine (row_any a n c k xs w (by omega) hk hr).mono ?_;rintro e w' ⟨m,rfl,hm1,hm2,h3,rfl⟩;exact ⟨_,rfl,Below.refl _ _,lr_R h3 hm1 (fun x hx hne=>hb x hx (fun e=>hne (by rw [e];simp)))⟩
/-! ### A region that draws, order by order -/
theorem aKInt{K k:Nat}{s:Bool}{xs:List Nat}(hk:k≤1000000:=by decide)(hK:K≤9223372036854775807:=by decide):ACall Tryz.prog 85 [.agg [.v (.bool s),lr K xs],.one (.v (.int .i64 (k:Int)))] (.d (.agg [.v (.bool s),lr k (xs.take k)])):=by
 exact aN 12 [.cell 4 42] Tryz.func85 rfl<|cR<|mO rfl<|mO rfl<|mT<|cSeq<|cDk 7<|oV rfl<|oV rfl<|oV rfl<|oV rfl<|.cons (OpS.V _ rfl)<|oC (aRow (by omega) (by omega)) rfl<|oV rfl<|.nil<|mZ rfl<|mT<|cRet<|rQ rfl (AV.le.rfl)
theorem aQSame{a b:Lf}{K L n:Nat}{c:Nat→Int}(ha:∀ B w v,LfR B w a v→LfR B w (qrow K n (rc c)) v)(hb:∀ B w v,LfR B w b v→LfR B w (prow L n c) v)(hn:n≤1000000:=by decide)(hK:K≤10000000:=by decide)(hL:L≤1000000000:=by decide):ACall Tryz.prog 29 [.one a,.one b] (.d (.one (.v (.bool true)))):=by
 refine ACall.le (dl (DV.l ha) (dl (DV.l hb) dl0)) AV.le.rfl<|aN 38 [.tmp 4] Tryz.func29 rfl<|cR<|mW rfl<|mT<|cSeq<|cR<|mv4 rfl rfl rfl rfl<|mbF rfl (bne_self_eq_false _)<|mT<|cFs rfl<|cSeq<|cR<|mv3 rfl rfl rfl<|mT<|cBlock<|cLoop (ι:=Nat) (fun (i:Nat)=>⟨38,[(0,.d (.one (.row 4 n (qel K (rc c))))),(1,.d (.one (.row 2 n (zel L c)))),(12,.d (.one (.v (.int .i64 (n:Int))))),(13,.d (.one (.v (.int .i64 ((i:Nat):Int)))))],[]⟩) (fun (i:Nat)=>i≤n) (fun (i:Nat)=>n-i) 0 (Nat.zero_le _) (wkr rfl rfl) ?_;rintro i hI;have hi:i≤n:=hI;show AW _ _ _ ⟨_,_,_⟩
 refine cR<|mW rfl<|mT<|cSeq<|cCond rfl (fun hc1=>?_) (fun hc1=>?_)
 ·refine cSkip<|tN<|cSeq<|cBlock<|cR<|mv2 rfl rfl<|mT<|cSeq ?_;have hin:i < n:=by have h0:=of_decide_eq_true hc1;omega
  refine cDk 21<|.cons (OpS.V _ rfl)<|.cons (OpS.V _ rfl)<|.cons (OpS.V (.d (.one (.at 4 ((qel K (rc c)) i)))) (ixR (el:=(qel K (rc c))) (z:=((i:Nat):Int)) (n:=n) rfl rfl rfl rfl rfl rfl (by omega) (by omega))) ?_;refine .cons (OpS.V _ rfl)<|oV rfl<|.cons (OpS.V _ rfl)<|.cons (OpS.V _ rfl)<|.cons (OpS.V (.d (.one (.at 2 ((zel L c) i)))) (ixR (el:=(zel L c)) (z:=((i:Nat):Int)) (n:=n) rfl rfl rfl rfl rfl rfl (by omega) (by omega))) ?_;refine oV rfl<|oC (aRSame (IsR.eq (isr K (Rat.num ((rc c) i))) (Rat.num_intCast _)) (isn L (c i))) rfl<|oV rfl<|.cons (OpS.V _ rfl)<|.cons (OpS.V _ rfl)<|.cons (OpS.V _ rfl)<|.cons (OpS.V (.d (.one (.at 4 ((qel K (rc c)) i)))) (ixR (el:=(qel K (rc c))) (z:=((i:Nat):Int)) (n:=n) rfl rfl rfl rfl rfl rfl (by omega) (by omega))) ?_;exact .cons (OpS.V _ rfl)<|oV rfl<|oC aROf rfl<|oC (aRCmp (isr K (Rat.den ((rc c) i):Int)) (isr 64 1)) rfl<|oF rfl (by show (cmpZ ((rc c i).den:Int) 1 !=0)=false;unfold rc;rw [Rat.den_intCast];rfl)<|.cons (OpS.V _ rfl)<|.nil<|mT<|cF rfl<|cSkip<|bN<|tN<|cReg<|mv2 rfl rfl<|mNil<|⟨(i+1),by omega,by omega,wk rfl ⟨hs rfl,hs rfl,hs rfl,hs' rfl (le_int (inc64 (by omega))),trivial⟩ trivial rfl⟩
 ·exact cExit<|tE<|tE<|bE<|tN<|cR<|mW rfl<|mT<|cRet<|rQ rfl (AV.le.rfl)
/-- A row that came in (in the words of the rows' shells) is a row as the walks read it: kind k, each from 0 to B - 1. -/
theorem rw_in{k:IntKind}{B:Nat}{w:World}{a:Option Addr}{len cap:Nat}{zs:List Int} 
  (h:(a=none∧len=0∧cap=0∧zs= [])∨∃ x,a=some x∧len≤cap∧cap≤maxLen∧zs.length=cap∧(∀ i,i < zs.length→w.cell? (x.add i)=some (.int k (zs.getD i 0)))∧∀ n∈zs,(Lit.int k n).wf=true)
  (hk:∀ z:Int,(Lit.int k z).wf=true→0≤z∧z < (B:Int)):
  len≤9223372036854775807∧∃ xs,Rw k B w a len cap xs:=by
 rcases h with ⟨rfl,rfl,rfl,rfl⟩ | ⟨x,rfl,hlc,hcm,hz,hcell,hwf⟩
 ·exact ⟨by omega,[],Rw.nil k B w⟩
 ·have hm:maxLen=9223372036854775807:=by decide
  refine ⟨by omega,(zs.take len).map Int.toNat,by rw [List.length_map,List.length_take];omega,hlc,(fun e=>nomatch e),?_,?_⟩
  ·intro n hn
   obtain ⟨z,hz,rfl⟩:=List.mem_map.1 hn;have:=hk z (hwf z (List.mem_of_mem_take hz));omega
  ·by_cases h0:len=0
   ·left;subst h0;rfl
   ·right
    obtain ⟨b,off,sp⟩:=x;have hc0:=hcell 0 (by omega);obtain rfl:sp=none:=by
     cases sp with
     | none=>rfl
     | some s=>
      exfalso;simp only [Addr.add,if_true,World.cell?] at hc0;split at hc0 <;> simp_all
    refine ⟨b,off,rfl,fun j hj=>?_⟩;have hj2:j < len:=by simp [ints] at hj;omega
    have hcj:=hcell j (by omega);have hzj:zs.getD j 0=zs[j]'(by omega):=by rw [List.getD_eq_getElem?_getD,List.getElem?_eq_getElem (by omega)];rfl
    have e1:(⟨b,off,none⟩:Addr).add j=⟨b,off+j,none⟩:=by
     unfold Addr.add;split
     ·next h=>subst h;rfl
     ·rfl
    rw [e1,hzj] at hcj;rw [hcj];have hw:=hk _ (hwf _ (List.getElem_mem (l:=zs) (n:=j) (by omega)));simp only [ints,List.map_map,List.getElem_map,List.getElem_take,Function.comp];rw [Int.toNat_of_nonneg hw.1]
theorem wf_u32(z:Int)(h:(Lit.int .u32 z).wf=true):0≤z∧z < (B32:Int):=by
 simp only [Lit.wf,Bool.and_eq_true,decide_eq_true_eq] at h;have h1:IntKind.u32.min=0:=by decide
 have h2:IntKind.u32.max=4294967295:=by decide
 have h3:(B32:Int)=4294967296:=by decide
 omega
section
open Go.RowKit Go.ChangeShapes Go.WideShapes
section
variable {H:Type} {enc:TypeId×Value→H} {P:Program} {w:World}
/-- A row of limbs that came in. -/
theorem in_u32s{t e:TypeId}{fuel:Nat}{cs:List Value}{x:DataW H×List MemPlace}(ht:P.underlying t=some (.slice e))(he:P.underlying e=some (.int .u32))(hc:P.cellsOf e=1) 
  (h:DataW.trod enc P w 0 (fun _=>true) true fuel t cs=some x):
  ∃ a len cap,cs= [.slice a len cap]∧len≤9223372036854775807∧∃ xs,Rw .u32 B32 w a len cap xs:=by
 rcases open_ints ht he hc h with ⟨rfl,_⟩ | ⟨a,l,c,zs,rfl,_,hl,hm,hz,_,hcell,hwz⟩
 ·exact ⟨none,0,0,rfl,by omega,[],Rw.nil _ _ _⟩
 ·exact ⟨some a,l,c,rfl,rw_in (.inr ⟨_,rfl,hl,hm,by simpa using hz,hcell,hwz⟩) wf_u32⟩
end
end
section
open Go.RowKit Go.ChangeShapes Go.WideShapes
abbrev MX:Nat:=9223372036854775807
section
variable {H:Type} {enc:TypeId×Value→H} {P:Program} {w:World}
theorem am_lim{t e:TypeId}{fuel:Nat}{cs:List Value}{x:DataW H×List MemPlace}(ht:P.underlying t=some (.slice e))(he:P.underlying e=some (.int .u32))(hc:P.cellsOf e=1) 
  (h:DataW.trod enc P w 0 (fun _=>true) true fuel t cs=some x):∃ v xs,cs= [v]∧LfR nb w (lr MX xs) v:=by
 obtain ⟨a,len,cap,e1,hl,xs,hr⟩:=in_u32s ht he hc h;exact ⟨_,xs,e1,lr_R hr hl (fun _ _ _ h=>h.elim)⟩
end
end
section
open Go.RowKit Go.ChangeShapes Go.WideShapes
section
variable {H:Type} {enc:TypeId×Value→H} {P:Program} {w:World}
theorem am_intc{t e:TypeId}{f0 f1:Field}{fuel:Nat}{cs:List Value}{x:DataW H×List MemPlace}(hs:P.underlying t=some (.struct #[f0,f1]))(ho:f0.offset=0∧f1.offset=1∧P.cellsOf f0.type=1∧P.cellsOf f1.type=1) 
  (h0:P.underlying f0.type=some .bool) (h1:P.underlying f1.type=some (.slice e)) (he:P.underlying e=some (.int .u32)) (hc:P.cellsOf e=1) (hl:cs.length=2)
  (h:DataW.trod enc P w 0 (fun _=>true) true fuel t cs=some x):∃ s xs v1,cs= [.bool s,v1]∧LfR nb w (lr MX xs) v1:=by
 obtain ⟨y0,y1,q,_,_,t0,t1⟩:=trod_struct2 hs h;obtain ⟨o0,o1,k0,k1⟩:=ho
 match cs,hl with
 | [c0,c1],_=>
  rw [o0,k0] at t0;rw [o1,k1] at t1;obtain ⟨s,hb,_⟩:=DataW.trod_bool h0 t0;obtain ⟨v1,xs,e1,hr⟩:=am_lim h1 he hc t1;obtain rfl:c0= .bool s:=(List.cons.inj hb).1;obtain rfl:c1=v1:=(List.cons.inj e1).1;exact ⟨s,xs,_,rfl,hr⟩
/-- A rational in any form. -/
def tan(K:Nat)(s:Bool)(xs:List Nat)(t:Bool)(ys:List Nat):List Lf:= [.v (.bool s),lr K xs] ++ [.v (.bool t),lr K ys]
theorem am_ratc{t u e:TypeId}{g0 g1 f0 f1:Field}{fuel:Nat}{cs:List Value}{x:DataW H×List MemPlace}(hr:P.underlying t=some (.struct #[g0,g1]))(hg:g0.offset=0∧g1.offset=2∧P.cellsOf g0.type=2∧P.cellsOf g1.type=2) 
  (u0:g0.type=u) (u1:g1.type=u) (hs:P.underlying u=some (.struct #[f0,f1])) (ho:f0.offset=0∧f1.offset=1∧P.cellsOf f0.type=1∧P.cellsOf f1.type=1)
  (h0:P.underlying f0.type=some .bool) (h1:P.underlying f1.type=some (.slice e)) (he:P.underlying e=some (.int .u32)) (hc:P.cellsOf e=1) (hl:cs.length=4)
  (h:DataW.trod enc P w 0 (fun _=>true) true fuel t cs=some x):∃ s xs s' ys,LsR nb w (tan MX s xs s' ys) cs:=by
 obtain ⟨y0,y1,q,_,_,t0,t1⟩:=trod_struct2 hr h;obtain ⟨o0,o1,k0,k1⟩:=hg
 match cs,hl with
 | [c0,c1,c2,c3],_=>
  rw [o0,k0,u0] at t0;rw [o1,k1,u1] at t1;obtain ⟨s,xs,v1,e1,r1⟩:=am_intc hs ho h0 h1 he hc rfl t0;obtain ⟨s',ys,v2,e2,r2⟩:=am_intc hs ho h0 h1 he hc rfl t1;simp at e1 e2;obtain ⟨rfl,rfl⟩:=e1;obtain ⟨rfl,rfl⟩:=e2;exact ⟨s,xs,s',ys,⟨rfl,rfl⟩,r1,⟨rfl,rfl⟩,r2,trivial⟩
theorem am_rat{r:Reach}{b0:Nat}{t u e:TypeId}{g0 g1 f0 f1:Field}{v:Value}{d:DataW H}{p:List MemPlace}(hr:P.underlying t=some (.struct #[g0,g1]))(hC:P.cellsOf t=4)(hg:g0.offset=0∧g1.offset=2∧P.cellsOf g0.type=2∧P.cellsOf g1.type=2) 
  (u0:g0.type=u) (u1:g1.type=u) (hs:P.underlying u=some (.struct #[f0,f1])) (ho:f0.offset=0∧f1.offset=1∧P.cellsOf f0.type=1∧P.cellsOf f1.type=1)
  (h0:P.underlying f0.type=some .bool) (h1:P.underlying f1.type=some (.slice e)) (he:P.underlying e=some (.int .u32)) (hc:P.cellsOf e=1)
  (hv:Value.okWide P w r b0 t v) (h:DataW.Trod enc P w 0 (fun _=>true) true t v d p):∃ s xs s' ys,DR nb w (.agg (tan MX s xs s' ys)) v:=by
 obtain ⟨cs,rfl,hsz⟩:=okWide_struct hr hv;obtain ⟨fuel,hf⟩:=h;have hcs:(Value.agg cs).cells.toList=cs.toList:=by simp [Value.cells]
 rw [hcs] at hf;obtain ⟨s,xs,s',ys,hx⟩:=am_ratc hr hg u0 u1 hs ho h0 h1 he hc (by simpa using hsz.trans hC) hf;exact ⟨s,xs,s',ys,cs.toList,by simp,hx⟩
end
end
theorem aKRat{K k:Nat}{s t:Bool}{xs ys:List Nat}(hk:k≤1000000:=by decide)(hK:K≤9223372036854775807:=by decide):ACall Tryz.prog 25 [.agg ([.v (.bool s),lr K xs] ++ [.v (.bool t),lr K ys]),.one (.v (.int .i64 (k:Int)))] (.d (.agg ([.v (.bool s),lr k (xs.take k)] ++ [.v (.bool t),lr k (ys.take k)]))):=by
 exact aN 14 [.cell 4 44] Tryz.func25 rfl<|cR<|mO rfl<|mO rfl<|mT<|cSeq<|cDk 9<|oV rfl<|oV rfl<|.cons (OpS.V _ rfl)<|oC (aKInt (by omega) (by omega)) rfl<|oV rfl<|oV rfl<|.cons (OpS.V _ rfl)<|oC (aKInt (by omega) (by omega)) rfl<|oV rfl<|.nil<|mZ rfl<|mT<|cRet<|rQ rfl (AV.le.rfl)
/-
 RATIONALS of the program, by the machine (3).
-/
instance {lo hi p q:Rat}:Decidable (bel lo hi p q):=inferInstanceAs (Decidable (_∧_))
/-! ### Orders that come together again -/
/-! ### Operations that only look at slots may come first -/
section
open Go.RowKit Go.ChangeShapes Go.WideShapes
end
theorem aAOfT{a:List Lf}{K:Nat}{n d:Int}(ha:IsT a K n d)(hK:K≤100000):ACall Tryz.prog 27 [.agg a] (.d (.agg ([.row 2 (lg (lnP (mkR n d))) (zel (max K 2+1) (lnP (mkR n d)))] ++tn (max K 2+1) (mkR n d) ++tn (max K 2+1) (mkR n d)))):=by
 obtain ⟨s0,xs0,t0,ys0,ha,e0,k0⟩:=ha;exact ACall.le (dl (DV.g ha) dl0) AV.le.rfl<|aN 15 [.cell 2 46] Tryz.func27 rfl<|cR<|mO rfl<|mO rfl<|mT<|cR<|mW rfl<|mY (aTMax (⟨s0,xs0,t0,ys0,fun _ _ _ h=>h,e0,k0⟩:IsT ([.v (.bool s0),lr K xs0] ++ [.v (.bool t0),lr K ys0]) K n d) (M:=(max K 2+1))) rfl<|mZ rfl<|mT<|cSeq<|cDk 10<|oV rfl<|oV rfl<|oC (aNeg (isz (max K 2+1) (Rat.num (mkR n d)))) rfl<|oV rfl<|oV rfl<|.cons (OpS.B _ rfl)<|oV rfl<|oV rfl<|oC aMaxN rfl<|oV rfl<|.nil<|mZ rfl<|mT<|cRet<|rQ rfl (al_row ln_row)
theorem aCmpRatP{a:List Lf}{K L N:Nat}{c:Nat→Int}{lo:Rat}{n d:Int}(hz:z20 c)(ha:IsT a N n d)(hK:K≤100000)(hL:L≤100000)(hN:N≤100000):ACall Tryz.prog 31 [.agg ([.row 2 (lg c) (zel K c)] ++tn L lo ++tn L lo),.agg a] (.d (.one (.v (.int .i64 (cmpQ lo (mkR n d)))))):=by
 obtain ⟨s0,xs0,t0,ys0,ha,e0,k0⟩:=ha;refine ACall.le (dl DV.same (dl (DV.g ha) dl0)) AV.le.rfl<|aN 40 [.tmp 4] Tryz.func31 rfl<|cR<|mO rfl<|mO rfl<|mW rfl<|mT<|cSeq<|cBlock<|cR<|mW rfl<|mY aPoint rfl<|mView 8 (.d (.one (.v (.bool true)))) rfl (le_bool (decide_eq_true Rat.le_refl))<|mW rfl<|mT<|cT rfl<|cR<|mv3 rfl rfl rfl<|mY (aTCmp (ist_tn L lo) (⟨s0,xs0,t0,ys0,fun _ _ _ h=>h,e0,k0⟩:IsT ([.v (.bool s0),lr N xs0] ++ [.v (.bool t0),lr N ys0]) N n d) (by omega) (by omega)) rfl<|mW rfl<|mT<|cRet<|bR<|tR ?_;exact rQ rfl (AV.of_eq (by rw [mkR_self] <;> rfl))
theorem aAlgOf{L1:Nat}{s1 t1:Bool}{xs1 ys1:List Nat}(hL1:L1≤9223372036854775807):ACall Tryz.prog 5 [.agg (tan L1 s1 xs1 t1 ys1)] (.d (.one (.v (.bool true)))):=by
 exact aN 40 [.tmp 2] Tryz.func5 rfl<|cR<|mO rfl<|mW rfl<|mT<|cR<|mW rfl<|mY (aKRat (K:=L1) (k:=3) (s:=s1) (t:=t1) (xs:=xs1) (ys:=ys1) (by omega) (by omega)) rfl<|mZ rfl<|mT<|cR<|mW rfl<|mY (aRFromR (⟨s1,(xs1.take 3),t1,(ys1.take 3),fun _ _ _ h=>h,rfl,rfl⟩:IsT ([.v (.bool s1),lr 3 (xs1.take 3)] ++ [.v (.bool t1),lr 3 (ys1.take 3)]) 3 (zv s1 (val (xs1.take 3))) (zv t1 (val (ys1.take 3)))) (M:=64) (by decide) (by decide)) rfl<|mO rfl<|mZ rfl<|mT<|cR<|mW rfl<|mY (aAOfT (⟨s1,(xs1.take 3),t1,(ys1.take 3),fun _ _ _ h=>h,rfl,rfl⟩:IsT ([.v (.bool s1),lr 3 (xs1.take 3)] ++ [.v (.bool t1),lr 3 (ys1.take 3)]) 3 (zv s1 (val (xs1.take 3))) (zv t1 (val (ys1.take 3)))) (by decide)) rfl<|mO rfl<|mZ rfl<|mT<|cR<|mW rfl<|mY (aQRational (X:=64) (KC:=2916) (t:=(mkR (zv s1 (val (xs1.take 3))) (zv t1 (val (ys1.take 3))))) (by decide) (by decide) (by decide)) rfl<|mO rfl<|mZ rfl<|mT<|cR<|mv4 rfl rfl rfl rfl<|mY (aQSame (K:=64) (L:=(max 3 2+1)) (n:=lg (lnP (mkR (zv s1 (val (xs1.take 3))) (zv t1 (val (ys1.take 3)))))) (c:=(lnP (mkR (zv s1 (val (xs1.take 3))) (zv t1 (val (ys1.take 3)))))) (fun _ _ _ h=>h) (fun _ _ _ h=>h) (by rw [lnP_lg];decide) (by decide) (by decide)) rfl<|mv4 rfl rfl rfl rfl<|mY (aRSameR (isq 64 (mkR (zv s1 (val (xs1.take 3))) (zv t1 (val (ys1.take 3))))) (istn (max 3 2+1) (mkR (zv s1 (val (xs1.take 3))) (zv t1 (val (ys1.take 3))))) (by decide) (by omega)) rfl<|mv5 rfl rfl rfl rfl rfl<|mY (aRSameR (isq 64 (mkR (zv s1 (val (xs1.take 3))) (zv t1 (val (ys1.take 3))))) (istn (max 3 2+1) (mkR (zv s1 (val (xs1.take 3))) (zv t1 (val (ys1.take 3))))) (by decide) (by omega)) rfl<|mv4 rfl rfl rfl rfl<|mY (aCmpRatP (K:=(max 3 2+1)) (L:=(max 3 2+1)) (c:=(lnP (mkR (zv s1 (val (xs1.take 3))) (zv t1 (val (ys1.take 3)))))) (lo:=(mkR (zv s1 (val (xs1.take 3))) (zv t1 (val (ys1.take 3))))) (lnP_z (mkR (zv s1 (val (xs1.take 3))) (zv t1 (val (ys1.take 3))))) (⟨s1,(xs1.take 3),t1,(ys1.take 3),fun _ _ _ h=>h,rfl,rfl⟩:IsT ([.v (.bool s1),lr 3 (xs1.take 3)] ++ [.v (.bool t1),lr 3 (ys1.take 3)]) 3 (zv s1 (val (xs1.take 3))) (zv t1 (val (ys1.take 3)))) (by decide) (by decide) (by decide)) rfl<|mbT rfl (beq_iff_eq.2 (cmpQ_eq rfl))<|mv2 rfl rfl<|mY (aWakes10) rfl<|mv2 rfl rfl<|mT<|cRet<|rQ rfl (AV.le.rfl)
end Go.Proofs.YthccmbncplakjaaGreat
