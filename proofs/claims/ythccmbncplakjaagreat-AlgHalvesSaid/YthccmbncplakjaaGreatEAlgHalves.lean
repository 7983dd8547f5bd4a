/-
  What the proof of AlgHalves asks for besides: joined, short spelling. No condition.
-/
import Derived.Test.YthccmbncplakjaaGreatJ5
set_option linter.unusedVariables false
set_option linter.unusedSimpArgs false
set_option maxRecDepth 100000
set_option maxHeartbeats 4000000
namespace Go.Proofs.YthccmbncplakjaaGreat
open Go.RowKit
namespace Am
end Am
section
open Go.RowKit Am
end
section
open Go.RowKit Am
end
/-! ### Rows cut: noughts on top are taken away -/
/-! ### Sums, products -/
/-! ### A region that draws, order by order -/
section
open Go.RowKit Go.ChangeShapes Go.WideShapes
end
section
open Go.RowKit Go.ChangeShapes Go.WideShapes
end
section
open Go.RowKit Go.ChangeShapes Go.WideShapes
end
/-
 RATIONALS of the program, by the machine (3).
-/
instance {lo hi p q:Rat}:Decidable (bel lo hi p q):=inferInstanceAs (Decidable (_∧_))
/-- The first of the least of i + 1. -/
noncomputable def lsI(As:List AT):Nat→Nat
 | 0=>0
 | i+1=>if cmpC (acu As (i+1)) (acu As (lsI As i)) < 0 then i+1 else lsI As i
theorem lsI_le(As:List AT):∀ i,lsI As i≤i
 | 0=>Nat.le_refl _
 | i+1=>by unfold lsI;split;exact Nat.le_refl _;exact Nat.le_succ_of_le (lsI_le As i)
theorem lsI_lt{As:List AT}{i:Nat}(h:cmpC (acu As (1+i)) (acu As (lsI As i)) < 0):1+i=lsI As (i+1):=by rw [Nat.add_comm 1 i] at *;exact (if_pos h).symm
theorem lsI_ge{As:List AT}{i:Nat}(h:¬ cmpC (acu As (1+i)) (acu As (lsI As i)) < 0):lsI As i=lsI As (i+1):=by rw [Nat.add_comm 1 i] at *;exact (if_neg h).symm
theorem slL{T:TypeId→Option TI}{s:AS}{t e:TypeId}{ti te:TI}{x:Operand}{k:IntKind}{z:Int}{sz n:Nat}{el:Nat→Nat→Lf}{lo:Operand}(h1:T t=some ti)(h2:ti.elem=some e)(h3:T e=some te)(h4:ints2 s lo=some (k,z))(h5:geto s x=some (.d (.one (.row sz n el))))(h6:Nat.beq sz te.n=true)(hz:0≤z)(hz2:z≤(n:Int)):evV T s (.slice t x (some lo) none none)=some (.d (.one (.row sz (n-z.toNat) fun i j=>el (z.toNat+i) j))):=by
 have h6':=Nat.eq_of_beq_eq_true h6;simp only [evV,h1,h2,h3,h5,bndV,h4,if_pos hz];rw [if_pos ⟨h6',by omega,Nat.le_refl _⟩];rfl
theorem al_eq{K L i j:Nat}{As:List AT}{t:TypeId}(h:i=j):AO.le (.box t (alc K (ac As i) L (al As i) L (ah As i))) (.box t (alc K (ac As j) L (al As j) L (ah As j))):=by subst h;exact fun _ _ _ _ h=>h
theorem aLeast{K L X KC N n:Nat}{As:List AT}(hn:n=As.length)(hn0:n≠0)(hn1:n≤1000)(hok:∀ i,i < n→OkV (ac As i) (al As i) (ah As i))(hcN:∀ i,i < n→lg (ac As i)≤N)(hN:N≤10)(hKC:(21*K+3+1)*(2*3^N)≤KC)(hC:KC≤90000000)(hX:11*L+320*K+300≤X)(hX1:X≤100000):ACall Tryz.prog 52 [.one (.row 9 n (elg K L As))] (.tup [.agg ([.row 2 (lg (ac As (lsI As (n-1)))) (zel K (ac As (lsI As (n-1))))] ++tn L (al As (lsI As (n-1))) ++tn L (ah As (lsI As (n-1)))),.one (.v (.bool true))]):=by
 have hz:=elg_z hok (by omega);refine aN 29 [.cell 2 46,.tmp 3] Tryz.func52 rfl<|cR<|mO rfl<|mW rfl<|mT<|cSeq<|cR<|mv2 rfl rfl<|mbF rfl (beq_eq_false_iff_ne.2 (by omega))<|mT<|cFs rfl<|cR<|mW rfl<|mV hTT (.d (.one (.at 9 ((elg K L As) 0)))) (ixR (el:=(elg K L As)) (z:=0) (n:=n) rfl rfl rfl rfl rfl rfl (by omega) (by omega)) ?_;refine mW rfl<|mO rfl<|mZ rfl<|mT<|cSeq<|cR<|mW rfl<|mV hTT (.d (.one (.row 9 (n-1) (fun i j=>elg K L As (1+i) j)))) (slL (z:=1) (n:=n) rfl rfl rfl rfl rfl rfl (by omega) (by omega))<|mv2 rfl rfl<|mT<|cBlock<|cLoop (ι:=Nat) (fun (i:Nat)=>⟨29,[(2,.ptr 2 0),(3,.d (.one (.v (.bool false)))),(4,.ptr 4 0),(15,.d (.one (.row 9 (n-1) (fun i j=>elg K L As (1+i) j)))),(16,.d (.one (.v (.int .i64 ((n-1:Nat):Int))))),(17,.d (.one (.v (.int .i64 ((i:Nat):Int)))))],[(2,.box 46 ([.v (.slice none 0 0),.v (.bool false),.v (.slice none 0 0),.v (.bool false),.v (.slice none 0 0),.v (.bool false),.v (.slice none 0 0),.v (.bool false),.v (.slice none 0 0)])),(4,.box 46 ([.row 2 (lg (ac As (lsI As i))) (zel K (ac As (lsI As i)))] ++tn L (al As (lsI As i)) ++tn L (ah As (lsI As i))))]⟩) (fun (i:Nat)=>i≤n-1) (fun (i:Nat)=>n-1-i) 0 (Nat.zero_le _) (wk rfl ⟨hs rfl,hs rfl,hs rfl,hs rfl,hs rfl,hs' rfl (le_int rfl),trivial⟩ ⟨ho rfl,ho rfl,trivial⟩ rfl) ?_;rintro i hI;have hi:i≤n-1:=hI;show AW _ _ _ ⟨_,_,_⟩
 refine cR<|mW rfl<|mT<|cSeq<|cCond rfl (fun hc1=>?_) (fun hc1=>?_)
 ·refine cSkip<|tN<|cSeq<|cBlock<|cSeq ?_;have hin:i < n-1:=by have h0:=of_decide_eq_true hc1;omega
  have hle:=lsI_le As i;refine cReg<|mV hTT (.d (.one (.at 9 ((fun i j=>elg K L As (1+i) j) i)))) (ixR (el:=(fun i j=>elg K L As (1+i) j)) (z:=((i:Nat):Int)) (n:=(n-1)) rfl rfl rfl rfl rfl rfl (by omega) (by omega)) ?_;refine mW rfl<|mO rfl<|mZ rfl<|mT<|cR<|mv2 rfl rfl<|mY (aACmp (X:=X) (KC:=KC) (N:=N) (hok (1+i) (by omega)) (hok (lsI As i) (by omega)) hN (hcN (1+i) (by omega)) (hcN (lsI As i) (by omega)) hKC hC hX hX1) rfl<|mW rfl<|mT<|cCond rfl (fun hc2=>?_) (fun hc2=>?_)
  ·exact cReg<|mW rfl<|mZ rfl<|mNil<|bN<|tN<|cReg<|mv2 rfl rfl<|mNil<|⟨(i+1),by omega,by omega,wk rfl ⟨hs rfl,hs rfl,hs rfl,hs rfl,hs rfl,hs' rfl (le_int (inc64 (by omega))),trivial⟩ ⟨ho rfl,ho' rfl (al_eq (lsI_lt (of_decide_eq_true hc2))),trivial⟩ rfl⟩
  ·exact cSkip<|bN<|tN<|cReg<|mv2 rfl rfl<|mNil<|⟨(i+1),by omega,by omega,wk rfl ⟨hs rfl,hs rfl,hs rfl,hs rfl,hs rfl,hs' rfl (le_int (inc64 (by omega))),trivial⟩ ⟨ho rfl,ho' rfl (al_eq (lsI_ge (of_decide_eq_false hc2))),trivial⟩ rfl⟩
 ·exact cExit<|tE<|tE<|bE<|tN<|cR<|mW rfl<|mY (aAFresh (hz (lsI As i))) rfl<|mZ rfl<|mW rfl<|mT<|cRet<|rQ rfl (by have h0:=of_decide_eq_false hc1;obtain rfl:i=n-1:=by {omega};exact AV.le.rfl)
/-! ### Orders that come together again -/
/-! ### Operations that only look at slots may come first -/
section
open Go.RowKit Go.ChangeShapes Go.WideShapes
end
/-- Halved from lo, hi on, down to 2^-30 at most. -/
structure HvI(c:Nat→Int)(lo hi u1 u2:Rat)(f:Nat):Prop where
 n:Nar c lo hi u1 u2
 fl:f≤19232
 d:Dz 600 (19232-f) u1 u2
 w:(u2-u1)*t2 30≤t2 f
theorem HvI.tb{c:Nat→Int}{lo hi u1 u2:Rat}{f:Nat}(h:HvI c lo hi u1 u2 f):Tb 2410 u1∧Tb 2410 u2:=h.d.tb (by omega)
theorem HvI.start{c:Nat→Int}{lo hi:Rat}(o:OkA c lo hi)(a:Tb 600 lo)(b:Tb 600 hi):HvI c lo hi lo hi 19232:=⟨.refl o,Nat.le_refl _,by rw [Nat.sub_self];exact dz_start a b,cm_wide (E:=28) a b (by decide)⟩
theorem HvI.rf{c:Nat→Int}{lo hi:Rat}{k:Nat}(hk:k≤30):∀ (n:Nat) (f:Nat) (p q:Rat),HvI c lo hi p q f→Nar c p q (rf c (Rat.divInt 1 ((2:Int)^k)) n p q).1 (rf c (Rat.divInt 1 ((2:Int)^k)) n p q).2∧∃ f',HvI c lo hi (rf c (Rat.divInt 1 ((2:Int)^k)) n p q).1 (rf c (Rat.divInt 1 ((2:Int)^k)) n p q).2 f':=by
 intro n
 induction n with
 | zero=>exact fun f p q h=>⟨.refl h.n.ok,f,h⟩
 | succ n ih=>
  intro f p q h
  by_cases hs:q≤p∨q-p≤Rat.divInt 1 ((2:Int)^k)
  ·rw [rf_stop hs];exact ⟨.refl h.n.ok,f,h⟩
  ·have h1:¬ q≤p:=fun x=>hs (Or.inl x)
   have h2:¬ q-p≤Rat.divInt 1 ((2:Int)^k):=fun x=>hs (Or.inr x)
   rw [rf_go h1 h2];have hf:f≠0:=fun e=>by
    have hw:=h.w;rw [e,show t2 0=1 from rfl] at hw;obtain ⟨e1,e2⟩:=eps_pos k;have e3:((2^k:Nat):Rat)=t2 k:=rfl;rw [e3] at e2;have e4:=t2_mono hk;have e5:=Rat.mul_le_mul_of_nonneg_left e4 (show 0≤Rat.divInt 1 ((2:Int)^k) by grind);have e6:=Rat.mul_lt_mul_of_pos_right (show Rat.divInt 1 ((2:Int)^k) < q-p by grind) (t2_pos 30);grind
   have hd:=h.d.hlf (c:=c);have hfl:=h.fl;have hh:HvI c lo hi (hlf c p q).1 (hlf c p q).2 (f-1):=⟨h.n.trans (hlf_nar h.n.ok).1,by omega,(show 19232-f+1=19232-(f-1) by omega)▸hd,hlf_w' h.n.ok (t2_pos 30) h.w⟩;obtain ⟨h3,f',h4⟩:=ih (f-1) _ _ hh;exact ⟨(hlf_nar h.n.ok).1.trans h3,f',h4⟩
theorem cmpC_hi{c:Nat→Int}{lo hi:Rat}(h:OkA c lo hi):cmpC (cutA c lo hi) (cutP hi)≤0:=by
 have:=bel_cmp h (okA_P h.z hi) (show hi≤hi by grind);rwa [cutA_P (show hi≤hi by grind)] at this
theorem cmpC_lo{c:Nat→Int}{lo hi:Rat}(h:OkA c lo hi):0≤cmpC (cutA c lo hi) (cutP lo):=by
 have h1:=bel_cmp (okA_P h.z lo) h (show lo≤lo by grind);rw [cutA_P (show lo≤lo by grind)] at h1;have h2:=cmpC_neg h.cut (cutP_ok lo);omega
abbrev agA(K L:Nat)(c:Nat→Int)(lo hi:Rat):AV:= .d (.agg (alc K c L lo L hi))
theorem elg_two{K L:Nat}{c d:Nat→Int}{lo hi p q:Rat}:AV.le (.d (.one (.row 9 2 (fun i' j'=>(([prow K (lg c) c] ++tn L lo ++tn L hi ++ [prow K (lg d) d] ++tn L p ++tn L q)[i'*9+j']?).getD (.v undef))))) (.d (.one (.row 9 2 (elg K L [(c,lo,hi),(d,p,q)])))):=le_one (row_le fun i hi' j hj B w v hv=>by
 have hv':LfR B w (((alc K c L lo L hi ++alc K d L p L q)[i*9+j]?).getD (.v undef)) v:=by simpa only [List.append_assoc] using hv
 rw [cat9 rfl hj] at hv'
 by_cases h0:i=0
 ·rw [if_pos h0] at hv';subst h0;exact hv'
 ·obtain rfl:i=1:=by omega
  rw [if_neg h0,Nat.sub_self,Nat.zero_mul,Nat.zero_add] at hv';exact hv')
theorem two_all{p:AT→Prop}{x y:AT}(hx:p x)(hy:p y):∀ i,i < 2→p (ga [x,y] i)
 | 0,_=>hx
 | 1,_=>hy
theorem nil_row9{el:Nat→Nat→Lf}:AV.le (.d (.one (.v (.slice none 0 0)))) (.d (.one (.row 9 0 el))):=fun ρ B w v h=>by
 obtain ⟨rfl,_⟩:=(h:LfR B w _ _);exact ⟨none,0,rfl,Nat.le_refl _,fun _=>rfl,fun i hi=>absurd hi (Nat.not_lt_zero _)⟩
theorem aSort0:ACall Tryz.prog 49 [.one (.v (.slice none 0 0))] (.d (.one (.row 9 0 (elg 0 0 (srt [] 0))))):=ACall.le (dl (dle nil_row9) dl0) AV.le.rfl (aSort (K:=0) (L:=0) (X:=300) (KC:=100) (N:=0) (n:=0) (As:= []) rfl (by decide) (fun i h=>absurd h (Nat.not_lt_zero _)) (fun i h=>absurd h (Nat.not_lt_zero _)) (by decide) (by decide) (by decide) (by decide) (by decide))
theorem aAlgHalves{c0 c2:Nat→Int}{n0 n2:Nat}{a1:Int}(hn0:n0≤9223372036854775807)(hb0:∀ i,i < n0→-9223372036854775808≤c0 i∧c0 i≤9223372036854775807)(h1a: -9223372036854775808≤a1)(h1b:a1≤9223372036854775807)(hn2:n2≤9223372036854775807)(hb2:∀ i,i < n2→-9223372036854775808≤c2 i∧c2 i≤9223372036854775807):ACall Tryz.prog 14 [.one (irow n0 c0),.one (.v (.int .i64 a1)),.one (irow n2 c2)] (.d (.one (.v (.bool true)))):=by
 refine aN 102 [.tmp 6] Tryz.func14 rfl<|cR<|mW rfl<|mT<|cR<|mv2 rfl rfl<|mY (aPick (cl:=c0) (n:=n0) (k:=a1) hn0 h1a h1b) rfl<|AL.fact (f_qa 15 rfl (pk_ok c0 n0 a1).v.ok.z) (fun hq1=>?_);have hlx:=hq1.1.lb1;refine mY (ACall.le (dl DV.same dl0) (al_600 hq1.1 hq1.2.1 hq1.2.2) (aQToA (K:=4) (KC:=2916) (X:=1200) (c:=(pkC c0 n0 a1)) (lo:=(pkL c0 n0 a1)) (hi:=(pkH c0 n0 a1)) ((pk_ok c0 n0 a1).v.ok.z) (by omega) (by omega))) rfl<|mO rfl<|mZ rfl<|mT<|cR<|mW rfl<|mO rfl<|mZ rfl<|mT<|cSeq<|cR<|mW rfl<|mT<|cBlock<|cLoop (ι:=Nat×Nat×Rat×Rat) (fun (p:Nat×Nat×Rat×Rat)=>match p with | (f,k,u1,u2)=>⟨102,[(2,.d (.one (.row 1 n2 (fun i _=> .v (.int .i64 (c2 i)))))),(7,.ptr 7 0),(8,.ptr 8 0),(9,.d (.one (.v (.int .i64 ((k:Nat):Int)))))],[(7,.box 46 ([.row 2 (lg (pkC c0 n0 a1)) (zel 4 (pkC c0 n0 a1))] ++tn 2410 u1 ++tn 2410 u2)),(8,.box 46 ([.row 2 (lg (pkC c0 n0 a1)) (zel 4 (pkC c0 n0 a1))] ++tn 600 (pkL c0 n0 a1) ++tn 600 (pkH c0 n0 a1)))]⟩) (fun (p:Nat×Nat×Rat×Rat)=>match p with | (f,k,u1,u2)=>k≤5∧HvI (pkC c0 n0 a1) (pkL c0 n0 a1) (pkH c0 n0 a1) u1 u2 f) (fun (p:Nat×Nat×Rat×Rat)=>match p with | (f,k,u1,u2)=>5-k) (19232,0,(pkL c0 n0 a1),(pkH c0 n0 a1)) (⟨by decide,.start (pk_ok c0 n0 a1).v.ok (q6 hq1.2.1) (q6 hq1.2.2)⟩) (wk rfl ⟨hs rfl,hs rfl,hs rfl,hs' rfl (le_int rfl),trivial⟩ ⟨ho' rfl (al_leo (tb_mono (q6 hq1.2.1) (by decide)) (tb_mono (q6 hq1.2.2) (by decide))),ho rfl,trivial⟩ rfl) ?_;rintro ⟨f,k,u1,u2⟩ hI;obtain ⟨hk,hI⟩:k≤5∧HvI (pkC c0 n0 a1) (pkL c0 n0 a1) (pkH c0 n0 a1) u1 u2 f:=hI;show AW _ _ _ ⟨_,_,_⟩
 refine cSeq<|cSeq ?_
 by_cases hkn:k < n2
 ·by_cases hk5:k < 5
  ·refine cReg<|mv3 rfl rfl rfl<|mdT rfl (by omega)<|mv2 rfl rfl<|mdT rfl (by omega)<|mW rfl<|mT<|cT rfl<|cSkip<|tN<|cSeq<|cBlock<|cSeq ?_;obtain ⟨hn',f',hJ'⟩:=hI.rf (k:=(c2 k%(30:Int)).toNat) (by omega) 77151 _ _ _;obtain ⟨v1,v2,e1,e2⟩:∃ v1 v2,(rf (pkC c0 n0 a1) (Rat.divInt 1 ((2:Int)^(c2 k%(30:Int)).toNat)) 77151 u1 u2).1=v1∧(rf (pkC c0 n0 a1) (Rat.divInt 1 ((2:Int)^(c2 k%(30:Int)).toNat)) 77151 u1 u2).2=v2:=⟨_,_,rfl,rfl⟩
   rw [e1,e2] at hJ' hn';have hT:=hJ'.tb;have hc0:cmpC (cutA (pkC c0 n0 a1) v1 v2) (cutA (pkC c0 n0 a1) (pkL c0 n0 a1) (pkH c0 n0 a1))=0:=cmpC_eq hJ'.n.cut;refine cDk 8<|oV rfl<|.cons (OpS.V _ rfl)<|.cons (OpS.V _ rfl)<|.cons (OpS.V (.d (.one (.at 1 ((fun i _=> .v (.int .i64 (c2 i))) k)))) (ixR (el:=(fun i _=> .v (.int .i64 (c2 i)))) (z:=((k:Nat):Int)) (n:=n2) rfl rfl rfl rfl rfl rfl (by omega) (by omega))) ?_;exact oV rfl<|oC (aWithin (v:=(c2 k)) (n:=30) (by decide) (by decide) (hb2 k (by omega)).1 (hb2 k (by omega)).2) rfl<|oC (ACall.le (dl DV.same (dl DV.same dl0)) (by rw [e1,e2];exact al_tight hlx hT.1 hT.2) (aRefine (K:=4) (c:=(pkC c0 n0 a1)) (L:=2410) (lo:=u1) (hi:=u2) (k:=(c2 k%(30:Int))) (J:=77151) (X:=9700) hI.n.ok (by omega) (by omega) (by omega) (by decide) (by omega) (by omega))) rfl<|.cons (OpS.N (.box 46 ([.v (.slice none 0 0),.v (.bool false),.v (.slice none 0 0),.v (.bool false),.v (.slice none 0 0),.v (.bool false),.v (.slice none 0 0),.v (.bool false),.v (.slice none 0 0)])) rfl 10 rfl rfl)<|.nil<|mZ rfl<|mT<|cSeq<|cSeq<|cDk 38<|oV rfl<|oV rfl<|oC (ACall.le (dl DV.same (dl (dle (al_tight hlx (tb_mono (q6 hq1.2.1) (by decide)) (tb_mono (q6 hq1.2.2) (by decide)))) dl0)) AV.le.rfl (aACmp (K:=4) (L:=2410) (X:=28090) (KC:=50000) (N:=5) (c:=(pkC c0 n0 a1)) (d:=(pkC c0 n0 a1)) (lo:=v1) (hi:=v2) (x1:=(pkL c0 n0 a1)) (x2:=(pkH c0 n0 a1)) ((pk_ok c0 n0 a1).v.nar hJ'.n) (pk_ok c0 n0 a1).v (by decide) (pk_ok c0 n0 a1).l5 (pk_ok c0 n0 a1).l5 (by decide) (by decide) (by decide) (by decide))) rfl<|oF rfl (by rw [hc0];rfl)<|.cons (OpS.V _ rfl)<|oV rfl<|oV rfl<|oC (aRFromRN (L:=2410) (M:=7230) (q:=v1) (by decide) (by decide)) rfl<|oV rfl<|oV rfl<|oC (aRFromRN (L:=2410) (M:=7230) (q:=u1) (by decide) (by decide)) rfl<|oC (aRCmpR (isq 7230 v1) (isq 7230 u1) (by decide) (by decide)) rfl<|oFd rfl (by have:=cmpQ_ge.2 hn'.lo;omega)<|.cons (OpS.V _ rfl)<|.cons (OpS.V _ rfl)<|oV rfl<|oV rfl<|oC (aRFromRN (L:=2410) (M:=7230) (q:=v2) (by decide) (by decide)) rfl<|oV rfl<|oV rfl<|oC (aRFromRN (L:=2410) (M:=7230) (q:=u2) (by decide) (by decide)) rfl<|oC (aRCmpR (isq 7230 v2) (isq 7230 u2) (by decide) (by decide)) rfl<|oFd rfl (by have:=cmpQ_le.2 hn'.hi;omega)<|.cons (OpS.V _ rfl)<|.cons (OpS.V _ rfl)<|oV rfl<|oV rfl<|oV rfl<|oC (aCmpRat (K:=4) (c:=(pkC c0 n0 a1)) (L:=2410) (lo:=v1) (M:=2410) (hi:=v2) (N:=2410) (t:=v2) hJ'.n.ok (by omega) (by omega) (by omega) (by omega)) rfl<|oFd rfl (by have:=cmpC_hi hJ'.n.ok;omega)<|.cons (OpS.V _ rfl)<|.cons (OpS.V _ rfl)<|oV rfl<|oV rfl<|oV rfl<|oC (aCmpRat (K:=4) (c:=(pkC c0 n0 a1)) (L:=2410) (lo:=v1) (M:=2410) (hi:=v2) (N:=2410) (t:=v1) hJ'.n.ok (by omega) (by omega) (by omega) (by omega)) rfl<|oFd rfl (by have:=cmpC_lo hJ'.n.ok;omega)<|.cons (OpS.V _ rfl)<|.nil<|mT<|cFs rfl<|cReg<|mW rfl<|mZ rfl<|mNil<|bN<|tN<|cReg<|mW rfl<|mV hTT (.d (.one (.v (.int .i64 ((k+1:Nat):Int))))) (evi (inc64 (by omega)))<|mW rfl<|mNil<|⟨(f',(k+1),v1,v2),⟨by omega,hJ'⟩,by show 5-(k+1) < 5-k;omega,wkr rfl rfl⟩
  ·refine cReg<|mv3 rfl rfl rfl<|mdT rfl (by omega)<|mv2 rfl rfl<|mdF rfl (by omega)<|mW rfl<|mT<|cF rfl<|cExit<|tE<|tE<|bE<|tN<|cSeq ?_;have hok:∀ i,i < 2→OkV (ac [((pkC c0 n0 a1),u1,u2),((pkC c0 n0 a1),(pkL c0 n0 a1),(pkH c0 n0 a1))] i) (al [((pkC c0 n0 a1),u1,u2),((pkC c0 n0 a1),(pkL c0 n0 a1),(pkH c0 n0 a1))] i) (ah [((pkC c0 n0 a1),u1,u2),((pkC c0 n0 a1),(pkL c0 n0 a1),(pkH c0 n0 a1))] i):=two_all (p:=fun x=>OkV x.1 x.2.1 x.2.2) ((pk_ok c0 n0 a1).v.nar hI.n) (pk_ok c0 n0 a1).v
   have hlg:∀ i,i < 2→lg (ac [((pkC c0 n0 a1),u1,u2),((pkC c0 n0 a1),(pkL c0 n0 a1),(pkH c0 n0 a1))] i)≤5:=two_all (p:=fun x=>lg x.1≤5) (pk_ok c0 n0 a1).l5 (pk_ok c0 n0 a1).l5
   have hcu:∀ i,i < 2→∀ q,acu [((pkC c0 n0 a1),u1,u2),((pkC c0 n0 a1),(pkL c0 n0 a1),(pkH c0 n0 a1))] i q↔(cutA (pkC c0 n0 a1) (pkL c0 n0 a1) (pkH c0 n0 a1)) q:=two_all (p:=fun x=>∀ q,atC x q↔(cutA (pkC c0 n0 a1) (pkL c0 n0 a1) (pkH c0 n0 a1)) q) hI.n.cut (fun q=>Iff.rfl)
   have hli:(lsI [((pkC c0 n0 a1),u1,u2),((pkC c0 n0 a1),(pkL c0 n0 a1),(pkH c0 n0 a1))] (2-1)) < 2:=Nat.lt_of_le_of_lt (lsI_le _ _) (by decide);exact cReg<|mv2 rfl rfl<|mView 76 (agA 4 2410 (pkC c0 n0 a1) (pkL c0 n0 a1) (pkH c0 n0 a1)) rfl (al_tight hlx (tb_mono (q6 hq1.2.1) (by decide)) (tb_mono (q6 hq1.2.2) (by decide)))<|mB hTT (.d (.one (.row 9 2 (fun i' j'=>(([.row 2 (lg (pkC c0 n0 a1)) (zel 4 (pkC c0 n0 a1))] ++tn 2410 u1 ++tn 2410 u2 ++ [.row 2 (lg (pkC c0 n0 a1)) (zel 4 (pkC c0 n0 a1))] ++tn 2410 (pkL c0 n0 a1) ++tn 2410 (pkH c0 n0 a1))[i'*9+j']?).getD (.v undef))))) rfl<|mY (ACall.le (dl (dle elg_two) dl0) AV.le.rfl (aLeast (K:=4) (L:=2410) (X:=28090) (KC:=50000) (N:=5) (n:=2) (As:= [((pkC c0 n0 a1),u1,u2),((pkC c0 n0 a1),(pkL c0 n0 a1),(pkH c0 n0 a1))]) rfl (by decide) (by decide) hok hlg (by decide) (by decide) (by decide) (by decide) (by decide))) rfl<|mv3 rfl rfl rfl<|mO rfl<|mZ rfl<|mW rfl<|mT<|cR<|mv4 rfl rfl rfl rfl<|mY (ACall.le (dl DV.same (dl (dle (al_tight hlx (tb_mono (q6 hq1.2.1) (by decide)) (tb_mono (q6 hq1.2.2) (by decide)))) dl0)) AV.le.rfl (aACmp (K:=4) (L:=2410) (X:=28090) (KC:=50000) (N:=5) (c:=(ac [((pkC c0 n0 a1),u1,u2),((pkC c0 n0 a1),(pkL c0 n0 a1),(pkH c0 n0 a1))] (lsI [((pkC c0 n0 a1),u1,u2),((pkC c0 n0 a1),(pkL c0 n0 a1),(pkH c0 n0 a1))] (2-1)))) (d:=(pkC c0 n0 a1)) (lo:=(al [((pkC c0 n0 a1),u1,u2),((pkC c0 n0 a1),(pkL c0 n0 a1),(pkH c0 n0 a1))] (lsI [((pkC c0 n0 a1),u1,u2),((pkC c0 n0 a1),(pkL c0 n0 a1),(pkH c0 n0 a1))] (2-1)))) (hi:=(ah [((pkC c0 n0 a1),u1,u2),((pkC c0 n0 a1),(pkL c0 n0 a1),(pkH c0 n0 a1))] (lsI [((pkC c0 n0 a1),u1,u2),((pkC c0 n0 a1),(pkL c0 n0 a1),(pkH c0 n0 a1))] (2-1)))) (x1:=(pkL c0 n0 a1)) (x2:=(pkH c0 n0 a1)) (hok (lsI [((pkC c0 n0 a1),u1,u2),((pkC c0 n0 a1),(pkL c0 n0 a1),(pkH c0 n0 a1))] (2-1)) hli) (pk_ok c0 n0 a1).v (by decide) (hlg (lsI [((pkC c0 n0 a1),u1,u2),((pkC c0 n0 a1),(pkL c0 n0 a1),(pkH c0 n0 a1))] (2-1)) hli) (pk_ok c0 n0 a1).l5 (by decide) (by decide) (by decide) (by decide))) rfl<|mbT rfl (beq_iff_eq.2 (cmpC_eq (hcu (lsI [((pkC c0 n0 a1),u1,u2),((pkC c0 n0 a1),(pkL c0 n0 a1),(pkH c0 n0 a1))] (2-1)) hli)))<|mv2 rfl rfl<|mY (aSort0) rfl<|mv5 rfl rfl rfl rfl rfl<|mB hTT (.d (.one (.row 9 1 (fun i' j'=>(([.row 2 (lg (pkC c0 n0 a1)) (zel 4 (pkC c0 n0 a1))] ++tn 2410 u1 ++tn 2410 u2)[i'*9+j']?).getD (.v undef))))) rfl<|mv4 rfl rfl rfl rfl<|mY (aWakes10) rfl<|mv2 rfl rfl<|mT<|cRet<|rQ rfl (AV.le.rfl)
 ·refine cReg<|mv3 rfl rfl rfl<|mdF rfl (by omega)<|mW rfl<|mG rfl rfl<|mG rfl rfl<|mW rfl<|mT<|cF rfl<|cExit<|tE<|tE<|bE<|tN<|cSeq ?_;have hok:∀ i,i < 2→OkV (ac [((pkC c0 n0 a1),u1,u2),((pkC c0 n0 a1),(pkL c0 n0 a1),(pkH c0 n0 a1))] i) (al [((pkC c0 n0 a1),u1,u2),((pkC c0 n0 a1),(pkL c0 n0 a1),(pkH c0 n0 a1))] i) (ah [((pkC c0 n0 a1),u1,u2),((pkC c0 n0 a1),(pkL c0 n0 a1),(pkH c0 n0 a1))] i):=two_all (p:=fun x=>OkV x.1 x.2.1 x.2.2) ((pk_ok c0 n0 a1).v.nar hI.n) (pk_ok c0 n0 a1).v
  have hlg:∀ i,i < 2→lg (ac [((pkC c0 n0 a1),u1,u2),((pkC c0 n0 a1),(pkL c0 n0 a1),(pkH c0 n0 a1))] i)≤5:=two_all (p:=fun x=>lg x.1≤5) (pk_ok c0 n0 a1).l5 (pk_ok c0 n0 a1).l5
  have hcu:∀ i,i < 2→∀ q,acu [((pkC c0 n0 a1),u1,u2),((pkC c0 n0 a1),(pkL c0 n0 a1),(pkH c0 n0 a1))] i q↔(cutA (pkC c0 n0 a1) (pkL c0 n0 a1) (pkH c0 n0 a1)) q:=two_all (p:=fun x=>∀ q,atC x q↔(cutA (pkC c0 n0 a1) (pkL c0 n0 a1) (pkH c0 n0 a1)) q) hI.n.cut (fun q=>Iff.rfl)
  have hli:(lsI [((pkC c0 n0 a1),u1,u2),((pkC c0 n0 a1),(pkL c0 n0 a1),(pkH c0 n0 a1))] (2-1)) < 2:=Nat.lt_of_le_of_lt (lsI_le _ _) (by decide);exact cReg<|mv2 rfl rfl<|mView 76 (agA 4 2410 (pkC c0 n0 a1) (pkL c0 n0 a1) (pkH c0 n0 a1)) rfl (al_tight hlx (tb_mono (q6 hq1.2.1) (by decide)) (tb_mono (q6 hq1.2.2) (by decide)))<|mB hTT (.d (.one (.row 9 2 (fun i' j'=>(([.row 2 (lg (pkC c0 n0 a1)) (zel 4 (pkC c0 n0 a1))] ++tn 2410 u1 ++tn 2410 u2 ++ [.row 2 (lg (pkC c0 n0 a1)) (zel 4 (pkC c0 n0 a1))] ++tn 2410 (pkL c0 n0 a1) ++tn 2410 (pkH c0 n0 a1))[i'*9+j']?).getD (.v undef))))) rfl<|mY (ACall.le (dl (dle elg_two) dl0) AV.le.rfl (aLeast (K:=4) (L:=2410) (X:=28090) (KC:=50000) (N:=5) (n:=2) (As:= [((pkC c0 n0 a1),u1,u2),((pkC c0 n0 a1),(pkL c0 n0 a1),(pkH c0 n0 a1))]) rfl (by decide) (by decide) hok hlg (by decide) (by decide) (by decide) (by decide) (by decide))) rfl<|mv3 rfl rfl rfl<|mO rfl<|mZ rfl<|mW rfl<|mT<|cR<|mv4 rfl rfl rfl rfl<|mY (ACall.le (dl DV.same (dl (dle (al_tight hlx (tb_mono (q6 hq1.2.1) (by decide)) (tb_mono (q6 hq1.2.2) (by decide)))) dl0)) AV.le.rfl (aACmp (K:=4) (L:=2410) (X:=28090) (KC:=50000) (N:=5) (c:=(ac [((pkC c0 n0 a1),u1,u2),((pkC c0 n0 a1),(pkL c0 n0 a1),(pkH c0 n0 a1))] (lsI [((pkC c0 n0 a1),u1,u2),((pkC c0 n0 a1),(pkL c0 n0 a1),(pkH c0 n0 a1))] (2-1)))) (d:=(pkC c0 n0 a1)) (lo:=(al [((pkC c0 n0 a1),u1,u2),((pkC c0 n0 a1),(pkL c0 n0 a1),(pkH c0 n0 a1))] (lsI [((pkC c0 n0 a1),u1,u2),((pkC c0 n0 a1),(pkL c0 n0 a1),(pkH c0 n0 a1))] (2-1)))) (hi:=(ah [((pkC c0 n0 a1),u1,u2),((pkC c0 n0 a1),(pkL c0 n0 a1),(pkH c0 n0 a1))] (lsI [((pkC c0 n0 a1),u1,u2),((pkC c0 n0 a1),(pkL c0 n0 a1),(pkH c0 n0 a1))] (2-1)))) (x1:=(pkL c0 n0 a1)) (x2:=(pkH c0 n0 a1)) (hok (lsI [((pkC c0 n0 a1),u1,u2),((pkC c0 n0 a1),(pkL c0 n0 a1),(pkH c0 n0 a1))] (2-1)) hli) (pk_ok c0 n0 a1).v (by decide) (hlg (lsI [((pkC c0 n0 a1),u1,u2),((pkC c0 n0 a1),(pkL c0 n0 a1),(pkH c0 n0 a1))] (2-1)) hli) (pk_ok c0 n0 a1).l5 (by decide) (by decide) (by decide) (by decide))) rfl<|mbT rfl (beq_iff_eq.2 (cmpC_eq (hcu (lsI [((pkC c0 n0 a1),u1,u2),((pkC c0 n0 a1),(pkL c0 n0 a1),(pkH c0 n0 a1))] (2-1)) hli)))<|mv2 rfl rfl<|mY (aSort0) rfl<|mv5 rfl rfl rfl rfl rfl<|mB hTT (.d (.one (.row 9 1 (fun i' j'=>(([.row 2 (lg (pkC c0 n0 a1)) (zel 4 (pkC c0 n0 a1))] ++tn 2410 u1 ++tn 2410 u2)[i'*9+j']?).getD (.v undef))))) rfl<|mv4 rfl rfl rfl rfl<|mY (aWakes10) rfl<|mv2 rfl rfl<|mT<|cRet<|rQ rfl (AV.le.rfl)
end Go.Proofs.YthccmbncplakjaaGreat
