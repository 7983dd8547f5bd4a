/-
  Laws of the program's functions by an abstract machine, part 4: joined, short spelling. No condition.
-/
import Derived.Test.YtapmpcgekdplfaaGreatJ3
set_option linter.unusedVariables false
set_option linter.unusedSimpArgs false
set_option maxRecDepth 100000
set_option maxHeartbeats 4000000
namespace Go.Proofs.YtapmpcgekdplfaaGreat
open Go.RowKit
theorem VC.cut{p:Fn}{C D:Cut}(h:VC p C)(e:∀ q,D q↔C q):VC p D:=fun ε hε q r hq hr=>h ε hε q r ((e q).1 hq) (fun k=>hr ((e r).2 k))
theorem VC.or{p q:Fn}{C:Cut}(hC:IsCut C)(pp:Po p)(pq:Po q)(h:VC (fun x=>p x*q x) C):VC p C∨VC q C:=by
 rcases sg_or_v hC pp with k | ⟨s,k⟩
 ·exact Or.inl k
 ·rcases sg_or_v hC pq with l | ⟨t,l⟩
  ·exact Or.inr l
  ·exact absurd h fun h=>SgC.not_v (k.mul hC l) h
theorem vc_long{c:Nat→Int}(z:z20 c){C:Cut}(hC:IsCut C)(h:VC (FF c) C)(hne:∃ x,FF c x≠0):2≤lg c:=by
 apply Classical.byContradiction;intro hn
 by_cases h0:lg c=0
 ·obtain ⟨x,hx⟩:=hne
  exact hx ((FF_zero z).1 h0 x)
 ·obtain ⟨κ,hκ,hk⟩:=lg_one_const z (by omega)
  obtain ⟨q,hq⟩:=hC.lo;obtain ⟨r,hr⟩:=hC.hi;rcases (show κ < 0∨0 < κ by grind) with k | k
  ·obtain ⟨t,_,_,ht⟩:=h (-κ / 2) (by grind) q r hq hr
   rw [hk t] at ht;unfold Ab at ht;grind
  ·obtain ⟨t,_,_,ht⟩:=h (κ / 2) (by grind) q r hq hr
   rw [hk t] at ht;unfold Ab at ht;grind
def sepE(n1 n2 h1 h2:Nat):Nat:=20+2*(n1+n2)*(h1+h2+(n1+n2)+8)
theorem small_of{s l E:Nat}{w:Rat}(h:s+l < E)(hw:0≤w)(hE:w*t2 E≤1):t2 s*(t2 l*w) < 1:=by
 have h1:t2 (s+l+1)≤t2 E:=t2_mono h;have h2:w*t2 (s+l+1)≤w*t2 E:=Rat.mul_le_mul_of_nonneg_left h1 hw;rw [t2_add,t2_add] at h2;have e:t2 1=2:=rfl;rw [e] at h2;have hp:=t2_pos s;have hq:=t2_pos l;have h3:0≤w*(t2 s*t2 l):=Rat.mul_nonneg hw (Rat.mul_nonneg (by grind) (by grind));grind
theorem sep{c d:Nat→Int}(zc:z20 c)(zd:z20 d)(sc:Sqf (FF c) (FF (fder c)))(sd:Sqf (FF d) (FF (fder d)))(hc2:2≤lg c)(hd2:2≤lg d){h1 h2:Nat}(b1:∀ i,(c i).natAbs≤2^h1)(b2:∀ i,(d i).natAbs≤2^h2) 
  {C D:Cut} (hC:IsCut C) (hD:IsCut D) (vC:VC (FF c) C) (vD:VC (FF d) D) {q a b:Rat} (hq:(D q∧¬ C q)∨(C q∧¬ D q)) (ca:C a) (cb:¬ C b) (da:D a) (db:¬ D b) (hw:(b-a)*t2 (sepE (lg c) (lg d) h1 h2)≤1):False:=by
 have hlc:=lg_le c;have hld:=lg_le d;have hab:=hC.nb ca cb;have hw1:b-a≤1:=by
  have h:=Rat.mul_le_mul_of_nonneg_left (t2_one (sepE (lg c) (lg d) h1 h2)) (show 0≤b-a by grind);grind
 obtain ⟨hl,ehl⟩:∃ hl,hl=min h1 h2:=⟨_,rfl⟩
 have hin:In (t2 (hl+2)) a∧In (t2 (hl+2)) b:=by
  have key:a < 1+t2 hl∧-(1+t2 hl) < b:=by
   have hp:=t2_pos hl
   by_cases k:h1≤h2
   ·have e:hl=h1:=by omega
    rw [e] at hp ⊢;exact vc_bd zc (by omega) (H:=t2 h1) (by grind) (fun i=>ab_t2 (H:=2^h1) (by have:=b1 i;omega)) vC ca cb
   ·have e:hl=h2:=by omega
    rw [e] at hp ⊢;exact vc_bd zd (by omega) (H:=t2 h2) (by grind) (fun i=>ab_t2 (H:=2^h2) (by have:=b2 i;omega)) vD da db
  have h3:=t2_one hl;rw [t2_add];have e:t2 2=4:=rfl;rw [e];unfold In;constructor <;> constructor <;> grind
 by_cases vA:VC (FF c) D
 ·obtain ⟨U,V,z,hz,hUV,hU,hV,hL⟩:=capA zc sc hc2 b1 (hl+2) (lg c / 2+1) (lg_two _ (by omega))
  have hx:=expA (n1:=lg c) (n2:=lg d) (h1:=h1) (h2:=h2) (hl:=hl) hc2 hlc hd2 (by omega) (by omega);have hs:=small_of hx (show 0≤b-a by grind) hw;rcases hq with ⟨q1,q2⟩ | ⟨q1,q2⟩
  ·exact sepA hC hD sc.der sc.po' hz hUV hU hV hL (by have:=t2_pos (3*(lg c / 2+1)+(hl+2)*lg c+(lg c / 2+1+h1));grind) hin.1 hin.2 hs vC vA ca cb da db q1 q2
  ·exact sepA hD hC sc.der sc.po' hz hUV hU hV hL (by have:=t2_pos (3*(lg c / 2+1)+(hl+2)*lg c+(lg c / 2+1+h1));grind) hin.1 hin.2 hs vA vC da db ca cb q1 q2
 ·by_cases vB:VC (FF d) C
  ·obtain ⟨U,V,z,hz,hUV,hU,hV,hL⟩:=capA zd sd hd2 b2 (hl+2) (lg d / 2+1) (lg_two _ (by omega))
   have hx:=expA (n1:=lg d) (n2:=lg c) (h1:=h2) (h2:=h1) (hl:=hl) hd2 hld hc2 (by omega) (by omega);have e:20+2*(lg d+lg c)*(h2+h1+(lg d+lg c)+8)=sepE (lg c) (lg d) h1 h2:=by unfold sepE;rw [Nat.add_comm (lg d),Nat.add_comm h2]
   rw [e] at hx;have hs:=small_of hx (show 0≤b-a by grind) hw;rcases hq with ⟨q1,q2⟩ | ⟨q1,q2⟩
   ·exact sepA hC hD sd.der sd.po' hz hUV hU hV hL (by have:=t2_pos (3*(lg d / 2+1)+(hl+2)*lg d+(lg d / 2+1+h2));grind) hin.1 hin.2 hs vB vD ca cb da db q1 q2
   ·exact sepA hD hC sd.der sd.po' hz hUV hU hV hL (by have:=t2_pos (3*(lg d / 2+1)+(hl+2)*lg d+(lg d / 2+1+h2));grind) hin.1 hin.2 hs vD vB da db ca cb q1 q2
  ·obtain ⟨γ,k1,k2,zγ,hγ0,pm,y1,y2,c1,c2,hγc,hγd,cop,g1,g2⟩:=ex_gcdI zc zd (by omega) (by omega)
   have nγC:¬ VC (FF γ) C:=fun h=>vB ((h.mul hC (FF_po y2)).congr fun x=>by rw [g2 x];grind)
   have nγD:¬ VC (FF γ) D:=fun h=>vA ((h.mul hD (FF_po y1)).congr fun x=>by rw [g1 x];grind)
   have v1:VC (FF k1) C:=by
    rcases VC.or hC (FF_po y1) (FF_po zγ) (vC.congr g1) with h | h
    ·exact h
    ·exact absurd h nγC
   have v2:VC (FF k2) D:=by
    rcases VC.or hD (FF_po y2) (FF_po zγ) (vD.congr g2) with h | h
    ·exact h
    ·exact absurd h nγD
   have ne1:∃ x,FF k1 x≠0:=by
    obtain ⟨x,hx⟩:=FF_nz zc (by omega);exact ⟨x,fun e=>hx (by rw [g1 x,e,Rat.zero_mul])⟩
   have l1:=vc_long y1 hC v1 ne1;have hdeg:lg k1-1+(lg γ-1)=lg c-1:=by
    have h5:=((FF_lc y1 (by omega)).mul (FF_lc zγ hγ0)).congr fun x=>(g1 x).symm
    exact (h5.uniq (FF_lc zc (by omega))).1
   obtain ⟨U,V,z,hz,hUV,hU,hV,hL⟩:=capC zc zd zγ y1 y2 hc2 hd2 hγ0 pm c2 hγc hγd (by omega) cop g1 g2 (hm:=max h1 h2) (h2:=h2) (fun i=>Nat.le_trans (b1 i) (Nat.pow_le_pow_right (by decide) (Nat.le_max_left _ _))) (fun i=>Nat.le_trans (b2 i) (Nat.pow_le_pow_right (by decide) (Nat.le_max_right _ _))) b2 (hl+2) ((lg c+lg d) / 2+1) (lg d / 2+1) (lg c+lg d) rfl (lg_two _ (by omega)) (lg_two _ (by omega));have hx:=expC (n1:=lg c) (n2:=lg d) (h1:=h1) (h2:=h2) (hl:=hl) hc2 hlc hd2 hld (by omega) (by omega) (by omega);have hs:=small_of hx (show 0≤b-a by grind) hw;exact sepC hz hUV hU hV hL (by have:=t2_pos (3*(lg d / 2+1)+(hl+2)*lg d+(lg d / 2+1+(h2+(1+(lg d / 2+1))*lg d)+(4+(lg d / 2+1))*lg d));grind) hin.1 hin.2 hs v1 v2 ca cb da db
/-! ### A number with its polynomial -/
structure OkV(c:Nat→Int)(lo hi:Rat):Prop where
 ok:OkA c lo hi
 sq:Sqf (FF c) (FF (fder c))
 l2:2≤lg c
 vc:VC (FF c) (cutA c lo hi)
theorem OkV.nar{c:Nat→Int}{lo hi a b:Rat}(h:OkV c lo hi)(k:Nar c lo hi a b):OkV c a b:=⟨k.ok,h.sq,h.l2,h.vc.cut k.cut⟩
theorem OkA.below{c:Nat→Int}{lo hi q:Rat}(h:OkA c lo hi)(hq:q < lo):cutA c lo hi q:=by
 by_cases hl:hi≤lo
 ·rw [cutA_P hl];exact hq
 ·rw [cutA_I (by grind)];exact Or.inl (by grind)
theorem OkA.above{c:Nat→Int}{lo hi q:Rat}(h:OkA c lo hi)(hq:hi≤q):¬ cutA c lo hi q:=fun k=>by
 rcases h.lo_le k with k | k | k <;> grind
theorem OkA.lt_hi{c:Nat→Int}{lo hi q:Rat}(h:OkA c lo hi)(hq:cutA c lo hi q):q < hi:=by
 rcases h.lo_le hq with k | k | k <;> grind
def bel(lo hi p q:Rat):Prop:=hi≤p∧¬ (hi≤lo∧q≤p∧hi=p)
instance {lo hi p q:Rat}:Decidable (bel lo hi p q):=inferInstanceAs (Decidable (_∧_))
noncomputable def apF(c d:Nat→Int):Nat→Rat→Rat→Rat→Rat→Rat×Rat×Rat×Rat×Int
 | 0,lo,hi,p,q=>(lo,hi,p,q,0)
 | n+1,lo,hi,p,q=>if bel lo hi p q then (lo,hi,p,q,-1) else if bel p q lo hi then (lo,hi,p,q,1) else if q-p≤hi-lo then apF c d n (hlf c lo hi).1 (hlf c lo hi).2 p q else apF c d n lo hi (hlf d p q).1 (hlf d p q).2
theorem hlf_w{c:Nat→Int}{lo hi t:Rat}{i:Nat}(h:OkA c lo hi)(ht:0 < t)(k:(hi-lo)*t≤t2 (i+1)):((hlf c lo hi).2-(hlf c lo hi).1)*t≤t2 i:=by
 rw [t2_add] at k;have e:t2 1=2:=rfl;rw [e] at k;have hp:=t2_pos i
 by_cases hl:hi≤lo
 ·have e2:hlf c lo hi=(lo,hi):=if_pos hl
  rw [e2];show (hi-lo)*t≤_
  have h1:=h.le;have:hi-lo=0:=by grind
  rw [this,Rat.zero_mul];grind
 ·have h1:=(hlf_nar h).2 (by grind)
  have h2:=Rat.mul_le_mul_of_nonneg_right h1 (show 0≤t by grind);grind
structure ApR(c d:Nat→Int)(lo hi p q:Rat)(s:Int)(r:Rat×Rat×Rat×Rat×Int):Prop where
 a:Nar c lo hi r.1 r.2.1
 b:Nar d p q r.2.2.1 r.2.2.2.1
 sg:r.2.2.2.2=s
 l:s= -1→r.2.1≤r.2.2.1
theorem bel_cmp{c d:Nat→Int}{lo hi p q:Rat}(h:OkA c lo hi)(k:OkA d p q)(hb:hi≤p):cmpC (cutA c lo hi) (cutA d p q)≤0:=
 (cmpC_le h.cut k.cut).2 fun t ht=>k.below (by have:=h.lt_hi ht;grind)
theorem apF_ok{c d:Nat→Int}{h1 h2:Nat}(b1:∀ i,(c i).natAbs≤2^h1)(b2:∀ i,(d i).natAbs≤2^h2):∀ (n i j:Nat) {lo hi p q:Rat},OkV c lo hi→OkV d p q→cmpC (cutA c lo hi) (cutA d p q)≠0→i+j < n→(hi-lo)*t2 (sepE (lg c) (lg d) h1 h2+2)≤t2 i→(q-p)*t2 (sepE (lg c) (lg d) h1 h2+2)≤t2 j→
  ApR c d lo hi p q (cmpC (cutA c lo hi) (cutA d p q)) (apF c d n lo hi p q)
 | 0,_,_,_,_,_,_,_,_,_,h,_,_=>absurd h (by omega)
 | n+1,i,j,lo,hi,p,q,oa,ob,hne,hn,w1,w2=>by
  obtain ⟨E,hE⟩:∃ E,E=sepE (lg c) (lg d) h1 h2:=⟨_,rfl⟩
  rw [← hE] at w1 w2;have hC:=oa.ok.cut;have hD:=ob.ok.cut;have hbd:=cmpC_bd (cutA c lo hi) (cutA d p q);unfold apF
  by_cases k1:bel lo hi p q
  ·rw [if_pos k1]
   have:=bel_cmp oa.ok ob.ok k1.1;have e:cmpC (cutA c lo hi) (cutA d p q)= -1:=by omega
   rw [e];exact ⟨Nar.refl oa.ok,Nar.refl ob.ok,rfl,fun _=>k1.1⟩
  ·rw [if_neg k1]
   by_cases k2:bel p q lo hi
   ·rw [if_pos k2]
    have h3:=bel_cmp ob.ok oa.ok k2.1;rw [cmpC_neg hC hD] at h3;have e:cmpC (cutA c lo hi) (cutA d p q)=1:=by omega
    rw [e];exact ⟨Nar.refl oa.ok,Nar.refl ob.ok,rfl,fun h=>absurd h (by omega)⟩
   ·rw [if_neg k2]
    have npt:¬ (hi≤lo∧q≤p∧hi=p):=fun ⟨a1,a2,a3⟩=>hne (cmpC_eq fun t=>by
     rw [cutA_P a1,cutA_P a2];have:=oa.ok.le;have e:lo=p:=by grind
     rw [e])
    have npt2:¬ (q≤p∧hi≤lo∧q=lo):=fun ⟨a1,a2,a3⟩=>npt ⟨a2,a1,by have:=oa.ok.le;have:=ob.ok.le;grind⟩
    have o1:p < hi:=Rat.not_le.1 fun h=>k1 ⟨h,npt⟩
    have o2:lo < q:=Rat.not_le.1 fun h=>k2 ⟨h,npt2⟩
    have big:¬ ((hi-lo)*t2 (E+2)≤1∧(q-p)*t2 (E+2)≤1):=fun ⟨u1,u2⟩=>by
     rw [t2_add] at u1 u2;have e4:t2 2=4:=rfl;rw [e4] at u1 u2;have hp:=t2_pos E;obtain ⟨θ,hθ⟩:∃ θ,θ=1 / (2*t2 E):=⟨_,rfl⟩
     have hθ1:θ*t2 E=1 / 2:=by rw [hθ];grind
     have hθ0:0 < θ:=by
      apply Classical.byContradiction;intro hn;have:=Rat.mul_le_mul_of_nonneg_right (show θ≤0 by grind) (show 0≤t2 E by grind);grind
     obtain ⟨a,ha⟩:∃ a,a=(if lo≤p then lo else p)-θ:=⟨_,rfl⟩
     obtain ⟨b,hb⟩:∃ b,b=if hi≤q then q else hi:=⟨_,rfl⟩
     have hlo:a < lo∧a < p:=by rw [ha];split <;> constructor <;> grind
     have hhi:hi≤b∧q≤b:=by rw [hb];split <;> constructor <;> grind
     have hle1:=oa.ok.le;have hle2:=ob.ok.le;have hwid:b-a≤(hi-lo)+(q-p)+θ:=by rw [ha,hb];split <;> split <;> grind
     have hfin:(b-a)*t2 E≤1:=by
      have:=Rat.mul_le_mul_of_nonneg_right hwid (show 0≤t2 E by grind);grind
     have hq:∃ t,(cutA d p q t∧¬ cutA c lo hi t)∨(cutA c lo hi t∧¬ cutA d p q t):=by
      apply Classical.byContradiction;intro hn;refine hne (cmpC_eq fun t=>⟨fun h=>?_,fun h=>?_⟩)
      ·apply Classical.byContradiction;intro k;exact hn ⟨t,Or.inr ⟨h,k⟩⟩
      ·apply Classical.byContradiction;intro k;exact hn ⟨t,Or.inl ⟨h,k⟩⟩
     obtain ⟨t,ht⟩:=hq;rw [hE] at hfin;exact sep oa.ok.z ob.ok.z oa.sq ob.sq oa.l2 ob.l2 b1 b2 hC hD oa.vc ob.vc ht (oa.ok.below hlo.1) (oa.ok.above hhi.1) (ob.ok.below hlo.2) (ob.ok.above hhi.2) hfin
    have tp:=t2_pos (E+2)
    by_cases hw:q-p≤hi-lo
    ·rw [if_pos hw]
     have hi0:i≠0:=fun e=>big ⟨by rw [e] at w1;exact w1,by
      have h3:=Rat.mul_le_mul_of_nonneg_right hw (show 0≤t2 (E+2) by grind);rw [e] at w1;have e1:t2 0=1:=rfl;rw [e1] at w1;grind⟩
     obtain ⟨i',rfl⟩:∃ i',i=i'+1:=⟨i-1,by omega⟩
     have nr:=(hlf_nar oa.ok).1;have ecm:cmpC (cutA c (hlf c lo hi).1 (hlf c lo hi).2) (cutA d p q)=cmpC (cutA c lo hi) (cutA d p q):=by
      rw [show cutA c (hlf c lo hi).1 (hlf c lo hi).2=cutA c lo hi from funext fun t=>propext (nr.cut t)]
     have ih:=apF_ok b1 b2 n i' j (oa.nar nr) ob (by rw [ecm];exact hne) (by omega) (by rw [← hE];exact hlf_w oa.ok tp w1) (by rw [← hE];exact w2);rw [ecm] at ih;exact ⟨nr.trans ih.a,ih.b,ih.sg,ih.l⟩
    ·rw [if_neg hw]
     have hj0:j≠0:=fun e=>big ⟨by
      have h3:=Rat.mul_le_mul_of_nonneg_right (show hi-lo≤q-p by grind) (show 0≤t2 (E+2) by grind);rw [e] at w2;have e1:t2 0=1:=rfl;rw [e1] at w2;grind,by rw [e] at w2;exact w2⟩
     obtain ⟨j',rfl⟩:∃ j',j=j'+1:=⟨j-1,by omega⟩
     have nr:=(hlf_nar ob.ok).1;have ecm:cmpC (cutA c lo hi) (cutA d (hlf d p q).1 (hlf d p q).2)=cmpC (cutA c lo hi) (cutA d p q):=by
      rw [show cutA d (hlf d p q).1 (hlf d p q).2=cutA d p q from funext fun t=>propext (nr.cut t)]
     have ih:=apF_ok b1 b2 n i j' oa (ob.nar nr) (by rw [ecm];exact hne) (by omega) (by rw [← hE];exact w1) (by rw [← hE];exact hlf_w ob.ok tp w2);rw [ecm] at ih;exact ⟨ih.a,nr.trans ih.b,ih.sg,ih.l⟩
theorem sz_bd{c:Nat→Int}(z:z20 c)(i:Nat):(c i).natAbs≤2^szF c (lg c):=by
 by_cases h:i < lg c
 ·have h1:=nbits_lt (c i).natAbs
  exact Nat.le_trans (Nat.le_of_lt h1) (Nat.pow_le_pow_right (by decide) (szF_get h))
 ·rw [z.lg i (by omega)];exact Nat.zero_le _
theorem end_wide(p q:Rat):q-p≤t2 (nbits p.num.natAbs+nbits q.num.natAbs+1):=by
 have h1:=(dy_start (p:=p) (q:=q) (R:=2^nbits p.num.natAbs) (Nat.le_of_lt (nbits_lt _))).b;have h2:=(dy_start (p:=q) (q:=p) (R:=2^nbits q.num.natAbs) (Nat.le_of_lt (nbits_lt _))).b;have h3:t2 (nbits p.num.natAbs)≤t2 (nbits p.num.natAbs+nbits q.num.natAbs):=t2_mono (by omega);have h4:t2 (nbits q.num.natAbs)≤t2 (nbits p.num.natAbs+nbits q.num.natAbs):=t2_mono (by omega);rw [t2_add _ 1];have e:t2 1=2:=rfl;rw [e];have e1:((2^nbits p.num.natAbs:Nat):Rat)=t2 (nbits p.num.natAbs):=rfl;have e2:((2^nbits q.num.natAbs:Nat):Rat)=t2 (nbits q.num.natAbs):=rfl;rw [e1] at h1;rw [e2] at h2;unfold Ab at h1 h2;grind
theorem apF_stp{c d:Nat→Int}{lo hi p q:Rat}(oa:OkV c lo hi)(ob:OkV d p q)(hne:cmpC (cutA c lo hi) (cutA d p q)≠0):ApR c d lo hi p q (cmpC (cutA c lo hi) (cutA d p q)) (apF c d (stp c lo hi d p q) lo hi p q):=by
 obtain ⟨E,hE⟩:∃ E,E=sepE (lg c) (lg d) (szF c (lg c)) (szF d (lg d)):=⟨_,rfl⟩
 refine apF_ok (sz_bd oa.ok.z) (sz_bd ob.ok.z) _ (nbits lo.num.natAbs+nbits hi.num.natAbs+1+(E+2)) (nbits p.num.natAbs+nbits q.num.natAbs+1+(E+2)) oa ob hne ?_ ?_ ?_
 ·rw [hE]
  unfold stp sepE;obtain ⟨P,hP⟩:∃ P,P=(lg c+lg d)*(szF c (lg c)+szF d (lg d)+(lg c+lg d)+8):=⟨_,rfl⟩
  rw [Nat.mul_assoc 2,Nat.mul_assoc 4,← hP];omega
 ·rw [← hE,t2_add _ (E+2)]
  exact Rat.mul_le_mul_of_nonneg_right (end_wide lo hi) (by have:=t2_pos (E+2);grind)
 ·rw [← hE,t2_add _ (E+2)]
  exact Rat.mul_le_mul_of_nonneg_right (end_wide p q) (by have:=t2_pos (E+2);grind)
/-- The loop's state. -/
structure ApI(c d:Nat→Int)(L J f:Nat)(lo hi p q u1 u2 v1 v2:Rat):Prop where
 fl:f≤J
 oa:OkA c u1 u2
 ob:OkA d v1 v2
 da:Dz L (J-f) u1 u2
 db:Dz L (J-f) v1 v2
 e:apF c d f u1 u2 v1 v2=apF c d J lo hi p q
theorem ApI.start{c d:Nat→Int}{L J:Nat}{lo hi p q:Rat}(h:OkA c lo hi)(k:OkA d p q)(h1:Tb L lo)(h2:Tb L hi)(h3:Tb L p)(h4:Tb L q):ApI c d L J J lo hi p q lo hi p q:=⟨Nat.le_refl _,h,k,by rw [Nat.sub_self];exact dz_start h1 h2,by rw [Nat.sub_self];exact dz_start h3 h4,rfl⟩
theorem ApI.end_{c d:Nat→Int}{L J f:Nat}{lo hi p q u1 u2 v1 v2:Rat}(h:ApI c d L J f lo hi p q u1 u2 v1 v2)(hf:f=0):apF c d J lo hi p q=(u1,u2,v1,v2,0):=by rw [← h.e,hf];rfl
theorem ApI.lt{c d:Nat→Int}{L J f:Nat}{lo hi p q u1 u2 v1 v2:Rat}(h:ApI c d L J f lo hi p q u1 u2 v1 v2)(hf:f≠0)(hb:bel u1 u2 v1 v2):apF c d J lo hi p q=(u1,u2,v1,v2,-1):=by
 obtain ⟨g,rfl⟩:∃ g,f=g+1:=⟨f-1,by omega⟩
 rw [← h.e];exact if_pos hb
theorem ApI.gt{c d:Nat→Int}{L J f:Nat}{lo hi p q u1 u2 v1 v2:Rat}(h:ApI c d L J f lo hi p q u1 u2 v1 v2)(hf:f≠0)(hb:¬ bel u1 u2 v1 v2)(hb2:bel v1 v2 u1 u2):apF c d J lo hi p q=(u1,u2,v1,v2,1):=by
 obtain ⟨g,rfl⟩:∃ g,f=g+1:=⟨f-1,by omega⟩
 rw [← h.e];exact (if_neg hb).trans (if_pos hb2)
theorem ApI.go1{c d:Nat→Int}{L J f:Nat}{lo hi p q u1 u2 v1 v2:Rat}(h:ApI c d L J f lo hi p q u1 u2 v1 v2)(hf:f≠0)(hb:¬ bel u1 u2 v1 v2)(hb2:¬ bel v1 v2 u1 u2)(hw:v2-v1≤u2-u1):ApI c d L J (f-1) lo hi p q (hlf c u1 u2).1 (hlf c u1 u2).2 v1 v2:=by
 obtain ⟨g,rfl⟩:∃ g,f=g+1:=⟨f-1,by omega⟩
 have hfl:=h.fl;have hd:=h.da.hlf (c:=c);rw [show J-(g+1)+1=J-g by omega] at hd;exact ⟨by omega,(hlf_nar h.oa).1.ok,h.ob,hd,h.db.mono (by omega),by rw [← h.e];exact (((if_neg hb).trans (if_neg hb2)).trans (if_pos hw)).symm⟩
theorem ApI.go2{c d:Nat→Int}{L J f:Nat}{lo hi p q u1 u2 v1 v2:Rat}(h:ApI c d L J f lo hi p q u1 u2 v1 v2)(hf:f≠0)(hb:¬ bel u1 u2 v1 v2)(hb2:¬ bel v1 v2 u1 u2)(hw:¬ v2-v1≤u2-u1):ApI c d L J (f-1) lo hi p q u1 u2 (hlf d v1 v2).1 (hlf d v1 v2).2:=by
 obtain ⟨g,rfl⟩:∃ g,f=g+1:=⟨f-1,by omega⟩
 have hfl:=h.fl;have hd:=h.db.hlf (c:=d);rw [show J-(g+1)+1=J-g by omega] at hd;exact ⟨by omega,h.oa,(hlf_nar h.ob).1.ok,h.da.mono (by omega),hd,by rw [← h.e];exact (((if_neg hb).trans (if_neg hb2)).trans (if_neg hw)).symm⟩
theorem stp_le{K L:Nat}{c d:Nat→Int}{lo hi p q:Rat}(h1:Lb K c)(h2:Lb K d)(a1:Tb L lo)(a2:Tb L hi)(a3:Tb L p)(a4:Tb L q):stp c lo hi d p q≤64+256*L+160*(64*K+48):=by
 have n1:=nb_lb a1.1;have n2:=nb_lb a2.1;have n3:=nb_lb a3.1;have n4:=nb_lb a4.1;have n5:=szF_le h1 (lg c);have n6:=szF_le h2 (lg d);have hlc:=lg_le c;have hld:=lg_le d;unfold stp;have h:=Nat.mul_le_mul (show 4*(lg c+lg d)≤160 by omega) (show szF c (lg c)+szF d (lg d)+(lg c+lg d)+8≤64*K+48 by omega);omega
section
variable {P:Program} {ops:Array Oper} {Q:Qs} {s:AS}
theorem anyCut{n:Nat}{listed:Array Bool}(n':Nat)(listed':Array Bool)(s':AS)(h:AnyA P ops Q n' listed' s')(k:AnyA P ops Q n' listed' s'→AnyA P ops Q n listed s):AnyA P ops Q n listed s:=k h
theorem anyW{n:Nat}{listed:Array Bool}{s':AS}{r:Nat}{rs:List Nat}(hr:Region.ready .any ops listed=r ::rs)(hw:Wk s s')(h:AnyA P ops Q (n+1) listed s'):AnyA P ops Q (n+1) listed s:=by
 unfold AnyA;unfold AnyA at h;refine ⟨fun e=>absurd (hr.symm.trans e) (by simp),fun i hi=>?_⟩;obtain ⟨o,ho,hal⟩:=h.2 i hi;exact ⟨o,ho,hal.wk hw⟩
end
/-- Does its guard ask what was left out? -/
def gsu(ops:Array Oper)(s:AS)(o:Oper):Bool:=
 match o.guard with
 | none=>false
 | some (j,_)=>match ops.toList[j]? with
  | some oj=>match oj.dst with
   | some d=>match lk s.sl d with
    | some (.tup [])=>true
    | _=>false
   | none=>false
  | none=>false
theorem gsu_ok{ops:Array Oper}{s:AS}{o:Oper}{ρ:Rho}{B:BS}{w:World}{a:Act}(h:gsu ops s o=true)(hs:Slots ρ B w s.sl a):Region.wanted o (yielded ops a.tmps)=false:=by
 unfold gsu at h;unfold Region.wanted;split at h
 ·exact absurd h Bool.noConfusion
 ·rename_i j want hg
  rw [hg];split at h
  ·rename_i oj hj
   split at h
   ·rename_i d hd
    split at h
    ·rename_i hb
     obtain ⟨v,hv,hr⟩:=hs d _ hb;obtain ⟨cs,rfl,hcs⟩:=hr;have hj':ops[j]?=some oj:=by rw [← Array.getElem?_toList];exact hj
     simp only [yielded,hj',Option.bind_some,hd,hv];cases want <;> rfl
    ·exact absurd h Bool.noConfusion
   ·exact absurd h Bool.noConfusion
  ·exact absurd h Bool.noConfusion
section
variable {P:Program} {ops:Array Oper} {Q:Qs} {o:Oper} {l:List Oper} {s:AS}
theorem mGt(hg:gst ops s o=some false)(hd:dok o.dst s.n=true)(k:AL P ops Q l (s.put o.dst (.tup []))):AL P ops Q (o ::l) s:=by
 rintro B0 w0 a w ⟨ρ,hc,hn,hdf,hs⟩;unfold wpList;rw [if_neg (by rw [gst_ok hg hs];exact Bool.noConfusion)];exact k B0 w0 _ w (den_put hc hn hdf hs hd ⟨[],rfl,trivial⟩)
theorem mU(hg:gsu ops s o=true)(hd:dok o.dst s.n=true)(k:AL P ops Q l (s.put o.dst (.tup []))):AL P ops Q (o ::l) s:=by
 rintro B0 w0 a w ⟨ρ,hc,hn,hdf,hs⟩;unfold wpList;rw [if_neg (by rw [gsu_ok hg hs];exact Bool.noConfusion)];exact k B0 w0 _ w (den_put hc hn hdf hs hd ⟨[],rfl,trivial⟩)
end
structure GI(c d:Nat→Int)(M N i:Nat)(g:Nat→Int):Prop where
 z:z20 g
 b:Lb M g
 i0:i=0→∀ j,g j=0
 i1:i=1→Idl (fun _=>0) (FF c) (FF g)
 i2:i=2→Idl (FF c) (FF d) (FF g)
 pm:i≠0→lg g≠0∧Pm (lg g) g
 l:lg g≤N
theorem GI.start{c d:Nat→Int}{M N:Nat}:GI c d M N 0 (fun _=>0):=⟨z20_nil,fun i=>Nat.pow_pos (by decide),fun _ _=>rfl,fun h=>absurd h (by omega),fun h=>absurd h (by omega),fun h=>absurd rfl h,by rw [(lg_zero z20_nil).2 fun _=>rfl];exact Nat.zero_le _⟩
theorem GI.one_{c d g g1:Nat→Int}{K M' N:Nat}(h:GI c d (21*K+3) N 0 g)(zc:z20 c)(hc:lg c≠0)(hN:N≤10)(hcN:lg c≤N)(hb:Lb K c)(k:GcdP g c M' g1):GI c d (21*K+3) N 1 g1:=by
 obtain ⟨l1,l2⟩:=k.le' zc hc;have pm:=k.pm l1;have e:FF g=fun _=>0:=funext fun x=>(FF_zero h.z).1 ((lg_zero h.z).2 (h.i0 rfl)) x
 have id:=k.idl;rw [e] at id;exact ⟨k.z,dv_lb20 zc k.z hc (by omega) id.db pm.one hb,fun h=>absurd h (by omega),fun _=>id,fun h=>absurd h (by omega),fun _=>⟨l1,pm⟩,by omega⟩
theorem GI.two_{c d g g2:Nat→Int}{K M' N:Nat}(h:GI c d (21*K+3) N 1 g)(zc:z20 c)(zd:z20 d)(hc:lg c≠0)(hd:lg d≠0)(hN:N≤10)(hdN:lg d≤N)(hb:Lb K d)(k:GcdP g d M' g2):GI c d (21*K+3) N 2 g2:=by
 obtain ⟨l1,l2⟩:=k.le' zd hd;have pm:=k.pm l1;have id:=h.i1 rfl;obtain ⟨u,v,pu,pv,huv⟩:=id.cm;have cm1:Cmb (FF g) (FF c) (FF d):=⟨v,fun _=>0,pv,po_const 0,fun x=>by rw [huv x];grind⟩;exact ⟨k.z,dv_lb20 zd k.z hd (by omega) k.idl.db pm.one hb,fun h=>absurd h (by omega),fun h=>absurd h (by omega),fun _=>⟨k.idl.cm.trans cm1 (Cmb.r _ _),k.idl.da.trans id.db,k.idl.db⟩,fun _=>⟨l1,pm⟩,by omega⟩
theorem GI.fin{c d g:Nat→Int}{M N:Nat}(h:GI c d M N 2 g):GcdP c d M g:=⟨h.z,h.b,h.i2 rfl,fun _=>(h.pm (by omega)).2⟩
theorem leo_nilex{c d:Nat→Int}{M N:Nat}:AV.le (.d (.one (.v (.slice none 0 0)))) (.d (.one (exL (GI c d M N 0) (fun g=>prow M (lg g) g)))):=
 fun ρ B w v h=>exL_intro (Q:=GI c d M N 0) (L:=fun g=>prow M (lg g) g) (fun _=>0) GI.start ρ B w v (nil_prow' ((lg_zero z20_nil).2 fun _=>rfl) ρ B w v h)
theorem aGcd2{K KC N:Nat}{c d:Nat→Int}(zc:z20 c)(zd:z20 d)(hc:lg c≠0)(hd:lg d≠0)(hN:N≤10)(hcN:lg c≤N)(hdN:lg d≤N)(hbc:Lb K c)(hbd:Lb K d)(hKC:((21*K+3)+1)*(2*3^N)≤KC)(hC:KC≤90000000):ACall Tryz.prog 68 [.one (.row 1 2 (fun i' j'=>(([.row 2 (lg c) (zel K c),.row 2 (lg d) (zel K d)])[i'*1+j']?).getD (.v undef)))] (.d (.one (exL (GcdP c d (21*K+3)) (fun g=>prow (21*K+3) (lg g) g)))):=by
 have hlc:=lg_le c;have hld:=lg_le d;refine aN 17 [.tmp 2] Tryz.func68 rfl<|cR<|mW rfl<|mT<|cR<|mW rfl<|mT<|cSeq<|cR<|mv3 rfl rfl rfl<|mT<|cBlock<|cLoop (ι:=Nat) (fun (i:Nat)=>⟨17,[(6,.d (.one (.row 1 2 (fun i' j'=>(([.row 2 (lg c) (zel K c),.row 2 (lg d) (zel K d)])[i'*1+j']?).getD (.v undef))))),(7,.d (.one (.v (.int .i64 2)))),(8,.d (.one (.v (.int .i64 ((i:Nat):Int))))),(3,.d (.one (exL (GI c d (21*K+3) N i) (fun g=>prow (21*K+3) (lg g) g))))],[]⟩) (fun (i:Nat)=>i≤2) (fun (i:Nat)=>2-i) 0 (Nat.zero_le _) (wk rfl ⟨hs rfl,hs rfl,hs rfl,hs' rfl (leo_nilex),trivial⟩ trivial rfl) ?_;rintro i hI;have hi:i≤2:=hI;show AW _ _ _ ⟨_,_,_⟩
 refine cR<|mW rfl<|mT<|cSeq<|cCond rfl (fun hc1=>?_) (fun hc1=>?_)
 ·refine cSkip<|tN<|cSeq<|cBlock<|cSeq ?_;have hi2:i < 2:=by have h0:=of_decide_eq_true hc1;omega
  by_cases hi0:i=0
  ·obtain rfl:i=0:=by omega
   refine cEx (Qx:=(GI c d (21*K+3) N 0)) (L:=(fun g=>prow (21*K+3) (lg g) g)) 3 rfl (fun g0 hg0=>?_);have hl0:=hg0.l;exact cReg<|mv3 rfl rfl rfl<|mT<|cReg<|mv2 rfl rfl<|mY (aTwo (K:=(21*K+3)) (KC:=KC) (N:=N) (isp (K:=(21*K+3)) (c:=g0) (z20.lg hg0.z)) (IsP.mono (isp (K:=K) (c:=c) (z20.lg zc)) (by omega)) hg0.z zc (by omega) (by omega) hN hl0 (by omega) hKC hC) rfl<|mW rfl<|mNil<|bN<|tN<|cReg<|mv2 rfl rfl<|mNil<|⟨(0+1),by omega,by omega,wk rfl ⟨hs rfl,hs rfl,hs' rfl (le_int rfl),hs' rfl (le_one (exL_mono fun r hr=>⟨r,hg0.one_ zc hc hN hcN hbc hr,prow_tight fun i _=>(hg0.one_ zc hc hN hcN hbc hr).b i⟩)),trivial⟩ trivial rfl⟩
  ·obtain rfl:i=1:=by omega
   refine cEx (Qx:=(GI c d (21*K+3) N 1)) (L:=(fun g=>prow (21*K+3) (lg g) g)) 3 rfl (fun g0 hg0=>?_);have hl0:=hg0.l;exact cReg<|mv3 rfl rfl rfl<|mT<|cReg<|mv2 rfl rfl<|mY (aTwo (K:=(21*K+3)) (KC:=KC) (N:=N) (isp (K:=(21*K+3)) (c:=g0) (z20.lg hg0.z)) (IsP.mono (isp (K:=K) (c:=d) (z20.lg zd)) (by omega)) hg0.z zd (by omega) (by omega) hN hl0 (by omega) hKC hC) rfl<|mW rfl<|mNil<|bN<|tN<|cReg<|mv2 rfl rfl<|mNil<|⟨(1+1),by omega,by omega,wk rfl ⟨hs rfl,hs rfl,hs' rfl (le_int rfl),hs' rfl (le_one (exL_mono fun r hr=>⟨r,hg0.two_ zc zd hc hd hN hdN hbd hr,prow_tight fun i _=>(hg0.two_ zc zd hc hd hN hdN hbd hr).b i⟩)),trivial⟩ trivial rfl⟩
 ·exact cExit<|tE<|tE<|bE<|tN<|cR<|mv2 rfl rfl<|mT<|cRet<|rQ rfl (by have h0:=of_decide_eq_false hc1;obtain rfl:i=2:=by {omega};exact le_one (exL_mono fun r hr=>⟨r,hr.fin,fun _ _ _ h=>h⟩))
theorem rfree_const{g:Nat→Int}(z:z20 g)(h:lg g=1)(a b:Rat):RFree (FF g) a b:=by
 obtain ⟨κ,hκ,hk⟩:=lg_one_const z h;exact ⟨sgq κ,fun e=>hκ (sgq_eq_zero.1 e),fun t _ _=>by rw [hk t]⟩
theorem hasB_iff{c:Nat→Int}{lo hi:Rat}:hasB c lo hi=true↔(sgq (FF c hi)=0∨sgq (FF c hi)≠aft (FF c) (FF (fder c)) lo):=decide_eq_true_iff
theorem has_free{c g:Nat→Int}{lo hi a b:Rat}{w:Fn}(o:OkI (FF c) (FF (fder c)) lo hi)(zg:z20 g)(pw:Po w)(e:∀ x,FF c x=FF g x*w x)(h2:2≤lg g)(h1:lo≤a)(h3:b≤hi)(hab:a < b):hasB g a b=true↔¬ RFree (FF g) a b:=by
 have hs:Sqf (FF g) (FF (fder g)):=o.sq.dv (FF_po zg) pw (FF_po (z20_der zg)) (FF_der zg) e;have hne:∃ x,FF (fder g) x≠0:=FF_nz (z20_der zg) fun h=>by have:=fder_zero zg h;omega
 obtain ⟨gg,l,st,_⟩:=hs.stm hne;obtain ⟨N,hN⟩:=sturm st (a:=a) (b:=b) (by grind);have k:Ctd (FF g) a b N:=⟨gg,l,st,hN⟩;have hle:N≤1:=by
  obtain ⟨K1,M1,_,n1,e1⟩:=o.one.split (m:=a) h1 (by grind);obtain ⟨K2,M2,n2,_,e2⟩:=n1.split (m:=b) (by grind) h3;have:=dv_count o (FF_po zg) pw e st (by grind) k n2;omega
 rw [hasB_iff,← ctd_has (FF_der zg) hab k hle];have h5:=k.free (FF_po zg) (by grind);constructor
 ·intro h6 h7
  have:=h5.2 h7;omega
 ·intro h6
  have:N≠0:=fun h=>h6 (h5.1 h)
  omega
theorem cmp_has{c d g:Nat→Int}{M:Nat}{lo hi p q a b:Rat}(oa:OkA c lo hi)(ob:OkA d p q)(h1:¬ hi≤lo)(h2:¬ q≤p)(hg:GcdP c d M g)(hg0:lg g≠0)(ha:a=if lo < p then p else lo)(hb:b=if q < hi then q else hi):
  (a < b→2≤lg g→hasB g a b=true→cmpC (cutA c lo hi) (cutA d p q)=0)∧((a < b→2≤lg g→hasB g a b=false)→cmpC (cutA c lo hi) (cutA d p q)≠0):=by
 have o1:=oa.i' h1;have o2:=ob.i' h2;have e1:=cutA_I (c:=c) (show lo < hi by grind);have e2:=cutA_I (c:=d) (show p < q by grind);obtain ⟨w1,pw1,f1⟩:=hg.idl.da;obtain ⟨w2,pw2,f2⟩:=hg.idl.db;obtain ⟨u,v,pu,pv,huv⟩:=hg.idl.cm;have f1':∀ x,FF c x=FF g x*w1 x:=fun x=>by rw [f1 x];grind
 have f2':∀ x,FF d x=FF g x*w2 x:=fun x=>by rw [f2 x];grind
 have a1:lo≤a:=by rw [ha];split <;> grind
 have a2:p≤a:=by rw [ha];split <;> grind
 have b1:b≤hi:=by rw [hb];split <;> grind
 have b2:b≤q:=by rw [hb];split <;> grind
 rw [e1,e2];refine ⟨fun hab hl hh=>cmpC_eq (cmp_same o1 o2 (FF_po hg.z) pw1 pw2 f1' f2' a1 a2 b1 b2 hab ((has_free o1 hg.z pw1 f1' hl a1 b1 hab).1 hh)),fun hh h0=>?_⟩;refine cmp_diff o1 o2 (FF_po hg.z) pw1 pw2 pv pu f1' f2' (fun x=>by rw [huv x];grind) (by rw [ha];split;exact Or.inr rfl;exact Or.inl rfl) (by rw [hb];split;exact Or.inr rfl;exact Or.inl rfl) a1 a2 b1 b2 (fun hab=>?_) (cmpC_zero h0)
 by_cases hl:2≤lg g
 ·apply Classical.byContradiction
  intro hn;have:=(has_free o1 hg.z pw1 f1' hl a1 b1 hab).2 hn;rw [hh hab hl] at this;exact absurd this Bool.noConfusion
 ·exact rfree_const hg.z (by omega) a b
theorem aApart{K L X:Nat}{c d:Nat→Int}{lo hi x1 x2:Rat}(hA:OkA c lo hi)(hB:OkA d x1 x2)(hX:11*L+320*K+300≤X)(hX1:X≤100000):ACall Tryz.prog 71 [.agg ([.row 2 (lg c) (zel K c)] ++tn L lo ++tn L hi),.agg ([.row 2 (lg d) (zel K d)] ++tn L x1 ++tn L x2)] (.tup [.agg ([.row 2 (lg c) (zel K c)] ++tn X ((apF c d (stp c lo hi d x1 x2) lo hi x1 x2).1) ++tn X ((apF c d (stp c lo hi d x1 x2) lo hi x1 x2).2.1)),.agg ([.row 2 (lg d) (zel K d)] ++tn X ((apF c d (stp c lo hi d x1 x2) lo hi x1 x2).2.2.1) ++tn X ((apF c d (stp c lo hi d x1 x2) lo hi x1 x2).2.2.2.1)),.one (.v (.int .i64 ((apF c d (stp c lo hi d x1 x2) lo hi x1 x2).2.2.2.2)))]):=by
 refine ACall.fact10 (enters Tryz.func71 rfl rfl) (p:=(Lb K c∧Tb L lo∧Tb L hi)∧(Lb K d∧Tb L x1∧Tb L x2)) (fun B w vs h=>match vs,h with | [_,_],⟨⟨cs,_,hl⟩,⟨ds,_,hk⟩,_⟩=>⟨al_bd hA.z hl,al_bd hB.z hk⟩) (fun hb=>?_);have hJ:=stp_le hb.1.1 hb.2.1 hb.1.2.1 hb.1.2.2 hb.2.2.1 hb.2.2.2;refine aN 83 [.cell 4 40,.cell 5 40,.tmp 6] Tryz.func71 rfl<|cR<|mO rfl<|mO rfl<|mO rfl<|mO rfl<|mW rfl<|mT<|cSeq<|cR<|mv2 rfl rfl<|mY (aSteps hA.z hB.z (by omega) (by omega) (by omega) (by omega) (by omega) (by omega)) rfl<|mW rfl<|mT<|cBlock<|cLoop (ι:=Nat×Rat×Rat×Rat×Rat) (fun (p:Nat×Rat×Rat×Rat×Rat)=>match p with | (f,u1,u2,v1,v2)=>⟨83,[(2,.ptr 2 0),(3,.ptr 3 0),(4,.ptr 4 0),(5,.ptr 5 0),(6,.d (.one (.v (.int .i64 0)))),(9,.d (.one (.v (.int .i64 ((stp c lo hi d x1 x2:Nat):Int))))),(10,.d (.one (.v (.int .i64 (((stp c lo hi d x1 x2)-f:Nat):Int)))))],[(2,.box 40 ([.row 2 (lg c) (zel K c)] ++tn X u1 ++tn X u2)),(3,.box 40 ([.row 2 (lg d) (zel K d)] ++tn X v1 ++tn X v2)),(4,.box 40 ([.v (.slice none 0 0),.v (.bool false),.v (.slice none 0 0),.v (.bool false),.v (.slice none 0 0),.v (.bool false),.v (.slice none 0 0),.v (.bool false),.v (.slice none 0 0)])),(5,.box 40 ([.v (.slice none 0 0),.v (.bool false),.v (.slice none 0 0),.v (.bool false),.v (.slice none 0 0),.v (.bool false),.v (.slice none 0 0),.v (.bool false),.v (.slice none 0 0)]))]⟩) (fun (p:Nat×Rat×Rat×Rat×Rat)=>match p with | (f,u1,u2,v1,v2)=>ApI c d L (stp c lo hi d x1 x2) f lo hi x1 x2 u1 u2 v1 v2) (fun (p:Nat×Rat×Rat×Rat×Rat)=>match p with | (f,u1,u2,v1,v2)=>f) ((stp c lo hi d x1 x2),lo,hi,x1,x2) (.start hA hB hb.1.2.1 hb.1.2.2 hb.2.2.1 hb.2.2.2) (wk rfl ⟨hs rfl,hs rfl,hs rfl,hs rfl,hs rfl,hs rfl,hs' rfl (le_int (by rw [Nat.sub_self];rfl)),trivial⟩ ⟨ho' rfl (al_leo (tb_mono hb.1.2.1 (by omega)) (tb_mono hb.1.2.2 (by omega))),ho' rfl (al_leo (tb_mono hb.2.2.1 (by omega)) (tb_mono hb.2.2.2 (by omega))),ho rfl,ho rfl,trivial⟩ rfl) ?_;rintro ⟨f,u1,u2,v1,v2⟩ hI;have hI:ApI c d L (stp c lo hi d x1 x2) f lo hi x1 x2 u1 u2 v1 v2:=hI;show AW _ _ _ ⟨_,_,_⟩
 refine cR<|mW rfl<|mT<|cSeq<|cCond rfl (fun hc1=>?_) (fun hc1=>?_)
 ·refine cSkip<|tN<|cSeq<|cBlock<|cSeq<|cBlock<|cSeq ?_;have hf0:f≠0:=by have h0:=of_decide_eq_true hc1;omega
  by_cases ka1:u2≤v1
  ·by_cases ka2:u2≤u1
   ·by_cases ka3:v2≤v1
    ·by_cases ka4:u2=v1
     ·have ka:¬ bel u1 u2 v1 v2:=fun h=>h.2 ⟨ka2,ka3,ka4⟩
      refine cReg<|mv4 rfl rfl rfl rfl<|mY aCmpN rfl<|mdT rfl (cmpQ_le.2 ka1)<|mv2 rfl rfl<|mY aPoint rfl<|mdT rfl ka2<|mW rfl<|mY aPoint rfl<|mW rfl<|mdT rfl ka3<|mv4 rfl rfl rfl rfl<|mY aCmpN rfl<|mbT rfl (beq_iff_eq.2 (cmpQ_zero.2 ka4))<|mW rfl<|mbF rfl rfl<|mv2 rfl rfl<|mT<|cF rfl<|cSeq ?_
      by_cases kb1:v2≤u1
      ·by_cases kb2:u2≤u1
       ·by_cases kb3:v2≤v1
        ·by_cases kb4:v2=u1
         ·have kb:¬ bel v1 v2 u1 u2:=fun h=>h.2 ⟨kb3,kb2,kb4⟩
          refine cReg<|mv4 rfl rfl rfl rfl<|mY aCmpN rfl<|mdT rfl (cmpQ_le.2 kb1)<|mv2 rfl rfl<|mY aPoint rfl<|mdT rfl kb2<|mW rfl<|mY aPoint rfl<|mW rfl<|mdT rfl kb3<|mv4 rfl rfl rfl rfl<|mY aCmpN rfl<|mbT rfl (beq_iff_eq.2 (cmpQ_zero.2 kb4))<|mW rfl<|mbF rfl rfl<|mv2 rfl rfl<|mT<|cF rfl<|cSkip<|bN<|tN<|cSeq<|cDk 12<|oV rfl<|oV rfl<|oV rfl<|oV rfl<|oC aSubN rfl<|oV rfl<|oV rfl<|oV rfl<|oV rfl<|oC aSubN rfl<|oC aCmpN rfl<|.cons (OpS.V (.d (.one (.v (.bool (decide (v2-v1≤u2-u1)))))) (evb (decide_eq_decide.2 cmpQ_ge)))<|.nil<|mT<|cCond rfl (fun hc2=>?_) (fun hc2=>?_)
          ·have h':=hI.go1 hf0 ka kb (of_decide_eq_true hc2);have hT:=h'.da.tb (X:=X) (by omega);exact cReg<|mW rfl<|mY (aHalf (X:=X) hI.oa hT.1 hT.2) rfl<|mZ rfl<|mNil<|bN<|tN<|cReg<|mv2 rfl rfl<|mNil<|⟨((f-1),(hlf c u1 u2).1,(hlf c u1 u2).2,v1,v2),h',by show f-1 < f;omega,wk rfl ⟨hs rfl,hs rfl,hs rfl,hs rfl,hs rfl,hs rfl,hs' rfl (le_int ((inc64 (by have:=h'.fl;omega)).trans (by have:=hI.fl;omega))),trivial⟩ ⟨ho rfl,ho rfl,ho rfl,ho rfl,trivial⟩ rfl⟩
          ·have h':=hI.go2 hf0 ka kb (of_decide_eq_false hc2);have hT:=h'.db.tb (X:=X) (by omega);exact cReg<|mW rfl<|mY (aHalf (X:=X) hI.ob hT.1 hT.2) rfl<|mZ rfl<|mNil<|bN<|tN<|cReg<|mv2 rfl rfl<|mNil<|⟨((f-1),u1,u2,(hlf d v1 v2).1,(hlf d v1 v2).2),h',by show f-1 < f;omega,wk rfl ⟨hs rfl,hs rfl,hs rfl,hs rfl,hs rfl,hs rfl,hs' rfl (le_int ((inc64 (by have:=h'.fl;omega)).trans (by have:=hI.fl;omega))),trivial⟩ ⟨ho rfl,ho rfl,ho rfl,ho rfl,trivial⟩ rfl⟩
         ·have kb:bel v1 v2 u1 u2:=⟨kb1,fun h=>kb4 h.2.2⟩;exact cReg<|mv4 rfl rfl rfl rfl<|mY aCmpN rfl<|mdT rfl (cmpQ_le.2 kb1)<|mv2 rfl rfl<|mY aPoint rfl<|mdT rfl kb2<|mW rfl<|mY aPoint rfl<|mW rfl<|mdT rfl kb3<|mv4 rfl rfl rfl rfl<|mY aCmpN rfl<|mbF rfl (beq_eq_false_iff_ne.2 (fun h=>kb4 (cmpQ_zero.1 h)))<|mW rfl<|mbT rfl rfl<|mv2 rfl rfl<|mT<|cT rfl<|cSeq<|cDs 5<|pV rfl<|pV rfl<|.cons (OpS.S 4 (.box 40 ([.row 2 (lg c) (zel K c)] ++tn X u1 ++tn X u2)) rfl rfl) (by kernel_rfl)<|.cons (OpS.S 5 (.box 40 ([.row 2 (lg d) (zel K d)] ++tn X v1 ++tn X v2)) rfl rfl) (by kernel_rfl)<|.cons (OpS.V _ rfl) (by kernel_rfl)<|.nil<|mT<|cRet<|bR<|tR<|bR<|tR<|tR<|bR<|tR<|rQ rfl (by rw [hI.gt hf0 ka kb];exact AV.le.rfl)
        ·have kb:bel v1 v2 u1 u2:=⟨kb1,fun h=>kb3 h.1⟩;exact cReg<|mv4 rfl rfl rfl rfl<|mY aCmpN rfl<|mdT rfl (cmpQ_le.2 kb1)<|mv2 rfl rfl<|mY aPoint rfl<|mdT rfl kb2<|mW rfl<|mY aPoint rfl<|mW rfl<|mdF rfl kb3<|mGt rfl rfl<|mGt rfl rfl<|mGt rfl rfl<|mGt rfl rfl<|mGt rfl rfl<|mGt rfl rfl<|mW rfl<|mbT rfl rfl<|mv2 rfl rfl<|mT<|cT rfl<|cSeq<|cDs 5<|pV rfl<|pV rfl<|.cons (OpS.S 4 (.box 40 ([.row 2 (lg c) (zel K c)] ++tn X u1 ++tn X u2)) rfl rfl) (by kernel_rfl)<|.cons (OpS.S 5 (.box 40 ([.row 2 (lg d) (zel K d)] ++tn X v1 ++tn X v2)) rfl rfl) (by kernel_rfl)<|.cons (OpS.V _ rfl) (by kernel_rfl)<|.nil<|mT<|cRet<|bR<|tR<|bR<|tR<|tR<|bR<|tR<|rQ rfl (by rw [hI.gt hf0 ka kb];exact AV.le.rfl)
       ·have kb:bel v1 v2 u1 u2:=⟨kb1,fun h=>kb2 h.2.1⟩;exact cReg<|mv4 rfl rfl rfl rfl<|mY aCmpN rfl<|mdT rfl (cmpQ_le.2 kb1)<|mv2 rfl rfl<|mY aPoint rfl<|mdF rfl kb2<|mGt rfl rfl<|mGt rfl rfl<|mv2 rfl rfl<|mGt rfl rfl<|mGt rfl rfl<|mGt rfl rfl<|mGt rfl rfl<|mGt rfl rfl<|mGt rfl rfl<|mW rfl<|mbT rfl rfl<|mv2 rfl rfl<|mT<|cT rfl<|cSeq<|cDs 5<|pV rfl<|pV rfl<|.cons (OpS.S 4 (.box 40 ([.row 2 (lg c) (zel K c)] ++tn X u1 ++tn X u2)) rfl rfl) (by kernel_rfl)<|.cons (OpS.S 5 (.box 40 ([.row 2 (lg d) (zel K d)] ++tn X v1 ++tn X v2)) rfl rfl) (by kernel_rfl)<|.cons (OpS.V _ rfl) (by kernel_rfl)<|.nil<|mT<|cRet<|bR<|tR<|bR<|tR<|tR<|bR<|tR<|rQ rfl (by rw [hI.gt hf0 ka kb];exact AV.le.rfl)
      ·have kb:¬ bel v1 v2 u1 u2:=fun h=>kb1 h.1
       refine cReg<|mv4 rfl rfl rfl rfl<|mY aCmpN rfl<|mbF rfl (decide_eq_false (fun h=>kb1 (cmpQ_le.1 h)))<|mW rfl<|mGt rfl rfl<|mGt rfl rfl<|mGt rfl rfl<|mU rfl rfl<|mU rfl rfl<|mGt rfl rfl<|mGt rfl rfl<|mU rfl rfl<|mU rfl rfl<|mU rfl rfl<|mU rfl rfl<|mU rfl rfl<|mU rfl rfl<|mGt rfl rfl<|mGt rfl rfl<|mv2 rfl rfl<|mT<|cF rfl<|cSkip<|bN<|tN<|cSeq<|cDk 12<|oV rfl<|oV rfl<|oV rfl<|oV rfl<|oC aSubN rfl<|oV rfl<|oV rfl<|oV rfl<|oV rfl<|oC aSubN rfl<|oC aCmpN rfl<|.cons (OpS.V (.d (.one (.v (.bool (decide (v2-v1≤u2-u1)))))) (evb (decide_eq_decide.2 cmpQ_ge)))<|.nil<|mT<|cCond rfl (fun hc3=>?_) (fun hc3=>?_)
       ·have h':=hI.go1 hf0 ka kb (of_decide_eq_true hc3);have hT:=h'.da.tb (X:=X) (by omega);exact cReg<|mW rfl<|mY (aHalf (X:=X) hI.oa hT.1 hT.2) rfl<|mZ rfl<|mNil<|bN<|tN<|cReg<|mv2 rfl rfl<|mNil<|⟨((f-1),(hlf c u1 u2).1,(hlf c u1 u2).2,v1,v2),h',by show f-1 < f;omega,wk rfl ⟨hs rfl,hs rfl,hs rfl,hs rfl,hs rfl,hs rfl,hs' rfl (le_int ((inc64 (by have:=h'.fl;omega)).trans (by have:=hI.fl;omega))),trivial⟩ ⟨ho rfl,ho rfl,ho rfl,ho rfl,trivial⟩ rfl⟩
       ·have h':=hI.go2 hf0 ka kb (of_decide_eq_false hc3);have hT:=h'.db.tb (X:=X) (by omega);exact cReg<|mW rfl<|mY (aHalf (X:=X) hI.ob hT.1 hT.2) rfl<|mZ rfl<|mNil<|bN<|tN<|cReg<|mv2 rfl rfl<|mNil<|⟨((f-1),u1,u2,(hlf d v1 v2).1,(hlf d v1 v2).2),h',by show f-1 < f;omega,wk rfl ⟨hs rfl,hs rfl,hs rfl,hs rfl,hs rfl,hs rfl,hs' rfl (le_int ((inc64 (by have:=h'.fl;omega)).trans (by have:=hI.fl;omega))),trivial⟩ ⟨ho rfl,ho rfl,ho rfl,ho rfl,trivial⟩ rfl⟩
     ·have ka:bel u1 u2 v1 v2:=⟨ka1,fun h=>ka4 h.2.2⟩;exact cReg<|mv4 rfl rfl rfl rfl<|mY aCmpN rfl<|mdT rfl (cmpQ_le.2 ka1)<|mv2 rfl rfl<|mY aPoint rfl<|mdT rfl ka2<|mW rfl<|mY aPoint rfl<|mW rfl<|mdT rfl ka3<|mv4 rfl rfl rfl rfl<|mY aCmpN rfl<|mbF rfl (beq_eq_false_iff_ne.2 (fun h=>ka4 (cmpQ_zero.1 h)))<|mW rfl<|mbT rfl rfl<|mv2 rfl rfl<|mT<|cT rfl<|cSeq<|cDs 5<|pV rfl<|pV rfl<|.cons (OpS.S 4 (.box 40 ([.row 2 (lg c) (zel K c)] ++tn X u1 ++tn X u2)) rfl rfl) (by kernel_rfl)<|.cons (OpS.S 5 (.box 40 ([.row 2 (lg d) (zel K d)] ++tn X v1 ++tn X v2)) rfl rfl) (by kernel_rfl)<|.cons (OpS.V _ rfl) (by kernel_rfl)<|.nil<|mT<|cRet<|bR<|tR<|bR<|tR<|tR<|bR<|tR<|rQ rfl (by rw [hI.lt hf0 ka];exact AV.le.rfl)
    ·have ka:bel u1 u2 v1 v2:=⟨ka1,fun h=>ka3 h.2.1⟩;exact cReg<|mv4 rfl rfl rfl rfl<|mY aCmpN rfl<|mdT rfl (cmpQ_le.2 ka1)<|mv2 rfl rfl<|mY aPoint rfl<|mdT rfl ka2<|mW rfl<|mY aPoint rfl<|mW rfl<|mdF rfl ka3<|mGt rfl rfl<|mGt rfl rfl<|mGt rfl rfl<|mGt rfl rfl<|mGt rfl rfl<|mGt rfl rfl<|mW rfl<|mbT rfl rfl<|mv2 rfl rfl<|mT<|cT rfl<|cSeq<|cDs 5<|pV rfl<|pV rfl<|.cons (OpS.S 4 (.box 40 ([.row 2 (lg c) (zel K c)] ++tn X u1 ++tn X u2)) rfl rfl) (by kernel_rfl)<|.cons (OpS.S 5 (.box 40 ([.row 2 (lg d) (zel K d)] ++tn X v1 ++tn X v2)) rfl rfl) (by kernel_rfl)<|.cons (OpS.V _ rfl) (by kernel_rfl)<|.nil<|mT<|cRet<|bR<|tR<|bR<|tR<|tR<|bR<|tR<|rQ rfl (by rw [hI.lt hf0 ka];exact AV.le.rfl)
   ·have ka:bel u1 u2 v1 v2:=⟨ka1,fun h=>ka2 h.1⟩;exact cReg<|mv4 rfl rfl rfl rfl<|mY aCmpN rfl<|mdT rfl (cmpQ_le.2 ka1)<|mv2 rfl rfl<|mY aPoint rfl<|mdF rfl ka2<|mGt rfl rfl<|mGt rfl rfl<|mv2 rfl rfl<|mGt rfl rfl<|mGt rfl rfl<|mGt rfl rfl<|mGt rfl rfl<|mGt rfl rfl<|mGt rfl rfl<|mW rfl<|mbT rfl rfl<|mv2 rfl rfl<|mT<|cT rfl<|cSeq<|cDs 5<|pV rfl<|pV rfl<|.cons (OpS.S 4 (.box 40 ([.row 2 (lg c) (zel K c)] ++tn X u1 ++tn X u2)) rfl rfl) (by kernel_rfl)<|.cons (OpS.S 5 (.box 40 ([.row 2 (lg d) (zel K d)] ++tn X v1 ++tn X v2)) rfl rfl) (by kernel_rfl)<|.cons (OpS.V _ rfl) (by kernel_rfl)<|.nil<|mT<|cRet<|bR<|tR<|bR<|tR<|tR<|bR<|tR<|rQ rfl (by rw [hI.lt hf0 ka];exact AV.le.rfl)
  ·have ka:¬ bel u1 u2 v1 v2:=fun h=>ka1 h.1
   refine cReg<|mv4 rfl rfl rfl rfl<|mY aCmpN rfl<|mbF rfl (decide_eq_false (fun h=>ka1 (cmpQ_le.1 h)))<|mW rfl<|mGt rfl rfl<|mGt rfl rfl<|mGt rfl rfl<|mU rfl rfl<|mU rfl rfl<|mGt rfl rfl<|mGt rfl rfl<|mU rfl rfl<|mU rfl rfl<|mU rfl rfl<|mU rfl rfl<|mU rfl rfl<|mU rfl rfl<|mGt rfl rfl<|mGt rfl rfl<|mv2 rfl rfl<|mT<|cF rfl<|cSeq ?_
   by_cases kb1:v2≤u1
   ·by_cases kb2:u2≤u1
    ·by_cases kb3:v2≤v1
     ·by_cases kb4:v2=u1
      ·have kb:¬ bel v1 v2 u1 u2:=fun h=>h.2 ⟨kb3,kb2,kb4⟩
       refine cReg<|mv4 rfl rfl rfl rfl<|mY aCmpN rfl<|mdT rfl (cmpQ_le.2 kb1)<|mv2 rfl rfl<|mY aPoint rfl<|mdT rfl kb2<|mW rfl<|mY aPoint rfl<|mW rfl<|mdT rfl kb3<|mv4 rfl rfl rfl rfl<|mY aCmpN rfl<|mbT rfl (beq_iff_eq.2 (cmpQ_zero.2 kb4))<|mW rfl<|mbF rfl rfl<|mv2 rfl rfl<|mT<|cF rfl<|cSkip<|bN<|tN<|cSeq<|cDk 12<|oV rfl<|oV rfl<|oV rfl<|oV rfl<|oC aSubN rfl<|oV rfl<|oV rfl<|oV rfl<|oV rfl<|oC aSubN rfl<|oC aCmpN rfl<|.cons (OpS.V (.d (.one (.v (.bool (decide (v2-v1≤u2-u1)))))) (evb (decide_eq_decide.2 cmpQ_ge)))<|.nil<|mT<|cCond rfl (fun hc4=>?_) (fun hc4=>?_)
       ·have h':=hI.go1 hf0 ka kb (of_decide_eq_true hc4);have hT:=h'.da.tb (X:=X) (by omega);exact cReg<|mW rfl<|mY (aHalf (X:=X) hI.oa hT.1 hT.2) rfl<|mZ rfl<|mNil<|bN<|tN<|cReg<|mv2 rfl rfl<|mNil<|⟨((f-1),(hlf c u1 u2).1,(hlf c u1 u2).2,v1,v2),h',by show f-1 < f;omega,wk rfl ⟨hs rfl,hs rfl,hs rfl,hs rfl,hs rfl,hs rfl,hs' rfl (le_int ((inc64 (by have:=h'.fl;omega)).trans (by have:=hI.fl;omega))),trivial⟩ ⟨ho rfl,ho rfl,ho rfl,ho rfl,trivial⟩ rfl⟩
       ·have h':=hI.go2 hf0 ka kb (of_decide_eq_false hc4);have hT:=h'.db.tb (X:=X) (by omega);exact cReg<|mW rfl<|mY (aHalf (X:=X) hI.ob hT.1 hT.2) rfl<|mZ rfl<|mNil<|bN<|tN<|cReg<|mv2 rfl rfl<|mNil<|⟨((f-1),u1,u2,(hlf d v1 v2).1,(hlf d v1 v2).2),h',by show f-1 < f;omega,wk rfl ⟨hs rfl,hs rfl,hs rfl,hs rfl,hs rfl,hs rfl,hs' rfl (le_int ((inc64 (by have:=h'.fl;omega)).trans (by have:=hI.fl;omega))),trivial⟩ ⟨ho rfl,ho rfl,ho rfl,ho rfl,trivial⟩ rfl⟩
      ·have kb:bel v1 v2 u1 u2:=⟨kb1,fun h=>kb4 h.2.2⟩;exact cReg<|mv4 rfl rfl rfl rfl<|mY aCmpN rfl<|mdT rfl (cmpQ_le.2 kb1)<|mv2 rfl rfl<|mY aPoint rfl<|mdT rfl kb2<|mW rfl<|mY aPoint rfl<|mW rfl<|mdT rfl kb3<|mv4 rfl rfl rfl rfl<|mY aCmpN rfl<|mbF rfl (beq_eq_false_iff_ne.2 (fun h=>kb4 (cmpQ_zero.1 h)))<|mW rfl<|mbT rfl rfl<|mv2 rfl rfl<|mT<|cT rfl<|cSeq<|cDs 5<|pV rfl<|pV rfl<|.cons (OpS.S 4 (.box 40 ([.row 2 (lg c) (zel K c)] ++tn X u1 ++tn X u2)) rfl rfl) (by kernel_rfl)<|.cons (OpS.S 5 (.box 40 ([.row 2 (lg d) (zel K d)] ++tn X v1 ++tn X v2)) rfl rfl) (by kernel_rfl)<|.cons (OpS.V _ rfl) (by kernel_rfl)<|.nil<|mT<|cRet<|bR<|tR<|bR<|tR<|tR<|bR<|tR<|rQ rfl (by rw [hI.gt hf0 ka kb];exact AV.le.rfl)
     ·have kb:bel v1 v2 u1 u2:=⟨kb1,fun h=>kb3 h.1⟩;exact cReg<|mv4 rfl rfl rfl rfl<|mY aCmpN rfl<|mdT rfl (cmpQ_le.2 kb1)<|mv2 rfl rfl<|mY aPoint rfl<|mdT rfl kb2<|mW rfl<|mY aPoint rfl<|mW rfl<|mdF rfl kb3<|mGt rfl rfl<|mGt rfl rfl<|mGt rfl rfl<|mGt rfl rfl<|mGt rfl rfl<|mGt rfl rfl<|mW rfl<|mbT rfl rfl<|mv2 rfl rfl<|mT<|cT rfl<|cSeq<|cDs 5<|pV rfl<|pV rfl<|.cons (OpS.S 4 (.box 40 ([.row 2 (lg c) (zel K c)] ++tn X u1 ++tn X u2)) rfl rfl) (by kernel_rfl)<|.cons (OpS.S 5 (.box 40 ([.row 2 (lg d) (zel K d)] ++tn X v1 ++tn X v2)) rfl rfl) (by kernel_rfl)<|.cons (OpS.V _ rfl) (by kernel_rfl)<|.nil<|mT<|cRet<|bR<|tR<|bR<|tR<|tR<|bR<|tR<|rQ rfl (by rw [hI.gt hf0 ka kb];exact AV.le.rfl)
    ·have kb:bel v1 v2 u1 u2:=⟨kb1,fun h=>kb2 h.2.1⟩;exact cReg<|mv4 rfl rfl rfl rfl<|mY aCmpN rfl<|mdT rfl (cmpQ_le.2 kb1)<|mv2 rfl rfl<|mY aPoint rfl<|mdF rfl kb2<|mGt rfl rfl<|mGt rfl rfl<|mv2 rfl rfl<|mGt rfl rfl<|mGt rfl rfl<|mGt rfl rfl<|mGt rfl rfl<|mGt rfl rfl<|mGt rfl rfl<|mW rfl<|mbT rfl rfl<|mv2 rfl rfl<|mT<|cT rfl<|cSeq<|cDs 5<|pV rfl<|pV rfl<|.cons (OpS.S 4 (.box 40 ([.row 2 (lg c) (zel K c)] ++tn X u1 ++tn X u2)) rfl rfl) (by kernel_rfl)<|.cons (OpS.S 5 (.box 40 ([.row 2 (lg d) (zel K d)] ++tn X v1 ++tn X v2)) rfl rfl) (by kernel_rfl)<|.cons (OpS.V _ rfl) (by kernel_rfl)<|.nil<|mT<|cRet<|bR<|tR<|bR<|tR<|tR<|bR<|tR<|rQ rfl (by rw [hI.gt hf0 ka kb];exact AV.le.rfl)
   ·have kb:¬ bel v1 v2 u1 u2:=fun h=>kb1 h.1
    refine cReg<|mv4 rfl rfl rfl rfl<|mY aCmpN rfl<|mbF rfl (decide_eq_false (fun h=>kb1 (cmpQ_le.1 h)))<|mW rfl<|mGt rfl rfl<|mGt rfl rfl<|mGt rfl rfl<|mU rfl rfl<|mU rfl rfl<|mGt rfl rfl<|mGt rfl rfl<|mU rfl rfl<|mU rfl rfl<|mU rfl rfl<|mU rfl rfl<|mU rfl rfl<|mU rfl rfl<|mGt rfl rfl<|mGt rfl rfl<|mv2 rfl rfl<|mT<|cF rfl<|cSkip<|bN<|tN<|cSeq<|cDk 12<|oV rfl<|oV rfl<|oV rfl<|oV rfl<|oC aSubN rfl<|oV rfl<|oV rfl<|oV rfl<|oV rfl<|oC aSubN rfl<|oC aCmpN rfl<|.cons (OpS.V (.d (.one (.v (.bool (decide (v2-v1≤u2-u1)))))) (evb (decide_eq_decide.2 cmpQ_ge)))<|.nil<|mT<|cCond rfl (fun hc5=>?_) (fun hc5=>?_)
    ·have h':=hI.go1 hf0 ka kb (of_decide_eq_true hc5);have hT:=h'.da.tb (X:=X) (by omega);exact cReg<|mW rfl<|mY (aHalf (X:=X) hI.oa hT.1 hT.2) rfl<|mZ rfl<|mNil<|bN<|tN<|cReg<|mv2 rfl rfl<|mNil<|⟨((f-1),(hlf c u1 u2).1,(hlf c u1 u2).2,v1,v2),h',by show f-1 < f;omega,wk rfl ⟨hs rfl,hs rfl,hs rfl,hs rfl,hs rfl,hs rfl,hs' rfl (le_int ((inc64 (by have:=h'.fl;omega)).trans (by have:=hI.fl;omega))),trivial⟩ ⟨ho rfl,ho rfl,ho rfl,ho rfl,trivial⟩ rfl⟩
    ·have h':=hI.go2 hf0 ka kb (of_decide_eq_false hc5);have hT:=h'.db.tb (X:=X) (by omega);exact cReg<|mW rfl<|mY (aHalf (X:=X) hI.ob hT.1 hT.2) rfl<|mZ rfl<|mNil<|bN<|tN<|cReg<|mv2 rfl rfl<|mNil<|⟨((f-1),u1,u2,(hlf d v1 v2).1,(hlf d v1 v2).2),h',by show f-1 < f;omega,wk rfl ⟨hs rfl,hs rfl,hs rfl,hs rfl,hs rfl,hs rfl,hs' rfl (le_int ((inc64 (by have:=h'.fl;omega)).trans (by have:=hI.fl;omega))),trivial⟩ ⟨ho rfl,ho rfl,ho rfl,ho rfl,trivial⟩ rfl⟩
 ·exact cExit<|tE<|tE<|bE<|tN<|cSeq<|cDs 5<|pV rfl<|pV rfl<|.cons (OpS.S 4 (.box 40 ([.row 2 (lg c) (zel K c)] ++tn X u1 ++tn X u2)) rfl rfl) (by kernel_rfl)<|.cons (OpS.S 5 (.box 40 ([.row 2 (lg d) (zel K d)] ++tn X v1 ++tn X v2)) rfl rfl) (by kernel_rfl)<|.cons (OpS.V _ rfl) (by kernel_rfl)<|.nil<|mT<|cRet<|rQ rfl (by rw [hI.end_ (by have h0:=of_decide_eq_false hc1;have:=hI.fl;omega)];exact AV.le.rfl)
theorem aNormN{K:Nat}{p:Rat}(hK:K≤1000000:=by omega):ACall Tryz.prog 102 [.agg (tn K p)] (.d (.agg (tn K p))):=by
 refine ACall.fact10 (enters Tryz.func102 rfl rfl) (p:=Tb K p) (fun B w vs h=>match vs,h with | [_],⟨⟨cs,_,hl⟩,_⟩=>tn_bdT hl) (fun hb=>?_);have h:=aTNorm (ist_tn K p) (Nat.le_refl _) (by omega);rw [mkR_self] at h;exact ACall.le (dl DV.same dl0) (le_agg (tn_tight hb)) h
theorem aMax2{K:Nat}{x1 x2:Rat}(hK:K≤1000000):ACall Tryz.prog 66 [.agg (tn K x1),.one (.row 4 1 (fun i' j'=>((tn K x2)[i'*4+j']?).getD (.v undef)))] (.d (.agg (tn K (if x1 < x2 then x2 else x1)))):=by
 refine aN 24 [.cell 4 38] Tryz.func66 rfl<|cR<|mO rfl<|mO rfl<|mT<|cR<|mW rfl<|mY aNormN rfl<|mO rfl<|mZ rfl<|mT<|cSeq<|cR<|mv3 rfl rfl rfl<|mT<|cBlock<|cLoop (ι:=Nat×Rat) (fun (p:Nat×Rat)=>match p with | (i,m)=>⟨24,[(4,.ptr 4 0),(5,.ptr 5 0),(10,.d (.one (.row 4 1 (fun i' j'=>((tn K x2)[i'*4+j']?).getD (.v undef))))),(11,.d (.one (.v (.int .i64 1)))),(12,.d (.one (.v (.int .i64 ((i:Nat):Int)))))],[(4,.box 38 ([.v (.bool false),.v (.slice none 0 0),.v (.bool false),.v (.slice none 0 0)])),(5,.box 38 (tn K m))]⟩) (fun (p:Nat×Rat)=>match p with | (i,m)=>i≤1∧(i=0→m=x1)∧(i=1→m=(if x1 < x2 then x2 else x1))) (fun (p:Nat×Rat)=>match p with | (i,m)=>1-i) (0,x1) (⟨Nat.zero_le _,fun _=>rfl,fun h=>absurd h (by omega)⟩) (wkr rfl rfl) ?_;rintro ⟨i,m⟩ hI;obtain ⟨hi,h0m,h1m⟩:i≤1∧(i=0→m=x1)∧(i=1→m=(if x1 < x2 then x2 else x1)):=hI;show AW _ _ _ ⟨_,_,_⟩
 refine cR<|mW rfl<|mT<|cSeq<|cCond rfl (fun hc1=>?_) (fun hc1=>?_)
 ·refine cSkip<|tN<|cSeq<|cBlock<|cSeq ?_;obtain rfl:i=0:=by have h0:=of_decide_eq_true hc1;omega
  have hmx:=h0m rfl;subst hmx;refine cReg<|mv2 rfl rfl<|mO rfl<|mZ rfl<|mT<|cR<|mv2 rfl rfl<|mY aCmpN rfl<|mW rfl<|mT<|cCond rfl (fun hc2=>?_) (fun hc2=>?_)
  ·exact cReg<|mW rfl<|mY aNormN rfl<|mZ rfl<|mNil<|bN<|tN<|cReg<|mv2 rfl rfl<|mNil<|⟨((0+1),x2),⟨by omega,fun h=>absurd h (by omega),fun _=>by rw [if_pos (by have h0:=of_decide_eq_true hc2;apply Rat.not_le.1;intro h2;have:=cmpQ_le.2 h2;omega)]⟩,by show 1-(0+1) < 1-0;omega,wk rfl ⟨hs rfl,hs rfl,hs rfl,hs rfl,hs' rfl (le_int rfl),trivial⟩ ⟨ho rfl,ho rfl,trivial⟩ rfl⟩
  ·exact cSkip<|bN<|tN<|cReg<|mv2 rfl rfl<|mNil<|⟨((0+1),m),⟨by omega,fun h=>absurd h (by omega),fun _=>by rw [if_neg (by have h0:=of_decide_eq_false hc2;intro h2;have:=cmpQ_gt h2;omega)]⟩,by show 1-(0+1) < 1-0;omega,wk rfl ⟨hs rfl,hs rfl,hs rfl,hs rfl,hs' rfl (le_int rfl),trivial⟩ ⟨ho rfl,ho rfl,trivial⟩ rfl⟩
 ·exact cExit<|tE<|tE<|bE<|tN<|cR<|mW rfl<|mZ rfl<|mT<|cRet<|rQ rfl (by have hm:=h1m (by have h0:=of_decide_eq_false hc1;omega);rw [hm];exact AV.le.rfl)
theorem cmp_no{c d:Nat→Int}{lo hi p q a b:Rat}(oa:OkA c lo hi)(ob:OkA d p q)(h1:¬ hi≤lo)(h2:¬ q≤p)(ha:a=if lo < p then p else lo)(hb:b=if q < hi then q else hi)(hn:¬ a < b):cmpC (cutA c lo hi) (cutA d p q)≠0:=fun h0=>by
 have e:=cmpC_zero h0;have cl:cutA c lo hi lo:=by rw [cutA_I (by grind)];exact Or.inl (by grind)
 have cp:cutA d p q p:=by rw [cutA_I (by grind)];exact Or.inl (by grind)
 have ca:cutA c lo hi a:=by rw [ha];split;exact (e _).2 cp;exact cl
 have cb:¬ cutA c lo hi b:=by rw [hb];split;exact fun k=>ob.above (by grind) ((e _).1 k);exact oa.above (by grind)
 exact hn (oa.cut.nb ca cb)
theorem dlt{p q:Rat}:(cmpQ p q < 0)↔p < q:=⟨fun h=>Rat.not_le.1 fun h2=>by have:=cmpQ_ge.2 h2;omega,fun h=>by have:=cmpQ_lt h;omega⟩
theorem aACmp{K L X KC N:Nat}{c d:Nat→Int}{lo hi x1 x2:Rat}(oa:OkV c lo hi)(ob:OkV d x1 x2)(hN:N≤10)(hcN:lg c≤N)(hdN:lg d≤N)(hKC:(21*K+3+1)*(2*3^N)≤KC:=by decide)(hC:KC≤90000000:=by decide)(hX:11*L+320*K+300≤X:=by decide)(hX1:X≤100000:=by decide):ACall Tryz.prog 35 [.agg ([.row 2 (lg c) (zel K c)] ++tn L lo ++tn L hi),.agg ([.row 2 (lg d) (zel K d)] ++tn L x1 ++tn L x2)] (.d (.one (.v (.int .i64 (cmpC (cutA c lo hi) (cutA d x1 x2)))))):=by
 have hlc:=lg_le c;have hld:=lg_le d;refine ACall.fact10 (enters Tryz.func35 rfl rfl) (p:=Lb K c∧Lb K d) (fun B w vs h=>match vs,h with | [_,_],⟨⟨cs,_,hl⟩,⟨ds,_,hk⟩,_⟩=>⟨(al_bd oa.ok.z hl).1,(al_bd ob.ok.z hk).1⟩) (fun hb=>?_);have hc2:=oa.l2;have hd2:=ob.l2;refine aN 72 [.tmp 4] Tryz.func35 rfl<|cR<|mO rfl<|mO rfl<|mW rfl<|mT<|cSeq<|cDk 4<|oV rfl<|oC (aANorm oa.ok.z) rfl<|oV rfl<|oC (aANorm ob.ok.z) rfl<|.nil<|mZ rfl<|mZ rfl<|mT<|cSeq<|cBlock<|cR<|mW rfl<|mY aPoint rfl<|mW rfl<|mT<|cCond rfl (fun hc1=>?_) (fun hc1=>?_)
 ·refine cSeq ?_;have hbd:=cmpC_bd (cutA d x1 x2) (cutP lo);exact cReg<|mv3 rfl rfl rfl<|mY (aCmpRat ob.ok) rfl<|mV hTT (.d (.one (.v (.int .i64 (-(cmpC (cutA d x1 x2) (cutP lo))))))) (evi ((wr64 (by omega) (by omega)).trans (by omega)))<|mW rfl<|mT<|cRet<|bR<|tR<|rQ rfl (le_int (by rw [cutA_P (c:=c) (of_decide_eq_true hc1)];exact (cmpC_neg ob.ok.cut (cutP_ok lo)).symm))
 ·refine cR<|mW rfl<|mY aPoint rfl<|mW rfl<|mT<|cCond rfl (fun hc2=>?_) (fun hc2=>?_)
  ·exact cR<|mv3 rfl rfl rfl<|mY (aCmpRat oa.ok) rfl<|mW rfl<|mT<|cRet<|bR<|tR<|rQ rfl (le_int (by rw [cutA_P (c:=d) (of_decide_eq_true hc2)]))
  ·refine cSkip<|bN<|tN<|cSeq ?_;have hP:=of_decide_eq_false hc1;have hQ:=of_decide_eq_false hc2;refine cDs 12<|pV rfl<|pV rfl<|pV rfl<|pV rfl<|.cons (OpS.B _ rfl) (by kernel_rfl)<|pC (aMax2 (by omega)) rfl<|pV rfl<|pV rfl<|.cons (OpS.N (.box 38 ([.v (.bool false),.v (.slice none 0 0),.v (.bool false),.v (.slice none 0 0)])) rfl 5 rfl rfl) (by kernel_rfl)<|.cons (OpS.N (.box 38 ([.v (.bool false),.v (.slice none 0 0),.v (.bool false),.v (.slice none 0 0)])) rfl 6 rfl rfl) (by kernel_rfl)<|.cons (OpS.S 5 (.box 38 (tn L (if lo < x1 then x1 else lo))) rfl rfl) (by kernel_rfl)<|.cons (OpS.S 6 (.box 38 (tn L hi)) rfl rfl) (by kernel_rfl)<|.nil<|mT<|cSeq<|cR<|mv3 rfl rfl rfl<|mY aCmpN rfl<|mV hTT (.d (.one (.v (.bool (decide (x2 < hi)))))) (evb (decide_eq_decide.2 dlt))<|mT<|cCond rfl (fun hc3=>?_) (fun hc3=>?_)
   ·refine cReg<|mv2 rfl rfl<|mZ rfl<|mT<|cSeq<|cSeq ?_;have hbb:x2=if x2 < hi then x2 else hi:=(if_pos (of_decide_eq_true hc3)).symm
    refine cReg<|mv2 rfl rfl<|mY aCmpN rfl<|mV hTT (.d (.one (.v (.bool (decide ((if lo < x1 then x1 else lo) < x2)))))) (evb (decide_eq_decide.2 dlt))<|mT<|cCond rfl (fun hc4=>?_) (fun hc4=>?_)
    ·refine cR<|mv4 rfl rfl rfl rfl<|mB hTT (.d (.one (.row 1 2 (fun i' j'=>(([.row 2 (lg c) (zel K c),.row 2 (lg d) (zel K d)])[i'*1+j']?).getD (.v undef))))) rfl<|mY (aGcd2 (KC:=KC) (N:=N) oa.ok.z ob.ok.z (by omega) (by omega) hN hcN hdN hb.1 hb.2 hKC hC) rfl<|mW rfl<|mT<|cSeq<|cEx (Qx:=(GcdP c d (21*K+3))) (L:=(fun g=>prow (21*K+3) (lg g) g)) 7 rfl (fun g hg=>?_);have hlg:=lg_le g;have hg0:=(hg.le oa.ok.z (by have:=oa.l2;omega)).1
     by_cases hl2:2≤lg g
     ·refine cReg<|mW rfl<|mY aDeg rfl<|mdT rfl (by omega)<|mv4 rfl rfl rfl rfl<|mY (aHas hg.z) rfl<|mW rfl<|mT<|cCond rfl (fun hc5=>?_) (fun hc5=>?_)
      ·exact cR<|mW rfl<|mT<|cRet<|tR<|rQ rfl (le_int ((cmp_has oa.ok ob.ok hP hQ hg hg0 rfl hbb).1 (of_decide_eq_true hc4) hl2 hc5).symm)
      ·exact cSkip<|tN<|cR<|mv2 rfl rfl<|mY (aApart (X:=X) oa.ok ob.ok hX hX1) rfl<|mv4 rfl rfl rfl rfl<|mO rfl<|mO rfl<|mZ rfl<|mZ rfl<|mW rfl<|mT<|cR<|mv2 rfl rfl<|mT<|cRet<|rQ rfl (le_int (apF_stp oa ob ((cmp_has oa.ok ob.ok hP hQ hg hg0 rfl hbb).2 (fun _ _=>hc5))).sg)
     ·exact cReg<|mW rfl<|mY aDeg rfl<|mdF rfl (by omega)<|mW rfl<|mG rfl rfl<|mG rfl rfl<|mG rfl rfl<|mG rfl rfl<|mW rfl<|mT<|cFs rfl<|cR<|mv2 rfl rfl<|mY (aApart (X:=X) oa.ok ob.ok hX hX1) rfl<|mv4 rfl rfl rfl rfl<|mO rfl<|mO rfl<|mZ rfl<|mZ rfl<|mW rfl<|mT<|cR<|mv2 rfl rfl<|mT<|cRet<|rQ rfl (le_int (apF_stp oa ob ((cmp_has oa.ok ob.ok hP hQ hg hg0 rfl hbb).2 (fun _ h=>absurd h hl2))).sg)
    ·exact cSkip<|tN<|cR<|mv2 rfl rfl<|mY (aApart (X:=X) oa.ok ob.ok hX hX1) rfl<|mv4 rfl rfl rfl rfl<|mO rfl<|mO rfl<|mZ rfl<|mZ rfl<|mW rfl<|mT<|cR<|mv2 rfl rfl<|mT<|cRet<|rQ rfl (le_int (apF_stp oa ob (cmp_no oa.ok ob.ok hP hQ rfl hbb (of_decide_eq_false hc4))).sg)
   ·refine cSkip<|tN<|cSeq<|cSeq ?_;have hbb:hi=if x2 < hi then x2 else hi:=(if_neg (of_decide_eq_false hc3)).symm
    refine cReg<|mv2 rfl rfl<|mY aCmpN rfl<|mV hTT (.d (.one (.v (.bool (decide ((if lo < x1 then x1 else lo) < hi)))))) (evb (decide_eq_decide.2 dlt))<|mT<|cCond rfl (fun hc6=>?_) (fun hc6=>?_)
    ·refine cR<|mv4 rfl rfl rfl rfl<|mB hTT (.d (.one (.row 1 2 (fun i' j'=>(([.row 2 (lg c) (zel K c),.row 2 (lg d) (zel K d)])[i'*1+j']?).getD (.v undef))))) rfl<|mY (aGcd2 (KC:=KC) (N:=N) oa.ok.z ob.ok.z (by omega) (by omega) hN hcN hdN hb.1 hb.2 hKC hC) rfl<|mW rfl<|mT<|cSeq<|cEx (Qx:=(GcdP c d (21*K+3))) (L:=(fun g=>prow (21*K+3) (lg g) g)) 7 rfl (fun g hg=>?_);have hlg:=lg_le g;have hg0:=(hg.le oa.ok.z (by have:=oa.l2;omega)).1
     by_cases hl2:2≤lg g
     ·refine cReg<|mW rfl<|mY aDeg rfl<|mdT rfl (by omega)<|mv4 rfl rfl rfl rfl<|mY (aHas hg.z) rfl<|mW rfl<|mT<|cCond rfl (fun hc7=>?_) (fun hc7=>?_)
      ·exact cR<|mW rfl<|mT<|cRet<|tR<|rQ rfl (le_int ((cmp_has oa.ok ob.ok hP hQ hg hg0 rfl hbb).1 (of_decide_eq_true hc6) hl2 hc7).symm)
      ·exact cSkip<|tN<|cR<|mv2 rfl rfl<|mY (aApart (X:=X) oa.ok ob.ok hX hX1) rfl<|mv4 rfl rfl rfl rfl<|mO rfl<|mO rfl<|mZ rfl<|mZ rfl<|mW rfl<|mT<|cR<|mv2 rfl rfl<|mT<|cRet<|rQ rfl (le_int (apF_stp oa ob ((cmp_has oa.ok ob.ok hP hQ hg hg0 rfl hbb).2 (fun _ _=>hc7))).sg)
     ·exact cReg<|mW rfl<|mY aDeg rfl<|mdF rfl (by omega)<|mW rfl<|mG rfl rfl<|mG rfl rfl<|mG rfl rfl<|mG rfl rfl<|mW rfl<|mT<|cFs rfl<|cR<|mv2 rfl rfl<|mY (aApart (X:=X) oa.ok ob.ok hX hX1) rfl<|mv4 rfl rfl rfl rfl<|mO rfl<|mO rfl<|mZ rfl<|mZ rfl<|mW rfl<|mT<|cR<|mv2 rfl rfl<|mT<|cRet<|rQ rfl (le_int (apF_stp oa ob ((cmp_has oa.ok ob.ok hP hQ hg hg0 rfl hbb).2 (fun _ h=>absurd h hl2))).sg)
    ·exact cSkip<|tN<|cR<|mv2 rfl rfl<|mY (aApart (X:=X) oa.ok ob.ok hX hX1) rfl<|mv4 rfl rfl rfl rfl<|mO rfl<|mO rfl<|mZ rfl<|mZ rfl<|mW rfl<|mT<|cR<|mv2 rfl rfl<|mT<|cRet<|rQ rfl (le_int (apF_stp oa ob (cmp_no oa.ok ob.ok hP hQ rfl hbb (of_decide_eq_false hc6))).sg)
/-! ### The greatest root -/
theorem cutN_ok{r rg:Fn}{rl:List Fn}{lo hi:Rat}(hs:Stm r rg rl)(pr:Po r)(hlt:lo < hi)(hn:¬ RFree r lo hi):IsCut (cutI r lo hi):=by
 have mem:∀ q,lo≤q→q < hi→(cutI r lo hi q↔¬ RFree r q hi):=fun q h1 h2=>by
  constructor
  ·rintro (k | ⟨_,k⟩)
   ·have e:q=lo:=by grind
    rw [e];exact hn
   ·exact k
  ·intro k;exact Or.inr ⟨h2,k⟩
 refine ⟨fun q t ht hqt=>?_,fun q hq=>?_,⟨lo,Or.inl (by grind)⟩,⟨hi,cutI_hi hlt (by grind)⟩⟩
 ·by_cases hq:q≤lo
  ·exact Or.inl hq
  ·have hth:t < hi:=by rcases ht with k | ⟨k,_⟩ <;> grind
   rw [mem q (by grind) (by grind)];rw [mem t (by grind) hth] at ht;rintro ⟨s,h1,h2⟩;exact ht ⟨s,h1,fun u a b=>h2 u (by grind) b⟩
 ·by_cases hq1:q < lo
  ·exact ⟨lo,hq1,Or.inl (by grind)⟩
  ·have hqh:q < hi:=by rcases hq with k | ⟨k,_⟩ <;> grind
   rw [mem q (by grind) hqh] at hq;obtain ⟨h0,e,he,hne⟩:=aft_near hs pr q;obtain ⟨z,hz,hz1,hz2⟩:=ex_min he (show 0 < hi-q by grind);refine ⟨q+z / 2,by grind,?_⟩;rw [mem _ (by grind) (by grind)];intro hf;obtain ⟨M,hM⟩:=sturm hs (a:=q) (b:=q+z / 2) (by grind);have hM0:M=0:=hM.nil.2 fun t h1 h2=>hne t h1 (by grind)
   subst hM0;obtain ⟨M2,hM2⟩:=sturm hs (a:=q+z / 2) (b:=hi) (by grind);have c2:Ctd r (q+z / 2) hi M2:=⟨rg,rl,hs,hM2⟩;have:=(c2.free pr (by grind)).2 hf;subst this;have c3:=Ctd.cat pr (show q≤q+z / 2 by grind) (by grind) ⟨rg,rl,hs,hM⟩ c2;exact hq ((c3.free pr (by grind)).1 rfl)
theorem cutN_vc{r rg:Fn}{rl:List Fn}{lo hi:Rat}(hs:Stm r rg rl)(pr:Po r)(hlt:lo < hi)(hn:¬ RFree r lo hi):VC r (cutI r lo hi):=by
 intro e he q s hq hsn;have hC:=cutN_ok hs pr hlt hn;obtain ⟨q',r',h1,h2,h3,h4,hq',hr'⟩:=clamp (C:=cutI r lo hi) (lo:=lo) (hi:=hi) (Or.inl (by grind)) (cutI_hi hlt (by grind)) hq hsn;have hqr:=hC.nb hq' hr';have nq:¬ RFree r q' hi:=by
  rcases hq' with k | ⟨_,k⟩
  ·have e:q'=lo:=by grind
   rw [e];exact hn
  ·exact k
 obtain ⟨N,hN⟩:=sturm hs (a:=q') (b:=hi) (by grind);have cN:Ctd r q' hi N:=⟨rg,rl,hs,hN⟩;obtain ⟨K,M,k1,k2,ee⟩:=cN.split (m:=r') (by grind) h2;have hM0:M=0:=by
  by_cases hh:r' < hi
  ·have:RFree r r' hi:=Classical.byContradiction fun k=>hr' (Or.inr ⟨hh,k⟩)
   exact (k2.free pr (by grind)).2 this
  ·have e:r'=hi:=by grind
   rw [e] at k2;exact (k2.free pr (by grind)).2 (by
    obtain ⟨h0,_⟩:=aft_near hs pr hi;exact ⟨aft r rg hi,h0,fun t a b=>absurd b (by grind)⟩)
 have hK:K≠0:=fun hK=>nq ((cN.free pr (by grind)).1 (by omega))
 obtain ⟨x,x1,x2,x3⟩:=ex_near pr (by grind) k1 hK he;exact ⟨x,by grind,by grind,x3⟩
theorem aAFresh{K L M:Nat}{c:Nat→Int}{lo hi:Rat}(hz:z20 c)(hK:K≤10000000)(hL:L≤1000000)(hM:M≤1000000):ACall Tryz.prog 91 [.agg ([.row 2 (lg c) (zel K c)] ++tn L lo ++tn M hi)] (.d (.agg ([.row 2 (lg c) (zel K c)] ++tn L lo ++tn M hi))):=by
 exact aN 5 [.cell 2 40] Tryz.func91 rfl<|cR<|mO rfl<|mO rfl<|mT<|cR<|mW rfl<|mY (aANorm hz) rfl<|mZ rfl<|mT<|cRet<|rQ rfl (AV.le.rfl)
/-- den t - num: the polynomial of a rational. -/
def lnP(t:Rat):Nat→Int:=lin (-t.num) (t.den:Int)
theorem lnP_z2(t:Rat):∀ i,2≤i→lnP t i=0:=fun i hi=>by unfold lnP lin;rw [if_neg (by omega),if_neg (by omega)]
theorem lnP_z(t:Rat):z20 (lnP t):= .of (lnP_z2 t) (by decide)
theorem lnP_lg(t:Rat):lg (lnP t)=2:=by
 rw [← lg_dg (lnP_z2 t) (lnP_z t)];have h:lnP t 1≠0:=by show (t.den:Int)≠0;have:=t.den_pos;omega
 exact dg_stop (Or.inr h)
theorem lnP_F(t x:Rat):FF (lnP t) x=(t.den:Rat)*x-(t.num:Rat):=by
 rw [← FF_pz (lnP_z t) (lnP_z2 t)];show (0+((-t.num:Int):Rat)*x^0)+(((t.den:Nat):Int):Rat)*x^1=_
 rw [Rat.pow_zero,pow1,Rat.intCast_neg];have e:(((t.den:Nat):Int):Rat)=(t.den:Rat):=rfl;rw [e];grind
theorem lnP_root(t:Rat):FF (lnP t) t=0:=by
 rw [lnP_F];have:=q_mul_den t;grind
theorem den_nz(t:Rat):(t.den:Rat)≠0:=by exact_mod_cast t.den_nz
theorem lnP_F'(t x:Rat):FF (fder (lnP t)) x=(t.den:Rat):=by
 have hz:∀ i,1≤i→fder (lnP t) i=0:=fun i hi=>by unfold fder;rw [lnP_z2 t (i+1) (by omega)];simp
 rw [← FF_pz (z20_der (lnP_z t)) hz];show 0+((fder (lnP t) 0:Int):Rat)*x^0=_
 have e:fder (lnP t) 0=(t.den:Int):=by show lnP t 1*((0+1:Nat):Int)=_;have:lnP t 1=(t.den:Int):=rfl;rw [this];omega
 rw [e,Rat.pow_zero];have e2:(((t.den:Nat):Int):Rat)=(t.den:Rat):=rfl;rw [e2];grind
theorem lnP_sq(t:Rat):Sqf (FF (lnP t)) (FF (fder (lnP t))):=⟨FF_po (lnP_z t),FF_po (z20_der (lnP_z t)),FF_der (lnP_z t),fun _=>0,fun _=>1 / (t.den:Rat),po_const _,po_const _,fun x=>by rw [lnP_F'];have:=den_nz t;grind⟩
theorem vc_root{f:Fn}{t:Rat}(h:f t=0):VC f (cutP t):=fun e he q r hq hr=>⟨t,by unfold cutP at hq;grind,by unfold cutP at hr;grind,by rw [h];exact ab_zero (by grind)⟩
theorem okV_P{c:Nat→Int}(z:z20 c)(sq:Sqf (FF c) (FF (fder c)))(l2:2≤lg c){t:Rat}(h:FF c t=0):OkV c t t:=⟨okA_P z t,sq,l2,by rw [cutA_P (by grind)];exact vc_root h⟩
theorem okV_ln(t:Rat):OkV (lnP t) t t:=okV_P (lnP_z t) (lnP_sq t) (by rw [lnP_lg];exact Nat.le_refl 2) (lnP_root t)
theorem lnP_pm(t:Rat):gcdN (lnP t) 2=1:=by
 show Nat.gcd (Nat.gcd 0 (lnP t 0).natAbs) (lnP t 1).natAbs=1
 have e0:lnP t 0= -t.num:=rfl;have e1:lnP t 1=(t.den:Int):=rfl;rw [e0,e1,Nat.gcd_zero_left,Int.natAbs_neg,Int.natAbs_natCast];exact t.reduced
/-
 ALGEBRAIC NUMBERS, by the machine (8): Rational.
-/
abbrev AT:=(Nat→Int)×Rat×Rat
def ga(As:List AT)(i:Nat):AT:=As.getD i (fun _=>0,0,0)
def ac(As:List AT)(i:Nat):Nat→Int:=(ga As i).1
def al(As:List AT)(i:Nat):Rat:=(ga As i).2.1
def ah(As:List AT)(i:Nat):Rat:=(ga As i).2.2
def acu(As:List AT)(i:Nat):Cut:=cutA (ac As i) (al As i) (ah As i)
def elg(K L:Nat)(As:List AT):Nat→Nat→Lf:=fun i j=>((alc K (ac As i) L (al As i) L (ah As i))[j]?).getD (.v undef)
/-- The first of the least of i + 1. -/
noncomputable def lsI(As:List AT):Nat→Nat
 | 0=>0
 | i+1=>if cmpC (acu As (i+1)) (acu As (lsI As i)) < 0 then i+1 else lsI As i
theorem lsI_le(As:List AT):∀ i,lsI As i≤i
 | 0=>Nat.le_refl _
 | i+1=>by unfold lsI;split;exact Nat.le_refl _;exact Nat.le_succ_of_le (lsI_le As i)
theorem lsI_lt{As:List AT}{i:Nat}(h:cmpC (acu As (1+i)) (acu As (lsI As i)) < 0):1+i=lsI As (i+1):=by rw [Nat.add_comm 1 i] at *;exact (if_pos h).symm
theorem lsI_ge{As:List AT}{i:Nat}(h:¬ cmpC (acu As (1+i)) (acu As (lsI As i)) < 0):lsI As i=lsI As (i+1):=by rw [Nat.add_comm 1 i] at *;exact (if_neg h).symm
theorem slL{T:TypeId→Option TI}{s:AS}{t e:TypeId}{ti te:TI}{x:Operand}{k:IntKind}{z:Int}{sz n:Nat}{el:Nat→Nat→Lf}{lo:Operand}(h1:T t=some ti)(h2:ti.elem=some e)(h3:T e=some te)(h4:ints2 s lo=some (k,z))(h5:geto s x=some (.d (.one (.row sz n el))))(h6:Nat.beq sz te.n=true)(hz:0≤z)(hz2:z≤(n:Int)):evV T s (.slice t x (some lo) none none)=some (.d (.one (.row sz (n-z.toNat) fun i j=>el (z.toNat+i) j))):=by
 have h6':=Nat.eq_of_beq_eq_true h6;simp only [evV,h1,h2,h3,h5,bndV,h4,if_pos hz];rw [if_pos ⟨h6',by omega,Nat.le_refl _⟩];rfl
theorem al_eq{K L i j:Nat}{As:List AT}{t:TypeId}(h:i=j):AO.le (.box t (alc K (ac As i) L (al As i) L (ah As i))) (.box t (alc K (ac As j) L (al As j) L (ah As j))):=by subst h;exact fun _ _ _ _ h=>h
theorem elg_z{As:List AT}{n:Nat}(h:∀ i,i < n→OkV (ac As i) (al As i) (ah As i))(hn:As.length≤n)(i:Nat):z20 (ac As i):=by
 by_cases hi:i < n
 ·exact (h i hi).ok.z
 ·have e:ga As i=(fun _=>0,0,0):=by unfold ga;rw [List.getD_eq_getElem?_getD,List.getElem?_eq_none (by omega)];rfl
  unfold ac;rw [e];exact z20_nil
theorem aLeast{K L X KC N n:Nat}{As:List AT}(hn:n=As.length)(hn0:n≠0)(hn1:n≤1000)(hok:∀ i,i < n→OkV (ac As i) (al As i) (ah As i))(hcN:∀ i,i < n→lg (ac As i)≤N)(hN:N≤10)(hKC:(21*K+3+1)*(2*3^N)≤KC)(hC:KC≤90000000)(hX:11*L+320*K+300≤X)(hX1:X≤100000):ACall Tryz.prog 56 [.one (.row 9 n (elg K L As))] (.tup [.agg ([.row 2 (lg (ac As (lsI As (n-1)))) (zel K (ac As (lsI As (n-1))))] ++tn L (al As (lsI As (n-1))) ++tn L (ah As (lsI As (n-1)))),.one (.v (.bool true))]):=by
 have hz:=elg_z hok (by omega);refine aN 29 [.cell 2 40,.tmp 3] Tryz.func56 rfl<|cR<|mO rfl<|mW rfl<|mT<|cSeq<|cR<|mv2 rfl rfl<|mbF rfl (beq_eq_false_iff_ne.2 (by omega))<|mT<|cFs rfl<|cR<|mW rfl<|mV hTT (.d (.one (.at 9 ((elg K L As) 0)))) (ixR (el:=(elg K L As)) (z:=0) (n:=n) rfl rfl rfl rfl rfl rfl (by omega) (by omega)) ?_;refine mW rfl<|mO rfl<|mZ rfl<|mT<|cSeq<|cR<|mW rfl<|mV hTT (.d (.one (.row 9 (n-1) (fun i j=>elg K L As (1+i) j)))) (slL (z:=1) (n:=n) rfl rfl rfl rfl rfl rfl (by omega) (by omega))<|mv2 rfl rfl<|mT<|cBlock<|cLoop (ι:=Nat) (fun (i:Nat)=>⟨29,[(2,.ptr 2 0),(3,.d (.one (.v (.bool false)))),(4,.ptr 4 0),(15,.d (.one (.row 9 (n-1) (fun i j=>elg K L As (1+i) j)))),(16,.d (.one (.v (.int .i64 ((n-1:Nat):Int))))),(17,.d (.one (.v (.int .i64 ((i:Nat):Int)))))],[(2,.box 40 ([.v (.slice none 0 0),.v (.bool false),.v (.slice none 0 0),.v (.bool false),.v (.slice none 0 0),.v (.bool false),.v (.slice none 0 0),.v (.bool false),.v (.slice none 0 0)])),(4,.box 40 ([.row 2 (lg (ac As (lsI As i))) (zel K (ac As (lsI As i)))] ++tn L (al As (lsI As i)) ++tn L (ah As (lsI As i))))]⟩) (fun (i:Nat)=>i≤n-1) (fun (i:Nat)=>n-1-i) 0 (Nat.zero_le _) (wk rfl ⟨hs rfl,hs rfl,hs rfl,hs rfl,hs rfl,hs' rfl (le_int rfl),trivial⟩ ⟨ho rfl,ho rfl,trivial⟩ rfl) ?_;rintro i hI;have hi:i≤n-1:=hI;show AW _ _ _ ⟨_,_,_⟩
 refine cR<|mW rfl<|mT<|cSeq<|cCond rfl (fun hc1=>?_) (fun hc1=>?_)
 ·refine cSkip<|tN<|cSeq<|cBlock<|cSeq ?_;have hin:i < n-1:=by have h0:=of_decide_eq_true hc1;omega
  have hle:=lsI_le As i;refine cReg<|mV hTT (.d (.one (.at 9 ((fun i j=>elg K L As (1+i) j) i)))) (ixR (el:=(fun i j=>elg K L As (1+i) j)) (z:=((i:Nat):Int)) (n:=(n-1)) rfl rfl rfl rfl rfl rfl (by omega) (by omega)) ?_;refine mW rfl<|mO rfl<|mZ rfl<|mT<|cR<|mv2 rfl rfl<|mY (aACmp (X:=X) (KC:=KC) (N:=N) (hok (1+i) (by omega)) (hok (lsI As i) (by omega)) hN (hcN (1+i) (by omega)) (hcN (lsI As i) (by omega)) hKC hC hX hX1) rfl<|mW rfl<|mT<|cCond rfl (fun hc2=>?_) (fun hc2=>?_)
  ·exact cReg<|mW rfl<|mZ rfl<|mNil<|bN<|tN<|cReg<|mv2 rfl rfl<|mNil<|⟨(i+1),by omega,by omega,wk rfl ⟨hs rfl,hs rfl,hs rfl,hs rfl,hs rfl,hs' rfl (le_int (inc64 (by omega))),trivial⟩ ⟨ho rfl,ho' rfl (al_eq (lsI_lt (of_decide_eq_true hc2))),trivial⟩ rfl⟩
  ·exact cSkip<|bN<|tN<|cReg<|mv2 rfl rfl<|mNil<|⟨(i+1),by omega,by omega,wk rfl ⟨hs rfl,hs rfl,hs rfl,hs rfl,hs rfl,hs' rfl (le_int (inc64 (by omega))),trivial⟩ ⟨ho rfl,ho' rfl (al_eq (lsI_ge (of_decide_eq_false hc2))),trivial⟩ rfl⟩
 ·exact cExit<|tE<|tE<|bE<|tN<|cR<|mW rfl<|mY (aAFresh (hz (lsI As i)) (by omega) (by omega) (by omega)) rfl<|mZ rfl<|mW rfl<|mT<|cRet<|rQ rfl (by have h0:=of_decide_eq_false hc1;obtain rfl:i=n-1:=by {omega};exact AV.le.rfl)
def derE(c:Nat→Rat):Nat→Rat:=fun i=>c (i+1)*(((i+1:Nat):Int):Rat)
theorem rc_der1(a:Nat→Int)(j:Nat):derE (rc a) j=rc (fder a) j:=by
 show ((a (j+1):Int):Rat)*(((j+1:Nat):Int):Rat)=((fder a j:Int):Rat)
 rw [← Rat.intCast_mul];congr 1
def numF(c:Nat→Rat):Nat→Int:=fun i=>(c i).num
theorem aQNeg{a:Lf}{K M n:Nat}{c:Nat→Rat}(ha:IsQP a K n c)(hM:max (K+65) 64≤M:=by first|decide|omega)(hn:n≤1000000:=by first|decide|omega)(hMM:M≤10000000:=by first|decide|omega):ACall Tryz.prog 77 [.one a] (.d (.one (qrow M (dg (fsclQ c ((-1:Int):Rat)) n) (fsclQ c ((-1:Int):Rat))))):=by
 obtain ⟨ha,za⟩:=ha;exact ACall.le (dl (DV.l ha) dl0) AV.le.rfl<|aN 6 [.tmp 2] Tryz.func77 rfl<|cR<|mW rfl<|mT<|cR<|mW rfl<|mY aROfI rfl<|mY (aQScale (isqp (K:=K) (c:=c) za) (isq 64 (((-1):Int):Rat)) (M:=(max ((K+64)+1) 64))) rfl<|mW rfl<|mT<|cRet<|rQ rfl (le_qrow (by omega) rfl (fun _ _=>rfl))
theorem aQSub{a b:Lf}{K L M n m:Nat}{c d:Nat→Rat}(ha:IsQP a K n c)(hb:IsQP b L m d)(hM:max K 64+max (L+65) 64+1≤M:=by first|decide|omega)(hn:max n m≤1000000:=by first|decide|omega)(hMM:M≤10000000:=by first|decide|omega):ACall Tryz.prog 145 [.one a,.one b] (.d (.one (qrow M (dg (faddQ c (fsclQ d ((-1:Int):Rat))) (max n m)) (faddQ c (fsclQ d ((-1:Int):Rat)))))):=by
 obtain ⟨ha,za⟩:=ha;obtain ⟨hb,zb⟩:=hb;refine ACall.le (dl (DV.l ha) (dl (DV.l hb) dl0)) AV.le.rfl ?_;have hdl:=dg_le (fsclQ d ((-1:Int):Rat)) m;exact aN 9 [.tmp 4] Tryz.func145 rfl<|cR<|mW rfl<|mT<|cR<|mv2 rfl rfl<|mY (aQNeg (isqp (K:=L) (c:=d) zb) (M:=(max (L+65) 64))) rfl<|mY (aQAdd (isqp (K:=K) (c:=c) za) (isqp (K:=(max (L+65) 64)) (c:=(fsclQ d ((-1:Int):Rat))) (dg_z (fsclQ_z zb))) (M:=(max (((max K 64)+(max (max (L+65) 64) 64))+1) 64))) rfl<|mW rfl<|mT<|cRet<|rQ rfl (le_qrow (by omega) (dg_eq (faddQ_z za (dg_z (fsclQ_z zb))) (faddQ_z za (fsclQ_z zb))) (fun _ _=>rfl))
theorem aQDer{a:Lf}{K M n:Nat}{c:Nat→Rat}(ha:IsQP a K n c)(hM:max (K+65) 64≤M:=by first|decide|omega)(hn:n≤1000000:=by first|decide|omega)(hMM:M≤10000000:=by first|decide|omega):ACall Tryz.prog 76 [.one a] (.d (.one (qrow M (dg (derE c) (n-1)) (derE c)))):=by
 obtain ⟨ha,za⟩:=ha;refine ACall.le (dl (DV.l ha) dl0) AV.le.rfl<|aN 23 [.tmp 2] Tryz.func76 rfl<|cR<|mW rfl<|mT<|cR<|mW rfl<|mT<|cSeq<|cSeq<|AW.wk (wkNil 3 3 49 4 (fun _ _=> .v undef) rfl rfl)<|cReg<|mW rfl<|mT<|cBlock<|cLoop (ι:=Nat) (fun (i:Nat)=>⟨23,[(0,.d (.one (.row 4 n (qel K c)))),(4,.d (.one (.v (.int .i64 ((i+1:Nat):Int))))),(3,.own 3)],[(3,.row 49 4 i (qel M (derE c)))]⟩) (fun (i:Nat)=>i≤n-1) (fun (i:Nat)=>n-1-i) 0 (Nat.zero_le _) (wk rfl ⟨hs rfl,hs' rfl (le_int rfl),hs rfl,trivial⟩ ⟨ho' rfl (leo_row0),trivial⟩ rfl) ?_;rintro i hI;have hi:i≤n-1:=hI;show AW _ _ _ ⟨_,_,_⟩
 refine cSeq<|cR<|mv4 rfl rfl rfl rfl<|mT<|cCond rfl (fun hc1=>?_) (fun hc1=>?_)
 ·refine cSkip<|tN<|cSeq<|cBlock ?_;have hin:i+1 < n:=by have h0:=of_decide_eq_true hc1;omega
  refine cDk 9<|.cons (OpS.V _ rfl)<|.cons (OpS.V _ rfl)<|.cons (OpS.V _ rfl)<|.cons (OpS.V (.d (.one (.at 4 ((qel K c) (i+1))))) (ixR (el:=(qel K c)) (z:=((i+1:Nat):Int)) (n:=n) rfl rfl rfl rfl rfl rfl (by omega) (by omega))) ?_;exact oV rfl<|.cons (OpS.V _ rfl)<|oC aROfI rfl<|oC (aRMulR (isq K (c (i+1))) (isq 64 ((((i+1:Nat):Int):Int):Rat)) (M:=(max (K+64+1) 64))) rfl<|.cons (OpS.B _ rfl)<|.nil<|mA hTT (id:=3) (n:=i) (m:=1) (el:=(qel M (derE c))) (el2:=(fun i' j'=>((qn (max (K+64+1) 64) ((c (i+1))*((((i+1:Nat):Int):Int):Rat)))[i'*4+j']?).getD (.v undef))) rfl rfl rfl (by show (i+1)*64≤140737488355328;omega) (by omega) rfl rfl rfl rfl rfl rfl rfl rfl rfl rfl<|mW rfl<|mNil<|bN<|tN<|cReg<|mv3 rfl rfl rfl<|mNil<|⟨(i+1),by omega,by omega,wk rfl ⟨hs rfl,hs' rfl (le_int (inc64 (by omega))),hs rfl,trivial⟩ ⟨ho' rfl (app_q rfl (Nat.le_refl _) (by omega) rfl (fun _ _=>rfl)),trivial⟩ rfl⟩
 ·refine cExit<|tE<|tE<|bE<|tN<|cSeq ?_;have hie:n-1=i:=by have h0:=of_decide_eq_false hc1;omega
  subst hie;exact AW.wk (wkRow 3 rfl)<|cReg<|mW rfl<|mY aQCut rfl<|mW rfl<|mT<|cRet<|rQ rfl (AV.le.rfl)
theorem aQTo{a:Lf}{K n:Nat}{c:Nat→Rat}(ha:IsQP a K n c)(hn:n≤1000000:=by decide)(hK:K≤10000000:=by decide):ACall Tryz.prog 30 [.one a] (.d (.one (prow K n (numF c)))):=by
 obtain ⟨ha,za⟩:=ha;refine ACall.le (dl (DV.l ha) dl0) AV.le.rfl<|aN 21 [.tmp 2] Tryz.func30 rfl<|cR<|mW rfl<|mT<|cR<|mW rfl<|mT<|cSeq<|cSeq<|AW.wk (wkNil 3 3 36 2 (fun _ _=> .v undef) rfl rfl)<|cReg<|mv3 rfl rfl rfl<|mT<|cBlock<|cLoop (ι:=Nat) (fun (i:Nat)=>⟨21,[(0,.d (.one (.row 4 n (qel K c)))),(5,.d (.one (.row 4 n (qel K c)))),(6,.d (.one (.v (.int .i64 (n:Int))))),(7,.d (.one (.v (.int .i64 ((i:Nat):Int))))),(3,.own 3)],[(3,.row 36 2 i (zel K (numF c)))]⟩) (fun (i:Nat)=>i≤n) (fun (i:Nat)=>n-i) 0 (Nat.zero_le _) (wk rfl ⟨hs rfl,hs rfl,hs rfl,hs rfl,hs rfl,trivial⟩ ⟨ho' rfl (leo_row0),trivial⟩ rfl) ?_;rintro i hI;have hi:i≤n:=hI;show AW _ _ _ ⟨_,_,_⟩
 refine cR<|mW rfl<|mT<|cSeq<|cCond rfl (fun hc1=>?_) (fun hc1=>?_)
 ·refine cSkip<|tN<|cSeq<|cBlock<|cSeq ?_;have hin:i < n:=by have h0:=of_decide_eq_true hc1;omega
  refine cReg<|mv2 rfl rfl<|mT<|cReg<|mv3 rfl rfl rfl<|mV hTT (.d (.one (.at 4 ((qel K c) i)))) (ixR (el:=(qel K c)) (z:=((i:Nat):Int)) (n:=n) rfl rfl rfl rfl rfl rfl (by omega) (by omega)) ?_;exact mv2 rfl rfl<|mY (aRTo (isr K (Rat.num (c i)))) rfl<|mB hTT (.d (.one (.row 2 1 (fun i' j'=>((zn K (Rat.num (c i)))[i'*2+j']?).getD (.v undef))))) rfl<|mA hTT (id:=3) (n:=i) (m:=1) (el:=(zel K (numF c))) (el2:=(fun i' j'=>((zn K (Rat.num (c i)))[i'*2+j']?).getD (.v undef))) rfl rfl rfl (by show (i+1)*32≤140737488355328;omega) (by omega) rfl rfl rfl rfl rfl rfl rfl rfl rfl rfl<|mW rfl<|mNil<|bN<|tN<|cReg<|mv2 rfl rfl<|mNil<|⟨(i+1),by omega,by omega,wk rfl ⟨hs rfl,hs rfl,hs rfl,hs' rfl (le_int (inc64 (by omega))),hs rfl,trivial⟩ ⟨ho' rfl (app_z rfl (Nat.le_refl _) (Nat.le_refl _) rfl (fun _ _=>rfl)),trivial⟩ rfl⟩
 ·refine cExit<|tE<|tE<|bE<|tN<|cSeq ?_;have hie:n=i:=by have h0:=of_decide_eq_false hc1;omega
  subst hie;exact AW.wk (wkRow 3 rfl)<|cReg<|mv2 rfl rfl<|mT<|cRet<|rQ rfl (AV.le.rfl)
theorem leo_rnt{t:TypeId}{K L:Nat}{x z:Int}(e:x=z)(h:z.natAbs < B4^L):AO.le (.box t (rn K x)) (.box t (rn L z)):=by subst e;exact leo_box (rn_tight h)
theorem leo_nilrt{t:TypeId}{K:Nat}{z:Int}(h:z=0):AO.le (.box t [.v (.slice none 0 0),.v (.bool false)]) (.box t (rn K z)):=by subst h;exact leo_nilr
theorem prm_q{c:Nat→Int}{n:Nat}{y:Rat}(hz:∀ i,n≤i→c i=0)(htop:c (n-1)≠0)(hn:n≠0)(hy:y=(conS c n:Rat)):(∀ i,fsclQ (rc c) (((1:Int):Rat) / y) i=rc (prm c n) i)∧dg (fsclQ (rc c) (((1:Int):Rat) / y)) n=n:=by
 have hip:IP n c:=⟨hz,fun _=>htop⟩;have hc0:=rc_ne (hip.conS_ne hn);have e:∀ i,fsclQ (rc c) (((1:Int):Rat) / y) i=rc (prm c n) i:=fun i=>by
  have h:=prm_eq hz i;show (c i:Rat)*(((1:Int):Rat) / y)=(prm c n i:Rat)
  rw [hy,← h,Rat.intCast_mul];have:((1:Int):Rat)=1:=rfl;rw [this];grind
 refine ⟨e,dg_stop (Or.inr ?_)⟩;rw [e];exact rc_ne ((hip.pm hn).ip.l hn)
theorem aQPrim{K M n:Nat}{c:Nat→Int}(hz:∀ i,n≤i→c i=0)(htop:c (n-1)≠0)(hn0:n≠0)(hn:n≤1000)(hK:K≤1000000)(hM:2*K+300≤M):ACall Tryz.prog 72 [.one (qrow K n (rc c))] (.tup [.agg (qn M (conS c n:Rat)),.one (qrow M n (rc (prm c n)))]):=by
 have one_b4:Int.natAbs 1 < B4^64:=by decide
 refine aN 75 [.cell 2 49,.tmp 3] Tryz.func72 rfl<|cR<|mO rfl<|mW rfl<|mT<|cSeq<|cR<|mv2 rfl rfl<|mbF rfl (beq_eq_false_iff_ne.2 (by omega))<|mT<|cFs rfl<|cR<|mY aROf rfl<|mO rfl<|mZ rfl<|mT<|cSeq<|cR<|mv3 rfl rfl rfl<|mT<|cBlock<|cLoop (ι:=Nat) (fun (i:Nat)=>⟨75,[(0,.d (.one (.row 4 n (qel K (rc c))))),(2,.ptr 2 0),(3,.d (.one (.v (.slice none 0 0)))),(4,.ptr 4 0),(15,.d (.one (.v (.int .i64 (n:Int))))),(16,.d (.one (.v (.int .i64 ((i:Nat):Int)))))],[(2,.box 49 ([.v (.slice none 0 0),.v (.bool false),.v (.slice none 0 0),.v (.bool false)])),(4,.box 47 (rn 64 1))]⟩) (fun (i:Nat)=>i≤n) (fun (i:Nat)=>n-i) 0 (Nat.zero_le _) (wk rfl ⟨hs rfl,hs rfl,hs rfl,hs rfl,hs rfl,hs' rfl (le_int rfl),trivial⟩ ⟨ho rfl,ho rfl,trivial⟩ rfl) ?_;rintro i hI;have hi:i≤n:=hI;show AW _ _ _ ⟨_,_,_⟩
 refine cR<|mW rfl<|mT<|cSeq<|cCond rfl (fun hc1=>?_) (fun hc1=>?_)
 ·refine cSkip<|tN<|cSeq<|cBlock<|cSeq ?_;have hin:i < n:=by have h0:=of_decide_eq_true hc1;omega
  refine cReg<|mv2 rfl rfl<|mT<|cDk 15<|oV rfl<|.cons (OpS.V _ rfl)<|.cons (OpS.V _ rfl)<|.cons (OpS.V (.d (.one (.at 4 ((qel K (rc c)) i)))) (ixR (el:=(qel K (rc c))) (z:=((i:Nat):Int)) (n:=n) rfl rfl rfl rfl rfl rfl (by omega) (by omega))) ?_;refine .cons (OpS.V _ rfl)<|oV rfl<|oC (aRMul (isr 64 1) (isr K (Rat.den ((rc c) i):Int)) (M:=(64+K))) rfl<|oV rfl<|.cons (OpS.V _ rfl)<|.cons (OpS.V _ rfl)<|.cons (OpS.V (.d (.one (.at 4 ((qel K (rc c)) i)))) (ixR (el:=(qel K (rc c))) (z:=((i:Nat):Int)) (n:=n) rfl rfl rfl rfl rfl rfl (by omega) (by omega))) ?_;exact .cons (OpS.V _ rfl)<|oV rfl<|oC (aRGcd (isr 64 1) (isr K (Rat.den ((rc c) i):Int)) (M:=(max 64 K))) rfl<|oC (aRQuo (isr (64+K) (1*(Rat.den ((rc c) i):Int))) (isr (max 64 K) ((Nat.gcd (Int.natAbs 1) (Int.natAbs (Rat.den ((rc c) i):Int)):Nat):Int)) (by show ((Nat.gcd (Int.natAbs 1) (Int.natAbs 1):Nat):Int)≠0;decide) ⟨1,by show (1*(1:Int))=((Nat.gcd (Int.natAbs 1) (Int.natAbs 1):Nat):Int)*1;decide⟩ (M:=(64+K))) rfl<|.nil<|mZ rfl<|mNil<|bN<|tN<|cReg<|mv2 rfl rfl<|mNil<|⟨(i+1),by omega,by omega,wk rfl ⟨hs rfl,hs rfl,hs rfl,hs rfl,hs rfl,hs' rfl (le_int (inc64 (by omega))),trivial⟩ ⟨ho rfl,ho' rfl (leo_rnt (by show (1*(1:Int)) / ((Nat.gcd (Int.natAbs 1) (Int.natAbs 1):Nat):Int)=1;decide) one_b4),trivial⟩ rfl⟩
 ·refine cExit<|tE<|tE<|bE<|tN<|cR<|mO rfl<|mT<|cSeq<|cR<|mv3 rfl rfl rfl<|mT<|cBlock<|cLoop (ι:=Nat) (fun (i:Nat)=>⟨75,[(0,.d (.one (.row 4 n (qel K (rc c))))),(2,.ptr 2 0),(3,.d (.one (.v (.slice none 0 0)))),(4,.ptr 4 0),(6,.ptr 6 0),(36,.d (.one (.v (.int .i64 (n:Int))))),(37,.d (.one (.v (.int .i64 ((i:Nat):Int)))))],[(2,.box 49 ([.v (.slice none 0 0),.v (.bool false),.v (.slice none 0 0),.v (.bool false)])),(4,.box 47 (rn 64 1)),(6,.box 47 (rn (K+64) ((gcdN c i:Nat):Int)))]⟩) (fun (i:Nat)=>i≤n) (fun (i:Nat)=>n-i) 0 (Nat.zero_le _) (wk rfl ⟨hs rfl,hs rfl,hs rfl,hs rfl,hs rfl,hs rfl,hs' rfl (le_int rfl),trivial⟩ ⟨ho rfl,ho rfl,ho' rfl (leo_nilrt rfl),trivial⟩ rfl) ?_;rintro i hI;have hi:i≤n:=hI;show AW _ _ _ ⟨_,_,_⟩
  refine cR<|mW rfl<|mT<|cSeq<|cCond rfl (fun hc2=>?_) (fun hc2=>?_)
  ·refine cSkip<|tN<|cSeq<|cBlock<|cSeq ?_;have hin:i < n:=by have h0:=of_decide_eq_true hc2;omega
   refine cReg<|mv2 rfl rfl<|mT<|cDk 15<|oV rfl<|.cons (OpS.V _ rfl)<|.cons (OpS.V _ rfl)<|.cons (OpS.V (.d (.one (.at 4 ((qel K (rc c)) i)))) (ixR (el:=(qel K (rc c))) (z:=((i:Nat):Int)) (n:=n) rfl rfl rfl rfl rfl rfl (by omega) (by omega))) ?_;refine .cons (OpS.V _ rfl)<|oV rfl<|oV rfl<|oC (aRMul (isr K (Rat.num ((rc c) i))) (isr 64 1) (M:=(K+64))) rfl<|.cons (OpS.V _ rfl)<|.cons (OpS.V _ rfl)<|.cons (OpS.V (.d (.one (.at 4 ((qel K (rc c)) i)))) (ixR (el:=(qel K (rc c))) (z:=((i:Nat):Int)) (n:=n) rfl rfl rfl rfl rfl rfl (by omega) (by omega))) ?_;exact .cons (OpS.V _ rfl)<|oV rfl<|oC (aRQuo (isr (K+64) ((Rat.num ((rc c) i))*1)) (isr K (Rat.den ((rc c) i):Int)) (by show (1:Int)≠0;decide) ⟨_,(Int.one_mul _).symm⟩ (M:=(K+64))) rfl<|oC (aRGcd (isr (K+64) ((gcdN c i:Nat):Int)) (isr (K+64) (((Rat.num ((rc c) i))*1) / (Rat.den ((rc c) i):Int))) (M:=(max (K+64) (K+64)))) rfl<|.nil<|mZ rfl<|mNil<|bN<|tN<|cReg<|mv2 rfl rfl<|mNil<|⟨(i+1),by omega,by omega,wk rfl ⟨hs rfl,hs rfl,hs rfl,hs rfl,hs rfl,hs rfl,hs' rfl (le_int (inc64 (by omega))),trivial⟩ ⟨ho rfl,ho rfl,ho' rfl (leo_rn (by omega) (by show ((Nat.gcd (Int.natAbs ((gcdN c i:Nat):Int)) (Int.natAbs (c i*1 / 1)):Nat):Int)=((Nat.gcd (gcdN c i) (c i).natAbs:Nat):Int);rw [Int.natAbs_natCast,Int.mul_one,Int.ediv_one])),trivial⟩ rfl⟩
  ·refine cExit<|tE<|tE<|bE<|tN<|cSeq ?_;have hin2:i=n:=by have h0:=of_decide_eq_false hc2;omega
   subst hin2;refine cReg<|mv2 rfl rfl<|mY (aRMake (isr (K+64) ((gcdN c i:Nat):Int)) (isr 64 1) (M:=(max (K+64) (max 64 64)))) rfl<|mO rfl<|mZ rfl<|mT<|cSeq<|cR<|mv3 rfl rfl rfl<|mV hTT (.d (.one (.v (.int .i64 ((i-1:Nat):Int))))) (evi ((wr64 (by omega) (by omega)).trans (by omega)))<|mV hTT (.d (.one (.at 4 ((qel K (rc c)) (i-1))))) (ixR (el:=(qel K (rc c))) (z:=((i-1:Nat):Int)) (n:=i) rfl rfl rfl rfl rfl rfl (by omega) (by omega)) ?_;refine mv3 rfl rfl rfl<|mT<|cCond rfl (fun hc3=>?_) (fun hc3=>?_)
   ·refine cReg<|mW rfl<|mY (aRNegR (isq (max (K+64) (max 64 64)) (mkR ((gcdN c i:Nat):Int) 1))) rfl<|mZ rfl<|mT<|cSeq ?_;have hy:(-(mkR (((gcdN c i:Nat):Int)) 1))=(conS c i:Rat):=by {unfold conS;rw [mkR_int];have hcc:decide (c (i-1) < 0)=true:=hc3;rw [if_pos (of_decide_eq_true hcc)];try exact (Rat.intCast_neg _).symm}
    have hprm:=prm_q hz htop hn0 hy;have hyn:(-(mkR (((gcdN c i:Nat):Int)) 1))≠0:=by {rw [hy];exact rc_ne ((IP.conS_ne ⟨hz,fun _=>htop⟩) hn0)}
    exact cDk 6<|oV rfl<|.cons (OpS.V _ rfl)<|oC aROfI rfl<|oV rfl<|oC (aRQuoR (isq 64 ((1:Int):Rat)) (isq (max (K+64) (max 64 64)) (-(mkR ((gcdN c i:Nat):Int) 1))) hyn (M:=(max (64+(max (K+64) (max 64 64))+1) 64))) rfl<|oC (aQScale (isqp (K:=K) (c:=(rc c)) (rc_z hz)) (isq (max (64+(max (K+64) (max 64 64))+1) 64) (((1:Int):Rat) / (-(mkR ((gcdN c i:Nat):Int) 1)))) (M:=(max ((K+(max (64+(max (K+64) (max 64 64))+1) 64))+1) 64))) rfl<|.nil<|mZ rfl<|mW rfl<|mT<|cRet<|rQ rfl (le_tup (dl (dle (le_qn (by omega) hy)) (dl (dle (le_qrow (by omega) hprm.2 (fun j _=>hprm.1 j))) dl0)))
   ·refine cSkip<|tN<|cSeq ?_;have hy:(mkR (((gcdN c i:Nat):Int)) 1)=(conS c i:Rat):=by {unfold conS;rw [mkR_int];have hcc:decide (c (i-1) < 0)=false:=hc3;rw [if_neg (of_decide_eq_false hcc)];try rfl}
    have hprm:=prm_q hz htop hn0 hy;have hyn:(mkR (((gcdN c i:Nat):Int)) 1)≠0:=by {rw [hy];exact rc_ne ((IP.conS_ne ⟨hz,fun _=>htop⟩) hn0)}
    exact cDk 6<|oV rfl<|.cons (OpS.V _ rfl)<|oC aROfI rfl<|oV rfl<|oC (aRQuoR (isq 64 ((1:Int):Rat)) (isq (max (K+64) (max 64 64)) (mkR ((gcdN c i:Nat):Int) 1)) hyn (M:=(max (64+(max (K+64) (max 64 64))+1) 64))) rfl<|oC (aQScale (isqp (K:=K) (c:=(rc c)) (rc_z hz)) (isq (max (64+(max (K+64) (max 64 64))+1) 64) (((1:Int):Rat) / (mkR ((gcdN c i:Nat):Int) 1))) (M:=(max ((K+(max (64+(max (K+64) (max 64 64))+1) 64))+1) 64))) rfl<|.nil<|mZ rfl<|mW rfl<|mT<|cRet<|rQ rfl (le_tup (dl (dle (le_qn (by omega) hy)) (dl (dle (le_qrow (by omega) hprm.2 (fun j _=>hprm.1 j))) dl0)))
theorem aQPrim0{K n:Nat}{c:Nat→Rat}(hn:n=0):ACall Tryz.prog 72 [.one (qrow K n c)] (.tup [.agg (qn 64 0),.one (.v (.slice none 0 0))]):=by
 exact aN 75 [.cell 2 49,.tmp 3] Tryz.func72 rfl<|cR<|mO rfl<|mW rfl<|mT<|cSeq<|cR<|mv2 rfl rfl<|mbT rfl (by subst hn;rfl)<|mT<|cT rfl<|cR<|mY (aQZero) rfl<|mZ rfl<|mW rfl<|mT<|cRet<|tR<|rQ rfl (AV.le.rfl)
theorem Db.fdv{K:Nat}{a:Nat→Int}{g:Int}(h:Db K a):Db K (fdv a g):=fun i=>Nat.lt_of_le_of_lt (by unfold Go.Proofs.YtapmpcgekdplfaaGreat.fdv;exact Int.natAbs_ediv_le_natAbs _ _) (h i)
theorem aQPrimB{K:Nat}{c:Nat→Int}(zc:z20 c)(hK1:1≤K:=by omega)(hK:K≤1000000:=by omega):ACall Tryz.prog 72 [.one (qrow K (lg c) (rc c))] (.tup [.agg (qn (2*K+300) (conS c (lg c):Rat)),.one (qrow K (lg (prm20 c)) (rc (prm20 c)))]):=by
 have hlc:=lg_le c;refine ACall.fact10 (enters Tryz.func72 rfl rfl) (p:=Db K c) (fun B w vs h=>match vs,h with | [_],⟨h1,_⟩=>qrow_bd zc.lg h1) (fun hb=>?_)
 by_cases h0:lg c=0
 ·refine ACall.le (dl DV.same dl0) (le_tup (dl (dle (le_qn (by omega) ?_)) (dl (dle (nil_qrow' (by rw [prm20_lg zc];exact h0))) dl0))) (aQPrim0 (K:=K) (n:=lg c) (c:=rc c) h0)
  unfold conS;rw [h0];show (0:Rat)=_;split <;> rfl
 ·refine ACall.le (dl DV.same dl0) (le_tup (dl (dle AV.le.rfl) (dl (dle ?_) dl0))) (aQPrim (K:=K) (M:=2*K+300) zc.lg (lg_ne h0) h0 (by omega) hK (Nat.le_refl _))
  rw [prm20_lg zc];exact le_qrow_t hK1 hb.fdv
theorem aQPrimP{K:Nat}{c:Nat→Int}(zc:z20 c)(hK1:1≤K:=by omega)(hK:K≤1000000:=by omega):ACall Tryz.prog 36 [.one (qrow K (lg c) (rc c))] (.d (.one (qrow K (lg (prm20 c)) (rc (prm20 c))))):=by
 exact aN 11 [.tmp 2] Tryz.func36 rfl<|cR<|mW rfl<|mT<|cR<|mW rfl<|mY (aQPrimB zc) rfl<|mv3 rfl rfl rfl<|mO rfl<|mZ rfl<|mW rfl<|mT<|cR<|mv2 rfl rfl<|mT<|cRet<|rQ rfl (AV.le.rfl)
theorem b4_mul{K L:Nat}{x y:Int}(hx:x.natAbs < B4^K)(hy:y.natAbs < B4^L):(x*y).natAbs < B4^(K+L):=by
 rw [Int.natAbs_mul,Nat.pow_add];exact Nat.mul_lt_mul'' hx hy
/-- One step: |l| r - top t^k d. -/
def rsN(d r:Nat→Int):Nat→Int:=fsub (fscl r ((d (lg d-1)).natAbs:Int)) (conv (mnm (if d (lg d-1) < 0 then -(r (lg r-1)) else r (lg r-1)) (lg r-lg d)) d)
theorem rsN_at(d r:Nat→Int)(j:Nat):rsN d r j=r j*((d (lg d-1)).natAbs:Int)-(if lg r-lg d≤j then (if d (lg d-1) < 0 then -(r (lg r-1)) else r (lg r-1))*d (j-(lg r-lg d)) else 0):=by
 unfold rsN fsub fscl;rw [conv_mnm]
structure RsI(c d:Nat→Int)(K L s:Nat)(r:Nat→Int):Prop where
 z:z20 r
 b:Db (K+s*(L+1)) r
 eq:∃ (Q:Fn) (κ:Rat),Po Q∧0 < κ∧∀ x,FF c x=Q x*FF d x+κ*FF r x
 l:lg r+s≤lg c
 m:s≤lg c+1-lg d
theorem RsI.start{c d:Nat→Int}{K L:Nat}(z:z20 c)(h:Db K c):RsI c d K L 0 c:=⟨z,by rw [Nat.zero_mul];exact h,⟨fun _=>0,1,po_const 0,by grind,fun x=>by grind⟩,Nat.le_refl _,Nat.zero_le _⟩
theorem RsI.step{c d r:Nat→Int}{K L s:Nat}(h:RsI c d K L s r)(zd:z20 d)(bd:Db L d)(hd0:lg d≠0)(hle:lg d≤lg r)(hc:lg c≤19):RsI c d K L (s+1) (rsN d r)∧lg (rsN d r) < lg r:=by
 obtain ⟨l,hl⟩:∃ l,l=d (lg d-1):=⟨_,rfl⟩
 have hl0:l≠0:=by rw [hl];exact lg_ne hd0
 obtain ⟨tp,htp⟩:∃ tp,tp=if l < 0 then -(r (lg r-1)) else r (lg r-1):=⟨_,rfl⟩
 have at_:∀ j,rsN d r j=r j*(l.natAbs:Int)-(if lg r-lg d≤j then tp*d (j-(lg r-lg d)) else 0):=fun j=>by rw [rsN_at,htp,hl]
 have hz:∀ j,lg r-1≤j→rsN d r j=0:=fun j hj=>by
  rw [at_,if_pos (by omega)]
  by_cases hj2:j=lg r-1
  ·have e1:j-(lg r-lg d)=lg d-1:=by omega
   rw [e1,← hl,hj2,htp];split
   ·have:(l.natAbs:Int)= -l:=by omega
    rw [this,Int.neg_mul_comm];omega
   ·have:(l.natAbs:Int)=l:=by omega
    rw [this];omega
  ·rw [h.z.lg j (by omega),zd.lg _ (by omega)];simp
 have zr:z20 (rsN d r):=fun j hj=>hz j (by have:=lg_le r;omega)
 have hlt:lg (rsN d r)≤lg r-1:=lg_of_z zr hz;have hls:=h.l;refine ⟨⟨zr,fun j=>?_,?_,by omega,by omega⟩,by omega⟩
 ·have hb1:=b4_mul (h.b j) (y:=(l.natAbs:Int)) (L:=L) (by rw [hl,Int.natAbs_natCast];exact bd _)
  have htb:tp.natAbs < B4^(K+s*(L+1)):=by
   have:=h.b (lg r-1);rw [htp];split
   ·rw [Int.natAbs_neg];exact this
   ·exact this
  have hb2:=b4_mul htb (bd (j-(lg r-lg d)));have e:B4^(K+(s+1)*(L+1))=B4^(K+s*(L+1)+L)*B4:=by rw [← Nat.pow_succ];congr 1;rw [Nat.add_mul,Nat.one_mul];omega
  rw [e,at_];have hB:(2:Nat)≤B4:=by decide
  have h3:B4^(K+s*(L+1)+L)*2≤B4^(K+s*(L+1)+L)*B4:=Nat.mul_le_mul_left _ hB;split
  ·omega
  ·omega
 ·obtain ⟨Q,κ,pQ,hκ,he⟩:=h.eq
  have hln:(0:Rat) < ((l.natAbs:Nat):Rat):=by exact_mod_cast (by omega:0 < l.natAbs)
  have hF:∀ x,FF (rsN d r) x=FF r x*((l.natAbs:Nat):Rat)-((tp:Rat)*x^(lg r-lg d))*FF d x:=fun x=>by
   have:=step_F (r:=r) (d:=d) (nb:=lg d) (i:=lg r-lg d) (l:=(l.natAbs:Int)) (x:=tp) zd.lg zd (by omega) x;rw [htp,hl] at this;unfold rsN;rw [this,htp,hl];rfl
  refine ⟨fun x=>Q x+κ / ((l.natAbs:Nat):Rat)*((tp:Rat)*x^(lg r-lg d)),κ / ((l.natAbs:Nat):Rat),pQ.add ((po_const _).mul (po_mono _ _)),?_,fun x=>?_⟩
  ·apply Classical.byContradiction
   intro hn;have h4:=Rat.mul_le_mul_of_nonneg_right (show κ / ((l.natAbs:Nat):Rat)≤0 by grind) (show 0≤((l.natAbs:Nat):Rat) by grind);have h5:κ / ((l.natAbs:Nat):Rat)*((l.natAbs:Nat):Rat)=κ:=by grind
   grind
  ·rw [he x,hF x]
   have h5:κ / ((l.natAbs:Nat):Rat)*((l.natAbs:Nat):Rat)=κ:=by grind
   grind
structure RsP(c d:Nat→Int)(M:Nat)(r:Nat→Int):Prop where
 z:z20 r
 b:Db M r
 eq:∃ (Q:Fn) (κ:Rat),Po Q∧0 < κ∧∀ x,FF c x=Q x*FF d x+κ*FF r x
 lt:lg r < lg d
theorem RsI.fin{c d r:Nat→Int}{K L M s:Nat}(h:RsI c d K L s r)(hlt:lg r < lg d)(hM:K+(lg c+1-lg d)*(L+1)≤M):RsP c d M r:=⟨h.z,h.b.mono (by
 have:=Nat.mul_le_mul_right (L+1) h.m;omega),h.eq,hlt⟩
theorem RsI.bd{c d r:Nat→Int}{K L M s:Nat}(h:RsI c d K L s r)(hM:K+(lg c+1-lg d)*(L+1)≤M):Db M r:=h.b.mono (by
 have:=Nat.mul_le_mul_right (L+1) h.m;omega)
theorem leo_absr{t:TypeId}{L:Nat}{l z:Int}(h:z=l):AO.le (.box t [dn L (Int.natAbs z),.v (.bool false)]) (.box t (rn L ((l.natAbs:Nat):Int))):=by
 subst h;have e:rn L ((z.natAbs:Nat):Int)= [dn L (Int.natAbs z),.v (.bool false)]:=by
  show [dn L (Int.natAbs ((z.natAbs:Nat):Int)),.v (.bool (decide (((z.natAbs:Nat):Int) < 0)))]=_
  rw [Int.natAbs_natCast,decide_eq_false (by omega)]
 rw [e];exact fun _ _ _ _ h=>h
theorem rsN_z{d r:Nat→Int}(zr:z20 r)(zd:z20 d)(hle:lg d≤lg r):∀ j,lg r≤j→rsN d r j=0:=fun j hj=>by
 rw [rsN_at,zr.lg j hj];split
 ·rw [zd.lg (j-(lg r-lg d)) (by omega)];simp
 ·simp
theorem lg_dg2{c:Nat→Int}{n:Nat}(h:∀ i,n≤i→c i=0)(z:z20 c):dg (rc c) n=lg c:=(dg_cast n).trans (lg_dg h z)
theorem le_dg_t{K L n m:Nat}{c:Nat→Int}(hn:n=m)(hL:1≤L)(h:Db L c):AV.le (.d (.one (qrow K n (rc c)))) (.d (.one (qrow L m (rc c)))):=by subst hn;exact le_qrow_t hL h
theorem aQRest{K L M:Nat}{c d:Nat→Int}(zc:z20 c)(zd:z20 d)(hd0:lg d≠0)(hc:lg c≤19)(hK:K≤100000)(hL:L≤1000000)(hM0:1≤M)(hM:K+(lg c+1-lg d)*(L+1)≤M)(hM1:M≤1000000:=by omega):ACall Tryz.prog 78 [.one (qrow K (lg c) (rc c)),.one (qrow L (lg d) (rc d))] (.d (.one (exL (RsP c d M) (fun r=>qrow M (lg r) (rc r))))):=by
 have hlc:=lg_le c;have hld:=lg_le d;refine ACall.fact10 (enters Tryz.func78 rfl rfl) (p:=Db K c∧Db L d) (fun B w vs h=>match vs,h with | [_,_],⟨h1,h2,_⟩=>⟨qrow_bd zc.lg h1,qrow_bd zd.lg h2⟩) (fun hb=>?_);obtain ⟨hbc,hbd⟩:=hb;refine aN 78 [.tmp 4] Tryz.func78 rfl<|cR<|mW rfl<|mT<|cR<|mv3 rfl rfl rfl<|mV hTT (.d (.one (.v (.int .i64 ((lg d-1:Nat):Int))))) (evi ((wr64 (by omega) (by omega)).trans (by omega)))<|mV hTT (.d (.one (.at 4 ((qel L (rc d)) (lg d-1))))) (ixR (el:=(qel L (rc d))) (z:=((lg d-1:Nat):Int)) (n:=(lg d)) rfl rfl rfl rfl rfl rfl (by omega) (by omega)) ?_;refine mv2 rfl rfl<|mO rfl<|mZ rfl<|mT<|cR<|mW rfl<|mO rfl<|mZ rfl<|mT<|cR<|mW rfl<|mZ rfl<|mT<|cSeq<|cBlock<|wK [6,5,4,1,0] [6,5] rfl rfl<|wB [6,5,4,1,0] [6] 5 (.box 47 (rn L (d (lg d-1)))) rfl rfl (leo_rn (Nat.le_refl _) rfl) rfl<|wB [6,5,4,1,0] [5] 6 (.box 47 (rn L ((Int.natAbs (d (lg d-1)):Nat):Int))) rfl rfl (leo_absr rfl) rfl<|cLoop (ι:=Nat×(Nat→Int)) (fun (p:Nat×(Nat→Int))=>match p with | (s,r)=>⟨78,[(1,.d (.one (.row 4 (lg d) (qel L (rc d))))),(4,.d (.one (.v (.slice none 0 0)))),(5,.ptr 5 0),(6,.ptr 6 0),(0,.d (.one (.row 4 (lg r) (qel M (rc r)))))],[(5,.box 47 (rn L (d (lg d-1)))),(6,.box 47 (rn L ((Int.natAbs (d (lg d-1)):Nat):Int)))]⟩) (fun (p:Nat×(Nat→Int))=>match p with | (s,r)=>RsI c d K L s r) (fun (p:Nat×(Nat→Int))=>match p with | (s,r)=>lg r) (0,c) (.start zc hbc) (wk rfl ⟨hs rfl,hs rfl,hs rfl,hs rfl,hs' rfl (le_qrow (by omega) rfl (fun _ _=>rfl)),trivial⟩ ⟨ho rfl,ho rfl,trivial⟩ rfl) ?_;rintro ⟨s,r⟩ hI;have hI:RsI c d K L s r:=hI;show AW _ _ _ ⟨_,_,_⟩
 refine cSeq<|cR<|mv5 rfl rfl rfl rfl rfl<|mT<|cCond rfl (fun hc1=>?_) (fun hc1=>?_)
 ·refine cSkip<|tN<|cBlock<|cSeq ?_;have hle:lg d≤lg r:=by have h0:=of_decide_eq_true hc1;omega
  have hlr:=lg_le r;obtain ⟨hN,hlt⟩:=hI.step zd hbd hd0 hle hc;refine cReg<|mv4 rfl rfl rfl rfl<|mV hTT (.d (.one (.v (.int .i64 ((lg r-lg d:Nat):Int))))) (evi ((wr64 (by omega) (by omega)).trans (by omega)))<|mW rfl<|mT<|cR<|mv3 rfl rfl rfl<|mV hTT (.d (.one (.v (.int .i64 ((lg r-1:Nat):Int))))) (evi ((wr64 (by omega) (by omega)).trans (by omega)))<|mV hTT (.d (.one (.at 4 ((qel M (rc r)) (lg r-1))))) (ixR (el:=(qel M (rc r))) (z:=((lg r-1:Nat):Int)) (n:=(lg r)) rfl rfl rfl rfl rfl rfl (by omega) (by omega)) ?_;refine mv2 rfl rfl<|mO rfl<|mZ rfl<|mT<|cSeq<|cR<|mv2 rfl rfl<|mT<|cCond rfl (fun hc2=>?_) (fun hc2=>?_)
  ·refine cReg<|mW rfl<|mY (aRNeg (isr M (Rat.num ((rc r) (lg r-1)))) (M:=M)) rfl<|mZ rfl<|mT<|cSeq<|wK [8,7,0,6,5,4,1] [8,6,5] rfl rfl<|wB [8,7,0,6,5,4,1] [6,5] 8 (.box 47 (rn M (if d (lg d-1) < 0 then -(r (lg r-1)) else r (lg r-1)))) rfl rfl (leo_rn (by omega) (by rw [if_pos (of_decide_eq_true hc2)];rfl)) rfl<|cReg<|mW rfl<|mT<|cSeq<|cSeq ?_;have hO:=hI;refine AW.wk (wkNil 9 9 49 4 (fun _ _=> .v undef) rfl rfl)<|cReg<|mv3 rfl rfl rfl<|mT<|cBlock<|cLoop (ι:=Nat) (fun (i:Nat)=>⟨78,[(0,.d (.one (.row 4 (lg r) (qel M (rc r))))),(1,.d (.one (.row 4 (lg d) (qel L (rc d))))),(4,.d (.one (.v (.slice none 0 0)))),(5,.ptr 5 0),(6,.ptr 6 0),(7,.d (.one (.v (.int .i64 ((lg r-lg d:Nat):Int))))),(8,.ptr 8 0),(43,.d (.one (.v (.int .i64 ((lg r:Nat):Int))))),(9,.own 9),(44,.d (.one (.v (.int .i64 ((i:Nat):Int)))))],[(5,.box 47 (rn L (d (lg d-1)))),(6,.box 47 (rn L ((Int.natAbs (d (lg d-1)):Nat):Int))),(8,.box 47 (rn M (if d (lg d-1) < 0 then -(r (lg r-1)) else r (lg r-1)))),(9,.row 49 4 i (qel (M+L+70) (rc (rsN d r))))]⟩) (fun (i:Nat)=>i≤lg r) (fun (i:Nat)=>lg r-i) 0 (Nat.zero_le _) (wk rfl ⟨hs rfl,hs rfl,hs rfl,hs rfl,hs rfl,hs rfl,hs rfl,hs rfl,hs rfl,hs' rfl (le_int rfl),trivial⟩ ⟨ho rfl,ho rfl,ho rfl,ho' rfl (leo_row0),trivial⟩ rfl) ?_;rintro i hI;have hi:i≤lg r:=hI;show AW _ _ _ ⟨_,_,_⟩
   refine cR<|mW rfl<|mT<|cSeq<|cCond rfl (fun hc3=>?_) (fun hc3=>?_)
   ·refine cSkip<|tN<|cSeq<|cBlock<|cSeq ?_;have hin:i < lg r:=by have h0:=of_decide_eq_true hc3;omega
    refine cReg<|mv2 rfl rfl<|mT<|cSeq<|cDk 8<|.cons (OpS.V _ rfl)<|.cons (OpS.V _ rfl)<|.cons (OpS.V (.d (.one (.at 4 ((qel M (rc r)) i)))) (ixR (el:=(qel M (rc r))) (z:=((i:Nat):Int)) (n:=(lg r)) rfl rfl rfl rfl rfl rfl (by omega) (by omega))) ?_;refine .cons (OpS.V _ rfl)<|oV rfl<|oV rfl<|oC (aRMul (isr M (Rat.num ((rc r) i))) (isr L ((Int.natAbs (d (lg d-1)):Nat):Int)) (M:=(M+L))) rfl<|.cons (OpS.N (.box 47 ([.v (.slice none 0 0),.v (.bool false)])) rfl 11 rfl rfl)<|.nil<|mZ rfl<|mT<|cSeq<|cR<|mv3 rfl rfl rfl<|mT<|cCond rfl (fun hc4=>?_) (fun hc4=>?_)
    ·have hki:lg r-lg d≤i:=by have h0:=of_decide_eq_true hc4;omega
     refine cDk 11<|oV rfl<|oV rfl<|.cons (OpS.V _ rfl)<|.cons (OpS.V _ rfl)<|.cons (OpS.V _ rfl)<|.cons (OpS.V (.d (.one (.v (.int .i64 ((i-(lg r-lg d):Nat):Int))))) (evi ((wr64 (by omega) (by omega)).trans (by omega))))<|.cons (OpS.V (.d (.one (.at 4 ((qel L (rc d)) (i-(lg r-lg d)))))) (ixR (el:=(qel L (rc d))) (z:=((i-(lg r-lg d):Nat):Int)) (n:=(lg d)) rfl rfl rfl rfl rfl rfl (by omega) (by omega))) ?_;exact .cons (OpS.V _ rfl)<|oV rfl<|oC (aRMul (isr M (if d (lg d-1) < 0 then -(r (lg r-1)) else r (lg r-1))) (isr L (Rat.num ((rc d) (i-(lg r-lg d))))) (M:=(M+L))) rfl<|oC (aRSub (isr (M+L) ((Rat.num ((rc r) i))*((Int.natAbs (d (lg d-1)):Nat):Int))) (isr (M+L) ((if d (lg d-1) < 0 then -(r (lg r-1)) else r (lg r-1))*(Rat.num ((rc d) (i-(lg r-lg d)))))) (M:=(max (M+L) (M+L)+1))) rfl<|.nil<|mZ rfl<|mT<|cDk 5<|.cons (OpS.V _ rfl)<|oV rfl<|oC aROf rfl<|oC (aRMake (isr (max (M+L) (M+L)+1) (((Rat.num ((rc r) i))*((Int.natAbs (d (lg d-1)):Nat):Int))-((if d (lg d-1) < 0 then -(r (lg r-1)) else r (lg r-1))*(Rat.num ((rc d) (i-(lg r-lg d))))))) (isr 64 1) (M:=(max (max (M+L) (M+L)+1) (max 64 64)))) rfl<|.cons (OpS.B _ rfl)<|.nil<|mA hTT (id:=9) (n:=i) (m:=1) (el:=(qel (M+L+70) (rc (rsN d r)))) (el2:=(fun i' j'=>((qn (max (max (M+L) (M+L)+1) (max 64 64)) (mkR (((Rat.num ((rc r) i))*((Int.natAbs (d (lg d-1)):Nat):Int))-((if d (lg d-1) < 0 then -(r (lg r-1)) else r (lg r-1))*(Rat.num ((rc d) (i-(lg r-lg d)))))) 1))[i'*4+j']?).getD (.v undef))) rfl rfl rfl (by show (i+1)*64≤140737488355328;omega) (by omega) rfl rfl rfl rfl rfl rfl rfl rfl rfl rfl<|mW rfl<|mNil<|bN<|tN<|cReg<|mv2 rfl rfl<|mNil<|⟨(i+1),by omega,by omega,wk rfl ⟨hs rfl,hs rfl,hs rfl,hs rfl,hs rfl,hs rfl,hs rfl,hs rfl,hs rfl,hs' rfl (le_int (inc64 (by omega))),trivial⟩ ⟨ho rfl,ho rfl,ho rfl,ho' rfl (app_q (q:=(mkR (((Rat.num ((rc r) i))*((Int.natAbs (d (lg d-1)):Nat):Int))-((if d (lg d-1) < 0 then -(r (lg r-1)) else r (lg r-1))*(Rat.num ((rc d) (i-(lg r-lg d)))))) 1)) (M:=(max (max (M+L) (M+L)+1) (max 64 64))) rfl (Nat.le_refl _) (by omega) (by rw [mkR_int];show _=((rsN d r i:Int):Rat);rw [rsN_at,if_pos (hki)];rfl) (fun _ _=>rfl)),trivial⟩ rfl⟩
    ·refine cSkip<|tN ?_;have hki:¬ lg r-lg d≤i:=by have h0:=of_decide_eq_false hc4;omega
     exact cDk 5<|.cons (OpS.V _ rfl)<|oV rfl<|oC aROf rfl<|oC (aRMake (isr (M+L) ((Rat.num ((rc r) i))*((Int.natAbs (d (lg d-1)):Nat):Int))) (isr 64 1) (M:=(max (M+L) (max 64 64)))) rfl<|.cons (OpS.B _ rfl)<|.nil<|mA hTT (id:=9) (n:=i) (m:=1) (el:=(qel (M+L+70) (rc (rsN d r)))) (el2:=(fun i' j'=>((qn (max (M+L) (max 64 64)) (mkR ((Rat.num ((rc r) i))*((Int.natAbs (d (lg d-1)):Nat):Int)) 1))[i'*4+j']?).getD (.v undef))) rfl rfl rfl (by show (i+1)*64≤140737488355328;omega) (by omega) rfl rfl rfl rfl rfl rfl rfl rfl rfl rfl<|mW rfl<|mNil<|bN<|tN<|cReg<|mv2 rfl rfl<|mNil<|⟨(i+1),by omega,by omega,wk rfl ⟨hs rfl,hs rfl,hs rfl,hs rfl,hs rfl,hs rfl,hs rfl,hs rfl,hs rfl,hs' rfl (le_int (inc64 (by omega))),trivial⟩ ⟨ho rfl,ho rfl,ho rfl,ho' rfl (app_q (q:=(mkR ((Rat.num ((rc r) i))*((Int.natAbs (d (lg d-1)):Nat):Int)) 1)) (M:=(max (M+L) (max 64 64))) rfl (Nat.le_refl _) (by omega) (by rw [mkR_int];show _=((rsN d r i:Int):Rat);rw [rsN_at,if_neg (hki)];rw [Int.sub_zero];rfl) (fun _ _=>rfl)),trivial⟩ rfl⟩
   ·refine cExit<|tE<|tE<|bE<|tN ?_;have hie:i=lg r:=by have h0:=of_decide_eq_false hc3;omega
    subst hie;exact AW.wk (wkRow 9 rfl)<|cReg<|mW rfl<|mY aQCut rfl<|mW rfl<|mNil<|bN<|⟨((s+1),(rsN d r)),hN,by show lg (rsN d r) < lg r;exact hlt,wk rfl ⟨hs rfl,hs rfl,hs rfl,hs rfl,hs' rfl (le_dg_t (lg_dg2 (rsN_z hO.z zd hle) hN.z) (by omega) (hN.bd hM)),trivial⟩ ⟨ho rfl,ho rfl,trivial⟩ rfl⟩
  ·refine cSkip<|tN<|cSeq<|wK [8,7,0,6,5,4,1] [8,6,5] rfl rfl<|wB [8,7,0,6,5,4,1] [6,5] 8 (.box 47 (rn M (if d (lg d-1) < 0 then -(r (lg r-1)) else r (lg r-1)))) rfl rfl (leo_rn (by omega) (by rw [if_neg (of_decide_eq_false hc2)];rfl)) rfl<|cReg<|mW rfl<|mT<|cSeq<|cSeq ?_;have hO:=hI;refine AW.wk (wkNil 9 9 49 4 (fun _ _=> .v undef) rfl rfl)<|cReg<|mv3 rfl rfl rfl<|mT<|cBlock<|cLoop (ι:=Nat) (fun (i:Nat)=>⟨78,[(0,.d (.one (.row 4 (lg r) (qel M (rc r))))),(1,.d (.one (.row 4 (lg d) (qel L (rc d))))),(4,.d (.one (.v (.slice none 0 0)))),(5,.ptr 5 0),(6,.ptr 6 0),(7,.d (.one (.v (.int .i64 ((lg r-lg d:Nat):Int))))),(8,.ptr 8 0),(43,.d (.one (.v (.int .i64 ((lg r:Nat):Int))))),(9,.own 9),(44,.d (.one (.v (.int .i64 ((i:Nat):Int)))))],[(5,.box 47 (rn L (d (lg d-1)))),(6,.box 47 (rn L ((Int.natAbs (d (lg d-1)):Nat):Int))),(8,.box 47 (rn M (if d (lg d-1) < 0 then -(r (lg r-1)) else r (lg r-1)))),(9,.row 49 4 i (qel (M+L+70) (rc (rsN d r))))]⟩) (fun (i:Nat)=>i≤lg r) (fun (i:Nat)=>lg r-i) 0 (Nat.zero_le _) (wk rfl ⟨hs rfl,hs rfl,hs rfl,hs rfl,hs rfl,hs rfl,hs rfl,hs rfl,hs rfl,hs' rfl (le_int rfl),trivial⟩ ⟨ho rfl,ho rfl,ho rfl,ho' rfl (leo_row0),trivial⟩ rfl) ?_;rintro i hI;have hi:i≤lg r:=hI;show AW _ _ _ ⟨_,_,_⟩
   refine cR<|mW rfl<|mT<|cSeq<|cCond rfl (fun hc5=>?_) (fun hc5=>?_)
   ·refine cSkip<|tN<|cSeq<|cBlock<|cSeq ?_;have hin:i < lg r:=by have h0:=of_decide_eq_true hc5;omega
    refine cReg<|mv2 rfl rfl<|mT<|cSeq<|cDk 8<|.cons (OpS.V _ rfl)<|.cons (OpS.V _ rfl)<|.cons (OpS.V (.d (.one (.at 4 ((qel M (rc r)) i)))) (ixR (el:=(qel M (rc r))) (z:=((i:Nat):Int)) (n:=(lg r)) rfl rfl rfl rfl rfl rfl (by omega) (by omega))) ?_;refine .cons (OpS.V _ rfl)<|oV rfl<|oV rfl<|oC (aRMul (isr M (Rat.num ((rc r) i))) (isr L ((Int.natAbs (d (lg d-1)):Nat):Int)) (M:=(M+L))) rfl<|.cons (OpS.N (.box 47 ([.v (.slice none 0 0),.v (.bool false)])) rfl 11 rfl rfl)<|.nil<|mZ rfl<|mT<|cSeq<|cR<|mv3 rfl rfl rfl<|mT<|cCond rfl (fun hc6=>?_) (fun hc6=>?_)
    ·have hki:lg r-lg d≤i:=by have h0:=of_decide_eq_true hc6;omega
     refine cDk 11<|oV rfl<|oV rfl<|.cons (OpS.V _ rfl)<|.cons (OpS.V _ rfl)<|.cons (OpS.V _ rfl)<|.cons (OpS.V (.d (.one (.v (.int .i64 ((i-(lg r-lg d):Nat):Int))))) (evi ((wr64 (by omega) (by omega)).trans (by omega))))<|.cons (OpS.V (.d (.one (.at 4 ((qel L (rc d)) (i-(lg r-lg d)))))) (ixR (el:=(qel L (rc d))) (z:=((i-(lg r-lg d):Nat):Int)) (n:=(lg d)) rfl rfl rfl rfl rfl rfl (by omega) (by omega))) ?_;exact .cons (OpS.V _ rfl)<|oV rfl<|oC (aRMul (isr M (if d (lg d-1) < 0 then -(r (lg r-1)) else r (lg r-1))) (isr L (Rat.num ((rc d) (i-(lg r-lg d))))) (M:=(M+L))) rfl<|oC (aRSub (isr (M+L) ((Rat.num ((rc r) i))*((Int.natAbs (d (lg d-1)):Nat):Int))) (isr (M+L) ((if d (lg d-1) < 0 then -(r (lg r-1)) else r (lg r-1))*(Rat.num ((rc d) (i-(lg r-lg d)))))) (M:=(max (M+L) (M+L)+1))) rfl<|.nil<|mZ rfl<|mT<|cDk 5<|.cons (OpS.V _ rfl)<|oV rfl<|oC aROf rfl<|oC (aRMake (isr (max (M+L) (M+L)+1) (((Rat.num ((rc r) i))*((Int.natAbs (d (lg d-1)):Nat):Int))-((if d (lg d-1) < 0 then -(r (lg r-1)) else r (lg r-1))*(Rat.num ((rc d) (i-(lg r-lg d))))))) (isr 64 1) (M:=(max (max (M+L) (M+L)+1) (max 64 64)))) rfl<|.cons (OpS.B _ rfl)<|.nil<|mA hTT (id:=9) (n:=i) (m:=1) (el:=(qel (M+L+70) (rc (rsN d r)))) (el2:=(fun i' j'=>((qn (max (max (M+L) (M+L)+1) (max 64 64)) (mkR (((Rat.num ((rc r) i))*((Int.natAbs (d (lg d-1)):Nat):Int))-((if d (lg d-1) < 0 then -(r (lg r-1)) else r (lg r-1))*(Rat.num ((rc d) (i-(lg r-lg d)))))) 1))[i'*4+j']?).getD (.v undef))) rfl rfl rfl (by show (i+1)*64≤140737488355328;omega) (by omega) rfl rfl rfl rfl rfl rfl rfl rfl rfl rfl<|mW rfl<|mNil<|bN<|tN<|cReg<|mv2 rfl rfl<|mNil<|⟨(i+1),by omega,by omega,wk rfl ⟨hs rfl,hs rfl,hs rfl,hs rfl,hs rfl,hs rfl,hs rfl,hs rfl,hs rfl,hs' rfl (le_int (inc64 (by omega))),trivial⟩ ⟨ho rfl,ho rfl,ho rfl,ho' rfl (app_q (q:=(mkR (((Rat.num ((rc r) i))*((Int.natAbs (d (lg d-1)):Nat):Int))-((if d (lg d-1) < 0 then -(r (lg r-1)) else r (lg r-1))*(Rat.num ((rc d) (i-(lg r-lg d)))))) 1)) (M:=(max (max (M+L) (M+L)+1) (max 64 64))) rfl (Nat.le_refl _) (by omega) (by rw [mkR_int];show _=((rsN d r i:Int):Rat);rw [rsN_at,if_pos (hki)];rfl) (fun _ _=>rfl)),trivial⟩ rfl⟩
    ·refine cSkip<|tN ?_;have hki:¬ lg r-lg d≤i:=by have h0:=of_decide_eq_false hc6;omega
     exact cDk 5<|.cons (OpS.V _ rfl)<|oV rfl<|oC aROf rfl<|oC (aRMake (isr (M+L) ((Rat.num ((rc r) i))*((Int.natAbs (d (lg d-1)):Nat):Int))) (isr 64 1) (M:=(max (M+L) (max 64 64)))) rfl<|.cons (OpS.B _ rfl)<|.nil<|mA hTT (id:=9) (n:=i) (m:=1) (el:=(qel (M+L+70) (rc (rsN d r)))) (el2:=(fun i' j'=>((qn (max (M+L) (max 64 64)) (mkR ((Rat.num ((rc r) i))*((Int.natAbs (d (lg d-1)):Nat):Int)) 1))[i'*4+j']?).getD (.v undef))) rfl rfl rfl (by show (i+1)*64≤140737488355328;omega) (by omega) rfl rfl rfl rfl rfl rfl rfl rfl rfl rfl<|mW rfl<|mNil<|bN<|tN<|cReg<|mv2 rfl rfl<|mNil<|⟨(i+1),by omega,by omega,wk rfl ⟨hs rfl,hs rfl,hs rfl,hs rfl,hs rfl,hs rfl,hs rfl,hs rfl,hs rfl,hs' rfl (le_int (inc64 (by omega))),trivial⟩ ⟨ho rfl,ho rfl,ho rfl,ho' rfl (app_q (q:=(mkR ((Rat.num ((rc r) i))*((Int.natAbs (d (lg d-1)):Nat):Int)) 1)) (M:=(max (M+L) (max 64 64))) rfl (Nat.le_refl _) (by omega) (by rw [mkR_int];show _=((rsN d r i:Int):Rat);rw [rsN_at,if_neg (hki)];rw [Int.sub_zero];rfl) (fun _ _=>rfl)),trivial⟩ rfl⟩
   ·refine cExit<|tE<|tE<|bE<|tN ?_;have hie:i=lg r:=by have h0:=of_decide_eq_false hc5;omega
    subst hie;exact AW.wk (wkRow 9 rfl)<|cReg<|mW rfl<|mY aQCut rfl<|mW rfl<|mNil<|bN<|⟨((s+1),(rsN d r)),hN,by show lg (rsN d r) < lg r;exact hlt,wk rfl ⟨hs rfl,hs rfl,hs rfl,hs rfl,hs' rfl (le_dg_t (lg_dg2 (rsN_z hO.z zd hle) hN.z) (by omega) (hN.bd hM)),trivial⟩ ⟨ho rfl,ho rfl,trivial⟩ rfl⟩
 ·exact cExit<|tE<|tE<|bE<|tN<|cR<|mv2 rfl rfl<|mT<|cRet<|rQ rfl (exL_intro (Q:=RsP c d M) (L:=fun r=>qrow M (lg r) (rc r)) r (hI.fin (by have h0:=of_decide_eq_false hc1;omega) hM))
structure RpP(c d:Nat→Int)(M:Nat)(R:Nat→Int):Prop where
 z:z20 R
 b:Db M R
 lt:lg R < lg d
 idp:Idp (FF c) (FF d) (FF d) (FF R)
 pm:lg R≠0→Pm (lg R) R
theorem RsP.prm{c d r:Nat→Int}{M:Nat}(h:RsP c d M r)(zd:z20 d):RpP c d M (prm20 r):=by
 obtain ⟨Q,κ,pQ,hκ,e⟩:=h.eq;obtain ⟨s,s',h1,h2⟩:=FF_prm h.z;exact ⟨prm20_z h.z,h.b.fdv,by rw [prm20_lg h.z];exact h.lt,(Idp.step (k:=κ) pQ (by grind) e).trans (Idp.scale (s:=1) (s':=1) (fun x=>by grind) h1 (fun x=>by grind) h2),fun h0=>prm20_pm h.z (by rw [← prm20_lg h.z];exact h0)⟩
theorem prm_self{a:Nat→Int}(za:z20 a)(h:lg a≠0→Pm (lg a) a):prm20 a=a:=by
 by_cases h0:lg a=0
 ·have h1:=(lg_zero za).1 h0
  funext i;unfold prm20 prm fdv;rw [h1 i];simp
 ·have p:=h h0
  have e:conS a (lg a)=1:=by unfold conS;rw [p.one,if_neg (by have:=p.lead;omega)];rfl
  funext i;unfold prm20 prm fdv;rw [e];simp
theorem ACall.exl{α:Type}{P:Program}{f:FuncId}{Q:α→Prop}{L:α→Lf}{res:AV}(hen:∀ vs w,(callFunc f vs).run P w= .ok (.enter f vs) w)(h:∀ x,Q x→ACall P f [.one (L x)] res):ACall P f [.one (exL Q L)] res:=
 ⟨hen,fun B w vs hB hd=>match vs,hd with | [v],⟨⟨x,hq,hl⟩,_⟩=>(h x hq).go B w [v] hB ⟨hl,trivial⟩⟩
theorem aQPrimE{c d:Nat→Int}{M:Nat}(zd:z20 d)(h1:1≤M)(hM:M≤1000000):ACall Tryz.prog 36 [.one (exL (RsP c d M) (fun r=>qrow M (lg r) (rc r)))] (.d (.one (exL (RpP c d M) (fun r=>qrow M (lg r) (rc r))))):=
 ACall.exl (enters Tryz.func36 rfl rfl) fun r hr=>ACall.le (dl DV.same dl0) (exL_intro (Q:=RpP c d M) (L:=fun r=>qrow M (lg r) (rc r)) (prm20 r) (hr.prm zd)) (aQPrimP hr.z h1 hM)
theorem GcdP.dbq{c d:Nat→Int}{K:Nat}{g:Nat→Int}(h:GcdP c d (21*K+3) g):Db (63*K+9) g:=(Lb.db h.b).mono (by omega)
theorem aQGcd{K KC N:Nat}{c d:Nat→Int}(zc:z20 c)(zd:z20 d)(hN:N≤10)(hc10:lg c≤N)(hd10:lg d≤N)(hK1:1≤K)(hKC:(K+1)*(2*3^N)≤KC)(hC:KC≤90000):ACall Tryz.prog 80 [.one (qrow K (lg c) (rc c)),.one (qrow K (lg d) (rc d))] (.d (.one (exL (GcdP c d (21*K+3)) (fun g=>qrow (63*K+9) (lg g) (rc g))))):=by
 have hlc:=lg_le c;have hld:=lg_le d;have hKKC:K+1≤KC:=Nat.le_trans (Nat.le_mul_of_pos_right _ (Nat.mul_pos (by decide) (Nat.pow_pos (by decide)))) hKC;refine ACall.fact10 (enters Tryz.func80 rfl rfl) (p:=Db K c∧Db K d) (fun B w vs h=>match vs,h with | [_,_],⟨h1,h2,_⟩=>⟨qrow_bd zc.lg h1,qrow_bd zd.lg h2⟩) (fun hb=>?_);obtain ⟨hbc,hbd⟩:=hb;have lbc:Lb K c:=(hbc.mono (by omega)).lb;have lbd:Lb K d:=(hbd.mono (by omega)).lb;refine aN 18 [.tmp 4] Tryz.func80 rfl<|cR<|mW rfl<|mT<|cR<|mW rfl<|mY (aQPrimP zc) rfl<|mW rfl<|mY (aQPrimP zd) rfl<|mv2 rfl rfl<|mT<|cSeq<|cBlock<|cLoop (ι:=Nat×(Nat→Int)×(Nat→Int)) (fun (p:Nat×(Nat→Int)×(Nat→Int))=>match p with | (X,a,b)=>⟨18,[(0,.d (.one (.row 4 (lg a) (qel X (rc a))))),(1,.d (.one (.row 4 (lg b) (qel X (rc b))))),(4,.d (.one (.v (.slice none 0 0))))],[]⟩) (fun (p:Nat×(Nat→Int)×(Nat→Int))=>match p with | (X,a,b)=>z20 a∧z20 b∧Idp (FF c) (FF d) (FF a) (FF b)∧Db X a∧Db X b∧lg a≤N∧lg b≤N∧1≤X∧Grw K N X (lg a) (lg b)∧(lg a≠0→Pm (lg a) a)∧(lg b≠0→Pm (lg b) b)) (fun (p:Nat×(Nat→Int)×(Nat→Int))=>match p with | (X,a,b)=>lg b) (K,(prm20 c),(prm20 d)) (⟨prm20_z zc,prm20_z zd,prm_idp zc zd,hbc.fdv,hbd.fdv,by rw [prm20_lg zc];exact hc10,by rw [prm20_lg zd];exact hd10,hK1,.start (by rw [prm20_lg zc];exact hc10),fun h0=>prm20_pm zc (by rw [← prm20_lg zc];exact h0),fun h0=>prm20_pm zd (by rw [← prm20_lg zd];exact h0)⟩) (wkr rfl rfl) ?_;rintro ⟨X,a,b⟩ hI;obtain ⟨za,zb,hid,hba,hbb,ha10,hb10,hX1,hG,hpa,hpb⟩:z20 a∧z20 b∧Idp (FF c) (FF d) (FF a) (FF b)∧Db X a∧Db X b∧lg a≤N∧lg b≤N∧1≤X∧Grw K N X (lg a) (lg b)∧(lg a≠0→Pm (lg a) a)∧(lg b≠0→Pm (lg b) b):=hI;show AW _ _ _ ⟨_,_,_⟩
 refine cSeq<|cSeq ?_;have hXK:=hG.bd hKC
 by_cases hb0:lg b=0
 ·exact cReg<|mv2 rfl rfl<|mdF rfl (by omega)<|mT<|cF rfl<|cExit<|tE<|tE<|bE<|tN<|cR<|mv2 rfl rfl<|mT<|cRet<|rQ rfl (by have hgf:=gcd_fin zc zd za zb hid hb0 lbc lbd (by omega) (by omega);exact fun ρ B w v hv=>exL_intro (Q:=GcdP c d (21*K+3)) (L:=fun g=>qrow (63*K+9) (lg g) (rc g)) (prm20 a) hgf ρ B w v (by rw [prm_self za hpa];exact le_qrow_t (by omega) (by have hd:=hgf.dbq;rwa [prm_self za hpa] at hd) ρ B w v hv))
 ·refine cReg<|mv2 rfl rfl<|mdT rfl (by omega)<|mT<|cT rfl<|cSkip<|tN<|cBlock ?_;have hg1:lg b-1 < lg b:=by omega
  have hN1:=(hG.step ha10 hb10 hg1).bd hKC;refine cReg<|mv3 rfl rfl rfl<|mY (aQRest (M:=(X+(lg a+1-lg b)*(X+1))) za zb hb0 (by omega) (by omega) (by omega) (by omega) (Nat.le_refl _)) rfl<|mY (aQPrimE zb (by omega) (by omega)) rfl<|mEx (Qx:=RpP a b (X+(lg a+1-lg b)*(X+1))) (L:=fun r=>qrow (X+(lg a+1-lg b)*(X+1)) (lg r) (rc r)) 16 rfl (fun R hR=>?_);exact mv2 rfl rfl<|mNil<|bN<|⟨((X+(lg a+1-lg b)*(X+1)),b,R),⟨zb,hR.z,hid.trans hR.idp,hbb.mono (Nat.le_add_right _ _),hR.b,hb10,by have:=hR.lt;omega,by omega,hG.step ha10 hb10 hR.lt,hpb,hR.pm⟩,hR.lt,wk rfl ⟨hs' rfl (le_qrow_t (by omega) (hbb.mono (Nat.le_add_right _ _))),hs rfl,hs rfl,trivial⟩ trivial rfl⟩
def szq(c:Nat→Int):Nat→Int:=szd c (lg c)
theorem szq_z{c:Nat→Int}(z:z20 c):z20 (szq c):=z20_fdv z
theorem szq_neg{c:Nat→Int}(h:conS c (lg c) < 0)(i:Nat):szq c i= -(prm20 c i):=by
 have e:conS c (lg c)= -((gcdN c (lg c):Nat):Int):=by {unfold conS at h ⊢;by_cases k:c (lg c-1) < 0;{rw [if_pos k] at h ⊢;try omega};{rw [if_neg k] at h ⊢;try omega}}
 unfold szq szd prm20 prm fdv;rw [e,Int.ediv_neg];omega
theorem szq_pos{c:Nat→Int}(h:¬ conS c (lg c) < 0)(i:Nat):szq c i=prm20 c i:=by
 have e:conS c (lg c)=((gcdN c (lg c):Nat):Int):=by {unfold conS at h ⊢;by_cases k:c (lg c-1) < 0;{rw [if_pos k] at h ⊢;try omega};{rw [if_neg k] at h ⊢;try omega}}
 unfold szq szd prm20 prm fdv;rw [e]
theorem szq_lg{c:Nat→Int}(z:z20 c):lg (szq c)=lg (prm20 c):=by
 by_cases h:conS c (lg c) < 0
 ·have h1:lg (szq c)≤lg (prm20 c):=lg_of_z (szq_z z) fun i hi=>by rw [szq_neg h,(prm20_z z).lg i hi];rfl
  have h2:lg (prm20 c)≤lg (szq c):=lg_of_z (prm20_z z) fun i hi=>by have:=(szq_z z).lg i hi;rw [szq_neg h] at this;omega
  omega
 ·have e:szq c=prm20 c:=funext (szq_pos h)
  rw [e]
theorem szq_db{c:Nat→Int}{K:Nat}(h:Db K c):Db K (szq c):=h.fdv
theorem szq_F{c:Nat→Int}(z:z20 c)(h0:lg c≠0):∃ s:Rat,0 < s∧∀ x,FF c x=s*FF (szq c) x:=by
 refine ⟨((gcdN c (lg c):Nat):Rat),by exact_mod_cast z.ip.gcd_pos h0,fun x=>?_⟩;have h:=pf_szd z.lg x;rwa [show pf (szd c (lg c)) (lg c)=FF (szq c) from FF_pf (fdv_z z.lg) (szq_z z),FF_lg z] at h
theorem aQSized{K:Nat}{c:Nat→Int}(zc:z20 c)(hK1:1≤K)(hK:K≤100000):ACall Tryz.prog 75 [.one (qrow K (lg c) (rc c))] (.d (.one (qrow K (lg (szq c)) (rc (szq c))))):=by
 refine ACall.fact10 (enters Tryz.func75 rfl rfl) (p:=Db K c) (fun B w vs h=>match vs,h with | [_],⟨h1,_⟩=>qrow_bd zc.lg h1) (fun hb=>?_);refine aN 16 [.tmp 2] Tryz.func75 rfl<|cR<|mW rfl<|mT<|cR<|mW rfl<|mY (aQPrimB zc) rfl<|mv3 rfl rfl rfl<|mO rfl<|mZ rfl<|mW rfl<|mT<|cSeq<|cR<|mv3 rfl rfl rfl<|mT<|cCond rfl (fun hc1=>?_) (fun hc1=>?_)
 ·refine cSeq ?_;have hln:=lg_le (prm20 c);exact cReg<|mW rfl<|mY (aQNeg (isqp (K:=K) (c:=(rc (prm20 c))) (rc_z (prm20_z zc).lg)) (M:=(max (K+65) 64))) rfl<|mW rfl<|mT<|cRet<|tR<|rQ rfl (by have hs0:conS c (lg c) < 0:=of_decide_eq_true hc1;have e:∀ i,fsclQ (rc (prm20 c)) ((-1:Int):Rat) i=rc (szq c) i:=fun i=>by {show ((prm20 c i:Int):Rat)*((-1:Int):Rat)=((szq c i:Int):Rat);rw [szq_neg hs0,← Rat.intCast_mul];congr 1;omega};have ef:fsclQ (rc (prm20 c)) ((-1:Int):Rat)=rc (szq c):=funext e;rw [ef];exact le_dg_t (by rw [← szq_lg zc];exact lg_dg2 (szq_z zc).lg (szq_z zc)) hK1 (szq_db hb))
 ·exact cSkip<|tN<|cR<|mv2 rfl rfl<|mT<|cRet<|rQ rfl (by have hs0:¬ conS c (lg c) < 0:=of_decide_eq_false hc1;have ef:szq c=prm20 c:=funext (szq_pos hs0);rw [ef];exact AV.le.rfl)
def sgl(S:List Int):Nat→Nat→Lf:=fun i _=> .v (.int .i64 (S.getD i 0))
theorem aQTurns{S:List Int}(h3:∀ i,S.getD i 0= -1∨S.getD i 0=0∨S.getD i 0=1)(hL:S.length≤100000):ACall Tryz.prog 143 [.one (.row 1 S.length (sgl S))] (.d (.one (.v (.int .i64 ((vr S:Nat):Int))))):=by
 refine aN 34 [.tmp 2] Tryz.func143 rfl<|cR<|mW rfl<|mT<|cR<|mv2 rfl rfl<|mT<|cSeq<|cR<|mv3 rfl rfl rfl<|mT<|cBlock<|cLoop (ι:=Nat×Nat×Int) (fun (p:Nat×Nat×Int)=>match p with | (i,nn,m)=>⟨34,[(0,.d (.one (.row 1 S.length (sgl S)))),(2,.d (.one (.v (.int .i64 0)))),(6,.d (.one (.row 1 S.length (sgl S)))),(7,.d (.one (.v (.int .i64 ((S.length:Nat):Int))))),(8,.d (.one (.v (.int .i64 ((i:Nat):Int))))),(3,.d (.one (.v (.int .i64 ((nn:Nat):Int))))),(4,.d (.one (.v (.int .i64 m))))],[]⟩) (fun (p:Nat×Nat×Int)=>match p with | (i,nn,m)=>i≤S.length∧nn≤i∧nn+vrA m (S.drop i)=vr S∧(m= -1∨m=0∨m=1)) (fun (p:Nat×Nat×Int)=>match p with | (i,nn,m)=>S.length-i) (0,0,0) (⟨Nat.zero_le _,Nat.le_refl _,by rw [List.drop_zero,Nat.zero_add];rfl,Or.inr (Or.inl rfl)⟩) (wk rfl ⟨hs rfl,hs rfl,hs rfl,hs rfl,hs' rfl (le_int rfl),hs' rfl (le_int rfl),hs rfl,trivial⟩ trivial rfl) ?_;rintro ⟨i,nn,m⟩ hI;obtain ⟨hi,hni,hv,hm3⟩:i≤S.length∧nn≤i∧nn+vrA m (S.drop i)=vr S∧(m= -1∨m=0∨m=1):=hI;show AW _ _ _ ⟨_,_,_⟩
 refine cR<|mW rfl<|mT<|cSeq<|cCond rfl (fun hc1=>?_) (fun hc1=>?_)
 ·refine cSkip<|tN<|cSeq<|cBlock<|cSeq ?_;have hin:i < S.length:=by have h0:=of_decide_eq_true hc1;omega
  have hd:=vrA_drop (m:=m) hin;have hb3:=h3 i;refine cReg<|mv2 rfl rfl<|mT<|cSeq ?_
  by_cases h0:S.getD i 0=0
  ·refine cReg<|mv2 rfl rfl<|mV hTT (.d (.one (.at 1 ((sgl S) i)))) (ixR (el:=(sgl S)) (z:=((i:Nat):Int)) (n:=S.length) rfl rfl rfl rfl rfl rfl (by omega) (by omega)) ?_;exact mW rfl<|mbF rfl (by rw [h0];rfl)<|mT<|cF rfl<|cSkip<|bN<|tN<|cReg<|mv2 rfl rfl<|mNil<|⟨((i+1),nn,m),⟨by omega,by omega,by rw [if_pos h0] at hd;omega,hm3⟩,by show S.length-(i+1) < S.length-i;omega,wk rfl ⟨hs rfl,hs rfl,hs rfl,hs rfl,hs' rfl (le_int (inc64 (by omega))),hs rfl,hs rfl,trivial⟩ trivial rfl⟩
  ·refine cReg<|mv2 rfl rfl<|mV hTT (.d (.one (.at 1 ((sgl S) i)))) (ixR (el:=(sgl S)) (z:=((i:Nat):Int)) (n:=S.length) rfl rfl rfl rfl rfl rfl (by omega) (by omega)) ?_;refine mW rfl<|mbT rfl (bne_iff_ne.2 h0)<|mT<|cT rfl<|cSeq<|cSeq ?_
   by_cases hm0:m=0
   ·refine cReg<|mW rfl<|mbF rfl (by rw [hm0];rfl)<|mW rfl<|mG rfl rfl<|mG rfl rfl<|mG rfl rfl<|mG rfl rfl<|mG rfl rfl<|mG rfl rfl<|mW rfl<|mT<|cFs rfl<|cReg<|mv2 rfl rfl<|mV hTT (.d (.one (.at 1 ((sgl S) i)))) (ixR (el:=(sgl S)) (z:=((i:Nat):Int)) (n:=S.length) rfl rfl rfl rfl rfl rfl (by omega) (by omega)) ?_;exact mv2 rfl rfl<|mNil<|bN<|tN<|cReg<|mv2 rfl rfl<|mNil<|⟨((i+1),nn,(S.getD i 0)),⟨by omega,by omega,by rw [if_neg h0,if_neg (by omega)] at hd;omega,hb3⟩,by show S.length-(i+1) < S.length-i;omega,wk rfl ⟨hs rfl,hs rfl,hs rfl,hs rfl,hs' rfl (le_int (inc64 (by omega))),hs rfl,hs rfl,trivial⟩ trivial rfl⟩
   ·by_cases hsm:S.getD i 0=m
    ·refine cReg<|mW rfl<|mbT rfl (bne_iff_ne.2 hm0)<|mv3 rfl rfl rfl<|mV hTT (.d (.one (.at 1 ((sgl S) i)))) (ixR (el:=(sgl S)) (z:=((i:Nat):Int)) (n:=S.length) rfl rfl rfl rfl rfl rfl (by omega) (by omega)) ?_;refine mv2 rfl rfl<|mbF rfl (by rw [hsm];exact bne_self_eq_false m)<|mW rfl<|mT<|cFs rfl<|cReg<|mv2 rfl rfl<|mV hTT (.d (.one (.at 1 ((sgl S) i)))) (ixR (el:=(sgl S)) (z:=((i:Nat):Int)) (n:=S.length) rfl rfl rfl rfl rfl rfl (by omega) (by omega)) ?_;exact mv2 rfl rfl<|mNil<|bN<|tN<|cReg<|mv2 rfl rfl<|mNil<|⟨((i+1),nn,(S.getD i 0)),⟨by omega,by omega,by rw [if_neg h0,if_neg (by omega)] at hd;omega,hb3⟩,by show S.length-(i+1) < S.length-i;omega,wk rfl ⟨hs rfl,hs rfl,hs rfl,hs rfl,hs' rfl (le_int (inc64 (by omega))),hs rfl,hs rfl,trivial⟩ trivial rfl⟩
    ·refine cReg<|mW rfl<|mbT rfl (bne_iff_ne.2 hm0)<|mv3 rfl rfl rfl<|mV hTT (.d (.one (.at 1 ((sgl S) i)))) (ixR (el:=(sgl S)) (z:=((i:Nat):Int)) (n:=S.length) rfl rfl rfl rfl rfl rfl (by omega) (by omega)) ?_;refine mv2 rfl rfl<|mbT rfl (bne_iff_ne.2 hsm)<|mW rfl<|mT<|cT rfl<|cReg<|mv3 rfl rfl rfl<|mT<|cReg<|mv2 rfl rfl<|mV hTT (.d (.one (.at 1 ((sgl S) i)))) (ixR (el:=(sgl S)) (z:=((i:Nat):Int)) (n:=S.length) rfl rfl rfl rfl rfl rfl (by omega) (by omega)) ?_;exact mv2 rfl rfl<|mNil<|bN<|tN<|cReg<|mv2 rfl rfl<|mNil<|⟨((i+1),(nn+1),(S.getD i 0)),⟨by omega,by omega,by rw [if_neg h0,if_pos (by omega)] at hd;omega,hb3⟩,by show S.length-(i+1) < S.length-i;omega,wk rfl ⟨hs rfl,hs rfl,hs rfl,hs rfl,hs' rfl (le_int (inc64 (by omega))),hs' rfl (le_int (inc64 (by omega))),hs rfl,trivial⟩ trivial rfl⟩
 ·exact cExit<|tE<|tE<|bE<|tN<|cR<|mv2 rfl rfl<|mT<|cRet<|rQ rfl (le_int (by have h0:=of_decide_eq_false hc1;rw [vrA_end (by omega)] at hv;omega))
theorem Cop.pow{a b:Fn}(h:Cop a b)(pa:Po a)(pb:Po b):∀ n:Nat,Cop a (fun x=>b x^n)
 | 0=>⟨fun _=>0,fun _=>1,po_const 0,po_const 1,fun x=>by show 0*a x+1*b x^0=1;rw [Rat.pow_zero];grind⟩
 | n+1=>by
  have h1:=(h.pow pa pb n).mul h pa (pb.pow n) pb;rwa [show (fun x=>b x^(n+1))=fun x=>b x^n*b x from funext fun x=>Rat.pow_succ _ _]
/-- What is squarefree and divides a power divides. -/
theorem sqf_dv{s s' t:Fn}(h:Sqf s s')(hne:∃ x,s x≠0)(pt:Po t){N:Nat}(hd:Dv s (fun x=>t x^N)):Dv s t:=by
 obtain ⟨m,ht⟩:=pt;obtain ⟨d,u,v,p,q,pd,pu,pv,pp,pq,e1,e2,e3⟩:=po_gcd m s t h.po ht;obtain ⟨d',pd',dd⟩:=pd.der;obtain ⟨p',pp',dp⟩:=pp.der;have cpd:Cop p d:=h.cop_of pp pd pp' pd' dp dd e2;have dne:∃ x,d x≠0:=by obtain ⟨x,hx⟩:=hne;exact ⟨x,fun e=>hx (by rw [e2,e,Rat.mul_zero])⟩
 have cpq:Cop p q:=⟨u,v,pu,pv,po_cancel2 pd dne ((pu.mul pp).add (pv.mul pq)) (po_const 1) (fun x=>by have a:=e1 x;rw [e2,e3] at a;grind)⟩;have cpt:Cop p t:=by have h1:=cpq.mul cpd pp pq pd;rwa [show (fun x=>q x*d x)=t from funext fun x=>(e3 x).symm] at h1
 have cpN:=cpt.pow pp ⟨m,ht⟩ N;have dps:Dv p s:=⟨d,pd,fun x=>by rw [e2];exact Rat.mul_comm _ _⟩;obtain ⟨w,pw,hw⟩:=cpN.dv (po_const 1) ((dps.trans hd).mulr (po_const 1));exact ⟨fun x=>w x*q x,pw.mul pq,fun x=>by have h1:=hw x;have h2:=e2 x;have h3:=e3 x;grind⟩
/-- Primitive rows that divide each other are one. -/
theorem pm_eq{f g:Nat→Int}(zf:z20 f)(zg:z20 g)(mf:Pm (lg f) f)(mg:Pm (lg g) g)(h1:Dv (FF f) (FF g))(h2:Dv (FF g) (FF f)):f=g:=by
 have l1:=(lg_dv zg zf mg.pos h1).2;have l2:=(lg_dv zf zg mf.pos h2).2;obtain ⟨W,pW,hW⟩:=h1;obtain ⟨w,k,hw,hc,_⟩:=exact_row zg.lg zf.lg mf.one pW (fun x=>by rw [FF_lg zg,FF_lg zf];exact hW x);have zw:=quo20 zf zg mf.pos hw hc;obtain ⟨hlq,_⟩:=quo_lg zw zf zg hc mf.pos;have hl1:lg w=1:=by omega
 have mw:=quo_pm zw zf zg hc mf mg;have hd:(w 0).natAbs∣gcdN w (lg w):=gcdN_all fun i hi=>by
  obtain rfl:i=0:=by omega
  exact Nat.dvd_refl _
 rw [mw.one] at hd;have h0:0 < w 0:=by have h:=mw.lead;rw [hl1] at h;exact h
 have hw1:w 0=1:=by have:=Nat.dvd_one.1 hd;omega
 have hF:∀ x,FF w x=1:=fun x=>by rw [← FF_lg zw,hl1];exact pf_const.trans (by rw [hw1];rfl)
 have e:conv w f=g:=funext hc;refine funext (FF_inj zf zg fun x=>?_);have h9:=pf_conv (n:=1) (m:=20) (a:=w) (b:=f) (fun i hi=>zw.lg i (by omega)) zf x;rw [e,FF_pf (c:=g) (n:=1+20) (fun i hi=>zg i (by omega)) zg] at h9;have h8:=hF x;rw [← FF_lg zw,hl1] at h8;rw [h9,h8];show FF f x=1*FF f x
 grind
theorem SqP.uniq{c f g:Nat→Int}{M M':Nat}(h:SqP c M f)(k:SqP c M' g):f=g:=by
 have key:∀ {f g:Nat→Int} {M M':Nat},SqP c M f→SqP c M' g→Dv (FF f) (FF g):=by
  intro f g M M' h k;obtain ⟨N,w,pw,e⟩:=k.pw;exact sqf_dv h.sq (FF_nz h.z h.ne) (FF_po k.z) (h.dv.trans ⟨w,pw,e⟩)
 exact pm_eq h.z k.z h.pm k.pm (key h k) (key k h)
/-- THE SQUAREFREE PART. -/
noncomputable def sqP(c:Nat→Int):Nat→Int:=open Classical in if h:∃ f M,SqP c M f then h.choose else c
theorem SqP.eq{c f:Nat→Int}{M:Nat}(h:SqP c M f):f=sqP c:=by
 have hx:∃ f M,SqP c M f:=⟨f,M,h⟩
 unfold sqP;rw [dif_pos hx];obtain ⟨M',h'⟩:=hx.choose_spec;exact h.uniq h'
theorem SqP.self{c f:Nat→Int}{M:Nat}(h:SqP c M f):SqP c M (sqP c):=h.eq▸h
/-- What is squarefree is its own part. -/
theorem sq_self{c:Nat→Int}{M:Nat}(z:z20 c)(b:Lb M c)(pm:Pm (lg c) c)(h:Sqf (FF c) (FF (fder c))):SqP c M c:=⟨z,b,pm,Dv.refl _,⟨1,fun _=>1,po_const 1,fun x=>by rw [pow1];grind⟩,h⟩
theorem ex_lb{c:Nat→Int}(z:z20 c):∃ K,1≤K∧Lb K c:=by
 have key:∀ n:Nat,∃ K,1≤K∧∀ i,i < n→(c i).natAbs < B32^K:=by
  intro n
  induction n with
  | zero=>exact ⟨1,Nat.le_refl _,fun i hi=>absurd hi (Nat.not_lt_zero _)⟩
  | succ n ih=>
   obtain ⟨K,h1,h⟩:=ih;refine ⟨K+(c n).natAbs,by omega,fun i hi=>?_⟩
   by_cases e:i < n
   ·exact Nat.lt_of_lt_of_le (h i e) (Nat.pow_le_pow_right (by decide) (by omega))
   ·obtain rfl:i=n:=by omega
    exact Nat.lt_of_lt_of_le (Nat.lt_of_lt_of_le Nat.lt_two_pow_self (Nat.pow_le_pow_left (show 2≤B32 by decide) _)) (Nat.pow_le_pow_right (by decide) (by omega))
 obtain ⟨K,h1,h⟩:=key 20;exact ⟨K,h1,fun i=>by
  by_cases hi:i < 20
  ·exact h i hi
  ·rw [z i (by omega)];exact Nat.pow_pos (by decide)⟩
/-- The primitive row of length one. -/
theorem pm_one{r:Nat→Int}(z:z20 r)(pm:Pm (lg r) r)(h:lg r=1):r=onez 1:=by
 have hd:(r 0).natAbs∣gcdN r (lg r):=gcdN_all fun i hi=>by
  obtain rfl:i=0:=by omega
  exact Nat.dvd_refl _
 rw [pm.one] at hd;have h0:0 < r 0:=by have k:=pm.lead;rw [h] at k;exact k
 have h1:r 0=1:=by have:=Nat.dvd_one.1 hd;omega
 funext i
 by_cases hi:i=0
 ·subst hi;exact h1
 ·rw [onez_z i (by omega)];exact z.lg i (by omega)
theorem onez20:z20 (onez 1):=fun i hi=>onez_z i (by omega)
theorem onez_lg:lg (onez 1)=1:=by decide
theorem onez_pm:Pm (lg (onez 1)) (onez 1):=⟨onez20.ip,by rw [onez_lg];decide,by rw [onez_lg];decide,by rw [onez_lg];decide⟩
theorem onez_F(x:Rat):FF (onez 1) x=1:=by rw [← FF_lg onez20,onez_lg];exact pf_const.trans rfl
theorem sq_onez:sqP (onez 1)=onez 1:=by
 obtain ⟨M,_,hM⟩:=ex_lb onez20;exact (sq_self onez20 hM onez_pm ⟨FF_po onez20,FF_po (z20_der onez20),FF_der onez20,fun _=>1,fun _=>0,po_const 1,po_const 0,fun x=>by rw [onez_F];grind⟩).eq.symm
/-- One step down. -/
theorem sq_step{r g:Nat→Int}{M:Nat}(zr:z20 r)(pr:Pm (lg r) r)(h2:2≤lg r)(h10:lg r≤10)(hg:GcdP r (fder r) M g):(∃ M',SqP r M' (sqP r))∧∀ i,conv (sqP r) g i=r i:=by
 have e:prm20 r=r:=prm_self zr fun _=>pr
 obtain ⟨hg0,hgl⟩:=hg.le zr pr.pos;obtain ⟨W,pW,hW⟩:=hg.idl.da;obtain ⟨w,k,hw,hc,_⟩:=exact_row zr.lg hg.z.lg (hg.pm hg0).one pW (fun x=>by rw [FF_lg zr,FF_lg hg.z];exact hW x);have zw:=quo20 hg.z zr hg0 hw hc;obtain ⟨K,_,hK⟩:=ex_lb zr;have hs:SqP r (21*K+3) w:=sq_of zr h2 h10 hK (by rw [e];exact hg) zw (by rw [e];exact hc);exact ⟨⟨_,hs.self⟩,by rw [← hs.eq];exact hc⟩
/-- FACTORS on the way: what stands k times at least. -/
structure FcI(c:Nat→Int)(Rs:List (Nat→Int)):Prop where
 ne:1≤Rs.length
 h0:gl Rs 0=prm20 c
 z:∀ i,z20 (gl Rs i)
 pm:∀ i,i < Rs.length→Pm (lg (gl Rs i)) (gl Rs i)
 dv:∀ i,i < Rs.length→Dv (FF (gl Rs i)) (FF c)
 l:∀ i,lg (gl Rs i)≤lg c
 st:∀ i,i+1 < Rs.length→2≤lg (gl Rs i)∧∃ M,GcdP (gl Rs i) (fder (gl Rs i)) M (gl Rs (i+1))
 ln:Rs.length+lg (gl Rs (Rs.length-1))≤lg c+1
theorem gl_none{L:List (Nat→Int)}{i:Nat}(h:L.length≤i):gl L i=fun _=>0:=by
 unfold gl;rw [List.getD_eq_getElem?_getD,List.getElem?_eq_none h];rfl
theorem dv_prm{c:Nat→Int}(z:z20 c)(h0:lg c≠0):Dv (FF (prm20 c)) (FF c):=by
 obtain ⟨s,hs0,hs⟩:=FF_prm_pos z h0;exact ⟨fun _=>s,po_const s,hs⟩
theorem FcI.start{c:Nat→Int}(zc:z20 c)(h2:2≤lg c):FcI c [prm20 c]:=by
 have hl:=prm20_lg zc;refine ⟨Nat.le_refl _,rfl,fun i=>?_,fun i hi=>?_,fun i hi=>?_,fun i=>?_,fun i hi=>absurd hi (by show ¬ i+1 < 1;omega),by show 1+lg (prm20 c)≤_;omega⟩
 ·cases i with
  | zero=>exact prm20_z zc
  | succ i=>rw [gl_none (by show 1≤i+1;omega)];exact z20_nil
 ·obtain rfl:i=0:=by have:i < 1:=hi;omega
  exact prm20_pm zc (by omega)
 ·obtain rfl:i=0:=by have:i < 1:=hi;omega
  exact dv_prm zc (by omega)
 ·cases i with
  | zero=>exact Nat.le_of_eq hl
  | succ i=>rw [gl_none (by show 1≤i+1;omega)];exact Nat.le_trans (lg_of_z (n:=0) z20_nil fun _ _=>rfl) (Nat.zero_le _)
theorem gl_app1{L:List (Nat→Int)}{b:Nat→Int}(i:Nat):gl (L ++ [b]) i=if i < L.length then gl L i else if i=L.length then b else fun _=>0:=by
 split
 ·rename_i h;exact gl_app h
 ·split
  ·rename_i h;rw [h];exact gl_last
  ·exact gl_none (by rw [List.length_append];show L.length+1≤i;omega)
theorem lg_der_lt{c:Nat→Int}(z:z20 c)(h:lg c≠0):lg (fder c) < lg c:=by
 have:lg (fder c)≤lg c-1:=lg_of_z (z20_der z) fun i hi=>fder_z z.lg i (by omega)
 omega
theorem FcI.step{c g:Nat→Int}{Rs:List (Nat→Int)}{M:Nat}(h:FcI c Rs)(zc:z20 c)(h0:lg c≠0)(h2:2≤lg (gl Rs (Rs.length-1)))(hg:GcdP (gl Rs (Rs.length-1)) (fder (gl Rs (Rs.length-1))) M g):FcI c (Rs ++ [g]):=by
 have hne:=h.ne;have zl:=h.z (Rs.length-1);have hd2:lg (fder (gl Rs (Rs.length-1)))≠0:=fun e=>by have:=fder_zero zl e;omega
 obtain ⟨hg0,hgl⟩:=hg.le' (z20_der zl) hd2;have hlt:=lg_der_lt zl (by omega);have hll:=h.l (Rs.length-1);have hlen:(Rs ++ [g]).length=Rs.length+1:=by rw [List.length_append];rfl
 refine ⟨by omega,by rw [gl_app (by omega)];exact h.h0,fun i=>?_,fun i hi=>?_,fun i hi=>?_,fun i=>?_,fun i hi=>?_,?_⟩
 ·rw [gl_app1];split;exact h.z i;split;exact hg.z;exact z20_nil
 ·rw [gl_app1];split
  ·rename_i h1;exact h.pm i h1
  ·rw [if_pos (by omega)];exact hg.pm hg0
 ·rw [gl_app1];split
  ·rename_i h1;exact h.dv i h1
  ·rw [if_pos (by omega)];exact hg.idl.da.trans (h.dv _ (by omega))
 ·rw [gl_app1];split;exact h.l i;split;omega;exact Nat.le_trans (lg_of_z (n:=0) z20_nil fun _ _=>rfl) (Nat.zero_le _)
 ·rw [gl_app1 i,gl_app1 (i+1),if_pos (by omega)]
  by_cases e:i+1 < Rs.length
  ·rw [if_pos e];exact h.st i e
  ·rw [if_neg e,if_pos (by omega)]
   obtain rfl:i=Rs.length-1:=by omega
   exact ⟨h2,M,hg⟩
 ·rw [hlen,Nat.add_sub_cancel,gl_last];have:=h.ln;omega
/-- The list with 1 behind. -/
structure FcE(c:Nat→Int)(Rs:List (Nat→Int)):Prop where
 len:2≤Rs.length
 l11:Rs.length≤lg c+1
 h0:gl Rs 0=prm20 c
 z:∀ i,z20 (gl Rs i)
 pm:∀ i,i < Rs.length→Pm (lg (gl Rs i)) (gl Rs i)
 dv:∀ i,i < Rs.length→Dv (FF (gl Rs i)) (FF c)
 l:∀ i,lg (gl Rs i)≤lg c
 q1:∀ i,i+1 < Rs.length→∀ j,conv (sqP (gl Rs i)) (gl Rs (i+1)) j=gl Rs i j
 sq:∀ i,i < Rs.length→∃ M,SqP (gl Rs i) M (sqP (gl Rs i))
 l1:gl Rs (Rs.length-1)=onez 1
 l2:gl Rs (Rs.length-2)=onez 1
 lo:Rs.length=2∨2≤lg (gl Rs (Rs.length-3))
theorem Sqf.fin{f f':Fn}(h:Sqf f f'){g:Fn}(h1:Dv g f)(h2:Dv g f'):Dv g (fun _=>1):=by
 obtain ⟨u,v,pu,pv,e⟩:=h.cop;obtain ⟨p,pp,k1⟩:=h1;obtain ⟨q,pq,k2⟩:=h2;exact ⟨fun x=>u x*p x+v x*q x,(pu.mul pp).add (pv.mul pq),fun x=>by have h3:=e x;have h4:=k1 x;have h5:=k2 x;grind⟩
theorem FcI.one{c:Nat→Int}{Rs:List (Nat→Int)}(h:FcI c Rs)(zc:z20 c)(h0:lg c≠0)(hs:Sqf (FF c) (FF (fder c))):Rs.length≤2:=by
 apply Classical.byContradiction;intro hn;obtain ⟨_,M,hg⟩:=h.st 0 (by omega);obtain ⟨h2,_⟩:=h.st 1 (by omega);rw [h.h0] at hg;have zp:=prm20_z zc;obtain ⟨q,pq,hq⟩:=dv_prm zc h0;have sp:Sqf (FF (prm20 c)) (FF (fder (prm20 c))):=hs.dv (FF_po zp) pq (FF_po (z20_der zp)) (FF_der zp) (fun x=>by rw [hq];exact Rat.mul_comm _ _);have h1:=sp.fin hg.idl.da hg.idl.db;have z1:=h.z 1;have h3:=lg_dv onez20 z1 (by rw [onez_lg];decide) (h1.congr fun x=>(onez_F x).symm);have:=h3.2;rw [onez_lg] at this;omega
theorem FcI.fin{c:Nat→Int}{Rs:List (Nat→Int)}(h:FcI c Rs)(zc:z20 c)(h2:2≤lg c)(h10:lg c≤10)(hl:lg (gl Rs (Rs.length-1))≤1):FcE c (Rs ++ [onez 1]):=by
 have hne:=h.ne;have hln:=h.ln;have hlast:gl Rs (Rs.length-1)=onez 1:=pm_one (h.z _) (h.pm _ (by omega)) (by have:=(h.pm (Rs.length-1) (by omega)).pos;omega);have hlen:(Rs ++ [onez 1]).length=Rs.length+1:=by rw [List.length_append];rfl
 have h2l:2≤Rs.length:=by
  apply Classical.byContradiction;intro hn;have e:Rs.length-1=0:=by omega
  rw [e,h.h0,prm20_lg zc] at hl;omega
 have hlg1:lg (gl Rs (Rs.length-1))=1:=by rw [hlast];exact onez_lg
 refine ⟨by omega,by omega,by rw [gl_app (by omega)];exact h.h0,fun i=>?_,fun i hi=>?_,fun i hi=>?_,fun i=>?_,fun i hi=>?_,fun i hi=>?_,by rw [hlen,Nat.add_sub_cancel];exact gl_last,by rw [hlen,show Rs.length+1-2=Rs.length-1 by omega,gl_app (by omega)];exact hlast,?_⟩
 ·rw [gl_app1];split;exact h.z i;split;exact onez20;exact z20_nil
 ·rw [gl_app1];split
  ·rename_i h1;exact h.pm i h1
  ·rw [if_pos (by omega)];exact onez_pm
 ·rw [gl_app1];split
  ·rename_i h1;exact h.dv i h1
  ·rw [if_pos (by omega)];exact ⟨FF c,FF_po zc,fun x=>by rw [onez_F];grind⟩
 ·rw [gl_app1];split;exact h.l i;split;rw [onez_lg];omega;exact Nat.le_trans (lg_of_z (n:=0) z20_nil fun _ _=>rfl) (Nat.zero_le _)
 ·rw [gl_app1 i,gl_app1 (i+1),if_pos (by omega)]
  by_cases e:i+1 < Rs.length
  ·rw [if_pos e]
   obtain ⟨k2,M,hg⟩:=h.st i e;exact (sq_step (h.z i) (h.pm i (by omega)) k2 (by have:=h.l i;omega) hg).2
  ·rw [if_neg e,if_pos (by omega)]
   obtain rfl:i=Rs.length-1:=by omega
   rw [hlast,sq_onez];have h9:∀ x,FF (conv (onez 1) (onez 1)) x=FF (onez 1) x:=fun x=>by
    rw [FF_conv (n:=1) (m:=1) (fun i hi=>onez_z i hi) (fun i hi=>onez_z i hi) (by omega) onez20 onez20,onez_F];grind
   exact FF_inj (z20.of (conv_z0 (n:=1) (m:=1) (fun i hi=>onez_z i hi) (fun i hi=>onez_z i hi)) (by omega)) onez20 h9
 ·rw [gl_app1]
  have h1:∃ M,SqP (onez 1) M (sqP (onez 1)):=by
   obtain ⟨M,_,hM⟩:=ex_lb onez20;exact ⟨M,(sq_self onez20 hM onez_pm ⟨FF_po onez20,FF_po (z20_der onez20),FF_der onez20,fun _=>1,fun _=>0,po_const 1,po_const 0,fun x=>by rw [onez_F];grind⟩).self⟩
  split
  ·rename_i e
   by_cases e2:i+1 < Rs.length
   ·obtain ⟨k2,M,hg⟩:=h.st i e2
    exact (sq_step (h.z i) (h.pm i (by omega)) k2 (by have:=h.l i;omega) hg).1
   ·obtain rfl:i=Rs.length-1:=by omega
    rw [hlast];exact h1
  ·rw [if_pos (by omega)];exact h1
 ·rw [hlen]
  refine Or.inr ?_;rw [show Rs.length+1-3=Rs.length-2 by omega,gl_app (by omega)];exact (h.st (Rs.length-2) (by omega)).1
section
variable {c:Nat→Int} {Rs:List (Nat→Int)}
theorem FcE.quo(h:FcE c Rs)(h10:lg c≤10)(i:Nat)(hi:i+2 < Rs.length):∃ f,z20 f∧Pm (lg f) f∧(∀ j,conv f (sqP (gl Rs (i+1))) j=sqP (gl Rs i) j)∧Dv (FF f) (FF c):=by
 obtain ⟨M,k⟩:=h.sq i (by omega);obtain ⟨M',k'⟩:=h.sq (i+1) (by omega);have hq:=h.q1 i (by omega);have hx:lg (sqP (gl Rs i))≤lg c:=by
  have h1:=(lg_dv (h.z i) k.z (h.pm i (by omega)).pos k.dv).2;have:=h.l i;omega
 have d1:Dv (FF (gl Rs (i+1))) (FF (gl Rs i)):=⟨FF (sqP (gl Rs i)),FF_po k.z,fun x=>by
  rw [← FF_conv k.z.lg (h.z (i+1)).lg (by have:=h.l (i+1);omega) k.z (h.z (i+1)),show conv (sqP (gl Rs i)) (gl Rs (i+1))=gl Rs i from funext hq]⟩
 obtain ⟨N,w,pw,e⟩:=k.pw;have d2:Dv (FF (sqP (gl Rs (i+1)))) (FF (sqP (gl Rs i))):=sqf_dv k'.sq (FF_nz k'.z k'.ne) (FF_po k.z) ((k'.dv.trans d1).trans ⟨w,pw,e⟩);obtain ⟨W,pW,hW⟩:=d2;obtain ⟨f,n,hf,hc,_⟩:=exact_row k.z.lg k'.z.lg k'.pm.one pW (fun x=>by rw [FF_lg k.z,FF_lg k'.z];exact hW x);have zf:=quo20 k'.z k.z k'.ne hf hc;refine ⟨f,zf,quo_pm zf k'.z k.z hc k'.pm k.pm,hc,?_⟩;have hlq:=(quo_lg zf k'.z k.z hc k'.ne).1;have d3:Dv (FF f) (FF (sqP (gl Rs i))):=⟨FF (sqP (gl Rs (i+1))),FF_po k'.z,fun x=>by
  rw [← show conv f (sqP (gl Rs (i+1)))=sqP (gl Rs i) from funext hc,FF_conv zf.lg k'.z.lg (by have:=k'.ne;have:=lg_le (sqP (gl Rs (i+1)));omega) zf k'.z];exact Rat.mul_comm _ _⟩
 exact (d3.trans k.dv).trans (h.dv i (by omega))
noncomputable def facF(Rs:List (Nat→Int))(i:Nat):Nat→Int:=open Classical in if h:∃ f,z20 f∧∀ j,conv f (sqP (gl Rs (i+1))) j=sqP (gl Rs i) j then h.choose else fun _=>0
theorem conv_uniq{f f' d p:Nat→Int}(zf:z20 f)(zf':z20 f')(zd:z20 d)(zp:z20 p)(hd:lg d≠0)(h:∀ j,conv f d j=p j)(h':∀ j,conv f' d j=p j)(hl:lg p≤10):f=f':=by
 have key:∀ {f:Nat→Int},z20 f→(∀ j,conv f d j=p j)→∀ x,FF p x=FF f x*FF d x:=by
  intro f zf h x;have hq:=quo_lg zf zd zp h hd;have hb:lg f+lg d≤20:=by
   by_cases h0:lg f=0
   ·have:=lg_le d;omega
   ·have:=hq.2 h0;omega
  rw [← show conv f d=p from funext h,FF_conv zf.lg zd.lg hb zf zd]
 refine funext (FF_inj zf zf' fun x=>po_cancel2 (FF_po zd) (FF_nz zd hd) (FF_po zf) (FF_po zf') (fun t=>?_) x);have h1:=key zf h t;have h2:=key zf' h' t;grind
theorem facF_ok(h:FcE c Rs)(h10:lg c≤10)(i:Nat)(hi:i+2 < Rs.length):z20 (facF Rs i)∧Pm (lg (facF Rs i)) (facF Rs i)∧(∀ j,conv (facF Rs i) (sqP (gl Rs (i+1))) j=sqP (gl Rs i) j)∧Dv (FF (facF Rs i)) (FF c):=by
 obtain ⟨f,zf,pf,hc,hd⟩:=h.quo h10 i hi;have hx:∃ f,z20 f∧∀ j,conv f (sqP (gl Rs (i+1))) j=sqP (gl Rs i) j:=⟨f,zf,hc⟩
 have e:facF Rs i=f:=by
  unfold facF;rw [dif_pos hx];obtain ⟨M,k⟩:=h.sq i (by omega);obtain ⟨M',k'⟩:=h.sq (i+1) (by omega);have hxl:lg (sqP (gl Rs i))≤lg c:=by
   have h1:=(lg_dv (h.z i) k.z (h.pm i (by omega)).pos k.dv).2;have:=h.l i;omega
  exact conv_uniq hx.choose_spec.1 zf k'.z k.z k'.ne hx.choose_spec.2 hc (by omega)
 rw [e];exact ⟨zf,pf,hc,hd⟩
end
/-- THE FACTORS of c. -/
structure FacP(c:Nat→Int)(Ls:List (Nat→Int)):Prop where
 ex:∃ X:Nat→Nat→Int,(∀ i,i≤Ls.length→z20 (X i)∧lg (X i)≤lg c)∧(∃ M,SqP c M (X 0))∧X Ls.length=onez 1∧∀ i,i < Ls.length→∀ x,FF (X i) x=FF (gl Ls i) x*FF (X (i+1)) x
 z:∀ i,z20 (gl Ls i)
 pm:∀ i,i < Ls.length→Pm (lg (gl Ls i)) (gl Ls i)
 dv:∀ i,i < Ls.length→Dv (FF (gl Ls i)) (FF c)
 len:Ls.length≤lg c
 one:Sqf (FF c) (FF (fder c))→Ls.length=1
noncomputable def facL(Rs:List (Nat→Int))(k:Nat):List (Nat→Int):=(List.range k).map (facF Rs)
theorem facL_len(Rs:List (Nat→Int))(k:Nat):(facL Rs k).length=k:=by unfold facL;rw [List.length_map,List.length_range]
theorem facL_gl(Rs:List (Nat→Int))(k i:Nat)(h:i < k):gl (facL Rs k) i=facF Rs i:=by
 unfold facL gl;rw [List.getD_eq_getElem?_getD,List.getElem?_map,List.getElem?_range h];rfl
theorem facL_succ(Rs:List (Nat→Int))(k:Nat):facL Rs (k+1)=facL Rs k ++ [facF Rs k]:=by unfold facL;rw [List.range_succ,List.map_append];rfl
theorem sqp_prm{c f:Nat→Int}{M:Nat}(zc:z20 c)(h0:lg c≠0)(h:SqP (prm20 c) M f):SqP c M f:=by
 obtain ⟨s,hs0,hs⟩:=FF_prm_pos zc h0;obtain ⟨N,w,pw,e⟩:=h.pw;exact ⟨h.z,h.b,h.pm,h.dv.trans (dv_prm zc h0),⟨N,fun x=>w x*s⁻¹,pw.scl _,fun x=>(e x).trans (by show w x*FF (prm20 c) x=w x*s⁻¹*FF c x;rw [hs];grind)⟩,h.sq⟩
theorem FcE.fac{c:Nat→Int}{Rs:List (Nat→Int)}(h:FcE c Rs)(zc:z20 c)(h0:lg c≠0)(h10:lg c≤10)(hone:Sqf (FF c) (FF (fder c))→Rs.length≤3)(h3:3≤Rs.length):FacP c (facL Rs (Rs.length-2)):=by
 have hl:=facL_len Rs (Rs.length-2);have hxl:∀ i,i < Rs.length→∃ M,SqP (gl Rs i) M (sqP (gl Rs i))∧lg (sqP (gl Rs i))≤lg c:=fun i hi=>by
  obtain ⟨M,k⟩:=h.sq i hi;have h1:=(lg_dv (h.z i) k.z (h.pm i hi).pos k.dv).2;have:=h.l i;exact ⟨M,k,by omega⟩
 refine ⟨⟨fun i=>sqP (gl Rs i),fun i hi=>?_,?_,?_,fun i hi x=>?_⟩,fun i=>?_,fun i hi=>?_,fun i hi=>?_,by rw [hl];have:=h.l11;omega,fun hs=>by rw [hl];have:=hone hs;omega⟩
 ·obtain ⟨M,k,kl⟩:=hxl i (by omega)
  exact ⟨k.z,kl⟩
 ·obtain ⟨M,k⟩:=h.sq 0 (by omega)
  rw [h.h0] at k;refine ⟨M,?_⟩;show SqP c M (sqP (gl Rs 0))
  rw [h.h0];exact sqp_prm zc h0 k
 ·show sqP (gl Rs _)=_
  rw [hl,h.l2,sq_onez]
 ·have hi2:i+2 < Rs.length:=by omega
  obtain ⟨zf,pf,hc,_⟩:=facF_ok h h10 i hi2;obtain ⟨M,k,kl⟩:=hxl i (by omega);obtain ⟨M',k',kl'⟩:=hxl (i+1) (by omega);rw [facL_gl Rs _ i (by omega)];have hq:=(quo_lg zf k'.z k.z hc k'.ne).1;show FF (sqP (gl Rs i)) x=_
  rw [← show conv (facF Rs i) (sqP (gl Rs (i+1)))=sqP (gl Rs i) from funext hc,FF_conv zf.lg k'.z.lg (by have:=k'.ne;have:=lg_le (sqP (gl Rs (i+1)));omega) zf k'.z]
 ·by_cases hi:i < Rs.length-2
  ·rw [facL_gl Rs _ i hi];exact (facF_ok h h10 i (by omega)).1
  ·rw [gl_none (by omega)];exact z20_nil
 ·rw [facL_gl Rs _ i (by omega)];exact (facF_ok h h10 i (by omega)).2.1
 ·rw [facL_gl Rs _ i (by omega)];exact (facF_ok h h10 i (by omega)).2.2.2
/-- The product of factors, on the way. -/
structure SqI(c:Nat→Int)(X:Nat→Nat→Int)(i:Nat)(o:Nat→Int):Prop where
 z:z20 o
 pm:gcdN o (lg o)=1
 dv:Dv (FF o) (FF c)
 eq:∀ x,FF o x*FF (X i) x=FF (X 0) x
theorem SqI.step{c o f:Nat→Int}{X:Nat→Nat→Int}{i:Nat}(h:SqI c X i o)(zc:z20 c)(h0:lg c≠0)(h10:lg c≤10)(zf:z20 f)(pf:Pm (lg f) f)(df:Dv (FF f) (FF c))(zX:z20 (X (i+1)))(hX0:Dv (FF (X 0)) (FF c))(he:∀ x,FF (X i) x=FF f x*FF (X (i+1)) x):SqI c X (i+1) (conv o f)∧(∀ x,FF (conv o f) x=FF o x*FF f x)∧lg o≤10∧lg f≤10:=by
 have l1:=(lg_dv zc h.z h0 h.dv).2;have l2:=(lg_dv zc zf h0 df).2;have zo:z20 (conv o f):=z20.of (conv_z0 h.z.lg zf.lg) (by omega);have hF:∀ x,FF (conv o f) x=FF o x*FF f x:=FF_conv h.z.lg zf.lg (by omega) h.z zf
 have hE:∀ x,FF (conv o f) x*FF (X (i+1)) x=FF (X 0) x:=fun x=>by rw [hF,← h.eq x,he x];grind
 refine ⟨⟨zo,?_,?_,hE⟩,hF,by omega,by omega⟩
 ·have h1:=gauss h.z.lg zf.lg h.pm pf.one
  rwa [gcdN_eq (conv_z0 h.z.lg zf.lg) zo.lg] at h1
 ·exact Dv.trans (b:=FF (X 0)) ⟨FF (X (i+1)),FF_po zX,fun x=>by rw [← hE x];exact Rat.mul_comm _ _⟩ hX0
theorem SqI.fin{c o:Nat→Int}{X:Nat→Nat→Int}{n M:Nat}(h:SqI c X n o)(hX:SqP c M (X 0))(h1:X n=onez 1):o=sqP c:=by
 have e:o=X 0:=funext (FF_inj h.z hX.z fun x=>by rw [← h.eq x,h1,onez_F];grind);rw [e];exact hX.eq
theorem SqI.start{c:Nat→Int}{X:Nat→Nat→Int}(zc:z20 c):SqI c X 0 (onez 1):=⟨onez20,onez_pm.one,⟨FF c,FF_po zc,fun x=>by rw [onez_F];grind⟩,fun x=>by rw [onez_F];grind⟩
/-- A bound of all divisors. -/
def DvB(c:Nat→Int)(M:Nat):Prop:=∀ g,z20 g→gcdN g (lg g)=1→Dv (FF g) (FF c)→Db M g
theorem qb_int{K:Nat}{z:Int}(h:z.natAbs < B4^K)(hK:1≤K):Qb K (z:Rat):=⟨by rw [Rat.num_intCast];exact h,by rw [Rat.den_intCast];exact Nat.lt_of_lt_of_le (by decide) (Nat.pow_le_pow_right (show 0 < B4 by decide) hK)⟩
theorem leo_qt{t:TypeId}{M K:Nat}{x y:Rat}(h:x=y)(hz:Qb K y):AO.le (.box t (qn M x)) (.box t (qn K y)):=by subst h;exact leo_box (qn_tight hz)
theorem Db.fder{K:Nat}{c:Nat→Int}(h:Db K c)(z:z20 c):Db (K+1) (fder c):=fun i=>by
 unfold Go.Proofs.YtapmpcgekdplfaaGreat.fder
 by_cases hi:i+1 < 20
 ·have h1:=h (i+1)
  have e:∀ x:Nat,x*B4=x*10000:=fun _=>rfl
  rw [Int.natAbs_mul,Nat.pow_succ,e];have h2:((c (i+1)).natAbs*(((i+1:Nat):Int)).natAbs)≤(c (i+1)).natAbs*20:=Nat.mul_le_mul_left _ (show i+1≤20 by omega);omega
 ·rw [z (i+1) (by omega)];simp;exact Nat.pow_pos (by decide)
theorem conv_db{a b:Nat→Int}{K L:Nat}(za:z20 a)(ha:Db K a)(hb:Db L b):Db (K+L+1) (conv a b):=by
 have key:∀ j m,m≤20→(cv a b m j).natAbs≤m*B4^(K+L):=by
  intro j m
  induction m with
  | zero=>intro _;exact Nat.zero_le _
  | succ m ih=>
   intro hm;have h1:=ih (by omega);show (cv a b m j+(if m≤j then a m*b (j-m) else 0)).natAbs≤_
   rw [Nat.succ_mul];have h2:(if m≤j then a m*b (j-m) else 0).natAbs≤B4^(K+L):=by
    split
    ·exact Nat.le_of_lt (b4_mul (ha m) (hb (j-m)))
    ·exact Nat.zero_le _
   omega
 have more:∀ j d,cv a b (20+d) j=cv a b 20 j:=by
  intro j d
  induction d with
  | zero=>rfl
  | succ d ih=>
   show cv a b (20+d) j+(if 20+d≤j then a (20+d)*b (j-(20+d)) else 0)=_
   rw [ih,za (20+d) (by omega)];simp
 intro j;have h2:(conv a b j).natAbs≤20*B4^(K+L):=by
  unfold conv
  by_cases hj:j+1≤20
  ·exact Nat.le_trans (key j (j+1) hj) (Nat.mul_le_mul_right _ hj)
  ·obtain ⟨d,hd⟩:∃ d,j+1=20+d:=⟨j+1-20,by omega⟩
   rw [hd,more];exact key j 20 (Nat.le_refl _)
 have h3:=Nat.pow_pos (n:=K+L) (show 0 < B4 by decide);have e:∀ x:Nat,x*B4=x*10000:=fun _=>rfl
 rw [Nat.pow_succ,e];omega
theorem trn_db{w:Nat→Int}{K:Nat}(h:Db K w)(j:Nat):Db K (trn w j):=fun t=>by
 unfold trn;split
 ·exact h t
 ·exact Nat.pow_pos (by decide)
theorem exq_db{w d:Nat→Int}{K L:Nat}(zw:z20 w)(hw:Db K w)(hd:Db L d)(j:Nat):Db (K+L+1) (exq w d j):=conv_db (trn20 zw j) (trn_db hw j) hd
theorem ex_top(q d:Nat→Int):∀ j:Nat,(∃ i,i < j∧q i≠0∧exq q d j=exq q d (i+1)∧upq q j=upq q (i+1))∨(exq q d j=exq q d 0∧upq q j=upq q 0)
 | 0=>Or.inr ⟨rfl,rfl⟩
 | j+1=>by
  by_cases h:q j=0
  ·rcases ex_top q d j with ⟨i,h1,h2,h3,h4⟩ | ⟨h3,h4⟩
   ·exact Or.inl ⟨i,by omega,h2,(exq_skip h).trans h3,(upq_skip h).trans h4⟩
   ·exact Or.inr ⟨(exq_skip h).trans h3,(upq_skip h).trans h4⟩
  ·exact Or.inl ⟨j,by omega,h,rfl,rfl⟩
theorem exq_0(q d:Nat→Int)(t:Nat):exq q d 0 t=0:=conv_l0 (fun i=>trn_z i (Nat.zero_le _)) t
/-! ### Operations that only look at slots may come first -/
section
variable {P:Program} {ops:Array Oper} {Q:Qs} {s:AS} {o:Oper}
def AnyB(P:Program)(ops:Array Oper)(Q:Qs)(n:Nat)(listed:Array Bool)(s:AS):Prop:=∀ B0 w0 a w,Den s B0 w0 a w→wpAny P .any ops (DQ Q B0 w0) n listed a w
theorem bOf{n:Nat}{listed:Array Bool}(h:AnyA P ops Q n listed s):AnyB P ops Q n listed s:=fun B0 w0 a w hd=>any_sound n listed s a w h hd
theorem cAnyB{id:Nat}{l:List Oper}(hm:P.follows .mixedOrders=true)(h:AnyB P l.toArray Q l.length (Array.replicate l.length false) s):AW P (.region id l.toArray true) Q s:=by
 intro B0 w0 a w hd;refine wp_region_any hm ?_;have hd':Den s B0 w0 a {w with drawn:=w.drawn+1}:=by
  obtain ⟨ρ,hc,hn,hdf,hs⟩:=hd;have hK:Keep (Bd ρ B0) w w.drew:=⟨Nat.le_refl _,fun _ _ _=>rfl⟩;exact ⟨ρ,⟨hc.bel.step (Below.refl _ _).drew,hc.b0,fun id v hv=>let ⟨ob,h1,h2⟩:=hc.obj id v hv;⟨ob,h1,h2.mv hK (fun _ _ hB=>hB) (fun _ _=>rfl)⟩,hc.dist⟩,hn,hdf,fun t av ht=>let ⟨v,h1,h2⟩:=hs t av ht;⟨v,h1,AR.mv hK (fun _ _ hB=>hB) (fun _ _=>rfl) h2⟩⟩
 have:=h B0 w0 a _ hd';rwa [show l.length=l.toArray.size from rfl] at this
def EvP(P:Program)(s:AS)(o:Oper)(av:AV):Prop:=∀ (ρ:Rho) (B:BS) (w:World) (a:Act),(∀ x∈o.op.operands,∀ av',geto s x=some av'→AR ρ B w av' (a.eval x))→∃ v,(∀ w',(execOp a.eval o).run P w'= .ok (.value v) w')∧AR ρ B w av v
theorem bTake{n:Nat}{listed:Array Bool}{av:AV}(i:Nat)(hi:ops[i]?=some o)(hs:Region.noSelect ops=true)(hf:Region.free .any ops listed i=true)(hr:(Region.ready .any ops listed).contains i=true)(hP:∀ c s,¬ Q (.panic c) s)(hg:o.guard=none)(hd:dok o.dst s.n=true)(h:EvP P s o av)(k:AnyB P ops Q n (listed.setIfInBounds i true) (s.put o.dst av)):AnyB P ops Q (n+1) listed s:=by
 rintro B0 w0 a w ⟨ρ,hc,hn,hdf,hsl⟩;obtain ⟨v,hv,hav⟩:=h ρ (Bd ρ B0) w a (fun x hx av' hg=>geto_ok hsl hg);refine wpAny_take hi hs hf hr ?_ (Or.inl ⟨by unfold Region.wanted;rw [hg],hv⟩) (k B0 w0 _ w (den_put hc hn hdf hsl hd hav));rintro c a' w' ⟨s',hq,_⟩;exact absurd hq (hP c s')
theorem pMove{x:Operand}{av:AV}(hop:o.op= .move x)(hx:geto s x=some av):EvP P s o av:=fun ρ B w a ho=>⟨a.eval x,fun w'=>by {unfold execOp;rw [hop];rfl},ho x (by rw [hop];simp [Op.operands]) _ hx⟩
theorem pLen{c:Call}{t e:TypeId}{x:Operand}{sz n:Nat}{el:Nat→Nat→Lf}(hop:o.op= .call c)(hc:c.callee= .builtin .len)(ha:c.args.toList= [x])(ht:c.argTypes[0]?=some t)(hu:P.underlying t=some (.slice e))(hx:geto s x=some (.d (.one (.row sz n el)))):EvP P s o (.d (.one (.v (.int .i64 (n:Int))))):=by
 intro ρ B w a ho;obtain ⟨ad,cap,hxe,_⟩:=(ho x (by rw [hop];simp only [Op.operands,Call.operands];exact Array.mem_append.2 (Or.inr (by have:x∈c.args.toList:=(by rw [ha];simp);simpa using this))) _ hx:LfR _ _ _ _);refine ⟨.int .i64 (n:Int),fun w'=>?_,rfl,rfl⟩;have ha':c.args=#[x]:=by rw [← Array.toList_inj];simpa using ha
 unfold execOp;rw [hop];simp [resolve,hc,ha',invoke,builtin,Builtin.len_,ht,hxe,run_underlying hu,goInt]
end
theorem bndK{s:AS}{x:Operand}{k:IntKind}{n d:Nat}(h:ints2 s x=some (k,(n:Int))):bndV s (some x) d=some n:=by
 unfold bndV;simp only [h];show (if 0≤((n:Nat):Int) then some ((n:Nat):Int).toNat else none)=some n
 rw [if_pos (by omega)];rfl
theorem bnd_e{P:Program}{s:AS}{ρ:Rho}{B:BS}{w:World}{a:Act}{x:Operand}{d r y:Nat}{code:BoundsCode}(h:bndV s (some x) d=some r)(hy:r≤y)(hs:∀ av',geto s x=some av'→AR ρ B w av' (a.eval x))(w':World):(Instr.sliceBound (a.eval x) y code).run P w'= .ok r w':=by
 unfold bndV at h;simp only at h;split at h
 ·rename_i k z hx
  split at h
  ·rename_i hz
   cases h
   have he:=ints2_x hx hs;have hzy:0≤z∧z≤(y:Int):=⟨hz,by omega⟩;simp [Instr.sliceBound,he,asIntOf,hzy]
  ·cases h
 ·cases h
theorem pSl3{P:Program}{T:TypeId→Option TI}(hT:TOk P T){o:Oper}{s:AS}{t e:TypeId}{x y y':Operand}{ti te:TI}{sz n h m:Nat}{el:Nat→Nat→Lf}(hop:o.op= .slice t x none (some y) (some y'))(hti:T t=some ti)(he:ti.elem=some e)(hte:T e=some te)(hx:geto s x=some (.d (.one (.row sz n el))))(h6:Nat.beq sz te.n=true)(hhi:bndV s (some y) n=some h)(hmx:bndV s (some y') n=some m)(h1:h≤m)(h2:m≤n):EvP P s o (.d (.one (.row sz h el))):=by
 intro ρ B w a ho;have h6':=Nat.eq_of_beq_eq_true h6;subst h6';obtain ⟨ad,cap,hxe,hn,hnil,hel⟩:=(ho x (by rw [hop];simp [Op.operands]) _ hx:LfR _ _ _ _);obtain ⟨i,z,dd,g1,g2,g3,g4,g5,g6,g7,g8,g9,_⟩:=ti_parts (hT _ _ hti);have:=g9 e he;subst this;obtain ⟨i',zz',dd',k1,k2,k3,k4,_⟩:=ti_parts (hT _ _ hte);have b1:∀ w:World,(Instr.sliceBound (a.eval y') cap .slice3Acap).run P w= .ok m w:=bnd_e hmx (by omega) (ho y' (by rw [hop];simp [Op.operands]))
 have b2:∀ w:World,(Instr.sliceBound (a.eval y) m .slice3B).run P w= .ok h w:=bnd_e hhi h1 (ho y (by rw [hop];simp [Op.operands]))
 have hb:∀ w:World,(Instr.sliceBounds true n cap none (some (a.eval y)) (some (a.eval y'))).run P w= .ok (0,h,m) w:=by
  intro w;simp [Instr.sliceBounds,b1 w,b2 w]
 refine ⟨.slice (if m=0 then ad else ad.map (·.add (0*te.n))) (h-0) (m-0),?_,if m=0 then ad else ad.map (·.add (0*te.n)),m-0,rfl,by omega,fun hnone=>?_,fun q hq=>?_⟩
 ·intro w'
  unfold execOp;rw [hop];refine run_value ?_;rw [hxe];simp only [Instr.sliceAt,Instr.slice,Sem.run_bind,run_underlying g3,Result.andThen_ok,sizeOf,typeInfo,run_program,k1,Sem.run_pure,Option.map_none,Option.map_some];rw [hb w'];simp [k4]
 ·cases ad with
  | none=>have:=hnil rfl;omega
  | some q=>
   by_cases hc':m=0
   ·omega
   ·rw [if_neg hc'] at hnone;cases hnone
 ·have hc':¬ m=0:=by omega
  rw [if_neg hc'];obtain ⟨b,off,rfl,hb1,hb2,hb3⟩:=hel q (by omega);exact ⟨b,off,by simp [add_lit],hb1,hb2,fun j hj=>hb3 j hj⟩
/-! ### A call that answers a row in new memory: it is the frame's own -/
structure ACallR(P:Program)(f:FuncId)(args:List DV)(e:TypeId)(sz n:Nat)(el:Nat→Nat→Lf):Prop where
 en:∀ vs w,(callFunc f vs).run P w= .ok (.enter f vs) w
 go:∀ (B:BS) (w:World) (vs:List Value),(∀ b,B b→b < w.heap.size)→DsR B w args vs→Calls P f vs.toArray w fun r w'=>∃ v,r= .returned v∧Below w.heap.size w w'∧OR (fun b=>B b∨vblk v=some b) ⟨w,fun _=>False⟩ w' (.row e sz n el) v
theorem mCR{P:Program}{ops:Array Oper}{Q:Qs}{o:Oper}{l:List Oper}{s:AS}{c:Call}{f:FuncId}{ds:List DV}{e:TypeId}{sz n d:Nat}{el:Nat→Nat→Lf}(h:ACallR P f ds e sz n el)(hc:callOf o.op=some c)(hf:isF c.callee=some f)(ha:getds s c.args.toList=some ds)(hdst:o.dst=some d)(hfr:lk s.hp d=none) 
  (k:AL P ops Q l (s.mk' d (.row e sz n el))) (hg:gst ops s o=some true:=by rfl) (hd:dok (some d) s.n=true:=by rfl):AL P ops Q (o ::l) s:=by
 rintro B0 w0 a w ⟨ρ,hcr,hn,hdf,hs⟩;obtain ⟨vs,hvs,hr⟩:=run_call (cap:= []) hs hc (isF_fn hf) ha h.en;rw [List.append_nil] at hvs;refine wpl_call (gst_ok hg hs) hr ((h.go (Bd ρ B0) w vs hcr.bdlt hvs).mono ?_);rintro r w' ⟨v,rfl,hb,xs,hown,hel⟩;refine ⟨v,rfl,?_⟩;have hρ:ρ d=none:=by
  cases hρ:ρ d with
  | none=>rfl
  | some u=>obtain ⟨ob',h1,_⟩:=hcr.obj d u hρ;rw [hfr] at h1;cases h1
 have hv:∀ b,vblk v=some b→w.heap.size≤b:=fun b e=>(hown.2 b e).elim id (fun h=>h.elim)
 have hB:∀ b,Bd (up ρ d v) B0 b→Bd ρ B0 b∨vblk v=some b:=by
  rintro b (h1 | ⟨id,u,h1,h2⟩)
  ·exact Or.inl (Or.inl h1)
  ·unfold up at h1
   split at h1
   ·cases h1;exact Or.inr h2
   ·exact Or.inl (Or.inr ⟨id,u,h1,h2⟩)
 have ho':OR (Bd (up ρ d v) B0) w0 w' (.row e sz n el) v:=⟨xs,⟨hown.1,fun b hb=>Or.inl (Nat.le_trans hcr.bel.size (hv b hb))⟩,fun i j hi hj=>let ⟨x,hx,hl⟩:=hel i j hi hj;⟨x,hx,LfR.mv ⟨Nat.le_refl _,fun _ _ _=>rfl⟩ (fun b _ hb=>hB b hb) _ hl⟩⟩;have hc':Core (up ρ d v) B0 w0 w' ((d,.row e sz n el) ::s.hp):=hcr.new hρ hb hv (fun k ob hk hne=>by rw [lk_cons,if_neg (fun e=>hne e.symm)];exact hk) (by rw [lk_cons,if_pos rfl]) ho';have hs':Slots (up ρ d v) (Bd (up ρ d v) B0) w' s.sl a:=fun t av ht=>let ⟨u,h1,h2⟩:=hs t av ht;⟨u,h1,h2.new hρ hb hv⟩
 refine k B0 w0 _ w' ?_;rw [hdst];exact ⟨_,hc',(by show (a.tmps.setIfInBounds d v).size=s.n;simpa using hn),hdf,slots_put hs' hn (Nat.le_of_ble_eq_true hd) (AO.av_ok ho' (by simp [up]))⟩
/-- The post of a function's body that answers its own row. -/
def RetR(t:Nat)(r:AO):Qs
 | .normal,s | .ret,s=>∃ id ob,lk s.sl t=some (.own id)∧lk s.hp id=some ob∧AO.le ob r
 | _,_=>False
theorem rR{t:Nat}{r:AO}{s:AS}(id:Nat){ob:AO}(h:lk s.sl t=some (.own id))(k:lk s.hp id=some ob)(hl:AO.le ob r):RetR t r .ret s:=⟨id,ob,h,k,hl⟩
theorem acallR{P : Program}{T : TypeId → Option TI}(hT : TOk P T){f : FuncId}{fn : Func}{c : Code}{args : List DV}{e : TypeId}{sz m : Nat}{el : Nat → Nat → Lf}(n t : Nat)(hf : P.funcs[f]? = some fn)(hb : fn.body = some c)(hnm : (fn.name == "runtime.NumGoroutine") = false)(hn : fn.ntmps = n)(hrs : fn.results.toList = [.tmp t])(hlen : Nat.ble args.length n = true) 
  (h:AW P c (RetR t (.row e sz m el)) ⟨n,params 0 args,[]⟩):ACallR P f args e sz m el:=by
 subst hn;refine ⟨fun vs w=>?_,fun B w vs hB hvs=>?_⟩
 ·have hnm' : ¬ fn.name = "runtime.NumGoroutine" := by simpa using hnm
  simp [callFunc,hf,hb,hnm']
 ·refine calls_of_wp hf hb ?_
  have hle:=Nat.le_of_ble_eq_true hlen;have hvl:=hvs.len;have hden:Den ⟨fn.ntmps,params 0 args,[]⟩ B ⟨w,fun _=>False⟩ {tmps:=vs.toArray ++Array.replicate (fn.ntmps-vs.toArray.size) undef,defers:= []} w:=by
   have hBd:∀ b,b < w.heap.size→Bd (fun _=>none) B b→B b:=by
    rintro b _ (h | ⟨_,_,h,_⟩)
    ·exact h
    ·cases h
   refine ⟨fun _=>none,⟨Bel.refl _ _,(fun b hb=>⟨hB b hb,fun h=>h⟩),(fun _ _ h=>by cases h),(fun _ _ _ _ _ h=>by cases h)⟩,by simp;omega,rfl,fun t av ht=>?_⟩;have hvs':DsR (Bd (fun _=>none) B) w args vs:=hvs.mv ⟨Nat.le_refl _,fun _ _ _=>rfl⟩ hBd;obtain ⟨k,v,h1,h2,h3⟩:=params_lk (ρ:=fun _=>none) hvs' ht;refine ⟨v,?_,h3⟩;have hk:=(List.getElem?_eq_some_iff.1 h2).1;rw [h1,Nat.zero_add,Array.getElem?_append_left (by simpa using hk)];simpa using h2
  refine Code.wp_mono (fun e' a w' hq=>?_) (h B ⟨w,fun _=>False⟩ _ w hden);obtain ⟨s',hq,ρ,hc,hn,hdf,hs⟩:=hq;have fin:(∃ id ob,lk s'.sl t=some (.own id)∧lk s'.hp id=some ob∧AO.le ob (.row e sz m el))→∃ v,(results fn a.tmps).run P w'= .ok v w'∧∃ u,Ending.returned v= .returned u∧Below w.heap.size w w'∧OR (fun b=>B b∨vblk u=some b) ⟨w,fun _=>False⟩ w' (.row e sz m el) u:=by
   rintro ⟨id,ob,h1,h2,h3⟩;obtain ⟨v,h4,h5,_⟩:=hs t _ h1;obtain ⟨ob',h6,h7⟩:=hc.obj id v h5;rw [h2] at h6;cases h6
   have h8:=h3 _ _ _ _ h7;refine ⟨resV [v],run_results ?_,v,rfl,hc.bel.below (fun _ h=>h),h8.mv ⟨Nat.le_refl _,fun _ _ _=>rfl⟩ (fun b _ hb=>?_) (fun _ _=>rfl)⟩
   ·rw [hrs]
    have hv:(rvF a.tmps (.tmp t)).run P w'= .ok v w':=by simp [rvF,Array.getD_eq_getD_getElem?,h4]
    rw [List.mapM_cons,Sem.run_bind,hv,Result.andThen_ok];rfl
   ·rcases hb with hb | hb
    ·exact Or.inl hb
    ·exact Or.inr ⟨id,v,h5,hb⟩
  cases e' with
  | normal=>obtain ⟨v,h1,h2⟩:=fin hq;exact ⟨hdf,v,h1,h2⟩
  | ret=>obtain ⟨v,h1,h2⟩:=fin hq;exact ⟨hdf,v,h1,h2⟩
  | exit id=>exact hq.elim
  | goto l=>exact hq.elim
  | panic ch=>exact hq.elim
  | outgrown=>exact hq.elim
section
variable {P:Program} {ops:Array Oper} {Q:Qs} {s:AS}
theorem anyV{n:Nat}{listed:Array Bool}{s':AS}(h:AnyA P ops Q (n+1) listed s')(r:Nat)(rs:List Nat)(hr:Region.ready .any ops listed=r ::rs)(hw:Wk s s'):AnyA P ops Q (n+1) listed s:=anyW hr hw h
end
theorem dg_scl{d:Nat→Int}{z:Int}(zd:z20 d)(h0:lg d≠0)(hz:z≠0):dg (fsclQ (rc d) ((z:Int):Rat)) (lg d)=lg d:=dg_stop (Or.inr (by
 show ((d (lg d-1):Int):Rat)*((z:Int):Rat)≠0
 intro e
 rcases Rat.mul_eq_zero.1 e with e | e
 ·exact rc_ne (lg_ne h0) e
 ·exact rc_ne hz e))
theorem conv_mz(x:Int)(i:Nat){d:Nat→Int}{n:Nat}(h:∀ t,n≤t→d t=0):∀ t,i+n≤t→conv (mnm x i) d t=0:=fun t ht=>by
 rw [conv_mnm,if_pos (by omega),h (t-i) (by omega),Int.mul_zero]
theorem shq_le{K M X i n:Nat}{x:Int}{d:Nat→Int}(h1:K≤X)(h2:M≤X):∀ t,t < i+n→∀ j,j < 4→∀ B w v,LfR B w (appEl i (qel K (fun _=>0)) (qel M (fsclQ (rc d) ((x:Int):Rat))) t j) v→LfR B w (qel X (rc (conv (mnm x i) d)) t j) v:=fun t ht j hj B w v hv=>by
 unfold appEl at hv
 by_cases hti:t < i
 ·rw [show Nat.ble (t+1) i=true from Nat.ble_eq_true_of_le hti] at hv
  exact qel_le (n:=t+1) (c:=fun _=>0) h1 (fun p hp=>by show (0:Rat)=((conv (mnm x i) d p:Int):Rat);rw [conv_mnm,if_neg (by omega)];rfl) t (by omega) j hj B w v hv
 ·rw [show Nat.ble (t+1) i=false from by rw [← Bool.not_eq_true,Nat.ble_eq];omega] at hv
  have e:qel M (fsclQ (rc d) ((x:Int):Rat)) (t-i) j=qel M (rc (conv (mnm x i) d)) t j:=by
   have e2:fsclQ (rc d) ((x:Int):Rat) (t-i)=rc (conv (mnm x i) d) t:=by
    show ((d (t-i):Int):Rat)*((x:Int):Rat)=((conv (mnm x i) d t:Int):Rat)
    rw [conv_mnm,if_pos (by omega),Rat.intCast_mul];exact Rat.mul_comm _ _
   unfold qel;rw [e2]
  rw [show (bif false then qel K (fun _=>0) t j else qel M (fsclQ (rc d) ((x:Int):Rat)) (t-i) j)=qel M (rc (conv (mnm x i) d)) t j from e] at hv;exact qel_le (n:=t+1) h2 (fun _ _=>rfl) t (by omega) j hj B w v hv
theorem sub_le{K KC N i:Nat}{q d:Nat→Int}(zi:z20 (exq q d i))(bi:Db KC (exq q d i))(hK:1≤KC)(hN:∀ t,N≤t→exq q d i t=0):AV.le (.d (.one (qrow K (dg (faddQ (rc (exq q d (i+1))) (fsclQ (rc (conv (mnm (q i) i) d)) ((-1:Int):Rat))) N) (faddQ (rc (exq q d (i+1))) (fsclQ (rc (conv (mnm (q i) i) d)) ((-1:Int):Rat)))))) (.d (.one (qrow KC (lg (exq q d i)) (rc (exq q d i))))):=by
 have e:faddQ (rc (exq q d (i+1))) (fsclQ (rc (conv (mnm (q i) i) d)) ((-1:Int):Rat))=rc (exq q d i):=funext fun t=>by
  show ((exq q d (i+1) t:Int):Rat)+((conv (mnm (q i) i) d t:Int):Rat)*((-1:Int):Rat)=((exq q d i t:Int):Rat)
  rw [exq_succ,Rat.intCast_add,show ((-1:Int):Rat)= -1 from rfl];grind
 rw [e];exact le_dg_t (lg_dg2 hN zi) hK bi
theorem aQDiv{K L Kq KC:Nat}{c d q:Nat→Int}(zc:z20 c)(zd:z20 d)(hc19:lg c≤19)(h0:lg d≠0)(zq:z20 q)(bq:Db Kq q)(hq:∀ i,conv q d i=c i)(hKC:Kq+L+1≤KC)(hK:K≤KC)(h64:64≤KC)(hq1:1≤Kq)(hC:KC≤1000000:=by omega):ACall Tryz.prog 122 [.one (qrow K (lg c) (rc c)),.one (qrow L (lg d) (rc d))] (.tup [.one (qrow Kq (lg q) (rc q)),.one (qrow KC (lg (exq q d 0)) (rc (exq q d 0)))]):=by
 refine ACall.fact10 (enters Tryz.func122 rfl rfl) (p:=Db K c∧Db L d) (fun B w vs h=>match vs,h with | [_,_],⟨h1,h2,_⟩=>⟨qrow_bd zc.lg h1,qrow_bd zd.lg h2⟩) (fun hb=>?_);obtain ⟨hbc,hbd⟩:=hb;refine aN 84 [.tmp 4,.tmp 5] Tryz.func122 rfl<|cR<|mv2 rfl rfl<|mT<|cSeq ?_;have hlc:=lg_le c;have hld:=lg_le d;obtain ⟨hlq,hq0⟩:=quo_lg zq zd zc hq h0;have hce:c=exq q d (lg q):=by unfold exq;rw [trn_all zq.lg];exact (funext hq).symm
 refine cReg<|mv4 rfl rfl rfl rfl<|mV hTT (.d (.one (.v (.int .i64 ((lg c:Int)-(lg d:Int)))))) (evi (wr64 (by omega) (by omega)))<|mV hTT (.d (.one (.v (.int .i64 ((lg c:Int)-(lg d:Int)+1))))) (evi (wr64 (by omega) (by omega))) ?_;refine mV hTT (.d (.one (.v (.int .i64 ((lg q:Nat):Int))))) (evi (by rw [if_pos rfl];split <;> omega)) ?_;refine mN hTT (.row 49 4 (lg q) (fun _ j=> .v ((([Value.slice none 0 0,Value.bool false,Value.slice none 0 0,Value.bool false]:List Value)[j]?).getD undef))) (mkO (zl:=((lg q:Nat):Int)) (zc:=((lg q:Nat):Int)) (bts:=64) rfl rfl rfl rfl rfl (by omega) (by omega) rfl rfl rfl (by omega) (by omega) rfl) rfl rfl<|mW rfl<|mT<|cSeq<|cR<|mv3 rfl rfl rfl<|mT<|cBlock<|cLoop (ι:=Nat) (fun (i:Nat)=>⟨84,[(0,.d (.one (.row 4 (lg c) (qel K (rc c))))),(1,.d (.one (.row 4 (lg d) (qel L (rc d))))),(6,.own 19),(21,.d (.one (.v (.int .i64 ((lg q:Nat):Int))))),(22,.d (.one (.v (.int .i64 ((i:Nat):Int)))))],[(19,.row 49 4 (lg q) (qpre 64 i (fun _=>0) (fun j=> .v ((([Value.slice none 0 0,Value.bool false,Value.slice none 0 0,Value.bool false]:List Value)[j]?).getD undef))))]⟩) (fun (i:Nat)=>i≤lg q) (fun (i:Nat)=>lg q-i) 0 (Nat.zero_le _) (wk rfl ⟨hs rfl,hs rfl,hs rfl,hs rfl,hs' rfl (le_int rfl),trivial⟩ ⟨ho' rfl (leo_pre0),trivial⟩ rfl) ?_;rintro i hI;have hi:i≤lg q:=hI;show AW _ _ _ ⟨_,_,_⟩
 refine cR<|mW rfl<|mT<|cSeq<|cCond rfl (fun hc1=>?_) (fun hc1=>?_)
 ·refine cSkip<|tN<|cSeq<|cBlock<|cSeq ?_;have hin:i < lg q:=by have h0:=of_decide_eq_true hc1;omega
  exact cReg<|mv2 rfl rfl<|mT<|cReg<|mv2 rfl rfl<|mY (aQZero) rfl<|mV hTT (.eptr 19 4 i 0) (ixO (z:=((i:Nat):Int)) (n:=(lg q)) rfl rfl rfl rfl rfl rfl rfl (by omega) (by omega))<|mZ rfl<|mNil<|bN<|tN<|cReg<|mv2 rfl rfl<|mNil<|⟨(i+1),by omega,by omega,wk rfl ⟨hs rfl,hs rfl,hs rfl,hs rfl,hs' rfl (le_int (inc64 (by omega))),trivial⟩ ⟨ho' rfl (st_pre (Nat.le_refl _) rfl),trivial⟩ rfl⟩
 ·refine cExit<|tE<|tE<|bE<|tN<|cSeq<|cBlock ?_;have hie:lg q=i:=by have h0:=of_decide_eq_false hc1;omega
  subst hie;refine wK [6,1,0] [19] rfl rfl<|wB [6,1,0] [] 19 (.row 49 4 (lg q) (qel KC (rc (upq q (lg q))))) rfl rfl (leo_pre (Kf:=fun _=>KC) (d:=rc (upq q (lg q))) (fun _ _=>by omega) (fun p hp=>by show (0:Rat)=((upq q (lg q) p:Int):Rat);rw [show upq q (lg q) p=0 from if_pos hp];rfl)) rfl<|cLoop (ι:=Nat) (fun (j:Nat)=>⟨84,[(0,.d (.one (.row 4 (lg (exq q d j)) (qel KC (rc (exq q d j)))))),(1,.d (.one (.row 4 (lg d) (qel L (rc d))))),(6,.own 19)],[(19,.row 49 4 (lg q) (qel KC (rc (upq q j))))]⟩) (fun (j:Nat)=>j≤lg q) (fun (j:Nat)=>j) (lg q) (Nat.le_refl _) (wk rfl ⟨hs' rfl (AV.le.trans (le_qrow_t (by omega) (hbc.mono hK)) (AV.of_eq (by rw [← hce];rfl))),hs rfl,hs rfl,trivial⟩ ⟨ho rfl,trivial⟩ rfl) ?_;rintro j hI;have hj:j≤lg q:=hI;show AW _ _ _ ⟨_,_,_⟩
  refine cSeq<|cSeq ?_;rcases ex_top q d j with ⟨i,hij,hqi,he,hu⟩ | ⟨he,hu⟩
  ·have hcc:=hq0 (by omega);have hlz:=exq_lg (w:=q) (i:=i) zd h0 (by omega) hqi;have htop:exq q d (i+1) (lg d+i-1)=q i*d (lg d-1):=by rw [show lg d+i-1=lg d-1+i by omega];exact exq_top zd.lg h0
   have hdt:=lg_ne h0;have bi:Db KC (exq q d i):=(exq_db zq bq hbd i).mono hKC;have bqi:Db KC q:=bq.mono (by omega);have zi:=exq20 (w:=q) (j:=i) zd.lg h0 (by omega);have zj:=exq20 (w:=q) (j:=i+1) zd.lg h0 (by omega);refine cView 0 (.d (.one (.row 4 (lg (exq q d (i+1))) (qel KC (rc (exq q d (i+1))))))) rfl (AV.of_eq (by rw [he]))<|wB [6,1,0] [] 19 (.row 49 4 (lg q) (qel KC (rc (upq q (i+1))))) rfl rfl (AO.of_eq (by rw [hu])) rfl<|cReg<|mv4 rfl rfl rfl rfl<|mdT rfl (by omega)<|mT<|cT rfl<|cSkip<|tN<|cBlock<|cR<|mv4 rfl rfl rfl rfl<|mV hTT (.d (.one (.v (.int .i64 ((i:Nat):Int))))) (evi ((wr64 (by omega) (by omega)).trans (by omega)))<|mW rfl<|mT<|cSeq<|cDk 14<|.cons (OpS.V _ rfl)<|.cons (OpS.V _ rfl)<|oV rfl<|.cons (OpS.V (.d (.one (.v (.int .i64 ((lg d+i-1:Nat):Int))))) (evi ((wr64 (by omega) (by omega)).trans (by omega))))<|.cons (OpS.V (.d (.one (.at 4 ((qel KC (rc (exq q d (i+1)))) (lg d+i-1))))) (ixR (el:=(qel KC (rc (exq q d (i+1))))) (z:=((lg d+i-1:Nat):Int)) (n:=(lg (exq q d (i+1)))) rfl rfl rfl rfl rfl rfl (by omega) (by omega))) ?_;refine oV rfl<|.cons (OpS.V _ rfl)<|.cons (OpS.V _ rfl)<|oV rfl<|.cons (OpS.V (.d (.one (.v (.int .i64 ((lg d-1:Nat):Int))))) (evi ((wr64 (by omega) (by omega)).trans (by omega))))<|.cons (OpS.V (.d (.one (.at 4 ((qel L (rc d)) (lg d-1))))) (ixR (el:=(qel L (rc d))) (z:=((lg d-1:Nat):Int)) (n:=(lg d)) rfl rfl rfl rfl rfl rfl (by omega) (by omega))) ?_;refine oV rfl<|oC (aRQuoR (isq KC ((rc (exq q d (i+1))) (lg d+i-1))) (isq L ((rc d) (lg d-1))) (rc_ne hdt) (M:=(max (KC+L+1) 64))) rfl<|.cons (OpS.N (.box 49 ([.v (.slice none 0 0),.v (.bool false),.v (.slice none 0 0),.v (.bool false)])) rfl 9 rfl rfl)<|.nil<|mZ rfl<|mT<|cSeq<|wB [9,52,51,50,49,48,47,46,45,44,43,42,41,40,8,39,38,37,36,35,34,33,32,31,30,6,1,0] [19] 9 (.box 49 (qn KC (rc q i))) rfl rfl (leo_qt (by show ((exq q d (i+1) (lg d+i-1):Int):Rat) / ((d (lg d-1):Int):Rat)=((q i:Int):Rat);rw [htop,Rat.intCast_mul];have hn:=rc_ne hdt;grind) (qb_int (bqi i) (by omega))) rfl ?_;refine cReg<|mv3 rfl rfl rfl<|mV hTT (.eptr 19 4 i 0) (ixO (z:=((i:Nat):Int)) (n:=(lg q)) rfl rfl rfl rfl rfl rfl rfl (by omega) (by omega))<|mZ rfl<|mT<|cSeq<|wB [56,55,54,53,9,52,51,50,49,48,47,46,45,44,43,42,41,40,8,39,38,37,36,35,34,33,32,31,30,6,1,0] [9] 19 (.row 49 4 (lg q) (qel KC (rc (upq q i)))) rfl rfl (st_q (Kf:=fun _=>KC) (Lf':=fun _=>KC) (fun _ _ _=>Nat.le_refl _) (Nat.le_refl _) (congrArg (fun z:Int=>(z:Rat)) (upq_at q i)) (fun p _ hp=>congrArg (fun z:Int=>(z:Rat)) (upq_ne hp))) rfl ?_;refine cReg<|mW rfl<|mN hTT (.row 49 4 i (fun _ j=> .v ((([Value.slice none 0 0,Value.bool false,Value.slice none 0 0,Value.bool false]:List Value)[j]?).getD undef))) (mkO (zl:=((i:Nat):Int)) (zc:=((i:Nat):Int)) (bts:=64) rfl rfl rfl rfl rfl (by omega) (by omega) rfl rfl rfl (by omega) (by omega) rfl) rfl rfl<|mW rfl<|mT<|cSeq<|cR<|mv3 rfl rfl rfl<|mT<|cBlock<|cLoop (ι:=Nat) (fun (k:Nat)=>⟨84,[(0,.d (.one (.row 4 (lg (exq q d (i+1))) (qel KC (rc (exq q d (i+1))))))),(1,.d (.one (.row 4 (lg d) (qel L (rc d))))),(6,.own 19),(8,.d (.one (.v (.int .i64 ((i:Nat):Int))))),(9,.ptr 9 0),(10,.own 58),(60,.d (.one (.v (.int .i64 (i:Int))))),(61,.d (.one (.v (.int .i64 ((k:Nat):Int)))))],[(9,.box 49 (qn KC (rc q i))),(19,.row 49 4 (lg q) (qel KC (rc (upq q i)))),(58,.row 49 4 i (qpre 64 k (fun _=>0) (fun j=> .v ((([Value.slice none 0 0,Value.bool false,Value.slice none 0 0,Value.bool false]:List Value)[j]?).getD undef))))]⟩) (fun (k:Nat)=>k≤i) (fun (k:Nat)=>i-k) 0 (Nat.zero_le _) (wk rfl ⟨hs rfl,hs rfl,hs rfl,hs rfl,hs rfl,hs rfl,hs rfl,hs' rfl (le_int rfl),trivial⟩ ⟨ho rfl,ho rfl,ho' rfl (leo_pre0),trivial⟩ rfl) ?_;rintro k hI;have hk:k≤i:=hI;show AW _ _ _ ⟨_,_,_⟩
   refine cR<|mW rfl<|mT<|cSeq<|cCond rfl (fun hc2=>?_) (fun hc2=>?_)
   ·refine cSkip<|tN<|cSeq<|cBlock<|cSeq ?_;have hkn:k < i:=by have h0:=of_decide_eq_true hc2;omega
    exact cReg<|mv2 rfl rfl<|mT<|cReg<|mv2 rfl rfl<|mY (aQZero) rfl<|mV hTT (.eptr 58 4 k 0) (ixO (z:=((k:Nat):Int)) (n:=i) rfl rfl rfl rfl rfl rfl rfl (by omega) (by omega))<|mZ rfl<|mNil<|bN<|tN<|cReg<|mv2 rfl rfl<|mNil<|⟨(k+1),by omega,by omega,wk rfl ⟨hs rfl,hs rfl,hs rfl,hs rfl,hs rfl,hs rfl,hs rfl,hs' rfl (le_int (inc64 (by omega))),trivial⟩ ⟨ho rfl,ho rfl,ho' rfl (st_pre (Nat.le_refl _) rfl),trivial⟩ rfl⟩
   ·refine cExit<|tE<|tE<|bE<|tN ?_;have hke:i=k:=by have h0:=of_decide_eq_false hc2;omega
    subst hke;refine wK [10,9,6,1,0] [58,19,9] rfl rfl<|wB [10,9,6,1,0] [19,9] 58 (.row 49 4 i (qel KC (fun _=>0))) rfl rfl (leo_pre (Kf:=fun _=>KC) (d:=fun _=>0) (fun _ _=>by omega) (fun _ _=>rfl)) rfl<|cAnyB (by kernel_rfl)<|bTake 0 rfl (by kernel_rfl) (by kernel_rfl) (by kernel_rfl) (fun _ _ h=>h) rfl rfl (av:= .d (.one (.row 4 (lg (exq q d (i+1))) (qel KC (rc (exq q d (i+1))))))) (pMove rfl rfl)<|bTake 1 rfl (by kernel_rfl) (by kernel_rfl) (by kernel_rfl) (fun _ _ h=>h) rfl rfl (av:= .d (.one (.row 4 (lg (exq q d (i+1))) (qel KC (rc (exq q d (i+1))))))) (pMove rfl rfl)<|bTake 2 rfl (by kernel_rfl) (by kernel_rfl) (by kernel_rfl) (fun _ _ h=>h) rfl rfl (av:= .d (.one (.v (.int .i64 ((lg (exq q d (i+1)):Nat):Int))))) (pLen rfl rfl rfl rfl Tryz.underlying43 rfl)<|bTake 3 rfl (by kernel_rfl) (by kernel_rfl) (by kernel_rfl) (fun _ _ h=>h) rfl rfl (av:= .d (.one (.row 4 (lg (exq q d (i+1))) (qel KC (rc (exq q d (i+1))))))) (pMove rfl rfl)<|bTake 4 rfl (by kernel_rfl) (by kernel_rfl) (by kernel_rfl) (fun _ _ h=>h) rfl rfl (av:= .d (.one (.v (.int .i64 ((lg (exq q d (i+1)):Nat):Int))))) (pLen rfl rfl rfl rfl Tryz.underlying43 rfl)<|bTake 5 rfl (by kernel_rfl) (by kernel_rfl) (by kernel_rfl) (fun _ _ h=>h) rfl rfl (av:= .d (.one (.row 4 (lg (exq q d (i+1))) (qel KC (rc (exq q d (i+1))))))) (pSl3 hTT (h:=(lg (exq q d (i+1)))) (m:=(lg (exq q d (i+1)))) rfl rfl rfl rfl rfl rfl (bndK rfl) (bndK rfl) (by omega) (by omega))<|bTake 6 rfl (by kernel_rfl) (by kernel_rfl) (by kernel_rfl) (fun _ _ h=>h) rfl rfl (av:= .own 58) (pMove rfl rfl)<|bTake 7 rfl (by kernel_rfl) (by kernel_rfl) (by kernel_rfl) (fun _ _ h=>h) rfl rfl (av:= .d (.one (.row 4 (lg d) (qel L (rc d))))) (pMove rfl rfl)<|bOf<|anyS [8] (by kernel_rfl) rfl ?_;refine ⟨⟨_,rfl,?_⟩,trivial⟩;refine mW rfl<|mT<|anyS [9] (by kernel_rfl) rfl ?_;refine ⟨⟨_,rfl,?_⟩,trivial⟩;refine mY (aQScale (isqp (K:=L) (c:=(rc d)) (rc_z zd.lg)) (isq KC (rc q i)) (M:=(max ((L+KC)+1) 64))) rfl<|mT<|anyS [10] (by kernel_rfl) rfl ?_;refine ⟨⟨_,rfl,?_⟩,trivial⟩;refine mView 78 (.d (.one (.row 4 (lg d) (qel (max ((L+KC)+1) 64) (fsclQ (rc d) (rc q i)))))) rfl (le_qrow (Nat.le_refl _) (dg_scl zd h0 hqi) (fun _ _=>rfl))<|mA hTT (id:=58) (n:=i) (m:=(lg d)) (el:=(qel KC (fun _=>0))) (el2:=(qel (max ((L+KC)+1) 64) (fsclQ (rc d) (rc q i)))) rfl rfl rfl (by show (i+(lg d))*64≤140737488355328;omega) (by omega) rfl rfl rfl rfl rfl rfl rfl rfl rfl rfl<|mT<|anyS [11] (by kernel_rfl) rfl ?_;refine ⟨⟨_,rfl,?_⟩,trivial⟩;refine AL.wk (wkRow 58 rfl)<|mView 79 (.d (.one (.row 4 (i+lg d) (qel (KC+L+70) (rc (conv (mnm (q i) i) d)))))) rfl (le_one (row_le (shq_le (by omega) (by omega))))<|mY (aQSub (isqp (K:=KC) (c:=(rc (exq q d (i+1)))) (rc_z (exq20 zd.lg h0 (by omega)).lg)) (isqp (K:=(KC+L+70)) (c:=(rc (conv (mnm (q i) i) d))) (rc_z (conv_mz (q i) i zd.lg))) (M:=(((max KC 64)+(max ((KC+L+70)+65) 64))+1))) rfl<|mT<|anyS [12] (by kernel_rfl) rfl ?_;refine ⟨⟨_,rfl,?_⟩,trivial⟩;exact mW rfl<|mT<|anyN (by kernel_rfl)<|bN<|⟨i,by omega,by omega,wk rfl ⟨hs' rfl (sub_le zi bi (by omega) (fun t ht=>exq_z zd.lg h0 t (by omega))),hs rfl,hs rfl,trivial⟩ ⟨ho rfl,trivial⟩ rfl⟩
  ·have hz0:lg (exq q d j)=0:=by rw [he];exact (lg_zero (exq20 zd.lg h0 (by omega))).2 (exq_0 q d)
   exact cReg<|mv4 rfl rfl rfl rfl<|mdF rfl (by omega)<|mT<|cF rfl<|cExit<|tE<|tE<|bE<|tN<|cSeq<|wK [6,0] [19] rfl rfl<|cView 0 (.d (.one (.row 4 (lg (exq q d 0)) (qel KC (rc (exq q d 0)))))) rfl (AV.of_eq (by rw [he]))<|wB [6,0] [] 19 (.row 49 4 (lg q) (qel KC (rc q))) rfl rfl (AO.of_eq (by rw [hu,upq_0])) rfl<|AW.wk (wkRow 19 rfl)<|cReg<|mW rfl<|mY aQCut rfl<|mv3 rfl rfl rfl<|mT<|cRet<|rQ rfl (le_tup (dl (dle (le_dg_t (lg_dg2 zq.lg zq) hq1 bq)) (dl DV.same dl0)))
def elQ(K:Nat)(L:List (Nat→Int)):Nat→Nat→Lf:=fun i _=>qrow K (lg (gl L i)) (rc (gl L i))
def qlr(K:Nat)(L:List (Nat→Int)):Lf:= .row 1 L.length (elQ K L)
theorem leo_qapp{e:TypeId}{K n:Nat}{L:List (Nat→Int)}{b:Nat→Int}{el2:Nat→Nat→Lf}(hn:n=L.length)(h2:el2 0 0=qrow K (lg b) (rc b)):AO.le (.row e 1 (n+1) (appEl n (elQ K L) el2)) (.row e 1 (L ++ [b]).length (elQ K (L ++ [b]))):=by
 subst hn;rw [show (L ++ [b]).length=L.length+1 from by rw [List.length_append];rfl];refine leo_row fun i hi j hj B w v hv=>?_
 obtain rfl:j=0:=by omega
 unfold appEl at hv
 by_cases h:i < L.length
 ·rw [show Nat.ble (i+1) L.length=true from Nat.ble_eq_true_of_le h] at hv
  unfold elQ;rw [gl_app h];exact hv
 ·obtain rfl:i=L.length:=by omega
  rw [show Nat.ble (L.length+1) L.length=false from by rw [← Bool.not_eq_true,Nat.ble_eq];omega,Nat.sub_self] at hv;unfold elQ;rw [gl_last,← h2];exact hv
theorem leo_qone{e:TypeId}{K:Nat}{b:Nat→Int}{el2:Nat→Nat→Lf}(h2:el2 0 0=qrow K (lg b) (rc b)):AO.le (.row e 1 1 el2) (.row e 1 [b].length (elQ K [b])):=leo_row fun i hi j hj B w v hv=>by
 obtain rfl:i=0:=by omega
 obtain rfl:j=0:=by omega
 rw [h2] at hv;exact hv
theorem der_le{X L:Nat}{c:Nat→Int}(z:z20 c)(hL:1≤L)(h:Db L (fder c)):AV.le (.d (.one (qrow X (dg (derE (rc c)) (lg c-1)) (derE (rc c))))) (.d (.one (qrow L (lg (fder c)) (rc (fder c))))):=by
 have e:derE (rc c)=rc (fder c):=funext (rc_der1 c);rw [e];exact le_dg_t (lg_dg2 (fder_z z.lg) (z20_der z)) hL h
theorem onez_db{K:Nat}(hK:1≤K):Db K (onez 1):=fun i=>by
 have h:1 < B4^K:=Nat.lt_of_lt_of_le (by decide) (Nat.pow_le_pow_right (show 0 < B4 by decide) hK);unfold onez;split
 ·exact h
 ·exact Nat.lt_of_le_of_lt (Nat.zero_le _) h
theorem of1_le{K:Nat}(hK:1≤K):AV.le (.d (.one (qrow 64 (dg (rc (lst [1])) 1) (rc (lst [1]))))) (.d (.one (qrow K (lg (onez 1)) (rc (onez 1))))):=by
 have e:lst [1]=onez 1:=funext fun i=>by
  cases i with
  | zero=>rfl
  | succ i=>rw [onez_z (i+1) (by omega)];exact lst_z (i+1) (by simp)
 rw [e];exact AV.le.trans (le_qrow (Nat.le_refl _) (by rw [onez_lg];rfl) (fun _ _=>rfl)) (le_qrow_t hK (onez_db hK))
section
variable {c:Nat→Int} {M:Nat} {Rs:List (Nat→Int)}
theorem FcI.b(h:FcI c Rs)(hB:DvB c M)(i:Nat)(hi:i < Rs.length):Db M (gl Rs i):=hB _ (h.z i) (h.pm i hi).one (h.dv i hi)
/-- The squarefree parts on the way. -/
theorem FcE.x(h:FcE c Rs)(hB:DvB c M)(i:Nat)(hi:i < Rs.length):z20 (sqP (gl Rs i))∧Pm (lg (sqP (gl Rs i))) (sqP (gl Rs i))∧Db M (sqP (gl Rs i))∧lg (sqP (gl Rs i))≤lg c:=by
 obtain ⟨N,k⟩:=h.sq i hi;have h1:=(lg_dv (h.z i) k.z (h.pm i hi).pos k.dv).2;have:=h.l i;exact ⟨k.z,k.pm,hB _ k.z k.pm.one (k.dv.trans (h.dv i hi)),by omega⟩
theorem FcE.f(h:FcE c Rs)(hB:DvB c M)(h10:lg c≤10)(i:Nat)(hi:i+2 < Rs.length):z20 (facF Rs i)∧Pm (lg (facF Rs i)) (facF Rs i)∧Db M (facF Rs i)∧∀ j,conv (facF Rs i) (sqP (gl Rs (i+1))) j=sqP (gl Rs i) j:=by
 obtain ⟨h1,h2,h3,h4⟩:=facF_ok h h10 i hi;exact ⟨h1,h2,hB _ h1 h2.one h4,h3⟩
theorem FcI.e(h:FcI c Rs)(zc:z20 c)(h2:2≤lg c)(h10:lg c≤10)(hl:lg (gl Rs (Rs.length-1))≤1):∃ Es,Es=Rs ++ [onez 1]∧FcE c Es∧(Sqf (FF c) (FF (fder c))→Es.length≤3)∧3≤Es.length:=by
 refine ⟨_,rfl,h.fin zc h2 h10 hl,fun hs=>?_,?_⟩
 ·have:=h.one zc (by omega) hs
  rw [List.length_append];show Rs.length+1≤3;omega
 ·rw [List.length_append]
  show 3≤Rs.length+1
  apply Classical.byContradiction;intro hn;have h3:=h.ne;have e:Rs.length-1=0:=by omega
  rw [e,h.h0,prm20_lg zc] at hl;omega
end
theorem aQFactors{K M KC N:Nat}{c:Nat→Int}(zc:z20 c)(h2:2≤lg c)(hN:N≤10)(hcN:lg c≤N)(hM64:1≤M)(hM1:1≤M)(hB:DvB c M)(hK1:1≤K)(hK:K≤100000)(hKC:(M+2)*(2*3^N)≤KC)(hC:KC≤90000):ACall Tryz.prog 94 [.one (qrow K (lg c) (rc c))] (.d (.one (exL (FacP c) (fun Ls=>qlr M Ls)))):=by
 have hlc:=lg_le c;have hMK:M+2≤KC:=Nat.le_trans (Nat.le_mul_of_pos_right _ (Nat.mul_pos (by decide) (Nat.pow_pos (by decide)))) hKC;have hbp:Db M (prm20 c):=hB _ (prm20_z zc) (prm20_pm zc (by omega)).one (dv_prm zc (by omega));refine aN 94 [.tmp 2] Tryz.func94 rfl<|cR<|mW rfl<|mT<|cSeq<|cR<|mv2 rfl rfl<|mdF rfl (by omega)<|mT<|cFs rfl<|cR<|mW rfl<|mY (aQPrimP zc) rfl<|mW rfl<|mT<|cSeq<|cView 0 (.d (.one (.row 4 (lg (prm20 c)) (qel M (rc (prm20 c)))))) rfl (le_qrow_t hM1 hbp)<|cReg<|mW rfl<|mT<|cR<|mW rfl<|mR hTT (.row 43 1 1 (fun i' j'=>(([.row 4 (lg (prm20 c)) (qel M (rc (prm20 c)))])[i'*1+j']?).getD (.v undef))) rfl rfl rfl<|mW rfl<|mT<|cSeq<|cBlock<|wB [4,19,18,3,17,16,15,14,13,2,0] [] 19 (.row 43 1 ([prm20 c].length) (elQ M [prm20 c])) rfl rfl (leo_qone rfl) rfl<|cLoop (ι:=List (Nat→Int)) (fun (Rs:List (Nat→Int))=>⟨94,[(3,.d (.one (.v (.slice none 0 0)))),(4,.own 19)],[(19,.row 43 1 ((Rs).length) (elQ M Rs))]⟩) (fun (Rs:List (Nat→Int))=>FcI c Rs) (fun (Rs:List (Nat→Int))=>lg (gl Rs (Rs.length-1))) ([prm20 c]) (.start zc h2) (wkr rfl rfl) ?_;rintro Rs hI;have hF:FcI c Rs:=hI;show AW _ _ _ ⟨_,_,_⟩
 refine cSeq<|cSeq ?_;have hne:=hF.ne;have hRl:=hF.ln;refine cReg<|mv3 rfl rfl rfl<|mV hTT (.d (.one (.v (.int .i64 ((Rs.length-1:Nat):Int))))) (evi ((wr64 (by omega) (by omega)).trans (by omega)))<|mV hTT (.eptr 19 1 (Rs.length-1) 0) (ixO (z:=((Rs.length-1:Nat):Int)) (n:=((Rs).length)) rfl rfl rfl rfl rfl rfl rfl (by omega) (by omega))<|mv3 rfl rfl rfl<|mT<|cCond rfl (fun hc1=>?_) (fun hc1=>?_)
 ·refine cSkip<|tN<|cBlock<|cSeq ?_;have hgt:2≤lg (gl Rs (Rs.length-1)):=by have h0:=of_decide_eq_true hc1;omega
  have zl:=hF.z (Rs.length-1);have hll:=hF.l (Rs.length-1);have bl:=hF.b hB (Rs.length-1) (by omega);have dl_:=lg_der_lt zl (by omega);have hd2:lg (fder (gl Rs (Rs.length-1)))≠0:=fun e=>by have:=fder_zero zl e;omega
  refine cReg<|mv3 rfl rfl rfl<|mV hTT (.d (.one (.v (.int .i64 ((Rs.length-1:Nat):Int))))) (evi ((wr64 (by omega) (by omega)).trans (by omega)))<|mV hTT (.eptr 19 1 (Rs.length-1) 0) (ixO (z:=((Rs.length-1:Nat):Int)) (n:=((Rs).length)) rfl rfl rfl rfl rfl rfl rfl (by omega) (by omega))<|mv2 rfl rfl<|mT<|cReg<|mv3 rfl rfl rfl<|mY (aQDer (isqp (K:=M) (c:=(rc (gl Rs (Rs.length-1)))) (rc_z (hF.z (Rs.length-1)).lg)) (M:=(max (M+65) 64))) rfl<|mView 35 (.d (.one (.row 4 (lg (gl Rs (Rs.length-1))) (qel (M+1) (rc (gl Rs (Rs.length-1))))))) rfl (le_qrow (by omega) rfl (fun _ _=>rfl))<|mView 37 (.d (.one (.row 4 (lg (fder (gl Rs (Rs.length-1)))) (qel (M+1) (rc (fder (gl Rs (Rs.length-1)))))))) rfl (der_le zl (by omega) (bl.fder zl))<|mY (aQGcd (KC:=KC) (N:=N) zl (z20_der zl) hN (by omega) (by omega) (by omega) (by omega) hC) rfl<|mEx (Qx:=GcdP (gl Rs (Rs.length-1)) (fder (gl Rs (Rs.length-1))) (21*(M+1)+3)) (L:=fun g=>qrow (63*(M+1)+9) (lg g) (rc g)) 38 rfl (fun G hG=>?_);obtain ⟨hG0,hGl⟩:=hG.le' (z20_der zl) hd2;have hst:=hF.step zc (by omega) hgt hG;have bG:Db M G:=by have h9:=hst.b hB Rs.length (by rw [List.length_append];show Rs.length < Rs.length+1;omega);rwa [gl_last] at h9
  exact mView 38 (.d (.one (.row 4 (lg G) (qel M (rc G))))) rfl (le_qrow_t hM1 bG)<|mB hTT (.d (.one (.row 1 1 (fun i' j'=>(([.row 4 (lg G) (qel M (rc G))])[i'*1+j']?).getD (.v undef))))) rfl<|mA hTT (id:=19) (n:=((Rs).length)) (m:=1) (el:=(elQ M Rs)) (el2:=(fun i' j'=>(([.row 4 (lg G) (qel M (rc G))])[i'*1+j']?).getD (.v undef))) rfl rfl rfl (by show ((Rs).length+1)*24≤140737488355328;omega) (by omega) rfl rfl rfl rfl rfl rfl rfl rfl rfl rfl<|mW rfl<|mNil<|bN<|⟨(Rs ++ [G]),hst,by show lg (gl (Rs ++ [G]) ((Rs ++ [G]).length-1)) < lg (gl Rs (Rs.length-1));rw [List.length_append,show Rs.length+ [G].length-1=Rs.length from rfl,gl_last];omega,wk rfl ⟨hs rfl,hs rfl,trivial⟩ ⟨ho' rfl (leo_qapp rfl rfl),trivial⟩ rfl⟩
 ·refine cExit<|tE<|tE<|bE<|tN<|cSeq ?_;have hle:lg (gl Rs (Rs.length-1))≤1:=by have h0:=of_decide_eq_false hc1;omega
  obtain ⟨Es,hEs,hE,hE3,hE4⟩:=hF.e zc h2 (by omega) hle;have hEl:Rs.length+1=Es.length:=by rw [hEs,List.length_append];rfl
  refine cReg<|mW rfl<|mB hTT (.d (.one (.row 1 1 (fun i' j'=>(([.v (.int .i64 1)])[i'*1+j']?).getD (.v undef))))) rfl<|mY (aQOf (isi_lit (l:= [1]) (n:=1) rfl (fun i hi=>match i,hi with | 0,_=>rfl))) rfl<|mView 43 (.d (.one (.row 4 (lg (onez 1)) (qel M (rc (onez 1)))))) rfl (of1_le hM64)<|mB hTT (.d (.one (.row 1 1 (fun i' j'=>(([.row 4 (lg (onez 1)) (qel M (rc (onez 1)))])[i'*1+j']?).getD (.v undef))))) rfl<|mA hTT (id:=19) (n:=((Rs).length)) (m:=1) (el:=(elQ M Rs)) (el2:=(fun i' j'=>(([.row 4 (lg (onez 1)) (qel M (rc (onez 1)))])[i'*1+j']?).getD (.v undef))) rfl rfl rfl (by show ((Rs).length+1)*24≤140737488355328;omega) (by omega) rfl rfl rfl rfl rfl rfl rfl rfl rfl rfl<|mW rfl<|mT<|cSeq<|cSeq<|wK [4,3] [19] rfl rfl<|wB [4,3] [] 19 (.row 43 1 Es.length (elQ M Es)) rfl rfl ((fun B w0 w v h=>by have h9:=leo_qapp (e:=43) (b:=onez 1) (L:=Rs) rfl rfl B w0 w v h;rwa [← hEs] at h9)) rfl ?_;have hE1:=hE.l11;refine cReg<|mW rfl<|mT<|cBlock<|AW.wk (wkNil 3 3 43 1 (fun _ _=> .v undef) rfl rfl)<|cLoop (ι:=Nat) (fun (k:Nat)=>⟨94,[(3,.own 3),(4,.own 19),(6,.d (.one (.v (.int .i64 ((k:Nat):Int)))))],[(3,.row 43 1 ((facL Es k).length) (elQ M (facL Es k))),(19,.row 43 1 Es.length (elQ M Es))]⟩) (fun (k:Nat)=>k≤Es.length-2) (fun (k:Nat)=>Es.length-2-k) 0 (Nat.zero_le _) (wk rfl ⟨hs rfl,hs rfl,hs' rfl (le_int rfl),trivial⟩ ⟨ho' rfl (leo_row0),ho rfl,trivial⟩ rfl) ?_;rintro k hI;have hk:k≤Es.length-2:=hI;show AW _ _ _ ⟨_,_,_⟩
  refine cSeq<|cR<|mW rfl<|mV hTT (.d (.one (.v (.int .i64 ((k+2:Nat):Int))))) (evi ((wr64 (by omega) (by omega)).trans (by omega)))<|mv3 rfl rfl rfl<|mT<|cCond rfl (fun hc2=>?_) (fun hc2=>?_)
  ·refine cSkip<|tN<|cSeq<|cBlock<|cSeq ?_;have hk2:k+2 < Es.length:=by have h0:=of_decide_eq_true hc2;omega
   obtain ⟨x0z,x0p,x0b,x0l⟩:=hE.x hB k (by omega);obtain ⟨x1z,x1p,x1b,x1l⟩:=hE.x hB (k+1) (by omega);obtain ⟨fz,fp,fb,fq⟩:=hE.f hB (by omega) k hk2;have q0:=hE.q1 k (by omega);have q1:=hE.q1 (k+1) (by omega);have l0:=hE.l k;have l1:=hE.l (k+1);have p1:=(hE.pm (k+1) (by omega)).pos;have p2:=(hE.pm (k+2) (by omega)).pos;have hfl:(facL Es k).length=k:=facL_len Es k;exact cDk 15<|.cons (OpS.V _ rfl)<|.cons (OpS.V _ rfl)<|.cons (OpS.V (.eptr 19 1 k 0) (ixO (z:=((k:Nat):Int)) (n:=Es.length) rfl rfl rfl rfl rfl rfl rfl (by omega) (by omega)))<|oV rfl<|.cons (OpS.V _ rfl)<|.cons (OpS.V _ rfl)<|.cons (OpS.V (.d (.one (.v (.int .i64 ((k+1:Nat):Int))))) (evi ((wr64 (by omega) (by omega)).trans (by omega))))<|.cons (OpS.V (.eptr 19 1 (k+1) 0) (ixO (z:=((k+1:Nat):Int)) (n:=Es.length) rfl rfl rfl rfl rfl rfl rfl (by omega) (by omega)))<|oV rfl<|oC (aQDiv (Kq:=M) (KC:=(2*M+64)) (q:=(sqP (gl Es k))) (hE.z k) (hE.z (k+1)) (by omega) p1 x0z x0b q0 (by omega) (by omega) (by omega) hM1) rfl<|.cons (OpS.V _ rfl)<|.cons (OpS.V _ rfl)<|.cons (OpS.V _ rfl)<|.cons (OpS.V _ rfl)<|.cons (OpS.V _ rfl)<|.nil<|mT<|cSeq<|cDk 16<|.cons (OpS.V _ rfl)<|.cons (OpS.V _ rfl)<|.cons (OpS.V (.d (.one (.v (.int .i64 ((k+1:Nat):Int))))) (evi ((wr64 (by omega) (by omega)).trans (by omega))))<|.cons (OpS.V (.eptr 19 1 (k+1) 0) (ixO (z:=((k+1:Nat):Int)) (n:=Es.length) rfl rfl rfl rfl rfl rfl rfl (by omega) (by omega)))<|oV rfl<|.cons (OpS.V _ rfl)<|.cons (OpS.V _ rfl)<|.cons (OpS.V (.d (.one (.v (.int .i64 ((k+2:Nat):Int))))) (evi ((wr64 (by omega) (by omega)).trans (by omega))))<|.cons (OpS.V (.eptr 19 1 (k+2) 0) (ixO (z:=((k+2:Nat):Int)) (n:=Es.length) rfl rfl rfl rfl rfl rfl rfl (by omega) (by omega)))<|oV rfl<|oC (aQDiv (Kq:=M) (KC:=(2*M+64)) (q:=(sqP (gl Es (k+1)))) (hE.z (k+1)) (hE.z (k+2)) (by omega) p2 x1z x1b q1 (by omega) (by omega) (by omega) hM1) rfl<|.cons (OpS.V _ rfl)<|.cons (OpS.V _ rfl)<|.cons (OpS.V _ rfl)<|.cons (OpS.V _ rfl)<|.cons (OpS.V _ rfl)<|.nil<|mT<|cR<|mW rfl<|mY (aQPrimP x0z) rfl<|mW rfl<|mY (aQPrimP x1z) rfl<|mView 82 (.d (.one (.row 4 (lg (sqP (gl Es k))) (qel M (rc (sqP (gl Es k))))))) rfl (AV.of_eq (by rw [prm_self x0z fun _=>x0p];rfl))<|mView 84 (.d (.one (.row 4 (lg (sqP (gl Es (k+1)))) (qel M (rc (sqP (gl Es (k+1)))))))) rfl (AV.of_eq (by rw [prm_self x1z fun _=>x1p];rfl))<|mY (aQDiv (Kq:=M) (KC:=(2*M+64)) (q:=(facF Es k)) x0z x1z (by omega) x1p.pos fz fb fq (by omega) (by omega) (by omega) hM1) rfl<|mv5 rfl rfl rfl rfl rfl<|mT<|cReg<|mv2 rfl rfl<|mY (aQPrimP fz) rfl<|mView 90 (.d (.one (.row 4 (lg (facF Es k)) (qel M (rc (facF Es k)))))) rfl (AV.of_eq (by rw [prm_self fz fun _=>fp];rfl))<|mB hTT (.d (.one (.row 1 1 (fun i' j'=>(([.row 4 (lg (facF Es k)) (qel M (rc (facF Es k)))])[i'*1+j']?).getD (.v undef))))) rfl<|mA hTT (id:=3) (n:=((facL Es k).length)) (m:=1) (el:=(elQ M (facL Es k))) (el2:=(fun i' j'=>(([.row 4 (lg (facF Es k)) (qel M (rc (facF Es k)))])[i'*1+j']?).getD (.v undef))) rfl rfl rfl (by show ((facL Es k).length+1)*24≤140737488355328;omega) (by omega) rfl rfl rfl rfl rfl rfl rfl rfl rfl rfl<|mW rfl<|mNil<|bN<|tN<|cReg<|mv3 rfl rfl rfl<|mNil<|⟨(k+1),by omega,by omega,wk rfl ⟨hs rfl,hs rfl,hs' rfl (le_int (inc64 (by omega))),trivial⟩ ⟨ho' rfl ((fun B w0 w v h=>by have h9:=leo_qapp (e:=43) (b:=facF Es k) (L:=facL Es k) rfl rfl B w0 w v h;rwa [← facL_succ] at h9)),ho rfl,trivial⟩ rfl⟩
  ·refine cExit<|tE<|tE<|bE<|tN<|cSeq ?_;obtain rfl:k=Es.length-2:=by have h0:=of_decide_eq_false hc2;omega
   exact AW.wk (wkRow 3 rfl)<|cReg<|mv2 rfl rfl<|mT<|cRet<|rQ rfl (exL_intro (Q:=FacP c) (L:=fun Ls=>qlr M Ls) (facL Es (Es.length-2)) (hE.fac zc (by omega) (by omega) hE3 hE4))
theorem Db.neg{K:Nat}{a:Nat→Int}(h:Db K a):Db K (fneg a):=fun i=>by have:=h i;unfold fneg;omega
theorem Db.lb1{K:Nat}{a:Nat→Int}(h:Db K a):Lb K a:=fun i=>Nat.lt_of_lt_of_le (h i) (Nat.pow_le_pow_left (by decide) K)
theorem stp_ngR{x y R:Nat→Int}{M:Nat}(h:RsP x y M R):Stp x y (fneg R):=by
 obtain ⟨Q,κ,pQ,hκ,e⟩:=h.eq;exact ⟨Q,κ,pQ,hκ,fun t=>by rw [e,FF_neg];grind⟩
theorem RsP.szq{a b r:Nat→Int}{M:Nat}(h:RsP a b M r):RsP a b M (Go.Proofs.YtapmpcgekdplfaaGreat.szq r):=by
 have zs:=szq_z h.z
 by_cases h0:lg r=0
 ·have e:Go.Proofs.YtapmpcgekdplfaaGreat.szq r=r:=by
   have hr:=(lg_zero h.z).1 h0;funext i;unfold Go.Proofs.YtapmpcgekdplfaaGreat.szq szd fdv;rw [hr i];simp
  rw [e];exact h
 ·obtain ⟨Q,κ,pQ,hκ,e⟩:=h.eq
  obtain ⟨s,hs,e2⟩:=szq_F h.z h0;exact ⟨zs,szq_db h.b,⟨Q,κ*s,pQ,Rat.mul_pos hκ hs,fun x=>by rw [e,e2];grind⟩,by rw [szq_lg h.z,prm20_lg h.z];exact h.lt⟩
/-- A primitive row's derivative has a positive coefficient in front. -/
theorem szq_der{f:Nat→Int}(z:z20 f)(pm:Pm (lg f) f):szq (fder f)=prm20 (fder f):=by
 refine funext (szq_pos ?_);unfold conS
 by_cases h0:lg (fder f)=0
 ·have hz:=(lg_zero (z20_der z)).1 h0
  rw [h0,if_neg (by rw [hz];decide)];omega
 ·have h1:=lg_der_lt z pm.pos
  have h2:lg (fder f)=lg f-1:=by
   by_cases h3:lg (fder f)≤lg f-2
   ·exfalso
    have h4:=(z20_der z).lg (lg f-2) h3;unfold fder at h4;rw [show lg f-2+1=lg f-1 by omega] at h4;rcases Int.mul_eq_zero.1 h4 with h5 | h5
    ·exact lg_ne pm.pos h5
    ·omega
   ·omega
  have h3:0 < fder f (lg (fder f)-1):=by
   rw [h2] at h0 ⊢;unfold fder;rw [show lg f-1-1+1=lg f-1 by omega];exact Int.mul_pos pm.lead (by omega)
  rw [if_neg (by omega)];omega
/-- On the way. -/
structure ChD(f:Nat→Int)(K N KC X:Nat)(L0:List (Nat→Int))(a b:Nat→Int):Prop where
 za:z20 a
 zb:z20 b
 ba:Db X a
 bb:Db X b
 gr:Grw K N X (lg a) (lg b)
 la:lg a≤N
 lb:lg b≤N
 la0:lg a≠0
 pt:PT (L0 ++ [a,b])
 idp:Idp (FF f) (FF (prm20 (fder f))) (FF a) (FF b)
 hd:(L0= []∧a=f∧b=prm20 (fder f))∨(L0= [f]∧a=prm20 (fder f))∨∃ L1,L0=f ::prm20 (fder f) ::L1
 all:∀ x∈L0,z20 x∧Db KC x
 g0:L0≠ []→lg (prm20 (fder f))≠0
 ln:L0.length+lg b≤10
theorem ChD.start{f:Nat→Int}{K N KC:Nat}(hN:N≤10)(zf:z20 f)(bf:Db K f)(bg:Db K (prm20 (fder f)))(h10:lg f≤N)(h0:lg f≠0):ChD f K N KC K [] f (prm20 (fder f)):=by
 have zd:=z20_der zf;have h1:lg (fder f)≤lg f:=lg_of_z zd fun i hi=>fder_z zf.lg i (by omega)
 have h2:=prm20_lg zd;exact ⟨zf,prm20_z zd,bf,bg,.start h10,h10,by omega,h0,trivial,Idp.refl _ _,Or.inl ⟨rfl,rfl,rfl⟩,fun x hx=>absurd hx (by simp),fun e=>absurd rfl e,by show 0+_≤_;omega⟩
theorem ChD.step{f:Nat→Int}{K N KC X:Nat}{L0:List (Nat→Int)}{a b R:Nat→Int}(h:ChD f K N KC X L0 a b)(hKC:(K+1)*(2*3^N)≤KC)(hb:lg b≠0)(hR:RsP a b (X+(lg a+1-lg b)*(X+1)) R):
  ChD f K N KC (X+(lg a+1-lg b)*(X+1)) (L0 ++ [a]) b (fneg R):=by
 have zn:=z20_neg hR.z;have hl:lg (fneg R)=lg R:=by
  have h1:lg (fneg R)≤lg R:=lg_of_z zn fun i hi=>by unfold fneg;rw [hR.z.lg i hi];rfl
  have h2:lg R≤lg (fneg R):=lg_of_z hR.z fun i hi=>by have:=zn.lg i hi;unfold fneg at this;omega
  omega
 have hlt:=hR.lt;refine ⟨h.zb,zn,h.bb.mono (Nat.le_add_right _ _),hR.b.neg,by rw [hl];exact h.gr.step h.la h.lb hlt,h.lb,by have:=h.lb;omega,hb,?_,?_,?_,?_,fun _=>?_,by have:=h.ln;rw [List.length_append,hl];show L0.length+1+lg R≤10;omega⟩
 ·rw [List.append_assoc];exact pt_snoc L0 a b (fneg R) h.pt (stp_ngR hR)
 ·obtain ⟨Q,κ,pQ,hκ,e⟩:=hR.eq
  exact h.idp.trans (Idp.step (k:= -κ) pQ (by grind) fun x=>by rw [FF_neg,e];grind)
 ·rcases h.hd with ⟨h1,h2,h3⟩ | ⟨h1,h2⟩ | ⟨L1,h1⟩
  ·subst h1;subst h2;exact Or.inr (Or.inl ⟨rfl,h3⟩)
  ·subst h1;subst h2;exact Or.inr (Or.inr ⟨[],rfl⟩)
  ·subst h1;exact Or.inr (Or.inr ⟨L1 ++ [a],rfl⟩)
 ·intro x hx
  rcases List.mem_append.1 hx with hx | hx
  ·exact h.all x hx
  ·obtain rfl:x=a:=by simpa using hx
   exact ⟨h.za,h.ba.mono (by have:=h.gr.bd hKC;omega)⟩
 ·rcases h.hd with ⟨_,_,h3⟩ | ⟨h1,_⟩ | ⟨L1,h1⟩
  ·rw [← h3];exact hb
  ·exact h.g0 (by rw [h1];simp)
  ·exact h.g0 (by rw [h1];simp)
theorem ChD.fin{c f:Nat→Int}{K N KC X M:Nat}{L0:List (Nat→Int)}{a b:Nat→Int}(h:ChD f K N KC X L0 a b)(hs:SqP c M f)(hKC:(K+1)*(2*3^N)≤KC)(hb:lg b=0):ChP c M KC (L0 ++ [a])∧∀ i,Db KC (gl (L0 ++ [a]) i):=by
 have hX:=h.gr.bd hKC;have hba:Db KC a:=h.ba.mono (by omega);have all:∀ x∈L0 ++ [a],z20 x∧Db KC x:=by
  intro x hx
  rcases List.mem_append.1 hx with hx | hx
  ·exact h.all x hx
  ·obtain rfl:x=a:=by simpa using hx
   exact ⟨h.za,hba⟩
 have hall:∀ i,z20 (gl (L0 ++ [a]) i)∧Db KC (gl (L0 ++ [a]) i):=by
  intro i;unfold gl;rw [List.getD_eq_getElem?_getD];cases e:(L0 ++ [a])[i]? with
  | none=>exact ⟨z20_nil,fun _=>Nat.pow_pos (by decide)⟩
  | some x=>exact all x (List.mem_of_getElem? e)
 have zd:=z20_der hs.z;have hlen:(L0 ++ [a]).length=L0.length+1:=by rw [List.length_append];rfl
 have h0:gl (L0 ++ [a]) 0=f:=by
  rcases h.hd with ⟨h1,h2,h3⟩ | ⟨h1,h2⟩ | ⟨L1,h1⟩
  ·subst h1;subst h2;rfl
  ·subst h1;rfl
  ·subst h1;rfl
 refine ⟨?_,fun i=>(hall i).2⟩;refine ⟨by rw [h0];exact hs,fun i=>(hall i).2.lb1,fun i=>(hall i).1,by omega,by have:=h.ln;omega,fun e=>?_,fun e=>?_⟩
 ·rw [h0]
  have h1:L0= []:=List.eq_nil_of_length_eq_zero (by omega);rcases h.hd with ⟨_,h2,h3⟩ | ⟨h2,_⟩ | ⟨L1,h2⟩
  ·have h4:lg (fder f)=0:=by rw [← prm20_lg zd,← h3];exact hb
   have:=fder_zero hs.z h4;have:=hs.ne;omega
  ·rw [h1] at h2;cases h2
  ·rw [h1] at h2;cases h2
 ·have hne:L0≠ []:=by intro e2;subst e2;simp at e
  have hbz:=(FF_zero h.zb).1 hb;have hd0:lg (fder f)≠0:=by rw [← prm20_lg zd];exact h.g0 hne
  obtain ⟨d,hd,hdg⟩:∃ d:Rat,0 < d∧∀ x,FF (fder f) x=d*FF (prm20 (fder f)) x:=by
   have hpos:0 < fder f (lg (fder f)-1):=by
    have hlf:lg (fder f)=lg f-1:=by
     have h1:lg (fder f)≤lg f-1:=lg_of_z zd fun i hi=>fder_z hs.z.lg i (by omega)
     have h2:fder f (lg f-2)≠0:=by
      have h3:=lg_ne hs.ne;have h4:2≤lg f:=by
       by_cases h5:lg f≤1
       ·exfalso;have:=hs.ne;omega
       ·omega
      unfold fder;rw [show lg f-2+1=lg f-1 by omega];exact Int.mul_ne_zero h3 (by omega)
     by_cases h3:lg (fder f)≤lg f-2
     ·exact absurd (zd.lg _ h3) h2
     ·omega
    have h3:=hs.pm.lead;rw [hlf];unfold fder;have h4:2≤lg f:=by omega
    rw [show lg f-1-1+1=lg f-1 by omega];exact Int.mul_pos h3 (by omega)
   have hpf:=fun x=>pf_prm zd.lg x
   refine ⟨(conS (fder f) (lg (fder f)):Rat),?_,fun x=>?_⟩
   ·have h1:=zd.ip.gcd_pos hd0
    unfold conS;rw [if_neg (by omega)];exact_mod_cast h1
   ·have:=hpf x
    rw [show pf (prm (fder f) (lg (fder f))) (lg (fder f))=FF (prm20 (fder f)) from FF_pf zd.ip.prm.z (prm20_z zd),FF_lg zd] at this;exact this
  have hlast:∃ k,k≠0∧∀ t,FF a t=k:=by
   obtain ⟨u,v,pu,pv,e1⟩:=h.idp.m3;obtain ⟨u2,v2,pu2,pv2,e2⟩:=h.idp.m4;obtain ⟨p,q,pp,pq,e3⟩:=hs.sq.cop;have hdv:Dv (FF a) (fun _=>1):=⟨fun x=>p x*u x+q x*d*u2 x,(pp.mul pu).add ((pq.scl d).mul pu2),fun x=>by
    have h1:=e3 x;rw [hdg,e1,e2,hbz] at h1;rw [← h1];grind⟩
   have:=hdv.deg (FF_lc h.za h.la0) (lc_cst (a:=1) (by decide));exact lg_one_const h.za (by have:=h.la0;omega)
  have hpo:∀ x∈L0 ++ [a],Po (FF x):=fun x hx=>FF_po (all x hx).1
  rcases h.hd with ⟨h1,_,_⟩ | ⟨h1,h2⟩ | ⟨L1,h1⟩
  ·exact absurd h1 hne
  ·subst h1
   refine ⟨[],by rw [h0,show gl ([f] ++ [a]) 1=a from rfl];rfl,?_,d,hd,fun x=>?_⟩
   ·rw [h0,show gl ([f] ++ [a]) 1=a from rfl]
    refine stm_of (f':=FF (fder f)) (d:=d) (fun g hg=>?_) hlast (FF_der hs.z) hd (fun x=>by rw [h2];exact hdg x);rcases List.mem_cons.1 hg with rfl | hg
    ·exact FF_po hs.z
    ·rcases List.mem_cons.1 hg with rfl | hg
     ·exact FF_po h.za
     ·simp at hg
   ·rw [h0,show gl ([f] ++ [a]) 1=a from rfl,h2];exact hdg x
  ·subst h1
   refine ⟨L1 ++ [a],by rw [h0];rfl,?_,d,hd,fun x=>?_⟩
   ·rw [h0,show gl (f ::prm20 (fder f) ::L1 ++ [a]) 1=prm20 (fder f) from rfl]
    refine stm_of (f':=FF (fder f)) (d:=d) (fun g hg=>?_) (pt_pch L1 f (prm20 (fder f)) a ?_ hlast) (FF_der hs.z) hd hdg
    ·rcases List.mem_cons.1 hg with rfl | hg
     ·exact FF_po hs.z
     ·rcases List.mem_cons.1 hg with rfl | hg
      ·exact FF_po (prm20_z zd)
      ·obtain ⟨y,hy,rfl⟩:=List.mem_map.1 hg
       exact hpo y (by simp only [List.cons_append,List.mem_cons];exact Or.inr (Or.inr hy))
    ·have hpt:=h.pt
     have key:∀ (L:List (Nat→Int)) (x y:Nat→Int),PT (L ++ [x,y])→PT (L ++ [x]):=by
      intro L
      induction L with
      | nil=>intro x y _;trivial
      | cons u L ih=>
       intro x y hp
       match L,ih,hp with
       | [],_,_=>trivial
       | [v],ih,⟨h1,h2⟩=>exact ⟨h1,trivial⟩
       | v ::w ::L,ih,⟨h1,h2⟩=>exact ⟨h1,ih x y h2⟩
     exact key _ a b hpt
   ·rw [h0];exact hdg x
theorem cv_le{X K n:Nat}{a b:Nat→Int}(z:z20 (conv a b))(hn:∀ t,n≤t→conv a b t=0)(hK:1≤K)(h:Db K (conv a b)):AV.le (.d (.one (qrow X (dg (conv (rc a) (rc b)) n) (conv (rc a) (rc b))))) (.d (.one (qrow K (lg (conv a b)) (rc (conv a b))))):=by
 have e:conv (rc a) (rc b)=rc (conv a b):=funext (rc_conv a b);rw [e];exact le_dg_t (lg_dg2 hn z) hK h
theorem aQSquare{K M KC N:Nat}{c:Nat→Int}(zc:z20 c)(h2:2≤lg c)(hN:N≤10)(hcN:lg c≤N)(hM64:1≤M)(hM1:1≤M)(hB:DvB c M)(hK1:1≤K)(hK:K≤100000)(hKC:(M+2)*(2*3^N)≤KC)(hC:KC≤90000):ACall Tryz.prog 60 [.one (qrow K (lg c) (rc c))] (.d (.one (qrow M (lg (sqP c)) (rc (sqP c))))):=by
 have hlc:=lg_le c;have hMK:M+2≤KC:=Nat.le_trans (Nat.le_mul_of_pos_right _ (Nat.mul_pos (by decide) (Nat.pow_pos (by decide)))) hKC;refine aN 26 [.tmp 2] Tryz.func60 rfl<|cR<|mW rfl<|mT<|cSeq<|cR<|mv2 rfl rfl<|mbF rfl (beq_eq_false_iff_ne.2 (by omega))<|mT<|cFs rfl<|cR<|mB hTT (.d (.one (.row 1 1 (fun i' j'=>(([.v (.int .i64 1)])[i'*1+j']?).getD (.v undef))))) rfl<|mY (aQOf (isi_lit (l:= [1]) (n:=1) rfl (fun i hi=>match i,hi with | 0,_=>rfl))) rfl<|mW rfl<|mT<|cR<|mW rfl<|mY (aQFactors (M:=M) (KC:=KC) (N:=N) zc h2 hN hcN hM64 hM1 hB hK1 hK hKC hC) rfl<|mW rfl<|mT<|cSeq<|cSeq<|cEx (Qx:=FacP c) (L:=fun Ls=>qlr M Ls) 4 rfl (fun Ls hL=>?_);obtain ⟨X,hX1,⟨MX,hX2⟩,hX3,hX4⟩:=hL.ex;have hln:=hL.len;refine cView 3 (.d (.one (.row 4 (lg (onez 1)) (qel M (rc (onez 1)))))) rfl (of1_le hM64)<|cReg<|mv3 rfl rfl rfl<|mT<|cBlock<|cLoop (ι:=Nat×(Nat→Int)) (fun (p:Nat×(Nat→Int))=>match p with | (i,o)=>⟨26,[(3,.d (.one (.row 4 (lg o) (qel M (rc o))))),(4,.d (.one (.row 1 Ls.length (elQ M Ls)))),(14,.d (.one (.v (.int .i64 ((Ls.length:Nat):Int))))),(15,.d (.one (.v (.int .i64 ((i:Nat):Int)))))],[]⟩) (fun (p:Nat×(Nat→Int))=>match p with | (i,o)=>i≤Ls.length∧SqI c X i o) (fun (p:Nat×(Nat→Int))=>match p with | (i,o)=>Ls.length-i) (0,(onez 1)) (⟨Nat.zero_le _,.start zc⟩) (wk rfl ⟨hs rfl,hs rfl,hs rfl,hs' rfl (le_int rfl),trivial⟩ trivial rfl) ?_;rintro ⟨i,o⟩ hI;obtain ⟨hi,hO⟩:i≤Ls.length∧SqI c X i o:=hI;show AW _ _ _ ⟨_,_,_⟩
 refine cR<|mW rfl<|mT<|cSeq<|cCond rfl (fun hc1=>?_) (fun hc1=>?_)
 ·refine cSkip<|tN<|cSeq<|cBlock<|cR<|mv2 rfl rfl<|mT ?_;have hin:i < Ls.length:=by have h0:=of_decide_eq_true hc1;omega
  obtain ⟨hN1,hNF,hNo,hNf⟩:=hO.step zc (by omega) (by omega) (hL.z i) (hL.pm i hin) (hL.dv i hin) (hX1 (i+1) (by omega)).1 hX2.dv (hX4 i hin);refine cReg<|mv3 rfl rfl rfl<|mV hTT (.d (.one (.at 1 ((elQ M Ls) i)))) (ixR (el:=(elQ M Ls)) (z:=((i:Nat):Int)) (n:=Ls.length) rfl rfl rfl rfl rfl rfl (by omega) (by omega)) ?_;exact mW rfl<|mY (aQMul (isqp (K:=M) (c:=(rc o)) (rc_z hO.z.lg)) (isqp (K:=M) (c:=(rc (gl Ls i))) (rc_z (hL.z i).lg)) (M:=((20+1)*(M+M+66))) (D:=20) (by omega) (by omega)) rfl<|mW rfl<|mNil<|bN<|tN<|cReg<|mv2 rfl rfl<|mNil<|⟨((i+1),(conv o (gl Ls i))),⟨by omega,hN1⟩,by show Ls.length-(i+1) < Ls.length-i;omega,wk rfl ⟨hs' rfl (cv_le hN1.z (fun t ht=>conv_z0 hO.z.lg (hL.z i).lg t ht) hM1 (hB _ hN1.z hN1.pm hN1.dv)),hs rfl,hs rfl,hs' rfl (le_int (inc64 (by omega))),trivial⟩ trivial rfl⟩
 ·refine cExit<|tE<|tE<|bE<|tN<|cSeq ?_;obtain rfl:i=Ls.length:=by have h0:=of_decide_eq_false hc1;omega
  have hfin:=hO.fin hX2 hX3;exact cReg<|mv2 rfl rfl<|mT<|cRet<|rQ rfl (AV.of_eq (by rw [hfin];rfl))
theorem aQSizedE{c d:Nat→Int}{M:Nat}(zd:z20 d)(h1:1≤M)(hM:M≤100000):ACall Tryz.prog 75 [.one (exL (RsP c d M) (fun r=>qrow M (lg r) (rc r)))] (.d (.one (exL (RsP c d M) (fun r=>qrow M (lg r) (rc r))))):=
 ACall.exl (enters Tryz.func75 rfl rfl) fun r hr=>ACall.le (dl DV.same dl0) (exL_intro (Q:=RsP c d M) (L:=fun r=>qrow M (lg r) (rc r)) (szq r) hr.szq) (aQSized hr.z h1 hM)
theorem neg_le{X K:Nat}{c:Nat→Int}(z:z20 c)(hK:1≤K)(h:Db K c):AV.le (.d (.one (qrow X (dg (fsclQ (rc c) ((-1:Int):Rat)) (lg c)) (fsclQ (rc c) ((-1:Int):Rat))))) (.d (.one (qrow K (lg (fneg c)) (rc (fneg c))))):=by
 have e:fsclQ (rc c) ((-1:Int):Rat)=rc (fneg c):=funext fun i=>by
  show ((c i:Int):Rat)*((-1:Int):Rat)=((-(c i):Int):Rat)
  rw [← Rat.intCast_mul];congr 1;omega
 rw [e];exact le_dg_t (lg_dg2 (fun i hi=>by unfold fneg;rw [z.lg i hi];rfl) (z20_neg z)) hK h.neg
theorem leo_qapp2{e:TypeId}{K n:Nat}{L:List (Nat→Int)}{b:Nat→Int}{el2:Nat→Nat→Lf}(hn:L.length=n)(h2:∀ B w v,LfR B w (el2 0 0) v→LfR B w (qrow K (lg b) (rc b)) v):AO.le (.row e 1 (L.length+1) (appEl L.length (elQ K L) el2)) (.row e 1 (L ++ [b]).length (elQ K (L ++ [b]))):=by
 rw [show (L ++ [b]).length=L.length+1 from by rw [List.length_append];rfl];refine leo_row fun i hi j hj B w v hv=>?_
 obtain rfl:j=0:=by omega
 unfold appEl at hv
 by_cases h:i < L.length
 ·rw [show Nat.ble (i+1) L.length=true from Nat.ble_eq_true_of_le h] at hv
  unfold elQ;rw [gl_app h];exact hv
 ·obtain rfl:i=L.length:=by omega
  rw [show Nat.ble (L.length+1) L.length=false from by rw [← Bool.not_eq_true,Nat.ble_eq];omega,Nat.sub_self] at hv;unfold elQ;rw [gl_last];exact h2 _ _ _ hv
theorem aQChain{K M KC N Ms:Nat}{c:Nat→Int}(zc:z20 c)(h2:2≤lg c)(hN:N≤10)(hcN:lg c≤N)(hM64:1≤M)(hM1:1≤M)(hB:DvB c M)(hK1:1≤K)(hK:K≤100000)(hKC:(M+2)*(2*3^N)≤KC)(hC:KC≤90000)(hS:SqP c Ms (sqP c)):ACall Tryz.prog 39 [.one (qrow K (lg c) (rc c))] (.d (.one (exL (ChP c Ms KC) (fun L=>qlr KC L)))):=by
 have hlc:=lg_le c;have hMK:M+2≤KC:=Nat.le_trans (Nat.le_mul_of_pos_right _ (Nat.mul_pos (by decide) (Nat.pow_pos (by decide)))) hKC;have bs:Db M (sqP c):=hB _ hS.z hS.pm.one hS.dv;have hsl:=(lg_dv zc hS.z (by omega) hS.dv).2;refine aN 31 [.tmp 2] Tryz.func39 rfl<|cR<|mW rfl<|mT<|cR<|mW rfl<|mY (aQSquare (M:=M) (KC:=KC) (N:=N) zc h2 hN hcN hM64 hM1 hB hK1 hK hKC hC) rfl<|mW rfl<|mT<|cR<|mW rfl<|mR hTT (.row 43 1 1 (fun i' j'=>(([.row 4 (lg (sqP c)) (qel M (rc (sqP c)))])[i'*1+j']?).getD (.v undef))) rfl rfl rfl<|mW rfl<|mT<|cR<|mW rfl<|mY (aQDer (isqp (K:=M) (c:=(rc (sqP c))) (rc_z hS.z.lg)) (M:=(max (M+65) 64))) rfl<|mView 11 (.d (.one (.row 4 (lg (fder (sqP c))) (qel (M+1) (rc (fder (sqP c))))))) rfl (der_le hS.z (by omega) (bs.fder hS.z))<|mY (aQSized (z20_der hS.z) (by omega) (by omega)) rfl<|mW rfl<|mT<|cSeq<|cBlock<|wK [5,4] [9] rfl rfl<|wB [5,4] [] 9 (.row 43 1 (([] ++ [sqP c]).length) (elQ KC ([] ++ [sqP c]))) rfl rfl (AO.le.trans (leo_qone rfl) (leo_row fun i hi j hj B w v hv=>by obtain rfl:i=0:=(by have:i < 1:=hi;omega);exact qrow_tight (by omega) (fun i _=>(bs.mono (by omega)) i) B w v hv)) rfl ?_;refine cView 5 (.d (.one (.row 4 (lg (prm20 (fder (sqP c)))) (qel (M+1) (rc (prm20 (fder (sqP c)))))))) rfl (AV.of_eq (by rw [szq_der hS.z hS.pm] <;> rfl)) ?_;refine cLoop (ι:=Nat×List (Nat→Int)×(Nat→Int)×(Nat→Int)) (fun (p:Nat×List (Nat→Int)×(Nat→Int)×(Nat→Int))=>match p with | (X,L0,a,b)=>⟨31,[(4,.own 9),(5,.d (.one (.row 4 (lg b) (qel X (rc b)))))],[(9,.row 43 1 ((L0 ++ [a]).length) (elQ KC (L0 ++ [a])))]⟩) (fun (p:Nat×List (Nat→Int)×(Nat→Int)×(Nat→Int))=>match p with | (X,L0,a,b)=>ChD (sqP c) (M+1) N KC X L0 a b∧1≤X) (fun (p:Nat×List (Nat→Int)×(Nat→Int)×(Nat→Int))=>match p with | (X,L0,a,b)=>lg b) ((M+1),[],(sqP c),(prm20 (fder (sqP c)))) (⟨.start hN hS.z (bs.mono (by omega)) (bs.fder hS.z).fdv (by omega) hS.ne,by omega⟩) (wkr rfl rfl) ?_;rintro ⟨X,L0,a,b⟩ hI;obtain ⟨hD,hX1⟩:ChD (sqP c) (M+1) N KC X L0 a b∧1≤X:=hI;show AW _ _ _ ⟨_,_,_⟩
 refine cSeq<|cSeq ?_;have za:=hD.za;have zb:=hD.zb;have hXK:=hD.gr.bd hKC;have hla:=hD.la;have hlb:=hD.lb;have ha0:=hD.la0;have hln:=hD.ln;have hlen:(L0 ++ [a]).length=L0.length+1:=by rw [List.length_append];rfl
 by_cases hb0:lg b=0
 ·refine cReg<|mv2 rfl rfl<|mdF rfl (by omega)<|mT<|cF rfl<|cExit<|tE<|tE<|bE<|tN<|cSeq ?_;have hfin:=hD.fin hS hKC hb0;exact AW.wk (wkRow 9 rfl)<|cReg<|mv2 rfl rfl<|mT<|cRet<|rQ rfl (exL_intro (Q:=ChP c Ms KC) (L:=fun L=>qlr KC L) (L0 ++ [a]) hfin.1)
 ·refine cReg<|mv2 rfl rfl<|mdT rfl (by omega)<|mT<|cT rfl<|cSkip<|tN<|cBlock<|cR<|mv2 rfl rfl<|mB hTT (.d (.one (.row 1 1 (fun i' j'=>(([.row 4 (lg b) (qel X (rc b))])[i'*1+j']?).getD (.v undef))))) rfl<|mA hTT (id:=9) (n:=((L0 ++ [a]).length)) (m:=1) (el:=(elQ KC (L0 ++ [a]))) (el2:=(fun i' j'=>(([.row 4 (lg b) (qel X (rc b))])[i'*1+j']?).getD (.v undef))) rfl rfl rfl (by show ((L0 ++ [a]).length+1)*24≤140737488355328;omega) (by omega) rfl rfl rfl rfl rfl rfl rfl rfl rfl rfl<|mW rfl<|mT ?_;have hg1:lg b-1 < lg b:=by omega
  have hN1:=(hD.gr.step hla hlb hg1).bd hKC;refine wB [19,18,17,16,15,14,13,5,4] [] 9 (.row 43 1 ((L0 ++ [a] ++ [b]).length) (elQ KC (L0 ++ [a] ++ [b]))) rfl rfl (leo_qapp2 hlen (qrow_tight (by omega) (fun i _=>(hD.bb.mono (by omega)) i))) rfl ?_;have hgla:gl (L0 ++ [a] ++ [b]) L0.length=a:=by rw [gl_app (by omega),gl_last]
  have hlen2:(L0 ++ [a] ++ [b]).length=L0.length+2:=by rw [List.length_append,hlen];rfl
  refine cReg<|mv3 rfl rfl rfl<|mV hTT (.d (.one (.v (.int .i64 ((L0.length:Nat):Int))))) (evi ((wr64 (by omega) (by omega)).trans (by omega)))<|mV hTT (.eptr 9 1 L0.length 0) (ixO (z:=((L0.length:Nat):Int)) (n:=((L0 ++ [a] ++ [b]).length)) rfl rfl rfl rfl rfl rfl rfl (by omega) (by omega))<|mv2 rfl rfl<|mView 25 (.d (.one (.row 4 (lg a) (qel X (rc a))))) rfl ((fun ρ B w v h=>by have h:AR ρ B w (.d (.one (qrow KC (lg (gl (L0 ++ [a] ++ [b]) L0.length)) (rc (gl (L0 ++ [a] ++ [b]) L0.length))))) v:=h;rw [hgla] at h;exact le_qrow_t (by omega) hD.ba ρ B w v h)) ?_;refine mView 26 (.d (.one (.row 4 (lg b) (qel X (rc b))))) rfl (AV.le.rfl)<|mY (aQRest (M:=(X+(lg a+1-lg b)*(X+1))) za zb hb0 (by omega) (by omega) (by omega) (by omega) (Nat.le_refl _)) rfl<|mY (aQSizedE zb (by omega) (by omega)) rfl<|mEx (Qx:=RsP a b (X+(lg a+1-lg b)*(X+1))) (L:=fun r=>qrow (X+(lg a+1-lg b)*(X+1)) (lg r) (rc r)) 28 rfl (fun R hR=>?_);have hRl:=lg_le R;exact mY (aQNeg (isqp (K:=(X+(lg a+1-lg b)*(X+1))) (c:=(rc R)) (rc_z hR.z.lg)) (M:=(max ((X+(lg a+1-lg b)*(X+1))+65) 64))) rfl<|mW rfl<|mNil<|bN<|⟨((X+(lg a+1-lg b)*(X+1)),(L0 ++ [a]),b,(fneg R)),⟨hD.step hKC hb0 hR,by omega⟩,by have hl9:=hR.lt;have hl8:lg (fneg R)≤lg R:=lg_of_z (z20_neg hR.z) fun i hi=>by {unfold fneg;rw [hR.z.lg i hi];rfl};show lg (fneg R) < lg b;omega,wk rfl ⟨hs rfl,hs' rfl (neg_le hR.z (by omega) hR.b),trivial⟩ ⟨ho rfl,trivial⟩ rfl⟩
/-! ### Counts -/
def ChQ(c:Nat→Int)(KC:Nat)(L:List (Nat→Int)):Prop:=∃ p M,ChP p M KC L∧gl L 0=c
theorem ChP.q{p:Nat→Int}{M KC:Nat}{L:List (Nat→Int)}(h:ChP p M KC L):ChQ (sqP p) KC L:=⟨p,M,h,h.sq.eq⟩
noncomputable def cntC(c:Nat→Int)(lo hi:Rat):Nat:=open Classical in if h:∃ N,Ctd (FF c) lo hi N then h.choose else 0
theorem cntC_eq{c:Nat→Int}(z:z20 c){lo hi:Rat}(hab:lo≤hi){N:Nat}(h:Ctd (FF c) lo hi N):cntC c lo hi=N:=by
 have hx:∃ N,Ctd (FF c) lo hi N:=⟨N,h⟩
 unfold cntC;rw [dif_pos hx];exact hx.choose_spec.uniq (FF_po z) hab h
section
variable {c:Nat→Int} {KC:Nat} {L:List (Nat→Int)}
theorem ChQ.z(h:ChQ c KC L):z20 c:=by obtain ⟨p,M,k,e⟩:=h;rw [← e];exact k.z 0
theorem ChQ.len(h:ChQ c KC L):1≤L.length∧L.length≤11:=by obtain ⟨p,M,k,e⟩:=h;exact ⟨k.len,k.ln⟩
theorem ChQ.zz(h:ChQ c KC L)(i:Nat):z20 (gl L i):=by obtain ⟨p,M,k,e⟩:=h;exact k.z i
theorem ChQ.cnt(h:ChQ c KC L){lo hi:Rat}(hab:lo≤hi):vr (sgL L lo)=vr (sgL L hi)+cntC c lo hi∧(cntC c lo hi=0↔RFree (FF c) lo hi)∧(2≤lg c→Ctd (FF c) lo hi (cntC c lo hi)):=by
 have zc:=h.z;obtain ⟨p,M,k,e⟩:=h;obtain ⟨N,h1,h2,h3⟩:=k.cnt hab;rw [e] at h2 h3
 by_cases hl:2≤L.length
 ·have hN:=cntC_eq zc hab (h3 hl)
  rw [hN];exact ⟨h1,h2,fun _=>h3 hl⟩
 ·have hl1:L.length=1:=by have:=k.len;omega
  have hlg:=k.cst hl1;rw [e] at hlg;have hf:RFree (FF c) lo hi:=by
   obtain ⟨κ,hκ,hk⟩:=lg_one_const zc hlg;exact ⟨sgq κ,fun h=>hκ (sgq_eq_zero.1 h),fun t _ _=>by rw [hk]⟩
  have h0:cntC c lo hi=0:=by
   unfold cntC;split
   ·rename_i hx
    exact (hx.choose_spec.free (FF_po zc) hab).2 hf
   ·rfl
  rw [h0];have:=h2.2 hf;exact ⟨by omega,⟨fun _=>hf,fun _=>rfl⟩,fun h=>by omega⟩
end
/-- That counts are counts. -/
structure Cnt(c:Nat→Int):Prop where
 z:z20 c
 l2:2≤lg c
 sq:Sqf (FF c) (FF (fder c))
 ctd:∀ lo hi,lo≤hi→Ctd (FF c) lo hi (cntC c lo hi)
theorem Cnt.free{c:Nat→Int}(h:Cnt c){lo hi:Rat}(hab:lo≤hi):cntC c lo hi=0↔RFree (FF c) lo hi:=(h.ctd lo hi hab).free (FF_po h.z) hab
theorem ex_der0{c:Nat→Int}(z:z20 c)(h2:2≤lg c):∃ x,FF (fder c) x≠0:=by
 refine FF_nz (z20_der z) fun e=>?_
 have:=fder_zero z e;omega
theorem cnt_of{c:Nat→Int}(z:z20 c)(h2:2≤lg c)(sq:Sqf (FF c) (FF (fder c))):Cnt c:=by
 refine ⟨z,h2,sq,fun lo hi hab=>?_⟩;obtain ⟨g,l,hst,_⟩:=sq.stm (ex_der0 z h2);obtain ⟨N,hN⟩:=sturm hst hab;have h:Ctd (FF c) lo hi N:=⟨g,l,hst,hN⟩;rw [cntC_eq z hab h];exact h
section
variable {c:Nat→Int} {lo hi:Rat}
theorem rfree_self(f:Fn)(a:Rat):RFree f a a:=⟨1,by decide,fun t h1 h2=>by grind⟩
theorem Cnt.lt(h:Cnt c)(hab:lo≤hi)(hn:cntC c lo hi≠0):lo < hi:=by
 by_cases e:lo < hi
 ·exact e
 ·exfalso
  have:lo=hi:=by grind
  subst this;exact hn ((h.free hab).2 (rfree_self _ _))
theorem Cnt.add(h:Cnt c){m:Rat}(h1:lo≤m)(h2:m≤hi):cntC c lo hi=cntC c lo m+cntC c m hi:=by
 exact cntC_eq h.z (by grind) ((h.ctd lo m h1).cat (FF_po h.z) h1 h2 (h.ctd m hi h2))
theorem Cnt.okI(h:Cnt c)(hab:lo≤hi)(h1:cntC c lo hi=1):OkI (FF c) (FF (fder c)) lo hi:=⟨h.sq,h.lt hab (by omega),by rw [← h1];exact h.ctd lo hi hab⟩
/-! ### Ends that are roots -/
noncomputable def exF(c:Nat→Int)(lo hi:Rat):Rat×Rat:=if ¬ lo=hi∧sgq (FF c hi)=0 then (hi,hi) else (lo,hi)
def EX(c:Nat→Int)(lo hi:Rat):Prop:=lo=hi∨sgq (FF c hi)≠0
theorem exF_ex(c:Nat→Int)(lo hi:Rat):EX c (exF c lo hi).1 (exF c lo hi).2:=by
 unfold exF;split
 ·exact Or.inl rfl
 ·rename_i h
  by_cases e:lo=hi
  ·exact Or.inl e
  ·exact Or.inr fun k=>h ⟨e,k⟩
/-- One root in an interval. -/
theorem Cnt.okV(h:Cnt c)(hab:lo≤hi)(h1:cntC c lo hi=1):OkV c lo hi:=by
 have o:=h.okI hab h1;have hlt:=o.lt;refine ⟨⟨h.z,hab,fun _=>o⟩,h.sq,h.l2,?_⟩;rw [cutA_I hlt];obtain ⟨g,l,hst⟩:=o.stm;exact cutN_vc hst (FF_po h.z) hlt fun hf=>by have:=(h.free hab).2 hf;omega
theorem exF_nar(o:OkA c lo hi):Nar c lo hi (exF c lo hi).1 (exF c lo hi).2:=by
 unfold exF
 by_cases h:¬ lo=hi∧sgq (FF c hi)=0
 ·rw [if_pos h]
  have hlt:lo < hi:=by have:=o.le;grind
  refine ⟨okA_P o.z hi,fun q=>?_,o.le,by show hi≤hi;grind⟩;show cutA c hi hi q↔_
  rw [cutA_P (show hi≤hi by grind),cutA_I hlt];exact (cutI_root (o.i hlt) hlt (by grind) (sgq_eq_zero.1 h.2) q).symm
 ·rw [if_neg h];exact Nar.refl o
end
/-! ### All roots -/
noncomputable def spF(c:Nat→Int):Nat→Rat→Rat→List (Rat×Rat)
 | 0,_,_=> []
 | n+1,lo,hi=>if cntC c lo hi=0 then [] else if cntC c lo hi=1 then [exF c lo hi] else spF c n lo ((lo+hi) / 2) ++spF c n ((lo+hi) / 2) hi
structure SpP(c:Nat→Int)(lo hi:Rat)(l:List (Rat×Rat)):Prop where
 ok:∀ p∈l,OkV c p.1 p.2∧EX c p.1 p.2∧lo≤p.1∧p.2≤hi∧cutA c p.1 p.2 lo
 all:∀ C,IsCut C→VC (FF c) C→C lo→¬ C hi→∃ p∈l,∀ q,cutA c p.1 p.2 q↔C q
 rise:l.Pairwise fun p q=>cmpC (cutA c p.1 p.2) (cutA c q.1 q.2)= -1
 len:l.length=cntC c lo hi
theorem rfree_vc{f g:Fn}{l:List Fn}(hst:Stm f g l)(pf:Po f){a b:Rat}(h:RFree f a b){C:Cut}(hC:IsCut C)(ca:C a)(cb:¬ C b)(v:VC f C):False:=by
 obtain ⟨a',h1,h2⟩:=hC.up a ca;obtain ⟨s,hs,hst'⟩:=h;have hab:=hC.nb h2 cb;obtain ⟨e,he,hf⟩:=free_far hst pf (a:=a') (b:=b) (by grind) (by rw [hst' a' h1 (by grind)];exact hs) fun t t1 t2=>by rw [hst' t (by grind) t2,hst' a' h1 (by grind)]
 obtain ⟨t,t1,t2,ht⟩:=v (e / 2) (by grind) a' b h2 cb;have:=hf t t1 t2;unfold Ab at ht;rcases this with k | k <;> grind
theorem Cnt.one{c:Nat→Int}{lo hi:Rat}(h:Cnt c)(hab:lo≤hi)(h1:cntC c lo hi=1){C:Cut}(hC:IsCut C)(v:VC (FF c) C)(ca:C lo)(cb:¬ C hi)(q:Rat):cutA c lo hi q↔C q:=by
 have o:=h.okI hab h1;obtain ⟨g,l,hst⟩:=o.stm;rw [cutA_I o.lt];constructor
 ·intro k
  apply Classical.byContradiction;intro nq;have hq:=hC.nb ca nq;have hqh:q < hi:=by rcases k with k | k;grind;exact k.1
  exact rfree_vc hst (FF_po h.z) ((cutI_free o (by grind) hqh).1 k) hC ca nq v
 ·intro k
  apply Classical.byContradiction;intro nq;have hqh:=hC.nb k cb;have hf:RFree (FF c) q hi:=Classical.byContradiction fun nf=>nq (Or.inr ⟨hqh,nf⟩)
  exact rfree_vc hst (FF_po h.z) hf hC k cb v
theorem split_one{c:Nat→Int}(h:Cnt c){h1:Nat}(b1:∀ i,(c i).natAbs≤2^h1){lo hi:Rat}(hab:lo≤hi)(hl: -(t2 (h1+1))≤lo)(hh:hi≤t2 (h1+1))(hw:(hi-lo)*t2 (sepE (lg c) (lg c) h1 h1)≤1):cntC c lo hi≤1:=by
 have hlc:=lg_le c;have hp:=t2_pos h1;have e2:t2 (h1+2)=t2 (h1+1)*2:=by rw [show h1+2=(h1+1)+1 from rfl,t2_add (h1+1) 1];rfl
 have hp1:=t2_pos (h1+1);have hin:In (t2 (h1+2)) lo∧In (t2 (h1+2)) hi:=by
  unfold In;constructor <;> constructor <;> grind
 obtain ⟨U,V,z,hz,hUV,hU,hV,hL⟩:=capA h.z h.sq h.l2 b1 (h1+2) (lg c / 2+1) (lg_two _ (by omega));have hx:=expA (n1:=lg c) (n2:=lg c) (h1:=h1) (h2:=h1) (hl:=h1) h.l2 hlc h.l2 (Nat.le_refl _) (Nat.le_refl _);have hs:=small_of hx (show 0≤hi-lo by grind) hw;exact sep_one h.sq.der h.sq.po h.sq.po' hz hUV hU hV hL (by have:=t2_pos (3*(lg c / 2+1)+(h1+2)*lg c+(lg c / 2+1+h1));grind) hin.1 hin.2 hab hs (h.ctd lo hi hab)
theorem spF_ok{c:Nat→Int}(h:Cnt c){h1:Nat}(b1:∀ i,(c i).natAbs≤2^h1):∀ (d:Nat) (lo hi:Rat),lo≤hi→-(t2 (h1+1))≤lo→hi≤t2 (h1+1)→(hi-lo)*t2 (sepE (lg c) (lg c) h1 h1)≤t2 d→SpP c lo hi (spF c (d+1) lo hi):=by
 intro d
 induction d with
 | zero=>
  intro lo hi hab hl hh hw;have h9:=split_one h b1 hab hl hh (by rw [show t2 0=1 from rfl] at hw;exact hw);unfold spF
  by_cases h0:cntC c lo hi=0
  ·rw [if_pos h0]
   obtain ⟨g,l,hst,_⟩:=h.ctd lo hi hab;exact ⟨fun p hp=>absurd hp (by simp),fun C hC v ca cb=>(rfree_vc hst (FF_po h.z) ((h.free hab).1 h0) hC ca cb v).elim,List.Pairwise.nil,by rw [h0];rfl⟩
  ·have e1:cntC c lo hi=1:=by omega
   rw [if_neg h0,if_pos e1];have o:=h.okV hab e1;have n:=exF_nar o.ok;refine ⟨fun p hp=>?_,fun C hC v ca cb=>⟨_,by simp,fun q=>(n.cut q).trans (h.one hab e1 hC v ca cb q)⟩,List.pairwise_singleton _ _,by rw [e1];rfl⟩;obtain rfl:p=exF c lo hi:=by simpa using hp
   refine ⟨o.nar n,exF_ex _ _ _,n.lo,n.hi,(n.cut lo).2 ?_⟩;rw [cutA_I (h.lt hab h0)];exact Or.inl (by grind)
 | succ d ih=>
  intro lo hi hab hl hh hw;unfold spF
  by_cases h0:cntC c lo hi=0
  ·rw [if_pos h0]
   obtain ⟨g,l,hst,_⟩:=h.ctd lo hi hab;exact ⟨fun p hp=>absurd hp (by simp),fun C hC v ca cb=>(rfree_vc hst (FF_po h.z) ((h.free hab).1 h0) hC ca cb v).elim,List.Pairwise.nil,by rw [h0];rfl⟩
  ·rw [if_neg h0]
   by_cases e1:cntC c lo hi=1
   ·rw [if_pos e1]
    have o:=h.okV hab e1;have n:=exF_nar o.ok;refine ⟨fun p hp=>?_,fun C hC v ca cb=>⟨_,by simp,fun q=>(n.cut q).trans (h.one hab e1 hC v ca cb q)⟩,List.pairwise_singleton _ _,by rw [e1];rfl⟩;obtain rfl:p=exF c lo hi:=by simpa using hp
    refine ⟨o.nar n,exF_ex _ _ _,n.lo,n.hi,(n.cut lo).2 ?_⟩;rw [cutA_I (h.lt hab h0)];exact Or.inl (by grind)
   ·rw [if_neg e1]
    obtain ⟨m,hm⟩:∃ m,m=(lo+hi) / 2:=⟨_,rfl⟩
    rw [← hm];have hE:=t2_pos (sepE (lg c) (lg c) h1 h1);have e2:t2 (d+1)=t2 d*2:=by rw [t2_add d 1];rfl
    have m1:lo≤m:=by grind
    have m2:m≤hi:=by grind
    have w1:(m-lo)*t2 (sepE (lg c) (lg c) h1 h1)≤t2 d:=by
     have:m-lo=(hi-lo) / 2:=by grind
     rw [this];rw [e2] at hw;grind
    have w2:(hi-m)*t2 (sepE (lg c) (lg c) h1 h1)≤t2 d:=by
     have:hi-m=(hi-lo) / 2:=by grind
     rw [this];rw [e2] at hw;grind
    have A:=ih lo m m1 hl (by grind) w1;have B:=ih m hi m2 (by grind) hh w2;refine ⟨fun p hp=>?_,fun C hC v ca cb=>?_,?_,by rw [List.length_append,A.len,B.len,h.add m1 m2]⟩
    ·rcases List.mem_append.1 hp with k | k
     ·obtain ⟨a1,a2,a3,a4,a5⟩:=A.ok p k
      exact ⟨a1,a2,a3,by grind,a5⟩
     ·obtain ⟨a1,a2,a3,a4,a5⟩:=B.ok p k
      exact ⟨a1,a2,by grind,a4,a1.ok.cut.down _ _ a5 m1⟩
    ·by_cases cm:C m
     ·obtain ⟨p,k,e⟩:=B.all C hC v cm cb
      exact ⟨p,List.mem_append.2 (Or.inr k),e⟩
     ·obtain ⟨p,k,e⟩:=A.all C hC v ca cm
      exact ⟨p,List.mem_append.2 (Or.inl k),e⟩
    ·refine List.pairwise_append.2 ⟨A.rise,B.rise,fun p hp q hq=>?_⟩
     obtain ⟨a1,a2,a3,a4,a5⟩:=A.ok p hp;obtain ⟨b1,b2,b3,b4,b5⟩:=B.ok q hq;exact cmpC_lt b5 (a1.ok.above a4)
/-! ### The bound -/
def mxA(c:Nat→Int):Nat→Nat
 | 0=>0
 | i+1=>max (mxA c i) (c i).natAbs
theorem mxA_le(c:Nat→Int):∀ {i n:Nat},i < n→(c i).natAbs≤mxA c n
 | i,0,h=>absurd h (Nat.not_lt_zero _)
 | i,n+1,h=>by
  unfold mxA
  by_cases e:i=n
  ·subst e;exact Nat.le_max_right _ _
  ·exact Nat.le_trans (mxA_le c (i:=i) (n:=n) (by omega)) (Nat.le_max_left _ _)
theorem mxA_bd{c:Nat→Int}{H:Nat}(h:∀ i,(c i).natAbs≤H):∀ n,mxA c n≤H
 | 0=>Nat.zero_le _
 | n+1=>by unfold mxA;exact Nat.max_le.2 ⟨mxA_bd h n,h n⟩
def bdQ(c:Nat→Int):Rat:=1+(mxA c (lg c-1):Rat) / ((c (lg c-1)).natAbs:Rat)
section
variable {c:Nat→Int}
theorem lead_pos(h0:lg c≠0):(1:Rat)≤((c (lg c-1)).natAbs:Rat):=by
 have:=lg_ne h0;exact_mod_cast (show 1≤(c (lg c-1)).natAbs by omega)
theorem bdQ_ge(h0:lg c≠0):1≤bdQ c:=by
 have h1:=lead_pos h0;have h2:=nat_nn (mxA c (lg c-1));unfold bdQ;have:0≤(mxA c (lg c-1):Rat) / ((c (lg c-1)).natAbs:Rat):=by
  rw [Rat.div_def];exact Rat.mul_nonneg h2 (by have:=Rat.inv_pos.2 (show (0:Rat) < ((c (lg c-1)).natAbs:Rat) by grind);grind)
 grind
theorem bdQ_le(h0:lg c≠0){H:Nat}(h:∀ i,(c i).natAbs≤H):bdQ c≤1+(H:Rat):=by
 have h1:=lead_pos h0;have h2:(mxA c (lg c-1):Rat)≤(H:Rat):=nat_le (mxA_bd h _);have h3:=nat_nn (mxA c (lg c-1));obtain ⟨k,hk⟩:∃ k,k=(mxA c (lg c-1):Rat) / ((c (lg c-1)).natAbs:Rat):=⟨_,rfl⟩
 have h4:k*((c (lg c-1)).natAbs:Rat)=(mxA c (lg c-1):Rat):=by rw [hk];exact Rat.div_mul_cancel (by grind)
 have hk0:0≤k:=by
  have:=bdQ_ge h0;unfold bdQ at this;rw [← hk] at this;grind
 have h5:k*1≤k*((c (lg c-1)).natAbs:Rat):=Rat.mul_le_mul_of_nonneg_left h1 hk0;unfold bdQ;rw [← hk];grind
theorem bdQ_vc(z:z20 c)(h0:lg c≠0){C:Cut}(hC:IsCut C)(v:VC (FF c) C):C (-(bdQ c))∧¬ C (bdQ c):=by
 obtain ⟨n,hn⟩:∃ n,n=lg c-1:=⟨_,rfl⟩
 obtain ⟨a,ha⟩:∃ a:Rat,a=(c n:Rat):=⟨_,rfl⟩
 have hcn:c n≠0:=by rw [hn];exact lg_ne h0
 have ha0:a≠0:=by rw [ha];exact rc_ne hcn
 obtain ⟨A,hA⟩:∃ A:Rat,A=((c n).natAbs:Rat):=⟨_,rfl⟩
 have hAa:A=a∨A= -a:=by
  rw [hA,ha];rcases Int.natAbs_eq (c n) with e | e
  ·left;rw [e];simp;rfl
  ·right
   obtain ⟨k,hk⟩:∃ k,k=(c n).natAbs:=⟨_,rfl⟩
   rw [← hk] at e ⊢;rw [e,Rat.intCast_neg,Rat.neg_neg];rfl
 have hA1:1≤A:=by rw [hA,hn];exact lead_pos h0
 obtain ⟨H,hH⟩:∃ H:Rat,H=(mxA c n:Rat) / A:=⟨_,rfl⟩
 have hHA:H*A=(mxA c n:Rat):=by rw [hH];exact Rat.div_mul_cancel (by grind)
 have hb:bdQ c=1+H:=by unfold bdQ;rw [hH,hA,hn]
 have hH0:0≤H:=by have:=bdQ_ge h0;grind
 have hce:∀ i,Ab ((if i < n then (c i:Rat) / A else 0)) H:=fun i=>by
  by_cases hi:i < n
  ·rw [if_pos hi]
   obtain ⟨q,hq⟩:∃ q,q=(c i:Rat) / A:=⟨_,rfl⟩
   have h1:q*A=(c i:Rat):=by rw [hq];exact Rat.div_mul_cancel (by grind)
   have h2:((c i).natAbs:Rat)≤(mxA c n:Rat):=nat_le (mxA_le c hi);have h3: -((c i).natAbs:Rat)≤(c i:Rat)∧(c i:Rat)≤((c i).natAbs:Rat):=by
    constructor
    ·have: -(((c i).natAbs:Nat):Int)≤c i:=by omega
     have h9:((-(((c i).natAbs:Nat):Int):Int):Rat)≤(c i:Rat):=by exact_mod_cast this
     rw [Rat.intCast_neg] at h9;exact h9
    ·have:c i≤(((c i).natAbs:Nat):Int):=by omega
     exact_mod_cast this
   rw [← hq];rw [← h1,← hHA] at *
   unfold Ab;constructor
   ·apply Classical.byContradiction
    intro k;have:(q+H)*A < 0:=by
     have:=Rat.mul_pos (show 0 < -(q+H) by grind) (show 0 < A by grind);grind
    grind
   ·apply Classical.byContradiction
    intro k;have:=Rat.mul_pos (show 0 < q-H by grind) (show 0 < A by grind);grind
  ·rw [if_neg hi];exact ab_zero hH0
 have far:∀ t y,(t=y∨t= -y)→1+H≤y→Far (FF c t) 1:=fun t y ht hy=>by
  have hab:Ab t y:=by rcases ht with k | k <;> unfold Ab <;> constructor <;> grind
  have h1:=pe_low hab hH0 hy hce n;have h2:=far_pow ht (show 1≤y by grind) n;have hy1:=pow_ge (B:=y) (by grind) n;have e:∀ m,m≤n→pe (fun i=>if i < n then (c i:Rat) / A else 0) t m*A=pe (rc c) t m:=by
   intro m
   induction m with
   | zero=>intro _;show (0:Rat)*A=0;grind
   | succ m ih=>
    intro hm;show (pe (fun i=>if i < n then (c i:Rat) / A else 0) t m+(if m < n then (c m:Rat) / A else 0)*t^m)*A=pe (rc c) t m+rc c m*t^m
    rw [if_pos (by omega),← ih (by omega)];have:(c m:Rat) / A*A=(c m:Rat):=Rat.div_mul_cancel (by grind);show _=_+(c m:Rat)*t^m
    grind
  have e2:FF c t=pe (rc c) t n+a*t^n:=by
   rw [← FF_lg z,show lg c=n+1 by omega,ha];rfl
  rw [e2,← e n (Nat.le_refl _)];obtain ⟨P,hP⟩:∃ P,P=pe (fun i=>if i < n then (c i:Rat) / A else 0) t n:=⟨_,rfl⟩
  rw [← hP] at h1 ⊢;have h5:Far (P+(if A=a then 1 else -1)*t^n) 1:=by
   unfold Ab at h1;split
   ·rcases h2 with k | k
    ·left;grind
    ·right;grind
   ·rcases h2 with k | k
    ·right;grind
    ·left;grind
  have h6:=Far.mul (d:=1) (e:=A) (by grind) (by grind) h5 (Or.inl (show A≤A by grind));have e3:(P+(if A=a then 1 else -1)*t^n)*A=P*A+a*t^n:=by
   split
   ·rename_i k;rw [← k];grind
   ·rename_i k
    have:A= -a:=by rcases hAa with x | x;exact absurd x k;exact x
    have ha':a= -A:=by grind
    rw [ha'];grind
  rw [e3] at h6;rcases h6 with k | k
  ·left;grind
  ·right;grind
 rw [hb];constructor
 ·apply Classical.byContradiction
  intro nc;obtain ⟨q,hq⟩:=hC.lo;obtain ⟨t,t1,t2,ht⟩:=v (1 / 2) (by grind) q (-(1+H)) hq nc;unfold Ab at ht
  rcases far t (-t) (Or.inr (by grind)) (by grind) with k | k <;> grind
 ·intro cc
  obtain ⟨r,hr⟩:=hC.hi;obtain ⟨t,t1,t2,ht⟩:=v (1 / 2) (by grind) (1+H) r cc hr;unfold Ab at ht;rcases far t t (Or.inl rfl) (by grind) with k | k <;> grind
end
theorem aQSignN{K L n:Nat}{c:Nat→Int}{q:Rat}(zc:z20 c)(hn:n=lg c)(hK:K+L≤476000:=by omega)(hL:L≤476000:=by omega):ACall Tryz.prog 74 [.one (qrow K n (rc c)),.agg (qn L q)] (.d (.one (.v (.int .i64 (sgq (FF c q)))))):=by
 subst hn;have hlc:=lg_le c;have h:=aQSign (a:=qrow K (lg c) (rc c)) (K:=K) (c:=c) (n:=lg c) (fun _ _ _ h=>h) (isq L q) (D:=20) (T:=K+L+140) (M:=21*(K+L+140)) (by omega) (by decide) (Nat.le_refl _) (Nat.le_refl _) (by omega);rw [sgn_vl] at h;rw [show sgq (FF c q)=sgq (pz c q (lg c)) by rw [← FF_lg zc];rfl];exact h
theorem leo_iapp{e:TypeId}{i:Nat}{S:List Int}{el2:Nat→Nat→Lf}(h2:el2 0 0= .v (.int .i64 (S.getD i 0))):AO.le (.row e 1 (i+1) (appEl i (sgl S) el2)) (.row e 1 (i+1) (sgl S)):=leo_row fun p hp j hj B w v hv=>by
 obtain rfl:j=0:=by omega
 unfold appEl at hv
 by_cases h:p < i
 ·rw [show Nat.ble (p+1) i=true from Nat.ble_eq_true_of_le h] at hv;exact hv
 ·obtain rfl:p=i:=by omega
  rw [show Nat.ble (p+1) p=false from by rw [← Bool.not_eq_true,Nat.ble_eq];omega,Nat.sub_self] at hv;exact (show LfR B w (el2 0 0) v from hv) |> fun h9=>by rw [h2] at h9;exact h9
theorem ACall.exh{α:Type}{P:Program}{f:FuncId}{Q:α→Prop}{L:α→Lf}{ds:List DV}{res:AV}(hen:∀ vs w,(callFunc f vs).run P w= .ok (.enter f vs) w)(h:∀ x,Q x→ACall P f (.one (L x) ::ds) res):ACall P f (.one (exL Q L) ::ds) res:=
 ⟨hen,fun B w vs hB hd=>match vs,hd with | v ::vs,⟨⟨x,hq,hl⟩,h2⟩=>(h x hq).go B w (v ::vs) hB ⟨hl,h2⟩⟩
def qac(K:Nat)(c:Nat→Int)(KC X:Nat)(lo:Rat)(Y:Nat)(hi:Rat):List Lf:= [qrow K (lg c) (rc c)] ++ [exL (ChQ c KC) (fun L=>qlr KC L)] ++qn X lo ++qn Y hi
theorem qb_mono{K L:Nat}{q:Rat}(h:Qb K q)(k:K≤L):Qb L q:=⟨Nat.lt_of_lt_of_le h.1 (Nat.pow_le_pow_right (by decide) k),Nat.lt_of_lt_of_le h.2 (Nat.pow_le_pow_right (by decide) k)⟩
theorem aQTurnsAt{KC X:Nat}{L:List (Nat→Int)}{t:Rat}(hz:∀ i,z20 (gl L i))(hL:L.length≤100000:=by omega)(hK:KC≤100000:=by omega)(hX:KC+X≤476000:=by omega):ACall Tryz.prog 117 [.one (qlr KC L),.agg (qn X t)] (.d (.one (.v (.int .i64 ((vr (sgL L t):Nat):Int))))):=by
 refine aN 24 [.tmp 4] Tryz.func117 rfl<|cR<|mO rfl<|mW rfl<|mT<|cR<|mW rfl<|mT<|cSeq<|cR<|mv3 rfl rfl rfl<|mT<|cBlock<|AW.wk (wkNil 5 5 3 1 (fun _ _=> .v undef) rfl rfl)<|cLoop (ι:=Nat) (fun (i:Nat)=>⟨24,[(0,.d (.one (.row 1 L.length (elQ KC L)))),(3,.ptr 3 0),(8,.d (.one (.v (.int .i64 ((L.length:Nat):Int))))),(5,.own 5),(9,.d (.one (.v (.int .i64 ((i:Nat):Int)))))],[(3,.box 49 (qn X t)),(5,.row 3 1 i (sgl (sgL L t)))]⟩) (fun (i:Nat)=>i≤L.length) (fun (i:Nat)=>L.length-i) 0 (Nat.zero_le _) (wk rfl ⟨hs rfl,hs rfl,hs rfl,hs rfl,hs' rfl (le_int rfl),trivial⟩ ⟨ho rfl,ho' rfl (leo_row0),trivial⟩ rfl) ?_;rintro i hI;have hi:i≤L.length:=hI;show AW _ _ _ ⟨_,_,_⟩
 refine cR<|mW rfl<|mT<|cSeq<|cCond rfl (fun hc1=>?_) (fun hc1=>?_)
 ·refine cSkip<|tN<|cSeq<|cBlock<|cR<|mv2 rfl rfl<|mT ?_;have hin:i < L.length:=by have h0:=of_decide_eq_true hc1;omega
  refine cDk 8<|.cons (OpS.V _ rfl)<|.cons (OpS.V _ rfl)<|.cons (OpS.V _ rfl)<|.cons (OpS.V (.d (.one (.at 1 ((elQ KC L) i)))) (ixR (el:=(elQ KC L)) (z:=((i:Nat):Int)) (n:=L.length) rfl rfl rfl rfl rfl rfl (by omega) (by omega))) ?_;exact oV rfl<|oV rfl<|oC (aQSignN (hz i) rfl) rfl<|.cons (OpS.B _ rfl)<|.nil<|mA hTT (id:=5) (n:=i) (m:=1) (el:=(sgl (sgL L t))) (el2:=(fun i' j'=>(([.v (.int .i64 (sgq (FF (gl L i) t)))])[i'*1+j']?).getD (.v undef))) rfl rfl rfl (by show (i+1)*8≤140737488355328;omega) (by omega) rfl rfl rfl rfl rfl rfl rfl rfl rfl rfl<|mW rfl<|mNil<|bN<|tN<|cReg<|mv2 rfl rfl<|mNil<|⟨(i+1),by omega,by omega,wk rfl ⟨hs rfl,hs rfl,hs rfl,hs rfl,hs' rfl (le_int (inc64 (by omega))),trivial⟩ ⟨ho rfl,ho' rfl (leo_iapp (by rw [sgL_at hin];rfl)),trivial⟩ rfl⟩
 ·refine cExit<|tE<|tE<|bE<|tN<|cSeq ?_;have hie:i=L.length:=by have h0:=of_decide_eq_false hc1;omega
  have hSl:(sgL L t).length=L.length:=by unfold sgL;rw [List.length_map]
  rw [← hSl] at hie;subst hie;exact AW.wk (wkRow 5 rfl)<|cReg<|mW rfl<|mY (aQTurns (sgL_3 L t) (by omega)) rfl<|mW rfl<|mT<|cRet<|rQ rfl (AV.le.rfl)
theorem aQBtwL{KC X Y:Nat}{c:Nat→Int}{L:List (Nat→Int)}{lo hi:Rat}(hQ:ChQ c KC L)(hab:lo≤hi)(hK:KC≤100000)(hX:KC+X≤476000)(hY:KC+Y≤476000):ACall Tryz.prog 79 [.one (qlr KC L),.agg (qn X lo),.agg (qn Y hi)] (.d (.one (.v (.int .i64 ((cntC c lo hi:Nat):Int))))):=by
 obtain ⟨hc1,_,_⟩:=hQ.cnt hab;obtain ⟨_,hln⟩:=hQ.len;have hvl:vr (sgL L lo)≤L.length:=by have:=vrA_le (sgL L lo) 0;unfold sgL at this;rw [List.length_map] at this;exact this
 exact aN 18 [.tmp 6] Tryz.func79 rfl<|cR<|mO rfl<|mO rfl<|mW rfl<|mT<|cSeq<|cR<|mv2 rfl rfl<|mY (aRCmpR (isq Y hi) (isq X lo)) rfl<|mdF rfl (by have:=cmpQ_ge.2 hab;omega)<|mT<|cFs rfl<|cSeq<|cDk 8<|.cons (OpS.V _ rfl)<|oV rfl<|oC (aQTurnsAt hQ.zz) rfl<|.cons (OpS.V _ rfl)<|oV rfl<|oC (aQTurnsAt hQ.zz) rfl<|.cons (OpS.V (.d (.one (.v (.int .i64 ((cntC c lo hi:Nat):Int))))) (evi ((wr64 (by omega) (by omega)).trans (by omega))))<|.cons (OpS.V _ rfl)<|.nil<|mT<|cRet<|rQ rfl (AV.le.rfl)
theorem aQBtw{KC X Y:Nat}{c:Nat→Int}{lo hi:Rat}(hab:lo≤hi)(hK:KC≤100000)(hX:KC+X≤476000)(hY:KC+Y≤476000):ACall Tryz.prog 79 [.one (exL (ChQ c KC) (fun L=>qlr KC L)),.agg (qn X lo),.agg (qn Y hi)] (.d (.one (.v (.int .i64 ((cntC c lo hi:Nat):Int))))):=
 ACall.exh (enters Tryz.func79 rfl rfl) fun L hQ=>aQBtwL hQ hab hK hX hY
theorem aQExact{K KC X:Nat}{c:Nat→Int}{lo hi:Rat}(zc:z20 c)(hX:X≤100000)(hK:K≤100000):ACall Tryz.prog 38 [.agg ([.row 4 (lg c) (qel K (rc c))] ++ [exL (ChQ c KC) (fun L=>qlr KC L)] ++qn X lo ++qn X hi)] (.d (.agg ([.row 4 (lg c) (qel K (rc c))] ++ [exL (ChQ c KC) (fun L=>qlr KC L)] ++qn X ((exF c lo hi).1) ++qn X ((exF c lo hi).2)))):=by
 have hlc:=lg_le c;refine aN 21 [.cell 2 51] Tryz.func38 rfl<|cR<|mO rfl<|mO rfl<|mT<|cSeq<|cSeq ?_
 by_cases he:lo=hi
 ·exact cReg<|mv4 rfl rfl rfl rfl<|mY (aRCmpR (isq X lo) (isq X hi)) rfl<|mbF rfl (by rw [cmpQ_eq he];rfl)<|mW rfl<|mG rfl rfl<|mG rfl rfl<|mG rfl rfl<|mG rfl rfl<|mG rfl rfl<|mG rfl rfl<|mW rfl<|mT<|cFs rfl<|cR<|mW rfl<|mZ rfl<|mT<|cRet<|rQ rfl (by rw [show exF c lo hi=(lo,hi) from if_neg (fun k=>k.1 he)];exact AV.le.rfl)
 ·by_cases h0:sgq (FF c hi)=0
  ·exact cReg<|mv4 rfl rfl rfl rfl<|mY (aRCmpR (isq X lo) (isq X hi)) rfl<|mbT rfl (bne_iff_ne.2 fun e=>he (cmpQ_zero.1 e))<|mv5 rfl rfl rfl rfl rfl<|mY (aQSignN (zc) rfl) rfl<|mbT rfl (beq_iff_eq.2 h0)<|mW rfl<|mT<|cT rfl<|cReg<|mv3 rfl rfl rfl<|mZ rfl<|mT<|cR<|mW rfl<|mZ rfl<|mT<|cRet<|rQ rfl (by rw [show exF c lo hi=(hi,hi) from if_pos ⟨he,h0⟩];exact AV.le.rfl)
  ·exact cReg<|mv4 rfl rfl rfl rfl<|mY (aRCmpR (isq X lo) (isq X hi)) rfl<|mbT rfl (bne_iff_ne.2 fun e=>he (cmpQ_zero.1 e))<|mv5 rfl rfl rfl rfl rfl<|mY (aQSignN (zc) rfl) rfl<|mbF rfl (beq_eq_false_iff_ne.2 h0)<|mW rfl<|mT<|cFs rfl<|cR<|mW rfl<|mZ rfl<|mT<|cRet<|rQ rfl (by rw [show exF c lo hi=(lo,hi) from if_neg (fun k=>h0 k.2)];exact AV.le.rfl)
def elA(K:Nat)(c:Nat→Int)(KC X:Nat)(l:List (Rat×Rat)):Nat→Nat→Lf:=fun i j=>((qac K c KC X (l.getD i (0,0)).1 X (l.getD i (0,0)).2)[j]?).getD (.v undef)
section
variable {e:TypeId} {K:Nat} {c:Nat→Int} {KC X:Nat}
theorem leo_aone{p:Rat×Rat}{el2:Nat→Nat→Lf}(h:∀ j,j < 10→el2 0 j=((qac K c KC X p.1 X p.2)[j]?).getD (.v undef)):AO.le (.row e 10 1 el2) (.row e 10 [p].length (elA K c KC X [p])):=leo_row fun i hi j hj B w v hv=>by
 obtain rfl:i=0:=by omega
 rw [h j hj] at hv;exact hv
theorem leo_aapp{l l2:List (Rat×Rat)}:AO.le (.row e 10 (l.length+l2.length) (appEl l.length (elA K c KC X l) (elA K c KC X l2))) (.row e 10 (l ++l2).length (elA K c KC X (l ++l2))):=by
 rw [List.length_append];refine leo_row fun i hi j hj B w v hv=>?_
 unfold appEl at hv
 by_cases h:i < l.length
 ·rw [show Nat.ble (i+1) l.length=true from Nat.ble_eq_true_of_le h] at hv
  have e2:(l ++l2).getD i (0,0)=l.getD i (0,0):=by rw [List.getD_eq_getElem?_getD,List.getD_eq_getElem?_getD,List.getElem?_append_left h]
  unfold elA;rw [e2];exact hv
 ·rw [show Nat.ble (i+1) l.length=false from by rw [← Bool.not_eq_true,Nat.ble_eq];omega] at hv
  have e2:(l ++l2).getD i (0,0)=l2.getD (i-l.length) (0,0):=by rw [List.getD_eq_getElem?_getD,List.getD_eq_getElem?_getD,List.getElem?_append_right (by omega)]
  unfold elA;rw [e2];exact hv
end
theorem Tb.qb{K L:Nat}{q:Rat}(h:Tb K q)(k:3*K≤L):Qb L q:=⟨Nat.lt_of_lt_of_le (Nat.lt_of_lt_of_le h.1 (b32_b4 K)) (Nat.pow_le_pow_right (by decide) k),Nat.lt_of_lt_of_le (Nat.lt_of_lt_of_le h.2 (b32_b4 K)) (Nat.pow_le_pow_right (by decide) k)⟩
theorem Qb.tb{K L:Nat}{q:Rat}(h:Qb (2*K) q)(k:K≤L):Tb L q:=tb_mono ⟨Nat.lt_of_lt_of_le h.1 (b4_b32 K),Nat.lt_of_lt_of_le h.2 (b4_b32 K)⟩ k
theorem Dz.mid{L J:Nat}{p q:Rat}(h:Dz L J p q):Dz L (J+1) p ((p+q) / 2)∧Dz L (J+1) ((p+q) / 2) q:=by
 obtain ⟨D,R,a,b,c,d,e⟩:=h.e;have hm:=d.mid e;exact ⟨⟨D,R,a,b,c,d.mono (Nat.le_succ _),hm⟩,⟨D,R,a,b,c,hm,e.mono (Nat.le_succ _)⟩⟩
theorem Dz.qb{L J X:Nat}{p q:Rat}(h:Dz L J p q)(hX:3*(3*L+J / 32+1)≤X):Qb X p∧Qb X q:=by
 obtain ⟨a,b⟩:=h.tb (Nat.le_refl _);exact ⟨a.qb hX,b.qb hX⟩
/-- An interval on the way down. -/
structure SpI(c:Nat→Int)(h1 L J d:Nat)(lo hi:Rat):Prop where
 le:lo≤hi
 l: -(t2 (h1+1))≤lo
 h:hi≤t2 (h1+1)
 w:(hi-lo)*t2 (sepE (lg c) (lg c) h1 h1)≤t2 d
 d:Dz L J lo hi
theorem SpI.down{c:Nat→Int}{h1 L J d:Nat}{lo hi:Rat}(h:SpI c h1 L J (d+1) lo hi):SpI c h1 L (J+1) d lo ((lo+hi) / 2)∧SpI c h1 L (J+1) d ((lo+hi) / 2) hi:=by
 obtain ⟨a1,a2,a3,a4,a5⟩:=h;obtain ⟨m,hm⟩:∃ m,m=(lo+hi) / 2:=⟨_,rfl⟩
 have hd:=a5.mid;rw [← hm] at hd ⊢;have hE:=t2_pos (sepE (lg c) (lg c) h1 h1);have e2:t2 (d+1)=t2 d*2:=by rw [t2_add d 1];rfl
 have w1:m-lo=(hi-lo) / 2:=by grind
 have w2:hi-m=(hi-lo) / 2:=by grind
 refine ⟨⟨by grind,a2,by grind,?_,hd.1⟩,⟨by grind,by grind,a3,?_,hd.2⟩⟩
 ·rw [w1];rw [e2] at a4;grind
 ·rw [w2];rw [e2] at a4;grind
theorem SpI.ok{c:Nat→Int}{h1 L J d:Nat}{lo hi:Rat}(h:SpI c h1 L J d lo hi)(hC:Cnt c)(b1:∀ i,(c i).natAbs≤2^h1):SpP c lo hi (spF c (d+1) lo hi):=spF_ok hC b1 d lo hi h.le h.l h.h h.w
theorem sp_0{c:Nat→Int}{n:Nat}{lo hi:Rat}(h:cntC c lo hi=0):spF c (n+1) lo hi= []:=if_pos h
theorem sp_1{c:Nat→Int}{n:Nat}{lo hi:Rat}(h:cntC c lo hi=1):spF c (n+1) lo hi= [exF c lo hi]:=by
 show (if cntC c lo hi=0 then [] else _)=_
 rw [if_neg (by omega),if_pos h]
theorem sp_2{c:Nat→Int}{n:Nat}{lo hi:Rat}(h0:¬ cntC c lo hi=0)(h1:¬ cntC c lo hi=1):spF c (n+1) lo hi=spF c n lo ((lo+hi) / 2) ++spF c n ((lo+hi) / 2) hi:=by
 show (if cntC c lo hi=0 then [] else _)=_
 rw [if_neg h0,if_neg h1]
/-- How deep. -/
def rtD(c:Nat→Int)(h1:Nat):Nat:=sepE (lg c) (lg c) h1 h1+h1+2
/-- ALL ROOTS. -/
noncomputable def rtF(c:Nat→Int)(h1:Nat):List (Rat×Rat):=spF c (rtD c h1+1) (-(bdQ c)) (bdQ c)
theorem rt_start{c:Nat→Int}{h1 L:Nat}(hC:Cnt c)(b1:∀ i,(c i).natAbs≤2^h1)(hL:Tb L (bdQ c)):SpI c h1 L 0 (rtD c h1) (-(bdQ c)) (bdQ c):=by
 have h0:lg c≠0:=by have:=hC.l2;omega
 have g1:=bdQ_ge h0;have g2:=bdQ_le h0 b1;have hp:=t2_one h1;have e1:((2^h1:Nat):Rat)=t2 h1:=by unfold t2;rfl
 have e2:t2 (h1+1)=t2 h1*2:=by rw [t2_add h1 1];rfl
 rw [e1] at g2;have hE:=t2_pos (sepE (lg c) (lg c) h1 h1);refine ⟨by grind,by rw [e2];grind,by rw [e2];grind,?_,dz_start ?_ hL⟩
 ·have w1:bdQ c- -(bdQ c)≤t2 (h1+2):=by rw [show h1+2=h1+1+1 from rfl,t2_add (h1+1) 1,e2,show t2 1=2 from rfl];grind
  have:=Rat.mul_le_mul_of_nonneg_right w1 (show 0≤t2 (sepE (lg c) (lg c) h1 h1) by grind);unfold rtD;rw [Nat.add_assoc,t2_add (sepE _ _ _ _) (h1+2)];grind
 ·exact ⟨by rw [Rat.neg_num,Int.natAbs_neg];exact hL.1,by rw [Rat.neg_den];exact hL.2⟩
/-- What all roots are. -/
structure RtP(c:Nat→Int)(l:List (Rat×Rat)):Prop where
 ok:∀ p∈l,OkV c p.1 p.2∧EX c p.1 p.2
 all:∀ C,IsCut C→VC (FF c) C→∃ p∈l,∀ q,cutA c p.1 p.2 q↔C q
 rise:l.Pairwise fun p q=>cmpC (cutA c p.1 p.2) (cutA c q.1 q.2)= -1
 len:l.length=cntC c (-(bdQ c)) (bdQ c)
theorem rt_ok{c:Nat→Int}{h1 L:Nat}(hC:Cnt c)(b1:∀ i,(c i).natAbs≤2^h1)(hL:Tb L (bdQ c)):RtP c (rtF c h1):=by
 have h:=(rt_start hC b1 hL).ok hC b1;exact ⟨fun p hp=>⟨(h.ok p hp).1,(h.ok p hp).2.1⟩,fun C hI v=>by
  obtain ⟨k1,k2⟩:=bdQ_vc hC.z (by have:=hC.l2;omega) hI v;exact h.all C hI v k1 k2,h.rise,h.len⟩
end Go.Proofs.YtapmpcgekdplfaaGreat
