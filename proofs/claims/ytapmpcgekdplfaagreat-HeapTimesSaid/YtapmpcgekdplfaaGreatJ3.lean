/-
  Laws of the program's functions by an abstract machine, part 3: joined, short spelling. No condition.
-/
import Derived.Test.YtapmpcgekdplfaaGreatJ2
set_option linter.unusedVariables false
set_option linter.unusedSimpArgs false
set_option maxRecDepth 100000
set_option maxHeartbeats 4000000
namespace Go.Proofs.YtapmpcgekdplfaaGreat
open Go.RowKit
theorem Pr.dv_mul{π x y:Fn}(h:Pr π)(px:Po x)(py:Po y)(hd:Dv π (fun t=>x t*y t)):Dv π x∨Dv π y:=by
 rcases h.2.2 x px with h1 | h1
 ·exact Or.inl h1
 ·exact Or.inr (h1.dv py hd)
theorem Pr.ne{π:Fn}(h:Pr π):∃ t,π t≠0:=let ⟨_,⟨_,_,_,hl⟩,_⟩:=h;hl.ne
theorem Pr.der{π π':Fn}(h:Pr π)(hd:Der π π')(pp:Po π'):Cop π π':=by
 rcases h.2.2 π' pp with h1 | h1
 ·exfalso
  obtain ⟨_,⟨k,a,hk,hl⟩,_⟩:=h;obtain ⟨j,rfl⟩:∃ j,k=j+1:=⟨k-1,by omega⟩
  have:=h1.deg hl (hl.der hd);omega
 ·exact h1
/-- How often a prime polynomial is there. -/
theorem ex_mult{π a:Fn}(h:Pr π)(pa:Po a)(hne:∃ t,a t≠0):∃ (k:Nat) (b:Fn),Po b∧(∀ x,a x=π x^k*b x)∧¬ Dv π b:=by
 obtain ⟨n,α,ha⟩:=po_deg pa hne;obtain ⟨m,β,hm,hl⟩:=h.2.1;have key:∀ (n:Nat) (a:Fn) (α:Rat),Po a→Lc n a α→∃ (k:Nat) (b:Fn),Po b∧(∀ x,a x=π x^k*b x)∧¬ Dv π b:=by
  intro n
  induction n using Nat.strongRecOn with
  | ind n ih=>
   intro a α pa ha
   by_cases hd:Dv π a
   ·obtain ⟨q,pq,e⟩:=hd
    obtain ⟨i,γ,hi⟩:=po_deg pq (by obtain ⟨y,hy⟩:=ha.ne;exact ⟨y,fun h0=>hy (by rw [e,h0];grind)⟩);have h1:=((hi.mul hl).congr fun x=>(e x).symm).uniq ha;obtain ⟨k,b,pb,hb,hnb⟩:=ih i (by omega) q γ pq hi;exact ⟨k+1,b,pb,fun x=>by rw [e,hb,Rat.pow_succ];grind,hnb⟩
   ·exact ⟨0,a,pa,fun x=>by rw [Rat.pow_zero];grind,hd⟩
 exact key n a α pa ha
/-- A and its derivative: what is left over their common divisor has each prime factor once. -/
theorem sqf_once{π a a' f g u v w:Fn}(h:Pr π)(pa:Po a)(hne:∃ t,a t≠0)(hda:Der a a')(pa':Po a')(pf:Po f)(pg:Po g)(hfg:∀ x,a x=f x*g x)(pu:Po u)(pv:Po v)(hg:∀ x,g x=u x*a x+v x*a' x)(pw:Po w)(hga:∀ x,a' x=w x*g x)(hd:Dv π a):∃ f1,Po f1∧(∀ x,f x=π x*f1 x)∧¬ Dv π f1:=by
  obtain ⟨pp,hnc,hpr⟩:=h;have h:Pr π:=⟨pp,hnc,hpr⟩;obtain ⟨π',pp',hdp⟩:=pp.der;obtain ⟨K,b,pb,hb,hnb⟩:=ex_mult h pa hne;obtain ⟨k,rfl⟩:∃ k,K=k+1:=by
    cases K with
    | zero=>exact absurd (hd.congr fun x=>by rw [hb,Rat.pow_zero];grind) hnb
    | succ k=>exact ⟨k,rfl⟩
  obtain ⟨b',pb',hdb⟩:=pb.der;have ha':∀ x,a' x=π x^k*(((k+1:Nat):Rat)*π' x*b x+π x*b' x):=by
    intro x;have h1:=((hdp.pow pp pp' k).mul hdb (pp.pow (k+1)) pb (((pp.pow k).mul pp').scl ((k+1:Nat):Rat) |>.congr fun x=>by grind));have h2:=(h1.congr (fun x=>(hb x).symm) (fun _=>rfl)).uniq hda x;rw [← h2,Rat.pow_succ];grind
  have pk:=pp.pow k;have nk:∃ t,π t^k≠0:=by
    obtain ⟨j,α,hj⟩:=pow_ne_fn (let ⟨k,a,_,hl⟩:=hnc;⟨k,a,hl⟩) k;exact hj.ne
  have hg1:∀ x,g x=π x^k*(u x*π x*b x+v x*(((k+1:Nat):Rat)*π' x*b x+π x*b' x)):=by
    intro x;rw [hg,hb,ha',Rat.pow_succ];grind
  obtain ⟨g1,hg1e⟩:∃ g1:Fn,g1=fun x=>u x*π x*b x+v x*(((k+1:Nat):Rat)*π' x*b x+π x*b' x):=⟨_,rfl⟩
  have pg1:Po g1:=by
    rw [hg1e];exact (((pu.mul pp).mul pb).add (pv.mul ((((pp'.scl ((k+1:Nat):Rat)).mul pb).add (pp.mul pb')).congr fun x=>by grind)))
  have hgg:∀ x,g x=π x^k*g1 x:=fun x=>by rw [hg1,hg1e]
  have hng1:¬ Dv π g1:=by
    rintro ⟨q,pq,hq⟩;have e1:=po_cancel2 pk nk ((((pp'.scl ((k+1:Nat):Rat)).mul pb).add (pp.mul pb')).congr (g:=fun x=>((k+1:Nat):Rat)*π' x*b x+π x*b' x) fun x=>by grind) ((pw.mul pq).mul pp) (fun x=>by
      rw [← ha',hga,hgg,hq];grind)
    have e2:Dv π (fun x=>π' x*b x):=by
      have hk0 : ((k + 1 : Nat) : Rat) ≠ 0 := by intro e; have : (k + 1 : Nat) = 0 := by exact_mod_cast e
                                                 omega
      refine ⟨fun x=>(w x*q x-b' x)*((k+1:Nat):Rat)⁻¹,((pw.mul pq).sub pb').scl _,fun x=>?_⟩;have h3:=e1 x;have h4:=Rat.mul_inv_cancel _ hk0;generalize ((k+1:Nat):Rat)=N at *
      generalize N⁻¹=M at *
      have h5:N*π' x*b x=(w x*q x-b' x)*π x:=by grind
      have h6:π' x*b x=M*(N*π' x*b x):=by grind
      show π' x*b x=(w x*q x-b' x)*M*π x
      rw [h6,h5];grind
    exact hnb ((h.der hdp pp').dv pb e2)
  have e3:=po_cancel2 pk nk (pp.mul pb) (pf.mul pg1) (fun x=>by
    have h1:π x^(k+1)*b x=f x*(π x^k*g1 x):=by rw [← hb,← hgg,← hfg]
    rw [Rat.pow_succ] at h1;grind)
  have e4:Dv π f:=by
    rcases h.dv_mul pf pg1 ⟨b,pb,fun x=>by have:=e3 x;grind⟩ with h1 | h1
    · exact h1
    · exact absurd h1 hng1
  obtain ⟨f1,pf1,hf1⟩:=e4;refine ⟨f1,pf1,fun x=>by rw [hf1];grind,fun hd1=>?_⟩;have e5:=po_cancel2 pp h.ne pb (pf1.mul pg1) (fun x=>by have:=e3 x;have:=hf1 x;grind);exact hnb ((hd1.mulr pg1).congr fun x=>(e5 x).symm)
/-- It is squarefree. -/
theorem sqf_cop{a a' f f' g u v w:Fn}(pa:Po a)(hne:∃ t,a t≠0)(hda:Der a a')(pa':Po a')(pf:Po f)(pg:Po g)(hfg:∀ x,a x=f x*g x)(pu:Po u)(pv:Po v)(hg:∀ x,g x=u x*a x+v x*a' x)(pw:Po w)(hga:∀ x,a' x=w x*g x)(hdf:Der f f')(pf':Po f'):Cop f f':=by
 obtain ⟨n,pn⟩:=pf';obtain ⟨d,p,q,s,t,pd,pp,pq,ps,pt,e1,e2,e3⟩:=po_gcd n f f' pf pn;have pf':Po f':=⟨n,pn⟩;have hfne:∃ t,f t≠0:=by obtain ⟨y,hy⟩:=hne;exact ⟨y,fun h0=>hy (by rw [hfg,h0];grind)⟩
 obtain ⟨k,δ,hd⟩:=po_deg pd (by obtain ⟨y,hy⟩:=hfne;exact ⟨y,fun h0=>hy (by rw [e2,h0];grind)⟩)
 by_cases hk:k=0
 ·subst hk
  have hc:=lc_const hd;have h0:δ≠0:=hd.choose_spec.2.2.1;exact ⟨fun x=>p x*δ⁻¹,fun x=>q x*δ⁻¹,pp.scl _,pq.scl _,fun x=>by have h5:=e1 x;rw [hc] at h5;have:=Rat.mul_inv_cancel δ h0;grind⟩
 ·exfalso
  obtain ⟨π,hπ,hdv⟩:=ex_pr k d δ hd (by omega) pd;have hpf:Dv π f:=hdv.trans ⟨s,ps,e2⟩;have hpf':Dv π f':=hdv.trans ⟨t,pt,e3⟩;obtain ⟨f1,pf1,hf1,hn⟩:=sqf_once hπ pa hne hda pa' pf pg hfg pu pv hg pw hga (hpf.trans ⟨g,pg,fun x=>by rw [hfg];grind⟩);obtain ⟨π',pp',hdp⟩:=hπ.1.der;obtain ⟨f1',pf1',hdf1⟩:=pf1.der;have e4:∀ x,f' x=π' x*f1 x+π x*f1' x:=fun x=>(((hdp.mul hdf1 hπ.1 pf1 pp').congr (fun x=>(hf1 x).symm) (fun _=>rfl)).uniq hdf x).symm
  obtain ⟨r,pr,hr⟩:=hpf';have e5:Dv π (fun x=>π' x*f1 x):=⟨fun x=>r x-f1' x,pr.sub pf1',fun x=>by have:=e4 x;have:=hr x;grind⟩;exact hn ((hπ.der hdp pp').dv pf1 e5)
/-- A power of it is a multiple of the whole. -/
theorem sqf_pow{a a' f g u v w:Fn}(pa:Po a)(hne:∃ t,a t≠0)(hda:Der a a')(pa':Po a')(pf:Po f)(pg:Po g)(hfg:∀ x,a x=f x*g x)(pu:Po u)(pv:Po v)(hg:∀ x,g x=u x*a x+v x*a' x)(pw:Po w)(hga:∀ x,a' x=w x*g x):∃ N:Nat,Dv a (fun x=>f x^N):=by
 have key:∀ (n:Nat) (b:Fn) (β:Rat),Lc n b β→Po b→Dv b a→∃ N:Nat,Dv b (fun x=>f x^N):=by
  intro n
  induction n using Nat.strongRecOn with
  | ind n ih=>
   intro b β hb pb hba
   by_cases hn:n=0
   ·subst hn
    have h0:β≠0:=hb.choose_spec.2.2.1;exact ⟨0,fun _=>β⁻¹,po_const _,fun x=>by show f x^0=β⁻¹*b x;rw [Rat.pow_zero,lc_const hb];have:=Rat.mul_inv_cancel β h0;grind⟩
   ·obtain ⟨π,hπ,q,pq,hq⟩:=ex_pr n b β hb (by omega) pb
    obtain ⟨f1,pf1,hf1,_⟩:=sqf_once hπ pa hne hda pa' pf pg hfg pu pv hg pw hga (Dv.trans ⟨q,pq,hq⟩ hba);obtain ⟨i,γ,hi⟩:=po_deg pq (by obtain ⟨y,hy⟩:=hb.ne;exact ⟨y,fun h0=>hy (by rw [hq,h0];grind)⟩);obtain ⟨m,μ,hm,hl⟩:=hπ.2.1;have h1:=((hi.mul hl).congr fun x=>(hq x).symm).uniq hb;obtain ⟨N,r,pr,hr⟩:=ih i (by omega) q γ hi pq (Dv.trans ⟨π,hπ.1,fun x=>by rw [hq];grind⟩ hba);exact ⟨N+1,fun x=>r x*f1 x,pr.mul pf1,fun x=>by show f x^(N+1)=r x*f1 x*b x;have h2:f x^N=r x*q x:=hr x;rw [Rat.pow_succ,h2,hq x,hf1 x];grind⟩
 obtain ⟨n,α,ha⟩:=po_deg pa hne;exact key n a α ha pa (.refl a)
/-! ### Chains of polynomials -/
def PCh(a b:Fn):List Fn→Prop
 | []=>∃ c,c≠0∧∀ x,b x=c
 | c ::l=>(∃ (Q:Fn) (k:Rat),Po Q∧0 < k∧∀ x,a x=Q x*b x-k*c x)∧PCh b c l
theorem pch_chn(B:Rat):∀ (l:List Fn) (a b:Fn),PCh a b l→Chn B a b l
 | [],_,_,h=>h
 | c ::l,a,b,⟨⟨Q,k,pQ,hk,h⟩,hl⟩=>by
  obtain ⟨M,hM,hb⟩:=pQ.bd B;exact ⟨⟨Q,M,k,hM,hk,fun x hx=>hb x hx,h⟩,pch_chn B l b c hl⟩
theorem Lip.mono{B L M:Rat}{f:Fn}(h:Lip B f L)(k:L≤M):Lip B f M:=fun x y hx hy hxy=>by
 have:=h x y hx hy hxy;have h2:=Rat.mul_le_mul_of_nonneg_right k (show 0≤y-x by grind);constructor <;> grind
theorem ex_lipall(B:Rat):∀ l:List Fn,(∀ f∈l,Po f)→∃ L,0≤L∧LipAll B L l
 | [],_=>⟨0,by grind,fun f hf=>by cases hf⟩
 | f ::l,h=>by
  obtain ⟨L,hL,h1⟩:=ex_lipall B l fun g hg=>h g (List.mem_cons_of_mem _ hg)
  obtain ⟨M,hM,h2⟩:=(h f List.mem_cons_self).lip B;refine ⟨L+M,by grind,fun g hg=>?_⟩;rcases List.mem_cons.1 hg with rfl | hg
  ·exact h2.mono (by grind)
  ·exact (h1 g hg).mono (by grind)
theorem stm_of{f f' g:Fn}{l:List Fn}{d:Rat}(hp:∀ h∈f ::g ::l,Po h)(hc:PCh f g l)(hd:Der f f')(hpos:0 < d)(hg:∀ x,f' x=d*g x):Stm f g l:=
 ⟨fun B=>pch_chn B l f g hc,fun B=>ex_lipall B _ hp,d,hpos,fun B=>by
  obtain ⟨E,hE,h⟩:=hd B;refine ⟨E,hE,fun s t hs ht hst=>?_⟩;have:=h s t hs ht hst;rw [hg] at this;unfold Ab at this;constructor <;> grind⟩
/-- Each squarefree polynomial has a chain. -/
theorem ex_pch:∀ (m:Nat) (a b:Fn) (β:Rat),Po a→Lc m b β→Po b→Cop a b→∃ l:List Fn,(∀ h∈l,Po h)∧PCh a b l:=by
 intro m
 induction m using Nat.strongRecOn with
 | ind m ih=>
  intro a b β pa hb pb hc
  by_cases hm:m=0
  ·subst hm
   have h0:PCh a b []:=⟨β,hb.choose_spec.2.2.1,lc_const hb⟩;exact ⟨[],⟨fun h hh=>(List.not_mem_nil hh).elim,h0⟩⟩
  ·obtain ⟨n,pn⟩:=pa
   obtain ⟨q,r,pq,pr,hqr⟩:=po_div hb n a pn;obtain ⟨u,v,pu,pv,huv⟩:=hc;rcases pl_tri pr with h0 | ⟨k,γ,hk,hr⟩
   ·exfalso
    have h1:∀ x,(u x*q x+v x)*b x=1:=fun x=>by have:=huv x;have:=hqr x;rw [h0 x] at this;grind
    obtain ⟨j,δ,hj⟩:=po_deg ((pu.mul pq).add pv) ⟨0,fun e=>by have:=h1 0;rw [e] at this;grind⟩;have:=((hj.mul hb).congr h1).uniq (lc_cst (a:=1) (by decide));omega
   ·have hnr:Lc k (fun x=> - r x) (-γ):=by
     have:=hr.mul (lc_cst (a:=(-1:Rat)) (by decide));have h2:=this.congr (g:=fun x=> - r x) fun x=>by grind
     rw [show γ* -1= -γ by grind] at h2;exact h2
    obtain ⟨l,hl,hpl⟩:=ih k hk b (fun x=> - r x) (-γ) pb hnr (pr.po.neg) ⟨fun x=>u x*q x+v x,fun x=> - u x,(pu.mul pq).add pv,pu.neg,fun x=>by have:=huv x;have:=hqr x;grind⟩;refine ⟨(fun x=> - r x) ::l,fun h hh=>?_,⟨q,1,pq,by grind,fun x=>by have:=hqr x;grind⟩,hpl⟩;rcases List.mem_cons.1 hh with rfl | hh
    ·exact pr.po.neg
    ·exact hl h hh
/-- SQUAREFREE: with its derivative. -/
structure Sqf(f f':Fn):Prop where
 po:Po f
 po':Po f'
 der:Der f f'
 cop:Cop f f'
theorem Sqf.stm{f f':Fn}(h:Sqf f f')(hn:∃ x,f' x≠0):∃ g l,Stm f g l∧∀ x,sgq (g x)=sgq (f' x):=by
 obtain ⟨m,β,hm⟩:=po_deg h.po' hn;obtain ⟨l,hl,hc⟩:=ex_pch m f f' β h.po hm h.po' h.cop;refine ⟨f',l,stm_of (fun g hg=>?_) hc h.der (show (0:Rat) < 1 by grind) (fun x=>by grind),fun _=>rfl⟩;rcases List.mem_cons.1 hg with rfl | hg
 ·exact h.po
 ·rcases List.mem_cons.1 hg with rfl | hg
  ·exact h.po'
  ·exact hl g hg
theorem Stm.sg{f f' g:Fn}{l:List Fn}(h:Stm f g l)(hd:Der f f')(x:Rat):sgq (g x)=sgq (f' x):=by
 obtain ⟨d,hpos,hb⟩:=h.der;have:Der f (fun x=>d*g x):=fun B=>by
  obtain ⟨E,hE,h⟩:=hb B;refine ⟨E,hE,fun s t hs ht hst=>?_⟩;have:=h s t hs ht hst;unfold Ab;constructor <;> grind
 have e:=hd.uniq this x;rw [e,sgq_mul,sgq_pos hpos,Int.one_mul]
/-- The sign just after x is that. -/
theorem aft_near{f g:Fn}{l:List Fn}(h:Stm f g l)(pf:Po f)(x:Rat):aft f g x≠0∧∃ e,0 < e∧∀ t,x < t→t < x+e→sgq (f t)=aft f g x:=by
 obtain ⟨B,hB1,hB2⟩:∃ B,In B x∧In B (x+1):=⟨(if x < 0 then -x else x)+1,by unfold In;constructor <;> (split <;> grind),by unfold In;constructor <;> (split <;> grind)⟩
 obtain ⟨δ,hδ,hne,hcell⟩:=stm_cell h B;refine ⟨hne x hB1,?_⟩
 by_cases h0:sgq (f x)=0
 ·obtain ⟨e,he,he1,he2⟩:=ex_min hδ (show (0:Rat) < 1 by grind)
  refine ⟨e,he,fun t h1 h2=>?_⟩;have htB:In B t:=by unfold In at *;constructor <;> grind
  rw [aft_of0 h0];rcases hcell x t hB1 htB h1 (by grind) with ⟨⟨k,_⟩,_⟩ | ⟨τ,hτ,hg,hm,_⟩
  ·exact absurd h0 k
  ·rw [hg x (by grind) (by grind)]
   have h3:=hm x t (by grind) h1 (by grind);rw [sgq_eq_zero] at h0;rw [h0] at h3;rwa [show f t-0=f t by grind] at h3
 ·rw [aft_of h0]
  obtain ⟨L,hL,hl⟩:=pf.lip B;obtain ⟨m,hm,hf⟩:∃ m:Rat,0 < m∧Far (f x) m:=by
   rcases sgq_cases (f x) with ⟨k,_⟩ | ⟨_,k⟩ | ⟨k,_⟩
   ·exact ⟨-(f x),by grind,Or.inr (by grind)⟩
   ·exact absurd k h0
   ·exact ⟨f x,k,Or.inl (by grind)⟩
  obtain ⟨d,hd,hs⟩:=ex_small hL hm;obtain ⟨e,he,he1,he2⟩:=ex_min hd (show (0:Rat) < 1 by grind);refine ⟨e,he,fun t h1 h2=>?_⟩;have htB:In B t:=by unfold In at *;constructor <;> grind
  exact (gd_of hl hL hB1 htB hm (hs _ (by grind) (by grind)) hf).2.1 t (by grind) (by grind)
/-- FREE of roots: one sign above a, up to b. -/
def RFree(f:Fn)(a b:Rat):Prop:=∃ s:Int,s≠0∧∀ t,a < t→t≤b→sgq (f t)=s
theorem pab_free{f g:Fn}{l:List Fn}(h:Stm f g l)(pf:Po f){a b:Rat}{N:Nat}(hab:a≤b)(k:Pab f g l a b N):N=0↔RFree f a b:=by
 obtain ⟨h0,e,he,hn⟩:=aft_near h pf a;constructor
 ·intro hN;exact ⟨aft f g a,h0,k.nil.1 hN⟩
 ·rintro ⟨s,hs,hst⟩
  by_cases hlt:a < b
  ·refine k.nil.2 fun t h1 h2=>?_
   rw [hst t h1 h2];obtain ⟨z,hz,hz1,hz2⟩:=ex_min he (show 0 < b-a by grind);have h3:=hn (a+z / 2) (by grind) (by grind);rw [← h3];exact (hst (a+z / 2) (by grind) (by grind)).symm
  ·exact k.nil.2 fun t h1 h2=>by grind
/-- THE COUNT. -/
def Ctd(f:Fn)(a b:Rat)(N:Nat):Prop:=∃ g l,Stm f g l∧Pab f g l a b N
theorem Ctd.free{f:Fn}(pf:Po f){a b:Rat}{N:Nat}(hab:a≤b)(h:Ctd f a b N):N=0↔RFree f a b:=let ⟨_,_,h1,h2⟩:=h;pab_free h1 pf hab h2
theorem stm_uniq{f g g':Fn}{l l':List Fn}(pf:Po f)(h:Stm f g l)(h':Stm f g' l'){a b:Rat}(hab:a≤b){N N':Nat}(k:Pab f g l a b N)(k':Pab f g' l' a b N'):N=N':=by
 obtain ⟨B,hBa,hBb⟩:∃ B,In B a∧In B b:=by
  refine ⟨(if a < 0 then -a else a)+(if b < 0 then -b else b),?_,?_⟩ <;> (unfold In;constructor <;> (repeat' split) <;> grind)
 obtain ⟨δ1,hδ1,_,hcell1⟩:=stm_cell h B;obtain ⟨δ2,hδ2,_,hcell2⟩:=stm_cell h' B;obtain ⟨δ,hδ,hd1,hd2⟩:=ex_min hδ1 hδ2;obtain ⟨n,hn⟩:=ex_cells (r:=b-a) (d:=δ / 2) (by grind);have cell:∀ x y,In B x→In B y→x < y→y-x < δ→∀ M M',Pab f g l x y M→Pab f g' l' x y M'→M=M':=by
  intro x y hx hy hxy hlt M M' p p';obtain ⟨M1,h1,p1⟩:=pab_cell hxy (hcell1 x y hx hy hxy (by grind));obtain ⟨M2,h2,p2⟩:=pab_cell hxy (hcell2 x y hx hy hxy (by grind));have e1:M=M1:=by have:=p.v;have:=p1.v;omega
  have e2:M'=M2:=by have:=p'.v;have:=p2.v;omega
  have f1:=pab_free h pf (by grind) p;have f2:=pab_free h' pf (by grind) p';have:M=0↔M'=0:=f1.trans f2.symm;omega
 have main:∀ n:Nat,∀ c,In B c→a≤c→c-a≤(n:Rat)*(δ / 2)→∀ N N',Pab f g l a c N→Pab f g' l' a c N'→N=N':=by
  intro n
  induction n with
  | zero=>
   intro c _ h1 h2 N N' p p';have:c=a:=by have:((0:Nat):Rat)=0:=rfl;grind
   subst this;have:=p.v;have:=p'.v;omega
  | succ n ih=>
   intro c hc h1 h2 N N' p p';rw [nat_succ] at h2
   by_cases h3:c-a≤(n:Rat)*(δ / 2)
   ·exact ih c hc h1 h3 N N' p p'
   ·by_cases h4:c-δ / 2≤a
    ·by_cases h5:a=c
     ·subst h5;have:=p.v;have:=p'.v;omega
     ·exact cell a c hBa hc (by grind) (by grind) N N' p p'
    ·have hm:In B (c-δ / 2):=⟨by have:=hBa.1;grind,by have:=hc.2;grind⟩
     obtain ⟨N1,q1⟩:=sturm h (a:=a) (b:=c-δ / 2) (by grind);obtain ⟨N2,q2⟩:=sturm h' (a:=a) (b:=c-δ / 2) (by grind);obtain ⟨M1,r1⟩:=sturm h (a:=c-δ / 2) (b:=c) (by grind);obtain ⟨M2,r2⟩:=sturm h' (a:=c-δ / 2) (b:=c) (by grind);have e1:=ih (c-δ / 2) hm (by grind) (by grind) N1 N2 q1 q2;have e2:=cell (c-δ / 2) c hm hc (by grind) (by grind) M1 M2 r1 r2;have:=p.v;have:=q1.v;have:=r1.v;have:=p'.v;have:=q2.v;have:=r2.v;omega
 exact main n b hBb hab hn N N' k k'
theorem Ctd.uniq{f:Fn}(pf:Po f){a b:Rat}(hab:a≤b){N M:Nat}(h:Ctd f a b N)(k:Ctd f a b M):N=M:=let ⟨_,_,h1,h2⟩:=h;let ⟨_,_,k1,k2⟩:=k;stm_uniq pf h1 k1 hab h2 k2
theorem Ctd.split{f:Fn}{a m b:Rat}{N:Nat}(ham:a≤m)(hmb:m≤b)(h:Ctd f a b N):∃ K M,Ctd f a m K∧Ctd f m b M∧N=K+M:=by
 obtain ⟨g,l,h1,h2⟩:=h;obtain ⟨K,k⟩:=sturm h1 ham;obtain ⟨M,m'⟩:=sturm h1 hmb;exact ⟨K,M,⟨g,l,h1,k⟩,⟨g,l,h1,m'⟩,by have:=h2.v;have:=k.v;have:=m'.v;omega⟩
theorem Ctd.cat{f:Fn}(pf:Po f){a m b:Rat}{N M:Nat}(ham:a≤m)(hmb:m≤b)(h:Ctd f a m N)(k:Ctd f m b M):Ctd f a b (N+M):=by
 obtain ⟨g,l,h1,h2⟩:=h;obtain ⟨M',m'⟩:=sturm h1 hmb;have e:=Ctd.uniq pf hmb k ⟨g,l,h1,m'⟩;subst e;exact ⟨g,l,h1,pab_cat ham hmb h2 m'⟩
/-! ### Siegel's lemma -/
theorem pigeon:∀ (B A:Nat) (f:Nat→Nat),B < A→(∀ i,i < A→f i < B)→∃ i j,i < j∧j < A∧f i=f j
 | 0,A,f,h,hf=>absurd (hf 0 (by omega)) (Nat.not_lt_zero _)
 | B+1,A,f,h,hf=>by
  obtain ⟨A',rfl⟩:∃ A',A=A'+1:=⟨A-1,by omega⟩
  by_cases hh:∃ i,i < A'∧f i=f A'
  ·obtain ⟨i,h1,h2⟩:=hh
   exact ⟨i,A',h1,by omega,h2⟩
  ·have hne:∀ i,i < A'→f i≠f A':=fun i hi e=>hh ⟨i,hi,e⟩
   have hA:=hf A' (by omega);obtain ⟨i,j,h1,h2,h3⟩:=pigeon B A' (fun i=>if f i < f A' then f i else f i-1) (by omega) (fun i hi=>by
    have h1:=hne i hi;have h2:=hf i (by omega);show (if f i < f A' then f i else f i-1) < B
    split <;> omega)
   refine ⟨i,j,h1,by omega,?_⟩;have e:(if f i < f A' then f i else f i-1)=(if f j < f A' then f j else f j-1):=h3;have k1:=hne i (by omega);have k2:=hne j (by omega);split at e <;> split at e <;> omega
/-- A number's places to the base b. -/
def plc(b t j:Nat):Nat:=t / b^j%b
theorem plc_eq{b:Nat}(hb:0 < b):∀ (n s t:Nat),s < b^n→t < b^n→(∀ j,j < n→plc b s j=plc b t j)→s=t
 | 0,s,t,hs,ht,_=>by rw [Nat.pow_zero] at hs ht;omega
 | n+1,s,t,hs,ht,h=>by
  have e0:s%b=t%b:=by have:=h 0 (by omega);unfold plc at this;rwa [Nat.pow_zero,Nat.div_one,Nat.div_one] at this
  have e1:s / b=t / b:=by
   refine plc_eq hb n _ _ (Nat.div_lt_of_lt_mul (by rw [Nat.mul_comm,← Nat.pow_succ];exact hs)) (Nat.div_lt_of_lt_mul (by rw [Nat.mul_comm,← Nat.pow_succ];exact ht)) fun j hj=>?_
   have:=h (j+1) (by omega);unfold plc at this ⊢;rwa [Nat.pow_succ,Nat.mul_comm,← Nat.div_div_eq_div_mul,← Nat.div_div_eq_div_mul] at this
  rw [← Nat.div_add_mod s b,← Nat.div_add_mod t b,e0,e1]
/-- .. put together. -/
def sumN(w:Nat→Nat)(R:Nat):Nat→Nat
 | 0=>0
 | m+1=>sumN w R m+w m*R^m
theorem sumN_lt{w:Nat→Nat}{R:Nat}:∀ {m:Nat},(∀ i,i < m→w i < R)→sumN w R m < R^m
 | 0,_=>by rw [Nat.pow_zero];exact Nat.one_pos
 | m+1,h=>by
  have h1:=sumN_lt (w:=w) (R:=R) (m:=m) fun i hi=>h i (by omega)
  have h2:=Nat.mul_le_mul_right (R^m) (show w m+1≤R from h m (by omega));rw [Nat.add_mul,Nat.one_mul] at h2;show sumN w R m+w m*R^m < R^(m+1)
  rw [Nat.pow_succ,Nat.mul_comm (R^m)];omega
theorem sumN_inj{w v:Nat→Nat}{R:Nat}:∀ {m:Nat},(∀ i,i < m→w i < R)→(∀ i,i < m→v i < R)→sumN w R m=sumN v R m→∀ i,i < m→w i=v i
 | 0,_,_,_,i,hi=>absurd hi (Nat.not_lt_zero _)
 | m+1,hw,hv,e,i,hi=>by
  have h1:=sumN_lt (w:=w) (R:=R) (m:=m) fun i hi=>hw i (by omega)
  have h2:=sumN_lt (w:=v) (R:=R) (m:=m) fun i hi=>hv i (by omega)
  have hpos:0 < R^m:=by omega
  have e':sumN w R m+w m*R^m=sumN v R m+v m*R^m:=e;have q:w m=v m:=by
   have:=congrArg (· / R^m) e';simp only [Nat.add_mul_div_right _ _ hpos,Nat.div_eq_of_lt h1,Nat.div_eq_of_lt h2] at this;omega
  have e2:sumN w R m=sumN v R m:=by rw [q] at e';omega
  rcases Nat.lt_or_ge i m with h | h
  ·exact sumN_inj (fun i hi=>hw i (by omega)) (fun i hi=>hv i (by omega)) e2 i h
  ·obtain rfl:i=m:=by omega
   exact q
/-- Sums of whole numbers. -/
def sumZ(a:Nat→Int):Nat→Int
 | 0=>0
 | n+1=>sumZ a n+a n
theorem sumZ_bd{a:Nat→Int}{H:Int}:∀ {n:Nat},(∀ j,j < n→-H≤a j∧a j≤H)→-(n*H)≤sumZ a n∧sumZ a n≤n*H
 | 0,_=>by constructor <;> (show _≤_;simp [sumZ])
 | n+1,h=>by
  have h1:=sumZ_bd (a:=a) (H:=H) (n:=n) fun j hj=>h j (by omega)
  have h2:=h n (by omega);have e:((n+1:Nat):Int)*H=(n:Int)*H+H:=by rw [Int.natCast_add,Int.add_mul];simp
  rw [e];show _≤sumZ a n+a n∧sumZ a n+a n≤_
  omega
theorem sumZ_sub{a b:Nat→Int}:∀ n:Nat,sumZ (fun j=>a j-b j) n=sumZ a n-sumZ b n
 | 0=>rfl
 | n+1=>by show sumZ (fun j=>a j-b j) n+(a n-b n)=(sumZ a n+a n)-(sumZ b n+b n);rw [sumZ_sub n];omega
theorem siegel{m n:Nat}{H:Nat}(A:Nat→Nat→Int)(hmn:m < n)(hH:1≤H)(hA:∀ i j,i < m→j < n→-(H:Int)≤A i j∧A i j≤H):
  ∃ x:Nat→Int,(∃ j,j < n∧x j≠0)∧(∀ j,n≤j→x j=0)∧(∀ j,-(((2*n*H)^m:Nat):Int)≤x j∧x j≤(((2*n*H)^m:Nat):Int))∧∀ i,i < m→sumZ (fun j=>A i j*x j) n=0:=by
 obtain ⟨M,hM⟩:∃ M,M=(2*n*H)^m:=⟨_,rfl⟩
 obtain ⟨S,hS⟩:∃ S:Nat,S=n*(H*M):=⟨_,rfl⟩
 let img:Nat→Nat→Int:=fun t i=>sumZ (fun j=>A i j*(plc (M+1) t j:Int)) n
 have hp:∀ t j,plc (M+1) t j≤M:=fun t j=>by unfold plc;have:=Nat.mod_lt (t / (M+1)^j) (show 0 < M+1 by omega);omega
 have himg:∀ t i,i < m→-(S:Int)≤img t i∧img t i≤S:=by
  intro t i hi;have:=sumZ_bd (a:=fun j=>A i j*(plc (M+1) t j:Int)) (H:=((H*M:Nat):Int)) (n:=n) fun j hj=>by
   have h1:=hA i j hi hj;have h2:=hp t j;have h3:((plc (M+1) t j:Nat):Int)≤M:=by omega
   have a1:=Int.mul_le_mul_of_nonneg_right h1.2 (show 0≤((plc (M+1) t j:Nat):Int) by omega);have a2:=Int.mul_le_mul_of_nonneg_right h1.1 (show 0≤((plc (M+1) t j:Nat):Int) by omega);have a3:=Int.mul_le_mul_of_nonneg_left h3 (show 0≤(H:Int) by omega);rw [Int.natCast_mul];rw [Int.neg_mul] at a2;show _≤A i j*_∧A i j*_≤_
   omega
  rw [← Int.natCast_mul,← hS] at this;exact this
 have hcnt:(2*S+1)^m < (M+1)^n:=by
  have h1:2*S+1≤2*n*H*(M+1):=by
   have hnH:1≤n*H:=Nat.mul_pos (by omega) hH;have:2*n*H*(M+1)=2*(n*H*M)+2*(n*H):=by rw [Nat.mul_add,Nat.mul_one,Nat.mul_assoc 2 n H,Nat.mul_assoc 2 (n*H) M]
   have h0:n*(H*M)=n*H*M:=(Nat.mul_assoc n H M).symm;rw [this,hS,h0];omega
  have h2:(2*S+1)^m≤M*(M+1)^m:=by
   have:=Nat.pow_le_pow_left h1 m;rwa [Nat.mul_pow,← hM] at this
  have h3:M*(M+1)^m < (M+1)^(m+1):=by
   rw [Nat.pow_succ,Nat.mul_comm ((M+1)^m)];exact Nat.mul_lt_mul_of_pos_right (by omega) (Nat.pow_pos (by omega))
  have h4:(M+1)^(m+1)≤(M+1)^n:=Nat.pow_le_pow_right (by omega) hmn;omega
 have hw:∀ t i,i < m→(img t i+S).toNat < 2*S+1:=fun t i hi=>by have:=himg t i hi;omega
 obtain ⟨s,t,hst,ht,he⟩:=pigeon ((2*S+1)^m) ((M+1)^n) (fun t=>sumN (fun i=>(img t i+S).toNat) (2*S+1) m) hcnt (fun t _=>sumN_lt (hw t));have hi:∀ i,i < m→img s i=img t i:=fun i hi=>by
  have:=sumN_inj (hw s) (hw t) he i hi;have h1:=himg s i hi;have h2:=himg t i hi;omega
 refine ⟨fun j=>if j < n then (plc (M+1) s j:Int)-plc (M+1) t j else 0,?_,fun j hj=>if_neg (by omega),fun j=>?_,fun i him=>?_⟩
 ·by_cases hh:∃ j,j < n∧plc (M+1) s j≠plc (M+1) t j
  ·obtain ⟨j,h1,h2⟩:=hh
   exact ⟨j,h1,by show (if j < n then _ else _)≠(0:Int);rw [if_pos h1];omega⟩
  ·exfalso
   have:=plc_eq (b:=M+1) (by omega) n s t (by omega) ht fun j hj=>by
    by_cases h:plc (M+1) s j=plc (M+1) t j
    ·exact h
    ·exact absurd ⟨j,hj,h⟩ hh
   omega
 ·have h1:=hp s j
  have h2:=hp t j;rw [← hM];show -(M:Int)≤(if j < n then _ else _)∧(if j < n then _ else _)≤(M:Int)
  split <;> omega
 ·have e:sumZ (fun j=>A i j*(if j < n then (plc (M+1) s j:Int)-plc (M+1) t j else 0)) n=sumZ (fun j=>A i j*(plc (M+1) s j:Int)-A i j*(plc (M+1) t j:Int)) n:=by
   have cg:∀ (a b:Nat→Int) (k:Nat),(∀ j,j < k→a j=b j)→sumZ a k=sumZ b k:=by
    intro a b k
    induction k with
    | zero=>intro _;rfl
    | succ k ih=>intro h;show sumZ a k+a k=sumZ b k+b k;rw [ih fun j hj=>h j (by omega),h k (by omega)]
   refine cg _ _ n fun j hj=>?_
   show A i j*(if j < n then _ else _)=_
   rw [if_pos hj,Int.mul_sub]
  show sumZ (fun j=>A i j*(if j < n then (plc (M+1) s j:Int)-plc (M+1) t j else 0)) n=0
  rw [e,sumZ_sub];have:=hi i him;show img s i-img t i=0
  omega
/-! ### What two polynomials have in common is a small combination of them -/
theorem cv_sumZ(a b:Nat→Int)(j:Nat):∀ m,cv a b m j=sumZ (fun i=>if i≤j then a i*b (j-i) else 0) m
 | 0=>rfl
 | m+1=>by show cv a b m j+_=sumZ _ m+_;rw [cv_sumZ a b j m]
theorem sumZ_more{a:Nat→Int}{n:Nat}(h:∀ i,n≤i→a i=0):∀ d,sumZ a (n+d)=sumZ a n
 | 0=>rfl
 | d+1=>by show sumZ a (n+d)+a (n+d)=_;rw [sumZ_more h d,h _ (by omega)];omega
theorem sumZ_eq{a:Nat→Int}{n m:Nat}(h:∀ i,n≤i→a i=0)(k:∀ i,m≤i→a i=0):sumZ a n=sumZ a m:=by
 rcases Nat.le_total n m with h1 | h1
 ·obtain ⟨d,rfl⟩:=Nat.exists_eq_add_of_le h1;exact (sumZ_more h d).symm
 ·obtain ⟨d,rfl⟩:=Nat.exists_eq_add_of_le h1;exact sumZ_more k d
theorem conv_sumZ{a b:Nat→Int}{n:Nat}(h:∀ i,n≤i→a i=0)(t:Nat):conv a b t=sumZ (fun i=>if i≤t then a i*b (t-i) else 0) n:=by
 unfold conv;rw [cv_sumZ];refine sumZ_eq (fun i hi=>if_neg (by omega)) (fun i hi=>?_);rw [h i hi];split <;> simp
theorem sumZ_cat{a:Nat→Int}(n:Nat):∀ m,sumZ a (n+m)=sumZ a n+sumZ (fun j=>a (n+j)) m
 | 0=>(Int.add_zero _).symm
 | m+1=>by show sumZ a (n+m)+a (n+m)=_+(sumZ _ m+a (n+m));rw [sumZ_cat n m];omega
theorem sumZ_cg{a b:Nat→Int}:∀ {k:Nat},(∀ j,j < k→a j=b j)→sumZ a k=sumZ b k
 | 0,_=>rfl
 | k+1,h=>by show sumZ a k+a k=sumZ b k+b k;rw [sumZ_cg fun j hj=>h j (by omega),h k (by omega)]
/-- A whole number that makes a primitive row whole. -/
theorem prim_int{γ:Nat→Int}{r:Nat}{κ:Rat}{W:Nat→Int}(hp:gcdN γ r=1)(h:∀ i,i < r→κ*(γ i:Rat)=(W i:Rat)):∃ z:Int,κ=(z:Rat):=by
 have h1:∀ n,n≤r→(κ.den∣gcdN γ n):=by
  intro n
  induction n with
  | zero=>intro _;exact Nat.dvd_zero _
  | succ n ih=>
   intro hn;refine Nat.dvd_gcd (ih (by omega)) ?_;have e:=h n (by omega);have hk:((κ.num*γ n:Int):Rat)=((W n*κ.den:Int):Rat):=by
    rw [Rat.intCast_mul,Rat.intCast_mul,← e];have h2:=mkR_div (x:=κ.num) (y:=(κ.den:Int)) (by have:=κ.den_pos;omega);rw [mkR_self] at h2;rw [← h2];grind
   have hz:κ.num*γ n=W n*κ.den:=by exact_mod_cast hk
   have hd:(κ.den:Int)∣κ.num*γ n:=⟨W n,by rw [hz,Int.mul_comm]⟩;have hd2:κ.den∣κ.num.natAbs*(γ n).natAbs:=by
    have:=Int.ofNat_dvd_left.1 hd;rwa [Int.natAbs_mul] at this
   exact Nat.Coprime.dvd_of_dvd_mul_left (Nat.Coprime.symm κ.reduced) hd2
 have h2:=h1 r (Nat.le_refl r);rw [hp] at h2;have h3:κ.den=1:=Nat.dvd_one.1 h2;exact ⟨κ.num,by
  have h4:=mkR_self κ;rw [h3] at h4;exact h4.symm.trans (mkR_int κ.num)⟩
/-- U F + V G2 = z G, and all is small. -/
theorem combine{c c' γ:Nat→Int}{d e r H:Nat}{k1 k2:Fn}(hc:∀ i,d < i→c i=0)(hc':∀ i,e < i→c' i=0)(hγ:∀ i,r < i→γ i=0)(hd:c d≠0)(he:c' e≠0)(hr:γ r≠0)(hprim:gcdN γ (r+1)=1) 
  (hH:1≤H) (bc:∀ i,-(H:Int)≤c i∧c i≤H) (bc':∀ i,-(H:Int)≤c' i∧c' i≤H) (pk1:Po k1) (pk2:Po k2) (h1:∀ x,pz c x (d+1)=k1 x*pz γ x (r+1)) (h2:∀ x,pz c' x (e+1)=k2 x*pz γ x (r+1)) (hcop:Cop k1 k2) (hrd:r≤d) (hre:r≤e) (hlt:r < d∨r < e):
  ∃ (U V:Nat→Int) (z:Int),z≠0∧(∀ j,e-r≤j→U j=0)∧(∀ j,d-r≤j→V j=0)∧(∀ j,-(((2*(d+e)*H)^(d+e):Nat):Int)≤U j∧U j≤(((2*(d+e)*H)^(d+e):Nat):Int))∧(∀ j,-(((2*(d+e)*H)^(d+e):Nat):Int)≤V j∧V j≤(((2*(d+e)*H)^(d+e):Nat):Int))∧
   ∀ x,pz U x (e-r)*pz c x (d+1)+pz V x (d-r)*pz c' x (e+1)=(z:Rat)*pz γ x (r+1):=by
 obtain ⟨n,hn⟩:∃ n,n=(e-r)+(d-r):=⟨_,rfl⟩
 obtain ⟨A,hA⟩:∃ A:Nat→Nat→Int,A=fun i j=>if j < e-r then (if j≤r+1+i then c (r+1+i-j) else 0) else (if j-(e-r)≤r+1+i then c' (r+1+i-(j-(e-r))) else 0):=⟨_,rfl⟩
 obtain ⟨x,⟨j0,hj0,hx0⟩,hxz,hxb,hxe⟩:=siegel (m:=n-1) (n:=n) (H:=H) A (by omega) hH (fun i j _ _=>by
  rw [hA];show _≤(if j < e-r then _ else _)∧(if j < e-r then _ else _)≤_
  split
  ·split
   ·exact bc _
   ·omega
  ·split
   ·exact bc' _
   ·omega)
 have hbig:(2*n*H)^(n-1)≤(2*(d+e)*H)^(d+e):=by
  have h3:2*n*H≤2*(d+e)*H:=Nat.mul_le_mul_right H (by omega);have h4:0 < 2*(d+e)*H:=Nat.mul_pos (by omega) hH;exact Nat.le_trans (Nat.pow_le_pow_left h3 _) (Nat.pow_le_pow_right h4 (by omega))
 obtain ⟨U,hU⟩:∃ U:Nat→Int,U=fun j=>if j < e-r then x j else 0:=⟨_,rfl⟩
 obtain ⟨V,hV⟩:∃ V:Nat→Int,V=fun j=>x (e-r+j):=⟨_,rfl⟩
 have Uz:∀ j,e-r≤j→U j=0:=fun j hj=>by rw [hU];exact if_neg (by omega)
 have Vz:∀ j,d-r≤j→V j=0:=fun j hj=>by rw [hV];exact hxz _ (by omega)
 have cz:∀ i,d+1≤i→c i=0:=fun i hi=>hc i (by omega)
 have cz':∀ i,e+1≤i→c' i=0:=fun i hi=>hc' i (by omega)
 have γz:∀ i,r+1≤i→γ i=0:=fun i hi=>hγ i (by omega)
 obtain ⟨W,hW⟩:∃ W:Nat→Int,W=fadd (conv U c) (conv V c'):=⟨_,rfl⟩
 have Wz:∀ t,r+1≤t→W t=0:=by
  intro t ht;rw [hW];show conv U c t+conv V c' t=0
  by_cases hbt:t < d+e-r
  ·have h3:=hxe (t-(r+1)) (by omega)
   rw [hn,sumZ_cat] at h3;rw [conv_sumZ Uz,conv_sumZ Vz];refine Eq.trans ?_ h3;congr 1
   ·refine sumZ_cg fun j hj=>?_
    rw [hA,hU];show _=(if j < e-r then _ else _)*x j
    rw [if_pos hj,show r+1+(t-(r+1))=t by omega];show (if j≤t then (if j < e-r then x j else 0)*c (t-j) else 0)=_
    rw [if_pos hj];split
    ·exact Int.mul_comm _ _
    ·simp
   ·refine sumZ_cg fun j hj=>?_
    have eA:A (t-(r+1)) (e-r+j)=if j≤t then c' (t-j) else 0:=by
     rw [hA];show (if e-r+j < e-r then _ else _)=_
     rw [if_neg (by omega),show r+1+(t-(r+1))=t by omega,show e-r+j-(e-r)=j by omega]
    have eV:V j=x (e-r+j):=by rw [hV]
    show (if j≤t then V j*c' (t-j) else 0)=A (t-(r+1)) (e-r+j)*x (e-r+j)
    rw [eA,eV];split
    ·exact Int.mul_comm _ _
    ·simp
  ·rw [conv_beyond (n:=e-r) (m:=d+1) Uz cz (by omega),conv_beyond (n:=d-r) (m:=e+1) Vz cz' (by omega)];rfl
 have hval:∀ q,pz W q (r+1)=pz U q (e-r)*pz c q (d+1)+pz V q (d-r)*pz c' q (e+1):=by
  intro q;have hz:∀ t,max (e-r+(d+1)) (d-r+(e+1))≤t→W t=0:=fun t ht=>Wz t (by omega)
  rw [pz_eq Wz hz];have z1:=conv_z0 Uz cz;have z2:=conv_z0 Vz cz';have e1:pz W q (max (e-r+(d+1)) (d-r+(e+1)))=pz (conv U c) q (max (e-r+(d+1)) (d-r+(e+1)))+pz (conv V c') q (max (e-r+(d+1)) (d-r+(e+1))):=by
   rw [hW];unfold pz;rw [← pe_add];refine pe_congr fun i _=>?_
   show ((conv U c i+conv V c' i:Int):Rat)=((conv U c i:Int):Rat)+((conv V c' i:Int):Rat)
   exact Rat.intCast_add _ _
  rw [e1,pz_conv Uz cz (fun i hi=>z1 i (by omega)),pz_conv Vz cz' (fun i hi=>z2 i (by omega))]
 have pU:Pl (e-r) (fun q=>pz U q (e-r)):=⟨rc U,rc_z Uz,fun _=>rfl⟩;have pV:Pl (d-r) (fun q=>pz V q (d-r)):=⟨rc V,rc_z Vz,fun _=>rfl⟩;have lG:Lc r (fun q=>pz γ q (r+1)) (γ r:Rat):=⟨rc γ,fun i hi=>by unfold rc;rw [hγ i hi];rfl,rfl,fun e=>hr (Rat.intCast_eq_zero_iff.1 e),fun _=>rfl⟩;have lF:Lc d (fun q=>pz c q (d+1)) (c d:Rat):=⟨rc c,fun i hi=>by unfold rc;rw [hc i hi];rfl,rfl,fun e=>hd (Rat.intCast_eq_zero_iff.1 e),fun _=>rfl⟩;have lF':Lc e (fun q=>pz c' q (e+1)) (c' e:Rat):=⟨rc c',fun i hi=>by unfold rc;rw [hc' i hi];rfl,rfl,fun e=>he (Rat.intCast_eq_zero_iff.1 e),fun _=>rfl⟩;have pK:Po (fun q=>pz U q (e-r)*k1 q+pz V q (d-r)*k2 q):=(pU.po.mul pk1).add (pV.po.mul pk2);have hKG:∀ q,(pz U q (e-r)*k1 q+pz V q (d-r)*k2 q)*pz γ q (r+1)=pz W q (r+1):=fun q=>by rw [hval,h1,h2];grind
 have hKne:∃ q,pz U q (e-r)*k1 q+pz V q (d-r)*k2 q≠0:=by
  by_cases hh:∃ q,pz U q (e-r)*k1 q+pz V q (d-r)*k2 q≠0
  ·exact hh
  ·exfalso
   have h0:∀ q,pz U q (e-r)*k1 q+pz V q (d-r)*k2 q=0:=fun q=>by
    by_cases h:pz U q (e-r)*k1 q+pz V q (d-r)*k2 q=0
    ·exact h
    ·exact absurd ⟨q,h⟩ hh
   obtain ⟨j2,b2,l2⟩:=po_deg pk2 (by obtain ⟨y,hy⟩:=lF'.ne;exact ⟨y,fun e0=>hy (by show pz c' y (e+1)=0;rw [h2,e0];grind)⟩);have hj2:=((l2.mul lG).congr fun q=>(h2 q).symm).uniq lF';have hdv:Dv k2 (fun q=>pz U q (e-r)):=by
    refine hcop.symm.dv pU.po ⟨fun q=> - pz V q (d-r),pV.po.neg,fun q=>?_⟩;have:=h0 q;show k1 q*pz U q (e-r)= - pz V q (d-r)*k2 q
    grind
   have hU0:∀ q,pz U q (e-r)=0:=by
    rcases pl_tri pU with h | ⟨k,a,hk,hl⟩
    ·exact h
    ·have:=hdv.deg l2 hl;omega
   have hV0:∀ q,pz V q (d-r)=0:=fun q=>po_cancel pk2 l2.ne pV.po (fun t=>by have:=h0 t;rw [hU0] at this;grind) q
   have u0:=pz_zero Uz (fun t=>hU0 _);have v0:=pz_zero Vz (fun t=>hV0 _);apply hx0
   by_cases hj:j0 < e-r
   ·have:=u0 j0;rw [hU] at this;rwa [show (fun j=>if j < e-r then x j else 0) j0=x j0 from if_pos hj] at this
   ·have h9:x (e-r+(j0-(e-r)))=0:=by have:=v0 (j0-(e-r));rw [hV] at this;exact this
    rwa [show e-r+(j0-(e-r))=j0 by omega] at h9
 obtain ⟨jk,κ,hK⟩:=po_deg pK hKne;have hW':=(hK.mul lG).congr hKG;have hjk:jk=0:=by
  rcases pl_tri (⟨rc W,rc_z Wz,fun _=>rfl⟩:Pl (r+1) (fun q=>pz W q (r+1))) with h | ⟨k,a,hk,hl⟩
  ·obtain ⟨y,hy⟩:=hW'.ne;exact absurd (h y) hy
  ·have:=hW'.uniq hl;omega
 subst hjk;have hκ:=lc_const hK;have hκ0:κ≠0:=hK.choose_spec.2.2.1;have hWγ:∀ i,κ*(γ i:Rat)=(W i:Rat):=by
  intro i;have:=pe_one (a:=fsclQ (rc γ) κ) (b:=rc W) (n:=r+1) (m:=r+1) (fsclQ_z (rc_z γz)) (rc_z Wz) (fun t=>by
   rw [pe_scl];have:=hKG t;rw [hκ] at this;show pz γ t (r+1)*κ=pz W t (r+1)
   rw [← this];grind) i
  rw [Rat.mul_comm];exact this
 obtain ⟨z,hz⟩:=prim_int hprim (fun i _=>hWγ i);refine ⟨U,V,z,fun h0=>hκ0 (by rw [hz,h0];rfl),Uz,Vz,fun j=>?_,fun j=>?_,fun q=>?_⟩
 ·rw [hU]
  have:=hxb j;show _≤(if j < e-r then x j else 0)∧(if j < e-r then x j else 0)≤_
  split <;> omega
 ·rw [hV]
  have:=hxb (e-r+j);show _≤x (e-r+j)∧x (e-r+j)≤_
  omega
 ·rw [← hval,← hKG,hκ,hz]
/-! ### Along an interval -/
theorem cells_ind{a b δ:Rat}(hδ:0 < δ)(hab:a≤b)(P:Rat→Prop)(h0:P a)(hs:∀ x y,a≤x→x < y→y≤b→y-x < δ→P x→P y):P b:=by
 obtain ⟨n,hn⟩:=ex_cells (r:=b-a) (d:=δ / 2) (by grind);have main:∀ n:Nat,∀ c,a≤c→c≤b→c-a≤(n:Rat)*(δ / 2)→P c:=by
  intro n
  induction n with
  | zero=>
   intro c h1 _ h2;have:c=a:=by have:((0:Nat):Rat)=0:=rfl;grind
   subst this;exact h0
  | succ n ih=>
   intro c h1 hcb h2;rw [nat_succ] at h2
   by_cases h3:c-a≤(n:Rat)*(δ / 2)
   ·exact ih c h1 hcb h3
   ·by_cases h4:c-δ / 2≤a
    ·by_cases h5:a=c
     ·subst h5;exact h0
     ·exact hs a c (by grind) (by grind) hcb (by grind) h0
    ·exact hs (c-δ / 2) c (by grind) (by grind) hcb (by grind) (ih (c-δ / 2) (by grind) (by grind) (by grind))
 exact main n b hab (by grind) hn
theorem ex_in(a b:Rat):∃ B,In B a∧In B b∧1≤B:=by
 refine ⟨(if a < 0 then -a else a)+(if b < 0 then -b else b)+1,?_,?_,?_⟩ <;> (try unfold In) <;> (try constructor) <;> (repeat' split) <;> grind
theorem In.btw{B a b t:Rat}(ha:In B a)(hb:In B b)(h1:a≤t)(h2:t≤b):In B t:=by unfold In at *;constructor <;> grind
/-- Far from 0 everywhere: one sign. -/
theorem far_sign{f:Fn}(pf:Po f){a b e:Rat}(hab:a≤b)(he:0 < e)(h:∀ t,a≤t→t≤b→Far (f t) e):sgq (f a)≠0∧∀ t,a≤t→t≤b→sgq (f t)=sgq (f a):=by
 obtain ⟨B,hBa,hBb,_⟩:=ex_in a b;obtain ⟨L,hL,hl⟩:=pf.lip B;obtain ⟨d,hd,hs⟩:=ex_small hL he;refine ⟨?_,fun t h1 h2=>?_⟩
 ·intro h0;rw [sgq_eq_zero] at h0
  have:=h a (by grind) hab;rw [h0] at this;rcases this with k | k <;> grind
 ·refine cells_ind hd h1 (fun c=>sgq (f c)=sgq (f a)) rfl fun x y hx hxy hy hlt ih=>?_
  have hxB:=hBa.btw hBb hx (by grind);have hyB:=hBa.btw hBb (t:=y) (by grind) (by grind);show sgq (f y)=sgq (f a)
  rw [← ih];exact (gd_of hl hL hxB hyB he (hs _ (by grind) hlt) (h x hx (by grind))).2.1 y (by grind) (by grind)
/-- Where there are roots f is as small as one likes. -/
theorem ex_near{f:Fn}(pf:Po f){a b:Rat}{N:Nat}(hab:a≤b)(h:Ctd f a b N)(hN:N≠0){e:Rat}(he:0 < e):∃ x,a≤x∧x≤b∧Ab (f x) e:=by
 by_cases hh:∃ x,a≤x∧x≤b∧Ab (f x) e
 ·exact hh
 ·exfalso
  have hf:∀ t,a≤t→t≤b→Far (f t) e:=fun t h1 h2=>by
   have:¬ Ab (f t) e:=fun h=>hh ⟨t,h1,h2,h⟩
   unfold Ab at this;unfold Far;grind
  obtain ⟨h0,h1⟩:=far_sign pf hab he hf;exact hN ((h.free pf hab).2 ⟨sgq (f a),h0,fun t k1 k2=>h1 t (by grind) k2⟩)
/-- Where there are two its derivative is. -/
theorem ex_near'{f f':Fn}(hd:Der f f')(pf:Po f)(pf':Po f'){a b:Rat}{N:Nat}(hab:a≤b)(h:Ctd f a b N)(hN:2≤N){e:Rat}(he:0 < e):∃ x,a≤x∧x≤b∧Ab (f' x) e:=by
 by_cases hh:∃ x,a≤x∧x≤b∧Ab (f' x) e
 ·exact hh
 ·exfalso
  have hf:∀ t,a≤t→t≤b→Far (f' t) e:=fun t h1 h2=>by
   have:¬ Ab (f' t) e:=fun h=>hh ⟨t,h1,h2,h⟩
   unfold Ab at this;unfold Far;grind
  obtain ⟨h0,h1⟩:=far_sign pf' hab he hf;obtain ⟨g,l,hst,hp⟩:=h;have:=hp.mon (sgq (f' a)) (sg_pm h0) fun t k1 k2=>by rw [hst.sg hd];exact h1 t k1 k2
  have:=hp.v;split at* <;> split at* <;> omega
/-- NO TWO ROOTS so near. -/
theorem sep_one{f f' U V:Fn}{z S L B a b:Rat}{N:Nat}(hd:Der f f')(pf:Po f)(pf':Po f')(hz:1≤z∨z≤-1)(hUV:∀ x,U x*f x+V x*f' x=z)(hU:∀ x,In B x→Ab (U x) S)(hV:∀ x,In B x→Ab (V x) S)(hL:Lip B f' L)(hL0:0≤L)(ha:In B a)(hb:In B b)(hab:a≤b)(hs:S*(L*(b-a)) < 1)(h:Ctd f a b N):N≤1:=by
 rcases Nat.lt_or_ge 1 N with hN | hN
 ·exfalso
  have hS:0≤S:=(hU a ha).nn;obtain ⟨e,he,hse⟩:=ex_small (L:=2*S) (m:=1-S*(L*(b-a))) (by grind) (by grind);have he2:=hse (e / 2) (by grind) (by grind);obtain ⟨x,hx1,hx2,hx⟩:=ex_near pf hab h (by omega) (show 0 < e / 2 by grind);obtain ⟨y,hy1,hy2,hy⟩:=ex_near' hd pf pf' hab h hN (show 0 < e / 2 by grind);have hxB:=ha.btw hb hx1 hx2;have hyB:=ha.btw hb hy1 hy2;have hfx:Ab (f' x) (e / 2+L*(b-a)):=by
   by_cases hxy:x≤y
   ·have h1:=hL.ab hxB hyB hxy
    have h2:L*(y-x)≤L*(b-a):=Rat.mul_le_mul_of_nonneg_left (by grind) hL0;unfold Ab at *;constructor <;> grind
   ·have h1:=hL.ab hyB hxB (by grind)
    have h2:L*(x-y)≤L*(b-a):=Rat.mul_le_mul_of_nonneg_left (by grind) hL0;unfold Ab at *;constructor <;> grind
  have h3:=((hU x hxB).mul hx).add ((hV x hxB).mul hfx);rw [hUV] at h3;unfold Ab at h3;rcases hz with hz | hz <;> grind
 ·exact hN
/-- One sign on a closed interval: far from 0 there. -/
theorem free_far{f g:Fn}{l:List Fn}(h:Stm f g l)(pf:Po f){a b:Rat}(hab:a≤b)(h0:sgq (f a)≠0)(hs:∀ t,a≤t→t≤b→sgq (f t)=sgq (f a)):∃ e,0 < e∧∀ t,a≤t→t≤b→Far (f t) e:=by
 obtain ⟨B,hBa,hBb,_⟩:=ex_in a b;obtain ⟨δ,hδ,_,hcell⟩:=stm_cell h B;obtain ⟨L,hL,hl⟩:=pf.lip B;have far:∀ x,sgq (f x)≠0→∃ e,0 < e∧Far (f x) e:=fun x hx=>by
  rcases sgq_cases (f x) with ⟨k,_⟩ | ⟨_,k⟩ | ⟨k,_⟩
  ·exact ⟨-(f x),by grind,Or.inr (by grind)⟩
  ·exact absurd k hx
  ·exact ⟨f x,k,Or.inl (by grind)⟩
 refine cells_ind hδ hab (fun c=>∃ e,0 < e∧∀ t,a≤t→t≤c→Far (f t) e) ?_ fun x y hx hxy hy hlt ih=>?_
 ·obtain ⟨e,he,hf⟩:=far a h0
  exact ⟨e, he, fun t h1 h2 => by have : t = a := by grind
                                  subst this; exact hf⟩
 ·obtain ⟨e,he,ih⟩:=ih
  have hxB:=hBa.btw hBb hx (by grind);have hyB:=hBa.btw hBb (t:=y) (by grind) hy;have key:∃ e',0 < e'∧∀ t,x≤t→t≤y→Far (f t) e':=by
   rcases hcell x y hxB hyB hxy hlt with ⟨⟨_,_,k0⟩,_⟩ | ⟨τ,hτ,_,hm,_⟩
   ·exact k0
   ·obtain ⟨e1,he1,hf1⟩:=far x (by rw [hs x hx (by grind)];exact h0)
    obtain ⟨e2,he2,hf2⟩:=far y (by rw [hs y (by grind) hy];exact h0);obtain ⟨e',he',h1,h2⟩:=ex_min he1 he2;refine ⟨e',he',fun t ht1 ht2=>?_⟩
    by_cases htx:t=x
    ·subst htx;rcases hf1 with k | k
     ·exact Or.inl (by grind)
     ·exact Or.inr (by grind)
    by_cases hty:t=y
    ·subst hty;rcases hf2 with k | k
     ·exact Or.inl (by grind)
     ·exact Or.inr (by grind)
    have m1:=hm x t (by grind) (by grind) ht2;have m2:=hm t y ht1 (by grind) (by grind);have sx:=hs x hx (by grind);have sy:=hs y (by grind) hy;have st:=hs t (by grind) (by grind);rcases sgq_cases (f t) with ⟨k,e⟩ | ⟨k,e⟩ | ⟨k,e⟩
    ·refine Or.inr ?_
     have kx:f x < 0:=by rcases sgq_cases (f x) with ⟨q,e'⟩ | ⟨q,e'⟩ | ⟨q,e'⟩ <;> first | exact q | omega
     have ky:f y < 0:=by rcases sgq_cases (f y) with ⟨q,e'⟩ | ⟨q,e'⟩ | ⟨q,e'⟩ <;> first | exact q | omega
     have a1:f x≤-e1:=by rcases hf1 with q | q <;> grind
     have a2:f y≤-e2:=by rcases hf2 with q | q <;> grind
     rcases hτ with rfl | rfl
     ·rcases sgq_cases (f y-f t) with ⟨q,e'⟩ | ⟨q,e'⟩ | ⟨q,e'⟩ <;> first | omega | grind
     ·rcases sgq_cases (f t-f x) with ⟨q,e'⟩ | ⟨q,e'⟩ | ⟨q,e'⟩ <;> first | omega | grind
    ·exact absurd (st.symm.trans e) h0
    ·refine Or.inl ?_
     have kx:0 < f x:=by rcases sgq_cases (f x) with ⟨q,e'⟩ | ⟨q,e'⟩ | ⟨q,e'⟩ <;> first | exact q | omega
     have ky:0 < f y:=by rcases sgq_cases (f y) with ⟨q,e'⟩ | ⟨q,e'⟩ | ⟨q,e'⟩ <;> first | exact q | omega
     have a1:e1≤f x:=by rcases hf1 with q | q <;> grind
     have a2:e2≤f y:=by rcases hf2 with q | q <;> grind
     rcases hτ with rfl | rfl
     ·rcases sgq_cases (f t-f x) with ⟨q,e'⟩ | ⟨q,e'⟩ | ⟨q,e'⟩ <;> first | omega | grind
     ·rcases sgq_cases (f y-f t) with ⟨q,e'⟩ | ⟨q,e'⟩ | ⟨q,e'⟩ <;> first | omega | grind
  obtain ⟨e',he',hk⟩:=key;obtain ⟨e2,he2,h1,h2⟩:=ex_min he he';refine ⟨e2,he2,fun t k1 k2=>?_⟩
  by_cases htx:t≤x
  ·rcases ih t k1 htx with k | k
   ·exact Or.inl (by grind)
   ·exact Or.inr (by grind)
  ·rcases hk t (by grind) k2 with k | k
   ·exact Or.inl (by grind)
   ·exact Or.inr (by grind)
/-! ### Divisors -/
theorem Cop.far{g w:Fn}(h:Cop g w)(B:Rat):∃ m,0 < m∧∀ x,In B x→Far (g x) m∨Far (w x) m:=by
 obtain ⟨u,v,pu,pv,huv⟩:=h;obtain ⟨M,hM,m1⟩:=pu.bd B;obtain ⟨N,hN,m2⟩:=pv.bd B;obtain ⟨m,hm,hs⟩:=ex_small (L:=M+N) (m:=1) (by grind) (by grind);refine ⟨m / 2,by grind,fun x hx=>?_⟩
 by_cases h1:Far (g x) (m / 2)
 ·exact Or.inl h1
 ·by_cases h2:Far (w x) (m / 2)
  ·exact Or.inr h2
  ·exfalso
   have a1:Ab (g x) (m / 2):=by unfold Far at h1;unfold Ab;constructor <;> grind
   have a2:Ab (w x) (m / 2):=by unfold Far at h2;unfold Ab;constructor <;> grind
   have a3:=((m1 x hx).mul a1).add ((m2 x hx).mul a2);have:=huv x;have a4:=hs (m / 2) (by grind) (by grind);unfold Ab at a3;grind
theorem Sqf.cop_of{f f' g g' w w':Fn}(h:Sqf f f')(pg:Po g)(pw:Po w)(pg':Po g')(pw':Po w')(dg:Der g g')(dw:Der w w')(hf:∀ x,f x=g x*w x):Cop g w:=by
 obtain ⟨u,v,pu,pv,huv⟩:=h.cop;have e:∀ x,f' x=g' x*w x+g x*w' x:=fun x=>(((dg.mul dw pg pw pg').congr (fun x=>(hf x).symm) (fun _=>rfl)).uniq h.der x).symm
 exact ⟨fun x=>u x*w x+v x*w' x,fun x=>v x*g' x,(pu.mul pw).add (pv.mul pw'),pv.mul pg',fun x=>by have h1:=huv x;rw [e,hf] at h1;grind⟩
theorem Sqf.dv{f f' g g' w:Fn}(h:Sqf f f')(pg:Po g)(pw:Po w)(pg':Po g')(dg:Der g g')(hf:∀ x,f x=g x*w x):Sqf g g':=by
 obtain ⟨w',pw',dw⟩:=pw.der;obtain ⟨u,v,pu,pv,huv⟩:=h.cop;have e:∀ x,f' x=g' x*w x+g x*w' x:=fun x=>(((dg.mul dw pg pw pg').congr (fun x=>(hf x).symm) (fun _=>rfl)).uniq h.der x).symm
 exact ⟨pg,pg',dg,fun x=>u x*w x+v x*w' x,fun x=>v x*w x,(pu.mul pw).add (pv.mul pw'),pv.mul pw,fun x=>by have h1:=huv x;rw [e,hf] at h1;grind⟩
/-- One sign close at hand. -/
theorem far_cell{f:Fn}(pf:Po f)(B:Rat){m:Rat}(hm:0 < m):∃ δ,0 < δ∧∀ x y,In B x→In B y→x < y→y-x < δ→Far (f x) m→Gd f x y:=by
 obtain ⟨L,hL,hl⟩:=pf.lip B;obtain ⟨d,hd,hs⟩:=ex_small hL hm;exact ⟨d,hd,fun x y hx hy hxy hlt hf=>gd_of hl hL hx hy hm (hs _ (by grind) hlt) hf⟩
/-- A divisor has no more roots. -/
theorem ctd_mono{f g w gg gf:Fn}{lg lf:List Fn}(pf:Po f)(pg:Po g)(pw:Po w)(sg:Stm g gg lg)(sf:Stm f gf lf)(hcop:Cop g w)(hf:∀ x,f x=g x*w x){a b:Rat}(hab:a≤b):∀ {K N:Nat},Ctd g a b K→Ctd f a b N→K≤N:=by
 obtain ⟨B,hBa,hBb,_⟩:=ex_in a b;obtain ⟨m,hm,hfar⟩:=hcop.far B;obtain ⟨δ1,hδ1,c1⟩:=far_cell pg B hm;obtain ⟨δ2,hδ2,c2⟩:=far_cell pw B hm;obtain ⟨δ3,hδ3,_,c3⟩:=stm_cell sg B;obtain ⟨δ4,hδ4,e1,e2⟩:=ex_min hδ1 hδ2;obtain ⟨δ,hδ,e3,e4⟩:=ex_min hδ4 hδ3;refine cells_ind hδ hab (fun c=>∀ {K N:Nat},Ctd g a c K→Ctd f a c N→K≤N) ?_ fun x y hx hxy hy hlt ih=>?_
 ·intro K N h1 h2
  have:K=0:=(h1.free pg (by grind)).2 ⟨1,by decide,fun t k1 k2=>by grind⟩;omega
 ·intro K N h1 h2
  obtain ⟨K1,K2,k1,k2,rfl⟩:=h1.split hx (by grind);obtain ⟨N1,N2,n1,n2,rfl⟩:=h2.split hx (by grind);have:=ih k1 n1;have hxB:=hBa.btw hBb hx (by grind);have hyB:=hBa.btw hBb (t:=y) (by grind) hy;have hK2:K2≤N2:=by
   obtain ⟨K',hK',kp⟩:=pab_cell hxy (c3 x y hxB hyB hxy (by grind));have e:K2=K':=Ctd.uniq pg (by grind) k2 ⟨gg,lg,sg,kp⟩;rcases hfar x hxB with h | h
   ·have hg:=c1 x y hxB hyB hxy (by grind) h
    have:K2=0:=(k2.free pg (by grind)).2 ⟨_,hg.1,fun t q1 q2=>hg.2.1 t (by grind) q2⟩;omega
   ·have hw:=c2 x y hxB hyB hxy (by grind) h
    by_cases hN:N2=0
    ·obtain ⟨s,hs,hst⟩:=(n2.free pf (by grind)).1 hN
     have:K2=0:=(k2.free pg (by grind)).2 ⟨s*sgq (w x),Int.mul_ne_zero hs hw.1,fun t q1 q2=>by
      have a1:=hst t q1 q2;rw [hf,sgq_mul,hw.2.1 t (by grind) q2] at a1;have a2:=sg_pm hw.1;rcases a2 with a2 | a2 <;> rw [a2] at a1 ⊢ <;> omega⟩
     omega
    ·omega
  omega
/-- Has it one? -/
theorem ctd_has{f f':Fn}{a b:Rat}{N:Nat}(hd:Der f f')(hab:a < b)(h:Ctd f a b N)(hN:N≤1):N=1↔(sgq (f b)=0∨sgq (f b)≠aft f f' a):=by
 obtain ⟨g,l,hs,hp⟩:=h;have e:∀ x,aft f g x=aft f f' x:=fun x=>by unfold aft;rw [hs.sg hd]
 constructor
 ·rintro rfl
  by_cases h0:sgq (f b)=0
  ·exact Or.inl h0
  ·right
   have h1:=hp.par;rw [aft_of h0,e] at h1;have h2:m1 1 (aft f f' a)= -(aft f f' a):=by unfold m1;simp
   rw [h2] at h1;rcases sg_pm h0 with h3 | h3 <;> omega
 ·intro h1
  rcases Nat.eq_zero_or_pos N with h0 | h0
  ·exfalso
   have h2:=hp.nil.1 h0 b hab (by grind);rw [e] at h2;rcases h1 with h1 | h1
   ·have h3:=hp.par
    subst h0;rw [e,e] at h3;rw [h1] at h2;have h4:aft f f' b=0:=by rw [h3];show m1 0 _=0;rw [← h2];rfl
    have h5:sgq (f' b)=0:=by rw [aft_of0 h1] at h4;exact h4
    obtain ⟨B,hB,_,_⟩:=ex_in b b;obtain ⟨δ,hδ,hne,_⟩:=stm_cell hs B;exact hne b hB (by rw [e];exact h4)
   ·exact h1 h2
  ·omega
/-! ### Cuts: what lies below a number -/
abbrev Cut:=Rat→Prop
def cutP(t:Rat):Cut:=fun q=>q < t
def cutI(f:Fn)(lo hi:Rat):Cut:=fun q=>q≤lo∨(q < hi∧¬ RFree f q hi)
structure IsCut(C:Cut):Prop where
 down:∀ q r,C r→q≤r→C q
 up:∀ q,C q→∃ r,q < r∧C r
 lo:∃ q,C q
 hi:∃ q,¬ C q
/-- f has one root above lo, at most hi. -/
structure OkI(f f':Fn)(lo hi:Rat):Prop where
 sq:Sqf f f'
 lt:lo < hi
 one:Ctd f lo hi 1
theorem OkI.stm{f f':Fn}{lo hi:Rat}(h:OkI f f' lo hi):∃ g l,Stm f g l:=let ⟨g,l,h1,_⟩:=h.one;⟨g,l,h1⟩
theorem OkI.split{f f':Fn}{lo hi q:Rat}(h:OkI f f' lo hi)(h1:lo≤q)(h2:q≤hi):(Ctd f lo q 0∧Ctd f q hi 1)∨(Ctd f lo q 1∧Ctd f q hi 0):=by
 obtain ⟨K,M,k,m,e⟩:=h.one.split h1 h2;rcases Nat.eq_zero_or_pos K with h0 | h0
 ·subst h0;exact Or.inl ⟨k,by rwa [show M=1 by omega] at m⟩
 ·exact Or.inr ⟨by rwa [show K=1 by omega] at k,by rwa [show M=0 by omega] at m⟩
theorem cutI_mid{f f':Fn}{lo hi q:Rat}(h:OkI f f' lo hi)(h1:lo≤q)(h2:q < hi):cutI f lo hi q↔Ctd f q hi 1:=by
 rcases h.split h1 (by grind) with ⟨k1,k2⟩ | ⟨k1,k2⟩
 ·refine ⟨fun _=>k2,fun _=>?_⟩
  by_cases he:q≤lo
  ·exact Or.inl he
  ·exact Or.inr ⟨h2,fun hf=>by have:=(k2.free h.sq.po (by grind)).2 hf;omega⟩
 ·have hf:=(k2.free h.sq.po (by grind)).1 rfl
  constructor
  ·rintro (he | ⟨_,hn⟩)
   ·have:q=lo:=by grind
    subst this;exact h.one
   ·exact absurd hf hn
  ·intro k;have:=k.uniq h.sq.po (by grind) k2;omega
theorem cutI_lo{f f':Fn}{lo hi q:Rat}(h:OkI f f' lo hi)(h1:lo≤q)(h2:q < hi):cutI f lo hi q↔Ctd f lo q 0:=by
 rw [cutI_mid h h1 h2];rcases h.split h1 (by grind) with ⟨k1,k2⟩ | ⟨k1,k2⟩
 ·exact ⟨fun _=>k1,fun _=>k2⟩
 ·exact ⟨fun k=>by have:=k.uniq h.sq.po (by grind) k2;omega,fun k=>by have:=k.uniq h.sq.po h1 k1;omega⟩
theorem cutI_hi{f:Fn}{lo hi q:Rat}(hlt:lo < hi)(h:hi≤q):¬ cutI f lo hi q:=by rintro (k | ⟨k,_⟩) <;> grind
theorem cutI_free{f f':Fn}{lo hi q:Rat}(h:OkI f f' lo hi)(h1:lo≤q)(h2:q < hi):cutI f lo hi q↔RFree f lo q:=by
 rw [cutI_lo h h1 h2];refine ⟨fun k=>(k.free h.sq.po h1).1 rfl,fun hf=>?_⟩;rcases h.split h1 (by grind) with ⟨k1,_⟩ | ⟨k1,_⟩
 ·exact k1
 ·have:=(k1.free h.sq.po h1).2 hf;omega
theorem cutI_ok{f f':Fn}{lo hi:Rat}(h:OkI f f' lo hi):IsCut (cutI f lo hi):=by
 have hlt:=h.lt;refine ⟨fun q r hr hqr=>?_,fun q hq=>?_,⟨lo,Or.inl (by grind)⟩,⟨hi,cutI_hi hlt (by grind)⟩⟩
 ·by_cases hq:q≤lo
  ·exact Or.inl hq
  ·have hrh:r < hi:=by rcases hr with k | ⟨k,_⟩ <;> grind
   rw [cutI_free h (by grind) (by grind)];obtain ⟨s,hs,hst⟩:=(cutI_free h (by grind) hrh).1 hr;exact ⟨s,hs,fun t h1 h2=>hst t h1 (by grind)⟩
 ·
  obtain ⟨g,l,hst⟩:=h.stm;have key:∀ q,lo≤q→q < hi→Ctd f lo q 0→∃ r,q < r∧cutI f lo hi r:=by
   intro q h1 h2 k;obtain ⟨h0,e,he,hn⟩:=aft_near hst h.sq.po q;obtain ⟨z,hz,hz1,hz2⟩:=ex_min he (show 0 < hi-q by grind);refine ⟨q+z / 2,by grind,?_⟩;rw [cutI_lo h (by grind) (by grind)];obtain ⟨M,hM⟩:=sturm hst (a:=q) (b:=q+z / 2) (by grind);have hM0:M=0:=hM.nil.2 fun t h1 h2=>hn t h1 (by grind)
   subst hM0;exact Ctd.cat h.sq.po h1 (by grind) k ⟨g,l,hst,hM⟩
  by_cases hq1:q < lo
  ·exact ⟨lo,hq1,Or.inl (by grind)⟩
  ·have hqh:q < hi:=by rcases hq with k | ⟨k,_⟩ <;> grind
   exact key q (by grind) hqh ((cutI_lo h (by grind) hqh).1 hq)
theorem cutP_ok(t:Rat):IsCut (cutP t):=⟨fun q r h1 h2=>by unfold cutP at *;grind,fun q h=>⟨(q+t) / 2,by unfold cutP at h;grind,by unfold cutP at *;grind⟩,⟨t-1,by unfold cutP;grind⟩,⟨t,by unfold cutP;grind⟩⟩
/-- A narrower interval. -/
theorem OkI.narrow{f f':Fn}{lo hi a b:Rat}(h:OkI f f' lo hi)(h1:lo≤a)(h2:b≤hi)(h3:cutI f lo hi a)(h4:¬ cutI f lo hi b):OkI f f' a b∧∀ q,cutI f a b q↔cutI f lo hi q:=by
 have hc:=cutI_ok h;have hlt:=h.lt;have hab:a < b:=by
  by_cases hh:a < b
  ·exact hh
  ·exact absurd (hc.down b a h3 (by grind)) h4
 have k1:=(cutI_lo h h1 (by grind)).1 h3;have kb:Ctd f b hi 0:=by
  rcases h.split (q:=b) (by grind) h2 with ⟨m1,m2⟩ | ⟨_,m2⟩
  ·by_cases hbh:b < hi
   ·exact absurd ((cutI_lo h (by grind) hbh).2 m1) h4
   ·have:b=hi:=by grind
    subst this;have:=m2.free h.sq.po (by grind);have h0:(1:Nat)=0:=this.2 ⟨1,by decide,fun t h1 h2=>by grind⟩;omega
  ·exact m2
 have one:Ctd f a b 1:=by
  have k2:=(cutI_mid h h1 (by grind)).1 h3;obtain ⟨K,M,m1,m2,e⟩:=k2.split (m:=b) (by grind) h2;have:=m2.uniq h.sq.po (by grind) kb;rwa [show K=1 by omega] at m1
 have hok:OkI f f' a b:=⟨h.sq,hab,one⟩;refine ⟨hok,fun q=>?_⟩
 by_cases hq1:q≤a
 ·exact ⟨fun _=>hc.down q a h3 hq1,fun _=>Or.inl hq1⟩
 ·by_cases hq2:b≤q
  ·exact ⟨fun k=>absurd k (cutI_hi hab hq2),fun k=>absurd (hc.down b q k hq2) h4⟩
  ·rw [cutI_lo hok (by grind) (by grind),cutI_lo h (by grind) (by grind)]
   constructor
   ·intro k;exact Ctd.cat h.sq.po h1 (by grind) k1 k
   ·intro k
    obtain ⟨K,M,m1,m2,e⟩:=k.split (m:=a) h1 (by grind);rwa [show M=0 by omega] at m2
/-- A rational root is the number. -/
theorem cutI_root{f f':Fn}{lo hi t:Rat}(h:OkI f f' lo hi)(h1:lo < t)(h2:t≤hi)(h0:f t=0)(q:Rat):cutI f lo hi q↔cutP t q:=by
 have hs0:sgq (f t)=0:=sgq_eq_zero.2 h0;have nf:∀ a,a < t→¬ RFree f a t:=fun a ha ⟨s,hs,hst⟩=>hs ((hst t ha (by grind)).symm.trans hs0)
 have k1:Ctd f lo t 1:=by
  rcases h.split (q:=t) (by grind) h2 with ⟨m1,_⟩ | ⟨m1,_⟩
  ·exact absurd ((m1.free h.sq.po (by grind)).1 rfl) (nf lo h1)
  ·exact m1
 have k2:Ctd f t hi 0:=by
  rcases h.split (q:=t) (by grind) h2 with ⟨m1,_⟩ | ⟨_,m2⟩
  ·have:=m1.uniq h.sq.po (by grind) k1;omega
  ·exact m2
 unfold cutP
 by_cases hq:q≤lo
 ·exact ⟨fun _=>by grind,fun _=>Or.inl hq⟩
 ·by_cases hqh:q < hi
  ·rw [cutI_lo h (by grind) hqh]
   constructor
   ·intro k
    by_cases hqt:q < t
    ·exact hqt
    ·exfalso
     obtain ⟨K,M,a1,a2,e⟩:=k.split (m:=t) (by grind) (by grind);have:=a1.uniq h.sq.po (by grind) k1;omega
   ·intro hqt
    obtain ⟨K,M,a1,a2,e⟩:=k1.split (m:=q) (by grind) (by grind);have hM:M≠0:=fun hM=>nf q hqt ((a2.free h.sq.po (by grind)).1 hM)
    rwa [show K=0 by omega] at a1
  ·exact ⟨fun k=>absurd k (cutI_hi h.lt (by grind)),fun k=>by grind⟩
/-! ### Which one is greater -/
open Classical in
noncomputable def cmpC(C D:Cut):Int:=if ∃ q,D q∧¬ C q then -1 else if ∃ q,C q∧¬ D q then 1 else 0
theorem cmpC_lt{C D:Cut}{q:Rat}(h1:D q)(h2:¬ C q):cmpC C D= -1:=if_pos ⟨q,h1,h2⟩
theorem IsCut.excl{C D:Cut}(hC:IsCut C)(hD:IsCut D){q r:Rat}(h1:C q)(h2:¬ D q)(k1:D r)(k2:¬ C r):False:=by
 by_cases h:q≤r
 ·exact h2 (hD.down q r k1 h)
 ·exact k2 (hC.down r q h1 (by grind))
theorem cmpC_gt{C D:Cut}(hC:IsCut C)(hD:IsCut D){q:Rat}(h1:C q)(h2:¬ D q):cmpC C D=1:=by
 unfold cmpC;rw [if_neg (fun ⟨r,k1,k2⟩=>hC.excl hD h1 h2 k1 k2),if_pos ⟨q,h1,h2⟩]
theorem cmpC_eq{C D:Cut}(h:∀ q,C q↔D q):cmpC C D=0:=by
 unfold cmpC;rw [if_neg (fun ⟨q,h1,h2⟩=>h2 ((h q).2 h1)),if_neg (fun ⟨q,h1,h2⟩=>h2 ((h q).1 h1))]
theorem cmpC_zero{C D:Cut}(h:cmpC C D=0)(q:Rat):C q↔D q:=by
 unfold cmpC at h;split at h
 ·omega
 ·split at h
  ·omega
  ·rename_i h1 h2
   constructor
   ·intro k;by_cases hd:D q;exact hd;exact absurd ⟨q,k,hd⟩ h2
   ·intro k;by_cases hc:C q;exact hc;exact absurd ⟨q,k,hc⟩ h1
theorem cmpC_neg{C D:Cut}(hC:IsCut C)(hD:IsCut D):cmpC D C= -cmpC C D:=by
 by_cases h1:∃ q,D q∧¬ C q
 ·obtain ⟨q,a,b⟩:=h1;rw [cmpC_lt a b,cmpC_gt hD hC a b];rfl
 ·by_cases h2:∃ q,C q∧¬ D q
  ·obtain ⟨q,a,b⟩:=h2;rw [cmpC_gt hC hD a b,cmpC_lt a b]
  ·have e:∀ q,C q↔D q:=fun q=>⟨fun k=>by by_cases hd:D q;exact hd;exact absurd ⟨q,k,hd⟩ h2,fun k=>by by_cases hc:C q;exact hc;exact absurd ⟨q,k,hc⟩ h1⟩
   rw [cmpC_eq e,cmpC_eq fun q=>(e q).symm];rfl
theorem cmpC_bd(C D:Cut):cmpC C D= -1∨cmpC C D=0∨cmpC C D=1:=by unfold cmpC;split;exact Or.inl rfl;split;exact Or.inr (Or.inr rfl);exact Or.inr (Or.inl rfl)
theorem cmpC_le{C D:Cut}(hC:IsCut C)(hD:IsCut D):cmpC C D≤0↔∀ q,C q→D q:=by
 constructor
 ·intro h q hq
  by_cases hd:D q
  ·exact hd
  ·rw [cmpC_gt hC hD hq hd] at h;omega
 ·intro h
  unfold cmpC;split
  ·omega
  ·rw [if_neg (fun ⟨q,a,b⟩=>b (h q a))];exact Int.le_refl 0
/-- With a rational. -/
theorem cmpC_P1{C:Cut}(hC:IsCut C){t:Rat}(h:C t):cmpC C (cutP t)=1:=cmpC_gt hC (cutP_ok t) h (by unfold cutP;grind)
theorem cmpC_P0{C:Cut}{t:Rat}(h:∀ q,C q↔cutP t q):cmpC C (cutP t)=0:=cmpC_eq h
theorem cmpC_PP(s t:Rat):cmpC (cutP s) (cutP t)=cmpQ s t:=by
 by_cases h1:s < t
 ·rw [cmpC_lt (q:=s) (show cutP t s from h1) (by unfold cutP;grind),cmpQ_lt h1]
 ·by_cases h2:t < s
  ·rw [cmpC_gt (cutP_ok s) (cutP_ok t) (q:=t) (show cutP s t from h2) (by unfold cutP;grind),cmpQ_gt h2]
  ·have:s=t:=by grind
   subst this;rw [cmpC_eq fun q=>Iff.rfl,cmpQ_eq rfl]
/-- WHAT CmpRat ANSWERS. -/
theorem cmpI_rat{f f':Fn}{lo hi:Rat}(h:OkI f f' lo hi)(t:Rat):cmpC (cutI f lo hi) (cutP t)=if t≤lo then 1 else if hi < t then -1 else if sgq (f t)=0 then 0 else if sgq (f t)=aft f f' lo then 1 else -1:=by
 have hc:=cutI_ok h;have hlt:=h.lt;split
 ·rename_i h1;exact cmpC_P1 hc (Or.inl h1)
 ·rename_i h1
  split
  ·rename_i h2;exact cmpC_lt (q:=hi) (show hi < t from h2) (cutI_hi hlt (by grind))
  ·rename_i h2
   split
   ·rename_i h3;exact cmpC_P0 (cutI_root h (by grind) (by grind) (sgq_eq_zero.1 h3))
   ·rename_i h3
    rcases h.split (q:=t) (by grind) (by grind) with ⟨k1,k2⟩ | ⟨k1,k2⟩
    ·have hh:=ctd_has h.sq.der (by grind) k1 (by omega)
     have e:sgq (f t)=aft f f' lo:=by
      by_cases h4:sgq (f t)=aft f f' lo
      ·exact h4
      ·have:(0:Nat)=1:=hh.2 (Or.inr h4);omega
     rw [if_pos e];have hth:t < hi:=by
      by_cases h5:t < hi
      ·exact h5
      ·have:t=hi:=by grind
       subst this;have:=k1.uniq h.sq.po (by grind) h.one;omega
     exact cmpC_P1 hc ((cutI_lo h (by grind) hth).2 k1)
    ·have hh:=(ctd_has h.sq.der (by grind) k1 (by omega)).1 rfl
     have e:¬ sgq (f t)=aft f f' lo:=by rcases hh with h4 | h4;exact absurd h4 h3;exact h4
     rw [if_neg e];have hz:∃ q,q < t∧¬ cutI f lo hi q:=by
      obtain ⟨L,hL,hl⟩:=h.sq.po.lip (ex_in lo hi).choose;obtain ⟨hB1,hB2,_⟩:=(ex_in lo hi).choose_spec;generalize (ex_in lo hi).choose=B at *
      obtain ⟨m,hm,hf⟩:∃ m:Rat,0 < m∧Far (f t) m:=by
       rcases sgq_cases (f t) with ⟨k,_⟩ | ⟨_,k⟩ | ⟨k,_⟩
       ·exact ⟨-(f t),by grind,Or.inr (by grind)⟩
       ·exact absurd k h3
       ·exact ⟨f t,k,Or.inl (by grind)⟩
      obtain ⟨d,hd,hs⟩:=ex_small hL hm;obtain ⟨z,hz,hz1,hz2⟩:=ex_min hd (show 0 < t-lo by grind);have hxB:In B (t-z / 2):=hB1.btw hB2 (by grind) (by grind);have htB:In B t:=hB1.btw hB2 (by grind) (by grind);have hsm:=hs (t-(t-z / 2)) (by grind) (by grind);have sg:∀ y,t-z / 2≤y→y≤t→sgq (f y)=sgq (f t):=by
       intro y y1 y2;have hyB:In B y:=hB1.btw hB2 (by grind) (by grind);have a1:=hl y t hyB htB y2;have a2:L*(t-y)≤L*(t-(t-z / 2)):=Rat.mul_le_mul_of_nonneg_left (by grind) hL
       rcases hf with hf | hf
       ·rw [sgq_pos (x:=f t) (by grind)];exact sgq_pos (by grind)
       ·rw [sgq_neg (x:=f t) (by grind)];exact sgq_neg (by grind)
      refine ⟨t-z / 2,by grind,fun hcut=>?_⟩;have b1:=(cutI_lo h (by grind) (by grind)).1 hcut;obtain ⟨K,M,c1,c2,e2⟩:=k1.split (m:=t-z / 2) (by grind) (by grind);have c3:=c1.uniq h.sq.po (by grind) b1;have c4:M=0:=(c2.free h.sq.po (by grind)).2 ⟨sgq (f t),h3,fun y y1 y2=>sg y (by grind) y2⟩;omega
     obtain ⟨q,q1,q2⟩:=hz;exact cmpC_lt (q:=q) (show q < t from q1) q2
/-! ### The sign of a polynomial at a number -/
def SgC(p:Fn)(C:Cut)(s:Int):Prop:=∃ e q r,0 < e∧C q∧¬ C r∧∀ t,q≤t→t≤r→Far (p t) e∧sgq (p t)=s
def VC(p:Fn)(C:Cut):Prop:=∀ e,0 < e→∀ q r,C q→¬ C r→∃ t,q≤t∧t≤r∧Ab (p t) e
theorem IsCut.nb{C:Cut}(h:IsCut C){q r:Rat}(h1:C q)(h2:¬ C r):q < r:=by
 by_cases h3:q < r
 ·exact h3
 ·exact absurd (h.down r q h1 (by grind)) h2
theorem IsCut.short{C:Cut}(h:IsCut C){q r η:Rat}(h1:C q)(h2:¬ C r)(hη:0 < η):∃ q' r',q≤q'∧r'≤r∧C q'∧¬ C r'∧r'-q' < η:=by
 by_cases hh:∃ q' r',q≤q'∧r'≤r∧C q'∧¬ C r'∧r'-q' < η
 ·exact hh
 ·exfalso
  apply h2;refine cells_ind hη (by have:=h.nb h1 h2;grind) (fun c=>C c) h1 fun x y hx hxy hy hlt ih=>?_
  by_cases hc:C y
  ·exact hc
  ·exact absurd ⟨x,y,hx,hy,ih,hc,hlt⟩ hh
theorem SgC.meet{p q:Fn}{C:Cut}(hC:IsCut C){s s':Int}(h:SgC p C s)(k:SgC q C s'):∃ e a b,0 < e∧C a∧¬ C b∧∀ t,a≤t→t≤b→(Far (p t) e∧sgq (p t)=s)∧(Far (q t) e∧sgq (q t)=s'):=by
 obtain ⟨e1,q1,r1,he1,c1,d1,h⟩:=h;obtain ⟨e2,q2,r2,he2,c2,d2,k⟩:=k;obtain ⟨e,he,le1,le2⟩:=ex_min he1 he2;refine ⟨e,if q1≤q2 then q2 else q1,if r1≤r2 then r1 else r2,he,by split <;> assumption,by split <;> assumption,fun t h1 h2=>?_⟩;have a1:=h t (by split at h1 <;> grind) (by split at h2 <;> grind);have a2:=k t (by split at h1 <;> grind) (by split at h2 <;> grind);exact ⟨⟨by rcases a1.1 with x | x;exact Or.inl (by grind);exact Or.inr (by grind),a1.2⟩,⟨by rcases a2.1 with x | x;exact Or.inl (by grind);exact Or.inr (by grind),a2.2⟩⟩
theorem SgC.uniq{p:Fn}{C:Cut}(hC:IsCut C){s s':Int}(h:SgC p C s)(k:SgC p C s'):s=s':=by
 obtain ⟨e,a,b,he,ha,hb,m⟩:=h.meet hC k;have:=m a (by grind) (by have:=hC.nb ha hb;grind);exact this.1.2.symm.trans this.2.2
theorem SgC.not_v{p:Fn}{C:Cut}{s:Int}(h:SgC p C s)(k:VC p C):False:=by
 obtain ⟨e,q,r,he,c,d,h⟩:=h;obtain ⟨t,t1,t2,ht⟩:=k (e / 2) (by grind) q r c d;have:=(h t t1 t2).1;unfold Ab at ht;rcases this with a | a <;> grind
theorem sg_or_v{p:Fn}{C:Cut}(hC:IsCut C)(pp:Po p):VC p C∨∃ s,SgC p C s:=by
 by_cases h:∃ e q r,0 < e∧C q∧¬ C r∧∀ t,q≤t→t≤r→¬ Ab (p t) e
 ·right
  obtain ⟨e,q,r,he,c,d,h⟩:=h;have hf:∀ t,q≤t→t≤r→Far (p t) e:=fun t h1 h2=>by have:=h t h1 h2;unfold Ab at this;unfold Far;grind
  have:=far_sign pp (by have:=hC.nb c d;grind) he hf;exact ⟨sgq (p q),e,q,r,he,c,d,fun t h1 h2=>⟨hf t h1 h2,this.2 t h1 h2⟩⟩
 ·left
  intro e he q r c d
  by_cases hh:∃ t,q≤t∧t≤r∧Ab (p t) e
  ·exact hh
  ·exact absurd ⟨e,q,r,he,c,d,fun t h1 h2 ha=>hh ⟨t,h1,h2,ha⟩⟩ h
open Classical in
noncomputable def sgC(p:Fn)(C:Cut):Int:=if h:∃ s,SgC p C s then h.choose else 0
theorem sgC_eq{p:Fn}{C:Cut}(hC:IsCut C){s:Int}(h:SgC p C s):sgC p C=s:=by
 have hh:∃ s,SgC p C s:=⟨s,h⟩
 unfold sgC;rw [dif_pos hh];exact hh.choose_spec.uniq hC h
theorem sgC_zero{p:Fn}{C:Cut}(h:VC p C):sgC p C=0:=by
 unfold sgC;rw [dif_neg (fun ⟨s,k⟩=>k.not_v h)]
theorem Far.mul{x y d e:Rat}(hd:0 < d)(he:0 < e)(h:Far x d)(k:Far y e):Far (x*y) (d*e):=by
 have c1:∀ u v:Rat,d≤u→e≤v→d*e≤u*v:=fun u v h1 h2=>by
  have a1:=Rat.mul_le_mul_of_nonneg_left h2 (show 0≤d by grind);have a2:=Rat.mul_le_mul_of_nonneg_right h1 (show 0≤v by grind);grind
 rcases h with i | i <;> rcases k with j | j
 ·exact Or.inl (c1 _ _ i j)
 ·exact Or.inr (by have:=c1 x (-y) i (by grind);grind)
 ·exact Or.inr (by have:=c1 (-x) y (by grind) j;grind)
 ·exact Or.inl (by have:=c1 (-x) (-y) (by grind) (by grind);grind)
theorem VC.mul{p q:Fn}{C:Cut}(hC:IsCut C)(pq:Po q)(h:VC p C):VC (fun x=>p x*q x) C:=by
 intro e he a b ca cb;obtain ⟨B,hBa,hBb,_⟩:=ex_in a b;obtain ⟨M,hM,hb⟩:=pq.bd B;obtain ⟨d,hd,hs⟩:=ex_small hM he;obtain ⟨t,t1,t2,ht⟩:=h (d / 2) (by grind) a b ca cb;refine ⟨t,t1,t2,(ht.mul (hb t (hBa.btw hBb t1 t2))).mono ?_⟩;have:=hs (d / 2) (by grind) (by grind);grind
theorem SgC.mul{p q:Fn}{C:Cut}(hC:IsCut C){s s':Int}(h:SgC p C s)(k:SgC q C s'):SgC (fun x=>p x*q x) C (s*s'):=by
 obtain ⟨e,a,b,he,ha,hb,m⟩:=h.meet hC k;exact ⟨e*e,a,b,Rat.mul_pos he he,ha,hb,fun t h1 h2=>by
  have:=m t h1 h2;exact ⟨this.1.1.mul he he this.2.1,by rw [sgq_mul,this.1.2,this.2.2]⟩⟩
theorem VC.congr{p q:Fn}{C:Cut}(h:VC p C)(e:∀ x,p x=q x):VC q C:=by obtain rfl:p=q:=funext e;exact h
theorem sgC_P{p:Fn}(pp:Po p)(t:Rat):sgC p (cutP t)=sgq (p t):=by
 by_cases h0:sgq (p t)=0
 ·rw [h0]
  exact sgC_zero fun e he q r hq hr=>⟨t,by unfold cutP at hq;grind,by unfold cutP at hr;grind,by rw [sgq_eq_zero.1 h0];exact ab_zero (by grind)⟩
 ·obtain ⟨B,hB1,hB2,_⟩:=ex_in (t-1) t
  obtain ⟨m,hm,hf⟩:∃ m:Rat,0 < m∧Far (p t) m:=by
   rcases sgq_cases (p t) with ⟨k,_⟩ | ⟨_,k⟩ | ⟨k,_⟩
   ·exact ⟨-(p t),by grind,Or.inr (by grind)⟩
   ·exact absurd k h0
   ·exact ⟨p t,k,Or.inl (by grind)⟩
  obtain ⟨L,hL,hl⟩:=pp.lip B;obtain ⟨d,hd,hs⟩:=ex_small (L:=L) (m:=m / 2) hL (by grind);obtain ⟨z,hz,hz1,hz2⟩:=ex_min hd (show (0:Rat) < 1 by grind);refine sgC_eq (cutP_ok t) ⟨m / 2,t-z / 2,t,by grind,by unfold cutP;grind,by unfold cutP;grind,fun y h1 h2=>?_⟩;have a1:=hl y t (hB1.btw hB2 (by grind) h2) hB2 h2;have a2:L*(t-y)≤L*(z / 2):=Rat.mul_le_mul_of_nonneg_left (by grind) hL;have a3:=hs (z / 2) (by grind) (by grind);rcases hf with hf | hf
  ·exact ⟨Or.inl (by grind),by rw [sgq_pos (x:=p t) (by grind)];exact sgq_pos (by grind)⟩
  ·exact ⟨Or.inr (by grind),by rw [sgq_neg (x:=p t) (by grind)];exact sgq_neg (by grind)⟩
theorem sgC_cut{p:Fn}{C D:Cut}(h:∀ q,C q↔D q):sgC p C=sgC p D:=by
 obtain rfl:C=D:=funext fun q=>propext (h q)
 rfl
/-! ### By a common divisor -/
theorem const_of{g g':Fn}(pg:Po g)(hd:Der g g')(h:∀ x,g' x=0):∃ c,∀ x,g x=c:=by
 by_cases hn:∃ x,g x≠0
 ·obtain ⟨k,a,hk⟩:=po_deg pg hn
  cases k with
  | zero=>exact ⟨a,lc_const hk⟩
  | succ k=>obtain ⟨y,hy⟩:=(hk.der hd).ne;exact absurd (h y) hy
 ·exact ⟨0,fun x=>by by_cases h:g x=0;exact h;exact absurd ⟨x,h⟩ hn⟩
theorem Sqf.ne{f f':Fn}(h:Sqf f f'):∃ x,f x≠0:=by
 by_cases hh:∃ x,f x≠0
 ·exact hh
 ·exfalso
  have h0:∀ x,f x=0:=fun x=>by by_cases h:f x=0;exact h;exact absurd ⟨x,h⟩ hh
  have h1:∀ x,f' x=0:=fun x=>((h.der.congr h0 (fun _=>rfl)).uniq (der_const 0) x)
  obtain ⟨u,v,_,_,e⟩:=h.cop;have:=e 0;rw [h0,h1] at this;grind
/-- A divisor with a root has a chain. -/
theorem dv_stm{f f' g w:Fn}(h:Sqf f f')(pg:Po g)(pw:Po w)(hf:∀ x,f x=g x*w x){a b:Rat}(hn:¬ RFree g a b):∃ gg l,Stm g gg l:=by
 obtain ⟨g',pg',dg⟩:=pg.der;have hs:=h.dv pg pw pg' dg hf
 by_cases h0:∃ x,g' x≠0
 ·obtain ⟨gg,l,h1,_⟩:=hs.stm h0;exact ⟨gg,l,h1⟩
 ·exfalso
  obtain ⟨c,hc⟩:=const_of pg dg fun x=>by by_cases h:g' x=0;exact h;exact absurd ⟨x,h⟩ h0
  have hc0:c≠0:=by
   rintro rfl;obtain ⟨x,hx⟩:=hs.ne;exact hx (hc x)
  exact hn ⟨sgq c,fun e=>hc0 (sgq_eq_zero.1 e),fun t _ _=>by rw [hc]⟩
theorem dv_count{f f' g w:Fn}{lo hi:Rat}(h:OkI f f' lo hi)(pg:Po g)(pw:Po w)(hf:∀ x,f x=g x*w x){gg:Fn}{l:List Fn}(hs:Stm g gg l){a b:Rat}(hab:a≤b){K N:Nat}(k:Ctd g a b K)(n:Ctd f a b N):K≤N:=by
 obtain ⟨g',pg',dg⟩:=pg.der;obtain ⟨w',pw',dw⟩:=pw.der;obtain ⟨gf,lf,hst⟩:=h.stm;exact ctd_mono h.sq.po pg pw hs hst (h.sq.cop_of pg pw pg' pw' dg dw hf) hf hab k n
theorem clamp{C:Cut}{lo hi q r:Rat}(hlo:C lo)(hhi:¬ C hi)(hq:C q)(hr:¬ C r):∃ q' r',lo≤q'∧r'≤hi∧q≤q'∧r'≤r∧C q'∧¬ C r':=
 ⟨if q≤lo then lo else q,if r≤hi then r else hi,by split <;> grind,by split <;> grind,by split <;> grind,by split <;> grind,by split <;> assumption,by split <;> assumption⟩
/-- Where the common divisor has no root there is a sign. -/
theorem sign_far{f f' g w p p1 u v:Fn}{lo hi:Rat}(h:OkI f f' lo hi)(pg:Po g)(pw:Po w)(pp1:Po p1)(pu:Po u)(pv:Po v)(hf:∀ x,f x=g x*w x)(hp:∀ x,p x=g x*p1 x)(huv:∀ x,g x=u x*p x+v x*f x)(hfr:RFree g lo hi):∃ s,SgC p (cutI f lo hi) s:=by
 have hC:=cutI_ok h;have hlt:=h.lt;rcases sg_or_v hC ((pg.mul pp1).congr fun x=>(hp x).symm) with hv | hs
 ·exfalso
  obtain ⟨q0,hq0,c0⟩:=hC.up lo (Or.inl (by grind));have chi:¬ cutI f lo hi hi:=cutI_hi hlt (by grind);obtain ⟨s,hs0,hst⟩:=hfr;have gfar:∃ e,0 < e∧∀ t,q0≤t→t≤hi→Far (g t) e:=by
   obtain ⟨g',pg',dg⟩:=pg.der;have hsq:=h.sq.dv pg pw pg' dg hf;have hqh:=hC.nb c0 chi
   by_cases hc:∃ x,g' x≠0
   ·obtain ⟨gg,l,hst',_⟩:=hsq.stm hc
    exact free_far hst' pg (by grind) (by rw [hst q0 hq0 (by grind)];exact hs0) (fun t h1 h2=>by rw [hst t (by grind) h2,hst q0 hq0 (by grind)])
   ·obtain ⟨c,hcc⟩:=const_of pg dg fun x=>by by_cases h:g' x=0;exact h;exact absurd ⟨x,h⟩ hc
    have hc0:c≠0:=by rintro rfl;obtain ⟨x,hx⟩:=hsq.ne;exact hx (hcc x)
    rcases sgq_cases c with ⟨k,_⟩ | ⟨k,_⟩ | ⟨k,_⟩
    ·exact ⟨-c,by grind,fun t _ _=>by rw [hcc];exact Or.inr (by grind)⟩
    ·exact absurd k hc0
    ·exact ⟨c,k,fun t _ _=>by rw [hcc];exact Or.inl (by grind)⟩
  obtain ⟨e,he,gfar⟩:=gfar;obtain ⟨B,hB1,hB2,_⟩:=ex_in q0 hi;obtain ⟨M,hM,mu⟩:=pu.bd B;obtain ⟨N,hN,mv⟩:=pv.bd B;obtain ⟨L,hL,hl⟩:=h.sq.po.lip B;obtain ⟨z,hz,hzs⟩:=ex_small (L:=M+N+N*L) (m:=e) (by have:=Rat.mul_nonneg hN hL;grind) he;obtain ⟨q',r',h1,h2,c1,c2,hsh⟩:=hC.short c0 chi (η:=z / 2) (by grind);have hqr:=hC.nb c1 c2;obtain ⟨ho,_⟩:=h.narrow (a:=q') (b:=r') (by grind) h2 c1 c2;obtain ⟨x,x1,x2,hx⟩:=ex_near h.sq.po (by grind) ho.one (by decide) (show 0 < z / 2 by grind);obtain ⟨y,y1,y2,hy⟩:=hv (z / 2) (by grind) q' r' c1 c2;have xB:=hB1.btw hB2 (t:=x) (by grind) (by grind);have yB:=hB1.btw hB2 (t:=y) (by grind) (by grind);have hfy:Ab (f y) (z / 2+L*(z / 2)):=by
   by_cases hxy:x≤y
   ·have a1:=hl.ab xB yB hxy
    have a2:L*(y-x)≤L*(z / 2):=Rat.mul_le_mul_of_nonneg_left (by grind) hL;unfold Ab at *;constructor <;> grind
   ·have a1:=hl.ab yB xB (by grind)
    have a2:L*(x-y)≤L*(z / 2):=Rat.mul_le_mul_of_nonneg_left (by grind) hL;unfold Ab at *;constructor <;> grind
  have a3:=((mu y yB).mul hy).add ((mv y yB).mul hfy);rw [← huv] at a3;have a4:=hzs (z / 2) (by grind) (by grind);have a5:=gfar y (by grind) (by grind);unfold Ab at a3;rcases a5 with a5 | a5 <;> grind
 ·exact hs
/-- ONE NUMBER: a common divisor has a root in both intervals. -/
theorem cmp_same{f1 f1' f2 f2' g w1 w2:Fn}{l1 h1 l2 h2 a b:Rat}(o1:OkI f1 f1' l1 h1)(o2:OkI f2 f2' l2 h2)(pg:Po g)(pw1:Po w1)(pw2:Po w2)(e1:∀ x,f1 x=g x*w1 x)(e2:∀ x,f2 x=g x*w2 x)(a1:l1≤a)(a2:l2≤a)(b1:b≤h1)(b2:b≤h2)(hab:a < b)(hn:¬ RFree g a b)(q:Rat):cutI f1 l1 h1 q↔cutI f2 l2 h2 q:=by
 obtain ⟨gg,l,hs⟩:=dv_stm o1.sq pg pw1 e1 hn;obtain ⟨K,k⟩:∃ K,Ctd g a b K:=let ⟨N,n⟩:=sturm hs (a:=a) (b:=b) (by grind);⟨N,gg,l,hs,n⟩
 have hK0:K≠0:=fun e=>hn ((k.free pg (by grind)).1 e)
 have side:∀ {f f' w:Fn} {lo hi:Rat},OkI f f' lo hi→Po w→(∀ x,f x=g x*w x)→lo≤a→b≤hi→cutI f lo hi a∧¬ cutI f lo hi b:=by
  intro f f' w lo hi o pw e ha hb;have hlt:=o.lt;have hone:Ctd f a b 1∧Ctd f lo a 0∧Ctd f b hi 0:=by
   obtain ⟨N1,N2,n1,n2,x1⟩:=o.one.split (m:=a) ha (by grind);obtain ⟨N3,N4,n3,n4,x2⟩:=n2.split (m:=b) (by grind) hb;have:=dv_count o pg pw e hs (by grind) k n3;have:N3=1:=by omega
   subst this;exact ⟨n3,by rwa [show N1=0 by omega] at n1,by rwa [show N4=0 by omega] at n4⟩
  refine ⟨(cutI_lo o ha (by grind)).2 hone.2.1,fun hc=>?_⟩
  by_cases hbh:b < hi
  ·have:=(cutI_mid o (by grind) hbh).1 hc
   have:=this.uniq o.sq.po hb hone.2.2;omega
  ·exact cutI_hi hlt (by grind) hc
 obtain ⟨c1,d1⟩:=side o1 pw1 e1 a1 b1;obtain ⟨c2,d2⟩:=side o2 pw2 e2 a2 b2;obtain ⟨n1,m1⟩:=o1.narrow a1 b1 c1 d1;obtain ⟨n2,m2⟩:=o2.narrow a2 b2 c2 d2;rw [← m1,← m2]
 by_cases hq1:q≤a
 ·exact ⟨fun _=>Or.inl hq1,fun _=>Or.inl hq1⟩
 ·by_cases hq2:q < b
  ·rw [cutI_lo n1 (by grind) hq2,cutI_lo n2 (by grind) hq2]
   have hk1:K=1:=by have:=dv_count n1 pg pw1 e1 hs (by grind) k n1.one;omega
   subst hk1;obtain ⟨K1,K2,k1,k2,ek⟩:=k.split (m:=q) (by grind) (by grind);have key:∀ {f f' w:Fn},OkI f f' a b→Po w→(∀ x,f x=g x*w x)→(Ctd f a q 0↔K1=0):=by
    intro f f' w o pw e
    rcases o.split (q:=q) (by grind) (by grind) with ⟨x1,x2⟩ | ⟨x1,x2⟩
    ·have:=dv_count o pg pw e hs (by grind) k1 x1
     exact ⟨fun _=>by omega,fun _=>x1⟩
    ·have:=dv_count o pg pw e hs (by grind) k2 x2
     exact ⟨fun x=>by have:=x.uniq o.sq.po (by grind) x1;omega,fun _=>by omega⟩
   rw [key n1 pw1 e1,key n2 pw2 e2]
  ·exact ⟨fun c=>absurd c (cutI_hi n1.lt (by grind)),fun c=>absurd c (cutI_hi n2.lt (by grind))⟩
/-- TWO NUMBERS: it has none. -/
theorem cmp_diff{f1 f1' f2 f2' g w1 w2 u v:Fn}{l1 h1 l2 h2 a b:Rat}(o1:OkI f1 f1' l1 h1)(o2:OkI f2 f2' l2 h2)(pg:Po g)(pw1:Po w1)(pw2:Po w2)(pu:Po u)(pv:Po v)(e1:∀ x,f1 x=g x*w1 x)(e2:∀ x,f2 x=g x*w2 x)(huv:∀ x,g x=u x*f2 x+v x*f1 x)(ha:a=l1∨a=l2)(hb:b=h1∨b=h2)(a1:l1≤a)(a2:l2≤a)(b1:b≤h1)(b2:b≤h2)(hn:a < b→RFree g a b)(he:∀ q,cutI f1 l1 h1 q↔cutI f2 l2 h2 q):False:=by
 have C1:=cutI_ok o1;have C2:=cutI_ok o2;have lt1:=o1.lt;have lt2:=o2.lt;have ca:cutI f1 l1 h1 a:=by
  rcases ha with rfl | rfl
  ·exact Or.inl (by grind)
  ·exact (he _).2 (Or.inl (by grind))
 have cb:¬ cutI f1 l1 h1 b:=by
  rcases hb with rfl | rfl
  ·exact cutI_hi lt1 (by grind)
  ·intro hc;exact cutI_hi lt2 (by grind) ((he _).1 hc)
 have hab:=C1.nb ca cb;obtain ⟨n1,m1⟩:=o1.narrow a1 b1 ca cb;obtain ⟨n2,m2⟩:=o2.narrow a2 b2 ((he a).1 ca) (fun hc=>cb ((he b).2 hc));obtain ⟨s,hs⟩:=sign_far (p:=f2) (p1:=w2) n1 pg pw1 pw2 pu pv e1 e2 huv (hn hab);refine hs.not_v fun e he' q r hq hr=>?_
 obtain ⟨q',r',x1,x2,x3,x4,c1,c2⟩:=clamp (C:=cutI f1 a b) (lo:=a) (hi:=b) (Or.inl (by grind)) (cutI_hi hab (by grind)) hq hr;have hx:∀ t,cutI f1 a b t↔cutI f2 a b t:=fun t=>by rw [m1,m2];exact he t
 obtain ⟨o,_⟩:=n2.narrow x1 x2 ((hx _).1 c1) (fun hc=>c2 ((hx _).2 hc));obtain ⟨x,y1,y2,hy⟩:=ex_near n2.sq.po (by have:=o.lt;grind) o.one (by decide) he';exact ⟨x,by grind,by grind,hy⟩
/-- A normal row of n coefficients. -/
structure IP(n:Nat)(c:Nat→Int):Prop where
 z:∀ i,n≤i→c i=0
 l:n≠0→c (n-1)≠0
theorem IP.of{c:Nat→Int}{m:Nat}(h:∀ i,m≤i→c i=0):IP (dg c m) c:=⟨dg_z h,dg_ne⟩
theorem IP.self{n:Nat}{c:Nat→Int}(h:IP n c):dg c n=n:=dg_stop (by by_cases e:n=0;exact Or.inl e;exact Or.inr (h.l e))
theorem IP.uniq{n m:Nat}{c:Nat→Int}(h:IP n c)(k:∀ i,m≤i→c i=0):dg c m=n:=by rw [dg_eq k h.z];exact h.self
def pf(c:Nat→Int)(n:Nat):Fn:=fun q=>pz c q n
theorem pf_po{c:Nat→Int}{n:Nat}(h:∀ i,n≤i→c i=0):Po (pf c n):=⟨n,rc c,rc_z h,fun _=>rfl⟩
theorem pf_eq{c:Nat→Int}{n m:Nat}(h:∀ i,n≤i→c i=0)(k:∀ i,m≤i→c i=0):pf c n=pf c m:=funext fun q=>pz_eq h k
theorem rc_ne{z:Int}(h:z≠0):(z:Rat)≠0:=fun e=>h (by exact_mod_cast e)
theorem IP.lc{n:Nat}{c:Nat→Int}(h:IP n c)(hn:n≠0):Lc (n-1) (pf c n) (c (n-1):Rat):=
 ⟨rc c,fun i hi=>rc_z h.z i (by omega),rfl,rc_ne (h.l hn),fun q=>by show pz c q n=pe (rc c) q (n-1+1);rw [Nat.sub_add_cancel (by omega)];rfl⟩
theorem IP.ne{n:Nat}{c:Nat→Int}(h:IP n c)(hn:n≠0):∃ x,pf c n x≠0:=(h.lc hn).ne
theorem IP.zero{n:Nat}{c:Nat→Int}(h:IP n c)(k:∀ x,pf c n x=0):n=0:=by
 by_cases hn:n=0
 ·exact hn
 ·obtain ⟨x,hx⟩:=h.ne hn;exact absurd (k x) hx
theorem pf_zero(c:Nat→Int)(x:Rat):pf c 0 x=0:=rfl
theorem pf_conv{a b:Nat→Int}{n m:Nat}(ha:∀ i,n≤i→a i=0)(hb:∀ i,m≤i→b i=0)(x:Rat):pf (conv a b) (n+m) x=pf a n x*pf b m x:=pz_conv ha hb (conv_z0 ha hb)
theorem pf_scl{a:Nat→Int}{n:Nat}(y:Int)(x:Rat):pf (fscl a y) n x=pf a n x*(y:Rat):=pz_scl y
theorem pf_sub{a b:Nat→Int}{n:Nat}(x:Rat):pf (fsub a b) n x=pf a n x-pf b n x:=pz_sub
theorem pf_neg{a:Nat→Int}{n:Nat}(x:Rat):pf (fneg a) n x= - pf a n x:=by
 have:fneg a=fscl a (-1):=funext fun i=>by unfold fneg fscl;omega
 rw [this,pf_scl];grind
theorem pf_one{a b:Nat→Int}{n m:Nat}(ha:∀ i,n≤i→a i=0)(hb:∀ i,m≤i→b i=0)(h:∀ x,pf a n x=pf b m x):∀ i,a i=b i:=pz_one ha hb fun x=>h x
theorem pf_der{c:Nat→Int}{n:Nat}:Der (pf c n) (pf (fder c) (n-1)):=by
 have h:=der_pe (c:=rc c) (n:=n);have e:derQ (rc c)=rc (fder c):=funext fun i=>by
  show ((i+1:Nat):Rat)*((c (i+1):Int):Rat)=((c (i+1)*((i+1:Nat):Int):Int):Rat)
  rw [Rat.intCast_mul,Rat.mul_comm];rfl
 rw [e] at h;exact h
theorem pf_const{c:Nat→Int}{x:Rat}:pf c 1 x=(c 0:Rat):=by
 show 0+rc c 0*x^0=_
 rw [Rat.pow_zero];show 0+(c 0:Rat)*1=_;grind
/-! ### Contents -/
theorem gcdN_all{c:Nat→Int}{g:Nat}:∀ {n:Nat},(∀ i,i < n→g∣(c i).natAbs)→g∣gcdN c n
 | 0,_=>Nat.dvd_zero _
 | n+1,h=>Nat.dvd_gcd (gcdN_all fun i hi=>h i (by omega)) (h n (by omega))
theorem gcdN_scl{d:Nat→Int}{g:Int}:∀ n,gcdN (fun i=>g*d i) n=g.natAbs*gcdN d n
 | 0=>rfl
 | n+1=>by
  show Nat.gcd (gcdN (fun i=>g*d i) n) (g*d n).natAbs=g.natAbs*Nat.gcd (gcdN d n) (d n).natAbs
  rw [gcdN_scl n,Int.natAbs_mul,Nat.gcd_mul_left]
theorem gcdN_more{c:Nat→Int}{n:Nat}(h:∀ i,n≤i→c i=0):∀ k,gcdN c (n+k)=gcdN c n
 | 0=>rfl
 | k+1=>by
  show Nat.gcd (gcdN c (n+k)) (c (n+k)).natAbs=_
  rw [h (n+k) (by omega),gcdN_more h k];exact Nat.gcd_zero_right _
theorem gcdN_eq{c:Nat→Int}{n m:Nat}(h:∀ i,n≤i→c i=0)(k:∀ i,m≤i→c i=0):gcdN c n=gcdN c m:=by
 rcases Nat.le_total n m with e | e
 ·obtain ⟨d,rfl⟩:=Nat.exists_eq_add_of_le e;exact (gcdN_more h d).symm
 ·obtain ⟨d,rfl⟩:=Nat.exists_eq_add_of_le e;exact gcdN_more k d
theorem gcdN_pos{c:Nat→Int}{i n:Nat}(hi:i < n)(h:c i≠0):0 < gcdN c n:=by
 rcases Nat.eq_zero_or_pos (gcdN c n) with e | e
 ·have:=gcdN_dvd (c:=c) hi
  rw [e] at this;have:=Nat.eq_zero_of_zero_dvd this;omega
 ·exact e
theorem IP.gcd_pos{n:Nat}{c:Nat→Int}(h:IP n c)(hn:n≠0):0 < gcdN c n:=gcdN_pos (i:=n-1) (by omega) (h.l hn)
theorem IP.fdv{n:Nat}{c:Nat→Int}(h:IP n c){g:Int}(hg:g≠0)(hd:∀ i,i < n→g∣c i):IP n (fdv c g):=⟨fdv_z h.z,fun hn e=>h.l hn (by
 have h1:=Int.mul_ediv_cancel' (hd (n-1) (by omega));unfold Go.Proofs.YtapmpcgekdplfaaGreat.fdv at e;rw [e] at h1;omega)⟩
theorem fdv_eq{n:Nat}{c:Nat→Int}(hz:∀ i,n≤i→c i=0){g:Int}(hd:∀ i,i < n→g∣c i)(i:Nat):g*fdv c g i=c i:=by
 by_cases hi:i < n
 ·exact Int.mul_ediv_cancel' (hd i hi)
 ·unfold fdv;rw [hz i (by omega),Int.zero_ediv,Int.mul_zero]
theorem gcd_dvI{c:Nat→Int}{i n:Nat}(hi:i < n):((gcdN c n:Nat):Int)∣c i:=Int.ofNat_dvd_left.2 (gcdN_dvd hi)
/-- Over its content. -/
def szd(c:Nat→Int)(n:Nat):Nat→Int:=fdv c ((gcdN c n:Nat):Int)
def conS(c:Nat→Int)(n:Nat):Int:=if c (n-1) < 0 then -((gcdN c n:Nat):Int) else ((gcdN c n:Nat):Int)
def prm(c:Nat→Int)(n:Nat):Nat→Int:=fdv c (conS c n)
theorem szd_eq{n:Nat}{c:Nat→Int}(hz:∀ i,n≤i→c i=0)(i:Nat):((gcdN c n:Nat):Int)*szd c n i=c i:=fdv_eq hz (fun _ h=>gcd_dvI h) i
theorem conS_dv{c:Nat→Int}{i n:Nat}(hi:i < n):conS c n∣c i:=by
 unfold conS;split
 ·exact Int.neg_dvd.2 (gcd_dvI hi)
 ·exact gcd_dvI hi
theorem prm_eq{n:Nat}{c:Nat→Int}(hz:∀ i,n≤i→c i=0)(i:Nat):conS c n*prm c n i=c i:=fdv_eq hz (fun _ h=>conS_dv h) i
theorem conS_abs{c:Nat→Int}{n:Nat}:(conS c n).natAbs=gcdN c n:=by unfold conS;split <;> omega
theorem IP.conS_ne{n:Nat}{c:Nat→Int}(h:IP n c)(hn:n≠0):conS c n≠0:=by have:=h.gcd_pos hn;have:=conS_abs (c:=c) (n:=n);omega
theorem IP.prm{n:Nat}{c:Nat→Int}(h:IP n c):IP n (prm c n):=by
 by_cases hn:n=0
 ·subst hn;exact ⟨fdv_z h.z,fun e=>absurd rfl e⟩
 ·exact h.fdv (h.conS_ne hn) fun _ k=>conS_dv k
theorem pf_szd{n:Nat}{c:Nat→Int}(hz:∀ i,n≤i→c i=0)(x:Rat):pf c n x=((gcdN c n:Nat):Rat)*pf (szd c n) n x:=by
 have:=pf_scl (a:=szd c n) (n:=n) ((gcdN c n:Nat):Int) x;rw [show fscl (szd c n) ((gcdN c n:Nat):Int)=c from funext fun i=>by rw [← szd_eq hz i];exact Int.mul_comm _ _] at this;rw [this,Rat.mul_comm];rfl
theorem pf_prm{n:Nat}{c:Nat→Int}(hz:∀ i,n≤i→c i=0)(x:Rat):pf c n x=(conS c n:Rat)*pf (prm c n) n x:=by
 have:=pf_scl (a:=prm c n) (n:=n) (conS c n) x;rw [show fscl (prm c n) (conS c n)=c from funext fun i=>by rw [← prm_eq hz i];exact Int.mul_comm _ _] at this;rw [this,Rat.mul_comm]
/-- Primitive, what stands in front is above 0. -/
structure Pm(n:Nat)(c:Nat→Int):Prop where
 ip:IP n c
 pos:n≠0
 one:gcdN c n=1
 lead:0 < c (n-1)
theorem gcd_over{c d:Nat→Int}{g:Int}{n:Nat}(hg:g≠0)(h:∀ i,g*d i=c i)(hc:gcdN c n=g.natAbs):gcdN d n=1:=by
 have h1:gcdN c n=g.natAbs*gcdN d n:=by rw [← gcdN_scl];exact gcdN_cg fun i _=>(h i).symm
 rw [hc] at h1;have h2:0 < g.natAbs:=by omega
 have h3:g.natAbs*1=g.natAbs*gcdN d n:=by rw [Nat.mul_one];exact h1
 exact (Nat.eq_of_mul_eq_mul_left h2 h3).symm
theorem IP.pm{n:Nat}{c:Nat→Int}(h:IP n c)(hn:n≠0):Pm n (Go.Proofs.YtapmpcgekdplfaaGreat.prm c n):=⟨h.prm,hn,gcd_over (h.conS_ne hn) (prm_eq h.z) conS_abs.symm,by
 have h1:=prm_eq h.z (n-1);have h2:=h.l hn;have h3:=h.gcd_pos hn;unfold conS at h1;generalize Go.Proofs.YtapmpcgekdplfaaGreat.prm c n (n-1)=y at h1 ⊢;split at h1
 ·rename_i h4
  rcases Int.lt_trichotomy y 0 with h5 | h5 | h5
  ·have:0≤-((gcdN c n:Nat):Int)*y:=Int.mul_nonneg_of_nonpos_of_nonpos (by omega) (by omega)
   omega
  ·subst h5;rw [Int.mul_zero] at h1;omega
  ·exact h5
 ·rcases Int.lt_trichotomy y 0 with h5 | h5 | h5
  ·have:((gcdN c n:Nat):Int)*y≤0:=Int.mul_nonpos_of_nonneg_of_nonpos (by omega) (by omega)
   omega
  ·subst h5;rw [Int.mul_zero] at h1;omega
  ·exact h5⟩
/-! ### What two make together -/
def Cmb(f a b:Fn):Prop:=∃ u v,Po u∧Po v∧∀ x,f x=u x*a x+v x*b x
theorem Cmb.l(a b:Fn):Cmb a a b:=⟨fun _=>1,fun _=>0,po_const 1,po_const 0,fun x=>by grind⟩
theorem Cmb.r(a b:Fn):Cmb b a b:=⟨fun _=>0,fun _=>1,po_const 0,po_const 1,fun x=>by grind⟩
theorem Cmb.trans{f a b A B:Fn}:Cmb f a b→Cmb a A B→Cmb b A B→Cmb f A B:=fun ⟨u,v,pu,pv,h⟩ ⟨p,q,pp,pq,h1⟩ ⟨r,s,pr,ps,h2⟩=>
 ⟨fun x=>u x*p x+v x*r x,fun x=>u x*q x+v x*s x,(pu.mul pp).add (pv.mul pr),(pu.mul pq).add (pv.mul ps),fun x=>by rw [h,h1,h2];grind⟩
/-- a, b and A, B make the same. -/
structure Idp(A B a b:Fn):Prop where
 m1:Cmb a A B
 m2:Cmb b A B
 m3:Cmb A a b
 m4:Cmb B a b
theorem Idp.refl(A B:Fn):Idp A B A B:=⟨.l _ _,.r _ _,.l _ _,.r _ _⟩
theorem Idp.trans{A B a b c d:Fn}(h:Idp A B a b)(k:Idp a b c d):Idp A B c d:=⟨k.m1.trans h.m1 h.m2,k.m2.trans h.m1 h.m2,h.m3.trans k.m3 k.m4,h.m4.trans k.m3 k.m4⟩
/-- A step of Euclid's. -/
theorem Idp.step{a b r Q:Fn}{k:Rat}(pQ:Po Q)(hk:k≠0)(h:∀ x,a x=Q x*b x+k*r x):Idp a b b r:=
  ⟨.r _ _,⟨fun _=>k⁻¹,fun x=>Q x*(-k⁻¹),po_const _,pQ.scl _,fun x=>by have h1:=h x;have:k⁻¹*k=1:=Rat.inv_mul_cancel k hk;grind⟩,
   ⟨Q,fun _=>k,pQ,po_const _,h⟩,.l _ _⟩
theorem Idp.scale{A B a b:Fn}{s t s' t':Rat}(h1:∀ x,A x=s*a x)(h2:∀ x,B x=t*b x)(h3:∀ x,a x=s'*A x)(h4:∀ x,b x=t'*B x):Idp A B a b:=
  ⟨⟨fun _=>s',fun _=>0,po_const _,po_const _,fun x=>by rw [h3];grind⟩,⟨fun _=>0,fun _=>t',po_const _,po_const _,fun x=>by rw [h4];grind⟩,
   ⟨fun _=>s,fun _=>0,po_const _,po_const _,fun x=>by rw [h1];grind⟩,⟨fun _=>0,fun _=>t,po_const _,po_const _,fun x=>by rw [h2];grind⟩⟩
/-- d is what A and B make together. -/
structure Idl(A B d:Fn):Prop where
 cm:Cmb d A B
 da:Dv d A
 db:Dv d B
theorem Idp.fin{A B a b:Fn}(h:Idp A B a b)(hb:∀ x,b x=0):Idl A B a:=by
 have dv:∀ {f},Cmb f a b→Dv a f:=fun ⟨u,v,pu,pv,h⟩=>⟨u,pu,fun x=>by rw [h,hb];grind⟩
 exact ⟨h.m1,dv h.m3,dv h.m4⟩
theorem Idl.scale{A B d e:Fn}{s s':Rat}(h:Idl A B d)(h1:∀ x,d x=s*e x)(h2:∀ x,e x=s'*d x):Idl A B e:=by
 obtain ⟨⟨u,v,pu,pv,hm⟩,⟨p,pp,hp⟩,⟨q,pq,hq⟩⟩:=h;exact ⟨⟨fun x=>u x*s',fun x=>v x*s',pu.scl _,pv.scl _,fun x=>by rw [h2,hm];grind⟩,⟨fun x=>p x*s,pp.scl _,fun x=>by rw [hp,h1];grind⟩,⟨fun x=>q x*s,pq.scl _,fun x=>by rw [hq,h1];grind⟩⟩
/-- A row and its primitive one. -/
theorem prm_scale{n:Nat}{c:Nat→Int}(h:IP n c):∃ s s':Rat,(∀ x,pf c n x=s*pf (prm c n) n x)∧∀ x,pf (prm c n) n x=s'*pf c n x:=by
 by_cases hn:n=0
 ·subst hn;exact ⟨1,1,fun x=>by rw [pf_zero,pf_zero];grind,fun x=>by rw [pf_zero,pf_zero];grind⟩
 ·have h1:=rc_ne (h.conS_ne hn)
  refine ⟨(conS c n:Rat),(conS c n:Rat)⁻¹,pf_prm h.z,fun x=>?_⟩;rw [pf_prm h.z x];have:(conS c n:Rat)⁻¹*(conS c n:Rat)=1:=Rat.inv_mul_cancel _ h1;grind
/-! ### Primes -/
def Pn(p:Nat):Prop:=2≤p∧∀ d,d∣p→d=1∨d=p
theorem ex_pn:∀ n:Nat,n≠1→∃ p,Pn p∧p∣n:=by
 intro n hn
 by_cases h0:n=0
 ·subst h0
  exact ⟨2,⟨Nat.le_refl 2,fun d hd=>by have:=Nat.le_of_dvd (by decide) hd;rcases d with _ | _ | _ | d <;> omega⟩,Nat.dvd_zero _⟩
 induction n using Nat.strongRecOn with
 | ind n ih=>
  by_cases h:∃ d,d∣n∧d≠1∧d≠n
  ·obtain ⟨d,h1,h2,h3⟩:=h
   have hle:=Nat.le_of_dvd (by omega) h1;have hd0:d≠0:=fun e=>by subst e;exact h0 (Nat.eq_zero_of_zero_dvd h1)
   obtain ⟨p,hp,hd⟩:=ih d (by omega) h2 hd0;exact ⟨p,hp,Nat.dvd_trans hd h1⟩
  ·refine ⟨n,⟨by omega,fun d hd=>?_⟩,Nat.dvd_refl n⟩
   by_cases h1:d=1
   ·exact Or.inl h1
   ·by_cases h2:d=n
    ·exact Or.inr h2
    ·exact absurd ⟨d,hd,h1,h2⟩ h
theorem Pn.mul{p:Nat}(h:Pn p){a b:Int}(hd:(p:Int)∣a*b):(p:Int)∣a∨(p:Int)∣b:=by
 rcases h.2 (Nat.gcd p a.natAbs) (Nat.gcd_dvd_left _ _) with e | e
 ·right
  have h1:p∣a.natAbs*b.natAbs:=by rw [← Int.natAbs_mul];exact Int.ofNat_dvd_left.1 hd
  exact Int.ofNat_dvd_left.2 (Nat.Coprime.dvd_of_dvd_mul_left e h1)
 ·left
  exact Int.ofNat_dvd_left.2 (e▸Nat.gcd_dvd_right p a.natAbs)
theorem pn_first{p:Nat}(hp:Pn p){c:Nat→Int}:∀ {n:Nat},gcdN c n=1→∃ i,i < n∧¬ (p:Int)∣c i∧∀ j,j < i→(p:Int)∣c j:=by
 intro n h;have key:∀ m,m≤n→(∀ j,j < m→(p:Int)∣c j)∨∃ i,i < n∧¬ (p:Int)∣c i∧∀ j,j < i→(p:Int)∣c j:=by
  intro m
  induction m with
  | zero=>exact fun _=>Or.inl fun j hj=>absurd hj (Nat.not_lt_zero _)
  | succ m ih=>
   intro hm
   rcases ih (by omega) with h1 | h1
   ·by_cases h2:(p:Int)∣c m
    ·left
     intro j hj
     rcases Nat.lt_or_ge j m with h3 | h3
     ·exact h1 j h3
     ·obtain rfl:j=m:=by omega
      exact h2
    ·exact Or.inr ⟨m,by omega,h2,h1⟩
   ·exact Or.inr h1
 rcases key n (Nat.le_refl n) with h1 | h1
 ·exfalso
  have:p∣gcdN c n:=gcdN_all fun i hi=>Int.ofNat_dvd_left.1 (h1 i hi)
  rw [h] at this;have:=Nat.le_of_dvd (by decide) this;have:=hp.1;omega
 ·exact h1
theorem cv_dv{p:Int}{a b:Nat→Int}{t:Nat}:∀ {m:Nat},(∀ i,i < m→i≤t→p∣a i*b (t-i))→p∣cv a b m t
 | 0,_=>⟨0,(Int.mul_zero p).symm⟩
 | m+1,h=>by
  show p∣cv a b m t+(if m≤t then a m*b (t-m) else 0)
  refine Int.dvd_add (cv_dv fun i hi ht=>h i (by omega) ht) ?_;split
  ·exact h m (by omega) (by assumption)
  ·exact ⟨0,(Int.mul_zero p).symm⟩
theorem cv_one{p:Int}{a b:Nat→Int}{t i:Nat}(hit:i≤t)(h:∀ k,k≤t→k≠i→p∣a k*b (t-k)):∀ m,i < m→p∣cv a b m t-a i*b (t-i)
 | 0,h0=>absurd h0 (Nat.not_lt_zero _)
 | m+1,hm=>by
  show p∣cv a b m t+(if m≤t then a m*b (t-m) else 0)-_
  rcases Nat.lt_or_ge i m with h1 | h1
  ·have h2:=cv_one hit h m h1
   have h3:p∣(if m≤t then a m*b (t-m) else 0):=by
    split
    ·exact h m (by assumption) (by omega)
    ·exact ⟨0,(Int.mul_zero p).symm⟩
   have:=Int.dvd_add h2 h3;rwa [show cv a b m t-a i*b (t-i)+(if m≤t then a m*b (t-m) else 0)=cv a b m t+(if m≤t then a m*b (t-m) else 0)-a i*b (t-i) from by omega] at this
  ·obtain rfl:i=m:=by omega
   rw [if_pos hit];have h2:p∣cv a b i t:=cv_dv fun k hk ht=>h k ht (by omega)
   rwa [show cv a b i t+a i*b (t-i)-a i*b (t-i)=cv a b i t from by omega]
/-- GAUSS'S LEMMA. -/
theorem gauss{a b:Nat→Int}{n m:Nat}(ha:∀ i,n≤i→a i=0)(hb:∀ i,m≤i→b i=0)(h1:gcdN a n=1)(h2:gcdN b m=1):gcdN (conv a b) (n+m)=1:=by
 by_cases hg:gcdN (conv a b) (n+m)=1
 ·exact hg
 ·exfalso
  obtain ⟨p,hp,hd⟩:=ex_pn _ hg;obtain ⟨i,hi,i1,i2⟩:=pn_first hp h1;obtain ⟨j,hj,j1,j2⟩:=pn_first hp h2;have h3:(p:Int)∣conv a b (i+j):=Int.ofNat_dvd_left.2 (Nat.dvd_trans hd (gcdN_dvd (by omega)));have h4:=cv_one (p:=(p:Int)) (a:=a) (b:=b) (t:=i+j) (i:=i) (by omega) (fun k hk hne=>by
   rcases Nat.lt_or_ge k i with h5 | h5
   ·exact Int.dvd_mul_of_dvd_left (i2 k h5)
   ·exact Int.dvd_mul_of_dvd_right (j2 (i+j-k) (by omega))) (i+j+1) (by omega)
  rw [show i+j-i=j from by omega] at h4;have h5:(p:Int)∣a i*b j:=by
   have:=Int.dvd_sub h3 h4;rwa [show conv a b (i+j)-(cv a b (i+j+1) (i+j)-a i*b j)=a i*b j from by show cv a b (i+j+1) (i+j)-_=_;omega] at this
  rcases hp.mul h5 with h6 | h6
  ·exact i1 h6
  ·exact j1 h6
/-- A row of rationals is whole, but for a factor. -/
theorem whole_row{q:Nat→Rat}{k:Nat}(hq:∀ i,k≤i→q i=0):∃ (D:Nat) (w:Nat→Int),0 < D∧(∀ i,k≤i→w i=0)∧∀ i,(w i:Rat)=q i*(D:Rat):=
 ⟨lcd q k,cX (lcd q k) q,lcd_pos k,cX_z hq,fun i=>by
  by_cases hi:i < k
  ·have:=cX_den (L:=lcd q k) (p:=q) (i:=i) (lcd_dvd hi)
   rw [mkR_int] at this;exact this
  ·show ((cX (lcd q k) q i:Int):Rat)=_
   rw [cX_z hq i (by omega),hq i (by omega),Rat.zero_mul];rfl⟩
/-- A primitive row that divides divides over the whole numbers. -/
theorem exact_row{a b:Nat→Int}{n m:Nat}{W:Fn}(ha:∀ i,n≤i→a i=0)(hb:∀ i,m≤i→b i=0)(h1:gcdN b m=1)(pW:Po W)(h:∀ x,pf a n x=W x*pf b m x):∃ (w:Nat→Int) (k:Nat),(∀ i,k≤i→w i=0)∧(∀ i,conv w b i=a i)∧∀ x,pf w k x=W x:=by
  obtain ⟨k,q,hq,hW⟩:=pW;obtain ⟨D,w,hD,hw,e⟩:=whole_row hq
  have hD' : (D : Rat) ≠ 0 := by have : (0 : Rat) < (D : Rat) := by exact_mod_cast hD
                                 grind
  have hpw:∀ x,pf w k x=W x*(D:Rat):=fun x=>by
    rw [hW x];show pe (rc w) x k=_
    rw [← pe_scl];exact pe_congr fun i _=>e i
  have hDa:∀ i,(fscl a (D:Int)) i=conv w b i:=by
    refine pf_one (n:=n) (m:=k+m) (fscl_z ha) (conv_z0 hw hb) fun x=>?_
    rw [pf_scl,pf_conv hw hb,h x,hpw x];show W x*pf b m x*((D:Int):Rat)=_
    rw [show (((D:Nat):Int):Rat)=(D:Rat) from rfl];grind
  by_cases hw0:∀ i,w i=0
  · refine ⟨w,k,hw,fun i=>?_,fun x=>?_⟩
    · rw [conv_l0 hw0]
      have:=hDa i;rw [conv_l0 hw0] at this;unfold fscl at this;rcases Int.mul_eq_zero.1 this with h2 | h2
      · exact h2.symm
      · omega
    · have h3:=hpw x
      have h4:pf w k x=0:=pe_zero fun i _=>by unfold rc;rw [hw0 i];rfl
      rw [h4] at h3;rcases Rat.mul_eq_zero.1 h3.symm with h5 | h5
      · rw [h4,h5]
      · exact absurd h5 hD'
  · have hg:0 < gcdN w k:=by
      by_cases hz:gcdN w k=0
      · exfalso;apply hw0;intro i
        by_cases hi:i < k
        · have:=gcdN_dvd (c:=w) hi;rw [hz] at this;have:=Nat.eq_zero_of_zero_dvd this;omega
        · exact hw i (by omega)
      · omega
    have hs1:gcdN (szd w k) k=1:=gcd_over (g:=((gcdN w k:Nat):Int)) (by omega) (szd_eq hw) rfl;have hsz:∀ i,k≤i→szd w k i=0:=fdv_z hw
    have hprim:=gauss hsz hb hs1 h1;have hcv:∀ i,conv w b i=((gcdN w k:Nat):Int)*conv (szd w k) b i:=by
      refine fun i=>(?_:conv w b i=fscl (conv (szd w k) b) ((gcdN w k:Nat):Int) i).trans (Int.mul_comm _ _)
      refine pf_one (n:=k+m) (m:=k+m) (conv_z0 hw hb) (fscl_z (conv_z0 hsz hb)) (fun x=>?_) i;rw [pf_scl,pf_conv hw hb,pf_conv hsz hb,pf_szd hw];show _=_*(((gcdN w k:Nat):Int):Rat)
      rw [show (((gcdN w k:Nat):Int):Rat)=((gcdN w k:Nat):Rat) from rfl];grind
    obtain ⟨z,hz⟩:=prim_int (γ:=conv (szd w k) b) (r:=k+m) (κ:=((gcdN w k:Nat):Rat)*(D:Rat)⁻¹) (W:=a) hprim fun i _=>by
      have h2:((fscl a (D:Int) i:Int):Rat)=((conv w b i:Int):Rat):=by rw [hDa i]
      rw [hcv i] at h2;unfold fscl at h2;rw [Rat.intCast_mul,Rat.intCast_mul] at h2;have h3:(D:Rat)*(D:Rat)⁻¹=1:=Rat.mul_inv_cancel _ hD';have h4:(((D:Nat):Int):Rat)=(D:Rat):=rfl;have h5:(((gcdN w k:Nat):Int):Rat)=((gcdN w k:Nat):Rat):=rfl;rw [h4,h5] at h2;grind
    have hv:∀ i,conv (fscl (szd w k) z) b i=a i:=by
      refine pf_one (n:=k+m) (m:=n) (conv_z0 (fscl_z hsz) hb) ha fun x=>?_
      rw [pf_conv (fscl_z hsz) hb,pf_scl,h x,← hz];have h2:=hpw x;rw [pf_szd hw] at h2;have h3:(D:Rat)*(D:Rat)⁻¹=1:=Rat.mul_inv_cancel _ hD';have:W x=((gcdN w k:Nat):Rat)*pf (szd w k) k x*(D:Rat)⁻¹:=by rw [h2];grind
      rw [this];grind
    refine ⟨fscl (szd w k) z,k,fscl_z hsz,hv,fun x=>?_⟩;rw [pf_scl,← hz];have h2:=hpw x;rw [pf_szd hw] at h2;have h3:(D:Rat)*(D:Rat)⁻¹=1:=Rat.mul_inv_cancel _ hD';have:W x=((gcdN w k:Nat):Rat)*pf (szd w k) k x*(D:Rat)⁻¹:=by rw [h2];grind
    rw [this];grind
def hrT(c:Nat→Int)(x:Int)(n:Nat):Nat→Int
 | 0=>0
 | s+1=>hrT c x n s*x+c (n-s)
theorem hr_row{c:Nat→Int}{x:Int}{n:Nat}(hz:∀ i,n+1≤i→c i=0)(j:Nat):c j=fadd (conv (fun i=>hrT c x n (n-i)) (lin (-x) 1)) (onez (hrT c x n (n+1))) j:=by
 unfold fadd;rw [conv_lin];unfold onez
 by_cases h0:j=0
 ·subst h0
  rw [if_pos rfl,if_pos rfl];show c 0=hrT c x n n* -x+0+(hrT c x n n*x+c (n-n))
  rw [Nat.sub_self,Int.mul_neg];omega
 ·rw [if_neg h0,if_neg h0]
  show c j=hrT c x n (n-j)* -x+hrT c x n (n-(j-1))*1+0
  by_cases h1:j≤n
  ·rw [show n-(j-1)=(n-j)+1 from by omega]
   show c j=hrT c x n (n-j)* -x+(hrT c x n (n-j)*x+c (n-(n-j)))*1+0
   rw [show n-(n-j)=j from by omega,Int.mul_neg];omega
  ·rw [hz j (by omega),show n-j=0 from by omega,show n-(j-1)=0 from by omega]
   show (0:Int)=0* -x+0*1+0
   omega
theorem pf_lin{x:Int}(q:Rat):pf (lin (-x) 1) 2 q=q-(x:Rat):=by
 show 0+rc (lin (-x) 1) 0*q^0+rc (lin (-x) 1) 1*q^1=_
 rw [Rat.pow_zero,show q^1=q from by rw [show (1:Nat)=0+1 from rfl,Rat.pow_succ,Rat.pow_zero];grind];show 0+((-x:Int):Rat)*1+((1:Int):Rat)*q=_
 rw [Rat.intCast_neg];grind
theorem pf_add{a b:Nat→Int}{n:Nat}(x:Rat):pf (fadd a b) n x=pf a n x+pf b n x:=by
 show pe _ x n=_
 rw [pe_congr (a:=rc (fadd a b)) (b:=faddQ (rc a) (rc b)) fun i _=>Rat.intCast_add _ _];exact pe_add n
theorem hr_pf{c:Nat→Int}{x:Int}{n:Nat}(hz:∀ i,n+1≤i→c i=0)(q:Rat):pf c (n+1) q=pf (fun i=>hrT c x n (n-i)) n q*(q-(x:Rat))+(hrT c x n (n+1):Rat):=by
 have hq:∀ i,n≤i→(fun i=>hrT c x n (n-i)) i=0:=fun i hi=>by show hrT c x n (n-i)=0;rw [show n-i=0 from by omega];rfl
 rw [show c=fadd (conv (fun i=>hrT c x n (n-i)) (lin (-x) 1)) (onez (hrT c x n (n+1))) from funext (hr_row hz)];rw [← show c=fadd (conv (fun i=>hrT c x n (n-i)) (lin (-x) 1)) (onez (hrT c x n (n+1))) from funext (hr_row hz)];have e:pf c (n+1) q=pf (fadd (conv (fun i=>hrT c x n (n-i)) (lin (-x) 1)) (onez (hrT c x n (n+1)))) (n+2) q:=by
  rw [← show c=fadd (conv (fun i=>hrT c x n (n-i)) (lin (-x) 1)) (onez (hrT c x n (n+1))) from funext (hr_row hz)];exact pz_eq hz fun i hi=>hz i (by omega)
 rw [e,pf_add,pf_conv hq lin_z,pf_lin];congr 1;have:pf (onez (hrT c x n (n+1))) (n+2) q=pf (onez (hrT c x n (n+1))) 1 q:=pz_eq (fun i hi=>onez_z i (by omega)) onez_z;rw [this,pf_const];rfl
theorem int_far{a b:Int}(h:a≠b):(1:Rat)≤(a:Rat)-(b:Rat)∨(a:Rat)-(b:Rat)≤-1:=by
 rcases Int.lt_or_gt_of_ne h with h1 | h1
 ·right
  have:(a:Rat)+1≤(b:Rat):=by exact_mod_cast h1
  grind
 ·left
  have:(b:Rat)+1≤(a:Rat):=by exact_mod_cast h1
  grind
theorem ab_div{y d v M:Rat}(h:y*d=v)(hv:Ab v M)(hd:1≤d∨d≤-1):Ab y M:=by
 have hM:=hv.nn;unfold Ab at *
 obtain ⟨v1,v2⟩:=hv;rcases hd with hd | hd
 ·constructor
  ·rcases Rat.le_total (a:=0) (b:=y) with h0 | h0
   ·grind
   ·have: -y*1≤-y*d:=Rat.mul_le_mul_of_nonneg_left hd (by grind)
    grind
  ·rcases Rat.le_total (a:=0) (b:=y) with h0 | h0
   ·have:y*1≤y*d:=Rat.mul_le_mul_of_nonneg_left hd h0
    grind
   ·grind
 ·have hd':1≤-d:=by grind
  constructor
  ·rcases Rat.le_total (a:=0) (b:=y) with h0 | h0
   ·grind
   ·have: -y*1≤-y* -d:=Rat.mul_le_mul_of_nonneg_left hd' (by grind)
    grind
  ·rcases Rat.le_total (a:=0) (b:=y) with h0 | h0
   ·have:y*1≤y* -d:=Rat.mul_le_mul_of_nonneg_left hd' h0
    grind
   ·grind
def bet(R:Rat):Nat→Rat
 | 0=>0
 | n+1=>1+2*(1+R)*bet R n
theorem bet_nn{R:Rat}(hR:0≤R):∀ n,0≤bet R n
 | 0=>by show (0:Rat)≤0;grind
 | n+1=>by
  have:=Rat.mul_nonneg (a:=2*(1+R)) (by grind) (bet_nn hR n);show 0≤1+2*(1+R)*bet R n
  grind
/-- INTERPOLATION: coefficients out of values at whole places. -/
theorem interp{R:Rat}(hR:0≤R):∀ (n:Nat) (c:Nat→Int) (xs:Nat→Int) (M:Rat),(∀ i,n≤i→c i=0)→(∀ i j,i < j→j < n→xs i≠xs j)→(∀ i,i < n→Ab (xs i:Rat) R)→(∀ i,i < n→Ab (pf c n (xs i:Rat)) M)→0≤M→∀ i,Ab (c i:Rat) (M*bet R n)
 | 0,c,xs,M,hz,_,_,_,hM,i=>by rw [hz i (Nat.zero_le _)];exact ab_zero (by show 0≤M*0;grind)
 | n+1,c,xs,M,hz,hd,hx,hv,hM,i=>by
  let q:Nat→Int:=fun i=>hrT c (xs n) n (n-i)
  have hqz:∀ i,n≤i→q i=0:=fun i hi=>by show hrT c (xs n) n (n-i)=0;rw [show n-i=0 from by omega];rfl
  have hpf:=hr_pf (x:=xs n) hz;have h0:(hrT c (xs n) n (n+1):Rat)=pf c (n+1) (xs n:Rat):=by have:=hpf (xs n:Rat);grind
  have hv0:=hv n (by omega);have ih:=interp hR n q xs (2*M) hqz (fun i j h1 h2=>hd i j h1 (by omega)) (fun i hi=>hx i (by omega)) (fun i hi=>by
   have h1:=hpf (xs i:Rat);have h2:pf q n (xs i:Rat)*((xs i:Rat)-(xs n:Rat))=pf c (n+1) (xs i:Rat)-pf c (n+1) (xs n:Rat):=by rw [h1,h0];grind
   exact ab_div h2 (((hv i (by omega)).sub hv0).mono (by grind)) (int_far (hd i n hi (by omega)))) (by grind)
  have hbn:=bet_nn hR n;have hX:0≤M*bet R n:=Rat.mul_nonneg hM hbn;have hXR:0≤R*(M*bet R n):=Rat.mul_nonneg hR hX;have e:=hr_row (x:=xs n) hz i;unfold fadd at e;rw [conv_lin] at e;have hxn:=hx n (by omega);have h3:Ab ((q i:Rat)*(xs n:Rat)) (2*M*bet R n*R):=(ih i).mul hxn;show Ab (c i:Rat) (M*(1+2*(1+R)*bet R n))
  by_cases hi0:i=0
  ·subst hi0
   rw [if_pos rfl] at e;have e':(c 0:Rat)=pf c (n+1) (xs n:Rat)-(q 0:Rat)*(xs n:Rat):=by
    rw [← h0,e];show ((q 0* -(xs n)+0+onez (hrT c (xs n) n (n+1)) 0:Int):Rat)=_
    rw [show onez (hrT c (xs n) n (n+1)) 0=hrT c (xs n) n (n+1) from rfl,Rat.intCast_add,Rat.intCast_add,Rat.intCast_mul,Rat.intCast_neg];grind
   exact ((hv0.sub h3).eq e'.symm).mono (by grind)
  ·rw [if_neg hi0,show onez (hrT c (xs n) n (n+1)) i=0 from if_neg hi0] at e
   have e':(c i:Rat)=(q (i-1):Rat)-(q i:Rat)*(xs n:Rat):=by
    rw [e];show ((q i* -(xs n)+q (i-1)*1+0:Int):Rat)=_
    rw [Rat.intCast_add,Rat.intCast_add,Rat.intCast_mul,Rat.intCast_neg,Rat.intCast_mul];grind
   exact (((ih (i-1)).sub h3).eq e'.symm).mono (by grind)
/-- Whole values. -/
theorem pf_int(c:Nat→Int)(x:Int):∀ n,∃ z:Int,pf c n (x:Rat)=(z:Rat)
 | 0=>⟨0,rfl⟩
 | n+1=>by
  obtain ⟨z,hz⟩:=pf_int c x n;refine ⟨z+c n*x^n,?_⟩;show pf c n (x:Rat)+(c n:Rat)*(x:Rat)^n=_
  rw [hz,Rat.intCast_add,Rat.intCast_mul,cast_pow]
/-- Of two whole factors each is at most the product, if that is not 0. -/
theorem ab_factor{a b w:Int}{M:Rat}(h:a=w*b)(ha:a≠0)(hM:Ab (a:Rat) M):Ab (b:Rat) M:=by
 have hw:w≠0:=fun e=>ha (by rw [h,e];omega)
 have h1:(b:Rat)*(w:Rat)=(a:Rat):=by rw [h,Rat.intCast_mul];grind
 refine ab_div h1 hM ?_;rcases Int.lt_or_gt_of_ne hw with h2 | h2
 ·right
  have:w≤-1:=by omega
  have h3:(w:Rat)≤((-1:Int):Rat):=by exact_mod_cast this
  rwa [Rat.intCast_neg] at h3
 ·left
  have:1≤w:=by omega
  exact_mod_cast this
/-- Far out it is not 0. -/
theorem pf_far{a:Nat→Int}{n:Nat}{H x:Int}(h:IP n a)(hn:n≠0)(hH:∀ i,((a i).natAbs:Int)≤H)(hx:H < x):pf a n (x:Rat)≠0:=by
 have h1:=far_sgn (c:=a) (x:=x) (top:=n) (fun i _=>by have:=hH i;omega) (h.l hn) (n-1) (by omega);rw [Nat.sub_add_cancel (by omega)] at h1;have h2:=vl_one (a:=a) (x:=x) (top:=n) n;rw [pz_vl] at h2;intro e;have e':((vlZ a x 1 n n:Int):Rat)=0:=h2.trans e;have e2:vlZ a x 1 n n=0:=by exact_mod_cast e'
 rw [e2] at h1;have hx1:sgn x=1:=sgn_pos (by have:=hH 0;omega);rw [hx1,Int.one_pow,Int.mul_one] at h1;exact sgn_ne.2 (h.l hn) h1.symm
theorem pow1{B:Rat}:B^1=B:=by rw [show (1:Nat)=0+1 from rfl,Rat.pow_succ,Rat.pow_zero];grind
theorem pe_crude{c:Nat→Rat}{x H B:Rat}(hB:1≤B)(hx:Ab x B)(hH:0≤H):∀ n,(∀ i,i < n→Ab (c i) H)→Ab (pe c x n) ((n:Rat)*(H*B^n))
 | 0,_=>ab_zero (by show (0:Rat)≤((0:Nat):Rat)*_;rw [show ((0:Nat):Rat)=0 from rfl];grind)
 | n+1,h=>by
  have h1:=pe_crude hB hx hH n fun i hi=>h i (by omega)
  have h2:=(h n (by omega)).mul (pw_bd hB hx n);have h3:=pow_up hB n;have h4:=Rat.mul_le_mul_of_nonneg_left h3 hH;have h5:=Rat.mul_le_mul_of_nonneg_left h4 (nat_nn n);have h6:=nat_succ n;show Ab (pe c x n+c n*x^n) _
  refine (h1.add h2).mono ?_;rw [h6];grind
theorem mul_powQ(a b:Rat):∀ n:Nat,(a*b)^n=a^n*b^n
 | 0=>by rw [Rat.pow_zero,Rat.pow_zero,Rat.pow_zero];grind
 | n+1=>by rw [Rat.pow_succ,Rat.pow_succ,Rat.pow_succ,mul_powQ a b n];grind
theorem bet_le{R:Rat}(hR:1≤R):∀ n,bet R n≤(5*R)^n
 | 0=>by show (0:Rat)≤(5*R)^0;rw [Rat.pow_zero];grind
 | n+1=>by
  have ih:=bet_le hR n;have h1:1≤(5*R)^n:=pow_ge (by grind) n;have h2:=Rat.mul_le_mul_of_nonneg_left ih (c:=2*(1+R)) (by grind);have h3:(1:Rat)*(5*R)^n≤R*(5*R)^n:=Rat.mul_le_mul_of_nonneg_right hR (by grind);show 1+2*(1+R)*bet R n≤(5*R)^(n+1)
  rw [Rat.pow_succ];grind
/-- A DIVISOR's COEFFICIENTS. -/
theorem dv_bound{a b w:Nat→Int}{n m k:Nat}{H:Int}(ha:IP n a)(hn:n≠0)(hb:∀ i,m≤i→b i=0)(hw:∀ i,k≤i→w i=0)(h:∀ i,conv w b i=a i)(hH:∀ i,((a i).natAbs:Int)≤H)(hH1:1≤H)(hmH:(m:Int)≤H)(i:Nat):
  Ab (b i:Rat) ((n:Rat)*((H:Rat)*(2*(H:Rat))^n)*(10*(H:Rat))^m):=by
 have hHq:(1:Rat)≤(H:Rat):=by exact_mod_cast hH1
 have hR0:(0:Rat)≤2*(H:Rat):=by grind
 have hval:∀ x,pf a n x=pf w k x*pf b m x:=fun x=>by
  rw [← pf_conv hw hb,show conv w b=a from funext h];exact pz_eq ha.z fun i hi=>by rw [← h i];exact conv_z0 hw hb i hi
 have hx:∀ i,i < m→Ab (((H+1+(i:Int)):Int):Rat) (2*(H:Rat)):=fun i hi=>by
  have h1:H+1+(i:Int)≤2*H:=by omega
  have h2:((H+1+(i:Int):Int):Rat)≤((2*H:Int):Rat):=by exact_mod_cast h1
  have h3:(0:Int)≤H+1+(i:Int):=by omega
  have h4:(0:Rat)≤((H+1+(i:Int):Int):Rat):=by exact_mod_cast h3
  rw [Rat.intCast_mul] at h2;unfold Ab;constructor
  ·grind
  ·exact h2
 have hM:∀ i,i < m→Ab (pf b m (((H+1+(i:Int)):Int):Rat)) ((n:Rat)*((H:Rat)*(2*(H:Rat))^n)):=fun i hi=>by
  obtain ⟨za,hza⟩:=pf_int a (H+1+(i:Int)) n;obtain ⟨zb,hzb⟩:=pf_int b (H+1+(i:Int)) m;obtain ⟨zw,hzw⟩:=pf_int w (H+1+(i:Int)) k;have hne:=pf_far ha hn hH (x:=H+1+(i:Int)) (by omega);have h1:=hval (((H+1+(i:Int)):Int):Rat);have hA:Ab (pf a n (((H+1+(i:Int)):Int):Rat)) ((n:Rat)*((H:Rat)*(2*(H:Rat))^n)):=pe_crude (by grind) (hx i hi) (by grind) n fun j _=>by
   have h2:=hH j;have h3: -H≤a j∧a j≤H:=by omega
   unfold Ab rc;constructor
   ·have:((-H:Int):Rat)≤(a j:Rat):=by exact_mod_cast h3.1
    rw [Rat.intCast_neg] at this;exact this
   ·exact_mod_cast h3.2
  rw [hza] at h1 hne hA;rw [hzb,hzw,← Rat.intCast_mul] at h1;rw [hzb];exact ab_factor (by exact_mod_cast h1) (fun e=>hne (by rw [e];rfl)) hA
 have hM0:0≤(n:Rat)*((H:Rat)*(2*(H:Rat))^n):=Rat.mul_nonneg (nat_nn n) (Rat.mul_nonneg (by grind) (by have:=pow_ge (B:=2*(H:Rat)) (by grind) n;grind));have key:=interp hR0 m b (fun i=>H+1+(i:Int)) _ hb (fun i j h1 _=>by show H+1+(i:Int)≠H+1+(j:Int);omega) hx hM hM0 i;refine key.mono (Rat.mul_le_mul_of_nonneg_left ?_ hM0);have:=bet_le (R:=2*(H:Rat)) (by grind) m;rwa [show 5*(2*(H:Rat))=10*(H:Rat) from by grind] at this
/-- All coefficients are below B^K. -/
def Lb(K:Nat)(c:Nat→Int):Prop:=∀ i,(c i).natAbs < B32^K
theorem Lb.mono{K L:Nat}{c:Nat→Int}(h:Lb K c)(k:K≤L):Lb L c:=fun i=>Nat.lt_of_lt_of_le (h i) (Nat.pow_le_pow_right (by decide) k)
theorem dv_lb{a b w:Nat→Int}{n m k K:Nat}(ha:IP n a)(hn:n≠0)(hb:∀ i,m≤i→b i=0)(hw:∀ i,k≤i→w i=0)(h:∀ i,conv w b i=a i)(hK:Lb K a)(hK1:1≤K)(hn10:n≤10)(hm10:m≤10):Lb (21*K+3) b:=by
 intro i;have hB:1≤B32^K:=Nat.one_le_pow _ _ (by decide);have hB2:B32≤B32^K:=by
  have:=Nat.pow_le_pow_right (n:=B32) (by decide) hK1;rwa [Nat.pow_one] at this
 have hBm:10≤B32:=by decide
 have key:=dv_bound (H:=((B32^K:Nat):Int)) ha hn hb hw h (fun j=>by have:=hK j;omega) (by omega) (by omega) i;have hBq:(1:Rat)≤(((B32^K:Nat):Int):Rat):=by exact_mod_cast hB
 generalize hBB:(((B32^K:Nat):Int):Rat)=B at key hBq;have h1:(2*B)^n≤(2*B)^10:=pow_mono (by grind) hn10;have h2:(10*B)^m≤(10*B)^10:=pow_mono (by grind) hm10;have h3:(n:Rat)≤10:=by exact_mod_cast hn10
 have p1:(0:Rat)≤(2*B)^n:=by have:=pow_ge (B:=2*B) (by grind) n;grind
 have p2:(0:Rat)≤(10*B)^m:=by have:=pow_ge (B:=10*B) (by grind) m;grind
 have p3:(0:Rat)≤(2*B)^10:=by have:=pow_ge (B:=2*B) (by grind) 10;grind
 have h4:B*(2*B)^n≤B*(2*B)^10:=Rat.mul_le_mul_of_nonneg_left h1 (by grind);have h5:(n:Rat)*(B*(2*B)^n)≤10*(B*(2*B)^10):=by
  have a1:=Rat.mul_le_mul_of_nonneg_left h4 (nat_nn n);have a2:=Rat.mul_le_mul_of_nonneg_right h3 (c:=B*(2*B)^10) (Rat.mul_nonneg (by grind) p3);grind
 have h6:(n:Rat)*(B*(2*B)^n)*(10*B)^m≤10*(B*(2*B)^10)*(10*B)^10:=by
  have a1:=Rat.mul_le_mul_of_nonneg_right h5 p2;have a2:=Rat.mul_le_mul_of_nonneg_left h2 (c:=10*(B*(2*B)^10)) (Rat.mul_nonneg (by grind) (Rat.mul_nonneg (by grind) p3));grind
 have h7:Ab (b i:Rat) (10*(B*(2*B)^10)*(10*B)^10):=key.mono h6;have h9:10*(B*(2*B)^10)*(10*B)^10=(((10*(2^10*10^10)*(B32^K)^21:Nat):Int):Rat):=by
  rw [Int.natCast_mul,Rat.intCast_mul];have hp:((((B32^K)^21:Nat):Int):Rat)=B^21:=by
   rw [← hBB,← cast_pow,Int.natCast_pow]
  rw [hp];rw [mul_powQ,mul_powQ];have e21:B^21=B*B^10*B^10:=by rw [show (21:Nat)=1+10+10 from rfl,pow_addQ,pow_addQ,pow1]
  rw [e21];have e2:(2:Rat)^10=1024:=by decide
  have e10:(10:Rat)^10=10000000000:=by decide
  have e0:(((10*(2^10*10^10):Nat):Int):Rat)=102400000000000:=by decide
  rw [e2,e10,e0];grind
 rw [h9] at h7;have h10:(b i).natAbs≤10*(2^10*10^10)*(B32^K)^21:=by
  obtain ⟨u1,u2⟩:=h7;have u3:b i≤((10*(2^10*10^10)*(B32^K)^21:Nat):Int):=by exact_mod_cast u2
  have u4: -((10*(2^10*10^10)*(B32^K)^21:Nat):Int)≤b i:=by
   rw [← Rat.intCast_neg] at u1;exact_mod_cast u1
  omega
 refine Nat.lt_of_le_of_lt h10 ?_;rw [← Nat.pow_mul,Nat.pow_add,Nat.mul_comm K 21,Nat.mul_comm];exact Nat.mul_lt_mul_of_pos_left (by decide) (Nat.pow_pos (by decide))
theorem ln_bd{K m:Nat}{B:BS}{w:World}{v:Value}(h:LfR B w (ln K m) v):m < B32^K:=by
 obtain ⟨a,n,c,rfl,hr,hK,_⟩:=lr_of h;have:=lr_lt hr hK;rwa [val_limbs] at this
theorem dn_bd{K m:Nat}{B:BS}{w:World}{v:Value}(h:LfR B w (dn K m) v):m < B4^K:=by
 obtain ⟨a,n,c,rfl,hr,hK,_⟩:=dr_of h;exact dn_lt hr hK
theorem ln_tight{K L m:Nat}(hm:m < B32^L):∀ B w v,LfR B w (ln K m) v→LfR B w (ln L m) v:=by
 rintro B w v ⟨⟨a,n,c,h1,h2,h3,h4⟩,h5⟩;exact ⟨⟨a,n,c,h1,h2,limbs_K h2 hm,h4⟩,h5⟩
theorem dn_tight{K L m:Nat}(hm:m < B4^L):∀ B w v,LfR B w (dn K m) v→LfR B w (dn L m) v:=by
 rintro B w v ⟨⟨a,n,c,h1,h2,h3,h4⟩,h5⟩;exact ⟨⟨a,n,c,h1,h2,by have:=digs4_le hm;rw [h2.len] at this;exact this,h4⟩,h5⟩
theorem rn_tight{K L:Nat}{z:Int}(hz:z.natAbs < B4^L):∀ B w cs,LsR B w (rn K z) cs→LsR B w (rn L z) cs
 | B,w,[a,b],⟨h1,h2,h3⟩=>⟨dn_tight hz _ _ _ h1,h2,h3⟩
theorem prow_tight{K L n:Nat}{c:Nat→Int}(h:∀ i,i < n→(c i).natAbs < B32^L):∀ B w v,LfR B w (prow K n c) v→LfR B w (prow L n c) v:=
 row_le fun i hi j hj B w v hv=>by
  match j,hj with
  | 0,_=>exact hv
  | 1,_=>exact ln_tight (h i hi) _ _ _ hv
theorem le_prow_t{K L n:Nat}{c:Nat→Int}(h:Lb L c):AV.le (.d (.one (prow K n c))) (.d (.one (prow L n c))):=le_one (prow_tight fun i _=>h i)
theorem prow_bd{K n:Nat}{c:Nat→Int}(hz:∀ i,n≤i→c i=0){B:BS}{w:World}{v:Value}(h:LfR B w (prow K n c) v):Lb K c:=by
 intro i
 by_cases hi:i < n
 ·obtain ⟨a,cap,rfl,_,_,hj⟩:=h
  obtain ⟨b,off,rfl,_,_,hc⟩:=hj i hi;obtain ⟨x,_,hx⟩:=hc 1 (by omega);exact ln_bd (m:=(c i).natAbs) hx
 ·rw [hz i (by omega)];exact Nat.pow_pos (by decide)
theorem isP_bd{l:Lf}{K n:Nat}{c:Nat→Int}(hl:IsP l K n c){B:BS}{w:World}{v:Value}(h:LfR B w l v):Lb K c:=by
 obtain ⟨⟨f,h1,h2⟩,hz⟩:=hl;intro i
 by_cases hi:i < n
 ·obtain ⟨a,cap,rfl,_,_,hj⟩:=h1 _ _ _ h
  obtain ⟨b,off,rfl,_,_,hc⟩:=hj i hi;obtain ⟨x,_,hx⟩:=hc 1 (by omega);obtain ⟨a,n',c',rfl,hr,hK,_⟩:=lr_of (xs:=(f i).2) hx;rw [← h2 i hi];show (zv (f i).1 (val (f i).2)).natAbs < _
  rw [zv_abs];exact lr_lt hr hK
 ·rw [hz i (by omega)];exact Nat.pow_pos (by decide)
/-- All below B4^K (whole numbers as the plain reckoning has them). -/
def Db(K:Nat)(c:Nat→Int):Prop:=∀ i,(c i).natAbs < B4^K
theorem Db.mono{K L:Nat}{c:Nat→Int}(h:Db K c)(k:K≤L):Db L c:=fun i=>Nat.lt_of_lt_of_le (h i) (Nat.pow_le_pow_right (by decide) k)
theorem b32_b4(K:Nat):B32^K≤B4^(3*K):=by
 rw [Nat.pow_mul];exact Nat.pow_le_pow_left (by decide) K
theorem b4_b32(K:Nat):B4^(2*K)≤B32^K:=by
 rw [Nat.pow_mul];exact Nat.pow_le_pow_left (by decide) K
theorem Lb.db{K:Nat}{c:Nat→Int}(h:Lb K c):Db (3*K) c:=fun i=>Nat.lt_of_lt_of_le (h i) (b32_b4 K)
theorem Db.lb{K:Nat}{c:Nat→Int}(h:Db (2*K) c):Lb K c:=fun i=>Nat.lt_of_lt_of_le (h i) (b4_b32 K)
theorem qrow_bd{K n:Nat}{c:Nat→Int}(hz:∀ i,n≤i→c i=0){B:BS}{w:World}{v:Value}(h:LfR B w (qrow K n (rc c)) v):Db K c:=by
 intro i
 by_cases hi:i < n
 ·obtain ⟨a,cap,rfl,_,_,hj⟩:=h
  obtain ⟨b,off,rfl,_,_,hc⟩:=hj i hi;obtain ⟨x,_,hx⟩:=hc 0 (by omega);have:=dn_bd (m:=(rc c i).num.natAbs) hx;exact this
 ·rw [hz i (by omega)];exact Nat.pow_pos (by decide)
theorem qrow_tight{K L n:Nat}{c:Nat→Int}(hL:1≤L)(h:∀ i,i < n→(c i).natAbs < B4^L):∀ B w v,LfR B w (qrow K n (rc c)) v→LfR B w (qrow L n (rc c)) v:=
 row_le fun i hi j hj B w v hv=>by
  match j,hj with
  | 0,_=>exact dn_tight (h i hi) _ _ _ hv
  | 1,_=>exact hv
  | 2,_=>exact dn_tight (m:=((rc c i).den:Int).natAbs) (show 1 < B4^L from Nat.lt_of_lt_of_le (by decide) (Nat.pow_le_pow_right (by decide) hL)) _ _ _ hv
  | 3,_=>exact hv
theorem le_qrow_t{K L n:Nat}{c:Nat→Int}(hL:1≤L)(h:Db L c):AV.le (.d (.one (qrow K n (rc c)))) (.d (.one (qrow L n (rc c)))):=le_one (qrow_tight hL fun i _=>h i)
/-- Rationals. -/
def Tb(K:Nat)(q:Rat):Prop:=q.num.natAbs < B32^K∧q.den < B32^K
def Qb(K:Nat)(q:Rat):Prop:=q.num.natAbs < B4^K∧q.den < B4^K
theorem tn_tight{K L:Nat}{q:Rat}(h:Tb L q):∀ B w cs,LsR B w (tn K q) cs→LsR B w (tn L q) cs
 | B,w,[a,b,c,d],⟨h1,h2,h3,h4,h5⟩=>⟨h1,ln_tight h.1 _ _ _ h2,h3,ln_tight (m:=(q.den:Int).natAbs) h.2 _ _ _ h4,h5⟩
theorem qn_tight{K L:Nat}{q:Rat}(h:Qb L q):∀ B w cs,LsR B w (qn K q) cs→LsR B w (qn L q) cs
 | B,w,[a,b,c,d],⟨h1,h2,h3,h4,h5⟩=>⟨dn_tight h.1 _ _ _ h1,h2,dn_tight (m:=(q.den:Int).natAbs) h.2 _ _ _ h3,h4,h5⟩
theorem tn_bdT{K:Nat}{q:Rat}{B:BS}{w:World}{cs:List Value}(h:LsR B w (tn K q) cs):Tb K q:=by
 match cs,h with
 | [x,y,u,v],⟨_,h2,_,h4,_⟩=>exact ⟨ln_bd h2,ln_bd (m:=(q.den:Int).natAbs) h4⟩
theorem qn_bdT{K:Nat}{q:Rat}{B:BS}{w:World}{cs:List Value}(h:LsR B w (qn K q) cs):Qb K q:=by
 match cs,h with
 | [x,y,u,v],⟨h1,_,h3,_⟩=>exact ⟨dn_bd h1,dn_bd (m:=(q.den:Int).natAbs) h3⟩
section
variable {P:Program} {ops:Array Oper} {Q:Qs} {l:List Oper} {s:AS}
theorem AW.fact{p:Prop}{c:Code}(h:∀ B0 w0 a w,Den s B0 w0 a w→p)(k:p→AW P c Q s):AW P c Q s:=fun B0 w0 a w hd=>k (h B0 w0 a w hd) B0 w0 a w hd
theorem f_prow{K n:Nat}{c:Nat→Int}(t:Nat)(h:lk s.sl t=some (.d (.one (prow K n c))))(hz:∀ i,n≤i→c i=0):∀ B0 w0 a w,Den s B0 w0 a w→Lb K c:=by
 rintro B0 w0 a w ⟨ρ,hc,hn,hdf,hs⟩;obtain ⟨v,_,hl⟩:=hs t _ h;exact prow_bd hz hl
theorem f_qn{K:Nat}{q:Rat}(t:Nat)(h:lk s.sl t=some (.d (.agg (qn K q)))):∀ B0 w0 a w,Den s B0 w0 a w→Qb K q:=by
 rintro B0 w0 a w ⟨ρ,hc,hn,hdf,hs⟩;obtain ⟨v,_,cs,_,hl⟩:=hs t _ h;exact qn_bdT hl
end
/-- Bounds of what is reckoned. -/
theorem lb_mul{K L:Nat}{x y:Int}(hx:x.natAbs < B32^K)(hy:y.natAbs < B32^L):(x*y).natAbs < B32^(K+L):=by
 rw [Int.natAbs_mul,Nat.pow_add];exact Nat.mul_lt_mul_of_lt_of_le hx (Nat.le_of_lt hy) (Nat.lt_of_le_of_lt (Nat.zero_le _) hy)
theorem Lb.sub{K:Nat}{a b:Nat→Int}(h:Lb K a)(k:Lb K b):Lb (K+1) (fsub a b):=fun i=>by
 have h1:=h i;have h2:=k i;unfold fsub;rw [Nat.pow_succ];have:B32^K*2≤B32^K*B32:=Nat.mul_le_mul_left _ (by decide);omega
theorem Lb.add{K:Nat}{a b:Nat→Int}(h:Lb K a)(k:Lb K b):Lb (K+1) (fadd a b):=fun i=>by
 have h1:=h i;have h2:=k i;unfold fadd;rw [Nat.pow_succ];have:B32^K*2≤B32^K*B32:=Nat.mul_le_mul_left _ (by decide);omega
theorem Lb.neg{K:Nat}{a:Nat→Int}(h:Lb K a):Lb K (fneg a):=fun i=>by have:=h i;unfold fneg;omega
theorem Lb.scl{K L:Nat}{a:Nat→Int}{y:Int}(h:Lb K a)(hy:y.natAbs < B32^L):Lb (K+L) (fscl a y):=fun i=>lb_mul (h i) hy
theorem Lb.fdv{K:Nat}{a:Nat→Int}{g:Int}(h:Lb K a):Lb K (fdv a g):=fun i=>Nat.lt_of_le_of_lt (by unfold Go.Proofs.YtapmpcgekdplfaaGreat.fdv;exact Int.natAbs_ediv_le_natAbs _ _) (h i)
/-- x t^i as a row. -/
def mnm(x:Int)(i:Nat):Nat→Int:=fun j=>if j=i then x else 0
theorem mnm_z{x:Int}{i:Nat}:∀ j,i+1≤j→mnm x i j=0:=fun j hj=>if_neg (by omega)
theorem cv_mnm{x:Int}{i j:Nat}{b:Nat→Int}:∀ m,cv (mnm x i) b m j=if i < m∧i≤j then x*b (j-i) else 0
 | 0=>by rw [if_neg (by omega)];rfl
 | m+1=>by
  show cv (mnm x i) b m j+(if m≤j then mnm x i m*b (j-m) else 0)=_
  rw [cv_mnm m];unfold mnm
  by_cases h1:m=i
  ·subst h1
   rw [if_neg (by omega),if_pos rfl]
   by_cases h2:m≤j
   ·rw [if_pos h2,if_pos ⟨by omega,h2⟩];omega
   ·rw [if_neg h2,if_neg (by omega)];rfl
  ·rw [if_neg h1]
   rw [show (if m≤j then (0:Int)*b (j-m) else 0)=0 from by split;exact Int.zero_mul _;rfl,Int.add_zero]
   by_cases h2:i < m∧i≤j
   ·rw [if_pos h2,if_pos (show i < m+1∧i≤j from ⟨by omega,h2.2⟩)]
   ·rw [if_neg h2,if_neg (show ¬ (i < m+1∧i≤j) from fun h3=>h2 ⟨by omega,h3.2⟩)]
theorem conv_mnm{x:Int}{i:Nat}{b:Nat→Int}(j:Nat):conv (mnm x i) b j=if i≤j then x*b (j-i) else 0:=by
 show cv _ _ _ _=_
 rw [cv_mnm]
 by_cases h:i≤j
 ·rw [if_pos ⟨by omega,h⟩,if_pos h]
 ·rw [if_neg (by omega),if_neg h]
theorem Lb.mnm{K L:Nat}{b:Nat→Int}{x:Int}{i:Nat}(h:Lb K b)(hx:x.natAbs < B32^L):Lb (L+K) (conv (mnm x i) b):=fun j=>by
 rw [conv_mnm];split
 ·exact lb_mul hx (h _)
 ·exact Nat.pow_pos (by decide)
theorem pf_mnm{x:Int}{i:Nat}(q:Rat):pf (mnm x i) (i+1) q=(x:Rat)*q^i:=by
 show pe _ q i+rc (mnm x i) i*q^i=_
 rw [pe_zero fun j hj=>by unfold rc mnm;rw [if_neg (by omega)];rfl];unfold rc mnm;rw [if_pos rfl];grind
/-- No more than 20 places; how many there are; the function. -/
def z20(c:Nat→Int):Prop:=∀ i,20≤i→c i=0
def lg(c:Nat→Int):Nat:=dg c 20
def FF(c:Nat→Int):Fn:=pf c 20
theorem z20.of{c:Nat→Int}{n:Nat}(h:∀ i,n≤i→c i=0)(hn:n≤20):z20 c:=fun i hi=>h i (by omega)
theorem lg_dg{c:Nat→Int}{n:Nat}(h:∀ i,n≤i→c i=0)(z:z20 c):dg c n=lg c:=dg_eq h z
theorem lg_le(c:Nat→Int):lg c≤20:=dg_le c 20
theorem z20.lg{c:Nat→Int}(z:z20 c):∀ i,lg c≤i→c i=0:=dg_z z
theorem z20.ip{c:Nat→Int}(z:z20 c):IP (Go.Proofs.YtapmpcgekdplfaaGreat.lg c) c:=IP.of z
theorem FF_pf{c:Nat→Int}{n:Nat}(h:∀ i,n≤i→c i=0)(z:z20 c):pf c n=FF c:=pf_eq h z
theorem FF_lg{c:Nat→Int}(z:z20 c):pf c (lg c)=FF c:=FF_pf z.lg z
theorem FF_po{c:Nat→Int}(z:z20 c):Po (FF c):=pf_po z
theorem lg_of_z{c:Nat→Int}(z:z20 c){n:Nat}(h:∀ i,n≤i→c i=0):lg c≤n:=by rw [← lg_dg h z];exact dg_le c n
theorem lg_ne{c:Nat→Int}(h:lg c≠0):c (lg c-1)≠0:=dg_ne h
theorem lg_zero{c:Nat→Int}(z:z20 c):lg c=0↔∀ i,c i=0:=⟨fun h=>dg_all z h,fun h=>dg_zero h 20⟩
theorem FF_zero{c:Nat→Int}(z:z20 c):lg c=0↔∀ x,FF c x=0:=by
 constructor
 ·intro h x
  rw [← FF_lg z,h];rfl
 ·intro h
  exact z.ip.zero fun x=>by rw [FF_lg z];exact h x
theorem FF_nz{c:Nat→Int}(z:z20 c)(h:lg c≠0):∃ x,FF c x≠0:=by
 have:=z.ip.ne h;rwa [FF_lg z] at this
theorem FF_lc{c:Nat→Int}(z:z20 c)(h:lg c≠0):Lc (lg c-1) (FF c) (c (lg c-1):Rat):=by
 have:=z.ip.lc h;rwa [FF_lg z] at this
theorem FF_inj{c d:Nat→Int}(z:z20 c)(y:z20 d)(h:∀ x,FF c x=FF d x):∀ i,c i=d i:=pf_one z y h
theorem z20_sub{a b:Nat→Int}(h:z20 a)(k:z20 b):z20 (fsub a b):=fun i hi=>by unfold fsub;rw [h i hi,k i hi];rfl
theorem z20_add{a b:Nat→Int}(h:z20 a)(k:z20 b):z20 (fadd a b):=fun i hi=>by unfold fadd;rw [h i hi,k i hi];rfl
theorem z20_scl{a:Nat→Int}{y:Int}(h:z20 a):z20 (fscl a y):=fun i hi=>by unfold fscl;rw [h i hi];simp
theorem z20_neg{a:Nat→Int}(h:z20 a):z20 (fneg a):=fun i hi=>by unfold fneg;rw [h i hi];rfl
theorem z20_fdv{a:Nat→Int}{g:Int}(h:z20 a):z20 (fdv a g):=fdv_z h
theorem z20_der{a:Nat→Int}(h:z20 a):z20 (fder a):=fun i hi=>by unfold fder;rw [h (i+1) (by omega)];simp
theorem z20_nil:z20 (fun _=>0):=fun _ _=>rfl
theorem FF_sub{a b:Nat→Int}(x:Rat):FF (fsub a b) x=FF a x-FF b x:=pf_sub x
theorem FF_scl{a:Nat→Int}(y:Int)(x:Rat):FF (fscl a y) x=FF a x*(y:Rat):=pf_scl y x
theorem FF_neg{a:Nat→Int}(x:Rat):FF (fneg a) x= - FF a x:=pf_neg x
theorem FF_conv{a b:Nat→Int}{n m:Nat}(ha:∀ i,n≤i→a i=0)(hb:∀ i,m≤i→b i=0)(hnm:n+m≤20)(za:z20 a)(zb:z20 b)(x:Rat):FF (conv a b) x=FF a x*FF b x:=by
 have h:=pf_conv ha hb x;rw [pf_eq (conv_z0 ha hb) (fun i hi=>conv_z0 ha hb i (by omega):∀ i,20≤i→conv a b i=0),FF_pf ha za,FF_pf hb zb] at h;exact h
theorem FF_der{c:Nat→Int}(z:z20 c):Der (FF c) (FF (fder c)):=by
 have h:=pf_der (c:=c) (n:=20);rwa [pf_eq (fder_z z:∀ i,20-1≤i→fder c i=0) (z20_der z)] at h
theorem FF_szd{c:Nat→Int}(z:z20 c)(x:Rat):FF c x=((gcdN c 20:Nat):Rat)*FF (szd c 20) x:=pf_szd z x
/-! ### A step of division -/
theorem step_z{r d:Nat→Int}{nb i:Nat}(hnb:nb≠0)(hd:∀ t,nb≤t→d t=0)(hr:∀ t,nb+i≤t→r t=0):∀ t,nb+i-1≤t→fsub (fscl r (d (nb-1))) (conv (mnm (r (nb-1+i)) i) d) t=0:=by
 intro t ht;show r t*d (nb-1)-conv (mnm (r (nb-1+i)) i) d t=0
 rw [conv_mnm,if_pos (by omega)]
 by_cases e:t=nb+i-1
 ·subst e
  rw [show nb+i-1-i=nb-1 by omega,show nb+i-1=nb-1+i by omega];omega
 ·rw [hr t (by omega),hd (t-i) (by omega)]
  simp
theorem mnm20{x:Int}{i:Nat}(h:i < 20):z20 (mnm x i):=fun j hj=>mnm_z j (by omega)
theorem FF_mnm{x:Int}{i:Nat}(h:i < 20)(q:Rat):FF (mnm x i) q=(x:Rat)*q^i:=by
 rw [← FF_pf (n:=i+1) mnm_z (mnm20 h)];exact pf_mnm q
theorem step_F{r d:Nat→Int}{nb i:Nat}{l x:Int}(hd:∀ t,nb≤t→d t=0)(zd:z20 d)(h:i+1+nb≤20)(q:Rat):FF (fsub (fscl r l) (conv (mnm x i) d)) q=FF r q*(l:Rat)-((x:Rat)*q^i)*FF d q:=by
 rw [FF_sub,FF_scl,FF_conv mnm_z hd h (mnm20 (by omega)) zd,FF_mnm (by omega)]
theorem po_mono(x:Int)(i:Nat):Po (fun q=>(x:Rat)*q^i):=(po_const _).mul (po_var.pow i)
/-- What holds after so many steps (s), i of them left. -/
structure PsI(c d:Nat→Int)(nb:Nat)(K L:Nat)(s i:Nat)(r q:Nat→Int):Prop where
 z:∀ t,nb+i≤t+1→r t=0
 zr:z20 r
 zq:z20 q
 br:Lb (K+s*(L+1)) r
 bq:Lb (K+s*(L+1)) q
 eq:∃ Q,Po Q∧∀ x,((d (nb-1):Int):Rat)^s*FF c x=Q x*FF d x+FF r x
theorem PsI.start{c d:Nat→Int}{nb K L i:Nat}(zc:z20 c)(hb:Lb K c)(h:∀ t,nb+i≤t+1→c t=0):PsI c d nb K L 0 i c (fun _=>0):=
 ⟨h,zc,z20_nil,by rw [Nat.zero_mul,Nat.add_zero];exact hb,fun _=>Nat.pow_pos (by decide),⟨fun _=>0,po_const 0,fun x=>by rw [Rat.pow_zero];grind⟩⟩
theorem PsI.step{c d:Nat→Int}{nb K L s i:Nat}{r q:Nat→Int}(h:PsI c d nb K L s (i+1) r q)(hnb:nb≠0)(hd:∀ t,nb≤t→d t=0)(zd:z20 d)(bd:Lb L d)(hi:i+1+nb≤20){x:Int}(hx:x=r (nb-1+i)):
  PsI c d nb K L (s+1) i (fsub (fscl r (d (nb-1))) (conv (mnm x i) d)) (fadd (fscl q (d (nb-1))) (mnm x i)):=by
 subst hx;have e1:K+(s+1)*(L+1)=K+s*(L+1)+L+1:=by rw [Nat.add_mul];omega
 have zcv:z20 (conv (mnm (r (nb-1+i)) i) d):=fun t ht=>conv_z0 mnm_z hd t (by omega)
 refine ⟨fun t ht=>step_z hnb hd (fun t ht=>h.z t (by omega)) t (by omega),z20_sub (z20_scl h.zr) zcv,z20_add (z20_scl h.zq) (mnm20 (by omega)),?_,?_,?_⟩
 ·rw [e1]
  refine Lb.sub (h.br.scl (bd _)) ?_;have:=Lb.mnm (i:=i) bd (h.br (nb-1+i));exact this
 ·rw [e1]
  refine Lb.add (h.bq.scl (bd _)) (fun j=>?_);unfold mnm;split
  ·exact Nat.lt_of_lt_of_le (h.br _) (Nat.pow_le_pow_right (by decide) (by omega))
  ·exact Nat.pow_pos (by decide)
 ·obtain ⟨Q,pQ,hQ⟩:=h.eq
  refine ⟨fun y=>Q y*((d (nb-1):Int):Rat)+((r (nb-1+i):Int):Rat)*y^i,(pQ.scl _).add (po_mono _ _),fun y=>?_⟩;rw [step_F hd zd hi,Rat.pow_succ];have:=hQ y;grind
/-! ### Remainders -/
structure RestP(c d:Nat→Int)(M:Nat)(R:Nat→Int):Prop where
 z:z20 R
 b:Lb M R
 lt:lg R < lg d
 eq:∃ (Q:Fn) (κ:Rat),Po Q∧0 < κ∧∀ x,FF c x=Q x*FF d x+κ*FF R x
theorem pow_pos_even{l:Rat}(hl:l≠0):∀ s:Nat,(0 < l^s∧(s%2=0∨0 < l))∨(l^s < 0∧s%2=1∧l < 0)
 | 0=>by left;rw [Rat.pow_zero];exact ⟨by decide,Or.inl rfl⟩
 | s+1=>by
  rw [Rat.pow_succ];have hc:0 < l∨l < 0:=by grind
  rcases pow_pos_even hl s with ⟨h1,h2⟩ | ⟨h1,h2,h3⟩
  ·rcases hc with hp | hn
   ·exact Or.inl ⟨Rat.mul_pos h1 hp,Or.inr hp⟩
   ·rcases h2 with h2 | h2
    ·refine Or.inr ⟨?_,by omega,hn⟩
     have:=Rat.mul_pos h1 (show (0:Rat) < -l by grind);grind
    ·exact absurd h2 (by grind)
  ·refine Or.inl ⟨?_,Or.inl (by omega)⟩
   have:=Rat.mul_pos (show (0:Rat) < -(l^s) by grind) (show (0:Rat) < -l by grind);grind
/-- .. out of the steps, with the sign that it is to have. -/
theorem rest_of{c d r:Nat→Int}{nb K L s M:Nat}{q:Nat→Int}(h:PsI c d nb K L s 0 r q)(zd:z20 d)(hnb:lg d=nb)(hn0:nb≠0)(hM:K+s*(L+1)≤M){R:Nat→Int}(hR:(s%2=1∧d (nb-1) < 0∧∀ i,R i=szd (fneg r) 20 i)∨(¬ (s%2=1∧d (nb-1) < 0)∧∀ i,R i=szd r 20 i)):
  RestP c d M R:=by
 subst hnb;have hl:((d (lg d-1):Int):Rat)≠0:=rc_ne (lg_ne hn0);have key:∀ (u:Nat→Int) (σ:Rat),z20 u→Lb M u→(∀ t,lg d≤t+1→u t=0)→σ≠0→0 < σ*((d (lg d-1):Int):Rat)^s→(∀ x,FF r x=σ*FF u x)→σ*σ=1→(∀ i,R i=szd u 20 i)→RestP c d M R:=by
  intro u σ zu bu hz hσ hpos hu hss hR;obtain rfl:R=szd u 20:=funext hR;have zs:z20 (szd u 20):=z20_fdv zu;refine ⟨zs,bu.fdv,?_,?_⟩
  ·have:lg (szd u 20)≤lg d-1:=lg_of_z zs fun i hi=>fdv_z (n:=lg d-1) (fun i hi=>hz i (by omega)) i hi
   omega
  ·obtain ⟨Q,pQ,hQ⟩:=h.eq
   obtain ⟨A,hA⟩:∃ A:Rat,A=((d (lg d-1):Int):Rat)^s:=⟨_,rfl⟩
   rw [← hA] at hpos;rw [← hA] at hQ;have hA0:A≠0:=by rintro rfl;grind
   by_cases hg:gcdN u 20=0
   ·have hz0:∀ x,FF u x=0:=fun x=>by rw [FF_szd zu,hg];grind
    have hs0:∀ x,FF (szd u 20) x=0:=by
     have hall:∀ i,u i=0:=(lg_zero zu).1 ((FF_zero zu).2 hz0)
     exact (FF_zero zs).1 ((lg_zero zs).2 fun i=>by unfold szd fdv;rw [hall i];exact Int.zero_ediv _)
    refine ⟨fun x=>Q x*A⁻¹,1,pQ.scl _,by decide,fun x=>?_⟩;have h1:=hQ x;rw [hu,hz0] at h1;rw [hs0];grind
   ·refine ⟨fun x=>Q x*A⁻¹,σ*A⁻¹*((gcdN u 20:Nat):Rat),pQ.scl _,?_,fun x=>?_⟩
    ·have h1:(0:Rat) < ((gcdN u 20:Nat):Rat):=by exact_mod_cast Nat.pos_of_ne_zero hg
     refine Rat.mul_pos ?_ h1;have h2:σ*A⁻¹=(σ*A)*(A⁻¹*A⁻¹):=by grind
     rw [h2];have h3:(0:Rat) < A⁻¹*A⁻¹:=by
      have h4:A⁻¹≠0:=by grind
      have h5:0 < A⁻¹∨A⁻¹ < 0:=by grind
      rcases h5 with h5 | h5
      ·exact Rat.mul_pos h5 h5
      ·have:=Rat.mul_pos (show (0:Rat) < -A⁻¹ by grind) (show (0:Rat) < -A⁻¹ by grind)
       grind
     exact Rat.mul_pos hpos h3
    ·have h1:=hQ x
     rw [hu,FF_szd zu] at h1;grind
 have hbM:Lb M r:=h.br.mono hM;have hz0:∀ t,lg d≤t+1→r t=0:=fun t ht=>h.z t (by omega)
 rcases hR with ⟨h1,h2,h3⟩ | ⟨h1,h3⟩
 ·have hl0:((d (lg d-1):Int):Rat) < 0:=by exact_mod_cast h2
  refine key (fneg r) (-1) (z20_neg h.zr) hbM.neg (fun t ht=>by unfold fneg;rw [hz0 t ht];rfl) (by decide) ?_ (fun x=>by rw [FF_neg];grind) (by grind) h3;rcases pow_pos_even hl s with ⟨_,h6 | h6⟩ | ⟨h5,_,_⟩
  ·omega
  ·grind
  ·grind
 ·refine key r 1 h.zr hbM hz0 (by decide) ?_ (fun x=>by grind) (by grind) h3
  rcases pow_pos_even hl s with ⟨h5,_⟩ | ⟨_,h6,h7⟩
  ·grind
  ·exact absurd ⟨h6,by exact_mod_cast h7⟩ h1
theorem RestP.idp{c d R:Nat→Int}{M:Nat}(h:RestP c d M R):Idp (FF c) (FF d) (FF d) (FF R):=by
 obtain ⟨Q,κ,pQ,hκ,e⟩:=h.eq;exact Idp.step pQ (by grind) e
/-- A row written out, the frame's own. -/
def evR(T:TypeId→Option TI)(s:AS):Op→Option AO
 | .buildSlice t len parts=>match T t with
  | none=>none
  | some ti=>match ti.elem with
   | none=>none
   | some e=>match T e,getps s parts.toList with
    | some te,some ps=>if te.zero.length=te.n∧te.n≠0∧len*te.n≤16777216 then match fillL (fun i=>some (i*te.n,te.n)) ((List.range (len*te.n)).map fun q=>Lf.v ((te.zero[q%te.n]?).getD undef)) ps with
     | some r=>some (.row e te.n len fun i j=>(r[i*te.n+j]?).getD (.v undef))
     | none=>none
     else none
    | _,_=>none
 | _=>none
theorem evR_ok{P:Program}{T:TypeId→Option TI}(hT:TOk P T){s:AS}{o:Oper}{ob:AO}{ρ:Rho}{B0:BS}{w0:Wz}{w:World}{hp:List (Nat×AO)}{a:Act}(hsl:Slots ρ (Bd ρ B0) w s.sl a)(hc:Core ρ B0 w0 w hp)(h:evR T s o.op=some ob):
  ∃ v w',(execOp a.eval o).run P w= .ok (.value v) w'∧Below w.heap.size w w'∧(∀ b,vblk v=some b→w.heap.size≤b)∧∀ B',(∀ b,b < w.heap.size→B' b→Bd ρ B0 b)→OR B' w0 w' ob v:=by
 unfold evR at h;unfold execOp;split at h
 ·rename_i t len parts hop
  rw [hop];split at h
  ·cases h
  rename_i ti hti
  replace hti:=hT _ _ hti
  split at h
  ·cases h
  rename_i e he;split at h
  ·rename_i te ps hte hps
   replace hte:=hT _ _ hte
   split at h
   ·rename_i hcond
    obtain ⟨hzl,hn0,hsm⟩:=hcond;split at h
    ·rename_i r hr
     cases h
     obtain ⟨i,z,dd,h1,h2,h3,h4,h5,h6,h7,h8,h9,_⟩:=ti_parts hti;have:=h9 e he;subst this;obtain ⟨i',z',dd',k1,k2,k3,k4,k5,k6,k7,_,_,_,_,hall⟩:=ti_parts hte;have hz':z'.cells=te.zero.toArray:=by rw [← k5]
     obtain ⟨g1,g2⟩:=getps_ok hsl parts.toList ps hps;have hpos:0 < te.n:=by omega
     have hbase:LsR (Bd ρ B0) w ((List.range (len*te.n)).map fun q=>Lf.v ((te.zero[q%te.n]?).getD undef)) ((List.range (len*te.n)).map fun q=>(te.zero[q%te.n]?).getD undef):=by
      have:=LsR.vs (B:=Bd ρ B0) (w:=w) (cs:=(List.range (len*te.n)).map fun q=>(te.zero[q%te.n]?).getD undef) (fun c hcm=>by
       obtain ⟨q,_,rfl⟩:=List.mem_map.1 hcm;rw [List.getElem?_eq_getElem (show q%te.n < te.zero.length by rw [hzl];exact Nat.mod_lt _ hpos)];exact hall _ (List.getElem_mem _))
      rwa [List.map_map] at this
     obtain ⟨rs,hfill,hrs⟩:=fillL_ok (fun i=>some (i*te.n,te.n)) ps _ _ r _ hbase hr g1 g2;have hrl:∀ (ps:List (Nat×List Lf)) (l r:List Lf),fillL (fun i=>some (i*te.n,te.n)) l ps=some r→r.length=l.length:=by
      intro ps
      induction ps with
      | nil=>intro l r h;simp only [fillL,Option.some.injEq] at h;rw [h]
      | cons p ps ih=>
       intro l r h;simp only [fillL] at h;split at h
       ·rename_i hcnd
        rw [ih _ _ h];simp [layC];omega
       ·cases h
     have hlen:rs.length=len*te.n:=by rw [← hrs.len,hrl _ _ _ hr];simp
     have hm:(parts.map fun x:Nat×Operand=>match x with | (i,x)=>(i,a.eval x)).toList=parts.toList.map fun q:Nat×Operand=>(q.1,a.eval q.2):=by rw [Array.toList_map]
     have hgt:¬ len*i'.size > 2^24:=by rw [k4];omega
     have hrun:(Instr.buildSlice t len (parts.map fun x:Nat×Operand=>match x with | (i,x)=>(i,a.eval x))).run P w= .ok (.slice (some ⟨w.heap.size,0,none⟩) len len) (w.alloc (.cells rs.toArray e)):=by
      have hA:∀ zc:Array Value,(len*te.n=0∨zc=te.zero.toArray)→(Array.range (len*te.n)).map (fun q=>zc[q%zc.size]!)=((List.range (len*te.n)).map fun q=>(te.zero[q%te.n]?).getD undef).toArray:=by
       rintro zc (h0 | rfl)
       ·rw [h0];simp
       ·rw [← Array.toList_inj]
        simp only [Array.toList_map,Array.toList_range];refine List.map_congr_left (fun q _=>?_);have hq:q%te.n < te.zero.length:=by rw [hzl];exact Nat.mod_lt _ hpos
        simp [hzl,getElem!_def,List.getElem?_eq_getElem hq]
      have hfin:∀ zc:Array Value,(len*te.n=0∨zc=te.zero.toArray)→(do
        let some cells := Instr.fill (fun i => some (i * te.n, te.n)) ((Array.range (len * te.n)).map (fun q => zc[q % zc.size]!)) (parts.map fun x : Nat × Operand => match x with | (i, x) => (i, a.eval x)).toList | stuck "buildSlice: a part of the wrong size"
        pure (.slice (some (← newRow e cells)) len len):Sem Value).run P w= .ok (.slice (some ⟨w.heap.size,0,none⟩) len len) (w.alloc (.cells rs.toArray e)):=by
       intro zc hz;rw [hA zc hz,hm,hfill];rfl
      unfold Instr.buildSlice;simp only [Sem.run_bind,run_underlying h3,Result.andThen_ok,sizeOf,typeInfo,run_program,k1,Sem.run_pure,k4];rw [if_neg (by omega)]
      by_cases hl0:len*te.n=0
      ·rw [if_pos hl0]
       simp only [Sem.run_pure,Result.andThen_ok,Sem.run_bind];exact hfin #[] (Or.inl hl0)
      ·rw [if_neg hl0]
       simp only [Sem.run_bind,zeroValue,typeInfo,run_program,Result.andThen_ok,k1,Sem.run_pure,k2,hz'];exact hfin _ (Or.inr rfl)
     have hlm:len≤maxLen:=by
      have:len*1≤len*te.n:=Nat.mul_le_mul_left _ hpos;simp [maxLen];omega
     refine ⟨_,_,run_value hrun,alloc_bel _ _,fun b hb=>by cases hb;exact Nat.le_refl _,fun B' hB=>⟨rs,⟨⟨hlen,Or.inr ⟨w.heap.size,len,rs.toArray,rfl,Nat.zero_le _,heap_alloc_new w _,Nat.le_refl _,hlm,by simp [hlen],by simp [← hlen]⟩⟩,fun b hb=>by cases hb;exact Or.inl hc.bel.size⟩,fun p q hp hq=>?_⟩⟩;have hidx:p*te.n+q < len*te.n:=by
      have:(p+1)*te.n≤len*te.n:=Nat.mul_le_mul_right _ (by omega);rw [Nat.add_mul,Nat.one_mul] at this;omega
     have hrlen:r.length=len*te.n:=by rw [hrs.len,hlen]
     obtain ⟨l,hl⟩:∃ l,r[p*te.n+q]?=some l:=⟨r[p*te.n+q],by simp [hrlen,hidx]⟩
     obtain ⟨cc,hcc,hlr⟩:=hrs.get hl;refine ⟨cc,hcc,?_⟩;show LfR _ _ ((r[p*te.n+q]?).getD _) cc
     rw [hl];exact LfR.mv (.of_below (alloc_bel _ _)) hB _ hlr
    ·cases h
   ·cases h
  ·cases h
 ·cases h
section
variable {P:Program} {ops:Array Oper} {Q:Qs} {o:Oper} {l:List Oper} {s:AS}
theorem mR{T:TypeId→Option TI}(hT:TOk P T)(ob:AO)(h:evR T s o.op=some ob){d:Nat}(hdst:o.dst=some d)(hfr:lk s.hp d=none)(k:AL P ops Q l (s.mk' d ob))(hg:gst ops s o=some true:=by rfl)(hd:dok (some d) s.n=true:=by rfl):AL P ops Q (o ::l) s:=by
 rintro B0 w0 a w ⟨ρ,hc,hn,hdf,hs⟩;obtain ⟨v,w',hr,hb,hv,ho⟩:=evR_ok hT hs hc h;have hρ:ρ d=none:=by
  cases hρ:ρ d with
  | none=>rfl
  | some u=>obtain ⟨ob',h1,_⟩:=hc.obj d u hρ;rw [hfr] at h1;cases h1
 have ho':=ho (Bd (up ρ d v) B0) (up_new hρ hv);have hc':Core (up ρ d v) B0 w0 w' ((d,ob) ::s.hp):=hc.new hρ hb hv (fun k ob hk hne=>by rw [lk_cons,if_neg (fun e=>hne e.symm)];exact hk) (by rw [lk_cons,if_pos rfl]) ho';have hs':Slots (up ρ d v) (Bd (up ρ d v) B0) w' s.sl a:=fun t av ht=>let ⟨u,h1,h2⟩:=hs t av ht;⟨u,h1,h2.new hρ hb hv⟩
 refine wpl_value (gst_ok hg hs) hr (k B0 w0 _ w' ?_);rw [hdst];exact ⟨_,hc',(by show (a.tmps.setIfInBounds d v).size=s.n;simpa using hn),hdf,slots_put hs' hn (Nat.le_of_ble_eq_true hd) (AO.av_ok ho' (by simp [up]))⟩
end
theorem append_ty{P:Program}{t t' ty e e':TypeId}{args:Array Value}{w:World}(h:P.underlying t=some (.slice e))(h':P.underlying t'=some (.slice e')):(Builtin.append_ #[t,t'] ty args).run P w=(Builtin.append_ #[t,t] ty args).run P w:=by
 unfold Builtin.append_;cases args[0]? with
 | none=>simp
 | some s=>cases args[1]? with
  | none=>simp
  | some x=>cases s <;> simp [Sem.run_bind,run_underlying h,run_underlying h']
theorem mA2{P:Program}{T:TypeId→Option TI}(hT:TOk P T){ops:Array Oper}{Q:Qs}{o:Oper}{l:List Oper}{s:AS}{c:Call}{x y:Operand}{t t2 e e2:TypeId}{ti ti2 te:TI}{id n m d:Nat}{el el2:Nat→Nat→Lf} 
  (hx:geto s x=some (.own id)) (hob:lk s.hp id=some (.row e te.n n el)) (hy:srcOf s y te.n=some (m,el2)) (hbd:(n+m)*te.bytes≤140737488355328) (hmx:n+m≤9223372036854775807) (hc:callOf o.op=some c) (hcal:c.callee= .builtin .append) (hargs:c.args.toList= [x,y]) (hty:c.argTypes.toList= [t,t2]) (hti2:T t2=some ti2) (he2:ti2.elem=some e2) (hti:T t=some ti) (he:ti.elem=some e) (hte:T e=some te) (hz:Nat.beq te.zero.length te.n=true) (h0:Nat.ble 1 te.n=true)
  (hdst:o.dst=some d) (k:AL P ops Q l ⟨s.n,(d,.own id) ::fzs id .dead (fun _=> .dead) s.sl,(id,.row e te.n (n+m) (appEl n el el2)) ::s.hp⟩) (hg:gst ops s o=some true:=by rfl) (hd:dok (some d) s.n=true:=by rfl):AL P ops Q (o ::l) s:=by
 rintro B0 w0 a w ⟨ρ,hcr,hn,hdf,hs⟩;have hop:o.op= .call c:=by
  unfold callOf at hc;split at hc
  ·rename_i h;cases hc;exact h
  ·cases hc
 obtain ⟨hid,ad,n',cap,hxe⟩:=geto_ok hs hx;obtain ⟨ob,o1,o2⟩:=hcr.obj id _ hid;rw [hob] at o1;cases o1
 obtain ⟨xs,hown,hel⟩:=o2;obtain ⟨ao,cc,news,hye,hnl,hnil,hmc,hsrc,hel2⟩:=srcOf_ok hs hy;obtain ⟨i,z,dd,h1,h2,h3,h4,h5,h6,h7,h8,h9,_⟩:=ti_parts (hT _ _ hti);have:=h9 e he;subst this;obtain ⟨i',z',dd',k1,k2,k3,k4,k5,k6,k7,_⟩:=ti_parts (hT _ _ hte);have hzl:te.zero.length=te.n:=Nat.eq_of_beq_eq_true hz;have hsz:0 < te.n:=Nat.le_of_ble_eq_true h0;have hzs:z'.cells.size=te.n:=by rw [← hzl,← k5];simp
 have hone:∀ u∈news,u.oneCell'=true:=by
  intro u hu;obtain ⟨q,hq,rfl⟩:=List.mem_iff_getElem.1 hu;rw [hnl] at hq;have hdiv:q / te.n < m:=Nat.div_lt_of_lt_mul (by rw [Nat.mul_comm];exact hq);obtain ⟨u,hu1,hu2⟩:=hel2 (q / te.n) (q%te.n) hdiv (Nat.mod_lt _ hsz);rw [Nat.mul_comm,Nat.div_add_mod] at hu1;obtain ⟨_,hu3⟩:=List.getElem?_eq_some_iff.1 hu1;rw [hu3];exact hu2.one
 obtain ⟨v',w',hr,hown',hgrow,hblk⟩:=run_append_am (P:=P) (w:=w) 0 t o.type e i' z' te.n te.bytes h3 k1 k2 k4 k7 hzs hsz (a.eval x) n xs hown.1 ao m cc news hnl hnil hmc hsrc hone (by simp [maxLen];omega) hbd (Nat.zero_le _);obtain ⟨_,_,dd2,_,_,g3,_,_,_,_,_,g9,_⟩:=ti_parts (hT _ _ hti2);have:=g9 e2 he2;subst this;have hr:=(append_ty (ty:=o.type) (args:=#[a.eval x,.slice ao m cc]) (w:=w) h3 g3).trans hr;have hrun:(execOp a.eval o).run P w= .ok (.value v') w':=by
  have ha:c.args=#[x,y]:=by rw [← Array.toList_inj];exact hargs
  have ht:c.argTypes=#[t,t2]:=by rw [← Array.toList_inj];exact hty
  unfold execOp;rw [hop];simp [resolve,hcal,invoke,builtin,ha,ht,hye,hr]
 have hvb:∀ b,(a.eval x).ownBlock=some b→vblk (a.eval x)=some b:=by
  intro b hb;rw [hxe] at hb ⊢;cases ad with
  | none=>cases hb
  | some q=>exact hb
 have hb0:Below 0 w w':=(Below.refl _ _).grown hgrow (Nat.zero_le _) (fun k hk=>Nat.zero_le _);have hbel:Bel w0 w':=hcr.bel.put hb0.os hb0.tape hb0.output hgrow.size (g:=fun b=>vblk (a.eval x)=some b) (fun b e=>hown.2 b e) (fun b hb hne=>hgrow.block b hb (fun e=>hne (hvb b e.symm)));have hkeepb:∀ b,b < w.heap.size→vblk (a.eval x)≠some b→w'.heap[b]?=w.heap[b]? :=fun b hb hne=>hgrow.block b hb (fun e=>hne (hvb b e.symm))
 have hK:Keep (Bd ρ B0) w w':=⟨hgrow.size,fun b hb hB=>hkeepb b hb (fun e=>hB (Or.inr ⟨id,_,hid,e⟩))⟩;have hB':∀ b,b < w.heap.size→Bd (up ρ id v') B0 b→Bd ρ B0 b:=by
  rintro b hb (h | ⟨k,u,q1,q2⟩)
  ·exact Or.inl h
  ·unfold up at q1
   split at q1
   ·cases q1
    rcases hblk b q2 with q3 | q3
    ·exact Or.inr ⟨id,_,hid,q3⟩
    ·omega
   ·exact Or.inr ⟨k,u,q1,q2⟩
 have hW:=Core.write (v':=v') (ob':= .row e te.n (n+m) (appEl n el el2)) (hp':=(id,.row e te.n (n+m) (appEl n el el2)) ::s.hp) hcr hid (w':=w') hkeepb hgrow.size hbel hblk
  (fun k ob hk hne=>by rw [lk_cons,if_neg (fun e=>hne e.symm)];exact hk) (by rw [lk_cons,if_pos rfl])
  ⟨xs ++news,⟨hown',fun b hb=>(hblk b hb).elim (hown.2 b) (fun h=>Or.inl (Nat.le_trans hcr.bel.size h))⟩,fun p q hp hq=>by
   have hxl:=hown.1.1
   by_cases hpn:p < n
   ·obtain ⟨u,hu1,hu2⟩:=hel p q hpn hq
    have hidx:=(List.getElem?_eq_some_iff.1 hu1).1;refine ⟨u,by rw [List.getElem?_append_left hidx];exact hu1,?_⟩;have:appEl n el el2 p q=el p q:=by
     unfold appEl;rw [show Nat.ble (p+1) n=true from Nat.ble_eq_true_of_le hpn];rfl
    rw [this];exact LfR.mv hK hB' _ hu2
   ·obtain ⟨u,hu1,hu2⟩:=hel2 (p-n) q (by omega) hq
    have hpm:p*te.n+q=n*te.n+((p-n)*te.n+q):=by
     rw [← Nat.add_assoc,← Nat.add_mul];congr 2;omega
    refine ⟨u,by rw [hpm,List.getElem?_append_right (by omega),hxl,Nat.add_sub_cancel_left];exact hu1,?_⟩;have:appEl n el el2 p q=el2 (p-n) q:=by
     unfold appEl;rw [show Nat.ble (p+1) n=false from by rw [← Bool.not_eq_true];exact fun h=>hpn (Nat.le_of_ble_eq_true h)];rfl
    rw [this];exact LfR.mv hK hB' _ hu2⟩
 refine wpl_value (gst_ok hg hs) hrun (k B0 w0 _ w' ⟨up ρ id v',hW.1,by rw [hdst];show (a.tmps.setIfInBounds d v').size=s.n;simpa using hn,by rw [hdst];exact hdf,?_⟩);rw [hdst];have hsl2:Slots (up ρ id v') (Bd (up ρ id v') B0) w' (fzs id .dead (fun _=> .dead) s.sl) a:=by
  intro u av hu;obtain ⟨av',q1,rfl⟩:=lk_fzs _ _ _ hu;obtain ⟨v,q2,q3⟩:=hs u av' q1;refine ⟨v,q2,?_⟩;have keep:(∀ k,av'.on k=true→k≠id)→AR (up ρ id v') (Bd (up ρ id v') B0) w' av' v:=fun hne=>AR.mv hK hB' (fun k hk=>by unfold up;rw [if_neg (hne k hk)]) q3
  cases av' with
  | own k=>
   show AR _ _ _ (bif Nat.beq k id then .dead else .own k) v
   cases e:Nat.beq k id with
   | true=>trivial
   | false=>exact keep (fun k' hk'=>by have:k=k':=Nat.eq_of_beq_eq_true hk';rintro rfl;rw [this,Nat.beq_refl] at e;cases e)
  | ptr k off=>
   show AR _ _ _ (bif Nat.beq k id then .dead else .ptr k off) v
   cases e:Nat.beq k id with
   | true=>trivial
   | false=>exact keep (fun k' hk'=>by have:k=k':=Nat.eq_of_beq_eq_true hk';rintro rfl;rw [this,Nat.beq_refl] at e;cases e)
  | eptr k sz i j=>
   show AR _ _ _ (bif Nat.beq k id then .dead else .eptr k sz i j) v
   cases e:Nat.beq k id with
   | true=>trivial
   | false=>exact keep (fun k' hk'=>by have:k=k':=Nat.eq_of_beq_eq_true hk';rintro rfl;rw [this,Nat.beq_refl] at e;cases e)
  | lim k j=>
   show AR _ _ _ (bif Nat.beq k id then .dead else .lim k j) v
   cases e:Nat.beq k id with
   | true=>trivial
   | false=>exact keep (fun k' hk'=>by have:k=k':=Nat.eq_of_beq_eq_true hk';rintro rfl;rw [this,Nat.beq_refl] at e;cases e)
  | ptup k j=>
   show AR _ _ _ (bif Nat.beq k id then .dead else .ptup k j) v
   cases e:Nat.beq k id with
   | true=>trivial
   | false=>exact keep (fun k' hk'=>by have:k=k':=Nat.eq_of_beq_eq_true hk';rintro rfl;rw [this,Nat.beq_refl] at e;cases e)
  | wit k=>
   show AR _ _ _ (bif Nat.beq k id then .dead else .wit k) v
   cases e:Nat.beq k id with
   | true=>trivial
   | false=>exact keep (fun k' hk'=>by have:k=k':=Nat.eq_of_beq_eq_true hk';rintro rfl;rw [this,Nat.beq_refl] at e;cases e)
  | d x=>exact keep (fun k hk=>by cases hk)
  | tup x=>exact keep (fun k hk=>by cases hk)
  | dead=>trivial
 refine slots_put hsl2 hn (Nat.le_of_ble_eq_true hd) ⟨by simp [up],?_⟩;obtain ⟨_,⟨rfl,_⟩ | ⟨g,cap',cur,rfl,_⟩⟩:=hown'
 ·exact ⟨none,0,0,rfl⟩
 ·exact ⟨_,_,_,rfl⟩
theorem wf_int{z:Int}(h:(Lit.int .i64 z).wf=true): -9223372036854775808≤z∧z≤9223372036854775807:=by
 simp only [Lit.wf,Bool.and_eq_true,decide_eq_true_eq] at h;have h1:IntKind.i64.min= -9223372036854775808:=by decide
 have h2:IntKind.i64.max=9223372036854775807:=by decide
 omega
section
open Go.RowKit Go.ChangeShapes Go.WideShapes
section
variable {H:Type} {enc:TypeId×Value→H} {P:Program} {w:World}
theorem add_plain{b off j:Nat}:(⟨b,off,none⟩:Addr).add j=⟨b,off+j,none⟩:=by
 unfold Addr.add;split
 ·next h=>subst h;rfl
 ·rfl
/-- The address of a cell that can be read has no spot. -/
theorem plain_of_cell{a:Addr}{v:Value}(h:w.cell? (a.add 0)=some v):∃ b off,a=⟨b,off,none⟩:=by
 obtain ⟨b,off,sp⟩:=a;cases sp with
 | none=>exact ⟨b,off,rfl⟩
 | some s=>
  exfalso;simp only [Addr.add,if_true,World.cell?] at h;split at h <;> simp_all
end
end
section
open Go.RowKit Go.ChangeShapes Go.WideShapes
def nb:BS:=fun _=>False
theorem am_law{P:Program}{f:FuncId}{args:List DV}(h:ACall P f args (.d (.one (.v (.bool true))))){w:World}{vs:List Value}(hvs:DsR nb w args vs):Calls P f vs.toArray w fun e w'=>e= .returned (.bool true)∧Below w.heap.size w w':=
 (h.go nb w vs (fun _ h=>h.elim) hvs).mono fun e w' ⟨v,he,hb,hv⟩=>⟨by have h1:v= .bool true:=(show LfR nb w' (.v (.bool true)) v from hv).1;rw [he,h1],hb⟩
section
variable {H:Type} {enc:TypeId×Value→H} {P:Program} {w:World}
theorem slice_cells{a:Option Addr}{n c:Nat}:(Value.slice a n c).cells.toList= [.slice a n c]:=by simp [Value.cells]
end
end
section
open Go.RowKit Go.ChangeShapes Go.WideShapes
end
/-
 RATIONALS of the program, by the machine (3).
-/
theorem aTMid{a b:List Lf}{K L M:Nat}{n d m e:Int}(ha:IsT a K n d)(hb:IsT b L m e)(hM:(max K 2+1)+(max L 2+1)+4≤M:=by decide)(hMM:M≤100000000:=by decide):ACall Tryz.prog 139 [.agg a,.agg b] (.d (.agg (tn M (((mkR n d)+(mkR m e)) / 2)))):=by
 obtain ⟨s0,xs0,t0,ys0,ha,e0,k0⟩:=ha;obtain ⟨s1,xs1,t1,ys1,hb,e1,k1⟩:=hb;exact ACall.le (dl (DV.g ha) (dl (DV.g hb) dl0)) AV.le.rfl<|aN 22 [.cell 4 38] Tryz.func139 rfl<|cR<|mO rfl<|mO rfl<|mO rfl<|mT<|cR<|mv2 rfl rfl<|mY (aTCross (⟨s0,xs0,t0,ys0,fun _ _ _ h=>h,e0,k0⟩:IsT ([.v (.bool s0),lr K xs0] ++ [.v (.bool t0),lr K ys0]) K n d) (⟨s1,xs1,t1,ys1,fun _ _ _ h=>h,e1,k1⟩:IsT ([.v (.bool s1),lr L xs1] ++ [.v (.bool t1),lr L ys1]) L m e) (M:=((max K 2+1)+(max L 2+1)))) rfl<|mv4 rfl rfl rfl rfl<|mO rfl<|mO rfl<|mO rfl<|mZ rfl<|mZ rfl<|mZ rfl<|mT<|cSeq<|cDk 7<|oV rfl<|oV rfl<|oC (aAdd (isz ((max K 2+1)+(max L 2+1)) (Rat.num (mkR n d)*(Rat.den (mkR m e):Int))) (isz ((max K 2+1)+(max L 2+1)) (Rat.num (mkR m e)*(Rat.den (mkR n d):Int))) (M:=(max ((max K 2+1)+(max L 2+1)) ((max K 2+1)+(max L 2+1))+1))) rfl<|oV rfl<|oC aOf rfl<|oC (aMul (isz ((max K 2+1)+(max L 2+1)) ((Rat.den (mkR n d):Int)*(Rat.den (mkR m e):Int))) (isz 2 2) (M:=(((max K 2+1)+(max L 2+1))+2))) rfl<|oC (aTLow (isz (max ((max K 2+1)+(max L 2+1)) ((max K 2+1)+(max L 2+1))+1) ((Rat.num (mkR n d)*(Rat.den (mkR m e):Int))+(Rat.num (mkR m e)*(Rat.den (mkR n d):Int)))) (isz (((max K 2+1)+(max L 2+1))+2) (((Rat.den (mkR n d):Int)*(Rat.den (mkR m e):Int))*2)) (Int.mul_ne_zero (mkR_nz (mkR n d) (mkR m e)) (by decide)) (M:=(max (max (max ((max K 2+1)+(max L 2+1)) ((max K 2+1)+(max L 2+1))+1) (((max K 2+1)+(max L 2+1))+2)) 1+1))) rfl<|.nil<|mZ rfl<|mT<|cRet<|rQ rfl (le_tn (by omega) (mid_div (mkR n d) (mkR m e)))
theorem aRHalf{a b:List Lf}{K L M:Nat}{x y:Rat}(ha:IsQ a K x)(hb:IsQ b L y)(hM:max K 64+L+200≤M:=by first|decide|omega)(hMM:M≤1000000:=by first|decide|omega):ACall Tryz.prog 83 [.agg a,.agg b] (.d (.agg (qn M ((x+y) / 2)))):=by
 exact ACall.le (dl (DV.g ha) (dl (DV.g hb) dl0)) AV.le.rfl<|aN 10 [.cell 4 49] Tryz.func83 rfl<|cR<|mO rfl<|mO rfl<|mO rfl<|mT<|cR<|mv2 rfl rfl<|mY (aRAddR (isq K x) (isq L y) (M:=(max (K+L+1) 64))) rfl<|mY aROfR rfl<|mY (aRMulR (isq (max (K+L+1) 64) (x+y)) (isq 64 (mkR 1 2)) (M:=(max ((max (K+L+1) 64)+64+1) 64))) rfl<|mZ rfl<|mT<|cRet<|rQ rfl (le_qn (by omega) (half_mul x y))
theorem app_el0{e:TypeId}{N m n sz:Nat}{el el2:Nat→Nat→Lf}(h0:m=0)(hN:N=m+n):AO.le (.row e sz (m+n) (appEl m el el2)) (.row e sz N el2):=by
 subst h0;subst hN;exact leo_row fun i hi j hj B w v hv=>hv
theorem nil_prow0{K:Nat}{c:Nat→Int}:AV.le (.d (.one (.v (.slice none 0 0)))) (.d (.one (prow K 0 c))):=le_one (by
 rintro B w v ⟨rfl,_⟩;exact ⟨none,0,rfl,Nat.le_refl _,fun _=>rfl,fun i hi=>absurd hi (Nat.not_lt_zero _)⟩)
theorem AO.le.trans{a b c:AO}(h:AO.le a b)(k:AO.le b c):AO.le a c:=fun B w0 w v hv=>k _ _ _ _ (h _ _ _ _ hv)
theorem AO.of_eq{a b:AO}(h:a=b):AO.le a b:=fun _ _ _ _ hv=>h▸hv
theorem aContent{K n:Nat}{c:Nat→Int}(hz:∀ i,n≤i→c i=0)(hn:n≤20:=by omega)(hK:K≤100000000:=by omega):ACall Tryz.prog 161 [.one (.row 1 1 (fun i' j'=>(([.row 2 n (zel K c)])[i'*1+j']?).getD (.v undef)))] (.d (.agg (zn K ((gcdN c n:Nat):Int)))):=by
 refine aN 18 [.cell 2 36] Tryz.func161 rfl<|cR<|mO rfl<|mT<|cR<|mW rfl<|mT<|cSeq<|cSeq<|AW.wk (wkNil 3 3 36 2 (fun _ _=> .v undef) rfl rfl)<|cReg<|mv3 rfl rfl rfl<|mT<|cBlock<|cLoop (ι:=Nat) (fun (i:Nat)=>⟨18,[(6,.d (.one (.row 1 1 (fun i' j'=>(([.row 2 n (zel K c)])[i'*1+j']?).getD (.v undef))))),(7,.d (.one (.v (.int .i64 1)))),(8,.d (.one (.v (.int .i64 ((i:Nat):Int))))),(2,.ptr 2 0),(3,.own 3)],[(2,.box 36 ([.v (.bool false),.v (.slice none 0 0)])),(3,.row 36 2 (i*n) (zel K c))]⟩) (fun (i:Nat)=>i≤1) (fun (i:Nat)=>1-i) 0 (Nat.zero_le _) (wk rfl ⟨hs rfl,hs rfl,hs rfl,hs rfl,hs rfl,trivial⟩ ⟨ho rfl,ho' rfl (AO.le.trans leo_row0 (AO.of_eq (by rw [Nat.zero_mul]))),trivial⟩ rfl) ?_;rintro i hI;have hi:i≤1:=hI;show AW _ _ _ ⟨_,_,_⟩
 refine cR<|mW rfl<|mT<|cSeq<|cCond rfl (fun hc1=>?_) (fun hc1=>?_)
 ·refine cSkip<|tN<|cSeq<|cBlock<|cSeq ?_;obtain rfl:i=0:=by have h0:=of_decide_eq_true hc1;omega
  exact cReg<|mv3 rfl rfl rfl<|mT<|cReg<|mv2 rfl rfl<|mA2 hTT (id:=3) (n:=(0*n)) (m:=n) (el:=(zel K c)) (el2:=(zel K c)) rfl rfl rfl (by show ((0*n)+n)*32≤140737488355328;omega) (by omega) rfl rfl rfl rfl rfl rfl rfl rfl rfl rfl rfl rfl<|mW rfl<|mNil<|bN<|tN<|cReg<|mv2 rfl rfl<|mNil<|⟨(0+1),by omega,by omega,wk rfl ⟨hs rfl,hs rfl,hs' rfl (le_int rfl),hs rfl,hs rfl,trivial⟩ ⟨ho rfl,ho' rfl (app_el0 (by omega) (by omega)),trivial⟩ rfl⟩
 ·refine cExit<|tE<|tE<|bE<|tN<|cSeq ?_;obtain rfl:i=1:=by have h0:=of_decide_eq_false hc1;omega
  exact AW.wk (wkRow 3 rfl)<|cView 3 (.d (.one (.row 2 n (zel K c)))) rfl (le_one (by rw [Nat.one_mul];exact fun _ _ _ h=>h))<|cReg<|mW rfl<|mY (aGcd (isp (K:=K) (c:=c) hz)) rfl<|mZ rfl<|mT<|cRet<|rQ rfl (AV.le.rfl)
theorem aOver{a:Lf}{b:List Lf}{K L M n:Nat}{c:Nat→Int}{y:Int}(ha:IsP a K n c)(hb:IsZ b L y)(hy:y≠0)(hd:∀ i,i < n→y∣c i)(hM:max K 1+1≤M:=by first|decide|omega)(hn:n≤1000:=by omega)(hMM:M≤100000000:=by first|decide|omega)(hL:L≤100000000:=by first|decide|omega):ACall Tryz.prog 160 [.one a,.agg b] (.d (.one (prow M (dg (fdv c y) n) (fdv c y)))):=by
 obtain ⟨⟨fa,ha,ea⟩,za⟩:=ha;obtain ⟨s,xs,hb,hy0⟩:=hb;refine ACall.le (dl (DV.l ha) (dl (DV.z hb) dl0)) AV.le.rfl<|aN 30 [.tmp 4] Tryz.func160 rfl<|cR<|mO rfl<|mW rfl<|mT<|cR<|mv2 rfl rfl<|mN hTT (.row 36 2 n (fun _ j=> .v ((([Value.bool false,Value.slice none 0 0]:List Value)[j]?).getD undef))) (mkO (zl:=(n:Int)) (zc:=(n:Int)) (bts:=32) rfl rfl rfl rfl rfl (by omega) (by omega) rfl rfl rfl (by omega) (by omega) rfl) rfl rfl<|mW rfl<|mT<|cSeq<|cR<|mv3 rfl rfl rfl<|mT<|cBlock<|cLoop (ι:=Nat) (fun (i:Nat)=>⟨30,[(3,.ptr 3 0),(11,.d (.one (.row 2 n (ael K fa)))),(12,.d (.one (.v (.int .i64 (n:Int))))),(13,.d (.one (.v (.int .i64 ((i:Nat):Int))))),(5,.own 10)],[(3,.box 36 ([.v (.bool s),lr L xs])),(10,.row 36 2 n (zel M (upd (fdv c y) i)))]⟩) (fun (i:Nat)=>i≤n) (fun (i:Nat)=>n-i) 0 (Nat.zero_le _) (wk rfl ⟨hs rfl,hs rfl,hs rfl,hs rfl,hs rfl,trivial⟩ ⟨ho rfl,ho' rfl (leo_zero (fun i _=>if_neg (Nat.not_lt_zero _))),trivial⟩ rfl) ?_;rintro i hI;have hi:i≤n:=hI;show AW _ _ _ ⟨_,_,_⟩
 refine cR<|mW rfl<|mT<|cSeq<|cCond rfl (fun hc1=>?_) (fun hc1=>?_)
 ·refine cSkip<|tN<|cSeq<|cBlock<|cSeq ?_;have hin:i < n:=by have h0:=of_decide_eq_true hc1;omega
  refine cReg<|mW rfl<|mV hTT (.d (.one (.at 2 ((ael K fa) i)))) (ixR (el:=(ael K fa)) (z:=((i:Nat):Int)) (n:=n) rfl rfl rfl rfl rfl rfl (by omega) (by omega)) ?_;exact mW rfl<|mO rfl<|mW rfl<|mZ rfl<|mT<|cReg<|mv4 rfl rfl rfl rfl<|mY (aExact ⟨_,_,fun _ _ _ h=>h,ea i (by omega)⟩ ⟨s,xs,fun _ _ _ h=>h,hy0⟩ hy (hd i hin) (M:=(max K 1+1)) (by omega) (by omega) (by omega)) rfl<|mv3 rfl rfl rfl<|mV hTT (.eptr 10 2 i 0) (ixO (z:=((i:Nat):Int)) (n:=n) rfl rfl rfl rfl rfl rfl rfl (by omega) (by omega))<|mZ rfl<|mNil<|bN<|tN<|cReg<|mv2 rfl rfl<|mNil<|⟨(i+1),by omega,by omega,wk rfl ⟨hs rfl,hs rfl,hs rfl,hs' rfl (le_int (inc64 (by omega))),hs rfl,trivial⟩ ⟨ho rfl,ho' rfl (st_z (Nat.le_refl _) (by omega) (upd_self (c:=fdv c y)) (fun p _ hp=>upd_ne hp)),trivial⟩ rfl⟩
 ·refine cExit<|tE<|tE<|bE<|tN<|cSeq ?_;have hie:n=i:=by have h0:=of_decide_eq_false hc1;omega
  subst hie;exact AW.wk (wkRow 10 rfl)<|cView 5 (.d (.one (.row 2 n (zel M (fdv c y))))) rfl (le_one (prow_le (Nat.le_refl _) (fun i hi=>if_pos hi)))<|cReg<|mW rfl<|mY (aPNorm (isp (K:=M) (c:=(fdv c y)) (fdv_z za))) rfl<|mW rfl<|mT<|cRet<|rQ rfl (AV.le.rfl)
theorem aPrim0{a:Lf}{K n:Nat}{c:Nat→Int}(ha:IsP a K n c)(zc:z20 c)(hn:n≤20)(h0:lg c=0)(hK:K≤90000000):ACall Tryz.prog 156 [.one a] (.tup [.agg (zn 0 0),.one (prow 0 0 (fun _=>0))]):=by
 obtain ⟨⟨fa,ha,ea⟩,za⟩:=ha;refine ACall.le (dl (DV.l ha) dl0) AV.le.rfl ?_;have hl:=lg_dg za zc;exact aN 23 [.cell 2 36,.tmp 3] Tryz.func156 rfl<|cR<|mO rfl<|mW rfl<|mT<|cR<|mW rfl<|mY (aPNorm (⟨⟨fa,fun _ _ _ h=>h,ea⟩,za⟩:IsP (arow K n fa) K n c)) rfl<|mW rfl<|mT<|cSeq<|cR<|mv2 rfl rfl<|mbT rfl (by rw [hl,h0];rfl)<|mT<|cT rfl<|cR<|mW rfl<|mZ rfl<|mW rfl<|mT<|cRet<|tR<|rQ rfl (le_tup (dl (DV.g fun _ _ _ h=>nil_ls h) (dl (fun B w v h=>nil_prow0 (fun _=>none) B w v h) dl0)))
theorem aPrim{a:Lf}{K n:Nat}{c:Nat→Int}(ha:IsP a K n c)(zc:z20 c)(hn:n≤20)(h0:lg c≠0)(hK:K≤90000000):ACall Tryz.prog 156 [.one a] (.tup [.agg (zn K (conS c (lg c))),.one (prow (max K 1+1) (lg c) (prm c (lg c)))]):=by
 obtain ⟨⟨fa,ha,ea⟩,za⟩:=ha;refine ACall.le (dl (DV.l ha) dl0) AV.le.rfl ?_;have hl:=lg_dg za zc;refine aN 23 [.cell 2 36,.tmp 3] Tryz.func156 rfl<|cR<|mO rfl<|mW rfl<|mT<|cR<|mW rfl<|mY (aPNorm (⟨⟨fa,fun _ _ _ h=>h,ea⟩,za⟩:IsP (arow K n fa) K n c)) rfl<|mW rfl<|mT<|cSeq<|cR<|mv2 rfl rfl<|mbF rfl (beq_eq_false_iff_ne.2 fun e=>h0 (by omega))<|mT<|cFs rfl<|cSeq ?_;have hip:=zc.ip;have hgp:=hip.gcd_pos h0;have hln:=lg_le c;have hdd:dg c (lg c)=lg c:=lg_dg zc.lg zc;refine cView 0 (.d (.one (.row 2 (lg c) (zel K c)))) rfl (le_prow (Nat.le_refl _) hl (fun _ _=>rfl))<|cReg<|mW rfl<|mB hTT (.d (.one (.row 1 1 (fun i' j'=>(([.row 2 (lg c) (zel K c)])[i'*1+j']?).getD (.v undef))))) rfl<|mY (aContent (z20.lg zc)) rfl<|mO rfl<|mZ rfl<|mT<|cSeq<|cR<|mW rfl<|mY (aPLead (isp (K:=K) (c:=c) (z20.lg zc))) rfl<|mW rfl<|mT<|cCond rfl (fun hneg=>?_) (fun hneg=>?_)
 ·have hcs:conS c (lg c)= -((gcdN c (lg c):Nat):Int):=by have h1:=of_decide_eq_true hneg;rw [hdd] at h1;exact if_pos h1
  exact cReg<|mW rfl<|mY (aNeg (isz K ((gcdN c (lg c):Nat):Int))) rfl<|mZ rfl<|mT<|cSeq<|wB [18,17,16,15,14,4,13,12,11,9,8,7,6,5,3,2,0] [2] 4 (.box 36 (zn K (conS c (lg c)))) rfl rfl (leo_zn (Nat.le_refl _) hcs.symm) rfl<|cDk 4<|oV rfl<|.cons (OpS.V _ rfl)<|oV rfl<|oC (aOver (isp (K:=K) (c:=c) (z20.lg zc)) (isz K (conS c (lg c))) (hip.conS_ne h0) (fun i hi=>conS_dv hi) (M:=(max K 1+1))) rfl<|.nil<|mZ rfl<|mW rfl<|mT<|cRet<|rQ rfl (le_tup (dl DV.same (dl (dle (le_prow (Nat.le_refl _) (dg_stop (Or.inr (hip.prm.l h0))) (fun _ _=>rfl))) dl0)))
 ·have hcs:conS c (lg c)=((gcdN c (lg c):Nat):Int):=by have h1:=of_decide_eq_false hneg;rw [hdd] at h1;exact if_neg h1
  exact cSkip<|tN<|cSeq<|wB [16,15,14,4,13,12,11,9,8,7,6,5,3,2,0] [2] 4 (.box 36 (zn K (conS c (lg c)))) rfl rfl (leo_zn (Nat.le_refl _) hcs.symm) rfl<|cDk 4<|oV rfl<|.cons (OpS.V _ rfl)<|oV rfl<|oC (aOver (isp (K:=K) (c:=c) (z20.lg zc)) (isz K (conS c (lg c))) (hip.conS_ne h0) (fun i hi=>conS_dv hi) (M:=(max K 1+1))) rfl<|.nil<|mZ rfl<|mW rfl<|mT<|cRet<|rQ rfl (le_tup (dl DV.same (dl (dle (le_prow (Nat.le_refl _) (dg_stop (Or.inr (hip.prm.l h0))) (fun _ _=>rfl))) dl0)))
theorem le_prow20{K KC n:Nat}{c:Nat→Int}(hn:n=lg c)(hb:Lb KC c):AV.le (.d (.one (prow K n c))) (.d (.one (prow KC (lg c) c))):=by subst hn;exact le_prow_t hb
theorem leo_nilK{t:TypeId}{K:Nat}{z:Int}(h:0=z):AO.le (.box t [.v (.bool false),.v (.slice none 0 0)]) (.box t (zn K z)):=by
 subst h;exact leo_box fun B w cs h=>zn_mono (Nat.zero_le K) B w cs (nil_ls h)
theorem nil_prow20{K:Nat}{c:Nat→Int}(h:lg c=0):AV.le (.d (.one (.v (.slice none 0 0)))) (.d (.one (prow K (lg c) c))):=by rw [h];exact nil_prow0
theorem lg_nil:lg (fun _=>0)=0:=dg_zero (fun _=>rfl) 20
theorem dex{α:Type}{Q:α→Prop}{L:α→Lf}{l:Lf}(x:α)(hq:Q x)(h:AV.le (.d (.one l)) (.d (.one (L x)))):∀ B w v,DR B w (.one l) v→DR B w (.one (exL Q L)) v:=fun B w v hl=>⟨x,hq,h (fun _=>none) B w v hl⟩
theorem szd20{u:Nat→Int}(z:z20 u):fdv u ((gcdN u (lg u):Nat):Int)=szd u 20:=by
 unfold szd;rw [gcdN_eq z.lg z]
theorem tmod2(k:Nat):((k:Int)).tmod 2=((k%2:Nat):Int):=by
 rw [Int.tmod_eq_emod_of_nonneg (by omega)];omega
theorem aPseudo{a b:Lf}{K L KC n m k:Nat}{c d:Nat→Int}(ha:IsP a K n c)(hb:IsP b L m d)(zc:z20 c)(zd:z20 d)(hk:k=lg c+1-lg d)(hn:n≤20)(hm:m≤20)(hc19:lg c≤19)(h0:lg d≠0)(hKC:K+k*(L+1)≤KC)(hLC:L≤KC)(hC:KC≤90000000):ACall Tryz.prog 157 [.one a,.one b] (.tup [.one (exL (fun _=>True) (fun q=>prow KC (lg q) q)),.one (exL (fun r=>∃ q,PsI c d (lg d) K L k 0 r q) (fun r=>prow KC (lg r) r)),.one (.v (.int .i64 (k:Int))),.one (.v (.int .i64 0))]):=by
 obtain ⟨⟨fa,ha,ea⟩,za⟩:=ha;obtain ⟨⟨fb,hb,eb⟩,zb⟩:=hb;refine ACall.le (dl (DV.l ha) (dl (DV.l hb) dl0)) AV.le.rfl<|aN 65 [.tmp 4,.tmp 5,.tmp 6,.tmp 7] Tryz.func157 rfl<|cR<|mv4 rfl rfl rfl rfl<|mT<|cR<|mW rfl<|mY (aPNorm (⟨⟨fa,fun _ _ _ h=>h,ea⟩,za⟩:IsP (arow K n fa) K n c)) rfl<|mW rfl<|mY (aPNorm (⟨⟨fb,fun _ _ _ h=>h,eb⟩,zb⟩:IsP (arow L m fb) L m d)) rfl<|mv2 rfl rfl<|mT<|cSeq<|cSeq<|cView 5 (.d (.one (.row 2 (lg c) (zel K c)))) rfl (le_prow (Nat.le_refl _) (lg_dg za zc) (fun _ _=>rfl))<|cView 1 (.d (.one (.row 2 (lg d) (zel L d)))) rfl (le_prow (Nat.le_refl _) (lg_dg zb zd) (fun _ _=>rfl))<|AW.fact (f_prow 5 rfl zc.lg) (fun hbc=>?_);refine AW.fact (f_prow 1 rfl zd.lg) (fun hbd=>?_);have hlc:=lg_le c;have hld:=lg_le d;have hdd:dg d (lg d)=lg d:=lg_dg zd.lg zd;refine cReg<|mv2 rfl rfl<|mbF rfl (beq_eq_false_iff_ne.2 fun e=>h0 (by omega))<|mT<|cFs rfl<|cR<|mW rfl<|mY (aPLead (isp (K:=L) (c:=d) (z20.lg zd))) rfl<|mO rfl<|mZ rfl<|mT<|cSeq<|wB [8,20,19,18,17,16,15,14,13,12,7,6,5,4,1,0] [] 8 (.box 36 (zn L (d (lg d-1)))) rfl rfl (leo_zn (Nat.le_refl _) (by rw [hdd])) rfl<|cReg<|mW rfl<|mY aDeg rfl<|mW rfl<|mY aDeg rfl<|mV hTT (.d (.one (.v (.int .i64 ((lg c:Int)-1-((lg d:Int)-1)))))) (evi (wr64 (by omega) (by omega)))<|mV hTT (.d (.one (.v (.int .i64 ((lg c:Int)-1-((lg d:Int)-1)+1))))) (evi (wr64 (by omega) (by omega))) ?_;refine mV hTT (.d (.one (.v (.int .i64 (k:Int))))) (evi (by rw [if_pos rfl];split <;> omega)) ?_;refine mW rfl<|mT<|cSeq<|cR<|mW rfl<|mV hTT (.d (.one (.v (.int .i64 ((k:Int)-1))))) (evi (wr64 (by omega) (by omega)))<|mW rfl<|mT<|cBlock<|cLoop (ι:=Nat×Nat×(Nat→Int)×(Nat→Int)) (fun (p:Nat×Nat×(Nat→Int)×(Nat→Int))=>match p with | (j,u,r,q)=>⟨65,[(4,.d (.one (.row 2 (lg q) (zel KC q)))),(5,.d (.one (.row 2 (lg r) (zel KC r)))),(1,.d (.one (.row 2 (lg d) (zel L d)))),(6,.d (.one (.v (.int .i64 (k:Int))))),(8,.ptr 8 0),(9,.d (.one (.v (.int .i64 (((j:Nat):Int)-1)))))],[(8,.box 36 (zn L (d (lg d-1))))]⟩) (fun (p:Nat×Nat×(Nat→Int)×(Nat→Int))=>match p with | (j,u,r,q)=>u+j=k∧PsI c d (lg d) K L u j r q) (fun (p:Nat×Nat×(Nat→Int)×(Nat→Int))=>match p with | (j,u,r,q)=>j) (k,0,c,(fun _=>0)) (⟨by omega,PsI.start zc hbc (fun t ht=>zc.lg t (by omega))⟩) (wk rfl ⟨hs' rfl (nil_prow20 lg_nil),hs' rfl (le_prow20 rfl (hbc.mono (by omega))),hs rfl,hs rfl,hs rfl,hs rfl,trivial⟩ ⟨ho rfl,trivial⟩ rfl) ?_;rintro ⟨j,u,r,q⟩ hI;obtain ⟨huj,hI⟩:u+j=k∧PsI c d (lg d) K L u j r q:=hI;show AW _ _ _ ⟨_,_,_⟩
 refine cSeq<|cSeq ?_
 by_cases hj0:j=0
 ·subst hj0;refine cReg<|mW rfl<|mdF rfl (by omega)<|mT<|cF rfl<|cExit<|tE<|tE<|bE<|tN<|cSeq ?_;obtain rfl:u=k:=by omega
  exact cReg<|mv6 rfl rfl rfl rfl rfl rfl<|mW rfl<|mT<|cRet<|rQ rfl (le_tup (dl (dex q trivial AV.le.rfl) (dl (dex r ⟨q,hI⟩ AV.le.rfl) (dl DV.same (dl DV.same dl0)))))
 ·obtain ⟨i,rfl⟩:∃ i,j=i+1:=⟨j-1,by omega⟩
  have hik:i < k:=by omega
  have hlr:=lg_le r;have hlq:=lg_le q;have hrd:dg r (lg r)=lg r:=lg_dg hI.zr.lg hI.zr;have hrz:lg r≤lg d+i:=lg_of_z hI.zr fun t ht=>hI.z t (by omega)
  have hN:=hI.step h0 zd.lg zd hbd (by omega) (x:=r (lg d-1+i)) rfl;have hmul:=Nat.mul_le_mul_right (L+1) (show u+1≤k by omega);have e1:=dg_le (fscl q (d (lg d-1))) (lg q);have e2:=dg_le (fscl r (d (lg d-1))) (lg r);have e3:=dg_le (conv (mnm (r (lg d-1+i)) i) d) (i+1+lg d);refine cView 9 (.d (.one (.v (.int .i64 ((i:Nat):Int))))) rfl (le_int (by omega))<|cReg<|mW rfl<|mdT rfl (by omega)<|mT<|cT rfl<|cSkip<|tN<|cSeq<|cBlock<|cR<|mO rfl<|mT<|cSeq<|cSeq ?_
  by_cases heq:lg r=lg d+i
  ·refine cReg<|mW rfl<|mY aDeg rfl<|mW rfl<|mY aDeg rfl<|mW rfl<|mV hTT (.d (.one (.v (.int .i64 ((lg d:Int)-1+(i:Int)))))) (evi (wr64 (by omega) (by omega)))<|mbT rfl (beq_iff_eq.2 (by omega))<|mT<|cT rfl<|cReg<|mW rfl<|mY (aPLead (isp (K:=KC) (c:=r) (z20.lg hI.zr))) rfl<|mZ rfl<|mT<|cSeq<|wB [42,41,40,39,38,37,36,35,34,10,31,30,9,8,6,1,5,4] [8] 10 (.box 36 (zn KC (r (lg d-1+i)))) rfl rfl (leo_zn (Nat.le_refl _) (by rw [hrd,heq,show lg d+i-1=lg d-1+i by omega])) rfl<|cReg<|mW rfl<|mV hTT (.d (.one (.v (.int .i64 ((i+1:Nat):Int))))) (evi (inc64 (by omega)))<|mN hTT (.row 36 2 (i+1) (fun _ j=> .v ((([Value.bool false,Value.slice none 0 0]:List Value)[j]?).getD undef))) (mkO (zl:=((i+1:Nat):Int)) (zc:=((i+1:Nat):Int)) (bts:=32) rfl rfl rfl rfl rfl (by omega) (by omega) rfl rfl rfl (by omega) (by omega) rfl) rfl rfl<|mW rfl<|mT<|cSeq<|wB [11,45,44,43,42,41,40,39,38,37,36,35,34,10,31,30,9,8,6,1,5,4] [10,8] 45 (.row 36 2 (i+1) (zel KC (fun _=>0))) rfl rfl (leo_zero (fun _ _=>rfl)) rfl<|cReg<|mv3 rfl rfl rfl<|mV hTT (.eptr 45 2 i 0) (ixO (z:=((i:Nat):Int)) (n:=(i+1)) rfl rfl rfl rfl rfl rfl rfl (by omega) (by omega))<|mZ rfl<|mT<|cSeq<|wB [49,48,47,46,11,45,44,43,42,41,40,39,38,37,36,35,34,10,31,30,9,8,6,1,5,4] [10,8] 45 (.row 36 2 (i+1) (zel KC (mnm (r (lg d-1+i)) i))) rfl rfl (st_z (Nat.le_refl _) (Nat.le_refl _) (if_pos rfl).symm (fun p _ hp=>(if_neg hp).symm)) rfl<|AW.wk (wkRow 45 rfl)<|cView 11 (.d (.one (.row 2 (i+1) (zel KC (mnm (r (lg d-1+i)) i))))) rfl (AV.le.rfl)<|cReg<|mv2 rfl rfl<|mY (aPScale (isp (K:=KC) (c:=q) (z20.lg hI.zq)) (isz L (d (lg d-1))) (M:=(KC+L))) rfl<|mW rfl<|mY (aPAdd (isp (K:=(KC+L)) (c:=(fscl q (d (lg d-1)))) (dg_z (fscl_z (z20.lg hI.zq)))) (isp (K:=KC) (c:=(mnm (r (lg d-1+i)) i)) mnm_z) (M:=(max (KC+L) KC+1))) rfl<|mW rfl<|mT<|cReg<|mv2 rfl rfl<|mY (aPScale (isp (K:=KC) (c:=r) (z20.lg hI.zr)) (isz L (d (lg d-1))) (M:=(KC+L))) rfl<|mv2 rfl rfl<|mY (aPMul (isp (K:=KC) (c:=(mnm (r (lg d-1+i)) i)) mnm_z) (isp (K:=L) (c:=d) (z20.lg zd)) (M:=(KC+L+20001)) (D:=20)) rfl<|mY (aPSub (isp (K:=(KC+L)) (c:=(fscl r (d (lg d-1)))) (dg_z (fscl_z (z20.lg hI.zr)))) (isp (K:=(KC+L+20001)) (c:=(conv (mnm (r (lg d-1+i)) i) d)) (dg_z (conv_z0 mnm_z (z20.lg zd)))) (M:=(max (KC+L) (KC+L+20001)+1))) rfl ?_;refine mW rfl<|mNil<|bN<|tN ?_;have hdl:=hN.br.mono (Nat.le_trans (Nat.add_le_add_left hmul K) hKC);have hdq:=hN.bq.mono (Nat.le_trans (Nat.add_le_add_left hmul K) hKC);exact cView 4 (.d (.one (.row 2 (lg (fadd (fscl q (d (lg d-1))) (mnm (r (lg d-1+i)) i))) (zel KC (fadd (fscl q (d (lg d-1))) (mnm (r (lg d-1+i)) i)))))) rfl (le_prow20 (lg_dg (fadd_z (dg_z (fscl_z (z20.lg hI.zq))) mnm_z) hN.zq) hdq)<|cView 5 (.d (.one (.row 2 (lg (fsub (fscl r (d (lg d-1))) (conv (mnm (r (lg d-1+i)) i) d))) (zel KC (fsub (fscl r (d (lg d-1))) (conv (mnm (r (lg d-1+i)) i) d)))))) rfl (le_prow20 (lg_dg (fsub_z (dg_z (fscl_z (z20.lg hI.zr))) (dg_z (conv_z0 mnm_z (z20.lg zd)))) hN.zr) hdl)<|cReg<|mW rfl<|mV hTT (.d (.one (.v (.int .i64 ((i:Int)-1))))) (evi (wr64 (by omega) (by omega)))<|mW rfl<|mNil<|⟨(i,(u+1),(fsub (fscl r (d (lg d-1))) (conv (mnm (r (lg d-1+i)) i) d)),(fadd (fscl q (d (lg d-1))) (mnm (r (lg d-1+i)) i))),⟨by omega,hN⟩,Nat.lt_succ_self i,wkr rfl rfl⟩
  ·refine cReg<|mW rfl<|mY aDeg rfl<|mW rfl<|mY aDeg rfl<|mW rfl<|mV hTT (.d (.one (.v (.int .i64 ((lg d:Int)-1+(i:Int)))))) (evi (wr64 (by omega) (by omega)))<|mbF rfl (beq_eq_false_iff_ne.2 (by omega))<|mT<|cFs rfl<|cSeq<|wB [40,39,38,37,36,35,34,10,31,30,9,8,6,1,5,4] [8] 10 (.box 36 (zn KC (r (lg d-1+i)))) rfl rfl (leo_nilK (hI.zr.lg _ (by omega)).symm) rfl<|cReg<|mW rfl<|mV hTT (.d (.one (.v (.int .i64 ((i+1:Nat):Int))))) (evi (inc64 (by omega)))<|mN hTT (.row 36 2 (i+1) (fun _ j=> .v ((([Value.bool false,Value.slice none 0 0]:List Value)[j]?).getD undef))) (mkO (zl:=((i+1:Nat):Int)) (zc:=((i+1:Nat):Int)) (bts:=32) rfl rfl rfl rfl rfl (by omega) (by omega) rfl rfl rfl (by omega) (by omega) rfl) rfl rfl<|mW rfl<|mT<|cSeq<|wB [11,45,44,43,40,39,38,37,36,35,34,10,31,30,9,8,6,1,5,4] [10,8] 45 (.row 36 2 (i+1) (zel KC (fun _=>0))) rfl rfl (leo_zero (fun _ _=>rfl)) rfl<|cReg<|mv3 rfl rfl rfl<|mV hTT (.eptr 45 2 i 0) (ixO (z:=((i:Nat):Int)) (n:=(i+1)) rfl rfl rfl rfl rfl rfl rfl (by omega) (by omega))<|mZ rfl<|mT<|cSeq<|wB [49,48,47,46,11,45,44,43,40,39,38,37,36,35,34,10,31,30,9,8,6,1,5,4] [10,8] 45 (.row 36 2 (i+1) (zel KC (mnm (r (lg d-1+i)) i))) rfl rfl (st_z (Nat.le_refl _) (Nat.le_refl _) (if_pos rfl).symm (fun p _ hp=>(if_neg hp).symm)) rfl<|AW.wk (wkRow 45 rfl)<|cView 11 (.d (.one (.row 2 (i+1) (zel KC (mnm (r (lg d-1+i)) i))))) rfl (AV.le.rfl)<|cReg<|mv2 rfl rfl<|mY (aPScale (isp (K:=KC) (c:=q) (z20.lg hI.zq)) (isz L (d (lg d-1))) (M:=(KC+L))) rfl<|mW rfl<|mY (aPAdd (isp (K:=(KC+L)) (c:=(fscl q (d (lg d-1)))) (dg_z (fscl_z (z20.lg hI.zq)))) (isp (K:=KC) (c:=(mnm (r (lg d-1+i)) i)) mnm_z) (M:=(max (KC+L) KC+1))) rfl<|mW rfl<|mT<|cReg<|mv2 rfl rfl<|mY (aPScale (isp (K:=KC) (c:=r) (z20.lg hI.zr)) (isz L (d (lg d-1))) (M:=(KC+L))) rfl<|mv2 rfl rfl<|mY (aPMul (isp (K:=KC) (c:=(mnm (r (lg d-1+i)) i)) mnm_z) (isp (K:=L) (c:=d) (z20.lg zd)) (M:=(KC+L+20001)) (D:=20)) rfl<|mY (aPSub (isp (K:=(KC+L)) (c:=(fscl r (d (lg d-1)))) (dg_z (fscl_z (z20.lg hI.zr)))) (isp (K:=(KC+L+20001)) (c:=(conv (mnm (r (lg d-1+i)) i) d)) (dg_z (conv_z0 mnm_z (z20.lg zd)))) (M:=(max (KC+L) (KC+L+20001)+1))) rfl<|mW rfl<|mNil<|bN<|tN ?_;have hdl:=hN.br.mono (Nat.le_trans (Nat.add_le_add_left hmul K) hKC);have hdq:=hN.bq.mono (Nat.le_trans (Nat.add_le_add_left hmul K) hKC);exact cView 4 (.d (.one (.row 2 (lg (fadd (fscl q (d (lg d-1))) (mnm (r (lg d-1+i)) i))) (zel KC (fadd (fscl q (d (lg d-1))) (mnm (r (lg d-1+i)) i)))))) rfl (le_prow20 (lg_dg (fadd_z (dg_z (fscl_z (z20.lg hI.zq))) mnm_z) hN.zq) hdq)<|cView 5 (.d (.one (.row 2 (lg (fsub (fscl r (d (lg d-1))) (conv (mnm (r (lg d-1+i)) i) d))) (zel KC (fsub (fscl r (d (lg d-1))) (conv (mnm (r (lg d-1+i)) i) d)))))) rfl (le_prow20 (lg_dg (fsub_z (dg_z (fscl_z (z20.lg hI.zr))) (dg_z (conv_z0 mnm_z (z20.lg zd)))) hN.zr) hdl)<|cReg<|mW rfl<|mV hTT (.d (.one (.v (.int .i64 ((i:Int)-1))))) (evi (wr64 (by omega) (by omega)))<|mW rfl<|mNil<|⟨(i,(u+1),(fsub (fscl r (d (lg d-1))) (conv (mnm (r (lg d-1+i)) i) d)),(fadd (fscl q (d (lg d-1))) (mnm (r (lg d-1+i)) i))),⟨by omega,hN⟩,Nat.lt_succ_self i,wkr rfl rfl⟩
theorem aRest{a b:Lf}{K L KC n m:Nat}{c d:Nat→Int}(ha:IsP a K n c)(hb:IsP b L m d)(zc:z20 c)(zd:z20 d)(hn:n≤20)(hm:m≤20)(hc19:lg c≤19)(h0:lg d≠0)(hKC:K+(lg c+1-lg d)*(L+1)≤KC)(hLC:L≤KC)(hC:KC≤90000000):ACall Tryz.prog 135 [.one a,.one b] (.tup [.one (exL (RestP c d KC) (fun R=>prow KC (lg R) R)),.one (.v (.int .i64 0))]):=by
 obtain ⟨⟨fa,ha,ea⟩,za⟩:=ha;obtain ⟨⟨fb,hb,eb⟩,zb⟩:=hb;have ha':IsP (arow K n fa) K n c:=⟨⟨fa,fun _ _ _ h=>h,ea⟩,za⟩;have hb':IsP (arow L m fb) L m d:=⟨⟨fb,fun _ _ _ h=>h,eb⟩,zb⟩;refine ACall.le (dl (DV.l ha) (dl (DV.l hb) dl0)) AV.le.rfl ?_;obtain ⟨k,hk⟩:∃ k,k=lg c+1-lg d:=⟨_,rfl⟩
 have hlc:=lg_le c;have hld:=lg_le d;have hdd:dg d m=lg d:=lg_dg zb zd;have hKk:K+k*(L+1)≤KC:=by rw [hk];exact hKC
 refine aN 39 [.tmp 4,.tmp 5] Tryz.func135 rfl<|cR<|mv2 rfl rfl<|mT<|cR<|mv2 rfl rfl<|mY (aPseudo (KC:=KC) ha' hb' zc zd hk hn hm hc19 h0 hKk hLC hC) rfl<|mv6 rfl rfl rfl rfl rfl rfl<|mv3 rfl rfl rfl<|mT<|cSeq<|cR<|mv2 rfl rfl<|mT<|cFs rfl<|cSeq<|cSeq<|wK [8,7,1,0] [] rfl rfl<|cEx (Qx:=(fun r=>∃ q,PsI c d (lg d) K L k 0 r q)) (L:=(fun r=>prow KC (lg r) r)) 7 rfl (fun r hr=>?_);obtain ⟨q,hI⟩:=hr;have hlr:=lg_le r;have hbr:=hI.br.mono hKk
 by_cases hk1:k%2=1
 ·by_cases hl1:d (lg d-1) < 0
  ·refine cReg<|mW rfl<|mV hTT (.d (.one (.v (.int .i64 ((k%2:Nat):Int))))) (evi (tmod2 k))<|mbT rfl (beq_iff_eq.2 (by omega))<|mv2 rfl rfl<|mY (aPLead (⟨⟨fb,fun _ _ _ h=>h,eb⟩,zb⟩:IsP (arow L m fb) L m d)) rfl<|mW rfl<|mView 27 (.d (.one (.v (.bool true)))) rfl (le_bool (decide_eq_true (by rw [hdd];exact hl1)))<|mW rfl<|mT<|cT rfl<|cReg<|mW rfl<|mY (aPNeg (isp (K:=KC) (c:=r) (z20.lg hI.zr))) rfl<|mW rfl<|mT<|cSeq<|cSeq ?_;have zu:=z20_neg hI.zr;have hbu:=hbr.neg;refine cView 7 (.d (.one (.row 2 (lg (fneg r)) (zel KC (fneg r))))) rfl (le_prow20 (lg_dg (fneg_z (z20.lg hI.zr)) zu) hbu) ?_;have hRP:RestP c d KC (szd (fneg r) 20):=rest_of hI zd rfl h0 hKk (Or.inl ⟨hk1,hl1,fun _=>rfl⟩);have hlu:=lg_le (fneg r)
   by_cases hu0:lg (fneg r)=0
   ·refine cReg<|mv2 rfl rfl<|mbT rfl (by rw [hu0];rfl)<|mT<|cT rfl<|cR<|mv2 rfl rfl<|mT<|cRet<|tR ?_;have hz0:lg (szd (fneg r) 20)=0:=(lg_zero hRP.z).2 fun i=>by unfold szd fdv;rw [(lg_zero zu).1 hu0 i];exact Int.zero_ediv _
    exact rQ rfl (le_tup (dl (dex (szd (fneg r) 20) hRP (nil_prow20 hz0)) (dl DV.same dl0)))
   ·refine cReg<|mv2 rfl rfl<|mbF rfl (beq_eq_false_iff_ne.2 fun e=>hu0 (by omega))<|mT<|cFs rfl<|cSeq ?_;have hgp:=zu.ip.gcd_pos hu0;have e2:=dg_le (fdv (fneg r) ((gcdN (fneg r) (lg (fneg r)):Nat):Int)) (lg (fneg r));refine cReg<|mv2 rfl rfl<|mB hTT (.d (.one (.row 1 1 (fun i' j'=>(([.row 2 (lg (fneg r)) (zel KC (fneg r))])[i'*1+j']?).getD (.v undef))))) rfl<|mY (aContent (z20.lg zu)) rfl<|mY (aOver (isp (K:=KC) (c:=(fneg r)) (z20.lg zu)) (isz KC ((gcdN (fneg r) (lg (fneg r)):Nat):Int)) (by omega) (fun i hi=>gcd_dvI hi) (M:=(max KC 1+1))) rfl<|mv2 rfl rfl<|mT<|cRet ?_;have hfd:=szd20 zu;exact rQ rfl (le_tup (dl (dex (szd (fneg r) 20) hRP (by rw [hfd];exact le_prow20 (by rw [← hfd];exact lg_dg (fdv_z (z20.lg zu)) (z20_fdv zu)) hRP.b)) (dl DV.same dl0)))
  ·refine cReg<|mW rfl<|mV hTT (.d (.one (.v (.int .i64 ((k%2:Nat):Int))))) (evi (tmod2 k))<|mbT rfl (beq_iff_eq.2 (by omega))<|mv2 rfl rfl<|mY (aPLead (⟨⟨fb,fun _ _ _ h=>h,eb⟩,zb⟩:IsP (arow L m fb) L m d)) rfl<|mW rfl<|mView 27 (.d (.one (.v (.bool false)))) rfl (le_bool (decide_eq_false (by rw [hdd];exact hl1)))<|mW rfl<|mT<|cFs rfl<|cSeq<|cSeq ?_;have zu:=hI.zr;have hbu:=hbr;have hRP:RestP c d KC (szd r 20):=rest_of hI zd rfl h0 hKk (Or.inr ⟨fun e=>hl1 e.2,fun _=>rfl⟩);have hlu:=lg_le r
   by_cases hu0:lg r=0
   ·refine cReg<|mv2 rfl rfl<|mbT rfl (by rw [hu0];rfl)<|mT<|cT rfl<|cR<|mv2 rfl rfl<|mT<|cRet<|tR ?_;have hz0:lg (szd r 20)=0:=(lg_zero hRP.z).2 fun i=>by unfold szd fdv;rw [(lg_zero zu).1 hu0 i];exact Int.zero_ediv _
    exact rQ rfl (le_tup (dl (dex (szd r 20) hRP (nil_prow20 hz0)) (dl DV.same dl0)))
   ·refine cReg<|mv2 rfl rfl<|mbF rfl (beq_eq_false_iff_ne.2 fun e=>hu0 (by omega))<|mT<|cFs rfl<|cSeq ?_;have hgp:=zu.ip.gcd_pos hu0;have e2:=dg_le (fdv r ((gcdN r (lg r):Nat):Int)) (lg r);refine cReg<|mv2 rfl rfl<|mB hTT (.d (.one (.row 1 1 (fun i' j'=>(([.row 2 (lg r) (zel KC r)])[i'*1+j']?).getD (.v undef))))) rfl<|mY (aContent (z20.lg hI.zr)) rfl<|mY (aOver (isp (K:=KC) (c:=r) (z20.lg hI.zr)) (isz KC ((gcdN r (lg r):Nat):Int)) (by omega) (fun i hi=>gcd_dvI hi) (M:=(max KC 1+1))) rfl<|mv2 rfl rfl<|mT<|cRet ?_;have hfd:=szd20 zu;exact rQ rfl (le_tup (dl (dex (szd r 20) hRP (by rw [hfd];exact le_prow20 (by rw [← hfd];exact lg_dg (fdv_z (z20.lg zu)) (z20_fdv zu)) hRP.b)) (dl DV.same dl0)))
 ·refine cReg<|mW rfl<|mV hTT (.d (.one (.v (.int .i64 ((k%2:Nat):Int))))) (evi (tmod2 k))<|mbF rfl (beq_eq_false_iff_ne.2 (by omega))<|mW rfl<|mG rfl rfl<|mG rfl rfl<|mG rfl rfl<|mW rfl<|mT<|cFs rfl<|cSeq<|cSeq ?_;have zu:=hI.zr;have hbu:=hbr;have hRP:RestP c d KC (szd r 20):=rest_of hI zd rfl h0 hKk (Or.inr ⟨fun e=>hk1 e.1,fun _=>rfl⟩);have hlu:=lg_le r
  by_cases hu0:lg r=0
  ·refine cReg<|mv2 rfl rfl<|mbT rfl (by rw [hu0];rfl)<|mT<|cT rfl<|cR<|mv2 rfl rfl<|mT<|cRet<|tR ?_;have hz0:lg (szd r 20)=0:=(lg_zero hRP.z).2 fun i=>by unfold szd fdv;rw [(lg_zero zu).1 hu0 i];exact Int.zero_ediv _
   exact rQ rfl (le_tup (dl (dex (szd r 20) hRP (nil_prow20 hz0)) (dl DV.same dl0)))
  ·refine cReg<|mv2 rfl rfl<|mbF rfl (beq_eq_false_iff_ne.2 fun e=>hu0 (by omega))<|mT<|cFs rfl<|cSeq ?_;have hgp:=zu.ip.gcd_pos hu0;have e2:=dg_le (fdv r ((gcdN r (lg r):Nat):Int)) (lg r);refine cReg<|mv2 rfl rfl<|mB hTT (.d (.one (.row 1 1 (fun i' j'=>(([.row 2 (lg r) (zel KC r)])[i'*1+j']?).getD (.v undef))))) rfl<|mY (aContent (z20.lg hI.zr)) rfl<|mY (aOver (isp (K:=KC) (c:=r) (z20.lg hI.zr)) (isz KC ((gcdN r (lg r):Nat):Int)) (by omega) (fun i hi=>gcd_dvI hi) (M:=(max KC 1+1))) rfl<|mv2 rfl rfl<|mT<|cRet ?_;have hfd:=szd20 zu;exact rQ rfl (le_tup (dl (dex (szd r 20) hRP (by rw [hfd];exact le_prow20 (by rw [← hfd];exact lg_dg (fdv_z (z20.lg zu)) (z20_fdv zu)) hRP.b)) (dl DV.same dl0)))
def prm20(c:Nat→Int):Nat→Int:=prm c (lg c)
theorem prm20_z{c:Nat→Int}(z:z20 c):z20 (prm20 c):=z20_fdv z
theorem prm20_lg{c:Nat→Int}(z:z20 c):lg (prm20 c)=lg c:=by
 have h:=z.ip.prm;exact (h.uniq (prm20_z z))
theorem Lb.prm{K:Nat}{c:Nat→Int}(h:Lb K c):Lb K (prm20 c):=h.fdv
theorem aPrime{a:Lf}{K n:Nat}{c:Nat→Int}(ha:IsP a K n c)(zc:z20 c)(hn:n≤20:=by omega)(hK:K≤90000000:=by omega):ACall Tryz.prog 134 [.one a] (.d (.one (prow K (lg (prm20 c)) (prm20 c)))):=by
 obtain ⟨⟨fa,ha,ea⟩,za⟩:=ha;refine ACall.le (dl (DV.l ha) dl0) AV.le.rfl ?_;have ha':IsP (arow K n fa) K n c:=⟨⟨fa,fun _ _ _ h=>h,ea⟩,za⟩;refine aN 11 [.tmp 2] Tryz.func134 rfl<|AW.fact (p:=Lb K c) (fun B0 w0 a w ⟨ρ,hc,hn',hdf,hs'⟩=>let ⟨v,_,hv⟩:=hs' 0 _ rfl;isP_bd ha' hv) (fun hb=>?_)
 by_cases h0:lg c=0
 ·exact cR<|mW rfl<|mT<|cR<|mW rfl<|mY (aPrim0 ha' zc hn h0 hK) rfl<|mv3 rfl rfl rfl<|mO rfl<|mZ rfl<|mW rfl<|mT<|cR<|mv2 rfl rfl<|mT<|cRet<|rQ rfl (by rw [show lg (prm20 c)=0 from (prm20_lg zc).trans h0];exact le_prow (Nat.zero_le _) rfl (fun i hi=>absurd hi (Nat.not_lt_zero _)))
 ·exact cR<|mW rfl<|mT<|cR<|mW rfl<|mY (aPrim ha' zc hn h0 hK) rfl<|mv3 rfl rfl rfl<|mO rfl<|mZ rfl<|mW rfl<|mT<|cR<|mv2 rfl rfl<|mT<|cRet<|rQ rfl (le_prow20 (prm20_lg zc).symm hb.prm)
theorem Lb.pos{K:Nat}{c:Nat→Int}(h:Lb K c){i:Nat}(hi:c i≠0):1≤K:=by
 have h1:=h i;rcases Nat.eq_zero_or_pos K with h0 | h0
 ·subst h0;rw [Nat.pow_zero] at h1;omega
 ·exact h0
theorem FF_prm{c:Nat→Int}(z:z20 c):∃ s s':Rat,(∀ x,FF c x=s*FF (prm20 c) x)∧∀ x,FF (prm20 c) x=s'*FF c x:=by
 obtain ⟨s,s',h1,h2⟩:=prm_scale z.ip;have e1:pf (prm c (lg c)) (lg c)=FF (prm20 c):=FF_pf z.ip.prm.z (prm20_z z);refine ⟨s,s',fun x=>?_,fun x=>?_⟩
 ·have:=h1 x;rw [e1,FF_lg z] at this;exact this
 ·have:=h2 x;rw [e1,FF_lg z] at this;exact this
theorem FF_prm_pos{c:Nat→Int}(z:z20 c)(h0:lg c≠0):∃ s:Rat,s≠0∧∀ x,FF c x=s*FF (prm20 c) x:=by
 refine ⟨(conS c (lg c):Rat),rc_ne (z.ip.conS_ne h0),fun x=>?_⟩;have h:=pf_prm z.lg x;rw [show pf (prm c (lg c)) (lg c)=FF (prm20 c) from FF_pf z.ip.prm.z (prm20_z z),FF_lg z] at h;exact h
theorem prm20_pm{c:Nat→Int}(z:z20 c)(h0:lg c≠0):Pm (lg (prm20 c)) (prm20 c):=by
 rw [prm20_lg z];exact z.ip.pm h0
/-- What divides what is not 0 is as long at most. -/
theorem lg_dv{c g:Nat→Int}(zc:z20 c)(zg:z20 g)(h0:lg c≠0)(h:Dv (FF g) (FF c)):lg g≠0∧lg g≤lg c:=by
 have hg:lg g≠0:=by
  intro e;obtain ⟨x,hx⟩:=FF_nz zc h0;obtain ⟨q,_,hq⟩:=h;rw [hq,(FF_zero zg).1 e x] at hx;exact hx (Rat.mul_zero _)
 have:=h.deg (FF_lc zg hg) (FF_lc zc h0);exact ⟨hg,by omega⟩
/-- A primitive divisor's coefficients. -/
theorem dv_lb20{c g:Nat→Int}{K:Nat}(zc:z20 c)(zg:z20 g)(h0:lg c≠0)(h10:lg c≤10)(h:Dv (FF g) (FF c))(pm:gcdN g (lg g)=1)(hb:Lb K c):Lb (21*K+3) g:=by
 obtain ⟨hg,hle⟩:=lg_dv zc zg h0 h;obtain ⟨q,pq,hq⟩:=h;obtain ⟨w,k,hw,hc,_⟩:=exact_row zc.lg zg.lg pm pq (fun x=>by rw [FF_lg zc,FF_lg zg];exact hq x);exact dv_lb zc.ip h0 zg.lg hw hc hb (hb.pos (lg_ne h0)) h10 (by omega)
/-- THE GREATEST COMMON DIVISOR of c and d. -/
structure GcdP(c d:Nat→Int)(M:Nat)(g:Nat→Int):Prop where
 z:z20 g
 b:Lb M g
 idl:Idl (FF c) (FF d) (FF g)
 pm:lg g≠0→Pm (lg g) g
theorem GcdP.le{c d g:Nat→Int}{M:Nat}(h:GcdP c d M g)(zc:z20 c)(h0:lg c≠0):lg g≠0∧lg g≤lg c:=lg_dv zc h.z h0 h.idl.da
theorem GcdP.le'{c d g:Nat→Int}{M:Nat}(h:GcdP c d M g)(zd:z20 d)(h0:lg d≠0):lg g≠0∧lg g≤lg d:=lg_dv zd h.z h0 h.idl.db
theorem gcd_fin{c d a b:Nat→Int}{K:Nat}(zc:z20 c)(zd:z20 d)(za:z20 a)(zb:z20 b)(h:Idp (FF c) (FF d) (FF a) (FF b))(hb0:lg b=0)(hc:Lb K c)(hd:Lb K d)(hc10:lg c≤10)(hd10:lg d≤10):GcdP c d (21*K+3) (prm20 a):=by
 obtain ⟨s,s',h1,h2⟩:=FF_prm za;have hi:Idl (FF c) (FF d) (FF (prm20 a)):=(h.fin fun x=>(FF_zero zb).1 hb0 x).scale h1 h2;have zp:=prm20_z za;have hpm:lg (prm20 a)≠0→Pm (lg (prm20 a)) (prm20 a):=fun e=>prm20_pm za (by rw [← prm20_lg za];exact e)
 refine ⟨zp,?_,hi,hpm⟩
 by_cases h0:lg (prm20 a)=0
 ·intro i
  rw [(lg_zero zp).1 h0 i];exact Nat.pow_pos (by decide)
 by_cases hc0:lg c=0
 ·by_cases hd0:lg d=0
  ·exfalso
   obtain ⟨x,hx⟩:=FF_nz zp h0;obtain ⟨u,v,_,_,e⟩:=hi.cm;rw [e,(FF_zero zc).1 hc0,(FF_zero zd).1 hd0] at hx;exact hx (by grind)
  ·exact dv_lb20 zd zp hd0 hd10 hi.db (hpm h0).one hd
 ·exact dv_lb20 zc zp hc0 hc10 hi.da (hpm h0).one hc
/-- How great numbers become. -/
theorem three_pow(k:Nat):k+2≤3^(k+1):=by
 induction k with
 | zero=>decide
 | succ k ih=>rw [Nat.pow_succ];omega
structure Grw(K N X na nb:Nat):Prop where
 h:(X+1)*3^na≤(K+1)*(2*3^N)
 o:nb < na∨X=K
theorem Grw.start{K N na nb:Nat}(h:na≤N):Grw K N K na nb:=⟨by
 have h1:3^na≤2*3^N:=by
  have:=Nat.pow_le_pow_right (n:=3) (by decide) h;omega
 exact Nat.mul_le_mul_left (K+1) h1,Or.inr rfl⟩
theorem Grw.step{K N X na nb nr:Nat}(h:Grw K N X na nb)(ha:na≤N)(hb:nb≤N)(hr:nr < nb):Grw K N (X+(na+1-nb)*(X+1)) nb nr:=by
 refine ⟨?_,Or.inl hr⟩;have e:X+(na+1-nb)*(X+1)+1=(na+1-nb+1)*(X+1):=by rw [Nat.add_mul (na+1-nb) 1];omega
 rw [e]
 by_cases h1:nb < na
 ·obtain ⟨k,rfl⟩:∃ k,na=nb+k+1:=⟨na-nb-1,by omega⟩
  have h2:=three_pow k;have h3:(nb+k+1+1-nb+1)=k+3:=by omega
  rw [h3];have h4:k+3≤3^(k+1):=by
   rcases Nat.eq_zero_or_pos k with h0 | h0
   ·subst h0;decide
   ·obtain ⟨j,rfl⟩:∃ j,k=j+1:=⟨k-1,by omega⟩
    have:=three_pow j;rw [Nat.pow_succ];omega
  calc (k+3)*(X+1)*3^nb≤3^(k+1)*(X+1)*3^nb:=Nat.mul_le_mul_right _ (Nat.mul_le_mul_right _ h4)
   _=(X+1)*3^(nb+k+1):=by rw [show nb+k+1=(k+1)+nb by omega,Nat.pow_add 3 (k+1) nb,Nat.mul_comm (3^(k+1)) (X+1),Nat.mul_assoc]
   _≤_:=h.h
 ·have hX:X=K:=by rcases h.o with h2 | h2;omega;exact h2
  subst hX;have h2:na+1-nb+1≤2:=by omega
  have h3:3^nb≤3^N:=Nat.pow_le_pow_right (by decide) hb
  calc (na+1-nb+1)*(X+1)*3^nb≤2*(X+1)*3^nb:=Nat.mul_le_mul_right _ (Nat.mul_le_mul_right _ h2)
   _=(X+1)*(2*3^nb):=by rw [Nat.mul_comm 2 (X+1),Nat.mul_assoc]
   _≤_:=Nat.mul_le_mul_left _ (Nat.mul_le_mul_left _ h3)
theorem Grw.bd{K N X na nb KC:Nat}(h:Grw K N X na nb)(hK:(K+1)*(2*3^N)≤KC):X+1≤KC:=by
 have h1:X+1≤(X+1)*3^na:=Nat.le_mul_of_pos_right _ (Nat.pow_pos (by decide));have h2:=h.h;omega
theorem prm_idp{c d:Nat→Int}(zc:z20 c)(zd:z20 d):Idp (FF c) (FF d) (FF (prm20 c)) (FF (prm20 d)):=by
 obtain ⟨s,s',h1,h2⟩:=FF_prm zc;obtain ⟨t,t',k1,k2⟩:=FF_prm zd;exact Idp.scale h1 k1 h2 k2
theorem aTwo{a b:Lf}{K KC N n m:Nat}{c d:Nat→Int}(ha:IsP a K n c)(hb:IsP b K m d)(zc:z20 c)(zd:z20 d)(hn:n≤20)(hm:m≤20)(hN:N≤10)(hc10:lg c≤N)(hd10:lg d≤N)(hKC:(K+1)*(2*3^N)≤KC)(hC:KC≤90000000):ACall Tryz.prog 105 [.one a,.one b] (.d (.one (exL (GcdP c d (21*K+3)) (fun g=>prow (21*K+3) (lg g) g)))):=by
 obtain ⟨⟨fa,ha,ea⟩,za⟩:=ha;obtain ⟨⟨fb,hb,eb⟩,zb⟩:=hb;have ha':IsP (arow K n fa) K n c:=⟨⟨fa,fun _ _ _ h=>h,ea⟩,za⟩;have hb':IsP (arow K m fb) K m d:=⟨⟨fb,fun _ _ _ h=>h,eb⟩,zb⟩;refine ACall.le (dl (DV.l ha) (dl (DV.l hb) dl0)) AV.le.rfl<|aN 24 [.tmp 4] Tryz.func105 rfl ?_;have hK1:K+1≤KC:=Nat.le_trans (Nat.le_mul_of_pos_right _ (Nat.mul_pos (by decide) (Nat.pow_pos (by decide)))) hKC;refine AW.fact (p:=Lb K c) (fun B0 w0 a w ⟨ρ,hc,hn',hdf,hs'⟩=>let ⟨v,_,hv⟩:=hs' 0 _ rfl;isP_bd ha' hv) (fun hbc=>?_);refine AW.fact (p:=Lb K d) (fun B0 w0 a w ⟨ρ,hc,hn',hdf,hs'⟩=>let ⟨v,_,hv⟩:=hs' 1 _ rfl;isP_bd hb' hv) (fun hbd=>?_);refine cR<|mW rfl<|mT<|cR<|mW rfl<|mY (aPrime (⟨⟨fa,fun _ _ _ h=>h,ea⟩,za⟩:IsP (arow K n fa) K n c) zc) rfl<|mW rfl<|mY (aPrime (⟨⟨fb,fun _ _ _ h=>h,eb⟩,zb⟩:IsP (arow K m fb) K m d) zd) rfl<|mv2 rfl rfl<|mT<|cSeq<|cBlock<|cLoop (ι:=Nat×(Nat→Int)×(Nat→Int)) (fun (p:Nat×(Nat→Int)×(Nat→Int))=>match p with | (X,a,b)=>⟨24,[(0,.d (.one (.row 2 (lg a) (zel X a)))),(1,.d (.one (.row 2 (lg b) (zel X b))))],[]⟩) (fun (p:Nat×(Nat→Int)×(Nat→Int))=>match p with | (X,a,b)=>z20 a∧z20 b∧Idp (FF c) (FF d) (FF a) (FF b)∧Lb X a∧Lb X b∧lg a≤N∧lg b≤N∧Grw K N X (lg a) (lg b)) (fun (p:Nat×(Nat→Int)×(Nat→Int))=>match p with | (X,a,b)=>lg b) (K,(prm20 c),(prm20 d)) (⟨prm20_z zc,prm20_z zd,prm_idp zc zd,hbc.prm,hbd.prm,by rw [prm20_lg zc];exact hc10,by rw [prm20_lg zd];exact hd10,.start (by rw [prm20_lg zc];exact hc10)⟩) (wkr rfl rfl) ?_;rintro ⟨X,a,b⟩ hI;obtain ⟨za,zb,hid,hba,hbb,ha10,hb10,hG⟩:z20 a∧z20 b∧Idp (FF c) (FF d) (FF a) (FF b)∧Lb X a∧Lb X b∧lg a≤N∧lg b≤N∧Grw K N X (lg a) (lg b):=hI;show AW _ _ _ ⟨_,_,_⟩
 refine cSeq<|cSeq ?_;have hXK:=hG.bd hKC
 by_cases hb0:lg b=0
 ·refine cReg<|mv2 rfl rfl<|mdF rfl (by omega)<|mT<|cF rfl<|cExit<|tE<|tE<|bE<|tN<|cSeq ?_;have hgf:=gcd_fin zc zd za zb hid hb0 hbc hbd (by omega) (by omega);exact cReg<|mW rfl<|mY (aPrime (isp (K:=X) (c:=a) (z20.lg za)) za) rfl<|mW rfl<|mT<|cRet<|rQ rfl (le_one (fun B w v hv=>dex (L:=fun g=>prow (21*K+3) (lg g) g) (prm20 a) hgf (le_prow20 rfl hgf.b) B w v hv))
 ·refine cReg<|mv2 rfl rfl<|mdT rfl (by omega)<|mT<|cT rfl<|cSkip<|tN<|cBlock<|cSeq ?_;have hg1:lg b-1 < lg b:=by omega
  have hN1:=(hG.step ha10 hb10 hg1).bd hKC;refine cReg<|mv2 rfl rfl<|mY (aRest (KC:=X+(lg a+1-lg b)*(X+1)) (isp (K:=X) (c:=a) (z20.lg za)) (isp (K:=X) (c:=b) (z20.lg zb)) za zb (by omega) (by omega) (by omega) hb0 (Nat.le_refl _) (by omega) (by omega)) rfl<|mv5 rfl rfl rfl rfl rfl<|mT<|cEx (Qx:=(RestP a b (X+(lg a+1-lg b)*(X+1)))) (L:=(fun R=>prow (X+(lg a+1-lg b)*(X+1)) (lg R) R)) 5 rfl (fun R hR=>?_);have hN:=hG.step ha10 hb10 hR.lt;exact cReg<|mv4 rfl rfl rfl rfl<|mNil<|bN<|⟨((X+(lg a+1-lg b)*(X+1)),b,R),⟨zb,hR.z,hid.trans hR.idp,hbb.mono (Nat.le_add_right _ _),hR.b,hb10,by have:=hR.lt;omega,hN⟩,hR.lt,wk rfl ⟨hs' rfl (le_prow_t (hbb.mono (Nat.le_add_right _ _))),hs rfl,trivial⟩ trivial rfl⟩
/-- The first j places. -/
def trn(w:Nat→Int)(j:Nat):Nat→Int:=fun t=>if t < j then w t else 0
def upq(w:Nat→Int)(j:Nat):Nat→Int:=fun t=>if t < j then 0 else w t
theorem trn_z{w:Nat→Int}{j:Nat}:∀ t,j≤t→trn w j t=0:=fun t ht=>if_neg (by omega)
theorem trn20{w:Nat→Int}(z:z20 w)(j:Nat):z20 (trn w j):=fun t ht=>by unfold trn;split;exact z t ht;rfl
theorem trn_all{w:Nat→Int}{k:Nat}(h:∀ t,k≤t→w t=0):trn w k=w:=funext fun t=>by
 unfold trn;split;rfl;exact (h t (by omega)).symm
theorem trn_succ{w:Nat→Int}(i:Nat):trn w (i+1)=fadd (trn w i) (mnm (w i) i):=funext fun t=>by
 show (if t < i+1 then w t else 0)=(if t < i then w t else 0)+(if t=i then w i else 0)
 by_cases h1:t < i
 ·rw [if_pos (by omega),if_pos h1,if_neg (by omega)];omega
 ·by_cases h2:t=i
  ·subst h2;rw [if_pos (by omega),if_neg h1,if_pos rfl];omega
  ·rw [if_neg (by omega),if_neg h1,if_neg h2];rfl
def exq(w d:Nat→Int)(j:Nat):Nat→Int:=conv (trn w j) d
theorem exq_succ(w d:Nat→Int)(i:Nat)(t:Nat):exq w d (i+1) t=exq w d i t+conv (mnm (w i) i) d t:=by
 unfold exq;rw [trn_succ,conv_comm,conv_add];show conv d (trn w i) t+conv d (mnm (w i) i) t=_
 rw [conv_comm d (trn w i),conv_comm d (mnm (w i) i)]
theorem exq_z{w d:Nat→Int}{nb j:Nat}(hd:∀ t,nb≤t→d t=0)(h0:nb≠0):∀ t,nb+j≤t+1→exq w d j t=0:=by
 induction j with
 | zero=>
  intro t _;exact conv_l0 (fun i=>trn_z i (Nat.zero_le _)) t
 | succ i ih=>
  intro t ht;rw [exq_succ,ih t (by omega),conv_mnm];split
  ·rw [hd (t-i) (by omega),Int.mul_zero];rfl
  ·rfl
theorem exq_top{w d:Nat→Int}{nb i:Nat}(hd:∀ t,nb≤t→d t=0)(h0:nb≠0):exq w d (i+1) (nb-1+i)=w i*d (nb-1):=by
 rw [exq_succ,exq_z hd h0 _ (by omega),conv_mnm,if_pos (by omega),show nb-1+i-i=nb-1 by omega,Int.zero_add]
theorem exq_skip{w d:Nat→Int}{i:Nat}(h:w i=0):exq w d (i+1)=exq w d i:=funext fun t=>by
 rw [exq_succ,conv_mnm,h];split <;> simp
theorem exq20{w d:Nat→Int}{nb j:Nat}(hd:∀ t,nb≤t→d t=0)(h0:nb≠0)(hj:nb+j≤21):z20 (exq w d j):=fun t ht=>exq_z hd h0 t (by omega)
theorem exq_lg{w d:Nat→Int}{i:Nat}(zd:z20 d)(h0:lg d≠0)(hi:lg d+(i+1)≤21)(hw:w i≠0):lg (exq w d (i+1))=lg d+i:=by
 have z:=exq20 (w:=w) zd.lg h0 hi;have h1:lg (exq w d (i+1))≤lg d+i:=lg_of_z z fun t ht=>exq_z zd.lg h0 t (by omega)
 have h2:exq w d (i+1) (lg d-1+i)≠0:=by rw [exq_top zd.lg h0];exact Int.mul_ne_zero hw (lg_ne h0)
 by_cases h3:lg (exq w d (i+1))≤lg d-1+i
 ·exact absurd (z.lg _ h3) h2
 ·omega
/-- An exact quotient is as long as it is to be. -/
theorem quo_lg{w d c:Nat→Int}(zw:z20 w)(zd:z20 d)(zc:z20 c)(h:∀ i,conv w d i=c i)(h0:lg d≠0):lg w=lg c+1-lg d∧(lg w≠0→lg c≠0):=by
 obtain rfl:conv w d=c:=funext h
 by_cases hw:lg w=0
 ·have e:∀ i,conv w d i=0:=fun i=>conv_l0 ((lg_zero zw).1 hw) i
  have:=(lg_zero zc).2 e;refine ⟨by omega,fun e=>absurd hw e⟩
 ·have e:=dg_conv hw h0 zw.lg zd.lg (lg_ne hw) (lg_ne h0) (conv_z0 zw.lg zd.lg)
  have e2:dg (conv w d) (lg w+lg d)=lg (conv w d):=lg_dg (conv_z0 zw.lg zd.lg) zc;rw [e2] at e;constructor
  ·omega
  ·omega
theorem AV.of_eq{a b:AV}(h:a=b):AV.le a b:=fun _ _ _ _ hv=>h▸hv
theorem AV.le.trans{a b c:AV}(h:AV.le a b)(k:AV.le b c):AV.le a c:=fun _ _ _ _ hv=>k _ _ _ _ (h _ _ _ _ hv)
theorem upq_at(w:Nat→Int)(i:Nat):w i=upq w i i:=(if_neg (Nat.lt_irrefl i)).symm
theorem upq_ne{w:Nat→Int}{i p:Nat}(h:p≠i):upq w (i+1) p=upq w i p:=by
 unfold upq
 by_cases h1:p < i
 ·rw [if_pos h1,if_pos (by omega)]
 ·rw [if_neg h1,if_neg (by omega)]
theorem upq_skip{w:Nat→Int}{i:Nat}(h:w i=0):upq w (i+1)=upq w i:=funext fun p=>by
 by_cases hp:p=i
 ·subst hp;unfold upq;rw [if_pos (by omega),if_neg (by omega),h]
 ·exact upq_ne hp
theorem upq_0(w:Nat→Int):upq w 0=w:=funext fun p=>if_neg (Nat.not_lt_zero _)
/-- f is the SQUAREFREE PART of c. -/
structure SqP(c:Nat→Int)(M:Nat)(f:Nat→Int):Prop where
 z:z20 f
 b:Lb M f
 pm:Pm (lg f) f
 dv:Dv (FF f) (FF c)
 pw:∃ (N:Nat) (h:Fn),Po h∧∀ x,FF f x^N=h x*FF c x
 sq:Sqf (FF f) (FF (fder f))
theorem SqP.ne{c f:Nat→Int}{M:Nat}(h:SqP c M f):lg f≠0:=h.pm.pos
theorem quo20{w g p:Nat→Int}{k:Nat}(zg:z20 g)(zp:z20 p)(hg:lg g≠0)(hw:∀ i,k≤i→w i=0)(hc:∀ i,conv w g i=p i):z20 w:=by
 have h1:=dg_z hw
 by_cases h0:dg w k=0
 ·intro i _;exact h1 i (by omega)
 ·intro i hi
  by_cases h2:dg w k≤20
  ·exact h1 i (by omega)
  ·exfalso
   have h3:=conv_top h1 zg.lg h0 hg;rw [hc,zp _ (by omega)] at h3;exact Int.mul_ne_zero (dg_ne h0) (lg_ne hg) h3.symm
/-- A quotient of primitive rows is primitive. -/
theorem quo_pm{w g p:Nat→Int}(zw:z20 w)(zg:z20 g)(zp:z20 p)(hc:∀ i,conv w g i=p i)(pg:Pm (lg g) g)(pp:Pm (lg p) p):Pm (lg w) w:=by
 have hw0:lg w≠0:=by
  intro e;have:∀ i,p i=0:=fun i=>by rw [← hc];exact conv_l0 ((lg_zero zw).1 e) i
  exact pp.pos ((lg_zero zp).2 this)
 refine ⟨zw.ip,hw0,?_,?_⟩
 ·have h1:gcdN w (lg w)∣gcdN p (lg p):=gcdN_all fun i _=>by
   rw [← hc];refine Int.ofNat_dvd_left.1 (cv_dv fun i _ _=>?_)
   by_cases hi:i < lg w
   ·exact Int.dvd_trans (gcd_dvI hi) (Int.dvd_mul_right _ _)
   ·rw [zw.lg i (by omega),Int.zero_mul];exact Int.dvd_zero _
  rw [pp.one] at h1;exact Nat.dvd_one.1 h1
 ·have h1:=conv_top zw.lg zg.lg hw0 pg.pos
  have h2:=dg_conv hw0 pg.pos zw.lg zg.lg (lg_ne hw0) (lg_ne pg.pos) (conv_z0 zw.lg zg.lg);have e:conv w g=p:=funext hc;rw [e] at h1 h2;rw [lg_dg (by rw [← e];exact conv_z0 zw.lg zg.lg) zp] at h2;have h3:=pp.lead;rw [h2,show lg w+lg g-1-1=lg w+lg g-2 by omega,h1] at h3;have h4:=pg.lead;rcases Int.lt_or_le 0 (w (lg w-1)) with h5 | h5
  ·exact h5
  ·exfalso
   have:=Int.mul_nonpos_of_nonpos_of_nonneg h5 (Int.le_of_lt h4);omega
theorem sq_of{c g w:Nat→Int}{K M:Nat}(zc:z20 c)(h1:2≤lg c)(h10:lg c≤10)(hb:Lb K c)(hg:GcdP (prm20 c) (fder (prm20 c)) M g)(zw:z20 w)(hw:∀ i,conv w g i=prm20 c i):SqP c (21*K+3) w:=by
 have zp:=prm20_z zc;have hp0:lg (prm20 c)≠0:=by rw [prm20_lg zc];omega
 have pp:=prm20_pm zc (by omega);obtain ⟨hg0,hgl⟩:=hg.le zp hp0;have pg:=hg.pm hg0;have pw:=quo_pm zw hg.z zp hw pg pp;have hF:∀ x,FF (prm20 c) x=FF w x*FF g x:=fun x=>by
  have e:conv w g=prm20 c:=funext hw;obtain ⟨hlq,_⟩:=quo_lg zw hg.z zp hw hg0;rw [← e];exact FF_conv zw.lg hg.z.lg (by have hl:=prm20_lg zc;omega) zw hg.z x
 have dvp:Dv (FF w) (FF (prm20 c)):=⟨FF g,FF_po hg.z,fun x=>by rw [hF];exact Rat.mul_comm _ _⟩;obtain ⟨s,hs0,hs⟩:=FF_prm_pos zc (by omega);obtain ⟨⟨u,v,pu,pv,hm⟩,_,⟨q,pq,hq⟩⟩:=hg.idl;have hne:=FF_nz zp hp0;have hder:=FF_der zp;have po':=FF_po (z20_der zp);refine ⟨zw,dv_lb20 zp zw hp0 (by rw [prm20_lg zc];exact h10) dvp pw.one hb.prm,pw,?_,?_,⟨FF_po zw,FF_po (z20_der zw),FF_der zw,?_⟩⟩
 ·obtain ⟨q2,pq2,hq2⟩:=dvp
  exact ⟨fun x=>q2 x*s,pq2.scl s,fun x=>by rw [hs,hq2];grind⟩
 ·obtain ⟨N,h,ph,hh⟩:=sqf_pow (FF_po zp) hne hder po' (FF_po zw) (FF_po hg.z) hF pu pv hm pq hq
  exact ⟨N,fun x=>h x*s⁻¹,ph.scl _,fun x=>(hh x).trans (by show h x*FF (prm20 c) x=h x*s⁻¹*FF c x;rw [hs];grind)⟩
 ·exact sqf_cop (FF_po zp) hne hder po' (FF_po zw) (FF_po hg.z) hF pu pv hm pq hq (FF_der zw) (FF_po (z20_der zw))
section
variable {P:Program} {T:TypeId→Option TI} {ops:Array Oper} {Q:Qs} {o:Oper} {l:List Oper} {s:AS}
theorem mX(av:AV)(h:EvX P s o av)(k:AL P ops Q l (s.put o.dst av))(hg:gst ops s o=some true:=by rfl)(hd:dok o.dst s.n=true:=by rfl):AL P ops Q (o ::l) s:=by
 rintro B0 w0 a w ⟨ρ,hc,hn,hdf,hs⟩;obtain ⟨v,hr,hv⟩:=h ρ (Bd ρ B0) w a (fun x hx av' hg=>geto_ok hs hg);exact wpl_value (gst_ok hg hs) hr (k B0 w0 _ w (den_put hc hn hdf hs hd hv))
theorem arV{ρ:Rho}{B:BS}{w:World}{x c:Value}(h:AR ρ B w (.d (.one (.v x))) c):c=x:=(show LfR B w (.v x) c from h).1
theorem ints2_x{ρ:Rho}{B:BS}{w:World}{a:Act}{x:Operand}{k:IntKind}{z:Int}(h:ints2 s x=some (k,z))(hs:∀ av',geto s x=some av'→AR ρ B w av' (a.eval x)):a.eval x= .int k z:=by
 unfold ints2 at h;split at h
 ·rename_i hx
  cases h
  exact arV (hs _ hx)
 ·cases h
end
/-! ### Rows of polynomials -/
def gl(L:List (Nat→Int))(i:Nat):Nat→Int:=L.getD i (fun _=>0)
theorem gl_app{L:List (Nat→Int)}{b:Nat→Int}{i:Nat}(h:i < L.length):gl (L ++ [b]) i=gl L i:=by
 unfold gl;rw [List.getD_eq_getElem?_getD,List.getD_eq_getElem?_getD,List.getElem?_append_left h]
theorem gl_last{L:List (Nat→Int)}{b:Nat→Int}:gl (L ++ [b]) L.length=b:=by
 unfold gl;rw [List.getD_eq_getElem?_getD,List.getElem?_append_right (Nat.le_refl _),Nat.sub_self];rfl
/-! ### Sturm's chains -/
def Stp(x y z:Nat→Int):Prop:=∃ (Q:Fn) (k:Rat),Po Q∧0 < k∧∀ t,FF x t=Q t*FF y t-k*FF z t
def PT:List (Nat→Int)→Prop
 | x ::y ::z ::l=>Stp x y z∧PT (y ::z ::l)
 | _=>True
theorem pt_snoc:∀ (L:List (Nat→Int)) (x y z:Nat→Int),PT (L ++ [x,y])→Stp x y z→PT (L ++ [x,y,z])
 | [],x,y,z,_,h=>⟨h,trivial⟩
 | [a],x,y,z,⟨h1,_⟩,h=>⟨h1,h,trivial⟩
 | a ::b ::L,x,y,z,h,k=>by
  cases L with
  | nil=>exact ⟨h.1,h.2.1,k,trivial⟩
  | cons c L=>exact ⟨h.1,pt_snoc (b ::c ::L) x y z h.2 k⟩
theorem pt_pch:∀ (l:List (Nat→Int)) (x y z:Nat→Int),PT (x ::y ::(l ++ [z]))→(∃ c,c≠0∧∀ t,FF z t=c)→PCh (FF x) (FF y) ((l ++ [z]).map FF)
 | [],x,y,z,⟨h,_⟩,hc=>⟨h,hc⟩
 | a ::l,x,y,z,⟨h,h2⟩,hc=>⟨h,pt_pch l y a z h2 hc⟩
/-- THE CHAIN of c: what New makes. -/
structure ChP(c:Nat→Int)(M M2:Nat)(L:List (Nat→Int)):Prop where
 sq:SqP c M (gl L 0)
 b:∀ i,Lb M2 (gl L i)
 z:∀ i,z20 (gl L i)
 len:1≤L.length
 ln:L.length≤11
 cst:L.length=1→lg (gl L 0)=1
 stm:2≤L.length→∃ l,L=gl L 0 ::gl L 1 ::l∧Stm (FF (gl L 0)) (FF (gl L 1)) (l.map FF)∧∃ d:Rat,0 < d∧∀ x,FF (fder (gl L 0)) x=d*FF (gl L 1) x
theorem fder_zero{f:Nat→Int}(z:z20 f)(h:lg (fder f)=0):lg f≤1:=by
 have h1:=(lg_zero (z20_der z)).1 h;refine lg_of_z z fun i hi=>?_
 obtain ⟨j,rfl⟩:∃ j,i=j+1:=⟨i-1,by omega⟩
 have h2:=h1 j;unfold fder at h2;rcases Int.mul_eq_zero.1 h2 with h3 | h3
 ·exact h3
 ·omega
theorem lg_one_const{a:Nat→Int}(z:z20 a)(h:lg a=1):∃ c:Rat,c≠0∧∀ t,FF a t=c:=by
 refine ⟨((a 0:Int):Rat),rc_ne (by have:=lg_ne (c:=a) (by omega);rw [h] at this;exact this),fun t=>?_⟩;rw [← FF_lg z,h];exact pf_const
theorem ACall.fact10{P:Program}{f:FuncId}{args:List DV}{r:AV}{p:Prop}(hen:∀ vs w,(callFunc f vs).run P w= .ok (.enter f vs) w)(h:∀ B w vs,DsR B w args vs→p)(k:p→ACall P f args r):ACall P f args r:=
 ⟨hen,fun B w vs hB hd=>(k (h B w vs hd)).go B w vs hB hd⟩
theorem sgq_int(z:Int):sgq (z:Rat)=sgn z:=by
  unfold sgn
  by_cases h1:z < 0
  · rw [if_pos h1,sgq_neg (by exact_mod_cast h1)]
  · rw [if_neg h1]
    by_cases h2:z=0
    · subst h2;rw [if_pos rfl];exact sgq_zero
    · rw [if_neg h2, sgq_pos (by have : 0 < z := by omega
                                 exact_mod_cast this)]
theorem sgn_vl(c:Nat→Int)(q:Rat)(n:Nat):sgn (vlZ c q.num (q.den:Int) n n)=sgq (pz c q n):=by
 have h:=vl_pz c q n;have hd:(0:Rat) < ((q.den:Int):Rat):=by
  have h1:(0:Int) < (q.den:Int):=by have:=q.den_pos;omega
  exact_mod_cast h1
 have hp:(0:Rat) < ((q.den:Int):Rat)^n:=by
  induction n with
  | zero=>rw [Rat.pow_zero];decide
  | succ n ih=>rw [Rat.pow_succ];exact Rat.mul_pos (ih (vl_pz c q n)) hd
 have h2:=congrArg sgq h;rw [sgq_mul,sgq_mul,sgq_pos hd,sgq_pos hp,sgq_int] at h2;omega
theorem aCmpN{K L:Nat}{p q:Rat}(hK:K≤1000000:=by omega)(hL:L≤1000000:=by omega):ACall Tryz.prog 67 [.agg (tn K p),.agg (tn L q)] (.d (.one (.v (.int .i64 (cmpQ p q))))):=by
 have h:=aTCmp (ist_tn K p) (ist_tn L q) (by omega) (by omega);rwa [mkR_self,mkR_self] at h
theorem aMaxN{K:Nat}{p:Rat}(hK:K≤1000000:=by omega):ACall Tryz.prog 66 [.agg (tn K p),.one (.v (.slice none 0 0))] (.d (.agg (tn K p))):=by
 refine ACall.fact10 (enters Tryz.func66 rfl rfl) (p:=Tb K p) (fun B w vs h=>match vs,h with | [_,_],⟨⟨cs,_,hl⟩,_⟩=>tn_bdT hl) (fun hb=>?_);have h:=aTMax (ist_tn K p) (Nat.le_refl _) (by omega);rw [mkR_self] at h;exact ACall.le (dl DV.same (dl DV.same dl0)) (le_agg (tn_tight hb)) h
theorem aMidN{K L:Nat}{p q:Rat}(hK:K≤1000000)(hL:L≤1000000):ACall Tryz.prog 139 [.agg (tn K p),.agg (tn L q)] (.d (.agg (tn (max K 2+1+(max L 2+1)+4) ((p+q) / 2)))):=by
 have h:=aTMid (ist_tn K p) (ist_tn L q) (Nat.le_refl _) (by omega);rwa [mkR_self,mkR_self] at h
theorem aSubN{K L:Nat}{p q:Rat}(hK:K≤1000000:=by omega)(hL:L≤1000000:=by omega):ACall Tryz.prog 107 [.agg (tn K p),.agg (tn L q)] (.d (.agg (tn (max K 2+1+(max L 2+1)+2) (p-q)))):=by
 have h:=aTSub (ist_tn K p) (ist_tn L q) (Nat.le_refl _) (by omega);rwa [mkR_self,mkR_self] at h
theorem aSignN{a:Lf}{K L n:Nat}{c:Nat→Int}{q:Rat}(ha:IsP a K n c)(zc:z20 c)(hn:n≤20:=by omega)(hK:K≤10000000:=by omega)(hL:L≤1000000:=by omega):ACall Tryz.prog 100 [.one a,.agg (tn L q)] (.d (.one (.v (.int .i64 (sgq (FF c q)))))):=by
 have h:=aPSign ha (ist_tn L q) (D:=20) (T:=K+(max L 2+1)+(max L 2+1)+5) (M:=21*(K+(max L 2+1)+(max L 2+1)+5)) hn (by decide) (Nat.le_refl _) (Nat.le_refl _) (by omega) hL hK;have hz:=ha.2;have e:dg c n=lg c:=lg_dg hz zc;rw [mkR_self,e,sgn_vl] at h;rw [show sgq (FF c q)=sgq (pz c q (lg c)) by rw [← FF_lg zc];rfl];exact h
/-- Signs one after another. -/
def sgL(L:List (Nat→Int))(t:Rat):List Int:=L.map fun c=>sgq (FF c t)
theorem sgL_sgs(L:List (Nat→Int))(t:Rat):sgL L t=sgs (L.map FF) t:=by unfold sgL sgs;rw [List.map_map];rfl
theorem vrA_drop{S:List Int}{i:Nat}{m:Int}(h:i < S.length):vrA m (S.drop i)=if S.getD i 0=0 then vrA m (S.drop (i+1)) else (if m= -(S.getD i 0) then 1 else 0)+vrA (S.getD i 0) (S.drop (i+1)):=by
 have e:S.drop i=S.getD i 0 ::S.drop (i+1):=by
  rw [List.drop_eq_getElem_cons h,List.getD_eq_getElem?_getD,List.getElem?_eq_getElem h];rfl
 rw [e];rfl
theorem vrA_end{S:List Int}{i:Nat}{m:Int}(h:S.length≤i):vrA m (S.drop i)=0:=by rw [List.drop_eq_nil_of_le h];rfl
theorem vrA_le:∀ (S:List Int) (m:Int),vrA m S≤S.length
 | [],m=>Nat.le_refl _
 | s ::l,m=>by
  unfold vrA;have h1:=vrA_le l m;have h2:=vrA_le l s;split
  ·show _≤l.length+1;omega
  ·show _≤l.length+1;split <;> omega
theorem sgL_at{L:List (Nat→Int)}{t:Rat}{i:Nat}(h:i < L.length):(sgL L t).getD i 0=sgq (FF (gl L i) t):=by
 unfold sgL gl;rw [List.getD_eq_getElem?_getD,List.getD_eq_getElem?_getD,List.getElem?_map,List.getElem?_eq_getElem h];rfl
theorem sgL_3(L:List (Nat→Int))(t:Rat)(i:Nat):(sgL L t).getD i 0= -1∨(sgL L t).getD i 0=0∨(sgL L t).getD i 0=1:=by
 by_cases h:i < L.length
 ·rw [sgL_at h];rcases sg_3 (FF (gl L i) t) with h | h | h <;> omega
 ·refine Or.inr (Or.inl ?_)
  unfold sgL;rw [List.getD_eq_getElem?_getD,List.getElem?_eq_none (by rw [List.length_map];omega)];rfl
/-- The chain counts. -/
theorem ChP.cnt{c:Nat→Int}{M KC:Nat}{L:List (Nat→Int)}{lo hi:Rat}(h:ChP c M KC L)(hab:lo≤hi):∃ N,vr (sgL L lo)=vr (sgL L hi)+N∧(N=0↔RFree (FF (gl L 0)) lo hi)∧(2≤L.length→Ctd (FF (gl L 0)) lo hi N):=by
 by_cases h2:2≤L.length
 ·obtain ⟨l,e,hs,_⟩:=h.stm h2
  obtain ⟨N,hN⟩:=sturm hs hab;refine ⟨N,?_,pab_free hs (FF_po (h.z 0)) hab hN,fun _=>⟨_,_,hs,hN⟩⟩;have:=hN.v;unfold Vr at this;rw [sgL_sgs,sgL_sgs,e];simpa using this
 ·have h1:L.length=1:=by have:=h.len;omega
  obtain ⟨c',hc,hf⟩:=lg_one_const (h.z 0) (h.cst h1)
  match L,h1,hf with
  | [a],_,hf=>
   have hf':∀ t,FF a t=c':=hf
   have e:∀ t,vr (sgL [a] t)=0:=fun t=>by
    show vrA 0 [sgq (FF a t)]=0
    unfold vrA;have:sgq (FF a t)≠0:=by rw [hf' t];exact fun h=>hc (sgq_eq_zero.1 h)
    rw [if_neg this,if_neg (by omega)];rfl
   refine ⟨0,by rw [e,e],⟨fun _=>⟨sgq c',fun h=>hc (sgq_eq_zero.1 h),fun t _ _=>by show sgq (FF a t)=_;rw [hf']⟩,fun _=>rfl⟩,fun h=>absurd h (by simp)⟩
/-! ### An algebraic number -/
def cutA(c:Nat→Int)(lo hi:Rat):Cut:=if hi≤lo then cutP lo else cutI (FF c) lo hi
structure OkA(c:Nat→Int)(lo hi:Rat):Prop where
 z:z20 c
 le:lo≤hi
 i:lo < hi→OkI (FF c) (FF (fder c)) lo hi
theorem cutA_P{c:Nat→Int}{lo hi:Rat}(h:hi≤lo):cutA c lo hi=cutP lo:=if_pos h
theorem cutA_I{c:Nat→Int}{lo hi:Rat}(h:lo < hi):cutA c lo hi=cutI (FF c) lo hi:=if_neg (by grind)
theorem OkA.cut{c:Nat→Int}{lo hi:Rat}(h:OkA c lo hi):IsCut (cutA c lo hi):=by
 by_cases hl:hi≤lo
 ·rw [cutA_P hl];exact cutP_ok lo
 ·rw [cutA_I (by grind)];exact cutI_ok (h.i (by grind))
theorem okA_P{c:Nat→Int}(z:z20 c)(t:Rat):OkA c t t:=⟨z,by grind,fun h=>by grind⟩
theorem OkA.i'{c:Nat→Int}{lo hi:Rat}(h:OkA c lo hi)(hl:¬ hi≤lo):OkI (FF c) (FF (fder c)) lo hi:=h.i (by grind)
/-- Against a rational number. -/
theorem OkA.rat{c:Nat→Int}{lo hi:Rat}(h:OkA c lo hi)(t:Rat):cmpC (cutA c lo hi) (cutP t)=
  if hi≤lo then cmpQ lo t else if t≤lo then 1 else if hi < t then -1 else if sgq (FF c t)=0 then 0 else if sgq (FF c t)=aft (FF c) (FF (fder c)) lo then 1 else -1:=by
 by_cases hl:hi≤lo
 ·rw [if_pos hl,cutA_P hl,cmpC_PP]
 ·rw [if_neg hl,cutA_I (by grind),cmpI_rat (h.i (by grind))]
theorem OkA.lo_le{c:Nat→Int}{lo hi q:Rat}(h:OkA c lo hi)(hq:cutA c lo hi q):q < hi∨q=hi∧False∨q < hi:=by
 by_cases hl:hi≤lo
 ·rw [cutA_P hl] at hq;unfold cutP at hq;have:=h.le;left;grind
 ·rw [cutA_I (by grind)] at hq
  rcases hq with k | ⟨k,_⟩
  ·left;grind
  ·exact Or.inl k
/-! ### Halved -/
noncomputable def hlf(c:Nat→Int)(lo hi:Rat):Rat×Rat:=
 if hi≤lo then (lo,hi) else if cmpC (cutA c lo hi) (cutP ((lo+hi) / 2))=0 then ((lo+hi) / 2,(lo+hi) / 2) else if cmpC (cutA c lo hi) (cutP ((lo+hi) / 2))= -1 then (lo,(lo+hi) / 2) else ((lo+hi) / 2,hi)
structure Nar(c:Nat→Int)(lo hi a b:Rat):Prop where
 ok:OkA c a b
 cut:∀ q,cutA c a b q↔cutA c lo hi q
 lo:lo≤a
 hi:b≤hi
theorem Nar.refl{c:Nat→Int}{lo hi:Rat}(h:OkA c lo hi):Nar c lo hi lo hi:=⟨h,fun _=>Iff.rfl,by grind,by grind⟩
theorem Nar.trans{c:Nat→Int}{lo hi a b a' b':Rat}(h:Nar c lo hi a b)(k:Nar c a b a' b'):Nar c lo hi a' b':=⟨k.ok,fun q=>(k.cut q).trans (h.cut q),by have:=h.lo;have:=k.lo;grind,by have:=h.hi;have:=k.hi;grind⟩
theorem hlf_nar{c:Nat→Int}{lo hi:Rat}(h:OkA c lo hi):Nar c lo hi (hlf c lo hi).1 (hlf c lo hi).2∧(lo < hi→(hlf c lo hi).2-(hlf c lo hi).1≤(hi-lo) / 2):=by
 obtain ⟨m,hm⟩:∃ m,m=(lo+hi) / 2:=⟨_,rfl⟩
 unfold hlf;rw [← hm]
 by_cases hl:hi≤lo
 ·rw [if_pos hl];exact ⟨Nar.refl h,fun k=>by grind⟩
 ·rw [if_neg hl]
  have ok:=h.i' hl;have hC:=h.cut;have eC:=cutA_I (c:=c) (show lo < hi by grind)
  by_cases h0:cmpC (cutA c lo hi) (cutP m)=0
  ·rw [if_pos h0]
   refine ⟨⟨okA_P h.z m,fun q=>?_,by show lo≤m;grind,by show m≤hi;grind⟩,fun _=>by show m-m≤_;grind⟩;show cutA c m m q↔_
   rw [cutA_P (show m≤m by grind)];exact (cmpC_zero h0 q).symm
  ·rw [if_neg h0]
   by_cases h1:cmpC (cutA c lo hi) (cutP m)= -1
   ·rw [if_pos h1]
    have nm:¬ cutI (FF c) lo hi m:=fun k=>by
     rw [← eC] at k;have:=cmpC_P1 hC k;omega
    obtain ⟨o,e⟩:=ok.narrow (a:=lo) (b:=m) (by grind) (by grind) (Or.inl (by grind)) nm;refine ⟨⟨⟨h.z,by show lo≤m;grind,fun _=>o⟩,fun q=>?_,by show lo≤lo;grind,by show m≤hi;grind⟩,fun _=>by show m-lo≤_;grind⟩;show cutA c lo m q↔_
    rw [cutA_I (show lo < m by grind),eC];exact e q
   ·rw [if_neg h1]
    have cm:cutI (FF c) lo hi m:=by
     rw [← eC];apply Classical.byContradiction;intro nm;have h2:cmpC (cutA c lo hi) (cutP m)≤0:=(cmpC_le hC (cutP_ok m)).2 fun q hq=>hC.nb hq nm
     rcases cmpC_bd (cutA c lo hi) (cutP m) with k | k | k
     ·exact h1 k
     ·exact h0 k
     ·omega
    obtain ⟨o,e⟩:=ok.narrow (a:=m) (b:=hi) (by grind) (by grind) cm (cutI_hi (by grind) (by grind));refine ⟨⟨⟨h.z,by show m≤hi;grind,fun _=>o⟩,fun q=>?_,by show lo≤m;grind,by show hi≤hi;grind⟩,fun _=>by show hi-m≤_;grind⟩;show cutA c m hi q↔_
    rw [cutA_I (show m < hi by grind),eC];exact e q
theorem q_mul_den(q:Rat):q*(q.den:Rat)=(q.num:Rat):=by
 have h:=Rat.num_divInt_den q;rw [Rat.divInt_eq_div] at h;have hd:((q.den:Nat):Rat)≠0:=by exact_mod_cast q.den_nz
 have e:(((q.den:Nat):Int):Rat)=((q.den:Nat):Rat):=rfl;rw [e] at h
 calc q*(q.den:Rat)=(q.num:Rat) / (q.den:Rat)*(q.den:Rat):=by rw [h]
  _=(q.num:Rat):=by grind
/-! ### How long the ends are -/
structure Dy(D R j:Nat)(q:Rat):Prop where
 d:∃ z:Int,q*(((D*2^j:Nat)):Rat)=(z:Rat)
 b:Ab q (R:Rat)
theorem den_dvd{q:Rat}{m:Nat}{z:Int}(h:q*(m:Rat)=(z:Rat)):q.den∣m:=by
 have h0:(q.num:Rat)=q*(q.den:Rat):=(q_mul_den q).symm;have h1:(q.num:Rat)*(m:Rat)=(z:Rat)*(q.den:Rat):=by rw [h0,← h];grind
 have h2:q.num*(m:Int)=z*(q.den:Int):=by exact_mod_cast h1
 have hd:(q.den:Int)∣q.num*(m:Int):=⟨z,by rw [h2,Int.mul_comm]⟩;have hd2:q.den∣q.num.natAbs*m:=by
  have:=Int.ofNat_dvd_left.1 hd;rwa [Int.natAbs_mul,Int.natAbs_natCast] at this
 exact Nat.Coprime.dvd_of_dvd_mul_left (Nat.Coprime.symm q.reduced) hd2
theorem neg_cast'{n:Nat}{z:Int}(h: -(n:Int)≤z): -(n:Rat)≤(z:Rat):=by
 have:((-(n:Int):Int):Rat)≤(z:Rat):=by exact_mod_cast h
 rwa [Rat.intCast_neg] at this
theorem neg_cast{n m:Nat}{z:Int}(h: -((n:Rat)*(m:Rat))≤(z:Rat)): -((n*m:Nat):Int)≤z:=by
 have:((-((n*m:Nat):Int):Int):Rat)≤(z:Rat):=by
  rw [Rat.intCast_neg];rw [← Rat.natCast_mul] at h;exact h
 exact_mod_cast this
theorem num_le{q:Rat}{R:Nat}(h:Ab q (R:Rat)):q.num.natAbs≤R*q.den:=by
 have h0:(q.num:Rat)=q*(q.den:Rat):=(q_mul_den q).symm;have hd:(0:Rat)≤(q.den:Rat):=by exact_mod_cast Nat.zero_le _
 have h1:(q.num:Rat)≤(R:Rat)*(q.den:Rat):=by rw [h0];exact Rat.mul_le_mul_of_nonneg_right h.2 hd
 have h2: -((R:Rat)*(q.den:Rat))≤(q.num:Rat):=by
  rw [h0];have:=Rat.mul_le_mul_of_nonneg_right h.1 hd;grind
 have h3:q.num≤((R*q.den:Nat):Int):=by exact_mod_cast h1
 have h4: -((R*q.den:Nat):Int)≤q.num:=neg_cast h2;omega
theorem two_b32(j:Nat):2^j≤B32^(j / 32+1):=by
 rw [show B32=2^32 from rfl,← Nat.pow_mul];exact Nat.pow_le_pow_right (by decide) (by omega)
theorem Dy.tb{D R j a b:Nat}{q:Rat}(h:Dy D R j q)(hD0:D≠0)(hD:D < B32^a)(hR:R≤B32^b):Tb (a+b+j / 32+1) q:=by
 obtain ⟨z,hz⟩:=h.d;have h1:=Nat.le_of_dvd (Nat.mul_pos (by omega) (Nat.two_pow_pos j)) (den_dvd hz);have h2:=two_b32 j;have hp:0 < B32^(j / 32+1):=Nat.pow_pos (by decide);have h3:q.den < B32^a*B32^(j / 32+1):=Nat.lt_of_le_of_lt (Nat.le_trans h1 (Nat.mul_le_mul_left D h2)) (Nat.mul_lt_mul_of_pos_right hD hp);have h4:=num_le h.b;have hb:0 < B32^b:=Nat.pow_pos (by decide);have h5:q.num.natAbs < B32^b*(B32^a*B32^(j / 32+1)):=Nat.lt_of_le_of_lt (Nat.le_trans h4 (Nat.mul_le_mul_right _ hR)) (Nat.mul_lt_mul_of_pos_left h3 hb);have e:B32^(a+b+j / 32+1)=B32^b*(B32^a*B32^(j / 32+1)):=by
  rw [← Nat.pow_add,← Nat.pow_add];congr 1;omega
 refine ⟨by rw [e];exact h5,?_⟩;rw [e];exact Nat.lt_of_lt_of_le h3 (Nat.le_mul_of_pos_left _ hb)
theorem Dy.mono{D R j j':Nat}{q:Rat}(h:Dy D R j q)(k:j≤j'):Dy D R j' q:=by
 obtain ⟨z,hz⟩:=h.d;refine ⟨⟨z*((2^(j'-j):Nat):Int),?_⟩,h.b⟩;have e:D*2^j'=D*2^j*2^(j'-j):=by rw [Nat.mul_assoc,← Nat.pow_add];congr 2;omega
 rw [e,show (((D*2^j*2^(j'-j):Nat)):Rat)=((D*2^j:Nat):Rat)*((2^(j'-j):Nat):Rat) from Rat.natCast_mul _ _,← Rat.mul_assoc,hz];rw [Rat.intCast_mul];rfl
theorem Dy.mid{D R j:Nat}{p q:Rat}(h:Dy D R j p)(k:Dy D R j q):Dy D R (j+1) ((p+q) / 2):=by
 obtain ⟨y,hy⟩:=h.d;obtain ⟨z,hz⟩:=k.d;refine ⟨⟨y+z,?_⟩,?_⟩
 ·have e:D*2^(j+1)=D*2^j*2:=by rw [Nat.pow_succ,Nat.mul_assoc]
  rw [e,show (((D*2^j*2:Nat)):Rat)=((D*2^j:Nat):Rat)*2 from Rat.natCast_mul _ _,Rat.intCast_add,← hy,← hz];grind
 ·have h1:=h.b
  have h2:=k.b;unfold Ab at *
  constructor <;> grind
theorem dy_start{p q:Rat}{R:Nat}(hp:p.num.natAbs≤R):Dy (p.den*q.den) R 0 p:=by
 refine ⟨⟨p.num*(q.den:Int),?_⟩,?_⟩
 ·rw [show p.den*q.den*2^0=p.den*q.den by omega,Rat.natCast_mul,← Rat.mul_assoc,q_mul_den,Rat.intCast_mul];rfl
 ·have h0:(p.num:Rat)=p*(p.den:Rat):=(q_mul_den p).symm
  have hd:(1:Rat)≤(p.den:Rat):=by exact_mod_cast p.den_pos
  have h1:(p.num:Rat)≤(R:Rat):=by
   have:p.num≤(R:Int):=by omega
   exact_mod_cast this
  have h2: -(R:Rat)≤(p.num:Rat):=by
   exact neg_cast' (by omega)
  have hR:(0:Rat)≤(R:Rat):=by exact_mod_cast Nat.zero_le R
  rw [h0] at h1 h2;unfold Ab;constructor
  ·apply Classical.byContradiction
   intro hn;have:(-(R:Rat)-p)*1≤(-(R:Rat)-p)*(p.den:Rat):=Rat.mul_le_mul_of_nonneg_left hd (by grind);have:(R:Rat)*1≤(R:Rat)*(p.den:Rat):=Rat.mul_le_mul_of_nonneg_left hd hR;grind
  ·apply Classical.byContradiction
   intro hn;have:(p-(R:Rat))*1≤(p-(R:Rat))*(p.den:Rat):=Rat.mul_le_mul_of_nonneg_left hd (by grind);have:(R:Rat)*1≤(R:Rat)*(p.den:Rat):=Rat.mul_le_mul_of_nonneg_left hd hR;grind
theorem hlf_dy{c:Nat→Int}{lo hi:Rat}{D R j:Nat}(h:Dy D R j lo)(k:Dy D R j hi):Dy D R (j+1) (hlf c lo hi).1∧Dy D R (j+1) (hlf c lo hi).2:=by
 have m:=h.mid k;have h':=h.mono (Nat.le_succ j);have k':=k.mono (Nat.le_succ j);unfold hlf;split
 ·exact ⟨h',k'⟩
 ·split
  ·exact ⟨m,m⟩
  ·split
   ·exact ⟨h',m⟩
   ·exact ⟨m,k'⟩
/-! ### Far out -/
theorem pe_low{c:Nat→Rat}{x y H:Rat}(hx:Ab x y)(hH:0≤H)(hy:1+H≤y)(h:∀ i,Ab (c i) H):∀ n,Ab (pe c x n) (y^n-1)
 | 0=>ab_zero (by rw [Rat.pow_zero];grind)
 | n+1=>by
  have h1:=(pe_low hx hH hy h n).add ((h n).mul (pw_bd (by grind) hx n));refine h1.mono ?_;have h2:=pow_ge (B:=y) (by grind) n;have h3:y^n*(1+H)≤y^n*y:=Rat.mul_le_mul_of_nonneg_left hy (by grind);rw [Rat.pow_succ];grind
theorem far_pow{x y:Rat}(h:x=y∨x= -y)(hy:1≤y):∀ n:Nat,Far (x^n) (y^n)
 | 0=>Or.inl (by rw [Rat.pow_zero,Rat.pow_zero];grind)
 | n+1=>by
  have h1:Far x y:=by rcases h with h | h;exact Or.inl (by grind);exact Or.inr (by grind)
  have h2:=pow_ge hy n;have:=(far_pow h hy n).mul (d:=y^n) (e:=y) (by grind) (by grind) h1;rw [Rat.pow_succ,Rat.pow_succ];exact this
theorem far_int{z:Int}(h:z≠0):Far (z:Rat) 1:=by
 rcases Int.lt_or_gt_of_ne h with k | k
 ·right
  have:z≤-1:=by omega
  have h3:(z:Rat)≤((-1:Int):Rat):=by exact_mod_cast this
  rwa [Rat.intCast_neg] at h3
 ·left
  have:1≤z:=by omega
  exact_mod_cast this
theorem pf_big{c:Nat→Int}{n:Nat}{x y H:Rat}(hn:c n≠0)(hx:x=y∨x= -y)(hH:0≤H)(hy:1+H≤y)(h:∀ i,Ab (c i:Rat) H):Far (pf c (n+1) x) 1:=by
 have hab:Ab x y:=by rcases hx with k | k <;> unfold Ab <;> constructor <;> grind
 have h1:=pe_low (c:=rc c) hab hH hy h n;have hy1:1≤y:=by grind
 have h2:=pow_ge hy1 n;have h3:=(far_int hn).mul (d:=1) (e:=y^n) (by grind) (by grind) (far_pow hx hy1 n);show Far (pe (rc c) x n+rc c n*x^n) 1
 have e:rc c n=(c n:Rat):=rfl;rw [e];unfold Ab at h1;rcases h3 with h3 | h3
 ·left;grind
 ·right;grind
theorem vc_bd{c:Nat→Int}(z:z20 c)(h0:lg c≠0){H:Rat}(hH:0≤H)(h:∀ i,Ab (c i:Rat) H){C:Cut}(v:VC (FF c) C){q r:Rat}(hq:C q)(hr:¬ C r):q < 1+H∧-(1+H) < r:=by
 have far:∀ t y,(t=y∨t= -y)→1+H≤y→Far (FF c t) 1:=fun t y ht hy=>by
  rw [← FF_lg z,show lg c=(lg c-1)+1 by omega];exact pf_big (lg_ne h0) ht hH hy h
 obtain ⟨t,h1,h2,h3⟩:=v (1 / 2) (by grind) q r hq hr;unfold Ab at h3;constructor
 ·apply Classical.byContradiction
  intro hn
  rcases far t t (Or.inl rfl) (by grind) with k | k <;> grind
 ·apply Classical.byContradiction
  intro hn
  rcases far t (-t) (Or.inr (by grind)) (by grind) with k | k <;> grind
/-! ### Whole places where it is not 0 -/
theorem ex_split(P:Nat→Prop):∀ t,∃ (s:Nat) (xs ys:Nat→Nat),s≤t∧(∀ i j,i < j→j < s→xs i < xs j)∧(∀ i,i < s→xs i < t∧P (xs i))∧(∀ i j,i < j→j < t-s→ys i < ys j)∧(∀ i,i < t-s→ys i < t∧¬ P (ys i))
 | 0=>⟨0,fun _=>0,fun _=>0,Nat.le_refl _,fun _ _ _ h=>absurd h (by omega),fun _ h=>absurd h (by omega),fun _ _ _ h=>absurd h (by omega),fun _ h=>absurd h (by omega)⟩
 | t+1=>by
  obtain ⟨s,xs,ys,h1,h2,h3,h4,h5⟩:=ex_split P t
  by_cases hp:P t
  ·refine ⟨s+1,fun i=>if i=s then t else xs i,ys,by omega,fun i j hij hj=>?_,fun i hi=>?_,fun i j hij hj=>h4 i j hij (by omega),fun i hi=>⟨by have:=(h5 i (by omega)).1;omega,(h5 i (by omega)).2⟩⟩
   ·show (if i=s then t else xs i) < (if j=s then t else xs j)
    rw [if_neg (by omega)]
    by_cases e:j=s
    ·rw [if_pos e];exact (h3 i (by omega)).1
    ·rw [if_neg e];exact h2 i j hij (by omega)
   ·show (if i=s then t else xs i) < t+1∧P (if i=s then t else xs i)
    by_cases e:i=s
    ·rw [if_pos e];exact ⟨by omega,hp⟩
    ·rw [if_neg e];exact ⟨by have:=(h3 i (by omega)).1;omega,(h3 i (by omega)).2⟩
  ·refine ⟨s,xs,fun i=>if i=t-s then t else ys i,by omega,h2,fun i hi=>⟨by have:=(h3 i hi).1;omega,(h3 i hi).2⟩,fun i j hij hj=>?_,fun i hi=>?_⟩
   ·show (if i=t-s then t else ys i) < (if j=t-s then t else ys j)
    rw [if_neg (by omega)]
    by_cases e:j=t-s
    ·rw [if_pos e];exact (h5 i (by omega)).1
    ·rw [if_neg e];exact h4 i j hij (by omega)
   ·show (if i=t-s then t else ys i) < t+1∧¬ P (if i=t-s then t else ys i)
    by_cases e:i=t-s
    ·rw [if_pos e];exact ⟨by omega,hp⟩
    ·rw [if_neg e];exact ⟨by have:=(h5 i (by omega)).1;omega,(h5 i (by omega)).2⟩
theorem cast_small{x n:Nat}(h:x < 2*n):Ab (((x:Nat):Int):Rat) (2*(n:Rat)):=by
 have h1:(0:Rat)≤(((x:Nat):Int):Rat):=nat_nn x;have h2:(((x:Nat):Int):Rat)≤((2*n:Nat):Rat):=nat_le (Nat.le_of_lt h);rw [Rat.natCast_mul] at h2;have e:((2:Nat):Rat)=2:=rfl;rw [e] at h2;unfold Ab;constructor <;> grind
theorem ex_nodes{c:Nat→Int}{n:Nat}(hz:∀ i,n≤i→c i=0){i0:Nat}(hne:c i0≠0):∃ xs:Nat→Nat,(∀ i j,i < j→j < n→xs i < xs j)∧∀ i,i < n→xs i < 2*n∧pf c n (((xs i:Nat):Int):Rat)≠0:=by
 obtain ⟨s,xs,ys,h1,h2,h3,h4,h5⟩:=ex_split (fun k=>pf c n (((k:Nat):Int):Rat)≠0) (2*n)
 by_cases hs:n≤s
 ·exact ⟨xs,fun i j hij hj=>h2 i j hij (by omega),fun i hi=>h3 i (by omega)⟩
 ·exfalso
  have h6:=interp (R:=2*(n:Rat)) (by have:=nat_nn n;grind) n c (fun i=>((ys i:Nat):Int)) 0 hz (fun i j hij hj=>by have:=h4 i j hij (by omega);show ((ys i:Nat):Int)≠((ys j:Nat):Int);omega)
   (fun i hi=>cast_small (h5 i (by omega)).1) (fun i hi=>by
    have:=(h5 i (by omega)).2;have e:pf c n (((ys i:Nat):Int):Rat)=0:=Classical.byContradiction this;rw [e];exact ab_zero (by grind)) (by grind) i0
  rw [Rat.zero_mul] at h6;have:(c i0:Rat)=0:=by unfold Ab at h6;grind
  exact rc_ne hne this
/-- A divisor's coefficients, in the degree alone. -/
theorem dv_small{a b w:Nat→Int}{n k:Nat}{H:Rat}{i0:Nat}(ha:∀ i,n≤i→a i=0)(ha0:a i0≠0)(hn:n≠0)(hb:∀ i,n≤i→b i=0)(hw:∀ i,k≤i→w i=0)(h:∀ i,conv w b i=a i)(hH0:0≤H)(hH:∀ i,Ab (a i:Rat) H)(i:Nat):
  Ab (b i:Rat) ((n:Rat)*(H*(2*(n:Rat))^n)*(10*(n:Rat))^n):=by
 obtain ⟨xs,h1,h2⟩:=ex_nodes ha ha0;have hn1:(1:Rat)≤(n:Rat):=nat_le (a:=1) (by omega);have hval:∀ x,pf a n x=pf w k x*pf b n x:=fun x=>by
  rw [← pf_conv hw hb,show conv w b=a from funext h];exact pz_eq ha fun i hi=>by rw [← h i];exact conv_z0 hw hb i hi
 have hM0:0≤(n:Rat)*(H*(2*(n:Rat))^n):=Rat.mul_nonneg (nat_nn n) (Rat.mul_nonneg hH0 (by have:=pow_ge (B:=2*(n:Rat)) (by grind) n;grind));have key:=interp (R:=2*(n:Rat)) (by grind) n b (fun i=>((xs i:Nat):Int)) _ hb (fun i j hij hj=>by have:=h1 i j hij hj;show ((xs i:Nat):Int)≠((xs j:Nat):Int);omega) (fun i hi=>cast_small (h2 i hi).1) (fun j hj=>by
  obtain ⟨za,hza⟩:=pf_int a ((xs j:Nat):Int) n;obtain ⟨zb,hzb⟩:=pf_int b ((xs j:Nat):Int) n;obtain ⟨zw,hzw⟩:=pf_int w ((xs j:Nat):Int) k;have hne:=(h2 j hj).2;have e1:=hval (((xs j:Nat):Int):Rat);have hA:Ab (pf a n (((xs j:Nat):Int):Rat)) ((n:Rat)*(H*(2*(n:Rat))^n)):=pe_crude (by grind) (cast_small (h2 j hj).1) hH0 n fun t _=>hH t
  rw [hza] at e1 hne hA;rw [hzb,hzw,← Rat.intCast_mul] at e1;show Ab (pf b n (((xs j:Nat):Int):Rat)) _
  rw [hzb];exact ab_factor (by exact_mod_cast e1) (fun e=>hne (by rw [e];rfl)) hA) hM0 i
 refine key.mono (Rat.mul_le_mul_of_nonneg_left ?_ hM0);have:=bet_le (R:=2*(n:Rat)) (by grind) n;rwa [show 5*(2*(n:Rat))=10*(n:Rat) from by grind] at this
/-! ### Roots apart -/
theorem der_ge{f f':Fn}(hd:Der f f'){a b μ:Rat}(hab:a≤b)(hμ:0 < μ)(h:∀ x,a≤x→x≤b→μ≤f' x):μ / 2*(b-a)≤f b-f a:=by
 obtain ⟨B,ha,hb,_⟩:=ex_in a b;obtain ⟨E,hE,hE2⟩:=hd B;obtain ⟨δ,hδ,hs⟩:=ex_small hE (show 0 < μ / 2 by grind);refine cells_ind hδ hab (fun t=>μ / 2*(t-a)≤f t-f a) (by grind) (fun x y hx hxy hy hd' ih=>?_);have h1:=hE2 x y (ha.btw hb hx (by grind)) (ha.btw hb (by grind) hy) (by grind);have h2:=h x hx (by grind);have h3:=hs (y-x) (by grind) hd';have h4:(y-x)*((y-x)*E)≤(y-x)*(μ / 2):=Rat.mul_le_mul_of_nonneg_left (by grind) (by grind);have h5:(y-x)*μ≤(y-x)*f' x:=Rat.mul_le_mul_of_nonneg_left h2 (by grind);unfold Ab at h1;grind
theorem sepC{k1 k2 U V:Fn}{z S L B a b:Rat}{C D:Cut}(hz:1≤z∨z≤-1)(hUV:∀ x,U x*k1 x+V x*k2 x=z)(hU:∀ x,In B x→Ab (U x) S)(hV:∀ x,In B x→Ab (V x) S)(hL:Lip B k2 L)(hL0:0≤L)(ha:In B a)(hb:In B b)(hs:S*(L*(b-a)) < 1)(vC:VC k1 C)(vD:VC k2 D)(ca:C a)(cb:¬ C b)(da:D a)(db:¬ D b):False:=by
 have hS:0≤S:=(hU a ha).nn;obtain ⟨e,he,hse⟩:=ex_small (L:=2*S) (m:=1-S*(L*(b-a))) (by grind) (by grind);have he2:=hse (e / 2) (by grind) (by grind);obtain ⟨x,hx1,hx2,hx⟩:=vC (e / 2) (by grind) a b ca cb;obtain ⟨y,hy1,hy2,hy⟩:=vD (e / 2) (by grind) a b da db;have hxB:=ha.btw hb hx1 hx2;have hyB:=ha.btw hb hy1 hy2;have hgx:Ab (k2 x) (e / 2+L*(b-a)):=by
  by_cases hxy:x≤y
  ·have h1:=hL.ab hxB hyB hxy
   have h2:L*(y-x)≤L*(b-a):=Rat.mul_le_mul_of_nonneg_left (by grind) hL0;unfold Ab at *;constructor <;> grind
  ·have h1:=hL.ab hyB hxB (by grind)
   have h2:L*(x-y)≤L*(b-a):=Rat.mul_le_mul_of_nonneg_left (by grind) hL0;unfold Ab at *;constructor <;> grind
 have h3:=((hU x hxB).mul hx).add ((hV x hxB).mul hgx);rw [hUV] at h3;unfold Ab at h3;rcases hz with hz | hz <;> grind
theorem sepA{f f' U V:Fn}{z S L B a b q:Rat}{C D:Cut}(hC:IsCut C)(hD:IsCut D)(hd:Der f f')(pf':Po f')(hz:1≤z∨z≤-1)(hUV:∀ x,U x*f x+V x*f' x=z)(hU:∀ x,In B x→Ab (U x) S)(hV:∀ x,In B x→Ab (V x) S)(hL:Lip B f' L)(hL0:0≤L)(ha:In B a)(hb:In B b)(hs:S*(L*(b-a)) < 1)(vC:VC f C)(vD:VC f D)(ca:C a)(cb:¬ C b)(da:D a)(db:¬ D b)(hq:D q)(hq':¬ C q):False:=by
 have hS:0≤S:=(hU a ha).nn;obtain ⟨q1,hq1,hDq1⟩:=hD.up q hq;have haq:=hC.nb ca hq';have hqb:=hD.nb hDq1 db;obtain ⟨m,hm⟩:∃ m,m=1-S*(L*(b-a)):=⟨_,rfl⟩
 have hm0:0 < m:=by grind
 obtain ⟨μ1,hμ1,hμs⟩:=ex_small hS (show 0 < m / 2 by grind);obtain ⟨μ,hμ⟩:∃ μ,μ=μ1 / 2:=⟨_,rfl⟩
 have hμ0:0 < μ:=by grind
 have hSμ:=hμs μ hμ0 (by grind);obtain ⟨e1,he1,hes⟩:=ex_small hS (show 0 < m / 2 by grind);have hη:0 < μ / 2*(q1-q):=Rat.mul_pos (by grind) (by grind);obtain ⟨e,he,hea,heb⟩:=ex_min (a:=e1 / 2) (b:=μ / 2*(q1-q) / 4) (by grind) (by grind);have hSe:=hes e he (by grind);obtain ⟨x,hx1,hx2,hx⟩:=vC e he a q ca hq';obtain ⟨y,hy1,hy2,hy⟩:=vD e he q1 b hDq1 db;have hxB:=ha.btw hb hx1 (show x≤b by grind);have far:∀ t,a≤t→t≤b→Far (f' t) μ:=fun t ht1 ht2=>by
  apply Classical.byContradiction;intro hn;have hft:Ab (f' t) μ:=by unfold Far at hn;unfold Ab;constructor <;> grind
  have htB:=ha.btw hb ht1 ht2;have hfx:Ab (f' x) (μ+L*(b-a)):=by
   by_cases hxy:x≤t
   ·have h1:=hL.ab hxB htB hxy
    have h2:L*(t-x)≤L*(b-a):=Rat.mul_le_mul_of_nonneg_left (by grind) hL0;unfold Ab at *;constructor <;> grind
   ·have h1:=hL.ab htB hxB (by grind)
    have h2:L*(x-t)≤L*(b-a):=Rat.mul_le_mul_of_nonneg_left (by grind) hL0;unfold Ab at *;constructor <;> grind
  have h3:=((hU x hxB).mul hx).add ((hV x hxB).mul hfx);rw [hUV] at h3;unfold Ab at h3;rcases hz with hz | hz <;> grind
 obtain ⟨h0,hsg⟩:=far_sign pf' (show a≤b by grind) hμ0 far;unfold Ab at hx hy;have hw:μ / 2*(q1-q)≤μ / 2*(y-x):=Rat.mul_le_mul_of_nonneg_left (by grind) (by grind);rcases sg_pm h0 with hp | hp
 ·have:=der_ge hd (show x≤y by grind) hμ0 (fun t h1 h2=>by
   have h3:=hsg t (by grind) (by grind);rcases far t (by grind) (by grind) with k | k
   ·exact k
   ·exfalso;rw [hp] at h3;have:=sgq_neg (x:=f' t) (by grind);omega)
  grind
 ·have hd':Der (fun x=> -f x) (fun x=> -f' x):=fun B=>by
   obtain ⟨E,hE,h⟩:=hd B;refine ⟨E,hE,fun s t h1 h2 h3=>?_⟩;have:=h s t h1 h2 h3;unfold Ab at *
   constructor <;> grind
  have:=der_ge hd' (show x≤y by grind) hμ0 (fun t h1 h2=>by
   have h3:=hsg t (by grind) (by grind);rcases far t (by grind) (by grind) with k | k
   ·exfalso;rw [hp] at h3;have:=sgq_pos (x:=f' t) (by grind);omega
   ·show μ≤-f' t;grind)
  grind
/-- Powers of two. -/
def t2(k:Nat):Rat:=((2^k:Nat):Rat)
theorem t2_add(a b:Nat):t2 (a+b)=t2 a*t2 b:=by unfold t2;rw [Nat.pow_add];exact Rat.natCast_mul _ _
theorem t2_pos(k:Nat):0 < t2 k:=by unfold t2;exact_mod_cast Nat.two_pow_pos k
theorem t2_one(k:Nat):1≤t2 k:=nat_le (a:=1) (Nat.two_pow_pos k)
theorem t2_mono{a b:Nat}(h:a≤b):t2 a≤t2 b:=nat_le (Nat.pow_le_pow_right (by decide) h)
theorem t2_pow(a:Nat):∀ n:Nat,t2 a^n=t2 (a*n)
 | 0=>by rw [Rat.pow_zero];rfl
 | n+1=>by rw [Rat.pow_succ,t2_pow a n,← t2_add,Nat.mul_succ]
theorem t2_le{n a:Nat}(h:n≤2^a):(n:Rat)≤t2 a:=nat_le h
theorem t2_mul{x y:Rat}{a b:Nat}(hx:x≤t2 a)(hy:y≤t2 b)(hy0:0≤y):x*y≤t2 (a+b):=by
 rw [t2_add];have h1:x*y≤t2 a*y:=Rat.mul_le_mul_of_nonneg_right hx hy0;have h2:t2 a*y≤t2 a*t2 b:=Rat.mul_le_mul_of_nonneg_left hy (by have:=t2_pos a;grind);grind
theorem pow_nn{x:Rat}(h:0≤x):∀ n:Nat,0≤x^n
 | 0=>by rw [Rat.pow_zero];grind
 | n+1=>by rw [Rat.pow_succ];exact Rat.mul_nonneg (pow_nn h n) h
theorem pow_le_pow{x y:Rat}(h:0≤x)(k:x≤y):∀ n:Nat,x^n≤y^n
 | 0=>by rw [Rat.pow_zero,Rat.pow_zero];grind
 | n+1=>by
  rw [Rat.pow_succ,Rat.pow_succ];have h1:=Rat.mul_le_mul_of_nonneg_right (pow_le_pow h k n) h;have h2:=Rat.mul_le_mul_of_nonneg_left k (pow_nn (show 0≤y by grind) n);grind
theorem lg_two:∀ n,n≤40→n≤2^(n / 2+1):=by
 intro n hn;have:∀ m:Fin 41,m.val≤2^(m.val / 2+1):=by decide
 exact this ⟨n,by omega⟩
/-- A row's size on an interval, and how steep it is. -/
theorem row_bd{u:Nat→Int}{m n a k bl:Nat}{H:Rat}(hm:m≤n)(ha:n≤2^a)(hu:∀ i,Ab (u i:Rat) H)(hH:H≤t2 k):(∀ x,In (t2 bl) x→Ab (pz u x m) (t2 (3*a+bl*n+k)))∧Lip (t2 bl) (fun x=>pz u x m) (t2 (3*a+bl*n+k)):=by
 have hH0:0≤H:=(hu 0).nn;have hB:=t2_one bl;have hn:(n:Rat)≤t2 a:=t2_le ha;have hn0:=nat_nn n;have hm':(m:Rat)≤(n:Rat):=nat_le hm;have hTB:TB n H (t2 bl)≤t2 (a+a+bl*n+k):=by
  unfold TB;rw [t2_pow];exact t2_mul (t2_mul (t2_mul hn hn hn0) (by grind) (by have:=t2_pos (bl*n);grind)) hH hH0
 have hT0:=tb_nn (N:=n) hB hH0;have hall:(m:Rat)*TB n H (t2 bl)≤t2 (3*a+bl*n+k):=by
  have h1:=t2_mul (show (m:Rat)≤t2 a by grind) hTB hT0;rwa [show a+(a+a+bl*n+k)=3*a+bl*n+k by omega] at h1
 refine ⟨fun x hx=>(pe_bd hB hH0 (ab_in hx (by grind)) hm fun i _=>hu i).mono hall,fun x y hx hy hxy=>?_⟩;have h1:=pe_lip (c:=rc u) hB hH0 (ab_in hx (show t2 bl≤t2 bl by grind)) (ab_in hy (by grind)) hxy hm fun i _=>hu i
 have h2:(m:Rat)*TB n H (t2 bl)*(y-x)≤t2 (3*a+bl*n+k)*(y-x):=Rat.mul_le_mul_of_nonneg_right hall (by grind);have h3:=h1.mono h2;unfold Ab at h3;show pe (rc u) y m-pe (rc u) x m≤_∧pe (rc u) x m-pe (rc u) y m≤_
 constructor <;> grind
theorem ab_t2{z:Int}{H:Nat}(h: -(H:Int)≤z∧z≤H):Ab (z:Rat) (H:Rat):=by
 constructor
 ·exact neg_cast' h.1
 ·have:(z:Rat)≤(((H:Nat):Int):Rat):=by exact_mod_cast h.2
  exact this
theorem z_far{z:Int}(h:z≠0):1≤(z:Rat)∨(z:Rat)≤-1:=far_int h
theorem FF_pz{c:Nat→Int}(z:z20 c){n:Nat}(h:∀ i,n≤i→c i=0)(x:Rat):pz c x n=FF c x:=congrFun (FF_pf h z) x
/-- f with its derivative: all is small. -/
theorem capA{c:Nat→Int}(zc:z20 c)(sq:Sqf (FF c) (FF (fder c)))(h2:2≤lg c){h1:Nat}(hc:∀ i,(c i).natAbs≤2^h1)(bl a:Nat)(ha:lg c≤2^a):
  ∃ (U V:Fn) (z:Rat),(1≤z∨z≤-1)∧(∀ x,U x*FF c x+V x*FF (fder c) x=z)∧(∀ x,In (t2 bl) x→Ab (U x) (t2 (3*a+bl*lg c+(2+a+(a+h1))*(2*lg c-3))))∧(∀ x,In (t2 bl) x→Ab (V x) (t2 (3*a+bl*lg c+(2+a+(a+h1))*(2*lg c-3))))∧Lip (t2 bl) (FF (fder c)) (t2 (3*a+bl*lg c+(a+h1))):=by
 obtain ⟨n,hn⟩:∃ n,n=lg c:=⟨_,rfl⟩
 rw [← hn] at h2 ha ⊢;have hz:∀ i,n≤i→c i=0:=by rw [hn];exact zc.lg
 have htop:c (n-1)≠0:=by rw [hn];exact lg_ne (by omega)
 have hz':∀ i,n-1≤i→fder c i=0:=fun i hi=>by unfold fder;rw [hz (i+1) (by omega)];simp
 have htop':fder c (n-2)≠0:=by
  unfold fder;rw [show n-2+1=n-1 by omega];exact Int.mul_ne_zero htop (by omega)
 obtain ⟨H,hH⟩:∃ H,H=n*2^h1:=⟨_,rfl⟩
 have hp:=Nat.two_pow_pos h1;have hle:2^h1≤H:=by rw [hH];exact Nat.le_mul_of_pos_left _ (by omega)
 have bc:∀ i,-(H:Int)≤c i∧c i≤H:=fun i=>by have:=hc i;omega
 have bc':∀ i,-(H:Int)≤fder c i∧fder c i≤H:=fun i=>by
  by_cases hi:n-1≤i
  ·rw [hz' i hi];omega
  ·have e:(fder c i).natAbs≤H:=by
    unfold fder;rw [Int.natAbs_mul,hH,Nat.mul_comm];exact Nat.mul_le_mul (by omega) (hc _)
   omega
 obtain ⟨U,V,z,hz0,hU0,hV0,bU,bV,hUV⟩:=combine (c:=c) (c':=fder c) (γ:=fun i=>if i=0 then 1 else 0) (d:=n-1) (e:=n-2) (r:=0) (H:=H) (k1:=FF c) (k2:=FF (fder c)) (fun i hi=>hz i (by omega)) (fun i hi=>hz' i (by omega)) (fun i hi=>if_neg (by omega)) htop htop' (by decide) (by decide) (by omega) bc bc' sq.po sq.po'
  (fun x=>by rw [FF_pz zc (fun i hi=>hz i (by omega))];show _=FF c x*(0+1*x^0);rw [Rat.pow_zero];grind)
  (fun x=>by rw [FF_pz (z20_der zc) (fun i hi=>hz' i (by omega))];show _=FF (fder c) x*(0+1*x^0);rw [Rat.pow_zero];grind) sq.cop (by omega) (by omega) (by omega)
 have hKH:(((2*(n-1+(n-2))*H)^(n-1+(n-2)):Nat):Rat)≤t2 ((2+a+(a+h1))*(2*n-3)):=by
  refine t2_le ?_;rw [Nat.pow_mul,show n-1+(n-2)=2*n-3 by omega];refine Nat.pow_le_pow_left ?_ _;have e:2*(2*n-3)≤2^(2+a):=by rw [Nat.pow_add];omega
  have e2:H≤2^(a+h1):=by rw [hH,Nat.pow_add];exact Nat.mul_le_mul_right _ ha
  rw [Nat.pow_add];exact Nat.mul_le_mul e e2
 have rU:=row_bd (u:=U) (m:=n-2-0) (n:=n) (bl:=bl) (by omega) ha (fun i=>ab_t2 (bU i)) hKH;have rV:=row_bd (u:=V) (m:=n-1-0) (n:=n) (bl:=bl) (by omega) ha (fun i=>ab_t2 (bV i)) hKH;have rL:=row_bd (u:=fder c) (m:=n-1) (n:=n) (bl:=bl) (k:=a+h1) (by omega) ha (fun i=>ab_t2 (bc' i)) (t2_le (by rw [hH,Nat.pow_add];exact Nat.mul_le_mul_right _ ha));refine ⟨fun x=>pz U x (n-2-0),fun x=>pz V x (n-1-0),(z:Rat),z_far hz0,fun x=>?_,rU.1,rV.1,?_⟩
 ·have h:=hUV x
  rw [FF_pz zc (fun i hi=>hz i (by omega)),FF_pz (z20_der zc) (fun i hi=>hz' i (by omega))] at h;rw [h];show (z:Rat)*(0+1*x^0)=z
  rw [Rat.pow_zero];grind
 ·have e:(fun x=>pz (fder c) x (n-1))=FF (fder c):=funext fun x=>FF_pz (z20_der zc) hz' x
  rw [← e];exact rL.2
/-- Both have a greatest common divisor, with whole quotients. -/
theorem ex_gcdI{c d:Nat→Int}(zc:z20 c)(zd:z20 d)(hc:lg c≠0)(hd:lg d≠0):∃ γ k1 k2:Nat→Int,z20 γ∧lg γ≠0∧gcdN γ (lg γ)=1∧z20 k1∧z20 k2∧(∀ i,conv k1 γ i=c i)∧(∀ i,conv k2 γ i=d i)∧lg γ≤lg c∧lg γ≤lg d∧Cop (FF k1) (FF k2)∧(∀ x,FF c x=FF k1 x*FF γ x)∧∀ x,FF d x=FF k2 x*FF γ x:=by
  obtain ⟨D,u,v,s,t,pD,pu,pv,ps,pt,h1,h2,h3⟩:=po_gcd 20 (FF c) (FF d) (FF_po zc) ⟨rc d,rc_z zd,fun _=>rfl⟩;have hD:∃ x,D x≠0:=by
    obtain ⟨x,hx⟩:=FF_nz zc hc;refine ⟨x,fun e=>hx ?_⟩;rw [h2,e,Rat.mul_zero]
  obtain ⟨k,α,hk⟩:=po_deg pD hD;have hkc:=Dv.deg ⟨s,ps,h2⟩ hk (FF_lc zc hc);have hlc:=lg_le c;obtain ⟨q,hq1,hq2,hq3,hq⟩:=hk;obtain ⟨m,w,hm,hw,e⟩:=whole_row (q:=q) (k:=k+1) fun i hi=>hq1 i (by omega)
  have zw:z20 w:=fun i hi=>hw i (by omega)
  have hm0 : (m : Rat) ≠ 0 := by have : (0 : Rat) < (m : Rat) := by exact_mod_cast hm
                                 grind
  have hFw:∀ x,FF w x=D x*(m:Rat):=fun x=>by
    rw [← FF_pz zw hw,hq x];show pe (rc w) x (k+1)=_
    rw [← pe_scl];exact pe_congr fun i _=>e i
  have hw0:lg w≠0:=fun e0=>by
    obtain ⟨x,hx⟩:=hD;have:=(FF_zero zw).1 e0 x;rw [hFw] at this;rcases Rat.mul_eq_zero.1 this with h | h
    · exact hx h
    · exact hm0 h
  obtain ⟨σ,hσ,hFp⟩:=FF_prm_pos zw hw0;have pm:=prm20_pm zw hw0;have zγ:=prm20_z zw;obtain ⟨γ,hγ⟩:∃ γ,γ=prm20 w:=⟨_,rfl⟩
  rw [← hγ] at hFp pm zγ;have hDγ:∀ x,D x=σ / (m:Rat)*FF γ x:=fun x=>by
    have h4:=hFp x;rw [hFw] at h4;have:D x=D x*(m:Rat) / (m:Rat):=by grind
    rw [this,h4];grind
  have ec:∀ x,FF c x=(s x*(σ / (m:Rat)))*FF γ x:=fun x=>by rw [h2 x,hDγ x];grind
  have ed:∀ x,FF d x=(t x*(σ / (m:Rat)))*FF γ x:=fun x=>by rw [h3 x,hDγ x];grind
  obtain ⟨k1,n1,z1,c1,e1⟩:=exact_row zc.lg zγ.lg pm.one (ps.scl (σ / (m:Rat))) (fun x=>by rw [FF_lg zc,FF_lg zγ];exact ec x);obtain ⟨k2,n2,z2,c2,e2⟩:=exact_row zd.lg zγ.lg pm.one (pt.scl (σ / (m:Rat))) (fun x=>by rw [FF_lg zd,FF_lg zγ];exact ed x);have y1:=quo20 zγ zc pm.pos z1 c1;have y2:=quo20 zγ zd pm.pos z2 c2;have f1:∀ x,FF k1 x=s x*(σ / (m:Rat)):=fun x=>by rw [← FF_pz y1 z1];exact e1 x
  have f2:∀ x,FF k2 x=t x*(σ / (m:Rat)):=fun x=>by rw [← FF_pz y2 z2];exact e2 x
  have g1:∀ x,FF c x=FF k1 x*FF γ x:=fun x=>by rw [f1];exact ec x
  have g2:∀ x,FF d x=FF k2 x*FF γ x:=fun x=>by rw [f2];exact ed x
  refine ⟨γ,k1,k2,zγ,pm.pos,pm.one,y1,y2,c1,c2,(lg_dv zc zγ hc ⟨_,FF_po y1,g1⟩).2,(lg_dv zd zγ hd ⟨_,FF_po y2,g2⟩).2,?_,g1,g2⟩;have hne:=FF_nz zγ pm.pos;have hτ:σ / (m:Rat)≠0:=fun h=>by
    have:σ=σ / (m:Rat)*(m:Rat):=by grind
    rw [h,Rat.zero_mul] at this;exact hσ this
  refine ⟨fun x=>u x*((m:Rat) / σ),fun x=>v x*((m:Rat) / σ),pu.scl _,pv.scl _,fun x=>?_⟩;refine po_cancel2 (FF_po zγ) hne (((pu.scl ((m:Rat) / σ)).mul (FF_po y1)).add ((pv.scl ((m:Rat) / σ)).mul (FF_po y2))) (po_const 1) (fun x=>?_) x;have h5:=h1 x;rw [hDγ x,g1 x,g2 x] at h5;have h6:FF γ x=(u x*(FF k1 x*FF γ x)+v x*(FF k2 x*FF γ x))*((m:Rat) / σ):=by
    rw [← h5];have:σ / (m:Rat)*((m:Rat) / σ)=1:=by grind
    grind
  grind
/-- Two: all is small. -/
theorem capC{c d γ k1 k2:Nat→Int}(zc:z20 c)(zd:z20 d)(zγ:z20 γ)(y1:z20 k1)(y2:z20 k2)(hc2:2≤lg c)(hd2:2≤lg d)(hγ0:lg γ≠0)(pm:gcdN γ (lg γ)=1)(c2:∀ i,conv k2 γ i=d i)(hγc:lg γ≤lg c)(hγd:lg γ≤lg d)(hne:lg γ < lg c∨lg γ < lg d)(cop:Cop (FF k1) (FF k2))(g1:∀ x,FF c x=FF k1 x*FF γ x)(g2:∀ x,FF d x=FF k2 x*FF γ x) 
  {hm h2:Nat} (hc:∀ i,(c i).natAbs≤2^hm) (hd:∀ i,(d i).natAbs≤2^hm) (hdd:∀ i,(d i).natAbs≤2^h2) (bl a a2 N:Nat) (hN:N=lg c+lg d) (ha:N≤2^a) (ha2:lg d≤2^a2):
  ∃ (U V:Fn) (z:Rat),(1≤z∨z≤-1)∧(∀ x,U x*FF k1 x+V x*FF k2 x=z)∧(∀ x,In (t2 bl) x→Ab (U x) (t2 (3*a+bl*N+(1+a+hm)*(N-2))))∧(∀ x,In (t2 bl) x→Ab (V x) (t2 (3*a+bl*N+(1+a+hm)*(N-2))))∧Lip (t2 bl) (FF k2) (t2 (3*a2+bl*lg d+(a2+(h2+(1+a2)*lg d)+(4+a2)*lg d))):=by
 obtain ⟨n1,e1⟩:∃ n,n=lg c:=⟨_,rfl⟩
 obtain ⟨n2,e2⟩:∃ n,n=lg d:=⟨_,rfl⟩
 obtain ⟨r,er⟩:∃ r,r+1=lg γ:=⟨lg γ-1,by omega⟩
 rw [← e1] at hc2 hγc hne hN;rw [← e2] at hd2 hγd hne hN ha2 ⊢;rw [← er] at hγc hγd hne pm;have hz1:∀ i,n1≤i→c i=0:=by rw [e1];exact zc.lg
 have hz2:∀ i,n2≤i→d i=0:=by rw [e2];exact zd.lg
 have hzγ:∀ i,r+1≤i→γ i=0:=by rw [er];exact zγ.lg
 have t1:c (n1-1)≠0:=by rw [e1];exact lg_ne (by omega)
 have t2':d (n2-1)≠0:=by rw [e2];exact lg_ne (by omega)
 have t3:γ r≠0:=by have:=lg_ne (c:=γ) (by omega);rwa [← er,Nat.add_sub_cancel] at this
 have hp:=Nat.two_pow_pos hm;obtain ⟨U,V,z,hz0,hU0,hV0,bU,bV,hUV⟩:=combine (c:=c) (c':=d) (γ:=γ) (d:=n1-1) (e:=n2-1) (r:=r) (H:=2^hm) (k1:=FF k1) (k2:=FF k2) (fun i hi=>hz1 i (by omega)) (fun i hi=>hz2 i (by omega)) (fun i hi=>hzγ i (by omega)) t1 t2' t3 pm (by omega) (fun i=>by have:=hc i;omega) (fun i=>by have:=hd i;omega) (FF_po y1) (FF_po y2)
  (fun x=>by rw [FF_pz zc (fun i hi=>hz1 i (by omega)),FF_pz zγ hzγ];exact g1 x)
  (fun x=>by rw [FF_pz zd (fun i hi=>hz2 i (by omega)),FF_pz zγ hzγ];exact g2 x) cop (by omega) (by omega) (by omega)
 have hKH:(((2*(n1-1+(n2-1))*2^hm)^(n1-1+(n2-1)):Nat):Rat)≤t2 ((1+a+hm)*(N-2)):=by
  refine t2_le ?_;rw [Nat.pow_mul,show n1-1+(n2-1)=N-2 by omega];refine Nat.pow_le_pow_left ?_ _;have e:2*(N-2)≤2^(1+a):=by rw [Nat.pow_add];omega
  rw [Nat.pow_add (m:=1+a)];exact Nat.mul_le_mul e (Nat.le_refl _)
 have rU:=row_bd (u:=U) (m:=n2-1-r) (n:=N) (bl:=bl) (by omega) ha (fun i=>ab_t2 (bU i)) hKH;have rV:=row_bd (u:=V) (m:=n1-1-r) (n:=N) (bl:=bl) (by omega) ha (fun i=>ab_t2 (bV i)) hKH;have hk2z:∀ i,n2≤i→k2 i=0:=fun i hi=>by
  have h5:=lg_dv zd y2 (by omega) ⟨FF γ,FF_po zγ,fun x=>by rw [g2 x];grind⟩;exact y2.lg i (by omega)
 have hcc:∀ i,conv γ k2 i=d i:=fun i=>by rw [← c2 i];exact conv_comm _ _ i
 have hk2b:=dv_small (a:=d) (b:=k2) (w:=γ) (n:=n2) (k:=r+1) (H:=t2 h2) (i0:=n2-1) hz2 t2' (by omega) hk2z hzγ hcc (by have:=t2_pos h2;grind) (fun i=>ab_t2 (H:=2^h2) (by have:=hdd i;omega));have hn2:(n2:Rat)≤t2 a2:=t2_le ha2;have hn20:=nat_nn n2;have hkb:(n2:Rat)*(t2 h2*(2*(n2:Rat))^n2)*(10*(n2:Rat))^n2≤t2 (a2+(h2+(1+a2)*n2)+(4+a2)*n2):=by
  have q1:(2*(n2:Rat))^n2≤t2 ((1+a2)*n2):=by
   rw [← t2_pow];exact pow_le_pow (by grind) (by rw [t2_add];have:t2 1=2:=rfl;rw [this];grind) n2
  have q2:(10*(n2:Rat))^n2≤t2 ((4+a2)*n2):=by
   rw [← t2_pow];exact pow_le_pow (by grind) (by rw [t2_add];have:t2 4=16:=rfl;rw [this];grind) n2
  have p1:=pow_nn (x:=2*(n2:Rat)) (by grind) n2;have p2:=pow_nn (x:=10*(n2:Rat)) (by grind) n2;exact t2_mul (t2_mul hn2 (t2_mul (by grind) q1 p1) (Rat.mul_nonneg (by have:=t2_pos h2;grind) p1)) q2 p2
 have rL:=row_bd (u:=k2) (m:=n2) (n:=n2) (bl:=bl) (by omega) ha2 hk2b hkb;have hne':=FF_nz zγ hγ0;refine ⟨fun x=>pz U x (n2-1-r),fun x=>pz V x (n1-1-r),(z:Rat),z_far hz0,fun x=>?_,rU.1,rV.1,?_⟩
 ·refine po_cancel2 (FF_po zγ) hne' (((pf_po (c:=U) hU0).mul (FF_po y1)).add ((pf_po (c:=V) hV0).mul (FF_po y2))) (po_const (z:Rat)) (fun x=>?_) x
  have h:=hUV x;rw [FF_pz zc (fun i hi=>hz1 i (by omega)),FF_pz zd (fun i hi=>hz2 i (by omega)),FF_pz zγ hzγ,g1 x,g2 x] at h;show FF γ x*(pz U x (n2-1-r)*FF k1 x+pz V x (n1-1-r)*FF k2 x)=FF γ x*(z:Rat)
  grind
 ·have e:(fun x=>pz k2 x n2)=FF k2:=funext fun x=>FF_pz y2 hk2z x
  rw [← e];exact rL.2
theorem expA{n1 n2 h1 h2 hl:Nat}(a1:2≤n1)(a2:n1≤20)(a3:2≤n2)(b1:hl≤h1)(b2:hl≤h2):(3*(n1 / 2+1)+(hl+2)*n1+(2+(n1 / 2+1)+((n1 / 2+1)+h1))*(2*n1-3))+(3*(n1 / 2+1)+(hl+2)*n1+((n1 / 2+1)+h1)) < 20+2*(n1+n2)*(h1+h2+(n1+n2)+8):=by
 have hm:2*(n1+2)*(h1+hl+(n1+2)+8)≤2*(n1+n2)*(h1+h2+(n1+n2)+8):=Nat.mul_le_mul (by omega) (by omega);refine Nat.lt_of_lt_of_le ?_ (Nat.add_le_add_left hm 20);have h:n1=2∨n1=3∨n1=4∨n1=5∨n1=6∨n1=7∨n1=8∨n1=9∨n1=10∨n1=11∨n1=12∨n1=13∨n1=14∨n1=15∨n1=16∨n1=17∨n1=18∨n1=19∨n1=20:=by omega
 rcases h with rfl | rfl | rfl | rfl | rfl | rfl | rfl | rfl | rfl | rfl | rfl | rfl | rfl | rfl | rfl | rfl | rfl | rfl | rfl <;> omega
theorem expC{n1 n2 h1 h2 hl:Nat}(a1:2≤n1)(a2:n1≤20)(a3:2≤n2)(a4:n2≤20)(b1:hl≤h1)(b2:hl≤h2)(b3:hl=h1∨hl=h2):(3*((n1+n2) / 2+1)+(hl+2)*(n1+n2)+(1+((n1+n2) / 2+1)+max h1 h2)*((n1+n2)-2))+(3*(n2 / 2+1)+(hl+2)*n2+((n2 / 2+1)+(h2+(1+(n2 / 2+1))*n2)+(4+(n2 / 2+1))*n2)) < 20+2*(n1+n2)*(h1+h2+(n1+n2)+8):=by
 have h:n1=2∨n1=3∨n1=4∨n1=5∨n1=6∨n1=7∨n1=8∨n1=9∨n1=10∨n1=11∨n1=12∨n1=13∨n1=14∨n1=15∨n1=16∨n1=17∨n1=18∨n1=19∨n1=20:=by omega
 have h':n2=2∨n2=3∨n2=4∨n2=5∨n2=6∨n2=7∨n2=8∨n2=9∨n2=10∨n2=11∨n2=12∨n2=13∨n2=14∨n2=15∨n2=16∨n2=17∨n2=18∨n2=19∨n2=20:=by omega
 rcases h with rfl | rfl | rfl | rfl | rfl | rfl | rfl | rfl | rfl | rfl | rfl | rfl | rfl | rfl | rfl | rfl | rfl | rfl | rfl <;> rcases h' with rfl | rfl | rfl | rfl | rfl | rfl | rfl | rfl | rfl | rfl | rfl | rfl | rfl | rfl | rfl | rfl | rfl | rfl | rfl <;> omega
theorem aPoint{K L M:Nat}{c:Nat→Int}{lo hi:Rat}(hL:L≤1000000:=by omega)(hM:M≤1000000:=by omega):ACall Tryz.prog 64 [.agg ([.row 2 (lg c) (zel K c)] ++tn L lo ++tn M hi)] (.d (.one (.v (.bool (decide (hi≤lo)))))):=by
 exact aN 9 [.tmp 2] Tryz.func64 rfl<|cR<|mO rfl<|mW rfl<|mT<|cR<|mv4 rfl rfl rfl rfl<|mY aCmpN rfl<|mV hTT (.d (.one (.v (.bool (decide (hi≤lo)))))) (evb (decide_eq_decide.2 cmpQ_ge))<|mW rfl<|mT<|cRet<|rQ rfl (AV.le.rfl)
theorem aLow{K L:Nat}{c:Nat→Int}{t:Rat}(hz:z20 c)(hK:K≤10000000-2:=by omega)(hL:L≤1000000:=by omega):ACall Tryz.prog 101 [.one (prow K (lg c) c),.agg (tn L t)] (.d (.one (.v (.int .i64 (aft (FF c) (FF (fder c)) t))))):=by
 have hlc:=lg_le c;have hld:=dg_le (fder c) (lg c-1);refine aN 16 [.tmp 4] Tryz.func101 rfl<|cR<|mO rfl<|mW rfl<|mT<|cSeq<|cR<|mv2 rfl rfl<|mY (aSignN (isp (K:=K) (c:=c) (z20.lg hz)) hz) rfl<|mW rfl<|mT<|cSeq ?_
 by_cases h0:sgq (FF c t)=0
 ·exact cReg<|mW rfl<|mbF rfl (by rw [h0];rfl)<|mT<|cFs rfl<|cSeq<|cDk 5<|.cons (OpS.V _ rfl)<|oC (aPDer (isp (K:=K) (c:=c) (z20.lg hz)) (M:=(K+2))) rfl<|oV rfl<|oC (aSignN (isp (K:=(K+2)) (c:=(fder c)) (dg_z (fder_z (z20.lg hz)))) (z20_der hz)) rfl<|.cons (OpS.V _ rfl)<|.nil<|mT<|cRet<|rQ rfl (le_int ((aft_of0 h0).symm))
 ·exact cReg<|mW rfl<|mbT rfl (bne_iff_ne.2 h0)<|mT<|cT rfl<|cR<|mv2 rfl rfl<|mT<|cRet<|tR<|rQ rfl (le_int ((aft_of h0).symm))
def hasB(c:Nat→Int)(lo hi:Rat):Bool:=decide (sgq (FF c hi)=0∨sgq (FF c hi)≠aft (FF c) (FF (fder c)) lo)
theorem hasB_zero{c:Nat→Int}{lo hi:Rat}(h:sgq (FF c hi)=0):hasB c lo hi=true:=decide_eq_true (Or.inl h)
theorem hasB_ne{c:Nat→Int}{lo hi:Rat}(h:sgq (FF c hi)≠0):hasB c lo hi=(sgq (FF c hi) !=aft (FF c) (FF (fder c)) lo):=by
 unfold hasB
 by_cases k:sgq (FF c hi)=aft (FF c) (FF (fder c)) lo
 ·rw [decide_eq_false (by rintro (h' | h');exact h h';exact h' k),k];simp
 ·rw [decide_eq_true (Or.inr k)];exact (bne_iff_ne.2 k).symm
theorem aHas{K L M:Nat}{c:Nat→Int}{lo hi:Rat}(hz:z20 c)(hK:K≤10000000-2:=by omega)(hL:L≤1000000:=by omega)(hM:M≤1000000:=by omega):ACall Tryz.prog 70 [.one (prow K (lg c) c),.agg (tn L lo),.agg (tn M hi)] (.d (.one (.v (.bool (hasB c lo hi))))):=by
 have hlc:=lg_le c;refine aN 20 [.tmp 6] Tryz.func70 rfl<|cR<|mO rfl<|mO rfl<|mW rfl<|mT<|cR<|mv2 rfl rfl<|mY (aSignN (isp (K:=K) (c:=c) (z20.lg hz)) hz) rfl<|mW rfl<|mT<|cSeq ?_
 by_cases h0:sgq (FF c hi)=0
 ·exact cReg<|mW rfl<|mbT rfl (beq_iff_eq.2 h0)<|mW rfl<|mG rfl rfl<|mG rfl rfl<|mG rfl rfl<|mG rfl rfl<|mG rfl rfl<|mv2 rfl rfl<|mT<|cRet<|rQ rfl (le_bool ((hasB_zero h0).symm))
 ·exact cReg<|mW rfl<|mbF rfl (beq_eq_false_iff_ne.2 h0)<|mv4 rfl rfl rfl rfl<|mY (aLow hz) rfl<|mv3 rfl rfl rfl<|mT<|cRet<|rQ rfl (le_bool ((hasB_ne h0).symm))
theorem aANorm{K L M:Nat}{c:Nat→Int}{lo hi:Rat}(hz:z20 c)(hK:K≤10000000:=by omega)(hL:L≤1000000:=by omega)(hM:M≤1000000:=by omega):ACall Tryz.prog 63 [.agg ([.row 2 (lg c) (zel K c)] ++tn L lo ++tn M hi)] (.d (.agg ([.row 2 (lg c) (zel K c)] ++tn L lo ++tn M hi))):=by
 have hlc:=lg_le c;have hd:dg c (lg c)=lg c:=lg_dg hz.lg hz;exact aN 13 [.cell 2 40] Tryz.func63 rfl<|cR<|mO rfl<|mO rfl<|mT<|cSeq<|cDk 10<|oV rfl<|oV rfl<|oC (aPNorm (isp (K:=K) (c:=c) (z20.lg hz))) rfl<|oV rfl<|oV rfl<|oC aMaxN rfl<|oV rfl<|oV rfl<|oC aMaxN rfl<|oV rfl<|.nil<|mZ rfl<|mT<|cRet<|rQ rfl (by rw [hd];exact AV.le.rfl)
theorem aCmpRat{K L M N:Nat}{c:Nat→Int}{lo hi t:Rat}(hA:OkA c lo hi)(hK:K≤10000000-2:=by omega)(hL:L≤1000000:=by omega)(hM:M≤1000000:=by omega)(hN:N≤1000000:=by omega):ACall Tryz.prog 65 [.agg ([.row 2 (lg c) (zel K c)] ++tn L lo ++tn M hi),.agg (tn N t)] (.d (.one (.v (.int .i64 (cmpC (cutA c lo hi) (cutP t)))))):=by
 have hlc:=lg_le c;refine aN 40 [.tmp 4] Tryz.func65 rfl<|cR<|mO rfl<|mO rfl<|mW rfl<|mT<|cSeq<|cBlock<|cR<|mW rfl<|mY aPoint rfl<|mW rfl<|mT<|cCond rfl (fun hc1=>?_) (fun hc1=>?_)
 ·exact cR<|mv3 rfl rfl rfl<|mY aCmpN rfl<|mW rfl<|mT<|cRet<|bR<|tR<|rQ rfl (le_int (by rw [hA.rat t,if_pos (of_decide_eq_true hc1)]))
 ·refine cR<|mv3 rfl rfl rfl<|mY aCmpN rfl<|mv2 rfl rfl<|mT<|cCond rfl (fun hc2=>?_) (fun hc2=>?_)
  ·exact cR<|mW rfl<|mT<|cRet<|bR<|tR<|rQ rfl (le_int (by rw [hA.rat t,if_neg (of_decide_eq_false hc1),if_pos (cmpQ_le.1 (of_decide_eq_true hc2))]))
  ·refine cR<|mv3 rfl rfl rfl<|mY aCmpN rfl<|mv2 rfl rfl<|mT<|cCond rfl (fun hc3=>?_) (fun hc3=>?_)
   ·exact cR<|mW rfl<|mT<|cRet<|bR<|tR<|rQ rfl (le_int (by rw [hA.rat t,if_neg (of_decide_eq_false hc1),if_neg (fun h=>(of_decide_eq_false hc2) (cmpQ_le.2 h)),if_pos (Rat.not_le.1 (fun h=>Int.not_lt.2 (cmpQ_le.2 h) (of_decide_eq_true hc3)))]))
   ·refine cSkip<|bN<|tN<|cR<|mv3 rfl rfl rfl<|mY (aSignN (isp (K:=K) (c:=c) (z20.lg hA.z)) hA.z) rfl<|mW rfl<|mT<|cSeq<|cBlock<|cR<|mv3 rfl rfl rfl<|mT<|cCond rfl (fun hc4=>?_) (fun hc4=>?_)
    ·exact cR<|mW rfl<|mT<|cRet<|bR<|tR<|rQ rfl (le_int (by rw [hA.rat t,if_neg (of_decide_eq_false hc1),if_neg (fun h=>(of_decide_eq_false hc2) (cmpQ_le.2 h)),if_neg (fun h=>(of_decide_eq_false hc3) (by have:=cmpQ_gt h;omega)),if_pos (beq_iff_eq.1 hc4)]))
    ·refine cR<|mv5 rfl rfl rfl rfl rfl<|mY (aLow hA.z) rfl<|mv2 rfl rfl<|mT<|cCond rfl (fun hc5=>?_) (fun hc5=>?_)
     ·exact cR<|mW rfl<|mT<|cRet<|bR<|tR<|rQ rfl (le_int (by rw [hA.rat t,if_neg (of_decide_eq_false hc1),if_neg (fun h=>(of_decide_eq_false hc2) (cmpQ_le.2 h)),if_neg (fun h=>(of_decide_eq_false hc3) (by have:=cmpQ_gt h;omega)),if_neg (beq_eq_false_iff_ne.1 hc4),if_pos (beq_iff_eq.1 hc5)]))
     ·exact cSkip<|bN<|tN<|cR<|mW rfl<|mT<|cRet<|rQ rfl (le_int (by rw [hA.rat t,if_neg (of_decide_eq_false hc1),if_neg (fun h=>(of_decide_eq_false hc2) (cmpQ_le.2 h)),if_neg (fun h=>(of_decide_eq_false hc3) (by have:=cmpQ_gt h;omega)),if_neg (beq_eq_false_iff_ne.1 hc4),if_neg (beq_eq_false_iff_ne.1 hc5)]))
theorem LsR.cut{B:BS}{w:World}{ms:List Lf}:∀ {ls:List Lf} {cs:List Value},LsR B w (ls ++ms) cs→∃ c1 c2,cs=c1 ++c2∧LsR B w ls c1∧LsR B w ms c2
 | [],cs,h=>⟨[],cs,rfl,trivial,h⟩
 | l ::ls,c ::cs,h=>by
  obtain ⟨c1,c2,e,h1,h2⟩:=LsR.cut (ls:=ls) (cs:=cs) h.2;exact ⟨c ::c1,c2,by rw [e];rfl,⟨h.1,h1⟩,h2⟩
 | _ ::_,[],h=>h.elim
theorem ls_cat{a b a' b':List Lf}(ha:∀ B w cs,LsR B w a cs→LsR B w a' cs)(hb:∀ B w cs,LsR B w b cs→LsR B w b' cs):∀ B w cs,LsR B w (a ++b) cs→LsR B w (a' ++b') cs:=fun B w cs h=>by
 obtain ⟨c1,c2,e,h1,h2⟩:=h.cut;rw [e];exact (ha _ _ _ h1).app (hb _ _ _ h2)
/-- An algebraic number: its cells. -/
abbrev alc(K:Nat)(c:Nat→Int)(L:Nat)(lo:Rat)(M:Nat)(hi:Rat):List Lf:= [prow K (lg c) c] ++tn L lo ++tn M hi
theorem al_bd{K L M:Nat}{c:Nat→Int}{lo hi:Rat}(z:z20 c){B:BS}{w:World}{cs:List Value}(h:LsR B w (alc K c L lo M hi) cs):Lb K c∧Tb L lo∧Tb M hi:=by
 obtain ⟨c1,c2,e,h1,h2⟩:=h.cut;obtain ⟨c3,c4,e,h3,h4⟩:=h1.cut;refine ⟨?_,tn_bdT h4,tn_bdT h2⟩
 match c3,h3 with
 | [v],h3=>exact prow_bd z.lg h3.1
theorem al_tight{K L M K' L' M':Nat}{c:Nat→Int}{lo hi:Rat}(hb:Lb K' c)(h1:Tb L' lo)(h2:Tb M' hi):AV.le (.d (.agg (alc K c L lo M hi))) (.d (.agg (alc K' c L' lo M' hi))):=
 le_agg (ls_cat (ls_cat (fun B w cs h=>match cs,h with
  | [v],⟨h,_⟩=>⟨prow_tight (fun i _=>hb i) B w v h,trivial⟩) (tn_tight h1)) (tn_tight h2))
theorem al_mono{K L M L' M':Nat}{c:Nat→Int}{lo hi:Rat}(h1:Tb L' lo)(h2:Tb M' hi):AV.le (.d (.agg (alc K c L lo M hi))) (.d (.agg (alc K c L' lo M' hi))):=
 le_agg (ls_cat (ls_cat (fun B w cs h=>h) (tn_tight h1)) (tn_tight h2))
theorem aHalf{K L M X:Nat}{c:Nat→Int}{lo hi:Rat}(hA:OkA c lo hi)(hT1:Tb X (hlf c lo hi).1)(hT2:Tb X (hlf c lo hi).2)(hK:K≤10000000-2:=by omega)(hL:L≤100000:=by omega)(hM:M≤100000:=by omega):ACall Tryz.prog 108 [.agg ([.row 2 (lg c) (zel K c)] ++tn L lo ++tn M hi)] (.d (.agg ([.row 2 (lg c) (zel K c)] ++tn X ((hlf c lo hi).1) ++tn X ((hlf c lo hi).2)))):=by
 have hlc:=lg_le c;refine aN 28 [.cell 2 40] Tryz.func108 rfl<|cR<|mO rfl<|mO rfl<|mT<|cSeq<|cR<|mW rfl<|mY aPoint rfl<|mT<|cCond rfl (fun hc1=>?_) (fun hc1=>?_)
 ·exact cR<|mW rfl<|mZ rfl<|mT<|cRet<|tR<|rQ rfl (by have e:hlf c lo hi=(lo,hi):=by {unfold hlf;rw [if_pos (of_decide_eq_true hc1)]};rw [e] at hT1 hT2 ⊢;exact al_mono hT1 hT2)
 ·refine cSkip<|tN<|cR<|mv4 rfl rfl rfl rfl<|mY (aMidN (by omega) (by omega)) rfl<|mO rfl<|mZ rfl<|mT<|cSeq<|cR<|mv2 rfl rfl<|mY (aCmpRat hA) rfl<|mT<|cBlock<|cR<|mv2 rfl rfl<|mT<|cCond rfl (fun hc2=>?_) (fun hc2=>?_)
  ·exact cDs 6<|pV rfl<|pV rfl<|pV rfl<|.cons (OpS.S 1 (.box 40 ([.row 2 (lg c) (zel K c)] ++tn (max L 2+1+(max M 2+1)+4) ((lo+hi) / 2) ++tn M hi)) rfl rfl) (by kernel_rfl)<|pV rfl<|.cons (OpS.S 1 (.box 40 ([.row 2 (lg c) (zel K c)] ++tn (max L 2+1+(max M 2+1)+4) ((lo+hi) / 2) ++tn (max L 2+1+(max M 2+1)+4) ((lo+hi) / 2))) rfl rfl) (by kernel_rfl)<|.nil<|mNil<|bN<|tN<|cR<|mW rfl<|mZ rfl<|mT<|cRet<|rQ rfl (by have e:hlf c lo hi=(((lo+hi) / 2),((lo+hi) / 2)):=by {unfold hlf;rw [if_neg (of_decide_eq_false hc1),if_pos (beq_iff_eq.1 hc2)]};rw [e] at hT1 hT2 ⊢;exact al_mono hT1 hT2)
  ·refine cR<|mv2 rfl rfl<|mT<|cCond rfl (fun hc3=>?_) (fun hc3=>?_)
   ·exact cReg<|mv2 rfl rfl<|mZ rfl<|mNil<|bN<|tN<|cR<|mW rfl<|mZ rfl<|mT<|cRet<|rQ rfl (by have e:hlf c lo hi=(lo,((lo+hi) / 2)):=by {unfold hlf;rw [if_neg (of_decide_eq_false hc1),if_neg (beq_eq_false_iff_ne.1 hc2),if_pos (beq_iff_eq.1 hc3)]};rw [e] at hT1 hT2 ⊢;exact al_mono hT1 hT2)
   ·exact cReg<|mv2 rfl rfl<|mZ rfl<|mNil<|bN<|tN<|cR<|mW rfl<|mZ rfl<|mT<|cRet<|rQ rfl (by have e:hlf c lo hi=(((lo+hi) / 2),hi):=by {unfold hlf;rw [if_neg (of_decide_eq_false hc1),if_neg (beq_eq_false_iff_ne.1 hc2),if_neg (beq_eq_false_iff_ne.1 hc3)]};rw [e] at hT1 hT2 ⊢;exact al_mono hT1 hT2)
theorem tb_mono{K L:Nat}{q:Rat}(h:Tb K q)(k:K≤L):Tb L q:=⟨Nat.lt_of_lt_of_le h.1 (Nat.pow_le_pow_right (by decide) k),Nat.lt_of_lt_of_le h.2 (Nat.pow_le_pow_right (by decide) k)⟩
/-- Both ends, so long at most. -/
structure Dz(L J:Nat)(p q:Rat):Prop where
 e:∃ D R,D≠0∧D < B32^(L+L)∧R≤B32^L∧Dy D R J p∧Dy D R J q
theorem dz_start{L:Nat}{p q:Rat}(h:Tb L p)(k:Tb L q):Dz L 0 p q:=by
 have hp:=p.den_pos;have hq:=q.den_pos;refine ⟨p.den*q.den,max p.num.natAbs q.num.natAbs,Nat.ne_of_gt (Nat.mul_pos hp hq),?_,?_,dy_start (Nat.le_max_left _ _),?_⟩
 ·rw [Nat.pow_add]
  exact Nat.mul_lt_mul'' h.2 k.2
 ·have:=h.1;have:=k.1;omega
 ·rw [Nat.mul_comm];exact dy_start (Nat.le_max_right _ _)
theorem Dz.mono{L J J':Nat}{p q:Rat}(h:Dz L J p q)(k:J≤J'):Dz L J' p q:=let ⟨D,R,a,b,c,d,e⟩:=h.e;⟨D,R,a,b,c,d.mono k,e.mono k⟩
theorem Dz.tb{L J X:Nat}{p q:Rat}(h:Dz L J p q)(hX:3*L+J / 32+1≤X):Tb X p∧Tb X q:=by
 obtain ⟨D,R,a,b,c,d,e⟩:=h.e;exact ⟨tb_mono (d.tb a b c) (by omega),tb_mono (e.tb a b c) (by omega)⟩
theorem Dz.hlf{L J:Nat}{c:Nat→Int}{p q:Rat}(h:Dz L J p q):Dz L (J+1) (hlf c p q).1 (hlf c p q).2:=by
 obtain ⟨D,R,a,b,c',d,e⟩:=h.e;exact ⟨D,R,a,b,c',(hlf_dy d e).1,(hlf_dy d e).2⟩
theorem al_leo{t:TypeId}{K L M L' M':Nat}{c:Nat→Int}{lo hi:Rat}(h1:Tb L' lo)(h2:Tb M' hi):AO.le (.box t (alc K c L lo M hi)) (.box t (alc K c L' lo M' hi)):=
 leo_box (ls_cat (ls_cat (fun B w cs h=>h) (tn_tight h1)) (tn_tight h2))
theorem nb_lb{K m:Nat}(h:m < B32^K):nbits m≤32*K:=nbits_le_of_lt (by rw [show B32=2^32 from rfl,← Nat.pow_mul] at h;exact h)
/-- Binary digits of the greatest of n. -/
def szF(c:Nat→Int):Nat→Nat
 | 0=>0
 | n+1=>max (szF c n) (nbits (c n).natAbs)
theorem szF_le{K:Nat}{c:Nat→Int}(h:Lb K c):∀ n,szF c n≤32*K
 | 0=>Nat.zero_le _
 | n+1=>Nat.max_le.2 ⟨szF_le h n,nb_lb (h n)⟩
theorem szF_get{c:Nat→Int}:∀ {n i:Nat},i < n→nbits (c i).natAbs≤szF c n
 | n+1,i,h=>by
  show _≤max (szF c n) (nbits (c n).natAbs)
  by_cases e:i=n
  ·subst e;exact Nat.le_max_right _ _
  ·exact Nat.le_trans (szF_get (show i < n by omega)) (Nat.le_max_left _ _)
theorem aSize{K n:Nat}{c:Nat→Int}(hz:z20 c)(hn:n=lg c)(hK:K≤10000000:=by omega):ACall Tryz.prog 137 [.one (prow K n c)] (.d (.one (.v (.int .i64 ((szF c (lg c):Nat):Int))))):=by
 subst hn;have hlc:=lg_le c;refine aN 19 [.tmp 2] Tryz.func137 rfl<|cR<|mW rfl<|mT<|cR<|mW rfl<|mT<|cSeq<|cR<|mv3 rfl rfl rfl<|mT<|cBlock<|cLoop (ι:=Nat) (fun (i:Nat)=>⟨19,[(6,.d (.one (.row 2 (lg c) (zel K c)))),(7,.d (.one (.v (.int .i64 ((lg c:Nat):Int))))),(8,.d (.one (.v (.int .i64 ((i:Nat):Int))))),(3,.d (.one (.v (.int .i64 ((szF c i:Nat):Int)))))],[]⟩) (fun (i:Nat)=>i≤lg c) (fun (i:Nat)=>lg c-i) 0 (Nat.zero_le _) (wk rfl ⟨hs rfl,hs rfl,hs rfl,hs' rfl (le_int rfl),trivial⟩ trivial rfl) ?_;rintro i hI;have hi:i≤lg c:=hI;show AW _ _ _ ⟨_,_,_⟩
 refine cR<|mW rfl<|mT<|cSeq<|cCond rfl (fun hc1=>?_) (fun hc1=>?_)
 ·refine cSkip<|tN<|cSeq<|cBlock<|cSeq ?_;have hin:i < lg c:=by have h0:=of_decide_eq_true hc1;omega
  refine cReg<|mV hTT (.d (.one (.at 2 ((zel K c) i)))) (ixR (el:=(zel K c)) (z:=((i:Nat):Int)) (n:=(lg c)) rfl rfl rfl rfl rfl rfl (by omega) (by omega)) ?_;refine mW rfl<|mO rfl<|mZ rfl<|mT<|cReg<|mv3 rfl rfl rfl<|mY (aLBits (isl K (Int.natAbs (c i)))) rfl ?_;refine mV hTT (.d (.one (.v (.int .i64 ((szF c (i+1):Nat):Int))))) (evi (by rw [if_pos rfl];show _=((max (szF c i) (nbits (c i).natAbs):Nat):Int);split <;> omega)) ?_;exact mW rfl<|mNil<|bN<|tN<|cReg<|mv2 rfl rfl<|mNil<|⟨(i+1),by have h0:=of_decide_eq_true hc1;omega,by have h0:=of_decide_eq_true hc1;omega,wk rfl ⟨hs rfl,hs rfl,hs' rfl (le_int (inc64 (by omega))),hs rfl,trivial⟩ trivial rfl⟩
 ·exact cExit<|tE<|tE<|bE<|tN<|cR<|mv2 rfl rfl<|mT<|cRet<|rQ rfl (le_int (by have h0:=of_decide_eq_false hc1;rw [show i=lg c by omega]))
def stp(c:Nat→Int)(lo hi:Rat)(d:Nat→Int)(p q:Rat):Nat:=64+2*(nbits lo.num.natAbs+nbits hi.num.natAbs+nbits p.num.natAbs+nbits q.num.natAbs)+4*(lg c+lg d)*(szF c (lg c)+szF d (lg d)+(lg c+lg d)+8)
theorem aSteps{K L M K2 L2 M2:Nat}{c d:Nat→Int}{lo hi p q:Rat}(zc:z20 c)(zd:z20 d)(hK:K≤10000000)(hL:L≤1000000)(hM:M≤1000000)(hK2:K2≤10000000)(hL2:L2≤1000000)(hM2:M2≤1000000):ACall Tryz.prog 106 [.agg ([.row 2 (lg c) (zel K c)] ++tn L lo ++tn M hi),.agg ([.row 2 (lg d) (zel K2 d)] ++tn L2 p ++tn M2 q)] (.d (.one (.v (.int .i64 ((stp c lo hi d p q:Nat):Int))))):=by
 refine ACall.fact10 (enters Tryz.func106 rfl rfl) (p:=(Lb K c∧Tb L lo∧Tb M hi)∧(Lb K2 d∧Tb L2 p∧Tb M2 q)) (fun B w vs h=>match vs,h with | [_,_],⟨⟨cs,_,hl⟩,⟨ds,_,hk⟩,_⟩=>⟨al_bd zc hl,al_bd zd hk⟩) (fun hb=>?_);have hlc:=lg_le c;have hld:=lg_le d;have n1:=nb_lb hb.1.2.1.1;have n2:=nb_lb hb.1.2.2.1;have n5:=szF_le hb.1.1 (lg c);have n6:=szF_le (K:=K2) (c:=d) hb.2.1 (lg d);obtain ⟨S,hS⟩:∃ S,S=szF c (lg c)+szF d (lg d)+(lg c+lg d)+8:=⟨_,rfl⟩
 obtain ⟨P,hP⟩:∃ P,P=4*(lg c+lg d)*S:=⟨_,rfl⟩
 have hm:P≤160*1000000000:=by rw [hP];exact Nat.mul_le_mul (by omega) (by omega)
 have n3:=nb_lb hb.2.2.1.1;have n4:=nb_lb hb.2.2.2.1;exact aN 54 [.tmp 4] Tryz.func106 rfl<|cR<|mO rfl<|mO rfl<|mW rfl<|mT<|cR<|mv6 rfl rfl rfl rfl rfl rfl<|mV hTT (.d (.one (.v (.int .i64 ((lg c+lg d:Nat):Int))))) (evi ((wr64 (by omega) (by omega)).trans (by omega)))<|mW rfl<|mT<|cSeq<|cDk 24<|oV rfl<|oV rfl<|oV rfl<|oV rfl<|oC (aLBits (isl L (Int.natAbs (Rat.num lo)))) rfl<|oV rfl<|oV rfl<|oV rfl<|oV rfl<|oC (aLBits (isl M (Int.natAbs (Rat.num hi)))) rfl<|.cons (OpS.V (.d (.one (.v (.int .i64 ((nbits lo.num.natAbs+nbits hi.num.natAbs:Nat):Int))))) (evi ((wr64 (by omega) (by omega)).trans (by omega))))<|oV rfl<|oV rfl<|oV rfl<|oV rfl<|oC (aLBits (isl L2 (Int.natAbs (Rat.num p)))) rfl<|.cons (OpS.V (.d (.one (.v (.int .i64 ((nbits lo.num.natAbs+nbits hi.num.natAbs+nbits p.num.natAbs:Nat):Int))))) (evi ((wr64 (by omega) (by omega)).trans (by omega))))<|oV rfl<|oV rfl<|oV rfl<|oV rfl<|oC (aLBits (isl M2 (Int.natAbs (Rat.num q)))) rfl<|.cons (OpS.V (.d (.one (.v (.int .i64 ((nbits lo.num.natAbs+nbits hi.num.natAbs+nbits p.num.natAbs+nbits q.num.natAbs:Nat):Int))))) (evi ((wr64 (by omega) (by omega)).trans (by omega))))<|.cons (OpS.V _ rfl)<|.nil<|mT<|cSeq<|cDk 18<|.cons (OpS.V _ rfl)<|.cons (OpS.V (.d (.one (.v (.int .i64 ((2*(nbits lo.num.natAbs+nbits hi.num.natAbs+nbits p.num.natAbs+nbits q.num.natAbs):Nat):Int))))) (evi ((wr64 (by omega) (by omega)).trans (by omega))))<|.cons (OpS.V (.d (.one (.v (.int .i64 ((64+2*(nbits lo.num.natAbs+nbits hi.num.natAbs+nbits p.num.natAbs+nbits q.num.natAbs):Nat):Int))))) (evi ((wr64 (by omega) (by omega)).trans (by omega))))<|.cons (OpS.V _ rfl)<|.cons (OpS.V (.d (.one (.v (.int .i64 ((4*(lg c+lg d):Nat):Int))))) (evi ((wr64 (by omega) (by omega)).trans (by omega))))<|oV rfl<|oV rfl<|oC (aSize zc rfl) rfl<|oV rfl<|oV rfl<|oC (aSize zd rfl) rfl<|.cons (OpS.V (.d (.one (.v (.int .i64 ((szF c (lg c)+szF d (lg d):Nat):Int))))) (evi ((wr64 (by omega) (by omega)).trans (by omega))))<|.cons (OpS.V _ rfl)<|.cons (OpS.V (.d (.one (.v (.int .i64 ((szF c (lg c)+szF d (lg d)+(lg c+lg d):Nat):Int))))) (evi ((wr64 (by omega) (by omega)).trans (by omega))))<|.cons (OpS.V (.d (.one (.v (.int .i64 ((S:Nat):Int))))) (evi ((wr64 (by omega) (by omega)).trans (by omega))))<|.cons (OpS.V (.d (.one (.v (.int .i64 ((P:Nat):Int))))) (evi (by rw [← Int.natCast_mul,← hP];exact wr64 (by omega) (by omega))))<|.cons (OpS.V (.d (.one (.v (.int .i64 ((64+2*(nbits lo.num.natAbs+nbits hi.num.natAbs+nbits p.num.natAbs+nbits q.num.natAbs)+P:Nat):Int))))) (evi ((wr64 (by omega) (by omega)).trans (by omega))))<|.cons (OpS.V _ rfl)<|.nil<|mT<|cRet<|rQ rfl (le_int (by unfold stp;rw [← hS,← hP]))
end Go.Proofs.YtapmpcgekdplfaaGreat
