/-
  The program's functions, part J3. No condition.
-/
import Derived.Test.YtecmeakkkmidjaaGreatJ2
set_option linter.defProp false
set_option linter.unusedVariables false
set_option linter.unusedSectionVars false
set_option linter.unusedSimpArgs false
set_option maxRecDepth 100000
set_option maxHeartbeats 4000000
namespace Go.Proofs.YtecmeakkkmidjaaGreat
open Go.RowKit
noncomputable section
variable {c a b d w R:Nat->Int}{n K m i L N KC M j k X na:Nat}{f f' g p π g' u A a' V U:Fn}{lo hi q t B y H:Rat}{el2:Nat->Nat->Lf}{x z s s':Int}{T:TypeId->Option TI}{L0:List (Nat->Int)}{e:TypeId}{P:Program}{v:Value}{S:List Int}{ρ:lq}{o:Oper}
open Go.Proofs.Tryz
def Pr.aol{x y:Fn}(h:Pr π)(px:Po x)(py:Po y)(hd:Dv π<|λt=>x t*y t):Dv π x\/Dv π y:=by rcases h.2.2 x px with h1|h1;simp_all;exact Or.inr<|h1.dv py hd
def Pr.ne(h:Pr π):∃t,π t≠0:=let ⟨_,⟨_,_,_,hl⟩,_⟩:=h;hl.ne
def Pr.y8{π':Fn}(h:Pr π)(hd:yX π π')(pp:Po π'):H6 π π':=by rcases h.2.2 π' pp with h1|h1;exfalso;have⟨_,⟨k,a,hk,hl⟩,_⟩:=h;obtain⟨j,rfl⟩:∃j,k=j+1:=aDh;have:=h1.deg hl<|hl.y8 hd;omega;omega
def ajg{a:Fn}(h:Pr π)(pa:Po a)(hne:∃t,a t≠0):∃(k:Nat) (b:Fn),Po b/\(∀x,a x=π x^k*b x)/\¬Dv π b:=by have⟨n,α,ha⟩:=nP pa hne;have⟨m,β,hm,hl⟩:=h.2.1;have key:∀(n:Nat) (a:Fn) (α:Rat),Po a->Lc n a α->∃(k:Nat) (b:Fn),Po b/\(∀x,a x=π x^k*b x)/\¬Dv π b:=(by intro n;induction n using Nat.strongRecOn with|ind n ih=>intro a α pa ha;by_cases hd:Dv π a;have⟨q,pq,e⟩:=hd;have⟨i,γ,hi⟩:=nP pq (by have⟨y,hy⟩:=ha.ne;grind);have h1:=((hi.mul hl).congr λx=>(e x).symm).uniq ha;have⟨k,b,pb,hb,hnb⟩:=ih i Z q γ pq hi;exact⟨k+1,b,pb,λx=>by grind,hnb⟩;exact⟨0,a,pa,λx=>by simp_all,hd⟩);exact key n a α pa ha
def WG{a v w:Fn}(h:Pr π)(pa:Po a)(hne:∃t,a t≠0)(hda:yX a a')(pa':Po a')(pf:Po f)(pg:Po g)(hfg:∀x,a x=f x*g x)(pu:Po u)(pv:Po v)(hg:∀x,g x=u x*a x+v x*a' x)(pw:Po w)(hga:∀x,a' x=w x*g x)(hd:Dv π a):∃f1,Po f1/\(∀x,f x=π x*f1 x)/\¬Dv π f1:=by have⟨pp,hnc,hpr⟩:=h;have h:Pr π:=ψ;have⟨π',pp',hdp⟩:=pp.y8;have⟨K,b,pb,hb,hnb⟩:=ajg h pa hne;obtain⟨k,rfl⟩:∃k,K=k+1:=(by cases K with|zero=>exact absurd (hd.congr λx=>by grind) hnb|succ k=>grind);have⟨b',pb',hdb⟩:=pb.y8;have ha':∀x,a' x=π x^k*(((k+1:Nat):Rat)*π' x*b x+π x*b' x):=(by intro x;have h1:=((hdp.pow pp pp' k).mul hdb (pp.pow<|k+1) pb<|((pp.pow k).mul pp').qN ((k+1:Nat):Rat) |>.congr λx=>by grind);have h2:=(h1.congr ψ<|λ_=>rfl).uniq hda x;grind);have pk:=pp.pow k;have nk:∃t,π t^k≠0:=aDj;have hg1:∀x,g x=π x^k*(u x*π x*b x+v x*(((k+1:Nat):Rat)*π' x*b x+π x*b' x)):=aDj;obtain⟨g1,atX⟩:∃g1:Fn,g1=λx=>u x*π x*b x+v x*(((k+1:Nat):Rat)*π' x*b x+π x*b' x):=ψ;have pg1:Po g1:=(by rw [atX];exact(((pu.mul pp).mul pb).add<|pv.mul<|(((pp'.qN ((k+1:Nat):Rat)).mul pb).add<|pp.mul pb').congr λx=>by grind));have hgg:∀x,g x=π x^k*g1 x:=ψ;have aza:¬Dv π g1:=(by rintro⟨q,pq,hq⟩;have e1:=qg pk nk ((((pp'.qN ((k+1:Nat):Rat)).mul pb).add<|pp.mul pb').congr (g:=λx=>((k+1:Nat):Rat)*π' x*b x+π x*b' x) λx=>by grind) ((pw.mul pq).mul pp) ψ;have e2:Dv π (λx=>π' x*b x):=(by have hk0 : ((k + 1 : Nat) : Rat) ≠ 0 := aDj;refine⟨λx=>(w x*q x-b' x)*((k+1:Nat):Rat)⁻¹,((pw.mul pq).sub pb').qN _,λx=>?_⟩;grind);exact hnb<|(h.y8 hdp pp').dv pb e2);have e3:=qg pk nk (pp.mul pb) (pf.mul pg1) ψ;have e4:Dv π f:=(by rcases h.aol pf pg1 ⟨b,pb,λx=>by have:=e3 x;grind⟩ with h1|h1;omega;grind);have⟨f1,pf1,hf1⟩:=e4;refine⟨f1,pf1,λx=>by grind,λhd1=>?_⟩;have e5:=qg pp h.ne pb (pf1.mul pg1) ψ;exact hnb ((hd1.avk pg1).congr λx=>(e5 x).symm)
def akV{a v w:Fn}(pa:Po a)(hne:∃t,a t≠0)(hda:yX a a')(pa':Po a')(pf:Po f)(pg:Po g)(hfg:∀x,a x=f x*g x)(pu:Po u)(pv:Po v)(hg:∀x,g x=u x*a x+v x*a' x)(pw:Po w)(hga:∀x,a' x=w x*g x)(hdf:yX f f')(pf':Po f'):H6 f f':=by have⟨n,pn⟩:=pf';have⟨d,p,q,s,t,pd,pp,pq,ps,pt,e1,e2,e3⟩:=NR n f f' pf pn;have pf':Po f':=ψ;have ayU:∃t,f t≠0:=ψ;have⟨k,δ,hd⟩:=nP pd ψ;by_cases hk:k=0;subst hk;have hc:=tH hd;have h0:δ≠0:=ψ;exact⟨λx=>p x*δ⁻¹,λx=>q x*δ⁻¹,pp.qN _,pq.qN _,λx=>by grind⟩;exfalso;have⟨π,hπ,hdv⟩:=alT k d δ hd Z pd;have hpf:Dv π f:=hdv.trans ⟨s,ps,e2⟩;have azh:Dv π f':=hdv.trans ⟨t,pt,e3⟩;have⟨f1,pf1,hf1,hn⟩:=WG hπ pa hne hda pa' pf pg hfg pu pv hg pw hga (hpf.trans ⟨g,pg,λx=>by rw [hfg];grind⟩);have⟨π',pp',hdp⟩:=hπ.1.y8;have⟨f1',azK,afb⟩:=pf1.y8;have e4:∀x,f' x=π' x*f1 x+π x*f1' x:=λx=>(((hdp.mul afb hπ.1 pf1 pp').congr ψ<|λ_=>rfl).uniq hdf x).symm;have⟨r,pr,hr⟩:=azh;have e5:Dv π (λx=>π' x*f1 x):=⟨λx=>r x-f1' x,pr.sub azK,λx=>by grind⟩;exact hn<|(hπ.y8 hdp pp').dv pf1 e5
def akW{a v w:Fn}(pa:Po a)(hne:∃t,a t≠0)(hda:yX a a')(pa':Po a')(pf:Po f)(pg:Po g)(hfg:∀x,a x=f x*g x)(pu:Po u)(pv:Po v)(hg:∀x,g x=u x*a x+v x*a' x)(pw:Po w)(hga:∀x,a' x=w x*g x):∃N:Nat,Dv a (λx=>f x^N):=by have key:∀(n:Nat) (b:Fn) (β:Rat),Lc n b β->Po b->Dv b a->∃N:Nat,Dv b (λx=>f x^N):=(by intro n;induction n using Nat.strongRecOn with|ind n ih=>intro b β hb pb hba;by_cases hn:n=0;subst hn;have h0:β≠0:=hb.choose_spec.2.2.1;exact⟨0,λ_=>β⁻¹,dh _,λx=>by show f x^0=β⁻¹*b x;rw [Rat.pow_zero,tH hb];grind⟩;have⟨π,hπ,q,pq,hq⟩:=alT n b β hb Z pb;have⟨f1,pf1,hf1,_⟩:=WG hπ pa hne hda pa' pf pg hfg pu pv hg pw hga<|Dv.trans ⟨q,pq,hq⟩ hba;have⟨i,γ,hi⟩:=nP pq (by have⟨y,hy⟩:=hb.ne;grind);have⟨m,μ,hm,hl⟩:=hπ.2.1;have h1:=((hi.mul hl).congr λx=>(hq x).symm).uniq hb;have⟨N,r,pr,hr⟩:=ih i Z q γ hi pq (Dv.trans ⟨π,hπ.1,λx=>by grind⟩ hba);exact⟨N+1,λx=>r x*f1 x,pr.mul pf1,λx=>by grind⟩);have⟨n,α,ha⟩:=nP pa hne;exact key n a α ha pa<|.refl a
def PCh(a b:Fn):List Fn->Prop
 |[]=>∃c,c≠0/\∀x,b x=c
 |c::l=>(∃(Q:Fn) (k:Rat),Po Q/\0<k/\∀x,a x=Q x*b x-k*c x)/\PCh b c l
def aaC(B:Rat):∀(l:List Fn) (a b:Fn),PCh a b l->Chn B a b l
 |[],_,_,h=>h
 |c::l,a,b,⟨⟨Q,k,pQ,hk,h⟩,hl⟩=>by
  have⟨M,hM,hb⟩:=pQ.bd B;exact⟨⟨Q,M,k,hM,hk,λx hx=>hb x hx,h⟩,aaC B l b c hl⟩
def Xl.mono{L M:Rat}(h:Xl B f L)(k:L<=M):Xl B f M:=λx y hx hy hxy=>by
 have:=h x y hx hy hxy;have h2:=abV k (show 0<=y-x by grind);grind
def O8(B:Rat):∀l:List Fn,(∀f∈l,Po f)->∃L,0<=L/\Xm B L l
 |[],_=>⟨0,by grind,λf hf=>by grind⟩
 |f::l,h=>by
  have⟨L,hL,h1⟩:=O8 B l λg hg=>h g ψ
  have⟨M,hM,h2⟩:=(h f ajr).lip B;refine⟨L+M,by grind,λg hg=>?_⟩;rcases afu.1 hg with rfl|hg
  ·exact h2.mono ψ
  ·exact(h1 g hg).mono ψ
def TS{l:List Fn}{d:Rat}(hp:∀h∈f::g::l,Po h)(hc:PCh f g l)(hd:yX f f')(hpos:0<d)(hg:∀x,f' x=d*g x):KY f g l:=
 ⟨λB=>aaC B l f g hc,λB=>O8 B _ hp,d,hpos,λB=>by
  have⟨E,hE,h⟩:=hd B;refine⟨E,hE,λs t hs ht hst=>?_⟩;have:=h s t hs ht hst;rw [hg] at this;unfold Ab at this;grind⟩
def aoq:∀(m:Nat) (a b:Fn) (β:Rat),Po a->Lc m b β->Po b->H6 a b->∃l:List Fn,(∀h∈l,Po h)/\PCh a b l:=by intro m;induction m using Nat.strongRecOn with|ind m ih=>(intro a b β pa hb pb hc;by_cases hm:m=0;subst hm;have h0:PCh a b []:=⟨β,hb.choose_spec.2.2.1,tH hb⟩;grind;have⟨n,pn⟩:=pa;have⟨q,r,pq,pr,hqr⟩:=Tn hb n a pn;have⟨u,v,pu,pv,huv⟩:=hc;rcases zY pr with h0|⟨k,γ,hk,hr⟩;exfalso;have h1:∀x,(u x*q x+v x)*b x=1:=ψ;exact auS;have hnr:Lc k (λx=> - r x) (-γ):=aF6;have⟨l,hl,hpl⟩:=ih k hk b (λx=> - r x) (-γ) pb hnr (pr.po.neg) aEQ;refine⟨(λx=> - r x)::l,λh hh=>?_,⟨q,1,pq,by grind,λx=>by grind⟩,hpl⟩;rcases afu.1 hh with rfl|hh;exact pr.po.neg;simp_all)
structure Ja(f f':Fn):Prop where
 po:Po f
 Xe:Po f'
 y8:yX f f'
 cop:H6 f f'
def Ja.stm(h:Ja f f')(hn:∃x,f' x≠0):∃g l,KY f g l/\∀x,gI (g x)=gI (f' x):=by have⟨m,β,hm⟩:=nP h.Xe hn;have⟨l,hl,hc⟩:=aoq m f f' β h.po hm h.Xe h.cop;refine⟨f',l,TS (λg hg=>?_) hc h.y8 (show(0:Rat)<1 by grind)<|λx=>by grind,λ_=>rfl⟩;rcases afu.1 hg with rfl|hg;exact h.po;rcases afu.1 hg with rfl|hg;exact h.Xe;simp_all
def KY.sg{l:List Fn}(h:KY f g l)(hd:yX f f')(x:Rat):gI (g x)=gI (f' x):=by have⟨d,hpos,hb⟩:=h.y8;have:yX f (λx=>d*g x):=λB=>(by have⟨E,hE,h⟩:=hb B;refine⟨E,hE,λs t hs ht hst=>?_⟩;have:=h s t hs ht hst;exact azM);have e:=hd.uniq this x;rw [e,Hf,jA hpos,Int.one_mul]
def BD{l:List Fn}(h:KY f g l)(pf:Po f)(x:Rat):yZ f g x≠0/\∃e,0<e/\∀t,x<t->t<x+e->gI (f t)=yZ f g x:=by obtain⟨B,hB1,hB2⟩:∃B,In B x/\In B (x+1):=aE6;have⟨δ,hδ,hne,hcell⟩:=wE h B;refine⟨hne x hB1,?_⟩;by_cases h0:gI (f x)=0;have⟨e,he,he1,he2⟩:=mP hδ (show(0:Rat)<1 by grind);refine⟨e,he,λt h1 h2=>?_⟩;have ZU:In B t:=(by unfold In at *;constructor <;> grind);rw [QD h0];rcases hcell x t hB1 ZU h1 ψ with⟨⟨k,_⟩,_⟩|⟨τ,hτ,hg,hm,_⟩;omega;rw [hg x ψ ψ];have h3:=hm x t ψ h1 ψ;rw [gK] at h0;grind;rw [BF h0];have⟨L,hL,hl⟩:=pf.lip B;obtain⟨m,hm,hf⟩:∃m:Rat,0<m/\oL (f x) m:=aDA;have⟨d,hd,hs⟩:=jl hL hm;have⟨e,he,he1,he2⟩:=mP hd (show(0:Rat)<1 by grind);refine⟨e,he,λt h1 h2=>?_⟩;have ZU:In B t:=(by unfold In at *;constructor <;> grind);exact(Jj hl hL hB1 ZU hm (hs _ ψ ψ) hf).2.1 t ψ ψ
def kD(f:Fn)(a b:Rat):Prop:=∃s:Int,s≠0/\∀t,a<t->t<=b->gI (f t)=s
def CB{l:List Fn}(h:KY f g l)(pf:Po f){a b:Rat}(hab:a<=b)(k:Xn f g l a b N):N=0↔kD f a b:=by have⟨h0,e,he,hn⟩:=BD h pf a;constructor;intro hN;exact⟨yZ f g a,h0,k.nil.1 hN⟩;rintro⟨s,hs,hst⟩;by_cases hlt:a<b;refine k.nil.2 λt h1 h2=>?_;rw [hst t h1 h2];have⟨z,hz,hz1,hz2⟩:=mP he (show 0<b-a by grind);have h3:=hn (a+z/2) ψ ψ;grind;exact k.nil.2 λt h1 h2=>by grind
def qQ(f:Fn)(a b:Rat)(N:Nat):Prop:=∃g l,KY f g l/\Xn f g l a b N
def qQ.free(pf:Po f){a b:Rat}(hab:a<=b)(h:qQ f a b N):N=0↔kD f a b:=let ⟨_,_,h1,h2⟩:=h;CB h1 pf hab h2
def ahq{l l':List Fn}(pf:Po f)(h:KY f g l)(h':KY f g' l'){a b:Rat}(hab:a<=b){N':Nat}(k:Xn f g l a b N)(k':Xn f g' l' a b N'):N=N':=by obtain⟨B,hBa,hBb⟩:∃B,In B a/\In B b:=(by refine⟨(if a<0 then -a else a)+(if b<0 then -b else b),?_,?_⟩ <;> (unfold In;grind));have⟨δ1,hδ1,_,hcell1⟩:=wE h B;have⟨δ2,hδ2,_,hcell2⟩:=wE h' B;have⟨δ,hδ,hd1,hd2⟩:=mP hδ1 hδ2;have⟨n,hn⟩:=MB (r:=b-a) (d:=δ/2) ψ;have cell:∀x y,In B x->In B y->x<y->y-x<δ->∀M M',Xn f g l x y M->Xn f g' l' x y M'->M=M':=(by intro x y hx hy hxy hlt M M' p p';have⟨M1,h1,p1⟩:=Cm hxy<|hcell1 x y hx hy hxy ψ;have⟨M2,h2,p2⟩:=Cm hxy<|hcell2 x y hx hy hxy ψ;have e1:M=M1:=(by have:=p.v;have:=p1.v;omega);have e2:M'=M2:=(by have:=p'.v;have:=p2.v;omega);have f1:=CB h pf ψ p;have f2:=CB h' pf ψ p';have:M=0↔M'=0:=ψ;omega);have main:∀n:Nat,∀c,In B c->a<=c->c-a<=(n:Rat)*(δ/2)->∀N N',Xn f g l a c N->Xn f g' l' a c N'->N=N':=(by intro n;induction n with|zero=>intro c _ h1 h2 N N' p p';have:c=a:=ψ;subst this;have:=p.v;have:=p'.v;omega|succ n ih=>intro c hc h1 h2 N N' p p';rw [oQ] at h2;by_cases h3:c-a<=(n:Rat)*(δ/2);grind;by_cases h4:c-δ/2<=a;by_cases h5:a=c;subst h5;have:=p.v;have:=p'.v;omega;exact cell a c hBa hc ψ ψ N N' p p';have hm:In B<|c-δ/2:=aGG;have⟨N1,q1⟩:=qZ h (a:=a) (b:=c-δ/2) ψ;have⟨N2,q2⟩:=qZ h' (a:=a) (b:=c-δ/2) ψ;have⟨M1,r1⟩:=qZ h (a:=c-δ/2) (b:=c) ψ;have⟨M2,r2⟩:=qZ h' (a:=c-δ/2) (b:=c) ψ;have e1:=ih (c-δ/2) hm ψ ψ N1 N2 q1 q2;have e2:=cell (c-δ/2) c hm hc ψ ψ M1 M2 r1 r2;have:=p.v;have:=q1.v;have:=r1.v;have:=p'.v;have:=q2.v;have:=r2.v;omega);grind
def qQ.uniq(pf:Po f){a b:Rat}(hab:a<=b)(h:qQ f a b N)(k:qQ f a b M):N=M:=let ⟨_,_,h1,h2⟩:=h;let ⟨_,_,k1,k2⟩:=k;ahq pf h1 k1 hab h2 k2
def qQ.split{a m b:Rat}(ham:a<=m)(hmb:m<=b)(h:qQ f a b N):∃K M,qQ f a m K/\qQ f m b M/\N=K+M:=by have⟨g,l,h1,h2⟩:=h;have⟨K,k⟩:=qZ h1 ham;have⟨M,m'⟩:=qZ h1 hmb;exact⟨K,M,⟨g,l,h1,k⟩,⟨g,l,h1,m'⟩,by have:=h2.v;have:=k.v;have:=m'.v;omega⟩
def qQ.cat(pf:Po f){a m b:Rat}(ham:a<=m)(hmb:m<=b)(h:qQ f a m N)(k:qQ f m b M):qQ f a b<|N+M:=by have⟨g,l,h1,h2⟩:=h;have⟨M',m'⟩:=qZ h1 hmb;have e:=qQ.uniq pf hmb k ⟨g,l,h1,m'⟩;subst e;exact⟨g,l,h1,aaB ham hmb h2 m'⟩
def agF:∀(B A:Nat) (f:Nat->Nat),B<A->(∀i,i<A->f i<B)->∃i j,i<j/\j<A/\f i=f j
 |0,A,f,h,hf=>absurd (hf 0 Z)<|acH _
 |B+1,A,f,h,hf=>by
  obtain⟨A',rfl⟩:∃A',A=A'+1:=⟨A-1,by omega⟩
  by_cases hh:∃i,i<A'/\f i=f A'
  ·grind
  ·have hne:∀i,i<A'->f i≠f A':=ψ
   have hA:=hf A' Z;have⟨i,j,h1,h2,h3⟩:=agF B A' (λi=>if f i<f A' then f i else f i-1) Z ψ
   refine⟨i,j,h1,by omega,?_⟩;grind
def NQ(b t j:Nat):Nat:=t/b^j%b
def agH{b:Nat}(hb:0<b):∀(n s t:Nat),s<b^n->t<b^n->(∀j,j<n->NQ b s j=NQ b t j)->s=t
 |0,s,t,hs,ht,_=>by simp_all
 |n+1,s,t,hs,ht,h=>by
  have e0:s%b=t%b:=by have:=h 0 Z;unfold NQ at this;simp_all
  have e1:s/b=t/b:=by
   refine agH hb n _ _ (ahR ψ) (ahR ψ) λj hj=>?_;have:=h (j+1) Z;unfold NQ at this ⊢;rwa [Nat.pow_succ,Nat.mul_comm,<-Nat.div_div_eq_div_mul,<-Nat.div_div_eq_div_mul] at this
  rw [<-Nat.div_add_mod s b,<-Nat.div_add_mod t b,e0,e1]
def OO(w:Nat->Nat)(R:Nat):Nat->Nat
 |0=>0
 |m+1=>OO w R m+w m*R^m
def KP{w:Nat->Nat}{R:Nat}:∀{m:Nat},(∀i,i<m->w i<R)->OO w R m<R^m
 |0,_=>by rw [Nat.pow_zero];exact Nat.one_pos
 |m+1,h=>by
  have h1:=KP (w:=w) (R:=R) (m:=m) λi hi=>h i Z
  have h2:=abh (R^m) (show w m+1<=R from h m Z);rw [Nat.add_mul,Nat.one_mul] at h2;show OO w R m+w m*R^m<R^(m+1)
  grind
def WH{w v:Nat->Nat}{R:Nat}:∀{m:Nat},(∀i,i<m->w i<R)->(∀i,i<m->v i<R)->OO w R m=OO v R m->∀i,i<m->w i=v i
 |0,_,_,_,i,hi=>absurd hi<|acH _
 |m+1,hw,hv,e,i,hi=>by
  have h1:=KP (w:=w) (R:=R) (m:=m) λi hi=>hw i Z
  have h2:=KP (w:=v) (R:=R) (m:=m) λi hi=>hv i Z
  have hpos:0<R^m:=Z
  have e':OO w R m+w m*R^m=OO v R m+v m*R^m:=e;have q:w m=v m:=by
   have:=ah9 (·/R^m) e';simp only [Nat.add_mul_div_right _ _ hpos,Nat.div_eq_of_lt h1,Nat.div_eq_of_lt h2] at this;omega
  have e2:OO w R m=OO v R m:=by simp_all
  rcases ahZ i m with h|h
  ·exact WH ψ ψ e2 i h
  grind
def mD(a:Nat->Int):Nat->Int
 |0=>0
 |n+1=>mD a n+a n
def TU{a:Nat->Int}{H:Int}:∀{n:Nat},(∀j,j<n->-H<=a j/\a j<=H)->-(n*H)<=mD a n/\mD a n<=n*H
 | 0,_=>by constructor <;> (show _<=_;simp [mD])
 | n+1,h=>by
  have h1:=TU (a:=a) (H:=H) (n:=n) λj hj=>h j aEc
  have h2:=h n aEc;have e:((n+1:Nat):Int)*H=(n:Int)*H+H:=by grind
  rw [e];show _<=mD a n+a n/\mD a n+a n<=_
  omega
def WJ:∀n:Nat,mD (λj=>a j-b j) n=mD a n-mD b n
 |0=>rfl
 |n+1=>by show mD (λj=>a j-b j) n+(a n-b n)=(mD a n+a n)-(mD b n+b n);rw [WJ n];omega
def aqC{H:Nat}(A:Nat->Nat->Int)(hmn:m<n)(hH:1<=H)(hA:∀i j,i<m->j<n->-(H:Int)<=A i j/\A i j<=H):
  ∃x:Nat->Int,(∃j,j<n/\x j≠0)/\(∀j,n<=j->x j=0)/\(∀j,-(((2*n*H)^m:Nat):Int)<=x j/\x j<=(((2*n*H)^m:Nat):Int))/\∀i,i<m->mD (λj=>A i j*x j) n=0:=by obtain⟨M,hM⟩:∃M,M=(2*n*H)^m:=ψ;obtain⟨S,hS⟩:∃S:Nat,S=n*(H*M):=ψ;let img:Nat->Nat->Int:=λt i=>mD (λj=>A i j*(NQ (M+1) t j:Int)) n;have hp:∀t j,NQ (M+1) t j<=M:=λt j=>(by unfold NQ;have:=acP (t/(M+1)^j) (show 0<M+1 by omega);omega);have aoU:∀t i,i<m->-(S:Int)<=img t i/\img t i<=S:=(by intro t i hi;have:=TU (a:=λj=>A i j*(NQ (M+1) t j:Int)) (H:=((H*M:Nat):Int)) λj hj=>(by have h1:=hA i j hi hj;have h2:=hp t j;have h3:((NQ (M+1) t j:Nat):Int)<=M:=Z;have a1:=Int.mul_le_mul_of_nonneg_right h1.2 (show 0<=((NQ (M+1) t j:Nat):Int) by omega);have a2:=Int.mul_le_mul_of_nonneg_right h1.1 (show 0<=((NQ (M+1) t j:Nat):Int) by omega);have a3:=Int.mul_le_mul_of_nonneg_left h3 (show 0<=(H:Int) by omega);grind);grind);have hcnt:(2*S+1)^m<(M+1)^n:=(by have h1:2*S+1<=2*n*H*(M+1):=(by have hnH:1<=n*H:=ahW Z hH;grind);have h2:(2*S+1)^m<=M*(M+1)^m:=(by have:=ac5 h1 m;rwa [Nat.mul_pow,<-hM] at this);have h3:M*(M+1)^m<(M+1)^(m+1):=aDj;have h4:(M+1)^(m+1)<=(M+1)^n:=acC Z hmn;omega);have hw:∀t i,i<m->(img t i+S).toNat<2*S+1:=λt i hi=>(by have:=aoU t i hi;omega);have⟨s,t,hst,ht,he⟩:=agF ((2*S+1)^m) ((M+1)^n) (λt=>OO (λi=>(img t i+S).toNat) (2*S+1) m) hcnt (λt _=>KP<|hw t);have hi:∀i,i<m->img s i=img t i:=λi hi=>(by have:=WH (hw s) (hw t) he i hi;have h1:=aoU s i hi;have h2:=aoU t i hi;omega);refine⟨λj=>if j<n then(NQ (M+1) s j:Int)-NQ (M+1) t j else 0,?_,λj hj=>if_neg Z,λj=>?_,λi him=>?_⟩;by_cases hh:∃j,j<n/\NQ (M+1) s j≠NQ (M+1) t j;grind;exfalso;have:=agH (b:=M+1) Z n s t Z ht λj hj=>aCj;omega;grind;have e:mD (λj=>A i j*(if j<n then(NQ (M+1) s j:Int)-NQ (M+1) t j else 0)) n=mD (λj=>A i j*(NQ (M+1) s j:Int)-A i j*(NQ (M+1) t j:Int)) n:=(by have cg:∀(a b:Nat->Int) (k:Nat),(∀j,j<k->a j=b j)->mD a k=mD b k:=(by intro a b k;induction k with|zero=>intro _;rfl|succ k ih=>intro h;show mD a k+a k=mD b k+b k;grind);refine cg _ _ n λj hj=>?_;show A i j*(if j<n then _ else _)=_;rw [if_pos hj,Int.mul_sub]);show mD (λj=>A i j*(if j<n then(NQ (M+1) s j:Int)-NQ (M+1) t j else 0)) n=0;rw [e,WJ];grind
def QW(a b:Nat->Int)(j:Nat):∀m,cv a b m j=mD (λi=>if i<=j then a i*b (j-i) else 0) m
 |0=>rfl
 |m+1=>by show cv a b m j+_=mD _ m+_;rw [QW a b j m]
def I4(h:∀i,n<=i->a i=0):∀d,mD a (n+d)=mD a n
 |0=>rfl
 |d+1=>by show mD a (n+d)+a (n+d)=_;rw [I4 h d,h _ Z];omega
def ak0(h:∀i,n<=i->a i=0)(k:∀i,m<=i->a i=0):mD a n=mD a m:=by rcases Nat.le_total n m with h1|h1;obtain⟨d,rfl⟩:=amJ h1;exact(I4 h d).symm;obtain⟨d,rfl⟩:=amJ h1;exact I4 k d
def O3(h:∀i,n<=i->a i=0)(t:Nat):bW a b t=mD (λi=>if i<=t then a i*b (t-i) else 0) n:=by unfold bW;rw [QW];refine ak0 Z (λi hi=>?_);simp_all
def WI(n:Nat):∀m,mD a (n+m)=mD a n+mD (λj=>a<|n+j) m
 |0=>(Int.add_zero _).symm
 |m+1=>by show mD a (n+m)+a (n+m)=_+(mD _ m+a (n+m));rw [WI n m];omega
def TV:∀{k:Nat},(∀j,j<k->a j=b j)->mD a k=mD b k
 |0,_=>rfl
 |k+1,h=>by show mD a k+a k=mD b k+b k;rw [TV λj hj=>h j Z,h k Z]
def Wn{γ:Nat->Int}{r:Nat}{κ:Rat}{W:Nat->Int}(hp:dM γ r=1)(h:∀i,i<r->κ*(γ i:Rat)=(W i:Rat)):∃z:Int,κ=(z:Rat):=by
 have h1:∀n,n<=r->(κ.den∣dM γ n):=(by intro n;induction n with|zero=>intro _;exact Nat.dvd_zero _|succ n ih=>intro hn;refine Nat.dvd_gcd Z ?_;have e:=h n Z;have hk:((κ.num*γ n:Int):Rat)=((W n*κ.den:Int):Rat):=(by rw [Rat.intCast_mul,Rat.intCast_mul,<-e];have h2:=KD (x:=κ.num) (y:=(κ.den:Int)) (by have:=κ.den_pos;omega);rw [kU] at h2;grind);have hz:κ.num*γ n=W n*κ.den:=(by exact_mod_cast hk);have hd:(κ.den:Int)∣κ.num*γ n:=⟨W n,by grind⟩;have hd2:κ.den∣κ.num.natAbs*(γ n).natAbs:=(by have:=ahV.1 hd;rwa [Int.natAbs_mul] at this);exact Nat.Coprime.dvd_of_dvd_mul_left (Nat.Coprime.symm κ.reduced) hd2);have h2:=h1 r<|aav r;rw [hp] at h2;have h3:κ.den=1:=Nat.dvd_one.1 h2;exact⟨κ.num,by
  have h4:=kU κ;rw [h3] at h4;exact h4.symm.trans<|qJ κ.num⟩
def Zd{c' γ:Nat->Int}{d e r H:Nat}{k1 k2:Fn}(hc:∀i,d<i->c i=0)(hc':∀i,e<i->c' i=0)(hγ:∀i,r<i->γ i=0)(hd:c d≠0)(he:c' e≠0)(hr:γ r≠0)(afj:dM γ (r+1)=1) 
  (hH:1<=H) (bc:∀i,-(H:Int)<=c i/\c i<=H) (bc':∀i,-(H:Int)<=c' i/\c' i<=H) (pk1:Po k1) (pk2:Po k2) (h1:∀x,pz c x (d+1)=k1 x*pz γ x (r+1)) (h2:∀x,pz c' x (e+1)=k2 x*pz γ x (r+1)) (aoQ:H6 k1 k2) (hrd:r<=d) (hre:r<=e) (hlt:r<d\/r<e):
  ∃(U V:Nat->Int) (z:Int),z≠0/\(∀j,e-r<=j->U j=0)/\(∀j,d-r<=j->V j=0)/\(∀j,-(((2*(d+e)*H)^(d+e):Nat):Int)<=U j/\U j<=(((2*(d+e)*H)^(d+e):Nat):Int))/\(∀j,-(((2*(d+e)*H)^(d+e):Nat):Int)<=V j/\V j<=(((2*(d+e)*H)^(d+e):Nat):Int))/\
   ∀x,pz U x (e-r)*pz c x (d+1)+pz V x (d-r)*pz c' x (e+1)=(z:Rat)*pz γ x (r+1):=by
 obtain⟨n,hn⟩:∃n,n=(e-r)+(d-r):=⟨_,O⟩;obtain⟨A,hA⟩:∃A:Nat->Nat->Int,A=λi j=>if j<e-r then(if j<=r+1+i then c (r+1+i-j) else 0) else(if j-(e-r)<=r+1+i then c' (r+1+i-(j-(e-r))) else 0):=⟨_,O⟩;have⟨x,⟨j0,hj0,hx0⟩,hxz,hxb,hxe⟩:=aqC (m:=n-1) (n:=n) (H:=H) A Z hH (λi j _ _=>by
  rw [hA];show _<=(if j<e-r then _ else _)/\(if j<e-r then _ else _)<=_
  split
  ·split
   ·exact bc _
   ·omega
  ·split
   ·exact bc' _
   ·omega)
 have hbig:(2*n*H)^(n-1)<=(2*(d+e)*H)^(d+e):=(by have h3:2*n*H<=2*(d+e)*H:=abh H Z;have h4:0<2*(d+e)*H:=ahW Z hH;exact acL (ac5 h3 _)<|acC h4 Z);obtain⟨U,hU⟩:∃U:Nat->Int,U=λj=>if j<e-r then x j else 0:=⟨_,O⟩;obtain⟨V,hV⟩:∃V:Nat->Int,V=λj=>x (e-r+j):=⟨_,O⟩;have Uz:∀j,e-r<=j->U j=0:=λj hj=>(by rw [hU];exact if_neg Z);have Vz:∀j,d-r<=j->V j=0:=λj hj=>(by rw [hV];exact hxz _ Z);have cz:∀i,d+1<=i->c i=0:=λi hi=>hc i Z;have cz':∀i,e+1<=i->c' i=0:=λi hi=>hc' i Z;have γz:∀i,r+1<=i->γ i=0:=λi hi=>hγ i Z;obtain⟨W,hW⟩:∃W:Nat->Int,W=kT (bW U c) (bW V c'):=⟨_,O⟩;have Wz:∀t,r+1<=t->W t=0:=(by intro t ht;rw [hW];show bW U c t+bW V c' t=0;by_cases hbt:t<d+e-r;have h3:=hxe (t-(r+1)) Z;rw [hn,WI] at h3;rw [O3 Uz,O3 Vz];refine Eq.trans ?_ h3;congr 1;refine TV λj hj=>?_;rw [hA,hU];show _=(if j<e-r then _ else _)*x j;rw [if_pos hj,show r+1+(t-(r+1))=t by omega];grind;refine TV λj hj=>?_;have eA:A (t-(r+1)) (e-r+j)=if j<=t then c' (t-j) else 0:=(by rw [hA];show(if e-r+j<e-r then _ else _)=_;rw [if_neg Z,show r+1+(t-(r+1))=t by omega,show e-r+j-(e-r)=j by omega]);grind;rw [ql (n:=e-r) (m:=d+1) Uz cz Z,ql (n:=d-r) (m:=e+1) Vz cz' Z];rfl);have hval:∀q,pz W q (r+1)=pz U q (e-r)*pz c q (d+1)+pz V q (d-r)*pz c' q (e+1):=(by intro q;have hz:∀t,max (e-r+(d+1)) (d-r+(e+1))<=t->W t=0:=λt ht=>Wz t Z;rw [Et Wz hz];have z1:=gJ Uz cz;have z2:=gJ Vz cz';have e1:pz W q (max (e-r+(d+1))<|d-r+(e+1))=pz (bW U c) q (max (e-r+(d+1))<|d-r+(e+1))+pz (bW V c') q (max (e-r+(d+1))<|d-r+(e+1)):=(by rw [hW];unfold pz;rw [<-CG];refine oU λi _=>?_;show((bW U c i+bW V c' i:Int):Rat)=((bW U c i:Int):Rat)+((bW V c' i:Int):Rat);grind);rw [e1,TA Uz cz<|λi hi=>z1 i Z,TA Vz cz'<|λi hi=>z2 i Z]);have pU:Pl (e-r) (λq=>pz U q<|e-r):=⟨rc U,xR Uz,λ_=>rfl⟩;have pV:Pl (d-r) (λq=>pz V q<|d-r):=⟨rc V,xR Vz,λ_=>rfl⟩;have lG:Lc r (λq=>pz γ q<|r+1) (γ r:Rat):=⟨rc γ,λi hi=>by unfold rc;rw [hγ i hi];rfl,O,λe=>hr<|al8.1 e,λ_=>rfl⟩;have lF:Lc d (λq=>pz c q<|d+1) (c d:Rat):=⟨rc c,λi hi=>by unfold rc;rw [hc i hi];rfl,O,λe=>hd<|al8.1 e,λ_=>rfl⟩;have lF':Lc e (λq=>pz c' q<|e+1) (c' e:Rat):=⟨rc c',λi hi=>by unfold rc;rw [hc' i hi];rfl,O,λe=>he<|al8.1 e,λ_=>rfl⟩;have pK:Po (λq=>pz U q (e-r)*k1 q+pz V q (d-r)*k2 q):=(pU.po.mul pk1).add<|pV.po.mul pk2;have hKG:∀q,(pz U q (e-r)*k1 q+pz V q (d-r)*k2 q)*pz γ q (r+1)=pz W q (r+1):=λq=>(by rw [hval,h1,h2];grind);have ayC:∃q,pz U q (e-r)*k1 q+pz V q (d-r)*k2 q≠0:=(by by_cases hh:∃q,pz U q (e-r)*k1 q+pz V q (d-r)*k2 q≠0;omega;exfalso;have h0:∀q,pz U q (e-r)*k1 q+pz V q (d-r)*k2 q=0:=λq=>(by by_cases h:pz U q (e-r)*k1 q+pz V q (d-r)*k2 q=0;exact h;exact absurd ⟨q,h⟩ hh);have⟨j2,b2,l2⟩:=nP pk2 (by have⟨y,hy⟩:=lF'.ne;grind);have hj2:=((l2.mul lG).congr λq=>(h2 q).symm).uniq lF';have hdv:Dv k2 (λq=>pz U q<|e-r):=(by refine aoQ.symm.dv pU.po ⟨λq=> - pz V q (d-r),pV.po.neg,λq=>?_⟩;grind);have hU0:∀q,pz U q (e-r)=0:=(by rcases zY pU with h|⟨k,a,hk,hl⟩;exact h;have:=hdv.deg l2 hl;omega);have hV0:∀q,pz V q (d-r)=0:=λq=>PN pk2 l2.ne pV.po (λt=>by have:=h0 t;rw [hU0] at this;grind) q;have u0:=KJ Uz (λt=>hU0 _);have v0:=KJ Vz (λt=>hV0 _);apply hx0;by_cases hj:j0<e-r;have:=u0 j0;grind;have h9:x (e-r+(j0-(e-r)))=0:=(by have:=v0<|j0-(e-r);grind);rwa [show e-r+(j0-(e-r))=j0 by omega] at h9);have⟨jk,κ,hK⟩:=nP pK ayC;have hW':=(hK.mul lG).congr hKG;have hjk:jk=0:=(by rcases zY (⟨rc W,xR Wz,λ_=>rfl⟩:Pl (r+1)<|λq=>pz W q<|r+1) with h|⟨k,a,hk,hl⟩;have⟨y,hy⟩:=hW'.ne;grind;have:=hW'.uniq hl;omega);subst hjk;have hκ:=tH hK;have hκ0:κ≠0:=hK.choose_spec.2.2.1;have hWγ:∀i,κ*(γ i:Rat)=(W i:Rat):=by
  intro i;have:=agz (a:=yA (rc γ) κ) (b:=rc W) (n:=r+1) (m:=r+1) (ZL<|xR γz) (xR Wz) (λt=>by
   rw [vZ];have:=hKG t;rw [hκ] at this;show pz γ t (r+1)*κ=pz W t (r+1)
   grind) i
  rw [Rat.mul_comm];exact this
 have⟨z,hz⟩:=Wn afj (λi _=>hWγ i);refine⟨U,V,z,λh0=>hκ0<|by rw [hz,h0];rfl,Uz,Vz,λj=>?_,λj=>?_,λq=>?_⟩
 ·rw [hU];have:=hxb j;show _<=(if j<e-r then x j else 0)/\(if j<e-r then x j else 0)<=_;omega
 ·rw [hV];have:=hxb<|e-r+j;show _<=x (e-r+j)/\x (e-r+j)<=_;omega
 grind
def yc{a b δ:Rat}(hδ:0<δ)(hab:a<=b)(P:Rat->Prop)(h0:P a)(hs:∀x y,a<=x->x<y->y<=b->y-x<δ->P x->P y):P b:=by have⟨n,hn⟩:=MB (r:=b-a) (d:=δ/2) ψ;have main:∀n:Nat,∀c,a<=c->c<=b->c-a<=(n:Rat)*(δ/2)->P c:=(by intro n;induction n with|zero=>grind|succ n ih=>intro c h1 hcb h2;rw [oQ] at h2;by_cases h3:c-a<=(n:Rat)*(δ/2);simp_all;by_cases h4:c-δ/2<=a;by_cases h5:a=c;simp_all;exact hs a c ψ ψ hcb ψ h0;exact hs (c-δ/2) c ψ ψ hcb ψ ψ);grind
def Ap(a b:Rat):∃B,In B a/\In B b/\1<=B:=by refine⟨(if a<0 then -a else a)+(if b<0 then -b else b)+1,?_,?_,?_⟩ <;> (try unfold In) <;> (grind) <;> (grind) <;> grind
def In.Om{a b:Rat}(ha:In B a)(hb:In B b)(h1:a<=t)(h2:t<=b):In B t:=by unfold In at *;grind
def BN(pf:Po f){a b e:Rat}(hab:a<=b)(he:0<e)(h:∀t,a<=t->t<=b->oL (f t) e):gI (f a)≠0/\∀t,a<=t->t<=b->gI (f t)=gI (f a):=by have⟨B,hBa,hBb,_⟩:=Ap a b;have⟨L,hL,hl⟩:=pf.lip B;have⟨d,hd,hs⟩:=jl hL he;refine⟨?_,λt h1 h2=>?_⟩;intro h0;rw [gK] at h0;have:=h a ψ hab;rw [h0] at this;rcases this with k|k <;> grind;refine yc hd h1 (λc=>gI (f c)=gI (f a)) O λx y hx hxy hy hlt ih=>?_;have oq:=hBa.Om hBb hx ψ;have hyB:=hBa.Om hBb (t:=y) ψ ψ;show gI (f y)=gI (f a);rw [<-ih];exact(Jj hl hL oq hyB he ψ ψ).2.1 y ψ ψ
def Dw(pf:Po f){a b:Rat}(hab:a<=b)(h:qQ f a b N)(hN:N≠0){e:Rat}(he:0<e):∃x,a<=x/\x<=b/\Ab (f x) e:=by by_cases hh:∃x,a<=x/\x<=b/\Ab (f x) e;omega;exfalso;have hf:∀t,a<=t->t<=b->oL (f t) e:=λt h1 h2=>(by have:¬Ab (f t) e:=ψ;unfold Ab at this;unfold oL;grind);have⟨h0,h1⟩:=BN pf hab he hf;exact hN ((h.free pf hab).2 ⟨gI<|f a,h0,λt k1 k2=>h1 t ψ k2⟩)
def aeX(hd:yX f f')(pf:Po f)(pf':Po f'){a b:Rat}(hab:a<=b)(h:qQ f a b N)(hN:2<=N){e:Rat}(he:0<e):∃x,a<=x/\x<=b/\Ab (f' x) e:=by by_cases hh:∃x,a<=x/\x<=b/\Ab (f' x) e;omega;exfalso;have hf:∀t,a<=t->t<=b->oL (f' t) e:=λt h1 h2=>(by have:¬Ab (f' t) e:=ψ;unfold Ab at this;unfold oL;grind);have⟨h0,h1⟩:=BN pf' hab he hf;have⟨g,l,hst,hp⟩:=h;have:=hp.mon (gI<|f' a) (Aw h0) λt k1 k2=>(by rw [hst.sg hd];simp_all);have:=hp.v;grind
def akN{z S L a b:Rat}(hd:yX f f')(pf:Po f)(pf':Po f')(hz:1<=z\/z<=-1)(Kr:∀x,U x*f x+V x*f' x=z)(hU:∀x,In B x->Ab (U x) S)(hV:∀x,In B x->Ab (V x) S)(hL:Xl B f' L)(hL0:0<=L)(ha:In B a)(hb:In B b)(hab:a<=b)(hs:S*(L*(b-a))<1)(h:qQ f a b N):N<=1:=by rcases ahZ 1 N with hN|hN;exfalso;have hS:0<=S:=(hU a ha).nn;have⟨e,he,hse⟩:=jl (L:=2*S) (m:=1-S*(L*(b-a))) ψ ψ;have he2:=hse (e/2) ψ ψ;have⟨x,hx1,hx2,hx⟩:=Dw pf hab h Z (show 0<e/2 by grind);have⟨y,hy1,hy2,hy⟩:=aeX hd pf pf' hab h hN (show 0<e/2 by grind);have oq:=ha.Om hb hx1 hx2;have hyB:=ha.Om hb hy1 hy2;have hfx:Ab (f' x)<|e/2+L*(b-a):=(by by_cases hxy:x<=y;have h1:=hL.ab oq hyB hxy;have h2:L*(y-x)<=L*(b-a):=aaJ ψ hL0;unfold Ab at *;grind;have h1:=hL.ab hyB oq ψ;have h2:L*(x-y)<=L*(b-a):=aaJ ψ hL0;unfold Ab at *;grind);have h3:=((hU x oq).mul hx).add<|(hV x oq).mul hfx;rw [Kr] at h3;unfold Ab at h3;grind;omega
def MG{l:List Fn}(h:KY f g l)(pf:Po f){a b:Rat}(hab:a<=b)(h0:gI (f a)≠0)(hs:∀t,a<=t->t<=b->gI (f t)=gI (f a)):∃e,0<e/\∀t,a<=t->t<=b->oL (f t) e:=by have⟨B,hBa,hBb,_⟩:=Ap a b;have⟨δ,hδ,_,hcell⟩:=wE h B;have⟨L,hL,hl⟩:=pf.lip B;have far:∀x,gI (f x)≠0->∃e,0<e/\oL (f x) e:=λx hx=>aDA;refine yc hδ hab (λc=>∃e,0<e/\∀t,a<=t->t<=c->oL (f t) e) ?_ λx y hx hxy hy hlt ih=>?_;have⟨e,he,hf⟩:=far a h0;grind;have⟨e,he,ih⟩:=ih;have oq:=hBa.Om hBb hx ψ;have hyB:=hBa.Om hBb (t:=y) ψ hy;have key:∃e',0<e'/\∀t,x<=t->t<=y->oL (f t) e':=(by rcases hcell x y oq hyB hxy hlt with⟨⟨_,_,k0⟩,_⟩|⟨τ,hτ,_,hm,_⟩;omega;have⟨e1,he1,hf1⟩:=far x ψ;have⟨e2,he2,hf2⟩:=far y ψ;have⟨e',he',h1,h2⟩:=mP he1 he2;refine⟨e',he',λt ht1 ht2=>?_⟩;by_cases htx:t=x;subst htx;rcases hf1 with k|k;exact aw6;exact aw7;by_cases hty:t=y;subst hty;rcases hf2 with k|k;exact aw6;exact aw7;have m1:=hm x t ψ ψ ht2;have m2:=hm t y ht1 ψ ψ;have sx:=hs x hx ψ;have sy:=hs y ψ hy;have st:=hs t ψ ψ;rcases eU (f t) with⟨k,e⟩|⟨k,e⟩|⟨k,e⟩;refine Or.inr ?_;have kx:f x<0:=(by rcases eU (f x) with⟨q,e'⟩|⟨q,e'⟩|⟨q,e'⟩ <;> first|exact q|omega);have ky:f y<0:=(by rcases eU (f y) with⟨q,e'⟩|⟨q,e'⟩|⟨q,e'⟩ <;> first|exact q|omega);have a1:f x<=-e1:=aGP;have a2:f y<=-e2:=aGQ;rcases hτ with rfl|rfl;exact axb;exact axa;omega;refine Or.inl ?_;have kx:0<f x:=(by rcases eU (f x) with⟨q,e'⟩|⟨q,e'⟩|⟨q,e'⟩ <;> first|exact q|omega);have ky:0<f y:=(by rcases eU (f y) with⟨q,e'⟩|⟨q,e'⟩|⟨q,e'⟩ <;> first|exact q|omega);have a1:e1<=f x:=aGP;have a2:e2<=f y:=aGQ;rcases hτ with rfl|rfl;exact axa;exact axb);have⟨e',he',hk⟩:=key;have⟨e2,he2,h1,h2⟩:=mP he he';refine⟨e2,he2,λt k1 k2=>?_⟩;by_cases htx:t<=x;rcases ih t k1 htx with k|k;exact aw6;exact aw7;rcases hk t ψ k2 with k|k;exact aw6;exact aw7
def H6.far{w:Fn}(h:H6 g w)(B:Rat):∃m,0<m/\∀x,In B x->oL (g x) m\/oL (w x) m:=by have⟨u,v,pu,pv,huv⟩:=h;have⟨M,hM,m1⟩:=pu.bd B;have⟨N,hN,m2⟩:=pv.bd B;have⟨m,hm,hs⟩:=jl (L:=M+N) (m:=1) ψ ψ;refine⟨m/2,by grind,λx hx=>?_⟩;by_cases h1:oL (g x)<|m/2;simp_all;by_cases h2:oL (w x)<|m/2;simp_all;exfalso;have a1:Ab (g x)<|m/2:=(by unfold oL at h1;unfold Ab;grind);have a2:Ab (w x)<|m/2:=(by unfold oL at h2;unfold Ab;grind);have a3:=((m1 x hx).mul a1).add<|(m2 x hx).mul a2;have:=huv x;have a4:=hs (m/2) ψ ψ;unfold Ab at a3;grind
def Ja.aer{w w':Fn}(h:Ja f f')(pg:Po g)(pw:Po w)(pg':Po g')(pw':Po w')(dg:yX g g')(dw:yX w w')(hf:∀x,f x=g x*w x):H6 g w:=by have⟨u,v,pu,pv,huv⟩:=h.cop;have e:∀x,f' x=g' x*w x+g x*w' x:=λx=>(((dg.mul dw pg pw pg').congr ψ<|λ_=>rfl).uniq h.y8 x).symm;exact⟨λx=>u x*w x+v x*w' x,λx=>v x*g' x,(pu.mul pw).add<|pv.mul pw',pv.mul pg',λx=>by grind⟩
def Ja.dv{w:Fn}(h:Ja f f')(pg:Po g)(pw:Po w)(pg':Po g')(dg:yX g g')(hf:∀x,f x=g x*w x):Ja g g':=by have⟨w',pw',dw⟩:=pw.y8;have⟨u,v,pu,pv,huv⟩:=h.cop;have e:∀x,f' x=g' x*w x+g x*w' x:=λx=>(((dg.mul dw pg pw pg').congr ψ<|λ_=>rfl).uniq h.y8 x).symm;exact⟨pg,pg',dg,λx=>u x*w x+v x*w' x,λx=>v x*w x,(pu.mul pw).add<|pv.mul pw',pv.mul pw,λx=>by grind⟩
def Vf(pf:Po f)(B:Rat){m:Rat}(hm:0<m):∃δ,0<δ/\∀x y,In B x->In B y->x<y->y-x<δ->oL (f x) m->Gd f x y:=by have⟨L,hL,hl⟩:=pf.lip B;have⟨d,hd,hs⟩:=jl hL hm;exact⟨d,hd,λx y hx hy hxy hlt hf=>Jj hl hL hx hy hm ψ hf⟩
def aez{f g w gg gf:Fn}{lg lf:List Fn}(pf:Po f)(pg:Po g)(pw:Po w)(sg:KY g gg lg)(sf:KY f gf lf)(aoQ:H6 g w)(hf:∀x,f x=g x*w x){a b:Rat}(hab:a<=b):∀{K N:Nat},qQ g a b K->qQ f a b N->K<=N:=by
 obtain⟨B,hBa,hBb,_⟩:=Ap a b;obtain⟨m,hm,Iy⟩:=aoQ.far B;obtain⟨δ1,hδ1,c1⟩:=Vf pg B hm;obtain⟨δ2,hδ2,c2⟩:=Vf pw B hm;obtain⟨δ3,hδ3,_,c3⟩:=wE sg B;obtain⟨δ4,hδ4,e1,e2⟩:=mP hδ1 hδ2;obtain⟨δ,hδ,e3,e4⟩:=mP hδ4 hδ3;refine yc hδ hab (λc=>∀{K N:Nat},qQ g a c K->qQ f a c N->K<=N) ?_ λx y hx hxy hy hlt ih=>?_
 ·intro K N h1 h2;have:K=0:=(h1.free pg ψ).2 ⟨1,by decide,λt k1 k2=>by grind⟩;omega
 ·intro K N h1 h2;obtain⟨K1,K2,k1,k2,rfl⟩:=h1.split hx ψ;obtain⟨N1,N2,n1,n2,rfl⟩:=h2.split hx ψ;have:=ih k1 n1;have oq:=hBa.Om hBb hx ψ;have hyB:=hBa.Om hBb (t:=y) ψ hy;have hK2:K2<=N2:=by
   obtain⟨K',hK',kp⟩:=Cm hxy (c3 x y oq hyB hxy ψ);have e:K2=K':=qQ.uniq pg ψ k2 ⟨gg,lg,sg,kp⟩;rcases Iy x oq with h | h
   ·have hg:=c1 x y oq hyB hxy ψ h
    have:K2=0:=(k2.free pg ψ).2 ⟨_,hg.1,λt q1 q2=>hg.2.1 t ψ q2⟩;omega
   ·have hw:=c2 x y oq hyB hxy ψ h
    by_cases hN:N2=0
    ·obtain⟨s,hs,hst⟩:=(n2.free pf ψ).1 hN
     have:K2=0:=(k2.free pg ψ).2 ⟨s*gI (w x),ahU hs hw.1,λt q1 q2=>by
      have a1:=hst t q1 q2;rw [hf,Hf,hw.2.1 t ψ q2] at a1;have a2:=Aw hw.1;rcases a2 with a2 | a2 <;> rw [a2] at a1 ⊢ <;> omega⟩
     omega
    ·omega
  omega
def QV{a b:Rat}(hd:yX f f')(hab:a<b)(h:qQ f a b N)(hN:N<=1):N=1↔(gI (f b)=0\/gI (f b)≠yZ f f' a):=by have⟨g,l,hs,hp⟩:=h;have e:∀x,yZ f g x=yZ f f' x:=λx=>(by unfold yZ;rw [hs.sg hd]);constructor;rintro rfl;by_cases h0:gI (f b)=0;omega;right;have h1:=hp.par;rw [BF h0,e] at h1;have h2:m1 1 (yZ f f' a)= -(yZ f f' a):=aD3;omega;intro h1;rcases acT N with h0|h0;exfalso;have h2:=hp.nil.1 h0 b hab ψ;rw [e] at h2;rcases h1 with h1|h1;have h3:=hp.par;subst h0;rw [e,e] at h3;rw [h1] at h2;have h4:yZ f f' b=0:=(by rw [h3];show m1 0 _=0;rw [<-h2];rfl);have h5:gI (f' b)=0:=(by rw [QD h1] at h4;omega);have⟨B,hB,_,_⟩:=Ap b b;have⟨δ,hδ,hne,_⟩:=wE hs B;grind;omega;omega
def aou{h:Fn}(ph:Po h)(e:∀x,f x^k=h x*p x){a b m:Rat}(hm:0<m)(hf:∀t,a<=t->t<=b->oL (f t) m):∃m',0<m'/\∀t,a<=t->t<=b->oL (p t) m':=by have⟨B,hBa,hBb,_⟩:=Ap a b;have⟨M,hM,hb⟩:=ph.bd B;have hpos:0<m^k:=(by clear e hf;induction k with|zero=>grind|succ k ih=>rw [Rat.pow_succ];exact ac4 ih hm);have azj:∀t,a<=t->t<=b->oL (f t^k) (m^k):=(by intro t h1 h2;have:=hf t h1 h2;clear e hf hpos;induction k with|zero=>rw [Rat.pow_zero,Rat.pow_zero];exact aw6|succ k ih=>(rw [Rat.pow_succ,Rat.pow_succ];have hp0:0<m^k:=(by clear ih;induction k with|zero=>grind|succ k ih=>rw [Rat.pow_succ];exact ac4 ih hm);generalize f t^k=y at *;generalize m^k=z at *;generalize f t=x at *;have c1:∀u v:Rat,z<=u->m<=v->z*m<=u*v:=λu v h1 h2=>(by have a1:=aaJ h2 (show 0<=z by grind);have a2:=abV h1 (show 0<=v by grind);grind);rcases ih with i|i <;> rcases this with j|j;exact aw6;exact Or.inr (by have:=c1 y (-x) i ψ;grind);exact Or.inr (by have:=c1 (-y) x ψ j;grind);exact Or.inl<|by have:=c1 (-y) (-x) ψ ψ;grind));have⟨m',hm',hs⟩:=jl hM hpos;refine⟨m'/2,by grind,λt h1 h2=>?_⟩;by_cases Iy:oL (p t)<|m'/2;omega;exfalso;have a1:Ab (p t)<|m'/2:=(by unfold oL at Iy;unfold Ab;grind);have a2:=(hb t<|hBa.Om hBb h1 h2).mul a1;rw [<-e] at a2;have a3:=hs (m'/2) ψ ψ;have a4:=azj t h1 h2;unfold Ab at a2;rcases a4 with a4|a4 <;> grind
abbrev dQ:=Rat->Prop
variable {C D:dQ}
def fC(t:Rat):dQ:=λq=>q<t
def jB(f:Fn)(lo hi:Rat):dQ:=λq=>q<=lo\/(q<hi/\¬kD f q hi)
structure dO(C:dQ):Prop where
 down:∀q r,C r->q<=r->C q
 up:∀q,C q->∃r,q<r/\C r
 lo:∃q,C q
 hi:∃q,¬C q
structure Bh(f f':Fn)(lo hi:Rat):Prop where
 sq:Ja f f'
 lt:lo<hi
 one:qQ f lo hi 1
def Bh.stm(h:Bh f f' lo hi):∃g l,KY f g l:=let ⟨g,l,h1,_⟩:=h.one;ψ
def Bh.split(h:Bh f f' lo hi)(h1:lo<=q)(h2:q<=hi):(qQ f lo q 0/\qQ f q hi 1)\/(qQ f lo q 1/\qQ f q hi 0):=by have⟨K,M,k,m,e⟩:=h.one.split h1 h2;grind
def FZ(h:Bh f f' lo hi)(h1:lo<=q)(h2:q<hi):jB f lo hi q↔qQ f q hi 1:=by rcases h.split h1 ψ with⟨k1,k2⟩|⟨k1,k2⟩;refine⟨λ_=>k2,λ_=>?_⟩;by_cases he:q<=lo;exact Or.inl he;exact Or.inr ⟨h2,λhf=>by have:=(k2.free h.sq.po ψ).2 hf;omega⟩;have hf:=(k2.free h.sq.po ψ).1 O;constructor;rintro(he|⟨_,hn⟩);have:q=lo:=ψ;subst this;exact h.one;simp_all;intro k;have:=k.uniq h.sq.po ψ k2;omega
def kR(h:Bh f f' lo hi)(h1:lo<=q)(h2:q<hi):jB f lo hi q↔qQ f lo q 0:=by rw [FZ h h1 h2];rcases h.split h1 ψ with⟨k1,k2⟩|⟨k1,k2⟩;simp_all;exact⟨λk=>by have:=k.uniq h.sq.po ψ k2;omega,λk=>by have:=k.uniq h.sq.po h1 k1;omega⟩
def jF(hlt:lo<hi)(h:hi<=q):¬jB f lo hi q:=by rintro(k|⟨k,_⟩) <;> grind
def Ii(h:Bh f f' lo hi)(h1:lo<=q)(h2:q<hi):jB f lo hi q↔kD f lo q:=by rw [kR h h1 h2];refine⟨λk=>(k.free h.sq.po h1).1 O,λhf=>?_⟩;rcases h.split h1 ψ with⟨k1,_⟩|⟨k1,_⟩;omega;have:=(k1.free h.sq.po h1).2 hf;omega
def ni(h:Bh f f' lo hi):dO (jB f lo hi):=by
 have hlt:=h.lt;refine⟨λq r hr hqr=>?_,λq hq=>?_,⟨lo,Or.inl ψ⟩,⟨hi,jF hlt ψ⟩⟩
 ·by_cases hq:q<=lo
  ·exact Or.inl hq
  ·have hrh:r<hi:=by rcases hr with k | ⟨k,_⟩ <;> grind
   rw [Ii h ψ ψ];have⟨s,hs,hst⟩:=(Ii h ψ hrh).1 hr;exact⟨s,hs,λt h1 h2=>hst t h1 ψ⟩
 ·
  have⟨g,l,hst⟩:=h.stm;have key:∀q,lo<=q->q<hi->qQ f lo q 0->∃r,q<r/\jB f lo hi r:=by
   intro q h1 h2 k;have⟨h0,e,he,hn⟩:=BD hst h.sq.po q;have⟨z,hz,hz1,hz2⟩:=mP he (show 0<hi-q by grind);refine⟨q+z/2,by grind,?_⟩;rw [kR h ψ ψ];have⟨M,hM⟩:=qZ hst (a:=q) (b:=q+z/2) ψ;have hM0:M=0:=hM.nil.2 λt h1 h2=>hn t h1 ψ
   subst hM0;exact qQ.cat h.sq.po h1 ψ k ⟨g,l,hst,hM⟩
  by_cases hq1:q<lo
  ·exact⟨lo,hq1,Or.inl ψ⟩
  ·have hqh:q<hi:=by rcases hq with k | ⟨k,_⟩ <;> grind
   exact key q ψ hqh ((kR h ψ hqh).1 hq)
def nV(t:Rat):dO<|fC t:=⟨λq r h1 h2=>by unfold fC at *;grind,λq h=>⟨(q+t)/2,by unfold fC at h;grind,by unfold fC at *;grind⟩,⟨t-1,by unfold fC;grind⟩,⟨t,by unfold fC;grind⟩⟩
def Bh.narrow{a b:Rat}(h:Bh f f' lo hi)(h1:lo<=a)(h2:b<=hi)(h3:jB f lo hi a)(h4:¬jB f lo hi b):Bh f f' a b/\∀q,jB f a b q↔jB f lo hi q:=by have hc:=ni h;have hlt:=h.lt;have hab:a<b:=(by by_cases hh:a<b;omega;exact absurd (hc.down b a h3 ψ) h4);have k1:=(kR h h1 ψ).1 h3;have kb:qQ f b hi 0:=(by rcases h.split (q:=b) ψ h2 with⟨m1,m2⟩|⟨_,m2⟩;by_cases hbh:b<hi;exact absurd ((kR h ψ hbh).2 m1) h4;have:b=hi:=ψ;subst this;have:=m2.free h.sq.po ψ;have h0:(1:Nat)=0:=this.2 ⟨1,by decide,λt h1 h2=>by grind⟩;omega;omega);have one:qQ f a b 1:=(by have k2:=(FZ h h1 ψ).1 h3;have⟨K,M,m1,m2,e⟩:=k2.split ψ h2;have:=m2.uniq h.sq.po ψ kb;simp_all);have hok:Bh f f' a b:=⟨h.sq,hab,one⟩;refine⟨hok,λq=>?_⟩;by_cases hq1:q<=a;exact⟨λ_=>hc.down q a h3 hq1,λ_=>Or.inl hq1⟩;by_cases hq2:b<=q;exact⟨λk=>absurd k<|jF hab hq2,λk=>absurd (hc.down b q k hq2) h4⟩;rw [kR hok ψ ψ,kR h ψ ψ];constructor;intro k;exact qQ.cat h.sq.po h1 ψ k1 k;intro k;have⟨K,M,m1,m2,e⟩:=k.split h1 ψ;grind
def O4(h:Bh f f' lo hi)(h1:lo<t)(h2:t<=hi)(h0:f t=0)(q:Rat):jB f lo hi q↔fC t q:=by have hs0:gI (f t)=0:=gK.2 h0;have nf:∀a,a<t->¬kD f a t:=λa ha ⟨s,hs,hst⟩=>hs ψ;have k1:qQ f lo t 1:=(by rcases h.split (q:=t) ψ h2 with⟨m1,_⟩|⟨m1,_⟩;exact absurd ((m1.free h.sq.po ψ).1 O) ψ;omega);have k2:qQ f t hi 0:=(by rcases h.split (q:=t) ψ h2 with⟨m1,_⟩|⟨_,m2⟩;have:=m1.uniq h.sq.po ψ k1;omega;omega);unfold fC;by_cases hq:q<=lo;exact⟨λ_=>by grind,λ_=>Or.inl hq⟩;by_cases hqh:q<hi;rw [kR h ψ hqh];constructor;intro k;by_cases hqt:q<t;omega;exfalso;have⟨K,M,a1,a2,e⟩:=k.split (m:=t) ψ ψ;have:=a1.uniq h.sq.po ψ k1;omega;intro hqt;have⟨K,M,a1,a2,e⟩:=k1.split (m:=q) ψ ψ;have hM:M≠0:=λhM=>nf q hqt<|(a2.free h.sq.po ψ).1 hM;grind;exact⟨λk=>absurd k<|jF h.lt ψ,λk=>by grind⟩
open Classical in
def dU(C D:dQ):Int:=if ∃q,D q/\¬C q then -1 else if ∃q,C q/\¬D q then 1 else 0
def Dj(h1:D q)(h2:¬C q):dU C D= -1:=if_pos ψ
def dO.excl(hC:dO C)(hD:dO D){r:Rat}(h1:C q)(h2:¬D q)(k1:D r)(k2:¬C r):False:=by by_cases h:q<=r;exact h2<|hD.down q r k1 h;exact k2<|hC.down r q h1 ψ
def FQ(hC:dO C)(hD:dO D)(h1:C q)(h2:¬D q):dU C D=1:=by unfold dU;rw [if_neg<|λ⟨r,k1,k2⟩=>hC.excl hD h1 h2 k1 k2,if_pos ψ]
def jV(h:∀q,C q↔D q):dU C D=0:=by unfold dU;simp_all
def Dk(h:dU C D=0)(q:Rat):C q↔D q:=by unfold dU at h;split at h;omega;split at h;omega;grind
def yh(hC:dO C)(hD:dO D):dU D C= -dU C D:=by by_cases h1:∃q,D q/\¬C q;have⟨q,a,b⟩:=h1;rw [Dj a b,FQ hD hC a b];rfl;by_cases h2:∃q,C q/\¬D q;have⟨q,a,b⟩:=h2;rw [FQ hC hD a b,Dj a b];have e:∀q,C q↔D q:=ψ;rw [jV e,jV λq=>(e q).symm];rfl
def JW(C D:dQ):dU C D= -1\/dU C D=0\/dU C D=1:=by unfold dU;omega
def uM(hC:dO C)(hD:dO D):dU C D<=0↔∀q,C q->D q:=by constructor;intro h q hq;by_cases hd:D q;omega;rw [FQ hC hD hq hd] at h;omega;intro h;unfold dU;split;omega;grind
def JV(hC:dO C)(h:C t):dU C (fC t)=1:=FQ hC (nV t) h aGK
def ai0(h:∀q,C q↔fC t q):dU C (fC t)=0:=jV h
def FP(s t:Rat):dU (fC s) (fC t)=BI s t:=by by_cases h1:s<t;rw [Dj (q:=s) aCy aGK,QS h1];by_cases h2:t<s;rw [FQ (nV s) (nV t) (q:=t) aCy aGK,Dl h2];have:s=t:=ψ;subst this;rw [jV λq=>Iff.rfl,Za O]
def LQ(h:Bh f f' lo hi)(t:Rat):dU (jB f lo hi) (fC t)=if t<=lo then 1 else if hi<t then -1 else if gI (f t)=0 then 0 else if gI (f t)=yZ f f' lo then 1 else -1:=by have hc:=ni h;have hlt:=h.lt;split;rename_i h1;exact JV hc<|Or.inl h1;rename_i h1;split;rename_i h2;exact Dj (q:=hi) (show hi<t from h2)<|jF hlt ψ;rename_i h2;split;rename_i h3;exact ai0<|O4 h ψ ψ<|gK.1 h3;rename_i h3;rcases h.split (q:=t) ψ ψ with⟨k1,k2⟩|⟨k1,k2⟩;have hh:=QV h.sq.y8 ψ k1 Z;have e:gI (f t)=yZ f f' lo:=aEc;rw [if_pos e];have hth:t<hi:=(by by_cases h5:t<hi;omega;have:t=hi:=ψ;subst this;have:=k1.uniq h.sq.po ψ h.one;omega);exact JV hc<|(kR h ψ hth).2 k1;have hh:=(QV h.sq.y8 ψ k1 Z).1 O;have e:¬gI (f t)=yZ f f' lo:=Z;rw [if_neg e];have hz:∃q,q<t/\¬jB f lo hi q:=(by have⟨L,hL,hl⟩:=h.sq.po.lip (Ap lo hi).choose;have⟨hB1,hB2,_⟩:=(Ap lo hi).choose_spec;generalize (Ap lo hi).choose=B at *;obtain⟨m,hm,hf⟩:∃m:Rat,0<m/\oL (f t) m:=(by rcases eU (f t) with⟨k,_⟩|⟨_,k⟩|⟨k,_⟩;exact⟨-(f t),by grind,Or.inr ψ⟩;omega;exact⟨f t,k,Or.inl ψ⟩);have⟨d,hd,hs⟩:=jl hL hm;have⟨z,hz,hz1,hz2⟩:=mP hd (show 0<t-lo by grind);have oq:In B<|t-z/2:=hB1.Om hB2 ψ ψ;have ZU:In B t:=hB1.Om hB2 ψ ψ;have hsm:=hs (t-(t-z/2)) ψ ψ;have sg:∀y,t-z/2<=y->y<=t->gI (f y)=gI (f t):=(by intro y y1 y2;have hyB:In B y:=hB1.Om hB2 ψ ψ;have a1:=hl y t hyB ZU y2;have a2:L*(t-y)<=L*(t-(t-z/2)):=aaJ ψ hL;rcases hf with hf|hf;rw [jA (x:=f t) ψ];exact jA ψ;rw [ku (x:=f t) ψ];exact ku ψ);refine⟨t-z/2,by grind,λhcut=>?_⟩;have b1:=(kR h ψ ψ).1 hcut;have⟨K,M,c1,c2,e2⟩:=k1.split (m:=t-z/2) ψ ψ;have c3:=c1.uniq h.sq.po ψ b1;have c4:M=0:=(c2.free h.sq.po ψ).2 ⟨gI<|f t,h3,λy y1 y2=>sg y ψ y2⟩;omega);have⟨q,q1,q2⟩:=hz;exact Dj (q:=q) (show q<t from q1) q2
def Oy(p:Fn)(C:dQ)(s:Int):Prop:=∃e q r,0<e/\C q/\¬C r/\∀t,q<=t->t<=r->oL (p t) e/\gI (p t)=s
def VC(p:Fn)(C:dQ):Prop:=∀e,0<e->∀q r,C q->¬C r->∃t,q<=t/\t<=r/\Ab (p t) e
def dO.nb(h:dO C){r:Rat}(h1:C q)(h2:¬C r):q<r:=by by_cases h3:q<r;omega;exact absurd (h.down r q h1 ψ) h2
def dO.short(h:dO C){r η:Rat}(h1:C q)(h2:¬C r)(hη:0<η):∃q' r',q<=q'/\r'<=r/\C q'/\¬C r'/\r'-q'<η:=by by_cases hh:∃q' r',q<=q'/\r'<=r/\C q'/\¬C r'/\r'-q'<η;omega;exfalso;apply h2;refine yc hη (by have:=h.nb h1 h2;grind) (λc=>C c) h1 λx y hx hxy hy hlt ih=>?_;grind
def oL.nz{x e:Rat}(h:oL x e)(he:0<e):gI x≠0:=by intro h0;rw [gK] at h0;subst h0;rcases h with h|h <;> grind
def Oy.meet{q:Fn}(hC:dO C)(h:Oy p C s)(k:Oy q C s'):∃e a b,0<e/\C a/\¬C b/\∀t,a<=t->t<=b->(oL (p t) e/\gI (p t)=s)/\(oL (q t) e/\gI (q t)=s'):=by have⟨e1,q1,r1,he1,c1,d1,h⟩:=h;have⟨e2,q2,r2,he2,c2,d2,k⟩:=k;have⟨e,he,le1,le2⟩:=mP he1 he2;refine⟨e,if q1<=q2 then q2 else q1,if r1<=r2 then r1 else r2,he,by grind,by grind,λt h1 h2=>?_⟩;have a1:=h t (by split at h1 <;> grind) (by split at h2 <;> grind);have a2:=k t (by split at h1 <;> grind) (by split at h2 <;> grind);exact⟨⟨by rcases a1.1 with x|x;exact Or.inl ψ;exact Or.inr ψ,a1.2⟩,⟨by rcases a2.1 with x|x;exact Or.inl ψ;exact Or.inr ψ,a2.2⟩⟩
def Oy.uniq(hC:dO C)(h:Oy p C s)(k:Oy p C s'):s=s':=by have⟨e,a,b,he,ha,hb,m⟩:=h.meet hC k;have:=m a ψ (by have:=hC.nb ha hb;grind);omega
def Oy.VY(h:Oy p C s)(k:VC p C):False:=by have⟨e,q,r,he,c,d,h⟩:=h;have⟨t,t1,t2,ht⟩:=k (e/2) ψ q r c d;have:=(h t t1 t2).1;unfold Ab at ht;rcases this with a|a <;> grind
def KL(hC:dO C)(pp:Po p):VC p C\/∃s,Oy p C s:=by by_cases h:∃e q r,0<e/\C q/\¬C r/\∀t,q<=t->t<=r->¬Ab (p t) e;right;have⟨e,q,r,he,c,d,h⟩:=h;have hf:∀t,q<=t->t<=r->oL (p t) e:=λt h1 h2=>(by have:=h t h1 h2;unfold Ab at this;unfold oL;grind);have:=BN pp (by have:=hC.nb c d;grind) he hf;exact⟨gI<|p q,e,q,r,he,c,d,λt h1 h2=>ψ⟩;left;intro e he q r c d;simp_all
open Classical in
def Fe(p:Fn)(C:dQ):Int:=if h:∃s,Oy p C s then h.choose else 0
def Fg(hC:dO C)(h:Oy p C s):Fe p C=s:=by have hh:∃s,Oy p C s:=ψ;unfold Fe;rw [dif_pos hh];exact hh.choose_spec.uniq hC h
def NW(h:VC p C):Fe p C=0:=by unfold Fe;rw [dif_neg<|λ⟨s,k⟩=>k.VY h]
theorem oL.mul{x d e:Rat}(hd:0<d)(he:0<e)(h:oL x d)(k:oL y e):oL (x*y)<|d*e:=by have c1:∀u v:Rat,d<=u->e<=v->d*e<=u*v:=λu v h1 h2=>(by have a1:=aaJ h2 (show 0<=d by grind);have a2:=abV h1 (show 0<=v by grind);grind);rcases h with i|i <;> rcases k with j|j;exact aw6;exact Or.inr (by have:=c1 x (-y) i ψ;grind);exact Or.inr (by have:=c1 (-x) y ψ j;grind);exact Or.inl (by have:=c1 (-x) (-y) ψ ψ;grind)
theorem VC.mul{q:Fn}(hC:dO C)(pq:Po q)(h:VC p C):VC (λx=>p x*q x) C:=by intro e he a b ca cb;have⟨B,hBa,hBb,_⟩:=Ap a b;have⟨M,hM,hb⟩:=pq.bd B;have⟨d,hd,hs⟩:=jl hM he;have⟨t,t1,t2,ht⟩:=h (d/2) ψ a b ca cb;refine⟨t,t1,t2,(ht.mul<|hb t<|hBa.Om hBb t1 t2).mono ?_⟩;have:=hs (d/2) ψ ψ;grind
theorem Oy.mul{q:Fn}(hC:dO C)(h:Oy p C s)(k:Oy q C s'):Oy (λx=>p x*q x) C<|s*s':=by
 have⟨e,a,b,he,ha,hb,m⟩:=h.meet hC k;exact⟨e*e,a,b,ac4 he he,ha,hb,λt h1 h2=>by
  have:=m t h1 h2;exact⟨this.1.1.mul he he this.2.1,by rw [Hf,this.1.2,this.2.2]⟩⟩
def VC.congr{q:Fn}(h:VC p C)(e:∀x,p x=q x):VC q C:=by obtain rfl:p=q:=funext e;exact h
def ahb(pp:Po p)(t:Rat):Fe p (fC t)=gI (p t):=by by_cases h0:gI (p t)=0;rw [h0];exact NW λe he q r hq hr=>⟨t,by unfold fC at hq;grind,by unfold fC at hr;grind,by rw [gK.1 h0];exact kY ψ⟩;have⟨B,hB1,hB2,_⟩:=Ap (t-1) t;obtain⟨m,hm,hf⟩:∃m:Rat,0<m/\oL (p t) m:=(by rcases eU (p t) with⟨k,_⟩|⟨_,k⟩|⟨k,_⟩;exact⟨-(p t),by grind,Or.inr ψ⟩;omega;exact⟨p t,k,Or.inl ψ⟩);have⟨L,hL,hl⟩:=pp.lip B;have⟨d,hd,hs⟩:=jl (L:=L) (m:=m/2) hL ψ;have⟨z,hz,hz1,hz2⟩:=mP hd (show(0:Rat)<1 by grind);refine Fg (nV t) ⟨m/2,t-z/2,t,by grind,by unfold fC;grind,by unfold fC;grind,λy h1 h2=>?_⟩;have a1:=hl y t (hB1.Om hB2 ψ h2) hB2 h2;have a2:L*(t-y)<=L*(z/2):=aaJ ψ hL;have a3:=hs (z/2) ψ ψ;rcases hf with hf|hf;exact⟨Or.inl ψ,by rw [jA (x:=p t) ψ];exact jA ψ⟩;exact⟨Or.inr ψ,by rw [ku (x:=p t) ψ];exact ku ψ⟩
def akO(h:∀q,C q↔D q):Fe p C=Fe p D:=by obtain rfl:C=D:=funext λq=>propext<|h q;rfl
def U1(pg:Po g)(hd:yX g g')(h:∀x,g' x=0):∃c,∀x,g x=c:=by
 by_cases hn:∃x,g x≠0
 ·have⟨k,a,hk⟩:=nP pg hn
  cases k with
  |zero=>exact⟨a,tH hk⟩
  |succ k=>have⟨y,hy⟩:=(hk.y8 hd).ne;simp_all
 simp_all
def Ja.ne(h:Ja f f'):∃x,f x≠0:=by by_cases hh:∃x,f x≠0;omega;exfalso;have h0:∀x,f x=0:=ψ;have h1:∀x,f' x=0:=λx=>((h.y8.congr h0 ψ).uniq (abB 0) x);have⟨u,v,_,_,e⟩:=h.cop;have:=e 0;grind
def aeR{w:Fn}(h:Ja f f')(pg:Po g)(pw:Po w)(hf:∀x,f x=g x*w x){a b:Rat}(hn:¬kD g a b):∃gg l,KY g gg l:=by have⟨g',pg',dg⟩:=pg.y8;have hs:=h.dv pg pw pg' dg hf;by_cases h0:∃x,g' x≠0;have⟨gg,l,h1,_⟩:=hs.stm h0;grind;exfalso;have⟨c,hc⟩:=U1 pg dg λx=>aCj;have hc0:c≠0:=(by rintro rfl;have⟨x,hx⟩:=hs.ne;simp_all);exact hn ⟨gI c,λe=>hc0<|gK.1 e,λt _ _=>by rw [hc]⟩
def sV{w:Fn}(h:Bh f f' lo hi)(pg:Po g)(pw:Po w)(hf:∀x,f x=g x*w x){gg:Fn}{l:List Fn}(hs:KY g gg l){a b:Rat}(hab:a<=b)(k:qQ g a b K)(n:qQ f a b N):K<=N:=by have⟨g',pg',dg⟩:=pg.y8;have⟨w',pw',dw⟩:=pw.y8;have⟨gf,lf,hst⟩:=h.stm;exact aez h.sq.po pg pw hs hst (h.sq.aer pg pw pg' pw' dg dw hf) hf hab k n
def ajb{w:Fn}(h:Bh f f' lo hi)(pg:Po g)(pw:Po w)(hf:∀x,f x=g x*w x)(hn:¬kD g lo hi){r:Rat}(hq:jB f lo hi q)(hr:¬jB f lo hi r)(h1:lo<=q)(h2:r<=hi):qQ g q r 1:=by have⟨gg,l,hs⟩:=aeR h.sq pg pw hf hn;have hlt:=h.lt;have hqr:=(ni h).nb hq hr;obtain⟨K,k⟩:∃K,qQ g lo hi K:=let ⟨N,n⟩:=qZ hs (a:=lo) (b:=hi) ψ;⟨N,gg,l,hs,n⟩;have hK0:K≠0:=λe=>hn<|(k.free pg ψ).1 e;have hK1:=sV h pg pw hf hs ψ k h.one;have⟨K1,K2,k1,k2,e⟩:=k.split h1 ψ;have⟨K3,K4,k3,k4,e'⟩:=k2.split ψ h2;have n1:=(kR h h1 ψ).1 hq;have c1:=sV h pg pw hf hs h1 k1 n1;have⟨ho,_⟩:=h.narrow h1 h2 hq hr;have n3:qQ f r hi 0:=(by have⟨N1,N2,m1,m2,e2⟩:=(((FZ h h1 ψ).1 hq)).split ψ h2;have:=m1.uniq h.sq.po ψ ho.one;grind);have c4:=sV h pg pw hf hs ψ k4 n3;grind
def aeh{r:Rat}(hlo:C lo)(hhi:¬C hi)(hq:C q)(hr:¬C r):∃q' r',lo<=q'/\r'<=hi/\q<=q'/\r'<=r/\C q'/\¬C r':=
 ψ
def acv{w p1:Fn}(h:Bh f f' lo hi)(pg:Po g)(pw:Po w)(pp1:Po p1)(hf:∀x,f x=g x*w x)(hp:∀x,p x=g x*p1 x)(hn:¬kD g lo hi):VC p<|jB f lo hi:=by have hC:=ni h;have hg:VC g<|jB f lo hi:=(by intro e he q r hq hr;have⟨q',r',h1,h2,h3,h4,c1,c2⟩:=aeh (lo:=lo) (hi:=hi) (Or.inl ψ) (jF h.lt ψ) hq hr;have k:=ajb h pg pw hf hn c1 c2 h1 h2;have⟨x,x1,x2,hx⟩:=Dw pg (by have:=hC.nb c1 c2;grind) k φ he;grind);exact(hg.mul hC pp1).congr λx=>(hp x).symm
def WC{w p1 v:Fn}(h:Bh f f' lo hi)(pg:Po g)(pw:Po w)(pp1:Po p1)(pu:Po u)(pv:Po v)(hf:∀x,f x=g x*w x)(hp:∀x,p x=g x*p1 x)(huv:∀x,g x=u x*p x+v x*f x)(hfr:kD g lo hi):∃s,Oy p (jB f lo hi) s:=by have hC:=ni h;have hlt:=h.lt;rcases KL hC ((pg.mul pp1).congr λx=>(hp x).symm) with hv|hs;exfalso;have⟨q0,hq0,c0⟩:=hC.up lo<|Or.inl ψ;have chi:¬jB f lo hi hi:=jF hlt ψ;have⟨s,hs0,hst⟩:=hfr;have aoB:∃e,0<e/\∀t,q0<=t->t<=hi->oL (g t) e:=(by have⟨g',pg',dg⟩:=pg.y8;have Vu:=h.sq.dv pg pw pg' dg hf;have hqh:=hC.nb c0 chi;by_cases hc:∃x,g' x≠0;have⟨gg,l,hst',_⟩:=Vu.stm hc;exact MG hst' pg ψ ψ (λt h1 h2=>by rw [hst t ψ h2,hst q0 hq0 ψ]);have⟨c,hcc⟩:=U1 pg dg λx=>(by grind);have hc0:c≠0:=(by rintro rfl;have⟨x,hx⟩:=Vu.ne;grind);rcases eU c with⟨k,_⟩|⟨k,_⟩|⟨k,_⟩;exact⟨-c,by grind,λt _ _=>by rw [hcc];exact aw7⟩;grind;exact⟨c,k,λt _ _=>by rw [hcc];exact aw6⟩);have⟨e,he,aoB⟩:=aoB;have⟨B,hB1,hB2,_⟩:=Ap q0 hi;have⟨M,hM,mu⟩:=pu.bd B;have⟨N,hN,mv⟩:=pv.bd B;have⟨L,hL,hl⟩:=h.sq.po.lip B;have⟨z,hz,hzs⟩:=jl (L:=M+N+N*L) (m:=e) (by have:=acK hN hL;grind) he;have⟨q',r',h1,h2,c1,c2,hsh⟩:=hC.short c0 chi (η:=z/2) ψ;have hqr:=hC.nb c1 c2;have⟨ho,_⟩:=h.narrow (a:=q') (b:=r') ψ h2 c1 c2;have⟨x,x1,x2,hx⟩:=Dw h.sq.po ψ ho.one φ (show 0<z/2 by grind);have⟨y,y1,y2,hy⟩:=hv (z/2) ψ q' r' c1 c2;have xB:=hB1.Om hB2 (t:=x) ψ ψ;have yB:=hB1.Om hB2 (t:=y) ψ ψ;have hfy:Ab (f y)<|z/2+L*(z/2):=(by by_cases hxy:x<=y;have a1:=hl.ab xB yB hxy;have a2:L*(y-x)<=L*(z/2):=aaJ ψ hL;unfold Ab at *;grind;have a1:=hl.ab yB xB ψ;have a2:L*(x-y)<=L*(z/2):=aaJ ψ hL;unfold Ab at *;grind);have a3:=((mu y yB).mul hy).add<|(mv y yB).mul hfy;rw [<-huv] at a3;have a4:=hzs (z/2) ψ ψ;have a5:=aoB y ψ ψ;unfold Ab at a3;rcases a5 with a5|a5 <;> grind;omega
def ahh{r h rg:Fn}{rl:List Fn}(ok:Bh f f' lo hi)(pp:Po p)(pr:Po r)(ph:Po h)(hs:KY r rg rl)(hN:∀x,r x^N=h x*p x)(hfr:kD r lo hi):Oy p (jB f lo hi)<|gI<|p hi:=by have hC:=ni ok;have hlt:=ok.lt;have⟨q0,hq0,c0⟩:=hC.up lo<|Or.inl ψ;have chi:¬jB f lo hi hi:=jF hlt ψ;have hqh:=hC.nb c0 chi;have⟨s,hs0,hst⟩:=hfr;have⟨e,he,hf⟩:=MG hs pr (a:=q0) (b:=hi) ψ ψ ψ;have⟨e',he',hf'⟩:=aou ph hN he hf;have hsg:=BN pp ψ he' hf';exact⟨e',q0,hi,he',c0,chi,λt h1 h2=>⟨hf' t h1 h2,by rw [hsg.2 t h1 h2,hsg.2 hi ψ ψ]⟩⟩
def aeo{f1 f1' f2 f2' w1 w2:Fn}{l1 h1 l2 h2 a b:Rat}(o1:Bh f1 f1' l1 h1)(o2:Bh f2 f2' l2 h2)(pg:Po g)(pw1:Po w1)(pw2:Po w2)(e1:∀x,f1 x=g x*w1 x)(e2:∀x,f2 x=g x*w2 x)(a1:l1<=a)(a2:l2<=a)(b1:b<=h1)(b2:b<=h2)(hab:a<b)(hn:¬kD g a b)(q:Rat):jB f1 l1 h1 q↔jB f2 l2 h2 q:=by have⟨gg,l,hs⟩:=aeR o1.sq pg pw1 e1 hn;obtain⟨K,k⟩:∃K,qQ g a b K:=let ⟨N,n⟩:=qZ hs (a:=a) (b:=b) ψ;⟨N,gg,l,hs,n⟩;have hK0:K≠0:=λe=>hn<|(k.free pg ψ).1 e;have side:∀{f f' w:Fn}{lo hi:Rat},Bh f f' lo hi->Po w->(∀x,f x=g x*w x)->lo<=a->b<=hi->jB f lo hi a/\¬jB f lo hi b:=(by intro f f' w lo hi o pw e ha hb;have hlt:=o.lt;have hone:qQ f a b 1/\qQ f lo a 0/\qQ f b hi 0:=(by have⟨N1,N2,n1,n2,x1⟩:=o.one.split (m:=a) ha ψ;have⟨N3,N4,n3,n4,x2⟩:=n2.split (m:=b) ψ hb;have:=sV o pg pw e hs ψ k n3;grind);refine⟨(kR o ha ψ).2 hone.2.1,λhc=>?_⟩;by_cases hbh:b<hi;have:=(FZ o ψ hbh).1 hc;have:=this.uniq o.sq.po hb hone.2.2;omega;exact jF hlt ψ hc);have⟨c1,d1⟩:=side o1 pw1 e1 a1 b1;have⟨c2,d2⟩:=side o2 pw2 e2 a2 b2;have⟨n1,m1⟩:=o1.narrow a1 b1 c1 d1;have⟨n2,m2⟩:=o2.narrow a2 b2 c2 d2;rw [<-m1,<-m2];by_cases hq1:q<=a;exact⟨λ_=>Or.inl hq1,λ_=>Or.inl hq1⟩;by_cases hq2:q<b;rw [kR n1 ψ hq2,kR n2 ψ hq2];have hk1:K=1:=(by have:=sV n1 pg pw1 e1 hs ψ k n1.one;omega);subst hk1;have⟨K1,K2,k1,k2,ek⟩:=k.split (m:=q) ψ ψ;have key:∀{f f' w:Fn},Bh f f' a b->Po w->(∀x,f x=g x*w x)->(qQ f a q 0↔K1=0):=(by intro f f' w o pw e;rcases o.split (q:=q) ψ ψ with⟨x1,x2⟩|⟨x1,x2⟩;have:=sV o pg pw e hs ψ k1 x1;simp_all;have:=sV o pg pw e hs ψ k2 x2;exact⟨λx=>by have:=x.uniq o.sq.po ψ x1;omega,λ_=>by omega⟩);grind;exact⟨λc=>absurd c<|jF n1.lt ψ,λc=>absurd c<|jF n2.lt ψ⟩
def aem{f1 f1' f2 f2' w1 w2 v:Fn}{l1 h1 l2 h2 a b:Rat}(o1:Bh f1 f1' l1 h1)(o2:Bh f2 f2' l2 h2)(pg:Po g)(pw1:Po w1)(pw2:Po w2)(pu:Po u)(pv:Po v)(e1:∀x,f1 x=g x*w1 x)(e2:∀x,f2 x=g x*w2 x)(huv:∀x,g x=u x*f2 x+v x*f1 x)(ha:a=l1\/a=l2)(hb:b=h1\/b=h2)(a1:l1<=a)(a2:l2<=a)(b1:b<=h1)(b2:b<=h2)(hn:a<b->kD g a b)(he:∀q,jB f1 l1 h1 q↔jB f2 l2 h2 q):False:=by have C1:=ni o1;have C2:=ni o2;have lt1:=o1.lt;have lt2:=o2.lt;have ca:jB f1 l1 h1 a:=(by rcases ha with rfl|rfl;exact aw6;exact(he _).2 (Or.inl ψ));have cb:¬jB f1 l1 h1 b:=(by rcases hb with rfl|rfl;exact jF lt1 ψ;intro hc;exact jF lt2 ψ<|(he _).1 hc);have hab:=C1.nb ca cb;have⟨n1,m1⟩:=o1.narrow a1 b1 ca cb;have⟨n2,m2⟩:=o2.narrow a2 b2 ψ ψ;have⟨s,hs⟩:=WC (p:=f2) (p1:=w2) n1 pg pw1 pw2 pu pv e1 e2 huv<|hn hab;refine hs.VY λe he' q r hq hr=>?_;have⟨q',r',x1,x2,x3,x4,c1,c2⟩:=aeh (lo:=a) (hi:=b) ψ ψ hq hr;have hx:∀t,jB f1 a b t↔jB f2 a b t:=ψ;have⟨o,_⟩:=n2.narrow x1 x2 ψ ψ;have⟨x,y1,y2,hy⟩:=Dw n2.sq.po (by have:=o.lt;grind) o.one φ he';grind
structure IP(n:Nat)(c:Nat->Int):Prop where
 z:∀i,n<=i->c i=0
 l:n≠0->c (n-1)≠0
def IP.of(h:∀i,m<=i->c i=0):IP (dg c m) c:=⟨jG h,O5⟩
def IP.self(h:IP n c):dg c n=n:=Du (by by_cases e:n=0;exact Or.inl e;exact Or.inr<|h.l e)
def IP.uniq(h:IP n c)(k:∀i,m<=i->c i=0):dg c m=n:=by rw [Ed k h.z];exact h.self
def pf(c:Nat->Int)(n:Nat):Fn:=λq=>pz c q n
def agC(h:∀i,n<=i->c i=0):Po<|pf c n:=⟨n,rc c,xR h,λ_=>rfl⟩
def agB(h:∀i,n<=i->c i=0)(k:∀i,m<=i->c i=0):pf c n=pf c m:=funext λq=>Et h k
def Jz(h:z≠0):(z:Rat)≠0:=λe=>h aCj
def IP.lc(h:IP n c)(hn:n≠0):Lc (n-1) (pf c n) (c (n-1):Rat):=
 ⟨rc c,λi hi=>xR h.z i Z,O,Jz<|h.l hn,λq=>by show pz c q n=pe (rc c) q (n-1+1);rw [Nat.sub_add_cancel Z];rfl⟩
def IP.ne(h:IP n c)(hn:n≠0):∃x,pf c n x≠0:=(h.lc hn).ne
def IP.zero(h:IP n c)(k:∀x,pf c n x=0):n=0:=by by_cases hn:n=0;omega;have⟨x,hx⟩:=h.ne hn;simp_all
def KG(c:Nat->Int)(x:Rat):pf c 0 x=0:=rfl
def uU(ha:∀i,n<=i->a i=0)(hb:∀i,m<=i->b i=0)(x:Rat):pf (bW a b) (n+m) x=pf a n x*pf b m x:=TA ha hb<|gJ ha hb
def CO(y:Int)(x:Rat):pf (iJ a y) n x=pf a n x*(y:Rat):=aqr y
def aql(x:Rat):pf (lJ a b) n x=pf a n x-pf b n x:=agX
def aqk(x:Rat):pf (jX a) n x= - pf a n x:=by
 have:jX a=iJ a (-1):=funext λi=>by unfold jX iJ;omega
 rw [this,CO];grind
def Td(ha:∀i,n<=i->a i=0)(hb:∀i,m<=i->b i=0)(h:∀x,pf a n x=pf b m x):∀i,a i=b i:=aqp ha hb λx=>h x
def aqg:yX (pf c n)<|pf (bQ c)<|n-1:=by have h:=aeI (c:=rc c) (n:=n);have e:EK (rc c)=rc (bQ c):=funext λi=>(by show((i+1:Nat):Rat)*((c (i+1):Int):Rat)=((c (i+1)*((i+1:Nat):Int):Int):Rat);rw [Rat.intCast_mul,Rat.mul_comm];rfl);rw [e] at h;exact h
def CJ{x:Rat}:pf c 1 x=(c 0:Rat):=by show 0+rc c 0*x^0=_;rw [Rat.pow_zero];show 0+(c 0:Rat)*1=_;grind
def BP{g:Nat}:∀{n:Nat},(∀i,i<n->g∣(c i).natAbs)->g∣dM c n
 |0,_=>Nat.dvd_zero _
 |n+1,h=>Nat.dvd_gcd (BP λi hi=>h i Z) ψ
def Vk{g:Int}:∀n,dM (λi=>g*d i) n=g.natAbs*dM d n
 |0=>rfl
 |n+1=>by
  show Nat.gcd (dM (λi=>g*d i) n) (g*d n).natAbs=g.natAbs*Nat.gcd (dM d n) (d n).natAbs
  rw [Vk n,Int.natAbs_mul,Nat.gcd_mul_left]
def Iw(h:∀i,n<=i->c i=0):∀k,dM c (n+k)=dM c n
 |0=>rfl
 |k+1=>by
  show Nat.gcd (dM c<|n+k) (c<|n+k).natAbs=_
  rw [h (n+k) Z,Iw h k];simp_all
def ZO(h:∀i,n<=i->c i=0)(k:∀i,m<=i->c i=0):dM c n=dM c m:=by rcases Nat.le_total n m with e|e;obtain⟨d,rfl⟩:=amJ e;exact(Iw h d).symm;obtain⟨d,rfl⟩:=amJ e;exact Iw k d
def ae5(hi:i<n)(h:c i≠0):0<dM c n:=by rcases acT (dM c n) with e|e;have:=vU (c:=c) hi;simp_all;omega
def IP.zC(h:IP n c)(hn:n≠0):0<dM c n:=ae5 (i:=n-1) Z<|h.l hn
def IP.l7(h:IP n c){g:Int}(hg:g≠0)(hd:∀i,i<n->g∣c i):IP n<|l7 c g:=⟨Ef h.z,λhn e=>h.l hn (by
 have h1:=Int.mul_ediv_cancel'<|hd (n-1) Z;unfold Go.Proofs.YtecmeakkkmidjaaGreat.l7 at e;simp_all)⟩
def ae0(hz:∀i,n<=i->c i=0){g:Int}(hd:∀i,i<n->g∣c i)(i:Nat):g*l7 c g i=c i:=by by_cases hi:i<n;exact Int.mul_ediv_cancel' ψ;unfold l7;simp_all
def zB(hi:i<n):((dM c n:Nat):Int)∣c i:=ahV.2<|vU hi
def Ah(c:Nat->Int)(n:Nat):Nat->Int:=l7 c ((dM c n:Nat):Int)
def lC(c:Nat->Int)(n:Nat):Int:=if c (n-1)<0 then -((dM c n:Nat):Int) else((dM c n:Nat):Int)
def CS(c:Nat->Int)(n:Nat):Nat->Int:=l7 c<|lC c n
def ahu(hz:∀i,n<=i->c i=0)(i:Nat):((dM c n:Nat):Int)*Ah c n i=c i:=ae0 hz (λ_ h=>zB h) i
def JZ(hi:i<n):lC c n∣c i:=by unfold lC;split;exact Int.neg_dvd.2<|zB hi;exact zB hi
def Yp(hz:∀i,n<=i->c i=0)(i:Nat):lC c n*CS c n i=c i:=ae0 hz (λ_ h=>JZ h) i
def U0:(lC c n).natAbs=dM c n:=by unfold lC;omega
def IP.Dq(h:IP n c)(hn:n≠0):lC c n≠0:=by have:=h.zC hn;have:=U0 (c:=c) (n:=n);omega
def IP.CS(h:IP n c):IP n<|CS c n:=by by_cases hn:n=0;subst hn;exact⟨Ef h.z,λe=>absurd O e⟩;exact h.l7 (h.Dq hn) λ_ k=>JZ k
def Ti(hz:∀i,n<=i->c i=0)(x:Rat):pf c n x=((dM c n:Nat):Rat)*pf (Ah c n) n x:=by have:=CO (a:=Ah c n) (n:=n) ((dM c n:Nat):Int) x;rw [show iJ (Ah c n) ((dM c n:Nat):Int)=c from funext λi=>by rw [<-ahu hz i];exact Int.mul_comm _ _] at this;rw [this,Rat.mul_comm];rfl
def Tf(hz:∀i,n<=i->c i=0)(x:Rat):pf c n x=(lC c n:Rat)*pf (CS c n) n x:=by have:=CO (a:=CS c n) (n:=n) (lC c n) x;rw [show iJ (CS c n) (lC c n)=c from funext λi=>by rw [<-Yp hz i];exact Int.mul_comm _ _] at this;grind
structure Pm(n:Nat)(c:Nat->Int):Prop where
 ip:IP n c
 pos:n≠0
 one:dM c n=1
 lead:0<c (n-1)
def Vm{g:Int}(hg:g≠0)(h:∀i,g*d i=c i)(hc:dM c n=g.natAbs):dM d n=1:=by have h1:dM c n=g.natAbs*dM d n:=(by rw [<-Vk];simp_all);rw [hc] at h1;have h2:0<g.natAbs:=Z;have h3:g.natAbs*1=g.natAbs*dM d n:=Z;exact(Nat.eq_of_mul_eq_mul_left h2 h3).symm
def IP.pm(h:IP n c)(hn:n≠0):Pm n<|Go.Proofs.YtecmeakkkmidjaaGreat.CS c n:=⟨h.CS,hn,Vm (h.Dq hn) (Yp h.z) U0.symm,by
 have h1:=Yp h.z<|n-1;have h2:=h.l hn;have h3:=h.zC hn;unfold lC at h1;generalize Go.Proofs.YtecmeakkkmidjaaGreat.CS c n (n-1)=y at h1 ⊢;split at h1
 ·rename_i h4
  rcases agD y 0 with h5|h5|h5
  ·have:0<=-((dM c n:Nat):Int)*y:=Int.mul_nonneg_of_nonpos_of_nonpos Z Z
   omega
  ·simp_all
  omega
 ·rcases agD y 0 with h5|h5|h5
  ·have:((dM c n:Nat):Int)*y<=0:=Int.mul_nonpos_of_nonneg_of_nonpos Z Z
   omega
  ·simp_all
  omega⟩
def Ut(f a b:Fn):Prop:=∃u v,Po u/\Po v/\∀x,f x=u x*a x+v x*b x
def Ut.l(a b:Fn):Ut a a b:=⟨λ_=>1,λ_=>0,dh 1,dh 0,λx=>by grind⟩
def Ut.r(a b:Fn):Ut b a b:=aG3
def Ut.trans{a b B:Fn}:Ut f a b->Ut a A B->Ut b A B->Ut f A B:=λ⟨u,v,pu,pv,h⟩ ⟨p,q,pp,pq,h1⟩ ⟨r,s,pr,ps,h2⟩=>
 ⟨λx=>u x*p x+v x*r x,λx=>u x*q x+v x*s x,(pu.mul pp).add<|pv.mul pr,(pu.mul pq).add<|pv.mul ps,λx=>by grind⟩
structure Oj(A B a b:Fn):Prop where
 m1:Ut a A B
 m2:Ut b A B
 m3:Ut A a b
 m4:Ut B a b
def Oj.refl(A B:Fn):Oj A B A B:=⟨.l _ _,.r _ _,.l _ _,.r _ _⟩
def Oj.trans{B a b c d:Fn}(h:Oj A B a b)(k:Oj a b c d):Oj A B c d:=⟨k.m1.trans h.m1 h.m2,k.m2.trans h.m1 h.m2,h.m3.trans k.m3 k.m4,h.m4.trans k.m3 k.m4⟩
def Oj.step{a b r Q:Fn}{k:Rat}(pQ:Po Q)(hk:k≠0)(h:∀x,a x=Q x*b x+k*r x):Oj a b b r:=
  ⟨.r _ _,⟨λ_=>k⁻¹,λx=>Q x*(-k⁻¹),dh _,pQ.qN _,λx=>by grind⟩,
   ⟨Q,λ_=>k,pQ,dh _,h⟩,.l _ _⟩
def Oj.scale{B a b:Fn}{s s' t':Rat}(h1:∀x,A x=s*a x)(h2:∀x,B x=t*b x)(h3:∀x,a x=s'*A x)(h4:∀x,b x=t'*B x):Oj A B a b:=
  ⟨⟨λ_=>s',λ_=>0,dh _,dh _,λx=>by grind⟩,⟨λ_=>0,λ_=>t',dh _,dh _,λx=>by grind⟩,
   ⟨λ_=>s,λ_=>0,dh _,dh _,λx=>by grind⟩,⟨λ_=>0,λ_=>t,dh _,dh _,λx=>by grind⟩⟩
structure Idl(A B d:Fn):Prop where
 cm:Ut d A B
 da:Dv d A
 db:Dv d B
def Oj.fin{B a b:Fn}(h:Oj A B a b)(hb:∀x,b x=0):Idl A B a:=by have dv:∀{f},Ut f a b->Dv a f:=λ⟨u,v,pu,pv,h⟩=>⟨u,pu,λx=>by rw [h,hb];grind⟩;exact⟨h.m1,dv h.m3,dv h.m4⟩
def Idl.scale{B d e:Fn}{s s':Rat}(h:Idl A B d)(h1:∀x,d x=s*e x)(h2:∀x,e x=s'*d x):Idl A B e:=by have⟨⟨u,v,pu,pv,hm⟩,⟨p,pp,hp⟩,⟨q,pq,hq⟩⟩:=h;exact⟨⟨λx=>u x*s',λx=>v x*s',pu.qN _,pv.qN _,λx=>by grind⟩,⟨λx=>p x*s,pp.qN _,λx=>by grind⟩,⟨λx=>q x*s,pq.qN _,λx=>by grind⟩⟩
def ach(h:IP n c):∃s s':Rat,(∀x,pf c n x=s*pf (CS c n) n x)/\∀x,pf (CS c n) n x=s'*pf c n x:=by by_cases hn:n=0;subst hn;exact⟨1,1,λx=>by rw [KG,KG];grind,λx=>by rw [KG,KG];grind⟩;have h1:=Jz<|h.Dq hn;refine⟨(lC c n:Rat),(lC c n:Rat)⁻¹,Tf h.z,λx=>?_⟩;rw [Tf h.z x];grind
def Pn(p:Nat):Prop:=2<=p/\∀d,d∣p->d=1\/d=p
def atg:∀n:Nat,n≠1->∃p,Pn p/\p∣n:=by intro n hn;by_cases h0:n=0;subst h0;exact⟨2,⟨aav 2,λd hd=>by have:=Nat.le_of_dvd φ hd;rcases d with _|_|_|d <;> omega⟩,Nat.dvd_zero _⟩;induction n using Nat.strongRecOn with|ind n ih=>by_cases h:∃d,d∣n/\d≠1/\d≠n;have⟨d,h1,h2,h3⟩:=h;have hle:=Nat.le_of_dvd Z h1;have hd0:d≠0:=λe=>aCj;have⟨p,hp,hd⟩:=ih d Z h2 hd0;exact⟨p,hp,Nat.dvd_trans hd h1⟩;refine⟨n,⟨by omega,λd hd=>?_⟩,Nat.dvd_refl n⟩;grind
theorem Pn.mul{p:Nat}(h:Pn p){a b:Int}(hd:(p:Int)∣a*b):(p:Int)∣a\/(p:Int)∣b:=by rcases h.2 (Nat.gcd p a.natAbs) (Nat.gcd_dvd_left _ _) with e|e;right;have h1:p∣a.natAbs*b.natAbs:=(by rw [<-Int.natAbs_mul];exact ahV.1 hd);exact ahV.2<|Nat.Coprime.dvd_of_dvd_mul_left e h1;left;exact ahV.2<|e▸Nat.gcd_dvd_right p a.natAbs
def Wh{p:Nat}(hp:Pn p):∀{n:Nat},dM c n=1->∃i,i<n/\¬(p:Int)∣c i/\∀j,j<i->(p:Int)∣c j:=by intro n h;have key:∀m,m<=n->(∀j,j<m->(p:Int)∣c j)\/∃i,i<n/\¬(p:Int)∣c i/\∀j,j<i->(p:Int)∣c j:=(by intro m;induction m with|zero=>simp_all|succ m ih=>grind);rcases key n (aav n) with h1|h1;exfalso;have:p∣dM c n:=BP λi hi=>ahV.1 ψ;rw [h] at this;have:=Nat.le_of_dvd φ this;have:=hp.1;omega;omega
def aeC{p:Int}{t:Nat}:∀{m:Nat},(∀i,i<m->i<=t->p∣a i*b (t-i))->p∣cv a b m t
 |0,_=>⟨0,(Int.mul_zero p).symm⟩
 |m+1,h=>by
  show p∣cv a b m t+(if m<=t then a m*b (t-m) else 0)
  refine Int.dvd_add (aeC λi hi ht=>h i Z ht) ?_;split
  ·simp_all
  simp_all
def aeE{p:Int}{t:Nat}(hit:i<=t)(h:∀k,k<=t->k≠i->p∣a k*b (t-k)):∀m,i<m->p∣cv a b m t-a i*b (t-i)
 |0,h0=>absurd h0<|acH _
 |m+1,hm=>by
  show p∣cv a b m t+(if m<=t then a m*b (t-m) else 0)-_
  rcases ahZ i m with h1|h1
  ·have h2:=aeE hit h m h1
   have h3:p∣(if m<=t then a m*b (t-m) else 0):=by
    split
    ·grind
    simp_all
   have:=Int.dvd_add h2 h3;grind
  ·obtain rfl:i=m:=Z
   rw [if_pos hit];have h2:p∣cv a b i t:=aeC λk hk ht=>h k ht Z
   simp_all
def alX(ha:∀i,n<=i->a i=0)(hb:∀i,m<=i->b i=0)(h1:dM a n=1)(h2:dM b m=1):dM (bW a b) (n+m)=1:=by
 by_cases hg:dM (bW a b) (n+m)=1
 ·omega
 ·exfalso;have⟨p,hp,hd⟩:=atg _ hg;have⟨i,hi,i1,i2⟩:=Wh hp h1;have⟨j,hj,j1,j2⟩:=Wh hp h2;have h3:(p:Int)∣bW a b (i+j):=ahV.2<|Nat.dvd_trans hd<|vU Z;have h4:=aeE (p:=(p:Int)) (a:=a) (b:=b) (t:=i+j) (i:=i) Z (λk hk hne=>by
   rcases ahZ k i with h5|h5
   ·exact Int.dvd_mul_of_dvd_left ψ
   ·exact Int.dvd_mul_of_dvd_right ψ) (i+j+1) Z
  rw [show i+j-i=j from by omega] at h4;have h5:(p:Int)∣a i*b j:=(by have:=Int.dvd_sub h3 h4;rwa [show bW a b (i+j)-(cv a b (i+j+1) (i+j)-a i*b j)=a i*b j from by show cv a b (i+j+1) (i+j)-_=_;omega] at this);rcases hp.mul h5 with h6|h6
  ·simp_all
  simp_all
def I7{q:Nat->Rat}(hq:∀i,k<=i->q i=0):∃(D:Nat) (w:Nat->Int),0<D/\(∀i,k<=i->w i=0)/\∀i,(w i:Rat)=q i*(D:Rat):=
 ⟨OJ q k,cX (OJ q k) q,RX k,QK hq,λi=>by
  by_cases hi:i<k
  ·have:=Xz (p:=q) (i:=i)<|Gs hi
   rw [qJ] at this;exact this
  ·show((cX (OJ q k) q i:Int):Rat)=_
   rw [QK hq i Z,hq i Z,Rat.zero_mul];rfl⟩
def qp{W:Fn}(ha:∀i,n<=i->a i=0)(hb:∀i,m<=i->b i=0)(h1:dM b m=1)(pW:Po W)(h:∀x,pf a n x=W x*pf b m x):∃(w:Nat->Int) (k:Nat),(∀i,k<=i->w i=0)/\(∀i,bW w b i=a i)/\∀x,pf w k x=W x:=by
  have⟨k,q,hq,hW⟩:=pW;have⟨D,w,hD,hw,e⟩:=I7 hq
  have hD' : (D : Rat) ≠ 0 := by have : (0 : Rat)<(D : Rat) := by exact_mod_cast hD
                                 grind
  have hpw:∀x,pf w k x=W x*(D:Rat):=λx=>by
    rw [hW x];show pe (rc w) x k=_
    rw [<- vZ];exact oU λi _=>e i
  have hDa:∀i,(iJ a (D:Int)) i=bW w b i:=by
    refine Td (n:=n) (m:=k+m) (pI ha) (gJ hw hb) λx=>?_
    rw [CO,uU hw hb,h x,hpw x];show W x*pf b m x*((D:Int):Rat)=_
    rw [show((D:Int):Rat)=(D:Rat) from rfl];grind
  by_cases hw0:∀i,w i=0
  · refine⟨w,k,hw,λi=>?_,λx=>?_⟩
    · rw [wV hw0]
      have:=hDa i;rw [wV hw0] at this;unfold iJ at this;rcases Int.mul_eq_zero.1 this with h2 | h2
      · omega
      omega
    · have h3:=hpw x
      have h4:pf w k x=0:=GV λi _=>by unfold rc;simp_all
      grind
  · have hg:0<dM w k:=by
      by_cases hz:dM w k=0
      · exfalso;apply hw0;intro i
        by_cases hi:i<k
        · have:=vU (c:=w) hi;simp_all
        simp_all
      omega
    have hs1:dM (Ah w k) k=1:=Vm (g:=((dM w k:Nat):Int)) Z (ahu hw) rfl;have hsz:∀i,k<=i->Ah w k i=0:=Ef hw
    have afj:=alX hsz hb hs1 h1;have hcv:∀i,bW w b i=((dM w k:Nat):Int)*bW (Ah w k) b i:=by
      refine λi=>(?_:bW w b i=iJ (bW (Ah w k) b) ((dM w k:Nat):Int) i).trans (Int.mul_comm _ _)
      refine Td (n:=k+m) (m:=k+m) (gJ hw hb) (pI (gJ hsz hb)) (λx=>?_) i;rw [CO,uU hw hb,uU hsz hb,Ti hw];show _=_*(((dM w k:Nat):Int):Rat)
      rw [show(((dM w k:Nat):Int):Rat)=((dM w k:Nat):Rat) from rfl];grind
    have⟨z,hz⟩:=Wn (γ:=bW (Ah w k) b) (r:=k+m) (κ:=((dM w k:Nat):Rat)*(D:Rat)⁻¹) (W:=a) afj λi _=>by
      have h2:((iJ a (D:Int) i:Int):Rat)=((bW w b i:Int):Rat):=by rw [hDa i]
      rw [hcv i] at h2;unfold iJ at h2;rw [Rat.intCast_mul,Rat.intCast_mul] at h2;have h3:(D:Rat)*(D:Rat)⁻¹=1:=aiS _ hD';have h4:((D:Int):Rat)=(D:Rat):=rfl;have h5:(((dM w k:Nat):Int):Rat)=((dM w k:Nat):Rat):=rfl;grind
    have hv:∀i,bW (iJ (Ah w k) z) b i=a i:=by
      refine Td (n:=k+m) (m:=n) (gJ (pI hsz) hb) ha λx=>?_
      rw [uU (pI hsz) hb,CO,h x,<- hz];have h2:=hpw x;rw [Ti hw] at h2;grind
    refine⟨iJ (Ah w k) z,k,pI hsz,hv,λx=>?_⟩;rw [CO,<- hz];have h2:=hpw x;rw [Ti hw] at h2;grind
def Fv(c:Nat->Int)(x:Int)(n:Nat):Nat->Int
 |0=>0
 |s+1=>Fv c x n s*x+c (n-s)
def RF(hz:∀i,n+1<=i->c i=0)(j:Nat):c j=kT (bW (λi=>Fv c x n<|n-i)<|yU (-x) 1) (dV<|Fv c x n<|n+1) j:=by unfold kT;rw [U2];unfold dV;by_cases h0:j=0;subst h0;rw [if_pos O,if_pos O];show c 0=Fv c x n n* -x+0+(Fv c x n n*x+c (n-n));grind;rw [if_neg h0,if_neg h0];show c j=Fv c x n (n-j)* -x+Fv c x n (n-(j-1))*1+0;by_cases h1:j<=n;rw [show n-(j-1)=(n-j)+1 from by omega];show c j=Fv c x n (n-j)* -x+(Fv c x n (n-j)*x+c (n-(n-j)))*1+0;grind;rw [hz j Z,show n-j=0 from by omega,show n-(j-1)=0 from by omega];show(0:Int)=0* -x+0*1+0;omega
def aqi(q:Rat):pf (yU (-x) 1) 2 q=q-(x:Rat):=by show 0+rc (yU (-x) 1) 0*q^0+rc (yU (-x) 1) 1*q^1=_;rw [Rat.pow_zero,show q^1=q from by simp_all];show 0+((-x:Int):Rat)*1+((1:Int):Rat)*q=_;grind
def aqe(x:Rat):pf (kT a b) n x=pf a n x+pf b n x:=by show pe _ x n=_;rw [oU (a:=rc<|kT a b) (b:=Gi (rc a)<|rc b) λi _=>Rat.intCast_add _ _];exact CG n
abbrev aB6(c:Nat->Int)(x:Int)(n:Nat):=dV (Fv c x n (n+1))
def auA(hz:∀i,n+1<=i->c i=0)(q:Rat):pf c (n+1) q=pf (λi=>Fv c x n<|n-i) n q*(q-(x:Rat))+(Fv c x n (n+1):Rat):=by have hq:∀i,n<=i->(λi=>Fv c x n<|n-i) i=0:=λi hi=>(by show Fv c x n (n-i)=0;rw [show n-i=0 from by omega];rfl);rw [show c=kT (bW (λi=>Fv c x n<|n-i)<|yU (-x) 1) (aB6 c x n) from funext (RF hz)];rw [<-show c=kT (bW (λi=>Fv c x n<|n-i)<|yU (-x) 1) (aB6 c x n) from funext (RF hz)];have e:pf c (n+1) q=pf (kT (bW (λi=>Fv c x n<|n-i)<|yU (-x) 1)<|aB6 c x n) (n+2) q:=(by rw [<-show c=kT (bW (λi=>Fv c x n<|n-i)<|yU (-x) 1) (aB6 c x n) from funext (RF hz)];exact Et hz λi hi=>hz i Z);rw [e,aqe,uU hq afO,aqi];congr 1;have:pf (aB6 c x n) (n+2) q=pf (aB6 c x n) 1 q:=Et (λi hi=>oH i Z) oH;rw [this,CJ];rfl
def ajC{a b:Int}(h:a≠b):(1:Rat)<=(a:Rat)-(b:Rat)\/(a:Rat)-(b:Rat)<=-1:=by rcases Int.lt_or_gt_of_ne h with h1|h1;right;have:(a:Rat)+1<=(b:Rat):=aDJ;grind;left;have:(b:Rat)+1<=(a:Rat):=aDJ;grind
def adO{d v M:Rat}(h:y*d=v)(hv:Ab v M)(hd:1<=d\/d<=-1):Ab y M:=by have hM:=hv.nn;unfold Ab at *;have⟨v1,v2⟩:=hv;rcases hd with hd|hd;constructor;rcases Rat.le_total (a:=0) (b:=y) with h0|h0;grind;have: -y*1<=-y*d:=aaJ hd ψ;grind;rcases Rat.le_total (a:=0) (b:=y) with h0|h0;have:y*1<=y*d:=aaJ hd h0;grind;grind;have hd':1<=-d:=ψ;constructor;rcases Rat.le_total (a:=0) (b:=y) with h0|h0;grind;have: -y*1<=-y* -d:=aaJ hd' ψ;grind;rcases Rat.le_total (a:=0) (b:=y) with h0|h0;have:y*1<=y* -d:=aaJ hd' h0;grind;grind
def bet(R:Rat):Nat->Rat
 |0=>0
 |n+1=>1+2*(1+R)*bet R n
def ad3{R:Rat}(hR:0<=R):∀n,0<=bet R n
 |0=>by rfl
 |n+1=>by
  have:=acK (a:=2*(1+R)) ψ<|ad3 hR n;show 0<=1+2*(1+R)*bet R n
  grind
def RJ{R:Rat}(hR:0<=R):∀(n:Nat) (c:Nat->Int) (xs:Nat->Int) (M:Rat),(∀i,n<=i->c i=0)->(∀i j,i<j->j<n->xs i≠xs j)->(∀i,i<n->Ab (xs i:Rat) R)->(∀i,i<n->Ab (pf c n (xs i:Rat)) M)->0<=M->∀i,Ab (c i:Rat)<|M*bet R n
 |0,c,xs,M,hz,_,_,_,hM,i=>by rw [hz i Z];exact kY (by show 0<=M*0;grind)
 |n+1,c,xs,M,hz,hd,hx,hv,hM,i=>by
  let q:Nat->Int:=λi=>Fv c (xs n) n<|n-i
  have hqz:∀i,n<=i->q i=0:=λi hi=>by show Fv c (xs n) n (n-i)=0;rw [show n-i=0 from by omega];rfl
  have hpf:=auA (x:=xs n) hz;have h0:(Fv c (xs n) n (n+1):Rat)=pf c (n+1) (xs n:Rat):=ψ
  have hv0:=hv n Z;have ih:=RJ hR n q xs (2*M) hqz ψ ψ (λi hi=>by
   have h1:=hpf (xs i:Rat);have h2:pf q n (xs i:Rat)*((xs i:Rat)-(xs n:Rat))=pf c (n+1) (xs i:Rat)-pf c (n+1) (xs n:Rat):=ψ
   exact adO h2 (((hv i Z).sub hv0).mono ψ)<|ajC ψ) ψ
  have hbn:=ad3 hR n;have hX:0<=M*bet R n:=acK hM hbn;have hXR:0<=R*(M*bet R n):=acK hR hX;have e:=RF (x:=xs n) hz i;unfold kT at e;rw [U2] at e;have hxn:=hx n Z;have h3:Ab ((q i:Rat)*(xs n:Rat))<|2*M*bet R n*R:=(ih i).mul hxn;show Ab (c i:Rat)<|M*(1+2*(1+R)*bet R n)
  by_cases hi0:i=0
  ·subst hi0
   rw [if_pos O] at e;have e':(c 0:Rat)=pf c (n+1) (xs n:Rat)-(q 0:Rat)*(xs n:Rat):=by
    rw [<-h0,e];show((q 0* -(xs n)+0+dV (Fv c (xs n) n<|n+1) 0:Int):Rat)=_;rw [show dV (Fv c (xs n) n<|n+1) 0=Fv c (xs n) n (n+1) from O,Rat.intCast_add,Rat.intCast_add,Rat.intCast_mul,Rat.intCast_neg];grind
   exact((hv0.sub h3).eq e'.symm).mono ψ
  ·rw [if_neg hi0,show dV (Fv c (xs n) n<|n+1) i=0 from if_neg hi0] at e
   have e':(c i:Rat)=(q (i-1):Rat)-(q i:Rat)*(xs n:Rat):=by
    rw [e];grind
   exact(((ih<|i-1).sub h3).eq e'.symm).mono ψ
def EY(c:Nat->Int)(x:Int):∀n,∃z:Int,pf c n (x:Rat)=(z:Rat)
 |0=>⟨0,O⟩
 |n+1=>by
  have⟨z,hz⟩:=EY c x n;refine⟨z+c n*x^n,?_⟩;show pf c n (x:Rat)+(c n:Rat)*(x:Rat)^n=_
  simp_all
def OT{a b w:Int}{M:Rat}(h:a=w*b)(ha:a≠0)(hM:Ab (a:Rat) M):Ab (b:Rat) M:=by have hw:w≠0:=ψ;have h1:(b:Rat)*(w:Rat)=(a:Rat):=(by rw [h,Rat.intCast_mul];grind);refine adO h1 hM ?_;rcases Int.lt_or_gt_of_ne hw with h2|h2;right;have:w<=-1:=Z;have h3:(w:Rat)<=((-1:Int):Rat):=aF5;assumption;left;have:1<=w:=Z;exact ay5
def aqh{H:Int}(h:IP n a)(hn:n≠0)(hH:∀i,((a i).natAbs:Int)<=H)(hx:H<x):pf a n (x:Rat)≠0:=by
 have h1:=J7 (c:=a) (x:=x) (top:=n) ψ (h.l hn) (n-1) Z;rw [Nat.sub_add_cancel Z] at h1;have h2:=Ug (a:=a) (x:=x) (top:=n) n;rw [aaK] at h2;intro e;have e':((Ot a x 1 n n:Int):Rat)=0:=h2.trans e;have e2:Ot a x 1 n n=0:=by exact_mod_cast e'
 rw [e2] at h1;have hx1:tV x=1:=sJ ψ;rw [hx1,Int.one_pow,Int.mul_one] at h1;exact IZ.2 (h.l hn) h1.symm
def aky:B^1=B:=by simp_all
def NK{c:Nat->Rat}{x:Rat}(hB:1<=B)(hx:Ab x B)(hH:0<=H):∀n,(∀i,i<n->Ab (c i) H)->Ab (pe c x n) ((n:Rat)*(H*B^n))
 |0,_=>kY aCj
 |n+1,h=>by
  have h1:=NK hB hx hH n λi hi=>h i Z
  have h2:=(h n Z).mul<|PV hB hx n;have h3:=Tv hB n;have h4:=aaJ h3 hH;have h5:=aaJ h4<|jS n;have h6:=oQ n;show Ab (pe c x n+c n*x^n) _
  refine(h1.add h2).mono ?_;grind
def Nw(a b:Rat):∀n:Nat,(a*b)^n=a^n*b^n
 |0=>by simp_all
 |n+1=>by rw [Rat.pow_succ,Rat.pow_succ,Rat.pow_succ,Nw a b n];grind
def Xx{R:Rat}(hR:1<=R):∀n,bet R n<=(5*R)^n
 |0=>by show(0:Rat)<=(5*R)^0;grind
 |n+1=>by
  have ih:=Xx hR n;have h1:1<=(5*R)^n:=lX ψ n;have h2:=aaJ ih (c:=2*(1+R)) ψ;have h3:(1:Rat)*(5*R)^n<=R*(5*R)^n:=abV hR ψ;show 1+2*(1+R)*bet R n<=(5*R)^(n+1)
  rw [Rat.pow_succ];grind
def Va{H:Int}(ha:IP n a)(hn:n≠0)(hb:∀i,m<=i->b i=0)(hw:∀i,k<=i->w i=0)(h:∀i,bW w b i=a i)(hH:∀i,((a i).natAbs:Int)<=H)(hH1:1<=H)(hmH:(m:Int)<=H)(i:Nat):
  Ab (b i:Rat) ((n:Rat)*((H:Rat)*(2*(H:Rat))^n)*(10*(H:Rat))^m):=by have hHq:(1:Rat)<=(H:Rat):=(by exact_mod_cast hH1);have hR0:(0:Rat)<=2*(H:Rat):=ψ;have hval:∀x,pf a n x=pf w k x*pf b m x:=λx=>(by rw [<-uU hw hb,show bW w b=a from funext h];exact Et ha.z λi hi=>by rw [<-h i];exact gJ hw hb i hi);have hx:∀i,i<m->Ab (((H+1+(i:Int)):Int):Rat) (2*(H:Rat)):=λi hi=>(by have h1:H+1+(i:Int)<=2*H:=Z;have h2:((H+1+(i:Int):Int):Rat)<=((2*H:Int):Rat):=aDJ;have h3:(0:Int)<=H+1+(i:Int):=Z;have h4:(0:Rat)<=((H+1+(i:Int):Int):Rat):=(by exact_mod_cast h3);rw [Rat.intCast_mul] at h2;exact azM);have hM:∀i,i<m->Ab (pf b m (((H+1+(i:Int)):Int):Rat)) ((n:Rat)*((H:Rat)*(2*(H:Rat))^n)):=λi hi=>(by have⟨za,hza⟩:=EY a (H+1+(i:Int)) n;have⟨zb,hzb⟩:=EY b (H+1+(i:Int)) m;have⟨zw,hzw⟩:=EY w (H+1+(i:Int)) k;have hne:=aqh ha hn hH (x:=H+1+(i:Int)) Z;have h1:=hval (((H+1+(i:Int)):Int):Rat);have hA:Ab (pf a n (((H+1+(i:Int)):Int):Rat))<|(n:Rat)*((H:Rat)*(2*(H:Rat))^n):=NK ψ ψ ψ n λj _=>(by have h2:=hH j;have h3: -H<=a j/\a j<=H:=Z;unfold Ab rc;constructor;have:((-H:Int):Rat)<=(a j:Rat):=(by exact_mod_cast h3.1);assumption;exact_mod_cast h3.2);rw [hza] at h1 hne hA;rw [hzb,hzw,<-Rat.intCast_mul] at h1;rw [hzb];exact OT aDJ aDR hA);have hM0:0<=(n:Rat)*((H:Rat)*(2*(H:Rat))^n):=acK (jS n) (acK ψ<|by have:=lX (B:=2*(H:Rat)) ψ n;grind);have key:=RJ hR0 m b (λi=>H+1+(i:Int)) _ hb Z hx hM hM0 i;refine key.mono<|aaJ ?_ hM0;have:=Xx (R:=2*(H:Rat)) ψ m;grind
def Lb(K:Nat)(c:Nat->Int):Prop:=∀i,(c i).natAbs<dF^K
def Lb.mono(h:Lb K c)(k:K<=L):Lb L c:=λi=>acI (h i)<|acC φ k
def as4(ha:IP n a)(hn:n≠0)(hb:∀i,m<=i->b i=0)(hw:∀i,k<=i->w i=0)(h:∀i,bW w b i=a i)(hK:Lb K a)(hK1:1<=K)(aum:n<=10)(ay7:m<=10):Lb (21*K+3) b:=by intro i;have hB:1<=dF^K:=ψ;have hB2:dF<=dF^K:=aDj;have hBm:10<=dF:=φ;have key:=Va (H:=((dF^K:Nat):Int)) ha hn hb hw h (λj=>by have:=hK j;omega) Z Z i;have hBq:(1:Rat)<=(((dF^K:Nat):Int):Rat):=(by exact_mod_cast hB);generalize hBB:(((dF^K:Nat):Int):Rat)=B at key hBq;have h1:(2*B)^n<=(2*B)^10:=CQ ψ aum;have h2:(10*B)^m<=(10*B)^10:=CQ ψ ay7;have h3:(n:Rat)<=10:=(by exact_mod_cast aum);have p1:(0:Rat)<=(2*B)^n:=(by have:=lX (B:=2*B) ψ n;grind);have p2:(0:Rat)<=(10*B)^m:=(by have:=lX (B:=10*B) ψ m;grind);have p3:(0:Rat)<=(2*B)^10:=ψ;have h4:B*(2*B)^n<=B*(2*B)^10:=aaJ h1 ψ;have h5:(n:Rat)*(B*(2*B)^n)<=10*(B*(2*B)^10):=(by have a1:=aaJ h4<|jS n;have a2:=abV h3 (c:=B*(2*B)^10)<|acK ψ p3;grind);have h6:(n:Rat)*(B*(2*B)^n)*(10*B)^m<=10*(B*(2*B)^10)*(10*B)^10:=(by have a1:=abV h5 p2;have a2:=aaJ h2 (c:=10*(B*(2*B)^10))<|acK ψ<|acK ψ p3;grind);have h7:Ab (b i:Rat)<|10*(B*(2*B)^10)*(10*B)^10:=key.mono h6;have h9:10*(B*(2*B)^10)*(10*B)^10=(((10*(2^10*10^10)*(dF^K)^21:Nat):Int):Rat):=aDj;rw [h9] at h7;have h10:(b i).natAbs<=10*(2^10*10^10)*(dF^K)^21:=(by have⟨u1,u2⟩:=h7;have u3:b i<=((10*(2^10*10^10)*(dF^K)^21:Nat):Int):=(by exact_mod_cast u2);have u4: -((10*(2^10*10^10)*(dF^K)^21:Nat):Int)<=b i:=(by rw [<-Rat.intCast_neg] at u1;exact_mod_cast u1);omega);refine ac1 h10 ?_;rw [<-Nat.pow_mul,Nat.pow_add,Nat.mul_comm K 21,Nat.mul_comm];grind
def afS{B:BS}{w:World}(h:fP B w (ln K m) v):m<dF^K:=by obtain⟨a,n,c,rfl,hr,hK,_⟩:=vX h;have:=En hr hK;rwa [eF] at this
def GH(hm:m<dF^L):∀B w v,fP B w (ln K m) v->fP B w (ln L m) v:=by rintro B w v ⟨⟨a,n,c,h1,h2,h3,h4⟩,h5⟩;exact⟨⟨a,n,c,h1,h2,aam h2 hm,h4⟩,h5⟩
def Oh(hz:z.natAbs<dF^L):∀B w cs,jg B w (zn K z) cs->jg B w (zn L z) cs
 |B,w,[a,b],⟨h1,h2,h3⟩=>⟨h1,GH hz _ _ _ h2,h3⟩
def Aa(h:∀i,i<n->(c i).natAbs<dF^L):∀B w v,fP B w (bP K n c) v->fP B w (bP L n c) v:=
 jZ λi hi j hj B w v hv=>by
  match j,hj with
  |0,_=>exact hv
  |1,_=>exact GH (h i hi) _ _ _ hv
def kQ(h:Lb L c):AV.le (.d<|.o<|bP K n c)<|.d<|.o<|bP L n c:=eY (Aa λi _=>h i)
def KI(hz:∀i,n<=i->c i=0){B:BS}{w:World}(h:fP B w (bP K n c) v):Lb K c:=by intro i;by_cases hi:i<n;obtain⟨a,cap,rfl,_,_,hj⟩:=h;obtain⟨b,off,rfl,_,_,hc⟩:=hj i hi;have⟨x,_,hx⟩:=hc 1 Z;exact afS hx;grind
def MW{l:Lf}(hl:kW l K n c){B:BS}{w:World}(h:fP B w l v):Lb K c:=by have⟨⟨f,h1,h2⟩,hz⟩:=hl;intro i;by_cases hi:i<n;obtain⟨a,cap,rfl,_,_,hj⟩:=h1 _ _ _ h;obtain⟨b,off,rfl,_,_,hc⟩:=hj i hi;have⟨x,_,hx⟩:=hc 1 Z;obtain⟨a,n',c',rfl,hr,hK,_⟩:=vX (xs:=(f i).2) hx;rw [<-h2 i hi];show(zv (f i).1<|val (f i).2).natAbs<_;rw [uy];exact En hr hK;grind
def Db(K:Nat)(c:Nat->Int):Prop:=∀i,(c i).natAbs<B4^K
def Tb(K:Nat)(q:Rat):Prop:=q.num.natAbs<dF^K/\q.den<dF^K
def oZ(h:Tb L q):∀B w cs,jg B w (tn K q) cs->jg B w (tn L q) cs
 |B,w,[a,b,c,d],⟨h1,h2,h3,h4,h5⟩=>⟨h1,GH h.1 _ _ _ h2,h3,GH h.2 _ _ _ h4,h5⟩
def Oa{B:BS}{w:World}{cs:List Value}(h:jg B w (tn K q) cs):Tb K q:=by match cs,h with|[x,y,u,v],⟨_,h2,_,h4,_⟩=>exact⟨afS h2,afS h4⟩
section
variable {P:Program} {ops:Array Oper} {Q:Qs} {l:List Oper} {s:AS}
def AW.fact{p:Prop}{c:Code}(h:∀B0 w0 a w,Ou s B0 w0 a w->p)(k:p->AW P c Q s):AW P c Q s:=λB0 w0 a w hd=>k ψ B0 w0 a w hd
def Q8(t:Nat)(h:lk s.sl t=some (.d<|.o<|bP K n c))(hz:∀i,n<=i->c i=0):∀B0 w0 a w,Ou s B0 w0 a w->Lb K c:=by rintro B0 w0 a w ⟨ρ,hc,hn,hdf,hs⟩;have⟨v,_,hl⟩:=hs t _ h;exact KI hz hl
def ayq(t:Nat)(h:lk s.sl t=some (.d<|.j<|tn K q)):∀B0 w0 a w,Ou s B0 w0 a w->Tb K q:=by rintro B0 w0 a w ⟨ρ,hc,hn,hdf,hs⟩;have⟨v,_,cs,_,hl⟩:=hs t _ h;exact Oa hl
end
def X6{y:Int}(hx:x.natAbs<dF^K)(hy:y.natAbs<dF^L):(x*y).natAbs<dF^(K+L):=by rw [Int.natAbs_mul,Nat.pow_add];exact Nat.mul_lt_mul_of_lt_of_le hx (acQ hy) Z
def Lb.sub(h:Lb K a)(k:Lb K b):Lb (K+1)<|lJ a b:=λi=>by
 have h1:=h i;have h2:=k i;unfold lJ;grind
def Lb.add(h:Lb K a)(k:Lb K b):Lb (K+1)<|kT a b:=λi=>by
 have h1:=h i;have h2:=k i;unfold kT;grind
def Lb.neg(h:Lb K a):Lb K<|jX a:=λi=>by have:=h i;unfold jX;omega
def Lb.qN{y:Int}(h:Lb K a)(hy:y.natAbs<dF^L):Lb (K+L)<|iJ a y:=λi=>X6 (h i) hy
def Lb.l7{g:Int}(h:Lb K a):Lb K<|l7 a g:=λi=>ac1 (by unfold Go.Proofs.YtecmeakkkmidjaaGreat.l7;exact an5 _ _)<|h i
def qY(x:Int)(i:Nat):Nat->Int:=λj=>if j=i then x else 0
def tJ:∀j,i+1<=j->qY x i j=0:=λj hj=>if_neg Z
def aeD:∀m,cv (qY x i) b m j=if i<m/\i<=j then x*b (j-i) else 0
 |0=>by rfl
 |m+1=>by
  show cv (qY x i) b m j+(if m<=j then qY x i m*b (j-m) else 0)=_
  rw [aeD m];unfold qY
  grind
def BJ(j:Nat):bW (qY x i) b j=if i<=j then x*b (j-i) else 0:=by show cv _ _ _ _=_;rw [aeD];omega
def Lb.qY(h:Lb K b)(hx:x.natAbs<dF^L):Lb (L+K)<|bW (qY x i) b:=λj=>by
 rw [BJ];split
 ·exact X6 hx<|h _
 grind
def aqj(q:Rat):pf (qY x i) (i+1) q=(x:Rat)*q^i:=by show pe _ q i+rc (qY x i) i*q^i=_;rw [GV λj hj=>by unfold rc qY;rw [if_neg Z];rfl];unfold rc qY;grind
def bK(c:Nat->Int):Prop:=∀i,20<=i->c i=0
def lg(c:Nat->Int):Nat:=dg c 20
def FF(c:Nat->Int):Fn:=pf c 20
def bK.of(h:∀i,n<=i->c i=0)(hn:n<=20):bK c:=λi hi=>h i Z
def iK(h:∀i,n<=i->c i=0)(z:bK c):dg c n=lg c:=Ed h z
def dN(c:Nat->Int):lg c<=20:=ny c 20
def bK.lg(z:bK c):∀i,lg c<=i->c i=0:=jG z
def bK.ip(z:bK c):IP (Go.Proofs.YtecmeakkkmidjaaGreat.lg c) c:=IP.of z
def Ba(h:∀i,n<=i->c i=0)(z:bK c):pf c n=FF c:=agB h z
def jU(z:bK c):pf c (lg c)=FF c:=Ba z.lg z
def dG(z:bK c):Po<|FF c:=agC z
def jc(z:bK c)(h:∀i,n<=i->c i=0):lg c<=n:=by rw [<-iK h z];exact ny c n
def nD(h:lg c≠0):c (lg c-1)≠0:=O5 h
def iM(z:bK c):lg c=0↔∀i,c i=0:=⟨λh=>LU z h,λh=>F5 h 20⟩
def nT(z:bK c):lg c=0↔∀x,FF c x=0:=by constructor;intro h x;rw [<-jU z,h];rfl;intro h;exact z.ip.zero λx=>by rw [jU z];exact h x
def uz(z:bK c)(h:lg c≠0):∃x,FF c x≠0:=by have:=z.ip.ne h;rwa [jU z] at this
def xX(z:bK c)(h:lg c≠0):Lc (lg c-1) (FF c) (c (lg c-1):Rat):=by have:=z.ip.lc h;rwa [jU z] at this
def Qh(z:bK c)(y:bK d)(h:∀x,FF c x=FF d x):∀i,c i=d i:=Td z y h
def KX(h:bK a)(k:bK b):bK<|lJ a b:=λi hi=>by unfold lJ;rw [h i hi,k i hi];rfl
def KU(h:bK a)(k:bK b):bK<|kT a b:=λi hi=>by unfold kT;rw [h i hi,k i hi];rfl
def Hw{y:Int}(h:bK a):bK<|iJ a y:=λi hi=>by unfold iJ;rw [h i hi];simp
def KW(h:bK a):bK<|jX a:=λi hi=>by unfold jX;rw [h i hi];rfl
def Hu{g:Int}(h:bK a):bK<|l7 a g:=Ef h
def fV(h:bK a):bK<|bQ a:=λi hi=>by unfold bQ;rw [h (i+1) Z];simp
def kL:bK (λ_=>0):=λ_ _=>rfl
def ani(x:Rat):FF (lJ a b) x=FF a x-FF b x:=aql x
def anh(y:Int)(x:Rat):FF (iJ a y) x=FF a x*(y:Rat):=CO y x
def Xg(x:Rat):FF (jX a) x= - FF a x:=aqk x
def sG(ha:∀i,n<=i->a i=0)(hb:∀i,m<=i->b i=0)(hnm:n+m<=20)(za:bK a)(zb:bK b)(x:Rat):FF (bW a b) x=FF a x*FF b x:=by have h:=uU ha hb x;rw [agB (gJ ha hb) (λi hi=>gJ ha hb i Z:∀i,20<=i->bW a b i=0),Ba ha za,Ba hb zb] at h;exact h
def ru(z:bK c):yX (FF c)<|FF<|bQ c:=by have h:=aqg (c:=c) (n:=20);rwa [agB (vT z:∀i,20-1<=i->bQ c i=0)<|fV z] at h
def adb(z:bK c)(x:Rat):FF c x=((dM c 20:Nat):Rat)*FF (Ah c 20) x:=Ti z x
def aqG{r:Nat->Int}{nb:Nat}(hnb:nb≠0)(hd:∀t,nb<=t->d t=0)(hr:∀t,nb+i<=t->r t=0):∀t,nb+i-1<=t->lJ (iJ r<|d<|nb-1) (bW (qY (r<|nb-1+i) i) d) t=0:=by intro t ht;show r t*d (nb-1)-bW (qY (r<|nb-1+i) i) d t=0;rw [BJ,if_pos Z];grind
def agb(h:i<20):bK<|qY x i:=λj hj=>tJ j Z
def ang(h:i<20)(q:Rat):FF (qY x i) q=(x:Rat)*q^i:=by rw [<-Ba tJ (agb h)];exact aqj q
def aqF{r:Nat->Int}{nb:Nat}{l:Int}(hd:∀t,nb<=t->d t=0)(zd:bK d)(h:i+1+nb<=20)(q:Rat):FF (lJ (iJ r l)<|bW (qY x i) d) q=FF r q*(l:Rat)-((x:Rat)*q^i)*FF d q:=by rw [ani,anh,sG tJ hd h (agb Z) zd,ang Z]
def akx(x:Int)(i:Nat):Po (λq=>(x:Rat)*q^i):=(dh _).mul<|agJ.pow i
structure PsI(c d:Nat->Int)(nb:Nat)(K L:Nat)(s i:Nat)(r q:Nat->Int):Prop where
 z:∀t,nb+i<=t+1->r t=0
 zr:bK r
 zq:bK q
 br:Lb (K+s*(L+1)) r
 bq:Lb (K+s*(L+1)) q
 eq:∃Q,Po Q/\∀x,((d (nb-1):Int):Rat)^s*FF c x=Q x*FF d x+FF r x
def PsI.start{nb:Nat}(zc:bK c)(hb:Lb K c)(h:∀t,nb+i<=t+1->c t=0):PsI c d nb K L 0 i c (λ_=>0):=
 ⟨h,zc,kL,by simp_all,λ_=>acZ φ,⟨λ_=>0,dh 0,λx=>by grind⟩⟩
def PsI.step{nb s:Nat}{r q:Nat->Int}(h:PsI c d nb K L s (i+1) r q)(hnb:nb≠0)(hd:∀t,nb<=t->d t=0)(zd:bK d)(bd:Lb L d)(hi:i+1+nb<=20)(hx:x=r (nb-1+i)):
  PsI c d nb K L (s+1) i (lJ (iJ r<|d<|nb-1)<|bW (qY x i) d) (kT (iJ q<|d<|nb-1)<|qY x i):=by subst hx;have e1:K+(s+1)*(L+1)=K+s*(L+1)+L+1:=ψ;have zcv:bK<|bW (qY (r<|nb-1+i) i) d:=λt ht=>gJ tJ hd t Z;refine⟨λt ht=>aqG hnb hd (λt ht=>h.z t Z) t Z,KX (Hw h.zr) zcv,KU (Hw h.zq)<|agb Z,?_,?_,?_⟩;rw [e1];refine Lb.sub (h.br.qN<|bd _) ?_;have:=Lb.qY (i:=i) bd<|h.br<|nb-1+i;omega;rw [e1];refine Lb.add (h.bq.qN<|bd _) (λj=>?_);unfold qY;split;exact acI (h.br _)<|acC φ Z;grind;have⟨Q,pQ,hQ⟩:=h.eq;refine⟨λy=>Q y*((d (nb-1):Int):Rat)+((r (nb-1+i):Int):Rat)*y^i,(pQ.qN _).add<|akx _ _,λy=>?_⟩;rw [aqF hd zd hi,Rat.pow_succ];grind
structure xY(c d:Nat->Int)(M:Nat)(R:Nat->Int):Prop where
 z:bK R
 b:Lb M R
 lt:lg R<lg d
 eq:∃(Q:Fn) (κ:Rat),Po Q/\0<κ/\∀x,FF c x=Q x*FF d x+κ*FF R x
def zZ{l:Rat}(hl:l≠0):∀s:Nat,(0<l^s/\(s%2=0\/0<l))\/(l^s<0/\s%2=1/\l<0)
 |0=>by grind
 |s+1=>by
  rw [Rat.pow_succ];have hc:0<l\/l<0:=ψ
  rcases zZ hl s with⟨h1,h2⟩|⟨h1,h2,h3⟩
  ·rcases hc with hp|hn
   ·exact Or.inl ⟨ac4 h1 hp,Or.inr hp⟩
   ·rcases h2 with h2|h2
    ·refine Or.inr ⟨?_,by omega,hn⟩
     have:=ac4 h1 (show(0:Rat) < -l by grind);grind
    grind
  ·refine Or.inl ⟨?_,Or.inl Z⟩
   have:=ac4 (show(0:Rat) < -(l^s) by grind) (show(0:Rat) < -l by grind);grind
def TD{r:Nat->Int}{nb s:Nat}{q:Nat->Int}(h:PsI c d nb K L s 0 r q)(zd:bK d)(hnb:lg d=nb)(hn0:nb≠0)(hM:K+s*(L+1)<=M)(hR:(s%2=1/\d (nb-1)<0/\∀i,R i=Ah (jX r) 20 i)\/(¬(s%2=1/\d (nb-1)<0)/\∀i,R i=Ah r 20 i)):
  xY c d M R:=by subst hnb;have hl:((d (lg d-1):Int):Rat)≠0:=Jz<|nD hn0;have key:∀(u:Nat->Int) (σ:Rat),bK u->Lb M u->(∀t,lg d<=t+1->u t=0)->σ≠0->0<σ*((d (lg d-1):Int):Rat)^s->(∀x,FF r x=σ*FF u x)->σ*σ=1->(∀i,R i=Ah u 20 i)->xY c d M R:=(by intro u σ zu bu hz hσ hpos hu hss hR;obtain rfl:R=Ah u 20:=funext hR;have zs:bK<|Ah u 20:=Hu zu;refine⟨zs,bu.l7,?_,?_⟩;have:lg (Ah u 20)<=lg d-1:=jc zs λi hi=>Ef ψ i hi;omega;have⟨Q,pQ,hQ⟩:=h.eq;obtain⟨A,hA⟩:∃A:Rat,A=((d (lg d-1):Int):Rat)^s:=ψ;rw [<-hA] at hpos;rw [<-hA] at hQ;have hA0:A≠0:=(by rintro rfl;grind);by_cases hg:dM u 20=0;have hz0:∀x,FF u x=0:=λx=>(by rw [adb zu,hg];grind);have hs0:∀x,FF (Ah u 20) x=0:=(by have hall:∀i,u i=0:=(iM zu).1<|(nT zu).2 hz0;exact(nT zs).1 ((iM zs).2 λi=>by unfold Ah l7;simp_all));refine⟨λx=>Q x*A⁻¹,1,pQ.qN _,by rfl,λx=>?_⟩;grind;refine⟨λx=>Q x*A⁻¹,σ*A⁻¹*((dM u 20:Nat):Rat),pQ.qN _,?_,λx=>?_⟩;have h1:(0:Rat)<((dM u 20:Nat):Rat):=(by exact_mod_cast ahc hg);refine ac4 ?_ h1;have h2:σ*A⁻¹=(σ*A)*(A⁻¹*A⁻¹):=ψ;rw [h2];have h3:(0:Rat)<A⁻¹*A⁻¹:=(by have h4:A⁻¹≠0:=ψ;have h5:0<A⁻¹\/A⁻¹<0:=ψ;rcases h5 with h5|h5;exact ac4 h5 h5;have:=ac4 (show(0:Rat) < -A⁻¹ by grind) (show(0:Rat) < -A⁻¹ by grind);grind);exact ac4 hpos h3;have h1:=hQ x;rw [hu,adb zu] at h1;grind);have hbM:Lb M r:=h.br.mono hM;have hz0:∀t,lg d<=t+1->r t=0:=λt ht=>h.z t Z;rcases hR with⟨h1,h2,h3⟩|⟨h1,h3⟩;have hl0:((d (lg d-1):Int):Rat)<0:=(by exact_mod_cast h2);refine key (jX r) (-1) (KW h.zr) hbM.neg (λt ht=>by unfold jX;simp_all) φ ?_ (λx=>by rw [Xg];grind) ψ h3;rcases zZ hl s with⟨_,h6|h6⟩|⟨h5,_,_⟩;omega;grind;grind;refine key r 1 h.zr hbM hz0 φ ?_ ψ ψ h3;rcases zZ hl s with⟨h5,_⟩|⟨_,h6,h7⟩;grind;exact absurd ⟨h6,by exact_mod_cast h7⟩ h1
def xY.idp(h:xY c d M R):Oj (FF c) (FF d) (FF d)<|FF R:=by have⟨Q,κ,pQ,hκ,e⟩:=h.eq;exact Oj.step pQ ψ e
def evR(T:TypeId->Option TI)(s:AS):Op->Option AO
 |.buildSlice t len parts=>match T t with
  |none=>none
  |some ti=>match ti.elem with
   |none=>none
   |some e=>match T e,Ei s parts.toList with
    |some te,some ps=>if te.zero.length=te.n/\te.n≠0/\len*te.n<=16777216 then match wY (λi=>some (i*te.n,te.n)) ((List.range<|len*te.n).map λq=>Lf.v<|(te.zero[q%te.n]?).getD undef) ps with
     |some r=>some (.a e te.n len λi j=>(r[i*te.n+j]?).getD<|.v undef)
     |none=>none
     else none
    |_,_=>none
 |_=>none
def aom(hT:xZ P T){s:AS}{ob:AO}{B0:BS}{w0:Wz}{w:World}{hp:List (Nat×AO)}{a:Act}(hsl:gu ρ (Bd ρ B0) w s.sl a)(hc:gq ρ B0 w0 w hp)(h:evR T s o.op=some ob):
  ∃v w',(execOp a.eval o).run P w= .ok (.value v) w'/\Below w.heap.size w w'/\(∀b,kK v=some b->w.heap.size<=b)/\∀B',(∀b,b<w.heap.size->B' b->Bd ρ B0 b)->OR B' w0 w' ob v:=by
 unfold evR at h;unfold execOp;split at h
 ·rename_i t len parts hop;rw [hop];split at h
  ·cases h
  rename_i ti hti;replace hti:=hT _ _ hti;split at h
  ·cases h
  rename_i e he;split at h
  ·rename_i te ps hte hps;replace hte:=hT _ _ hte;split at h
   ·rename_i hcond;have⟨hzl,hn0,hsm⟩:=hcond;split at h
    ·rename_i r hr;cases h;have⟨i,z,dd,h1,h2,h3,h4,h5,h6,h7,h8,h9,_⟩:=dH hti;have:=h9 e he;subst this;have⟨i',z',dd',k1,k2,k3,k4,k5,k6,k7,_,_,_,_,hall⟩:=dH hte;have hz':z'.cells=te.zero.toArray:=ψ;have⟨g1,g2⟩:=Gm hsl parts.toList ps hps;have hpos:0<te.n:=Z;have hbase:jg (Bd ρ B0) w ((List.range (len*te.n)).map λq=>Lf.v ((te.zero[q%te.n]?).getD undef)) ((List.range (len*te.n)).map λq=>(te.zero[q%te.n]?).getD undef):=by
      have:=jg.vs (B:=Bd ρ B0) (w:=w) (cs:=(List.range (len*te.n)).map λq=>(te.zero[q%te.n]?).getD undef) (λc hcm=>by
       obtain⟨q,_,rfl⟩:=List.mem_map.1 hcm;rw [List.getElem?_eq_getElem (show q%te.n<te.zero.length by rw [hzl];exact Nat.mod_lt _ hpos)];grind)
      rwa [List.map_map] at this
     have⟨rs,MJ,hrs⟩:=BO (λi=>some (i*te.n,te.n)) ps _ _ r _ hbase hr g1 g2;have hrl:∀(ps:List (Nat×List Lf)) (l r:List Lf),wY (λi=>some (i*te.n,te.n)) l ps=some r->r.length=l.length:=aC3;have hlen:rs.length=len*te.n:=aGE;have hm:(parts.map λx:Nat×Operand=>match x with | (i,x)=>(i,a.eval x)).toList=parts.toList.map λq:Nat×Operand=>(q.1,a.eval q.2):=by rw [Array.toList_map]
     have hgt:¬ len*i'.size > 2^24:=ψ;have hrun:(Instr.buildSlice t len (parts.map λx:Nat×Operand=>match x with | (i,x)=>(i,a.eval x))).run P w= .ok (.slice (some ⟨w.heap.size,0,none⟩) len len) (w.alloc (.cells rs.toArray e)):=by
      have hA:∀zc:Array Value,(len*te.n=0\/zc=te.zero.toArray)->(Array.range (len*te.n)).map (λq=>zc[q%zc.size]!)=((List.range (len*te.n)).map λq=>(te.zero[q%te.n]?).getD undef).toArray:=by
       rintro zc (h0 | rfl)
       ·grind
       ·rw [<- Array.toList_inj]
        simp only [Array.toList_map,Array.toList_range];refine List.map_congr_left (λq _=>?_);have hq:q%te.n<te.zero.length:=by rw [hzl];exact acP _ hpos
        simp [hzl,getElem!_def,List.getElem?_eq_getElem hq]
      have hfin:∀zc:Array Value,(len*te.n=0\/zc=te.zero.toArray)->(do
        let some cells := Instr.fill (λi => some (i * te.n, te.n)) ((Array.range (len * te.n)).map (λq => zc[q % zc.size]!)) (parts.map λx : Nat × Operand => match x with | (i, x) => (i, a.eval x)).toList | stuck "buildSlice: a part of the wrong size"
        pure (.slice (some (<- newRow e cells)) len len):Sem Value).run P w= .ok (.slice (some ⟨w.heap.size,0,none⟩) len len) (w.alloc (.cells rs.toArray e)):=by
       intro zc hz;rw [hA zc hz,hm,MJ];rfl
      unfold Instr.buildSlice;simp only [Sem.run_bind,run_underlying h3,Result.andThen_ok,sizeOf,typeInfo,run_program,k1,Sem.run_pure,k4];rw [if_neg Z]
      by_cases hl0:len*te.n=0
      ·rw [if_pos hl0]
       exact axr
      ·rw [if_neg hl0]
       exact auY
     have hlm:len<=maxLen:=(by have:len*1<=len*te.n:=acM _ hpos;simp [maxLen];omega);refine⟨_,_,dP hrun,nU _ _,λb hb=>by cases hb;grind,λB' hB=>⟨rs,⟨⟨hlen,Or.inr ⟨w.heap.size,len,rs.toArray,O,abJ _,heap_alloc_new w _,aav _,hlm,by omega,by grind⟩⟩,λb hb=>by cases hb;exact Or.inl hc.bel.size⟩,λp q hp hq=>?_⟩⟩;have hidx:p*te.n+q<len*te.n:=aF3;have hrlen:r.length=len*te.n:=ψ;obtain⟨l,hl⟩:∃l,r[p*te.n+q]?=some l:=⟨r[p*te.n+q],by grind⟩;have⟨cc,hcc,hlr⟩:=hrs.get hl;refine⟨cc,hcc,?_⟩;show fP _ _ ((r[p*te.n+q]?).getD _) cc;rw [hl];exact fP.mv (.of_below (nU _ _)) hB _ hlr
    ·cases h
   ·cases h
  ·cases h
 ·cases h
section
variable {P:Program} {ops:Array Oper} {Q:Qs} {o:Oper} {l:List Oper} {s:AS}
def mR(hT:xZ P T)(ob:AO)(h:evR T s o.op=some ob){d:Nat}(hdst:o.dst=some d)(hfr:lk s.hp d=none)(k:AL P ops Q l<|s.mk' d ob)(hg:jD ops s o=some true:=by rfl)(hd:jQ (some d) s.n=true:=by rfl):AL P ops Q (o::l) s:=by rintro B0 w0 a w ⟨ρ,hc,hn,hdf,hs⟩;have⟨v,w',hr,hb,hv,ho⟩:=aom hT hs hc h;have hρ:ρ d=none:=(by cases hρ:ρ d with|none=>rfl|some u=>have⟨ob',h1,_⟩:=hc.obj d u hρ;simp_all);have eG:=ho (Bd (up ρ d v) B0)<|wF hρ hv;have hc':gq (up ρ d v) B0 w0 w' ((d,ob)::s.hp):=hc.new hρ hb hv (λk ob hk hne=>by rw [aY,if_neg Z];omega) aCN eG;have dW:gu (up ρ d v) (Bd (up ρ d v) B0) w' s.sl a:=λt av ht=>let ⟨u,h1,h2⟩:=hs t av ht;⟨u,h1,h2.new hρ hb hv⟩;refine jv aDG hr<|k B0 w0 _ w' ?_;exact aq1
end
def mA2(hT:xZ P T){ops:Array Oper}{Q:Qs}{l:List Oper}{s:AS}{c:Call}{x y:Operand}{t t2 e2:TypeId}{ti ti2 te:TI}{id d:Nat}{el:Nat->Nat->Lf} 
  (hx:dR s x=some (.q id)) (hob:unO (lk s.hp id)=some (.a e te.n n el)) (hy:Qb s y te.n=some (m,el2)) (hbd:(n+m)*te.bytes<=140737488355328) (hmx:n+m<=9223372036854775807) (hc:gX o.op=some c) (qU:c.callee=.builtin .append) (hargs:c.args.toList=[x,y]) (hty:c.argTypes.toList=[t,t2]) (ao4:T t2=some ti2) (he2:ti2.elem=some e2) (hti:T t=some ti) (he:ti.elem=some e) (hte:T e=some te) (hz:Nat.beq te.zero.length te.n=true) (h0:Nat.ble 1 te.n=true)
  (hdst:o.dst=some d) (k:AL P ops Q l ⟨s.n,(d,.q id)::ZM id .D (λ_=>.D) s.sl,(id,.a e te.n (n+m)<|fA n el el2)::s.hp⟩) (hg:jD ops s o=some true:=by rfl) (hd:jQ (some d) s.n=true:=by rfl):AL P ops Q (o::l) s:=
 mAT hT hx hob (fun ρ B0 w0 w a _ hs=>Hl hs hy) hbd hmx hc qU hargs hty ao4 he2 hti he hte hz h0 hdst k hg hd
def mA0(hT:xZ P T){ops:Array Oper}{Q:Qs}{l:List Oper}{s:AS}{c:Call}{x y:Operand}{t t2 e2:TypeId}{ti ti2 te:TI}{d:Nat} 
  (hx:dR s x=some (.d<|.o<|.v<|.slice none 0 0)) (hc:gX o.op=some c) (qU:c.callee=.builtin .append) (hargs:c.args.toList=[x,y]) (hty:c.argTypes.toList=[t,t2]) (ao4:T t2=some ti2) (he2:ti2.elem=some e2) (hti:T t=some ti) (he:ti.elem=some e) (hte:T e=some te) (hz:Nat.beq te.zero.length te.n=true) (h0:Nat.ble 1 te.n=true) (hy:Qb s y te.n=some (m,el2)) (hbd:m*te.bytes<=140737488355328) (hmx:m<=9223372036854775807)
  (hdst:o.dst=some d) (hfr:lk s.hp d=none) (k:AL P ops Q l<|s.mk' d<|.a e te.n m el2) (hg:jD ops s o=some true:=by rfl) (hd:jQ (some d) s.n=true:=by rfl):AL P ops Q (o::l) s:=by
 rintro B0 w0 a w ⟨ρ,hcr,hn,hdf,hs⟩;have hop:o.op=.call c:=aFO;have hxe:a.eval x=.slice none 0 0:=(cu hs hx).1;have⟨ao,cc,news,hye,hnl,hnil,hmc,hsrc,OE⟩:=Hl hs hy;have⟨i,z,dd,h1,h2,h3,h4,h5,h6,h7,h8,h9,_⟩:=dH<|hT _ _ hti;have:=h9 e he;subst this;have⟨i',z',dd',k1,k2,k3,k4,k5,k6,k7,_⟩:=dH<|hT _ _ hte;have hzl:te.zero.length=te.n:=abr hz;have hsz:0<te.n:=acN h0;have hzs:z'.cells.size=te.n:=ψ;have hone:∀u∈news,u.oneCell'=true:=(by intro u hu;obtain⟨q,hq,rfl⟩:=List.mem_iff_getElem.1 hu;rw [hnl] at hq;have hdiv:q/te.n<m:=ahR ψ;exact as5);have hown:w.ownsRow 0 e te.n aAy 0 []:=⟨by simp,Or.inl aCl⟩;have⟨v',w',hr,hown',hgrow,hblk⟩:=xU (P:=P) (w:=w) 0 t o.type e i' z' te.n te.bytes h3 k1 k2 k4 k7 hzs hsz aAy 0 [] hown ao m cc news hnl hnil hmc hsrc hone (by simp [maxLen];omega) aCj<|abJ _;have⟨_,_,dd2,_,_,g3,_,_,_,_,_,g9,_⟩:=dH<|hT _ _ ao4;have:=g9 e2 he2;subst this;have hr:=(OW (ty:=o.type) (args:=#[.slice none 0 0,.slice ao m cc]) (w:=w) h3 g3).trans hr;have hrun:(execOp a.eval o).run P w=.ok (.value v') w':=(by have ha:c.args=#[x,y]:=ψ;have ht:c.argTypes=#[t,t2]:=ψ;exact axu);have hb:Below w.heap.size w w':=(Below.refl _ _).grown hgrow (aav _) (λk hk=>by cases hk);have hv:∀b,kK v'=some b->w.heap.size<=b:=λb hb'=>(by rcases hblk b hb' with q|q;cases q;omega);have hρ:ρ d=none:=(by cases hρ:ρ d with|none=>rfl|some u=>have⟨ob',h1,_⟩:=hcr.obj d u hρ;simp_all);rw [Nat.zero_add,List.nil_append] at hown';have eG:OR (Bd (up ρ d v') B0) w0 w' (.a e te.n m el2) v':=⟨news,⟨hown',λb hb=>Or.inl<|acL hcr.bel.size ψ⟩,λp q hp hq=>by
  have⟨u,hu1,hu2⟩:=OE p q hp hq;exact⟨u,hu1,fP.mv (.of_below hb) (wF hρ hv) _ hu2⟩⟩
 have hc':gq (up ρ d v') B0 w0 w' ((d,.a e te.n m el2)::s.hp):=hcr.new hρ hb hv (λk ob hk hne=>by rw [aY,if_neg Z];omega) aCN eG;have dW:gu (up ρ d v') (Bd (up ρ d v') B0) w' s.sl a:=λt av ht=>let ⟨u,h1,h2⟩:=hs t av ht;⟨u,h1,h2.new hρ hb hv⟩;refine jv aDG hrun<|k B0 w0 _ w' ?_;rw [hdst];exact⟨_,hc',(by show(a.tmps.setIfInBounds d v').size=s.n;simp_all),hdf,mF dW hn (acN hd) (AO.BG eG aFY)⟩
def abf(h:(Lit.int .i64 z).wf=true): -9223372036854775808<=z/\z<=9223372036854775807:=by simp only [Lit.wf,Bool.and_eq_true,decide_eq_true_eq] at h;have h1:IntKind.i64.min= -9223372036854775808:=φ;have h2:IntKind.i64.max=9223372036854775807:=φ;omega
section
open Go.RowKit Go.ChangeShapes Go.WideShapes
section
variable {H:Type} {enc:TypeId×Value→H} {P:Program} {w:World}
def acY{b off:Nat}:(⟨b,off,none⟩:Addr).add j=⟨b,off+j,none⟩:=by
 unfold Addr.add;split
 ·next h=>subst h;rfl
 ·rfl
def abj{a:Addr}(h:w.cell? (a.add 0)=some v):∃b off,a=⟨b,off,none⟩:=by have⟨b,off,sp⟩:=a;cases sp with|none=>exact⟨b,off,rfl⟩|some s=>exfalso;simp only [Addr.add,if_true,World.cell?] at h;split at h <;> simp_all
end
end
section
open Go.RowKit Go.ChangeShapes Go.WideShapes
def nb:BS:=λ_=>False
def auh{f:FuncId}{args:List DV}(h:aH P f args<|.d<|.o<|.v<|.bool true){w:World}{vs:List Value}(hvs:DY nb w args vs):Calls P f vs.toArray w λe w'=>e=.returned (.bool true)/\Below w.heap.size w w':=
 (h.go nb w vs (λ_ h=>h.elim) hvs).mono λe w' ⟨v,he,hb,hv⟩=>⟨by have h1:v=.bool true:=(show fP nb w' (.v<|.bool true) v from hv).1;rw [he,h1],hb⟩
section
variable {H:Type} {enc:TypeId×Value→H} {P:Program} {w:World}
def abI{a:Option Addr}{c:Nat}:(Value.slice a n c).cells.toList=[.slice a n c]:=by simp [Value.cells]
end
end
/-
 RATIONALS of the program, by the machine (3).
-/
def asD{a:List Lf}{n d:Int}(ha:I8 a K n d)(hM:max K 2+1<=M:=by decide)(Ej:M<=100000000:=by decide):aH prog 93 [.j a]<|.d<|.j<|tn M (-(fU n d)):=by have⟨s0,EC,t0,ys0,ha,e0,k0⟩:=ha;exact aH.le (dl (DV.g ha) iR) AV.le.rfl<|aN 10 [.cell 2 54] func93 O<|cR<|mO O<|mO O<|I<|cR<|mW O<|mY (Lu (⟨s0,EC,t0,ys0,λ_ _ _ h=>h,e0,k0⟩:I8 ([.v<|.bool s0,lr K EC]++[.v<|.bool t0,lr K ys0]) K n d) (M:=(max K 2+1))) O<|mZ O<|I<|cR<|mE 2 O<|mY (UF<|jT (max K 2+1)<|Rat.num<|fU n d) O<|mW O<|mZ O<|I<|cR<|mW O<|mZ O<|I<|aQ<|rQ O (Nc Z Z (by rw [Rat.neg_num])<|by rw [Rat.neg_den])
def asC{a b:List Lf}{n d m e:Int}(ha:I8 a K n d)(hb:I8 b L m e)(hM:(max K 2+1)+(max L 2+1)+4<=M:=by decide)(Ej:M<=100000000:=by decide):aH prog 186 [.j a,.j b]<|.d<|.j<|tn M<|((fU n d)+(fU m e))/2:=by have⟨s0,EC,t0,ys0,ha,e0,k0⟩:=ha;have⟨s1,xs1,t1,ys1,hb,e1,k1⟩:=hb;exact aH.le (dl (DV.g ha)<|dl (DV.g hb) iR) AV.le.rfl<|aN 22 [.cell 4 54] func186 O<|cR<|mO O<|mO O<|mO O<|I<|cR<|mE 2 O<|mY (QA (⟨s0,EC,t0,ys0,λ_ _ _ h=>h,e0,k0⟩:I8 ([.v<|.bool s0,lr K EC]++[.v<|.bool t0,lr K ys0]) K n d) (⟨s1,xs1,t1,ys1,λ_ _ _ h=>h,e1,k1⟩:I8 ([.v<|.bool s1,lr L xs1]++[.v<|.bool t1,lr L ys1]) L m e) (M:=((max K 2+1)+(max L 2+1)))) O<|mE 4 O<|mO O<|mO O<|mO O<|mZ O<|mZ O<|mZ O<|I<|au<|cDk 7<|oE 2 O<|oC (abl (jT ((max K 2+1)+(max L 2+1))<|Rat.num (fU n d)*(Rat.den (fU m e):Int)) (jT ((max K 2+1)+(max L 2+1))<|Rat.num (fU m e)*(Rat.den (fU n d):Int)) (M:=(max ((max K 2+1)+(max L 2+1)) ((max K 2+1)+(max L 2+1))+1))) O<|oV O<|oC aOf O<|oC (Ll (jT ((max K 2+1)+(max L 2+1))<|(Rat.den (fU n d):Int)*(Rat.den (fU m e):Int)) (jT 2 2) (M:=(((max K 2+1)+(max L 2+1))+2))) O<|oC (UK (jT (max ((max K 2+1)+(max L 2+1)) ((max K 2+1)+(max L 2+1))+1)<|(Rat.num (fU n d)*(Rat.den (fU m e):Int))+(Rat.num (fU m e)*(Rat.den (fU n d):Int))) (jT (((max K 2+1)+(max L 2+1))+2)<|((Rat.den (fU n d):Int)*(Rat.den (fU m e):Int))*2) (ahU (af8 (fU n d)<|fU m e) φ) (M:=(max (max (max ((max K 2+1)+(max L 2+1)) ((max K 2+1)+(max L 2+1))+1)<|((max K 2+1)+(max L 2+1))+2) 1+1))) O<|.nil<|mZ O<|I<|aQ<|rQ O<|Nb Z<|aj9 (fU n d)<|fU m e
def aiQ{sz:Nat}{el:Nat->Nat->Lf}(h0:m=0)(hN:N=m+n):AO.le (.a e sz (m+n)<|fA m el el2)<|.a e sz N el2:=by subst h0;subst hN;exact jY λi hi j hj B w v hv=>hv
def IJ:AV.le (.d<|.o<|.v<|.slice none 0 0)<|.d<|.o<|bP K 0 c:=eY (by
 rintro B w v ⟨rfl,_⟩;exact aFP)
def AO.le.trans{a b c:AO}(h:AO.le a b)(k:AO.le b c):AO.le a c:=λB w0 w v hv=>k _ _ _ _<|h _ _ _ _ hv
def AO.of_eq{a b:AO}(h:a=b):AO.le a b:=λ_ _ _ _ hv=>h▸hv
def FB(hz:∀i,n<=i->c i=0)(hn:n<=20:=by omega)(hK:K<=100000000:=by omega):aH prog 247 [.o<|.a 1 1<|λi' j'=>(([.a 2 n<|aX K c])[i'*1+j']?).getD<|.v undef]<|.d<|.j<|zn K ((dM c n:Nat):Int):=by refine aN 18 [.cell 2 35] func247 O<|cR<|mO O<|I<|cR<|mW O<|I<|au<|au<|AW.wk (nS 3 3 35 2 (λ_ _=>.v undef) O O)<|aA<|mE 3 O<|I<|aK<|dL (ι:=Nat) (λi=>⟨18,[(6,.d<|.o<|.a 1 1<|λi' j'=>(([.a 2 n<|aX K c])[i'*1+j']?).getD<|.v undef),(7,dI 1),(8,dI (i:Int)),(2,.p 2 0),(3,.q 3)],[(2,.b 35<|[.v<|.bool false,.v aAy]),(3,.a 35 2 (i*n)<|aX K c)]⟩) (λi=>i<=1) (λi=>1-i) 0 (abJ _) (wkv [] [1] trivial ⟨eG O<|AO.le.trans iD<|AO.of_eq<|by rw [Nat.zero_mul],Pe⟩ O O) ?_;rintro i hi;refine cR<|mW O<|I<|au<|bI O (λhc1=>?_) (λhc1=>?_);refine aO<|tN<|au<|aK<|au ?_;obtain rfl:i=0:=aCb;exact aA<|mE 3 O<|I<|aA<|mE 2 O<|mA2 aj (id:=3) O O O (by show((0*n)+n)*32<=140737488355328;omega) Z O O O O O O O O O O O O<|mW O<|ak<|bN<|tN<|aA<|mE 2 O<|ak<|⟨(0+1),by omega,by omega,wkv [2] [1] aCk ⟨eG O (aiQ Z Z),Pe⟩ O O⟩;refine bZ<|tE<|tE<|bE<|tN<|au ?_;obtain rfl:i=1:=aCi;exact AW.wk (iY 3 O)<|fQ 3 (.d<|.o<|.a 2 n<|aX K c) O (eY<|by rw [Nat.one_mul];exact λ_ _ _ h=>h)<|aA<|mW O<|mY (ain<|iQ (c:=c) hz) O<|mZ O<|I<|aQ<|rQ O aCo
def UG{a:Lf}{b:List Lf}{y:Int}(ha:kW a K n c)(hb:Bg b L y)(hy:y≠0)(hd:∀i,i<n->y∣c i)(hM:max K 1+1<=M:=by first|decide|omega)(hn:n<=1000:=by omega)(Ej:M<=100000000:=by first|decide|omega)(hL:L<=100000000:=by first|decide|omega):aH prog 248 [.o a,.j b]<|.d<|.o<|bP M (dg (l7 c y) n)<|l7 c y:=by have⟨⟨fa,ha,ea⟩,za⟩:=ha;have⟨s,xs,hb,hy0⟩:=hb;refine aH.le (dl (DV.l ha) aER) AV.le.rfl<|aN 30 [.tmp 4] func248 O<|cR<|mO O<|mW O<|I<|cR<|mE 2 O<|mN aj (.a 35 2 n<|λ_ j=>.v<|(([Value.bool false,Value.slice none 0 0]:List Value)[j]?).getD undef) aCE O O<|mW O<|I<|au<|cR<|mE 3 O<|I<|aK<|dL (ι:=Nat) (λi=>⟨30,[(3,.p 3 0),(11,.d<|.o<|.a 2 n<|o7 K fa),(12,dI (n:Int)),(13,dI (i:Int)),(5,.q 10)],[(3,.b 35<|[.v<|.bool s,lr L xs]),(10,.a 35 2 n<|aX M<|upd (l7 c y) i)]⟩) (λi=>i<=n) (λi=>n-i) 0 (abJ _) (wkv [] [1] trivial aDm O O) ?_;rintro i hi;refine cR<|mW O<|I<|au<|bI O (λhc1=>?_) (λhc1=>?_);refine aO<|tN<|au<|aK<|au ?_;have hin:i<n:=aCb;refine aA<|mW O<|mV aj _ (xjh O O O O O O Z)<|aoW;refine bZ<|tE<|tE<|bE<|tN<|au ?_;have hie:n=i:=aCi;exact ard
def adD{a:Lf}(ha:kW a K n c)(zc:bK c)(hn:n<=20)(h0:lg c=0)(hK:K<=90000000):aH prog 174 [.o a] (.dY [.j<|zn 0 0,.o<|bP 0 0<|λ_=>0]):=by have⟨⟨fa,ha,ea⟩,za⟩:=ha;refine aH.le (dl (DV.l ha) iR) AV.le.rfl ?_;have hl:=iK za zc;exact aN 23 [.cell 2 35,.tmp 3] func174 O<|cR<|mO O<|mW O<|I<|cR<|mW O<|mY (kP (⟨⟨fa,λ_ _ _ h=>h,ea⟩,za⟩:kW (oz K n fa) K n c)) O<|mW O<|I<|au<|cR<|mE 2 O<|mbT O (by rw [hl,h0];rfl)<|I<|cT O<|cR<|mW O<|mZ O<|mW O<|I<|aQ<|tR<|rQ O (jK<|dl (DV.g λ_ _ _ h=>ND h)<|dl (λB w v h=>IJ (λ_=>none) B w v h) iR)
abbrev aBn(c:Nat->Int)(K:Nat):AV:=.d (.o (.a 2 (lg c) (aX K c)))
def alH{a:Lf}(ha:kW a K n c)(zc:bK c)(hn:n<=20)(h0:lg c≠0)(hK:K<=90000000):aH prog 174 [.o a]<|.dY [.j<|zn K<|lC c<|lg c,.o<|bP (max K 1+1) (lg c)<|CS c<|lg c]:=by have⟨⟨fa,ha,ea⟩,za⟩:=ha;refine aH.le aDT AV.le.rfl ?_;have hl:=iK za zc;refine aN 23 [.cell 2 35,.tmp 3] func174 O<|cR<|mO O<|mW O<|I<|cR<|mW O<|mY aCG O<|mW O<|I<|au<|cR<|mE 2 O<|mbF O (acz.2 λe=>h0 Z)<|I<|cFs O<|au ?_;have hip:=zc.ip;have hgp:=hip.zC h0;have hln:=dN c;have hdd:dg c (lg c)=lg c:=iK zc.lg zc;refine fQ 0 (aBn c K) O (nZ (aav _) hl<|λ_ _=>rfl)<|aA<|mW O<|mB aj _ O<|mY (FB<|bK.lg zc) O<|mO O<|mZ O<|I<|au<|cR<|mW O<|mY (yY aDp) O<|mW O<|I<|bI O (λhneg=>?_) (λhneg=>?_);have hcs:lC c (lg c)= -((dM c (lg c):Nat):Int):=(by have h1:=abd hneg;rw [hdd] at h1;exact if_pos h1);exact aA<|mW O<|mY (UF<|jT K ((dM c (lg c):Nat):Int)) O<|mZ O<|I<|au<|wB [18,17,16,15,14,4,13,12,11,9,8,7,6,5,3,2,0] [2] 4 (.b 35<|zn K<|lC c<|lg c) O O (rW (aav _) hcs.symm) O<|cDk 4<|oE 3 O<|oC (UG aDp (jT K<|lC c<|lg c) (hip.Dq h0) (λi hi=>JZ hi) (M:=(max K 1+1))) O<|.nil<|mZ O<|mW O<|I<|aQ<|rQ O aEw;have hcs:lC c (lg c)=((dM c (lg c):Nat):Int):=(by have h1:=aa1 hneg;rw [hdd] at h1;exact if_neg h1);exact aO<|tN<|au<|wB [16,15,14,4,13,12,11,9,8,7,6,5,3,2,0] [2] 4 (.b 35<|zn K<|lC c<|lg c) O O (rW (aav _) hcs.symm) O<|cDk 4<|oE 3 O<|oC (UG aDp (jT K<|lC c<|lg c) (hip.Dq h0) (λi hi=>JZ hi) (M:=(max K 1+1))) O<|.nil<|mZ O<|mW O<|I<|aQ<|rQ O aEw
def fG(hn:n=lg c)(hb:Lb KC c):AV.le (.d<|.o<|bP K n c)<|.d<|.o<|bP KC (lg c) c:=by subst hn;exact kQ hb
def afJ{t:TypeId}(h:0=z):AO.le (.b t [.v<|.bool false,.v<|.slice none 0 0])<|.b t<|zn K z:=by subst h;exact xu λB w cs h=>Hz (abJ K) B w cs<|ND h
def zT(h:lg c=0):AV.le (.d<|.o<|.v<|.slice none 0 0)<|.d<|.o<|bP K (lg c) c:=by rw [h];exact IJ
def apE:lg (λ_=>0)=0:=F5 Z 20
def dex{α:Type}{Q:α->Prop}{L:α->Lf}{l:Lf}(x:α)(hq:Q x)(h:AV.le (.d<|.o l)<|.d<|.o<|L x):∀B w v,DR B w (.o l) v->DR B w (.o<|Oo Q L) v:=λB w v hl=>⟨x,hq,h (λ_=>none) B w v hl⟩
def aht{u:Nat->Int}(z:bK u):l7 u ((dM u (lg u):Nat):Int)=Ah u 20:=by unfold Ah;rw [ZO z.lg z]
def ahA(k:Nat):((k:Int)).tmod 2=((k%2:Nat):Int):=by rfl
abbrev aA6(d:Nat->Int):=d (lg d-1)
abbrev aBR(d:Nat->Int)(i:Nat):=dI ((lg d:Int)-1+(i:Int))
abbrev aB7(i:Nat):=dI ((i:Int)-1)
def aiB{a b:Lf}(ha:kW a K n c)(hb:kW b L m d)(zc:bK c)(zd:bK d)(hk:k=lg c+1-lg d)(hn:n<=20)(hm:m<=20)(hc19:lg c<=19)(h0:lg d≠0)(zG:K+k*(L+1)<=KC)(hLC:L<=KC)(hC:KC<=90000000):aH prog 251 [.o a,.o b] (.dY [.o<|Oo (λ_=>True)<|λq=>bP KC (lg q) q,.o<|Oo (λr=>∃q,PsI c d (lg d) K L k 0 r q)<|λr=>bP KC (lg r) r,.o<|aBr k,.o<|vI 0]):=by
 have⟨⟨fa,ha,ea⟩,za⟩:=ha;have⟨⟨fb,hb,eb⟩,zb⟩:=hb;refine aH.le aDt AV.le.rfl<|aN 65 [.tmp 4,.tmp 5,.tmp 6,.tmp 7] func251 O<|cR<|mE 4 O<|I<|cR<|mW O<|mY aCG O<|mW O<|mY aDP O<|mE 2 O<|I<|au<|au<|fQ 5 (aBn c K) O (nZ (aav _) (iK za zc)<|λ_ _=>rfl)<|fQ 1 (.d<|.o<|.a 2 (lg d)<|aX L d) O (nZ (aav _) (iK zb zd)<|λ_ _=>rfl)<|AW.fact (Q8 5 O zc.lg) (λhbc=>?_);refine AW.fact (Q8 1 O zd.lg) (λhbd=>?_);have hlc:=dN c;have hld:=dN d;have hdd:dg d (lg d)=lg d:=iK zd.lg zd;refine aA<|mE 2 O<|mbF O (acz.2 λe=>h0 Z)<|I<|cFs O<|cR<|mW O<|mY (yY<|iQ (K:=L) (c:=d)<|bK.lg zd) O<|mO O<|mZ O<|I<|au<|wB [8,20,19,18,17,16,15,14,13,12,7,6,5,4,1,0] [] 8 (.b 35<|zn L<|aA6 d) O O (rW (aav _)<|by rw [hdd]) O<|aA<|mW O<|mY wI O<|mW O<|mY wI O<|mV aj (dI<|(lg c:Int)-1-((lg d:Int)-1)) aCZ<|mV aj (dI<|(lg c:Int)-1-((lg d:Int)-1)+1) aCZ ?_;refine mV aj (dI (k:Int)) aED ?_;refine mW O<|I<|au<|cR<|mW O<|mV aj (dI<|(k:Int)-1) aCZ<|mW O<|I<|aK<|dL (ι:=Nat×Nat×(Nat->Int)×(Nat->Int)) (λ(p:Nat×Nat×(Nat->Int)×(Nat->Int))=>match p with|(j,u,r,q)=>⟨65,[(4,.d<|.o<|.a 2 (lg q)<|aX KC q),(5,.d<|.o<|.a 2 (lg r)<|aX KC r),(1,.d<|.o<|.a 2 (lg d)<|aX L d),(6,dI (k:Int)),(8,.p 8 0),(9,dI<|(j:Int)-1)],[(8,.b 35<|zn L<|aA6 d)]⟩) (λ(j,u,r,q)=>u+j=k/\PsI c d (lg d) K L u j r q) (λ(j,u,r,q)=>j) (k,0,c,(λ_=>0)) (⟨by omega,PsI.start zc hbc<|λt ht=>zc.lg t Z⟩) (wkv [0,1] [] ⟨dW O<|zT apE,dW O<|fG O<|hbc.mono Z,Pe⟩ trivial O O) ?_;rintro⟨j,u,r,q⟩⟨huj,hI⟩;show AW _ _ _ ⟨_,_,_⟩
 refine au<|au ?_;by_cases hj0:j=0
 ·subst hj0;refine aA<|mW O<|mdF O Z<|I<|cF O<|bZ<|tE<|tE<|bE<|tN<|au ?_;obtain rfl:u=k:=Z;exact aA<|mE 7 O<|I<|aQ<|rQ O<|jK<|dl (dex q trivial AV.le.rfl)<|dl (dex r ⟨q,hI⟩ AV.le.rfl)<|dl DV.same aCJ
 ·obtain⟨i,rfl⟩:∃i,j=i+1:=⟨j-1,by omega⟩;have hik:i<k:=Z;have hlr:=dN r;have hlq:=dN q;have hrd:dg r (lg r)=lg r:=iK hI.zr.lg hI.zr;have hrz:lg r<=lg d+i:=jc hI.zr λt ht=>hI.z t Z;have hN:=hI.step h0 zd.lg zd hbd Z (x:=r<|lg d-1+i) O;have hmul:=abh (L+1) (show u+1<=k by omega);have e1:=ny (iJ q<|aA6 d)<|lg q;have e2:=ny (iJ r<|aA6 d)<|lg r;have e3:=ny (bW (qY (r<|lg d-1+i) i) d)<|i+1+lg d;refine fQ 9 (dI (i:Int)) O (aJ Z)<|aA<|mW O<|mdT O Z<|I<|cT O<|aO<|tN<|au<|aK<|cR<|mO O<|I<|au<|au ?_;by_cases heq:lg r=lg d+i;refine aA<|mW O<|mY wI O<|mW O<|mY wI O<|mW O<|mV aj (aBR d i) aCZ<|mbT O (acW.2 Z)<|I<|cT O<|aA<|mW O<|mY (yY<|iQ (K:=KC) (c:=r) aD5) O<|mZ O<|I<|au<|wB [42,41,40,39,38,37,36,35,34,10,31,30,9,8,6,1,5,4] [8] 10 (.b 35<|zn KC<|r<|lg d-1+i) O O (rW (aav _)<|by rw [hrd,heq,show lg d+i-1=lg d-1+i by omega]) O<|aA<|mW O<|xIa O Z<|mN aj (.a 35 2 (i+1)<|λ_ j=>.v<|(([Value.bool false,Value.slice none 0 0]:List Value)[j]?).getD undef) aC2 O O<|mW O<|I<|au<|wB [11,45,44,43,42,41,40,39,38,37,36,35,34,10,31,30,9,8,6,1,5,4] [10,8] 45 (.a 35 2 (i+1)<|aX KC<|λ_=>0) O O aGL O<|aA<|mE 3 O<|mV aj _ (xJo O O O O O O O Z)<|mZ O<|I<|au<|wB [49,48,47,46,11,45,44,43,42,41,40,39,38,37,36,35,34,10,31,30,9,8,6,1,5,4] [10,8] 45 (.a 35 2 (i+1)<|aX KC<|qY (r<|lg d-1+i) i) O O aDC O<|AW.wk (iY 45 O)<|fQ 11 (.d<|.o<|.a 2 (i+1)<|aX KC<|qY (r<|lg d-1+i) i) O aCo<|aA<|mE 2 O<|mY aFg O<|mW O<|mY aDB O<|mW O<|I<|aA<|mE 2 O<|mY (FC (iQ (K:=KC) (c:=r) aD5) (jT L<|aA6 d) (M:=(KC+L))) O<|mE 2 O<|mY aD4 O<|mY aDi O ?_;refine mW O<|ak<|bN<|tN ?_;have hdl:=hN.br.mono aFJ;have hdq:=hN.bq.mono aFJ;exact fQ 4 (.d<|.o<|.a 2 (lg<|kT (iJ q<|aA6 d)<|qY (r<|lg d-1+i) i)<|aX KC<|kT (iJ q<|aA6 d)<|qY (r<|lg d-1+i) i) O aGe<|fQ 5 (.d<|.o<|.a 2 (lg<|lJ (iJ r<|aA6 d)<|bW (qY (r<|lg d-1+i) i) d)<|aX KC<|lJ (iJ r<|aA6 d)<|bW (qY (r<|lg d-1+i) i) d) O (fG (iK (Ir (jG<|pI aD5) aFs) hN.zr) hdl)<|aA<|mW O<|mV aj (aB7 i) aCZ<|mW O<|ak<|⟨(i,(u+1),(lJ (iJ r<|aA6 d)<|bW (qY (r<|lg d-1+i) i) d),(kT (iJ q<|aA6 d)<|qY (r<|lg d-1+i) i)),⟨by omega,hN⟩,af7 i,wkr O O⟩;refine aA<|mW O<|mY wI O<|mW O<|mY wI O<|mW O<|mV aj (aBR d i) aCZ<|mbF O (acz.2 Z)<|I<|cFs O<|au<|wB [40,39,38,37,36,35,34,10,31,30,9,8,6,1,5,4] [8] 10 (.b 35<|zn KC<|r<|lg d-1+i) O O (afJ (hI.zr.lg _ Z).symm) O<|aA<|mW O<|xIa O Z<|mN aj (.a 35 2 (i+1)<|λ_ j=>.v<|(([Value.bool false,Value.slice none 0 0]:List Value)[j]?).getD undef) aC2 O O<|mW O<|I<|au<|wB [11,45,44,43,40,39,38,37,36,35,34,10,31,30,9,8,6,1,5,4] [10,8] 45 (.a 35 2 (i+1)<|aX KC<|λ_=>0) O O aGL O<|aA<|mE 3 O<|mV aj _ (xJo O O O O O O O Z)<|mZ O<|I<|au<|wB [49,48,47,46,11,45,44,43,40,39,38,37,36,35,34,10,31,30,9,8,6,1,5,4] [10,8] 45 (.a 35 2 (i+1)<|aX KC<|qY (r<|lg d-1+i) i) O O aDC O<|AW.wk (iY 45 O)<|fQ 11 (.d<|.o<|.a 2 (i+1)<|aX KC<|qY (r<|lg d-1+i) i) O aCo<|aA<|mE 2 O<|mY aFg O<|mW O<|mY aDB O<|mW O<|I<|aA<|mE 2 O<|mY (FC (iQ (K:=KC) (c:=r) aD5) (jT L<|aA6 d) (M:=(KC+L))) O<|mE 2 O<|mY aD4 O<|mY aDi O<|mW O<|ak<|bN<|tN ?_;have hdl:=hN.br.mono aFJ;have hdq:=hN.bq.mono aFJ;exact fQ 4 (.d<|.o<|.a 2 (lg<|kT (iJ q<|aA6 d)<|qY (r<|lg d-1+i) i)<|aX KC<|kT (iJ q<|aA6 d)<|qY (r<|lg d-1+i) i) O aGe<|fQ 5 (.d<|.o<|.a 2 (lg<|lJ (iJ r<|aA6 d)<|bW (qY (r<|lg d-1+i) i) d)<|aX KC<|lJ (iJ r<|aA6 d)<|bW (qY (r<|lg d-1+i) i) d) O (fG (iK (Ir (jG<|pI aD5) aFs) hN.zr) hdl)<|aA<|mW O<|mV aj (aB7 i) aCZ<|mW O<|ak<|⟨(i,(u+1),(lJ (iJ r<|aA6 d)<|bW (qY (r<|lg d-1+i) i) d),(kT (iJ q<|aA6 d)<|qY (r<|lg d-1+i) i)),⟨by omega,hN⟩,af7 i,wkr O O⟩
def adE{a b:Lf}(ha:kW a K n c)(hb:kW b L m d)(zc:bK c)(zd:bK d)(hn:n<=20)(hm:m<=20)(hc19:lg c<=19)(h0:lg d≠0)(zG:K+(lg c+1-lg d)*(L+1)<=KC)(hLC:L<=KC:=by omega)(hC:KC<=90000000:=by omega):aH prog 176 [.o a,.o b] (.dY [.o<|Oo (xY c d KC)<|λR=>bP KC (lg R) R,.o<|vI 0]):=by have⟨⟨fa,ha,ea⟩,za⟩:=ha;have⟨⟨fb,hb,eb⟩,zb⟩:=hb;have ha':kW (oz K n fa) K n c:=⟨⟨fa,λ_ _ _ h=>h,ea⟩,za⟩;have hb':kW (oz L m fb) L m d:=⟨⟨fb,λ_ _ _ h=>h,eb⟩,zb⟩;refine aH.le aDt AV.le.rfl ?_;obtain⟨k,hk⟩:∃k,k=lg c+1-lg d:=⟨_,O⟩;have hlc:=dN c;have hld:=dN d;have hdd:dg d m=lg d:=iK zb zd;have hKk:K+k*(L+1)<=KC:=(by rw [hk];exact zG);refine aN 39 [.tmp 4,.tmp 5] func176 O<|cR<|mE 2 O<|I<|cR<|mE 2 O<|mY (aiB (KC:=KC) ha' hb' zc zd hk hn hm hc19 h0 hKk hLC hC) O<|mE 9 O<|I<|au<|cR<|mE 2 O<|I<|cFs O<|au<|au<|wK [8,7,1,0] [] O O<|UR (Qx:=(λr=>∃q,PsI c d (lg d) K L k 0 r q)) 7 O (λr hr=>?_);have⟨q,hI⟩:=hr;have hlr:=dN r;have hbr:=hI.br.mono hKk;by_cases hk1:k%2=1;by_cases hl1:d (lg d-1)<0;refine aA<|mW O<|mV aj (dI ((k%2:Nat):Int)) (fK<|ahA k)<|mbT O (acW.2 Z)<|mE 2 O<|mY aFx O<|mW O<|jL 27 (.d<|.o<|.v<|.bool true) O (gG<|ac3<|by rw [hdd];exact hl1)<|mW O<|I<|cT O<|aA<|mW O<|mY (adA<|iQ (c:=r) aD5) O<|mW O<|I<|au<|au ?_;have zu:=KW hI.zr;have hbu:=hbr.neg;refine fQ 7 (.d<|.o<|.a 2 (lg<|jX r)<|aX KC<|jX r) O (fG (iK (XP aD5) zu) hbu) ?_;have ZP:xY c d KC<|Ah (jX r) 20:=TD hI zd O h0 hKk (Or.inl ⟨hk1,hl1,λ_=>rfl⟩);have hlu:=dN<|jX r;by_cases hu0:lg (jX r)=0;refine aA<|mE 2 O<|mbT O (by rw [hu0];rfl)<|I<|cT O<|cR<|mE 2 O<|I<|aQ<|tR ?_;have hz0:lg (Ah (jX r) 20)=0:=(iM ZP.z).2 λi=>aDL;exact rQ O<|jK<|dl (dex (Ah (jX r) 20) ZP<|zT hz0) aCJ;refine aA<|mE 2 O<|mbF O (acz.2 λe=>hu0 Z)<|I<|cFs O<|au ?_;have hgp:=zu.ip.zC hu0;have e2:=ny (l7 (jX r) ((dM (jX r) (lg<|jX r):Nat):Int))<|lg<|jX r;refine aA<|mE 2 O<|mB aj _ O<|mY (FB<|bK.lg zu) O<|mY (UG (iQ (c:=(jX r))<|bK.lg zu) (jT KC ((dM (jX r) (lg<|jX r):Nat):Int)) Z (λi hi=>zB hi) (M:=(max KC 1+1))) O<|mE 2 O<|I<|aQ ?_;have hfd:=aht zu;exact rQ O (jK<|dl (dex (Ah (jX r) 20) ZP<|by rw [hfd];exact fG (by rw [<-hfd];exact iK (Ef<|bK.lg zu)<|Hu zu) ZP.b) aCJ);refine aA<|mW O<|mV aj (dI ((k%2:Nat):Int)) (fK<|ahA k)<|mbT O (acW.2 Z)<|mE 2 O<|mY aFx O<|mW O<|jL 27 (.d<|.o<|.v<|.bool false) O (gG<|acS<|by rw [hdd];exact hl1)<|mW O<|I<|cFs O<|au<|au ?_;have zu:=hI.zr;have hbu:=hbr;have ZP:xY c d KC<|Ah r 20:=TD hI zd O h0 hKk (Or.inr ⟨λe=>hl1 e.2,λ_=>rfl⟩);have hlu:=dN r;by_cases hu0:lg r=0;refine aA<|mE 2 O<|mbT O (by rw [hu0];rfl)<|I<|cT O<|cR<|mE 2 O<|I<|aQ<|tR ?_;have hz0:lg (Ah r 20)=0:=(iM ZP.z).2 λi=>aDL;exact axV;refine aA<|mE 2 O<|mbF O (acz.2 λe=>hu0 Z)<|I<|cFs O<|au ?_;have hgp:=zu.ip.zC hu0;have e2:=ny (l7 r ((dM r (lg r):Nat):Int))<|lg r;refine aA<|mE 2 O<|mB aj _ O<|mY (FB aD5) O<|mY (UG (iQ (c:=r) aD5) (jT KC ((dM r (lg r):Nat):Int)) Z (λi hi=>zB hi) (M:=(max KC 1+1))) O<|mE 2 O<|I<|aQ<|arD;refine aA<|mW O<|mV aj (dI ((k%2:Nat):Int)) (fK<|ahA k)<|mbF O (acz.2 Z)<|mW O<|mG O O<|mG O O<|mG O O<|mW O<|I<|cFs O<|au<|au ?_;have zu:=hI.zr;have hbu:=hbr;have ZP:xY c d KC<|Ah r 20:=TD hI zd O h0 hKk (Or.inr ⟨λe=>hk1 e.1,λ_=>rfl⟩);have hlu:=dN r;by_cases hu0:lg r=0;refine aA<|mE 2 O<|mbT O (by rw [hu0];rfl)<|I<|cT O<|cR<|mE 2 O<|I<|aQ<|tR ?_;have hz0:lg (Ah r 20)=0:=(iM ZP.z).2 λi=>aDL;exact axV;refine aA<|mE 2 O<|mbF O (acz.2 λe=>hu0 Z)<|I<|cFs O<|au ?_;have hgp:=zu.ip.zC hu0;have e2:=ny (l7 r ((dM r (lg r):Nat):Int))<|lg r;refine aA<|mE 2 O<|mB aj _ O<|mY (FB aD5) O<|mY (UG (iQ (c:=r) aD5) (jT KC ((dM r (lg r):Nat):Int)) Z (λi hi=>zB hi) (M:=(max KC 1+1))) O<|mE 2 O<|I<|aQ<|arD
def aW(c:Nat->Int):Nat->Int:=CS c<|lg c
def jH(z:bK c):bK<|aW c:=Hu z
def gZ(z:bK c):lg (aW c)=lg c:=by have h:=z.ip.CS;exact(h.uniq<|jH z)
def Lb.CS(h:Lb K c):Lb K<|aW c:=h.l7
def BA{a:Lf}(ha:kW a K n c)(zc:bK c)(hn:n<=20:=by omega)(hK:K<=90000000:=by omega):aH prog 178 [.o a]<|.d<|.o<|bP K (lg<|aW c)<|aW c:=by have⟨⟨fa,ha,ea⟩,za⟩:=ha;refine aH.le aDT AV.le.rfl ?_;have ha':kW (oz K n fa) K n c:=⟨⟨fa,λ_ _ _ h=>h,ea⟩,za⟩;refine aN 11 [.tmp 2] func178 O<|AW.fact (p:=Lb K c) (λB0 w0 a w ⟨ρ,hc,hn',hdf,dW⟩=>let ⟨v,_,hv⟩:=dW 0 _ O;MW ha' hv) (λhb=>?_);by_cases h0:lg c=0;exact cR<|mW O<|I<|cR<|mW O<|mY (adD ha' zc hn h0 hK) O<|mE 3 O<|mO O<|mZ O<|mW O<|I<|cR<|mE 2 O<|I<|aQ<|rQ O (by rw [show lg (aW c)=0 from(gZ zc).trans h0];exact nZ (abJ _) O<|λi hi=>absurd hi<|acH _);exact cR<|mW O<|I<|cR<|mW O<|mY (alH ha' zc hn h0 hK) O<|mE 3 O<|mO O<|mZ O<|mW O<|I<|cR<|mE 2 O<|I<|aQ<|rQ O<|fG (gZ zc).symm hb.CS
def Lb.pos(h:Lb K c)(hi:c i≠0):1<=K:=by have h1:=h i;grind
def Qi(z:bK c):∃s s':Rat,(∀x,FF c x=s*FF (aW c) x)/\∀x,FF (aW c) x=s'*FF c x:=by have⟨s,s',h1,h2⟩:=ach z.ip;have e1:pf (CS c<|lg c) (lg c)=FF (aW c):=Ba z.ip.CS.z<|jH z;refine⟨s,s',λx=>?_,λx=>?_⟩;have:=h1 x;rw [e1,jU z] at this;omega;have:=h2 x;rw [e1,jU z] at this;omega
def rC(z:bK c)(h0:lg c≠0):∃s:Rat,s≠0/\∀x,FF c x=s*FF (aW c) x:=by refine⟨(lC c (lg c):Rat),Jz<|z.ip.Dq h0,λx=>?_⟩;have h:=Tf z.lg x;rw [show pf (CS c<|lg c) (lg c)=FF (aW c) from Ba z.ip.CS.z<|jH z,jU z] at h;exact h
def wu(z:bK c)(h0:lg c≠0):Pm (lg<|aW c)<|aW c:=by rw [gZ z];exact z.ip.pm h0
def oO{g:Nat->Int}(zc:bK c)(zg:bK g)(h0:lg c≠0)(h:Dv (FF g)<|FF c):lg g≠0/\lg g<=lg c:=by have hg:lg g≠0:=(by intro e;have⟨x,hx⟩:=uz zc h0;have⟨q,_,hq⟩:=h;rw [hq,(nT zg).1 e x] at hx;simp_all);have:=h.deg (xX zg hg)<|xX zc h0;omega
def F9{g:Nat->Int}(zc:bK c)(zg:bK g)(h0:lg c≠0)(h10:lg c<=10)(h:Dv (FF g)<|FF c)(pm:dM g (lg g)=1)(hb:Lb K c):Lb (21*K+3) g:=by have⟨hg,hle⟩:=oO zc zg h0 h;have⟨q,pq,hq⟩:=h;have⟨w,k,hw,hc,_⟩:=qp zc.lg zg.lg pm pq (λx=>by rw [jU zc,jU zg];exact hq x);exact as4 zc.ip h0 zg.lg hw hc hb (hb.pos<|nD h0) h10 Z
structure rD(c d:Nat->Int)(M:Nat)(g:Nat->Int):Prop where
 z:bK g
 b:Lb M g
 OH:Idl (FF c) (FF d)<|FF g
 pm:lg g≠0->Pm (lg g) g
def rD.le{g:Nat->Int}(h:rD c d M g)(zc:bK c)(h0:lg c≠0):lg g≠0/\lg g<=lg c:=oO zc h.z h0 h.OH.da
def rD.le'{g:Nat->Int}(h:rD c d M g)(zd:bK d)(h0:lg d≠0):lg g≠0/\lg g<=lg d:=oO zd h.z h0 h.OH.db
def ajn(zc:bK c)(zd:bK d)(za:bK a)(zb:bK b)(h:Oj (FF c) (FF d) (FF a)<|FF b)(hb0:lg b=0)(hc:Lb K c)(hd:Lb K d)(Vs:lg c<=10)(hd10:lg d<=10):rD c d (21*K+3)<|aW a:=by have⟨s,s',h1,h2⟩:=Qi za;have hi:Idl (FF c) (FF d)<|FF<|aW a:=(h.fin λx=>(nT zb).1 hb0 x).scale h1 h2;have zp:=jH za;have hpm:lg (aW a)≠0->Pm (lg<|aW a) (aW a):=λe=>wu za (by rw [<-gZ za];exact e);refine⟨zp,?_,hi,hpm⟩;by_cases h0:lg (aW a)=0;intro i;rw [(iM zp).1 h0 i];grind;by_cases hc0:lg c=0;by_cases hd0:lg d=0;exfalso;have⟨x,hx⟩:=uz zp h0;have⟨u,v,_,_,e⟩:=hi.cm;rw [e,(nT zc).1 hc0,(nT zd).1 hd0] at hx;grind;exact F9 zd zp hd0 hd10 hi.db (hpm h0).one hd;exact F9 zc zp hc0 Vs hi.da (hpm h0).one hc
def Qd(k:Nat):k+2<=3^(k+1):=by induction k with|zero=>decide|succ k ih=>omega
structure Grw(K N X na nb:Nat):Prop where
 h:(X+1)*3^na<=(K+1)*(2*3^N)
 o:nb<na\/X=K
def Grw.start{nb:Nat}(h:na<=N):Grw K N K na nb:=⟨by
 have h1:3^na<=2*3^N:=by
  have:=acC (n:=3) φ h;omega
 exact acM (K+1) h1,Or.inr O⟩
def Grw.step{nb nr:Nat}(h:Grw K N X na nb)(ha:na<=N)(hb:nb<=N)(hr:nr<nb):Grw K N (X+(na+1-nb)*(X+1)) nb nr:=by
 refine⟨?_,Or.inl hr⟩;have e:X+(na+1-nb)*(X+1)+1=(na+1-nb+1)*(X+1):=ψ;rw [e];by_cases h1:nb<na
 ·obtain⟨k,rfl⟩:∃k,na=nb+k+1:=⟨na-nb-1,by omega⟩;have h2:=Qd k;have h3:(nb+k+1+1-nb+1)=k+3:=Z;rw [h3];have h4:k+3<=3^(k+1):=(by rcases acT k with h0|h0;omega;obtain⟨j,rfl⟩:∃j,k=j+1:=aDh;have:=Qd j;omega);calc (k+3)*(X+1)*3^nb<=3^(k+1)*(X+1)*3^nb:=abh _<|abh _ h4
   _=(X+1)*3^(nb+k+1):=ψ
   _<=_:=h.h
 ·have hX:X=K:=(by rcases h.o with h2|h2;omega;omega);subst hX;have h2:na+1-nb+1<=2:=Z;have h3:3^nb<=3^N:=acC φ hb;calc (na+1-nb+1)*(X+1)*3^nb<=2*(X+1)*3^nb:=abh _<|abh _ h2
   _=(X+1)*(2*3^nb):=ψ
   _<=_:=acM _ Z
def Grw.bd{nb:Nat}(h:Grw K N X na nb)(hK:(K+1)*(2*3^N)<=KC):X+1<=KC:=by have h1:X+1<=(X+1)*3^na:=ac0 _ ψ;have h2:=h.h;omega
def akz(zc:bK c)(zd:bK d):Oj (FF c) (FF d) (FF<|aW c)<|FF<|aW d:=by have⟨s,s',h1,h2⟩:=Qi zc;have⟨t,t',k1,k2⟩:=Qi zd;exact Oj.scale h1 k1 h2 k2
def aiK{a b:Lf}(ha:kW a K n c)(hb:kW b K m d)(zc:bK c)(zd:bK d)(hn:n<=20)(hm:m<=20)(hN:N<=10)(Vs:lg c<=N)(hd10:lg d<=N)(zG:(K+1)*(2*3^N)<=KC)(hC:KC<=90000000):aH prog 181 [.o a,.o b] (.d<|.o<|Oo (rD c d<|21*K+3)<|λg=>bP (21*K+3) (lg g) g):=by
 have⟨⟨fa,ha,ea⟩,za⟩:=ha;have⟨⟨fb,hb,eb⟩,zb⟩:=hb;have ha':kW (oz K n fa) K n c:=⟨⟨fa,λ_ _ _ h=>h,ea⟩,za⟩;have hb':kW (oz K m fb) K m d:=⟨⟨fb,λ_ _ _ h=>h,eb⟩,zb⟩;refine aH.le aDt AV.le.rfl<|aN 24 [.tmp 4] func181 O ?_;have hK1:K+1<=KC:=acL aGx zG;refine AW.fact (p:=Lb K c) (λB0 w0 a w ⟨ρ,hc,hn',hdf,dW⟩=>let ⟨v,_,hv⟩:=dW 0 _ O;MW ha' hv) (λhbc=>?_);refine AW.fact (p:=Lb K d) (λB0 w0 a w ⟨ρ,hc,hn',hdf,dW⟩=>let ⟨v,_,hv⟩:=dW 1 _ O;MW hb' hv) (λhbd=>?_);refine cR<|mW O<|I<|cR<|mW O<|mY (BA (⟨⟨fa,λ_ _ _ h=>h,ea⟩,za⟩:kW (oz K n fa) K n c) zc) O<|mW O<|mY (BA (⟨⟨fb,λ_ _ _ h=>h,eb⟩,zb⟩:kW (oz K m fb) K m d) zd) O<|mE 2 O<|I<|au<|aK<|dL (ι:=Nat×(Nat->Int)×(Nat->Int)) (λ(X,a,b)=>⟨24,[(0,.d<|.o<|.a 2 (lg a)<|aX X a),(1,.d<|.o<|.a 2 (lg b)<|aX X b)],[]⟩) (λ(X,a,b)=>bK a/\bK b/\Oj (FF c) (FF d) (FF a) (FF b)/\Lb X a/\Lb X b/\lg a<=N/\lg b<=N/\Grw K N X (lg a) (lg b)) (λ(X,a,b)=>lg b) (K,(aW c),(aW d)) (⟨jH zc,jH zd,akz zc zd,hbc.CS,hbd.CS,by rw [gZ zc];exact Vs,by rw [gZ zd];exact hd10,.start<|by rw [gZ zc];exact Vs⟩) aDU ?_;rintro⟨X,a,b⟩⟨za,zb,bJ,hba,hbb,atJ,aoN,hG⟩;show AW _ _ _ ⟨_,_,_⟩
 refine au<|au ?_;have hXK:=hG.bd zG;by_cases hb0:lg b=0
 ·refine aA<|mE 2 O<|mdF O Z<|I<|cF O<|bZ<|tE<|tE<|bE<|tN<|au ?_;have hgf:=ajn zc zd za zb bJ hb0 hbc hbd Z Z;exact aA<|mW O<|mY (BA (iQ (K:=X) (c:=a)<|bK.lg za) za) O<|mW O<|I<|aQ<|rQ O (eY<|λB w v hv=>dex (L:=λg=>bP (21*K+3) (lg g) g) (aW a) hgf (fG O hgf.b) B w v hv)
 ·refine aA<|mE 2 O<|mdT O Z<|I<|cT O<|aO<|tN<|aK<|au ?_;have hg1:lg b-1<lg b:=Z;have hN1:=(hG.step atJ aoN hg1).bd zG;refine aA<|mE 2 O<|mY (adE (KC:=X+(lg a+1-lg b)*(X+1)) (iQ (K:=X) (c:=a)<|bK.lg za) (iQ (K:=X) (c:=b)<|bK.lg zb) za zb Z Z Z hb0<|aav _) O<|mE 5 O<|I<|UR (Qx:=(xY a b<|X+(lg a+1-lg b)*(X+1))) (L:=(λR=>bP (X+(lg a+1-lg b)*(X+1)) (lg R) R)) 5 O (λR hR=>?_);have hN:=hG.step atJ aoN hR.lt;exact aA<|mE 4 O<|ak<|bN<|⟨((X+(lg a+1-lg b)*(X+1)),b,R),⟨zb,hR.z,bJ.trans hR.idp,hbb.mono<|alM _ _,hR.b,aoN,by have:=hR.lt;omega,hN⟩,hR.lt,wk O ⟨dW O (kQ (hbb.mono (alM _ _))),hs O,Pe⟩ trivial O⟩
def trn(w:Nat->Int)(j:Nat):Nat->Int:=λt=>if t<j then w t else 0
def YE(w:Nat->Int)(j:Nat):Nat->Int:=λt=>if t<j then 0 else w t
def am9:∀t,j<=t->trn w j t=0:=λt ht=>if_neg Z
def av1(z:bK w)(j:Nat):bK<|trn w j:=λt ht=>by unfold trn;split;exact z t ht;rfl
def ak7(h:∀t,k<=t->w t=0):trn w k=w:=funext λt=>by
 unfold trn;simp_all
def ahC(i:Nat):trn w (i+1)=kT (trn w i) (qY (w i) i):=funext λt=>by
 show(if t<i+1 then w t else 0)=(if t<i then w t else 0)+(if t=i then w i else 0)
 grind
def iT(w d:Nat->Int)(j:Nat):Nat->Int:=bW (trn w j) d
def Gh(w d:Nat->Int)(i:Nat)(t:Nat):iT w d (i+1) t=iT w d i t+bW (qY (w i) i) d t:=by unfold iT;rw [ahC,Dt,aep];show bW d (trn w i) t+bW d (qY (w i) i) t=_;rw [Dt d<|trn w i,Dt d<|qY (w i) i]
def ZF{nb:Nat}(hd:∀t,nb<=t->d t=0)(h0:nb≠0):∀t,nb+j<=t+1->iT w d j t=0:=by induction j with|zero=>intro t _;exact wV (λi=>am9 i<|abJ _) t|succ i ih=>intro t ht;rw [Gh,ih t Z,BJ];grind
def ZE{nb:Nat}(hd:∀t,nb<=t->d t=0)(h0:nb≠0):iT w d (i+1) (nb-1+i)=w i*d (nb-1):=by rw [Gh,ZF hd h0 _ Z,BJ,if_pos Z,show nb-1+i-i=nb-1 by omega,Int.zero_add]
def MF(i:Nat):lJ (iT w d<|i+1) (bW (qY (w i) i) d)=iT w d i:=funext λt=>by
 show iT w d (i+1) t-bW (qY (w i) i) d t=_
 rw [Gh];omega
def Vd(h:w i=0):iT w d (i+1)=iT w d i:=funext λt=>by
 rw [Gh,BJ,h];omega
def ZC{nb:Nat}(hd:∀t,nb<=t->d t=0)(h0:nb≠0)(hj:nb+j<=21):bK<|iT w d j:=λt ht=>ZF hd h0 t Z
def ai1(za:bK a)(zb:bK b)(ha:Lb K a)(hb:Lb L b):Lb (K+L+1)<|bW a b:=by intro j;by_cases hj:40<=j;rw [gJ za zb j Z];grind;unfold bW;rw [QW];have h1:=TU (a:=λi=>if i<=j then a i*b (j-i) else 0) (H:=((dF^(K+L):Nat):Int)) (n:=j+1) λi _=>(by show -((dF^(K+L):Nat):Int)<=(if i<=j then a i*b (j-i) else 0)/\(if i<=j then a i*b (j-i) else 0)<=((dF^(K+L):Nat):Int);have h2:=X6 (ha i)<|hb<|j-i;omega);have h3:(j+1)*dF^(K+L)<=40*dF^(K+L):=abh _ Z;grind
def aqO(h:Lb K w)(j:Nat):Lb K<|trn w j:=λt=>by
 unfold trn;split;exact h t;grind
def aor(zw:bK w)(zd:bK d)(hw:Lb K w)(hd:Lb L d)(j:Nat):Lb (K+L+1)<|iT w d j:=ai1 (av1 zw j) zd (aqO hw j) hd
def aos(zd:bK d)(h0:lg d≠0)(hi:lg d+(i+1)<=21)(hw:w i≠0):lg (iT w d<|i+1)=lg d+i:=by have z:=ZC (w:=w) zd.lg h0 hi;have h1:lg (iT w d<|i+1)<=lg d+i:=jc z λt ht=>ZF zd.lg h0 t Z;have h2:iT w d (i+1) (lg d-1+i)≠0:=(by rw [ZE zd.lg h0];exact ahU hw<|nD h0);by_cases h3:lg (iT w d<|i+1)<=lg d-1+i;exact absurd (z.lg _ h3) h2;omega
def CU(zw:bK w)(zd:bK d)(zc:bK c)(h:∀i,bW w d i=c i)(h0:lg d≠0):lg w=lg c+1-lg d/\(lg w≠0->lg c≠0):=by obtain rfl:bW w d=c:=funext h;by_cases hw:lg w=0;have e:∀i,bW w d i=0:=λi=>wV ((iM zw).1 hw) i;have:=(iM zc).2 e;omega;have e:=Zq hw h0 zw.lg zd.lg (nD hw) (nD h0)<|gJ zw.lg zd.lg;have e2:dg (bW w d) (lg w+lg d)=lg (bW w d):=iK (gJ zw.lg zd.lg) zc;omega
def AV.of_eq{a b:AV}(h:a=b):AV.le a b:=λ_ _ _ _ hv=>h▸hv
def AV.le.trans{a b c:AV}(h:AV.le a b)(k:AV.le b c):AV.le a c:=λ_ _ _ _ hv=>k _ _ _ _<|h _ _ _ _ hv
def aqQ(w:Nat->Int)(i:Nat):w i=YE w i i:=(if_neg<|Nat.lt_irrefl i).symm
def ahG{p:Nat}(h:p≠i):YE w (i+1) p=YE w i p:=by unfold YE;omega
def ahH(h:w i=0):YE w (i+1)=YE w i:=funext λp=>by
 by_cases hp:p=i
 ·subst hp;unfold YE;omega
 ·exact ahG hp
def awO(w:Nat->Int):YE w 0=w:=funext λp=>if_neg<|acH _
def aiw{a b:Lf}{Kw:Nat}{q:Nat->Int}(ha:kW a K n c)(hb:kW b L m d)(zc:bK c)(zd:bK d)(hn:n<=20)(hm:m<=20)(hc19:lg c<=19)(h0:lg d≠0)(zq:bK q)(bq:Lb Kw q)(hq:∀i,bW q d i=c i)(zG:Kw+L+1<=KC)(hK:K<=KC)(hC:KC<=90000000):aH prog 253 [.o a,.o b]<|.dY [.o<|bP Kw (lg q) q,.o<|vI 0]:=by have⟨⟨fa,ha,ea⟩,za⟩:=ha;have⟨⟨fb,hb,eb⟩,zb⟩:=hb;refine aH.le aDt AV.le.rfl<|aN 71 [.tmp 4,.tmp 5] func253 O<|cR<|mE 2 O<|I<|cR<|mW O<|mY aCG O<|mW O<|mY aDP O<|mE 2 O<|I<|au<|au<|fQ 0 (aBn c K) O (nZ (aav _) (iK za zc)<|λ_ _=>rfl)<|fQ 1 (.d<|.o<|.a 2 (lg d)<|aX L d) O (nZ (aav _) (iK zb zd)<|λ_ _=>rfl)<|AW.fact (Q8 0 O zc.lg) (λhbc=>?_);refine AW.fact (Q8 1 O zd.lg) (λhbd=>?_);have hlc:=dN c;have hld:=dN d;have hdd:dg d (lg d)=lg d:=iK zd.lg zd;have⟨hlq,hq0⟩:=CU zq zd zc hq h0;have hce:c=iT q d (lg q):=(by unfold iT;rw [ak7 zq.lg];exact(funext hq).symm);refine aA<|mE 2 O<|mbF O (acz.2 λe=>h0 Z)<|I<|cFs O<|cR<|mE 4 O<|mV aj (dI<|(lg c:Int)-(lg d:Int)) aCZ<|mV aj (dI<|(lg c:Int)-(lg d:Int)+1) aCZ<|mV aj (dI ((lg q:Nat):Int)) aED ?_;refine mN aj (.a 35 2 (lg q)<|λ_ j=>.v<|(([Value.bool false,Value.slice none 0 0]:List Value)[j]?).getD undef) (mkO (zl:=((lg q:Nat):Int)) (zc:=((lg q:Nat):Int)) (bts:=32) O O O O O Z Z O O O Z Z O) O O<|mW O<|I<|au<|cR<|mE 2 O<|mV aj (dI<|(lg q:Int)-1) aCZ<|mW O<|I<|aK<|dL (ι:=Nat) (λj=>⟨71,[(0,.d<|.o<|.a 2 (lg<|iT q d j)<|aX KC<|iT q d j),(1,.d<|.o<|.a 2 (lg d)<|aX L d),(6,.q 25),(7,dI<|(j:Int)-1)],[(25,.a 35 2 (lg q)<|aX KC<|YE q j)]⟩) (λj=>j<=lg q) (λj=>j) (lg q) (aav _) (wkv [0] [0] ⟨dW O<|AV.le.trans (fG O<|hbc.mono hK)<|AV.of_eq<|by rw [<-hce];rfl,Pe⟩ ⟨eG O<|oN<|λi hi=>if_pos hi,Pe⟩ O O) ?_;rintro j hj;refine au<|au ?_;by_cases hj0:j=0;subst hj0;refine aA<|mW O<|mdF O Z<|I<|cF O<|bZ<|tE<|tE<|bE<|tN<|au<|au ?_;have hz0:lg (iT q d 0)=0:=(iM<|ZC zd.lg h0 Z).2 λt=>wV (λi=>am9 i<|abJ _) t;exact aA<|mE 2 O<|mdF O Z<|I<|cFs O<|au<|AW.wk (iY 25 O)<|fQ 6 (.d<|.o<|.a 2 (lg q)<|aX KC q) O (AV.of_eq<|by rw [awO];rfl)<|aA<|mW O<|mY (kP<|iQ (c:=q) zq.lg) O<|mE 2 O<|I<|aQ<|rQ O<|jK<|dl (yx<|fG (iK zq.lg zq) bq) aCJ;obtain⟨i,rfl⟩:∃i,j=i+1:=⟨j-1,by omega⟩;have hiq:i<lg q:=Z;have hcc:=hq0 Z;have zj:=ZC (w:=q) (j:=i+1) zd.lg h0 Z;have zi:=ZC (w:=q) (j:=i) zd.lg h0 Z;have hlj:=dN<|iT q d<|i+1;have hjj:dg (iT q d<|i+1) (lg<|iT q d<|i+1)=lg (iT q d<|i+1):=iK zj.lg zj;have bi:=(aor zq zd bq hbd i).mono zG;have e3:=ny (bW (qY (q i) i) d)<|i+1+lg d;refine fQ 7 (dI (i:Int)) O (aJ Z)<|aA<|mW O<|mdT O Z<|I<|cT O<|aO<|tN<|au<|aK<|au<|au ?_;by_cases hqi:q i=0;have hlz:lg (iT q d<|i+1)<=lg d-1+i:=(by rw [Vd hqi];exact jc zi λt ht=>ZF zd.lg h0 t Z);exact aA<|mW O<|mY wI O<|mW O<|mY wI O<|mW O<|mV aj (aBR d i) aCZ<|mdT O Z<|I<|cT O<|bZ<|tE<|bE<|tN<|fQ 0 (.d<|.o<|.a 2 (lg<|iT q d i)<|aX KC<|iT q d i) O (AV.of_eq<|by rw [Vd hqi])<|wB [39,38,37,36,35,34,33,30,29,7,6,1,0] [] 25 (.a 35 2 (lg q)<|aX KC<|YE q i) O O (AO.of_eq<|by rw [ahH hqi]) O<|aA<|mW O<|mV aj (aB7 i) aCZ<|mW O<|ak<|⟨i,by omega,by omega,wkr O O⟩;have hlz:=aos (w:=q) (i:=i) zd h0 Z hqi;have htop:iT q d (i+1) (lg (iT q d<|i+1)-1)=q i*d (lg d-1):=(by rw [hlz,show lg d+i-1=lg d-1+i by omega];exact ZE zd.lg h0);refine aA<|mW O<|mY wI O<|mW O<|mY wI O<|mW O<|mV aj (aBR d i) aCZ<|mdF O Z<|I<|cFs O<|cR<|mW O<|mY (yY<|iQ (c:=(iT q d<|i+1))<|bK.lg zj) O<|mW O<|mY (yY aHc) O<|mY (vK (jT KC<|(iT q d<|i+1)<|dg (iT q d<|i+1) (lg<|iT q d<|i+1)-1) (jT L<|d<|dg d (lg d)-1) (by rw [hdd];exact nD h0) (by rw [hdd,hjj,htop];exact⟨q i,Int.mul_comm _ _⟩) (M:=(max KC 1+1))) O<|mE 3 O<|mO O<|mZ O<|mW O<|I<|au<|au<|wB [9,8,47,46,40,45,44,43,42,41,39,38,37,36,35,34,33,30,29,7,6,1,0] [25] 8 (.b 35<|zn KC<|q i) O O (xu<|λB w cs hl=>Oh (bq.mono Z i) B w cs<|by rw [hdd,hjj,htop,Int.mul_ediv_cancel _<|nD h0] at hl;exact hl) O ?_;refine aA<|mE 2 O<|I<|cFs O<|cR<|mE 3 O<|mV aj _ (xJo O O O O O O O Z)<|mZ O<|I<|au<|wB [53,52,51,50,49,48,9,8,47,46,40,45,44,43,42,41,39,38,37,36,35,34,33,30,29,7,6,1,0] [8] 25 (.a 35 2 (lg q)<|aX KC<|YE q i) O O (OM (aav _) (aav _) (aqQ q i)<|λp _ hp=>ahG hp) O<|aA<|mW O<|xIa O Z<|mN aj (.a 35 2 (i+1)<|λ_ j=>.v<|(([Value.bool false,Value.slice none 0 0]:List Value)[j]?).getD undef) aC2 O O<|mW O<|I<|au<|wB [10,56,55,54,53,52,51,50,49,48,9,8,47,46,40,45,44,43,42,41,39,38,37,36,35,34,33,30,29,7,6,1,0] [8,25] 56 (.a 35 2 (i+1)<|aX KC<|λ_=>0) O O aGL O<|aA<|mE 3 O<|mV aj _ (xJo O O O O O O O Z)<|mZ O<|I<|wB [60,59,58,57,10,56,55,54,53,52,51,50,49,48,9,8,47,46,40,45,44,43,42,41,39,38,37,36,35,34,33,30,29,7,6,1,0] [8,25] 56 (.a 35 2 (i+1)<|aX KC<|qY (q i) i) O O aDC O<|AW.wk (iY 56 O)<|fQ 10 (.d<|.o<|.a 2 (i+1)<|aX KC<|qY (q i) i) O aCo<|aA<|mE 3 O<|mY (UJ (iQ (c:=(qY (q i) i)) tJ) aHc (M:=(KC+L+20001)) (D:=20)) O<|mY (YW (iQ (c:=(iT q d<|i+1))<|bK.lg zj) (iQ (c:=(bW (qY (q i) i) d)) aFs) (M:=(max KC (KC+L+20001)+1))) O<|mW O<|ak<|bN<|tN<|fQ 0 (.d<|.o<|.a 2 (lg<|iT q d i)<|aX KC<|iT q d i) O (AV.le.trans (fG (iK (Ir (bK.lg zj) aFs)<|by rw [MF];exact zi)<|by rw [MF];exact bi)<|AV.of_eq<|by rw [MF];rfl)<|aA<|mW O<|mV aj (aB7 i) aCZ<|mW O<|ak<|⟨i,by omega,by omega,wkr O O⟩
structure AZ(c:Nat->Int)(M:Nat)(f:Nat->Int):Prop where
 z:bK f
 b:Lb M f
 pm:Pm (lg f) f
 dv:Dv (FF f)<|FF c
 pw:∃(N:Nat) (h:Fn),Po h/\∀x,FF f x^N=h x*FF c x
 sq:Ja (FF f)<|FF<|bQ f
def AZ.ne{f:Nat->Int}(h:AZ c M f):lg f≠0:=h.pm.pos
def PW{g p:Nat->Int}(zg:bK g)(zp:bK p)(hg:lg g≠0)(hw:∀i,k<=i->w i=0)(hc:∀i,bW w g i=p i):bK w:=by have h1:=jG hw;by_cases h0:dg w k=0;intro i _;simp_all;intro i hi;by_cases h2:dg w k<=20;grind;exfalso;have h3:=FX h1 zg.lg h0 hg;rw [hc,zp _ Z] at h3;exact ahU (O5 h0) (nD hg) h3.symm
def Yq{g p:Nat->Int}(zw:bK w)(zg:bK g)(zp:bK p)(hc:∀i,bW w g i=p i)(pg:Pm (lg g) g)(pp:Pm (lg p) p):Pm (lg w) w:=by have hw0:lg w≠0:=(by intro e;have:∀i,p i=0:=λi=>(by rw [<-hc];exact wV ((iM zw).1 e) i);exact pp.pos<|(iM zp).2 this);refine⟨zw.ip,hw0,?_,?_⟩;have h1:dM w (lg w)∣dM p (lg p):=BP λi _=>(by rw [<-hc];refine ahV.1 (aeC λi _ _=>?_);by_cases hi:i<lg w;exact Int.dvd_trans (zB hi)<|Int.dvd_mul_right _ _;rw [zw.lg i Z,Int.zero_mul];simp_all);rw [pp.one] at h1;simp_all;have h1:=FX zw.lg zg.lg hw0 pg.pos;have h2:=Zq hw0 pg.pos zw.lg zg.lg (nD hw0) (nD pg.pos)<|gJ zw.lg zg.lg;have e:bW w g=p:=ψ;rw [e] at h1 h2;rw [iK (by rw [<-e];exact gJ zw.lg zg.lg) zp] at h2;have h3:=pp.lead;rw [h2,show lg w+lg g-1-1=lg w+lg g-2 by omega,h1] at h3;have h4:=pg.lead;rcases Int.lt_or_le 0 (w (lg w-1)) with h5|h5;omega;exfalso;have:=Int.mul_nonpos_of_nonpos_of_nonneg h5<|Int.le_of_lt h4;omega
def am6{g:Nat->Int}(zc:bK c)(h1:2<=lg c)(h10:lg c<=10)(hb:Lb K c)(hg:rD (aW c) (bQ<|aW c) M g)(zw:bK w)(hw:∀i,bW w g i=aW c i):AZ c (21*K+3) w:=by have zp:=jH zc;have hp0:lg (aW c)≠0:=(by rw [gZ zc];omega);have pp:=wu zc Z;have⟨hg0,hgl⟩:=hg.le zp hp0;have pg:=hg.pm hg0;have pw:=Yq zw hg.z zp hw pg pp;have hF:∀x,FF (aW c) x=FF w x*FF g x:=λx=>(by have e:bW w g=aW c:=ψ;have⟨hlq,_⟩:=CU zw hg.z zp hw hg0;rw [<-e];exact sG zw.lg hg.z.lg (by have hl:=gZ zc;omega) zw hg.z x);have dvp:Dv (FF w)<|FF<|aW c:=⟨FF g,dG hg.z,λx=>by grind⟩;have⟨s,hs0,hs⟩:=rC zc Z;have⟨⟨u,v,pu,pv,hm⟩,_,⟨q,pq,hq⟩⟩:=hg.OH;have hne:=uz zp hp0;have abS:=ru zp;have Xe:=dG<|fV zp;refine⟨zw,F9 zp zw hp0 (by rw [gZ zc];omega) dvp pw.one hb.CS,pw,?_,?_,⟨dG zw,dG (fV zw),ru zw,?_⟩⟩;have⟨q2,pq2,hq2⟩:=dvp;exact⟨λx=>q2 x*s,pq2.qN s,λx=>by grind⟩;have⟨N,h,ph,hh⟩:=akW (dG zp) hne abS Xe (dG zw) (dG hg.z) hF pu pv hm pq hq;exact⟨N,λx=>h x*s⁻¹,ph.qN _,λx=>(hh x).trans ψ⟩;exact akV (dG zp) hne abS Xe (dG zw) (dG hg.z) hF pu pv hm pq hq (ru zw)<|dG<|fV zw
def ahl(zc:bK c)(h1:lg c=1)(hb:Lb K c):AZ c K<|aW c:=by
 have zp:=jH zc;have hl:lg (aW c)=1:=by rw [gZ zc];omega
 have pp:=wu zc Z;have hv:∀x,FF (aW c) x=((aW c 0:Int):Rat):=λx=>by rw [<-jU zp,hl];exact CJ
 have h0:((aW c 0:Int):Rat)≠0:=Jz (by have:=nD (c:=aW c) Z;simp_all);have⟨s,hs0,hs⟩:=rC zc Z;refine⟨zp,hb.CS,pp,⟨λ_=>s,dh s,λx=>by rw [hs]⟩,⟨1,λ_=>s⁻¹,dh _,λx=>by grind⟩,⟨dG zp,dG (fV zp),ru zp,⟨λ_=>(((aW c 0:Int):Rat))⁻¹,λ_=>0,dh _,dh _,λx=>by grind⟩⟩⟩
def anP{a b:Lf}{Kw:Nat}{q:Nat->Int}(ha:kW a K n c)(hb:kW b L m d)(zc:bK c)(zd:bK d)(hn:n<=20)(hm:m<=20)(hc19:lg c<=19)(h0:lg d≠0)(zq:bK q)(bq:Lb Kw q)(hq:∀i,bW q d i=c i)(zG:Kw+L+1<=KC:=by omega)(hK:K<=KC:=by omega)(hC:KC<=90000000:=by omega):aH prog 180 [.o a,.o b]<|.d<|.o<|bP Kw (lg q) q:=by have⟨⟨fa,ha,ea⟩,za⟩:=ha;have⟨⟨fb,hb,eb⟩,zb⟩:=hb;have ha':kW (oz K n fa) K n c:=⟨⟨fa,λ_ _ _ h=>h,ea⟩,za⟩;have hb':kW (oz L m fb) L m d:=⟨⟨fb,λ_ _ _ h=>h,eb⟩,zb⟩;exact aH.le aDt AV.le.rfl<|aN 14 [.tmp 4] func180 O<|cR<|mW O<|I<|cR<|mE 2 O<|mY (aiw ha' hb' zc zd hn hm hc19 h0 zq bq hq zG hK hC) O<|mE 5 O<|I<|cR<|mE 2 O<|I<|aQ<|rQ O aCo
def AZ.mono{f:Nat->Int}{M':Nat}(h:AZ c M f)(k:M<=M'):AZ c M' f:=⟨h.z,h.b.mono k,h.pm,h.dv,h.pw,h.sq⟩
def Qy{a:Lf}(ha:kW a K n c)(zc:bK c)(hn:n<=20)(hN:N<=10)(h10:lg c<=N)(h0:lg c≠0)(zG:(K+2+1)*(2*3^N)<=KC)(hK5:50*(K+3)<=KC)(hC:KC<=90000000:=by omega):aH prog 90 [.o a] (.d<|.o<|Oo (AZ c<|21*K+3)<|λf=>bP (21*K+3) (lg f) f):=by have⟨⟨fa,ha,ea⟩,za⟩:=ha;have ha':kW (oz K n fa) K n c:=⟨⟨fa,λ_ _ _ h=>h,ea⟩,za⟩;refine aH.le (dl (DV.l ha) iR) AV.le.rfl<|aN 15 [.tmp 2] func90 O<|AW.fact (p:=Lb K c) (λB0 w0 a w ⟨ρ,hc,hn',hdf,dW⟩=>let ⟨v,_,hv⟩:=dW 0 _ O;MW ha' hv) (λhbc=>?_);have zp:=jH zc;have hlp:=gZ zc;refine cR<|mW O<|I<|cR<|mW O<|mY (BA (⟨⟨fa,λ_ _ _ h=>h,ea⟩,za⟩:kW (oz K n fa) K n c) zc) O<|mW O<|I<|au<|au ?_;by_cases h11:lg c=1;exact aA<|mW O<|mY wI O<|mdT O Z<|I<|cT O<|cR<|mE 2 O<|I<|aQ<|tR<|rQ O (eY<|dex (Q:=AZ c<|21*K+3) (L:=(λf=>bP (21*K+3) (lg f) f)) (aW c) ((ahl zc h11 hbc).mono Z)<|fG O<|hbc.CS.mono Z);refine aA<|mW O<|mY wI O<|mdF O Z<|I<|cFs O<|au ?_;have zp':=fV zp;have hd':lg (bQ<|aW c)<=lg (aW c):=jc zp' λi hi=>vT zp.lg i Z;have e5:=ny (bQ<|aW c)<|lg (aW c)-1;refine aA<|mE 3 O<|mY (UH (iQ (K:=K) (c:=(aW c))<|bK.lg zp) (M:=(K+2))) O<|mY (aiK (K:=K+2) (KC:=KC) (N:=N) (kW.mono (iQ (K:=K) (c:=(aW c))<|bK.lg zp) Z) (iQ (K:=(K+2)) (c:=(bQ<|aW c))<|jG<|vT<|bK.lg zp) zp zp' Z Z hN Z Z zG hC) O<|mEx (Qx:=(rD (aW c) (bQ<|aW c)<|21*(K+2)+3)) (L:=(λg=>bP (21*(K+2)+3) (lg g) g)) 13 O (λg hg=>?_);have⟨hg0,hgl⟩:=hg.le zp Z;have⟨q2,pq2,hq2⟩:=hg.OH.da;have⟨q,k,hqz,hqc,_⟩:=qp zp.lg hg.z.lg (hg.pm hg0).one pq2 (λx=>by rw [jU zp,jU hg.z];exact hq2 x);have zq:=PW hg.z zp hg0 hqz hqc;have Vu:=am6 zc Z Z hbc hg zq hqc;exact mY (anP (KC:=KC) (Kw:=21*K+3) (iQ (K:=K) (c:=(aW c))<|bK.lg zp) (iQ (K:=(21*(K+2)+3)) (c:=g)<|bK.lg hg.z) zp hg.z Z Z Z hg0 zq Vu.b hqc Z Z hC) O<|mW O<|I<|aQ<|rQ O (eY<|dex (Q:=AZ c<|21*K+3) (L:=(λf=>bP (21*K+3) (lg f) f)) q Vu AV.le.rfl)
section
variable {P:Program} {T:TypeId→Option TI} {ops:Array Oper} {Q:Qs} {o:Oper} {l:List Oper} {s:AS}
def mX(av:AV)(h:YH P s o av)(k:AL P ops Q l<|s.put o.dst av)(hg:jD ops s o=some true:=by rfl)(hd:jQ o.dst s.n=true:=by rfl):AL P ops Q (o::l) s:=by rintro B0 w0 a w ⟨ρ,hc,hn,hdf,hs⟩;have⟨v,hr,hv⟩:=h ρ (Bd ρ B0) w a (λx hx mJ hg=>cu hs hg);exact ayZ
def arV{B:BS}{w:World}{x c:Value}(h:AR ρ B w (.d<|.o<|.v x) c):c=x:=(show fP B w (.v x) c from h).1
def ajD{B:BS}{w:World}{a:Act}{x:Operand}{k:IntKind}(h:nC s x=some (k,z))(hs:∀mJ,dR s x=some mJ->AR ρ B w mJ (a.eval x)):a.eval x=.int k z:=by unfold nC at h;split at h;rename_i hx;cases h;exact arV<|hs _ hx;cases h
end
section
variable {P:Program} {T:TypeId→Option TI} {ops:Array Oper} {Q:Qs} {o:Oper} {l:List Oper} {s:AS}
def awR{x:Operand}{cs:Nat->Lf}(hop:o.op=.nilCheck x)(hx:dR s x=some (.d<|.o<|.at n cs)):YH P s o<|.d<|.o<|.at n cs:=by intro ρ B w a ho;have h:=ho x aCz _ hx;obtain⟨b,off,e1,h2⟩:fP B w (.at n cs) (a.eval x):=h;refine⟨_,?_,b,off,O,h2⟩;unfold execOp;simp_all
def mVo(hT:xZ P T)(ty id2:Nat){V3:AO}(avx:Value->AV)(h1:lk s.sl ty=some (.q id2))(h2:lk s.hp id2=some V3)(h:∀x,kE T ⟨s.n,(ty,.d<|.o<|.v x)::s.sl,(id2,.i x V3)::s.hp⟩ o.op=some (avx x)) 
  (k:∀x,AL P ops Q l<|AS.put ⟨s.n,s.sl,(id2,.i x V3)::s.hp⟩ o.dst<|avx x) (hg:jD ops s o=some true:=by rfl) (hd:jQ o.dst s.n=true:=by rfl):AL P ops Q (o::l) s:=by
 rintro B0 w0 a w ⟨ρ,hc,hn,hdf,hs⟩;have⟨x,hx,hρ,ag,nn,cap,hsl⟩:=hs ty _ h1;have hone:x.oneCell'=true:=by subst hsl;rfl
 have hc2:gq ρ B0 w0 w ((id2,.i x V3)::s.hp):=⟨hc.bel,hc.b0,λj v hj=>by
  have⟨ob,q1,q2⟩:=hc.obj j v hj
  by_cases e:id2=j
  ·subst e
   rw [h2] at q1;cases q1
   have:v=x:=by simp_all
   exact azS
  ·exact⟨ob,by rw [aY,if_neg e];omega,q2⟩,hc.dist⟩
 have hs2:gu ρ (Bd ρ B0) w ((ty,.d<|.o<|.v x)::s.sl) a:=kH hs hx ⟨O,hone⟩;have⟨v,hr,hv⟩:=zx hT (s:=⟨s.n,(ty,.d<|.o<|.v x)::s.sl,(id2,.i x V3)::s.hp⟩) hs2 hc2 ψ<|h x;exact jv aDG hr<|k x B0 w0 _ w<|kS (s:=⟨s.n,s.sl,(id2,.i x V3)::s.hp⟩) hc2 hn hdf hs hd hv
def AWl(P:Program)(c:Code)(Q:Qs)(s:AS):Prop:=∀B0 w0 a w,Ou s B0 w0 a w->∀b k cs,∃e a' w',DQ Q B0 w0 e a' w'/\Arrives P (lone (b.at a (.code c::.inLoop c::k)) cs w) b k cs e a' w'
def ayf{c:Code}(h:AWl P c Q s):AW P (.loop c) Q s:=λB0 w0 a w hd b k cs=>by
 have⟨e,a',w',hq,harr⟩:=h B0 w0 a w hd b k cs;exact azF
def asV{c:Code}(h:AW P c (thn (λs'=>AWl P c Q s') Q) s):AWl P c Q s:=by intro B0 w0 a w hd b k cs;have⟨e,a1,w1,⟨s',hq,qx⟩,harr⟩:=h B0 w0 a w hd b (.inLoop c::k) cs;cases e with|normal=>have⟨e2,a2,w2,hq2,Vq⟩:=hq B0 w0 a1 w1 qx b k cs;exact⟨e2,a2,w2,hq2,.of_steps (Steps.trans harr<|.one step_inLoop) Vq⟩|exit id=>exact⟨_,a1,w1,⟨s',hq,qx⟩,.pass (x:=.inLoop c) O ψ harr⟩|goto l=>exact⟨_,a1,w1,⟨s',hq,qx⟩,.pass (x:=.inLoop c) O ψ harr⟩|ret=>exact⟨_,a1,w1,⟨s',hq,qx⟩,.pass (x:=.inLoop c) O ψ harr⟩|panic ch=>exact⟨_,a1,w1,⟨s',hq,qx⟩,.pass (x:=.inLoop c) O ψ harr⟩|outgrown=>exact⟨_,a1,w1,⟨s',hq,qx⟩,.pass (x:=.inLoop c) O ψ harr⟩
def aob{ι:Type}{c:Code}(S:ι->AS)(aHp:ι->Prop)(μ:ι->Nat)(i0:ι)(h0:aHp i0)(hs:Wk s<|S i0)(round:∀i,aHp i->AW P c (thn (λs'=>∃i',aHp i'/\μ i'<μ i/\Wk s' (S i')) Q) (S i)):AWl P c Q s:=by intro B0 w0 a w hd b k cs;have key:∀n i a w,μ i=n->aHp i->Ou (S i) B0 w0 a w->∃e a' w',DQ Q B0 w0 e a' w'/\Arrives P (lone (b.at a (.code c::.inLoop c::k)) cs w) b k cs e a' w':=aCn;exact key _ i0 a w O h0<|hs _ _ _ _ hd
end
def gl(L:List<|Nat->Int)(i:Nat):Nat->Int:=L.getD i (λ_=>0)
def ug(K:Nat)(L:List<|Nat->Int):Nat->Nat->Lf:=λi _=>bP K (lg<|gl L i)<|gl L i
def apN(K:Nat)(L:List<|Nat->Int):Lf:=.a 1 L.length<|ug K L
def zD{L:List (Nat->Int)}(h:i<L.length):gl (L++[b]) i=gl L i:=by unfold gl;rw [List.getD_eq_getElem?_getD,List.getD_eq_getElem?_getD,List.getElem?_append_left h]
def zF{L:List (Nat->Int)}:gl (L++[b]) L.length=b:=by unfold gl;rw [List.getD_eq_getElem?_getD,List.getElem?_append_right<|Nat.le_refl _,Nat.sub_self];rfl
def Nj{L:List (Nat->Int)}(hn:n=L.length)(h2:el2 0 0=bP K (lg b) b):AO.le (.a e 1 (n+1)<|fA n (ug K L) el2)<|.a e 1 (L++[b]).length<|ug K<|L++[b]:=by subst hn;have hl:(L++[b]).length=L.length+1:=aCj;rw [hl];refine jY λi hi j hj B w v hv=>?_;unfold fA at hv;by_cases h:i<L.length;rw [show Nat.ble (i+1) L.length=true from Nat.ble_eq_true_of_le h] at hv;unfold ug at hv ⊢;rw [zD h];grind;rw [show Nat.ble (i+1) L.length=false from by rw [<-Bool.not_eq_true];exact λe=>h<|Nat.le_of_ble_eq_true e] at hv;obtain rfl:i=L.length:=Z;obtain rfl:j=0:=Z;unfold ug;rw [zF];simp_all
def afI(h2:el2 0 0=bP K (lg b) b):AO.le (.a e 1 1 el2)<|.a e 1 [b].length (ug K [b]):=jY λi hi j hj B w v hv=>by
 obtain rfl:i=0:=Z
 obtain rfl:j=0:=Z
 rw [h2] at hv;exact hv
def Stp(x y z:Nat->Int):Prop:=∃(Q:Fn) (k:Rat),Po Q/\0<k/\∀t,FF x t=Q t*FF y t-k*FF z t
def PT:List (Nat->Int)->Prop
 |x::y::z::l=>Stp x y z/\PT (y::z::l)
 |_=>True
def aaI:∀(L:List<|Nat->Int) (x y z:Nat->Int),PT (L++[x,y])->Stp x y z->PT (L++[x,y,z])
 |[],x,y,z,_,h=>⟨h,Pe⟩
 |[a],x,y,z,⟨h1,_⟩,h=>⟨h1,h,Pe⟩
 |a::b::L,x,y,z,h,k=>by
  cases L with
  |nil=>exact⟨h.1,h.2.1,k,Pe⟩
  |cons c L=>exact⟨h.1,aaI (b::c::L) x y z h.2 k⟩
def akY{x y:Nat->Int}(h:xY x y M R):Stp x y<|jX R:=by have⟨Q,κ,pQ,hκ,e⟩:=h.eq;exact⟨Q,κ,pQ,hκ,λt=>by rw [e,Xg];grind⟩
def agU:∀(l:List<|Nat->Int) (x y z:Nat->Int),PT (x::y::(l++[z]))->(∃c,c≠0/\∀t,FF z t=c)->PCh (FF x) (FF y) ((l++[z]).map FF)
 |[],x,y,z,⟨h,_⟩,hc=>⟨h,hc⟩
 |a::l,x,y,z,⟨h,h2⟩,hc=>⟨h,agU l y a z h2 hc⟩
structure YG(c:Nat->Int)(M M2:Nat)(L:List<|Nat->Int):Prop where
 sq:AZ c M<|gl L 0
 b:∀i,Lb M2<|gl L i
 z:∀i,bK<|gl L i
 len:1<=L.length
 ln:L.length<=11
 cst:L.length=1->lg (gl L 0)=1
 stm:2<=L.length->∃l,L=gl L 0::gl L 1::l/\KY (FF<|gl L 0) (FF<|gl L 1) (l.map FF)/\∃d:Rat,0<d/\∀x,FF (bQ<|gl L 0) x=d*FF (gl L 1) x
def rH{f:Nat->Int}(z:bK f)(h:lg (bQ f)=0):lg f<=1:=by have h1:=(iM<|fV z).1 h;refine jc z λi hi=>?_;obtain⟨j,rfl⟩:∃j,i=j+1:=⟨i-1,by omega⟩;have h2:=h1 j;unfold bQ at h2;rcases Int.mul_eq_zero.1 h2 with h3|h3;omega;omega
def jo(z:bK a)(h:lg a=1):∃c:Rat,c≠0/\∀t,FF a t=c:=by refine⟨((a 0:Int):Rat),Jz<|by have:=nD (c:=a) Z;simp_all,λt=>?_⟩;rw [<-jU z,h];exact CJ
structure ChI(f:Nat->Int)(K N KC X:Nat)(L0:List<|Nat->Int)(a b:Nat->Int):Prop where
 za:bK a
 zb:bK b
 ba:Lb X a
 bb:Lb X b
 gr:Grw K N X (lg a)<|lg b
 la:lg a<=N
 lb:lg b<=N
 la0:lg a≠0
 pt:PT<|L0++[a,b]
 idp:Oj (FF f) (FF<|aW<|bQ f) (FF a)<|FF b
 hd:(L0=[]/\a=f/\b=aW (bQ f))\/(L0=[f]/\a=aW (bQ f))\/∃L1,L0=f::aW (bQ f)::L1
 all:∀x∈L0,bK x/\Lb KC x
 g0:L0≠ []->lg (aW<|bQ f)≠0
 ln:L0.length+lg b<=10
def ChI.start{f:Nat->Int}(hN:N<=10)(zf:bK f)(bf:Lb K f)(bg:Lb K<|aW<|bQ f)(h10:lg f<=N)(h0:lg f≠0):ChI f K N KC K [] f<|aW<|bQ f:=by have zd:=fV zf;have h1:lg (bQ f)<=lg f:=jc zd λi hi=>vT zf.lg i Z;have h2:=gZ zd;exact⟨zf,jH zd,bf,bg,.start h10,h10,by omega,h0,trivial,Oj.refl _ _,Or.inl ψ,λx hx=>absurd hx aCY,λe=>absurd O e,by grind⟩
def ChI.step{f:Nat->Int}(h:ChI f K N KC X L0 a b)(zG:(K+1)*(2*3^N)<=KC)(hb:lg b≠0)(hR:xY a b (X+(lg a+1-lg b)*(X+1)) R):
  ChI f K N KC (X+(lg a+1-lg b)*(X+1)) (L0++[a]) b (jX R):=by have zn:=KW hR.z;have hl:lg (jX R)=lg R:=(by have h1:lg (jX R)<=lg R:=jc zn λi hi=>(by unfold jX;rw [hR.z.lg i hi];rfl);have h2:lg R<=lg (jX R):=jc hR.z λi hi=>(by have:=zn.lg i hi;unfold jX at this;omega);omega);have hlt:=hR.lt;refine⟨h.zb,zn,h.bb.mono Z,hR.b.neg,by rw [hl];exact h.gr.step h.la h.lb hlt,h.lb,by have:=h.lb;omega,hb,?_,?_,?_,?_,λ_=>?_,by have:=h.ln;grind⟩;rw [List.append_assoc];exact aaI L0 a b (jX R) h.pt<|akY hR;have⟨Q,κ,pQ,hκ,e⟩:=hR.eq;exact h.idp.trans (Oj.step (k:= -κ) pQ ψ λx=>by rw [Xg,e];grind);rcases h.hd with⟨h1,h2,h3⟩|⟨h1,h2⟩|⟨L1,h1⟩;simp_all;simp_all;simp_all;intro x hx;rcases ah3.1 hx with hx|hx;exact h.all x hx;obtain rfl:x=a:=aCj;exact⟨h.za,h.ba.mono<|by have:=h.gr.bd zG;omega⟩;rcases h.hd with⟨_,_,h3⟩|⟨h1,_⟩|⟨L1,h1⟩;simp_all;exact h.g0 aCj;exact h.g0 aCj
def ChI.fin{f:Nat->Int}(h:ChI f K N KC X L0 a b)(hs:AZ c M f)(zG:(K+1)*(2*3^N)<=KC)(hb:lg b=0):YG c M KC<|L0++[a]:=by
 have hX:=h.gr.bd zG;have hba:Lb KC a:=h.ba.mono Z;have all:∀x∈L0++[a],bK x/\Lb KC x:=(by intro x hx;rcases ah3.1 hx with hx|hx;exact h.all x hx;obtain rfl:x=a:=aCj;exact⟨h.za,hba⟩);have hall:∀i,bK (gl (L0++[a]) i)/\Lb KC (gl (L0++[a]) i):=(by intro i;unfold gl;rw [List.getD_eq_getElem?_getD];cases e:(L0++[a])[i]? with|none=>exact⟨kL,λ_=>acZ φ⟩|some x=>grind);have zd:=fV hs.z;have hlen:(L0++[a]).length=L0.length+1:=aCj;have h0:gl (L0++[a]) 0=f:=(by rcases h.hd with⟨h1,h2,h3⟩|⟨h1,h2⟩|⟨L1,h1⟩;subst h1;subst h2;rfl;subst h1;rfl;subst h1;rfl);refine⟨by simp_all,λi=>(hall i).2,λi=>(hall i).1,by omega,by have:=h.ln;omega,λe=>?_,λe=>?_⟩
 ·rw [h0];have h1:L0=[]:=ψ;rcases h.hd with⟨_,h2,h3⟩|⟨h2,_⟩|⟨L1,h2⟩;have h4:lg (bQ f)=0:=(by rw [<-gZ zd,<-h3];omega);have:=rH hs.z h4;have:=hs.ne;omega;simp_all;simp_all
 ·have hne:L0≠ []:=ψ;have hbz:=(nT h.zb).1 hb;have hd0:lg (bQ f)≠0:=(by rw [<-gZ zd];exact h.g0 hne);obtain⟨d,hd,hdg⟩:∃d:Rat,0<d/\∀x,FF (bQ f) x=d*FF (aW (bQ f)) x:=(by have hpos:0<bQ f (lg (bQ f)-1):=(by have hlf:lg (bQ f)=lg f-1:=(by have h1:lg (bQ f)<=lg f-1:=jc zd λi hi=>vT hs.z.lg i Z;have h2:bQ f (lg f-2)≠0:=(by have h3:=nD hs.ne;have h4:2<=lg f:=aEc;unfold bQ;rw [show lg f-2+1=lg f-1 by omega];exact ahU h3 Z);by_cases h3:lg (bQ f)<=lg f-2;exact absurd (zd.lg _ h3) h2;omega);have h3:=hs.pm.lead;rw [hlf];unfold bQ;have h4:2<=lg f:=Z;rw [show lg f-1-1+1=lg f-1 by omega];exact Int.mul_pos h3 Z);have hpf:=λx=>Tf zd.lg x;refine⟨(lC (bQ f) (lg<|bQ f):Rat),?_,λx=>?_⟩;have h1:=zd.ip.zC hd0;unfold lC;rw [if_neg Z];exact_mod_cast h1;have:=hpf x;rw [show pf (CS (bQ f)<|lg<|bQ f) (lg<|bQ f)=FF (aW<|bQ f) from Ba zd.ip.CS.z<|jH zd,jU zd] at this;omega);have hlast:∃k,k≠0/\∀t,FF a t=k:=by
   have⟨u,v,pu,pv,e1⟩:=h.idp.m3;have⟨u2,v2,pu2,pv2,e2⟩:=h.idp.m4;have⟨p,q,pp,pq,e3⟩:=hs.sq.cop;have hdv:Dv (FF a) (λ_=>1):=⟨λx=>p x*u x+q x*d*u2 x,(pp.mul pu).add<|(pq.qN d).mul pu2,λx=>by
    grind⟩
   have:=hdv.deg (xX h.za h.la0)<|EP (a:=1) φ;exact jo h.za (by have:=h.la0;omega)
  have hpo:∀x∈L0++[a],Po<|FF x:=λx hx=>dG (all x hx).1;rcases h.hd with⟨h1,_,_⟩|⟨h1,h2⟩|⟨L1,h1⟩
  ·simp_all
  ·subst h1;refine⟨[],by rfl,?_,d,hd,λx=>?_⟩;rw [h0,show gl ([f]++[a]) 1=a from O];refine TS (f':=FF<|bQ f) (d:=d) (λg hg=>?_) hlast (ru hs.z) hd ψ;grind;rw [h0,show gl ([f]++[a]) 1=a from O,h2];simp_all
  ·subst h1;refine⟨L1++[a],by rfl,?_,d,hd,λx=>?_⟩;rw [h0,show gl (f::aW (bQ f)::L1++[a]) 1=aW (bQ f) from O];refine TS (f':=FF<|bQ f) (d:=d) (λg hg=>?_) (agU L1 f (aW<|bQ f) a ?_ hlast) (ru hs.z) hd hdg;grind;have hpt:=h.pt;have key:∀(L:List<|Nat->Int) (x y:Nat->Int),PT (L++[x,y])->PT (L++[x]):=(by intro L;induction L with|nil=>intro x y _;trivial|cons u L ih=>(intro x y hp;match L,ih,hp with|[],_,_=>trivial|[v],ih,⟨h1,h2⟩=>exact⟨h1,Pe⟩|v::w::L,ih,⟨h1,h2⟩=>exact⟨h1,ih x y h2⟩));grind;rw [h0];exact hdg x
def aH.BM{f:FuncId}{args:List DV}{r:AV}{p:Prop}(hen:∀vs w,(callFunc f vs).run P w=.ok (.enter f vs) w)(h:∀B w vs,DY B w args vs->p)(k:p->aH P f args r):aH P f args r:=
 ⟨hen,λB w vs hB hd=>(k<|h B w vs hd).go B w vs hB hd⟩
def Ya{x:Value}{a b:AO}(h:AO.le a b):AO.le (.i x a)<|.i x b:=λB w0 w v ⟨e,hv⟩=>⟨e,h _ _ _ _ hv⟩
def anO{a:Lf}(ha:kW a K n c)(zc:bK c)(hn:n<=20)(hK:K<=90000000):aH prog 174 [.o a]<|.dY [.j<|zn K<|lC c<|lg c,.o<|bP K (lg<|aW c)<|aW c]:=by
 refine aH.BM (mM func174 O O) (p:=Lb K c) (λB w vs h=>match vs,h with|[v],⟨h1,_⟩=>MW ha h1) (λhb=>?_)
 by_cases h0:lg c=0
 ·refine aH.le aCJ (jK<|dl (yx<|kX (abJ _) ?_)<|dl (yx ?_) iR)<|adD ha zc hn h0 hK;unfold lC;rw [h0];show(0:Int)=_;split <;> rfl;rw [show lg (aW c)=0 from(gZ zc).trans h0];exact nZ (abJ _) O Z
 ·exact aH.le aCJ (jK<|dl DV.same<|dl (yx<|fG (gZ zc).symm hb.CS) iR)<|alH ha zc hn h0 hK
def ab3(z:bK R)(h:lg R<n):lg (jX R)<n:=by
 have h1:lg (jX R)<=lg R:=jc (KW z) λi hi=>by unfold jX;rw [z.lg i hi];rfl
 omega
def ab1(h:L0=[])(h2:el2 0 0=bP K (lg b) b):AO.le (.a e 1 1 el2)<|.a e 1 (L0++[b]).length<|ug K<|L0++[b]:=by subst h;exact afI h2
def Lb.y8(h:Lb K c)(z:bK c):Lb (K+1)<|bQ c:=λi=>by
 by_cases hi:20<=i
 ·rw [fV z i hi];grind
 ·have h1:=h<|i+1
  have h2:(bQ c i).natAbs=(c<|i+1).natAbs*(i+1):=by unfold bQ;rw [Int.natAbs_mul];rfl
  rw [h2,Nat.pow_succ];have h5:20<=dF:=φ
  have h3:(c<|i+1).natAbs*(i+1)<=(c<|i+1).natAbs*dF:=acM _ Z;grind
def ait{a:Lf}(ha:kW a K n c)(zc:bK c)(hn:n<=20)(hN:N<=10)(h10:lg c<=N)(h0:lg c≠0)(OC:(21*K+5+1)*(2*3^N)<=KC)(hK5:50*(K+3)<=KC)(hC:KC<=90000000:=by omega):aH prog 89 [.o a] (.dY [.o<|Oo (YG c (21*K+3) KC)<|λL=>.at 1<|λq=>(([.a 1 L.length<|ug KC L]:List Lf)[0+q]?).getD<|.v undef,.o<|vI 0]):=by
 have⟨⟨fa,ha,ea⟩,za⟩:=ha;have ha':kW (oz K n fa) K n c:=⟨⟨fa,λ_ _ _ h=>h,ea⟩,za⟩;refine aH.le (dl (DV.l ha) iR) AV.le.rfl<|aN 48 [.tmp 2,.tmp 3] func89 O<|cR<|mE 2 O<|I<|cR<|mW O<|mY (Qy (KC:=KC) ha' zc hn hN h10 h0 (acL (abh _ Z) OC) hK5 hC) O<|mW O<|I<|au<|au<|UR (Qx:=(AZ c<|21*K+3)) 4 O (λf hf=>?_);have hfn:=hf.ne;have hflc:=(oO zc hf.z h0 hf.dv).2;have bf:Lb (21*K+5) f:=hf.b.mono Z;have zd:=fV hf.z;refine aA<|mE 2 O<|mbF O (acz.2 Z)<|I<|cFs O<|au<|wK [4] [] O O ?_;obtain⟨L0,hL0⟩:∃L0:List (Nat->Int),L0=[]:=⟨_,O⟩;refine aA<|mW O<|jL 15 (.d<|.o<|.a 2 (lg f)<|aX KC f) O (kQ<|hf.b.mono Z)<|mR aj (.a 32 1 1<|λi' j'=>(([.a 2 (lg f)<|aX KC f])[i'*1+j']?).getD<|.v undef) O O O<|mVo aj 16 16 (λx'=>.d<|.j [.v x']) O O (λ_=>rfl) (λx0=>?_);refine mO O<|mW O<|I<|au<|wB [5,18,17,16,15,4] [18] 16 (.i x0<|.a 32 1 ((L0++[f]).length)<|ug KC<|L0++[f]) O O (Ya<|ab1 hL0 O) O ?_;have hdl:lg (bQ f)<=10:=(by have:=jc zd λi hi=>vT hf.z.lg i (show lg f-1<=i by omega);omega);have e5:=ny (bQ f)<|lg f-1;refine aA<|mW O<|mY (UH (iQ (c:=f)<|bK.lg hf.z) (M:=((21*K+3)+2))) O<|mY (anO (iQ (c:=(bQ f))<|jG<|vT<|bK.lg hf.z) zd Z Z) O<|mE 3 O<|mO O<|mZ O<|mW O<|I<|au<|aK ?_;have hI0:ChI f (21*K+5) N KC (21*K+5) L0 f<|aW<|bQ f:=(by rw [hL0];exact ChI.start hN hf.z bf ((hf.b.y8 hf.z).CS.mono Z) Z hfn);refine fQ 4 (.d<|.o<|.a 2 (lg f)<|aX (21*K+5) f) O (kQ bf)<|ayf<|asV ?_;refine au<|au ?_;have hXK:=hI0.gr.bd OC;have hla:=hI0.la;have hln:=hI0.ln;have hlen:(L0++[f]).length=L0.length+1:=List.length_append;have hlb:=hI0.lb;by_cases hb0:lg (aW<|bQ f)=0
 ·refine aA<|mE 2 O<|mdF O Z<|I<|cF O<|bZ<|tE<|tE<|bE<|tN<|au ?_;have hfin:=hI0.fin hf OC hb0;exact AW.wk (awQ 16 16 18 [] [] O O O φ)<|AW.wk (AB 18 O)<|aA<|mE 3 O<|I<|aQ<|rQ O<|jK<|dl (dex (Q:=YG c (21*K+3) KC) (L0++[f]) hfin AV.le.rfl)<|dl DV.same iR
 ·refine aA<|mE 2 O<|mdT O Z<|I<|cT O<|aO<|tN<|aK<|au ?_;have hg1:lg (aW<|bQ f)-1<lg (aW<|bQ f):=Z;have hN1:=(hI0.gr.step hla hlb hg1).bd OC;refine aA<|mE 2 O<|mX _ (bD O O)<|mE 3 O<|jL 33 (.d<|.o<|.a 2 (lg<|aW<|bQ f)<|aX KC<|aW<|bQ f) O (kQ<|hI0.bb.mono Z)<|mB aj _ O<|AL.wk (acE 32 16 16 O O O)<|mA aj (id:=16) O O O (acL (abh 24<|Nat.succ_le_succ<|show(L0++[f]).length<=20 by omega) φ) Z O O O O O O O O O O<|mX _ (bD O O)<|mW O<|mSo aj 35 16 18 (λx'=>.b 259<|[.v x']) O O (λ_=>rfl) (λx1=>?_);refine I<|au<|wB [37,36,35,34,33,32,31,30,29,28,27,26,25,7,6,24,23,19,22,21,20,5,18,17,16,15,4] [6,18] 16 (.i x1<|.a 32 1 (((L0++[f])++[(aW<|bQ f)]).length)<|ug KC<|(L0++[f])++[(aW<|bQ f)]) O O (Ya<|Nj O O) O<|aA<|mE 2 O<|mY (adE (KC:=(21*K+5)+(lg f+1-lg (aW<|bQ f))*((21*K+5)+1)) (iQ (c:=f)<|bK.lg hf.z) (iQ (c:=(aW<|bQ f))<|bK.lg<|jH zd) hI0.za hI0.zb Z Z Z hb0<|aav _) O<|mE 5 O<|I<|UR (Qx:=(xY f (aW<|bQ f)<|(21*K+5)+(lg f+1-lg (aW<|bQ f))*((21*K+5)+1))) 8 O (λR hR=>?_);have hlR:=dN R;have hNI:=hI0.step OC hb0 hR;refine aA<|mE 2 O<|mY (adA<|iQ (c:=R)<|bK.lg hR.z) O<|mE 2 O<|ak<|bN ?_;show AWl prog _ _ _;refine aob (ι:=Nat×List (Nat->Int)×(Nat->Int)×(Nat->Int)×Value) (λ(p:Nat×List (Nat->Int)×(Nat->Int)×(Nat->Int)×Value)=>match p with|(X,L1,a,b,xv)=>⟨48,[(4,.d<|.o<|.a 2 (lg a)<|aX X a),(7,.d<|.o<|.a 2 (lg b)<|aX X b),(5,.p 18 0),(35,.q 16)],[(18,.b 259<|[.v xv]),(16,.i xv<|.a 32 1 ((L1++[a]).length)<|ug KC<|L1++[a])]⟩) (λ(X,L1,a,b,xv)=>ChI f (21*K+5) N KC X L1 a b) (λ(X,L1,a,b,xv)=>lg b) (((21*K+5)+(lg f+1-lg (aW<|bQ f))*((21*K+5)+1)),(L0++[f]),(aW<|bQ f),(jX R),x1) (hNI) (wkv [0,1] [] ⟨dW O<|kQ hNI.ba,dW O<|fG (iK (XP<|bK.lg hR.z) hNI.zb) hNI.bb,Pe⟩ trivial O O) ?_;rintro⟨X,L1,a,b,xv⟩ hI;have hI:ChI f (21*K+5) N KC X L1 a b:=hI;show AW _ _ _ ⟨_,_,_⟩
  refine au<|au ?_;have hXK:=hI.gr.bd OC;have hla:=hI.la;have hln:=hI.ln;have hlen:(L1++[a]).length=L1.length+1:=List.length_append;have hlb:=hI.lb;by_cases hb0:lg b=0
  ·refine aA<|mE 2 O<|mdF O Z<|I<|cF O<|bZ<|tE<|tE<|bE<|tN<|au ?_;have hfin:=hI.fin hf OC hb0;exact AW.wk (awQ 35 16 18 [] [] O O O φ)<|AW.wk (AB 18 O)<|aA<|mE 3 O<|I<|aQ<|rQ O<|jK<|dl (dex (Q:=YG c (21*K+3) KC) (L1++[a]) hfin AV.le.rfl)<|dl DV.same iR
  ·refine aA<|mE 2 O<|mdT O Z<|I<|cT O<|aO<|tN<|aK<|au ?_;have hg1:lg b-1<lg b:=Z;have hN1:=(hI.gr.step hla hlb hg1).bd OC;refine aA<|mE 2 O<|mX _ (bD O O)<|mE 3 O<|jL 33 (.d<|.o<|.a 2 (lg b)<|aX KC b) O (kQ<|hI.bb.mono Z)<|mB aj _ O<|AL.wk (acE 32 35 16 O O O)<|mA aj (id:=16) O O O (acL (abh 24<|Nat.succ_le_succ<|show(L1++[a]).length<=20 by omega) φ) Z O O O O O O O O O O<|mX _ (bD O O)<|mW O<|mSo aj 35 16 18 (λx'=>.b 259<|[.v x']) O O (λ_=>rfl) (λx2=>?_);refine I<|au<|wB [37,36,34,33,32,31,30,29,28,27,26,25,35,5,7,4] [18] 16 (.i x2<|.a 32 1 (((L1++[a])++[b]).length)<|ug KC<|(L1++[a])++[b]) O O (Ya<|Nj O O) O<|aA<|mE 2 O<|mY (adE (KC:=X+(lg a+1-lg b)*(X+1)) (iQ (c:=a)<|bK.lg hI.za) (iQ (c:=b)<|bK.lg hI.zb) hI.za hI.zb Z Z Z hb0<|aav _) O<|mE 5 O<|I<|UR (Qx:=(xY a b<|X+(lg a+1-lg b)*(X+1))) 8 O (λR hR=>?_);have hlR:=dN R;have hNI:=hI.step OC hb0 hR;exact aA<|mE 2 O<|mY (adA<|iQ (c:=R)<|bK.lg hR.z) O<|mE 2 O<|ak<|bN<|⟨((X+(lg a+1-lg b)*(X+1)),(L1++[a]),b,(jX R),x2),hNI,ab3 hR.z hR.lt,wkv [0,1] [] ⟨dW O<|kQ hNI.ba,dW O<|fG (iK (XP<|bK.lg hR.z) hNI.zb) hNI.bb,Pe⟩ trivial O O⟩
def aaT(z:Int):gI (z:Rat)=tV z:=by unfold tV;by_cases h1:z<0;rw [if_pos h1,ku aDJ];rw [if_neg h1];by_cases h2:z=0;subst h2;rfl;rw [if_neg h2,jA (by have:0<z:=Z;exact ay5)]
def aqB(c:Nat->Int)(q:Rat)(n:Nat):tV (Ot c q.num (q.den:Int) n n)=gI (pz c q n):=by have h:=anb c q n;have hd:(0:Rat)<((q.den:Int):Rat):=(by have h1:(0:Int)<(q.den:Int):=(by have:=q.den_pos;omega);exact_mod_cast h1);have hp:(0:Rat)<((q.den:Int):Rat)^n:=(by induction n with|zero=>rfl|succ n ih=>rw [Rat.pow_succ];exact ac4 (ih<|anb c q n) hd);have h2:=ah9 gI h;rw [Hf,Hf,jA hd,jA hp,aaT] at h2;omega
def jI{p:Rat}(hK:K<=1000000:=by omega)(hL:L<=1000000:=by omega):aH prog 121 [.j<|tn K p,.j<|tn L q]<|dI<|BI p q:=by have h:=asA (xK K p) (xK L q) Z Z;rwa [kU,kU] at h
def x9{p:Rat}(hK:K<=1000000:=by omega):aH prog 120 [.j<|tn K p,.o<|.v aAy]<|.d<|.j<|tn K p:=by refine aH.BM (mM func120 O O) (p:=Tb K p) (λB w vs h=>match vs,h with|[_,_],⟨⟨cs,_,hl⟩,_⟩=>Oa hl) (λhb=>?_);have h:=alJ (xK K p) (aav _) Z;rw [kU] at h;exact aH.le (dl DV.same aCJ) (lV<|oZ hb) h
def alE{p:Rat}(hK:K<=1000000:=by omega)(hL:L<=1000000:=by omega):aH prog 186 [.j<|tn K p,.j<|tn L q]<|.d<|.j<|tn (max K 2+1+(max L 2+1)+4)<|(p+q)/2:=by have h:=asC (xK K p) (xK L q) (aav _) Z;rwa [kU,kU] at h
def Jd{p:Rat}(hK:K<=1000000:=by omega)(hL:L<=1000000:=by omega):aH prog 309 [.j<|tn K p,.j<|tn L q]<|.d<|.j<|tn (max K 2+1+(max L 2+1)+2)<|p-q:=by have h:=asG (xK K p) (xK L q) (aav _) Z;rwa [kU,kU] at h
def tY{a:Lf}(ha:kW a K n c)(zc:bK c)(hn:n<=20:=by omega)(hK:K<=10000000:=by omega)(hL:L<=1000000:=by omega):aH prog 114 [.o a,.j<|tn L q]<|dI<|gI<|FF c q:=by have h:=anJ ha (xK L q) (D:=20) (M:=21*(K+(max L 2+1)+(max L 2+1)+5)) hn φ (aav _) (aav _) Z hL hK;have hz:=ha.2;have e:dg c n=lg c:=iK hz zc;rw [kU,e,aqB] at h;rw [show gI (FF c q)=gI (pz c q<|lg c) by rw [<-jU zc];rfl];exact h
def wz(L:List<|Nat->Int)(t:Rat):List Int:=L.map λc=>gI<|FF c t
def aaR(L:List<|Nat->Int)(t:Rat):wz L t=YA (L.map FF) t:=by unfold wz YA;simp_all
def ahI{m:Int}(h:i<S.length):AY m (S.drop i)=if S.getD i 0=0 then AY m (S.drop<|i+1) else(if m= -(S.getD i 0) then 1 else 0)+AY (S.getD i 0) (S.drop<|i+1):=by have e:S.drop i=S.getD i 0::S.drop (i+1):=(by rw [List.drop_eq_getElem_cons h,List.getD_eq_getElem?_getD,List.getElem?_eq_getElem h];rfl);rw [e];rfl
def alg{m:Int}(h:S.length<=i):AY m (S.drop i)=0:=by rw [List.drop_eq_nil_of_le h];rfl
def Fp:∀(S:List Int) (m:Int),AY m S<=S.length
 |[],m=>aav _
 |s::l,m=>by
  unfold AY;have h1:=Fp l m;have h2:=Fp l s;grind
def sg3(h:s= -1\/s=0\/s=1): -1<=s/\s<=1:=Z
abbrev aAZ(L:List (Nat->Int))(KC:Nat):List Lf:=[.a 1 L.length (ug KC L)]
def QB{f:FuncId}{nc:Nat}{caps:Nat->Lf}{L:List (Nat->Int)}(hz:∀i,bK<|gl L i)(hf:∀i,i<L.length->aH prog f (.o (bP KC (lg<|gl L i)<|gl L i)::LJ caps 0 nc) (dI<|S.getD i 0))(hS:S.length=L.length)(h3:∀i,S.getD i 0= -1\/S.getD i 0=0\/S.getD i 0=1)(hL:L.length<=100000):aH prog 260 [.o<|.at 1<|λq=>((aAZ L KC)[0+q]?).getD<|.v undef,.o<|.fn f nc caps]<|dI ((vr S:Nat):Int):=by
 refine aN 33 [.tmp 4] func260 O<|cR<|mW O<|I<|cR<|mE 2 O<|I<|au<|cR<|mW O<|mX _ (awR O O)<|mE 4 O<|I<|aK<|dL (ι:=Nat×Nat×Int) (λ(i,nn,m)=>⟨33,[(1,.d<|.o<|.fn f nc caps),(13,.d<|.o<|.a 1 L.length<|ug KC L),(14,dI (L.length:Int)),(15,dI (i:Int)),(5,dI (nn:Int)),(6,dI m)],[]⟩) (λ(i,nn,m)=>i<=L.length/\nn<=i/\nn+AY m (S.drop i)=vr S) (λ(i,nn,m)=>L.length-i) (0,0,0) (⟨abJ _,aav _,by rw [List.drop_zero,Nat.zero_add];rfl⟩) aDU ?_;rintro⟨i,nn,m⟩⟨hi,hni,hv⟩;show AW _ _ _ ⟨_,_,_⟩
 refine cR<|mW O<|I<|au<|bI O (λhc1=>?_) (λhc1=>?_)
 ·refine aO<|tN<|au<|aK<|au ?_;have hin:i<L.length:=aCb;have hSi:i<S.length:=Z;have hd:=ahI (m:=m) hSi;have hb3:=sg3<|h3 i;refine aA<|mV aj _ (xjh O O O O O O Z)<|mE 2 O<|I<|cR<|mE 2 O<|mC (hf i hin) O O O<|mW O<|I<|au<|au ?_;by_cases h0:S.getD i 0=0;exact aA<|mW O<|mbT O (acW.2 h0)<|I<|cT O<|bZ<|tE<|bE<|tN<|aA<|mE 2 O<|ak<|⟨((i+1),nn,m),⟨by omega,by omega,by rw [if_pos h0] at hd;omega⟩,by show _-(_+1)<_-_;omega,wkv [3] [] aCf trivial O O⟩;refine aA<|mW O<|mbF O (acz.2 h0)<|I<|cFs O<|au<|au ?_;by_cases h4:m= -(S.getD i 0);exact aA<|mE 2 O<|mV aj (dI (-(S.getD i 0))) aCm<|mbT O (acW.2 h4)<|I<|cT O<|aA<|mE 3 O<|I<|aA<|mE 2 O<|ak<|bN<|tN<|aA<|mE 2 O<|ak<|⟨((i+1),(nn+1),(S.getD i 0)),⟨by omega,by omega,by rw [if_neg h0,if_pos h4] at hd;omega⟩,by show _-(_+1)<_-_;omega,wkv [3,4] [] ⟨dW O aEb,dW O aEb,Pe⟩ trivial O O⟩;exact aA<|mE 2 O<|mV aj (dI (-(S.getD i 0))) aCm<|mbF O (acz.2 h4)<|I<|cFs O<|aA<|mE 2 O<|ak<|bN<|tN<|aA<|mE 2 O<|ak<|⟨((i+1),nn,(S.getD i 0)),⟨by omega,by omega,by rw [if_neg h0,if_neg h4] at hd;omega⟩,by show _-(_+1)<_-_;omega,wkv [3] [] aCf trivial O O⟩
 ·exact bZ<|tE<|tE<|bE<|tN<|cR<|mE 2 O<|I<|aQ<|rQ O (aJ<|by have h0:=aa1 hc1;rw [alg Z] at hv;omega)
def aiJ(zc:bK c)(hn:n=lg c)(hK:KC<=10000000)(hM:M<=1000000):aH prog 303 [.o<|bP KC n c,.o<|.at 4<|λq=>((tn M t)[0+q]?).getD<|.v undef]<|dI<|gI<|FF c t:=by subst hn;have hlc:=dN c;exact aN 7 [.tmp 3] func303 O<|cR<|mW O<|I<|cR<|mE 2 O<|mY (tY aDp zc) O<|mW O<|I<|aQ<|rQ O aCo
def ahe{L:List (Nat->Int)}(h:i<L.length):(wz L t).getD i 0=gI (FF (gl L i) t):=by unfold wz gl;rw [List.getD_eq_getElem?_getD,List.getD_eq_getElem?_getD,List.getElem?_map,List.getElem?_eq_getElem h];rfl
def avQ(L:List<|Nat->Int)(t:Rat)(i:Nat):(wz L t).getD i 0= -1\/(wz L t).getD i 0=0\/(wz L t).getD i 0=1:=by by_cases h:i<L.length;rw [ahe h];rcases Yz (FF (gl L i) t) with h|h|h <;> omega;refine Or.inr<|Or.inl ?_;unfold wz;rw [List.getD_eq_getElem?_getD,List.getElem?_eq_none<|by rw [List.length_map];omega];rfl
def adM{L:List (Nat->Int)}(hz:∀i,bK<|gl L i)(hL:L.length<=100000)(hK:KC<=10000000)(hM:M<=1000000:=by omega):aH prog 259 [.o<|.at 1<|λq=>((aAZ L KC)[0+q]?).getD<|.v undef,.j<|tn M t]<|dI ((vr (wz L t):Nat):Int):=by exact aN 8 [.tmp 4] func259 O<|cR<|mO O<|mW O<|I<|au<|AW.wk (AB 3 O)<|aA<|mE 2 O<|mY (QB (S:=wz L t) hz (λi hi=>by rw [ahe hi];exact aiJ (hz i) O hK hM) (by unfold wz;rw [List.length_map]) (avQ L t) hL) O<|mW O<|I<|aQ<|rQ O aCo
def Bj{M2:Nat}{L:List (Nat->Int)}(hle:lo<=hi)(hz:∀i,bK<|gl L i)(hL:L.length<=100000)(hK:KC<=10000000)(hM:M<=1000000:=by omega)(hM2:M2<=1000000:=by omega):aH prog 187 [.o<|.at 1<|λq=>((aAZ L KC)[0+q]?).getD<|.v undef,.j<|tn M lo,.j<|tn M2 hi]<|dI<|((vr (wz L lo):Nat):Int)-((vr (wz L hi):Nat):Int):=by
 refine aN 18 [.tmp 6] func187 O<|cR<|mO O<|mO O<|mW O<|I<|au<|cR<|mE 2 O<|mY jI O<|mdF O (by have:=wU.2 hle;omega)<|I<|cFs O<|au ?_;have hv1:=Fp (wz L lo) 0;have hv2:=Fp (wz L hi) 0;have hl1:(wz L lo).length=L.length:=by unfold wz;rw [List.length_map]
 have hl2:(wz L hi).length=L.length:=by unfold wz;rw [List.length_map]
 have e1:vr (wz L lo)=AY 0 (wz L lo):=O;have e2:vr (wz L hi)=AY 0 (wz L hi):=O;exact cDk 8<|oE 2 O<|oC (adM hz hL hK) O<|oE 2 O<|oC (adM hz hL hK) O<|.cons (aC.V (dI<|((vr (wz L lo):Nat):Int)-((vr (wz L hi):Nat):Int)) aCZ)<|oV O<|.nil<|I<|aQ<|rQ O aCo
def YG.cnt{L:List (Nat->Int)}(h:YG c M KC L)(hab:lo<=hi):∃N,vr (wz L lo)=vr (wz L hi)+N/\(N=0↔kD (FF<|gl L 0) lo hi)/\(2<=L.length->qQ (FF<|gl L 0) lo hi N):=by by_cases h2:2<=L.length;have⟨l,e,hs,_⟩:=h.stm h2;have⟨N,hN⟩:=qZ hs hab;refine⟨N,?_,CB hs (dG<|h.z 0) hab hN,λ_=>⟨_,_,hs,hN⟩⟩;have:=hN.v;unfold Vr at this;rw [aaR,aaR,e];assumption;have h1:L.length=1:=(by have:=h.len;omega);have⟨c',hc,hf⟩:=jo (h.z 0)<|h.cst h1;match L,h1,hf with|[a],_,hf=>have hf':∀t,FF a t=c':=hf;have e:∀t,vr (wz [a] t)=0:=λt=>(by show AY 0 [gI<|FF a t]=0;unfold AY;have:gI (FF a t)≠0:=(by rw [hf' t];exact λh=>hc<|gK.1 h);rw [if_neg this,if_neg Z];rfl);refine⟨0,by grind,⟨λ_=>⟨gI c',λh=>hc (gK.1 h),λt _ _=>by simp_all⟩,λ_=>rfl⟩,λh=>absurd h aCY⟩
def eP(c:Nat->Int)(lo hi:Rat):dQ:=if hi<=lo then fC lo else jB (FF c) lo hi
structure AQ(c:Nat->Int)(lo hi:Rat):Prop where
 z:bK c
 le:lo<=hi
 i:lo<hi->Bh (FF c) (FF<|bQ c) lo hi
def qF(h:hi<=lo):eP c lo hi=fC lo:=if_pos h
def lD(h:lo<hi):eP c lo hi=jB (FF c) lo hi:=if_neg ψ
def AQ.cut(h:AQ c lo hi):dO<|eP c lo hi:=by by_cases hl:hi<=lo;rw [qF hl];exact nV lo;rw [lD ψ];exact ni<|h.i ψ
def agr(z:bK c)(t:Rat):AQ c t t:=⟨z,by grind,λh=>by grind⟩
def AQ.i'(h:AQ c lo hi)(hl:¬hi<=lo):Bh (FF c) (FF<|bQ c) lo hi:=h.i ψ
def AQ.rat(h:AQ c lo hi)(t:Rat):dU (eP c lo hi) (fC t)=
  if hi<=lo then BI lo t else if t<=lo then 1 else if hi<t then -1 else if gI (FF c t)=0 then 0 else if gI (FF c t)=yZ (FF c) (FF<|bQ c) lo then 1 else -1:=by by_cases hl:hi<=lo;rw [if_pos hl,qF hl,FP];rw [if_neg hl,lD ψ,LQ<|h.i ψ]
def AQ.lo_le(h:AQ c lo hi)(hq:eP c lo hi q):q<hi\/q=hi/\False\/q<hi:=by by_cases hl:hi<=lo;rw [qF hl] at hq;unfold fC at hq;have:=h.le;grind;rw [lD ψ] at hq;rcases hq with k|⟨k,_⟩;grind;simp_all
def hlf(c:Nat->Int)(lo hi:Rat):Rat×Rat:=
 if hi<=lo then(lo,hi) else if dU (eP c lo hi) (fC<|(lo+hi)/2)=0 then((lo+hi)/2,(lo+hi)/2) else if dU (eP c lo hi) (fC<|(lo+hi)/2)= -1 then(lo,(lo+hi)/2) else((lo+hi)/2,hi)
structure Qj(c:Nat->Int)(lo hi a b:Rat):Prop where
 ok:AQ c a b
 cut:∀q,eP c a b q↔eP c lo hi q
 lo:lo<=a
 hi:b<=hi
def Qj.refl(h:AQ c lo hi):Qj c lo hi lo hi:=⟨h,λ_=>Iff.rfl,by grind,by grind⟩
def Qj.trans{a b a' b':Rat}(h:Qj c lo hi a b)(k:Qj c a b a' b'):Qj c lo hi a' b':=⟨k.ok,λq=>(k.cut q).trans<|h.cut q,by have:=h.lo;have:=k.lo;grind,by have:=h.hi;have:=k.hi;grind⟩
def zH(h:AQ c lo hi):Qj c lo hi (hlf c lo hi).1 (hlf c lo hi).2/\(lo<hi->(hlf c lo hi).2-(hlf c lo hi).1<=(hi-lo)/2):=by obtain⟨m,hm⟩:∃m,m=(lo+hi)/2:=ψ;unfold hlf;rw [<-hm];by_cases hl:hi<=lo;rw [if_pos hl];exact⟨Qj.refl h,λk=>by grind⟩;rw [if_neg hl];have ok:=h.i' hl;have hC:=h.cut;have eC:=lD (c:=c) (show lo<hi by grind);by_cases h0:dU (eP c lo hi) (fC m)=0;rw [if_pos h0];refine⟨⟨agr h.z m,λq=>?_,by grind,by grind⟩,λ_=>by grind⟩;show eP c m m q↔_;rw [qF ψ];exact(Dk h0 q).symm;rw [if_neg h0];by_cases h1:dU (eP c lo hi) (fC m)= -1;rw [if_pos h1];have nm:¬jB (FF c) lo hi m:=λk=>(by rw [<-eC] at k;have:=JV hC k;omega);have⟨o,e⟩:=ok.narrow (a:=lo) (b:=m) ψ ψ (Or.inl ψ) nm;refine⟨⟨⟨h.z,by grind,λ_=>o⟩,λq=>?_,by simp_all,by grind⟩,λ_=>by grind⟩;show eP c lo m q↔_;rw [lD ψ,eC];exact e q;rw [if_neg h1];have cm:jB (FF c) lo hi m:=(by rw [<-eC];apply abt;intro nm;have h2:dU (eP c lo hi) (fC m)<=0:=(uM hC<|nV m).2 λq hq=>hC.nb hq nm;rcases JW (eP c lo hi) (fC m) with k|k|k;omega;omega;omega);have⟨o,e⟩:=ok.narrow (a:=m) (b:=hi) ψ ψ cm<|jF ψ ψ;refine⟨⟨⟨h.z,by grind,λ_=>o⟩,λq=>?_,by grind,by simp_all⟩,λ_=>by grind⟩;show eP c m hi q↔_;rw [lD ψ,eC];exact e q
def yM(q:Rat):q*(q.den:Rat)=(q.num:Rat):=by
 have h:=Rat.num_divInt_den q;rw [Rat.divInt_eq_div] at h;have hd:((q.den:Nat):Rat)≠0:=by exact_mod_cast q.den_nz
 have e:((q.den:Int):Rat)=((q.den:Nat):Rat):=O;grind
structure Dy(D R j:Nat)(q:Rat):Prop where
 d:∃z:Int,q*(((D*2^j:Nat)):Rat)=(z:Rat)
 b:Ab q (R:Rat)
def ai6(h:q*(m:Rat)=(z:Rat)):q.den∣m:=by have h0:(q.num:Rat)=q*(q.den:Rat):=(yM q).symm;have h1:(q.num:Rat)*(m:Rat)=(z:Rat)*(q.den:Rat):=ψ;have h2:q.num*(m:Int)=z*(q.den:Int):=aDJ;have hd:(q.den:Int)∣q.num*(m:Int):=⟨z,by grind⟩;have hd2:q.den∣q.num.natAbs*m:=(by have:=ahV.1 hd;rwa [Int.natAbs_mul,Int.natAbs_natCast] at this);exact Nat.Coprime.dvd_of_dvd_mul_left (Nat.Coprime.symm q.reduced) hd2
def PI(h: -(n:Int)<=z): -(n:Rat)<=(z:Rat):=by
 have:((-(n:Int):Int):Rat)<=(z:Rat):=by exact_mod_cast h
 assumption
def agi(h: -((n:Rat)*(m:Rat))<=(z:Rat)): -((n*m:Nat):Int)<=z:=by have:((-((n*m:Nat):Int):Int):Rat)<=(z:Rat):=(by rw [Rat.intCast_neg];rw [<-Rat.natCast_mul] at h;exact h);exact ay5
def ap0{R:Nat}(h:Ab q (R:Rat)):q.num.natAbs<=R*q.den:=by have h0:(q.num:Rat)=q*(q.den:Rat):=(yM q).symm;have hd:(0:Rat)<=(q.den:Rat):=ψ;have h1:(q.num:Rat)<=(R:Rat)*(q.den:Rat):=(by rw [h0];exact abV h.2 hd);have h2: -((R:Rat)*(q.den:Rat))<=(q.num:Rat):=(by rw [h0];have:=abV h.1 hd;grind);have h3:q.num<=((R*q.den:Nat):Int):=aDJ;have h4: -((R*q.den:Nat):Int)<=q.num:=agi h2;omega
def ak9(j:Nat):2^j<=dF^(j/32+1):=by rw [show dF=2^32 from O,<-Nat.pow_mul];exact acC φ Z
def Dy.tb{D R a b:Nat}(h:Dy D R j q)(hD0:D≠0)(hD:D<dF^a)(hR:R<=dF^b):Tb (a+b+j/32+1) q:=by have⟨z,hz⟩:=h.d;have h1:=Nat.le_of_dvd (ahW Z<|ae1 j)<|ai6 hz;have h2:=ak9 j;have hp:0<dF^(j/32+1):=ψ;have h3:q.den<dF^a*dF^(j/32+1):=ac1 (acL h1<|acM D h2)<|ah2 hD hp;have h4:=ap0 h.b;have hb:0<dF^b:=ψ;have h5:q.num.natAbs<dF^b*(dF^a*dF^(j/32+1)):=ac1 (acL h4<|abh _ hR)<|Nat.mul_lt_mul_of_pos_left h3 hb;have e:dF^(a+b+j/32+1)=dF^b*(dF^a*dF^(j/32+1)):=aDj;refine⟨by omega,?_⟩;rw [e];exact acI h3<|ah5 _ hb
def Dy.mono{D R j':Nat}(h:Dy D R j q)(k:j<=j'):Dy D R j' q:=by
 have⟨z,hz⟩:=h.d;refine⟨⟨z*((2^(j'-j):Nat):Int),?_⟩,h.b⟩;have e:D*2^j'=D*2^j*2^(j'-j):=by rw [Nat.mul_assoc,<-Nat.pow_add];simp_all
 rw [e,show(((D*2^j*2^(j'-j):Nat)):Rat)=((D*2^j:Nat):Rat)*((2^(j'-j):Nat):Rat) from Rat.natCast_mul _ _,<-Rat.mul_assoc,hz];simp_all
def Dy.mid{D R:Nat}{p:Rat}(h:Dy D R j p)(k:Dy D R j q):Dy D R (j+1)<|(p+q)/2:=by have⟨y,hy⟩:=h.d;have⟨z,hz⟩:=k.d;refine⟨⟨y+z,?_⟩,?_⟩;grind;have h1:=h.b;have h2:=k.b;unfold Ab at *;grind
def Gf{p:Rat}{R:Nat}(hp:p.num.natAbs<=R):Dy (p.den*q.den) R 0 p:=by refine⟨⟨p.num*(q.den:Int),?_⟩,?_⟩;rw [show p.den*q.den*2^0=p.den*q.den by omega,Rat.natCast_mul,<-Rat.mul_assoc,yM,Rat.intCast_mul];rfl;have h0:(p.num:Rat)=p*(p.den:Rat):=(yM p).symm;have hd:(1:Rat)<=(p.den:Rat):=(by exact_mod_cast p.den_pos);have h1:(p.num:Rat)<=(R:Rat):=(by have:p.num<=(R:Int):=Z;exact ay5);have h2: -(R:Rat)<=(p.num:Rat):=(by exact PI Z);have hR:(0:Rat)<=(R:Rat):=ψ;rw [h0] at h1 h2;unfold Ab;constructor;apply abt;intro hn;have:(-(R:Rat)-p)*1<=(-(R:Rat)-p)*(p.den:Rat):=aaJ hd ψ;exact azI;apply abt;intro hn;have:(p-(R:Rat))*1<=(p-(R:Rat))*(p.den:Rat):=aaJ hd ψ;exact azI
def afd{D R:Nat}(h:Dy D R j lo)(k:Dy D R j hi):Dy D R (j+1) (hlf c lo hi).1/\Dy D R (j+1) (hlf c lo hi).2:=by have m:=h.mid k;have h':=h.mono<|aed j;have k':=k.mono<|aed j;unfold hlf;grind
def Yo{c:Nat->Rat}{x:Rat}(hx:Ab x y)(hH:0<=H)(hy:1+H<=y)(h:∀i,Ab (c i) H):∀n,Ab (pe c x n)<|y^n-1
 |0=>kY (by rw [Rat.pow_zero];grind)
 |n+1=>by
  have h1:=(Yo hx hH hy h n).add<|(h n).mul<|PV ψ hx n;refine h1.mono ?_;have h2:=lX (B:=y) ψ n;have h3:y^n*(1+H)<=y^n*y:=aaJ hy ψ;rw [Rat.pow_succ];grind
def Rj{x:Rat}(h:x=y\/x= -y)(hy:1<=y):∀n:Nat,oL (x^n)<|y^n
 |0=>Or.inl (by rw [Rat.pow_zero,Rat.pow_zero];grind)
 |n+1=>by
  have h1:oL x y:=by rcases h with h|h;exact Or.inl ψ;exact Or.inr ψ
  have h2:=lX hy n;have:=(Rj h hy n).mul (d:=y^n) (e:=y) ψ ψ h1;rw [Rat.pow_succ,Rat.pow_succ];exact this
def ZG(h:z≠0):oL (z:Rat) 1:=by rcases Int.lt_or_gt_of_ne h with k|k;right;have:z<=-1:=Z;have h3:(z:Rat)<=((-1:Int):Rat):=aF5;rwa [Rat.intCast_neg] at h3;left;have:1<=z:=Z;exact ay5
def aqf{x:Rat}(hn:c n≠0)(hx:x=y\/x= -y)(hH:0<=H)(hy:1+H<=y)(h:∀i,Ab (c i:Rat) H):oL (pf c (n+1) x) 1:=by have hab:Ab x y:=(by rcases hx with k|k <;> unfold Ab <;> constructor <;> grind);have h1:=Yo (c:=rc c) hab hH hy h n;have hy1:1<=y:=ψ;have h2:=lX hy1 n;have h3:=(ZG hn).mul (d:=1) (e:=y^n) ψ ψ<|Rj hx hy1 n;show oL (pe (rc c) x n+rc c n*x^n) 1;have e:rc c n=(c n:Rat):=O;rw [e];unfold Ab at h1;rcases h3 with h3|h3;left;grind;right;grind
def aa3(z:bK c)(h0:lg c≠0)(hH:0<=H)(h:∀i,Ab (c i:Rat) H)(v:VC (FF c) C){r:Rat}(hq:C q)(hr:¬C r):q<1+H/\-(1+H)<r:=by have far:∀t y,(t=y\/t= -y)->1+H<=y->oL (FF c t) 1:=λt y ht hy=>(by rw [<-jU z,show lg c=(lg c-1)+1 by omega];exact aqf (nD h0) ht hH hy h);have⟨t,h1,h2,h3⟩:=v (1/2) ψ q r hq hr;unfold Ab at h3;constructor;apply abt;intro hn;rcases far t t (Or.inl rfl) ψ with k|k <;> grind;apply abt;intro hn;rcases far t (-t) (Or.inr ψ) ψ with k|k <;> grind
def Vb(P:Nat->Prop):∀t,∃(s:Nat) (xs ys:Nat->Nat),s<=t/\(∀i j,i<j->j<s->xs i<xs j)/\(∀i,i<s->xs i<t/\P (xs i))/\(∀i j,i<j->j<t-s->ys i<ys j)/\(∀i,i<t-s->ys i<t/\¬P (ys i))
 |0=>⟨0,λ_=>0,λ_=>0,aav _,λ_ _ _ h=>absurd h Z,λ_ h=>absurd h Z,λ_ _ _ h=>absurd h Z,λ_ h=>absurd h Z⟩
 |t+1=>by
  have⟨s,xs,ys,h1,h2,h3,h4,h5⟩:=Vb P t
  by_cases hp:P t
  ·refine⟨s+1,λi=>if i=s then t else xs i,ys,by omega,λi j hij hj=>?_,λi hi=>?_,λi j hij hj=>h4 i j hij Z,λi hi=>aGR⟩
   ·show(if i=s then t else xs i)<(if j=s then t else xs j)
    rw [if_neg Z]
    by_cases e:j=s
    ·rw [if_pos e];exact(h3 i Z).1
    ·rw [if_neg e];exact h2 i j hij Z
   ·show(if i=s then t else xs i)<t+1/\P (if i=s then t else xs i)
    by_cases e:i=s
    ·rw [if_pos e];exact⟨by omega,hp⟩
    ·rw [if_neg e];exact⟨by have:=(h3 i Z).1;omega,(h3 i Z).2⟩
  ·refine⟨s,xs,λi=>if i=t-s then t else ys i,by omega,h2,λi hi=>⟨by have:=(h3 i hi).1;omega,(h3 i hi).2⟩,λi j hij hj=>?_,λi hi=>?_⟩
   ·show(if i=t-s then t else ys i)<(if j=t-s then t else ys j)
    rw [if_neg Z]
    by_cases e:j=t-s
    ·rw [if_pos e];exact(h5 i Z).1
    ·rw [if_neg e];exact h4 i j hij Z
   ·show(if i=t-s then t else ys i)<t+1/\¬P (if i=t-s then t else ys i)
    by_cases e:i=t-s
    ·rw [if_pos e];exact⟨by omega,hp⟩
    ·rw [if_neg e];exact aGR
def EH{x:Nat}(h:x<2*n):Ab ((x:Int):Rat)<|2*(n:Rat):=by have h1:(0:Rat)<=((x:Int):Rat):=jS x;have h2:((x:Int):Rat)<=((2*n:Nat):Rat):=rY<|acQ h;rw [Rat.natCast_mul] at h2;have e:((2:Nat):Rat)=2:=O;rw [e] at h2;unfold Ab;constructor <;> grind
def aeY(hz:∀i,n<=i->c i=0){i0:Nat}(hne:c i0≠0):∃xs:Nat->Nat,(∀i j,i<j->j<n->xs i<xs j)/\∀i,i<n->xs i<2*n/\pf c n (((xs i:Nat):Int):Rat)≠0:=by
 have⟨s,xs,ys,h1,h2,h3,h4,h5⟩:=Vb (λk=>pf c n ((k:Int):Rat)≠0)<|2*n;by_cases hs:n<=s
 ·exact⟨xs,λi j hij hj=>h2 i j hij Z,λi hi=>h3 i Z⟩
 ·exfalso;have h6:=RJ (R:=2*(n:Rat)) (by have:=jS n;grind) n c (λi=>((ys i:Nat):Int)) 0 hz (λi j hij hj=>by have:=h4 i j hij Z;show((ys i:Nat):Int)≠((ys j:Nat):Int);omega)
   (λi hi=>EH (h5 i Z).1) (λi hi=>by
    have:=(h5 i Z).2;have e:pf c n (((ys i:Nat):Int):Rat)=0:=abt this;rw [e];exact kY ψ) ψ i0
  rw [Rat.zero_mul] at h6;have:(c i0:Rat)=0:=(by unfold Ab at h6;grind);exact Jz hne this
def aeQ{i0:Nat}(ha:∀i,n<=i->a i=0)(ha0:a i0≠0)(hn:n≠0)(hb:∀i,n<=i->b i=0)(hw:∀i,k<=i->w i=0)(h:∀i,bW w b i=a i)(hH0:0<=H)(hH:∀i,Ab (a i:Rat) H)(i:Nat):
  Ab (b i:Rat) ((n:Rat)*(H*(2*(n:Rat))^n)*(10*(n:Rat))^n):=by
 have⟨xs,h1,h2⟩:=aeY ha ha0;have hn1:(1:Rat)<=(n:Rat):=rY (a:=1) Z;have hval:∀x,pf a n x=pf w k x*pf b n x:=λx=>(by rw [<-uU hw hb,show bW w b=a from funext h];exact Et ha λi hi=>by rw [<-h i];exact gJ hw hb i hi);have hM0:0<=(n:Rat)*(H*(2*(n:Rat))^n):=acK (jS n) (acK hH0<|by have:=lX (B:=2*(n:Rat)) ψ n;grind);have key:=RJ (R:=2*(n:Rat)) ψ n b (λi=>((xs i:Nat):Int)) _ hb (λi j hij hj=>by have:=h1 i j hij hj;show((xs i:Nat):Int)≠((xs j:Nat):Int);omega) (λi hi=>EH (h2 i hi).1) (λj hj=>by
  have⟨za,hza⟩:=EY a ((xs j:Nat):Int) n;have⟨zb,hzb⟩:=EY b ((xs j:Nat):Int) n;have⟨zw,hzw⟩:=EY w ((xs j:Nat):Int) k;have hne:=(h2 j hj).2;have e1:=hval (((xs j:Nat):Int):Rat);have hA:Ab (pf a n (((xs j:Nat):Int):Rat))<|(n:Rat)*(H*(2*(n:Rat))^n):=NK ψ (EH (h2 j hj).1) hH0 n λt _=>hH t
  rw [hza] at e1 hne hA;rw [hzb,hzw,<-Rat.intCast_mul] at e1;show Ab (pf b n (((xs j:Nat):Int):Rat)) _
  rw [hzb];exact OT (by exact_mod_cast e1) aDR hA) hM0 i
 refine key.mono<|aaJ ?_ hM0;have:=Xx (R:=2*(n:Rat)) ψ n;rwa [show 5*(2*(n:Rat))=10*(n:Rat) from by grind] at this
def aeH(hd:yX f f'){a b μ:Rat}(hab:a<=b)(hμ:0<μ)(h:∀x,a<=x->x<=b->μ<=f' x):μ/2*(b-a)<=f b-f a:=by have⟨B,ha,hb,_⟩:=Ap a b;have⟨E,hE,hE2⟩:=hd B;have⟨δ,hδ,hs⟩:=jl hE (show 0<μ/2 by grind);refine yc hδ hab (λt=>μ/2*(t-a)<=f t-f a) ψ (λx y hx hxy hy hd' ih=>?_);have h1:=hE2 x y (ha.Om hb hx ψ) (ha.Om hb ψ hy) ψ;have h2:=h x hx ψ;have h3:=hs (y-x) ψ hd';have h4:(y-x)*((y-x)*E)<=(y-x)*(μ/2):=aaJ ψ ψ;have h5:(y-x)*μ<=(y-x)*f' x:=aaJ h2 ψ;unfold Ab at h1;grind
def avP{k1 k2:Fn}{z S L a b:Rat}(hz:1<=z\/z<=-1)(Kr:∀x,U x*k1 x+V x*k2 x=z)(hU:∀x,In B x->Ab (U x) S)(hV:∀x,In B x->Ab (V x) S)(hL:Xl B k2 L)(hL0:0<=L)(ha:In B a)(hb:In B b)(hs:S*(L*(b-a))<1)(vC:VC k1 C)(vD:VC k2 D)(ca:C a)(cb:¬C b)(da:D a)(db:¬D b):False:=by have hS:0<=S:=(hU a ha).nn;have⟨e,he,hse⟩:=jl (L:=2*S) (m:=1-S*(L*(b-a))) ψ ψ;have he2:=hse (e/2) ψ ψ;have⟨x,hx1,hx2,hx⟩:=vC (e/2) ψ a b ca cb;have⟨y,hy1,hy2,hy⟩:=vD (e/2) ψ a b da db;have oq:=ha.Om hb hx1 hx2;have hyB:=ha.Om hb hy1 hy2;have hgx:Ab (k2 x)<|e/2+L*(b-a):=(by by_cases hxy:x<=y;have h1:=hL.ab oq hyB hxy;have h2:L*(y-x)<=L*(b-a):=aaJ ψ hL0;exact aw3;have h1:=hL.ab hyB oq ψ;have h2:L*(x-y)<=L*(b-a):=aaJ ψ hL0;exact aw3);have h3:=((hU x oq).mul hx).add<|(hV x oq).mul hgx;exact ayS
def acn{z S L a b:Rat}(hC:dO C)(hD:dO D)(hd:yX f f')(pf':Po f')(hz:1<=z\/z<=-1)(Kr:∀x,U x*f x+V x*f' x=z)(hU:∀x,In B x->Ab (U x) S)(hV:∀x,In B x->Ab (V x) S)(hL:Xl B f' L)(hL0:0<=L)(ha:In B a)(hb:In B b)(hs:S*(L*(b-a))<1)(vC:VC f C)(vD:VC f D)(ca:C a)(cb:¬C b)(da:D a)(db:¬D b)(hq:D q)(hq':¬C q):False:=by
 have hS:0<=S:=(hU a ha).nn;have⟨q1,hq1,atu⟩:=hD.up q hq;have haq:=hC.nb ca hq';have hqb:=hD.nb atu db;obtain⟨m,hm⟩:∃m,m=1-S*(L*(b-a)):=⟨_,O⟩;have hm0:0<m:=ψ;have⟨μ1,hμ1,hμs⟩:=jl hS (show 0<m/2 by grind);obtain⟨μ,hμ⟩:∃μ,μ=μ1/2:=⟨_,O⟩;have hμ0:0<μ:=ψ
 have hSμ:=hμs μ hμ0 ψ;have⟨e1,he1,hes⟩:=jl hS (show 0<m/2 by grind);have hη:0<μ/2*(q1-q):=ac4 ψ ψ;have⟨e,he,hea,heb⟩:=mP (a:=e1/2) (b:=μ/2*(q1-q)/4) ψ ψ;have hSe:=hes e he ψ;have⟨x,hx1,hx2,hx⟩:=vC e he a q ca hq';have⟨y,hy1,hy2,hy⟩:=vD e he q1 b atu db;have oq:=ha.Om hb hx1 (show x<=b by grind);have far:∀t,a<=t->t<=b->oL (f' t) μ:=λt ht1 ht2=>(by apply abt;intro hn;have hft:Ab (f' t) μ:=(by unfold oL at hn;unfold Ab;constructor <;> grind);have ZU:=ha.Om hb ht1 ht2;have hfx:Ab (f' x)<|μ+L*(b-a):=(by by_cases hxy:x<=t;have h1:=hL.ab oq ZU hxy;have h2:L*(t-x)<=L*(b-a):=aaJ ψ hL0;exact aw3;have h1:=hL.ab ZU oq ψ;have h2:L*(x-t)<=L*(b-a):=aaJ ψ hL0;exact aw3);have h3:=((hU x oq).mul hx).add<|(hV x oq).mul hfx;exact ayS);have⟨h0,hsg⟩:=BN pf' (show a<=b by grind) hμ0 far;unfold Ab at hx hy;have hw:μ/2*(q1-q)<=μ/2*(y-x):=aaJ ψ ψ;rcases Aw h0 with hp|hp
 ·have:=aeH hd (show x<=y by grind) hμ0 (λt h1 h2=>by
   have h3:=hsg t ψ ψ;rcases far t ψ ψ with k|k
   ·exact k
   ·exfalso;rw [hp] at h3;have:=ku (x:=f' t) ψ;omega)
  grind
 ·have hd':yX (λx=> -f x) (λx=> -f' x):=λB=>(by have⟨E,hE,h⟩:=hd B;refine⟨E,hE,λs t h1 h2 h3=>?_⟩;have:=h s t h1 h2 h3;unfold Ab at *;constructor <;> grind);have:=aeH hd' (show x<=y by grind) hμ0 (λt h1 h2=>by
   have h3:=hsg t ψ ψ;rcases far t ψ ψ with k|k
   ·exfalso;rw [hp] at h3;have:=jA (x:=f' t) ψ;omega
   ·show μ<=-f' t;grind)
  grind
end
end Go.Proofs.YtecmeakkkmidjaaGreat
