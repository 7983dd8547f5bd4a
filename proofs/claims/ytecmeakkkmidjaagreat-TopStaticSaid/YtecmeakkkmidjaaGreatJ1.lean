/-
  The program's functions, part J1. No condition.
-/
import Derived.Test.YtecmeakkkmidjaaGreatJ0
set_option linter.defProp false
set_option linter.unusedVariables false
set_option linter.unusedSectionVars false
set_option linter.unusedSimpArgs false
set_option maxRecDepth 100000
set_option maxHeartbeats 4000000
namespace Go.Proofs.YtecmeakkkmidjaaGreat
open Go.RowKit
noncomputable section
variable {T:TypeId->Option TI}{P:Program}{n K L j i sz N M:Nat}{w:World}{wo xs wi ks is:List Nat}{f:FuncId}{rs:List ResultVar}{s s':AS}{m:List (Nat×Nat)}{el el':Nat->Nat->Lf}{a:Option Addr}{x:Operand}{D:Nat->Prop}{B B0:BS}{ρ:lq}{c d:Nat->Int}{op:Op}{b:Bool}{fn:Func}{w0:Wz}{v:Value}{ls cs:List Lf}{t e:TypeId}{o0 o1 o2:Oper}{p:Prop}{k:IntKind}{y:Int}
open Go.Proofs.Tryz
def zv(neg:Bool)(m:Nat):Int:=if neg then -(m:Int) else m
def Ui(neg:Bool)(m:Nat):decide (zv neg m<0)=(neg && decide (0<m)):=by cases neg <;> simp [zv] <;> omega
def uy(neg:Bool)(m:Nat):(zv neg m).natAbs=m:=by cases neg <;> simp [zv]
def qA(z:Int):zv (decide<|z<0) z.natAbs=z:=by unfold zv;grind
def amU(k:IntKind)(D K:Nat)(xs:List Nat):Sm where
 p:=λB w v=>∃a n c,v=.slice a n c/\Rw k D w a n c xs/\n<=K/\∀x,a=some x->xs≠ []->¬B x.block
 one:=by rintro B w v ⟨a,n,c,rfl,_⟩;rfl
 mv:=by
  rintro B B' w w' v ⟨a,n,c,rfl,⟨h1,h2,h3,h4,h5⟩,h6,h7⟩ hk hB;refine⟨a,n,c,rfl,⟨h1,h2,h3,h4,?_⟩,h6,λx hx hne hb=>?_⟩
  ·rcases h5 with h5|⟨b,off,rfl,h5⟩
   ·exact Or.inl h5
   ·by_cases hne:xs=[]
    ·subst hne;exact Or.inl rfl
    ·exact Or.inr ⟨b,off,rfl,λj hj=>hk.cell (h5 j hj)<|show ¬B b from h7 ⟨b,off,none⟩ rfl hne⟩
  ·subst hx
   have hlt:x.block<w.heap.size:=by
    rcases h5 with h5|⟨b,off,he,h5⟩
    ·exact absurd (List.map_eq_nil_iff.1 h5) hne
    ·cases he
     have hl:0<(gU k xs).length:=by rw [dK];exact List.length_pos_iff.2 hne
     exact World.block_lt_of_cell? w _<|h5 0 hl
   exact h7 x rfl hne<|hB _ hlt hb
def lr(K:Nat)(xs:List Nat):Lf:=.ln xs.length<|amU .u32 dF K xs
def dr(K:Nat)(xs:List Nat):Lf:=.ln xs.length<|amU .i64 B4 K xs
def ln(K m:Nat):Lf:=lr K<|dS m
def dn(K m:Nat):Lf:=dr K<|cO m
def zn(K:Nat)(z:Int):List Lf:=[.v<|.bool<|decide<|z<0,ln K z.natAbs]
def rn(K:Nat)(z:Int):List Lf:=[dn K z.natAbs,.v<|.bool<|decide<|z<0]
def Ox(l:Lf)(K m:Nat):Prop:=∃xs,(∀B w c,fP B w l c->fP B w (lr K xs) c)/\val xs=m
def Bg(ls:List Lf)(K:Nat)(z:Int):Prop:=∃s xs,(∀B w cs,jg B w ls cs->jg B w [.v<|.bool s,lr K xs] cs)/\zv s (val xs)=z
def IsD(l:Lf)(K m:Nat):Prop:=∀B w c,fP B w l c->fP B w (dn K m) c
def IsR(ls:List Lf)(K:Nat)(z:Int):Prop:=∀B w cs,jg B w ls cs->jg B w (rn K z) cs
def isl(K m:Nat):Ox (ln K m) K m:=⟨_,λ_ _ _ h=>h,eF m⟩
def jT(K:Nat)(z:Int):Bg (zn K z) K z:=⟨_,_,λ_ _ _ h=>h,by rw [eF];exact qA z⟩
def isd(K m:Nat):IsD (dn K m) K m:=λ_ _ _ h=>h
def xJ(K:Nat)(z:Int):IsR (rn K z) K z:=λ_ _ _ h=>h
def au0(K:Nat)(s:Bool)(xs:List Nat):Bg [.v<|.bool s,lr K xs] K<|zv s<|val xs:=⟨_,_,λ_ _ _ h=>h,O⟩
def wM(K:Nat)(xs:List Nat):Ox (lr K xs) K<|val xs:=⟨_,λ_ _ _ h=>h,O⟩
def Yf{c:Nat}(h:Rw .u32 dF w a n c xs)(hK:n<=K)(hB:∀x,a=some x->xs≠ []->¬B x.block):fP B w (lr K xs)<|.slice a n c:=
 aGC
def aoi{c:Nat}(h:Rw .i64 B4 w a n c xs)(hK:n<=K)(hB:∀x,a=some x->xs≠ []->¬B x.block):fP B w (dr K xs)<|.slice a n c:=
 aGC
def vX(h:fP B w (lr K xs) v):∃a n c,v=.slice a n c/\Rw .u32 dF w a n c xs/\n<=K/\∀x,a=some x->xs≠ []->¬B x.block:=h.1
def Zw(h:fP B w (dr K xs) v):∃a n c,v=.slice a n c/\Rw .i64 B4 w a n c xs/\n<=K/\∀x,a=some x->xs≠ []->¬B x.block:=h.1
def KF{w':World}{D c:Nat}(hB:∀b,B b->b<w.heap.size)(ho:xE w.heap.size w' a c)(hr:Rw k D w' a n c xs):∀x,a=some x->xs≠ []->¬B x.block:=by rintro x rfl hne hb;have h1:=hB _ hb;rcases ho with h0|⟨b,off,cs,e,he,hge,_⟩;have h2:=hr.le;have h3:=hr.len;simp_all;grind
def lW(h:K<=L):∀B w v,fP B w (lr K xs) v->fP B w (lr L xs) v:=by exact aw4
def F8(h:K<=L):∀B w v,fP B w (dr K xs) v->fP B w (dr L xs) v:=by exact aw4
def Hz{z:Int}(h:K<=L):∀B w cs,jg B w (zn K z) cs->jg B w (zn L z) cs
 |B,w,[a,b],⟨h1,h2,h3⟩=>⟨h1,lW h _ _ _ h2,h3⟩
def akF{z:Int}(h:K<=L):∀B w cs,jg B w (rn K z) cs->jg B w (rn L z) cs
 |B,w,[a,b],⟨h1,h2,h3⟩=>⟨F8 h _ _ _ h1,h2,h3⟩
def lV{ms:List Lf}(h:∀B w cs,jg B w ls cs->jg B w ms cs):AV.le (.d<|.j ls)<|.d<|.j ms:=fun ρ B w v ⟨cs,e,hl⟩=>⟨cs,e,h _ _ _ hl⟩
def eY{l m:Lf}(h:∀B w c,fP B w l c->fP B w m c):AV.le (.d<|.o l)<|.d<|.o m:=fun ρ B w v hl=>h _ _ _ hl
def kX{z:Int}(h:K<=L)(e:z=y):AV.le (.d<|.j<|zn K z)<|.d<|.j<|zn L y:=by subst e;exact lV<|Hz h
def VA{z:Int}(h:K<=L)(e:z=y):AV.le (.d<|.j<|rn K z)<|.d<|.j<|rn L y:=by subst e;exact lV<|akF h
def aJ{z:Int}(e:z=y):AV.le (.d<|.o<|.v<|.int k z)<|.d<|.o<|.v<|.int k y:=by subst e;exact AV.le.rfl
def gG{c:Bool}(e:b=c):AV.le (.d<|.o<|.v<|.bool b)<|.d<|.o<|.v<|.bool c:=by subst e;exact AV.le.rfl
def xu{ms:List Lf}(h:∀B w cs,jg B w ls cs->jg B w ms cs):AO.le (.b t ls)<|.b t ms:=λB w0 w v ⟨g,vs,h1,h2,h3,h4⟩=>⟨g,vs,h1,h2,h3,h _ _ _ h4⟩
def rW{z:Int}(h:K<=L)(e:z=y):AO.le (.b t<|zn K z)<|.b t<|zn L y:=by subst e;exact xu<|Hz h
def dW{sl:List (Nat×AV)}{t:Nat}{a b:AV}(h:lk sl t=some a)(k:AV.le a b):Has sl (t,b):=⟨a,h,k⟩
def eG{hp:List (Nat×AO)}{t:Nat}{a b:AO}(h:lk hp t=some a)(k:AO.le a b):Uw hp (t,b):=⟨a,h,k⟩
def ajP(K:Nat)(xs:List Nat):AV.le (.d<|.o<|lr K xs) (.d<|.o<|.a 1 xs.length λi _=>.v<|.int .u32 ((xs.getD i 0:Nat):Int)):=by refine eY λB w v h=>?_;obtain⟨a,n,c,rfl,hr,hn,hb⟩:=vX h;obtain rfl:=hr.len;refine⟨a,c,O,hr.le,hr.2.2.1,λi hi=>?_⟩;obtain⟨b,off,x,rfl,hx,oq,hc⟩:=hr.at hi;have hne:xs≠ []:=ψ;refine⟨b,off,O,hb _ O hne,World.block_lt_of_cell? w _ hc,λj hj=>?_⟩;have:j=0:=Z;subst this;refine⟨_,by rw [Nat.mul_one,Nat.add_zero];omega,?_,O⟩;simp_all
def RY(K:Nat)(xs:List Nat):AV.le (.d<|.o<|dr K xs) (.d<|.o<|.a 1 xs.length λi _=>.v<|.int .i64 ((xs.getD i 0:Nat):Int)):=by refine eY λB w v h=>?_;obtain⟨a,n,c,rfl,hr,hn,hb⟩:=Zw h;obtain rfl:=hr.len;refine⟨a,c,O,hr.le,hr.2.2.1,λi hi=>?_⟩;obtain⟨b,off,x,rfl,hx,oq,hc⟩:=hr.at hi;have hne:xs≠ []:=ψ;refine⟨b,off,O,hb _ O hne,World.block_lt_of_cell? w _ hc,λj hj=>?_⟩;have:j=0:=Z;subst this;refine⟨_,by rw [Nat.mul_one,Nat.add_zero];omega,?_,O⟩;simp_all
def SG(K:Nat):AV.le (.d<|.o<|.v<|.slice none 0 0)<|.d<|.o<|ln K 0:=by refine eY ?_;rintro B w v ⟨rfl,_⟩;exact Yf (Rw.nil _ _ _) (abJ _) ψ
def ND:∀{cs:List Value},jg B w [.v<|.bool false,.v<|.slice none 0 0] cs->jg B w (zn 0 0) cs
 |[a,b],h=>by
  have⟨h1,⟨h2,_⟩,h3⟩:=h;subst h2;exact⟨h1,Yf (Rw.nil _ _ _) (abJ _) ψ,h3⟩
def Ox.eq{l:Lf}{m:Nat}(h:Ox l K m)(e:m=n):Ox l K n:=e▸h
def Bg.mono{z:Int}(h:Bg ls K z)(hk:K<=L):Bg ls L z:=by have⟨s,xs,h1,h2⟩:=h;refine⟨s,xs,λB w cs hc=>?_,h2⟩;have:=h1 B w cs hc;match cs,this with|[_,_],⟨q1,q2,q3⟩=>exact⟨q1,lW hk _ _ _ q2,q3⟩
def RP:Bg [.v<|.bool false,.v<|.slice none 0 0] 0 0:=let ⟨s,xs,h1,h2⟩:=jT 0 0;⟨s,xs,λB w cs h=>h1 B w cs<|ND h,h2⟩
def Z4:Ox (.v<|.slice none 0 0) 0 0:=by refine⟨[],?_,O⟩;rintro B w c ⟨rfl,_⟩;exact Yf (Rw.nil _ _ _) (abJ _) ψ
def Z5(hn:xs.length=n)(hx:∀x∈xs,x<dF)(he:∀i,i<n->el i 0=.v (.int .u32 ((xs.getD i 0:Nat):Int))):Ox (.a 1 n el) n<|val xs:=by refine⟨xs,?_,O⟩;rintro B w c ⟨a,cap,rfl,h1,h2,h3⟩;subst hn;refine Yf ⟨O,h1,h2,hx,?_⟩ (aav _) (λx hx' hne hb=>?_);rcases acT xs.length with h0|h0;have:xs=[]:=acO h0;subst this;exact Or.inl O;obtain⟨b,off,rfl,_,_,_⟩:=h3 0 h0;refine Or.inr ⟨b,off,O,λj hj=>?_⟩;have hj':j<xs.length:=aEh;have⟨b',off',he',_,_,h4⟩:=h3 j hj';cases he';have⟨x,hx1,hx2⟩:=h4 0 Z;rw [he j hj'] at hx2;exact arA;have⟨b,off,he',hb',_,_⟩:=h3 0 ψ;grind
def Ov:List DV->List DV->Prop
 |[],[]=>True
 |a::us,b::bs=>(∀B w v,DR B w a v->DR B w b v)/\Ov us bs
 |_,_=>False
def iR:Ov [] []:=trivial
def dl{a b:DV}{us bs:List DV}(h:∀B w v,DR B w a v->DR B w b v)(k:Ov us bs):Ov (a::us) (b::bs):=⟨h,k⟩
def Ov.ok:∀{us bs:List DV}{vs:List Value},Ov us bs->DY B w us vs->DY B w bs vs
 |[],[],[],_,h=>h
 |a::us,b::bs,v::vs,h,k=>⟨h.1 _ _ _ k.1,Ov.ok h.2 k.2⟩
def aH.le{us bs:List DV}{r r':AV}(h:Ov us bs)(hr:AV.le r r')(k:aH P f bs r):aH P f us r':=
 ⟨k.en,λB w vs hB hvs=>(k.go B w vs hB<|h.ok hvs).mono λe w' ⟨v,he,hb,hv⟩=>⟨v,he,hb,hr _ _ _ _ hv⟩⟩
def DV.same{a:DV}:∀B w v,DR B w a v->DR B w a v:=ψ
variable {ds es:List DV}
def DV.z{a:List Lf}{s:Bool}(h:∀B w cs,jg B w a cs->jg B w [.v<|.bool s,lr K xs] cs):∀B w v,DR B w (.j a) v->DR B w (.j [.v<|.bool s,lr K xs]) v:=λB w v ⟨cs,e,hl⟩=>⟨cs,e,h _ _ _ hl⟩
def DV.l{a b:Lf}(h:∀B w c,fP B w a c->fP B w b c):∀B w v,DR B w (.o a) v->DR B w (.o b) v:=aCy
def DV.g{a b:List Lf}(h:∀B w c,jg B w a c->jg B w b c):∀B w v,DR B w (.j a) v->DR B w (.j b) v:=λB w v ⟨cs,e,hl⟩=>⟨cs,e,h _ _ _ hl⟩
def mM(hf : P.funcs[f]? = some fn)(hb : fn.body.isSome = true)(hnm : (fn.name == "runtime.NumGoroutine") = false): ∀vs w, (callFunc f vs).run P w = .ok (.enter f vs) w := by
 intro vs w
 have hnm' : ¬ fn.name = "runtime.NumGoroutine" := by simp_all
 have⟨c,hc⟩:=aon.1 hb;simp [callFunc,hf,hc,hnm']
def aam{k c:Nat}(h:Rw .u32 dF w a k c<|dS N)(hN:N<dF^K):k<=K:=by have:=yI hN;rwa [h.len] at this
def aog{k c:Nat}(h:Rw .i64 B4 w a k c<|cO N)(hN:N<B4^K):k<=K:=by have:=BK hN;rwa [h.len] at this
def En{c:Nat}(hr:Rw .u32 dF w a n c xs)(h:n<=K):val xs<dF^K:=
 acI (Ue hr.lt) (acC φ<|by rw [hr.len];exact h)
def alQ{c m:Nat}(hr:Rw .i64 B4 w a n c<|cO m)(h:n<=K):m<B4^K:=by have h3:=KT<|yu m;rw [iG,hr.len] at h3;exact acI h3<|acC φ h
def Yi{B a b:Nat}(hB:2<=B)(ha:a<B^K)(hb:b<B^L):a+b<B^(max K L+1):=by have h1:B^K<=B^(max K L):=acC Z Z;have h2:B^L<=B^(max K L):=acC Z Z;have h3:B^(max K L+1)=B^(max K L)*B:=ψ;have h4:B^(max K L)*2<=B^(max K L)*B:=acM _ hB;omega
def Yk{B a b:Nat}(ha:a<B^K)(hb:b<B^L):a*b<B^(K+L):=by rw [Nat.pow_add];have:a*b<=a*B^L:=acM _<|acQ hb;have h0:0<B^L:=Z;exact ac1 this<|ah2 ha h0
section
open Go.RowKit Am
def Pj(s:AS)(l:List Operand):List Nat:=l.filterMap λx=>(dR s x).bind nJ
def yE{l:List Operand}{av:AV}{id:Nat}(hx:x∈l)(hg:dR s x=some av)(hi:nJ av=some id):id∈Pj s l:=
 amN.2 ⟨x,hx,by rw [hg];exact hi⟩
def ajE{c:Call}(h:Jm (.call c)=true):c.callee=.builtin .len:=by simp only [Jm] at h;grind
def ajG:Op->Bool
 |.load .. |.indexAddr .. |.store ..=>true
 |.call c=> !Jm (.call c)
 |_=>false
def wQ(o:Option AO):Option Nat:=match unO o with
 |some (.a _ _ n _)=>some n
 |_=>none
def akG{o:Option AO}(h:wQ o=some n):∃e sz el,unO o=some (.a e sz n el):=by unfold wQ at h;grind
def acj{o:Option AO}(h:wQ o=some n):o.isSome=true:=by cases o with|none=>cases h|some x=>rfl
def AO.aqP{new ob:AO}:(AO.put new ob).un=new.un:=by induction ob with|i x ob ih=>exact ih|_=>rfl
def AO.isI:AO->Bool
 |.i _ _=>true
 |_=>false
def AO.awN(ob:AO):ob.un.isI=false:=by induction ob with|i x ob ih=>exact ih|_=>rfl
def ag3{new ob:AO}(h:new.un=new)(k:wQ (some new)=wQ (some ob.un)):wQ (some<|AO.put new ob)=wQ (some ob):=by have h1:∀o:AO,o.un.un=o.un:=λo=>(by induction o with|i x ob ih=>exact ih|_=>rfl);have e1:wQ (some<|AO.put new ob)=wQ (some new):=(by unfold wQ unO;simp only [AO.aqP]);have e2:wQ (some ob.un)=wQ (some ob):=(by unfold wQ unO;simp only [h1]);rw [e1,k,e2]
def AO.isR:AO->Bool
 |.a _ _ _ _=>true
 |_=>false
def nmO:Option AO->Option Value
 |some (.i x ob)=>bif ob.isR then some x else none
 |_=>none
def apZ{o:Option AO}{x:Value}(h:nmO o=some x):∃e sz n el,o=some (.i x<|.a e sz n el):=by match o,h with|some (.i y<|.a e sz n el),h=>cases h;simp_all|some (.i y (.b _ _)),h=>cases h|some (.i y (.i _ _)),h=>cases h|some (.i y (.sz _)),h=>cases h|some (.i y (.mp _)),h=>cases h
def ake{new ob:AO}(h:new.un=new)(k:new.isR=ob.un.isR):nmO (some<|AO.put new ob)=nmO (some ob):=by have hn:new.isI=false:=h▸AO.awN new;cases ob with|b t cs=>(cases new <;> first|rfl|cases hn)|a e sz n el=>(cases new <;> first|rfl|cases hn)|sz k=>(cases new <;> first|rfl|cases hn)|mp k=>(cases new <;> first|rfl|cases hn)|i x o=>(cases o with|i y o=>rfl|b t cs=>show(bif new.isR then some x else none)=_;rw [k];rfl|a e sz n el=>show(bif new.isR then some x else none)=_;rw [k];rfl|sz q=>show(bif new.isR then some x else none)=_;rw [k];rfl|mp q=>show(bif new.isR then some x else none)=_;rw [k];rfl)
def P6(o:Option AO):Option Nat×Option Value:=(wQ o,nmO o)
def aaS{new ob:AO}(h:new.un=new)(k:wQ (some new)=wQ (some ob.un))(k2:new.isR=ob.un.isR):P6 (some<|AO.put new ob)=P6 (some ob):=by unfold P6;rw [ag3 h k,ake h k2]
def tq(s:AS)(op:Op):List Nat:=bif ajG op then Pj s op.operands.toList else []
def ajA{id:Nat}(h:id∈tq s op):id∈Pj s op.operands.toList:=by unfold tq at h;grind
def Kt{id:Nat}(hr:ajG op=true)(h:id∈Pj s op.operands.toList):id∈tq s op:=by unfold tq;simp_all
section
variable {P:Program} {T:TypeId→Option TI} {ops:Array Oper} {s s':AS} {o:Oper} {Q:Qs}
def L9(hnl:Jm op=false)(h:∀x∈op.operands,dR s x=dR s' x)(hh:∀id∈tq s op,lk s.hp id=lk s'.hp id):kE T s op=kE T s' op:=by have key:ajG op=true->∀x∈op.operands,∀av id,dR s x=some av->nJ av=some id->lk s.hp id=lk s'.hp id:=λhr x hx av id hg hi=>hh id<|Kt hr<|yE aCj hg hi;have e1:kE T s op=kE T ⟨s.n,s.sl,s'.hp⟩ op:=(by have g:∀x,dR s x=dR ⟨s.n,s.sl,s'.hp⟩ x:=λx=>aD3;have hint:∀x,nC s x=nC ⟨s.n,s.sl,s'.hp⟩ x:=λx=>aD3;cases op with|load t x=>simp only [kE];rw [<-g x];split;rfl;split;rename_i id off hx;exact auX;rename_i id sz i j hx;exact auX;rfl;rfl|indexAddr t x ix=>simp only [kE];rw [<-g x,<-hint ix];split;rfl;split;rfl;split;split;rfl;rename_i id hx;exact auX;rfl;rfl|call c=>have hl:Aq s c.args.toList=Aq ⟨s.n,s.sl,s'.hp⟩ c.args.toList:=sZ _ λx _=>g x;simp only [kE];rw [hl];split;split;rename_i x t ha ht;rw [<-g x];split;rfl;split;rfl;rfl;rfl;rename_i id he hx;unfold lkU;rw [key (by show(!Jm (.call c))=true;simp_all) x (by simp only [Op.operands,Call.operands];exact Array.mem_append.2<|Or.inr (by have:x∈c.args.toList:=aCj;grind)) _ id hx O];rfl;rfl;rfl;rfl;rfl|move x=>rfl|assign x=>rfl|pick c a b=>rfl|binOp op t x y yt=>rfl|unOp op t x=>rfl|convert src dst x=>rfl|fieldAddr t x f=>rfl|field t x f=>rfl|extract x i=>rfl|slice t x lo hi mx=>(cases mx with|some m=>rfl|none=>rfl)|build t ps=>simp only [kE];rw [xg ps.toList<|λp _=>g p.2]|makeFunc fn fi caps=>(have hl:=sZ caps.toList (λx _=>g x);cases fn <;> first|rfl|(simp only [kE];rw [hl]))|_=>rfl);rw [e1];refine vF O (λx hx=>?_);rw [<-h x hx];rfl
def ajc{av:AV}(hl:Jm op=true)(h:∀x∈op.operands,dR s x=dR s' x)(hh:∀id∈Pj s op.operands.toList,∀n,wQ (lk s.hp id)=some n->wQ (lk s'.hp id)=some n)(he:kE T s op=some av):kE T s' op=some av:=by cases op with|call c=>(have hc:=ajE hl;simp only [kE,hc] at he ⊢;split at he;(rename_i x t ha ht;have hx:x∈(Op.call c).operands:=(by simp only [Op.operands,Call.operands];exact amY.2 (Or.inr (by have:x∈c.args.toList:=aCj;grind)));rw [<-h x hx];split at he;omega;rename_i ti hti;cases hel:ti.elem with|none=>simp_all|some e=>(rw [hel] at he;cases hg:dR s x with|none=>simp_all|some gv=>(rw [hg] at he;cases gv with|q id=>simp only at he ⊢;split at he;rename_i e0 sz0 n0 el0 hlk;have⟨e1,sz1,el1,h1⟩:=akG (hh id (yE aCj hg rfl) n0 (by unfold wQ;rw [show unO (lk s.hp id)=_ from hlk]));rw [show lkU s'.hp id=_ from h1];omega;grind|d dv=>grind|_=>omega)));omega)|_=>cases hl
def XK(h:∀x∈op.operands,dR s x=dR s' x)(hh:∀id∈tq s op,lk s.hp id=lk s'.hp id):evS T s op=evS T s' op:=by cases op with|store t x y=>have hx:=h x aCF;have hy:=h y aCF;have key:∀av id,dR s x=some av->nJ av=some id->lk s.hp id=lk s'.hp id:=λav id hg hi=>hh id<|Kt O<|yE (x:=x) aCF hg hi;simp only [evS];rw [<-hx,<-hy];split;rfl;split;rename_i id off d hgx hgy;unfold lkP;rw [key _ id hgx O];rename_i id sz i d hgx hgy;unfold lkP;rw [key _ id hgx O];rfl|_=>rfl
def yF:Op->Bool
 |.store ..=>true
 |_=>false
def RN:Op->Bool
 |.alloc .. |.box .. |.makeSlice ..=>true
 |_=>false
def aeT{id:Nat}{ob:AO}(h:evS T s op=some (id,ob)):yF op=true/\id∈tq s op/\(lk s.hp id).isSome=true/\P6 (some ob)=P6 (lk s.hp id):=by cases op with|store t x y=>refine⟨rfl,?_⟩;simp only [evS] at h;split at h;cases h;split at h;rename_i id' off d hgx hgy;split at h;rename_i hlk;split at h;exact aq4;cases h;cases h;rename_i id' sz i d hgx hgy;split at h;rename_i hlk;split at h;exact aq4;cases h;cases h;cases h|_=>simp [evS] at h
def aeS{ob:AO}(h:evN T s op=some ob):RN op=true:=by cases op <;> first|rfl|simp [evN] at h
def G6(ops:Array Oper):Nat->Oper->Nat->Bool
 |0,_,_=>false
 |f+1,o,k=>kC o k || o.after.toList.any λe=>Region.binds .any e && match ops[e.on]? with
  |some o'=>G6 ops f o' k
  |none=>false
def G7{ops:Array Oper}(hcl:∀k ok,ops[k]?=some ok->D k->∀j,kC ok j=true->D j):∀(f:Nat) (o:Oper) (k:Nat),(∀j,kC o j=true->D j)->G6 ops f o k=true->D k
 |0,_,_,_,h=>by cases h
 |f+1,o,k,hw,h=>by
  rw [G6,Bool.or_eq_true] at h;rcases h with h|h
  ·simp_all
  ·have⟨e,he,h2⟩:=ahX.1 h
   rw [Bool.and_eq_true] at h2;have⟨hb,h3⟩:=h2;split at h3
   ·rename_i o' eG
    have hDe:D e.on:=hw e.on (ahX.2 ⟨e,he,by rw [hb];exact beq_self_eq_true _⟩);exact G7 hcl f o' k ψ h3
   ·grind
def UW(ops:Array Oper)(log:List<|Nat×List Nat×Bool)(o:Oper)(ids:List Nat):Bool:=
 (log.all λq=> !(yF o.op || q.2.2) || ids.all (λid=> !(q.2.1).contains id) || G6 ops 6 o q.1) &&
 (!RN o.op || match o.dst with
  |some d=>log.all λq=> !(q.2.1).contains d
  |none=>true)
inductive Qg (P:Program) (T:TypeId->Option TI) (ops:Array Oper) (K:AS->Prop):Nat->List (Nat×List Nat×Bool)->List Oper->AS->Prop
 |nil {i:Nat}{log:List (Nat×List Nat×Bool)}{s:AS} (h:K s):Qg P T ops K i log [] s
 |cons {i:Nat}{log:List (Nat×List Nat×Bool)}{o:Oper}{l:List Oper}{s s1:AS} (h:aC P T ops o s s1) (hc:UW ops log o (tq s o.op)=true) (k:Qg P T ops K (i+1) ((i,tq s o.op,yF o.op)::log) l s1):Qg P T ops K i log (o::l) s
abbrev idO(st:Nat->AS)(i:Nat)(o:Oper):List Nat:=tq (st i) o.op
theorem Qg.st{K:AS->Prop}{i0:Nat}{log:List (Nat×List Nat×Bool)}{l:List Oper}(h:Qg P T ops K i0 log l s):∃st:Nat->AS,st 0=s/\K (st l.length)/\(∀(i:Nat) (o:Oper),l[i]?=some o->aC P T ops o (st i) (st<|i+1))/\
  (∀(i:Nat) (o:Oper),l[i]?=some o->∀q∈log,(yF o.op=true\/q.2.2=true)->∀id∈idO st i o,id∈q.2.1->G6 ops 6 o q.1=true)/\
  (∀(i:Nat) (o:Oper),l[i]?=some o->RN o.op=true->∀d,o.dst=some d->∀q∈log,¬d∈q.2.1)/\
  (∀(i:Nat) (o:Oper) (k:Nat) (ok:Oper),k<i->l[i]?=some o->l[k]?=some ok->(yF o.op=true\/yF ok.op=true)->∀id∈idO st i o,id∈idO st k ok->G6 ops 6 o (i0+k)=true)/\
  (∀(i:Nat) (o:Oper) (k:Nat) (ok:Oper),k<i->l[i]?=some o->l[k]?=some ok->RN o.op=true->∀d,o.dst=some d->¬d∈idO st k ok):=by
 induction h with
 |nil h=>exact⟨λ_=>_,O,h,by simp,by simp,by simp,by simp,by simp⟩
 |@cons i0 log o l s s1 h hc k ih=>
  have⟨st,h1,h2,h3,h4,h5,h6,h7⟩:=ih;simp only [UW,Bool.and_eq_true,Bool.or_eq_true,List.all_eq_true] at hc;have⟨hc1,hc2⟩:=hc;refine⟨λi=>match i with|0=>s|i+1=>st i,O,h2,?_,?_,?_,?_,?_⟩
  ·grind
  ·intro i o' ho q hq hst id bJ auf
   cases i with
   |zero=>
    grind
   |succ i=>grind
  ·intro i o' ho hnw d hd q hq
   cases i with
   |zero=>
    grind
   |succ i=>grind
  ·intro i o' k' ok hk ho hok hst id bJ aue
   cases i with
   |zero=>omega
   |succ i=>
    cases k' with
    |zero=>
     obtain rfl:o=ok:=ψ
     exact h4 i o' aCy (i0,tq s o.op,yF o.op) (ajr ..) hst id bJ aue
    |succ k'=>
     grind
  ·intro i o' k' ok hk ho hok hnw d hd
   cases i with
   |zero=>omega
   |succ i=>
    cases k' with
    |zero=>
     obtain rfl:o=ok:=ψ
     exact h5 i o' aCy hnw d hd (i0,tq s o.op,yF o.op)<|ajr ..
    |succ k'=>grind
def aC.shape2(h:aC P T ops o s s'):s'.n=s.n/\(∀d,o.dst=some d->s'.sl=(d,vN s')::s.sl)/\(o.dst=none->s'.sl=s.sl)/\
  ∃wr:Option<|Nat×AO,s'.hp=wr.toList++s.hp/\∀p,wr=some p->(RN o.op=true/\o.dst=some p.1/\lk s.hp p.1=none)\/(yF o.op=true/\p.1∈tq s o.op/\(lk s.hp p.1).isSome=true/\P6 (some p.2)=P6 (lk s.hp p.1)):=by
 have put:∀av,(s.put o.dst av).n=s.n/\(∀d,o.dst=some d->(s.put o.dst av).sl=(d,vN<|s.put o.dst av)::s.sl)/\(o.dst=none->(s.put o.dst av).sl=s.sl)/\
   ∃wr:Option<|Nat×AO,(s.put o.dst av).hp=wr.toList++s.hp/\∀p,wr=some p->(RN o.op=true/\o.dst=some p.1/\lk s.hp p.1=none)\/(yF o.op=true/\p.1∈tq s o.op/\(lk s.hp p.1).isSome=true/\P6 (some p.2)=P6 (lk s.hp p.1)):=by
  intro av;cases hd:o.dst with
  |none=>exact⟨O,λd h=>aEP,λ_=>rfl,none,O,λp h=>aEP⟩
  |some d=>exact⟨O,λd' h=>(by cases h;rfl),λh=>aEP,none,O,λp h=>aEP⟩
 cases h with
 |V av h hg hk=>exact put av
 |B av h hg hk=>exact put av
 |X av h hg hk=>exact put av
 |Y x tw id h hw hi hn ho hl hg hk=>exact put _
 |G hg hk=>exact put .D
 |C h hc hf ha hg hk=>exact put _
 |N ob h d hdst hfr hg hk=>
  refine⟨O,λd' h'=>(by rw [hdst] at h';cases h';rfl),λh'=>(by rw [hdst] at h';cases h'),some (d,ob),O,λp hp=>Or.inl ?_⟩;cases hp
  exact⟨aeS h,hdst,hfr⟩
 |S id ob h hdst hg=>
  refine⟨O,λd' h'=>(by rw [hdst] at h';cases h'),λ_=>rfl,some (id,ob),O,λp hp=>Or.inr ?_⟩;cases hp
  exact aeT h
open Classical in
def D6(hp:List<|Nat×AO)(wr:Nat->Option (Nat×AO))(D:Nat->Prop):Nat->List (Nat×AO)
 |0=>hp
 |m+1=>if D m then(wr m).toList++D6 hp wr D m else D6 hp wr D m
def zJ{hp:List (Nat×AO)}{wr:Nat->Option (Nat×AO)}{m:Nat}(h:D m):D6 hp wr D (m+1)=(wr m).toList++D6 hp wr D m:=if_pos h
def zI{hp:List (Nat×AO)}{wr:Nat->Option (Nat×AO)}{m:Nat}(h:¬D m):D6 hp wr D (m+1)=D6 hp wr D m:=if_neg h
def DC{hp:List (Nat×AO)}{wr:Nat->Option (Nat×AO)}{D':Nat->Prop}:∀{m:Nat},(∀k,k<m->(D k↔D' k))->D6 hp wr D m=D6 hp wr D' m
 |0,_=>rfl
 |m+1,h=>by
  have ih:=DC (hp:=hp) (wr:=wr) (m:=m) λk hk=>h k Z
  by_cases e:D m
  ·rw [zJ e,zJ ψ,ih]
  ·rw [zI e,zI ψ,ih]
def EO{hp:List (Nat×AO)}{wr:Nat->Option (Nat×AO)}{D':Nat->Prop}{id:Nat}:∀{m:Nat},(∀k p,k<m->wr k=some p->p.1=id->(D k↔D' k))->lk (D6 hp wr D m) id=lk (D6 hp wr D' m) id
 |0,_=>rfl
 |m+1,h=>by
  have ih:=EO (hp:=hp) (wr:=wr) (m:=m) λk p hk=>h k p Z
  have one:∀(E:Nat->Prop),(∀p,wr m=some p->p.1≠id)->lk (D6 hp wr E<|m+1) id=lk (D6 hp wr E m) id:=by
   intro E hne;by_cases e:E m
   ·rw [zJ e];cases hw:wr m with|none=>rfl|some p=>have⟨a,b⟩:=p;show lk ((a,b)::D6 hp wr E m) id=_;rw [aY,if_neg ψ]
   ·rw [zI e]
  by_cases hw:∃p,wr m=some p/\p.1=id
  ·have⟨p,hp1,hp2⟩:=hw
   have hiff:=h m p Z hp1 hp2;by_cases e:D m
   ·rw [zJ e,zJ ψ,hp1];show lk ((p.1,p.2)::_) id=lk ((p.1,p.2)::_) id;rw [aY,aY,if_pos hp2,if_pos hp2]
   ·rw [zI e,zI ψ,ih]
  grind
structure UA(ops:Array Oper)(l:List Oper)(n:Nat)(st:Nat->AS)(wr:Nat->Option (Nat×AO)):Prop where
 nn:∀i:Nat,i<=n->(st i).n=(st 0).n
 at1:∀i,i<=n->∀t k o,k<i->l[k]?=some o->o.dst=some t->lk (st i).sl t=some (vN<|st<|k+1)
 at2:∀i,i<=n->∀t,(∀k o,k<i->l[k]?=some o->o.dst≠some t)->lk (st i).sl t=lk (st 0).sl t
 hp:∀i,i<=n->D6 (st 0).hp wr (λk=>k<i) n=(st i).hp
 wrs:∀i o p,i<n->l[i]?=some o->wr i=some p->(RN o.op=true/\o.dst=some p.1/\lk (st i).hp p.1=none)\/(yF o.op=true/\p.1∈idO st i o/\(lk (st i).hp p.1).isSome=true/\P6 (some p.2)=P6 (lk (st i).hp p.1))
 up:∀i,i<n->(st<|i+1).hp=(wr i).toList++(st i).hp
 grow:∀i,i<=n->∀id,(lk (st 0).hp id).isSome=true->(lk (st i).hp id).isSome=true
def aAv{l:List Oper}{st:Nat->AS}(hl:n<=l.length)(hone:∀i k oi ok d,i<n->k<n->l[i]?=some oi->l[k]?=some ok->k≠i->ok.dst=some d->oi.dst≠some d)(h:∀i o,i<n->l[i]?=some o->aC P T ops o (st i) (st<|i+1)):∃wr,UA ops l n st wr:=by
 have step:∀i,∃wr:Option<|Nat×AO,i<n->(st<|i+1).n=(st i).n/\(∀o,l[i]?=some o->(∀d,o.dst=some d->(st<|i+1).sl=(d,vN<|st<|i+1)::(st i).sl)/\(o.dst=none->(st<|i+1).sl=(st i).sl))/\(st<|i+1).hp=wr.toList++(st i).hp/\
   ∀o p,l[i]?=some o->wr=some p->(RN o.op=true/\o.dst=some p.1/\lk (st i).hp p.1=none)\/(yF o.op=true/\p.1∈idO st i o/\(lk (st i).hp p.1).isSome=true/\P6 (some p.2)=P6 (lk (st i).hp p.1)):=by
  intro i
  by_cases hi:i<n
  ·have ho:l[i]?=some (l[i]' Z):=by simp
   have⟨h1,h2,h3,wr,h4,h5⟩:=(aC.shape2<|h i _ hi ho);refine⟨wr,λ_=>⟨h1,λo eG=>?_,h4,λo p eG hp=>?_⟩⟩
   ·simp_all
   simp_all
  ·exact⟨none,λh=>absurd h hi⟩
 have⟨wr,hw⟩:=Classical.skolem.1 step;have up:∀i,i<n->(st<|i+1).hp=(wr i).toList++(st i).hp:=λi hi=>(hw i hi).2.2.1;have hat:∀i,i<=n->∀t,(∀k o,k<i->l[k]?=some o->o.dst=some t->lk (st i).sl t=some (vN<|st<|k+1))/\((∀k o,k<i->l[k]?=some o->o.dst≠some t)->lk (st i).sl t=lk (st 0).sl t):=(by intro i;induction i with|zero=>intro _ t;exact⟨λk o hk=>absurd hk<|acH _,λ_=>rfl⟩|succ i ih=>(intro hi t;have⟨ih1,ih2⟩:=ih Z t;have ho:l[i]?=some (l[i]' Z):=aCY;have⟨hs1,hs2⟩:=(hw i Z).2.1 _ ho;cases hd:(l[i]' Z).dst with|none=>rw [hs2 hd];refine⟨λk o hk hko hkd=>?_,λhno=>ih2 λk o hk hko=>hno k o Z hko⟩;by_cases hki:k=i;subst hki;rw [ho] at hko;cases hko;rw [hd] at hkd;cases hkd;exact ih1 k o Z hko hkd|some d=>rw [hs1 d hd,aY];refine⟨λk o hk hko hkd=>?_,λhno=>?_⟩;by_cases hki:k=i;subst hki;rw [ho] at hko;cases hko;rw [hd] at hkd;cases hkd;rw [if_pos O];rw [if_neg<|λe=>hone i k _ o t Z Z ho hko hki hkd<|by rw [hd,e]];exact ih1 k o Z hko hkd;rw [if_neg<|λe=>hno i _ Z ho<|by rw [hd,e]];exact ih2<|λk o hk hko=>hno k o Z hko));have hp1:∀i,i<=n->∀m,m<=n->D6 (st 0).hp wr (λk=>k<i) m=(st<|min i m).hp:=(by intro i hi m;induction m with|zero=>intro _;rw [Nat.min_zero];rfl|succ m ih=>intro hm;by_cases e:m<i;rw [zJ (D:=λk=>k<i) e,ih Z,Nat.min_eq_right Z,Nat.min_eq_right Z,up m Z];rw [zI (D:=λk=>k<i) e,ih Z,Nat.min_eq_left Z,Nat.min_eq_left Z]);refine⟨wr,⟨λi=>?_,λi hi t k o=>(hat i hi t).1 k o,λi hi t=>(hat i hi t).2,λi hi=>by rw [hp1 i hi n Z,Nat.min_eq_left hi],λi o p hi ho hp=>(hw i hi).2.2.2 o p ho hp,up,λi=>?_⟩⟩
 ·induction i with|zero=>omega|succ i ih=>intro hi;rw [(hw i Z).1,ih Z]
 ·induction i with|zero=>intro _ id h;exact h|succ i ih=>(intro hi id h;rw [up i Z];cases hwi:wr i with|none=>exact ih Z id h|some p=>show(lk ((p.1,p.2)::(st i).hp) id).isSome=true;rw [aY];split;rfl;exact ih Z id h)
def UA.len{l:List Oper}{st:Nat->AS}{wr:Nat->Option (Nat×AO)}(hw:UA ops l n st wr)(hl:n<=l.length){id:Nat}(hj:(lk (st j).hp id).isSome=true):∀k,j<=k->k<=n->(lk (st k).hp id).isSome=true/\P6 (lk (st k).hp id)=P6 (lk (st j).hp id):=by intro k hjk;induction hjk with|refl=>simp_all|@step k _ ih=>(intro hk;have⟨h1,h2⟩:=ih Z;have ho:l[k]?=some (l[k]' Z):=aCY;rw [hw.up k Z];cases hwr:wr k with|none=>simp_all|some p=>(show(lk ((p.1,p.2)::(st k).hp) id).isSome=true/\P6 (lk ((p.1,p.2)::(st k).hp) id)=_;rw [aY];by_cases e:p.1=id;rw [if_pos e];refine⟨rfl,?_⟩;rcases hw.wrs k _ p Z ho hwr with⟨_,_,h3⟩|⟨_,_,_,h4⟩;simp_all;simp_all;simp_all))
def UA.lenD{l:List Oper}{st:Nat->AS}{wr:Nat->Option (Nat×AO)}(hw:UA ops l n st wr){id:Nat}{ob:AO}:∀m,m<=n->lk (D6 (st 0).hp wr D m) id=some ob->∃j,j<=n/\(lk (st j).hp id).isSome=true/\P6 (some ob)=P6 (lk (st j).hp id)
 |0,_,h=>⟨0,abJ _,by rw [show lk (st 0).hp id=some ob from h];rfl,by rw [show lk (st 0).hp id=some ob from h]⟩
 |m+1,hm,h=>by
  by_cases e:D m
  ·rw [zJ e] at h
   cases hwr:wr m with
   |none=>rw [hwr] at h;exact UA.lenD hw m Z h
   |some p=>
    rw [hwr] at h;have h':lk ((p.1,p.2)::D6 (st 0).hp wr D m) id=some ob:=h;rw [aY] at h'
    by_cases e2:p.1=id
    ·rw [if_pos e2] at h'
     have h3:lk (st<|m+1).hp id=some ob:=by
      rw [hw.up m Z,hwr];show lk ((p.1,p.2)::(st m).hp) id=some ob;rw [aY,if_pos e2];omega
     grind
    ·rw [if_neg e2] at h';exact UA.lenD hw m Z h'
  ·rw [zI e] at h;exact UA.lenD hw m Z h
def JS(l:List Oper)(n:Nat)(st:Nat->AS)(wr:Nat->Option (Nat×AO))(B0:BS)(w0:Wz)(a0:Act)(D:Nat->Prop)(vs:Nat->Value)(w:World):Prop:=
 ∃ρ,gq ρ B0 w0 w (D6 (st 0).hp wr D n)/\(∀id v,ρ id=some v->(lk (st 0).hp id).isSome=true\/∃k o,k<n/\D k/\l[k]?=some o/\o.dst=some id)/\
  (∀k p,k<n->D k->wr k=some p->∃v,ρ p.1=some v)/\
  (∀t av,lk (st 0).sl t=some av->(∀k o,k<n->l[k]?=some o->D k->o.dst≠some t)->∃v,a0.tmps[t]?=some v/\AR ρ (Bd ρ B0) w av v)/\(∀k o d,k<n->D k->l[k]?=some o->o.dst=some d->AR ρ (Bd ρ B0) w (vN<|st<|k+1) (vs k))
def JS.congr{l:List Oper}{st:Nat->AS}{wr:Nat->Option (Nat×AO)}{a0:Act}(D D':Nat->Prop)(vs vs':Nat->Value)(w:World)(h:JS l n st wr B0 w0 a0 D vs w)(hD:∀k,k<n->(D k↔D' k))(hv:∀k,k<n->D k->vs k=vs' k):JS l n st wr B0 w0 a0 D' vs' w:=by have⟨ρ,h1,h2,h5,h3,h4⟩:=h;refine⟨ρ,DC hD▸h1,λid v h=>?_,λk p hk gQ=>h5 k p hk ψ,λt av ht hno=>h3 t av ht ψ,λk o d hk gQ ho hd=>?_⟩;grind;grind
def JS.same{l:List Oper}{st:Nat->AS}{wr:Nat->Option (Nat×AO)}{a0:Act}{vs:Nat->Value}{w':World}{oi:Oper}(hoi:l[i]?=some oi)(hb:nH (Bd ρ B0) w w')(h1:gq ρ B0 w0 w'<|D6 (st 0).hp wr (uK D i) n) 
  (h2:∀id v,ρ id=some v->(lk (st 0).hp id).isSome=true\/∃k o,k<n/\D k/\l[k]?=some o/\o.dst=some id)
  (h5:∀k p,k<n->D k->wr k=some p->∃v,ρ p.1=some v) (h6:∀p,wr i=some p->∃v,ρ p.1=some v)
  (h3:∀t av,lk (st 0).sl t=some av->(∀k o,k<n->l[k]?=some o->D k->o.dst≠some t)->∃v,a0.tmps[t]?=some v/\AR ρ (Bd ρ B0) w av v)
  (h4:∀k o d,k<n->D k->l[k]?=some o->o.dst=some d->AR ρ (Bd ρ B0) w (vN<|st<|k+1) (vs k)) (hv:∀d,oi.dst=some d->AR ρ (Bd ρ B0) w' (vN<|st<|i+1) v) (hni:¬D i):JS l n st wr B0 w0 a0 (uK D i) (og vs i v) w':=by have mvv:∀{av:AV}{c:Value},AR ρ (Bd ρ B0) w av c->AR ρ (Bd ρ B0) w' av c:=λh=>AR.mv hb ψ ψ h;refine⟨ρ,h1,λid u h=>?_,λk p hk gQ hp=>?_,λt av ht hno=>?_,λk o d hk gQ ho hd=>?_⟩;rcases h2 id u h with h|⟨k,o,hk,gQ,h⟩;simp_all;exact axX;rcases gQ with gQ|rfl;grind;simp_all;have⟨u,h7,h8⟩:=h3 t av ht (λk o hk ho gQ=>hno k o hk ho<|Or.inl gQ);grind;unfold og;by_cases e:k=i;simp_all;rw [if_neg e];rcases gQ with gQ|gQ;simp_all;omega
def lu(hT:xZ P T){id:Nat}{l:List Oper}(n:Nat){s:AS}(hm:P.follows .mixedOrders=true)(hB:allB l.toArray n s.n=true)(h:Qg P T l.toArray (λs1=>AL P l.toArray Q (l.drop n) s1) 0 [] (l.take n) s):AW P (.region id l.toArray true) Q s:=by
 rintro B0 w0 a0 w ⟨ρ0,hc0,hn0,uh,hs0⟩;have hB':=hB;simp only [allB,Bool.and_eq_true,decide_eq_true_eq,Bool.or_eq_true] at hB';have⟨⟨⟨⟨hsel,RG⟩,OG⟩,_⟩,_⟩:=hB';have hr:=G8 RG;have hnl:n<=l.length:=(by simpa using OG);have⟨st,XW,kk,hop0,_,_,ayP,azb⟩:=h.st;have hlen:(l.take n).length=n:=aEg;rw [hlen] at kk;have htk:∀{i:Nat}{o:Oper},i<n->l[i]?=some o->(l.take n)[i]?=some o:=λhi ho=>(by rw [List.getElem?_take,if_pos hi];exact ho);have hop:∀i o,i<n->l[i]?=some o->aC P T l.toArray o (st i) (st<|i+1):=λi o hi ho=>hop0 i o<|htk hi ho;have hcf:∀i o k ok,k<i->i<n->l[i]?=some o->l[k]?=some ok->(yF o.op=true\/yF ok.op=true)->∀id∈idO st i o,id∈idO st k ok->G6 l.toArray 6 o k=true:=λi o k ok hk hi ho hok hs id h1 h2=>(by have:=ayP i o k ok hk (htk hi ho) (htk Z hok) hs id h1 h2;rwa [Nat.zero_add] at this);have hnw:∀i o k ok,k<i->i<n->l[i]?=some o->l[k]?=some ok->RN o.op=true->∀d,o.dst=some d->¬d∈idO st k ok:=λi o k ok hk hi ho hok=>azb i o k ok hk (htk hi ho)<|htk Z hok;have hone:∀i k oi ok d,i<n->k<n->l[i]?=some oi->l[k]?=some ok->k≠i->ok.dst=some d->oi.dst≠some d:=λi k oi ok d hi hk hoi hok=>hr.one i k oi ok d hi hk (by simpa using hoi) aFu;have⟨wr,uO⟩:=aAv hnl hone hop;subst XW;refine WW (J:=JS l n st wr B0 w0 a0) n (st 0).n hm hn0 uh hB (λD D' vs vs' w h=>JS.congr D D' vs vs' w h) ?_ ?_ ?_
 ·have hK:nH (Bd ρ0 B0) w w.drew:=aCu;have hz:D6 (st 0).hp wr (λ_=>False) n=(st 0).hp:=(DC (D':=λk=>k<0) λk _=>by simp).trans<|uO.hp 0 (abJ _);refine⟨ρ0,⟨hc0.bel.step (Below.refl _ _).drew,hc0.b0,λid v h=>?_,hc0.dist⟩,λid v h=>?_,λk p _ h=>h.elim,λt av ht _=>?_,λk o d _ h=>h.elim⟩;have⟨ob,h1,h2⟩:=hc0.obj id v h;exact⟨ob,by rw [hz];exact h1,h2.mv hK (λ_ _ hb=>hb)<|λ_ _=>rfl⟩;have⟨ob,h1,h2⟩:=hc0.obj id v h;exact Or.inl (by rw [h1];rfl);have⟨v,h1,h2⟩:=hs0 t av ht;exact avj
 ·intro i o hi ho D vs w' hni uG yD hJ;have eG:l[i]?=some o:=aGY;have hA:=nR (a0:=a0) (ops:=l.toArray) O hr hn0 hnl vs i aEF;have⟨ρ,hc,h2,h5,h3,h4⟩:=hJ;have hSl:gu ρ (Bd ρ B0) w' (iW (st i).sl<|aAV o l)<|fM (l.take i) 0 a0 vs:=by
   intro t av ht;have⟨hts,hlk⟩:=DK _ t av ht
   by_cases hex:∃k ok,k<i/\l[k]?=some ok/\ok.dst=some t
   ·have⟨k,ok,hk,hok,hkd⟩:=hex
    have hok':l.toArray[k]?=some ok:=by simpa using hok
    rw [uO.at1 i (Nat.le_of_lt hi) t k ok hk hok hkd] at hlk;cases hlk
    refine⟨vs k,hA.wr k ok t Z hok' hk hkd,h4 k ok t Z ?_ hok hkd⟩;rcases hr.look i k o ok t hi Z ho hok' Z hkd hts with⟨_,h⟩|⟨h,_⟩
    ·exact uG k h
    ·omega
   ·have hno:∀k ok,k<i->l[k]?=some ok->ok.dst≠some t:=λk ok hk hok hkd=>hex ⟨k,ok,hk,hok,hkd⟩
    rw [uO.at2 i (Nat.le_of_lt hi) t hno] at hlk;have⟨v,h7,h8⟩:=h3 t av hlk (λk ok hk hok gQ hkd=>by
     have hok':l.toArray[k]?=some ok:=by simpa using hok
     by_cases hki:k=i
     ·subst hki;exact hni gQ
     ·rcases hr.look i k o ok t hi hk ho hok' hki hkd hts with⟨h,_⟩|⟨_,h⟩
      ·exact hno k ok h hok hkd
      ·exact hni<|yD k ok hok' gQ i h)
    refine⟨v,?_,h8⟩;rw [hA.no t<|λk ok hk hok hki=>hno k ok hki aFu];exact h7
  have ame:∀id∈Pj (st i) o.op.operands.toList,∃v,ρ id=some v:=(by intro id bJ;have⟨x,hx,hg⟩:=amN.1 bJ;cases hgx:dR (st i) x with|none=>rw [hgx] at hg;cases hg|some av=>(rw [hgx] at hg;have hav:nJ av=some id:=hg;cases x with|tmp t=>have hm:t∈o.looksAt l.toArray:=alk _ (amN.2 ⟨.tmp t,by simpa using hx,rfl⟩);have⟨v,_,h8⟩:=hSl t av (by rw [qI _ t hm];exact hgx);exact tZ hav h8|const v=>cases v <;> simp only [dR,Option.some.injEq,reduceCtorEq] at hgx <;> (subst hgx;cases hav)|func f=>simp only [dR,Option.some.injEq] at hgx;subst hgx;cases hav|global g=>simp [dR] at hgx));have aug:∀id∈idO st i o,∃v,ρ id=some v:=λid bJ=>ame id<|ajA bJ;have hiff:∀id∈idO st i o,∀k p,k<n->wr k=some p->p.1=id->(D k↔k<i):=(by intro id bJ k p hk hp MN;have hok:l[k]?=some (l[k]' Z):=aCY;have hok':l.toArray[k]?=some (l[k]' Z):=aCY;rcases uO.wrs k _ p hk hok hp with⟨hN,hdk,hnone⟩|⟨hS,hmem,_⟩;rw [MN] at hdk hnone;have⟨v,hv⟩:=aug id bJ;have gQ:D k:=(by rcases h2 id v hv with h|⟨k',o',hk',ayx,aze,hd'⟩;have:=uO.grow k (acQ hk) id h;rw [hnone] at this;cases this;by_cases e:k'=k;subst e;exact ayx;exact absurd hdk<|hone k k' _ o' id hk hk' hok aze e hd');refine⟨λ_=>?_,λ_=>gQ⟩;rcases ah1 k i with h|h|h;exact h;subst h;exact absurd gQ hni;exact absurd bJ<|hnw k _ i o h hk hok eG hN id hdk;rw [MN] at hmem;rcases ah1 k i with h|h|h;exact⟨λ_=>h,λ_=>G7 yD 6 o k uG<|hcf i o k _ h hi eG hok (Or.inr hS) id bJ hmem⟩;subst h;exact⟨λh=>absurd h hni,λh=>absurd h<|Nat.lt_irrefl _⟩;exact⟨λgQ=>absurd (G7 yD 6 _ i (yD k _ hok' gQ)<|hcf k _ i o h hk hok eG (Or.inl hS) id hmem bJ) hni,λh'=>by omega⟩);have aoX:∀id∈idO st i o,lk (st i).hp id=lk (D6 (st 0).hp wr D n) id:=(by intro id bJ;rw [<-uO.hp i (Nat.le_of_lt hi)];exact(EO λk p hk hp MN=>hiff id bJ k p hk hp MN).symm);let s2:AS:=⟨(st i).n,iW (st i).sl<|aAV o l,D6 (st 0).hp wr D n⟩
  have hget:∀x∈o.op.operands,dR (st i) x=dR s2 x:=(by intro x hx;cases x with|tmp t=>have hm:t∈o.looksAt l.toArray:=alk _ (amN.2 ⟨.tmp t,by simpa using hx,rfl⟩);exact(qI _ t hm).symm|const v=>cases v <;> rfl|_=>rfl)
  have hg':jD l.toArray (st i) o=jD l.toArray s2 o:=O9 (λt ht=>(qI _ t ht).symm);have hAd:(fM (l.take i) 0 a0 vs).defers=[]:=hA.defs.trans uh;have hdef:∀v,((fM (l.take i) 0 a0 vs).put o.dst v).defers=[]:=λv=>(by cases hd:o.dst <;> exact hAd);have hval:∀v d,o.dst=some d->Am.valOf o ((fM (l.take i) 0 a0 vs).put o.dst v)=v:=λv d hd=>Am.vG hd (by rw [hA.size,hn0];exact hr.dst i o d hi ho hd);have hO:=hop i o hi eG;have hsh:=aC.shape2 hO;have auM:∀{hp'},(st<|i+1).hp=hp'->hp'=(st i).hp->wr i=none:=(by intro hp' e1 e2;have:=uO.up i hi;rw [e1,e2] at this;cases hw:wr i with|none=>rfl|some p=>rw [hw] at this;have h9:=ah9 List.length this;simp at h9);have hnone:wr i=none->gq ρ B0 w0 w' (D6 (st 0).hp wr (uK D i) n):=λhw=>gq.lkc hc λid _=>EO λk p hk hp MN=>(by unfold uK;constructor;exact Or.inl;rintro(h|rfl);exact h;rw [hw] at hp;cases hp)
  have fin:∀{w2:World}{v:Value}{av:AV},st (i+1)=(st i).put o.dst av->Below w'.heap.size w' w2->AR ρ (Bd ρ B0) w2 av v->JS l n st wr B0 w0 a0 (uK D i) (og vs i<|Am.valOf o<|(fM (l.take i) 0 a0 vs).put o.dst v) w2:=(by intro w2 v av he hb hv;have hw:wr i=none:=auM (hp':=((st i).put o.dst av).hp) (by rw [he]) (by cases o.dst <;> rfl);refine JS.same eG (.of_below hb) ((hnone hw).below hb) h2 h5 (λp hp=>by rw [hw] at hp;cases hp) h3 h4 (λd hd=>?_) hni;rw [hval v d hd];have:vN (st<|i+1)=av:=(by rw [he,hd];rfl);rw [this];exact hv);obtain⟨s3,hs3⟩:∃s3,s3=st (i+1):=⟨_,O⟩;rw [<-hs3] at hO;cases hO with
  |V av h hg hk=>
   rw [hg'] at hg
   replace h:kE T s2 o.op=some av:=by
    cases hln:Jm o.op with
    |false=>rwa [L9 (op:=o.op) (s:=st i) (s':=s2) hln hget aoX] at h
    |true=>
     refine ajc hln hget (λid bJ n0 aul=>?_) h;have⟨v0,hv0⟩:=ame id bJ;have⟨ob,ho1,_⟩:=hc.obj id v0 hv0;show wQ (lk (D6 (st 0).hp wr D n) id)=some n0
     rw [ho1];have⟨j,hj,hj1,hj2⟩:=uO.lenD n (aav _) ho1;have hi1:(lk (st i).hp id).isSome=true:=by
      exact acj aul
     rw [show wQ (some ob)=wQ (lk (st j).hp id) from congrArg Prod.fst hj2,<-aul];rcases Nat.le_total j i with hji|hji
     ·exact ah9 Prod.fst ((uO.len hnl hj1 i hji aEF).2).symm
     ·exact ah9 Prod.fst (uO.len hnl hi1 j hji hj).2
   have⟨v,hrun,hv⟩:=zx (s:=s2) hT hSl hc (λ_ _ h=>h) h;exact awY
  |Y x tw id h hw hi2 hn ho hl hg hk=>
   rw [hg'] at hg;have hno:∀(k:Nat) (ok:Oper),l[k]?=some ok->ok.dst≠some tw:=λk ok hok=>VW hn hok
   rw [uO.at2 i (Nat.le_of_lt hi) tw<|λk ok _ hok=>hno k ok hok] at hw;have⟨u,_,hu⟩:=h3 tw _ hw (λk ok _ hok _=>hno k ok hok);have⟨y,hy⟩:=tZ hi2 hu;have⟨ob,ho1,ho2⟩:=hc.obj id y hy;have⟨j,hj,hj1,hj2⟩:=uO.lenD n (aav _) ho1;have hi1:(lk (st i).hp id).isSome=true:=by rw [ho];rfl
   have e:P6 (some ob)=P6 (lk (st i).hp id):=hj2.trans (by
    rcases Nat.le_total j i with hji|hji
    ·exact((uO.len hnl hj1 i hji aEF).2).symm
    ·exact(uO.len hnl hi1 j hji hj).2)
   have⟨e',sz',n',el',hob⟩:=apZ (o:=some ob) (x:=x) ((ah9 Prod.snd e).trans<|by rw [ho];rfl);cases hob
   replace h:kE T s2 o.op=some (.d<|.o<|.v x):=by
    rwa [L9 (op:=o.op) (s:=st i) (s':=s2) hl hget aoX] at h
   have⟨v,hrun,hv⟩:=zx (s:=s2) hT hSl hc (λ_ _ h=>h) h;exact iy aEz<|gV (a:=a0) hrun ⟨hdef v,fin hs3.symm (Below.refl _ _)<|ako hv hy ho2⟩
  |B av h hg hk=>
   rw [hg'] at hg;rw [Io (op:=o.op) (s:=st i) (s':=s2) hget] at h;have⟨v,w2,hrun,hb,hv⟩:=QZ (s:=s2) hT hSl hc h;exact iy aEz<|gV (a:=a0) hrun ⟨hdef v,fin hs3.symm hb hv⟩
  |X av h hg hk=>
   rw [hg'] at hg;have⟨v,hrun,hv⟩:=h ρ (Bd ρ B0) w' (fM (l.take i) 0 a0 vs) (λx hx mJ hgx=>cu (s:=s2) hSl<|(hget x hx).symm.trans hgx);exact awY
  |G hg hk=>
   rw [hg'] at hg;refine zL aEz ?_;have hw:wr i=none:=auM (hp':=((st i).put o.dst .D).hp) (by rw [<-hs3]) (by cases o.dst <;> rfl);refine JS.same eG (.of_below<|Below.refl _ _) (hnone hw) h2 h5 (λp hp=>by rw [hw] at hp;cases hp) h3 h4 (λd hd=>?_) hni;have:vN (st<|i+1)=.D:=by rw [<-hs3,hd];rfl
   rw [this];trivial
  |C h hcl hf ha hg hk=>
   rename_i c f cap ds res;rw [hg'] at hg;have hop':o.op=.call c:=by
    unfold gX at hcl;split at hcl
    ·rename_i h;cases hcl;exact h
    ·cases hcl
   have hgc:∀x∈c.operands,dR (st i) x=dR s2 x:=λx hx=>hget x aGb
   rw [EN hgc] at hf;rw [sW _<|λx hx=>hgc x<|Array.mem_append.2<|Or.inr aGZ] at ha;have⟨us,hus,hrun⟩:=yN (s:=s2) hSl hcl hf ha h.en;refine iy aEz ?_;unfold Oper.wp;rw [hrun];refine(h.go (Bd ρ B0) w' us hc.UO hus).mono ?_;rintro e w2 ⟨v,rfl,hb,hv⟩;exact⟨hdef v,fin hs3.symm hb hv.lift⟩
  |S id ob h hdst hg=>
   rw [hg'] at hg;have⟨hst,bJ,_⟩:=aeT h;rw [XK (op:=o.op) (s:=st i) (s':=s2) hget aoX] at h;have⟨w2,hrun,hc2,hk2⟩:=XL (s:=s2) hT hSl hc h;refine iy aEz ?_;unfold Oper.wp;rw [hrun];refine⟨hdef _,?_⟩;have hup:=uO.up i hi;rw [<-hs3] at hup;have hwi:wr i=some (id,ob):=by
    cases hw:wr i with
    |none=>
     rw [hw] at hup;have h9:=ah9 List.length hup;simp at h9
    |some p=>
     rw [hw] at hup;have h9:(id,ob)::(st i).hp=p::(st i).hp:=hup;exact ah9 some (ahS h9).1.symm
   have hcc:gq ρ B0 w0 w2<|D6 (st 0).hp wr (uK D i) n:=by
    refine gq.lkc hc2 λid' _=>?_
    show lk ((id,ob)::D6 (st 0).hp wr D n) id'=_
    rw [aY]
    by_cases e:id=id'
    ·subst e
     rw [if_pos O];have e1:lk (D6 (st 0).hp wr (uK D i) n) id=lk (D6 (st 0).hp wr (λk=>k<i+1) n) id:=EO λk p hk hp MN=>by
      unfold uK;rw [hiff id bJ k p hk hp MN];omega
     rw [e1,uO.hp (i+1) Z,<-hs3];show some ob=lk ((id,ob)::(st i).hp) id
     exact azA
    ·rw [if_neg e]
     refine EO λk p hk hp MN=>?_
     unfold uK;constructor
     ·exact Or.inl
     ·rintro(h|rfl)
      ·exact h
      ·rw [hwi] at hp;cases hp;exact absurd MN e
   exact JS.same eG hk2 hcc h2 h5 (λp hp=>by rw [hwi] at hp;cases hp;exact aug id bJ) h3 h4 (λd hd=>by rw [hdst] at hd;cases hd) hni
  |N ob h d hd hfr hg hk=>
   rw [hg'] at hg;have azd:=aeS h;rw [Ip (op:=o.op) (s:=st i) (s':=s2) hget] at h;have⟨v,w2,hrun,hb,hvb,hob⟩:=Q5 (s:=s2) hT hSl hc h;have hup:=uO.up i hi;rw [<-hs3] at hup;have hwi:wr i=some (d,ob):=by
    cases hw:wr i with
    |none=>
     rw [hw] at hup;have h9:=ah9 List.length hup;simp [AS.mk'] at h9
    |some p=>
     rw [hw] at hup;have h9:(d,ob)::(st i).hp=p::(st i).hp:=hup;exact ah9 some (ahS h9).1.symm
   have aoE:(lk (st 0).hp d).isSome=false:=by
    cases hq:(lk (st 0).hp d).isSome with
    |false=>rfl
    |true=>have:=uO.grow i aEF d hq;rw [hfr] at this;cases this
   have hρ:ρ d=none:=by
    cases hq:ρ d with
    |none=>rfl
    |some u=>
     rcases h2 d u hq with h7|⟨k,ok,hk',gQ,hok,hkd⟩
     ·rw [aoE] at h7;cases h7
     ·by_cases hki:k=i
      ·subst hki;exact absurd gQ hni
      ·exact absurd hd<|hone i k o ok d hi hk' eG hok hki hkd
   have hO2:=hob (Bd (up ρ d v) B0)<|wF hρ hvb;have hdiff:∀k p,k<n->wr k=some p->p.1=d->(uK D i k↔k<i+1):=by
    intro k p hk' hp hpd;have hok:l[k]?=some (l[k]' Z):=by simp
    by_cases e:k=i
    ·subst e;exact⟨λ_=>by omega,λ_=>Or.inr O⟩
    ·have hnD:¬D k:=λgQ=>by
      have⟨u,hu⟩:=h5 k p hk' gQ hp;rw [hpd,hρ] at hu;cases hu
     refine⟨λh=>?_,λh=>?_⟩
     ·rcases h with h|h
      ·exact absurd h hnD
      ·exact absurd h e
     ·exfalso
      rcases uO.wrs k _ p hk' hok hp with⟨_,hdk,_⟩|⟨_,hmem,_⟩
      ·rw [hpd] at hdk
       exact hone i k o _ d hi hk' eG hok e hdk hd
      ·rw [hpd] at hmem
       exact hnw i o k _ Z hi eG hok azd d hd hmem
   have hlast:lk (D6 (st 0).hp wr (uK D i) n) d=some ob:=by
    rw [EO (D':=λk=>k<i+1) hdiff,uO.hp (i+1) Z,<-hs3];show lk ((d,ob)::(st i).hp) d=some ob
    exact azA
   have hoth:∀id',id'≠d->lk (D6 (st 0).hp wr D n) id'=lk (D6 (st 0).hp wr (uK D i) n) id':=λid' hne=>EO λk p hk' hp MN=>by
    unfold uK;constructor
    ·exact Or.inl
    ·rintro(h|rfl)
     ·exact h
     ·rw [hwi] at hp;cases hp;exact absurd MN.symm hne
   have hc2:gq (up ρ d v) B0 w0 w2<|D6 (st 0).hp wr (uK D i) n:=hc.new hρ hb hvb (λk ob' hk' hne=>by rw [<-hoth k hne];exact hk') hlast hO2;refine iy aEz<|gV (a:=a0) hrun ⟨hdef v,?_⟩;refine⟨_,hc2,λid u hu=>?_,λk p hk' gQ hp=>?_,λt av ht hno=>?_,λk ok d' hk' gQ hok hd'=>?_⟩
   ·unfold up at hu
    split at hu
    ·rename_i e
     exact azH
    ·rcases h2 id u hu with h7|⟨k,ok,hk',gQ,h7⟩
     ·exact Or.inl h7
     ·exact Or.inr ⟨k,ok,hk',Or.inl gQ,h7⟩
   ·unfold up
    split
    ·exact⟨_,O⟩
    ·rename_i hne
     rcases gQ with gQ|rfl
     ·exact h5 k p hk' gQ hp
     ·rw [hwi] at hp;cases hp;exact absurd O hne
   ·have⟨u,h7,h8⟩:=h3 t av ht (λk o hk ho gQ=>hno k o hk ho<|Or.inl gQ)
    exact⟨u,h7,h8.new hρ hb hvb⟩
   ·unfold og
    by_cases e:k=i
    ·subst e
     rw [if_pos O,hval v d hd,<-hs3];exact AO.BG hO2 aFY
    ·rw [if_neg e]
     rcases gQ with gQ|gQ
     ·exact(h4 k ok d' hk' gQ hok hd').new hρ hb hvb
     ·exact absurd gQ e
 ·intro D vs w' hall hJ;have⟨ρ,hc,h2,h5,h3,h4⟩:=hJ;have hA:=nR (a0:=a0) (ops:=l.toArray) O hr hn0 hnl vs n<|aav _;have Fq:D6 (st 0).hp wr D n=(st n).hp:=(by rw [<-uO.hp n (Nat.le_refl _)];exact DC λk hk=>⟨λ_=>hk,λ_=>hall k hk⟩);rw [Fq] at hc;refine kk B0 w0 _ w' ⟨ρ,hc,?_,hA.defs.trans uh,λt av ht=>?_⟩;rw [hA.size,hn0,uO.nn n<|Nat.le_refl _];by_cases hex:∃k ok,k<n/\l[k]?=some ok/\ok.dst=some t;have⟨k,ok,hk,hok,hkd⟩:=hex;rw [uO.at1 n (Nat.le_refl _) t k ok hk hok hkd] at ht;cases ht;exact⟨vs k,hA.wr k ok t hk aFu hk hkd,h4 k ok t hk (hall k hk) hok hkd⟩;have hno:∀k ok,k<n->l[k]?=some ok->ok.dst≠some t:=λk ok hk hok hkd=>hex ⟨k,ok,hk,hok,hkd⟩;rw [uO.at2 n (Nat.le_refl _) t hno] at ht;have⟨v,h7,h8⟩:=h3 t av ht (λk o hk hok _=>hno k o hk hok);refine⟨v,?_,h8⟩;rw [hA.no t<|λk o hk hok _=>hno k o hk aFu];exact h7
end
end
variable {hp hp':List (Nat×AO)}{ob:AO}
def fK{a b:Int}(h:a=b):some (AV.d<|.o<|.v<|.int k a)=some (AV.d<|.o<|.v<|.int k b):=by rw [h]
def dD{a:Bool}(h:a=b):some (AV.d<|.o<|.v<|.bool a)=some (AV.d<|.o<|.v<|.bool b):=by rw [h]
def isF:Callee->Option FuncId
 |.value (.func f)=>some f
 |_=>none
section
variable {P:Program} {ops:Array Oper} {Q:Qs} {o:Oper} {l:List Oper} {s:AS}
def MV{cal:Callee}(h:isF cal=some f):Rl s cal=some (f,[]):=by unfold isF at h;split at h;cases h;rfl;cases h
def bn{c:Call}{res:AV}(h:aH P f ds res)(hc:gX o.op=some c)(hf:isF c.callee=some f)(ha:nK s c.args.toList=some ds)(k:AL P ops Q l<|s.put o.dst res) 
  (hg:jD ops s o=some true:=by rfl) (hd:jQ o.dst s.n=true:=by rfl):AL P ops Q (o::l) s:=
 mC (cap:=[]) aCj hc (MV hf) ha k hg hd
def aC.C0{c:Call}{res:AV}(h:aH P f ds res)(hc:gX o.op=some c)(hf:isF c.callee=some f)(ha:nK s c.args.toList=some ds)(hg:jD ops s o=some true:=by rfl)(hd:jQ o.dst s.n=true:=by rfl):aC P T ops o s<|s.put o.dst res:=
 .C (cap:=[]) aCj hc (MV hf) ha hg hd
inductive JJ (P:Program) (T:TypeId->Option TI) (ops:Array Oper) (K:AS->Prop):List Oper->AS->Prop
 |nil {s:AS} (h:K s):JJ P T ops K [] s
 |cons {o:Oper}{l:List Oper}{s s1:AS} (h:aC P T ops o s s1) (k:JJ P T ops K l s1):JJ P T ops K (o::l) s
def JJ.r{K:AS->Prop}(h:JJ P T ops K l s):EF P T ops n K l s:=by induction h with|nil h=>exact .nil h|cons h _ ih=>exact .cons (.S h) ih
def bF(hT:xZ P T){id:Nat}{l:List Oper}(n:Nat){s:AS}(hm:P.follows .mixedOrders=true)(hB:Am.allB l.toArray n s.n=true)(hD:Am.LZ l.toArray n=true)(h:JJ P T l.toArray (λs1=>AL P l.toArray Q (l.drop n) s1) (l.take n) s):AW P (.region id l.toArray true) Q s:=aec hT n hm (Am.adS hB) ψ hD h.r
def QJ(hT:xZ P T){id:Nat}{l:List Oper}(n:Nat)(ls:List Nat){s:AS}(hm:P.follows .mixedOrders=true)(hB:Am.LG l.toArray n s.n ls=true)(hD:Am.LZ l.toArray n=true)(hP:∀c s,¬Q (.panic c) s)(h:JJ P T l.toArray (λs1=>AL P l.toArray Q (l.drop n) s1) (l.take n) s):AW P (.region id l.toArray true) Q s:=qE hT n ls hm hB hD hP h.r
def cT{c:Operand}{x y:Code}(hc:dR s c=some (.d<|.o<|.v<|.bool true))(h:AW P x Q s):AW P (.cond c x y) Q s:=bI hc ψ ψ
def cF{c:Operand}{x y:Code}(hc:dR s c=some (.d<|.o<|.v<|.bool false))(h:AW P y Q s):AW P (.cond c x y) Q s:=bI hc ψ ψ
def tN{K:AS->Prop}(h:K s):thn K Q .normal s:=h
def tE{K:AS->Prop}{id:Nat}(h:Q (.exit id) s):thn K Q (.exit id) s:=h
def tR{K:AS->Prop}(h:Q .ret s):thn K Q .ret s:=h
def bN{id:Nat}(h:Q .normal s):inB id Q .normal s:=h
def bR{id:Nat}(h:Q .ret s):inB id Q .ret s:=h
def bE{id:Nat}(h:Q .normal s):inB id Q (.exit id) s:=by show(if id=id then Q .normal s else Q (.exit id) s);simp_all
def bX{id id':Nat}(hne:Nat.beq id' id=false)(h:Q (.exit id') s):inB id Q (.exit id') s:=by show(if id'=id then Q .normal s else Q (.exit id') s);rw [if_neg<|λe=>by simp_all];exact h
def rQ{r:AV}(h:IW T s rs=some es)(hl:AV.le (PX es) r):adh T rs r .ret s:=⟨es,h,hl⟩
def ahN{s:AS}(t:Nat)(mJ:AV){av:AV}(h:lk s.sl t=some av)(hl:AV.le av mJ):Wk s ⟨s.n,(t,mJ)::s.sl,s.hp⟩:=by rintro B0 w0 a w ⟨ρ,hc,hn,hdf,hs⟩;refine⟨ρ,hc,hn,hdf,λu av2 hu=>?_⟩;rw [aY] at hu;split at hu;rename_i e;cases hu;subst e;have⟨v,h1,h2⟩:=hs t av h;exact⟨v,h1,hl _ _ _ _ h2⟩;exact hs u av2 hu
def jL(t:Nat)(mJ:AV){av:AV}(h:lk s.sl t=some av)(hl:AV.le av mJ)(k:AL P ops Q l ⟨s.n,(t,mJ)::s.sl,s.hp⟩):AL P ops Q l s:=AL.wk (ahN t mJ h hl) k
def fQ{c:Code}(t:Nat)(mJ:AV){av:AV}(h:lk s.sl t=some av)(hl:AV.le av mJ)(k:AW P c Q ⟨s.n,(t,mJ)::s.sl,s.hp⟩):AW P c Q s:=AW.wk (ahN t mJ h hl) k
end
def aS{T : TypeId -> Option TI}(hT : xZ P T){c : Code}{args : List DV}{r : AV}(n : Nat)(rs : List ResultVar)(hf : P.funcs[f]? = some fn)(hb : fn.body = some c)(hnm : (fn.name == "runtime.NumGoroutine") = false)(hn : fn.ntmps = n)(hrs : fn.results.toList = rs)(hlen : Nat.ble args.length n = true) 
  (h:AW P c (adh T rs r) ⟨n,zV 0 args,[]⟩):aH P f args r:=by subst hn;subst hrs;exact asI hT hf hb hnm hlen h
def Oo{α:Type}(Q:α->Prop)(L:α->Lf):Lf:=.sm ⟨λB w v=>∃x,Q x/\fP B w (L x) v,λ_ _ _ ⟨_,_,h⟩=>h.one,λ_ _ _ _ _ ⟨x,hq,h⟩ hk hB=>⟨x,hq,h.mv hk hB⟩⟩
def Iq{α:Type}{Q:α->Prop}{L:α->Lf}(x:α)(hq:Q x):AV.le (.d<|.o<|L x)<|.d<|.o<|Oo Q L:=λ_ _ _ _ h=>⟨x,hq,h⟩
def Me{α β:Type}{Q:α->Prop}{L:α->Lf}{R:β->Prop}{M:β->Lf}(h:∀x,Q x->∃y,R y/\∀B w v,fP B w (L x) v->fP B w (M y) v):∀B w v,fP B w (Oo Q L) v->fP B w (Oo R M) v:=λB w v ⟨x,hq,k⟩=>let ⟨y,hr,hl⟩:=h x hq;⟨y,hr,hl B w v k⟩
section
variable {P:Program} {ops:Array Oper} {Q:Qs} {l:List Oper} {s:AS} {o:Oper}
def kH{sl:List (Nat×AV)}{a:Act}{t:Nat}{av:AV}(h:gu ρ B w sl a)(hv:a.tmps[t]?=some v)(h':AR ρ B w av v):gu ρ B w ((t,av)::sl) a:=by intro u mJ hu;rw [aY] at hu;split at hu;simp_all;exact h u mJ hu
def UR{α:Type}{Qx:α->Prop}{L:α->Lf}{c:Code}(t:Nat)(h:lk s.sl t=some (.d<|.o<|Oo Qx L))(k:∀x,Qx x->AW P c Q ⟨s.n,(t,.d<|.o<|L x)::s.sl,s.hp⟩):AW P c Q s:=by exact atz
def mEx{α:Type}{Qx:α->Prop}{L:α->Lf}(t:Nat)(h:lk s.sl t=some (.d<|.o<|Oo Qx L))(k:∀x,Qx x->AL P ops Q l ⟨s.n,(t,.d<|.o<|L x)::s.sl,s.hp⟩):AL P ops Q l s:=by exact atz
def mSo(hT:xZ P T)(ty id2 id:Nat){V3:AO}(obx:Value->AO)(h1:lk s.sl ty=some (.q id2))(h2:lk s.hp id2=some V3)(h:∀x,evS T ⟨s.n,(ty,.d<|.o<|.v x)::s.sl,(id2,.i x V3)::s.hp⟩ o.op=some (id,obx x)) 
  (k:∀x,AL P ops Q l<|AS.put ⟨s.n,s.sl,(id,obx x)::(id2,.i x V3)::s.hp⟩ o.dst .D) (hg:jD ops s o=some true:=by rfl) (hd:jQ o.dst s.n=true:=by rfl):AL P ops Q (o::l) s:=by
 rintro B0 w0 a w ⟨ρ,hc,hn,hdf,hs⟩;have⟨x,hx,hρ,ag,nn,cap,hsl⟩:=hs ty _ h1;have hone:x.oneCell'=true:=by subst hsl;rfl
 have hc2:gq ρ B0 w0 w ((id2,.i x V3)::s.hp):=⟨hc.bel,hc.b0,λj v hj=>by
  have⟨ob,q1,q2⟩:=hc.obj j v hj
  by_cases e:id2=j
  ·subst e
   rw [h2] at q1;cases q1
   have:v=x:=by rw [hρ] at hj;cases hj;rfl
   exact azS
  ·exact⟨ob,by rw [aY,if_neg e];exact q1,q2⟩,hc.dist⟩
 have hs2:gu ρ (Bd ρ B0) w ((ty,.d<|.o<|.v x)::s.sl) a:=kH hs hx ⟨O,hone⟩;have⟨w',hr,hc',hk⟩:=XL hT (s:=⟨s.n,(ty,.d<|.o<|.v x)::s.sl,(id2,.i x V3)::s.hp⟩) hs2 hc2<|h x;have dW:gu ρ (Bd ρ B0) w' s.sl a:=λt av ht=>let ⟨u,q1,q2⟩:=hs t av ht;⟨u,q1,AR.mv hk (λ_ _ hB=>hB) (λ_ _=>rfl) q2⟩
 exact Oe aDG hr<|k x B0 w0 _ w'<|kS (s:=⟨s.n,s.sl,(id,obx x)::(id2,.i x V3)::s.hp⟩) hc' hn hdf dW hd trivial
def acE{s:AS}(t tw id:Nat){x:Value}{ob:AO}(h1:lk s.sl t=some (.d (.o (.v x))))(hw:lk s.sl tw=some (.q id))(h2:lk s.hp id=some (.i x ob)):Wk s ⟨s.n,(t,.q id)::s.sl,(id,ob)::s.hp⟩:=by rintro B0 w0 a w ⟨ρ,hc,hn,hdf,hs⟩;obtain⟨v,hv,e,_⟩:=hs t _ h1;subst e;obtain⟨v',hv',hρ,hsl⟩:=hs tw _ hw;obtain⟨ob',q1,q2⟩:=hc.obj id v' hρ;rw [h2] at q1;cases q1;obtain⟨e,q2⟩:=q2;subst e;refine⟨ρ,⟨hc.bel,hc.b0,λj u hj=>?_,hc.dist⟩,hn,hdf,kH hs hv ⟨hρ,hsl⟩⟩;by_cases e:id=j;subst e;rw [hρ] at hj;cases hj;exact⟨ob,by rw [aY,if_pos rfl],q2⟩;obtain⟨ob',r1,r2⟩:=hc.obj j u hj;exact⟨ob',by rw [aY,if_neg e];exact r1,r2⟩
def awQ{s:AS}(tw id bid:Nat){x:Value}{T:TypeId}(iP post:List Lf)(hw:lk s.sl tw=some (.q id))(h:lk s.hp id=some (.i x<|.a e sz n el))(hb:lk s.hp bid=some (.b T (iP++.v x::post)))(hne:bid≠id):
  Wk s ⟨s.n,ZM id (.d<|.o<|.a sz n el) (λ_=>.D) s.sl,(bid,.b T (iP++.a sz n el::post))::dk s.hp id⟩:=by rintro B0 w0 a w ⟨ρ,hc,hsz,hdf,hs⟩;have hK:nH (Bd ρ B0) w w:=aCu;obtain⟨v,hv,bJ,hslc⟩:=hs tw _ hw;have hrow:v=x/\fP (Bd (less ρ id) B0) w (.a sz n el) v:=(by obtain⟨ob,o1,o2⟩:=hc.obj id v bJ;rw [h] at o1;cases o1;obtain⟨hvx,xs,⟨⟨hxl,hown⟩,hbk⟩,hel⟩:=o2;refine⟨hvx,?_⟩;rcases hown with⟨rfl,h0⟩|⟨g,cap,cur,rfl,hge,hblk,hn,hm,hsz',htk⟩;subst h0;exact ao1;refine⟨some ⟨g,0,none⟩,cap,O,hn,λh=>aEP,λi hi=>⟨g,0,O,hc.lone bJ O,lt_of_block hblk,λj hj=>?_⟩⟩;obtain⟨x,hx1,hx2⟩:=hel i j hi hj;refine⟨x,?_,fP.mv hK (λb _ hb=>Gw b hb) _ hx2⟩;rw [Nat.zero_add,cell_of_row w g _ cur _ (0,0) hblk,<-Array.getElem?_toList];rw [<-htk,List.getElem?_take] at hx1;split at hx1;exact hx1;cases hx1);obtain⟨rfl,hrow⟩:=hrow;have hl:=hc.less (id:=id);refine⟨less ρ id,⟨hl.bel,hl.b0,λj u hj=>?_,hl.dist⟩,hsz,hdf,λt av ht=>?_⟩;obtain⟨ob,q1,q2⟩:=hl.obj j u hj;by_cases ej:bid=j;(subst ej;rw [VK,if_neg<|λe=>hne e.symm,hb] at q1;cases q1;obtain⟨g,vs,e1,e2,e3,e4⟩:=q2;refine⟨.b T (iP++.a sz n el::post),by rw [aY,if_pos O],(?_:∃g vs,u=.pointer (some ⟨g,0,none⟩)/\w0.own g/\ou w g T vs/\jg (Bd (less ρ id) B0) w (iP++.a sz n el::post) vs)⟩;refine⟨g,vs,e1,e2,e3,?_⟩;clear e1 e2 e3 hb;revert vs;induction iP with|nil=>(intro vs e4;cases vs with|nil=>exact e4.elim|cons c cs=>obtain⟨⟨rfl,_⟩,e5⟩:=e4;exact⟨hrow,e5⟩)|cons p iP ih=>(intro vs e4;cases vs with|nil=>exact e4.elim|cons c cs=>exact⟨e4.1,ih cs e4.2⟩));exact⟨ob,by rw [aY,if_neg ej];exact q1,q2⟩;obtain⟨mJ,h1,rfl⟩:=xO _ _ _ ht;obtain⟨c,h2,h3⟩:=hs t mJ h1;exact⟨c,h2,h3.fz bJ (λ_=>hrow)<|λ_ _ _=>trivial⟩
end
def Xf(ρ:lq)(B:BS)(w:World):List AV->List Value->Prop
 |[],[]=>True
 |a::l,v::vs=>AR ρ B w a v/\Xf ρ B w l vs
 |_,_=>False
def AP(ρ:lq):BS:=λb=>∃id v,ρ id=some v/\kK v=some b
structure dA(P:Program)(f:FuncId)(args:List AV)(hp:List<|Nat×AO)(wi wo:List Nat)(Q:AV->List (Nat×AO)->Prop):Prop where
 en:∀vs w,(callFunc f vs).run P w=.ok (.enter f vs) w
 go:∀ρ B w vs,gq ρ B ⟨w,AP ρ⟩ w hp->Al ρ wi->Xf ρ (Bd ρ B) w args vs->Calls P f vs.toArray w λe w'=>
  ∃v ρ' r hp',e=.returned v/\Q r hp'/\gq ρ' B ⟨w,AP ρ⟩ w' hp'/\Al ρ' wo/\AR ρ' (Bd ρ' B) w' r v
def zW:Nat->List AV->List (Nat×AV)
 |_,[]=>[]
 |i,d::ds=>(i,d)::zW (i+1) ds
def NJ:∀{ds:List AV}{vs:List Value}{i t:Nat}{av:AV},Xf ρ B w ds vs->lk (zW i ds) t=some av->∃k v,t=i+k/\vs[k]?=some v/\AR ρ B w av v
 |[],[],i,t,av,_,h=>by cases h
 |d::ds,v::vs,i,t,av,hd,h=>by
  unfold zW at h;rw [aY] at h;split at h
  ·rename_i e
   cases h
   exact⟨0,v,by omega,O,hd.1⟩
  ·have⟨k,u,h1,h2,h3⟩:=NJ hd.2 h
   exact⟨k+1,u,by omega,by assumption,h3⟩
def Xf.len:∀{ls:List AV}{cs:List Value},Xf ρ B w ls cs->ls.length=cs.length
 |[],[],_=>rfl
 |_::_,_::_,h=>ah9 (· +1)<|Xf.len h.2
def Uy(P:Program)(s:AS)(rs:List ResultVar)(r:AV):Prop:=∀(ρ:lq) (B0:BS) (w0:Wz) (w:World) (a:Act),gq ρ B0 w0 w s.hp->gu ρ (Bd ρ B0) w s.sl a->∃vs:List Value,(rs.mapM<|rvF a.tmps).run P w=.ok vs w/\AR ρ (Bd ρ B0) w r (Yr vs)
def ig(hT:xZ P T){r:AV}(h:IW T s rs=some es)(k:AV.le (PX es) r):Uy P s rs r:=by intro ρ B0 w0 w a hc hs;have⟨vs,h1,h2⟩:=G9 hT hc hs _ _ h;exact⟨vs,h1,k _ _ _ _<|ag0 h2⟩
def iF{t:Nat}{av:AV}(h:lk s.sl t=some av):Uy P s [.tmp t] av:=by
 intro ρ B0 w0 w a hc hs;have⟨v,h1,h2⟩:=hs t _ h;refine⟨[v],?_,h2⟩;have hv:(rvF a.tmps<|.tmp t).run P w=.ok v w:=by simp [rvF,Array.getD_eq_getD_getElem?,h1]
 simp_all
def Ad(hT:xZ P T){t id:Nat}{e:DV}(h:lk s.sl t=some (.p id 0))(k:IW T s rs=some (e::es)):Uy P s (.tmp t::rs)<|.fO id (e::es):=by intro ρ B0 w0 w a hc hs;obtain⟨v,h1,g,h2,rfl⟩:=hs t _ h;have⟨vs,h3,h4⟩:=G9 hT hc hs _ _ k;have hv:(rvF a.tmps<|.tmp t).run P w=.ok (.pointer<|some ⟨g,0,none⟩) w:=(by simp [rvF,Array.getD_eq_getD_getElem?,h1]);refine⟨.pointer (some ⟨g,0,none⟩)::vs,?_,?_⟩;simp_all;cases vs with|nil=>exact h4.elim|cons u us=>exact⟨g,h2,u::us,rfl,h4⟩
def abe(P:Program)(rs:List ResultVar)(wo:List Nat)(Q:AV->List (Nat×AO)->Prop):Qs
 |.normal,s|.ret,s=>∃r0 r hp' sl',Q r hp'/\Uy P s rs r0/\Wk ⟨s.n+1,(s.n,r0)::s.sl,s.hp⟩ ⟨s.n+1,(s.n,r)::sl',hp'⟩/\gW (λid=>∃t av,lk ((s.n,r)::sl') t=some av/\nJ av=some id) wo
 |_,_=>False
def rL{Q:AV->List (Nat×AO)->Prop}(r0 r:AV)(hp':List<|Nat×AO)(sl':List<|Nat×AV)(h1:Q r hp')(h2:Uy P s rs r0)(h3:Wk ⟨s.n+1,(s.n,r0)::s.sl,s.hp⟩ ⟨s.n+1,(s.n,r)::sl',hp'⟩)(h4:gW (λid=>∃t av,lk ((s.n,r)::sl') t=some av/\nJ av=some id) wo):abe P rs wo Q .ret s:=⟨r0,r,hp',sl',h1,h2,h3,h4⟩
def rLn{Q:AV->List (Nat×AO)->Prop}(r0 r:AV)(hp':List<|Nat×AO)(sl':List<|Nat×AV)(h1:Q r hp')(h2:Uy P s rs r0)(h3:Wk ⟨s.n+1,(s.n,r0)::s.sl,s.hp⟩ ⟨s.n+1,(s.n,r)::sl',hp'⟩)(h4:gW (λid=>∃t av,lk ((s.n,r)::sl') t=some av/\nJ av=some id) wo):abe P rs wo Q .normal s:=⟨r0,r,hp',sl',h1,h2,h3,h4⟩
def an3{c : Code}{args : List AV}{hp : List (Nat × AO)}{Q : AV -> List (Nat × AO) -> Prop}(ws : List (Nat × Nat))(hf : P.funcs[f]? = some fn)(hb : fn.body = some c)(hnm : (fn.name == "runtime.NumGoroutine") = false)(hlen : Nat.ble args.length fn.ntmps = true) 
  (hws:∀t id,(t,id)∈ws->args.length<=t/\t<fn.ntmps/\id∈wi)
  (h:AW P c (abe P fn.results.toList wo Q) ⟨fn.ntmps,zW 0 args++ws.map λp=>(p.1,.w p.2),hp⟩):dA P f args hp wi wo Q:=by
 refine⟨λvs w=>?_,fun ρ B w vs hc hal hvs=>?_⟩
 ·have hnm' : ¬ fn.name = "runtime.NumGoroutine" := aCj;simp [callFunc,hf,hb,hnm']
 ·refine calls_of_wp hf hb ?_;have hle:=acN hlen;have hvl:=hvs.len;have hden:Ou ⟨fn.ntmps,zW 0 args++ws.map λp=>(p.1,.w p.2),hp⟩ B ⟨w,AP ρ⟩ {tmps:=vs.toArray++Array.replicate (fn.ntmps-vs.toArray.size) undef,defers:= []} w:=(by refine⟨ρ,hc,by simp;omega,O,λt av ht=>?_⟩;have key:∀{l1 l2:List (Nat×AV)} {t:Nat} {av:AV},lk (l1++l2) t=some av->lk l1 t=some av\/(t,av)∈l2:=(by intro l1;induction l1 with |nil=>intro l2 t av h;exact Or.inr (oG h) |cons p l1 ih=>intro l2 t av h;have⟨k,x⟩:=p;rw [List.cons_append,aY] at h;rw [aY];grind);rcases key ht with ht | ht;have⟨k,v,h1,h2,h3⟩:=NJ hvs ht;refine⟨v,?_,h3⟩;have hk:=(acf.1 h2).1;rw [h1,Nat.zero_add,Array.getElem?_append_left aGX];simpa using h2;have⟨p,hp1,hp2⟩:=List.mem_map.1 ht;have⟨t',id⟩:=p;cases hp2;have⟨h1,h2,h3⟩:=hws _ _ hp1;have⟨v,hv⟩:=hal id h3;refine⟨undef,?_,v,hv⟩;rw [Array.getElem?_append_right aEg,Array.getElem?_replicate,if_pos aEg]);refine Code.wp_mono (λe a w' hq=>?_) (h B ⟨w,AP ρ⟩ _ w hden);have⟨s',hq,ρ1,hc1,hn1,afb,hs1⟩:=hq;have fin:(∃r0 r hp' sl',Q r hp'/\Uy P s' fn.results.toList r0/\Wk ⟨s'.n+1,(s'.n,r0)::s'.sl,s'.hp⟩ ⟨s'.n+1,(s'.n,r)::sl',hp'⟩/\gW (λid=>∃t av,lk ((s'.n,r)::sl') t=some av/\nJ av=some id) wo)->
    ∃v,(results fn a.tmps).run P w'= .ok v w'/\∃u ρ' r hp',Ending.returned v= .returned u/\Q r hp'/\gq ρ' B ⟨w,AP ρ⟩ w' hp'/\Al ρ' wo/\AR ρ' (Bd ρ' B) w' r u:=by
   rintro⟨r0,r,hp',sl',h1,h2,h3,h4⟩;have⟨us,h5,h6⟩:=h2 ρ1 B ⟨w,AP ρ⟩ w' a hc1 hs1;have hd2:Ou ⟨s'.n+1,(s'.n,r0)::s'.sl,s'.hp⟩ B ⟨w,AP ρ⟩ {a with tmps:=a.tmps.push (Yr us)} w':=by
    refine⟨ρ1,hc1,by simp [hn1],afb,λt av ht=>?_⟩;rw [aY] at ht;split at ht
    ·grind
    ·have⟨v,q1,q2⟩:=hs1 t av ht
     have:=(akv.1 q1).1;exact⟨v,by rw [Array.getElem?_push_lt this];rw [Array.getElem?_eq_getElem this] at q1;exact q1,q2⟩
   have⟨ρ2,hc2,hn2,_,hs2⟩:=h3 _ _ _ _ hd2;have⟨v,q1,q2⟩:=hs2 s'.n r aCN;have:v=Yr us:=ψ
   subst this;refine⟨_,CX h5,_,ρ2,r,hp',O,h1,hc2,λid bJ=>?_,q2⟩;have⟨t,av,q3,q4⟩:=h4.get id bJ;have⟨v,_,q5⟩:=hs2 t av q3;exact tZ q4 q5
  cases e with
  | normal=>have⟨v,h1,h2⟩:=fin hq;exact⟨afb,v,h1,h2⟩
  | ret=>have⟨v,h1,h2⟩:=fin hq;exact⟨afb,v,h1,h2⟩
  | exit id=>assumption
  | goto l=>assumption
  | panic ch=>exact hq.elim
  | outgrown=>exact hq.elim
def cZ{c : Code}{args : List AV}{hp : List (Nat × AO)}{Q : AV -> List (Nat × AO) -> Prop}(n : Nat)(rs : List ResultVar)(ws : List (Nat × Nat))(hf : P.funcs[f]? = some fn)(hb : fn.body = some c)(hnm : (fn.name == "runtime.NumGoroutine") = false)(hn : fn.ntmps = n)(hrs : fn.results.toList = rs)(hlen : Nat.ble args.length n = true) 
  (hws:gW (λp=>args.length<=p.1/\p.1<n/\p.2∈wi) ws)
  (h:AW P c (abe P rs wo Q) ⟨n,zW 0 args++ws.map λp=>(p.1,.w p.2),hp⟩):dA P f args hp wi wo Q:=by subst hn;subst hrs;exact an3 ws hf hb hnm hlen (λt id hm=>hws.get _ hm) h
def rnO(m:List<|Nat×Nat):AV->Option AV
 |.d x=>some<|.d x
 |.p i o=>match lk m i with
  |some j=>some<|.p j o
  |none=>none
 |.q i=>match lk m i with
  |some j=>some<|.q j
  |none=>none
 |_=>none
def AV.rn(m:List<|Nat×Nat):AV->AV
 |.p i o=>match lk m i with
  |some j=>.p j o
  |none=>.D
 |.q i=>match lk m i with
  |some j=>.q j
  |none=>.D
 |.fO i xs=>match lk m i with
  |some j=>.fO j xs
  |none=>.D
 |.d x=>.d x
 |.dY xs=>.dY xs
 |_=>.D
variable {Q:AV->List (Nat×AO)->Prop}{args:List AV}{sl':List (Nat×AV)}{av v0 v1 res v2:AV}
def Yu(m:List<|Nat×Nat):List (Nat×AO)->List (Nat×AO)
 |[]=>[]
 |(i,ob)::l=>match lk m i with
  |some j=>(j,ob)::Yu m l
  |none=>Yu m l
def RI:List (Nat×Nat)->Bool
 |[]=>true
 |(_,j)::l=>l.all (λp=> !Nat.beq p.2 j) && RI l
def Ku:∀{m:List (Nat×Nat)},RI m=true->∀{i i' j:Nat},lk m i=some j->lk m i'=some j->i=i'
 |[],_,_,_,_,h,_=>by cases h
 |(k,x)::l,h,i,i',j,h1,h2=>by
  unfold RI at h;rw [Bool.and_eq_true] at h;rw [aY] at h1 h2;have no:∀q,lk l q=some x->False:=λq hq=>by
   have:=ac6.1 h.1 _<|oG hq;simp_all
  split at h1 <;> split at h2
  ·omega
  ·simp_all
  ·simp_all
  ·exact Ku h.2 h1 h2
def afQ(hm:RI m=true){l:List (Nat×AO)}(h:lk m i=some j):∀(hp:List<|Nat×AO),lk (Yu m hp++l) j=match lk hp i with|some ob=>some ob|none=>lk l j
 |[]=>rfl
 |(k,ob)::hp=>by
  have ih:=afQ hm (l:=l) h hp;rw [aY];unfold Yu
  by_cases e:k=i
  ·subst e
   rw [if_pos O,h];show lk ((j,ob)::(Yu m hp++l)) j=_
   exact azA
  ·rw [if_neg e]
   cases hk:lk m k with
   |none=>omega
   |some j'=>
    show lk ((j',ob)::(Yu m hp++l)) j=_
    rw [aY,if_neg (λe2:j'=j=>e<|Ku hm aCj h)];omega
def PE{l:List (Nat×AO)}(h:∀i,lk m i≠some j):∀(hp:List<|Nat×AO),lk (Yu m hp++l) j=lk l j
 |[]=>rfl
 |(k,ob)::hp=>by
  have ih:=PE (l:=l) h hp;unfold Yu;cases hk:lk m k with
  |none=>omega
  |some j'=>
   show lk ((j',ob)::(Yu m hp++l)) j=_
   rw [aY,if_neg ψ];omega
def AO.SH:AO->Bool
 |.sz _=>false
 |.i _ ob=>ob.SH
 |_=>true
def OR.lend{B':BS}{w1:Wz}(hn:ob.SH=true)(hB:∀b,b<w.heap.size->B' b->B b)(ho:∀b,kK v=some b->w1.own b)(h:OR B w0 w ob v):OR B' w1 w ob v:=by have hK:nH B w w:=aCu;induction ob with|b t cs=>obtain⟨g,vs,rfl,h1,h2,h3⟩:=h;exact⟨g,vs,O,ho g O,h2,h3.mv hK hB⟩|a e sz n el=>have⟨xs,⟨h1,h2⟩,h3⟩:=h;exact⟨xs,⟨h1,ho⟩,λi j hi hj=>let ⟨x,hx,hl⟩:=h3 i j hi hj;⟨x,hx,fP.mv hK hB _ hl⟩⟩|i x ob ih=>exact⟨h.1,ih hn h.2⟩|sz k=>cases hn|mp es=>obtain⟨g,uS,cl,rfl,h1,h2,h3⟩:=h;exact⟨g,uS,cl,O,ho g O,h2,h3⟩
def OR.back{B':BS}{w1:Wz}(hs:w1.sz<=w0.sz)(hB:∀b,b<w.heap.size->B' b->B b)(ho:∀b,w0.own b->w1.own b)(h:OR B w0 w ob v):OR B' w1 w ob v:=by have hK:nH B w w:=aCu;induction ob with|b t cs=>obtain⟨g,vs,rfl,h1,h2,h3⟩:=h;exact⟨g,vs,O,ho g h1,h2,h3.mv hK hB⟩|a e sz n el=>have⟨xs,⟨h1,h2⟩,h3⟩:=h;exact⟨xs,⟨h1,λb hb=>ho b<|h2 b hb⟩,λi j hi hj=>let ⟨x,hx,hl⟩:=h3 i j hi hj;⟨x,hx,fP.mv hK hB _ hl⟩⟩|i x ob ih=>exact⟨h.1,ih h.2⟩|sz k=>exact⟨h.1,acL hs h.2.1,h.2.2⟩|mp es=>obtain⟨g,uS,cl,rfl,h1,h2,h3⟩:=h;exact⟨g,uS,cl,O,ho g h1,h2,h3⟩
def BZ(ks kw:List Nat):List (Nat×AV)->List (Nat×AV)
 |[]=>[]
 |(t,av)::l=>(t,BX ks kw av)::BZ ks kw l
def Nl{kw:List Nat}:∀{l:List (Nat×AV)}{t:Nat}{av:AV},lk (BZ ks kw l) t=some av->∃mJ,lk l t=some mJ/\av=BX ks kw mJ
 |[],_,_,h=>by cases h
 |(k,x)::l,t,av,h=>by
  unfold BZ at h;rw [aY] at h;rw [aY];split at h
  ·simp_all
  ·rename_i e;rw [if_neg e];exact Nl h
def ags{k:Nat}(h:av.on k=true):nJ av=some k:=by cases av <;> first|(have:=abr h;rw [<-this];rfl)|cases h
def ax9{l:List Nat}(h:(l.any λk=>Nat.beq k i)=true):i∈l:=by simp_all
def oK(m:List<|Nat×Nat)(s:AS):List Operand->List AV->Prop
 |[],[]=>True
 |x::r,a::avs=>(∃a' b,dR s x=some a'/\AV.le a' b/\rnO m a=some b)/\oK m s r avs
 |_,_=>False
def oK.ok{ρc:lq}{Bc:BS}{a:Act}(hs:gu ρ B w s.sl a)(hB:∀b,b<w.heap.size->Bc b->B b)(hρ:∀i j,lk m i=some j->ρc i=ρ j):∀{xs:List Operand}{avs:List AV},oK m s xs avs->Xf ρc Bc w avs (xs.map a.eval)
 |[],[],_=>trivial
 |x::r,y::avs,⟨⟨a',b,h1,h2,h3⟩,h⟩=>by
  refine⟨?_,oK.ok hs hB hρ h⟩;have h4:=h2 _ _ _ _<|cu hs h1;cases y with
  |d d=>cases h3;exact DR.mv aCu hB h4
  |p i o=>
   simp only [rnO] at h3;split at h3
   ·rename_i j hj;cases h3;have⟨g,q1,q2⟩:=h4;exact⟨g,(hρ i j hj).trans q1,q2⟩
   ·grind
  |q i=>
   simp only [rnO] at h3;split at h3
   ·rename_i j hj;cases h3;have⟨q1,q2⟩:=h4;exact⟨(hρ i j hj).trans q1,q2⟩
   ·grind
  |_=>cases h3
 |[],_::_,h=>h.elim
 |_::_,[],h=>h.elim
def nwS(nw:List<|Nat×Nat×Nat):List<|Nat×AV:=nw.map λp=>(p.1,.w p.2.2)
open Classical in
def VB(h:dA P f args hp wi wo Q)(m mn:List<|Nat×Nat)(ks kw:List Nat){hpS:List (Nat×AO)} 
  (hob:gW (λp=>∃ob' ob,lk hpS p.2=some ob'/\lk hp p.1=some ob/\AO.le ob' ob/\ob.SH=true) m)
  (hmn:gW (λp=>lk hpS p.2=none/\lk m p.1=none) mn)
  (hks:gW (λp=>(ks.any λk=>Nat.beq k p.2)=true\/∃x b,lk hpS p.2=some (.i x b)/\p.1∈wo/\∀r hp',Q r hp'->∃d,lk hp' p.1=some (.i x d)) m)
  (hkw:gW (λj=>∃i,lk m i=some j/\i∈wo) kw) (hm:RI (mn++m)=true)
      (hcr:gq ρ B0 w0 w hpS) (hwi:∀i∈wi,∃j v,lk m i=some j/\ρ j=some v) {vs:List Value}
  (hav:∀(ρc:lq) (Bc:BS),(∀b,b<w.heap.size->Bd ρc Bc b->Bd ρ B0 b)->(∀i j,lk m i=some j->ρc i=ρ j)->Xf ρc (Bd ρc Bc) w args vs):
  Calls P f vs.toArray w λe w'=>∃v ρ2 r hp',e=.returned v/\Q r hp'/\gq ρ2 B0 w0 w' (Yu (mn++m) hp'++hpS)/\(∀av u,AR ρ (Bd ρ B0) w av u->AR ρ2 (Bd ρ2 B0) w' (BX ks kw av) u)/\(∀i j,i∈wo->lk (mn++m) i=some j->∃y,ρ2 j=some y)/\(∀j,(∀i,lk (mn++m) i≠some j)->ρ2 j=ρ j)/\AR ρ2 (Bd ρ2 B0) w' (r.rn<|mn++m) v:=by
 have hmm:∀i j,lk m i=some j->lk (mn++m) i=some j:=(by intro i j hi;rw [zQ];cases hq:lk mn i with|none=>omega|some j'=>have:=(hmn.get _<|oG hq).2;simp_all);have hm2:∀i j,lk (mn++m) i=some j->lk hpS j=none\/lk m i=some j:=(by intro i j hi;rw [zQ] at hi;cases hq:lk mn i with|none=>simp_all|some j'=>rw [hq] at hi;cases hi;exact Or.inl (hmn.get _<|oG hq).1);obtain⟨ρc,hρ0⟩:∃ρc:lq,ρc=λi=>match lk m i with|some j=>ρ j|none=>none:=ψ
 have hρc:∀i j,lk m i=some j->ρc i=ρ j:=ψ;have abU:∀i v,ρc i=some v->∃j,lk m i=some j/\ρ j=some v:=aDj;have hLo:∀b,AP ρc b->w0.own b/\b<w.heap.size:=(by rintro b ⟨i,v,h1,h2⟩;have⟨j,_,h3⟩:=abU i v h1;have⟨ob,_,h4⟩:=hcr.obj j v h3;exact h4.blk b h2);have hLB:∀b,AP ρc b->Bd ρ B0 b:=(by rintro b ⟨i,v,h1,h2⟩;have⟨j,_,h3⟩:=abU i v h1;exact aw7);obtain⟨Bc,hBc⟩:∃Bc:BS,Bc=λb=>Bd ρ B0 b/\¬AP ρc b:=ψ;have hBB:∀b,Bd ρc Bc b->Bd ρ B0 b:=(by rintro b (h1|h1);simp_all;exact hLB b h1);have hcc:gq ρc Bc ⟨w,AP ρc⟩ w hp:=(by refine⟨Oi.refl _ _,λb hb=>?_,λi v hv=>?_,λi i' v v' b h1 h2 h3 h4=>?_⟩;rw [hBc] at hb;exact⟨hcr.UO b hb.1,hb.2⟩;have⟨j,h1,h2⟩:=abU i v hv;have⟨ob',ob,h3,h4,h5,h6⟩:=hob.get _<|oG h1;have⟨ob1,h7,h8⟩:=hcr.obj j v h2;simp only at h3 h4;rw [h3] at h7;cases h7;exact⟨ob,h4,(h5 _ _ _ _ h8).lend h6 ψ<|λb hb=>Or.inr ⟨i,v,hv,hb⟩⟩;have⟨j,q1,q2⟩:=abU i v h1;have⟨j',q3,q4⟩:=abU i' v' h2;have:=hcr.dist j j' v v' b q2 q4 h3 h4;subst this;exact Ku hm (hmm _ _ q1)<|hmm _ _ q3);have hal:Al ρc wi:=(by intro i hi;grind);refine(h.go ρc Bc w _ hcc hal ψ).mono ?_;rintro e w' ⟨v,ρ',r,hp',rfl,hq,hc',hal',hv⟩;obtain⟨ρ2,hρ2⟩:∃ρ2:lq,ρ2=λj=>if hj:∃i,lk (mn++m) i=some j then ρ' hj.choose else ρ j:=ψ;have h2a:∀i j,lk (mn++m) i=some j->ρ2 j=ρ' i:=(by intro i j hi;have hj:∃i,lk (mn++m) i=some j:=ψ;rw [hρ2];simp only [dif_pos hj];rw [Ku hm hj.choose_spec hi]);have h2b:∀j,(∀i,lk (mn++m) i≠some j)->ρ2 j=ρ j:=aDj;have hcase:∀j,(∃i,lk (mn++m) i=some j)\/∀i,lk (mn++m) i≠some j:=aDj;have hK:nH (Bd ρ B0) w w':=⟨hc'.bel.size,λb hb hB=>hc'.bel.blk b hb ψ⟩;have aoY:∀j v b,(∀i,lk (mn++m) i≠some j)->ρ j=some v->kK v=some b->¬AP ρc b:=(by rintro j v b hj h1 h2 ⟨i,u,q1,q2⟩;have⟨j',q3,q4⟩:=abU i u q1;have:=hcr.dist j j' v u b h1 q4 h2 q2;grind);have hB2:∀b,Bd ρ2 B0 b->Bd ρ' Bc b:=(by rintro b (hb|⟨j,u,q1,q2⟩);refine Or.inl ?_;rw [hBc];refine⟨Or.inl hb,λhL=>?_⟩;have⟨h1,h2⟩:=hcr.b0 b hb;rcases(hLo b hL).1 with h3|h3;omega;grind;rcases hcase j with⟨i,hi⟩|hj;exact aw7;rw [h2b j hj] at q1;refine Or.inl ?_;rw [hBc];exact⟨Or.inr ψ,aoY j u b hj q1 q2⟩);have hB3:∀b,b<w.heap.size->Bd ρ2 B0 b->Bd ρ B0 b:=(by intro b hlt hb;rcases hB2 b hb with h1|⟨i,u,q1,q2⟩;grind;have⟨ob,_,ho⟩:=hc'.obj i u q1;rcases(ho.blk b q2).1 with h1|h1;exact absurd h1<|Nat.not_le_of_lt hlt;grind);refine⟨v,ρ2,r,hp',O,hq,?_,λav u q3=>?_,λi j hi hj=>?_,h2b,?_⟩
 ·refine⟨hcr.bel.put hc'.bel.os hc'.bel.tape hc'.bel.output hc'.bel.size (g:=AP ρc) ψ<|λb hb hL=>hc'.bel.blk b hb hL,hcr.b0,λj u hu=>?_,λj j' u u' b h1 h2 h3 h4=>?_⟩;rcases hcase j with⟨i,hi⟩|hj;rw [h2a i j hi] at hu;have⟨ob,q1,q2⟩:=hc'.obj i u hu;exact⟨ob,by rw [afQ hm hi,q1],OR.back (w0:=⟨w,AP ρc⟩) hcr.bel.size ψ (λb hb=>hb.elim (λh=>Or.inl<|acL hcr.bel.size h) ψ) q2⟩;rw [h2b j hj] at hu;have⟨ob,q1,q2⟩:=hcr.obj j u hu;exact⟨ob,by rw [PE hj];omega,q2.mv hK hB3 (λb hb=>hc'.bel.blk b (q2.blk b hb).2 ψ)⟩;have mix:∀i j j' u u',lk (mn++m) i=some j->(∀i,lk (mn++m) i≠some j')->ρ' i=some u->ρ j'=some u'->kK u=some b->kK u'=some b->False:=(by intro i j j' u u' hi hj q1 q2 q3 q4;have⟨ob,_,ho⟩:=hc'.obj i u q1;have⟨ob',_,eG⟩:=hcr.obj j' u' q2;rcases(ho.blk b q3).1 with h5|h5;exact absurd h5<|Nat.not_le_of_lt (eG.blk b q4).2;grind);rcases hcase j with⟨i,hi⟩|hj <;> rcases hcase j' with⟨i',hi'⟩|hj';rw [h2a i j hi] at h1;rw [h2a i' j' hi'] at h2;have:=hc'.dist i i' u u' b h1 h2 h3 h4;grind;rw [h2a i j hi] at h1;rw [h2b j' hj'] at h2;grind;rw [h2b j hj] at h1;grind;rw [h2b j hj] at h1;rw [h2b j' hj'] at h2;exact hcr.dist j j' u u' b h1 h2 h3 h4
 ·unfold BX;cases hi:nJ av with|none=>exact AR.mv hK hB3 (λk hk=>by rw [ags hk] at hi;grind) q3|some j=>(simp only;cases hkk:ks.any λk=>Nat.beq k j with|true=>(rw [cond_true];cases hww:kw.any λk=>Nat.beq k j with|true=>have⟨i,q4,q5⟩:=hkw.get _<|ax9 hww;have⟨y,hy⟩:=hal' i q5;exact⟨y,(h2a i j<|hmm _ _ q4).trans hy⟩|false=>trivial)|false=>(rw [cond_false];refine AR.mv hK hB3 (λk hk=>?_) q3;rw [ags hk] at hi;cases hi;have⟨y,hy⟩:=tZ (ags hk) q3;have⟨ob,q4,q5⟩:=hcr.obj j y hy;rcases hcase j with⟨i,hi⟩|hj;rcases hm2 i j hi with q6|q6;grind;rcases hks.get _ (oG q6) with q7|⟨x,b,q7,q8,q9⟩;grind;simp only at q7 q8 q9;rw [q7] at q4;cases q4;have⟨d,q10⟩:=q9 r hp' hq;have⟨z,hz⟩:=hal' i q8;have⟨V3,q11,q12⟩:=hc'.obj i z hz;rw [q10] at q11;cases q11;rw [h2a i j hi,hz,hy,q12.1,q5.1];grind))
 ·have⟨y,hy⟩:=hal' i hi;grind
 ·have hK0:nH (Bd ρ' Bc) w' w':=aCu;cases r with|d x=>exact DR.mv hK0 ψ hv|dY xs=>have⟨cs,q1,q2⟩:=hv;exact⟨cs,q1,q2.mv hK0 ψ⟩|p i off=>simp only [AV.rn];split;rename_i j hj;have⟨g,q1,q2⟩:=hv;exact⟨g,(h2a i j hj).trans q1,q2⟩;trivial|q i=>simp only [AV.rn];split;rename_i j hj;have⟨q1,q2⟩:=hv;exact⟨(h2a i j hj).trans q1,q2⟩;trivial|fO i xs=>simp only [AV.rn];split;rename_i j hj;have⟨g,q1,cs,q2,q3⟩:=hv;exact⟨g,(h2a i j hj).trans q1,cs,q2,q3.mv hK0 ψ⟩;trivial|_=>trivial
section
variable {P:Program} {o:Oper} {s:AS}
def rF{c:Call}(hc:gX op=some c):op=.call c:=by unfold gX at hc;grind
def Wv{c:Call}{a:Act}(hs:gu ρ B w s.sl a)(hc:gX o.op=some c)(hf:isF c.callee=some f)(hen:∀vs w,(callFunc f vs).run P w=.ok (.enter f vs) w):(execOp a.eval o).run P w=.ok (.enter f (c.args.toList.map a.eval).toArray) w:=by
 have hop:=rF hc;have hf2:=MV (s:=s) hf;unfold Rl at hf2;split at hf2
 ·rename_i x qU
  split at hf2
  ·rename_i f' n caps hx
   have⟨vs,hxe,hsz,hj⟩:=(cu hs hx:fP _ _ _ _);simp only [Option.some.injEq,Prod.mk.injEq] at hf2;obtain⟨rfl,hn0⟩:=hf2;cases n with
   |succ n=>simp [LJ] at hn0
   |zero=>
    have:vs=#[]:=ψ;subst this;unfold execOp;rw [hop];simp only [resolve,qU,Deferred.ofValue,hxe,Sem.run_bind,Sem.run_pure,Result.andThen_ok,invoke,hen];congr 2;grind
  simp_all
 simp_all
end
section
variable {P:Program} {s:AS} {o:Oper} {c:Call} {f:FuncId} {m:List (Nat×Nat)} {tX:List Nat} {args:List AV}
def aa8(P:Program)(s:AS)(o:Oper)(f:FuncId)(m:List<|Nat×Nat)(tX:List Nat)(args:List AV):Prop:=∀(ρ:lq) (B0:BS) (w0:Wz) (w:World) (a:Act) (hp:List<|Nat×AO) (s':AS),Ext s.hp hp->abg s s' o->gq ρ B0 w0 w hp->gu ρ (Bd ρ B0) w s'.sl a->Al ρ tX->(∀vs w,(callFunc f vs).run P w=.ok (.enter f vs) w)->
 ∃vs:List Value,(execOp a.eval o).run P w=.ok (.enter f vs.toArray) w/\∀(ρc:lq) (Bc:BS),(∀b,b<w.heap.size->Bd ρc Bc b->Bd ρ B0 b)->(∀i j,lk m i=some j->ρc i=ρ j)->Xf ρc (Bd ρc Bc) w args vs
def oK.congr:∀{xs:List Operand}{avs:List AV},(∀x∈xs,dR s x=dR s' x)->oK m s xs avs->oK m s' xs avs
 |[],[],_,_=>trivial
 |x::r,y::avs,hx,⟨⟨a',b,h1,h2,h3⟩,h⟩=>⟨ψ,oK.congr ψ h⟩
def oK.sees(hc:gX o.op=some c)(wL:abg s s' o)(ha:oK m s c.args.toList args):oK m s' c.args.toList args:=
 have hop:=rF hc
 ha.congr λx hx=>wL x aE8
def atb(hc:gX o.op=some c)(hf:isF c.callee=some f)(ha:oK m s c.args.toList args):aa8 P s o f m tX args:=
 λ_ _ _ _ _ _ _ _ wL _ hs _ hen=>⟨_,Wv hs hc hf hen,λ_ _ hB hρ=>oK.ok hs hB hρ<|ha.sees hc wL⟩
def Nh{ρc:lq}{Bc:BS}{p:Value}{T:TypeId}(hc:gq ρ B0 w0 w hp)(ho:lk hp j=some (.i p<|.b T cs))(hal:Al ρ tX)(hw:j∈tX)(hm:lk m i=some j)(hρ:∀i j,lk m i=some j->ρc i=ρ j):AR ρc (Bd ρc Bc) w (.p i 0) p:=by have⟨v,hv⟩:=hal j hw;have⟨ob,h1,h2⟩:=hc.obj j v hv;rw [ho] at h1;cases h1;obtain⟨rfl,g,vs,rfl,_⟩:=h2;exact⟨g,(hρ i j hm).trans hv,O⟩
def ayn{p:Value}{T:TypeId}(hc:gX o.op=some c)(qU:c.callee=.value x)(hx:dR s x=some (.d<|.o<|.v<|.func (.func f) #[p] #[]))(hm:lk m i=some j)(ho:lk s.hp j=some (.i p<|.b T cs))(hw:j∈tX)(ha:oK m s c.args.toList args):aa8 P s o f m tX (.p i 0::args):=by intro ρ B0 w0 w a hp s' hext wL hcr hs hal hen;have hop:=rF hc;have hxe:a.eval x=.func (.func f) #[p] #[]:=(by exact aq0);refine⟨p::c.args.toList.map a.eval,?_,fun ρc Bc hB hρ=>aEX⟩;unfold execOp;exact aq6
def OB{nm:String}{p:Value}{T:TypeId}(hc:gX o.op=some c)(qU:c.callee=.invoke x nm)(hx:dR s x=some (.d<|.o<|.v<|.iface t p))(hmt:∀vs w,(callMethod (.iface t p) nm vs).run P w=(callFunc f<|#[p]++vs).run P w)(hm:lk m i=some j)(ho:lk s.hp j=some (.i p<|.b T cs))(hw:j∈tX)(ha:oK m s c.args.toList args):aa8 P s o f m tX (.p i 0::args):=by intro ρ B0 w0 w a hp s' hext wL hcr hs hal hen;have hop:=rF hc;have hxe:a.eval x=.iface t p:=(by exact aq0);refine⟨p::c.args.toList.map a.eval,?_,fun ρc Bc hB hρ=>aEX⟩;unfold execOp;rw [hop];simp only [resolve,qU,hxe,Sem.run_bind,Sem.run_pure,Result.andThen_ok,invoke];have e1:∀vs:Array Value,(#[Value.iface t p]++vs)[0]?=some (.iface t p):=λvs=>(by rw [<-Array.getElem?_toList,Array.toList_append];rfl);have e2:∀vs:Array Value,(#[Value.iface t p]++vs).extract 1 (#[Value.iface t p]++vs).size=vs:=λvs=>aCj;simp only [e1,e2,hmt,hen];simp_all
def L8{p:Value}{T:TypeId}(hop:o.op=.makeFunc (.func f) #[x] #[])(hx:dR s x=some (.p j 0))(ho:lk s.hp j=some (.i p<|.b T cs)):EvM P s o<|.d<|.o<|.v<|.func (.func f) #[p] #[]:=by intro ρ B0 w0 w a hp s' hext wL hcr hs;have⟨g,h1,h2⟩:=(cu hs ((wL x aCz).symm.trans hx):AR _ _ _ _ _);have⟨ob,h3,h4⟩:=hcr.obj j _ h1;rw [hext _ _ ho] at h3;cases h3;obtain⟨rfl,_⟩:=h4;refine⟨_,?_,O,O⟩;unfold execOp;rw [hop];refine dP ?_;simp only [Instr.makeFunc];simp [h2]
end
def IE{ops:Array Oper}{Qx:Qs}{o:Oper}{l:List Oper}(h:dA P f args hp wi wo Q)(m mn:List (Nat×Nat))(ks kw:List Nat)(nw:List (Nat×Nat×Nat))(tX:List Nat)(he:aa8 P s o f m tX args)(hws:gW (λj=>∃t av,lk s.sl t=some av/\nJ av=some j) tX) 
  (hob:gW (λp=>∃ob' ob,lk s.hp p.2=some ob'/\lk hp p.1=some ob/\AO.le ob' ob/\ob.SH=true) m)
  (hmn:gW (λp=>lk s.hp p.2=none/\lk m p.1=none) mn)
  (hwi:gW (λi=>∃j t av,lk m i=some j/\lk s.sl t=some av/\nJ av=some j) wi)
  (hks:gW (λp=>(ks.any λk=>Nat.beq k p.2)=true\/∃x b,lk s.hp p.2=some (.i x b)/\p.1∈wo/\∀r hp',Q r hp'->∃d,lk hp' p.1=some (.i x d)) m)
  (hkw:gW (λj=>∃i,lk m i=some j/\i∈wo) kw)
  (hnw:gW (λp=>Nat.ble (p.1+1) s.n=true/\p.2.1∈wo/\lk (mn++m) p.2.1=some p.2.2) nw)
  (k:∀r hp',Q r hp'->AL P ops Qx l (AS.put ⟨s.n,nwS nw++BZ ks kw s.sl,Yu (mn++m) hp'++s.hp⟩ o.dst (r.rn (mn++m))))
  (hm:RI (mn++m)=true:=by rfl) (hg:jD ops s o=some true:=by rfl) (hd:jQ o.dst s.n=true:=by rfl):AL P ops Qx (o::l) s:=by
 rintro B0 w0 a w ⟨ρ,hcr,hn,hdf,hs⟩;have⟨vs,hrun,hvs⟩:=he ρ B0 w0 w a s.hp s (λ_ _ h=>h) (λ_ _=>rfl) hcr hs (λj hj=>by
  have⟨t,av,h1,h2⟩:=hws.get _ hj;have⟨u,_,h3⟩:=hs t av h1;exact tZ h2 h3) h.en
 refine Oc aDG hrun ((VB h m mn ks kw hob hmn hks hkw hm hcr (λi hi=>?_) hvs).mono ?_)
 ·have⟨j,t,av,h1,h2,h3⟩:=hwi.get _ hi
  have⟨u,_,h4⟩:=hs t av h2;have⟨v,h5⟩:=tZ h3 h4;simp_all
 rintro e w' ⟨v,ρ2,r,hp',rfl,hq,hcore,har,hal',_,hv'⟩;refine⟨v,rfl,k r hp' hq B0 w0 _ w' ?_⟩;have dW:gu ρ2 (Bd ρ2 B0) w' (nwS nw++BZ ks kw s.sl) a:=by
  intro t av ht;rw [zQ] at ht;cases hnq:lk (nwS nw) t with
  | some mJ=>
   rw [hnq] at ht;cases ht
   have⟨p,hp1,hp2⟩:=List.mem_map.1 (oG hnq);have⟨q1,q2,q3⟩:=hnw.get _ hp1;cases hp2
   have hlt:p.1<a.tmps.size:=by rw [hn];exact acN q1
   exact⟨a.tmps[p.1],Array.getElem?_eq_getElem hlt,hal' _ _ q2 q3⟩
  | none=>
  rw [hnq] at ht;obtain⟨mJ,q1,rfl⟩:=Nl ht;have⟨u,q2,q3⟩:=hs t mJ q1;simp_all
 exact kS (s:=⟨s.n,nwS nw++BZ ks kw s.sl,Yu (mn++m) hp'++s.hp⟩) hcore hn hdf dW hd hv'
def uj{ops:Array Oper}{Qx:Qs}{o:Oper}{l:List Oper}{c:Call}(h:dA P f args hp wi wo Q)(m mn:List<|Nat×Nat)(ks kw:List Nat)(nw:List<|Nat×Nat×Nat) 
  (hc:gX o.op=some c) (hf:isF c.callee=some f) (ha:oK m s c.args.toList args)
  (hob:gW (λp=>∃ob' ob,lk s.hp p.2=some ob'/\lk hp p.1=some ob/\AO.le ob' ob/\ob.SH=true) m)
  (hmn:gW (λp=>lk s.hp p.2=none/\lk m p.1=none) mn)
  (hwi:gW (λi=>∃j t av,lk m i=some j/\lk s.sl t=some av/\nJ av=some j) wi)
  (hks:gW (λp=>(ks.any λk=>Nat.beq k p.2)=true\/∃x b,lk s.hp p.2=some (.i x b)/\p.1∈wo/\∀r hp',Q r hp'->∃d,lk hp' p.1=some (.i x d)) m)
  (hkw:gW (λj=>∃i,lk m i=some j/\i∈wo) kw)
  (hnw:gW (λp=>Nat.ble (p.1+1) s.n=true/\p.2.1∈wo/\lk (mn++m) p.2.1=some p.2.2) nw)
  (k:∀r hp',Q r hp'->AL P ops Qx l (AS.put ⟨s.n,nwS nw++BZ ks kw s.sl,Yu (mn++m) hp'++s.hp⟩ o.dst<|r.rn<|mn++m))
  (hm:RI (mn++m)=true:=by rfl) (hg:jD ops s o=some true:=by rfl) (hd:jQ o.dst s.n=true:=by rfl):AL P ops Qx (o::l) s:=by exact IE h m mn ks kw nw [] (atb hc hf ha) trivial hob hmn hwi hks hkw hnw k hm hg hd
section
variable {P:Program} {ops:Array Oper} {Q:Qs} {l:List Oper} {s:AS} {o:Oper}
def gq.name{id:Nat}(hc:gq ρ B0 w0 w hp)(h:lk hp id=some ob):∃x,gq ρ B0 w0 w ((id,.i x ob)::hp):=by
 cases hρ:ρ id with
 |none=>exact⟨undef,hc.bel,hc.b0,λj v hj=>by
   have⟨ob',q1,q2⟩:=hc.obj j v hj;have hne:id≠j:=ψ
   exact⟨ob',by rw [aY,if_neg hne];omega,q2⟩,hc.dist⟩
 |some x=>exact⟨x,hc.bel,hc.b0,λj v hj=>by
   have⟨ob',q1,q2⟩:=hc.obj j v hj
   by_cases e:id=j
   ·subst e
    rw [h] at q1;cases q1
    rw [hρ] at hj;cases hj
    exact⟨.i x ob,by rw [aY,if_pos O],O,q2⟩
   ·exact⟨ob',by rw [aY,if_neg e];omega,q2⟩,hc.dist⟩
def cNm{c:Code}(id:Nat)(h:lk s.hp id=some ob)(k:∀x,AW P c Q ⟨s.n,s.sl,(id,.i x ob)::s.hp⟩):AW P c Q s:=by exact avg
def mNm(id:Nat)(h:lk s.hp id=some ob)(k:∀x,AL P ops Q l ⟨s.n,s.sl,(id,.i x ob)::s.hp⟩):AL P ops Q l s:=by exact avg
def WV(t tw id:Nat){x:Value}(h1:lk s.sl t=some (.d<|.o<|.v x))(hw:lk s.sl tw=some av)(hi:nJ av=some id)(h2:lk s.hp id=some (.i x ob)):Wk s ⟨s.n,(t,ob.un.av id)::s.sl,s.hp⟩:=by rintro B0 w0 a w ⟨ρ,hc,hn,hdf,hs⟩;have⟨v,hv,e,_⟩:=hs t _ h1;subst e;have⟨u,_,hu⟩:=hs tw _ hw;have⟨y,hy⟩:=tZ hi hu;have⟨ob',q1,q2⟩:=hc.obj id y hy;rw [h2] at q1;cases q1;have⟨e,q2⟩:=q2;subst e;exact⟨ρ,hc,hn,hdf,kH hs hv<|AO.BG q2.un hy⟩
def bD{id off:Nat}(hop:o.op=.nilCheck x)(hx:dR s x=some (.p id off)):YH P s o<|.p id off:=by intro ρ B w a ho;obtain⟨g,h1,e1⟩:AR ρ B w (.p id off) (a.eval x):=ho x aCz _ hx;refine⟨_,?_,g,h1,O⟩;unfold execOp;simp_all
def wR{elem:TypeId}{te:TI}{len:Nat}{ix:Operand}{d:DV}(hop:o.op=.index t x ix)(hu:P.underlying t=some (.array len elem))(hte:fJ P elem=some te)(hx:dR s x=some (.d<|.j ls))(hi:dR s ix=some (.d<|.o<|.v<|.int k ((i:Nat):Int)))(hlt:i<len)(hp:GR te ls (i*te.n)=some d):YH P s o<|.d d:=by intro ρ B w a ho;obtain⟨cs,hxe,hl⟩:DR B w (.j ls) (a.eval x):=ho x aCz _ hx;have hie:a.eval ix=.int k ((i:Nat):Int):=(ho ix aCz _ hi:fP _ _ _ _).1;have⟨v,hr,hv⟩:=V7 (P:=P) hte hp hl;have⟨inf,z,dd,h1,h2,h3,h4,_⟩:=dH hte;refine⟨v,?_,hv⟩;unfold execOp;rw [hop];refine dP ?_;rw [hxe,hie];have hz:0<=((i:Nat):Int)/\((i:Nat):Int)<(len:Int):=Z;simp only [Instr.index,asIntOf,Sem.run_bind,Sem.run_pure,Result.andThen_ok,run_underlying hu,sizeOf,typeInfo,run_program,h1,h4];simp_all
def NV{P:Program}(w:World)(d:Nat)(t e:TypeId)(a:Addr)(hu:P.underlying t=some (.pointer e)):(Op.equalIn (d+1) t (.pointer<|some a)<|.pointer none).run P w=.ok false w:=by simp [Op.equalIn,run_underlying hu]
def TF{P:Program}(w:World)(t e:TypeId)(a:Addr)(hu:P.underlying t=some (.pointer e)):(Op.equal t (.pointer<|some a)<|.pointer none).run P w=.ok false w:=NV w 9999 t e a hu
def xPn{y:Operand}{op:BinOp}{yt:TypeId}{id off:Nat}(b:Bool)(hop:o.op=.binOp op t x y yt)(hb:(op=.eql/\b=false)\/(op=.neq/\b=true))(hu:P.underlying t=some (.pointer e))(hx:dR s x=some (.p id off))(hy:dR s y=some (.d<|.o<|.v<|.pointer none)):YH P s o<|.d<|.o<|.v<|.bool b:=by
 intro ρ B w a ho;obtain⟨g,h1,e1⟩:AR ρ B w (.p id off) (a.eval x):=ho x aCz _ hx;have e2:a.eval y=.pointer none:=(ho y aCz _ hy:fP _ _ _ _).1;refine⟨.bool b,?_,O,O⟩;unfold execOp;rw [hop];refine dP ?_;rw [e1,e2];have hg:(eqGuard op t x y (.pointer<|some ⟨g,off,none⟩)<|.pointer none).run P w=.ok () w:=by cases op <;> rfl
 rw [Sem.run_bind,hg,Result.andThen_ok];rcases hb with⟨rfl,rfl⟩|⟨rfl,rfl⟩ <;> simp [binOp,TF w t e _ hu]
end
def gI(x:Rat):Int:=if x<0 then -1 else if 0<x then 1 else 0
def ku{x:Rat}(h:x<0):gI x= -1:=if_pos h
def jA{x:Rat}(h:0<x):gI x=1:=by unfold gI;grind
def qO:gI 0=0:=by rfl
def eU(x:Rat):(x<0/\gI x= -1)\/(x=0/\gI x=0)\/(0<x/\gI x=1):=by by_cases h:x<0;exact Or.inl ⟨h,ku h⟩;by_cases h2:0<x;exact Or.inr<|Or.inr ⟨h2,jA h2⟩;have:x=0:=ψ;subst this;exact Or.inr<|Or.inl ⟨O,qO⟩
def gK{x:Rat}:gI x=0↔x=0:=by rcases eU x with⟨h,e⟩|⟨h,e⟩|⟨h,e⟩ <;> rw [e] <;> constructor <;> intro h' <;> grind
def Hf(x y:Rat):gI (x*y)=gI x*gI y:=by rcases eU x with⟨h,e⟩|⟨h,e⟩|⟨h,e⟩ <;> rcases eU y with⟨k,f⟩|⟨k,f⟩|⟨k,f⟩ <;> rw [e,f];have:0<x*y:=(by have:=ac4 (a:= -x) (b:= -y) ψ ψ;grind);rw [jA this];rfl;simp_all;have:x*y<0:=(by have:=ac4 (a:= -x) (b:=y) ψ ψ;grind);rw [ku this];rfl;simp_all;simp_all;simp_all;have:x*y<0:=(by have:=ac4 (a:=x) (b:= -y) ψ ψ;grind);rw [ku this];rfl;simp_all;rw [jA<|Rat.mul_pos h k];rfl
def AY(last:Int):List Int->Nat
 |[]=>0
 |s::l=>if s=0 then AY last l else(if last= -s then 1 else 0)+AY s l
def vr(l:List Int):Nat:=AY 0 l
inductive Alk:Int->List Int->List Int->Prop
 |nil (s:Int):Alk s [] []
 |good {s a:Int}{l m:List Int} (h:a=1\/a= -1) (k:Alk a l m):Alk s (a::l) (a::m)
 |bad {s a b:Int}{l m:List Int} (h:a=1\/a= -1\/a=0) (h':b=1\/b= -1\/b=0) (k:Alk (-s) l m):Alk s (a::-s::l) (b::-s::m)
def Alk.vr{s:Int}{l m:List Int}(h:Alk s l m):(s=1\/s= -1)->AY s l=AY s m:=by induction h with|nil s=>omega|good h k ih=>intro _;rename_i a l m _;have ha:a≠0:=Z;simp only [AY,if_neg ha,ih h]|@bad s a b l m h h' k ih=>intro hs;have e:=ih Z;have key:∀c:Int,c=1\/c= -1\/c=0->∀q,AY s (c::-s::q)=1+AY (-s) q:=(by intro c hc q;show(if c=0 then AY s (-s::q) else(if s= -c then 1 else 0)+AY c (-s::q))=_;have g:∀t:Int,AY t (-s::q)=(if t=s then 1 else 0)+AY (-s) q:=(by intro t;show(if -s=0 then _ else(if t= - -s then 1 else 0)+AY (-s) q)=_;grind);grind);grind
abbrev Fn:=Rat->Rat
def YA(l:List Fn)(x:Rat):List Int:=l.map λf=>gI<|f x
def oL(x m:Rat):Prop:=m<=x\/x<=-m
def In(B x:Rat):Prop:= -B<=x/\x<=B
def Xl(B:Rat)(f:Fn)(L:Rat):Prop:=∀x y,In B x->In B y->x<=y->f y-f x<=L*(y-x)/\f x-f y<=L*(y-x)
def Gd(f:Fn)(x y:Rat):Prop:=gI (f x)≠0/\(∀t,x<=t->t<=y->gI (f t)=gI (f x))/\∃e,0<e/\∀t,x<=t->t<=y->oL (f t) e
def Aw{x:Rat}(h:gI x≠0):gI x=1\/gI x= -1:=by rcases eU x with⟨_,e⟩|⟨_,e⟩|⟨_,e⟩ <;> omega
def Yz(x:Rat):gI x=1\/gI x= -1\/gI x=0:=by rcases eU x with⟨_,e⟩|⟨_,e⟩|⟨_,e⟩ <;> omega
def Jj{B L m:Rat}{f:Fn}{x y:Rat}(hl:Xl B f L)(hL:0<=L)(hx:In B x)(hy:In B y)(hm:0<m)(hd:L*(y-x)<m)(hf:oL (f x) m):Gd f x y:=by have key:∀t,x<=t->t<=y->f t-f x<m/\f x-f t<m:=(by exact atL);have key2:∀t,x<=t->t<=y->f t-f x<=L*(y-x)/\f x-f t<=L*(y-x):=(by exact atL);rcases hf with hf|hf;have h0:gI (f x)=1:=jA ψ;refine⟨by omega,λt h1 h2=>?_,m-L*(y-x),by grind,λt h1 h2=>Or.inl ψ⟩;rw [h0];exact jA ψ;have h0:gI (f x)= -1:=ku ψ;refine⟨by omega,λt h1 h2=>?_,m-L*(y-x),by grind,λt h1 h2=>Or.inr ψ⟩;rw [h0];exact ku ψ
def Chn(B:Rat):Fn->Fn->List Fn->Prop
 |_,b,[]=>∃c,c≠0/\∀x,b x=c
 |a,b,c::l=>(∃(Q:Fn) (M k:Rat),0<=M/\0<k/\(∀x,In B x->-M<=Q x/\Q x<=M)/\∀x,a x=Q x*b x-k*c x)/\Chn B b c l
def Xm(B L:Rat)(l:List Fn):Prop:=∀f∈l,Xl B f L
def agc{q b M m:Rat}(h1: -M<=q)(h2:q<=M)(h3: -m<=b)(h4:b<=m): -(M*m)<=q*b/\q*b<=M*m:=by have a1:=acK (a:=M-q) (b:=m+b) ψ ψ;have a2:=acK (a:=M+q) (b:=m-b) ψ ψ;have a3:=acK (a:=M-q) (b:=m-b) ψ ψ;have a4:=acK (a:=M+q) (b:=m+b) ψ ψ;grind
def jl{L m:Rat}(hL:0<=L)(hm:0<m):∃d,0<d/\∀z,0<z->z<d->L*z<m:=by refine⟨m/(L+1),?_,λz hz h=>?_⟩;rw [Rat.div_def];exact ac4 hm<|Rat.inv_pos.2 ψ;have h1:(m/(L+1))*(L+1)=m:=ψ;have h2:z*(L+1)<(m/(L+1))*(L+1):=Rat.mul_lt_mul_of_pos_right h ψ;grind
def mP{a b:Rat}(ha:0<a)(hb:0<b):∃d,0<d/\d<=a/\d<=b:=by grind
def UZ{B:Rat}:∀(l:List Fn) (a b:Fn) (L:Rat),0<=L->Xm B L (a::b::l)->Chn B a b l->∃m d:Rat,0<m/\0<d/\(∀x,In B x->oL (a x) m\/oL (b x) m)/\
  ∀x y,In B x->In B y->x<y->y-x<d->(oL (b x) m->Gd b x y/\Alk (gI<|b x) (YA l x) (YA l y))/\(¬oL (b x) m->Gd a x y/\Alk (gI<|a x) (YA (b::l) x) (YA (b::l) y))
 |[],a,b,L,hL,ML,⟨c,hc,hbc⟩=>by
  obtain⟨m,hm,hf⟩:∃m:Rat,0<m/\oL c m:=by
   by_cases h:0<c
   ·exact⟨c,h,Or.inl ψ⟩
   ·exact⟨-c,by grind,Or.inr ψ⟩
  have⟨d,hd,hsm⟩:=jl hL hm;refine⟨m,d,hm,hd,λx _=>Or.inr aCj,λx y hx hy hxy h=>⟨λhfb=>⟨Jj (ML b aCY) hL hx hy hm ψ hfb,.nil _⟩,λhn=>absurd aCj hn⟩⟩
 |c::l,a,b,L,hL,ML,⟨⟨Q,M,k,hM,hk,hQ,hrel⟩,hch⟩=>by
  have⟨m',d',hm',hd',afi,hcell⟩:=UZ l b c L hL (λf hf=>ML f ψ) hch;have hpos:0<M+1+k:=ψ
  obtain⟨m,hmd⟩:∃m:Rat,m*(M+1+k)=m'*k:=⟨m'*k/(M+1+k),ai4 ψ⟩
  have hmk:=ac4 hm' hk;have hm:0<m:=by
   by_cases h:0<m
   ·exact h
   ·have:=acK (a:= -m) (b:=M+1+k) ψ ψ;grind
  have hle:m<=m':=by
   by_cases h:m'<m
   ·have h1:=ac4 (a:=m-m') (b:=M+1+k) ψ hpos;have h2:=acK (a:=m') (b:=M+1) ψ ψ;grind
   ·grind
  have hMm:M*m+m<k*m':=by have:=ac4 hk hm;grind
  have hsmall:∀x,In B x->¬oL (b x) m->oL (c x) m'/\oL (a x) m/\gI (c x)= - gI (a x):=by
   intro x hx hn;have hb: -m<=b x/\b x<=m:=(by unfold oL at hn;grind);have hc:oL (c x) m':=(by rcases afi x hx with h|h;exfalso;apply hn;rcases h with h|h;exact aw6;exact aw7;omega);have hq:=agc (hQ x hx).1 (hQ x hx).2 hb.1 hb.2;have ha:=hrel x;rcases hc with hc|hc
   ·have h1:k*m'<=k*c x:=aaJ hc ψ;have h2:a x<=-m:=ψ;exact⟨Or.inl hc,Or.inr h2,by rw [jA ψ,ku ψ];rfl⟩
   ·have h1:k*c x<=k*(-m'):=aaJ hc ψ;have h2:m<=a x:=ψ;exact⟨Or.inr hc,Or.inl h2,by rw [ku ψ,jA ψ]⟩
  have⟨d1,hd1,hsm⟩:=jl hL hm;have⟨d,hd,hle1,hle2⟩:=mP hd1 hd';refine⟨m,d,hm,hd,λx hx=>?_,λx y hx hy hxy h=>⟨λhf=>?_,λhn=>?_⟩⟩
  ·grind
  ·have hg:=Jj (ML b aCY) hL hx hy hm ψ hf
   refine⟨hg,?_⟩;have⟨h1,h2⟩:=hcell x y hx hy hxy ψ;by_cases hfc:oL (c x) m'
   ·have⟨hgc,hk⟩:=h1 hfc;show Alk _ (gI (c x)::YA l x) (gI (c y)::YA l y);rw [hgc.2.1 y ψ ψ];exact .good (Aw hgc.1) hk
   simp_all
  ·have⟨hfc,hfa,hs⟩:=hsmall x hx hn
   have⟨hgc,hk⟩:=(hcell x y hx hy hxy ψ).1 hfc;refine⟨Jj (ML a aCY) hL hx hy hm ψ hfa,?_⟩;show Alk _ (gI (b x)::gI (c x)::YA l x) (gI (b y)::gI (c y)::YA l y);rw [hgc.2.1 y ψ ψ,hs];exact .bad (Yz _) (Yz _) aCj
structure KY(f g:Fn)(l:List Fn):Prop where
 ch:∀B,Chn B f g l
 lip:∀B,∃L,0<=L/\Xm B L (f::g::l)
 y8:∃d,0<d/\∀B,∃E,0<=E/\∀s t,In B s->In B t->s<=t->(f t-f s)-(t-s)*(d*g s)<=(t-s)*((t-s)*E)/\(t-s)*(d*g s)-(f t-f s)<=(t-s)*((t-s)*E)
def Vr(f g:Fn)(l:List Fn)(x:Rat):Nat:=vr<|YA (f::g::l) x
def yZ(f g:Fn)(x:Rat):Int:=if gI (f x)=0 then gI (g x) else gI (f x)
def aa4{s t:Int}{q:List Int}(ht:t=1\/t= -1)(hs:s=1\/s= -1\/s=0):vr (s::t::q)=(if s= -t then 1 else 0)+AY t q:=by show(if s=0 then AY 0 (t::q) else(if(0:Int)= -s then 1 else 0)+AY s (t::q))=_;have g:∀u:Int,AY u (t::q)=(if u= -t then 1 else 0)+AY t q:=(by intro u;show(if t=0 then _ else(if u= -t then 1 else 0)+AY t q)=_;grind);grind
def aa5{s:Int}{q:List Int}(hs:s=1\/s= -1):vr (s::q)=AY s q:=by show(if s=0 then _ else(if(0:Int)= -s then 1 else 0)+AY s q)=_;grind
def arx(f g:Fn)(l:List Fn)(x y:Rat):Prop:=
 (Gd f x y/\Vr f g l x=Vr f g l y)\/
 ∃τ:Int,(τ=1\/τ= -1)/\(∀t,x<=t->t<=y->gI (g t)=τ)/\(∀s t,x<=s->s<t->t<=y->gI (f t-f s)=τ)/\Vr f g l x+(if gI (f y)= -τ then 1 else 0)=Vr f g l y+(if gI (f x)= -τ then 1 else 0)
def wE{f g:Fn}{l:List Fn}(h:KY f g l)(B:Rat):∃δ:Rat,0<δ/\(∀x,In B x->yZ f g x≠0)/\∀x y,In B x->In B y->x<y->y-x<δ->arx f g l x y:=by have⟨L,hL,ML⟩:=h.lip B;have⟨d,hd,abS⟩:=h.y8;have⟨E,hE,abS⟩:=abS B;have⟨m,δ1,hm,hδ1,afi,hcell⟩:=UZ l f g L hL ML<|h.ch B;have⟨δ2,hδ2,hs2⟩:=jl (L:=L) (m:=m/2) hL ψ;have hdm:0<d*(m/2):=ac4 hd ψ;have⟨δ3,hδ3,hs3⟩:=jl (L:=E) (m:=d*(m/2)) hE hdm;have⟨δ4,hδ4,h41,h42⟩:=mP hδ1 hδ2;have⟨δ,hδ,h1,h2⟩:=mP hδ4 hδ3;refine⟨δ,hδ,λx hx=>?_,λx y hx hy hxy hlt=>?_⟩;unfold yZ;split;rename_i h0;rcases afi x hx with hf|hf;rw [gK] at h0;rw [h0] at hf;rcases hf with hf|hf <;> grind;intro h3;rw [gK] at h3;rw [h3] at hf;rcases hf with hf|hf <;> grind;omega;have⟨c1,c2⟩:=hcell x y hx hy hxy ψ;by_cases hf:oL (g x) m;have⟨hg,hk⟩:=c1 hf;refine Or.inr ⟨gI<|g x,Aw hg.1,hg.2.1,λs t hs hst ht=>?_,?_⟩;have hsB:In B s:=aGM;have ZU:In B t:=aGM;have⟨e1,e2⟩:=abS s t hsB ZU ψ;have hE':E*(t-s)<d*(m/2):=hs3 _ ψ ψ;have Pg:L*(s-x)<=L*(y-x):=aaJ ψ hL;have hLy:L*(y-x)<m/2:=hs2 _ ψ ψ;have⟨g1,g2⟩:=ML g aCY x s hx hsB hs;rcases hf with hf|hf;have hgs:m/2<=g s:=ψ;have hdg:d*(m/2)<=d*g s:=aaJ hgs ψ;have:=ac4 (a:=t-s) (b:=d*g s-(t-s)*E) ψ ψ;rw [jA (x:=g x) ψ];exact jA ψ;have hgs:g s<=-(m/2):=ψ;have hdg:d*g s<=d*(-(m/2)):=aaJ hgs ψ;have:=ac4 (a:=t-s) (b:= -(d*g s)-(t-s)*E) ψ ψ;rw [ku (x:=g x) ψ];exact ku ψ;have e:∀z,Vr f g l z=vr (gI (f z)::gI (g z)::YA l z):=λ_=>rfl;rw [e x,e y,hg.2.1 y ψ ψ,aa4 (Aw hg.1)<|Yz _,aa4 (Aw hg.1)<|Yz _,hk.vr<|Aw hg.1];omega;have⟨hg,hk⟩:=c2 hf;refine Or.inl ⟨hg,?_⟩;have e:∀z,Vr f g l z=vr (gI (f z)::YA (g::l) z):=λ_=>rfl;rw [e x,e y,hg.2.1 y ψ ψ,aa5<|Aw hg.1,aa5<|Aw hg.1,hk.vr<|Aw hg.1]
def m1(n:Nat)(s:Int):Int:=if n%2=0 then s else -s
def apU(n m:Nat)(s:Int):m1 (n+m) s=m1 m (m1 n s):=by unfold m1;omega
structure Xn(f g:Fn)(l:List Fn)(a b:Rat)(N:Nat):Prop where
 v:Vr f g l a=Vr f g l b+N
 par:yZ f g b=m1 N (yZ f g a)
 nil:N=0↔∀t,a<t->t<=b->gI (f t)=yZ f g a
 mon:∀τ:Int,(τ=1\/τ= -1)->(∀t,a<=t->t<=b->gI (g t)=τ)->Vr f g l a+(if gI (f b)= -τ then 1 else 0)=Vr f g l b+(if gI (f a)= -τ then 1 else 0)
def BF{f g:Fn}{x:Rat}(h:gI (f x)≠0):yZ f g x=gI (f x):=if_neg h
def QD{f g:Fn}{x:Rat}(h:gI (f x)=0):yZ f g x=gI (g x):=if_pos h
def Cm{f g:Fn}{l:List Fn}{x y:Rat}(hxy:x<y)(h:arx f g l x y):∃N,N<=1/\Xn f g l x y N:=by
 rcases h with⟨⟨h0,hg,_⟩,hv⟩|⟨τ,hτ,hg,hm,hv⟩
 ·have hy:=hg y ψ ψ
  have ax:=BF (g:=g) h0;have ay:=BF (g:=g) (x:=y) (f:=f) Z;refine⟨0,by omega,⟨by omega,by rw [ax,ay,hy];rfl,⟨λ_ t h1 h2=>by rw [ax];exact hg t ψ h2,λ_=>rfl⟩,fun τ _ _=>by rw [hv,hy]⟩⟩
 ·have gx:=hg x ψ ψ
  have gy:=hg y ψ ψ;have hmy:=hm x y ψ hxy ψ;have mon:∀τ':Int,(τ'=1\/τ'= -1)->(∀t,x<=t->t<=y->gI (g t)=τ')->Vr f g l x+(if gI (f y)= -τ' then 1 else 0)=Vr f g l y+(if gI (f x)= -τ' then 1 else 0):=by
   grind
  have aei:∀s t,x<=s->s<t->t<=y->gI (f s)≠-τ->gI (f t)=τ:=by
   intro s t h1 h2 h3 h4;have h5:=hm s t h1 h2 h3
   rcases hτ with rfl|rfl
   ·rcases eU (f t-f s) with⟨k,e⟩|⟨k,e⟩|⟨k,e⟩ <;> rw [e] at h5 <;> try omega
    rcases eU (f s) with⟨k2,e2⟩|⟨k2,e2⟩|⟨k2,e2⟩
    ·omega
    ·grind
    ·exact jA ψ
   ·rcases eU (f t-f s) with⟨k,e⟩|⟨k,e⟩|⟨k,e⟩ <;> rw [e] at h5 <;> try omega
    rcases eU (f s) with⟨k2,e2⟩|⟨k2,e2⟩|⟨k2,e2⟩
    ·exact ku ψ
    ·grind
    omega
  have fall:∀t,x<=t->t<y->gI (f y)= -τ->gI (f t)= -τ:=by
   grind
  by_cases hs0:gI (f x)= -τ
  ·have ax:yZ f g x= -τ:=by rw [BF Z,hs0]
   by_cases ht0:gI (f y)= -τ
   ·have ay:yZ f g y= -τ:=by rw [BF Z,ht0]
    refine⟨0,by omega,⟨by simp_all,by rw [ax,ay];rfl,⟨λ_ t h1 h2=>?_,λ_=>rfl⟩,mon⟩⟩;grind
   ·have ay:yZ f g y=τ:=by
     unfold yZ;split
     ·omega
     ·have:=Yz<|f y;omega
    refine⟨1,by omega,⟨by simp_all,by rw [ax,ay];unfold m1;simp,⟨λh=>absurd h Z,λh=>?_⟩,mon⟩⟩;simp_all
  ·have ht:gI (f y)=τ:=aei x y ψ hxy ψ hs0
   have ax:yZ f g x=τ:=by
    unfold yZ;split
    ·omega
    ·have:=Yz<|f x;omega
   have ay:yZ f g y=τ:=by rw [BF Z,ht]
   refine⟨0,by omega,⟨by grind,by rw [ax,ay];rfl,⟨λ_ t h1 h2=>by rw [ax];exact aei x t ψ h1 h2 hs0,λ_=>rfl⟩,mon⟩⟩
def V6{f g:Fn}{l:List Fn}(a:Rat):Xn f g l a a 0:=⟨O,O,ψ,λ_ _ _=>rfl⟩
def aaB{f g:Fn}{l:List Fn}{a m b:Rat}(ham:a<=m)(hmb:m<=b)(h:Xn f g l a m N)(k:Xn f g l m b M):Xn f g l a b<|N+M:=by refine⟨by have:=h.v;have:=k.v;omega,by rw [k.par,h.par,apU],⟨λe t h1 h2=>?_,λe=>?_⟩,fun τ hτ hg=>?_⟩;obtain⟨rfl,rfl⟩:N=0/\M=0:=Z;by_cases htm:t<=m;exact h.nil.1 O t h1 htm;rw [k.nil.1 O t ψ h2,h.par];rfl;have hN:N=0:=h.nil.2 λt h1 h2=>e t h1 ψ;subst hN;have ha:yZ f g m=yZ f g a:=h.par;have hM:M=0:=k.nil.2 λt h1 h2=>aDj;omega;have h1:=h.mon τ hτ λt a1 a2=>hg t a1 ψ;have h2:=k.mon τ hτ λt a1 a2=>hg t ψ a2;omega
def MB{r d:Rat}(hd:0<d):∃n:Nat,r<=(n:Rat)*d:=by refine⟨((r/d).num.toNat),?_⟩;have h1:r/d<=(((r/d).num.toNat:Nat):Rat):=(by rw [Rat.le_iff,Rat.num_natCast,Rat.den_natCast];have h0:=(r/d).den_pos;have h3:((r/d).num.toNat:Int)*1<=((r/d).num.toNat:Int)*((r/d).den:Int):=Int.mul_le_mul_of_nonneg_left Z Z;omega);have h2:(r/d)*d=r:=ψ;have h3:=abV h1 (show(0:Rat)<=d by grind);grind
def qZ{f g:Fn}{l:List Fn}(h:KY f g l){a b:Rat}(hab:a<=b):∃N,Xn f g l a b N:=by obtain⟨B,hBa,hBb⟩:∃B,In B a/\In B b:=(by refine⟨(if a<0 then -a else a)+(if b<0 then -b else b),?_,?_⟩ <;> (unfold In;grind));have⟨δ,hδ,_,hcell⟩:=wE h B;have⟨n,hn⟩:=MB (r:=b-a) (d:=δ/2) ψ;have main:∀n:Nat,∀c,In B c->a<=c->c-a<=(n:Rat)*(δ/2)->∃N,Xn f g l a c N:=(by intro n;induction n with|zero=>intro c _ h1 h2; have : c = a := aDj;subst this; exact⟨0, V6 _⟩|succ n ih=>intro c hc h1 h2;have e:((n+1:Nat):Rat)=(n:Rat)+1:=aCj;rw [e] at h2;by_cases h3:c-a<=(n:Rat)*(δ/2);simp_all;by_cases h4:c-δ/2<=a;by_cases h5:a=c;subst h5;exact⟨0,V6 _⟩;have⟨N,_,hN⟩:=Cm ψ<|hcell a c hBa hc ψ ψ;grind;have hm:In B<|c-δ/2:=aGG;have⟨N,hN⟩:=ih (c-δ/2) hm ψ ψ;have⟨M,_,hM⟩:=Cm ψ<|hcell (c-δ/2) c hm hc ψ ψ;exact⟨N+M,aaB ψ ψ hN hM⟩);exact main n b hBb hab hn
def fH{z:Int}(h1: -9223372036854775808<=z:=by omega)(h2:z<=9223372036854775807:=by omega):IntKind.i64.wrap z=z:=by simp [IntKind.wrap,IntKind.bits,IntKind.signed];omega
def euc{x q r:Int}(h:x=y*q+r)(h0:0<=r)(h1:r<y.natAbs):q=x/y/\r=x%y:=by have hy:y≠0:=Z;have hr:r=x%y:=(by rw [h,Int.mul_add_emod_self_left];rcases Int.lt_or_gt_of_ne hy with h2|h2;rw [<-Int.emod_neg];exact(Int.emod_eq_of_lt h0 Z).symm;exact(Int.emod_eq_of_lt h0 Z).symm);refine⟨?_,hr⟩;have:=Int.mul_ediv_add_emod x y;rw [<-hr] at this;have h2:y*(x/y)=y*q:=Z;exact(Int.eq_of_mul_eq_mul_left hy h2).symm
def IsN(ls:List Lf)(K:Nat)(z:Int):Prop:=∀B w cs,jg B w ls cs->jg B w (zn K z) cs
def isn(K:Nat)(z:Int):IsN (zn K z) K z:=λ_ _ _ h=>h
def jZ(h:∀i,i<n->∀j,j<sz->∀B w c,fP B w (el i j) c->fP B w (el' i j) c):∀B w c,fP B w (.a sz n el) c->fP B w (.a sz n el') c:=by rintro B w c ⟨a,cap,rfl,h1,h2,h3⟩;refine⟨a,cap,O,h1,h2,λi hi=>?_⟩;grind
def jY(h:∀i,i<n->∀j,j<sz->∀B w c,fP B w (el i j) c->fP B w (el' i j) c):AO.le (.a e sz n el)<|.a e sz n el':=by rintro B w0 w v ⟨xs,h1,h2⟩;exact⟨xs,h1,λi j hi hj=>let ⟨x,hx,hl⟩:=h2 i j hi hj;⟨x,hx,h i hi j hj _ _ _ hl⟩⟩
def aX(K:Nat)(c:Nat->Int):Nat->Nat->Lf:=λi j=>((zn K<|c i)[j]?).getD<|.v undef
def o7(K:Nat)(f:Nat->Bool×List Nat):Nat->Nat->Lf:=λi j=>(([.v<|.bool (f i).1,lr K (f i).2]:List Lf)[j]?).getD<|.v undef
def bP(K n:Nat)(c:Nat->Int):Lf:=.a 2 n<|aX K c
def oz(K n:Nat)(f:Nat->Bool×List Nat):Lf:=.a 2 n<|o7 K f
def fzv(f:Nat->Bool×List Nat)(i:Nat):Int:=zv (f i).1<|val (f i).2
def kW(l:Lf)(K n:Nat)(c:Nat->Int):Prop:=(∃f,(∀B w v,fP B w l v->fP B w (oz K n f) v)/\∀i,i<n->fzv f i=c i)/\∀i,n<=i->c i=0
def iQ(h:∀i,n<=i->c i=0):kW (bP K n c) K n c:=
 ⟨⟨λi=>(decide<|c i<0,dS (c i).natAbs),λ_ _ _ h=>h,λi _=>by unfold fzv;simp only [];rw [eF];exact qA _⟩,h⟩
def YF(hk:K<=L)(h:∀i,i<n->c i=d i):∀i,i<n->∀j,j<2->∀B w v,fP B w (aX K c i j) v->fP B w (aX L d i j) v:=by intro i hi j hj B w v hv;unfold aX at *;rw [<-h i hi];match j,hj with|0,_=>exact hv|1,_=>exact lW hk _ _ _ hv
def qM(hk:K<=L)(h:∀i,i<n->c i=d i):∀B w v,fP B w (bP K n c) v->fP B w (bP L n d) v:=jZ<|YF hk h
def nZ{m:Nat}(hk:K<=L)(e:n=m)(h:∀i,i<n->c i=d i):AV.le (.d<|.o<|bP K n c)<|.d<|.o<|bP L m d:=by subst e;exact eY<|qM hk h
def VI(hk:K<=L)(h:∀i,i<n->c i=d i):AO.le (.a e 2 n<|aX K c)<|.a e 2 n<|aX L d:=jY<|YF hk h
def kW.mono{l:Lf}(h:kW l K n c)(hk:K<=L):kW l L n c:=by have⟨⟨f,h1,h2⟩,h3⟩:=h;refine⟨⟨f,λB w v hv=>jZ ?_ _ _ _<|h1 B w v hv,h2⟩,h3⟩;intro i hi j hj B w v hv;match j,hj with|0,_=>exact hv|1,_=>exact lW hk _ _ _ hv
def an6{m:Nat}{el2:Nat->Nat->Lf}(hm:m=n+1)(h1:∀i,i<n->∀j,j<sz->∀B w v,fP B w (el i j) v->fP B w (el' i j) v)(h2:∀j,j<sz->∀B w v,fP B w (el2 0 j) v->fP B w (el' n j) v):AO.le (.a e sz (n+1)<|fA n el el2)<|.a e sz m el':=by subst hm;refine jY λi hi j hj B w v hv=>?_;unfold fA at hv;by_cases hin:i<n;rw [show Nat.ble (i+1) n=true from Nat.ble_eq_true_of_le hin] at hv;simp_all;obtain rfl:i=n:=Z;rw [show Nat.ble (i+1) i=false from by rw [<-Bool.not_eq_true];simp_all,Nat.sub_self] at hv;simp_all
def azy{z:Int}(hM:M<=K)(h0:el 0 0=.v (.bool<|decide<|z<0):=by rfl)(h1:el 0 1=ln M z.natAbs:=by rfl):kW (.a 2 1 el) K 1 (λi=>if i=0 then z else 0):=by have h:=iQ (K:=K) (n:=1) (c:=λi=>if i=0 then z else 0) Z;refine⟨?_,h.2⟩;have⟨f,h2,h3⟩:=h.1;refine⟨f,λB w v hv=>h2 _ _ _<|jZ ?_ _ _ _ hv,h3⟩;intro i hi j hj B w v hv;obtain rfl:i=0:=Z;match j,hj with|0,_=>rw [h0] at hv;exact hv|1,_=>rw [h1] at hv;exact lW hM _ _ _ hv
def qn(K:Nat)(q:Rat):List Lf:=rn K q.num++rn K (q.den:Int)
def IsQ(ls:List Lf)(K:Nat)(q:Rat):Prop:=∀B w cs,jg B w ls cs->jg B w (qn K q) cs
def isq(K:Nat)(q:Rat):IsQ (qn K q) K q:=λ_ _ _ h=>h
def zO{n d:Int}{q:Rat}(h1:K<=M)(h2:L<=M)(e1:n=q.num)(e2:d=q.den):AV.le (.d<|.j<|rn K n++rn L d)<|.d<|.j<|qn M q:=by subst e1;subst e2;refine lV λB w cs h=>?_;match cs,h with|[a,b,c,d],⟨h1',h2',h3',h4',h5'⟩=>exact⟨F8 h1 _ _ _ h1',h2',F8 h2 _ _ _ h3',h4',h5'⟩
section
variable {α:Type} [DecidableEq α] [OfNat α 0]
def dg(c:Nat->α):Nat->Nat
 |0=>0
 |n+1=>if c n=0 then dg c n else n+1
def ny(c:Nat->α):∀n,dg c n<=n
 |0=>aav _
 |n+1=>by unfold dg;split;exact Nat.le_succ_of_le<|ny c n;omega
def jG{c:Nat->α}:∀{n:Nat},(∀i,n<=i->c i=0)->∀i,dg c n<=i->c i=0
 |0,h,i,hi=>h i<|abJ _
 |n+1,h,i,hi=>by
  unfold dg at hi;split at hi
  ·rename_i h0
   exact jG ψ i hi
  simp_all
def O5{c:Nat->α}:∀{n:Nat},dg c n≠0->c (dg c n-1)≠0
 |0,h=>absurd O h
 |n+1,h=>by
  unfold dg at h ⊢;split
  ·rename_i h0;rw [if_pos h0] at h;exact O5 h
  assumption
def Zu{c:Nat->α}(h:c n=0):dg c (n+1)=dg c n:=by show(if c n=0 then dg c n else n+1)=_;simp_all
def Du{c:Nat->α}(h:n=0\/c (n-1)≠0):dg c n=n:=by cases n with|zero=>rfl|succ n=>(rcases h with h|h;omega;show(if c n=0 then dg c n else n+1)=_;simp_all)
omit [DecidableEq α] in
def Zv{c:Nat->α}{k m:Nat}(h1:k=0\/c (k-1)≠0)(h2:∀i,k<=i->c i=0)(h3:m=0\/c (m-1)≠0)(h4:∀i,m<=i->c i=0):k=m:=by grind
def Zr{c:Nat->α}:dg c n=0\/c (dg c n-1)≠0:=by rcases acT (dg c n) with h|h;omega;exact Or.inr<|O5 Z
def Ed{c:Nat->α}{m:Nat}(h:∀i,n<=i->c i=0)(k:∀i,m<=i->c i=0):dg c n=dg c m:=Zv Zr (jG h) Zr<|jG k
end
section
variable {α:Type} [Add α] [Mul α] [OfNat α 0]
def cv(a b:Nat->α):Nat->Nat->α
 |0,_=>0
 |m+1,j=>cv a b m j+(if m<=j then a m*b (j-m) else 0)
def bW(a b:Nat->α)(j:Nat):α:=cv a b (j+1) j
end
def TL:List<|Nat×TI:=[
 (3,⟨1,false,[.int .i64 0],[],none,8,some .i64,false⟩),
 (4,⟨1,false,[.bool false],[],none,1,none,true⟩),
 (5,⟨1,false,[.int .u8 0],[],none,1,some .u8,false⟩),
 (9,⟨1,false,[.string ⟨#[]⟩],[],none,16,none,false⟩),
 (22,⟨1,false,[.slice none 0 0],[],some 39,24,none,false⟩),
 (23,⟨1,false,[.slice none 0 0],[],some 68,24,none,false⟩),
 (26,⟨1,false,[.pointer none],[],none,8,none,false⟩),
 (27,⟨1,false,[.int .i64 0],[],none,8,some .i64,false⟩),
 (31,⟨1,false,[.slice none 0 0],[],some 35,24,none,false⟩),
 (32,⟨1,false,[.slice none 0 0],[],some 35,24,none,false⟩),
 (33,⟨1,false,[.slice none 0 0],[],some 161,24,none,false⟩),
 (35,⟨2,true,[.bool false,.slice none 0 0],[(0,4),(1,33)],none,32,none,false⟩),
 (37,⟨4,true,[.slice none 0 0,.slice none 0 0,.bool false,.slice none 0 0],[(0,32),(1,32),(2,35)],none,80,none,false⟩),
 (39,⟨5,true,[.slice none 0 0,.slice none 0 0,.bool false,.slice none 0 0,.int .i64 0],[(0,37),(4,3)],none,88,none,false⟩),
 (40,⟨1,false,[.slice none 0 0],[],some 3,24,none,false⟩),
 (41,⟨1,false,[.slice none 0 0],[],some 3,24,none,false⟩),
 (43,⟨2,true,[.slice none 0 0,.bool false],[(0,41),(1,4)],none,32,none,false⟩),
 (45,⟨4,true,[.slice none 0 0,.bool false,.slice none 0 0,.bool false],[(0,43),(2,43)],none,64,none,false⟩),
 (48,⟨1,false,[.slice none 0 0],[],some 72,24,none,false⟩),
 (50,⟨5,true,[.slice none 0 0,.slice none 0 0,.slice none 0 0,.slice none 0 0,.slice none 0 0],[(0,40),(1,40),(2,40),(3,40),(4,48)],none,120,none,false⟩),
 (54,⟨4,true,[.bool false,.slice none 0 0,.bool false,.slice none 0 0],[(0,35),(2,35)],none,64,none,false⟩),
 (56,⟨5,true,[.slice none 0 0,.slice none 0 0,.slice none 0 0,.slice none 0 0,.slice none 0 0],[(0,40),(1,40),(2,40),(3,40),(4,48)],none,120,none,false⟩),
 (59,⟨1,false,[.slice none 0 0],[],some 45,24,none,false⟩),
 (60,⟨1,false,[.slice none 0 0],[],some 59,24,none,false⟩),
 (62,⟨10,true,[.slice none 0 0,.slice none 0 0,.slice none 0 0,.bool false,.slice none 0 0,.bool false,.slice none 0 0,.bool false,.slice none 0 0,.bool false],[(0,59),(1,60),(2,45),(6,45)],none,176,none,false⟩),
 (66,⟨6,true,[.slice none 0 0,.slice none 0 0,.slice none 0 0,.slice none 0 0,.bool false,.slice none 0 0],[(0,59),(1,59),(2,37)],none,128,none,false⟩),
 (68,⟨7,true,[.slice none 0 0,.slice none 0 0,.slice none 0 0,.slice none 0 0,.bool false,.slice none 0 0,.int .i64 0],[(0,66),(6,3)],none,136,none,false⟩),
 (72,⟨3,true,[.int .i64 0,.int .i64 0,.int .i64 0],[],none,24,none,false⟩),
 (78,⟨1,false,[.slice none 0 0],[],some 90,24,none,false⟩),
 (82,⟨1,false,[.slice none 0 0],[],some 62,24,none,false⟩),
 (90,⟨9,true,[.slice none 0 0,.bool false,.slice none 0 0,.bool false,.slice none 0 0,.bool false,.slice none 0 0,.bool false,.slice none 0 0],[(0,32),(1,54),(5,54)],none,152,none,false⟩),
 (96,⟨1,false,[.nilFunc],[],none,8,none,false⟩),
 (99,⟨1,false,[.nilFunc],[],none,8,none,false⟩),
 (104,⟨5,true,[.int .i64 0,.int .i64 0,.int .i64 0,.int .i64 0,.int .i64 0],[],none,40,none,false⟩),
 (117,⟨1,false,[.pointer none],[],none,8,none,false⟩),
 (121,⟨1,false,[.pointer none],[],none,8,none,false⟩),
 (122,⟨1,false,[.pointer none],[],none,8,none,false⟩),
 (123,⟨1,false,[.pointer none],[],none,8,none,false⟩),
 (124,⟨1,false,[.pointer none],[],none,8,none,false⟩),
 (125,⟨1,false,[.pointer none],[],none,8,none,false⟩),
 (127,⟨10,true,[.pointer none,.bool false,.slice none 0 0,.bool false,.slice none 0 0,.pointer none,.pointer none,.pointer none,.pointer none,.pointer none],[(0,117),(1,54),(5,121),(6,122),(7,123),(8,124),(9,125)],none,112,none,false⟩),
 (150,⟨1,false,[.slice none 0 0],[],some 254,24,none,false⟩),
 (161,⟨1,false,[.int .u32 0],[],none,4,some .u32,false⟩),
 (167,⟨1,false,[.pointer none],[],none,8,none,false⟩),
 (188,⟨1,false,[.nilFunc],[],none,8,none,false⟩),
 (193,⟨1,false,[.int .u64 0],[],none,8,some .u64,false⟩),
 (195,⟨1,false,[.int .u64 0],[],none,8,some .u64,false⟩),
 (211,⟨3,true,[.int .i64 0,.int .i64 0,.slice none 0 0],[(0,3),(1,3),(2,22)],none,40,none,false⟩),
 (214,⟨1,true,[.slice none 0 0],[(0,22)],none,24,none,false⟩),
 (217,⟨1,false,[.slice none 0 0],[],some 343,24,none,false⟩),
 (219,⟨12,true,[.bool false,.slice none 0 0,.bool false,.slice none 0 0,.bool false,.slice none 0 0,.bool false,.slice none 0 0,.bool false,.slice none 0 0,.slice none 0 0,.int .i64 0],[(0,4),(1,90),(10,217),(11,3)],none,192,none,false⟩),
 (221,⟨14,true,[.bool false,.slice none 0 0,.bool false,.slice none 0 0,.bool false,.slice none 0 0,.bool false,.slice none 0 0,.bool false,.slice none 0 0,.slice none 0 0,.int .i64 0,.slice none 0 0,.slice none 0 0],[(0,219),(12,214),(13,22)],none,240,none,false⟩),
 (224,⟨1,false,[.slice none 0 0],[],some 299,24,none,false⟩),
 (225,⟨1,false,[.nilFunc],[],none,8,none,false⟩),
 (226,⟨1,false,[.slice none 0 0],[],some 294,24,none,false⟩),
 (228,⟨15,true,[.bool false,.slice none 0 0,.bool false,.slice none 0 0,.bool false,.slice none 0 0,.bool false,.slice none 0 0,.bool false,.slice none 0 0,.slice none 0 0,.int .i64 0,.slice none 0 0,.slice none 0 0,.slice none 0 0],[(0,219),(12,214),(13,22),(14,226)],none,264,none,false⟩),
 (230,⟨14,true,[.bool false,.slice none 0 0,.bool false,.slice none 0 0,.bool false,.slice none 0 0,.bool false,.slice none 0 0,.bool false,.slice none 0 0,.slice none 0 0,.int .i64 0,.slice none 0 0,.slice none 0 0],[(0,219),(12,214),(13,22)],none,240,none,false⟩),
 (232,⟨14,true,[.bool false,.slice none 0 0,.bool false,.slice none 0 0,.bool false,.slice none 0 0,.bool false,.slice none 0 0,.bool false,.slice none 0 0,.slice none 0 0,.int .i64 0,.slice none 0 0,.slice none 0 0],[(0,219),(12,214),(13,22)],none,240,none,false⟩),
 (234,⟨14,true,[.bool false,.slice none 0 0,.bool false,.slice none 0 0,.bool false,.slice none 0 0,.bool false,.slice none 0 0,.bool false,.slice none 0 0,.slice none 0 0,.int .i64 0,.slice none 0 0,.slice none 0 0],[(0,219),(12,214),(13,48)],none,240,none,false⟩),
 (254,⟨14,true,[.slice none 0 0,.slice none 0 0,.slice none 0 0,.slice none 0 0,.bool false,.slice none 0 0,.int .i64 0,.slice none 0 0,.slice none 0 0,.slice none 0 0,.slice none 0 0,.bool false,.slice none 0 0,.int .i64 0],[],none,272,none,false⟩),
 (257,⟨1,false,[.slice none 0 0],[],some 32,24,none,false⟩),
 (259,⟨1,true,[.slice none 0 0],[(0,257)],none,24,none,false⟩),
 (280,⟨1,false,[.slice none 0 0],[],some 54,24,none,false⟩),
 (287,⟨1,false,[.pointer none],[],none,8,none,false⟩),
 (294,⟨10,true,[.slice none 0 0,.slice none 0 0,.bool false,.slice none 0 0,.int .i64 0,.slice none 0 0,.slice none 0 0,.bool false,.slice none 0 0,.int .i64 0],[],none,176,none,false⟩),
 (295,⟨4,true,[.int .i64 0,.int .i64 0,.int .i64 0,.int .i64 0],[],none,32,none,false⟩),
 (297,⟨5,true,[.int .i64 0,.int .i64 0,.int .i64 0,.int .i64 0,.int .i64 0],[(0,3),(1,295)],none,40,none,false⟩),
 (299,⟨7,true,[.int .i64 0,.int .i64 0,.int .i64 0,.int .i64 0,.int .i64 0,.slice none 0 0,.int .i64 0],[(0,297),(5,32),(6,3)],none,72,none,false⟩),
 (305,⟨1,false,[.nilFunc],[],none,8,none,false⟩),
 (318,⟨1,false,[.slice none 0 0],[],some 60,24,none,false⟩),
 (319,⟨1,false,[.slice none 0 0],[],some 66,24,none,false⟩),
 (343,⟨18,true,[.int .i64 0,.int .i64 0,.int .i64 0,.int .i64 0,.int .i64 0,.slice none 0 0,.int .i64 0,.bool false,.bool false,.slice none 0 0,.bool false,.slice none 0 0,.bool false,.slice none 0 0,.bool false,.slice none 0 0,.bool false,.slice none 0 0],[(0,299),(7,4),(8,4),(9,90)],none,232,none,false⟩),
 (358,⟨3,true,[.slice none 0 0,.slice none 0 0,.slice none 0 0],[],none,72,none,false⟩),
 (378,⟨1,false,[.slice none 0 0],[],some 257,24,none,false⟩)]
def TT:TypeId->Option TI:=lk TL
def tt3:fJ prog 3=some ⟨1,false,[.int .i64 0],[],none,8,some .i64,false⟩:=by rfl
def tt4:fJ prog 4=some ⟨1,false,[.bool false],[],none,1,none,true⟩:=by rfl
def tt5:fJ prog 5=some ⟨1,false,[.int .u8 0],[],none,1,some .u8,false⟩:=by rfl
def tt9:fJ prog 9=some ⟨1,false,[.string ⟨#[]⟩],[],none,16,none,false⟩:=by rfl
def azZ:fJ prog 22=some ⟨1,false,[.slice none 0 0],[],some 39,24,none,false⟩:=by rfl
def az0:fJ prog 23=some ⟨1,false,[.slice none 0 0],[],some 68,24,none,false⟩:=by rfl
def az1:fJ prog 26=some ⟨1,false,[.pointer none],[],none,8,none,false⟩:=by rfl
def az2:fJ prog 27=some ⟨1,false,[.int .i64 0],[],none,8,some .i64,false⟩:=by rfl
def az3:fJ prog 31=some ⟨1,false,[.slice none 0 0],[],some 35,24,none,false⟩:=by rfl
def az4:fJ prog 32=some ⟨1,false,[.slice none 0 0],[],some 35,24,none,false⟩:=by rfl
def az5:fJ prog 33=some ⟨1,false,[.slice none 0 0],[],some 161,24,none,false⟩:=by rfl
def az6:fJ prog 35=some ⟨2,true,[.bool false,.slice none 0 0],[(0,4),(1,33)],none,32,none,false⟩:=by rfl
def az7:fJ prog 37=some ⟨4,true,[.slice none 0 0,.slice none 0 0,.bool false,.slice none 0 0],[(0,32),(1,32),(2,35)],none,80,none,false⟩:=by rfl
def az8:fJ prog 39=some ⟨5,true,[.slice none 0 0,.slice none 0 0,.bool false,.slice none 0 0,.int .i64 0],[(0,37),(4,3)],none,88,none,false⟩:=by rfl
def az9:fJ prog 40=some ⟨1,false,[.slice none 0 0],[],some 3,24,none,false⟩:=by rfl
def aAa:fJ prog 41=some ⟨1,false,[.slice none 0 0],[],some 3,24,none,false⟩:=by rfl
def aAb:fJ prog 43=some ⟨2,true,[.slice none 0 0,.bool false],[(0,41),(1,4)],none,32,none,false⟩:=by rfl
def aAc:fJ prog 45=some ⟨4,true,[.slice none 0 0,.bool false,.slice none 0 0,.bool false],[(0,43),(2,43)],none,64,none,false⟩:=by rfl
def aAd:fJ prog 48=some ⟨1,false,[.slice none 0 0],[],some 72,24,none,false⟩:=by rfl
def aAe:fJ prog 50=some ⟨5,true,[.slice none 0 0,.slice none 0 0,.slice none 0 0,.slice none 0 0,.slice none 0 0],[(0,40),(1,40),(2,40),(3,40),(4,48)],none,120,none,false⟩:=by rfl
def aAf:fJ prog 54=some ⟨4,true,[.bool false,.slice none 0 0,.bool false,.slice none 0 0],[(0,35),(2,35)],none,64,none,false⟩:=by rfl
def aAg:fJ prog 56=some ⟨5,true,[.slice none 0 0,.slice none 0 0,.slice none 0 0,.slice none 0 0,.slice none 0 0],[(0,40),(1,40),(2,40),(3,40),(4,48)],none,120,none,false⟩:=by rfl
def aAh:fJ prog 59=some ⟨1,false,[.slice none 0 0],[],some 45,24,none,false⟩:=by rfl
def aAi:fJ prog 60=some ⟨1,false,[.slice none 0 0],[],some 59,24,none,false⟩:=by rfl
def aAj:fJ prog 62=some ⟨10,true,[.slice none 0 0,.slice none 0 0,.slice none 0 0,.bool false,.slice none 0 0,.bool false,.slice none 0 0,.bool false,.slice none 0 0,.bool false],[(0,59),(1,60),(2,45),(6,45)],none,176,none,false⟩:=by rfl
def aAk:fJ prog 66=some ⟨6,true,[.slice none 0 0,.slice none 0 0,.slice none 0 0,.slice none 0 0,.bool false,.slice none 0 0],[(0,59),(1,59),(2,37)],none,128,none,false⟩:=by rfl
def aAl:fJ prog 68=some ⟨7,true,[.slice none 0 0,.slice none 0 0,.slice none 0 0,.slice none 0 0,.bool false,.slice none 0 0,.int .i64 0],[(0,66),(6,3)],none,136,none,false⟩:=by rfl
def aAm:fJ prog 72=some ⟨3,true,[.int .i64 0,.int .i64 0,.int .i64 0],[],none,24,none,false⟩:=by rfl
def aAn:fJ prog 78=some ⟨1,false,[.slice none 0 0],[],some 90,24,none,false⟩:=by rfl
def aAo:fJ prog 82=some ⟨1,false,[.slice none 0 0],[],some 62,24,none,false⟩:=by rfl
def aAp:fJ prog 90=some ⟨9,true,[.slice none 0 0,.bool false,.slice none 0 0,.bool false,.slice none 0 0,.bool false,.slice none 0 0,.bool false,.slice none 0 0],[(0,32),(1,54),(5,54)],none,152,none,false⟩:=by rfl
def aAq:fJ prog 96=some ⟨1,false,[.nilFunc],[],none,8,none,false⟩:=by rfl
def aAr:fJ prog 99=some ⟨1,false,[.nilFunc],[],none,8,none,false⟩:=by rfl
def av3:fJ prog 104=some ⟨5,true,[.int .i64 0,.int .i64 0,.int .i64 0,.int .i64 0,.int .i64 0],[],none,40,none,false⟩:=by rfl
def av4:fJ prog 117=some ⟨1,false,[.pointer none],[],none,8,none,false⟩:=by rfl
def av5:fJ prog 121=some ⟨1,false,[.pointer none],[],none,8,none,false⟩:=by rfl
def av6:fJ prog 122=some ⟨1,false,[.pointer none],[],none,8,none,false⟩:=by rfl
def av7:fJ prog 123=some ⟨1,false,[.pointer none],[],none,8,none,false⟩:=by rfl
def av8:fJ prog 124=some ⟨1,false,[.pointer none],[],none,8,none,false⟩:=by rfl
def av9:fJ prog 125=some ⟨1,false,[.pointer none],[],none,8,none,false⟩:=by rfl
def awc:fJ prog 127=some ⟨10,true,[.pointer none,.bool false,.slice none 0 0,.bool false,.slice none 0 0,.pointer none,.pointer none,.pointer none,.pointer none,.pointer none],[(0,117),(1,54),(5,121),(6,122),(7,123),(8,124),(9,125)],none,112,none,false⟩:=by rfl
def awd:fJ prog 150=some ⟨1,false,[.slice none 0 0],[],some 254,24,none,false⟩:=by rfl
def awe:fJ prog 161=some ⟨1,false,[.int .u32 0],[],none,4,some .u32,false⟩:=by rfl
def awf:fJ prog 167=some ⟨1,false,[.pointer none],[],none,8,none,false⟩:=by rfl
def awg:fJ prog 188=some ⟨1,false,[.nilFunc],[],none,8,none,false⟩:=by rfl
def awh:fJ prog 193=some ⟨1,false,[.int .u64 0],[],none,8,some .u64,false⟩:=by rfl
def awi:fJ prog 195=some ⟨1,false,[.int .u64 0],[],none,8,some .u64,false⟩:=by rfl
def awj:fJ prog 211=some ⟨3,true,[.int .i64 0,.int .i64 0,.slice none 0 0],[(0,3),(1,3),(2,22)],none,40,none,false⟩:=by rfl
def awk:fJ prog 214=some ⟨1,true,[.slice none 0 0],[(0,22)],none,24,none,false⟩:=by rfl
def awl:fJ prog 217=some ⟨1,false,[.slice none 0 0],[],some 343,24,none,false⟩:=by rfl
def awm:fJ prog 219=some ⟨12,true,[.bool false,.slice none 0 0,.bool false,.slice none 0 0,.bool false,.slice none 0 0,.bool false,.slice none 0 0,.bool false,.slice none 0 0,.slice none 0 0,.int .i64 0],[(0,4),(1,90),(10,217),(11,3)],none,192,none,false⟩:=by rfl
def awn:fJ prog 221=some ⟨14,true,[.bool false,.slice none 0 0,.bool false,.slice none 0 0,.bool false,.slice none 0 0,.bool false,.slice none 0 0,.bool false,.slice none 0 0,.slice none 0 0,.int .i64 0,.slice none 0 0,.slice none 0 0],[(0,219),(12,214),(13,22)],none,240,none,false⟩:=by rfl
def awo:fJ prog 224=some ⟨1,false,[.slice none 0 0],[],some 299,24,none,false⟩:=by rfl
def awp:fJ prog 225=some ⟨1,false,[.nilFunc],[],none,8,none,false⟩:=by rfl
def awq:fJ prog 226=some ⟨1,false,[.slice none 0 0],[],some 294,24,none,false⟩:=by rfl
def awr:fJ prog 228=some ⟨15,true,[.bool false,.slice none 0 0,.bool false,.slice none 0 0,.bool false,.slice none 0 0,.bool false,.slice none 0 0,.bool false,.slice none 0 0,.slice none 0 0,.int .i64 0,.slice none 0 0,.slice none 0 0,.slice none 0 0],[(0,219),(12,214),(13,22),(14,226)],none,264,none,false⟩:=by rfl
def aws:fJ prog 230=some ⟨14,true,[.bool false,.slice none 0 0,.bool false,.slice none 0 0,.bool false,.slice none 0 0,.bool false,.slice none 0 0,.bool false,.slice none 0 0,.slice none 0 0,.int .i64 0,.slice none 0 0,.slice none 0 0],[(0,219),(12,214),(13,22)],none,240,none,false⟩:=by rfl
def awt:fJ prog 232=some ⟨14,true,[.bool false,.slice none 0 0,.bool false,.slice none 0 0,.bool false,.slice none 0 0,.bool false,.slice none 0 0,.bool false,.slice none 0 0,.slice none 0 0,.int .i64 0,.slice none 0 0,.slice none 0 0],[(0,219),(12,214),(13,22)],none,240,none,false⟩:=by rfl
def awu:fJ prog 234=some ⟨14,true,[.bool false,.slice none 0 0,.bool false,.slice none 0 0,.bool false,.slice none 0 0,.bool false,.slice none 0 0,.bool false,.slice none 0 0,.slice none 0 0,.int .i64 0,.slice none 0 0,.slice none 0 0],[(0,219),(12,214),(13,48)],none,240,none,false⟩:=by rfl
def awv:fJ prog 254=some ⟨14,true,[.slice none 0 0,.slice none 0 0,.slice none 0 0,.slice none 0 0,.bool false,.slice none 0 0,.int .i64 0,.slice none 0 0,.slice none 0 0,.slice none 0 0,.slice none 0 0,.bool false,.slice none 0 0,.int .i64 0],[],none,272,none,false⟩:=by rfl
def aww:fJ prog 257=some ⟨1,false,[.slice none 0 0],[],some 32,24,none,false⟩:=by rfl
def awx:fJ prog 259=some ⟨1,true,[.slice none 0 0],[(0,257)],none,24,none,false⟩:=by rfl
def awy:fJ prog 280=some ⟨1,false,[.slice none 0 0],[],some 54,24,none,false⟩:=by rfl
def awz:fJ prog 287=some ⟨1,false,[.pointer none],[],none,8,none,false⟩:=by rfl
def awC:fJ prog 294=some ⟨10,true,[.slice none 0 0,.slice none 0 0,.bool false,.slice none 0 0,.int .i64 0,.slice none 0 0,.slice none 0 0,.bool false,.slice none 0 0,.int .i64 0],[],none,176,none,false⟩:=by rfl
def awD:fJ prog 295=some ⟨4,true,[.int .i64 0,.int .i64 0,.int .i64 0,.int .i64 0],[],none,32,none,false⟩:=by rfl
def awE:fJ prog 297=some ⟨5,true,[.int .i64 0,.int .i64 0,.int .i64 0,.int .i64 0,.int .i64 0],[(0,3),(1,295)],none,40,none,false⟩:=by rfl
def awF:fJ prog 299=some ⟨7,true,[.int .i64 0,.int .i64 0,.int .i64 0,.int .i64 0,.int .i64 0,.slice none 0 0,.int .i64 0],[(0,297),(5,32),(6,3)],none,72,none,false⟩:=by rfl
def awG:fJ prog 305=some ⟨1,false,[.nilFunc],[],none,8,none,false⟩:=by rfl
def awH:fJ prog 318=some ⟨1,false,[.slice none 0 0],[],some 60,24,none,false⟩:=by rfl
def awI:fJ prog 319=some ⟨1,false,[.slice none 0 0],[],some 66,24,none,false⟩:=by rfl
def awJ:fJ prog 343=some ⟨18,true,[.int .i64 0,.int .i64 0,.int .i64 0,.int .i64 0,.int .i64 0,.slice none 0 0,.int .i64 0,.bool false,.bool false,.slice none 0 0,.bool false,.slice none 0 0,.bool false,.slice none 0 0,.bool false,.slice none 0 0,.bool false,.slice none 0 0],[(0,299),(7,4),(8,4),(9,90)],none,232,none,false⟩:=by rfl
def awK:fJ prog 358=some ⟨3,true,[.slice none 0 0,.slice none 0 0,.slice none 0 0],[],none,72,none,false⟩:=by rfl
def awL:fJ prog 378=some ⟨1,false,[.slice none 0 0],[],some 257,24,none,false⟩:=by rfl
def aj:xZ prog TT:=by intro t ti h;have hm:=oG h;unfold TL at hm;simp only [List.mem_cons,List.not_mem_nil,or_false,Prod.mk.injEq] at hm;rcases hm with⟨rfl,rfl⟩|⟨rfl,rfl⟩|⟨rfl,rfl⟩|⟨rfl,rfl⟩|⟨rfl,rfl⟩|⟨rfl,rfl⟩|⟨rfl,rfl⟩|⟨rfl,rfl⟩|⟨rfl,rfl⟩|⟨rfl,rfl⟩|⟨rfl,rfl⟩|⟨rfl,rfl⟩|⟨rfl,rfl⟩|⟨rfl,rfl⟩|⟨rfl,rfl⟩|⟨rfl,rfl⟩|⟨rfl,rfl⟩|⟨rfl,rfl⟩|⟨rfl,rfl⟩|⟨rfl,rfl⟩|⟨rfl,rfl⟩|⟨rfl,rfl⟩|⟨rfl,rfl⟩|⟨rfl,rfl⟩|⟨rfl,rfl⟩|⟨rfl,rfl⟩|⟨rfl,rfl⟩|⟨rfl,rfl⟩|⟨rfl,rfl⟩|⟨rfl,rfl⟩|⟨rfl,rfl⟩|⟨rfl,rfl⟩|⟨rfl,rfl⟩|⟨rfl,rfl⟩|⟨rfl,rfl⟩|⟨rfl,rfl⟩|⟨rfl,rfl⟩|⟨rfl,rfl⟩|⟨rfl,rfl⟩|⟨rfl,rfl⟩|⟨rfl,rfl⟩|⟨rfl,rfl⟩|⟨rfl,rfl⟩|⟨rfl,rfl⟩|⟨rfl,rfl⟩|⟨rfl,rfl⟩|⟨rfl,rfl⟩|⟨rfl,rfl⟩|⟨rfl,rfl⟩|⟨rfl,rfl⟩|⟨rfl,rfl⟩|⟨rfl,rfl⟩|⟨rfl,rfl⟩|⟨rfl,rfl⟩|⟨rfl,rfl⟩|⟨rfl,rfl⟩|⟨rfl,rfl⟩|⟨rfl,rfl⟩|⟨rfl,rfl⟩|⟨rfl,rfl⟩|⟨rfl,rfl⟩|⟨rfl,rfl⟩|⟨rfl,rfl⟩|⟨rfl,rfl⟩|⟨rfl,rfl⟩|⟨rfl,rfl⟩|⟨rfl,rfl⟩|⟨rfl,rfl⟩|⟨rfl,rfl⟩|⟨rfl,rfl⟩|⟨rfl,rfl⟩|⟨rfl,rfl⟩|⟨rfl,rfl⟩|⟨rfl,rfl⟩;rfl;rfl;rfl;rfl;rfl;rfl;rfl;rfl;rfl;rfl;rfl;rfl;rfl;rfl;rfl;rfl;rfl;rfl;rfl;rfl;rfl;rfl;rfl;rfl;rfl;rfl;rfl;rfl;rfl;rfl;rfl;rfl;rfl;rfl;rfl;rfl;rfl;rfl;rfl;rfl;rfl;rfl;rfl;rfl;rfl;rfl;rfl;rfl;rfl;rfl;rfl;rfl;rfl;rfl;rfl;rfl;rfl;rfl;rfl;rfl;rfl;rfl;rfl;rfl;rfl;rfl;rfl;rfl;rfl;rfl;rfl;rfl;rfl;rfl
abbrev vI(z:Int):Lf:=.v<|.int .i64 z
abbrev dI(z:Int):AV:=.d<|.o<|.v<|.int .i64 z
def pkl{α:Type}(m:List<|Nat×α):List Nat->List (Nat×α)->Option (List<|Nat×α)
 |[],a=>some a
 |k::ks,a=>match lk m k with
  |some v=>pkl m ks ((k,v)::a)
  |none=>none
def KH{α:Type}{m:List (Nat×α)}{p:Nat×α->Prop}(hp:∀k v,lk m k=some v->p (k,v)):∀{ks:List Nat}{a r:List (Nat×α)},pkl m ks a=some r->gW p a->gW p r
 |[],a,r,h,ha=>by cases h;omega
 |k::ks,a,r,h,ha=>by
  unfold pkl at h;split at h
  ·rename_i v hv
   exact KH hp h ⟨hp k v hv,ha⟩
  ·cases h
def kpA(s:AS)(ks is:List Nat):Option AS:=match s with
 |⟨n,sl,hp⟩=>match pkl sl ks [] with
  |some sl'=>match pkl hp is [] with
   |some hp'=>some ⟨n,sl',hp'⟩
   |none=>none
  |none=>none
def aqy(s:AS)(ks is:List Nat)(id:Nat)(ob:AO):Option AS:=match kpA s ks is with
 |some ⟨n,sl,hp⟩=>some ⟨n,sl,(id,ob)::hp⟩
 |none=>none
def RU(h:kpA s ks is=some s'):s.n=s'.n/\gW (Has s.sl) s'.sl/\gW (Uw s.hp) s'.hp:=by have⟨n,sl,hp⟩:=s;unfold kpA at h;simp only at h;split at h;rename_i sl' h1;split at h;rename_i hp' h2;cases h;exact⟨O,KH (λk v hv=>hs hv) h1 trivial,KH (λk v hv=>ho hv) h2 trivial⟩;cases h;cases h
def wkq(h:kpA s ks is=some s')(hok:vM s'.hp s'.sl=true):Wk s s':=by have⟨h1,h2,h3⟩:=RU h;exact wk h1 h2 h3 hok
def wkr(h:kpA s (s'.sl.map Prod.fst).reverse (s'.hp.map Prod.fst).reverse=some s')(hok:vM s'.hp s'.sl=true):Wk s s':=wkq h hok
def wkb{id:Nat}{o:AO}(h:aqy s ks is id ob=some s')(h3:lk s.hp id=some o)(hl:AO.le o ob)(hok:vM s'.hp s'.sl=true):Wk s s':=by unfold aqy at h;split at h;rename_i n sl hp h0;have⟨h1,h2,h4⟩:=RU h0;cases h;exact wk h1 h2 ⟨⟨o,h3,hl⟩,h4⟩ hok;cases h
section
variable {P:Program} {ops:Array Oper} {Q:Qs} {o:Oper} {l:List Oper} {s:AS} {y c:Code}
def wK(ks is:List Nat)(h:kpA s ks is=some s')(hok:vM s'.hp s'.sl=true)(k:AW P c Q s'):AW P c Q s:=AW.wk (wkq h hok) k
def wB(ks is:List Nat)(id:Nat)(ob:AO){ob':AO}(h:aqy s ks is id ob=some s')(h3:lk s.hp id=some ob')(hl:AO.le ob' ob)(hok:vM s'.hp s'.sl=true)(k:AW P c Q s'):AW P c Q s:=AW.wk (wkb h h3 hl hok) k
def cR{id:Nat}(h:AL P l.toArray (thn (λs=>AW P y Q s) Q) l s):AW P (.seq (.region id l.toArray false) y) Q s:=au<|aA h
def I{K:AS->Prop}(h:K s):AL P ops (thn K Q) [] s:=ak<|tN h
def cFs{v:Operand}{x:Code}{K:AS->Prop}(hc:dR s v=some (.d<|.o<|.v<|.bool false))(h:K s):AW P (.cond v x .skip) (thn K Q) s:=cF hc<|aO<|tN h
def mW(h0:kE TT s o0.op=some v0)(k:AL prog ops Q l<|AS.put s o0.dst v0)(g0:jD ops s o0=some true:=by rfl)(d0:jQ o0.dst s.n=true:=by rfl):AL prog ops Q (o0::l) s:=mV aj _ h0 k g0 d0
def mv2(h0:kE TT s o0.op=some v0)(h1:kE TT (AS.put s o0.dst v0) o1.op=some v1)(k:AL prog ops Q l<|AS.put (AS.put s o0.dst v0) o1.dst v1)(g0:jD ops s o0=some true:=by rfl)(d0:jQ o0.dst s.n=true:=by rfl)(g1:jD ops (AS.put s o0.dst v0) o1=some true:=by rfl)(d1:jQ o1.dst (AS.put s o0.dst v0).n=true:=by rfl):AL prog ops Q (o0::o1::l) s:=mV aj _ h0 (mV aj _ h1 k g1 d1) g0 d0
def mv3(h0:kE TT s o0.op=some v0)(h1:kE TT (AS.put s o0.dst v0) o1.op=some v1)(h2:kE TT (AS.put (AS.put s o0.dst v0) o1.dst v1) o2.op=some v2)(k:AL prog ops Q l<|AS.put (AS.put (AS.put s o0.dst v0) o1.dst v1) o2.dst v2)(g0:jD ops s o0=some true:=by rfl)(d0:jQ o0.dst s.n=true:=by rfl)(g1:jD ops (AS.put s o0.dst v0) o1=some true:=by rfl)(d1:jQ o1.dst (AS.put s o0.dst v0).n=true:=by rfl)(g2:jD ops (AS.put (AS.put s o0.dst v0) o1.dst v1) o2=some true:=by rfl)(d2:jQ o2.dst (AS.put (AS.put s o0.dst v0) o1.dst v1).n=true:=by rfl):AL prog ops Q (o0::o1::o2::l) s:=mV aj _ h0 (mV aj _ h1 (mV aj _ h2 k g2 d2) g1 d1) g0 d0
def mv4{o3:Oper}{v3:AV}(h0:kE TT s o0.op=some v0)(h1:kE TT (AS.put s o0.dst v0) o1.op=some v1)(h2:kE TT (AS.put (AS.put s o0.dst v0) o1.dst v1) o2.op=some v2)(h3:kE TT (AS.put (AS.put (AS.put s o0.dst v0) o1.dst v1) o2.dst v2) o3.op=some v3)(k:AL prog ops Q l<|AS.put (AS.put (AS.put (AS.put s o0.dst v0) o1.dst v1) o2.dst v2) o3.dst v3)(g0:jD ops s o0=some true:=by rfl)(d0:jQ o0.dst s.n=true:=by rfl)(g1:jD ops (AS.put s o0.dst v0) o1=some true:=by rfl)(d1:jQ o1.dst (AS.put s o0.dst v0).n=true:=by rfl)(g2:jD ops (AS.put (AS.put s o0.dst v0) o1.dst v1) o2=some true:=by rfl)(d2:jQ o2.dst (AS.put (AS.put s o0.dst v0) o1.dst v1).n=true:=by rfl)(g3:jD ops (AS.put (AS.put (AS.put s o0.dst v0) o1.dst v1) o2.dst v2) o3=some true:=by rfl)(d3:jQ o3.dst (AS.put (AS.put (AS.put s o0.dst v0) o1.dst v1) o2.dst v2).n=true:=by rfl):AL prog ops Q (o0::o1::o2::o3::l) s:=mV aj _ h0 (mV aj _ h1 (mV aj _ h2 (mV aj _ h3 k g3 d3) g2 d2) g1 d1) g0 d0
def mv5{o3 o4:Oper}{v3 v4:AV}(h0:kE TT s o0.op=some v0)(h1:kE TT (AS.put s o0.dst v0) o1.op=some v1)(h2:kE TT (AS.put (AS.put s o0.dst v0) o1.dst v1) o2.op=some v2)(h3:kE TT (AS.put (AS.put (AS.put s o0.dst v0) o1.dst v1) o2.dst v2) o3.op=some v3)(h4:kE TT (AS.put (AS.put (AS.put (AS.put s o0.dst v0) o1.dst v1) o2.dst v2) o3.dst v3) o4.op=some v4)(k:AL prog ops Q l<|AS.put (AS.put (AS.put (AS.put (AS.put s o0.dst v0) o1.dst v1) o2.dst v2) o3.dst v3) o4.dst v4)(g0:jD ops s o0=some true:=by rfl)(d0:jQ o0.dst s.n=true:=by rfl)(g1:jD ops (AS.put s o0.dst v0) o1=some true:=by rfl)(d1:jQ o1.dst (AS.put s o0.dst v0).n=true:=by rfl)(g2:jD ops (AS.put (AS.put s o0.dst v0) o1.dst v1) o2=some true:=by rfl)(d2:jQ o2.dst (AS.put (AS.put s o0.dst v0) o1.dst v1).n=true:=by rfl)(g3:jD ops (AS.put (AS.put (AS.put s o0.dst v0) o1.dst v1) o2.dst v2) o3=some true:=by rfl)(d3:jQ o3.dst (AS.put (AS.put (AS.put s o0.dst v0) o1.dst v1) o2.dst v2).n=true:=by rfl)(g4:jD ops (AS.put (AS.put (AS.put (AS.put s o0.dst v0) o1.dst v1) o2.dst v2) o3.dst v3) o4=some true:=by rfl)(d4:jQ o4.dst (AS.put (AS.put (AS.put (AS.put s o0.dst v0) o1.dst v1) o2.dst v2) o3.dst v3).n=true:=by rfl):AL prog ops Q (o0::o1::o2::o3::o4::l) s:=mV aj _ h0 (mV aj _ h1 (mV aj _ h2 (mV aj _ h3 (mV aj _ h4 k g4 d4) g3 d3) g2 d2) g1 d1) g0 d0
def mbF(e:kE TT s o.op=some (.d<|.o<|.v<|.bool b))(h:b=false)(k:AL prog ops Q l<|s.put o.dst<|.d<|.o<|.v<|.bool false)(hg:jD ops s o=some true:=by rfl)(hd:jQ o.dst s.n=true:=by rfl):AL prog ops Q (o::l) s:=mV aj _ ψ k hg hd
def mbT(e:kE TT s o.op=some (.d<|.o<|.v<|.bool b))(h:b=true)(k:AL prog ops Q l<|s.put o.dst<|.d<|.o<|.v<|.bool true)(hg:jD ops s o=some true:=by rfl)(hd:jQ o.dst s.n=true:=by rfl):AL prog ops Q (o::l) s:=mV aj _ ψ k hg hd
def mdF[Decidable p](e:kE TT s o.op=some (.d<|.o<|.v<|.bool<|decide p))(h:¬p)(k:AL prog ops Q l<|s.put o.dst<|.d<|.o<|.v<|.bool false)(hg:jD ops s o=some true:=by rfl)(hd:jQ o.dst s.n=true:=by rfl):AL prog ops Q (o::l) s:=mbF e (acS h) k hg hd
def mdT[Decidable p](e:kE TT s o.op=some (.d<|.o<|.v<|.bool<|decide p))(h:p)(k:AL prog ops Q l<|s.put o.dst<|.d<|.o<|.v<|.bool true)(hg:jD ops s o=some true:=by rfl)(hd:jQ o.dst s.n=true:=by rfl):AL prog ops Q (o::l) s:=mbT e (ac3 h) k hg hd
def clk(s:AS)(p:Op):Option<|FuncId×List DV:=match gX p with
 |some c=>match isF c.callee with
  |some f=>match nK s c.args.toList with
   |some ds=>some (f,ds)
   |none=>none
  |none=>none
 |none=>none
def QO{p:Op}(h:clk s p=some (f,ds)):∃c,gX p=some c/\isF c.callee=some f/\nK s c.args.toList=some ds:=by unfold clk at h;grind
def mY(h:aH P f ds res)(hc:clk s o.op=some (f,ds))(k:AL P ops Q l<|s.put o.dst res)(hg:jD ops s o=some true:=by rfl)(hd:jQ o.dst s.n=true:=by rfl):AL P ops Q (o::l) s:=by have⟨c,h1,h2,h3⟩:=QO hc;exact bn h h1 h2 h3 k hg hd
def aN{c : Code}{args : List DV}{r : AV}(n : Nat)(rs : List ResultVar)(hf : prog.funcs[f]? = some fn)(h5 : (fn.body, (fn.name == "runtime.NumGoroutine"), fn.ntmps, fn.results.toList, Nat.ble args.length n) = (some c, false, n, rs, true))(h : AW prog c (adh TT rs r) ⟨n, zV 0 args, []⟩): aH prog f args r := by
 simp only [Prod.mk.injEq] at h5;have⟨h1,h2,h3,h4,h6⟩:=h5;exact aS aj n rs hf h1 h2 h3 h4 h6 h
def atd(s:AS)(o:Oper):Option<|AO×Nat:=match evN TT s o.op with
 |some ob=>match o.dst with
  |some d=>match lk s.hp d with
   |none=>some (ob,d)
   |some _=>none
  |none=>none
 |none=>none
def mO{d:Nat}(h:atd s o=some (ob,d))(k:AL prog ops Q l<|s.mk' d ob)(hg:jD ops s o=some true:=by rfl)(hd:jQ (some d) s.n=true:=by rfl):AL prog ops Q (o::l) s:=by unfold atd at h;split at h;rename_i ob' h1;split at h;rename_i d' h2;split at h;rename_i h3;cases h;exact mN aj ob h1 h2 h3 k hg hd;cases h;cases h;cases h
def mZ{id:Nat}(h:evS TT s o.op=some (id,ob))(k:AL prog ops Q l<|AS.put ⟨s.n,s.sl,(id,ob)::s.hp⟩ o.dst .D)(hg:jD ops s o=some true:=by rfl)(hd:jQ o.dst s.n=true:=by rfl):AL prog ops Q (o::l) s:=mS aj id ob h k hg hd
def cDk{id:Nat}(n:Nat)(h:JJ prog TT l.toArray (λs1=>AL prog l.toArray Q (l.drop n) s1) (l.take n) s)(hm:prog.follows .mixedOrders=true:=by kernel_rfl)(hB:Am.allB l.toArray n s.n=true:=by kernel_rfl)(hD:Am.LZ l.toArray n=true:=by kernel_rfl):AW prog (.region id l.toArray true) Q s:=bF aj n hm hB hD h
def cDs{id:Nat}(n:Nat)(h:Qg prog TT l.toArray (λs1=>AL prog l.toArray Q (l.drop n) s1) 0 [] (l.take n) s)(hm:prog.follows .mixedOrders=true:=by kernel_rfl)(hB:Am.allB l.toArray n s.n=true:=by kernel_rfl):AW prog (.region id l.toArray true) Q s:=lu aj n hm hB h
def oV{P:Program}{K:AS->Prop}(h:kE T s o.op=some av)(k:JJ P T ops K l<|s.put o.dst av)(hg:jD ops s o=some true:=by rfl)(hd:jQ o.dst s.n=true:=by rfl):JJ P T ops K (o::l) s:=.cons (.V av h hg hd) k
def oT{P:Program}{K:AS->Prop}(e:kE T s o.op=some (.d<|.o<|.v<|.bool b))(h:b=true)(k:JJ P T ops K l<|s.put o.dst<|.d<|.o<|.v<|.bool true)(hg:jD ops s o=some true:=by rfl)(hd:jQ o.dst s.n=true:=by rfl):JJ P T ops K (o::l) s:=.cons (.V _ aFZ hg hd) k
def oTd{P:Program}{K:AS->Prop}[Decidable p](e:kE T s o.op=some (.d<|.o<|.v<|.bool<|decide p))(h:p)(k:JJ P T ops K l<|s.put o.dst<|.d<|.o<|.v<|.bool true)(hg:jD ops s o=some true:=by rfl)(hd:jQ o.dst s.n=true:=by rfl):JJ P T ops K (o::l) s:=oT e (ac3 h) k hg hd
def oF{P:Program}{K:AS->Prop}(e:kE T s o.op=some (.d<|.o<|.v<|.bool b))(h:b=false)(k:JJ P T ops K l<|s.put o.dst<|.d<|.o<|.v<|.bool false)(hg:jD ops s o=some true:=by rfl)(hd:jQ o.dst s.n=true:=by rfl):JJ P T ops K (o::l) s:=.cons (.V _ aFZ hg hd) k
def oFd{P:Program}{K:AS->Prop}[Decidable p](e:kE T s o.op=some (.d<|.o<|.v<|.bool<|decide p))(h:¬p)(k:JJ P T ops K l<|s.put o.dst<|.d<|.o<|.v<|.bool false)(hg:jD ops s o=some true:=by rfl)(hd:jQ o.dst s.n=true:=by rfl):JJ P T ops K (o::l) s:=oF e (acS h) k hg hd
def oC{P:Program}{K:AS->Prop}(h:aH P f ds res)(hk:clk s o.op=some (f,ds))(k:JJ P T ops K l<|s.put o.dst res)(hg:jD ops s o=some true:=by rfl)(hd:jQ o.dst s.n=true:=by rfl):JJ P T ops K (o::l) s:=by have⟨c,h1,h2,h3⟩:=QO hk;exact .cons (.C0 h h1 h2 h3 hg hd) k
def pV{P:Program}{T:TypeId->Option TI}{K:AS->Prop}{i:Nat}{log:List (Nat×List Nat×Bool)}{av:AV}(h:kE T s o.op=some av)(k:Qg P T ops K (i+1) ((i,tq s o.op,yF o.op)::log) l<|s.put o.dst av)(hc:UW ops log o (tq s o.op)=true:=by kernel_rfl)(hg:jD ops s o=some true:=by rfl)(hd:jQ o.dst s.n=true:=by rfl):Qg P T ops K i log (o::l) s:=.cons (.V av h hg hd) hc k
def pF{P:Program}{T:TypeId->Option TI}{K:AS->Prop}{i:Nat}{log:List (Nat×List Nat×Bool)}{b:Bool}(e:kE T s o.op=some (.d<|.o<|.v<|.bool b))(h:b=false)(k:Qg P T ops K (i+1) ((i,tq s o.op,yF o.op)::log) l<|s.put o.dst<|.d<|.o<|.v<|.bool false)(hc:UW ops log o (tq s o.op)=true:=by kernel_rfl)(hg:jD ops s o=some true:=by rfl)(hd:jQ o.dst s.n=true:=by rfl):Qg P T ops K i log (o::l) s:=.cons (.V _ aFZ hg hd) hc k
def pC{P:Program}{T:TypeId->Option TI}{K:AS->Prop}{i:Nat}{log:List (Nat×List Nat×Bool)}{f:FuncId}{ds:List DV}{res:AV}(h:aH P f ds res)(hk:clk s o.op=some (f,ds))(k:Qg P T ops K (i+1) ((i,tq s o.op,yF o.op)::log) l<|s.put o.dst res)(hc:UW ops log o (tq s o.op)=true:=by kernel_rfl)(hg:jD ops s o=some true:=by rfl)(hd:jQ o.dst s.n=true:=by rfl):Qg P T ops K i log (o::l) s:=by have⟨c,h1,h2,h3⟩:=QO hk;exact .cons (.C0 h h1 h2 h3 hg hd) hc k
def evs(T:TypeId->Option TI)(ops:Array Oper):Nat->List Oper->AS->Option (List Oper×AS)
 |0,l,s=>some (l,s)
 |n+1,o::l,s=>match jD ops s o with
  |some true=>match jQ o.dst s.n with
   |true=>match kE T s o.op with
    |some av=>evs T ops n l<|s.put o.dst av
    |none=>none
   |false=>none
  |_=>none
 |_+1,[],_=>none
def Md{l':List Oper}(h:evs T ops (n+1) l s=some (l',s')):∃o r av,l=o::r/\jD ops s o=some true/\jQ o.dst s.n=true/\kE T s o.op=some av/\evs T ops n r (s.put o.dst av)=some (l',s'):=by cases l with|nil=>cases h|cons o r=>unfold evs at h;split at h;rename_i hg;split at h;rename_i hd;split at h;rename_i av hv;exact⟨o,r,av,O,hg,hd,hv,h⟩;cases h;cases h;cases h
def mE:∀(n:Nat) {l l':List Oper}{s s':AS} (h:evs TT ops n l s=some (l',s')) (k:AL prog ops Q l' s'),AL prog ops Q l s
 |0,_,_,_,_,h,k=>by cases h;exact k
 |n+1,_,_,_,_,h,k=>by
  obtain⟨o,r,av,rfl,h1,h2,h3,h4⟩:=Md h;exact mV aj av h3 (mE n h4 k) h1 h2
def oE{P:Program}{K:AS->Prop}:∀(n:Nat) {l l':List Oper}{s s':AS} (h:evs T ops n l s=some (l',s')) (k:JJ P T ops K l' s'),JJ P T ops K l s
 |0,_,_,_,_,h,k=>by cases h;exact k
 |n+1,_,_,_,_,h,k=>by
  obtain⟨o,r,av,rfl,h1,h2,h3,h4⟩:=Md h;exact .cons (.V av h3 h1 h2)<|oE n h4 k
def mks{α:Type}(b:Bool)(cs:List Nat):Nat->List α->List α
 |_,[]=>[]
 |i,x::l=>bif (cs.contains i==b) then x::mks b cs (i+1) l else mks b cs (i+1) l
def aau{α:Type}{p:α->Prop}{cs:List Nat}:∀{i:Nat}{l:List α},gW p (mks true cs i l)->gW p (mks false cs i l)->gW p l
 |_,[],_,_=>trivial
 |i,x::l,h,k=>by
  unfold mks at h k;cases hc:cs.contains i with
  |true=>rw [hc] at h k;exact⟨h.1,aau h.2 k⟩
  |false=>rw [hc] at h k;exact⟨k.1,aau h k.2⟩
def wkv{s:AS}(cs co:List Nat)(h1:gW (Has s.sl)<|mks true cs 0 s'.sl)(h2:gW (Uw s.hp)<|mks true co 0 s'.hp)(h:kpA s ((mks false cs 0 s'.sl).map Prod.fst).reverse ((mks false co 0 s'.hp).map Prod.fst).reverse=some ⟨s'.n,mks false cs 0 s'.sl,mks false co 0 s'.hp⟩)(hok:vM s'.hp s'.sl=true):Wk s s':=by have⟨q1,q2,q3⟩:=RU h;exact wk q1 (aau h1 q2) (aau h2 q3) hok
end
def gW.app{α:Type}{p:α->Prop}:∀{a b:List α},gW p a->gW p b->gW p (a++b)
 |[],_,_,h=>h
 |_::_,_,h,k=>⟨h.1,gW.app h.2 k⟩
def kpU(s:AS)(ks is:List Nat)(us:List<|Nat×AV)(uo:List<|Nat×AO):Option AS:=match kpA s ks is with
 |some ⟨n,sl,hp⟩=>some ⟨n,us++sl,uo++hp⟩
 |none=>none
def wkU{us:List (Nat×AV)}{uo:List (Nat×AO)}(h:kpU s ks is us uo=some s')(h1:gW (Has s.sl) us)(h2:gW (Uw s.hp) uo)(hok:vM s'.hp s'.sl=true):Wk s s':=by unfold kpU at h;split at h;rename_i n sl hp h0;have⟨q1,q2,q3⟩:=RU h0;cases h;exact wk q1 (h1.app q2) (h2.app q3) hok;cases h
section
variable {P:Program} {ops:Array Oper} {Q:Qs} {o:Oper} {l:List Oper} {s s':AS} {c:Code} {n:Nat} {K:AS→Prop}
def wKm(ks is:List Nat)(h:kpA s ks is=some s')(hok:vM s'.hp s'.sl=true)(k:AL P ops Q l s'):AL P ops Q l s:=AL.wk (wkq h hok) k
def wUm(ks is:List Nat)(us:List<|Nat×AV)(uo:List<|Nat×AO)(h1:gW (Has s.sl) us)(h2:gW (Uw s.hp) uo)(h:kpU s ks is us uo=some s')(hok:vM s'.hp s'.sl=true)(k:AL P ops Q l s'):AL P ops Q l s:=AL.wk (wkU h h1 h2 hok) k
end
def obr{h1 h2:List (Nat×AO)}{o:AO}(e1:lk h1 j=some o:=by rfl)(e2:lk h2 i=some o:=by rfl)(e3:o.SH=true:=by rfl):∃ob' ob,lk h1 j=some ob'/\lk h2 i=some ob/\AO.le ob' ob/\ob.SH=true:=⟨o,o,e1,e2,AO.le.rfl,e3⟩
def arr{a a':AV}(e1:dR s x=some a':=by rfl)(e2:rnO m a=some a':=by rfl):∃a' b,dR s x=some a'/\AV.le a' b/\rnO m a=some b:=⟨a',a',e1,AV.le.rfl,e2⟩
def arl{a a' b:AV}(l:AV.le a' b)(e1:dR s x=some a':=by rfl)(e2:rnO m a=some b:=by rfl):∃a' b,dR s x=some a'/\AV.le a' b/\rnO m a=some b:=ψ
def oir{hpS H:List (Nat×AO)}{x:Value}{b d:AO}{R:AV}(e1:lk hpS j=some (.i x b):=by rfl)(e2:wo.contains i=true:=by rfl)(e3:lk H i=some (.i x d):=by rfl):(ks.any λk=>Nat.beq k j)=true\/∃x b,lk hpS j=some (.i x b)/\i∈wo/\∀r hp',(r=R/\hp'=H)->∃d,lk hp' i=some (.i x d):=ψ
def wjr{sl:List (Nat×AV)}(t:Nat)(e1:lk m i=some j:=by rfl)(e2:lk sl t=some av:=by rfl)(e3:nJ av=some j:=by rfl):∃j t av,lk m i=some j/\lk sl t=some av/\nJ av=some j:=ψ
def avB(i:Nat):Option AV->Bool
 |some av=>match nJ av with
  |some j=>Nat.beq j i
  |none=>false
 |none=>false
def an7{o:Option AV}(h:avB i o=true):∃av,o=some av/\nJ av=some i:=by unfold avB at h;split at h;rename_i av;split at h;simp_all;cases h;cases h
def V9{α:Type}{m:List (Nat×α)}{p:Nat×α->Prop}:∀{ks:List Nat}{a r:List (Nat×α)},(∀k∈ks,∀v,lk m k=some v->p (k,v))->pkl m ks a=some r->gW p a->gW p r
 |[],a,r,_,h,ha=>by cases h;omega
 |k::ks,a,r,hp,h,ha=>by
  unfold pkl at h;split at h
  ·rename_i v hv
   exact V9 ψ h ⟨hp k aCY v hv,ha⟩
  ·cases h
def adY{α:Type}{f:α->Bool}{p:α->Prop}(hf:∀x,f x=true->p x):∀{l:List α},l.all f=true->gW p l
 |[],_=>trivial
 |x::l,h=>by
  rw [List.all_cons,Bool.and_eq_true] at h;exact⟨hf x h.1,adY hf h.2⟩
def wOf{l:List (Nat×AV)}(h:(wo.all λi=>l.any λp=>avB i<|lk l p.1)=true):gW (λid=>∃t av,lk l t=some av/\nJ av=some id) wo:=adY (λi hi=>by
 have⟨p,_,hp⟩:=ahX.1 hi;have⟨av,h1,h2⟩:=an7 hp;grind) h
def rLo{r0 r:AV}(ks:List Nat)(h1:Q r hp')(h2:Uy P s rs r0)(hl:AV.le r0 r)(h:pkl s.sl ks []=some sl')(hH:gW (Uw s.hp) hp')(hok:vM hp' ((s.n,r)::sl')=true)(hn:(ks.all λk=>Nat.ble (k+1) s.n)=true)(hw:(wo.all λi=>((s.n,r)::sl').any λp=>avB i<|lk ((s.n,r)::sl') p.1)=true):abe P rs wo Q .ret s:=
 rL r0 r hp' sl' h1 h2 (wk O ⟨dW aCN hl,V9 (λk hk v hv=>hs (by
  have:=acN<|ac6.1 hn k hk;rw [aY,if_neg Z];exact hv)) h trivial⟩ hH hok) (wOf hw)
def rLe{r0 r:AV}(ks:List Nat)(h1:Q r hp')(h2:Uy P s rs r0)(hl:AV.le r0 r)(h:pkl s.sl ks []=some sl')(hH:pkl s.hp (hp'.map Prod.fst).reverse []=some hp')(hok:vM hp' ((s.n,r)::sl')=true)(hn:(ks.all λk=>Nat.ble (k+1) s.n)=true)(hw:(wo.all λi=>((s.n,r)::sl').any λp=>avB i<|lk ((s.n,r)::sl') p.1)=true):abe P rs wo Q .ret s:=
 rLo ks h1 h2 hl h (KH (λk v hv=>ho hv) hH trivial) hok hn hw
def rLg{r:AV}(ks:List Nat)(h1:Q r hp')(h2:Uy P s rs r)(h:pkl s.sl ks []=some sl')(hH:pkl s.hp (hp'.map Prod.fst).reverse []=some hp')(hok:vM hp' ((s.n,r)::sl')=true)(hn:(ks.all λk=>Nat.ble (k+1) s.n)=true)(hw:(wo.all λi=>((s.n,r)::sl').any λp=>avB i<|lk ((s.n,r)::sl') p.1)=true):abe P rs wo Q .ret s:=
 rLe ks h1 h2 AV.le.rfl h hH hok hn hw
def aLr{c : Code}{hp : List (Nat × AO)}{Q : AV -> List (Nat × AO) -> Prop}(n : Nat)(rs : List ResultVar)(ws : List (Nat × Nat))(hf : prog.funcs[f]? = some fn)(h5 : (fn.body, (fn.name == "runtime.NumGoroutine"), fn.ntmps, fn.results.toList, Nat.ble args.length n) = (some c, false, n, rs, true))(hws : (ws.all λp => Nat.ble args.length p.1 && Nat.ble (p.1 + 1) n && wi.contains p.2) = true)(h : AW prog c (abe prog rs wo Q) ⟨n, zW 0 args++ws.map λp => (p.1, .w p.2), hp⟩): dA prog f args hp wi wo Q := by
 simp only [Prod.mk.injEq] at h5;have⟨h1,h2,h3,h4,h6⟩:=h5;refine cZ n rs ws hf h1 h2 h3 h4 h6 (adY (λp hp=>?_) hws) h;simp only [Bool.and_eq_true] at hp;exact⟨acN hp.1.1,acN hp.1.2,by simp_all⟩
section
variable {ops:Array Oper} {Q:Qs} {o:Oper} {l:List Oper} {s:AS} {n:Nat} {K:AS→Prop}
def cDr{id:Nat}(n:Nat)(ls:List Nat)(h:EF prog TT l.toArray n (λs1=>AL prog l.toArray Q (l.drop n) s1) (l.take n) s)(hm:prog.follows .mixedOrders=true:=by kernel_rfl)(hB:Am.LG l.toArray n s.n ls=true:=by kernel_rfl)(hD:Am.LZ l.toArray n=true:=by kernel_rfl)(hP:∀c s,¬Q (.panic c) s:=by exact λ_ _ h=>h):AW prog (.region id l.toArray true) Q s:=qE aj n ls hm hB hD hP h
def rVr(h:kE T s o.op=some av)(k:EF P T ops n K l<|s.put o.dst av)(hg:jD ops s o=some true:=by rfl)(hd:jQ o.dst s.n=true:=by rfl):EF P T ops n K (o::l) s:=.cons (.S<|.V av h hg hd) k
def rEr:∀(m:Nat) {l l':List Oper}{s s':AS} (h:evs T ops m l s=some (l',s')) (k:EF P T ops n K l' s'),EF P T ops n K l s
 |0,_,_,_,_,h,k=>by cases h;exact k
 |m+1,_,_,_,_,h,k=>by
  obtain⟨o,r,av,rfl,h1,h2,h3,h4⟩:=Md h;exact .cons (.S<|.V av h3 h1 h2)<|rEr m h4 k
def rXr(h:YH P s o av)(k:EF P T ops n K l<|s.put o.dst av)(hg:jD ops s o=some true:=by rfl)(hd:jQ o.dst s.n=true:=by rfl):EF P T ops n K (o::l) s:=.cons (.S<|.X av h hg hd) k
def rGr(k:EF P T ops n K l<|s.put o.dst<|.dY [])(hg:jD ops s o=some false:=by rfl)(hd:jQ o.dst s.n=true:=by rfl):EF P T ops n K (o::l) s:=.cons (.Gt hg hd) k
def rCr(h:aH P f ds res)(hk:clk s o.op=some (f,ds))(k:EF P T ops n K l<|s.put o.dst res)(hg:jD ops s o=some true:=by rfl)(hd:jQ o.dst s.n=true:=by rfl):EF P T ops n K (o::l) s:=by have⟨c,h1,h2,h3⟩:=QO hk;exact .cons (.S<|.C0 h h1 h2 h3 hg hd) k
def rTr(e:kE T s o.op=some (.d<|.o<|.v<|.bool b))(h:b=true)(k:EF P T ops n K l<|s.put o.dst<|.d<|.o<|.v<|.bool true)(hg:jD ops s o=some true:=by rfl)(hd:jQ o.dst s.n=true:=by rfl):EF P T ops n K (o::l) s:=.cons (.S<|.V _ aFZ hg hd) k
def rTd[Decidable p](e:kE T s o.op=some (.d<|.o<|.v<|.bool<|decide p))(h:p)(k:EF P T ops n K l<|s.put o.dst<|.d<|.o<|.v<|.bool true)(hg:jD ops s o=some true:=by rfl)(hd:jQ o.dst s.n=true:=by rfl):EF P T ops n K (o::l) s:=rTr e (ac3 h) k hg hd
def rFr(e:kE T s o.op=some (.d<|.o<|.v<|.bool b))(h:b=false)(k:EF P T ops n K l<|s.put o.dst<|.d<|.o<|.v<|.bool false)(hg:jD ops s o=some true:=by rfl)(hd:jQ o.dst s.n=true:=by rfl):EF P T ops n K (o::l) s:=.cons (.S<|.V _ aFZ hg hd) k
def rFd[Decidable p](e:kE T s o.op=some (.d<|.o<|.v<|.bool<|decide p))(h:¬p)(k:EF P T ops n K l<|s.put o.dst<|.d<|.o<|.v<|.bool false)(hg:jD ops s o=some true:=by rfl)(hd:jQ o.dst s.n=true:=by rfl):EF P T ops n K (o::l) s:=rFr e (acS h) k hg hd
def oXr(h:YH P s o av)(k:JJ P T ops K l<|s.put o.dst av)(hg:jD ops s o=some true:=by rfl)(hd:jQ o.dst s.n=true:=by rfl):JJ P T ops K (o::l) s:=.cons (.X av h hg hd) k
def xGo(k:JJ P T ops K l<|s.put o.dst .D)(hg:jD ops s o=some false:=by rfl)(hd:jQ o.dst s.n=true:=by rfl):JJ P T ops K (o::l) s:=.cons (.G hg hd) k
def xUr(k:EF P T ops n K l<|s.put o.dst<|.dY [])(hg:gsu ops s o=true:=by rfl)(hd:jQ o.dst s.n=true:=by rfl):EF P T ops n K (o::l) s:=.cons (.U hg hd) k
def xQj{id:Nat}(n:Nat)(ls:List Nat)(h:JJ prog TT l.toArray (λs1=>AL prog l.toArray Q (l.drop n) s1) (l.take n) s)(hm:prog.follows .mixedOrders=true:=by kernel_rfl)(hB:Am.LG l.toArray n s.n ls=true:=by kernel_rfl)(hD:Am.LZ l.toArray n=true:=by kernel_rfl)(hP:∀c s,¬Q (.panic c) s:=by exact λ_ _ h=>h):AW prog (.region id l.toArray true) Q s:=QJ aj n ls hm hB hD hP h
end
def Tryz.infoInt:(prog.info? 3).map (λi=>(i.zero,i.size,i.bytes))=some (some<|.int .i64 0,1,8):=by rfl
def aci(ao:Option Addr)(n c:Nat)(xs:List Nat)(w:World)(hm:n<=9223372036854775807)(hr:Rw .i64 B4 w ao n c xs):
  Calls prog 269 #[.slice ao n c] w λe w'=>e=.returned (.slice ao (yj xs n) c)/\w'=w:=by
 have hlc:=hr.le;go_enter func269,ntmps269;go_wp2;go_loop [3] (λn'=>∃k:Nat,k<=n/\n'=.int .i64 k/\yj xs k=yj xs n) (λn'=>(intOf n').toNat)
 case atStart=>exact⟨n,aav _,O,O⟩
 case round=>
  obtain⟨k,hk,rfl,hcut⟩:=hrel;have Xk:=bJ hcut;clear hcut
  by_cases h0:k=0
  ·subst h0
   go_wp2;go_ret;exact⟨by rw [<-Xk];rfl,O⟩
  ·obtain⟨j,rfl⟩:∃j,k=j+1:=aDh
   obtain⟨b,off,x,rfl,hx,oq,hcj⟩:=hr.at (show j<n by omega);have Hx:=bJ hx;clear hx hr
   by_cases hz:x=0
   ·subst hz
    go_wp2;go_round
    case rel=>exact aGi
    case measure=>simp [intOf]
   ·have hz':((x:Int)==0)=false:=by simpa using hz
    exact ayM
def CV(ao:Option Addr)(n c:Nat)(xs:List Nat)(w:World)(hm:n<=9223372036854775807)(hr:Rw .i64 B4 w ao n c xs):
  Calls prog 269 #[.slice ao n c] w λe w'=>∃m,e=.returned (.slice ao m c)/\m<=n/\Rw .i64 B4 w ao m c (cO<|qh xs)/\w=w':=by refine(aci ao n c xs w hm hr).mono λe w' ⟨he,hw⟩=>?_;have hcut:=aby xs hr.lt;exact avh
abbrev aAL:Value:=.int .i64 0
def Nv(ao:Option Addr)(n cp m c0:Nat)(xs:List Nat)(w:World)(hn:n<=1073741824)(hm:m<=65536)(hc:c0<=1000000)(hr:Rw .i64 B4 w ao n cp xs):
  Calls prog 237 #[.slice ao n cp,.int .i64 (m:Int),.int .i64 (c0:Int)] w λe w'=>∃ro k c',e=.returned (.slice ro k c')/\Rw .i64 B4 w' ro k c' (cO<|qh xs*m+c0)/\xE w.heap.size w' ro c'/\Below w.heap.size w w':=by
 have hl:=hr.len;have HL:=bJ hl;clear hl;have⟨i0,hi,hz0,hz1,hz2⟩:=info_parts Tryz.infoInt;go_enter func237,ntmps237;go_wp2_with (at_make;refine Hid.out ?_);refine bJ<|wpList_make_own _ O _ _ 41 O w.heap.size 3 i0 aAL 1 underlying41 hi hz0 hz1 .i64 .i64 _ (n+2) O O Z (by rw [hz2];omega) aCI (aav _) λw1 hown hgrow=>?_
 have hb1:Below w.heap.size w w1:=(Below.refl _ _).grown hgrow (aav _) (λk hk=>nomatch hk);clear hi hz0 hz1 hz2 hgrow;obtain⟨v0,hv0⟩:∃v,v=Value.slice (some ⟨w.heap.size,0,none⟩) 0 (n+2):=⟨_,O⟩
 rw [<-hv0] at hown ⊢;clear hv0;go_wp2_with fail;go_loopw [2,7,8] (λs2 s7 s8 wr=>∃(k c:Nat) (os:List Nat),s8=.int .i64 k/\s2=.int .i64 c/\c<=1000000/\k+c<=n+1000000/\os.length=k/\(∀o∈os,o<B4)/\wr.ownsRow w.heap.size 3 1 s7 k (gU .i64 os)/\Below w.heap.size w wr/\
   aZ B4 os+B4^k*c=aZ B4 (xs.take k)*m+c0) (λs2 _ s8 _=>(n-(intOf s8).toNat)*1000001+(intOf s2).toNat)
 case atStart=>exact⟨0,c0,[],O,O,hc,by omega,O,by simp,hown,hb1,by simp [aZ]⟩
 case round=>
  obtain⟨k,c,os,rfl,rfl,hcB,hkc,hol,wH,hown,hb,hv⟩:=hrel;have HV:=bJ hv;have HOL:=bJ hol;clear hv hol hb1;have hbs:=hb.size
  by_cases hkn:k<n
  ·obtain⟨b,off,x,rfl,hx,oq,hcx⟩:=(hr.ext hb).at hkn
   have hx':x<=9999:=by have:x<10000:=oq;omega
   have Hx:=bJ hx;clear hx oq;have hxm:=ac2 hx' hm;have hxm1:(x:Int)*(m:Int)<=655294464:=by rw [<-Int.natCast_mul];omega
   have hxm2:(0:Int)<=(x:Int)*(m:Int):=by rw [<-Int.natCast_mul];omega
   have HXM:=bJ hxm;clear hxm;go_wp2_with (at_builtin;refine Hid.out ?_);refine bJ<|wG _ O _ _ 41 O w.heap.size 3 aAL 1 8 underlying41 Tryz.infoInt O φ u7 k (gU .i64 os) O (hown.alloc _) (some ⟨wr.heap.size,0,none⟩) 1 1 [Value.int .i64<|((c:Int)+(x:Int)*(m:Int))%10000] O O (λe=>nomatch e) (aav _) (EI _ _ _) (SK _ _) aCI Z aEe λv' w2 hown' _ hb2=>?_
   have hb3:Below w.heap.size w w2:=(hb.alloc hbs _).trans hb2;have e0:((c+x*m:Nat):Int)=(c:Int)+(x:Int)*(m:Int):=by simp
   have e1:((c:Int)+(x:Int)*(m:Int))%10000=(((c+x*m)%10000:Nat):Int):=by rw [<-e0];rfl
   rw [e1,IC] at hown';have E0:=bJ e0;clear e0 e1 hown;go_wp2;go_roundw
   case rel=>
    refine⟨k+1,(c+x*m)/10000,os++[(c+x*m)%10000],by go_num,by rw [<-E0.out];rfl,?_,?_,by rw [List.length_append,HOL.out];rfl,Ce wH aFd,hown',hb3,?_⟩
    ·have:=HXM.out;omega
    ·have:=HXM.out;omega
    ·exact Jq HOL.out HV.out aFq
   case measure=>
    have h1:((c:Int)+(x:Int)*(m:Int))/10000<=1000000:=Z
    simp only [intOf];omega
  ·have hnx:aZ B4 (xs.take<|k+1)=aZ B4 (xs.take k):=qP _ (by rw [HL.out];omega)
   have HNX:=bJ hnx;clear hnx
   by_cases hc0:c=0
   ·subst hc0
    have hd:decide ((k:Int)<(n:Int))=false:=by rw [decide_eq_false_iff_not];omega
    have hval:qh os=qh xs*m+c0:=by
     have h2:=HV.out;rw [List.take_of_length_le (l:=xs)<|by rw [HL.out];omega] at h2;unfold qh;omega
    obtain⟨ao',c',rfl,h1,h2⟩:=qK (k:=.i64) (B:=B4) (by rw [HOL.out];exact hown) wH;have axH:=bJ hval;clear hval;go_wp2_with fail;refine(CV _ _ _ _ _ aCT h1).mono ?_;rintro e w' ⟨r1,rfl,hr1,hres,rfl⟩;rw [axH.out] at hres;go_wp2;go_ret;exact⟨_,_,_,O,hres,h2,hb⟩
   ·have hd1:decide (k<n)=false:=by rw [decide_eq_false_iff_not];omega
    have hcpos:0<c:=Z
    go_wp2_with (at_builtin;refine Hid.out ?_);refine bJ<|wG _ O _ _ 41 O w.heap.size 3 aAL 1 8 underlying41 Tryz.infoInt O φ u7 k (gU .i64 os) O (hown.alloc _) (some ⟨wr.heap.size,0,none⟩) 1 1 [Value.int .i64<|(c:Int)%10000] O O (λe=>nomatch e) (aav _) (EI _ _ _) (SK _ _) aCI Z aEe λv' w2 hown' _ hb2=>?_
    have hb3:Below w.heap.size w w2:=(hb.alloc hbs _).trans hb2;have e1:(c:Int)%10000=(((c+0*m)%10000:Nat):Int):=by simp
    rw [e1,IC] at hown';clear e1 hown;go_wp2;go_roundw
    case rel=>
     refine⟨k+1,(c+0*m)/10000,os++[(c+0*m)%10000],by go_num,by simp,by omega,by omega,by rw [List.length_append,HOL.out];rfl,Ce wH aFd,hown',hb3,?_⟩;exact Jq HOL.out HV.out (by rw [HNX.out];simp)
    case measure=>
     simp only [intOf];omega
def Nu(ao:Option Addr)(n cp m c0:Nat)(xs:List Nat)(w:World)(hn:n<=1073741824)(hm:m<=65536)(hc:c0<=1000000)(hr:Rw .i64 B4 w ao n cp xs):
  Calls prog 237 #[.slice ao n cp,.int .i64 (m:Int),.int .i64 (c0:Int)] w λe w'=>∃ro k c',e=.returned (.slice ro k c')/\Rw .i64 B4 w' ro k c' (cO<|qh xs*m+c0)/\Below w.heap.size w w':=
 (Nv ao n cp m c0 xs w hn hm hc hr).mono λe w' ⟨ro,k,c',he,h1,_,h2⟩=>ψ
def Tryz.infoU32:(prog.info? 161).map (λi=>(i.zero,i.size,i.bytes))=some (some<|.int .u32 0,1,4):=by rfl
def Tryz.sizeU32:(prog.info? 161).map (·.size)=some 1:=by rfl
def aeA(ao:Option Addr)(n c:Nat)(xs:List Nat)(w:World)(hm:n<=9223372036854775807)(hr:Rw .u32 dF w ao n c xs):
  Calls prog 210 #[.slice ao n c] w λe w'=>e=.returned (.slice ao (yj xs n) c)/\w'=w:=by
 have hlc:=hr.le;go_enter func210,ntmps210;go_wp2;go_loop [3] (λn'=>∃k:Nat,k<=n/\n'=.int .i64 k/\yj xs k=yj xs n) (λn'=>(intOf n').toNat)
 case atStart=>exact⟨n,aav _,O,O⟩
 case round=>
  obtain⟨k,hk,rfl,hcut⟩:=hrel;have Xk:=bJ hcut;clear hcut
  by_cases h0:k=0
  ·subst h0
   go_wp2;go_ret;exact⟨by rw [<-Xk];rfl,O⟩
  ·obtain⟨j,rfl⟩:∃j,k=j+1:=aDh
   obtain⟨b,off,x,rfl,hx,oq,hcj⟩:=hr.at (show j<n by omega);have Hx:=bJ hx;clear hx hr
   by_cases hz:x=0
   ·subst hz
    go_wp2;go_round
    case rel=>exact aGi
    case measure=>simp [intOf]
   ·have hz':((x:Int)==0)=false:=by simpa using hz
    exact ayM
def jy(ao:Option Addr)(n c:Nat)(xs:List Nat)(w:World)(hm:n<=9223372036854775807)(hr:Rw .u32 dF w ao n c xs):
  Calls prog 210 #[.slice ao n c] w λe w'=>∃m,e=.returned (.slice ao m c)/\m<=n/\Rw .u32 dF w ao m c (dS<|val xs)/\w=w':=by refine(aeA ao n c xs w hm hr).mono λe w' ⟨he,hw⟩=>?_;have hcut:=abz xs hr.lt;exact avh
abbrev aBb:Value:=.int .u32 0
def VX(ao:Option Addr)(n c:Nat)(xs:List Nat)(w:World)(hm:n<=1073741824)(hr:Rw .u32 dF w ao n c xs):
  Calls prog 119 #[.slice ao n c] w λe w'=>∃ao' m c',e=.returned (.slice ao' m c')/\m<=n/\Rw .u32 dF w' ao' m c' (dS<|val xs)/\xE w.heap.size w' ao' c'/\Below w.heap.size w w':=by
 go_enter func119,ntmps119;go_wp2_with fail;refine(jy ao n c xs _ Z hr).mono ?_;rintro e w' ⟨m,rfl,hmn,hr2,rfl⟩;have hl2:=hr2.len;go_wp2_with (at_builtin;refine Hid.out ?_);refine bJ<|wG _ O _ _ 33 O w.heap.size 161 aBb 1 4 underlying33 Tryz.infoU32 O φ aAy 0 [] O (World.ownsRow_nil _ _ _ _) ao m c (gU .u32<|dS<|val xs) O (by rw [dK];omega) hr2.2.2.1 hr2.le hr2.cells (MS _ _) aCI Z (aav _) λv' w1 hown _ hb=>?_
 rw [Nat.zero_add,List.nil_append] at hown;obtain⟨ao',c',rfl,h1,h2⟩:=qK (k:=.u32) (B:=dF) (by rw [hl2];exact hown) hr2.lt;rw [hl2] at h1;go_wp2;go_ret;exact⟨_,_,_,O,hmn,h1,h2,hb⟩
def l9(a b:Int):Int:=if a<b then -1 else if a=b then 0 else 1
def Dn{B:Nat}{ys:List Nat}(hx:∀x∈xs,x<B)(hl:xs.length=ys.length){k:Nat}(hk:k<xs.length)(hd:xs.drop (k+1)=ys.drop (k+1)) 
  (hlt:xs[k]<ys[k]'(by omega)):aZ B xs<aZ B ys:=by rw [sD B xs (k+1) Z,sD B ys (k+1) Z,hd,lQ B xs k hk,lQ B ys k Z];have h1:aZ B (xs.take k)<B^k:=(by have:=sK (xs:=xs.take k) (λx h=>hx x<|aja h);grind);have h2:B^k*(xs[k]+1)<=B^k*(ys[k]' Z):=acM _ hlt;grind
def Zb(ao bo:Option Addr)(n c m d:Nat)(xs ys:List Nat)(w:World)(hn:n<=1073741824)(hm:m<=1073741824)(hr:Rw .u32 dF w ao n c xs)(hs:Rw .u32 dF w bo m d ys):
  Calls prog 255 #[.slice ao n c,.slice bo m d] w λe w'=>e=.returned (.int .i64<|l9 (val xs)<|val ys)/\Below w.heap.size w w':=by
 go_enter func255,ntmps255;go_wp2_with fail;refine(jy ao n c xs _ Z hr).mono ?_;rintro e w' ⟨n1,rfl,hn1,hr1,rfl⟩;go_wp2_with fail;refine(jy bo m d ys _ Z hs).mono ?_;rintro e w' ⟨m1,rfl,hm1,hs1,rfl⟩;have hl1:=hr1.len;have hl2:=hs1.len;generalize hA:dS (val xs)=A at *
 generalize hB:dS (val ys)=B at *
 have HA:=bJ hA;have HB:=bJ hB;have HL1:=bJ hl1;have HL2:=bJ hl2;clear hA hB hl1 hl2;have hvx:val xs=val A:=by rw [<-HA.out,eF]
 have hvy:val ys=val B:=by rw [<-HB.out,eF]
 have HVX:=bJ hvx;have HVY:=bJ hvy;clear hvx hvy hr hs
 by_cases hne:n1=m1
 ·subst hne
  go_wp2_with fail;go_loopw [5] (λi wr=>∃k:Nat,k<=n1/\i=.int .i64 ((k:Int)-1)/\A.drop k=B.drop k/\Below w.heap.size w wr) (λi _=>(intOf i+1).toNat)
  case atStart=>exact⟨n1,aav _,O,by rw [List.drop_of_length_le<|Nat.le_of_eq HL1.out,List.drop_of_length_le<|Nat.le_of_eq HL2.out],Below.refl _ _⟩
  case round=>
   obtain⟨k,hk,rfl,hd,hb⟩:=hrel;have Hd:=bJ hd;clear hd
   by_cases h0:k=0
   ·subst h0
    exact auR
   ·obtain⟨j,rfl⟩:∃j,k=j+1:=aDh
    obtain⟨b1,off1,x,rfl,hx,oq,hcx⟩:=(hr1.ext hb).at (show j<n1 by omega);obtain⟨b2,off2,y,rfl,hy,hyB,hcy⟩:=(hs1.ext hb).at (show j<n1 by omega);have Hx:=bJ hx;have Hy:=bJ hy;clear hx hy
    by_cases hxy:x<y
    ·go_wp2
     go_quiet (fail);go_wp2;go_ret;refine⟨kZ ?_,lH hb _⟩;have hA:A.length=B.length:=by rw [HL1.out,HL2.out]
     have:=Dn (B:=dF) hr1.lt hA (k:=j) (by rw [HL1.out];omega) Hd.out (by
      have⟨_,e1⟩:=acf.1 Hx.out;have⟨_,e2⟩:=acf.1 Hy.out;rw [e1,e2];exact hxy)
     rw [HVX.out,HVY.out];unfold val;rw [l9,if_pos Z]
    ·by_cases hyx:y<x
     ·have e1:decide (x<y)=false:=by simpa using hxy
      go_wp2;go_quiet (fail);go_wp2;go_quiet (fail);go_wp2;go_ret;refine⟨kZ ?_,lH (lH hb _) _⟩;have hA:B.length=A.length:=by rw [HL1.out,HL2.out]
      have:=Dn (B:=dF) hs1.lt hA (k:=j) (by rw [HL2.out];omega) Hd.out.symm (by
       have⟨_,e1⟩:=acf.1 Hx.out;have⟨_,e2⟩:=acf.1 Hy.out;rw [e1,e2];exact hyx)
      rw [HVX.out,HVY.out];unfold val;exact ayG
     ·have e1:decide (x<y)=false:=by simpa using hxy
      have e2:decide (y<x)=false:=by simpa using hyx
      obtain rfl:x=y:=Z
      go_wp2;go_quiet (fail);go_wp2;go_quiet (fail);go_wp2;go_roundw
      case rel=>
       refine⟨j,by omega,by go_num,?_,lH hb _⟩;exact as9
      case measure=>simp [intOf]
 ·by_cases hlt:n1<m1
  ·go_wp2
   go_ret;exact⟨kZ<|by have:=xM (m:=val xs) (n:=val ys) (by rw [HA.out,HB.out,HL1.out,HL2.out];exact hlt);rw [l9,if_pos Z],Below.refl _ _⟩
  ·go_wp2
   go_ret;exact⟨kZ<|by have:=xM (m:=val ys) (n:=val xs) (by rw [HA.out,HB.out,HL1.out,HL2.out];omega);exact ayG,Below.refl _ _⟩
def P8(ao:Option Addr)(n c:Nat)(xs:List Nat)(v:Nat)(w:World)(hn:n<=1073741824)(hv0:0<v)(hvB:v<=65536)(hr:Rw .i64 B4 w ao n c xs):
  Calls prog 238 #[.slice ao n c,.int .i64 (v:Int)] w λe w'=>∃ro k c',e=.returned (.tuple #[.slice ro k c',.int .i64 ((qh xs%v:Nat):Int)])/\k<=n/\Rw .i64 B4 w' ro k c' (cO<|qh xs/v)/\xE w.heap.size w' ro c'/\Below w.heap.size w w':=by
 have azq:((v:Int)==0)=false:=by rw [beq_eq_false_iff_ne];omega
 have hvpos:(1:Int)<=v:=Z
 go_enter func238,ntmps238;go_wp2_with (at_make;refine Hid.out ?_);refine bJ<|aaq _ O _ _ 41 O 3 aAL 8 underlying41 Tryz.infoInt O .i64 .i64 _ _ n O O Z Z Z aCI λw2 hblk hbelow hlt=>?_
 obtain⟨G,hG⟩:∃G,G=w.heap.size:=⟨_,O⟩
 rw [<-hG] at hblk hlt hbelow ⊢;have HG:=bJ hG;clear hG;rw [<-gY] at hblk;have hpl:=hr.len;have Uu:=bJ hpl;clear hpl;go_wp2_with fail;go_loopw [7,8] (λs7 s8 wr=>∃(k r:Nat) (os:List Nat),k<=n/\s8=.int .i64 ((k:Int)-1)/\s7=.int .i64 r/\r<v/\os.length=n/\(∀o∈os,o<B4)/\ou wr G 3 (gU .i64 os)/\Below G w wr/\
   aZ B4 (xs.drop k)=v*aZ B4 (os.drop k)+r) (λ_ s8 _=>(intOf s8+1).toNat)
 case atStart=>exact⟨n,0,List.replicate n 0,aav _,O,O,hv0,by simp,(λo ho=>by have:=(afv.1 ho).2;exact axg),hblk,hbelow,by rw [List.drop_of_length_le<|Nat.le_of_eq Uu.out,List.drop_of_length_le aCY];rfl⟩
 case round=>
  obtain⟨k,r,os,hk,rfl,rfl,hrv,hol,wH,hb,hbe,hv⟩:=hrel;have HV:=bJ hv;have HOL:=bJ hol;clear hv hol hblk hbelow;have hb0:=hb.lt
  by_cases h0:k=0
  ·subst h0
   have hv:=HV.out;rw [List.drop_zero,List.drop_zero] at hv;have HV2:=bJ hv;clear hv HV;go_wp2_with fail;have hrow:=hb.rw wH;rw [HOL.out] at hrow;refine(CV _ _ _ _ _ Z hrow).mono ?_;rintro e w' ⟨r1,rfl,hr1',hres,rfl⟩;have hown:=hb.own (base:=G) (aav _) aC1;go_wp2;go_ret2;have hmod:qh xs%v=r:=by
    have h2:=HV2.out;unfold qh;rw [h2,Nat.mul_add_mod,Nat.mod_eq_of_lt hrv]
   have hdiv:qh xs/v=qh os:=by
    have h2:=HV2.out;unfold qh;exact ayY
   exact⟨_,_,_,by rw [hmod];rfl,hr1',by rw [hdiv];exact hres,by rw [<-HG.out];exact hown,by rw [<-HG.out];exact hbe⟩
  ·obtain⟨j,rfl⟩:∃j,k=j+1:=aDh
   obtain⟨b1,off1,x,rfl,hx,oq,hcx⟩:=(hr.ext aCH).at (show j<n by omega);have hx':x<10000:=oq;have Hx:=bJ hx;clear hx oq;have hcell:=hb.cell j aCX;have hfree:=hb.free j;obtain⟨s,hs⟩:∃s:Nat,s=r*10000+x:=⟨_,O⟩
   have hsI:(r:Int)*10000+(x:Int)=(s:Int):=Z
   have hqB:s/v<10000:=by
    rw [Nat.div_lt_iff_lt_mul hv0,hs];have:=abh 10000 (show r+1<=v from hrv);rw [Nat.add_mul,Nat.mul_comm v] at this;omega
   obtain⟨q,hq⟩:∃q:Nat,q=s/v:=⟨_,O⟩
   obtain⟨t,ht⟩:∃t:Nat,t=s%v:=⟨_,O⟩
   have htv:t<v:=by rw [ht];exact acP _ hv0
   have hqv:v*q+t=s:=by rw [hq,ht];exact anl s v
   have hq':(s:Int)/(v:Int)=(q:Int):=by rw [hq];rfl
   have ht':(s:Int)%(v:Int)=(t:Int):=by rw [ht];rfl
   rw [<-hq] at hqB;have HS:=bJ hs;have HQV:=bJ hqv;clear hs hqv hq ht;go_wp2;go_roundw
   case rel=>
    have hv:=hb.set j<|.int .i64 (q:Int);rw [iV] at hv;refine⟨j,t,os.set j q,by omega,by go_num,?_,htv,by rw [List.length_set];exact HOL.out,eX wH hqB j,?_,hbe.setCell (aav _) _,Fh aCT Hx.out HV.out HS.out HQV.out⟩
    ·first|rfl|(rw [ht'])
    ·exact hv
   case measure=>simp [intOf];try omega
def ak4(ao:Option Addr)(n c N:Nat)(w:World)(hn:n<=1000000000)(hr:Rw .i64 B4 w ao n c<|cO N):
  Calls prog 159 #[.slice ao n c] w λe w'=>∃ro k c',e=.returned (.slice ro k c')/\Rw .u32 dF w' ro k c' (dS N)/\k<=n/\xE w.heap.size w' ro c'/\Below w.heap.size w w':=by
 go_enter func159,ntmps159;obtain⟨v0,hv0⟩:∃v,v=Value.slice none 0 0:=⟨_,O⟩
 go_wp2_with fail;go_loopw [0,3] (λs0 s3 wr=>∃(V k m c':Nat) (ao:Option Addr) (os:List Nat),s0=.slice ao m c'/\Rw .i64 B4 wr ao m c' (cO V)/\m+k<=n/\os.length=k/\(∀o∈os,o<dF)/\wr.ownsRow w.heap.size 161 1 s3 k (gU .u32 os)/\
   Below w.heap.size w wr/\os++dS V=dS N) (λs0 _ _=>match s0 with|.slice _ m _=>m|_=>0)
 case atStart=>exact⟨N,0,n,c,ao,[],O,hr,by omega,O,by simp,World.ownsRow_nil _ _ _ _,Below.refl _ _,O⟩
 case round=>
  obtain⟨V,k,m,c',ao,os,rfl,hrow,hmk,hol,wH,hown,hb,hv⟩:=hrel;have hlen:=hrow.len;have HLEN:=bJ hlen;have HOL:=bJ hol;have HV:=bJ hv;clear hlen hol hv;have hbs:=hb.size
  by_cases hm0:m=0
  ·subst hm0
   obtain⟨ao',c1,rfl,h1,h2⟩:=qK (k:=.u32) (B:=dF) (by rw [HOL.out];exact hown) wH;rw [HOL.out] at h1;go_wp2;go_ret;have hV0:V=0:=F6.1<|acO HLEN.out;have h3:=HV.out;rw [hV0,Yc,List.append_nil] at h3;rw [h3] at h1;exact⟨_,_,_,by rw [HOL.out];rfl,h1,by omega,h2,hb⟩
  ·have atE:V≠0:=by
    rintro rfl;exact hm0 (by rw [<-HLEN.out];rfl)
   have HVN:=bJ atE;clear atE;go_wp2_with fail;refine(P8 _ _ _ _ 65536 _ Z Z Z hrow).mono ?_;rintro e w1 ⟨r1,k1,c1,rfl,hk1,hrow1,_,hb1⟩;rw [iG] at hrow1 ⊢;obtain⟨lo,hlo⟩:∃lo,lo=V%65536:=⟨_,O⟩
   have ajw:lo<65536:=Z
   rw [<-hlo];have HLO:=bJ hlo;clear hlo;go_wp2_with fail;refine(P8 _ _ _ _ 65536 _ Z Z Z hrow1).mono ?_;rintro e w2 ⟨r2,k2,c2,rfl,hk2,hrow2,afh,hb2⟩;rw [iG] at hrow2 ⊢;obtain⟨hi,hhi⟩:∃hi,hi=V/65536%65536:=⟨_,O⟩
   have at7:hi<65536:=Z
   rw [<-hhi];have HHI:=bJ hhi;clear hhi;have Rx:=qw hb1 hb2;have atK:Below w.heap.size w w2:=hb.trans<|Rx.mono hbs;have ayN:=atK.size;have hown2:w2.ownsRow w.heap.size 161 1 u3 k<|gU .u32 os:=by
    refine hown.kept (row:=none) ⟨Rx.os,Rx.tape,Rx.output,Rx.size,λj hj _=>Rx.block j hj⟩ ?_;cases h5:u3.ownBlock <;> simp
   have ay4:k2<m:=by
    have h1:=hrow2.len;have h2:V/65536/65536<V:=by have:=HVN.out;omega
    have h3:cO V=V%B4::cO (V/B4):=Ij HVN.out;have h4:(cO<|V/65536/65536).length<=(cO<|V/B4).length:=y9 aGJ;have h5:=HLEN.out;rw [h3,List.length_cons] at h5;omega
   have amg:V%dF=hi*65536+lo:=by rw [HLO.out,HHI.out];unfold dF;omega
   have aff:V/dF=V/65536/65536:=by unfold dF;omega
   have hcast:(hi:Int)*65536+(lo:Int)=((hi*65536+lo:Nat):Int):=Z
   have hstep:(os++[hi*65536+lo])++dS (V/65536/65536)=dS N:=by
    rw [<-HV.out,ab4 HVN.out,amg,aff,List.append_assoc];rfl
   have HST:=bJ hstep;have HC:=bJ hcast;clear amg aff hcast hstep;go_wp2_with (at_builtin;refine Hid.out ?_);refine bJ<|wG _ O _ _ 33 O w.heap.size 161 aBb 1 4 underlying33 Tryz.infoU32 O φ u3 k (gU .u32 os) O (hown2.alloc _) (some ⟨w2.heap.size,0,none⟩) 1 1 [Value.int .u32<|(hi:Int)*65536+(lo:Int)] O O (λe=>nomatch e) (aav _) (EI _ _ _) (SK _ _) aCI Z aEe λv' w3 hown' hgrow3 hb3=>?_
   have hbA:Below w2.heap.size w2<|w2.alloc<|.cells #[.int .u32<|(hi:Int)*65536+(lo:Int)] 161:=(Below.refl _ _).alloc (aav _) _;have hb4:Below w.heap.size w w3:=(atK.trans<|hbA.mono ayN).trans hb3;have hlim:hi*65536+lo<dF:=by unfold dF;omega
   rw [HC.out,IC] at hown';have hrow3:Rw .i64 B4 w3 r2 k2 c2<|cO<|V/65536/65536:=(hrow2.ext hbA).grown (afh.ext hbA) hgrow3 (λj hj=>by
    have h6:=(hown.lt j hj).2;have h7:=hb1.size;omega)
   clear hgrow3 hbA hrow2 afh hown2 hown hrow1 hrow;go_wp2;go_roundw
   case rel=>exact⟨V/65536/65536,k+1,k2,c2,r2,os++[hi*65536+lo],O,hrow3,by omega,by rw [List.length_append,HOL.out];rfl,Ce wH hlim,hown',hb4,HST.out⟩
   case measure=>exact ay4
def aej(ao bo:Option Addr)(n c m d M N:Nat)(w:World)(hn:n<=1073741824)(hm:m<=1073741824)(hr:Rw .i64 B4 w ao n c<|cO M)(hs:Rw .i64 B4 w bo m d<|cO N):
  Calls prog 213 #[.slice ao n c,.slice bo m d] w λe w'=>e=.returned (.int .i64<|l9 M N)/\Below w.heap.size w w':=by
 have hl1:=hr.len;have hl2:=hs.len;generalize hA:cO M=A at *
 generalize hB:cO N=B at *
 have hvx:M=qh A:=by rw [<-hA,iG]
 have hvy:N=qh B:=by rw [<-hB,iG]
 have HA:=bJ hA;have HB:=bJ hB;have HL1:=bJ hl1;have HL2:=bJ hl2;have HVX:=bJ hvx;have HVY:=bJ hvy;clear hA hB hl1 hl2 hvx hvy;go_enter func213,ntmps213
 by_cases hne:n=m
 ·subst hne
  go_wp2_with fail;go_loopw [5] (λi wr=>∃k:Nat,k<=n/\i=.int .i64 ((k:Int)-1)/\A.drop k=B.drop k/\Below w.heap.size w wr) (λi _=>(intOf i+1).toNat)
  case atStart=>exact⟨n,aav _,O,by rw [List.drop_of_length_le<|Nat.le_of_eq HL1.out,List.drop_of_length_le<|Nat.le_of_eq HL2.out],Below.refl _ _⟩
  case round=>
   obtain⟨k,hk,rfl,hd,hb⟩:=hrel;have Hd:=bJ hd;clear hd
   by_cases h0:k=0
   ·subst h0
    exact auR
   ·obtain⟨j,rfl⟩:∃j,k=j+1:=aDh
    obtain⟨b1,off1,x,rfl,hx,oq,hcx⟩:=(hr.ext hb).at (show j<n by omega);obtain⟨b2,off2,y,rfl,hy,hyB,hcy⟩:=(hs.ext hb).at (show j<n by omega);have Hx:=bJ hx;have Hy:=bJ hy;clear hx hy
    by_cases hxy:x=y
    ·subst hxy
     go_wp2;go_quiet (fail);go_wp2;go_roundw
     case rel=>
      refine⟨j,by omega,by go_num,?_,lH hb _⟩;exact as9
     case measure=>simp [intOf]
    ·have e1:((x:Int) !=(y:Int))=true:=by rw [bne_iff_ne];omega
     by_cases hlt:x<y
     ·have e2:decide (x<y)=true:=by simpa using hlt
      go_wp2;go_quiet (fail);go_wp2;go_quiet (fail);go_wp2;go_ret;refine⟨kZ ?_,by first|exact lH hb _|exact lH (lH hb _) _⟩;have hA:A.length=B.length:=by rw [HL1.out,HL2.out]
      have:=Dn (B:=B4) hr.lt hA (k:=j) (by rw [HL1.out];omega) Hd.out (by
       have⟨_,e1⟩:=acf.1 Hx.out;have⟨_,e2⟩:=acf.1 Hy.out;rw [e1,e2];exact hlt)
      rw [HVX.out,HVY.out];unfold qh;rw [l9,if_pos Z]
     ·have e2:decide (x<y)=false:=by simpa using hlt
      go_wp2;go_quiet (fail);go_wp2;go_quiet (fail);go_wp2;go_ret;refine⟨kZ ?_,by first|exact lH hb _|exact lH (lH hb _) _⟩;have hA:B.length=A.length:=by rw [HL1.out,HL2.out]
      have:=Dn (B:=B4) hs.lt hA (k:=j) (by rw [HL2.out];omega) Hd.out.symm (by
       have⟨_,e1⟩:=acf.1 Hx.out;have⟨_,e2⟩:=acf.1 Hy.out;rw [e1,e2];omega)
      rw [HVX.out,HVY.out];unfold qh;exact ayG
 ·by_cases hlt:n<m
  ·go_wp2
   go_ret;exact⟨kZ<|by have:=Ee (m:=M) (n:=N) (by rw [HA.out,HB.out,HL1.out,HL2.out];exact hlt);rw [l9,if_pos Z],Below.refl _ _⟩
  ·go_wp2
   go_ret;exact⟨kZ<|by have:=Ee (m:=N) (n:=M) (by rw [HA.out,HB.out,HL1.out,HL2.out];omega);exact ayG,Below.refl _ _⟩
def ahr(ao bo:Option Addr)(n c m d M N:Nat)(w:World)(hn:n<=1073741824)(hm:m<=1073741824)(hle:N<=M)(hr:Rw .i64 B4 w ao n c<|cO M)(hs:Rw .i64 B4 w bo m d<|cO N):
  Calls prog 214 #[.slice ao n c,.slice bo m d] w λe w'=>∃ro k c',e=.returned (.slice ro k c')/\Rw .i64 B4 w' ro k c' (cO<|M-N)/\k<=n/\xE w.heap.size w' ro c'/\Below w.heap.size w w':=by
 have hmn:=y9 hle;rw [hr.len,hs.len] at hmn;have hpl:=hr.len;have Iz:=hs.len;have Uu:=bJ hpl;have YI:=bJ Iz;have HLE:=bJ hle;clear hpl Iz hle;go_enter func214,ntmps214;go_wp2_with (at_make;refine Hid.out ?_);refine bJ<|aaq _ O _ _ 41 O 3 aAL 8 underlying41 Tryz.infoInt O .i64 .i64 _ _ n O O Z Z Z aCI λw2 hblk hbelow hlt=>?_
 obtain⟨G,hG⟩:∃G,G=w.heap.size:=⟨_,O⟩
 rw [<-hG] at hblk hlt hbelow ⊢;have HG:=bJ hG;clear hG;rw [<-gY] at hblk;go_wp2_with fail;go_loopw [6,14] (λs6 s14 wr=>∃(k cy:Nat) (os:List Nat),k<=n/\s14=.int .i64 k/\s6=.int .i64 cy/\cy<=1/\os.length=n/\(∀o∈os,o<B4)/\ou wr G 3 (gU .i64 os)/\Below G w wr/\
   aZ B4 (os.take k)+aZ B4 ((cO N).take k)=aZ B4 ((cO M).take k)+B4^k*cy) (λ_ s14 _=>n-(intOf s14).toNat)
 case atStart=>exact⟨0,0,List.replicate n 0,abJ _,O,O,by omega,by simp,(λo ho=>by have:=(afv.1 ho).2;exact axg),hblk,hbelow,by simp [aZ]⟩
 case round=>
  obtain⟨k,cy,os,hk,rfl,rfl,hcy,hol,wH,hb,hbe,hv⟩:=hrel;have HV:=bJ hv;have HOL:=bJ hol;clear hv hol hblk hbelow;have hb0:=hb.lt
  by_cases hkn:k<n
  ·obtain⟨b1,off1,x,rfl,hx,oq,hcx⟩:=(hr.ext aCH).at hkn
   have hcell:=hb.cell k aCX;have hfree:=hb.free k;have hx':x<10000:=oq;have Hx:=bJ hx;clear hx oq;have key:∀y:Nat,y<10000->aZ B4 ((cO N).take<|k+1)=aZ B4 ((cO N).take k)+B4^k*y->∃d1 b:Nat,d1<B4/\b<=1/\(d1:Int)=(if(x:Int)-cy-y<0 then(x:Int)-cy-y+10000 else(x:Int)-cy-y)/\(b:Int)=(if(x:Int)-cy-y<0 then 1 else 0)/\
     aZ B4 ((os.set k d1).take<|k+1)+aZ B4 ((cO N).take<|k+1)=aZ B4 ((cO M).take<|k+1)+B4^(k+1)*b:=by
    intro y hy hQ
    by_cases h:cy+y<=x
    ·exact⟨x-cy-y,0,by unfold B4;omega,by omega,by rw [if_neg Z];omega,by rw [if_neg Z];rfl,Hq aCT HV.out aFq hQ aGJ⟩
    ·exact⟨x+10000-cy-y,1,by unfold B4;omega,by omega,by rw [if_pos Z];omega,by rw [if_pos Z];rfl,Hq aCT HV.out aFq hQ aGJ⟩
   by_cases hkq:k<m
   ·obtain⟨b2,off2,y,rfl,hy,hyB,afa⟩:=(hs.ext aCH).at hkq
    have hy':y<10000:=hyB;have⟨d1,b,hd1,hb1,e1,e2,e3⟩:=key y hy'<|bT _ hy;have E1:=bJ e1;have E2:=bJ e2;have E3:=bJ e3;clear key hy hyB e1 e2 e3
    by_cases hneg:(x:Int)-cy-y<0
    ·go_wp2
     go_roundw
     case rel=>
      have hv:=hb.set k<|.int .i64 (d1:Int);rw [iV,E1.out,if_pos hneg] at hv;exact⟨k+1,b,os.set k d1,by omega,by go_num,by rw [E2.out,if_pos hneg],hb1,by rw [List.length_set];exact HOL.out,eX wH hd1 k,hv,hbe.setCell (aav _) _,E3.out⟩
     case measure=>simp [intOf];omega
    ·go_wp2
     go_roundw
     case rel=>
      have hv:=hb.set k<|.int .i64 (d1:Int);rw [iV,E1.out,if_neg Z] at hv;exact⟨k+1,b,os.set k d1,by omega,by go_num,by rw [E2.out,if_neg Z],hb1,by rw [List.length_set];exact HOL.out,eX wH hd1 k,hv,hbe.setCell (aav _) _,E3.out⟩
     case measure=>simp [intOf];omega
   ·have⟨d1,b,hd1,hb1,e1,e2,e3⟩:=key 0 Z aEp
    have E1:=bJ e1;have E2:=bJ e2;have E3:=bJ e3;clear key e1 e2 e3
    by_cases hneg:(x:Int)-cy<0
    ·go_wp2
     go_roundw
     case rel=>
      have hv:=hb.set k<|.int .i64 (d1:Int);rw [iV,E1.out,if_pos Z] at hv;refine⟨k+1,b,os.set k d1,by omega,by go_num,by rw [E2.out,if_pos Z],hb1,by rw [List.length_set];exact HOL.out,eX wH hd1 k,?_,hbe.setCell (aav _) _,E3.out⟩;rw [show(x:Int)-cy+10000=(x:Int)-cy-((0:Nat):Int)+10000 by omega];exact hv
     case measure=>simp [intOf];omega
    ·go_wp2
     go_roundw
     case rel=>
      have hv:=hb.set k<|.int .i64 (d1:Int);rw [iV,E1.out,if_neg Z] at hv;refine⟨k+1,b,os.set k d1,by omega,by go_num,by rw [E2.out,if_neg Z],hb1,by rw [List.length_set];exact HOL.out,eX wH hd1 k,?_,hbe.setCell (aav _) _,E3.out⟩;rw [show(x:Int)-cy=(x:Int)-cy-((0:Nat):Int) by omega];exact hv
     case measure=>simp [intOf];omega
  ·obtain rfl:k=n:=Z
   go_wp2_with fail;have hrow:=hb.rw wH;rw [HOL.out] at hrow;refine(CV _ _ _ _ _ Z hrow).mono ?_;rintro e w' ⟨r1,rfl,hr1',hres,rfl⟩;go_wp2;go_ret;refine⟨_,_,_,O,?_,hr1',by rw [<-HG.out];exact hb.own (aav _) aC1,by rw [<-HG.out];exact hbe⟩;have hval:qh os=M-N:=by
    have h2:=HV.out;rw [dJ _ Uu.out,List.take_of_length_le (l:=cO N)<|by rw [YI.out];exact hmn,dJ _ HOL.out] at h2;have h3:=KT wH;rw [HOL.out] at h3
    change qh os+qh (cO N)=qh (cO M)+_ at h2
    rw [iG,iG] at h2;have h4:=HLE.out;have:cy=0\/cy=1:=Z
    rcases this with rfl|rfl
    ·omega
    ·rw [Nat.mul_one] at h2;omega
   exact azL
def aj6(w:World)(base:Nat)(k:IntKind)(x:Nat)(t:TypeId)(hb:base<=w.heap.size):
  (w.alloc<|.cells #[.int k (x:Int)] t).ownsRow base t 1 (.slice (some ⟨w.heap.size,0,none⟩) 1 1) 1 (gU k [x]):=
 ⟨O,.inr ⟨w.heap.size,1,_,O,hb,heap_alloc_new w _,aav _,by decide,O,O⟩⟩
def JX{a b:Int}:l9 a b<=0↔a<=b:=by unfold l9;omega
def aeN(ao bo:Option Addr)(n c m d M N:Nat)(w:World)(hn:n<=100000000)(hm:m<=100000000)(hN:0<N)(hr:Rw .i64 B4 w ao n c<|cO M)(hs:Rw .i64 B4 w bo m d<|cO N):
  Calls prog 236 #[.slice ao n c,.slice bo m d] w λe w'=>∃qo qn qc ro rn rc,e=.returned (.tuple #[.slice qo qn qc,.slice ro rn rc])/\Rw .i64 B4 w' qo qn qc (cO<|M/N)/\qn<=n/\Rw .i64 B4 w' ro rn rc (cO<|M%N)/\rn<=m/\xE w.heap.size w' qo qc/\xE w.heap.size w' ro rc/\Below w.heap.size w w':=by
 have hpl:=hr.len;have Iz:=hs.len;have Uu:=bJ hpl;have YI:=bJ Iz;clear hpl Iz;go_enter func236,ntmps236;go_wp2_with (at_make;refine Hid.out ?_);refine bJ<|aaq _ O _ _ 41 O 3 aAL 8 underlying41 Tryz.infoInt O .i64 .i64 _ _ n O O Z Z Z aCI λw2 hblk hbelow hlt=>?_
 obtain⟨G,hG⟩:∃G,G=w.heap.size:=⟨_,O⟩
 rw [<-hG] at hblk hlt hbelow ⊢;have HG:=bJ hG;clear hG;rw [<-gY] at hblk;go_wp2_with fail;go_loopw [7,8] (λs7 s8 wr=>∃(k R rn rc:Nat) (ro:Option Addr) (qs:List Nat),k<=n/\s8=.int .i64 ((k:Int)-1)/\s7=.slice ro rn rc/\Rw .i64 B4 wr ro rn rc (cO R)/\xE G wr ro rc/\R<N/\qs.length=n/\(∀o∈qs,o<B4)/\ou wr G 3 (gU .i64 qs)/\Below G w wr/\
   aZ B4 ((cO M).drop k)=N*aZ B4 (qs.drop k)+R) (λ_ s8 _=>(intOf s8+1).toNat)
 case atStart=>exact⟨n,0,0,0,none,List.replicate n 0,aav _,O,O,Rw.nil _ _ _,xE.nil _ _ _,hN,by simp,(λo ho=>by have:=(afv.1 ho).2;exact axg),hblk,hbelow,by rw [List.drop_of_length_le<|Nat.le_of_eq Uu.out,List.drop_of_length_le aCY];rfl⟩
 case round=>
  obtain⟨k,R,rn,rc,ro,qs,hk,rfl,rfl,hrow,amk,hRN,hol,wH,hb,hbe,hv⟩:=hrel;have HV:=bJ hv;have HOL:=bJ hol;clear hv hol hblk hbelow;have hb0:=hb.lt;have azm:rn<=m:=by
   have:=y9<|acQ hRN;rw [hrow.len,YI.out] at this;exact this
  by_cases h0:k=0
  ·subst h0
   have hv:=HV.out;rw [List.drop_zero,List.drop_zero] at hv;have HV2:=bJ hv;clear hv HV;go_wp2_with fail;have Vt:=hb.rw wH;rw [HOL.out] at Vt;refine(CV _ _ _ _ _ Z Vt).mono ?_;rintro e w' ⟨r1,rfl,hr1',hres,rfl⟩;go_wp2;go_ret2;have hmod:M%N=R:=by
    have h2:=HV2.out
    change qh (cO M)=_ at h2
    rw [iG] at h2;rw [h2,Nat.mul_add_mod,Nat.mod_eq_of_lt hRN]
   have hdiv:M/N=qh qs:=by
    have h2:=HV2.out
    change qh (cO M)=_ at h2
    rw [iG] at h2;rw [h2,Nat.mul_add_div hN,Nat.div_eq_of_lt hRN,Nat.add_zero];rfl
   exact⟨_,_,_,_,_,_,O,by rw [hdiv];exact hres,hr1',by rw [hmod];exact hrow,azm,by rw [<-HG.out];exact hb.own (aav _) aC1,by rw [<-HG.out];exact amk,by rw [<-HG.out];exact hbe⟩
  ·obtain⟨j,rfl⟩:∃j,k=j+1:=aDh
   obtain⟨b1,off1,x,rfl,hx,oq,hcx⟩:=(hr.ext aCH).at (show j<n by omega);have hx':x<10000:=oq;have Hx:=bJ hx;clear hx oq;have hrlen:=hrow.len;have HRL:=bJ hrlen;clear hrlen;go_wp2_with (at_builtin;refine Hid.out ?_);refine bJ ?_;have hbA:Below wr.heap.size wr<|wr.alloc<|.cells #[.int .i64 (x:Int)] 3:=(Below.refl _ _).alloc (aav _) _;refine wG _ O _ _ 41 O wr.heap.size 3 aAL 1 8 underlying41 Tryz.infoInt O φ _ 1 (gU .i64 [x]) O (aj6 wr _ .i64 x 3<|aav _) ro rn rc (gU .i64<|cO R) O (by rw [dK,HRL.out];omega) hrow.2.2.1 hrow.le (hrow.cells.ext hbA) (MS _ _) aCI Z aEe λv' w3 hown' _ hb3=>?_
   have ae8:Below wr.heap.size wr w3:=hbA.trans hb3;have atV:gU .i64 [x]++gU .i64 (cO R)=gU .i64 (x::cO R):=by simp [gU]
   rw [atV] at hown';have hxR:∀o∈(x::cO R),o<B4:=by
    intro o ho
    rcases afu.1 ho with rfl|ho
    ·exact hx'
    ·exact yu R o ho
   obtain⟨ao',c',rfl,h1,hown1⟩:=qK (k:=.i64) (B:=B4) (xs:=x::cO R) (by rw [List.length_cons,HRL.out,Nat.add_comm];exact hown') hxR;rw [List.length_cons,HRL.out] at h1 ⊢;clear hown' atV hxR hbA hb3;go_wp2_with fail;refine(CV _ _ _ _ _ Z h1).mono ?_;rintro e w' ⟨r1,rfl,hr1',hres,rfl⟩;have hval:qh (x::cO R)=x+10000*R:=by
    unfold qh;rw [DX];have:=iG R;unfold qh at this;rw [this]
   rw [hval] at hres;have hR2:x+10000*R<10000*N:=Z
   obtain⟨R2,aoJ⟩:∃R2,R2=x+10000*R:=⟨_,O⟩
   rw [<-aoJ] at hres hR2;have HR2:=bJ aoJ;clear aoJ hval;have hb3:=hb.ext ae8;have atN:Below G w w3:=hbe.trans<|ae8.mono Z;clear h1 hrow amk hb hbe;have hr1m:r1<=m+1:=Z
   have hs3:Rw .i64 B4 w3 bo m d<|cO N:=hs.ext (by rw [<-HG.out];exact atN);have hNle:N<=N*65536:=ac0 _ Z;go_wp2_with fail;go_loopw [9,10] (λs9 s10 wi=>∃lo hi:Nat,s9=.int .i64 lo/\s10=.int .i64 hi/\lo<=hi/\hi<=9999/\lo*N<=R2/\R2<(hi+1)*N/\Below w3.heap.size w3 wi) (λs9 s10 _=>(intOf s10-intOf s9).toNat)
   case atStart=>exact⟨0,9999,O,O,by omega,by omega,by omega,hR2,Below.refl _ _⟩
   case round=>
    obtain⟨lo,hi,rfl,rfl,hlh,hhi,hlo2,hhi2,hbi⟩:=hrel;have HLO:=bJ hlo2;have HHI:=bJ hhi2;clear hlo2 hhi2;have hsi:=hs3.ext hbi;have amj:=hres.ext hbi
    by_cases hlt:lo<hi
    ·obtain⟨mm,hmm⟩:∃mm,mm=(lo+hi+1)/2:=⟨_,O⟩
     have hmi:((lo:Int)+(hi:Int)+1)/2=(mm:Int):=Z
     have hm1:lo<mm:=Z
     have hm2:mm<=hi:=Z
     clear hmm;go_wp2_with fail;refine(Nu _ m d mm 0 _ _ Z Z Z hsi).mono ?_;rintro e w4 ⟨r4,k4,c4,rfl,hrow4,hb4⟩;rw [iG,Nat.add_zero] at hrow4;have hk4:k4<=m+2:=by
      have h1:=yu N;have h2:N*mm<B4^(m+2):=by
       have h3:=KT<|yu N;rw [iG,YI.out] at h3;have h4:N*mm<=N*9999:=acM _ Z;have h5:N*9999<B4^m*B4:=by unfold B4 at *;omega
       exact axv
      have h6:=BK h2;rw [hrow4.len] at h6;exact h6
     have afl:=amj.ext hb4;go_wp2_with fail;refine(aej _ _ _ _ _ _ (N*mm) R2 _ Z Z hrow4 afl).mono ?_;rintro e w5 ⟨rfl,hb5⟩;obtain⟨z,hz⟩:∃z,z=l9 ((N*mm:Nat):Int) (R2:Int):=⟨_,O⟩
     rw [<-hz];have atP:Below w3.heap.size w3 w5:=hbi.trans<|(qw hb4 hb5).mono hbi.size
     by_cases hle:N*mm<=R2
     ·have hz0:z<=0:=by rw [hz,JX];omega
      have hdz:decide (z<=0)=true:=by simpa using hz0
      have auk:mm*N<=R2:=by rw [Nat.mul_comm];exact hle
      have axA:=bJ auk;clear hz auk hle;go_wp2_with fail;go_roundw
      case rel=>exact⟨mm,hi,O,O,hm2,hhi,axA.out,HHI.out,atP⟩
      case measure=>simp [intOf];omega
     ·have hz0:0<z:=by
       have:¬z<=0:=by rw [hz,JX];omega
       omega
      have hdz:decide (z<=0)=false:=by rw [decide_eq_false_iff_not];omega
      have at6:R2<((mm-1)+1)*N:=by rw [Nat.sub_add_cancel Z,Nat.mul_comm];omega
      have axz:=bJ at6;clear hz at6 hle;go_wp2_with fail;go_roundw
      case rel=>exact⟨lo,mm-1,O,by go_num,by omega,by omega,HLO.out,axz.out,atP⟩
      case measure=>simp [intOf];omega
    ·obtain rfl:lo=hi:=Z
     have hb6:=hb3.ext hbi;have ayK:Below G w wr:=atN.trans (hbi.mono<|by have:=hb3.lt;omega);have hcell:=hb6.cell j aCX;have hfree:=hb6.free j;have hlt6:=hb6.lt;have ajw:lo<10000:=Z
     have hb7:=hb6.set j<|.int .i64 (lo:Int);rw [iV] at hb7;have atO:Below G w<|wr.setCell ⟨G,j,none⟩<|.int .i64 (lo:Int):=ayK.setCell (aav _) _;have hs7:Rw .i64 B4 (wr.setCell ⟨G,j,none⟩<|.int .i64 (lo:Int)) bo m d<|cO N:=hs.ext (by rw [<-HG.out];exact atO);have auB:Rw .i64 B4 (wr.setCell ⟨G,j,none⟩<|.int .i64 (lo:Int)) ao' r1 c'<|cO R2:=amj.ag9 (hown1.ext hbi) hb0;go_wp2_with fail;generalize wr.setCell ⟨G,j,none⟩ (.int .i64 (lo:Int))=wx at *
     refine(Nu _ m d lo 0 _ _ Z Z Z hs7).mono ?_;rintro e w4 ⟨r4,k4,c4,rfl,hrow4,hb4⟩;rw [iG,Nat.add_zero] at hrow4;have hk4:k4<=m+2:=by
      have h2:N*lo<B4^(m+2):=by
       have h3:=KT<|yu N;rw [iG,YI.out] at h3;have h4:N*lo<=N*9999:=acM _ Z;have h5:N*9999<B4^m*B4:=by unfold B4 at *;omega
       exact axv
      have h6:=BK h2;rw [hrow4.len] at h6;exact h6
     have auC:=auB.ext hb4;have aoV:N*lo<=R2:=by rw [Nat.mul_comm];exact HLO.out
     go_wp2_with fail;refine(ahr _ _ _ _ _ _ R2 (N*lo) _ Z Z aoV auC hrow4).mono ?_;rintro e w5 ⟨r5,k5,c5,rfl,auD,hk5,hown5,hb5⟩;have hown6:xE G w5 r5 c5:=hown5.mono (by have:=hb4.size;have:=hb7.lt;omega);clear hown5;have atM:=qw hb4 hb5;have hb9:=hb7.ext atM;have ayL:Below G w w5:=atO.trans (atM.mono<|by have:=hb7.lt;omega);have arE:=bJ aoV;clear aoV;go_wp2;go_roundw
     case rel=>
      refine⟨j,R2-N*lo,k5,c5,r5,qs.set j lo,by omega,by go_num,O,auD,hown6,?_,by rw [List.length_set];exact HOL.out,eX wH ajw j,hb9,ayL,?_⟩
      ·have h1:=HHI.out
       rw [Nat.add_mul,Nat.one_mul,Nat.mul_comm lo] at h1;have:=arE.out;omega
      ·refine Fh (r:=R) (x:=x) (s:=R2) aCT Hx.out HV.out ?_ ?_
       ·rw [HR2.out];unfold B4;omega
       ·have:=arE.out;omega
     case measure=>simp [intOf];try omega
def agM(n:Nat)(w:World)(hn:n<=1000000):
  Calls prog 151 #[.int .i64 (n:Int)] w λe w'=>∃ro k c',e=.returned (.slice ro k c')/\Rw .i64 B4 w' ro k c' (cO<|2^n)/\k<=n+1/\xE w.heap.size w' ro c'/\Below w.heap.size w w':=by
 go_enter func151,ntmps151;go_wp2_with fail;have hstart:=(ou.new w 3<|gU .i64 [1]).rw (B:=B4) (by intro y hy;rw [List.mem_singleton.1 hy];decide);have afm:=(ou.new w 3<|gU .i64 [1]).own (base:=w.heap.size) (n:=1) (aav _) (by simp [gU]);go_loopw [3,4] (λs3 s4 wr=>∃(k rn rc:Nat) (ro:Option Addr),k<=n/\s4=.int .i64 k/\s3=.slice ro rn rc/\Rw .i64 B4 wr ro rn rc (cO<|2^k)/\xE w.heap.size wr ro rc/\Below w.heap.size w wr) (λ_ s4 _=>n-(intOf s4).toNat)
 case atStart=>exact⟨0,1,1,_,abJ _,O,O,hstart,afm,(Below.refl _ _).alloc (aav _) _⟩
 case round=>
  obtain⟨k,rn,rc,ro,hk,rfl,rfl,hrow,hown,hb⟩:=hrel;clear hstart afm;have hlen:rn<=k+1:=by
   have h:=BK (k:=k+1) (acI (Nat.pow_lt_pow_right φ<|af7 k)<|ac5 (show 2<=B4 by decide)<|k+1);rw [hrow.len] at h;exact h
  by_cases hkn:k<n
  ·go_wp2_with fail
   refine(Nv _ _ _ 2 0 _ _ Z Z Z hrow).mono ?_;rintro e w1 ⟨ro2,k2,c2,rfl,h2,hown2,hb2⟩;have hown3:=hown2.mono hb.size;have e2:qh (cO<|2^k)*2+0=2^(k+1):=by rw [iG,Nat.pow_succ];rfl
   rw [e2] at h2;have hb3:=qw hb hb2;clear e2 hb2 hrow hown hown2;go_wp2;go_roundw
   case rel=>exact⟨k+1,k2,c2,ro2,by omega,by go_num,O,h2,hown3,hb3⟩
   case measure=>simp [intOf];omega
  ·obtain rfl:k=n:=Z
   go_wp2;go_ret;exact⟨_,_,_,O,hrow,hlen,hown,hb⟩
def aiN(ao bo:Option Addr)(n c m d:Nat)(xs ys:List Nat)(w:World)(hn:n<=1073741824)(hm:m<=1073741824)(hr:Rw .u32 dF w ao n c xs)(hs:Rw .u32 dF w bo m d ys):
  Calls prog 257 #[.slice ao n c,.slice bo m d] w λe w'=>∃ro k c',e=.returned (.slice ro k c')/\Rw .u32 dF w' ro k c' (dS<|val xs+val ys)/\xE w.heap.size w' ro c'/\Below w.heap.size w w':=by
 go_enter func257,ntmps257;go_wp2_with fail;refine(jy ao n c xs _ Z hr).mono ?_;rintro e w' ⟨n1,rfl,hn1,hr1,rfl⟩;go_wp2_with fail;refine(jy bo m d ys _ Z hs).mono ?_;rintro e w' ⟨m1,rfl,hm1,hs1,rfl⟩;go_upto_if 18 with(fail);go_cut [0,1] (λs0 s1 wx=>∃po pn pc PL qo qn qc QL,s0=.slice po pn pc/\s1=.slice qo qn qc/\qn<=pn/\pn<=1073741824/\Rw .u32 dF w po pn pc PL/\Rw .u32 dF w qo qn qc QL/\val PL+val QL=val xs+val ys/\wx=w)
 case first=>
  have h1:=eF<|val xs;have h2:=eF<|val ys
  by_cases hlt:n1<m1
  ·go_wp2_with fail
   go_meet;exact⟨_,_,_,_,_,_,_,_,O,O,by omega,by omega,hs1,hr1,by omega,O⟩
  ·go_wp2_with fail
   go_meet;exact⟨_,_,_,_,_,_,_,_,O,O,by omega,by omega,hr1,hs1,by omega,O⟩
 case rest=>
  obtain⟨po,pn,pc,PL,qo,qn,qc,QL,rfl,rfl,hle,hbig,hp,hq,hval,rfl⟩:=hcut;have axO:=bJ hval;clear hval hr hs hr1 hs1 hn1 hm1;go_wp2_with (at_make;refine Hid.out ?_);refine bJ<|aaq _ O _ _ 33 O 161 aBb 4 underlying33 Tryz.infoU32 O .i64 .i64 _ _ (pn+1) O O Z Z Z aCI λw1 hblk hbelow hlt=>?_
  obtain⟨G,hG⟩:∃G,G=wc.heap.size:=⟨_,O⟩
  rw [<-hG] at hblk hlt hbelow ⊢;have HG:=bJ hG;clear hG;rw [<-gY] at hblk;go_wp2_with fail;go_loopw [6,27] (λs6 s27 wr=>∃(k cy:Nat) (os:List Nat),k<=pn/\s27=.int .i64 k/\s6=.int .u64 cy/\cy<=1/\os.length=pn+1/\(∀o∈os,o<dF)/\ou wr G 161 (gU .u32 os)/\Below G wc wr/\
    aZ dF (os.take k)+dF^k*cy=aZ dF (PL.take k)+aZ dF (QL.take k)) (λ_ s27 _=>pn-(intOf s27).toNat)
  case atStart=>exact⟨0,0,List.replicate (pn+1) 0,abJ _,O,O,by omega,by simp,(λo ho=>by simp at ho;subst ho;decide),hblk,hbelow,by simp [aZ]⟩
  case round=>
   obtain⟨k,cy,os,hk,rfl,rfl,hcy,hol,wH,hb,hbe,hv⟩:=hrel;have HV:=bJ hv;have HOL:=bJ hol;clear hv hol hblk hbelow;have hb0:=hb.lt
   by_cases hkn:k<pn
   ·obtain⟨b1,off1,x,rfl,hx,oq,hcx⟩:=(hp.ext aCH).at hkn
    have hcell:=hb.cell k aCX;have hfree:=hb.free k;have hx':x<4294967296:=oq;have Hx:=bJ hx;clear hx oq
    by_cases hkq:k<qn
    ·obtain⟨b2,off2,y,rfl,hy,hyB,afa⟩:=(hq.ext aCH).at hkq
     have hy':y<4294967296:=hyB;have Hy:=bJ hy;clear hy hyB;go_wp2;go_roundw
     case rel=>
      have hv:=hb.set k<|.int .u32 (((x+cy+y)%4294967296:Nat):Int);rw [iV] at hv;refine⟨k+1,(x+cy+y)/4294967296,os.set k<|(x+cy+y)%4294967296,by omega,by go_num,by go_num,by omega,by rw [List.length_set];exact HOL.out,eX wH aFd k,?_,?_,?_⟩
      ·have e:((x:Int)+cy+y)%4294967296=(((x+cy+y)%4294967296:Nat):Int):=Z
       rw [e];exact hv
      ·exact ayD
      ·exact UN aCT HV.out aFq<|bT _ Hy.out
     case measure=>simp [intOf];omega
    ·have Iz:=hq.len
     have YI:=bJ Iz;clear Iz;go_wp2;go_roundw
     case rel=>
      have hv:=hb.set k<|.int .u32 (((x+cy+0)%4294967296:Nat):Int);rw [iV] at hv;refine⟨k+1,(x+cy+0)/4294967296,os.set k<|(x+cy+0)%4294967296,by omega,by go_num,by go_num,by omega,by rw [List.length_set];exact HOL.out,eX wH aFd k,?_,?_,?_⟩
      ·have e:((x:Int)+cy)%4294967296=(((x+cy+0)%4294967296:Nat):Int):=Z
       rw [e];exact hv
      ·exact ayD
      ·exact UN aCT HV.out aFq aEp
     case measure=>simp [intOf];omega
   ·obtain rfl:k=pn:=Z
    have hcell:=hb.cell k aCX;have hfree:=hb.free k;go_wp2_with fail;have hv:=hb.set k<|.int .u32 (cy:Int);rw [iV] at hv;have hlt:∀x∈os.set k cy,x<dF:=eX wH (by show cy<4294967296;omega) k
    have hrow:=hv.rw hlt;rw [List.length_set,HOL.out] at hrow;refine(jy _ _ _ _ _ Z hrow).mono ?_;rintro e w' ⟨r1,rfl,hr1,hres,rfl⟩;have hown:=hv.own (base:=G) (aav _) (by rw [dK,List.length_set,HOL.out];exact aav _);go_wp2;go_ret;refine⟨_,_,_,O,?_,by rw [<-HG.out];exact hown,by rw [<-HG.out];exact ayD⟩;have hval:val (os.set k cy)=val xs+val ys:=by
     have h1:=ji dF os k cy aCT;rw [dJ _<|by rw [List.length_set,HOL.out]] at h1;have h2:=HV.out;rw [dJ _ hp.len,List.take_of_length_le (l:=QL)<|by rw [hq.len];exact hle] at h2;rw [<-axO.out];unfold val;omega
    exact azL
def akZ(ao bo:Option Addr)(n c m d:Nat)(xs ys:List Nat)(w:World)(hn:n<=1073741824)(hm:m<=1073741824)(hr:Rw .u32 dF w ao n c xs)(hs:Rw .u32 dF w bo m d ys):
  Calls prog 258 #[.slice ao n c,.slice bo m d] w λe w'=>∃ro k c',e=.returned (.tuple #[.slice ro k c',.bool<|decide<|val ys<=val xs])/\Rw .u32 dF w' ro k c' (dS<|val xs-val ys)/\xE w.heap.size w' ro c'/\Below w.heap.size w w':=by
 go_enter func258,ntmps258;go_wp2_with fail;refine(jy ao n c xs _ Z hr).mono ?_;rintro e w' ⟨n1,rfl,hn1,hr1,rfl⟩;go_wp2_with fail;refine(jy bo m d ys _ Z hs).mono ?_;rintro e w' ⟨m1,rfl,hm1,hs1,rfl⟩;go_wp2_with fail;refine(Zb _ _ _ _ _ _ _ _ _ Z Z hr1 hs1).mono ?_;rintro e w1 ⟨rfl,hw1⟩;rw [eF,eF];obtain⟨z,hz⟩:∃z,z=l9 (val xs) (val ys):=⟨_,O⟩
 rw [<-hz]
 by_cases hlt:val xs<val ys
 ·have hz0:z<0:=by rw [hz,l9,if_pos Z];decide
  clear hz;have hdec:decide (val ys<=val xs)=false:=by simpa using hlt
  have HD:=bJ hdec;clear hdec;have hsub:val xs-val ys=0:=Z
  have HS:=bJ hsub;clear hsub;go_wp2;go_ret2;exact⟨_,_,_,by rw [HD.out];rfl,by rw [HS.out];exact Rw.nil _ _ _,xE.nil _ _ _,hw1⟩
 ·have hz0:0<=z:=by rw [hz,l9,if_neg Z];split <;> decide
  clear hz;have hdec:decide (val ys<=val xs)=true:=by simpa using Nat.le_of_not_lt hlt
  have HD:=bJ hdec;clear hdec;have hle:=Nat.le_of_not_lt hlt;clear hlt;have hmn:=Nk hle;rw [hr1.len,hs1.len] at hmn;have hp:=hr1.ext hw1;have hq:=hs1.ext hw1;go_wp2_with (at_make;refine Hid.out ?_);refine bJ<|aaq _ O _ _ 33 O 161 aBb 4 underlying33 Tryz.infoU32 O .i64 .i64 _ _ n1 O O Z Z Z aCI λw2 hblk hbelow hlt=>?_
  obtain⟨G,hG⟩:∃G,G=w1.heap.size:=⟨_,O⟩
  rw [<-hG] at hblk hlt hbelow ⊢;have HG:=bJ hG;clear hG;rw [<-gY] at hblk;go_wp2_with fail;go_loopw [7,24] (λs7 s24 wr=>∃(k cy:Nat) (os:List Nat),k<=n1/\s24=.int .i64 k/\s7=.int .u64 cy/\cy<=1/\os.length=n1/\(∀o∈os,o<dF)/\ou wr G 161 (gU .u32 os)/\Below G w1 wr/\
    aZ dF (os.take k)+aZ dF ((dS<|val ys).take k)=aZ dF ((dS<|val xs).take k)+dF^k*cy) (λ_ s24 _=>n1-(intOf s24).toNat)
  case atStart=>exact⟨0,0,List.replicate n1 0,abJ _,O,O,by omega,by simp,(λo ho=>by have:=(afv.1 ho).2;exact axg),hblk,hbelow,by simp [aZ]⟩
  case round=>
   obtain⟨k,cy,os,hk,rfl,rfl,hcy,hol,wH,hb,hbe,hv⟩:=hrel;have HV:=bJ hv;have HOL:=bJ hol;clear hv hol hblk hbelow;have hb0:=hb.lt
   by_cases hkn:k<n1
   ·obtain⟨b1,off1,x,rfl,hx,oq,hcx⟩:=(hp.ext aCH).at hkn
    have hcell:=hb.cell k aCX;have hfree:=hb.free k;have hx':x<4294967296:=oq;have Hx:=bJ hx;clear hx oq
    by_cases hkq:k<m1
    ·obtain⟨b2,off2,y,rfl,hy,hyB,afa⟩:=(hq.ext aCH).at hkq
     have hy':y<4294967296:=hyB;have Hy:=bJ hy;clear hy hyB;have⟨d1,b,hd1,hb1,e1,e2,e3⟩:=ahs x cy y hx' hcy hy';have E1:=bJ e1;have E2:=bJ e2;have E3:=bJ e3;clear e1 e2 e3;go_wp2;rw [E1.out,E2.out];go_roundw
     case rel=>
      have hv:=hb.set k<|.int .u32 (d1:Int);rw [iV] at hv;exact⟨k+1,b,os.set k d1,by omega,by go_num,O,hb1,by rw [List.length_set];exact HOL.out,eX wH hd1 k,hv,hbe.setCell (aav _) _,Hq aCT HV.out aFq (bT _ Hy.out) E3.out⟩
     case measure=>simp [intOf];omega
    ·have Iz:=hq.len
     have YI:=bJ Iz;clear Iz;have⟨d1,b,hd1,hb1,e1,e2,e3⟩:=acw x cy hx' hcy;have E1:=bJ e1;have E2:=bJ e2;have E3:=bJ e3;clear e1 e2 e3;go_wp2;rw [E1.out,E2.out];go_roundw
     case rel=>
      have hv:=hb.set k<|.int .u32 (d1:Int);rw [iV] at hv;exact⟨k+1,b,os.set k d1,by omega,by go_num,O,hb1,by rw [List.length_set];exact HOL.out,eX wH hd1 k,hv,hbe.setCell (aav _) _,Hq aCT HV.out aFq aEp E3.out⟩
     case measure=>simp [intOf];omega
   ·obtain rfl:k=n1:=Z
    go_wp2_with fail;have hrow:=hb.rw wH;rw [HOL.out] at hrow;refine(jy _ _ _ _ _ Z hrow).mono ?_;rintro e w' ⟨r1,rfl,hr1',hres,rfl⟩;have hown:=hb.own (base:=G) (aav _) aC1;go_wp2;go_ret2;refine⟨_,_,_,by rw [HD.out];rfl,?_,(hown.mono<|by rw [HG.out];exact hw1.size),hw1.trans<|hbe.mono<|by rw [HG.out];exact hw1.size⟩;have hval:val os=val xs-val ys:=by
     have h2:=HV.out;rw [dJ _ hp.len,List.take_of_length_le (l:=dS<|val ys)<|by rw [hq.len];exact hmn,dJ _ HOL.out] at h2;have h3:=Ue wH;rw [HOL.out] at h3
     change val os+val (dS<|val ys)=val (dS<|val xs)+_ at h2
     rw [eF,eF] at h2;have:cy=0\/cy=1:=Z
     rcases this with rfl|rfl
     ·omega
     ·rw [Nat.mul_one] at h2;omega
    exact azL
def agd{B k cy x y o R V:Nat}{ps Q:List Nat}(ho:ps[k+j]?=some o)(hv:aZ B ps+B^(k+j)*cy=R+B^k*(x*V)) 
  (hQ:aZ B (Q.take<|j+1)=V+B^j*y):
  aZ B (ps.set (k+j)<|(x*y+o+cy)%B)+B^(k+(j+1))*((x*y+o+cy)/B)=R+B^k*(x*aZ B (Q.take<|j+1)):=by have h1:=Ht B ho<|(x*y+o+cy)%B;have h2:=NS B (k+j)<|x*y+o+cy;grind
def ET(x y:Nat)(hx:x<4294967296)(hy:y<4294967296):(x:Int)*(y:Int)<=18446744065119617025/\(0:Int)<=(x:Int)*(y:Int):=by exact axm
def PG(x y o c:Nat)(hx:x<4294967296)(hy:y<4294967296)(ho:o<4294967296)(hc:c<4294967296):x*y+o+c<4294967296*4294967296/\x*y<=18446744065119617025:=by exact axm
def akc(ao bo:Option Addr)(n c m d:Nat)(xs ys:List Nat)(w:World)(hn:n<=1073741824)(hm:m<=1073741824)(hr:Rw .u32 dF w ao n c xs)(hs:Rw .u32 dF w bo m d ys):
  Calls prog 118 #[.slice ao n c,.slice bo m d] w λe w'=>∃ro k c',e=.returned (.slice ro k c')/\Rw .u32 dF w' ro k c' (dS<|val xs*val ys)/\xE w.heap.size w' ro c'/\Below w.heap.size w w':=by
 go_enter func118,ntmps118;go_wp2_with fail;refine(jy ao n c xs _ Z hr).mono ?_;rintro e w' ⟨n1,rfl,hn1,hp,rfl⟩;go_wp2_with fail;refine(jy bo m d ys _ Z hs).mono ?_;rintro e w' ⟨m1,rfl,hm1,hq,rfl⟩;go_wp2_with (at_make;refine Hid.out ?_);refine bJ<|aaq _ O _ _ 33 O 161 aBb 4 underlying33 Tryz.infoU32 O .i64 .i64 _ _ (n1+m1) O O Z Z Z aCI λw2 hblk hbelow hlt=>?_
 obtain⟨G,hG⟩:∃G,G=w.heap.size:=⟨_,O⟩
 rw [<-hG] at hblk hlt hbelow ⊢;have HG:=bJ hG;clear hG;rw [<-gY] at hblk;generalize hA:dS (val xs)=P at *
 generalize hB:dS (val ys)=Q at *
 have HA:=bJ hA;have HB:=bJ hB;clear hA hB;have hpl:=hp.len;have Iz:=hq.len;have Uu:=bJ hpl;have YI:=bJ Iz;clear hpl Iz hr hs;go_wp2_with fail;go_loopw [24] (λs24 wr=>∃(k:Nat) (os:List Nat),k<=n1/\s24=.int .i64 k/\os.length=n1+m1/\(∀o∈os,o<dF)/\(∀j,k+m1<=j->j<n1+m1->os[j]?=some 0)/\ou wr G 161 (gU .u32 os)/\Below G w wr/\
   aZ dF os=aZ dF (P.take k)*aZ dF Q) (λs24 _=>n1-(intOf s24).toNat)
 case atStart=>exact⟨0,List.replicate (n1+m1) 0,abJ _,O,by simp,(λo ho=>by have:=(afv.1 ho).2;exact axg),(λj _ hj=>by simp [hj]),hblk,hbelow,by simp [aZ,oI]⟩
 case round=>
  obtain⟨k,os,hk,rfl,hol,wH,hz,hb,hbe,hv⟩:=hrel;have HV:=bJ hv;have HOL:=bJ hol;have HZ:=bJ hz;clear hv hol hblk hbelow hz;have hb0:=hb.lt
  by_cases hkn:k<n1
  ·obtain⟨b1,off1,x,rfl,hx,oq,hcx⟩:=(hp.ext aCH).at hkn
   have hx':x<4294967296:=oq;have Hx:=bJ hx;clear hx oq;go_wp2_with fail;obtain⟨wo,rfl⟩:∃wo:World,wo=wr:=⟨_,O⟩
   go_loopw [8,31] (λs8 s31 wr=>∃(j cy:Nat) (ps:List Nat),j<=m1/\s31=.int .i64 j/\s8=.int .u64 cy/\cy<4294967296/\ps.length=n1+m1/\(∀o∈ps,o<dF)/\(∀i,k+m1<=i->i<n1+m1->ps[i]?=some 0)/\ou wr G 161 (gU .u32 ps)/\Below G w wr/\
     aZ dF ps+dF^(k+j)*cy=aZ dF os+dF^k*(x*aZ dF (Q.take j))) (λ_ s31 _=>m1-(intOf s31).toNat)
   case atStart=>exact⟨0,0,os,abJ _,O,O,by omega,HOL.out,wH,HZ.out,hb,hbe,by simp [aZ]⟩
   case round=>
    obtain⟨j,cy,ps,hj,rfl,rfl,hcy,hpl,hpB,hpz,hb,hbe,hv⟩:=hrel;have HV2:=bJ hv;have abb:=bJ hpl;have HPZ:=bJ hpz;clear hv hpl hpz
    by_cases hjm:j<m1
    ·obtain⟨b2,off2,y,rfl,hy,hyB,afa⟩:=(hq.ext aCH).at hjm
     have hy':y<4294967296:=hyB;have Hy:=bJ hy;clear hy hyB;have hrow:=hb.rw hpB;rw [abb.out] at hrow;have⟨o,ho,aup,hco⟩:=hrow.cell (j:=k+j) Z;have eG:o<4294967296:=aup;rw [Nat.zero_add] at hco;have Ho:=bJ ho;clear ho aup hrow;have hfree:=hb.free<|k+j;have hmb:=PG x y o cy hx' hy' eG hcy;have⟨ay6,hm2⟩:=ET x y hx' hy';have HMB:=bJ hmb;clear hmb;go_wp2;go_roundw
     case rel=>
      have hv:=hb.set (k+j)<|.int .u32 (((x*y+o+cy)%4294967296:Nat):Int);rw [iV] at hv;have e0:((x*y+o+cy:Nat):Int)=(x:Int)*y+o+cy:=by simp
      refine⟨j+1,(x*y+o+cy)/4294967296,ps.set (k+j)<|(x*y+o+cy)%4294967296,by omega,by go_num,?_,?_,by rw [List.length_set];exact abb.out,eX hpB aFd _,?_,?_,?_,?_⟩
      ·rw [<-e0];rfl
      ·have:=HMB.out.1;exact ahR this
      ·intro i h1 h2
       rw [List.getElem?_set_ne Z];exact HPZ.out i h1 h2
      ·have e1:((x:Int)*y+o+cy)%4294967296=(((x*y+o+cy)%4294967296:Nat):Int):=by rw [<-e0];rfl
       rw [e1];exact hv
      ·exact ayD
      ·exact agd Ho.out HV2.out<|bT _ Hy.out
     case measure=>simp [intOf];omega
    ·obtain rfl:j=m1:=Z
     have hv2:=HV2.out;rw [dJ dF YI.out] at hv2;have HV3:=bJ hv2;clear hv2
     by_cases h0:j=0
     ·subst h0
      have hq0:aZ dF Q=0:=by rw [List.eq_nil_of_length_eq_zero YI.out];rfl
      have HQ0:=bJ hq0;clear hq0;go_wp2;go_roundw
      case rel=>
       refine⟨k+1,ps,by omega,by go_num,abb.out,hpB,λi h1 h2=>HPZ.out i Z h2,hb,hbe,?_⟩;have h2:=HV3.out;rw [HV.out,HQ0.out] at h2;rw [HQ0.out];omega
      case measure=>simp [intOf];omega
     ·have hrow:=hb.rw hpB
      rw [abb.out] at hrow;have h00:=HPZ.out (k+j) (aav _) Z;have H00:=bJ h00;clear h00;have hcell:=hb.cell (k+j) (by rw [dK,abb.out];omega);have hfree:=hb.free<|k+j;go_wp2;go_roundw
      case rel=>
       have hv:=hb.set (k+j)<|.int .u32 (cy:Int);rw [iV] at hv;refine⟨k+1,ps.set (k+j) cy,by omega,by go_num,by rw [List.length_set];exact abb.out,eX hpB hcy _,?_,hv,hbe.setCell (aav _) _,?_⟩
       ·intro i h1 h2
        rw [List.getElem?_set_ne Z];exact HPZ.out i Z h2
       ·have h1:=Ht dF H00.out cy
        have h2:=HV3.out;have h3:=bT dF Hx.out;rw [h3,HV.out] at *
        grind
      case measure=>simp [intOf];omega
  ·obtain rfl:k=n1:=Z
   go_wp2_with fail;have hrow:=hb.rw wH;rw [HOL.out] at hrow;refine(jy _ _ _ _ _ Z hrow).mono ?_;rintro e w' ⟨r1,rfl,hr1',hres,rfl⟩;have hown:=hb.own (base:=G) (aav _) aC1;go_wp2;go_ret;refine⟨_,_,_,O,?_,by rw [<-HG.out];exact hown,by rw [<-HG.out];exact hbe⟩;have hval:val os=val xs*val ys:=by
    have h2:=HV.out;rw [dJ _ Uu.out,<-HA.out,<-HB.out] at h2
    change val os=val (dS<|val xs)*val (dS<|val ys) at h2
    rw [eF,eF] at h2;exact h2
   exact azL
def akl(ao:Option Addr)(n c:Nat)(xs:List Nat)(v:Nat)(w:World)(hn:n<=1073741824)(hv0:0<v)(hvB:v<4294967296)(hr:Rw .u32 dF w ao n c xs):
  Calls prog 320 #[.slice ao n c,.int .u32 v] w λe w'=>∃ro k c',e=.returned (.tuple #[.slice ro k c',.int .u32 ((val xs%v:Nat):Int)])/\Rw .u32 dF w' ro k c' (dS<|val xs/v)/\xE w.heap.size w' ro c'/\Below w.heap.size w w':=by
 have azq:((v:Int)==0)=false:=by rw [beq_eq_false_iff_ne];omega
 go_enter func320,ntmps320;go_wp2_with (at_make;refine Hid.out ?_);refine bJ<|aaq _ O _ _ 33 O 161 aBb 4 underlying33 Tryz.infoU32 O .i64 .i64 _ _ n O O Z Z Z aCI λw2 hblk hbelow hlt=>?_
 obtain⟨G,hG⟩:∃G,G=w.heap.size:=⟨_,O⟩
 rw [<-hG] at hblk hlt hbelow ⊢;have HG:=bJ hG;clear hG;rw [<-gY] at hblk;have hpl:=hr.len;have Uu:=bJ hpl;clear hpl;go_wp2_with fail;go_loopw [7,8] (λs7 s8 wr=>∃(k r:Nat) (os:List Nat),k<=n/\s8=.int .i64 ((k:Int)-1)/\s7=.int .u64 r/\r<v/\os.length=n/\(∀o∈os,o<dF)/\ou wr G 161 (gU .u32 os)/\Below G w wr/\
   aZ dF (xs.drop k)=v*aZ dF (os.drop k)+r) (λ_ s8 _=>(intOf s8+1).toNat)
 case atStart=>exact⟨n,0,List.replicate n 0,aav _,O,O,hv0,by simp,(λo ho=>by have:=(afv.1 ho).2;exact axg),hblk,hbelow,by rw [List.drop_of_length_le<|Nat.le_of_eq Uu.out,List.drop_of_length_le aCY];rfl⟩
 case round=>
  obtain⟨k,r,os,hk,rfl,rfl,hrv,hol,wH,hb,hbe,hv⟩:=hrel;have HV:=bJ hv;have HOL:=bJ hol;clear hv hol hblk hbelow;have hb0:=hb.lt
  by_cases h0:k=0
  ·subst h0
   have hv:=HV.out;rw [List.drop_zero,List.drop_zero] at hv;have HV2:=bJ hv;clear hv HV;go_wp2_with fail;have hrow:=hb.rw wH;rw [HOL.out] at hrow;refine(jy _ _ _ _ _ Z hrow).mono ?_;rintro e w' ⟨r1,rfl,hr1',hres,rfl⟩;have hown:=hb.own (base:=G) (aav _) aC1;have hr4:r<4294967296:=Z
   go_wp2;go_ret2;have hmod:val xs%v=r:=by
    have h2:=HV2.out;unfold val;rw [h2,Nat.mul_add_mod,Nat.mod_eq_of_lt hrv]
   have hdiv:val xs/v=val os:=by
    have h2:=HV2.out;unfold val;exact ayY
   exact⟨_,_,_,by rw [hmod];rfl,by rw [hdiv];exact hres,by rw [<-HG.out];exact hown,by rw [<-HG.out];exact hbe⟩
  ·obtain⟨j,rfl⟩:∃j,k=j+1:=aDh
   obtain⟨b1,off1,x,rfl,hx,oq,hcx⟩:=(hr.ext aCH).at (show j<n by omega);have hx':x<4294967296:=oq;have hr':r<4294967296:=Z
   have Hx:=bJ hx;clear hx oq;have hcell:=hb.cell j aCX;have hfree:=hb.free j;obtain⟨s,hs⟩:∃s:Nat,s=r*4294967296+x:=⟨_,O⟩
   have hor:=SL r x hr' hx';rw [<-hs] at hor;have hqB:s/v<4294967296:=by
    rw [Nat.div_lt_iff_lt_mul hv0,hs];have:=abh 4294967296 (show r+1<=v from hrv);rw [Nat.add_mul,Nat.mul_comm v] at this;omega
   obtain⟨q,hq⟩:∃q:Nat,q=s/v:=⟨_,O⟩
   obtain⟨t,ht⟩:∃t:Nat,t=s%v:=⟨_,O⟩
   have htv:t<v:=by rw [ht];exact acP _ hv0
   have hqv:v*q+t=s:=by rw [hq,ht];exact anl s v
   have hq':(s:Int)/(v:Int)=(q:Int):=by rw [hq];rfl
   have ht':(s:Int)%(v:Int)=(t:Int):=by rw [ht];rfl
   rw [<-hq] at hqB;have HS:=bJ hs;have HQV:=bJ hqv;clear hs hqv hq ht;go_wp2;go_region;go_wp2;rw [ht'];go_roundw
   case rel=>
    have hv:=hb.set j<|.int .u32 (q:Int);rw [iV] at hv;exact⟨j,t,os.set j q,by omega,O,O,htv,by rw [List.length_set];exact HOL.out,eX wH hqB j,hv.drew,(hbe.setCell (aav _) _).drew,Fh aCT Hx.out HV.out HS.out HQV.out⟩
   case measure=>simp [intOf]
end
end Go.Proofs.YtecmeakkkmidjaaGreat
