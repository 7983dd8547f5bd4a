/-
  Laws of the program's functions by an abstract machine, part 1: joined, short spelling. No condition.
-/
import Derived.Test.YtapmpcgekdplfaaGreatJ0
set_option linter.unusedVariables false
set_option linter.unusedSimpArgs false
set_option maxRecDepth 100000
set_option maxHeartbeats 4000000
namespace Go.Proofs.YtapmpcgekdplfaaGreat
open Go.RowKit
/-- A whole number by its sign and size. -/
def zv(neg:Bool)(m:Nat):Int:=if neg then -(m:Int) else m
theorem OJ(neg:Bool)(m:Nat):decide (zv neg m < 0)=(neg && decide (0 < m)):=by
 cases neg <;> simp [zv] <;> omega
theorem tV(neg:Bool)(m:Nat):(zv neg m).natAbs=m:=by cases neg <;> simp [zv]
theorem lZ(z:Int):zv (decide (z < 0)) z.natAbs=z:=by
 unfold zv
 by_cases h:z < 0
 ·rw [decide_eq_true h,if_pos rfl];omega
 ·rw [decide_eq_false h,if_neg (by simp)];omega
/-- A row of integers, of at most K. -/
def afy(k:IntKind)(D K:Nat)(xs:List Nat):Sm where
 p:=fun B w v=>∃ a n c,v= .slice a n c∧Rw k D w a n c xs∧n≤K∧∀ x,a=some x→xs≠ []→¬ B x.block
 one:=by rintro B w v ⟨a,n,c,rfl,_⟩;rfl
 mv:=by
  rintro B B' w w' v ⟨a,n,c,rfl,⟨h1,h2,h3,h4,h5⟩,h6,h7⟩ hk hB;refine ⟨a,n,c,rfl,⟨h1,h2,h3,h4,?_⟩,h6,fun x hx hne hb=>?_⟩
  ·rcases h5 with h5 | ⟨b,off,rfl,h5⟩
   ·exact Or.inl h5
   ·by_cases hne:xs= []
    ·subst hne;exact Or.inl rfl
    ·exact Or.inr ⟨b,off,rfl,fun j hj=>hk.cell (h5 j hj) (show ¬ B b from h7 ⟨b,off,none⟩ rfl hne)⟩
  ·subst hx
   have hlt:x.block < w.heap.size:=by
    rcases h5 with h5 | ⟨b,off,he,h5⟩
    ·exact absurd (List.map_eq_nil_iff.1 h5) hne
    ·cases he
     have hl:0 < (eP k xs).length:=by rw [bM];exact List.length_pos_iff.2 hne
     exact World.block_lt_of_cell? w _ (h5 0 hl)
   exact h7 x rfl hne (hB _ hlt hb)
/-- Limbs, of at most K; digits of four decimals. -/
def lr(K:Nat)(xs:List Nat):Lf:= .ln xs.length (afy .u32 bT K xs)
def dr(K:Nat)(xs:List Nat):Lf:= .ln xs.length (afy .i64 B4 K xs)
/-- .. normal. -/
def ln(K m:Nat):Lf:=lr K (dA m)
def dn(K m:Nat):Lf:=dr K (aT m)
/-- A whole number, normal; us the plain reckoning has it. -/
def zn(K:Nat)(z:Int):List Lf:= [.v (.bool (decide (z < 0))),ln K z.natAbs]
def rn(K:Nat)(z:Int):List Lf:= [dn K z.natAbs,.v (.bool (decide (z < 0)))]
/-- What stands there is this number (whatever its form; with noughts on top, perhaps). -/
def JX(l:Lf)(K m:Nat):Prop:=∃ xs,(∀ B w c,dY B w l c→dY B w (lr K xs) c)∧val xs=m
def Gg(ls:List Lf)(K:Nat)(z:Int):Prop:=∃ s xs,(∀ B w cs,ig B w ls cs→ig B w [.v (.bool s),lr K xs] cs)∧zv s (val xs)=z
def VZ(l:Lf)(K m:Nat):Prop:=∀ B w c,dY B w l c→dY B w (dn K m) c
def LY(ls:List Lf)(K:Nat)(z:Int):Prop:=∀ B w cs,ig B w ls cs→ig B w (rn K z) cs
theorem ZM(K m:Nat):JX (ln K m) K m:=⟨_,fun _ _ _ h=>h,aac m⟩
theorem qF(K:Nat)(z:Int):Gg (zn K z) K z:=⟨_,_,fun _ _ _ h=>h,by rw [aac];exact lZ z⟩
theorem Tm(K m:Nat):VZ (dn K m) K m:=fun _ _ _ h=>h
theorem fV(K:Nat)(z:Int):LY (rn K z) K z:=fun _ _ _ h=>h
theorem aln(K:Nat)(s:Bool)(xs:List Nat):Gg [.v (.bool s),lr K xs] K (zv s (val xs)):=⟨_,_,fun _ _ _ h=>h,rfl⟩
theorem ug(K:Nat)(xs:List Nat):JX (lr K xs) K (val xs):=⟨_,fun _ _ _ h=>h,rfl⟩
theorem aag{B:BS}{w:World}{K:Nat}{xs:List Nat}{a:Option Addr}{n c:Nat}(h:Rw .u32 bT w a n c xs)(hK:n≤K)(hB:∀ x,a=some x→xs≠ []→¬ B x.block):dY B w (lr K xs) (.slice a n c):=
 ⟨⟨a,n,c,rfl,h,hK,hB⟩,a,c,by rw [h.len]⟩
theorem YZ{B:BS}{w:World}{K:Nat}{xs:List Nat}{a:Option Addr}{n c:Nat}(h:Rw .i64 B4 w a n c xs)(hK:n≤K)(hB:∀ x,a=some x→xs≠ []→¬ B x.block):dY B w (dr K xs) (.slice a n c):=
 ⟨⟨a,n,c,rfl,h,hK,hB⟩,a,c,by rw [h.len]⟩
theorem qR{B:BS}{w:World}{K:Nat}{xs:List Nat}{v:Value}(h:dY B w (lr K xs) v):∃ a n c,v= .slice a n c∧Rw .u32 bT w a n c xs∧n≤K∧∀ x,a=some x→xs≠ []→¬ B x.block:=h.1
theorem vW{B:BS}{w:World}{K:Nat}{xs:List Nat}{v:Value}(h:dY B w (dr K xs) v):∃ a n c,v= .slice a n c∧Rw .i64 B4 w a n c xs∧n≤K∧∀ x,a=some x→xs≠ []→¬ B x.block:=h.1
/-- A row of the call's own keeps out of elder blocks. -/
theorem DX{B:BS}{w w':World}{k:IntKind}{D n c:Nat}{a:Option Addr}{xs:List Nat}(hB:∀ b,B b→b < w.heap.size)(ho:rH w.heap.size w' a c)(hr:Rw k D w' a n c xs):∀ x,a=some x→xs≠ []→¬ B x.block:=by
 rintro x rfl hne hb;have h1:=hB _ hb
 rcases ho with h0 | ⟨b,off,cs,e,he,hge,_⟩
 ·have h2:=hr.le
  have h3:=hr.len;have:xs= []:=adb (by omega);exact hne this
 ·cases he
  simp at h1;omega
theorem oM{K L:Nat}{xs:List Nat}(h:K≤L):∀ B w v,dY B w (lr K xs) v→dY B w (lr L xs) v:=by
 rintro B w v ⟨⟨a,n,c,h1,h2,h3,h4⟩,h5⟩;exact ⟨⟨a,n,c,h1,h2,acS h3 h,h4⟩,h5⟩
theorem lS{K L:Nat}{xs:List Nat}(h:K≤L):∀ B w v,dY B w (dr K xs) v→dY B w (dr L xs) v:=by
 rintro B w v ⟨⟨a,n,c,h1,h2,h3,h4⟩,h5⟩;exact ⟨⟨a,n,c,h1,h2,acS h3 h,h4⟩,h5⟩
theorem Ep{K L:Nat}{z:Int}(h:K≤L):∀ B w cs,ig B w (zn K z) cs→ig B w (zn L z) cs
 | B,w,[a,b],⟨h1,h2,h3⟩=>⟨h1,oM h _ _ _ h2,h3⟩
theorem Om{K L:Nat}{z:Int}(h:K≤L):∀ B w cs,ig B w (rn K z) cs→ig B w (rn L z) cs
 | B,w,[a,b],⟨h1,h2,h3⟩=>⟨lS h _ _ _ h1,h2,h3⟩
theorem oH{ls ms:List Lf}(h:∀ B w cs,ig B w ls cs→ig B w ms cs):AV.le (.d (.agg ls)) (.d (.agg ms)):=fun ρ B w v ⟨cs,e,hl⟩=>⟨cs,e,h _ _ _ hl⟩
theorem gq{l m:Lf}(h:∀ B w c,dY B w l c→dY B w m c):AV.le (.d (.one l)) (.d (.one m)):=fun ρ B w v hl=>h _ _ _ hl
theorem jQ{K L:Nat}{z y:Int}(h:K≤L)(e:z=y):AV.le (.d (.agg (zn K z))) (.d (.agg (zn L y))):=by subst e;exact oH (Ep h)
theorem zA{K L:Nat}{z y:Int}(h:K≤L)(e:z=y):AV.le (.d (.agg (rn K z))) (.d (.agg (rn L y))):=by subst e;exact oH (Om h)
theorem aG{k:IntKind}{z y:Int}(e:z=y):AV.le (.d (.one (.v (.int k z)))) (.d (.one (.v (.int k y)))):=by subst e;exact AV.le.rfl
theorem Aj{b c:Bool}(e:b=c):AV.le (.d (.one (.v (.bool b)))) (.d (.one (.v (.bool c)))):=by subst e;exact AV.le.rfl
theorem jf{t:TypeId}{ls ms:List Lf}(h:∀ B w cs,ig B w ls cs→ig B w ms cs):AO.le (.box t ls) (.box t ms):=fun B w0 w v ⟨g,vs,h1,h2,h3,h4⟩=>⟨g,vs,h1,h2,h3,h _ _ _ h4⟩
theorem BG{t:TypeId}{K L:Nat}{z y:Int}(h:K≤L)(e:z=y):AO.le (.box t (zn K z)) (.box t (zn L y)):=by subst e;exact jf (Ep h)
theorem BF{t:TypeId}{K L:Nat}{z y:Int}(h:K≤L)(e:z=y):AO.le (.box t (rn K z)) (.box t (rn L y)):=by subst e;exact jf (Om h)
theorem fQ{sl:List (Nat×AV)}{t:Nat}{a b:AV}(h:lk sl t=some a)(k:AV.le a b):Has sl (t,b):=⟨a,h,k⟩
theorem dX{hp:List (Nat×AO)}{t:Nat}{a b:AO}(h:lk hp t=some a)(k:AO.le a b):abY hp (t,b):=⟨a,h,k⟩
/-- A limb row's cells one by one. -/
theorem adq(K:Nat)(xs:List Nat):AV.le (.d (.one (lr K xs))) (.d (.one (.row 1 xs.length fun i _=> .v (.int .u32 ((xs.getD i 0:Nat):Int))))):=by
 refine gq fun B w v h=>?_
 obtain ⟨a,n,c,rfl,hr,hn,hb⟩:=qR h;obtain rfl:=hr.len;refine ⟨a,c,rfl,hr.le,hr.2.2.1,fun i hi=>?_⟩;obtain ⟨b,off,x,rfl,hx,kC,hc⟩:=hr.at hi;have hne:xs≠ []:=fun e=>by subst e;simp at hi
 refine ⟨b,off,rfl,hb _ rfl hne,World.block_lt_of_cell? w _ hc,fun j hj=>?_⟩;have:j=0:=by omega
 subst this;refine ⟨_,by rw [Nat.mul_one,Nat.add_zero];exact hc,?_,rfl⟩;obtain ⟨hl,rfl⟩:=abU.1 hx;simp [hl]
theorem G6(K:Nat)(xs:List Nat):AV.le (.d (.one (dr K xs))) (.d (.one (.row 1 xs.length fun i _=> .v (.int .i64 ((xs.getD i 0:Nat):Int))))):=by
 refine gq fun B w v h=>?_
 obtain ⟨a,n,c,rfl,hr,hn,hb⟩:=vW h;obtain rfl:=hr.len;refine ⟨a,c,rfl,hr.le,hr.2.2.1,fun i hi=>?_⟩;obtain ⟨b,off,x,rfl,hx,kC,hc⟩:=hr.at hi;have hne:xs≠ []:=fun e=>by subst e;simp at hi
 refine ⟨b,off,rfl,hb _ rfl hne,World.block_lt_of_cell? w _ hc,fun j hj=>?_⟩;have:j=0:=by omega
 subst this;refine ⟨_,by rw [Nat.mul_one,Nat.add_zero];exact hc,?_,rfl⟩;obtain ⟨hl,rfl⟩:=abU.1 hx;simp [hl]
/-- No row at all is a row. -/
theorem TF(K:Nat):AV.le (.d (.one (.v (.slice none 0 0)))) (.d (.one (ln K 0))):=by
 refine gq ?_;rintro B w v ⟨rfl,_⟩;exact aag (Rw.nil _ _ _) (abR _) (fun x h=>by cases h)
theorem Jj{B:BS}{w:World}:∀ {cs:List Value},ig B w [.v (.bool false),.v (.slice none 0 0)] cs→ig B w (zn 0 0) cs
 | [a,b],h=>by
  obtain ⟨h1,⟨h2,_⟩,h3⟩:=h;subst h2;exact ⟨h1,aag (Rw.nil _ _ _) (abR _) (fun x h=>by cases h),h3⟩
theorem ahP{B:BS}{w:World}:∀ {cs:List Value},ig B w [.v (.slice none 0 0),.v (.bool false)] cs→ig B w (rn 0 0) cs
 | [a,b],h=>by
  obtain ⟨⟨h1,_⟩,h2,h3⟩:=h;subst h1;exact ⟨YZ (Rw.nil _ _ _) (abR _) (fun x h=>by cases h),h2,h3⟩
theorem JX.eq{l:Lf}{K m n:Nat}(h:JX l K m)(e:m=n):JX l K n:=e▸h
theorem adk:Gg [.v (.bool false),.v (.slice none 0 0)] 0 0:=let ⟨s,xs,h1,h2⟩:=qF 0 0;⟨s,xs,fun B w cs h=>h1 B w cs (Jj h),h2⟩
/-- Cells one by one are a limb row. -/
theorem Vb{n:Nat}{el:Nat→Nat→Lf}{xs:List Nat}(hn:xs.length=n)(hx:∀ x∈xs,x < bT)(he:∀ i,i < n→el i 0= .v (.int .u32 ((xs.getD i 0:Nat):Int))):JX (.row 1 n el) n (val xs):=by
 refine ⟨xs,?_,rfl⟩;rintro B w c ⟨a,cap,rfl,h1,h2,h3⟩;subst hn;refine aag ⟨rfl,h1,h2,hx,?_⟩ (abJ _) (fun x hx' hne hb=>?_)
 ·rcases aev xs.length with h0 | h0
  ·have:xs= []:=adb h0
   subst this;exact Or.inl rfl
  ·obtain ⟨b,off,rfl,_,_,_⟩:=h3 0 h0
   refine Or.inr ⟨b,off,rfl,fun j hj=>?_⟩;have hj':j < xs.length:=by simpa [eP] using hj
   obtain ⟨b',off',he',_,_,h4⟩:=h3 j hj';cases he'
   obtain ⟨x,hx1,hx2⟩:=h4 0 (by omega);rw [he j hj'] at hx2;obtain ⟨rfl,_⟩:=hx2;rw [Nat.mul_one,Nat.add_zero] at hx1;rw [hx1,wG];simp [hj']
 ·obtain ⟨b,off,he',hb',_,_⟩:=h3 0 (List.length_pos_iff.2 hne)
  rw [he'] at hx';cases hx'
  exact hb' hb
/-! ### Functions: less is asked, less is said -/
def LW:List DV→List DV→Prop
 | [],[]=>True
 | a ::us,b ::bs=>(∀ B w v,DR B w a v→DR B w b v)∧LW us bs
 | _,_=>False
theorem iP:LW [] []:=trivial
theorem dl{a b:DV}{us bs:List DV}(h:∀ B w v,DR B w a v→DR B w b v)(k:LW us bs):LW (a ::us) (b ::bs):=⟨h,k⟩
theorem LW.ok{B:BS}{w:World}:∀ {us bs:List DV} {vs:List Value},LW us bs→AA B w us vs→AA B w bs vs
 | [],[],[],_,h=>h
 | a ::us,b ::bs,v ::vs,h,k=>⟨h.1 _ _ _ k.1,LW.ok h.2 k.2⟩
theorem aC.le{P:Program}{f:FuncId}{us bs:List DV}{r r':AV}(h:LW us bs)(hr:AV.le r r')(k:aC P f bs r):aC P f us r':=
 ⟨k.en,fun B w vs hB hvs=>(k.go B w vs hB (h.ok hvs)).mono fun e w' ⟨v,he,hb,hv⟩=>⟨v,he,hb,hr _ _ _ _ hv⟩⟩
theorem DV.same{a:DV}:∀ B w v,DR B w a v→DR B w a v:=fun _ _ _ h=>h
theorem DV.z{a:List Lf}{s:Bool}{K:Nat}{xs:List Nat}(h:∀ B w cs,ig B w a cs→ig B w [.v (.bool s),lr K xs] cs):∀ B w v,DR B w (.agg a) v→DR B w (.agg [.v (.bool s),lr K xs]) v:=fun B w v ⟨cs,e,hl⟩=>⟨cs,e,h _ _ _ hl⟩
theorem DV.l{a b:Lf}(h:∀ B w c,dY B w a c→dY B w b c):∀ B w v,DR B w (.one a) v→DR B w (.one b) v:=fun B w v hl=>h _ _ _ hl
theorem DV.g{a b:List Lf}(h:∀ B w c,ig B w a c→ig B w b c):∀ B w v,DR B w (.agg a) v→DR B w (.agg b) v:=fun B w v ⟨cs,e,hl⟩=>⟨cs,e,h _ _ _ hl⟩
/-! ### Contracts out of the walks -/
theorem fJ{P : Program}{f : FuncId}{fn : Func}(hf : P.funcs[f]? = some fn)(hb : fn.body.isSome = true)(hnm : (fn.name == "runtime.NumGoroutine") = false): ∀ vs w, (callFunc f vs).run P w = .ok (.enter f vs) w := by
 intro vs w
 have hnm' : ¬ fn.name = "runtime.NumGoroutine" := by simpa using hnm
 obtain ⟨c,hc⟩:=aiY.1 hb;simp [callFunc,hf,hc,hnm']
theorem Vh{w:World}{k c N K:Nat}{a:Option Addr}(h:Rw .u32 bT w a k c (dA N))(hN:N < bT^K):k≤K:=by
 have:=I9 hN;rwa [h.len] at this
theorem agN{w:World}{k c N K:Nat}{a:Option Addr}(h:Rw .i64 B4 w a k c (aT N))(hN:N < B4^K):k≤K:=by
 have:=rX hN;rwa [h.len] at this
theorem AZ{w:World}{a:Option Addr}{n c K:Nat}{xs:List Nat}(hr:Rw .u32 bT w a n c xs)(h:n≤K):val xs < bT^K:=
 acC (JJ hr.lt) (ab1 (by decide) (by rw [hr.len];exact h))
theorem FT{w:World}{a:Option Addr}{n c K m:Nat}(hr:Rw .i64 B4 w a n c (aT m))(h:n≤K):m < B4^K:=by
 have h3:=Hw (vT m);rw [dS,hr.len] at h3;exact acC h3 (ab1 (by decide) h)
theorem Jf{B a b K L:Nat}(hB:2≤B)(ha:a < B^K)(hb:b < B^L):a+b < B^(max K L+1):=by
 have h1:B^K≤B^(max K L):=ab1 (by omega) (by omega);have h2:B^L≤B^(max K L):=ab1 (by omega) (by omega);have h3:B^(max K L+1)=B^(max K L)*B:=Nat.pow_succ _ _;have h4:B^(max K L)*2≤B^(max K L)*B:=ac4 _ hB;omega
theorem Jg{B a b K L:Nat}(ha:a < B^K)(hb:b < B^L):a*b < B^(K+L):=by
 rw [Nat.pow_add];have:a*b≤a*B^L:=ac4 _ (adC hb);have h0:0 < B^L:=by omega
 exact aeV this (ahm ha h0)
section
open Go.RowKit Am
/-- The objects that operands speak of. -/
def La(s:AS)(l:List Operand):List Nat:=l.filterMap fun x=>(dH s x).bind tZ
theorem wF{s:AS}{l:List Operand}{x:Operand}{av:AV}{id:Nat}(hx:x∈l)(hg:dH s x=some av)(hi:tZ av=some id):id∈La s l:=
 aiR.2 ⟨x,hx,by rw [hg];exact hi⟩
theorem adh{c:Call}(h:FW (.call c)=true):c.callee= .builtin .len:=by
 simp only [FW] at h;split at h
 ·assumption
 ·cases h
def adi:Op→Bool
 | .load .. | .indexAddr .. | .store ..=>true
 | .call c=> !FW (.call c)
 | _=>false
/-- A row's length. -/
def uh(o:Option AO):Option Nat:=match unO o with
 | some (.row _ _ n _)=>some n
 | _=>none
theorem adV{o:Option AO}{n:Nat}(h:uh o=some n):∃ e sz el,unO o=some (.row e sz n el):=by
 unfold uh at h;split at h
 ·rename_i he;cases h;exact ⟨_,_,_,he⟩
 ·cases h
theorem Xc{o:Option AO}{n:Nat}(h:uh o=some n):o.isSome=true:=by
 cases o with
 | none=>cases h
 | some x=>rfl
theorem AO.aiB{new ob:AO}:(AO.put new ob).un=new.un:=by
 induction ob with
 | «is» x ob ih=>exact ih
 | _=>rfl
def AO.isI:AO→Bool
 | .is _ _=>true
 | _=>false
theorem AO.al2(ob:AO):ob.un.isI=false:=by
 induction ob with
 | «is» x ob ih=>exact ih
 | _=>rfl
theorem aa0{new ob:AO}(h:new.un=new)(k:uh (some new)=uh (some ob.un)):uh (some (AO.put new ob))=uh (some ob):=by
 have h1:∀ o:AO,o.un.un=o.un:=fun o=>by
  induction o with
  | «is» x ob ih=>exact ih
  | _=>rfl
 have e1:uh (some (AO.put new ob))=uh (some new):=by unfold uh unO;simp only [AO.aiB]
 have e2:uh (some ob.un)=uh (some ob):=by unfold uh unO;simp only [h1]
 rw [e1,k,e2]
/-- A row's name. -/
def AO.isR:AO→Bool
 | .row _ _ _ _=>true
 | _=>false
def nmO:Option AO→Option Value
 | some (.is x ob)=>bif ob.isR then some x else none
 | _=>none
theorem ahR{o:Option AO}{x:Value}(h:nmO o=some x):∃ e sz n el,o=some (.is x (.row e sz n el)):=by
 match o,h with
 | some (.is y (.row e sz n el)),h=>cases h;exact ⟨e,sz,n,el,rfl⟩
 | some (.is y (.box _ _)),h=>cases h
 | some (.is y (.is _ _)),h=>cases h
 | some (.is y (.sz _)),h=>cases h
theorem adI{new ob:AO}(h:new.un=new)(k:new.isR=ob.un.isR):nmO (some (AO.put new ob))=nmO (some ob):=by
 have hn:new.isI=false:=h▸AO.al2 new;cases ob with
 | box t cs=>cases new <;> first | rfl | cases hn
 | row e sz n el=>cases new <;> first | rfl | cases hn
 | sz k=>cases new <;> first | rfl | cases hn
 | «is» x o=>
  cases o with
  | «is» y o=>rfl
  | box t cs=>show (bif new.isR then some x else none)=_;rw [k];rfl
  | row e sz n el=>show (bif new.isR then some x else none)=_;rw [k];rfl
  | sz q=>show (bif new.isR then some x else none)=_;rw [k];rfl
/-- What stores leave of an object: its length, its name. -/
def LK(o:Option AO):Option Nat×Option Value:=(uh o,nmO o)
theorem VJ{new ob:AO}(h:new.un=new)(k:uh (some new)=uh (some ob.un))(k2:new.isR=ob.un.isR):LK (some (AO.put new ob))=LK (some ob):=by unfold LK;rw [aa0 h k,adI h k2]
/-- The objects that such an operation speaks of. -/
def qE(s:AS)(op:Op):List Nat:=bif adi op then La s op.operands.toList else []
theorem ade{s:AS}{op:Op}{id:Nat}(h:id∈qE s op):id∈La s op.operands.toList:=by
 unfold qE at h;cases e:adi op with
 | true=>rw [e] at h;exact h
 | false=>rw [e] at h;cases h
theorem GZ{s:AS}{op:Op}{id:Nat}(hr:adi op=true)(h:id∈La s op.operands.toList):id∈qE s op:=by
 unfold qE;rw [hr];exact h
section
variable {P:Program} {T:TypeId→Option TI} {ops:Array Oper} {s s':AS} {o:Oper} {Q:Qs}
theorem Iq{op:Op}(hnl:FW op=false)(h:∀ x∈op.operands,dH s x=dH s' x)(hh:∀ id∈qE s op,lk s.hp id=lk s'.hp id):jr T s op=jr T s' op:=by
 have key:adi op=true→∀ x∈op.operands,∀ av id,dH s x=some av→tZ av=some id→lk s.hp id=lk s'.hp id:=fun hr x hx av id hg hi=>hh id (GZ hr (wF (by simpa using hx) hg hi))
 have e1:jr T s op=jr T ⟨s.n,s.sl,s'.hp⟩ op:=by
  have g:∀ x,dH s x=dH ⟨s.n,s.sl,s'.hp⟩ x:=fun x=>by cases x with | const v=>cases v <;> rfl | _=>rfl
  have hint:∀ x,kD s x=kD ⟨s.n,s.sl,s'.hp⟩ x:=fun x=>by unfold kD;rw [g x]
  cases op with
  | load t x=>
   simp only [jr];rw [← g x];split
   ·rfl
   ·split
    ·rename_i id off hx;unfold Xw;rw [key rfl x (by simp [Op.operands]) _ id hx rfl]
    ·rename_i id sz i j hx;unfold Xw;rw [key rfl x (by simp [Op.operands]) _ id hx rfl]
    ·rfl
    ·rfl
  | indexAddr t x ix=>
   simp only [jr];rw [← g x,← hint ix];split
   ·rfl
   ·split
    ·rfl
    ·split
     ·split
      ·rfl
      ·rename_i id hx;unfold Xw;rw [key rfl x (by simp [Op.operands]) _ id hx rfl]
      ·rfl
     ·rfl
  | call c=>
   have hl:yx s c.args.toList=yx ⟨s.n,s.sl,s'.hp⟩ c.args.toList:=qC _ fun x _=>g x
   simp only [jr];rw [hl];split
   ·split
    ·rename_i x t ha ht
     rw [← g x];split
     ·rfl
     ·split
      ·rfl
      ·rfl
      ·rfl
      ·rename_i id he hx
       unfold Xw;rw [key (by show (!FW (.call c))=true;rw [hnl];rfl) x (by simp only [Op.operands,Call.operands];exact Array.mem_append.2 (Or.inr (by have:x∈c.args.toList:=(by rw [ha];simp);simpa using this))) _ id hx rfl]
      ·rfl
    ·rfl
   ·rfl
   ·rfl
   ·rfl
  | move x=>exact g x
  | assign x=>exact g x
  | pick c a b=>simp only [jr];rw [g c,g a,g b]
  | binOp op t x y yt=>simp only [jr];rw [g x,g y]
  | unOp op t x=>simp only [jr];rw [g x]
  | convert src dst x=>simp only [jr];rw [g x]
  | fieldAddr t x f=>simp only [jr];rw [g x]
  | field t x f=>simp only [jr];rw [g x]
  | extract x i=>simp only [jr];rw [g x]
  | slice t x lo hi mx=>
   cases mx with
   | some m=>rfl
   | none=>
    have hlo:∀ y d,qx s y d=qx ⟨s.n,s.sl,s'.hp⟩ y d:=by
     intro y d;cases y with
     | none=>rfl
     | some y=>simp only [qx];rw [hint y]
    simp only [jr,← g x,← hlo]
  | build t ps=>
   simp only [jr];rw [uz ps.toList (fun p _=>g p.2)]
  | makeFunc fn fi caps=>
   have hl:=qC caps.toList (fun x _=>g x);cases fn <;> first | rfl | (simp only [jr];rw [hl])
  | _=>rfl
 rw [e1];refine vZ rfl (fun x hx=>?_);rw [← h x hx];cases x with
 | const v=>cases v <;> rfl
 | _=>rfl
theorem acV{op:Op}{av:AV}(hl:FW op=true)(h:∀ x∈op.operands,dH s x=dH s' x)(hh:∀ id∈La s op.operands.toList,∀ n,uh (lk s.hp id)=some n→uh (lk s'.hp id)=some n)(he:jr T s op=some av):jr T s' op=some av:=by
 cases op with
 | call c=>
  have hc:=adh hl;simp only [jr,hc] at he ⊢;split at he
  ·rename_i x t ha ht
   have hx:x∈(Op.call c).operands:=(by simp only [Op.operands,Call.operands];exact aiT.2 (Or.inr (by have:x∈c.args.toList:=(by rw [ha];simp);simpa using this)));rw [← h x hx];split at he
   ·cases he
   ·rename_i ti hti
    cases hel:ti.elem with
    | none=>rw [hel] at he;simp at he
    | some e=>
     rw [hel] at he;cases hg:dH s x with
     | none=>rw [hg] at he;simp at he
     | some gv=>
      rw [hg] at he;cases gv with
      | own id=>
       simp only at he ⊢;split at he
       ·rename_i e0 sz0 n0 el0 hlk
        obtain ⟨e1,sz1,el1,h1⟩:=adV (hh id (wF (by simpa using hx) hg rfl) n0 (by unfold uh;rw [show unO (lk s.hp id)=_ from hlk]));rw [show Xw s'.hp id=_ from h1];exact he
       ·cases he
      | d dv=>
       cases dv with
       | agg ls=>simp at he
       | one l=>
        cases l with
        | v x=>cases x <;> first | exact he | (simp at he;done)
        | _=>first | exact he | (simp at he;done)
      | _=>simp at he
  ·cases he
 | _=>cases hl
theorem SS{op:Op}(h:∀ x∈op.operands,dH s x=dH s' x)(hh:∀ id∈qE s op,lk s.hp id=lk s'.hp id):Xt T s op=Xt T s' op:=by
 cases op with
 | store t x y=>
  have hx:=h x (by simp [Op.operands]);have hy:=h y (by simp [Op.operands]);have key:∀ av id,dH s x=some av→tZ av=some id→lk s.hp id=lk s'.hp id:=fun av id hg hi=>hh id (GZ rfl (wF (x:=x) (by simp [Op.operands]) hg hi))
  simp only [Xt];rw [← hx,← hy];split
  ·rfl
  ·split
   ·rename_i id off d hgx hgy;unfold lkP;rw [key _ id hgx rfl]
   ·rename_i id sz i d hgx hgy;unfold lkP;rw [key _ id hgx rfl]
   ·rfl
 | _=>rfl
def wH:Op→Bool
 | .store ..=>true
 | _=>false
def Nu:Op→Bool
 | .alloc .. | .box .. | .makeSlice ..=>true
 | _=>false
theorem Y4{op:Op}{id:Nat}{ob:AO}(h:Xt T s op=some (id,ob)):wH op=true∧id∈qE s op∧(lk s.hp id).isSome=true∧LK (some ob)=LK (lk s.hp id):=by
 cases op with
 | store t x y=>
  refine ⟨rfl,?_⟩;simp only [Xt] at h;split at h
  ·cases h
  ·split at h
   ·rename_i id' off d hgx hgy
    split at h
    ·rename_i hlk
     split at h
     ·simp only [Option.some.injEq,Prod.mk.injEq] at h;obtain ⟨rfl,rfl⟩:=h;obtain ⟨q1,q2⟩:=Jb hlk;exact ⟨GZ rfl (wF (x:=x) (by simp [Op.operands]) hgx rfl),by rw [q1];rfl,by rw [q1];exact VJ rfl (by rw [q2];rfl) (by rw [q2];rfl)⟩
     ·cases h
    ·cases h
   ·rename_i id' sz i d hgx hgy
    split at h
    ·rename_i hlk
     split at h
     ·simp only [Option.some.injEq,Prod.mk.injEq] at h;obtain ⟨rfl,rfl⟩:=h;obtain ⟨q1,q2⟩:=Jb hlk;exact ⟨GZ rfl (wF (x:=x) (by simp [Op.operands]) hgx rfl),by rw [q1];rfl,by rw [q1];exact VJ rfl (by rw [q2];rfl) (by rw [q2];rfl)⟩
     ·cases h
    ·cases h
   ·cases h
 | _=>simp [Xt] at h
theorem Y3{op:Op}{ob:AO}(h:Wu T s op=some ob):Nu op=true:=by
 cases op <;> first | rfl | simp [Wu] at h
/-- Does the operation wait for that one, or for one that does? -/
def Ea(ops:Array Oper):Nat→Oper→Nat→Bool
 | 0,_,_=>false
 | f+1,o,k=>jy o k || o.after.toList.any fun e=>Region.binds .any e && match ops[e.on]? with
  | some o'=>Ea ops f o' k
  | none=>false
theorem Eb{ops:Array Oper}{D:Nat→Prop}(hcl:∀ k ok,ops[k]?=some ok→D k→∀ j,jy ok j=true→D j):∀ (f:Nat) (o:Oper) (k:Nat),(∀ j,jy o j=true→D j)→Ea ops f o k=true→D k
 | 0,_,_,_,h=>by cases h
 | f+1,o,k,hw,h=>by
  rw [Ea,Bool.or_eq_true] at h;rcases h with h | h
  ·exact hw k h
  ·obtain ⟨e,he,h2⟩:=ag1.1 h
   rw [Bool.and_eq_true] at h2;obtain ⟨hb,h3⟩:=h2;split at h3
   ·rename_i o' dX
    have hDe:D e.on:=hw e.on (ag1.2 ⟨e,he,by rw [hb];exact beq_self_eq_true _⟩);exact Eb hcl f o' k (hcl _ _ dX hDe) h3
   ·cases h3
/-- Does the operation wait for those with which it may not change places? -/
def O7(ops:Array Oper)(log:List (Nat×List Nat×Bool))(o:Oper)(ids:List Nat):Bool:=
 (log.all fun q=> !(wH o.op || q.2.2) || ids.all (fun id=> !(q.2.1).contains id) || Ea ops 6 o q.1) &&
 (!Nu o.op || match o.dst with
  | some d=>log.all fun q=> !(q.2.1).contains d
  | none=>true)
inductive LV (P:Program) (T:TypeId→Option TI) (ops:Array Oper) (K:AS→Prop):Nat→List (Nat×List Nat×Bool)→List Oper→AS→Prop
 | nil {i:Nat} {log:List (Nat×List Nat×Bool)} {s:AS} (h:K s):LV P T ops K i log [] s
 | cons {i:Nat} {log:List (Nat×List Nat×Bool)} {o:Oper} {l:List Oper} {s s1:AS} (h:aB P T ops o s s1) (hc:O7 ops log o (qE s o.op)=true) (k:LV P T ops K (i+1) ((i,qE s o.op,wH o.op) ::log) l s1):LV P T ops K i log (o ::l) s
abbrev Xv(st:Nat→AS)(i:Nat)(o:Oper):List Nat:=qE (st i) o.op
theorem LV.st{K:AS→Prop}{i0:Nat}{log:List (Nat×List Nat×Bool)}{l:List Oper}(h:LV P T ops K i0 log l s):∃ st:Nat→AS,st 0=s∧K (st l.length)∧(∀ (i:Nat) (o:Oper),l[i]?=some o→aB P T ops o (st i) (st (i+1)))∧
  (∀ (i:Nat) (o:Oper),l[i]?=some o→∀ q∈log,(wH o.op=true∨q.2.2=true)→∀ id∈Xv st i o,id∈q.2.1→Ea ops 6 o q.1=true)∧
  (∀ (i:Nat) (o:Oper),l[i]?=some o→Nu o.op=true→∀ d,o.dst=some d→∀ q∈log,¬ d∈q.2.1)∧
  (∀ (i:Nat) (o:Oper) (k:Nat) (ok:Oper),k < i→l[i]?=some o→l[k]?=some ok→(wH o.op=true∨wH ok.op=true)→∀ id∈Xv st i o,id∈Xv st k ok→Ea ops 6 o (i0+k)=true)∧
  (∀ (i:Nat) (o:Oper) (k:Nat) (ok:Oper),k < i→l[i]?=some o→l[k]?=some ok→Nu o.op=true→∀ d,o.dst=some d→¬ d∈Xv st k ok):=by
 induction h with
 | nil h=>exact ⟨fun _=>_,rfl,h,by simp,by simp,by simp,by simp,by simp⟩
 | @cons i0 log o l s s1 h hc k ih=>
  obtain ⟨st,h1,h2,h3,h4,h5,h6,h7⟩:=ih;simp only [O7,Bool.and_eq_true,Bool.or_eq_true,List.all_eq_true] at hc;obtain ⟨hc1,hc2⟩:=hc;refine ⟨fun i=>match i with | 0=>s | i+1=>st i,rfl,h2,?_,?_,?_,?_,?_⟩
  ·intro i o' ho
   cases i with
   | zero => obtain rfl : o = o' := by simpa using ho
             show aB P T ops o s (st 0); rw [h1]; exact h
   | succ i=>exact h3 i o' (by simpa using ho)
  ·intro i o' ho q hq hst id aS akJ
   cases i with
   | zero=>
    obtain rfl:o=o':=by simpa using ho
    rcases hc1 q hq with (h8 | h8) | h8
    ·exfalso;rcases hst with e | e <;> simp [e] at h8
    ·exfalso
     have h9:=h8 id aS;simp at h9;exact h9 akJ
    ·exact h8
   | succ i=>exact h4 i o' (by simpa using ho) q (ag3 _ hq) hst id aS akJ
  ·intro i o' ho hnw d hd q hq
   cases i with
   | zero=>
    obtain rfl:o=o':=by simpa using ho
    rcases hc2 with h8 | h8
    ·rw [hnw] at h8;cases h8
    ·rw [hd] at h8
     have h9:=afj.1 h8 q hq;simpa using h9
   | succ i=>exact h5 i o' (by simpa using ho) hnw d hd q (ag3 _ hq)
  ·intro i o' k' ok hk ho hok hst id aS akI
   cases i with
   | zero=>omega
   | succ i=>
    cases k' with
    | zero=>
     obtain rfl:o=ok:=by simpa using hok
     exact h4 i o' (by simpa using ho) (i0,qE s o.op,wH o.op) (aiG ..) hst id aS akI
    | succ k'=>
     have:=h6 i o' k' ok (by omega) (by simpa using ho) (by simpa using hok) hst id aS akI;rwa [show i0+1+k'=i0+(k'+1) by omega] at this
  ·intro i o' k' ok hk ho hok hnw d hd
   cases i with
   | zero=>omega
   | succ i=>
    cases k' with
    | zero=>
     obtain rfl:o=ok:=by simpa using hok
     exact h5 i o' (by simpa using ho) hnw d hd (i0,qE s o.op,wH o.op) (aiG ..)
    | succ k'=>exact h7 i o' k' ok (by omega) (by simpa using ho) (by simpa using hok) hnw d hd
/-- What an operation does to slots and objects. -/
theorem aB.shape2(h:aB P T ops o s s'):s'.n=s.n∧(∀ d,o.dst=some d→s'.sl=(d,yj s') ::s.sl)∧(o.dst=none→s'.sl=s.sl)∧
  ∃ wr:Option (Nat×AO),s'.hp=wr.toList ++s.hp∧∀ p,wr=some p→(Nu o.op=true∧o.dst=some p.1∧lk s.hp p.1=none)∨(wH o.op=true∧p.1∈qE s o.op∧(lk s.hp p.1).isSome=true∧LK (some p.2)=LK (lk s.hp p.1)):=by
 have put:∀ av,(s.put o.dst av).n=s.n∧(∀ d,o.dst=some d→(s.put o.dst av).sl=(d,yj (s.put o.dst av)) ::s.sl)∧(o.dst=none→(s.put o.dst av).sl=s.sl)∧
   ∃ wr:Option (Nat×AO),(s.put o.dst av).hp=wr.toList ++s.hp∧∀ p,wr=some p→(Nu o.op=true∧o.dst=some p.1∧lk s.hp p.1=none)∨(wH o.op=true∧p.1∈qE s o.op∧(lk s.hp p.1).isSome=true∧LK (some p.2)=LK (lk s.hp p.1)):=by
  intro av;cases hd:o.dst with
  | none=>exact ⟨rfl,fun d h=>(by cases h),fun _=>rfl,none,rfl,fun p h=>(by cases h)⟩
  | some d=>exact ⟨rfl,fun d' h=>(by cases h;rfl),fun h=>(by cases h),none,rfl,fun p h=>(by cases h)⟩
 cases h with
 | V av h hg hk=>exact put av
 | B av h hg hk=>exact put av
 | X av h hg hk=>exact put av
 | Y x tw id h hw hi hn ho hl hg hk=>exact put _
 | G hg hk=>exact put .dead
 | C h hc hf ha hg hk=>exact put _
 | N ob h d hdst hfr hg hk=>
  refine ⟨rfl,fun d' h'=>(by rw [hdst] at h';cases h';rfl),fun h'=>(by rw [hdst] at h';cases h'),some (d,ob),rfl,fun p hp=>Or.inl ?_⟩;cases hp
  exact ⟨Y3 h,hdst,hfr⟩
 | S id ob h hdst hg=>
  refine ⟨rfl,fun d' h'=>(by rw [hdst] at h';cases h'),fun _=>rfl,some (id,ob),rfl,fun p hp=>Or.inr ?_⟩;cases hp
  exact Y4 h
open Classical in
noncomputable def Az(hp:List (Nat×AO))(wr:Nat→Option (Nat×AO))(D:Nat→Prop):Nat→List (Nat×AO)
 | 0=>hp
 | m+1=>if D m then (wr m).toList ++Az hp wr D m else Az hp wr D m
theorem xP{hp:List (Nat×AO)}{wr:Nat→Option (Nat×AO)}{D:Nat→Prop}{m:Nat}(h:D m):Az hp wr D (m+1)=(wr m).toList ++Az hp wr D m:=if_pos h
theorem xO{hp:List (Nat×AO)}{wr:Nat→Option (Nat×AO)}{D:Nat→Prop}{m:Nat}(h:¬ D m):Az hp wr D (m+1)=Az hp wr D m:=if_neg h
theorem Ah{hp:List (Nat×AO)}{wr:Nat→Option (Nat×AO)}{D D':Nat→Prop}:∀ {m:Nat},(∀ k,k < m→(D k↔D' k))→Az hp wr D m=Az hp wr D' m
 | 0,_=>rfl
 | m+1,h=>by
  have ih:=Ah (hp:=hp) (wr:=wr) (m:=m) fun k hk=>h k (by omega)
  by_cases e:D m
  ·rw [xP e,xP ((h m (by omega)).1 e),ih]
  ·rw [xO e,xO (fun e'=>e ((h m (by omega)).2 e')),ih]
theorem BD{hp:List (Nat×AO)}{wr:Nat→Option (Nat×AO)}{D D':Nat→Prop}{id:Nat}:∀ {m:Nat},(∀ k p,k < m→wr k=some p→p.1=id→(D k↔D' k))→lk (Az hp wr D m) id=lk (Az hp wr D' m) id
 | 0,_=>rfl
 | m+1,h=>by
  have ih:=BD (hp:=hp) (wr:=wr) (m:=m) fun k p hk=>h k p (by omega)
  have one:∀ (E:Nat→Prop),(∀ p,wr m=some p→p.1≠id)→lk (Az hp wr E (m+1)) id=lk (Az hp wr E m) id:=by
   intro E hne
   by_cases e:E m
   ·rw [xP e]
    cases hw:wr m with
    | none=>rfl
    | some p=>
     obtain ⟨a,b⟩:=p;show lk ((a,b) ::Az hp wr E m) id=_
     rw [aV,if_neg (hne (a,b) hw)]
   ·rw [xO e]
  by_cases hw:∃ p,wr m=some p∧p.1=id
  ·obtain ⟨p,hp1,hp2⟩:=hw
   have hiff:=h m p (by omega) hp1 hp2
   by_cases e:D m
   ·rw [xP e,xP (hiff.1 e),hp1]
    show lk ((p.1,p.2) ::_) id=lk ((p.1,p.2) ::_) id
    rw [aV,aV,if_pos hp2,if_pos hp2]
   ·rw [xO e,xO (fun e'=>e (hiff.2 e')),ih]
  ·have hne:∀ p,wr m=some p→p.1≠id:=fun p h1 h2=>hw ⟨p,h1,h2⟩
   rw [one D hne,one D' hne,ih]
/-- The states on the way. -/
structure OV(ops:Array Oper)(l:List Oper)(n:Nat)(st:Nat→AS)(wr:Nat→Option (Nat×AO)):Prop where
 nn:∀ i:Nat,i≤n→(st i).n=(st 0).n
 at1:∀ i,i≤n→∀ t k o,k < i→l[k]?=some o→o.dst=some t→lk (st i).sl t=some (yj (st (k+1)))
 at2:∀ i,i≤n→∀ t,(∀ k o,k < i→l[k]?=some o→o.dst≠some t)→lk (st i).sl t=lk (st 0).sl t
 hp:∀ i,i≤n→Az (st 0).hp wr (fun k=>k < i) n=(st i).hp
 wrs:∀ i o p,i < n→l[i]?=some o→wr i=some p→(Nu o.op=true∧o.dst=some p.1∧lk (st i).hp p.1=none)∨(wH o.op=true∧p.1∈Xv st i o∧(lk (st i).hp p.1).isSome=true∧LK (some p.2)=LK (lk (st i).hp p.1))
 up:∀ i,i < n→(st (i+1)).hp=(wr i).toList ++(st i).hp
 grow:∀ i,i≤n→∀ id,(lk (st 0).hp id).isSome=true→(lk (st i).hp id).isSome=true
theorem apd{l:List Oper}{n:Nat}{st:Nat→AS}(hl:n≤l.length)(hone:∀ i k oi ok d,i < n→k < n→l[i]?=some oi→l[k]?=some ok→k≠i→ok.dst=some d→oi.dst≠some d)(h:∀ i o,i < n→l[i]?=some o→aB P T ops o (st i) (st (i+1))):∃ wr,OV ops l n st wr:=by
 have step:∀ i,∃ wr:Option (Nat×AO),i < n→(st (i+1)).n=(st i).n∧(∀ o,l[i]?=some o→(∀ d,o.dst=some d→(st (i+1)).sl=(d,yj (st (i+1))) ::(st i).sl)∧(o.dst=none→(st (i+1)).sl=(st i).sl))∧(st (i+1)).hp=wr.toList ++(st i).hp∧
   ∀ o p,l[i]?=some o→wr=some p→(Nu o.op=true∧o.dst=some p.1∧lk (st i).hp p.1=none)∨(wH o.op=true∧p.1∈Xv st i o∧(lk (st i).hp p.1).isSome=true∧LK (some p.2)=LK (lk (st i).hp p.1)):=by
  intro i
  by_cases hi:i < n
  ·have ho:l[i]?=some (l[i]'(by omega)):=by simp
   obtain ⟨h1,h2,h3,wr,h4,h5⟩:=(aB.shape2 (h i _ hi ho));refine ⟨wr,fun _=>⟨h1,fun o dX=>?_,h4,fun o p dX hp=>?_⟩⟩
   ·rw [ho] at dX;cases dX;exact ⟨h2,h3⟩
   ·rw [ho] at dX;cases dX;exact h5 p hp
  ·exact ⟨none,fun h=>absurd h hi⟩
 obtain ⟨wr,hw⟩:=Classical.skolem.1 step;have up:∀ i,i < n→(st (i+1)).hp=(wr i).toList ++(st i).hp:=fun i hi=>(hw i hi).2.2.1
 have hat:∀ i,i≤n→∀ t,(∀ k o,k < i→l[k]?=some o→o.dst=some t→lk (st i).sl t=some (yj (st (k+1))))∧((∀ k o,k < i→l[k]?=some o→o.dst≠some t)→lk (st i).sl t=lk (st 0).sl t):=by
  intro i
  induction i with
  | zero=>intro _ t;exact ⟨fun k o hk=>absurd hk (ab2 _),fun _=>rfl⟩
  | succ i ih=>
   intro hi t;obtain ⟨ih1,ih2⟩:=ih (by omega) t;have ho:l[i]?=some (l[i]'(by omega)):=by simp
   obtain ⟨hs1,hs2⟩:=(hw i (by omega)).2.1 _ ho;cases hd:(l[i]'(by omega)).dst with
   | none=>
    rw [hs2 hd];refine ⟨fun k o hk hko hkd=>?_,fun hno=>ih2 fun k o hk hko=>hno k o (by omega) hko⟩
    by_cases hki:k=i
    ·subst hki;rw [ho] at hko;cases hko;rw [hd] at hkd;cases hkd
    ·exact ih1 k o (by omega) hko hkd
   | some d=>
    rw [hs1 d hd,aV];refine ⟨fun k o hk hko hkd=>?_,fun hno=>?_⟩
    ·by_cases hki:k=i
     ·subst hki;rw [ho] at hko;cases hko;rw [hd] at hkd;cases hkd;rw [if_pos rfl]
     ·rw [if_neg (fun e=>hone i k _ o t (by omega) (by omega) ho hko hki hkd (by rw [hd,e]))]
      exact ih1 k o (by omega) hko hkd
    ·rw [if_neg (fun e=>hno i _ (by omega) ho (by rw [hd,e]))]
     exact ih2 (fun k o hk hko=>hno k o (by omega) hko)
 have hp1:∀ i,i≤n→∀ m,m≤n→Az (st 0).hp wr (fun k=>k < i) m=(st (min i m)).hp:=by
  intro i hi m
  induction m with
  | zero=>intro _;rw [Nat.min_zero];rfl
  | succ m ih=>
   intro hm
   by_cases e:m < i
   ·rw [xP (D:=fun k=>k < i) e,ih (by omega),Nat.min_eq_right (by omega),Nat.min_eq_right (by omega),up m (by omega)]
   ·rw [xO (D:=fun k=>k < i) e,ih (by omega),Nat.min_eq_left (by omega),Nat.min_eq_left (by omega)]
 refine ⟨wr,⟨fun i=>?_,fun i hi t k o=>(hat i hi t).1 k o,fun i hi t=>(hat i hi t).2,fun i hi=>by rw [hp1 i hi n (Nat.le_refl _),Nat.min_eq_left hi],fun i o p hi ho hp=>(hw i hi).2.2.2 o p ho hp,up,fun i=>?_⟩⟩
 ·induction i with
  | zero=>intro _;rfl
  | succ i ih=>intro hi;rw [(hw i (by omega)).1,ih (by omega)]
 ·induction i with
  | zero=>intro _ id h;exact h
  | succ i ih=>
   intro hi id h;rw [up i (by omega)];cases hwi:wr i with
   | none=>exact ih (by omega) id h
   | some p=>
    show (lk ((p.1,p.2) ::(st i).hp) id).isSome=true
    rw [aV];split
    ·rfl
    ·exact ih (by omega) id h
theorem OV.len{l:List Oper}{n:Nat}{st:Nat→AS}{wr:Nat→Option (Nat×AO)}(hw:OV ops l n st wr)(hl:n≤l.length){id j:Nat}(hj:(lk (st j).hp id).isSome=true):∀ k,j≤k→k≤n→(lk (st k).hp id).isSome=true∧LK (lk (st k).hp id)=LK (lk (st j).hp id):=by
 intro k hjk
 induction hjk with
 | refl=>exact fun _=>⟨hj,rfl⟩
 | @step k _ ih=>
  intro hk;obtain ⟨h1,h2⟩:=ih (by omega);have ho:l[k]?=some (l[k]'(by omega)):=by simp
  rw [hw.up k (by omega)];cases hwr:wr k with
  | none=>exact ⟨h1,h2⟩
  | some p=>
   show (lk ((p.1,p.2) ::(st k).hp) id).isSome=true∧LK (lk ((p.1,p.2) ::(st k).hp) id)=_
   rw [aV]
   by_cases e:p.1=id
   ·rw [if_pos e]
    refine ⟨rfl,?_⟩;rcases hw.wrs k _ p (by omega) ho hwr with ⟨_,_,h3⟩ | ⟨_,_,_,h4⟩
    ·rw [e] at h3;rw [h3] at h1;cases h1
    ·rw [h4,e,h2]
   ·rw [if_neg e];exact ⟨h1,h2⟩
theorem OV.lenD{l:List Oper}{n:Nat}{st:Nat→AS}{wr:Nat→Option (Nat×AO)}(hw:OV ops l n st wr){id:Nat}{D:Nat→Prop}{ob:AO}:∀ m,m≤n→lk (Az (st 0).hp wr D m) id=some ob→∃ j,j≤n∧(lk (st j).hp id).isSome=true∧LK (some ob)=LK (lk (st j).hp id)
 | 0,_,h=>⟨0,abR _,by rw [show lk (st 0).hp id=some ob from h];rfl,by rw [show lk (st 0).hp id=some ob from h]⟩
 | m+1,hm,h=>by
  by_cases e:D m
  ·rw [xP e] at h
   cases hwr:wr m with
   | none=>rw [hwr] at h;exact OV.lenD hw m (by omega) h
   | some p=>
    rw [hwr] at h;have h':lk ((p.1,p.2) ::Az (st 0).hp wr D m) id=some ob:=h;rw [aV] at h'
    by_cases e2:p.1=id
    ·rw [if_pos e2] at h'
     have h3:lk (st (m+1)).hp id=some ob:=by
      rw [hw.up m (by omega),hwr];show lk ((p.1,p.2) ::(st m).hp) id=some ob
      rw [aV,if_pos e2];exact h'
     exact ⟨m+1,hm,by rw [h3];rfl,by rw [h3]⟩
    ·rw [if_neg e2] at h';exact OV.lenD hw m (by omega) h'
  ·rw [xO e] at h;exact OV.lenD hw m (by omega) h
/-- What holds when the operations of D are done. -/
def JS(l:List Oper)(n:Nat)(st:Nat→AS)(wr:Nat→Option (Nat×AO))(B0:BS)(w0:Wz)(a0:Act)(D:Nat→Prop)(vs:Nat→Value)(w:World):Prop:=
 ∃ ρ,eY ρ B0 w0 w (Az (st 0).hp wr D n)∧(∀ id v,ρ id=some v→(lk (st 0).hp id).isSome=true∨∃ k o,k < n∧D k∧l[k]?=some o∧o.dst=some id)∧
  (∀ k p,k < n→D k→wr k=some p→∃ v,ρ p.1=some v)∧
  (∀ t av,lk (st 0).sl t=some av→(∀ k o,k < n→l[k]?=some o→D k→o.dst≠some t)→∃ v,a0.tmps[t]?=some v∧AR ρ (Bd ρ B0) w av v)∧(∀ k o d,k < n→D k→l[k]?=some o→o.dst=some d→AR ρ (Bd ρ B0) w (yj (st (k+1))) (vs k))
theorem JS.congr{l:List Oper}{n:Nat}{st:Nat→AS}{wr:Nat→Option (Nat×AO)}{B0:BS}{w0:Wz}{a0:Act}(D D':Nat→Prop)(vs vs':Nat→Value)(w:World)(h:JS l n st wr B0 w0 a0 D vs w)(hD:∀ k,k < n→(D k↔D' k))(hv:∀ k,k < n→D k→vs k=vs' k):JS l n st wr B0 w0 a0 D' vs' w:=by
 obtain ⟨ρ,h1,h2,h5,h3,h4⟩:=h;refine ⟨ρ,Ah hD▸h1,fun id v h=>?_,fun k p hk gJ=>h5 k p hk ((hD k hk).2 gJ),fun t av ht hno=>h3 t av ht (fun k o hk ho gJ=>hno k o hk ho ((hD k hk).1 gJ)),fun k o d hk gJ ho hd=>?_⟩
 ·rcases h2 id v h with h | ⟨k,o,hk,gJ,h⟩
  ·exact Or.inl h
  ·exact Or.inr ⟨k,o,hk,(hD k hk).1 gJ,h⟩
 ·rw [← hv k hk ((hD k hk).2 gJ)]
  exact h4 k o d hk ((hD k hk).2 gJ) ho hd
/-- One more value (if it goes anywhere); the objects' values are the same ones. -/
theorem JS.same{l:List Oper}{n:Nat}{st:Nat→AS}{wr:Nat→Option (Nat×AO)}{B0:BS}{w0:Wz}{a0:Act}{D:Nat→Prop}{vs:Nat→Value}{w w':World}{i:Nat}{v:Value}{ρ:kL}{oi:Oper}(hoi:l[i]?=some oi)(hb:ku (Bd ρ B0) w w')(h1:eY ρ B0 w0 w' (Az (st 0).hp wr (tY D i) n)) 
  (h2:∀ id v,ρ id=some v→(lk (st 0).hp id).isSome=true∨∃ k o,k < n∧D k∧l[k]?=some o∧o.dst=some id)
  (h5:∀ k p,k < n→D k→wr k=some p→∃ v,ρ p.1=some v) (h6:∀ p,wr i=some p→∃ v,ρ p.1=some v)
  (h3:∀ t av,lk (st 0).sl t=some av→(∀ k o,k < n→l[k]?=some o→D k→o.dst≠some t)→∃ v,a0.tmps[t]?=some v∧AR ρ (Bd ρ B0) w av v)
  (h4:∀ k o d,k < n→D k→l[k]?=some o→o.dst=some d→AR ρ (Bd ρ B0) w (yj (st (k+1))) (vs k)) (hv:∀ d,oi.dst=some d→AR ρ (Bd ρ B0) w' (yj (st (i+1))) v) (hni:¬ D i):JS l n st wr B0 w0 a0 (tY D i) (tq vs i v) w':=by
 have mvv:∀ {av:AV} {c:Value},AR ρ (Bd ρ B0) w av c→AR ρ (Bd ρ B0) w' av c:=fun h=>AR.mv hb (fun _ _ h=>h) (fun _ _=>rfl) h
 refine ⟨ρ,h1,fun id u h=>?_,fun k p hk gJ hp=>?_,fun t av ht hno=>?_,fun k o d hk gJ ho hd=>?_⟩
 ·rcases h2 id u h with h | ⟨k,o,hk,gJ,h⟩
  ·exact Or.inl h
  ·exact Or.inr ⟨k,o,hk,Or.inl gJ,h⟩
 ·rcases gJ with gJ | rfl
  ·exact h5 k p hk gJ hp
  ·exact h6 p hp
 ·obtain ⟨u,h7,h8⟩:=h3 t av ht (fun k o hk ho gJ=>hno k o hk ho (Or.inl gJ))
  exact ⟨u,h7,mvv h8⟩
 ·unfold tq
  by_cases e:k=i
  ·subst e
   rw [hoi] at ho;cases ho
   rw [if_pos rfl];exact hv d hd
  ·rw [if_neg e]
   rcases gJ with gJ | gJ
   ·exact mvv (h4 k o d hk gJ ho hd)
   ·exact absurd gJ e
theorem kY(hT:zU P T){id:Nat}{l:List Oper}(n:Nat){s:AS}(hm:P.follows .mixedOrders=true)(hB:allB l.toArray n s.n=true)(h:LV P T l.toArray (fun s1=>AL P l.toArray Q (l.drop n) s1) 0 [] (l.take n) s):AW P (.region id l.toArray true) Q s:=by
 rintro B0 w0 a0 w ⟨ρ0,hc0,hn0,uQ,hs0⟩;have hB':=hB;simp only [allB,Bool.and_eq_true,decide_eq_true_eq,Bool.or_eq_true] at hB';obtain ⟨⟨⟨⟨hsel,Nr⟩,Ko⟩,_⟩,_⟩:=hB';have hr:=Ec Nr;have hnl:n≤l.length:=by simpa using Ko
 obtain ⟨st,Tf,kk,hop0,_,_,anG,an2⟩:=h.st;have hlen:(l.take n).length=n:=by simp;omega
 rw [hlen] at kk;have htk:∀ {i:Nat} {o:Oper},i < n→l[i]?=some o→(l.take n)[i]?=some o:=fun hi ho=>by rw [List.getElem?_take,if_pos hi];exact ho
 have hop:∀ i o,i < n→l[i]?=some o→aB P T l.toArray o (st i) (st (i+1)):=fun i o hi ho=>hop0 i o (htk hi ho)
 have hcf:∀ i o k ok,k < i→i < n→l[i]?=some o→l[k]?=some ok→(wH o.op=true∨wH ok.op=true)→∀ id∈Xv st i o,id∈Xv st k ok→Ea l.toArray 6 o k=true:=fun i o k ok hk hi ho hok hs id h1 h2=>by
  have:=anG i o k ok hk (htk hi ho) (htk (by omega) hok) hs id h1 h2;rwa [Nat.zero_add] at this
 have hnw:∀ i o k ok,k < i→i < n→l[i]?=some o→l[k]?=some ok→Nu o.op=true→∀ d,o.dst=some d→¬ d∈Xv st k ok:=fun i o k ok hk hi ho hok=>an2 i o k ok hk (htk hi ho) (htk (by omega) hok)
 have hone:∀ i k oi ok d,i < n→k < n→l[i]?=some oi→l[k]?=some ok→k≠i→ok.dst=some d→oi.dst≠some d:=fun i k oi ok d hi hk hoi hok=>hr.one i k oi ok d hi hk (by simpa using hoi) (by simpa using hok)
 obtain ⟨wr,nI⟩:=apd hnl hone hop;subst Tf;refine Q5 (J:=JS l n st wr B0 w0 a0) n (st 0).n hm hn0 uQ hB (fun D D' vs vs' w h=>JS.congr D D' vs vs' w h) ?_ ?_ ?_
 ·have hK:ku (Bd ρ0 B0) w w.drew:=⟨abJ _,fun _ _ _=>rfl⟩
  have hz:Az (st 0).hp wr (fun _=>False) n=(st 0).hp:=(Ah (D':=fun k=>k < 0) fun k _=>by simp).trans (nI.hp 0 (abR _));refine ⟨ρ0,⟨hc0.bel.step (Below.refl _ _).drew,hc0.b0,fun id v h=>?_,hc0.dist⟩,fun id v h=>?_,fun k p _ h=>h.elim,fun t av ht _=>?_,fun k o d _ h=>h.elim⟩
  ·obtain ⟨ob,h1,h2⟩:=hc0.obj id v h
   exact ⟨ob,by rw [hz];exact h1,h2.mv hK (fun _ _ hb=>hb) (fun _ _=>rfl)⟩
  ·obtain ⟨ob,h1,h2⟩:=hc0.obj id v h
   exact Or.inl (by rw [h1];rfl)
  ·obtain ⟨v,h1,h2⟩:=hs0 t av ht
   exact ⟨v,h1,AR.mv hK (fun _ _ hb=>hb) (fun _ _=>rfl) h2⟩
 ·intro i o hi ho D vs w' hni uG yD hJ
  have dX:l[i]?=some o:=by simpa using ho
  have hA:=lJ (a0:=a0) (ops:=l.toArray) rfl hr hn0 hnl vs i (adC hi);obtain ⟨ρ,hc,h2,h5,h3,h4⟩:=hJ;have hSl:fD ρ (Bd ρ B0) w' (gQ (st i).sl (o.looksAt l.toArray)) (fB (l.take i) 0 a0 vs):=by
   intro t av ht;obtain ⟨hts,hlk⟩:=wL _ t av ht
   by_cases hex:∃ k ok,k < i∧l[k]?=some ok∧ok.dst=some t
   ·obtain ⟨k,ok,hk,hok,hkd⟩:=hex
    have hok':l.toArray[k]?=some ok:=by simpa using hok
    rw [nI.at1 i (Nat.le_of_lt hi) t k ok hk hok hkd] at hlk;cases hlk
    refine ⟨vs k,hA.wr k ok t (by omega) hok' hk hkd,h4 k ok t (by omega) ?_ hok hkd⟩;rcases hr.look i k o ok t hi (by omega) ho hok' (by omega) hkd hts with ⟨_,h⟩ | ⟨h,_⟩
    ·exact uG k h
    ·omega
   ·have hno:∀ k ok,k < i→l[k]?=some ok→ok.dst≠some t:=fun k ok hk hok hkd=>hex ⟨k,ok,hk,hok,hkd⟩
    rw [nI.at2 i (Nat.le_of_lt hi) t hno] at hlk;obtain ⟨v,h7,h8⟩:=h3 t av hlk (fun k ok hk hok gJ hkd=>by
     have hok':l.toArray[k]?=some ok:=by simpa using hok
     by_cases hki:k=i
     ·subst hki;exact hni gJ
     ·rcases hr.look i k o ok t hi hk ho hok' hki hkd hts with ⟨h,_⟩ | ⟨_,h⟩
      ·exact hno k ok h hok hkd
      ·exact hni (yD k ok hok' gJ i h))
    refine ⟨v,?_,h8⟩;rw [hA.no t (fun k ok hk hok hki=>hno k ok hki (by simpa using hok))];exact h7
  have afa:∀ id∈La (st i) o.op.operands.toList,∃ v,ρ id=some v:=by
   intro id aS;obtain ⟨x,hx,hg⟩:=aiR.1 aS;cases hgx:dH (st i) x with
   | none=>rw [hgx] at hg;cases hg
   | some av=>
    rw [hgx] at hg;have hav:tZ av=some id:=hg;cases x with
    | tmp t=>
     have hm:t∈o.looksAt l.toArray:=aiJ _ (aiR.2 ⟨.tmp t,by simpa using hx,rfl⟩);obtain ⟨v,_,h8⟩:=hSl t av (by rw [lC _ t hm];exact hgx);exact rP hav h8
    | const v=>cases v <;> simp only [dH,Option.some.injEq,reduceCtorEq] at hgx <;> (subst hgx;cases hav)
    | func f=>simp only [dH,Option.some.injEq] at hgx;subst hgx;cases hav
    | global g=>simp [dH] at hgx
  have akK:∀ id∈Xv st i o,∃ v,ρ id=some v:=fun id aS=>afa id (ade aS)
  have hiff:∀ id∈Xv st i o,∀ k p,k < n→wr k=some p→p.1=id→(D k↔k < i):=by
   intro id aS k p hk hp IU;have hok:l[k]?=some (l[k]'(by omega)):=by simp
   have hok':l.toArray[k]?=some (l[k]'(by omega)):=by simp
   rcases nI.wrs k _ p hk hok hp with ⟨hN,hdk,hnone⟩ | ⟨hS,hmem,_⟩
   ·rw [IU] at hdk hnone
    obtain ⟨v,hv⟩:=akK id aS;have gJ:D k:=by
     rcases h2 id v hv with h | ⟨k',o',hk',anp,an4,hd'⟩
     ·have:=nI.grow k (adC hk) id h
      rw [hnone] at this;cases this
     ·by_cases e:k'=k
      ·subst e;exact anp
      ·exact absurd hdk (hone k k' _ o' id hk hk' hok an4 e hd')
    refine ⟨fun _=>?_,fun _=>gJ⟩;rcases ag7 k i with h | h | h
    ·exact h
    ·subst h;exact absurd gJ hni
    ·exact absurd aS (hnw k _ i o h hk hok dX hN id hdk)
   ·rw [IU] at hmem
    rcases ag7 k i with h | h | h
    ·exact ⟨fun _=>h,fun _=>Eb yD 6 o k uG (hcf i o k _ h hi dX hok (Or.inr hS) id aS hmem)⟩
    ·subst h;exact ⟨fun h=>absurd h hni,fun h=>absurd h (Nat.lt_irrefl _)⟩
    ·exact ⟨fun gJ=>absurd (Eb yD 6 _ i (yD k _ hok' gJ) (hcf k _ i o h hk hok dX (Or.inl hS) id hmem aS)) hni,fun h'=>by omega⟩
  have ahj:∀ id∈Xv st i o,lk (st i).hp id=lk (Az (st 0).hp wr D n) id:=by
   intro id aS;rw [← nI.hp i (Nat.le_of_lt hi)];exact (BD fun k p hk hp IU=>hiff id aS k p hk hp IU).symm
  let s2:AS:=⟨(st i).n,gQ (st i).sl (o.looksAt l.toArray),Az (st 0).hp wr D n⟩
  have hget:∀ x∈o.op.operands,dH (st i) x=dH s2 x:=by
   intro x hx;cases x with
   | tmp t=>
    have hm:t∈o.looksAt l.toArray:=aiJ _ (aiR.2 ⟨.tmp t,by simpa using hx,rfl⟩);exact (lC _ t hm).symm
   | const v=>cases v <;> rfl
   | _=>rfl
  have hg':jC l.toArray (st i) o=jC l.toArray s2 o:=EU (fun t ht=>(lC _ t ht).symm);have hAd:(fB (l.take i) 0 a0 vs).defers= []:=hA.defs.trans uQ;have hdef:∀ v,((fB (l.take i) 0 a0 vs).put o.dst v).defers= []:=fun v=>by cases hd:o.dst <;> exact hAd
  have hval:∀ v d,o.dst=some d→Am.valOf o ((fB (l.take i) 0 a0 vs).put o.dst v)=v:=fun v d hd=>Am.rM hd (by rw [hA.size,hn0];exact hr.dst i o d hi ho hd)
  have hO:=hop i o hi dX;have hsh:=aB.shape2 hO;have ald:∀ {hp'},(st (i+1)).hp=hp'→hp'=(st i).hp→wr i=none:=by
   intro hp' e1 e2;have:=nI.up i hi;rw [e1,e2] at this;cases hw:wr i with
   | none=>rfl
   | some p=>rw [hw] at this;have h9:=ah5 List.length this;simp at h9
  have hnone:wr i=none→eY ρ B0 w0 w' (Az (st 0).hp wr (tY D i) n):=fun hw=>eY.lkc hc fun id _=>BD fun k p hk hp IU=>by
   unfold tY;constructor
   ·exact Or.inl
   ·rintro (h | rfl)
    ·exact h
    ·rw [hw] at hp;cases hp
  have fin:∀ {w2:World} {v:Value} {av:AV},st (i+1)=(st i).put o.dst av→Below w'.heap.size w' w2→AR ρ (Bd ρ B0) w2 av v→JS l n st wr B0 w0 a0 (tY D i) (tq vs i (Am.valOf o ((fB (l.take i) 0 a0 vs).put o.dst v))) w2:=by
   intro w2 v av he hb hv;have hw:wr i=none:=ald (hp':=((st i).put o.dst av).hp) (by rw [he]) (by cases o.dst <;> rfl);refine JS.same dX (.of_below hb) ((hnone hw).below hb) h2 h5 (fun p hp=>by rw [hw] at hp;cases hp) h3 h4 (fun d hd=>?_) hni;rw [hval v d hd];have:yj (st (i+1))=av:=by rw [he,hd];rfl
   rw [this];exact hv
  obtain ⟨s3,hs3⟩:∃ s3,s3=st (i+1):=⟨_,rfl⟩
  rw [← hs3] at hO;cases hO with
  | V av h hg hk=>
   rw [hg'] at hg
   replace h:jr T s2 o.op=some av:=by
    cases hln:FW o.op with
    | false=>rwa [Iq (T:=T) (op:=o.op) (s:=st i) (s':=s2) hln hget ahj] at h
    | true=>
     refine acV hln hget (fun id aS n0 akP=>?_) h;obtain ⟨v0,hv0⟩:=afa id aS;obtain ⟨ob,ho1,_⟩:=hc.obj id v0 hv0;show uh (lk (Az (st 0).hp wr D n) id)=some n0
     rw [ho1];obtain ⟨j,hj,hj1,hj2⟩:=nI.lenD n (abJ _) ho1;have hi1:(lk (st i).hp id).isSome=true:=by
      exact Xc akP
     rw [show uh (some ob)=uh (lk (st j).hp id) from congrArg Prod.fst hj2,← akP];rcases Nat.le_total j i with hji | hji
     ·exact ah5 Prod.fst ((nI.len hnl hj1 i hji (adC hi)).2).symm
     ·exact ah5 Prod.fst (nI.len hnl hi1 j hji hj).2
   obtain ⟨v,hrun,hv⟩:=Bz (s:=s2) hT hSl hc (fun _ _ h=>h) h;exact gX (dZ (s:=s2) hg hSl) (gV (a:=a0) hrun ⟨hdef v,fin hs3.symm (Below.refl _ _) hv⟩)
  | Y x tw id h hw hi2 hn ho hl hg hk=>
   rw [hg'] at hg;have hno:∀ (k:Nat) (ok:Oper),l[k]?=some ok→ok.dst≠some tw:=fun k ok hok=>Jk hn hok
   rw [nI.at2 i (Nat.le_of_lt hi) tw (fun k ok _ hok=>hno k ok hok)] at hw;obtain ⟨u,_,hu⟩:=h3 tw _ hw (fun k ok _ hok _=>hno k ok hok);obtain ⟨y,hy⟩:=rP hi2 hu;obtain ⟨ob,ho1,ho2⟩:=hc.obj id y hy;obtain ⟨j,hj,hj1,hj2⟩:=nI.lenD n (abJ _) ho1;have hi1:(lk (st i).hp id).isSome=true:=by rw [ho];rfl
   have e:LK (some ob)=LK (lk (st i).hp id):=hj2.trans (by
    rcases Nat.le_total j i with hji | hji
    ·exact ((nI.len hnl hj1 i hji (adC hi)).2).symm
    ·exact (nI.len hnl hi1 j hji hj).2)
   obtain ⟨e',sz',n',Ws,hob⟩:=ahR (o:=some ob) (x:=x) ((ah5 Prod.snd e).trans (by rw [ho];rfl));cases hob
   replace h:jr T s2 o.op=some (.d (.one (.v x))):=by
    rwa [Iq (T:=T) (op:=o.op) (s:=st i) (s':=s2) hl hget ahj] at h
   obtain ⟨v,hrun,hv⟩:=Bz (s:=s2) hT hSl hc (fun _ _ h=>h) h;exact gX (dZ (s:=s2) hg hSl) (gV (a:=a0) hrun ⟨hdef v,fin hs3.symm (Below.refl _ _) (NT hv hy ho2)⟩)
  | B av h hg hk=>
   rw [hg'] at hg;rw [EO (T:=T) (op:=o.op) (s:=st i) (s':=s2) hget] at h;obtain ⟨v,w2,hrun,hb,hv⟩:=MW (s:=s2) hT hSl hc h;exact gX (dZ (s:=s2) hg hSl) (gV (a:=a0) hrun ⟨hdef v,fin hs3.symm hb hv⟩)
  | X av h hg hk=>
   rw [hg'] at hg;obtain ⟨v,hrun,hv⟩:=h ρ (Bd ρ B0) w' (fB (l.take i) 0 a0 vs) (fun x hx kV hgx=>bQ (s:=s2) hSl ((hget x hx).symm.trans hgx));exact gX (dZ (s:=s2) hg hSl) (gV (a:=a0) hrun ⟨hdef v,fin hs3.symm (Below.refl _ _) hv⟩)
  | G hg hk=>
   rw [hg'] at hg;refine DF (dZ (s:=s2) hg hSl) ?_;have hw:wr i=none:=ald (hp':=((st i).put o.dst .dead).hp) (by rw [← hs3]) (by cases o.dst <;> rfl);refine JS.same dX (.of_below (Below.refl _ _)) (hnone hw) h2 h5 (fun p hp=>by rw [hw] at hp;cases hp) h3 h4 (fun d hd=>?_) hni;have:yj (st (i+1))= .dead:=by rw [← hs3,hd];rfl
   rw [this];trivial
  | C h hcl hf ha hg hk=>
   rename_i c f cap ds res;rw [hg'] at hg;have hop':o.op= .call c:=by
    unfold iw at hcl;split at hcl
    ·rename_i h;cases hcl;exact h
    ·cases hcl
   have hgc:∀ x∈c.operands,dH (st i) x=dH s2 x:=fun x hx=>hget x (by rw [hop'];exact hx)
   rw [BA hgc] at hf;rw [qB _ (fun x hx=>hgc x (Array.mem_append.2 (Or.inr (by simpa using hx))))] at ha;obtain ⟨us,hus,hrun⟩:=wO (s:=s2) hSl hcl hf ha h.en;refine gX (dZ (s:=s2) hg hSl) ?_;unfold Oper.wp;rw [hrun];refine (h.go (Bd ρ B0) w' us hc.MN hus).mono ?_;rintro e w2 ⟨v,rfl,hb,hv⟩;exact ⟨hdef v,fin hs3.symm hb hv.lift⟩
  | S id ob h hdst hg=>
   rw [hg'] at hg;obtain ⟨hst,aS,_⟩:=Y4 h;rw [SS (T:=T) (op:=o.op) (s:=st i) (s':=s2) hget ahj] at h;obtain ⟨w2,hrun,hc2,hk2⟩:=SV (s:=s2) hT hSl hc h;refine gX (dZ (s:=s2) hg hSl) ?_;unfold Oper.wp;rw [hrun];refine ⟨hdef _,?_⟩;have hup:=nI.up i hi;rw [← hs3] at hup;have hwi:wr i=some (id,ob):=by
    cases hw:wr i with
    | none=>
     rw [hw] at hup;have h9:=ah5 List.length hup;simp at h9
    | some p=>
     rw [hw] at hup;have h9:(id,ob) ::(st i).hp=p ::(st i).hp:=hup;exact ah5 some (afY h9).1.symm
   have hcc:eY ρ B0 w0 w2 (Az (st 0).hp wr (tY D i) n):=by
    refine eY.lkc hc2 fun id' _=>?_
    show lk ((id,ob) ::Az (st 0).hp wr D n) id'=_
    rw [aV]
    by_cases e:id=id'
    ·subst e
     rw [if_pos rfl];have e1:lk (Az (st 0).hp wr (tY D i) n) id=lk (Az (st 0).hp wr (fun k=>k < i+1) n) id:=BD fun k p hk hp IU=>by
      unfold tY;rw [hiff id aS k p hk hp IU];omega
     rw [e1,nI.hp (i+1) (by omega),← hs3];show some ob=lk ((id,ob) ::(st i).hp) id
     rw [aV,if_pos rfl]
    ·rw [if_neg e]
     refine BD fun k p hk hp IU=>?_
     unfold tY;constructor
     ·exact Or.inl
     ·rintro (h | rfl)
      ·exact h
      ·rw [hwi] at hp;cases hp;exact absurd IU e
   exact JS.same dX hk2 hcc h2 h5 (fun p hp=>by rw [hwi] at hp;cases hp;exact akK id aS) h3 h4 (fun d hd=>by rw [hdst] at hd;cases hd) hni
  | N ob h d hd hfr hg hk=>
   rw [hg'] at hg;have an3:=Y3 h;rw [EP (T:=T) (op:=o.op) (s:=st i) (s':=s2) hget] at h;obtain ⟨v,w2,hrun,hb,hvb,hob⟩:=Na (s:=s2) hT hSl hc h;have hup:=nI.up i hi;rw [← hs3] at hup;have hwi:wr i=some (d,ob):=by
    cases hw:wr i with
    | none=>
     rw [hw] at hup;have h9:=ah5 List.length hup;simp [AS.mk'] at h9
    | some p=>
     rw [hw] at hup;have h9:(d,ob) ::(st i).hp=p ::(st i).hp:=hup;exact ah5 some (afY h9).1.symm
   have ag2:(lk (st 0).hp d).isSome=false:=by
    cases hq:(lk (st 0).hp d).isSome with
    | false=>rfl
    | true=>have:=nI.grow i (adC hi) d hq;rw [hfr] at this;cases this
   have hρ:ρ d=none:=by
    cases hq:ρ d with
    | none=>rfl
    | some u=>
     rcases h2 d u hq with h7 | ⟨k,ok,hk',gJ,hok,hkd⟩
     ·rw [ag2] at h7;cases h7
     ·by_cases hki:k=i
      ·subst hki;exact absurd gJ hni
      ·exact absurd hd (hone i k o ok d hi hk' dX hok hki hkd)
   have hO2:=hob (Bd (up ρ d v) B0) (vk hρ hvb);have hdiff:∀ k p,k < n→wr k=some p→p.1=d→(tY D i k↔k < i+1):=by
    intro k p hk' hp hpd;have hok:l[k]?=some (l[k]'(by omega)):=by simp
    by_cases e:k=i
    ·subst e;exact ⟨fun _=>by omega,fun _=>Or.inr rfl⟩
    ·have hnD:¬ D k:=fun gJ=>by
      obtain ⟨u,hu⟩:=h5 k p hk' gJ hp;rw [hpd,hρ] at hu;cases hu
     refine ⟨fun h=>?_,fun h=>?_⟩
     ·rcases h with h | h
      ·exact absurd h hnD
      ·exact absurd h e
     ·exfalso
      rcases nI.wrs k _ p hk' hok hp with ⟨_,hdk,_⟩ | ⟨_,hmem,_⟩
      ·rw [hpd] at hdk
       exact hone i k o _ d hi hk' dX hok e hdk hd
      ·rw [hpd] at hmem
       exact hnw i o k _ (by omega) hi dX hok an3 d hd hmem
   have hlast:lk (Az (st 0).hp wr (tY D i) n) d=some ob:=by
    rw [BD (D':=fun k=>k < i+1) hdiff,nI.hp (i+1) (by omega),← hs3];show lk ((d,ob) ::(st i).hp) d=some ob
    rw [aV,if_pos rfl]
   have hoth:∀ id',id'≠d→lk (Az (st 0).hp wr D n) id'=lk (Az (st 0).hp wr (tY D i) n) id':=fun id' hne=>BD fun k p hk' hp IU=>by
    unfold tY;constructor
    ·exact Or.inl
    ·rintro (h | rfl)
     ·exact h
     ·rw [hwi] at hp;cases hp;exact absurd IU.symm hne
   have hc2:eY (up ρ d v) B0 w0 w2 (Az (st 0).hp wr (tY D i) n):=hc.new hρ hb hvb (fun k ob' hk' hne=>by rw [← hoth k hne];exact hk') hlast hO2;refine gX (dZ (s:=s2) hg hSl) (gV (a:=a0) hrun ⟨hdef v,?_⟩);refine ⟨_,hc2,fun id u hu=>?_,fun k p hk' gJ hp=>?_,fun t av ht hno=>?_,fun k ok d' hk' gJ hok hd'=>?_⟩
   ·unfold up at hu
    split at hu
    ·rename_i e
     exact Or.inr ⟨i,o,hi,Or.inr rfl,dX,by rw [hd,e]⟩
    ·rcases h2 id u hu with h7 | ⟨k,ok,hk',gJ,h7⟩
     ·exact Or.inl h7
     ·exact Or.inr ⟨k,ok,hk',Or.inl gJ,h7⟩
   ·unfold up
    split
    ·exact ⟨_,rfl⟩
    ·rename_i hne
     rcases gJ with gJ | rfl
     ·exact h5 k p hk' gJ hp
     ·rw [hwi] at hp;cases hp;exact absurd rfl hne
   ·obtain ⟨u,h7,h8⟩:=h3 t av ht (fun k o hk ho gJ=>hno k o hk ho (Or.inl gJ))
    exact ⟨u,h7,h8.new hρ hb hvb⟩
   ·unfold tq
    by_cases e:k=i
    ·subst e
     rw [if_pos rfl,hval v d hd,← hs3];exact AO.CV hO2 (by simp [up])
    ·rw [if_neg e]
     rcases gJ with gJ | gJ
     ·exact (h4 k ok d' hk' gJ hok hd').new hρ hb hvb
     ·exact absurd gJ e
 ·intro D vs w' hall hJ
  obtain ⟨ρ,hc,h2,h5,h3,h4⟩:=hJ;have hA:=lJ (a0:=a0) (ops:=l.toArray) rfl hr hn0 hnl vs n (abJ _);have IL:Az (st 0).hp wr D n=(st n).hp:=by
   rw [← nI.hp n (Nat.le_refl _)];exact Ah fun k hk=>⟨fun _=>hk,fun _=>hall k hk⟩
  rw [IL] at hc;refine kk B0 w0 _ w' ⟨ρ,hc,?_,hA.defs.trans uQ,fun t av ht=>?_⟩
  ·rw [hA.size,hn0,nI.nn n (Nat.le_refl _)]
  ·by_cases hex:∃ k ok,k < n∧l[k]?=some ok∧ok.dst=some t
   ·obtain ⟨k,ok,hk,hok,hkd⟩:=hex
    rw [nI.at1 n (Nat.le_refl _) t k ok hk hok hkd] at ht;cases ht
    exact ⟨vs k,hA.wr k ok t hk (by simpa using hok) hk hkd,h4 k ok t hk (hall k hk) hok hkd⟩
   ·have hno:∀ k ok,k < n→l[k]?=some ok→ok.dst≠some t:=fun k ok hk hok hkd=>hex ⟨k,ok,hk,hok,hkd⟩
    rw [nI.at2 n (Nat.le_refl _) t hno] at ht;obtain ⟨v,h7,h8⟩:=h3 t av ht (fun k o hk hok _=>hno k o hk hok);refine ⟨v,?_,h8⟩;rw [hA.no t (fun k o hk hok _=>hno k o hk (by simpa using hok))];exact h7
end
end
theorem fM{k:IntKind}{a b:Int}(h:a=b):some (AV.d (.one (.v (.int k a))))=some (AV.d (.one (.v (.int k b)))):=by rw [h]
theorem bI{a b:Bool}(h:a=b):some (AV.d (.one (.v (.bool a))))=some (AV.d (.one (.v (.bool b)))):=by rw [h]
def ZL:Callee→Option FuncId
 | .value (.func f)=>some f
 | _=>none
section
variable {P:Program} {ops:Array Oper} {Q:Qs} {o:Oper} {l:List Oper} {s:AS}
theorem E5{cal:Callee}{f:FuncId}(h:ZL cal=some f):J9 s cal=some (f,[]):=by
 unfold ZL at h;split at h
 ·cases h;rfl
 ·cases h
theorem aU{c:Call}{f:FuncId}{ds:List DV}{res:AV}(h:aC P f ds res)(hc:iw o.op=some c)(hf:ZL c.callee=some f)(ha:qQ s c.args.toList=some ds)(k:AL P ops Q l (s.put o.dst res)) 
  (hg:jC ops s o=some true:=by rfl) (hd:kG o.dst s.n=true:=by rfl):AL P ops Q (o ::l) s:=
 mC (cap:= []) (by rw [List.append_nil];exact h) hc (E5 hf) ha k hg hd
theorem aB.C0{T:TypeId→Option TI}{c:Call}{f:FuncId}{ds:List DV}{res:AV}(h:aC P f ds res)(hc:iw o.op=some c)(hf:ZL c.callee=some f)(ha:qQ s c.args.toList=some ds)(hg:jC ops s o=some true:=by rfl)(hd:kG o.dst s.n=true:=by rfl):aB P T ops o s (s.put o.dst res):=
 .C (cap:= []) (by rw [List.append_nil];exact h) hc (E5 hf) ha hg hd
/-- One after another, and K of what comes of it. -/
inductive Ku (P:Program) (T:TypeId→Option TI) (ops:Array Oper) (K:AS→Prop):List Oper→AS→Prop
 | nil {s:AS} (h:K s):Ku P T ops K [] s
 | cons {o:Oper} {l:List Oper} {s s1:AS} (h:aB P T ops o s s1) (k:Ku P T ops K l s1):Ku P T ops K (o ::l) s
theorem Ku.r{T:TypeId→Option TI}{K:AS→Prop}{n:Nat}(h:Ku P T ops K l s):ChR P T ops n K l s:=by
 induction h with
 | nil h=>exact .nil h
 | cons h _ ih=>exact .cons (.S h) ih
theorem aP{T:TypeId→Option TI}(hT:zU P T){id:Nat}{l:List Oper}(n:Nat){s:AS}(hm:P.follows .mixedOrders=true)(hB:Am.allB l.toArray n s.n=true)(hD:Am.MS l.toArray n=true)(h:Ku P T l.toArray (fun s1=>AL P l.toArray Q (l.drop n) s1) (l.take n) s):AW P (.region id l.toArray true) Q s:=Yn hT n hm (Am.Yh hB) (fun _ _ h=>by cases h) hD h.r
theorem acG{T:TypeId→Option TI}(hT:zU P T){id:Nat}{l:List Oper}(n:Nat)(ls:List Nat){s:AS}(hm:P.follows .mixedOrders=true)(hB:Am.O5 l.toArray n s.n ls=true)(hD:Am.MS l.toArray n=true)(hP:∀ c s,¬ Q (.panic c) s)(h:Ku P T l.toArray (fun s1=>AL P l.toArray Q (l.drop n) s1) (l.take n) s):AW P (.region id l.toArray true) Q s:=jG hT n ls hm hB hD hP h.r
theorem cT{c:Operand}{x y:Code}(hc:dH s c=some (.d (.one (.v (.bool true)))))(h:AW P x Q s):AW P (.cond c x y) Q s:=aW hc (fun _=>h) (fun e=>by cases e)
theorem cF{c:Operand}{x y:Code}(hc:dH s c=some (.d (.one (.v (.bool false)))))(h:AW P y Q s):AW P (.cond c x y) Q s:=aW hc (fun e=>by cases e) (fun _=>h)
theorem tN{K:AS→Prop}(h:K s):XA K Q .normal s:=h
theorem tE{K:AS→Prop}{id:Nat}(h:Q (.exit id) s):XA K Q (.exit id) s:=h
theorem tR{K:AS→Prop}(h:Q .ret s):XA K Q .ret s:=h
theorem bN{id:Nat}(h:Q .normal s):inB id Q .normal s:=h
theorem bR{id:Nat}(h:Q .ret s):inB id Q .ret s:=h
theorem bE{id:Nat}(h:Q .normal s):inB id Q (.exit id) s:=by show (if id=id then Q .normal s else Q (.exit id) s);rw [if_pos rfl];exact h
theorem bX{id id':Nat}(hne:Nat.beq id' id=false)(h:Q (.exit id') s):inB id Q (.exit id') s:=by
 show (if id'=id then Q .normal s else Q (.exit id') s)
 rw [if_neg (fun e=>by rw [e,Nat.beq_refl] at hne;cases hne)];exact h
theorem rQ{T:TypeId→Option TI}{rs:List ResultVar}{es:List DV}{r:AV}(h:Gl T s rs=some es)(hl:AV.le (LJ es) r):XJ T rs r .ret s:=⟨es,h,hl⟩
theorem abA{s:AS}(t:Nat)(kV:AV){av:AV}(h:lk s.sl t=some av)(hl:AV.le av kV):Wk s ⟨s.n,(t,kV) ::s.sl,s.hp⟩:=by
 rintro B0 w0 a w ⟨ρ,hc,hn,hdf,hs⟩;refine ⟨ρ,hc,hn,hdf,fun u av2 hu=>?_⟩;rw [aV] at hu;split at hu
 ·rename_i e
  cases hu
  subst e;obtain ⟨v,h1,h2⟩:=hs t av h;exact ⟨v,h1,hl _ _ _ _ h2⟩
 ·exact hs u av2 hu
theorem lD(t:Nat)(kV:AV){av:AV}(h:lk s.sl t=some av)(hl:AV.le av kV)(k:AL P ops Q l ⟨s.n,(t,kV) ::s.sl,s.hp⟩):AL P ops Q l s:=AL.wk (abA t kV h hl) k
theorem iV{c:Code}(t:Nat)(kV:AV){av:AV}(h:lk s.sl t=some av)(hl:AV.le av kV)(k:AW P c Q ⟨s.n,(t,kV) ::s.sl,s.hp⟩):AW P c Q s:=AW.wk (abA t kV h hl) k
end
theorem aK{P : Program}{T : TypeId → Option TI}(hT : zU P T){f : FuncId}{fn : Func}{c : Code}{args : List DV}{r : AV}(n : Nat)(rs : List ResultVar)(hf : P.funcs[f]? = some fn)(hb : fn.body = some c)(hnm : (fn.name == "runtime.NumGoroutine") = false)(hn : fn.ntmps = n)(hrs : fn.results.toList = rs)(hlen : Nat.ble args.length n = true) 
  (h:AW P c (XJ T rs r) ⟨n,params 0 args,[]⟩):aC P f args r:=by
 subst hn;subst hrs;exact ajG hT hf hb hnm hlen h
/-- One of the leaves L x with Q x. -/
def aX{α:Type}(Q:α→Prop)(L:α→Lf):Lf:= .sm ⟨fun B w v=>∃ x,Q x∧dY B w (L x) v,fun _ _ _ ⟨_,_,h⟩=>h.one,fun _ _ _ _ _ ⟨x,hq,h⟩ hk hB=>⟨x,hq,h.mv hk hB⟩⟩
theorem lT{α:Type}{Q:α→Prop}{L:α→Lf}(x:α)(hq:Q x):AV.le (.d (.one (L x))) (.d (.one (aX Q L))):=fun _ _ _ _ h=>⟨x,hq,h⟩
theorem Dl{α β:Type}{Q:α→Prop}{L:α→Lf}{R:β→Prop}{M:β→Lf}(h:∀ x,Q x→∃ y,R y∧∀ B w v,dY B w (L x) v→dY B w (M y) v):∀ B w v,dY B w (aX Q L) v→dY B w (aX R M) v:=fun B w v ⟨x,hq,k⟩=>let ⟨y,hr,hl⟩:=h x hq;⟨y,hr,hl B w v k⟩
section
variable {P:Program} {ops:Array Oper} {Q:Qs} {l:List Oper} {s:AS} {o:Oper}
theorem pY{ρ:kL}{B:BS}{w:World}{sl:List (Nat×AV)}{a:Act}{t:Nat}{av:AV}{v:Value}(h:fD ρ B w sl a)(hv:a.tmps[t]?=some v)(h':AR ρ B w av v):fD ρ B w ((t,av) ::sl) a:=by
 intro u kV hu;rw [aV] at hu;split at hu
 ·rename_i e;cases hu;subst e;exact ⟨v,hv,h'⟩
 ·exact h u kV hu
/-- What a slot holds is found out. -/
theorem cEx{α:Type}{Qx:α→Prop}{L:α→Lf}{c:Code}(t:Nat)(h:lk s.sl t=some (.d (.one (aX Qx L))))(k:∀ x,Qx x→AW P c Q ⟨s.n,(t,.d (.one (L x))) ::s.sl,s.hp⟩):AW P c Q s:=by
 rintro B0 w0 a w ⟨ρ,hc,hn,hdf,hs⟩;obtain ⟨v,hv,x,hq,hl⟩:=hs t _ h;exact k x hq B0 w0 a w ⟨ρ,hc,hn,hdf,pY hs hv hl⟩
theorem mEx{α:Type}{Qx:α→Prop}{L:α→Lf}(t:Nat)(h:lk s.sl t=some (.d (.one (aX Qx L))))(k:∀ x,Qx x→AL P ops Q l ⟨s.n,(t,.d (.one (L x))) ::s.sl,s.hp⟩):AL P ops Q l s:=by
 rintro B0 w0 a w ⟨ρ,hc,hn,hdf,hs⟩;obtain ⟨v,hv,x,hq,hl⟩:=hs t _ h;exact k x hq B0 w0 a w ⟨ρ,hc,hn,hdf,pY hs hv hl⟩
/-- A row of the frame's own is stored into a variable of its own; its value gets a name. -/
theorem mSo{T:TypeId→Option TI}(hT:zU P T)(ty id2 id:Nat){ob2:AO}(obx:Value→AO)(h1:lk s.sl ty=some (.own id2))(h2:lk s.hp id2=some ob2)(h:∀ x,Xt T ⟨s.n,(ty,.d (.one (.v x))) ::s.sl,(id2,.is x ob2) ::s.hp⟩ o.op=some (id,obx x)) 
  (k:∀ x,AL P ops Q l (AS.put ⟨s.n,s.sl,(id,obx x) ::(id2,.is x ob2) ::s.hp⟩ o.dst .dead)) (hg:jC ops s o=some true:=by rfl) (hd:kG o.dst s.n=true:=by rfl):AL P ops Q (o ::l) s:=by
 rintro B0 w0 a w ⟨ρ,hc,hn,hdf,hs⟩;obtain ⟨x,hx,hρ,ag,nn,cap,hsl⟩:=hs ty _ h1;have hone:x.oneCell'=true:=by subst hsl;rfl
 have hc2:eY ρ B0 w0 w ((id2,.is x ob2) ::s.hp):=⟨hc.bel,hc.b0,fun j v hj=>by
  obtain ⟨ob,q1,q2⟩:=hc.obj j v hj
  by_cases e:id2=j
  ·subst e
   rw [h2] at q1;cases q1
   have:v=x:=by rw [hρ] at hj;cases hj;rfl
   exact ⟨.is x ob2,by rw [aV,if_pos rfl],this,q2⟩
  ·exact ⟨ob,by rw [aV,if_neg e];exact q1,q2⟩,hc.dist⟩
 have hs2:fD ρ (Bd ρ B0) w ((ty,.d (.one (.v x))) ::s.sl) a:=pY hs hx ⟨rfl,hone⟩;obtain ⟨w',hr,hc',hk⟩:=SV hT (s:=⟨s.n,(ty,.d (.one (.v x))) ::s.sl,(id2,.is x ob2) ::s.hp⟩) hs2 hc2 (h x);have fQ:fD ρ (Bd ρ B0) w' s.sl a:=fun t av ht=>let ⟨u,q1,q2⟩:=hs t av ht;⟨u,q1,AR.mv hk (fun _ _ hB=>hB) (fun _ _=>rfl) q2⟩
 exact JL (dZ hg hs) hr (k x B0 w0 _ w' (ni (s:=⟨s.n,s.sl,(id,obx x) ::(id2,.is x ob2) ::s.hp⟩) hc' hn hdf fQ hd trivial))
end
/-- Values of slots. -/
def AsR(ρ:kL)(B:BS)(w:World):List AV→List Value→Prop
 | [],[]=>True
 | a ::l,v ::vs=>AR ρ B w a v∧AsR ρ B w l vs
 | _,_=>False
/-- The blocks of objects; some objects are there. -/
def uM(ρ:kL):BS:=fun b=>∃ id v,ρ id=some v∧jd v=some b
/-- WHAT A FUNCTION DOES THAT IS LENT OBJECTS: they are numbered avs in hp; those of wi are there; it answers r and leaves the objects hp' with Q r hp', those of wo are there. -/
structure fZ(P:Program)(f:FuncId)(args:List AV)(hp:List (Nat×AO))(wi wo:List Nat)(Q:AV→List (Nat×AO)→Prop):Prop where
 en:∀ vs w,(callFunc f vs).run P w= .ok (.enter f vs) w
 go:∀ ρ B w vs,eY ρ B ⟨w,uM ρ⟩ w hp→Al ρ wi→AsR ρ (Bd ρ B) w args vs→Calls P f vs.toArray w fun e w'=>
  ∃ v ρ' r hp',e= .returned v∧Q r hp'∧eY ρ' B ⟨w,uM ρ⟩ w' hp'∧Al ρ' wo∧AR ρ' (Bd ρ' B) w' r v
/-! ### The callee -/
def Ap:Nat→List AV→List (Nat×AV)
 | _,[]=> []
 | i,d ::ds=>(i,d) ::Ap (i+1) ds
theorem Jl{B:BS}{w:World}{ρ:kL}:∀ {ds:List AV} {vs:List Value} {i t:Nat} {av:AV},AsR ρ B w ds vs→lk (Ap i ds) t=some av→∃ k v,t=i+k∧vs[k]?=some v∧AR ρ B w av v
 | [],[],i,t,av,_,h=>by cases h
 | d ::ds,v ::vs,i,t,av,hd,h=>by
  unfold Ap at h;rw [aV] at h;split at h
  ·rename_i e
   cases h
   exact ⟨0,v,by omega,rfl,hd.1⟩
  ·obtain ⟨k,u,h1,h2,h3⟩:=Jl hd.2 h
   exact ⟨k+1,u,by omega,by simpa using h2,h3⟩
theorem AsR.len{ρ:kL}{B:BS}{w:World}:∀ {ls:List AV} {cs:List Value},AsR ρ B w ls cs→ls.length=cs.length
 | [],[],_=>rfl
 | _ ::_,_ ::_,h=>ah5 (· +1) (AsR.len h.2)
/-- The results of a frame. -/
def V4(P:Program)(s:AS)(rs:List ResultVar)(r:AV):Prop:=∀ (ρ:kL) (B0:BS) (w0:Wz) (w:World) (a:Act),eY ρ B0 w0 w s.hp→fD ρ (Bd ρ B0) w s.sl a→∃ vs:List Value,(rs.mapM (Xz a.tmps)).run P w= .ok vs w∧AR ρ (Bd ρ B0) w r (TQ vs)
theorem qN{P:Program}{T:TypeId→Option TI}(hT:zU P T){s:AS}{rs:List ResultVar}{es:List DV}{r:AV}(h:Gl T s rs=some es)(k:AV.le (LJ es) r):V4 P s rs r:=by
 intro ρ B0 w0 w a hc hs;obtain ⟨vs,h1,h2⟩:=Hf hT hc hs _ _ h;exact ⟨vs,h1,k _ _ _ _ (aaW h2)⟩
theorem iJ{P:Program}{s:AS}{t:Nat}{av:AV}(h:lk s.sl t=some av):V4 P s [.tmp t] av:=by
 intro ρ B0 w0 w a hc hs;obtain ⟨v,h1,h2⟩:=hs t _ h;refine ⟨[v],?_,h2⟩;have hv:(Xz a.tmps (.tmp t)).run P w= .ok v w:=by simp [Xz,Array.getD_eq_getD_getElem?,h1]
 rw [List.mapM_cons,Sem.run_bind,hv];rfl
/-- The post of a function's body that is lent objects. -/
def abZ(P:Program)(rs:List ResultVar)(wo:List Nat)(Q:AV→List (Nat×AO)→Prop):Qs
 | .normal,s | .ret,s=>∃ r0 r hp' sl',Q r hp'∧V4 P s rs r0∧Wk ⟨s.n+1,(s.n,r0) ::s.sl,s.hp⟩ ⟨s.n+1,(s.n,r) ::sl',hp'⟩∧lM (fun id=>∃ t av,lk ((s.n,r) ::sl') t=some av∧tZ av=some id) wo
 | _,_=>False
theorem rL{P:Program}{rs:List ResultVar}{wo:List Nat}{Q:AV→List (Nat×AO)→Prop}{s:AS}(r0 r:AV)(hp':List (Nat×AO))(sl':List (Nat×AV))(h1:Q r hp')(h2:V4 P s rs r0)(h3:Wk ⟨s.n+1,(s.n,r0) ::s.sl,s.hp⟩ ⟨s.n+1,(s.n,r) ::sl',hp'⟩)(h4:lM (fun id=>∃ t av,lk ((s.n,r) ::sl') t=some av∧tZ av=some id) wo):abZ P rs wo Q .ret s:=⟨r0,r,hp',sl',h1,h2,h3,h4⟩
theorem rLn{P:Program}{rs:List ResultVar}{wo:List Nat}{Q:AV→List (Nat×AO)→Prop}{s:AS}(r0 r:AV)(hp':List (Nat×AO))(sl':List (Nat×AV))(h1:Q r hp')(h2:V4 P s rs r0)(h3:Wk ⟨s.n+1,(s.n,r0) ::s.sl,s.hp⟩ ⟨s.n+1,(s.n,r) ::sl',hp'⟩)(h4:lM (fun id=>∃ t av,lk ((s.n,r) ::sl') t=some av∧tZ av=some id) wo):abZ P rs wo Q .normal s:=⟨r0,r,hp',sl',h1,h2,h3,h4⟩
theorem agw{P : Program}{f : FuncId}{fn : Func}{c : Code}{args : List AV}{hp : List (Nat × AO)}{wi wo : List Nat}{Q : AV → List (Nat × AO) → Prop}(ws : List (Nat × Nat))(hf : P.funcs[f]? = some fn)(hb : fn.body = some c)(hnm : (fn.name == "runtime.NumGoroutine") = false)(hlen : Nat.ble args.length fn.ntmps = true) 
  (hws:∀ t id,(t,id)∈ws→args.length≤t∧t < fn.ntmps∧id∈wi)
  (h:AW P c (abZ P fn.results.toList wo Q) ⟨fn.ntmps,Ap 0 args ++ws.map fun p=>(p.1,.wit p.2),hp⟩):fZ P f args hp wi wo Q:=by
 refine ⟨fun vs w=>?_,fun ρ B w vs hc hal hvs=>?_⟩
 ·have hnm' : ¬ fn.name = "runtime.NumGoroutine" := by simpa using hnm
  simp [callFunc,hf,hb,hnm']
 ·refine calls_of_wp hf hb ?_
  have hle:=ada hlen;have hvl:=hvs.len;have hden:Kv ⟨fn.ntmps,Ap 0 args ++ws.map fun p=>(p.1,.wit p.2),hp⟩ B ⟨w,uM ρ⟩ {tmps:=vs.toArray ++Array.replicate (fn.ntmps-vs.toArray.size) undef,defers:= []} w:=by
   refine ⟨ρ,hc,by simp;omega,rfl,fun t av ht=>?_⟩;have key:∀ {l1 l2:List (Nat×AV)} {t:Nat} {av:AV},lk (l1 ++l2) t=some av→lk l1 t=some av∨(t,av)∈l2:=by
    intro l1
    induction l1 with
    | nil=>intro l2 t av h;exact Or.inr (kK h)
    | cons p l1 ih=>
     intro l2 t av h;obtain ⟨k,x⟩:=p;rw [List.cons_append,aV] at h;rw [aV];split at h
     ·rename_i e;cases h;exact Or.inl (by rw [if_pos e])
     ·rename_i e;rw [if_neg e];exact ih h
   rcases key ht with ht | ht
   ·obtain ⟨k,v,h1,h2,h3⟩:=Jl hvs ht
    refine ⟨v,?_,h3⟩;have hk:=(abU.1 h2).1;rw [h1,Nat.zero_add,Array.getElem?_append_left (by simpa using hk)];simpa using h2
   ·obtain ⟨p,hp1,hp2⟩:=List.mem_map.1 ht
    obtain ⟨t',id⟩:=p;cases hp2
    obtain ⟨h1,h2,h3⟩:=hws _ _ hp1;obtain ⟨v,hv⟩:=hal id h3;refine ⟨undef,?_,v,hv⟩;rw [Array.getElem?_append_right (by simp;omega),Array.getElem?_replicate,if_pos (by simp;omega)]
  refine Code.wp_mono (fun e a w' hq=>?_) (h B ⟨w,uM ρ⟩ _ w hden);obtain ⟨s',hq,ρ1,hc1,hn1,Zk,hs1⟩:=hq;have fin:(∃ r0 r hp' sl',Q r hp'∧V4 P s' fn.results.toList r0∧Wk ⟨s'.n+1,(s'.n,r0) ::s'.sl,s'.hp⟩ ⟨s'.n+1,(s'.n,r) ::sl',hp'⟩∧lM (fun id=>∃ t av,lk ((s'.n,r) ::sl') t=some av∧tZ av=some id) wo)→
    ∃ v,(results fn a.tmps).run P w'= .ok v w'∧∃ u ρ' r hp',Ending.returned v= .returned u∧Q r hp'∧eY ρ' B ⟨w,uM ρ⟩ w' hp'∧Al ρ' wo∧AR ρ' (Bd ρ' B) w' r u:=by
   rintro ⟨r0,r,hp',sl',h1,h2,h3,h4⟩;obtain ⟨us,h5,h6⟩:=h2 ρ1 B ⟨w,uM ρ⟩ w' a hc1 hs1;have hd2:Kv ⟨s'.n+1,(s'.n,r0) ::s'.sl,s'.hp⟩ B ⟨w,uM ρ⟩ {a with tmps:=a.tmps.push (TQ us)} w':=by
    refine ⟨ρ1,hc1,by simp [hn1],Zk,fun t av ht=>?_⟩;rw [aV] at ht;split at ht
    ·rename_i e
     cases ht
     exact ⟨_,by rw [← e,← hn1];simp,h6⟩
    ·obtain ⟨v,q1,q2⟩:=hs1 t av ht
     have:=(aiI.1 q1).1;exact ⟨v,by rw [Array.getElem?_push_lt this];rw [Array.getElem?_eq_getElem this] at q1;exact q1,q2⟩
   obtain ⟨ρ2,hc2,hn2,_,hs2⟩:=h3 _ _ _ _ hd2;obtain ⟨v,q1,q2⟩:=hs2 s'.n r (by rw [aV,if_pos rfl]);have:v=TQ us:=by rw [← hn1] at q1;simpa using q1.symm
   subst this;refine ⟨_,zM h5,_,ρ2,r,hp',rfl,h1,hc2,fun id aS=>?_,q2⟩;obtain ⟨t,av,q3,q4⟩:=h4.get id aS;obtain ⟨v,_,q5⟩:=hs2 t av q3;exact rP q4 q5
  cases e with
  | normal=>obtain ⟨v,h1,h2⟩:=fin hq;exact ⟨Zk,v,h1,h2⟩
  | ret=>obtain ⟨v,h1,h2⟩:=fin hq;exact ⟨Zk,v,h1,h2⟩
  | exit id=>exact hq.elim
  | goto l=>exact hq.elim
  | panic ch=>exact hq.elim
  | outgrown=>exact hq.elim
theorem fH{P : Program}{f : FuncId}{fn : Func}{c : Code}{args : List AV}{hp : List (Nat × AO)}{wi wo : List Nat}{Q : AV → List (Nat × AO) → Prop}(n : Nat)(rs : List ResultVar)(ws : List (Nat × Nat))(hf : P.funcs[f]? = some fn)(hb : fn.body = some c)(hnm : (fn.name == "runtime.NumGoroutine") = false)(hn : fn.ntmps = n)(hrs : fn.results.toList = rs)(hlen : Nat.ble args.length n = true) 
  (hws:lM (fun p=>args.length≤p.1∧p.1 < n∧p.2∈wi) ws)
  (h:AW P c (abZ P rs wo Q) ⟨n,Ap 0 args ++ws.map fun p=>(p.1,.wit p.2),hp⟩):fZ P f args hp wi wo Q:=by
 subst hn;subst hrs;exact agw ws hf hb hnm hlen (fun t id hm=>hws.get _ hm) h
/-! ### The caller -/
def rnO(m:List (Nat×Nat)):AV→Option AV
 | .d x=>some (.d x)
 | .ptr i o=>match lk m i with
  | some j=>some (.ptr j o)
  | none=>none
 | .own i=>match lk m i with
  | some j=>some (.own j)
  | none=>none
 | _=>none
def AV.rn(m:List (Nat×Nat)):AV→AV
 | .ptr i o=>match lk m i with
  | some j=> .ptr j o
  | none=> .dead
 | .own i=>match lk m i with
  | some j=> .own j
  | none=> .dead
 | .qL i xs=>match lk m i with
  | some j=> .qL j xs
  | none=> .dead
 | .d x=> .d x
 | .ji xs=> .ji xs
 | _=> .dead
def VF(m:List (Nat×Nat)):List (Nat×AO)→List (Nat×AO)
 | []=> []
 | (i,ob) ::l=>match lk m i with
  | some j=>(j,ob) ::VF m l
  | none=>VF m l
/-- No two have one number. -/
def Ti:List (Nat×Nat)→Bool
 | []=>true
 | (_,j) ::l=>l.all (fun p=> !Nat.beq p.2 j) && Ti l
theorem Ai:∀ {m:List (Nat×Nat)},Ti m=true→∀ {i i' j:Nat},lk m i=some j→lk m i'=some j→i=i'
 | [],_,_,_,_,h,_=>by cases h
 | (k,x) ::l,h,i,i',j,h1,h2=>by
  unfold Ti at h;rw [Bool.and_eq_true] at h;rw [aV] at h1 h2;have no:∀ q,lk l q=some x→False:=fun q hq=>by
   have:=afj.1 h.1 _ (kK hq);simp at this
  split at h1 <;> split at h2
  ·omega
  ·cases h1;exact (no _ h2).elim
  ·cases h2;exact (no _ h1).elim
  ·exact Ai h.2 h1 h2
theorem Tz{m:List (Nat×Nat)}(hm:Ti m=true){l:List (Nat×AO)}{i j:Nat}(h:lk m i=some j):∀ (hp:List (Nat×AO)),lk (VF m hp ++l) j=match lk hp i with | some ob=>some ob | none=>lk l j
 | []=>rfl
 | (k,ob) ::hp=>by
  have ih:=Tz hm (l:=l) h hp;rw [aV];unfold VF
  by_cases e:k=i
  ·subst e
   rw [if_pos rfl,h];show lk ((j,ob) ::(VF m hp ++l)) j=_
   rw [aV,if_pos rfl]
  ·rw [if_neg e]
   cases hk:lk m k with
   | none=>exact ih
   | some j'=>
    show lk ((j',ob) ::(VF m hp ++l)) j=_
    rw [aV,if_neg (fun e2:j'=j=>e (Ai hm (by rw [← e2];exact hk) h))];exact ih
theorem Fa{m:List (Nat×Nat)}{l:List (Nat×AO)}{j:Nat}(h:∀ i,lk m i≠some j):∀ (hp:List (Nat×AO)),lk (VF m hp ++l) j=lk l j
 | []=>rfl
 | (k,ob) ::hp=>by
  have ih:=Fa (l:=l) h hp;unfold VF;cases hk:lk m k with
  | none=>exact ih
  | some j'=>
   show lk ((j',ob) ::(VF m hp ++l)) j=_
   rw [aV,if_neg (fun e2:j'=j=>h k (by rw [← e2];exact hk))];exact ih
def AO.aaw:AO→Bool
 | .sz _=>false
 | .is _ ob=>ob.aaw
 | _=>true
theorem OR.lend{B B':BS}{w0 w1:Wz}{w:World}{ob:AO}{v:Value}(hn:ob.aaw=true)(hB:∀ b,b < w.heap.size→B' b→B b)(ho:∀ b,jd v=some b→w1.own b)(h:OR B w0 w ob v):OR B' w1 w ob v:=by
 have hK:ku B w w:=⟨abJ _,fun _ _ _=>rfl⟩
 induction ob with
 | box t cs=>obtain ⟨g,vs,rfl,h1,h2,h3⟩:=h;exact ⟨g,vs,rfl,ho g rfl,h2,h3.mv hK hB⟩
 | row e sz n el=>obtain ⟨xs,⟨h1,h2⟩,h3⟩:=h;exact ⟨xs,⟨h1,ho⟩,fun i j hi hj=>let ⟨x,hx,hl⟩:=h3 i j hi hj;⟨x,hx,dY.mv hK hB _ hl⟩⟩
 | «is» x ob ih=>exact ⟨h.1,ih hn h.2⟩
 | sz k=>cases hn
theorem OR.back{B B':BS}{w0 w1:Wz}{w:World}{ob:AO}{v:Value}(hs:w1.sz≤w0.sz)(hB:∀ b,b < w.heap.size→B' b→B b)(ho:∀ b,w0.own b→w1.own b)(h:OR B w0 w ob v):OR B' w1 w ob v:=by
 have hK:ku B w w:=⟨abJ _,fun _ _ _=>rfl⟩
 induction ob with
 | box t cs=>obtain ⟨g,vs,rfl,h1,h2,h3⟩:=h;exact ⟨g,vs,rfl,ho g h1,h2,h3.mv hK hB⟩
 | row e sz n el=>obtain ⟨xs,⟨h1,h2⟩,h3⟩:=h;exact ⟨xs,⟨h1,fun b hb=>ho b (h2 b hb)⟩,fun i j hi hj=>let ⟨x,hx,hl⟩:=h3 i j hi hj;⟨x,hx,dY.mv hK hB _ hl⟩⟩
 | «is» x ob ih=>exact ⟨h.1,ih h.2⟩
 | sz k=>exact ⟨h.1,acS hs h.2.1,h.2.2⟩
def zx(ks kw:List Nat):List (Nat×AV)→List (Nat×AV)
 | []=> []
 | (t,av) ::l=>(t,DJ ks kw av) ::zx ks kw l
theorem Jc{ks kw:List Nat}:∀ {l:List (Nat×AV)} {t:Nat} {av:AV},lk (zx ks kw l) t=some av→∃ kV,lk l t=some kV∧av=DJ ks kw kV
 | [],_,_,h=>by cases h
 | (k,x) ::l,t,av,h=>by
  unfold zx at h;rw [aV] at h;rw [aV];split at h
  ·rename_i e;cases h;exact ⟨x,by rw [if_pos e],rfl⟩
  ·rename_i e;rw [if_neg e];exact Jc h
theorem Lr{av:AV}{k:Nat}(h:av.on k=true):tZ av=some k:=by
 cases av <;> first | (have:=abO h;rw [← this];rfl) | cases h
theorem ajI{l:List Nat}{i:Nat}(h:(l.any fun k=>Nat.beq k i)=true):i∈l:=by
 obtain ⟨k,h1,h2⟩:=ag1.1 h;have:=abO h2;subst this;exact h1
def vH(m:List (Nat×Nat))(s:AS):List Operand→List AV→Prop
 | [],[]=>True
 | x ::r,a ::avs=>(∃ a' b,dH s x=some a'∧AV.le a' b∧rnO m a=some b)∧vH m s r avs
 | _,_=>False
theorem vH.ok{m:List (Nat×Nat)}{s:AS}{ρ ρc:kL}{B Bc:BS}{w:World}{a:Act}(hs:fD ρ B w s.sl a)(hB:∀ b,b < w.heap.size→Bc b→B b)(hρ:∀ i j,lk m i=some j→ρc i=ρ j):∀ {xs:List Operand} {avs:List AV},vH m s xs avs→AsR ρc Bc w avs (xs.map a.eval)
 | [],[],_=>trivial
 | x ::r,y ::avs,⟨⟨a',b,h1,h2,h3⟩,h⟩=>by
  refine ⟨?_,vH.ok hs hB hρ h⟩;have h4:=h2 _ _ _ _ (bQ hs h1);cases y with
  | d d=>cases h3;exact DR.mv ⟨abJ _,fun _ _ _=>rfl⟩ hB h4
  | ptr i o=>
   simp only [rnO] at h3;split at h3
   ·rename_i j hj;cases h3;obtain ⟨g,q1,q2⟩:=h4;exact ⟨g,(hρ i j hj).trans q1,q2⟩
   ·cases h3
  | own i=>
   simp only [rnO] at h3;split at h3
   ·rename_i j hj;cases h3;obtain ⟨q1,q2⟩:=h4;exact ⟨(hρ i j hj).trans q1,q2⟩
   ·cases h3
  | _=>cases h3
 | [],_ ::_,h=>h.elim
 | _ ::_,[],h=>h.elim
/-- Slots that say of new objects that they are there. -/
def nwS(nw:List (Nat×Nat×Nat)):List (Nat×AV):=nw.map fun p=>(p.1,.wit p.2.2)
open Classical in
theorem ZW{P:Program}{f:FuncId}{args:List AV}{hp:List (Nat×AO)}{wi wo:List Nat}{Q:AV→List (Nat×AO)→Prop}(h:fZ P f args hp wi wo Q)(m mn:List (Nat×Nat))(ks kw:List Nat){hpS:List (Nat×AO)} 
  (hob:lM (fun p=>∃ ob' ob,lk hpS p.2=some ob'∧lk hp p.1=some ob∧AO.le ob' ob∧ob.aaw=true) m)
  (hmn:lM (fun p=>lk hpS p.2=none∧lk m p.1=none) mn)
  (hks:lM (fun p=>(ks.any fun k=>Nat.beq k p.2)=true∨∃ x b,lk hpS p.2=some (.is x b)∧p.1∈wo∧∀ r hp',Q r hp'→∃ d,lk hp' p.1=some (.is x d)) m)
  (hkw:lM (fun j=>∃ i,lk m i=some j∧i∈wo) kw) (hm:Ti (mn ++m)=true)
  {ρ:kL} {B0:BS} {w0:Wz} {w:World} (hcr:eY ρ B0 w0 w hpS) (hwi:∀ i∈wi,∃ j v,lk m i=some j∧ρ j=some v) {vs:List Value}
  (hav:∀ (ρc:kL) (Bc:BS),(∀ b,b < w.heap.size→Bd ρc Bc b→Bd ρ B0 b)→(∀ i j,lk m i=some j→ρc i=ρ j)→AsR ρc (Bd ρc Bc) w args vs):
  Calls P f vs.toArray w fun e w'=>∃ v ρ2 r hp',e= .returned v∧Q r hp'∧eY ρ2 B0 w0 w' (VF (mn ++m) hp' ++hpS)∧(∀ av u,AR ρ (Bd ρ B0) w av u→AR ρ2 (Bd ρ2 B0) w' (DJ ks kw av) u)∧(∀ i j,i∈wo→lk (mn ++m) i=some j→∃ y,ρ2 j=some y)∧(∀ j,(∀ i,lk (mn ++m) i≠some j)→ρ2 j=ρ j)∧AR ρ2 (Bd ρ2 B0) w' (r.rn (mn ++m)) v:=by
 have hmm:∀ i j,lk m i=some j→lk (mn ++m) i=some j:=by
  intro i j hi;rw [uY];cases hq:lk mn i with
  | none=>exact hi
  | some j'=>
   have:=(hmn.get _ (kK hq)).2;simp only at this;rw [hi] at this;cases this
 have hm2:∀ i j,lk (mn ++m) i=some j→lk hpS j=none∨lk m i=some j:=by
  intro i j hi;rw [uY] at hi;cases hq:lk mn i with
  | none=>rw [hq] at hi;exact Or.inr hi
  | some j'=>rw [hq] at hi;cases hi;exact Or.inl (hmn.get _ (kK hq)).1
 obtain ⟨ρc,hρ0⟩:∃ ρc:kL,ρc=fun i=>match lk m i with | some j=>ρ j | none=>none:=⟨_,rfl⟩
 have hρc:∀ i j,lk m i=some j→ρc i=ρ j:=fun i j hi=>by rw [hρ0];simp only [hi]
 have EZ:∀ i v,ρc i=some v→∃ j,lk m i=some j∧ρ j=some v:=by
  intro i v hv;rw [hρ0] at hv;simp only at hv;split at hv
  ·rename_i j hj;exact ⟨j,hj,hv⟩
  ·cases hv
 have hLo:∀ b,uM ρc b→w0.own b∧b < w.heap.size:=by
  rintro b ⟨i,v,h1,h2⟩;obtain ⟨j,_,h3⟩:=EZ i v h1;obtain ⟨ob,_,h4⟩:=hcr.obj j v h3;exact h4.blk b h2
 have hLB:∀ b,uM ρc b→Bd ρ B0 b:=by
  rintro b ⟨i,v,h1,h2⟩;obtain ⟨j,_,h3⟩:=EZ i v h1;exact Or.inr ⟨j,v,h3,h2⟩
 obtain ⟨Bc,hBc⟩:∃ Bc:BS,Bc=fun b=>Bd ρ B0 b∧¬ uM ρc b:=⟨_,rfl⟩
 have hBB:∀ b,Bd ρc Bc b→Bd ρ B0 b:=by
  rintro b (h1 | h1)
  ·rw [hBc] at h1;exact h1.1
  ·exact hLB b h1
 have hcc:eY ρc Bc ⟨w,uM ρc⟩ w hp:=by
  refine ⟨JW.refl _ _,fun b hb=>?_,fun i v hv=>?_,fun i i' v v' b h1 h2 h3 h4=>?_⟩
  ·rw [hBc] at hb;exact ⟨hcr.MN b hb.1,hb.2⟩
  ·obtain ⟨j,h1,h2⟩:=EZ i v hv
   obtain ⟨ob',ob,h3,h4,h5,h6⟩:=hob.get _ (kK h1);obtain ⟨ob1,h7,h8⟩:=hcr.obj j v h2;simp only at h3 h4;rw [h3] at h7;cases h7
   exact ⟨ob,h4,(h5 _ _ _ _ h8).lend h6 (fun b _ hb=>hBB b hb) (fun b hb=>Or.inr ⟨i,v,hv,hb⟩)⟩
  ·obtain ⟨j,q1,q2⟩:=EZ i v h1
   obtain ⟨j',q3,q4⟩:=EZ i' v' h2;have:=hcr.dist j j' v v' b q2 q4 h3 h4;subst this;exact Ai hm (hmm _ _ q1) (hmm _ _ q3)
 have hal:Al ρc wi:=by
  intro i hi;obtain ⟨j,v,h1,h2⟩:=hwi i hi;exact ⟨v,(hρc i j h1).trans h2⟩
 refine (h.go ρc Bc w _ hcc hal (hav ρc Bc (fun b _ hb=>hBB b hb) hρc)).mono ?_;rintro e w' ⟨v,ρ',r,hp',rfl,hq,hc',hal',hv⟩;obtain ⟨ρ2,hρ2⟩:∃ ρ2:kL,ρ2=fun j=>if hj:∃ i,lk (mn ++m) i=some j then ρ' hj.choose else ρ j:=⟨_,rfl⟩
 have Gj:∀ i j,lk (mn ++m) i=some j→ρ2 j=ρ' i:=by
  intro i j hi;have hj:∃ i,lk (mn ++m) i=some j:=⟨i,hi⟩
  rw [hρ2];simp only [dif_pos hj];rw [Ai hm hj.choose_spec hi]
 have h2b:∀ j,(∀ i,lk (mn ++m) i≠some j)→ρ2 j=ρ j:=by
  intro j hj;rw [hρ2];simp only;rw [dif_neg (fun ⟨i,hi⟩=>hj i hi)]
 have hcase:∀ j,(∃ i,lk (mn ++m) i=some j)∨∀ i,lk (mn ++m) i≠some j:=by
  intro j
  by_cases hj:∃ i,lk (mn ++m) i=some j
  ·exact Or.inl hj
  ·exact Or.inr fun i hi=>hj ⟨i,hi⟩
 have hK:ku (Bd ρ B0) w w':=⟨hc'.bel.size,fun b hb hB=>hc'.bel.blk b hb (fun hL=>hB (hLB b hL))⟩;have Tc:∀ j v b,(∀ i,lk (mn ++m) i≠some j)→ρ j=some v→jd v=some b→¬ uM ρc b:=by
  rintro j v b hj h1 h2 ⟨i,u,q1,q2⟩;obtain ⟨j',q3,q4⟩:=EZ i u q1;have:=hcr.dist j j' v u b h1 q4 h2 q2;subst this;exact hj i (hmm _ _ q3)
 have hB2:∀ b,Bd ρ2 B0 b→Bd ρ' Bc b:=by
  rintro b (hb | ⟨j,u,q1,q2⟩)
  ·refine Or.inl ?_
   rw [hBc];refine ⟨Or.inl hb,fun hL=>?_⟩;obtain ⟨h1,h2⟩:=hcr.b0 b hb;rcases (hLo b hL).1 with h3 | h3
   ·omega
   ·exact h2 h3
  ·rcases hcase j with ⟨i,hi⟩ | hj
   ·exact Or.inr ⟨i,u,(Gj i j hi).symm.trans q1,q2⟩
   ·rw [h2b j hj] at q1
    refine Or.inl ?_;rw [hBc];exact ⟨Or.inr ⟨j,u,q1,q2⟩,Tc j u b hj q1 q2⟩
 have hB3:∀ b,b < w.heap.size→Bd ρ2 B0 b→Bd ρ B0 b:=by
  intro b hlt hb
  rcases hB2 b hb with h1 | ⟨i,u,q1,q2⟩
  ·rw [hBc] at h1;exact h1.1
  ·obtain ⟨ob,_,ho⟩:=hc'.obj i u q1
   rcases (ho.blk b q2).1 with h1 | h1
   ·exact absurd h1 (Nat.not_le_of_lt hlt)
   ·exact hLB b h1
 refine ⟨v,ρ2,r,hp',rfl,hq,?_,fun av u q3=>?_,fun i j hi hj=>?_,h2b,?_⟩
 ·refine ⟨hcr.bel.put hc'.bel.os hc'.bel.tape hc'.bel.output hc'.bel.size (g:=uM ρc) (fun b hL=>(hLo b hL).1) (fun b hb hL=>hc'.bel.blk b hb hL),hcr.b0,fun j u hu=>?_,fun j j' u u' b h1 h2 h3 h4=>?_⟩
  ·rcases hcase j with ⟨i,hi⟩ | hj
   ·rw [Gj i j hi] at hu
    obtain ⟨ob,q1,q2⟩:=hc'.obj i u hu;exact ⟨ob,by rw [Tz hm hi,q1],OR.back (w0:=⟨w,uM ρc⟩) hcr.bel.size (fun b _ hb=>hB2 b hb) (fun b hb=>hb.elim (fun h=>Or.inl (acS hcr.bel.size h)) (fun h=>(hLo b h).1)) q2⟩
   ·rw [h2b j hj] at hu
    obtain ⟨ob,q1,q2⟩:=hcr.obj j u hu;exact ⟨ob,by rw [Fa hj];exact q1,q2.mv hK hB3 (fun b hb=>hc'.bel.blk b (q2.blk b hb).2 (Tc j u b hj hu hb))⟩
  ·have mix:∀ i j j' u u',lk (mn ++m) i=some j→(∀ i,lk (mn ++m) i≠some j')→ρ' i=some u→ρ j'=some u'→jd u=some b→jd u'=some b→False:=by
    intro i j j' u u' hi hj q1 q2 q3 q4;obtain ⟨ob,_,ho⟩:=hc'.obj i u q1;obtain ⟨ob',_,dX⟩:=hcr.obj j' u' q2
    rcases (ho.blk b q3).1 with h5 | h5
    ·exact absurd h5 (Nat.not_le_of_lt (dX.blk b q4).2)
    ·exact Tc j' u' b hj q2 q4 h5
   rcases hcase j with ⟨i,hi⟩ | hj <;> rcases hcase j' with ⟨i',hi'⟩ | hj'
   ·rw [Gj i j hi] at h1
    rw [Gj i' j' hi'] at h2;have:=hc'.dist i i' u u' b h1 h2 h3 h4;subst this;rw [hi] at hi';cases hi';rfl
   ·rw [Gj i j hi] at h1
    rw [h2b j' hj'] at h2;exact (mix i j j' u u' hi hj' h1 h2 h3 h4).elim
   ·rw [h2b j hj] at h1
    rw [Gj i' j' hi'] at h2;exact (mix i' j' j u' u hi' hj h2 h1 h4 h3).elim
   ·rw [h2b j hj] at h1
    rw [h2b j' hj'] at h2;exact hcr.dist j j' u u' b h1 h2 h3 h4
 ·unfold DJ
  cases hi:tZ av with
  | none=>exact AR.mv hK hB3 (fun k hk=>by rw [Lr hk] at hi;cases hi) q3
  | some j=>
   simp only;cases hkk:ks.any fun k=>Nat.beq k j with
   | true=>
    rw [cond_true];cases hww:kw.any fun k=>Nat.beq k j with
    | true=>
     obtain ⟨i,q4,q5⟩:=hkw.get _ (ajI hww);obtain ⟨y,hy⟩:=hal' i q5;exact ⟨y,(Gj i j (hmm _ _ q4)).trans hy⟩
    | false=>trivial
   | false=>
    rw [cond_false];refine AR.mv hK hB3 (fun k hk=>?_) q3;rw [Lr hk] at hi;cases hi
    obtain ⟨y,hy⟩:=rP (Lr hk) q3;obtain ⟨ob,q4,q5⟩:=hcr.obj j y hy;rcases hcase j with ⟨i,hi⟩ | hj
    ·rcases hm2 i j hi with q6 | q6
     ·rw [q6] at q4;cases q4
     ·rcases hks.get _ (kK q6) with q7 | ⟨x,b,q7,q8,q9⟩
      ·simp only at q7;rw [hkk] at q7;cases q7
      ·simp only at q7 q8 q9
       rw [q7] at q4;cases q4
       obtain ⟨d,q10⟩:=q9 r hp' hq;obtain ⟨z,hz⟩:=hal' i q8;obtain ⟨ob2,q11,q12⟩:=hc'.obj i z hz;rw [q10] at q11;cases q11
       rw [Gj i j hi,hz,hy,q12.1,q5.1]
    ·exact h2b j hj
 ·obtain ⟨y,hy⟩:=hal' i hi
  exact ⟨y,(Gj i j hj).trans hy⟩
 ·have hK0:ku (Bd ρ' Bc) w' w':=⟨abJ _,fun _ _ _=>rfl⟩
  cases r with
  | d x=>exact DR.mv hK0 (fun b _ hb=>hB2 b hb) hv
  | ji xs=>obtain ⟨cs,q1,q2⟩:=hv;exact ⟨cs,q1,q2.mv hK0 (fun b _ hb=>hB2 b hb)⟩
  | ptr i off=>
   simp only [AV.rn];split
   ·rename_i j hj;obtain ⟨g,q1,q2⟩:=hv;exact ⟨g,(Gj i j hj).trans q1,q2⟩
   ·trivial
  | own i=>
   simp only [AV.rn];split
   ·rename_i j hj;obtain ⟨q1,q2⟩:=hv;exact ⟨(Gj i j hj).trans q1,q2⟩
   ·trivial
  | qL i xs=>
   simp only [AV.rn];split
   ·rename_i j hj;obtain ⟨g,q1,cs,q2,q3⟩:=hv;exact ⟨g,(Gj i j hj).trans q1,cs,q2,q3.mv hK0 (fun b _ hb=>hB2 b hb)⟩
   ·trivial
  | _=>trivial
section
variable {P:Program} {o:Oper} {s:AS}
theorem Ac{op:Op}{c:Call}(hc:iw op=some c):op= .call c:=by
 unfold iw at hc;split at hc
 ·cases hc;rfl
 ·cases hc
theorem aa3{c:Call}{f:FuncId}{ρ:kL}{B:BS}{w:World}{a:Act}(hs:fD ρ B w s.sl a)(hc:iw o.op=some c)(hf:ZL c.callee=some f)(hen:∀ vs w,(callFunc f vs).run P w= .ok (.enter f vs) w):(execOp a.eval o).run P w= .ok (.enter f (c.args.toList.map a.eval).toArray) w:=by
 have hop:=Ac hc;have hf2:=E5 (s:=s) hf;unfold J9 at hf2;split at hf2
 ·rename_i x uP
  split at hf2
  ·rename_i f' n caps hx
   obtain ⟨vs,hxe,hsz,hj⟩:=(bQ hs hx:dY _ _ _ _);simp only [Option.some.injEq,Prod.mk.injEq] at hf2;obtain ⟨rfl,hn0⟩:=hf2;cases n with
   | succ n=>simp [KL] at hn0
   | zero=>
    have:vs=#[]:=Array.eq_empty_of_size_eq_zero hsz;subst this;unfold execOp;rw [hop];simp only [resolve,uP,Deferred.ofValue,hxe,Sem.run_bind,Sem.run_pure,Result.andThen_ok,invoke,hen];congr 2;rw [← Array.toList_inj];simp
  ·cases hf2
 ·cases hf2
end
/-- A CALL THAT IS LENT OBJECTS: m says which of the caller's they are, mn what the callee's new ones are called, ks whose blocks may have moved, kw which of these are there behind it. -/
theorem nZ{P:Program}{ops:Array Oper}{Qx:Qs}{o:Oper}{l:List Oper}{s:AS}{c:Call}{f:FuncId}{args:List AV}{hp:List (Nat×AO)}{wi wo:List Nat}{Q:AV→List (Nat×AO)→Prop}(h:fZ P f args hp wi wo Q)(m mn:List (Nat×Nat))(ks kw:List Nat)(nw:List (Nat×Nat×Nat)) 
  (hc:iw o.op=some c) (hf:ZL c.callee=some f) (ha:vH m s c.args.toList args)
  (hob:lM (fun p=>∃ ob' ob,lk s.hp p.2=some ob'∧lk hp p.1=some ob∧AO.le ob' ob∧ob.aaw=true) m)
  (hmn:lM (fun p=>lk s.hp p.2=none∧lk m p.1=none) mn)
  (hwi:lM (fun i=>∃ j t av,lk m i=some j∧lk s.sl t=some av∧tZ av=some j) wi)
  (hks:lM (fun p=>(ks.any fun k=>Nat.beq k p.2)=true∨∃ x b,lk s.hp p.2=some (.is x b)∧p.1∈wo∧∀ r hp',Q r hp'→∃ d,lk hp' p.1=some (.is x d)) m)
  (hkw:lM (fun j=>∃ i,lk m i=some j∧i∈wo) kw)
  (hnw:lM (fun p=>Nat.ble (p.1+1) s.n=true∧p.2.1∈wo∧lk (mn ++m) p.2.1=some p.2.2) nw)
  (k:∀ r hp',Q r hp'→AL P ops Qx l (AS.put ⟨s.n,nwS nw ++zx ks kw s.sl,VF (mn ++m) hp' ++s.hp⟩ o.dst (r.rn (mn ++m))))
  (hm:Ti (mn ++m)=true:=by rfl) (hg:jC ops s o=some true:=by rfl) (hd:kG o.dst s.n=true:=by rfl):AL P ops Qx (o ::l) s:=by
 rintro B0 w0 a w ⟨ρ,hcr,hn,hdf,hs⟩;refine JK (dZ hg hs) (aa3 hs hc hf h.en) ((ZW h m mn ks kw hob hmn hks hkw hm hcr (fun i hi=>?_) (fun ρc Bc hB hρ=>vH.ok hs hB hρ ha)).mono ?_)
 ·obtain ⟨j,t,av,h1,h2,h3⟩:=hwi.get _ hi
  obtain ⟨u,_,h4⟩:=hs t av h2;obtain ⟨v,h5⟩:=rP h3 h4;exact ⟨j,v,h1,h5⟩
 rintro e w' ⟨v,ρ2,r,hp',rfl,hq,hcore,har,hal',_,hv'⟩;refine ⟨v,rfl,k r hp' hq B0 w0 _ w' ?_⟩;have fQ:fD ρ2 (Bd ρ2 B0) w' (nwS nw ++zx ks kw s.sl) a:=by
  intro t av ht;rw [uY] at ht;cases hnq:lk (nwS nw) t with
  | some kV=>
   rw [hnq] at ht;cases ht
   obtain ⟨p,hp1,hp2⟩:=List.mem_map.1 (kK hnq);obtain ⟨q1,q2,q3⟩:=hnw.get _ hp1;cases hp2
   have hlt:p.1 < a.tmps.size:=by rw [hn];exact ada q1
   exact ⟨a.tmps[p.1],Array.getElem?_eq_getElem hlt,hal' _ _ q2 q3⟩
  | none=>
  rw [hnq] at ht;obtain ⟨kV,q1,rfl⟩:=Jc ht;obtain ⟨u,q2,q3⟩:=hs t kV q1;exact ⟨u,q2,har _ _ q3⟩
 exact ni (s:=⟨s.n,nwS nw ++zx ks kw s.sl,VF (mn ++m) hp' ++s.hp⟩) hcore hn hdf fQ hd hv'
/-! ### Names, witnesses, nil -/
section
variable {P:Program} {ops:Array Oper} {Q:Qs} {l:List Oper} {s:AS} {o:Oper}
theorem eY.name{ρ:kL}{B0:BS}{w0:Wz}{w:World}{hp:List (Nat×AO)}{id:Nat}{ob:AO}(hc:eY ρ B0 w0 w hp)(h:lk hp id=some ob):∃ x,eY ρ B0 w0 w ((id,.is x ob) ::hp):=by
 cases hρ:ρ id with
 | none=>exact ⟨undef,hc.bel,hc.b0,fun j v hj=>by
   obtain ⟨ob',q1,q2⟩:=hc.obj j v hj;have hne:id≠j:=fun e=>by subst e;rw [hρ] at hj;cases hj
   exact ⟨ob',by rw [aV,if_neg hne];exact q1,q2⟩,hc.dist⟩
 | some x=>exact ⟨x,hc.bel,hc.b0,fun j v hj=>by
   obtain ⟨ob',q1,q2⟩:=hc.obj j v hj
   by_cases e:id=j
   ·subst e
    rw [h] at q1;cases q1
    rw [hρ] at hj;cases hj
    exact ⟨.is x ob,by rw [aV,if_pos rfl],rfl,q2⟩
   ·exact ⟨ob',by rw [aV,if_neg e];exact q1,q2⟩,hc.dist⟩
/-- An object gets a name. -/
theorem cNm{c:Code}(id:Nat){ob:AO}(h:lk s.hp id=some ob)(k:∀ x,AW P c Q ⟨s.n,s.sl,(id,.is x ob) ::s.hp⟩):AW P c Q s:=by
 rintro B0 w0 a w ⟨ρ,hc,hn,hdf,hs⟩;obtain ⟨x,hx⟩:=hc.name h;exact k x B0 w0 a w ⟨ρ,hx,hn,hdf,hs⟩
theorem mNm(id:Nat){ob:AO}(h:lk s.hp id=some ob)(k:∀ x,AL P ops Q l ⟨s.n,s.sl,(id,.is x ob) ::s.hp⟩):AL P ops Q l s:=by
 rintro B0 w0 a w ⟨ρ,hc,hn,hdf,hs⟩;obtain ⟨x,hx⟩:=hc.name h;exact k x B0 w0 a w ⟨ρ,hx,hn,hdf,hs⟩
/-- A value that has an object's name is that object. -/
theorem kR(t tw id:Nat){av:AV}{x:Value}{ob:AO}(h1:lk s.sl t=some (.d (.one (.v x))))(hw:lk s.sl tw=some av)(hi:tZ av=some id)(h2:lk s.hp id=some (.is x ob)):Wk s ⟨s.n,(t,ob.un.av id) ::s.sl,s.hp⟩:=by
 rintro B0 w0 a w ⟨ρ,hc,hn,hdf,hs⟩;obtain ⟨v,hv,e,_⟩:=hs t _ h1;subst e;obtain ⟨u,_,hu⟩:=hs tw _ hw;obtain ⟨y,hy⟩:=rP hi hu;obtain ⟨ob',q1,q2⟩:=hc.obj id y hy;rw [h2] at q1;cases q1
 obtain ⟨e,q2⟩:=q2;subst e;exact ⟨ρ,hc,hn,hdf,pY hs hv (AO.CV q2.un hy)⟩
/-- A pointer to an object passes. -/
theorem cu{x:Operand}{id off:Nat}(hop:o.op= .nilCheck x)(hx:dH s x=some (.ptr id off)):EvX P s o (.ptr id off):=by
 intro ρ B w a ho;obtain ⟨g,h1,e1⟩:AR ρ B w (.ptr id off) (a.eval x):=ho x (by rw [hop];simp [Op.operands]) _ hx;refine ⟨_,?_,g,h1,rfl⟩;unfold execOp;rw [hop];simp only [e1];rfl
/-- An array's element. -/
theorem Q9{t elem:TypeId}{te:TI}{len i:Nat}{x ix:Operand}{ls:List Lf}{k:IntKind}{d:DV}(hop:o.op= .index t x ix)(hu:P.underlying t=some (.array len elem))(hte:gZ P elem=some te)(hx:dH s x=some (.d (.agg ls)))(hi:dH s ix=some (.d (.one (.v (.int k ((i:Nat):Int))))))(hlt:i < len)(hp:D5 te ls (i*te.n)=some d):EvX P s o (.d d):=by
 intro ρ B w a ho;obtain ⟨cs,hxe,hl⟩:DR B w (.agg ls) (a.eval x):=ho x (by rw [hop];simp [Op.operands]) _ hx;have hie:a.eval ix= .int k ((i:Nat):Int):=(ho ix (by rw [hop];simp [Op.operands]) _ hi:dY _ _ _ _).1;obtain ⟨v,hr,hv⟩:=Qv (P:=P) hte hp hl;obtain ⟨inf,z,dd,h1,h2,h3,h4,_⟩:=cZ hte;refine ⟨v,?_,hv⟩;unfold execOp;rw [hop];refine dJ ?_;rw [hxe,hie];have hz:0≤((i:Nat):Int)∧((i:Nat):Int) < (len:Int):=⟨by omega,by omega⟩;simp only [Instr.index,asIntOf,Sem.run_bind,Sem.run_pure,Result.andThen_ok,run_underlying hu,sizeOf,typeInfo,run_program,h1,h4];rw [if_pos hz];simpa [h1,h4] using hr
theorem Jz{P:Program}(w:World)(d:Nat)(t e:TypeId)(a:Addr)(hu:P.underlying t=some (.pointer e)):(Op.equalIn (d+1) t (.pointer (some a)) (.pointer none)).run P w= .ok false w:=by
 simp [Op.equalIn,run_underlying hu]
theorem Oo{P:Program}(w:World)(t e:TypeId)(a:Addr)(hu:P.underlying t=some (.pointer e)):(Op.equal t (.pointer (some a)) (.pointer none)).run P w= .ok false w:=Jz w 9999 t e a hu
/-- A pointer to an object is not nil. -/
theorem xPn{x y:Operand}{op:BinOp}{t e:TypeId}{yt:TypeId}{id off:Nat}(b:Bool)(hop:o.op= .binOp op t x y yt)(hb:(op= .eql∧b=false)∨(op= .neq∧b=true))(hu:P.underlying t=some (.pointer e))(hx:dH s x=some (.ptr id off))(hy:dH s y=some (.d (.one (.v (.pointer none))))):EvX P s o (.d (.one (.v (.bool b)))):=by
 intro ρ B w a ho;obtain ⟨g,h1,e1⟩:AR ρ B w (.ptr id off) (a.eval x):=ho x (by rw [hop];simp [Op.operands]) _ hx;have e2:a.eval y= .pointer none:=(ho y (by rw [hop];simp [Op.operands]) _ hy:dY _ _ _ _).1;refine ⟨.bool b,?_,rfl,rfl⟩;unfold execOp;rw [hop];refine dJ ?_;rw [e1,e2];have hg:(eqGuard op t x y (.pointer (some ⟨g,off,none⟩)) (.pointer none)).run P w= .ok () w:=by cases op <;> rfl
 rw [Sem.run_bind,hg,Result.andThen_ok];rcases hb with ⟨rfl,rfl⟩ | ⟨rfl,rfl⟩ <;> simp [binOp,Oo w t e _ hu]
end
/-! ### Signs -/
def fC(x:Rat):Int:=if x < 0 then -1 else if 0 < x then 1 else 0
theorem jh{x:Rat}(h:x < 0):fC x= -1:=if_pos h
theorem iG{x:Rat}(h:0 < x):fC x=1:=by unfold fC;rw [if_neg (by grind),if_pos h]
theorem tC:fC 0=0:=by decide
theorem eH(x:Rat):(x < 0∧fC x= -1)∨(x=0∧fC x=0)∨(0 < x∧fC x=1):=by
 by_cases h:x < 0
 ·exact Or.inl ⟨h,jh h⟩
 ·by_cases h2:0 < x
  ·exact Or.inr (Or.inr ⟨h2,iG h2⟩)
  ·have:x=0:=by grind
   subst this;exact Or.inr (Or.inl ⟨rfl,tC⟩)
theorem fP{x:Rat}:fC x=0↔x=0:=by rcases eH x with ⟨h,e⟩ | ⟨h,e⟩ | ⟨h,e⟩ <;> rw [e] <;> constructor <;> intro h' <;> grind
theorem Ee(x y:Rat):fC (x*y)=fC x*fC y:=by
 rcases eH x with ⟨h,e⟩ | ⟨h,e⟩ | ⟨h,e⟩ <;> rcases eH y with ⟨k,f⟩ | ⟨k,f⟩ | ⟨k,f⟩ <;> rw [e,f]
 ·have:0 < x*y:=by have:=ae5 (a:= -x) (b:= -y) (by grind) (by grind);grind
  rw [iG this];rfl
 ·rw [k,Rat.mul_zero,tC];rfl
 ·have:x*y < 0:=by have:=ae5 (a:= -x) (b:=y) (by grind) (by grind);grind
  rw [jh this];rfl
 ·rw [h,Rat.zero_mul,tC];rfl
 ·rw [h,Rat.zero_mul,tC];rfl
 ·rw [h,Rat.zero_mul,tC];rfl
 ·have:x*y < 0:=by have:=ae5 (a:=x) (b:= -y) (by grind) (by grind);grind
  rw [jh this];rfl
 ·rw [k,Rat.mul_zero,tC];rfl
 ·rw [iG (Rat.mul_pos h k)];rfl
/-- How often signs turn, noughts left out. -/
def Cb(last:Int):List Int→Nat
 | []=>0
 | s ::l=>if s=0 then Cb last l else (if last= -s then 1 else 0)+Cb s l
def vr(l:List Int):Nat:=Cb 0 l
/-- Two rows of signs behind a sign that both have. -/
inductive XC:Int→List Int→List Int→Prop
 | nil (s:Int):XC s [] []
 | good {s a:Int} {l m:List Int} (h:a=1∨a= -1) (k:XC a l m):XC s (a ::l) (a ::m)
 | bad {s a b:Int} {l m:List Int} (h:a=1∨a= -1∨a=0) (h':b=1∨b= -1∨b=0) (k:XC (-s) l m):XC s (a :: -s ::l) (b :: -s ::m)
theorem XC.vr{s:Int}{l m:List Int}(h:XC s l m):(s=1∨s= -1)→Cb s l=Cb s m:=by
 induction h with
 | nil s=>intro _;rfl
 | good h k ih=>
  intro _;rename_i a l m _;have ha:a≠0:=by omega
  simp only [Cb,if_neg ha,ih h]
 | @bad s a b l m h h' k ih=>
  intro hs;have e:=ih (by omega);have key:∀ c:Int,c=1∨c= -1∨c=0→∀ q,Cb s (c :: -s ::q)=1+Cb (-s) q:=by
   intro c hc q;show (if c=0 then Cb s (-s ::q) else (if s= -c then 1 else 0)+Cb c (-s ::q))=_
   have g:∀ t:Int,Cb t (-s ::q)=(if t=s then 1 else 0)+Cb (-s) q:=by
    intro t;show (if -s=0 then _ else (if t= - -s then 1 else 0)+Cb (-s) q)=_
    rw [if_neg (by omega),Int.neg_neg]
   rw [g,g];rcases hs with rfl | rfl <;> rcases hc with rfl | rfl | rfl <;> simp
  rw [key a h,key b h',e]
abbrev Fn:=Rat→Rat
def Xd(l:List Fn)(x:Rat):List Int:=l.map fun f=>fC (f x)
/-- As great as m, above or below 0. -/
def oQ(x m:Rat):Prop:=m≤x∨x≤-m
/-- Within [-B, B]. -/
def In(B x:Rat):Prop:= -B≤x∧x≤B
def RD(B:Rat)(f:Fn)(L:Rat):Prop:=∀ x y,In B x→In B y→x≤y→f y-f x≤L*(y-x)∧f x-f y≤L*(y-x)
/-- One sign on a cell. -/
def Gd(f:Fn)(x y:Rat):Prop:=fC (f x)≠0∧(∀ t,x≤t→t≤y→fC (f t)=fC (f x))∧∃ e,0 < e∧∀ t,x≤t→t≤y→oQ (f t) e
theorem wP{x:Rat}(h:fC x≠0):fC x=1∨fC x= -1:=by rcases eH x with ⟨_,e⟩ | ⟨_,e⟩ | ⟨_,e⟩ <;> omega
theorem TS(x:Rat):fC x=1∨fC x= -1∨fC x=0:=by rcases eH x with ⟨_,e⟩ | ⟨_,e⟩ | ⟨_,e⟩ <;> omega
theorem KY{B L m:Rat}{f:Fn}{x y:Rat}(hl:RD B f L)(hL:0≤L)(hx:In B x)(hy:In B y)(hm:0 < m)(hd:L*(y-x) < m)(hf:oQ (f x) m):Gd f x y:=by
 have key:∀ t,x≤t→t≤y→f t-f x < m∧f x-f t < m:=by
  intro t h1 h2;have:=hl x t hx ⟨by have:=hx.1;grind,by have:=hy.2;grind⟩ h1;have h3:L*(t-x)≤L*(y-x):=abK (by grind) hL;grind
 have key2:∀ t,x≤t→t≤y→f t-f x≤L*(y-x)∧f x-f t≤L*(y-x):=by
  intro t h1 h2;have:=hl x t hx ⟨by have:=hx.1;grind,by have:=hy.2;grind⟩ h1;have h3:L*(t-x)≤L*(y-x):=abK (by grind) hL;constructor <;> grind
 rcases hf with hf | hf
 ·have h0:fC (f x)=1:=iG (by grind)
  refine ⟨by rw [h0];decide,fun t h1 h2=>?_,m-L*(y-x),by grind,fun t h1 h2=>Or.inl (by have:=key2 t h1 h2;grind)⟩;rw [h0];exact iG (by have:=key t h1 h2;grind)
 ·have h0:fC (f x)= -1:=jh (by grind)
  refine ⟨by rw [h0];decide,fun t h1 h2=>?_,m-L*(y-x),by grind,fun t h1 h2=>Or.inr (by have:=key2 t h1 h2;grind)⟩;rw [h0];exact jh (by have:=key t h1 h2;grind)
/-- A chain: a, b and what follows. -/
def Chn(B:Rat):Fn→Fn→List Fn→Prop
 | _,b,[]=>∃ c,c≠0∧∀ x,b x=c
 | a,b,c ::l=>(∃ (Q:Fn) (M k:Rat),0≤M∧0 < k∧(∀ x,In B x→-M≤Q x∧Q x≤M)∧∀ x,a x=Q x*b x-k*c x)∧Chn B b c l
def RF(B L:Rat)(l:List Fn):Prop:=∀ f∈l,RD B f L
theorem aap{q b M m:Rat}(h1: -M≤q)(h2:q≤M)(h3: -m≤b)(h4:b≤m): -(M*m)≤q*b∧q*b≤M*m:=by
 have a1:=acQ (a:=M-q) (b:=m+b) (by grind) (by grind);have a2:=acQ (a:=M+q) (b:=m-b) (by grind) (by grind);have a3:=acQ (a:=M-q) (b:=m-b) (by grind) (by grind);have a4:=acQ (a:=M+q) (b:=m+b) (by grind) (by grind);constructor <;> grind
theorem gY{L m:Rat}(hL:0≤L)(hm:0 < m):∃ d,0 < d∧∀ z,0 < z→z < d→L*z < m:=by
 refine ⟨m / (L+1),?_,fun z hz h=>?_⟩
 ·rw [Rat.div_def];exact ae5 hm (Rat.inv_pos.2 (by grind))
 ·have h1:(m / (L+1))*(L+1)=m:=aij (by grind)
  have h2:z*(L+1) < (m / (L+1))*(L+1):=Rat.mul_lt_mul_of_pos_right h (by grind);grind
theorem kJ{a b:Rat}(ha:0 < a)(hb:0 < b):∃ d,0 < d∧d≤a∧d≤b:=by
 by_cases h:a≤b
 ·exact ⟨a,ha,by grind,h⟩
 ·exact ⟨b,hb,by grind,by grind⟩
theorem O8{B:Rat}:∀ (l:List Fn) (a b:Fn) (L:Rat),0≤L→RF B L (a ::b ::l)→Chn B a b l→∃ m d:Rat,0 < m∧0 < d∧(∀ x,In B x→oQ (a x) m∨oQ (b x) m)∧
  ∀ x y,In B x→In B y→x < y→y-x < d→(oQ (b x) m→Gd b x y∧XC (fC (b x)) (Xd l x) (Xd l y))∧(¬ oQ (b x) m→Gd a x y∧XC (fC (a x)) (Xd (b ::l) x) (Xd (b ::l) y))
 | [],a,b,L,hL,P5,⟨c,hc,hbc⟩=>by
  obtain ⟨m,hm,hf⟩:∃ m:Rat,0 < m∧oQ c m:=by
   by_cases h:0 < c
   ·exact ⟨c,h,Or.inl (by grind)⟩
   ·exact ⟨-c,by grind,Or.inr (by grind)⟩
  obtain ⟨d,hd,hsm⟩:=gY hL hm;refine ⟨m,d,hm,hd,fun x _=>Or.inr (by rw [hbc];exact hf),fun x y hx hy hxy h=>⟨fun hfb=>⟨KY (P5 b (by simp)) hL hx hy hm (hsm _ (by grind) h) hfb,.nil _⟩,fun hn=>absurd (by rw [hbc];exact hf) hn⟩⟩
 | c ::l,a,b,L,hL,P5,⟨⟨Q,M,k,hM,hk,hQ,hrel⟩,hch⟩=>by
  obtain ⟨m',d',hm',hd',Zv,hcell⟩:=O8 l b c L hL (fun f hf=>P5 f (ag3 _ hf)) hch;have hpos:0 < M+1+k:=by grind
  obtain ⟨m,hmd⟩:∃ m:Rat,m*(M+1+k)=m'*k:=⟨m'*k / (M+1+k),aij (by grind)⟩
  have hmk:=ae5 hm' hk;have hm:0 < m:=by
   by_cases h:0 < m
   ·exact h
   ·have:=acQ (a:= -m) (b:=M+1+k) (by grind) (by grind);grind
  have hle:m≤m':=by
   by_cases h:m' < m
   ·have h1:=ae5 (a:=m-m') (b:=M+1+k) (by grind) hpos
    have h2:=acQ (a:=m') (b:=M+1) (by grind) (by grind);grind
   ·grind
  have hMm:M*m+m < k*m':=by have:=ae5 hk hm;grind
  have hsmall:∀ x,In B x→¬ oQ (b x) m→oQ (c x) m'∧oQ (a x) m∧fC (c x)= - fC (a x):=by
   intro x hx hn;have hb: -m≤b x∧b x≤m:=by unfold oQ at hn;grind
   have hc:oQ (c x) m':=by
    rcases Zv x hx with h | h
    ·exfalso;apply hn;rcases h with h | h
     ·exact Or.inl (by grind)
     ·exact Or.inr (by grind)
    ·exact h
   have hq:=aap (hQ x hx).1 (hQ x hx).2 hb.1 hb.2;have ha:=hrel x;rcases hc with hc | hc
   ·have h1:k*m'≤k*c x:=abK hc (by grind)
    have h2:a x≤-m:=by grind
    exact ⟨Or.inl hc,Or.inr h2,by rw [iG (by grind),jh (by grind)];rfl⟩
   ·have h1:k*c x≤k*(-m'):=abK hc (by grind)
    have h2:m≤a x:=by grind
    exact ⟨Or.inr hc,Or.inl h2,by rw [jh (by grind),iG (by grind)]⟩
  obtain ⟨d1,hd1,hsm⟩:=gY hL hm;obtain ⟨d,hd,hle1,hle2⟩:=kJ hd1 hd';refine ⟨m,d,hm,hd,fun x hx=>?_,fun x y hx hy hxy h=>⟨fun hf=>?_,fun hn=>?_⟩⟩
  ·by_cases hf:oQ (b x) m
   ·exact Or.inr hf
   ·exact Or.inl (hsmall x hx hf).2.1
  ·have hg:=KY (P5 b (by simp)) hL hx hy hm (hsm _ (by grind) (by grind)) hf
   refine ⟨hg,?_⟩;obtain ⟨h1,h2⟩:=hcell x y hx hy hxy (by grind)
   by_cases hfc:oQ (c x) m'
   ·obtain ⟨hgc,hk⟩:=h1 hfc
    show XC _ (fC (c x) ::Xd l x) (fC (c y) ::Xd l y)
    rw [hgc.2.1 y (by grind) (by grind)];exact .good (wP hgc.1) hk
   ·exact (h2 hfc).2
  ·obtain ⟨hfc,hfa,hs⟩:=hsmall x hx hn
   obtain ⟨hgc,hk⟩:=(hcell x y hx hy hxy (by grind)).1 hfc;refine ⟨KY (P5 a (by simp)) hL hx hy hm (hsm _ (by grind) (by grind)) hfa,?_⟩;show XC _ (fC (b x) ::fC (c x) ::Xd l x) (fC (b y) ::fC (c y) ::Xd l y)
   rw [hgc.2.1 y (by grind) (by grind),hs];exact .bad (TS _) (TS _) (by rw [← hs];exact hk)
/-- STURM's CHAIN of f: g goes with its derivative; l follows. -/
structure JZ(f g:Fn)(l:List Fn):Prop where
 ch:∀ B,Chn B f g l
 lip:∀ B,∃ L,0≤L∧RF B L (f ::g ::l)
 AP:∃ d,0 < d∧∀ B,∃ E,0≤E∧∀ s t,In B s→In B t→s≤t→(f t-f s)-(t-s)*(d*g s)≤(t-s)*((t-s)*E)∧(t-s)*(d*g s)-(f t-f s)≤(t-s)*((t-s)*E)
def Vr(f g:Fn)(l:List Fn)(x:Rat):Nat:=vr (Xd (f ::g ::l) x)
/-- The sign just after x. -/
def yC(f g:Fn)(x:Rat):Int:=if fC (f x)=0 then fC (g x) else fC (f x)
theorem VR{s t:Int}{q:List Int}(ht:t=1∨t= -1)(hs:s=1∨s= -1∨s=0):vr (s ::t ::q)=(if s= -t then 1 else 0)+Cb t q:=by
 show (if s=0 then Cb 0 (t ::q) else (if (0:Int)= -s then 1 else 0)+Cb s (t ::q))=_
 have g:∀ u:Int,Cb u (t ::q)=(if u= -t then 1 else 0)+Cb t q:=by
  intro u;show (if t=0 then _ else (if u= -t then 1 else 0)+Cb t q)=_
  rw [if_neg (by omega)]
 rw [g,g];rcases ht with rfl | rfl <;> rcases hs with rfl | rfl | rfl <;> simp
theorem VT{s:Int}{q:List Int}(hs:s=1∨s= -1):vr (s ::q)=Cb s q:=by
 show (if s=0 then _ else (if (0:Int)= -s then 1 else 0)+Cb s q)=_
 rw [if_neg (by omega),if_neg (by omega),Nat.zero_add]
/-- WHAT A SHORT CELL IS LIKE. -/
def ai3(f g:Fn)(l:List Fn)(x y:Rat):Prop:=
 (Gd f x y∧Vr f g l x=Vr f g l y)∨
 ∃ τ:Int,(τ=1∨τ= -1)∧(∀ t,x≤t→t≤y→fC (g t)=τ)∧(∀ s t,x≤s→s < t→t≤y→fC (f t-f s)=τ)∧Vr f g l x+(if fC (f y)= -τ then 1 else 0)=Vr f g l y+(if fC (f x)= -τ then 1 else 0)
theorem tH{f g:Fn}{l:List Fn}(h:JZ f g l)(B:Rat):∃ δ:Rat,0 < δ∧(∀ x,In B x→yC f g x≠0)∧∀ x y,In B x→In B y→x < y→y-x < δ→ai3 f g l x y:=by
 obtain ⟨L,hL,P5⟩:=h.lip B;obtain ⟨d,hd,WI⟩:=h.AP;obtain ⟨E,hE,WI⟩:=WI B;obtain ⟨m,δ1,hm,hδ1,Zv,hcell⟩:=O8 l f g L hL P5 (h.ch B);obtain ⟨δ2,hδ2,hs2⟩:=gY (L:=L) (m:=m / 2) hL (by grind);have hdm:0 < d*(m / 2):=ae5 hd (by grind);obtain ⟨δ3,hδ3,hs3⟩:=gY (L:=E) (m:=d*(m / 2)) hE hdm;obtain ⟨δ4,hδ4,h41,h42⟩:=kJ hδ1 hδ2;obtain ⟨δ,hδ,h1,h2⟩:=kJ hδ4 hδ3;refine ⟨δ,hδ,fun x hx=>?_,fun x y hx hy hxy hlt=>?_⟩
 ·unfold yC
  split
  ·rename_i h0
   rcases Zv x hx with hf | hf
   ·rw [fP] at h0;rw [h0] at hf;rcases hf with hf | hf <;> grind
   ·intro h3;rw [fP] at h3;rw [h3] at hf;rcases hf with hf | hf <;> grind
  ·assumption
 ·obtain ⟨c1,c2⟩:=hcell x y hx hy hxy (by grind)
  by_cases hf:oQ (g x) m
  ·obtain ⟨hg,hk⟩:=c1 hf
   refine Or.inr ⟨fC (g x),wP hg.1,hg.2.1,fun s t hs hst ht=>?_,?_⟩
   ·have hsB:In B s:=⟨by have:=hx.1;grind,by have:=hy.2;grind⟩
    have U8:In B t:=⟨by have:=hx.1;grind,by have:=hy.2;grind⟩;obtain ⟨e1,e2⟩:=WI s t hsB U8 (by grind);have hE':E*(t-s) < d*(m / 2):=hs3 _ (by grind) (by grind);have hLs:L*(s-x)≤L*(y-x):=abK (by grind) hL;have hLy:L*(y-x) < m / 2:=hs2 _ (by grind) (by grind);obtain ⟨g1,g2⟩:=P5 g (by simp) x s hx hsB hs;rcases hf with hf | hf
    ·have hgs:m / 2≤g s:=by grind
     have hdg:d*(m / 2)≤d*g s:=abK hgs (by grind);have:=ae5 (a:=t-s) (b:=d*g s-(t-s)*E) (by grind) (by grind);rw [iG (x:=g x) (by grind)];exact iG (by grind)
    ·have hgs:g s≤-(m / 2):=by grind
     have hdg:d*g s≤d*(-(m / 2)):=abK hgs (by grind);have:=ae5 (a:=t-s) (b:= -(d*g s)-(t-s)*E) (by grind) (by grind);rw [jh (x:=g x) (by grind)];exact jh (by grind)
   ·have e:∀ z,Vr f g l z=vr (fC (f z) ::fC (g z) ::Xd l z):=fun _=>rfl
    rw [e x,e y,hg.2.1 y (by grind) (by grind),VR (wP hg.1) (TS _),VR (wP hg.1) (TS _),hk.vr (wP hg.1)];omega
  ·obtain ⟨hg,hk⟩:=c2 hf
   refine Or.inl ⟨hg,?_⟩;have e:∀ z,Vr f g l z=vr (fC (f z) ::Xd (g ::l) z):=fun _=>rfl
   rw [e x,e y,hg.2.1 y (by grind) (by grind),VT (wP hg.1),VT (wP hg.1),hk.vr (wP hg.1)]
/-! ### Any interval -/
def m1(n:Nat)(s:Int):Int:=if n%2=0 then s else -s
theorem ahK(n m:Nat)(s:Int):m1 (n+m) s=m1 m (m1 n s):=by unfold m1;(repeat' split) <;> omega
/-- WHAT THE COUNT SAYS of an interval. -/
structure RG(f g:Fn)(l:List Fn)(a b:Rat)(N:Nat):Prop where
 v:Vr f g l a=Vr f g l b+N
 par:yC f g b=m1 N (yC f g a)
 nil:N=0↔∀ t,a < t→t≤b→fC (f t)=yC f g a
 mon:∀ τ:Int,(τ=1∨τ= -1)→(∀ t,a≤t→t≤b→fC (g t)=τ)→Vr f g l a+(if fC (f b)= -τ then 1 else 0)=Vr f g l b+(if fC (f a)= -τ then 1 else 0)
theorem yK{f g:Fn}{x:Rat}(h:fC (f x)≠0):yC f g x=fC (f x):=if_neg h
theorem MJ{f g:Fn}{x:Rat}(h:fC (f x)=0):yC f g x=fC (g x):=if_pos h
theorem zD{f g:Fn}{l:List Fn}{x y:Rat}(hxy:x < y)(h:ai3 f g l x y):∃ N,N≤1∧RG f g l x y N:=by
 rcases h with ⟨⟨h0,hg,_⟩,hv⟩ | ⟨τ,hτ,hg,hm,hv⟩
 ·have hy:=hg y (by grind) (by grind)
  have ax:=yK (g:=g) h0;have ay:=yK (g:=g) (x:=y) (f:=f) (by rw [hy];exact h0);refine ⟨0,by omega,⟨by omega,by rw [ax,ay,hy];rfl,⟨fun _ t h1 h2=>by rw [ax];exact hg t (by grind) h2,fun _=>rfl⟩,fun τ _ _=>by rw [hv,hy]⟩⟩
 ·have gx:=hg x (by grind) (by grind)
  have gy:=hg y (by grind) (by grind);have hmy:=hm x y (by grind) hxy (by grind);have mon:∀ τ':Int,(τ'=1∨τ'= -1)→(∀ t,x≤t→t≤y→fC (g t)=τ')→Vr f g l x+(if fC (f y)= -τ' then 1 else 0)=Vr f g l y+(if fC (f x)= -τ' then 1 else 0):=by
   intro τ' _ h;have:τ'=τ:=(h x (by grind) (by grind)).symm.trans gx;rw [this];exact hv
  have Yt:∀ s t,x≤s→s < t→t≤y→fC (f s)≠-τ→fC (f t)=τ:=by
   intro s t h1 h2 h3 h4;have h5:=hm s t h1 h2 h3
   rcases hτ with rfl | rfl
   ·rcases eH (f t-f s) with ⟨k,e⟩ | ⟨k,e⟩ | ⟨k,e⟩ <;> rw [e] at h5 <;> try omega
    rcases eH (f s) with ⟨k2,e2⟩ | ⟨k2,e2⟩ | ⟨k2,e2⟩
    ·exact absurd e2 h4
    ·exact iG (by grind)
    ·exact iG (by grind)
   ·rcases eH (f t-f s) with ⟨k,e⟩ | ⟨k,e⟩ | ⟨k,e⟩ <;> rw [e] at h5 <;> try omega
    rcases eH (f s) with ⟨k2,e2⟩ | ⟨k2,e2⟩ | ⟨k2,e2⟩
    ·exact jh (by grind)
    ·exact jh (by grind)
    ·exact absurd e2 h4
  have fall:∀ t,x≤t→t < y→fC (f y)= -τ→fC (f t)= -τ:=by
   intro t h1 h2 h3
   by_cases h4:fC (f t)= -τ
   ·exact h4
   ·have:=Yt t y h1 h2 (by grind) h4;omega
  by_cases hs0:fC (f x)= -τ
  ·have ax:yC f g x= -τ:=by rw [yK (by omega),hs0]
   by_cases ht0:fC (f y)= -τ
   ·have ay:yC f g y= -τ:=by rw [yK (by omega),ht0]
    refine ⟨0,by omega,⟨by rw [if_pos ht0,if_pos hs0] at hv;omega,by rw [ax,ay];rfl,⟨fun _ t h1 h2=>?_,fun _=>rfl⟩,mon⟩⟩;rw [ax]
    by_cases hty:t=y
    ·rw [hty];exact ht0
    ·exact fall t (by grind) (by grind) ht0
   ·have ay:yC f g y=τ:=by
     unfold yC;split
     ·exact gy
     ·have:=TS (f y);omega
    refine ⟨1,by omega,⟨by rw [if_neg ht0,if_pos hs0] at hv;omega,by rw [ax,ay];unfold m1;simp,⟨fun h=>absurd h (by omega),fun h=>?_⟩,mon⟩⟩;exact absurd ((h y hxy (by grind)).trans ax) ht0
  ·have ht:fC (f y)=τ:=Yt x y (by grind) hxy (by grind) hs0
   have ax:yC f g x=τ:=by
    unfold yC;split
    ·exact gx
    ·have:=TS (f x);omega
   have ay:yC f g y=τ:=by rw [yK (by omega),ht]
   refine ⟨0,by omega,⟨by rw [if_neg (by omega),if_neg hs0] at hv;omega,by rw [ax,ay];rfl,⟨fun _ t h1 h2=>by rw [ax];exact Yt x t (by grind) h1 h2 hs0,fun _=>rfl⟩,mon⟩⟩
theorem Qu{f g:Fn}{l:List Fn}(a:Rat):RG f g l a a 0:=⟨rfl,rfl,⟨fun _ t h1 h2=>by grind,fun _=>rfl⟩,fun _ _ _=>rfl⟩
theorem Vq{f g:Fn}{l:List Fn}{a m b:Rat}{N M:Nat}(ham:a≤m)(hmb:m≤b)(h:RG f g l a m N)(k:RG f g l m b M):RG f g l a b (N+M):=by
 refine ⟨by have:=h.v;have:=k.v;omega,by rw [k.par,h.par,ahK],⟨fun e t h1 h2=>?_,fun e=>?_⟩,fun τ hτ hg=>?_⟩
 ·obtain ⟨rfl,rfl⟩:N=0∧M=0:=by omega
  by_cases htm:t≤m
  ·exact h.nil.1 rfl t h1 htm
  ·rw [k.nil.1 rfl t (by grind) h2,h.par];rfl
 ·have hN:N=0:=h.nil.2 fun t h1 h2=>e t h1 (by grind)
  subst hN;have ha:yC f g m=yC f g a:=h.par;have hM:M=0:=k.nil.2 fun t h1 h2=>by rw [ha];exact e t (by grind) h2
  omega
 ·have h1:=h.mon τ hτ fun t a1 a2=>hg t a1 (by grind)
  have h2:=k.mon τ hτ fun t a1 a2=>hg t (by grind) a2
  omega
theorem Iu{r d:Rat}(hd:0 < d):∃ n:Nat,r≤(n:Rat)*d:=by
 refine ⟨((r / d).num.toNat),?_⟩;have h1:r / d≤(((r / d).num.toNat:Nat):Rat):=by
  rw [Rat.le_iff,Rat.num_natCast,Rat.den_natCast];have h0:=(r / d).den_pos;have h3:((r / d).num.toNat:Int)*1≤((r / d).num.toNat:Int)*((r / d).den:Int):=Int.mul_le_mul_of_nonneg_left (by omega) (by omega);omega
 have h2:(r / d)*d=r:=aij (by grind);have h3:=abS h1 (show (0:Rat)≤d by grind);grind
/-- STURM: on any interval the count says what it is to say. -/
theorem qU{f g:Fn}{l:List Fn}(h:JZ f g l){a b:Rat}(hab:a≤b):∃ N,RG f g l a b N:=by
 obtain ⟨B,hBa,hBb⟩:∃ B,In B a∧In B b:=by
  refine ⟨(if a < 0 then -a else a)+(if b < 0 then -b else b),?_,?_⟩ <;> (unfold In;constructor <;> (repeat' split) <;> grind)
 obtain ⟨δ,hδ,_,hcell⟩:=tH h B;obtain ⟨n,hn⟩:=Iu (r:=b-a) (d:=δ / 2) (by grind);have main:∀ n:Nat,∀ c,In B c→a≤c→c-a≤(n:Rat)*(δ / 2)→∃ N,RG f g l a c N:=by
  intro n
  induction n with
  | zero => intro c _ h1 h2; have : c = a := by have : ((0 : Nat) : Rat) = 0 := rfl; grind
            subst this; exact ⟨0, Qu _⟩
  | succ n ih=>
   intro c hc h1 h2;have e:((n+1:Nat):Rat)=(n:Rat)+1:=by exact_mod_cast rfl
   rw [e] at h2
   by_cases h3:c-a≤(n:Rat)*(δ / 2)
   ·exact ih c hc h1 h3
   ·by_cases h4:c-δ / 2≤a
    ·by_cases h5:a=c
     ·subst h5;exact ⟨0,Qu _⟩
     ·obtain ⟨N,_,hN⟩:=zD (by grind) (hcell a c hBa hc (by grind) (by grind))
      exact ⟨N,hN⟩
    ·have hm:In B (c-δ / 2):=⟨by have:=hBa.1;grind,by have:=hc.2;grind⟩
     obtain ⟨N,hN⟩:=ih (c-δ / 2) hm (by grind) (by grind);obtain ⟨M,_,hM⟩:=zD (by grind) (hcell (c-δ / 2) c hm hc (by grind) (by grind));exact ⟨N+M,Vq (by grind) (by grind) hN hM⟩
 exact main n b hBb hab hn
theorem eu{z:Int}(h1: -9223372036854775808≤z:=by omega)(h2:z≤9223372036854775807:=by omega):IntKind.i64.wrap z=z:=by
 simp [IntKind.wrap,IntKind.bits,IntKind.signed];omega
/-- Euclid's division by what it is. -/
theorem euc{x y q r:Int}(h:x=y*q+r)(h0:0≤r)(h1:r < y.natAbs):q=x / y∧r=x%y:=by
 have hy:y≠0:=by intro e;subst e;simp at h1;omega
 have hr:r=x%y:=by
  rw [h,Int.mul_add_emod_self_left];rcases Int.lt_or_gt_of_ne hy with h2 | h2
  ·rw [← Int.emod_neg];exact (Int.emod_eq_of_lt h0 (by omega)).symm
  ·exact (Int.emod_eq_of_lt h0 (by omega)).symm
 refine ⟨?_,hr⟩;have:=Int.mul_ediv_add_emod x y;rw [← hr] at this;have h2:y*(x / y)=y*q:=by omega
 exact (Int.eq_of_mul_eq_mul_left hy h2).symm
/-! ### Normal numbers, as asked for -/
def IsN(ls:List Lf)(K:Nat)(z:Int):Prop:=∀ B w cs,ig B w ls cs→ig B w (zn K z) cs
theorem isn(K:Nat)(z:Int):IsN (zn K z) K z:=fun _ _ _ h=>h
/-! ### Rows -/
theorem nN{sz n:Nat}{el Ws:Nat→Nat→Lf}(h:∀ i,i < n→∀ j,j < sz→∀ B w c,dY B w (el i j) c→dY B w (Ws i j) c):∀ B w c,dY B w (.row sz n el) c→dY B w (.row sz n Ws) c:=by
 rintro B w c ⟨a,cap,rfl,h1,h2,h3⟩;refine ⟨a,cap,rfl,h1,h2,fun i hi=>?_⟩;obtain ⟨b,off,e,hb,hl,hj⟩:=h3 i hi;exact ⟨b,off,e,hb,hl,fun j hjs=>let ⟨x,hx,hl⟩:=hj j hjs;⟨x,hx,h i hi j hjs _ _ _ hl⟩⟩
theorem gB{e:TypeId}{sz n:Nat}{el Ws:Nat→Nat→Lf}(h:∀ i,i < n→∀ j,j < sz→∀ B w c,dY B w (el i j) c→dY B w (Ws i j) c):AO.le (.row e sz n el) (.row e sz n Ws):=by
 rintro B w0 w v ⟨xs,h1,h2⟩;exact ⟨xs,h1,fun i j hi hj=>let ⟨x,hx,hl⟩:=h2 i j hi hj;⟨x,hx,h i hi j hj _ _ _ hl⟩⟩
/-- A row of whole numbers: normal; in any form. -/
def cO(K:Nat)(c:Nat→Int):Nat→Nat→Lf:=fun i j=>((zn K (c i))[j]?).getD (.v undef)
def qw(K:Nat)(f:Nat→Bool×List Nat):Nat→Nat→Lf:=fun i j=>(([.v (.bool (f i).1),lr K (f i).2]:List Lf)[j]?).getD (.v undef)
def iC(K n:Nat)(c:Nat→Int):Lf:= .row 2 n (cO K c)
def xA(K n:Nat)(f:Nat→Bool×List Nat):Lf:= .row 2 n (qw K f)
def Zc(f:Nat→Bool×List Nat)(i:Nat):Int:=zv (f i).1 (val (f i).2)
/-- What stands there is this row of numbers, whatever its form. -/
def qI(l:Lf)(K n:Nat)(c:Nat→Int):Prop:=(∃ f,(∀ B w v,dY B w l v→dY B w (xA K n f) v)∧∀ i,i < n→Zc f i=c i)∧∀ i,n≤i→c i=0
theorem vF{K n:Nat}{c:Nat→Int}(h:∀ i,n≤i→c i=0):qI (iC K n c) K n c:=
 ⟨⟨fun i=>(decide (c i < 0),dA (c i).natAbs),fun _ _ _ h=>h,fun i _=>by unfold Zc;simp only [];rw [aac];exact lZ _⟩,h⟩
theorem Uh{K L n:Nat}{c d:Nat→Int}(hk:K≤L)(h:∀ i,i < n→c i=d i):∀ i,i < n→∀ j,j < 2→∀ B w v,dY B w (cO K c i j) v→dY B w (cO L d i j) v:=by
 intro i hi j hj B w v hv;unfold cO at *
 rw [← h i hi]
 match j,hj with
 | 0,_=>exact hv
 | 1,_=>exact oM hk _ _ _ hv
theorem D9{K L n:Nat}{c d:Nat→Int}(hk:K≤L)(h:∀ i,i < n→c i=d i):∀ B w v,dY B w (iC K n c) v→dY B w (iC L n d) v:=nN (Uh hk h)
theorem qZ{K L n m:Nat}{c d:Nat→Int}(hk:K≤L)(e:n=m)(h:∀ i,i < n→c i=d i):AV.le (.d (.one (iC K n c))) (.d (.one (iC L m d))):=by subst e;exact gq (D9 hk h)
theorem Qg{e:TypeId}{K L n:Nat}{c d:Nat→Int}(hk:K≤L)(h:∀ i,i < n→c i=d i):AO.le (.row e 2 n (cO K c)) (.row e 2 n (cO L d)):=gB (Uh hk h)
theorem qI.mono{l:Lf}{K L n:Nat}{c:Nat→Int}(h:qI l K n c)(hk:K≤L):qI l L n c:=by
 obtain ⟨⟨f,h1,h2⟩,h3⟩:=h;refine ⟨⟨f,fun B w v hv=>nN ?_ _ _ _ (h1 B w v hv),h2⟩,h3⟩;intro i hi j hj B w v hv
 match j,hj with
 | 0,_=>exact hv
 | 1,_=>exact oM hk _ _ _ hv
/-- A row grows by one. -/
theorem Si{e:TypeId}{sz n m:Nat}{el el2 Ws:Nat→Nat→Lf}(hm:m=n+1)(h1:∀ i,i < n→∀ j,j < sz→∀ B w v,dY B w (el i j) v→dY B w (Ws i j) v)(h2:∀ j,j < sz→∀ B w v,dY B w (el2 0 j) v→dY B w (Ws n j) v):AO.le (.row e sz (n+1) (eU n el el2)) (.row e sz m Ws):=by
 subst hm;refine gB fun i hi j hj B w v hv=>?_
 unfold eU at hv
 by_cases hin:i < n
 ·rw [show Nat.ble (i+1) n=true from Nat.ble_eq_true_of_le hin] at hv
  exact h1 i hin j hj _ _ _ hv
 ·obtain rfl:i=n:=by omega
  rw [show Nat.ble (i+1) i=false from by rw [← Bool.not_eq_true];exact fun h=>by have:=Nat.le_of_ble_eq_true h;omega,Nat.sub_self] at hv;exact h2 j hj _ _ _ hv
theorem ajK{e:TypeId}{K L M n m:Nat}{z:Int}{c d:Nat→Int}{el2:Nat→Nat→Lf}(hm:m=n+1)(hK:K≤L)(hM:M≤L)(hz:z=d n)(hc:∀ i,i < n→c i=d i)(h0:el2 0 0= .v (.bool (decide (z < 0))):=by rfl)(h1:el2 0 1=ln M z.natAbs:=by rfl):AO.le (.row e 2 (n+1) (eU n (cO K c) el2)) (.row e 2 m (cO L d)):=by
 refine Si hm (Uh hK hc) fun j hj B w v hv=>?_
 unfold cO;rw [← hz]
 match j,hj with
 | 0,_=>rw [h0] at hv;exact hv
 | 1,_=>rw [h1] at hv;exact oM hM _ _ _ hv
/-! ### Rationals of the plain reckoning -/
def qn(K:Nat)(q:Rat):List Lf:=rn K q.num ++rn K (q.den:Int)
def Rz(ls:List Lf)(K:Nat)(q:Rat):Prop:=∀ B w cs,ig B w ls cs→ig B w (qn K q) cs
theorem l7(K:Nat)(q:Rat):Rz (qn K q) K q:=fun _ _ _ h=>h
theorem VD{K L:Nat}{q:Rat}(h:K≤L):∀ B w cs,ig B w (qn K q) cs→ig B w (qn L q) cs
 | B,w,[a,b,c,d],⟨h1,h2,h3,h4,h5⟩=>⟨lS h _ _ _ h1,h2,lS h _ _ _ h3,h4,h5⟩
theorem wI{K L:Nat}{z y:Rat}(h:K≤L)(e:z=y):AV.le (.d (.agg (qn K z))) (.d (.agg (qn L y))):=by subst e;exact oH (VD h)
theorem Tq{t:TypeId}{K L:Nat}{z y:Rat}(h:K≤L)(e:z=y):AO.le (.box t (qn K z)) (.box t (qn L y)):=by subst e;exact jf (VD h)
theorem uT{K L M:Nat}{n d:Int}{q:Rat}(h1:K≤M)(h2:L≤M)(e1:n=q.num)(e2:d=q.den):AV.le (.d (.agg (rn K n ++rn L d))) (.d (.agg (qn M q))):=by
 subst e1;subst e2;refine oH fun B w cs h=>?_
 match cs,h with
 | [a,b,c,d],⟨h1',h2',h3',h4',h5'⟩=>exact ⟨lS h1 _ _ _ h1',h2',lS h2 _ _ _ h3',h4',h5'⟩
def aJ(K:Nat)(c:Nat→Rat):Nat→Nat→Lf:=fun i j=>((qn K (c i))[j]?).getD (.v undef)
def dM(K n:Nat)(c:Nat→Rat):Lf:= .row 4 n (aJ K c)
theorem Og{K L n:Nat}{c d:Nat→Rat}(hk:K≤L)(h:∀ i,i < n→c i=d i):∀ i,i < n→∀ j,j < 4→∀ B w v,dY B w (aJ K c i j) v→dY B w (aJ L d i j) v:=by
 intro i hi j hj B w v hv;unfold aJ at *
 rw [← h i hi]
 match j,hj with
 | 0,_=>exact lS hk _ _ _ hv
 | 1,_=>exact hv
 | 2,_=>exact lS hk _ _ _ hv
 | 3,_=>exact hv
def F9(l:Lf)(K n:Nat)(c:Nat→Rat):Prop:=(∀ B w v,dY B w l v→dY B w (dM K n c) v)∧∀ i,n≤i→c i=0
theorem yE{K n:Nat}{c:Nat→Rat}(h:∀ i,n≤i→c i=0):F9 (dM K n c) K n c:=⟨fun _ _ _ h=>h,h⟩
theorem oK{K L n m:Nat}{c d:Nat→Rat}(hk:K≤L)(e:n=m)(h:∀ i,i < n→c i=d i):AV.le (.d (.one (dM K n c))) (.d (.one (dM L m d))):=by subst e;exact gq (nN (Og hk h))
theorem alI{K M:Nat}{q:Rat}{l:Nat→Lf}(hM:M≤K)(h0:l 0=dn M q.num.natAbs)(h1:l 1= .v (.bool (decide (q.num < 0))))(h2:l 2=dn M (q.den:Int).natAbs)(h3:l 3= .v (.bool (decide ((q.den:Int) < 0)))):∀ j,j < 4→∀ B w v,dY B w (l j) v→dY B w (((qn K q)[j]?).getD (.v undef)) v:=by
 intro j hj B w v hv
 match j,hj with
 | 0,_=>rw [h0] at hv;exact lS hM _ _ _ hv
 | 1,_=>rw [h1] at hv;exact hv
 | 2,_=>rw [h2] at hv;exact lS hM _ _ _ hv
 | 3,_=>rw [h3] at hv;exact hv
theorem CU{e:TypeId}{K L M n m:Nat}{q:Rat}{c d:Nat→Rat}{el2:Nat→Nat→Lf}(hm:m=n+1)(hK:K≤L)(hM:M≤L)(hz:q=d n)(hc:∀ i,i < n→c i=d i)(h0:el2 0 0=dn M q.num.natAbs:=by rfl)(h1:el2 0 1= .v (.bool (decide (q.num < 0))):=by rfl)(h2:el2 0 2=dn M (q.den:Int).natAbs:=by rfl)(h3:el2 0 3= .v (.bool (decide ((q.den:Int) < 0))):=by rfl):AO.le (.row e 4 (n+1) (eU n (aJ K c) el2)) (.row e 4 m (aJ L d)):=by
 refine Si hm (Og hK hc) fun j hj B w v hv=>?_
 unfold aJ;rw [← hz];exact alI hM h0 h1 h2 h3 j hj B w v hv
/-! ### Rows cut: noughts on top are taken away -/
section
variable {α:Type} [DecidableEq α] [OfNat α 0]
def dg(c:Nat→α):Nat→Nat
 | 0=>0
 | n+1=>if c n=0 then dg c n else n+1
theorem rW(c:Nat→α):∀ n,dg c n≤n
 | 0=>abJ _
 | n+1=>by unfold dg;split;exact Nat.le_succ_of_le (rW c n);exact abJ _
theorem nX{c:Nat→α}:∀ {n:Nat},(∀ i,n≤i→c i=0)→∀ i,dg c n≤i→c i=0
 | 0,h,i,hi=>h i (abR _)
 | n+1,h,i,hi=>by
  unfold dg at hi;split at hi
  ·rename_i h0
   exact nX (n:=n) (fun k hk=>by rcases Nat.eq_or_lt_of_le hk with e | e;exact e▸h0;exact h k e) i hi
  ·exact h i hi
theorem KQ{c:Nat→α}:∀ {n:Nat},dg c n≠0→c (dg c n-1)≠0
 | 0,h=>absurd rfl h
 | n+1,h=>by
  unfold dg at h ⊢;split
  ·rename_i h0;rw [if_pos h0] at h;exact KQ h
  ·rename_i h0;exact h0
theorem UU{c:Nat→α}{n:Nat}(h:c n=0):dg c (n+1)=dg c n:=by
 show (if c n=0 then dg c n else n+1)=_
 rw [if_pos h]
theorem uw{c:Nat→α}{n:Nat}(h:n=0∨c (n-1)≠0):dg c n=n:=by
 cases n with
 | zero=>rfl
 | succ n=>
  rcases h with h | h
  ·exact absurd h (Nat.succ_ne_zero _)
  ·show (if c n=0 then dg c n else n+1)=_
   rw [if_neg (show ¬ c n=0 from h)]
omit [DecidableEq α] in
theorem UW{c:Nat→α}{k m:Nat}(h1:k=0∨c (k-1)≠0)(h2:∀ i,k≤i→c i=0)(h3:m=0∨c (m-1)≠0)(h4:∀ i,m≤i→c i=0):k=m:=by
 rcases ag7 k m with h | h | h
 ·rcases h3 with h3 | h3
  ·omega
  ·exact absurd (h2 (m-1) (by omega)) h3
 ·exact h
 ·rcases h1 with h1 | h1
  ·omega
  ·exact absurd (h4 (k-1) (by omega)) h1
theorem YT{c:Nat→α}{n:Nat}:dg c n=0∨c (dg c n-1)≠0:=by
 rcases aev (dg c n) with h | h
 ·exact Or.inl h
 ·exact Or.inr (KQ (by omega))
theorem PD{c:Nat→α}{n m:Nat}(h:∀ i,n≤i→c i=0)(k:∀ i,m≤i→c i=0):dg c n=dg c m:=UW YT (nX h) YT (nX k)
end
theorem UO{c:Nat→Int}:∀ n,dg (fun i=>((c i:Int):Rat)) n=dg c n
 | 0=>rfl
 | n+1=>by
  unfold dg;rw [UO n]
  by_cases h:c n=0
  ·rw [if_pos h,if_pos (by rw [h];rfl)]
  ·rw [if_neg h,if_neg (fun e=>h (by exact_mod_cast e))]
/-! ### Sums, products -/
section
variable {α:Type} [Add α] [Mul α] [OfNat α 0]
/-- The product's coefficients: of the first m of the left one. -/
def cv(a b:Nat→α):Nat→Nat→α
 | 0,_=>0
 | m+1,j=>cv a b m j+(if m≤j then a m*b (j-m) else 0)
def aY(a b:Nat→α)(j:Nat):α:=cv a b (j+1) j
end
def TL:List (Nat×TI):= [
 (3,⟨1,false,[.int .i64 0],[],none,8,some .i64,false⟩),
 (4,⟨1,false,[.bool false],[],none,1,none,true⟩),
 (5,⟨1,false,[.int .u8 0],[],none,1,some .u8,false⟩),
 (9,⟨1,false,[.string ⟨#[]⟩],[],none,16,none,false⟩),
 (22,⟨1,false,[.slice none 0 0],[],some 31,24,none,false⟩),
 (23,⟨1,false,[.pointer none],[],none,8,none,false⟩),
 (26,⟨4,true,[.int .i64 0,.int .i64 0,.int .i64 0,.int .i64 0],[],none,32,none,false⟩),
 (28,⟨5,true,[.int .i64 0,.int .i64 0,.int .i64 0,.int .i64 0,.int .i64 0],[(0,3),(1,26)],none,40,none,false⟩),
 (29,⟨1,false,[.slice none 0 0],[],some 3,24,none,false⟩),
 (31,⟨9,true,[.int .i64 0,.int .i64 0,.int .i64 0,.int .i64 0,.int .i64 0,.int .i64 0,.int .i64 0,.int .i64 0,.slice none 0 0],[(0,3),(1,3),(2,3),(3,28),(8,29)],none,88,none,false⟩),
 (32,⟨1,false,[.slice none 0 0],[],some 36,24,none,false⟩),
 (33,⟨1,false,[.slice none 0 0],[],some 36,24,none,false⟩),
 (34,⟨1,false,[.slice none 0 0],[],some 165,24,none,false⟩),
 (36,⟨2,true,[.bool false,.slice none 0 0],[(0,4),(1,34)],none,32,none,false⟩),
 (38,⟨4,true,[.bool false,.slice none 0 0,.bool false,.slice none 0 0],[(0,36),(2,36)],none,64,none,false⟩),
 (40,⟨9,true,[.slice none 0 0,.bool false,.slice none 0 0,.bool false,.slice none 0 0,.bool false,.slice none 0 0,.bool false,.slice none 0 0],[(0,33),(1,38),(5,38)],none,152,none,false⟩),
 (43,⟨1,false,[.slice none 0 0],[],some 49,24,none,false⟩),
 (44,⟨1,false,[.slice none 0 0],[],some 43,24,none,false⟩),
 (45,⟨1,false,[.slice none 0 0],[],some 3,24,none,false⟩),
 (47,⟨2,true,[.slice none 0 0,.bool false],[(0,45),(1,4)],none,32,none,false⟩),
 (49,⟨4,true,[.slice none 0 0,.bool false,.slice none 0 0,.bool false],[(0,47),(2,47)],none,64,none,false⟩),
 (51,⟨10,true,[.slice none 0 0,.slice none 0 0,.slice none 0 0,.bool false,.slice none 0 0,.bool false,.slice none 0 0,.bool false,.slice none 0 0,.bool false],[(0,43),(1,44),(2,49),(6,49)],none,176,none,false⟩),
 (54,⟨14,true,[.int .i64 0,.int .i64 0,.int .i64 0,.int .i64 0,.int .i64 0,.slice none 0 0,.bool false,.slice none 0 0,.bool false,.slice none 0 0,.bool false,.slice none 0 0,.bool false,.slice none 0 0],[(0,28),(5,40)],none,192,none,false⟩),
 (57,⟨1,false,[.slice none 0 0],[],some 54,24,none,false⟩),
 (73,⟨1,false,[.pointer none],[],none,8,none,false⟩),
 (74,⟨1,false,[.slice none 0 0],[],some 109,24,none,false⟩),
 (76,⟨2,true,[.int .i64 0,.slice none 0 0],[(0,3),(1,74)],none,32,none,false⟩),
 (79,⟨1,false,[.slice none 0 0],[],some 84,24,none,false⟩),
 (81,⟨2,true,[.slice none 0 0,.slice none 0 0],[(0,79),(1,29)],none,48,none,false⟩),
 (84,⟨15,true,[.int .i64 0,.int .i64 0,.int .i64 0,.int .i64 0,.int .i64 0,.slice none 0 0,.bool false,.slice none 0 0,.bool false,.slice none 0 0,.bool false,.slice none 0 0,.bool false,.slice none 0 0,.int .i64 0],[(0,54),(14,3)],none,200,none,false⟩),
 (90,⟨1,false,[.slice none 0 0],[],some 51,24,none,false⟩),
 (109,⟨16,true,[.int .i64 0,.int .i64 0,.int .i64 0,.int .i64 0,.int .i64 0,.int .i64 0,.slice none 0 0,.slice none 0 0,.slice none 0 0,.bool false,.slice none 0 0,.bool false,.slice none 0 0,.bool false,.slice none 0 0,.bool false],[(0,3),(1,28),(6,51)],none,224,none,false⟩),
 (140,⟨1,false,[.slice none 0 0],[],some 40,24,none,false⟩),
 (145,⟨1,false,[.slice none 0 0],[],some 38,24,none,false⟩),
 (150,⟨1,false,[.slice none 0 0],[],some 33,24,none,false⟩),
 (165,⟨1,false,[.int .u32 0],[],none,4,some .u32,false⟩),
 (170,⟨1,false,[.nilFunc],[],none,8,none,false⟩),
 (175,⟨1,false,[.int .i64 0],[],none,8,some .i64,false⟩),
 (186,⟨1,false,[.int .u64 0],[],none,8,some .u64,false⟩),
 (187,⟨1,false,[.int .u64 0],[],none,8,some .u64,false⟩)]
def TT:TypeId→Option TI:=lk TL
theorem tt3:gZ Tryz.prog 3=some ⟨1,false,[.int .i64 0],[],none,8,some .i64,false⟩:=by kernel_rfl
theorem tt4:gZ Tryz.prog 4=some ⟨1,false,[.bool false],[],none,1,none,true⟩:=by kernel_rfl
theorem tt5:gZ Tryz.prog 5=some ⟨1,false,[.int .u8 0],[],none,1,some .u8,false⟩:=by kernel_rfl
theorem tt9:gZ Tryz.prog 9=some ⟨1,false,[.string ⟨#[]⟩],[],none,16,none,false⟩:=by kernel_rfl
theorem aoM:gZ Tryz.prog 22=some ⟨1,false,[.slice none 0 0],[],some 31,24,none,false⟩:=by kernel_rfl
theorem aoN:gZ Tryz.prog 23=some ⟨1,false,[.pointer none],[],none,8,none,false⟩:=by kernel_rfl
theorem aoO:gZ Tryz.prog 26=some ⟨4,true,[.int .i64 0,.int .i64 0,.int .i64 0,.int .i64 0],[],none,32,none,false⟩:=by kernel_rfl
theorem aoP:gZ Tryz.prog 28=some ⟨5,true,[.int .i64 0,.int .i64 0,.int .i64 0,.int .i64 0,.int .i64 0],[(0,3),(1,26)],none,40,none,false⟩:=by kernel_rfl
theorem aoQ:gZ Tryz.prog 29=some ⟨1,false,[.slice none 0 0],[],some 3,24,none,false⟩:=by kernel_rfl
theorem aoR:gZ Tryz.prog 31=some ⟨9,true,[.int .i64 0,.int .i64 0,.int .i64 0,.int .i64 0,.int .i64 0,.int .i64 0,.int .i64 0,.int .i64 0,.slice none 0 0],[(0,3),(1,3),(2,3),(3,28),(8,29)],none,88,none,false⟩:=by kernel_rfl
theorem aoS:gZ Tryz.prog 32=some ⟨1,false,[.slice none 0 0],[],some 36,24,none,false⟩:=by kernel_rfl
theorem aoT:gZ Tryz.prog 33=some ⟨1,false,[.slice none 0 0],[],some 36,24,none,false⟩:=by kernel_rfl
theorem aoU:gZ Tryz.prog 34=some ⟨1,false,[.slice none 0 0],[],some 165,24,none,false⟩:=by kernel_rfl
theorem aoV:gZ Tryz.prog 36=some ⟨2,true,[.bool false,.slice none 0 0],[(0,4),(1,34)],none,32,none,false⟩:=by kernel_rfl
theorem aoW:gZ Tryz.prog 38=some ⟨4,true,[.bool false,.slice none 0 0,.bool false,.slice none 0 0],[(0,36),(2,36)],none,64,none,false⟩:=by kernel_rfl
theorem aoX:gZ Tryz.prog 40=some ⟨9,true,[.slice none 0 0,.bool false,.slice none 0 0,.bool false,.slice none 0 0,.bool false,.slice none 0 0,.bool false,.slice none 0 0],[(0,33),(1,38),(5,38)],none,152,none,false⟩:=by kernel_rfl
theorem aoY:gZ Tryz.prog 43=some ⟨1,false,[.slice none 0 0],[],some 49,24,none,false⟩:=by kernel_rfl
theorem aoZ:gZ Tryz.prog 44=some ⟨1,false,[.slice none 0 0],[],some 43,24,none,false⟩:=by kernel_rfl
theorem ao0:gZ Tryz.prog 45=some ⟨1,false,[.slice none 0 0],[],some 3,24,none,false⟩:=by kernel_rfl
theorem ao1:gZ Tryz.prog 47=some ⟨2,true,[.slice none 0 0,.bool false],[(0,45),(1,4)],none,32,none,false⟩:=by kernel_rfl
theorem ao2:gZ Tryz.prog 49=some ⟨4,true,[.slice none 0 0,.bool false,.slice none 0 0,.bool false],[(0,47),(2,47)],none,64,none,false⟩:=by kernel_rfl
theorem ao3:gZ Tryz.prog 51=some ⟨10,true,[.slice none 0 0,.slice none 0 0,.slice none 0 0,.bool false,.slice none 0 0,.bool false,.slice none 0 0,.bool false,.slice none 0 0,.bool false],[(0,43),(1,44),(2,49),(6,49)],none,176,none,false⟩:=by kernel_rfl
theorem ao4:gZ Tryz.prog 54=some ⟨14,true,[.int .i64 0,.int .i64 0,.int .i64 0,.int .i64 0,.int .i64 0,.slice none 0 0,.bool false,.slice none 0 0,.bool false,.slice none 0 0,.bool false,.slice none 0 0,.bool false,.slice none 0 0],[(0,28),(5,40)],none,192,none,false⟩:=by kernel_rfl
theorem ao5:gZ Tryz.prog 57=some ⟨1,false,[.slice none 0 0],[],some 54,24,none,false⟩:=by kernel_rfl
theorem ao6:gZ Tryz.prog 73=some ⟨1,false,[.pointer none],[],none,8,none,false⟩:=by kernel_rfl
theorem ao7:gZ Tryz.prog 74=some ⟨1,false,[.slice none 0 0],[],some 109,24,none,false⟩:=by kernel_rfl
theorem ao8:gZ Tryz.prog 76=some ⟨2,true,[.int .i64 0,.slice none 0 0],[(0,3),(1,74)],none,32,none,false⟩:=by kernel_rfl
theorem ao9:gZ Tryz.prog 79=some ⟨1,false,[.slice none 0 0],[],some 84,24,none,false⟩:=by kernel_rfl
theorem apa:gZ Tryz.prog 81=some ⟨2,true,[.slice none 0 0,.slice none 0 0],[(0,79),(1,29)],none,48,none,false⟩:=by kernel_rfl
theorem apb:gZ Tryz.prog 84=some ⟨15,true,[.int .i64 0,.int .i64 0,.int .i64 0,.int .i64 0,.int .i64 0,.slice none 0 0,.bool false,.slice none 0 0,.bool false,.slice none 0 0,.bool false,.slice none 0 0,.bool false,.slice none 0 0,.int .i64 0],[(0,54),(14,3)],none,200,none,false⟩:=by kernel_rfl
theorem apc:gZ Tryz.prog 90=some ⟨1,false,[.slice none 0 0],[],some 51,24,none,false⟩:=by kernel_rfl
theorem alS:gZ Tryz.prog 109=some ⟨16,true,[.int .i64 0,.int .i64 0,.int .i64 0,.int .i64 0,.int .i64 0,.int .i64 0,.slice none 0 0,.slice none 0 0,.slice none 0 0,.bool false,.slice none 0 0,.bool false,.slice none 0 0,.bool false,.slice none 0 0,.bool false],[(0,3),(1,28),(6,51)],none,224,none,false⟩:=by kernel_rfl
theorem alT:gZ Tryz.prog 140=some ⟨1,false,[.slice none 0 0],[],some 40,24,none,false⟩:=by kernel_rfl
theorem alU:gZ Tryz.prog 145=some ⟨1,false,[.slice none 0 0],[],some 38,24,none,false⟩:=by kernel_rfl
theorem alV:gZ Tryz.prog 150=some ⟨1,false,[.slice none 0 0],[],some 33,24,none,false⟩:=by kernel_rfl
theorem alW:gZ Tryz.prog 165=some ⟨1,false,[.int .u32 0],[],none,4,some .u32,false⟩:=by kernel_rfl
theorem alX:gZ Tryz.prog 170=some ⟨1,false,[.nilFunc],[],none,8,none,false⟩:=by kernel_rfl
theorem alY:gZ Tryz.prog 175=some ⟨1,false,[.int .i64 0],[],none,8,some .i64,false⟩:=by kernel_rfl
theorem alZ:gZ Tryz.prog 186=some ⟨1,false,[.int .u64 0],[],none,8,some .u64,false⟩:=by kernel_rfl
theorem al0:gZ Tryz.prog 187=some ⟨1,false,[.int .u64 0],[],none,8,some .u64,false⟩:=by kernel_rfl
theorem aj:zU Tryz.prog TT:=by
 intro t ti h;have hm:=kK h;unfold TL at hm;simp only [List.mem_cons,List.not_mem_nil,or_false,Prod.mk.injEq] at hm
 rcases hm with ⟨rfl,rfl⟩ | ⟨rfl,rfl⟩ | ⟨rfl,rfl⟩ | ⟨rfl,rfl⟩ | ⟨rfl,rfl⟩ | ⟨rfl,rfl⟩ | ⟨rfl,rfl⟩ | ⟨rfl,rfl⟩ | ⟨rfl,rfl⟩ | ⟨rfl,rfl⟩ | ⟨rfl,rfl⟩ | ⟨rfl,rfl⟩ | ⟨rfl,rfl⟩ | ⟨rfl,rfl⟩ | ⟨rfl,rfl⟩ | ⟨rfl,rfl⟩ | ⟨rfl,rfl⟩ | ⟨rfl,rfl⟩ | ⟨rfl,rfl⟩ | ⟨rfl,rfl⟩ | ⟨rfl,rfl⟩ | ⟨rfl,rfl⟩ | ⟨rfl,rfl⟩ | ⟨rfl,rfl⟩ | ⟨rfl,rfl⟩ | ⟨rfl,rfl⟩ | ⟨rfl,rfl⟩ | ⟨rfl,rfl⟩ | ⟨rfl,rfl⟩ | ⟨rfl,rfl⟩ | ⟨rfl,rfl⟩ | ⟨rfl,rfl⟩ | ⟨rfl,rfl⟩ | ⟨rfl,rfl⟩ | ⟨rfl,rfl⟩ | ⟨rfl,rfl⟩ | ⟨rfl,rfl⟩ | ⟨rfl,rfl⟩ | ⟨rfl,rfl⟩ | ⟨rfl,rfl⟩
 ·exact tt3
 ·exact tt4
 ·exact tt5
 ·exact tt9
 ·exact aoM
 ·exact aoN
 ·exact aoO
 ·exact aoP
 ·exact aoQ
 ·exact aoR
 ·exact aoS
 ·exact aoT
 ·exact aoU
 ·exact aoV
 ·exact aoW
 ·exact aoX
 ·exact aoY
 ·exact aoZ
 ·exact ao0
 ·exact ao1
 ·exact ao2
 ·exact ao3
 ·exact ao4
 ·exact ao5
 ·exact ao6
 ·exact ao7
 ·exact ao8
 ·exact ao9
 ·exact apa
 ·exact apb
 ·exact apc
 ·exact alS
 ·exact alT
 ·exact alU
 ·exact alV
 ·exact alW
 ·exact alX
 ·exact alY
 ·exact alZ
 ·exact al0
abbrev vI(z:Int):Lf:= .v (.int .i64 z)
abbrev dI(z:Int):AV:= .d (.one (.v (.int .i64 z)))
def pkl{α:Type}(m:List (Nat×α)):List Nat→List (Nat×α)→Option (List (Nat×α))
 | [],a=>some a
 | k ::ks,a=>match lk m k with
  | some v=>pkl m ks ((k,v) ::a)
  | none=>none
theorem NZ{α:Type}{m:List (Nat×α)}{p:Nat×α→Prop}(hp:∀ k v,lk m k=some v→p (k,v)):∀ {ks:List Nat} {a r:List (Nat×α)},pkl m ks a=some r→lM p a→lM p r
 | [],a,r,h,ha=>by cases h;exact ha
 | k ::ks,a,r,h,ha=>by
  unfold pkl at h;split at h
  ·rename_i v hv
   exact NZ hp h ⟨hp k v hv,ha⟩
  ·cases h
def kpA(s:AS)(ks is:List Nat):Option AS:=match s with
 | ⟨n,sl,hp⟩=>match pkl sl ks [] with
  | some sl'=>match pkl hp is [] with
   | some hp'=>some ⟨n,sl',hp'⟩
   | none=>none
  | none=>none
def kpB(s:AS)(ks is:List Nat)(id:Nat)(ob:AO):Option AS:=match kpA s ks is with
 | some ⟨n,sl,hp⟩=>some ⟨n,sl,(id,ob) ::hp⟩
 | none=>none
theorem ZQ{s s':AS}{ks is:List Nat}(h:kpA s ks is=some s'):s.n=s'.n∧lM (Has s.sl) s'.sl∧lM (abY s.hp) s'.hp:=by
 obtain ⟨n,sl,hp⟩:=s;unfold kpA at h;simp only at h;split at h
 ·rename_i sl' h1
  split at h
  ·rename_i hp' h2
   cases h
   exact ⟨rfl,NZ (fun k v hv=>hs hv) h1 trivial,NZ (fun k v hv=>ho hv) h2 trivial⟩
  ·cases h
 ·cases h
theorem wkq{s s':AS}{ks is:List Nat}(h:kpA s ks is=some s')(hok:CS s'.hp s'.sl=true):Wk s s':=by
 obtain ⟨h1,h2,h3⟩:=ZQ h;exact wk h1 h2 h3 hok
theorem wkr{s s':AS}(h:kpA s (s'.sl.map Prod.fst).reverse (s'.hp.map Prod.fst).reverse=some s')(hok:CS s'.hp s'.sl=true):Wk s s':=wkq h hok
theorem wkb{s s':AS}{ks is:List Nat}{id:Nat}{o ob:AO}(h:kpB s ks is id ob=some s')(h3:lk s.hp id=some o)(hl:AO.le o ob)(hok:CS s'.hp s'.sl=true):Wk s s':=by
 unfold kpB at h;split at h
 ·rename_i n sl hp h0
  obtain ⟨h1,h2,h4⟩:=ZQ h0;cases h
  exact wk h1 h2 ⟨⟨o,h3,hl⟩,h4⟩ hok
 ·cases h
section
variable {P:Program} {ops:Array Oper} {Q:Qs} {o:Oper} {l:List Oper} {s:AS} {y c:Code}
theorem wK{s':AS}(ks is:List Nat)(h:kpA s ks is=some s')(hok:CS s'.hp s'.sl=true)(k:AW P c Q s'):AW P c Q s:=AW.wk (wkq h hok) k
theorem wB{s':AS}(ks is:List Nat)(id:Nat)(ob:AO){ob':AO}(h:kpB s ks is id ob=some s')(h3:lk s.hp id=some ob')(hl:AO.le ob' ob)(hok:CS s'.hp s'.sl=true)(k:AW P c Q s'):AW P c Q s:=AW.wk (wkb h h3 hl hok) k
theorem cR{id:Nat}(h:AL P l.toArray (XA (fun s=>AW P y Q s) Q) l s):AW P (.seq (.region id l.toArray false) y) Q s:=au (aA h)
theorem mT{K:AS→Prop}(h:K s):AL P ops (XA K Q) [] s:=ak (tN h)
theorem cFs{v:Operand}{x:Code}{K:AS→Prop}(hc:dH s v=some (.d (.one (.v (.bool false)))))(h:K s):AW P (.cond v x .skip) (XA K Q) s:=cF hc (aF (tN h))
theorem mW{o0:Oper}{v0:AV}(h0:jr TT s o0.op=some v0)(k:AL Tryz.prog ops Q l (AS.put s o0.dst v0))(g0:jC ops s o0=some true:=by rfl)(d0:kG o0.dst s.n=true:=by rfl):AL Tryz.prog ops Q (o0 ::l) s:=mV aj _ h0 k g0 d0
theorem mv2{o0 o1:Oper}{v0 v1:AV}(h0:jr TT s o0.op=some v0)(h1:jr TT (AS.put s o0.dst v0) o1.op=some v1)(k:AL Tryz.prog ops Q l (AS.put (AS.put s o0.dst v0) o1.dst v1))(g0:jC ops s o0=some true:=by rfl)(d0:kG o0.dst s.n=true:=by rfl)(g1:jC ops (AS.put s o0.dst v0) o1=some true:=by rfl)(d1:kG o1.dst (AS.put s o0.dst v0).n=true:=by rfl):AL Tryz.prog ops Q (o0 ::o1 ::l) s:=mV aj _ h0 (mV aj _ h1 k g1 d1) g0 d0
theorem mv3{o0 o1 o2:Oper}{v0 v1 v2:AV}(h0:jr TT s o0.op=some v0)(h1:jr TT (AS.put s o0.dst v0) o1.op=some v1)(h2:jr TT (AS.put (AS.put s o0.dst v0) o1.dst v1) o2.op=some v2)(k:AL Tryz.prog ops Q l (AS.put (AS.put (AS.put s o0.dst v0) o1.dst v1) o2.dst v2))(g0:jC ops s o0=some true:=by rfl)(d0:kG o0.dst s.n=true:=by rfl)(g1:jC ops (AS.put s o0.dst v0) o1=some true:=by rfl)(d1:kG o1.dst (AS.put s o0.dst v0).n=true:=by rfl)(g2:jC ops (AS.put (AS.put s o0.dst v0) o1.dst v1) o2=some true:=by rfl)(d2:kG o2.dst (AS.put (AS.put s o0.dst v0) o1.dst v1).n=true:=by rfl):AL Tryz.prog ops Q (o0 ::o1 ::o2 ::l) s:=mV aj _ h0 (mV aj _ h1 (mV aj _ h2 k g2 d2) g1 d1) g0 d0
theorem mv4{o0 o1 o2 o3:Oper}{v0 v1 v2 v3:AV}(h0:jr TT s o0.op=some v0)(h1:jr TT (AS.put s o0.dst v0) o1.op=some v1)(h2:jr TT (AS.put (AS.put s o0.dst v0) o1.dst v1) o2.op=some v2)(h3:jr TT (AS.put (AS.put (AS.put s o0.dst v0) o1.dst v1) o2.dst v2) o3.op=some v3)(k:AL Tryz.prog ops Q l (AS.put (AS.put (AS.put (AS.put s o0.dst v0) o1.dst v1) o2.dst v2) o3.dst v3))(g0:jC ops s o0=some true:=by rfl)(d0:kG o0.dst s.n=true:=by rfl)(g1:jC ops (AS.put s o0.dst v0) o1=some true:=by rfl)(d1:kG o1.dst (AS.put s o0.dst v0).n=true:=by rfl)(g2:jC ops (AS.put (AS.put s o0.dst v0) o1.dst v1) o2=some true:=by rfl)(d2:kG o2.dst (AS.put (AS.put s o0.dst v0) o1.dst v1).n=true:=by rfl)(g3:jC ops (AS.put (AS.put (AS.put s o0.dst v0) o1.dst v1) o2.dst v2) o3=some true:=by rfl)(d3:kG o3.dst (AS.put (AS.put (AS.put s o0.dst v0) o1.dst v1) o2.dst v2).n=true:=by rfl):AL Tryz.prog ops Q (o0 ::o1 ::o2 ::o3 ::l) s:=mV aj _ h0 (mV aj _ h1 (mV aj _ h2 (mV aj _ h3 k g3 d3) g2 d2) g1 d1) g0 d0
theorem mv5{o0 o1 o2 o3 o4:Oper}{v0 v1 v2 v3 v4:AV}(h0:jr TT s o0.op=some v0)(h1:jr TT (AS.put s o0.dst v0) o1.op=some v1)(h2:jr TT (AS.put (AS.put s o0.dst v0) o1.dst v1) o2.op=some v2)(h3:jr TT (AS.put (AS.put (AS.put s o0.dst v0) o1.dst v1) o2.dst v2) o3.op=some v3)(h4:jr TT (AS.put (AS.put (AS.put (AS.put s o0.dst v0) o1.dst v1) o2.dst v2) o3.dst v3) o4.op=some v4)(k:AL Tryz.prog ops Q l (AS.put (AS.put (AS.put (AS.put (AS.put s o0.dst v0) o1.dst v1) o2.dst v2) o3.dst v3) o4.dst v4))(g0:jC ops s o0=some true:=by rfl)(d0:kG o0.dst s.n=true:=by rfl)(g1:jC ops (AS.put s o0.dst v0) o1=some true:=by rfl)(d1:kG o1.dst (AS.put s o0.dst v0).n=true:=by rfl)(g2:jC ops (AS.put (AS.put s o0.dst v0) o1.dst v1) o2=some true:=by rfl)(d2:kG o2.dst (AS.put (AS.put s o0.dst v0) o1.dst v1).n=true:=by rfl)(g3:jC ops (AS.put (AS.put (AS.put s o0.dst v0) o1.dst v1) o2.dst v2) o3=some true:=by rfl)(d3:kG o3.dst (AS.put (AS.put (AS.put s o0.dst v0) o1.dst v1) o2.dst v2).n=true:=by rfl)(g4:jC ops (AS.put (AS.put (AS.put (AS.put s o0.dst v0) o1.dst v1) o2.dst v2) o3.dst v3) o4=some true:=by rfl)(d4:kG o4.dst (AS.put (AS.put (AS.put (AS.put s o0.dst v0) o1.dst v1) o2.dst v2) o3.dst v3).n=true:=by rfl):AL Tryz.prog ops Q (o0 ::o1 ::o2 ::o3 ::o4 ::l) s:=mV aj _ h0 (mV aj _ h1 (mV aj _ h2 (mV aj _ h3 (mV aj _ h4 k g4 d4) g3 d3) g2 d2) g1 d1) g0 d0
theorem mv6{o0 o1 o2 o3 o4 o5:Oper}{v0 v1 v2 v3 v4 v5:AV}(h0:jr TT s o0.op=some v0)(h1:jr TT (AS.put s o0.dst v0) o1.op=some v1)(h2:jr TT (AS.put (AS.put s o0.dst v0) o1.dst v1) o2.op=some v2)(h3:jr TT (AS.put (AS.put (AS.put s o0.dst v0) o1.dst v1) o2.dst v2) o3.op=some v3)(h4:jr TT (AS.put (AS.put (AS.put (AS.put s o0.dst v0) o1.dst v1) o2.dst v2) o3.dst v3) o4.op=some v4)(h5:jr TT (AS.put (AS.put (AS.put (AS.put (AS.put s o0.dst v0) o1.dst v1) o2.dst v2) o3.dst v3) o4.dst v4) o5.op=some v5)(k:AL Tryz.prog ops Q l (AS.put (AS.put (AS.put (AS.put (AS.put (AS.put s o0.dst v0) o1.dst v1) o2.dst v2) o3.dst v3) o4.dst v4) o5.dst v5))(g0:jC ops s o0=some true:=by rfl)(d0:kG o0.dst s.n=true:=by rfl)(g1:jC ops (AS.put s o0.dst v0) o1=some true:=by rfl)(d1:kG o1.dst (AS.put s o0.dst v0).n=true:=by rfl)(g2:jC ops (AS.put (AS.put s o0.dst v0) o1.dst v1) o2=some true:=by rfl)(d2:kG o2.dst (AS.put (AS.put s o0.dst v0) o1.dst v1).n=true:=by rfl)(g3:jC ops (AS.put (AS.put (AS.put s o0.dst v0) o1.dst v1) o2.dst v2) o3=some true:=by rfl)(d3:kG o3.dst (AS.put (AS.put (AS.put s o0.dst v0) o1.dst v1) o2.dst v2).n=true:=by rfl)(g4:jC ops (AS.put (AS.put (AS.put (AS.put s o0.dst v0) o1.dst v1) o2.dst v2) o3.dst v3) o4=some true:=by rfl)(d4:kG o4.dst (AS.put (AS.put (AS.put (AS.put s o0.dst v0) o1.dst v1) o2.dst v2) o3.dst v3).n=true:=by rfl)(g5:jC ops (AS.put (AS.put (AS.put (AS.put (AS.put s o0.dst v0) o1.dst v1) o2.dst v2) o3.dst v3) o4.dst v4) o5=some true:=by rfl)(d5:kG o5.dst (AS.put (AS.put (AS.put (AS.put (AS.put s o0.dst v0) o1.dst v1) o2.dst v2) o3.dst v3) o4.dst v4).n=true:=by rfl):AL Tryz.prog ops Q (o0 ::o1 ::o2 ::o3 ::o4 ::o5 ::l) s:=mV aj _ h0 (mV aj _ h1 (mV aj _ h2 (mV aj _ h3 (mV aj _ h4 (mV aj _ h5 k g5 d5) g4 d4) g3 d3) g2 d2) g1 d1) g0 d0
theorem mbF{b:Bool}(e:jr TT s o.op=some (.d (.one (.v (.bool b)))))(h:b=false)(k:AL Tryz.prog ops Q l (s.put o.dst (.d (.one (.v (.bool false))))))(hg:jC ops s o=some true:=by rfl)(hd:kG o.dst s.n=true:=by rfl):AL Tryz.prog ops Q (o ::l) s:=mV aj _ (e.trans (bI h)) k hg hd
theorem mbT{b:Bool}(e:jr TT s o.op=some (.d (.one (.v (.bool b)))))(h:b=true)(k:AL Tryz.prog ops Q l (s.put o.dst (.d (.one (.v (.bool true))))))(hg:jC ops s o=some true:=by rfl)(hd:kG o.dst s.n=true:=by rfl):AL Tryz.prog ops Q (o ::l) s:=mV aj _ (e.trans (bI h)) k hg hd
theorem mdF{p:Prop}[Decidable p](e:jr TT s o.op=some (.d (.one (.v (.bool (decide p))))))(h:¬ p)(k:AL Tryz.prog ops Q l (s.put o.dst (.d (.one (.v (.bool false))))))(hg:jC ops s o=some true:=by rfl)(hd:kG o.dst s.n=true:=by rfl):AL Tryz.prog ops Q (o ::l) s:=mbF e (aef h) k hg hd
theorem mdT{p:Prop}[Decidable p](e:jr TT s o.op=some (.d (.one (.v (.bool (decide p))))))(h:p)(k:AL Tryz.prog ops Q l (s.put o.dst (.d (.one (.v (.bool true))))))(hg:jC ops s o=some true:=by rfl)(hd:kG o.dst s.n=true:=by rfl):AL Tryz.prog ops Q (o ::l) s:=mbT e (ae3 h) k hg hd
def clk(s:AS)(p:Op):Option (FuncId×List DV):=match iw p with
 | some c=>match ZL c.callee with
  | some f=>match qQ s c.args.toList with
   | some ds=>some (f,ds)
   | none=>none
  | none=>none
 | none=>none
theorem SA{p:Op}{f:FuncId}{ds:List DV}(h:clk s p=some (f,ds)):∃ c,iw p=some c∧ZL c.callee=some f∧qQ s c.args.toList=some ds:=by
 unfold clk at h;split at h
 ·rename_i c h1
  split at h
  ·rename_i f' h2
   split at h
   ·rename_i ds' h3
    cases h
    exact ⟨c,h1,h2,h3⟩
   ·cases h
  ·cases h
 ·cases h
theorem mY{f:FuncId}{ds:List DV}{res:AV}(h:aC P f ds res)(hc:clk s o.op=some (f,ds))(k:AL P ops Q l (s.put o.dst res))(hg:jC ops s o=some true:=by rfl)(hd:kG o.dst s.n=true:=by rfl):AL P ops Q (o ::l) s:=by
 obtain ⟨c,h1,h2,h3⟩:=SA hc;exact aU h h1 h2 h3 k hg hd
theorem aN{f : FuncId}{fn : Func}{c : Code}{args : List DV}{r : AV}(n : Nat)(rs : List ResultVar)(hf : Tryz.prog.funcs[f]? = some fn)(h5 : (fn.body, (fn.name == "runtime.NumGoroutine"), fn.ntmps, fn.results.toList, Nat.ble args.length n) = (some c, false, n, rs, true))(h : AW Tryz.prog c (XJ TT rs r) ⟨n, params 0 args, []⟩): aC Tryz.prog f args r := by
 simp only [Prod.mk.injEq] at h5;obtain ⟨h1,h2,h3,h4,h6⟩:=h5;exact aK aj n rs hf h1 h2 h3 h4 h6 h
theorem rE{rs:List ResultVar}{r:AV}(h:(Gl TT s rs).map LJ=some r):XJ TT rs r .ret s:=by
 cases e:Gl TT s rs with
 | none=>rw [e] at h;cases h
 | some es=>rw [e] at h;cases h;exact rQ e AV.le.rfl
def ajY(s:AS)(o:Oper):Option (AO×Nat):=match Wu TT s o.op with
 | some ob=>match o.dst with
  | some d=>match lk s.hp d with
   | none=>some (ob,d)
   | some _=>none
  | none=>none
 | none=>none
theorem mO{ob:AO}{d:Nat}(h:ajY s o=some (ob,d))(k:AL Tryz.prog ops Q l (s.mk' d ob))(hg:jC ops s o=some true:=by rfl)(hd:kG (some d) s.n=true:=by rfl):AL Tryz.prog ops Q (o ::l) s:=by
 unfold ajY at h;split at h
 ·rename_i ob' h1
  split at h
  ·rename_i d' h2
   split at h
   ·rename_i h3
    cases h
    exact mN aj ob h1 h2 h3 k hg hd
   ·cases h
  ·cases h
 ·cases h
theorem mZ{id:Nat}{ob:AO}(h:Xt TT s o.op=some (id,ob))(k:AL Tryz.prog ops Q l (AS.put ⟨s.n,s.sl,(id,ob) ::s.hp⟩ o.dst .dead))(hg:jC ops s o=some true:=by rfl)(hd:kG o.dst s.n=true:=by rfl):AL Tryz.prog ops Q (o ::l) s:=mS aj id ob h k hg hd
theorem cDk{id:Nat}(n:Nat)(h:Ku Tryz.prog TT l.toArray (fun s1=>AL Tryz.prog l.toArray Q (l.drop n) s1) (l.take n) s)(hm:Tryz.prog.follows .mixedOrders=true:=by kernel_rfl)(hB:Am.allB l.toArray n s.n=true:=by kernel_rfl)(hD:Am.MS l.toArray n=true:=by kernel_rfl):AW Tryz.prog (.region id l.toArray true) Q s:=aP aj n hm hB hD h
theorem cDs{id:Nat}(n:Nat)(h:LV Tryz.prog TT l.toArray (fun s1=>AL Tryz.prog l.toArray Q (l.drop n) s1) 0 [] (l.take n) s)(hm:Tryz.prog.follows .mixedOrders=true:=by kernel_rfl)(hB:Am.allB l.toArray n s.n=true:=by kernel_rfl):AW Tryz.prog (.region id l.toArray true) Q s:=kY aj n hm hB h
theorem oV{K:AS→Prop}{av:AV}(h:jr TT s o.op=some av)(k:Ku Tryz.prog TT ops K l (s.put o.dst av))(hg:jC ops s o=some true:=by rfl)(hd:kG o.dst s.n=true:=by rfl):Ku Tryz.prog TT ops K (o ::l) s:= .cons (.V av h hg hd) k
theorem oT{K:AS→Prop}{b:Bool}(e:jr TT s o.op=some (.d (.one (.v (.bool b)))))(h:b=true)(k:Ku Tryz.prog TT ops K l (s.put o.dst (.d (.one (.v (.bool true))))))(hg:jC ops s o=some true:=by rfl)(hd:kG o.dst s.n=true:=by rfl):Ku Tryz.prog TT ops K (o ::l) s:= .cons (.V _ (e.trans (bI h)) hg hd) k
theorem oTd{K:AS→Prop}{p:Prop}[Decidable p](e:jr TT s o.op=some (.d (.one (.v (.bool (decide p))))))(h:p)(k:Ku Tryz.prog TT ops K l (s.put o.dst (.d (.one (.v (.bool true))))))(hg:jC ops s o=some true:=by rfl)(hd:kG o.dst s.n=true:=by rfl):Ku Tryz.prog TT ops K (o ::l) s:=oT e (ae3 h) k hg hd
theorem oF{K:AS→Prop}{b:Bool}(e:jr TT s o.op=some (.d (.one (.v (.bool b)))))(h:b=false)(k:Ku Tryz.prog TT ops K l (s.put o.dst (.d (.one (.v (.bool false))))))(hg:jC ops s o=some true:=by rfl)(hd:kG o.dst s.n=true:=by rfl):Ku Tryz.prog TT ops K (o ::l) s:= .cons (.V _ (e.trans (bI h)) hg hd) k
theorem oFd{K:AS→Prop}{p:Prop}[Decidable p](e:jr TT s o.op=some (.d (.one (.v (.bool (decide p))))))(h:¬ p)(k:Ku Tryz.prog TT ops K l (s.put o.dst (.d (.one (.v (.bool false))))))(hg:jC ops s o=some true:=by rfl)(hd:kG o.dst s.n=true:=by rfl):Ku Tryz.prog TT ops K (o ::l) s:=oF e (aef h) k hg hd
theorem oC{K:AS→Prop}{f:FuncId}{ds:List DV}{res:AV}(h:aC Tryz.prog f ds res)(hk:clk s o.op=some (f,ds))(k:Ku Tryz.prog TT ops K l (s.put o.dst res))(hg:jC ops s o=some true:=by rfl)(hd:kG o.dst s.n=true:=by rfl):Ku Tryz.prog TT ops K (o ::l) s:=by
 obtain ⟨c,h1,h2,h3⟩:=SA hk;exact .cons (.C0 h h1 h2 h3 hg hd) k
theorem pV{K:AS→Prop}{i:Nat}{log:List (Nat×List Nat×Bool)}{av:AV}(h:jr TT s o.op=some av)(k:LV Tryz.prog TT ops K (i+1) ((i,qE s o.op,wH o.op) ::log) l (s.put o.dst av))(hc:O7 ops log o (qE s o.op)=true:=by kernel_rfl)(hg:jC ops s o=some true:=by rfl)(hd:kG o.dst s.n=true:=by rfl):LV Tryz.prog TT ops K i log (o ::l) s:= .cons (.V av h hg hd) hc k
theorem pT{K:AS→Prop}{i:Nat}{log:List (Nat×List Nat×Bool)}{b:Bool}(e:jr TT s o.op=some (.d (.one (.v (.bool b)))))(h:b=true)(k:LV Tryz.prog TT ops K (i+1) ((i,qE s o.op,wH o.op) ::log) l (s.put o.dst (.d (.one (.v (.bool true))))))(hc:O7 ops log o (qE s o.op)=true:=by kernel_rfl)(hg:jC ops s o=some true:=by rfl)(hd:kG o.dst s.n=true:=by rfl):LV Tryz.prog TT ops K i log (o ::l) s:= .cons (.V _ (e.trans (bI h)) hg hd) hc k
theorem pTd{K:AS→Prop}{i:Nat}{log:List (Nat×List Nat×Bool)}{p:Prop}[Decidable p](e:jr TT s o.op=some (.d (.one (.v (.bool (decide p))))))(h:p)(k:LV Tryz.prog TT ops K (i+1) ((i,qE s o.op,wH o.op) ::log) l (s.put o.dst (.d (.one (.v (.bool true))))))(hc:O7 ops log o (qE s o.op)=true:=by kernel_rfl)(hg:jC ops s o=some true:=by rfl)(hd:kG o.dst s.n=true:=by rfl):LV Tryz.prog TT ops K i log (o ::l) s:=pT e (ae3 h) k hc hg hd
theorem pF{K:AS→Prop}{i:Nat}{log:List (Nat×List Nat×Bool)}{b:Bool}(e:jr TT s o.op=some (.d (.one (.v (.bool b)))))(h:b=false)(k:LV Tryz.prog TT ops K (i+1) ((i,qE s o.op,wH o.op) ::log) l (s.put o.dst (.d (.one (.v (.bool false))))))(hc:O7 ops log o (qE s o.op)=true:=by kernel_rfl)(hg:jC ops s o=some true:=by rfl)(hd:kG o.dst s.n=true:=by rfl):LV Tryz.prog TT ops K i log (o ::l) s:= .cons (.V _ (e.trans (bI h)) hg hd) hc k
theorem pFd{K:AS→Prop}{i:Nat}{log:List (Nat×List Nat×Bool)}{p:Prop}[Decidable p](e:jr TT s o.op=some (.d (.one (.v (.bool (decide p))))))(h:¬ p)(k:LV Tryz.prog TT ops K (i+1) ((i,qE s o.op,wH o.op) ::log) l (s.put o.dst (.d (.one (.v (.bool false))))))(hc:O7 ops log o (qE s o.op)=true:=by kernel_rfl)(hg:jC ops s o=some true:=by rfl)(hd:kG o.dst s.n=true:=by rfl):LV Tryz.prog TT ops K i log (o ::l) s:=pF e (aef h) k hc hg hd
theorem pC{K:AS→Prop}{i:Nat}{log:List (Nat×List Nat×Bool)}{f:FuncId}{ds:List DV}{res:AV}(h:aC Tryz.prog f ds res)(hk:clk s o.op=some (f,ds))(k:LV Tryz.prog TT ops K (i+1) ((i,qE s o.op,wH o.op) ::log) l (s.put o.dst res))(hc:O7 ops log o (qE s o.op)=true:=by kernel_rfl)(hg:jC ops s o=some true:=by rfl)(hd:kG o.dst s.n=true:=by rfl):LV Tryz.prog TT ops K i log (o ::l) s:=by
 obtain ⟨c,h1,h2,h3⟩:=SA hk;exact .cons (.C0 h h1 h2 h3 hg hd) hc k
def evs(ops:Array Oper):Nat→List Oper→AS→Option (List Oper×AS)
 | 0,l,s=>some (l,s)
 | n+1,o ::l,s=>match jC ops s o with
  | some true=>match kG o.dst s.n with
   | true=>match jr TT s o.op with
    | some av=>evs ops n l (s.put o.dst av)
    | none=>none
   | false=>none
  | _=>none
 | _+1,[],_=>none
theorem aaJ{n:Nat}{l':List Oper}{s':AS}(h:evs ops (n+1) l s=some (l',s')):∃ o r av,l=o ::r∧jC ops s o=some true∧kG o.dst s.n=true∧jr TT s o.op=some av∧evs ops n r (s.put o.dst av)=some (l',s'):=by
 cases l with
 | nil=>cases h
 | cons o r=>
  unfold evs at h;split at h
  ·rename_i hg
   split at h
   ·rename_i hd
    split at h
    ·rename_i av hv;exact ⟨o,r,av,rfl,hg,hd,hv,h⟩
    ·cases h
   ·cases h
  ·cases h
theorem mE:∀ (n:Nat) {l l':List Oper} {s s':AS} (h:evs ops n l s=some (l',s')) (k:AL Tryz.prog ops Q l' s'),AL Tryz.prog ops Q l s
 | 0,_,_,_,_,h,k=>by cases h;exact k
 | n+1,_,_,_,_,h,k=>by
  obtain ⟨o,r,av,rfl,h1,h2,h3,h4⟩:=aaJ h;exact mV aj av h3 (mE n h4 k) h1 h2
theorem oE{K:AS→Prop}:∀ (n:Nat) {l l':List Oper} {s s':AS} (h:evs ops n l s=some (l',s')) (k:Ku Tryz.prog TT ops K l' s'),Ku Tryz.prog TT ops K l s
 | 0,_,_,_,_,h,k=>by cases h;exact k
 | n+1,_,_,_,_,h,k=>by
  obtain ⟨o,r,av,rfl,h1,h2,h3,h4⟩:=aaJ h;exact .cons (.V av h3 h1 h2) (oE n h4 k)
def mks{α:Type}(b:Bool)(cs:List Nat):Nat→List α→List α
 | _,[]=> []
 | i,x ::l=>bif (cs.contains i==b) then x ::mks b cs (i+1) l else mks b cs (i+1) l
theorem abG{α:Type}{p:α→Prop}{cs:List Nat}:∀ {i:Nat} {l:List α},lM p (mks true cs i l)→lM p (mks false cs i l)→lM p l
 | _,[],_,_=>trivial
 | i,x ::l,h,k=>by
  unfold mks at h k;cases hc:cs.contains i with
  | true=>rw [hc] at h k;exact ⟨h.1,abG h.2 k⟩
  | false=>rw [hc] at h k;exact ⟨k.1,abG h k.2⟩
theorem wkv{s s':AS}(cs co:List Nat)(h1:lM (Has s.sl) (mks true cs 0 s'.sl))(h2:lM (abY s.hp) (mks true co 0 s'.hp))(h:kpA s ((mks false cs 0 s'.sl).map Prod.fst).reverse ((mks false co 0 s'.hp).map Prod.fst).reverse=some ⟨s'.n,mks false cs 0 s'.sl,mks false co 0 s'.hp⟩)(hok:CS s'.hp s'.sl=true):Wk s s':=by
 obtain ⟨q1,q2,q3⟩:=ZQ h;exact wk q1 (abG h1 q2) (abG h2 q3) hok
end
theorem lM.app{α:Type}{p:α→Prop}:∀ {a b:List α},lM p a→lM p b→lM p (a ++b)
 | [],_,_,h=>h
 | _ ::_,_,h,k=>⟨h.1,lM.app h.2 k⟩
def kpU(s:AS)(ks is:List Nat)(us:List (Nat×AV))(uo:List (Nat×AO)):Option AS:=match kpA s ks is with
 | some ⟨n,sl,hp⟩=>some ⟨n,us ++sl,uo ++hp⟩
 | none=>none
theorem wkU{s s':AS}{ks is:List Nat}{us:List (Nat×AV)}{uo:List (Nat×AO)}(h:kpU s ks is us uo=some s')(h1:lM (Has s.sl) us)(h2:lM (abY s.hp) uo)(hok:CS s'.hp s'.sl=true):Wk s s':=by
 unfold kpU at h;split at h
 ·rename_i n sl hp h0
  obtain ⟨q1,q2,q3⟩:=ZQ h0;cases h
  exact wk q1 (h1.app q2) (h2.app q3) hok
 ·cases h
section
variable {P:Program} {ops:Array Oper} {Q:Qs} {o:Oper} {l:List Oper} {s s':AS} {c:Code} {n:Nat} {K:AS→Prop}
theorem wkT{s s1 s2:AS}(h:Wk s s1)(k:Wk s1 s2):Wk s s2:=fun _ _ _ _ x=>k _ _ _ _ (h _ _ _ _ x)
theorem wKm(ks is:List Nat)(h:kpA s ks is=some s')(hok:CS s'.hp s'.sl=true)(k:AL P ops Q l s'):AL P ops Q l s:=AL.wk (wkq h hok) k
theorem wUm(ks is:List Nat)(us:List (Nat×AV))(uo:List (Nat×AO))(h1:lM (Has s.sl) us)(h2:lM (abY s.hp) uo)(h:kpU s ks is us uo=some s')(hok:CS s'.hp s'.sl=true)(k:AL P ops Q l s'):AL P ops Q l s:=AL.wk (wkU h h1 h2 hok) k
theorem wUc(ks is:List Nat)(us:List (Nat×AV))(uo:List (Nat×AO))(h1:lM (Has s.sl) us)(h2:lM (abY s.hp) uo)(h:kpU s ks is us uo=some s')(hok:CS s'.hp s'.sl=true)(k:AW P c Q s'):AW P c Q s:=AW.wk (wkU h h1 h2 hok) k
end
theorem obr{h1 h2:List (Nat×AO)}{i j:Nat}{o:AO}(e1:lk h1 j=some o:=by rfl)(e2:lk h2 i=some o:=by rfl)(e3:o.aaw=true:=by rfl):∃ ob' ob,lk h1 j=some ob'∧lk h2 i=some ob∧AO.le ob' ob∧ob.aaw=true:=⟨o,o,e1,e2,AO.le.rfl,e3⟩
theorem arr{m:List (Nat×Nat)}{s:AS}{x:Operand}{a a':AV}(e1:dH s x=some a':=by rfl)(e2:rnO m a=some a':=by rfl):∃ a' b,dH s x=some a'∧AV.le a' b∧rnO m a=some b:=⟨a',a',e1,AV.le.rfl,e2⟩
theorem arl{m:List (Nat×Nat)}{s:AS}{x:Operand}{a a' b:AV}(l:AV.le a' b)(e1:dH s x=some a':=by rfl)(e2:rnO m a=some b:=by rfl):∃ a' b,dH s x=some a'∧AV.le a' b∧rnO m a=some b:=⟨a',b,e1,l,e2⟩
theorem oir{ks:List Nat}{hpS H:List (Nat×AO)}{wo:List Nat}{i j:Nat}{x:Value}{b d:AO}{R:AV}(e1:lk hpS j=some (.is x b):=by rfl)(e2:wo.contains i=true:=by rfl)(e3:lk H i=some (.is x d):=by rfl):(ks.any fun k=>Nat.beq k j)=true∨∃ x b,lk hpS j=some (.is x b)∧i∈wo∧∀ r hp',(r=R∧hp'=H)→∃ d,lk hp' i=some (.is x d):=Or.inr ⟨x,b,e1,by simpa using e2,fun r hp' h=>⟨d,by rw [h.2];exact e3⟩⟩
theorem wjr{m:List (Nat×Nat)}{sl:List (Nat×AV)}{i j:Nat}{av:AV}(t:Nat)(e1:lk m i=some j:=by rfl)(e2:lk sl t=some av:=by rfl)(e3:tZ av=some j:=by rfl):∃ j t av,lk m i=some j∧lk sl t=some av∧tZ av=some j:=⟨j,t,av,e1,e2,e3⟩
def avB(i:Nat):Option AV→Bool
 | some av=>match tZ av with
  | some j=>Nat.beq j i
  | none=>false
 | none=>false
theorem ahd{i:Nat}{o:Option AV}(h:avB i o=true):∃ av,o=some av∧tZ av=some i:=by
 unfold avB at h;split at h
 ·rename_i av
  split at h
  ·rename_i j hj;exact ⟨av,rfl,by rw [hj,Nat.eq_of_beq_eq_true h]⟩
  ·cases h
 ·cases h
theorem aax{α:Type}{m:List (Nat×α)}{p:Nat×α→Prop}:∀ {ks:List Nat} {a r:List (Nat×α)},(∀ k∈ks,∀ v,lk m k=some v→p (k,v))→pkl m ks a=some r→lM p a→lM p r
 | [],a,r,_,h,ha=>by cases h;exact ha
 | k ::ks,a,r,hp,h,ha=>by
  unfold pkl at h;split at h
  ·rename_i v hv
   exact aax (fun q hq=>hp q (by simp [hq])) h ⟨hp k (by simp) v hv,ha⟩
  ·cases h
theorem abg{α:Type}{f:α→Bool}{p:α→Prop}(hf:∀ x,f x=true→p x):∀ {l:List α},l.all f=true→lM p l
 | [],_=>trivial
 | x ::l,h=>by
  rw [List.all_cons,Bool.and_eq_true] at h;exact ⟨hf x h.1,abg hf h.2⟩
theorem wOf{l:List (Nat×AV)}{wo:List Nat}(h:(wo.all fun i=>l.any fun p=>avB i (lk l p.1))=true):lM (fun id=>∃ t av,lk l t=some av∧tZ av=some id) wo:=abg (fun i hi=>by
 obtain ⟨p,_,hp⟩:=ag1.1 hi;obtain ⟨av,h1,h2⟩:=ahd hp;exact ⟨p.1,av,h1,h2⟩) h
theorem rLg{P:Program}{rs:List ResultVar}{wo:List Nat}{Q:AV→List (Nat×AO)→Prop}{s:AS}{r:AV}{hp':List (Nat×AO)}{sl':List (Nat×AV)}(ks:List Nat)(h1:Q r hp')(h2:V4 P s rs r)(h:pkl s.sl ks []=some sl')(hH:pkl s.hp (hp'.map Prod.fst).reverse []=some hp')(hok:CS hp' ((s.n,r) ::sl')=true)(hn:(ks.all fun k=>Nat.ble (k+1) s.n)=true)(hw:(wo.all fun i=>((s.n,r) ::sl').any fun p=>avB i (lk ((s.n,r) ::sl') p.1))=true):abZ P rs wo Q .ret s:=
 rL r r hp' sl' h1 h2 (wk (sl:=(s.n,r) ::sl') (hp:=hp') rfl ⟨hs (by rw [aV,if_pos rfl]),aax (m:=s.sl) (fun k hk v hv=>hs (by
  have:=ada (afj.1 hn k hk);rw [aV,if_neg (by omega)];exact hv)) h trivial⟩ (NZ (fun k v hv=>ho hv) hH trivial) hok) (wOf hw)
theorem aLr{f : FuncId}{fn : Func}{c : Code}{args : List AV}{hp : List (Nat × AO)}{wi wo : List Nat}{Q : AV → List (Nat × AO) → Prop}(n : Nat)(rs : List ResultVar)(ws : List (Nat × Nat))(hf : Tryz.prog.funcs[f]? = some fn)(h5 : (fn.body, (fn.name == "runtime.NumGoroutine"), fn.ntmps, fn.results.toList, Nat.ble args.length n) = (some c, false, n, rs, true))(hws : (ws.all fun p => Nat.ble args.length p.1 && Nat.ble (p.1 + 1) n && wi.contains p.2) = true)(h : AW Tryz.prog c (abZ Tryz.prog rs wo Q) ⟨n, Ap 0 args ++ ws.map fun p => (p.1, .wit p.2), hp⟩): fZ Tryz.prog f args hp wi wo Q := by
 simp only [Prod.mk.injEq] at h5;obtain ⟨h1,h2,h3,h4,h6⟩:=h5;refine fH n rs ws hf h1 h2 h3 h4 h6 (abg (fun p hp=>?_) hws) h;simp only [Bool.and_eq_true] at hp;exact ⟨ada hp.1.1,ada hp.1.2,by simpa using hp.2⟩
/-! ### Regions that draw -/
section
variable {ops:Array Oper} {Q:Qs} {o:Oper} {l:List Oper} {s:AS} {n:Nat} {K:AS→Prop}
theorem cDr{id:Nat}(n:Nat)(ls:List Nat)(h:ChR Tryz.prog TT l.toArray n (fun s1=>AL Tryz.prog l.toArray Q (l.drop n) s1) (l.take n) s)(hm:Tryz.prog.follows .mixedOrders=true:=by kernel_rfl)(hB:Am.O5 l.toArray n s.n ls=true:=by kernel_rfl)(hD:Am.MS l.toArray n=true:=by kernel_rfl)(hP:∀ c s,¬ Q (.panic c) s:=by exact fun _ _ h=>h):AW Tryz.prog (.region id l.toArray true) Q s:=jG aj n ls hm hB hD hP h
theorem rVr{av:AV}(h:jr TT s o.op=some av)(k:ChR Tryz.prog TT ops n K l (s.put o.dst av))(hg:jC ops s o=some true:=by rfl)(hd:kG o.dst s.n=true:=by rfl):ChR Tryz.prog TT ops n K (o ::l) s:= .cons (.S (.V av h hg hd)) k
theorem rEr:∀ (m:Nat) {l l':List Oper} {s s':AS} (h:evs ops m l s=some (l',s')) (k:ChR Tryz.prog TT ops n K l' s'),ChR Tryz.prog TT ops n K l s
 | 0,_,_,_,_,h,k=>by cases h;exact k
 | m+1,_,_,_,_,h,k=>by
  obtain ⟨o,r,av,rfl,h1,h2,h3,h4⟩:=aaJ h;exact .cons (.S (.V av h3 h1 h2)) (rEr m h4 k)
theorem rXr{av:AV}(h:EvX Tryz.prog s o av)(k:ChR Tryz.prog TT ops n K l (s.put o.dst av))(hg:jC ops s o=some true:=by rfl)(hd:kG o.dst s.n=true:=by rfl):ChR Tryz.prog TT ops n K (o ::l) s:= .cons (.S (.X av h hg hd)) k
theorem rBr{av:AV}(h:evB TT s o.op=some av)(k:ChR Tryz.prog TT ops n K l (s.put o.dst av))(hg:jC ops s o=some true:=by rfl)(hd:kG o.dst s.n=true:=by rfl):ChR Tryz.prog TT ops n K (o ::l) s:= .cons (.S (.B av h hg hd)) k
theorem rGr(k:ChR Tryz.prog TT ops n K l (s.put o.dst (.ji [])))(hg:jC ops s o=some false:=by rfl)(hd:kG o.dst s.n=true:=by rfl):ChR Tryz.prog TT ops n K (o ::l) s:= .cons (.Gt hg hd) k
theorem rUr(k:ChR Tryz.prog TT ops n K l (s.put o.dst (.ji [])))(hg:gsu ops s o=true:=by rfl)(hd:kG o.dst s.n=true:=by rfl):ChR Tryz.prog TT ops n K (o ::l) s:= .cons (.U hg hd) k
theorem rCr{f:FuncId}{ds:List DV}{res:AV}(h:aC Tryz.prog f ds res)(hk:clk s o.op=some (f,ds))(k:ChR Tryz.prog TT ops n K l (s.put o.dst res))(hg:jC ops s o=some true:=by rfl)(hd:kG o.dst s.n=true:=by rfl):ChR Tryz.prog TT ops n K (o ::l) s:=by
 obtain ⟨c,h1,h2,h3⟩:=SA hk;exact .cons (.S (.C0 h h1 h2 h3 hg hd)) k
theorem rTr{b:Bool}(e:jr TT s o.op=some (.d (.one (.v (.bool b)))))(h:b=true)(k:ChR Tryz.prog TT ops n K l (s.put o.dst (.d (.one (.v (.bool true))))))(hg:jC ops s o=some true:=by rfl)(hd:kG o.dst s.n=true:=by rfl):ChR Tryz.prog TT ops n K (o ::l) s:= .cons (.S (.V _ (e.trans (bI h)) hg hd)) k
theorem rTd{p:Prop}[Decidable p](e:jr TT s o.op=some (.d (.one (.v (.bool (decide p))))))(h:p)(k:ChR Tryz.prog TT ops n K l (s.put o.dst (.d (.one (.v (.bool true))))))(hg:jC ops s o=some true:=by rfl)(hd:kG o.dst s.n=true:=by rfl):ChR Tryz.prog TT ops n K (o ::l) s:=rTr e (ae3 h) k hg hd
theorem rFr{b:Bool}(e:jr TT s o.op=some (.d (.one (.v (.bool b)))))(h:b=false)(k:ChR Tryz.prog TT ops n K l (s.put o.dst (.d (.one (.v (.bool false))))))(hg:jC ops s o=some true:=by rfl)(hd:kG o.dst s.n=true:=by rfl):ChR Tryz.prog TT ops n K (o ::l) s:= .cons (.S (.V _ (e.trans (bI h)) hg hd)) k
theorem rFd{p:Prop}[Decidable p](e:jr TT s o.op=some (.d (.one (.v (.bool (decide p))))))(h:¬ p)(k:ChR Tryz.prog TT ops n K l (s.put o.dst (.d (.one (.v (.bool false))))))(hg:jC ops s o=some true:=by rfl)(hd:kG o.dst s.n=true:=by rfl):ChR Tryz.prog TT ops n K (o ::l) s:=rFr e (aef h) k hg hd
theorem oXr{av:AV}(h:EvX Tryz.prog s o av)(k:Ku Tryz.prog TT ops K l (s.put o.dst av))(hg:jC ops s o=some true:=by rfl)(hd:kG o.dst s.n=true:=by rfl):Ku Tryz.prog TT ops K (o ::l) s:= .cons (.X av h hg hd) k
end
theorem Tryz.infoInt:(Tryz.prog.info? 3).map (fun i=>(i.zero,i.size,i.bytes))=some (some (.int .i64 0),1,8):=by kernel_rfl
theorem Xb(ao:Option Addr)(n c:Nat)(xs:List Nat)(w:World)(hm:n≤9223372036854775807)(hr:Rw .i64 B4 w ao n c xs):
  Calls Tryz.prog 144 #[.slice ao n c] w fun e w'=>e= .returned (.slice ao (uf xs n) c)∧w'=w:=by
 have hlc:=hr.le;go_enter Tryz.func144,Tryz.ntmps144;go_wp2;go_loop [3] (fun n'=>∃ k:Nat,k≤n∧n'= .int .i64 k∧uf xs k=uf xs n) (fun n'=>(intOf n').toNat)
 case atStart=>exact ⟨n,abJ _,rfl,rfl⟩
 case round=>
  obtain ⟨k,hk,rfl,hcut⟩:=hrel;have Ry:=aS hcut;clear hcut
  by_cases h0:k=0
  ·subst h0
   go_wp2;go_ret;exact ⟨by rw [← Ry];rfl,rfl⟩
  ·obtain ⟨j,rfl⟩:∃ j,k=j+1:=⟨k-1,by omega⟩
   obtain ⟨b,off,x,rfl,hx,kC,hcj⟩:=hr.at (show j < n by omega);have Hx:=aS hx;clear hx hr
   by_cases hz:x=0
   ·subst hz
    go_wp2;go_round
    case rel=>exact ⟨j,by omega,rfl,by rw [← Ry];simp [uf,Hx.out]⟩
    case measure=>simp [intOf]
   ·have hz':((x:Int)==0)=false:=by simpa using hz
    go_wp2;go_ret;exact ⟨by rw [← Ry];simp [uf,Hx.out,hz],rfl⟩
/-- The document's cut: the same memory, as far as the row of the number goes. -/
theorem wM(ao:Option Addr)(n c:Nat)(xs:List Nat)(w:World)(hm:n≤9223372036854775807)(hr:Rw .i64 B4 w ao n c xs):
  Calls Tryz.prog 144 #[.slice ao n c] w fun e w'=>∃ m,e= .returned (.slice ao m c)∧m≤n∧Rw .i64 B4 w ao m c (aT (jX xs))∧w=w':=by
 refine (Xb ao n c xs w hm hr).mono fun e w' ⟨he,hw⟩=>?_
 have hcut:=KP xs hr.lt;have hr2:=hr.take (Dc xs n);have hl:=hr.len;subst hl;rw [hcut] at hr2;exact ⟨_,he,Dc _ _,hr2,hw.symm⟩
theorem BI(ao:Option Addr)(n cp m c0:Nat)(xs:List Nat)(w:World)(hn:n≤1073741824)(hm:m≤65536)(hc:c0≤1000000)(hr:Rw .i64 B4 w ao n cp xs):
  Calls Tryz.prog 120 #[.slice ao n cp,.int .i64 (m:Int),.int .i64 (c0:Int)] w fun e w'=>∃ ro k c',e= .returned (.slice ro k c')∧Rw .i64 B4 w' ro k c' (aT (jX xs*m+c0))∧rH w.heap.size w' ro c'∧Below w.heap.size w w':=by
 have hl:=hr.len;have HL:=aS hl;clear hl;obtain ⟨i0,hi,hz0,hz1,hz2⟩:=info_parts Tryz.infoInt;go_enter Tryz.func120,Tryz.ntmps120;go_wp2_with (at_make;refine Hid.out ?_);refine aS<|wpList_make_own _ rfl _ _ 45 rfl w.heap.size 3 i0 (.int .i64 0) 1 Tryz.underlying45 hi hz0 hz1 .i64 .i64 _ (n+2) rfl rfl (by omega) (by rw [hz2];omega) (by unfold maxLen;omega) (abJ _) fun w1 hown hgrow=>?_
 have hb1:Below w.heap.size w w1:=(Below.refl _ _).grown hgrow (abJ _) (fun k hk=>nomatch hk);clear hi hz0 hz1 hz2 hgrow;obtain ⟨v0,hv0⟩:∃ v,v=Value.slice (some ⟨w.heap.size,0,none⟩) 0 (n+2):=⟨_,rfl⟩
 rw [← hv0] at hown ⊢;clear hv0;go_wp2_with fail;go_loopw [2,7,8] (fun s2 s7 s8 wr=>∃ (k c:Nat) (os:List Nat),s8= .int .i64 k∧s2= .int .i64 c∧c≤1000000∧k+c≤n+1000000∧os.length=k∧(∀ o∈os,o < B4)∧wr.ownsRow w.heap.size 3 1 s7 k (eP .i64 os)∧Below w.heap.size w wr∧
   aO B4 os+B4^k*c=aO B4 (xs.take k)*m+c0) (fun s2 _ s8 _=>(n-(intOf s8).toNat)*1000001+(intOf s2).toNat)
 case atStart=>exact ⟨0,c0,[],rfl,rfl,hc,by omega,rfl,by simp,hown,hb1,by simp [aO]⟩
 case round=>
  obtain ⟨k,c,os,rfl,rfl,hcB,hkc,hol,oZ,hown,hb,hv⟩:=hrel;have HV:=aS hv;have HOL:=aS hol;clear hv hol hb1;have hbs:=hb.size
  by_cases hkn:k < n
  ·obtain ⟨b,off,x,rfl,hx,kC,hcx⟩:=(hr.ext hb).at hkn
   have hx':x≤9999:=by have:x < 10000:=kC;omega
   have Hx:=aS hx;clear hx kC;have hxm:=ae0 hx' hm;have hxm1:(x:Int)*(m:Int)≤655294464:=by rw [← Int.natCast_mul];omega
   have hxm2:(0:Int)≤(x:Int)*(m:Int):=by rw [← Int.natCast_mul];omega
   have HXM:=aS hxm;clear hxm;go_wp2_with (at_builtin;refine Hid.out ?_);refine aS<|jY _ rfl _ _ 45 rfl w.heap.size 3 (.int .i64 0) 1 8 Tryz.underlying45 Tryz.infoInt rfl (by decide) u7 k (eP .i64 os) rfl (hown.alloc _) (some ⟨wr.heap.size,0,none⟩) 1 1 [Value.int .i64 (((c:Int)+(x:Int)*(m:Int))%10000)] rfl rfl (fun e=>nomatch e) (abJ _) (nG _ _ _) (xU _ _) (by unfold maxLen;omega) (by omega) (by rw [World.size_alloc];omega) fun v' w2 hown' _ hb2=>?_
   have hb3:Below w.heap.size w w2:=(hb.alloc hbs _).trans hb2;have e0:((c+x*m:Nat):Int)=(c:Int)+(x:Int)*(m:Int):=by simp
   have e1:((c:Int)+(x:Int)*(m:Int))%10000=(((c+x*m)%10000:Nat):Int):=by rw [← e0];rfl
   rw [e1,pX] at hown';have E0:=aS e0;clear e0 e1 hown;go_wp2;go_roundw
   case rel=>
    refine ⟨k+1,(c+x*m) / 10000,os ++ [(c+x*m)%10000],by go_num,by rw [← E0.out];rfl,?_,?_,by rw [List.length_append,HOL.out];rfl,lH oZ (adl _ (by decide)),hown',hb3,?_⟩
    ·have:=HXM.out;omega
    ·have:=HXM.out;omega
    ·exact FZ HOL.out HV.out (aQ _ Hx.out)
   case measure=>
    have h1:((c:Int)+(x:Int)*(m:Int)) / 10000≤1000000:=by omega
    simp only [intOf];omega
  ·have hnx:aO B4 (xs.take (k+1))=aO B4 (xs.take k):=iL _ (by rw [HL.out];omega)
   have HNX:=aS hnx;clear hnx
   by_cases hc0:c=0
   ·subst hc0
    have hd:decide ((k:Int) < (n:Int))=false:=by rw [decide_eq_false_iff_not];omega
    have hval:jX os=jX xs*m+c0:=by
     have h2:=HV.out;rw [List.take_of_length_le (l:=xs) (by rw [HL.out];omega)] at h2;unfold jX;omega
    obtain ⟨ao',c',rfl,h1,h2⟩:=lI (k:= .i64) (B:=B4) (by rw [HOL.out];exact hown) oZ;have afW:=aS hval;clear hval;go_wp2_with fail;refine (wM _ _ _ _ _ (by rw [HOL.out];omega) h1).mono ?_;rintro e w' ⟨r1,rfl,hr1,hres,rfl⟩;rw [afW.out] at hres;go_wp2;go_ret;exact ⟨_,_,_,rfl,hres,h2,hb⟩
   ·have hd1:decide (k < n)=false:=by rw [decide_eq_false_iff_not];omega
    have hcpos:0 < c:=by omega
    go_wp2_with (at_builtin;refine Hid.out ?_);refine aS ?_;refine jY _ rfl _ _ 45 rfl w.heap.size 3 (.int .i64 0) 1 8 Tryz.underlying45 Tryz.infoInt rfl (by decide) u7 k (eP .i64 os) rfl (hown.alloc _) (some ⟨wr.heap.size,0,none⟩) 1 1 [Value.int .i64 ((c:Int)%10000)] rfl rfl (fun e=>nomatch e) (abJ _) (nG _ _ _) (xU _ _) (by unfold maxLen;omega) (by omega) (by rw [World.size_alloc];omega) fun v' w2 hown' _ hb2=>?_
    have hb3:Below w.heap.size w w2:=(hb.alloc hbs _).trans hb2;have e1:(c:Int)%10000=(((c+0*m)%10000:Nat):Int):=by simp
    rw [e1,pX] at hown';clear e1 hown;go_wp2;go_roundw
    case rel=>
     refine ⟨k+1,(c+0*m) / 10000,os ++ [(c+0*m)%10000],by go_num,by simp,by omega,by omega,by rw [List.length_append,HOL.out];rfl,lH oZ (adl _ (by decide)),hown',hb3,?_⟩;exact FZ HOL.out HV.out (by rw [HNX.out];simp)
    case measure=>
     simp only [intOf];omega
theorem BH(ao:Option Addr)(n cp m c0:Nat)(xs:List Nat)(w:World)(hn:n≤1073741824)(hm:m≤65536)(hc:c0≤1000000)(hr:Rw .i64 B4 w ao n cp xs):
  Calls Tryz.prog 120 #[.slice ao n cp,.int .i64 (m:Int),.int .i64 (c0:Int)] w fun e w'=>∃ ro k c',e= .returned (.slice ro k c')∧Rw .i64 B4 w' ro k c' (aT (jX xs*m+c0))∧Below w.heap.size w w':=
 (BI ao n cp m c0 xs w hn hm hc hr).mono fun e w' ⟨ro,k,c',he,h1,_,h2⟩=>⟨ro,k,c',he,h1,h2⟩
theorem Wy(ao:Option Addr)(n cp:Nat)(xs:List Nat)(w:World)(hn:n≤100000000)(hr:Rw .u32 bT w ao n cp xs):
  Calls Tryz.prog 110 #[.slice ao n cp] w fun e w'=>∃ ro k c',e= .returned (.slice ro k c')∧Rw .i64 B4 w' ro k c' (aT (val xs))∧k≤3*n∧rH w.heap.size w' ro c'∧Below w.heap.size w w':=by
 have hl:=hr.len;have HL:=aS hl;clear hl;go_enter Tryz.func110,Tryz.ntmps110;go_wp2_with fail;go_loopw [3,4] (fun s3 s4 wr=>∃ (k:Nat) (ro:Option Addr) (m c':Nat),k≤n∧s4= .int .i64 ((k:Int)-1)∧s3= .slice ro m c'∧Rw .i64 B4 wr ro m c' (aT (aO bT (xs.drop k)))∧rH w.heap.size wr ro c'∧Below w.heap.size w wr) (fun _ s4 _=>(intOf s4+1).toNat)
 case atStart=>exact ⟨n,none,0,0,abJ _,rfl,rfl,by rw [List.drop_of_length_le (Nat.le_of_eq HL.out)];exact Rw.nil _ _ _,rH.nil _ _ _,Below.refl _ _⟩
 case round=>
  obtain ⟨k,ro,m,c',hk,rfl,rfl,hrow,hown,hb⟩:=hrel;have hlen:=hrow.len;have hmB:m≤300000000:=by
   have h1:=nC (B:=bT) (xs:=xs.drop k) (fun x hx=>hr.lt x (List.mem_of_mem_drop hx));have h2:=rY h1;rw [hlen,List.length_drop,HL.out] at h2;omega
  clear hlen
  by_cases h0:k=0
  ·subst h0
   go_wp2;go_ret;refine ⟨_,_,_,rfl,by rw [List.drop_zero] at hrow;exact hrow,?_,hown,hb⟩;have h1:=rY (JJ hr.lt);rw [List.drop_zero] at hrow;have h3:=hrow.len;rw [HL.out] at h1;unfold val at h1;omega
  ·obtain ⟨j,rfl⟩:∃ j,k=j+1:=⟨k-1,by omega⟩
   obtain ⟨b,off,x,rfl,hx,kC,hcx⟩:=(hr.ext hb).at (show j < n by omega);have hx':x < 4294967296:=kC;obtain ⟨xh,hxh⟩:∃ xh,xh=x / 65536:=⟨_,rfl⟩
   obtain ⟨xl,hxl⟩:∃ xl,xl=x%65536:=⟨_,rfl⟩
   have e1:(x:Int) / 65536=(xh:Int):=by omega
   have e2:(x:Int)%65536=(xl:Int):=by omega
   have hxhB:xh < 65536:=by omega
   have hxlB:xl < 65536:=by omega
   have hx2:x=xh*65536+xl:=by omega
   have hval:=tK bT hx;have afW:=aS hval;have HX2:=aS hx2;clear hx kC hxh hxl hx2 hval;go_wp2_with fail;refine (BH _ m c' 65536 xh _ _ (by omega) (by omega) (by omega) hrow).mono ?_;rintro e w1 ⟨r1,k1,c1,rfl,hrow1,hb1⟩;rw [dS] at hrow1;have hk1:k1≤300000003:=by
    have h3:jX (aT (aO bT (xs.drop (j+1))))*65536+xh < bT^(n-(j+1)+1):=by
     rw [dS];have h1:=nC (B:=bT) (xs:=xs.drop (j+1)) (fun x hx=>hr.lt x (List.mem_of_mem_drop hx));rw [List.length_drop,HL.out] at h1;rw [Nat.pow_succ];unfold bT at *
     omega
    have h4:=rY h3;rw [dS,hrow1.len] at h4;omega
   have anH:=hb1.cell (p:=⟨b,off+j,none⟩) (World.block_lt_of_cell? _ _ hcx);rw [hcx] at anH;go_wp2_with fail;refine (BI _ k1 c1 65536 xl _ _ (by omega) (by omega) (by omega) hrow1).mono ?_;rintro e w2 ⟨r2,k2,c2,rfl,hrow2,hown2,hb2⟩;have hown3:=hown2.mono (acS hb.size hb1.size);clear hown2 hown;rw [dS] at hrow2;go_wp2;go_roundw
   case rel=>
    refine ⟨j,r2,k2,c2,by omega,by go_num,rfl,?_,hown3,hb.trans ((lU hb1 hb2).mono hb.size)⟩;rw [afW.out,HX2.out,show xh*65536+xl+bT*aO bT (xs.drop (j+1))=(aO bT (xs.drop (j+1))*65536+xh)*65536+xl by unfold bT;omega];exact hrow2
   case measure=>simp [intOf];try omega
theorem Tryz.infoU32:(Tryz.prog.info? 165).map (fun i=>(i.zero,i.size,i.bytes))=some (some (.int .u32 0),1,4):=by kernel_rfl
theorem Tryz.sizeU32:(Tryz.prog.info? 165).map (·.size)=some 1:=by kernel_rfl
theorem YI(ao:Option Addr)(n c:Nat)(xs:List Nat)(w:World)(hm:n≤9223372036854775807)(hr:Rw .u32 bT w ao n c xs):
  Calls Tryz.prog 155 #[.slice ao n c] w fun e w'=>e= .returned (.slice ao (uf xs n) c)∧w'=w:=by
 have hlc:=hr.le;go_enter Tryz.func155,Tryz.ntmps155;go_wp2;go_loop [3] (fun n'=>∃ k:Nat,k≤n∧n'= .int .i64 k∧uf xs k=uf xs n) (fun n'=>(intOf n').toNat)
 case atStart=>exact ⟨n,abJ _,rfl,rfl⟩
 case round=>
  obtain ⟨k,hk,rfl,hcut⟩:=hrel;have Ry:=aS hcut;clear hcut
  by_cases h0:k=0
  ·subst h0
   go_wp2;go_ret;exact ⟨by rw [← Ry];rfl,rfl⟩
  ·obtain ⟨j,rfl⟩:∃ j,k=j+1:=⟨k-1,by omega⟩
   obtain ⟨b,off,x,rfl,hx,kC,hcj⟩:=hr.at (show j < n by omega);have Hx:=aS hx;clear hx hr
   by_cases hz:x=0
   ·subst hz
    go_wp2;go_round
    case rel=>exact ⟨j,by omega,rfl,by rw [← Ry];simp [uf,Hx.out]⟩
    case measure=>simp [intOf]
   ·have hz':((x:Int)==0)=false:=by simpa using hz
    go_wp2;go_ret;exact ⟨by rw [← Ry];simp [uf,Hx.out,hz],rfl⟩
/-- cut: the same memory, as far as the row of the number goes. -/
theorem gW(ao:Option Addr)(n c:Nat)(xs:List Nat)(w:World)(hm:n≤9223372036854775807)(hr:Rw .u32 bT w ao n c xs):
  Calls Tryz.prog 155 #[.slice ao n c] w fun e w'=>∃ m,e= .returned (.slice ao m c)∧m≤n∧Rw .u32 bT w ao m c (dA (val xs))∧w=w':=by
 refine (YI ao n c xs w hm hr).mono fun e w' ⟨he,hw⟩=>?_
 have hcut:=Wh xs hr.lt;have hr2:=hr.take (Dc xs n);have hl:=hr.len;subst hl;rw [hcut] at hr2;exact ⟨_,he,Dc _ _,hr2,hw.symm⟩
theorem Qr(ao:Option Addr)(n c:Nat)(xs:List Nat)(w:World)(hm:n≤1073741824)(hr:Rw .u32 bT w ao n c xs):
  Calls Tryz.prog 147 #[.slice ao n c] w fun e w'=>∃ ao' m c',e= .returned (.slice ao' m c')∧m≤n∧Rw .u32 bT w' ao' m c' (dA (val xs))∧rH w.heap.size w' ao' c'∧Below w.heap.size w w':=by
 go_enter Tryz.func147,Tryz.ntmps147;go_wp2_with fail;refine (gW ao n c xs _ (by omega) hr).mono ?_;rintro e w' ⟨m,rfl,hmn,hr2,rfl⟩;have hl2:=hr2.len;go_wp2_with (at_builtin;refine Hid.out ?_);refine aS ?_;refine jY _ rfl _ _ 34 rfl w.heap.size 165 (.int .u32 0) 1 4 Tryz.underlying34 Tryz.infoU32 rfl (by decide) (.slice none 0 0) 0 [] rfl (World.ownsRow_nil _ _ _ _) ao m c (eP .u32 (dA (val xs))) rfl (by rw [bM];omega) hr2.2.2.1 hr2.le hr2.cells (IW _ _) (by unfold maxLen;omega) (by omega) (abJ _) fun v' w1 hown _ hb=>?_
 rw [Nat.zero_add,List.nil_append] at hown;obtain ⟨ao',c',rfl,h1,h2⟩:=lI (k:= .u32) (B:=bT) (by rw [hl2];exact hown) hr2.lt;rw [hl2] at h1;go_wp2;go_ret;exact ⟨_,_,_,rfl,hmn,h1,h2,hb⟩
/-- -1, 0, 1: which one is greater. -/
def kH(a b:Int):Int:=if a < b then -1 else if a=b then 0 else 1
theorem Ad{B:Nat}{xs ys:List Nat}(hx:∀ x∈xs,x < B)(hl:xs.length=ys.length){k:Nat}(hk:k < xs.length)(hd:xs.drop (k+1)=ys.drop (k+1)) 
  (hlt:xs[k] < ys[k]'(by omega)):aO B xs < aO B ys:=by
 rw [qg B xs (k+1) (by omega),qg B ys (k+1) (by omega),hd,jM B xs k hk,jM B ys k (by omega)];have h1:aO B (xs.take k) < B^k:=by
  have:=nC (xs:=xs.take k) (fun x h=>hx x (aio h));rwa [List.length_take,Nat.min_eq_left (by omega)] at this
 have h2:B^k*(xs[k]+1)≤B^k*(ys[k]'(by omega)):=ac4 _ hlt;rw [Nat.mul_add] at h2;omega
theorem UE(ao bo:Option Addr)(n c m d:Nat)(xs ys:List Nat)(w:World)(hn:n≤1073741824)(hm:m≤1073741824)(hr:Rw .u32 bT w ao n c xs)(hs:Rw .u32 bT w bo m d ys):
  Calls Tryz.prog 133 #[.slice ao n c,.slice bo m d] w fun e w'=>e= .returned (.int .i64 (kH (val xs) (val ys)))∧Below w.heap.size w w':=by
 go_enter Tryz.func133,Tryz.ntmps133;go_wp2_with fail;refine (gW ao n c xs _ (by omega) hr).mono ?_;rintro e w' ⟨n1,rfl,hn1,hr1,rfl⟩;go_wp2_with fail;refine (gW bo m d ys _ (by omega) hs).mono ?_;rintro e w' ⟨m1,rfl,hm1,hs1,rfl⟩;have hl1:=hr1.len;have hl2:=hs1.len;generalize hA:dA (val xs)=A at *
 generalize hB:dA (val ys)=B at *
 have HA:=aS hA;have HB:=aS hB;have OQ:=aS hl1;have HL2:=aS hl2;clear hA hB hl1 hl2;have hvx:val xs=val A:=by rw [← HA.out,aac]
 have hvy:val ys=val B:=by rw [← HB.out,aac]
 have HVX:=aS hvx;have Xp:=aS hvy;clear hvx hvy hr hs
 by_cases hne:n1=m1
 ·subst hne
  go_wp2_with fail;go_loopw [5] (fun i wr=>∃ k:Nat,k≤n1∧i= .int .i64 ((k:Int)-1)∧A.drop k=B.drop k∧Below w.heap.size w wr) (fun i _=>(intOf i+1).toNat)
  case atStart=>exact ⟨n1,abJ _,rfl,by rw [List.drop_of_length_le (Nat.le_of_eq OQ.out),List.drop_of_length_le (Nat.le_of_eq HL2.out)],Below.refl _ _⟩
  case round=>
   obtain ⟨k,hk,rfl,hd,hb⟩:=hrel;have Hd:=aS hd;clear hd
   by_cases h0:k=0
   ·subst h0
    go_wp2;go_ret;exact ⟨jg (by have:=Hd.out;simp only [List.drop_zero] at this;rw [HVX.out,Xp.out,this];simp [kH]),hb⟩
   ·obtain ⟨j,rfl⟩:∃ j,k=j+1:=⟨k-1,by omega⟩
    obtain ⟨b1,off1,x,rfl,hx,kC,hcx⟩:=(hr1.ext hb).at (show j < n1 by omega);obtain ⟨b2,off2,y,rfl,hy,hyB,hcy⟩:=(hs1.ext hb).at (show j < n1 by omega);have Hx:=aS hx;have Hy:=aS hy;clear hx hy
    by_cases hxy:x < y
    ·go_wp2
     go_quiet (fail);go_wp2;go_ret;refine ⟨jg ?_,jo hb _⟩;have hA:A.length=B.length:=by rw [OQ.out,HL2.out]
     have:=Ad (B:=bT) hr1.lt hA (k:=j) (by rw [OQ.out];omega) Hd.out (by
      obtain ⟨_,e1⟩:=abU.1 Hx.out;obtain ⟨_,e2⟩:=abU.1 Hy.out;rw [e1,e2];exact hxy)
     rw [HVX.out,Xp.out];unfold val;rw [kH,if_pos (by omega)]
    ·by_cases hyx:y < x
     ·have e1:decide (x < y)=false:=by simpa using hxy
      go_wp2;go_quiet (fail);go_wp2;go_quiet (fail);go_wp2;go_ret;refine ⟨jg ?_,jo (jo hb _) _⟩;have hA:B.length=A.length:=by rw [OQ.out,HL2.out]
      have:=Ad (B:=bT) hs1.lt hA (k:=j) (by rw [HL2.out];omega) Hd.out.symm (by
       obtain ⟨_,e1⟩:=abU.1 Hx.out;obtain ⟨_,e2⟩:=abU.1 Hy.out;rw [e1,e2];exact hyx)
      rw [HVX.out,Xp.out];unfold val;rw [kH,if_neg (by omega),if_neg (by omega)]
     ·have e1:decide (x < y)=false:=by simpa using hxy
      have e2:decide (y < x)=false:=by simpa using hyx
      obtain rfl:x=y:=by omega
      go_wp2;go_quiet (fail);go_wp2;go_quiet (fail);go_wp2;go_roundw
      case rel=>
       refine ⟨j,by omega,by go_num,?_,jo hb _⟩;obtain ⟨h1,e1⟩:=abU.1 Hx.out;obtain ⟨h2,e2⟩:=abU.1 Hy.out;rw [List.drop_eq_getElem_cons h1,List.drop_eq_getElem_cons h2,e1,e2,Hd.out]
      case measure=>simp [intOf]
 ·by_cases hlt:n1 < m1
  ·go_wp2
   go_ret;exact ⟨jg (by have:=uX (m:=val xs) (n:=val ys) (by rw [HA.out,HB.out,OQ.out,HL2.out];exact hlt);rw [kH,if_pos (by omega)]),Below.refl _ _⟩
  ·go_wp2
   go_ret;exact ⟨jg (by have:=uX (m:=val ys) (n:=val xs) (by rw [HA.out,HB.out,OQ.out,HL2.out];omega);rw [kH,if_neg (by omega),if_neg (by omega)]),Below.refl _ _⟩
theorem LM(ao:Option Addr)(n c:Nat)(xs:List Nat)(v:Nat)(w:World)(hn:n≤1073741824)(hv0:0 < v)(hvB:v≤65536)(hr:Rw .i64 B4 w ao n c xs):
  Calls Tryz.prog 121 #[.slice ao n c,.int .i64 (v:Int)] w fun e w'=>∃ ro k c',e= .returned (.tuple #[.slice ro k c',.int .i64 ((jX xs%v:Nat):Int)])∧k≤n∧Rw .i64 B4 w' ro k c' (aT (jX xs / v))∧rH w.heap.size w' ro c'∧Below w.heap.size w w':=by
 have aof:((v:Int)==0)=false:=by rw [beq_eq_false_iff_ne];omega
 have hvpos:(1:Int)≤v:=by omega
 go_enter Tryz.func121,Tryz.ntmps121;go_wp2_with (at_make;refine Hid.out ?_);refine aS ?_;refine jq _ rfl _ _ 45 rfl 3 (.int .i64 0) 8 Tryz.underlying45 Tryz.infoInt rfl .i64 .i64 _ _ n rfl rfl (by omega) (by omega) (by omega) (by unfold maxLen;omega) fun w2 hblk hbelow hlt=>?_
 obtain ⟨G,hG⟩:∃ G,G=w.heap.size:=⟨_,rfl⟩
 rw [← hG] at hblk hlt hbelow ⊢;have HG:=aS hG;clear hG;rw [← eX] at hblk;have hpl:=hr.len;have LX:=aS hpl;clear hpl;go_wp2_with fail;go_loopw [7,8] (fun s7 s8 wr=>∃ (k r:Nat) (os:List Nat),k≤n∧s8= .int .i64 ((k:Int)-1)∧s7= .int .i64 r∧r < v∧os.length=n∧(∀ o∈os,o < B4)∧kX wr G 3 (eP .i64 os)∧Below G w wr∧
   aO B4 (xs.drop k)=v*aO B4 (os.drop k)+r) (fun _ s8 _=>(intOf s8+1).toNat)
 case atStart=>exact ⟨n,0,List.replicate n 0,abJ _,rfl,rfl,hv0,by simp,(fun o ho=>by have:=(afu.1 ho).2;subst this;decide),hblk,hbelow,by rw [List.drop_of_length_le (Nat.le_of_eq LX.out),List.drop_of_length_le (by simp)];rfl⟩
 case round=>
  obtain ⟨k,r,os,hk,rfl,rfl,hrv,hol,oZ,hb,hbe,hv⟩:=hrel;have HV:=aS hv;have HOL:=aS hol;clear hv hol hblk hbelow;have hb0:=hb.lt
  by_cases h0:k=0
  ·subst h0
   have hv:=HV.out;rw [List.drop_zero,List.drop_zero] at hv;have OU:=aS hv;clear hv HV;go_wp2_with fail;have hrow:=hb.rw oZ;rw [HOL.out] at hrow;refine (wM _ _ _ _ _ (by omega) hrow).mono ?_;rintro e w' ⟨r1,rfl,hr1',hres,rfl⟩;have hown:=hb.own (base:=G) (n:=n) (abJ _) (by rw [bM,HOL.out];exact abJ _);go_wp2;go_ret2;have hmod:jX xs%v=r:=by
    have h2:=OU.out;unfold jX;rw [h2,Nat.mul_add_mod,Nat.mod_eq_of_lt hrv]
   have hdiv:jX xs / v=jX os:=by
    have h2:=OU.out;unfold jX;rw [h2,Nat.mul_add_div hv0,Nat.div_eq_of_lt hrv,Nat.add_zero]
   exact ⟨_,_,_,by rw [hmod];rfl,hr1',by rw [hdiv];exact hres,by rw [← HG.out];exact hown,by rw [← HG.out];exact hbe⟩
  ·obtain ⟨j,rfl⟩:∃ j,k=j+1:=⟨k-1,by omega⟩
   obtain ⟨b1,off1,x,rfl,hx,kC,hcx⟩:=(hr.ext (by rw [← HG.out];exact hbe)).at (show j < n by omega);have hx':x < 10000:=kC;have Hx:=aS hx;clear hx kC;have hcell:=hb.cell j (by rw [bM,HOL.out];omega);have hfree:=hb.free j;obtain ⟨s,hs⟩:∃ s:Nat,s=r*10000+x:=⟨_,rfl⟩
   have hsI:(r:Int)*10000+(x:Int)=(s:Int):=by omega
   have hqB:s / v < 10000:=by
    rw [Nat.div_lt_iff_lt_mul hv0,hs];have:=abN 10000 (show r+1≤v from hrv);rw [Nat.add_mul,Nat.mul_comm v] at this;omega
   obtain ⟨q,hq⟩:∃ q:Nat,q=s / v:=⟨_,rfl⟩
   obtain ⟨t,ht⟩:∃ t:Nat,t=s%v:=⟨_,rfl⟩
   have htv:t < v:=by rw [ht];exact adl _ hv0
   have hqv:v*q+t=s:=by rw [hq,ht];exact aiU s v
   have hq':(s:Int) / (v:Int)=(q:Int):=by rw [hq];rfl
   have ht':(s:Int)%(v:Int)=(t:Int):=by rw [ht];rfl
   rw [← hq] at hqB;have HS:=aS hs;have HQV:=aS hqv;clear hs hqv hq ht;go_wp2;go_roundw
   case rel=>
    have hv:=hb.set j (.int .i64 (q:Int));rw [fK] at hv;refine ⟨j,t,os.set j q,by omega,by go_num,?_,htv,by rw [List.length_set];exact HOL.out,dK oZ hqB j,?_,hbe.setCell (abJ _) _,BX (by rw [HOL.out];omega) Hx.out HV.out HS.out HQV.out⟩
    ·first | rfl | (rw [ht'])
    ·exact hv
   case measure=>simp [intOf];try omega
theorem aej(ao:Option Addr)(n c N:Nat)(w:World)(hn:n≤1000000000)(hr:Rw .i64 B4 w ao n c (aT N)):
  Calls Tryz.prog 93 #[.slice ao n c] w fun e w'=>∃ ro k c',e= .returned (.slice ro k c')∧Rw .u32 bT w' ro k c' (dA N)∧k≤n∧rH w.heap.size w' ro c'∧Below w.heap.size w w':=by
 go_enter Tryz.func93,Tryz.ntmps93;obtain ⟨v0,hv0⟩:∃ v,v=Value.slice none 0 0:=⟨_,rfl⟩
 go_wp2_with fail;go_loopw [0,3] (fun s0 s3 wr=>∃ (V k m c':Nat) (ao:Option Addr) (os:List Nat),s0= .slice ao m c'∧Rw .i64 B4 wr ao m c' (aT V)∧m+k≤n∧os.length=k∧(∀ o∈os,o < bT)∧wr.ownsRow w.heap.size 165 1 s3 k (eP .u32 os)∧
   Below w.heap.size w wr∧os ++dA V=dA N) (fun s0 _ _=>match s0 with | .slice _ m _=>m | _=>0)
 case atStart=>exact ⟨N,0,n,c,ao,[],rfl,hr,by omega,rfl,by simp,World.ownsRow_nil _ _ _ _,Below.refl _ _,rfl⟩
 case round=>
  obtain ⟨V,k,m,c',ao,os,rfl,hrow,hmk,hol,oZ,hown,hb,hv⟩:=hrel;have hlen:=hrow.len;have HLEN:=aS hlen;have HOL:=aS hol;have HV:=aS hv;clear hlen hol hv;have hbs:=hb.size
  by_cases hm0:m=0
  ·subst hm0
   obtain ⟨ao',c1,rfl,h1,h2⟩:=lI (k:= .u32) (B:=bT) (by rw [HOL.out];exact hown) oZ;rw [HOL.out] at h1;go_wp2;go_ret;have hV0:V=0:=Df.1 (adb HLEN.out);have h3:=HV.out;rw [hV0,Tv,List.append_nil] at h3;rw [h3] at h1;exact ⟨_,_,_,by rw [HOL.out];rfl,h1,by omega,h2,hb⟩
  ·have akk:V≠0:=by
    rintro rfl;exact hm0 (by rw [← HLEN.out];rfl)
   have HVN:=aS akk;clear akk;go_wp2_with fail;refine (LM _ _ _ _ 65536 _ (by omega) (by omega) (by omega) hrow).mono ?_;rintro e w1 ⟨r1,k1,c1,rfl,hk1,hrow1,_,hb1⟩;rw [dS] at hrow1 ⊢;obtain ⟨lo,hlo⟩:∃ lo,lo=V%65536:=⟨_,rfl⟩
   have ac9:lo < 65536:=by omega
   rw [← hlo];have HLO:=aS hlo;clear hlo;go_wp2_with fail;refine (LM _ _ _ _ 65536 _ (by omega) (by omega) (by omega) hrow1).mono ?_;rintro e w2 ⟨r2,k2,c2,rfl,hk2,hrow2,Zr,hb2⟩;rw [dS] at hrow2 ⊢;obtain ⟨hi,hhi⟩:∃ hi,hi=V / 65536%65536:=⟨_,rfl⟩
   have akD:hi < 65536:=by omega
   rw [← hhi];have HHI:=aS hhi;clear hhi;have Np:=lU hb1 hb2;have akq:Below w.heap.size w w2:=hb.trans (Np.mono hbs);have anE:=akq.size;have hown2:w2.ownsRow w.heap.size 165 1 u3 k (eP .u32 os):=by
    refine hown.kept (row:=none) ⟨Np.os,Np.tape,Np.output,Np.size,fun j hj _=>Np.block j hj⟩ ?_;cases h5:u3.ownBlock <;> simp
   have anW:k2 < m:=by
    have h1:=hrow2.len;have h2:V / 65536 / 65536 < V:=by have:=HVN.out;omega
    have h3:aT V=V%B4 ::aT (V / B4):=EL HVN.out;have h4:(aT (V / 65536 / 65536)).length≤(aT (V / B4)).length:=o9 (by unfold B4;omega);have h5:=HLEN.out;rw [h3,List.length_cons] at h5;omega
   have afd:V%bT=hi*65536+lo:=by rw [HLO.out,HHI.out];unfold bT;omega
   have Zp:V / bT=V / 65536 / 65536:=by unfold bT;omega
   have hcast:(hi:Int)*65536+(lo:Int)=((hi*65536+lo:Nat):Int):=by omega
   have hstep:(os ++ [hi*65536+lo]) ++dA (V / 65536 / 65536)=dA N:=by
    rw [← HV.out,WR HVN.out,afd,Zp,List.append_assoc];rfl
   have HST:=aS hstep;have HC:=aS hcast;clear afd Zp hcast hstep;go_wp2_with (at_builtin;refine Hid.out ?_);refine aS<|jY _ rfl _ _ 34 rfl w.heap.size 165 (.int .u32 0) 1 4 Tryz.underlying34 Tryz.infoU32 rfl (by decide) u3 k (eP .u32 os) rfl (hown2.alloc _) (some ⟨w2.heap.size,0,none⟩) 1 1 [Value.int .u32 ((hi:Int)*65536+(lo:Int))] rfl rfl (fun e=>nomatch e) (abJ _) (nG _ _ _) (xU _ _) (by unfold maxLen;omega) (by omega) (by rw [World.size_alloc];omega) fun v' w3 hown' hgrow3 hb3=>?_
   have hbA:Below w2.heap.size w2 (w2.alloc (.cells #[.int .u32 ((hi:Int)*65536+(lo:Int))] 165)):=(Below.refl _ _).alloc (abJ _) _;have hb4:Below w.heap.size w w3:=(akq.trans (hbA.mono anE)).trans hb3;have hlim:hi*65536+lo < bT:=by unfold bT;omega
   rw [HC.out,pX] at hown';have hrow3:Rw .i64 B4 w3 r2 k2 c2 (aT (V / 65536 / 65536)):=(hrow2.ext hbA).grown (Zr.ext hbA) hgrow3 (fun j hj=>by
    have h6:=(hown.lt j hj).2;have h7:=hb1.size;omega)
   clear hgrow3 hbA hrow2 Zr hown2 hown hrow1 hrow;go_wp2;go_roundw
   case rel=>exact ⟨V / 65536 / 65536,k+1,k2,c2,r2,os ++ [hi*65536+lo],rfl,hrow3,by omega,by rw [List.length_append,HOL.out];rfl,lH oZ hlim,hown',hb4,HST.out⟩
   case measure=>exact anW
theorem O9(ao bo:Option Addr)(n c m d M N:Nat)(w:World)(hn:n≤1073741824)(hm:m≤1073741824)(hr:Rw .i64 B4 w ao n c (aT M))(hs:Rw .i64 B4 w bo m d (aT N)):
  Calls Tryz.prog 141 #[.slice ao n c,.slice bo m d] w fun e w'=>e= .returned (.int .i64 (kH M N))∧Below w.heap.size w w':=by
 have hl1:=hr.len;have hl2:=hs.len;generalize hA:aT M=A at *
 generalize hB:aT N=B at *
 have hvx:M=jX A:=by rw [← hA,dS]
 have hvy:N=jX B:=by rw [← hB,dS]
 have HA:=aS hA;have HB:=aS hB;have OQ:=aS hl1;have HL2:=aS hl2;have HVX:=aS hvx;have Xp:=aS hvy;clear hA hB hl1 hl2 hvx hvy;go_enter Tryz.func141,Tryz.ntmps141
 by_cases hne:n=m
 ·subst hne
  go_wp2_with fail;go_loopw [5] (fun i wr=>∃ k:Nat,k≤n∧i= .int .i64 ((k:Int)-1)∧A.drop k=B.drop k∧Below w.heap.size w wr) (fun i _=>(intOf i+1).toNat)
  case atStart=>exact ⟨n,abJ _,rfl,by rw [List.drop_of_length_le (Nat.le_of_eq OQ.out),List.drop_of_length_le (Nat.le_of_eq HL2.out)],Below.refl _ _⟩
  case round=>
   obtain ⟨k,hk,rfl,hd,hb⟩:=hrel;have Hd:=aS hd;clear hd
   by_cases h0:k=0
   ·subst h0
    go_wp2;go_ret;exact ⟨jg (by have:=Hd.out;simp only [List.drop_zero] at this;rw [HVX.out,Xp.out,this];simp [kH]),hb⟩
   ·obtain ⟨j,rfl⟩:∃ j,k=j+1:=⟨k-1,by omega⟩
    obtain ⟨b1,off1,x,rfl,hx,kC,hcx⟩:=(hr.ext hb).at (show j < n by omega);obtain ⟨b2,off2,y,rfl,hy,hyB,hcy⟩:=(hs.ext hb).at (show j < n by omega);have Hx:=aS hx;have Hy:=aS hy;clear hx hy
    by_cases hxy:x=y
    ·subst hxy
     go_wp2;go_quiet (fail);go_wp2;go_roundw
     case rel=>
      refine ⟨j,by omega,by go_num,?_,jo hb _⟩;obtain ⟨h1,e1⟩:=abU.1 Hx.out;obtain ⟨h2,e2⟩:=abU.1 Hy.out;rw [List.drop_eq_getElem_cons h1,List.drop_eq_getElem_cons h2,e1,e2,Hd.out]
     case measure=>simp [intOf]
    ·have e1:((x:Int) !=(y:Int))=true:=by rw [bne_iff_ne];omega
     by_cases hlt:x < y
     ·have e2:decide (x < y)=true:=by simpa using hlt
      go_wp2;go_quiet (fail);go_wp2;go_quiet (fail);go_wp2;go_ret;refine ⟨jg ?_,by first | exact jo hb _ | exact jo (jo hb _) _⟩;have hA:A.length=B.length:=by rw [OQ.out,HL2.out]
      have:=Ad (B:=B4) hr.lt hA (k:=j) (by rw [OQ.out];omega) Hd.out (by
       obtain ⟨_,e1⟩:=abU.1 Hx.out;obtain ⟨_,e2⟩:=abU.1 Hy.out;rw [e1,e2];exact hlt)
      rw [HVX.out,Xp.out];unfold jX;rw [kH,if_pos (by omega)]
     ·have e2:decide (x < y)=false:=by simpa using hlt
      go_wp2;go_quiet (fail);go_wp2;go_quiet (fail);go_wp2;go_ret;refine ⟨jg ?_,by first | exact jo hb _ | exact jo (jo hb _) _⟩;have hA:B.length=A.length:=by rw [OQ.out,HL2.out]
      have:=Ad (B:=B4) hs.lt hA (k:=j) (by rw [HL2.out];omega) Hd.out.symm (by
       obtain ⟨_,e1⟩:=abU.1 Hx.out;obtain ⟨_,e2⟩:=abU.1 Hy.out;rw [e1,e2];omega)
      rw [HVX.out,Xp.out];unfold jX;rw [kH,if_neg (by omega),if_neg (by omega)]
 ·by_cases hlt:n < m
  ·go_wp2
   go_ret;exact ⟨jg (by have:=AQ (m:=M) (n:=N) (by rw [HA.out,HB.out,OQ.out,HL2.out];exact hlt);rw [kH,if_pos (by omega)]),Below.refl _ _⟩
  ·go_wp2
   go_ret;exact ⟨jg (by have:=AQ (m:=N) (n:=M) (by rw [HA.out,HB.out,OQ.out,HL2.out];omega);rw [kH,if_neg (by omega),if_neg (by omega)]),Below.refl _ _⟩
theorem QM(ao bo:Option Addr)(n c m d M N:Nat)(w:World)(hn:n≤1073741824)(hm:m≤1073741824)(hle:N≤M)(hr:Rw .i64 B4 w ao n c (aT M))(hs:Rw .i64 B4 w bo m d (aT N)):
  Calls Tryz.prog 142 #[.slice ao n c,.slice bo m d] w fun e w'=>∃ ro k c',e= .returned (.slice ro k c')∧Rw .i64 B4 w' ro k c' (aT (M-N))∧k≤n∧rH w.heap.size w' ro c'∧Below w.heap.size w w':=by
 have hmn:=o9 hle;rw [hr.len,hs.len] at hmn;have hpl:=hr.len;have EY:=hs.len;have LX:=aS hpl;have OT:=aS EY;have HLE:=aS hle;clear hpl EY hle;go_enter Tryz.func142,Tryz.ntmps142;go_wp2_with (at_make;refine Hid.out ?_);refine aS<|jq _ rfl _ _ 45 rfl 3 (.int .i64 0) 8 Tryz.underlying45 Tryz.infoInt rfl .i64 .i64 _ _ n rfl rfl (by omega) (by omega) (by omega) (by unfold maxLen;omega) fun w2 hblk hbelow hlt=>?_
 obtain ⟨G,hG⟩:∃ G,G=w.heap.size:=⟨_,rfl⟩
 rw [← hG] at hblk hlt hbelow ⊢;have HG:=aS hG;clear hG;rw [← eX] at hblk;go_wp2_with fail;go_loopw [6,14] (fun s6 s14 wr=>∃ (k cy:Nat) (os:List Nat),k≤n∧s14= .int .i64 k∧s6= .int .i64 cy∧cy≤1∧os.length=n∧(∀ o∈os,o < B4)∧kX wr G 3 (eP .i64 os)∧Below G w wr∧
   aO B4 (os.take k)+aO B4 ((aT N).take k)=aO B4 ((aT M).take k)+B4^k*cy) (fun _ s14 _=>n-(intOf s14).toNat)
 case atStart=>exact ⟨0,0,List.replicate n 0,abR _,rfl,rfl,by omega,by simp,(fun o ho=>by have:=(afu.1 ho).2;subst this;decide),hblk,hbelow,by simp [aO]⟩
 case round=>
  obtain ⟨k,cy,os,hk,rfl,rfl,hcy,hol,oZ,hb,hbe,hv⟩:=hrel;have HV:=aS hv;have HOL:=aS hol;clear hv hol hblk hbelow;have hb0:=hb.lt
  by_cases hkn:k < n
  ·obtain ⟨b1,off1,x,rfl,hx,kC,hcx⟩:=(hr.ext (by rw [← HG.out];exact hbe)).at hkn
   have hcell:=hb.cell k (by rw [bM,HOL.out];omega);have hfree:=hb.free k;have hx':x < 10000:=kC;have Hx:=aS hx;clear hx kC;have key:∀ y:Nat,y < 10000→aO B4 ((aT N).take (k+1))=aO B4 ((aT N).take k)+B4^k*y→∃ d1 b:Nat,d1 < B4∧b≤1∧(d1:Int)=(if (x:Int)-cy-y < 0 then (x:Int)-cy-y+10000 else (x:Int)-cy-y)∧(b:Int)=(if (x:Int)-cy-y < 0 then 1 else 0)∧
     aO B4 ((os.set k d1).take (k+1))+aO B4 ((aT N).take (k+1))=aO B4 ((aT M).take (k+1))+B4^(k+1)*b:=by
    intro y hy hQ
    by_cases h:cy+y≤x
    ·exact ⟨x-cy-y,0,by unfold B4;omega,by omega,by rw [if_neg (by omega)];omega,by rw [if_neg (by omega)];rfl,Ej (by rw [HOL.out];omega) HV.out (aQ _ Hx.out) hQ (by unfold B4;omega)⟩
    ·exact ⟨x+10000-cy-y,1,by unfold B4;omega,by omega,by rw [if_pos (by omega)];omega,by rw [if_pos (by omega)];rfl,Ej (by rw [HOL.out];omega) HV.out (aQ _ Hx.out) hQ (by unfold B4;omega)⟩
   by_cases hkq:k < m
   ·obtain ⟨b2,off2,y,rfl,hy,hyB,WH⟩:=(hs.ext (by rw [← HG.out];exact hbe)).at hkq
    have hy':y < 10000:=hyB;obtain ⟨d1,b,hd1,hb1,e1,e2,e3⟩:=key y hy' (aQ _ hy);have E1:=aS e1;have E2:=aS e2;have E3:=aS e3;clear key hy hyB e1 e2 e3
    by_cases hneg:(x:Int)-cy-y < 0
    ·go_wp2
     go_roundw
     case rel=>
      have hv:=hb.set k (.int .i64 (d1:Int));rw [fK,E1.out,if_pos hneg] at hv;exact ⟨k+1,b,os.set k d1,by omega,by go_num,by rw [E2.out,if_pos hneg],hb1,by rw [List.length_set];exact HOL.out,dK oZ hd1 k,hv,hbe.setCell (abJ _) _,E3.out⟩
     case measure=>simp [intOf];omega
    ·go_wp2
     go_roundw
     case rel=>
      have hv:=hb.set k (.int .i64 (d1:Int));rw [fK,E1.out,if_neg (by omega)] at hv;exact ⟨k+1,b,os.set k d1,by omega,by go_num,by rw [E2.out,if_neg (by omega)],hb1,by rw [List.length_set];exact HOL.out,dK oZ hd1 k,hv,hbe.setCell (abJ _) _,E3.out⟩
     case measure=>simp [intOf];omega
   ·obtain ⟨d1,b,hd1,hb1,e1,e2,e3⟩:=key 0 (by omega) (by rw [iL _ (by rw [OT.out];omega)];simp)
    have E1:=aS e1;have E2:=aS e2;have E3:=aS e3;clear key e1 e2 e3
    by_cases hneg:(x:Int)-cy < 0
    ·go_wp2
     go_roundw
     case rel=>
      have hv:=hb.set k (.int .i64 (d1:Int));rw [fK,E1.out,if_pos (by omega)] at hv;refine ⟨k+1,b,os.set k d1,by omega,by go_num,by rw [E2.out,if_pos (by omega)],hb1,by rw [List.length_set];exact HOL.out,dK oZ hd1 k,?_,hbe.setCell (abJ _) _,E3.out⟩;rw [show (x:Int)-cy+10000=(x:Int)-cy-((0:Nat):Int)+10000 by omega];exact hv
     case measure=>simp [intOf];omega
    ·go_wp2
     go_roundw
     case rel=>
      have hv:=hb.set k (.int .i64 (d1:Int));rw [fK,E1.out,if_neg (by omega)] at hv;refine ⟨k+1,b,os.set k d1,by omega,by go_num,by rw [E2.out,if_neg (by omega)],hb1,by rw [List.length_set];exact HOL.out,dK oZ hd1 k,?_,hbe.setCell (abJ _) _,E3.out⟩;rw [show (x:Int)-cy=(x:Int)-cy-((0:Nat):Int) by omega];exact hv
     case measure=>simp [intOf];omega
  ·obtain rfl:k=n:=by omega
   go_wp2_with fail;have hrow:=hb.rw oZ;rw [HOL.out] at hrow;refine (wM _ _ _ _ _ (by omega) hrow).mono ?_;rintro e w' ⟨r1,rfl,hr1',hres,rfl⟩;go_wp2;go_ret;refine ⟨_,_,_,rfl,?_,hr1',by rw [← HG.out];exact hb.own (abJ _) (by rw [bM,HOL.out];exact abJ _),by rw [← HG.out];exact hbe⟩;have hval:jX os=M-N:=by
    have h2:=HV.out;rw [bJ _ LX.out,List.take_of_length_le (l:=aT N) (by rw [OT.out];exact hmn),bJ _ HOL.out] at h2;have h3:=Hw oZ;rw [HOL.out] at h3
    change jX os+jX (aT N)=jX (aT M)+_ at h2
    rw [dS,dS] at h2;have h4:=HLE.out;have:cy=0∨cy=1:=by omega
    rcases this with rfl | rfl
    ·omega
    ·rw [Nat.mul_one] at h2;omega
   rw [← hval];exact hres
theorem ady(w:World)(base:Nat)(k:IntKind)(x:Nat)(t:TypeId)(hb:base≤w.heap.size):
  (w.alloc (.cells #[.int k (x:Int)] t)).ownsRow base t 1 (.slice (some ⟨w.heap.size,0,none⟩) 1 1) 1 (eP k [x]):=
 ⟨rfl,.inr ⟨w.heap.size,1,_,rfl,hb,heap_alloc_new w _,abJ _,by decide,rfl,rfl⟩⟩
theorem UD{a b:Int}:kH a b≤0↔a≤b:=by
 unfold kH;split
 ·omega
 ·split <;> omega
theorem YU(ao bo:Option Addr)(n c m d M N:Nat)(w:World)(hn:n≤100000000)(hm:m≤100000000)(hN:0 < N)(hr:Rw .i64 B4 w ao n c (aT M))(hs:Rw .i64 B4 w bo m d (aT N)):
  Calls Tryz.prog 119 #[.slice ao n c,.slice bo m d] w fun e w'=>∃ qo qn qc ro rn rc,e= .returned (.tuple #[.slice qo qn qc,.slice ro rn rc])∧Rw .i64 B4 w' qo qn qc (aT (M / N))∧qn≤n∧Rw .i64 B4 w' ro rn rc (aT (M%N))∧rn≤m∧rH w.heap.size w' qo qc∧rH w.heap.size w' ro rc∧Below w.heap.size w w':=by
 have hpl:=hr.len;have EY:=hs.len;have LX:=aS hpl;have OT:=aS EY;clear hpl EY;go_enter Tryz.func119,Tryz.ntmps119;go_wp2_with (at_make;refine Hid.out ?_);refine aS<|jq _ rfl _ _ 45 rfl 3 (.int .i64 0) 8 Tryz.underlying45 Tryz.infoInt rfl .i64 .i64 _ _ n rfl rfl (by omega) (by omega) (by omega) (by unfold maxLen;omega) fun w2 hblk hbelow hlt=>?_
 obtain ⟨G,hG⟩:∃ G,G=w.heap.size:=⟨_,rfl⟩
 rw [← hG] at hblk hlt hbelow ⊢;have HG:=aS hG;clear hG;rw [← eX] at hblk;go_wp2_with fail;go_loopw [7,8] (fun s7 s8 wr=>∃ (k R rn rc:Nat) (ro:Option Addr) (qs:List Nat),k≤n∧s8= .int .i64 ((k:Int)-1)∧s7= .slice ro rn rc∧Rw .i64 B4 wr ro rn rc (aT R)∧rH G wr ro rc∧R < N∧qs.length=n∧(∀ o∈qs,o < B4)∧kX wr G 3 (eP .i64 qs)∧Below G w wr∧
   aO B4 ((aT M).drop k)=N*aO B4 (qs.drop k)+R) (fun _ s8 _=>(intOf s8+1).toNat)
 case atStart=>exact ⟨n,0,0,0,none,List.replicate n 0,abJ _,rfl,rfl,Rw.nil _ _ _,rH.nil _ _ _,hN,by simp,(fun o ho=>by have:=(afu.1 ho).2;subst this;decide),hblk,hbelow,by rw [List.drop_of_length_le (Nat.le_of_eq LX.out),List.drop_of_length_le (by simp)];rfl⟩
 case round=>
  obtain ⟨k,R,rn,rc,ro,qs,hk,rfl,rfl,hrow,afh,hRN,hol,oZ,hb,hbe,hv⟩:=hrel;have HV:=aS hv;have HOL:=aS hol;clear hv hol hblk hbelow;have hb0:=hb.lt;have aob:rn≤m:=by
   have:=o9 (adC hRN);rw [hrow.len,OT.out] at this;exact this
  by_cases h0:k=0
  ·subst h0
   have hv:=HV.out;rw [List.drop_zero,List.drop_zero] at hv;have OU:=aS hv;clear hv HV;go_wp2_with fail;have P6:=hb.rw oZ;rw [HOL.out] at P6;refine (wM _ _ _ _ _ (by omega) P6).mono ?_;rintro e w' ⟨r1,rfl,hr1',hres,rfl⟩;go_wp2;go_ret2;have hmod:M%N=R:=by
    have h2:=OU.out
    change jX (aT M)=_ at h2
    rw [dS] at h2;rw [h2,Nat.mul_add_mod,Nat.mod_eq_of_lt hRN]
   have hdiv:M / N=jX qs:=by
    have h2:=OU.out
    change jX (aT M)=_ at h2
    rw [dS] at h2;rw [h2,Nat.mul_add_div hN,Nat.div_eq_of_lt hRN,Nat.add_zero];rfl
   exact ⟨_,_,_,_,_,_,rfl,by rw [hdiv];exact hres,hr1',by rw [hmod];exact hrow,aob,by rw [← HG.out];exact hb.own (abJ _) (by rw [bM,HOL.out];exact abJ _),by rw [← HG.out];exact afh,by rw [← HG.out];exact hbe⟩
  ·obtain ⟨j,rfl⟩:∃ j,k=j+1:=⟨k-1,by omega⟩
   obtain ⟨b1,off1,x,rfl,hx,kC,hcx⟩:=(hr.ext (by rw [← HG.out];exact hbe)).at (show j < n by omega);have hx':x < 10000:=kC;have Hx:=aS hx;clear hx kC;have hrlen:=hrow.len;have HRL:=aS hrlen;clear hrlen;go_wp2_with (at_builtin;refine Hid.out ?_);refine aS ?_;have hbA:Below wr.heap.size wr (wr.alloc (.cells #[.int .i64 (x:Int)] 3)):=(Below.refl _ _).alloc (abJ _) _;refine jY _ rfl _ _ 45 rfl wr.heap.size 3 (.int .i64 0) 1 8 Tryz.underlying45 Tryz.infoInt rfl (by decide) _ 1 (eP .i64 [x]) rfl (ady wr _ .i64 x 3 (abJ _)) ro rn rc (eP .i64 (aT R)) rfl (by rw [bM,HRL.out];omega) hrow.2.2.1 hrow.le (hrow.cells.ext hbA) (IW _ _) (by unfold maxLen;omega) (by omega) (by rw [World.size_alloc];omega) fun v' w3 hown' _ hb3=>?_
   have Zj:Below wr.heap.size wr w3:=hbA.trans hb3;have akx:eP .i64 [x] ++eP .i64 (aT R)=eP .i64 (x ::aT R):=by simp [eP]
   rw [akx] at hown';have hxR:∀ o∈(x ::aT R),o < B4:=by
    intro o ho
    rcases afr.1 ho with rfl | ho
    ·exact hx'
    ·exact vT R o ho
   obtain ⟨ao',c',rfl,h1,hown1⟩:=lI (k:= .i64) (B:=B4) (xs:=x ::aT R) (by rw [List.length_cons,HRL.out,Nat.add_comm];exact hown') hxR;rw [List.length_cons,HRL.out] at h1 ⊢;clear hown' akx hxR hbA hb3;go_wp2_with fail;refine (wM _ _ _ _ _ (by omega) h1).mono ?_;rintro e w' ⟨r1,rfl,hr1',hres,rfl⟩;have hval:jX (x ::aT R)=x+10000*R:=by
    unfold jX;rw [Ar];have:=dS R;unfold jX at this;rw [this]
   rw [hval] at hres;have hR2:x+10000*R < 10000*N:=by omega
   obtain ⟨R2,ag8⟩:∃ R2,R2=x+10000*R:=⟨_,rfl⟩
   rw [← ag8] at hres hR2;have HR2:=aS ag8;clear ag8 hval;have hb3:=hb.ext Zj;have aks:Below G w w3:=hbe.trans (Zj.mono (by omega));clear h1 hrow afh hb hbe;have hr1m:r1≤m+1:=by omega
   have hs3:Rw .i64 B4 w3 bo m d (aT N):=hs.ext (by rw [← HG.out];exact aks);have hNle:N≤N*65536:=aeT _ (by omega);go_wp2_with fail;go_loopw [9,10] (fun s9 s10 wi=>∃ lo hi:Nat,s9= .int .i64 lo∧s10= .int .i64 hi∧lo≤hi∧hi≤9999∧lo*N≤R2∧R2 < (hi+1)*N∧Below w3.heap.size w3 wi) (fun s9 s10 _=>(intOf s10-intOf s9).toNat)
   case atStart=>exact ⟨0,9999,rfl,rfl,by omega,by omega,by omega,hR2,Below.refl _ _⟩
   case round=>
    obtain ⟨lo,hi,rfl,rfl,hlh,hhi,hlo2,hhi2,hbi⟩:=hrel;have HLO:=aS hlo2;have HHI:=aS hhi2;clear hlo2 hhi2;have hsi:=hs3.ext hbi;have afg:=hres.ext hbi
    by_cases hlt:lo < hi
    ·obtain ⟨mm,hmm⟩:∃ mm,mm=(lo+hi+1) / 2:=⟨_,rfl⟩
     have hmi:((lo:Int)+(hi:Int)+1) / 2=(mm:Int):=by omega
     have hm1:lo < mm:=by omega
     have hm2:mm≤hi:=by omega
     clear hmm;go_wp2_with fail;refine (BH _ m d mm 0 _ _ (by omega) (by omega) (by omega) hsi).mono ?_;rintro e w4 ⟨r4,k4,c4,rfl,hrow4,hb4⟩;rw [dS,Nat.add_zero] at hrow4;have hk4:k4≤m+2:=by
      have h1:=vT N;have h2:N*mm < B4^(m+2):=by
       have h3:=Hw (vT N);rw [dS,OT.out] at h3;have h4:N*mm≤N*9999:=ac4 _ (by omega);have h5:N*9999 < B4^m*B4:=by unfold B4 at *;omega
       rw [Nat.pow_succ,Nat.pow_succ];have:B4^m*B4≤B4^m*B4*B4:=aeT _ (by decide);omega
      have h6:=rX h2;rw [hrow4.len] at h6;exact h6
     have ZA:=afg.ext hb4;go_wp2_with fail;refine (O9 _ _ _ _ _ _ (N*mm) R2 _ (by omega) (by omega) hrow4 ZA).mono ?_;rintro e w5 ⟨rfl,hb5⟩;obtain ⟨z,hz⟩:∃ z,z=kH ((N*mm:Nat):Int) (R2:Int):=⟨_,rfl⟩
     rw [← hz];have aku:Below w3.heap.size w3 w5:=hbi.trans ((lU hb4 hb5).mono hbi.size)
     by_cases hle:N*mm≤R2
     ·have hz0:z≤0:=by rw [hz,UD];omega
      have hdz:decide (z≤0)=true:=by simpa using hz0
      have akN:mm*N≤R2:=by rw [Nat.mul_comm];exact hle
      have amR:=aS akN;clear hz akN hle;go_wp2_with fail;go_roundw
      case rel=>exact ⟨mm,hi,rfl,rfl,hm2,hhi,amR.out,HHI.out,aku⟩
      case measure=>simp [intOf];omega
     ·have hz0:0 < z:=by
       have:¬ z≤0:=by rw [hz,UD];omega
       omega
      have hdz:decide (z≤0)=false:=by rw [decide_eq_false_iff_not];omega
      have akC:R2 < ((mm-1)+1)*N:=by rw [Nat.sub_add_cancel (by omega),Nat.mul_comm];omega
      have amQ:=aS akC;clear hz akC hle;go_wp2_with fail;go_roundw
      case rel=>exact ⟨lo,mm-1,rfl,by go_num,by omega,by omega,HLO.out,amQ.out,aku⟩
      case measure=>simp [intOf];omega
    ·obtain rfl:lo=hi:=by omega
     have hb6:=hb3.ext hbi;have anB:Below G w wr:=aks.trans (hbi.mono (by have:=hb3.lt;omega));have hcell:=hb6.cell j (by rw [bM,HOL.out];omega);have hfree:=hb6.free j;have hlt6:=hb6.lt;have ac9:lo < 10000:=by omega
     have hb7:=hb6.set j (.int .i64 (lo:Int));rw [fK] at hb7;have akt:Below G w (wr.setCell ⟨G,j,none⟩ (.int .i64 (lo:Int))):=anB.setCell (abJ _) _;have hs7:Rw .i64 B4 (wr.setCell ⟨G,j,none⟩ (.int .i64 (lo:Int))) bo m d (aT N):=hs.ext (by rw [← HG.out];exact akt);have ak0:Rw .i64 B4 (wr.setCell ⟨G,j,none⟩ (.int .i64 (lo:Int))) ao' r1 c' (aT R2):=afg.aa4 (hown1.ext hbi) hb0;go_wp2_with fail;generalize wr.setCell ⟨G,j,none⟩ (.int .i64 (lo:Int))=wx at *
     refine (BH _ m d lo 0 _ _ (by omega) (by omega) (by omega) hs7).mono ?_;rintro e w4 ⟨r4,k4,c4,rfl,hrow4,hb4⟩;rw [dS,Nat.add_zero] at hrow4;have hk4:k4≤m+2:=by
      have h2:N*lo < B4^(m+2):=by
       have h3:=Hw (vT N);rw [dS,OT.out] at h3;have h4:N*lo≤N*9999:=ac4 _ (by omega);have h5:N*9999 < B4^m*B4:=by unfold B4 at *;omega
       rw [Nat.pow_succ,Nat.pow_succ];have:B4^m*B4≤B4^m*B4*B4:=aeT _ (by decide);omega
      have h6:=rX h2;rw [hrow4.len] at h6;exact h6
     have ak1:=ak0.ext hb4;have ahi:N*lo≤R2:=by rw [Nat.mul_comm];exact HLO.out
     go_wp2_with fail;refine (QM _ _ _ _ _ _ R2 (N*lo) _ (by omega) (by omega) ahi ak1 hrow4).mono ?_;rintro e w5 ⟨r5,k5,c5,rfl,ak2,hk5,hown5,hb5⟩;have hown6:rH G w5 r5 c5:=hown5.mono (by have:=hb4.size;have:=hb7.lt;omega);clear hown5;have akr:=lU hb4 hb5;have hb9:=hb7.ext akr;have anC:Below G w w5:=akt.trans (akr.mono (by have:=hb7.lt;omega));have ai5:=aS ahi;clear ahi;go_wp2;go_roundw
     case rel=>
      refine ⟨j,R2-N*lo,k5,c5,r5,qs.set j lo,by omega,by go_num,rfl,ak2,hown6,?_,by rw [List.length_set];exact HOL.out,dK oZ ac9 j,hb9,anC,?_⟩
      ·have h1:=HHI.out
       rw [Nat.add_mul,Nat.one_mul,Nat.mul_comm lo] at h1;have:=ai5.out;omega
      ·refine BX (r:=R) (x:=x) (s:=R2) (by rw [HOL.out];omega) Hx.out HV.out ?_ ?_
       ·rw [HR2.out];unfold B4;omega
       ·have:=ai5.out;omega
     case measure=>simp [intOf];try omega
theorem zZ{B k c x y P Q P' Q':Nat}{os:List Nat}(hl:os.length=k)(hv:aO B os+B^k*c=P+Q)(hx:P'=P+B^k*x)(hy:Q'=Q+B^k*y):
  aO B (os ++ [(c+x+y)%B])+B^(k+1)*((c+x+y) / B)=P'+Q':=by
 have h2:=zL B k (c+x+y);rw [FD,hl,hx,hy];rw [Nat.mul_add,Nat.mul_add] at h2;omega
/-- Digits as many as the number's own are the number's own. -/
theorem SL{os:List Nat}{V:Nat}(h:∀ x∈os,x < B4)(hv:aO B4 os=V)(hl:os.length≤(aT V).length):os=aT V:=by
 have h1:=KP os h;have h2:uf os os.length=(aT (jX os)).length:=Pv xg os h;have h3:jX os=V:=hv;rw [h3] at h1 h2;rw [List.take_of_length_le (by rw [h2];exact hl)] at h1;exact h1
theorem SN{n k:Nat}(h:B4^k≤n):k+1≤(aT n).length:=Io xg h
theorem Yf(ao bo:Option Addr)(n cp m d M N:Nat)(w:World)(hn:n≤1073741824)(hm:m≤1073741824)(hr:Rw .i64 B4 w ao n cp (aT M))(hs:Rw .i64 B4 w bo m d (aT N)):
  Calls Tryz.prog 140 #[.slice ao n cp,.slice bo m d] w fun e w'=>∃ ro k c',e= .returned (.slice ro k c')∧Rw .i64 B4 w' ro k c' (aT (M+N))∧rH w.heap.size w' ro c'∧k≤n+m+1∧Below w.heap.size w w':=by
 obtain ⟨xs,hxs⟩:∃ xs,xs=aT M:=⟨_,rfl⟩
 obtain ⟨ys,hys⟩:∃ ys,ys=aT N:=⟨_,rfl⟩
 rw [← hxs] at hr;rw [← hys] at hs;have hl1:=hr.len;have hl2:=hs.len;have HX:=aS hxs;have HY:=aS hys;have OQ:=aS hl1;have HL2:=aS hl2;clear hxs hys hl1 hl2;obtain ⟨mx,hmx⟩:∃ mx,mx=max n m:=⟨_,rfl⟩
 have hmx1:n≤mx:=by omega
 have hmx2:m≤mx:=by omega
 have hmx3:mx≤n+m:=by omega
 have HMX:=aS hmx;clear hmx;go_enter Tryz.func140,Tryz.ntmps140;go_wp2_with fail;go_loopw [5,6,7] (fun s5 s6 s7 wr=>∃ (k c:Nat) (os:List Nat),s7= .int .i64 k∧s6= .int .i64 c∧c≤1∧k+c≤mx+1∧os.length=k∧(∀ o∈os,o < B4)∧wr.ownsRow w.heap.size 3 1 s5 k (eP .i64 os)∧Below w.heap.size w wr∧
   aO B4 os+B4^k*c=aO B4 (xs.take k)+aO B4 (ys.take k)∧(k=mx+1→B4^(k-1)≤aO B4 os)) (fun _ _ s7 _=>mx+1-(intOf s7).toNat)
 case atStart=>exact ⟨0,0,[],rfl,rfl,by omega,by omega,rfl,by simp,World.ownsRow_nil _ _ _ _,Below.refl _ _,by simp [aO],fun h=>by omega⟩
 case round=>
  obtain ⟨k,c,os,rfl,rfl,hcB,hkc,hol,oZ,hown,hb,hv,htop⟩:=hrel;have HV:=aS hv;have HOL:=aS hol;have HT:=aS htop;clear hv hol htop;have hbs:=hb.size
  by_cases hkn:k < n
  ·obtain ⟨b1,off1,x,rfl,hx,kC,hcx⟩:=(hr.ext hb).at hkn
   have hx':x≤9999:=by have:x < 10000:=kC;omega
   have Hx:=aS hx;clear hx kC
   by_cases hkm:k < m
   ·obtain ⟨b2,off2,y,rfl,hy,hyB,hcy⟩:=(hs.ext hb).at hkm
    have hy':y≤9999:=by have:y < 10000:=hyB;omega
    have Hy:=aS hy;clear hy hyB;go_wp2_with (at_builtin;refine Hid.out ?_);refine aS<|jY _ rfl _ _ 45 rfl w.heap.size 3 (.int .i64 0) 1 8 Tryz.underlying45 Tryz.infoInt rfl (by decide) u5 k (eP .i64 os) rfl (hown.alloc _) (some ⟨wr.heap.size,0,none⟩) 1 1 [Value.int .i64 (((c:Int)+(x:Int)+(y:Int))%10000)] rfl rfl (fun e=>nomatch e) (abJ _) (nG _ _ _) (xU _ _) (by unfold maxLen;omega) (by omega) (by rw [World.size_alloc];omega) fun v' w2 hown' _ hb2=>?_
    have hb3:Below w.heap.size w w2:=(hb.alloc hbs _).trans hb2;have e0:((c+x+y:Nat):Int)=((c:Int)+(x:Int)+(y:Int)):=by simp
    have e1:((c:Int)+(x:Int)+(y:Int))%10000=(((c+x+y)%10000:Nat):Int):=by rw [← e0];rfl
    rw [e1,pX] at hown';have E0:=aS e0;clear e0 e1 hown;go_wp2;go_roundw
    case rel=>
     refine ⟨k+1,(c+x+y) / 10000,os ++ [(c+x+y)%10000],by go_num,by rw [← E0.out];rfl,by omega,by omega,by rw [List.length_append,HOL.out];rfl,lH oZ (adl _ (by decide)),hown',hb3,?_,?_⟩
     ·exact zZ HOL.out HV.out (aQ _ Hx.out) (aQ _ Hy.out)
     ·intro h;exact absurd h (by omega)
    case measure=>simp only [intOf];omega
   ·have hny:aO B4 (ys.take (k+1))=aO B4 (ys.take k):=iL _ (by rw [HL2.out];omega)
    have HNY:=aS hny;clear hny;go_wp2_with (at_builtin;refine Hid.out ?_);refine aS<|jY _ rfl _ _ 45 rfl w.heap.size 3 (.int .i64 0) 1 8 Tryz.underlying45 Tryz.infoInt rfl (by decide) u5 k (eP .i64 os) rfl (hown.alloc _) (some ⟨wr.heap.size,0,none⟩) 1 1 [Value.int .i64 (((c:Int)+(x:Int))%10000)] rfl rfl (fun e=>nomatch e) (abJ _) (nG _ _ _) (xU _ _) (by unfold maxLen;omega) (by omega) (by rw [World.size_alloc];omega) fun v' w2 hown' _ hb2=>?_
    have hb3:Below w.heap.size w w2:=(hb.alloc hbs _).trans hb2;have e0:((c+x+0:Nat):Int)=((c:Int)+(x:Int)):=by simp
    have e1:((c:Int)+(x:Int))%10000=(((c+x+0)%10000:Nat):Int):=by rw [← e0];rfl
    rw [e1,pX] at hown';have E0:=aS e0;clear e0 e1 hown;go_wp2;go_roundw
    case rel=>
     refine ⟨k+1,(c+x+0) / 10000,os ++ [(c+x+0)%10000],by go_num,by rw [← E0.out];rfl,by omega,by omega,by rw [List.length_append,HOL.out];rfl,lH oZ (adl _ (by decide)),hown',hb3,?_,?_⟩
     ·exact zZ HOL.out HV.out (aQ _ Hx.out) (by rw [HNY.out];simp)
     ·intro h;exact absurd h (by omega)
    case measure=>simp only [intOf];omega
  ·have hnx:aO B4 (xs.take (k+1))=aO B4 (xs.take k):=iL _ (by rw [OQ.out];omega)
   have HNX:=aS hnx;clear hnx
   by_cases hkm:k < m
   ·obtain ⟨b2,off2,y,rfl,hy,hyB,hcy⟩:=(hs.ext hb).at hkm
    have hy':y≤9999:=by have:y < 10000:=hyB;omega
    have Hy:=aS hy;clear hy hyB;go_wp2_with (at_builtin;refine Hid.out ?_);refine aS<|jY _ rfl _ _ 45 rfl w.heap.size 3 (.int .i64 0) 1 8 Tryz.underlying45 Tryz.infoInt rfl (by decide) u5 k (eP .i64 os) rfl (hown.alloc _) (some ⟨wr.heap.size,0,none⟩) 1 1 [Value.int .i64 (((c:Int)+(y:Int))%10000)] rfl rfl (fun e=>nomatch e) (abJ _) (nG _ _ _) (xU _ _) (by unfold maxLen;omega) (by omega) (by rw [World.size_alloc];omega) fun v' w2 hown' _ hb2=>?_
    have hb3:Below w.heap.size w w2:=(hb.alloc hbs _).trans hb2;have e0:((c+0+y:Nat):Int)=((c:Int)+(y:Int)):=by simp
    have e1:((c:Int)+(y:Int))%10000=(((c+0+y)%10000:Nat):Int):=by rw [← e0];rfl
    rw [e1,pX] at hown';have E0:=aS e0;clear e0 e1 hown;go_wp2;go_roundw
    case rel=>
     refine ⟨k+1,(c+0+y) / 10000,os ++ [(c+0+y)%10000],by go_num,by rw [← E0.out];rfl,by omega,by omega,by rw [List.length_append,HOL.out];rfl,lH oZ (adl _ (by decide)),hown',hb3,?_,?_⟩
     ·exact zZ HOL.out HV.out (by rw [HNX.out];simp) (aQ _ Hy.out)
     ·intro h;exact absurd h (by omega)
    case measure=>simp only [intOf];omega
   ·have hny:aO B4 (ys.take (k+1))=aO B4 (ys.take k):=iL _ (by rw [HL2.out];omega)
    have HNY:=aS hny;clear hny
    by_cases hc0:0 < c
    ·have hdn:decide (k < n)=false:=by rw [decide_eq_false_iff_not];omega
     have hdm:decide (k < m)=false:=by rw [decide_eq_false_iff_not];omega
     go_wp2_with (at_builtin;refine Hid.out ?_);refine aS ?_;refine jY _ rfl _ _ 45 rfl w.heap.size 3 (.int .i64 0) 1 8 Tryz.underlying45 Tryz.infoInt rfl (by decide) u5 k (eP .i64 os) rfl (hown.alloc _) (some ⟨wr.heap.size,0,none⟩) 1 1 [Value.int .i64 ((c:Int)%10000)] rfl rfl (fun e=>nomatch e) (abJ _) (nG _ _ _) (xU _ _) (by unfold maxLen;omega) (by omega) (by rw [World.size_alloc];omega) fun v' w2 hown' _ hb2=>?_
     have hb3:Below w.heap.size w w2:=(hb.alloc hbs _).trans hb2;have e0:((c+0+0:Nat):Int)=(c:Int):=by simp
     have e1:(c:Int)%10000=(((c+0+0)%10000:Nat):Int):=by rw [← e0];rfl
     rw [e1,pX] at hown';have E0:=aS e0;clear e0 e1 hown;go_wp2;go_roundw
     case rel=>
      refine ⟨k+1,(c+0+0) / 10000,os ++ [(c+0+0)%10000],by go_num,by rw [← E0.out];rfl,by omega,by omega,by rw [List.length_append,HOL.out];rfl,lH oZ (adl _ (by decide)),hown',hb3,?_,?_⟩
      ·exact zZ HOL.out HV.out (by rw [HNX.out];simp) (by rw [HNY.out];simp)
      ·intro h;rw [FD,HOL.out];rw [show c+0+0=c from rfl,Nat.mod_eq_of_lt (show c < 10000 by omega)];have:=ac4 (B4^k) (show 1≤c by omega);rw [Nat.mul_one] at this;simp only [Nat.add_sub_cancel];omega
     case measure=>simp only [intOf];omega
    ·obtain rfl:c=0:=by omega
     have hmxk:mx≤k:=by have:=HMX.out;omega
     have hval:aO B4 os=M+N:=by
      have h:=HV.out;rw [List.take_of_length_le (l:=xs) (by rw [OQ.out];omega),List.take_of_length_le (l:=ys) (by rw [HL2.out];omega),HX.out,HY.out] at h;have h1:=dS M;have h2:=dS N;unfold jX at h1 h2;omega
     have hfull:os=aT (M+N):=by
      refine SL oZ hval ?_;rw [HOL.out]
      by_cases hk1:k=mx+1
      ·have h1:=HT.out hk1
       rw [hval] at h1;have:=SN h1;omega
      ·have h1:=o9 (show M≤M+N by omega)
       have h2:=o9 (show N≤M+N by omega);rw [← HX.out,OQ.out] at h1;rw [← HY.out,HL2.out] at h2;have:=HMX.out;omega
     obtain ⟨ao',c',hu,h1,h2⟩:=lI (k:= .i64) (B:=B4) (by rw [HOL.out];exact hown) oZ;rw [HOL.out] at h1 hu;rw [hfull] at h1;subst hu;clear hval hfull;go_wp2;go_ret;exact ⟨_,_,_,rfl,h1,h2,by omega,hb⟩
theorem aaP(n:Nat)(w:World)(hn:n≤1000000):
  Calls Tryz.prog 89 #[.int .i64 (n:Int)] w fun e w'=>∃ ro k c',e= .returned (.slice ro k c')∧Rw .i64 B4 w' ro k c' (aT (2^n))∧k≤n+1∧rH w.heap.size w' ro c'∧Below w.heap.size w w':=by
 go_enter Tryz.func89,Tryz.ntmps89;go_wp2_with fail;have hstart:=(kX.new w 3 (eP .i64 [1])).rw (B:=B4) (by intro y hy;rw [List.mem_singleton.1 hy];decide);have ZC:=(kX.new w 3 (eP .i64 [1])).own (base:=w.heap.size) (n:=1) (abJ _) (by simp [eP]);go_loopw [3,4] (fun s3 s4 wr=>∃ (k rn rc:Nat) (ro:Option Addr),k≤n∧s4= .int .i64 k∧s3= .slice ro rn rc∧Rw .i64 B4 wr ro rn rc (aT (2^k))∧rH w.heap.size wr ro rc∧Below w.heap.size w wr) (fun _ s4 _=>n-(intOf s4).toNat)
 case atStart=>exact ⟨0,1,1,_,abR _,rfl,rfl,hstart,ZC,(Below.refl _ _).alloc (abJ _) _⟩
 case round=>
  obtain ⟨k,rn,rc,ro,hk,rfl,rfl,hrow,hown,hb⟩:=hrel;clear hstart ZC;have hlen:rn≤k+1:=by
   have h:=rX (k:=k+1) (acC (Nat.pow_lt_pow_right (by decide) (afB k)) (afb (show 2≤B4 by decide) (k+1)));rw [hrow.len] at h;exact h
  by_cases hkn:k < n
  ·go_wp2_with fail
   refine (BI _ _ _ 2 0 _ _ (by omega) (by omega) (by omega) hrow).mono ?_;rintro e w1 ⟨ro2,k2,c2,rfl,h2,hown2,hb2⟩;have hown3:=hown2.mono hb.size;have e2:jX (aT (2^k))*2+0=2^(k+1):=by rw [dS,Nat.pow_succ];rfl
   rw [e2] at h2;have hb3:=lU hb hb2;clear e2 hb2 hrow hown hown2;go_wp2;go_roundw
   case rel=>exact ⟨k+1,k2,c2,ro2,by omega,by go_num,rfl,h2,hown3,hb3⟩
   case measure=>simp [intOf];omega
  ·obtain rfl:k=n:=by omega
   go_wp2;go_ret;exact ⟨_,_,_,rfl,hrow,hlen,hown,hb⟩
theorem acw(ao bo:Option Addr)(n c m d:Nat)(xs ys:List Nat)(w:World)(hn:n≤1073741824)(hm:m≤1073741824)(hr:Rw .u32 bT w ao n c xs)(hs:Rw .u32 bT w bo m d ys):
  Calls Tryz.prog 164 #[.slice ao n c,.slice bo m d] w fun e w'=>∃ ro k c',e= .returned (.slice ro k c')∧Rw .u32 bT w' ro k c' (dA (val xs+val ys))∧rH w.heap.size w' ro c'∧Below w.heap.size w w':=by
 go_enter Tryz.func164,Tryz.ntmps164;go_wp2_with fail;refine (gW ao n c xs _ (by omega) hr).mono ?_;rintro e w' ⟨n1,rfl,hn1,hr1,rfl⟩;go_wp2_with fail;refine (gW bo m d ys _ (by omega) hs).mono ?_;rintro e w' ⟨m1,rfl,hm1,hs1,rfl⟩;go_upto_if 18 with (fail);go_cut [0,1] (fun s0 s1 wx=>∃ po pn pc PL qo qn qc QL,s0= .slice po pn pc∧s1= .slice qo qn qc∧qn≤pn∧pn≤1073741824∧Rw .u32 bT w po pn pc PL∧Rw .u32 bT w qo qn qc QL∧val PL+val QL=val xs+val ys∧wx=w)
 case first=>
  have h1:=aac (val xs);have h2:=aac (val ys)
  by_cases hlt:n1 < m1
  ·go_wp2_with fail
   go_meet;exact ⟨_,_,_,_,_,_,_,_,rfl,rfl,by omega,by omega,hs1,hr1,by omega,rfl⟩
  ·go_wp2_with fail
   go_meet;exact ⟨_,_,_,_,_,_,_,_,rfl,rfl,by omega,by omega,hr1,hs1,by omega,rfl⟩
 case rest=>
  obtain ⟨po,pn,pc,PL,qo,qn,qc,QL,rfl,rfl,hle,hbig,hp,hq,hval,rfl⟩:=hcut;have am5:=aS hval;clear hval hr hs hr1 hs1 hn1 hm1;go_wp2_with (at_make;refine Hid.out ?_);refine aS<|jq _ rfl _ _ 34 rfl 165 (.int .u32 0) 4 Tryz.underlying34 Tryz.infoU32 rfl .i64 .i64 _ _ (pn+1) rfl rfl (by omega) (by omega) (by omega) (by unfold maxLen;omega) fun w1 hblk hbelow hlt=>?_
  obtain ⟨G,hG⟩:∃ G,G=wc.heap.size:=⟨_,rfl⟩
  rw [← hG] at hblk hlt hbelow ⊢;have HG:=aS hG;clear hG;rw [← eX] at hblk;go_wp2_with fail;go_loopw [6,27] (fun s6 s27 wr=>∃ (k cy:Nat) (os:List Nat),k≤pn∧s27= .int .i64 k∧s6= .int .u64 cy∧cy≤1∧os.length=pn+1∧(∀ o∈os,o < bT)∧kX wr G 165 (eP .u32 os)∧Below G wc wr∧
    aO bT (os.take k)+bT^k*cy=aO bT (PL.take k)+aO bT (QL.take k)) (fun _ s27 _=>pn-(intOf s27).toNat)
  case atStart=>exact ⟨0,0,List.replicate (pn+1) 0,abR _,rfl,rfl,by omega,by simp,(fun o ho=>by simp at ho;subst ho;decide),hblk,hbelow,by simp [aO]⟩
  case round=>
   obtain ⟨k,cy,os,hk,rfl,rfl,hcy,hol,oZ,hb,hbe,hv⟩:=hrel;have HV:=aS hv;have HOL:=aS hol;clear hv hol hblk hbelow;have hb0:=hb.lt
   by_cases hkn:k < pn
   ·obtain ⟨b1,off1,x,rfl,hx,kC,hcx⟩:=(hp.ext (by rw [← HG.out];exact hbe)).at hkn
    have hcell:=hb.cell k (by rw [bM,HOL.out];omega);have hfree:=hb.free k;have hx':x < 4294967296:=kC;have Hx:=aS hx;clear hx kC
    by_cases hkq:k < qn
    ·obtain ⟨b2,off2,y,rfl,hy,hyB,WH⟩:=(hq.ext (by rw [← HG.out];exact hbe)).at hkq
     have hy':y < 4294967296:=hyB;have Hy:=aS hy;clear hy hyB;go_wp2;go_roundw
     case rel=>
      have hv:=hb.set k (.int .u32 (((x+cy+y)%4294967296:Nat):Int));rw [fK] at hv;refine ⟨k+1,(x+cy+y) / 4294967296,os.set k ((x+cy+y)%4294967296),by omega,by go_num,by go_num,by omega,by rw [List.length_set];exact HOL.out,dK oZ (adl _ (by decide)) k,?_,?_,?_⟩
      ·have e:((x:Int)+cy+y)%4294967296=(((x+cy+y)%4294967296:Nat):Int):=by omega
       rw [e];exact hv
      ·exact hbe.setCell (abJ _) _
      ·exact O4 (by rw [HOL.out];omega) HV.out (aQ _ Hx.out) (aQ _ Hy.out)
     case measure=>simp [intOf];omega
    ·have EY:=hq.len
     have OT:=aS EY;clear EY;go_wp2;go_roundw
     case rel=>
      have hv:=hb.set k (.int .u32 (((x+cy+0)%4294967296:Nat):Int));rw [fK] at hv;refine ⟨k+1,(x+cy+0) / 4294967296,os.set k ((x+cy+0)%4294967296),by omega,by go_num,by go_num,by omega,by rw [List.length_set];exact HOL.out,dK oZ (adl _ (by decide)) k,?_,?_,?_⟩
      ·have e:((x:Int)+cy)%4294967296=(((x+cy+0)%4294967296:Nat):Int):=by omega
       rw [e];exact hv
      ·exact hbe.setCell (abJ _) _
      ·exact O4 (by rw [HOL.out];omega) HV.out (aQ _ Hx.out) (by rw [iL _ (by rw [OT.out];omega)];simp)
     case measure=>simp [intOf];omega
   ·obtain rfl:k=pn:=by omega
    have hcell:=hb.cell k (by rw [bM,HOL.out];omega);have hfree:=hb.free k;go_wp2_with fail;have hv:=hb.set k (.int .u32 (cy:Int));rw [fK] at hv;have hlt:∀ x∈os.set k cy,x < bT:=dK oZ (by show cy < 4294967296;omega) k
    have hrow:=hv.rw hlt;rw [List.length_set,HOL.out] at hrow;refine (gW _ _ _ _ _ (by omega) hrow).mono ?_;rintro e w' ⟨r1,rfl,hr1,hres,rfl⟩;have hown:=hv.own (base:=G) (n:=k+1) (abJ _) (by rw [bM,List.length_set,HOL.out];exact abJ _);go_wp2;go_ret;refine ⟨_,_,_,rfl,?_,by rw [← HG.out];exact hown,by rw [← HG.out];exact hbe.setCell (abJ _) _⟩;have hval:val (os.set k cy)=val xs+val ys:=by
     have h1:=gU bT os k cy (by rw [HOL.out];omega);rw [bJ _ (by rw [List.length_set,HOL.out])] at h1;have h2:=HV.out;rw [bJ _ hp.len,List.take_of_length_le (l:=QL) (by rw [hq.len];exact hle)] at h2;rw [← am5.out];unfold val;omega
    rw [← hval];exact hres
theorem aec(ao bo:Option Addr)(n c m d:Nat)(xs ys:List Nat)(w:World)(hn:n≤1073741824)(hm:m≤1073741824)(hr:Rw .u32 bT w ao n c xs)(hs:Rw .u32 bT w bo m d ys):
  Calls Tryz.prog 165 #[.slice ao n c,.slice bo m d] w fun e w'=>∃ ro k c',e= .returned (.tuple #[.slice ro k c',.bool (decide (val ys≤val xs))])∧Rw .u32 bT w' ro k c' (dA (val xs-val ys))∧rH w.heap.size w' ro c'∧Below w.heap.size w w':=by
 go_enter Tryz.func165,Tryz.ntmps165;go_wp2_with fail;refine (gW ao n c xs _ (by omega) hr).mono ?_;rintro e w' ⟨n1,rfl,hn1,hr1,rfl⟩;go_wp2_with fail;refine (gW bo m d ys _ (by omega) hs).mono ?_;rintro e w' ⟨m1,rfl,hm1,hs1,rfl⟩;go_wp2_with fail;refine (UE _ _ _ _ _ _ _ _ _ (by omega) (by omega) hr1 hs1).mono ?_;rintro e w1 ⟨rfl,hw1⟩;rw [aac,aac];obtain ⟨z,hz⟩:∃ z,z=kH (val xs) (val ys):=⟨_,rfl⟩
 rw [← hz]
 by_cases hlt:val xs < val ys
 ·have hz0:z < 0:=by rw [hz,kH,if_pos (by omega)];decide
  clear hz;have hdec:decide (val ys≤val xs)=false:=by simpa using hlt
  have HD:=aS hdec;clear hdec;have hsub:val xs-val ys=0:=by omega
  have HS:=aS hsub;clear hsub;go_wp2;go_ret2;exact ⟨_,_,_,by rw [HD.out];rfl,by rw [HS.out];exact Rw.nil _ _ _,rH.nil _ _ _,hw1⟩
 ·have hz0:0≤z:=by rw [hz,kH,if_neg (by omega)];split <;> decide
  clear hz;have hdec:decide (val ys≤val xs)=true:=by simpa using Nat.le_of_not_lt hlt
  have HD:=aS hdec;clear hdec;have hle:=Nat.le_of_not_lt hlt;clear hlt;have hmn:=Ja hle;rw [hr1.len,hs1.len] at hmn;have hp:=hr1.ext hw1;have hq:=hs1.ext hw1;go_wp2_with (at_make;refine Hid.out ?_);refine aS<|jq _ rfl _ _ 34 rfl 165 (.int .u32 0) 4 Tryz.underlying34 Tryz.infoU32 rfl .i64 .i64 _ _ n1 rfl rfl (by omega) (by omega) (by omega) (by unfold maxLen;omega) fun w2 hblk hbelow hlt=>?_
  obtain ⟨G,hG⟩:∃ G,G=w1.heap.size:=⟨_,rfl⟩
  rw [← hG] at hblk hlt hbelow ⊢;have HG:=aS hG;clear hG;rw [← eX] at hblk;go_wp2_with fail;go_loopw [7,24] (fun s7 s24 wr=>∃ (k cy:Nat) (os:List Nat),k≤n1∧s24= .int .i64 k∧s7= .int .u64 cy∧cy≤1∧os.length=n1∧(∀ o∈os,o < bT)∧kX wr G 165 (eP .u32 os)∧Below G w1 wr∧
    aO bT (os.take k)+aO bT ((dA (val ys)).take k)=aO bT ((dA (val xs)).take k)+bT^k*cy) (fun _ s24 _=>n1-(intOf s24).toNat)
  case atStart=>exact ⟨0,0,List.replicate n1 0,abR _,rfl,rfl,by omega,by simp,(fun o ho=>by have:=(afu.1 ho).2;subst this;decide),hblk,hbelow,by simp [aO]⟩
  case round=>
   obtain ⟨k,cy,os,hk,rfl,rfl,hcy,hol,oZ,hb,hbe,hv⟩:=hrel;have HV:=aS hv;have HOL:=aS hol;clear hv hol hblk hbelow;have hb0:=hb.lt
   by_cases hkn:k < n1
   ·obtain ⟨b1,off1,x,rfl,hx,kC,hcx⟩:=(hp.ext (by rw [← HG.out];exact hbe)).at hkn
    have hcell:=hb.cell k (by rw [bM,HOL.out];omega);have hfree:=hb.free k;have hx':x < 4294967296:=kC;have Hx:=aS hx;clear hx kC
    by_cases hkq:k < m1
    ·obtain ⟨b2,off2,y,rfl,hy,hyB,WH⟩:=(hq.ext (by rw [← HG.out];exact hbe)).at hkq
     have hy':y < 4294967296:=hyB;have Hy:=aS hy;clear hy hyB;obtain ⟨d1,b,hd1,hb1,e1,e2,e3⟩:=abj x cy y hx' hcy hy';have E1:=aS e1;have E2:=aS e2;have E3:=aS e3;clear e1 e2 e3;go_wp2;rw [E1.out,E2.out];go_roundw
     case rel=>
      have hv:=hb.set k (.int .u32 (d1:Int));rw [fK] at hv;exact ⟨k+1,b,os.set k d1,by omega,by go_num,rfl,hb1,by rw [List.length_set];exact HOL.out,dK oZ hd1 k,hv,hbe.setCell (abJ _) _,Ej (by rw [HOL.out];omega) HV.out (aQ _ Hx.out) (aQ _ Hy.out) E3.out⟩
     case measure=>simp [intOf];omega
    ·have EY:=hq.len
     have OT:=aS EY;clear EY;obtain ⟨d1,b,hd1,hb1,e1,e2,e3⟩:=Xi x cy hx' hcy;have E1:=aS e1;have E2:=aS e2;have E3:=aS e3;clear e1 e2 e3;go_wp2;rw [E1.out,E2.out];go_roundw
     case rel=>
      have hv:=hb.set k (.int .u32 (d1:Int));rw [fK] at hv;exact ⟨k+1,b,os.set k d1,by omega,by go_num,rfl,hb1,by rw [List.length_set];exact HOL.out,dK oZ hd1 k,hv,hbe.setCell (abJ _) _,Ej (by rw [HOL.out];omega) HV.out (aQ _ Hx.out) (by rw [iL _ (by rw [OT.out];omega)];simp) E3.out⟩
     case measure=>simp [intOf];omega
   ·obtain rfl:k=n1:=by omega
    go_wp2_with fail;have hrow:=hb.rw oZ;rw [HOL.out] at hrow;refine (gW _ _ _ _ _ (by omega) hrow).mono ?_;rintro e w' ⟨r1,rfl,hr1',hres,rfl⟩;have hown:=hb.own (base:=G) (n:=k) (abJ _) (by rw [bM,HOL.out];exact abJ _);go_wp2;go_ret2;refine ⟨_,_,_,by rw [HD.out];rfl,?_,(hown.mono (by rw [HG.out];exact hw1.size)),hw1.trans (hbe.mono (by rw [HG.out];exact hw1.size))⟩;have hval:val os=val xs-val ys:=by
     have h2:=HV.out;rw [bJ _ hp.len,List.take_of_length_le (l:=dA (val ys)) (by rw [hq.len];exact hmn),bJ _ HOL.out] at h2;have h3:=JJ oZ;rw [HOL.out] at h3
     change val os+val (dA (val ys))=val (dA (val xs))+_ at h2
     rw [aac,aac] at h2;have:cy=0∨cy=1:=by omega
     rcases this with rfl | rfl
     ·omega
     ·rw [Nat.mul_one] at h2;omega
    rw [← hval];exact hres
/-- One digit of a row's product. -/
theorem aaq{B k j cy x y o R V:Nat}{ps Q:List Nat}(ho:ps[k+j]?=some o)(hv:aO B ps+B^(k+j)*cy=R+B^k*(x*V)) 
  (hQ:aO B (Q.take (j+1))=V+B^j*y):
  aO B (ps.set (k+j) ((x*y+o+cy)%B))+B^(k+(j+1))*((x*y+o+cy) / B)=R+B^k*(x*aO B (Q.take (j+1))):=by
 have h1:=zO B ho ((x*y+o+cy)%B);have h2:=zL B (k+j) (x*y+o+cy);rw [Nat.mul_add,Nat.mul_add] at h2;have h3:B^k*(x*(V+B^j*y))=B^k*(x*V)+B^(k+j)*(x*y):=by rw [Nat.pow_add];grind
 rw [hQ,h3,← Nat.add_assoc];omega
theorem BJ(x y:Nat)(hx:x < 4294967296)(hy:y < 4294967296):(x:Int)*(y:Int)≤18446744065119617025∧(0:Int)≤(x:Int)*(y:Int):=by
 have h:=ae0 (show x≤4294967295 by omega) (show y≤4294967295 by omega);rw [← Int.natCast_mul];omega
theorem Ll(x y o c:Nat)(hx:x < 4294967296)(hy:y < 4294967296)(ho:o < 4294967296)(hc:c < 4294967296):x*y+o+c < 4294967296*4294967296∧x*y≤18446744065119617025:=by
 have h:=ae0 (show x≤4294967295 by omega) (show y≤4294967295 by omega);omega
theorem adG(ao bo:Option Addr)(n c m d:Nat)(xs ys:List Nat)(w:World)(hn:n≤1073741824)(hm:m≤1073741824)(hr:Rw .u32 bT w ao n c xs)(hs:Rw .u32 bT w bo m d ys):
  Calls Tryz.prog 154 #[.slice ao n c,.slice bo m d] w fun e w'=>∃ ro k c',e= .returned (.slice ro k c')∧Rw .u32 bT w' ro k c' (dA (val xs*val ys))∧rH w.heap.size w' ro c'∧Below w.heap.size w w':=by
 go_enter Tryz.func154,Tryz.ntmps154;go_wp2_with fail;refine (gW ao n c xs _ (by omega) hr).mono ?_;rintro e w' ⟨n1,rfl,hn1,hp,rfl⟩;go_wp2_with fail;refine (gW bo m d ys _ (by omega) hs).mono ?_;rintro e w' ⟨m1,rfl,hm1,hq,rfl⟩;go_wp2_with (at_make;refine Hid.out ?_);refine aS ?_;refine jq _ rfl _ _ 34 rfl 165 (.int .u32 0) 4 Tryz.underlying34 Tryz.infoU32 rfl .i64 .i64 _ _ (n1+m1) rfl rfl (by omega) (by omega) (by omega) (by unfold maxLen;omega) fun w2 hblk hbelow hlt=>?_
 obtain ⟨G,hG⟩:∃ G,G=w.heap.size:=⟨_,rfl⟩
 rw [← hG] at hblk hlt hbelow ⊢;have HG:=aS hG;clear hG;rw [← eX] at hblk;generalize hA:dA (val xs)=P at *
 generalize hB:dA (val ys)=Q at *
 have HA:=aS hA;have HB:=aS hB;clear hA hB;have hpl:=hp.len;have EY:=hq.len;have LX:=aS hpl;have OT:=aS EY;clear hpl EY hr hs;go_wp2_with fail;go_loopw [24] (fun s24 wr=>∃ (k:Nat) (os:List Nat),k≤n1∧s24= .int .i64 k∧os.length=n1+m1∧(∀ o∈os,o < bT)∧(∀ j,k+m1≤j→j < n1+m1→os[j]?=some 0)∧kX wr G 165 (eP .u32 os)∧Below G w wr∧
   aO bT os=aO bT (P.take k)*aO bT Q) (fun s24 _=>n1-(intOf s24).toNat)
 case atStart=>exact ⟨0,List.replicate (n1+m1) 0,abR _,rfl,by simp,(fun o ho=>by have:=(afu.1 ho).2;subst this;decide),(fun j _ hj=>by simp [hj]),hblk,hbelow,by simp [aO,jF]⟩
 case round=>
  obtain ⟨k,os,hk,rfl,hol,oZ,hz,hb,hbe,hv⟩:=hrel;have HV:=aS hv;have HOL:=aS hol;have HZ:=aS hz;clear hv hol hblk hbelow hz;have hb0:=hb.lt
  by_cases hkn:k < n1
  ·obtain ⟨b1,off1,x,rfl,hx,kC,hcx⟩:=(hp.ext (by rw [← HG.out];exact hbe)).at hkn
   have hx':x < 4294967296:=kC;have Hx:=aS hx;clear hx kC;go_wp2_with fail;obtain ⟨wo,rfl⟩:∃ wo:World,wo=wr:=⟨_,rfl⟩
   go_loopw [8,31] (fun s8 s31 wr=>∃ (j cy:Nat) (ps:List Nat),j≤m1∧s31= .int .i64 j∧s8= .int .u64 cy∧cy < 4294967296∧ps.length=n1+m1∧(∀ o∈ps,o < bT)∧(∀ i,k+m1≤i→i < n1+m1→ps[i]?=some 0)∧kX wr G 165 (eP .u32 ps)∧Below G w wr∧
     aO bT ps+bT^(k+j)*cy=aO bT os+bT^k*(x*aO bT (Q.take j))) (fun _ s31 _=>m1-(intOf s31).toNat)
   case atStart=>exact ⟨0,0,os,abR _,rfl,rfl,by omega,HOL.out,oZ,HZ.out,hb,hbe,by simp [aO]⟩
   case round=>
    obtain ⟨j,cy,ps,hj,rfl,rfl,hcy,hpl,Zt,hpz,hb,hbe,hv⟩:=hrel;have OU:=aS hv;have F8:=aS hpl;have HPZ:=aS hpz;clear hv hpl hpz
    by_cases hjm:j < m1
    ·obtain ⟨b2,off2,y,rfl,hy,hyB,WH⟩:=(hq.ext (by rw [← HG.out];exact hbe)).at hjm
     have hy':y < 4294967296:=hyB;have Hy:=aS hy;clear hy hyB;have hrow:=hb.rw Zt;rw [F8.out] at hrow;obtain ⟨o,ho,Td,hco⟩:=hrow.cell (j:=k+j) (by omega);have dX:o < 4294967296:=Td;rw [Nat.zero_add] at hco;have Ho:=aS ho;clear ho Td hrow;have hfree:=hb.free (k+j);have hmb:=Ll x y o cy hx' hy' dX hcy;obtain ⟨akO,hm2⟩:=BJ x y hx' hy';have HMB:=aS hmb;clear hmb;go_wp2;go_roundw
     case rel=>
      have hv:=hb.set (k+j) (.int .u32 (((x*y+o+cy)%4294967296:Nat):Int));rw [fK] at hv;have e0:((x*y+o+cy:Nat):Int)=(x:Int)*y+o+cy:=by simp
      refine ⟨j+1,(x*y+o+cy) / 4294967296,ps.set (k+j) ((x*y+o+cy)%4294967296),by omega,by go_num,?_,?_,by rw [List.length_set];exact F8.out,dK Zt (adl _ (by decide)) _,?_,?_,?_,?_⟩
      ·rw [← e0];rfl
      ·have:=HMB.out.1;exact afX this
      ·intro i h1 h2
       rw [List.getElem?_set_ne (by omega)];exact HPZ.out i h1 h2
      ·have e1:((x:Int)*y+o+cy)%4294967296=(((x*y+o+cy)%4294967296:Nat):Int):=by rw [← e0];rfl
       rw [e1];exact hv
      ·exact hbe.setCell (abJ _) _
      ·exact aaq Ho.out OU.out (aQ _ Hy.out)
     case measure=>simp [intOf];omega
    ·obtain rfl:j=m1:=by omega
     have hv2:=OU.out;rw [bJ bT OT.out] at hv2;have HV3:=aS hv2;clear hv2
     by_cases h0:j=0
     ·subst h0
      have hq0:aO bT Q=0:=by rw [List.eq_nil_of_length_eq_zero OT.out];rfl
      have HQ0:=aS hq0;clear hq0;go_wp2;go_roundw
      case rel=>
       refine ⟨k+1,ps,by omega,by go_num,F8.out,Zt,fun i h1 h2=>HPZ.out i (by omega) h2,hb,hbe,?_⟩;have h2:=HV3.out;rw [HV.out,HQ0.out] at h2;rw [HQ0.out];omega
      case measure=>simp [intOf];omega
     ·have hrow:=hb.rw Zt
      rw [F8.out] at hrow;have h00:=HPZ.out (k+j) (abJ _) (by omega);have H00:=aS h00;clear h00;have hcell:=hb.cell (k+j) (by rw [bM,F8.out];omega);have hfree:=hb.free (k+j);go_wp2;go_roundw
      case rel=>
       have hv:=hb.set (k+j) (.int .u32 (cy:Int));rw [fK] at hv;refine ⟨k+1,ps.set (k+j) cy,by omega,by go_num,by rw [List.length_set];exact F8.out,dK Zt hcy _,?_,hv,hbe.setCell (abJ _) _,?_⟩
       ·intro i h1 h2
        rw [List.getElem?_set_ne (by omega)];exact HPZ.out i (by omega) h2
       ·have h1:=zO bT H00.out cy
        have h2:=HV3.out;have h3:=aQ bT Hx.out;rw [h3,HV.out] at *
        grind
      case measure=>simp [intOf];omega
  ·obtain rfl:k=n1:=by omega
   go_wp2_with fail;have hrow:=hb.rw oZ;rw [HOL.out] at hrow;refine (gW _ _ _ _ _ (by omega) hrow).mono ?_;rintro e w' ⟨r1,rfl,hr1',hres,rfl⟩;have hown:=hb.own (base:=G) (n:=k+m1) (abJ _) (by rw [bM,HOL.out];exact abJ _);go_wp2;go_ret;refine ⟨_,_,_,rfl,?_,by rw [← HG.out];exact hown,by rw [← HG.out];exact hbe⟩;have hval:val os=val xs*val ys:=by
    have h2:=HV.out;rw [bJ _ LX.out,← HA.out,← HB.out] at h2
    change val os=val (dA (val xs))*val (dA (val ys)) at h2
    rw [aac,aac] at h2;exact h2
   rw [← hval];exact hres
theorem adN(ao:Option Addr)(n c:Nat)(xs:List Nat)(v:Nat)(w:World)(hn:n≤1073741824)(hv0:0 < v)(hvB:v < 4294967296)(hr:Rw .u32 bT w ao n c xs):
  Calls Tryz.prog 174 #[.slice ao n c,.int .u32 v] w fun e w'=>∃ ro k c',e= .returned (.tuple #[.slice ro k c',.int .u32 ((val xs%v:Nat):Int)])∧Rw .u32 bT w' ro k c' (dA (val xs / v))∧rH w.heap.size w' ro c'∧Below w.heap.size w w':=by
 have aof:((v:Int)==0)=false:=by rw [beq_eq_false_iff_ne];omega
 go_enter Tryz.func174,Tryz.ntmps174;go_wp2_with (at_make;refine Hid.out ?_);refine aS ?_;refine jq _ rfl _ _ 34 rfl 165 (.int .u32 0) 4 Tryz.underlying34 Tryz.infoU32 rfl .i64 .i64 _ _ n rfl rfl (by omega) (by omega) (by omega) (by unfold maxLen;omega) fun w2 hblk hbelow hlt=>?_
 obtain ⟨G,hG⟩:∃ G,G=w.heap.size:=⟨_,rfl⟩
 rw [← hG] at hblk hlt hbelow ⊢;have HG:=aS hG;clear hG;rw [← eX] at hblk;have hpl:=hr.len;have LX:=aS hpl;clear hpl;go_wp2_with fail;go_loopw [7,8] (fun s7 s8 wr=>∃ (k r:Nat) (os:List Nat),k≤n∧s8= .int .i64 ((k:Int)-1)∧s7= .int .u64 r∧r < v∧os.length=n∧(∀ o∈os,o < bT)∧kX wr G 165 (eP .u32 os)∧Below G w wr∧
   aO bT (xs.drop k)=v*aO bT (os.drop k)+r) (fun _ s8 _=>(intOf s8+1).toNat)
 case atStart=>exact ⟨n,0,List.replicate n 0,abJ _,rfl,rfl,hv0,by simp,(fun o ho=>by have:=(afu.1 ho).2;subst this;decide),hblk,hbelow,by rw [List.drop_of_length_le (Nat.le_of_eq LX.out),List.drop_of_length_le (by simp)];rfl⟩
 case round=>
  obtain ⟨k,r,os,hk,rfl,rfl,hrv,hol,oZ,hb,hbe,hv⟩:=hrel;have HV:=aS hv;have HOL:=aS hol;clear hv hol hblk hbelow;have hb0:=hb.lt
  by_cases h0:k=0
  ·subst h0
   have hv:=HV.out;rw [List.drop_zero,List.drop_zero] at hv;have OU:=aS hv;clear hv HV;go_wp2_with fail;have hrow:=hb.rw oZ;rw [HOL.out] at hrow;refine (gW _ _ _ _ _ (by omega) hrow).mono ?_;rintro e w' ⟨r1,rfl,hr1',hres,rfl⟩;have hown:=hb.own (base:=G) (n:=n) (abJ _) (by rw [bM,HOL.out];exact abJ _);have hr4:r < 4294967296:=by omega
   go_wp2;go_ret2;have hmod:val xs%v=r:=by
    have h2:=OU.out;unfold val;rw [h2,Nat.mul_add_mod,Nat.mod_eq_of_lt hrv]
   have hdiv:val xs / v=val os:=by
    have h2:=OU.out;unfold val;rw [h2,Nat.mul_add_div hv0,Nat.div_eq_of_lt hrv,Nat.add_zero]
   exact ⟨_,_,_,by rw [hmod];rfl,by rw [hdiv];exact hres,by rw [← HG.out];exact hown,by rw [← HG.out];exact hbe⟩
  ·obtain ⟨j,rfl⟩:∃ j,k=j+1:=⟨k-1,by omega⟩
   obtain ⟨b1,off1,x,rfl,hx,kC,hcx⟩:=(hr.ext (by rw [← HG.out];exact hbe)).at (show j < n by omega);have hx':x < 4294967296:=kC;have hr':r < 4294967296:=by omega
   have Hx:=aS hx;clear hx kC;have hcell:=hb.cell j (by rw [bM,HOL.out];omega);have hfree:=hb.free j;obtain ⟨s,hs⟩:∃ s:Nat,s=r*4294967296+x:=⟨_,rfl⟩
   have hor:=NS r x hr' hx';rw [← hs] at hor;have hqB:s / v < 4294967296:=by
    rw [Nat.div_lt_iff_lt_mul hv0,hs];have:=abN 4294967296 (show r+1≤v from hrv);rw [Nat.add_mul,Nat.mul_comm v] at this;omega
   obtain ⟨q,hq⟩:∃ q:Nat,q=s / v:=⟨_,rfl⟩
   obtain ⟨t,ht⟩:∃ t:Nat,t=s%v:=⟨_,rfl⟩
   have htv:t < v:=by rw [ht];exact adl _ hv0
   have hqv:v*q+t=s:=by rw [hq,ht];exact aiU s v
   have hq':(s:Int) / (v:Int)=(q:Int):=by rw [hq];rfl
   have ht':(s:Int)%(v:Int)=(t:Int):=by rw [ht];rfl
   rw [← hq] at hqB;have HS:=aS hs;have HQV:=aS hqv;clear hs hqv hq ht;go_wp2;go_region;go_wp2;rw [ht'];go_roundw
   case rel=>
    have hv:=hb.set j (.int .u32 (q:Int));rw [fK] at hv;exact ⟨j,t,os.set j q,by omega,rfl,rfl,htv,by rw [List.length_set];exact HOL.out,dK oZ hqB j,hv.drew,(hbe.setCell (abJ _) _).drew,BX (by rw [HOL.out];omega) Hx.out HV.out HS.out HQV.out⟩
   case measure=>simp [intOf]
end Go.Proofs.YtapmpcgekdplfaaGreat
