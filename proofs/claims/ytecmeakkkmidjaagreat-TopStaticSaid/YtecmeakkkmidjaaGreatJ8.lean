/-
  The program's functions, part J8. No condition.
-/
import Derived.Test.YtecmeakkkmidjaaGreatJ7
set_option linter.defProp false
set_option linter.unusedVariables false
set_option linter.unusedSectionVars false
set_option linter.unusedSimpArgs false
set_option maxRecDepth 100000
set_option maxHeartbeats 4000000
namespace Go.Proofs.YtecmeakkkmidjaaGreat
open Go.RowKit
noncomputable section
variable {X Y:Nat->Int}{n m i k q K:Nat}{pa:Nat->Value}{C:dQ}{s:Nat×Nat}{b a y x z d c:Int}{el:Nat->Nat->Lf}{t:Rat}{p:Pt}{p1 p0:Value}{e:TypeId}
open Go.Proofs.Tryz
abbrev T9:Rat:=((9:Int):Rat)
def tb9:Tb 1 T9:=by unfold Tb;decide
def alL:C0=fC T0:=agn _
def asU:dU (aB<|aG T0) (fC T9)<=0:=by rw [agn,FP];exact iH.2 aD3
def asT:dU (fC ((0:Int):Rat)) C0<=0:=by rw [alL,FP];exact iH.2 aD3
def aye:¬dU (fC ((4:Int):Rat)) C0<=0:=by rw [alL,FP];exact λh=>absurd (iH.1 h) φ
theorem QH:dO C0:=jO.c
theorem azP:fD C0 LW=[w5,w7,w6]:=Yv QH asT aye
def go9:∃(c:Nat->Nat) (D:Nat->dQ),(∀k,JA (OY k LW) (fC T9) (aB<|aG T0) (c k)<|D k)/\∀k,c k<=68750:=by have h:=λk=>aoC Ux φ mi3 (t:=fC T9) QH k;exact⟨λk=>(h k).choose,λk=>(h k).choose_spec.choose,λk=>(h k).choose_spec.choose_spec.1,λk=>(h k).choose_spec.choose_spec.2⟩
def d9{c:Nat->Nat}{D:Nat->dQ}(h:∀k,JA (OY k LW) (fC T9) (aB<|aG T0) (c k)<|D k)(k:Nat):dO (D k)/\dU (fC ((0:Int):Rat)) (D k)<=0/\∀x∈OY k LW (D k),oLt (zU x.2.1<|D k) (fC 9)=true:=by have⟨h1,h2,h3,h4⟩:=(h k).fin (λC=>oM Ux φ mi3 k) (nV _) QH asU;exact⟨h1,FT (nV _) QH h1 asT h2,h4⟩
def apB:AV.le (.d<|.j<|tn K T9)<|.d<|.j<|tn 1 T9:=lV<|oZ tb9
def apk(h0:el 0 0=.v (.bool false):=by rfl)(h1:el 0 1=.v (.slice none 0 0):=by rfl)(h2:el 1 0=.v (.bool false):=by rfl)(h3:el 1 1=ln 1 1:=by rfl):kW (.a 2 2 el) 1 2<|li 0 1:=by
 have hl:dS 1=[1]:=by rfl
 refine⟨⟨λi=>if i=0 then(false,[]) else(false,[1]),jZ λi hi j hj B w v hv=>?_,λi hi=>?_⟩,JF⟩
 ·match i,hi,j,hj with
  |0,_,0,_=>rw [h0] at hv;exact hv
  |0,_,1,_=>rw [h1] at hv;exact SG 1 (λ_=>none) B w v hv
  |1,_,0,_=>rw [h2] at hv;exact hv
  |1,_,1,_=>rw [h3] at hv;assumption
 ·match i,hi with
  |0,_=>rfl
  |1,_=>rfl
def apl(h0:el 0 0=.v (.bool false):=by rfl)(h1:el 0 1=ln 1 1:=by rfl):kW (.a 2 1 el) 1 1<|li 1 0:=by have h:=azy (K:=1) (M:=1) (z:=1) (el:=el) (aav _) h0 h1;have e:(λi=>if i=0 then(1:Int) else 0)=li 1 0:=Jt 1;simp_all
abbrev aBT:AV:=.d (.o (.a 1 3 (aF iZ [5,7,6])))
abbrev aBU:AV:=.d (.o (.a 1 3 (aF iZ [5,6,7])))
abbrev aBW:AV:=.d (.o (.a 1 1 (aF iZ [7])))
def aiL:aH prog 20 []<|.d<|.o<|.v<|.bool true:=by have⟨c9,D9,hR9,hc9⟩:=go9;have hr9:fD (D9 2) LW=[w5,w6,w7]:=let ⟨h1,h2,h3⟩:=d9 hR9 2;avM h1 h2 h3;have hw9:jP (D9 3) LW=[w7]:=aAw (d9 hR9 3).1;have hh9:(fE (D9 4) LW).length=3:=auI (d9 hR9 4).1 (d9 hR9 4).2.1;refine aS bM 74 [.tmp 0] func20 O O O O O<|au<|aA<|xWe O<|ak<|tN<|au<|aA<|uj (arS (np:=3) (d:=1) φ φ φ φ) [] [(22,0),(101,101),(102,102),(103,103),(104,104),(105,105),(106,106)] [] [] [(61,101,101),(62,102,102),(63,103,103),(64,104,104),(65,105,105),(66,106,106)] O O ⟨aCg,aCg,Pe⟩ trivial ⟨aCl,aCl,aCl,aCl,aCl,aCl,aCl,Pe⟩ trivial trivial trivial ⟨aCP,aCP,aCP,aCP,aCP,aCP,Pe⟩ ?_;rintro _ _ ⟨rfl,pa,rfl⟩;refine wKm [6,66,65,64,63,62,61,0] [106,105,104,103,102,101,0] O O<|xEe 5 O<|ak<|tN<|au<|au<|aA<|xEe 4 O<|mX (.d<|.o<|.v<|.bool false) (xPn false O ψ underlying26 O O)<|xEe 3 O<|bn (aiG) O O O<|uj (ar2 (pa:=pa)) [(0,0),(101,101),(102,102),(103,103),(104,104),(105,105),(106,106)] [] [] [] [] O O ⟨aCg,aCg,aCg,Pe⟩ ⟨⟨_,_,O,O,AO.le.rfl,O⟩,⟨_,_,O,O,AO.le.rfl,O⟩,⟨_,_,O,O,AO.le.rfl,O⟩,⟨_,_,O,O,AO.le.rfl,O⟩,⟨_,_,O,O,AO.le.rfl,O⟩,⟨_,_,O,O,AO.le.rfl,O⟩,⟨_,_,O,O,AO.le.rfl,O⟩,Pe⟩ trivial ⟨⟨_,6,_,O,O,O⟩,⟨_,61,_,O,O,O⟩,⟨_,62,_,O,O,O⟩,⟨_,63,_,O,O,O⟩,⟨_,64,_,O,O,O⟩,⟨_,65,_,O,O,O⟩,⟨_,66,_,O,O,O⟩,Pe⟩ ⟨Or.inr ⟨_,_,O,by decide,λ_ _ h=>by obtain⟨rfl,rfl⟩:=h;exact⟨_,O⟩⟩,Or.inr ⟨_,_,O,by decide,λ_ _ h=>by obtain⟨rfl,rfl⟩:=h;exact⟨_,O⟩⟩,Or.inr ⟨_,_,O,by decide,λ_ _ h=>by obtain⟨rfl,rfl⟩:=h;exact⟨_,O⟩⟩,Or.inr ⟨_,_,O,by decide,λ_ _ h=>by obtain⟨rfl,rfl⟩:=h;exact⟨_,O⟩⟩,Or.inr ⟨_,_,O,by decide,λ_ _ h=>by obtain⟨rfl,rfl⟩:=h;exact⟨_,O⟩⟩,Or.inr ⟨_,_,O,by decide,λ_ _ h=>by obtain⟨rfl,rfl⟩:=h;exact⟨_,O⟩⟩,Or.inr ⟨_,_,O,by decide,λ_ _ h=>by obtain⟨rfl,rfl⟩:=h;exact⟨_,O⟩⟩,Pe⟩ trivial trivial ?_;rintro _ _ ⟨rfl,rfl⟩;refine wKm [18,15,2,1,66,65,64,63,62,61,0] [106,105,104,103,102,101,0] O O<|xEe 4 O<|bn (aiH) O O O<|uj (ar4 (pa:=pa)) [(0,0),(101,101),(102,102),(103,103),(104,104),(105,105),(106,106)] [] [] [] [] O O ⟨aCg,aCg,aCg,Pe⟩ ⟨⟨_,_,O,O,AO.le.rfl,O⟩,⟨_,_,O,O,AO.le.rfl,O⟩,⟨_,_,O,O,AO.le.rfl,O⟩,⟨_,_,O,O,AO.le.rfl,O⟩,⟨_,_,O,O,AO.le.rfl,O⟩,⟨_,_,O,O,AO.le.rfl,O⟩,⟨_,_,O,O,AO.le.rfl,O⟩,Pe⟩ trivial aCC ⟨Or.inr ⟨_,_,O,by decide,λ_ _ h=>by obtain⟨rfl,rfl⟩:=h;exact⟨_,O⟩⟩,Or.inr ⟨_,_,O,by decide,λ_ _ h=>by obtain⟨rfl,rfl⟩:=h;exact⟨_,O⟩⟩,Or.inr ⟨_,_,O,by decide,λ_ _ h=>by obtain⟨rfl,rfl⟩:=h;exact⟨_,O⟩⟩,Or.inr ⟨_,_,O,by decide,λ_ _ h=>by obtain⟨rfl,rfl⟩:=h;exact⟨_,O⟩⟩,Or.inr ⟨_,_,O,by decide,λ_ _ h=>by obtain⟨rfl,rfl⟩:=h;exact⟨_,O⟩⟩,Or.inr ⟨_,_,O,by decide,λ_ _ h=>by obtain⟨rfl,rfl⟩:=h;exact⟨_,O⟩⟩,Or.inr ⟨_,_,O,by decide,λ_ _ h=>by obtain⟨rfl,rfl⟩:=h;exact⟨_,O⟩⟩,Pe⟩ trivial trivial ?_;rintro _ _ ⟨rfl,rfl⟩;refine wKm [24,21,2,1,66,65,64,63,62,61,0] [106,105,104,103,102,101,0] O O<|xEe 5 O<|mB bM _ O<|jL 30 (.d<|.o<|ln 1 1) O (aad)<|xWe O<|mB bM _ O<|mB bM _ O<|jL 33 (.d<|.o<|ln 1 1) O (aad)<|xWe O<|mB bM _ O<|bn (aH.le (dl DV.same aCJ) (X9 Ez (xR JF) (xR<|JF (a:=1) (b:=0)) (λ_=>rfl)<|λ_=>rfl)<|arO (K:=1) (M:=3) (n:=2) (m:=1) (x:=li 0 1) (y:=li 1 0) apk apl φ φ φ φ) O O O<|uj (ar5 (pa:=pa)) [(0,0),(101,101),(102,102),(103,103),(104,104),(105,105),(106,106)] [] [] [] [] O O ⟨aCg,aCg,aCg,Pe⟩ ⟨⟨_,_,O,O,AO.le.rfl,O⟩,⟨_,_,O,O,AO.le.rfl,O⟩,⟨_,_,O,O,AO.le.rfl,O⟩,⟨_,_,O,O,AO.le.rfl,O⟩,⟨_,_,O,O,AO.le.rfl,O⟩,⟨_,_,O,O,AO.le.rfl,O⟩,⟨_,_,O,O,AO.le.rfl,O⟩,Pe⟩ trivial aCC ⟨Or.inr ⟨_,_,O,by decide,λ_ _ h=>by obtain⟨rfl,rfl⟩:=h;exact⟨_,O⟩⟩,Or.inr ⟨_,_,O,by decide,λ_ _ h=>by obtain⟨rfl,rfl⟩:=h;exact⟨_,O⟩⟩,Or.inr ⟨_,_,O,by decide,λ_ _ h=>by obtain⟨rfl,rfl⟩:=h;exact⟨_,O⟩⟩,Or.inr ⟨_,_,O,by decide,λ_ _ h=>by obtain⟨rfl,rfl⟩:=h;exact⟨_,O⟩⟩,Or.inr ⟨_,_,O,by decide,λ_ _ h=>by obtain⟨rfl,rfl⟩:=h;exact⟨_,O⟩⟩,Or.inr ⟨_,_,O,by decide,λ_ _ h=>by obtain⟨rfl,rfl⟩:=h;exact⟨_,O⟩⟩,Or.inr ⟨_,_,O,by decide,λ_ _ h=>by obtain⟨rfl,rfl⟩:=h;exact⟨_,O⟩⟩,Pe⟩ trivial trivial ?_;rintro _ _ ⟨rfl,rfl⟩;refine wKm [37,27,2,1,66,65,64,63,62,61,0] [106,105,104,103,102,101,0] O O<|xEe 2 O<|ak<|tN<|cF O<|aO<|tN<|au<|aA<|xWe O<|bn (asi (n:=9) φ φ) O O O<|bn (asn (isq 64 _) φ) O O O<|jL 43 (.d<|.j<|tn 1 T9) O (apB)<|uj (adp (pa:=pa) (mp:=3) (md:=1) (K:=1) (K0:=2) (s:=T0) (t:=T9) (l:=DI) (n:=λ_=>0) (c:=c9) (D:=D9) apT Ux φ mi3 φ φ tb9 aD3 asU hR9 ψ φ) [(0,0),(101,101),(102,102),(103,103),(104,104),(105,105),(106,106)] [] [101] [] [] O O ⟨aCg,aCg,Pe⟩ ⟨⟨_,_,O,O,AO.le.rfl,O⟩,⟨_,_,O,O,AO.le.rfl,O⟩,⟨_,_,O,O,AO.le.rfl,O⟩,⟨_,_,O,O,AO.le.rfl,O⟩,⟨_,_,O,O,AO.le.rfl,O⟩,⟨_,_,O,O,AO.le.rfl,O⟩,⟨_,_,O,O,AO.le.rfl,O⟩,Pe⟩ trivial aCC ⟨Or.inr ⟨_,_,O,by decide,λ_ _ h=>by obtain⟨rfl,rfl⟩:=h;exact⟨_,O⟩⟩,Or.inl O,Or.inr ⟨_,_,O,by decide,λ_ _ h=>by obtain⟨rfl,rfl⟩:=h;exact⟨_,O⟩⟩,Or.inr ⟨_,_,O,by decide,λ_ _ h=>by obtain⟨rfl,rfl⟩:=h;exact⟨_,O⟩⟩,Or.inr ⟨_,_,O,by decide,λ_ _ h=>by obtain⟨rfl,rfl⟩:=h;exact⟨_,O⟩⟩,Or.inr ⟨_,_,O,by decide,λ_ _ h=>by obtain⟨rfl,rfl⟩:=h;exact⟨_,O⟩⟩,Or.inr ⟨_,_,O,by decide,λ_ _ h=>by obtain⟨rfl,rfl⟩:=h;exact⟨_,O⟩⟩,Pe⟩ trivial trivial ?_;rintro _ _ ⟨rfl,rfl⟩;refine wKm [44,39,2,1,66,65,64,63,62,0] [106,105,104,103,102,101,0] O O<|xEe 3 O<|mN bM _ O O O<|xZe O<|xWe O<|ak<|tN<|au<|AW.wk (lZ 10 62 102 O O O)<|AW.wk (lZ 11 63 103 O O O)<|AW.wk (lZ 12 64 104 O O O)<|AW.wk (lZ 13 65 105 O O O)<|AW.wk (lZ 14 66 106 O O O)<|aA<|xEe 4 O<|uj (YO (pa:=pa) (K:=2) (t:=T0) (l:=DI) (n:=λ_=>0) (E:=λ_=>C0) Ux φ φ) [(0,0),(102,102),(103,103),(104,104),(105,105),(106,106)] [] [] [] [] O O ⟨aCg,Pe⟩ ⟨⟨_,_,O,O,AO.le.rfl,O⟩,⟨_,_,O,O,AO.le.rfl,O⟩,⟨_,_,O,O,AO.le.rfl,O⟩,⟨_,_,O,O,AO.le.rfl,O⟩,⟨_,_,O,O,AO.le.rfl,O⟩,⟨_,_,O,O,AO.le.rfl,O⟩,Pe⟩ trivial ⟨⟨_,1,_,O,O,O⟩,⟨_,62,_,O,O,O⟩,⟨_,63,_,O,O,O⟩,⟨_,64,_,O,O,O⟩,⟨_,65,_,O,O,O⟩,⟨_,66,_,O,O,O⟩,Pe⟩ ⟨Or.inr ⟨_,_,O,by decide,λ_ _ h=>by obtain⟨rfl,rfl⟩:=h;exact⟨_,O⟩⟩,Or.inr ⟨_,_,O,by decide,λ_ _ h=>by obtain⟨rfl,rfl⟩:=h;exact⟨_,O⟩⟩,Or.inr ⟨_,_,O,by decide,λ_ _ h=>by obtain⟨rfl,rfl⟩:=h;exact⟨_,O⟩⟩,Or.inr ⟨_,_,O,by decide,λ_ _ h=>by obtain⟨rfl,rfl⟩:=h;exact⟨_,O⟩⟩,Or.inr ⟨_,_,O,by decide,λ_ _ h=>by obtain⟨rfl,rfl⟩:=h;exact⟨_,O⟩⟩,Or.inr ⟨_,_,O,by decide,λ_ _ h=>by obtain⟨rfl,rfl⟩:=h;exact⟨_,O⟩⟩,Pe⟩ trivial trivial ?_;rintro _ _ ⟨rfl,rfl⟩;refine wKm [51,49,14,13,12,11,10,4,3,39,2,1,66,65,64,63,62,0] [3,106,105,104,103,102,101,0] O O<|xWe O<|jL 52 aBT O (AV.of_eq<|by (try rw [aBj]);rw [azP];rfl) ?_;refine mB bM _ O<|jL 53 aBT O (MZ (l:=[5,7,6]) O)<|bn (Xr (l:=[5,7,6]) φ) O O O<|xEe 4 O<|jL 58 aBU O (AV.of_eq<|by (try rw [aBj]);rw [hr9];rfl) ?_;refine mB bM _ O<|jL 59 aBU O (MZ (l:=[5,6,7]) O)<|bn (Xr (l:=[5,6,7]) φ) O O O<|xEe 4 O<|jL 64 aBW O (AV.of_eq<|by rw [hw9];rfl) ?_;refine mB bM _ O<|jL 65 aBW O (MZ (l:=[7]) O)<|bn (Xr (l:=[7]) φ) O O O<|xEe 4 O<|jL 70 (.d<|.o<|.a 1 3<|aF iZ<|(fE (D9 4) LW).map oW) O (AV.of_eq ψ)<|xEe 4 O<|ak<|tN<|aQ<|axx
def alN(a:Int)(b:Nat->Int)(j:Nat):∀m,cv (oc a) b (m+1) j=a*b j
 |0=>by show(0:Int)+(if 0<=j then oc a 0*b (j-0) else 0)=_;rw [if_pos Z,Int.zero_add];rfl
 |m+1=>by
  show cv (oc a) b (m+1) j+(if m+1<=j then oc a (m+1)*b (j-(m+1)) else 0)=_
  rw [alN a b j m,V4 (m+1) Z];omega
theorem FV(a b:Int):bW (oc a) (oc b)=oc (a*b):=funext λj=>by
 show cv (oc a) (oc b) (j+1) j=_
 rw [alN];unfold oc;grind
theorem Rf(a b:Int):kT (oc a) (oc b)=oc (a+b):=funext λj=>by unfold kT oc;omega
theorem J8(a b:Int):lJ (oc a) (oc b)=oc (a-b):=funext λj=>by unfold lJ oc;omega
theorem wZ(a q:Int):iJ (oc a) q=oc (a*q):=funext λj=>by unfold iJ oc;grind
def dsI(t:Nat->Int):Nat->Int
 |0=>0
 |i+1=>if i%2=0 then dsI t i+t i else dsI t i-t i
def ai7:Nat->(Nat->Nat->Int)->Int
 |0,_=>1
 |n+1,r=>dsI (λj=>r j 0*ai7 n (λa c=>r (if a<j then a else a+1)<|c+1))<|n+1
theorem Zx{t:Nat->Nat->Int}{s:Nat->Int}(h:∀i,t i=oc (s i)):∀n,uf t n=oc (dsI s n)
 |0=>funext λj=>by show(0:Int)=_;unfold oc dsI;omega
 |n+1=>by
  unfold uf dsI;rw [Zx h n,h n];split
  ·exact Rf _ _
  ·exact J8 _ _
def XE:∀(n:Nat) (r:Nat->Nat->Int),AU n (λi j=>oc (r i j))=oc (ai7 n r)
 |0,_=>rfl
 |n+1,r=>Zx (λj=>by
   show bW (oc (r j 0)) (AU n (λa c=>oc (r (if a<j then a else a+1) (c+1))))=_
   rw [XE n,FV]) (n+1)
def bdI:Nat->(Nat->Nat)->Nat
 |0,_=>1
 |n+1,B=>(n+1)*(B 0*bdI n λc=>B<|c+1)
theorem alR{t:Nat->Int}{M:Nat}(h:∀i,(t i).natAbs<=M):∀n,(dsI t n).natAbs<=n*M
 |0=>by show(0:Int).natAbs<=_;simp
 |n+1=>by
  have ih:=alR h n;have h1:=h n;unfold dsI;grind
def aeK:∀(n:Nat) (B:Nat->Nat) (r:Nat->Nat->Int),(∀i c,(r i c).natAbs<=B c)->(ai7 n r).natAbs<=bdI n B
 |0,_,_,_=>aav _
 |n+1,B,r,h=>alR (λj=>by
   rw [Int.natAbs_mul];exact ac2 (h j 0)<|aeK n _ _ λi c=>h _<|c+1)<|n+1
theorem SQ{i:Int}:pX (uI i x y)=oc x:=Eo
theorem SS{i:Int}:pY (uI i x y)=oc y:=Ep
theorem JH{i:Int}:pL (uI i x y)=1:=G5
section
variable {i j k m:Int} {x y x2 y2 x3 y3 x4 y4:Int}
def ag2:IX (uI i x y) (uI j x2 y2)=oc (x2-x):=by unfold IX;rw [SQ,SQ,JH,JH,wZ,wZ,J8];simp_all
def adN:Jf (uI i x y) (uI j x2 y2)=oc (y2-y):=by unfold Jf;rw [SS,SS,JH,JH,wZ,wZ,J8];simp_all
def Ri(x y x2 y2:Int):Int:=(x2-x)*(x2-x)+(y2-y)*(y2-y)
def asN:apP (uI i x y) (uI j x2 y2)=oc (Ri x y x2 y2):=by unfold apP;rw [ag2,adN,FV,FV,Rf];rfl
def aot:faP (uI i x y) (uI j x2 y2) (uI k x3 y3) (uI m x4 y4)=oc (Ri x3 y3 x4 y4-Ri x y x2 y2):=by unfold faP;rw [asN,asN,JH,JH,JH,JH,wZ,wZ,J8];simp_all
def agt:Ia (uI i x y)=λq=>oc<|ng x y 1 q:=by unfold Ia;rw [SQ,SS,JH];funext q;match q with|0=>rfl|1=>rfl|_+2=>rfl
def ahD(x y x2 y2 x3 y3:Int):Int:=(x2-x)*(y3-y)-(x3-x)*(y2-y)
def avw:rZ (uI i x y) (uI j x2 y2) (uI k x3 y3)=oc (ahD x y x2 y2 x3 y3):=by
 unfold rZ;rw [agt,agt,agt,show(ng (λq=>oc<|ng x y 1 q) (λq=>oc<|ng x2 y2 1 q) (λq=>oc<|ng x3 y3 1 q):Nat->Nat->Nat->Int)=λa q=>oc (ng (ng x y 1) (ng x2 y2 1) (ng x3 y3 1) a q) from by
  funext a q
  match a with
  |0=>rfl
  |1=>rfl
  |_+2=>rfl]
 rw [XE];congr 1;simp [ai7,dsI,ng,ahD];grind
def ZV:MP (uI i x y)=λq=>oc<|yP x y (x*x+y*y) 1 q:=by unfold MP;rw [SQ,SS,JH,wZ,wZ,FV,FV,Rf];funext q;match q with|0=>show oc (x*((1:Nat):Int))=oc x;simp_all|1=>show oc (y*((1:Nat):Int))=oc y;simp_all|2=>rfl|_+3=>rfl
def auW(hx:x.natAbs<=14)(hy:y.natAbs<=14)(hx2:x2.natAbs<=14)(hy2:y2.natAbs<=14)(hx3:x3.natAbs<=14)(hy3:y3.natAbs<=14)(hx4:x4.natAbs<=14)(hy4:y4.natAbs<=14):∃z:Int,z.natAbs<=137438953472/\icP (uI i x y) (uI j x2 y2) (uI k x3 y3) (uI m x4 y4)=oc z:=by
 unfold icP;rw [ZV,ZV,ZV,ZV,show(yP (λq=>oc<|yP x y (x*x+y*y) 1 q) (λq=>oc<|yP x2 y2 (x2*x2+y2*y2) 1 q) (λq=>oc<|yP x3 y3 (x3*x3+y3*y3) 1 q) (λq=>oc<|yP x4 y4 (x4*x4+y4*y4) 1 q):Nat->Nat->Nat->Int)=λa q=>oc (yP (yP x y (x*x+y*y) 1) (yP x2 y2 (x2*x2+y2*y2) 1) (yP x3 y3 (x3*x3+y3*y3) 1) (yP x4 y4 (x4*x4+y4*y4) 1) a q) from by
  funext a q
  match a with
  |0=>rfl
  |1=>rfl
  |2=>rfl
  |_+3=>rfl]
 rw [XE];have sq:∀{u v:Int},u.natAbs<=14->v.natAbs<=14->(u*u+v*v).natAbs<=392:=λ{u v} hu hv=>(by have h1:(u*u).natAbs<=196:=(by rw [Int.natAbs_mul];exact ac2 hu hu);have h2:(v*v).natAbs<=196:=(by rw [Int.natAbs_mul];exact ac2 hv hv);omega);have row:∀{u v:Int},u.natAbs<=14->v.natAbs<=14->∀c,(yP u v (u*u+v*v) 1 c).natAbs<=yP 14 14 392 1 c:=λ{u v} hu hv c=>(by match c with|0=>exact hu|1=>exact hv|2=>exact sq hu hv|_+3=>exact aav _)
 refine⟨_,acL (aeK 4 (yP 14 14 392 1) _ λa c=>?_) φ,O⟩;match a with
 |0=>exact row hx hy c
 |1=>exact row hx2 hy2 c
 |2=>exact row hx3 hy3 c
 |_+3=>exact row hx4 hy4 c
end
def Fz(p:Pt):Prop:=∃i x y,p=uI i x y/\x.natAbs<=14/\y.natAbs<=14
def Fz.ps(h:Fz p):PS p:=by obtain⟨i,x,y,rfl,hx,hy⟩:=h;exact agS Z Z
def aax:lg (oc z)=0↔z=0:=by rw [Jt];constructor;intro h;exact abt λk=>Em Z h;rintro rfl;rfl
def aha(hC:dO C):Au (oc z) C > 0↔0<z:=by rw [Jt,uX hC];omega
def avq(h:z.natAbs<=137438953472):PB<|oc z:=(Tj h).pb φ<|aav _
def amG(t:Rat):FF (oc z) t=(z:Rat):=by rw [Jt,VJ];grind
def aqN(h:PB<|oc z):tK (oc z)=[]:=List.eq_nil_iff_forall_not_mem.2 λy hy=>by
 have⟨_,lo,hi,h1,h2,h3,h4,h5⟩:=((CZ h).ok y hy).2;have:=h5 lo hi ψ h1 ψ h2;rw [amG] at h3 this;rw [amG] at this;have h6:(0:Rat)<=(z:Rat)*z:=by
  by_cases k:(0:Rat)<=z
  ·exact acK k k
  ·have:=acK (show(0:Rat)<=-z by grind) (show(0:Rat)<=-z by grind);grind
 have h7:(z:Rat)*z=0:=ψ
 grind
def azz{a b c d:Pt}(ha:Fz a)(hb:Fz b)(hc:Fz c)(hd:Fz d)(k:Nat):∃z,pJ k (gt [a,b,c,d])=oc z:=by obtain⟨_,_,_,rfl,h1,h2⟩:=ha;obtain⟨_,_,_,rfl,h3,h4⟩:=hb;obtain⟨_,_,_,rfl,h5,h6⟩:=hc;obtain⟨_,_,_,rfl,h7,h8⟩:=hd;have e1:∀{i j x y x2 y2:Int},∃z,Um (IX (uI i x y)<|uI j x2 y2) (Jf (uI i x y)<|uI j x2 y2)=oc z:=λ{i j x y x2 y2}=>(by unfold Um;split;exact⟨_,ag2⟩;exact⟨_,adN⟩);have e2:∀{i j x y x2 y2:Int},∃z,Um (Jf (uI i x y)<|uI j x2 y2) (IX (uI i x y)<|uI j x2 y2)=oc z:=λ{i j x y x2 y2}=>(by unfold Um;split;exact⟨_,adN⟩;exact⟨_,ag2⟩);match k with|0=>exact⟨_,aot⟩|1=>exact e1|2=>exact e2|3=>exact⟨_,avw⟩|4=>obtain⟨z,_,h⟩:=auW h1 h2 h3 h4 h5 h6 h7 h8;exact⟨z,h⟩|k+5=>exact⟨_,aot⟩
section
variable {L:List Pt} (hS:∀ p∈L,Fz p)
include hS
def axU:∀i,i<L.length->PS (gt L i):=jf λq hq=>(hS q hq).ps
theorem aiO:∀q∈wJ L,∃z,q=oc z:=by have h:∀k,∀q∈prs L k,∃z,q=oc z:=λk q hq=>(by have⟨a,ha,hq⟩:=List.mem_flatMap.1 hq;have⟨b,hb,hq⟩:=List.mem_flatMap.1 hq;have⟨c,hc,hq⟩:=List.mem_flatMap.1 hq;obtain⟨d,hd,rfl⟩:=List.mem_map.1 hq;exact azz ψ ψ ψ ψ k);intro q hq;rcases ah3.1 hq with q1|hq;grind;grind
theorem azB:MI L:=λi j k m hij hjk hkm hm=>by
 have hW:∀i,i<(aT L).length->Fz (gt (aT L) i):=jf λq hq=>hS q (sN _ (aav _) q hq)
 obtain⟨_,_,_,e1,h1,h2⟩:=hW i aEc;obtain⟨_,_,_,e2,h3,h4⟩:=hW j aEc;obtain⟨_,_,_,e3,h5,h6⟩:=hW k aEc;obtain⟨_,_,_,e4,h7,h8⟩:=hW m aEc;rw [e1,e2,e3,e4];obtain⟨z,hz,h⟩:=auW h1 h2 h3 h4 h5 h6 h7 h8;rw [h];exact avq hz
theorem ays(hn:L.length<=5){t:dQ}(k:Nat):JA (OY k L) t C 0 C:=.stop λy hy=>by
 have⟨c,hc,h⟩:=aaw hy;have hc':=uQ.1 hc;have⟨z,e⟩:=aiO hS _<|ad1 k c hc';have hb:=oM (axU hS) hn (azB hS) k c hc';have h1:=(Cj h).1;rw [e] at hb h1;rw [aqN hb] at h1;grind
end
def bfI(x y i x2 y2 j:Int):Prop:=x<x2\/(x=x2/\(y<y2\/(y=y2/\i<j)))
instance {x y i x2 y2 j:Int}:Decidable (bfI x y i x2 y2 j):=by unfold bfI;infer_instance
def btI(x y i x2 y2 j:Int):Prop:=y2<y\/(y=y2/\(x2<x\/(x=x2/\i<j)))
instance {x y i x2 y2 j:Int}:Decidable (btI x y i x2 y2 j):=by unfold btI;infer_instance
def alV{u v m n:Int}(hC:dO C):frB (oc u) (oc v) C m n=decide (0<u\/(u=0/\(0<v\/(v=0/\m<n)))):=by unfold frB;by_cases hu:u=0;rw [if_neg<|λk=>k<|aax.2 hu];by_cases hv:v=0;rw [if_neg<|λk=>k<|aax.2 hv];simp_all;rw [if_pos<|λk=>hv<|aax.1 k];exact ah8.2<|(aha hC).trans Z;rw [if_pos<|λk=>hu<|aax.1 k];exact ah8.2<|(aha hC).trans Z
def ad5{i j x2 y2:Int}(hC:dO C):qX C (uI i x y) (uI j x2 y2)=decide (bfI x y i x2 y2 j):=by unfold qX;rw [ag2,adN,alV hC];exact ah8.2 (by show _\/(_/\(_\/(_/\i<j)))↔_;unfold bfI;omega)
def aiW{i j x2 y2:Int}(hC:dO C):OZ C (uI i x y) (uI j x2 y2)=decide (btI x y i x2 y2 j):=by unfold OZ;rw [ag2,adN,alV hC];exact ah8.2 (by show _\/(_/\(_\/(_/\i<j)))↔_;unfold btI;omega)
section
variable {α:Type} [Inhabited α] {lt:α→α→Bool}
def Dx{A B:List α}(h:A.length<=i):gt (A++B) i=gt B (i-A.length):=by unfold gt;rw [List.getD_eq_getElem?_getD,List.getD_eq_getElem?_getD,List.getElem?_append_right h]
def afq{L:List α}{x:α}:∀k,(∀q,zM lt L x k<=q->q<k->lt x (gt L q)=true)/\(zM lt L x k=0\/lt x (gt L<|zM lt L x k-1)=false)
 |0=>⟨λq _ h=>absurd h<|acH _,Or.inl O⟩
 |k+1=>by
  have⟨h1,h2⟩:=afq (L:=L) (x:=x) k;unfold zM
  by_cases h:lt x (gt L k)=true
  ·rw [if_pos h]
   refine⟨λq hq hk=>?_,h2⟩
   by_cases e:q=k
   ·rw [e];exact h
   ·exact h1 q hq Z
  ·rw [if_neg h]
   exact⟨λq hq hk=>by omega,Or.inr<|by rw [Nat.add_sub_cancel];simpa using h⟩
def Adj(lt:α->α->Bool)(R:List α):Prop:=∀i,i+1<R.length->lt (gt R i) (gt R<|i+1)=true
theorem ajB{R:List α}{x:α}(h:Adj lt R)(ht:∀y∈R,lt x y=true\/lt y x=true):Adj lt<|Pq lt R x:=λi hi=>by
 rw [ZW] at hi;have⟨h1,h2⟩:=afq (lt:=lt) (L:=R) (x:=x) R.length;have hp:=MR (lt:=lt) (L:=R) (x:=x) R.length;obtain⟨p,ep⟩:∃p,p=zM lt R x R.length:=ψ
 have g:∀j,j<=R.length->gt (Pq lt R x) j=if j<p then gt R j else if j=p then x else gt R (j-1):=λj hj=>by
  unfold Pq;rw [<-ep] at hp ⊢;have hl:(R.take p).length=p:=by simp_all
  by_cases k1:j<p
  ·rw [if_pos k1,nY Z,qH k1]
  ·rw [if_neg k1,Dx Z,hl]
   by_cases k2:j=p
   ·rw [if_pos k2,k2,Nat.sub_self];rfl
   ·rw [if_neg k2]
    obtain⟨d,hd⟩:∃d,j-p=d+1:=⟨j-p-1,by omega⟩
    rw [hd];show gt (R.drop p) d=_
    rw [Rq,show p+d=j-1 by omega]
 rw [<-ep] at h1 h2 hp;rw [g i Z,g (i+1) Z]
 by_cases k1:i+1<p
 ·rw [if_pos Z,if_pos k1];exact h i Z
 ·rw [if_neg k1]
  by_cases k2:i+1=p
  ·rw [if_pos Z,if_pos k2]
   rcases h2 with h2|h2
   ·omega
   ·rw [show p-1=i by omega] at h2
    rcases ht (gt R i) (dX Z) with h3|h3
    ·simp_all
    omega
  ·rw [if_neg k2,if_neg Z]
   by_cases k3:i=p
   ·simp_all
   ·rw [if_neg k3,Nat.add_sub_cancel]
    have:=h (i-1) Z;grind
def aaV{L:List α}:∀i,i<=L.length->∀y∈wC lt L i,∃j,j<i/\y=gt L j
 |0,_,y,hy=>by cases hy
 |i+1,hi,y,hy=>by
  rcases aar.1 hy with h|h
  ·grind
  ·have⟨j,hj,e⟩:=aaV i Z y h
   grind
def TR{L:List α}(ht:∀i j,i<j->j<L.length->lt (gt L j) (gt L i)=true\/lt (gt L i) (gt L j)=true):∀i,i<=L.length->Adj lt (wC lt L i)
 |0,_=>λi hi=>absurd hi<|acH _
 |i+1,hi=>ajB (TR ht i Z) λy hy=>by
  obtain⟨j,hj,rfl⟩:=aaV i Z y hy;grind
end
theorem Tm{L0:List Pt}(tot:∀a∈L0,∀b∈L0,a=b\/OZ C a b=true\/OZ C b a=true)(trs:∀a∈L0,∀b∈L0,∀c∈L0,OZ C a b=true->OZ C b c=true->OZ C a c=true):∀(n:Nat) (L:List Pt),L.length<=n+1->L.length≠0->(∀p∈L,p∈L0)->∃w,(IU C n L).1=[w]/\w∈L/\∀p∈L,p=w\/OZ C w p=true
 |n,L,h,h0,hs=>by
  by_cases h2:L.length<2
  ·rw [yL h2]
   match L,h0,h2 with
   |[w],_,_=>grind
  ·match n,h with
   |0,h=>omega
   |n+1,h=>
    have l1:(L.take<|(L.length+1)/2).length=(L.length+1)/2:=ψ
    have l2:(L.drop<|(L.length+1)/2).length=L.length-(L.length+1)/2:=ψ;have⟨a,e1,a2,a3⟩:=Tm tot trs n (L.take<|(L.length+1)/2) Z Z λp hp=>hs p<|aja hp
    have⟨b,f1,b2,b3⟩:=Tm tot trs n (L.drop<|(L.length+1)/2) Z Z λp hp=>hs p ψ
    have ha:=aja a2;have hb:=List.mem_of_mem_drop b2;have hm:∀p∈L,p∈L.take ((L.length+1)/2)\/p∈L.drop ((L.length+1)/2):=λp hp=>by
     rw [<-List.take_append_drop ((L.length+1)/2) L] at hp;grind
    have key:∀u v:Pt,u∈L->v∈L->(u=v\/OZ C u v=true)->∀p∈L,(p=v\/OZ C v p=true)->p=u\/OZ C u p=true:=λu v hu hv k p hp q=>by
     rcases k with rfl|k
     ·exact q
     grind
    rw [DL h2 O O];refine⟨(VU C a b).1,by show [_]=_;rw [e1,f1];rfl,?_⟩;unfold VU
    by_cases hw:OZ C a b=true
    ·grind
    grind
def Us(x y:Nat->Int):Nat->List Pt
 |0=>[]
 |n+1=>Us x y n++[uI (n:Int) (x n)<|y n]
section
variable {x y:Nat→Int}
theorem sH:∀n,(Us x y n).length=n
 |0=>rfl
 |n+1=>by unfold Us;rw [List.length_append,sH n];rfl
theorem Ac:∀{n i:Nat},i<n->gt (Us x y n) i=uI (i:Int) (x i) (y i)
 |n+1,i,h=>by
  unfold Us
  by_cases e:i<n
  ·rw [nY<|by rw [sH];exact e,Ac e]
  ·obtain rfl:i=n:=Z
   rw [Dx aDD,sH,Nat.sub_self];rfl
def DN(h:p∈Us x y n):∃i,i<n/\p=uI (i:Int) (x i) (y i):=by have⟨i,hi,e⟩:=iC h;rw [sH] at hi;exact⟨i,hi,e▸Ac hi⟩
def awX(hx:∀i,i<n->(x i).natAbs<=14)(hy:∀i,i<n->(y i).natAbs<=14):∀p∈Us x y n,Fz p:=λp hp=>by
 obtain⟨i,hi,rfl⟩:=DN hp;exact⟨_,_,_,O,hx i hi,hy i hi⟩
def avN(hC:dO C):Adj (qX C)<|fD C<|Us x y n:=by unfold fD;refine TR (λi j hij hj=>?_) _<|aav _;rw [sH] at hj;rw [Ac hj,Ac Z,ad5 hC,ad5 hC];by_cases h:bfI (x j) (y j) (j:Int) (x i) (y i) (i:Int);simp_all;refine Or.inr<|ac3 ?_;unfold bfI at h ⊢;omega
def awP(hC:dO C)(hn:n≠0):∃w,w<n/\jP C (Us x y n)=[uI (w:Int) (x w)<|y w]/\∀i,i<n->i≠w->btI (x w) (y w) (w:Int) (x i) (y i) (i:Int):=by
 have⟨p,h1,h2,h3⟩:=Tm (C:=C) (L0:=Us x y n) (λa ha b hb=>by
  obtain⟨i,hi,rfl⟩:=DN ha;obtain⟨j,hj,rfl⟩:=DN hb
  by_cases e:i=j
  ·simp_all
  ·rw [aiW hC,aiW hC]
   refine Or.inr ?_
   by_cases h:btI (x i) (y i) (i:Int) (x j) (y j) (j:Int)
   ·simp_all
   ·refine Or.inr<|ac3 ?_
    unfold btI at h ⊢;omega) (λa ha b hb c hc k1 k2=>by
  obtain⟨i,hi,rfl⟩:=DN ha;obtain⟨j,hj,rfl⟩:=DN hb;obtain⟨k,hk,rfl⟩:=DN hc;rw [aiW hC] at k1 k2 ⊢;have q1:=abd k1;have q2:=abd k2;refine ac3 ?_;unfold btI at q1 q2 ⊢;omega) ((Us x y n).length-1) (Us x y n) Z aDD ψ
 obtain⟨w,hw,rfl⟩:=DN h2;refine⟨w,hw,h1,λi hi e=>?_⟩;rcases h3 (uI (i:Int) (x i) (y i)) (by rw [<-Ac hi];exact dX aDD) with k|k
 ·exact absurd (ah9 (λp:Pt=>p.1) k) (by show(i:Int)≠(w:Int);omega)
 ·rw [aiW hC] at k;simp_all
end
section
variable (x y:Nat→Int)
def cpT(s:Nat×Nat)(i k:Nat):Nat×Nat:=if Ri (x i) (y i) (x k) (y k)<Ri (x s.1) (y s.1) (x s.2) (y s.2) then(i,k) else s
def cpJ(i:Nat)(s:Nat×Nat):Nat->Nat×Nat
 |0=>s
 |j+1=>cpT x y (cpJ i s j) i<|i+1+j
def cpS(n:Nat):Nat->Nat×Nat
 |0=>(0,1)
 |i+1=>cpJ x y i (cpS n i)<|n-(i+1)
def OL(i:Nat):Pt:=uI (i:Int) (x i)<|y i
end
section
variable {x y:Nat→Int} {C:dQ} (hC:dO C)
include hC
theorem asP:DZ C (OL x y s.1,OL x y s.2) (OL x y i) (OL x y k)=(OL x y (cpT x y s i k).1,OL x y (cpT x y s i k).2):=by have e:Au (faP (OL x y s.1) (OL x y s.2) (OL x y i)<|OL x y k) C<0↔Ri (x i) (y i) (x k) (y k)<Ri (x s.1) (y s.1) (x s.2) (y s.2):=(by unfold OL;rw [aot,Jt,uX hC];omega);unfold DZ cpT;grind
theorem amL:∀j,i+j<n->Ur (DZ C) (Us x y n) i (OL x y s.1,OL x y s.2) j=(OL x y (cpJ x y i s j).1,OL x y (cpJ x y i s j).2)
 |0,_=>rfl
 |j+1,h=>by
  show DZ C (Ur (DZ C) (Us x y n) i _ j) _ _=_
  rw [amL j Z,Ac Z,Ac Z];exact asP hC
theorem amK:∀i,i<=n->SX (DZ C) (Us x y n) (OL x y 0,OL x y 1) i=(OL x y (cpS x y n i).1,OL x y (cpS x y n i).2)
 |0,_=>rfl
 |i+1,h=>by
  show Ur (DZ C) (Us x y n) i (SX (DZ C) (Us x y n) _ i) ((Us x y n).length-(i+1))=_
  rw [amK i Z,sH];exact amL hC _ Z
theorem ayd(h:2<=n):JU (Us x y n) C=(OL x y (cpS x y n n).1,OL x y (cpS x y n n).2):=by unfold JU Tc;rw [Ac Z,Ac Z,sH];exact amK hC n<|aav _
end
theorem auy{x y:Nat->Int}(h:s.1<n/\s.2<n)(hi:i<n)(hk:k<n):(cpT x y s i k).1<n/\(cpT x y s i k).2<n:=by unfold cpT;grind
def abT{x y:Nat->Int}(h:s.1<n/\s.2<n):∀j,i+j<n->(cpJ x y i s j).1<n/\(cpJ x y i s j).2<n
 |0,_=>h
 |j+1,hj=>auy (abT h j Z) Z Z
def alp{x y:Nat->Int}(h:2<=n):∀i,i<=n->(cpS x y n i).1<n/\(cpS x y n i).2<n
 |0,_=>⟨by show 0<n;omega,by assumption⟩
 |i+1,hi=>abT (alp h i Z) _ Z
def Lx(a b:Int):Prop:=0<a\/(a=0/\0<b)
def Lx.add(h:Lx a b)(k:Lx c d):Lx (a+c)<|b+d:=by unfold Lx at *;omega
def Lx.qN{t:Int}(h:Lx a b)(ht:0<t):Lx (t*a)<|t*b:=by rcases h with h|⟨h,k⟩;exact Or.inl<|Int.mul_pos ht h;exact Or.inr ⟨by simp_all,Int.mul_pos ht k⟩
def Lx.neg{t:Int}(h:Lx a b)(k:Lx (t*a)<|t*b):0<t:=by rcases agD t 0 with ht|ht|ht;exfalso;have h1:=h.qN (t:= -t) Z;have h2:=h1.add k;have e1: -t*a+t*a=0:=ψ;have e2: -t*b+t*b=0:=ψ;rw [e1,e2] at h2;unfold Lx at h2;omega;subst ht;unfold Lx at k;omega;omega
def ave{e f:Int}(hu:Lx a b)(hv:Lx c d)(hw:Lx e f)(h:0<a*d-b*c)(k:0<c*f-d*e):0<a*f-b*e:=by have h1:=(hw.qN h).add<|hu.qN k;have e1:(a*d-b*c)*e+(c*f-d*e)*a=(a*f-b*e)*c:=ψ;have e2:(a*d-b*c)*f+(c*f-d*e)*b=(a*f-b*e)*d:=ψ;rw [e1,e2] at h1;exact hv.neg h1
def Lz(a b:Int):Prop:=Lx a b\/(a=0/\b=0)
def Lz.add(h:Lz a b)(k:Lz c d):Lz (a+c)<|b+d:=by unfold Lz Lx at *;omega
def Lz.qN{t:Int}(h:Lz a b)(ht:0<=t):Lz (t*a)<|t*b:=by rcases h with h|⟨rfl,rfl⟩;by_cases e:t=0;subst e;exact Or.inr Z;exact Or.inl<|h.qN Z;exact Or.inr Z
def Lz.nn{t:Int}(h:Lx a b)(k:Lz (t*a)<|t*b):0<=t:=by by_cases ht:0<=t;omega;exfalso;have h1:=h.qN (t:= -t) Z;have h2:=Lz.add (Or.inl h1) k;have e1: -t*a+t*a=0:=ψ;have e2: -t*b+t*b=0:=ψ;have h3:Lx (-t*a+t*a) (-t*b+t*b):=(by rcases k with k|⟨k1,k2⟩;exact h1.add k;simp_all);rw [e1,e2] at h3;unfold Lx at h3;omega
def VO{e f:Int}(hu:Lz a b)(hv:Lx c d)(hw:Lz e f)(h:0<=a*d-b*c)(k:0<=c*f-d*e):0<=a*f-b*e:=by have h1:=(hw.qN h).add<|hu.qN k;have e1:(a*d-b*c)*e+(c*f-d*e)*a=(a*f-b*e)*c:=ψ;have e2:(a*d-b*c)*f+(c*f-d*e)*b=(a*f-b*e)*d:=ψ;rw [e1,e2] at h1;exact Lz.nn hv h1
section
variable {α:Type} [Inhabited α] (X Y:α→Int)
def AA(a b c:α):Int:=(X b-X a)*(Y c-Y a)-(X c-X a)*(Y b-Y a)
def H7(a b:α):Prop:=Lx (X b-X a)<|Y b-Y a
def AX(L:List α)(c:α):Nat->Nat
 |0=>0
 |k+1=>if 1<=k/\AA X Y (gt L<|k-1) (gt L k) c<=0 then AX L c k else k+1
def Y7(R:List α):Nat->List α
 |0=>[]
 |i+1=>(Y7 R i).take (AX X Y (Y7 R i) (gt R i) (Y7 R i).length)++[gt R i]
end
section
variable {α:Type} [Inhabited α] {X Y:α→Int}
def aaG{L:List α}{c:α}:∀k,AX X Y L c k<=k
 |0=>aav _
 |k+1=>by unfold AX;split;exact Nat.le_succ_of_le<|aaG k;omega
def Wj{L:List α}{c:α}:∀k,1<=k->1<=AX X Y L c k
 |0,h=>absurd h Z
 |k+1,_=>by
  unfold AX;split
  ·rename_i h;exact Wj k h.1
  ·omega
def aaH{L:List α}{c:α}:∀k,1<=k->(AX X Y L c k=1\/0<AA X Y (gt L<|AX X Y L c k-2) (gt L<|AX X Y L c k-1) c)/\∀j,AX X Y L c k<=j->j<k->AA X Y (gt L<|j-1) (gt L j) c<=0
 |0,h=>absurd h Z
 |k+1,_=>by
  unfold AX
  by_cases h:1<=k/\AA X Y (gt L<|k-1) (gt L k) c<=0
  ·rw [if_pos h]
   have⟨h1,h2⟩:=aaH (L:=L) (c:=c) k h.1;refine⟨h1,λj hj hk=>?_⟩
   by_cases e:j=k
   ·rw [e];exact h.2
   ·exact h2 j hj Z
  ·rw [if_neg h]
   refine⟨?_,λj hj hk=>by omega⟩
   by_cases e:k=0
   ·exact Or.inl Z
   ·refine Or.inr ?_
    rw [show k+1-2=k-1 by omega,show k+1-1=k by omega];have:¬AA X Y (gt L<|k-1) (gt L k) c<=0:=λq=>h ⟨by omega,q⟩
    omega
structure ChV(X Y:α->Int)(R S:List α)(i:Nat):Prop where
 ne:1<=S.length
 hd:gt S 0=gt R 0
 tl:gt S (S.length-1)=gt R (i-1)
 up:∀q,q+1<S.length->H7 X Y (gt S q) (gt S<|q+1)
 lf:∀q,q+2<S.length->0<AA X Y (gt S q) (gt S<|q+1) (gt S<|q+2)
 al:∀q,q+1<S.length->∀p,p<i->0<=AA X Y (gt S q) (gt S<|q+1) (gt R p)
def ChV.step{R S:List α}(h:ChV X Y R S i)(hs:∀a b,a<b->b<R.length->H7 X Y (gt R a) (gt R b))(hi:1<=i)(hi2:i<R.length):ChV X Y R (S.take (AX X Y S (gt R i) S.length)++[gt R i])<|i+1:=by obtain⟨c,ec⟩:∃c,c=gt R i:=⟨_,O⟩;rw [<-ec];have hk1:=Wj (X:=X) (Y:=Y) (L:=S) (c:=c) S.length h.ne;have hk2:=aaG (X:=X) (Y:=Y) (L:=S) (c:=c) S.length;have⟨st,pp⟩:=aaH (X:=X) (Y:=Y) (L:=S) (c:=c) S.length h.ne;obtain⟨k,ek⟩:∃k,k=AX X Y S c S.length:=⟨_,O⟩;rw [<-ek] at hk1 hk2 st pp ⊢;have hl:(S.take k).length=k:=aCj;have hl2:(S.take k++[c]).length=k+1:=aCj;have g:∀q,q<k->gt (S.take k++[c]) q=gt S q:=λq hq=>(by rw [nY Z,qH hq]);have gk:gt (S.take k++[c]) k=c:=(by rw [Dx Z,hl,Nat.sub_self];rfl);have bc:∀d q,q+d+1=S.length->H7 X Y (gt S q) c:=λd=>(by induction d with|zero=>intro q hq;rw [show q=S.length-1 by omega,h.tl,ec];grind|succ d ih=>intro q hq;have h1:=h.up q Z;have h2:=ih (q+1) Z;unfold H7 at *;have:=h1.add h2;grind);have bc':∀q,q<S.length->H7 X Y (gt S q) c:=λq hq=>bc (S.length-1-q) q Z;have cl:∀d q,q+d+2=k->0<AA X Y (gt S q) (gt S<|q+1) c:=λd=>(by induction d with|zero=>(intro q hq;rcases st with e|e;omega;rwa [show k-2=q by omega,show k-1=q+1 by omega] at e)|succ d ih=>intro q hq;have h1:=h.lf q Z;have h2:=ih (q+1) Z;have u:=h.up q Z;have v:=h.up (q+1) Z;have w:=bc' (q+1) Z;unfold H7 at u v w;unfold AA at h1 h2 ⊢;have:=ave u v w ψ ψ;grind);refine⟨by omega,by rw [g 0 Z];exact h.hd,by simp_all,λq hq=>?_,λq hq=>?_,λq hq p hp=>?_⟩;rw [hl2] at hq;by_cases e:q+1<k;rw [g q Z,g (q+1) e];exact h.up q Z;grind;rw [hl2] at hq;by_cases e:q+2<k;rw [g q Z,g (q+1) Z,g (q+2) e];exact h.lf q Z;rw [g q Z,g (q+1) Z,show q+2=k by omega,gk];exact cl 0 q Z;rw [hl2] at hq;by_cases e:q+1<k;rw [g q Z,g (q+1) e];by_cases ep:p<i;exact h.al q Z p ep;rw [show p=i by omega,<-ec];exact Int.le_of_lt<|cl (k-2-q) q Z;rw [g q Z,show q+1=k by omega,gk];by_cases ep:p<i;obtain⟨a,ea⟩:∃a,a=gt S q:=⟨_,O⟩;obtain⟨z,ez⟩:∃z,z=gt R p:=⟨_,O⟩;have hw:=bc' q Z;rw [<-ea] at hw ⊢;rw [<-ez];unfold H7 at hw;by_cases hz:Lz (X z-X a)<|Y z-Y a;by_cases hn:k<S.length;have h1:=pp k (aav _) hn;have h2:=h.al q Z p ep;have hu:=h.up q Z;have hw2:=bc' k hn;rw [show k-1=q by omega] at h1;rw [show q+1=k by omega] at h2 hu;rw [<-ea] at h1 h2 hu;rw [<-ez] at h2;unfold H7 at hu hw2;unfold AA at h1 h2 ⊢;have:=VO (Or.inl hw2) hu hz ψ ψ;grind;have ea2:a=gt R (i-1):=(by rw [ea,<-h.tl];grind);have e0:X z=X a/\Y z=Y a:=(by by_cases e1:p=i-1;simp_all;have:=hs p (i-1) Z Z;rw [<-ez,<-ea2] at this;unfold H7 Lx at this;unfold Lz Lx at hz;omega);unfold AA;simp_all;by_cases hk:k=1;exfalso;have ea2:a=gt R 0:=(by rw [ea,<-h.hd];grind);by_cases e1:p=0;refine hz<|Or.inr ?_;simp_all;have:=hs 0 p Z Z;rw [<-ez,<-ea2] at this;exact hz<|Or.inl this;have h1:=cl 0 (k-2) Z;have h2:=h.al (k-2) Z p ep;have hu:=h.up (k-2) Z;rw [show k-2+1=q by omega] at h1 h2 hu;rw [<-ea] at h1 h2 hu;rw [<-ez] at h2;unfold H7 at hu;unfold AA at h1 h2 ⊢;have hr:Lz (X a-X z)<|Y a-Y z:=(by unfold Lz Lx at hz ⊢;omega);have:=VO hr hu (Or.inl hw) ψ ψ;grind;rw [show p=i by omega,<-ec];unfold AA;grind
def XA{R:List α}(hs:∀a b,a<b->b<R.length->H7 X Y (gt R a) (gt R b)):∀i,1<=i->i<=R.length->ChV X Y R (Y7 X Y R i) i
 |0,h,_=>absurd h Z
 |1,_,_=>⟨aav _,O,O,λq hq=>absurd hq<|by show ¬q+1<1;omega,λq hq=>absurd hq (by show ¬q+2<1;omega),λq hq=>absurd hq (by show ¬q+1<1;omega)⟩
 |i+2,_,h=>(XA hs (i+1) Z Z).step hs Z Z
omit [Inhabited α] in
def uZ{a b c:α}:AA (λa=> -X a) (λa=> -Y a) a b c=AA X Y a b c:=by unfold AA;grind
def Wi{L:List α}{c:α}:∀k,AX (λa=> -X a) (λa=> -Y a) L c k=AX X Y L c k
 |0=>rfl
 |k+1=>by unfold AX;rw [uZ,Wi k]
def Y8{R:List α}:∀i,Y7 (λa=> -X a) (λa=> -Y a) R i=Y7 X Y R i
 |0=>rfl
 |i+1=>by unfold Y7;rw [Y8 i,Wi]
def aef{R:List α}(hs:∀a b,a<b->b<R.length->H7 X Y (gt R b) (gt R a))(h1:1<=i)(h2:i<=R.length):ChV (λa=> -X a) (λa=> -Y a) R (Y7 X Y R i) i:=by rw [<-Y8 i];refine XA (λa b hab hb=>?_) i h1 h2;have:=hs a b hab hb;show Lx (-X (gt R b)- -X (gt R a)) (-Y (gt R b)- -Y (gt R a));unfold H7 Lx at this;unfold Lx;omega
end
def O0(p:Pt):Int:=pX p 0
def O1(p:Pt):Int:=pY p 0
def FI{i:Int}:O0 (uI i x y)=x:=by unfold O0;rw [SQ];rfl
def FK{i:Int}:O1 (uI i x y)=y:=by unfold O1;rw [SS];rfl
def aqz(hC:dO C){a b c:Pt}(ha:Fz a)(hb:Fz b)(hc:Fz c):Au (rZ a b c) C<=0↔AA O0 O1 a b c<=0:=by obtain⟨_,_,_,rfl,_⟩:=ha;obtain⟨_,_,_,rfl,_⟩:=hb;obtain⟨_,_,_,rfl,_⟩:=hc;rw [avw,Jt,uX hC];unfold AA;rw [FI,FI,FI,FK,FK,FK];unfold ahD;omega
def agK(hC:dO C){L:List Pt}{c:Pt}(hL:∀p∈L,Fz p)(hc:Fz c):∀k,k<=L.length->uq C L c k=AX O0 O1 L c k
 |0,_=>rfl
 |k+1,h=>by
  unfold uq AX;rw [agK hC hL hc k Z]
  by_cases h1:1<=k
  ·have e:=aqz hC (hL _<|dX<|show k-1<L.length by omega) (hL _<|dX<|show k<L.length by omega) hc
   simp_all
  simp_all
def aeg(hC:dO C){R:List Pt}(hR:∀p∈R,Fz p):∀i,i<=R.length->qB C R i=Y7 O0 O1 R i
 |0,_=>rfl
 |i+1,h=>by
  unfold qB Y7;rw [agK hC (λp hp=>hR p<|FN i Z p hp) (hR _<|dX Z) _ Z,aeg hC hR i Z]
section
variable {α:Type} [Inhabited α] {X Y:α→Int}
def QM{R:List α}:∀i,i<=R.length->∀p∈Y7 X Y R i,p∈R
 |0,_,p,hp=>by cases hp
 |i+1,hi,p,hp=>by
  unfold Y7 at hp;rcases ah3.1 hp with h|h
  ·exact QM i Z p<|aja h
  ·exact avm
def aes{R:List α}{a b c:α}(hb:∀p∈R,Lz (X b-X p)<|Y b-Y p)(ha:H7 X Y a b)(hc:H7 X Y c b)(hcR:c∈R)(e1:∀p∈R,0<=AA X Y a b p)(e2:∀p∈R,0<=AA X Y b c p):0<AA X Y a b c\/∀p∈R,∀q∈R,∀r∈R,AA X Y p q r=0:=by by_cases h0:0<AA X Y a b c;omega;refine Or.inr ?_;have h1:=e1 c hcR;have h2:AA X Y a b c=0:=Z;unfold H7 at ha hc;have on:∀p∈R,(X b-X p)*(Y b-Y c)-(Y b-Y p)*(X b-X c)=0:=λp hp=>(by have k1:=e1 p hp;have k2:=e2 p hp;have hr:=hb p hp;unfold AA at h2 k1 k2;have k3:=VO hr ha (Or.inl hc) ψ ψ;have e:(X c-X b)*(Y p-Y b)-(X p-X b)*(Y c-Y b)= -((X b-X p)*(Y b-Y c)-(Y b-Y p)*(X b-X c)):=ψ;omega);have two:∀p∈R,∀q∈R,(X b-X p)*(Y b-Y q)-(Y b-Y p)*(X b-X q)=0:=λp hp q hq=>(by have k1:=on p hp;have k2:=on q hq;have k3:=VO (hb p hp) hc (hb q hq) ψ ψ;have k4:=VO (hb q hq) hc (hb p hp) ψ ψ;have e:(X b-X q)*(Y b-Y p)-(Y b-Y q)*(X b-X p)= -((X b-X p)*(Y b-Y q)-(Y b-Y p)*(X b-X q)):=ψ;omega);intro p hp q hq r hr;have k1:=two p hp q hq;have k2:=two p hp r hr;have k3:=two q hq r hr;unfold AA;grind
def nM(A B:List α):List α:=A.take (A.length-1)++B.take (B.length-1)
section
variable {R R' A B:List α} {n:Nat} (hn:2≤n) (hl:R.length=n) (hl':R'.length=n) (hr:∀ i,i < n→gt R' i=gt R (n-1-i))
 (hs:∀ a b,a < b→b < n→H7 X Y (gt R a) (gt R b)) (U:ChV X Y R A n) (V:ChV (fun a=> -X a) (fun a=> -Y a) R' B n)
include hn hr hs U V
theorem RH:2<=A.length/\2<=B.length:=by have h0:gt R 0≠gt R (n-1):=λe=>(by have:=hs 0 (n-1) Z Z;rw [<-e] at this;unfold H7 Lx at this;omega);constructor;have h1:=U.ne;by_cases e:A.length=1;have h2:=U.tl;rw [e,Nat.sub_self,U.hd] at h2;simp_all;omega;have h1:=V.ne;by_cases e:B.length=1;have h2:=V.tl;rw [e,Nat.sub_self,V.hd,hr 0 Z,hr (n-1) Z] at h2;simp_all;omega
theorem MO:(nM A B).length=(A.length-1)+(B.length-1):=by unfold nM;simp_all
theorem zK(hq:q<=A.length-1):gt (nM A B) q=gt A q:=by have⟨h1,h2⟩:=RH hn hr hs U V;have hl1:(A.take<|A.length-1).length=A.length-1:=aCj;unfold nM;by_cases e:q<A.length-1;rw [nY Z,qH e];rw [show q=A.length-1 by omega,Dx Z,hl1,Nat.sub_self,qH Z,V.hd,U.tl,hr 0 Z];rfl
theorem DF{d:Nat}(hd:d<=B.length-1):gt (nM A B) ((A.length-1+d)%(nM A B).length)=gt B d:=by have⟨h1,h2⟩:=RH hn hr hs U V;have hl1:(A.take<|A.length-1).length=A.length-1:=(by simp_all);have hle:=MO hn hr hs U V;by_cases e:d<B.length-1;rw [Nat.mod_eq_of_lt Z];unfold nM;rw [Dx Z,hl1,Nat.add_sub_cancel_left,qH e];rw [show A.length-1+d=(nM A B).length by omega,Nat.mod_self,zK hn hr hs U V Z,U.hd,show d=B.length-1 by omega,V.tl,hr (n-1) Z,Nat.sub_self]
theorem ajx{p:Nat}(hq:q<(nM A B).length)(hp:p<n):0<=AA X Y (gt (nM A B) q) (gt (nM A B)<|(q+1)%(nM A B).length) (gt R p):=by have⟨h1,h2⟩:=RH hn hr hs U V;have hle:=MO hn hr hs U V;by_cases e:q<A.length-1;rw [Nat.mod_eq_of_lt Z,zK hn hr hs U V Z,zK hn hr hs U V Z];exact U.al q Z p hp;obtain⟨d,rfl⟩:∃d,q=A.length-1+d:=⟨q-(A.length-1),by omega⟩;have e1:=DF hn hr hs U V (d:=d) Z;rw [Nat.mod_eq_of_lt hq] at e1;rw [e1,Nat.add_assoc,DF hn hr hs U V Z];have:=V.al d Z (n-1-p) Z;exact ayH
theorem ajy(hl:R.length=n)(hm:∀p∈A,p∈R)(hm':∀p∈B,p∈R)(hlen:2<(nM A B).length)(hq:q<(nM A B).length):0<AA X Y (gt (nM A B) q) (gt (nM A B)<|(q+1)%(nM A B).length) (gt (nM A B)<|(q+2)%(nM A B).length):=by have⟨h1,h2⟩:=RH hn hr hs U V;have hle:=MO hn hr hs U V;have flat:¬∀p∈R,∀q∈R,∀r∈R,AA X Y p q r=0:=λh=>(by by_cases e:2<A.length;have:=U.lf 0 e;rw [h _ (hm _<|dX Z) _ (hm _<|dX Z) _<|hm _<|dX Z] at this;omega;have:=V.lf 0 Z;rw [uZ,h _ (hm' _<|dX Z) _ (hm' _<|dX Z) _<|hm' _<|dX Z] at this;omega);have b0:gt B 0=gt R (n-1):=(by rw [V.hd,hr 0 Z];rfl);have bl:gt B (B.length-1)=gt R 0:=(by rw [V.tl,hr (n-1) Z,Nat.sub_self]);have alB:∀d,d+1<B.length->∀p,p<n->0<=AA X Y (gt B d) (gt B<|d+1) (gt R p):=λd hd p hp=>(by have:=V.al d hd (n-1-p) Z;exact ayH);by_cases e:q<A.length-1;rw [Nat.mod_eq_of_lt Z,zK hn hr hs U V Z,zK hn hr hs U V Z];by_cases e2:q+2<=A.length-1;rw [Nat.mod_eq_of_lt Z,zK hn hr hs U V e2];exact U.lf q Z;rw [show q+2=A.length-1+1 by omega,DF hn hr hs U V Z];have ea:gt A (q+1)=gt R (n-1):=(by rw [show q+1=A.length-1 by omega];exact U.tl);refine(aes (R:=R) (λp hp=>?_) (U.up q Z) ?_ (hm' _<|dX Z) (λp hp=>?_)<|λp hp=>?_).elim id λh=>absurd h flat;obtain⟨j,hj,rfl⟩:=iC hp;rw [ea];by_cases ej:j=n-1;rw [ej];exact Or.inr Z;exact Or.inl<|hs j (n-1) Z Z;have:=V.up 0 Z;rw [ea,<-b0];unfold H7 Lx at this ⊢;grind;obtain⟨j,hj,rfl⟩:=iC hp;exact U.al q Z j Z;obtain⟨j,hj,rfl⟩:=iC hp;grind;obtain⟨d,rfl⟩:∃d,q=A.length-1+d:=⟨q-(A.length-1),by omega⟩;have e1:=DF hn hr hs U V (d:=d) Z;rw [Nat.mod_eq_of_lt hq] at e1;rw [e1,Nat.add_assoc,Nat.add_assoc,DF hn hr hs U V Z];by_cases e2:d+2<=B.length-1;rw [DF hn hr hs U V e2];have:=V.lf d Z;rw [uZ] at this;omega;have e3:(A.length-1+(d+2))%(nM A B).length=1:=(by rw [show A.length-1+(d+2)=(nM A B).length+1 by omega,Nat.add_mod_left,Nat.mod_eq_of_lt Z]);rw [e3,zK hn hr hs U V Z];have ea:gt B (d+1)=gt R 0:=ψ;have k:=aes (Y:=λa=> -Y a) (R:=R) (a:=gt B d) (b:=gt B<|d+1) (c:=gt A 1) (λp hp=>?_) (V.up d Z) ?_ (hm _<|dX Z) (λp hp=>?_) (λp hp=>?_);rcases k with k|k;rwa [uZ] at k;exact absurd (λp hp q hq r hr=>by rw [<-uZ];simp_all) flat;obtain⟨j,hj,rfl⟩:=iC hp;rw [ea];by_cases ej:j=0;rw [ej];exact Or.inr Z;have:=hs 0 j Z Z;refine Or.inl ?_;show Lx (-X (gt R 0)- -X (gt R j)) (-Y (gt R 0)- -Y (gt R j));unfold H7 Lx at this;unfold Lx;omega;have:=U.up 0 Z;rw [ea,<-U.hd];show Lx (-X (gt A 0)- -X (gt A 1)) (-Y (gt A 0)- -Y (gt A 1));unfold H7 Lx at this;unfold Lx;grind;obtain⟨j,hj,rfl⟩:=iC hp;rw [uZ];grind;obtain⟨j,hj,rfl⟩:=iC hp;rw [uZ,ea,<-U.hd];exact U.al 0 Z j Z
end
end
def Spl(p q:Pt):Prop:=O0 p=O0 q/\O1 p=O1 q
def am3{q:Pt}(hp:Fz p)(hq:Fz q):P7 p q=true↔Spl p q:=by obtain⟨i,x,y,rfl,_⟩:=hp;obtain⟨j,x2,y2,rfl,_⟩:=hq;unfold Spl;rw [FI,FI,FK,FK];constructor;intro h;have h1:smP (uI i x y)<|uI j x2 y2:=@of_decide_eq_true _ (Classical.propDecidable _) h;have⟨a,b,_⟩:=h1;rw [SQ,SQ] at a;rw [SS,SS] at b;exact⟨congrFun a 0,congrFun b 0⟩;rintro⟨rfl,rfl⟩;exact am4 ⟨by rfl,by rfl,by rfl⟩
theorem Xv{α:Type}[Inhabited α]{f:α->Bool}{L:List α}:∀{k:Nat},anK f L k=true↔∃j,j<k/\f (gt L j)=true
 |0=>Iff.intro (λh=>by cases h) (λ⟨j,h,_⟩=>absurd h<|acH _)
 |k+1=>by
  unfold anK;rw [Bool.or_eq_true,Xv];grind
section
variable {L:List Pt} (hS:∀ p∈L,Fz p)
include hS
theorem ahK:∀i,i<=L.length->(∀a b,a<b->b<(nG L i).length->¬Spl (gt (nG L i) a) (gt (nG L i) b))/\∀j,j<i->∃a,a<(nG L i).length/\Spl (gt (nG L i) a) (gt L j)
 |0,_=>⟨λa b _ h=>absurd h<|acH _,λj h=>absurd h<|acH _⟩
 |i+1,hi=>by
  have⟨h1,h2⟩:=ahK i Z;have hW:∀a,a<(nG L i).length->Fz (gt (nG L i) a):=jf λq hq=>hS q<|sN i Z q hq
  have hLi:=hS _ (dX<|show i<L.length by omega);cases e:anK (P7 (gt L i)) (nG L i) (nG L i).length with
  |true=>
   rw [anc e];refine⟨h1,λj hj=>?_⟩
   by_cases q:j=i
   ·have⟨a,ha,k⟩:=Xv.1 e
    have k':=(am3 hLi<|hW a ha).1 k;exact⟨a,ha,by rw [q];exact⟨k'.1.symm,k'.2.symm⟩⟩
   ·exact h2 j Z
  |false=>
   rw [aa6 e];have hl:(nG L i++[gt L i]).length=(nG L i).length+1:=by simp_all
   refine⟨λa b hab hb=>?_,λj hj=>?_⟩
   ·rw [hl] at hb
    by_cases q:b<(nG L i).length
    ·rw [nY Z,nY q];simp_all
    ·have eb:b=(nG L i).length:=Z
     rw [nY Z,eb,Ko];intro k;have k':=(am3 hLi<|hW a Z).2 ⟨k.1.symm,k.2.symm⟩;have:=(Xv (k:=(nG L i).length)).2 ⟨a,by omega,k'⟩;simp_all
   ·by_cases q:j=i
    ·exact⟨(nG L i).length,by omega,by rw [Ko,q];exact ayE⟩
    ·have⟨a,ha,k⟩:=h2 j Z
     exact⟨a,by omega,by rw [nY ha];exact k⟩
end
def ad7{R:List Pt}:∀{j i:Nat},i<j->gt (bkF R j) i=gt R (R.length-1-i)
 |j+1,i,h=>by
  unfold bkF
  by_cases e:i<j
  ·rw [nY<|by rw [wS];exact e,ad7 e]
  ·obtain rfl:i=j:=Z
   rw [Dx<|by rw [wS];omega,wS,Nat.sub_self];rfl
def asO(hC:dO C){q:Pt}(hp:Fz p)(hq:Fz q)(h:qX C p q=true):H7 O0 O1 p q\/(Spl p q/\p.1<q.1):=by obtain⟨i,x,y,rfl,_⟩:=hp;obtain⟨j,x2,y2,rfl,_⟩:=hq;rw [ad5 hC] at h;have h:=abd h;unfold H7 Spl Lx;rw [FI,FI,FK,FK];unfold bfI at h;show _\/_/\i<j;omega
def an9(hC:dO C){q:Pt}(hp:Fz p)(hq:Fz q)(h:¬Spl p q):qX C p q=true\/qX C q p=true:=by obtain⟨i,x,y,rfl,_⟩:=hp;obtain⟨j,x2,y2,rfl,_⟩:=hq;unfold Spl at h;rw [FI,FI,FK,FK] at h;rw [ad5 hC,ad5 hC];by_cases k:bfI x y i x2 y2 j;simp_all;refine Or.inr<|ac3 ?_;unfold bfI at k ⊢;omega
section
variable {L:List Pt} {C:dQ} (hC:dO C) (hS:∀ p∈L,Fz p)
include hC hS
theorem arM:∀p∈aT L,Fz p:=λp hp=>hS p<|sN _ (aav _) p hp
theorem arJ:∀p∈fD C (aT L),Fz p:=λp hp=>arM hC hS p<|oP.1 hp
theorem axS:∀d a,a+d+1<(fD C<|aT L).length->H7 O0 O1 (gt (fD C<|aT L) a) (gt (fD C<|aT L)<|a+d+1):=λd=>by
 have hw:=(ahK hS L.length<|aav _).1;have hst:=arM hC hS;have hR:=arJ hC hS;have adj:Adj (qX C)<|fD C<|aT L:=by
  unfold fD;refine TR (λi j hij hj=>?_) _<|aav _;have h0:=hw i j hij hj;exact(an9 hC (hst _<|dX<|show i<(aT L).length by omega) (hst _<|dX hj) h0).symm
 have one:∀a,a+1<(fD C<|aT L).length->H7 O0 O1 (gt (fD C<|aT L) a) (gt (fD C<|aT L)<|a+1):=λa ha=>by
  have h1:=adj a ha;have m1:=dX (show a<(fD C<|aT L).length by omega);have m2:=dX ha;rcases asO hC (hR _ m1) (hR _ m2) h1 with h|⟨h,k⟩
  ·exact h
  ·exfalso;have⟨i,hi,ei⟩:=iC<|oP.1 m1;have⟨j,hj,ej⟩:=iC<|oP.1 m2;rw [<-ei,<-ej] at h k;rcases ah1 i j with q|q|q;exact hw i j q hj h;simp_all;exact hw j i q hi ⟨h.1.symm,h.2.symm⟩
 induction d with
 |zero=>omega
 |succ d ih=>
  intro a ha;have h1:=one a Z;have h2:=ih (a+1) Z;rw [show a+1+d+1=a+(d+1)+1 by omega] at h2;unfold H7 at *;have:=h1.add h2;grind
theorem axR{a b:Nat}(h:a<b)(hb:b<(fD C<|aT L).length):H7 O0 O1 (gt (fD C<|aT L) a)<|gt (fD C<|aT L) b:=by have:=axS hC hS (b-a-1) a Z;grind
theorem arI(hp:p∈L):∃j,j<(fD C<|aT L).length/\Spl (gt (fD C<|aT L) j) p:=by have⟨i,hi,e⟩:=iC hp;have⟨a,ha,k⟩:=(ahK hS L.length<|aav _).2 i hi;have hm:gt (aT L) a∈fD C (aT L):=oP.2<|dX ha;have⟨j,hj,ej⟩:=iC hm;exact⟨j,hj,by rw [ej,<-e];exact k⟩
omit hC hS in
def aa0{a b q:Pt}(h:Spl p q):AA O0 O1 a b p=AA O0 O1 a b q:=by unfold AA;rw [h.1,h.2]
def ao7:(∀q,q<(fE C L).length->∀p∈L,0<=AA O0 O1 (gt (fE C L) q) (gt (fE C L) ((q+1)%(fE C L).length)) p)/\(2<(fE C L).length->∀q,q<(fE C L).length->0<AA O0 O1 (gt (fE C L) q) (gt (fE C L) ((q+1)%(fE C L).length)) (gt (fE C L) ((q+2)%(fE C L).length))):=by
 have hR:=arJ hC hS;have hlt:=λa b=>axR hC hS (a:=a) (b:=b);have hall:=λp=>arI hC hS (p:=p);unfold fE;obtain⟨R,eR⟩:∃R,R=fD C (aT L):=⟨_,rfl⟩;rw [<- eR] at hR hlt hall ⊢;by_cases h3:R.length<3
 ·rw [amQ h3];refine⟨λq hq p hp=>?_,λh=>absurd h Z⟩;obtain⟨j,hj,k⟩:=hall p hp;rw [<- aa0 k];by_cases h1:R.length=1;rw [h1,Nat.mod_one,show q=0 by omega,show j=0 by omega];unfold AA;grind;have h2:R.length=2:=Z;rw [h2];have hq2:q=0\/q=1:=Z;have hj2:j=0\/j=1:=Z;rcases hq2 with rfl | rfl <;> rcases hj2 with rfl | rfl <;> (unfold AA;show(0:Int)<=_;simp;try grind)
 ·rw [agZ h3];have hl':(BH R).length=R.length:=wS _;have hr:∀i,i<R.length->gt (BH R) i=gt R (R.length-1-i):=λi hi=>ad7 hi;have hB:∀p∈BH R,Fz p:=λp hp=>hR p (FH _ (aav _) p hp);have eA:y7 C R=Y7 O0 O1 R R.length:=aeg hC hR _ (aav _);have eB:y7 C (BH R)=Y7 O0 O1 (BH R) R.length:=(by unfold y7;rw [hl'];exact aeg hC hB _ Z);rw [eA,eB];have U:=XA (X:=O0) (Y:=O1) (R:=R) (λa b hab hb=>hlt a b hab hb) R.length Z (aav _);have V:=aef (X:=O0) (Y:=O1) (R:=BH R) (λa b hab hb=>by
   rw [hl'] at hb;rw [hr a Z,hr b hb];exact hlt _ _ Z Z) (i:=R.length) Z Z
  refine⟨λq hq p hp=>?_,λh q hq=>?_⟩
  ·obtain⟨j,hj,k⟩:=hall p hp;rw [<- aa0 k];exact ajx Z hr (λa b hab hb=>hlt a b hab hb) U V hq hj
  ·exact ajy Z hr (λa b hab hb=>hlt a b hab hb) U V rfl (λp hp=>QM _ (aav _) p hp) (λp hp=>by
    have:=QM _ Z p hp;exact FH _ (aav _) p this) h hq
end
abbrev fi(X:Nat->Int):Nat->Nat->Lf:=λi _=> vI<|X i
def ais{f:Nat->Int}(hn:k<=100000)(hl:∀i,i<k->0<=f i/\f i<(n:Int)):aH prog 51 [.o<|.a 1 k<|fi f,.o<|vI (n:Int)]<|.d<|.o<|.v<|.bool true:=by refine aS bM 25 [.tmp 4] func51 O O O O O<|cR<|xWe O<|I<|au<|cR<|xEe 3 O<|I<|aK<|dL (ι:=Nat) (λi=>⟨25,[(0,.d<|.o<|.a 1 k<|fi f),(1,dI (n:Int)),(4,.d<|.o<|.v<|.bool false),(7,dI (k:Int)),(8,dI (i:Int))],[]⟩) (λi=>i<=k) (λi=>k-i) 0 (abJ _) (wkv [4] [] aCk trivial O O) ?_;rintro i hi;refine cR<|xWe O<|I<|au<|bI O (λhc1=>?_) (λhc1=>?_);refine aO<|tN<|au<|aK<|au ?_;have hil:i<k:=aCb;have hli:=hl i hil;refine aA<|xEe 2 O<|I<|cR<|xEe 2 O<|mV bM _ (xjh O O O O O O Z)<|xWe O<|mV bM (.d<|.o<|.v<|.bool false) (dD<|acS Z)<|xEe 3 O<|mV bM _ (xjh O O O O O O Z)<|xEe 2 O<|mV bM (.d<|.o<|.v<|.bool false) (dD<|acS Z)<|xWe O<|I<|cF O<|aO<|bN<|tN<|aA<|mV bM (dI ((i+1:Nat):Int)) aCB<|xWe O<|ak<|⟨(i+1),by omega,by omega,wkr O O⟩;exact aya
def acJ(h1: -14<=a)(h2:a<=14)(h3: -14<=b)(h4:b<=14): -196<=a*b/\a*b<=196:=by
 have h:(a*b).natAbs<=14*14:=by rw [Int.natAbs_mul];exact ac2 Z Z
 omega
def ajL(hi:i<m)(hk:k<m)(hm:m<=1000)(hb:bfI (X i) (Y i) (i:Int) (X k) (Y k) (k:Int)):dA prog 50 [dI (i:Int),dI (k:Int),.p 0 0,.p 1 0] [(0,.i p0<|.b 40<|[.a 1 m<|fi X]),(1,.i p1<|.b 40<|[.a 1 m<|fi Y])] [0,1] [0,1] (λr hp=>r=.d (.o<|.v<|.bool true)/\hp=[(0,.i p0<|.b 40<|[.a 1 m<|fi X]),(1,.i p1<|.b 40<|[.a 1 m<|fi Y])]):=by refine aLr 54 [.tmp 6] [] func50 O O<|cR<|xWe O<|I<|au ?_;by_cases hc1:X i<X k;refine xDe 47 []<|rEr 2 O<|rVr (xjh O O O O O O Z)<|rEr 3 O<|rVr (xjh O O O O O O Z)<|rVr O<|rTd O hc1<|rVr O<|rGr<|rGr<|rGr<|rGr<|rGr<|rGr<|rGr<|rGr<|rGr<|rGr<|xUr<|xUr<|xUr<|xUr<|xUr<|xUr<|xUr<|xUr<|xUr<|xUr<|xUr<|xUr<|xUr<|xUr<|xUr<|xUr<|xUr<|xUr<|xUr<|xUr<|xUr<|xUr<|xUr<|xUr<|xUr<|rGr<|rVr O<|.nil<|xWe O<|I<|aQ<|rLg [3,2] aCl aEG O O O O O;have⟨he1,hb1⟩:=Or.resolve_left (show _\/_ from hb) hc1;by_cases hc2:Y i<Y k;refine xDe 47 []<|rEr 2 O<|rVr (xjh O O O O O O Z)<|rEr 3 O<|rVr (xjh O O O O O O Z)<|rVr O<|rFd O hc1<|rEr 3 O<|rVr (xjh O O O O O O Z)<|rEr 3 O<|rVr (xjh O O O O O O Z)<|rVr O<|rTr O (acW.2 he1)<|rEr 3 O<|rVr (xjh O O O O O O Z)<|rEr 3 O<|rVr (xjh O O O O O O Z)<|rVr O<|rTd O hc2<|rVr O<|rGr<|rGr<|rGr<|rGr<|rGr<|rGr<|rGr<|rGr<|rGr<|rGr<|xUr<|xUr<|xUr<|rGr<|rEr 3 O<|.nil<|xWe O<|I<|aQ<|rLg [3,2] aCl aEG O O O O O;have⟨he2,hb2⟩:=hb1.resolve_left hc2;refine xDe 47 []<|rEr 2 O<|rVr (xjh O O O O O O Z)<|rEr 3 O<|rVr (xjh O O O O O O Z)<|rVr O<|rFd O hc1<|rEr 3 O<|rVr (xjh O O O O O O Z)<|rEr 3 O<|rVr (xjh O O O O O O Z)<|rVr O<|rTr O (acW.2 he1)<|rEr 3 O<|rVr (xjh O O O O O O Z)<|rEr 3 O<|rVr (xjh O O O O O O Z)<|rVr O<|rFd O hc2<|rEr 3 O<|rVr (xjh O O O O O O Z)<|rEr 3 O<|rVr (xjh O O O O O O Z)<|rVr O<|rTr O (acW.2 he2)<|rEr 3 O<|rTd O hb2<|rEr 4 O<|.nil<|xWe O<|I<|aQ<|rLg [3,2] aCl aEG O O O O O
def arp(hi:i<m)(hk:k<m)(hm:m<=1000)(hX:∀i,0<=X i/\X i<=14)(hY:∀i,0<=Y i/\Y i<=14):dA prog 52 [dI (i:Int),dI (k:Int),.p 0 0,.p 1 0] [(0,.i p0<|.b 40<|[.a 1 m<|fi X]),(1,.i p1<|.b 40<|[.a 1 m<|fi Y])] [0,1] [0,1] (λr hp=>r= dI (Ri (X i) (Y i) (X k)<|Y k)/\hp=[(0,.i p0<|.b 40<|[.a 1 m<|fi X]),(1,.i p1<|.b 40<|[.a 1 m<|fi Y])]):=by have a1:=hX i;have a2:=hX k;have a3:=hY i;have a4:=hY k;have m1:=acJ (a:=X i-X k) (b:=X i-X k) Z Z Z Z;have m2:=acJ (a:=Y i-Y k) (b:=Y i-Y k) Z Z Z Z;refine aLr 46 [.tmp 6] [] func52 O O<|cR<|xWe O<|I<|au<|bF bM 40 ξ ξ ξ<|oE 2 O<|oV (xjh O O O O O O Z)<|oE 3 O<|oV (xjh O O O O O O Z)<|oV O<|.cons (aC.V (dI<|X i-X k)<|fK<|fH Z Z)<|oE 2 O<|oV (xjh O O O O O O Z)<|oE 3 O<|oV (xjh O O O O O O Z)<|oV O<|.cons (aC.V (dI<|X i-X k)<|fK<|fH Z Z)<|.cons (aC.V (dI<|(X i-X k)*(X i-X k))<|fK<|fH Z Z)<|oE 2 O<|oV (xjh O O O O O O Z)<|oE 3 O<|oV (xjh O O O O O O Z)<|oV O<|.cons (aC.V (dI<|Y i-Y k)<|fK<|fH Z Z)<|oE 2 O<|oV (xjh O O O O O O Z)<|oE 3 O<|oV (xjh O O O O O O Z)<|oV O<|.cons (aC.V (dI<|Y i-Y k)<|fK<|fH Z Z)<|.cons (aC.V (dI<|(Y i-Y k)*(Y i-Y k))<|fK<|fH Z Z)<|.cons (aC.V (dI<|(X i-X k)*(X i-X k)+(Y i-Y k)*(Y i-Y k))<|fK<|fH Z Z)<|oV O<|.nil<|I<|aQ<|rLe [3,2] aCl aEG (aJ<|by unfold Ri;grind) O O O O O
def akd(hi:i<m)(hk:k<m)(hq:q<m)(hm:m<=1000)(hX:∀i,0<=X i/\X i<=14)(hY:∀i,0<=Y i/\Y i<=14):dA prog 53 [dI (i:Int),dI (k:Int),dI (q:Int),.p 0 0,.p 1 0] [(0,.i p0<|.b 40<|[.a 1 m<|fi X]),(1,.i p1<|.b 40<|[.a 1 m<|fi Y])] [0,1] [0,1] (λr hp=>r= dI (ahD (X i) (Y i) (X k) (Y k) (X q)<|Y q)/\hp=[(0,.i p0<|.b 40<|[.a 1 m<|fi X]),(1,.i p1<|.b 40<|[.a 1 m<|fi Y])]):=by have a1:=hX i;have a2:=hX k;have a3:=hX q;have a4:=hY i;have a5:=hY k;have a6:=hY q;have m1:=acJ (a:=X k-X i) (b:=Y q-Y i) Z Z Z Z;have m2:=acJ (a:=X q-X i) (b:=Y k-Y i) Z Z Z Z;refine aLr 48 [.tmp 8] [] func53 O O<|cR<|xWe O<|I<|au<|bF bM 40 ξ ξ ξ<|oE 2 O<|oV (xjh O O O O O O Z)<|oE 3 O<|oV (xjh O O O O O O Z)<|oV O<|.cons (aC.V (dI<|X k-X i)<|fK<|fH Z Z)<|oE 2 O<|oV (xjh O O O O O O Z)<|oE 3 O<|oV (xjh O O O O O O Z)<|oV O<|.cons (aC.V (dI<|Y q-Y i)<|fK<|fH Z Z)<|.cons (aC.V (dI<|(X k-X i)*(Y q-Y i))<|fK<|fH Z Z)<|oE 2 O<|oV (xjh O O O O O O Z)<|oE 3 O<|oV (xjh O O O O O O Z)<|oV O<|.cons (aC.V (dI<|X q-X i)<|fK<|fH Z Z)<|oE 2 O<|oV (xjh O O O O O O Z)<|oE 3 O<|oV (xjh O O O O O O Z)<|oV O<|.cons (aC.V (dI<|Y k-Y i)<|fK<|fH Z Z)<|.cons (aC.V (dI<|(X q-X i)*(Y k-Y i))<|fK<|fH Z Z)<|.cons (aC.V (dI<|(X k-X i)*(Y q-Y i)-(X q-X i)*(Y k-Y i))<|fK<|fH Z Z)<|oV O<|.nil<|I<|aQ<|rLe [4,3] aCl aEG aCo O O O O O
def aqV{L:List Pt}{id:Int}(h:∀p∈L,p.1<id):gB L id=L.length:=by rcases ahZ (gB L id) L.length with k|k;exact absurd (h _<|dX k)<|aeu k;exact Nat.le_antisymm Ih k
def aBg{i:Int}:Zp (uI i x y)=0:=by have h:∀z,lg (oc z)<=1:=λz=>jc (λi hi=>V4 i Z) V4;unfold Zp;rw [SQ,SS];simp_all
def lS(X Y:Nat->Int):Nat->Nat->List Wt
 |0=>lw0
 |n+1=>λk=>dB true (lS X Y n k) C0<|OY k (Us X Y<|n+1) C0
abbrev E5(pa:Nat->Value)(L:List Pt)(l:Nat->List Wt):List<|Nat×AO:=enO pa 2 T0 5 0 L l (λ_=>0) λ_=>C0
abbrev ob1(l:List<|Nat×AO)(k:Nat):AO:=(lk l k).getD<|.b 0 []
abbrev ES(pa:Nat->Value)(X Y:Nat->Int)(m:Nat):List<|Nat×AO:=E5 pa (Us X Y m)<|lS X Y m
abbrev EB(pa:Nat->Value)(t:Rat)(X Y:Nat->Int)(m:Nat):List<|Nat×AO:=enC pa 1 t (Us X Y m) (λk=>fZ C0<|eH<|OY k (Us X Y m) C0) (λ_=>0+0) λ_=>C0
abbrev IDC:List Nat:=[0,102,103,104,105,106]
def azE(h0:0<=z)(h1:z<=999)(h2:1<=d)(h3:d<=9):Tb 1 (fU z d)/\0<=fU z d:=by
 have⟨e1,e2⟩:=uT (n:=z) (d:=d) Z;rw [lK Z];have k1:=Int.ediv_le_self ((Nat.gcd z.natAbs d.natAbs:Nat):Int) h0;have k2:=Int.ediv_nonneg h0 (b:=((Nat.gcd z.natAbs d.natAbs:Nat):Int)) Z;have k3:=Int.ediv_le_self (a:=d) ((Nat.gcd z.natAbs d.natAbs:Nat):Int) Z;have hb:dF^1=4294967296:=by rfl
 refine⟨⟨?_,?_⟩,Rat.num_nonneg.1 Z⟩ <;> rw [hb] <;> omega
theorem axQ(h:0<=t):dU (aB<|aG T0) (fC t)<=0:=by rw [agn,FP];exact iH.2 h
def avo(h:Tb 1 t):AV.le (.d<|.j<|tn K t)<|.d<|.j<|tn 1 t:=lV<|oZ h
section
variable {X Y:Nat→Int}
def alm(n:Nat):aV (Us X Y n) (uI (n:Int) (X n)<|Y n)=Us X Y (n+1):=by have h:gB (Us X Y n) (uI (n:Int) (X n)<|Y n).1=(Us X Y n).length:=aqV λp hp=>(by obtain⟨i,hi,rfl⟩:=DN hp;show(i:Int)<(n:Int);omega);unfold aV;rw [h,List.take_length,List.drop_length];rfl
def atw{j:Nat}:AA O0 O1 (OL X Y i) (OL X Y j) (OL X Y k)=ahD (X i) (Y i) (X j) (Y j) (X k) (Y k):=by unfold AA OL ahD;rw [FI,FI,FI,FK,FK,FK]
end
section
variable {X Y:Nat→Int} (hX:∀ i,0≤X i∧X i≤14) (hY:∀ i,0≤Y i∧Y i≤14)
include hX hY
theorem acV(n:Nat):∀p∈Us X Y n,Fz p:=awX ψ ψ
def acU(n:Nat):∀i,i<(Us X Y n).length->PS (gt (Us X Y n) i):=axU<|acV hX hY n
def amD:∀n,n<=5->WS5 (Us X Y n) C0 (lS X Y n)
 |0,_=>afW
 |n+1,h=>WS5.put jO.c (amD n Z) (acU hX hY<|n+1) (by rw [sH];exact h)<|azB<|acV hX hY<|n+1
def axN(hn:n<5):dA prog 10 [.p 0 0,dI (n:Int),.d<|.j<|iq<|uI (n:Int) (X n)<|Y n] (E5 pa (Us X Y n)<|lS X Y n) IDn IDn (λr hp=>r= dI 0/\hp=E5 pa (Us X Y<|n+1) (lS X Y<|n+1)):=by
 have hp:PS<|uI (n:Int) (X n)<|Y n:=agS ψ ψ;have h:=Le (P:=uI (n:Int) (X n)<|Y n) (mp:=5) (md:=0) (pa:=pa) (K:=2) (t:=T0) (n:=λ_=>0) (E:=λ_=>C0) (amD hX hY n Z) (acU hX hY n) aDD hp
  (λi hi=>by rw [sH] at hi;rw [Ac hi];show(i:Int)≠(n:Int);omega) (show(0:Int)<=(n:Int) by omega) (show(n:Int)<=1048576 by omega) (by rw [aBg];decide) aDD (Qo hp) (Qn hp) (by rw [alm];exact azB<|acV hX hY<|n+1)
 rw [alm] at h;exact h
end
def tlW(X Y:Nat->Int)(m:Nat):Lf:=if m=0 then .v (.slice none 0 0) else .a 1 1 (aF iZ [(gt (jP C0<|Us X Y m) 0).1])
def tlP(X Y:Nat->Int)(m:Nat):Lf:=if m<2 then .v (.slice none 0 0) else .a 1 2 (aF iZ [(gt (pR C0<|Us X Y m) 0).1,(gt (pR C0<|Us X Y m) 1).1])
theorem atT{l:Nat->List Wt}{n:Nat->Nat}(hX:∀i,0<=X i/\X i<=14)(hY:∀i,0<=Y i/\Y i<=14)(hm:m<=5):dA prog 43 [.p 0 0] (enC pa K t (Us X Y m) l n λ_=>C0) [0,102,103,104,105,106] [0,102,103,104,105,106] (λr hp=>r=.d (.j [.a 1 m<|aF iZ<|(fD C0<|Us X Y m).map oW,tlW X Y m,.a 1 (fE C0<|Us X Y m).length<|aF iZ<|(fE C0<|Us X Y m).map oW,tlP X Y m,DW])/\hp=enC pa K t (Us X Y m) l n λ_=>C0):=by have hl:(Us X Y m).length=m:=sH m;have hn:(Us X Y m).length<=1000:=Z;unfold tlW tlP;by_cases h0:m=0;have h:=apJ (pa:=pa) (K:=K) (t:=t) (l:=l) (n:=n) (E:=λ_=>C0) Z hn Z;simp_all;rw [if_neg h0];by_cases h1:m<2;have h:=apO (pa:=pa) (K:=K) (t:=t) (l:=l) (n:=n) (E:=λ_=>C0) (acU hX hY m) hn Z;simp_all;have h:=YO (pa:=pa) (K:=K) (t:=t) (l:=l) (n:=n) (E:=λ_=>C0) (acU hX hY m) hn Z;grind
def axI(hX:∀i,0<=X i/\X i<=14)(hY:∀i,0<=Y i/\Y i<=14)(hm:m<=5)(ht:Tb 1 t)(h0:0<=t):dA prog 40 [.p 0 0,.d<|.j<|tn 1 t] (enC pa 2 T0 (Us X Y m) (lS X Y m) (λ_=>0) λ_=>C0) IDC IDC (λr hp=>r= dI 0/\hp=EB pa t X Y m):=
 abm (K0:=2) (c:=λ_=>0) (D:=λ_=>C0) (amD hX hY m hm) (acU hX hY m) aDD (azB<|acV hX hY m) φ φ ht h0 (axQ h0) (λk=>ays (acV hX hY m) aDD k) Z
def axJ:dA prog 44 [.p 0 0] (EB pa t X Y m) IDC IDC (λr hp=>r=.d (.j<|Az λ_=>0)/\hp=EB pa t X Y m):=ajH
theorem anf{P:Program}(w:World){t i:TypeId}(ha:P.underlying t=some (.array 5 i))(hi:P.underlying i=some (.int .i64))(hsi:∀w,(sizeOf i).run P w=.ok 1 w)(a0 a1 a2 a3 a4 b0 b1 b2 b3 b4:Int):
  (Op.equalIn 10000 t (.agg #[.int .i64 a0,.int .i64 a1,.int .i64 a2,.int .i64 a3,.int .i64 a4])<|.agg #[.int .i64 b0,.int .i64 b1,.int .i64 b2,.int .i64 b3,.int .i64 b4]).run P w=.ok (a0==b0 && (a1==b1 && (a2==b2 && (a3==b3 && a4==b4)))) w:=by have ei:∀(d:Nat) (x y:Int) (w:World),(Op.equalIn (d+1) i (.int .i64 x)<|.int .i64 y).run P w=.ok (x==y) w:=λd x y w=>run_equalIn_int w d i .i64 .i64 x y hi;exact arv
def xA5{P:Program}{s:AS}{o:Oper}{t i:TypeId}{x y:Operand}{op:BinOp}{yt:TypeId}{a b:Nat->Int}(r:Bool)(hop:o.op=.binOp op t x y yt)(hr:(op=.neq/\r= !b5 a b)\/(op=.eql/\r=b5 a b))(hx:dR s x=some (.d<|.j<|Az a))(hy:dR s y=some (.d<|.j<|Az b))(hm:P.eqGuardType P.depth t=false) 
  (ha:P.underlying t=some (.array 5 i)) (hi:P.underlying i=some (.int .i64)) (hsi:∀w,(sizeOf i).run P w=.ok 1 w):YH P s o<|.d<|.o<|.v<|.bool r:=by intro ρ B w ac ho;have e1:=ahy (show DR B w (.j<|Az a) (ac.eval x) from ho x aCz _ hx);have e2:=ahy (show DR B w (.j<|Az b) (ac.eval y) from ho y aCz _ hy);have h5:=λw=>anf (P:=P) w ha hi hsi (a 0) (a 1) (a 2) (a 3) (a 4) (b 0) (b 1) (b 2) (b 3)<|b 4;refine⟨.bool r,?_,O,O⟩;unfold execOp;rw [hop];refine dP ?_;rw [e1,e2];simp only [Sem.run_bind,run_eqGuard_agg w op t x y _ _ hm,Result.andThen_ok];rcases hr with⟨rfl,rfl⟩|⟨rfl,rfl⟩;rw [run_neq_struct,h5];rfl;rw [run_eql_struct,h5];rfl
def axP(hX:∀i,0<=X i/\X i<=14)(hY:∀i,0<=Y i/\Y i<=14)(hm:m<=5):dA prog 43 [.p 0 0] (EB pa t X Y m) IDC IDC (λr hp=>r=.d (.j [.a 1 m<|aF iZ<|(fD C0<|Us X Y m).map oW,tlW X Y m,.a 1 (fE C0<|Us X Y m).length<|aF iZ<|(fE C0<|Us X Y m).map oW,tlP X Y m,DW])/\hp=EB pa t X Y m):=atT hX hY hm
def egA:prog.eqGuardType prog.depth 104=false:=by rfl
structure StF(X Y:Nat->Int)(m:Nat)(r h:Nat->Nat)(k:Nat):Prop where
 ek:k=(fE C0<|Us X Y m).length
 er:∀i,i<m->oW (gt (fD C0<|Us X Y m) i)=((r i:Nat):Int)/\r i<m
 eb:∀i,i+1<m->bfI (X<|r i) (Y<|r i) ((r i:Nat):Int) (X<|r<|i+1) (Y<|r<|i+1) ((r (i+1):Nat):Int)
 eh:∀q,q<k->oW (gt (fE C0<|Us X Y m) q)=((h q:Nat):Int)/\h q<m
 ea:∀q,q<k->∀p,p<m->0<=ahD (X<|h q) (Y<|h q) (X<|h<|(q+1)%k) (Y<|h<|(q+1)%k) (X p) (Y p)
 et:2<k->∀q,q<k->0<ahD (X<|h q) (Y<|h q) (X<|h<|(q+1)%k) (Y<|h<|(q+1)%k) (X<|h<|(q+2)%k) (Y<|h<|(q+2)%k)
def aw0(hX:∀i,0<=X i/\X i<=14)(hY:∀i,0<=Y i/\Y i<=14):∃r h k,StF X Y m r h k:=by have fn:∀{L:List Pt},(∀p∈L,p∈Us X Y m)->∃r:Nat->Nat,∀i,i<L.length->gt L i=OL X Y (r i)/\r i<m:=λ{L} hL=>(by have h:∀i,∃j,i<L.length->gt L i=OL X Y j/\j<m:=λi=>(by by_cases hi:i<L.length;have⟨j,hj,e⟩:=DN<|hL _<|dX hi;exact⟨j,λ_=>⟨e,hj⟩⟩;exact⟨0,λk=>absurd k hi⟩);exact⟨λi=>(h i).choose,λi hi=>(h i).choose_spec hi⟩);have⟨r,hr⟩:=fn (L:=fD C0<|Us X Y m) λp hp=>oP.1 hp;have⟨h,hh⟩:=fn (L:=fE C0<|Us X Y m) λp hp=>Kq hp;have hl:(fD C0<|Us X Y m).length=m:=(by rw [lM,sH]);have⟨h1,h2⟩:=ao7 QH<|acV hX hY m;obtain⟨k,hk⟩:∃k,k=(fE C0 (Us X Y m)).length:=ψ;rw [hl] at hr;rw [<-hk] at hh h1 h2;refine⟨r,h,k,hk,λi hi=>⟨by rw [(hr i hi).1];rfl,(hr i hi).2⟩,λi hi=>?_,λq hq=>⟨by rw [(hh q hq).1];rfl,(hh q hq).2⟩,λq hq p hp=>?_,λh3 q hq=>?_⟩;have h3:=avN (x:=X) (y:=Y) (n:=m) QH i Z;rw [(hr i Z).1,(hr (i+1) hi).1] at h3;unfold OL at h3;rw [ad5 QH] at h3;simp_all;have h3:=h1 q hq (OL X Y p) (by unfold OL;rw [<-Ac hp];exact dX aDD);rw [(hh q hq).1,(hh _<|Nat.mod_lt _ Z).1,atw] at h3;omega;have h4:=h2 h3 q hq;rw [(hh q hq).1,(hh _<|Nat.mod_lt _ Z).1,(hh _<|Nat.mod_lt _ Z).1,atw] at h4;omega
def arL{l:List Int}{f:Nat->Int}(h:∀i,i<n->gt l i=f i):AV.le (.d<|.o<|.a 1 n<|aF iZ l)<|.d<|.o<|.a 1 n<|fi f:=eY (jZ λi hi j hj B w v hv=>by
 obtain rfl:j=0:=Z
 have e:aF iZ l i 0=fi f i 0:=by show(vI (gt l i):Lf)= vI (f i);simp_all
 simp_all)
def avn{r h:Nat->Nat}(S:StF X Y m r h k){b d e:Lf}:AV.le (.d (.j [.a 1 m (aF iZ ((fD C0 (Us X Y m)).map oW)),b,.a 1 (fE C0 (Us X Y m)).length (aF iZ ((fE C0 (Us X Y m)).map oW)),d,e]))
  (.d (.j [.a 1 m (fi λi=>((r i:Nat):Int)),b,.a 1 k (fi λi=>((h i:Nat):Int)),d,e])):=by have h1:AV.le (.d (.o (.a 1 m (aF iZ ((fD C0 (Us X Y m)).map oW))))) (.d (.o (.a 1 m (fi λi=>((r i:Nat):Int))))):=arL λi hi=>(by rw [alW (by rw [lM,sH];omega)];exact(S.er i hi).1);have h2:AV.le (.d (.o (.a 1 k (aF iZ ((fE C0 (Us X Y m)).map oW))))) (.d (.o (.a 1 k (fi λi=>((h i:Nat):Int))))):=arL λi hi=>(by rw [alW (by rw [<-S.ek];omega)];exact(S.eh i hi).1);rw [<-S.ek];refine lV λB w cs q=>?_;match cs,q with|[_,_,_,_,_],⟨q1,q2,q3,q4,q5,q6⟩=>exact⟨h1 (λ_=>none) _ _ _ q1,q2,h2 (λ_=>none) _ _ _ q3,q4,q5,q6⟩
theorem amF(h:el 0 0= vI (X k)):AO.le (.a e 1 (k+1)<|fA k (fi X) el)<|.a e 1 (k+1)<|fi X:=jY λq hq j hj B w v hv=>by
 obtain rfl:j=0:=Z
 unfold fA at hv
 by_cases hk:q<k
 ·rw [show Nat.ble (q+1) k=true from Nat.ble_eq_true_of_le hk] at hv;grind
 grind
section
variable {X Y:Nat→Int} {w i j:Nat}
theorem ak1(h:Y w<Y i\/(Y i=Y w/\X w<X i))(k:j=w\/btI (X w) (Y w) (w:Int) (X j) (Y j) (j:Int)):btI (X i) (Y i) (i:Int) (X j) (Y j) (j:Int):=by unfold btI at *;grind
def alf(h:¬Y w<Y i)(h2:Y i=Y w->¬X w<X i)(hw:w<i\/(w=0/\i=0)):i=w\/btI (X w) (Y w) (w:Int) (X i) (Y i) (i:Int):=by unfold btI;omega
def aqu(h:btI (X w) (Y w) (w:Int) (X i) (Y i) (i:Int))(k:btI (X i) (Y i) (i:Int) (X w) (Y w) (w:Int)):False:=by unfold btI at *;omega
def ars(h:Ri (X i) (Y i) (X j) (Y j)<Ri (X s.1) (Y s.1) (X s.2) (Y s.2)):(i,j)=cpT X Y s i j:=by unfold cpT;simp_all
def arq(h:¬Ri (X i) (Y i) (X j) (Y j)<Ri (X s.1) (Y s.1) (X s.2) (Y s.2)):s=cpT X Y s i j:=by unfold cpT;grind
end
def aw1(h:m≠0):∃w,w<m/\tlW X Y m=.a 1 1 (aF iZ [(w:Int)])/\∀i,i<m->i≠w->btI (X w) (Y w) (w:Int) (X i) (Y i) (i:Int):=by have⟨w,h1,h2,h3⟩:=awP (x:=X) (y:=Y) QH h;exact⟨w,h1,by unfold tlW;rw [if_neg h,h2];rfl,h3⟩
def anm(h:2<=m):tlP X Y m=.a 1 2 (aF iZ [(((cpS X Y m m).1:Nat):Int),(((cpS X Y m m).2:Nat):Int)]):=by unfold tlP;rw [if_neg Z,awW aDD,ayd QH h];rfl
abbrev tmS(a1 a2:Int):Rat:=fU (a1%1000)<|1+a2%9
def abW(a1 a2:Int):Tb 1 (tmS a1 a2)/\0<=tmS a1 a2:=azE Z Z Z Z
abbrev aA8(k:Nat):AV:=.d (.o (.v (.int .i64 ((2*k+1:Nat):Int))))
def abL{c:Nat->Int}{a1 a2:Int}(hn:n<=9223372036854775807)(hc:∀i,i<n->-9223372036854775808<=c i/\c i<=9223372036854775807)(h1: -9223372036854775808<=a1)(h2:a1<=9223372036854775807)(h3: -9223372036854775808<=a2)(h4:a2<=9223372036854775807):aH prog 7 [.o<|azx n c,.o<|.v<|.int .i64 a1,.o<|.v<|.int .i64 a2]<|.d<|.o<|.v<|.bool true:=by
 obtain⟨X,hXe⟩:∃X:Nat->Int,∀j,X j=c (2*j)%15:=⟨_,λ_=>rfl⟩;obtain⟨Y,hYe⟩:∃Y:Nat->Int,∀j,Y j=c (2*j+1)%15:=⟨_,λ_=>rfl⟩;have hX:∀i,0<=X i/\X i<=14:=λi=>(by rw [hXe];omega);have hY:∀i,0<=Y i/\Y i<=14:=λi=>(by rw [hYe];omega);refine aS bM 290 [.tmp 6] func7 O O O O O<|au<|aA<|xWe O<|ak<|tN<|au<|aA<|uj (arS (np:=5) (d:=0) φ φ φ φ) [] [(22,0),(101,101),(102,102),(103,103),(104,104),(105,105),(106,106)] [] [] [(263,101,101),(264,102,102),(265,103,103),(266,104,104),(267,105,105),(268,106,106)] O O ⟨aCg,aCg,Pe⟩ trivial ⟨aCl,aCl,aCl,aCl,aCl,aCl,aCl,Pe⟩ trivial trivial trivial ⟨aCP,aCP,aCP,aCP,aCP,aCP,Pe⟩ ?_;rintro _ _ ⟨rfl,pa,rfl⟩;refine wKm [30,268,267,266,265,264,263,6,2,1,0] [106,105,104,103,102,101,0] O O<|xEe 5 O<|ak<|tN<|au<|au<|aA<|xEe 4 O<|mX (.d<|.o<|.v<|.bool false) (xPn false O (Or.inl aCl) underlying26 O O)<|xWe O<|ak<|tN<|cF O<|aO<|tN<|au<|aA<|mN bM _ O O O<|mN bM _ O O O<|ak<|tN<|axT (ι:=Nat×Value×Value) (λ(p:Nat×Value×Value)=>match p with|(m,xa,xb)=>⟨290,[(1,.d<|.o<|.v<|.int .i64 a1),(2,.d<|.o<|.v<|.int .i64 a2),(7,.p 0 0),(9,.p 9 0),(10,.p 10 0),(263,.w 101),(264,.w 102),(265,.w 103),(266,.w 104),(267,.w 105),(268,.w 106),(269,.w 201),(270,.w 202)],[(0,ob1 (ES pa X Y m) 0),(101,ob1 (ES pa X Y m) 101),(102,ob1 (ES pa X Y m) 102),(103,ob1 (ES pa X Y m) 103),(104,ob1 (ES pa X Y m) 104),(105,ob1 (ES pa X Y m) 105),(106,ob1 (ES pa X Y m) 106),(9,.b 40<|[.v xa]),(10,.b 40<|[.v xb]),(201,.i xa<|.a 3 1 m<|fi X),(202,.i xb<|.a 3 1 m<|fi Y)]⟩) (λ(m,xa,xb)=>m<=5) ?_ (λpK hK=>?_)
 ·refine au<|AW.wk (aqS 269 201 3 1 (fi X) O O)<|AW.wk (aqS 270 202 3 1 (fi Y) O O)<|aA<|xWe O<|ak<|tN<|aK<|dL (ι:=Nat×Value×Value) (λ(p:Nat×Value×Value)=>match p with|(k,xa,xb)=>⟨290,[(0,.d<|.o<|.a 1 n<|fi c),(1,.d<|.o<|.v<|.int .i64 a1),(2,.d<|.o<|.v<|.int .i64 a2),(7,.p 0 0),(9,.p 9 0),(10,.p 10 0),(263,.w 101),(264,.w 102),(265,.w 103),(266,.w 104),(267,.w 105),(268,.w 106),(269,.w 201),(270,.w 202),(11,.d<|.o<|.v<|.int .i64 ((2*k:Nat):Int))],[(0,ob1 (ES pa X Y k) 0),(101,ob1 (ES pa X Y k) 101),(102,ob1 (ES pa X Y k) 102),(103,ob1 (ES pa X Y k) 103),(104,ob1 (ES pa X Y k) 104),(105,ob1 (ES pa X Y k) 105),(106,ob1 (ES pa X Y k) 106),(9,.b 40<|[.v xa]),(10,.b 40<|[.v xb]),(201,.i xa<|.a 3 1 k<|fi X),(202,.i xb<|.a 3 1 k<|fi Y)]⟩) (λ(k,xa,xb)=>2*k<=n/\k<=5) (λ(k,xa,xb)=>n-2*k) (0,aAy,aAy) (⟨abJ _,abJ _⟩) (wk O ⟨hs O,hs O,hs O,hs O,hs O,hs O,hs O,hs O,hs O,hs O,hs O,hs O,hs O,hs O,dW O aDN,Pe⟩ ⟨ho O,ho O,ho O,ho O,ho O,ho O,ho O,ho O,ho O,ho O,ho O,Pe⟩ O) ?_;rintro⟨k,xa,xb⟩⟨hkn,hk5⟩;show AW _ _ _ ⟨_,_,_⟩
  refine au<|au ?_;by_cases hin:2*k+1<n
  ·by_cases hk6:k<5;refine aA<|xWe O<|mV bM (aA8 k) aCB<|xEe 2 O<|mV bM (.d<|.o<|.v<|.bool true) (dD<|ac3 Z)<|xEe 2 O<|AL.wk (WV 45 269 201 O O O O)<|xWe O<|mV bM (.d<|.o<|.v<|.bool true) (dD<|ac3 Z)<|xWe O<|ak<|tN<|cT O<|aO<|tN<|au<|aK<|au ?_;have hx0:=hX k;have hy0:=hY k;refine bF bM 13 ξ ξ ξ<|oE 2 O<|oV (xjh O O O O O O Z)<|oV O<|oC (aH.le (dl DV.same aCJ) (aJ (hXe k).symm)<|aa9 (v:=c<|2*k) (n:=15) φ φ (hc _ Z).1 (hc _ Z).2) O<|oE 2 O<|.cons (aC.V (aA8 k) aCB)<|oV (xjh O O O O O O Z)<|oV O<|oC (aH.le (dl DV.same aCJ) (aJ (hYe k).symm)<|aa9 (v:=c<|2*k+1) (n:=15) φ φ (hc _ Z).1 (hc _ Z).2) O<|oE 2 O<|.nil<|ak<|tN<|au<|au<|lU bM 7 6 [] (λ_:Unit=>True) (λ()=>[(0,ob1 (ES pa X Y<|k+1) 0),(101,ob1 (ES pa X Y<|k+1) 101),(102,ob1 (ES pa X Y<|k+1) 102),(103,ob1 (ES pa X Y<|k+1) 103),(104,ob1 (ES pa X Y<|k+1) 104),(105,ob1 (ES pa X Y<|k+1) 105),(106,ob1 (ES pa X Y<|k+1) 106)]) [] [] (.d<|.o<|.v aAL) O O ξ ξ ξ (λ_ _ h=>h)<|.cons (.S<|aC.V _ O) ξ O<|.cons (.Y xa 269 201 O O O O O) ξ O<|.cons (.S<|aC.V (.d<|.o<|.v<|.int .i64 (k:Int)) O) ξ O<|.cons (.S<|aC.V _ O) ξ O<|.cons (.S<|aC.V _ O) ξ O<|.cons (.S<|aC.C0 (Y2 (id:=((k:Nat):Int)) (x:=X k) (y:=Y k) Z Z) O O O) ξ O<|.X [0,101,102,103,104,105,106] (vS (axN (pa:=pa) (X:=X) (Y:=Y) (n:=k) hX hY hk6) [(0,0),(101,101),(102,102),(103,103),(104,104),(105,105),(106,106)] [] [] [0,101,102,103,104,105,106] O O ⟨aCg,aCg,aCg,Pe⟩ ⟨aCe,aCe,aCe,aCe,aCe,aCe,aCe,Pe⟩ ⟨⟨_,O⟩,⟨_,O⟩,⟨_,O⟩,⟨_,O⟩,⟨_,O⟩,⟨_,O⟩,⟨_,O⟩,Pe⟩ ⟨by decide,by decide,by decide,by decide,by decide,by decide,by decide,Pe⟩ ⟨Or.inr aCa,Or.inr aCa,Or.inr aCa,Or.inr aCa,Or.inr aCa,Or.inr aCa,Or.inr aCa,Pe⟩ trivial aCc) ⟨⟨7,_,O,O,O⟩,⟨263,_,O,O,O⟩,⟨264,_,O,O,O⟩,⟨265,_,O,O,O⟩,⟨266,_,O,O,O⟩,⟨267,_,O,O,O⟩,⟨268,_,O,O,O⟩,Pe⟩ O O ?_;refine .nil ?_;rintro⟨⟩ -;refine wKm [68,13,12,48,11,270,269,268,267,266,265,264,263,10,9,7,2,1,0] [202,201,10,9,106,105,104,103,102,101,0] O O<|xWe O<|ak<|tN<|cF O<|aO<|tN<|lU bM 7 3 [] (λ_:Unit=>True) (λ()=>[(201,.a 3 1 (k+1)<|fA k (fi X)<|λi' j'=>(([.v<|.int .i64<|X k])[i'*1+j']?).getD<|.v undef)]) [201] [201] (.q 201) O O ξ ξ ξ (λ_ _ h=>h)<|.cons (.Y xa 269 201 O O O O O) ξ O<|.cons (.S<|aC.V _ O) ξ O<|.cons (.S<|aC.B _ O) ξ O<|.A [201] (aBk bM (id:=201) (n:=k) (m:=1) (bts:=8) O O O O O O O O O O O O O (azw O) O Z Z () trivial O) ⟨⟨269,_,O,O,O⟩,Pe⟩ O O<|.e (.Y xb 270 202 O O O O O) (λ_ _=>.Y (ob:=.a 3 1 k<|fi Y) xb 270 202 O O O O O) O<|.e (.S<|aC.V _ O) (λ_ _=>.S<|aC.V _ O) O<|.e (.S<|aC.B _ O) (λ_ _=>.S<|aC.B _ O) O<|.nil ?_;rintro⟨⟩ -;refine wKm [76,74,73,70,69,13,12,48,11,270,269,268,267,266,265,264,263,10,9,7,2,1,0] [202,201,10,9,106,105,104,103,102,101,0] O O<|mA bM (id:=202) (n:=k) (m:=1) O O O (by show(k+1)*8<=140737488355328;omega) Z O O O O O O O O O O ?_;refine mSo bM 73 201 9 (λx'=>.b 40<|[.v x']) O O (λ_=>rfl) (λx1=>?_);refine mSo bM 77 202 10 (λx'=>.b 40<|[.v x']) O O (λ_=>rfl) (λx2=>?_);refine ak<|bN<|tN<|AW.wk (lZ 270 77 202 O O O)<|aA<|xWe O<|mV bM (.d<|.o<|.v<|.int .i64 ((2*(k+1):Nat):Int)) aCm<|xWe O<|ak ?_;exact⟨((k+1),x1,x2),⟨by omega,by omega⟩,by show n-2*(k+1)<n-2*k;omega,wk O ⟨hs O,hs O,hs O,hs O,hs O,hs O,hs O,hs O,hs O,hs O,hs O,hs O,hs O,hs O,hs O,Pe⟩ ⟨ho O,ho O,ho O,ho O,ho O,ho O,ho O,ho O,ho O,eG O (Yb (amF O)),eG O (Yb (amF O)),Pe⟩ O⟩;refine aA<|xWe O<|mV bM (aA8 k) aCB<|xEe 2 O<|mV bM (.d<|.o<|.v<|.bool true) (dD<|ac3 Z)<|xEe 2 O<|AL.wk (WV 45 269 201 O O O O)<|xWe O<|mV bM (.d<|.o<|.v<|.bool false) (dD<|acS Z)<|xWe O<|ak<|tN<|cF O<|bZ<|tE<|tE<|bE<|tN<|aq7
  ·refine aA<|xWe O<|mV bM (aA8 k) aCB<|xEe 2 O<|mV bM (.d<|.o<|.v<|.bool false) (dD<|acS Z)<|xWe O<|mG O O<|mG O O<|mG O O<|xWe O<|ak<|tN<|cF O<|bZ<|tE<|tE<|bE<|tN<|aq7
 ·have⟨m,xa,xb⟩:=pK;have hm5:=hK;refine au<|aA<|xWe O<|bn (aa9 (v:=a1) (n:=1000) φ φ h1 h2) O O O<|xWe O<|bn (aa9 (v:=a2) (n:=9) φ φ h3 h4) O O O<|mV bM (.d<|.o<|.v<|.int .i64<|1+a2%9) aCZ<|bn (asj (n:=a1%1000) (d:=1+a2%9) Z Z Z Z) O O O<|mN bM _ O O O<|xZe O<|ak<|tN<|au<|au<|aA<|xEe 2 O<|bn (asn (isq 64 _) φ) O O O<|jL 86 (.d<|.j<|tn 1<|tmS a1 a2) O (avo (abW a1 a2).1)<|uj (axI (pa:=pa) (X:=X) (Y:=Y) (t:=(tmS a1 a2)) (m:=m) hX hY hm5 (abW a1 a2).1 (abW a1 a2).2) [(0,0),(102,102),(103,103),(104,104),(105,105),(106,106)] [] [] [] [] O O ⟨aCg,aCg,Pe⟩ ⟨aCe,aCe,aCe,aCe,aCe,aCe,Pe⟩ trivial aCQ ⟨Or.inr aCa,Or.inr aCa,Or.inr aCa,Or.inr aCa,Or.inr aCa,Or.inr aCa,Pe⟩ trivial trivial ?_;rintro _ _ ⟨rfl,rfl⟩;refine wKm [87,14,270,269,268,267,266,265,264,263,10,9,7,2,1] [14,202,201,10,9,106,105,104,103,102,101,0] O O<|xEe 3 O<|uj (axJ (pa:=pa) (X:=X) (Y:=Y) (t:=(tmS a1 a2)) (m:=m)) [(0,0),(102,102),(103,103),(104,104),(105,105),(106,106)] [] [] [] [] O O ⟨aCg,Pe⟩ ⟨aCe,aCe,aCe,aCe,aCe,aCe,Pe⟩ trivial aCQ ⟨Or.inr aCa,Or.inr aCa,Or.inr aCa,Or.inr aCa,Or.inr aCa,Or.inr aCa,Pe⟩ trivial trivial ?_;rintro _ _ ⟨rfl,rfl⟩;refine wKm [91,89,14,270,269,268,267,266,265,264,263,10,9,7,2,1] [14,202,201,10,9,106,105,104,103,102,101,0] O O<|mX (.d<|.j [.v aAL,.v aAL,.v aAL,.v aAL,.v aAL]) (Og bM O underlying104 O O O O)<|mX (.d<|.o<|.v<|.bool false) (xA5 (a:=λ_=>0) (b:=λ_=>0) false O (Or.inl aCl) O O egA underlying104 underlying3 sizeOf3)<|xWe O<|ak<|tN<|cF O<|aO<|tN<|au<|aA<|xWe O<|uj (axP (pa:=pa) (X:=X) (Y:=Y) (t:=(tmS a1 a2)) (m:=m) hX hY hm5) [(0,0),(102,102),(103,103),(104,104),(105,105),(106,106)] [] [] [] [] O O ⟨aCg,Pe⟩ ⟨aCe,aCe,aCe,aCe,aCe,aCe,Pe⟩ trivial aCQ ⟨Or.inr aCa,Or.inr aCa,Or.inr aCa,Or.inr aCa,Or.inr aCa,Or.inr aCa,Pe⟩ trivial trivial ?_;rintro _ _ ⟨rfl,rfl⟩;refine wKm [96,94,14,270,269,268,267,266,265,264,263,10,9,7,2,1] [14,202,201,10,9,106,105,104,103,102,101,0] O O ?_;have⟨r,h,kh,S⟩:=aw0 (m:=m) hX hY;have hkh:kh<=10:=(by have h0:=Ru (C:=C0) (L:=Us X Y m);rw [sH,<-S.ek] at h0;omega);refine jL 96 (.d<|.j<|[.a 1 m<|fi λi=>((r i:Nat):Int),tlW X Y m,.a 1 kh<|fi λi=>((h i:Nat):Int),tlP X Y m,DW]) O (avn S)<|mN bM _ O O O<|xZe O<|ak<|tN<|au<|wK [15,270,269,10,9] [15,202,201,10,9] O O<|cNm 9 O (λp0=>?_);refine cNm 10 O (λp1=>?_);refine AW.wk (ahL (bq':=.i p0<|.b 40<|[.a 1 m<|fi X]) 9 201 269 O O O O O<|Vy (bs:=[]) (cs:=[]))<|AW.wk (ahL (bq':=.i p1<|.b 40<|[.a 1 m<|fi Y]) 10 202 270 O O O O O<|Vy (bs:=[]) (cs:=[]))<|aA<|mMv (.d<|.o<|.v<|.func (.func 50) #[] #[p0,p1]) aDk<|xWe O<|ak<|tN<|au<|au<|aA<|xEe 5 O<|mV bM (.d<|.o<|.v<|.bool false) (dD<|aga _)<|xEe 5 O<|bn (ais (f:=λi=>((r i:Nat):Int)) (k:=m) (n:=m) Z<|λi hi=>by have:=S.er i hi;omega) O O O ?_;refine xEe 7 O<|bn (ais (f:=λi=>((h i:Nat):Int)) (k:=kh) (n:=m) Z<|λi hi=>by have:=S.eh i hi;omega) O O O ?_;refine xEe 2 O<|ak<|tN<|cF O<|aO<|tN<|au<|au<|aA<|xWe O<|ak<|tN<|aK<|dL (ι:=Nat) (λi=>⟨290,[(9,.p 9 0),(10,.p 10 0),(15,.p 15 0),(16,.d<|.o<|.v<|.func (.func 50) #[] #[p0,p1]),(17,.d<|.o<|aAG i)],[(9,.i p0<|.b 40<|[.a 1 m<|fi X]),(10,.i p1<|.b 40<|[.a 1 m<|fi Y]),(15,.b 50<|[.a 1 m<|fi λi=>((r i:Nat):Int),tlW X Y m,.a 1 kh<|fi λi=>((h i:Nat):Int),tlP X Y m,DW])]⟩) (λi=>1<=i) (λi=>m-i) 1 (aav _) (wk O aDr aCt O) ?_;rintro i hi1;refine au<|au<|aA<|xEe 5 O<|ak<|tN<|bI O (λhc3=>?_) (λhc3=>?_)
  ·refine aO<|tN<|au<|aK<|au ?_;have him:i<m:=aFA;refine xDe 13 []<|rEr 4 O<|.cons (.S<|aC.V (.d<|.o<|.v<|.int .i64 ((i-1:Nat):Int)) aCm)<|rVr (xjh O O O O O O Z)<|rEr 4 O<|rVr (xjh O O O O O O Z)<|rVr O<|.cons (.L (.d<|.o<|.v<|.bool true) [(9,.i p0<|.b 40<|[.a 1 m<|fi X]),(10,.i p1<|.b 40<|[.a 1 m<|fi Y])] [9,10] (atc (ajL (p0:=p0) (p1:=p1) (X:=X) (Y:=Y) (m:=m) (i:=r<|i-1) (k:=r i) (S.er (i-1) Z).2 (S.er i him).2 Z<|by have h0:=S.eb (i-1) Z;rw [show i-1+1=i by omega] at h0;exact h0) [(0,9),(1,10)] [] [] [9,10] (ata (args:=[.d<|.o<|.v<|.int .i64 ((r (i-1):Nat):Int),.d<|.o<|.v<|.int .i64 ((r i:Nat):Int)]) [(0,9,p0),(1,10,p1)] O O O aCw ⟨aCg,aCg,Pe⟩) ⟨aCe,aCe,Pe⟩ aDQ aD9 ⟨Or.inr aCa,Or.inr aCa,Pe⟩ trivial aCc) ⟨O,O,Pe⟩ aEa) ?_;refine .nil<|xWe O<|ak<|tN<|cF O<|aO<|bN<|tN<|aA<|xWe O<|mV bM (aAC i) aCB<|xWe O<|ak ?_;exact⟨(i+1),by omega,by omega,wk O aG2 aCt O⟩
  ·refine bZ<|tE<|tE<|bE<|tN<|au<|au ?_;by_cases hm0:m=0
   ·refine aA<|xEe 2 O<|mV bM (.d<|.o<|.v<|.bool true) (dD<|acW.2 Z)<|ak<|tN<|cT O<|au<|aA<|bn (aiL) O O O<|xWe O<|ak<|tN<|aQ<|tR<|axx
   ·have⟨wn,hwn,hwe,hwb⟩:=aw1 (X:=X) (Y:=Y) hm0;refine aA<|xEe 2 O<|mV bM (.d<|.o<|.v<|.bool false) (dD<|acz.2 Z)<|ak<|tN<|cF O<|aO<|tN<|au<|aA<|xWe O<|ak<|tN<|au<|au<|aA<|xEe 3 O<|ak<|tN<|aK<|dL (ι:=Nat×Nat) (λ(p:Nat×Nat)=>match p with|(i,v)=>⟨290,[(9,.p 9 0),(10,.p 10 0),(15,.p 15 0),(146,.d<|.o<|.v<|.int .i64 (m:Int)),(18,.d<|.o<|.v<|.int .i64 ((v:Nat):Int)),(147,.d<|.o<|aAG i)],[(9,.i p0<|.b 40<|[.a 1 m<|fi X]),(10,.i p1<|.b 40<|[.a 1 m<|fi Y]),(15,.b 50<|[.a 1 m<|fi λi=>((r i:Nat):Int),tlW X Y m,.a 1 kh<|fi λi=>((h i:Nat):Int),tlP X Y m,DW])]⟩) (λ(i,v)=>i<=m/\v<m/\(∀j,j<i->j=v\/btI (X v) (Y v) ((v:Nat):Int) (X j) (Y j) ((j:Nat):Int))/\(v<i\/(v=0/\i=0))) (λ(i,v)=>m-i) (0,0) (⟨abJ _,by omega,λj hj=>absurd hj<|acH _,Or.inr aCl⟩) (wk O ⟨hs O,hs O,hs O,hs O,dW O aDN,dW O aDN,Pe⟩ aCt O) ?_;rintro⟨i,v⟩⟨hi2,hv2,hb2,hz2⟩;show AW _ _ _ ⟨_,_,_⟩
    refine au<|aA<|xWe O<|ak<|tN<|au<|bI O (λhc4=>?_) (λhc4=>?_)
    ·refine aO<|tN<|au<|aK<|au ?_;have him:i<m:=aEy;refine aA<|xEe 2 O<|ak<|tN<|au ?_;by_cases hg1:Y v<Y i;refine xDe 30 []<|rEr 2 O<|rVr (xjh O O O O O O Z)<|rEr 3 O<|rVr (xjh O O O O O O Z)<|rVr O<|rTd O hg1<|rVr O<|rGr<|rGr<|rGr<|rGr<|rGr<|rGr<|rGr<|rGr<|rGr<|rGr<|xUr<|xUr<|xUr<|xUr<|xUr<|xUr<|xUr<|xUr<|xUr<|rGr<|.nil<|xWe O<|ak<|tN<|cT O<|aA<|xEe 2 O<|ak<|bN<|tN<|aA<|mV bM (aAC i) aCB<|xWe O<|ak ?_;exact⟨((i+1),i),⟨by omega,him,λj hj=>(ahZ j i).elim (λe=>Or.inr<|ak1 (Or.inl hg1)<|hb2 j e)<|λe=>Or.inl Z,Or.inl<|af7 i⟩,by show m-(i+1)<m-i;omega,wk O aCM aCt O⟩;by_cases hg2:Y i=Y v;by_cases hg3:X v<X i;refine xDe 30 []<|rEr 2 O<|rVr (xjh O O O O O O Z)<|rEr 3 O<|rVr (xjh O O O O O O Z)<|rVr O<|rFd O hg1<|rEr 3 O<|rVr (xjh O O O O O O Z)<|rEr 3 O<|rVr (xjh O O O O O O Z)<|rVr O<|rTr O (acW.2 hg2)<|rEr 3 O<|rVr (xjh O O O O O O Z)<|rEr 3 O<|rVr (xjh O O O O O O Z)<|rVr O<|rTd O hg3<|rVr O<|.nil<|xWe O<|ak<|tN<|cT O<|aA<|xEe 2 O<|ak<|bN<|tN<|aA<|mV bM (aAC i) aCB<|xWe O<|ak ?_;exact⟨((i+1),i),⟨by omega,him,λj hj=>(ahZ j i).elim (λe=>Or.inr<|ak1 (Or.inr ⟨hg2,hg3⟩)<|hb2 j e)<|λe=>Or.inl Z,Or.inl<|af7 i⟩,by show m-(i+1)<m-i;omega,wk O aCM aCt O⟩;refine xDe 30 []<|rEr 2 O<|rVr (xjh O O O O O O Z)<|rEr 3 O<|rVr (xjh O O O O O O Z)<|rVr O<|rFd O hg1<|rEr 3 O<|rVr (xjh O O O O O O Z)<|rEr 3 O<|rVr (xjh O O O O O O Z)<|rVr O<|rTr O (acW.2 hg2)<|rEr 3 O<|rVr (xjh O O O O O O Z)<|rEr 3 O<|rVr (xjh O O O O O O Z)<|rVr O<|rFd O hg3<|rVr O<|.nil<|xWe O<|ak<|tN<|cF O<|aO<|bN<|tN<|aA<|mV bM (aAC i) aCB<|xWe O<|ak ?_;exact⟨((i+1),v),⟨by omega,hv2,λj hj=>(ahZ j i).elim (hb2 j) (λe=>by have e2:j=i:=Z;rw [e2];exact alf hg1 (λ_=>hg3) hz2),Or.inl Z⟩,by show m-(i+1)<m-i;omega,wk O aCM aCt O⟩;refine xDe 30 []<|rEr 2 O<|rVr (xjh O O O O O O Z)<|rEr 3 O<|rVr (xjh O O O O O O Z)<|rVr O<|rFd O hg1<|rEr 3 O<|rVr (xjh O O O O O O Z)<|rEr 3 O<|rVr (xjh O O O O O O Z)<|rVr O<|rFr O (acz.2 hg2)<|rVr O<|rGr<|rGr<|rGr<|rGr<|rGr<|rGr<|rGr<|rGr<|rGr<|rVr O<|.nil<|xWe O<|ak<|tN<|cF O<|aO<|bN<|tN<|aA<|mV bM (aAC i) aCB<|xWe O<|ak ?_;exact⟨((i+1),v),⟨by omega,hv2,λj hj=>(ahZ j i).elim (hb2 j) (λe=>by have e2:j=i:=Z;rw [e2];exact alf hg1 (λe=>absurd e hg2) hz2),Or.inl Z⟩,by show m-(i+1)<m-i;omega,wk O aCM aCt O⟩
    ·refine bZ<|tE<|tE<|bE<|tN<|au<|au ?_;obtain rfl:m=i:=(by have h0:=aa1 hc4;omega);obtain rfl:wn=v:=(by rcases hb2 wn hwn with e|e;exact e;exact abt λq=>aqu e<|hwb v hv2<|λk=>q k.symm);refine AW.wk (wk (sl:=[(9,.p 9 0),(10,.p 10 0),(15,.p 15 0),(18,.d<|.o<|.v<|.int .i64 ((wn:Nat):Int))]) (hp:=[(9,.i p0<|.b 40<|[.a 1 m<|fi X]),(10,.i p1<|.b 40<|[.a 1 m<|fi Y]),(15,.b 50<|[.a 1 m<|fi λi=>((r i:Nat):Int),.a 1 1<|aF iZ [((wn:Nat):Int)],.a 1 kh<|fi λi=>((h i:Nat):Int),tlP X Y m,DW])]) O aEd ⟨ho O,ho O,eG O<|AO.xq<|by rw [hwe],Pe⟩ O) ?_;refine aA<|xEe 3 O<|mB bM _ O<|jL 186 (.d<|.o<|.a 1 1<|aF iZ [((wn:Nat):Int)]) O (MZ (l:=[((wn:Nat):Int)]) O)<|bn (Xr (l:=[((wn:Nat):Int)])<|acN O) O O O<|xWe O<|ak<|tN<|cF O<|aO<|tN<|axT (ι:=Unit) (λ_=>⟨290,[(9,.p 9 0),(10,.p 10 0),(15,.p 15 0)],[(9,.i p0<|.b 40<|[.a 1 m<|fi X]),(10,.i p1<|.b 40<|[.a 1 m<|fi Y]),(15,.b 50<|[.a 1 m<|fi λi=>((r i:Nat):Int),.a 1 1<|aF iZ [((wn:Nat):Int)],.a 1 kh<|fi λi=>((h i:Nat):Int),tlP X Y m,DW])]⟩) (λ_=>True) ?_ (λpK hK=>?_);refine au<|aA<|xEe 3 O<|ak<|tN<|bI O (λhc5=>?_) (λhc5=>?_);refine au ?_;have hm2:2<=m:=(by have h0:=abd hc5;omega);refine aA<|mMv (.d<|.o<|.v<|.func (.func 52) #[] #[p0,p1]) aDk<|xWe O<|ak<|tN<|au<|aA<|xEe 2 O<|ak<|tN<|au<|au<|aA<|xEe 3 O<|ak<|tN<|aK<|dL (ι:=Nat) (λi=>⟨290,[(9,.p 9 0),(10,.p 10 0),(15,.p 15 0),(20,.d<|.o<|.v<|.func (.func 52) #[] #[p0,p1]),(194,.d<|.o<|.v<|.int .i64 (m:Int)),(21,.d<|.o<|.v<|.int .i64 (((cpS X Y m i).1:Nat):Int)),(22,.d<|.o<|.v<|.int .i64 (((cpS X Y m i).2:Nat):Int)),(195,.d<|.o<|aAG i)],[(9,.i p0<|.b 40<|[.a 1 m<|fi X]),(10,.i p1<|.b 40<|[.a 1 m<|fi Y]),(15,.b 50<|[.a 1 m<|fi λi=>((r i:Nat):Int),.a 1 1<|aF iZ [((wn:Nat):Int)],.a 1 kh<|fi λi=>((h i:Nat):Int),tlP X Y m,DW])]⟩) (λi=>i<=m) (λi=>m-i) 0 (abJ _) (wk O ⟨hs O,hs O,hs O,hs O,hs O,dW O aDN,dW O aDN,dW O aDN,Pe⟩ aCt O) ?_;rintro i hi3;refine au<|aA<|xWe O<|ak<|tN<|au<|bI O (λhc6=>?_) (λhc6=>?_);refine aO<|tN<|au<|aK<|au ?_;have him:i<m:=(by have h0:=abd hc6;omega);have hcs:=alp (x:=X) (y:=Y) hm2 i Z;refine aA<|xEe 2 O<|ak<|tN<|au<|aA<|xWe O<|mV bM (aAC i) aCB<|xWe O<|ak<|tN<|aK<|dL (ι:=Nat) (λj=>⟨290,[(9,.p 9 0),(10,.p 10 0),(15,.p 15 0),(20,.d<|.o<|.v<|.func (.func 52) #[] #[p0,p1]),(23,.d<|.o<|aAG i),(194,.d<|.o<|.v<|.int .i64 (m:Int)),(195,.d<|.o<|aAG i),(21,.d<|.o<|.v<|.int .i64 (((cpJ X Y i (cpS X Y m i) j).1:Nat):Int)),(22,.d<|.o<|.v<|.int .i64 (((cpJ X Y i (cpS X Y m i) j).2:Nat):Int)),(24,.d<|.o<|.v<|.int .i64 ((i+1+j:Nat):Int))],[(9,.i p0<|.b 40<|[.a 1 m<|fi X]),(10,.i p1<|.b 40<|[.a 1 m<|fi Y]),(15,.b 50<|[.a 1 m<|fi λi=>((r i:Nat):Int),.a 1 1<|aF iZ [((wn:Nat):Int)],.a 1 kh<|fi λi=>((h i:Nat):Int),tlP X Y m,DW])]⟩) (λj=>i+1+j<=m) (λj=>m-j) 0 Z (wk O ⟨hs O,hs O,hs O,hs O,hs O,hs O,hs O,dW O aDN,dW O aDN,dW O aDN,Pe⟩ aCt O) ?_;rintro j hj4;refine au<|au<|aA<|xEe 4 O<|ak<|tN<|bI O (λhc7=>?_) (λhc7=>?_);refine aO<|tN<|au<|aK<|au ?_;have hjm:i+1+j<m:=(by have h0:=abd hc7;omega);have hq:=abT (x:=X) (y:=Y) (i:=i) hcs j Z;refine aA<|xEe 3 O<|IE (arp (p0:=p0) (p1:=p1) (X:=X) (Y:=Y) (m:=m) (i:=i) (k:=i+1+j) him hjm Z hX hY) [(0,9),(1,10)] [] [] [] [] [9,10] (ata (args:=[.d<|.o<|aAG i,.d<|.o<|.v<|.int .i64 ((i+1+j:Nat):Int)]) [(0,9,p0),(1,10,p1)] O O O aCw ⟨aCg,aCg,Pe⟩) aGO ⟨aCe,aCe,Pe⟩ trivial aFR ⟨Or.inr aCa,Or.inr aCa,Pe⟩ trivial trivial ?_;rintro _ _ ⟨rfl,rfl⟩;refine wKm [209,203,24,22,21,195,194,23,20,15,10,9] [15,10,9] O O<|xEe 3 O<|IE (arp (p0:=p0) (p1:=p1) (X:=X) (Y:=Y) (m:=m) (i:=(cpJ X Y i (cpS X Y m i) j).1) (k:=(cpJ X Y i (cpS X Y m i) j).2) hq.1 hq.2 Z hX hY) [(0,9),(1,10)] [] [] [] [] [9,10] (ata (args:=[.d<|.o<|.v<|.int .i64 (((cpJ X Y i (cpS X Y m i) j).1:Nat):Int),.d<|.o<|.v<|.int .i64 (((cpJ X Y i (cpS X Y m i) j).2:Nat):Int)]) [(0,9,p0),(1,10,p1)] O O O aCw ⟨aCg,aCg,Pe⟩) aGO ⟨aCe,aCe,Pe⟩ trivial aFR ⟨Or.inr aCa,Or.inr aCa,Pe⟩ trivial trivial ?_;rintro _ _ ⟨rfl,rfl⟩;refine wKm [213,209,203,24,22,21,195,194,23,20,15,10,9] [15,10,9] O O<|xWe O<|ak<|tN<|bI O (λhc8=>?_) (λhc8=>?_);refine aA<|xEe 4 O<|ak<|bN<|tN<|aA<|xWe O<|mV bM (.d<|.o<|.v<|.int .i64 ((i+1+(j+1):Nat):Int)) (fK<|(bH Z).trans Z)<|xWe O<|ak ?_;exact⟨(j+1),by omega,by omega,wk O ⟨hs O,hs O,hs O,hs O,hs O,hs O,hs O,dW O<|aJ<|ah9 (λq:Nat×Nat=>((q.1:Nat):Int))<|ars<|abd hc8,dW O<|aJ<|ah9 (λq:Nat×Nat=>((q.2:Nat):Int))<|ars<|abd hc8,hs O,Pe⟩ aCt O⟩;refine aO<|bN<|tN<|aA<|xWe O<|mV bM (.d<|.o<|.v<|.int .i64 ((i+1+(j+1):Nat):Int)) (fK<|(bH Z).trans Z)<|xWe O<|ak ?_;exact⟨(j+1),by omega,by omega,wk O ⟨hs O,hs O,hs O,hs O,hs O,hs O,hs O,dW O<|aJ<|ah9 (λq:Nat×Nat=>((q.1:Nat):Int))<|arq<|aa1 hc8,dW O<|aJ<|ah9 (λq:Nat×Nat=>((q.2:Nat):Int))<|arq<|aa1 hc8,hs O,Pe⟩ aCt O⟩;refine bZ<|tE<|tE<|bE<|bN<|tN ?_;obtain rfl:j=m-(i+1):=(by have h0:=aa1 hc7;omega);refine aA<|mV bM (aAC i) aCB<|xWe O<|ak ?_;exact⟨(i+1),by omega,by omega,wk O ⟨hs O,hs O,hs O,hs O,hs O,dW O aDN,dW O aDN,hs O,Pe⟩ aCt O⟩;refine bZ<|tE<|tE<|bE<|tN<|au ?_;obtain rfl:m=i:=(by have h0:=aa1 hc6;omega);refine AW.wk (wk (sl:=[(9,.p 9 0),(10,.p 10 0),(15,.p 15 0),(21,.d<|.o<|.v<|.int .i64 (((cpS X Y m m).1:Nat):Int)),(22,.d<|.o<|.v<|.int .i64 (((cpS X Y m m).2:Nat):Int))]) (hp:=[(9,.i p0<|.b 40<|[.a 1 m<|fi X]),(10,.i p1<|.b 40<|[.a 1 m<|fi Y]),(15,.b 50<|[.a 1 m<|fi λi=>((r i:Nat):Int),.a 1 1<|aF iZ [((wn:Nat):Int)],.a 1 kh<|fi λi=>((h i:Nat):Int),.a 1 2<|aF iZ [(((cpS X Y m m).1:Nat):Int),(((cpS X Y m m).2:Nat):Int)],DW])]) O aG2 aF0 O) ?_;refine aA<|xEe 4 O<|mB bM _ O<|jL 222 (.d<|.o<|.a 1 2<|aF iZ [(((cpS X Y m m).1:Nat):Int),(((cpS X Y m m).2:Nat):Int)]) O (MZ (l:=[(((cpS X Y m m).1:Nat):Int),(((cpS X Y m m).2:Nat):Int)]) O)<|bn (Xr (l:=[(((cpS X Y m m).1:Nat):Int),(((cpS X Y m m).2:Nat):Int)])<|acN O) O O O<|xWe O<|ak<|tN<|cF O<|aO<|tN ?_;exact⟨(),trivial,wk O aF1 aF0 O⟩;refine aO<|tN ?_;exact⟨(),trivial,wk O aF1 aCt O⟩;obtain- :=hK;refine au<|aA<|mMv (.d<|.o<|.v<|.func (.func 53) #[] #[p0,p1]) aDk<|xWe O<|ak<|tN<|au<|au<|aA<|xEe 4 O<|ak<|tN<|aK<|dL (ι:=Nat) (λi=>⟨290,[(9,.p 9 0),(10,.p 10 0),(15,.p 15 0),(25,.d<|.o<|.v<|.func (.func 53) #[] #[p0,p1]),(228,.d<|.o<|.v<|.int .i64 (kh:Int)),(229,.d<|.o<|aAG i)],[(9,.i p0<|.b 40<|[.a 1 m<|fi X]),(10,.i p1<|.b 40<|[.a 1 m<|fi Y]),(15,.b 50<|[.a 1 m<|fi λi=>((r i:Nat):Int),.a 1 1<|aF iZ [((wn:Nat):Int)],.a 1 kh<|fi λi=>((h i:Nat):Int),tlP X Y m,DW])]⟩) (λi=>i<=kh) (λi=>kh-i) 0 (abJ _) (wk O ⟨hs O,hs O,hs O,hs O,hs O,dW O aDN,Pe⟩ aCt O) ?_;rintro i hi5;refine au<|aA<|xWe O<|ak<|tN<|au<|bI O (λhc9=>?_) (λhc9=>?_);refine aO<|tN<|au<|aK<|au ?_;have hik:i<kh:=(by have h0:=abd hc9;omega);have hm1:(i+1)%kh<kh:=acP _ Z;have hm2:(i+2)%kh<kh:=acP _ Z;refine aA<|xEe 2 O<|ak<|tN<|au<|au<|aA<|xEe 3 O<|ak<|tN<|aK<|dL (ι:=Nat) (λj=>⟨290,[(9,.p 9 0),(10,.p 10 0),(15,.p 15 0),(25,.d<|.o<|.v<|.func (.func 53) #[] #[p0,p1]),(26,.d<|.o<|aAG i),(228,.d<|.o<|.v<|.int .i64 (kh:Int)),(229,.d<|.o<|aAG i),(233,.d<|.o<|.v<|.int .i64 (m:Int)),(234,.d<|.o<|.v<|.int .i64 ((j:Nat):Int))],[(9,.i p0<|.b 40<|[.a 1 m<|fi X]),(10,.i p1<|.b 40<|[.a 1 m<|fi Y]),(15,.b 50<|[.a 1 m<|fi λi=>((r i:Nat):Int),.a 1 1<|aF iZ [((wn:Nat):Int)],.a 1 kh<|fi λi=>((h i:Nat):Int),tlP X Y m,DW])]⟩) (λj=>j<=m) (λj=>m-j) 0 (abJ _) (wk O ⟨hs O,hs O,hs O,hs O,hs O,hs O,hs O,hs O,dW O aDN,Pe⟩ aCt O) ?_;rintro j hj6;refine au<|aA<|xWe O<|ak<|tN<|au<|bI O (λVs=>?_) (λVs=>?_);refine aO<|tN<|au<|aK<|au ?_;have hjm:j<m:=(by have h0:=abd Vs;omega);refine aA<|xEe 2 O<|ak<|tN<|au<|xDe 18 []<|rEr 4 O<|rVr (xjh O O O O O O Z)<|rEr 4 O<|.cons (.S<|aC.V (aAC i) aCB)<|rEr 3 O<|.cons (.S<|aC.V (.d<|.o<|.v<|.int .i64 (((i+1)%kh:Nat):Int)) aGt)<|rVr (xjh O O O O O O Z)<|rEr 2 O<|.cons (.L (.d<|.o<|.v<|.int .i64<|ahD (X<|h i) (Y<|h i) (X<|h<|(i+1)%kh) (Y<|h<|(i+1)%kh) (X j)<|Y j) [(9,.i p0<|.b 40<|[.a 1 m<|fi X]),(10,.i p1<|.b 40<|[.a 1 m<|fi Y])] [9,10] (atc (akd (p0:=p0) (p1:=p1) (X:=X) (Y:=Y) (m:=m) (i:=h i) (k:=h<|(i+1)%kh) (q:=j) (S.eh i hik).2 (S.eh _ hm1).2 hjm Z hX hY) [(0,9),(1,10)] [] [] [9,10] (ata (args:=[.d<|.o<|.v<|.int .i64 ((h i:Nat):Int),.d<|.o<|.v<|.int .i64 ((h ((i+1)%kh):Nat):Int),.d<|.o<|.v<|.int .i64 ((j:Nat):Int)]) [(0,9,p0),(1,10,p1)] O O O aCw ⟨aCg,aCg,aCg,Pe⟩) ⟨aCe,aCe,Pe⟩ aDQ aD9 ⟨Or.inr aCa,Or.inr aCa,Pe⟩ trivial aCc) ⟨O,O,Pe⟩ aEa) ?_;refine .nil<|mV bM (.d<|.o<|.v<|.bool false) (dD<|acS<|by have:=S.ea i hik j hjm;omega) ?_;refine ak<|tN<|cF O<|aO<|bN<|tN<|aA<|mV bM (.d<|.o<|.v<|.int .i64 ((j+1:Nat):Int)) aCB<|xWe O<|ak ?_;exact⟨(j+1),by omega,by omega,wk O ⟨hs O,hs O,hs O,hs O,hs O,hs O,hs O,hs O,hs O,Pe⟩ aCt O⟩;refine bZ<|tE<|tE<|bE<|tN<|au<|aA<|xEe 4 O<|ak<|tN<|au ?_;by_cases hk3:2<kh;refine xDe 27 []<|rVr O<|rTd O Z<|rEr 5 O<|rVr (xjh O O O O O O Z)<|rEr 4 O<|.cons (.S<|aC.V (aAC i) aCB)<|rVr O<|.cons (.S<|aC.V (.d<|.o<|.v<|.int .i64 (((i+1)%kh:Nat):Int)) aGt)<|rVr (xjh O O O O O O Z)<|rEr 4 O<|.cons (.S<|aC.V (.d<|.o<|.v<|.int .i64 ((i+2:Nat):Int)) aCm)<|rVr O<|.cons (.S<|aC.V (.d<|.o<|.v<|.int .i64 (((i+2)%kh:Nat):Int)) aGt)<|rVr (xjh O O O O O O Z)<|rVr O<|.cons (.L (.d<|.o<|.v<|.int .i64<|ahD (X<|h i) (Y<|h i) (X<|h<|(i+1)%kh) (Y<|h<|(i+1)%kh) (X<|h<|(i+2)%kh)<|Y<|h<|(i+2)%kh) [(9,.i p0<|.b 40<|[.a 1 m<|fi X]),(10,.i p1<|.b 40<|[.a 1 m<|fi Y])] [9,10] (atc (akd (p0:=p0) (p1:=p1) (X:=X) (Y:=Y) (m:=m) (i:=h i) (k:=h<|(i+1)%kh) (q:=h<|(i+2)%kh) (S.eh i hik).2 (S.eh _ hm1).2 (S.eh _ hm2).2 Z hX hY) [(0,9),(1,10)] [] [] [9,10] (ata (args:=[.d<|.o<|.v<|.int .i64 ((h i:Nat):Int),.d<|.o<|.v<|.int .i64 ((h ((i+1)%kh):Nat):Int),.d<|.o<|.v<|.int .i64 ((h ((i+2)%kh):Nat):Int)]) [(0,9,p0),(1,10,p1)] O O O aCw ⟨aCg,aCg,aCg,Pe⟩) ⟨aCe,aCe,Pe⟩ aDQ aD9 ⟨Or.inr aCa,Or.inr aCa,Pe⟩ trivial aCc) ⟨O,O,Pe⟩ aEa) ?_;refine rFd O (by have:=S.et hk3 i hik;omega) ?_;refine .nil<|xWe O<|ak<|tN<|cF O<|aO<|bN<|tN<|aA<|mV bM (aAC i) aCB<|xWe O<|ak<|aty;refine xDe 27 []<|rVr O<|rFd O Z<|rVr O<|rGr<|rGr<|rGr<|rGr<|rGr<|rGr<|rGr<|rGr<|rGr<|rGr<|rGr<|rGr<|rGr<|rGr<|rGr<|rGr<|rGr<|rGr<|rGr<|rGr<|rGr<|rGr<|rGr<|rGr<|.nil<|xWe O<|ak<|tN<|cF O<|aO<|bN<|tN<|aA<|mV bM (aAC i) aCB<|xWe O<|ak<|aty;refine bZ<|tE<|tE<|bE<|tN<|au<|aA<|bn (aiL) O O O<|xWe O<|ak<|tN<|aQ<|axx
section
open Go.RowKit Go.ChangeShapes Go.WideShapes
section
variable {H:Type} {enc:TypeId×Value→H} {P:Program} {w:World}
def apW{t:TypeId}{fuel:Nat}{cs:List Value}{x:DataW H×List MemPlace}(ht:P.underlying t=some (.slice e))(he:P.underlying e=some (.int .i64))(hc:P.cellsOf e=1) 
  (h:DataW.trod enc P w 0 (λ_=>true) true fuel t cs=some x):∃v n c,cs=[v]/\fP nb w (azx n c) v/\n<=9223372036854775807/\∀i,i<n->-9223372036854775808<=c i/\c i<=9223372036854775807:=by rcases open_ints ht he hc h with⟨rfl,_⟩|⟨a,l,c,zs,rfl,_,hl,hm,hz,_,hcell,hwz⟩;exact⟨_,0,λ_=>0,O,aFP,abJ _,λi hi=>absurd hi<|acH _⟩;have hz':zs.length=c:=aCy;have hmx:maxLen=9223372036854775807:=aD3;refine⟨_,l,λi=>zs.getD i 0,O,⟨some a,c,O,hl,ψ,λi hi=>?_⟩,by omega,λi hi=>?_⟩;have h0:=hcell 0 Z;obtain⟨b,off,rfl⟩:=abj h0;have h1:=hcell i Z;rw [acY] at h1;refine⟨b,off,O,λh=>h.elim,World.block_lt_of_cell? w _ h1,λq hq=>?_⟩;obtain rfl:q=0:=Z;exact⟨_,by simp_all,O,O⟩;have hi':i<zs.length:=Z;show _<=zs.getD i 0/\zs.getD i 0<=_;rw [List.getD_eq_getElem?_getD,List.getElem?_eq_getElem hi'];exact abf ψ
def akU{r:Reach}{b0:Nat}{d:DataW H}{p:List MemPlace}{v:Value}{t:TypeId}(ht:P.underlying t=some (.slice e))(he:P.underlying e=some (.int .i64))(hc:P.cellsOf e=1) 
  (hv:Value.okWide P w r b0 t v) (h:DataW.Trod enc P w 0 (λ_=>true) true t v d p):∃n c,fP nb w (azx n c) v/\n<=9223372036854775807/\∀i,i<n->-9223372036854775808<=c i/\c i<=9223372036854775807:=by obtain⟨a,len,cap,rfl⟩:=okWide_slice ht hv;have⟨fuel,hf⟩:=h;rw [abI] at hf;have⟨v',n,c,e1,h2⟩:=apW ht he hc hf;grind
end
end
end
end Go.Proofs.YtecmeakkkmidjaaGreat
