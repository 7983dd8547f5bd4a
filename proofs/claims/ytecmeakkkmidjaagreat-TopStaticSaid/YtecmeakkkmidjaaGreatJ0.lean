/-
  The program's functions, part J0. No condition.
-/
import Derived.Test.YtecmeakkkmidjaaGreatJM
set_option linter.defProp false
set_option linter.unusedVariables false
set_option linter.unusedSectionVars false
set_option linter.unusedSimpArgs false
set_option maxRecDepth 100000
set_option maxHeartbeats 4000000
namespace Go.Proofs.YtecmeakkkmidjaaGreat
open Go.RowKit
noncomputable section
variable {w w':World}{xs os:List Nat}{n off k m d base b i j g:Nat}{P:Program}{a a0 a':Act}{l rest:List Oper}{v:Value}{ops:Array Oper}{Q Qw:Exit->Act->World->Prop}{o:Oper}{J:(Nat->Prop)->(Nat->Value)->World->Prop}{D D':Nat->Prop}{cs ls:List Value}{t e:TypeId}{listed:Array Bool}{ao:Option Addr}{x y:Operand}{c:Call}{L:Nat->Bool}{f:FuncId}{p:Prop}{op:Op}
open Go.Proofs.Tryz
def Pe:True:=trivial
def aav:type_of% @Nat.le_refl:=Z
def aaJ:type_of% @Rat.mul_le_mul_of_nonneg_left:=@Rat.mul_le_mul_of_nonneg_left
def aa1:type_of% @of_decide_eq_false:=ψ
def abd:type_of% @of_decide_eq_true:=ψ
def abh:type_of% @Nat.mul_le_mul_right:=@Nat.mul_le_mul_right
def abr:type_of% @Nat.eq_of_beq_eq_true:=@Nat.eq_of_beq_eq_true
def abt:type_of% @Classical.byContradiction:=ψ
def abJ:type_of% @Nat.zero_le:=Z
def abV:type_of% @Rat.mul_le_mul_of_nonneg_right:=@Rat.mul_le_mul_of_nonneg_right
def acf:type_of% @List.getElem?_eq_some_iff:=@List.getElem?_eq_some_iff
def acz:type_of% @beq_eq_false_iff_ne:=ψ
def acC:type_of% @Nat.pow_le_pow_right:=@Nat.pow_le_pow_right
def acH:type_of% @Nat.not_lt_zero:=Z
def acI:type_of% @Nat.lt_of_lt_of_le:=Z
def acK:type_of% @Rat.mul_nonneg:=@Rat.mul_nonneg
def acL:type_of% @Nat.le_trans:=Z
def acM:type_of% @Nat.mul_le_mul_left:=@Nat.mul_le_mul_left
def acN:type_of% @Nat.le_of_ble_eq_true:=@Nat.le_of_ble_eq_true
def acO:type_of% @List.eq_nil_of_length_eq_zero:=ψ
def acP:type_of% @Nat.mod_lt:=@Nat.mod_lt
def acQ:type_of% @Nat.le_of_lt:=Z
def acS:type_of% @decide_eq_false:=ψ
def acT:type_of% @Nat.eq_zero_or_pos:=Z
def acW:type_of% @beq_iff_eq:=ψ
def acZ:type_of% @Nat.pow_pos:=ψ
def ac0:type_of% @Nat.le_mul_of_pos_right:=@Nat.le_mul_of_pos_right
def ac1:type_of% @Nat.lt_of_le_of_lt:=Z
def ac2:type_of% @Nat.mul_le_mul:=@Nat.mul_le_mul
def ac3:type_of% @decide_eq_true:=ψ
def ac4:type_of% @Rat.mul_pos:=@Rat.mul_pos
def ac5:type_of% @Nat.pow_le_pow_left:=@Nat.pow_le_pow_left
def ac6:type_of% @List.all_eq_true:=ψ
def aed:type_of% @Nat.le_succ:=Z
def aew:type_of% @List.getElem?_eq_getElem:=@List.getElem?_eq_getElem
def ae1:type_of% @Nat.two_pow_pos:=ψ
def afu:type_of% @List.mem_cons:=ψ
def afv:type_of% @List.mem_replicate:=ψ
def af0:type_of% @bne_iff_ne:=ψ
def af7:type_of% @Nat.lt_succ_self:=Z
def aga:type_of% @bne_self_eq_false:=ψ
def agD:type_of% @Int.lt_trichotomy:=Z
def ahc:type_of% @Nat.pos_of_ne_zero:=Z
def ahR:type_of% @Nat.div_lt_of_lt_mul:=@Nat.div_lt_of_lt_mul
def ahS:type_of% @List.cons.inj:=ψ
def ahT:type_of% @Option.some.inj:=ψ
def ahU:type_of% @Int.mul_ne_zero:=@Int.mul_ne_zero
def ahV:type_of% @Int.ofNat_dvd_left:=@Int.ofNat_dvd_left
def ahW:type_of% @Nat.mul_pos:=@Nat.mul_pos
def ahX:type_of% @List.any_eq_true:=ψ
def ahY:type_of% @List.mem_cons_of_mem:=ψ
def ahZ:type_of% @Nat.lt_or_ge:=Z
def ah0:type_of% @List.mem_range:=ψ
def ah1:type_of% @Nat.lt_trichotomy:=Z
def ah2:type_of% @Nat.mul_lt_mul_of_pos_right:=@Nat.mul_lt_mul_of_pos_right
def ah3:type_of% @List.mem_append:=ψ
def ah5:type_of% @Nat.le_mul_of_pos_left:=@Nat.le_mul_of_pos_left
def ah8:type_of% @decide_eq_decide:=ψ
def ah9:type_of% @congrArg:=ψ
def aiS:type_of% @Rat.mul_inv_cancel:=ψ
def ai4:type_of% @Rat.div_mul_cancel:=ψ
def aja:type_of% @List.mem_of_mem_take:=ψ
def ajo:type_of% @List.mem_of_getElem?:=ψ
def ajq:type_of% @Rat.mul_comm:=ψ
def ajr:type_of% @List.mem_cons_self:=ψ
def ajz:type_of% @Nat.mod_add_div:=@Nat.mod_add_div
def akv:type_of% @Array.getElem?_eq_some_iff:=@Array.getElem?_eq_some_iff
def alk:type_of% @List.mem_append_left:=ψ
def alr:type_of% @Nat.le_max_right:=Z
def alM:type_of% @Nat.le_add_right:=Z
def alS:type_of% @List.getElem_mem:=ψ
def al6:type_of% @Rat.mul_eq_zero:=ψ
def al8:type_of% @Rat.intCast_eq_zero_iff:=@Rat.intCast_eq_zero_iff
def amm:type_of% @Nat.le_max_left:=Z
def amJ:type_of% @Nat.exists_eq_add_of_le:=@Nat.exists_eq_add_of_le
def amN:type_of% @List.mem_filterMap:=ψ
def amO:type_of% @List.mem_append_right:=ψ
def amY:type_of% @Array.mem_append:=ψ
def anl:type_of% @Nat.div_add_mod:=@Nat.div_add_mod
def ano:type_of% @Nat.add_le_add_left:=Z
def anF:type_of% @Nat.lt_of_mul_lt_mul_right:=@Nat.lt_of_mul_lt_mul_right
def an5:type_of% @Int.natAbs_ediv_le_natAbs:=@Int.natAbs_ediv_le_natAbs
def aon:type_of% @Option.isSome_iff_exists:=@Option.isSome_iff_exists
def aZ(B:Nat):List Nat->Nat
 |[]=>0
 |x::xs=>x+B*aZ B xs
def DX(B x:Nat)(xs:List Nat):aZ B (x::xs)=x+B*aZ B xs:=rfl
def kV(B:Nat)(xs ys:List Nat):aZ B (xs++ys)=aZ B xs+B^xs.length*aZ B ys:=by induction xs with|nil=>simp [aZ]|cons x xs ih=>simp only [List.cons_append,aZ,ih,List.length_cons,Nat.pow_succ];grind
def sK{B:Nat}(h:∀x∈xs,x<B):aZ B xs<B^xs.length:=by induction xs with|nil=>simp [aZ]|cons x xs ih=>have h1:=ih (λy hy=>h y (ahY _ hy));have h2:=h x ajr;simp only [aZ,List.length_cons,Nat.pow_succ];have h3:B*(aZ B xs+1)<=B*B^xs.length:=acM _ h1;grind
def lQ(B:Nat)(xs:List Nat)(k:Nat)(h:k<xs.length):aZ B (xs.take<|k+1)=aZ B (xs.take k)+B^k*xs[k]:=by rw [List.take_succ_eq_append_getElem h,kV];simp [aZ,List.length_take,Nat.min_eq_left (Nat.le_of_lt h)]
def sD(B:Nat)(xs:List Nat)(k:Nat)(h:k<=xs.length):aZ B xs=aZ B (xs.take k)+B^k*aZ B (xs.drop k):=by have:=kV B (xs.take k)<|xs.drop k;simp_all
def oI(B n:Nat):aZ B (List.replicate n 0)=0:=by induction n with|zero=>rfl|succ n ih=>simp [List.replicate_succ,aZ,ih]
def Hr(B:Nat)(xs:List Nat)(n:Nat):aZ B (xs++List.replicate n 0)=aZ B xs:=by rw [kV,oI];simp
def O6(B:Nat):Nat->Nat->List Nat
 |0,_=>[]
 |f+1,n=>if n=0 then [] else n%B::O6 B f (n/B)
def qG(B n:Nat):List Nat:=O6 B n n
def QX{B:Nat}(hB:2<=B)(f:Nat):∀n,n<=f->O6 B f n=qG B n:=by induction f using Nat.strongRecOn with|ind f ih=>intro n hn;by_cases h0:n=0;subst h0;cases f <;> simp [qG,O6];obtain⟨f',rfl⟩:∃f',f=f'+1:=aEH;obtain⟨n',rfl⟩:∃n',n=n'+1:=aGw;have hd:(n'+1)/B<n'+1:=Nat.div_lt_self Z hB;simp only [qG,O6,if_neg h0];grind
def qm(B:Nat):qG B 0=[]:=rfl
def sU{B:Nat}(hB:2<=B)(hn:n≠0):qG B n=n%B::qG B (n/B):=by obtain⟨n',rfl⟩:∃n',n=n'+1:=aGw;have hd:(n'+1)/B<n'+1:=Nat.div_lt_self Z hB;simp only [qG,O6,if_neg hn];rw [QX hB n' _ Z];rfl
def yS{B:Nat}(hB:2<=B)(n:Nat):aZ B (qG B n)=n:=by induction n using Nat.strongRecOn with|ind n ih=>by_cases h0:n=0;subst h0;rfl;have hd:n/B<n:=Nat.div_lt_self Z hB;rw [sU hB h0,DX,ih _ hd,Nat.mod_add_div]
def F7{B:Nat}(hB:2<=B)(n:Nat):∀x∈qG B n,x<B:=by induction n using Nat.strongRecOn with|ind n ih=>(by_cases h0:n=0;subst h0;simp [qm];have hd:n/B<n:=Nat.div_lt_self Z hB;rw [sU hB h0];intro x hx;rcases afu.1 hx with rfl|hx;exact acP _ Z;grind)
def Ik{B:Nat}(hB:2<=B){x:Nat}(hx:x<B)(h:x≠0\/n≠0):qG B (x+B*n)=x::qG B n:=by have hB0:0<B:=Z;have hne:x+B*n≠0:=(by rcases h with h|h;omega;have:=ahW hB0<|ahc h;omega);rw [sU hB hne];have h1:(x+B*n)%B=x:=(by rw [Nat.add_mul_mod_self_left,Nat.mod_eq_of_lt hx]);have h2:(x+B*n)/B=n:=(by rw [Nat.add_mul_div_left _ _ hB0,Nat.div_eq_of_lt hx,Nat.zero_add]);rw [h1,h2]
def Nrm(B:Nat)(xs:List Nat):Prop:=(∀x∈xs,x<B)/\xs.getLast?≠some 0
def Ud{B:Nat}(hB:2<=B)(h:Nrm B xs)(hne:xs≠ []):aZ B xs≠0:=by induction xs with|nil=>simp_all|cons x xs ih=>by_cases hx:xs=[];subst hx;have:=h.2;simp [aZ] at this ⊢;omega;have hn:Nrm B xs:=⟨λy hy=>h.1 y ψ,by have:=h.2;rwa [List.getLast?_cons_of_ne_nil hx] at this⟩;have:=ih hn hx;have:=ahW (show 0<B by omega)<|ahc this;simp only [aZ];omega
def Nrm.qG{B:Nat}(hB:2<=B)(h:Nrm B xs):qG B (aZ B xs)=xs:=by induction xs with|nil=>rfl|cons x xs ih=>have hx:x<B:=h.1 x ajr;by_cases hxs:xs=[];subst hxs;have h2:=h.2;simp at h2;simpa [aZ,qm] using Ik hB (n:=0) hx Z;have hn:Nrm B xs:=⟨λy hy=>h.1 y ψ,by have:=h.2;rwa [List.getLast?_cons_of_ne_nil hxs] at this⟩;rw [DX,Ik hB hx<|Or.inr<|Ud hB hn hxs,ih hn]
def LY{B:Nat}(hB:2<=B)(n:Nat):Nrm B<|qG B n:=by refine⟨F7 hB n,?_⟩;induction n using Nat.strongRecOn with|ind n ih=>by_cases h0:n=0;subst h0;simp [qm];have hd:n/B<n:=Nat.div_lt_self Z hB;rw [sU hB h0];by_cases h1:n/B=0;rw [h1,qm];have:=ajz n B;grind;have hne:Go.Proofs.YtecmeakkkmidjaaGreat.qG B (n/B)≠ []:=(by rw [sU hB h1];simp);rw [List.getLast?_cons_of_ne_nil hne];exact ih _ hd
def BL{B:Nat}(hB:2<=B):qG B n=[]↔n=0:=by constructor;intro h;have:=yS hB n;rw [h] at this;exact this.symm;rintro rfl;rfl
def JE{B:Nat}(hB:2<=B)(h:∀x∈xs,x<B)(hn:n≠0):qG B (aZ B xs+B^xs.length*n)=xs++qG B n:=by have hN:Nrm B<|xs++qG B n:=(by refine⟨λx hx=>?_,?_⟩;rcases ah3.1 hx with hx|hx;simp_all;exact F7 hB n x hx;rw [List.getLast?_append];have hne:Go.Proofs.YtecmeakkkmidjaaGreat.qG B n≠ []:=λe=>hn<|(BL hB).1 e;have:=(LY hB n).2;rw [List.getLast?_eq_some_getLast hne] at this ⊢;simpa using this);have:=hN.qG hB;rwa [kV,yS hB] at this
def vP{B:Nat}(hB:2<=B)(h:n<B^k):(qG B n).length<=k:=by induction k generalizing n with|zero=>simp at h;subst h;simp [qm]|succ k ih=>by_cases h0:n=0;grind;rw [sU hB h0,List.length_cons];have:n/B<B^k:=(by rw [Nat.div_lt_iff_lt_mul Z];assumption);simp_all
def LX{B:Nat}(hB:2<=B)(n:Nat):n<B^(qG B n).length:=by have:=sK<|F7 hB n;rwa [yS hB] at this
def yw{B:Nat}(hB:2<=B)(h:m<=n):(qG B m).length<=(qG B n).length:=
 vP hB (ac1 h<|LX hB n)
def yj(xs:List Nat):Nat->Nat
 |0=>0
 |n+1=>if xs.getD n 0=0 then yj xs n else n+1
def J3(xs:List Nat)(n:Nat):yj xs n<=n:=by induction n with|zero=>simp [yj]|succ n ih=>simp only [yj];grind
def abx{B:Nat}(hB:2<=B)(xs:List Nat)(h:∀x∈xs,x<B)(n:Nat)(hn:n<=xs.length):xs.take (yj xs n)=qG B (aZ B<|xs.take n):=by induction n with|zero=>rfl|succ n ih=>have hlt:n<xs.length:=Z;simp only [yj];rw [lQ B xs n hlt];have hg:xs.getD n 0=xs[n]:=(by simp [hlt]);rw [hg];split;grind;rename_i h0;have hlen:(xs.take n).length=n:=ψ;have h1:=JE hB (xs:=xs.take n) ψ (n:=xs[n]) h0;rw [hlen] at h1;rw [h1,List.take_succ_eq_append_getElem hlt];have hx:xs[n]<B:=h _<|alS _;have h2:=Ik hB (n:=0) hx Z;simp [qm] at h2;rw [h2]
def U4{B:Nat}(hB:2<=B)(xs:List Nat)(h:∀x∈xs,x<B):xs.take (yj xs xs.length)=qG B (aZ B xs):=by have:=abx hB xs h xs.length<|aav _;simp_all
def ji(B:Nat)(xs:List Nat)(k d:Nat)(h:k<xs.length):aZ B ((xs.set k d).take<|k+1)=aZ B (xs.take k)+B^k*d:=by rw [lQ B _ k aCj];simp [List.take_set_of_le]
def eX{B:Nat}(h:∀x∈xs,x<B)(hd:d<B)(k:Nat):∀x∈xs.set k d,x<B:=by grind
def bT(B:Nat){x:Nat}(h:xs[k]?=some x):aZ B (xs.take<|k+1)=aZ B (xs.take k)+B^k*x:=by obtain⟨hk,rfl⟩:=acf.1 h;exact lQ B xs k hk
def qP(B:Nat)(h:xs.length<=k):aZ B (xs.take<|k+1)=aZ B (xs.take k):=by rw [List.take_of_length_le Z,List.take_of_length_le h]
def dJ(B:Nat)(h:xs.length=k):aZ B (xs.take k)=aZ B xs:=by grind
def NS(B k s:Nat):B^k*(s%B)+B^(k+1)*(s/B)=B^k*s:=by rw [Nat.pow_succ,Nat.mul_assoc,<-Nat.mul_add,Nat.mod_add_div]
def UN{B cy x y:Nat}{P Q:List Nat}(hk:k<os.length)(hv:aZ B (os.take k)+B^k*cy=aZ B (P.take k)+aZ B (Q.take k)) 
  (hP:aZ B (P.take<|k+1)=aZ B (P.take k)+B^k*x) (hQ:aZ B (Q.take<|k+1)=aZ B (Q.take k)+B^k*y):
  aZ B ((os.set k<|(x+cy+y)%B).take<|k+1)+B^(k+1)*((x+cy+y)/B)=aZ B (P.take<|k+1)+aZ B (Q.take<|k+1):=by rw [ji B os k _ hk,hP,hQ];have:=NS B k<|x+cy+y;grind
def Hq{B cy x y:Nat}{P Q:List Nat}(hk:k<os.length)(hv:aZ B (os.take k)+aZ B (Q.take k)=aZ B (P.take k)+B^k*cy) 
  (hP:aZ B (P.take<|k+1)=aZ B (P.take k)+B^k*x) (hQ:aZ B (Q.take<|k+1)=aZ B (Q.take k)+B^k*y) (hd:d+cy+y=x+B*b):
  aZ B ((os.set k d).take<|k+1)+aZ B (Q.take<|k+1)=aZ B (P.take<|k+1)+B^(k+1)*b:=by rw [ji B os k _ hk,hP,hQ,Nat.pow_succ,Nat.mul_assoc];grind
def Dc(B:Nat){x:Nat}(h:xs[k]?=some x):aZ B (xs.drop k)=x+B*aZ B (xs.drop<|k+1):=by obtain⟨hk,rfl⟩:=acf.1 h;rw [List.drop_eq_getElem_cons hk];rfl
def Eu(B:Nat)(xs:List Nat)(k d:Nat)(h:k<xs.length):aZ B ((xs.set k d).drop k)=d+B*aZ B (xs.drop<|k+1):=by rw [Dc B (xs:=xs.set k d) (x:=d) ψ,List.drop_set_of_lt Z]
def Fh{B v r x q t s:Nat}(hj:j<os.length)(hx:xs[j]?=some x)(hv:aZ B (xs.drop<|j+1)=v*aZ B (os.drop<|j+1)+r) 
  (hs:s=r*B+x) (hq:v*q+t=s):aZ B (xs.drop j)=v*aZ B ((os.set j q).drop j)+t:=by rw [Dc B hx,Eu B os j q hj,hv];grind
def Ht(B:Nat){x:Nat}(h:xs[k]?=some x)(d:Nat):aZ B (xs.set k d)+B^k*x=aZ B xs+B^k*d:=by obtain⟨hk,rfl⟩:=acf.1 h;rw [sD B xs (k+1) hk,sD B (xs.set k d) (k+1) ψ,ji B xs k d hk,lQ B xs k hk,List.drop_set_of_lt Z];omega
def ahg{B S kk o x t hi:Nat}{P:List Nat}(ho:os[k+kk]?=some o)(h0:os[k+kk+1]?=some 0)(hv:aZ B os=B^kk*(S*aZ B (P.take k))) 
  (hP:P[k]?=some x) (ht:t+B*hi=o+x*S):
  aZ B ((os.set (k+kk) t).set (k+kk+1) hi)=B^kk*(S*aZ B (P.take<|k+1)):=by have h1:=Ht B ho t;have h2:=Ht B (xs:=os.set (k+kk) t) (k:=k+kk+1) (x:=0) (by rw [List.getElem?_set_ne Z];exact h0) hi;rw [Nat.mul_zero,Nat.add_zero,Nat.pow_succ,Nat.mul_assoc] at h2;have h3:B^(k+kk)*(t+B*hi)=B^(k+kk)*(o+x*S):=(by rw [ht]);rw [Nat.mul_add,Nat.mul_add] at h3;have h4:B^kk*(S*(aZ B (P.take k)+B^k*x))=B^kk*(S*aZ B (P.take k))+B^(k+kk)*(x*S):=ψ;rw [bT B hP,h4];omega
def WB{B S d0 x y q:Nat}{D:List Nat}(hk:k<os.length)(hv:S*aZ B (os.take k)+d0=aZ B (D.take k)+B^k*(D.getD k 0%S)) 
  (hx:D[k]?=some x) (hy:D.getD (k+1) 0=y) (hq:S*q+x%S=x+B*(y%S)):
  S*aZ B ((os.set k q).take<|k+1)+d0=aZ B (D.take<|k+1)+B^(k+1)*(D.getD (k+1) 0%S):=by
 have hg:D.getD k 0=x:=by simp_all
 rw [hg] at hv;rw [ji B os k q hk,bT B hx,hy,Nat.pow_succ,Nat.mul_assoc];grind
def acD(B:Nat)(os:List Nat)(d:Nat):aZ B (os++[d])=aZ B os+B^os.length*d:=by rw [kV];rfl
def Jq{B c x c0:Nat}(hl:os.length=k)(hv:aZ B os+B^k*c=aZ B (xs.take k)*m+c0)(hx:aZ B (xs.take<|k+1)=aZ B (xs.take k)+B^k*x):
  aZ B (os++[(c+x*m)%B])+B^(k+1)*((c+x*m)/B)=aZ B (xs.take<|k+1)*m+c0:=by rw [acD,hl,hx];have h1:=NS B k<|c+x*m;grind
abbrev dF:Nat:=4294967296
abbrev B4:Nat:=10000
def sF:2<=dF:=φ
def ED:2<=B4:=φ
def val(xs:List Nat):Nat:=aZ dF xs
def dS(n:Nat):List Nat:=qG dF n
def eF(n:Nat):val (dS n)=n:=yS sF n
def Gz(n:Nat):∀x∈dS n,x<dF:=F7 sF n
def Yc:dS 0=[]:=rfl
def uP:dS n=[]↔n=0:=BL sF
def yI(h:n<dF^k):(dS n).length<=k:=vP sF h
def Nk(h:m<=n):(dS m).length<=(dS n).length:=yw sF h
def Ue(h:∀x∈xs,x<dF):val xs<dF^xs.length:=sK h
def abz(xs:List Nat)(h:∀x∈xs,x<dF):xs.take (yj xs xs.length)=dS (val xs):=U4 sF xs h
def xM(h:(dS m).length<(dS n).length):m<n:=by rcases ahZ m n with h1|h1;omega;have:=Nk h1;omega
def qh(xs:List Nat):Nat:=aZ B4 xs
def cO(n:Nat):List Nat:=qG B4 n
def iG(n:Nat):qh (cO n)=n:=yS ED n
def yu(n:Nat):∀x∈cO n,x<B4:=F7 ED n
def F6:cO n=[]↔n=0:=BL ED
def y9(h:m<=n):(cO m).length<=(cO n).length:=yw ED h
def BK(h:n<B4^k):(cO n).length<=k:=vP ED h
def KT(h:∀x∈xs,x<B4):qh xs<B4^xs.length:=sK h
def Ee(h:(cO m).length<(cO n).length):m<n:=by rcases ahZ m n with h1|h1;omega;have:=y9 h1;omega
def aby(xs:List Nat)(h:∀x∈xs,x<B4):xs.take (yj xs xs.length)=cO (qh xs):=U4 ED xs h
def Ij(h:n≠0):cO n=n%B4::cO (n/B4):=sU ED h
def ab4(h:n≠0):dS n=n%dF::dS (n/dF):=sU sF h
def bJ(h:p):Hid p:=h
def kZ{k:IntKind}{a b:Int}(h:a=b):Ending.returned (.int k a)=.returned (.int k b):=by rw [h]
def qw{a b c:World}(h:Below a.heap.size a b)(k:Below b.heap.size b c):Below a.heap.size a c:=h.trans<|k.mono h.size
def lH{B:Nat}{a:World}(h:Below B a w)(n:Nat):Below B a<|w.drewN n:=h.trans ⟨O,O,O,aav _,λ_ _=>rfl⟩
def lT(n:Int):IntKind.u64.wrap n=n%18446744073709551616:=by rfl
def Df(n:Int):IntKind.u32.wrap n=n%4294967296:=by rfl
def WY(n:Nat)(h:n<18446744073709551616):IntKind.u64.wrap (n:Int)=n:=by rw [lT];omega
def SL(r x:Nat)(hr:r<4294967296)(hx:x<4294967296):bits BinOp.or IntKind.u64 ((r:Int)*4294967296) (x:Int)=((r*4294967296+x:Nat):Int):=by have h:=bits_or_u64_nat (r*4294967296) x Z Z;have h2:=Nat.two_pow_add_eq_or_of_lt (i:=32) Z r;grind
def acG(n:Int)(h0:0<=n)(h1:n<2^32):IntKind.u32.wrap n=n:=by rw [Df];omega
def acr(x ss o:Nat)(hx:x<4294967296)(hs:ss<32)(ho:o<2^ss):∃v t hi:Nat,IntKind.u64.wrap ((x:Int)*2^ss)=(v:Int)/\(v:Int)/4294967296=(hi:Int)/\
  bits BinOp.or IntKind.u32 (o:Int) ((v:Int)%4294967296)=(t:Int)/\t<4294967296/\hi<4294967296/\hi<2^ss/\v<18446744073709551616/\t+4294967296*hi=o+x*2^ss:=by have hp:2^ss<=2147483648:=acC (i:=ss) (j:=31) φ Z;have hpos:=ae1 ss;have hv:x*2^ss<4294967296*2^ss:=ah2 hx hpos;have hsplit:2^(32-ss)*2^ss=4294967296:=aFG;have hlo:(x*2^ss)%4294967296=2^ss*(x%2^(32-ss)):=(by rw [<-hsplit,Nat.mul_mod_mul_right,Nat.mul_comm]);have hc:x%2^(32-ss)+1<=2^(32-ss):=Z;have hlt:2^ss*(x%2^(32-ss))+2^ss<=4294967296:=(by have:=acM (2^ss) hc;grind);have hor:=Nat.two_pow_add_eq_or_of_lt ho<|x%2^(32-ss);have hdiv:x*2^ss/4294967296<2^ss:=ahR hv;have hcast:((x*2^ss:Nat):Int)=(x:Int)*2^ss:=aD3;have hob:=(bits_nat .u32 32 φ acG o (x*2^ss%4294967296) Z Z).2;rw [hlo,Nat.or_comm,<-hor] at hob;refine⟨x*2^ss,2^ss*(x%2^(32-ss))+o,x*2^ss/4294967296,?_,O,?_,by omega,by omega,hdiv,by omega,?_⟩;rw [<-hcast];exact WY _ Z;grind;omega
def acs(x y ss:Nat)(hx:x<4294967296)(hy:y<4294967296)(hs:ss<32):∃q:Nat,bits BinOp.or IntKind.u64 (x:Int) ((y:Int)*4294967296)/2^ss%4294967296=(q:Int)/\q<4294967296/\
  2^ss*q+x%2^ss=x+dF*(y%2^ss):=by have hpos:=ae1 ss;have hsplit:2^(32-ss)*2^ss=4294967296:=aFG;have hor:=bits_or_u64_nat x (y*4294967296) Z Z;have h2:=Nat.two_pow_add_eq_or_of_lt (i:=32) (show x<2^32 from hx) y;rw [Nat.mul_comm,show(2:Nat)^32=4294967296 from O,Nat.or_comm] at h2;rw [<-h2] at hor;have hcast:((y*4294967296:Nat):Int)=(y:Int)*4294967296:=Z;rw [hcast] at hor;rw [hor];generalize hS:2^ss=S at *;generalize hT:2^(32-ss)=T at *;have hTpos:0<T:=ψ;have hdiv:(y*4294967296+x)/S=x/S+T*y:=(by rw [<-hsplit,Nat.add_comm,show y*(T*S)=S*(T*y) by grind,Nat.add_mul_div_left _ _ hpos]);have hxS:x/S<T:=(by rw [Nat.div_lt_iff_lt_mul hpos,hsplit];omega);have hyS:y%S<S:=acP _ hpos;have hlt:x/S+T*(y%S)<4294967296:=(by have:=acM T (show y%S+1<=S from hyS);grind);have hmod:(x/S+T*y)%4294967296=x/S+T*(y%S):=(by have h3:x/S+T*y=x/S+T*(y%S)+4294967296*(y/S):=(by rw [<-hsplit];have:=ajz y S;grind);simp_all);refine⟨x/S+T*(y%S),?_,hlt,?_⟩;grind;have h5:=ajz x S;grind
def YB(x ss:Nat)(hx:x<4294967296):∃q:Nat,(x:Int)/2^ss%4294967296=(q:Int)/\q<4294967296/\2^ss*q+x%2^ss=x+dF*(0%2^ss):=by have hlt:x/2^ss<=x:=Nat.div_le_self _ _;refine⟨x/2^ss,?_,by omega,?_⟩;grind;rw [Nat.zero_mod,Nat.mul_zero];have:=ajz x<|2^ss;omega
def ahs(x cy y:Nat)(hx:x<4294967296)(hc:cy<=1)(hy:y<4294967296):∃d b:Nat,d<dF/\b<=1/\IntKind.u64.wrap (IntKind.u64.wrap ((x:Int)-cy)-y)/9223372036854775808=(b:Int)/\
  IntKind.u64.wrap (IntKind.u64.wrap ((x:Int)-cy)-y)%4294967296=(d:Int)/\d+cy+y=x+dF*b:=by rw [lT,lT];by_cases h:cy+y<=x;exact⟨x-cy-y,0,by grind,by omega,by omega,by omega,by omega⟩;exact⟨x+4294967296-cy-y,1,by grind,by omega,by omega,by omega,by grind⟩
def acy(x lo bw:Nat)(hx:x<4294967296)(hl:lo<4294967296)(hb:bw<=1):∃d b:Nat,d<dF/\b<=1/\IntKind.u64.wrap (IntKind.u64.wrap ((x:Int)-lo)-bw)/9223372036854775808=(b:Int)/\
  IntKind.u64.wrap (IntKind.u64.wrap ((x:Int)-lo)-bw)%4294967296=(d:Int)/\d+lo+bw=x+dF*b:=by rw [lT,lT];by_cases h:lo+bw<=x;exact⟨x-lo-bw,0,by grind,by omega,by omega,by omega,by omega⟩;exact⟨x+4294967296-lo-bw,1,by grind,by omega,by omega,by omega,by grind⟩
def WT(x cy bw:Nat)(hx:x<4294967296)(h:cy+bw<=x):IntKind.u64.wrap (IntKind.u64.wrap ((x:Int)-cy)-bw)=((x-cy-bw:Nat):Int):=by rw [lT,lT];omega
def Uc(x cy bw:Nat)(hx:x<4294967296)(hc:cy<4294967296)(hb:bw<=1)(h:x<cy+bw):∃t tl:Nat,IntKind.u64.wrap (IntKind.u64.wrap ((x:Int)-cy)-bw)=(t:Int)/\(t:Int)/9223372036854775808=1/\
  (t:Int)%4294967296=(tl:Int)/\tl<4294967296/\tl+cy+bw=x+4294967296:=by refine⟨18446744073709551616+x-cy-bw,x+4294967296-cy-bw,?_,by omega,by omega,by omega,by omega⟩;rw [lT,lT];omega
def acw(x cy:Nat)(hx:x<4294967296)(hc:cy<=1):∃d b:Nat,d<dF/\b<=1/\IntKind.u64.wrap ((x:Int)-cy)/9223372036854775808=(b:Int)/\
  IntKind.u64.wrap ((x:Int)-cy)%4294967296=(d:Int)/\d+cy+0=x+dF*b:=by rw [lT];by_cases h:cy<=x;exact⟨x-cy,0,by grind,by omega,by omega,by omega,by omega⟩;exact⟨x+4294967296-cy,1,by grind,by omega,by omega,by omega,by grind⟩
def qC(w:World)(ao:Option Addr)(vs:List Value):Prop:=
 vs=[]\/∃b off,ao=some ⟨b,off,none⟩/\∀j (h:j<vs.length),w.cell? ⟨b,off+j,none⟩=some vs[j]
def qC.ext{vs:List Value}(h:qC w ao vs)(he:Below w.heap.size w w'):qC w' ao vs:=by rcases h with h|⟨b,off,rfl,h⟩;exact azR;refine Or.inr ⟨b,off,O,λj hj=>?_⟩;have:=h j hj;rw [he.cell<|World.block_lt_of_cell? w _ this];omega
def gU(k:IntKind)(xs:List Nat):List Value:=xs.map λx:Nat=>Value.int k (x:Int)
def dK(k:IntKind)(xs:List Nat):(gU k xs).length=xs.length:=by simp [gU]
def vV(k:IntKind)(xs:List Nat)(j:Nat)(h:j<(gU k xs).length):(gU k xs)[j]=Value.int k ((xs[j]'(by simpa [gU] using h):Nat):Int):=by simp [gU]
def MS(k:IntKind)(xs:List Nat):∀u∈gU k xs,u.oneCell'=true:=by intro u hu;obtain⟨_,_,rfl⟩:=List.mem_map.1 hu;rfl
def Rw(k:IntKind)(B:Nat)(w:World)(ao:Option Addr)(n c:Nat)(xs:List Nat):Prop:=
 xs.length=n/\n<=c/\(ao=none->c=0)/\(∀x∈xs,x<B)/\qC w ao (gU k xs)
section
variable {k:IntKind} {B:Nat} {w w':World} {ao:Option Addr} {n c:Nat} {xs:List Nat}
def Rw.len(h:Rw k B w ao n c xs):xs.length=n:=h.1
def Rw.le(h:Rw k B w ao n c xs):n<=c:=h.2.1
def Rw.lt(h:Rw k B w ao n c xs):∀x∈xs,x<B:=h.2.2.2.1
def Rw.cells(h:Rw k B w ao n c xs):qC w ao<|gU k xs:=h.2.2.2.2
def Rw.ext(h:Rw k B w ao n c xs)(he:Below w.heap.size w w'):Rw k B w' ao n c xs:=⟨h.1,h.2.1,h.2.2.1,h.2.2.2.1,h.2.2.2.2.ext he⟩
def Rw.nil(k:IntKind)(B:Nat)(w:World):Rw k B w none 0 0 []:=⟨O,aav _,λ_=>rfl,by simp,Or.inl O⟩
def Rw.at(h:Rw k B w ao n c xs)(hj:j<n):∃b off x,ao=some ⟨b,off,none⟩/\xs[j]?=some x/\x<B/\w.cell? ⟨b,off+j,none⟩=some (.int k (x:Int)):=by have⟨hl,_,_,hB,hc⟩:=h;subst hl;rcases hc with hc|⟨b,off,rfl,hc⟩;simp [gU] at hc;simp_all;refine⟨b,off,xs[j],O,by simp [hj],hB _ (alS _),?_⟩;have:=hc j aEh;rwa [vV] at this
def Rw.cell(h:Rw k B w (some ⟨b,off,none⟩) n c xs)(hj:j<n):∃x,xs[j]?=some x/\x<B/\w.cell? ⟨b,off+j,none⟩=some (.int k (x:Int)):=by have⟨b',off',x,he,h1,h2,h3⟩:=h.at hj;simp_all
def Rw.take(h:Rw k B w ao n c xs)(hm:m<=n):Rw k B w ao m c<|xs.take m:=by have⟨hl,hc,hn,hB,hcs⟩:=h;refine⟨by simp;omega,by omega,hn,λx hx=>hB x (aja hx),?_⟩;rcases hcs with hcs|⟨b,off,rfl,hcs⟩;simp [gU] at hcs;subst hcs;exact Or.inl (by simp [gU]);refine Or.inr ⟨b,off,O,λj hj=>?_⟩;have hj':j<xs.length:=(by simp [gU] at hj;omega);have:=hcs j (by simpa [gU] using hj');rw [vV] at this ⊢;simp_all
def Rw.same(h:Rw k B w (some ⟨b,off,none⟩) n c xs)(hb:w'.heap[b]?=w.heap[b]?):Rw k B w' (some ⟨b,off,none⟩) n c xs:=by refine⟨h.1,h.2.1,h.2.2.1,h.2.2.2.1,?_⟩;rcases h.2.2.2.2 with hc|⟨b',off',he,hc⟩;exact Or.inl hc;cases he;refine Or.inr ⟨b,off,O,λj hj=>?_⟩;rw [World.cell?_of_block hb];simp_all
end
def xE(base:Nat)(w:World)(ao:Option Addr)(c:Nat):Prop:=
 c=0\/∃b off cs e,ao=some ⟨b,off,none⟩/\base<=b/\w.heap[b]?=some (.cells cs e (0,0))/\off+c<=cs.size/\c<=9223372036854775807
def xE.nil(base:Nat)(w:World)(ao:Option Addr):xE base w ao 0:=Or.inl O
def xE.ext{c:Nat}(h:xE base w ao c)(he:Below w.heap.size w w'):xE base w' ao c:=by rcases h with h|⟨b,off,cs,e,rfl,hb,hh,hs⟩;exact azR;exact Or.inr ⟨b,off,cs,e,O,hb,by rw [he.block b ψ];omega,hs⟩
def xE.mono{base':Nat}{c:Nat}(h:xE base w ao c)(hb:base'<=base):xE base' w ao c:=by rcases h with h|⟨b,off,cs,e,rfl,hb',hh,hs⟩;exact azR;exact Or.inr ⟨b,off,cs,e,O,by omega,hh,hs⟩
def Rw.grown{k:IntKind}{B:Nat}{c:Nat}{row:Option Nat}(h:Rw k B w ao n c xs)(ho:xE base w ao c)(hg:w.grownBy w' row)(hrow:∀j,row=some j->j<base):Rw k B w' ao n c xs:=by have⟨h1,h2,h3,h4,h5⟩:=h;refine⟨h1,h2,h3,h4,?_⟩;rcases ho with ho|⟨b,off,cs,e,rfl,hb,hh,hs⟩;refine Or.inl ?_;have:xs=[]:=acO Z;rw [this];rfl;rcases h5 with h5|⟨b',off',he,h5⟩;exact Or.inl h5;cases he;refine Or.inr ⟨b,off,O,λj hj=>?_⟩;rw [World.cell?_of_block<|hg.block b ψ ψ];simp_all
def abQ(w:World)(g i:Nat)(v:Value):w.grownBy (w.setCell ⟨g,i,none⟩ v)<|some g:=
 ⟨O,O,O,by simp,λk _ hne=>heap_setCell_other w _ k v ψ⟩
def Rw.ag9{k:IntKind}{B:Nat}{c:Nat}(h:Rw k B w ao n c xs)(ho:xE base w ao c)(hg:g<base):Rw k B (w.setCell ⟨g,i,none⟩ v) ao n c xs:=
 h.grown ho (abQ w g i v) ψ
def ou(w:World)(b:Nat)(e:TypeId)(vs:List Value):Prop:=w.heap[b]?=some (.cells vs.toArray e (0,0))
section
variable {w w':World} {b:Nat} {e:TypeId} {vs:List Value}
def ou.lt(h:ou w b e vs):b<w.heap.size:=lt_of_block h
def ou.cell(h:ou w b e vs)(j:Nat)(hj:j<vs.length):w.cell? ⟨b,j,none⟩=some vs[j]:=by rw [cell_of_row w b j _ e (0,0) h];simp [hj]
def ou.free(h:ou w b e vs)(j:Nat):w.frozen? ⟨b,j,none⟩=false:=frozen_of_row w b j _ e h
def ou.ext(h:ou w b e vs)(he:Below w.heap.size w w'):ou w' b e vs:=by unfold ou;rw [he.block b h.lt];exact h
def ou.set(h:ou w b e vs)(j:Nat)(v:Value):ou (w.setCell ⟨b,j,none⟩ v) b e<|vs.set j v:=by unfold ou;rw [heap_setCell_same w b j _ e v h];simp
def ou.other(h:ou w b e vs){a:Addr}(hne:b≠a.block)(v:Value):ou (w.setCell a v) b e vs:=by unfold ou;rw [heap_setCell_other w a b v hne];exact h
def ou.drew(h:ou w b e vs):ou w.drew b e vs:=h
def ou.new(w:World)(e:TypeId)(vs:List Value):ou (w.alloc<|.cells vs.toArray e) w.heap.size e vs:=heap_alloc_new w _
def ou.rw{k:IntKind}{B:Nat}(h:ou w b e<|gU k xs)(hB:∀x∈xs,x<B):Rw k B w (some ⟨b,0,none⟩) xs.length xs.length xs:=by refine⟨O,aav _,ψ,hB,Or.inr ⟨b,0,O,λj hj=>?_⟩⟩;rw [Nat.zero_add];exact h.cell j hj
def ou.own{base:Nat}(h:ou w b e vs)(hb:base<=b){n:Nat}(hn:n<=vs.length)(hmx:n<=9223372036854775807:=by omega):xE base w (some ⟨b,0,none⟩) n:=Or.inr ⟨b,0,_,e,O,hb,h,by simp_all,hmx⟩
end
def iV(k:IntKind)(xs:List Nat)(j d:Nat):(gU k xs).set j (.int k (d:Int))=gU k (xs.set j d):=by simp [gU]
def IC(k:IntKind)(xs:List Nat)(d:Nat):gU k xs++[Value.int k (d:Int)]=gU k (xs++[d]):=by simp [gU]
def SK(k:IntKind)(n:Int):∀u∈ [Value.int k n],u.oneCell'=true:=by intro u hu;rw [List.mem_singleton.1 hu];rfl
def Ce{B:Nat}(h:∀x∈xs,x<B)(hd:d<B):∀x∈xs++[d],x<B:=by grind
def gY(k:IntKind)(n:Nat):gU k (List.replicate n 0)=List.replicate n (.int k 0):=by simp [gU]
def qK{k:IntKind}{B:Nat}(h:w.ownsRow base e 1 v xs.length<|gU k xs)(hB:∀x∈xs,x<B):
  ∃ao c,v=.slice ao xs.length c/\Rw k B w ao xs.length c xs/\xE base w ao c:=by obtain⟨_,⟨rfl,h0⟩|⟨g,cap,cur,rfl,hb,hh,hn,hm,hs,ht⟩⟩:=h;have:xs=[]:=acO h0;subst this;exact⟨none,0,O,Rw.nil k B w,xE.nil _ _ _⟩;refine⟨_,_,O,⟨O,hn,ψ,hB,Or.inr ⟨g,0,O,λj hj=>?_⟩⟩,Or.inr ⟨g,0,cur,e,O,hb,hh,by omega,hm⟩⟩;rw [Nat.zero_add,cell_of_row w g j cur e (0,0) hh,<-Array.getElem?_toList];have hj':j<xs.length:=aEh;have h1:(cur.toList.take<|xs.length*1)[j]?=some ((gU k xs)[j]):=(by rw [ht];simp [hj]);rw [List.getElem?_take] at h1;rwa [if_pos Z] at h1
def aaq(w:World) 
  (hg:o.guard=none) (l c:Operand) (t:TypeId) (hop:o.op=Op.makeSlice t l c)
  (e:TypeId) (z:Value) (bytes:Nat) (h1:P.underlying t=some (.slice e)) (h2:(P.info? e).map (λi=>(i.zero,i.size,i.bytes))=some (some z,1,bytes)) (hz:z.cells=#[z])
  (kl kc:IntKind) (L C:Int) (n:Nat) (hl:a.eval l=.int kl L) (hc:a.eval c=.int kc C) (hL:L=(n:Int)) (hC:C=(n:Int)) (b2:bytes*n<=281474976710656) (b3:n<=maxLen)
  (hK:∀w',ou w' w.heap.size e (List.replicate n z)->Below w.heap.size w w'->w.heap.size<w'.heap.size->wpList P ops Q rest (a.put o.dst<|.slice (some ⟨w.heap.size,0,none⟩) n n) w'):
  wpList P ops Q (o::rest) a w:=by have⟨i,hi,hz0,hz1,hz2⟩:=info_parts h2;refine wpList_make_full w hg l c t hop w.heap.size e i z 1 h1 hi hz0 hz1 kl kc L C n hl hc hL hC aCj b3 (aav _) λw' hown hgrow=>?_;have hbelow:Below w.heap.size w w':=(Below.refl _ _).grown hgrow (aav _) ψ;obtain⟨_,⟨hv,_⟩|⟨g,cap,cur,hv,hb,hh,hn,hm,hs,ht⟩⟩:=hown;grind;cases hv;have hcur:cur=(List.replicate n z).toArray:=(by have:cur.toList=(madeCells z.cells<|n*1).toList:=aDj;rw [Nat.mul_one,hz,toList_madeCells_one] at this;simp_all);refine hK w' ?_ hbelow ψ;unfold ou;simp_all
def wG(w:World)(hgd:o.guard=none)(s x:Operand)(t:TypeId) 
  (ho:o.op=.call {callee:=.builtin .append,args:=#[s,x],argTypes:=#[t,t]})
  (base:Nat) (e:TypeId) (z:Value) (size bytes:Nat) (ht:P.underlying t=some (.slice e)) (h2:(P.info? e).map (λi=>(i.zero,i.size,i.bytes))=some (some z,size,bytes)) (hzs:z.cells.size=size) (hsz:0<size)
  (v:Value) (n:Nat) (xs:List Value) (hs:a.eval s=v) (hown:w.ownsRow base e size v n xs)
  (ao:Option Addr) (m c:Nat) (news:List Value) (hx:a.eval x=.slice ao m c) (hl:news.length=m*size) (hnil:ao=none->c=0) (hmc:m<=c) (hsrc:qC w ao news) (h1:∀u∈news,u.oneCell'=true)
  (h63:n+m<=maxLen) (hbytes:(n+m)*bytes<=140737488355328) (hbase:base<=w.heap.size)
  (h:∀v' w',w'.ownsRow base e size v' (n+m) (xs++news)->w.grownBy w' v.ownBlock->Below base w w'->wpList P ops Q rest (a.put o.dst v') w'):wpList P ops Q (o::rest) a w:=by have⟨i,hi,hz0,hz1,hz2⟩:=info_parts h2;have hlt:=hown.lt;cases ao with|none=>have hc0:=hnil rfl;subst hc0;have hm:m=0:=Z;subst hm;have hn:news=[]:=ψ;subst hn;refine wpList_plain hgd λK hK=>?_;have hrun:=run_append_owned_none (P:=P) (w:=w) base t o.type e i size ht hi v n xs hown;unfold Oper.wp;simp [execOp,ho,resolve,invoke,builtin,hs,hx,hrun,Result.andThen];exact hK _ _ (h v w aCj (World.grownBy.refl _ _)<|Below.refl _ _)|some ad=>(refine wpList_append_own w hgd s x t ho base e i z size bytes ht hi hz0 hz1 hz2 hzs hsz v n xs hs hown ad m c news hx hl ?_ h1 h63 hbytes hbase λv' w' hown' hgrow _=>?_;intro j u hu;rcases hsrc with hsrc|⟨b,off,he,hsrc⟩;simp_all;cases he;obtain⟨hj,rfl⟩:=acf.1 hu;rw [Addr.add_lit];grind;exact h v' w' hown' hgrow<|(Below.refl _ _).grown hgrow hbase ψ)
def EI(w:World)(x:Value)(t:TypeId):qC (w.alloc<|.cells #[x] t) (some ⟨w.heap.size,0,none⟩) [x]:=by
 refine Or.inr ⟨_,_,O,λj hj=>?_⟩;obtain rfl:j=0:=by simp_all
 rw [World.cell?_alloc_new];rfl
def acF(hgd:o.guard=none)(d s:Operand)(dT sT:TypeId) 
  (ho:o.op=.call {callee:=.builtin .copy,args:=#[d,s],argTypes:=#[dT,sT]}) (elem:TypeId) (hu:P.underlying dT=some (.slice elem)) (hsz:(P.info? elem).map (·.size)=some 1)
  (g off dLen dCap:Nat) (sp:Option Addr) (sLen sCap:Nat) (hd:a.eval d=.slice (some ⟨g,off,none⟩) dLen dCap) (hs:a.eval s=.slice sp sLen sCap)
  (cur:List Value) (t:TypeId) (hb:ou w g t cur) (cs:List Value) (hn:cs.length=Nat.min sLen dLen) (hsrc:qC w sp cs) (hfit:off+cs.length<=cur.length) (h1:∀v∈cs,v.oneCell'=true)
  (B:Nat) (hBg:B<=g) (h:∀w',ou w' g t (splice cur off cs)->Below B w w'->wpList P ops Q rest (a.put o.dst<|goInt cs.length) w'):wpList P ops Q (o::rest) a w:=by refine wpList_copy_splice hgd d s dT sT ho elem hu hsz _ sp dLen dCap sLen sCap hd hs g off cur t hb cs hn (λhpos=>⟨O,?_⟩) hfit h1 B w (Below.refl _ _) hBg aCy;rcases hsrc with hsrc|⟨b,o2,rfl,hsrc⟩;simp_all;refine⟨_,O,λj v hj=>?_⟩;obtain⟨hlt,rfl⟩:=acf.1 hj;rw [Addr.add_lit];grind
abbrev BS:=Nat->Prop
variable {B B0 B':BS}
structure nH(B:BS)(w w':World):Prop where
 size:w.heap.size<=w'.heap.size
 blk:∀b,b<w.heap.size->¬B b->w'.heap[b]?=w.heap[b]?
def nH.cell(h:nH B w w'){a:Addr}(hc:w.cell? a=some v)(hb:¬B a.block):w'.cell? a=some v:=
 (World.cell?_of_block<|h.blk a.block (World.block_lt_of_cell? w a hc) hb).trans hc
def nH.of_below(h:Below w.heap.size w w'):nH B w w':=⟨h.size,λb hb _=>h.block b hb⟩
structure Sm where
 p:BS->World->Value->Prop
 one:∀B w v,p B w v->v.oneCell'=true
 mv:∀(B B':BS) (w w':World) (v:Value),p B w v->nH B w w'->(∀b,b<w.heap.size->B' b->B b)->p B' w' v
inductive Lf where
 |v (x:Value)
 |sm (S:Sm)
 |ln (n:Nat) (S:Sm)
 |a (sz n:Nat) (el:Nat->Nat->Lf)
 |at (n:Nat) (cs:Nat->Lf)
 |fn (f:FuncId) (n:Nat) (caps:Nat->Lf)
variable {el el2:Nat->Nat->Lf}
def fP(B:BS)(w:World):Lf->Value->Prop
 |.v x,c=>c=x/\x.oneCell'=true
 |.sm S,c=>S.p B w c
 |.ln n S,c=>S.p B w c/\∃a cap,c=.slice a n cap
 |.a sz n el,c=>∃a cap,c=.slice a n cap/\n<=cap/\(a=none->cap=0)/\∀i,i<n->∃b off,a=some ⟨b,off,none⟩/\¬B b/\b<w.heap.size/\∀j,j<sz->∃x,w.cell? ⟨b,off+i*sz+j,none⟩=some x/\fP B w (el i j) x
 |.at n cs,c=>∃b off,c=.pointer (some ⟨b,off,none⟩)/\¬B b/\b<w.heap.size/\∀j,j<n->∃x,w.cell? ⟨b,off+j,none⟩=some x/\fP B w (cs j) x
 |.fn f n caps,c=>∃vs:Array Value,c=.func (.func f) #[] vs/\vs.size=n/\∀j,j<n->∃x,vs[j]?=some x/\fP B w (caps j) x
def fP.one:∀{l:Lf}{c:Value},fP B w l c->c.oneCell'=true
 |.v x,c,h=>by obtain⟨rfl,h⟩:=h;exact h
 |.sm S,c,h=>S.one _ _ _ h
 |.ln n S,c,h=>S.one _ _ _ h.1
 |.a sz n el,c,h=>by obtain⟨a,cap,rfl,_⟩:=h;rfl
 |.at n cs,c,h=>by obtain⟨b,off,rfl,_⟩:=h;rfl
 |.fn f n caps,c,h=>by obtain⟨vs,rfl,_⟩:=h;rfl
def fP.mv(hk:nH B w w')(hB:∀b,b<w.heap.size->B' b->B b)(l:Lf):∀{c:Value},fP B w l c->fP B' w' l c:=by induction l with|v x=>intro c h;exact h|sm S=>intro c h;exact S.mv _ _ _ _ _ h hk hB|ln n S=>intro c h;exact⟨S.mv _ _ _ _ _ h.1 hk hB,h.2⟩|a sz n el ih=>rintro c ⟨a,cap,rfl,hn,ha,h⟩;refine⟨a,cap,O,hn,ha,λi hi=>?_⟩;obtain⟨b,off,rfl,hb,hlt,hj⟩:=h i hi;refine⟨b,off,O,λhb'=>hb ψ,acI hlt hk.size,λj hjs=>?_⟩;have⟨x,hx,hl⟩:=hj j hjs;exact⟨x,hk.cell hx hb,ih i j hl⟩|«at» n cs ih=>rintro c ⟨b,off,rfl,hb,hlt,hj⟩;refine⟨b,off,O,λhb'=>hb ψ,acI hlt hk.size,λj hjs=>?_⟩;have⟨x,hx,hl⟩:=hj j hjs;exact⟨x,hk.cell hx hb,ih j hl⟩|fn f n caps ih=>rintro c ⟨vs,rfl,hs,hj⟩;refine⟨vs,O,hs,λj hjs=>?_⟩;simp_all
def jg(B:BS)(w:World):List Lf->List Value->Prop
 |[],[]=>True
 |l::ls,c::cs=>fP B w l c/\jg B w ls cs
 |_,_=>False
def jg.len:∀{ls:List Lf}{cs:List Value},jg B w ls cs->ls.length=cs.length
 |[],[],_=>rfl
 |_::_,_::_,h=>ah9 (· +1)<|jg.len h.2
def jg.get:∀{ls:List Lf}{cs:List Value},jg B w ls cs->∀{j:Nat}{l:Lf},ls[j]?=some l->∃c,cs[j]?=some c/\fP B w l c
 |[],[],_,j,l,h=>by simp at h
 |l::ls,c::cs,h,0,l',h'=>by
  obtain rfl:l=l':=by simp_all
  exact⟨c,O,h.1⟩
 |l::ls,c::cs,h,j+1,l',h'=>by
  have⟨x,hx,hl⟩:=jg.get h.2 (j:=j) (l:=l') aCy;simp_all
def jg.mk:∀{ls:List Lf}{cs:List Value},ls.length=cs.length->(∀(j:Nat) (l:Lf) (c:Value),ls[j]?=some l->cs[j]?=some c->fP B w l c)->jg B w ls cs
 |[],[],_,_=>trivial
 |[],_::_,h,_=>by simp at h
 |_::_,[],h,_=>by simp at h
 |l::ls,c::cs,h,hj=>⟨hj 0 l c O O,jg.mk aCj λj l' c' h1 h2=>hj (j+1) l' c' aCy aCy⟩
def jg.mv(hk:nH B w w')(hB:∀b,b<w.heap.size->B' b->B b):∀{ls:List Lf}{cs:List Value},jg B w ls cs->jg B' w' ls cs
 |[],[],_=>trivial
 |_::_,_::_,h=>⟨fP.mv hk hB _ h.1,jg.mv hk hB h.2⟩
def jg.one:∀{ls:List Lf}{cs:List Value},jg B w ls cs->∀c∈cs,c.oneCell'=true
 |[],[],_,c,hc=>by simp at hc
 |_::_,_::_,h,c,hc=>by
  rcases afu.1 hc with rfl|hc
  ·exact h.1.one
  ·exact jg.one h.2 c hc
def jg.take:∀(n:Nat) {ls:List Lf}{cs:List Value},jg B w ls cs->jg B w (ls.take n) (cs.take n)
 |0,_,_,_=>trivial
 |n+1,[],[],_=>trivial
 |n+1,_::_,_::_,h=>⟨h.1,jg.take n h.2⟩
def jg.drop:∀(n:Nat) {ls:List Lf}{cs:List Value},jg B w ls cs->jg B w (ls.drop n) (cs.drop n)
 |0,_,_,h=>h
 |n+1,[],[],_=>trivial
 |n+1,_::_,_::_,h=>jg.drop n h.2
def jg.app:∀{ls ms:List Lf}{cs ds:List Value},jg B w ls cs->jg B w ms ds->jg B w (ls++ms) (cs++ds)
 |[],_,[],_,_,k=>k
 |_::_,_,_::_,_,h,k=>⟨h.1,jg.app h.2 k⟩
def jg.vs:∀{cs:List Value},(∀c∈cs,c.oneCell'=true)->jg B w (cs.map Lf.v) cs
 |[],_=>trivial
 |c::cs,h=>⟨⟨O,h c aCY⟩,jg.vs λd hd=>h d<|by simp [hd]⟩
inductive DV where
 |o (l:Lf)
 |j (ls:List Lf)
def DV.cells:DV->List Lf
 |.o l=>[l]
 |.j ls=>ls
def DR(B:BS)(w:World):DV->Value->Prop
 |.o l,c=>fP B w l c
 |.j ls,c=>∃cs:List Value,c=.agg cs.toArray/\jg B w ls cs
def DR.mv(hk:nH B w w')(hB:∀b,b<w.heap.size->B' b->B b):∀{d:DV}{c:Value},DR B w d c->DR B' w' d c
 |.o l,_,h=>fP.mv hk hB l h
 |.j _,_,⟨cs,e,h⟩=>⟨cs,e,h.mv hk hB⟩
def DR.cells:∀{d:DV}{c:Value},DR B w d c->∃cs:List Value,c.cells=cs.toArray/\jg B w d.cells cs
 |.o l,c,h=>⟨[c],by
   have:=h.one;cases c <;> first|rfl|exact absurd this Bool.noConfusion,h,Pe⟩
 |.j ls,c,⟨cs,e,h⟩=>⟨cs,by rw [e];rfl,h⟩
def DY(B:BS)(w:World):List DV->List Value->Prop
 |[],[]=>True
 |l::ls,c::cs=>DR B w l c/\DY B w ls cs
 |_,_=>False
def DY.len:∀{ls:List DV}{cs:List Value},DY B w ls cs->ls.length=cs.length
 |[],[],_=>rfl
 |_::_,_::_,h=>ah9 (· +1)<|DY.len h.2
def DY.get:∀{ls:List DV}{cs:List Value},DY B w ls cs->∀{j:Nat}{l:DV},ls[j]?=some l->∃c,cs[j]?=some c/\DR B w l c
 |[],[],_,j,l,h=>by simp at h
 |l::ls,c::cs,h,0,l',h'=>by
  obtain rfl:l=l':=by simp_all
  exact⟨c,O,h.1⟩
 |l::ls,c::cs,h,j+1,l',h'=>by
  have⟨x,hx,hl⟩:=DY.get h.2 (j:=j) (l:=l') aCy;simp_all
def DY.mv(hk:nH B w w')(hB:∀b,b<w.heap.size->B' b->B b):∀{ls:List DV}{cs:List Value},DY B w ls cs->DY B' w' ls cs
 |[],[],_=>trivial
 |_::_,_::_,h=>⟨h.1.mv hk hB,DY.mv hk hB h.2⟩
def kK:Value->Option Nat
 |.pointer (some a)=>some a.block
 |.slice (some a) _ _=>some a.block
 |.map (some g)=>some g
 |_=>none
inductive AV where
 |d (x:DV)
 |dY (xs:List DV)
 |p (id off:Nat)
 |q (id:Nat)
 |iL (id sz i j:Nat)
 |lim (id k:Nat)
 |fO (id:Nat) (xs:List DV)
 |w (id:Nat)
 |D
variable {sl:List (Nat×AV)}
abbrev lq:=Nat->Option Value
variable {ρ:lq}
def AR(ρ:lq)(B:BS)(w:World):AV->Value->Prop
 |.d x,c=>DR B w x c
 |.dY xs,c=>∃cs:List Value,c=.tuple cs.toArray/\DY B w xs cs
 |.p id off,c=>∃g,ρ id=some (.pointer<|some ⟨g,0,none⟩)/\c=.pointer (some ⟨g,off,none⟩)
 |.q id,c=>ρ id=some c/\∃a n cap,c=.slice a n cap
 |.iL id sz i j,c=>∃g n cap,ρ id=some (.slice (some ⟨g,0,none⟩) n cap)/\i<n/\c=.pointer (some ⟨g,i*sz+j,none⟩)
 |.lim id k,c=>k<=w.heap.size/\∃v,ρ id=some v/\∀b,kK v=some b->b<k
 |.fO id xs,c=>∃g,ρ id=some (.pointer<|some ⟨g,0,none⟩)/\∃cs:List Value,c=.tuple (.pointer (some ⟨g,0,none⟩)::cs).toArray/\DY B w xs cs
 |.w id,_=>∃v,ρ id=some v
 |.D,_=>True
def AV.on:AV->Nat->Bool
 |.p id _,k|.q id,k|.iL id _ _ _,k|.lim id _,k|.fO id _,k|.w id,k=>Nat.beq id k
 |_,_=>false
def AR.mv{ρ':lq}(hk:nH B w w')(hB:∀b,b<w.heap.size->B' b->B b):∀{av:AV}{c:Value},(∀k,av.on k=true->ρ' k=ρ k)->AR ρ B w av c->AR ρ' B' w' av c
 |.d x,_,_,h=>DR.mv hk hB h
 |.dY xs,_,_,⟨cs,e,h⟩=>⟨cs,e,h.mv hk hB⟩
 |.p id off,_,hρ,⟨g,h,e⟩=>⟨g,(hρ id aEB).trans h,e⟩
 |.q id,_,hρ,⟨h,e⟩=>⟨(hρ id aEB).trans h,e⟩
 |.iL id sz i j,_,hρ,⟨g,n,cap,h,e⟩=>⟨g,n,cap,(hρ id aEB).trans h,e⟩
 |.lim id k,_,hρ,⟨h1,v,h,e⟩=>⟨acL h1 hk.size,v,(hρ id aEB).trans h,e⟩
 |.fO id xs,_,hρ,⟨g,h,cs,e,h2⟩=>⟨g,(hρ id aEB).trans h,cs,e,h2.mv hk hB⟩
 |.w id,_,hρ,⟨v,h⟩=>⟨v,(hρ id aEB).trans h⟩
 |.D,_,_,_=>trivial
inductive AO where
 |b (t:TypeId) (cs:List Lf)
 |a (e:TypeId) (sz n:Nat) (el:Nat->Nat->Lf)
 |i (x:Value) (ob:AO)
 |sz (k:Nat)
 |mp (es:List (Value×Value))
variable {hp hp':List (Nat×AO)}{ob:AO}
structure Wz where
 w:World
 L:BS
variable {w0 z:Wz}
def Wz.sz(z:Wz):Nat:=z.w.heap.size
def Wz.own(z:Wz)(b:Nat):Prop:=z.sz<=b\/z.L b
structure Oi(z:Wz)(w:World):Prop where
 os:w.os=z.w.os
 tape:w.tape=z.w.tape
 output:w.output=z.w.output
 size:z.sz<=w.heap.size
 blk:∀b,b<z.sz->¬z.L b->w.heap[b]?=z.w.heap[b]?
def Oi.refl(w:World)(L:BS):Oi ⟨w,L⟩ w:=⟨O,O,O,aav _,λ_ _ _=>rfl⟩
def Oi.step(h:Oi z w)(k:Below w.heap.size w w'):Oi z w':=
 ⟨k.os.trans h.os,k.tape.trans h.tape,k.output.trans h.output,acL h.size k.size,λb hb hL=>(k.block b<|acI hb h.size).trans<|h.blk b hb hL⟩
def Oi.put(h:Oi z w)(h1:w'.os=w.os)(h2:w'.tape=w.tape)(h3:w'.output=w.output)(hs:w.heap.size<=w'.heap.size){g:Nat->Prop}(hg:∀b,g b->z.own b)(hb:∀b,b<w.heap.size->¬g b->w'.heap[b]?=w.heap[b]?):Oi z w':=
 ⟨h1.trans h.os,h2.trans h.tape,h3.trans h.output,acL h.size hs,λb hb1 hL=>(hb b (acI hb1 h.size)<|λk=>(hg b k).elim Z hL).trans<|h.blk b hb1 hL⟩
def Oi.below(h:Oi z w)(hL:∀b,¬z.L b):Below z.w.heap.size z.w w:=⟨h.os,h.tape,h.output,h.size,λb hb=>h.blk b hb<|hL b⟩
def owR(z:Wz)(w:World)(e:TypeId)(sz:Nat)(v:Value)(n:Nat)(xs:List Value):Prop:=w.ownsRow 0 e sz v n xs/\∀b,kK v=some b->z.own b
def OR(B:BS)(w0:Wz)(w:World):AO->Value->Prop
 |.b t cs,v=>∃g vs,v=.pointer (some ⟨g,0,none⟩)/\w0.own g/\ou w g t vs/\jg B w cs vs
 |.a e sz n el,v=>∃xs,owR w0 w e sz v n xs/\∀i j,i<n->j<sz->∃x,xs[i*sz+j]?=some x/\fP B w (el i j) x
 |.i x ob,v=>v=x/\OR B w0 w ob v
 |.sz k,v=>v=.bool true/\w0.sz<=k/\k<=w.heap.size
 |.mp es,v=>∃g uS clock,v=.map (some g)/\w0.own g/\w.heap[g]?=some (.map uS clock)/\uS.toList.map (λe=>(e.key,e.val))=es
def Ym{sz:Nat}{xs:List Value}(h:w.ownsRow base e sz v n xs)(hb:∀b,kK v=some b->w'.heap[b]?=w.heap[b]?):w'.ownsRow base e sz v n xs:=by obtain⟨h1,h2|⟨g,cap,cur,rfl,h3,h4,h5⟩⟩:=h;exact⟨h1,Or.inl h2⟩;exact⟨h1,Or.inr ⟨g,cap,cur,O,h3,(hb g O).trans h4,h5⟩⟩
def ap9{sz:Nat}{xs:List Value}(h:owR z w e sz v n xs)(hb:∀b,kK v=some b->w'.heap[b]?=w.heap[b]?):owR z w' e sz v n xs:=⟨Ym h.1 hb,h.2⟩
def OR.mv(hk:nH B w w')(hB:∀b,b<w.heap.size->B' b->B b):∀{ob:AO}{v:Value},(∀b,kK v=some b->w'.heap[b]?=w.heap[b]?)->OR B w0 w ob v->OR B' w0 w' ob v
 |.b t cs,_,hb,⟨g,vs,e,h1,h2,h3⟩=>⟨g,vs,e,h1,by subst e;exact(hb g O).trans h2,h3.mv hk hB⟩
 |.a e sz n el,_,hb,⟨xs,h1,h2⟩=>⟨xs,ap9 h1 hb,λi j hi hj=>let ⟨x,hx,hl⟩:=h2 i j hi hj;⟨x,hx,fP.mv hk hB _ hl⟩⟩
 |.i x ob,_,hb,⟨h1,h2⟩=>⟨h1,OR.mv hk hB hb h2⟩
 |.sz k,_,hb,⟨h1,h2,h3⟩=>⟨h1,h2,acL h3 hk.size⟩
 |.mp es,_,hb,⟨g,uS,cl,e,h1,h2,h3⟩=>⟨g,uS,cl,e,h1,by subst e;exact(hb g O).trans h2,h3⟩
def OR.blk:∀{ob:AO}{v:Value},OR B w0 w ob v->∀b,kK v=some b->w0.own b/\b<w.heap.size
 |.b t cs,_,⟨g,vs,e,h1,h2,h3⟩,b,hb=>by subst e;cases hb;exact⟨h1,h2.lt⟩
 |.a e sz n el,_,⟨xs,⟨⟨_,Or.inl h⟩,_⟩,h2⟩,b,hb=>by obtain⟨rfl,_⟩:=h;cases hb
 |.a e sz n el,_,⟨xs,⟨⟨_,Or.inr ⟨g,cap,cur,h,h3,h4,h5⟩⟩,ho⟩,h2⟩,b,hb=>by subst h;cases hb;exact⟨ho _ O,lt_of_block h4⟩
 |.i x ob,_,⟨_,h⟩,b,hb=>h.blk b hb
 |.sz k,_,⟨h,_⟩,b,hb=>by subst h;cases hb
 |.mp es,_,⟨g,uS,cl,e,h1,h2,h3⟩,b,hb=>by subst e;cases hb;grind
def AO.un:AO->AO
 |.i _ ob=>ob.un
 |.b t cs=>.b t cs
 |.a e m n el=>.a e m n el
 |.sz k=>.sz k
 |.mp es=>.mp es
def AO.put(new:AO):AO->AO
 |.i x ob=>.i x<|AO.put new ob
 |.b _ _=>new
 |.a _ _ _ _=>new
 |.sz _=>new
 |.mp _=>new
def OR.un(h:OR B w0 w ob v):OR B w0 w ob.un v:=by induction ob with|i x ob ih=>exact ih h.2|_=>exact h
def OR.put{new:AO}(h:OR B w0 w ob v)(k:OR B' w0 w' new v):OR B' w0 w' (AO.put new ob) v:=by induction ob with|i x ob ih=>exact⟨h.1,ih h.2⟩|_=>exact k
def lk{α:Type}:List (Nat×α)->Nat->Option α
 |[],_=>none
 |(k,x)::l,t=>bif Nat.beq k t then some x else lk l t
def aY{α:Type}(k:Nat)(x:α)(l:List<|Nat×α)(t:Nat):lk ((k,x)::l) t=if k=t then some x else lk l t:=by show(bif Nat.beq k t then some x else lk l t)=_;simp_all
def oG{α:Type}:∀{l:List (Nat×α)}{t:Nat}{x:α},lk l t=some x->(t,x)∈l
 |[],t,x,h=>by cases h
 |(k,y)::l,t,x,h=>by
  rw [aY] at h;split at h
  ·simp_all
  ·exact ahY _<|oG h
def unO:Option AO->Option AO
 |some ob=>some ob.un
 |none=>none
def lkU(l:List<|Nat×AO)(id:Nat):Option AO:=unO<|lk l id
def Bd(ρ:lq)(B0:BS):BS:=λb=>B0 b\/∃id v,ρ id=some v/\kK v=some b
def up(ρ:lq)(id:Nat)(v:Value):lq:=λk=>if k=id then some v else ρ k
structure gq(ρ:lq)(B0:BS)(w0:Wz)(w:World)(hp:List<|Nat×AO):Prop where
 bel:Oi w0 w
 b0:∀b,B0 b->b<w0.sz/\¬w0.L b
 obj:∀id v,ρ id=some v->∃ob,lk hp id=some ob/\OR (Bd ρ B0) w0 w ob v
 dist:∀id id' v v' b,ρ id=some v->ρ id'=some v'->kK v=some b->kK v'=some b->id=id'
section
variable {ρ:lq} {B0:BS} {w0:Wz} {w w':World} {hp:List (Nat×AO)} {id:Nat} {v:Value} {ob:AO}
def gq.UO(h:gq ρ B0 w0 w hp)(b:Nat)(hb:Bd ρ B0 b):b<w.heap.size:=by rcases hb with hb|⟨id,v,h1,h2⟩;exact acI (h.b0 b hb).1 h.bel.size;have⟨ob,_,ho⟩:=h.obj id v h1;exact(ho.blk b h2).2
def gq.akg(h:gq ρ B0 w0 w hp)(hh:∀id ob,lk hp' id=some ob->lk hp id=some ob)(hob:lkU hp' id=some ob)(hv:ρ id=some v):OR (Bd ρ B0) w0 w ob v:=by have⟨ob1,h1,h2⟩:=h.obj id v hv;unfold lkU at hob;cases hl:lk hp' id with|none=>rw [hl] at hob;cases hob|some o=>rw [hl] at hob;rw [hh _ _ hl] at h1;cases h1;cases hob;exact h2.un
def gq.below(h:gq ρ B0 w0 w hp)(hb:Below w.heap.size w w'):gq ρ B0 w0 w' hp:=
 ⟨h.bel.step hb,h.b0,λid v hv=>let ⟨ob,h1,h2⟩:=h.obj id v hv;⟨ob,h1,h2.mv (.of_below hb) ψ<|λb hvb=>hb.block b (h2.blk b hvb).2⟩,h.dist⟩
def AR.below{av:AV}{c:Value}(h:AR ρ B w av c)(hb:Below w.heap.size w w'):AR ρ B w' av c:=AR.mv (.of_below hb) ψ ψ h
def wF(hn:ρ id=none)(hv:∀b,kK v=some b->w.heap.size<=b):∀b,b<w.heap.size->Bd (up ρ id v) B0 b->Bd ρ B0 b:=by rintro b hb (h|⟨k,u,h1,h2⟩);exact azR;unfold up at h1;split at h1;grind;exact aw7
def gq.new(h:gq ρ B0 w0 w hp)(hn:ρ id=none)(hb:Below w.heap.size w w')(hv:∀b,kK v=some b->w.heap.size<=b)(hl:∀k ob,lk hp k=some ob->k≠id->lk hp' k=some ob)(hi:lk hp' id=some ob) 
  (ho:OR (Bd (up ρ id v) B0) w0 w' ob v):gq (up ρ id v) B0 w0 w' hp':=by refine⟨h.bel.step hb,h.b0,λk u hu=>?_,?_⟩;unfold up at hu;split at hu;simp_all;rename_i hk;have⟨ob',h1,h2⟩:=h.obj k u hu;exact⟨ob',hl k ob' h1 hk,h2.mv (.of_below hb) (wF hn hv)<|λb hvb=>hb.block b (h2.blk b hvb).2⟩;have old:∀k u b,ρ k=some u->kK u=some b->b<w.heap.size:=λk u b h1 h2=>let ⟨_,_,h3⟩:=h.obj k u h1;(h3.blk b h2).2;intro k k' u u' b h1 h2 h3 h4;unfold up at h1 h2;split at h1 <;> split at h2;omega;grind;grind;exact h.dist k k' u u' b h1 h2 h3 h4
def AR.new{av:AV}{c:Value}(hn:ρ id=none)(hb:Below w.heap.size w w')(hv:∀b,kK v=some b->w.heap.size<=b)(h:AR ρ (Bd ρ B0) w av c):AR (up ρ id v) (Bd (up ρ id v) B0) w' av c:=by
 refine AR.mv (.of_below hb) (wF hn hv) (λk hk=>?_) h;unfold up;split
 ·rename_i e
  subst e;exfalso;cases av with
  |p i o=>have⟨g,h1,_⟩:=h;have e:i=k:=(by simpa [AV.on] using hk);simp_all
  |q i=>have⟨h1,_⟩:=h;have e:i=k:=(by simpa [AV.on] using hk);simp_all
  |iL i _ _ _=>have⟨g,n,cp,h1,_⟩:=h;have e:i=k:=(by simpa [AV.on] using hk);simp_all
  |w i=>have⟨g,h1⟩:=h;have e:i=k:=(by simpa [AV.on] using hk);simp_all
  |fO i _=>have⟨g,h1,_⟩:=h;have e:i=k:=(by simpa [AV.on] using hk);simp_all
  |lim i _=>have⟨_,u,h1,_⟩:=h;have e:i=k:=(by simpa [AV.on] using hk);simp_all
  |_=>simp [AV.on] at hk
 ·rfl
def gq.write{v':Value}{ob':AO}(h:gq ρ B0 w0 w hp)(bJ:ρ id=some v)(hk:∀b,b<w.heap.size->kK v≠some b->w'.heap[b]?=w.heap[b]?)(hs:w.heap.size<=w'.heap.size) 
  (hbel:Oi w0 w') (hv:∀b,kK v'=some b->kK v=some b\/w.heap.size<=b) (hl:∀k ob,lk hp k=some ob->k≠id->lk hp' k=some ob) (hi:lk hp' id=some ob')
  (ho:OR (Bd (up ρ id v') B0) w0 w' ob' v'):gq (up ρ id v') B0 w0 w' hp'/\nH (Bd ρ B0) w w'/\∀b,b<w.heap.size->Bd (up ρ id v') B0 b->Bd ρ B0 b:=by have hK:nH (Bd ρ B0) w w':=⟨hs,λb hb hB=>hk b hb<|λe=>hB<|Or.inr ⟨id,v,bJ,e⟩⟩;have hB:∀b,b<w.heap.size->Bd (up ρ id v') B0 b->Bd ρ B0 b:=(by rintro b hb (h|⟨k,u,h1,h2⟩);exact azR;unfold up at h1;split at h1;cases h1;rcases hv b h2 with h3|h3;exact Or.inr ⟨id,v,bJ,h3⟩;omega;exact Or.inr ⟨k,u,h1,h2⟩);refine⟨⟨hbel,h.b0,λk u hu=>?_,?_⟩,hK,hB⟩;unfold up at hu;split at hu;simp_all;rename_i hne;have⟨ob1,h1,h2⟩:=h.obj k u hu;exact⟨ob1,hl k ob1 h1 hne,h2.mv hK hB<|λb hvb=>hk b (h2.blk b hvb).2<|λe=>hne<|h.dist k id u v b hu bJ hvb e⟩;have old:∀k u b,ρ k=some u->kK u=some b->b<w.heap.size:=λk u b h1 h2=>let ⟨_,_,h3⟩:=h.obj k u h1;(h3.blk b h2).2;intro k k' u u' b h1 h2 h3 h4;unfold up at h1 h2;split at h1 <;> split at h2;omega;cases h1;have h5:=old k' u' b h2 h4;rcases hv b h3 with h6|h6;have:=h.dist id k' v u' b bJ h2 h6 h4;omega;omega;cases h2;have h5:=old k u b h1 h3;rcases hv b h4 with h6|h6;have:=h.dist k id u v b h1 bJ h3 h6;omega;omega;exact h.dist k k' u u' b h1 h2 h3 h4
end
structure AS where
 n:Nat
 sl:List<|Nat×AV
 hp:List<|Nat×AO
variable {s s':AS}
def gu(ρ:lq)(B:BS)(w:World)(sl:List<|Nat×AV)(a:Act):Prop:=∀t av,lk sl t=some av->∃v,a.tmps[t]?=some v/\AR ρ B w av v
def Ou(s:AS)(B0:BS)(w0:Wz)(a:Act)(w:World):Prop:=∃ρ,gq ρ B0 w0 w s.hp/\a.tmps.size=s.n/\a.defers=[]/\gu ρ (Bd ρ B0) w s.sl a
structure TI where
 n:Nat
 agg:Bool
 zero:List Value
 fs:List<|Nat×TypeId
 elem:Option TypeId
 bytes:Nat
 ik:Option IntKind
 bo:Bool
variable {T:TypeId->Option TI}{ti te:TI}
def fJ(P:Program)(t:TypeId):Option TI:=
 match P.info? t with
 |none=>none
 |some i=>match i.zero with
  |none=>none
  |some z=>match P.underlying t with
   |none=>none
   |some d=>if z.cells.toList.all (·.oneCell')=false then none else some {n:=i.size,agg:=d.isRow,zero:=z.cells.toList,fs:=(match d with|.struct fs=>fs.toList.map λf=>(f.offset,f.type)|_=>[]),elem:=(match d with|.slice e=>some e|_=>none),bytes:=i.bytes,ik:=(match d with|.int k=>some k|_=>none),bo:=(match d with|.bool=>true|_=>false)}
section
variable {P:Program} {t:TypeId} {ti:TI}
def dH(h:fJ P t=some ti):∃i z d,P.info? t=some i/\i.zero=some z/\P.underlying t=some d/\i.size=ti.n/\z.cells.toList=ti.zero/\d.isRow=ti.agg/\i.bytes=ti.bytes/\
  (∀(f o:Nat) (u:TypeId),ti.fs[f]?=some (o,u)->∃(fs:Array Field) (fd:Field),d=.struct fs/\fs[f]?=some fd/\fd.offset=o/\fd.type=u)/\(∀e,ti.elem=some e->d=.slice e)/\(∀k,ti.ik=some k->d=.int k)/\(ti.bo=true->d=.bool)/\(∀c∈ti.zero,c.oneCell'=true):=by unfold fJ at h;split at h;cases h;rename_i i hi;split at h;cases h;rename_i z hz;split at h;cases h;rename_i d hd;split at h;cases h;rename_i hall;cases h;refine⟨i,z,d,hi,hz,hd,O,O,O,O,?_,?_,?_,?_,?_⟩;grind;grind;grind;grind;grind
def aaZ{o:Nat}(h:fJ P t=some ti)(ha:ti.agg=true)(hc:w.rangeAt b o cs)(hl:cs.length=ti.n):(Instr.loadAt t<|.pointer<|some ⟨b,o,none⟩).run P w=.ok (.agg cs.toArray) w:=by have⟨i,z,d,h1,h2,h3,h4,h5,h6,_⟩:=dH h;exact run_loadAt_mid w b o t cs d hc h3 ψ aCj
def WQ{o:Nat}(h:fJ P t=some ti)(ha:ti.agg=false)(hc:w.cell? ⟨b,o,none⟩=some v):(Instr.loadAt t<|.pointer<|some ⟨b,o,none⟩).run P w=.ok v w:=by have⟨i,z,d,h1,h2,h3,h4,h5,h6,_⟩:=dH h;have hd:(isAgg t).run P w=.ok false w:=(by unfold isAgg;rw [Sem.run_bind,run_underlying h3 w];rw [ha] at h6;cases d <;> first|rfl|simp_all);simp [Instr.loadAt,Instr.sureAddr,loadVar,Sem.run_bind,hd,hc]
def WR{o:Nat}(h:fJ P t=some ti)(hv:v.cells=cs.toArray)(hl:cs.length=ti.n)(ht:w.there b o cs.length)(h1:∀c∈cs,c.oneCell'=true):
  (Instr.storeAt t (.pointer<|some ⟨b,o,none⟩) v).run P w=.ok () (w.setCells b o cs):=by have⟨i,z,d,h1',h2,h3,h4,h5,h6,_⟩:=dH h;have:=run_storeCells_cells (P:=P) b o cs 0 w (λj hj=>(ht j hj).1) (λj hj=>(ht j hj).2) h1;simp only [Nat.add_zero] at this;have hs:¬cs.length≠i.size:=Z;simp [Instr.storeAt,Instr.sureAddr,storeVar,sizeOf,typeInfo,h1',hv,hs,this]
def ahz(h:fJ P t=some ti):(Instr.alloc t true<|.tuple #[]).run P w=.ok (.pointer<|some ⟨w.heap.size,0,none⟩) (w.alloc<|.cells ti.zero.toArray t):=by have⟨i,z,d,h1,h2,h3,h4,h5,h6,_⟩:=dH h;rw [<-h5];simp [Instr.alloc,zeroValue,typeInfo,h1,h2,newVar,newRow]
def aqM(hv:v.cells=cs.toArray):(Instr.box t v).run P w=.ok (.pointer<|some ⟨w.heap.size,0,none⟩) (w.alloc<|.cells cs.toArray t):=by simp [Instr.box,newVar,newRow,hv]
def add_lit(b o n:Nat):(⟨b,o,none⟩:Addr).add n=⟨b,o+n,none⟩:=Addr.add_mid b o n
def N9{o:Nat}{f:Nat}{u:TypeId}{tu:TI}(h:fJ P t=some ti)(hf:ti.fs[f]?=some (off,u))(hu:fJ P u=some tu)(hn:tu.n≠0):
  (Instr.fieldAt t (.pointer<|some ⟨b,o,none⟩) f).run P w=.ok (.pointer<|some ⟨b,o+off,none⟩) w:=by have⟨i,z,d,h1,h2,h3,h4,h5,h6,h7,h8,_⟩:=dH h;obtain⟨fs,fd,rfl,h9,h10,h11⟩:=h8 f off u hf;have⟨i',z',d',k1,k2,k3,k4,_⟩:=dH hu;have hz:¬i'.size=0:=Z;subst h10;subst h11;simp [Instr.fieldAt,run_underlying h3,h9,Instr.sureAddr,fieldPlace,sizeOf,typeInfo,k1,hz,add_lit]
def ak3(h : fJ P t = some ti): (part t cs.toArray off).run P w = if ti.agg = true then .ok (.agg ((cs.drop off).take ti.n).toArray) w else match cs[off]? with | some v => .ok v w | none => .halt (.stuck "part: no such cell") w := by
 have⟨i,z,d,h1,h2,h3,h4,h5,h6,_⟩:=dH h;have hd:(isAgg t).run P w= .ok ti.agg w:=by
  unfold isAgg;rw [Sem.run_bind,run_underlying h3 w,<- h6];cases d <;> rfl
 rw [<- h4];unfold part;cases ha:ti.agg
 ·rw [ha] at hd
  simp [hd];cases cs[off]? <;> simp
 ·rw [ha] at hd
  simp [hd,sizeOf,typeInfo,h1]
end
def xZ(P:Program)(T:TypeId->Option TI):Prop:=∀t ti,T t=some ti->fJ P t=some ti
def dR(s:AS):Operand->Option AV
 |.tmp t=>lk s.sl t
 |.const (.agg _)|.const (.tuple _)=>none
 |.const v=>some<|.d<|.o<|.v v
 |.func f=>some (.d<|.o<|.fn f 0 λ_=>.v undef)
 |.global _=>none
def cu{av:AV}(hs:gu ρ B w s.sl a)(h:dR s x=some av):AR ρ B w av<|a.eval x:=by cases x with|tmp t=>have⟨v,hv,hr⟩:=hs t av h;have:a.eval (.tmp t)=v:=(by simp [Act.eval,Array.getD_eq_getD_getElem?,hv]);simp_all|const v=>cases v <;> simp only [dR,Option.some.injEq,reduceCtorEq] at h <;> (subst h;exact ayE)|func f=>simp only [dR,Option.some.injEq] at h;subst h;exact⟨#[],O,O,λj hj=>absurd hj<|acH _⟩|global g=>simp [dR] at h
def aiU(bo:Bool)(op:BinOp):Value->Value->Option Value
 |.int k a,.int k' b=>
  if op=.shl then(if b<0 then none else some (.int k<|k.wrap<|a*2^(min b.toNat k.bits)))
  else if op=.shr then(if b<0 then none else some (.int k<|a.fdiv<|2^(min b.toNat k.bits)))
  else if k=k' then
   match op with
   |.add=>some<|.int k<|k.wrap<|a+b
   |.sub=>some<|.int k<|k.wrap<|a-b
   |.mul=>some<|.int k<|k.wrap<|a*b
   |.quo=>if b=0 then none else some (.int k<|k.wrap<|a.tdiv b)
   |.rem=>if b=0 then none else some (.int k<|a.tmod b)
   |.or=>some<|.int k<|k.wrap ((BitVec.ofInt k.bits a ||| BitVec.ofInt k.bits b).toNat:Int)
   |.shl|.shr|.and|.xor|.andNot=>none
   |.eql=>some (.bool<|a==b)|.neq=>some (.bool<|a !=b)|.lss=>some (.bool<|a<b)|.leq=>some (.bool<|a<=b)|.gtr=>some (.bool<|a > b)|.geq=>some<|.bool<|a>=b
  else none
 |.bool a,.bool b=>
  match bo,op with
  |true,.eql=>some<|.bool<|a==b
  |true,.neq=>some<|.bool (!(a==b))
  |_,_=>none
 |.string a,.string b=>
  match op with
  |.eql=>some<|.bool<|a.toList==b.toList
  |.neq=>some<|.bool (!(a.toList==b.toList))
  |.add=>if a.size+b.size<=9223372036854775807 then some (.string<|a++b) else none
  |_=>none
 |_,_=>none
def aiV{op:BinOp}{x y r:Value}{ox oy:Operand}(hti:fJ P t=some ti)(h:aiU ti.bo op x y=some r):
    (do eqGuard op t ox oy x y;binOp op t x y:Sem Value).run P w= .ok r w:=by
  unfold aiU at h;split at h
  · rename_i k a k' b
    split at h
    · rename_i hop
      subst hop;split at h
      · cases h
      · rename_i hb
        cases h
        have hg:(eqGuard .shl t ox oy (.int k a) (.int k' b)).run P w= .ok () w:=rfl;rw [Sem.run_bind,hg,Result.andThen_ok];simp [binOp,Op.shift,hb]
    split at h
    · rename_i hop
      subst hop;split at h
      · cases h
      · rename_i hb
        cases h
        have hg:(eqGuard .shr t ox oy (.int k a) (.int k' b)).run P w= .ok () w:=rfl;rw [Sem.run_bind,hg,Result.andThen_ok];simp [binOp,Op.shift,hb]
    split at h
    · rename_i hk
      subst hk;have hg:(eqGuard op t ox oy (.int k a) (.int k b)).run P w= .ok () w:=by cases op <;> rfl
      rw [Sem.run_bind,hg,Result.andThen_ok];cases op <;> simp only [Option.some.injEq,reduceCtorEq] at h <;> first
        | (subst h;simp [binOp,Op.intArith,Op.intCmp,Op.intBits];done)
        | (exfalso;simp at *;done)
        | (split at h
           · cases h
           · rename_i hb
             cases h
             simp [binOp,Op.intDiv,hb])
    · cases h
  · rename_i a b
    cases hb:ti.bo
    · simp_all
    · have⟨i,z,d,h1,h2,h3,_,_,_,_,_,_,_,h4,_⟩:=dH hti
      have hd:=h4 hb;subst hd;rw [hb] at h;cases op <;> simp only [Option.some.injEq,reduceCtorEq] at h
      all_goals
        subst h;have hg:∀op,(eqGuard op t ox oy (.bool a) (.bool b)).run P w= .ok () w:=by intro op;cases op <;> rfl
        rw [Sem.run_bind,hg,Result.andThen_ok];simp [binOp,run_equal_bool w t a b h3]
  · rename_i a b
    have hg:(eqGuard op t ox oy (.string a) (.string b)).run P w= .ok () w:=by cases op <;> rfl
    rw [Sem.run_bind,hg,Result.andThen_ok];cases op <;> simp only [Option.some.injEq,reduceCtorEq] at h <;> first
      | (subst h;rfl)
      | (split at h
         · rename_i hs
           cases h
           have:¬ ((a.size+b.size:Nat):Int) > IntKind.i64.max:=by
             simp [IntKind.max,IntKind.signed,IntKind.bits];omega
           simp [binOp,Op.stringOp,IntKind.max,IntKind.signed,IntKind.bits];omega
         · cases h)
  · cases h
def rng(cs:Nat->Lf):Nat->Nat->List Lf
 |_,0=>[]
 |o,n+1=>cs o::rng cs (o+1) n
def amS{cs:Nat->Lf}:∀(n o:Nat),(∀j,o<=j->j<o+n->∃x,w.cell? ⟨b,off+j,none⟩=some x/\fP B w (cs j) x)->
  ∃vs:List Value,vs.length=n/\w.rangeAt b (off+o) vs/\jg B w (rng cs o n) vs
 |0,o,_=>⟨[],O,λj v h=>by simp at h,Pe⟩
 |n+1,o,h=>by
  have⟨x,hx,hl⟩:=h o (aav _) Z;have⟨vs,h1,h2,h3⟩:=amS n (o+1) (λj h1 h2=>h j Z Z);refine⟨x::vs,by simp [h1],λj v hv=>?_,hl,h3⟩;cases j with
  |zero=>simp_all
  |succ j=>
   have:=h2 j v (by assumption);grind
def GR(ti:TI)(ls:List Lf)(off:Nat):Option DV:=
 match ti.agg with
 |true=>if off+ti.n<=ls.length then some (.j<|(ls.drop off).take ti.n) else none
 |false=>match ls[off]? with
  |some l=>some<|.o l
  |none=>none
def V7{ls:List Lf}{d:DV}(hti:fJ P t=some ti)(h:GR ti ls off=some d)(hl:jg B w ls cs):
  ∃v,(part t cs.toArray off).run P w=.ok v w/\DR B w d v:=by rw [ak3 hti];unfold GR at h;split at h;rename_i ha;rw [if_pos ha];split at h;cases h;exact⟨_,O,_,O,(hl.drop off).take ti.n⟩;cases h;rename_i ha;rw [if_neg aCj];split at h;rename_i l hl';cases h;have⟨c,hc,hr⟩:=hl.get hl';rw [hc];exact⟨c,O,hr⟩;cases h
def Nr{ls:List Lf}{T:TypeId}{d:DV}(hti:fJ P t=some ti)(h:GR ti ls off=some d)(hl:jg B w ls cs)(hb:ou w g T cs):
  ∃v,(Instr.loadAt t<|.pointer<|some ⟨g,off,none⟩).run P w=.ok v w/\DR B w d v:=by unfold GR at h;split at h;rename_i ha;split at h;rename_i hle;cases h;have hlen:=hl.len;refine⟨_,aaZ hti ha (cs:=(cs.drop off).take ti.n) (λj v hv=>?_) ψ,_,O,(hl.drop off).take ti.n⟩;have hj:j<ti.n:=ψ;rw [List.getElem?_take,if_pos hj,List.getElem?_drop] at hv;have⟨h1,h2⟩:=acf.1 hv;rw [<-h2];exact hb.cell _ h1;cases h;rename_i ha;split at h;rename_i l hl';cases h;have⟨c,hc,hr⟩:=hl.get hl';have⟨h1,h2⟩:=acf.1 hc;exact⟨c,WQ hti ha<|by rw [<-h2];exact hb.cell _ h1,hr⟩;cases h
def aan(ti:TI)(m:Nat)(cs:Nat->Lf):Option DV:=
 match ti.agg with
 |true=>if ti.n<=m then some (.j<|rng cs 0 ti.n) else none
 |false=>if 0<m then some (.o<|cs 0) else none
def VN{cs:Nat->Lf}{d:DV}(hti:fJ P t=some ti)(h:aan ti m cs=some d) 
  (hc:∀j,j<m->∃x,w.cell? ⟨b,off+j,none⟩=some x/\fP B w (cs j) x):∃v,(Instr.loadAt t<|.pointer<|some ⟨b,off,none⟩).run P w=.ok v w/\DR B w d v:=by unfold aan at h;split at h;rename_i ha;split at h;rename_i hle;cases h;have⟨vs,h1,h2,h3⟩:=amS (cs:=cs) ti.n 0 (λj _ hj=>hc j Z);exact⟨_,aaZ hti ha h2 h1,_,O,h3⟩;cases h;rename_i ha;split at h;rename_i hm;cases h;have⟨x,hx,hl⟩:=hc 0 hm;exact⟨x,WQ hti ha hx,hl⟩;cases h
def RV(ls:List Lf)(off:Nat)(new:List Lf):List Lf:=ls.take off++(new++ls.drop (off+new.length))
def yG(ls:List Value)(off:Nat)(new:List Value):List Value:=ls.take off++(new++ls.drop (off+new.length))
def afx{ls new:List Lf}{ns:List Value}(off:Nat)(h:jg B w ls cs)(k:jg B w new ns):jg B w (RV ls off new)<|yG cs off ns:=by unfold RV yG;rw [k.len];exact(h.take off).app (k.app<|h.drop _)
def afz{new:List Value}(h:off+new.length<=ls.length):(yG ls off new).length=ls.length:=by simp [yG];omega
def abN:∀(new:List Value) (cs:List Value) (off:Nat),off+new.length<=cs.length->(new.zipIdx).foldl (λ(l:Array Value) (p:Value×Nat)=>l.setIfInBounds (off+p.2) p.1) cs.toArray=(yG cs off new).toArray:=by have key:∀(new:List Value) (cs:List Value) (off i:Nat),off+i+new.length<=cs.length->(new.zipIdx i).foldl (λ(l:Array Value) (p:Value×Nat)=>l.setIfInBounds (off+p.2) p.1) cs.toArray=(yG cs (off+i) new).toArray:=(by intro new;induction new with|nil=>intro cs off i h;simp [yG]|cons v r ih=>intro cs off i h;simp only [List.length_cons] at h;rw [List.zipIdx_cons,List.foldl_cons,List.setIfInBounds_toArray,ih _ _ _ ψ];congr 1;unfold yG;rw [List.set_eq_take_append_cons_drop,if_pos Z];have h1:(List.take (off+i) cs++v::List.drop (off+i+1) cs).take (off+(i+1))=List.take (off+i) cs++[v]:=(by rw [List.take_append];have:(List.take (off+i) cs).length=off+i:=ψ;rw [this,show off+(i+1)-(off+i)=1 by omega,List.take_of_length_le Z];rfl);have h2:(List.take (off+i) cs++v::List.drop (off+i+1) cs).drop (off+(i+1)+r.length)=cs.drop (off+i+(v::r).length):=(by rw [List.drop_append];have:(List.take (off+i) cs).length=off+i:=aEg;rw [this,List.drop_eq_nil_of_le Z,List.nil_append,show off+(i+1)+r.length-(off+i)=r.length+1 by omega,List.drop_succ_cons,List.drop_drop];congr 1;grind);simp_all);simp_all
def wY(place:Nat->Option (Nat×Nat))(cells:List Lf):List (Nat×List Lf)->Option (List Lf)
 |[]=>some cells
 |(i,l)::rest=>match place i with
  |none=>none
  |some (off,size)=>if l.length=size/\off+l.length<=cells.length then wY place (RV cells off l) rest else none
def BO(place:Nat->Option (Nat×Nat)):∀(parts:List<|Nat×List Lf) (vs:List<|Nat×Value) (ls r:List Lf) (cs:List Value),jg B w ls cs->wY place ls parts=some r->
  parts.length=vs.length->(∀(k:Nat) (p:Nat×List Lf) (v:Nat×Value),parts[k]?=some p->vs[k]?=some v->p.1=v.1/\∃xs:List Value,v.2.cells=xs.toArray/\jg B w p.2 xs)->∃rs:List Value,Instr.fill place cs.toArray vs=some rs.toArray/\jg B w r rs
 |[],[],ls,r,cs,hl,h,_,_=>by
  simp only [wY,Option.some.injEq] at h;subst h;exact⟨cs,O,hl⟩
 |(i,l)::rest,(i',v)::vs,ls,r,cs,hl,h,hlen,hp=>by
  have⟨h1,xs,hx,hlx⟩:=hp 0 _ _ O O;obtain rfl:i=i':=h1;simp only [wY] at h;simp only [Instr.fill];cases hpl:place i with
  |none=>simp_all
  |some q=>
   have⟨off,size⟩:=q;rw [hpl] at h;simp only at h;split at h
   ·rename_i hc
    have hxl:l.length=xs.length:=hlx.len;have hcl:=hl.len;have hsz:¬(v.cells.size≠size\/off+v.cells.size > cs.toArray.size):=by
     grind
    have hb:(decide (v.cells.size≠size) || decide (off+v.cells.size > cs.toArray.size))=false:=by
     grind
    have hfold:v.cells.zipIdx.foldl (λcs (x:Value×Nat)=>cs.setIfInBounds (off+x.2) x.1) cs.toArray=(yG cs off xs).toArray:=by
     rw [hx,<-abN xs cs off Z];simp
    have⟨rs,h2,h3⟩:=BO place rest vs _ r _ (afx off hl hlx) h ψ (λk p v' h1 h2=>hp (k+1) p v' aCy aCy);refine⟨rs,?_,h3⟩;simp only [hb,Bool.false_eq_true,if_false];rw [hfold];exact h2
   grind
def Ei(s:AS):List (Nat×Operand)->Option (List<|Nat×List Lf)
 |[]=>some []
 |(i,x)::r=>match dR s x,Ei s r with
  |some (.d d),some ps=>some ((i,d.cells)::ps)
  |_,_=>none
def Gm(hs:gu ρ B w s.sl a):∀(l:List<|Nat×Operand) (ps:List<|Nat×List Lf),Ei s l=some ps->ps.length=(l.map λq:Nat×Operand=>(q.1,a.eval q.2)).length/\
  ∀(k:Nat) (p:Nat×List Lf) (v:Nat×Value),ps[k]?=some p->(l.map λq:Nat×Operand=>(q.1,a.eval q.2))[k]?=some v->p.1=v.1/\∃xs:List Value,v.2.cells=xs.toArray/\jg B w p.2 xs
 |[],ps,h=>by
  simp only [Ei,Option.some.injEq] at h;simp_all
 |(i,x)::r,ps,h=>by
  simp only [Ei] at h;split at h
  ·rename_i d ps' hx hr
   cases h
   have⟨h1,h2⟩:=Gm hs r ps' hr;refine⟨by grind,λk p v hp hv=>?_⟩;cases k with
   |zero=>
    simp at hp hv;subst hp;subst hv;exact⟨O,(cu hs hx:DR _ _ _ _).cells⟩
   |succ k=>grind
  ·cases h
def Aq(s:AS):List Operand->Option (List Lf)
 |[]=>some []
 |x::r=>match dR s x,Aq s r with
  |some (.d (.o l)),some ls=>some (l::ls)
  |_,_=>none
def Gl(hs:gu ρ B w s.sl a):∀(l:List Operand) (ls:List Lf),Aq s l=some ls->jg B w ls (l.map a.eval)
 |[],ls,h=>by
  simp only [Aq,Option.some.injEq] at h;subst h;trivial
 |x::r,ls,h=>by
  simp only [Aq] at h;split at h
  ·rename_i d ps' hx hr
   cases h
   exact⟨cu hs hx,Gl hs r ps' hr⟩
  ·cases h
def CP(T:TypeId->Option TI):List (Nat×TypeId)->Option (List<|Nat×Nat)
 |[]=>some []
 |(o,u)::r=>match T u,CP T r with
  |some ti,some l=>some ((o,ti.n)::l)
  |_,_=>none
def Jy{P:Program}{T:TypeId->Option TI}(hT:xZ P T){w:World}:∀(fs:List Field) (l:List<|Nat×Nat),CP T (fs.map λf=>(f.offset,f.type))=some l->(fs.mapM (λf=>do pure (f.offset,<-sizeOf f.type)):Sem<|List<|Nat×Nat).run P w=.ok l w
 |[],l,h=>by
  simp only [List.map_nil,CP,Option.some.injEq] at h;simp_all
 |f::fs,l,h=>by
  simp only [List.map_cons,CP] at h;split at h
  ·rename_i ti l' hti hl
   replace hti:=hT _ _ hti
   cases h
   have⟨i,z,d,h1,h2,h3,h4,_⟩:=dH hti;have ih:=Jy hT (w:=w) fs l' hl;simp [List.mapM_cons,sizeOf,typeInfo,h1,h4] at ih ⊢;simp_all
  ·cases h
def SC(k:IntKind)(mx:Bool):Int->List Lf->Option Int
 |x,[]=>some x
 |x,.v (.int k' y)::r=>if k=k' then SC k mx (if mx then(if y > x then y else x) else(if y<x then y else x)) r else none
 |_,_=>none
def nC(s:AS)(x:Operand):Option<|IntKind×Int:=
 match dR s x with
 |some (.d (.o (.v (.int k n))))=>some (k,n)
 |_=>none
def Gp{k:IntKind}{n:Int}(hs:gu ρ B w s.sl a)(h:nC s x=some (k,n)):a.eval x=.int k n:=by unfold nC at h;split at h;rename_i hx;cases h;exact(cu hs hx:fP _ _ _ _).1;cases h
def one(l:Lf):Option AV:=some<|.d<|.o l
def N7:Option DV->Option AV
 |some d=>some<|.d d
 |none=>none
def sS(s:AS)(x:Option Operand)(d:Nat):Option Nat:=match x with
 |none=>some d
 |some x=>match nC s x with
  |some (_,z)=>if 0<=z then some z.toNat else none
  |none=>none
def QF{r y:Nat}{code:BoundsCode}(hs:gu ρ B w s.sl a)(h:sS s (some x) d=some r)(hy:r<=y):(Instr.sliceBound (a.eval x) y code).run P w=.ok r w:=by unfold sS at h;simp only at h;split at h;rename_i k z hx;split at h;rename_i hz;cases h;have he:=Gp hs hx;exact axD;cases h;cases h
def kE(T:TypeId->Option TI)(s:AS):Op->Option AV
 |.move x|.assign x=>dR s x
 |.pick c a b=>match dR s c with
  |some (.d (.o (.v (.bool t))))=>if t=true then dR s a else dR s b
  |_=>none
 |.load t x=>match T t with
  |none=>none
  |some ti=>match dR s x with
   |some (.p id off)=>match lkU s.hp id with
    |some (.b _ cs)=>N7<|GR ti cs off
    |_=>none
   |some (.iL id sz i j)=>match lkU s.hp id with
    |some (.a _ sz' n el)=>if sz=sz'/\j<=sz then N7 (aan ti (sz-j) λq=>el i<|j+q) else none
    |_=>none
   |some (.d (.o (.at m cs)))=>N7<|aan ti m cs
   |_=>none
 |.binOp op t x y _=>match T t,dR s x,dR s y with
  |some ti,some (.d (.o (.v a))),some (.d (.o (.v b)))=>match aiU ti.bo op a b with
   |some r=>one<|.v r
   |none=>none
  |_,_,_=>none
 |.unOp op _ x=>match op,dR s x with
  |.not,some (.d (.o (.v (.bool b))))=>one<|.v<|.bool (!b)
  |.neg,some (.d (.o (.v (.int k n))))=>one<|.v<|.int k<|k.wrap<|0-n
  |_,_=>none
 |.convert src dst x=>match T src,T dst,dR s x with
  |some _,some ti,some (.d (.o (.v (.int _ n))))=>match ti.ik with
   |some k=>one<|.v<|.int k<|k.wrap n
   |none=>none
  |_,_,_=>none
 |.fieldAddr t x f=>match T t with
  |none=>none
  |some ti=>match ti.fs[f]? with
   |none=>none
   |some (off,u)=>match T u with
    |none=>none
    |some tu=>if tu.n=0 then none else match dR s x with
     |some (.p id o)=>some<|.p id<|o+off
     |some (.iL id sz i j)=>some<|.iL id sz i<|j+off
     |some (.d (.o (.at m cs)))=>if off<=m then one (.at (m-off) λq=>cs<|off+q) else none
     |_=>none
 |.field t x f=>match T t with
  |none=>none
  |some ti=>match ti.fs[f]? with
   |none=>none
   |some (off,u)=>match T u,dR s x with
    |some tu,some (.d (.j ls))=>N7<|GR tu ls off
    |_,_=>none
 |.extract x i=>match dR s x with
  |some (.dY xs)=>N7<|xs[i]?
  |some (.fO id xs)=>match i with
   |0=>some<|.p id 0
   |j+1=>N7<|xs[j]?
  |_=>none
 |.indexAddr t x ix=>match T t with
  |none=>none
  |some ti=>match ti.elem with
   |none=>none
   |some e=>match T e,nC s ix with
    |some te,some (_,z)=>match dR s x with
     |some (.d (.o (.a sz n el)))=>if sz=te.n/\0<=z/\z<(n:Int) then one (.at sz<|el z.toNat) else none
     |some (.q id)=>match lkU s.hp id with
      |some (.a _ sz n el)=>if sz=te.n/\0<=z/\z<(n:Int) then some (.iL id sz z.toNat 0) else none
      |_=>none
     |_=>none
    |_,_=>none
 |.slice t x lo hi none=>match T t with
  |none=>none
  |some ti=>match ti.elem with
   |none=>none
   |some e=>match T e,dR s x with
    |some te,some (.d (.o (.a sz n el)))=>match sS s lo 0,sS s hi n with
     |some l,some h=>if sz=te.n/\l<=h/\h<=n then one (.a sz (h-l) λi j=>el (l+i) j) else none
     |_,_=>none
    |_,_=>none
 |.build t parts=>match T t with
  |none=>none
  |some ti=>match ti.fs with
   |[]=>none
   |f::fs=>match CP T (f::fs),Ei s parts.toList with
    |some pl,some ps=>match wY (λi=>pl[i]?) (ti.zero.map Lf.v) ps with
     |some r=>some<|.d<|.j r
     |none=>none
    |_,_=>none
 |.call c=>match c.callee with
  |.builtin .len=>match c.args.toList,c.argTypes[0]? with
   |[x],some t=>match T t with
    |none=>none
    |some ti=>match ti.elem,dR s x with
     |some _,some (.d (.o (.a sz n el)))=>one<|.v<|.int .i64 n
     |some _,some (.d (.o (.ln n S)))=>one<|.v<|.int .i64 n
     |some _,some (.d (.o (.v (.slice _ n _))))=>one<|.v<|.int .i64 n
     |some _,some (.q id)=>match lkU s.hp id with
      |some (.a _ sz n el)=>one<|.v<|.int .i64 n
      |_=>none
     |_,_=>none
   |_,_=>none
  |.builtin .max=>match Aq s c.args.toList with
   |some (.v (.int k x)::r)=>match SC k true x r with
    |some z=>one<|.v<|.int k z
    |none=>none
   |_=>none
  |.builtin .min=>match Aq s c.args.toList with
   |some (.v (.int k x)::r)=>match SC k false x r with
    |some z=>one<|.v<|.int k z
    |none=>none
   |_=>none
  |_=>none
 |.makeFunc (.func f) fi caps=>match fi.toList,Aq s caps.toList with
  |[],some ls=>one (.fn f ls.length λj=>(ls[j]?).getD<|.v undef)
  |_,_=>none
 |_=>none
def dP{x:Sem Value}(h:x.run P w=.ok v w'):(do pure (.value (<-x)):Sem Next).run P w=.ok (.value v) w':=by simp [h]
def VQ{P:Program}{w:World}{k:IntKind}:∀(r:List Lf) (vs:List Value) (x z:Int) {B:BS},jg B w r vs->SC k false x r=some z->(vs.foldlM Builtin.min2<|.int k x).run P w=.ok (.int k z) w
 |[],[],x,z,B,_,h=>by
  simp only [SC,Option.some.injEq] at h;simp_all
 |l::r,v::vs,x,z,B,hl,h=>by
  unfold SC at h;split at h
  ·simp_all
  ·rename_i heq
   cases heq
   split at h
   ·rename_i hk
    subst hk;have⟨hv,_⟩:=hl.1;subst hv;have:=VQ (P:=P) r vs _ z hl.2 h;assumption
   ·cases h
  ·cases h
def VP{P:Program}{w:World}{k:IntKind}:∀(r:List Lf) (vs:List Value) (x z:Int) {B:BS},jg B w r vs->SC k true x r=some z->(vs.foldlM Builtin.max2<|.int k x).run P w=.ok (.int k z) w
 |[],[],x,z,B,_,h=>by
  simp only [SC,Option.some.injEq] at h;simp_all
 |l::r,v::vs,x,z,B,hl,h=>by
  unfold SC at h;split at h
  ·simp_all
  ·rename_i heq
   cases heq
   split at h
   ·rename_i hk
    subst hk;have⟨hv,_⟩:=hl.1;subst hv;have:=VP (P:=P) r vs _ z hl.2 h;assumption
   ·cases h
  ·cases h
def zx(hT:xZ P T){av:AV}(hsl:gu ρ (Bd ρ B0) w s.sl a)(hc:gq ρ B0 w0 w hp)(Fq:∀id ob,lk s.hp id=some ob->lk hp id=some ob) 
  (h:kE T s o.op=some av):∃v,(execOp a.eval o).run P w=.ok (.value v) w/\AR ρ (Bd ρ B0) w av v:=by
 unfold kE at h;unfold execOp;split at h
 ·rename_i x hop;rw [hop];exact ay8
 ·rename_i x hop;rw [hop];exact ay8
 ·rename_i c x y hop
  rw [hop];split at h
  ·rename_i t hcv
   have hcv:=(cu hsl hcv:fP _ _ _ _).1;simp only [hcv,asBool,Sem.run_bind,Sem.run_pure,Result.andThen_ok];cases t
   ·exact ay8
   ·exact ay8
  ·cases h
 ·rename_i t x hop
  rw [hop];split at h
  ·cases h
  rename_i ti hti
  replace hti:=hT _ _ hti
  have fin:∀{d:Option DV}{av:AV},N7 d=some av->∃e,d=some e/\av=.d e:=by
   intro d av hd;cases d with
   |none=>cases hd
   |some e=>cases hd;simp_all
  split at h
  ·rename_i id off hx
   split at h
   ·rename_i T cs hob
    obtain⟨d,hd,rfl⟩:=fin h;have⟨g,hg,hxe⟩:=cu hsl hx;have h2:=hc.akg Fq hob hg;have⟨g',vs,he,_,hb,hl⟩:=h2;cases he
    have⟨v,hr,hv⟩:=Nr hti hd hl hb;exact azp
   ·cases h
  ·rename_i id sz i j hx
   split at h
   ·rename_i T sz' n el hob
    split at h
    ·rename_i hsz
     obtain⟨rfl,hj⟩:=hsz;obtain⟨d,hd,rfl⟩:=fin h;have⟨g,n',cap,hg,hi,hxe⟩:=cu hsl hx;have h2:=hc.akg Fq hob hg;have⟨xs,hown,hel⟩:=h2;have⟨⟨hxl,hown2⟩,hbk⟩:=hown;rcases hown2 with⟨he,_⟩|⟨g2,cap2,cur,he,hge,hblk,hn,hm,hs,ht⟩
     ·grind
     ·cases he
      have⟨v,hr,hv⟩:=VN (b:=g) (off:=i*sz+j) hti hd (B:=Bd ρ B0) (w:=w) (λq hq=>by
       have⟨x,hx1,hx2⟩:=hel i (j+q) hi Z;refine⟨x,?_,hx2⟩;rw [cell_of_row w g _ cur _ (0,0) hblk,<-Array.getElem?_toList];rw [<-ht,List.getElem?_take] at hx1;split at hx1
       ·rw [show i*sz+j+q=i*sz+(j+q) by omega];exact hx1
       ·cases hx1)
      exact azp
    ·cases h
   ·cases h
  ·rename_i m cs hx
   obtain⟨d,hd,rfl⟩:=fin h;have⟨b,off,hxe,hb,hlt,hcs⟩:=(cu hsl hx:fP _ _ _ _);have⟨v,hr,hv⟩:=VN hti hd hcs;exact azp
  ·cases h
 ·rename_i op t x y yt hop
  rw [hop];split at h
  ·rename_i ti va vb hti hx hy
   replace hti:=hT _ _ hti
   split at h
   ·rename_i r hr
    cases h
    have h1:=(cu hsl hx:fP _ _ _ _).1;have h2:=(cu hsl hy:fP _ _ _ _).1;refine⟨r,dP<|by rw [h1,h2];exact aiV hti hr,O,?_⟩;unfold aiU at hr;split at hr
    ·split at hr
     ·exact azs
     split at hr
     ·exact azs
     split at hr
     ·split at hr <;> first|(cases hr;done)|(cases hr;rfl)|(split at hr <;> cases hr <;> rfl)
     ·grind
    ·exact azs
    ·split at hr <;> first|(cases hr;rfl)|(split at hr <;> cases hr <;> rfl)|grind
    ·grind
   ·cases h
  ·cases h
 ·rename_i op t x hop
  rw [hop];split at h
  ·rename_i b hx
   cases h
   exact axp
  ·rename_i k n hx
   cases h
   exact axp
  ·cases h
 ·rename_i src dst x hop
  rw [hop];split at h
  ·rename_i ts td k n hts htd hx
   replace hts:=hT _ _ hts
   replace htd:=hT _ _ htd
   split at h
   ·rename_i k' hik
    cases h
    have h1:=(cu hsl hx:fP _ _ _ _).1;have⟨_,_,d1,_,_,hd1,_⟩:=dH hts;have⟨_,_,d2,_,_,hd2,_,_,_,_,_,_,hk,_⟩:=dH htd;have:=hk k' hik;subst this;refine⟨.int k'<|k'.wrap n,dP ?_,O,O⟩;rw [h1];simp only [convert,Sem.run_bind,run_underlying hd1,run_underlying hd2,Result.andThen_ok];rfl
   ·cases h
  ·cases h
 ·rename_i t x f hop
  rw [hop];split at h
  ·cases h
  rename_i ti hti
  replace hti:=hT _ _ hti
  split at h
  ·cases h
  rename_i off u hf;split at h
  ·cases h
  rename_i tu htu
  replace htu:=hT _ _ htu
  split at h
  ·cases h
  rename_i hn;split at h
  ·rename_i id o' hx
   cases h
   have⟨g,hg,hxe⟩:=cu hsl hx;exact⟨_,dP aEI,g,hg,O⟩
  ·rename_i id sz i j hx
   cases h
   have⟨g,n,cap,hg,hi,hxe⟩:=cu hsl hx;exact⟨_,dP aEI,g,n,cap,hg,hi,by simp_all⟩
  ·rename_i m cs hx
   split at h
   ·rename_i hle
    cases h
    have⟨b,o',hxe,hb,hlt,hcs⟩:=(cu hsl hx:fP _ _ _ _);refine⟨_,dP aEI,b,o'+off,O,hb,hlt,λj hj=>?_⟩;have⟨x,h1,h2⟩:=hcs (off+j) Z;grind
   ·cases h
  ·cases h
 ·rename_i t x f hop
  rw [hop];split at h
  ·cases h
  rename_i ti hti
  replace hti:=hT _ _ hti
  split at h
  ·cases h
  rename_i off u hf;split at h
  ·rename_i tu ls htu hx
   replace htu:=hT _ _ htu
   cases hd:GR tu ls off with
   |none=>rw [hd] at h;cases h
   |some d=>
    rw [hd] at h;cases h
    have⟨cs,hxe,hl⟩:=cu hsl hx;have⟨v,hr,hv⟩:=V7 (P:=P) htu hd hl;have⟨i,z,dd,h1,h2,h3,h4,h5,h6,h7,h8,_⟩:=dH hti;obtain⟨fs,fd,rfl,h9,rfl,rfl⟩:=h8 f off u hf;refine⟨v,dP ?_,hv⟩;rw [hxe];simp only [Instr.field,Sem.run_bind,run_underlying h3,Result.andThen_ok,h9,asAgg,Sem.run_pure];omega
  ·cases h
 ·rename_i x i hop
  rw [hop];split at h
  ·rename_i xs hx
   cases hd:xs[i]? with
   |none=>rw [hd] at h;cases h
   |some d=>
    rw [hd] at h;cases h
    have⟨cs,hxe,hl⟩:=cu hsl hx;have⟨c,hc',hr⟩:=hl.get hd;refine⟨c,dP ?_,hr⟩;rw [hxe];simp [Instr.extract,hc']
  ·rename_i id xs hx
   have⟨g,hg,cs,hxe,hl⟩:=cu hsl hx;split at h
   ·cases h
    refine⟨_,dP ?_,g,hg,O⟩;rw [hxe];rfl
   ·rename_i j
    cases hd:xs[j]? with
    |none=>rw [hd] at h;cases h
    |some d=>
     rw [hd] at h;cases h
     have⟨c,hc',hr⟩:=hl.get hd;refine⟨c,dP ?_,hr⟩;rw [hxe];simp [Instr.extract,hc']
  ·cases h
 ·rename_i t x ix hop
  rw [hop];split at h
  ·cases h
  rename_i ti hti
  replace hti:=hT _ _ hti
  split at h
  ·cases h
  rename_i e he;split at h
  ·rename_i te ki z hte hix
   replace hte:=hT _ _ hte
   have aui:=Gp hsl hix;have⟨i,zz,dd,h1,h2,h3,h4,h5,h6,h7,h8,h9,_⟩:=dH hti;have:=h9 e he;subst this;have⟨i',zz',dd',k1,k2,k3,k4,_⟩:=dH hte;split at h
   ·rename_i sz n el hx
    split at h
    ·rename_i hcond
     obtain⟨rfl,hz0,hzn⟩:=hcond;cases h
     have⟨ad,cap,hxe,hn,hnil,hel⟩:=(cu hsl hx:fP _ _ _ _);obtain⟨b,off,rfl,hb,hlt,hj⟩:=hel z.toNat Z;refine⟨.pointer<|some ⟨b,off+z.toNat*te.n,none⟩,dP ?_,b,_,O,hb,hlt,hj⟩;rw [hxe,aui];exact axe
    ·cases h
   ·rename_i id hx
    split at h
    ·rename_i e' sz n el hob
     split at h
     ·rename_i hcond
      obtain⟨rfl,hz0,hzn⟩:=hcond;cases h
      have⟨hg,ad,n',cap,hxe⟩:=cu hsl hx;have o2:=hc.akg Fq hob hg;have⟨xs,⟨⟨hxl,hown2⟩,hbk⟩,hel⟩:=o2;rcases hown2 with⟨hee,hn0⟩|⟨g2,cap2,cur,hee,hge,hblk,hn,hm,hs,ht⟩
      ·omega
      ·refine⟨.pointer<|some ⟨g2,z.toNat*te.n,none⟩,dP ?_,g2,n,cap2,by simp_all,by omega,by rfl⟩
       rw [hee,aui];exact axe
     ·cases h
    ·cases h
   ·cases h
  ·cases h
 ·rename_i t x lo hi hop
  rw [hop];split at h
  ·cases h
  rename_i ti hti
  replace hti:=hT _ _ hti
  split at h
  ·cases h
  rename_i e he;split at h
  ·rename_i te sz n el hte hx
   replace hte:=hT _ _ hte
   split at h
   ·rename_i lo' hi' hlo hhi
    split at h
    ·rename_i hcond
     obtain⟨rfl,hlh,hhn⟩:=hcond;cases h
     have⟨i,z,dd,h1,h2,h3,h4,h5,h6,h7,h8,h9,_⟩:=dH hti;have:=h9 e he;subst this;have⟨i',zz',dd',k1,k2,k3,k4,_⟩:=dH hte;have⟨ad,cap,hxe,hn,hnil,hel⟩:=(cu hsl hx:fP _ _ _ _);have hb:(Instr.sliceBounds true n cap (lo.map a.eval) (hi.map a.eval) none).run P w=.ok (lo',hi',cap) w:=by
      have h1:(match (hi.map a.eval) with|some v=>Instr.sliceBound v cap .sliceAcap|none=>pure n:Sem Nat).run P w=.ok hi' w:=by
       cases hi with
       |none=>simp [sS] at hhi;simp [hhi]
       |some y=>exact QF hsl hhi Z
      have h2:(match (lo.map a.eval) with|some v=>Instr.sliceBound v hi' .sliceB|none=>pure 0:Sem Nat).run P w=.ok lo' w:=by
       cases lo with
       |none=>simp [sS] at hlo;simp [hlo]
       |some y=>exact QF hsl hlo hlh
      cases hi with
      |none=>
       cases lo with
       |none=>simp [Instr.sliceBounds,sS] at *;omega
       |some y=>simp [Instr.sliceBounds] at *;simp_all
      |some y=>
       cases lo with
       |none=>simp [Instr.sliceBounds] at *;simp_all
       |some y'=>simp [Instr.sliceBounds] at *;simp_all
     refine⟨.slice (if cap=lo' then ad else ad.map (·.add (lo'*te.n))) (hi'-lo')<|cap-lo',dP ?_,if cap=lo' then ad else ad.map (·.add (lo'*te.n)),cap-lo',O,by omega,λhnone=>?_,λq hq=>?_⟩
     ·rw [hxe]
      simp only [Instr.sliceAt,Instr.slice,Sem.run_bind,run_underlying h3,Result.andThen_ok,sizeOf,typeInfo,run_program,k1,Sem.run_pure,Option.map_none];simp_all
     ·cases ad with
      |none=>simp_all
      |some q=>
       grind
     ·have hc':¬cap=lo':=Z
      rw [if_neg hc'];obtain⟨b,off,rfl,hb1,hb2,hb3⟩:=hel (lo'+q) Z;refine⟨b,off+lo'*te.n,by simp [add_lit],hb1,hb2,λj hj=>?_⟩;grind
    ·cases h
   ·cases h
  ·cases h
 ·rename_i t parts hop
  rw [hop];split at h
  ·cases h
  rename_i ti hti
  replace hti:=hT _ _ hti
  split at h
  ·cases h
  rename_i f fs hfs;split at h
  ·rename_i pl ps hpl hps
   split at h
   ·rename_i r hr
    cases h
    have⟨i,z,dd,h1,h2,h3,h4,h5,h6,h7,h8,_⟩:=dH hti;obtain⟨F,fd,rfl,h9,h10,h11⟩:=h8 0 f.1 f.2 aCj;have hF:F.toList.map (λq:Field=>(q.offset,q.type))=f::fs:=by
     rw [<-hfs];unfold fJ at hti;grind
    have hone:∀c∈ti.zero,c.oneCell'=true:=by
     simp_all
    have⟨g1,g2⟩:=Gm hsl parts.toList ps hps;have⟨rs,MJ,hrs⟩:=BO (λi=>pl[i]?) ps _ _ r ti.zero (jg.vs hone) hr g1 g2;have azi:=Jy hT (w:=w) F.toList pl ψ;refine⟨.agg rs.toArray,dP ?_,rs,O,hrs⟩;have hz:z.cells=ti.zero.toArray:=ψ
    have hm:(parts.map λx:Nat×Operand=>match x with|(i,x)=>(i,a.eval x)).toList=parts.toList.map λq:Nat×Operand=>(q.1,a.eval q.2):=by
     rw [Array.toList_map]
    unfold Instr.build;simp only [Sem.run_bind,zeroValue,typeInfo,run_program,Result.andThen_ok,h1,h2,Sem.run_pure,run_underlying h3,hz,Array.mapM_eq_mapM_toList,Sem.run_map];rw [azi];simp only [Result.andThen_ok,hm];have:(λx:Nat=>pl.toArray[x]?)=λi:Nat=>pl[i]? :=ψ
    rw [this,MJ];rfl
   ·cases h
  ·cases h
 ·rename_i c hop
  rw [hop];split at h
  ·rename_i qU
   split at h
   ·rename_i x t hargs hty
    split at h
    ·cases h
    rename_i ti hti
    replace hti:=hT _ _ hti
    have hargs':c.args=#[x]:=ψ
    have⟨i,z,d,h1,h2,h3,h4,h5,h6,h7,h8,h9,_⟩:=dH hti;have go:∀(ad:Option Addr) (n cap:Nat) e,ti.elem=some e->a.eval x=.slice ad n cap->(do let d <-resolve a.eval c o.type;invoke d.target d.args).run P w=.ok (.value<|.int .i64 n) w:=by
     intro ad n cap e he hxe;have:=h9 e he;subst this;simp [resolve,qU,hargs',invoke,builtin,Builtin.len_,hty,hxe,run_underlying h3,goInt]
    split at h
    ·rename_i e sz n el he hx
     cases h
     have⟨ad,cap,hxe,_⟩:=(cu hsl hx:fP _ _ _ _);exact axq
    ·rename_i e n S he hx
     cases h
     have⟨_,ad,cap,hxe⟩:=(cu hsl hx:fP _ _ _ _);exact axq
    ·rename_i e ad n cap he hx
     cases h
     have hxe:=(cu hsl hx:fP _ _ _ _).1;exact axq
    ·rename_i e id he hx
     split at h
     ·rename_i e' sz n el hob
      cases h
      have⟨hg,ad,n',cap,hxe⟩:=cu hsl hx;have o2:=hc.akg Fq hob hg;have⟨xs,⟨⟨hxl,hown2⟩,hbk⟩,hel⟩:=o2;have hn:n'=n:=by
       grind
      subst hn;exact⟨_,go ad n' cap e he hxe,O,O⟩
     ·cases h
    ·cases h
   ·cases h
  ·rename_i qU
   split at h
   ·rename_i k x r hg
    split at h
    ·rename_i z hz
     cases h
     have hls:=Gl hsl _ _ hg;cases hca:c.args.toList with
     |nil=>rw [hca] at hls;exact hls.elim
     |cons y ys=>
      rw [hca] at hls;have⟨⟨hy,_⟩,hys⟩:=hls;have:=VP (P:=P) (w:=w) r (ys.map a.eval) x z hys hz;refine⟨_,?_,O,O⟩;have hm:(c.args.map a.eval).toList=.int k x::ys.map a.eval:=by simp_all
      simp [resolve,qU,invoke,builtin,Builtin.max_,hca,hy,this]
    ·cases h
   ·cases h
  ·rename_i qU
   split at h
   ·rename_i k x r hg
    split at h
    ·rename_i z hz
     cases h
     have hls:=Gl hsl _ _ hg;cases hca:c.args.toList with
     |nil=>rw [hca] at hls;exact hls.elim
     |cons y ys=>
      rw [hca] at hls;have⟨⟨hy,_⟩,hys⟩:=hls;have:=VQ (P:=P) (w:=w) r (ys.map a.eval) x z hys hz;refine⟨_,?_,O,O⟩;simp [resolve,qU,invoke,builtin,Builtin.min_,hca,hy,this]
    ·cases h
   ·cases h
  ·cases h
 ·rename_i f fi caps hop
  rw [hop];split at h
  ·rename_i ls hfi hg
   cases h
   have hls:=Gl hsl _ _ hg;have ayT:fi=#[]:=by simp_all
   refine⟨_,dP aD3,caps.map a.eval,?_,?_,λj hj=>?_⟩
   ·simp_all
   ·have:=hls.len;simp_all
   ·obtain⟨l,hl⟩:∃l,ls[j]?=some l:=⟨ls[j],by simp [hj]⟩
    have⟨cc,hcc,hr⟩:=hls.get hl;refine⟨cc,by simpa using hcc,?_⟩;show fP _ _ ((ls[j]?).getD _) cc
    rw [hl];exact hr
  ·cases h
 ·cases h
def evN(T:TypeId->Option TI)(s:AS):Op->Option AO
 |.alloc t=>match T t with
  |some ti=>some<|.b t<|ti.zero.map Lf.v
  |none=>none
 |.box t x=>match dR s x with
  |some (.d d)=>some<|.b t d.cells
  |_=>none
 |.makeSlice t l c=>match T t with
  |none=>none
  |some ti=>match ti.elem with
   |none=>none
   |some e=>match T e,nC s l,nC s c with
    |some te,some (_,zl),some (_,zc)=>if 0<=zl/\zl<=zc/\(te.bytes:Int)*zc<=140737488355328/\zc<=9223372036854775807/\te.zero.length=te.n then some (.a e te.n zl.toNat λ_ j=>.v<|(te.zero[j]?).getD undef) else none
    |_,_,_=>none
 |_=>none
def evB(T:TypeId->Option TI)(s:AS):Op->Option AV
 |.buildSlice t len parts=>match T t with
  |none=>none
  |some ti=>match ti.elem with
   |none=>none
   |some e=>match T e,Ei s parts.toList with
    |some te,some ps=>if te.zero.length=te.n/\te.n≠0/\len*te.n<=16777216 then match wY (λi=>some (i*te.n,te.n)) ((List.range<|len*te.n).map λq=>Lf.v<|(te.zero[q%te.n]?).getD undef) ps with
     |some r=>one (.a te.n len λi j=>(r[i*te.n+j]?).getD<|.v undef)
     |none=>none
     else none
    |_,_=>none
 |_=>none
def nU(w:World)(o:Obj):Below w.heap.size w<|w.alloc o:=(Below.refl _ _).alloc (aav _) _
def AO.av:AO->Nat->AV
 |.b _ _,id=>.p id 0
 |.a _ _ _ _,id=>.q id
 |.i _ _,_=>.D
 |.sz _,_=>.D
 |.mp _,_=>.D
def AO.BG{id:Nat}(h:OR B w0 w ob v)(hr:ρ id=some v):AR ρ B' w (ob.av id) v:=by cases ob with|b t cs=>obtain⟨g,vs,rfl,_⟩:=h;exact⟨g,hr,O⟩|a e sz n el=>(obtain⟨xs,⟨⟨_,⟨rfl,_⟩|⟨g,cap,cur,rfl,_⟩⟩,_⟩,_⟩:=h;exact⟨hr,none,0,0,O⟩;exact⟨hr,_,_,_,O⟩)|i x ob=>trivial|sz k=>trivial|mp es=>trivial
def af4(z:List Value)(n j:Nat)(hj:j<n)(hz:0<z.length):(madeCells z.toArray n).toList[j]?=some (z[j%z.length]'(acP _ hz)):=by simp [madeCells,hj,Nat.mod_lt _ hz]
def Q5(hT:xZ P T)(hsl:gu ρ (Bd ρ B0) w s.sl a)(hc:gq ρ B0 w0 w hp)(h:evN T s o.op=some ob):
  ∃v w',(execOp a.eval o).run P w=.ok (.value v) w'/\Below w.heap.size w w'/\(∀b,kK v=some b->w.heap.size<=b)/\∀B',(∀b,b<w.heap.size->B' b->Bd ρ B0 b)->OR B' w0 w' ob v:=by unfold evN at h;unfold execOp;split at h;rename_i t hop;rw [hop];split at h;rename_i ti hti;replace hti:=hT _ _ hti;cases h;have hone:∀c∈ti.zero,c.oneCell'=true:=(by have⟨_,_,_,_,_,_,_,_,_,_,_,_,_,_,hall⟩:=dH hti;omega);refine⟨_,_,dP<|ahz hti,nU _ _,λb hb=>by cases hb;simp_all,λB' hB=>⟨_,ti.zero,O,Or.inl hc.bel.size,ou.new w t _,jg.vs hone⟩⟩;cases h;rename_i t x hop;rw [hop];split at h;rename_i d hx;cases h;have⟨cs,h1,h2⟩:=DR.cells<|cu hsl hx;refine⟨_,_,dP<|aqM h1,nU _ _,λb hb=>by cases hb;simp_all,λB' hB=>⟨_,cs,O,Or.inl hc.bel.size,ou.new w t _,h2.mv (.of_below (nU _ _)) hB⟩⟩;cases h;rename_i t l c hop;rw [hop];split at h;cases h;rename_i ti hti;replace hti:=hT _ _ hti;split at h;cases h;rename_i e he;split at h;rename_i te kl zl kc zc hte hl hcc;replace hte:=hT _ _ hte;split at h;rename_i hcond;have⟨h0,hlc,hby,hmax,hzl⟩:=hcond;cases h;have hle:=Gp hsl hl;have hce:=Gp hsl hcc;have⟨i,z,dd,h1,h2,h3,h4,h5,h6,h7,h8,h9,_⟩:=dH hti;have:=h9 e he;subst this;have⟨i',z',dd',k1,k2,k3,k4,k5,k6,k7,_,_,_,_,hall⟩:=dH hte;have hr:=run_make (P:=P) w t e i' z' h3 k1 k2 kl kc zl zc h0 hlc ψ Z;refine⟨_,_,dP<|by rw [hle,hce];omega,nU _ _,λb hb=>by cases hb;simp_all,λB' hB=>?_⟩;have hzs:z'.cells.size=te.n:=ψ;have hsz:(madeCells z'.cells<|zc.toNat*i'.size).size=zc.toNat*te.n:=(by simp [madeCells,k4]);have hcap:zl.toNat<=zc.toNat:=Z;have hmul:zl.toNat*te.n<=zc.toNat*te.n:=abh _ hcap;refine⟨((madeCells z'.cells<|zc.toNat*i'.size).toList).take<|zl.toNat*te.n,⟨⟨by simp_all,Or.inr ⟨w.heap.size,zc.toNat,_,O,abJ _,heap_alloc_new w _,hcap,by simp [maxLen];omega,hsz,O⟩⟩,λb hb=>by cases hb;exact Or.inl hc.bel.size⟩,λp q hp hq=>?_⟩;have hidx:p*te.n+q<zl.toNat*te.n:=(by have:(p+1)*te.n<=zl.toNat*te.n:=abh _ Z;grind);have hz':z'.cells=te.zero.toArray:=ψ;have hpos:0<te.zero.length:=Z;refine⟨(te.zero[q]?).getD undef,?_,O,?_⟩;rw [List.getElem?_take,if_pos hidx,hz',af4 _ _ _ ψ hpos];have:(p*te.n+q)%te.zero.length=q:=(by rw [hzl,Nat.mul_comm,Nat.mul_add_mod,Nat.mod_eq_of_lt hq]);simp [this,List.getElem?_eq_getElem (show q<te.zero.length by omega)];rw [List.getElem?_eq_getElem<|show q<te.zero.length by omega];exact hall _<|alS _;cases h;cases h;cases h
def QZ(hT:xZ P T){av:AV}(hsl:gu ρ (Bd ρ B0) w s.sl a)(hc:gq ρ B0 w0 w hp)(h:evB T s o.op=some av):
  ∃v w',(execOp a.eval o).run P w= .ok (.value v) w'/\Below w.heap.size w w'/\AR ρ (Bd ρ B0) w' av v:=by
 unfold evB at h;unfold execOp;split at h
 ·rename_i t len parts hop;rw [hop];split at h
  ·cases h
  rename_i ti hti;replace hti:=hT _ _ hti;split at h
  ·cases h
  rename_i e he;split at h
  ·rename_i te ps hte hps;replace hte:=hT _ _ hte;split at h
   ·rename_i hcond;have⟨hzl,hn0,hsm⟩:=hcond;split at h
    ·rename_i r hr;cases h;have⟨i,z,dd,h1,h2,h3,h4,h5,h6,h7,h8,h9,_⟩:=dH hti;have:=h9 e he;subst this;have⟨i',z',dd',k1,k2,k3,k4,k5,k6,k7,_,_,_,_,hall⟩:=dH hte;have hz':z'.cells=te.zero.toArray:=ψ;have⟨g1,g2⟩:=Gm hsl parts.toList ps hps;have hpos:0<te.n:=Z;have hbase:jg (Bd ρ B0) w ((List.range (len*te.n)).map λq=>Lf.v ((te.zero[q%te.n]?).getD undef)) ((List.range (len*te.n)).map λq=>(te.zero[q%te.n]?).getD undef):=by
      have:=jg.vs (B:=Bd ρ B0) (w:=w) (cs:=(List.range (len*te.n)).map λq=>(te.zero[q%te.n]?).getD undef) (λc hcm=>by
       obtain⟨q,_,rfl⟩:=List.mem_map.1 hcm;rw [List.getElem?_eq_getElem (show q%te.n<te.zero.length by rw [hzl];exact Nat.mod_lt _ hpos)];grind)
      rwa [List.map_map] at this
     have⟨rs,MJ,hrs⟩:=BO (λi=>some (i*te.n,te.n)) ps _ _ r _ hbase hr g1 g2;have hrl:∀(ps:List (Nat×List Lf)) (l r:List Lf),wY (λi=>some (i*te.n,te.n)) l ps=some r->r.length=l.length:=aC3;have hlen:rs.length=len*te.n:=aGE;have hm:(parts.map λx:Nat×Operand=>match x with | (i,x)=>(i,a.eval x)).toList=parts.toList.map λq:Nat×Operand=>(q.1,a.eval q.2):=by rw [Array.toList_map]
     have hgt:¬ len*i'.size > 2^24:=ψ;have hrun:(Instr.buildSlice t len (parts.map λx:Nat×Operand=>match x with | (i,x)=>(i,a.eval x))).run P w= .ok (.slice (some ⟨w.heap.size,0,none⟩) len len) (w.alloc (.cells rs.toArray e)):=by
      have hA:∀zc:Array Value,(len*te.n=0\/zc=te.zero.toArray)->(Array.range (len*te.n)).map (λq=>zc[q%zc.size]!)=((List.range (len*te.n)).map λq=>(te.zero[q%te.n]?).getD undef).toArray:=by
       rintro zc (h0 | rfl)
       ·grind
       ·rw [<- Array.toList_inj]
        simp only [Array.toList_map,Array.toList_range];refine List.map_congr_left (λq _=>?_);have hq:q%te.n<te.zero.length:=by rw [hzl];exact acP _ hpos
        simp [hzl,getElem!_def,List.getElem?_eq_getElem hq]
      have hfin:∀zc:Array Value,(len*te.n=0\/zc=te.zero.toArray)->(do
        let some cells := Instr.fill (λi => some (i * te.n, te.n)) ((Array.range (len * te.n)).map (λq => zc[q % zc.size]!)) (parts.map λx : Nat × Operand => match x with | (i, x) => (i, a.eval x)).toList | stuck "buildSlice: a part of the wrong size"
        pure (.slice (some (<- newRow e cells)) len len):Sem Value).run P w= .ok (.slice (some ⟨w.heap.size,0,none⟩) len len) (w.alloc (.cells rs.toArray e)):=by
       intro zc hz;rw [hA zc hz,hm,MJ];rfl
      unfold Instr.buildSlice;simp only [Sem.run_bind,run_underlying h3,Result.andThen_ok,sizeOf,typeInfo,run_program,k1,Sem.run_pure,k4];rw [if_neg Z]
      by_cases hl0:len*te.n=0
      ·rw [if_pos hl0]
       exact axr
      ·rw [if_neg hl0]
       exact auY
     refine⟨_,_,dP hrun,nU _ _,some ⟨w.heap.size,0,none⟩,len,O,aav _,ψ,λp hp=>⟨w.heap.size,0,O,λhB=>?_,by simp,λq hq=>?_⟩⟩
     ·have:=hc.UO _ hB;omega
     ·have hidx:p*te.n+q<len*te.n:=aF3;have hrlen:r.length=len*te.n:=ψ;obtain⟨l,hl⟩:∃l,r[p*te.n+q]?=some l:=⟨r[p*te.n+q],by grind⟩;have⟨cc,hcc,hlr⟩:=hrs.get hl;refine⟨cc,?_,?_⟩;have⟨q1,q2⟩:=acf.1 hcc;rw [Nat.zero_add,<- q2];exact(ou.new w e rs).cell _ q1;show fP _ _ ((r[p*te.n+q]?).getD _) cc;rw [hl];exact fP.mv (.of_below (nU _ _)) ψ _ hlr
    ·cases h
   ·cases h
  ·cases h
 ·cases h
def afA{r:List Value}(h:off+(r.length+1)<=ls.length):yG (ls.set off v) (off+1) r=yG ls off (v::r):=by unfold yG;rw [List.set_eq_take_append_cons_drop,if_pos Z];have h0:(List.take off ls).length=off:=ψ;have h1:(List.take off ls++v::List.drop (off+1) ls).take (off+1)=List.take off ls++[v]:=aDj;have h2:(List.take off ls++v::List.drop (off+1) ls).drop (off+1+r.length)=ls.drop (off+(v::r).length):=(by rw [List.drop_append,h0,List.drop_eq_nil_of_le Z,List.nil_append,show off+1+r.length-off=r.length+1 by omega,List.drop_succ_cons,List.drop_drop];congr 1;grind);simp_all
def afy{new:List Value}(h:off+new.length<=ls.length)(k:Nat):(yG ls off new)[k]?=if k<off then ls[k]? else if k<off+new.length then new[k-off]? else ls[k]? :=by unfold yG;have h0:(List.take off ls).length=off:=ψ;by_cases h1:k<off;rw [if_pos h1,List.getElem?_append_left Z,List.getElem?_take,if_pos h1];rw [if_neg h1,List.getElem?_append_right Z,h0];by_cases h2:k<off+new.length;rw [if_pos h2,List.getElem?_append_left Z];rw [if_neg h2,List.getElem?_append_right Z,List.getElem?_drop];congr 1;omega
def Ae:∀(cs:List Value) (off:Nat) (w:World) (vs:List Value),ou w g t vs->off+cs.length<=vs.length->
  ou (w.setCells g off cs) g t (yG vs off cs)/\(∀b,b≠g->(w.setCells g off cs).heap[b]?=w.heap[b]?)/\(w.setCells g off cs).heap.size=w.heap.size/\(w.setCells g off cs).os=w.os/\(w.setCells g off cs).tape=w.tape/\(w.setCells g off cs).output=w.output
 |[],off,w,vs,h,hl=>by
  have:yG vs off []=vs:=by simp [yG]
  rw [this];exact⟨h,λ_ _=>rfl,O,O,O,O⟩
 |c::cs,off,w,vs,h,hl=>by
  simp only [List.length_cons] at hl;have h1:=h.set off c;have⟨k1,k2,k3,k4,k5,k6⟩:=Ae cs (off+1) (w.setCell ⟨g,off,none⟩ c) (vs.set off c) h1 ψ;rw [afA Z] at k1;simp only [World.setCells];exact⟨k1,λb hb=>(k2 b hb).trans<|Below.heap_setCell w ⟨g,off,none⟩ c b hb,by simp_all,k4.trans O,k5.trans O,k6.trans O⟩
def unP:Option AO->Option (AO×AO)
 |some ob=>some (ob,ob.un)
 |none=>none
def lkP(l:List<|Nat×AO)(id:Nat):Option<|AO×AO:=unP<|lk l id
def Sr{l:List (Nat×AO)}{id:Nat}{o:AO}(h:lkP l id=some (ob,o)):lk l id=some ob/\ob.un=o:=by unfold lkP at h;cases hl:lk l id with|none=>rw [hl] at h;cases h|some x=>rw [hl] at h;cases h;simp_all
def evS(T:TypeId->Option TI)(s:AS):Op->Option (Nat×AO)
 |.store t x y=>match T t with
  |none=>none
  |some ti=>match dR s x,dR s y with
   |some (.p id off),some (.d d)=>match lkP s.hp id with
    |some (ob,.b T cs)=>if d.cells.length=ti.n/\off+ti.n<=cs.length then some (id,AO.put (.b T<|RV cs off d.cells) ob) else none
    |_=>none
   |some (.iL id sz i 0),some (.d d)=>match lkP s.hp id with
    |some (ob,.a e sz' n el)=>if sz=sz'/\d.cells.length=ti.n/\ti.n=sz then some (id,AO.put (.a e sz n λp q=>if p=i then(d.cells[q]?).getD (.v undef) else el p q) ob) else none
    |_=>none
   |_,_=>none
 |_=>none
def KR{id:Nat}(h:ρ id=some v):up ρ id v=ρ:=by funext k;unfold up;simp_all
def XL(hT:xZ P T){id:Nat}(hsl:gu ρ (Bd ρ B0) w s.sl a)(hc:gq ρ B0 w0 w s.hp)(h:evS T s o.op=some (id,ob)):
  ∃w',(execOp a.eval o).run P w=.ok .skip w'/\gq ρ B0 w0 w' ((id,ob)::s.hp)/\nH (Bd ρ B0) w w':=by
 unfold evS at h;unfold execOp;have hrun:∀{t:TypeId}{x y:Value}{w':World},(Instr.storeAt t x y).run P w=.ok () w'->(do Instr.storeAt t x y;pure .skip:Sem Next).run P w=.ok .skip w':=(by intro t x y w' h;rw [Sem.run_bind,h];rfl);split at h
 ·rename_i t x y hop;rw [hop];split at h
  ·cases h
  rename_i ti hti;replace hti:=hT _ _ hti;split at h
  ·rename_i id' off d hx hy;split at h
   ·rename_i obn T cs aoZ;have⟨hob,hun⟩:=Sr aoZ;split at h
    ·rename_i hcond;have⟨hl,hfit⟩:=hcond;cases h;have⟨g,hg,hxe⟩:=cu hsl hx;have⟨vs,hv,hvr⟩:=DR.cells<|cu hsl hy;have⟨ob,h1,h2⟩:=hc.obj id _ hg;rw [hob] at h1;cases h1;have h2n:=h2;have h2:=h2.un;rw [hun] at h2;have⟨g',us,he,hge,hb,hul⟩:=h2;cases he;have hlen:=hvr.len;have hulen:=hul.len;have hst:=WR (w:=w) (b:=g) (o:=off) hti hv Z (λj hj=>aHl) hvr.one;have⟨k1,k2,k3,k4,k5,k6⟩:=Ae vs off w us hb Z;have hbel:Oi w0<|w.setCells g off vs:=hc.bel.put k4 k5 k6 Z (g:=λb=>b=g) ψ ψ;have hW:=gq.write (v':=.pointer<|some ⟨g,0,none⟩) (ob':=AO.put (.b T<|RV cs off d.cells) obn) (hp':=(id,AO.put (.b T<|RV cs off d.cells) obn)::s.hp) hc hg (w':=w.setCells g off vs) (λb hb hne=>k2 b aDR) Z hbel
      ψ (λk ob hk hne=>by rw [aY,if_neg Z];omega) aCN (by
       rw [KR hg];have hK:nH (Bd ρ B0) w<|w.setCells g off vs:=aEK;exact h2n.put (new:=.b T<|RV cs off d.cells) ⟨g,_,O,hge,k1,(afx off hul hvr).mv hK ψ⟩)
     rw [KR hg] at hW;simp_all
    ·cases h
   ·cases h
  ·rename_i id' sz i d hx hy;split at h
   ·rename_i obn e sz' n el aoZ;have⟨hob,hun⟩:=Sr aoZ;split at h
    ·rename_i hcond;obtain⟨rfl,hl,hsz⟩:=hcond;cases h;have⟨g,n',cap,hg,hi,hxe⟩:=cu hsl hx;have⟨vs,hv,hvr⟩:=DR.cells<|cu hsl hy;have⟨ob,h1,h2⟩:=hc.obj id _ hg;rw [hob] at h1;cases h1;have h2n:=h2;have h2:=h2.un;rw [hun] at h2;have⟨xs,⟨⟨hxl,hown2⟩,hbk⟩,hel⟩:=h2;rcases hown2 with⟨he,_⟩|⟨g2,cap2,cur,he,hge,hblk,hn,hm,hs,ht⟩
     ·grind
     ·cases he;have hb:ou w g e cur.toList:=aCy;have hlen:=hvr.len;have hend:i*sz+sz<=n*sz:=(by have:(i+1)*sz<=n*sz:=abh _ Z;grind);have hcl:n*sz<=cur.toList.length:=aDj;rw [Nat.add_zero] at hxe;have hst:=WR (w:=w) (b:=g) (o:=i*sz) hti hv Z (λj hj=>aHl) hvr.one;have⟨k1,k2,k3,k4,k5,k6⟩:=Ae vs (i*sz) w _ hb Z;have hbel:Oi w0<|w.setCells g (i*sz) vs:=hc.bel.put k4 k5 k6 Z (g:=λb=>b=g) (λb e=>e▸hbk g O) ψ;have hW:=gq.write (v':=.slice (some ⟨g,0,none⟩) n cap) (ob':=AO.put (.a e sz n λp q=>if p=i then(d.cells[q]?).getD (.v undef) else el p q) obn) (hp':=(id,AO.put (.a e sz n λp q=>if p=i then(d.cells[q]?).getD (.v undef) else el p q) obn)::s.hp) hc hg (w':=w.setCells g (i*sz) vs) (λb hb hne=>k2 b aDR) Z hbel
       ψ (λk ob hk hne=>by rw [aY,if_neg Z];omega) aCN (by
        rw [KR hg];have hK:nH (Bd ρ B0) w<|w.setCells g (i*sz) vs:=aEK;have hll:(yG cur.toList (i*sz) vs).length=cap*sz:=by rw [afz Z,Array.length_toList,hs]
        refine h2n.put (new:=(.a e sz n λp q=>if p=i then(d.cells[q]?).getD (.v undef) else el p q)) ⟨(yG cur.toList (i*sz) vs).take<|n*sz,⟨⟨by simp_all,Or.inr ⟨g,cap,(yG cur.toList (i*sz) vs).toArray,O,hge,k1,hn,hm,by omega,O⟩⟩,hbk⟩,λp q hp hq=>?_⟩;have hidx:p*sz+q<n*sz:=by
         grind
        rw [List.getElem?_take,if_pos hidx,afy Z]
        by_cases hpi:p=i
        ·subst hpi
         rw [if_neg Z,if_pos Z,show p*sz+q-p*sz=q by omega];obtain⟨l,hl'⟩:∃l,d.cells[q]?=some l:=⟨d.cells[q]' Z,by simp⟩
         have⟨c,hc',hr⟩:=hvr.get hl';refine⟨c,hc',?_⟩;show fP _ _ (if p=p then _ else _) c
         rw [if_pos O,hl'];exact fP.mv hK ψ _ hr
        ·have⟨x,hx1,hx2⟩:=hel p q hp hq
         have auO:cur.toList[p*sz+q]?=some x:=by
          rw [<-ht,List.getElem?_take,if_pos hidx] at hx1;exact hx1
         have hout:p*sz+q<i*sz\/i*sz+sz<=p*sz+q:=by
          rcases Nat.lt_or_gt_of_ne hpi with hlt|hgt
          ·left
           have:(p+1)*sz<=i*sz:=abh _ hlt;grind
          ·right
           have:(i+1)*sz<=p*sz:=abh _ hgt;grind
         refine⟨x,?_,?_⟩
         ·grind
         ·show fP _ _ (if p=i then _ else _) x
          rw [if_neg hpi];exact fP.mv hK ψ _ hx2)
      rw [KR hg] at hW;simp_all
    ·cases h
   ·cases h
  ·cases h
 ·cases h
def xU(base:Nat)(t ty e:TypeId)(i:TypeInfo)(z:Value)(size bytes:Nat)(ht:P.underlying t=some (.slice e))(hi:P.info? e=some i)(hz:i.zero=some z) 
  (hsize:i.size=size) (hby:i.bytes=bytes) (hzs:z.cells.size=size) (hsz:0<size) (v:Value) (n:Nat) (xs:List Value) (hown:w.ownsRow base e size v n xs)
  (ao:Option Addr) (m c:Nat) (news:List Value) (hl:news.length=m*size) (hnil:ao=none->c=0) (hmc:m<=c) (hsrc:qC w ao news) (h1:∀u∈news,u.oneCell'=true)
  (h63:n+m<=maxLen) (hbytes:(n+m)*bytes<=140737488355328) (hbase:base<=w.heap.size):
  ∃v' w',(Builtin.append_ #[t,t] ty #[v,.slice ao m c]).run P w=.ok v' w'/\w'.ownsRow base e size v' (n+m) (xs++news)/\w.grownBy w' v.ownBlock/\(∀b,kK v'=some b->kK v=some b\/w.heap.size<=b):=by cases ao with|none=>have hc0:=hnil rfl;subst hc0;have hm:m=0:=Z;subst hm;have hn:news=[]:=ψ;subst hn;exact⟨v,w,run_append_owned_none (P:=P) (w:=w) base t ty e i size ht hi v n xs hown,by simp_all,World.grownBy.refl _ _,λb hb=>Or.inl hb⟩|some ad=>(have hnews:∀j u,news[j]?=some u->w.cell? (ad.add j)=some u:=(by intro j u hu;rcases hsrc with hsrc|⟨b,off,he,hsrc⟩;simp_all;cases he;exact azY);have⟨v',w',hr,h2,h3,h4⟩:=run_append_own (P:=P) w base t ty e i z size bytes ht hi hz hsize hby hzs hsz v n xs hown ad m c news hl hnews h1 h63 hbytes hbase;refine⟨v',w',hr,h2,h3,?_⟩;subst hsize;subst hby;have hsm:n+m<=9223372036854775807:=aCy;rcases hown.2 with⟨rfl,rfl⟩|⟨g,cap,cur,rfl,hbg,hg,hnc,hcm,hcs,htake⟩;by_cases hm:m=0;simp_all;rw [run_append_nil (P:=P) w t ty e i z ht hi hz ad m c news hl hnews Z Z ψ] at hr;cases hr;intro b hb;cases hb;simp_all;by_cases hroom:n+m<=cap;have hfit:n*i.size+news.length<=cur.size:=(by rw [hl,hcs,<-Nat.add_mul];exact abh _ hroom);rw [run_append_room (P:=P) w t ty e i ht hi g n cap cur hg ad m c news hl hnews h1 hroom hfit] at hr;cases hr;intro b hb;cases hb;exact Or.inl O;have holds:∀j u,xs[j]?=some u->w.cell? ((⟨g,0,none⟩:Addr).add j)=some u:=hown.cells (g:=g) O;rw [run_append_grow (P:=P) w t ty e i z ht hi hz ⟨g,0,none⟩ n cap xs hown.1 holds ad m c news hl hnews Z Z<|growslice_fits Z hbytes] at hr;cases hr;intro b hb;cases hb;simp_all)
abbrev Qs:=Exit->AS->Prop
def DQ(Q:Qs)(B0:BS)(w0:Wz):Exit->Act->World->Prop:=λe a w=>∃s,Q e s/\Ou s B0 w0 a w
def AL(P:Program)(ops:Array Oper)(Q:Qs)(l:List Oper)(s:AS):Prop:=∀B0 w0 a w,Ou s B0 w0 a w->wpList P ops (DQ Q B0 w0) l a w
def AS.put(s:AS)(d:Option Nat)(av:AV):AS:=match d with
 |some d=>⟨s.n,(d,av)::s.sl,s.hp⟩
 |none=>s
def jQ(d:Option Nat)(n:Nat):Bool:=match d with
 |some d=>Nat.ble (d+1) n
 |none=>true
def mF(h:gu ρ B w sl a)(hn:a.tmps.size=n)(hd:d<n){av:AV}(hv:AR ρ B w av v):gu ρ B w ((d,av)::sl)<|a.put (some d) v:=by intro t mJ ht;rw [aY] at ht;split at ht;rename_i e;cases ht;subst e;exact⟨v,by simp [Act.put,hn,hd],hv⟩;rename_i e;have⟨u,h1,h2⟩:=h t mJ ht;exact⟨u,by simp [Act.put,Array.getElem?_setIfInBounds_ne e,h1],h2⟩
def kS(hc:gq ρ B0 w0 w s.hp)(hn:a.tmps.size=s.n)(hdf:a.defers=[])(hs:gu ρ (Bd ρ B0) w s.sl a){d:Option Nat}(hd:jQ d s.n=true){av:AV}(hv:AR ρ (Bd ρ B0) w av v):
  Ou (s.put d av) B0 w0 (a.put d v) w:=by cases d with|none=>exact⟨ρ,hc,hn,hdf,hs⟩|some d=>exact⟨ρ,hc,(by show(a.tmps.setIfInBounds d v).size=s.n;simp_all),hdf,mF hs hn (acN hd) hv⟩
def jD(ops:Array Oper)(s:AS)(o:Oper):Option Bool:=
 match o.guard with
 |none=>some true
 |some (j,want)=>match ops.toList[j]? with
  |some oj=>match oj.dst with
   |some d=>match lk s.sl d with
    |some (.d (.o (.v (.bool b))))=>some<|b==want
    |_=>none
   |none=>none
  |none=>none
def dZ{b:Bool}(h:jD ops s o=some b)(hs:gu ρ B w s.sl a):Region.wanted o (yielded ops a.tmps)=b:=by unfold jD at h;unfold Region.wanted;split at h;simp_all;rename_i j want hg;rw [hg];split at h;rename_i oj hj;split at h;rename_i d hd;split at h;rename_i b' hb;cases h;have⟨v,hv,hr⟩:=hs d _ hb;obtain⟨rfl,_⟩:=hr;have hj':ops[j]?=some oj:=(by rw [<-Array.getElem?_toList];exact hj);exact azO;cases h;cases h;cases h
section
variable {P:Program} {ops:Array Oper} {Q:Qs} {o:Oper} {l:List Oper} {s:AS}
def jv(hw:Region.wanted o (yielded ops a.tmps)=true)(hr:(execOp a.eval o).run P w=.ok (.value v) w')(k:wpList P ops Qw l (a.put o.dst v) w'):wpList P ops Qw (o::l) a w:=by exact ayy
def Oe(hw:Region.wanted o (yielded ops a.tmps)=true)(hr:(execOp a.eval o).run P w=.ok .skip w')(k:wpList P ops Qw l (a.put o.dst undef) w'):wpList P ops Qw (o::l) a w:=by exact ayy
def Oc{vs:Array Value}(hw:Region.wanted o (yielded ops a.tmps)=true)(hr:(execOp a.eval o).run P w=.ok (.enter f vs) w) 
  (k:Calls P f vs w λe w'=>∃v,e=.returned v/\wpList P ops Qw l (a.put o.dst v) w'):wpList P ops Qw (o::l) a w:=by unfold wpList;rw [if_pos hw];left;unfold Oper.wp;rw [hr];refine k.mono ?_;simp_all
def ak(h:Q .normal s):AL P ops Q [] s:=λB0 w0 a w hd=>⟨s,h,hd⟩
def mG(hg:jD ops s o=some false)(hd:jQ o.dst s.n=true)(k:AL P ops Q l<|s.put o.dst .D):AL P ops Q (o::l) s:=by rintro B0 w0 a w ⟨ρ,hc,hn,hdf,hs⟩;unfold wpList;rw [if_neg<|by rw [dZ hg hs];exact Bool.noConfusion];exact k B0 w0 _ w<|kS hc hn hdf hs hd trivial
def mV(hT:xZ P T)(av:AV)(h:kE T s o.op=some av)(k:AL P ops Q l<|s.put o.dst av)(hg:jD ops s o=some true:=by rfl)(hd:jQ o.dst s.n=true:=by rfl):AL P ops Q (o::l) s:=by rintro B0 w0 a w ⟨ρ,hc,hn,hdf,hs⟩;have⟨v,hr,hv⟩:=zx hT hs hc ψ h;exact ayZ
def mB(hT:xZ P T)(av:AV)(h:evB T s o.op=some av)(k:AL P ops Q l<|s.put o.dst av)(hg:jD ops s o=some true:=by rfl)(hd:jQ o.dst s.n=true:=by rfl):AL P ops Q (o::l) s:=by rintro B0 w0 a w ⟨ρ,hc,hn,hdf,hs⟩;have⟨v,w',hr,hb,hv⟩:=QZ hT hs hc h;have dW:gu ρ (Bd ρ B0) w' s.sl a:=λt av ht=>let ⟨u,h1,h2⟩:=hs t av ht;⟨u,h1,h2.below hb⟩;exact jv aDG hr<|k B0 w0 _ w'<|kS (hc.below hb) hn hdf dW hd hv
def AS.mk'(s:AS)(d:Nat)(ob:AO):AS:=⟨s.n,(d,ob.av d)::s.sl,(d,ob)::s.hp⟩
def mN(hT:xZ P T)(ob:AO)(h:evN T s o.op=some ob)(hdst:o.dst=some d)(hfr:lk s.hp d=none)(k:AL P ops Q l<|s.mk' d ob)(hg:jD ops s o=some true:=by rfl)(hd:jQ (some d) s.n=true:=by rfl):AL P ops Q (o::l) s:=by rintro B0 w0 a w ⟨ρ,hc,hn,hdf,hs⟩;have⟨v,w',hr,hb,hv,ho⟩:=Q5 hT hs hc h;have hρ:ρ d=none:=(by cases hρ:ρ d with|none=>rfl|some u=>have⟨ob',h1,_⟩:=hc.obj d u hρ;simp_all);have eG:=ho (Bd (up ρ d v) B0)<|wF hρ hv;have hc':gq (up ρ d v) B0 w0 w' ((d,ob)::s.hp):=hc.new hρ hb hv (λk ob hk hne=>by rw [aY,if_neg Z];omega) aCN eG;have dW:gu (up ρ d v) (Bd (up ρ d v) B0) w' s.sl a:=λt av ht=>let ⟨u,h1,h2⟩:=hs t av ht;⟨u,h1,h2.new hρ hb hv⟩;refine jv aDG hr<|k B0 w0 _ w' ?_;exact aq1
def mS(hT:xZ P T)(id:Nat)(ob:AO)(h:evS T s o.op=some (id,ob))(k:AL P ops Q l<|AS.put ⟨s.n,s.sl,(id,ob)::s.hp⟩ o.dst .D)(hg:jD ops s o=some true:=by rfl)(hd:jQ o.dst s.n=true:=by rfl):AL P ops Q (o::l) s:=by rintro B0 w0 a w ⟨ρ,hc,hn,hdf,hs⟩;have⟨w',hr,hc',hk⟩:=XL hT hs hc h;have dW:gu ρ (Bd ρ B0) w' s.sl a:=λt av ht=>let ⟨u,h1,h2⟩:=hs t av ht;⟨u,h1,AR.mv hk (λ_ _ hB=>hB) (λ_ _=>rfl) h2⟩;exact Oe aDG hr<|k B0 w0 _ w'<|kS (s:=⟨s.n,s.sl,(id,ob)::s.hp⟩) hc' hn hdf dW hd trivial
structure aH(P:Program)(f:FuncId)(args:List DV)(res:AV):Prop where
 en:∀vs w,(callFunc f vs).run P w=.ok (.enter f vs) w
 go:∀(B:BS) (w:World) (vs:List Value),(∀b,B b->b<w.heap.size)->DY B w args vs->Calls P f vs.toArray w λe w'=>∃v,e=.returned v/\Below w.heap.size w w'/\AR (λ_=>none) B w' res v
def AR.lift:∀{av:AV}{v:Value},AR (λ_=>none) B w av v->AR ρ B w av v
 |.d x,_,h=>h
 |.dY xs,_,h=>h
 |.p id off,_,⟨g,h,_⟩=>by cases h
 |.q id,_,⟨h,_⟩=>by cases h
 |.iL id sz i j,_,⟨g,n,cap,h,_⟩=>by cases h
 |.lim id k,_,⟨_,v,h,_⟩=>by cases h
 |.fO id _,_,⟨_,h,_⟩=>by cases h
 |.w id,_,⟨_,h⟩=>by cases h
 |.D,_,_=>trivial
def nK(s:AS):List Operand->Option (List DV)
 |[]=>some []
 |x::r=>match dR s x,nK s r with
  |some (.d d),some ds=>some (d::ds)
  |_,_=>none
def Vp(hs:gu ρ B w s.sl a):∀(l:List Operand) (ds:List DV),nK s l=some ds->DY B w ds (l.map a.eval)
 |[],ds,h=>by
  exact azG
 |x::r,ds,h=>by
  simp only [nK] at h;split at h
  ·rename_i d ps' hx hr
   cases h
   exact⟨cu hs hx,Vp hs r ps' hr⟩
  ·cases h
def DY.app:∀{ls ms:List DV}{cs ds:List Value},DY B w ls cs->DY B w ms ds->DY B w (ls++ms) (cs++ds)
 |[],_,[],_,_,k=>k
 |_::_,_,_::_,_,h,k=>⟨h.1,DY.app h.2 k⟩
def LJ(caps:Nat->Lf):Nat->Nat->List DV
 |_,0=>[]
 |o,n+1=>.o (caps o)::LJ caps (o+1) n
def UU{caps:Nat->Lf}{vs:Array Value}:∀(n o:Nat),vs.size=o+n->(∀j,o<=j->j<o+n->∃x,vs[j]?=some x/\fP B w (caps j) x)->DY B w (LJ caps o n) (vs.toList.drop o)
 |0,o,hs,_=>by
  rw [List.drop_eq_nil_of_le aEg];trivial
 |n+1,o,hs,h=>by
  have⟨x,hx,hr⟩:=h o (aav _) Z;have hlt:o<vs.toList.length:=by simp;omega
  rw [List.drop_eq_getElem_cons hlt];refine⟨?_,UU n (o+1) Z ψ⟩;have:vs.toList[o]=x:=by
   simp_all
  rw [this];exact hr
def Rl(s:AS):Callee->Option (FuncId×List DV)
 |.value x=>match dR s x with
  |some (.d (.o (.fn f n caps)))=>some (f,LJ caps 0 n)
  |_=>none
 |_=>none
def gX:Op->Option Call
 |.call c=>some c
 |_=>none
def yN{cap ds:List DV}(hs:gu ρ B w s.sl a)(hc:gX o.op=some c)(hf:Rl s c.callee=some (f,cap))(ha:nK s c.args.toList=some ds) 
  (hen:∀vs w,(callFunc f vs).run P w=.ok (.enter f vs) w):∃vs:List Value,DY B w (ds++cap) vs/\(execOp a.eval o).run P w=.ok (.enter f vs.toArray) w:=by have hop:o.op=.call c:=aFO;unfold Rl at hf;split at hf;rename_i x qU;split at hf;rename_i f' n caps hx;cases hf;have⟨vs,hxe,hsz,hj⟩:=(cu hs hx:fP _ _ _ _);have hcd:=UU (B:=B) (w:=w) (caps:=caps) (vs:=vs) n 0 Z ψ;refine⟨c.args.toList.map a.eval++vs.toList,(Vp hs _ _ ha).app aCy,?_⟩;unfold execOp;exact aq6;grind;grind
def mC{cap ds:List DV}{res:AV}(h:aH P f (ds++cap) res)(hc:gX o.op=some c)(hf:Rl s c.callee=some (f,cap))(ha:nK s c.args.toList=some ds)(k:AL P ops Q l<|s.put o.dst res) 
  (hg:jD ops s o=some true:=by rfl) (hd:jQ o.dst s.n=true:=by rfl):AL P ops Q (o::l) s:=by rintro B0 w0 a w ⟨ρ,hcr,hn,hdf,hs⟩;have⟨vs,hvs,hr⟩:=yN hs hc hf ha h.en;refine Oc aDG hr<|(h.go (Bd ρ B0) w vs hcr.UO hvs).mono ?_;rintro e w' ⟨v,rfl,hb,hv⟩;refine⟨v,O,k B0 w0 _ w' ?_⟩;have dW:gu ρ (Bd ρ B0) w' s.sl a:=λt av ht=>let ⟨u,h1,h2⟩:=hs t av ht;⟨u,h1,h2.below hb⟩;exact kS (hcr.below hb) hn hdf dW hd hv.lift
end
def AW(P:Program)(c:Code)(Q:Qs)(s:AS):Prop:=∀B0 w0 a w,Ou s B0 w0 a w->c.wp P (DQ Q B0 w0) a w
def Wk(s s':AS):Prop:=∀B0 w0 a w,Ou s B0 w0 a w->Ou s' B0 w0 a w
def thn(K:AS->Prop)(Q:Qs):Qs
 |.normal,s=>K s
 |e,s=>Q e s
def inB(id:Nat)(Q:Qs):Qs
 |.exit id',s=>if id'=id then Q .normal s else Q (.exit id') s
 |e,s=>Q e s
section
variable {P:Program} {Q:Qs} {s:AS}
def AW.wk{c:Code}(h:Wk s s')(k:AW P c Q s'):AW P c Q s:=λB0 w0 a w hd=>k B0 w0 a w<|h B0 w0 a w hd
def AL.wk(h:Wk s s')(k:AL P ops Q l s'):AL P ops Q l s:=λB0 w0 a w hd=>k B0 w0 a w<|h B0 w0 a w hd
def au{x y:Code}(h:AW P x (thn (λs=>AW P y Q s) Q) s):AW P (.seq x y) Q s:=by intro B0 w0 a w hd;refine wp_seq (Code.wp_mono (λe a w hq=>?_)<|h B0 w0 a w hd);have⟨s',h1,h2⟩:=hq;cases e with|normal=>exact h1 B0 w0 a w h2|_=>exact⟨s',h1,h2⟩
def axT{ι:Type}{x y:Code}(S:ι->AS)(aHp:ι->Prop)(h:AW P x (thn (λs=>∃i,aHp i/\Wk s (S i)) Q) s)(k:∀i,aHp i->AW P y Q (S i)):AW P (.seq x y) Q s:=by intro B0 w0 a w hd;refine wp_seq (Code.wp_mono (λe a w hq=>?_)<|h B0 w0 a w hd);have⟨s',h1,h2⟩:=hq;cases e with|normal=>have⟨i,hi,hw⟩:=h1;exact k i hi B0 w0 a w (hw B0 w0 a w h2)|_=>exact⟨s',h1,h2⟩
def aO(h:Q .normal s):AW P .skip Q s:=λB0 w0 a w hd=>wp_skip ⟨s,h,hd⟩
def aQ(h:Q .ret s):AW P .ret Q s:=λB0 w0 a w hd=>wp_ret ⟨s,h,hd⟩
def bZ{id:Nat}(h:Q (.exit id) s):AW P (.exit id) Q s:=λB0 w0 a w hd=>wp_exit ⟨s,h,hd⟩
def aK{id:Nat}{c:Code}(h:AW P c (inB id Q) s):AW P (.block id c) Q s:=by intro B0 w0 a w hd;refine wp_block (Code.wp_mono (λe a w hq=>?_)<|h B0 w0 a w hd);have⟨s',h1,h2⟩:=hq;cases e with|exit id'=>unfold inB at h1;unfold Exit.inBlock;simp only at h1 ⊢;split;rename_i e;rw [if_pos e] at h1;exact⟨s',h1,h2⟩;rename_i e;rw [if_neg e] at h1;exact⟨s',h1,h2⟩|_=>exact⟨s',h1,h2⟩
def bI{c:Operand}{x y:Code}{b:Bool}(hc:dR s c=some (.d<|.o<|.v<|.bool b))(ht:b=true->AW P x Q s)(hf:b=false->AW P y Q s):AW P (.cond c x y) Q s:=by intro B0 w0 a w hd;have hd':=hd;have⟨ρ,_,_,_,hs⟩:=hd;have:=(cu hs hc:fP _ _ _ _).1;exact wp_cond_split this (λe=>ht e B0 w0 a w hd') (λe=>hf e B0 w0 a w hd')
def aA{id:Nat}(h:AL P l.toArray Q l s):AW P (.region id l.toArray false) Q s:=λB0 w0 a w hd=>wp_region_lit<|h B0 w0 a w hd
def dL{ι:Type}{c:Code}(S:ι->AS)(aHp:ι->Prop)(μ:ι->Nat)(i0:ι)(h0:aHp i0)(hs:Wk s<|S i0)(round:∀i,aHp i->AW P c (thn (λs'=>∃i',aHp i'/\μ i'<μ i/\Wk s' (S i')) Q) (S i)):AW P (.loop c) Q s:=by intro B0 w0 a w hd b k cs;have key:∀n i a w,μ i=n->aHp i->Ou (S i) B0 w0 a w->∃e a' w',DQ Q B0 w0 e a' w'/\Arrives P (lone (b.at a (.code c::.inLoop c::k)) cs w) b k cs e a' w':=aCn;have⟨e,a',w',hq,harr⟩:=key _ i0 a w O h0<|hs _ _ _ _ hd;exact azF
end
def AV.le(a b:AV):Prop:=∀ρ B w v,AR ρ B w a v->AR ρ B w b v
def AO.le(a b:AO):Prop:=∀B w0 w v,OR B w0 w a v->OR B w0 w b v
def AV.le.rfl{a:AV}:AV.le a a:=λ_ _ _ _ h=>h
def AO.le.rfl{a:AO}:AO.le a a:=λ_ _ _ _ h=>h
def Has(sl:List<|Nat×AV)(p:Nat×AV):Prop:=∃av,lk sl p.1=some av/\AV.le av p.2
def Uw(hp:List<|Nat×AO)(p:Nat×AO):Prop:=∃ob,lk hp p.1=some ob/\AO.le ob p.2
def hs{t:Nat}{av:AV}(h:lk sl t=some av):Has sl (t,av):=⟨av,h,AV.le.rfl⟩
def ho{t:Nat}(h:lk hp t=some ob):Uw hp (t,ob):=⟨ob,h,AO.le.rfl⟩
def gW{α:Type}(p:α->Prop):List α->Prop
 |[]=>True
 |x::l=>p x/\gW p l
def gW.get{α:Type}{p:α->Prop}:∀{l:List α},gW p l->∀x∈l,p x
 |[],_,x,hx=>by simp at hx
 |y::l,h,x,hx=>by
  rcases afu.1 hx with rfl|hx
  ·exact h.1
  ·exact gW.get h.2 x hx
def AV.ap2(hp:List<|Nat×AO):AV->Bool
 |.p id _|.q id|.iL id _ _ _|.lim id _|.fO id _|.w id=>(lk hp id).isSome
 |_=>true
def vM(hp:List<|Nat×AO):List (Nat×AV)->Bool
 |[]=>true
 |(_,av)::l=>bif av.ap2 hp then vM hp l else false
def OU:∀{l:List (Nat×AV)},vM hp l=true->∀t av,lk l t=some av->av.ap2 hp=true
 |[],_,t,av,h=>by cases h
 |(k,x)::l,ha,t,av,h=>by
  unfold vM at ha;rw [aY] at h;cases hx:AV.ap2 hp x with
  |false=>simp_all
  |true=>
   rw [hx] at ha;split at h
   ·simp_all
   ·exact OU ha t av h
def wk(hn:s.n=n)(hsl:gW (Has s.sl) sl)(Fq:gW (Uw s.hp) hp)(hok:vM hp sl=true):Wk s ⟨n,sl,hp⟩:=by rintro B0 w0 a w ⟨ρ,hc,hsz,hdf,hs⟩;let ρ':lq:=λid=>if(lk hp id).isSome then ρ id else none;have hsub:∀id v,ρ' id=some v->ρ id=some v:=aDj;have hB:∀b,Bd ρ' B0 b->Bd ρ B0 b:=(by rintro b (h|⟨id,v,h1,h2⟩);exact azR;exact aw7);have hK:nH (Bd ρ B0) w w:=aCu;refine⟨ρ',⟨hc.bel,hc.b0,λid v h=>?_,λid id' v v' b h1 h2 h3 h4=>hc.dist id id' v v' b ψ ψ h3 h4⟩,hsz.trans hn,hdf,λt av ht=>?_⟩;have h':=hsub id v h;have⟨ob,h1,h2⟩:=hc.obj id v h';simp only [ρ'] at h;split at h;rename_i hso;have⟨ob',auq⟩:=aon.1 hso;have⟨V3,h3,h4⟩:=Fq.get _<|oG auq;simp only at h3;rw [h1] at h3;cases h3;exact⟨ob',auq,h4 _ _ _ _<|h2.mv hK ψ ψ⟩;cases h;have⟨mJ,h1,h2⟩:=hsl.get _<|oG ht;simp only at h1 h2;have⟨v,h3,h4⟩:=hs t mJ h1;refine⟨v,h3,?_⟩;have h5:=h2 _ _ _ _ h4;refine AR.mv hK ψ (λid bJ=>?_) h5;have hok':=OU hok t av ht;simp only [ρ'];have:(lk hp id).isSome=true:=(by cases av with|p i o=>have:i=id:=abr bJ;exact axC|q i=>have:i=id:=abr bJ;exact axC|iL i _ _ _=>have:i=id:=abr bJ;exact axC|lim i _=>have:i=id:=abr bJ;exact axC|w i=>have:i=id:=abr bJ;exact axC|fO i _=>have:i=id:=abr bJ;exact axC|_=>cases bJ);simp_all
def IW(T:TypeId->Option TI)(s:AS):List ResultVar->Option (List DV)
 |[]=>some []
 |.tmp t::r=>match lk s.sl t,IW T s r with
  |some (.d d),some ds=>some (d::ds)
  |_,_=>none
 |.cell t ty::r=>match T ty,lk s.sl t with
  |some ti,some (.p id off)=>match lk s.hp id with
   |some (.b _ cs)=>match GR ti cs off,IW T s r with
    |some d,some ds=>some (d::ds)
    |_,_=>none
   |_=>none
  |_,_=>none
def PX:List DV->AV
 |[d]=>.d d
 |ds=>.dY ds
def rvF(tmps:Array Value):ResultVar->Sem Value
 |.tmp t=>pure<|tmps.getD t undef
 |.cell a t=>do loadVar t (<-asAddr (tmps.getD a undef))
def Yr:List Value->Value
 |[v]=>v
 |vs=>.tuple vs.toArray
def G9(hT:xZ P T)(hc:gq ρ B0 w0 w s.hp)(hs:gu ρ (Bd ρ B0) w s.sl a):∀(l:List ResultVar) (ds:List DV),IW T s l=some ds->
  ∃vs:List Value,(l.mapM<|rvF a.tmps).run P w=.ok vs w/\DY (Bd ρ B0) w ds vs
 |[],ds,h=>by
  simp only [IW,Option.some.injEq] at h;subst h;exact⟨[],O,Pe⟩
 |.tmp t::r,ds,h=>by
  simp only [IW] at h;split at h
  ·rename_i d ds' hl hr
   cases h
   have⟨vs,h1,h2⟩:=G9 hT hc hs r ds' hr;have⟨v,h3,h4⟩:=hs t _ hl;refine⟨v::vs,?_,h4,h2⟩;have hv:(rvF a.tmps<|.tmp t).run P w=.ok v w:=by simp [rvF,Array.getD_eq_getD_getElem?,h3]
   simp_all
  ·cases h
 |.cell t ty::r,ds,h=>by
  simp only [IW] at h;split at h
  ·rename_i ti id off hti hl
   split at h
   ·rename_i bt cs hob
    split at h
    ·rename_i d ds' hp hr
     cases h
     have⟨vs,h1,h2⟩:=G9 hT hc hs r ds' hr;obtain⟨v,h3,g,h4,rfl⟩:=hs t _ hl;have⟨ob,h5,h6⟩:=hc.obj id _ h4;rw [hob] at h5;cases h5
     have⟨g',us,he,_,hb,hul⟩:=h6;cases he
     have⟨u,hu,hur⟩:=Nr (hT _ _ hti) hp hul hb;refine⟨u::vs,?_,hur,h2⟩;have hu':(loadVar ty ⟨g,off,none⟩).run P w=.ok u w:=by assumption
     have hv:(rvF a.tmps<|.cell t ty).run P w=.ok u w:=by simp [rvF,Array.getD_eq_getD_getElem?,h3,asAddr,hu']
     simp_all
    ·cases h
   ·cases h
  ·cases h
def CX{fn:Func}{tmps:Array Value}{vs:List Value}(h:(fn.results.toList.mapM<|rvF tmps).run P w=.ok vs w):(results fn tmps).run P w=.ok (Yr vs) w:=by have e:results fn tmps=(do let vs <-fn.results.mapM (rvF tmps);pure (if h:vs.size=1 then vs[0] else .tuple vs)):=aD3;rw [e,Sem.run_bind,Array.mapM_eq_mapM_toList,Sem.run_map,h];simp only [Result.andThen_ok,Sem.run_pure];match vs with|[]=>rfl|[v]=>rfl|v::u::r=>rfl
def ag0:∀{ds:List DV}{vs:List Value},DY B w ds vs->AR ρ B w (PX ds) (Yr vs)
 |[],[],h=>⟨[],O,h⟩
 |[d],[v],h=>h.1
 |d::e::r,v::u::vs,h=>⟨v::u::vs,O,h⟩
 |[d],[],h=>h.elim
 |[d],v::u::vs,h=>h.2.elim
 |d::e::r,[v],h=>h.2.elim
 |d::e::r,[],h=>h.elim
 |[],v::vs,h=>h.elim
def adh(T:TypeId->Option TI)(rs:List ResultVar)(r:AV):Qs
 |.normal,s|.ret,s=>∃es,IW T s rs=some es/\AV.le (PX es) r
 |_,_=>False
def zV:Nat->List DV->List (Nat×AV)
 |_,[]=>[]
 |i,d::ds=>(i,.d d)::zV (i+1) ds
def IQ:∀{ds:List DV}{vs:List Value}{i t:Nat}{av:AV},DY B w ds vs->lk (zV i ds) t=some av->∃k v,t=i+k/\vs[k]?=some v/\AR ρ B w av v
 |[],[],i,t,av,_,h=>by cases h
 |d::ds,v::vs,i,t,av,hd,h=>by
  unfold zV at h;rw [aY] at h;split at h
  ·rename_i e
   cases h
   exact⟨0,v,by omega,O,hd.1⟩
  ·have⟨k,u,h1,h2,h3⟩:=IQ hd.2 h
   exact⟨k+1,u,by omega,by assumption,h3⟩
def asI{T : TypeId -> Option TI}(hT : xZ P T){fn : Func}{c : Code}{args : List DV}{r : AV}(hf : P.funcs[f]? = some fn)(hb : fn.body = some c)(hnm : (fn.name == "runtime.NumGoroutine") = false)(hlen : Nat.ble args.length fn.ntmps = true) 
  (h:AW P c (adh T fn.results.toList r) ⟨fn.ntmps,zV 0 args,[]⟩):aH P f args r:=by refine⟨λvs w=>?_,λB w vs hB hvs=>?_⟩;have hnm' : ¬ fn.name = "runtime.NumGoroutine" := aCj;simp [callFunc,hf,hb,hnm'];refine calls_of_wp hf hb ?_;have hle:=acN hlen;have hvl:=hvs.len;have hden:Ou ⟨fn.ntmps,zV 0 args,[]⟩ B ⟨w,λ_=>False⟩ {tmps:=vs.toArray++Array.replicate (fn.ntmps-vs.toArray.size) undef,defers:= []} w:=(by have hBd:∀b,b<w.heap.size->Bd (λ_=>none) B b->B b:=aFB;refine⟨λ_=>none,aF4,by simp;omega,O,λt av ht=>?_⟩;have hvs':DY (Bd (λ_=>none) B) w args vs:=hvs.mv aCu hBd;have⟨k,v,h1,h2,h3⟩:=IQ (ρ:=λ_=>none) hvs' ht;refine⟨v,?_,h3⟩;have hk:=(acf.1 h2).1;rw [h1,Nat.zero_add,Array.getElem?_append_left aGX];simpa using h2);refine Code.wp_mono (λe a w' hq=>?_) (h B ⟨w,λ_=>False⟩ _ w hden);have⟨s',hq,ρ,hc,hn,hdf,hs⟩:=hq;have fin:(∃es,IW T s' fn.results.toList=some es/\AV.le (PX es) r)->∃v,(results fn a.tmps).run P w'= .ok v w'/\∃u,Ending.returned v= .returned u/\Below w.heap.size w w'/\AR (λ_=>none) B w' r u:=(by rintro⟨es,h1,h2⟩;have⟨us,h3,h4⟩:=G9 hT hc hs _ _ h1;refine⟨_,CX h3,_,O,hc.bel.below ψ,h2 _ _ _ _ (ag0 ?_)⟩;exact h4.mv aCu (λb _ hb=>Or.inl hb));cases e with |normal=>have⟨v,h1,h2⟩:=fin hq;exact azX |ret=>have⟨v,h1,h2⟩:=fin hq;exact azX |exit id=>assumption |goto l=>assumption |panic ch=>exact hq.elim |outgrown=>exact hq.elim
namespace Am
def kC(o:Oper)(j:Nat):Bool:=o.after.toList.any λe=>Region.binds .any e && e.on==j
def valOf(o:Oper)(a:Act):Value:=match o.dst with|some d=>(a.tmps[d]?).getD undef|none=>undef
def IfW(b:Bool)(p q:Prop):Prop:=(b=true->p)/\(b=false->q)
def iy{b:Bool}{q:Prop}(h:b=true)(hp:p):IfW b p q:=⟨λ_=>hp,λh'=>absurd (h.symm.trans h') Bool.noConfusion⟩
def zL{b:Bool}{q:Prop}(h:b=false)(hq:q):IfW b p q:=⟨λh'=>absurd (h.symm.trans h') Bool.noConfusion,λ_=>hq⟩
def fM:List Oper->Nat->Act->(Nat->Value)->Act
 |[],_,a,_=>a
 |o::l,k,a,vs=>fM l (k+1) (a.put o.dst<|vs k) vs
def NT:∀(l:List Oper) (k:Nat) (a:Act) (vs:Nat->Value) (o:Oper),fM (l++[o]) k a vs=(fM l k a vs).put o.dst (vs<|k+l.length)
 |[],k,a,vs,o=>by rfl
 |x::l,k,a,vs,o=>by
  show fM (l++[o]) (k+1) (a.put x.dst<|vs k) vs=(fM l (k+1) (a.put x.dst<|vs k) vs).put o.dst (vs<|k+(l.length+1))
  rw [NT l (k+1) _ vs o,show k+1+l.length=k+(l.length+1) by omega]
structure Bf(ops:Array Oper)(n:Nat)(a0:Act)(D:Nat->Prop)(vs:Nat->Value)(a:Act):Prop where
 size:a.tmps.size=a0.tmps.size
 defs:a.defers=a0.defers
 wr:∀k o d,k<n->ops[k]?=some o->D k->o.dst=some d->a.tmps[d]?=some (vs k)
 no:∀t,(∀k o,k<n->ops[k]?=some o->D k->o.dst≠some t)->a.tmps[t]?=a0.tmps[t]?
def akE(ops:Array Oper)(n N:Nat):Bool:=
 (List.range n).all λi=>match ops[i]? with
  |none=>false
  |some oi=>(match oi.dst with|some d=>decide (d<N)|none=>true) &&
   oi.after.all (λe=> !Region.binds .any e || decide (e.on<i)) &&
   (List.range n).all λk=>match ops[k]? with
    |none=>false
    |some ok=>k==i || (match ok.dst with
     |some d=>(!(oi.looksAt ops).contains d || (decide (k<i) && kC oi k) || (decide (i<k) && kC ok i)) && oi.dst !=some d
     |none=>true)
def LZ(ops:Array Oper)(n:Nat):Bool:=(List.range n).all λi=>match ops[i]? with
 |none=>false
 |some oi=>oi.dst.isSome
def J6(h:LZ ops n=true):∀i o,i<n->ops[i]?=some o->∃d,o.dst=some d:=by intro i o hi ho;have h1:=ac6.1 h i ψ;rw [ho] at h1;exact aon.1 h1
structure YK(ops:Array Oper)(n N:Nat):Prop where
 dst:∀i o d,i<n->ops[i]?=some o->o.dst=some d->d<N
 back:∀i o e,i<n->ops[i]?=some o->e∈o.after->Region.binds .any e=true->e.on<i
 look:∀i k oi ok d,i<n->k<n->ops[i]?=some oi->ops[k]?=some ok->k≠i->ok.dst=some d->d∈oi.looksAt ops->(k<i/\kC oi k=true)\/(i<k/\kC ok i=true)
 one:∀i k oi ok d,i<n->k<n->ops[i]?=some oi->ops[k]?=some ok->k≠i->ok.dst=some d->oi.dst≠some d
def G8{N:Nat}(h:akE ops n N=true):YK ops n N:=by
 have key:∀i o,i<n->ops[i]?=some o->(∀d,o.dst=some d->d<N)/\(∀e∈o.after,Region.binds .any e=true->e.on<i)/\
   ∀k ok d,k<n->ops[k]?=some ok->k≠i->ok.dst=some d->(d∈o.looksAt ops->(k<i/\kC o k=true)\/(i<k/\kC ok i=true))/\o.dst≠some d:=by
  intro i o hi ho;have h1:=ac6.1 h i ψ;rw [ho] at h1;simp only [Bool.and_eq_true] at h1;have⟨⟨h2,h3⟩,h4⟩:=h1;refine⟨?_,?_,?_⟩
  ·grind
  ·intro e he hb
   have:=Array.all_eq_true_iff_forall_mem.1 h3 e he;simp_all
  ·intro k ok d hk hok hne hd
   have h5:=ac6.1 h4 k<|ah0.2 hk;rw [hok] at h5;simp only [hd,Bool.or_eq_true,Bool.and_eq_true,beq_iff_eq,hne,false_or,Bool.not_eq_true',decide_eq_true_eq,bne_iff_ne] at h5;refine⟨λhm=>?_,h5.2⟩;rcases h5.1 with(h6|h6)|h6
   ·have:(o.looksAt ops).contains d=true:=by simpa using hm
    rw [this] at h6;cases h6
   ·exact Or.inl h6
   ·exact Or.inr h6
 exact⟨λi o d hi ho hd=>(key i o hi ho).1 d hd,λi o e hi ho he hb=>(key i o hi ho).2.1 e he hb,λi k oi ok d hi hk hoi hok hne hd hm=>((key i oi hi hoi).2.2 k ok d hk hok hne hd).1 hm,
  λi k oi ok d hi hk hoi hok hne hd=>((key i oi hi hoi).2.2 k ok d hk hok hne hd).2⟩
section
variable {P:Program} {ops:Array Oper} {n N:Nat} {a0:Act} {w0:Wz}
def Bf.start(vs:Nat->Value):Bf ops n a0 (λ_=>False) vs a0:=⟨O,O,λ_ _ _ _ _ h=>h.elim,λ_ _=>rfl⟩
def Bf.put{vs:Nat->Value}(hr:YK ops n N)(hN:a0.tmps.size=N)(h:Bf ops n a0 D vs a)(hi:i<n)(ho:ops[i]?=some o)(hD:¬D i)(v:Value):
  Bf ops n a0 (λk=>D k\/k=i) (λk=>if k=i then v else vs k) (a.put o.dst v):=by
 cases hdst:o.dst with
 |none=>
  refine⟨h.size,h.defs,λk ok d' hk hok gQ hd'=>?_,λt ht=>h.no t ψ⟩;have hki:k≠i:=by
   grind
  show a.tmps[d']?=some (if k=i then v else vs k)
  rw [if_neg hki];exact h.wr k ok d' hk hok ψ hd'
 |some d=>
 have hd:=hdst;have hdN:=hr.dst i o d hi ho hd;rw [<-hdst];refine⟨by rw [hd];simpa [Act.put] using h.size,by rw [hd];exact h.defs,?_,?_⟩
 ·intro k ok d' hk hok gQ hd'
  rw [hd]
  by_cases hki:k=i
  ·subst hki
   obtain rfl:ok=o:=ahT ψ;obtain rfl:d'=d:=ahT ψ;have hlt:d'<a.tmps.size:=by rw [h.size,hN];omega
   simp [Act.put,hlt]
  ·have hne:d≠d':=by
    rintro rfl;exact hr.one i k o ok d hi hk ho hok hki hd' hd
   rcases gQ with gQ|gQ
   ·have:=h.wr k ok d' hk hok gQ hd'
    simp [Act.put,Array.getElem?_setIfInBounds_ne hne,hki,this]
   omega
 ·intro t ht
  have hne:d≠t:=by
   grind
  rw [hd];have:=h.no t ψ;simp [Act.put,Array.getElem?_setIfInBounds_ne hne,this]
def Bf.congr{vs vs':Nat->Value}(h:Bf ops n a0 D vs a)(hD:∀k,k<n->(D k↔D' k))(hv:∀k,k<n->D k->vs k=vs' k):Bf ops n a0 D' vs' a:=
 ⟨h.size,h.defs,λk o d hk ho hd hdst=>by rw [h.wr k o d hk ho ψ hdst,hv k hk ψ],λt ht=>h.no t ψ⟩
def nR(hl:l.toArray=ops)(hr:YK ops n N)(hN:a0.tmps.size=N)(hn:n<=l.length)(vs:Nat->Value):∀i,i<=n->Bf ops n a0 (λk=>k<i) vs (fM (l.take i) 0 a0 vs)
 |0,_=>(Bf.start vs).congr ψ (λ_ _ h=>h.elim)
 |i+1,hi=>by
  have ih:=nR hl hr hN hn vs i Z;have hil:i<l.length:=Z
  have ho:ops[i]?=some l[i]:=ψ
  have h1:=ih.put hr hN Z ho Z<|vs i;rw [List.take_succ_eq_append_getElem hil,NT,List.length_take,Nat.min_eq_left Z,Nat.zero_add];refine h1.congr Z (λk _ _=>?_)
  simp_all
def Bf.agree{vs:Nat->Value}(h:Bf ops n a0 D vs a)(h':Bf ops n a0 D' vs a')(t:Nat)(ht:∀k o,k<n->ops[k]?=some o->o.dst=some t->(D k↔D' k)):a.tmps[t]?=a'.tmps[t]? :=by by_cases hw:∃k o,k<n/\ops[k]?=some o/\o.dst=some t/\D k;have⟨k,o,hk,ho,hd,hD⟩:=hw;rw [h.wr k o t hk ho hD hd,h'.wr k o t hk ho ψ hd];rw [h.no t ψ,h'.no t ψ]
def Bf.uniq{vs:Nat->Value}(h:Bf ops n a0 D vs a)(h':Bf ops n a0 D' vs a')(hD:∀k,k<n->(D k↔D' k)):a=a':=by have h1:a.tmps=a'.tmps:=Array.ext_getElem? (λt=>h.agree h' t ψ);have h2:a.defers=a'.defers:=h.defs.trans h'.defs.symm;cases a;simp_all
def Uh(h:∀t∈o.looksAt ops,a.tmps[t]?=a'.tmps[t]?):Region.wanted o (yielded ops a.tmps)=Region.wanted o (yielded ops a'.tmps):=by unfold Region.wanted;cases hg:o.guard with|none=>rfl|some gw=>(have⟨g,want⟩:=gw;have hy:yielded ops a.tmps g=yielded ops a'.tmps g:=(by unfold yielded;cases hd:(ops[g]?).bind (·.dst) with|none=>rfl|some d=>have hm:d∈o.looksAt ops:=aHb;simp_all);simp_all)
def Mc(hs:∀cs b,o.op≠ .select cs b)(h:∀t∈o.looksAt ops,a.tmps[t]?=a'.tmps[t]?):execOp a.eval o=execOp a'.eval o:=
 execOp_congr o hs λx hx=>by
  cases x with
  |tmp t=>
   have hm:t∈o.looksAt ops:=alk _ (amN.2 ⟨.tmp t,by simp_all,O⟩);simp [Act.eval,h t hm]
  |_=>rfl
def WX{A:Act}{K1 K2:Act->World->Prop}(he:execOp a.eval o=execOp A.eval o)(hA:A.defers=[]) 
  (hK:∀v w',K1 (A.put o.dst v) w'->K2 (a.put o.dst v) w') (hd:∀a' w',K1 a' w'->a'.defers=[]) (h:o.wp P A w K1<|λ_ _ _=>False):o.wp P a w K2 Q:=by
 unfold Oper.wp at *;rw [he];generalize (execOp A.eval o).run P w=r at *;cases r with
 |ok x w'=>
  cases x <;> simp only [Oper.upon] at h ⊢
  case value v=>simp_all
  case skip=>simp_all
  case defer d=>
   have:=hd _ _ h;cases ho:o.dst <;> simp [Act.put,ho] at this
  case enter f args=>
   refine h.mono (λe w'' he=>?_);cases e with
   |returned v=>simp_all
   |panicked c=>simp_all
   |outgrown=>
    have⟨_,_,hh⟩:=he;simp_all
  case row row args=>exact Rows.mono h (λv w'' he=>hK v w'' he)
 |halt x w'=>
  cases x <;> simp only [Oper.upon] at h ⊢
def vG(hd:o.dst=some d)(hlt:d<a.tmps.size):valOf o (a.put o.dst v)=v:=by unfold valOf;rw [hd];simp [Act.put,hlt]
def YD(listed:Array Bool)(n:Nat):Nat:=((List.range n).filter λk=> !listed.getD k false).length
def ahF{n:Nat}(h:YD listed n=0)(k:Nat)(hk:k<n):listed.getD k false=true:=by have h1:=acO h;simp_all
def ala{n f:Nat}(h:YD listed n=f+1):∃i,i<n/\listed.getD i false=false/\∀k,k<i->listed.getD k false=true:=by have hex:∃i,i<n/\listed.getD i false=false:=(by unfold YD at h;have⟨i,hi⟩:=List.exists_mem_of_length_pos (l:=(List.range n).filter λk=> !listed.getD k false) Z;grind);clear h;have⟨i,hi⟩:=hex;induction i using Nat.strongRecOn with|_ i ih=>grind
def alb{n f:Nat}(h:YD listed n=f+1)(hi:i<n)(hs:i<listed.size)(hl:listed.getD i false=false):YD (listed.setIfInBounds i true) n=f:=by have hcount:∀m,i<m->YD (listed.setIfInBounds i true) m+1=YD listed m:=(by intro m;induction m with|zero=>omega|succ m ih=>intro hm;have e1:∀(L:Array Bool),YD L (m+1)=YD L m+(if L.getD m false then 0 else 1):=(by intro L;unfold YD;rw [List.range_succ,List.filter_append,List.length_append];grind);rw [e1,e1];by_cases hmi:m=i;subst hmi;have hz:∀m',m'<=m->YD (listed.setIfInBounds m true) m'=YD listed m':=(by intro m' hm';unfold YD;congr 1;refine List.filter_congr (λk hk=>?_);have hkm:m≠k:=ψ;simp_all);simp_all;have hne:i≠m:=Z;rw [getD_set_ne false hne];omega);grind
def ag1(ops:Array Oper)(n:Nat):Bool:=Region.seqB .any ops (ops.size-n) n<|Array.replicate n true++Array.replicate (ops.size-n) false
def allB(ops:Array Oper)(n N:Nat):Bool:=Region.noSelect ops && akE ops n N && decide (n<=ops.size) && (decide (n=ops.size) || (Region.sinkB .any ops n && Region.chainB .any ops n)) && ag1 ops n
def Jp(ops:Array Oper)(i:Nat):Bool:=match ops[i]? with
 |none=>false
 |some o=>(match o.op with|.move _=>true|_=>false) && o.dst.isSome && o.after.all (λe=> !Region.binds .any e) && (match o.guard with|none=>true|some _=>false) && Region.free .any ops (Array.replicate ops.size false) i
def afw{ops:Array Oper}(h:Jp ops i=true):∃o x d,ops[i]?=some o/\o.op=.move x/\o.dst=some d/\(∀e∈o.after,Region.binds .any e=false)/\o.guard=none/\∀listed:Array Bool,Region.free .any ops listed i=true:=by unfold Jp at h;split at h;cases h;rename_i o ho;simp only [Bool.and_eq_true] at h;have⟨⟨⟨⟨h1,h2⟩,h3⟩,h4⟩,h5⟩:=h;have⟨d,hd⟩:=aon.1 h2;split at h1;rename_i x hx;refine⟨o,x,d,ho,hx,hd,λe he=>?_,?_,λlisted=>?_⟩;simpa using Array.all_eq_true_iff_forall_mem.1 h3 e he;grind;unfold Region.free at h5 ⊢;rw [ho] at h5 ⊢;simp only [List.all_eq_true,List.mem_range,Bool.or_eq_true] at h5 ⊢;intro j hj;rcases h5 j hj with(h|h)|h;simp_all;simp_all;simp_all;grind
def am2(ops:Array Oper)(n:Nat)(L:Nat->Bool):Prop:=∀i,i<n->L i=true\/∃j,j<=n/\i<j/\Region.waitsFor .any ops j i=true
def WM{ops:Array Oper}{n:Nat}(hs:am2 ops n L)(hL:∀i,i<n->L i=true->listed.getD i false=true)(hc:Region.chainB .any ops n=true)(hn:n<ops.size)(inv:HeadInv .any ops n listed):
  ∀(d i:Nat),n-i=d->i<n->listed.getD i true=false->∀t,n<=t->t ∉ Region.ready .any ops listed:=by
 intro d
 induction d using Nat.strongRecOn with
 |_ d ih=>
  intro i hd hi hun t ht hr;have⟨_,ot,hot,hall⟩:=mem_ready.1 hr;have htlt:t<ops.size:=ψ
  by_cases htn:t=n
  ·subst htn
   rcases hs i hi with h0|⟨j,hjle,hij,hj2⟩
   ·grind
   have⟨oj,hoj,e,he,hb,hon⟩:=Region.waitsFor_spec hj2
   by_cases hjt:j=t
   ·grind
   ·cases hl:listed.getD j false with
    |true=>
     have h2:=inv.closed j oj hoj hl e he hb;grind
    |false=>
     grind
  ·have h1:=ac6.1 hc t ψ
   simp only [Bool.or_eq_true,decide_eq_true_eq] at h1;rcases h1 with h1|h1
   ·omega
   ·have⟨o',eG,e,he,hb,hon⟩:=Region.waitsFor_spec h1
    have:o'=ot:=ψ;subst this;have h2:=hall e he hb;rw [hon,getD_both<|inv.tail (t-1) Z Z] at h2;grind
def abp(ops:Array Oper)(n N:Nat)(L:Nat->Bool):Prop:=((((Region.noSelect ops=true/\akE ops n N=true)/\n<=ops.size)/\(n=ops.size\/am2 ops n L/\Region.chainB .any ops n=true))/\ag1 ops n=true)
def adS{ops:Array Oper}{n N:Nat}(h:allB ops n N=true):abp ops n N (λ_=>false):=by simp only [allB,Bool.and_eq_true,decide_eq_true_eq,Bool.or_eq_true] at h;have⟨⟨⟨h1,h2⟩,h3⟩,h4⟩:=h;refine⟨⟨ψ,h3.imp id λ⟨hs,hc⟩=>⟨λi hi=>Or.inr ?_,hc⟩⟩,h4⟩;have⟨j,hj,hj2⟩:=ahX.1<|ac6.1 hs i ψ;grind
def LG(ops:Array Oper)(n N:Nat)(ls:List Nat):Bool:=Region.noSelect ops && akE ops n N && decide (n<=ops.size) && ((List.range n).all (λi=>ls.contains i || (List.range<|n+1).any λj=>decide (i<j) && Region.waitsFor .any ops j i) && Region.chainB .any ops n) && ag1 ops n && ls.all (λi=>Jp ops i)
def FD{ops:Array Oper}{n N:Nat}{ls:List Nat}(h:LG ops n N ls=true):abp ops n N (λi=>ls.contains i)/\∀i,ls.contains i=true->Jp ops i=true:=by simp only [LG,Bool.and_eq_true,decide_eq_true_eq] at h;have⟨⟨⟨⟨h1,h2⟩,hs,hc⟩,h4⟩,h5⟩:=h;refine⟨⟨⟨ψ,Or.inr ⟨λi hi=>?_,hc⟩⟩,h4⟩,λi hi=>ac6.1 h5 i aCj⟩;have:=ac6.1 hs i<|ah0.2 hi;rw [Bool.or_eq_true] at this;refine this.imp id λh=>?_;have⟨j,hj,hj2⟩:=ahX.1 h;simp only [Bool.and_eq_true,decide_eq_true_eq] at hj2;exact⟨j,by have:=ah0.1 hj;omega,hj2.1,hj2.2⟩
def uK(D:Nat->Prop)(i:Nat):Nat->Prop:=λk=>D k\/k=i
def og(vs:Nat->Value)(i:Nat)(v:Value):Nat->Value:=λk=>if k=i then v else vs k
def adi(P:Program)(ops:Array Oper)(l:List Oper)(a0:Act)(J:(Nat->Prop)->(Nat->Value)->World->Prop)(i:Nat)(o:Oper):Prop:=
 ∀(D:Nat->Prop) (vs:Nat->Value) (w:World),¬D i->(∀j,kC o j=true->D j)->(∀k ok,ops[k]?=some ok->D k->∀j,kC ok j=true->D j)->J D vs w->
  IfW (Region.wanted o<|yielded ops (fM (l.take i) 0 a0 vs).tmps) (o.wp P (fM (l.take i) 0 a0 vs) w (λa' w'=>a'.defers=[]/\J (uK D i) (og vs i<|valOf o a') w')<|λ_ _ _=>False) (J (uK D i) (og vs i undef) w)
def adZ(hl:l.toArray=ops)(hB:abp ops n N L)(hL:∀i,i<n->L i=true->Jp ops i=true/\∀c a w d v,Q (.panic c) (a.put d v) w->Q (.panic c) a w)(hN:a0.tmps.size=N)(hdef:a0.defers=[]) 
  (hJ:∀D D' vs vs' w,J D vs w->(∀k,k<n->(D k↔D' k))->(∀k,k<n->D k->vs k=vs' k)->J D' vs' w)
  (hS:∀i o,i<n->ops[i]?=some o->adi P ops l a0 J i o)
  (hF:∀D vs w,(∀k,k<n->D k)->J D vs w->wpList P ops Q (l.drop n) (fM (l.take n) 0 a0 vs) w):
  ∀(f:Nat) (listed:Array Bool) (vs:Nat->Value) (a:Act) (w:World),HeadInv .any ops n listed->YD listed n=f->Bf ops n a0 (λk=>listed.getD k false=true) vs a->
   J (λk=>listed.getD k false=true) vs w->wpAny P .any ops Q (f+(ops.size-n)) listed a w:=by
 obtain⟨⟨⟨⟨hsel,RG⟩,OG⟩,htail⟩,hrest⟩:=hB;have hr:=G8 RG;have hnl:n<=l.length:=by rw [<-hl] at OG;simpa using OG
 intro f
 induction f with
 |zero=>
  intro listed vs a w inv hu hia ao0;have hall:=ahF hu;have ha:a=fM (l.take n) 0 a0 vs:=hia.uniq (nR hl hr hN hnl vs n<|aav _) (λk hk=>⟨λ_=>hk,λ_=>hall k hk⟩);have hlist:listed=Array.replicate n true++Array.replicate (ops.size-n) false:=by
   refine Array.ext_getElem? (λt=>?_)
   by_cases htn:t<n
   ·have h1:=hall t htn
    have hts:t<listed.size:=by rw [inv.size];omega
    have h2:listed[t]?=some true:=by
     rw [Array.getD_eq_getD_getElem?,Array.getElem?_eq_getElem hts] at h1;rw [Array.getElem?_eq_getElem hts];simpa using h1
    rw [h2,Array.getElem?_append_left<|by simpa using htn];simp [htn]
   ·by_cases hts:t<ops.size
    ·have h1:=inv.tail t Z hts
     have auF:t<listed.size:=by rw [inv.size];exact hts
     have h2:listed[t]?=some false:=by
      rw [Array.getD_eq_getD_getElem?,Array.getElem?_eq_getElem auF] at h1;rw [Array.getElem?_eq_getElem auF];simpa using h1
     have h3:t-n<ops.size-n:=Z
     rw [h2,Array.getElem?_append_right<|by simpa using Nat.le_of_not_lt htn];simp [h3]
    ·rw [Array.getElem?_eq_none<|by rw [inv.size];omega,Array.getElem?_eq_none (by simp;omega)]
  have hdl:(l.drop n).length=ops.size-n:=by rw [<-hl];simp
  have:=wpAny_of_seq (ops:=ops) (P:=P) (md:=.any) (Q':=Q) (l.drop n) n listed a w (λj=>by rw [<-hl];simp [List.getElem?_drop]) (by rw [hdl,hlist];exact hrest) (by
   rw [ha];exact hF _ vs w (λk hk=>hall k hk) ao0)
  rw [hdl] at this;rw [Nat.zero_add];exact this
 |succ f ih=>
  intro listed vs a w inv hu hia ao0;rw [show f+1+(ops.size-n)=(f+(ops.size-n))+1 by omega];obtain⟨i0,auc,aub,ay0⟩:=ala hu;have aud:i0<listed.size:=by rw [inv.size];omega
  have step:∀(i:Nat) (o:Oper),i<n->ops[i]?=some o->i∈Region.ready .any ops listed->(∀t∈o.looksAt ops,a.tmps[t]?=(fM (l.take i) 0 a0 vs).tmps[t]?)/\(fM (l.take i) 0 a0 vs).defers=a0.defers/\(fM (l.take i) 0 a0 vs).tmps.size=a0.tmps.size/\
    IfW (Region.wanted o<|yielded ops (fM (l.take i) 0 a0 vs).tmps) (o.wp P (fM (l.take i) 0 a0 vs) w (λa' w'=>a'.defers=[]/\J (uK (λk=>listed.getD k false=true) i) (og vs i<|valOf o a') w')<|λ_ _ _=>False) (J (uK (λk=>listed.getD k false=true) i) (og vs i undef) w)/\
    ∀(v:Value) (w':World),J (uK (λk=>listed.getD k false=true) i) (og vs i v) w'->wpAny P .any ops Q (f+(ops.size-n)) (listed.setIfInBounds i true) (a.put o.dst v) w':=by
   intro i o hin ho hi;obtain⟨hun,o',eG,hall⟩:=mem_ready.1 hi;have:o=o':=ahT<|ho.symm.trans eG;subst this;have hilt:i<ops.size:=(akv.1 ho).1;have hil:listed.getD i false=false:=getD_both hun;have his:i<listed.size:=by rw [inv.size];exact hilt
   have hA:=nR hl hr hN hnl vs i<|acQ hin;have hag:∀t∈o.looksAt ops,a.tmps[t]?=(fM (l.take i) 0 a0 vs).tmps[t]? :=by
    intro t ht;refine hia.agree hA t (λk ok hk hok hd=>?_)
    by_cases hki:k=i
    ·subst hki
     exact⟨λh=>(by rw [hil] at h;cases h),λh=>absurd h (Nat.lt_irrefl _)⟩
    ·rcases hr.look i k o ok t hin hk ho hok hki hd ht with⟨h1,h2⟩|⟨h1,h2⟩
     ·refine⟨λ_=>h1,λ_=>?_⟩
      obtain⟨e,he',hb⟩:=ahX.1 h2;have he:=Array.mem_toList_iff.1 he';simp only [Bool.and_eq_true,beq_iff_eq] at hb;have:=hall e he hb.1;rwa [hb.2] at this
     ·refine⟨λhkl=>?_,λh=>by omega⟩
      exfalso;obtain⟨e,he',hb⟩:=ahX.1 h2;have he:=Array.mem_toList_iff.1 he';simp only [Bool.and_eq_true,beq_iff_eq] at hb;have:=inv.closed k ok hok hkl e he hb.1;rw [hb.2,hil] at this;cases this
   have hpre:∀j,kC o j=true->listed.getD j false=true:=by
    intro j hj;obtain⟨e,he',hb⟩:=ahX.1 hj;have he:=Array.mem_toList_iff.1 he';simp only [Bool.and_eq_true,beq_iff_eq] at hb;have h1:=hall e he hb.1;rwa [hb.2] at h1
   have hcl:∀k ok,ops[k]?=some ok->listed.getD k false=true->∀j,kC ok j=true->listed.getD j false=true:=by
    intro k ok hok hkl j hj;obtain⟨e,he',hb⟩:=ahX.1 hj;have he:=Array.mem_toList_iff.1 he';simp only [Bool.and_eq_true,beq_iff_eq] at hb;have:=inv.closed k ok hok hkl e he hb.1;rwa [hb.2] at this
   have hst:=hS i o hin ho _ vs w (by rw [hil];exact Bool.noConfusion) hpre hcl ao0;have key:∀(v:Value) (w':World),J (uK (λk=>listed.getD k false=true) i) (og vs i v) w'->wpAny P .any ops Q (f+(ops.size-n)) (listed.setIfInBounds i true) (a.put o.dst v) w':=by
    intro v w' hp;have hD:∀k,k<n->((listed.getD k false=true\/k=i)↔(listed.setIfInBounds i true).getD k false=true):=λk hk=>by
     by_cases hki:k=i
     ·subst hki
      simp [his]
     ·have hne:i≠k:=λe=>hki e.symm
      rw [getD_set_ne false hne];simp [hki]
    have ay1:=(hia.put hr hN hin ho (by rw [hil];simp) v).congr (D':=λk=>(listed.setIfInBounds i true).getD k false=true) (vs':=og vs i v) hD (λ_ _ _=>rfl);exact ih _ _ _ _ (inv.set hi hin) (alb hu hin his hil) ay1 (hJ _ _ _ _ _ hp hD<|λ_ _ _=>rfl)
   exact⟨hag,hA.defs,hA.size,hst,key⟩
  by_cases amf:∃i,i<n/\L i=true/\listed.getD i false=false
  ·obtain⟨i,hin,hLi,hil⟩:=amf
   obtain⟨hlb,hQ⟩:=hL i hin hLi;obtain⟨o,x,d,ho,hop,hd,haf,hg,hfree⟩:=afw hlb;have his:i<listed.size:=by rw [inv.size];omega
   have hrd:i∈Region.ready .any ops listed:=mem_ready.2 ⟨getD_in his hil,o,ho,λe he hb=>by rw [haf e he] at hb;cases hb⟩;obtain⟨hag,hdf,hsz,hst,key⟩:=step i o hin ho hrd;have hrun:∀(ev:Operand->Value) (w:World),(execOp ev o).run P w=.ok (.value<|ev x) w:=λev w=>by unfold execOp;rw [hop];rfl
   have hw:∀t:Array Value,Region.wanted o (yielded ops t)=true:=λt=>by unfold Region.wanted;rw [hg]
   have hev:(fM (l.take i) 0 a0 vs).eval x=a.eval x:=by
    have e:=ah9 (λm=>m.run P w)<|Mc (Region.noSelect_spec hsel i o · · ho) hag;simp only [hrun] at e
    injection e with e1 _
    injection e1 with e2
    exact e2.symm
   have h1:=hst.1<|hw _;unfold Oper.wp at h1;rw [hrun] at h1;have h2:=h1.2;rw [vG hd<|by rw [hsz,hN];exact hr.dst i o d hin ho hd,hev] at h2;exact wpAny_take ho hsel (hfree _) (by simpa using hrd) (λc a w=>hQ c a w _ _) (Or.inl ⟨hw _,λw=>hrun _ w⟩)<|key _ _ h2
  refine⟨λhno=>?_,λi hi=>?_⟩
  ·exfalso
   have ho:∃o,ops[i0]?=some o:=⟨ops[i0]' Z,Array.getElem?_eq_getElem Z⟩
   obtain⟨o,ho⟩:=ho;have:i0∈Region.ready .any ops listed:=mem_ready.2 ⟨getD_in aud aub,o,ho,λe he hb=>ay0 _<|hr.back i0 o e auc ho he hb⟩;rw [hno] at this;cases this
  ·obtain⟨hun,o,ho,hall⟩:=mem_ready.1 hi
   have hilt:i<ops.size:=(akv.1 ho).1;have hin:i<n:=by
    rcases ahZ i n with h|h
    ·exact h
    ·rcases htail with h'|⟨hs,hc⟩
     ·omega
     ·have hnlt:n<ops.size:=Z
      exact absurd hi (WM hs (λi hi' h'=>by
       cases hq:listed.getD i false with
       |true=>rfl
       |false=>exact absurd ⟨i,hi',h',hq⟩ amf) hc hnlt inv _ i0 O auc (getD_in aud aub) i h)
   obtain⟨hag,hdf,hsz0,hst,key⟩:=step i o hin ho hi;unfold wpOp;rw [ho];simp only;rw [Uh hag];split
   ·rename_i hw
    have hst:=hst.1 hw;left;refine WX (Mc (Region.noSelect_spec hsel i o · · ho) hag) (by rw [hdf,hdef]) ?_ (λa' w' h=>h.1) hst;intro v w' h;obtain⟨_,h2⟩:=h;cases hdst:o.dst with
    |some d=>
     have hsz:d<(fM (l.take i) 0 a0 vs).tmps.size:=by rw [hsz0,hN];exact hr.dst i o d hin ho hdst
     rw [vG hdst hsz] at h2;rw [<-hdst];exact key v w' h2
    |none=>
     have e1:valOf o ((fM (l.take i) 0 a0 vs).put o.dst v)=undef:=by unfold valOf;rw [hdst]
     rw [e1] at h2;have h3:=key undef w' h2;rw [hdst] at h3;exact h3
   ·rename_i hw
    have hst:=hst.2 (by simpa using hw);exact key undef w hst
def vk{id:Nat}(n N:Nat)(hm:P.follows .mixedOrders=true)(hN:a0.tmps.size=N)(hdef:a0.defers=[])(hB:abp l.toArray n N L)(hL:∀i,i<n->L i=true->Jp l.toArray i=true/\∀c a w d v,Q (.panic c) (a.put d v) w->Q (.panic c) a w) 
  (hJ:∀D D' vs vs' w,J D vs w->(∀k,k<n->(D k↔D' k))->(∀k,k<n->D k->vs k=vs' k)->J D' vs' w)
  (h0:J (λ_=>False) (λ_=>undef) w.drew)
  (hS:∀i o,i<n->l.toArray[i]?=some o->adi P l.toArray l a0 J i o)
  (hF:∀D vs w',(∀k,k<n->D k)->J D vs w'->wpList P l.toArray Q (l.drop n) (fM (l.take n) 0 a0 vs) w'):
  (Code.region id l.toArray true).wp P Q a0 w:=by
 have hn:n<=l.toArray.size:=hB.1.1.2;refine wp_region_any hm ?_;have H:=adZ (P:=P) (J:=J) (Q:=Q) (l:=l) O hB hL hN hdef hJ hS hF n (Array.replicate l.toArray.size false) (λ_=>undef) a0 w.drew
  ⟨by simp,λj oj _ hl=>(by rw [getD_replicate_false] at hl;grind),λt _ ht=>getD_in aCj (getD_replicate_false _ _)⟩
  (by unfold YD;rw [List.filter_eq_self.2<|λk _=>by rw [getD_replicate_false];rfl,List.length_range])
  ⟨O,O,λk o d _ _ h=>(by rw [getD_replicate_false] at h;cases h),λ_ _=>rfl⟩ (hJ _ _ _ _ _ h0 (λk _=>by rw [getD_replicate_false];simp) ψ)
 simp_all
def WW{id:Nat}(n N:Nat)(hm:P.follows .mixedOrders=true)(hN:a0.tmps.size=N)(hdef:a0.defers=[])(hB:allB l.toArray n N=true) 
  (hJ:∀D D' vs vs' w,J D vs w->(∀k,k<n->(D k↔D' k))->(∀k,k<n->D k->vs k=vs' k)->J D' vs' w)
  (h0:J (λ_=>False) (λ_=>undef) w.drew)
  (hS:∀i o,i<n->l.toArray[i]?=some o->adi P l.toArray l a0 J i o)
  (hF:∀D vs w',(∀k,k<n->D k)->J D vs w'->wpList P l.toArray Q (l.drop n) (fM (l.take n) 0 a0 vs) w'):
  (Code.region id l.toArray true).wp P Q a0 w:=vk n N hm hN hdef (adS hB) ψ hJ h0 hS hF
end
end Am
def nJ:AV->Option Nat
 |.p id _|.q id|.iL id _ _ _|.lim id _|.fO id _|.w id=>some id
 |_=>none
def tZ{av:AV}{c:Value}{id:Nat}(hi:nJ av=some id)(h:AR ρ B w av c):∃v,ρ id=some v:=by cases av <;> simp only [nJ,Option.some.injEq,reduceCtorEq] at hi;subst hi;have⟨g,h1,_⟩:=h;simp_all;subst hi;exact⟨_,h.1⟩;subst hi;have⟨g,n,cap,h1,_⟩:=h;simp_all;subst hi;have⟨_,v,h1,_⟩:=h;simp_all;subst hi;have⟨g,h1,_⟩:=h;simp_all;subst hi;assumption
def Jm:Op->Bool
 |.call c=>match c.callee with
  |.builtin .len=>true
  |_=>false
 |_=>false
def PK(ops:Array Oper)(t:Nat):Bool:=ops.toList.all λo=>match o.dst with
 |some d=> !Nat.beq d t
 |none=>true
def VW{t:Nat}(h:PK l.toArray t=true)(ho:l[k]?=some o):o.dst≠some t:=λe=>by
 have h1:∀o∈l,(match o.dst with|some d=> !Nat.beq d t|none=>true)=true:=ac6.1 h
 have:=h1 o<|ajo ho;simp_all
def ako{x y:Value}{id:Nat}{sz:Nat}(hv:AR ρ B w (.d<|.o<|.v x) v)(hy:ρ id=some y)(ho:OR B' w0 w (.i x<|.a e sz n el) y):AR ρ B w (.q id) v:=by obtain⟨e1,_⟩:v=x/\_:=hv;have⟨e2,ho⟩:=ho;have h2:=AO.BG (B':=B) ho hy;rw [e1,<-e2];exact h2
section
variable {P:Program} {T:TypeId→Option TI} {ops:Array Oper} {s s':AS} {o:Oper}
def YH(P:Program)(s:AS)(o:Oper)(av:AV):Prop:=∀(ρ:lq) (B:BS) (w:World) (a:Act),(∀x∈o.op.operands,∀mJ,dR s x=some mJ->AR ρ B w mJ (a.eval x))->∃v,(execOp a.eval o).run P w=.ok (.value v) w/\AR ρ B w av v
inductive aC (P:Program) (T:TypeId->Option TI) (ops:Array Oper) (o:Oper) (s:AS):AS->Prop
 |V (av:AV) (h:kE T s o.op=some av) (hg:jD ops s o=some true:=by rfl) (hd:jQ o.dst s.n=true:=by rfl):aC P T ops o s (s.put o.dst av)
 |B (av:AV) (h:evB T s o.op=some av) (hg:jD ops s o=some true:=by rfl) (hd:jQ o.dst s.n=true:=by rfl):aC P T ops o s (s.put o.dst av)
 |G (hg:jD ops s o=some false) (hd:jQ o.dst s.n=true):aC P T ops o s (s.put o.dst .D)
 |N (ob:AO) (h:evN T s o.op=some ob) (d:Nat) (hdst:o.dst=some d) (hfr:lk s.hp d=none) (hg:jD ops s o=some true:=by rfl) (hd:jQ (some d) s.n=true:=by rfl):aC P T ops o s (s.mk' d ob)
 |X (av:AV) (h:YH P s o av) (hg:jD ops s o=some true:=by rfl) (hd:jQ o.dst s.n=true:=by rfl):aC P T ops o s (s.put o.dst av)
 |Y (x:Value) (tw id:Nat) {av0:AV}{e:TypeId}{sz n:Nat}{el:Nat->Nat->Lf} (h:kE T s o.op=some (.d (.o (.v x)))) (hw:lk s.sl tw=some av0) (hi:nJ av0=some id) (hn:PK ops tw=true) (ho:lk s.hp id=some (.i x (.a e sz n el))) (hl:Jm o.op=false:=by rfl) (hg:jD ops s o=some true:=by rfl) (hd:jQ o.dst s.n=true:=by rfl):aC P T ops o s (s.put o.dst (.q id))
 |S (id:Nat) (ob:AO) (h:evS T s o.op=some (id,ob)) (hdst:o.dst=none) (hg:jD ops s o=some true:=by rfl):aC P T ops o s ⟨s.n,s.sl,(id,ob)::s.hp⟩
 |C {c:Call}{f:FuncId}{cap ds:List DV}{res:AV} (h:aH P f (ds++cap) res) (hc:gX o.op=some c) (hf:Rl s c.callee=some (f,cap)) (ha:nK s c.args.toList=some ds) (hg:jD ops s o=some true:=by rfl) (hd:jQ o.dst s.n=true:=by rfl):aC P T ops o s (s.put o.dst res)
def xg{s s':AS}:∀(l:List<|Nat×Operand),(∀p∈l,dR s p.2=dR s' p.2)->Ei s l=Ei s' l
 |[],_=>rfl
 |(i,x)::r,h=>by
  unfold Ei;rw [h (i,x) aCY,xg r<|λp hp=>h p<|by simp [hp]]
def sZ{s s':AS}:∀(l:List Operand),(∀x∈l,dR s x=dR s' x)->Aq s l=Aq s' l
 |[],_=>rfl
 |x::r,h=>by
  unfold Aq;rw [h x aCY,sZ r<|λp hp=>h p<|by simp [hp]]
def sW{s s':AS}:∀(l:List Operand),(∀x∈l,dR s x=dR s' x)->nK s l=nK s' l
 |[],_=>rfl
 |x::r,h=>by
  unfold nK;rw [h x aCY,sW r<|λp hp=>h p<|by simp [hp]]
def vF(Fq:s.hp=s'.hp)(h:∀x∈op.operands,dR s x=dR s' x):kE T s op=kE T s' op:=by have hint:∀x∈op.operands,nC s x=nC s' x:=λx hx=>(by unfold nC;simp_all);cases op with|move x=>exact h x aCF|assign x=>exact h x aCF|pick c a b=>simp only [kE];rw [h c aCF,h a aCF,h b aCF]|load t x=>simp only [kE];rw [h x aCF,Fq]|binOp op t x y yt=>simp only [kE];rw [h x aCF,h y aCF]|unOp op t x=>simp only [kE];exact atB|convert src dst x=>simp only [kE];exact atB|fieldAddr t x f=>simp only [kE];exact atB|field t x f=>simp only [kE];exact atB|extract x i=>simp only [kE];exact atB|indexAddr t x ix=>simp only [kE];rw [h x aCF,hint ix aCF,Fq]|slice t x lo hi mx=>(cases mx with|some m=>rfl|none=>(have hlo:∀d,sS s lo d=sS s' lo d:=(by intro d;cases lo with|none=>rfl|some y=>simp only [sS];rw [hint y aCF]);have hhi:∀d,sS s hi d=sS s' hi d:=(by intro d;cases hi with|none=>rfl|some y=>simp only [sS];rw [hint y aCF]);simp only [kE,h x aCF,hlo,hhi]))|build t ps=>simp only [kE];exact awT|call c=>have hargs:∀x∈c.args.toList,dR s x=dR s' x:=λx hx=>h x (by simp only [Op.operands,Call.operands];simp_all);have hl:=sZ c.args.toList hargs;simp only [kE];rw [hl,Fq];split;split;simp_all;rfl;rfl;rfl;rfl|makeFunc fn fi caps=>(have hl:=sZ caps.toList (λx hx=>h x<|by simp only [Op.operands];simp_all);cases fn <;> first|rfl|(simp only [kE];rw [hl]))|_=>rfl
def Ip(h:∀x∈op.operands,dR s x=dR s' x):evN T s op=evN T s' op:=by have hi:∀x∈op.operands,nC s x=nC s' x:=λx hx=>(by unfold nC;simp_all);cases op with|box t x=>simp only [evN];exact atB|makeSlice t l c=>simp only [evN];rw [hi l aCF,hi c aCF]|_=>rfl
def Io(h:∀x∈op.operands,dR s x=dR s' x):evB T s op=evB T s' op:=by cases op with|buildSlice t len ps=>simp only [evB];exact awT|_=>rfl
def EN(h:∀x∈c.operands,dR s x=dR s' x):Rl s c.callee=Rl s' c.callee:=by unfold Call.operands at h;cases hc:c.callee with|value x=>rw [hc] at h;simp only [Rl];simp_all|_=>rfl
def iW(sl:List<|Nat×AV):List Nat->List (Nat×AV)
 |[]=>[]
 |t::ts=>match lk sl t with
  |some av=>(t,av)::iW sl ts
  |none=>iW sl ts
def qI:∀(ts:List Nat) (t:Nat),t∈ts->lk (iW sl ts) t=lk sl t
 |[],t,h=>by simp at h
 |u::ts,t,h=>by
  unfold iW
  by_cases e:u=t
  ·subst e
   cases hl:lk sl u with
   |some av=>simp only;exact azA
   |none=>
    simp only
    by_cases hm:u∈ts
    ·rw [qI ts u hm,hl]
    ·exact EZ ts u hm
  ·have hm:t∈ts:=by
    grind
   split
   ·rw [aY,if_neg e,qI ts t hm]
   ·exact qI ts t hm
where
 EZ:∀ (ts:List Nat) (t:Nat),¬ t∈ts→lk (iW sl ts) t=none
 | [],t,_=>rfl
 | u ::ts,t,h=>by
  unfold iW;simp only [List.mem_cons,not_or] at h;split
  ·rw [aY,if_neg (fun e=>h.1 e.symm),EZ ts t h.2]
  ·exact EZ ts t h.2
def DK:∀(ts:List Nat) (t:Nat) (av:AV),lk (iW sl ts) t=some av->t∈ts/\lk sl t=some av
 |[],t,av,h=>by cases h
 |u::ts,t,av,h=>by
  unfold iW at h;split at h
  ·rename_i mJ hl
   rw [aY] at h;split at h
   ·simp_all
   ·have⟨h1,h2⟩:=DK ts t av h
    simp_all
  ·have⟨h1,h2⟩:=DK ts t av h
   simp_all
def O9(h:∀t∈o.looksAt ops,lk s.sl t=lk s'.sl t):jD ops s o=jD ops s' o:=by
 unfold jD;cases hg:o.guard with
 |none=>rfl
 |some q=>
  have⟨j,want⟩:=q;simp only;cases hj:ops.toList[j]? with
  |none=>rfl
  |some oj=>
   simp only;cases hd:oj.dst with
   |none=>rfl
   |some d=>
    simp only;have hj':ops[j]?=some oj:=by rw [<-Array.getElem?_toList];exact hj
    rw [h d (by
     unfold Oper.looksAt;simp_all)]
end
section
open Go.RowKit Am
def NH{x y:Value}{id:Nat}(hv:AR ρ B w (.d<|.o<|.v x) v)(hy:ρ id=some y)(ho:OR B' w0 w (.i x ob) y):AR ρ B w (ob.av id) v:=by obtain⟨e1,_⟩:v=x/\_:=hv;have⟨e2,ho⟩:=ho;have h2:=AO.BG (B':=B) ho hy;simp_all
def vN(s:AS):AV:=match s.sl with
 |(_,av)::_=>av
 |[]=>.D
section
variable {P:Program} {T:TypeId→Option TI} {ops:Array Oper} {o:Oper} {Q:Qs}
def aC.shape(h:aC P T ops o s s')(hd:o.dst=some d):s'.n=s.n/\s'.sl=(d,vN s')::s.sl/\(s'.hp=s.hp\/∃ob,lk s.hp d=none/\s'.hp=(d,ob)::s.hp):=by cases h with|V av h hg hk=>simp [AS.put,hd,vN]|B av h hg hk=>simp [AS.put,hd,vN]|X av h hg hk=>simp [AS.put,hd,vN]|Y x tw id h hw hi hn ho hl hg hk=>simp [AS.put,hd,vN]|G hg hk=>simp [AS.put,hd,vN]|C h hc hf ha hg hk=>simp [AS.put,hd,vN]|N ob h d' hdst hfr hg hk=>rw [hd] at hdst;cases hdst;exact axo|S id ob h hdst hg=>simp_all
structure Way(l:List Oper)(n:Nat)(st:Nat->AS):Prop where
 nn:∀i:Nat,i<=n->(st i).n=(st 0).n
 sl:∀(i:Nat) (o:Oper) (d:Nat),i<n->l[i]?=some o->o.dst=some d->(st<|i+1).sl=(d,vN<|st<|i+1)::(st i).sl
 hp:∀i j:Nat,i<=j->j<=n->∀(id:Nat) (ob:AO),lk (st i).hp id=some ob->lk (st j).hp id=some ob
 new:∀i:Nat,i<=n->∀(id:Nat) (ob:AO),lk (st i).hp id=some ob->(lk (st 0).hp id).isSome=true\/∃(k:Nat) (o:Oper),k<i/\l[k]?=some o/\o.dst=some id
def Way.at{st:Nat->AS}(hw:Way l n st)(hl:n<=l.length)(hd:∀i o,i<n->l[i]?=some o->∃d,o.dst=some d)(hone:∀i k oi ok d,i<n->k<n->l[i]?=some oi->l[k]?=some ok->k≠i->ok.dst=some d->oi.dst≠some d):
  ∀(i:Nat),i<=n->∀(t:Nat),(∀(k:Nat) (o:Oper),k<i->l[k]?=some o->o.dst=some t->lk (st i).sl t=some (vN<|st<|k+1))/\((∀(k:Nat) (o:Oper),k<i->l[k]?=some o->o.dst≠some t)->lk (st i).sl t=lk (st 0).sl t)
 |0,_,t=>⟨λk o hk=>absurd hk<|acH _,λ_=>rfl⟩
 |i+1,hi,t=>by
  have⟨ih1,ih2⟩:=Way.at hw hl hd hone i Z t;have ho:l[i]?=some (l[i]' Z):=by simp
  have⟨d,hdd⟩:=hd i _ Z ho;rw [hw.sl i _ d Z ho hdd,aY];refine⟨λk o hk hko hkd=>?_,λhno=>?_⟩
  ·by_cases hki:k=i
   ·subst hki
    rw [ho] at hko;cases hko
    rw [hdd] at hkd;cases hkd
    rw [if_pos O]
   ·rw [if_neg<|λe=>hone i k _ o t Z Z ho hko hki hkd<|by rw [hdd,e]]
    exact ih1 k o Z hko hkd
  ·rw [if_neg<|λe=>hno i _ Z ho<|by rw [hdd,e]]
   exact ih2 (λk o hk hko=>hno k o Z hko)
def Jr(l:List Oper)(n:Nat)(st:Nat->AS)(B0:BS)(w0:Wz)(a0:Act)(D:Nat->Prop)(vs:Nat->Value)(w:World):Prop:=
 ∃ρ,gq ρ B0 w0 w (st n).hp/\(∀id v,ρ id=some v->(lk (st 0).hp id).isSome=true\/∃k o,k<n/\D k/\l[k]?=some o/\o.dst=some id)/\
  (∀t av,lk (st 0).sl t=some av->(∀k o,k<n->l[k]?=some o->D k->o.dst≠some t)->∃v,a0.tmps[t]?=some v/\AR ρ (Bd ρ B0) w av v)/\(∀k,k<n->D k->AR ρ (Bd ρ B0) w (vN<|st<|k+1) (vs k))
def Jr.congr{st:Nat->AS}(D D':Nat->Prop)(vs vs':Nat->Value)(w:World)(h:Jr l n st B0 w0 a0 D vs w)(hD:∀k,k<n->(D k↔D' k))(hv:∀k,k<n->D k->vs k=vs' k):Jr l n st B0 w0 a0 D' vs' w:=by have⟨ρ,h1,h2,h3,h4⟩:=h;refine⟨ρ,h1,λid v h=>?_,λt av ht hno=>h3 t av ht<|λk o hk ho gQ=>hno k o hk ho<|(hD k hk).1 gQ,λk hk gQ=>?_⟩;grind;simp_all
def Jr.same{st:Nat->AS}{vs:Nat->Value}(hb:Below w.heap.size w w')(h1:gq ρ B0 w0 w (st n).hp) 
  (h2:∀id v,ρ id=some v->(lk (st 0).hp id).isSome=true\/∃k o,k<n/\D k/\l[k]?=some o/\o.dst=some id)
  (h3:∀t av,lk (st 0).sl t=some av->(∀k o,k<n->l[k]?=some o->D k->o.dst≠some t)->∃v,a0.tmps[t]?=some v/\AR ρ (Bd ρ B0) w av v)
  (h4:∀k,k<n->D k->AR ρ (Bd ρ B0) w (vN<|st<|k+1) (vs k)) (hv:AR ρ (Bd ρ B0) w' (vN<|st<|i+1) v) (hni:¬D i):Jr l n st B0 w0 a0 (uK D i) (og vs i v) w':=by refine⟨ρ,h1.below hb,λid u h=>?_,λt av ht hno=>?_,λk hk gQ=>?_⟩;rcases h2 id u h with h|⟨k,o,hk,gQ,h⟩;simp_all;exact axX;have⟨u,h5,h6⟩:=h3 t av ht (λk o hk ho gQ=>hno k o hk ho<|Or.inl gQ);exact⟨u,h5,h6.below hb⟩;unfold og;by_cases e:k=i;simp_all;rw [if_neg e];rcases gQ with gQ|gQ;exact(h4 k hk gQ).below hb;omega
def gV{a A:Act}{w w':World}{v:Value}{K:Act->World->Prop}{Qw:Exit->Act->World->Prop}(hr:(execOp A.eval o).run P w=.ok (.value v) w')(hk:K (A.put o.dst v) w'):o.wp P A w K Qw:=by unfold Oper.wp;rw [hr];exact hk
end
def gq.lkc(h:gq ρ B0 w0 w hp)(hl:∀id,(∃v,ρ id=some v)->lk hp id=lk hp' id):gq ρ B0 w0 w hp':=
 ⟨h.bel,h.b0,λid v hv=>by rw [<-hl id ψ];exact h.obj id v hv,h.dist⟩
def BX(ks kw:List Nat)(av:AV):AV:=match nJ av with
 |some i=>bif ks.any λk=>Nat.beq k i then(bif kw.any λk=>Nat.beq k i then .w i else .D) else av
 |none=>av
def zQ{α:Type}:∀(l l':List<|Nat×α) (t:Nat),lk (l++l') t=match lk l t with|some x=>some x|none=>lk l' t
 |[],_,_=>rfl
 |(k,x)::l,l',t=>by
  rw [List.cons_append,aY,aY];split
  ·rfl
  ·exact zQ l l' t
def Al(ρ:lq)(ids:List Nat):Prop:=∀id∈ids,∃v,ρ id=some v
def gsu(ops:Array Oper)(s:AS)(o:Oper):Bool:=
 match o.guard with
 |none=>false
 |some (j,_)=>match ops.toList[j]? with
  |some oj=>match oj.dst with
   |some d=>match lk s.sl d with
    |some (.dY [])=>true
    |_=>false
   |none=>false
  |none=>false
def XR(h:gsu ops s o=true)(hs:gu ρ B w s.sl a):Region.wanted o (yielded ops a.tmps)=false:=by unfold gsu at h;unfold Region.wanted;split at h;simp_all;rename_i j want hg;rw [hg];split at h;rename_i oj hj;split at h;rename_i d hd;split at h;rename_i hb;have⟨v,hv,hr⟩:=hs d _ hb;obtain⟨cs,rfl,hcs⟩:=hr;have hj':ops[j]?=some oj:=(by rw [<-Array.getElem?_toList];exact hj);exact azO;simp_all;simp_all;simp_all
def abg(s s':AS)(o:Oper):Prop:=∀x∈o.op.operands,dR s x=dR s' x
def Ext(hp hp':List<|Nat×AO):Prop:=∀id ob,lk hp id=some ob->lk hp' id=some ob
def aia(ρ:lq)(B0:BS)(w0:Wz)(w w2:World)(ob:AO)(v:Value):Prop:=Below w.heap.size w w2/\(∀b,kK v=some b->w.heap.size<=b)/\∀d,ρ d=none->OR (Bd (up ρ d v) B0) w0 w2 ob v
def EvR(P:Program)(s:AS)(o:Oper)(ob:AO):Prop:=∀(ρ:lq) (B0:BS) (w0:Wz) (w:World) (a:Act) (hp:List<|Nat×AO) (s':AS),Ext s.hp hp->abg s s' o->gq ρ B0 w0 w hp->gu ρ (Bd ρ B0) w s'.sl a->
 (∃v w2,(execOp a.eval o).run P w=.ok (.value v) w2/\aia ρ B0 w0 w w2 ob v)\/∃f vs,(execOp a.eval o).run P w=.ok (.enter f vs) w/\Calls P f vs w λe w2=>∃v,e=.returned v/\aia ρ B0 w0 w w2 ob v
def EvL(P:Program)(s:AS)(o:Oper){Y:Type}(F:Y->Prop)(uN:Y->List (Nat×AO))(ks kw tX:List Nat)(r:AV):Prop:=∀(ρ:lq) (B0:BS) (w0:Wz) (w:World) (a:Act) (hp:List<|Nat×AO) (s':AS),Ext s.hp hp->abg s s' o->gq ρ B0 w0 w hp->gu ρ (Bd ρ B0) w s'.sl a->Al ρ tX->
 ∃f vs,(execOp a.eval o).run P w=.ok (.enter f vs) w/\Calls P f vs w λe w2=>∃v ρ2 y,e=.returned v/\F y/\gq ρ2 B0 w0 w2 (uN y++hp)/\(∀av u,AR ρ (Bd ρ B0) w av u->AR ρ2 (Bd ρ2 B0) w2 (BX ks kw av) u)/\(∀id u,ρ2 id=some u->∃u',ρ id=some u')/\AR ρ2 (Bd ρ2 B0) w2 r v
def EvM(P:Program)(s:AS)(o:Oper)(av:AV):Prop:=∀(ρ:lq) (B0:BS) (w0:Wz) (w:World) (a:Act) (hp:List<|Nat×AO) (s':AS),Ext s.hp hp->abg s s' o->gq ρ B0 w0 w hp->gu ρ (Bd ρ B0) w s'.sl a->∃v,(execOp a.eval o).run P w=.ok (.value v) w/\AR ρ (Bd ρ B0) w av v
def abk(ops:Array Oper)(n:Nat)(s:AS)(tX:List Nat):Prop:=gW (λid=>∃t av,lk s.sl t=some av/\nJ av=some id/\PK (ops.toList.take n).toArray t=true) tX
inductive Ol (P:Program) (T:TypeId->Option TI) (ops:Array Oper) (n:Nat) (o:Oper) (s:AS):AS->Prop
 |S {s':AS} (h:aC P T ops o s s'):Ol P T ops n o s s'
 |R (ob:AO) (h:EvR P s o ob) (d:Nat) (hdst:o.dst=some d) (hfr:lk s.hp d=none) (hg:jD ops s o=some true:=by rfl) (hd:jQ (some d) s.n=true:=by rfl):Ol P T ops n o s (s.mk' d ob)
 |Y (x:Value) (tw id:Nat) {av0:AV}{ob:AO} (h:kE T s o.op=some (.d (.o (.v x)))) (hw:lk s.sl tw=some av0) (hi:nJ av0=some id) (hn:PK (ops.toList.take n).toArray tw=true) (ho:lk s.hp id=some (.i x ob)) (hg:jD ops s o=some true:=by rfl) (hd:jQ o.dst s.n=true:=by rfl):Ol P T ops n o s (s.put o.dst (ob.av id))
 |Gt (hg:jD ops s o=some false) (hd:jQ o.dst s.n=true):Ol P T ops n o s (s.put o.dst (.dY []))
 |U (hg:gsu ops s o=true) (hd:jQ o.dst s.n=true):Ol P T ops n o s (s.put o.dst (.dY []))
 |L (r:AV) (uN:List (Nat×AO)) (tX:List Nat) (h:EvL P s o (λ_:Unit=>True) (λ_=>uN) [] [] tX r) (hx:gW (λp=>lk s.hp p.1=some p.2) uN) (hw:abk ops n s tX) (hg:jD ops s o=some true:=by rfl) (hd:jQ o.dst s.n=true:=by rfl):Ol P T ops n o s<|s.put o.dst r
 |M (av:AV) (h:EvM P s o av) (hg:jD ops s o=some true:=by rfl) (hd:jQ o.dst s.n=true:=by rfl):Ol P T ops n o s (s.put o.dst av)
section
variable {P:Program} {T:TypeId→Option TI} {ops:Array Oper} {o:Oper} {Q:Qs}
def Ol.shape(h:Ol P T ops n o s s')(hd:o.dst=some d):s'.n=s.n/\s'.sl=(d,vN s')::s.sl/\(s'.hp=s.hp\/∃ob,lk s.hp d=none/\s'.hp=(d,ob)::s.hp):=by cases h with|S h=>exact h.shape hd|L=>simp [AS.put,hd,vN]|M=>simp [AS.put,hd,vN]|Y=>simp [AS.put,hd,vN]|Gt=>simp [AS.put,hd,vN]|U=>simp [AS.put,hd,vN]|R ob h d' hdst hfr=>rw [hd] at hdst;cases hdst;exact axo
structure JC(l:List Oper)(n N:Nat)(st:Nat->AS):Prop where
 hr:YK l.toArray n N
 hnl:n<=l.length
 hD:LZ l.toArray n=true
 way:Way l n st
def aqR{st:Nat->AS}(hl:n<=l.length)(step:∀i,i<n->∃o d,l[i]?=some o/\o.dst=some d/\(st<|i+1).n=(st i).n/\(st<|i+1).sl=(d,vN<|st<|i+1)::(st i).sl/\((st<|i+1).hp=(st i).hp\/∃ob,lk (st i).hp d=none/\(st<|i+1).hp=(d,ob)::(st i).hp)):Way l n st:=by have hp1:∀i,i<n->∀id ob,lk (st i).hp id=some ob->lk (st<|i+1).hp id=some ob:=(by intro i hi id ob hk;obtain⟨o,d,_,_,_,_,h1|⟨ob',h1,h2⟩⟩:=step i hi;simp_all;rw [h2,aY,if_neg ψ];omega);refine⟨λi hi=>?_,λi o d hi ho hdd=>?_,λi j hij hj=>?_,λi=>?_⟩;(induction i with|zero=>rfl|succ i ih=>grind);grind;(induction j with|zero=>simp_all|succ j ih=>grind);induction i with|zero=>simp_all|succ i ih=>(intro hi id ob hk;obtain⟨o,d,h1,h2,_,_,h3|⟨ob',h3,h4⟩⟩:=step i Z;grind;rw [h4,aY] at hk;grind)
section
variable {l:List Oper} {n N:Nat} {st:Nat→AS}
def JC.dst(C:JC l n N st)(i:Nat)(o:Oper)(hi:i<n)(ho:l[i]?=some o):∃d,o.dst=some d:=J6 C.hD i o hi aCj
def JC.one(C:JC l n N st)(i k:Nat)(oi ok:Oper)(d:Nat)(hi:i<n)(hk:k<n)(hoi:l[i]?=some oi)(hok:l[k]?=some ok):k≠i->ok.dst=some d->oi.dst≠some d:=C.hr.one i k oi ok d hi hk aCj aCj
def JC.at(C:JC l n N st)(i:Nat)(hi:i<=n)(t:Nat):(∀(k:Nat) (o:Oper),k<i->l[k]?=some o->o.dst=some t->lk (st i).sl t=some (vN<|st<|k+1))/\((∀(k:Nat) (o:Oper),k<i->l[k]?=some o->o.dst≠some t)->lk (st i).sl t=lk (st 0).sl t):=C.way.at C.hnl C.dst C.one i hi t
def JC.see(C:JC l n N st)(hn0:a0.tmps.size=N){o:Oper}(hi:i<n)(ho:l.toArray[i]?=some o){vs:Nat->Value}(hni:¬D i)(uG:∀j,kC o j=true->D j)(yD:∀k ok,l.toArray[k]?=some ok->D k->∀j,kC ok j=true->D j) 
  (h3:∀t av,lk (st 0).sl t=some av->(∀k o,k<n->l[k]?=some o->D k->o.dst≠some t)->∃v,a0.tmps[t]?=some v/\AR ρ (Bd ρ B0) w' av v) (h4:∀k,k<n->D k->AR ρ (Bd ρ B0) w' (vN<|st<|k+1) (vs k)):gu ρ (Bd ρ B0) w' (iW (st i).sl<|o.looksAt l.toArray)<|fM (l.take i) 0 a0 vs:=by
 have hr:=C.hr;have hA:=nR (a0:=a0) (ops:=l.toArray) O hr hn0 C.hnl vs i aEF;intro t av ht;have⟨hts,hlk⟩:=DK _ t av ht;by_cases hex:∃k ok,k<i/\l[k]?=some ok/\ok.dst=some t
 ·have⟨k,ok,hk,hok,hkd⟩:=hex;have hok':l.toArray[k]?=some ok:=aCj;rw [(C.at i Z t).1 k ok hk hok hkd] at hlk;cases hlk;refine⟨vs k,hA.wr k ok t Z hok' hk hkd,h4 k Z ?_⟩;rcases hr.look i k o ok t hi Z ho hok' Z hkd hts with⟨_,h⟩|⟨h,_⟩;simp_all;omega
 ·have hno:∀k ok,k<i->l[k]?=some ok->ok.dst≠some t:=ψ;rw [(C.at i Z t).2 hno] at hlk;have⟨v,h5,h6⟩:=h3 t av hlk (λk ok hk hok gQ hkd=>by
   have hok':l.toArray[k]?=some ok:=ψ
   by_cases hki:k=i
   ·grind
   ·rcases hr.look i k o ok t hi hk ho hok' hki hkd hts with⟨h,_⟩|⟨_,h⟩
    ·grind
    grind)
  refine⟨v,?_,h6⟩;rw [hA.no t ψ];omega
def TG(s:AS)(o:Oper)(ops:Array Oper):abg s ⟨s.n,iW s.sl<|o.looksAt ops,s.hp⟩ o:=by intro x hx;cases x with|tmp t=>have hm:t∈o.looksAt ops:=alk _ (amN.2 ⟨.tmp t,by simp_all,rfl⟩);exact(qI _ t hm).symm|const v=>cases v <;> rfl|_=>rfl
def TJ(s:AS)(o:Oper)(ops:Array Oper):jD ops s o=jD ops ⟨s.n,iW s.sl<|o.looksAt ops,s.hp⟩ o:=O9 (λt ht=>(qI _ t ht).symm)
def aaP(s:AS)(o:Oper)(ops:Array Oper):gsu ops s o=gsu ops ⟨s.n,iW s.sl<|o.looksAt ops,s.hp⟩ o:=by unfold gsu;cases hg:o.guard with|none=>rfl|some q=>(have⟨j,want⟩:=q;simp only;cases hj:ops.toList[j]? with|none=>rfl|some oj=>(simp only;cases hd:oj.dst with|none=>rfl|some d=>have hj':ops[j]?=some oj:=(by rw [<-Array.getElem?_toList];exact hj);have hm:d∈o.looksAt ops:=aHb;simp only;rw [qI _ d hm]))
def JC.wit(C:JC l n N st)(hi:i<=n){tX:List Nat}(hw:abk l.toArray n (st i) tX) 
  (h3:∀t av,lk (st 0).sl t=some av->(∀k o,k<n->l[k]?=some o->D k->o.dst≠some t)->∃v,a0.tmps[t]?=some v/\AR ρ (Bd ρ B0) w' av v):Al ρ tX:=by intro id bJ;have⟨t,av,h1,h2,h4⟩:=hw.get id bJ;have hno:∀(k:Nat) (ok:Oper),k<n->l[k]?=some ok->ok.dst≠some t:=λk ok hk hok=>VW h4 (by show(l.take n)[k]?=_;rw [List.getElem?_take,if_pos hk];exact hok);rw [(C.at i hi t).2 ψ] at h1;have⟨u,_,hu⟩:=h3 t _ h1 ψ;exact tZ h2 hu
def Px(av:AV):BX [] [] av=av:=by unfold BX;grind
abbrev aAV(o:Oper)(l:List Oper):=o.looksAt l.toArray
def JC.step(hT:xZ P T)(C:JC l n N st)(hn0:a0.tmps.size=N)(uh:a0.defers=[]){o:Oper}(hi:i<n)(ho:l.toArray[i]?=some o)(hO:Ol P T l.toArray n o (st i)<|st<|i+1){vs:Nat->Value}(hni:¬D i)(uG:∀j,kC o j=true->D j)(yD:∀k ok,l.toArray[k]?=some ok->D k->∀j,kC ok j=true->D j)(hJ:Jr l n st B0 w0 a0 D vs w'){J:(Nat->Value)->World->Prop}(hsub:∀vs w,Jr l n st B0 w0 a0 (uK D i) vs w->J vs w):
  IfW (Region.wanted o<|yielded l.toArray (fM (l.take i) 0 a0 vs).tmps) (o.wp P (fM (l.take i) 0 a0 vs) w' (λa' w'=>a'.defers=[]/\J (og vs i<|Am.valOf o a') w')<|λ_ _ _=>False) (J (og vs i undef) w'):=by have eG:l[i]?=some o:=aGY;have⟨d,hd⟩:=C.dst i o hi eG;have hr:=C.hr;have hdN:=hr.dst i o d hi ho hd;have hA:=nR (a0:=a0) (ops:=l.toArray) O hr hn0 C.hnl vs i aEF;have hJ0:=hJ;have⟨ρ,hc,h2,h3,h4⟩:=hJ;have hSl:=C.see hn0 hi ho hni uG yD h3 h4;have hget:=TG (st i) o l.toArray;have hg':=TJ (st i) o l.toArray;have Fq:=C.way.hp i n aEF<|aav _;have hAd:(fM (l.take i) 0 a0 vs).defers=[]:=hA.defs.trans uh;have hAs:d<(fM (l.take i) 0 a0 vs).tmps.size:=(by rw [hA.size,hn0];exact hdN);have hdef:∀v,((fM (l.take i) 0 a0 vs).put o.dst v).defers=[]:=λv=>(by rw [hd];exact hAd);have hval:∀v,Am.valOf o ((fM (l.take i) 0 a0 vs).put o.dst v)=v:=λv=>Am.vG hd hAs;have hsh:=(hO.shape hd).2.1;obtain⟨s2,hs2⟩:∃s2,s2=st (i+1):=⟨_,O⟩;rw [<-hs2] at hO hsh;have XT:∀av,s2.sl=(d,av)::(st i).sl->vN (st<|i+1)=av:=(by intro av h;rw [<-hs2];unfold vN;rw [h]);have fin:∀{w2:World}{v:Value}{av:AV},s2=(st i).put o.dst av->Below w'.heap.size w' w2->AR ρ (Bd ρ B0) w2 av v->J (og vs i v) w2:=@λw2 v av e hb hv=>hsub _ _ (Jr.same hb hc h2 h3 h4 (by rw [XT av<|by rw [e,hd];rfl];exact hv) hni);have new:∀{w2:World}{v:Value}{ob:AO},s2=(st i).mk' d ob->lk (st i).hp d=none->aia ρ B0 w0 w' w2 ob v->J (og vs i v) w2:=(by intro w2 v ob e hfr ⟨hb,hvb,hob⟩;have hav:=XT (ob.av d) (by rw [e];rfl);have hnone:(lk (st 0).hp d)=none:=(by cases hq:lk (st 0).hp d with|none=>rfl|some q=>rw [C.way.hp 0 i (Nat.zero_le _) (Nat.le_of_lt hi) d q hq] at hfr;cases hfr);have hρ:ρ d=none:=(by cases hq:ρ d with|none=>rfl|some u=>(rcases h2 d u hq with h5|⟨k,ok,hk',gQ,hok,hkd⟩;rw [hnone] at h5;cases h5;by_cases hki:k=i;subst hki;exact absurd gQ hni;exact azg));have hO2:=hob d hρ;have hlast:lk (st n).hp d=some ob:=(by refine C.way.hp (i+1) n Z (aav _) d ob ?_;rw [<-hs2,e];show lk ((d,ob)::(st i).hp) d=some ob;exact azA);have hc2:gq (up ρ d v) B0 w0 w2 (st n).hp:=hc.new hρ hb hvb (λ_ _ h _=>h) hlast hO2;refine hsub _ _ ⟨_,hc2,λid u hu=>?_,λt av ht hno=>?_,λk hk' gQ=>?_⟩;unfold up at hu;split at hu;rename_i e;exact azH;rcases h2 id u hu with h5|⟨k,ok,hk',gQ,h5⟩;exact Or.inl h5;exact att;have⟨u,h5,h6⟩:=h3 t av ht (λk o hk ho gQ=>hno k o hk ho<|Or.inl gQ);exact⟨u,h5,h6.new hρ hb hvb⟩;unfold og;by_cases e:k=i;rw [if_pos e,e,hav];exact AO.BG hO2 aFY;rw [if_neg e];rcases gQ with gQ|gQ;exact(h4 k hk' gQ).new hρ hb hvb;exact absurd gQ e);have own:∀{x:Value}{id:Nat}{ox:AO},s2=(st i).put o.dst (ox.av id)->jD l.toArray ⟨(st i).n,iW (st i).sl<|aAV o l,(st i).hp⟩ o=some true->kE T (st i) o.op=some (.d<|.o<|.v x)->abk l.toArray n (st i) [id]->lk (st i).hp id=some (.i x ox)->IfW (Region.wanted o<|yielded l.toArray (fM (l.take i) 0 a0 vs).tmps) (o.wp P (fM (l.take i) 0 a0 vs) w' (λa' w'=>a'.defers=[]/\J (og vs i<|Am.valOf o a') w')<|λ_ _ _=>False) (J (og vs i undef) w'):=(by intro x id ox es hg h hw ho;rw [vF (T:=T) (op:=o.op) (s:=st i) (s':=⟨(st i).n,iW (st i).sl<|aAV o l,(st i).hp⟩) O hget] at h;have⟨v,hrun,hv⟩:=zx (s:=⟨(st i).n,iW (st i).sl<|aAV o l,(st i).hp⟩) hT hSl hc Fq h;have⟨y,hy⟩:=C.wit aEF hw h3 id aCY;have⟨ob,ho1,ho2⟩:=hc.obj id y hy;rw [Fq id _ ho] at ho1;cases ho1;exact iy aEN aD7);cases hO with|Y x tw id h hw hi2 hn ho hg hk=>rw [hg'] at hg;exact own O hg h ⟨⟨tw,_,hw,hi2,hn⟩,Pe⟩ ho|M av h hg hk=>rw [hg'] at hg;exact arf|Gt hg hk=>exact aw2|U hg hk=>exact awZ|R ob h d' hdd hfr hg hk=>(rw [hd] at hdd;cases hdd;rw [hg'] at hg;refine iy aEN ?_;rcases h ρ B0 w0 w' (fM (l.take i) 0 a0 vs) _ ⟨(st i).n,_,(st i).hp⟩ Fq hget hc hSl with⟨v,w2,hrun,hnew⟩|⟨f,us,hrun,hcl⟩;exact gV (a:=a0) hrun aEk;unfold Oper.wp;rw [hrun];refine hcl.mono ?_;rintro e w2 ⟨v,rfl,hnew⟩;exact aEk)|L r uN tX h hx hw hg hk=>(rw [hg'] at hg;have⟨f,us,hrun,hcl⟩:=h ρ B0 w0 w' (fM (l.take i) 0 a0 vs) _ ⟨(st i).n,_,(st i).hp⟩ Fq hget hc hSl<|C.wit aEF hw h3;refine iy aEN ?_;unfold Oper.wp;rw [hrun];refine hcl.mono ?_;rintro e w2 ⟨v,ρ2,_,rfl,_,hc2,har,hdm,hv⟩;refine⟨hdef v,?_⟩;rw [hval];have hav:=XT r (by simp [AS.put,hd]);have har':∀av u,AR ρ (Bd ρ B0) w' av u->AR ρ2 (Bd ρ2 B0) w2 av u:=λav u q=>aGD;have hlx:∀id,lk (uN++(st n).hp) id=lk (st n).hp id:=λid=>(by rw [zQ];cases hq:lk uN id with|none=>rfl|some ob=>exact(Fq id ob (hx.get _ (oG hq))).symm);refine hsub _ _ ⟨ρ2,gq.lkc hc2<|λid _=>hlx id,λid u hu=>?_,λt av ht hno=>?_,λk hk' gQ=>?_⟩;have⟨u',hu'⟩:=hdm id u hu;rcases h2 id u' hu' with h5|⟨k,ok,hk',gQ,h5⟩;exact Or.inl h5;exact att;have⟨u,h5,h6⟩:=h3 t av ht (λk o hk ho gQ=>hno k o hk ho<|Or.inl gQ);exact⟨u,h5,har' _ _ h6⟩;unfold og;by_cases e:k=i;rw [if_pos e,e,hav];exact hv;rw [if_neg e];rcases gQ with gQ|gQ;exact har' _ _<|h4 k hk' gQ;exact absurd gQ e)|S hO=>(cases hO with|V av h hg hk=>rw [hg'] at hg;exact apb|Y x tw id h hw hi2 hn ho hl hg hk=>have hn':PK (l.take n).toArray tw=true:=ac6.2 λo ho=>ac6.1 hn o<|aja ho;rw [hg'] at hg;exact own O hg h ⟨⟨tw,_,hw,hi2,hn'⟩,Pe⟩ ho|B av h hg hk=>rw [hg'] at hg;exact apF|G hg hk=>exact axh|C h hcl hf ha hg hk=>rename_i c f cap ds res;rw [hg'] at hg;have hop':o.op=.call c:=(by unfold gX at hcl;split at hcl;rename_i h;cases hcl;exact h;cases hcl);have hgc:∀x∈c.operands,dR (st i) x=dR ⟨(st i).n,iW (st i).sl<|aAV o l,(st i).hp⟩ x:=λx hx=>hget x aGb;rw [EN hgc] at hf;rw [sW _<|λx hx=>hgc x<|Array.mem_append.2<|Or.inr aGZ] at ha;have⟨us,hus,hrun⟩:=yN (s:=⟨(st i).n,iW (st i).sl<|aAV o l,(st i).hp⟩) hSl hcl hf ha h.en;refine iy aEN ?_;unfold Oper.wp;rw [hrun];refine(h.go (Bd ρ B0) w' us hc.UO hus).mono ?_;exact axd|S id ob h hdst hg=>rw [hd] at hdst;cases hdst|X av h hg hk=>rw [hg'] at hg;exact aqX|N ob h d' hdd hfr hg hk=>rw [hd] at hdd;cases hdd;rw [hg'] at hg;rw [Ip (T:=T) (op:=o.op) (s:=st i) (s':=⟨(st i).n,iW (st i).sl<|aAV o l,(st i).hp⟩) hget] at h;exact aq2)
def JC.start(C:JC l n N st){ρ0:lq}(hc0:gq ρ0 B0 w0 w (st 0).hp)(hs0:gu ρ0 (Bd ρ0 B0) w (st 0).sl a0):Jr l n st B0 w0 a0 (λ_=>False) (λ_=>undef) w.drew:=by have hK:nH (Bd ρ0 B0) w w.drew:=aCu;refine⟨ρ0,⟨hc0.bel.step (Below.refl _ _).drew,hc0.b0,λid v h=>?_,hc0.dist⟩,λid v h=>?_,λt av ht _=>?_,λk _ h=>h.elim⟩;have⟨ob,h1,h2⟩:=hc0.obj id v h;exact aw5;have⟨ob,h1,h2⟩:=hc0.obj id v h;simp_all;have⟨v,h1,h2⟩:=hs0 t av ht;exact avj
def JC.fin(C:JC l n N st)(hn0:a0.tmps.size=(st 0).n)(hN:(st 0).n=N)(uh:a0.defers=[]){vs:Nat->Value}(hall:∀k,k<n->D k)(hJ:Jr l n st B0 w0 a0 D vs w'):Ou (st n) B0 w0 (fM (l.take n) 0 a0 vs) w':=by have⟨ρ,hc,h2,h3,h4⟩:=hJ;have hA:=nR (a0:=a0) (ops:=l.toArray) O C.hr Z C.hnl vs n<|aav _;refine⟨ρ,hc,?_,hA.defs.trans uh,λt av ht=>?_⟩;rw [hA.size,hn0,C.way.nn n Z];by_cases hex:∃k ok,k<n/\l[k]?=some ok/\ok.dst=some t;have⟨k,ok,hk,hok,hkd⟩:=hex;rw [(C.at n Z t).1 k ok hk hok hkd] at ht;cases ht;exact ayF;have hno:∀k ok,k<n->l[k]?=some ok->ok.dst≠some t:=ψ;rw [(C.at n Z t).2 hno] at ht;have⟨v,h5,h6⟩:=h3 t av ht ψ;refine⟨v,?_,h6⟩;rw [hA.no t ψ];omega
end
inductive EF (P:Program) (T:TypeId->Option TI) (ops:Array Oper) (n:Nat) (K:AS->Prop):List Oper->AS->Prop
 |nil {s:AS} (h:K s):EF P T ops n K [] s
 |cons {o:Oper}{l:List Oper}{s s1:AS} (h:Ol P T ops n o s s1) (k:EF P T ops n K l s1):EF P T ops n K (o::l) s
theorem EF.st{K:AS->Prop}(h:EF P T ops n K l s):∃st:Nat->AS,st 0=s/\K (st l.length)/\∀i o,l[i]?=some o->Ol P T ops n o (st i) (st<|i+1):=by induction h with|nil h=>rename_i s;exact axf|cons h k ih=>(rename_i o l s s1;have⟨st,h1,h2,h3⟩:=ih;refine⟨λi=>match i with|0=>s|i+1=>st i,O,h2,λi o' ho=>?_⟩;grind)
def aec(hT:xZ P T){id:Nat}(n:Nat)(hm:P.follows .mixedOrders=true)(hB:abp l.toArray n s.n L)(hL:∀i,i<n->L i=true->Jp l.toArray i=true/\∀c s,¬ Q (.panic c) s)(hD:LZ l.toArray n=true)(h:EF P T l.toArray n (λs1=>AL P l.toArray Q (l.drop n) s1) (l.take n) s):AW P (.region id l.toArray true) Q s:=by
 rintro B0 w0 a0 w ⟨ρ0,hc0,hn0,uh,hs0⟩;have hB':=hB;have⟨⟨⟨⟨hsel,RG⟩,OG⟩,_⟩,_⟩:=hB';have hnl:n<=l.length:=Z;have⟨st,XW,Vw,hop0⟩:=h.st;have hlen:(l.take n).length=n:=aEg;rw [hlen] at Vw;have hop:∀i o,i<n->l[i]?=some o->Ol P T l.toArray n o (st i) (st (i+1)):=λi o hi ho=>hop0 i o (by rw [List.getElem?_take,if_pos hi];exact ho);have C:JC l n s.n st:=⟨G8 RG,hnl,hD,aqR hnl λi hi=>by
  have ho:l[i]?=some (l[i]' Z):=by simp
  have⟨d,hdd⟩:=J6 hD i (l[i]' Z) hi aCY;exact aG7⟩
 subst XW;exact vk (J:=Jr l n st B0 w0 a0) n (st 0).n hm hn0 uh hB (λi hi h=>⟨(hL i hi h).1,λc a w d v ⟨s',hq,_⟩=>absurd hq ψ⟩) (λD D' vs vs' w h=>Jr.congr D D' vs vs' w h) (C.start hc0 hs0)
  (λi o hi ho D vs w' hni uG yD hJ=>C.step hT hn0 uh hi ho ψ hni uG yD hJ ψ) (λD vs w' hall hJ=>Vw B0 w0 _ w' (C.fin hn0 O uh hall hJ))
def qE(hT:xZ P T){id:Nat}(n:Nat)(ls:List Nat)(hm:P.follows .mixedOrders=true)(hB:LG l.toArray n s.n ls=true)(hD:LZ l.toArray n=true)(hP:∀c s,¬Q (.panic c) s)(h:EF P T l.toArray n (λs1=>AL P l.toArray Q (l.drop n) s1) (l.take n) s):AW P (.region id l.toArray true) Q s:=aec hT n hm (FD hB).1 (λi _ h=>⟨(FD hB).2 i h,hP⟩) hD h
end
end
def dk:List (Nat×AO)->Nat->List (Nat×AO)
 |[],_=>[]
 |(k,x)::l,t=>bif Nat.beq k t then dk l t else(k,x)::dk l t
def VK:∀(l:List<|Nat×AO) (t u:Nat),lk (dk l t) u=if t=u then none else lk l u
 |[],t,u=>by simp [dk,lk]
 |(k,x)::l,t,u=>by
  unfold dk
  by_cases h:k=t
  ·rw [show Nat.beq k t=true from by simp_all,cond_true,VK l t u,aY]
   simp_all
  ·rw [show Nat.beq k t=false from by rw [<-Bool.not_eq_true];simp_all,cond_false,aY,aY,VK l t u]
   grind
def fz(av:AV)(id:Nat)(own:AV)(ptr:Nat->AV):AV:=match av with
 |.q k=>bif Nat.beq k id then own else .q k
 |.p k off=>bif Nat.beq k id then ptr off else .p k off
 |.iL k sz i j=>bif Nat.beq k id then .D else .iL k sz i j
 |.lim k j=>bif Nat.beq k id then .D else .lim k j
 |.fO k j=>bif Nat.beq k id then .D else .fO k j
 |.w k=>bif Nat.beq k id then .D else .w k
 |av=>av
def ZM(id:Nat)(own:AV)(ptr:Nat->AV):List (Nat×AV)->List (Nat×AV)
 |[]=>[]
 |(t,av)::l=>(t,fz av id own ptr)::ZM id own ptr l
def xO{id:Nat}{own:AV}{ptr:Nat->AV}:∀(l:List<|Nat×AV) (t:Nat) (av:AV),lk (ZM id own ptr l) t=some av->∃mJ,lk l t=some mJ/\av=fz mJ id own ptr
 |[],t,av,h=>by cases h
 |(k,x)::l,t,av,h=>by
  unfold ZM at h;rw [aY] at h ⊢;split at h
  ·simp_all
  ·rename_i e;rw [if_neg e];exact xO l t av h
def less(ρ:lq)(id:Nat):lq:=λk=>if k=id then none else ρ k
def AR.fz{av own:AV}{ptr:Nat->AV}{id:Nat}{c:Value}(bJ:ρ id=some v)(h:AR ρ (Bd ρ B0) w av c)(hown:(∃a n cap,v=.slice a n cap)->AR (less ρ id) (Bd (less ρ id) B0) w own v) 
  (azk:∀g off,v=.pointer (some ⟨g,0,none⟩)->AR (less ρ id) (Bd (less ρ id) B0) w (ptr off) (.pointer<|some ⟨g,off,none⟩)):AR (less ρ id) (Bd (less ρ id) B0) w (Go.Proofs.YtecmeakkkmidjaaGreat.fz av id own ptr) c:=by have hK:nH (Bd ρ B0) w w:=aCu;have hB:∀b,b<w.heap.size->Bd (less ρ id) B0 b->Bd ρ B0 b:=(by rintro b _ (h|⟨k,u,h1,h2⟩);exact azR;unfold less at h1;split at h1;cases h1;exact Or.inr ⟨k,u,h1,h2⟩);have keep:(∀k,av.on k=true->k≠id)->AR (less ρ id) (Bd (less ρ id) B0) w av c:=λhne=>AR.mv hK hB (λk hk=>by unfold less;rw [if_neg<|hne k hk]) h;cases av with|q k=>show AR _ _ _ (bif Nat.beq k id then own else .q k) c;by_cases e:k=id;subst e;rw [Nat.beq_refl,cond_true];have⟨h1,h2⟩:=h;rw [bJ] at h1;cases h1;exact hown h2;rw [show Nat.beq k id=false from by rw [<-Bool.not_eq_true];exact λh=>e<|Nat.eq_of_beq_eq_true h,cond_false];exact ara|p k off=>show AR _ _ _ (bif Nat.beq k id then ptr off else .p k off) c;by_cases e:k=id;subst e;rw [Nat.beq_refl,cond_true];obtain⟨g,h1,rfl⟩:=h;rw [bJ] at h1;cases h1;exact azk g off O;rw [show Nat.beq k id=false from by rw [<-Bool.not_eq_true];exact λh=>e<|Nat.eq_of_beq_eq_true h,cond_false];exact ara|iL k sz i j=>show AR _ _ _ (bif Nat.beq k id then .D else .iL k sz i j) c;by_cases e:k=id;subst e;exact aw9;rw [show Nat.beq k id=false from by rw [<-Bool.not_eq_true];exact λh=>e<|Nat.eq_of_beq_eq_true h,cond_false];exact ara|lim k j=>show AR _ _ _ (bif Nat.beq k id then .D else .lim k j) c;by_cases e:k=id;subst e;exact aw9;rw [show Nat.beq k id=false from by rw [<-Bool.not_eq_true];exact λh=>e<|Nat.eq_of_beq_eq_true h,cond_false];exact ara|fO k j=>show AR _ _ _ (bif Nat.beq k id then .D else .fO k j) c;by_cases e:k=id;subst e;exact aw9;rw [show Nat.beq k id=false from by rw [<-Bool.not_eq_true];exact λh=>e<|Nat.eq_of_beq_eq_true h,cond_false];exact ara|w k=>show AR _ _ _ (bif Nat.beq k id then .D else .w k) c;by_cases e:k=id;subst e;exact aw9;rw [show Nat.beq k id=false from by rw [<-Bool.not_eq_true];exact λh=>e<|Nat.eq_of_beq_eq_true h,cond_false];exact ara|d x=>exact keep (λk hk=>by cases hk)|dY x=>exact keep (λk hk=>by cases hk)|D=>trivial
def gq.less{id:Nat}(h:gq ρ B0 w0 w hp):gq (less ρ id) B0 w0 w<|dk hp id:=by have hK:nH (Bd ρ B0) w w:=aCu;have hsub:∀k v,Go.Proofs.YtecmeakkkmidjaaGreat.less ρ id k=some v->k≠id/\ρ k=some v:=(by intro k v hk;unfold Go.Proofs.YtecmeakkkmidjaaGreat.less at hk;simp_all);refine⟨h.bel,h.b0,λk v hk=>?_,λk k' v v' b h1 h2 h3 h4=>h.dist k k' v v' b (hsub _ _ h1).2 (hsub _ _ h2).2 h3 h4⟩;have⟨h1,h2⟩:=hsub k v hk;have⟨ob,h3,h4⟩:=h.obj k v h2;refine⟨ob,by rw [VK,if_neg Z];omega,h4.mv hK (λb _ hb=>?_) ψ⟩;rcases hb with hb|⟨k',u,h5,h6⟩;exact Or.inl hb;exact aw7
def gq.lone{id:Nat}(h:gq ρ B0 w0 w hp)(bJ:ρ id=some v)(hb:kK v=some b):¬Bd (Go.Proofs.YtecmeakkkmidjaaGreat.less ρ id) B0 b:=by have⟨ob,_,h2⟩:=h.obj id v bJ;have⟨h3,_⟩:=h2.blk b hb;rintro(h4|⟨k,u,h4,h5⟩);have⟨h6,h7⟩:=h.b0 b h4;rcases h3 with h3|h3;omega;simp_all;unfold Go.Proofs.YtecmeakkkmidjaaGreat.less at h4;split at h4;grind;rename_i e;exact e<|h.dist k id u v b h4 bJ h5 hb
def Gw{id:Nat}(b:Nat)(h:Bd (less ρ id) B0 b):Bd ρ B0 b:=by rcases h with h|⟨k,u,h1,h2⟩;exact azR;unfold less at h1;split at h1;grind;exact aw7
def iY(id:Nat){sz:Nat}(h:lk s.hp id=some (.a e sz n el)):Wk s ⟨s.n,ZM id (.d<|.o<|.a sz n el) (λ_=>.D) s.sl,dk s.hp id⟩:=by rintro B0 w0 a w ⟨ρ,hc,hsz,hdf,hs⟩;have hK:nH (Bd ρ B0) w w:=aCu;cases bJ:ρ id with|none=>(have hl:less ρ id=ρ:=aFl;refine⟨less ρ id,hc.less,hsz,hdf,λt av ht=>?_⟩;obtain⟨mJ,h1,rfl⟩:=xO _ _ _ ht;have⟨c,h2,h3⟩:=hs t mJ h1;refine⟨c,h2,?_⟩;rw [hl];cases mJ with|q k=>have:k≠id:=λe=>aGI;have hb:Nat.beq k id=false:=aCp;exact apc|p k off=>have:k≠id:=λe=>aFo;have hb:Nat.beq k id=false:=aCp;exact apc|iL k sz' i j=>have:k≠id:=λe=>aFa;have hb:Nat.beq k id=false:=aCp;exact apc|lim k j=>have:k≠id:=λe=>aFf;have hb:Nat.beq k id=false:=aCp;exact apc|fO k j=>have:k≠id:=λe=>aFm;have hb:Nat.beq k id=false:=aCp;exact apc|w k=>have:k≠id:=λe=>aFv;have hb:Nat.beq k id=false:=aCp;exact apc|d x=>exact h3|dY x=>exact h3|D=>trivial)|some v=>(refine⟨less ρ id,hc.less,hsz,hdf,λt av ht=>?_⟩;obtain⟨mJ,h1,rfl⟩:=xO _ _ _ ht;have⟨c,h2,h3⟩:=hs t mJ h1;refine⟨c,h2,h3.fz bJ (λ_=>?_)<|λ_ _ _=>trivial⟩;have⟨ob,o1,o2⟩:=hc.obj id v bJ;rw [h] at o1;cases o1;have⟨xs,⟨⟨hxl,hown⟩,hbk⟩,hel⟩:=o2;rcases hown with⟨rfl,h0⟩|⟨g,cap,cur,rfl,hge,hblk,hn,hm,hsz',htk⟩;subst h0;exact ao1;refine⟨some ⟨g,0,none⟩,cap,rfl,hn,λh=>aEP,λi hi=>⟨g,0,rfl,hc.lone bJ rfl,lt_of_block hblk,λj hj=>?_⟩⟩;have⟨x,hx1,hx2⟩:=hel i j hi hj;refine⟨x,?_,fP.mv hK (λb _ hb=>Gw b hb) _ hx2⟩;rw [Nat.zero_add,cell_of_row w g _ cur _ (0,0) hblk,<-Array.getElem?_toList];rw [<-htk,List.getElem?_take] at hx1;split at hx1;exact hx1;cases hx1)
def AB(id:Nat){cs:List Lf}(h:lk s.hp id=some (.b t cs)):Wk s ⟨s.n,ZM id .D (λoff=>.d<|.o<|.at (cs.length-off) λq=>(cs[off+q]?).getD<|.v undef) s.sl,dk s.hp id⟩:=by rintro B0 w0 a w ⟨ρ,hc,hsz,hdf,hs⟩;have hK:nH (Bd ρ B0) w w:=aCu;cases bJ:ρ id with|none=>(have hl:less ρ id=ρ:=aFl;refine⟨less ρ id,hc.less,hsz,hdf,λt av ht=>?_⟩;obtain⟨mJ,h1,rfl⟩:=xO _ _ _ ht;have⟨c,h2,h3⟩:=hs t mJ h1;refine⟨c,h2,?_⟩;rw [hl];cases mJ with|q k=>have:k≠id:=λe=>aGI;have hb:Nat.beq k id=false:=aCp;exact apc|p k off=>have:k≠id:=λe=>aFo;have hb:Nat.beq k id=false:=aCp;exact apc|iL k sz' i j=>have:k≠id:=λe=>aFa;have hb:Nat.beq k id=false:=aCp;exact apc|lim k j=>have:k≠id:=λe=>aFf;have hb:Nat.beq k id=false:=aCp;exact apc|fO k j=>have:k≠id:=λe=>aFm;have hb:Nat.beq k id=false:=aCp;exact apc|w k=>have:k≠id:=λe=>aFv;have hb:Nat.beq k id=false:=aCp;exact apc|d x=>exact h3|dY x=>exact h3|D=>trivial)|some v=>refine⟨less ρ id,hc.less,hsz,hdf,λt' av ht=>?_⟩;obtain⟨mJ,h1,rfl⟩:=xO _ _ _ ht;have⟨c,h2,h3⟩:=hs t' mJ h1;refine⟨c,h2,h3.fz bJ (λ_=>trivial)<|λg off hv=>?_⟩;obtain⟨ob,o1,g',us,he,hge,hb,hul⟩:∃ob,lk s.hp id=some ob/\∃g us,v=.pointer (some ⟨g,0,none⟩)/\w0.own g/\ou w g t us/\jg (Bd ρ B0) w cs us:=(by have⟨ob,o1,o2⟩:=hc.obj id v bJ;rw [h] at o1;cases o1;exact⟨_,h,o2⟩);rw [hv] at he;cases he;refine⟨g,off,O,hc.lone bJ<|by rw [hv];rfl,hb.lt,λj hj=>?_⟩;obtain⟨l,hl⟩:∃l,cs[off+j]?=some l:=⟨cs[off+j]' Z,by simp⟩;have⟨x,hx,hr⟩:=hul.get hl;have⟨q1,q2⟩:=acf.1 hx;refine⟨x,by rw [<-q2];exact hb.cell _ q1,?_⟩;show fP _ _ ((cs[off+j]?).getD _) x;rw [hl];exact fP.mv hK (λb _ hb=>Gw b hb) _ hr
abbrev aAy:Value:=.slice none 0 0
def nS(t id:Nat)(e:TypeId)(sz:Nat)(el:Nat->Nat->Lf)(h:lk s.sl t=some (.d<|.o<|.v<|.slice none 0 0))(hfr:lk s.hp id=none):Wk s ⟨s.n,(t,.q id)::s.sl,(id,.a e sz 0 el)::s.hp⟩:=by
 rintro B0 w0 a w ⟨ρ,hc,hsz,hdf,hs⟩;have hρ:ρ id=none:=(by cases hρ:ρ id with|none=>rfl|some u=>have⟨ob',h1,_⟩:=hc.obj id u hρ;simp_all);have hv:∀b,kK aAy=some b->w.heap.size<=b:=λb hb=>(by cases hb);have hc':gq (up ρ id aAy) B0 w0 w ((id,.a e sz 0 el)::s.hp):=hc.new (ob:=.a e sz 0 el) hρ (Below.refl _ _) hv (λk ob hk hne=>by rw [aY,if_neg Z];omega) aCN
  ⟨[],aGa,λi j hi=>absurd hi<|acH _⟩
 refine⟨_,hc',hsz,hdf,λu av hu=>?_⟩;rw [aY] at hu;split at hu
 ·rename_i e';cases hu;subst e';have⟨v,h1,h2,_⟩:=hs t _ h;exact⟨v,h1,by rw [h2];simp [up],none,0,0,h2⟩
 ·have⟨v,h1,h2⟩:=hs u av hu;exact⟨v,h1,h2.new hρ (Below.refl _ _) hv⟩
def Qb(s:AS)(y:Operand)(sz:Nat):Option<|Nat×(Nat->Nat->Lf):=match dR s y with
 |some (.d (.o (.a sz' m el)))=>bif Nat.beq sz sz' then some (m,el) else none
 |some (.d (.o (.v (.slice none 0 0))))=>some (0,λ_ _=>.v undef)
 |_=>none
def Hl{sz:Nat}(hs:gu ρ B w s.sl a)(h:Qb s y sz=some (m,el)):
  ∃ao c,∃news:List Value,a.eval y=.slice ao m c/\news.length=m*sz/\(ao=none->c=0)/\m<=c/\qC w ao news/\∀i j,i<m->j<sz->∃x,news[i*sz+j]?=some x/\fP B w (el i j) x:=by unfold Qb at h;split at h;(rename_i sz' m' el' hy;cases hb:Nat.beq sz sz' with|false=>simp_all|true=>(rw [hb] at h;cases h;obtain rfl:=abr hb;have⟨ao,cap,he,hle,hnil,hel⟩:=(cu hs hy:fP _ _ _ _);rcases acT m with hm|hm;subst hm;exact⟨ao,cap,[],he,by simp,hnil,abJ _,Or.inl rfl,λi j hi=>absurd hi (acH _)⟩;obtain⟨b,off,rfl,hb,hlt,_⟩:=hel 0 hm;have hcell:∀i j,i<m->j<sz->∃x,w.cell? ⟨b,off+(i*sz+j),none⟩=some x/\fP B w (el i j) x:=aDj;have hget:∀q,q<m*sz->((List.range<|m*sz).map λq=>(w.cell? ⟨b,off+q,none⟩).getD undef)[q]?=some ((w.cell? ⟨b,off+q,none⟩).getD undef):=(by intro q hq;rw [List.getElem?_map,List.getElem?_range hq];rfl);have hdec:∀q,q<m*sz->∃x,w.cell? ⟨b,off+q,none⟩=some x:=(by intro q hq;have hsz:0<sz:=ψ;have h1:q/sz<m:=ahR ψ;have⟨x,hx,_⟩:=hcell (q/sz) (q%sz) h1<|acP _ hsz;rw [Nat.mul_comm,Nat.div_add_mod] at hx;simp_all);refine⟨some ⟨b,off,none⟩,cap,(List.range<|m*sz).map<|λq=>(w.cell? ⟨b,off+q,none⟩).getD undef,he,by simp,hnil,hle,Or.inr ⟨b,off,rfl,λq hq=>?_⟩,λi j hi hj=>?_⟩;grind;have⟨x,hx,hl⟩:=hcell i j hi hj;have hidx:i*sz+j<m*sz:=(by have:(i+1)*sz<=m*sz:=abh _ Z;grind);refine⟨x,?_,hl⟩;rw [hget _ hidx,hx];rfl));rename_i hy;cases h;have he:=(cu hs hy:fP _ _ _ _).1;exact⟨none,0,[],he,by simp,λ_=>rfl,aav _,Or.inl O,λi j hi=>absurd hi (acH _)⟩;cases h
def fA(n:Nat)(el el2:Nat->Nat->Lf):Nat->Nat->Lf:=λi j=>bif Nat.ble (i+1) n then el i j else el2 (i-n) j
def ajF{id:Nat}{av:AV}(keep:(∀k,av.on k=true->k≠id)->AR ρ B w av v):AR ρ B w (fz av id .D<|λ_=>.D) v:=by have hk:∀{k:Nat}{b:AV},((∀k',Nat.beq k k'=true->k'≠id)->AR ρ B w b v)->AR ρ B w (bif Nat.beq k id then .D else b) v:=λ{k b} h=>(by cases e:Nat.beq k id with|true=>trivial|false=>exact h (λk' hk'=>by have:k=k':=abr hk';exact aq3));cases av with|d x=>exact keep (λk hk=>by cases hk)|dY x=>exact keep (λk hk=>by cases hk)|D=>trivial|_=>exact hk keep
def OW{t' ty e':TypeId}{args:Array Value}(h:P.underlying t=some (.slice e))(h':P.underlying t'=some (.slice e')):(Builtin.append_ #[t,t'] ty args).run P w=(Builtin.append_ #[t,t] ty args).run P w:=by unfold Builtin.append_;cases args[0]? with|none=>simp|some s=>(cases args[1]? with|none=>simp|some x=>cases s <;> simp [Sem.run_bind,run_underlying h,run_underlying h'])
def ajl(hT:xZ P T){t2 e2:TypeId}{ti2:TI}{id:Nat}(hcr:gq ρ B0 w0 w hp) 
  (hx:AR ρ (Bd ρ B0) w (.q id)<|a.eval x) (hob:unO (lk hp id)=some (.a e te.n n el)) (hy:∃ao c,∃news:List Value,a.eval y=.slice ao m c/\news.length=m*te.n/\(ao=none->c=0)/\m<=c/\qC w ao news/\∀i j,i<m->j<te.n->∃x,news[i*te.n+j]?=some x/\fP (Bd ρ B0) w (el2 i j) x) (hbd:(n+m)*te.bytes<=140737488355328) (hmx:n+m<=9223372036854775807) (hc:gX o.op=some c) (qU:c.callee=.builtin .append) (hargs:c.args.toList=[x,y]) (hty:c.argTypes.toList=[t,t2]) (ao4:T t2=some ti2) (he2:ti2.elem=some e2) (hti:T t=some ti) (he:ti.elem=some e) (hte:T e=some te) (hz:Nat.beq te.zero.length te.n=true) (h0:Nat.ble 1 te.n=true):
  ∃v' w',(execOp a.eval o).run P w=.ok (.value v') w'/\gq (up ρ id v') B0 w0 w' ((id,.a e te.n (n+m)<|fA n el el2)::hp)/\(∀av u,AR ρ (Bd ρ B0) w av u->AR (up ρ id v') (Bd (up ρ id v') B0) w' (fz av id .D<|λ_=>.D) u)/\AR (up ρ id v') (Bd (up ρ id v') B0) w' (.q id) v':=by
 have hop:o.op=.call c:=(by unfold gX at hc;split at hc;rename_i h;cases hc;exact h;cases hc);have⟨bJ,ad,n',cap,hxe⟩:=hx;have⟨ob,o1,o2⟩:=hcr.obj id _ bJ;rw [o1] at hob;replace o2:=o2.un;rw [show ob.un=.a e te.n n el from Option.some.inj hob] at o2;have⟨xs,hown,hel⟩:=o2;have⟨ao,cc,news,hye,hnl,hnil,hmc,hsrc,OE⟩:=hy;have⟨i,z,dd,h1,h2,h3,h4,h5,h6,h7,h8,h9,_⟩:=dH<|hT _ _ hti;have:=h9 e he;subst this;have⟨i',z',dd',k1,k2,k3,k4,k5,k6,k7,_⟩:=dH<|hT _ _ hte;have hzl:te.zero.length=te.n:=abr hz;have hsz:0<te.n:=acN h0;have hzs:z'.cells.size=te.n:=(by rw [<-hzl,<-k5];simp);have hone:∀u∈news,u.oneCell'=true:=(by intro u hu;obtain⟨q,hq,rfl⟩:=List.mem_iff_getElem.1 hu;rw [hnl] at hq;have hdiv:q/te.n<m:=ahR (by rw [Nat.mul_comm];exact hq);exact as5);have⟨v',w',hr,hown',hgrow,hblk⟩:=xU (P:=P) (w:=w) 0 t o.type e i' z' te.n te.bytes h3 k1 k2 k4 k7 hzs hsz (a.eval x) n xs hown.1 ao m cc news hnl hnil hmc hsrc hone (by simp [maxLen];omega) hbd<|abJ _;have⟨_,_,dd2,_,_,g3,_,_,_,_,_,g9,_⟩:=dH<|hT _ _ ao4;have:=g9 e2 he2;subst this;have hr:=(OW (ty:=o.type) (args:=#[a.eval x,.slice ao m cc]) (w:=w) h3 g3).trans hr;have hrun:(execOp a.eval o).run P w=.ok (.value v') w':=(by have ha:c.args=#[x,y]:=(by rw [<-Array.toList_inj];exact hargs);have ht:c.argTypes=#[t,t2]:=(by rw [<-Array.toList_inj];exact hty);unfold execOp;rw [hop];simp [resolve,qU,invoke,builtin,ha,ht,hye,hr]);have hvb:∀b,(a.eval x).ownBlock=some b->kK (a.eval x)=some b:=(by intro b hb;rw [hxe] at hb ⊢;cases ad with|none=>cases hb|some q=>exact hb);have hb0:Below 0 w w':=(Below.refl _ _).grown hgrow (abJ _) (λk hk=>abJ _);have hbel:Oi w0 w':=hcr.bel.put hb0.os hb0.tape hb0.output hgrow.size (g:=λb=>kK (a.eval x)=some b) (λb e=>hown.2 b e) (λb hb hne=>hgrow.block b hb<|λe=>hne<|hvb b e.symm);have MK:∀b,b<w.heap.size->kK (a.eval x)≠some b->w'.heap[b]?=w.heap[b]? :=λb hb hne=>hgrow.block b hb (λe=>hne<|hvb b e.symm);have hK:nH (Bd ρ B0) w w':=⟨hgrow.size,λb hb hB=>MK b hb<|λe=>hB<|Or.inr ⟨id,_,bJ,e⟩⟩;have hB':∀b,b<w.heap.size->Bd (up ρ id v') B0 b->Bd ρ B0 b:=(by rintro b hb (h|⟨k,u,q1,q2⟩);exact azR;unfold up at q1;split at q1;cases q1;rcases hblk b q2 with q3|q3;exact Or.inr ⟨id,_,bJ,q3⟩;omega;exact Or.inr ⟨k,u,q1,q2⟩);have hW:=gq.write (v':=v') (ob':=.a e te.n (n+m)<|fA n el el2) (hp':=(id,.a e te.n (n+m)<|fA n el el2)::hp) hcr bJ (w':=w') MK hgrow.size hbel hblk
  (λk ob hk hne=>by rw [aY,if_neg<|λe=>hne e.symm];exact hk) aCN
  ⟨xs++news,⟨hown',λb hb=>(hblk b hb).elim (hown.2 b)<|λh=>Or.inl<|acL hcr.bel.size h⟩,λp q hp hq=>by
   have hxl:=hown.1.1
   by_cases hpn:p<n
   ·have⟨u,hu1,hu2⟩:=hel p q hpn hq
    have hidx:=(acf.1 hu1).1;refine⟨u,by rw [List.getElem?_append_left hidx];exact hu1,?_⟩;have:fA n el el2 p q=el p q:=by
     unfold fA;rw [show Nat.ble (p+1) n=true from Nat.ble_eq_true_of_le hpn];rfl
    rw [this];exact fP.mv hK hB' _ hu2
   ·have⟨u,hu1,hu2⟩:=OE (p-n) q Z hq
    have hpm:p*te.n+q=n*te.n+((p-n)*te.n+q):=by
     rw [<-Nat.add_assoc,<-Nat.add_mul];congr 2;omega
    refine⟨u,by rw [hpm,List.getElem?_append_right Z,hxl,Nat.add_sub_cancel_left];exact hu1,?_⟩;have:fA n el el2 p q=el2 (p-n) q:=by
     unfold fA;rw [show Nat.ble (p+1) n=false from by rw [<-Bool.not_eq_true];exact λh=>hpn<|Nat.le_of_ble_eq_true h];rfl
    rw [this];exact fP.mv hK hB' _ hu2⟩
 refine⟨v',w',hrun,hW.1,λav u q=>ajF λhne=>AR.mv hK hB' (λk hk=>by unfold up;rw [if_neg<|hne k hk]) q,by simp [up],?_⟩;obtain⟨_,⟨rfl,_⟩|⟨g,cap',cur,rfl,_⟩⟩:=hown'
 ·exact⟨none,0,0,O⟩
 ·exact aGh
def mAT(hT:xZ P T){Q:Qs}{t2 e2:TypeId}{ti2:TI}{id:Nat} 
  (hx:dR s x=some (.q id)) (hob:unO (lk s.hp id)=some (.a e te.n n el)) (hy:∀(ρ:lq) (B0:BS) (w0:Wz) (w:World) (a:Act),gq ρ B0 w0 w s.hp->gu ρ (Bd ρ B0) w s.sl a->∃ao c,∃news:List Value,a.eval y=.slice ao m c/\news.length=m*te.n/\(ao=none->c=0)/\m<=c/\qC w ao news/\∀i j,i<m->j<te.n->∃x,news[i*te.n+j]?=some x/\fP (Bd ρ B0) w (el2 i j) x) (hbd:(n+m)*te.bytes<=140737488355328) (hmx:n+m<=9223372036854775807) (hc:gX o.op=some c) (qU:c.callee=.builtin .append) (hargs:c.args.toList=[x,y]) (hty:c.argTypes.toList=[t,t2]) (ao4:T t2=some ti2) (he2:ti2.elem=some e2) (hti:T t=some ti) (he:ti.elem=some e) (hte:T e=some te) (hz:Nat.beq te.zero.length te.n=true) (h0:Nat.ble 1 te.n=true)
  (hdst:o.dst=some d) (k:AL P ops Q l ⟨s.n,(d,.q id)::ZM id .D (λ_=>.D) s.sl,(id,.a e te.n (n+m)<|fA n el el2)::s.hp⟩) (hg:jD ops s o=some true:=by rfl) (hd:jQ (some d) s.n=true:=by rfl):AL P ops Q (o::l) s:=by rintro B0 w0 a w ⟨ρ,hcr,hn,hdf,hs⟩;have⟨v',w',hrun,h1,h2,h3⟩:=ajl hT hcr (cu hs hx) hob (hy ρ B0 w0 w a hcr hs) hbd hmx hc qU hargs hty ao4 he2 hti he hte hz h0;refine jv aDG hrun (k B0 w0 _ w' ⟨up ρ id v',h1,by rw [hdst];show(a.tmps.setIfInBounds d v').size=s.n;simpa using hn,by rw [hdst];exact hdf,?_⟩);rw [hdst];refine mF (λu av hu=>?_) hn (acN hd) h3;obtain⟨mJ,q1,rfl⟩:=xO _ _ _ hu;have⟨v,q2,q3⟩:=hs u mJ q1;exact⟨v,q2,h2 _ _ q3⟩
def mAS(hT:xZ P T){Q:Qs}{id:Nat} 
  (hx:dR s x=some (.q id)) (hob:unO (lk s.hp id)=some (.a e te.n n el)) (hy:∀(ρ:lq) (B0:BS) (w0:Wz) (w:World) (a:Act),gq ρ B0 w0 w s.hp->gu ρ (Bd ρ B0) w s.sl a->∃ao c,∃news:List Value,a.eval y=.slice ao m c/\news.length=m*te.n/\(ao=none->c=0)/\m<=c/\qC w ao news/\∀i j,i<m->j<te.n->∃x,news[i*te.n+j]?=some x/\fP (Bd ρ B0) w (el2 i j) x) (hbd:(n+m)*te.bytes<=140737488355328) (hmx:n+m<=9223372036854775807) (hc:gX o.op=some c) (qU:c.callee=.builtin .append) (hargs:c.args.toList=[x,y]) (hty:c.argTypes.toList=[t,t]) (hti:T t=some ti) (he:ti.elem=some e) (hte:T e=some te) (hz:Nat.beq te.zero.length te.n=true) (h0:Nat.ble 1 te.n=true)
  (hdst:o.dst=some d) (k:AL P ops Q l ⟨s.n,(d,.q id)::ZM id .D (λ_=>.D) s.sl,(id,.a e te.n (n+m)<|fA n el el2)::s.hp⟩) (hg:jD ops s o=some true:=by rfl) (hd:jQ (some d) s.n=true:=by rfl):AL P ops Q (o::l) s:=
 mAT hT hx hob hy hbd hmx hc qU hargs hty hti he hti he hte hz h0 hdst k hg hd
def mA(hT:xZ P T){Q:Qs}{id:Nat} 
  (hx:dR s x=some (.q id)) (hob:unO (lk s.hp id)=some (.a e te.n n el)) (hy:Qb s y te.n=some (m,el2)) (hbd:(n+m)*te.bytes<=140737488355328) (hmx:n+m<=9223372036854775807) (hc:gX o.op=some c) (qU:c.callee=.builtin .append) (hargs:c.args.toList=[x,y]) (hty:c.argTypes.toList=[t,t]) (hti:T t=some ti) (he:ti.elem=some e) (hte:T e=some te) (hz:Nat.beq te.zero.length te.n=true) (h0:Nat.ble 1 te.n=true)
  (hdst:o.dst=some d) (k:AL P ops Q l ⟨s.n,(d,.q id)::ZM id .D (λ_=>.D) s.sl,(id,.a e te.n (n+m)<|fA n el el2)::s.hp⟩) (hg:jD ops s o=some true:=by rfl) (hd:jQ (some d) s.n=true:=by rfl):AL P ops Q (o::l) s:=
 mAS hT hx hob (fun ρ B0 w0 w a _ hs=>Hl hs hy) hbd hmx hc qU hargs hty hti he hte hz h0 hdst k hg hd
end
end Go.Proofs.YtecmeakkkmidjaaGreat
