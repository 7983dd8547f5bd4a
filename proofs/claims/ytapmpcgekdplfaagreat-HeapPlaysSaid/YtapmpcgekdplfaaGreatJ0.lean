/-
  Laws of the program's functions by an abstract machine, part 0: joined, short spelling. No condition.
-/
import Derived.Test.YtapmpcgekdplfaaGreatRows
import Derived.WalkKit
import Derived.WalkSpells
import Derived.WalkLawsBesides
import Derived.Laws.CopyOwn
import Derived.Deep.MidRow
import Derived.StillTail
import Derived.Test.YtapmpcgekdplfaaGreatProg
import Derived.BigQuiet
import Derived.Deep.QuietTactic
import Derived.Deep.DeepCutAuto
import Derived.Deep.CutBlock
import Derived.Deep.RegionWith
import Derived.OpenShut
import Derived.Deep.Slices
import Derived.ChangeOld
import Derived.ChangeSame
import Derived.Lib.SmallJoins
import Derived.Laws.BytesString
import Derived.Laws.BitsLemmas
import Derived.Laws.StructEq
import Derived.Laws.IdiomArrays
import Derived.ProofKit
import Derived.ShutString
import Derived.Below
set_option linter.unusedVariables false
set_option linter.unusedSimpArgs false
set_option maxRecDepth 100000
set_option maxHeartbeats 4000000
namespace Go.Proofs.YtapmpcgekdplfaaGreat
open Go.RowKit
theorem Pe:True:=trivial
theorem abJ:type_of% @Nat.le_refl:=@Nat.le_refl
theorem abK:type_of% @Rat.mul_le_mul_of_nonneg_left:=@Rat.mul_le_mul_of_nonneg_left
theorem abL:type_of% @of_decide_eq_false:=@of_decide_eq_false
theorem abM:type_of% @of_decide_eq_true:=@of_decide_eq_true
theorem abN:type_of% @Nat.mul_le_mul_right:=@Nat.mul_le_mul_right
theorem abO:type_of% @Nat.eq_of_beq_eq_true:=@Nat.eq_of_beq_eq_true
theorem abP:type_of% @Classical.byContradiction:=@Classical.byContradiction
theorem abR:type_of% @Nat.zero_le:=@Nat.zero_le
theorem abS:type_of% @Rat.mul_le_mul_of_nonneg_right:=@Rat.mul_le_mul_of_nonneg_right
theorem abU:type_of% @List.getElem?_eq_some_iff:=@List.getElem?_eq_some_iff
theorem abX:type_of% @beq_eq_false_iff_ne:=@beq_eq_false_iff_ne
theorem ab1:type_of% @Nat.pow_le_pow_right:=@Nat.pow_le_pow_right
theorem ab2:type_of% @Nat.not_lt_zero:=@Nat.not_lt_zero
theorem acC:type_of% @Nat.lt_of_lt_of_le:=@Nat.lt_of_lt_of_le
theorem acQ:type_of% @Rat.mul_nonneg:=@Rat.mul_nonneg
theorem acS:type_of% @Nat.le_trans:=@Nat.le_trans
theorem ac4:type_of% @Nat.mul_le_mul_left:=@Nat.mul_le_mul_left
theorem ada:type_of% @Nat.le_of_ble_eq_true:=@Nat.le_of_ble_eq_true
theorem adb:type_of% @List.eq_nil_of_length_eq_zero:=@List.eq_nil_of_length_eq_zero
theorem adl:type_of% @Nat.mod_lt:=@Nat.mod_lt
theorem adC:type_of% @Nat.le_of_lt:=@Nat.le_of_lt
theorem aef:type_of% @decide_eq_false:=@decide_eq_false
theorem aev:type_of% @Nat.eq_zero_or_pos:=@Nat.eq_zero_or_pos
theorem aez:type_of% @beq_iff_eq:=@beq_iff_eq
theorem aeA:type_of% @Nat.pow_pos:=@Nat.pow_pos
theorem aeT:type_of% @Nat.le_mul_of_pos_right:=@Nat.le_mul_of_pos_right
theorem aeV:type_of% @Nat.lt_of_le_of_lt:=@Nat.lt_of_le_of_lt
theorem ae0:type_of% @Nat.mul_le_mul:=@Nat.mul_le_mul
theorem ae3:type_of% @decide_eq_true:=@decide_eq_true
theorem ae5:type_of% @Rat.mul_pos:=@Rat.mul_pos
theorem afb:type_of% @Nat.pow_le_pow_left:=@Nat.pow_le_pow_left
theorem afj:type_of% @List.all_eq_true:=@List.all_eq_true
theorem afl:type_of% @Nat.le_succ:=@Nat.le_succ
theorem afm:type_of% @List.getElem?_eq_getElem:=@List.getElem?_eq_getElem
theorem afn:type_of% @Nat.two_pow_pos:=@Nat.two_pow_pos
theorem afr:type_of% @List.mem_cons:=@List.mem_cons
theorem afu:type_of% @List.mem_replicate:=@List.mem_replicate
theorem afA:type_of% @bne_iff_ne:=@bne_iff_ne
theorem afB:type_of% @Nat.lt_succ_self:=@Nat.lt_succ_self
theorem afO:type_of% @bne_self_eq_false:=@bne_self_eq_false
theorem afQ:type_of% @Int.lt_trichotomy:=@Int.lt_trichotomy
theorem afR:type_of% @Nat.pos_of_ne_zero:=@Nat.pos_of_ne_zero
theorem afX:type_of% @Nat.div_lt_of_lt_mul:=@Nat.div_lt_of_lt_mul
theorem afY:type_of% @List.cons.inj:=@List.cons.inj
theorem afZ:type_of% @Option.some.inj:=@Option.some.inj
theorem af2:type_of% @Int.mul_ne_zero:=@Int.mul_ne_zero
theorem agH:type_of% @Int.ofNat_dvd_left:=@Int.ofNat_dvd_left
theorem agQ:type_of% @Nat.mul_pos:=@Nat.mul_pos
theorem ag1:type_of% @List.any_eq_true:=@List.any_eq_true
theorem ag3:type_of% @List.mem_cons_of_mem:=@List.mem_cons_of_mem
theorem ag4:type_of% @Nat.lt_or_ge:=@Nat.lt_or_ge
theorem ag5:type_of% @List.mem_range:=@List.mem_range
theorem ag7:type_of% @Nat.lt_trichotomy:=@Nat.lt_trichotomy
theorem ahm:type_of% @Nat.mul_lt_mul_of_pos_right:=@Nat.mul_lt_mul_of_pos_right
theorem ahn:type_of% @List.mem_append:=@List.mem_append
theorem aht:type_of% @Nat.le_mul_of_pos_left:=@Nat.le_mul_of_pos_left
theorem ahE:type_of% @decide_eq_decide:=@decide_eq_decide
theorem ah5:type_of% @congrArg:=@congrArg
theorem aii:type_of% @Rat.mul_inv_cancel:=@Rat.mul_inv_cancel
theorem aij:type_of% @Rat.div_mul_cancel:=@Rat.div_mul_cancel
theorem aio:type_of% @List.mem_of_mem_take:=@List.mem_of_mem_take
theorem aiA:type_of% @List.mem_of_getElem?:=@List.mem_of_getElem?
theorem aiF:type_of% @Rat.mul_comm:=@Rat.mul_comm
theorem aiG:type_of% @List.mem_cons_self:=@List.mem_cons_self
theorem aiH:type_of% @Nat.mod_add_div:=@Nat.mod_add_div
theorem aiI:type_of% @Array.getElem?_eq_some_iff:=@Array.getElem?_eq_some_iff
theorem aiJ:type_of% @List.mem_append_left:=@List.mem_append_left
theorem aiK:type_of% @Nat.le_max_right:=@Nat.le_max_right
theorem aiL:type_of% @Nat.le_add_right:=@Nat.le_add_right
theorem aiM:type_of% @List.getElem_mem:=@List.getElem_mem
theorem aiN:type_of% @Rat.mul_eq_zero:=@Rat.mul_eq_zero
theorem aiO:type_of% @Rat.intCast_eq_zero_iff:=@Rat.intCast_eq_zero_iff
theorem aiP:type_of% @Nat.le_max_left:=@Nat.le_max_left
theorem aiQ:type_of% @Nat.exists_eq_add_of_le:=@Nat.exists_eq_add_of_le
theorem aiR:type_of% @List.mem_filterMap:=@List.mem_filterMap
theorem aiS:type_of% @List.mem_append_right:=@List.mem_append_right
theorem aiT:type_of% @Array.mem_append:=@Array.mem_append
theorem aiU:type_of% @Nat.div_add_mod:=@Nat.div_add_mod
theorem aiV:type_of% @Nat.add_le_add_left:=@Nat.add_le_add_left
theorem aiW:type_of% @Nat.lt_of_mul_lt_mul_right:=@Nat.lt_of_mul_lt_mul_right
theorem aiX:type_of% @Int.natAbs_ediv_le_natAbs:=@Int.natAbs_ediv_le_natAbs
theorem aiY:type_of% @Option.isSome_iff_exists:=@Option.isSome_iff_exists
/-- The number of a row of digits to the base B, the lowest first. -/
def aO(B:Nat):List Nat→Nat
 | []=>0
 | x ::xs=>x+B*aO B xs
theorem Ar(B x:Nat)(xs:List Nat):aO B (x ::xs)=x+B*aO B xs:=rfl
theorem jw(B:Nat)(xs ys:List Nat):aO B (xs ++ys)=aO B xs+B^xs.length*aO B ys:=by
 induction xs with
 | nil=>simp [aO]
 | cons x xs ih=>simp only [List.cons_append,aO,ih,List.length_cons,Nat.pow_succ];grind
theorem nC{B:Nat}{xs:List Nat}(h:∀ x∈xs,x < B):aO B xs < B^xs.length:=by
 induction xs with
 | nil=>simp [aO]
 | cons x xs ih=>
  have h1:=ih (fun y hy=>h y (ag3 _ hy));have h2:=h x aiG;simp only [aO,List.length_cons,Nat.pow_succ];have h3:B*(aO B xs+1)≤B*B^xs.length:=ac4 _ h1;rw [Nat.mul_comm (B^xs.length) B];rw [Nat.mul_add] at h3;omega
theorem jM(B:Nat)(xs:List Nat)(k:Nat)(h:k < xs.length):aO B (xs.take (k+1))=aO B (xs.take k)+B^k*xs[k]:=by
 rw [List.take_succ_eq_append_getElem h,jw];simp [aO,List.length_take,Nat.min_eq_left (Nat.le_of_lt h)]
theorem qg(B:Nat)(xs:List Nat)(k:Nat)(h:k≤xs.length):aO B xs=aO B (xs.take k)+B^k*aO B (xs.drop k):=by
 have:=jw B (xs.take k) (xs.drop k);rw [List.take_append_drop,List.length_take,Nat.min_eq_left h] at this;exact this
theorem jF(B n:Nat):aO B (List.replicate n 0)=0:=by
 induction n with
 | zero=>rfl
 | succ n ih=>simp [List.replicate_succ,aO,ih]
theorem En(B:Nat)(xs:List Nat)(n:Nat):aO B (xs ++List.replicate n 0)=aO B xs:=by
 rw [jw,jF];simp
/-- The digits of n to the base B, the lowest first, none of them 0 on top (f rounds). -/
def KT(B:Nat):Nat→Nat→List Nat
 | 0,_=> []
 | f+1,n=>if n=0 then [] else n%B ::KT B f (n / B)
/-- The digits of n to the base B, the lowest first, none of them 0 on top. -/
def mF(B n:Nat):List Nat:=KT B n n
theorem MR{B:Nat}(hB:2≤B)(f:Nat):∀ n,n≤f→KT B f n=mF B n:=by
 induction f using Nat.strongRecOn with
 | ind f ih=>
  intro n hn
  by_cases h0:n=0
  ·subst h0;cases f <;> simp [mF,KT]
  ·obtain ⟨f',rfl⟩:∃ f',f=f'+1:=⟨f-1,by omega⟩
   obtain ⟨n',rfl⟩:∃ n',n=n'+1:=⟨n-1,by omega⟩
   have hd:(n'+1) / B < n'+1:=Nat.div_lt_self (by omega) hB;simp only [mF,KT,if_neg h0];rw [ih f' (by omega) _ (by omega)]
   by_cases hlt:n' < f'+1
   ·by_cases he:n'=f'
    ·subst he;rw [ih n' (by omega) _ (by omega)]
    ·rw [ih n' (by omega) _ (by omega)]
   ·omega
theorem nS(B:Nat):mF B 0= []:=rfl
theorem qy{B:Nat}(hB:2≤B){n:Nat}(hn:n≠0):mF B n=n%B ::mF B (n / B):=by
 obtain ⟨n',rfl⟩:∃ n',n=n'+1:=⟨n-1,by omega⟩
 have hd:(n'+1) / B < n'+1:=Nat.div_lt_self (by omega) hB;simp only [mF,KT,if_neg hn];rw [MR hB n' _ (by omega)];rfl
theorem wR{B:Nat}(hB:2≤B)(n:Nat):aO B (mF B n)=n:=by
 induction n using Nat.strongRecOn with
 | ind n ih=>
  by_cases h0:n=0
  ·subst h0;rfl
  ·have hd:n / B < n:=Nat.div_lt_self (by omega) hB
   rw [qy hB h0,Ar,ih _ hd,Nat.mod_add_div]
theorem Dh{B:Nat}(hB:2≤B)(n:Nat):∀ x∈mF B n,x < B:=by
 induction n using Nat.strongRecOn with
 | ind n ih=>
  by_cases h0:n=0
  ·subst h0;simp [nS]
  ·have hd:n / B < n:=Nat.div_lt_self (by omega) hB
   rw [qy hB h0];intro x hx;rcases afr.1 hx with rfl | hx
   ·exact adl _ (by omega)
   ·exact ih _ hd x hx
theorem EM{B:Nat}(hB:2≤B){x n:Nat}(hx:x < B)(h:x≠0∨n≠0):mF B (x+B*n)=x ::mF B n:=by
 have hB0:0 < B:=by omega
 have hne:x+B*n≠0:=by
  rcases h with h | h
  ·omega
  ·have:=agQ hB0 (afR h);omega
 rw [qy hB hne];have h1:(x+B*n)%B=x:=by rw [Nat.add_mul_mod_self_left,Nat.mod_eq_of_lt hx]
 have h2:(x+B*n) / B=n:=by rw [Nat.add_mul_div_left _ _ hB0,Nat.div_eq_of_lt hx,Nat.zero_add]
 rw [h1,h2]
/-- A row is normal: its digits are below B, the last one is not 0. -/
def Nrm(B:Nat)(xs:List Nat):Prop:=(∀ x∈xs,x < B)∧xs.getLast?≠some 0
theorem OD{B:Nat}(hB:2≤B){xs:List Nat}(h:Nrm B xs)(hne:xs≠ []):aO B xs≠0:=by
 induction xs with
 | nil=>exact absurd rfl hne
 | cons x xs ih=>
  by_cases hx:xs= []
  ·subst hx
   have:=h.2;simp [aO] at this ⊢;exact this
  ·have hn:Nrm B xs:=⟨fun y hy=>h.1 y (ag3 _ hy),by have:=h.2;rwa [List.getLast?_cons_of_ne_nil hx] at this⟩
   have:=ih hn hx;have:=agQ (show 0 < B by omega) (afR this);simp only [aO];omega
/-- A normal row is the row of digits of its number. -/
theorem Nrm.mF{B:Nat}(hB:2≤B){xs:List Nat}(h:Nrm B xs):mF B (aO B xs)=xs:=by
 induction xs with
 | nil=>rfl
 | cons x xs ih=>
  have hx:x < B:=h.1 x aiG
  by_cases hxs:xs= []
  ·subst hxs
   have h2:=h.2;simp at h2;simpa [aO,nS] using EM hB (n:=0) hx (Or.inl h2)
  ·have hn:Nrm B xs:=⟨fun y hy=>h.1 y (ag3 _ hy),by have:=h.2;rwa [List.getLast?_cons_of_ne_nil hxs] at this⟩
   rw [Ar,EM hB hx (Or.inr (OD hB hn hxs)),ih hn]
theorem Ip{B:Nat}(hB:2≤B)(n:Nat):Nrm B (mF B n):=by
 refine ⟨Dh hB n,?_⟩
 induction n using Nat.strongRecOn with
 | ind n ih=>
  by_cases h0:n=0
  ·subst h0;simp [nS]
  ·have hd:n / B < n:=Nat.div_lt_self (by omega) hB
   rw [qy hB h0]
   by_cases h1:n / B=0
   ·rw [h1,nS]
    have:=aiH n B;rw [h1] at this;simp;omega
   ·have hne:Go.Proofs.YtapmpcgekdplfaaGreat.mF B (n / B)≠ []:=by rw [qy hB h1];simp
    rw [List.getLast?_cons_of_ne_nil hne];exact ih _ hd
theorem yL{B:Nat}(hB:2≤B){n:Nat}:mF B n= []↔n=0:=by
 constructor
 ·intro h
  have:=wR hB n;rw [h] at this;exact this.symm
 ·rintro rfl;rfl
theorem Gi{B:Nat}(hB:2≤B){xs:List Nat}(h:∀ x∈xs,x < B){n:Nat}(hn:n≠0):mF B (aO B xs+B^xs.length*n)=xs ++mF B n:=by
 have hN:Nrm B (xs ++mF B n):=by
  refine ⟨fun x hx=>?_,?_⟩
  ·rcases ahn.1 hx with hx | hx
   ·exact h x hx
   ·exact Dh hB n x hx
  ·rw [List.getLast?_append]
   have hne:Go.Proofs.YtapmpcgekdplfaaGreat.mF B n≠ []:=fun e=>hn ((yL hB).1 e)
   have:=(Ip hB n).2;rw [List.getLast?_eq_some_getLast hne] at this ⊢;simpa using this
 have:=hN.mF hB;rwa [jw,wR hB] at this
theorem rZ{B:Nat}(hB:2≤B){n k:Nat}(h:n < B^k):(mF B n).length≤k:=by
 induction k generalizing n with
 | zero=>simp at h;subst h;simp [nS]
 | succ k ih=>
  by_cases h0:n=0
  ·subst h0;simp [nS]
  ·rw [qy hB h0,List.length_cons]
   have:n / B < B^k:=by rw [Nat.div_lt_iff_lt_mul (by omega)];rwa [Nat.pow_succ] at h
   have:=ih this;omega
theorem yM{B:Nat}(hB:2≤B)(n:Nat):n < B^(mF B n).length:=by
 have:=nC (Dh hB n);rwa [wR hB] at this
theorem Io{B:Nat}(hB:2≤B){n k:Nat}(h:B^k≤n):k < (mF B n).length:=by
 rcases ag4 k (mF B n).length with h1 | h1
 ·exact h1
 ·have h2:=yM hB n
  have h3:B^(mF B n).length≤B^k:=ab1 (by omega) h1;omega
theorem vV{B:Nat}(hB:2≤B){m n:Nat}(h:m≤n):(mF B m).length≤(mF B n).length:=
 rZ hB (aeV h (yM hB n))
/-- How many digits are left of the first n when noughts on top are dropped. -/
def uf(xs:List Nat):Nat→Nat
 | 0=>0
 | n+1=>if xs.getD n 0=0 then uf xs n else n+1
theorem Dc(xs:List Nat)(n:Nat):uf xs n≤n:=by
 induction n with
 | zero=>simp [uf]
 | succ n ih=>simp only [uf];split <;> omega
theorem V9{B:Nat}(hB:2≤B)(xs:List Nat)(h:∀ x∈xs,x < B)(n:Nat)(hn:n≤xs.length):xs.take (uf xs n)=mF B (aO B (xs.take n)):=by
 induction n with
 | zero=>simp [uf,aO,nS]
 | succ n ih=>
  have hlt:n < xs.length:=by omega
  simp only [uf];rw [jM B xs n hlt];have hg:xs.getD n 0=xs[n]:=by simp [hlt]
  rw [hg];split
  ·rename_i h0
   rw [ih (by omega),h0];simp
  ·rename_i h0
   have hlen:(xs.take n).length=n:=by simp;omega
   have h1:=Gi hB (xs:=xs.take n) (fun x hx=>h x (aio hx)) (n:=xs[n]) h0;rw [hlen] at h1;rw [h1,List.take_succ_eq_append_getElem hlt];have hx:xs[n] < B:=h _ (aiM _);have h2:=EM hB (n:=0) hx (Or.inl h0);simp [nS] at h2;rw [h2]
/-- THE SAME, WHOLE: what is left of a row without the noughts on top is its number's row. -/
theorem Ik{B:Nat}(hB:2≤B)(xs:List Nat)(h:∀ x∈xs,x < B):xs.take (uf xs xs.length)=mF B (aO B xs):=by
 have:=V9 hB xs h xs.length (abJ _);rwa [List.take_length] at this
theorem Pv{B:Nat}(hB:2≤B)(xs:List Nat)(h:∀ x∈xs,x < B):uf xs xs.length=(mF B (aO B xs)).length:=by
 rw [← Ik hB xs h,List.length_take,Nat.min_eq_left (Dc _ _)]
/-- A row after one digit is set: its number up to there. -/
theorem gU(B:Nat)(xs:List Nat)(k d:Nat)(h:k < xs.length):aO B ((xs.set k d).take (k+1))=aO B (xs.take k)+B^k*d:=by
 rw [jM B _ k (by simpa using h)];simp [List.take_set_of_le]
theorem dK{B:Nat}{xs:List Nat}(h:∀ x∈xs,x < B){d:Nat}(hd:d < B)(k:Nat):∀ x∈xs.set k d,x < B:=by
 intro x hx
 rcases List.mem_or_eq_of_mem_set hx with hx | rfl
 ·exact h x hx
 ·exact hd
theorem aQ(B:Nat){xs:List Nat}{k x:Nat}(h:xs[k]?=some x):aO B (xs.take (k+1))=aO B (xs.take k)+B^k*x:=by
 obtain ⟨hk,rfl⟩:=abU.1 h;exact jM B xs k hk
theorem iL(B:Nat){xs:List Nat}{k:Nat}(h:xs.length≤k):aO B (xs.take (k+1))=aO B (xs.take k):=by
 rw [List.take_of_length_le (by omega),List.take_of_length_le h]
theorem bJ(B:Nat){xs:List Nat}{k:Nat}(h:xs.length=k):aO B (xs.take k)=aO B xs:=by
 rw [List.take_of_length_le (by omega)]
theorem zL(B k s:Nat):B^k*(s%B)+B^(k+1)*(s / B)=B^k*s:=by
 rw [Nat.pow_succ,Nat.mul_assoc,← Nat.mul_add,Nat.mod_add_div]
/-- One digit of a sum. -/
theorem O4{B k cy x y:Nat}{os P Q:List Nat}(hk:k < os.length)(hv:aO B (os.take k)+B^k*cy=aO B (P.take k)+aO B (Q.take k)) 
  (hP:aO B (P.take (k+1))=aO B (P.take k)+B^k*x) (hQ:aO B (Q.take (k+1))=aO B (Q.take k)+B^k*y):
  aO B ((os.set k ((x+cy+y)%B)).take (k+1))+B^(k+1)*((x+cy+y) / B)=aO B (P.take (k+1))+aO B (Q.take (k+1)):=by
 rw [gU B os k _ hk,hP,hQ];have:=zL B k (x+cy+y);rw [Nat.mul_add,Nat.mul_add] at this;omega
/-- One digit of a difference. -/
theorem Ej{B k cy b x y d:Nat}{os P Q:List Nat}(hk:k < os.length)(hv:aO B (os.take k)+aO B (Q.take k)=aO B (P.take k)+B^k*cy) 
  (hP:aO B (P.take (k+1))=aO B (P.take k)+B^k*x) (hQ:aO B (Q.take (k+1))=aO B (Q.take k)+B^k*y) (hd:d+cy+y=x+B*b):
  aO B ((os.set k d).take (k+1))+aO B (Q.take (k+1))=aO B (P.take (k+1))+B^(k+1)*b:=by
 rw [gU B os k _ hk,hP,hQ,Nat.pow_succ,Nat.mul_assoc];have h1:B^k*(d+cy+y)=B^k*(x+B*b):=by rw [hd]
 rw [Nat.mul_add,Nat.mul_add,Nat.mul_add] at h1;omega
theorem tK(B:Nat){xs:List Nat}{k x:Nat}(h:xs[k]?=some x):aO B (xs.drop k)=x+B*aO B (xs.drop (k+1)):=by
 obtain ⟨hk,rfl⟩:=abU.1 h;rw [List.drop_eq_getElem_cons hk];rfl
theorem Bg(B:Nat)(xs:List Nat)(k d:Nat)(h:k < xs.length):aO B ((xs.set k d).drop k)=d+B*aO B (xs.drop (k+1)):=by
 rw [tK B (xs:=xs.set k d) (x:=d) (by simp [h]),List.drop_set_of_lt (by omega)]
/-- One digit of a quotient by a small number. -/
theorem BX{B v j r x q t s:Nat}{xs os:List Nat}(hj:j < os.length)(hx:xs[j]?=some x)(hv:aO B (xs.drop (j+1))=v*aO B (os.drop (j+1))+r) 
  (hs:s=r*B+x) (hq:v*q+t=s):aO B (xs.drop j)=v*aO B ((os.set j q).drop j)+t:=by
 rw [tK B hx,Bg B os j q hj,hv];subst hs;have:v*(q+B*aO B (os.drop (j+1)))=v*q+B*(v*aO B (os.drop (j+1))):=by grind
 rw [this,Nat.mul_add B];have:=Nat.mul_comm r B;omega
theorem zO(B:Nat){xs:List Nat}{k x:Nat}(h:xs[k]?=some x)(d:Nat):aO B (xs.set k d)+B^k*x=aO B xs+B^k*d:=by
 obtain ⟨hk,rfl⟩:=abU.1 h;rw [qg B xs (k+1) hk,qg B (xs.set k d) (k+1) (by rw [List.length_set];exact hk),gU B xs k d hk,jM B xs k hk,List.drop_set_of_lt (by omega)];omega
/-- One limb of a row moved up. -/
theorem aa7{B S k kk o x t hi:Nat}{os P:List Nat}(ho:os[k+kk]?=some o)(h0:os[k+kk+1]?=some 0)(hv:aO B os=B^kk*(S*aO B (P.take k))) 
  (hP:P[k]?=some x) (ht:t+B*hi=o+x*S):
  aO B ((os.set (k+kk) t).set (k+kk+1) hi)=B^kk*(S*aO B (P.take (k+1))):=by
 have h1:=zO B ho t;have h2:=zO B (xs:=os.set (k+kk) t) (k:=k+kk+1) (x:=0) (by rw [List.getElem?_set_ne (by omega)];exact h0) hi;rw [Nat.mul_zero,Nat.add_zero,Nat.pow_succ,Nat.mul_assoc] at h2;have h3:B^(k+kk)*(t+B*hi)=B^(k+kk)*(o+x*S):=by rw [ht]
 rw [Nat.mul_add,Nat.mul_add] at h3;have h4:B^kk*(S*(aO B (P.take k)+B^k*x))=B^kk*(S*aO B (P.take k))+B^(k+kk)*(x*S):=by rw [Nat.pow_add];grind
 rw [aQ B hP,h4];omega
/-- One limb of a row moved down. -/
theorem QE{B S k d0 x y q:Nat}{os D:List Nat}(hk:k < os.length)(hv:S*aO B (os.take k)+d0=aO B (D.take k)+B^k*(D.getD k 0%S)) 
  (hx:D[k]?=some x) (hy:D.getD (k+1) 0=y) (hq:S*q+x%S=x+B*(y%S)):
  S*aO B ((os.set k q).take (k+1))+d0=aO B (D.take (k+1))+B^(k+1)*(D.getD (k+1) 0%S):=by
 have hg:D.getD k 0=x:=by simp [List.getD,hx]
 rw [hg] at hv;rw [gU B os k q hk,aQ B hx,hy,Nat.pow_succ,Nat.mul_assoc];have h1:B^k*(S*q+x%S)=B^k*(x+B*(y%S)):=by rw [hq]
 rw [Nat.mul_add,Nat.mul_add] at h1;have h2:S*(aO B (os.take k)+B^k*q)=S*aO B (os.take k)+B^k*(S*q):=by grind
 rw [h2];omega
theorem FD(B:Nat)(os:List Nat)(d:Nat):aO B (os ++ [d])=aO B os+B^os.length*d:=by
 rw [jw];simp [aO]
/-- One digit of a product by a small number. -/
theorem FZ{B k c x m c0:Nat}{os xs:List Nat}(hl:os.length=k)(hv:aO B os+B^k*c=aO B (xs.take k)*m+c0)(hx:aO B (xs.take (k+1))=aO B (xs.take k)+B^k*x):
  aO B (os ++ [(c+x*m)%B])+B^(k+1)*((c+x*m) / B)=aO B (xs.take (k+1))*m+c0:=by
 rw [FD,hl,hx];have h1:=zL B k (c+x*m);rw [Nat.mul_add] at h1;have h2:(aO B (xs.take k)+B^k*x)*m=aO B (xs.take k)*m+B^k*(x*m):=by grind
 rw [h2];omega
/-- The base of limbs; the base of the document's own digits. -/
abbrev bT:Nat:=4294967296
abbrev B4:Nat:=10000
theorem qh:2≤bT:=by decide
theorem xg:2≤B4:=by decide
/-- The number of a row of limbs; the row of limbs of a number. -/
def val(xs:List Nat):Nat:=aO bT xs
def dA(n:Nat):List Nat:=mF bT n
theorem aac(n:Nat):val (dA n)=n:=wR qh n
theorem DN(n:Nat):∀ x∈dA n,x < bT:=Dh qh n
theorem Tv:dA 0= []:=rfl
theorem ru{n:Nat}:dA n= []↔n=0:=yL qh
theorem I9{n k:Nat}(h:n < bT^k):(dA n).length≤k:=rZ qh h
theorem Ja{m n:Nat}(h:m≤n):(dA m).length≤(dA n).length:=vV qh h
theorem JJ{xs:List Nat}(h:∀ x∈xs,x < bT):val xs < bT^xs.length:=nC h
theorem Wh(xs:List Nat)(h:∀ x∈xs,x < bT):xs.take (uf xs xs.length)=dA (val xs):=Ik qh xs h
theorem uX{m n:Nat}(h:(dA m).length < (dA n).length):m < n:=by
 rcases ag4 m n with h1 | h1
 ·exact h1
 ·have:=Ja h1;omega
/-- The number of a row of the document's digits; the row of such digits of a number. -/
def jX(xs:List Nat):Nat:=aO B4 xs
def aT(n:Nat):List Nat:=mF B4 n
theorem dS(n:Nat):jX (aT n)=n:=wR xg n
theorem vT(n:Nat):∀ x∈aT n,x < B4:=Dh xg n
theorem Df{n:Nat}:aT n= []↔n=0:=yL xg
theorem o9{m n:Nat}(h:m≤n):(aT m).length≤(aT n).length:=vV xg h
theorem rX{n k:Nat}(h:n < B4^k):(aT n).length≤k:=rZ xg h
theorem Hw{xs:List Nat}(h:∀ x∈xs,x < B4):jX xs < B4^xs.length:=nC h
theorem AQ{m n:Nat}(h:(aT m).length < (aT n).length):m < n:=by
 rcases ag4 m n with h1 | h1
 ·exact h1
 ·have:=o9 h1;omega
theorem KP(xs:List Nat)(h:∀ x∈xs,x < B4):xs.take (uf xs xs.length)=aT (jX xs):=Ik xg xs h
/-- A number of k limbs has at most 3 k of the document's digits. -/
theorem rY{n k:Nat}(h:n < bT^k):(aT n).length≤3*k:=by
 refine rX (acC h ?_);rw [Nat.pow_mul];exact afb (by decide) _
theorem EL{n:Nat}(h:n≠0):aT n=n%B4 ::aT (n / B4):=qy xg h
theorem WR{n:Nat}(h:n≠0):dA n=n%bT ::dA (n / bT):=qy qh h
theorem aS{p:Prop}(h:p):Hid p:=h
theorem jg{k:IntKind}{a b:Int}(h:a=b):Ending.returned (.int k a)= .returned (.int k b):=by rw [h]
theorem lU{a b c:World}(h:Below a.heap.size a b)(k:Below b.heap.size b c):Below a.heap.size a c:=h.trans (k.mono h.size)
theorem jo{B:Nat}{a w:World}(h:Below B a w)(n:Nat):Below B a (w.drewN n):=h.trans ⟨rfl,rfl,rfl,abJ _,fun _ _=>rfl⟩
theorem jO(n:Int):IntKind.u64.wrap n=n%18446744073709551616:=by simp [IntKind.wrap,IntKind.bits,IntKind.signed]
theorem zQ(n:Int):IntKind.u32.wrap n=n%4294967296:=by simp [IntKind.wrap,IntKind.bits,IntKind.signed]
theorem Q8(n:Nat)(h:n < 18446744073709551616):IntKind.u64.wrap (n:Int)=n:=by rw [jO];omega
/-- Two halves of 64 bits joined. -/
theorem NS(r x:Nat)(hr:r < 4294967296)(hx:x < 4294967296):bits BinOp.or IntKind.u64 ((r:Int)*4294967296) (x:Int)=((r*4294967296+x:Nat):Int):=by
 have h:=bits_or_u64_nat (r*4294967296) x (by omega) (by omega);have h2:=Nat.two_pow_add_eq_or_of_lt (i:=32) (show x < 2^32 from hx) r;rw [Nat.mul_comm,show (2:Nat)^32=4294967296 from rfl] at h2;rw [h2,← h];simp
theorem Xn(n:Int)(h0:0≤n)(h1:n < 2^32):IntKind.u32.wrap n=n:=by rw [zQ];omega
/-- A limb moved up by less than 32 places, in two halves; the lower one laid over what came up from below. -/
theorem Xe(x ss o:Nat)(hx:x < 4294967296)(hs:ss < 32)(ho:o < 2^ss):∃ v t hi:Nat,IntKind.u64.wrap ((x:Int)*2^ss)=(v:Int)∧(v:Int) / 4294967296=(hi:Int)∧
  bits BinOp.or IntKind.u32 (o:Int) ((v:Int)%4294967296)=(t:Int)∧t < 4294967296∧hi < 4294967296∧hi < 2^ss∧v < 18446744073709551616∧t+4294967296*hi=o+x*2^ss:=by
 have hp:2^ss≤2147483648:=ab1 (n:=2) (i:=ss) (j:=31) (by decide) (by omega);have hpos:=afn ss;have hv:x*2^ss < 4294967296*2^ss:=ahm hx hpos;have hsplit:2^(32-ss)*2^ss=4294967296:=by rw [← Nat.pow_add,show 32-ss+ss=32 by omega]
 have hlo:(x*2^ss)%4294967296=2^ss*(x%2^(32-ss)):=by rw [← hsplit,Nat.mul_mod_mul_right,Nat.mul_comm]
 have hc:x%2^(32-ss)+1≤2^(32-ss):=adl _ (afn _);have hlt:2^ss*(x%2^(32-ss))+2^ss≤4294967296:=by
  have:=ac4 (2^ss) hc;rw [Nat.mul_add,Nat.mul_one,Nat.mul_comm _ (2^(32-ss)),hsplit] at this;exact this
 have hor:=Nat.two_pow_add_eq_or_of_lt ho (x%2^(32-ss));have hdiv:x*2^ss / 4294967296 < 2^ss:=afX hv;have hcast:((x*2^ss:Nat):Int)=(x:Int)*2^ss:=by rw [Int.natCast_mul,Int.natCast_pow];rfl
 have hob:=(bits_nat .u32 32 (by decide) Xn o (x*2^ss%4294967296) (by omega) (adl _ (by decide))).2;rw [hlo,Nat.or_comm,← hor] at hob;refine ⟨x*2^ss,2^ss*(x%2^(32-ss))+o,x*2^ss / 4294967296,?_,rfl,?_,by omega,by omega,hdiv,by omega,?_⟩
 ·rw [← hcast];exact Q8 _ (by omega)
 ·rw [← hob,← hlo];rfl
 ·rw [← hlo];omega
/-- Two limbs moved down by less than 32 places: the lower limb of it. -/
theorem Xf(x y ss:Nat)(hx:x < 4294967296)(hy:y < 4294967296)(hs:ss < 32):∃ q:Nat,bits BinOp.or IntKind.u64 (x:Int) ((y:Int)*4294967296) / 2^ss%4294967296=(q:Int)∧q < 4294967296∧
  2^ss*q+x%2^ss=x+bT*(y%2^ss):=by
 have hpos:=afn ss;have hsplit:2^(32-ss)*2^ss=4294967296:=by rw [← Nat.pow_add,show 32-ss+ss=32 by omega]
 have hor:=bits_or_u64_nat x (y*4294967296) (by omega) (by omega);have h2:=Nat.two_pow_add_eq_or_of_lt (i:=32) (show x < 2^32 from hx) y;rw [Nat.mul_comm,show (2:Nat)^32=4294967296 from rfl,Nat.or_comm] at h2;rw [← h2] at hor;have hcast:((y*4294967296:Nat):Int)=(y:Int)*4294967296:=by omega
 rw [hcast] at hor;rw [hor];generalize hS:2^ss=S at *
 generalize hT:2^(32-ss)=T at *
 have hTpos:0 < T:=by rw [← hT];exact afn _
 have hdiv:(y*4294967296+x) / S=x / S+T*y:=by
  rw [← hsplit,Nat.add_comm,show y*(T*S)=S*(T*y) by grind,Nat.add_mul_div_left _ _ hpos]
 have hxS:x / S < T:=by rw [Nat.div_lt_iff_lt_mul hpos,hsplit];exact hx
 have hyS:y%S < S:=adl _ hpos;have hlt:x / S+T*(y%S) < 4294967296:=by
  have:=ac4 T (show y%S+1≤S from hyS);rw [Nat.mul_add,hsplit] at this;omega
 have hmod:(x / S+T*y)%4294967296=x / S+T*(y%S):=by
  have h3:x / S+T*y=x / S+T*(y%S)+4294967296*(y / S):=by
   rw [← hsplit];have:=aiH y S;have h4:T*y=T*(y%S+S*(y / S)):=by rw [this]
   rw [h4];grind
  rw [h3,Nat.add_mul_mod_self_left,Nat.mod_eq_of_lt hlt]
 refine ⟨x / S+T*(y%S),?_,hlt,?_⟩
 ·have e:((2:Int)^ss)=((S:Nat):Int):=by rw [← hS];simp
  rw [e,← hmod,← hdiv];rfl
 ·have h5:=aiH x S
  have h6:S*(x / S+T*(y%S))=S*(x / S)+4294967296*(y%S):=by rw [← hsplit];grind
  unfold bT;omega
theorem TU(x ss:Nat)(hx:x < 4294967296):∃ q:Nat,(x:Int) / 2^ss%4294967296=(q:Int)∧q < 4294967296∧2^ss*q+x%2^ss=x+bT*(0%2^ss):=by
 have hlt:x / 2^ss≤x:=Nat.div_le_self _ _;refine ⟨x / 2^ss,?_,by omega,?_⟩
 ·have e:((2:Int)^ss)=((2^ss:Nat):Int):=by simp
  rw [e,← Int.natCast_ediv];generalize x / 2^ss=q at *
  omega
 ·rw [Nat.zero_mod,Nat.mul_zero]
  have:=aiH x (2^ss);omega
/-- One digit less one digit less a borrow, as 64 bits have it. -/
theorem abj(x cy y:Nat)(hx:x < 4294967296)(hc:cy≤1)(hy:y < 4294967296):∃ d b:Nat,d < bT∧b≤1∧IntKind.u64.wrap (IntKind.u64.wrap ((x:Int)-cy)-y) / 9223372036854775808=(b:Int)∧
  IntKind.u64.wrap (IntKind.u64.wrap ((x:Int)-cy)-y)%4294967296=(d:Int)∧d+cy+y=x+bT*b:=by
 rw [jO,jO]
 by_cases h:cy+y≤x
 ·exact ⟨x-cy-y,0,by unfold bT;omega,by omega,by omega,by omega,by omega⟩
 ·exact ⟨x+4294967296-cy-y,1,by unfold bT;omega,by omega,by omega,by omega,by unfold bT;omega⟩
/-- The same, the borrow last. -/
theorem Xj(x lo bw:Nat)(hx:x < 4294967296)(hl:lo < 4294967296)(hb:bw≤1):∃ d b:Nat,d < bT∧b≤1∧IntKind.u64.wrap (IntKind.u64.wrap ((x:Int)-lo)-bw) / 9223372036854775808=(b:Int)∧
  IntKind.u64.wrap (IntKind.u64.wrap ((x:Int)-lo)-bw)%4294967296=(d:Int)∧d+lo+bw=x+bT*b:=by
 rw [jO,jO]
 by_cases h:lo+bw≤x
 ·exact ⟨x-lo-bw,0,by unfold bT;omega,by omega,by omega,by omega,by omega⟩
 ·exact ⟨x+4294967296-lo-bw,1,by unfold bT;omega,by omega,by omega,by omega,by unfold bT;omega⟩
/-- The top limb less a carry and a borrow: no borrow is left. -/
theorem QX(x cy bw:Nat)(hx:x < 4294967296)(h:cy+bw≤x):IntKind.u64.wrap (IntKind.u64.wrap ((x:Int)-cy)-bw)=((x-cy-bw:Nat):Int):=by
 rw [jO,jO];omega
/-- .. a borrow is left. -/
theorem OC(x cy bw:Nat)(hx:x < 4294967296)(hc:cy < 4294967296)(hb:bw≤1)(h:x < cy+bw):∃ t tl:Nat,IntKind.u64.wrap (IntKind.u64.wrap ((x:Int)-cy)-bw)=(t:Int)∧(t:Int) / 9223372036854775808=1∧
  (t:Int)%4294967296=(tl:Int)∧tl < 4294967296∧tl+cy+bw=x+4294967296:=by
 refine ⟨18446744073709551616+x-cy-bw,x+4294967296-cy-bw,?_,by omega,by omega,by omega,by omega⟩;rw [jO,jO];omega
theorem Xi(x cy:Nat)(hx:x < 4294967296)(hc:cy≤1):∃ d b:Nat,d < bT∧b≤1∧IntKind.u64.wrap ((x:Int)-cy) / 9223372036854775808=(b:Int)∧
  IntKind.u64.wrap ((x:Int)-cy)%4294967296=(d:Int)∧d+cy+0=x+bT*b:=by
 rw [jO]
 by_cases h:cy≤x
 ·exact ⟨x-cy,0,by unfold bT;omega,by omega,by omega,by omega,by omega⟩
 ·exact ⟨x+4294967296-cy,1,by unfold bT;omega,by omega,by omega,by omega,by unfold bT;omega⟩
/-- The cells vs lie at the address ao (which may be none if there are none). -/
def ng(w:World)(ao:Option Addr)(vs:List Value):Prop:=
 vs= []∨∃ b off,ao=some ⟨b,off,none⟩∧∀ j (h:j < vs.length),w.cell? ⟨b,off+j,none⟩=some vs[j]
theorem ng.ext{w w':World}{ao:Option Addr}{vs:List Value}(h:ng w ao vs)(he:Below w.heap.size w w'):ng w' ao vs:=by
 rcases h with h | ⟨b,off,rfl,h⟩
 ·exact Or.inl h
 ·refine Or.inr ⟨b,off,rfl,fun j hj=>?_⟩
  have:=h j hj;rw [he.cell (World.block_lt_of_cell? w _ this)];exact this
/-- Integers of kind k as cells. -/
def eP(k:IntKind)(xs:List Nat):List Value:=xs.map fun x:Nat=>Value.int k (x:Int)
theorem bM(k:IntKind)(xs:List Nat):(eP k xs).length=xs.length:=by simp [eP]
theorem wG(k:IntKind)(xs:List Nat)(j:Nat)(h:j < (eP k xs).length):(eP k xs)[j]=Value.int k ((xs[j]'(by simpa [eP] using h):Nat):Int):=by simp [eP]
theorem IW(k:IntKind)(xs:List Nat):∀ u∈eP k xs,u.oneCell'=true:=by
 intro u hu;obtain ⟨_,_,rfl⟩:=List.mem_map.1 hu;rfl
/-- A SLICE OF INTEGERS: kind k, each below B, n of them, room for c; read in the world w they are xs. -/
def Rw(k:IntKind)(B:Nat)(w:World)(ao:Option Addr)(n c:Nat)(xs:List Nat):Prop:=
 xs.length=n∧n≤c∧(ao=none→c=0)∧(∀ x∈xs,x < B)∧ng w ao (eP k xs)
section
variable {k:IntKind} {B:Nat} {w w':World} {ao:Option Addr} {n c:Nat} {xs:List Nat}
theorem Rw.len(h:Rw k B w ao n c xs):xs.length=n:=h.1
theorem Rw.le(h:Rw k B w ao n c xs):n≤c:=h.2.1
theorem Rw.lt(h:Rw k B w ao n c xs):∀ x∈xs,x < B:=h.2.2.2.1
theorem Rw.cells(h:Rw k B w ao n c xs):ng w ao (eP k xs):=h.2.2.2.2
theorem Rw.ext(h:Rw k B w ao n c xs)(he:Below w.heap.size w w'):Rw k B w' ao n c xs:=⟨h.1,h.2.1,h.2.2.1,h.2.2.2.1,h.2.2.2.2.ext he⟩
theorem Rw.nil(k:IntKind)(B:Nat)(w:World):Rw k B w none 0 0 []:=⟨rfl,abJ _,fun _=>rfl,by simp,Or.inl rfl⟩
/-- THE ELEMENT AT j. -/
theorem Rw.at(h:Rw k B w ao n c xs){j:Nat}(hj:j < n):∃ b off x,ao=some ⟨b,off,none⟩∧xs[j]?=some x∧x < B∧w.cell? ⟨b,off+j,none⟩=some (.int k (x:Int)):=by
 obtain ⟨hl,_,_,hB,hc⟩:=h;subst hl;rcases hc with hc | ⟨b,off,rfl,hc⟩
 ·simp [eP] at hc;subst hc;simp at hj
 ·refine ⟨b,off,xs[j],rfl,by simp [hj],hB _ (aiM _),?_⟩
  have:=hc j (by simpa [eP] using hj);rwa [wG] at this
/-- The same with the address known. -/
theorem Rw.cell{b off:Nat}(h:Rw k B w (some ⟨b,off,none⟩) n c xs){j:Nat}(hj:j < n):∃ x,xs[j]?=some x∧x < B∧w.cell? ⟨b,off+j,none⟩=some (.int k (x:Int)):=by
 obtain ⟨b',off',x,he,h1,h2,h3⟩:=h.at hj;cases he
 exact ⟨x,h1,h2,h3⟩
/-- Its head. -/
theorem Rw.take(h:Rw k B w ao n c xs){m:Nat}(hm:m≤n):Rw k B w ao m c (xs.take m):=by
 obtain ⟨hl,hc,hn,hB,hcs⟩:=h;refine ⟨by simp;omega,by omega,hn,fun x hx=>hB x (aio hx),?_⟩;rcases hcs with hcs | ⟨b,off,rfl,hcs⟩
 ·simp [eP] at hcs;subst hcs;exact Or.inl (by simp [eP])
 ·refine Or.inr ⟨b,off,rfl,fun j hj=>?_⟩
  have hj':j < xs.length:=by simp [eP] at hj;omega
  have:=hcs j (by simpa [eP] using hj');rw [wG] at this ⊢;simpa using this
/-- It reads the same where its block is the same. -/
theorem Rw.same{b off:Nat}(h:Rw k B w (some ⟨b,off,none⟩) n c xs)(hb:w'.heap[b]?=w.heap[b]?):Rw k B w' (some ⟨b,off,none⟩) n c xs:=by
 refine ⟨h.1,h.2.1,h.2.2.1,h.2.2.2.1,?_⟩;rcases h.2.2.2.2 with hc | ⟨b',off',he,hc⟩
 ·exact Or.inl hc
 ·cases he
  refine Or.inr ⟨b,off,rfl,fun j hj=>?_⟩;rw [World.cell?_of_block hb];exact hc j hj
end
/-- What lies in the room of a slice, to its capacity, is the call's own: a block from base on, no cell of which is frozen. -/
def rH(base:Nat)(w:World)(ao:Option Addr)(c:Nat):Prop:=
 c=0∨∃ b off cs e,ao=some ⟨b,off,none⟩∧base≤b∧w.heap[b]?=some (.cells cs e (0,0))∧off+c≤cs.size∧c≤9223372036854775807
theorem rH.nil(base:Nat)(w:World)(ao:Option Addr):rH base w ao 0:=Or.inl rfl
theorem rH.ext{base:Nat}{w w':World}{ao:Option Addr}{c:Nat}(h:rH base w ao c)(he:Below w.heap.size w w'):rH base w' ao c:=by
 rcases h with h | ⟨b,off,cs,e,rfl,hb,hh,hs⟩
 ·exact Or.inl h
 ·exact Or.inr ⟨b,off,cs,e,rfl,hb,by rw [he.block b (lt_of_block hh)];exact hh,hs⟩
theorem rH.mono{base base':Nat}{w:World}{ao:Option Addr}{c:Nat}(h:rH base w ao c)(hb:base'≤base):rH base' w ao c:=by
 rcases h with h | ⟨b,off,cs,e,rfl,hb',hh,hs⟩
 ·exact Or.inl h
 ·exact Or.inr ⟨b,off,cs,e,rfl,by omega,hh,hs⟩
/-- A row of the call's own, made from base on, stays while a row below base grows or is written. -/
theorem Rw.grown{k:IntKind}{B:Nat}{w w':World}{ao:Option Addr}{n c base:Nat}{xs:List Nat}{row:Option Nat}(h:Rw k B w ao n c xs)(ho:rH base w ao c)(hg:w.grownBy w' row)(hrow:∀ j,row=some j→j < base):Rw k B w' ao n c xs:=by
 obtain ⟨h1,h2,h3,h4,h5⟩:=h;refine ⟨h1,h2,h3,h4,?_⟩;rcases ho with ho | ⟨b,off,cs,e,rfl,hb,hh,hs⟩
 ·refine Or.inl ?_
  have:xs= []:=adb (by omega);rw [this];rfl
 ·rcases h5 with h5 | ⟨b',off',he,h5⟩
  ·exact Or.inl h5
  ·cases he
   refine Or.inr ⟨b,off,rfl,fun j hj=>?_⟩;rw [World.cell?_of_block (hg.block b (lt_of_block hh) (fun e=>by have:=hrow b e.symm;omega))];exact h5 j hj
theorem WC(w:World)(g i:Nat)(v:Value):w.grownBy (w.setCell ⟨g,i,none⟩ v) (some g):=
 ⟨rfl,rfl,rfl,by simp,fun k _ hne=>heap_setCell_other w _ k v (fun e=>hne (by rw [e]))⟩
/-- A row of the call's own stays while an elder block is written. -/
theorem Rw.aa4{k:IntKind}{B:Nat}{w:World}{ao:Option Addr}{n c base g i:Nat}{xs:List Nat}{v:Value}(h:Rw k B w ao n c xs)(ho:rH base w ao c)(hg:g < base):Rw k B (w.setCell ⟨g,i,none⟩ v) ao n c xs:=
 h.grown ho (WC w g i v) (fun j hj=>by cases hj;exact hg)
/-- A BLOCK OF THE CALL's OWN, whole. -/
def kX(w:World)(b:Nat)(e:TypeId)(vs:List Value):Prop:=w.heap[b]?=some (.cells vs.toArray e (0,0))
section
variable {w w':World} {b:Nat} {e:TypeId} {vs:List Value}
theorem kX.lt(h:kX w b e vs):b < w.heap.size:=lt_of_block h
theorem kX.cell(h:kX w b e vs)(j:Nat)(hj:j < vs.length):w.cell? ⟨b,j,none⟩=some vs[j]:=by
 rw [cell_of_row w b j _ e (0,0) h];simp [hj]
theorem kX.free(h:kX w b e vs)(j:Nat):w.frozen? ⟨b,j,none⟩=false:=frozen_of_row w b j _ e h
theorem kX.ext(h:kX w b e vs)(he:Below w.heap.size w w'):kX w' b e vs:=by
 unfold kX;rw [he.block b h.lt];exact h
theorem kX.set(h:kX w b e vs)(j:Nat)(v:Value):kX (w.setCell ⟨b,j,none⟩ v) b e (vs.set j v):=by
 unfold kX;rw [heap_setCell_same w b j _ e v h];simp
theorem kX.other(h:kX w b e vs){a:Addr}(hne:b≠a.block)(v:Value):kX (w.setCell a v) b e vs:=by
 unfold kX;rw [heap_setCell_other w a b v hne];exact h
theorem kX.drew(h:kX w b e vs):kX w.drew b e vs:=h
theorem kX.drewN(h:kX w b e vs)(n:Nat):kX (w.drewN n) b e vs:=h
theorem kX.new(w:World)(e:TypeId)(vs:List Value):kX (w.alloc (.cells vs.toArray e)) w.heap.size e vs:=heap_alloc_new w _
/-- Integers in a block of the call's own are a row. -/
theorem kX.rw{k:IntKind}{B:Nat}{xs:List Nat}(h:kX w b e (eP k xs))(hB:∀ x∈xs,x < B):Rw k B w (some ⟨b,0,none⟩) xs.length xs.length xs:=by
 refine ⟨rfl,abJ _,(fun e=>nomatch e),hB,Or.inr ⟨b,0,rfl,fun j hj=>?_⟩⟩;rw [Nat.zero_add];exact h.cell j hj
theorem kX.own{base:Nat}(h:kX w b e vs)(hb:base≤b){n:Nat}(hn:n≤vs.length)(hmx:n≤9223372036854775807:=by omega):rH base w (some ⟨b,0,none⟩) n:=Or.inr ⟨b,0,_,e,rfl,hb,h,by simpa using hn,hmx⟩
end
theorem fK(k:IntKind)(xs:List Nat)(j d:Nat):(eP k xs).set j (.int k (d:Int))=eP k (xs.set j d):=by simp [eP]
theorem pX(k:IntKind)(xs:List Nat)(d:Nat):eP k xs ++ [Value.int k (d:Int)]=eP k (xs ++ [d]):=by simp [eP]
theorem xU(k:IntKind)(n:Int):∀ u∈ [Value.int k n],u.oneCell'=true:=by intro u hu;rw [List.mem_singleton.1 hu];rfl
theorem lH{B:Nat}{xs:List Nat}(h:∀ x∈xs,x < B){d:Nat}(hd:d < B):∀ x∈xs ++ [d],x < B:=by
 intro x hx
 rcases ahn.1 hx with hx | hx
 ·exact h x hx
 ·rw [List.mem_singleton.1 hx];exact hd
theorem eX(k:IntKind)(n:Nat):eP k (List.replicate n 0)=List.replicate n (.int k 0):=by simp [eP]
/-- What is owned ('ownsRow', the kit's word) is a row, and the call's own to its capacity. -/
theorem lI{w:World}{base:Nat}{e:TypeId}{k:IntKind}{B:Nat}{v:Value}{xs:List Nat}(h:w.ownsRow base e 1 v xs.length (eP k xs))(hB:∀ x∈xs,x < B):
  ∃ ao c,v= .slice ao xs.length c∧Rw k B w ao xs.length c xs∧rH base w ao c:=by
 obtain ⟨_,⟨rfl,h0⟩ | ⟨g,cap,cur,rfl,hb,hh,hn,hm,hs,ht⟩⟩:=h
 ·have:xs= []:=adb h0
  subst this;exact ⟨none,0,rfl,Rw.nil k B w,rH.nil _ _ _⟩
 ·refine ⟨_,_,rfl,⟨rfl,hn,(fun e=>nomatch e),hB,Or.inr ⟨g,0,rfl,fun j hj=>?_⟩⟩,Or.inr ⟨g,0,cur,e,rfl,hb,hh,by omega,hm⟩⟩
  rw [Nat.zero_add,cell_of_row w g j cur e (0,0) hh,← Array.getElem?_toList];have hj':j < xs.length:=by simpa [eP] using hj
  have h1:(cur.toList.take (xs.length*1))[j]?=some ((eP k xs)[j]):=by rw [ht];simp [hj]
  rw [List.getElem?_take] at h1;rwa [if_pos (by omega)] at h1
/-- MAKE: 'make([]T, n)', n a variable: a block of n zeros. -/
theorem jq{P:Program}(w:World){ops:Array Oper}{rest:List Oper}{o:Oper}{a:Act}{Q:Exit→Act→World→Prop} 
  (hg:o.guard=none) (l c:Operand) (t:TypeId) (hop:o.op=Op.makeSlice t l c)
  (e:TypeId) (z:Value) (bytes:Nat) (h1:P.underlying t=some (.slice e)) (h2:(P.info? e).map (fun i=>(i.zero,i.size,i.bytes))=some (some z,1,bytes)) (hz:z.cells=#[z])
  (kl kc:IntKind) (L C:Int) (n:Nat) (hl:a.eval l= .int kl L) (hc:a.eval c= .int kc C) (hL:L=(n:Int)) (hC:C=(n:Int)) (b2:bytes*n≤281474976710656) (b3:n≤maxLen)
  (hK:∀ w',kX w' w.heap.size e (List.replicate n z)→Below w.heap.size w w'→w.heap.size < w'.heap.size→wpList P ops Q rest (a.put o.dst (.slice (some ⟨w.heap.size,0,none⟩) n n)) w'):
  wpList P ops Q (o ::rest) a w:=by
 obtain ⟨i,hi,hz0,hz1,hz2⟩:=info_parts h2;refine wpList_make_full w hg l c t hop w.heap.size e i z 1 h1 hi hz0 hz1 kl kc L C n hl hc hL hC (by rw [hz2];exact b2) b3 (abJ _) fun w' hown hgrow=>?_
 have hbelow:Below w.heap.size w w':=(Below.refl _ _).grown hgrow (abJ _) (fun k hk=>nomatch hk);obtain ⟨_,⟨hv,_⟩ | ⟨g,cap,cur,hv,hb,hh,hn,hm,hs,ht⟩⟩:=hown
 ·cases hv
 ·cases hv
  have hcur:cur=(List.replicate n z).toArray:=by
   have:cur.toList=(madeCells z.cells (n*1)).toList:=by
    rw [← ht,List.take_of_length_le];simp [hs]
   rw [Nat.mul_one,hz,toList_madeCells_one] at this;rw [← this]
  refine hK w' ?_ hbelow (lt_of_block hh);unfold kX;rw [← hcur];exact hh
/-- APPEND to a slice that is nil or the call's own, of a slice whose cells are known (nil, empty or not). -/
theorem jY{P:Program}(w:World){ops:Array Oper}{rest:List Oper}{o:Oper}{a:Act}{Q:Exit→Act→World→Prop}(hgd:o.guard=none)(s x:Operand)(t:TypeId) 
  (ho:o.op= .call {callee:= .builtin .append,args:=#[s,x],argTypes:=#[t,t]})
  (base:Nat) (e:TypeId) (z:Value) (size bytes:Nat) (ht:P.underlying t=some (.slice e)) (h2:(P.info? e).map (fun i=>(i.zero,i.size,i.bytes))=some (some z,size,bytes)) (hzs:z.cells.size=size) (hsz:0 < size)
  (v:Value) (n:Nat) (xs:List Value) (hs:a.eval s=v) (hown:w.ownsRow base e size v n xs)
  (ao:Option Addr) (m c:Nat) (news:List Value) (hx:a.eval x= .slice ao m c) (hl:news.length=m*size) (hnil:ao=none→c=0) (hmc:m≤c) (hsrc:ng w ao news) (h1:∀ u∈news,u.oneCell'=true)
  (h63:n+m≤maxLen) (hbytes:(n+m)*bytes≤140737488355328) (hbase:base≤w.heap.size)
  (h:∀ v' w',w'.ownsRow base e size v' (n+m) (xs ++news)→w.grownBy w' v.ownBlock→Below base w w'→wpList P ops Q rest (a.put o.dst v') w'):wpList P ops Q (o ::rest) a w:=by
 obtain ⟨i,hi,hz0,hz1,hz2⟩:=info_parts h2;have hlt:=hown.lt;cases ao with
 | none=>
  have hc0:=hnil rfl;subst hc0;have hm:m=0:=by omega
  subst hm;have hn:news= []:=adb (by simpa using hl);subst hn;refine wpList_plain hgd fun K hK=>?_
  have hrun:=run_append_owned_none (P:=P) (w:=w) base t o.type e i size ht hi v n xs hown;unfold Oper.wp;simp [execOp,ho,resolve,invoke,builtin,hs,hx,hrun,Result.andThen];exact hK _ _ (h v w (by simpa using hown) (World.grownBy.refl _ _) (Below.refl _ _))
 | some ad=>
  refine wpList_append_own w hgd s x t ho base e i z size bytes ht hi hz0 hz1 hz2 hzs hsz v n xs hs hown ad m c news hx hl ?_ h1 h63 hbytes hbase fun v' w' hown' hgrow _=>?_
  ·intro j u hu
   rcases hsrc with hsrc | ⟨b,off,he,hsrc⟩
   ·subst hsrc;simp at hu
   ·cases he
    obtain ⟨hj,rfl⟩:=abU.1 hu;rw [Addr.add_lit];exact hsrc j hj
  ·exact h v' w' hown' hgrow ((Below.refl _ _).grown hgrow hbase (fun k hk=>(hlt k hk).1))
theorem nG(w:World)(x:Value)(t:TypeId):ng (w.alloc (.cells #[x] t)) (some ⟨w.heap.size,0,none⟩) [x]:=by
 refine Or.inr ⟨_,_,rfl,fun j hj=>?_⟩;obtain rfl:j=0:=by simpa using hj
 rw [World.cell?_alloc_new];rfl
/-- COPY into a block of the call's own. -/
theorem Xm{P:Program}{w:World}{ops:Array Oper}{rest:List Oper}{o:Oper}{a:Act}{Q:Exit→Act→World→Prop}(hgd:o.guard=none)(d s:Operand)(dT sT:TypeId) 
  (ho:o.op= .call {callee:= .builtin .copy,args:=#[d,s],argTypes:=#[dT,sT]}) (elem:TypeId) (hu:P.underlying dT=some (.slice elem)) (hsz:(P.info? elem).map (·.size)=some 1)
  (g off dLen dCap:Nat) (sp:Option Addr) (sLen sCap:Nat) (hd:a.eval d= .slice (some ⟨g,off,none⟩) dLen dCap) (hs:a.eval s= .slice sp sLen sCap)
  (cur:List Value) (t:TypeId) (hb:kX w g t cur) (cs:List Value) (hn:cs.length=Nat.min sLen dLen) (hsrc:ng w sp cs) (hfit:off+cs.length≤cur.length) (h1:∀ v∈cs,v.oneCell'=true)
  (B:Nat) (hBg:B≤g) (h:∀ w',kX w' g t (splice cur off cs)→Below B w w'→wpList P ops Q rest (a.put o.dst (goInt cs.length)) w'):wpList P ops Q (o ::rest) a w:=by
 refine wpList_copy_splice hgd d s dT sT ho elem hu hsz _ sp dLen dCap sLen sCap hd hs g off cur t hb cs hn (fun hpos=>⟨rfl,?_⟩) hfit h1 B w (Below.refl _ _) hBg (fun w' hb' hbe=>h w' hb'.out hbe);rcases hsrc with hsrc | ⟨b,o2,rfl,hsrc⟩
 ·subst hsrc;simp at hpos
 ·refine ⟨_,rfl,fun j v hj=>?_⟩
  obtain ⟨hlt,rfl⟩:=abU.1 hj;rw [Addr.add_lit];exact hsrc j hlt
/-- Blocks that are kept out of. -/
abbrev BS:=Nat→Prop
/-- The world w' holds what of w lies outside B. -/
structure ku(B:BS)(w w':World):Prop where
 size:w.heap.size≤w'.heap.size
 blk:∀ b,b < w.heap.size→¬ B b→w'.heap[b]?=w.heap[b]?
theorem ku.cell{B:BS}{w w':World}(h:ku B w w'){a:Addr}{v:Value}(hc:w.cell? a=some v)(hb:¬ B a.block):w'.cell? a=some v:=
 (World.cell?_of_block (h.blk a.block (World.block_lt_of_cell? w a hc) hb)).trans hc
theorem ku.of_below{B:BS}{w w':World}(h:Below w.heap.size w w'):ku B w w':=⟨h.size,fun b hb _=>h.block b hb⟩
/-- Something that may be said of a value in memory; it stays where memory stays. -/
structure Sm where
 p:BS→World→Value→Prop
 one:∀ B w v,p B w v→v.oneCell'=true
 mv:∀ (B B':BS) (w w':World) (v:Value),p B w v→ku B w w'→(∀ b,b < w.heap.size→B' b→B b)→p B' w' v
/-- ONE CELL: this value; of which S says something; a slice of length n of which S says more; a slice of n elements of sz cells; a pointer to n cells that nobody writes; a function with what it has caught. -/
inductive Lf where
 | v (x:Value)
 | sm (S:Sm)
 | ln (n:Nat) (S:Sm)
 | row (sz n:Nat) (el:Nat→Nat→Lf)
 | at (n:Nat) (cs:Nat→Lf)
 | fn (f:FuncId) (n:Nat) (caps:Nat→Lf)
def dY(B:BS)(w:World):Lf→Value→Prop
 | .v x,c=>c=x∧x.oneCell'=true
 | .sm S,c=>S.p B w c
 | .ln n S,c=>S.p B w c∧∃ a cap,c= .slice a n cap
 | .row sz n el,c=>∃ a cap,c= .slice a n cap∧n≤cap∧(a=none→cap=0)∧∀ i,i < n→∃ b off,a=some ⟨b,off,none⟩∧¬ B b∧b < w.heap.size∧∀ j,j < sz→∃ x,w.cell? ⟨b,off+i*sz+j,none⟩=some x∧dY B w (el i j) x
 | .at n cs,c=>∃ b off,c= .pointer (some ⟨b,off,none⟩)∧¬ B b∧b < w.heap.size∧∀ j,j < n→∃ x,w.cell? ⟨b,off+j,none⟩=some x∧dY B w (cs j) x
 | .fn f n caps,c=>∃ vs:Array Value,c= .func (.func f) #[] vs∧vs.size=n∧∀ j,j < n→∃ x,vs[j]?=some x∧dY B w (caps j) x
theorem dY.one{B:BS}{w:World}:∀ {l:Lf} {c:Value},dY B w l c→c.oneCell'=true
 | .v x,c,h=>by obtain ⟨rfl,h⟩:=h;exact h
 | .sm S,c,h=>S.one _ _ _ h
 | .ln n S,c,h=>S.one _ _ _ h.1
 | .row sz n el,c,h=>by obtain ⟨a,cap,rfl,_⟩:=h;rfl
 | .at n cs,c,h=>by obtain ⟨b,off,rfl,_⟩:=h;rfl
 | .fn f n caps,c,h=>by obtain ⟨vs,rfl,_⟩:=h;rfl
theorem dY.mv{B B':BS}{w w':World}(hk:ku B w w')(hB:∀ b,b < w.heap.size→B' b→B b)(l:Lf):∀ {c:Value},dY B w l c→dY B' w' l c:=by
 induction l with
 | v x=>intro c h;exact h
 | sm S=>intro c h;exact S.mv _ _ _ _ _ h hk hB
 | ln n S=>intro c h;exact ⟨S.mv _ _ _ _ _ h.1 hk hB,h.2⟩
 | row sz n el ih=>
  rintro c ⟨a,cap,rfl,hn,ha,h⟩;refine ⟨a,cap,rfl,hn,ha,fun i hi=>?_⟩;obtain ⟨b,off,rfl,hb,hlt,hj⟩:=h i hi;refine ⟨b,off,rfl,fun hb'=>hb (hB b hlt hb'),acC hlt hk.size,fun j hjs=>?_⟩;obtain ⟨x,hx,hl⟩:=hj j hjs;exact ⟨x,hk.cell hx hb,ih i j hl⟩
 | «at» n cs ih=>
  rintro c ⟨b,off,rfl,hb,hlt,hj⟩;refine ⟨b,off,rfl,fun hb'=>hb (hB b hlt hb'),acC hlt hk.size,fun j hjs=>?_⟩;obtain ⟨x,hx,hl⟩:=hj j hjs;exact ⟨x,hk.cell hx hb,ih j hl⟩
 | fn f n caps ih=>
  rintro c ⟨vs,rfl,hs,hj⟩;refine ⟨vs,rfl,hs,fun j hjs=>?_⟩;obtain ⟨x,hx,hl⟩:=hj j hjs;exact ⟨x,hx,ih j hl⟩
/-- A ROW OF CELLS. -/
def ig(B:BS)(w:World):List Lf→List Value→Prop
 | [],[]=>True
 | l ::ls,c ::cs=>dY B w l c∧ig B w ls cs
 | _,_=>False
theorem ig.len{B:BS}{w:World}:∀ {ls:List Lf} {cs:List Value},ig B w ls cs→ls.length=cs.length
 | [],[],_=>rfl
 | _ ::_,_ ::_,h=>ah5 (· +1) (ig.len h.2)
theorem ig.get{B:BS}{w:World}:∀ {ls:List Lf} {cs:List Value},ig B w ls cs→∀ {j:Nat} {l:Lf},ls[j]?=some l→∃ c,cs[j]?=some c∧dY B w l c
 | [],[],_,j,l,h=>by simp at h
 | l ::ls,c ::cs,h,0,l',h'=>by
  obtain rfl:l=l':=by simpa using h'
  exact ⟨c,rfl,h.1⟩
 | l ::ls,c ::cs,h,j+1,l',h'=>by
  obtain ⟨x,hx,hl⟩:=ig.get h.2 (j:=j) (l:=l') (by simpa using h');exact ⟨x,by simpa using hx,hl⟩
theorem ig.mv{B B':BS}{w w':World}(hk:ku B w w')(hB:∀ b,b < w.heap.size→B' b→B b):∀ {ls:List Lf} {cs:List Value},ig B w ls cs→ig B' w' ls cs
 | [],[],_=>trivial
 | _ ::_,_ ::_,h=>⟨dY.mv hk hB _ h.1,ig.mv hk hB h.2⟩
theorem ig.one{B:BS}{w:World}:∀ {ls:List Lf} {cs:List Value},ig B w ls cs→∀ c∈cs,c.oneCell'=true
 | [],[],_,c,hc=>by simp at hc
 | _ ::_,_ ::_,h,c,hc=>by
  rcases afr.1 hc with rfl | hc
  ·exact h.1.one
  ·exact ig.one h.2 c hc
theorem ig.take{B:BS}{w:World}:∀ (n:Nat) {ls:List Lf} {cs:List Value},ig B w ls cs→ig B w (ls.take n) (cs.take n)
 | 0,_,_,_=>trivial
 | n+1,[],[],_=>trivial
 | n+1,_ ::_,_ ::_,h=>⟨h.1,ig.take n h.2⟩
theorem ig.drop{B:BS}{w:World}:∀ (n:Nat) {ls:List Lf} {cs:List Value},ig B w ls cs→ig B w (ls.drop n) (cs.drop n)
 | 0,_,_,h=>h
 | n+1,[],[],_=>trivial
 | n+1,_ ::_,_ ::_,h=>ig.drop n h.2
theorem ig.app{B:BS}{w:World}:∀ {ls ms:List Lf} {cs ds:List Value},ig B w ls cs→ig B w ms ds→ig B w (ls ++ms) (cs ++ds)
 | [],_,[],_,_,k=>k
 | _ ::_,_,_ ::_,_,h,k=>⟨h.1,ig.app h.2 k⟩
theorem ig.vs{B:BS}{w:World}:∀ {cs:List Value},(∀ c∈cs,c.oneCell'=true)→ig B w (cs.map Lf.v) cs
 | [],_=>trivial
 | c ::cs,h=>⟨⟨rfl,h c (by simp)⟩,ig.vs fun d hd=>h d (by simp [hd])⟩
/-- DATA: one cell, or a struct's cells. -/
inductive DV where
 | one (l:Lf)
 | agg (ls:List Lf)
def DV.cells:DV→List Lf
 | .one l=> [l]
 | .agg ls=>ls
def DR(B:BS)(w:World):DV→Value→Prop
 | .one l,c=>dY B w l c
 | .agg ls,c=>∃ cs:List Value,c= .agg cs.toArray∧ig B w ls cs
theorem DR.mv{B B':BS}{w w':World}(hk:ku B w w')(hB:∀ b,b < w.heap.size→B' b→B b):∀ {d:DV} {c:Value},DR B w d c→DR B' w' d c
 | .one l,_,h=>dY.mv hk hB l h
 | .agg _,_,⟨cs,e,h⟩=>⟨cs,e,h.mv hk hB⟩
/-- The cells of a value that is data. -/
theorem DR.cells{B:BS}{w:World}:∀ {d:DV} {c:Value},DR B w d c→∃ cs:List Value,c.cells=cs.toArray∧ig B w d.cells cs
 | .one l,c,h=>⟨[c],by
   have:=h.one;cases c <;> first | rfl | exact absurd this Bool.noConfusion,h,Pe⟩
 | .agg ls,c,⟨cs,e,h⟩=>⟨cs,by rw [e];rfl,h⟩
def AA(B:BS)(w:World):List DV→List Value→Prop
 | [],[]=>True
 | l ::ls,c ::cs=>DR B w l c∧AA B w ls cs
 | _,_=>False
theorem AA.len{B:BS}{w:World}:∀ {ls:List DV} {cs:List Value},AA B w ls cs→ls.length=cs.length
 | [],[],_=>rfl
 | _ ::_,_ ::_,h=>ah5 (· +1) (AA.len h.2)
theorem AA.get{B:BS}{w:World}:∀ {ls:List DV} {cs:List Value},AA B w ls cs→∀ {j:Nat} {l:DV},ls[j]?=some l→∃ c,cs[j]?=some c∧DR B w l c
 | [],[],_,j,l,h=>by simp at h
 | l ::ls,c ::cs,h,0,l',h'=>by
  obtain rfl:l=l':=by simpa using h'
  exact ⟨c,rfl,h.1⟩
 | l ::ls,c ::cs,h,j+1,l',h'=>by
  obtain ⟨x,hx,hl⟩:=AA.get h.2 (j:=j) (l:=l') (by simpa using h');exact ⟨x,by simpa using hx,hl⟩
theorem AA.mv{B B':BS}{w w':World}(hk:ku B w w')(hB:∀ b,b < w.heap.size→B' b→B b):∀ {ls:List DV} {cs:List Value},AA B w ls cs→AA B' w' ls cs
 | [],[],_=>trivial
 | _ ::_,_ ::_,h=>⟨h.1.mv hk hB,AA.mv hk hB h.2⟩
def jd:Value→Option Nat
 | .pointer (some a)=>some a.block
 | .slice (some a) _ _=>some a.block
 | _=>none
/-- WHAT A SLOT HOLDS: data, several results, a pointer into the frame's own object id, the frame's own row id, a pointer to cell j of element i of that row; of a slot lim says: the object id lies below k; ptup: several results, the first a pointer to the object id; wit: the object id is there. -/
inductive AV where
 | d (x:DV)
 | ji (xs:List DV)
 | ptr (id off:Nat)
 | own (id:Nat)
 | dW (id sz i j:Nat)
 | lim (id k:Nat)
 | qL (id:Nat) (xs:List DV)
 | wit (id:Nat)
 | dead
abbrev kL:=Nat→Option Value
def AR(ρ:kL)(B:BS)(w:World):AV→Value→Prop
 | .d x,c=>DR B w x c
 | .ji xs,c=>∃ cs:List Value,c= .tuple cs.toArray∧AA B w xs cs
 | .ptr id off,c=>∃ g,ρ id=some (.pointer (some ⟨g,0,none⟩))∧c= .pointer (some ⟨g,off,none⟩)
 | .own id,c=>ρ id=some c∧∃ a n cap,c= .slice a n cap
 | .dW id sz i j,c=>∃ g n cap,ρ id=some (.slice (some ⟨g,0,none⟩) n cap)∧i < n∧c= .pointer (some ⟨g,i*sz+j,none⟩)
 | .lim id k,c=>k≤w.heap.size∧∃ v,ρ id=some v∧∀ b,jd v=some b→b < k
 | .qL id xs,c=>∃ g,ρ id=some (.pointer (some ⟨g,0,none⟩))∧∃ cs:List Value,c= .tuple (.pointer (some ⟨g,0,none⟩) ::cs).toArray∧AA B w xs cs
 | .wit id,_=>∃ v,ρ id=some v
 | .dead,_=>True
/-- Does it speak of the object k? -/
def AV.on:AV→Nat→Bool
 | .ptr id _,k | .own id,k | .dW id _ _ _,k | .lim id _,k | .qL id _,k | .wit id,k=>Nat.beq id k
 | _,_=>false
theorem AR.mv{ρ ρ':kL}{B B':BS}{w w':World}(hk:ku B w w')(hB:∀ b,b < w.heap.size→B' b→B b):∀ {av:AV} {c:Value},(∀ k,av.on k=true→ρ' k=ρ k)→AR ρ B w av c→AR ρ' B' w' av c
 | .d x,_,_,h=>DR.mv hk hB h
 | .ji xs,_,_,⟨cs,e,h⟩=>⟨cs,e,h.mv hk hB⟩
 | .ptr id off,_,hρ,⟨g,h,e⟩=>⟨g,(hρ id (by simp [AV.on])).trans h,e⟩
 | .own id,_,hρ,⟨h,e⟩=>⟨(hρ id (by simp [AV.on])).trans h,e⟩
 | .dW id sz i j,_,hρ,⟨g,n,cap,h,e⟩=>⟨g,n,cap,(hρ id (by simp [AV.on])).trans h,e⟩
 | .lim id k,_,hρ,⟨h1,v,h,e⟩=>⟨acS h1 hk.size,v,(hρ id (by simp [AV.on])).trans h,e⟩
 | .qL id xs,_,hρ,⟨g,h,cs,e,h2⟩=>⟨g,(hρ id (by simp [AV.on])).trans h,cs,e,h2.mv hk hB⟩
 | .wit id,_,hρ,⟨v,h⟩=>⟨v,(hρ id (by simp [AV.on])).trans h⟩
 | .dead,_,_,_=>trivial
/-- AN OBJECT OF THE FRAME's OWN: a variable of type t; a row of n elements of type e, sz cells each; one whose value has a name; a size that memory has had. -/
inductive AO where
 | box (t:TypeId) (cs:List Lf)
 | row (e:TypeId) (sz n:Nat) (el:Nat→Nat→Lf)
 | is (x:Value) (ob:AO)
 | sz (k:Nat)
/-- THE WORLD THAT A FRAME BEGAN IN, and the blocks lent to it: it may write them as if they were its own. -/
structure Wz where
 w:World
 L:BS
def Wz.sz(z:Wz):Nat:=z.w.heap.size
/-- The frame may write the block. -/
def Wz.own(z:Wz)(b:Nat):Prop:=z.sz≤b∨z.L b
/-- What the frame leaves of the world that it began in. -/
structure JW(z:Wz)(w:World):Prop where
 os:w.os=z.w.os
 tape:w.tape=z.w.tape
 output:w.output=z.w.output
 size:z.sz≤w.heap.size
 blk:∀ b,b < z.sz→¬ z.L b→w.heap[b]?=z.w.heap[b]?
theorem JW.refl(w:World)(L:BS):JW ⟨w,L⟩ w:=⟨rfl,rfl,rfl,abJ _,fun _ _ _=>rfl⟩
theorem JW.step{z:Wz}{w w':World}(h:JW z w)(k:Below w.heap.size w w'):JW z w':=
 ⟨k.os.trans h.os,k.tape.trans h.tape,k.output.trans h.output,acS h.size k.size,fun b hb hL=>(k.block b (acC hb h.size)).trans (h.blk b hb hL)⟩
theorem JW.put{z:Wz}{w w':World}(h:JW z w)(h1:w'.os=w.os)(h2:w'.tape=w.tape)(h3:w'.output=w.output)(hs:w.heap.size≤w'.heap.size){g:Nat→Prop}(hg:∀ b,g b→z.own b)(hb:∀ b,b < w.heap.size→¬ g b→w'.heap[b]?=w.heap[b]?):JW z w':=
 ⟨h1.trans h.os,h2.trans h.tape,h3.trans h.output,acS h.size hs,fun b hb1 hL=>(hb b (acC hb1 h.size) (fun k=>(hg b k).elim (fun k=>by omega) hL)).trans (h.blk b hb1 hL)⟩
theorem JW.below{z:Wz}{w:World}(h:JW z w)(hL:∀ b,¬ z.L b):Below z.w.heap.size z.w w:=⟨h.os,h.tape,h.output,h.size,fun b hb=>h.blk b hb (hL b)⟩
/-- A row of the frame's own. -/
def owR(z:Wz)(w:World)(e:TypeId)(sz:Nat)(v:Value)(n:Nat)(xs:List Value):Prop:=w.ownsRow 0 e sz v n xs∧∀ b,jd v=some b→z.own b
def OR(B:BS)(w0:Wz)(w:World):AO→Value→Prop
 | .box t cs,v=>∃ g vs,v= .pointer (some ⟨g,0,none⟩)∧w0.own g∧kX w g t vs∧ig B w cs vs
 | .row e sz n el,v=>∃ xs,owR w0 w e sz v n xs∧∀ i j,i < n→j < sz→∃ x,xs[i*sz+j]?=some x∧dY B w (el i j) x
 | .is x ob,v=>v=x∧OR B w0 w ob v
 | .sz k,v=>v= .bool true∧w0.sz≤k∧k≤w.heap.size
theorem TG{w w':World}{base:Nat}{e:TypeId}{sz n:Nat}{v:Value}{xs:List Value}(h:w.ownsRow base e sz v n xs)(hb:∀ b,jd v=some b→w'.heap[b]?=w.heap[b]?):w'.ownsRow base e sz v n xs:=by
 obtain ⟨h1,h2 | ⟨g,cap,cur,rfl,h3,h4,h5⟩⟩:=h
 ·exact ⟨h1,Or.inl h2⟩
 ·exact ⟨h1,Or.inr ⟨g,cap,cur,rfl,h3,(hb g rfl).trans h4,h5⟩⟩
theorem ahV{z:Wz}{w w':World}{e:TypeId}{sz n:Nat}{v:Value}{xs:List Value}(h:owR z w e sz v n xs)(hb:∀ b,jd v=some b→w'.heap[b]?=w.heap[b]?):owR z w' e sz v n xs:=⟨TG h.1 hb,h.2⟩
theorem OR.mv{B B':BS}{w0:Wz}{w w':World}(hk:ku B w w')(hB:∀ b,b < w.heap.size→B' b→B b):∀ {ob:AO} {v:Value},(∀ b,jd v=some b→w'.heap[b]?=w.heap[b]?)→OR B w0 w ob v→OR B' w0 w' ob v
 | .box t cs,_,hb,⟨g,vs,e,h1,h2,h3⟩=>⟨g,vs,e,h1,by subst e;exact (hb g rfl).trans h2,h3.mv hk hB⟩
 | .row e sz n el,_,hb,⟨xs,h1,h2⟩=>⟨xs,ahV h1 hb,fun i j hi hj=>let ⟨x,hx,hl⟩:=h2 i j hi hj;⟨x,hx,dY.mv hk hB _ hl⟩⟩
 | .is x ob,_,hb,⟨h1,h2⟩=>⟨h1,OR.mv hk hB hb h2⟩
 | .sz k,_,hb,⟨h1,h2,h3⟩=>⟨h1,h2,acS h3 hk.size⟩
/-- An object's block is there, and of the frame's own. -/
theorem OR.blk{B:BS}{w0:Wz}{w:World}:∀ {ob:AO} {v:Value},OR B w0 w ob v→∀ b,jd v=some b→w0.own b∧b < w.heap.size
 | .box t cs,_,⟨g,vs,e,h1,h2,h3⟩,b,hb=>by subst e;cases hb;exact ⟨h1,h2.lt⟩
 | .row e sz n el,_,⟨xs,⟨⟨_,Or.inl h⟩,_⟩,h2⟩,b,hb=>by obtain ⟨rfl,_⟩:=h;cases hb
 | .row e sz n el,_,⟨xs,⟨⟨_,Or.inr ⟨g,cap,cur,h,h3,h4,h5⟩⟩,ho⟩,h2⟩,b,hb=>by subst h;cases hb;exact ⟨ho _ rfl,lt_of_block h4⟩
 | .is x ob,_,⟨_,h⟩,b,hb=>h.blk b hb
 | .sz k,_,⟨h,_⟩,b,hb=>by subst h;cases hb
/-- An object behind its names; another one under the same names. -/
def AO.un:AO→AO
 | .is _ ob=>ob.un
 | .box t cs=> .box t cs
 | .row e m n el=> .row e m n el
 | .sz k=> .sz k
def AO.put(new:AO):AO→AO
 | .is x ob=> .is x (AO.put new ob)
 | .box _ _=>new
 | .row _ _ _ _=>new
 | .sz _=>new
theorem OR.un{B:BS}{w0:Wz}{w:World}{ob:AO}{v:Value}(h:OR B w0 w ob v):OR B w0 w ob.un v:=by
 induction ob with
 | «is» x ob ih=>exact ih h.2
 | _=>exact h
theorem OR.put{B B':BS}{w0:Wz}{w w':World}{new ob:AO}{v:Value}(h:OR B w0 w ob v)(k:OR B' w0 w' new v):OR B' w0 w' (AO.put new ob) v:=by
 induction ob with
 | «is» x ob ih=>exact ⟨h.1,ih h.2⟩
 | _=>exact k
/-- Look a thing up; strike it. -/
def lk{α:Type}:List (Nat×α)→Nat→Option α
 | [],_=>none
 | (k,x) ::l,t=>bif Nat.beq k t then some x else lk l t
theorem aV{α:Type}(k:Nat)(x:α)(l:List (Nat×α))(t:Nat):lk ((k,x) ::l) t=if k=t then some x else lk l t:=by
 show (bif Nat.beq k t then some x else lk l t)=_
 by_cases h:k=t
 ·rw [if_pos h,show Nat.beq k t=true from by rw [h];exact Nat.beq_refl t];rfl
 ·rw [if_neg h,show Nat.beq k t=false from by rw [← Bool.not_eq_true];exact fun e=>h (Nat.eq_of_beq_eq_true e)];rfl
theorem kK{α:Type}:∀ {l:List (Nat×α)} {t:Nat} {x:α},lk l t=some x→(t,x)∈l
 | [],t,x,h=>by cases h
 | (k,y) ::l,t,x,h=>by
  rw [aV] at h;split at h
  ·rename_i e;cases h;rw [e];exact aiG
  ·exact ag3 _ (kK h)
def unO:Option AO→Option AO
 | some ob=>some ob.un
 | none=>none
/-- An object behind its names. -/
def Xw(l:List (Nat×AO))(id:Nat):Option AO:=unO (lk l id)
/-- The blocks that a frame keeps to itself. -/
def Bd(ρ:kL)(B0:BS):BS:=fun b=>B0 b∨∃ id v,ρ id=some v∧jd v=some b
def up(ρ:kL)(id:Nat)(v:Value):kL:=fun k=>if k=id then some v else ρ k
/-- The frame's objects, and the world. -/
structure eY(ρ:kL)(B0:BS)(w0:Wz)(w:World)(hp:List (Nat×AO)):Prop where
 bel:JW w0 w
 b0:∀ b,B0 b→b < w0.sz∧¬ w0.L b
 obj:∀ id v,ρ id=some v→∃ ob,lk hp id=some ob∧OR (Bd ρ B0) w0 w ob v
 dist:∀ id id' v v' b,ρ id=some v→ρ id'=some v'→jd v=some b→jd v'=some b→id=id'
section
variable {ρ:kL} {B0:BS} {w0:Wz} {w w':World} {hp:List (Nat×AO)} {id:Nat} {v:Value} {ob:AO}
theorem eY.MN(h:eY ρ B0 w0 w hp)(b:Nat)(hb:Bd ρ B0 b):b < w.heap.size:=by
 rcases hb with hb | ⟨id,v,h1,h2⟩
 ·exact acC (h.b0 b hb).1 h.bel.size
 ·obtain ⟨ob,_,ho⟩:=h.obj id v h1
  exact (ho.blk b h2).2
theorem eY.adM{hp':List (Nat×AO)}(h:eY ρ B0 w0 w hp)(hh:∀ id ob,lk hp' id=some ob→lk hp id=some ob)(hob:Xw hp' id=some ob)(hv:ρ id=some v):OR (Bd ρ B0) w0 w ob v:=by
 obtain ⟨ob1,h1,h2⟩:=h.obj id v hv;unfold Xw at hob;cases hl:lk hp' id with
 | none=>rw [hl] at hob;cases hob
 | some o=>
  rw [hl] at hob;rw [hh _ _ hl] at h1;cases h1
  cases hob
  exact h2.un
theorem eY.below(h:eY ρ B0 w0 w hp)(hb:Below w.heap.size w w'):eY ρ B0 w0 w' hp:=
 ⟨h.bel.step hb,h.b0,fun id v hv=>let ⟨ob,h1,h2⟩:=h.obj id v hv;⟨ob,h1,h2.mv (.of_below hb) (fun _ _ hB=>hB) (fun b hvb=>hb.block b (h2.blk b hvb).2)⟩,h.dist⟩
theorem AR.below{av:AV}{c:Value}{B:BS}(h:AR ρ B w av c)(hb:Below w.heap.size w w'):AR ρ B w' av c:=AR.mv (.of_below hb) (fun _ _ hB=>hB) (fun _ _=>rfl) h
theorem vk(hn:ρ id=none)(hv:∀ b,jd v=some b→w.heap.size≤b):∀ b,b < w.heap.size→Bd (up ρ id v) B0 b→Bd ρ B0 b:=by
 rintro b hb (h | ⟨k,u,h1,h2⟩)
 ·exact Or.inl h
 ·unfold up at h1
  split at h1
  ·cases h1
   have:=hv b h2;omega
  ·exact Or.inr ⟨k,u,h1,h2⟩
/-- A new object. -/
theorem eY.new{hp':List (Nat×AO)}(h:eY ρ B0 w0 w hp)(hn:ρ id=none)(hb:Below w.heap.size w w')(hv:∀ b,jd v=some b→w.heap.size≤b)(hl:∀ k ob,lk hp k=some ob→k≠id→lk hp' k=some ob)(hi:lk hp' id=some ob) 
  (ho:OR (Bd (up ρ id v) B0) w0 w' ob v):eY (up ρ id v) B0 w0 w' hp':=by
 refine ⟨h.bel.step hb,h.b0,fun k u hu=>?_,?_⟩
 ·unfold up at hu
  split at hu
  ·rename_i hk
   cases hu
   exact ⟨ob,by rw [hk];exact hi,ho⟩
  ·rename_i hk
   obtain ⟨ob',h1,h2⟩:=h.obj k u hu;exact ⟨ob',hl k ob' h1 hk,h2.mv (.of_below hb) (vk hn hv) (fun b hvb=>hb.block b (h2.blk b hvb).2)⟩
 ·have old:∀ k u b,ρ k=some u→jd u=some b→b < w.heap.size:=fun k u b h1 h2=>let ⟨_,_,h3⟩:=h.obj k u h1;(h3.blk b h2).2
  intro k k' u u' b h1 h2 h3 h4;unfold up at h1 h2;split at h1 <;> split at h2
  ·omega
  ·cases h1
   have:=hv b h3;have:=old k' u' b h2 h4;omega
  ·cases h2
   have:=hv b h4;have:=old k u b h1 h3;omega
  ·exact h.dist k k' u u' b h1 h2 h3 h4
theorem AR.new{av:AV}{c:Value}(hn:ρ id=none)(hb:Below w.heap.size w w')(hv:∀ b,jd v=some b→w.heap.size≤b)(h:AR ρ (Bd ρ B0) w av c):AR (up ρ id v) (Bd (up ρ id v) B0) w' av c:=by
 refine AR.mv (.of_below hb) (vk hn hv) (fun k hk=>?_) h;unfold up;split
 ·rename_i e
  subst e;exfalso;cases av with
  | ptr i o=>obtain ⟨g,h1,_⟩:=h;have e:i=k:=(by simpa [AV.on] using hk);rw [e,hn] at h1;cases h1
  | own i=>obtain ⟨h1,_⟩:=h;have e:i=k:=(by simpa [AV.on] using hk);rw [e,hn] at h1;cases h1
  | dW i _ _ _=>obtain ⟨g,n,cp,h1,_⟩:=h;have e:i=k:=(by simpa [AV.on] using hk);rw [e,hn] at h1;cases h1
  | wit i=>obtain ⟨g,h1⟩:=h;have e:i=k:=(by simpa [AV.on] using hk);rw [e,hn] at h1;cases h1
  | qL i _=>obtain ⟨g,h1,_⟩:=h;have e:i=k:=(by simpa [AV.on] using hk);rw [e,hn] at h1;cases h1
  | lim i _=>obtain ⟨_,u,h1,_⟩:=h;have e:i=k:=(by simpa [AV.on] using hk);rw [e,hn] at h1;cases h1
  | _=>simp [AV.on] at hk
 ·rfl
/-- An object is written (perhaps moved to a new block). -/
theorem eY.write{v':Value}{ob':AO}{hp':List (Nat×AO)}(h:eY ρ B0 w0 w hp)(aS:ρ id=some v)(hk:∀ b,b < w.heap.size→jd v≠some b→w'.heap[b]?=w.heap[b]?)(hs:w.heap.size≤w'.heap.size) 
  (hbel:JW w0 w') (hv:∀ b,jd v'=some b→jd v=some b∨w.heap.size≤b) (hl:∀ k ob,lk hp k=some ob→k≠id→lk hp' k=some ob) (hi:lk hp' id=some ob')
  (ho:OR (Bd (up ρ id v') B0) w0 w' ob' v'):eY (up ρ id v') B0 w0 w' hp'∧ku (Bd ρ B0) w w'∧∀ b,b < w.heap.size→Bd (up ρ id v') B0 b→Bd ρ B0 b:=by
 have hK:ku (Bd ρ B0) w w':=⟨hs,fun b hb hB=>hk b hb (fun e=>hB (Or.inr ⟨id,v,aS,e⟩))⟩;have hB:∀ b,b < w.heap.size→Bd (up ρ id v') B0 b→Bd ρ B0 b:=by
  rintro b hb (h | ⟨k,u,h1,h2⟩)
  ·exact Or.inl h
  ·unfold up at h1
   split at h1
   ·cases h1
    rcases hv b h2 with h3 | h3
    ·exact Or.inr ⟨id,v,aS,h3⟩
    ·omega
   ·exact Or.inr ⟨k,u,h1,h2⟩
 refine ⟨⟨hbel,h.b0,fun k u hu=>?_,?_⟩,hK,hB⟩
 ·unfold up at hu
  split at hu
  ·rename_i hk
   cases hu
   exact ⟨ob',by rw [hk];exact hi,ho⟩
  ·rename_i hne
   obtain ⟨ob1,h1,h2⟩:=h.obj k u hu;exact ⟨ob1,hl k ob1 h1 hne,h2.mv hK hB (fun b hvb=>hk b (h2.blk b hvb).2 (fun e=>hne (h.dist k id u v b hu aS hvb e)))⟩
 ·have old:∀ k u b,ρ k=some u→jd u=some b→b < w.heap.size:=fun k u b h1 h2=>let ⟨_,_,h3⟩:=h.obj k u h1;(h3.blk b h2).2
  intro k k' u u' b h1 h2 h3 h4;unfold up at h1 h2;split at h1 <;> split at h2
  ·omega
  ·cases h1
   have h5:=old k' u' b h2 h4;rcases hv b h3 with h6 | h6
   ·have:=h.dist id k' v u' b aS h2 h6 h4;omega
   ·omega
  ·cases h2
   have h5:=old k u b h1 h3;rcases hv b h4 with h6 | h6
   ·have:=h.dist k id u v b h1 aS h3 h6;omega
   ·omega
  ·exact h.dist k k' u u' b h1 h2 h3 h4
end
/-- THE STATE OF A FRAME: so many slots; what some of them hold; its objects. -/
structure AS where
 n:Nat
 sl:List (Nat×AV)
 hp:List (Nat×AO)
def fD(ρ:kL)(B:BS)(w:World)(sl:List (Nat×AV))(a:Act):Prop:=∀ t av,lk sl t=some av→∃ v,a.tmps[t]?=some v∧AR ρ B w av v
/-- The frame a, in the world w, is as s says; the call began in w0 and keeps out of B0. -/
def Kv(s:AS)(B0:BS)(w0:Wz)(a:Act)(w:World):Prop:=∃ ρ,eY ρ B0 w0 w s.hp∧a.tmps.size=s.n∧a.defers= []∧fD ρ (Bd ρ B0) w s.sl a
/-- What is asked of a type. -/
structure TI where
 n:Nat
 agg:Bool
 zero:List Value
 fs:List (Nat×TypeId)
 elem:Option TypeId
 bytes:Nat
 ik:Option IntKind
 bo:Bool
def gZ(P:Program)(t:TypeId):Option TI:=
 match P.info? t with
 | none=>none
 | some i=>match i.zero with
  | none=>none
  | some z=>match P.underlying t with
   | none=>none
   | some d=>if z.cells.toList.all (·.oneCell')=false then none else some {n:=i.size,agg:=d.isRow,zero:=z.cells.toList,fs:=(match d with | .struct fs=>fs.toList.map fun f=>(f.offset,f.type) | _=> []),elem:=(match d with | .slice e=>some e | _=>none),bytes:=i.bytes,ik:=(match d with | .int k=>some k | _=>none),bo:=(match d with | .bool=>true | _=>false)}
section
variable {P:Program} {t:TypeId} {ti:TI}
theorem cZ(h:gZ P t=some ti):∃ i z d,P.info? t=some i∧i.zero=some z∧P.underlying t=some d∧i.size=ti.n∧z.cells.toList=ti.zero∧d.isRow=ti.agg∧i.bytes=ti.bytes∧
  (∀ (f o:Nat) (u:TypeId),ti.fs[f]?=some (o,u)→∃ (fs:Array Field) (fd:Field),d= .struct fs∧fs[f]?=some fd∧fd.offset=o∧fd.type=u)∧(∀ e,ti.elem=some e→d= .slice e)∧(∀ k,ti.ik=some k→d= .int k)∧(ti.bo=true→d= .bool)∧(∀ c∈ti.zero,c.oneCell'=true):=by
 unfold gZ at h;split at h
 ·cases h
 ·rename_i i hi
  split at h
  ·cases h
  ·rename_i z hz
   split at h
   ·cases h
   ·rename_i d hd
    split at h
    ·cases h
    rename_i hall;cases h
    refine ⟨i,z,d,hi,hz,hd,rfl,rfl,rfl,rfl,?_,?_,?_,?_,?_⟩
    ·intro f o u hf
     cases d <;> simp at hf
     rename_i fs;obtain ⟨fd,h1,h2,h3⟩:=hf;exact ⟨fs,fd,rfl,h1,h2,h3⟩
    ·intro e he
     cases d <;> simp at he
     rw [he]
    ·intro k he
     cases d <;> simp at he
     rw [he]
    ·intro he
     cases d <;> simp at he
     rfl
    ·intro c hc
     simp only [Bool.not_eq_false] at hall;exact afj.1 hall c hc
theorem VP{w:World}{b o:Nat}{cs:List Value}(h:gZ P t=some ti)(ha:ti.agg=true)(hc:w.rangeAt b o cs)(hl:cs.length=ti.n):(Instr.loadAt t (.pointer (some ⟨b,o,none⟩))).run P w= .ok (.agg cs.toArray) w:=by
 obtain ⟨i,z,d,h1,h2,h3,h4,h5,h6,_⟩:=cZ h;exact run_loadAt_mid w b o t cs d hc h3 (h6.trans ha) (by rw [h1,hl,← h4];rfl)
theorem QW{w:World}{b o:Nat}{v:Value}(h:gZ P t=some ti)(ha:ti.agg=false)(hc:w.cell? ⟨b,o,none⟩=some v):(Instr.loadAt t (.pointer (some ⟨b,o,none⟩))).run P w= .ok v w:=by
 obtain ⟨i,z,d,h1,h2,h3,h4,h5,h6,_⟩:=cZ h;have hd:(isAgg t).run P w= .ok false w:=by
  unfold isAgg;rw [Sem.run_bind,run_underlying h3 w];rw [ha] at h6;cases d <;> first | rfl | (exact absurd h6 Bool.noConfusion)
 simp [Instr.loadAt,Instr.sureAddr,loadVar,Sem.run_bind,hd,hc]
theorem JH{w:World}{b o:Nat}{v:Value}{cs:List Value}(h:gZ P t=some ti)(hv:v.cells=cs.toArray)(hl:cs.length=ti.n)(ht:w.there b o cs.length)(h1:∀ c∈cs,c.oneCell'=true):
  (Instr.storeAt t (.pointer (some ⟨b,o,none⟩)) v).run P w= .ok () (w.setCells b o cs):=by
 obtain ⟨i,z,d,h1',h2,h3,h4,h5,h6,_⟩:=cZ h;have:=run_storeCells_cells (P:=P) b o cs 0 w (fun j hj=>(ht j hj).1) (fun j hj=>(ht j hj).2) h1;simp only [Nat.add_zero] at this;have hs:¬ cs.length≠i.size:=by omega
 simp [Instr.storeAt,Instr.sureAddr,storeVar,sizeOf,typeInfo,h1',hv,hs,this]
theorem abr{w:World}(h:gZ P t=some ti):(Instr.alloc t true (.tuple #[])).run P w= .ok (.pointer (some ⟨w.heap.size,0,none⟩)) (w.alloc (.cells ti.zero.toArray t)):=by
 obtain ⟨i,z,d,h1,h2,h3,h4,h5,h6,_⟩:=cZ h;rw [← h5];simp [Instr.alloc,zeroValue,typeInfo,h1,h2,newVar,newRow]
theorem aiy{w:World}{v:Value}{cs:List Value}(hv:v.cells=cs.toArray):(Instr.box t v).run P w= .ok (.pointer (some ⟨w.heap.size,0,none⟩)) (w.alloc (.cells cs.toArray t)):=by
 simp [Instr.box,newVar,newRow,hv]
theorem add_lit(b o n:Nat):(⟨b,o,none⟩:Addr).add n=⟨b,o+n,none⟩:=Addr.add_mid b o n
theorem JG{w:World}{b o:Nat}{f off:Nat}{u:TypeId}{tu:TI}(h:gZ P t=some ti)(hf:ti.fs[f]?=some (off,u))(hu:gZ P u=some tu)(hn:tu.n≠0):
  (Instr.fieldAt t (.pointer (some ⟨b,o,none⟩)) f).run P w= .ok (.pointer (some ⟨b,o+off,none⟩)) w:=by
 obtain ⟨i,z,d,h1,h2,h3,h4,h5,h6,h7,h8,_⟩:=cZ h;obtain ⟨fs,fd,rfl,h9,h10,h11⟩:=h8 f off u hf;obtain ⟨i',z',d',k1,k2,k3,k4,_⟩:=cZ hu;have hz:¬ i'.size=0:=by omega
 subst h10;subst h11;simp [Instr.fieldAt,run_underlying h3,h9,Instr.sureAddr,fieldPlace,sizeOf,typeInfo,k1,hz,add_lit]
theorem aeh{w : World}{cs : List Value}{off : Nat}(h : gZ P t = some ti): (part t cs.toArray off).run P w = if ti.agg = true then .ok (.agg ((cs.drop off).take ti.n).toArray) w else match cs[off]? with | some v => .ok v w | none => .halt (.stuck "part: no such cell") w := by
 obtain ⟨i,z,d,h1,h2,h3,h4,h5,h6,_⟩:=cZ h;have hd:(isAgg t).run P w= .ok ti.agg w:=by
  unfold isAgg;rw [Sem.run_bind,run_underlying h3 w,← h6];cases d <;> rfl
 rw [← h4];unfold part;cases ha:ti.agg
 ·rw [ha] at hd
  simp [hd];cases cs[off]? <;> simp
 ·rw [ha] at hd
  simp [hd,sizeOf,typeInfo,h1]
end
/-- A table of types is right. -/
def zU(P:Program)(T:TypeId→Option TI):Prop:=∀ t ti,T t=some ti→gZ P t=some ti
/-- What an operand holds. -/
def dH(s:AS):Operand→Option AV
 | .tmp t=>lk s.sl t
 | .const (.agg _) | .const (.tuple _)=>none
 | .const v=>some (.d (.one (.v v)))
 | .func f=>some (.d (.one (.fn f 0 fun _=> .v undef)))
 | .global _=>none
theorem bQ{s:AS}{ρ:kL}{B:BS}{w:World}{a:Act}{x:Operand}{av:AV}(hs:fD ρ B w s.sl a)(h:dH s x=some av):AR ρ B w av (a.eval x):=by
 cases x with
 | tmp t=>
  obtain ⟨v,hv,hr⟩:=hs t av h;have:a.eval (.tmp t)=v:=by simp [Act.eval,Array.getD_eq_getD_getElem?,hv]
  rw [this];exact hr
 | const v=>
  cases v <;> simp only [dH,Option.some.injEq,reduceCtorEq] at h <;> (subst h;exact ⟨rfl,rfl⟩)
 | func f=>
  simp only [dH,Option.some.injEq] at h;subst h;exact ⟨#[],rfl,rfl,fun j hj=>absurd hj (ab2 _)⟩
 | global g=>simp [dH] at h
/-- Integers, bools, strings. -/
def acE(bo:Bool)(op:BinOp):Value→Value→Option Value
 | .int k a,.int k' b=>
  if op= .shl then (if b < 0 then none else some (.int k (k.wrap (a*2^(min b.toNat k.bits)))))
  else if op= .shr then (if b < 0 then none else some (.int k (a.fdiv (2^(min b.toNat k.bits)))))
  else if k=k' then
   match op with
   | .add=>some (.int k (k.wrap (a+b)))
   | .sub=>some (.int k (k.wrap (a-b)))
   | .mul=>some (.int k (k.wrap (a*b)))
   | .quo=>if b=0 then none else some (.int k (k.wrap (a.tdiv b)))
   | .rem=>if b=0 then none else some (.int k (a.tmod b))
   | .or=>some (.int k (k.wrap ((BitVec.ofInt k.bits a ||| BitVec.ofInt k.bits b).toNat:Int)))
   | .shl | .shr | .and | .xor | .andNot=>none
   | .eql=>some (.bool (a==b)) | .neq=>some (.bool (a !=b)) | .lss=>some (.bool (a < b)) | .leq=>some (.bool (a≤b)) | .gtr=>some (.bool (a > b)) | .geq=>some (.bool (a≥b))
  else none
 | .bool a,.bool b=>
  match bo,op with
  | true,.eql=>some (.bool (a==b))
  | true,.neq=>some (.bool (!(a==b)))
  | _,_=>none
 | .string a,.string b=>
  match op with
  | .eql=>some (.bool (a.toList==b.toList))
  | .neq=>some (.bool (!(a.toList==b.toList)))
  | .add=>if a.size+b.size≤9223372036854775807 then some (.string (a ++b)) else none
  | _=>none
 | _,_=>none
theorem acF{P:Program}{w:World}{op:BinOp}{t:TypeId}{ti:TI}{x y r:Value}{ox oy:Operand}(hti:gZ P t=some ti)(h:acE ti.bo op x y=some r):
    (do eqGuard op t ox oy x y;binOp op t x y:Sem Value).run P w= .ok r w:=by
  unfold acE at h;split at h
  · rename_i k a k' b
    split at h
    · rename_i hop
      subst hop;split at h
      · cases h
      · rename_i hb
        cases h
        have hg:(eqGuard .shl t ox oy (.int k a) (.int k' b)).run P w= .ok () w:=rfl;rw [Sem.run_bind,hg,Result.andThen_ok];simp [binOp,Op.shift,hb]
    split at h
    · rename_i hop
      subst hop;split at h
      · cases h
      · rename_i hb
        cases h
        have hg:(eqGuard .shr t ox oy (.int k a) (.int k' b)).run P w= .ok () w:=rfl;rw [Sem.run_bind,hg,Result.andThen_ok];simp [binOp,Op.shift,hb]
    split at h
    · rename_i hk
      subst hk;have hg:(eqGuard op t ox oy (.int k a) (.int k b)).run P w= .ok () w:=by cases op <;> rfl
      rw [Sem.run_bind,hg,Result.andThen_ok];cases op <;> simp only [Option.some.injEq,reduceCtorEq] at h <;> first
        | (subst h;simp [binOp,Op.intArith,Op.intCmp,Op.intBits];done)
        | (exfalso;simp at *;done)
        | (split at h
           · cases h
           · rename_i hb
             cases h
             simp [binOp,Op.intDiv,hb])
    · cases h
  · rename_i a b
    cases hb:ti.bo
    · rw [hb] at h;cases op <;> simp at h
    · obtain ⟨i,z,d,h1,h2,h3,_,_,_,_,_,_,_,h4,_⟩:=cZ hti
      have hd:=h4 hb;subst hd;rw [hb] at h;cases op <;> simp only [Option.some.injEq,reduceCtorEq] at h
      all_goals
        subst h;have hg:∀ op,(eqGuard op t ox oy (.bool a) (.bool b)).run P w= .ok () w:=by intro op;cases op <;> rfl
        rw [Sem.run_bind,hg,Result.andThen_ok];simp [binOp,run_equal_bool w t a b h3]
  · rename_i a b
    have hg:(eqGuard op t ox oy (.string a) (.string b)).run P w= .ok () w:=by cases op <;> rfl
    rw [Sem.run_bind,hg,Result.andThen_ok];cases op <;> simp only [Option.some.injEq,reduceCtorEq] at h <;> first
      | (subst h;simp [binOp,Op.stringOp];done)
      | (split at h
         · rename_i hs
           cases h
           have:¬ ((a.size+b.size:Nat):Int) > IntKind.i64.max:=by
             simp [IntKind.max,IntKind.signed,IntKind.bits];omega
           simp [binOp,Op.stringOp,IntKind.max,IntKind.signed,IntKind.bits];omega
         · cases h)
  · cases h
def rng(cs:Nat→Lf):Nat→Nat→List Lf
 | _,0=> []
 | o,n+1=>cs o ::rng cs (o+1) n
theorem afx{B:BS}{w:World}{cs:Nat→Lf}{b off:Nat}:∀ (n o:Nat),(∀ j,o≤j→j < o+n→∃ x,w.cell? ⟨b,off+j,none⟩=some x∧dY B w (cs j) x)→
  ∃ vs:List Value,vs.length=n∧w.rangeAt b (off+o) vs∧ig B w (rng cs o n) vs
 | 0,o,_=>⟨[],rfl,fun j v h=>by simp at h,Pe⟩
 | n+1,o,h=>by
  obtain ⟨x,hx,hl⟩:=h o (abJ _) (by omega);obtain ⟨vs,h1,h2,h3⟩:=afx n (o+1) (fun j h1 h2=>h j (by omega) (by omega));refine ⟨x ::vs,by simp [h1],fun j v hv=>?_,hl,h3⟩;cases j with
  | zero=>simp at hv;subst hv;exact hx
  | succ j=>
   have:=h2 j v (by simpa using hv);rw [show off+o+(j+1)=off+(o+1)+j by omega];exact this
/-- A part of a struct's cells. -/
def D5(ti:TI)(ls:List Lf)(off:Nat):Option DV:=
 match ti.agg with
 | true=>if off+ti.n≤ls.length then some (.agg ((ls.drop off).take ti.n)) else none
 | false=>match ls[off]? with
  | some l=>some (.one l)
  | none=>none
theorem Qv{P:Program}{t:TypeId}{ti:TI}{ls:List Lf}{off:Nat}{d:DV}{B:BS}{w:World}{cs:List Value}(hti:gZ P t=some ti)(h:D5 ti ls off=some d)(hl:ig B w ls cs):
  ∃ v,(part t cs.toArray off).run P w= .ok v w∧DR B w d v:=by
 rw [aeh hti];unfold D5 at h;split at h
 ·rename_i ha
  rw [if_pos ha];split at h
  ·cases h
   exact ⟨_,rfl,_,rfl,(hl.drop off).take ti.n⟩
  ·cases h
 ·rename_i ha
  rw [if_neg (by rw [ha];exact Bool.noConfusion)];split at h
  ·rename_i l hl'
   cases h
   obtain ⟨c,hc,hr⟩:=hl.get hl';rw [hc];exact ⟨c,rfl,hr⟩
  ·cases h
theorem Je{P:Program}{t:TypeId}{ti:TI}{ls:List Lf}{off g:Nat}{T:TypeId}{d:DV}{B:BS}{w:World}{cs:List Value}(hti:gZ P t=some ti)(h:D5 ti ls off=some d)(hl:ig B w ls cs)(hb:kX w g T cs):
  ∃ v,(Instr.loadAt t (.pointer (some ⟨g,off,none⟩))).run P w= .ok v w∧DR B w d v:=by
 unfold D5 at h;split at h
 ·rename_i ha
  split at h
  ·rename_i hle
   cases h
   have hlen:=hl.len;refine ⟨_,VP hti ha (cs:=(cs.drop off).take ti.n) (fun j v hv=>?_) (by simp;omega),_,rfl,(hl.drop off).take ti.n⟩;have hj:j < ti.n:=by have:=(abU.1 hv).1;simp at this;omega
   rw [List.getElem?_take,if_pos hj,List.getElem?_drop] at hv;obtain ⟨h1,h2⟩:=abU.1 hv;rw [← h2];exact hb.cell _ h1
  ·cases h
 ·rename_i ha
  split at h
  ·rename_i l hl'
   cases h
   obtain ⟨c,hc,hr⟩:=hl.get hl';obtain ⟨h1,h2⟩:=abU.1 hc;exact ⟨c,QW hti ha (by rw [← h2];exact hb.cell _ h1),hr⟩
  ·cases h
/-- Load out of cells that are known one by one. -/
def Vo(ti:TI)(m:Nat)(cs:Nat→Lf):Option DV:=
 match ti.agg with
 | true=>if ti.n≤m then some (.agg (rng cs 0 ti.n)) else none
 | false=>if 0 < m then some (.one (cs 0)) else none
theorem Qk{P:Program}{t:TypeId}{ti:TI}{m:Nat}{cs:Nat→Lf}{d:DV}{B:BS}{w:World}{b off:Nat}(hti:gZ P t=some ti)(h:Vo ti m cs=some d) 
  (hc:∀ j,j < m→∃ x,w.cell? ⟨b,off+j,none⟩=some x∧dY B w (cs j) x):∃ v,(Instr.loadAt t (.pointer (some ⟨b,off,none⟩))).run P w= .ok v w∧DR B w d v:=by
 unfold Vo at h;split at h
 ·rename_i ha
  split at h
  ·rename_i hle
   cases h
   obtain ⟨vs,h1,h2,h3⟩:=afx (cs:=cs) ti.n 0 (fun j _ hj=>hc j (by omega));exact ⟨_,VP hti ha h2 h1,_,rfl,h3⟩
  ·cases h
 ·rename_i ha
  split at h
  ·rename_i hm
   cases h
   obtain ⟨x,hx,hl⟩:=hc 0 hm;exact ⟨x,QW hti ha hx,hl⟩
  ·cases h
/-- Parts are laid into a row of cells. -/
def Ny(ls:List Lf)(off:Nat)(new:List Lf):List Lf:=ls.take off ++(new ++ls.drop (off+new.length))
def sO(ls:List Value)(off:Nat)(new:List Value):List Value:=ls.take off ++(new ++ls.drop (off+new.length))
theorem ZT{B:BS}{w:World}{ls new:List Lf}{cs ns:List Value}(off:Nat)(h:ig B w ls cs)(k:ig B w new ns):ig B w (Ny ls off new) (sO cs off ns):=by
 unfold Ny sO;rw [k.len];exact (h.take off).app (k.app (h.drop _))
theorem Qa{ls new:List Value}{off:Nat}(h:off+new.length≤ls.length):(sO ls off new).length=ls.length:=by simp [sO];omega
theorem Wx:∀ (new:List Value) (cs:List Value) (off:Nat),off+new.length≤cs.length→(new.zipIdx).foldl (fun (l:Array Value) (p:Value×Nat)=>l.setIfInBounds (off+p.2) p.1) cs.toArray=(sO cs off new).toArray:=by
 have key:∀ (new:List Value) (cs:List Value) (off i:Nat),off+i+new.length≤cs.length→(new.zipIdx i).foldl (fun (l:Array Value) (p:Value×Nat)=>l.setIfInBounds (off+p.2) p.1) cs.toArray=(sO cs (off+i) new).toArray:=by
  intro new
  induction new with
  | nil=>intro cs off i h;simp [sO]
  | cons v r ih=>
   intro cs off i h;simp only [List.length_cons] at h;rw [List.zipIdx_cons,List.foldl_cons,List.setIfInBounds_toArray,ih _ _ _ (by rw [List.length_set];omega)];congr 1;unfold sO;rw [List.set_eq_take_append_cons_drop,if_pos (by omega)];have h1:(List.take (off+i) cs ++v ::List.drop (off+i+1) cs).take (off+(i+1))=List.take (off+i) cs ++ [v]:=by
    rw [List.take_append];have:(List.take (off+i) cs).length=off+i:=by simp;omega
    rw [this,show off+(i+1)-(off+i)=1 by omega,List.take_of_length_le (by omega)];rfl
   have h2:(List.take (off+i) cs ++v ::List.drop (off+i+1) cs).drop (off+(i+1)+r.length)=cs.drop (off+i+(v ::r).length):=by
    rw [List.drop_append];have:(List.take (off+i) cs).length=off+i:=by simp;omega
    rw [this,List.drop_eq_nil_of_le (by omega),List.nil_append,show off+(i+1)+r.length-(off+i)=r.length+1 by omega,List.drop_succ_cons,List.drop_drop];congr 1;simp;omega
   rw [h1,h2];simp
 intro new cs off h;exact key new cs off 0 (by omega)
def wz(place:Nat→Option (Nat×Nat))(cells:List Lf):List (Nat×List Lf)→Option (List Lf)
 | []=>some cells
 | (i,l) ::rest=>match place i with
  | none=>none
  | some (off,size)=>if l.length=size∧off+l.length≤cells.length then wz place (Ny cells off l) rest else none
theorem Du{B:BS}{w:World}(place:Nat→Option (Nat×Nat)):∀ (parts:List (Nat×List Lf)) (vs:List (Nat×Value)) (ls r:List Lf) (cs:List Value),ig B w ls cs→wz place ls parts=some r→
  parts.length=vs.length→(∀ (k:Nat) (p:Nat×List Lf) (v:Nat×Value),parts[k]?=some p→vs[k]?=some v→p.1=v.1∧∃ xs:List Value,v.2.cells=xs.toArray∧ig B w p.2 xs)→∃ rs:List Value,Instr.fill place cs.toArray vs=some rs.toArray∧ig B w r rs
 | [],[],ls,r,cs,hl,h,_,_=>by
  simp only [wz,Option.some.injEq] at h;subst h;exact ⟨cs,rfl,hl⟩
 | (i,l) ::rest,(i',v) ::vs,ls,r,cs,hl,h,hlen,hp=>by
  obtain ⟨h1,xs,hx,hlx⟩:=hp 0 _ _ rfl rfl;obtain rfl:i=i':=h1;simp only [wz] at h;simp only [Instr.fill];cases hpl:place i with
  | none=>rw [hpl] at h;cases h
  | some q=>
   obtain ⟨off,size⟩:=q;rw [hpl] at h;simp only at h;split at h
   ·rename_i hc
    have hxl:l.length=xs.length:=hlx.len;have hcl:=hl.len;have hsz:¬ (v.cells.size≠size∨off+v.cells.size > cs.toArray.size):=by
     rw [hx];simp at *;omega
    have hb:(decide (v.cells.size≠size) || decide (off+v.cells.size > cs.toArray.size))=false:=by
     simp only [Bool.or_eq_false_iff,decide_eq_false_iff_not];exact ⟨fun e=>hsz (Or.inl e),fun e=>hsz (Or.inr e)⟩
    have hfold:v.cells.zipIdx.foldl (fun cs (x:Value×Nat)=>cs.setIfInBounds (off+x.2) x.1) cs.toArray=(sO cs off xs).toArray:=by
     rw [hx,← Wx xs cs off (by omega)];simp
    obtain ⟨rs,h2,h3⟩:=Du place rest vs _ r _ (ZT off hl hlx) h (by simpa using hlen) (fun k p v' h1 h2=>hp (k+1) p v' (by simpa using h1) (by simpa using h2));refine ⟨rs,?_,h3⟩;simp only [hb,Bool.false_eq_true,if_false];rw [hfold];exact h2
   ·cases h
/-- The data that operands hold, with their places. -/
def AY(s:AS):List (Nat×Operand)→Option (List (Nat×List Lf))
 | []=>some []
 | (i,x) ::r=>match dH s x,AY s r with
  | some (.d d),some ps=>some ((i,d.cells) ::ps)
  | _,_=>none
theorem DC{s:AS}{ρ:kL}{B:BS}{w:World}{a:Act}(hs:fD ρ B w s.sl a):∀ (l:List (Nat×Operand)) (ps:List (Nat×List Lf)),AY s l=some ps→ps.length=(l.map fun q:Nat×Operand=>(q.1,a.eval q.2)).length∧
  ∀ (k:Nat) (p:Nat×List Lf) (v:Nat×Value),ps[k]?=some p→(l.map fun q:Nat×Operand=>(q.1,a.eval q.2))[k]?=some v→p.1=v.1∧∃ xs:List Value,v.2.cells=xs.toArray∧ig B w p.2 xs
 | [],ps,h=>by
  simp only [AY,Option.some.injEq] at h;subst h;exact ⟨rfl,fun k p v h1=>by simp at h1⟩
 | (i,x) ::r,ps,h=>by
  simp only [AY] at h;split at h
  ·rename_i d ps' hx hr
   cases h
   obtain ⟨h1,h2⟩:=DC hs r ps' hr;refine ⟨by simpa using h1,fun k p v hp hv=>?_⟩;cases k with
   | zero=>
    simp at hp hv;subst hp;subst hv;exact ⟨rfl,(bQ hs hx:DR _ _ _ _).cells⟩
   | succ k=>exact h2 k p v (by simpa using hp) (by simpa using hv)
  ·cases h
/-- The operands' data, one cell each. -/
def yx(s:AS):List Operand→Option (List Lf)
 | []=>some []
 | x ::r=>match dH s x,yx s r with
  | some (.d (.one l)),some ls=>some (l ::ls)
  | _,_=>none
theorem Dx{s:AS}{ρ:kL}{B:BS}{w:World}{a:Act}(hs:fD ρ B w s.sl a):∀ (l:List Operand) (ls:List Lf),yx s l=some ls→ig B w ls (l.map a.eval)
 | [],ls,h=>by
  simp only [yx,Option.some.injEq] at h;subst h;trivial
 | x ::r,ls,h=>by
  simp only [yx] at h;split at h
  ·rename_i d ps' hx hr
   cases h
   exact ⟨bQ hs hx,Dx hs r ps' hr⟩
  ·cases h
/-- The types of fields, with their places. -/
def zJ(T:TypeId→Option TI):List (Nat×TypeId)→Option (List (Nat×Nat))
 | []=>some []
 | (o,u) ::r=>match T u,zJ T r with
  | some ti,some l=>some ((o,ti.n) ::l)
  | _,_=>none
theorem F5{P:Program}{T:TypeId→Option TI}(hT:zU P T){w:World}:∀ (fs:List Field) (l:List (Nat×Nat)),zJ T (fs.map fun f=>(f.offset,f.type))=some l→(fs.mapM (fun f=>do pure (f.offset,← sizeOf f.type)):Sem (List (Nat×Nat))).run P w= .ok l w
 | [],l,h=>by
  simp only [List.map_nil,zJ,Option.some.injEq] at h;subst h;rfl
 | f ::fs,l,h=>by
  simp only [List.map_cons,zJ] at h;split at h
  ·rename_i ti l' hti hl
   replace hti:=hT _ _ hti
   cases h
   obtain ⟨i,z,d,h1,h2,h3,h4,_⟩:=cZ hti;have ih:=F5 hT (w:=w) fs l' hl;simp [List.mapM_cons,sizeOf,typeInfo,h1,h4] at ih ⊢;rw [ih];simp
  ·cases h
/-- Integers, folded. -/
def NK(k:IntKind)(mx:Bool):Int→List Lf→Option Int
 | x,[]=>some x
 | x,.v (.int k' y) ::r=>if k=k' then NK k mx (if mx then (if y > x then y else x) else (if y < x then y else x)) r else none
 | _,_=>none
def kD(s:AS)(x:Operand):Option (IntKind×Int):=
 match dH s x with
 | some (.d (.one (.v (.int k n))))=>some (k,n)
 | _=>none
theorem DI{s:AS}{ρ:kL}{B:BS}{w:World}{a:Act}{x:Operand}{k:IntKind}{n:Int}(hs:fD ρ B w s.sl a)(h:kD s x=some (k,n)):a.eval x= .int k n:=by
 unfold kD at h;split at h
 ·rename_i hx
  cases h
  exact (bQ hs hx:dY _ _ _ _).1
 ·cases h
def one(l:Lf):Option AV:=some (.d (.one l))
def JB:Option DV→Option AV
 | some d=>some (.d d)
 | none=>none
/-- A bound of a slice. -/
def qx(s:AS)(x:Option Operand)(d:Nat):Option Nat:=match x with
 | none=>some d
 | some x=>match kD s x with
  | some (_,z)=>if 0≤z then some z.toNat else none
  | none=>none
theorem MO{P:Program}{s:AS}{ρ:kL}{B:BS}{w:World}{a:Act}{x:Operand}{d r y:Nat}{code:BoundsCode}(hs:fD ρ B w s.sl a)(h:qx s (some x) d=some r)(hy:r≤y):(Instr.sliceBound (a.eval x) y code).run P w= .ok r w:=by
 unfold qx at h;simp only at h;split at h
 ·rename_i k z hx
  split at h
  ·rename_i hz
   cases h
   have he:=DI hs hx;have hzy:0≤z∧z≤(y:Int):=⟨hz,by omega⟩;simp [Instr.sliceBound,he,asIntOf,hzy]
  ·cases h
 ·cases h
/-- AN OPERATION THAT MAKES A VALUE. -/
def jr(T:TypeId→Option TI)(s:AS):Op→Option AV
 | .move x | .assign x=>dH s x
 | .pick c a b=>match dH s c with
  | some (.d (.one (.v (.bool t))))=>if t=true then dH s a else dH s b
  | _=>none
 | .load t x=>match T t with
  | none=>none
  | some ti=>match dH s x with
   | some (.ptr id off)=>match Xw s.hp id with
    | some (.box _ cs)=>JB (D5 ti cs off)
    | _=>none
   | some (.dW id sz i j)=>match Xw s.hp id with
    | some (.row _ sz' n el)=>if sz=sz'∧j≤sz then JB (Vo ti (sz-j) fun q=>el i (j+q)) else none
    | _=>none
   | some (.d (.one (.at m cs)))=>JB (Vo ti m cs)
   | _=>none
 | .binOp op t x y _=>match T t,dH s x,dH s y with
  | some ti,some (.d (.one (.v a))),some (.d (.one (.v b)))=>match acE ti.bo op a b with
   | some r=>one (.v r)
   | none=>none
  | _,_,_=>none
 | .unOp op _ x=>match op,dH s x with
  | .not,some (.d (.one (.v (.bool b))))=>one (.v (.bool (!b)))
  | .neg,some (.d (.one (.v (.int k n))))=>one (.v (.int k (k.wrap (0-n))))
  | _,_=>none
 | .convert src dst x=>match T src,T dst,dH s x with
  | some _,some ti,some (.d (.one (.v (.int _ n))))=>match ti.ik with
   | some k=>one (.v (.int k (k.wrap n)))
   | none=>none
  | _,_,_=>none
 | .fieldAddr t x f=>match T t with
  | none=>none
  | some ti=>match ti.fs[f]? with
   | none=>none
   | some (off,u)=>match T u with
    | none=>none
    | some tu=>if tu.n=0 then none else match dH s x with
     | some (.ptr id o)=>some (.ptr id (o+off))
     | some (.dW id sz i j)=>some (.dW id sz i (j+off))
     | some (.d (.one (.at m cs)))=>if off≤m then one (.at (m-off) fun q=>cs (off+q)) else none
     | _=>none
 | .field t x f=>match T t with
  | none=>none
  | some ti=>match ti.fs[f]? with
   | none=>none
   | some (off,u)=>match T u,dH s x with
    | some tu,some (.d (.agg ls))=>JB (D5 tu ls off)
    | _,_=>none
 | .extract x i=>match dH s x with
  | some (.ji xs)=>JB (xs[i]?)
  | some (.qL id xs)=>match i with
   | 0=>some (.ptr id 0)
   | j+1=>JB (xs[j]?)
  | _=>none
 | .indexAddr t x ix=>match T t with
  | none=>none
  | some ti=>match ti.elem with
   | none=>none
   | some e=>match T e,kD s ix with
    | some te,some (_,z)=>match dH s x with
     | some (.d (.one (.row sz n el)))=>if sz=te.n∧0≤z∧z < (n:Int) then one (.at sz (el z.toNat)) else none
     | some (.own id)=>match Xw s.hp id with
      | some (.row _ sz n el)=>if sz=te.n∧0≤z∧z < (n:Int) then some (.dW id sz z.toNat 0) else none
      | _=>none
     | _=>none
    | _,_=>none
 | .slice t x lo hi none=>match T t with
  | none=>none
  | some ti=>match ti.elem with
   | none=>none
   | some e=>match T e,dH s x with
    | some te,some (.d (.one (.row sz n el)))=>match qx s lo 0,qx s hi n with
     | some l,some h=>if sz=te.n∧l≤h∧h≤n then one (.row sz (h-l) fun i j=>el (l+i) j) else none
     | _,_=>none
    | _,_=>none
 | .build t parts=>match T t with
  | none=>none
  | some ti=>match ti.fs with
   | []=>none
   | f ::fs=>match zJ T (f ::fs),AY s parts.toList with
    | some pl,some ps=>match wz (fun i=>pl[i]?) (ti.zero.map Lf.v) ps with
     | some r=>some (.d (.agg r))
     | none=>none
    | _,_=>none
 | .call c=>match c.callee with
  | .builtin .len=>match c.args.toList,c.argTypes[0]? with
   | [x],some t=>match T t with
    | none=>none
    | some ti=>match ti.elem,dH s x with
     | some _,some (.d (.one (.row sz n el)))=>one (.v (.int .i64 n))
     | some _,some (.d (.one (.ln n S)))=>one (.v (.int .i64 n))
     | some _,some (.d (.one (.v (.slice _ n _))))=>one (.v (.int .i64 n))
     | some _,some (.own id)=>match Xw s.hp id with
      | some (.row _ sz n el)=>one (.v (.int .i64 n))
      | _=>none
     | _,_=>none
   | _,_=>none
  | .builtin .max=>match yx s c.args.toList with
   | some (.v (.int k x) ::r)=>match NK k true x r with
    | some z=>one (.v (.int k z))
    | none=>none
   | _=>none
  | .builtin .min=>match yx s c.args.toList with
   | some (.v (.int k x) ::r)=>match NK k false x r with
    | some z=>one (.v (.int k z))
    | none=>none
   | _=>none
  | _=>none
 | .makeFunc (.func f) fi caps=>match fi.toList,yx s caps.toList with
  | [],some ls=>one (.fn f ls.length fun j=>(ls[j]?).getD (.v undef))
  | _,_=>none
 | _=>none
theorem dJ{P:Program}{w w':World}{x:Sem Value}{v:Value}(h:x.run P w= .ok v w'):(do pure (.value (← x)):Sem Next).run P w= .ok (.value v) w':=by
 simp [h]
theorem Qm{P:Program}{w:World}{k:IntKind}:∀ (r:List Lf) (vs:List Value) (x z:Int) {B:BS},ig B w r vs→NK k false x r=some z→(vs.foldlM Builtin.min2 (.int k x)).run P w= .ok (.int k z) w
 | [],[],x,z,B,_,h=>by
  simp only [NK,Option.some.injEq] at h;subst h;rfl
 | l ::r,v ::vs,x,z,B,hl,h=>by
  unfold NK at h;split at h
  ·rename_i he
   cases he
  ·rename_i heq
   cases heq
   split at h
   ·rename_i hk
    subst hk;obtain ⟨hv,_⟩:=hl.1;subst hv;have:=Qm (P:=P) r vs _ z hl.2 h;simp only [List.foldlM_cons,Sem.run_bind,Builtin.min2,Sem.run_pure,Result.andThen_ok];simpa using this
   ·cases h
  ·cases h
theorem Ql{P:Program}{w:World}{k:IntKind}:∀ (r:List Lf) (vs:List Value) (x z:Int) {B:BS},ig B w r vs→NK k true x r=some z→(vs.foldlM Builtin.max2 (.int k x)).run P w= .ok (.int k z) w
 | [],[],x,z,B,_,h=>by
  simp only [NK,Option.some.injEq] at h;subst h;rfl
 | l ::r,v ::vs,x,z,B,hl,h=>by
  unfold NK at h;split at h
  ·rename_i he
   cases he
  ·rename_i heq
   cases heq
   split at h
   ·rename_i hk
    subst hk;obtain ⟨hv,_⟩:=hl.1;subst hv;have:=Ql (P:=P) r vs _ z hl.2 h;simp only [List.foldlM_cons,Sem.run_bind,Builtin.max2,Sem.run_pure,Result.andThen_ok];simpa using this
   ·cases h
  ·cases h
theorem Bz{P:Program}{T:TypeId→Option TI}(hT:zU P T){s:AS}{o:Oper}{av:AV}{ρ:kL}{B0:BS}{w0:Wz}{w:World}{hp:List (Nat×AO)}{a:Act}(hsl:fD ρ (Bd ρ B0) w s.sl a)(hc:eY ρ B0 w0 w hp)(IL:∀ id ob,lk s.hp id=some ob→lk hp id=some ob) 
  (h:jr T s o.op=some av):∃ v,(execOp a.eval o).run P w= .ok (.value v) w∧AR ρ (Bd ρ B0) w av v:=by
 unfold jr at h;unfold execOp;split at h
 ·rename_i x hop;rw [hop];exact ⟨_,rfl,bQ hsl h⟩
 ·rename_i x hop;rw [hop];exact ⟨_,rfl,bQ hsl h⟩
 ·rename_i c x y hop
  rw [hop];split at h
  ·rename_i t hcv
   have hcv:=(bQ hsl hcv:dY _ _ _ _).1;simp only [hcv,asBool,Sem.run_bind,Sem.run_pure,Result.andThen_ok];cases t
   ·exact ⟨_,rfl,bQ hsl h⟩
   ·exact ⟨_,rfl,bQ hsl h⟩
  ·cases h
 ·rename_i t x hop
  rw [hop];split at h
  ·cases h
  rename_i ti hti
  replace hti:=hT _ _ hti
  have fin:∀ {d:Option DV} {av:AV},JB d=some av→∃ e,d=some e∧av= .d e:=by
   intro d av hd;cases d with
   | none=>cases hd
   | some e=>cases hd;exact ⟨e,rfl,rfl⟩
  split at h
  ·rename_i id off hx
   split at h
   ·rename_i T cs hob
    obtain ⟨d,hd,rfl⟩:=fin h;obtain ⟨g,hg,hxe⟩:=bQ hsl hx;have h2:=hc.adM IL hob hg;obtain ⟨g',vs,he,_,hb,hl⟩:=h2;cases he
    obtain ⟨v,hr,hv⟩:=Je hti hd hl hb;exact ⟨v,dJ (by rw [hxe];exact hr),hv⟩
   ·cases h
  ·rename_i id sz i j hx
   split at h
   ·rename_i T sz' n el hob
    split at h
    ·rename_i hsz
     obtain ⟨rfl,hj⟩:=hsz;obtain ⟨d,hd,rfl⟩:=fin h;obtain ⟨g,n',cap,hg,hi,hxe⟩:=bQ hsl hx;have h2:=hc.adM IL hob hg;obtain ⟨xs,hown,hel⟩:=h2;obtain ⟨⟨hxl,hown2⟩,hbk⟩:=hown;rcases hown2 with ⟨he,_⟩ | ⟨g2,cap2,cur,he,hge,hblk,hn,hm,hs,ht⟩
     ·cases he
     ·cases he
      obtain ⟨v,hr,hv⟩:=Qk (b:=g) (off:=i*sz+j) hti hd (B:=Bd ρ B0) (w:=w) (fun q hq=>by
       obtain ⟨x,hx1,hx2⟩:=hel i (j+q) hi (by omega);refine ⟨x,?_,hx2⟩;rw [cell_of_row w g _ cur _ (0,0) hblk,← Array.getElem?_toList];rw [← ht,List.getElem?_take] at hx1;split at hx1
       ·rw [show i*sz+j+q=i*sz+(j+q) by omega];exact hx1
       ·cases hx1)
      exact ⟨v,dJ (by rw [hxe];exact hr),hv⟩
    ·cases h
   ·cases h
  ·rename_i m cs hx
   obtain ⟨d,hd,rfl⟩:=fin h;obtain ⟨b,off,hxe,hb,hlt,hcs⟩:=(bQ hsl hx:dY _ _ _ _);obtain ⟨v,hr,hv⟩:=Qk hti hd hcs;exact ⟨v,dJ (by rw [hxe];exact hr),hv⟩
  ·cases h
 ·rename_i op t x y yt hop
  rw [hop];split at h
  ·rename_i ti va vb hti hx hy
   replace hti:=hT _ _ hti
   split at h
   ·rename_i r hr
    cases h
    have h1:=(bQ hsl hx:dY _ _ _ _).1;have h2:=(bQ hsl hy:dY _ _ _ _).1;refine ⟨r,dJ (by rw [h1,h2];exact acF hti hr),rfl,?_⟩;unfold acE at hr;split at hr
    ·split at hr
     ·split at hr <;> cases hr <;> rfl
     split at hr
     ·split at hr <;> cases hr <;> rfl
     split at hr
     ·split at hr <;> first | (cases hr;done) | (cases hr;rfl) | (split at hr <;> cases hr <;> rfl)
     ·cases hr
    ·split at hr <;> cases hr <;> rfl
    ·split at hr <;> first | (cases hr;rfl) | (split at hr <;> cases hr <;> rfl) | cases hr
    ·cases hr
   ·cases h
  ·cases h
 ·rename_i op t x hop
  rw [hop];split at h
  ·rename_i b hx
   cases h
   have h1:=(bQ hsl hx:dY _ _ _ _).1;exact ⟨_,dJ (by rw [h1];rfl),rfl,rfl⟩
  ·rename_i k n hx
   cases h
   have h1:=(bQ hsl hx:dY _ _ _ _).1;exact ⟨_,dJ (by rw [h1];rfl),rfl,rfl⟩
  ·cases h
 ·rename_i src dst x hop
  rw [hop];split at h
  ·rename_i ts td k n hts htd hx
   replace hts:=hT _ _ hts
   replace htd:=hT _ _ htd
   split at h
   ·rename_i k' hik
    cases h
    have h1:=(bQ hsl hx:dY _ _ _ _).1;obtain ⟨_,_,d1,_,_,hd1,_⟩:=cZ hts;obtain ⟨_,_,d2,_,_,hd2,_,_,_,_,_,_,hk,_⟩:=cZ htd;have:=hk k' hik;subst this;refine ⟨.int k' (k'.wrap n),dJ ?_,rfl,rfl⟩;rw [h1];simp only [convert,Sem.run_bind,run_underlying hd1,run_underlying hd2,Result.andThen_ok];cases d1 <;> rfl
   ·cases h
  ·cases h
 ·rename_i t x f hop
  rw [hop];split at h
  ·cases h
  rename_i ti hti
  replace hti:=hT _ _ hti
  split at h
  ·cases h
  rename_i off u hf;split at h
  ·cases h
  rename_i tu htu
  replace htu:=hT _ _ htu
  split at h
  ·cases h
  rename_i hn;split at h
  ·rename_i id o' hx
   cases h
   obtain ⟨g,hg,hxe⟩:=bQ hsl hx;exact ⟨_,dJ (by rw [hxe];exact JG hti hf htu hn),g,hg,rfl⟩
  ·rename_i id sz i j hx
   cases h
   obtain ⟨g,n,cap,hg,hi,hxe⟩:=bQ hsl hx;exact ⟨_,dJ (by rw [hxe];exact JG hti hf htu hn),g,n,cap,hg,hi,by rw [Nat.add_assoc]⟩
  ·rename_i m cs hx
   split at h
   ·rename_i hle
    cases h
    obtain ⟨b,o',hxe,hb,hlt,hcs⟩:=(bQ hsl hx:dY _ _ _ _);refine ⟨_,dJ (by rw [hxe];exact JG hti hf htu hn),b,o'+off,rfl,hb,hlt,fun j hj=>?_⟩;obtain ⟨x,h1,h2⟩:=hcs (off+j) (by omega);exact ⟨x,by rw [Nat.add_assoc];exact h1,h2⟩
   ·cases h
  ·cases h
 ·rename_i t x f hop
  rw [hop];split at h
  ·cases h
  rename_i ti hti
  replace hti:=hT _ _ hti
  split at h
  ·cases h
  rename_i off u hf;split at h
  ·rename_i tu ls htu hx
   replace htu:=hT _ _ htu
   cases hd:D5 tu ls off with
   | none=>rw [hd] at h;cases h
   | some d=>
    rw [hd] at h;cases h
    obtain ⟨cs,hxe,hl⟩:=bQ hsl hx;obtain ⟨v,hr,hv⟩:=Qv (P:=P) htu hd hl;obtain ⟨i,z,dd,h1,h2,h3,h4,h5,h6,h7,h8,_⟩:=cZ hti;obtain ⟨fs,fd,rfl,h9,rfl,rfl⟩:=h8 f off u hf;refine ⟨v,dJ ?_,hv⟩;rw [hxe];simp only [Instr.field,Sem.run_bind,run_underlying h3,Result.andThen_ok,h9,asAgg,Sem.run_pure];exact hr
  ·cases h
 ·rename_i x i hop
  rw [hop];split at h
  ·rename_i xs hx
   cases hd:xs[i]? with
   | none=>rw [hd] at h;cases h
   | some d=>
    rw [hd] at h;cases h
    obtain ⟨cs,hxe,hl⟩:=bQ hsl hx;obtain ⟨c,hc',hr⟩:=hl.get hd;refine ⟨c,dJ ?_,hr⟩;rw [hxe];simp [Instr.extract,hc']
  ·rename_i id xs hx
   obtain ⟨g,hg,cs,hxe,hl⟩:=bQ hsl hx;split at h
   ·cases h
    refine ⟨_,dJ ?_,g,hg,rfl⟩;rw [hxe];simp [Instr.extract]
   ·rename_i j
    cases hd:xs[j]? with
    | none=>rw [hd] at h;cases h
    | some d=>
     rw [hd] at h;cases h
     obtain ⟨c,hc',hr⟩:=hl.get hd;refine ⟨c,dJ ?_,hr⟩;rw [hxe];simp [Instr.extract,hc']
  ·cases h
 ·rename_i t x ix hop
  rw [hop];split at h
  ·cases h
  rename_i ti hti
  replace hti:=hT _ _ hti
  split at h
  ·cases h
  rename_i e he;split at h
  ·rename_i te ki z hte hix
   replace hte:=hT _ _ hte
   have akL:=DI hsl hix;obtain ⟨i,zz,dd,h1,h2,h3,h4,h5,h6,h7,h8,h9,_⟩:=cZ hti;have:=h9 e he;subst this;obtain ⟨i',zz',dd',k1,k2,k3,k4,_⟩:=cZ hte;split at h
   ·rename_i sz n el hx
    split at h
    ·rename_i hcond
     obtain ⟨rfl,hz0,hzn⟩:=hcond;cases h
     obtain ⟨ad,cap,hxe,hn,hnil,hel⟩:=(bQ hsl hx:dY _ _ _ _);obtain ⟨b,off,rfl,hb,hlt,hj⟩:=hel z.toNat (by omega);refine ⟨.pointer (some ⟨b,off+z.toNat*te.n,none⟩),dJ ?_,b,_,rfl,hb,hlt,hj⟩;rw [hxe,akL];simp [Instr.indexAt,asIntOf,run_underlying h3,hz0,hzn,sizeOf,typeInfo,k1,k4,add_lit]
    ·cases h
   ·rename_i id hx
    split at h
    ·rename_i e' sz n el hob
     split at h
     ·rename_i hcond
      obtain ⟨rfl,hz0,hzn⟩:=hcond;cases h
      obtain ⟨hg,ad,n',cap,hxe⟩:=bQ hsl hx;have o2:=hc.adM IL hob hg;obtain ⟨xs,⟨⟨hxl,hown2⟩,hbk⟩,hel⟩:=o2;rcases hown2 with ⟨hee,hn0⟩ | ⟨g2,cap2,cur,hee,hge,hblk,hn,hm,hs,ht⟩
      ·omega
      ·refine ⟨.pointer (some ⟨g2,z.toNat*te.n,none⟩),dJ ?_,g2,n,cap2,by rw [hg,hee],by omega,by rw [Nat.add_zero]⟩
       rw [hee,akL];simp [Instr.indexAt,asIntOf,run_underlying h3,hz0,hzn,sizeOf,typeInfo,k1,k4,add_lit]
     ·cases h
    ·cases h
   ·cases h
  ·cases h
 ·rename_i t x lo hi hop
  rw [hop];split at h
  ·cases h
  rename_i ti hti
  replace hti:=hT _ _ hti
  split at h
  ·cases h
  rename_i e he;split at h
  ·rename_i te sz n el hte hx
   replace hte:=hT _ _ hte
   split at h
   ·rename_i lo' hi' hlo hhi
    split at h
    ·rename_i hcond
     obtain ⟨rfl,hlh,hhn⟩:=hcond;cases h
     obtain ⟨i,z,dd,h1,h2,h3,h4,h5,h6,h7,h8,h9,_⟩:=cZ hti;have:=h9 e he;subst this;obtain ⟨i',zz',dd',k1,k2,k3,k4,_⟩:=cZ hte;obtain ⟨ad,cap,hxe,hn,hnil,hel⟩:=(bQ hsl hx:dY _ _ _ _);have hb:(Instr.sliceBounds true n cap (lo.map a.eval) (hi.map a.eval) none).run P w= .ok (lo',hi',cap) w:=by
      have h1:(match (hi.map a.eval) with | some v=>Instr.sliceBound v cap .sliceAcap | none=>pure n:Sem Nat).run P w= .ok hi' w:=by
       cases hi with
       | none=>simp [qx] at hhi;simp [hhi]
       | some y=>exact MO hsl hhi (by omega)
      have h2:(match (lo.map a.eval) with | some v=>Instr.sliceBound v hi' .sliceB | none=>pure 0:Sem Nat).run P w= .ok lo' w:=by
       cases lo with
       | none=>simp [qx] at hlo;simp [hlo]
       | some y=>exact MO hsl hlo hlh
      cases hi with
      | none=>
       cases lo with
       | none=>simp [Instr.sliceBounds,qx] at *;omega
       | some y=>simp [Instr.sliceBounds] at *;simp [h1,h2]
      | some y=>
       cases lo with
       | none=>simp [Instr.sliceBounds] at *;simp [h1,h2]
       | some y'=>simp [Instr.sliceBounds] at *;simp [h1,h2]
     refine ⟨.slice (if cap=lo' then ad else ad.map (·.add (lo'*te.n))) (hi'-lo') (cap-lo'),dJ ?_,if cap=lo' then ad else ad.map (·.add (lo'*te.n)),cap-lo',rfl,by omega,fun hnone=>?_,fun q hq=>?_⟩
     ·rw [hxe]
      simp only [Instr.sliceAt,Instr.slice,Sem.run_bind,run_underlying h3,Result.andThen_ok,sizeOf,typeInfo,run_program,k1,Sem.run_pure,Option.map_none];rw [hb];simp [k4]
     ·cases ad with
      | none=>have:=hnil rfl;omega
      | some q=>
       by_cases hc':cap=lo'
       ·omega
       ·rw [if_neg hc'] at hnone;cases hnone
     ·have hc':¬ cap=lo':=by omega
      rw [if_neg hc'];obtain ⟨b,off,rfl,hb1,hb2,hb3⟩:=hel (lo'+q) (by omega);refine ⟨b,off+lo'*te.n,by simp [add_lit],hb1,hb2,fun j hj=>?_⟩;obtain ⟨v,hv1,hv2⟩:=hb3 j hj;exact ⟨v,by rw [Nat.add_assoc off,← Nat.add_mul];exact hv1,hv2⟩
    ·cases h
   ·cases h
  ·cases h
 ·rename_i t parts hop
  rw [hop];split at h
  ·cases h
  rename_i ti hti
  replace hti:=hT _ _ hti
  split at h
  ·cases h
  rename_i f fs hfs;split at h
  ·rename_i pl ps hpl hps
   split at h
   ·rename_i r hr
    cases h
    obtain ⟨i,z,dd,h1,h2,h3,h4,h5,h6,h7,h8,_⟩:=cZ hti;obtain ⟨F,fd,rfl,h9,h10,h11⟩:=h8 0 f.1 f.2 (by rw [hfs];rfl);have hF:F.toList.map (fun q:Field=>(q.offset,q.type))=f ::fs:=by
     rw [← hfs];unfold gZ at hti;simp only [h1,h2,h3] at hti;split at hti
     ·cases hti
     ·cases hti;rfl
    have hone:∀ c∈ti.zero,c.oneCell'=true:=by
     obtain ⟨_,_,_,_,_,_,_,_,_,_,_,_,_,_,hall⟩:=cZ hti;exact hall
    obtain ⟨g1,g2⟩:=DC hsl parts.toList ps hps;obtain ⟨rs,PZ,hrs⟩:=Du (fun i=>pl[i]?) ps _ _ r ti.zero (ig.vs hone) hr g1 g2;have an8:=F5 hT (w:=w) F.toList pl (by rw [hF];exact hpl);refine ⟨.agg rs.toArray,dJ ?_,rs,rfl,hrs⟩;have hz:z.cells=ti.zero.toArray:=by rw [← h5]
    have hm:(parts.map fun x:Nat×Operand=>match x with | (i,x)=>(i,a.eval x)).toList=parts.toList.map fun q:Nat×Operand=>(q.1,a.eval q.2):=by
     rw [Array.toList_map]
    unfold Instr.build;simp only [Sem.run_bind,zeroValue,typeInfo,run_program,Result.andThen_ok,h1,h2,Sem.run_pure,run_underlying h3,hz,Array.mapM_eq_mapM_toList,Sem.run_map];rw [an8];simp only [Result.andThen_ok,hm];have:(fun x:Nat=>pl.toArray[x]?)=fun i:Nat=>pl[i]? :=by funext i;simp
    rw [this,PZ];rfl
   ·cases h
  ·cases h
 ·rename_i c hop
  rw [hop];split at h
  ·rename_i uP
   split at h
   ·rename_i x t hargs hty
    split at h
    ·cases h
    rename_i ti hti
    replace hti:=hT _ _ hti
    have hargs':c.args=#[x]:=by rw [← Array.toList_inj];simpa using hargs
    obtain ⟨i,z,d,h1,h2,h3,h4,h5,h6,h7,h8,h9,_⟩:=cZ hti;have go:∀ (ad:Option Addr) (n cap:Nat) e,ti.elem=some e→a.eval x= .slice ad n cap→(do let d ← resolve a.eval c o.type;invoke d.target d.args).run P w= .ok (.value (.int .i64 n)) w:=by
     intro ad n cap e he hxe;have:=h9 e he;subst this;simp [resolve,uP,hargs',invoke,builtin,Builtin.len_,hty,hxe,run_underlying h3,goInt]
    split at h
    ·rename_i e sz n el he hx
     cases h
     obtain ⟨ad,cap,hxe,_⟩:=(bQ hsl hx:dY _ _ _ _);exact ⟨_,go ad n cap e he hxe,rfl,rfl⟩
    ·rename_i e n S he hx
     cases h
     obtain ⟨_,ad,cap,hxe⟩:=(bQ hsl hx:dY _ _ _ _);exact ⟨_,go ad n cap e he hxe,rfl,rfl⟩
    ·rename_i e ad n cap he hx
     cases h
     have hxe:=(bQ hsl hx:dY _ _ _ _).1;exact ⟨_,go ad n cap e he hxe,rfl,rfl⟩
    ·rename_i e id he hx
     split at h
     ·rename_i e' sz n el hob
      cases h
      obtain ⟨hg,ad,n',cap,hxe⟩:=bQ hsl hx;have o2:=hc.adM IL hob hg;obtain ⟨xs,⟨⟨hxl,hown2⟩,hbk⟩,hel⟩:=o2;have hn:n'=n:=by
       rcases hown2 with ⟨hee,hn0⟩ | ⟨g2,cap2,cur,hee,hge,hblk,hn,hm,hs,ht⟩
       ·rw [hxe] at hee;cases hee;exact hn0.symm
       ·rw [hxe] at hee;cases hee;rfl
      subst hn;exact ⟨_,go ad n' cap e he hxe,rfl,rfl⟩
     ·cases h
    ·cases h
   ·cases h
  ·rename_i uP
   split at h
   ·rename_i k x r hg
    split at h
    ·rename_i z hz
     cases h
     have hls:=Dx hsl _ _ hg;cases hca:c.args.toList with
     | nil=>rw [hca] at hls;exact hls.elim
     | cons y ys=>
      rw [hca] at hls;obtain ⟨⟨hy,_⟩,hys⟩:=hls;have:=Ql (P:=P) (w:=w) r (ys.map a.eval) x z hys hz;refine ⟨_,?_,rfl,rfl⟩;have hm:(c.args.map a.eval).toList= .int k x ::ys.map a.eval:=by rw [Array.toList_map,hca,List.map_cons,hy]
      simp [resolve,uP,invoke,builtin,Builtin.max_,hca,hy,this]
    ·cases h
   ·cases h
  ·rename_i uP
   split at h
   ·rename_i k x r hg
    split at h
    ·rename_i z hz
     cases h
     have hls:=Dx hsl _ _ hg;cases hca:c.args.toList with
     | nil=>rw [hca] at hls;exact hls.elim
     | cons y ys=>
      rw [hca] at hls;obtain ⟨⟨hy,_⟩,hys⟩:=hls;have:=Qm (P:=P) (w:=w) r (ys.map a.eval) x z hys hz;refine ⟨_,?_,rfl,rfl⟩;simp [resolve,uP,invoke,builtin,Builtin.min_,hca,hy,this]
    ·cases h
   ·cases h
  ·cases h
 ·rename_i f fi caps hop
  rw [hop];split at h
  ·rename_i ls hfi hg
   cases h
   have hls:=Dx hsl _ _ hg;have anL:fi=#[]:=by rw [← Array.toList_inj];simpa using hfi
   refine ⟨_,dJ (by simp only [Instr.makeFunc];rfl),caps.map a.eval,?_,?_,fun j hj=>?_⟩
   ·rw [anL,Array.map_empty]
   ·have:=hls.len;simp at this;simp [this]
   ·obtain ⟨l,hl⟩:∃ l,ls[j]?=some l:=⟨ls[j],by simp [hj]⟩
    obtain ⟨cc,hcc,hr⟩:=hls.get hl;refine ⟨cc,by simpa using hcc,?_⟩;show dY _ _ ((ls[j]?).getD _) cc
    rw [hl];exact hr
  ·cases h
 ·cases h
/-- AN OPERATION THAT MAKES AN OBJECT. -/
def Wu(T:TypeId→Option TI)(s:AS):Op→Option AO
 | .alloc t=>match T t with
  | some ti=>some (.box t (ti.zero.map Lf.v))
  | none=>none
 | .box t x=>match dH s x with
  | some (.d d)=>some (.box t d.cells)
  | _=>none
 | .makeSlice t l c=>match T t with
  | none=>none
  | some ti=>match ti.elem with
   | none=>none
   | some e=>match T e,kD s l,kD s c with
    | some te,some (_,zl),some (_,zc)=>if 0≤zl∧zl≤zc∧(te.bytes:Int)*zc≤140737488355328∧zc≤9223372036854775807∧te.zero.length=te.n then some (.row e te.n zl.toNat fun _ j=> .v ((te.zero[j]?).getD undef)) else none
    | _,_,_=>none
 | _=>none
/-- A row written out: data that nobody writes. -/
def evB(T:TypeId→Option TI)(s:AS):Op→Option AV
 | .buildSlice t len parts=>match T t with
  | none=>none
  | some ti=>match ti.elem with
   | none=>none
   | some e=>match T e,AY s parts.toList with
    | some te,some ps=>if te.zero.length=te.n∧te.n≠0∧len*te.n≤16777216 then match wz (fun i=>some (i*te.n,te.n)) ((List.range (len*te.n)).map fun q=>Lf.v ((te.zero[q%te.n]?).getD undef)) ps with
     | some r=>one (.row te.n len fun i j=>(r[i*te.n+j]?).getD (.v undef))
     | none=>none
     else none
    | _,_=>none
 | _=>none
theorem nP(w:World)(o:Obj):Below w.heap.size w (w.alloc o):=(Below.refl _ _).alloc (abJ _) _
def AO.av:AO→Nat→AV
 | .box _ _,id=> .ptr id 0
 | .row _ _ _ _,id=> .own id
 | .is _ _,_=> .dead
 | .sz _,_=> .dead
theorem AO.CV{ρ:kL}{B B':BS}{w0:Wz}{w:World}{ob:AO}{id:Nat}{v:Value}(h:OR B w0 w ob v)(hr:ρ id=some v):AR ρ B' w (ob.av id) v:=by
 cases ob with
 | box t cs=>
  obtain ⟨g,vs,rfl,_⟩:=h;exact ⟨g,hr,rfl⟩
 | row e sz n el=>
  obtain ⟨xs,⟨⟨_,⟨rfl,_⟩ | ⟨g,cap,cur,rfl,_⟩⟩,_⟩,_⟩:=h
  ·exact ⟨hr,none,0,0,rfl⟩
  ·exact ⟨hr,_,_,_,rfl⟩
 | «is» x ob=>trivial
 | sz k=>trivial
theorem aaj(z:List Value)(n j:Nat)(hj:j < n)(hz:0 < z.length):(madeCells z.toArray n).toList[j]?=some (z[j%z.length]'(adl _ hz)):=by
 simp [madeCells,hj,Nat.mod_lt _ hz]
theorem Na{P:Program}{T:TypeId→Option TI}(hT:zU P T){s:AS}{o:Oper}{ob:AO}{ρ:kL}{B0:BS}{w0:Wz}{w:World}{hp:List (Nat×AO)}{a:Act}(hsl:fD ρ (Bd ρ B0) w s.sl a)(hc:eY ρ B0 w0 w hp)(h:Wu T s o.op=some ob):
  ∃ v w',(execOp a.eval o).run P w= .ok (.value v) w'∧Below w.heap.size w w'∧(∀ b,jd v=some b→w.heap.size≤b)∧∀ B',(∀ b,b < w.heap.size→B' b→Bd ρ B0 b)→OR B' w0 w' ob v:=by
 unfold Wu at h;unfold execOp;split at h
 ·rename_i t hop
  rw [hop];split at h
  ·rename_i ti hti
   replace hti:=hT _ _ hti
   cases h
   have hone:∀ c∈ti.zero,c.oneCell'=true:=by
    obtain ⟨_,_,_,_,_,_,_,_,_,_,_,_,_,_,hall⟩:=cZ hti;exact hall
   refine ⟨_,_,dJ (abr hti),nP _ _,fun b hb=>by cases hb;exact abJ _,fun B' hB=>⟨_,ti.zero,rfl,Or.inl hc.bel.size,kX.new w t _,ig.vs hone⟩⟩
  ·cases h
 ·rename_i t x hop
  rw [hop];split at h
  ·rename_i d hx
   cases h
   obtain ⟨cs,h1,h2⟩:=DR.cells (bQ hsl hx);refine ⟨_,_,dJ (aiy h1),nP _ _,fun b hb=>by cases hb;exact abJ _,fun B' hB=>⟨_,cs,rfl,Or.inl hc.bel.size,kX.new w t _,h2.mv (.of_below (nP _ _)) hB⟩⟩
  ·cases h
 ·rename_i t l c hop
  rw [hop];split at h
  ·cases h
  rename_i ti hti
  replace hti:=hT _ _ hti
  split at h
  ·cases h
  rename_i e he;split at h
  ·rename_i te kl zl kc zc hte hl hcc
   replace hte:=hT _ _ hte
   split at h
   ·rename_i hcond
    obtain ⟨h0,hlc,hby,hmax,hzl⟩:=hcond;cases h
    have hle:=DI hsl hl;have hce:=DI hsl hcc;obtain ⟨i,z,dd,h1,h2,h3,h4,h5,h6,h7,h8,h9,_⟩:=cZ hti;have:=h9 e he;subst this;obtain ⟨i',z',dd',k1,k2,k3,k4,k5,k6,k7,_,_,_,_,hall⟩:=cZ hte;have hr:=run_make (P:=P) w t e i' z' h3 k1 k2 kl kc zl zc h0 hlc (by rw [k7];omega) (by omega);refine ⟨_,_,dJ (by rw [hle,hce];exact hr),nP _ _,fun b hb=>by cases hb;exact abJ _,fun B' hB=>?_⟩;have hzs:z'.cells.size=te.n:=by rw [← hzl,← k5];simp
    have hsz:(madeCells z'.cells (zc.toNat*i'.size)).size=zc.toNat*te.n:=by simp [madeCells,k4]
    have hcap:zl.toNat≤zc.toNat:=by omega
    have hmul:zl.toNat*te.n≤zc.toNat*te.n:=abN _ hcap;refine ⟨((madeCells z'.cells (zc.toNat*i'.size)).toList).take (zl.toNat*te.n),⟨⟨by rw [List.length_take,Array.length_toList,hsz,Nat.min_eq_left hmul],Or.inr ⟨w.heap.size,zc.toNat,_,rfl,abR _,heap_alloc_new w _,hcap,by simp [maxLen];omega,hsz,rfl⟩⟩,fun b hb=>by cases hb;exact Or.inl hc.bel.size⟩,fun p q hp hq=>?_⟩;have hidx:p*te.n+q < zl.toNat*te.n:=by
     have:(p+1)*te.n≤zl.toNat*te.n:=abN _ (by omega);rw [Nat.add_mul,Nat.one_mul] at this;omega
    have hz':z'.cells=te.zero.toArray:=by rw [← k5]
    have hpos:0 < te.zero.length:=by omega
    refine ⟨(te.zero[q]?).getD undef,?_,rfl,?_⟩
    ·rw [List.getElem?_take,if_pos hidx,hz',aaj _ _ _ (by rw [k4];omega) hpos]
     have:(p*te.n+q)%te.zero.length=q:=by rw [hzl,Nat.mul_comm,Nat.mul_add_mod,Nat.mod_eq_of_lt hq]
     simp [this,List.getElem?_eq_getElem (show q < te.zero.length by omega)]
    ·rw [List.getElem?_eq_getElem (show q < te.zero.length by omega)]
     exact hall _ (aiM _)
   ·cases h
  ·cases h
 ·cases h
theorem MW{P:Program}{T:TypeId→Option TI}(hT:zU P T){s:AS}{o:Oper}{av:AV}{ρ:kL}{B0:BS}{w0:Wz}{w:World}{hp:List (Nat×AO)}{a:Act}(hsl:fD ρ (Bd ρ B0) w s.sl a)(hc:eY ρ B0 w0 w hp)(h:evB T s o.op=some av):
  ∃ v w',(execOp a.eval o).run P w= .ok (.value v) w'∧Below w.heap.size w w'∧AR ρ (Bd ρ B0) w' av v:=by
 unfold evB at h;unfold execOp;split at h
 ·rename_i t len parts hop
  rw [hop];split at h
  ·cases h
  rename_i ti hti
  replace hti:=hT _ _ hti
  split at h
  ·cases h
  rename_i e he;split at h
  ·rename_i te ps hte hps
   replace hte:=hT _ _ hte
   split at h
   ·rename_i hcond
    obtain ⟨hzl,hn0,hsm⟩:=hcond;split at h
    ·rename_i r hr
     cases h
     obtain ⟨i,z,dd,h1,h2,h3,h4,h5,h6,h7,h8,h9,_⟩:=cZ hti;have:=h9 e he;subst this;obtain ⟨i',z',dd',k1,k2,k3,k4,k5,k6,k7,_,_,_,_,hall⟩:=cZ hte;have hz':z'.cells=te.zero.toArray:=by rw [← k5]
     obtain ⟨g1,g2⟩:=DC hsl parts.toList ps hps;have hpos:0 < te.n:=by omega
     have hbase:ig (Bd ρ B0) w ((List.range (len*te.n)).map fun q=>Lf.v ((te.zero[q%te.n]?).getD undef)) ((List.range (len*te.n)).map fun q=>(te.zero[q%te.n]?).getD undef):=by
      have:=ig.vs (B:=Bd ρ B0) (w:=w) (cs:=(List.range (len*te.n)).map fun q=>(te.zero[q%te.n]?).getD undef) (fun c hcm=>by
       obtain ⟨q,_,rfl⟩:=List.mem_map.1 hcm;rw [List.getElem?_eq_getElem (show q%te.n < te.zero.length by rw [hzl];exact Nat.mod_lt _ hpos)];exact hall _ (aiM _))
      rwa [List.map_map] at this
     obtain ⟨rs,PZ,hrs⟩:=Du (fun i=>some (i*te.n,te.n)) ps _ _ r _ hbase hr g1 g2;have hrl:∀ (ps:List (Nat×List Lf)) (l r:List Lf),wz (fun i=>some (i*te.n,te.n)) l ps=some r→r.length=l.length:=by
      intro ps
      induction ps with
      | nil=>intro l r h;simp only [wz,Option.some.injEq] at h;rw [h]
      | cons p ps ih=>
       intro l r h;simp only [wz] at h;split at h
       ·rename_i hcnd
        rw [ih _ _ h];simp [Ny];omega
       ·cases h
     have hlen:rs.length=len*te.n:=by rw [← hrs.len,hrl _ _ _ hr];simp
     have hm:(parts.map fun x:Nat×Operand=>match x with | (i,x)=>(i,a.eval x)).toList=parts.toList.map fun q:Nat×Operand=>(q.1,a.eval q.2):=by rw [Array.toList_map]
     have hgt:¬ len*i'.size > 2^24:=by rw [k4];omega
     have hrun:(Instr.buildSlice t len (parts.map fun x:Nat×Operand=>match x with | (i,x)=>(i,a.eval x))).run P w= .ok (.slice (some ⟨w.heap.size,0,none⟩) len len) (w.alloc (.cells rs.toArray e)):=by
      have hA:∀ zc:Array Value,(len*te.n=0∨zc=te.zero.toArray)→(Array.range (len*te.n)).map (fun q=>zc[q%zc.size]!)=((List.range (len*te.n)).map fun q=>(te.zero[q%te.n]?).getD undef).toArray:=by
       rintro zc (h0 | rfl)
       ·rw [h0];simp
       ·rw [← Array.toList_inj]
        simp only [Array.toList_map,Array.toList_range];refine List.map_congr_left (fun q _=>?_);have hq:q%te.n < te.zero.length:=by rw [hzl];exact adl _ hpos
        simp [hzl,getElem!_def,List.getElem?_eq_getElem hq]
      have hfin:∀ zc:Array Value,(len*te.n=0∨zc=te.zero.toArray)→(do
        let some cells := Instr.fill (fun i => some (i * te.n, te.n)) ((Array.range (len * te.n)).map (fun q => zc[q % zc.size]!)) (parts.map fun x : Nat × Operand => match x with | (i, x) => (i, a.eval x)).toList | stuck "buildSlice: a part of the wrong size"
        pure (.slice (some (← newRow e cells)) len len):Sem Value).run P w= .ok (.slice (some ⟨w.heap.size,0,none⟩) len len) (w.alloc (.cells rs.toArray e)):=by
       intro zc hz;rw [hA zc hz,hm,PZ];rfl
      unfold Instr.buildSlice;simp only [Sem.run_bind,run_underlying h3,Result.andThen_ok,sizeOf,typeInfo,run_program,k1,Sem.run_pure,k4];rw [if_neg (by omega)]
      by_cases hl0:len*te.n=0
      ·rw [if_pos hl0]
       simp only [Sem.run_pure,Result.andThen_ok,Sem.run_bind];exact hfin #[] (Or.inl hl0)
      ·rw [if_neg hl0]
       simp only [Sem.run_bind,zeroValue,typeInfo,run_program,Result.andThen_ok,k1,Sem.run_pure,k2,hz'];exact hfin _ (Or.inr rfl)
     refine ⟨_,_,dJ hrun,nP _ _,some ⟨w.heap.size,0,none⟩,len,rfl,abJ _,(fun h=>by cases h),fun p hp=>⟨w.heap.size,0,rfl,fun hB=>?_,by simp,fun q hq=>?_⟩⟩
     ·have:=hc.MN _ hB;omega
     ·have hidx:p*te.n+q < len*te.n:=by
       have:(p+1)*te.n≤len*te.n:=abN _ (by omega);rw [Nat.add_mul,Nat.one_mul] at this;omega
      have hrlen:r.length=len*te.n:=by rw [hrs.len,hlen]
      obtain ⟨l,hl⟩:∃ l,r[p*te.n+q]?=some l:=⟨r[p*te.n+q],by simp [hrlen,hidx]⟩
      obtain ⟨cc,hcc,hlr⟩:=hrs.get hl;refine ⟨cc,?_,?_⟩
      ·obtain ⟨q1,q2⟩:=abU.1 hcc
       rw [Nat.zero_add,← q2];exact (kX.new w e rs).cell _ q1
      ·show dY _ _ ((r[p*te.n+q]?).getD _) cc
       rw [hl];exact dY.mv (.of_below (nP _ _)) (fun _ _ hB=>hB) _ hlr
    ·cases h
   ·cases h
  ·cases h
 ·cases h
theorem ZU{ls r:List Value}{v:Value}{off:Nat}(h:off+(r.length+1)≤ls.length):sO (ls.set off v) (off+1) r=sO ls off (v ::r):=by
 unfold sO;rw [List.set_eq_take_append_cons_drop,if_pos (by omega)];have h0:(List.take off ls).length=off:=by simp;omega
 have h1:(List.take off ls ++v ::List.drop (off+1) ls).take (off+1)=List.take off ls ++ [v]:=by
  rw [List.take_append,h0,show off+1-off=1 by omega,List.take_of_length_le (by omega)];rfl
 have h2:(List.take off ls ++v ::List.drop (off+1) ls).drop (off+1+r.length)=ls.drop (off+(v ::r).length):=by
  rw [List.drop_append,h0,List.drop_eq_nil_of_le (by omega),List.nil_append,show off+1+r.length-off=r.length+1 by omega,List.drop_succ_cons,List.drop_drop];congr 1;simp;omega
 rw [h1,h2];simp
theorem P9{ls new:List Value}{off:Nat}(h:off+new.length≤ls.length)(k:Nat):(sO ls off new)[k]?=if k < off then ls[k]? else if k < off+new.length then new[k-off]? else ls[k]? :=by
 unfold sO;have h0:(List.take off ls).length=off:=by simp;omega
 by_cases h1:k < off
 ·rw [if_pos h1,List.getElem?_append_left (by omega),List.getElem?_take,if_pos h1]
 ·rw [if_neg h1,List.getElem?_append_right (by omega),h0]
  by_cases h2:k < off+new.length
  ·rw [if_pos h2,List.getElem?_append_left (by omega)]
  ·rw [if_neg h2,List.getElem?_append_right (by omega),List.getElem?_drop]
   congr 1;omega
/-- The block behind stores into a stretch of it; all else as it was. -/
theorem rD{g:Nat}{t:TypeId}:∀ (cs:List Value) (off:Nat) (w:World) (vs:List Value),kX w g t vs→off+cs.length≤vs.length→
  kX (w.setCells g off cs) g t (sO vs off cs)∧(∀ b,b≠g→(w.setCells g off cs).heap[b]?=w.heap[b]?)∧(w.setCells g off cs).heap.size=w.heap.size∧(w.setCells g off cs).os=w.os∧(w.setCells g off cs).tape=w.tape∧(w.setCells g off cs).output=w.output
 | [],off,w,vs,h,hl=>by
  have:sO vs off []=vs:=by simp [sO]
  rw [this];exact ⟨h,fun _ _=>rfl,rfl,rfl,rfl,rfl⟩
 | c ::cs,off,w,vs,h,hl=>by
  simp only [List.length_cons] at hl;have h1:=h.set off c;obtain ⟨k1,k2,k3,k4,k5,k6⟩:=rD cs (off+1) (w.setCell ⟨g,off,none⟩ c) (vs.set off c) h1 (by rw [List.length_set];omega);rw [ZU (by omega)] at k1;simp only [World.setCells];exact ⟨k1,fun b hb=>(k2 b hb).trans (Below.heap_setCell w ⟨g,off,none⟩ c b hb),by rw [k3];simp [World.setCell],k4.trans rfl,k5.trans rfl,k6.trans rfl⟩
def unP:Option AO→Option (AO×AO)
 | some ob=>some (ob,ob.un)
 | none=>none
/-- An object, and what it is behind its names. -/
def lkP(l:List (Nat×AO))(id:Nat):Option (AO×AO):=unP (lk l id)
theorem Jb{l:List (Nat×AO)}{id:Nat}{ob o:AO}(h:lkP l id=some (ob,o)):lk l id=some ob∧ob.un=o:=by
 unfold lkP at h;cases hl:lk l id with
 | none=>rw [hl] at h;cases h
 | some x=>rw [hl] at h;cases h;exact ⟨rfl,rfl⟩
/-- A STORE. -/
def Xt(T:TypeId→Option TI)(s:AS):Op→Option (Nat×AO)
 | .store t x y=>match T t with
  | none=>none
  | some ti=>match dH s x,dH s y with
   | some (.ptr id off),some (.d d)=>match lkP s.hp id with
    | some (ob,.box T cs)=>if d.cells.length=ti.n∧off+ti.n≤cs.length then some (id,AO.put (.box T (Ny cs off d.cells)) ob) else none
    | _=>none
   | some (.dW id sz i 0),some (.d d)=>match lkP s.hp id with
    | some (ob,.row e sz' n el)=>if sz=sz'∧d.cells.length=ti.n∧ti.n=sz then some (id,AO.put (.row e sz n fun p q=>if p=i then (d.cells[q]?).getD (.v undef) else el p q) ob) else none
    | _=>none
   | _,_=>none
 | _=>none
theorem Aq{ρ:kL}{id:Nat}{v:Value}(h:ρ id=some v):up ρ id v=ρ:=by
 funext k;unfold up;split
 ·rename_i e;rw [e,h]
 ·rfl
theorem SV{P:Program}{T:TypeId→Option TI}(hT:zU P T){s:AS}{o:Oper}{id:Nat}{ob:AO}{ρ:kL}{B0:BS}{w0:Wz}{w:World}{a:Act}(hsl:fD ρ (Bd ρ B0) w s.sl a)(hc:eY ρ B0 w0 w s.hp)(h:Xt T s o.op=some (id,ob)):
  ∃ w',(execOp a.eval o).run P w= .ok .skip w'∧eY ρ B0 w0 w' ((id,ob) ::s.hp)∧ku (Bd ρ B0) w w':=by
 unfold Xt at h;unfold execOp;have hrun:∀ {t:TypeId} {x y:Value} {w':World},(Instr.storeAt t x y).run P w= .ok () w'→(do Instr.storeAt t x y;pure .skip:Sem Next).run P w= .ok .skip w':=by
  intro t x y w' h;rw [Sem.run_bind,h];rfl
 split at h
 ·rename_i t x y hop
  rw [hop];split at h
  ·cases h
  rename_i ti hti
  replace hti:=hT _ _ hti
  split at h
  ·rename_i id' off d hx hy
   split at h
   ·rename_i obn T cs ahk
    obtain ⟨hob,hun⟩:=Jb ahk;split at h
    ·rename_i hcond
     obtain ⟨hl,hfit⟩:=hcond;cases h
     obtain ⟨g,hg,hxe⟩:=bQ hsl hx;obtain ⟨vs,hv,ZH⟩:=DR.cells (bQ hsl hy);obtain ⟨ob,h1,h2⟩:=hc.obj id _ hg;rw [hob] at h1;cases h1
     have h2n:=h2;have h2:=h2.un;rw [hun] at h2;obtain ⟨g',us,he,hge,hb,hul⟩:=h2;cases he
     have hlen:=ZH.len;have hulen:=hul.len;have hst:=JH (w:=w) (b:=g) (o:=off) hti hv (by omega) (fun j hj=>⟨by rw [hb.cell _ (by omega)];rfl,hb.free _⟩) ZH.one;obtain ⟨k1,k2,k3,k4,k5,k6⟩:=rD vs off w us hb (by omega);have hbel:JW w0 (w.setCells g off vs):=hc.bel.put k4 k5 k6 (by omega) (g:=fun b=>b=g) (fun b e=>e▸hge) (fun b hb hne=>k2 b hne);have hW:=eY.write (v':= .pointer (some ⟨g,0,none⟩)) (ob':=AO.put (.box T (Ny cs off d.cells)) obn) (hp':=(id,AO.put (.box T (Ny cs off d.cells)) obn) ::s.hp) hc hg (w':=w.setCells g off vs) (fun b hb hne=>k2 b (fun e=>hne (by rw [e];rfl))) (by omega) hbel
      (fun b hb=>Or.inl hb) (fun k ob hk hne=>by rw [aV,if_neg (fun e=>hne e.symm)];exact hk) (by rw [aV,if_pos rfl]) (by
       rw [Aq hg];have hK:ku (Bd ρ B0) w (w.setCells g off vs):=⟨by omega,fun b hb hB=>k2 b (fun e=>hB (Or.inr ⟨id,_,hg,by rw [e];rfl⟩))⟩;exact h2n.put (new:= .box T (Ny cs off d.cells)) ⟨g,_,rfl,hge,k1,(ZT off hul ZH).mv hK (fun _ _ hB=>hB)⟩)
     rw [Aq hg] at hW;exact ⟨_,hrun (by rw [hxe];exact hst),hW.1,hW.2.1⟩
    ·cases h
   ·cases h
  ·rename_i id' sz i d hx hy
   split at h
   ·rename_i obn e sz' n el ahk
    obtain ⟨hob,hun⟩:=Jb ahk;split at h
    ·rename_i hcond
     obtain ⟨rfl,hl,hsz⟩:=hcond;cases h
     obtain ⟨g,n',cap,hg,hi,hxe⟩:=bQ hsl hx;obtain ⟨vs,hv,ZH⟩:=DR.cells (bQ hsl hy);obtain ⟨ob,h1,h2⟩:=hc.obj id _ hg;rw [hob] at h1;cases h1
     have h2n:=h2;have h2:=h2.un;rw [hun] at h2;obtain ⟨xs,⟨⟨hxl,hown2⟩,hbk⟩,hel⟩:=h2;rcases hown2 with ⟨he,_⟩ | ⟨g2,cap2,cur,he,hge,hblk,hn,hm,hs,ht⟩
     ·cases he
     ·cases he
      have hb:kX w g e cur.toList:=by unfold kX;rw [hblk]
      have hlen:=ZH.len;have hend:i*sz+sz≤n*sz:=by
       have:(i+1)*sz≤n*sz:=abN _ (by omega);rwa [Nat.add_mul,Nat.one_mul] at this
      have hcl:n*sz≤cur.toList.length:=by
       rw [Array.length_toList,hs];exact abN _ hn
      rw [Nat.add_zero] at hxe;have hst:=JH (w:=w) (b:=g) (o:=i*sz) hti hv (by omega) (fun j hj=>⟨by rw [hb.cell _ (by omega)];rfl,hb.free _⟩) ZH.one;obtain ⟨k1,k2,k3,k4,k5,k6⟩:=rD vs (i*sz) w _ hb (by omega);have hbel:JW w0 (w.setCells g (i*sz) vs):=hc.bel.put k4 k5 k6 (by omega) (g:=fun b=>b=g) (fun b e=>e▸hbk g rfl) (fun b hb hne=>k2 b hne);have hW:=eY.write (v':= .slice (some ⟨g,0,none⟩) n cap) (ob':=AO.put (.row e sz n fun p q=>if p=i then (d.cells[q]?).getD (.v undef) else el p q) obn) (hp':=(id,AO.put (.row e sz n fun p q=>if p=i then (d.cells[q]?).getD (.v undef) else el p q) obn) ::s.hp) hc hg (w':=w.setCells g (i*sz) vs) (fun b hb hne=>k2 b (fun e=>hne (by rw [e];rfl))) (by omega) hbel
       (fun b hb=>Or.inl hb) (fun k ob hk hne=>by rw [aV,if_neg (fun e=>hne e.symm)];exact hk) (by rw [aV,if_pos rfl]) (by
        rw [Aq hg];have hK:ku (Bd ρ B0) w (w.setCells g (i*sz) vs):=⟨by omega,fun b hb hB=>k2 b (fun e=>hB (Or.inr ⟨id,_,hg,by rw [e];rfl⟩))⟩;have hll:(sO cur.toList (i*sz) vs).length=cap*sz:=by rw [Qa (by omega),Array.length_toList,hs]
        refine h2n.put (new:=(.row e sz n fun p q=>if p=i then (d.cells[q]?).getD (.v undef) else el p q)) ⟨(sO cur.toList (i*sz) vs).take (n*sz),⟨⟨by rw [List.length_take,hll,Nat.min_eq_left (by rw [← hs,← Array.length_toList];exact hcl)],Or.inr ⟨g,cap,(sO cur.toList (i*sz) vs).toArray,rfl,hge,k1,hn,hm,by simpa using hll,rfl⟩⟩,hbk⟩,fun p q hp hq=>?_⟩;have hidx:p*sz+q < n*sz:=by
         have:(p+1)*sz≤n*sz:=abN _ (by omega);rw [Nat.add_mul,Nat.one_mul] at this;omega
        rw [List.getElem?_take,if_pos hidx,P9 (by omega)]
        by_cases hpi:p=i
        ·subst hpi
         rw [if_neg (by omega),if_pos (by omega),show p*sz+q-p*sz=q by omega];obtain ⟨l,hl'⟩:∃ l,d.cells[q]?=some l:=⟨d.cells[q]'(by omega),by simp⟩
         obtain ⟨c,hc',hr⟩:=ZH.get hl';refine ⟨c,hc',?_⟩;show dY _ _ (if p=p then _ else _) c
         rw [if_pos rfl,hl'];exact dY.mv hK (fun _ _ hB=>hB) _ hr
        ·obtain ⟨x,hx1,hx2⟩:=hel p q hp hq
         have ZI:cur.toList[p*sz+q]?=some x:=by
          rw [← ht,List.getElem?_take,if_pos hidx] at hx1;exact hx1
         have hout:p*sz+q < i*sz∨i*sz+sz≤p*sz+q:=by
          rcases Nat.lt_or_gt_of_ne hpi with hlt | hgt
          ·left
           have:(p+1)*sz≤i*sz:=abN _ hlt;rw [Nat.add_mul,Nat.one_mul] at this;omega
          ·right
           have:(i+1)*sz≤p*sz:=abN _ hgt;rw [Nat.add_mul,Nat.one_mul] at this;omega
         refine ⟨x,?_,?_⟩
         ·rcases hout with ho | ho
          ·rw [if_pos ho];exact ZI
          ·rw [if_neg (by omega),if_neg (by omega)];exact ZI
         ·show dY _ _ (if p=i then _ else _) x
          rw [if_neg hpi];exact dY.mv hK (fun _ _ hB=>hB) _ hx2)
      rw [Aq hg] at hW;exact ⟨_,hrun (by rw [hxe];exact hst),hW.1,hW.2.1⟩
    ·cases h
   ·cases h
  ·cases h
 ·cases h
/-- Append, to a row of the frame's own: which block holds the answer. -/
theorem qp{P:Program}{w:World}(base:Nat)(t ty e:TypeId)(i:TypeInfo)(z:Value)(size bytes:Nat)(ht:P.underlying t=some (.slice e))(hi:P.info? e=some i)(hz:i.zero=some z) 
  (hsize:i.size=size) (hby:i.bytes=bytes) (hzs:z.cells.size=size) (hsz:0 < size) (v:Value) (n:Nat) (xs:List Value) (hown:w.ownsRow base e size v n xs)
  (ao:Option Addr) (m c:Nat) (news:List Value) (hl:news.length=m*size) (hnil:ao=none→c=0) (hmc:m≤c) (hsrc:ng w ao news) (h1:∀ u∈news,u.oneCell'=true)
  (h63:n+m≤maxLen) (hbytes:(n+m)*bytes≤140737488355328) (hbase:base≤w.heap.size):
  ∃ v' w',(Builtin.append_ #[t,t] ty #[v,.slice ao m c]).run P w= .ok v' w'∧w'.ownsRow base e size v' (n+m) (xs ++news)∧w.grownBy w' v.ownBlock∧(∀ b,jd v'=some b→jd v=some b∨w.heap.size≤b):=by
 cases ao with
 | none=>
  have hc0:=hnil rfl;subst hc0;have hm:m=0:=by omega
  subst hm;have hn:news= []:=adb (by simpa using hl);subst hn;exact ⟨v,w,run_append_owned_none (P:=P) (w:=w) base t ty e i size ht hi v n xs hown,by simpa using hown,World.grownBy.refl _ _,fun b hb=>Or.inl hb⟩
 | some ad=>
  have hnews:∀ j u,news[j]?=some u→w.cell? (ad.add j)=some u:=by
   intro j u hu
   rcases hsrc with hsrc | ⟨b,off,he,hsrc⟩
   ·subst hsrc;simp at hu
   ·cases he
    obtain ⟨hj,rfl⟩:=abU.1 hu;rw [add_lit];exact hsrc j hj
  obtain ⟨v',w',hr,h2,h3,h4⟩:=run_append_own (P:=P) w base t ty e i z size bytes ht hi hz hsize hby hzs hsz v n xs hown ad m c news hl hnews h1 h63 hbytes hbase;refine ⟨v',w',hr,h2,h3,?_⟩;subst hsize;subst hby;have hsm:n+m≤9223372036854775807:=by simp only [maxLen] at h63;omega
  rcases hown.2 with ⟨rfl,rfl⟩ | ⟨g,cap,cur,rfl,hbg,hg,hnc,hcm,hcs,htake⟩
  ·by_cases hm:m=0
   ·have:=h4.2 ⟨rfl,hm⟩
    subst this;intro b hb;cases hb
   ·rw [run_append_nil (P:=P) w t ty e i z ht hi hz ad m c news hl hnews (by omega) (by omega) (by simp only [Nat.zero_add] at hbytes;omega)] at hr
    cases hr
    intro b hb;cases hb;exact Or.inr (abJ _)
  ·by_cases hroom:n+m≤cap
   ·have hfit:n*i.size+news.length≤cur.size:=by rw [hl,hcs,← Nat.add_mul];exact abN _ hroom
    rw [run_append_room (P:=P) w t ty e i ht hi g n cap cur hg ad m c news hl hnews h1 hroom hfit] at hr;cases hr
    intro b hb;cases hb;exact Or.inl rfl
   ·have holds:∀ j u,xs[j]?=some u→w.cell? ((⟨g,0,none⟩:Addr).add j)=some u:=hown.cells (g:=g) rfl
    rw [run_append_grow (P:=P) w t ty e i z ht hi hz ⟨g,0,none⟩ n cap xs hown.1 holds ad m c news hl hnews (by omega) (by omega) (growslice_fits (by omega) hbytes)] at hr;cases hr
    intro b hb;cases hb;exact Or.inr (abJ _)
/-- A post about states. -/
abbrev Qs:=Exit→AS→Prop
def DQ(Q:Qs)(B0:BS)(w0:Wz):Exit→Act→World→Prop:=fun e a w=>∃ s,Q e s∧Kv s B0 w0 a w
/-- The operations l, of the region ops, from the state s on. -/
def AL(P:Program)(ops:Array Oper)(Q:Qs)(l:List Oper)(s:AS):Prop:=∀ B0 w0 a w,Kv s B0 w0 a w→wpList P ops (DQ Q B0 w0) l a w
def AS.put(s:AS)(d:Option Nat)(av:AV):AS:=match d with
 | some d=>⟨s.n,(d,av) ::s.sl,s.hp⟩
 | none=>s
/-- The slot is there (or there is none). -/
def kG(d:Option Nat)(n:Nat):Bool:=match d with
 | some d=>Nat.ble (d+1) n
 | none=>true
theorem nV{ρ:kL}{B:BS}{w:World}{sl:List (Nat×AV)}{a:Act}{n:Nat}(h:fD ρ B w sl a)(hn:a.tmps.size=n){d:Nat}(hd:d < n){av:AV}{v:Value}(hv:AR ρ B w av v):fD ρ B w ((d,av) ::sl) (a.put (some d) v):=by
 intro t kV ht;rw [aV] at ht;split at ht
 ·rename_i e
  cases ht
  subst e;exact ⟨v,by simp [Act.put,hn,hd],hv⟩
 ·rename_i e
  obtain ⟨u,h1,h2⟩:=h t kV ht;exact ⟨u,by simp [Act.put,Array.getElem?_setIfInBounds_ne e,h1],h2⟩
theorem ni{s:AS}{ρ:kL}{B0:BS}{w0:Wz}{w:World}{a:Act}(hc:eY ρ B0 w0 w s.hp)(hn:a.tmps.size=s.n)(hdf:a.defers= [])(hs:fD ρ (Bd ρ B0) w s.sl a){d:Option Nat}(hd:kG d s.n=true){av:AV}{v:Value}(hv:AR ρ (Bd ρ B0) w av v):
  Kv (s.put d av) B0 w0 (a.put d v) w:=by
 cases d with
 | none=>exact ⟨ρ,hc,hn,hdf,hs⟩
 | some d=>exact ⟨ρ,hc,(by show (a.tmps.setIfInBounds d v).size=s.n;simpa using hn),hdf,nV hs hn (ada hd) hv⟩
/-- Is the operation wanted? -/
def jC(ops:Array Oper)(s:AS)(o:Oper):Option Bool:=
 match o.guard with
 | none=>some true
 | some (j,want)=>match ops.toList[j]? with
  | some oj=>match oj.dst with
   | some d=>match lk s.sl d with
    | some (.d (.one (.v (.bool b))))=>some (b==want)
    | _=>none
   | none=>none
  | none=>none
theorem dZ{ops:Array Oper}{s:AS}{o:Oper}{b:Bool}{ρ:kL}{B:BS}{w:World}{a:Act}(h:jC ops s o=some b)(hs:fD ρ B w s.sl a):Region.wanted o (yielded ops a.tmps)=b:=by
 unfold jC at h;unfold Region.wanted;split at h
 ·rename_i hg;rw [hg];simpa using h
 ·rename_i j want hg
  rw [hg];split at h
  ·rename_i oj hj
   split at h
   ·rename_i d hd
    split at h
    ·rename_i b' hb
     cases h
     obtain ⟨v,hv,hr⟩:=hs d _ hb;obtain ⟨rfl,_⟩:=hr;have hj':ops[j]?=some oj:=by rw [← Array.getElem?_toList];exact hj
     simp only [yielded,hj',Option.bind_some,hd,hv];cases b' <;> cases want <;> rfl
    ·cases h
   ·cases h
  ·cases h
section
variable {P:Program} {ops:Array Oper} {Q:Qs} {o:Oper} {l:List Oper} {s:AS}
theorem lX{Qw:Exit→Act→World→Prop}{a:Act}{w w':World}{v:Value}(hw:Region.wanted o (yielded ops a.tmps)=true)(hr:(execOp a.eval o).run P w= .ok (.value v) w')(k:wpList P ops Qw l (a.put o.dst v) w'):wpList P ops Qw (o ::l) a w:=by
 unfold wpList;rw [if_pos hw];left;unfold Oper.wp;rw [hr];exact k
theorem JL{Qw:Exit→Act→World→Prop}{a:Act}{w w':World}(hw:Region.wanted o (yielded ops a.tmps)=true)(hr:(execOp a.eval o).run P w= .ok .skip w')(k:wpList P ops Qw l (a.put o.dst undef) w'):wpList P ops Qw (o ::l) a w:=by
 unfold wpList;rw [if_pos hw];left;unfold Oper.wp;rw [hr];exact k
theorem JK{Qw:Exit→Act→World→Prop}{a:Act}{w:World}{f:FuncId}{vs:Array Value}(hw:Region.wanted o (yielded ops a.tmps)=true)(hr:(execOp a.eval o).run P w= .ok (.enter f vs) w) 
  (k:Calls P f vs w fun e w'=>∃ v,e= .returned v∧wpList P ops Qw l (a.put o.dst v) w'):wpList P ops Qw (o ::l) a w:=by
 unfold wpList;rw [if_pos hw];left;unfold Oper.wp;rw [hr];refine k.mono ?_;rintro e w' ⟨v,rfl,h⟩;exact h
theorem ak(h:Q .normal s):AL P ops Q [] s:=fun B0 w0 a w hd=>⟨s,h,hd⟩
/-- The guard says no. -/
theorem mG(hg:jC ops s o=some false)(hd:kG o.dst s.n=true)(k:AL P ops Q l (s.put o.dst .dead)):AL P ops Q (o ::l) s:=by
 rintro B0 w0 a w ⟨ρ,hc,hn,hdf,hs⟩;unfold wpList;rw [if_neg (by rw [dZ hg hs];exact Bool.noConfusion)];exact k B0 w0 _ w (ni hc hn hdf hs hd trivial)
/-- A value. -/
theorem mV{T:TypeId→Option TI}(hT:zU P T)(av:AV)(h:jr T s o.op=some av)(k:AL P ops Q l (s.put o.dst av))(hg:jC ops s o=some true:=by rfl)(hd:kG o.dst s.n=true:=by rfl):AL P ops Q (o ::l) s:=by
 rintro B0 w0 a w ⟨ρ,hc,hn,hdf,hs⟩;obtain ⟨v,hr,hv⟩:=Bz hT hs hc (fun _ _ h=>h) h;exact lX (dZ hg hs) hr (k B0 w0 _ w (ni hc hn hdf hs hd hv))
/-- A row written out. -/
theorem mB{T:TypeId→Option TI}(hT:zU P T)(av:AV)(h:evB T s o.op=some av)(k:AL P ops Q l (s.put o.dst av))(hg:jC ops s o=some true:=by rfl)(hd:kG o.dst s.n=true:=by rfl):AL P ops Q (o ::l) s:=by
 rintro B0 w0 a w ⟨ρ,hc,hn,hdf,hs⟩;obtain ⟨v,w',hr,hb,hv⟩:=MW hT hs hc h;have fQ:fD ρ (Bd ρ B0) w' s.sl a:=fun t av ht=>let ⟨u,h1,h2⟩:=hs t av ht;⟨u,h1,h2.below hb⟩
 exact lX (dZ hg hs) hr (k B0 w0 _ w' (ni (hc.below hb) hn hdf fQ hd hv))
def AS.mk'(s:AS)(d:Nat)(ob:AO):AS:=⟨s.n,(d,ob.av d) ::s.sl,(d,ob) ::s.hp⟩
/-- An object is made: its name is the slot's. -/
theorem mN{T:TypeId→Option TI}(hT:zU P T)(ob:AO)(h:Wu T s o.op=some ob){d:Nat}(hdst:o.dst=some d)(hfr:lk s.hp d=none)(k:AL P ops Q l (s.mk' d ob))(hg:jC ops s o=some true:=by rfl)(hd:kG (some d) s.n=true:=by rfl):AL P ops Q (o ::l) s:=by
 rintro B0 w0 a w ⟨ρ,hc,hn,hdf,hs⟩;obtain ⟨v,w',hr,hb,hv,ho⟩:=Na hT hs hc h;have hρ:ρ d=none:=by
  cases hρ:ρ d with
  | none=>rfl
  | some u=>obtain ⟨ob',h1,_⟩:=hc.obj d u hρ;rw [hfr] at h1;cases h1
 have dX:=ho (Bd (up ρ d v) B0) (vk hρ hv);have hc':eY (up ρ d v) B0 w0 w' ((d,ob) ::s.hp):=hc.new hρ hb hv (fun k ob hk hne=>by rw [aV,if_neg (fun e=>hne e.symm)];exact hk) (by rw [aV,if_pos rfl]) dX;have fQ:fD (up ρ d v) (Bd (up ρ d v) B0) w' s.sl a:=fun t av ht=>let ⟨u,h1,h2⟩:=hs t av ht;⟨u,h1,h2.new hρ hb hv⟩
 refine lX (dZ hg hs) hr (k B0 w0 _ w' ?_);rw [hdst];exact ⟨_,hc',(by show (a.tmps.setIfInBounds d v).size=s.n;simpa using hn),hdf,nV fQ hn (ada hd) (AO.CV dX (by simp [up]))⟩
/-- A store into an object. -/
theorem mS{T:TypeId→Option TI}(hT:zU P T)(id:Nat)(ob:AO)(h:Xt T s o.op=some (id,ob))(k:AL P ops Q l (AS.put ⟨s.n,s.sl,(id,ob) ::s.hp⟩ o.dst .dead))(hg:jC ops s o=some true:=by rfl)(hd:kG o.dst s.n=true:=by rfl):AL P ops Q (o ::l) s:=by
 rintro B0 w0 a w ⟨ρ,hc,hn,hdf,hs⟩;obtain ⟨w',hr,hc',hk⟩:=SV hT hs hc h;have fQ:fD ρ (Bd ρ B0) w' s.sl a:=fun t av ht=>let ⟨u,h1,h2⟩:=hs t av ht;⟨u,h1,AR.mv hk (fun _ _ hB=>hB) (fun _ _=>rfl) h2⟩
 exact JL (dZ hg hs) hr (k B0 w0 _ w' (ni (s:=⟨s.n,s.sl,(id,ob) ::s.hp⟩) hc' hn hdf fQ hd trivial))
/-- WHAT A FUNCTION ANSWERS to data: in whatever memory, keeping out of B. -/
structure aC(P:Program)(f:FuncId)(args:List DV)(res:AV):Prop where
 en:∀ vs w,(callFunc f vs).run P w= .ok (.enter f vs) w
 go:∀ (B:BS) (w:World) (vs:List Value),(∀ b,B b→b < w.heap.size)→AA B w args vs→Calls P f vs.toArray w fun e w'=>∃ v,e= .returned v∧Below w.heap.size w w'∧AR (fun _=>none) B w' res v
theorem AR.lift{ρ:kL}{B:BS}{w:World}:∀ {av:AV} {v:Value},AR (fun _=>none) B w av v→AR ρ B w av v
 | .d x,_,h=>h
 | .ji xs,_,h=>h
 | .ptr id off,_,⟨g,h,_⟩=>by cases h
 | .own id,_,⟨h,_⟩=>by cases h
 | .dW id sz i j,_,⟨g,n,cap,h,_⟩=>by cases h
 | .lim id k,_,⟨_,v,h,_⟩=>by cases h
 | .qL id _,_,⟨_,h,_⟩=>by cases h
 | .wit id,_,⟨_,h⟩=>by cases h
 | .dead,_,_=>trivial
def qQ(s:AS):List Operand→Option (List DV)
 | []=>some []
 | x ::r=>match dH s x,qQ s r with
  | some (.d d),some ds=>some (d ::ds)
  | _,_=>none
theorem PY{ρ:kL}{B:BS}{w:World}{a:Act}(hs:fD ρ B w s.sl a):∀ (l:List Operand) (ds:List DV),qQ s l=some ds→AA B w ds (l.map a.eval)
 | [],ds,h=>by
  simp only [qQ,Option.some.injEq] at h;subst h;trivial
 | x ::r,ds,h=>by
  simp only [qQ] at h;split at h
  ·rename_i d ps' hx hr
   cases h
   exact ⟨bQ hs hx,PY hs r ps' hr⟩
  ·cases h
theorem AA.app{B:BS}{w:World}:∀ {ls ms:List DV} {cs ds:List Value},AA B w ls cs→AA B w ms ds→AA B w (ls ++ms) (cs ++ds)
 | [],_,[],_,_,k=>k
 | _ ::_,_,_ ::_,_,h,k=>⟨h.1,AA.app h.2 k⟩
def KL(caps:Nat→Lf):Nat→Nat→List DV
 | _,0=> []
 | o,n+1=> .one (caps o) ::KL caps (o+1) n
theorem O6{B:BS}{w:World}{caps:Nat→Lf}{vs:Array Value}:∀ (n o:Nat),vs.size=o+n→(∀ j,o≤j→j < o+n→∃ x,vs[j]?=some x∧dY B w (caps j) x)→AA B w (KL caps o n) (vs.toList.drop o)
 | 0,o,hs,_=>by
  rw [List.drop_eq_nil_of_le (by simp;omega)];trivial
 | n+1,o,hs,h=>by
  obtain ⟨x,hx,hr⟩:=h o (abJ _) (by omega);have hlt:o < vs.toList.length:=by simp;omega
  rw [List.drop_eq_getElem_cons hlt];refine ⟨?_,O6 n (o+1) (by omega) (fun j h1 h2=>h j (by omega) (by omega))⟩;have:vs.toList[o]=x:=by
   have:=(aiI.1 hx).2;simpa using this
  rw [this];exact hr
/-- The function that is called, with what it has caught. -/
def J9(s:AS):Callee→Option (FuncId×List DV)
 | .value x=>match dH s x with
  | some (.d (.one (.fn f n caps)))=>some (f,KL caps 0 n)
  | _=>none
 | _=>none
def iw:Op→Option Call
 | .call c=>some c
 | _=>none
theorem wO{c:Call}{f:FuncId}{cap ds:List DV}{ρ:kL}{B:BS}{w:World}{a:Act}(hs:fD ρ B w s.sl a)(hc:iw o.op=some c)(hf:J9 s c.callee=some (f,cap))(ha:qQ s c.args.toList=some ds) 
  (hen:∀ vs w,(callFunc f vs).run P w= .ok (.enter f vs) w):∃ vs:List Value,AA B w (ds ++cap) vs∧(execOp a.eval o).run P w= .ok (.enter f vs.toArray) w:=by
 have hop:o.op= .call c:=by
  unfold iw at hc;split at hc
  ·rename_i h;cases hc;exact h
  ·cases hc
 unfold J9 at hf;split at hf
 ·rename_i x uP
  split at hf
  ·rename_i f' n caps hx
   cases hf
   obtain ⟨vs,hxe,hsz,hj⟩:=(bQ hs hx:dY _ _ _ _);have hcd:=O6 (B:=B) (w:=w) (caps:=caps) (vs:=vs) n 0 (by omega) (fun j _ h2=>hj j (by omega));refine ⟨c.args.toList.map a.eval ++vs.toList,(PY hs _ _ ha).app (by simpa using hcd),?_⟩;unfold execOp;rw [hop];simp only [resolve,uP,Deferred.ofValue,hxe,Sem.run_bind,Sem.run_pure,Result.andThen_ok,invoke,hen];congr 2;rw [← Array.toList_inj];simp
  ·cases hf
 ·cases hf
/-- A CALL, by what its function answers. -/
theorem mC{c:Call}{f:FuncId}{cap ds:List DV}{res:AV}(h:aC P f (ds ++cap) res)(hc:iw o.op=some c)(hf:J9 s c.callee=some (f,cap))(ha:qQ s c.args.toList=some ds)(k:AL P ops Q l (s.put o.dst res)) 
  (hg:jC ops s o=some true:=by rfl) (hd:kG o.dst s.n=true:=by rfl):AL P ops Q (o ::l) s:=by
 rintro B0 w0 a w ⟨ρ,hcr,hn,hdf,hs⟩;obtain ⟨vs,hvs,hr⟩:=wO hs hc hf ha h.en;refine JK (dZ hg hs) hr ((h.go (Bd ρ B0) w vs hcr.MN hvs).mono ?_);rintro e w' ⟨v,rfl,hb,hv⟩;refine ⟨v,rfl,k B0 w0 _ w' ?_⟩;have fQ:fD ρ (Bd ρ B0) w' s.sl a:=fun t av ht=>let ⟨u,h1,h2⟩:=hs t av ht;⟨u,h1,h2.below hb⟩
 exact ni (hcr.below hb) hn hdf fQ hd hv.lift
end
/-- The code c from the state s on. -/
def AW(P:Program)(c:Code)(Q:Qs)(s:AS):Prop:=∀ B0 w0 a w,Kv s B0 w0 a w→c.wp P (DQ Q B0 w0) a w
/-- s' says no more than s. -/
def Wk(s s':AS):Prop:=∀ B0 w0 a w,Kv s B0 w0 a w→Kv s' B0 w0 a w
def XA(K:AS→Prop)(Q:Qs):Qs
 | .normal,s=>K s
 | e,s=>Q e s
def inB(id:Nat)(Q:Qs):Qs
 | .exit id',s=>if id'=id then Q .normal s else Q (.exit id') s
 | e,s=>Q e s
section
variable {P:Program} {Q:Qs} {s:AS}
theorem AW.wk{c:Code}{s':AS}(h:Wk s s')(k:AW P c Q s'):AW P c Q s:=fun B0 w0 a w hd=>k B0 w0 a w (h B0 w0 a w hd)
theorem AL.wk{ops:Array Oper}{l:List Oper}{s':AS}(h:Wk s s')(k:AL P ops Q l s'):AL P ops Q l s:=fun B0 w0 a w hd=>k B0 w0 a w (h B0 w0 a w hd)
theorem au{x y:Code}(h:AW P x (XA (fun s=>AW P y Q s) Q) s):AW P (.seq x y) Q s:=by
 intro B0 w0 a w hd;refine wp_seq (Code.wp_mono (fun e a w hq=>?_) (h B0 w0 a w hd));obtain ⟨s',h1,h2⟩:=hq;cases e with
 | normal=>exact h1 B0 w0 a w h2
 | _=>exact ⟨s',h1,h2⟩
/-- The ways through x meet again in one of the states S i. -/
theorem Ym{ι:Type}{x y:Code}(S:ι→AS)(I:ι→Prop)(h:AW P x (XA (fun s=>∃ i,I i∧Wk s (S i)) Q) s)(k:∀ i,I i→AW P y Q (S i)):AW P (.seq x y) Q s:=by
 intro B0 w0 a w hd;refine wp_seq (Code.wp_mono (fun e a w hq=>?_) (h B0 w0 a w hd));obtain ⟨s',h1,h2⟩:=hq;cases e with
 | normal=>obtain ⟨i,hi,hw⟩:=h1;exact k i hi B0 w0 a w (hw B0 w0 a w h2)
 | _=>exact ⟨s',h1,h2⟩
theorem aF(h:Q .normal s):AW P .skip Q s:=fun B0 w0 a w hd=>wp_skip ⟨s,h,hd⟩
theorem aH(h:Q .ret s):AW P .ret Q s:=fun B0 w0 a w hd=>wp_ret ⟨s,h,hd⟩
theorem dP{id:Nat}(h:Q (.exit id) s):AW P (.exit id) Q s:=fun B0 w0 a w hd=>wp_exit ⟨s,h,hd⟩
theorem aI{id:Nat}{c:Code}(h:AW P c (inB id Q) s):AW P (.block id c) Q s:=by
 intro B0 w0 a w hd;refine wp_block (Code.wp_mono (fun e a w hq=>?_) (h B0 w0 a w hd));obtain ⟨s',h1,h2⟩:=hq;cases e with
 | exit id'=>
  unfold inB at h1;unfold Exit.inBlock;simp only at h1 ⊢;split
  ·rename_i e;rw [if_pos e] at h1;exact ⟨s',h1,h2⟩
  ·rename_i e;rw [if_neg e] at h1;exact ⟨s',h1,h2⟩
 | _=>exact ⟨s',h1,h2⟩
theorem aW{c:Operand}{x y:Code}{b:Bool}(hc:dH s c=some (.d (.one (.v (.bool b)))))(ht:b=true→AW P x Q s)(hf:b=false→AW P y Q s):AW P (.cond c x y) Q s:=by
 intro B0 w0 a w hd;have hd':=hd;obtain ⟨ρ,_,_,_,hs⟩:=hd;have:=(bQ hs hc:dY _ _ _ _).1;exact wp_cond_split this (fun e=>ht e B0 w0 a w hd') (fun e=>hf e B0 w0 a w hd')
theorem aA{id:Nat}{l:List Oper}(h:AL P l.toArray Q l s):AW P (.region id l.toArray false) Q s:=fun B0 w0 a w hd=>wp_region_lit (h B0 w0 a w hd)
/-- A LOOP: in each round the state is one of the S i, and μ falls. -/
theorem dU{ι:Type}{c:Code}(S:ι→AS)(I:ι→Prop)(μ:ι→Nat)(i0:ι)(h0:I i0)(hs:Wk s (S i0))(round:∀ i,I i→AW P c (XA (fun s'=>∃ i',I i'∧μ i' < μ i∧Wk s' (S i')) Q) (S i)):AW P (.loop c) Q s:=by
 intro B0 w0 a w hd b k cs;have key:∀ n i a w,μ i=n→I i→Kv (S i) B0 w0 a w→∃ e a' w',DQ Q B0 w0 e a' w'∧Arrives P (lone (b.at a (.code c :: .inLoop c ::k)) cs w) b k cs e a' w':=by
  intro n
  induction n using Nat.strongRecOn with
  | _ n ih=>
   intro i a w hn hI hden;obtain ⟨e,a1,w1,⟨s',hq,KZ⟩,harr⟩:=round i hI B0 w0 a w hden b (.inLoop c ::k) cs;cases e with
   | normal=>
    obtain ⟨i',hI',hlt,hw⟩:=hq;obtain ⟨e2,a2,w2,hq2,akp⟩:=ih (μ i') (hn▸hlt) i' a1 w1 rfl hI' (hw _ _ _ _ KZ);exact ⟨e2,a2,w2,hq2,.of_steps (Steps.trans harr (.one step_inLoop)) akp⟩
   | exit id=>exact ⟨_,a1,w1,⟨s',hq,KZ⟩,.pass (x:= .inLoop c) rfl (fun _ _=> .inl (by simp)) harr⟩
   | goto l=>exact ⟨_,a1,w1,⟨s',hq,KZ⟩,.pass (x:= .inLoop c) rfl (fun _ _=> .inl (by simp)) harr⟩
   | ret=>exact ⟨_,a1,w1,⟨s',hq,KZ⟩,.pass (x:= .inLoop c) rfl (fun _ _=> .inl (by simp)) harr⟩
   | panic ch=>exact ⟨_,a1,w1,⟨s',hq,KZ⟩,.pass (x:= .inLoop c) rfl (fun _ _=> .inl (by simp)) harr⟩
   | outgrown=>exact ⟨_,a1,w1,⟨s',hq,KZ⟩,.pass (x:= .inLoop c) rfl (fun _ _=> .inl (by simp)) harr⟩
 obtain ⟨e,a',w',hq,harr⟩:=key _ i0 a w rfl h0 (hs _ _ _ _ hd);exact ⟨e,a',w',hq,.of_steps (.one step_loop) harr⟩
end
/-! ### Less is known -/
def AV.le(a b:AV):Prop:=∀ ρ B w v,AR ρ B w a v→AR ρ B w b v
def AO.le(a b:AO):Prop:=∀ B w0 w v,OR B w0 w a v→OR B w0 w b v
theorem AV.le.rfl{a:AV}:AV.le a a:=fun _ _ _ _ h=>h
theorem AO.le.rfl{a:AO}:AO.le a a:=fun _ _ _ _ h=>h
def Has(sl:List (Nat×AV))(p:Nat×AV):Prop:=∃ av,lk sl p.1=some av∧AV.le av p.2
def abY(hp:List (Nat×AO))(p:Nat×AO):Prop:=∃ ob,lk hp p.1=some ob∧AO.le ob p.2
theorem hs{sl:List (Nat×AV)}{t:Nat}{av:AV}(h:lk sl t=some av):Has sl (t,av):=⟨av,h,AV.le.rfl⟩
theorem ho{hp:List (Nat×AO)}{t:Nat}{ob:AO}(h:lk hp t=some ob):abY hp (t,ob):=⟨ob,h,AO.le.rfl⟩
def lM{α:Type}(p:α→Prop):List α→Prop
 | []=>True
 | x ::l=>p x∧lM p l
theorem lM.get{α:Type}{p:α→Prop}:∀ {l:List α},lM p l→∀ x∈l,p x
 | [],_,x,hx=>by simp at hx
 | y ::l,h,x,hx=>by
  rcases afr.1 hx with rfl | hx
  ·exact h.1
  ·exact lM.get h.2 x hx
/-- The objects that a slot speaks of are there. -/
def AV.ahT(hp:List (Nat×AO)):AV→Bool
 | .ptr id _ | .own id | .dW id _ _ _ | .lim id _ | .qL id _ | .wit id=>(lk hp id).isSome
 | _=>true
def CS(hp:List (Nat×AO)):List (Nat×AV)→Bool
 | []=>true
 | (_,av) ::l=>bif av.ahT hp then CS hp l else false
theorem KI{hp:List (Nat×AO)}:∀ {l:List (Nat×AV)},CS hp l=true→∀ t av,lk l t=some av→av.ahT hp=true
 | [],_,t,av,h=>by cases h
 | (k,x) ::l,ha,t,av,h=>by
  unfold CS at ha;rw [aV] at h;cases hx:AV.ahT hp x with
  | false=>rw [hx] at ha;cases ha
  | true=>
   rw [hx] at ha;split at h
   ·cases h;exact hx
   ·exact KI ha t av h
theorem wk{s:AS}{n:Nat}{sl:List (Nat×AV)}{hp:List (Nat×AO)}(hn:s.n=n)(hsl:lM (Has s.sl) sl)(IL:lM (abY s.hp) hp)(hok:CS hp sl=true):Wk s ⟨n,sl,hp⟩:=by
 rintro B0 w0 a w ⟨ρ,hc,hsz,hdf,hs⟩
 let ρ':kL:=fun id=>if (lk hp id).isSome then ρ id else none
 have hsub:∀ id v,ρ' id=some v→ρ id=some v:=by
  intro id v h;simp only [ρ'] at h;split at h
  ·exact h
  ·cases h
 have hB:∀ b,Bd ρ' B0 b→Bd ρ B0 b:=by
  rintro b (h | ⟨id,v,h1,h2⟩)
  ·exact Or.inl h
  ·exact Or.inr ⟨id,v,hsub id v h1,h2⟩
 have hK:ku (Bd ρ B0) w w:=⟨abJ _,fun _ _ _=>rfl⟩;refine ⟨ρ',⟨hc.bel,hc.b0,fun id v h=>?_,fun id id' v v' b h1 h2 h3 h4=>hc.dist id id' v v' b (hsub _ _ h1) (hsub _ _ h2) h3 h4⟩,hsz.trans hn,hdf,fun t av ht=>?_⟩
 ·have h':=hsub id v h
  obtain ⟨ob,h1,h2⟩:=hc.obj id v h';simp only [ρ'] at h;split at h
  ·rename_i hso
   obtain ⟨ob',akT⟩:=aiY.1 hso;obtain ⟨ob2,h3,h4⟩:=IL.get _ (kK akT);simp only at h3;rw [h1] at h3;cases h3
   exact ⟨ob',akT,h4 _ _ _ _ (h2.mv hK (fun b _ hb=>hB b hb) (fun _ _=>rfl))⟩
  ·cases h
 ·obtain ⟨kV,h1,h2⟩:=hsl.get _ (kK ht)
  simp only at h1 h2;obtain ⟨v,h3,h4⟩:=hs t kV h1;refine ⟨v,h3,?_⟩;have h5:=h2 _ _ _ _ h4;refine AR.mv hK (fun b _ hb=>hB b hb) (fun id aS=>?_) h5;have hok':=KI hok t av ht;simp only [ρ'];have:(lk hp id).isSome=true:=by
   cases av with
   | ptr i o=>have:i=id:=abO aS;subst this;exact hok'
   | own i=>have:i=id:=abO aS;subst this;exact hok'
   | dW i _ _ _=>have:i=id:=abO aS;subst this;exact hok'
   | lim i _=>have:i=id:=abO aS;subst this;exact hok'
   | wit i=>have:i=id:=abO aS;subst this;exact hok'
   | qL i _=>have:i=id:=abO aS;subst this;exact hok'
   | _=>cases aS
  rw [if_pos this]
/-! ### The answer -/
def Gl(T:TypeId→Option TI)(s:AS):List ResultVar→Option (List DV)
 | []=>some []
 | .tmp t ::r=>match lk s.sl t,Gl T s r with
  | some (.d d),some ds=>some (d ::ds)
  | _,_=>none
 | .cell t ty ::r=>match T ty,lk s.sl t with
  | some ti,some (.ptr id off)=>match lk s.hp id with
   | some (.box _ cs)=>match D5 ti cs off,Gl T s r with
    | some d,some ds=>some (d ::ds)
    | _,_=>none
   | _=>none
  | _,_=>none
def LJ:List DV→AV
 | [d]=> .d d
 | ds=> .ji ds
def Xz(tmps:Array Value):ResultVar→Sem Value
 | .tmp t=>pure (tmps.getD t undef)
 | .cell a t=>do loadVar t (← asAddr (tmps.getD a undef))
def TQ:List Value→Value
 | [v]=>v
 | vs=> .tuple vs.toArray
theorem Hf{P:Program}{T:TypeId→Option TI}(hT:zU P T){s:AS}{ρ:kL}{B0:BS}{w0:Wz}{w:World}{a:Act}(hc:eY ρ B0 w0 w s.hp)(hs:fD ρ (Bd ρ B0) w s.sl a):∀ (l:List ResultVar) (ds:List DV),Gl T s l=some ds→
  ∃ vs:List Value,(l.mapM (Xz a.tmps)).run P w= .ok vs w∧AA (Bd ρ B0) w ds vs
 | [],ds,h=>by
  simp only [Gl,Option.some.injEq] at h;subst h;exact ⟨[],rfl,Pe⟩
 | .tmp t ::r,ds,h=>by
  simp only [Gl] at h;split at h
  ·rename_i d ds' hl hr
   cases h
   obtain ⟨vs,h1,h2⟩:=Hf hT hc hs r ds' hr;obtain ⟨v,h3,h4⟩:=hs t _ hl;refine ⟨v ::vs,?_,h4,h2⟩;have hv:(Xz a.tmps (.tmp t)).run P w= .ok v w:=by simp [Xz,Array.getD_eq_getD_getElem?,h3]
   rw [List.mapM_cons,Sem.run_bind,hv,Result.andThen_ok,Sem.run_bind,h1];rfl
  ·cases h
 | .cell t ty ::r,ds,h=>by
  simp only [Gl] at h;split at h
  ·rename_i ti id off hti hl
   split at h
   ·rename_i bt cs hob
    split at h
    ·rename_i d ds' hp hr
     cases h
     obtain ⟨vs,h1,h2⟩:=Hf hT hc hs r ds' hr;obtain ⟨v,h3,g,h4,rfl⟩:=hs t _ hl;obtain ⟨ob,h5,h6⟩:=hc.obj id _ h4;rw [hob] at h5;cases h5
     obtain ⟨g',us,he,_,hb,hul⟩:=h6;cases he
     obtain ⟨u,hu,hur⟩:=Je (hT _ _ hti) hp hul hb;refine ⟨u ::vs,?_,hur,h2⟩;have hu':(loadVar ty ⟨g,off,none⟩).run P w= .ok u w:=by simpa [Instr.loadAt,Instr.sureAddr] using hu
     have hv:(Xz a.tmps (.cell t ty)).run P w= .ok u w:=by simp [Xz,Array.getD_eq_getD_getElem?,h3,asAddr,hu']
     rw [List.mapM_cons,Sem.run_bind,hv,Result.andThen_ok,Sem.run_bind,h1];rfl
    ·cases h
   ·cases h
  ·cases h
theorem zM{P:Program}{fn:Func}{tmps:Array Value}{w:World}{vs:List Value}(h:(fn.results.toList.mapM (Xz tmps)).run P w= .ok vs w):(results fn tmps).run P w= .ok (TQ vs) w:=by
 have e:results fn tmps=(do let vs ← fn.results.mapM (Xz tmps);pure (if h:vs.size=1 then vs[0] else .tuple vs)):=by
  unfold results;congr 1
 rw [e,Sem.run_bind,Array.mapM_eq_mapM_toList,Sem.run_map,h];simp only [Result.andThen_ok,Sem.run_pure]
 match vs with
 | []=>rfl
 | [v]=>rfl
 | v ::u ::r=>simp [TQ]
theorem aaW{B:BS}{w:World}{ρ:kL}:∀ {ds:List DV} {vs:List Value},AA B w ds vs→AR ρ B w (LJ ds) (TQ vs)
 | [],[],h=>⟨[],rfl,h⟩
 | [d],[v],h=>h.1
 | d ::e ::r,v ::u ::vs,h=>⟨v ::u ::vs,rfl,h⟩
 | [d],[],h=>h.elim
 | [d],v ::u ::vs,h=>h.2.elim
 | d ::e ::r,[v],h=>h.2.elim
 | d ::e ::r,[],h=>h.elim
 | [],v ::vs,h=>h.elim
/-- The post of a function's body. -/
def XJ(T:TypeId→Option TI)(rs:List ResultVar)(r:AV):Qs
 | .normal,s | .ret,s=>∃ es,Gl T s rs=some es∧AV.le (LJ es) r
 | _,_=>False
def params:Nat→List DV→List (Nat×AV)
 | _,[]=> []
 | i,d ::ds=>(i,.d d) ::params (i+1) ds
theorem Fh{B:BS}{w:World}{ρ:kL}:∀ {ds:List DV} {vs:List Value} {i t:Nat} {av:AV},AA B w ds vs→lk (params i ds) t=some av→∃ k v,t=i+k∧vs[k]?=some v∧AR ρ B w av v
 | [],[],i,t,av,_,h=>by cases h
 | d ::ds,v ::vs,i,t,av,hd,h=>by
  unfold params at h;rw [aV] at h;split at h
  ·rename_i e
   cases h
   exact ⟨0,v,by omega,rfl,hd.1⟩
  ·obtain ⟨k,u,h1,h2,h3⟩:=Fh hd.2 h
   exact ⟨k+1,u,by omega,by simpa using h2,h3⟩
theorem ajG{P : Program}{T : TypeId → Option TI}(hT : zU P T){f : FuncId}{fn : Func}{c : Code}{args : List DV}{r : AV}(hf : P.funcs[f]? = some fn)(hb : fn.body = some c)(hnm : (fn.name == "runtime.NumGoroutine") = false)(hlen : Nat.ble args.length fn.ntmps = true) 
  (h:AW P c (XJ T fn.results.toList r) ⟨fn.ntmps,params 0 args,[]⟩):aC P f args r:=by
 refine ⟨fun vs w=>?_,fun B w vs hB hvs=>?_⟩
 ·have hnm' : ¬ fn.name = "runtime.NumGoroutine" := by simpa using hnm
  simp [callFunc,hf,hb,hnm']
 ·refine calls_of_wp hf hb ?_
  have hle:=ada hlen;have hvl:=hvs.len;have hden:Kv ⟨fn.ntmps,params 0 args,[]⟩ B ⟨w,fun _=>False⟩ {tmps:=vs.toArray ++Array.replicate (fn.ntmps-vs.toArray.size) undef,defers:= []} w:=by
   have hBd:∀ b,b < w.heap.size→Bd (fun _=>none) B b→B b:=by
    rintro b _ (h | ⟨_,_,h,_⟩)
    ·exact h
    ·cases h
   refine ⟨fun _=>none,⟨JW.refl _ _,(fun b hb=>⟨hB b hb,fun h=>h⟩),(fun _ _ h=>by cases h),(fun _ _ _ _ _ h=>by cases h)⟩,by simp;omega,rfl,fun t av ht=>?_⟩;have hvs':AA (Bd (fun _=>none) B) w args vs:=hvs.mv ⟨abJ _,fun _ _ _=>rfl⟩ hBd;obtain ⟨k,v,h1,h2,h3⟩:=Fh (ρ:=fun _=>none) hvs' ht;refine ⟨v,?_,h3⟩;have hk:=(abU.1 h2).1;rw [h1,Nat.zero_add,Array.getElem?_append_left (by simpa using hk)];simpa using h2
  refine Code.wp_mono (fun e a w' hq=>?_) (h B ⟨w,fun _=>False⟩ _ w hden);obtain ⟨s',hq,ρ,hc,hn,hdf,hs⟩:=hq;have fin:(∃ es,Gl T s' fn.results.toList=some es∧AV.le (LJ es) r)→∃ v,(results fn a.tmps).run P w'= .ok v w'∧∃ u,Ending.returned v= .returned u∧Below w.heap.size w w'∧AR (fun _=>none) B w' r u:=by
   rintro ⟨es,h1,h2⟩;obtain ⟨us,h3,h4⟩:=Hf hT hc hs _ _ h1;refine ⟨_,zM h3,_,rfl,hc.bel.below (fun _ h=>h),h2 _ _ _ _ (aaW ?_)⟩;exact h4.mv ⟨abJ _,fun _ _ _=>rfl⟩ (fun b _ hb=>Or.inl hb)
  cases e with
  | normal=>obtain ⟨v,h1,h2⟩:=fin hq;exact ⟨hdf,v,h1,h2⟩
  | ret=>obtain ⟨v,h1,h2⟩:=fin hq;exact ⟨hdf,v,h1,h2⟩
  | exit id=>exact hq.elim
  | goto l=>exact hq.elim
  | panic ch=>exact hq.elim
  | outgrown=>exact hq.elim
namespace Am
def jy(o:Oper)(j:Nat):Bool:=o.after.toList.any fun e=>Region.binds .any e && e.on==j
def valOf(o:Oper)(a:Act):Value:=match o.dst with | some d=>(a.tmps[d]?).getD undef | none=>undef
/-- As the guard says. -/
def IfW(b:Bool)(p q:Prop):Prop:=(b=true→p)∧(b=false→q)
theorem gX{b:Bool}{p q:Prop}(h:b=true)(hp:p):IfW b p q:=⟨fun _=>hp,fun h'=>absurd (h.symm.trans h') Bool.noConfusion⟩
theorem DF{b:Bool}{p q:Prop}(h:b=false)(hq:q):IfW b p q:=⟨fun h'=>absurd (h.symm.trans h') Bool.noConfusion,fun _=>hq⟩
def fB:List Oper→Nat→Act→(Nat→Value)→Act
 | [],_,a,_=>a
 | o ::l,k,a,vs=>fB l (k+1) (a.put o.dst (vs k)) vs
theorem Jw:∀ (l:List Oper) (k:Nat) (a:Act) (vs:Nat→Value) (o:Oper),fB (l ++ [o]) k a vs=(fB l k a vs).put o.dst (vs (k+l.length))
 | [],k,a,vs,o=>by simp [fB]
 | x ::l,k,a,vs,o=>by
  show fB (l ++ [o]) (k+1) (a.put x.dst (vs k)) vs=(fB l (k+1) (a.put x.dst (vs k)) vs).put o.dst (vs (k+(l.length+1)))
  rw [Jw l (k+1) _ vs o,show k+1+l.length=k+(l.length+1) by omega]
/-- The frame: what the operations of D have written, all else as it was. -/
structure yJ(ops:Array Oper)(n:Nat)(a0:Act)(D:Nat→Prop)(vs:Nat→Value)(a:Act):Prop where
 size:a.tmps.size=a0.tmps.size
 defs:a.defers=a0.defers
 wr:∀ k o d,k < n→ops[k]?=some o→D k→o.dst=some d→a.tmps[d]?=some (vs k)
 no:∀ t,(∀ k o,k < n→ops[k]?=some o→D k→o.dst≠some t)→a.tmps[t]?=a0.tmps[t]?
/-- The operations' own destinations: within the frame, no two alike; what is looked at is waited for. -/
def adU(ops:Array Oper)(n N:Nat):Bool:=
 (List.range n).all fun i=>match ops[i]? with
  | none=>false
  | some oi=>(match oi.dst with | some d=>decide (d < N) | none=>true) &&
   oi.after.all (fun e=> !Region.binds .any e || decide (e.on < i)) &&
   (List.range n).all fun k=>match ops[k]? with
    | none=>false
    | some ok=>k==i || (match ok.dst with
     | some d=>(!(oi.looksAt ops).contains d || (decide (k < i) && jy oi k) || (decide (i < k) && jy ok i)) && oi.dst !=some d
     | none=>true)
def MS(ops:Array Oper)(n:Nat):Bool:=(List.range n).all fun i=>match ops[i]? with
 | none=>false
 | some oi=>oi.dst.isSome
theorem Di{ops:Array Oper}{n:Nat}(h:MS ops n=true):∀ i o,i < n→ops[i]?=some o→∃ d,o.dst=some d:=by
 intro i o hi ho;have h1:=afj.1 h i (ag5.2 hi);rw [ho] at h1;exact aiY.1 h1
structure Uj(ops:Array Oper)(n N:Nat):Prop where
 dst:∀ i o d,i < n→ops[i]?=some o→o.dst=some d→d < N
 back:∀ i o e,i < n→ops[i]?=some o→e∈o.after→Region.binds .any e=true→e.on < i
 look:∀ i k oi ok d,i < n→k < n→ops[i]?=some oi→ops[k]?=some ok→k≠i→ok.dst=some d→d∈oi.looksAt ops→(k < i∧jy oi k=true)∨(i < k∧jy ok i=true)
 one:∀ i k oi ok d,i < n→k < n→ops[i]?=some oi→ops[k]?=some ok→k≠i→ok.dst=some d→oi.dst≠some d
theorem Ec{ops:Array Oper}{n N:Nat}(h:adU ops n N=true):Uj ops n N:=by
 have key:∀ i o,i < n→ops[i]?=some o→(∀ d,o.dst=some d→d < N)∧(∀ e∈o.after,Region.binds .any e=true→e.on < i)∧
   ∀ k ok d,k < n→ops[k]?=some ok→k≠i→ok.dst=some d→(d∈o.looksAt ops→(k < i∧jy o k=true)∨(i < k∧jy ok i=true))∧o.dst≠some d:=by
  intro i o hi ho;have h1:=afj.1 h i (ag5.2 hi);rw [ho] at h1;simp only [Bool.and_eq_true] at h1;obtain ⟨⟨h2,h3⟩,h4⟩:=h1;refine ⟨?_,?_,?_⟩
  ·intro d hd
   rw [hd] at h2;simpa using h2
  ·intro e he hb
   have:=Array.all_eq_true_iff_forall_mem.1 h3 e he;simpa [hb] using this
  ·intro k ok d hk hok hne hd
   have h5:=afj.1 h4 k (ag5.2 hk);rw [hok] at h5;simp only [hd,Bool.or_eq_true,Bool.and_eq_true,beq_iff_eq,hne,false_or,Bool.not_eq_true',decide_eq_true_eq,bne_iff_ne] at h5;refine ⟨fun hm=>?_,h5.2⟩;rcases h5.1 with (h6 | h6) | h6
   ·have:(o.looksAt ops).contains d=true:=by simpa using hm
    rw [this] at h6;cases h6
   ·exact Or.inl h6
   ·exact Or.inr h6
 exact ⟨fun i o d hi ho hd=>(key i o hi ho).1 d hd,fun i o e hi ho he hb=>(key i o hi ho).2.1 e he hb,fun i k oi ok d hi hk hoi hok hne hd hm=>((key i oi hi hoi).2.2 k ok d hk hok hne hd).1 hm,
  fun i k oi ok d hi hk hoi hok hne hd=>((key i oi hi hoi).2.2 k ok d hk hok hne hd).2⟩
section
variable {P:Program} {ops:Array Oper} {n N:Nat} {a0:Act} {w0:Wz}
theorem yJ.start(vs:Nat→Value):yJ ops n a0 (fun _=>False) vs a0:=⟨rfl,rfl,fun _ _ _ _ _ h=>h.elim,fun _ _=>rfl⟩
theorem yJ.put{D:Nat→Prop}{vs:Nat→Value}{a:Act}{i:Nat}{o:Oper}(hr:Uj ops n N)(hN:a0.tmps.size=N)(h:yJ ops n a0 D vs a)(hi:i < n)(ho:ops[i]?=some o)(hD:¬ D i)(v:Value):
  yJ ops n a0 (fun k=>D k∨k=i) (fun k=>if k=i then v else vs k) (a.put o.dst v):=by
 cases hdst:o.dst with
 | none=>
  refine ⟨h.size,h.defs,fun k ok d' hk hok gJ hd'=>?_,fun t ht=>h.no t (fun k ok hk hok gJ=>ht k ok hk hok (Or.inl gJ))⟩;have hki:k≠i:=by
   rintro rfl;obtain rfl:ok=o:=afZ (hok.symm.trans ho);rw [hdst] at hd';cases hd'
  show a.tmps[d']?=some (if k=i then v else vs k)
  rw [if_neg hki];exact h.wr k ok d' hk hok (gJ.resolve_right hki) hd'
 | some d=>
 have hd:=hdst;have hdN:=hr.dst i o d hi ho hd;rw [← hdst];refine ⟨by rw [hd];simpa [Act.put] using h.size,by rw [hd];exact h.defs,?_,?_⟩
 ·intro k ok d' hk hok gJ hd'
  rw [hd]
  by_cases hki:k=i
  ·subst hki
   obtain rfl:ok=o:=afZ (hok.symm.trans ho);obtain rfl:d'=d:=afZ (hd'.symm.trans hd);have hlt:d' < a.tmps.size:=by rw [h.size,hN];exact hdN
   simp [Act.put,hlt]
  ·have hne:d≠d':=by
    rintro rfl;exact hr.one i k o ok d hi hk ho hok hki hd' hd
   rcases gJ with gJ | gJ
   ·have:=h.wr k ok d' hk hok gJ hd'
    simp [Act.put,Array.getElem?_setIfInBounds_ne hne,hki,this]
   ·exact absurd gJ hki
 ·intro t ht
  have hne:d≠t:=by
   rintro rfl;exact ht i o hi ho (Or.inr rfl) hd
  rw [hd];have:=h.no t (fun k ok hk hok gJ=>ht k ok hk hok (Or.inl gJ));simp [Act.put,Array.getElem?_setIfInBounds_ne hne,this]
theorem yJ.congr{D D':Nat→Prop}{vs vs':Nat→Value}{a:Act}(h:yJ ops n a0 D vs a)(hD:∀ k,k < n→(D k↔D' k))(hv:∀ k,k < n→D k→vs k=vs' k):yJ ops n a0 D' vs' a:=
 ⟨h.size,h.defs,fun k o d hk ho hd hdst=>by rw [h.wr k o d hk ho ((hD k hk).2 hd) hdst,hv k hk ((hD k hk).2 hd)],fun t ht=>h.no t (fun k o hk ho hd=>ht k o hk ho ((hD k hk).1 hd))⟩
theorem lJ{l:List Oper}(hl:l.toArray=ops)(hr:Uj ops n N)(hN:a0.tmps.size=N)(hn:n≤l.length)(vs:Nat→Value):∀ i,i≤n→yJ ops n a0 (fun k=>k < i) vs (fB (l.take i) 0 a0 vs)
 | 0,_=>(yJ.start vs).congr (fun k _=>by simp) (fun _ _ h=>h.elim)
 | i+1,hi=>by
  have ih:=lJ hl hr hN hn vs i (by omega);have hil:i < l.length:=by omega
  have ho:ops[i]?=some l[i]:=by rw [← hl];simp [hil]
  have h1:=ih.put hr hN (by omega) ho (by omega) (vs i);rw [List.take_succ_eq_append_getElem hil,Jw,List.length_take,Nat.min_eq_left (by omega),Nat.zero_add];refine h1.congr (fun k _=>⟨fun h=>by omega,fun h=>by omega⟩) (fun k _ _=>?_)
  by_cases hki:k=i
  ·rw [if_pos hki,hki]
  ·rw [if_neg hki]
/-- Two frames agree at a slot whose writers are in both or in neither. -/
theorem yJ.agree{D D':Nat→Prop}{vs:Nat→Value}{a a':Act}(h:yJ ops n a0 D vs a)(h':yJ ops n a0 D' vs a')(t:Nat)(ht:∀ k o,k < n→ops[k]?=some o→o.dst=some t→(D k↔D' k)):a.tmps[t]?=a'.tmps[t]? :=by
 by_cases hw:∃ k o,k < n∧ops[k]?=some o∧o.dst=some t∧D k
 ·obtain ⟨k,o,hk,ho,hd,hD⟩:=hw
  rw [h.wr k o t hk ho hD hd,h'.wr k o t hk ho ((ht k o hk ho hd).1 hD) hd]
 ·rw [h.no t (fun k o hk ho hD hd=>hw ⟨k,o,hk,ho,hd,hD⟩),h'.no t (fun k o hk ho hD hd=>hw ⟨k,o,hk,ho,hd,(ht k o hk ho hd).2 hD⟩)]
theorem yJ.uniq{D D':Nat→Prop}{vs:Nat→Value}{a a':Act}(h:yJ ops n a0 D vs a)(h':yJ ops n a0 D' vs a')(hD:∀ k,k < n→(D k↔D' k)):a=a':=by
 have h1:a.tmps=a'.tmps:=Array.ext_getElem? (fun t=>h.agree h' t (fun k _ hk _ _=>hD k hk));have h2:a.defers=a'.defers:=h.defs.trans h'.defs.symm;cases a;cases a'
 cases h1;cases h2;rfl
theorem OH{o:Oper}{a a':Act}(h:∀ t∈o.looksAt ops,a.tmps[t]?=a'.tmps[t]?):Region.wanted o (yielded ops a.tmps)=Region.wanted o (yielded ops a'.tmps):=by
 unfold Region.wanted;cases hg:o.guard with
 | none=>rfl
 | some gw=>
  obtain ⟨g,want⟩:=gw;have hy:yielded ops a.tmps g=yielded ops a'.tmps g:=by
   unfold yielded;cases hd:(ops[g]?).bind (·.dst) with
   | none=>rfl
   | some d=>
    have hm:d∈o.looksAt ops:=by
     unfold Oper.looksAt;rw [hg];exact aiS _ (by simp [hd])
    simp [h d hm]
  simp only [hy]
theorem Ir{o:Oper}(hs:∀ cs b,o.op≠ .select cs b){a a':Act}(h:∀ t∈o.looksAt ops,a.tmps[t]?=a'.tmps[t]?):execOp a.eval o=execOp a'.eval o:=
 execOp_congr o hs fun x hx=>by
  cases x with
  | tmp t=>
   have hm:t∈o.looksAt ops:=aiJ _ (aiR.2 ⟨.tmp t,by simpa using hx,rfl⟩);simp [Act.eval,h t hm]
  | _=>rfl
/-- A step shown at one frame serves at another one that it cannot tell from it. -/
theorem Q7{o:Oper}{a A:Act}{w:World}{K1 K2:Act→World→Prop}{Q:Exit→Act→World→Prop}(he:execOp a.eval o=execOp A.eval o)(hA:A.defers= []) 
  (hK:∀ v w',K1 (A.put o.dst v) w'→K2 (a.put o.dst v) w') (hd:∀ a' w',K1 a' w'→a'.defers= []) (h:o.wp P A w K1 (fun _ _ _=>False)):o.wp P a w K2 Q:=by
 unfold Oper.wp at *
 rw [he];generalize (execOp A.eval o).run P w=r at *
 cases r with
 | ok x w'=>
  cases x <;> simp only [Oper.upon] at h ⊢
  case value v=>exact hK v w' h
  case skip=>exact hK _ w' h
  case defer d=>
   have:=hd _ _ h;cases ho:o.dst <;> simp [Act.put,ho] at this
  case enter f args=>
   refine h.mono (fun e w'' he=>?_);cases e with
   | returned v=>exact hK v w'' he
   | panicked c=>exact he.elim
   | outgrown=>
    obtain ⟨_,_,hh⟩:=he;exact hh.elim
  case row row args=>exact Rows.mono h (fun v w'' he=>hK v w'' he)
 | halt x w'=>
  cases x <;> simp only [Oper.upon] at h ⊢
theorem rM{o:Oper}{a:Act}{d:Nat}{v:Value}(hd:o.dst=some d)(hlt:d < a.tmps.size):valOf o (a.put o.dst v)=v:=by
 unfold valOf;rw [hd];simp [Act.put,hlt]
/-- How many of the first n are not listed yet. -/
def Ud(listed:Array Bool)(n:Nat):Nat:=((List.range n).filter fun k=> !listed.getD k false).length
theorem abx{listed:Array Bool}{n:Nat}(h:Ud listed n=0)(k:Nat)(hk:k < n):listed.getD k false=true:=by
 have h1:=adb h;have h2:=List.filter_eq_nil_iff.1 h1 k (ag5.2 hk);simpa using h2
theorem aeo{listed:Array Bool}{n f:Nat}(h:Ud listed n=f+1):∃ i,i < n∧listed.getD i false=false∧∀ k,k < i→listed.getD k false=true:=by
 have hex:∃ i,i < n∧listed.getD i false=false:=by
  unfold Ud at h;obtain ⟨i,hi⟩:=List.exists_mem_of_length_pos (l:=(List.range n).filter fun k=> !listed.getD k false) (by omega);obtain ⟨h1,h2⟩:=List.mem_filter.1 hi;exact ⟨i,ag5.1 h1,by simpa using h2⟩
 clear h;obtain ⟨i,hi⟩:=hex
 induction i using Nat.strongRecOn with
 | _ i ih=>
  by_cases hall:∀ k,k < i→listed.getD k false=true
  ·exact ⟨i,hi.1,hi.2,hall⟩
  ·have:∃ k,k < i∧listed.getD k false=false:=by
    apply abP;intro hno;exact hall fun k hk=>by
     cases hl:listed.getD k false with
     | true=>rfl
     | false=>exact absurd ⟨k,hk,hl⟩ hno
   obtain ⟨k,hk,hkl⟩:=this;exact ih k hk ⟨by omega,hkl⟩
theorem aep{listed:Array Bool}{n f i:Nat}(h:Ud listed n=f+1)(hi:i < n)(hs:i < listed.size)(hl:listed.getD i false=false):Ud (listed.setIfInBounds i true) n=f:=by
 have hcount:∀ m,i < m→Ud (listed.setIfInBounds i true) m+1=Ud listed m:=by
  intro m
  induction m with
  | zero=>intro hm;omega
  | succ m ih=>
   intro hm;have e1:∀ (L:Array Bool),Ud L (m+1)=Ud L m+(if L.getD m false then 0 else 1):=by
    intro L;unfold Ud;rw [List.range_succ,List.filter_append,List.length_append];have e0:(List.filter (fun k=> !L.getD k false) [m]).length=if L.getD m false then 0 else 1:=by
     simp only [List.filter_cons,List.filter_nil];cases L.getD m false <;> rfl
    rw [e0]
   rw [e1,e1]
   by_cases hmi:m=i
   ·subst hmi
    have hz:∀ m',m'≤m→Ud (listed.setIfInBounds m true) m'=Ud listed m':=by
     intro m' hm';unfold Ud;congr 1;refine List.filter_congr (fun k hk=>?_);have hkm:m≠k:=by have:=ag5.1 hk;omega
     rw [getD_set_ne false hkm]
    rw [hz m (Nat.le_refl _),hl];have:(listed.setIfInBounds m true).getD m false=true:=by simp [hs]
    rw [this];simp
   ·have hne:i≠m:=fun e=>hmi e.symm
    rw [getD_set_ne false hne];have:=ih (by omega);omega
 have:=hcount n hi;omega
/-- The rest of the region, once the first n have come up: one after another. -/
def aaX(ops:Array Oper)(n:Nat):Bool:=Region.seqB .any ops (ops.size-n) n (Array.replicate n true ++Array.replicate (ops.size-n) false)
def allB(ops:Array Oper)(n N:Nat):Bool:=Region.noSelect ops && adU ops n N && decide (n≤ops.size) && (decide (n=ops.size) || (Region.sinkB .any ops n && Region.chainB .any ops n)) && aaX ops n
/-- A move that nothing has to come ahead of, and that may come ahead of all. -/
def IY(ops:Array Oper)(i:Nat):Bool:=match ops[i]? with
 | none=>false
 | some o=>(match o.op with | .move _=>true | _=>false) && o.dst.isSome && o.after.all (fun e=> !Region.binds .any e) && (match o.guard with | none=>true | some _=>false) && Region.free .any ops (Array.replicate ops.size false) i
theorem ZR{ops:Array Oper}{i:Nat}(h:IY ops i=true):∃ o x d,ops[i]?=some o∧o.op= .move x∧o.dst=some d∧(∀ e∈o.after,Region.binds .any e=false)∧o.guard=none∧∀ listed:Array Bool,Region.free .any ops listed i=true:=by
 unfold IY at h;split at h
 ·cases h
 ·rename_i o ho
  simp only [Bool.and_eq_true] at h;obtain ⟨⟨⟨⟨h1,h2⟩,h3⟩,h4⟩,h5⟩:=h;obtain ⟨d,hd⟩:=aiY.1 h2;split at h1
  ·rename_i x hx
   refine ⟨o,x,d,ho,hx,hd,fun e he=>?_,?_,fun listed=>?_⟩
   ·simpa using Array.all_eq_true_iff_forall_mem.1 h3 e he
   ·cases hg:o.guard with
    | none=>rfl
    | some g=>rw [hg] at h4;cases h4
   ·unfold Region.free at h5 ⊢
    rw [ho] at h5 ⊢;simp only [List.all_eq_true,List.mem_range,Bool.or_eq_true] at h5 ⊢;intro j hj;rcases h5 j hj with (h | h) | h
    ·exact Or.inl (Or.inl h)
    ·simp [hj] at h
    ·exact Or.inr h
  ·cases h1
/-- All but those of L have one behind them that waits. -/
def afF(ops:Array Oper)(n:Nat)(L:Nat→Bool):Prop:=∀ i,i < n→L i=true∨∃ j,j≤n∧i < j∧Region.waitsFor .any ops j i=true
theorem QU{ops:Array Oper}{n:Nat}{L:Nat→Bool}{listed:Array Bool}(hs:afF ops n L)(hL:∀ i,i < n→L i=true→listed.getD i false=true)(hc:Region.chainB .any ops n=true)(hn:n < ops.size)(inv:HeadInv .any ops n listed):
  ∀ (d i:Nat),n-i=d→i < n→listed.getD i true=false→∀ t,n≤t→t ∉ Region.ready .any ops listed:=by
 intro d
 induction d using Nat.strongRecOn with
 | _ d ih=>
  intro i hd hi hun t ht hr;obtain ⟨_,ot,hot,hall⟩:=mem_ready.1 hr;have htlt:t < ops.size:=(aiI.1 hot).1
  by_cases htn:t=n
  ·subst htn
   rcases hs i hi with h0 | ⟨j,hjle,hij,hj2⟩
   ·have:=hL i hi h0
    rw [getD_both hun] at this;cases this
   obtain ⟨oj,hoj,e,he,hb,hon⟩:=Region.waitsFor_spec hj2
   by_cases hjt:j=t
   ·subst hjt
    have:oj=ot:=afZ (hoj.symm.trans hot);subst this;have h2:=hall e he hb;rw [hon,getD_both hun] at h2;cases h2
   ·cases hl:listed.getD j false with
    | true=>
     have h2:=inv.closed j oj hoj hl e he hb;rw [hon,getD_both hun] at h2;cases h2
    | false=>
     have hjs:j < listed.size:=by rw [inv.size];omega
     exact ih (t-j) (by omega) j rfl (by omega) (getD_in hjs hl) t (abJ _) hr
  ·have h1:=afj.1 hc t (ag5.2 htlt)
   simp only [Bool.or_eq_true,decide_eq_true_eq] at h1;rcases h1 with h1 | h1
   ·omega
   ·obtain ⟨o',dX,e,he,hb,hon⟩:=Region.waitsFor_spec h1
    have:o'=ot:=afZ (dX.symm.trans hot);subst this;have h2:=hall e he hb;rw [hon,getD_both (inv.tail (t-1) (by omega) (by omega))] at h2;cases h2
def Yi(ops:Array Oper)(n N:Nat)(L:Nat→Bool):Prop:=((((Region.noSelect ops=true∧adU ops n N=true)∧n≤ops.size)∧(n=ops.size∨afF ops n L∧Region.chainB .any ops n=true))∧aaX ops n=true)
theorem Yh{ops:Array Oper}{n N:Nat}(h:allB ops n N=true):Yi ops n N (fun _=>false):=by
 simp only [allB,Bool.and_eq_true,decide_eq_true_eq,Bool.or_eq_true] at h;obtain ⟨⟨⟨h1,h2⟩,h3⟩,h4⟩:=h;refine ⟨⟨⟨h1,h2⟩,h3.imp id fun ⟨hs,hc⟩=>⟨fun i hi=>Or.inr ?_,hc⟩⟩,h4⟩;obtain ⟨j,hj,hj2⟩:=ag1.1 (afj.1 hs i (ag5.2 hi));simp only [Bool.and_eq_true,decide_eq_true_eq] at hj2;exact ⟨j,by have:=ag5.1 hj;omega,hj2.1,hj2.2⟩
/-- The same, by looking: the operations of ls may come late. -/
def O5(ops:Array Oper)(n N:Nat)(ls:List Nat):Bool:=Region.noSelect ops && adU ops n N && decide (n≤ops.size) && ((List.range n).all (fun i=>ls.contains i || (List.range (n+1)).any fun j=>decide (i < j) && Region.waitsFor .any ops j i) && Region.chainB .any ops n) && aaX ops n && ls.all (fun i=>IY ops i)
theorem MK{ops:Array Oper}{n N:Nat}{ls:List Nat}(h:O5 ops n N ls=true):Yi ops n N (fun i=>ls.contains i)∧∀ i,ls.contains i=true→IY ops i=true:=by
 simp only [O5,Bool.and_eq_true,decide_eq_true_eq] at h;obtain ⟨⟨⟨⟨h1,h2⟩,hs,hc⟩,h4⟩,h5⟩:=h;refine ⟨⟨⟨⟨h1,h2⟩,Or.inr ⟨fun i hi=>?_,hc⟩⟩,h4⟩,fun i hi=>afj.1 h5 i (by simpa using hi)⟩;have:=afj.1 hs i (ag5.2 hi);rw [Bool.or_eq_true] at this;refine this.imp id fun h=>?_
 obtain ⟨j,hj,hj2⟩:=ag1.1 h;simp only [Bool.and_eq_true,decide_eq_true_eq] at hj2;exact ⟨j,by have:=ag5.1 hj;omega,hj2.1,hj2.2⟩
/-- One more is done. -/
def tY(D:Nat→Prop)(i:Nat):Nat→Prop:=fun k=>D k∨k=i
def tq(vs:Nat→Value)(i:Nat)(v:Value):Nat→Value:=fun k=>if k=i then v else vs k
/-- THE STEP that is owed for each operation: J speaks of what is done. -/
def XL(P:Program)(ops:Array Oper)(l:List Oper)(a0:Act)(J:(Nat→Prop)→(Nat→Value)→World→Prop)(i:Nat)(o:Oper):Prop:=
 ∀ (D:Nat→Prop) (vs:Nat→Value) (w:World),¬ D i→(∀ j,jy o j=true→D j)→(∀ k ok,ops[k]?=some ok→D k→∀ j,jy ok j=true→D j)→J D vs w→
  IfW (Region.wanted o (yielded ops (fB (l.take i) 0 a0 vs).tmps)) (o.wp P (fB (l.take i) 0 a0 vs) w (fun a' w'=>a'.defers= []∧J (tY D i) (tq vs i (valOf o a')) w') (fun _ _ _=>False)) (J (tY D i) (tq vs i undef) w)
theorem Yj{J:(Nat→Prop)→(Nat→Value)→World→Prop}{l:List Oper}{Q:Exit→Act→World→Prop}{L:Nat→Bool}(hl:l.toArray=ops)(hB:Yi ops n N L)(hL:∀ i,i < n→L i=true→IY ops i=true∧∀ c a w d v,Q (.panic c) (a.put d v) w→Q (.panic c) a w)(hN:a0.tmps.size=N)(hdef:a0.defers= []) 
  (hJ:∀ D D' vs vs' w,J D vs w→(∀ k,k < n→(D k↔D' k))→(∀ k,k < n→D k→vs k=vs' k)→J D' vs' w)
  (hS:∀ i o,i < n→ops[i]?=some o→XL P ops l a0 J i o)
  (hF:∀ D vs w,(∀ k,k < n→D k)→J D vs w→wpList P ops Q (l.drop n) (fB (l.take n) 0 a0 vs) w):
  ∀ (f:Nat) (listed:Array Bool) (vs:Nat→Value) (a:Act) (w:World),HeadInv .any ops n listed→Ud listed n=f→yJ ops n a0 (fun k=>listed.getD k false=true) vs a→
   J (fun k=>listed.getD k false=true) vs w→wpAny P .any ops Q (f+(ops.size-n)) listed a w:=by
 obtain ⟨⟨⟨⟨hsel,Nr⟩,Ko⟩,htail⟩,hrest⟩:=hB;have hr:=Ec Nr;have hnl:n≤l.length:=by rw [← hl] at Ko;simpa using Ko
 intro f
 induction f with
 | zero=>
  intro listed vs a w inv hu hia ahl;have hall:=abx hu;have ha:a=fB (l.take n) 0 a0 vs:=hia.uniq (lJ hl hr hN hnl vs n (abJ _)) (fun k hk=>⟨fun _=>hk,fun _=>hall k hk⟩);have hlist:listed=Array.replicate n true ++Array.replicate (ops.size-n) false:=by
   refine Array.ext_getElem? (fun t=>?_)
   by_cases htn:t < n
   ·have h1:=hall t htn
    have hts:t < listed.size:=by rw [inv.size];omega
    have h2:listed[t]?=some true:=by
     rw [Array.getD_eq_getD_getElem?,Array.getElem?_eq_getElem hts] at h1;rw [Array.getElem?_eq_getElem hts];simpa using h1
    rw [h2,Array.getElem?_append_left (by simpa using htn)];simp [htn]
   ·by_cases hts:t < ops.size
    ·have h1:=inv.tail t (by omega) hts
     have ak5:t < listed.size:=by rw [inv.size];exact hts
     have h2:listed[t]?=some false:=by
      rw [Array.getD_eq_getD_getElem?,Array.getElem?_eq_getElem ak5] at h1;rw [Array.getElem?_eq_getElem ak5];simpa using h1
     have h3:t-n < ops.size-n:=by omega
     rw [h2,Array.getElem?_append_right (by simpa using Nat.le_of_not_lt htn)];simp [h3]
    ·rw [Array.getElem?_eq_none (by rw [inv.size];omega),Array.getElem?_eq_none (by simp;omega)]
  have hdl:(l.drop n).length=ops.size-n:=by rw [← hl];simp
  have:=wpAny_of_seq (ops:=ops) (P:=P) (md:= .any) (Q':=Q) (l.drop n) n listed a w (fun j=>by rw [← hl];simp [List.getElem?_drop]) (by rw [hdl,hlist];exact hrest) (by
   rw [ha];exact hF _ vs w (fun k hk=>hall k hk) ahl)
  rw [hdl] at this;rw [Nat.zero_add];exact this
 | succ f ih=>
  intro listed vs a w inv hu hia ahl;rw [show f+1+(ops.size-n)=(f+(ops.size-n))+1 by omega];obtain ⟨i0,akG,akF,anR⟩:=aeo hu;have akH:i0 < listed.size:=by rw [inv.size];omega
  have step:∀ (i:Nat) (o:Oper),i < n→ops[i]?=some o→i∈Region.ready .any ops listed→(∀ t∈o.looksAt ops,a.tmps[t]?=(fB (l.take i) 0 a0 vs).tmps[t]?)∧(fB (l.take i) 0 a0 vs).defers=a0.defers∧(fB (l.take i) 0 a0 vs).tmps.size=a0.tmps.size∧
    IfW (Region.wanted o (yielded ops (fB (l.take i) 0 a0 vs).tmps)) (o.wp P (fB (l.take i) 0 a0 vs) w (fun a' w'=>a'.defers= []∧J (tY (fun k=>listed.getD k false=true) i) (tq vs i (valOf o a')) w') (fun _ _ _=>False)) (J (tY (fun k=>listed.getD k false=true) i) (tq vs i undef) w)∧
    ∀ (v:Value) (w':World),J (tY (fun k=>listed.getD k false=true) i) (tq vs i v) w'→wpAny P .any ops Q (f+(ops.size-n)) (listed.setIfInBounds i true) (a.put o.dst v) w':=by
   intro i o hin ho hi;obtain ⟨hun,o',dX,hall⟩:=mem_ready.1 hi;have:o=o':=afZ (ho.symm.trans dX);subst this;have hilt:i < ops.size:=(aiI.1 ho).1;have hil:listed.getD i false=false:=getD_both hun;have his:i < listed.size:=by rw [inv.size];exact hilt
   have hA:=lJ hl hr hN hnl vs i (adC hin);have hag:∀ t∈o.looksAt ops,a.tmps[t]?=(fB (l.take i) 0 a0 vs).tmps[t]? :=by
    intro t ht;refine hia.agree hA t (fun k ok hk hok hd=>?_)
    by_cases hki:k=i
    ·subst hki
     exact ⟨fun h=>(by rw [hil] at h;cases h),fun h=>absurd h (Nat.lt_irrefl _)⟩
    ·rcases hr.look i k o ok t hin hk ho hok hki hd ht with ⟨h1,h2⟩ | ⟨h1,h2⟩
     ·refine ⟨fun _=>h1,fun _=>?_⟩
      obtain ⟨e,he',hb⟩:=ag1.1 h2;have he:=Array.mem_toList_iff.1 he';simp only [Bool.and_eq_true,beq_iff_eq] at hb;have:=hall e he hb.1;rwa [hb.2] at this
     ·refine ⟨fun hkl=>?_,fun h=>by omega⟩
      exfalso;obtain ⟨e,he',hb⟩:=ag1.1 h2;have he:=Array.mem_toList_iff.1 he';simp only [Bool.and_eq_true,beq_iff_eq] at hb;have:=inv.closed k ok hok hkl e he hb.1;rw [hb.2,hil] at this;cases this
   have hpre:∀ j,jy o j=true→listed.getD j false=true:=by
    intro j hj;obtain ⟨e,he',hb⟩:=ag1.1 hj;have he:=Array.mem_toList_iff.1 he';simp only [Bool.and_eq_true,beq_iff_eq] at hb;have h1:=hall e he hb.1;rwa [hb.2] at h1
   have hcl:∀ k ok,ops[k]?=some ok→listed.getD k false=true→∀ j,jy ok j=true→listed.getD j false=true:=by
    intro k ok hok hkl j hj;obtain ⟨e,he',hb⟩:=ag1.1 hj;have he:=Array.mem_toList_iff.1 he';simp only [Bool.and_eq_true,beq_iff_eq] at hb;have:=inv.closed k ok hok hkl e he hb.1;rwa [hb.2] at this
   have hst:=hS i o hin ho _ vs w (by rw [hil];exact Bool.noConfusion) hpre hcl ahl;have key:∀ (v:Value) (w':World),J (tY (fun k=>listed.getD k false=true) i) (tq vs i v) w'→wpAny P .any ops Q (f+(ops.size-n)) (listed.setIfInBounds i true) (a.put o.dst v) w':=by
    intro v w' hp;have hD:∀ k,k < n→((listed.getD k false=true∨k=i)↔(listed.setIfInBounds i true).getD k false=true):=fun k hk=>by
     by_cases hki:k=i
     ·subst hki
      simp [his]
     ·have hne:i≠k:=fun e=>hki e.symm
      rw [getD_set_ne false hne];simp [hki]
    have anS:=(hia.put hr hN hin ho (by rw [hil];simp) v).congr (D':=fun k=>(listed.setIfInBounds i true).getD k false=true) (vs':=tq vs i v) hD (fun _ _ _=>rfl);exact ih _ _ _ _ (inv.set hi hin) (aep hu hin his hil) anS (hJ _ _ _ _ _ hp hD (fun _ _ _=>rfl))
   exact ⟨hag,hA.defs,hA.size,hst,key⟩
  by_cases afc:∃ i,i < n∧L i=true∧listed.getD i false=false
  ·obtain ⟨i,hin,hLi,hil⟩:=afc
   obtain ⟨hlb,hQ⟩:=hL i hin hLi;obtain ⟨o,x,d,ho,hop,hd,haf,hg,hfree⟩:=ZR hlb;have his:i < listed.size:=by rw [inv.size];omega
   have hrd:i∈Region.ready .any ops listed:=mem_ready.2 ⟨getD_in his hil,o,ho,fun e he hb=>by rw [haf e he] at hb;cases hb⟩;obtain ⟨hag,hdf,hsz,hst,key⟩:=step i o hin ho hrd;have hrun:∀ (ev:Operand→Value) (w:World),(execOp ev o).run P w= .ok (.value (ev x)) w:=fun ev w=>by unfold execOp;rw [hop];rfl
   have hw:∀ t:Array Value,Region.wanted o (yielded ops t)=true:=fun t=>by unfold Region.wanted;rw [hg]
   have hev:(fB (l.take i) 0 a0 vs).eval x=a.eval x:=by
    have e:=ah5 (fun m=>m.run P w) (Ir (Region.noSelect_spec hsel i o · · ho) hag);simp only [hrun] at e
    injection e with e1 _
    injection e1 with e2
    exact e2.symm
   have h1:=hst.1 (hw _);unfold Oper.wp at h1;rw [hrun] at h1;have h2:=h1.2;rw [rM hd (by rw [hsz,hN];exact hr.dst i o d hin ho hd),hev] at h2;exact wpAny_take ho hsel (hfree _) (by simpa using hrd) (fun c a w=>hQ c a w _ _) (Or.inl ⟨hw _,fun w=>hrun _ w⟩) (key _ _ h2)
  refine ⟨fun hno=>?_,fun i hi=>?_⟩
  ·exfalso
   have ho:∃ o,ops[i0]?=some o:=⟨ops[i0]'(by omega),Array.getElem?_eq_getElem (by omega)⟩
   obtain ⟨o,ho⟩:=ho;have:i0∈Region.ready .any ops listed:=mem_ready.2 ⟨getD_in akH akF,o,ho,fun e he hb=>anR _ (hr.back i0 o e akG ho he hb)⟩;rw [hno] at this;cases this
  ·obtain ⟨hun,o,ho,hall⟩:=mem_ready.1 hi
   have hilt:i < ops.size:=(aiI.1 ho).1;have hin:i < n:=by
    rcases ag4 i n with h | h
    ·exact h
    ·rcases htail with h' | ⟨hs,hc⟩
     ·omega
     ·have hnlt:n < ops.size:=by omega
      exact absurd hi (QU hs (fun i hi' h'=>by
       cases hq:listed.getD i false with
       | true=>rfl
       | false=>exact absurd ⟨i,hi',h',hq⟩ afc) hc hnlt inv _ i0 rfl akG (getD_in akH akF) i h)
   obtain ⟨hag,hdf,hsz0,hst,key⟩:=step i o hin ho hi;unfold wpOp;rw [ho];simp only;rw [OH hag];split
   ·rename_i hw
    have hst:=hst.1 hw;left;refine Q7 (Ir (Region.noSelect_spec hsel i o · · ho) hag) (by rw [hdf,hdef]) ?_ (fun a' w' h=>h.1) hst;intro v w' h;obtain ⟨_,h2⟩:=h;cases hdst:o.dst with
    | some d=>
     have hsz:d < (fB (l.take i) 0 a0 vs).tmps.size:=by rw [hsz0,hN];exact hr.dst i o d hin ho hdst
     rw [rM hdst hsz] at h2;rw [← hdst];exact key v w' h2
    | none=>
     have e1:valOf o ((fB (l.take i) 0 a0 vs).put o.dst v)=undef:=by unfold valOf;rw [hdst]
     rw [e1] at h2;have h3:=key undef w' h2;rw [hdst] at h3;exact h3
   ·rename_i hw
    have hst:=hst.2 (by simpa using hw);exact key undef w hst
/-- **THE REGION**: n operations in any order that their waits allow; then the others, one after another. -/
theorem rG{J:(Nat→Prop)→(Nat→Value)→World→Prop}{id:Nat}{l:List Oper}{Q:Exit→Act→World→Prop}{w:World}{L:Nat→Bool}(n N:Nat)(hm:P.follows .mixedOrders=true)(hN:a0.tmps.size=N)(hdef:a0.defers= [])(hB:Yi l.toArray n N L)(hL:∀ i,i < n→L i=true→IY l.toArray i=true∧∀ c a w d v,Q (.panic c) (a.put d v) w→Q (.panic c) a w) 
  (hJ:∀ D D' vs vs' w,J D vs w→(∀ k,k < n→(D k↔D' k))→(∀ k,k < n→D k→vs k=vs' k)→J D' vs' w)
  (h0:J (fun _=>False) (fun _=>undef) w.drew)
  (hS:∀ i o,i < n→l.toArray[i]?=some o→XL P l.toArray l a0 J i o)
  (hF:∀ D vs w',(∀ k,k < n→D k)→J D vs w'→wpList P l.toArray Q (l.drop n) (fB (l.take n) 0 a0 vs) w'):
  (Code.region id l.toArray true).wp P Q a0 w:=by
 have hn:n≤l.toArray.size:=hB.1.1.2;refine wp_region_any hm ?_;have H:=Yj (P:=P) (J:=J) (Q:=Q) (l:=l) rfl hB hL hN hdef hJ hS hF n (Array.replicate l.toArray.size false) (fun _=>undef) a0 w.drew
  ⟨by simp,fun j oj _ hl=>(by rw [getD_replicate_false] at hl;cases hl),fun t _ ht=>getD_in (by simpa using ht) (getD_replicate_false _ _)⟩
  (by unfold Ud;rw [List.filter_eq_self.2 (fun k _=>by rw [getD_replicate_false];rfl),List.length_range])
  ⟨rfl,rfl,fun k o d _ _ h=>(by rw [getD_replicate_false] at h;cases h),fun _ _=>rfl⟩ (hJ _ _ _ _ _ h0 (fun k _=>by rw [getD_replicate_false];simp) (fun _ _ h=>h.elim))
 rw [show n+(l.toArray.size-n)=l.toArray.size by omega] at H;exact H
theorem Q5{J:(Nat→Prop)→(Nat→Value)→World→Prop}{id:Nat}{l:List Oper}{Q:Exit→Act→World→Prop}{w:World}(n N:Nat)(hm:P.follows .mixedOrders=true)(hN:a0.tmps.size=N)(hdef:a0.defers= [])(hB:allB l.toArray n N=true) 
  (hJ:∀ D D' vs vs' w,J D vs w→(∀ k,k < n→(D k↔D' k))→(∀ k,k < n→D k→vs k=vs' k)→J D' vs' w)
  (h0:J (fun _=>False) (fun _=>undef) w.drew)
  (hS:∀ i o,i < n→l.toArray[i]?=some o→XL P l.toArray l a0 J i o)
  (hF:∀ D vs w',(∀ k,k < n→D k)→J D vs w'→wpList P l.toArray Q (l.drop n) (fB (l.take n) 0 a0 vs) w'):
  (Code.region id l.toArray true).wp P Q a0 w:=rG n N hm hN hdef (Yh hB) (fun _ _ h=>by cases h) hJ h0 hS hF
end
end Am
def tZ:AV→Option Nat
 | .ptr id _ | .own id | .dW id _ _ _ | .lim id _ | .qL id _ | .wit id=>some id
 | _=>none
theorem rP{ρ:kL}{B:BS}{w:World}{av:AV}{c:Value}{id:Nat}(hi:tZ av=some id)(h:AR ρ B w av c):∃ v,ρ id=some v:=by
 cases av <;> simp only [tZ,Option.some.injEq,reduceCtorEq] at hi
 ·subst hi;obtain ⟨g,h1,_⟩:=h;exact ⟨_,h1⟩
 ·subst hi;exact ⟨_,h.1⟩
 ·subst hi;obtain ⟨g,n,cap,h1,_⟩:=h;exact ⟨_,h1⟩
 ·subst hi;obtain ⟨_,v,h1,_⟩:=h;exact ⟨_,h1⟩
 ·subst hi;obtain ⟨g,h1,_⟩:=h;exact ⟨_,h1⟩
 ·subst hi;obtain ⟨v,h1⟩:=h;exact ⟨_,h1⟩
/-- Operations whose answer, or whose deed, hangs on objects. -/
def FW:Op→Bool
 | .call c=>match c.callee with
  | .builtin .len=>true
  | _=>false
 | _=>false
/-- No operation writes the slot. -/
def Qq(ops:Array Oper)(t:Nat):Bool:=ops.toList.all fun o=>match o.dst with
 | some d=> !Nat.beq d t
 | none=>true
theorem Jk{l:List Oper}{t k:Nat}{o:Oper}(h:Qq l.toArray t=true)(ho:l[k]?=some o):o.dst≠some t:=fun e=>by
 have h1:∀ o∈l,(match o.dst with | some d=> !Nat.beq d t | none=>true)=true:=afj.1 h
 have:=h1 o (aiA ho);rw [e] at this;simp at this
/-- A value that has a row's name is that row. -/
theorem NT{ρ:kL}{B B':BS}{w0:Wz}{w:World}{x y v:Value}{id:Nat}{e:TypeId}{sz n:Nat}{el:Nat→Nat→Lf}(hv:AR ρ B w (.d (.one (.v x))) v)(hy:ρ id=some y)(ho:OR B' w0 w (.is x (.row e sz n el)) y):AR ρ B w (.own id) v:=by
 obtain ⟨e1,_⟩:v=x∧_:=hv;obtain ⟨e2,ho⟩:=ho;have h2:=AO.CV (B':=B) ho hy;rw [e1,← e2];exact h2
section
variable {P:Program} {T:TypeId→Option TI} {ops:Array Oper} {s s':AS} {o:Oper}
/-- An operation that makes a value of data alone. -/
def EvX(P:Program)(s:AS)(o:Oper)(av:AV):Prop:=∀ (ρ:kL) (B:BS) (w:World) (a:Act),(∀ x∈o.op.operands,∀ kV,dH s x=some kV→AR ρ B w kV (a.eval x))→∃ v,(execOp a.eval o).run P w= .ok (.value v) w∧AR ρ B w av v
/-- One operation makes s out of s. -/
inductive aB (P:Program) (T:TypeId→Option TI) (ops:Array Oper) (o:Oper) (s:AS):AS→Prop
 | V (av:AV) (h:jr T s o.op=some av) (hg:jC ops s o=some true:=by rfl) (hd:kG o.dst s.n=true:=by rfl):aB P T ops o s (s.put o.dst av)
 | B (av:AV) (h:evB T s o.op=some av) (hg:jC ops s o=some true:=by rfl) (hd:kG o.dst s.n=true:=by rfl):aB P T ops o s (s.put o.dst av)
 | G (hg:jC ops s o=some false) (hd:kG o.dst s.n=true):aB P T ops o s (s.put o.dst .dead)
 | N (ob:AO) (h:Wu T s o.op=some ob) (d:Nat) (hdst:o.dst=some d) (hfr:lk s.hp d=none) (hg:jC ops s o=some true:=by rfl) (hd:kG (some d) s.n=true:=by rfl):aB P T ops o s (s.mk' d ob)
 | X (av:AV) (h:EvX P s o av) (hg:jC ops s o=some true:=by rfl) (hd:kG o.dst s.n=true:=by rfl):aB P T ops o s (s.put o.dst av)
 | Y (x:Value) (tw id:Nat) {av0:AV} {e:TypeId} {sz n:Nat} {el:Nat→Nat→Lf} (h:jr T s o.op=some (.d (.one (.v x)))) (hw:lk s.sl tw=some av0) (hi:tZ av0=some id) (hn:Qq ops tw=true) (ho:lk s.hp id=some (.is x (.row e sz n el))) (hl:FW o.op=false:=by rfl) (hg:jC ops s o=some true:=by rfl) (hd:kG o.dst s.n=true:=by rfl):aB P T ops o s (s.put o.dst (.own id))
 | S (id:Nat) (ob:AO) (h:Xt T s o.op=some (id,ob)) (hdst:o.dst=none) (hg:jC ops s o=some true:=by rfl):aB P T ops o s ⟨s.n,s.sl,(id,ob) ::s.hp⟩
 | C {c:Call} {f:FuncId} {cap ds:List DV} {res:AV} (h:aC P f (ds ++cap) res) (hc:iw o.op=some c) (hf:J9 s c.callee=some (f,cap)) (ha:qQ s c.args.toList=some ds) (hg:jC ops s o=some true:=by rfl) (hd:kG o.dst s.n=true:=by rfl):aB P T ops o s (s.put o.dst res)
/-! ### An operation looks at its operands alone -/
theorem uz{s s':AS}:∀ (l:List (Nat×Operand)),(∀ p∈l,dH s p.2=dH s' p.2)→AY s l=AY s' l
 | [],_=>rfl
 | (i,x) ::r,h=>by
  unfold AY;rw [h (i,x) (by simp),uz r (fun p hp=>h p (by simp [hp]))]
theorem qC{s s':AS}:∀ (l:List Operand),(∀ x∈l,dH s x=dH s' x)→yx s l=yx s' l
 | [],_=>rfl
 | x ::r,h=>by
  unfold yx;rw [h x (by simp),qC r (fun p hp=>h p (by simp [hp]))]
theorem qB{s s':AS}:∀ (l:List Operand),(∀ x∈l,dH s x=dH s' x)→qQ s l=qQ s' l
 | [],_=>rfl
 | x ::r,h=>by
  unfold qQ;rw [h x (by simp),qB r (fun p hp=>h p (by simp [hp]))]
theorem vZ{op:Op}(IL:s.hp=s'.hp)(h:∀ x∈op.operands,dH s x=dH s' x):jr T s op=jr T s' op:=by
 have hint:∀ x∈op.operands,kD s x=kD s' x:=fun x hx=>by unfold kD;rw [h x hx]
 cases op with
 | move x=>exact h x (by simp [Op.operands])
 | assign x=>exact h x (by simp [Op.operands])
 | pick c a b=>simp only [jr];rw [h c (by simp [Op.operands]),h a (by simp [Op.operands]),h b (by simp [Op.operands])]
 | load t x=>simp only [jr];rw [h x (by simp [Op.operands]),IL]
 | binOp op t x y yt=>simp only [jr];rw [h x (by simp [Op.operands]),h y (by simp [Op.operands])]
 | unOp op t x=>simp only [jr];rw [h x (by simp [Op.operands])]
 | convert src dst x=>simp only [jr];rw [h x (by simp [Op.operands])]
 | fieldAddr t x f=>simp only [jr];rw [h x (by simp [Op.operands])]
 | field t x f=>simp only [jr];rw [h x (by simp [Op.operands])]
 | extract x i=>simp only [jr];rw [h x (by simp [Op.operands])]
 | indexAddr t x ix=>simp only [jr];rw [h x (by simp [Op.operands]),hint ix (by simp [Op.operands]),IL]
 | slice t x lo hi mx=>
  cases mx with
  | some m=>rfl
  | none=>
   have hlo:∀ d,qx s lo d=qx s' lo d:=by
    intro d;cases lo with
    | none=>rfl
    | some y=>simp only [qx];rw [hint y (by simp [Op.operands])]
   have hhi:∀ d,qx s hi d=qx s' hi d:=by
    intro d;cases hi with
    | none=>rfl
    | some y=>simp only [qx];rw [hint y (by simp [Op.operands])]
   simp only [jr,h x (by simp [Op.operands]),hlo,hhi]
 | build t ps=>
  simp only [jr];rw [uz ps.toList (fun p hp=>h p.2 (by simp only [Op.operands,List.mem_toArray,List.mem_map];exact ⟨p,hp,rfl⟩))]
 | call c=>
  have hargs:∀ x∈c.args.toList,dH s x=dH s' x:=fun x hx=>h x (by simp only [Op.operands,Call.operands];exact aiT.2 (Or.inr (by simpa using hx)))
  have hl:=qC c.args.toList hargs;simp only [jr];rw [hl,IL];split
  ·split
   ·rename_i x t ha ht
    have hx:=hargs x (by rw [ha];simp);rw [hx]
   ·rfl
  ·rfl
  ·rfl
  ·rfl
 | makeFunc fn fi caps=>
  have hl:=qC caps.toList (fun x hx=>h x (by simp only [Op.operands];exact aiT.2 (Or.inr (by simpa using hx))));cases fn <;> first | rfl | (simp only [jr];rw [hl])
 | _=>rfl
theorem EP{op:Op}(h:∀ x∈op.operands,dH s x=dH s' x):Wu T s op=Wu T s' op:=by
 have hi:∀ x∈op.operands,kD s x=kD s' x:=fun x hx=>by unfold kD;rw [h x hx]
 cases op with
 | box t x=>simp only [Wu];rw [h x (by simp [Op.operands])]
 | makeSlice t l c=>simp only [Wu];rw [hi l (by simp [Op.operands]),hi c (by simp [Op.operands])]
 | _=>rfl
theorem EO{op:Op}(h:∀ x∈op.operands,dH s x=dH s' x):evB T s op=evB T s' op:=by
 cases op with
 | buildSlice t len ps=>
  simp only [evB];rw [uz ps.toList (fun p hp=>h p.2 (by simp only [Op.operands,List.mem_toArray,List.mem_map];exact ⟨p,hp,rfl⟩))]
 | _=>rfl
theorem BA{c:Call}(h:∀ x∈c.operands,dH s x=dH s' x):J9 s c.callee=J9 s' c.callee:=by
 unfold Call.operands at h;cases hc:c.callee with
 | value x=>
  rw [hc] at h;simp only [J9];rw [h x (by simp)]
 | _=>rfl
/-- What is known of some slots. -/
def gQ(sl:List (Nat×AV)):List Nat→List (Nat×AV)
 | []=> []
 | t ::ts=>match lk sl t with
  | some av=>(t,av) ::gQ sl ts
  | none=>gQ sl ts
theorem lC{sl:List (Nat×AV)}:∀ (ts:List Nat) (t:Nat),t∈ts→lk (gQ sl ts) t=lk sl t
 | [],t,h=>by simp at h
 | u ::ts,t,h=>by
  unfold gQ
  by_cases e:u=t
  ·subst e
   cases hl:lk sl u with
   | some av=>simp only;rw [aV,if_pos rfl]
   | none=>
    simp only
    by_cases hm:u∈ts
    ·rw [lC ts u hm,hl]
    ·exact BL ts u hm
  ·have hm:t∈ts:=by
    rcases afr.1 h with h | h
    ·exact absurd h.symm e
    ·exact h
   split
   ·rw [aV,if_neg e,lC ts t hm]
   ·exact lC ts t hm
where
 BL:∀ (ts:List Nat) (t:Nat),¬ t∈ts→lk (gQ sl ts) t=none
 | [],t,_=>rfl
 | u ::ts,t,h=>by
  unfold gQ;simp only [List.mem_cons,not_or] at h;split
  ·rw [aV,if_neg (fun e=>h.1 e.symm),BL ts t h.2]
  ·exact BL ts t h.2
theorem wL{sl:List (Nat×AV)}:∀ (ts:List Nat) (t:Nat) (av:AV),lk (gQ sl ts) t=some av→t∈ts∧lk sl t=some av
 | [],t,av,h=>by cases h
 | u ::ts,t,av,h=>by
  unfold gQ at h;split at h
  ·rename_i kV hl
   rw [aV] at h;split at h
   ·rename_i e
    subst e;cases h
    exact ⟨by simp,hl⟩
   ·obtain ⟨h1,h2⟩:=wL ts t av h
    exact ⟨by simp [h1],h2⟩
  ·obtain ⟨h1,h2⟩:=wL ts t av h
   exact ⟨by simp [h1],h2⟩
theorem EU(h:∀ t∈o.looksAt ops,lk s.sl t=lk s'.sl t):jC ops s o=jC ops s' o:=by
 unfold jC;cases hg:o.guard with
 | none=>rfl
 | some q=>
  obtain ⟨j,want⟩:=q;simp only;cases hj:ops.toList[j]? with
  | none=>rfl
  | some oj=>
   simp only;cases hd:oj.dst with
   | none=>rfl
   | some d=>
    simp only;have hj':ops[j]?=some oj:=by rw [← Array.getElem?_toList];exact hj
    rw [h d (by
     unfold Oper.looksAt;rw [hg];exact List.mem_append_right _ (by simp [hj',hd]))]
end
section
open Go.RowKit Am
def yj(s:AS):AV:=match s.sl with
 | (_,av) ::_=>av
 | []=> .dead
section
variable {P:Program} {T:TypeId→Option TI} {ops:Array Oper} {o:Oper} {Q:Qs}
theorem aB.shape{s s':AS}{d:Nat}(h:aB P T ops o s s')(hd:o.dst=some d):s'.n=s.n∧s'.sl=(d,yj s') ::s.sl∧(s'.hp=s.hp∨∃ ob,lk s.hp d=none∧s'.hp=(d,ob) ::s.hp):=by
 cases h with
 | V av h hg hk=>simp [AS.put,hd,yj]
 | B av h hg hk=>simp [AS.put,hd,yj]
 | X av h hg hk=>simp [AS.put,hd,yj]
 | Y x tw id h hw hi hn ho hl hg hk=>simp [AS.put,hd,yj]
 | G hg hk=>simp [AS.put,hd,yj]
 | C h hc hf ha hg hk=>simp [AS.put,hd,yj]
 | N ob h d' hdst hfr hg hk=>
  rw [hd] at hdst;cases hdst
  exact ⟨rfl,rfl,Or.inr ⟨ob,hfr,rfl⟩⟩
 | S id ob h hdst hg=>rw [hd] at hdst;cases hdst
/-- What the states on the way have in common. -/
structure Way(l:List Oper)(n:Nat)(st:Nat→AS):Prop where
 nn:∀ i:Nat,i≤n→(st i).n=(st 0).n
 sl:∀ (i:Nat) (o:Oper) (d:Nat),i < n→l[i]?=some o→o.dst=some d→(st (i+1)).sl=(d,yj (st (i+1))) ::(st i).sl
 hp:∀ i j:Nat,i≤j→j≤n→∀ (id:Nat) (ob:AO),lk (st i).hp id=some ob→lk (st j).hp id=some ob
 new:∀ i:Nat,i≤n→∀ (id:Nat) (ob:AO),lk (st i).hp id=some ob→(lk (st 0).hp id).isSome=true∨∃ (k:Nat) (o:Oper),k < i∧l[k]?=some o∧o.dst=some id
theorem Way.at{l:List Oper}{n:Nat}{st:Nat→AS}(hw:Way l n st)(hl:n≤l.length)(hd:∀ i o,i < n→l[i]?=some o→∃ d,o.dst=some d)(hone:∀ i k oi ok d,i < n→k < n→l[i]?=some oi→l[k]?=some ok→k≠i→ok.dst=some d→oi.dst≠some d):
  ∀ (i:Nat),i≤n→∀ (t:Nat),(∀ (k:Nat) (o:Oper),k < i→l[k]?=some o→o.dst=some t→lk (st i).sl t=some (yj (st (k+1))))∧((∀ (k:Nat) (o:Oper),k < i→l[k]?=some o→o.dst≠some t)→lk (st i).sl t=lk (st 0).sl t)
 | 0,_,t=>⟨fun k o hk=>absurd hk (ab2 _),fun _=>rfl⟩
 | i+1,hi,t=>by
  obtain ⟨ih1,ih2⟩:=Way.at hw hl hd hone i (by omega) t;have ho:l[i]?=some (l[i]'(by omega)):=by simp
  obtain ⟨d,hdd⟩:=hd i _ (by omega) ho;rw [hw.sl i _ d (by omega) ho hdd,aV];refine ⟨fun k o hk hko hkd=>?_,fun hno=>?_⟩
  ·by_cases hki:k=i
   ·subst hki
    rw [ho] at hko;cases hko
    rw [hdd] at hkd;cases hkd
    rw [if_pos rfl]
   ·rw [if_neg (fun e=>hone i k _ o t (by omega) (by omega) ho hko hki hkd (by rw [hdd,e]))]
    exact ih1 k o (by omega) hko hkd
  ·rw [if_neg (fun e=>hno i _ (by omega) ho (by rw [hdd,e]))]
   exact ih2 (fun k o hk hko=>hno k o (by omega) hko)
/-- What holds when the operations of D are done. -/
def Jr(l:List Oper)(n:Nat)(st:Nat→AS)(B0:BS)(w0:Wz)(a0:Act)(D:Nat→Prop)(vs:Nat→Value)(w:World):Prop:=
 ∃ ρ,eY ρ B0 w0 w (st n).hp∧(∀ id v,ρ id=some v→(lk (st 0).hp id).isSome=true∨∃ k o,k < n∧D k∧l[k]?=some o∧o.dst=some id)∧
  (∀ t av,lk (st 0).sl t=some av→(∀ k o,k < n→l[k]?=some o→D k→o.dst≠some t)→∃ v,a0.tmps[t]?=some v∧AR ρ (Bd ρ B0) w av v)∧(∀ k,k < n→D k→AR ρ (Bd ρ B0) w (yj (st (k+1))) (vs k))
theorem Jr.congr{l:List Oper}{n:Nat}{st:Nat→AS}{B0:BS}{w0:Wz}{a0:Act}(D D':Nat→Prop)(vs vs':Nat→Value)(w:World)(h:Jr l n st B0 w0 a0 D vs w)(hD:∀ k,k < n→(D k↔D' k))(hv:∀ k,k < n→D k→vs k=vs' k):Jr l n st B0 w0 a0 D' vs' w:=by
 obtain ⟨ρ,h1,h2,h3,h4⟩:=h;refine ⟨ρ,h1,fun id v h=>?_,fun t av ht hno=>h3 t av ht (fun k o hk ho gJ=>hno k o hk ho ((hD k hk).1 gJ)),fun k hk gJ=>?_⟩
 ·rcases h2 id v h with h | ⟨k,o,hk,gJ,h⟩
  ·exact Or.inl h
  ·exact Or.inr ⟨k,o,hk,(hD k hk).1 gJ,h⟩
 ·rw [← hv k hk ((hD k hk).2 gJ)]
  exact h4 k hk ((hD k hk).2 gJ)
/-- One more value; the objects are the same ones. -/
theorem Jr.same{l:List Oper}{n:Nat}{st:Nat→AS}{B0:BS}{w0:Wz}{a0:Act}{D:Nat→Prop}{vs:Nat→Value}{w w':World}{i:Nat}{v:Value}{ρ:kL}(hb:Below w.heap.size w w')(h1:eY ρ B0 w0 w (st n).hp) 
  (h2:∀ id v,ρ id=some v→(lk (st 0).hp id).isSome=true∨∃ k o,k < n∧D k∧l[k]?=some o∧o.dst=some id)
  (h3:∀ t av,lk (st 0).sl t=some av→(∀ k o,k < n→l[k]?=some o→D k→o.dst≠some t)→∃ v,a0.tmps[t]?=some v∧AR ρ (Bd ρ B0) w av v)
  (h4:∀ k,k < n→D k→AR ρ (Bd ρ B0) w (yj (st (k+1))) (vs k)) (hv:AR ρ (Bd ρ B0) w' (yj (st (i+1))) v) (hni:¬ D i):Jr l n st B0 w0 a0 (tY D i) (tq vs i v) w':=by
 refine ⟨ρ,h1.below hb,fun id u h=>?_,fun t av ht hno=>?_,fun k hk gJ=>?_⟩
 ·rcases h2 id u h with h | ⟨k,o,hk,gJ,h⟩
  ·exact Or.inl h
  ·exact Or.inr ⟨k,o,hk,Or.inl gJ,h⟩
 ·obtain ⟨u,h5,h6⟩:=h3 t av ht (fun k o hk ho gJ=>hno k o hk ho (Or.inl gJ))
  exact ⟨u,h5,h6.below hb⟩
 ·unfold tq
  by_cases e:k=i
  ·rw [if_pos e,e];exact hv
  ·rw [if_neg e]
   rcases gJ with gJ | gJ
   ·exact (h4 k hk gJ).below hb
   ·exact absurd gJ e
theorem gV{a A:Act}{w w':World}{v:Value}{K:Act→World→Prop}{Qw:Exit→Act→World→Prop}(hr:(execOp A.eval o).run P w= .ok (.value v) w')(hk:K (A.put o.dst v) w'):o.wp P A w K Qw:=by
 unfold Oper.wp;rw [hr];exact hk
end
theorem eY.lkc{ρ:kL}{B0:BS}{w0:Wz}{w:World}{hp hp':List (Nat×AO)}(h:eY ρ B0 w0 w hp)(hl:∀ id,(∃ v,ρ id=some v)→lk hp id=lk hp' id):eY ρ B0 w0 w hp':=
 ⟨h.bel,h.b0,fun id v hv=>by rw [← hl id ⟨v,hv⟩];exact h.obj id v hv,h.dist⟩
/-- What slots say of objects that may have moved is forgotten (but that they are there). -/
def DJ(ks kw:List Nat)(av:AV):AV:=match tZ av with
 | some i=>bif ks.any fun k=>Nat.beq k i then (bif kw.any fun k=>Nat.beq k i then .wit i else .dead) else av
 | none=>av
theorem uY{α:Type}:∀ (l l':List (Nat×α)) (t:Nat),lk (l ++l') t=match lk l t with | some x=>some x | none=>lk l' t
 | [],_,_=>rfl
 | (k,x) ::l,l',t=>by
  rw [List.cons_append,aV,aV];split
  ·rfl
  ·exact uY l l' t
def Al(ρ:kL)(ids:List Nat):Prop:=∀ id∈ids,∃ v,ρ id=some v
/-- Does its guard ask what was left out? -/
def gsu(ops:Array Oper)(s:AS)(o:Oper):Bool:=
 match o.guard with
 | none=>false
 | some (j,_)=>match ops.toList[j]? with
  | some oj=>match oj.dst with
   | some d=>match lk s.sl d with
    | some (.ji [])=>true
    | _=>false
   | none=>false
  | none=>false
theorem Zf{ops:Array Oper}{s:AS}{o:Oper}{ρ:kL}{B:BS}{w:World}{a:Act}(h:gsu ops s o=true)(hs:fD ρ B w s.sl a):Region.wanted o (yielded ops a.tmps)=false:=by
 unfold gsu at h;unfold Region.wanted;split at h
 ·exact absurd h Bool.noConfusion
 ·rename_i j want hg
  rw [hg];split at h
  ·rename_i oj hj
   split at h
   ·rename_i d hd
    split at h
    ·rename_i hb
     obtain ⟨v,hv,hr⟩:=hs d _ hb;obtain ⟨cs,rfl,hcs⟩:=hr;have hj':ops[j]?=some oj:=by rw [← Array.getElem?_toList];exact hj
     simp only [yielded,hj',Option.bind_some,hd,hv];cases want <;> rfl
    ·exact absurd h Bool.noConfusion
   ·exact absurd h Bool.noConfusion
  ·exact absurd h Bool.noConfusion
/-- Two states show an operation the same operands. -/
def af4(s s':AS)(o:Oper):Prop:=∀ x∈o.op.operands,dH s x=dH s' x
def Ext(hp hp':List (Nat×AO)):Prop:=∀ id ob,lk hp id=some ob→lk hp' id=some ob
/-- v is a new object. -/
def af0(ρ:kL)(B0:BS)(w0:Wz)(w w2:World)(ob:AO)(v:Value):Prop:=Below w.heap.size w w2∧(∀ b,jd v=some b→w.heap.size≤b)∧∀ d,ρ d=none→OR (Bd (up ρ d v) B0) w0 w2 ob v
/-- An operation that makes an object. -/
def EvR(P:Program)(s:AS)(o:Oper)(ob:AO):Prop:=∀ (ρ:kL) (B0:BS) (w0:Wz) (w:World) (a:Act) (hp:List (Nat×AO)) (s':AS),Ext s.hp hp→af4 s s' o→eY ρ B0 w0 w hp→fD ρ (Bd ρ B0) w s'.sl a→
 (∃ v w2,(execOp a.eval o).run P w= .ok (.value v) w2∧af0 ρ B0 w0 w w2 ob v)∨∃ f vs,(execOp a.eval o).run P w= .ok (.enter f vs) w∧Calls P f vs w fun e w2=>∃ v,e= .returned v∧af0 ρ B0 w0 w w2 ob v
/-- A call that leaves the objects hpX y. -/
def EvL(P:Program)(s:AS)(o:Oper){Y:Type}(F:Y→Prop)(wV:Y→List (Nat×AO))(ks kw JV:List Nat)(r:DV):Prop:=∀ (ρ:kL) (B0:BS) (w0:Wz) (w:World) (a:Act) (hp:List (Nat×AO)) (s':AS),Ext s.hp hp→af4 s s' o→eY ρ B0 w0 w hp→fD ρ (Bd ρ B0) w s'.sl a→Al ρ JV→
 ∃ f vs,(execOp a.eval o).run P w= .ok (.enter f vs) w∧Calls P f vs w fun e w2=>∃ v ρ2 y,e= .returned v∧F y∧eY ρ2 B0 w0 w2 (wV y ++hp)∧(∀ av u,AR ρ (Bd ρ B0) w av u→AR ρ2 (Bd ρ2 B0) w2 (DJ ks kw av) u)∧(∀ id u,ρ2 id=some u→∃ u',ρ id=some u')∧DR (Bd ρ2 B0) w2 r v
/-- Slots that no operation writes say that these objects are there. -/
def XM(ops:Array Oper)(n:Nat)(s:AS)(JV:List Nat):Prop:=lM (fun id=>∃ t av,lk s.sl t=some av∧tZ av=some id∧Qq (ops.toList.take n).toArray t=true) JV
inductive JY (P:Program) (T:TypeId→Option TI) (ops:Array Oper) (n:Nat) (o:Oper) (s:AS):AS→Prop
 | S {s':AS} (h:aB P T ops o s s'):JY P T ops n o s s'
 | R (ob:AO) (h:EvR P s o ob) (d:Nat) (hdst:o.dst=some d) (hfr:lk s.hp d=none) (hg:jC ops s o=some true:=by rfl) (hd:kG (some d) s.n=true:=by rfl):JY P T ops n o s (s.mk' d ob)
 | Y (x:Value) (tw id:Nat) {av0:AV} {e:TypeId} {sz m:Nat} {el:Nat→Nat→Lf} (h:jr T s o.op=some (.d (.one (.v x)))) (hw:lk s.sl tw=some av0) (hi:tZ av0=some id) (hn:Qq (ops.toList.take n).toArray tw=true) (ho:lk s.hp id=some (.is x (.row e sz m el))) (hg:jC ops s o=some true:=by rfl) (hd:kG o.dst s.n=true:=by rfl):JY P T ops n o s (s.put o.dst (.own id))
 | Gt (hg:jC ops s o=some false) (hd:kG o.dst s.n=true):JY P T ops n o s (s.put o.dst (.ji []))
 | U (hg:gsu ops s o=true) (hd:kG o.dst s.n=true):JY P T ops n o s (s.put o.dst (.ji []))
 | L (r:DV) (wV:List (Nat×AO)) (JV:List Nat) (h:EvL P s o (fun _:Unit=>True) (fun _=>wV) [] [] JV r) (hx:lM (fun p=>lk s.hp p.1=some p.2) wV) (hw:XM ops n s JV) (hg:jC ops s o=some true:=by rfl) (hd:kG o.dst s.n=true:=by rfl):JY P T ops n o s (s.put o.dst (.d r))
section
variable {P:Program} {T:TypeId→Option TI} {ops:Array Oper} {o:Oper} {Q:Qs}
theorem JY.shape{n:Nat}{s s':AS}{d:Nat}(h:JY P T ops n o s s')(hd:o.dst=some d):s'.n=s.n∧s'.sl=(d,yj s') ::s.sl∧(s'.hp=s.hp∨∃ ob,lk s.hp d=none∧s'.hp=(d,ob) ::s.hp):=by
 cases h with
 | S h=>exact h.shape hd
 | L=>simp [AS.put,hd,yj]
 | Y=>simp [AS.put,hd,yj]
 | Gt=>simp [AS.put,hd,yj]
 | U=>simp [AS.put,hd,yj]
 | R ob h d' hdst hfr=>
  rw [hd] at hdst;cases hdst
  exact ⟨rfl,rfl,Or.inr ⟨ob,hfr,rfl⟩⟩
/-- What the states on the way have in common. -/
structure JC(l:List Oper)(n N:Nat)(st:Nat→AS):Prop where
 hr:Uj l.toArray n N
 hnl:n≤l.length
 hD:MS l.toArray n=true
 way:Way l n st
theorem al4{l:List Oper}{n:Nat}{st:Nat→AS}(hl:n≤l.length)(step:∀ i,i < n→∃ o d,l[i]?=some o∧o.dst=some d∧(st (i+1)).n=(st i).n∧(st (i+1)).sl=(d,yj (st (i+1))) ::(st i).sl∧((st (i+1)).hp=(st i).hp∨∃ ob,lk (st i).hp d=none∧(st (i+1)).hp=(d,ob) ::(st i).hp)):Way l n st:=by
 have hp1:∀ i,i < n→∀ id ob,lk (st i).hp id=some ob→lk (st (i+1)).hp id=some ob:=by
  intro i hi id ob hk;obtain ⟨o,d,_,_,_,_,h1 | ⟨ob',h1,h2⟩⟩:=step i hi
  ·rw [h1];exact hk
  ·rw [h2,aV,if_neg (fun e=>by rw [e,hk] at h1;cases h1)];exact hk
 refine ⟨fun i hi=>?_,fun i o d hi ho hdd=>?_,fun i j hij hj=>?_,fun i=>?_⟩
 ·induction i with
  | zero=>rfl
  | succ i ih=>
   obtain ⟨o,d,_,_,h1,_⟩:=step i (by omega);rw [h1,ih (by omega)]
 ·obtain ⟨o',d',h1,h2,_,h3,_⟩:=step i hi
  rw [ho] at h1;cases h1
  rw [hdd] at h2;cases h2
  exact h3
 ·induction j with
  | zero=>
   have:i=0:=by omega
   subst this;exact fun _ _ h=>h
  | succ j ih=>
   intro id ob hk
   by_cases hij':i=j+1
   ·subst hij';exact hk
   ·exact hp1 j (by omega) id ob (ih (by omega) (by omega) id ob hk)
 ·induction i with
  | zero=>
   intro hi id ob hk;exact Or.inl (by rw [hk];rfl)
  | succ i ih=>
   intro hi id ob hk;obtain ⟨o,d,h1,h2,_,_,h3 | ⟨ob',h3,h4⟩⟩:=step i (by omega)
   ·rw [h3] at hk
    rcases ih (by omega) id ob hk with h | ⟨k,o',h5,h6⟩
    ·exact Or.inl h
    ·exact Or.inr ⟨k,o',by omega,h6⟩
   ·rw [h4,aV] at hk
    split at hk
    ·rename_i e
     exact Or.inr ⟨i,o,by omega,h1,by rw [h2,e]⟩
    ·rcases ih (by omega) id ob hk with h | ⟨k,o',h5,h6⟩
     ·exact Or.inl h
     ·exact Or.inr ⟨k,o',by omega,h6⟩
section
variable {l:List Oper} {n N:Nat} {st:Nat→AS}
theorem JC.dst(C:JC l n N st)(i:Nat)(o:Oper)(hi:i < n)(ho:l[i]?=some o):∃ d,o.dst=some d:=Di C.hD i o hi (by simpa using ho)
theorem JC.one(C:JC l n N st)(i k:Nat)(oi ok:Oper)(d:Nat)(hi:i < n)(hk:k < n)(hoi:l[i]?=some oi)(hok:l[k]?=some ok):k≠i→ok.dst=some d→oi.dst≠some d:=C.hr.one i k oi ok d hi hk (by simpa using hoi) (by simpa using hok)
theorem JC.at(C:JC l n N st)(i:Nat)(hi:i≤n)(t:Nat):(∀ (k:Nat) (o:Oper),k < i→l[k]?=some o→o.dst=some t→lk (st i).sl t=some (yj (st (k+1))))∧((∀ (k:Nat) (o:Oper),k < i→l[k]?=some o→o.dst≠some t)→lk (st i).sl t=lk (st 0).sl t):=C.way.at C.hnl C.dst C.one i hi t
/-- What an operation sees of the slots. -/
theorem JC.see(C:JC l n N st){B0:BS}{a0:Act}(hn0:a0.tmps.size=N){i:Nat}{o:Oper}(hi:i < n)(ho:l.toArray[i]?=some o){D:Nat→Prop}{vs:Nat→Value}{w':World}{ρ:kL}(hni:¬ D i)(uG:∀ j,jy o j=true→D j)(yD:∀ k ok,l.toArray[k]?=some ok→D k→∀ j,jy ok j=true→D j) 
  (h3:∀ t av,lk (st 0).sl t=some av→(∀ k o,k < n→l[k]?=some o→D k→o.dst≠some t)→∃ v,a0.tmps[t]?=some v∧AR ρ (Bd ρ B0) w' av v) (h4:∀ k,k < n→D k→AR ρ (Bd ρ B0) w' (yj (st (k+1))) (vs k)):fD ρ (Bd ρ B0) w' (gQ (st i).sl (o.looksAt l.toArray)) (fB (l.take i) 0 a0 vs):=by
 have hr:=C.hr;have hA:=lJ (a0:=a0) (ops:=l.toArray) rfl hr hn0 C.hnl vs i (adC hi);intro t av ht;obtain ⟨hts,hlk⟩:=wL _ t av ht
 by_cases hex:∃ k ok,k < i∧l[k]?=some ok∧ok.dst=some t
 ·obtain ⟨k,ok,hk,hok,hkd⟩:=hex
  have hok':l.toArray[k]?=some ok:=by simpa using hok
  rw [(C.at i (Nat.le_of_lt hi) t).1 k ok hk hok hkd] at hlk;cases hlk
  refine ⟨vs k,hA.wr k ok t (by omega) hok' hk hkd,h4 k (by omega) ?_⟩;rcases hr.look i k o ok t hi (by omega) ho hok' (by omega) hkd hts with ⟨_,h⟩ | ⟨h,_⟩
  ·exact uG k h
  ·omega
 ·have hno:∀ k ok,k < i→l[k]?=some ok→ok.dst≠some t:=fun k ok hk hok hkd=>hex ⟨k,ok,hk,hok,hkd⟩
  rw [(C.at i (Nat.le_of_lt hi) t).2 hno] at hlk;obtain ⟨v,h5,h6⟩:=h3 t av hlk (fun k ok hk hok gJ hkd=>by
   have hok':l.toArray[k]?=some ok:=by simpa using hok
   by_cases hki:k=i
   ·subst hki;exact hni gJ
   ·rcases hr.look i k o ok t hi hk ho hok' hki hkd hts with ⟨h,_⟩ | ⟨_,h⟩
    ·exact hno k ok h hok hkd
    ·exact hni (yD k ok hok' gJ i h))
  refine ⟨v,?_,h6⟩;rw [hA.no t (fun k ok hk hok hki=>hno k ok hki (by simpa using hok))];exact h5
theorem VG(s:AS)(o:Oper)(ops:Array Oper):af4 s ⟨s.n,gQ s.sl (o.looksAt ops),s.hp⟩ o:=by
 intro x hx;cases x with
 | tmp t=>
  have hm:t∈o.looksAt ops:=aiJ _ (aiR.2 ⟨.tmp t,by simpa using hx,rfl⟩);exact (lC _ t hm).symm
 | const v=>cases v <;> rfl
 | _=>rfl
theorem VH(s:AS)(o:Oper)(ops:Array Oper):jC ops s o=jC ops ⟨s.n,gQ s.sl (o.looksAt ops),s.hp⟩ o:=EU (fun t ht=>(lC _ t ht).symm)
theorem adY(s:AS)(o:Oper)(ops:Array Oper):gsu ops s o=gsu ops ⟨s.n,gQ s.sl (o.looksAt ops),s.hp⟩ o:=by
 unfold gsu;cases hg:o.guard with
 | none=>rfl
 | some q=>
  obtain ⟨j,want⟩:=q;simp only;cases hj:ops.toList[j]? with
  | none=>rfl
  | some oj=>
   simp only;cases hd:oj.dst with
   | none=>rfl
   | some d=>
    have hj':ops[j]?=some oj:=by rw [← Array.getElem?_toList];exact hj
    have hm:d∈o.looksAt ops:=by
     unfold Oper.looksAt;rw [hg];exact aiS _ (by simp [hj',hd])
    simp only;rw [lC _ d hm]
/-- Slots that no operation writes hold what they held. -/
theorem JC.wit(C:JC l n N st){B0:BS}{a0:Act}{D:Nat→Prop}{w':World}{ρ:kL}{i:Nat}(hi:i≤n){JV:List Nat}(hw:XM l.toArray n (st i) JV) 
  (h3:∀ t av,lk (st 0).sl t=some av→(∀ k o,k < n→l[k]?=some o→D k→o.dst≠some t)→∃ v,a0.tmps[t]?=some v∧AR ρ (Bd ρ B0) w' av v):Al ρ JV:=by
 intro id aS;obtain ⟨t,av,h1,h2,h4⟩:=hw.get id aS;have hno:∀ (k:Nat) (ok:Oper),k < n→l[k]?=some ok→ok.dst≠some t:=fun k ok hk hok=>Jk h4 (by show (l.take n)[k]?=_;rw [List.getElem?_take,if_pos hk];exact hok)
 rw [(C.at i hi t).2 (fun k ok hk hok=>hno k ok (by omega) hok)] at h1;obtain ⟨u,_,hu⟩:=h3 t _ h1 (fun k ok hk hok _=>hno k ok hk hok);exact rP h2 hu
theorem WL(av:AV):DJ [] [] av=av:=by unfold DJ;split <;> rfl
theorem JC.step(hT:zU P T)(C:JC l n N st){B0:BS}{w0:Wz}{a0:Act}(hn0:a0.tmps.size=N)(uQ:a0.defers= []){i:Nat}{o:Oper}(hi:i < n)(ho:l.toArray[i]?=some o)(hO:JY P T l.toArray n o (st i) (st (i+1))){D:Nat→Prop}{vs:Nat→Value}{w':World}(hni:¬ D i)(uG:∀ j,jy o j=true→D j)(yD:∀ k ok,l.toArray[k]?=some ok→D k→∀ j,jy ok j=true→D j)(hJ:Jr l n st B0 w0 a0 D vs w'){J:(Nat→Value)→World→Prop}(hsub:∀ vs w,Jr l n st B0 w0 a0 (tY D i) vs w→J vs w):
  IfW (Region.wanted o (yielded l.toArray (fB (l.take i) 0 a0 vs).tmps)) (o.wp P (fB (l.take i) 0 a0 vs) w' (fun a' w'=>a'.defers= []∧J (tq vs i (Am.valOf o a')) w') (fun _ _ _=>False)) (J (tq vs i undef) w'):=by
 have dX:l[i]?=some o:=by simpa using ho
 obtain ⟨d,hd⟩:=C.dst i o hi dX;have hr:=C.hr;have hdN:=hr.dst i o d hi ho hd;have hA:=lJ (a0:=a0) (ops:=l.toArray) rfl hr hn0 C.hnl vs i (adC hi);have hJ0:=hJ;obtain ⟨ρ,hc,h2,h3,h4⟩:=hJ;have hSl:=C.see hn0 hi ho hni uG yD h3 h4;have hget:=VG (st i) o l.toArray;have hg':=VH (st i) o l.toArray;have IL:=C.way.hp i n (adC hi) (abJ _);have hAd:(fB (l.take i) 0 a0 vs).defers= []:=hA.defs.trans uQ;have hAs:d < (fB (l.take i) 0 a0 vs).tmps.size:=by rw [hA.size,hn0];exact hdN
 have hdef:∀ v,((fB (l.take i) 0 a0 vs).put o.dst v).defers= []:=fun v=>by rw [hd];exact hAd
 have hval:∀ v,Am.valOf o ((fB (l.take i) 0 a0 vs).put o.dst v)=v:=fun v=>Am.rM hd hAs
 have hsh:=(hO.shape hd).2.1;obtain ⟨s2,hs2⟩:∃ s2,s2=st (i+1):=⟨_,rfl⟩
 rw [← hs2] at hO hsh;have IJ:∀ av,s2.sl=(d,av) ::(st i).sl→yj (st (i+1))=av:=by
  intro av h;rw [← hs2];unfold yj;rw [h]
 have fin:∀ {w2:World} {v:Value} {av:AV},s2=(st i).put o.dst av→Below w'.heap.size w' w2→AR ρ (Bd ρ B0) w2 av v→J (tq vs i v) w2:=@fun w2 v av e hb hv=>hsub _ _ (Jr.same hb hc h2 h3 h4 (by rw [IJ av (by rw [e,hd];rfl)];exact hv) hni)
 have new:∀ {w2:World} {v:Value} {ob:AO},s2=(st i).mk' d ob→lk (st i).hp d=none→af0 ρ B0 w0 w' w2 ob v→J (tq vs i v) w2:=by
  intro w2 v ob e hfr ⟨hb,hvb,hob⟩;have hav:=IJ (ob.av d) (by rw [e];rfl);have hnone:(lk (st 0).hp d)=none:=by
   cases hq:lk (st 0).hp d with
   | none=>rfl
   | some q=>rw [C.way.hp 0 i (Nat.zero_le _) (Nat.le_of_lt hi) d q hq] at hfr;cases hfr
  have hρ:ρ d=none:=by
   cases hq:ρ d with
   | none=>rfl
   | some u=>
    rcases h2 d u hq with h5 | ⟨k,ok,hk',gJ,hok,hkd⟩
    ·rw [hnone] at h5;cases h5
    ·by_cases hki:k=i
     ·subst hki;exact absurd gJ hni
     ·exact absurd hd (C.one i k o ok d hi hk' dX hok hki hkd)
  have hO2:=hob d hρ;have hlast:lk (st n).hp d=some ob:=by
   refine C.way.hp (i+1) n (by omega) (abJ _) d ob ?_;rw [← hs2,e];show lk ((d,ob) ::(st i).hp) d=some ob
   rw [aV,if_pos rfl]
  have hc2:eY (up ρ d v) B0 w0 w2 (st n).hp:=hc.new hρ hb hvb (fun _ _ h _=>h) hlast hO2;refine hsub _ _ ⟨_,hc2,fun id u hu=>?_,fun t av ht hno=>?_,fun k hk' gJ=>?_⟩
  ·unfold up at hu
   split at hu
   ·rename_i e
    exact Or.inr ⟨i,o,hi,Or.inr rfl,dX,by rw [hd,e]⟩
   ·rcases h2 id u hu with h5 | ⟨k,ok,hk',gJ,h5⟩
    ·exact Or.inl h5
    ·exact Or.inr ⟨k,ok,hk',Or.inl gJ,h5⟩
  ·obtain ⟨u,h5,h6⟩:=h3 t av ht (fun k o hk ho gJ=>hno k o hk ho (Or.inl gJ))
   exact ⟨u,h5,h6.new hρ hb hvb⟩
  ·unfold tq
   by_cases e:k=i
   ·rw [if_pos e,e,hav]
    exact AO.CV hO2 (by simp [up])
   ·rw [if_neg e]
    rcases gJ with gJ | gJ
    ·exact (h4 k hk' gJ).new hρ hb hvb
    ·exact absurd gJ e
 have own:∀ {x:Value} {id:Nat} {e:TypeId} {sz m:Nat} {el:Nat→Nat→Lf},s2=(st i).put o.dst (.own id)→jC l.toArray ⟨(st i).n,gQ (st i).sl (o.looksAt l.toArray),(st i).hp⟩ o=some true→jr T (st i) o.op=some (.d (.one (.v x)))→XM l.toArray n (st i) [id]→lk (st i).hp id=some (.is x (.row e sz m el))→IfW (Region.wanted o (yielded l.toArray (fB (l.take i) 0 a0 vs).tmps)) (o.wp P (fB (l.take i) 0 a0 vs) w' (fun a' w'=>a'.defers= []∧J (tq vs i (Am.valOf o a')) w') (fun _ _ _=>False)) (J (tq vs i undef) w'):=by
  intro x id e sz m el es hg h hw ho;rw [vZ (T:=T) (op:=o.op) (s:=st i) (s':=⟨(st i).n,gQ (st i).sl (o.looksAt l.toArray),(st i).hp⟩) rfl hget] at h;obtain ⟨v,hrun,hv⟩:=Bz (s:=⟨(st i).n,gQ (st i).sl (o.looksAt l.toArray),(st i).hp⟩) hT hSl hc IL h;obtain ⟨y,hy⟩:=C.wit (adC hi) hw h3 id (by simp);obtain ⟨ob,ho1,ho2⟩:=hc.obj id y hy;rw [IL id _ ho] at ho1;cases ho1
  exact gX (dZ hg hSl) (gV (a:=a0) hrun ⟨hdef v,by rw [hval];exact fin es (Below.refl _ _) (NT hv hy ho2)⟩)
 cases hO with
 | Y x tw id h hw hi2 hn ho hg hk=>
  rw [hg'] at hg;exact own rfl hg h ⟨⟨tw,_,hw,hi2,hn⟩,Pe⟩ ho
 | Gt hg hk=>
  rw [hg'] at hg;exact DF (dZ hg hSl) (fin (av:= .ji []) rfl (Below.refl _ _) ⟨[],rfl,Pe⟩)
 | U hg hk=>
  rw [adY] at hg;exact DF (Zf hg hSl) (fin (av:= .ji []) rfl (Below.refl _ _) ⟨[],rfl,Pe⟩)
 | R ob h d' hdd hfr hg hk=>
  rw [hd] at hdd;cases hdd
  rw [hg'] at hg;refine gX (dZ hg hSl) ?_;rcases h ρ B0 w0 w' (fB (l.take i) 0 a0 vs) _ ⟨(st i).n,_,(st i).hp⟩ IL hget hc hSl with ⟨v,w2,hrun,hnew⟩ | ⟨f,us,hrun,hcl⟩
  ·exact gV (a:=a0) hrun ⟨hdef v,by rw [hval];exact new rfl hfr hnew⟩
  ·unfold Oper.wp
   rw [hrun];refine hcl.mono ?_;rintro e w2 ⟨v,rfl,hnew⟩;exact ⟨hdef v,by rw [hval];exact new rfl hfr hnew⟩
 | L r wV JV h hx hw hg hk=>
  rw [hg'] at hg;obtain ⟨f,us,hrun,hcl⟩:=h ρ B0 w0 w' (fB (l.take i) 0 a0 vs) _ ⟨(st i).n,_,(st i).hp⟩ IL hget hc hSl (C.wit (adC hi) hw h3);refine gX (dZ hg hSl) ?_;unfold Oper.wp;rw [hrun];refine hcl.mono ?_;rintro e w2 ⟨v,ρ2,_,rfl,_,hc2,har,hdm,hv⟩;refine ⟨hdef v,?_⟩;rw [hval];have hav:=IJ (.d r) (by simp [AS.put,hd]);have har':∀ av u,AR ρ (Bd ρ B0) w' av u→AR ρ2 (Bd ρ2 B0) w2 av u:=fun av u q=>by have:=har av u q;rwa [WL] at this
  have hlx:∀ id,lk (wV ++(st n).hp) id=lk (st n).hp id:=fun id=>by
   rw [uY];cases hq:lk wV id with
   | none=>rfl
   | some ob=>exact (IL id ob (hx.get _ (kK hq))).symm
  refine hsub _ _ ⟨ρ2,eY.lkc hc2 (fun id _=>hlx id),fun id u hu=>?_,fun t av ht hno=>?_,fun k hk' gJ=>?_⟩
  ·obtain ⟨u',hu'⟩:=hdm id u hu
   rcases h2 id u' hu' with h5 | ⟨k,ok,hk',gJ,h5⟩
   ·exact Or.inl h5
   ·exact Or.inr ⟨k,ok,hk',Or.inl gJ,h5⟩
  ·obtain ⟨u,h5,h6⟩:=h3 t av ht (fun k o hk ho gJ=>hno k o hk ho (Or.inl gJ))
   exact ⟨u,h5,har' _ _ h6⟩
  ·unfold tq
   by_cases e:k=i
   ·rw [if_pos e,e,hav];exact hv
   ·rw [if_neg e]
    rcases gJ with gJ | gJ
    ·exact har' _ _ (h4 k hk' gJ)
    ·exact absurd gJ e
 | S hO=>
  cases hO with
  | V av h hg hk=>
   rw [hg'] at hg;rw [vZ (T:=T) (op:=o.op) (s:=st i) (s':=⟨(st i).n,gQ (st i).sl (o.looksAt l.toArray),(st i).hp⟩) rfl hget] at h;obtain ⟨v,hrun,hv⟩:=Bz (s:=⟨(st i).n,gQ (st i).sl (o.looksAt l.toArray),(st i).hp⟩) hT hSl hc IL h;exact gX (dZ hg hSl) (gV (a:=a0) hrun ⟨hdef v,by rw [hval];exact fin rfl (Below.refl _ _) hv⟩)
  | Y x tw id h hw hi2 hn ho hl hg hk=>
   have hn':Qq (l.take n).toArray tw=true:=afj.2 fun o ho=>afj.1 hn o (aio ho)
   rw [hg'] at hg;exact own rfl hg h ⟨⟨tw,_,hw,hi2,hn'⟩,Pe⟩ ho
  | B av h hg hk=>
   rw [hg'] at hg;rw [EO (T:=T) (op:=o.op) (s:=st i) (s':=⟨(st i).n,gQ (st i).sl (o.looksAt l.toArray),(st i).hp⟩) hget] at h;obtain ⟨v,w2,hrun,hb,hv⟩:=MW (s:=⟨(st i).n,gQ (st i).sl (o.looksAt l.toArray),(st i).hp⟩) hT hSl hc h;exact gX (dZ hg hSl) (gV (a:=a0) hrun ⟨hdef v,by rw [hval];exact fin rfl hb hv⟩)
  | G hg hk=>
   rw [hg'] at hg;exact DF (dZ hg hSl) (fin (av:= .dead) rfl (Below.refl _ _) trivial)
  | C h hcl hf ha hg hk=>
   rename_i c f cap ds res;rw [hg'] at hg;have hop':o.op= .call c:=by
    unfold iw at hcl;split at hcl
    ·rename_i h;cases hcl;exact h
    ·cases hcl
   have hgc:∀ x∈c.operands,dH (st i) x=dH ⟨(st i).n,gQ (st i).sl (o.looksAt l.toArray),(st i).hp⟩ x:=fun x hx=>hget x (by rw [hop'];exact hx)
   rw [BA hgc] at hf;rw [qB _ (fun x hx=>hgc x (Array.mem_append.2 (Or.inr (by simpa using hx))))] at ha;obtain ⟨us,hus,hrun⟩:=wO (s:=⟨(st i).n,gQ (st i).sl (o.looksAt l.toArray),(st i).hp⟩) hSl hcl hf ha h.en;refine gX (dZ hg hSl) ?_;unfold Oper.wp;rw [hrun];refine (h.go (Bd ρ B0) w' us hc.MN hus).mono ?_;rintro e w2 ⟨v,rfl,hb,hv⟩;exact ⟨hdef v,by rw [hval];exact fin rfl hb hv.lift⟩
  | S id ob h hdst hg=>rw [hd] at hdst;cases hdst
  | X av h hg hk=>
   rw [hg'] at hg;obtain ⟨v,hrun,hv⟩:=h ρ (Bd ρ B0) w' (fB (l.take i) 0 a0 vs) (fun x hx kV hgx=>bQ (s:=⟨(st i).n,gQ (st i).sl (o.looksAt l.toArray),(st i).hp⟩) hSl ((hget x hx).symm.trans hgx));exact gX (dZ hg hSl) (gV (a:=a0) hrun ⟨hdef v,by rw [hval];exact fin rfl (Below.refl _ _) hv⟩)
  | N ob h d' hdd hfr hg hk=>
   rw [hd] at hdd;cases hdd
   rw [hg'] at hg;rw [EP (T:=T) (op:=o.op) (s:=st i) (s':=⟨(st i).n,gQ (st i).sl (o.looksAt l.toArray),(st i).hp⟩) hget] at h;obtain ⟨v,w2,hrun,hb,hvb,hob⟩:=Na (s:=⟨(st i).n,gQ (st i).sl (o.looksAt l.toArray),(st i).hp⟩) hT hSl hc h;exact gX (dZ hg hSl) (gV (a:=a0) hrun ⟨hdef v,by rw [hval];exact new rfl hfr ⟨hb,hvb,fun d' hρ=>hob _ (vk hρ hvb)⟩⟩)
/-- The beginning. -/
theorem JC.start(C:JC l n N st){B0:BS}{w0:Wz}{a0:Act}{w:World}{ρ0:kL}(hc0:eY ρ0 B0 w0 w (st 0).hp)(hs0:fD ρ0 (Bd ρ0 B0) w (st 0).sl a0):Jr l n st B0 w0 a0 (fun _=>False) (fun _=>undef) w.drew:=by
 have hK:ku (Bd ρ0 B0) w w.drew:=⟨abJ _,fun _ _ _=>rfl⟩;refine ⟨ρ0,⟨hc0.bel.step (Below.refl _ _).drew,hc0.b0,fun id v h=>?_,hc0.dist⟩,fun id v h=>?_,fun t av ht _=>?_,fun k _ h=>h.elim⟩
 ·obtain ⟨ob,h1,h2⟩:=hc0.obj id v h
  exact ⟨ob,C.way.hp 0 n (abR _) (abJ _) id ob h1,h2.mv hK (fun _ _ hb=>hb) (fun _ _=>rfl)⟩
 ·obtain ⟨ob,h1,h2⟩:=hc0.obj id v h
  exact Or.inl (by rw [h1];rfl)
 ·obtain ⟨v,h1,h2⟩:=hs0 t av ht
  exact ⟨v,h1,AR.mv hK (fun _ _ hb=>hb) (fun _ _=>rfl) h2⟩
/-- The end. -/
theorem JC.fin(C:JC l n N st){B0:BS}{w0:Wz}{a0:Act}(hn0:a0.tmps.size=(st 0).n)(hN:(st 0).n=N)(uQ:a0.defers= []){D:Nat→Prop}{vs:Nat→Value}{w':World}(hall:∀ k,k < n→D k)(hJ:Jr l n st B0 w0 a0 D vs w'):Kv (st n) B0 w0 (fB (l.take n) 0 a0 vs) w':=by
 obtain ⟨ρ,hc,h2,h3,h4⟩:=hJ;have hA:=lJ (a0:=a0) (ops:=l.toArray) rfl C.hr (hn0.trans hN) C.hnl vs n (abJ _);refine ⟨ρ,hc,?_,hA.defs.trans uQ,fun t av ht=>?_⟩
 ·rw [hA.size,hn0,C.way.nn n (Nat.le_refl _)]
 ·by_cases hex:∃ k ok,k < n∧l[k]?=some ok∧ok.dst=some t
  ·obtain ⟨k,ok,hk,hok,hkd⟩:=hex
   rw [(C.at n (Nat.le_refl _) t).1 k ok hk hok hkd] at ht;cases ht
   exact ⟨vs k,hA.wr k ok t hk (by simpa using hok) hk hkd,h4 k hk (hall k hk)⟩
  ·have hno:∀ k ok,k < n→l[k]?=some ok→ok.dst≠some t:=fun k ok hk hok hkd=>hex ⟨k,ok,hk,hok,hkd⟩
   rw [(C.at n (Nat.le_refl _) t).2 hno] at ht;obtain ⟨v,h5,h6⟩:=h3 t av ht (fun k ok hk hok _=>hno k ok hk hok);refine ⟨v,?_,h6⟩;rw [hA.no t (fun k ok hk hok _=>hno k ok hk (by simpa using hok))];exact h5
end
/-- One after another, and K of what comes of it. -/
inductive ChR (P:Program) (T:TypeId→Option TI) (ops:Array Oper) (n:Nat) (K:AS→Prop):List Oper→AS→Prop
 | nil {s:AS} (h:K s):ChR P T ops n K [] s
 | cons {o:Oper} {l:List Oper} {s s1:AS} (h:JY P T ops n o s s1) (k:ChR P T ops n K l s1):ChR P T ops n K (o ::l) s
theorem ChR.st{n:Nat}{K:AS→Prop}{l:List Oper}{s:AS}(h:ChR P T ops n K l s):∃ st:Nat→AS,st 0=s∧K (st l.length)∧∀ i o,l[i]?=some o→JY P T ops n o (st i) (st (i+1)):=by
 induction h with
 | nil h=>rename_i s;exact ⟨fun _=>s,rfl,h,fun i o h=>by simp at h⟩
 | cons h k ih=>
  rename_i o l s s1;obtain ⟨st,h1,h2,h3⟩:=ih;refine ⟨fun i=>match i with | 0=>s | i+1=>st i,rfl,h2,fun i o' ho=>?_⟩;cases i with
  | zero=>
   obtain rfl:o=o':=by simpa using ho
   show JY P T ops n o s (st 0)
   rw [h1];exact h
  | succ i=>exact h3 i o' (by simpa using ho)
/-- A REGION THAT DRAWS, with such operations. -/
theorem Yn(hT:zU P T){L:Nat→Bool}{id:Nat}{l:List Oper}(n:Nat){s:AS}(hm:P.follows .mixedOrders=true)(hB:Yi l.toArray n s.n L)(hL:∀ i,i < n→L i=true→IY l.toArray i=true∧∀ c s,¬ Q (.panic c) s)(hD:MS l.toArray n=true)(h:ChR P T l.toArray n (fun s1=>AL P l.toArray Q (l.drop n) s1) (l.take n) s):AW P (.region id l.toArray true) Q s:=by
 rintro B0 w0 a0 w ⟨ρ0,hc0,hn0,uQ,hs0⟩;have hB':=hB;obtain ⟨⟨⟨⟨hsel,Nr⟩,Ko⟩,_⟩,_⟩:=hB';have hnl:n≤l.length:=by simpa using Ko
 obtain ⟨st,Tf,P7,hop0⟩:=h.st;have hlen:(l.take n).length=n:=by simp;omega
 rw [hlen] at P7;have hop:∀ i o,i < n→l[i]?=some o→JY P T l.toArray n o (st i) (st (i+1)):=fun i o hi ho=>hop0 i o (by rw [List.getElem?_take,if_pos hi];exact ho)
 have C:JC l n s.n st:=⟨Ec Nr,hnl,hD,al4 hnl fun i hi=>by
  have ho:l[i]?=some (l[i]'(by omega)):=by simp
  obtain ⟨d,hdd⟩:=Di hD i (l[i]'(by omega)) hi (by simp);exact ⟨_,d,ho,hdd,(hop i _ hi ho).shape hdd⟩⟩
 subst Tf;exact rG (J:=Jr l n st B0 w0 a0) n (st 0).n hm hn0 uQ hB (fun i hi h=>⟨(hL i hi h).1,fun c a w d v ⟨s',hq,_⟩=>absurd hq ((hL i hi h).2 c s')⟩) (fun D D' vs vs' w h=>Jr.congr D D' vs vs' w h) (C.start hc0 hs0)
  (fun i o hi ho D vs w' hni uG yD hJ=>C.step hT hn0 uQ hi ho (hop i o hi (by simpa using ho)) hni uG yD hJ (fun _ _ h=>h)) (fun D vs w' hall hJ=>P7 B0 w0 _ w' (C.fin hn0 rfl uQ hall hJ))
theorem jG(hT:zU P T){id:Nat}{l:List Oper}(n:Nat)(ls:List Nat){s:AS}(hm:P.follows .mixedOrders=true)(hB:O5 l.toArray n s.n ls=true)(hD:MS l.toArray n=true)(hP:∀ c s,¬ Q (.panic c) s)(h:ChR P T l.toArray n (fun s1=>AL P l.toArray Q (l.drop n) s1) (l.take n) s):AW P (.region id l.toArray true) Q s:=Yn hT n hm (MK hB).1 (fun i _ h=>⟨(MK hB).2 i h,hP⟩) hD h
end
end
/-- Strike an object. -/
def dk:List (Nat×AO)→Nat→List (Nat×AO)
 | [],_=> []
 | (k,x) ::l,t=>bif Nat.beq k t then dk l t else (k,x) ::dk l t
theorem Vj:∀ (l:List (Nat×AO)) (t u:Nat),lk (dk l t) u=if t=u then none else lk l u
 | [],t,u=>by simp [dk,lk]
 | (k,x) ::l,t,u=>by
  unfold dk
  by_cases h:k=t
  ·rw [show Nat.beq k t=true from by rw [h];exact Nat.beq_refl t,cond_true,Vj l t u,aV]
   by_cases hu:t=u
   ·rw [if_pos hu,if_pos hu]
   ·rw [if_neg hu,if_neg hu,if_neg (by omega)]
  ·rw [show Nat.beq k t=false from by rw [← Bool.not_eq_true];exact fun e=>h (Nat.eq_of_beq_eq_true e),cond_false,aV,aV,Vj l t u]
   by_cases hk:k=u
   ·rw [if_pos hk,if_pos hk,if_neg (by omega)]
   ·rw [if_neg hk,if_neg hk]
/-- What spoke of the object id says x, or nothing. -/
def fz(av:AV)(id:Nat)(own:AV)(ptr:Nat→AV):AV:=match av with
 | .own k=>bif Nat.beq k id then own else .own k
 | .ptr k off=>bif Nat.beq k id then ptr off else .ptr k off
 | .dW k sz i j=>bif Nat.beq k id then .dead else .dW k sz i j
 | .lim k j=>bif Nat.beq k id then .dead else .lim k j
 | .qL k j=>bif Nat.beq k id then .dead else .qL k j
 | .wit k=>bif Nat.beq k id then .dead else .wit k
 | av=>av
def WA(id:Nat)(own:AV)(ptr:Nat→AV):List (Nat×AV)→List (Nat×AV)
 | []=> []
 | (t,av) ::l=>(t,fz av id own ptr) ::WA id own ptr l
theorem xQ{id:Nat}{own:AV}{ptr:Nat→AV}:∀ (l:List (Nat×AV)) (t:Nat) (av:AV),lk (WA id own ptr l) t=some av→∃ kV,lk l t=some kV∧av=fz kV id own ptr
 | [],t,av,h=>by cases h
 | (k,x) ::l,t,av,h=>by
  unfold WA at h;rw [aV] at h ⊢;split at h
  ·rename_i e;cases h;rw [if_pos e];exact ⟨x,rfl,rfl⟩
  ·rename_i e;rw [if_neg e];exact xQ l t av h
/-- Without the object id. -/
def less(ρ:kL)(id:Nat):kL:=fun k=>if k=id then none else ρ k
theorem AR.fz{ρ:kL}{B0:BS}{w:World}{av own:AV}{ptr:Nat→AV}{id:Nat}{c v:Value}(aS:ρ id=some v)(h:AR ρ (Bd ρ B0) w av c)(hown:(∃ a n cap,v= .slice a n cap)→AR (less ρ id) (Bd (less ρ id) B0) w own v) 
  (an9:∀ g off,v= .pointer (some ⟨g,0,none⟩)→AR (less ρ id) (Bd (less ρ id) B0) w (ptr off) (.pointer (some ⟨g,off,none⟩))):AR (less ρ id) (Bd (less ρ id) B0) w (Go.Proofs.YtapmpcgekdplfaaGreat.fz av id own ptr) c:=by
 have hK:ku (Bd ρ B0) w w:=⟨abJ _,fun _ _ _=>rfl⟩;have hB:∀ b,b < w.heap.size→Bd (less ρ id) B0 b→Bd ρ B0 b:=by
  rintro b _ (h | ⟨k,u,h1,h2⟩)
  ·exact Or.inl h
  ·unfold less at h1
   split at h1
   ·cases h1
   ·exact Or.inr ⟨k,u,h1,h2⟩
 have keep:(∀ k,av.on k=true→k≠id)→AR (less ρ id) (Bd (less ρ id) B0) w av c:=fun hne=>AR.mv hK hB (fun k hk=>by unfold less;rw [if_neg (hne k hk)]) h
 cases av with
 | own k=>
  show AR _ _ _ (bif Nat.beq k id then own else .own k) c
  by_cases e:k=id
  ·subst e
   rw [Nat.beq_refl,cond_true];obtain ⟨h1,h2⟩:=h;rw [aS] at h1;cases h1
   exact hown h2
  ·rw [show Nat.beq k id=false from by rw [← Bool.not_eq_true];exact fun h=>e (Nat.eq_of_beq_eq_true h),cond_false]
   exact keep (fun k' hk'=>by have:k=k':=abO hk';omega)
 | ptr k off=>
  show AR _ _ _ (bif Nat.beq k id then ptr off else .ptr k off) c
  by_cases e:k=id
  ·subst e
   rw [Nat.beq_refl,cond_true];obtain ⟨g,h1,rfl⟩:=h;rw [aS] at h1;cases h1
   exact an9 g off rfl
  ·rw [show Nat.beq k id=false from by rw [← Bool.not_eq_true];exact fun h=>e (Nat.eq_of_beq_eq_true h),cond_false]
   exact keep (fun k' hk'=>by have:k=k':=abO hk';omega)
 | dW k sz i j=>
  show AR _ _ _ (bif Nat.beq k id then .dead else .dW k sz i j) c
  by_cases e:k=id
  ·subst e
   rw [Nat.beq_refl,cond_true];trivial
  ·rw [show Nat.beq k id=false from by rw [← Bool.not_eq_true];exact fun h=>e (Nat.eq_of_beq_eq_true h),cond_false]
   exact keep (fun k' hk'=>by have:k=k':=abO hk';omega)
 | lim k j=>
  show AR _ _ _ (bif Nat.beq k id then .dead else .lim k j) c
  by_cases e:k=id
  ·subst e
   rw [Nat.beq_refl,cond_true];trivial
  ·rw [show Nat.beq k id=false from by rw [← Bool.not_eq_true];exact fun h=>e (Nat.eq_of_beq_eq_true h),cond_false]
   exact keep (fun k' hk'=>by have:k=k':=abO hk';omega)
 | qL k j=>
  show AR _ _ _ (bif Nat.beq k id then .dead else .qL k j) c
  by_cases e:k=id
  ·subst e
   rw [Nat.beq_refl,cond_true];trivial
  ·rw [show Nat.beq k id=false from by rw [← Bool.not_eq_true];exact fun h=>e (Nat.eq_of_beq_eq_true h),cond_false]
   exact keep (fun k' hk'=>by have:k=k':=abO hk';omega)
 | wit k=>
  show AR _ _ _ (bif Nat.beq k id then .dead else .wit k) c
  by_cases e:k=id
  ·subst e
   rw [Nat.beq_refl,cond_true];trivial
  ·rw [show Nat.beq k id=false from by rw [← Bool.not_eq_true];exact fun h=>e (Nat.eq_of_beq_eq_true h),cond_false]
   exact keep (fun k' hk'=>by have:k=k':=abO hk';omega)
 | d x=>exact keep (fun k hk=>by cases hk)
 | ji x=>exact keep (fun k hk=>by cases hk)
 | dead=>trivial
theorem eY.less{ρ:kL}{B0:BS}{w0:Wz}{w:World}{hp:List (Nat×AO)}{id:Nat}(h:eY ρ B0 w0 w hp):eY (less ρ id) B0 w0 w (dk hp id):=by
 have hK:ku (Bd ρ B0) w w:=⟨abJ _,fun _ _ _=>rfl⟩;have hsub:∀ k v,Go.Proofs.YtapmpcgekdplfaaGreat.less ρ id k=some v→k≠id∧ρ k=some v:=by
  intro k v hk;unfold Go.Proofs.YtapmpcgekdplfaaGreat.less at hk;split at hk
  ·cases hk
  ·rename_i e;exact ⟨e,hk⟩
 refine ⟨h.bel,h.b0,fun k v hk=>?_,fun k k' v v' b h1 h2 h3 h4=>h.dist k k' v v' b (hsub _ _ h1).2 (hsub _ _ h2).2 h3 h4⟩;obtain ⟨h1,h2⟩:=hsub k v hk;obtain ⟨ob,h3,h4⟩:=h.obj k v h2;refine ⟨ob,by rw [Vj,if_neg (fun e=>h1 e.symm)];exact h3,h4.mv hK (fun b _ hb=>?_) (fun _ _=>rfl)⟩;rcases hb with hb | ⟨k',u,h5,h6⟩
 ·exact Or.inl hb
 ·exact Or.inr ⟨k',u,(hsub _ _ h5).2,h6⟩
/-- The object's block is nobody else's. -/
theorem eY.lone{ρ:kL}{B0:BS}{w0:Wz}{w:World}{hp:List (Nat×AO)}{id b:Nat}{v:Value}(h:eY ρ B0 w0 w hp)(aS:ρ id=some v)(hb:jd v=some b):¬ Bd (Go.Proofs.YtapmpcgekdplfaaGreat.less ρ id) B0 b:=by
 obtain ⟨ob,_,h2⟩:=h.obj id v aS;obtain ⟨h3,_⟩:=h2.blk b hb;rintro (h4 | ⟨k,u,h4,h5⟩)
 ·obtain ⟨h6,h7⟩:=h.b0 b h4
  rcases h3 with h3 | h3
  ·omega
  ·exact h7 h3
 ·unfold Go.Proofs.YtapmpcgekdplfaaGreat.less at h4
  split at h4
  ·cases h4
  ·rename_i e;exact e (h.dist k id u v b h4 aS h5 hb)
theorem I7{ρ:kL}{B0:BS}{id:Nat}(b:Nat)(h:Bd (less ρ id) B0 b):Bd ρ B0 b:=by
 rcases h with h | ⟨k,u,h1,h2⟩
 ·exact Or.inl h
 ·unfold less at h1
  split at h1
  ·cases h1
  ·exact Or.inr ⟨k,u,h1,h2⟩
/-- A row of the frame's own is written no more. -/
theorem jl{s:AS}(id:Nat){e:TypeId}{sz n:Nat}{el:Nat→Nat→Lf}(h:lk s.hp id=some (.row e sz n el)):Wk s ⟨s.n,WA id (.d (.one (.row sz n el))) (fun _=> .dead) s.sl,dk s.hp id⟩:=by
 rintro B0 w0 a w ⟨ρ,hc,hsz,hdf,hs⟩;have hK:ku (Bd ρ B0) w w:=⟨abJ _,fun _ _ _=>rfl⟩;cases aS:ρ id with
 | none=>
  have hl:less ρ id=ρ:=by
   funext k;unfold less;split
   ·rename_i e;rw [e,aS]
   ·rfl
  refine ⟨less ρ id,hc.less,hsz,hdf,fun t av ht=>?_⟩;obtain ⟨kV,h1,rfl⟩:=xQ _ _ _ ht;obtain ⟨c,h2,h3⟩:=hs t kV h1;refine ⟨c,h2,?_⟩;rw [hl];cases kV with
  | own k=>
   have:k≠id:=fun e=>by subst e;rw [h3.1] at aS;cases aS
   have hb:Nat.beq k id=false:=by rw [← Bool.not_eq_true];exact fun h=>this (abO h)
   simp only [fz,hb,cond_false];exact h3
  | ptr k off=>
   have:k≠id:=fun e=>by subst e;obtain ⟨g,h4,_⟩:=h3;rw [h4] at aS;cases aS
   have hb:Nat.beq k id=false:=by rw [← Bool.not_eq_true];exact fun h=>this (abO h)
   simp only [fz,hb,cond_false];exact h3
  | dW k sz' i j=>
   have:k≠id:=fun e=>by subst e;obtain ⟨g,_,_,h4,_⟩:=h3;rw [h4] at aS;cases aS
   have hb:Nat.beq k id=false:=by rw [← Bool.not_eq_true];exact fun h=>this (abO h)
   simp only [fz,hb,cond_false];exact h3
  | lim k j=>
   have:k≠id:=fun e=>by subst e;obtain ⟨_,_,h4,_⟩:=h3;rw [h4] at aS;cases aS
   have hb:Nat.beq k id=false:=by rw [← Bool.not_eq_true];exact fun h=>this (abO h)
   simp only [fz,hb,cond_false];exact h3
  | qL k j=>
   have:k≠id:=fun e=>by subst e;obtain ⟨_,h4,_⟩:=h3;rw [h4] at aS;cases aS
   have hb:Nat.beq k id=false:=by rw [← Bool.not_eq_true];exact fun h=>this (abO h)
   simp only [fz,hb,cond_false];exact h3
  | wit k=>
   have:k≠id:=fun e=>by subst e;obtain ⟨_,h4⟩:=h3;rw [h4] at aS;cases aS
   have hb:Nat.beq k id=false:=by rw [← Bool.not_eq_true];exact fun h=>this (abO h)
   simp only [fz,hb,cond_false];exact h3
  | d x=>exact h3
  | ji x=>exact h3
  | dead=>trivial
 | some v=>
  refine ⟨less ρ id,hc.less,hsz,hdf,fun t av ht=>?_⟩;obtain ⟨kV,h1,rfl⟩:=xQ _ _ _ ht;obtain ⟨c,h2,h3⟩:=hs t kV h1;refine ⟨c,h2,h3.fz aS (fun _=>?_) (fun _ _ _=>trivial)⟩;obtain ⟨ob,o1,o2⟩:=hc.obj id v aS;rw [h] at o1;cases o1
  obtain ⟨xs,⟨⟨hxl,hown⟩,hbk⟩,hel⟩:=o2;rcases hown with ⟨rfl,h0⟩ | ⟨g,cap,cur,rfl,hge,hblk,hn,hm,hsz',htk⟩
  ·subst h0
   exact ⟨none,0,rfl,abJ _,fun _=>rfl,fun i hi=>absurd hi (ab2 _)⟩
  ·refine ⟨some ⟨g,0,none⟩,cap,rfl,hn,fun h=>(by cases h),fun i hi=>⟨g,0,rfl,hc.lone aS rfl,lt_of_block hblk,fun j hj=>?_⟩⟩
   obtain ⟨x,hx1,hx2⟩:=hel i j hi hj;refine ⟨x,?_,dY.mv hK (fun b _ hb=>I7 b hb) _ hx2⟩;rw [Nat.zero_add,cell_of_row w g _ cur _ (0,0) hblk,← Array.getElem?_toList];rw [← htk,List.getElem?_take] at hx1;split at hx1
   ·exact hx1
   ·cases hx1
/-- A variable of the frame's own is written no more. -/
theorem F7{s:AS}(id:Nat){t:TypeId}{cs:List Lf}(h:lk s.hp id=some (.box t cs)):Wk s ⟨s.n,WA id .dead (fun off=> .d (.one (.at (cs.length-off) fun q=>(cs[off+q]?).getD (.v undef)))) s.sl,dk s.hp id⟩:=by
 rintro B0 w0 a w ⟨ρ,hc,hsz,hdf,hs⟩;have hK:ku (Bd ρ B0) w w:=⟨abJ _,fun _ _ _=>rfl⟩;cases aS:ρ id with
 | none=>
  have hl:less ρ id=ρ:=by
   funext k;unfold less;split
   ·rename_i e;rw [e,aS]
   ·rfl
  refine ⟨less ρ id,hc.less,hsz,hdf,fun t av ht=>?_⟩;obtain ⟨kV,h1,rfl⟩:=xQ _ _ _ ht;obtain ⟨c,h2,h3⟩:=hs t kV h1;refine ⟨c,h2,?_⟩;rw [hl];cases kV with
  | own k=>
   have:k≠id:=fun e=>by subst e;rw [h3.1] at aS;cases aS
   have hb:Nat.beq k id=false:=by rw [← Bool.not_eq_true];exact fun h=>this (abO h)
   simp only [fz,hb,cond_false];exact h3
  | ptr k off=>
   have:k≠id:=fun e=>by subst e;obtain ⟨g,h4,_⟩:=h3;rw [h4] at aS;cases aS
   have hb:Nat.beq k id=false:=by rw [← Bool.not_eq_true];exact fun h=>this (abO h)
   simp only [fz,hb,cond_false];exact h3
  | dW k sz' i j=>
   have:k≠id:=fun e=>by subst e;obtain ⟨g,_,_,h4,_⟩:=h3;rw [h4] at aS;cases aS
   have hb:Nat.beq k id=false:=by rw [← Bool.not_eq_true];exact fun h=>this (abO h)
   simp only [fz,hb,cond_false];exact h3
  | lim k j=>
   have:k≠id:=fun e=>by subst e;obtain ⟨_,_,h4,_⟩:=h3;rw [h4] at aS;cases aS
   have hb:Nat.beq k id=false:=by rw [← Bool.not_eq_true];exact fun h=>this (abO h)
   simp only [fz,hb,cond_false];exact h3
  | qL k j=>
   have:k≠id:=fun e=>by subst e;obtain ⟨_,h4,_⟩:=h3;rw [h4] at aS;cases aS
   have hb:Nat.beq k id=false:=by rw [← Bool.not_eq_true];exact fun h=>this (abO h)
   simp only [fz,hb,cond_false];exact h3
  | wit k=>
   have:k≠id:=fun e=>by subst e;obtain ⟨_,h4⟩:=h3;rw [h4] at aS;cases aS
   have hb:Nat.beq k id=false:=by rw [← Bool.not_eq_true];exact fun h=>this (abO h)
   simp only [fz,hb,cond_false];exact h3
  | d x=>exact h3
  | ji x=>exact h3
  | dead=>trivial
 | some v=>
  refine ⟨less ρ id,hc.less,hsz,hdf,fun t' av ht=>?_⟩;obtain ⟨kV,h1,rfl⟩:=xQ _ _ _ ht;obtain ⟨c,h2,h3⟩:=hs t' kV h1;refine ⟨c,h2,h3.fz aS (fun _=>trivial) (fun g off hv=>?_)⟩;obtain ⟨ob,o1,g',us,he,hge,hb,hul⟩:∃ ob,lk s.hp id=some ob∧∃ g us,v= .pointer (some ⟨g,0,none⟩)∧w0.own g∧kX w g t us∧ig (Bd ρ B0) w cs us:=by
   obtain ⟨ob,o1,o2⟩:=hc.obj id v aS;rw [h] at o1;cases o1
   exact ⟨_,h,o2⟩
  rw [hv] at he;cases he
  refine ⟨g,off,rfl,hc.lone aS (by rw [hv];rfl),hb.lt,fun j hj=>?_⟩;obtain ⟨l,hl⟩:∃ l,cs[off+j]?=some l:=⟨cs[off+j]'(by omega),by simp⟩
  obtain ⟨x,hx,hr⟩:=hul.get hl;obtain ⟨q1,q2⟩:=abU.1 hx;refine ⟨x,by rw [← q2];exact hb.cell _ q1,?_⟩;show dY _ _ ((cs[off+j]?).getD _) x
  rw [hl];exact dY.mv hK (fun b _ hb=>I7 b hb) _ hr
/-- An empty row (nil) is taken for the frame's own. -/
theorem qV{s:AS}(t id:Nat)(e:TypeId)(sz:Nat)(el:Nat→Nat→Lf)(h:lk s.sl t=some (.d (.one (.v (.slice none 0 0)))))(hfr:lk s.hp id=none):Wk s ⟨s.n,(t,.own id) ::s.sl,(id,.row e sz 0 el) ::s.hp⟩:=by
 rintro B0 w0 a w ⟨ρ,hc,hsz,hdf,hs⟩;have hρ:ρ id=none:=by
  cases hρ:ρ id with
  | none=>rfl
  | some u=>obtain ⟨ob',h1,_⟩:=hc.obj id u hρ;rw [hfr] at h1;cases h1
 have hv:∀ b,jd (.slice none 0 0)=some b→w.heap.size≤b:=fun b hb=>by cases hb
 have hc':eY (up ρ id (.slice none 0 0)) B0 w0 w ((id,.row e sz 0 el) ::s.hp):=hc.new (ob:= .row e sz 0 el) hρ (Below.refl _ _) hv (fun k ob hk hne=>by rw [aV,if_neg (fun e=>hne e.symm)];exact hk) (by rw [aV,if_pos rfl])
  ⟨[],⟨World.ownsRow_nil w _ e sz,fun b hb=>by cases hb⟩,fun i j hi=>absurd hi (ab2 _)⟩
 refine ⟨_,hc',hsz,hdf,fun u av hu=>?_⟩;rw [aV] at hu;split at hu
 ·rename_i e'
  cases hu
  subst e';obtain ⟨v,h1,h2,_⟩:=hs t _ h;exact ⟨v,h1,by rw [h2];simp [up],none,0,0,h2⟩
 ·obtain ⟨v,h1,h2⟩:=hs u av hu
  exact ⟨v,h1,h2.new hρ (Below.refl _ _) hv⟩
/-- What is appended. -/
def QK(s:AS)(y:Operand)(sz:Nat):Option (Nat×(Nat→Nat→Lf)):=match dH s y with
 | some (.d (.one (.row sz' m el)))=>bif Nat.beq sz sz' then some (m,el) else none
 | some (.d (.one (.v (.slice none 0 0))))=>some (0,fun _ _=> .v undef)
 | _=>none
theorem JD{s:AS}{ρ:kL}{B:BS}{w:World}{a:Act}{y:Operand}{sz m:Nat}{el:Nat→Nat→Lf}(hs:fD ρ B w s.sl a)(h:QK s y sz=some (m,el)):
  ∃ ao c,∃ news:List Value,a.eval y= .slice ao m c∧news.length=m*sz∧(ao=none→c=0)∧m≤c∧ng w ao news∧∀ i j,i < m→j < sz→∃ x,news[i*sz+j]?=some x∧dY B w (el i j) x:=by
 unfold QK at h;split at h
 ·rename_i sz' m' Ws hy
  cases hb:Nat.beq sz sz' with
  | false=>rw [hb] at h;cases h
  | true=>
   rw [hb] at h;cases h
   obtain rfl:=abO hb;obtain ⟨ao,cap,he,hle,hnil,hel⟩:=(bQ hs hy:dY _ _ _ _);rcases aev m with hm | hm
   ·subst hm
    exact ⟨ao,cap,[],he,by simp,hnil,abR _,Or.inl rfl,fun i j hi=>absurd hi (ab2 _)⟩
   ·obtain ⟨b,off,rfl,hb,hlt,_⟩:=hel 0 hm
    have hcell:∀ i j,i < m→j < sz→∃ x,w.cell? ⟨b,off+(i*sz+j),none⟩=some x∧dY B w (el i j) x:=by
     intro i j hi hj;obtain ⟨b',off',he',_,_,h2⟩:=hel i hi;cases he'
     obtain ⟨x,hx,hl⟩:=h2 j hj;exact ⟨x,by rw [← Nat.add_assoc];exact hx,hl⟩
    have hget:∀ q,q < m*sz→((List.range (m*sz)).map fun q=>(w.cell? ⟨b,off+q,none⟩).getD undef)[q]?=some ((w.cell? ⟨b,off+q,none⟩).getD undef):=by
     intro q hq;rw [List.getElem?_map,List.getElem?_range hq];rfl
    have hdec:∀ q,q < m*sz→∃ x,w.cell? ⟨b,off+q,none⟩=some x:=by
     intro q hq;have hsz:0 < sz:=afR (fun e=>by subst e;omega);have h1:q / sz < m:=afX (by rw [Nat.mul_comm];exact hq);obtain ⟨x,hx,_⟩:=hcell (q / sz) (q%sz) h1 (adl _ hsz);rw [Nat.mul_comm,Nat.div_add_mod] at hx;exact ⟨x,hx⟩
    refine ⟨some ⟨b,off,none⟩,cap,(List.range (m*sz)).map (fun q=>(w.cell? ⟨b,off+q,none⟩).getD undef),he,by simp,hnil,hle,Or.inr ⟨b,off,rfl,fun q hq=>?_⟩,fun i j hi hj=>?_⟩
    ·have hq':q < m*sz:=by simpa using hq
     obtain ⟨x,hx⟩:=hdec q hq';simp [hx]
    ·obtain ⟨x,hx,hl⟩:=hcell i j hi hj
     have hidx:i*sz+j < m*sz:=by
      have:(i+1)*sz≤m*sz:=abN _ (by omega);rw [Nat.add_mul,Nat.one_mul] at this;omega
     refine ⟨x,?_,hl⟩;rw [hget _ hidx,hx];rfl
 ·rename_i hy
  cases h
  have he:=(bQ hs hy:dY _ _ _ _).1;exact ⟨none,0,[],he,by simp,fun _=>rfl,abJ _,Or.inl rfl,fun i j hi=>absurd hi (ab2 _)⟩
 ·cases h
def eU(n:Nat)(el el2:Nat→Nat→Lf):Nat→Nat→Lf:=fun i j=>bif Nat.ble (i+1) n then el i j else el2 (i-n) j
theorem mAS{P:Program}{T:TypeId→Option TI}(hT:zU P T){ops:Array Oper}{Q:Qs}{o:Oper}{l:List Oper}{s:AS}{c:Call}{x y:Operand}{t e:TypeId}{ti te:TI}{id n m d:Nat}{el el2:Nat→Nat→Lf} 
  (hx:dH s x=some (.own id)) (hob:lk s.hp id=some (.row e te.n n el)) (hy:∀ (ρ:kL) (B0:BS) (w0:Wz) (w:World) (a:Act),eY ρ B0 w0 w s.hp→fD ρ (Bd ρ B0) w s.sl a→∃ ao c,∃ news:List Value,a.eval y= .slice ao m c∧news.length=m*te.n∧(ao=none→c=0)∧m≤c∧ng w ao news∧∀ i j,i < m→j < te.n→∃ x,news[i*te.n+j]?=some x∧dY (Bd ρ B0) w (el2 i j) x) (hbd:(n+m)*te.bytes≤140737488355328) (hmx:n+m≤9223372036854775807) (hc:iw o.op=some c) (uP:c.callee= .builtin .append) (hargs:c.args.toList= [x,y]) (hty:c.argTypes.toList= [t,t]) (hti:T t=some ti) (he:ti.elem=some e) (hte:T e=some te) (hz:Nat.beq te.zero.length te.n=true) (h0:Nat.ble 1 te.n=true)
  (hdst:o.dst=some d) (k:AL P ops Q l ⟨s.n,(d,.own id) ::WA id .dead (fun _=> .dead) s.sl,(id,.row e te.n (n+m) (eU n el el2)) ::s.hp⟩) (hg:jC ops s o=some true:=by rfl) (hd:kG (some d) s.n=true:=by rfl):AL P ops Q (o ::l) s:=by
 rintro B0 w0 a w ⟨ρ,hcr,hn,hdf,hs⟩;have hop:o.op= .call c:=by
  unfold iw at hc;split at hc
  ·rename_i h;cases hc;exact h
  ·cases hc
 obtain ⟨aS,ad,n',cap,hxe⟩:=bQ hs hx;obtain ⟨ob,o1,o2⟩:=hcr.obj id _ aS;rw [hob] at o1;cases o1
 obtain ⟨xs,hown,hel⟩:=o2;obtain ⟨ao,cc,news,hye,hnl,hnil,hmc,hsrc,IK⟩:=hy ρ B0 w0 w a hcr hs;obtain ⟨i,z,dd,h1,h2,h3,h4,h5,h6,h7,h8,h9,_⟩:=cZ (hT _ _ hti);have:=h9 e he;subst this;obtain ⟨i',z',dd',k1,k2,k3,k4,k5,k6,k7,_⟩:=cZ (hT _ _ hte);have hzl:te.zero.length=te.n:=abO hz;have hsz:0 < te.n:=ada h0;have hzs:z'.cells.size=te.n:=by rw [← hzl,← k5];simp
 have hone:∀ u∈news,u.oneCell'=true:=by
  intro u hu;obtain ⟨q,hq,rfl⟩:=List.mem_iff_getElem.1 hu;rw [hnl] at hq;have hdiv:q / te.n < m:=afX (by rw [Nat.mul_comm];exact hq);obtain ⟨u,hu1,hu2⟩:=IK (q / te.n) (q%te.n) hdiv (adl _ hsz);rw [Nat.mul_comm,Nat.div_add_mod] at hu1;obtain ⟨_,hu3⟩:=abU.1 hu1;rw [hu3];exact hu2.one
 obtain ⟨v',w',hr,hown',hgrow,hblk⟩:=qp (P:=P) (w:=w) 0 t o.type e i' z' te.n te.bytes h3 k1 k2 k4 k7 hzs hsz (a.eval x) n xs hown.1 ao m cc news hnl hnil hmc hsrc hone (by simp [maxLen];omega) hbd (abR _);have hrun:(execOp a.eval o).run P w= .ok (.value v') w':=by
  have ha:c.args=#[x,y]:=by rw [← Array.toList_inj];exact hargs
  have ht:c.argTypes=#[t,t]:=by rw [← Array.toList_inj];exact hty
  unfold execOp;rw [hop];simp [resolve,uP,invoke,builtin,ha,ht,hye,hr]
 have hvb:∀ b,(a.eval x).ownBlock=some b→jd (a.eval x)=some b:=by
  intro b hb;rw [hxe] at hb ⊢;cases ad with
  | none=>cases hb
  | some q=>exact hb
 have hb0:Below 0 w w':=(Below.refl _ _).grown hgrow (abR _) (fun k hk=>abR _);have hbel:JW w0 w':=hcr.bel.put hb0.os hb0.tape hb0.output hgrow.size (g:=fun b=>jd (a.eval x)=some b) (fun b e=>hown.2 b e) (fun b hb hne=>hgrow.block b hb (fun e=>hne (hvb b e.symm)));have IQ:∀ b,b < w.heap.size→jd (a.eval x)≠some b→w'.heap[b]?=w.heap[b]? :=fun b hb hne=>hgrow.block b hb (fun e=>hne (hvb b e.symm))
 have hK:ku (Bd ρ B0) w w':=⟨hgrow.size,fun b hb hB=>IQ b hb (fun e=>hB (Or.inr ⟨id,_,aS,e⟩))⟩;have hB':∀ b,b < w.heap.size→Bd (up ρ id v') B0 b→Bd ρ B0 b:=by
  rintro b hb (h | ⟨k,u,q1,q2⟩)
  ·exact Or.inl h
  ·unfold up at q1
   split at q1
   ·cases q1
    rcases hblk b q2 with q3 | q3
    ·exact Or.inr ⟨id,_,aS,q3⟩
    ·omega
   ·exact Or.inr ⟨k,u,q1,q2⟩
 have hW:=eY.write (v':=v') (ob':= .row e te.n (n+m) (eU n el el2)) (hp':=(id,.row e te.n (n+m) (eU n el el2)) ::s.hp) hcr aS (w':=w') IQ hgrow.size hbel hblk
  (fun k ob hk hne=>by rw [aV,if_neg (fun e=>hne e.symm)];exact hk) (by rw [aV,if_pos rfl])
  ⟨xs ++news,⟨hown',fun b hb=>(hblk b hb).elim (hown.2 b) (fun h=>Or.inl (acS hcr.bel.size h))⟩,fun p q hp hq=>by
   have hxl:=hown.1.1
   by_cases hpn:p < n
   ·obtain ⟨u,hu1,hu2⟩:=hel p q hpn hq
    have hidx:=(abU.1 hu1).1;refine ⟨u,by rw [List.getElem?_append_left hidx];exact hu1,?_⟩;have:eU n el el2 p q=el p q:=by
     unfold eU;rw [show Nat.ble (p+1) n=true from Nat.ble_eq_true_of_le hpn];rfl
    rw [this];exact dY.mv hK hB' _ hu2
   ·obtain ⟨u,hu1,hu2⟩:=IK (p-n) q (by omega) hq
    have hpm:p*te.n+q=n*te.n+((p-n)*te.n+q):=by
     rw [← Nat.add_assoc,← Nat.add_mul];congr 2;omega
    refine ⟨u,by rw [hpm,List.getElem?_append_right (by omega),hxl,Nat.add_sub_cancel_left];exact hu1,?_⟩;have:eU n el el2 p q=el2 (p-n) q:=by
     unfold eU;rw [show Nat.ble (p+1) n=false from by rw [← Bool.not_eq_true];exact fun h=>hpn (Nat.le_of_ble_eq_true h)];rfl
    rw [this];exact dY.mv hK hB' _ hu2⟩
 refine lX (dZ hg hs) hrun (k B0 w0 _ w' ⟨up ρ id v',hW.1,by rw [hdst];show (a.tmps.setIfInBounds d v').size=s.n;simpa using hn,by rw [hdst];exact hdf,?_⟩);rw [hdst];have hsl2:fD (up ρ id v') (Bd (up ρ id v') B0) w' (WA id .dead (fun _=> .dead) s.sl) a:=by
  intro u av hu;obtain ⟨kV,q1,rfl⟩:=xQ _ _ _ hu;obtain ⟨v,q2,q3⟩:=hs u kV q1;refine ⟨v,q2,?_⟩;have keep:(∀ k,kV.on k=true→k≠id)→AR (up ρ id v') (Bd (up ρ id v') B0) w' kV v:=fun hne=>AR.mv hK hB' (fun k hk=>by unfold up;rw [if_neg (hne k hk)]) q3
  cases kV with
  | own k=>
   show AR _ _ _ (bif Nat.beq k id then .dead else .own k) v
   cases e:Nat.beq k id with
   | true=>trivial
   | false=>exact keep (fun k' hk'=>by have:k=k':=abO hk';rintro rfl;rw [this,Nat.beq_refl] at e;cases e)
  | ptr k off=>
   show AR _ _ _ (bif Nat.beq k id then .dead else .ptr k off) v
   cases e:Nat.beq k id with
   | true=>trivial
   | false=>exact keep (fun k' hk'=>by have:k=k':=abO hk';rintro rfl;rw [this,Nat.beq_refl] at e;cases e)
  | dW k sz i j=>
   show AR _ _ _ (bif Nat.beq k id then .dead else .dW k sz i j) v
   cases e:Nat.beq k id with
   | true=>trivial
   | false=>exact keep (fun k' hk'=>by have:k=k':=abO hk';rintro rfl;rw [this,Nat.beq_refl] at e;cases e)
  | lim k j=>
   show AR _ _ _ (bif Nat.beq k id then .dead else .lim k j) v
   cases e:Nat.beq k id with
   | true=>trivial
   | false=>exact keep (fun k' hk'=>by have:k=k':=abO hk';rintro rfl;rw [this,Nat.beq_refl] at e;cases e)
  | qL k j=>
   show AR _ _ _ (bif Nat.beq k id then .dead else .qL k j) v
   cases e:Nat.beq k id with
   | true=>trivial
   | false=>exact keep (fun k' hk'=>by have:k=k':=abO hk';rintro rfl;rw [this,Nat.beq_refl] at e;cases e)
  | wit k=>
   show AR _ _ _ (bif Nat.beq k id then .dead else .wit k) v
   cases e:Nat.beq k id with
   | true=>trivial
   | false=>exact keep (fun k' hk'=>by have:k=k':=abO hk';rintro rfl;rw [this,Nat.beq_refl] at e;cases e)
  | d x=>exact keep (fun k hk=>by cases hk)
  | ji x=>exact keep (fun k hk=>by cases hk)
  | dead=>trivial
 refine nV hsl2 hn (ada hd) ⟨by simp [up],?_⟩;obtain ⟨_,⟨rfl,_⟩ | ⟨g,cap',cur,rfl,_⟩⟩:=hown'
 ·exact ⟨none,0,0,rfl⟩
 ·exact ⟨_,_,_,rfl⟩
/-- APPEND to a row of the frame's own. -/
theorem mA{P:Program}{T:TypeId→Option TI}(hT:zU P T){ops:Array Oper}{Q:Qs}{o:Oper}{l:List Oper}{s:AS}{c:Call}{x y:Operand}{t e:TypeId}{ti te:TI}{id n m d:Nat}{el el2:Nat→Nat→Lf} 
  (hx:dH s x=some (.own id)) (hob:lk s.hp id=some (.row e te.n n el)) (hy:QK s y te.n=some (m,el2)) (hbd:(n+m)*te.bytes≤140737488355328) (hmx:n+m≤9223372036854775807) (hc:iw o.op=some c) (uP:c.callee= .builtin .append) (hargs:c.args.toList= [x,y]) (hty:c.argTypes.toList= [t,t]) (hti:T t=some ti) (he:ti.elem=some e) (hte:T e=some te) (hz:Nat.beq te.zero.length te.n=true) (h0:Nat.ble 1 te.n=true)
  (hdst:o.dst=some d) (k:AL P ops Q l ⟨s.n,(d,.own id) ::WA id .dead (fun _=> .dead) s.sl,(id,.row e te.n (n+m) (eU n el el2)) ::s.hp⟩) (hg:jC ops s o=some true:=by rfl) (hd:kG (some d) s.n=true:=by rfl):AL P ops Q (o ::l) s:=
 mAS hT hx hob (fun ρ B0 w0 w a _ hs=>JD hs hy) hbd hmx hc uP hargs hty hti he hte hz h0 hdst k hg hd
end Go.Proofs.YtapmpcgekdplfaaGreat
