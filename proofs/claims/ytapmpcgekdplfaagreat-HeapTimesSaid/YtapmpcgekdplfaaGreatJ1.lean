/-
  Laws of the program's functions by an abstract machine, part 1: joined, short spelling. No condition.
-/
import Derived.Test.YtapmpcgekdplfaaGreatJ0
set_option linter.unusedVariables false
set_option linter.unusedSimpArgs false
set_option maxRecDepth 100000
set_option maxHeartbeats 4000000
namespace Go.Proofs.YtapmpcgekdplfaaGreat
open Go.RowKit
section
open Go.RowKit Am
/-- The objects that operands speak of. -/
def idsOf(s:AS)(l:List Operand):List Nat:=l.filterMap fun x=>(geto s x).bind avId
theorem idsOf_mem{s:AS}{l:List Operand}{x:Operand}{av:AV}{id:Nat}(hx:x∈l)(hg:geto s x=some av)(hi:avId av=some id):id∈idsOf s l:=
 List.mem_filterMap.2 ⟨x,hx,by rw [hg];exact hi⟩
theorem isLen_c{c:Call}(h:isLen (.call c)=true):c.callee= .builtin .len:=by
 simp only [isLen] at h;split at h
 ·assumption
 ·cases h
def isRd:Op→Bool
 | .load .. | .indexAddr .. | .store ..=>true
 | .call c=> !isLen (.call c)
 | _=>false
/-- A row's length. -/
def rowN(o:Option AO):Option Nat:=match unO o with
 | some (.row _ _ n _)=>some n
 | _=>none
theorem rowN_of{o:Option AO}{n:Nat}(h:rowN o=some n):∃ e sz el,unO o=some (.row e sz n el):=by
 unfold rowN at h;split at h
 ·rename_i he;cases h;exact ⟨_,_,_,he⟩
 ·cases h
theorem rowN_some{o:Option AO}{n:Nat}(h:rowN o=some n):o.isSome=true:=by
 cases o with
 | none=>cases h
 | some x=>rfl
theorem AO.un_put{new ob:AO}:(AO.put new ob).un=new.un:=by
 induction ob with
 | «is» x ob ih=>exact ih
 | _=>rfl
def AO.isI:AO→Bool
 | .is _ _=>true
 | _=>false
theorem AO.un_nI(ob:AO):ob.un.isI=false:=by
 induction ob with
 | «is» x ob ih=>exact ih
 | _=>rfl
theorem rowN_put{new ob:AO}(h:new.un=new)(k:rowN (some new)=rowN (some ob.un)):rowN (some (AO.put new ob))=rowN (some ob):=by
 have h1:∀ o:AO,o.un.un=o.un:=fun o=>by
  induction o with
  | «is» x ob ih=>exact ih
  | _=>rfl
 have e1:rowN (some (AO.put new ob))=rowN (some new):=by unfold rowN unO;simp only [AO.un_put]
 have e2:rowN (some ob.un)=rowN (some ob):=by unfold rowN unO;simp only [h1]
 rw [e1,k,e2]
/-- A row's name. -/
def AO.isR:AO→Bool
 | .row _ _ _ _=>true
 | _=>false
def nmO:Option AO→Option Value
 | some (.is x ob)=>bif ob.isR then some x else none
 | _=>none
theorem nmO_of{o:Option AO}{x:Value}(h:nmO o=some x):∃ e sz n el,o=some (.is x (.row e sz n el)):=by
 match o,h with
 | some (.is y (.row e sz n el)),h=>cases h;exact ⟨e,sz,n,el,rfl⟩
 | some (.is y (.box _ _)),h=>cases h
 | some (.is y (.is _ _)),h=>cases h
 | some (.is y (.sz _)),h=>cases h
theorem nmO_put{new ob:AO}(h:new.un=new)(k:new.isR=ob.un.isR):nmO (some (AO.put new ob))=nmO (some ob):=by
 have hn:new.isI=false:=h▸AO.un_nI new;cases ob with
 | box t cs=>cases new <;> first | rfl | cases hn
 | row e sz n el=>cases new <;> first | rfl | cases hn
 | sz k=>cases new <;> first | rfl | cases hn
 | «is» x o=>
  cases o with
  | «is» y o=>rfl
  | box t cs=>show (bif new.isR then some x else none)=_;rw [k];rfl
  | row e sz n el=>show (bif new.isR then some x else none)=_;rw [k];rfl
  | sz q=>show (bif new.isR then some x else none)=_;rw [k];rfl
/-- What stores leave of an object: its length, its name. -/
def sgO(o:Option AO):Option Nat×Option Value:=(rowN o,nmO o)
theorem sgO_put{new ob:AO}(h:new.un=new)(k:rowN (some new)=rowN (some ob.un))(k2:new.isR=ob.un.isR):sgO (some (AO.put new ob))=sgO (some ob):=by unfold sgO;rw [rowN_put h k,nmO_put h k2]
/-- The objects that such an operation speaks of. -/
def idsR(s:AS)(op:Op):List Nat:=bif isRd op then idsOf s op.operands.toList else []
theorem idsR_of{s:AS}{op:Op}{id:Nat}(h:id∈idsR s op):id∈idsOf s op.operands.toList:=by
 unfold idsR at h;cases e:isRd op with
 | true=>rw [e] at h;exact h
 | false=>rw [e] at h;cases h
theorem idsR_to{s:AS}{op:Op}{id:Nat}(hr:isRd op=true)(h:id∈idsOf s op.operands.toList):id∈idsR s op:=by
 unfold idsR;rw [hr];exact h
section
variable {P:Program} {T:TypeId→Option TI} {ops:Array Oper} {s s':AS} {o:Oper} {Q:Qs}
theorem evV_congr2{op:Op}(hnl:isLen op=false)(h:∀ x∈op.operands,geto s x=geto s' x)(hh:∀ id∈idsR s op,lk s.hp id=lk s'.hp id):evV T s op=evV T s' op:=by
 have key:isRd op=true→∀ x∈op.operands,∀ av id,geto s x=some av→avId av=some id→lk s.hp id=lk s'.hp id:=fun hr x hx av id hg hi=>hh id (idsR_to hr (idsOf_mem (by simpa using hx) hg hi))
 have e1:evV T s op=evV T ⟨s.n,s.sl,s'.hp⟩ op:=by
  have g:∀ x,geto s x=geto ⟨s.n,s.sl,s'.hp⟩ x:=fun x=>by cases x with | const v=>cases v <;> rfl | _=>rfl
  have hint:∀ x,ints2 s x=ints2 ⟨s.n,s.sl,s'.hp⟩ x:=fun x=>by unfold ints2;rw [g x]
  cases op with
  | load t x=>
   simp only [evV];rw [← g x];split
   ·rfl
   ·split
    ·rename_i id off hx;unfold lkU;rw [key rfl x (by simp [Op.operands]) _ id hx rfl]
    ·rename_i id sz i j hx;unfold lkU;rw [key rfl x (by simp [Op.operands]) _ id hx rfl]
    ·rfl
    ·rfl
  | indexAddr t x ix=>
   simp only [evV];rw [← g x,← hint ix];split
   ·rfl
   ·split
    ·rfl
    ·split
     ·split
      ·rfl
      ·rename_i id hx;unfold lkU;rw [key rfl x (by simp [Op.operands]) _ id hx rfl]
      ·rfl
     ·rfl
  | call c=>
   have hl:getls s c.args.toList=getls ⟨s.n,s.sl,s'.hp⟩ c.args.toList:=getls_congr _ fun x _=>g x
   simp only [evV];rw [hl];split
   ·split
    ·rename_i x t ha ht
     rw [← g x];split
     ·rfl
     ·split
      ·rfl
      ·rfl
      ·rfl
      ·rename_i id he hx
       unfold lkU;rw [key (by show (!isLen (.call c))=true;rw [hnl];rfl) x (by simp only [Op.operands,Call.operands];exact Array.mem_append.2 (Or.inr (by have:x∈c.args.toList:=(by rw [ha];simp);simpa using this))) _ id hx rfl]
      ·rfl
    ·rfl
   ·rfl
   ·rfl
   ·rfl
  | move x=>exact g x
  | assign x=>exact g x
  | pick c a b=>simp only [evV];rw [g c,g a,g b]
  | binOp op t x y yt=>simp only [evV];rw [g x,g y]
  | unOp op t x=>simp only [evV];rw [g x]
  | convert src dst x=>simp only [evV];rw [g x]
  | fieldAddr t x f=>simp only [evV];rw [g x]
  | field t x f=>simp only [evV];rw [g x]
  | extract x i=>simp only [evV];rw [g x]
  | slice t x lo hi mx=>
   cases mx with
   | some m=>rfl
   | none=>
    have hlo:∀ y d,bndV s y d=bndV ⟨s.n,s.sl,s'.hp⟩ y d:=by
     intro y d;cases y with
     | none=>rfl
     | some y=>simp only [bndV];rw [hint y]
    simp only [evV,← g x,← hlo]
  | build t ps=>
   simp only [evV];rw [getps_congr ps.toList (fun p _=>g p.2)]
  | makeFunc fn fi caps=>
   have hl:=getls_congr caps.toList (fun x _=>g x);cases fn <;> first | rfl | (simp only [evV];rw [hl])
  | _=>rfl
 rw [e1];refine evV_congr rfl (fun x hx=>?_);rw [← h x hx];cases x with
 | const v=>cases v <;> rfl
 | _=>rfl
theorem evV_len{op:Op}{av:AV}(hl:isLen op=true)(h:∀ x∈op.operands,geto s x=geto s' x)(hh:∀ id∈idsOf s op.operands.toList,∀ n,rowN (lk s.hp id)=some n→rowN (lk s'.hp id)=some n)(he:evV T s op=some av):evV T s' op=some av:=by
 cases op with
 | call c=>
  have hc:=isLen_c hl;simp only [evV,hc] at he ⊢;split at he
  ·rename_i x t ha ht
   have hx:x∈(Op.call c).operands:=(by simp only [Op.operands,Call.operands];exact Array.mem_append.2 (Or.inr (by have:x∈c.args.toList:=(by rw [ha];simp);simpa using this)));rw [← h x hx];split at he
   ·cases he
   ·rename_i ti hti
    cases hel:ti.elem with
    | none=>rw [hel] at he;simp at he
    | some e=>
     rw [hel] at he;cases hg:geto s x with
     | none=>rw [hg] at he;simp at he
     | some gv=>
      rw [hg] at he;cases gv with
      | own id=>
       simp only at he ⊢;split at he
       ·rename_i e0 sz0 n0 el0 hlk
        obtain ⟨e1,sz1,el1,h1⟩:=rowN_of (hh id (idsOf_mem (by simpa using hx) hg rfl) n0 (by unfold rowN;rw [show unO (lk s.hp id)=_ from hlk]));rw [show lkU s'.hp id=_ from h1];exact he
       ·cases he
      | d dv=>
       cases dv with
       | agg ls=>simp at he
       | one l=>
        cases l with
        | v x=>cases x <;> first | exact he | (simp at he;done)
        | _=>first | exact he | (simp at he;done)
      | _=>simp at he
  ·cases he
 | _=>cases hl
theorem evS_congr2{op:Op}(h:∀ x∈op.operands,geto s x=geto s' x)(hh:∀ id∈idsR s op,lk s.hp id=lk s'.hp id):evS T s op=evS T s' op:=by
 cases op with
 | store t x y=>
  have hx:=h x (by simp [Op.operands]);have hy:=h y (by simp [Op.operands]);have key:∀ av id,geto s x=some av→avId av=some id→lk s.hp id=lk s'.hp id:=fun av id hg hi=>hh id (idsR_to rfl (idsOf_mem (x:=x) (by simp [Op.operands]) hg hi))
  simp only [evS];rw [← hx,← hy];split
  ·rfl
  ·split
   ·rename_i id off d hgx hgy;unfold lkP;rw [key _ id hgx rfl]
   ·rename_i id sz i d hgx hgy;unfold lkP;rw [key _ id hgx rfl]
   ·rfl
 | _=>rfl
def isSt:Op→Bool
 | .store ..=>true
 | _=>false
def isNw:Op→Bool
 | .alloc .. | .box .. | .makeSlice ..=>true
 | _=>false
theorem evS_id{op:Op}{id:Nat}{ob:AO}(h:evS T s op=some (id,ob)):isSt op=true∧id∈idsR s op∧(lk s.hp id).isSome=true∧sgO (some ob)=sgO (lk s.hp id):=by
 cases op with
 | store t x y=>
  refine ⟨rfl,?_⟩;simp only [evS] at h;split at h
  ·cases h
  ·split at h
   ·rename_i id' off d hgx hgy
    split at h
    ·rename_i hlk
     split at h
     ·simp only [Option.some.injEq,Prod.mk.injEq] at h;obtain ⟨rfl,rfl⟩:=h;obtain ⟨q1,q2⟩:=lkP_ok hlk;exact ⟨idsR_to rfl (idsOf_mem (x:=x) (by simp [Op.operands]) hgx rfl),by rw [q1];rfl,by rw [q1];exact sgO_put rfl (by rw [q2];rfl) (by rw [q2];rfl)⟩
     ·cases h
    ·cases h
   ·rename_i id' sz i d hgx hgy
    split at h
    ·rename_i hlk
     split at h
     ·simp only [Option.some.injEq,Prod.mk.injEq] at h;obtain ⟨rfl,rfl⟩:=h;obtain ⟨q1,q2⟩:=lkP_ok hlk;exact ⟨idsR_to rfl (idsOf_mem (x:=x) (by simp [Op.operands]) hgx rfl),by rw [q1];rfl,by rw [q1];exact sgO_put rfl (by rw [q2];rfl) (by rw [q2];rfl)⟩
     ·cases h
    ·cases h
   ·cases h
 | _=>simp [evS] at h
theorem evN_nw{op:Op}{ob:AO}(h:evN T s op=some ob):isNw op=true:=by
 cases op <;> first | rfl | simp [evN] at h
/-- Does the operation wait for that one, or for one that does? -/
def reach(ops:Array Oper):Nat→Oper→Nat→Bool
 | 0,_,_=>false
 | f+1,o,k=>waitsOn o k || o.after.toList.any fun e=>Region.binds .any e && match ops[e.on]? with
  | some o'=>reach ops f o' k
  | none=>false
theorem reach_ok{ops:Array Oper}{D:Nat→Prop}(hcl:∀ k ok,ops[k]?=some ok→D k→∀ j,waitsOn ok j=true→D j):∀ (f:Nat) (o:Oper) (k:Nat),(∀ j,waitsOn o j=true→D j)→reach ops f o k=true→D k
 | 0,_,_,_,h=>by cases h
 | f+1,o,k,hw,h=>by
  rw [reach,Bool.or_eq_true] at h;rcases h with h | h
  ·exact hw k h
  ·obtain ⟨e,he,h2⟩:=List.any_eq_true.1 h
   rw [Bool.and_eq_true] at h2;obtain ⟨hb,h3⟩:=h2;split at h3
   ·rename_i o' ho'
    have hDe:D e.on:=hw e.on (List.any_eq_true.2 ⟨e,he,by rw [hb];exact beq_self_eq_true _⟩);exact reach_ok hcl f o' k (hcl _ _ ho' hDe) h3
   ·cases h3
/-- Does the operation wait for those with which it may not change places? -/
def cflB(ops:Array Oper)(log:List (Nat×List Nat×Bool))(o:Oper)(ids:List Nat):Bool:=
 (log.all fun q=> !(isSt o.op || q.2.2) || ids.all (fun id=> !(q.2.1).contains id) || reach ops 6 o q.1) &&
 (!isNw o.op || match o.dst with
  | some d=>log.all fun q=> !(q.2.1).contains d
  | none=>true)
inductive ChS (P:Program) (T:TypeId→Option TI) (ops:Array Oper) (K:AS→Prop):Nat→List (Nat×List Nat×Bool)→List Oper→AS→Prop
 | nil {i:Nat} {log:List (Nat×List Nat×Bool)} {s:AS} (h:K s):ChS P T ops K i log [] s
 | cons {i:Nat} {log:List (Nat×List Nat×Bool)} {o:Oper} {l:List Oper} {s s1:AS} (h:OpS P T ops o s s1) (hc:cflB ops log o (idsR s o.op)=true) (k:ChS P T ops K (i+1) ((i,idsR s o.op,isSt o.op) ::log) l s1):ChS P T ops K i log (o ::l) s
abbrev idO(st:Nat→AS)(i:Nat)(o:Oper):List Nat:=idsR (st i) o.op
theorem ChS.st{K:AS→Prop}{i0:Nat}{log:List (Nat×List Nat×Bool)}{l:List Oper}(h:ChS P T ops K i0 log l s):∃ st:Nat→AS,st 0=s∧K (st l.length)∧(∀ (i:Nat) (o:Oper),l[i]?=some o→OpS P T ops o (st i) (st (i+1)))∧
  (∀ (i:Nat) (o:Oper),l[i]?=some o→∀ q∈log,(isSt o.op=true∨q.2.2=true)→∀ id∈idO st i o,id∈q.2.1→reach ops 6 o q.1=true)∧
  (∀ (i:Nat) (o:Oper),l[i]?=some o→isNw o.op=true→∀ d,o.dst=some d→∀ q∈log,¬ d∈q.2.1)∧
  (∀ (i:Nat) (o:Oper) (k:Nat) (ok:Oper),k < i→l[i]?=some o→l[k]?=some ok→(isSt o.op=true∨isSt ok.op=true)→∀ id∈idO st i o,id∈idO st k ok→reach ops 6 o (i0+k)=true)∧
  (∀ (i:Nat) (o:Oper) (k:Nat) (ok:Oper),k < i→l[i]?=some o→l[k]?=some ok→isNw o.op=true→∀ d,o.dst=some d→¬ d∈idO st k ok):=by
 induction h with
 | nil h=>exact ⟨fun _=>_,rfl,h,by simp,by simp,by simp,by simp,by simp⟩
 | @cons i0 log o l s s1 h hc k ih=>
  obtain ⟨st,h1,h2,h3,h4,h5,h6,h7⟩:=ih;simp only [cflB,Bool.and_eq_true,Bool.or_eq_true,List.all_eq_true] at hc;obtain ⟨hc1,hc2⟩:=hc;refine ⟨fun i=>match i with | 0=>s | i+1=>st i,rfl,h2,?_,?_,?_,?_,?_⟩
  ·intro i o' ho
   cases i with
   | zero => obtain rfl : o = o' := by simpa using ho
             show OpS P T ops o s (st 0); rw [h1]; exact h
   | succ i=>exact h3 i o' (by simpa using ho)
  ·intro i o' ho q hq hst id hid hidq
   cases i with
   | zero=>
    obtain rfl:o=o':=by simpa using ho
    rcases hc1 q hq with (h8 | h8) | h8
    ·exfalso;rcases hst with e | e <;> simp [e] at h8
    ·exfalso
     have h9:=h8 id hid;simp at h9;exact h9 hidq
    ·exact h8
   | succ i=>exact h4 i o' (by simpa using ho) q (List.mem_cons_of_mem _ hq) hst id hid hidq
  ·intro i o' ho hnw d hd q hq
   cases i with
   | zero=>
    obtain rfl:o=o':=by simpa using ho
    rcases hc2 with h8 | h8
    ·rw [hnw] at h8;cases h8
    ·rw [hd] at h8
     have h9:=List.all_eq_true.1 h8 q hq;simpa using h9
   | succ i=>exact h5 i o' (by simpa using ho) hnw d hd q (List.mem_cons_of_mem _ hq)
  ·intro i o' k' ok hk ho hok hst id hid hidk
   cases i with
   | zero=>omega
   | succ i=>
    cases k' with
    | zero=>
     obtain rfl:o=ok:=by simpa using hok
     exact h4 i o' (by simpa using ho) (i0,idsR s o.op,isSt o.op) (List.mem_cons_self ..) hst id hid hidk
    | succ k'=>
     have:=h6 i o' k' ok (by omega) (by simpa using ho) (by simpa using hok) hst id hid hidk;rwa [show i0+1+k'=i0+(k'+1) by omega] at this
  ·intro i o' k' ok hk ho hok hnw d hd
   cases i with
   | zero=>omega
   | succ i=>
    cases k' with
    | zero=>
     obtain rfl:o=ok:=by simpa using hok
     exact h5 i o' (by simpa using ho) hnw d hd (i0,idsR s o.op,isSt o.op) (List.mem_cons_self ..)
    | succ k'=>exact h7 i o' k' ok (by omega) (by simpa using ho) (by simpa using hok) hnw d hd
/-- What an operation does to slots and objects. -/
theorem OpS.shape2(h:OpS P T ops o s s'):s'.n=s.n∧(∀ d,o.dst=some d→s'.sl=(d,avh s') ::s.sl)∧(o.dst=none→s'.sl=s.sl)∧
  ∃ wr:Option (Nat×AO),s'.hp=wr.toList ++s.hp∧∀ p,wr=some p→(isNw o.op=true∧o.dst=some p.1∧lk s.hp p.1=none)∨(isSt o.op=true∧p.1∈idsR s o.op∧(lk s.hp p.1).isSome=true∧sgO (some p.2)=sgO (lk s.hp p.1)):=by
 have put:∀ av,(s.put o.dst av).n=s.n∧(∀ d,o.dst=some d→(s.put o.dst av).sl=(d,avh (s.put o.dst av)) ::s.sl)∧(o.dst=none→(s.put o.dst av).sl=s.sl)∧
   ∃ wr:Option (Nat×AO),(s.put o.dst av).hp=wr.toList ++s.hp∧∀ p,wr=some p→(isNw o.op=true∧o.dst=some p.1∧lk s.hp p.1=none)∨(isSt o.op=true∧p.1∈idsR s o.op∧(lk s.hp p.1).isSome=true∧sgO (some p.2)=sgO (lk s.hp p.1)):=by
  intro av;cases hd:o.dst with
  | none=>exact ⟨rfl,fun d h=>(by cases h),fun _=>rfl,none,rfl,fun p h=>(by cases h)⟩
  | some d=>exact ⟨rfl,fun d' h=>(by cases h;rfl),fun h=>(by cases h),none,rfl,fun p h=>(by cases h)⟩
 cases h with
 | V av h hg hk=>exact put av
 | B av h hg hk=>exact put av
 | X av h hg hk=>exact put av
 | Y x tw id h hw hi hn ho hl hg hk=>exact put _
 | G hg hk=>exact put .dead
 | C h hc hf ha hg hk=>exact put _
 | N ob h d hdst hfr hg hk=>
  refine ⟨rfl,fun d' h'=>(by rw [hdst] at h';cases h';rfl),fun h'=>(by rw [hdst] at h';cases h'),some (d,ob),rfl,fun p hp=>Or.inl ?_⟩;cases hp
  exact ⟨evN_nw h,hdst,hfr⟩
 | S id ob h hdst hg=>
  refine ⟨rfl,fun d' h'=>(by rw [hdst] at h';cases h'),fun _=>rfl,some (id,ob),rfl,fun p hp=>Or.inr ?_⟩;cases hp
  exact evS_id h
open Classical in
noncomputable def hpD(hp:List (Nat×AO))(wr:Nat→Option (Nat×AO))(D:Nat→Prop):Nat→List (Nat×AO)
 | 0=>hp
 | m+1=>if D m then (wr m).toList ++hpD hp wr D m else hpD hp wr D m
theorem hpD_pos{hp:List (Nat×AO)}{wr:Nat→Option (Nat×AO)}{D:Nat→Prop}{m:Nat}(h:D m):hpD hp wr D (m+1)=(wr m).toList ++hpD hp wr D m:=if_pos h
theorem hpD_neg{hp:List (Nat×AO)}{wr:Nat→Option (Nat×AO)}{D:Nat→Prop}{m:Nat}(h:¬ D m):hpD hp wr D (m+1)=hpD hp wr D m:=if_neg h
theorem hpD_congr{hp:List (Nat×AO)}{wr:Nat→Option (Nat×AO)}{D D':Nat→Prop}:∀ {m:Nat},(∀ k,k < m→(D k↔D' k))→hpD hp wr D m=hpD hp wr D' m
 | 0,_=>rfl
 | m+1,h=>by
  have ih:=hpD_congr (hp:=hp) (wr:=wr) (m:=m) fun k hk=>h k (by omega)
  by_cases e:D m
  ·rw [hpD_pos e,hpD_pos ((h m (by omega)).1 e),ih]
  ·rw [hpD_neg e,hpD_neg (fun e'=>e ((h m (by omega)).2 e')),ih]
theorem hpD_lk{hp:List (Nat×AO)}{wr:Nat→Option (Nat×AO)}{D D':Nat→Prop}{id:Nat}:∀ {m:Nat},(∀ k p,k < m→wr k=some p→p.1=id→(D k↔D' k))→lk (hpD hp wr D m) id=lk (hpD hp wr D' m) id
 | 0,_=>rfl
 | m+1,h=>by
  have ih:=hpD_lk (hp:=hp) (wr:=wr) (m:=m) fun k p hk=>h k p (by omega)
  have one:∀ (E:Nat→Prop),(∀ p,wr m=some p→p.1≠id)→lk (hpD hp wr E (m+1)) id=lk (hpD hp wr E m) id:=by
   intro E hne
   by_cases e:E m
   ·rw [hpD_pos e]
    cases hw:wr m with
    | none=>rfl
    | some p=>
     obtain ⟨a,b⟩:=p;show lk ((a,b) ::hpD hp wr E m) id=_
     rw [lk_cons,if_neg (hne (a,b) hw)]
   ·rw [hpD_neg e]
  by_cases hw:∃ p,wr m=some p∧p.1=id
  ·obtain ⟨p,hp1,hp2⟩:=hw
   have hiff:=h m p (by omega) hp1 hp2
   by_cases e:D m
   ·rw [hpD_pos e,hpD_pos (hiff.1 e),hp1]
    show lk ((p.1,p.2) ::_) id=lk ((p.1,p.2) ::_) id
    rw [lk_cons,lk_cons,if_pos hp2,if_pos hp2]
   ·rw [hpD_neg e,hpD_neg (fun e'=>e (hiff.2 e')),ih]
  ·have hne:∀ p,wr m=some p→p.1≠id:=fun p h1 h2=>hw ⟨p,h1,h2⟩
   rw [one D hne,one D' hne,ih]
theorem Core.lkc{ρ:Rho}{B0:BS}{w0:Wz}{w:World}{hp hp':List (Nat×AO)}(h:Core ρ B0 w0 w hp)(hl:∀ id,(∃ v,ρ id=some v)→lk hp id=lk hp' id):Core ρ B0 w0 w hp':=
 ⟨h.bel,h.b0,fun id v hv=>by rw [← hl id ⟨v,hv⟩];exact h.obj id v hv,h.dist⟩
/-- The states on the way. -/
structure WayS(ops:Array Oper)(l:List Oper)(n:Nat)(st:Nat→AS)(wr:Nat→Option (Nat×AO)):Prop where
 nn:∀ i:Nat,i≤n→(st i).n=(st 0).n
 at1:∀ i,i≤n→∀ t k o,k < i→l[k]?=some o→o.dst=some t→lk (st i).sl t=some (avh (st (k+1)))
 at2:∀ i,i≤n→∀ t,(∀ k o,k < i→l[k]?=some o→o.dst≠some t)→lk (st i).sl t=lk (st 0).sl t
 hp:∀ i,i≤n→hpD (st 0).hp wr (fun k=>k < i) n=(st i).hp
 wrs:∀ i o p,i < n→l[i]?=some o→wr i=some p→(isNw o.op=true∧o.dst=some p.1∧lk (st i).hp p.1=none)∨(isSt o.op=true∧p.1∈idO st i o∧(lk (st i).hp p.1).isSome=true∧sgO (some p.2)=sgO (lk (st i).hp p.1))
 up:∀ i,i < n→(st (i+1)).hp=(wr i).toList ++(st i).hp
 grow:∀ i,i≤n→∀ id,(lk (st 0).hp id).isSome=true→(lk (st i).hp id).isSome=true
theorem wayS{l:List Oper}{n:Nat}{st:Nat→AS}(hl:n≤l.length)(hone:∀ i k oi ok d,i < n→k < n→l[i]?=some oi→l[k]?=some ok→k≠i→ok.dst=some d→oi.dst≠some d)(h:∀ i o,i < n→l[i]?=some o→OpS P T ops o (st i) (st (i+1))):∃ wr,WayS ops l n st wr:=by
 have step:∀ i,∃ wr:Option (Nat×AO),i < n→(st (i+1)).n=(st i).n∧(∀ o,l[i]?=some o→(∀ d,o.dst=some d→(st (i+1)).sl=(d,avh (st (i+1))) ::(st i).sl)∧(o.dst=none→(st (i+1)).sl=(st i).sl))∧(st (i+1)).hp=wr.toList ++(st i).hp∧
   ∀ o p,l[i]?=some o→wr=some p→(isNw o.op=true∧o.dst=some p.1∧lk (st i).hp p.1=none)∨(isSt o.op=true∧p.1∈idO st i o∧(lk (st i).hp p.1).isSome=true∧sgO (some p.2)=sgO (lk (st i).hp p.1)):=by
  intro i
  by_cases hi:i < n
  ·have ho:l[i]?=some (l[i]'(by omega)):=by simp
   obtain ⟨h1,h2,h3,wr,h4,h5⟩:=(OpS.shape2 (h i _ hi ho));refine ⟨wr,fun _=>⟨h1,fun o ho'=>?_,h4,fun o p ho' hp=>?_⟩⟩
   ·rw [ho] at ho';cases ho';exact ⟨h2,h3⟩
   ·rw [ho] at ho';cases ho';exact h5 p hp
  ·exact ⟨none,fun h=>absurd h hi⟩
 obtain ⟨wr,hw⟩:=Classical.skolem.1 step;have up:∀ i,i < n→(st (i+1)).hp=(wr i).toList ++(st i).hp:=fun i hi=>(hw i hi).2.2.1
 have hat:∀ i,i≤n→∀ t,(∀ k o,k < i→l[k]?=some o→o.dst=some t→lk (st i).sl t=some (avh (st (k+1))))∧((∀ k o,k < i→l[k]?=some o→o.dst≠some t)→lk (st i).sl t=lk (st 0).sl t):=by
  intro i
  induction i with
  | zero=>intro _ t;exact ⟨fun k o hk=>absurd hk (Nat.not_lt_zero _),fun _=>rfl⟩
  | succ i ih=>
   intro hi t;obtain ⟨ih1,ih2⟩:=ih (by omega) t;have ho:l[i]?=some (l[i]'(by omega)):=by simp
   obtain ⟨hs1,hs2⟩:=(hw i (by omega)).2.1 _ ho;cases hd:(l[i]'(by omega)).dst with
   | none=>
    rw [hs2 hd];refine ⟨fun k o hk hko hkd=>?_,fun hno=>ih2 fun k o hk hko=>hno k o (by omega) hko⟩
    by_cases hki:k=i
    ·subst hki;rw [ho] at hko;cases hko;rw [hd] at hkd;cases hkd
    ·exact ih1 k o (by omega) hko hkd
   | some d=>
    rw [hs1 d hd,lk_cons];refine ⟨fun k o hk hko hkd=>?_,fun hno=>?_⟩
    ·by_cases hki:k=i
     ·subst hki;rw [ho] at hko;cases hko;rw [hd] at hkd;cases hkd;rw [if_pos rfl]
     ·rw [if_neg (fun e=>hone i k _ o t (by omega) (by omega) ho hko hki hkd (by rw [hd,e]))]
      exact ih1 k o (by omega) hko hkd
    ·rw [if_neg (fun e=>hno i _ (by omega) ho (by rw [hd,e]))]
     exact ih2 (fun k o hk hko=>hno k o (by omega) hko)
 have hp1:∀ i,i≤n→∀ m,m≤n→hpD (st 0).hp wr (fun k=>k < i) m=(st (min i m)).hp:=by
  intro i hi m
  induction m with
  | zero=>intro _;rw [Nat.min_zero];rfl
  | succ m ih=>
   intro hm
   by_cases e:m < i
   ·rw [hpD_pos (D:=fun k=>k < i) e,ih (by omega),Nat.min_eq_right (by omega),Nat.min_eq_right (by omega),up m (by omega)]
   ·rw [hpD_neg (D:=fun k=>k < i) e,ih (by omega),Nat.min_eq_left (by omega),Nat.min_eq_left (by omega)]
 refine ⟨wr,⟨fun i=>?_,fun i hi t k o=>(hat i hi t).1 k o,fun i hi t=>(hat i hi t).2,fun i hi=>by rw [hp1 i hi n (Nat.le_refl _),Nat.min_eq_left hi],fun i o p hi ho hp=>(hw i hi).2.2.2 o p ho hp,up,fun i=>?_⟩⟩
 ·induction i with
  | zero=>intro _;rfl
  | succ i ih=>intro hi;rw [(hw i (by omega)).1,ih (by omega)]
 ·induction i with
  | zero=>intro _ id h;exact h
  | succ i ih=>
   intro hi id h;rw [up i (by omega)];cases hwi:wr i with
   | none=>exact ih (by omega) id h
   | some p=>
    show (lk ((p.1,p.2) ::(st i).hp) id).isSome=true
    rw [lk_cons];split
    ·rfl
    ·exact ih (by omega) id h
theorem WayS.len{l:List Oper}{n:Nat}{st:Nat→AS}{wr:Nat→Option (Nat×AO)}(hw:WayS ops l n st wr)(hl:n≤l.length){id j:Nat}(hj:(lk (st j).hp id).isSome=true):∀ k,j≤k→k≤n→(lk (st k).hp id).isSome=true∧sgO (lk (st k).hp id)=sgO (lk (st j).hp id):=by
 intro k hjk
 induction hjk with
 | refl=>exact fun _=>⟨hj,rfl⟩
 | @step k _ ih=>
  intro hk;obtain ⟨h1,h2⟩:=ih (by omega);have ho:l[k]?=some (l[k]'(by omega)):=by simp
  rw [hw.up k (by omega)];cases hwr:wr k with
  | none=>exact ⟨h1,h2⟩
  | some p=>
   show (lk ((p.1,p.2) ::(st k).hp) id).isSome=true∧sgO (lk ((p.1,p.2) ::(st k).hp) id)=_
   rw [lk_cons]
   by_cases e:p.1=id
   ·rw [if_pos e]
    refine ⟨rfl,?_⟩;rcases hw.wrs k _ p (by omega) ho hwr with ⟨_,_,h3⟩ | ⟨_,_,_,h4⟩
    ·rw [e] at h3;rw [h3] at h1;cases h1
    ·rw [h4,e,h2]
   ·rw [if_neg e];exact ⟨h1,h2⟩
theorem WayS.lenD{l:List Oper}{n:Nat}{st:Nat→AS}{wr:Nat→Option (Nat×AO)}(hw:WayS ops l n st wr){id:Nat}{D:Nat→Prop}{ob:AO}:∀ m,m≤n→lk (hpD (st 0).hp wr D m) id=some ob→∃ j,j≤n∧(lk (st j).hp id).isSome=true∧sgO (some ob)=sgO (lk (st j).hp id)
 | 0,_,h=>⟨0,Nat.zero_le _,by rw [show lk (st 0).hp id=some ob from h];rfl,by rw [show lk (st 0).hp id=some ob from h]⟩
 | m+1,hm,h=>by
  by_cases e:D m
  ·rw [hpD_pos e] at h
   cases hwr:wr m with
   | none=>rw [hwr] at h;exact WayS.lenD hw m (by omega) h
   | some p=>
    rw [hwr] at h;have h':lk ((p.1,p.2) ::hpD (st 0).hp wr D m) id=some ob:=h;rw [lk_cons] at h'
    by_cases e2:p.1=id
    ·rw [if_pos e2] at h'
     have h3:lk (st (m+1)).hp id=some ob:=by
      rw [hw.up m (by omega),hwr];show lk ((p.1,p.2) ::(st m).hp) id=some ob
      rw [lk_cons,if_pos e2];exact h'
     exact ⟨m+1,hm,by rw [h3];rfl,by rw [h3]⟩
    ·rw [if_neg e2] at h';exact WayS.lenD hw m (by omega) h'
  ·rw [hpD_neg e] at h;exact WayS.lenD hw m (by omega) h
/-- What holds when the operations of D are done. -/
def JS(l:List Oper)(n:Nat)(st:Nat→AS)(wr:Nat→Option (Nat×AO))(B0:BS)(w0:Wz)(a0:Act)(D:Nat→Prop)(vs:Nat→Value)(w:World):Prop:=
 ∃ ρ,Core ρ B0 w0 w (hpD (st 0).hp wr D n)∧(∀ id v,ρ id=some v→(lk (st 0).hp id).isSome=true∨∃ k o,k < n∧D k∧l[k]?=some o∧o.dst=some id)∧
  (∀ k p,k < n→D k→wr k=some p→∃ v,ρ p.1=some v)∧
  (∀ t av,lk (st 0).sl t=some av→(∀ k o,k < n→l[k]?=some o→D k→o.dst≠some t)→∃ v,a0.tmps[t]?=some v∧AR ρ (Bd ρ B0) w av v)∧(∀ k o d,k < n→D k→l[k]?=some o→o.dst=some d→AR ρ (Bd ρ B0) w (avh (st (k+1))) (vs k))
theorem JS.congr{l:List Oper}{n:Nat}{st:Nat→AS}{wr:Nat→Option (Nat×AO)}{B0:BS}{w0:Wz}{a0:Act}(D D':Nat→Prop)(vs vs':Nat→Value)(w:World)(h:JS l n st wr B0 w0 a0 D vs w)(hD:∀ k,k < n→(D k↔D' k))(hv:∀ k,k < n→D k→vs k=vs' k):JS l n st wr B0 w0 a0 D' vs' w:=by
 obtain ⟨ρ,h1,h2,h5,h3,h4⟩:=h;refine ⟨ρ,hpD_congr hD▸h1,fun id v h=>?_,fun k p hk hDk=>h5 k p hk ((hD k hk).2 hDk),fun t av ht hno=>h3 t av ht (fun k o hk ho hDk=>hno k o hk ho ((hD k hk).1 hDk)),fun k o d hk hDk ho hd=>?_⟩
 ·rcases h2 id v h with h | ⟨k,o,hk,hDk,h⟩
  ·exact Or.inl h
  ·exact Or.inr ⟨k,o,hk,(hD k hk).1 hDk,h⟩
 ·rw [← hv k hk ((hD k hk).2 hDk)]
  exact h4 k o d hk ((hD k hk).2 hDk) ho hd
/-- One more value (if it goes anywhere); the objects' values are the same ones. -/
theorem JS.same{l:List Oper}{n:Nat}{st:Nat→AS}{wr:Nat→Option (Nat×AO)}{B0:BS}{w0:Wz}{a0:Act}{D:Nat→Prop}{vs:Nat→Value}{w w':World}{i:Nat}{v:Value}{ρ:Rho}{oi:Oper}(hoi:l[i]?=some oi)(hb:Keep (Bd ρ B0) w w')(h1:Core ρ B0 w0 w' (hpD (st 0).hp wr (andI D i) n)) 
  (h2:∀ id v,ρ id=some v→(lk (st 0).hp id).isSome=true∨∃ k o,k < n∧D k∧l[k]?=some o∧o.dst=some id)
  (h5:∀ k p,k < n→D k→wr k=some p→∃ v,ρ p.1=some v) (h6:∀ p,wr i=some p→∃ v,ρ p.1=some v)
  (h3:∀ t av,lk (st 0).sl t=some av→(∀ k o,k < n→l[k]?=some o→D k→o.dst≠some t)→∃ v,a0.tmps[t]?=some v∧AR ρ (Bd ρ B0) w av v)
  (h4:∀ k o d,k < n→D k→l[k]?=some o→o.dst=some d→AR ρ (Bd ρ B0) w (avh (st (k+1))) (vs k)) (hv:∀ d,oi.dst=some d→AR ρ (Bd ρ B0) w' (avh (st (i+1))) v) (hni:¬ D i):JS l n st wr B0 w0 a0 (andI D i) (setI vs i v) w':=by
 have mvv:∀ {av:AV} {c:Value},AR ρ (Bd ρ B0) w av c→AR ρ (Bd ρ B0) w' av c:=fun h=>AR.mv hb (fun _ _ h=>h) (fun _ _=>rfl) h
 refine ⟨ρ,h1,fun id u h=>?_,fun k p hk hDk hp=>?_,fun t av ht hno=>?_,fun k o d hk hDk ho hd=>?_⟩
 ·rcases h2 id u h with h | ⟨k,o,hk,hDk,h⟩
  ·exact Or.inl h
  ·exact Or.inr ⟨k,o,hk,Or.inl hDk,h⟩
 ·rcases hDk with hDk | rfl
  ·exact h5 k p hk hDk hp
  ·exact h6 p hp
 ·obtain ⟨u,h7,h8⟩:=h3 t av ht (fun k o hk ho hDk=>hno k o hk ho (Or.inl hDk))
  exact ⟨u,h7,mvv h8⟩
 ·unfold setI
  by_cases e:k=i
  ·subst e
   rw [hoi] at ho;cases ho
   rw [if_pos rfl];exact hv d hd
  ·rw [if_neg e]
   rcases hDk with hDk | hDk
   ·exact mvv (h4 k o d hk hDk ho hd)
   ·exact absurd hDk e
theorem cDrawS(hT:TOk P T){id:Nat}{l:List Oper}(n:Nat){s:AS}(hm:P.follows .mixedOrders=true)(hB:allB l.toArray n s.n=true)(h:ChS P T l.toArray (fun s1=>AL P l.toArray Q (l.drop n) s1) 0 [] (l.take n) s):AW P (.region id l.toArray true) Q s:=by
 rintro B0 w0 a0 w ⟨ρ0,hc0,hn0,hdf0,hs0⟩;have hB':=hB;simp only [allB,Bool.and_eq_true,decide_eq_true_eq,Bool.or_eq_true] at hB';obtain ⟨⟨⟨⟨hsel,hreg⟩,hnle⟩,_⟩,_⟩:=hB';have hr:=regB_ok hreg;have hnl:n≤l.length:=by simpa using hnle
 obtain ⟨st,hst0,kk,hop0,_,_,hcf0,hnw0⟩:=h.st;have hlen:(l.take n).length=n:=by simp;omega
 rw [hlen] at kk;have htk:∀ {i:Nat} {o:Oper},i < n→l[i]?=some o→(l.take n)[i]?=some o:=fun hi ho=>by rw [List.getElem?_take,if_pos hi];exact ho
 have hop:∀ i o,i < n→l[i]?=some o→OpS P T l.toArray o (st i) (st (i+1)):=fun i o hi ho=>hop0 i o (htk hi ho)
 have hcf:∀ i o k ok,k < i→i < n→l[i]?=some o→l[k]?=some ok→(isSt o.op=true∨isSt ok.op=true)→∀ id∈idO st i o,id∈idO st k ok→reach l.toArray 6 o k=true:=fun i o k ok hk hi ho hok hs id h1 h2=>by
  have:=hcf0 i o k ok hk (htk hi ho) (htk (by omega) hok) hs id h1 h2;rwa [Nat.zero_add] at this
 have hnw:∀ i o k ok,k < i→i < n→l[i]?=some o→l[k]?=some ok→isNw o.op=true→∀ d,o.dst=some d→¬ d∈idO st k ok:=fun i o k ok hk hi ho hok=>hnw0 i o k ok hk (htk hi ho) (htk (by omega) hok)
 have hone:∀ i k oi ok d,i < n→k < n→l[i]?=some oi→l[k]?=some ok→k≠i→ok.dst=some d→oi.dst≠some d:=fun i k oi ok d hi hk hoi hok=>hr.one i k oi ok d hi hk (by simpa using hoi) (by simpa using hok)
 obtain ⟨wr,hway⟩:=wayS hnl hone hop;subst hst0;refine wp_region_J (J:=JS l n st wr B0 w0 a0) n (st 0).n hm hn0 hdf0 hB (fun D D' vs vs' w h=>JS.congr D D' vs vs' w h) ?_ ?_ ?_
 ·have hK:Keep (Bd ρ0 B0) w w.drew:=⟨Nat.le_refl _,fun _ _ _=>rfl⟩
  have hz:hpD (st 0).hp wr (fun _=>False) n=(st 0).hp:=(hpD_congr (D':=fun k=>k < 0) fun k _=>by simp).trans (hway.hp 0 (Nat.zero_le _));refine ⟨ρ0,⟨hc0.bel.step (Below.refl _ _).drew,hc0.b0,fun id v h=>?_,hc0.dist⟩,fun id v h=>?_,fun k p _ h=>h.elim,fun t av ht _=>?_,fun k o d _ h=>h.elim⟩
  ·obtain ⟨ob,h1,h2⟩:=hc0.obj id v h
   exact ⟨ob,by rw [hz];exact h1,h2.mv hK (fun _ _ hb=>hb) (fun _ _=>rfl)⟩
  ·obtain ⟨ob,h1,h2⟩:=hc0.obj id v h
   exact Or.inl (by rw [h1];rfl)
  ·obtain ⟨v,h1,h2⟩:=hs0 t av ht
   exact ⟨v,h1,AR.mv hK (fun _ _ hb=>hb) (fun _ _=>rfl) h2⟩
 ·intro i o hi ho D vs w' hni hwait hclo hJ
  have ho':l[i]?=some o:=by simpa using ho
  have hA:=puts_inv (a0:=a0) (ops:=l.toArray) rfl hr hn0 hnl vs i (Nat.le_of_lt hi);obtain ⟨ρ,hc,h2,h5,h3,h4⟩:=hJ;have hSl:Slots ρ (Bd ρ B0) w' (pickS (st i).sl (o.looksAt l.toArray)) (putsR (l.take i) 0 a0 vs):=by
   intro t av ht;obtain ⟨hts,hlk⟩:=pickS_mem _ t av ht
   by_cases hex:∃ k ok,k < i∧l[k]?=some ok∧ok.dst=some t
   ·obtain ⟨k,ok,hk,hok,hkd⟩:=hex
    have hok':l.toArray[k]?=some ok:=by simpa using hok
    rw [hway.at1 i (Nat.le_of_lt hi) t k ok hk hok hkd] at hlk;cases hlk
    refine ⟨vs k,hA.wr k ok t (by omega) hok' hk hkd,h4 k ok t (by omega) ?_ hok hkd⟩;rcases hr.look i k o ok t hi (by omega) ho hok' (by omega) hkd hts with ⟨_,h⟩ | ⟨h,_⟩
    ·exact hwait k h
    ·omega
   ·have hno:∀ k ok,k < i→l[k]?=some ok→ok.dst≠some t:=fun k ok hk hok hkd=>hex ⟨k,ok,hk,hok,hkd⟩
    rw [hway.at2 i (Nat.le_of_lt hi) t hno] at hlk;obtain ⟨v,h7,h8⟩:=h3 t av hlk (fun k ok hk hok hDk hkd=>by
     have hok':l.toArray[k]?=some ok:=by simpa using hok
     by_cases hki:k=i
     ·subst hki;exact hni hDk
     ·rcases hr.look i k o ok t hi hk ho hok' hki hkd hts with ⟨h,_⟩ | ⟨_,h⟩
      ·exact hno k ok h hok hkd
      ·exact hni (hclo k ok hok' hDk i h))
    refine ⟨v,?_,h8⟩;rw [hA.no t (fun k ok hk hok hki=>hno k ok hki (by simpa using hok))];exact h7
  have hidρ0:∀ id∈idsOf (st i) o.op.operands.toList,∃ v,ρ id=some v:=by
   intro id hid;obtain ⟨x,hx,hg⟩:=List.mem_filterMap.1 hid;cases hgx:geto (st i) x with
   | none=>rw [hgx] at hg;cases hg
   | some av=>
    rw [hgx] at hg;have hav:avId av=some id:=hg;cases x with
    | tmp t=>
     have hm:t∈o.looksAt l.toArray:=List.mem_append_left _ (List.mem_filterMap.2 ⟨.tmp t,by simpa using hx,rfl⟩);obtain ⟨v,_,h8⟩:=hSl t av (by rw [lk_pickS _ t hm];exact hgx);exact avId_R hav h8
    | const v=>cases v <;> simp only [geto,Option.some.injEq,reduceCtorEq] at hgx <;> (subst hgx;cases hav)
    | func f=>simp only [geto,Option.some.injEq] at hgx;subst hgx;cases hav
    | global g=>simp [geto] at hgx
  have hidρ:∀ id∈idO st i o,∃ v,ρ id=some v:=fun id hid=>hidρ0 id (idsR_of hid)
  have hiff:∀ id∈idO st i o,∀ k p,k < n→wr k=some p→p.1=id→(D k↔k < i):=by
   intro id hid k p hk hp hpid;have hok:l[k]?=some (l[k]'(by omega)):=by simp
   have hok':l.toArray[k]?=some (l[k]'(by omega)):=by simp
   rcases hway.wrs k _ p hk hok hp with ⟨hN,hdk,hnone⟩ | ⟨hS,hmem,_⟩
   ·rw [hpid] at hdk hnone
    obtain ⟨v,hv⟩:=hidρ id hid;have hDk:D k:=by
     rcases h2 id v hv with h | ⟨k',o',hk',hDk',ho'',hd'⟩
     ·have:=hway.grow k (Nat.le_of_lt hk) id h
      rw [hnone] at this;cases this
     ·by_cases e:k'=k
      ·subst e;exact hDk'
      ·exact absurd hdk (hone k k' _ o' id hk hk' hok ho'' e hd')
    refine ⟨fun _=>?_,fun _=>hDk⟩;rcases Nat.lt_trichotomy k i with h | h | h
    ·exact h
    ·subst h;exact absurd hDk hni
    ·exact absurd hid (hnw k _ i o h hk hok ho' hN id hdk)
   ·rw [hpid] at hmem
    rcases Nat.lt_trichotomy k i with h | h | h
    ·exact ⟨fun _=>h,fun _=>reach_ok hclo 6 o k hwait (hcf i o k _ h hi ho' hok (Or.inr hS) id hid hmem)⟩
    ·subst h;exact ⟨fun h=>absurd h hni,fun h=>absurd h (Nat.lt_irrefl _)⟩
    ·exact ⟨fun hDk=>absurd (reach_ok hclo 6 _ i (hclo k _ hok' hDk) (hcf k _ i o h hk hok ho' (Or.inl hS) id hmem hid)) hni,fun h'=>by omega⟩
  have hlkD:∀ id∈idO st i o,lk (st i).hp id=lk (hpD (st 0).hp wr D n) id:=by
   intro id hid;rw [← hway.hp i (Nat.le_of_lt hi)];exact (hpD_lk fun k p hk hp hpid=>hiff id hid k p hk hp hpid).symm
  let s2:AS:=⟨(st i).n,pickS (st i).sl (o.looksAt l.toArray),hpD (st 0).hp wr D n⟩
  have hget:∀ x∈o.op.operands,geto (st i) x=geto s2 x:=by
   intro x hx;cases x with
   | tmp t=>
    have hm:t∈o.looksAt l.toArray:=List.mem_append_left _ (List.mem_filterMap.2 ⟨.tmp t,by simpa using hx,rfl⟩);exact (lk_pickS _ t hm).symm
   | const v=>cases v <;> rfl
   | _=>rfl
  have hg':gst l.toArray (st i) o=gst l.toArray s2 o:=gst_congr (fun t ht=>(lk_pickS _ t ht).symm);have hAd:(putsR (l.take i) 0 a0 vs).defers= []:=hA.defs.trans hdf0;have hdef:∀ v,((putsR (l.take i) 0 a0 vs).put o.dst v).defers= []:=fun v=>by cases hd:o.dst <;> exact hAd
  have hval:∀ v d,o.dst=some d→Am.valOf o ((putsR (l.take i) 0 a0 vs).put o.dst v)=v:=fun v d hd=>Am.valOf_put hd (by rw [hA.size,hn0];exact hr.dst i o d hi ho hd)
  have hO:=hop i o hi ho';have hsh:=OpS.shape2 hO;have hwri:∀ {hp'},(st (i+1)).hp=hp'→hp'=(st i).hp→wr i=none:=by
   intro hp' e1 e2;have:=hway.up i hi;rw [e1,e2] at this;cases hw:wr i with
   | none=>rfl
   | some p=>rw [hw] at this;have h9:=congrArg List.length this;simp at h9
  have hnone:wr i=none→Core ρ B0 w0 w' (hpD (st 0).hp wr (andI D i) n):=fun hw=>Core.lkc hc fun id _=>hpD_lk fun k p hk hp hpid=>by
   unfold andI;constructor
   ·exact Or.inl
   ·rintro (h | rfl)
    ·exact h
    ·rw [hw] at hp;cases hp
  have fin:∀ {w2:World} {v:Value} {av:AV},st (i+1)=(st i).put o.dst av→Below w'.heap.size w' w2→AR ρ (Bd ρ B0) w2 av v→JS l n st wr B0 w0 a0 (andI D i) (setI vs i (Am.valOf o ((putsR (l.take i) 0 a0 vs).put o.dst v))) w2:=by
   intro w2 v av he hb hv;have hw:wr i=none:=hwri (hp':=((st i).put o.dst av).hp) (by rw [he]) (by cases o.dst <;> rfl);refine JS.same ho' (.of_below hb) ((hnone hw).below hb) h2 h5 (fun p hp=>by rw [hw] at hp;cases hp) h3 h4 (fun d hd=>?_) hni;rw [hval v d hd];have:avh (st (i+1))=av:=by rw [he,hd];rfl
   rw [this];exact hv
  obtain ⟨s3,hs3⟩:∃ s3,s3=st (i+1):=⟨_,rfl⟩
  rw [← hs3] at hO;cases hO with
  | V av h hg hk=>
   rw [hg'] at hg
   replace h:evV T s2 o.op=some av:=by
    cases hln:isLen o.op with
    | false=>rwa [evV_congr2 (T:=T) (op:=o.op) (s:=st i) (s':=s2) hln hget hlkD] at h
    | true=>
     refine evV_len hln hget (fun id hid n0 hn0'=>?_) h;obtain ⟨v0,hv0⟩:=hidρ0 id hid;obtain ⟨ob,ho1,_⟩:=hc.obj id v0 hv0;show rowN (lk (hpD (st 0).hp wr D n) id)=some n0
     rw [ho1];obtain ⟨j,hj,hj1,hj2⟩:=hway.lenD n (Nat.le_refl _) ho1;have hi1:(lk (st i).hp id).isSome=true:=by
      exact rowN_some hn0'
     rw [show rowN (some ob)=rowN (lk (st j).hp id) from congrArg Prod.fst hj2,← hn0'];rcases Nat.le_total j i with hji | hji
     ·exact congrArg Prod.fst ((hway.len hnl hj1 i hji (Nat.le_of_lt hi)).2).symm
     ·exact congrArg Prod.fst (hway.len hnl hi1 j hji hj).2
   obtain ⟨v,hrun,hv⟩:=evV_ok (s:=s2) hT hSl hc (fun _ _ h=>h) h;exact ifW_pos (gst_ok (s:=s2) hg hSl) (wp_value' (a:=a0) hrun ⟨hdef v,fin hs3.symm (Below.refl _ _) hv⟩)
  | Y x tw id h hw hi2 hn ho hl hg hk=>
   rw [hg'] at hg;have hno:∀ (k:Nat) (ok:Oper),l[k]?=some ok→ok.dst≠some tw:=fun k ok hok=>noDst_ok hn hok
   rw [hway.at2 i (Nat.le_of_lt hi) tw (fun k ok _ hok=>hno k ok hok)] at hw;obtain ⟨u,_,hu⟩:=h3 tw _ hw (fun k ok _ hok _=>hno k ok hok);obtain ⟨y,hy⟩:=avId_R hi2 hu;obtain ⟨ob,ho1,ho2⟩:=hc.obj id y hy;obtain ⟨j,hj,hj1,hj2⟩:=hway.lenD n (Nat.le_refl _) ho1;have hi1:(lk (st i).hp id).isSome=true:=by rw [ho];rfl
   have e:sgO (some ob)=sgO (lk (st i).hp id):=hj2.trans (by
    rcases Nat.le_total j i with hji | hji
    ·exact ((hway.len hnl hj1 i hji (Nat.le_of_lt hi)).2).symm
    ·exact (hway.len hnl hi1 j hji hj).2)
   obtain ⟨e',sz',n',el',hob⟩:=nmO_of (o:=some ob) (x:=x) ((congrArg Prod.snd e).trans (by rw [ho];rfl));cases hob
   replace h:evV T s2 o.op=some (.d (.one (.v x))):=by
    rwa [evV_congr2 (T:=T) (op:=o.op) (s:=st i) (s':=s2) hl hget hlkD] at h
   obtain ⟨v,hrun,hv⟩:=evV_ok (s:=s2) hT hSl hc (fun _ _ h=>h) h;exact ifW_pos (gst_ok (s:=s2) hg hSl) (wp_value' (a:=a0) hrun ⟨hdef v,fin hs3.symm (Below.refl _ _) (own_raw hv hy ho2)⟩)
  | B av h hg hk=>
   rw [hg'] at hg;rw [evB_congr (T:=T) (op:=o.op) (s:=st i) (s':=s2) hget] at h;obtain ⟨v,w2,hrun,hb,hv⟩:=evB_ok (s:=s2) hT hSl hc h;exact ifW_pos (gst_ok (s:=s2) hg hSl) (wp_value' (a:=a0) hrun ⟨hdef v,fin hs3.symm hb hv⟩)
  | X av h hg hk=>
   rw [hg'] at hg;obtain ⟨v,hrun,hv⟩:=h ρ (Bd ρ B0) w' (putsR (l.take i) 0 a0 vs) (fun x hx av' hgx=>geto_ok (s:=s2) hSl ((hget x hx).symm.trans hgx));exact ifW_pos (gst_ok (s:=s2) hg hSl) (wp_value' (a:=a0) hrun ⟨hdef v,fin hs3.symm (Below.refl _ _) hv⟩)
  | G hg hk=>
   rw [hg'] at hg;refine ifW_neg (gst_ok (s:=s2) hg hSl) ?_;have hw:wr i=none:=hwri (hp':=((st i).put o.dst .dead).hp) (by rw [← hs3]) (by cases o.dst <;> rfl);refine JS.same ho' (.of_below (Below.refl _ _)) (hnone hw) h2 h5 (fun p hp=>by rw [hw] at hp;cases hp) h3 h4 (fun d hd=>?_) hni;have:avh (st (i+1))= .dead:=by rw [← hs3,hd];rfl
   rw [this];trivial
  | C h hcl hf ha hg hk=>
   rename_i c f cap ds res;rw [hg'] at hg;have hop':o.op= .call c:=by
    unfold callOf at hcl;split at hcl
    ·rename_i h;cases hcl;exact h
    ·cases hcl
   have hgc:∀ x∈c.operands,geto (st i) x=geto s2 x:=fun x hx=>hget x (by rw [hop'];exact hx)
   rw [fnOf_congr hgc] at hf;rw [getds_congr _ (fun x hx=>hgc x (Array.mem_append.2 (Or.inr (by simpa using hx))))] at ha;obtain ⟨us,hus,hrun⟩:=run_call (s:=s2) hSl hcl hf ha h.en;refine ifW_pos (gst_ok (s:=s2) hg hSl) ?_;unfold Oper.wp;rw [hrun];refine (h.go (Bd ρ B0) w' us hc.bdlt hus).mono ?_;rintro e w2 ⟨v,rfl,hb,hv⟩;exact ⟨hdef v,fin hs3.symm hb hv.lift⟩
  | S id ob h hdst hg=>
   rw [hg'] at hg;obtain ⟨hst,hid,_⟩:=evS_id h;rw [evS_congr2 (T:=T) (op:=o.op) (s:=st i) (s':=s2) hget hlkD] at h;obtain ⟨w2,hrun,hc2,hk2⟩:=evS_ok (s:=s2) hT hSl hc h;refine ifW_pos (gst_ok (s:=s2) hg hSl) ?_;unfold Oper.wp;rw [hrun];refine ⟨hdef _,?_⟩;have hup:=hway.up i hi;rw [← hs3] at hup;have hwi:wr i=some (id,ob):=by
    cases hw:wr i with
    | none=>
     rw [hw] at hup;have h9:=congrArg List.length hup;simp at h9
    | some p=>
     rw [hw] at hup;have h9:(id,ob) ::(st i).hp=p ::(st i).hp:=hup;exact congrArg some (List.cons.inj h9).1.symm
   have hcc:Core ρ B0 w0 w2 (hpD (st 0).hp wr (andI D i) n):=by
    refine Core.lkc hc2 fun id' _=>?_
    show lk ((id,ob) ::hpD (st 0).hp wr D n) id'=_
    rw [lk_cons]
    by_cases e:id=id'
    ·subst e
     rw [if_pos rfl];have e1:lk (hpD (st 0).hp wr (andI D i) n) id=lk (hpD (st 0).hp wr (fun k=>k < i+1) n) id:=hpD_lk fun k p hk hp hpid=>by
      unfold andI;rw [hiff id hid k p hk hp hpid];omega
     rw [e1,hway.hp (i+1) (by omega),← hs3];show some ob=lk ((id,ob) ::(st i).hp) id
     rw [lk_cons,if_pos rfl]
    ·rw [if_neg e]
     refine hpD_lk fun k p hk hp hpid=>?_
     unfold andI;constructor
     ·exact Or.inl
     ·rintro (h | rfl)
      ·exact h
      ·rw [hwi] at hp;cases hp;exact absurd hpid e
   exact JS.same ho' hk2 hcc h2 h5 (fun p hp=>by rw [hwi] at hp;cases hp;exact hidρ id hid) h3 h4 (fun d hd=>by rw [hdst] at hd;cases hd) hni
  | N ob h d hd hfr hg hk=>
   rw [hg'] at hg;have hnwo:=evN_nw h;rw [evN_congr (T:=T) (op:=o.op) (s:=st i) (s':=s2) hget] at h;obtain ⟨v,w2,hrun,hb,hvb,hob⟩:=evN_ok (s:=s2) hT hSl hc h;have hup:=hway.up i hi;rw [← hs3] at hup;have hwi:wr i=some (d,ob):=by
    cases hw:wr i with
    | none=>
     rw [hw] at hup;have h9:=congrArg List.length hup;simp [AS.mk'] at h9
    | some p=>
     rw [hw] at hup;have h9:(d,ob) ::(st i).hp=p ::(st i).hp:=hup;exact congrArg some (List.cons.inj h9).1.symm
   have h0none:(lk (st 0).hp d).isSome=false:=by
    cases hq:(lk (st 0).hp d).isSome with
    | false=>rfl
    | true=>have:=hway.grow i (Nat.le_of_lt hi) d hq;rw [hfr] at this;cases this
   have hρ:ρ d=none:=by
    cases hq:ρ d with
    | none=>rfl
    | some u=>
     rcases h2 d u hq with h7 | ⟨k,ok,hk',hDk,hok,hkd⟩
     ·rw [h0none] at h7;cases h7
     ·by_cases hki:k=i
      ·subst hki;exact absurd hDk hni
      ·exact absurd hd (hone i k o ok d hi hk' ho' hok hki hkd)
   have hO2:=hob (Bd (up ρ d v) B0) (up_new hρ hvb);have hdiff:∀ k p,k < n→wr k=some p→p.1=d→(andI D i k↔k < i+1):=by
    intro k p hk' hp hpd;have hok:l[k]?=some (l[k]'(by omega)):=by simp
    by_cases e:k=i
    ·subst e;exact ⟨fun _=>by omega,fun _=>Or.inr rfl⟩
    ·have hnD:¬ D k:=fun hDk=>by
      obtain ⟨u,hu⟩:=h5 k p hk' hDk hp;rw [hpd,hρ] at hu;cases hu
     refine ⟨fun h=>?_,fun h=>?_⟩
     ·rcases h with h | h
      ·exact absurd h hnD
      ·exact absurd h e
     ·exfalso
      rcases hway.wrs k _ p hk' hok hp with ⟨_,hdk,_⟩ | ⟨_,hmem,_⟩
      ·rw [hpd] at hdk
       exact hone i k o _ d hi hk' ho' hok e hdk hd
      ·rw [hpd] at hmem
       exact hnw i o k _ (by omega) hi ho' hok hnwo d hd hmem
   have hlast:lk (hpD (st 0).hp wr (andI D i) n) d=some ob:=by
    rw [hpD_lk (D':=fun k=>k < i+1) hdiff,hway.hp (i+1) (by omega),← hs3];show lk ((d,ob) ::(st i).hp) d=some ob
    rw [lk_cons,if_pos rfl]
   have hoth:∀ id',id'≠d→lk (hpD (st 0).hp wr D n) id'=lk (hpD (st 0).hp wr (andI D i) n) id':=fun id' hne=>hpD_lk fun k p hk' hp hpid=>by
    unfold andI;constructor
    ·exact Or.inl
    ·rintro (h | rfl)
     ·exact h
     ·rw [hwi] at hp;cases hp;exact absurd hpid.symm hne
   have hc2:Core (up ρ d v) B0 w0 w2 (hpD (st 0).hp wr (andI D i) n):=hc.new hρ hb hvb (fun k ob' hk' hne=>by rw [← hoth k hne];exact hk') hlast hO2;refine ifW_pos (gst_ok (s:=s2) hg hSl) (wp_value' (a:=a0) hrun ⟨hdef v,?_⟩);refine ⟨_,hc2,fun id u hu=>?_,fun k p hk' hDk hp=>?_,fun t av ht hno=>?_,fun k ok d' hk' hDk hok hd'=>?_⟩
   ·unfold up at hu
    split at hu
    ·rename_i e
     exact Or.inr ⟨i,o,hi,Or.inr rfl,ho',by rw [hd,e]⟩
    ·rcases h2 id u hu with h7 | ⟨k,ok,hk',hDk,h7⟩
     ·exact Or.inl h7
     ·exact Or.inr ⟨k,ok,hk',Or.inl hDk,h7⟩
   ·unfold up
    split
    ·exact ⟨_,rfl⟩
    ·rename_i hne
     rcases hDk with hDk | rfl
     ·exact h5 k p hk' hDk hp
     ·rw [hwi] at hp;cases hp;exact absurd rfl hne
   ·obtain ⟨u,h7,h8⟩:=h3 t av ht (fun k o hk ho hDk=>hno k o hk ho (Or.inl hDk))
    exact ⟨u,h7,h8.new hρ hb hvb⟩
   ·unfold setI
    by_cases e:k=i
    ·subst e
     rw [if_pos rfl,hval v d hd,← hs3];exact AO.av_ok hO2 (by simp [up])
    ·rw [if_neg e]
     rcases hDk with hDk | hDk
     ·exact (h4 k ok d' hk' hDk hok hd').new hρ hb hvb
     ·exact absurd hDk e
 ·intro D vs w' hall hJ
  obtain ⟨ρ,hc,h2,h5,h3,h4⟩:=hJ;have hA:=puts_inv (a0:=a0) (ops:=l.toArray) rfl hr hn0 hnl vs n (Nat.le_refl _);have hhp:hpD (st 0).hp wr D n=(st n).hp:=by
   rw [← hway.hp n (Nat.le_refl _)];exact hpD_congr fun k hk=>⟨fun _=>hk,fun _=>hall k hk⟩
  rw [hhp] at hc;refine kk B0 w0 _ w' ⟨ρ,hc,?_,hA.defs.trans hdf0,fun t av ht=>?_⟩
  ·rw [hA.size,hn0,hway.nn n (Nat.le_refl _)]
  ·by_cases hex:∃ k ok,k < n∧l[k]?=some ok∧ok.dst=some t
   ·obtain ⟨k,ok,hk,hok,hkd⟩:=hex
    rw [hway.at1 n (Nat.le_refl _) t k ok hk hok hkd] at ht;cases ht
    exact ⟨vs k,hA.wr k ok t hk (by simpa using hok) hk hkd,h4 k ok t hk (hall k hk) hok hkd⟩
   ·have hno:∀ k ok,k < n→l[k]?=some ok→ok.dst≠some t:=fun k ok hk hok hkd=>hex ⟨k,ok,hk,hok,hkd⟩
    rw [hway.at2 n (Nat.le_refl _) t hno] at ht;obtain ⟨v,h7,h8⟩:=h3 t av ht (fun k o hk hok _=>hno k o hk hok);refine ⟨v,?_,h8⟩;rw [hA.no t (fun k o hk hok _=>hno k o hk (by simpa using hok))];exact h7
end
end
theorem evi{k:IntKind}{a b:Int}(h:a=b):some (AV.d (.one (.v (.int k a))))=some (AV.d (.one (.v (.int k b)))):=by rw [h]
theorem evb{a b:Bool}(h:a=b):some (AV.d (.one (.v (.bool a))))=some (AV.d (.one (.v (.bool b)))):=by rw [h]
def isF:Callee→Option FuncId
 | .value (.func f)=>some f
 | _=>none
section
variable {P:Program} {ops:Array Oper} {Q:Qs} {o:Oper} {l:List Oper} {s:AS}
theorem isF_fn{cal:Callee}{f:FuncId}(h:isF cal=some f):fnOf s cal=some (f,[]):=by
 unfold isF at h;split at h
 ·cases h;rfl
 ·cases h
theorem mC0{c:Call}{f:FuncId}{ds:List DV}{res:AV}(h:ACall P f ds res)(hc:callOf o.op=some c)(hf:isF c.callee=some f)(ha:getds s c.args.toList=some ds)(k:AL P ops Q l (s.put o.dst res)) 
  (hg:gst ops s o=some true:=by rfl) (hd:dok o.dst s.n=true:=by rfl):AL P ops Q (o ::l) s:=
 mC (cap:= []) (by rw [List.append_nil];exact h) hc (isF_fn hf) ha k hg hd
theorem OpS.C0{T:TypeId→Option TI}{c:Call}{f:FuncId}{ds:List DV}{res:AV}(h:ACall P f ds res)(hc:callOf o.op=some c)(hf:isF c.callee=some f)(ha:getds s c.args.toList=some ds)(hg:gst ops s o=some true:=by rfl)(hd:dok o.dst s.n=true:=by rfl):OpS P T ops o s (s.put o.dst res):=
 .C (cap:= []) (by rw [List.append_nil];exact h) hc (isF_fn hf) ha hg hd
/-- One after another, and K of what comes of it. -/
inductive ChK (P:Program) (T:TypeId→Option TI) (ops:Array Oper) (K:AS→Prop):List Oper→AS→Prop
 | nil {s:AS} (h:K s):ChK P T ops K [] s
 | cons {o:Oper} {l:List Oper} {s s1:AS} (h:OpS P T ops o s s1) (k:ChK P T ops K l s1):ChK P T ops K (o ::l) s
theorem ChK.ch{T:TypeId→Option TI}{K:AS→Prop}(h:ChK P T ops K l s):∃ s1,Ch P T ops l s s1∧K s1:=by
 induction h with
 | nil h=>exact ⟨_,.nil _,h⟩
 | cons h _ ih=>obtain ⟨s1,h1,h2⟩:=ih;exact ⟨s1,.cons h h1,h2⟩
theorem cDrawK{T:TypeId→Option TI}(hT:TOk P T){id:Nat}{l:List Oper}(n:Nat){s:AS}(hm:P.follows .mixedOrders=true)(hB:Am.allB l.toArray n s.n=true)(hD:Am.dstB l.toArray n=true)(h:ChK P T l.toArray (fun s1=>AL P l.toArray Q (l.drop n) s1) (l.take n) s):AW P (.region id l.toArray true) Q s:=by
 obtain ⟨s1,h1,h2⟩:=h.ch;exact cDraw hT n hm hB hD h1 h2
theorem cT{c:Operand}{x y:Code}(hc:geto s c=some (.d (.one (.v (.bool true)))))(h:AW P x Q s):AW P (.cond c x y) Q s:=cCond hc (fun _=>h) (fun e=>by cases e)
theorem cF{c:Operand}{x y:Code}(hc:geto s c=some (.d (.one (.v (.bool false)))))(h:AW P y Q s):AW P (.cond c x y) Q s:=cCond hc (fun e=>by cases e) (fun _=>h)
theorem tN{K:AS→Prop}(h:K s):thn K Q .normal s:=h
theorem tE{K:AS→Prop}{id:Nat}(h:Q (.exit id) s):thn K Q (.exit id) s:=h
theorem tR{K:AS→Prop}(h:Q .ret s):thn K Q .ret s:=h
theorem bN{id:Nat}(h:Q .normal s):inB id Q .normal s:=h
theorem bR{id:Nat}(h:Q .ret s):inB id Q .ret s:=h
theorem bE{id:Nat}(h:Q .normal s):inB id Q (.exit id) s:=by show (if id=id then Q .normal s else Q (.exit id) s);rw [if_pos rfl];exact h
theorem bX{id id':Nat}(hne:Nat.beq id' id=false)(h:Q (.exit id') s):inB id Q (.exit id') s:=by
 show (if id'=id then Q .normal s else Q (.exit id') s)
 rw [if_neg (fun e=>by rw [e,Nat.beq_refl] at hne;cases hne)];exact h
theorem rQ{T:TypeId→Option TI}{rs:List ResultVar}{es:List DV}{r:AV}(h:resE T s rs=some es)(hl:AV.le (resAV es) r):RetQ T rs r .ret s:=⟨es,h,hl⟩
theorem wkView{s:AS}(t:Nat)(av':AV){av:AV}(h:lk s.sl t=some av)(hl:AV.le av av'):Wk s ⟨s.n,(t,av') ::s.sl,s.hp⟩:=by
 rintro B0 w0 a w ⟨ρ,hc,hn,hdf,hs⟩;refine ⟨ρ,hc,hn,hdf,fun u av2 hu=>?_⟩;rw [lk_cons] at hu;split at hu
 ·rename_i e
  cases hu
  subst e;obtain ⟨v,h1,h2⟩:=hs t av h;exact ⟨v,h1,hl _ _ _ _ h2⟩
 ·exact hs u av2 hu
theorem mView(t:Nat)(av':AV){av:AV}(h:lk s.sl t=some av)(hl:AV.le av av')(k:AL P ops Q l ⟨s.n,(t,av') ::s.sl,s.hp⟩):AL P ops Q l s:=AL.wk (wkView t av' h hl) k
theorem cView{c:Code}(t:Nat)(av':AV){av:AV}(h:lk s.sl t=some av)(hl:AV.le av av')(k:AW P c Q ⟨s.n,(t,av') ::s.sl,s.hp⟩):AW P c Q s:=AW.wk (wkView t av' h hl) k
end
theorem acallN{P : Program}{T : TypeId → Option TI}(hT : TOk P T){f : FuncId}{fn : Func}{c : Code}{args : List DV}{r : AV}(n : Nat)(rs : List ResultVar)(hf : P.funcs[f]? = some fn)(hb : fn.body = some c)(hnm : (fn.name == "runtime.NumGoroutine") = false)(hn : fn.ntmps = n)(hrs : fn.results.toList = rs)(hlen : Nat.ble args.length n = true) 
  (h:AW P c (RetQ T rs r) ⟨n,params 0 args,[]⟩):ACall P f args r:=by
 subst hn;subst hrs;exact acall hT hf hb hnm hlen h
/-- One of the leaves L x with Q x. -/
def exL{α:Type}(Q:α→Prop)(L:α→Lf):Lf:= .sm ⟨fun B w v=>∃ x,Q x∧LfR B w (L x) v,fun _ _ _ ⟨_,_,h⟩=>h.one,fun _ _ _ _ _ ⟨x,hq,h⟩ hk hB=>⟨x,hq,h.mv hk hB⟩⟩
theorem exL_intro{α:Type}{Q:α→Prop}{L:α→Lf}(x:α)(hq:Q x):AV.le (.d (.one (L x))) (.d (.one (exL Q L))):=fun _ _ _ _ h=>⟨x,hq,h⟩
theorem exL_mono{α β:Type}{Q:α→Prop}{L:α→Lf}{R:β→Prop}{M:β→Lf}(h:∀ x,Q x→∃ y,R y∧∀ B w v,LfR B w (L x) v→LfR B w (M y) v):∀ B w v,LfR B w (exL Q L) v→LfR B w (exL R M) v:=fun B w v ⟨x,hq,k⟩=>let ⟨y,hr,hl⟩:=h x hq;⟨y,hr,hl B w v k⟩
section
variable {P:Program} {ops:Array Oper} {Q:Qs} {l:List Oper} {s:AS} {o:Oper}
theorem slots_cons{ρ:Rho}{B:BS}{w:World}{sl:List (Nat×AV)}{a:Act}{t:Nat}{av:AV}{v:Value}(h:Slots ρ B w sl a)(hv:a.tmps[t]?=some v)(h':AR ρ B w av v):Slots ρ B w ((t,av) ::sl) a:=by
 intro u av' hu;rw [lk_cons] at hu;split at hu
 ·rename_i e;cases hu;subst e;exact ⟨v,hv,h'⟩
 ·exact h u av' hu
/-- What a slot holds is found out. -/
theorem cEx{α:Type}{Qx:α→Prop}{L:α→Lf}{c:Code}(t:Nat)(h:lk s.sl t=some (.d (.one (exL Qx L))))(k:∀ x,Qx x→AW P c Q ⟨s.n,(t,.d (.one (L x))) ::s.sl,s.hp⟩):AW P c Q s:=by
 rintro B0 w0 a w ⟨ρ,hc,hn,hdf,hs⟩;obtain ⟨v,hv,x,hq,hl⟩:=hs t _ h;exact k x hq B0 w0 a w ⟨ρ,hc,hn,hdf,slots_cons hs hv hl⟩
theorem mEx{α:Type}{Qx:α→Prop}{L:α→Lf}(t:Nat)(h:lk s.sl t=some (.d (.one (exL Qx L))))(k:∀ x,Qx x→AL P ops Q l ⟨s.n,(t,.d (.one (L x))) ::s.sl,s.hp⟩):AL P ops Q l s:=by
 rintro B0 w0 a w ⟨ρ,hc,hn,hdf,hs⟩;obtain ⟨v,hv,x,hq,hl⟩:=hs t _ h;exact k x hq B0 w0 a w ⟨ρ,hc,hn,hdf,slots_cons hs hv hl⟩
/-- A row of the frame's own is stored into a variable of its own; its value gets a name. -/
theorem mSo{T:TypeId→Option TI}(hT:TOk P T)(ty id2 id:Nat){ob2:AO}(obx:Value→AO)(h1:lk s.sl ty=some (.own id2))(h2:lk s.hp id2=some ob2)(h:∀ x,evS T ⟨s.n,(ty,.d (.one (.v x))) ::s.sl,(id2,.is x ob2) ::s.hp⟩ o.op=some (id,obx x)) 
  (k:∀ x,AL P ops Q l (AS.put ⟨s.n,s.sl,(id,obx x) ::(id2,.is x ob2) ::s.hp⟩ o.dst .dead)) (hg:gst ops s o=some true:=by rfl) (hd:dok o.dst s.n=true:=by rfl):AL P ops Q (o ::l) s:=by
 rintro B0 w0 a w ⟨ρ,hc,hn,hdf,hs⟩;obtain ⟨x,hx,hρ,ag,nn,cap,hsl⟩:=hs ty _ h1;have hone:x.oneCell'=true:=by subst hsl;rfl
 have hc2:Core ρ B0 w0 w ((id2,.is x ob2) ::s.hp):=⟨hc.bel,hc.b0,fun j v hj=>by
  obtain ⟨ob,q1,q2⟩:=hc.obj j v hj
  by_cases e:id2=j
  ·subst e
   rw [h2] at q1;cases q1
   have:v=x:=by rw [hρ] at hj;cases hj;rfl
   exact ⟨.is x ob2,by rw [lk_cons,if_pos rfl],this,q2⟩
  ·exact ⟨ob,by rw [lk_cons,if_neg e];exact q1,q2⟩,hc.dist⟩
 have hs2:Slots ρ (Bd ρ B0) w ((ty,.d (.one (.v x))) ::s.sl) a:=slots_cons hs hx ⟨rfl,hone⟩;obtain ⟨w',hr,hc',hk⟩:=evS_ok hT (s:=⟨s.n,(ty,.d (.one (.v x))) ::s.sl,(id2,.is x ob2) ::s.hp⟩) hs2 hc2 (h x);have hs':Slots ρ (Bd ρ B0) w' s.sl a:=fun t av ht=>let ⟨u,q1,q2⟩:=hs t av ht;⟨u,q1,AR.mv hk (fun _ _ hB=>hB) (fun _ _=>rfl) q2⟩
 exact wpl_skip (gst_ok hg hs) hr (k x B0 w0 _ w' (den_put (s:=⟨s.n,s.sl,(id,obx x) ::(id2,.is x ob2) ::s.hp⟩) hc' hn hdf hs' hd trivial))
end
/-- Values of slots. -/
def AsR(ρ:Rho)(B:BS)(w:World):List AV→List Value→Prop
 | [],[]=>True
 | a ::l,v ::vs=>AR ρ B w a v∧AsR ρ B w l vs
 | _,_=>False
/-- The blocks of objects; some objects are there. -/
def Lent(ρ:Rho):BS:=fun b=>∃ id v,ρ id=some v∧vblk v=some b
def Al(ρ:Rho)(ids:List Nat):Prop:=∀ id∈ids,∃ v,ρ id=some v
/-- WHAT A FUNCTION DOES THAT IS LENT OBJECTS: they are numbered avs in hp; those of wi are there; it answers r and leaves the objects hp' with Q r hp', those of wo are there. -/
structure ACallL(P:Program)(f:FuncId)(args:List AV)(hp:List (Nat×AO))(wi wo:List Nat)(Q:AV→List (Nat×AO)→Prop):Prop where
 en:∀ vs w,(callFunc f vs).run P w= .ok (.enter f vs) w
 go:∀ ρ B w vs,Core ρ B ⟨w,Lent ρ⟩ w hp→Al ρ wi→AsR ρ (Bd ρ B) w args vs→Calls P f vs.toArray w fun e w'=>
  ∃ v ρ' r hp',e= .returned v∧Q r hp'∧Core ρ' B ⟨w,Lent ρ⟩ w' hp'∧Al ρ' wo∧AR ρ' (Bd ρ' B) w' r v
/-! ### The callee -/
def paramsA:Nat→List AV→List (Nat×AV)
 | _,[]=> []
 | i,d ::ds=>(i,d) ::paramsA (i+1) ds
theorem paramsA_lk{B:BS}{w:World}{ρ:Rho}:∀ {ds:List AV} {vs:List Value} {i t:Nat} {av:AV},AsR ρ B w ds vs→lk (paramsA i ds) t=some av→∃ k v,t=i+k∧vs[k]?=some v∧AR ρ B w av v
 | [],[],i,t,av,_,h=>by cases h
 | d ::ds,v ::vs,i,t,av,hd,h=>by
  unfold paramsA at h;rw [lk_cons] at h;split at h
  ·rename_i e
   cases h
   exact ⟨0,v,by omega,rfl,hd.1⟩
  ·obtain ⟨k,u,h1,h2,h3⟩:=paramsA_lk hd.2 h
   exact ⟨k+1,u,by omega,by simpa using h2,h3⟩
theorem AsR.len{ρ:Rho}{B:BS}{w:World}:∀ {ls:List AV} {cs:List Value},AsR ρ B w ls cs→ls.length=cs.length
 | [],[],_=>rfl
 | _ ::_,_ ::_,h=>congrArg (· +1) (AsR.len h.2)
/-- The results of a frame. -/
def ResL(P:Program)(s:AS)(rs:List ResultVar)(r:AV):Prop:=∀ (ρ:Rho) (B0:BS) (w0:Wz) (w:World) (a:Act),Core ρ B0 w0 w s.hp→Slots ρ (Bd ρ B0) w s.sl a→∃ vs:List Value,(rs.mapM (rvF a.tmps)).run P w= .ok vs w∧AR ρ (Bd ρ B0) w r (resV vs)
theorem resL_d{P:Program}{T:TypeId→Option TI}(hT:TOk P T){s:AS}{rs:List ResultVar}{es:List DV}{r:AV}(h:resE T s rs=some es)(k:AV.le (resAV es) r):ResL P s rs r:=by
 intro ρ B0 w0 w a hc hs;obtain ⟨vs,h1,h2⟩:=resE_ok hT hc hs _ _ h;exact ⟨vs,h1,k _ _ _ _ (res_ok h2)⟩
theorem resL_p{P:Program}{s:AS}{t:Nat}{av:AV}(h:lk s.sl t=some av):ResL P s [.tmp t] av:=by
 intro ρ B0 w0 w a hc hs;obtain ⟨v,h1,h2⟩:=hs t _ h;refine ⟨[v],?_,h2⟩;have hv:(rvF a.tmps (.tmp t)).run P w= .ok v w:=by simp [rvF,Array.getD_eq_getD_getElem?,h1]
 rw [List.mapM_cons,Sem.run_bind,hv];rfl
/-- The post of a function's body that is lent objects. -/
def RetL(P:Program)(rs:List ResultVar)(wo:List Nat)(Q:AV→List (Nat×AO)→Prop):Qs
 | .normal,s | .ret,s=>∃ r0 r hp' sl',Q r hp'∧ResL P s rs r0∧Wk ⟨s.n+1,(s.n,r0) ::s.sl,s.hp⟩ ⟨s.n+1,(s.n,r) ::sl',hp'⟩∧AllP (fun id=>∃ t av,lk ((s.n,r) ::sl') t=some av∧avId av=some id) wo
 | _,_=>False
theorem rL{P:Program}{rs:List ResultVar}{wo:List Nat}{Q:AV→List (Nat×AO)→Prop}{s:AS}(r0 r:AV)(hp':List (Nat×AO))(sl':List (Nat×AV))(h1:Q r hp')(h2:ResL P s rs r0)(h3:Wk ⟨s.n+1,(s.n,r0) ::s.sl,s.hp⟩ ⟨s.n+1,(s.n,r) ::sl',hp'⟩)(h4:AllP (fun id=>∃ t av,lk ((s.n,r) ::sl') t=some av∧avId av=some id) wo):RetL P rs wo Q .ret s:=⟨r0,r,hp',sl',h1,h2,h3,h4⟩
theorem rLn{P:Program}{rs:List ResultVar}{wo:List Nat}{Q:AV→List (Nat×AO)→Prop}{s:AS}(r0 r:AV)(hp':List (Nat×AO))(sl':List (Nat×AV))(h1:Q r hp')(h2:ResL P s rs r0)(h3:Wk ⟨s.n+1,(s.n,r0) ::s.sl,s.hp⟩ ⟨s.n+1,(s.n,r) ::sl',hp'⟩)(h4:AllP (fun id=>∃ t av,lk ((s.n,r) ::sl') t=some av∧avId av=some id) wo):RetL P rs wo Q .normal s:=⟨r0,r,hp',sl',h1,h2,h3,h4⟩
theorem acallL{P : Program}{f : FuncId}{fn : Func}{c : Code}{args : List AV}{hp : List (Nat × AO)}{wi wo : List Nat}{Q : AV → List (Nat × AO) → Prop}(ws : List (Nat × Nat))(hf : P.funcs[f]? = some fn)(hb : fn.body = some c)(hnm : (fn.name == "runtime.NumGoroutine") = false)(hlen : Nat.ble args.length fn.ntmps = true) 
  (hws:∀ t id,(t,id)∈ws→args.length≤t∧t < fn.ntmps∧id∈wi)
  (h:AW P c (RetL P fn.results.toList wo Q) ⟨fn.ntmps,paramsA 0 args ++ws.map fun p=>(p.1,.wit p.2),hp⟩):ACallL P f args hp wi wo Q:=by
 refine ⟨fun vs w=>?_,fun ρ B w vs hc hal hvs=>?_⟩
 ·have hnm' : ¬ fn.name = "runtime.NumGoroutine" := by simpa using hnm
  simp [callFunc,hf,hb,hnm']
 ·refine calls_of_wp hf hb ?_
  have hle:=Nat.le_of_ble_eq_true hlen;have hvl:=hvs.len;have hden:Den ⟨fn.ntmps,paramsA 0 args ++ws.map fun p=>(p.1,.wit p.2),hp⟩ B ⟨w,Lent ρ⟩ {tmps:=vs.toArray ++Array.replicate (fn.ntmps-vs.toArray.size) undef,defers:= []} w:=by
   refine ⟨ρ,hc,by simp;omega,rfl,fun t av ht=>?_⟩;have key:∀ {l1 l2:List (Nat×AV)} {t:Nat} {av:AV},lk (l1 ++l2) t=some av→lk l1 t=some av∨(t,av)∈l2:=by
    intro l1
    induction l1 with
    | nil=>intro l2 t av h;exact Or.inr (lk_mem h)
    | cons p l1 ih=>
     intro l2 t av h;obtain ⟨k,x⟩:=p;rw [List.cons_append,lk_cons] at h;rw [lk_cons];split at h
     ·rename_i e;cases h;exact Or.inl (by rw [if_pos e])
     ·rename_i e;rw [if_neg e];exact ih h
   rcases key ht with ht | ht
   ·obtain ⟨k,v,h1,h2,h3⟩:=paramsA_lk hvs ht
    refine ⟨v,?_,h3⟩;have hk:=(List.getElem?_eq_some_iff.1 h2).1;rw [h1,Nat.zero_add,Array.getElem?_append_left (by simpa using hk)];simpa using h2
   ·obtain ⟨p,hp1,hp2⟩:=List.mem_map.1 ht
    obtain ⟨t',id⟩:=p;cases hp2
    obtain ⟨h1,h2,h3⟩:=hws _ _ hp1;obtain ⟨v,hv⟩:=hal id h3;refine ⟨undef,?_,v,hv⟩;rw [Array.getElem?_append_right (by simp;omega),Array.getElem?_replicate,if_pos (by simp;omega)]
  refine Code.wp_mono (fun e a w' hq=>?_) (h B ⟨w,Lent ρ⟩ _ w hden);obtain ⟨s',hq,ρ1,hc1,hn1,hdf1,hs1⟩:=hq;have fin:(∃ r0 r hp' sl',Q r hp'∧ResL P s' fn.results.toList r0∧Wk ⟨s'.n+1,(s'.n,r0) ::s'.sl,s'.hp⟩ ⟨s'.n+1,(s'.n,r) ::sl',hp'⟩∧AllP (fun id=>∃ t av,lk ((s'.n,r) ::sl') t=some av∧avId av=some id) wo)→
    ∃ v,(results fn a.tmps).run P w'= .ok v w'∧∃ u ρ' r hp',Ending.returned v= .returned u∧Q r hp'∧Core ρ' B ⟨w,Lent ρ⟩ w' hp'∧Al ρ' wo∧AR ρ' (Bd ρ' B) w' r u:=by
   rintro ⟨r0,r,hp',sl',h1,h2,h3,h4⟩;obtain ⟨us,h5,h6⟩:=h2 ρ1 B ⟨w,Lent ρ⟩ w' a hc1 hs1;have hd2:Den ⟨s'.n+1,(s'.n,r0) ::s'.sl,s'.hp⟩ B ⟨w,Lent ρ⟩ {a with tmps:=a.tmps.push (resV us)} w':=by
    refine ⟨ρ1,hc1,by simp [hn1],hdf1,fun t av ht=>?_⟩;rw [lk_cons] at ht;split at ht
    ·rename_i e
     cases ht
     exact ⟨_,by rw [← e,← hn1];simp,h6⟩
    ·obtain ⟨v,q1,q2⟩:=hs1 t av ht
     have:=(Array.getElem?_eq_some_iff.1 q1).1;exact ⟨v,by rw [Array.getElem?_push_lt this];rw [Array.getElem?_eq_getElem this] at q1;exact q1,q2⟩
   obtain ⟨ρ2,hc2,hn2,_,hs2⟩:=h3 _ _ _ _ hd2;obtain ⟨v,q1,q2⟩:=hs2 s'.n r (by rw [lk_cons,if_pos rfl]);have:v=resV us:=by rw [← hn1] at q1;simpa using q1.symm
   subst this;refine ⟨_,run_results h5,_,ρ2,r,hp',rfl,h1,hc2,fun id hid=>?_,q2⟩;obtain ⟨t,av,q3,q4⟩:=h4.get id hid;obtain ⟨v,_,q5⟩:=hs2 t av q3;exact avId_R q4 q5
  cases e with
  | normal=>obtain ⟨v,h1,h2⟩:=fin hq;exact ⟨hdf1,v,h1,h2⟩
  | ret=>obtain ⟨v,h1,h2⟩:=fin hq;exact ⟨hdf1,v,h1,h2⟩
  | exit id=>exact hq.elim
  | goto l=>exact hq.elim
  | panic ch=>exact hq.elim
  | outgrown=>exact hq.elim
theorem acallLN{P : Program}{f : FuncId}{fn : Func}{c : Code}{args : List AV}{hp : List (Nat × AO)}{wi wo : List Nat}{Q : AV → List (Nat × AO) → Prop}(n : Nat)(rs : List ResultVar)(ws : List (Nat × Nat))(hf : P.funcs[f]? = some fn)(hb : fn.body = some c)(hnm : (fn.name == "runtime.NumGoroutine") = false)(hn : fn.ntmps = n)(hrs : fn.results.toList = rs)(hlen : Nat.ble args.length n = true) 
  (hws:AllP (fun p=>args.length≤p.1∧p.1 < n∧p.2∈wi) ws)
  (h:AW P c (RetL P rs wo Q) ⟨n,paramsA 0 args ++ws.map fun p=>(p.1,.wit p.2),hp⟩):ACallL P f args hp wi wo Q:=by
 subst hn;subst hrs;exact acallL ws hf hb hnm hlen (fun t id hm=>hws.get _ hm) h
/-! ### The caller -/
def rnO(m:List (Nat×Nat)):AV→Option AV
 | .d x=>some (.d x)
 | .ptr i o=>match lk m i with
  | some j=>some (.ptr j o)
  | none=>none
 | .own i=>match lk m i with
  | some j=>some (.own j)
  | none=>none
 | _=>none
def AV.rn(m:List (Nat×Nat)):AV→AV
 | .ptr i o=>match lk m i with
  | some j=> .ptr j o
  | none=> .dead
 | .own i=>match lk m i with
  | some j=> .own j
  | none=> .dead
 | .ptup i xs=>match lk m i with
  | some j=> .ptup j xs
  | none=> .dead
 | .d x=> .d x
 | .tup xs=> .tup xs
 | _=> .dead
def rnH(m:List (Nat×Nat)):List (Nat×AO)→List (Nat×AO)
 | []=> []
 | (i,ob) ::l=>match lk m i with
  | some j=>(j,ob) ::rnH m l
  | none=>rnH m l
/-- No two have one number. -/
def injB:List (Nat×Nat)→Bool
 | []=>true
 | (_,j) ::l=>l.all (fun p=> !Nat.beq p.2 j) && injB l
theorem injB_ok:∀ {m:List (Nat×Nat)},injB m=true→∀ {i i' j:Nat},lk m i=some j→lk m i'=some j→i=i'
 | [],_,_,_,_,h,_=>by cases h
 | (k,x) ::l,h,i,i',j,h1,h2=>by
  unfold injB at h;rw [Bool.and_eq_true] at h;rw [lk_cons] at h1 h2;have no:∀ q,lk l q=some x→False:=fun q hq=>by
   have:=List.all_eq_true.1 h.1 _ (lk_mem hq);simp at this
  split at h1 <;> split at h2
  ·omega
  ·cases h1;exact (no _ h2).elim
  ·cases h2;exact (no _ h1).elim
  ·exact injB_ok h.2 h1 h2
theorem lk_rnH{m:List (Nat×Nat)}(hm:injB m=true){l:List (Nat×AO)}{i j:Nat}(h:lk m i=some j):∀ (hp:List (Nat×AO)),lk (rnH m hp ++l) j=match lk hp i with | some ob=>some ob | none=>lk l j
 | []=>rfl
 | (k,ob) ::hp=>by
  have ih:=lk_rnH hm (l:=l) h hp;rw [lk_cons];unfold rnH
  by_cases e:k=i
  ·subst e
   rw [if_pos rfl,h];show lk ((j,ob) ::(rnH m hp ++l)) j=_
   rw [lk_cons,if_pos rfl]
  ·rw [if_neg e]
   cases hk:lk m k with
   | none=>exact ih
   | some j'=>
    show lk ((j',ob) ::(rnH m hp ++l)) j=_
    rw [lk_cons,if_neg (fun e2:j'=j=>e (injB_ok hm (by rw [← e2];exact hk) h))];exact ih
theorem lk_rnH_no{m:List (Nat×Nat)}{l:List (Nat×AO)}{j:Nat}(h:∀ i,lk m i≠some j):∀ (hp:List (Nat×AO)),lk (rnH m hp ++l) j=lk l j
 | []=>rfl
 | (k,ob) ::hp=>by
  have ih:=lk_rnH_no (l:=l) h hp;unfold rnH;cases hk:lk m k with
  | none=>exact ih
  | some j'=>
   show lk ((j',ob) ::(rnH m hp ++l)) j=_
   rw [lk_cons,if_neg (fun e2:j'=j=>h k (by rw [← e2];exact hk))];exact ih
def AO.noSz:AO→Bool
 | .sz _=>false
 | .is _ ob=>ob.noSz
 | _=>true
theorem OR.lend{B B':BS}{w0 w1:Wz}{w:World}{ob:AO}{v:Value}(hn:ob.noSz=true)(hB:∀ b,b < w.heap.size→B' b→B b)(ho:∀ b,vblk v=some b→w1.own b)(h:OR B w0 w ob v):OR B' w1 w ob v:=by
 have hK:Keep B w w:=⟨Nat.le_refl _,fun _ _ _=>rfl⟩
 induction ob with
 | box t cs=>obtain ⟨g,vs,rfl,h1,h2,h3⟩:=h;exact ⟨g,vs,rfl,ho g rfl,h2,h3.mv hK hB⟩
 | row e sz n el=>obtain ⟨xs,⟨h1,h2⟩,h3⟩:=h;exact ⟨xs,⟨h1,ho⟩,fun i j hi hj=>let ⟨x,hx,hl⟩:=h3 i j hi hj;⟨x,hx,LfR.mv hK hB _ hl⟩⟩
 | «is» x ob ih=>exact ⟨h.1,ih hn h.2⟩
 | sz k=>cases hn
theorem OR.back{B B':BS}{w0 w1:Wz}{w:World}{ob:AO}{v:Value}(hs:w1.sz≤w0.sz)(hB:∀ b,b < w.heap.size→B' b→B b)(ho:∀ b,w0.own b→w1.own b)(h:OR B w0 w ob v):OR B' w1 w ob v:=by
 have hK:Keep B w w:=⟨Nat.le_refl _,fun _ _ _=>rfl⟩
 induction ob with
 | box t cs=>obtain ⟨g,vs,rfl,h1,h2,h3⟩:=h;exact ⟨g,vs,rfl,ho g h1,h2,h3.mv hK hB⟩
 | row e sz n el=>obtain ⟨xs,⟨h1,h2⟩,h3⟩:=h;exact ⟨xs,⟨h1,fun b hb=>ho b (h2 b hb)⟩,fun i j hi hj=>let ⟨x,hx,hl⟩:=h3 i j hi hj;⟨x,hx,LfR.mv hK hB _ hl⟩⟩
 | «is» x ob ih=>exact ⟨h.1,ih h.2⟩
 | sz k=>exact ⟨h.1,Nat.le_trans hs h.2.1,h.2.2⟩
/-- What slots say of objects that may have moved is forgotten (but that they are there). -/
def killA(ks kw:List Nat)(av:AV):AV:=match avId av with
 | some i=>bif ks.any fun k=>Nat.beq k i then (bif kw.any fun k=>Nat.beq k i then .wit i else .dead) else av
 | none=>av
def killS(ks kw:List Nat):List (Nat×AV)→List (Nat×AV)
 | []=> []
 | (t,av) ::l=>(t,killA ks kw av) ::killS ks kw l
theorem lk_killS{ks kw:List Nat}:∀ {l:List (Nat×AV)} {t:Nat} {av:AV},lk (killS ks kw l) t=some av→∃ av',lk l t=some av'∧av=killA ks kw av'
 | [],_,_,h=>by cases h
 | (k,x) ::l,t,av,h=>by
  unfold killS at h;rw [lk_cons] at h;rw [lk_cons];split at h
  ·rename_i e;cases h;exact ⟨x,by rw [if_pos e],rfl⟩
  ·rename_i e;rw [if_neg e];exact lk_killS h
theorem on_id{av:AV}{k:Nat}(h:av.on k=true):avId av=some k:=by
 cases av <;> first | (have:=Nat.eq_of_beq_eq_true h;rw [← this];rfl) | cases h
theorem anyB{l:List Nat}{i:Nat}(h:(l.any fun k=>Nat.beq k i)=true):i∈l:=by
 obtain ⟨k,h1,h2⟩:=List.any_eq_true.1 h;have:=Nat.eq_of_beq_eq_true h2;subst this;exact h1
theorem lk_app{α:Type}:∀ (l l':List (Nat×α)) (t:Nat),lk (l ++l') t=match lk l t with | some x=>some x | none=>lk l' t
 | [],_,_=>rfl
 | (k,x) ::l,l',t=>by
  rw [List.cons_append,lk_cons,lk_cons];split
  ·rfl
  ·exact lk_app l l' t
def ArgsL(m:List (Nat×Nat))(s:AS):List Operand→List AV→Prop
 | [],[]=>True
 | x ::r,a ::avs=>(∃ a' b,geto s x=some a'∧AV.le a' b∧rnO m a=some b)∧ArgsL m s r avs
 | _,_=>False
theorem ArgsL.ok{m:List (Nat×Nat)}{s:AS}{ρ ρc:Rho}{B Bc:BS}{w:World}{a:Act}(hs:Slots ρ B w s.sl a)(hB:∀ b,b < w.heap.size→Bc b→B b)(hρ:∀ i j,lk m i=some j→ρc i=ρ j):∀ {xs:List Operand} {avs:List AV},ArgsL m s xs avs→AsR ρc Bc w avs (xs.map a.eval)
 | [],[],_=>trivial
 | x ::r,y ::avs,⟨⟨a',b,h1,h2,h3⟩,h⟩=>by
  refine ⟨?_,ArgsL.ok hs hB hρ h⟩;have h4:=h2 _ _ _ _ (geto_ok hs h1);cases y with
  | d d=>cases h3;exact DR.mv ⟨Nat.le_refl _,fun _ _ _=>rfl⟩ hB h4
  | ptr i o=>
   simp only [rnO] at h3;split at h3
   ·rename_i j hj;cases h3;obtain ⟨g,q1,q2⟩:=h4;exact ⟨g,(hρ i j hj).trans q1,q2⟩
   ·cases h3
  | own i=>
   simp only [rnO] at h3;split at h3
   ·rename_i j hj;cases h3;obtain ⟨q1,q2⟩:=h4;exact ⟨(hρ i j hj).trans q1,q2⟩
   ·cases h3
  | _=>cases h3
 | [],_ ::_,h=>h.elim
 | _ ::_,[],h=>h.elim
open Classical in
theorem mCL{P:Program}{ops:Array Oper}{Qx:Qs}{o:Oper}{l:List Oper}{s:AS}{c:Call}{f:FuncId}{args:List AV}{hp:List (Nat×AO)}{wi wo:List Nat}{Q:AV→List (Nat×AO)→Prop}(h:ACallL P f args hp wi wo Q)(m mn:List (Nat×Nat))(ks kw:List Nat) 
  (hc:callOf o.op=some c) (hf:isF c.callee=some f) (ha:ArgsL m s c.args.toList args)
  (hob:AllP (fun p=>∃ ob' ob,lk s.hp p.2=some ob'∧lk hp p.1=some ob∧AO.le ob' ob∧ob.noSz=true) m)
  (hmn:AllP (fun p=>lk s.hp p.2=none∧lk m p.1=none) mn)
  (hwi:AllP (fun i=>∃ j t av,lk m i=some j∧lk s.sl t=some av∧avId av=some j) wi)
  (hks:AllP (fun p=>(ks.any fun k=>Nat.beq k p.2)=true∨∃ x b,lk s.hp p.2=some (.is x b)∧p.1∈wo∧∀ r hp',Q r hp'→∃ d,lk hp' p.1=some (.is x d)) m)
  (hkw:AllP (fun j=>∃ i,lk m i=some j∧i∈wo) kw)
  (k:∀ r hp',Q r hp'→AL P ops Qx l (AS.put ⟨s.n,killS ks kw s.sl,rnH (mn ++m) hp' ++s.hp⟩ o.dst (r.rn (mn ++m))))
  (hm:injB (mn ++m)=true:=by rfl) (hg:gst ops s o=some true:=by rfl) (hd:dok o.dst s.n=true:=by rfl):AL P ops Qx (o ::l) s:=by
 rintro B0 w0 a w ⟨ρ,hcr,hn,hdf,hs⟩;have hmm:∀ i j,lk m i=some j→lk (mn ++m) i=some j:=by
  intro i j hi;rw [lk_app];cases hq:lk mn i with
  | none=>exact hi
  | some j'=>
   have:=(hmn.get _ (lk_mem hq)).2;simp only at this;rw [hi] at this;cases this
 have hm2:∀ i j,lk (mn ++m) i=some j→lk s.hp j=none∨lk m i=some j:=by
  intro i j hi;rw [lk_app] at hi;cases hq:lk mn i with
  | none=>rw [hq] at hi;exact Or.inr hi
  | some j'=>rw [hq] at hi;cases hi;exact Or.inl (hmn.get _ (lk_mem hq)).1
 obtain ⟨ρc,hρ0⟩:∃ ρc:Rho,ρc=fun i=>match lk m i with | some j=>ρ j | none=>none:=⟨_,rfl⟩
 have hρc:∀ i j,lk m i=some j→ρc i=ρ j:=fun i j hi=>by rw [hρ0];simp only [hi]
 have hρc2:∀ i v,ρc i=some v→∃ j,lk m i=some j∧ρ j=some v:=by
  intro i v hv;rw [hρ0] at hv;simp only at hv;split at hv
  ·rename_i j hj;exact ⟨j,hj,hv⟩
  ·cases hv
 have hLo:∀ b,Lent ρc b→w0.own b∧b < w.heap.size:=by
  rintro b ⟨i,v,h1,h2⟩;obtain ⟨j,_,h3⟩:=hρc2 i v h1;obtain ⟨ob,_,h4⟩:=hcr.obj j v h3;exact h4.blk b h2
 have hLB:∀ b,Lent ρc b→Bd ρ B0 b:=by
  rintro b ⟨i,v,h1,h2⟩;obtain ⟨j,_,h3⟩:=hρc2 i v h1;exact Or.inr ⟨j,v,h3,h2⟩
 obtain ⟨Bc,hBc⟩:∃ Bc:BS,Bc=fun b=>Bd ρ B0 b∧¬ Lent ρc b:=⟨_,rfl⟩
 have hBB:∀ b,Bd ρc Bc b→Bd ρ B0 b:=by
  rintro b (h1 | h1)
  ·rw [hBc] at h1;exact h1.1
  ·exact hLB b h1
 have hcc:Core ρc Bc ⟨w,Lent ρc⟩ w hp:=by
  refine ⟨Bel.refl _ _,fun b hb=>?_,fun i v hv=>?_,fun i i' v v' b h1 h2 h3 h4=>?_⟩
  ·rw [hBc] at hb;exact ⟨hcr.bdlt b hb.1,hb.2⟩
  ·obtain ⟨j,h1,h2⟩:=hρc2 i v hv
   obtain ⟨ob',ob,h3,h4,h5,h6⟩:=hob.get _ (lk_mem h1);obtain ⟨ob1,h7,h8⟩:=hcr.obj j v h2;simp only at h3 h4;rw [h3] at h7;cases h7
   exact ⟨ob,h4,(h5 _ _ _ _ h8).lend h6 (fun b _ hb=>hBB b hb) (fun b hb=>Or.inr ⟨i,v,hv,hb⟩)⟩
  ·obtain ⟨j,q1,q2⟩:=hρc2 i v h1
   obtain ⟨j',q3,q4⟩:=hρc2 i' v' h2;have:=hcr.dist j j' v v' b q2 q4 h3 h4;subst this;exact injB_ok hm (hmm _ _ q1) (hmm _ _ q3)
 have hal:Al ρc wi:=by
  intro i hi;obtain ⟨j,t,av,h1,h2,h3⟩:=hwi.get _ hi;obtain ⟨u,_,h4⟩:=hs t av h2;obtain ⟨v,h5⟩:=avId_R h3 h4;exact ⟨v,(hρc i j h1).trans h5⟩
 have hargs:AsR ρc (Bd ρc Bc) w args (c.args.toList.map a.eval):=ArgsL.ok hs (fun b _ hb=>hBB b hb) hρc ha;have hop:o.op= .call c:=by
  unfold callOf at hc;split at hc
  ·rename_i h;cases hc;exact h
  ·cases hc
 have hr:(execOp a.eval o).run P w= .ok (.enter f (c.args.toList.map a.eval).toArray) w:=by
  have hf2:=isF_fn (s:=s) hf;unfold fnOf at hf2;split at hf2
  ·rename_i x hcal
   split at hf2
   ·rename_i f' n caps hx
    obtain ⟨vs,hxe,hsz,hj⟩:=(geto_ok hs hx:LfR _ _ _ _);simp only [Option.some.injEq,Prod.mk.injEq] at hf2;obtain ⟨rfl,hn0⟩:=hf2;cases n with
    | succ n=>simp [capsD] at hn0
    | zero=>
     have:vs=#[]:=Array.eq_empty_of_size_eq_zero hsz;subst this;unfold execOp;rw [hop];simp only [resolve,hcal,Deferred.ofValue,hxe,Sem.run_bind,Sem.run_pure,Result.andThen_ok,invoke,h.en];congr 2;rw [← Array.toList_inj];simp
   ·cases hf2
  ·cases hf2
 refine wpl_call (gst_ok hg hs) hr ((h.go ρc Bc w _ hcc hal hargs).mono ?_);rintro e w' ⟨v,ρ',r,hp',rfl,hq,hc',hal',hv⟩;refine ⟨v,rfl,k r hp' hq B0 w0 _ w' ?_⟩;obtain ⟨ρ2,hρ2⟩:∃ ρ2:Rho,ρ2=fun j=>if hj:∃ i,lk (mn ++m) i=some j then ρ' hj.choose else ρ j:=⟨_,rfl⟩
 have h2a:∀ i j,lk (mn ++m) i=some j→ρ2 j=ρ' i:=by
  intro i j hi;have hj:∃ i,lk (mn ++m) i=some j:=⟨i,hi⟩
  rw [hρ2];simp only [dif_pos hj];rw [injB_ok hm hj.choose_spec hi]
 have h2b:∀ j,(∀ i,lk (mn ++m) i≠some j)→ρ2 j=ρ j:=by
  intro j hj;rw [hρ2];simp only;rw [dif_neg (fun ⟨i,hi⟩=>hj i hi)]
 have hcase:∀ j,(∃ i,lk (mn ++m) i=some j)∨∀ i,lk (mn ++m) i≠some j:=by
  intro j
  by_cases hj:∃ i,lk (mn ++m) i=some j
  ·exact Or.inl hj
  ·exact Or.inr fun i hi=>hj ⟨i,hi⟩
 have hK:Keep (Bd ρ B0) w w':=⟨hc'.bel.size,fun b hb hB=>hc'.bel.blk b hb (fun hL=>hB (hLB b hL))⟩;have hnoL:∀ j v b,(∀ i,lk (mn ++m) i≠some j)→ρ j=some v→vblk v=some b→¬ Lent ρc b:=by
  rintro j v b hj h1 h2 ⟨i,u,q1,q2⟩;obtain ⟨j',q3,q4⟩:=hρc2 i u q1;have:=hcr.dist j j' v u b h1 q4 h2 q2;subst this;exact hj i (hmm _ _ q3)
 have hB2:∀ b,Bd ρ2 B0 b→Bd ρ' Bc b:=by
  rintro b (hb | ⟨j,u,q1,q2⟩)
  ·refine Or.inl ?_
   rw [hBc];refine ⟨Or.inl hb,fun hL=>?_⟩;obtain ⟨h1,h2⟩:=hcr.b0 b hb;rcases (hLo b hL).1 with h3 | h3
   ·omega
   ·exact h2 h3
  ·rcases hcase j with ⟨i,hi⟩ | hj
   ·exact Or.inr ⟨i,u,(h2a i j hi).symm.trans q1,q2⟩
   ·rw [h2b j hj] at q1
    refine Or.inl ?_;rw [hBc];exact ⟨Or.inr ⟨j,u,q1,q2⟩,hnoL j u b hj q1 q2⟩
 have hB3:∀ b,b < w.heap.size→Bd ρ2 B0 b→Bd ρ B0 b:=by
  intro b hlt hb
  rcases hB2 b hb with h1 | ⟨i,u,q1,q2⟩
  ·rw [hBc] at h1;exact h1.1
  ·obtain ⟨ob,_,ho⟩:=hc'.obj i u q1
   rcases (ho.blk b q2).1 with h1 | h1
   ·exact absurd h1 (Nat.not_le_of_lt hlt)
   ·exact hLB b h1
 have hcore:Core ρ2 B0 w0 w' (rnH (mn ++m) hp' ++s.hp):=by
  refine ⟨hcr.bel.put hc'.bel.os hc'.bel.tape hc'.bel.output hc'.bel.size (g:=Lent ρc) (fun b hL=>(hLo b hL).1) (fun b hb hL=>hc'.bel.blk b hb hL),hcr.b0,fun j u hu=>?_,fun j j' u u' b h1 h2 h3 h4=>?_⟩
  ·rcases hcase j with ⟨i,hi⟩ | hj
   ·rw [h2a i j hi] at hu
    obtain ⟨ob,q1,q2⟩:=hc'.obj i u hu;exact ⟨ob,by rw [lk_rnH hm hi,q1],OR.back (w0:=⟨w,Lent ρc⟩) hcr.bel.size (fun b _ hb=>hB2 b hb) (fun b hb=>hb.elim (fun h=>Or.inl (Nat.le_trans hcr.bel.size h)) (fun h=>(hLo b h).1)) q2⟩
   ·rw [h2b j hj] at hu
    obtain ⟨ob,q1,q2⟩:=hcr.obj j u hu;exact ⟨ob,by rw [lk_rnH_no hj];exact q1,q2.mv hK hB3 (fun b hb=>hc'.bel.blk b (q2.blk b hb).2 (hnoL j u b hj hu hb))⟩
  ·have mix:∀ i j j' u u',lk (mn ++m) i=some j→(∀ i,lk (mn ++m) i≠some j')→ρ' i=some u→ρ j'=some u'→vblk u=some b→vblk u'=some b→False:=by
    intro i j j' u u' hi hj q1 q2 q3 q4;obtain ⟨ob,_,ho⟩:=hc'.obj i u q1;obtain ⟨ob',_,ho'⟩:=hcr.obj j' u' q2
    rcases (ho.blk b q3).1 with h5 | h5
    ·exact absurd h5 (Nat.not_le_of_lt (ho'.blk b q4).2)
    ·exact hnoL j' u' b hj q2 q4 h5
   rcases hcase j with ⟨i,hi⟩ | hj <;> rcases hcase j' with ⟨i',hi'⟩ | hj'
   ·rw [h2a i j hi] at h1
    rw [h2a i' j' hi'] at h2;have:=hc'.dist i i' u u' b h1 h2 h3 h4;subst this;rw [hi] at hi';cases hi';rfl
   ·rw [h2a i j hi] at h1
    rw [h2b j' hj'] at h2;exact (mix i j j' u u' hi hj' h1 h2 h3 h4).elim
   ·rw [h2b j hj] at h1
    rw [h2a i' j' hi'] at h2;exact (mix i' j' j u' u hi' hj h2 h1 h4 h3).elim
   ·rw [h2b j hj] at h1
    rw [h2b j' hj'] at h2;exact hcr.dist j j' u u' b h1 h2 h3 h4
 have hs':Slots ρ2 (Bd ρ2 B0) w' (killS ks kw s.sl) a:=by
  intro t av ht;obtain ⟨av',q1,rfl⟩:=lk_killS ht;obtain ⟨u,q2,q3⟩:=hs t av' q1;refine ⟨u,q2,?_⟩;unfold killA;cases hi:avId av' with
  | none=>exact AR.mv hK hB3 (fun k hk=>by rw [on_id hk] at hi;cases hi) q3
  | some j=>
   simp only;cases hkk:ks.any fun k=>Nat.beq k j with
   | true=>
    rw [cond_true];cases hww:kw.any fun k=>Nat.beq k j with
    | true=>
     obtain ⟨i,q4,q5⟩:=hkw.get _ (anyB hww);obtain ⟨y,hy⟩:=hal' i q5;exact ⟨y,(h2a i j (hmm _ _ q4)).trans hy⟩
    | false=>trivial
   | false=>
    rw [cond_false];refine AR.mv hK hB3 (fun k hk=>?_) q3;rw [on_id hk] at hi;cases hi
    obtain ⟨y,hy⟩:=avId_R (on_id hk) q3;obtain ⟨ob,q4,q5⟩:=hcr.obj j y hy;rcases hcase j with ⟨i,hi⟩ | hj
    ·rcases hm2 i j hi with q6 | q6
     ·rw [q6] at q4;cases q4
     ·rcases hks.get _ (lk_mem q6) with q7 | ⟨x,b,q7,q8,q9⟩
      ·simp only at q7;rw [hkk] at q7;cases q7
      ·simp only at q7 q8 q9
       rw [q7] at q4;cases q4
       obtain ⟨d,q10⟩:=q9 r hp' hq;obtain ⟨z,hz⟩:=hal' i q8;obtain ⟨ob2,q11,q12⟩:=hc'.obj i z hz;rw [q10] at q11;cases q11
       rw [h2a i j hi,hz,hy,q12.1,q5.1]
    ·exact h2b j hj
 have hv':AR ρ2 (Bd ρ2 B0) w' (r.rn (mn ++m)) v:=by
  have hK0:Keep (Bd ρ' Bc) w' w':=⟨Nat.le_refl _,fun _ _ _=>rfl⟩;cases r with
  | d x=>exact DR.mv hK0 (fun b _ hb=>hB2 b hb) hv
  | tup xs=>obtain ⟨cs,q1,q2⟩:=hv;exact ⟨cs,q1,q2.mv hK0 (fun b _ hb=>hB2 b hb)⟩
  | ptr i off=>
   simp only [AV.rn];split
   ·rename_i j hj;obtain ⟨g,q1,q2⟩:=hv;exact ⟨g,(h2a i j hj).trans q1,q2⟩
   ·trivial
  | own i=>
   simp only [AV.rn];split
   ·rename_i j hj;obtain ⟨q1,q2⟩:=hv;exact ⟨(h2a i j hj).trans q1,q2⟩
   ·trivial
  | ptup i xs=>
   simp only [AV.rn];split
   ·rename_i j hj;obtain ⟨g,q1,cs,q2,q3⟩:=hv;exact ⟨g,(h2a i j hj).trans q1,cs,q2,q3.mv hK0 (fun b _ hb=>hB2 b hb)⟩
   ·trivial
  | _=>trivial
 exact den_put (s:=⟨s.n,killS ks kw s.sl,rnH (mn ++m) hp' ++s.hp⟩) hcore hn hdf hs' hd hv'
/-! ### Names, witnesses, nil -/
section
variable {P:Program} {ops:Array Oper} {Q:Qs} {l:List Oper} {s:AS} {o:Oper}
theorem Core.name{ρ:Rho}{B0:BS}{w0:Wz}{w:World}{hp:List (Nat×AO)}{id:Nat}{ob:AO}(hc:Core ρ B0 w0 w hp)(h:lk hp id=some ob):∃ x,Core ρ B0 w0 w ((id,.is x ob) ::hp):=by
 cases hρ:ρ id with
 | none=>exact ⟨undef,hc.bel,hc.b0,fun j v hj=>by
   obtain ⟨ob',q1,q2⟩:=hc.obj j v hj;have hne:id≠j:=fun e=>by subst e;rw [hρ] at hj;cases hj
   exact ⟨ob',by rw [lk_cons,if_neg hne];exact q1,q2⟩,hc.dist⟩
 | some x=>exact ⟨x,hc.bel,hc.b0,fun j v hj=>by
   obtain ⟨ob',q1,q2⟩:=hc.obj j v hj
   by_cases e:id=j
   ·subst e
    rw [h] at q1;cases q1
    rw [hρ] at hj;cases hj
    exact ⟨.is x ob,by rw [lk_cons,if_pos rfl],rfl,q2⟩
   ·exact ⟨ob',by rw [lk_cons,if_neg e];exact q1,q2⟩,hc.dist⟩
theorem mNm(id:Nat){ob:AO}(h:lk s.hp id=some ob)(k:∀ x,AL P ops Q l ⟨s.n,s.sl,(id,.is x ob) ::s.hp⟩):AL P ops Q l s:=by
 rintro B0 w0 a w ⟨ρ,hc,hn,hdf,hs⟩;obtain ⟨x,hx⟩:=hc.name h;exact k x B0 w0 a w ⟨ρ,hx,hn,hdf,hs⟩
/-- A value that has an object's name is that object. -/
theorem wkRaw(t tw id:Nat){av:AV}{x:Value}{ob:AO}(h1:lk s.sl t=some (.d (.one (.v x))))(hw:lk s.sl tw=some av)(hi:avId av=some id)(h2:lk s.hp id=some (.is x ob)):Wk s ⟨s.n,(t,ob.un.av id) ::s.sl,s.hp⟩:=by
 rintro B0 w0 a w ⟨ρ,hc,hn,hdf,hs⟩;obtain ⟨v,hv,e,_⟩:=hs t _ h1;subst e;obtain ⟨u,_,hu⟩:=hs tw _ hw;obtain ⟨y,hy⟩:=avId_R hi hu;obtain ⟨ob',q1,q2⟩:=hc.obj id y hy;rw [h2] at q1;cases q1
 obtain ⟨e,q2⟩:=q2;subst e;exact ⟨ρ,hc,hn,hdf,slots_cons hs hv (AO.av_ok q2.un hy)⟩
/-- A pointer to an object passes. -/
theorem xNilP{x:Operand}{id off:Nat}(hop:o.op= .nilCheck x)(hx:geto s x=some (.ptr id off)):EvX P s o (.ptr id off):=by
 intro ρ B w a ho;obtain ⟨g,h1,e1⟩:AR ρ B w (.ptr id off) (a.eval x):=ho x (by rw [hop];simp [Op.operands]) _ hx;refine ⟨_,?_,g,h1,rfl⟩;unfold execOp;rw [hop];simp only [e1];rfl
/-- An array's element. -/
theorem xIdx{t elem:TypeId}{te:TI}{len i:Nat}{x ix:Operand}{ls:List Lf}{k:IntKind}{d:DV}(hop:o.op= .index t x ix)(hu:P.underlying t=some (.array len elem))(hte:tiOf P elem=some te)(hx:geto s x=some (.d (.agg ls)))(hi:geto s ix=some (.d (.one (.v (.int k ((i:Nat):Int))))))(hlt:i < len)(hp:partV te ls (i*te.n)=some d):EvX P s o (.d d):=by
 intro ρ B w a ho;obtain ⟨cs,hxe,hl⟩:DR B w (.agg ls) (a.eval x):=ho x (by rw [hop];simp [Op.operands]) _ hx;have hie:a.eval ix= .int k ((i:Nat):Int):=(ho ix (by rw [hop];simp [Op.operands]) _ hi:LfR _ _ _ _).1;obtain ⟨v,hr,hv⟩:=partV_ok (P:=P) hte hp hl;obtain ⟨inf,z,dd,h1,h2,h3,h4,_⟩:=ti_parts hte;refine ⟨v,?_,hv⟩;unfold execOp;rw [hop];refine run_value ?_;rw [hxe,hie];have hz:0≤((i:Nat):Int)∧((i:Nat):Int) < (len:Int):=⟨by omega,by omega⟩;simp only [Instr.index,asIntOf,Sem.run_bind,Sem.run_pure,Result.andThen_ok,run_underlying hu,sizeOf,typeInfo,run_program,h1,h4];rw [if_pos hz];simpa [h1,h4] using hr
theorem run_equalIn_pn{P:Program}(w:World)(d:Nat)(t e:TypeId)(a:Addr)(hu:P.underlying t=some (.pointer e)):(Op.equalIn (d+1) t (.pointer (some a)) (.pointer none)).run P w= .ok false w:=by
 simp [Op.equalIn,run_underlying hu]
theorem run_equal_pn{P:Program}(w:World)(t e:TypeId)(a:Addr)(hu:P.underlying t=some (.pointer e)):(Op.equal t (.pointer (some a)) (.pointer none)).run P w= .ok false w:=run_equalIn_pn w 9999 t e a hu
/-- A pointer to an object is not nil. -/
theorem xPn{x y:Operand}{op:BinOp}{t e:TypeId}{yt:TypeId}{id off:Nat}(b:Bool)(hop:o.op= .binOp op t x y yt)(hb:(op= .eql∧b=false)∨(op= .neq∧b=true))(hu:P.underlying t=some (.pointer e))(hx:geto s x=some (.ptr id off))(hy:geto s y=some (.d (.one (.v (.pointer none))))):EvX P s o (.d (.one (.v (.bool b)))):=by
 intro ρ B w a ho;obtain ⟨g,h1,e1⟩:AR ρ B w (.ptr id off) (a.eval x):=ho x (by rw [hop];simp [Op.operands]) _ hx;have e2:a.eval y= .pointer none:=(ho y (by rw [hop];simp [Op.operands]) _ hy:LfR _ _ _ _).1;refine ⟨.bool b,?_,rfl,rfl⟩;unfold execOp;rw [hop];refine run_value ?_;rw [e1,e2];have hg:(eqGuard op t x y (.pointer (some ⟨g,off,none⟩)) (.pointer none)).run P w= .ok () w:=by cases op <;> rfl
 rw [Sem.run_bind,hg,Result.andThen_ok];rcases hb with ⟨rfl,rfl⟩ | ⟨rfl,rfl⟩ <;> simp [binOp,run_equal_pn w t e _ hu]
end
/-! ### Signs -/
def sgq(x:Rat):Int:=if x < 0 then -1 else if 0 < x then 1 else 0
theorem sgq_neg{x:Rat}(h:x < 0):sgq x= -1:=if_pos h
theorem sgq_pos{x:Rat}(h:0 < x):sgq x=1:=by unfold sgq;rw [if_neg (by grind),if_pos h]
theorem sgq_zero:sgq 0=0:=by decide
theorem sgq_cases(x:Rat):(x < 0∧sgq x= -1)∨(x=0∧sgq x=0)∨(0 < x∧sgq x=1):=by
 by_cases h:x < 0
 ·exact Or.inl ⟨h,sgq_neg h⟩
 ·by_cases h2:0 < x
  ·exact Or.inr (Or.inr ⟨h2,sgq_pos h2⟩)
  ·have:x=0:=by grind
   subst this;exact Or.inr (Or.inl ⟨rfl,sgq_zero⟩)
theorem sgq_eq_zero{x:Rat}:sgq x=0↔x=0:=by rcases sgq_cases x with ⟨h,e⟩ | ⟨h,e⟩ | ⟨h,e⟩ <;> rw [e] <;> constructor <;> intro h' <;> grind
theorem sgq_mul(x y:Rat):sgq (x*y)=sgq x*sgq y:=by
 rcases sgq_cases x with ⟨h,e⟩ | ⟨h,e⟩ | ⟨h,e⟩ <;> rcases sgq_cases y with ⟨k,f⟩ | ⟨k,f⟩ | ⟨k,f⟩ <;> rw [e,f]
 ·have:0 < x*y:=by have:=Rat.mul_pos (a:= -x) (b:= -y) (by grind) (by grind);grind
  rw [sgq_pos this];rfl
 ·rw [k,Rat.mul_zero,sgq_zero];rfl
 ·have:x*y < 0:=by have:=Rat.mul_pos (a:= -x) (b:=y) (by grind) (by grind);grind
  rw [sgq_neg this];rfl
 ·rw [h,Rat.zero_mul,sgq_zero];rfl
 ·rw [h,Rat.zero_mul,sgq_zero];rfl
 ·rw [h,Rat.zero_mul,sgq_zero];rfl
 ·have:x*y < 0:=by have:=Rat.mul_pos (a:=x) (b:= -y) (by grind) (by grind);grind
  rw [sgq_neg this];rfl
 ·rw [k,Rat.mul_zero,sgq_zero];rfl
 ·rw [sgq_pos (Rat.mul_pos h k)];rfl
/-- How often signs turn, noughts left out. -/
def vrA(last:Int):List Int→Nat
 | []=>0
 | s ::l=>if s=0 then vrA last l else (if last= -s then 1 else 0)+vrA s l
def vr(l:List Int):Nat:=vrA 0 l
/-- Two rows of signs behind a sign that both have. -/
inductive Alk:Int→List Int→List Int→Prop
 | nil (s:Int):Alk s [] []
 | good {s a:Int} {l m:List Int} (h:a=1∨a= -1) (k:Alk a l m):Alk s (a ::l) (a ::m)
 | bad {s a b:Int} {l m:List Int} (h:a=1∨a= -1∨a=0) (h':b=1∨b= -1∨b=0) (k:Alk (-s) l m):Alk s (a :: -s ::l) (b :: -s ::m)
theorem Alk.vr{s:Int}{l m:List Int}(h:Alk s l m):(s=1∨s= -1)→vrA s l=vrA s m:=by
 induction h with
 | nil s=>intro _;rfl
 | good h k ih=>
  intro _;rename_i a l m _;have ha:a≠0:=by omega
  simp only [vrA,if_neg ha,ih h]
 | @bad s a b l m h h' k ih=>
  intro hs;have e:=ih (by omega);have key:∀ c:Int,c=1∨c= -1∨c=0→∀ q,vrA s (c :: -s ::q)=1+vrA (-s) q:=by
   intro c hc q;show (if c=0 then vrA s (-s ::q) else (if s= -c then 1 else 0)+vrA c (-s ::q))=_
   have g:∀ t:Int,vrA t (-s ::q)=(if t=s then 1 else 0)+vrA (-s) q:=by
    intro t;show (if -s=0 then _ else (if t= - -s then 1 else 0)+vrA (-s) q)=_
    rw [if_neg (by omega),Int.neg_neg]
   rw [g,g];rcases hs with rfl | rfl <;> rcases hc with rfl | rfl | rfl <;> simp
  rw [key a h,key b h',e]
abbrev Fn:=Rat→Rat
def sgs(l:List Fn)(x:Rat):List Int:=l.map fun f=>sgq (f x)
/-- As great as m, above or below 0. -/
def Far(x m:Rat):Prop:=m≤x∨x≤-m
/-- Within [-B, B]. -/
def In(B x:Rat):Prop:= -B≤x∧x≤B
def Lip(B:Rat)(f:Fn)(L:Rat):Prop:=∀ x y,In B x→In B y→x≤y→f y-f x≤L*(y-x)∧f x-f y≤L*(y-x)
/-- One sign on a cell. -/
def Gd(f:Fn)(x y:Rat):Prop:=sgq (f x)≠0∧(∀ t,x≤t→t≤y→sgq (f t)=sgq (f x))∧∃ e,0 < e∧∀ t,x≤t→t≤y→Far (f t) e
theorem sg_pm{x:Rat}(h:sgq x≠0):sgq x=1∨sgq x= -1:=by rcases sgq_cases x with ⟨_,e⟩ | ⟨_,e⟩ | ⟨_,e⟩ <;> omega
theorem sg_3(x:Rat):sgq x=1∨sgq x= -1∨sgq x=0:=by rcases sgq_cases x with ⟨_,e⟩ | ⟨_,e⟩ | ⟨_,e⟩ <;> omega
theorem gd_of{B L m:Rat}{f:Fn}{x y:Rat}(hl:Lip B f L)(hL:0≤L)(hx:In B x)(hy:In B y)(hm:0 < m)(hd:L*(y-x) < m)(hf:Far (f x) m):Gd f x y:=by
 have key:∀ t,x≤t→t≤y→f t-f x < m∧f x-f t < m:=by
  intro t h1 h2;have:=hl x t hx ⟨by have:=hx.1;grind,by have:=hy.2;grind⟩ h1;have h3:L*(t-x)≤L*(y-x):=Rat.mul_le_mul_of_nonneg_left (by grind) hL;grind
 have key2:∀ t,x≤t→t≤y→f t-f x≤L*(y-x)∧f x-f t≤L*(y-x):=by
  intro t h1 h2;have:=hl x t hx ⟨by have:=hx.1;grind,by have:=hy.2;grind⟩ h1;have h3:L*(t-x)≤L*(y-x):=Rat.mul_le_mul_of_nonneg_left (by grind) hL;constructor <;> grind
 rcases hf with hf | hf
 ·have h0:sgq (f x)=1:=sgq_pos (by grind)
  refine ⟨by rw [h0];decide,fun t h1 h2=>?_,m-L*(y-x),by grind,fun t h1 h2=>Or.inl (by have:=key2 t h1 h2;grind)⟩;rw [h0];exact sgq_pos (by have:=key t h1 h2;grind)
 ·have h0:sgq (f x)= -1:=sgq_neg (by grind)
  refine ⟨by rw [h0];decide,fun t h1 h2=>?_,m-L*(y-x),by grind,fun t h1 h2=>Or.inr (by have:=key2 t h1 h2;grind)⟩;rw [h0];exact sgq_neg (by have:=key t h1 h2;grind)
/-- A chain: a, b and what follows. -/
def Chn(B:Rat):Fn→Fn→List Fn→Prop
 | _,b,[]=>∃ c,c≠0∧∀ x,b x=c
 | a,b,c ::l=>(∃ (Q:Fn) (M k:Rat),0≤M∧0 < k∧(∀ x,In B x→-M≤Q x∧Q x≤M)∧∀ x,a x=Q x*b x-k*c x)∧Chn B b c l
def LipAll(B L:Rat)(l:List Fn):Prop:=∀ f∈l,Lip B f L
theorem mul_bd{q b M m:Rat}(h1: -M≤q)(h2:q≤M)(h3: -m≤b)(h4:b≤m): -(M*m)≤q*b∧q*b≤M*m:=by
 have a1:=Rat.mul_nonneg (a:=M-q) (b:=m+b) (by grind) (by grind);have a2:=Rat.mul_nonneg (a:=M+q) (b:=m-b) (by grind) (by grind);have a3:=Rat.mul_nonneg (a:=M-q) (b:=m-b) (by grind) (by grind);have a4:=Rat.mul_nonneg (a:=M+q) (b:=m+b) (by grind) (by grind);constructor <;> grind
theorem ex_small{L m:Rat}(hL:0≤L)(hm:0 < m):∃ d,0 < d∧∀ z,0 < z→z < d→L*z < m:=by
 refine ⟨m / (L+1),?_,fun z hz h=>?_⟩
 ·rw [Rat.div_def];exact Rat.mul_pos hm (Rat.inv_pos.2 (by grind))
 ·have h1:(m / (L+1))*(L+1)=m:=Rat.div_mul_cancel (by grind)
  have h2:z*(L+1) < (m / (L+1))*(L+1):=Rat.mul_lt_mul_of_pos_right h (by grind);grind
theorem ex_min{a b:Rat}(ha:0 < a)(hb:0 < b):∃ d,0 < d∧d≤a∧d≤b:=by
 by_cases h:a≤b
 ·exact ⟨a,ha,by grind,h⟩
 ·exact ⟨b,hb,by grind,by grind⟩
theorem chn_cell{B:Rat}:∀ (l:List Fn) (a b:Fn) (L:Rat),0≤L→LipAll B L (a ::b ::l)→Chn B a b l→∃ m d:Rat,0 < m∧0 < d∧(∀ x,In B x→Far (a x) m∨Far (b x) m)∧
  ∀ x y,In B x→In B y→x < y→y-x < d→(Far (b x) m→Gd b x y∧Alk (sgq (b x)) (sgs l x) (sgs l y))∧(¬ Far (b x) m→Gd a x y∧Alk (sgq (a x)) (sgs (b ::l) x) (sgs (b ::l) y))
 | [],a,b,L,hL,hlip,⟨c,hc,hbc⟩=>by
  obtain ⟨m,hm,hf⟩:∃ m:Rat,0 < m∧Far c m:=by
   by_cases h:0 < c
   ·exact ⟨c,h,Or.inl (by grind)⟩
   ·exact ⟨-c,by grind,Or.inr (by grind)⟩
  obtain ⟨d,hd,hsm⟩:=ex_small hL hm;refine ⟨m,d,hm,hd,fun x _=>Or.inr (by rw [hbc];exact hf),fun x y hx hy hxy h=>⟨fun hfb=>⟨gd_of (hlip b (by simp)) hL hx hy hm (hsm _ (by grind) h) hfb,.nil _⟩,fun hn=>absurd (by rw [hbc];exact hf) hn⟩⟩
 | c ::l,a,b,L,hL,hlip,⟨⟨Q,M,k,hM,hk,hQ,hrel⟩,hch⟩=>by
  obtain ⟨m',d',hm',hd',hpair,hcell⟩:=chn_cell l b c L hL (fun f hf=>hlip f (List.mem_cons_of_mem _ hf)) hch;have hpos:0 < M+1+k:=by grind
  obtain ⟨m,hmd⟩:∃ m:Rat,m*(M+1+k)=m'*k:=⟨m'*k / (M+1+k),Rat.div_mul_cancel (by grind)⟩
  have hmk:=Rat.mul_pos hm' hk;have hm:0 < m:=by
   by_cases h:0 < m
   ·exact h
   ·have:=Rat.mul_nonneg (a:= -m) (b:=M+1+k) (by grind) (by grind);grind
  have hle:m≤m':=by
   by_cases h:m' < m
   ·have h1:=Rat.mul_pos (a:=m-m') (b:=M+1+k) (by grind) hpos
    have h2:=Rat.mul_nonneg (a:=m') (b:=M+1) (by grind) (by grind);grind
   ·grind
  have hMm:M*m+m < k*m':=by have:=Rat.mul_pos hk hm;grind
  have hsmall:∀ x,In B x→¬ Far (b x) m→Far (c x) m'∧Far (a x) m∧sgq (c x)= - sgq (a x):=by
   intro x hx hn;have hb: -m≤b x∧b x≤m:=by unfold Far at hn;grind
   have hc:Far (c x) m':=by
    rcases hpair x hx with h | h
    ·exfalso;apply hn;rcases h with h | h
     ·exact Or.inl (by grind)
     ·exact Or.inr (by grind)
    ·exact h
   have hq:=mul_bd (hQ x hx).1 (hQ x hx).2 hb.1 hb.2;have ha:=hrel x;rcases hc with hc | hc
   ·have h1:k*m'≤k*c x:=Rat.mul_le_mul_of_nonneg_left hc (by grind)
    have h2:a x≤-m:=by grind
    exact ⟨Or.inl hc,Or.inr h2,by rw [sgq_pos (by grind),sgq_neg (by grind)];rfl⟩
   ·have h1:k*c x≤k*(-m'):=Rat.mul_le_mul_of_nonneg_left hc (by grind)
    have h2:m≤a x:=by grind
    exact ⟨Or.inr hc,Or.inl h2,by rw [sgq_neg (by grind),sgq_pos (by grind)]⟩
  obtain ⟨d1,hd1,hsm⟩:=ex_small hL hm;obtain ⟨d,hd,hle1,hle2⟩:=ex_min hd1 hd';refine ⟨m,d,hm,hd,fun x hx=>?_,fun x y hx hy hxy h=>⟨fun hf=>?_,fun hn=>?_⟩⟩
  ·by_cases hf:Far (b x) m
   ·exact Or.inr hf
   ·exact Or.inl (hsmall x hx hf).2.1
  ·have hg:=gd_of (hlip b (by simp)) hL hx hy hm (hsm _ (by grind) (by grind)) hf
   refine ⟨hg,?_⟩;obtain ⟨h1,h2⟩:=hcell x y hx hy hxy (by grind)
   by_cases hfc:Far (c x) m'
   ·obtain ⟨hgc,hk⟩:=h1 hfc
    show Alk _ (sgq (c x) ::sgs l x) (sgq (c y) ::sgs l y)
    rw [hgc.2.1 y (by grind) (by grind)];exact .good (sg_pm hgc.1) hk
   ·exact (h2 hfc).2
  ·obtain ⟨hfc,hfa,hs⟩:=hsmall x hx hn
   obtain ⟨hgc,hk⟩:=(hcell x y hx hy hxy (by grind)).1 hfc;refine ⟨gd_of (hlip a (by simp)) hL hx hy hm (hsm _ (by grind) (by grind)) hfa,?_⟩;show Alk _ (sgq (b x) ::sgq (c x) ::sgs l x) (sgq (b y) ::sgq (c y) ::sgs l y)
   rw [hgc.2.1 y (by grind) (by grind),hs];exact .bad (sg_3 _) (sg_3 _) (by rw [← hs];exact hk)
/-- STURM's CHAIN of f: g goes with its derivative; l follows. -/
structure Stm(f g:Fn)(l:List Fn):Prop where
 ch:∀ B,Chn B f g l
 lip:∀ B,∃ L,0≤L∧LipAll B L (f ::g ::l)
 der:∃ d,0 < d∧∀ B,∃ E,0≤E∧∀ s t,In B s→In B t→s≤t→(f t-f s)-(t-s)*(d*g s)≤(t-s)*((t-s)*E)∧(t-s)*(d*g s)-(f t-f s)≤(t-s)*((t-s)*E)
def Vr(f g:Fn)(l:List Fn)(x:Rat):Nat:=vr (sgs (f ::g ::l) x)
/-- The sign just after x. -/
def aft(f g:Fn)(x:Rat):Int:=if sgq (f x)=0 then sgq (g x) else sgq (f x)
theorem vr_cons{s t:Int}{q:List Int}(ht:t=1∨t= -1)(hs:s=1∨s= -1∨s=0):vr (s ::t ::q)=(if s= -t then 1 else 0)+vrA t q:=by
 show (if s=0 then vrA 0 (t ::q) else (if (0:Int)= -s then 1 else 0)+vrA s (t ::q))=_
 have g:∀ u:Int,vrA u (t ::q)=(if u= -t then 1 else 0)+vrA t q:=by
  intro u;show (if t=0 then _ else (if u= -t then 1 else 0)+vrA t q)=_
  rw [if_neg (by omega)]
 rw [g,g];rcases ht with rfl | rfl <;> rcases hs with rfl | rfl | rfl <;> simp
theorem vr_good{s:Int}{q:List Int}(hs:s=1∨s= -1):vr (s ::q)=vrA s q:=by
 show (if s=0 then _ else (if (0:Int)= -s then 1 else 0)+vrA s q)=_
 rw [if_neg (by omega),if_neg (by omega),Nat.zero_add]
/-- WHAT A SHORT CELL IS LIKE. -/
def Cell(f g:Fn)(l:List Fn)(x y:Rat):Prop:=
 (Gd f x y∧Vr f g l x=Vr f g l y)∨
 ∃ τ:Int,(τ=1∨τ= -1)∧(∀ t,x≤t→t≤y→sgq (g t)=τ)∧(∀ s t,x≤s→s < t→t≤y→sgq (f t-f s)=τ)∧Vr f g l x+(if sgq (f y)= -τ then 1 else 0)=Vr f g l y+(if sgq (f x)= -τ then 1 else 0)
theorem stm_cell{f g:Fn}{l:List Fn}(h:Stm f g l)(B:Rat):∃ δ:Rat,0 < δ∧(∀ x,In B x→aft f g x≠0)∧∀ x y,In B x→In B y→x < y→y-x < δ→Cell f g l x y:=by
 obtain ⟨L,hL,hlip⟩:=h.lip B;obtain ⟨d,hd,hder⟩:=h.der;obtain ⟨E,hE,hder⟩:=hder B;obtain ⟨m,δ1,hm,hδ1,hpair,hcell⟩:=chn_cell l f g L hL hlip (h.ch B);obtain ⟨δ2,hδ2,hs2⟩:=ex_small (L:=L) (m:=m / 2) hL (by grind);have hdm:0 < d*(m / 2):=Rat.mul_pos hd (by grind);obtain ⟨δ3,hδ3,hs3⟩:=ex_small (L:=E) (m:=d*(m / 2)) hE hdm;obtain ⟨δ4,hδ4,h41,h42⟩:=ex_min hδ1 hδ2;obtain ⟨δ,hδ,h1,h2⟩:=ex_min hδ4 hδ3;refine ⟨δ,hδ,fun x hx=>?_,fun x y hx hy hxy hlt=>?_⟩
 ·unfold aft
  split
  ·rename_i h0
   rcases hpair x hx with hf | hf
   ·rw [sgq_eq_zero] at h0;rw [h0] at hf;rcases hf with hf | hf <;> grind
   ·intro h3;rw [sgq_eq_zero] at h3;rw [h3] at hf;rcases hf with hf | hf <;> grind
  ·assumption
 ·obtain ⟨c1,c2⟩:=hcell x y hx hy hxy (by grind)
  by_cases hf:Far (g x) m
  ·obtain ⟨hg,hk⟩:=c1 hf
   refine Or.inr ⟨sgq (g x),sg_pm hg.1,hg.2.1,fun s t hs hst ht=>?_,?_⟩
   ·have hsB:In B s:=⟨by have:=hx.1;grind,by have:=hy.2;grind⟩
    have htB:In B t:=⟨by have:=hx.1;grind,by have:=hy.2;grind⟩;obtain ⟨e1,e2⟩:=hder s t hsB htB (by grind);have hE':E*(t-s) < d*(m / 2):=hs3 _ (by grind) (by grind);have hLs:L*(s-x)≤L*(y-x):=Rat.mul_le_mul_of_nonneg_left (by grind) hL;have hLy:L*(y-x) < m / 2:=hs2 _ (by grind) (by grind);obtain ⟨g1,g2⟩:=hlip g (by simp) x s hx hsB hs;rcases hf with hf | hf
    ·have hgs:m / 2≤g s:=by grind
     have hdg:d*(m / 2)≤d*g s:=Rat.mul_le_mul_of_nonneg_left hgs (by grind);have:=Rat.mul_pos (a:=t-s) (b:=d*g s-(t-s)*E) (by grind) (by grind);rw [sgq_pos (x:=g x) (by grind)];exact sgq_pos (by grind)
    ·have hgs:g s≤-(m / 2):=by grind
     have hdg:d*g s≤d*(-(m / 2)):=Rat.mul_le_mul_of_nonneg_left hgs (by grind);have:=Rat.mul_pos (a:=t-s) (b:= -(d*g s)-(t-s)*E) (by grind) (by grind);rw [sgq_neg (x:=g x) (by grind)];exact sgq_neg (by grind)
   ·have e:∀ z,Vr f g l z=vr (sgq (f z) ::sgq (g z) ::sgs l z):=fun _=>rfl
    rw [e x,e y,hg.2.1 y (by grind) (by grind),vr_cons (sg_pm hg.1) (sg_3 _),vr_cons (sg_pm hg.1) (sg_3 _),hk.vr (sg_pm hg.1)];omega
  ·obtain ⟨hg,hk⟩:=c2 hf
   refine Or.inl ⟨hg,?_⟩;have e:∀ z,Vr f g l z=vr (sgq (f z) ::sgs (g ::l) z):=fun _=>rfl
   rw [e x,e y,hg.2.1 y (by grind) (by grind),vr_good (sg_pm hg.1),vr_good (sg_pm hg.1),hk.vr (sg_pm hg.1)]
/-! ### Any interval -/
def m1(n:Nat)(s:Int):Int:=if n%2=0 then s else -s
theorem m1_add(n m:Nat)(s:Int):m1 (n+m) s=m1 m (m1 n s):=by unfold m1;(repeat' split) <;> omega
/-- WHAT THE COUNT SAYS of an interval. -/
structure Pab(f g:Fn)(l:List Fn)(a b:Rat)(N:Nat):Prop where
 v:Vr f g l a=Vr f g l b+N
 par:aft f g b=m1 N (aft f g a)
 nil:N=0↔∀ t,a < t→t≤b→sgq (f t)=aft f g a
 mon:∀ τ:Int,(τ=1∨τ= -1)→(∀ t,a≤t→t≤b→sgq (g t)=τ)→Vr f g l a+(if sgq (f b)= -τ then 1 else 0)=Vr f g l b+(if sgq (f a)= -τ then 1 else 0)
theorem aft_of{f g:Fn}{x:Rat}(h:sgq (f x)≠0):aft f g x=sgq (f x):=if_neg h
theorem aft_of0{f g:Fn}{x:Rat}(h:sgq (f x)=0):aft f g x=sgq (g x):=if_pos h
theorem pab_cell{f g:Fn}{l:List Fn}{x y:Rat}(hxy:x < y)(h:Cell f g l x y):∃ N,N≤1∧Pab f g l x y N:=by
 rcases h with ⟨⟨h0,hg,_⟩,hv⟩ | ⟨τ,hτ,hg,hm,hv⟩
 ·have hy:=hg y (by grind) (by grind)
  have ax:=aft_of (g:=g) h0;have ay:=aft_of (g:=g) (x:=y) (f:=f) (by rw [hy];exact h0);refine ⟨0,by omega,⟨by omega,by rw [ax,ay,hy];rfl,⟨fun _ t h1 h2=>by rw [ax];exact hg t (by grind) h2,fun _=>rfl⟩,fun τ _ _=>by rw [hv,hy]⟩⟩
 ·have gx:=hg x (by grind) (by grind)
  have gy:=hg y (by grind) (by grind);have hmy:=hm x y (by grind) hxy (by grind);have mon:∀ τ':Int,(τ'=1∨τ'= -1)→(∀ t,x≤t→t≤y→sgq (g t)=τ')→Vr f g l x+(if sgq (f y)= -τ' then 1 else 0)=Vr f g l y+(if sgq (f x)= -τ' then 1 else 0):=by
   intro τ' _ h;have:τ'=τ:=(h x (by grind) (by grind)).symm.trans gx;rw [this];exact hv
  have climb:∀ s t,x≤s→s < t→t≤y→sgq (f s)≠-τ→sgq (f t)=τ:=by
   intro s t h1 h2 h3 h4;have h5:=hm s t h1 h2 h3
   rcases hτ with rfl | rfl
   ·rcases sgq_cases (f t-f s) with ⟨k,e⟩ | ⟨k,e⟩ | ⟨k,e⟩ <;> rw [e] at h5 <;> try omega
    rcases sgq_cases (f s) with ⟨k2,e2⟩ | ⟨k2,e2⟩ | ⟨k2,e2⟩
    ·exact absurd e2 h4
    ·exact sgq_pos (by grind)
    ·exact sgq_pos (by grind)
   ·rcases sgq_cases (f t-f s) with ⟨k,e⟩ | ⟨k,e⟩ | ⟨k,e⟩ <;> rw [e] at h5 <;> try omega
    rcases sgq_cases (f s) with ⟨k2,e2⟩ | ⟨k2,e2⟩ | ⟨k2,e2⟩
    ·exact sgq_neg (by grind)
    ·exact sgq_neg (by grind)
    ·exact absurd e2 h4
  have fall:∀ t,x≤t→t < y→sgq (f y)= -τ→sgq (f t)= -τ:=by
   intro t h1 h2 h3
   by_cases h4:sgq (f t)= -τ
   ·exact h4
   ·have:=climb t y h1 h2 (by grind) h4;omega
  by_cases hs0:sgq (f x)= -τ
  ·have ax:aft f g x= -τ:=by rw [aft_of (by omega),hs0]
   by_cases ht0:sgq (f y)= -τ
   ·have ay:aft f g y= -τ:=by rw [aft_of (by omega),ht0]
    refine ⟨0,by omega,⟨by rw [if_pos ht0,if_pos hs0] at hv;omega,by rw [ax,ay];rfl,⟨fun _ t h1 h2=>?_,fun _=>rfl⟩,mon⟩⟩;rw [ax]
    by_cases hty:t=y
    ·rw [hty];exact ht0
    ·exact fall t (by grind) (by grind) ht0
   ·have ay:aft f g y=τ:=by
     unfold aft;split
     ·exact gy
     ·have:=sg_3 (f y);omega
    refine ⟨1,by omega,⟨by rw [if_neg ht0,if_pos hs0] at hv;omega,by rw [ax,ay];unfold m1;simp,⟨fun h=>absurd h (by omega),fun h=>?_⟩,mon⟩⟩;exact absurd ((h y hxy (by grind)).trans ax) ht0
  ·have ht:sgq (f y)=τ:=climb x y (by grind) hxy (by grind) hs0
   have ax:aft f g x=τ:=by
    unfold aft;split
    ·exact gx
    ·have:=sg_3 (f x);omega
   have ay:aft f g y=τ:=by rw [aft_of (by omega),ht]
   refine ⟨0,by omega,⟨by rw [if_neg (by omega),if_neg hs0] at hv;omega,by rw [ax,ay];rfl,⟨fun _ t h1 h2=>by rw [ax];exact climb x t (by grind) h1 h2 hs0,fun _=>rfl⟩,mon⟩⟩
theorem pab_refl{f g:Fn}{l:List Fn}(a:Rat):Pab f g l a a 0:=⟨rfl,rfl,⟨fun _ t h1 h2=>by grind,fun _=>rfl⟩,fun _ _ _=>rfl⟩
theorem pab_cat{f g:Fn}{l:List Fn}{a m b:Rat}{N M:Nat}(ham:a≤m)(hmb:m≤b)(h:Pab f g l a m N)(k:Pab f g l m b M):Pab f g l a b (N+M):=by
 refine ⟨by have:=h.v;have:=k.v;omega,by rw [k.par,h.par,m1_add],⟨fun e t h1 h2=>?_,fun e=>?_⟩,fun τ hτ hg=>?_⟩
 ·obtain ⟨rfl,rfl⟩:N=0∧M=0:=by omega
  by_cases htm:t≤m
  ·exact h.nil.1 rfl t h1 htm
  ·rw [k.nil.1 rfl t (by grind) h2,h.par];rfl
 ·have hN:N=0:=h.nil.2 fun t h1 h2=>e t h1 (by grind)
  subst hN;have ha:aft f g m=aft f g a:=h.par;have hM:M=0:=k.nil.2 fun t h1 h2=>by rw [ha];exact e t (by grind) h2
  omega
 ·have h1:=h.mon τ hτ fun t a1 a2=>hg t a1 (by grind)
  have h2:=k.mon τ hτ fun t a1 a2=>hg t (by grind) a2
  omega
theorem ex_cells{r d:Rat}(hd:0 < d):∃ n:Nat,r≤(n:Rat)*d:=by
 refine ⟨((r / d).num.toNat),?_⟩;have h1:r / d≤(((r / d).num.toNat:Nat):Rat):=by
  rw [Rat.le_iff,Rat.num_natCast,Rat.den_natCast];have h0:=(r / d).den_pos;have h3:((r / d).num.toNat:Int)*1≤((r / d).num.toNat:Int)*((r / d).den:Int):=Int.mul_le_mul_of_nonneg_left (by omega) (by omega);omega
 have h2:(r / d)*d=r:=Rat.div_mul_cancel (by grind);have h3:=Rat.mul_le_mul_of_nonneg_right h1 (show (0:Rat)≤d by grind);grind
/-- STURM: on any interval the count says what it is to say. -/
theorem sturm{f g:Fn}{l:List Fn}(h:Stm f g l){a b:Rat}(hab:a≤b):∃ N,Pab f g l a b N:=by
 obtain ⟨B,hBa,hBb⟩:∃ B,In B a∧In B b:=by
  refine ⟨(if a < 0 then -a else a)+(if b < 0 then -b else b),?_,?_⟩ <;> (unfold In;constructor <;> (repeat' split) <;> grind)
 obtain ⟨δ,hδ,_,hcell⟩:=stm_cell h B;obtain ⟨n,hn⟩:=ex_cells (r:=b-a) (d:=δ / 2) (by grind);have main:∀ n:Nat,∀ c,In B c→a≤c→c-a≤(n:Rat)*(δ / 2)→∃ N,Pab f g l a c N:=by
  intro n
  induction n with
  | zero => intro c _ h1 h2; have : c = a := by have : ((0 : Nat) : Rat) = 0 := rfl; grind
            subst this; exact ⟨0, pab_refl _⟩
  | succ n ih=>
   intro c hc h1 h2;have e:((n+1:Nat):Rat)=(n:Rat)+1:=by exact_mod_cast rfl
   rw [e] at h2
   by_cases h3:c-a≤(n:Rat)*(δ / 2)
   ·exact ih c hc h1 h3
   ·by_cases h4:c-δ / 2≤a
    ·by_cases h5:a=c
     ·subst h5;exact ⟨0,pab_refl _⟩
     ·obtain ⟨N,_,hN⟩:=pab_cell (by grind) (hcell a c hBa hc (by grind) (by grind))
      exact ⟨N,hN⟩
    ·have hm:In B (c-δ / 2):=⟨by have:=hBa.1;grind,by have:=hc.2;grind⟩
     obtain ⟨N,hN⟩:=ih (c-δ / 2) hm (by grind) (by grind);obtain ⟨M,_,hM⟩:=pab_cell (by grind) (hcell (c-δ / 2) c hm hc (by grind) (by grind));exact ⟨N+M,pab_cat (by grind) (by grind) hN hM⟩
 exact main n b hBb hab hn
theorem wr64{z:Int}(h1: -9223372036854775808≤z:=by omega)(h2:z≤9223372036854775807:=by omega):IntKind.i64.wrap z=z:=by
 simp [IntKind.wrap,IntKind.bits,IntKind.signed];omega
/-- Euclid's division by what it is. -/
theorem euc{x y q r:Int}(h:x=y*q+r)(h0:0≤r)(h1:r < y.natAbs):q=x / y∧r=x%y:=by
 have hy:y≠0:=by intro e;subst e;simp at h1;omega
 have hr:r=x%y:=by
  rw [h,Int.mul_add_emod_self_left];rcases Int.lt_or_gt_of_ne hy with h2 | h2
  ·rw [← Int.emod_neg];exact (Int.emod_eq_of_lt h0 (by omega)).symm
  ·exact (Int.emod_eq_of_lt h0 (by omega)).symm
 refine ⟨?_,hr⟩;have:=Int.mul_ediv_add_emod x y;rw [← hr] at this;have h2:y*(x / y)=y*q:=by omega
 exact (Int.eq_of_mul_eq_mul_left hy h2).symm
/-! ### Normal numbers, as asked for -/
def IsN(ls:List Lf)(K:Nat)(z:Int):Prop:=∀ B w cs,LsR B w ls cs→LsR B w (zn K z) cs
theorem isn(K:Nat)(z:Int):IsN (zn K z) K z:=fun _ _ _ h=>h
/-! ### Rows -/
theorem row_le{sz n:Nat}{el el':Nat→Nat→Lf}(h:∀ i,i < n→∀ j,j < sz→∀ B w c,LfR B w (el i j) c→LfR B w (el' i j) c):∀ B w c,LfR B w (.row sz n el) c→LfR B w (.row sz n el') c:=by
 rintro B w c ⟨a,cap,rfl,h1,h2,h3⟩;refine ⟨a,cap,rfl,h1,h2,fun i hi=>?_⟩;obtain ⟨b,off,e,hb,hl,hj⟩:=h3 i hi;exact ⟨b,off,e,hb,hl,fun j hjs=>let ⟨x,hx,hl⟩:=hj j hjs;⟨x,hx,h i hi j hjs _ _ _ hl⟩⟩
theorem leo_row{e:TypeId}{sz n:Nat}{el el':Nat→Nat→Lf}(h:∀ i,i < n→∀ j,j < sz→∀ B w c,LfR B w (el i j) c→LfR B w (el' i j) c):AO.le (.row e sz n el) (.row e sz n el'):=by
 rintro B w0 w v ⟨xs,h1,h2⟩;exact ⟨xs,h1,fun i j hi hj=>let ⟨x,hx,hl⟩:=h2 i j hi hj;⟨x,hx,h i hi j hj _ _ _ hl⟩⟩
/-- A row of whole numbers: normal; in any form. -/
def zel(K:Nat)(c:Nat→Int):Nat→Nat→Lf:=fun i j=>((zn K (c i))[j]?).getD (.v undef)
def ael(K:Nat)(f:Nat→Bool×List Nat):Nat→Nat→Lf:=fun i j=>(([.v (.bool (f i).1),lr K (f i).2]:List Lf)[j]?).getD (.v undef)
def prow(K n:Nat)(c:Nat→Int):Lf:= .row 2 n (zel K c)
def arow(K n:Nat)(f:Nat→Bool×List Nat):Lf:= .row 2 n (ael K f)
def fzv(f:Nat→Bool×List Nat)(i:Nat):Int:=zv (f i).1 (val (f i).2)
/-- What stands there is this row of numbers, whatever its form. -/
def IsP(l:Lf)(K n:Nat)(c:Nat→Int):Prop:=(∃ f,(∀ B w v,LfR B w l v→LfR B w (arow K n f) v)∧∀ i,i < n→fzv f i=c i)∧∀ i,n≤i→c i=0
theorem isp{K n:Nat}{c:Nat→Int}(h:∀ i,n≤i→c i=0):IsP (prow K n c) K n c:=
 ⟨⟨fun i=>(decide (c i < 0),limbs (c i).natAbs),fun _ _ _ h=>h,fun i _=>by unfold fzv;simp only [];rw [val_limbs];exact zv_natAbs _⟩,h⟩
theorem zel_le{K L n:Nat}{c d:Nat→Int}(hk:K≤L)(h:∀ i,i < n→c i=d i):∀ i,i < n→∀ j,j < 2→∀ B w v,LfR B w (zel K c i j) v→LfR B w (zel L d i j) v:=by
 intro i hi j hj B w v hv;unfold zel at *
 rw [← h i hi]
 match j,hj with
 | 0,_=>exact hv
 | 1,_=>exact lr_mono hk _ _ _ hv
theorem prow_le{K L n:Nat}{c d:Nat→Int}(hk:K≤L)(h:∀ i,i < n→c i=d i):∀ B w v,LfR B w (prow K n c) v→LfR B w (prow L n d) v:=row_le (zel_le hk h)
theorem le_prow{K L n m:Nat}{c d:Nat→Int}(hk:K≤L)(e:n=m)(h:∀ i,i < n→c i=d i):AV.le (.d (.one (prow K n c))) (.d (.one (prow L m d))):=by subst e;exact le_one (prow_le hk h)
theorem leo_prow{e:TypeId}{K L n:Nat}{c d:Nat→Int}(hk:K≤L)(h:∀ i,i < n→c i=d i):AO.le (.row e 2 n (zel K c)) (.row e 2 n (zel L d)):=leo_row (zel_le hk h)
theorem IsP.mono{l:Lf}{K L n:Nat}{c:Nat→Int}(h:IsP l K n c)(hk:K≤L):IsP l L n c:=by
 obtain ⟨⟨f,h1,h2⟩,h3⟩:=h;refine ⟨⟨f,fun B w v hv=>row_le ?_ _ _ _ (h1 B w v hv),h2⟩,h3⟩;intro i hi j hj B w v hv
 match j,hj with
 | 0,_=>exact hv
 | 1,_=>exact lr_mono hk _ _ _ hv
/-- A row grows by one. -/
theorem app_el{e:TypeId}{sz n m:Nat}{el el2 el':Nat→Nat→Lf}(hm:m=n+1)(h1:∀ i,i < n→∀ j,j < sz→∀ B w v,LfR B w (el i j) v→LfR B w (el' i j) v)(h2:∀ j,j < sz→∀ B w v,LfR B w (el2 0 j) v→LfR B w (el' n j) v):AO.le (.row e sz (n+1) (appEl n el el2)) (.row e sz m el'):=by
 subst hm;refine leo_row fun i hi j hj B w v hv=>?_
 unfold appEl at hv
 by_cases hin:i < n
 ·rw [show Nat.ble (i+1) n=true from Nat.ble_eq_true_of_le hin] at hv
  exact h1 i hin j hj _ _ _ hv
 ·obtain rfl:i=n:=by omega
  rw [show Nat.ble (i+1) i=false from by rw [← Bool.not_eq_true];exact fun h=>by have:=Nat.le_of_ble_eq_true h;omega,Nat.sub_self] at hv;exact h2 j hj _ _ _ hv
theorem app_z{e:TypeId}{K L M n m:Nat}{z:Int}{c d:Nat→Int}{el2:Nat→Nat→Lf}(hm:m=n+1)(hK:K≤L)(hM:M≤L)(hz:z=d n)(hc:∀ i,i < n→c i=d i)(h0:el2 0 0= .v (.bool (decide (z < 0))):=by rfl)(h1:el2 0 1=ln M z.natAbs:=by rfl):AO.le (.row e 2 (n+1) (appEl n (zel K c) el2)) (.row e 2 m (zel L d)):=by
 refine app_el hm (zel_le hK hc) fun j hj B w v hv=>?_
 unfold zel;rw [← hz]
 match j,hj with
 | 0,_=>rw [h0] at hv;exact hv
 | 1,_=>rw [h1] at hv;exact lr_mono hM _ _ _ hv
/-! ### Rationals of the plain reckoning -/
def qn(K:Nat)(q:Rat):List Lf:=rn K q.num ++rn K (q.den:Int)
def IsQ(ls:List Lf)(K:Nat)(q:Rat):Prop:=∀ B w cs,LsR B w ls cs→LsR B w (qn K q) cs
theorem isq(K:Nat)(q:Rat):IsQ (qn K q) K q:=fun _ _ _ h=>h
theorem qn_mono{K L:Nat}{q:Rat}(h:K≤L):∀ B w cs,LsR B w (qn K q) cs→LsR B w (qn L q) cs
 | B,w,[a,b,c,d],⟨h1,h2,h3,h4,h5⟩=>⟨dr_mono h _ _ _ h1,h2,dr_mono h _ _ _ h3,h4,h5⟩
theorem le_qn{K L:Nat}{z y:Rat}(h:K≤L)(e:z=y):AV.le (.d (.agg (qn K z))) (.d (.agg (qn L y))):=by subst e;exact le_agg (qn_mono h)
theorem leo_qn{t:TypeId}{K L:Nat}{z y:Rat}(h:K≤L)(e:z=y):AO.le (.box t (qn K z)) (.box t (qn L y)):=by subst e;exact leo_box (qn_mono h)
theorem le_qn2{K L M:Nat}{n d:Int}{q:Rat}(h1:K≤M)(h2:L≤M)(e1:n=q.num)(e2:d=q.den):AV.le (.d (.agg (rn K n ++rn L d))) (.d (.agg (qn M q))):=by
 subst e1;subst e2;refine le_agg fun B w cs h=>?_
 match cs,h with
 | [a,b,c,d],⟨h1',h2',h3',h4',h5'⟩=>exact ⟨dr_mono h1 _ _ _ h1',h2',dr_mono h2 _ _ _ h3',h4',h5'⟩
def qel(K:Nat)(c:Nat→Rat):Nat→Nat→Lf:=fun i j=>((qn K (c i))[j]?).getD (.v undef)
def qrow(K n:Nat)(c:Nat→Rat):Lf:= .row 4 n (qel K c)
theorem qel_le{K L n:Nat}{c d:Nat→Rat}(hk:K≤L)(h:∀ i,i < n→c i=d i):∀ i,i < n→∀ j,j < 4→∀ B w v,LfR B w (qel K c i j) v→LfR B w (qel L d i j) v:=by
 intro i hi j hj B w v hv;unfold qel at *
 rw [← h i hi]
 match j,hj with
 | 0,_=>exact dr_mono hk _ _ _ hv
 | 1,_=>exact hv
 | 2,_=>exact dr_mono hk _ _ _ hv
 | 3,_=>exact hv
def IsQP(l:Lf)(K n:Nat)(c:Nat→Rat):Prop:=(∀ B w v,LfR B w l v→LfR B w (qrow K n c) v)∧∀ i,n≤i→c i=0
theorem isqp{K n:Nat}{c:Nat→Rat}(h:∀ i,n≤i→c i=0):IsQP (qrow K n c) K n c:=⟨fun _ _ _ h=>h,h⟩
theorem le_qrow{K L n m:Nat}{c d:Nat→Rat}(hk:K≤L)(e:n=m)(h:∀ i,i < n→c i=d i):AV.le (.d (.one (qrow K n c))) (.d (.one (qrow L m d))):=by subst e;exact le_one (row_le (qel_le hk h))
theorem qn_el{K M:Nat}{q:Rat}{l:Nat→Lf}(hM:M≤K)(h0:l 0=dn M q.num.natAbs)(h1:l 1= .v (.bool (decide (q.num < 0))))(h2:l 2=dn M (q.den:Int).natAbs)(h3:l 3= .v (.bool (decide ((q.den:Int) < 0)))):∀ j,j < 4→∀ B w v,LfR B w (l j) v→LfR B w (((qn K q)[j]?).getD (.v undef)) v:=by
 intro j hj B w v hv
 match j,hj with
 | 0,_=>rw [h0] at hv;exact dr_mono hM _ _ _ hv
 | 1,_=>rw [h1] at hv;exact hv
 | 2,_=>rw [h2] at hv;exact dr_mono hM _ _ _ hv
 | 3,_=>rw [h3] at hv;exact hv
theorem app_q{e:TypeId}{K L M n m:Nat}{q:Rat}{c d:Nat→Rat}{el2:Nat→Nat→Lf}(hm:m=n+1)(hK:K≤L)(hM:M≤L)(hz:q=d n)(hc:∀ i,i < n→c i=d i)(h0:el2 0 0=dn M q.num.natAbs:=by rfl)(h1:el2 0 1= .v (.bool (decide (q.num < 0))):=by rfl)(h2:el2 0 2=dn M (q.den:Int).natAbs:=by rfl)(h3:el2 0 3= .v (.bool (decide ((q.den:Int) < 0))):=by rfl):AO.le (.row e 4 (n+1) (appEl n (qel K c) el2)) (.row e 4 m (qel L d)):=by
 refine app_el hm (qel_le hK hc) fun j hj B w v hv=>?_
 unfold qel;rw [← hz];exact qn_el hM h0 h1 h2 h3 j hj B w v hv
/-! ### Rows cut: noughts on top are taken away -/
section
variable {α:Type} [DecidableEq α] [OfNat α 0]
def dg(c:Nat→α):Nat→Nat
 | 0=>0
 | n+1=>if c n=0 then dg c n else n+1
theorem dg_le(c:Nat→α):∀ n,dg c n≤n
 | 0=>Nat.le_refl _
 | n+1=>by unfold dg;split;exact Nat.le_succ_of_le (dg_le c n);exact Nat.le_refl _
theorem dg_z{c:Nat→α}:∀ {n:Nat},(∀ i,n≤i→c i=0)→∀ i,dg c n≤i→c i=0
 | 0,h,i,hi=>h i (Nat.zero_le _)
 | n+1,h,i,hi=>by
  unfold dg at hi;split at hi
  ·rename_i h0
   exact dg_z (n:=n) (fun k hk=>by rcases Nat.eq_or_lt_of_le hk with e | e;exact e▸h0;exact h k e) i hi
  ·exact h i hi
theorem dg_ne{c:Nat→α}:∀ {n:Nat},dg c n≠0→c (dg c n-1)≠0
 | 0,h=>absurd rfl h
 | n+1,h=>by
  unfold dg at h ⊢;split
  ·rename_i h0;rw [if_pos h0] at h;exact dg_ne h
  ·rename_i h0;exact h0
theorem dg_step{c:Nat→α}{n:Nat}(h:c n=0):dg c (n+1)=dg c n:=by
 show (if c n=0 then dg c n else n+1)=_
 rw [if_pos h]
theorem dg_stop{c:Nat→α}{n:Nat}(h:n=0∨c (n-1)≠0):dg c n=n:=by
 cases n with
 | zero=>rfl
 | succ n=>
  rcases h with h | h
  ·exact absurd h (Nat.succ_ne_zero _)
  ·show (if c n=0 then dg c n else n+1)=_
   rw [if_neg (show ¬ c n=0 from h)]
omit [DecidableEq α] in
theorem dg_uniq{c:Nat→α}{k m:Nat}(h1:k=0∨c (k-1)≠0)(h2:∀ i,k≤i→c i=0)(h3:m=0∨c (m-1)≠0)(h4:∀ i,m≤i→c i=0):k=m:=by
 rcases Nat.lt_trichotomy k m with h | h | h
 ·rcases h3 with h3 | h3
  ·omega
  ·exact absurd (h2 (m-1) (by omega)) h3
 ·exact h
 ·rcases h1 with h1 | h1
  ·omega
  ·exact absurd (h4 (k-1) (by omega)) h1
theorem dg_or{c:Nat→α}{n:Nat}:dg c n=0∨c (dg c n-1)≠0:=by
 rcases Nat.eq_zero_or_pos (dg c n) with h | h
 ·exact Or.inl h
 ·exact Or.inr (dg_ne (by omega))
theorem dg_eq{c:Nat→α}{n m:Nat}(h:∀ i,n≤i→c i=0)(k:∀ i,m≤i→c i=0):dg c n=dg c m:=dg_uniq dg_or (dg_z h) dg_or (dg_z k)
end
theorem dg_cast{c:Nat→Int}:∀ n,dg (fun i=>((c i:Int):Rat)) n=dg c n
 | 0=>rfl
 | n+1=>by
  unfold dg;rw [dg_cast n]
  by_cases h:c n=0
  ·rw [if_pos h,if_pos (by rw [h];rfl)]
  ·rw [if_neg h,if_neg (fun e=>h (by exact_mod_cast e))]
/-! ### Sums, products -/
section
variable {α:Type} [Add α] [Mul α] [OfNat α 0]
/-- The product's coefficients: of the first m of the left one. -/
def cv(a b:Nat→α):Nat→Nat→α
 | 0,_=>0
 | m+1,j=>cv a b m j+(if m≤j then a m*b (j-m) else 0)
def conv(a b:Nat→α)(j:Nat):α:=cv a b (j+1) j
end
def TL:List (Nat×TI):= [
 (3,⟨1,false,[.int .i64 0],[],none,8,some .i64,false⟩),
 (4,⟨1,false,[.bool false],[],none,1,none,true⟩),
 (5,⟨1,false,[.int .u8 0],[],none,1,some .u8,false⟩),
 (9,⟨1,false,[.string ⟨#[]⟩],[],none,16,none,false⟩),
 (22,⟨1,false,[.slice none 0 0],[],some 31,24,none,false⟩),
 (23,⟨1,false,[.pointer none],[],none,8,none,false⟩),
 (26,⟨4,true,[.int .i64 0,.int .i64 0,.int .i64 0,.int .i64 0],[],none,32,none,false⟩),
 (28,⟨5,true,[.int .i64 0,.int .i64 0,.int .i64 0,.int .i64 0,.int .i64 0],[(0,3),(1,26)],none,40,none,false⟩),
 (29,⟨1,false,[.slice none 0 0],[],some 3,24,none,false⟩),
 (31,⟨9,true,[.int .i64 0,.int .i64 0,.int .i64 0,.int .i64 0,.int .i64 0,.int .i64 0,.int .i64 0,.int .i64 0,.slice none 0 0],[(0,3),(1,3),(2,3),(3,28),(8,29)],none,88,none,false⟩),
 (32,⟨1,false,[.slice none 0 0],[],some 36,24,none,false⟩),
 (33,⟨1,false,[.slice none 0 0],[],some 36,24,none,false⟩),
 (34,⟨1,false,[.slice none 0 0],[],some 165,24,none,false⟩),
 (36,⟨2,true,[.bool false,.slice none 0 0],[(0,4),(1,34)],none,32,none,false⟩),
 (38,⟨4,true,[.bool false,.slice none 0 0,.bool false,.slice none 0 0],[(0,36),(2,36)],none,64,none,false⟩),
 (40,⟨9,true,[.slice none 0 0,.bool false,.slice none 0 0,.bool false,.slice none 0 0,.bool false,.slice none 0 0,.bool false,.slice none 0 0],[(0,33),(1,38),(5,38)],none,152,none,false⟩),
 (43,⟨1,false,[.slice none 0 0],[],some 49,24,none,false⟩),
 (44,⟨1,false,[.slice none 0 0],[],some 43,24,none,false⟩),
 (45,⟨1,false,[.slice none 0 0],[],some 3,24,none,false⟩),
 (47,⟨2,true,[.slice none 0 0,.bool false],[(0,45),(1,4)],none,32,none,false⟩),
 (49,⟨4,true,[.slice none 0 0,.bool false,.slice none 0 0,.bool false],[(0,47),(2,47)],none,64,none,false⟩),
 (51,⟨10,true,[.slice none 0 0,.slice none 0 0,.slice none 0 0,.bool false,.slice none 0 0,.bool false,.slice none 0 0,.bool false,.slice none 0 0,.bool false],[(0,43),(1,44),(2,49),(6,49)],none,176,none,false⟩),
 (54,⟨14,true,[.int .i64 0,.int .i64 0,.int .i64 0,.int .i64 0,.int .i64 0,.slice none 0 0,.bool false,.slice none 0 0,.bool false,.slice none 0 0,.bool false,.slice none 0 0,.bool false,.slice none 0 0],[(0,28),(5,40)],none,192,none,false⟩),
 (57,⟨1,false,[.slice none 0 0],[],some 54,24,none,false⟩),
 (73,⟨1,false,[.pointer none],[],none,8,none,false⟩),
 (74,⟨1,false,[.slice none 0 0],[],some 109,24,none,false⟩),
 (76,⟨2,true,[.int .i64 0,.slice none 0 0],[(0,3),(1,74)],none,32,none,false⟩),
 (79,⟨1,false,[.slice none 0 0],[],some 84,24,none,false⟩),
 (81,⟨2,true,[.slice none 0 0,.slice none 0 0],[(0,79),(1,29)],none,48,none,false⟩),
 (84,⟨15,true,[.int .i64 0,.int .i64 0,.int .i64 0,.int .i64 0,.int .i64 0,.slice none 0 0,.bool false,.slice none 0 0,.bool false,.slice none 0 0,.bool false,.slice none 0 0,.bool false,.slice none 0 0,.int .i64 0],[(0,54),(14,3)],none,200,none,false⟩),
 (90,⟨1,false,[.slice none 0 0],[],some 51,24,none,false⟩),
 (109,⟨16,true,[.int .i64 0,.int .i64 0,.int .i64 0,.int .i64 0,.int .i64 0,.int .i64 0,.slice none 0 0,.slice none 0 0,.slice none 0 0,.bool false,.slice none 0 0,.bool false,.slice none 0 0,.bool false,.slice none 0 0,.bool false],[(0,3),(1,28),(6,51)],none,224,none,false⟩),
 (140,⟨1,false,[.slice none 0 0],[],some 40,24,none,false⟩),
 (145,⟨1,false,[.slice none 0 0],[],some 38,24,none,false⟩),
 (150,⟨1,false,[.slice none 0 0],[],some 33,24,none,false⟩),
 (165,⟨1,false,[.int .u32 0],[],none,4,some .u32,false⟩),
 (170,⟨1,false,[.nilFunc],[],none,8,none,false⟩),
 (175,⟨1,false,[.int .i64 0],[],none,8,some .i64,false⟩),
 (186,⟨1,false,[.int .u64 0],[],none,8,some .u64,false⟩),
 (187,⟨1,false,[.int .u64 0],[],none,8,some .u64,false⟩)]
def TT:TypeId→Option TI:=lk TL
theorem tt3:tiOf Tryz.prog 3=some ⟨1,false,[.int .i64 0],[],none,8,some .i64,false⟩:=by kernel_rfl
theorem tt4:tiOf Tryz.prog 4=some ⟨1,false,[.bool false],[],none,1,none,true⟩:=by kernel_rfl
theorem tt5:tiOf Tryz.prog 5=some ⟨1,false,[.int .u8 0],[],none,1,some .u8,false⟩:=by kernel_rfl
theorem tt9:tiOf Tryz.prog 9=some ⟨1,false,[.string ⟨#[]⟩],[],none,16,none,false⟩:=by kernel_rfl
theorem tt22:tiOf Tryz.prog 22=some ⟨1,false,[.slice none 0 0],[],some 31,24,none,false⟩:=by kernel_rfl
theorem tt23:tiOf Tryz.prog 23=some ⟨1,false,[.pointer none],[],none,8,none,false⟩:=by kernel_rfl
theorem tt26:tiOf Tryz.prog 26=some ⟨4,true,[.int .i64 0,.int .i64 0,.int .i64 0,.int .i64 0],[],none,32,none,false⟩:=by kernel_rfl
theorem tt28:tiOf Tryz.prog 28=some ⟨5,true,[.int .i64 0,.int .i64 0,.int .i64 0,.int .i64 0,.int .i64 0],[(0,3),(1,26)],none,40,none,false⟩:=by kernel_rfl
theorem tt29:tiOf Tryz.prog 29=some ⟨1,false,[.slice none 0 0],[],some 3,24,none,false⟩:=by kernel_rfl
theorem tt31:tiOf Tryz.prog 31=some ⟨9,true,[.int .i64 0,.int .i64 0,.int .i64 0,.int .i64 0,.int .i64 0,.int .i64 0,.int .i64 0,.int .i64 0,.slice none 0 0],[(0,3),(1,3),(2,3),(3,28),(8,29)],none,88,none,false⟩:=by kernel_rfl
theorem tt32:tiOf Tryz.prog 32=some ⟨1,false,[.slice none 0 0],[],some 36,24,none,false⟩:=by kernel_rfl
theorem tt33:tiOf Tryz.prog 33=some ⟨1,false,[.slice none 0 0],[],some 36,24,none,false⟩:=by kernel_rfl
theorem tt34:tiOf Tryz.prog 34=some ⟨1,false,[.slice none 0 0],[],some 165,24,none,false⟩:=by kernel_rfl
theorem tt36:tiOf Tryz.prog 36=some ⟨2,true,[.bool false,.slice none 0 0],[(0,4),(1,34)],none,32,none,false⟩:=by kernel_rfl
theorem tt38:tiOf Tryz.prog 38=some ⟨4,true,[.bool false,.slice none 0 0,.bool false,.slice none 0 0],[(0,36),(2,36)],none,64,none,false⟩:=by kernel_rfl
theorem tt40:tiOf Tryz.prog 40=some ⟨9,true,[.slice none 0 0,.bool false,.slice none 0 0,.bool false,.slice none 0 0,.bool false,.slice none 0 0,.bool false,.slice none 0 0],[(0,33),(1,38),(5,38)],none,152,none,false⟩:=by kernel_rfl
theorem tt43:tiOf Tryz.prog 43=some ⟨1,false,[.slice none 0 0],[],some 49,24,none,false⟩:=by kernel_rfl
theorem tt44:tiOf Tryz.prog 44=some ⟨1,false,[.slice none 0 0],[],some 43,24,none,false⟩:=by kernel_rfl
theorem tt45:tiOf Tryz.prog 45=some ⟨1,false,[.slice none 0 0],[],some 3,24,none,false⟩:=by kernel_rfl
theorem tt47:tiOf Tryz.prog 47=some ⟨2,true,[.slice none 0 0,.bool false],[(0,45),(1,4)],none,32,none,false⟩:=by kernel_rfl
theorem tt49:tiOf Tryz.prog 49=some ⟨4,true,[.slice none 0 0,.bool false,.slice none 0 0,.bool false],[(0,47),(2,47)],none,64,none,false⟩:=by kernel_rfl
theorem tt51:tiOf Tryz.prog 51=some ⟨10,true,[.slice none 0 0,.slice none 0 0,.slice none 0 0,.bool false,.slice none 0 0,.bool false,.slice none 0 0,.bool false,.slice none 0 0,.bool false],[(0,43),(1,44),(2,49),(6,49)],none,176,none,false⟩:=by kernel_rfl
theorem tt54:tiOf Tryz.prog 54=some ⟨14,true,[.int .i64 0,.int .i64 0,.int .i64 0,.int .i64 0,.int .i64 0,.slice none 0 0,.bool false,.slice none 0 0,.bool false,.slice none 0 0,.bool false,.slice none 0 0,.bool false,.slice none 0 0],[(0,28),(5,40)],none,192,none,false⟩:=by kernel_rfl
theorem tt57:tiOf Tryz.prog 57=some ⟨1,false,[.slice none 0 0],[],some 54,24,none,false⟩:=by kernel_rfl
theorem tt73:tiOf Tryz.prog 73=some ⟨1,false,[.pointer none],[],none,8,none,false⟩:=by kernel_rfl
theorem tt74:tiOf Tryz.prog 74=some ⟨1,false,[.slice none 0 0],[],some 109,24,none,false⟩:=by kernel_rfl
theorem tt76:tiOf Tryz.prog 76=some ⟨2,true,[.int .i64 0,.slice none 0 0],[(0,3),(1,74)],none,32,none,false⟩:=by kernel_rfl
theorem tt79:tiOf Tryz.prog 79=some ⟨1,false,[.slice none 0 0],[],some 84,24,none,false⟩:=by kernel_rfl
theorem tt81:tiOf Tryz.prog 81=some ⟨2,true,[.slice none 0 0,.slice none 0 0],[(0,79),(1,29)],none,48,none,false⟩:=by kernel_rfl
theorem tt84:tiOf Tryz.prog 84=some ⟨15,true,[.int .i64 0,.int .i64 0,.int .i64 0,.int .i64 0,.int .i64 0,.slice none 0 0,.bool false,.slice none 0 0,.bool false,.slice none 0 0,.bool false,.slice none 0 0,.bool false,.slice none 0 0,.int .i64 0],[(0,54),(14,3)],none,200,none,false⟩:=by kernel_rfl
theorem tt90:tiOf Tryz.prog 90=some ⟨1,false,[.slice none 0 0],[],some 51,24,none,false⟩:=by kernel_rfl
theorem tt109:tiOf Tryz.prog 109=some ⟨16,true,[.int .i64 0,.int .i64 0,.int .i64 0,.int .i64 0,.int .i64 0,.int .i64 0,.slice none 0 0,.slice none 0 0,.slice none 0 0,.bool false,.slice none 0 0,.bool false,.slice none 0 0,.bool false,.slice none 0 0,.bool false],[(0,3),(1,28),(6,51)],none,224,none,false⟩:=by kernel_rfl
theorem tt140:tiOf Tryz.prog 140=some ⟨1,false,[.slice none 0 0],[],some 40,24,none,false⟩:=by kernel_rfl
theorem tt145:tiOf Tryz.prog 145=some ⟨1,false,[.slice none 0 0],[],some 38,24,none,false⟩:=by kernel_rfl
theorem tt150:tiOf Tryz.prog 150=some ⟨1,false,[.slice none 0 0],[],some 33,24,none,false⟩:=by kernel_rfl
theorem tt165:tiOf Tryz.prog 165=some ⟨1,false,[.int .u32 0],[],none,4,some .u32,false⟩:=by kernel_rfl
theorem tt170:tiOf Tryz.prog 170=some ⟨1,false,[.nilFunc],[],none,8,none,false⟩:=by kernel_rfl
theorem tt175:tiOf Tryz.prog 175=some ⟨1,false,[.int .i64 0],[],none,8,some .i64,false⟩:=by kernel_rfl
theorem tt186:tiOf Tryz.prog 186=some ⟨1,false,[.int .u64 0],[],none,8,some .u64,false⟩:=by kernel_rfl
theorem tt187:tiOf Tryz.prog 187=some ⟨1,false,[.int .u64 0],[],none,8,some .u64,false⟩:=by kernel_rfl
theorem hTT:TOk Tryz.prog TT:=by
 intro t ti h;have hm:=lk_mem h;unfold TL at hm;simp only [List.mem_cons,List.not_mem_nil,or_false,Prod.mk.injEq] at hm
 rcases hm with ⟨rfl,rfl⟩ | ⟨rfl,rfl⟩ | ⟨rfl,rfl⟩ | ⟨rfl,rfl⟩ | ⟨rfl,rfl⟩ | ⟨rfl,rfl⟩ | ⟨rfl,rfl⟩ | ⟨rfl,rfl⟩ | ⟨rfl,rfl⟩ | ⟨rfl,rfl⟩ | ⟨rfl,rfl⟩ | ⟨rfl,rfl⟩ | ⟨rfl,rfl⟩ | ⟨rfl,rfl⟩ | ⟨rfl,rfl⟩ | ⟨rfl,rfl⟩ | ⟨rfl,rfl⟩ | ⟨rfl,rfl⟩ | ⟨rfl,rfl⟩ | ⟨rfl,rfl⟩ | ⟨rfl,rfl⟩ | ⟨rfl,rfl⟩ | ⟨rfl,rfl⟩ | ⟨rfl,rfl⟩ | ⟨rfl,rfl⟩ | ⟨rfl,rfl⟩ | ⟨rfl,rfl⟩ | ⟨rfl,rfl⟩ | ⟨rfl,rfl⟩ | ⟨rfl,rfl⟩ | ⟨rfl,rfl⟩ | ⟨rfl,rfl⟩ | ⟨rfl,rfl⟩ | ⟨rfl,rfl⟩ | ⟨rfl,rfl⟩ | ⟨rfl,rfl⟩ | ⟨rfl,rfl⟩ | ⟨rfl,rfl⟩ | ⟨rfl,rfl⟩ | ⟨rfl,rfl⟩
 ·exact tt3
 ·exact tt4
 ·exact tt5
 ·exact tt9
 ·exact tt22
 ·exact tt23
 ·exact tt26
 ·exact tt28
 ·exact tt29
 ·exact tt31
 ·exact tt32
 ·exact tt33
 ·exact tt34
 ·exact tt36
 ·exact tt38
 ·exact tt40
 ·exact tt43
 ·exact tt44
 ·exact tt45
 ·exact tt47
 ·exact tt49
 ·exact tt51
 ·exact tt54
 ·exact tt57
 ·exact tt73
 ·exact tt74
 ·exact tt76
 ·exact tt79
 ·exact tt81
 ·exact tt84
 ·exact tt90
 ·exact tt109
 ·exact tt140
 ·exact tt145
 ·exact tt150
 ·exact tt165
 ·exact tt170
 ·exact tt175
 ·exact tt186
 ·exact tt187
def pkl{α:Type}(m:List (Nat×α)):List Nat→List (Nat×α)→Option (List (Nat×α))
 | [],a=>some a
 | k ::ks,a=>match lk m k with
  | some v=>pkl m ks ((k,v) ::a)
  | none=>none
theorem pkl_all{α:Type}{m:List (Nat×α)}{p:Nat×α→Prop}(hp:∀ k v,lk m k=some v→p (k,v)):∀ {ks:List Nat} {a r:List (Nat×α)},pkl m ks a=some r→AllP p a→AllP p r
 | [],a,r,h,ha=>by cases h;exact ha
 | k ::ks,a,r,h,ha=>by
  unfold pkl at h;split at h
  ·rename_i v hv
   exact pkl_all hp h ⟨hp k v hv,ha⟩
  ·cases h
def kpA(s:AS)(ks is:List Nat):Option AS:=match s with
 | ⟨n,sl,hp⟩=>match pkl sl ks [] with
  | some sl'=>match pkl hp is [] with
   | some hp'=>some ⟨n,sl',hp'⟩
   | none=>none
  | none=>none
def kpB(s:AS)(ks is:List Nat)(id:Nat)(ob:AO):Option AS:=match kpA s ks is with
 | some ⟨n,sl,hp⟩=>some ⟨n,sl,(id,ob) ::hp⟩
 | none=>none
theorem kpA_of{s s':AS}{ks is:List Nat}(h:kpA s ks is=some s'):s.n=s'.n∧AllP (Has s.sl) s'.sl∧AllP (HasO s.hp) s'.hp:=by
 obtain ⟨n,sl,hp⟩:=s;unfold kpA at h;simp only at h;split at h
 ·rename_i sl' h1
  split at h
  ·rename_i hp' h2
   cases h
   exact ⟨rfl,pkl_all (fun k v hv=>hs hv) h1 trivial,pkl_all (fun k v hv=>ho hv) h2 trivial⟩
  ·cases h
 ·cases h
theorem wkq{s s':AS}{ks is:List Nat}(h:kpA s ks is=some s')(hok:allOk s'.hp s'.sl=true):Wk s s':=by
 obtain ⟨h1,h2,h3⟩:=kpA_of h;exact wk h1 h2 h3 hok
theorem wkr{s s':AS}(h:kpA s (s'.sl.map Prod.fst).reverse (s'.hp.map Prod.fst).reverse=some s')(hok:allOk s'.hp s'.sl=true):Wk s s':=wkq h hok
theorem wkb{s s':AS}{ks is:List Nat}{id:Nat}{o ob:AO}(h:kpB s ks is id ob=some s')(h3:lk s.hp id=some o)(hl:AO.le o ob)(hok:allOk s'.hp s'.sl=true):Wk s s':=by
 unfold kpB at h;split at h
 ·rename_i n sl hp h0
  obtain ⟨h1,h2,h4⟩:=kpA_of h0;cases h
  exact wk h1 h2 ⟨⟨o,h3,hl⟩,h4⟩ hok
 ·cases h
section
variable {P:Program} {ops:Array Oper} {Q:Qs} {o:Oper} {l:List Oper} {s:AS} {y c:Code}
theorem wK{s':AS}(ks is:List Nat)(h:kpA s ks is=some s')(hok:allOk s'.hp s'.sl=true)(k:AW P c Q s'):AW P c Q s:=AW.wk (wkq h hok) k
theorem wB{s':AS}(ks is:List Nat)(id:Nat)(ob:AO){ob':AO}(h:kpB s ks is id ob=some s')(h3:lk s.hp id=some ob')(hl:AO.le ob' ob)(hok:allOk s'.hp s'.sl=true)(k:AW P c Q s'):AW P c Q s:=AW.wk (wkb h h3 hl hok) k
theorem cR{id:Nat}(h:AL P l.toArray (thn (fun s=>AW P y Q s) Q) l s):AW P (.seq (.region id l.toArray false) y) Q s:=cSeq (cReg h)
theorem mT{K:AS→Prop}(h:K s):AL P ops (thn K Q) [] s:=mNil (tN h)
theorem cFs{v:Operand}{x:Code}{K:AS→Prop}(hc:geto s v=some (.d (.one (.v (.bool false)))))(h:K s):AW P (.cond v x .skip) (thn K Q) s:=cF hc (cSkip (tN h))
theorem mW{o0:Oper}{v0:AV}(h0:evV TT s o0.op=some v0)(k:AL Tryz.prog ops Q l (AS.put s o0.dst v0))(g0:gst ops s o0=some true:=by rfl)(d0:dok o0.dst s.n=true:=by rfl):AL Tryz.prog ops Q (o0 ::l) s:=mV hTT _ h0 k g0 d0
theorem mv2{o0 o1:Oper}{v0 v1:AV}(h0:evV TT s o0.op=some v0)(h1:evV TT (AS.put s o0.dst v0) o1.op=some v1)(k:AL Tryz.prog ops Q l (AS.put (AS.put s o0.dst v0) o1.dst v1))(g0:gst ops s o0=some true:=by rfl)(d0:dok o0.dst s.n=true:=by rfl)(g1:gst ops (AS.put s o0.dst v0) o1=some true:=by rfl)(d1:dok o1.dst (AS.put s o0.dst v0).n=true:=by rfl):AL Tryz.prog ops Q (o0 ::o1 ::l) s:=mV hTT _ h0 (mV hTT _ h1 k g1 d1) g0 d0
theorem mv3{o0 o1 o2:Oper}{v0 v1 v2:AV}(h0:evV TT s o0.op=some v0)(h1:evV TT (AS.put s o0.dst v0) o1.op=some v1)(h2:evV TT (AS.put (AS.put s o0.dst v0) o1.dst v1) o2.op=some v2)(k:AL Tryz.prog ops Q l (AS.put (AS.put (AS.put s o0.dst v0) o1.dst v1) o2.dst v2))(g0:gst ops s o0=some true:=by rfl)(d0:dok o0.dst s.n=true:=by rfl)(g1:gst ops (AS.put s o0.dst v0) o1=some true:=by rfl)(d1:dok o1.dst (AS.put s o0.dst v0).n=true:=by rfl)(g2:gst ops (AS.put (AS.put s o0.dst v0) o1.dst v1) o2=some true:=by rfl)(d2:dok o2.dst (AS.put (AS.put s o0.dst v0) o1.dst v1).n=true:=by rfl):AL Tryz.prog ops Q (o0 ::o1 ::o2 ::l) s:=mV hTT _ h0 (mV hTT _ h1 (mV hTT _ h2 k g2 d2) g1 d1) g0 d0
theorem mv4{o0 o1 o2 o3:Oper}{v0 v1 v2 v3:AV}(h0:evV TT s o0.op=some v0)(h1:evV TT (AS.put s o0.dst v0) o1.op=some v1)(h2:evV TT (AS.put (AS.put s o0.dst v0) o1.dst v1) o2.op=some v2)(h3:evV TT (AS.put (AS.put (AS.put s o0.dst v0) o1.dst v1) o2.dst v2) o3.op=some v3)(k:AL Tryz.prog ops Q l (AS.put (AS.put (AS.put (AS.put s o0.dst v0) o1.dst v1) o2.dst v2) o3.dst v3))(g0:gst ops s o0=some true:=by rfl)(d0:dok o0.dst s.n=true:=by rfl)(g1:gst ops (AS.put s o0.dst v0) o1=some true:=by rfl)(d1:dok o1.dst (AS.put s o0.dst v0).n=true:=by rfl)(g2:gst ops (AS.put (AS.put s o0.dst v0) o1.dst v1) o2=some true:=by rfl)(d2:dok o2.dst (AS.put (AS.put s o0.dst v0) o1.dst v1).n=true:=by rfl)(g3:gst ops (AS.put (AS.put (AS.put s o0.dst v0) o1.dst v1) o2.dst v2) o3=some true:=by rfl)(d3:dok o3.dst (AS.put (AS.put (AS.put s o0.dst v0) o1.dst v1) o2.dst v2).n=true:=by rfl):AL Tryz.prog ops Q (o0 ::o1 ::o2 ::o3 ::l) s:=mV hTT _ h0 (mV hTT _ h1 (mV hTT _ h2 (mV hTT _ h3 k g3 d3) g2 d2) g1 d1) g0 d0
theorem mv5{o0 o1 o2 o3 o4:Oper}{v0 v1 v2 v3 v4:AV}(h0:evV TT s o0.op=some v0)(h1:evV TT (AS.put s o0.dst v0) o1.op=some v1)(h2:evV TT (AS.put (AS.put s o0.dst v0) o1.dst v1) o2.op=some v2)(h3:evV TT (AS.put (AS.put (AS.put s o0.dst v0) o1.dst v1) o2.dst v2) o3.op=some v3)(h4:evV TT (AS.put (AS.put (AS.put (AS.put s o0.dst v0) o1.dst v1) o2.dst v2) o3.dst v3) o4.op=some v4)(k:AL Tryz.prog ops Q l (AS.put (AS.put (AS.put (AS.put (AS.put s o0.dst v0) o1.dst v1) o2.dst v2) o3.dst v3) o4.dst v4))(g0:gst ops s o0=some true:=by rfl)(d0:dok o0.dst s.n=true:=by rfl)(g1:gst ops (AS.put s o0.dst v0) o1=some true:=by rfl)(d1:dok o1.dst (AS.put s o0.dst v0).n=true:=by rfl)(g2:gst ops (AS.put (AS.put s o0.dst v0) o1.dst v1) o2=some true:=by rfl)(d2:dok o2.dst (AS.put (AS.put s o0.dst v0) o1.dst v1).n=true:=by rfl)(g3:gst ops (AS.put (AS.put (AS.put s o0.dst v0) o1.dst v1) o2.dst v2) o3=some true:=by rfl)(d3:dok o3.dst (AS.put (AS.put (AS.put s o0.dst v0) o1.dst v1) o2.dst v2).n=true:=by rfl)(g4:gst ops (AS.put (AS.put (AS.put (AS.put s o0.dst v0) o1.dst v1) o2.dst v2) o3.dst v3) o4=some true:=by rfl)(d4:dok o4.dst (AS.put (AS.put (AS.put (AS.put s o0.dst v0) o1.dst v1) o2.dst v2) o3.dst v3).n=true:=by rfl):AL Tryz.prog ops Q (o0 ::o1 ::o2 ::o3 ::o4 ::l) s:=mV hTT _ h0 (mV hTT _ h1 (mV hTT _ h2 (mV hTT _ h3 (mV hTT _ h4 k g4 d4) g3 d3) g2 d2) g1 d1) g0 d0
theorem mv6{o0 o1 o2 o3 o4 o5:Oper}{v0 v1 v2 v3 v4 v5:AV}(h0:evV TT s o0.op=some v0)(h1:evV TT (AS.put s o0.dst v0) o1.op=some v1)(h2:evV TT (AS.put (AS.put s o0.dst v0) o1.dst v1) o2.op=some v2)(h3:evV TT (AS.put (AS.put (AS.put s o0.dst v0) o1.dst v1) o2.dst v2) o3.op=some v3)(h4:evV TT (AS.put (AS.put (AS.put (AS.put s o0.dst v0) o1.dst v1) o2.dst v2) o3.dst v3) o4.op=some v4)(h5:evV TT (AS.put (AS.put (AS.put (AS.put (AS.put s o0.dst v0) o1.dst v1) o2.dst v2) o3.dst v3) o4.dst v4) o5.op=some v5)(k:AL Tryz.prog ops Q l (AS.put (AS.put (AS.put (AS.put (AS.put (AS.put s o0.dst v0) o1.dst v1) o2.dst v2) o3.dst v3) o4.dst v4) o5.dst v5))(g0:gst ops s o0=some true:=by rfl)(d0:dok o0.dst s.n=true:=by rfl)(g1:gst ops (AS.put s o0.dst v0) o1=some true:=by rfl)(d1:dok o1.dst (AS.put s o0.dst v0).n=true:=by rfl)(g2:gst ops (AS.put (AS.put s o0.dst v0) o1.dst v1) o2=some true:=by rfl)(d2:dok o2.dst (AS.put (AS.put s o0.dst v0) o1.dst v1).n=true:=by rfl)(g3:gst ops (AS.put (AS.put (AS.put s o0.dst v0) o1.dst v1) o2.dst v2) o3=some true:=by rfl)(d3:dok o3.dst (AS.put (AS.put (AS.put s o0.dst v0) o1.dst v1) o2.dst v2).n=true:=by rfl)(g4:gst ops (AS.put (AS.put (AS.put (AS.put s o0.dst v0) o1.dst v1) o2.dst v2) o3.dst v3) o4=some true:=by rfl)(d4:dok o4.dst (AS.put (AS.put (AS.put (AS.put s o0.dst v0) o1.dst v1) o2.dst v2) o3.dst v3).n=true:=by rfl)(g5:gst ops (AS.put (AS.put (AS.put (AS.put (AS.put s o0.dst v0) o1.dst v1) o2.dst v2) o3.dst v3) o4.dst v4) o5=some true:=by rfl)(d5:dok o5.dst (AS.put (AS.put (AS.put (AS.put (AS.put s o0.dst v0) o1.dst v1) o2.dst v2) o3.dst v3) o4.dst v4).n=true:=by rfl):AL Tryz.prog ops Q (o0 ::o1 ::o2 ::o3 ::o4 ::o5 ::l) s:=mV hTT _ h0 (mV hTT _ h1 (mV hTT _ h2 (mV hTT _ h3 (mV hTT _ h4 (mV hTT _ h5 k g5 d5) g4 d4) g3 d3) g2 d2) g1 d1) g0 d0
theorem mbF{b:Bool}(e:evV TT s o.op=some (.d (.one (.v (.bool b)))))(h:b=false)(k:AL Tryz.prog ops Q l (s.put o.dst (.d (.one (.v (.bool false))))))(hg:gst ops s o=some true:=by rfl)(hd:dok o.dst s.n=true:=by rfl):AL Tryz.prog ops Q (o ::l) s:=mV hTT _ (e.trans (evb h)) k hg hd
theorem mbT{b:Bool}(e:evV TT s o.op=some (.d (.one (.v (.bool b)))))(h:b=true)(k:AL Tryz.prog ops Q l (s.put o.dst (.d (.one (.v (.bool true))))))(hg:gst ops s o=some true:=by rfl)(hd:dok o.dst s.n=true:=by rfl):AL Tryz.prog ops Q (o ::l) s:=mV hTT _ (e.trans (evb h)) k hg hd
theorem mdF{p:Prop}[Decidable p](e:evV TT s o.op=some (.d (.one (.v (.bool (decide p))))))(h:¬ p)(k:AL Tryz.prog ops Q l (s.put o.dst (.d (.one (.v (.bool false))))))(hg:gst ops s o=some true:=by rfl)(hd:dok o.dst s.n=true:=by rfl):AL Tryz.prog ops Q (o ::l) s:=mbF e (decide_eq_false h) k hg hd
theorem mdT{p:Prop}[Decidable p](e:evV TT s o.op=some (.d (.one (.v (.bool (decide p))))))(h:p)(k:AL Tryz.prog ops Q l (s.put o.dst (.d (.one (.v (.bool true))))))(hg:gst ops s o=some true:=by rfl)(hd:dok o.dst s.n=true:=by rfl):AL Tryz.prog ops Q (o ::l) s:=mbT e (decide_eq_true h) k hg hd
def clk(s:AS)(p:Op):Option (FuncId×List DV):=match callOf p with
 | some c=>match isF c.callee with
  | some f=>match getds s c.args.toList with
   | some ds=>some (f,ds)
   | none=>none
  | none=>none
 | none=>none
theorem clk_of{p:Op}{f:FuncId}{ds:List DV}(h:clk s p=some (f,ds)):∃ c,callOf p=some c∧isF c.callee=some f∧getds s c.args.toList=some ds:=by
 unfold clk at h;split at h
 ·rename_i c h1
  split at h
  ·rename_i f' h2
   split at h
   ·rename_i ds' h3
    cases h
    exact ⟨c,h1,h2,h3⟩
   ·cases h
  ·cases h
 ·cases h
theorem mY{f:FuncId}{ds:List DV}{res:AV}(h:ACall P f ds res)(hc:clk s o.op=some (f,ds))(k:AL P ops Q l (s.put o.dst res))(hg:gst ops s o=some true:=by rfl)(hd:dok o.dst s.n=true:=by rfl):AL P ops Q (o ::l) s:=by
 obtain ⟨c,h1,h2,h3⟩:=clk_of hc;exact mC0 h h1 h2 h3 k hg hd
theorem aN{f : FuncId}{fn : Func}{c : Code}{args : List DV}{r : AV}(n : Nat)(rs : List ResultVar)(hf : Tryz.prog.funcs[f]? = some fn)(h5 : (fn.body, (fn.name == "runtime.NumGoroutine"), fn.ntmps, fn.results.toList, Nat.ble args.length n) = (some c, false, n, rs, true))(h : AW Tryz.prog c (RetQ TT rs r) ⟨n, params 0 args, []⟩): ACall Tryz.prog f args r := by
 simp only [Prod.mk.injEq] at h5;obtain ⟨h1,h2,h3,h4,h6⟩:=h5;exact acallN hTT n rs hf h1 h2 h3 h4 h6 h
theorem rE{rs:List ResultVar}{r:AV}(h:(resE TT s rs).map resAV=some r):RetQ TT rs r .ret s:=by
 cases e:resE TT s rs with
 | none=>rw [e] at h;cases h
 | some es=>rw [e] at h;cases h;exact rQ e AV.le.rfl
def evNd(s:AS)(o:Oper):Option (AO×Nat):=match evN TT s o.op with
 | some ob=>match o.dst with
  | some d=>match lk s.hp d with
   | none=>some (ob,d)
   | some _=>none
  | none=>none
 | none=>none
theorem mO{ob:AO}{d:Nat}(h:evNd s o=some (ob,d))(k:AL Tryz.prog ops Q l (s.mk' d ob))(hg:gst ops s o=some true:=by rfl)(hd:dok (some d) s.n=true:=by rfl):AL Tryz.prog ops Q (o ::l) s:=by
 unfold evNd at h;split at h
 ·rename_i ob' h1
  split at h
  ·rename_i d' h2
   split at h
   ·rename_i h3
    cases h
    exact mN hTT ob h1 h2 h3 k hg hd
   ·cases h
  ·cases h
 ·cases h
theorem mZ{id:Nat}{ob:AO}(h:evS TT s o.op=some (id,ob))(k:AL Tryz.prog ops Q l (AS.put ⟨s.n,s.sl,(id,ob) ::s.hp⟩ o.dst .dead))(hg:gst ops s o=some true:=by rfl)(hd:dok o.dst s.n=true:=by rfl):AL Tryz.prog ops Q (o ::l) s:=mS hTT id ob h k hg hd
theorem cDk{id:Nat}(n:Nat)(h:ChK Tryz.prog TT l.toArray (fun s1=>AL Tryz.prog l.toArray Q (l.drop n) s1) (l.take n) s)(hm:Tryz.prog.follows .mixedOrders=true:=by kernel_rfl)(hB:Am.allB l.toArray n s.n=true:=by kernel_rfl)(hD:Am.dstB l.toArray n=true:=by kernel_rfl):AW Tryz.prog (.region id l.toArray true) Q s:=cDrawK hTT n hm hB hD h
theorem cDs{id:Nat}(n:Nat)(h:ChS Tryz.prog TT l.toArray (fun s1=>AL Tryz.prog l.toArray Q (l.drop n) s1) 0 [] (l.take n) s)(hm:Tryz.prog.follows .mixedOrders=true:=by kernel_rfl)(hB:Am.allB l.toArray n s.n=true:=by kernel_rfl):AW Tryz.prog (.region id l.toArray true) Q s:=cDrawS hTT n hm hB h
theorem oV{K:AS→Prop}{av:AV}(h:evV TT s o.op=some av)(k:ChK Tryz.prog TT ops K l (s.put o.dst av))(hg:gst ops s o=some true:=by rfl)(hd:dok o.dst s.n=true:=by rfl):ChK Tryz.prog TT ops K (o ::l) s:= .cons (.V av h hg hd) k
theorem oT{K:AS→Prop}{b:Bool}(e:evV TT s o.op=some (.d (.one (.v (.bool b)))))(h:b=true)(k:ChK Tryz.prog TT ops K l (s.put o.dst (.d (.one (.v (.bool true))))))(hg:gst ops s o=some true:=by rfl)(hd:dok o.dst s.n=true:=by rfl):ChK Tryz.prog TT ops K (o ::l) s:= .cons (.V _ (e.trans (evb h)) hg hd) k
theorem oTd{K:AS→Prop}{p:Prop}[Decidable p](e:evV TT s o.op=some (.d (.one (.v (.bool (decide p))))))(h:p)(k:ChK Tryz.prog TT ops K l (s.put o.dst (.d (.one (.v (.bool true))))))(hg:gst ops s o=some true:=by rfl)(hd:dok o.dst s.n=true:=by rfl):ChK Tryz.prog TT ops K (o ::l) s:=oT e (decide_eq_true h) k hg hd
theorem oF{K:AS→Prop}{b:Bool}(e:evV TT s o.op=some (.d (.one (.v (.bool b)))))(h:b=false)(k:ChK Tryz.prog TT ops K l (s.put o.dst (.d (.one (.v (.bool false))))))(hg:gst ops s o=some true:=by rfl)(hd:dok o.dst s.n=true:=by rfl):ChK Tryz.prog TT ops K (o ::l) s:= .cons (.V _ (e.trans (evb h)) hg hd) k
theorem oFd{K:AS→Prop}{p:Prop}[Decidable p](e:evV TT s o.op=some (.d (.one (.v (.bool (decide p))))))(h:¬ p)(k:ChK Tryz.prog TT ops K l (s.put o.dst (.d (.one (.v (.bool false))))))(hg:gst ops s o=some true:=by rfl)(hd:dok o.dst s.n=true:=by rfl):ChK Tryz.prog TT ops K (o ::l) s:=oF e (decide_eq_false h) k hg hd
theorem oC{K:AS→Prop}{f:FuncId}{ds:List DV}{res:AV}(h:ACall Tryz.prog f ds res)(hk:clk s o.op=some (f,ds))(k:ChK Tryz.prog TT ops K l (s.put o.dst res))(hg:gst ops s o=some true:=by rfl)(hd:dok o.dst s.n=true:=by rfl):ChK Tryz.prog TT ops K (o ::l) s:=by
 obtain ⟨c,h1,h2,h3⟩:=clk_of hk;exact .cons (.C0 h h1 h2 h3 hg hd) k
theorem pV{K:AS→Prop}{i:Nat}{log:List (Nat×List Nat×Bool)}{av:AV}(h:evV TT s o.op=some av)(k:ChS Tryz.prog TT ops K (i+1) ((i,idsR s o.op,isSt o.op) ::log) l (s.put o.dst av))(hc:cflB ops log o (idsR s o.op)=true:=by kernel_rfl)(hg:gst ops s o=some true:=by rfl)(hd:dok o.dst s.n=true:=by rfl):ChS Tryz.prog TT ops K i log (o ::l) s:= .cons (.V av h hg hd) hc k
theorem pT{K:AS→Prop}{i:Nat}{log:List (Nat×List Nat×Bool)}{b:Bool}(e:evV TT s o.op=some (.d (.one (.v (.bool b)))))(h:b=true)(k:ChS Tryz.prog TT ops K (i+1) ((i,idsR s o.op,isSt o.op) ::log) l (s.put o.dst (.d (.one (.v (.bool true))))))(hc:cflB ops log o (idsR s o.op)=true:=by kernel_rfl)(hg:gst ops s o=some true:=by rfl)(hd:dok o.dst s.n=true:=by rfl):ChS Tryz.prog TT ops K i log (o ::l) s:= .cons (.V _ (e.trans (evb h)) hg hd) hc k
theorem pTd{K:AS→Prop}{i:Nat}{log:List (Nat×List Nat×Bool)}{p:Prop}[Decidable p](e:evV TT s o.op=some (.d (.one (.v (.bool (decide p))))))(h:p)(k:ChS Tryz.prog TT ops K (i+1) ((i,idsR s o.op,isSt o.op) ::log) l (s.put o.dst (.d (.one (.v (.bool true))))))(hc:cflB ops log o (idsR s o.op)=true:=by kernel_rfl)(hg:gst ops s o=some true:=by rfl)(hd:dok o.dst s.n=true:=by rfl):ChS Tryz.prog TT ops K i log (o ::l) s:=pT e (decide_eq_true h) k hc hg hd
theorem pF{K:AS→Prop}{i:Nat}{log:List (Nat×List Nat×Bool)}{b:Bool}(e:evV TT s o.op=some (.d (.one (.v (.bool b)))))(h:b=false)(k:ChS Tryz.prog TT ops K (i+1) ((i,idsR s o.op,isSt o.op) ::log) l (s.put o.dst (.d (.one (.v (.bool false))))))(hc:cflB ops log o (idsR s o.op)=true:=by kernel_rfl)(hg:gst ops s o=some true:=by rfl)(hd:dok o.dst s.n=true:=by rfl):ChS Tryz.prog TT ops K i log (o ::l) s:= .cons (.V _ (e.trans (evb h)) hg hd) hc k
theorem pFd{K:AS→Prop}{i:Nat}{log:List (Nat×List Nat×Bool)}{p:Prop}[Decidable p](e:evV TT s o.op=some (.d (.one (.v (.bool (decide p))))))(h:¬ p)(k:ChS Tryz.prog TT ops K (i+1) ((i,idsR s o.op,isSt o.op) ::log) l (s.put o.dst (.d (.one (.v (.bool false))))))(hc:cflB ops log o (idsR s o.op)=true:=by kernel_rfl)(hg:gst ops s o=some true:=by rfl)(hd:dok o.dst s.n=true:=by rfl):ChS Tryz.prog TT ops K i log (o ::l) s:=pF e (decide_eq_false h) k hc hg hd
theorem pC{K:AS→Prop}{i:Nat}{log:List (Nat×List Nat×Bool)}{f:FuncId}{ds:List DV}{res:AV}(h:ACall Tryz.prog f ds res)(hk:clk s o.op=some (f,ds))(k:ChS Tryz.prog TT ops K (i+1) ((i,idsR s o.op,isSt o.op) ::log) l (s.put o.dst res))(hc:cflB ops log o (idsR s o.op)=true:=by kernel_rfl)(hg:gst ops s o=some true:=by rfl)(hd:dok o.dst s.n=true:=by rfl):ChS Tryz.prog TT ops K i log (o ::l) s:=by
 obtain ⟨c,h1,h2,h3⟩:=clk_of hk;exact .cons (.C0 h h1 h2 h3 hg hd) hc k
end
theorem Tryz.infoInt:(Tryz.prog.info? 3).map (fun i=>(i.zero,i.size,i.bytes))=some (some (.int .i64 0),1,8):=by kernel_rfl
theorem rcut_walk(ao:Option Addr)(n c:Nat)(xs:List Nat)(w:World)(hm:n≤9223372036854775807)(hr:Rw .i64 B4 w ao n c xs):
  Calls Tryz.prog 144 #[.slice ao n c] w fun e w'=>e= .returned (.slice ao (cutN xs n) c)∧w'=w:=by
 have hlc:=hr.le;go_enter Tryz.func144,Tryz.ntmps144;go_wp2;go_loop [3] (fun n'=>∃ k:Nat,k≤n∧n'= .int .i64 k∧cutN xs k=cutN xs n) (fun n'=>(intOf n').toNat)
 case atStart=>exact ⟨n,Nat.le_refl _,rfl,rfl⟩
 case round=>
  obtain ⟨k,hk,rfl,hcut⟩:=hrel;have Hcut:=hid hcut;clear hcut
  by_cases h0:k=0
  ·subst h0
   go_wp2;go_ret;exact ⟨by rw [← Hcut];rfl,rfl⟩
  ·obtain ⟨j,rfl⟩:∃ j,k=j+1:=⟨k-1,by omega⟩
   obtain ⟨b,off,x,rfl,hx,hxB,hcj⟩:=hr.at (show j < n by omega);have Hx:=hid hx;clear hx hr
   by_cases hz:x=0
   ·subst hz
    go_wp2;go_round
    case rel=>exact ⟨j,by omega,rfl,by rw [← Hcut];simp [cutN,Hx.out]⟩
    case measure=>simp [intOf]
   ·have hz':((x:Int)==0)=false:=by simpa using hz
    go_wp2;go_ret;exact ⟨by rw [← Hcut];simp [cutN,Hx.out,hz],rfl⟩
/-- The document's cut: the same memory, as far as the row of the number goes. -/
theorem rcut_any(ao:Option Addr)(n c:Nat)(xs:List Nat)(w:World)(hm:n≤9223372036854775807)(hr:Rw .i64 B4 w ao n c xs):
  Calls Tryz.prog 144 #[.slice ao n c] w fun e w'=>∃ m,e= .returned (.slice ao m c)∧m≤n∧Rw .i64 B4 w ao m c (digs4 (val4 xs))∧w=w':=by
 refine (rcut_walk ao n c xs w hm hr).mono fun e w' ⟨he,hw⟩=>?_
 have hcut:=cut_digs4 xs hr.lt;have hr2:=hr.take (cutN_le xs n);have hl:=hr.len;subst hl;rw [hcut] at hr2;exact ⟨_,he,cutN_le _ _,hr2,hw.symm⟩
theorem mulAdd_own(ao:Option Addr)(n cp m c0:Nat)(xs:List Nat)(w:World)(hn:n≤1073741824)(hm:m≤65536)(hc:c0≤1000000)(hr:Rw .i64 B4 w ao n cp xs):
  Calls Tryz.prog 120 #[.slice ao n cp,.int .i64 (m:Int),.int .i64 (c0:Int)] w fun e w'=>∃ ro k c',e= .returned (.slice ro k c')∧Rw .i64 B4 w' ro k c' (digs4 (val4 xs*m+c0))∧Own w.heap.size w' ro c'∧Below w.heap.size w w':=by
 have hl:=hr.len;have HL:=hid hl;clear hl;obtain ⟨i0,hi,hz0,hz1,hz2⟩:=info_parts Tryz.infoInt;go_enter Tryz.func120,Tryz.ntmps120;go_wp2_with (at_make;refine Hid.out ?_);refine hid<|wpList_make_own _ rfl _ _ 45 rfl w.heap.size 3 i0 (.int .i64 0) 1 Tryz.underlying45 hi hz0 hz1 .i64 .i64 _ (n+2) rfl rfl (by omega) (by rw [hz2];omega) (by unfold maxLen;omega) (Nat.le_refl _) fun w1 hown hgrow=>?_
 have hb1:Below w.heap.size w w1:=(Below.refl _ _).grown hgrow (Nat.le_refl _) (fun k hk=>nomatch hk);clear hi hz0 hz1 hz2 hgrow;obtain ⟨v0,hv0⟩:∃ v,v=Value.slice (some ⟨w.heap.size,0,none⟩) 0 (n+2):=⟨_,rfl⟩
 rw [← hv0] at hown ⊢;clear hv0;go_wp2_with fail;go_loopw [2,7,8] (fun s2 s7 s8 wr=>∃ (k c:Nat) (os:List Nat),s8= .int .i64 k∧s2= .int .i64 c∧c≤1000000∧k+c≤n+1000000∧os.length=k∧(∀ o∈os,o < B4)∧wr.ownsRow w.heap.size 3 1 s7 k (ints .i64 os)∧Below w.heap.size w wr∧
   valB B4 os+B4^k*c=valB B4 (xs.take k)*m+c0) (fun s2 _ s8 _=>(n-(intOf s8).toNat)*1000001+(intOf s2).toNat)
 case atStart=>exact ⟨0,c0,[],rfl,rfl,hc,by omega,rfl,by simp,hown,hb1,by simp [valB]⟩
 case round=>
  obtain ⟨k,c,os,rfl,rfl,hcB,hkc,hol,hoB,hown,hb,hv⟩:=hrel;have HV:=hid hv;have HOL:=hid hol;clear hv hol hb1;have hbs:=hb.size
  by_cases hkn:k < n
  ·obtain ⟨b,off,x,rfl,hx,hxB,hcx⟩:=(hr.ext hb).at hkn
   have hx':x≤9999:=by have:x < 10000:=hxB;omega
   have Hx:=hid hx;clear hx hxB;have hxm:=Nat.mul_le_mul hx' hm;have hxm1:(x:Int)*(m:Int)≤655294464:=by rw [← Int.natCast_mul];omega
   have hxm2:(0:Int)≤(x:Int)*(m:Int):=by rw [← Int.natCast_mul];omega
   have HXM:=hid hxm;clear hxm;go_wp2_with (at_builtin;refine Hid.out ?_);refine hid<|wpList_app _ rfl _ _ 45 rfl w.heap.size 3 (.int .i64 0) 1 8 Tryz.underlying45 Tryz.infoInt rfl (by decide) u7 k (ints .i64 os) rfl (hown.alloc _) (some ⟨wr.heap.size,0,none⟩) 1 1 [Value.int .i64 (((c:Int)+(x:Int)*(m:Int))%10000)] rfl rfl (fun e=>nomatch e) (Nat.le_refl _) (cells_new1 _ _ _) (one_int _ _) (by unfold maxLen;omega) (by omega) (by rw [World.size_alloc];omega) fun v' w2 hown' _ hb2=>?_
   have hb3:Below w.heap.size w w2:=(hb.alloc hbs _).trans hb2;have e0:((c+x*m:Nat):Int)=(c:Int)+(x:Int)*(m:Int):=by simp
   have e1:((c:Int)+(x:Int)*(m:Int))%10000=(((c+x*m)%10000:Nat):Int):=by rw [← e0];rfl
   rw [e1,ints_snoc] at hown';have E0:=hid e0;clear e0 e1 hown;go_wp2;go_roundw
   case rel=>
    refine ⟨k+1,(c+x*m) / 10000,os ++ [(c+x*m)%10000],by go_num,by rw [← E0.out];rfl,?_,?_,by rw [List.length_append,HOL.out];rfl,mem_snoc_lt hoB (Nat.mod_lt _ (by decide)),hown',hb3,?_⟩
    ·have:=HXM.out;omega
    ·have:=HXM.out;omega
    ·exact mulAdd_step HOL.out HV.out (valB_take_some _ Hx.out)
   case measure=>
    have h1:((c:Int)+(x:Int)*(m:Int)) / 10000≤1000000:=by omega
    simp only [intOf];omega
  ·have hnx:valB B4 (xs.take (k+1))=valB B4 (xs.take k):=valB_take_none _ (by rw [HL.out];omega)
   have HNX:=hid hnx;clear hnx
   by_cases hc0:c=0
   ·subst hc0
    have hd:decide ((k:Int) < (n:Int))=false:=by rw [decide_eq_false_iff_not];omega
    have hval:val4 os=val4 xs*m+c0:=by
     have h2:=HV.out;rw [List.take_of_length_le (l:=xs) (by rw [HL.out];omega)] at h2;unfold val4;omega
    obtain ⟨ao',c',rfl,h1,h2⟩:=own_of_ownsRow (k:= .i64) (B:=B4) (by rw [HOL.out];exact hown) hoB;have HVAL:=hid hval;clear hval;go_wp2_with fail;refine (rcut_any _ _ _ _ _ (by rw [HOL.out];omega) h1).mono ?_;rintro e w' ⟨r1,rfl,hr1,hres,rfl⟩;rw [HVAL.out] at hres;go_wp2;go_ret;exact ⟨_,_,_,rfl,hres,h2,hb⟩
   ·have hd1:decide (k < n)=false:=by rw [decide_eq_false_iff_not];omega
    have hcpos:0 < c:=by omega
    go_wp2_with (at_builtin;refine Hid.out ?_);refine hid ?_;refine wpList_app _ rfl _ _ 45 rfl w.heap.size 3 (.int .i64 0) 1 8 Tryz.underlying45 Tryz.infoInt rfl (by decide) u7 k (ints .i64 os) rfl (hown.alloc _) (some ⟨wr.heap.size,0,none⟩) 1 1 [Value.int .i64 ((c:Int)%10000)] rfl rfl (fun e=>nomatch e) (Nat.le_refl _) (cells_new1 _ _ _) (one_int _ _) (by unfold maxLen;omega) (by omega) (by rw [World.size_alloc];omega) fun v' w2 hown' _ hb2=>?_
    have hb3:Below w.heap.size w w2:=(hb.alloc hbs _).trans hb2;have e1:(c:Int)%10000=(((c+0*m)%10000:Nat):Int):=by simp
    rw [e1,ints_snoc] at hown';clear e1 hown;go_wp2;go_roundw
    case rel=>
     refine ⟨k+1,(c+0*m) / 10000,os ++ [(c+0*m)%10000],by go_num,by simp,by omega,by omega,by rw [List.length_append,HOL.out];rfl,mem_snoc_lt hoB (Nat.mod_lt _ (by decide)),hown',hb3,?_⟩;exact mulAdd_step HOL.out HV.out (by rw [HNX.out];simp)
    case measure=>
     simp only [intOf];omega
theorem mulAdd_any(ao:Option Addr)(n cp m c0:Nat)(xs:List Nat)(w:World)(hn:n≤1073741824)(hm:m≤65536)(hc:c0≤1000000)(hr:Rw .i64 B4 w ao n cp xs):
  Calls Tryz.prog 120 #[.slice ao n cp,.int .i64 (m:Int),.int .i64 (c0:Int)] w fun e w'=>∃ ro k c',e= .returned (.slice ro k c')∧Rw .i64 B4 w' ro k c' (digs4 (val4 xs*m+c0))∧Below w.heap.size w w':=
 (mulAdd_own ao n cp m c0 xs w hn hm hc hr).mono fun e w' ⟨ro,k,c',he,h1,_,h2⟩=>⟨ro,k,c',he,h1,h2⟩
theorem Tryz.infoU32:(Tryz.prog.info? 165).map (fun i=>(i.zero,i.size,i.bytes))=some (some (.int .u32 0),1,4):=by kernel_rfl
theorem Tryz.sizeU32:(Tryz.prog.info? 165).map (·.size)=some 1:=by kernel_rfl
theorem cut_walk(ao:Option Addr)(n c:Nat)(xs:List Nat)(w:World)(hm:n≤9223372036854775807)(hr:Rw .u32 B32 w ao n c xs):
  Calls Tryz.prog 155 #[.slice ao n c] w fun e w'=>e= .returned (.slice ao (cutN xs n) c)∧w'=w:=by
 have hlc:=hr.le;go_enter Tryz.func155,Tryz.ntmps155;go_wp2;go_loop [3] (fun n'=>∃ k:Nat,k≤n∧n'= .int .i64 k∧cutN xs k=cutN xs n) (fun n'=>(intOf n').toNat)
 case atStart=>exact ⟨n,Nat.le_refl _,rfl,rfl⟩
 case round=>
  obtain ⟨k,hk,rfl,hcut⟩:=hrel;have Hcut:=hid hcut;clear hcut
  by_cases h0:k=0
  ·subst h0
   go_wp2;go_ret;exact ⟨by rw [← Hcut];rfl,rfl⟩
  ·obtain ⟨j,rfl⟩:∃ j,k=j+1:=⟨k-1,by omega⟩
   obtain ⟨b,off,x,rfl,hx,hxB,hcj⟩:=hr.at (show j < n by omega);have Hx:=hid hx;clear hx hr
   by_cases hz:x=0
   ·subst hz
    go_wp2;go_round
    case rel=>exact ⟨j,by omega,rfl,by rw [← Hcut];simp [cutN,Hx.out]⟩
    case measure=>simp [intOf]
   ·have hz':((x:Int)==0)=false:=by simpa using hz
    go_wp2;go_ret;exact ⟨by rw [← Hcut];simp [cutN,Hx.out,hz],rfl⟩
/-- cut: the same memory, as far as the row of the number goes. -/
theorem cut_any(ao:Option Addr)(n c:Nat)(xs:List Nat)(w:World)(hm:n≤9223372036854775807)(hr:Rw .u32 B32 w ao n c xs):
  Calls Tryz.prog 155 #[.slice ao n c] w fun e w'=>∃ m,e= .returned (.slice ao m c)∧m≤n∧Rw .u32 B32 w ao m c (limbs (val xs))∧w=w':=by
 refine (cut_walk ao n c xs w hm hr).mono fun e w' ⟨he,hw⟩=>?_
 have hcut:=cut_limbs xs hr.lt;have hr2:=hr.take (cutN_le xs n);have hl:=hr.len;subst hl;rw [hcut] at hr2;exact ⟨_,he,cutN_le _ _,hr2,hw.symm⟩
theorem norm_any(ao:Option Addr)(n c:Nat)(xs:List Nat)(w:World)(hm:n≤1073741824)(hr:Rw .u32 B32 w ao n c xs):
  Calls Tryz.prog 147 #[.slice ao n c] w fun e w'=>∃ ao' m c',e= .returned (.slice ao' m c')∧m≤n∧Rw .u32 B32 w' ao' m c' (limbs (val xs))∧Own w.heap.size w' ao' c'∧Below w.heap.size w w':=by
 go_enter Tryz.func147,Tryz.ntmps147;go_wp2_with fail;refine (cut_any ao n c xs _ (by omega) hr).mono ?_;rintro e w' ⟨m,rfl,hmn,hr2,rfl⟩;have hl2:=hr2.len;go_wp2_with (at_builtin;refine Hid.out ?_);refine hid ?_;refine wpList_app _ rfl _ _ 34 rfl w.heap.size 165 (.int .u32 0) 1 4 Tryz.underlying34 Tryz.infoU32 rfl (by decide) (.slice none 0 0) 0 [] rfl (World.ownsRow_nil _ _ _ _) ao m c (ints .u32 (limbs (val xs))) rfl (by rw [ints_length];omega) hr2.2.2.1 hr2.le hr2.cells (ints_one _ _) (by unfold maxLen;omega) (by omega) (Nat.le_refl _) fun v' w1 hown _ hb=>?_
 rw [Nat.zero_add,List.nil_append] at hown;obtain ⟨ao',c',rfl,h1,h2⟩:=own_of_ownsRow (k:= .u32) (B:=B32) (by rw [hl2];exact hown) hr2.lt;rw [hl2] at h1;go_wp2;go_ret;exact ⟨_,_,_,rfl,hmn,h1,h2,hb⟩
/-- -1, 0, 1: which one is greater. -/
def cmpZ(a b:Int):Int:=if a < b then -1 else if a=b then 0 else 1
theorem cmp_digit{B:Nat}{xs ys:List Nat}(hx:∀ x∈xs,x < B)(hl:xs.length=ys.length){k:Nat}(hk:k < xs.length)(hd:xs.drop (k+1)=ys.drop (k+1)) 
  (hlt:xs[k] < ys[k]'(by omega)):valB B xs < valB B ys:=by
 rw [valB_drop B xs (k+1) (by omega),valB_drop B ys (k+1) (by omega),hd,valB_take_succ B xs k hk,valB_take_succ B ys k (by omega)];have h1:valB B (xs.take k) < B^k:=by
  have:=valB_lt (xs:=xs.take k) (fun x h=>hx x (List.mem_of_mem_take h));rwa [List.length_take,Nat.min_eq_left (by omega)] at this
 have h2:B^k*(xs[k]+1)≤B^k*(ys[k]'(by omega)):=Nat.mul_le_mul_left _ hlt;rw [Nat.mul_add] at h2;omega
theorem cmp_any(ao bo:Option Addr)(n c m d:Nat)(xs ys:List Nat)(w:World)(hn:n≤1073741824)(hm:m≤1073741824)(hr:Rw .u32 B32 w ao n c xs)(hs:Rw .u32 B32 w bo m d ys):
  Calls Tryz.prog 133 #[.slice ao n c,.slice bo m d] w fun e w'=>e= .returned (.int .i64 (cmpZ (val xs) (val ys)))∧Below w.heap.size w w':=by
 go_enter Tryz.func133,Tryz.ntmps133;go_wp2_with fail;refine (cut_any ao n c xs _ (by omega) hr).mono ?_;rintro e w' ⟨n1,rfl,hn1,hr1,rfl⟩;go_wp2_with fail;refine (cut_any bo m d ys _ (by omega) hs).mono ?_;rintro e w' ⟨m1,rfl,hm1,hs1,rfl⟩;have hl1:=hr1.len;have hl2:=hs1.len;generalize hA:limbs (val xs)=A at *
 generalize hB:limbs (val ys)=B at *
 have HA:=hid hA;have HB:=hid hB;have HL1:=hid hl1;have HL2:=hid hl2;clear hA hB hl1 hl2;have hvx:val xs=val A:=by rw [← HA.out,val_limbs]
 have hvy:val ys=val B:=by rw [← HB.out,val_limbs]
 have HVX:=hid hvx;have HVY:=hid hvy;clear hvx hvy hr hs
 by_cases hne:n1=m1
 ·subst hne
  go_wp2_with fail;go_loopw [5] (fun i wr=>∃ k:Nat,k≤n1∧i= .int .i64 ((k:Int)-1)∧A.drop k=B.drop k∧Below w.heap.size w wr) (fun i _=>(intOf i+1).toNat)
  case atStart=>exact ⟨n1,Nat.le_refl _,rfl,by rw [List.drop_of_length_le (Nat.le_of_eq HL1.out),List.drop_of_length_le (Nat.le_of_eq HL2.out)],Below.refl _ _⟩
  case round=>
   obtain ⟨k,hk,rfl,hd,hb⟩:=hrel;have Hd:=hid hd;clear hd
   by_cases h0:k=0
   ·subst h0
    go_wp2;go_ret;exact ⟨ret_int (by have:=Hd.out;simp only [List.drop_zero] at this;rw [HVX.out,HVY.out,this];simp [cmpZ]),hb⟩
   ·obtain ⟨j,rfl⟩:∃ j,k=j+1:=⟨k-1,by omega⟩
    obtain ⟨b1,off1,x,rfl,hx,hxB,hcx⟩:=(hr1.ext hb).at (show j < n1 by omega);obtain ⟨b2,off2,y,rfl,hy,hyB,hcy⟩:=(hs1.ext hb).at (show j < n1 by omega);have Hx:=hid hx;have Hy:=hid hy;clear hx hy
    by_cases hxy:x < y
    ·go_wp2
     go_quiet (fail);go_wp2;go_ret;refine ⟨ret_int ?_,ext_drewN hb _⟩;have hA:A.length=B.length:=by rw [HL1.out,HL2.out]
     have:=cmp_digit (B:=B32) hr1.lt hA (k:=j) (by rw [HL1.out];omega) Hd.out (by
      obtain ⟨_,e1⟩:=List.getElem?_eq_some_iff.1 Hx.out;obtain ⟨_,e2⟩:=List.getElem?_eq_some_iff.1 Hy.out;rw [e1,e2];exact hxy)
     rw [HVX.out,HVY.out];unfold val;rw [cmpZ,if_pos (by omega)]
    ·by_cases hyx:y < x
     ·have e1:decide (x < y)=false:=by simpa using hxy
      go_wp2;go_quiet (fail);go_wp2;go_quiet (fail);go_wp2;go_ret;refine ⟨ret_int ?_,ext_drewN (ext_drewN hb _) _⟩;have hA:B.length=A.length:=by rw [HL1.out,HL2.out]
      have:=cmp_digit (B:=B32) hs1.lt hA (k:=j) (by rw [HL2.out];omega) Hd.out.symm (by
       obtain ⟨_,e1⟩:=List.getElem?_eq_some_iff.1 Hx.out;obtain ⟨_,e2⟩:=List.getElem?_eq_some_iff.1 Hy.out;rw [e1,e2];exact hyx)
      rw [HVX.out,HVY.out];unfold val;rw [cmpZ,if_neg (by omega),if_neg (by omega)]
     ·have e1:decide (x < y)=false:=by simpa using hxy
      have e2:decide (y < x)=false:=by simpa using hyx
      obtain rfl:x=y:=by omega
      go_wp2;go_quiet (fail);go_wp2;go_quiet (fail);go_wp2;go_roundw
      case rel=>
       refine ⟨j,by omega,by go_num,?_,ext_drewN hb _⟩;obtain ⟨h1,e1⟩:=List.getElem?_eq_some_iff.1 Hx.out;obtain ⟨h2,e2⟩:=List.getElem?_eq_some_iff.1 Hy.out;rw [List.drop_eq_getElem_cons h1,List.drop_eq_getElem_cons h2,e1,e2,Hd.out]
      case measure=>simp [intOf]
 ·by_cases hlt:n1 < m1
  ·go_wp2
   go_ret;exact ⟨ret_int (by have:=limbs_shorter (m:=val xs) (n:=val ys) (by rw [HA.out,HB.out,HL1.out,HL2.out];exact hlt);rw [cmpZ,if_pos (by omega)]),Below.refl _ _⟩
  ·go_wp2
   go_ret;exact ⟨ret_int (by have:=limbs_shorter (m:=val ys) (n:=val xs) (by rw [HA.out,HB.out,HL1.out,HL2.out];omega);rw [cmpZ,if_neg (by omega),if_neg (by omega)]),Below.refl _ _⟩
theorem small_any(ao:Option Addr)(n c:Nat)(xs:List Nat)(v:Nat)(w:World)(hn:n≤1073741824)(hv0:0 < v)(hvB:v≤65536)(hr:Rw .i64 B4 w ao n c xs):
  Calls Tryz.prog 121 #[.slice ao n c,.int .i64 (v:Int)] w fun e w'=>∃ ro k c',e= .returned (.tuple #[.slice ro k c',.int .i64 ((val4 xs%v:Nat):Int)])∧k≤n∧Rw .i64 B4 w' ro k c' (digs4 (val4 xs / v))∧Own w.heap.size w' ro c'∧Below w.heap.size w w':=by
 have hvne:((v:Int)==0)=false:=by rw [beq_eq_false_iff_ne];omega
 have hvpos:(1:Int)≤v:=by omega
 go_enter Tryz.func121,Tryz.ntmps121;go_wp2_with (at_make;refine Hid.out ?_);refine hid ?_;refine wpList_mk _ rfl _ _ 45 rfl 3 (.int .i64 0) 8 Tryz.underlying45 Tryz.infoInt rfl .i64 .i64 _ _ n rfl rfl (by omega) (by omega) (by omega) (by unfold maxLen;omega) fun w2 hblk hbelow hlt=>?_
 obtain ⟨G,hG⟩:∃ G,G=w.heap.size:=⟨_,rfl⟩
 rw [← hG] at hblk hlt hbelow ⊢;have HG:=hid hG;clear hG;rw [← ints_replicate] at hblk;have hpl:=hr.len;have HPL:=hid hpl;clear hpl;go_wp2_with fail;go_loopw [7,8] (fun s7 s8 wr=>∃ (k r:Nat) (os:List Nat),k≤n∧s8= .int .i64 ((k:Int)-1)∧s7= .int .i64 r∧r < v∧os.length=n∧(∀ o∈os,o < B4)∧Blk wr G 3 (ints .i64 os)∧Below G w wr∧
   valB B4 (xs.drop k)=v*valB B4 (os.drop k)+r) (fun _ s8 _=>(intOf s8+1).toNat)
 case atStart=>exact ⟨n,0,List.replicate n 0,Nat.le_refl _,rfl,rfl,hv0,by simp,(fun o ho=>by have:=(List.mem_replicate.1 ho).2;subst this;decide),hblk,hbelow,by rw [List.drop_of_length_le (Nat.le_of_eq HPL.out),List.drop_of_length_le (by simp)];rfl⟩
 case round=>
  obtain ⟨k,r,os,hk,rfl,rfl,hrv,hol,hoB,hb,hbe,hv⟩:=hrel;have HV:=hid hv;have HOL:=hid hol;clear hv hol hblk hbelow;have hb0:=hb.lt
  by_cases h0:k=0
  ·subst h0
   have hv:=HV.out;rw [List.drop_zero,List.drop_zero] at hv;have HV2:=hid hv;clear hv HV;go_wp2_with fail;have hrow:=hb.rw hoB;rw [HOL.out] at hrow;refine (rcut_any _ _ _ _ _ (by omega) hrow).mono ?_;rintro e w' ⟨r1,rfl,hr1',hres,rfl⟩;have hown:=hb.own (base:=G) (n:=n) (Nat.le_refl _) (by rw [ints_length,HOL.out];exact Nat.le_refl _);go_wp2;go_ret2;have hmod:val4 xs%v=r:=by
    have h2:=HV2.out;unfold val4;rw [h2,Nat.mul_add_mod,Nat.mod_eq_of_lt hrv]
   have hdiv:val4 xs / v=val4 os:=by
    have h2:=HV2.out;unfold val4;rw [h2,Nat.mul_add_div hv0,Nat.div_eq_of_lt hrv,Nat.add_zero]
   exact ⟨_,_,_,by rw [hmod];rfl,hr1',by rw [hdiv];exact hres,by rw [← HG.out];exact hown,by rw [← HG.out];exact hbe⟩
  ·obtain ⟨j,rfl⟩:∃ j,k=j+1:=⟨k-1,by omega⟩
   obtain ⟨b1,off1,x,rfl,hx,hxB,hcx⟩:=(hr.ext (by rw [← HG.out];exact hbe)).at (show j < n by omega);have hx':x < 10000:=hxB;have Hx:=hid hx;clear hx hxB;have hcell:=hb.cell j (by rw [ints_length,HOL.out];omega);have hfree:=hb.free j;obtain ⟨s,hs⟩:∃ s:Nat,s=r*10000+x:=⟨_,rfl⟩
   have hsI:(r:Int)*10000+(x:Int)=(s:Int):=by omega
   have hqB:s / v < 10000:=by
    rw [Nat.div_lt_iff_lt_mul hv0,hs];have:=Nat.mul_le_mul_right 10000 (show r+1≤v from hrv);rw [Nat.add_mul,Nat.mul_comm v] at this;omega
   obtain ⟨q,hq⟩:∃ q:Nat,q=s / v:=⟨_,rfl⟩
   obtain ⟨t,ht⟩:∃ t:Nat,t=s%v:=⟨_,rfl⟩
   have htv:t < v:=by rw [ht];exact Nat.mod_lt _ hv0
   have hqv:v*q+t=s:=by rw [hq,ht];exact Nat.div_add_mod s v
   have hq':(s:Int) / (v:Int)=(q:Int):=by rw [hq];rfl
   have ht':(s:Int)%(v:Int)=(t:Int):=by rw [ht];rfl
   rw [← hq] at hqB;have HS:=hid hs;have HQV:=hid hqv;clear hs hqv hq ht;go_wp2;go_roundw
   case rel=>
    have hv:=hb.set j (.int .i64 (q:Int));rw [ints_set] at hv;refine ⟨j,t,os.set j q,by omega,by go_num,?_,htv,by rw [List.length_set];exact HOL.out,mem_set_lt hoB hqB j,?_,hbe.setCell (Nat.le_refl _) _,small_step (by rw [HOL.out];omega) Hx.out HV.out HS.out HQV.out⟩
    ·first | rfl | (rw [ht'])
    ·exact hv
   case measure=>simp [intOf];try omega
theorem toN_own(ao:Option Addr)(n c N:Nat)(w:World)(hn:n≤1000000000)(hr:Rw .i64 B4 w ao n c (digs4 N)):
  Calls Tryz.prog 93 #[.slice ao n c] w fun e w'=>∃ ro k c',e= .returned (.slice ro k c')∧Rw .u32 B32 w' ro k c' (limbs N)∧k≤n∧Own w.heap.size w' ro c'∧Below w.heap.size w w':=by
 go_enter Tryz.func93,Tryz.ntmps93;obtain ⟨v0,hv0⟩:∃ v,v=Value.slice none 0 0:=⟨_,rfl⟩
 go_wp2_with fail;go_loopw [0,3] (fun s0 s3 wr=>∃ (V k m c':Nat) (ao:Option Addr) (os:List Nat),s0= .slice ao m c'∧Rw .i64 B4 wr ao m c' (digs4 V)∧m+k≤n∧os.length=k∧(∀ o∈os,o < B32)∧wr.ownsRow w.heap.size 165 1 s3 k (ints .u32 os)∧
   Below w.heap.size w wr∧os ++limbs V=limbs N) (fun s0 _ _=>match s0 with | .slice _ m _=>m | _=>0)
 case atStart=>exact ⟨N,0,n,c,ao,[],rfl,hr,by omega,rfl,by simp,World.ownsRow_nil _ _ _ _,Below.refl _ _,rfl⟩
 case round=>
  obtain ⟨V,k,m,c',ao,os,rfl,hrow,hmk,hol,hoB,hown,hb,hv⟩:=hrel;have hlen:=hrow.len;have HLEN:=hid hlen;have HOL:=hid hol;have HV:=hid hv;clear hlen hol hv;have hbs:=hb.size
  by_cases hm0:m=0
  ·subst hm0
   obtain ⟨ao',c1,rfl,h1,h2⟩:=own_of_ownsRow (k:= .u32) (B:=B32) (by rw [HOL.out];exact hown) hoB;rw [HOL.out] at h1;go_wp2;go_ret;have hV0:V=0:=digs4_eq_nil.1 (List.eq_nil_of_length_eq_zero HLEN.out);have h3:=HV.out;rw [hV0,limbs_zero,List.append_nil] at h3;rw [h3] at h1;exact ⟨_,_,_,by rw [HOL.out];rfl,h1,by omega,h2,hb⟩
  ·have hVne:V≠0:=by
    rintro rfl;exact hm0 (by rw [← HLEN.out];rfl)
   have HVN:=hid hVne;clear hVne;go_wp2_with fail;refine (small_any _ _ _ _ 65536 _ (by omega) (by omega) (by omega) hrow).mono ?_;rintro e w1 ⟨r1,k1,c1,rfl,hk1,hrow1,_,hb1⟩;rw [val4_digs4] at hrow1 ⊢;obtain ⟨lo,hlo⟩:∃ lo,lo=V%65536:=⟨_,rfl⟩
   have hloB:lo < 65536:=by omega
   rw [← hlo];have HLO:=hid hlo;clear hlo;go_wp2_with fail;refine (small_any _ _ _ _ 65536 _ (by omega) (by omega) (by omega) hrow1).mono ?_;rintro e w2 ⟨r2,k2,c2,rfl,hk2,hrow2,hown2r,hb2⟩;rw [val4_digs4] at hrow2 ⊢;obtain ⟨hi,hhi⟩:∃ hi,hi=V / 65536%65536:=⟨_,rfl⟩
   have hhiB:hi < 65536:=by omega
   rw [← hhi];have HHI:=hid hhi;clear hhi;have hb12:=ext_trans hb1 hb2;have hb02:Below w.heap.size w w2:=hb.trans (hb12.mono hbs);have hbs2:=hb02.size;have hown2:w2.ownsRow w.heap.size 165 1 u3 k (ints .u32 os):=by
    refine hown.kept (row:=none) ⟨hb12.os,hb12.tape,hb12.output,hb12.size,fun j hj _=>hb12.block j hj⟩ ?_;cases h5:u3.ownBlock <;> simp
   have hklt:k2 < m:=by
    have h1:=hrow2.len;have h2:V / 65536 / 65536 < V:=by have:=HVN.out;omega
    have h3:digs4 V=V%B4 ::digs4 (V / B4):=digs4_pos HVN.out;have h4:(digs4 (V / 65536 / 65536)).length≤(digs4 (V / B4)).length:=digs4_mono (by unfold B4;omega);have h5:=HLEN.out;rw [h3,List.length_cons] at h5;omega
   have hlimb:V%B32=hi*65536+lo:=by rw [HLO.out,HHI.out];unfold B32;omega
   have hlimb2:V / B32=V / 65536 / 65536:=by unfold B32;omega
   have hcast:(hi:Int)*65536+(lo:Int)=((hi*65536+lo:Nat):Int):=by omega
   have hstep:(os ++ [hi*65536+lo]) ++limbs (V / 65536 / 65536)=limbs N:=by
    rw [← HV.out,limbs_pos HVN.out,hlimb,hlimb2,List.append_assoc];rfl
   have HST:=hid hstep;have HC:=hid hcast;clear hlimb hlimb2 hcast hstep;go_wp2_with (at_builtin;refine Hid.out ?_);refine hid<|wpList_app _ rfl _ _ 34 rfl w.heap.size 165 (.int .u32 0) 1 4 Tryz.underlying34 Tryz.infoU32 rfl (by decide) u3 k (ints .u32 os) rfl (hown2.alloc _) (some ⟨w2.heap.size,0,none⟩) 1 1 [Value.int .u32 ((hi:Int)*65536+(lo:Int))] rfl rfl (fun e=>nomatch e) (Nat.le_refl _) (cells_new1 _ _ _) (one_int _ _) (by unfold maxLen;omega) (by omega) (by rw [World.size_alloc];omega) fun v' w3 hown' hgrow3 hb3=>?_
   have hbA:Below w2.heap.size w2 (w2.alloc (.cells #[.int .u32 ((hi:Int)*65536+(lo:Int))] 165)):=(Below.refl _ _).alloc (Nat.le_refl _) _;have hb4:Below w.heap.size w w3:=(hb02.trans (hbA.mono hbs2)).trans hb3;have hlim:hi*65536+lo < B32:=by unfold B32;omega
   rw [HC.out,ints_snoc] at hown';have hrow3:Rw .i64 B4 w3 r2 k2 c2 (digs4 (V / 65536 / 65536)):=(hrow2.ext hbA).grown (hown2r.ext hbA) hgrow3 (fun j hj=>by
    have h6:=(hown.lt j hj).2;have h7:=hb1.size;omega)
   clear hgrow3 hbA hrow2 hown2r hown2 hown hrow1 hrow;go_wp2;go_roundw
   case rel=>exact ⟨V / 65536 / 65536,k+1,k2,c2,r2,os ++ [hi*65536+lo],rfl,hrow3,by omega,by rw [List.length_append,HOL.out];rfl,mem_snoc_lt hoB hlim,hown',hb4,HST.out⟩
   case measure=>exact hklt
theorem cmpN_any(ao bo:Option Addr)(n c m d M N:Nat)(w:World)(hn:n≤1073741824)(hm:m≤1073741824)(hr:Rw .i64 B4 w ao n c (digs4 M))(hs:Rw .i64 B4 w bo m d (digs4 N)):
  Calls Tryz.prog 141 #[.slice ao n c,.slice bo m d] w fun e w'=>e= .returned (.int .i64 (cmpZ M N))∧Below w.heap.size w w':=by
 have hl1:=hr.len;have hl2:=hs.len;generalize hA:digs4 M=A at *
 generalize hB:digs4 N=B at *
 have hvx:M=val4 A:=by rw [← hA,val4_digs4]
 have hvy:N=val4 B:=by rw [← hB,val4_digs4]
 have HA:=hid hA;have HB:=hid hB;have HL1:=hid hl1;have HL2:=hid hl2;have HVX:=hid hvx;have HVY:=hid hvy;clear hA hB hl1 hl2 hvx hvy;go_enter Tryz.func141,Tryz.ntmps141
 by_cases hne:n=m
 ·subst hne
  go_wp2_with fail;go_loopw [5] (fun i wr=>∃ k:Nat,k≤n∧i= .int .i64 ((k:Int)-1)∧A.drop k=B.drop k∧Below w.heap.size w wr) (fun i _=>(intOf i+1).toNat)
  case atStart=>exact ⟨n,Nat.le_refl _,rfl,by rw [List.drop_of_length_le (Nat.le_of_eq HL1.out),List.drop_of_length_le (Nat.le_of_eq HL2.out)],Below.refl _ _⟩
  case round=>
   obtain ⟨k,hk,rfl,hd,hb⟩:=hrel;have Hd:=hid hd;clear hd
   by_cases h0:k=0
   ·subst h0
    go_wp2;go_ret;exact ⟨ret_int (by have:=Hd.out;simp only [List.drop_zero] at this;rw [HVX.out,HVY.out,this];simp [cmpZ]),hb⟩
   ·obtain ⟨j,rfl⟩:∃ j,k=j+1:=⟨k-1,by omega⟩
    obtain ⟨b1,off1,x,rfl,hx,hxB,hcx⟩:=(hr.ext hb).at (show j < n by omega);obtain ⟨b2,off2,y,rfl,hy,hyB,hcy⟩:=(hs.ext hb).at (show j < n by omega);have Hx:=hid hx;have Hy:=hid hy;clear hx hy
    by_cases hxy:x=y
    ·subst hxy
     go_wp2;go_quiet (fail);go_wp2;go_roundw
     case rel=>
      refine ⟨j,by omega,by go_num,?_,ext_drewN hb _⟩;obtain ⟨h1,e1⟩:=List.getElem?_eq_some_iff.1 Hx.out;obtain ⟨h2,e2⟩:=List.getElem?_eq_some_iff.1 Hy.out;rw [List.drop_eq_getElem_cons h1,List.drop_eq_getElem_cons h2,e1,e2,Hd.out]
     case measure=>simp [intOf]
    ·have e1:((x:Int) !=(y:Int))=true:=by rw [bne_iff_ne];omega
     by_cases hlt:x < y
     ·have e2:decide (x < y)=true:=by simpa using hlt
      go_wp2;go_quiet (fail);go_wp2;go_quiet (fail);go_wp2;go_ret;refine ⟨ret_int ?_,by first | exact ext_drewN hb _ | exact ext_drewN (ext_drewN hb _) _⟩;have hA:A.length=B.length:=by rw [HL1.out,HL2.out]
      have:=cmp_digit (B:=B4) hr.lt hA (k:=j) (by rw [HL1.out];omega) Hd.out (by
       obtain ⟨_,e1⟩:=List.getElem?_eq_some_iff.1 Hx.out;obtain ⟨_,e2⟩:=List.getElem?_eq_some_iff.1 Hy.out;rw [e1,e2];exact hlt)
      rw [HVX.out,HVY.out];unfold val4;rw [cmpZ,if_pos (by omega)]
     ·have e2:decide (x < y)=false:=by simpa using hlt
      go_wp2;go_quiet (fail);go_wp2;go_quiet (fail);go_wp2;go_ret;refine ⟨ret_int ?_,by first | exact ext_drewN hb _ | exact ext_drewN (ext_drewN hb _) _⟩;have hA:B.length=A.length:=by rw [HL1.out,HL2.out]
      have:=cmp_digit (B:=B4) hs.lt hA (k:=j) (by rw [HL2.out];omega) Hd.out.symm (by
       obtain ⟨_,e1⟩:=List.getElem?_eq_some_iff.1 Hx.out;obtain ⟨_,e2⟩:=List.getElem?_eq_some_iff.1 Hy.out;rw [e1,e2];omega)
      rw [HVX.out,HVY.out];unfold val4;rw [cmpZ,if_neg (by omega),if_neg (by omega)]
 ·by_cases hlt:n < m
  ·go_wp2
   go_ret;exact ⟨ret_int (by have:=digs4_shorter (m:=M) (n:=N) (by rw [HA.out,HB.out,HL1.out,HL2.out];exact hlt);rw [cmpZ,if_pos (by omega)]),Below.refl _ _⟩
  ·go_wp2
   go_ret;exact ⟨ret_int (by have:=digs4_shorter (m:=N) (n:=M) (by rw [HA.out,HB.out,HL1.out,HL2.out];omega);rw [cmpZ,if_neg (by omega),if_neg (by omega)]),Below.refl _ _⟩
theorem subN_own(ao bo:Option Addr)(n c m d M N:Nat)(w:World)(hn:n≤1073741824)(hm:m≤1073741824)(hle:N≤M)(hr:Rw .i64 B4 w ao n c (digs4 M))(hs:Rw .i64 B4 w bo m d (digs4 N)):
  Calls Tryz.prog 142 #[.slice ao n c,.slice bo m d] w fun e w'=>∃ ro k c',e= .returned (.slice ro k c')∧Rw .i64 B4 w' ro k c' (digs4 (M-N))∧k≤n∧Own w.heap.size w' ro c'∧Below w.heap.size w w':=by
 have hmn:=digs4_mono hle;rw [hr.len,hs.len] at hmn;have hpl:=hr.len;have hql:=hs.len;have HPL:=hid hpl;have HQL:=hid hql;have HLE:=hid hle;clear hpl hql hle;go_enter Tryz.func142,Tryz.ntmps142;go_wp2_with (at_make;refine Hid.out ?_);refine hid<|wpList_mk _ rfl _ _ 45 rfl 3 (.int .i64 0) 8 Tryz.underlying45 Tryz.infoInt rfl .i64 .i64 _ _ n rfl rfl (by omega) (by omega) (by omega) (by unfold maxLen;omega) fun w2 hblk hbelow hlt=>?_
 obtain ⟨G,hG⟩:∃ G,G=w.heap.size:=⟨_,rfl⟩
 rw [← hG] at hblk hlt hbelow ⊢;have HG:=hid hG;clear hG;rw [← ints_replicate] at hblk;go_wp2_with fail;go_loopw [6,14] (fun s6 s14 wr=>∃ (k cy:Nat) (os:List Nat),k≤n∧s14= .int .i64 k∧s6= .int .i64 cy∧cy≤1∧os.length=n∧(∀ o∈os,o < B4)∧Blk wr G 3 (ints .i64 os)∧Below G w wr∧
   valB B4 (os.take k)+valB B4 ((digs4 N).take k)=valB B4 ((digs4 M).take k)+B4^k*cy) (fun _ s14 _=>n-(intOf s14).toNat)
 case atStart=>exact ⟨0,0,List.replicate n 0,Nat.zero_le _,rfl,rfl,by omega,by simp,(fun o ho=>by have:=(List.mem_replicate.1 ho).2;subst this;decide),hblk,hbelow,by simp [valB]⟩
 case round=>
  obtain ⟨k,cy,os,hk,rfl,rfl,hcy,hol,hoB,hb,hbe,hv⟩:=hrel;have HV:=hid hv;have HOL:=hid hol;clear hv hol hblk hbelow;have hb0:=hb.lt
  by_cases hkn:k < n
  ·obtain ⟨b1,off1,x,rfl,hx,hxB,hcx⟩:=(hr.ext (by rw [← HG.out];exact hbe)).at hkn
   have hcell:=hb.cell k (by rw [ints_length,HOL.out];omega);have hfree:=hb.free k;have hx':x < 10000:=hxB;have Hx:=hid hx;clear hx hxB;have key:∀ y:Nat,y < 10000→valB B4 ((digs4 N).take (k+1))=valB B4 ((digs4 N).take k)+B4^k*y→∃ d1 b:Nat,d1 < B4∧b≤1∧(d1:Int)=(if (x:Int)-cy-y < 0 then (x:Int)-cy-y+10000 else (x:Int)-cy-y)∧(b:Int)=(if (x:Int)-cy-y < 0 then 1 else 0)∧
     valB B4 ((os.set k d1).take (k+1))+valB B4 ((digs4 N).take (k+1))=valB B4 ((digs4 M).take (k+1))+B4^(k+1)*b:=by
    intro y hy hQ
    by_cases h:cy+y≤x
    ·exact ⟨x-cy-y,0,by unfold B4;omega,by omega,by rw [if_neg (by omega)];omega,by rw [if_neg (by omega)];rfl,sub_step (by rw [HOL.out];omega) HV.out (valB_take_some _ Hx.out) hQ (by unfold B4;omega)⟩
    ·exact ⟨x+10000-cy-y,1,by unfold B4;omega,by omega,by rw [if_pos (by omega)];omega,by rw [if_pos (by omega)];rfl,sub_step (by rw [HOL.out];omega) HV.out (valB_take_some _ Hx.out) hQ (by unfold B4;omega)⟩
   by_cases hkq:k < m
   ·obtain ⟨b2,off2,y,rfl,hy,hyB,hcy2⟩:=(hs.ext (by rw [← HG.out];exact hbe)).at hkq
    have hy':y < 10000:=hyB;obtain ⟨d1,b,hd1,hb1,e1,e2,e3⟩:=key y hy' (valB_take_some _ hy);have E1:=hid e1;have E2:=hid e2;have E3:=hid e3;clear key hy hyB e1 e2 e3
    by_cases hneg:(x:Int)-cy-y < 0
    ·go_wp2
     go_roundw
     case rel=>
      have hv:=hb.set k (.int .i64 (d1:Int));rw [ints_set,E1.out,if_pos hneg] at hv;exact ⟨k+1,b,os.set k d1,by omega,by go_num,by rw [E2.out,if_pos hneg],hb1,by rw [List.length_set];exact HOL.out,mem_set_lt hoB hd1 k,hv,hbe.setCell (Nat.le_refl _) _,E3.out⟩
     case measure=>simp [intOf];omega
    ·go_wp2
     go_roundw
     case rel=>
      have hv:=hb.set k (.int .i64 (d1:Int));rw [ints_set,E1.out,if_neg (by omega)] at hv;exact ⟨k+1,b,os.set k d1,by omega,by go_num,by rw [E2.out,if_neg (by omega)],hb1,by rw [List.length_set];exact HOL.out,mem_set_lt hoB hd1 k,hv,hbe.setCell (Nat.le_refl _) _,E3.out⟩
     case measure=>simp [intOf];omega
   ·obtain ⟨d1,b,hd1,hb1,e1,e2,e3⟩:=key 0 (by omega) (by rw [valB_take_none _ (by rw [HQL.out];omega)];simp)
    have E1:=hid e1;have E2:=hid e2;have E3:=hid e3;clear key e1 e2 e3
    by_cases hneg:(x:Int)-cy < 0
    ·go_wp2
     go_roundw
     case rel=>
      have hv:=hb.set k (.int .i64 (d1:Int));rw [ints_set,E1.out,if_pos (by omega)] at hv;refine ⟨k+1,b,os.set k d1,by omega,by go_num,by rw [E2.out,if_pos (by omega)],hb1,by rw [List.length_set];exact HOL.out,mem_set_lt hoB hd1 k,?_,hbe.setCell (Nat.le_refl _) _,E3.out⟩;rw [show (x:Int)-cy+10000=(x:Int)-cy-((0:Nat):Int)+10000 by omega];exact hv
     case measure=>simp [intOf];omega
    ·go_wp2
     go_roundw
     case rel=>
      have hv:=hb.set k (.int .i64 (d1:Int));rw [ints_set,E1.out,if_neg (by omega)] at hv;refine ⟨k+1,b,os.set k d1,by omega,by go_num,by rw [E2.out,if_neg (by omega)],hb1,by rw [List.length_set];exact HOL.out,mem_set_lt hoB hd1 k,?_,hbe.setCell (Nat.le_refl _) _,E3.out⟩;rw [show (x:Int)-cy=(x:Int)-cy-((0:Nat):Int) by omega];exact hv
     case measure=>simp [intOf];omega
  ·obtain rfl:k=n:=by omega
   go_wp2_with fail;have hrow:=hb.rw hoB;rw [HOL.out] at hrow;refine (rcut_any _ _ _ _ _ (by omega) hrow).mono ?_;rintro e w' ⟨r1,rfl,hr1',hres,rfl⟩;go_wp2;go_ret;refine ⟨_,_,_,rfl,?_,hr1',by rw [← HG.out];exact hb.own (Nat.le_refl _) (by rw [ints_length,HOL.out];exact Nat.le_refl _),by rw [← HG.out];exact hbe⟩;have hval:val4 os=M-N:=by
    have h2:=HV.out;rw [valB_take_all _ HPL.out,List.take_of_length_le (l:=digs4 N) (by rw [HQL.out];exact hmn),valB_take_all _ HOL.out] at h2;have h3:=val4_lt hoB;rw [HOL.out] at h3
    change val4 os+val4 (digs4 N)=val4 (digs4 M)+_ at h2
    rw [val4_digs4,val4_digs4] at h2;have h4:=HLE.out;have:cy=0∨cy=1:=by omega
    rcases this with rfl | rfl
    ·omega
    ·rw [Nat.mul_one] at h2;omega
   rw [← hval];exact hres
theorem lit_own(w:World)(base:Nat)(k:IntKind)(x:Nat)(t:TypeId)(hb:base≤w.heap.size):
  (w.alloc (.cells #[.int k (x:Int)] t)).ownsRow base t 1 (.slice (some ⟨w.heap.size,0,none⟩) 1 1) 1 (ints k [x]):=
 ⟨rfl,.inr ⟨w.heap.size,1,_,rfl,hb,heap_alloc_new w _,Nat.le_refl _,by decide,rfl,rfl⟩⟩
theorem cmpZ_le{a b:Int}:cmpZ a b≤0↔a≤b:=by
 unfold cmpZ;split
 ·omega
 ·split <;> omega
theorem divN_own(ao bo:Option Addr)(n c m d M N:Nat)(w:World)(hn:n≤100000000)(hm:m≤100000000)(hN:0 < N)(hr:Rw .i64 B4 w ao n c (digs4 M))(hs:Rw .i64 B4 w bo m d (digs4 N)):
  Calls Tryz.prog 119 #[.slice ao n c,.slice bo m d] w fun e w'=>∃ qo qn qc ro rn rc,e= .returned (.tuple #[.slice qo qn qc,.slice ro rn rc])∧Rw .i64 B4 w' qo qn qc (digs4 (M / N))∧qn≤n∧Rw .i64 B4 w' ro rn rc (digs4 (M%N))∧rn≤m∧Own w.heap.size w' qo qc∧Own w.heap.size w' ro rc∧Below w.heap.size w w':=by
 have hpl:=hr.len;have hql:=hs.len;have HPL:=hid hpl;have HQL:=hid hql;clear hpl hql;go_enter Tryz.func119,Tryz.ntmps119;go_wp2_with (at_make;refine Hid.out ?_);refine hid<|wpList_mk _ rfl _ _ 45 rfl 3 (.int .i64 0) 8 Tryz.underlying45 Tryz.infoInt rfl .i64 .i64 _ _ n rfl rfl (by omega) (by omega) (by omega) (by unfold maxLen;omega) fun w2 hblk hbelow hlt=>?_
 obtain ⟨G,hG⟩:∃ G,G=w.heap.size:=⟨_,rfl⟩
 rw [← hG] at hblk hlt hbelow ⊢;have HG:=hid hG;clear hG;rw [← ints_replicate] at hblk;go_wp2_with fail;go_loopw [7,8] (fun s7 s8 wr=>∃ (k R rn rc:Nat) (ro:Option Addr) (qs:List Nat),k≤n∧s8= .int .i64 ((k:Int)-1)∧s7= .slice ro rn rc∧Rw .i64 B4 wr ro rn rc (digs4 R)∧Own G wr ro rc∧R < N∧qs.length=n∧(∀ o∈qs,o < B4)∧Blk wr G 3 (ints .i64 qs)∧Below G w wr∧
   valB B4 ((digs4 M).drop k)=N*valB B4 (qs.drop k)+R) (fun _ s8 _=>(intOf s8+1).toNat)
 case atStart=>exact ⟨n,0,0,0,none,List.replicate n 0,Nat.le_refl _,rfl,rfl,Rw.nil _ _ _,Own.nil _ _ _,hN,by simp,(fun o ho=>by have:=(List.mem_replicate.1 ho).2;subst this;decide),hblk,hbelow,by rw [List.drop_of_length_le (Nat.le_of_eq HPL.out),List.drop_of_length_le (by simp)];rfl⟩
 case round=>
  obtain ⟨k,R,rn,rc,ro,qs,hk,rfl,rfl,hrow,hrown,hRN,hol,hoB,hb,hbe,hv⟩:=hrel;have HV:=hid hv;have HOL:=hid hol;clear hv hol hblk hbelow;have hb0:=hb.lt;have hrnm:rn≤m:=by
   have:=digs4_mono (Nat.le_of_lt hRN);rw [hrow.len,HQL.out] at this;exact this
  by_cases h0:k=0
  ·subst h0
   have hv:=HV.out;rw [List.drop_zero,List.drop_zero] at hv;have HV2:=hid hv;clear hv HV;go_wp2_with fail;have hqrow:=hb.rw hoB;rw [HOL.out] at hqrow;refine (rcut_any _ _ _ _ _ (by omega) hqrow).mono ?_;rintro e w' ⟨r1,rfl,hr1',hres,rfl⟩;go_wp2;go_ret2;have hmod:M%N=R:=by
    have h2:=HV2.out
    change val4 (digs4 M)=_ at h2
    rw [val4_digs4] at h2;rw [h2,Nat.mul_add_mod,Nat.mod_eq_of_lt hRN]
   have hdiv:M / N=val4 qs:=by
    have h2:=HV2.out
    change val4 (digs4 M)=_ at h2
    rw [val4_digs4] at h2;rw [h2,Nat.mul_add_div hN,Nat.div_eq_of_lt hRN,Nat.add_zero];rfl
   exact ⟨_,_,_,_,_,_,rfl,by rw [hdiv];exact hres,hr1',by rw [hmod];exact hrow,hrnm,by rw [← HG.out];exact hb.own (Nat.le_refl _) (by rw [ints_length,HOL.out];exact Nat.le_refl _),by rw [← HG.out];exact hrown,by rw [← HG.out];exact hbe⟩
  ·obtain ⟨j,rfl⟩:∃ j,k=j+1:=⟨k-1,by omega⟩
   obtain ⟨b1,off1,x,rfl,hx,hxB,hcx⟩:=(hr.ext (by rw [← HG.out];exact hbe)).at (show j < n by omega);have hx':x < 10000:=hxB;have Hx:=hid hx;clear hx hxB;have hrlen:=hrow.len;have HRL:=hid hrlen;clear hrlen;go_wp2_with (at_builtin;refine Hid.out ?_);refine hid ?_;have hbA:Below wr.heap.size wr (wr.alloc (.cells #[.int .i64 (x:Int)] 3)):=(Below.refl _ _).alloc (Nat.le_refl _) _;refine wpList_app _ rfl _ _ 45 rfl wr.heap.size 3 (.int .i64 0) 1 8 Tryz.underlying45 Tryz.infoInt rfl (by decide) _ 1 (ints .i64 [x]) rfl (lit_own wr _ .i64 x 3 (Nat.le_refl _)) ro rn rc (ints .i64 (digs4 R)) rfl (by rw [ints_length,HRL.out];omega) hrow.2.2.1 hrow.le (hrow.cells.ext hbA) (ints_one _ _) (by unfold maxLen;omega) (by omega) (by rw [World.size_alloc];omega) fun v' w3 hown' _ hb3=>?_
   have hb13:Below wr.heap.size wr w3:=hbA.trans hb3;have hcat:ints .i64 [x] ++ints .i64 (digs4 R)=ints .i64 (x ::digs4 R):=by simp [ints]
   rw [hcat] at hown';have hxR:∀ o∈(x ::digs4 R),o < B4:=by
    intro o ho
    rcases List.mem_cons.1 ho with rfl | ho
    ·exact hx'
    ·exact digs4_lt R o ho
   obtain ⟨ao',c',rfl,h1,hown1⟩:=own_of_ownsRow (k:= .i64) (B:=B4) (xs:=x ::digs4 R) (by rw [List.length_cons,HRL.out,Nat.add_comm];exact hown') hxR;rw [List.length_cons,HRL.out] at h1 ⊢;clear hown' hcat hxR hbA hb3;go_wp2_with fail;refine (rcut_any _ _ _ _ _ (by omega) h1).mono ?_;rintro e w' ⟨r1,rfl,hr1',hres,rfl⟩;have hval:val4 (x ::digs4 R)=x+10000*R:=by
    unfold val4;rw [valB_cons];have:=val4_digs4 R;unfold val4 at this;rw [this]
   rw [hval] at hres;have hR2:x+10000*R < 10000*N:=by omega
   obtain ⟨R2,hR2e⟩:∃ R2,R2=x+10000*R:=⟨_,rfl⟩
   rw [← hR2e] at hres hR2;have HR2:=hid hR2e;clear hR2e hval;have hb3:=hb.ext hb13;have hbe3:Below G w w3:=hbe.trans (hb13.mono (by omega));clear h1 hrow hrown hb hbe;have hr1m:r1≤m+1:=by omega
   have hs3:Rw .i64 B4 w3 bo m d (digs4 N):=hs.ext (by rw [← HG.out];exact hbe3);have hNle:N≤N*65536:=Nat.le_mul_of_pos_right _ (by omega);go_wp2_with fail;go_loopw [9,10] (fun s9 s10 wi=>∃ lo hi:Nat,s9= .int .i64 lo∧s10= .int .i64 hi∧lo≤hi∧hi≤9999∧lo*N≤R2∧R2 < (hi+1)*N∧Below w3.heap.size w3 wi) (fun s9 s10 _=>(intOf s10-intOf s9).toNat)
   case atStart=>exact ⟨0,9999,rfl,rfl,by omega,by omega,by omega,hR2,Below.refl _ _⟩
   case round=>
    obtain ⟨lo,hi,rfl,rfl,hlh,hhi,hlo2,hhi2,hbi⟩:=hrel;have HLO:=hid hlo2;have HHI:=hid hhi2;clear hlo2 hhi2;have hsi:=hs3.ext hbi;have hresi:=hres.ext hbi
    by_cases hlt:lo < hi
    ·obtain ⟨mm,hmm⟩:∃ mm,mm=(lo+hi+1) / 2:=⟨_,rfl⟩
     have hmi:((lo:Int)+(hi:Int)+1) / 2=(mm:Int):=by omega
     have hm1:lo < mm:=by omega
     have hm2:mm≤hi:=by omega
     clear hmm;go_wp2_with fail;refine (mulAdd_any _ m d mm 0 _ _ (by omega) (by omega) (by omega) hsi).mono ?_;rintro e w4 ⟨r4,k4,c4,rfl,hrow4,hb4⟩;rw [val4_digs4,Nat.add_zero] at hrow4;have hk4:k4≤m+2:=by
      have h1:=digs4_lt N;have h2:N*mm < B4^(m+2):=by
       have h3:=val4_lt (digs4_lt N);rw [val4_digs4,HQL.out] at h3;have h4:N*mm≤N*9999:=Nat.mul_le_mul_left _ (by omega);have h5:N*9999 < B4^m*B4:=by unfold B4 at *;omega
       rw [Nat.pow_succ,Nat.pow_succ];have:B4^m*B4≤B4^m*B4*B4:=Nat.le_mul_of_pos_right _ (by decide);omega
      have h6:=digs4_le h2;rw [hrow4.len] at h6;exact h6
     have hres4:=hresi.ext hb4;go_wp2_with fail;refine (cmpN_any _ _ _ _ _ _ (N*mm) R2 _ (by omega) (by omega) hrow4 hres4).mono ?_;rintro e w5 ⟨rfl,hb5⟩;obtain ⟨z,hz⟩:∃ z,z=cmpZ ((N*mm:Nat):Int) (R2:Int):=⟨_,rfl⟩
     rw [← hz];have hbi5:Below w3.heap.size w3 w5:=hbi.trans ((ext_trans hb4 hb5).mono hbi.size)
     by_cases hle:N*mm≤R2
     ·have hz0:z≤0:=by rw [hz,cmpZ_le];omega
      have hdz:decide (z≤0)=true:=by simpa using hz0
      have hlo':mm*N≤R2:=by rw [Nat.mul_comm];exact hle
      have HLO':=hid hlo';clear hz hlo' hle;go_wp2_with fail;go_roundw
      case rel=>exact ⟨mm,hi,rfl,rfl,hm2,hhi,HLO'.out,HHI.out,hbi5⟩
      case measure=>simp [intOf];omega
     ·have hz0:0 < z:=by
       have:¬ z≤0:=by rw [hz,cmpZ_le];omega
       omega
      have hdz:decide (z≤0)=false:=by rw [decide_eq_false_iff_not];omega
      have hhi':R2 < ((mm-1)+1)*N:=by rw [Nat.sub_add_cancel (by omega),Nat.mul_comm];omega
      have HHI':=hid hhi';clear hz hhi' hle;go_wp2_with fail;go_roundw
      case rel=>exact ⟨lo,mm-1,rfl,by go_num,by omega,by omega,HLO.out,HHI'.out,hbi5⟩
      case measure=>simp [intOf];omega
    ·obtain rfl:lo=hi:=by omega
     have hb6:=hb3.ext hbi;have hbe6:Below G w wr:=hbe3.trans (hbi.mono (by have:=hb3.lt;omega));have hcell:=hb6.cell j (by rw [ints_length,HOL.out];omega);have hfree:=hb6.free j;have hlt6:=hb6.lt;have hloB:lo < 10000:=by omega
     have hb7:=hb6.set j (.int .i64 (lo:Int));rw [ints_set] at hb7;have hbe7:Below G w (wr.setCell ⟨G,j,none⟩ (.int .i64 (lo:Int))):=hbe6.setCell (Nat.le_refl _) _;have hs7:Rw .i64 B4 (wr.setCell ⟨G,j,none⟩ (.int .i64 (lo:Int))) bo m d (digs4 N):=hs.ext (by rw [← HG.out];exact hbe7);have hres7:Rw .i64 B4 (wr.setCell ⟨G,j,none⟩ (.int .i64 (lo:Int))) ao' r1 c' (digs4 R2):=hresi.setElder (hown1.ext hbi) hb0;go_wp2_with fail;generalize wr.setCell ⟨G,j,none⟩ (.int .i64 (lo:Int))=wx at *
     refine (mulAdd_any _ m d lo 0 _ _ (by omega) (by omega) (by omega) hs7).mono ?_;rintro e w4 ⟨r4,k4,c4,rfl,hrow4,hb4⟩;rw [val4_digs4,Nat.add_zero] at hrow4;have hk4:k4≤m+2:=by
      have h2:N*lo < B4^(m+2):=by
       have h3:=val4_lt (digs4_lt N);rw [val4_digs4,HQL.out] at h3;have h4:N*lo≤N*9999:=Nat.mul_le_mul_left _ (by omega);have h5:N*9999 < B4^m*B4:=by unfold B4 at *;omega
       rw [Nat.pow_succ,Nat.pow_succ];have:B4^m*B4≤B4^m*B4*B4:=Nat.le_mul_of_pos_right _ (by decide);omega
      have h6:=digs4_le h2;rw [hrow4.len] at h6;exact h6
     have hres8:=hres7.ext hb4;have hle8:N*lo≤R2:=by rw [Nat.mul_comm];exact HLO.out
     go_wp2_with fail;refine (subN_own _ _ _ _ _ _ R2 (N*lo) _ (by omega) (by omega) hle8 hres8 hrow4).mono ?_;rintro e w5 ⟨r5,k5,c5,rfl,hrow5,hk5,hown5,hb5⟩;have hown6:Own G w5 r5 c5:=hown5.mono (by have:=hb4.size;have:=hb7.lt;omega);clear hown5;have hb45:=ext_trans hb4 hb5;have hb9:=hb7.ext hb45;have hbe9:Below G w w5:=hbe7.trans (hb45.mono (by have:=hb7.lt;omega));have HLE8:=hid hle8;clear hle8;go_wp2;go_roundw
     case rel=>
      refine ⟨j,R2-N*lo,k5,c5,r5,qs.set j lo,by omega,by go_num,rfl,hrow5,hown6,?_,by rw [List.length_set];exact HOL.out,mem_set_lt hoB hloB j,hb9,hbe9,?_⟩
      ·have h1:=HHI.out
       rw [Nat.add_mul,Nat.one_mul,Nat.mul_comm lo] at h1;have:=HLE8.out;omega
      ·refine small_step (r:=R) (x:=x) (s:=R2) (by rw [HOL.out];omega) Hx.out HV.out ?_ ?_
       ·rw [HR2.out];unfold B4;omega
       ·have:=HLE8.out;omega
     case measure=>simp [intOf];try omega
theorem addN_step{B k c x y P Q P' Q':Nat}{os:List Nat}(hl:os.length=k)(hv:valB B os+B^k*c=P+Q)(hx:P'=P+B^k*x)(hy:Q'=Q+B^k*y):
  valB B (os ++ [(c+x+y)%B])+B^(k+1)*((c+x+y) / B)=P'+Q':=by
 have h2:=pow_step B k (c+x+y);rw [valB_snoc,hl,hx,hy];rw [Nat.mul_add,Nat.mul_add] at h2;omega
/-- Digits as many as the number's own are the number's own. -/
theorem digs4_full{os:List Nat}{V:Nat}(h:∀ x∈os,x < B4)(hv:valB B4 os=V)(hl:os.length≤(digs4 V).length):os=digs4 V:=by
 have h1:=cut_digs4 os h;have h2:cutN os os.length=(digs4 (val4 os)).length:=cutN_length B4_two os h;have h3:val4 os=V:=hv;rw [h3] at h1 h2;rw [List.take_of_length_le (by rw [h2];exact hl)] at h1;exact h1
theorem digs4_long{n k:Nat}(h:B4^k≤n):k+1≤(digs4 n).length:=digs_length_ge B4_two h
theorem addN_own(ao bo:Option Addr)(n cp m d M N:Nat)(w:World)(hn:n≤1073741824)(hm:m≤1073741824)(hr:Rw .i64 B4 w ao n cp (digs4 M))(hs:Rw .i64 B4 w bo m d (digs4 N)):
  Calls Tryz.prog 140 #[.slice ao n cp,.slice bo m d] w fun e w'=>∃ ro k c',e= .returned (.slice ro k c')∧Rw .i64 B4 w' ro k c' (digs4 (M+N))∧Own w.heap.size w' ro c'∧k≤n+m+1∧Below w.heap.size w w':=by
 obtain ⟨xs,hxs⟩:∃ xs,xs=digs4 M:=⟨_,rfl⟩
 obtain ⟨ys,hys⟩:∃ ys,ys=digs4 N:=⟨_,rfl⟩
 rw [← hxs] at hr;rw [← hys] at hs;have hl1:=hr.len;have hl2:=hs.len;have HX:=hid hxs;have HY:=hid hys;have HL1:=hid hl1;have HL2:=hid hl2;clear hxs hys hl1 hl2;obtain ⟨mx,hmx⟩:∃ mx,mx=max n m:=⟨_,rfl⟩
 have hmx1:n≤mx:=by omega
 have hmx2:m≤mx:=by omega
 have hmx3:mx≤n+m:=by omega
 have HMX:=hid hmx;clear hmx;go_enter Tryz.func140,Tryz.ntmps140;go_wp2_with fail;go_loopw [5,6,7] (fun s5 s6 s7 wr=>∃ (k c:Nat) (os:List Nat),s7= .int .i64 k∧s6= .int .i64 c∧c≤1∧k+c≤mx+1∧os.length=k∧(∀ o∈os,o < B4)∧wr.ownsRow w.heap.size 3 1 s5 k (ints .i64 os)∧Below w.heap.size w wr∧
   valB B4 os+B4^k*c=valB B4 (xs.take k)+valB B4 (ys.take k)∧(k=mx+1→B4^(k-1)≤valB B4 os)) (fun _ _ s7 _=>mx+1-(intOf s7).toNat)
 case atStart=>exact ⟨0,0,[],rfl,rfl,by omega,by omega,rfl,by simp,World.ownsRow_nil _ _ _ _,Below.refl _ _,by simp [valB],fun h=>by omega⟩
 case round=>
  obtain ⟨k,c,os,rfl,rfl,hcB,hkc,hol,hoB,hown,hb,hv,htop⟩:=hrel;have HV:=hid hv;have HOL:=hid hol;have HT:=hid htop;clear hv hol htop;have hbs:=hb.size
  by_cases hkn:k < n
  ·obtain ⟨b1,off1,x,rfl,hx,hxB,hcx⟩:=(hr.ext hb).at hkn
   have hx':x≤9999:=by have:x < 10000:=hxB;omega
   have Hx:=hid hx;clear hx hxB
   by_cases hkm:k < m
   ·obtain ⟨b2,off2,y,rfl,hy,hyB,hcy⟩:=(hs.ext hb).at hkm
    have hy':y≤9999:=by have:y < 10000:=hyB;omega
    have Hy:=hid hy;clear hy hyB;go_wp2_with (at_builtin;refine Hid.out ?_);refine hid<|wpList_app _ rfl _ _ 45 rfl w.heap.size 3 (.int .i64 0) 1 8 Tryz.underlying45 Tryz.infoInt rfl (by decide) u5 k (ints .i64 os) rfl (hown.alloc _) (some ⟨wr.heap.size,0,none⟩) 1 1 [Value.int .i64 (((c:Int)+(x:Int)+(y:Int))%10000)] rfl rfl (fun e=>nomatch e) (Nat.le_refl _) (cells_new1 _ _ _) (one_int _ _) (by unfold maxLen;omega) (by omega) (by rw [World.size_alloc];omega) fun v' w2 hown' _ hb2=>?_
    have hb3:Below w.heap.size w w2:=(hb.alloc hbs _).trans hb2;have e0:((c+x+y:Nat):Int)=((c:Int)+(x:Int)+(y:Int)):=by simp
    have e1:((c:Int)+(x:Int)+(y:Int))%10000=(((c+x+y)%10000:Nat):Int):=by rw [← e0];rfl
    rw [e1,ints_snoc] at hown';have E0:=hid e0;clear e0 e1 hown;go_wp2;go_roundw
    case rel=>
     refine ⟨k+1,(c+x+y) / 10000,os ++ [(c+x+y)%10000],by go_num,by rw [← E0.out];rfl,by omega,by omega,by rw [List.length_append,HOL.out];rfl,mem_snoc_lt hoB (Nat.mod_lt _ (by decide)),hown',hb3,?_,?_⟩
     ·exact addN_step HOL.out HV.out (valB_take_some _ Hx.out) (valB_take_some _ Hy.out)
     ·intro h;exact absurd h (by omega)
    case measure=>simp only [intOf];omega
   ·have hny:valB B4 (ys.take (k+1))=valB B4 (ys.take k):=valB_take_none _ (by rw [HL2.out];omega)
    have HNY:=hid hny;clear hny;go_wp2_with (at_builtin;refine Hid.out ?_);refine hid<|wpList_app _ rfl _ _ 45 rfl w.heap.size 3 (.int .i64 0) 1 8 Tryz.underlying45 Tryz.infoInt rfl (by decide) u5 k (ints .i64 os) rfl (hown.alloc _) (some ⟨wr.heap.size,0,none⟩) 1 1 [Value.int .i64 (((c:Int)+(x:Int))%10000)] rfl rfl (fun e=>nomatch e) (Nat.le_refl _) (cells_new1 _ _ _) (one_int _ _) (by unfold maxLen;omega) (by omega) (by rw [World.size_alloc];omega) fun v' w2 hown' _ hb2=>?_
    have hb3:Below w.heap.size w w2:=(hb.alloc hbs _).trans hb2;have e0:((c+x+0:Nat):Int)=((c:Int)+(x:Int)):=by simp
    have e1:((c:Int)+(x:Int))%10000=(((c+x+0)%10000:Nat):Int):=by rw [← e0];rfl
    rw [e1,ints_snoc] at hown';have E0:=hid e0;clear e0 e1 hown;go_wp2;go_roundw
    case rel=>
     refine ⟨k+1,(c+x+0) / 10000,os ++ [(c+x+0)%10000],by go_num,by rw [← E0.out];rfl,by omega,by omega,by rw [List.length_append,HOL.out];rfl,mem_snoc_lt hoB (Nat.mod_lt _ (by decide)),hown',hb3,?_,?_⟩
     ·exact addN_step HOL.out HV.out (valB_take_some _ Hx.out) (by rw [HNY.out];simp)
     ·intro h;exact absurd h (by omega)
    case measure=>simp only [intOf];omega
  ·have hnx:valB B4 (xs.take (k+1))=valB B4 (xs.take k):=valB_take_none _ (by rw [HL1.out];omega)
   have HNX:=hid hnx;clear hnx
   by_cases hkm:k < m
   ·obtain ⟨b2,off2,y,rfl,hy,hyB,hcy⟩:=(hs.ext hb).at hkm
    have hy':y≤9999:=by have:y < 10000:=hyB;omega
    have Hy:=hid hy;clear hy hyB;go_wp2_with (at_builtin;refine Hid.out ?_);refine hid<|wpList_app _ rfl _ _ 45 rfl w.heap.size 3 (.int .i64 0) 1 8 Tryz.underlying45 Tryz.infoInt rfl (by decide) u5 k (ints .i64 os) rfl (hown.alloc _) (some ⟨wr.heap.size,0,none⟩) 1 1 [Value.int .i64 (((c:Int)+(y:Int))%10000)] rfl rfl (fun e=>nomatch e) (Nat.le_refl _) (cells_new1 _ _ _) (one_int _ _) (by unfold maxLen;omega) (by omega) (by rw [World.size_alloc];omega) fun v' w2 hown' _ hb2=>?_
    have hb3:Below w.heap.size w w2:=(hb.alloc hbs _).trans hb2;have e0:((c+0+y:Nat):Int)=((c:Int)+(y:Int)):=by simp
    have e1:((c:Int)+(y:Int))%10000=(((c+0+y)%10000:Nat):Int):=by rw [← e0];rfl
    rw [e1,ints_snoc] at hown';have E0:=hid e0;clear e0 e1 hown;go_wp2;go_roundw
    case rel=>
     refine ⟨k+1,(c+0+y) / 10000,os ++ [(c+0+y)%10000],by go_num,by rw [← E0.out];rfl,by omega,by omega,by rw [List.length_append,HOL.out];rfl,mem_snoc_lt hoB (Nat.mod_lt _ (by decide)),hown',hb3,?_,?_⟩
     ·exact addN_step HOL.out HV.out (by rw [HNX.out];simp) (valB_take_some _ Hy.out)
     ·intro h;exact absurd h (by omega)
    case measure=>simp only [intOf];omega
   ·have hny:valB B4 (ys.take (k+1))=valB B4 (ys.take k):=valB_take_none _ (by rw [HL2.out];omega)
    have HNY:=hid hny;clear hny
    by_cases hc0:0 < c
    ·have hdn:decide (k < n)=false:=by rw [decide_eq_false_iff_not];omega
     have hdm:decide (k < m)=false:=by rw [decide_eq_false_iff_not];omega
     go_wp2_with (at_builtin;refine Hid.out ?_);refine hid ?_;refine wpList_app _ rfl _ _ 45 rfl w.heap.size 3 (.int .i64 0) 1 8 Tryz.underlying45 Tryz.infoInt rfl (by decide) u5 k (ints .i64 os) rfl (hown.alloc _) (some ⟨wr.heap.size,0,none⟩) 1 1 [Value.int .i64 ((c:Int)%10000)] rfl rfl (fun e=>nomatch e) (Nat.le_refl _) (cells_new1 _ _ _) (one_int _ _) (by unfold maxLen;omega) (by omega) (by rw [World.size_alloc];omega) fun v' w2 hown' _ hb2=>?_
     have hb3:Below w.heap.size w w2:=(hb.alloc hbs _).trans hb2;have e0:((c+0+0:Nat):Int)=(c:Int):=by simp
     have e1:(c:Int)%10000=(((c+0+0)%10000:Nat):Int):=by rw [← e0];rfl
     rw [e1,ints_snoc] at hown';have E0:=hid e0;clear e0 e1 hown;go_wp2;go_roundw
     case rel=>
      refine ⟨k+1,(c+0+0) / 10000,os ++ [(c+0+0)%10000],by go_num,by rw [← E0.out];rfl,by omega,by omega,by rw [List.length_append,HOL.out];rfl,mem_snoc_lt hoB (Nat.mod_lt _ (by decide)),hown',hb3,?_,?_⟩
      ·exact addN_step HOL.out HV.out (by rw [HNX.out];simp) (by rw [HNY.out];simp)
      ·intro h;rw [valB_snoc,HOL.out];rw [show c+0+0=c from rfl,Nat.mod_eq_of_lt (show c < 10000 by omega)];have:=Nat.mul_le_mul_left (B4^k) (show 1≤c by omega);rw [Nat.mul_one] at this;simp only [Nat.add_sub_cancel];omega
     case measure=>simp only [intOf];omega
    ·obtain rfl:c=0:=by omega
     have hmxk:mx≤k:=by have:=HMX.out;omega
     have hval:valB B4 os=M+N:=by
      have h:=HV.out;rw [List.take_of_length_le (l:=xs) (by rw [HL1.out];omega),List.take_of_length_le (l:=ys) (by rw [HL2.out];omega),HX.out,HY.out] at h;have h1:=val4_digs4 M;have h2:=val4_digs4 N;unfold val4 at h1 h2;omega
     have hfull:os=digs4 (M+N):=by
      refine digs4_full hoB hval ?_;rw [HOL.out]
      by_cases hk1:k=mx+1
      ·have h1:=HT.out hk1
       rw [hval] at h1;have:=digs4_long h1;omega
      ·have h1:=digs4_mono (show M≤M+N by omega)
       have h2:=digs4_mono (show N≤M+N by omega);rw [← HX.out,HL1.out] at h1;rw [← HY.out,HL2.out] at h2;have:=HMX.out;omega
     obtain ⟨ao',c',hu,h1,h2⟩:=own_of_ownsRow (k:= .i64) (B:=B4) (by rw [HOL.out];exact hown) hoB;rw [HOL.out] at h1 hu;rw [hfull] at h1;subst hu;clear hval hfull;go_wp2;go_ret;exact ⟨_,_,_,rfl,h1,h2,by omega,hb⟩
theorem powN_own(n:Nat)(w:World)(hn:n≤1000000):
  Calls Tryz.prog 89 #[.int .i64 (n:Int)] w fun e w'=>∃ ro k c',e= .returned (.slice ro k c')∧Rw .i64 B4 w' ro k c' (digs4 (2^n))∧k≤n+1∧Own w.heap.size w' ro c'∧Below w.heap.size w w':=by
 go_enter Tryz.func89,Tryz.ntmps89;go_wp2_with fail;have hstart:=(Blk.new w 3 (ints .i64 [1])).rw (B:=B4) (by intro y hy;rw [List.mem_singleton.1 hy];decide);have hstown:=(Blk.new w 3 (ints .i64 [1])).own (base:=w.heap.size) (n:=1) (Nat.le_refl _) (by simp [ints]);go_loopw [3,4] (fun s3 s4 wr=>∃ (k rn rc:Nat) (ro:Option Addr),k≤n∧s4= .int .i64 k∧s3= .slice ro rn rc∧Rw .i64 B4 wr ro rn rc (digs4 (2^k))∧Own w.heap.size wr ro rc∧Below w.heap.size w wr) (fun _ s4 _=>n-(intOf s4).toNat)
 case atStart=>exact ⟨0,1,1,_,Nat.zero_le _,rfl,rfl,hstart,hstown,(Below.refl _ _).alloc (Nat.le_refl _) _⟩
 case round=>
  obtain ⟨k,rn,rc,ro,hk,rfl,rfl,hrow,hown,hb⟩:=hrel;clear hstart hstown;have hlen:rn≤k+1:=by
   have h:=digs4_le (k:=k+1) (Nat.lt_of_lt_of_le (Nat.pow_lt_pow_right (by decide) (Nat.lt_succ_self k)) (Nat.pow_le_pow_left (show 2≤B4 by decide) (k+1)));rw [hrow.len] at h;exact h
  by_cases hkn:k < n
  ·go_wp2_with fail
   refine (mulAdd_own _ _ _ 2 0 _ _ (by omega) (by omega) (by omega) hrow).mono ?_;rintro e w1 ⟨ro2,k2,c2,rfl,h2,hown2,hb2⟩;have hown3:=hown2.mono hb.size;have e2:val4 (digs4 (2^k))*2+0=2^(k+1):=by rw [val4_digs4,Nat.pow_succ];rfl
   rw [e2] at h2;have hb3:=ext_trans hb hb2;clear e2 hb2 hrow hown hown2;go_wp2;go_roundw
   case rel=>exact ⟨k+1,k2,c2,ro2,by omega,by go_num,rfl,h2,hown3,hb3⟩
   case measure=>simp [intOf];omega
  ·obtain rfl:k=n:=by omega
   go_wp2;go_ret;exact ⟨_,_,_,rfl,hrow,hlen,hown,hb⟩
theorem add_any(ao bo:Option Addr)(n c m d:Nat)(xs ys:List Nat)(w:World)(hn:n≤1073741824)(hm:m≤1073741824)(hr:Rw .u32 B32 w ao n c xs)(hs:Rw .u32 B32 w bo m d ys):
  Calls Tryz.prog 164 #[.slice ao n c,.slice bo m d] w fun e w'=>∃ ro k c',e= .returned (.slice ro k c')∧Rw .u32 B32 w' ro k c' (limbs (val xs+val ys))∧Own w.heap.size w' ro c'∧Below w.heap.size w w':=by
 go_enter Tryz.func164,Tryz.ntmps164;go_wp2_with fail;refine (cut_any ao n c xs _ (by omega) hr).mono ?_;rintro e w' ⟨n1,rfl,hn1,hr1,rfl⟩;go_wp2_with fail;refine (cut_any bo m d ys _ (by omega) hs).mono ?_;rintro e w' ⟨m1,rfl,hm1,hs1,rfl⟩;go_upto_if 18 with (fail);go_cut [0,1] (fun s0 s1 wx=>∃ po pn pc PL qo qn qc QL,s0= .slice po pn pc∧s1= .slice qo qn qc∧qn≤pn∧pn≤1073741824∧Rw .u32 B32 w po pn pc PL∧Rw .u32 B32 w qo qn qc QL∧val PL+val QL=val xs+val ys∧wx=w)
 case first=>
  have h1:=val_limbs (val xs);have h2:=val_limbs (val ys)
  by_cases hlt:n1 < m1
  ·go_wp2_with fail
   go_meet;exact ⟨_,_,_,_,_,_,_,_,rfl,rfl,by omega,by omega,hs1,hr1,by omega,rfl⟩
  ·go_wp2_with fail
   go_meet;exact ⟨_,_,_,_,_,_,_,_,rfl,rfl,by omega,by omega,hr1,hs1,by omega,rfl⟩
 case rest=>
  obtain ⟨po,pn,pc,PL,qo,qn,qc,QL,rfl,rfl,hle,hbig,hp,hq,hval,rfl⟩:=hcut;have Hval:=hid hval;clear hval hr hs hr1 hs1 hn1 hm1;go_wp2_with (at_make;refine Hid.out ?_);refine hid<|wpList_mk _ rfl _ _ 34 rfl 165 (.int .u32 0) 4 Tryz.underlying34 Tryz.infoU32 rfl .i64 .i64 _ _ (pn+1) rfl rfl (by omega) (by omega) (by omega) (by unfold maxLen;omega) fun w1 hblk hbelow hlt=>?_
  obtain ⟨G,hG⟩:∃ G,G=wc.heap.size:=⟨_,rfl⟩
  rw [← hG] at hblk hlt hbelow ⊢;have HG:=hid hG;clear hG;rw [← ints_replicate] at hblk;go_wp2_with fail;go_loopw [6,27] (fun s6 s27 wr=>∃ (k cy:Nat) (os:List Nat),k≤pn∧s27= .int .i64 k∧s6= .int .u64 cy∧cy≤1∧os.length=pn+1∧(∀ o∈os,o < B32)∧Blk wr G 165 (ints .u32 os)∧Below G wc wr∧
    valB B32 (os.take k)+B32^k*cy=valB B32 (PL.take k)+valB B32 (QL.take k)) (fun _ s27 _=>pn-(intOf s27).toNat)
  case atStart=>exact ⟨0,0,List.replicate (pn+1) 0,Nat.zero_le _,rfl,rfl,by omega,by simp,(fun o ho=>by simp at ho;subst ho;decide),hblk,hbelow,by simp [valB]⟩
  case round=>
   obtain ⟨k,cy,os,hk,rfl,rfl,hcy,hol,hoB,hb,hbe,hv⟩:=hrel;have HV:=hid hv;have HOL:=hid hol;clear hv hol hblk hbelow;have hb0:=hb.lt
   by_cases hkn:k < pn
   ·obtain ⟨b1,off1,x,rfl,hx,hxB,hcx⟩:=(hp.ext (by rw [← HG.out];exact hbe)).at hkn
    have hcell:=hb.cell k (by rw [ints_length,HOL.out];omega);have hfree:=hb.free k;have hx':x < 4294967296:=hxB;have Hx:=hid hx;clear hx hxB
    by_cases hkq:k < qn
    ·obtain ⟨b2,off2,y,rfl,hy,hyB,hcy2⟩:=(hq.ext (by rw [← HG.out];exact hbe)).at hkq
     have hy':y < 4294967296:=hyB;have Hy:=hid hy;clear hy hyB;go_wp2;go_roundw
     case rel=>
      have hv:=hb.set k (.int .u32 (((x+cy+y)%4294967296:Nat):Int));rw [ints_set] at hv;refine ⟨k+1,(x+cy+y) / 4294967296,os.set k ((x+cy+y)%4294967296),by omega,by go_num,by go_num,by omega,by rw [List.length_set];exact HOL.out,mem_set_lt hoB (Nat.mod_lt _ (by decide)) k,?_,?_,?_⟩
      ·have e:((x:Int)+cy+y)%4294967296=(((x+cy+y)%4294967296:Nat):Int):=by omega
       rw [e];exact hv
      ·exact hbe.setCell (Nat.le_refl _) _
      ·exact add_step (by rw [HOL.out];omega) HV.out (valB_take_some _ Hx.out) (valB_take_some _ Hy.out)
     case measure=>simp [intOf];omega
    ·have hql:=hq.len
     have HQL:=hid hql;clear hql;go_wp2;go_roundw
     case rel=>
      have hv:=hb.set k (.int .u32 (((x+cy+0)%4294967296:Nat):Int));rw [ints_set] at hv;refine ⟨k+1,(x+cy+0) / 4294967296,os.set k ((x+cy+0)%4294967296),by omega,by go_num,by go_num,by omega,by rw [List.length_set];exact HOL.out,mem_set_lt hoB (Nat.mod_lt _ (by decide)) k,?_,?_,?_⟩
      ·have e:((x:Int)+cy)%4294967296=(((x+cy+0)%4294967296:Nat):Int):=by omega
       rw [e];exact hv
      ·exact hbe.setCell (Nat.le_refl _) _
      ·exact add_step (by rw [HOL.out];omega) HV.out (valB_take_some _ Hx.out) (by rw [valB_take_none _ (by rw [HQL.out];omega)];simp)
     case measure=>simp [intOf];omega
   ·obtain rfl:k=pn:=by omega
    have hcell:=hb.cell k (by rw [ints_length,HOL.out];omega);have hfree:=hb.free k;go_wp2_with fail;have hv:=hb.set k (.int .u32 (cy:Int));rw [ints_set] at hv;have hlt:∀ x∈os.set k cy,x < B32:=mem_set_lt hoB (by show cy < 4294967296;omega) k
    have hrow:=hv.rw hlt;rw [List.length_set,HOL.out] at hrow;refine (cut_any _ _ _ _ _ (by omega) hrow).mono ?_;rintro e w' ⟨r1,rfl,hr1,hres,rfl⟩;have hown:=hv.own (base:=G) (n:=k+1) (Nat.le_refl _) (by rw [ints_length,List.length_set,HOL.out];exact Nat.le_refl _);go_wp2;go_ret;refine ⟨_,_,_,rfl,?_,by rw [← HG.out];exact hown,by rw [← HG.out];exact hbe.setCell (Nat.le_refl _) _⟩;have hval:val (os.set k cy)=val xs+val ys:=by
     have h1:=valB_take_set B32 os k cy (by rw [HOL.out];omega);rw [valB_take_all _ (by rw [List.length_set,HOL.out])] at h1;have h2:=HV.out;rw [valB_take_all _ hp.len,List.take_of_length_le (l:=QL) (by rw [hq.len];exact hle)] at h2;rw [← Hval.out];unfold val;omega
    rw [← hval];exact hres
theorem sub_any(ao bo:Option Addr)(n c m d:Nat)(xs ys:List Nat)(w:World)(hn:n≤1073741824)(hm:m≤1073741824)(hr:Rw .u32 B32 w ao n c xs)(hs:Rw .u32 B32 w bo m d ys):
  Calls Tryz.prog 165 #[.slice ao n c,.slice bo m d] w fun e w'=>∃ ro k c',e= .returned (.tuple #[.slice ro k c',.bool (decide (val ys≤val xs))])∧Rw .u32 B32 w' ro k c' (limbs (val xs-val ys))∧Own w.heap.size w' ro c'∧Below w.heap.size w w':=by
 go_enter Tryz.func165,Tryz.ntmps165;go_wp2_with fail;refine (cut_any ao n c xs _ (by omega) hr).mono ?_;rintro e w' ⟨n1,rfl,hn1,hr1,rfl⟩;go_wp2_with fail;refine (cut_any bo m d ys _ (by omega) hs).mono ?_;rintro e w' ⟨m1,rfl,hm1,hs1,rfl⟩;go_wp2_with fail;refine (cmp_any _ _ _ _ _ _ _ _ _ (by omega) (by omega) hr1 hs1).mono ?_;rintro e w1 ⟨rfl,hw1⟩;rw [val_limbs,val_limbs];obtain ⟨z,hz⟩:∃ z,z=cmpZ (val xs) (val ys):=⟨_,rfl⟩
 rw [← hz]
 by_cases hlt:val xs < val ys
 ·have hz0:z < 0:=by rw [hz,cmpZ,if_pos (by omega)];decide
  clear hz;have hdec:decide (val ys≤val xs)=false:=by simpa using hlt
  have HD:=hid hdec;clear hdec;have hsub:val xs-val ys=0:=by omega
  have HS:=hid hsub;clear hsub;go_wp2;go_ret2;exact ⟨_,_,_,by rw [HD.out];rfl,by rw [HS.out];exact Rw.nil _ _ _,Own.nil _ _ _,hw1⟩
 ·have hz0:0≤z:=by rw [hz,cmpZ,if_neg (by omega)];split <;> decide
  clear hz;have hdec:decide (val ys≤val xs)=true:=by simpa using Nat.le_of_not_lt hlt
  have HD:=hid hdec;clear hdec;have hle:=Nat.le_of_not_lt hlt;clear hlt;have hmn:=limbs_mono hle;rw [hr1.len,hs1.len] at hmn;have hp:=hr1.ext hw1;have hq:=hs1.ext hw1;go_wp2_with (at_make;refine Hid.out ?_);refine hid<|wpList_mk _ rfl _ _ 34 rfl 165 (.int .u32 0) 4 Tryz.underlying34 Tryz.infoU32 rfl .i64 .i64 _ _ n1 rfl rfl (by omega) (by omega) (by omega) (by unfold maxLen;omega) fun w2 hblk hbelow hlt=>?_
  obtain ⟨G,hG⟩:∃ G,G=w1.heap.size:=⟨_,rfl⟩
  rw [← hG] at hblk hlt hbelow ⊢;have HG:=hid hG;clear hG;rw [← ints_replicate] at hblk;go_wp2_with fail;go_loopw [7,24] (fun s7 s24 wr=>∃ (k cy:Nat) (os:List Nat),k≤n1∧s24= .int .i64 k∧s7= .int .u64 cy∧cy≤1∧os.length=n1∧(∀ o∈os,o < B32)∧Blk wr G 165 (ints .u32 os)∧Below G w1 wr∧
    valB B32 (os.take k)+valB B32 ((limbs (val ys)).take k)=valB B32 ((limbs (val xs)).take k)+B32^k*cy) (fun _ s24 _=>n1-(intOf s24).toNat)
  case atStart=>exact ⟨0,0,List.replicate n1 0,Nat.zero_le _,rfl,rfl,by omega,by simp,(fun o ho=>by have:=(List.mem_replicate.1 ho).2;subst this;decide),hblk,hbelow,by simp [valB]⟩
  case round=>
   obtain ⟨k,cy,os,hk,rfl,rfl,hcy,hol,hoB,hb,hbe,hv⟩:=hrel;have HV:=hid hv;have HOL:=hid hol;clear hv hol hblk hbelow;have hb0:=hb.lt
   by_cases hkn:k < n1
   ·obtain ⟨b1,off1,x,rfl,hx,hxB,hcx⟩:=(hp.ext (by rw [← HG.out];exact hbe)).at hkn
    have hcell:=hb.cell k (by rw [ints_length,HOL.out];omega);have hfree:=hb.free k;have hx':x < 4294967296:=hxB;have Hx:=hid hx;clear hx hxB
    by_cases hkq:k < m1
    ·obtain ⟨b2,off2,y,rfl,hy,hyB,hcy2⟩:=(hq.ext (by rw [← HG.out];exact hbe)).at hkq
     have hy':y < 4294967296:=hyB;have Hy:=hid hy;clear hy hyB;obtain ⟨d1,b,hd1,hb1,e1,e2,e3⟩:=sub_wrap x cy y hx' hcy hy';have E1:=hid e1;have E2:=hid e2;have E3:=hid e3;clear e1 e2 e3;go_wp2;rw [E1.out,E2.out];go_roundw
     case rel=>
      have hv:=hb.set k (.int .u32 (d1:Int));rw [ints_set] at hv;exact ⟨k+1,b,os.set k d1,by omega,by go_num,rfl,hb1,by rw [List.length_set];exact HOL.out,mem_set_lt hoB hd1 k,hv,hbe.setCell (Nat.le_refl _) _,sub_step (by rw [HOL.out];omega) HV.out (valB_take_some _ Hx.out) (valB_take_some _ Hy.out) E3.out⟩
     case measure=>simp [intOf];omega
    ·have hql:=hq.len
     have HQL:=hid hql;clear hql;obtain ⟨d1,b,hd1,hb1,e1,e2,e3⟩:=sub_wrap0 x cy hx' hcy;have E1:=hid e1;have E2:=hid e2;have E3:=hid e3;clear e1 e2 e3;go_wp2;rw [E1.out,E2.out];go_roundw
     case rel=>
      have hv:=hb.set k (.int .u32 (d1:Int));rw [ints_set] at hv;exact ⟨k+1,b,os.set k d1,by omega,by go_num,rfl,hb1,by rw [List.length_set];exact HOL.out,mem_set_lt hoB hd1 k,hv,hbe.setCell (Nat.le_refl _) _,sub_step (by rw [HOL.out];omega) HV.out (valB_take_some _ Hx.out) (by rw [valB_take_none _ (by rw [HQL.out];omega)];simp) E3.out⟩
     case measure=>simp [intOf];omega
   ·obtain rfl:k=n1:=by omega
    go_wp2_with fail;have hrow:=hb.rw hoB;rw [HOL.out] at hrow;refine (cut_any _ _ _ _ _ (by omega) hrow).mono ?_;rintro e w' ⟨r1,rfl,hr1',hres,rfl⟩;have hown:=hb.own (base:=G) (n:=k) (Nat.le_refl _) (by rw [ints_length,HOL.out];exact Nat.le_refl _);go_wp2;go_ret2;refine ⟨_,_,_,by rw [HD.out];rfl,?_,(hown.mono (by rw [HG.out];exact hw1.size)),hw1.trans (hbe.mono (by rw [HG.out];exact hw1.size))⟩;have hval:val os=val xs-val ys:=by
     have h2:=HV.out;rw [valB_take_all _ hp.len,List.take_of_length_le (l:=limbs (val ys)) (by rw [hq.len];exact hmn),valB_take_all _ HOL.out] at h2;have h3:=val_lt hoB;rw [HOL.out] at h3
     change val os+val (limbs (val ys))=val (limbs (val xs))+_ at h2
     rw [val_limbs,val_limbs] at h2;have:cy=0∨cy=1:=by omega
     rcases this with rfl | rfl
     ·omega
     ·rw [Nat.mul_one] at h2;omega
    rw [← hval];exact hres
/-- One digit of a row's product. -/
theorem mul_step{B k j cy x y o R V:Nat}{ps Q:List Nat}(ho:ps[k+j]?=some o)(hv:valB B ps+B^(k+j)*cy=R+B^k*(x*V)) 
  (hQ:valB B (Q.take (j+1))=V+B^j*y):
  valB B (ps.set (k+j) ((x*y+o+cy)%B))+B^(k+(j+1))*((x*y+o+cy) / B)=R+B^k*(x*valB B (Q.take (j+1))):=by
 have h1:=valB_set B ho ((x*y+o+cy)%B);have h2:=pow_step B (k+j) (x*y+o+cy);rw [Nat.mul_add,Nat.mul_add] at h2;have h3:B^k*(x*(V+B^j*y))=B^k*(x*V)+B^(k+j)*(x*y):=by rw [Nat.pow_add];grind
 rw [hQ,h3,← Nat.add_assoc];omega
theorem mul_boundZ(x y:Nat)(hx:x < 4294967296)(hy:y < 4294967296):(x:Int)*(y:Int)≤18446744065119617025∧(0:Int)≤(x:Int)*(y:Int):=by
 have h:=Nat.mul_le_mul (show x≤4294967295 by omega) (show y≤4294967295 by omega);rw [← Int.natCast_mul];omega
theorem mul_bound(x y o c:Nat)(hx:x < 4294967296)(hy:y < 4294967296)(ho:o < 4294967296)(hc:c < 4294967296):x*y+o+c < 4294967296*4294967296∧x*y≤18446744065119617025:=by
 have h:=Nat.mul_le_mul (show x≤4294967295 by omega) (show y≤4294967295 by omega);omega
theorem mul_any(ao bo:Option Addr)(n c m d:Nat)(xs ys:List Nat)(w:World)(hn:n≤1073741824)(hm:m≤1073741824)(hr:Rw .u32 B32 w ao n c xs)(hs:Rw .u32 B32 w bo m d ys):
  Calls Tryz.prog 154 #[.slice ao n c,.slice bo m d] w fun e w'=>∃ ro k c',e= .returned (.slice ro k c')∧Rw .u32 B32 w' ro k c' (limbs (val xs*val ys))∧Own w.heap.size w' ro c'∧Below w.heap.size w w':=by
 go_enter Tryz.func154,Tryz.ntmps154;go_wp2_with fail;refine (cut_any ao n c xs _ (by omega) hr).mono ?_;rintro e w' ⟨n1,rfl,hn1,hp,rfl⟩;go_wp2_with fail;refine (cut_any bo m d ys _ (by omega) hs).mono ?_;rintro e w' ⟨m1,rfl,hm1,hq,rfl⟩;go_wp2_with (at_make;refine Hid.out ?_);refine hid ?_;refine wpList_mk _ rfl _ _ 34 rfl 165 (.int .u32 0) 4 Tryz.underlying34 Tryz.infoU32 rfl .i64 .i64 _ _ (n1+m1) rfl rfl (by omega) (by omega) (by omega) (by unfold maxLen;omega) fun w2 hblk hbelow hlt=>?_
 obtain ⟨G,hG⟩:∃ G,G=w.heap.size:=⟨_,rfl⟩
 rw [← hG] at hblk hlt hbelow ⊢;have HG:=hid hG;clear hG;rw [← ints_replicate] at hblk;generalize hA:limbs (val xs)=P at *
 generalize hB:limbs (val ys)=Q at *
 have HA:=hid hA;have HB:=hid hB;clear hA hB;have hpl:=hp.len;have hql:=hq.len;have HPL:=hid hpl;have HQL:=hid hql;clear hpl hql hr hs;go_wp2_with fail;go_loopw [24] (fun s24 wr=>∃ (k:Nat) (os:List Nat),k≤n1∧s24= .int .i64 k∧os.length=n1+m1∧(∀ o∈os,o < B32)∧(∀ j,k+m1≤j→j < n1+m1→os[j]?=some 0)∧Blk wr G 165 (ints .u32 os)∧Below G w wr∧
   valB B32 os=valB B32 (P.take k)*valB B32 Q) (fun s24 _=>n1-(intOf s24).toNat)
 case atStart=>exact ⟨0,List.replicate (n1+m1) 0,Nat.zero_le _,rfl,by simp,(fun o ho=>by have:=(List.mem_replicate.1 ho).2;subst this;decide),(fun j _ hj=>by simp [hj]),hblk,hbelow,by simp [valB,valB_replicate_zero]⟩
 case round=>
  obtain ⟨k,os,hk,rfl,hol,hoB,hz,hb,hbe,hv⟩:=hrel;have HV:=hid hv;have HOL:=hid hol;have HZ:=hid hz;clear hv hol hblk hbelow hz;have hb0:=hb.lt
  by_cases hkn:k < n1
  ·obtain ⟨b1,off1,x,rfl,hx,hxB,hcx⟩:=(hp.ext (by rw [← HG.out];exact hbe)).at hkn
   have hx':x < 4294967296:=hxB;have Hx:=hid hx;clear hx hxB;go_wp2_with fail;obtain ⟨wo,rfl⟩:∃ wo:World,wo=wr:=⟨_,rfl⟩
   go_loopw [8,31] (fun s8 s31 wr=>∃ (j cy:Nat) (ps:List Nat),j≤m1∧s31= .int .i64 j∧s8= .int .u64 cy∧cy < 4294967296∧ps.length=n1+m1∧(∀ o∈ps,o < B32)∧(∀ i,k+m1≤i→i < n1+m1→ps[i]?=some 0)∧Blk wr G 165 (ints .u32 ps)∧Below G w wr∧
     valB B32 ps+B32^(k+j)*cy=valB B32 os+B32^k*(x*valB B32 (Q.take j))) (fun _ s31 _=>m1-(intOf s31).toNat)
   case atStart=>exact ⟨0,0,os,Nat.zero_le _,rfl,rfl,by omega,HOL.out,hoB,HZ.out,hb,hbe,by simp [valB]⟩
   case round=>
    obtain ⟨j,cy,ps,hj,rfl,rfl,hcy,hpl,hpB,hpz,hb,hbe,hv⟩:=hrel;have HV2:=hid hv;have HPL2:=hid hpl;have HPZ:=hid hpz;clear hv hpl hpz
    by_cases hjm:j < m1
    ·obtain ⟨b2,off2,y,rfl,hy,hyB,hcy2⟩:=(hq.ext (by rw [← HG.out];exact hbe)).at hjm
     have hy':y < 4294967296:=hyB;have Hy:=hid hy;clear hy hyB;have hrow:=hb.rw hpB;rw [HPL2.out] at hrow;obtain ⟨o,ho,hoB',hco⟩:=hrow.cell (j:=k+j) (by omega);have ho':o < 4294967296:=hoB';rw [Nat.zero_add] at hco;have Ho:=hid ho;clear ho hoB' hrow;have hfree:=hb.free (k+j);have hmb:=mul_bound x y o cy hx' hy' ho' hcy;obtain ⟨hm1',hm2⟩:=mul_boundZ x y hx' hy';have HMB:=hid hmb;clear hmb;go_wp2;go_roundw
     case rel=>
      have hv:=hb.set (k+j) (.int .u32 (((x*y+o+cy)%4294967296:Nat):Int));rw [ints_set] at hv;have e0:((x*y+o+cy:Nat):Int)=(x:Int)*y+o+cy:=by simp
      refine ⟨j+1,(x*y+o+cy) / 4294967296,ps.set (k+j) ((x*y+o+cy)%4294967296),by omega,by go_num,?_,?_,by rw [List.length_set];exact HPL2.out,mem_set_lt hpB (Nat.mod_lt _ (by decide)) _,?_,?_,?_,?_⟩
      ·rw [← e0];rfl
      ·have:=HMB.out.1;exact Nat.div_lt_of_lt_mul this
      ·intro i h1 h2
       rw [List.getElem?_set_ne (by omega)];exact HPZ.out i h1 h2
      ·have e1:((x:Int)*y+o+cy)%4294967296=(((x*y+o+cy)%4294967296:Nat):Int):=by rw [← e0];rfl
       rw [e1];exact hv
      ·exact hbe.setCell (Nat.le_refl _) _
      ·exact mul_step Ho.out HV2.out (valB_take_some _ Hy.out)
     case measure=>simp [intOf];omega
    ·obtain rfl:j=m1:=by omega
     have hv2:=HV2.out;rw [valB_take_all B32 HQL.out] at hv2;have HV3:=hid hv2;clear hv2
     by_cases h0:j=0
     ·subst h0
      have hq0:valB B32 Q=0:=by rw [List.eq_nil_of_length_eq_zero HQL.out];rfl
      have HQ0:=hid hq0;clear hq0;go_wp2;go_roundw
      case rel=>
       refine ⟨k+1,ps,by omega,by go_num,HPL2.out,hpB,fun i h1 h2=>HPZ.out i (by omega) h2,hb,hbe,?_⟩;have h2:=HV3.out;rw [HV.out,HQ0.out] at h2;rw [HQ0.out];omega
      case measure=>simp [intOf];omega
     ·have hrow:=hb.rw hpB
      rw [HPL2.out] at hrow;have h00:=HPZ.out (k+j) (Nat.le_refl _) (by omega);have H00:=hid h00;clear h00;have hcell:=hb.cell (k+j) (by rw [ints_length,HPL2.out];omega);have hfree:=hb.free (k+j);go_wp2;go_roundw
      case rel=>
       have hv:=hb.set (k+j) (.int .u32 ((cy:Nat):Int));rw [ints_set] at hv;refine ⟨k+1,ps.set (k+j) cy,by omega,by go_num,by rw [List.length_set];exact HPL2.out,mem_set_lt hpB hcy _,?_,hv,hbe.setCell (Nat.le_refl _) _,?_⟩
       ·intro i h1 h2
        rw [List.getElem?_set_ne (by omega)];exact HPZ.out i (by omega) h2
       ·have h1:=valB_set B32 H00.out cy
        have h2:=HV3.out;have h3:=valB_take_some B32 Hx.out;rw [h3,HV.out] at *
        grind
      case measure=>simp [intOf];omega
  ·obtain rfl:k=n1:=by omega
   go_wp2_with fail;have hrow:=hb.rw hoB;rw [HOL.out] at hrow;refine (cut_any _ _ _ _ _ (by omega) hrow).mono ?_;rintro e w' ⟨r1,rfl,hr1',hres,rfl⟩;have hown:=hb.own (base:=G) (n:=k+m1) (Nat.le_refl _) (by rw [ints_length,HOL.out];exact Nat.le_refl _);go_wp2;go_ret;refine ⟨_,_,_,rfl,?_,by rw [← HG.out];exact hown,by rw [← HG.out];exact hbe⟩;have hval:val os=val xs*val ys:=by
    have h2:=HV.out;rw [valB_take_all _ HPL.out,← HA.out,← HB.out] at h2
    change val os=val (limbs (val xs))*val (limbs (val ys)) at h2
    rw [val_limbs,val_limbs] at h2;exact h2
   rw [← hval];exact hres
theorem one_any(ao:Option Addr)(n c:Nat)(xs:List Nat)(v:Nat)(w:World)(hn:n≤1073741824)(hv0:0 < v)(hvB:v < 4294967296)(hr:Rw .u32 B32 w ao n c xs):
  Calls Tryz.prog 174 #[.slice ao n c,.int .u32 v] w fun e w'=>∃ ro k c',e= .returned (.tuple #[.slice ro k c',.int .u32 ((val xs%v:Nat):Int)])∧Rw .u32 B32 w' ro k c' (limbs (val xs / v))∧Own w.heap.size w' ro c'∧Below w.heap.size w w':=by
 have hvne:((v:Int)==0)=false:=by rw [beq_eq_false_iff_ne];omega
 go_enter Tryz.func174,Tryz.ntmps174;go_wp2_with (at_make;refine Hid.out ?_);refine hid ?_;refine wpList_mk _ rfl _ _ 34 rfl 165 (.int .u32 0) 4 Tryz.underlying34 Tryz.infoU32 rfl .i64 .i64 _ _ n rfl rfl (by omega) (by omega) (by omega) (by unfold maxLen;omega) fun w2 hblk hbelow hlt=>?_
 obtain ⟨G,hG⟩:∃ G,G=w.heap.size:=⟨_,rfl⟩
 rw [← hG] at hblk hlt hbelow ⊢;have HG:=hid hG;clear hG;rw [← ints_replicate] at hblk;have hpl:=hr.len;have HPL:=hid hpl;clear hpl;go_wp2_with fail;go_loopw [7,8] (fun s7 s8 wr=>∃ (k r:Nat) (os:List Nat),k≤n∧s8= .int .i64 ((k:Int)-1)∧s7= .int .u64 r∧r < v∧os.length=n∧(∀ o∈os,o < B32)∧Blk wr G 165 (ints .u32 os)∧Below G w wr∧
   valB B32 (xs.drop k)=v*valB B32 (os.drop k)+r) (fun _ s8 _=>(intOf s8+1).toNat)
 case atStart=>exact ⟨n,0,List.replicate n 0,Nat.le_refl _,rfl,rfl,hv0,by simp,(fun o ho=>by have:=(List.mem_replicate.1 ho).2;subst this;decide),hblk,hbelow,by rw [List.drop_of_length_le (Nat.le_of_eq HPL.out),List.drop_of_length_le (by simp)];rfl⟩
 case round=>
  obtain ⟨k,r,os,hk,rfl,rfl,hrv,hol,hoB,hb,hbe,hv⟩:=hrel;have HV:=hid hv;have HOL:=hid hol;clear hv hol hblk hbelow;have hb0:=hb.lt
  by_cases h0:k=0
  ·subst h0
   have hv:=HV.out;rw [List.drop_zero,List.drop_zero] at hv;have HV2:=hid hv;clear hv HV;go_wp2_with fail;have hrow:=hb.rw hoB;rw [HOL.out] at hrow;refine (cut_any _ _ _ _ _ (by omega) hrow).mono ?_;rintro e w' ⟨r1,rfl,hr1',hres,rfl⟩;have hown:=hb.own (base:=G) (n:=n) (Nat.le_refl _) (by rw [ints_length,HOL.out];exact Nat.le_refl _);have hr4:r < 4294967296:=by omega
   go_wp2;go_ret2;have hmod:val xs%v=r:=by
    have h2:=HV2.out;unfold val;rw [h2,Nat.mul_add_mod,Nat.mod_eq_of_lt hrv]
   have hdiv:val xs / v=val os:=by
    have h2:=HV2.out;unfold val;rw [h2,Nat.mul_add_div hv0,Nat.div_eq_of_lt hrv,Nat.add_zero]
   exact ⟨_,_,_,by rw [hmod];rfl,by rw [hdiv];exact hres,by rw [← HG.out];exact hown,by rw [← HG.out];exact hbe⟩
  ·obtain ⟨j,rfl⟩:∃ j,k=j+1:=⟨k-1,by omega⟩
   obtain ⟨b1,off1,x,rfl,hx,hxB,hcx⟩:=(hr.ext (by rw [← HG.out];exact hbe)).at (show j < n by omega);have hx':x < 4294967296:=hxB;have hr':r < 4294967296:=by omega
   have Hx:=hid hx;clear hx hxB;have hcell:=hb.cell j (by rw [ints_length,HOL.out];omega);have hfree:=hb.free j;obtain ⟨s,hs⟩:∃ s:Nat,s=r*4294967296+x:=⟨_,rfl⟩
   have hor:=or_join r x hr' hx';rw [← hs] at hor;have hqB:s / v < 4294967296:=by
    rw [Nat.div_lt_iff_lt_mul hv0,hs];have:=Nat.mul_le_mul_right 4294967296 (show r+1≤v from hrv);rw [Nat.add_mul,Nat.mul_comm v] at this;omega
   obtain ⟨q,hq⟩:∃ q:Nat,q=s / v:=⟨_,rfl⟩
   obtain ⟨t,ht⟩:∃ t:Nat,t=s%v:=⟨_,rfl⟩
   have htv:t < v:=by rw [ht];exact Nat.mod_lt _ hv0
   have hqv:v*q+t=s:=by rw [hq,ht];exact Nat.div_add_mod s v
   have hq':(s:Int) / (v:Int)=(q:Int):=by rw [hq];rfl
   have ht':(s:Int)%(v:Int)=(t:Int):=by rw [ht];rfl
   rw [← hq] at hqB;have HS:=hid hs;have HQV:=hid hqv;clear hs hqv hq ht;go_wp2;go_region;go_wp2;rw [ht'];go_roundw
   case rel=>
    have hv:=hb.set j (.int .u32 (q:Int));rw [ints_set] at hv;exact ⟨j,t,os.set j q,by omega,rfl,rfl,htv,by rw [List.length_set];exact HOL.out,mem_set_lt hoB hqB j,hv.drew,(hbe.setCell (Nat.le_refl _) _).drew,small_step (by rw [HOL.out];omega) Hx.out HV.out HS.out HQV.out⟩
   case measure=>simp [intOf]
/-- A shift's number: from 0 to 65536. -/
def clampN(n:Int):Nat:=(max 0 (min n 65536)).toNat
theorem shl_any(ao:Option Addr)(n c:Nat)(xs:List Nat)(z:Int)(w:World)(hn:n≤1073741824)(hr:Rw .u32 B32 w ao n c xs):
  Calls Tryz.prog 183 #[.slice ao n c,.int .i64 z] w fun e w'=>∃ ro k c',e= .returned (.slice ro k c')∧Rw .u32 B32 w' ro k c' (limbs (val xs*2^clampN z))∧Own w.heap.size w' ro c'∧Below w.heap.size w w':=by
 go_enter Tryz.func183,Tryz.ntmps183;go_wp2_with fail;refine (cut_any ao n c xs _ (by omega) hr).mono ?_;rintro e w' ⟨n1,rfl,hn1,hp,rfl⟩;go_upto_region 2 with (fail);go_cut [1] (fun s1 wx=>s1= .int .i64 (clampN z:Nat)∧wx=w)
 case first=>
  by_cases hz0:z≤0
  ·go_wp2_with fail
   go_meet;exact ⟨by rw [show clampN z=0 by unfold clampN;omega];rfl,rfl⟩
  ·by_cases hz1:65536 < z
   ·go_wp2_with fail
    go_meet;exact ⟨by rw [show clampN z=65536 by unfold clampN;omega];rfl,rfl⟩
   ·go_wp2_with fail
    go_meet;exact ⟨by rw [show ((clampN z:Nat):Int)=z by unfold clampN;omega],rfl⟩
 case rest=>
  obtain ⟨rfl,rfl⟩:=hcut;have hzB:clampN z≤65536:=by unfold clampN;omega
  obtain ⟨zn,hzn⟩:∃ zn,zn=clampN z:=⟨_,rfl⟩
  rw [← hzn] at hzB ⊢;have HZN:=hid hzn;clear hzn;obtain ⟨kk,hkk⟩:∃ kk,kk=zn / 32:=⟨_,rfl⟩
  obtain ⟨ss,hss⟩:∃ ss,ss=zn%32:=⟨_,rfl⟩
  have hkkB:kk≤2048:=by omega
  have hssB:ss < 32:=by omega
  have hzks:zn=32*kk+ss:=by omega
  have hd1:(zn:Int) / 32=(kk:Int):=by omega
  have hd2:(zn:Int)%32=(ss:Int):=by omega
  have HZ:=hid hzks;clear hkk hss hzks
  by_cases h0:n1=0
  ·subst h0
   go_wp2;go_ret;have hx0:val xs=0:=limbs_eq_nil.1 (List.eq_nil_of_length_eq_zero hp.len);exact ⟨_,_,_,rfl,by rw [hx0,Nat.zero_mul];exact Rw.nil _ _ _,Own.nil _ _ _,Below.refl _ _⟩
  ·have hn0:((n1:Int)==0)=false:=by rw [beq_eq_false_iff_ne];omega
   go_wp2_with (at_make;refine Hid.out ?_);refine hid ?_;refine wpList_mk _ rfl _ _ 34 rfl 165 (.int .u32 0) 4 Tryz.underlying34 Tryz.infoU32 rfl .i64 .i64 _ _ (n1+kk+1) rfl rfl (by omega) (by omega) (by omega) (by unfold maxLen;omega) fun w2 hblk hbelow hlt=>?_
   obtain ⟨G,hG⟩:∃ G,G=wc.heap.size:=⟨_,rfl⟩
   rw [← hG] at hblk hlt hbelow ⊢;have HG:=hid hG;clear hG;rw [← ints_replicate] at hblk;generalize hA:limbs (val xs)=P at *
   have HA:=hid hA;clear hA hr hd1 hd2;have hpl:=hp.len;have HPL:=hid hpl;clear hpl;go_wp2_with fail;go_loopw [32] (fun s32 wr=>∃ (k:Nat) (os:List Nat),k≤n1∧s32= .int .i64 k∧os.length=n1+kk+1∧(∀ o∈os,o < B32)∧(∃ o,os[k+kk]?=some o∧o < 2^ss)∧(∀ j,k+kk < j→j < n1+kk+1→os[j]?=some 0)∧Blk wr G 165 (ints .u32 os)∧Below G wc wr∧
     valB B32 os=B32^kk*(2^ss*valB B32 (P.take k))) (fun s32 _=>n1-(intOf s32).toNat)
   case atStart=>exact ⟨0,List.replicate (n1+kk+1) 0,Nat.zero_le _,rfl,by simp,(fun o ho=>by have:=(List.mem_replicate.1 ho).2;subst this;decide),⟨0,by rw [List.getElem?_replicate,if_pos (by omega)],Nat.two_pow_pos _⟩,(fun j _ hj=>by simp [hj]),hblk,hbelow,by simp [valB,valB_replicate_zero]⟩
   case round=>
    obtain ⟨k,os,hk,rfl,hol,hoB,⟨o,ho,hoS⟩,hz,hb,hbe,hv⟩:=hrel;have HV:=hid hv;have HOL:=hid hol;have HZ0:=hid hz;have Ho:=hid ho;have HoS:=hid hoS;clear hv hol hblk hbelow hz ho hoS;have hb0:=hb.lt
    by_cases hkn:k < n1
    ·obtain ⟨b1,off1,x,rfl,hx,hxB,hcx⟩:=(hp.ext (by rw [← HG.out];exact hbe)).at hkn
     have hx':x < 4294967296:=hxB;have Hx:=hid hx;clear hx hxB;have hcell:=hb.cell (k+kk) (by rw [ints_length,HOL.out];omega);have hg:(ints .u32 os)[k+kk]'(by rw [ints_length,HOL.out];omega)= .int .u32 (o:Int):=by
      obtain ⟨h1,h2⟩:=List.getElem?_eq_some_iff.1 Ho.out;rw [ints_get,h2]
     rw [hg] at hcell;clear hg;have hfree:=hb.free (k+kk);have hcell2:=hb.cell (k+kk+1) (by rw [ints_length,HOL.out];omega);have hfree2:=hb.free (k+kk+1);obtain ⟨v,t,hi,e1,e2,e3,ht,hhi,hhiS,hvB,e4⟩:=shl_parts x ss o hx' hssB HoS.out;have E4:=hid e4;have HHS:=hid hhiS;clear e4 hhiS;go_wp2;go_roundw
     case rel=>
      have hv1:=(hb.set (k+kk) (.int .u32 (t:Int))).set (k+kk+1) (.int .u32 (hi:Int));rw [ints_set,ints_set] at hv1;refine ⟨k+1,(os.set (k+kk) t).set (k+kk+1) hi,by omega,by go_num,by rw [List.length_set,List.length_set];exact HOL.out,mem_set_lt (mem_set_lt hoB ht _) hhi _,⟨hi,?_,HHS.out⟩,?_,hv1,(hbe.setCell (Nat.le_refl _) _).setCell (Nat.le_refl _) _,?_⟩
      ·rw [show k+1+kk=k+kk+1 by omega,List.getElem?_set_self (by rw [List.length_set,HOL.out];omega)]
      ·intro j h1 h2
       rw [List.getElem?_set_ne (by omega),List.getElem?_set_ne (by omega)];exact HZ0.out j (by omega) h2
      ·exact shl_step Ho.out (HZ0.out _ (by omega) (by omega)) HV.out Hx.out E4.out
     case measure=>simp [intOf];omega
    ·obtain rfl:k=n1:=by omega
     go_wp2_with fail;have hrow:=hb.rw hoB;rw [HOL.out] at hrow;refine (cut_any _ _ _ _ _ (by omega) hrow).mono ?_;rintro e w' ⟨r1,rfl,hr1',hres,rfl⟩;have hown:=hb.own (base:=G) (n:=k+kk+1) (Nat.le_refl _) (by rw [ints_length,HOL.out];exact Nat.le_refl _);go_wp2;go_ret;refine ⟨_,_,_,rfl,?_,by rw [← HG.out];exact hown,by rw [← HG.out];exact hbe⟩;have hval:val os=val xs*2^zn:=by
      have h2:=HV.out;rw [valB_take_all _ HPL.out,← HA.out] at h2
      change val os=_*(_*val (limbs (val xs))) at h2
      rw [val_limbs] at h2;rw [h2,HZ.out,Nat.pow_add,Nat.pow_mul,show (2:Nat)^32=B32 from rfl];grind
     rw [← HZN.out,← hval];exact hres
theorem shr_any(ao:Option Addr)(n c:Nat)(xs:List Nat)(z:Int)(w:World)(hn:n≤1073741824)(hr:Rw .u32 B32 w ao n c xs):
  Calls Tryz.prog 178 #[.slice ao n c,.int .i64 z] w fun e w'=>∃ ro k c',e= .returned (.slice ro k c')∧Rw .u32 B32 w' ro k c' (limbs (val xs / 2^clampN z))∧Own w.heap.size w' ro c'∧Below w.heap.size w w':=by
 go_enter Tryz.func178,Tryz.ntmps178;go_wp2_with fail;refine (cut_any ao n c xs _ (by omega) hr).mono ?_;rintro e w' ⟨n1,rfl,hn1,hp,rfl⟩;go_upto_region 2 with (fail);go_cut [1] (fun s1 wx=>s1= .int .i64 (clampN z:Nat)∧wx=w)
 case first=>
  by_cases hz0:z≤0
  ·go_wp2_with fail
   go_meet;exact ⟨by rw [show clampN z=0 by unfold clampN;omega];rfl,rfl⟩
  ·by_cases hz1:65536 < z
   ·go_wp2_with fail
    go_meet;exact ⟨by rw [show clampN z=65536 by unfold clampN;omega];rfl,rfl⟩
   ·go_wp2_with fail
    go_meet;exact ⟨by rw [show ((clampN z:Nat):Int)=z by unfold clampN;omega],rfl⟩
 case rest=>
  obtain ⟨rfl,rfl⟩:=hcut;have hzB:clampN z≤65536:=by unfold clampN;omega
  obtain ⟨zn,hzn⟩:∃ zn,zn=clampN z:=⟨_,rfl⟩
  rw [← hzn] at hzB ⊢;have HZN:=hid hzn;clear hzn;obtain ⟨kk,hkk⟩:∃ kk,kk=zn / 32:=⟨_,rfl⟩
  obtain ⟨ss,hss⟩:∃ ss,ss=zn%32:=⟨_,rfl⟩
  have hkkB:kk≤2048:=by omega
  have hssB:ss < 32:=by omega
  have hzks:zn=32*kk+ss:=by omega
  have hd1:(zn:Int) / 32=(kk:Int):=by omega
  have hd2:(zn:Int)%32=(ss:Int):=by omega
  have HZ:=hid hzks;clear hkk hss hzks
  by_cases h0:n1≤kk
  ·go_wp2
   go_ret;have hx0:val xs / 2^clampN z=0:=by
    rw [← HZN.out,HZ.out,Nat.pow_add,Nat.pow_mul];have h1:=val_lt hp.lt;rw [val_limbs,hp.len] at h1;have h2:B32^n1≤B32^kk:=Nat.pow_le_pow_right (by decide) h0;have h3:B32^kk*1≤B32^kk*2^ss:=Nat.mul_le_mul_left _ (Nat.two_pow_pos ss);exact Nat.div_eq_of_lt (by show val xs < B32^kk*2^ss;omega)
   exact ⟨_,_,_,rfl,by rw [hx0];exact Rw.nil _ _ _,Own.nil _ _ _,Below.refl _ _⟩
  ·obtain ⟨l,hl⟩:∃ l,n1=kk+l:=⟨n1-kk,by omega⟩
   have hl0:0 < l:=by omega
   subst hl;go_wp2_with (at_make;refine Hid.out ?_);refine hid<|wpList_mk _ rfl _ _ 34 rfl 165 (.int .u32 0) 4 Tryz.underlying34 Tryz.infoU32 rfl .i64 .i64 _ _ l rfl rfl (by omega) (by omega) (by omega) (by unfold maxLen;omega) fun w2 hblk hbelow hlt=>?_
   obtain ⟨G,hG⟩:∃ G,G=wc.heap.size:=⟨_,rfl⟩
   rw [← hG] at hblk hlt hbelow ⊢;have HG:=hid hG;clear hG;rw [← ints_replicate] at hblk;generalize hA:limbs (val xs)=P at *
   have HA:=hid hA;clear hA hr hd1 hd2;have hpl:=hp.len;have HPL:=hid hpl;clear hpl;go_wp2_with fail;go_loopw [31] (fun s31 wr=>∃ (k:Nat) (os:List Nat),k≤l∧s31= .int .i64 k∧os.length=l∧(∀ o∈os,o < B32)∧Blk wr G 165 (ints .u32 os)∧Below G wc wr∧
     2^ss*valB B32 (os.take k)+(P.drop kk).getD 0 0%2^ss=valB B32 ((P.drop kk).take k)+B32^k*((P.drop kk).getD k 0%2^ss)) (fun s31 _=>l-(intOf s31).toNat)
   case atStart=>exact ⟨0,List.replicate l 0,Nat.zero_le _,rfl,by simp,(fun o ho=>by have:=(List.mem_replicate.1 ho).2;subst this;decide),hblk,hbelow,by simp [valB]⟩
   case round=>
    obtain ⟨k,os,hk,rfl,hol,hoB,hb,hbe,hv⟩:=hrel;have HV:=hid hv;have HOL:=hid hol;clear hv hol hblk hbelow;have hb0:=hb.lt
    by_cases hkn:k < l
    ·obtain ⟨b1,off1,x,rfl,hx,hxB,hcx⟩:=(hp.ext (by rw [← HG.out];exact hbe)).at (show k+kk < kk+l by omega)
     have hx':x < 4294967296:=hxB;have Hx:=hid hx;clear hx hxB;have hcell:=hb.cell k (by rw [ints_length,HOL.out];omega);have hfree:=hb.free k
     by_cases hk1:k+1 < l
     ·obtain ⟨y,hy,hyB,hcy⟩:=(hp.ext (by rw [← HG.out];exact hbe)).cell (show k+kk+1 < kk+l by omega)
      have hy':y < 4294967296:=hyB;have Hy:=hid hy;clear hy hyB;obtain ⟨q,e1,hq,e2⟩:=shr_parts x y ss hx' hy' hssB;have E1:=hid e1;have E2:=hid e2;clear e1 e2;go_wp2;rw [E1.out];go_roundw
      case rel=>
       have hv:=hb.set k (.int .u32 (q:Int));rw [ints_set] at hv;refine ⟨k+1,os.set k q,by omega,by go_num,by rw [List.length_set];exact HOL.out,mem_set_lt hoB hq k,hv,hbe.setCell (Nat.le_refl _) _,?_⟩;refine shr_step (by rw [HOL.out];omega) HV.out (x:=x) (y:=y) ?_ ?_ E2.out
       ·rw [List.getElem?_drop,Nat.add_comm];exact Hx.out
       ·rw [List.getD_eq_getElem?_getD,List.getElem?_drop,show kk+(k+1)=k+kk+1 by omega,Hy.out];rfl
      case measure=>simp [intOf];omega
     ·obtain ⟨q,e1,hq,e2⟩:=shr_parts0 x ss hx'
      have E1:=hid e1;have E2:=hid e2;clear e1 e2;go_wp2;rw [E1.out];go_roundw
      case rel=>
       have hv:=hb.set k (.int .u32 (q:Int));rw [ints_set] at hv;refine ⟨k+1,os.set k q,by omega,by go_num,by rw [List.length_set];exact HOL.out,mem_set_lt hoB hq k,hv,hbe.setCell (Nat.le_refl _) _,?_⟩;refine shr_step (by rw [HOL.out];omega) HV.out (x:=x) (y:=0) ?_ ?_ E2.out
       ·rw [List.getElem?_drop,Nat.add_comm];exact Hx.out
       ·rw [List.getD_eq_getElem?_getD,List.getElem?_drop,List.getElem?_eq_none (by rw [HPL.out];omega)];rfl
      case measure=>simp [intOf];omega
    ·obtain rfl:k=l:=by omega
     go_wp2_with fail;have hrow:=hb.rw hoB;rw [HOL.out] at hrow;refine (cut_any _ _ _ _ _ (by omega) hrow).mono ?_;rintro e w' ⟨r1,rfl,hr1',hres,rfl⟩;have hown:=hb.own (base:=G) (n:=k) (Nat.le_refl _) (by rw [ints_length,HOL.out];exact Nat.le_refl _);go_wp2;go_ret;refine ⟨_,_,_,rfl,?_,by rw [← HG.out];exact hown,by rw [← HG.out];exact hbe⟩;have hval:val os=val xs / 2^zn:=by
      have h2:=HV.out;have hdl:(P.drop kk).length=k:=by rw [List.length_drop,HPL.out];omega
      rw [valB_take_all _ HOL.out,valB_take_all _ hdl,List.getD_eq_getElem?_getD (i:=k),List.getElem?_eq_none (by omega)] at h2;simp only [Option.getD_none,Nat.zero_mod,Nat.mul_zero,Nat.add_zero] at h2;have h3:=valB_drop B32 P kk (by rw [HPL.out];omega);have h4:val P=val xs:=by rw [← HA.out,val_limbs]
      have h5:valB B32 (P.take kk) < B32^kk:=by
       have:=valB_lt (B:=B32) (xs:=P.take kk) (fun x h=>hp.lt x (List.mem_of_mem_take h));rwa [List.length_take,Nat.min_eq_left (by rw [HPL.out];omega)] at this
      have h6:(P.drop kk).getD 0 0%2^ss < 2^ss:=Nat.mod_lt _ (Nat.two_pow_pos ss);rw [HZ.out,Nat.pow_add,Nat.pow_mul,show (2:Nat)^32=B32 from rfl,← Nat.div_div_eq_div_mul,← h4]
      change val P=_ at h3
      rw [h3,Nat.add_mul_div_left _ _ (Nat.pow_pos (by decide)),Nat.div_eq_of_lt h5,Nat.zero_add,← h2,Nat.mul_add_div (Nat.two_pow_pos ss),Nat.div_eq_of_lt h6];rfl
     rw [← HZN.out,← hval];exact hres
/-- How many binary digits a number has. -/
def nbits(n:Nat):Nat:=if n=0 then 0 else n.log2+1
theorem nbits_unique{n k:Nat}(h0:2^k≤n)(h1:n < 2^(k+1)):nbits n=k+1:=by
 have hp:=Nat.two_pow_pos k;have hn:n≠0:=by omega
 rw [nbits,if_neg hn];have h2:n.log2 < k+1:=(Nat.log2_lt hn).2 h1;have h3:k≤n.log2:=(Nat.le_log2 hn).2 h0;omega
theorem nbits_lt(n:Nat):n < 2^nbits n:=by
 rw [nbits];split
 ·rename_i h;subst h;decide
 ·exact Nat.lt_log2_self
theorem nbits_le{n:Nat}(h:n≠0):2^(nbits n-1)≤n:=by
 rw [nbits,if_neg h];exact Nat.log2_self_le h
theorem nbits_pos{n:Nat}(h:n≠0):0 < nbits n:=by rw [nbits,if_neg h];omega
/-- A number over a base of 2 to the s: its digits are s and those of the upper part. -/
theorem nbits_split{n s y l:Nat}(hl:l < 2^s)(hy:y≠0)(hn:n=l+2^s*y):nbits n=s+nbits y:=by
 have h1:=nbits_lt y;have h2:=nbits_le hy;have h3:=nbits_pos hy;obtain ⟨b,hb⟩:∃ b,nbits y=b+1:=⟨nbits y-1,by omega⟩
 rw [hb] at h1 h2 ⊢;rw [Nat.add_sub_cancel] at h2;refine nbits_unique (k:=s+b) ?_ ?_
 ·rw [Nat.pow_add]
  have:=Nat.mul_le_mul_left (2^s) h2;omega
 ·rw [Nat.add_assoc,Nat.pow_add]
  have:=Nat.mul_le_mul_left (2^s) (show y+1≤2^(b+1) from h1);rw [Nat.mul_add] at this;omega
theorem nbits_le_of_lt{n k:Nat}(h:n < 2^k):nbits n≤k:=by
 by_cases h0:n=0
 ·subst h0;simp [nbits]
 ·have h1:=nbits_le h0
  have h2:2^(nbits n-1) < 2^k:=Nat.lt_of_le_of_lt h1 h;have:=(Nat.pow_lt_pow_iff_right (by decide)).1 h2;omega
/-- A table of the digits' counts: the first 256 bytes of a string. -/
def tabOk(s:ByteArray):Bool:=(List.range 256).all fun y=>(s.data[y]?).map (fun b=>b.toNat)==some (nbits y)
theorem tab_at{s:ByteArray}(h:tabOk s=true){y:Nat}(hy:y < 256):∃ b:UInt8,s[y]?=some b∧b.toNat=nbits y:=by
 have h1:=List.all_eq_true.1 h y (by simpa using hy);simp only [beq_iff_eq,Option.map_eq_some_iff] at h1;obtain ⟨b,h2,h3⟩:=h1;exact ⟨b,h2,h3⟩
/-- An index into a constant string. -/
theorem wpList_tab{P:Program}(w:World){ops:Array Oper}{rest:List Oper}{o:Oper}{a:Act}{Q:Exit→Act→World→Prop}(hgd:o.guard=none)(t:TypeId)(s:ByteArray)(x:Operand) 
  (hop:o.op= .index t (.const (.string s)) x) (ht:P.underlying t=some .string) (k:IntKind) (y:Nat) (hx:a.eval x= .int k (y:Int)) (hy:y < 256) (htab:tabOk s=true)
  (h:wpList P ops Q rest (a.put o.dst (.int .u8 (nbits y:Nat))) w):wpList P ops Q (o ::rest) a w:=by
 obtain ⟨b,hb,hn⟩:=tab_at htab hy;refine wpList_plain hgd fun K hK=>?_
 have hrun:(Instr.index t (.string s) (.int k (y:Int))).run P w= .ok (.int .u8 (nbits y:Nat)) w:=by
  unfold Instr.index;simp [run_underlying ht,asIntOf,hb,hn]
 unfold Oper.wp;have he:a.eval (.const (.string s))= .string s:=rfl;simp [execOp,hop,hx,he,hrun,Result.andThen];exact hK _ _ h
theorem len32_any(x:Nat)(w:World)(hx:x < 4294967296):
  Calls Tryz.prog 162 #[.int .u32 (x:Int)] w fun e w'=>e= .returned (.int .i64 (nbits x:Nat))∧w'=w:=by
 by_cases h1:65536≤x
 ·obtain ⟨y,hy⟩:∃ y:Nat,y=x / 65536:=⟨_,rfl⟩
  have hyB:y < 65536:=by omega
  have hq:(x:Int) / 65536=(y:Int):=by omega
  have HY:=hid hy;clear hy;have hb1:decide ((65536:Int)≤(x:Int))=true:=by rw [decide_eq_true_eq];omega
  by_cases h2:256≤y
  ·obtain ⟨z,hz⟩:∃ z:Nat,z=y / 256:=⟨_,rfl⟩
   have hzB:z < 256:=by omega
   have hq2:(y:Int) / 256=(z:Int):=by omega
   have HZ:=hid hz;clear hz;have hbits:nbits x=nbits z+24:=by
    have:=nbits_split (n:=x) (s:=24) (y:=z) (l:=x%16777216) (Nat.mod_lt _ (by decide)) (by have:=HZ.out;omega) (by have h3:=HZ.out;have h4:=HY.out;show x=x%16777216+16777216*z;omega);omega
   have HB:=hid hbits;clear hbits;have hn9:nbits z≤8:=nbits_le_of_lt hzB;go_enter Tryz.func162,Tryz.ntmps162;go_wp2_with (with_reducible refine Hid.out (p:=wpList _ _ _ ({dst:=some 16,op:=_,type:=_,pos:=_,after:=_,guard:=_} ::_) _ _) ?_);refine hid<|wpList_tab _ rfl 9 _ _ rfl Tryz.underlying9 .u8 z rfl hzB (by decide +kernel) ?_;go_wp2;go_ret;exact ⟨ret_int (by rw [HB.out];simp;omega),rfl⟩
  ·have hyB2:y < 256:=by omega
   have hy0:0 < y:=by omega
   have hb2:decide ((256:Int)≤(y:Int))=false:=by rw [decide_eq_false_iff_not];omega
   have hbits:nbits x=nbits y+16:=by
    have:=nbits_split (n:=x) (s:=16) (y:=y) (l:=x%65536) (Nat.mod_lt _ (by decide)) (by omega) (by have h4:=HY.out;show x=x%65536+65536*y;omega);omega
   have HB:=hid hbits;clear hbits;have hn9:nbits y≤8:=nbits_le_of_lt hyB2;go_enter Tryz.func162,Tryz.ntmps162;go_wp2_with (with_reducible refine Hid.out (p:=wpList _ _ _ ({dst:=some 16,op:=_,type:=_,pos:=_,after:=_,guard:=_} ::_) _ _) ?_);refine hid<|wpList_tab _ rfl 9 _ _ rfl Tryz.underlying9 .u8 y rfl hyB2 (by decide +kernel) ?_;go_wp2;go_ret;exact ⟨ret_int (by rw [HB.out];simp;omega),rfl⟩
 ·have hb1:decide ((65536:Int)≤(x:Int))=false:=by rw [decide_eq_false_iff_not];omega
  by_cases h2:256≤x
  ·obtain ⟨z,hz⟩:∃ z:Nat,z=x / 256:=⟨_,rfl⟩
   have hzB:z < 256:=by omega
   have hq2:(x:Int) / 256=(z:Int):=by omega
   have HZ:=hid hz;clear hz;have hb2:decide ((256:Int)≤(x:Int))=true:=by rw [decide_eq_true_eq];omega
   have hbits:nbits x=nbits z+8:=by
    have:=nbits_split (n:=x) (s:=8) (y:=z) (l:=x%256) (Nat.mod_lt _ (by decide)) (by have:=HZ.out;omega) (by have h3:=HZ.out;show x=x%256+256*z;omega);omega
   have HB:=hid hbits;clear hbits;have hn9:nbits z≤8:=nbits_le_of_lt hzB;go_enter Tryz.func162,Tryz.ntmps162;go_wp2_with (with_reducible refine Hid.out (p:=wpList _ _ _ ({dst:=some 16,op:=_,type:=_,pos:=_,after:=_,guard:=_} ::_) _ _) ?_);refine hid<|wpList_tab _ rfl 9 _ _ rfl Tryz.underlying9 .u8 z rfl hzB (by decide +kernel) ?_;go_wp2;go_ret;exact ⟨ret_int (by rw [HB.out];simp;omega),rfl⟩
  ·have hxB:x < 256:=by omega
   have hb2:decide ((256:Int)≤(x:Int))=false:=by rw [decide_eq_false_iff_not];omega
   have hn9:nbits x≤8:=nbits_le_of_lt hxB;go_enter Tryz.func162,Tryz.ntmps162;go_wp2_with (with_reducible refine Hid.out (p:=wpList _ _ _ ({dst:=some 16,op:=_,type:=_,pos:=_,after:=_,guard:=_} ::_) _ _) ?_);refine hid<|wpList_tab _ rfl 9 _ _ rfl Tryz.underlying9 .u8 x rfl hxB (by decide +kernel) ?_;go_wp2;go_ret;exact ⟨rfl,rfl⟩
theorem lz32_any(x:Nat)(w:World)(hx:x < 4294967296):
  Calls Tryz.prog 175 #[.int .u32 (x:Int)] w fun e w'=>e= .returned (.int .i64 ((32-nbits x:Nat):Int))∧w=w':=by
 have hn:=nbits_le_of_lt (n:=x) (k:=32) hx;go_enter Tryz.func175,Tryz.ntmps175;go_wp2_with fail;refine (len32_any x _ hx).mono ?_;rintro e w' ⟨rfl,rfl⟩;go_wp2;go_ret;exact ⟨ret_int (by omega),rfl⟩
/-- Bits: how many binary digits. -/
theorem bits_any(ao:Option Addr)(n c:Nat)(xs:List Nat)(w:World)(hn:n≤1073741824)(hr:Rw .u32 B32 w ao n c xs):
  Calls Tryz.prog 136 #[.slice ao n c] w fun e w'=>e= .returned (.int .i64 (nbits (val xs):Nat))∧w=w':=by
 go_enter Tryz.func136,Tryz.ntmps136;go_wp2_with fail;refine (cut_any ao n c xs _ (by omega) hr).mono ?_;rintro e w' ⟨n1,rfl,hn1,hp,rfl⟩
 by_cases h0:n1=0
 ·subst h0
  have hx0:val xs=0:=limbs_eq_nil.1 (List.eq_nil_of_length_eq_zero hp.len);have HX:=hid hx0;clear hx0;go_wp2;go_ret;exact ⟨by rw [HX.out];rfl,rfl⟩
 ·obtain ⟨j,rfl⟩:∃ j,n1=j+1:=⟨n1-1,by omega⟩
  obtain ⟨b1,off1,x,rfl,hx,hxB,hcx⟩:=hp.at (show j < j+1 by omega);have hx':x < 4294967296:=hxB;have hx0:x≠0:=by
   rintro rfl;have h1:=(digs_nrm B32_two (val xs)).2;rw [List.getLast?_eq_getElem?] at h1
   change (limbs (val xs))[(limbs (val xs)).length-1]?≠some 0 at h1
   rw [hp.len,Nat.add_sub_cancel] at h1;exact h1 hx
  have hbits:nbits (val xs)=32*j+nbits x:=by
   have h1:=val_limbs (val xs);have h2:=valB_take_some B32 hx;rw [valB_take_all _ hp.len] at h2
   change val (limbs (val xs))=_ at h2
   rw [h1] at h2;refine nbits_split (l:=valB B32 ((limbs (val xs)).take j)) ?_ hx0 ?_
   ·have:=valB_lt (B:=B32) (xs:=(limbs (val xs)).take j) (fun x h=>limbs_lt _ x (List.mem_of_mem_take h))
    rw [List.length_take,hp.len,Nat.min_eq_left (by omega)] at this;rw [Nat.pow_mul];exact this
   ·rw [Nat.pow_mul];exact h2
  have HB:=hid hbits;clear hbits;have hnb:=nbits_le_of_lt (n:=x) (k:=32) hx';clear hx hxB hx0;go_wp2_with fail;refine (len32_any x _ hx').mono ?_;rintro e w' ⟨rfl,rfl⟩;go_wp2;go_ret;exact ⟨ret_int (by rw [HB.out];simp;try omega),rfl⟩
theorem mulN_step{B k j cy x y o R V V':Nat}{ps:List Nat}(ho:ps[k+j]?=some o)(hv:valB B ps+B^(k+j)*cy=R+B^k*(x*V)) 
  (hQ:V'=V+B^j*y):
  valB B (ps.set (k+j) ((o+cy+x*y)%B))+B^(k+(j+1))*((o+cy+x*y) / B)=R+B^k*(x*V'):=by
 have h1:=valB_set B ho ((o+cy+x*y)%B);have h2:=pow_step B (k+j) (o+cy+x*y);rw [Nat.mul_add,Nat.mul_add] at h2;have h3:B^k*(x*(V+B^j*y))=B^k*(x*V)+B^(k+j)*(x*y):=by rw [Nat.pow_add];grind
 rw [hQ,h3,← Nat.add_assoc];omega
theorem mulN_boundZ(x y:Nat)(hx:x≤9999)(hy:y≤9999):(x:Int)*(y:Int)≤99980001∧(0:Int)≤(x:Int)*(y:Int):=by
 have h:=Nat.mul_le_mul hx hy;rw [← Int.natCast_mul];omega
theorem mulN_own(ao bo:Option Addr)(n cp m d M N:Nat)(w:World)(hn:n≤1073741824)(hm:m≤1073741824)(hr:Rw .i64 B4 w ao n cp (digs4 M))(hs:Rw .i64 B4 w bo m d (digs4 N)):
  Calls Tryz.prog 118 #[.slice ao n cp,.slice bo m d] w fun e w'=>∃ ro k c',e= .returned (.slice ro k c')∧Rw .i64 B4 w' ro k c' (digs4 (M*N))∧k≤n+m∧Own w.heap.size w' ro c'∧Below w.heap.size w w':=by
 obtain ⟨P,hxs⟩:∃ xs,xs=digs4 M:=⟨_,rfl⟩
 obtain ⟨Q,hys⟩:∃ ys,ys=digs4 N:=⟨_,rfl⟩
 rw [← hxs] at hr;rw [← hys] at hs;have hl1:=hr.len;have hl2:=hs.len;have HA:=hid hxs;have HB:=hid hys;have HPL:=hid hl1;have HQL:=hid hl2;clear hxs hys hl1 hl2;go_enter Tryz.func118,Tryz.ntmps118;go_wp2_with (at_make;refine Hid.out ?_);refine hid<|wpList_mk _ rfl _ _ 45 rfl 3 (.int .i64 0) 8 Tryz.underlying45 Tryz.infoInt rfl .i64 .i64 _ _ (n+m) rfl rfl (by omega) (by omega) (by omega) (by unfold maxLen;omega) fun w2 hblk hbelow hlt=>?_
 obtain ⟨G,hG⟩:∃ G,G=w.heap.size:=⟨_,rfl⟩
 rw [← hG] at hblk hlt hbelow ⊢;have HG:=hid hG;clear hG;rw [← ints_replicate] at hblk;go_wp2_with fail;go_loopw [18] (fun s18 wr=>∃ (k:Nat) (os:List Nat),k≤n∧s18= .int .i64 k∧os.length=n+m∧(∀ o∈os,o < B4)∧(∀ j,k+m≤j→j < n+m→os[j]?=some 0)∧Blk wr G 3 (ints .i64 os)∧Below G w wr∧
   valB B4 os=valB B4 (P.take k)*valB B4 Q) (fun s18 _=>n-(intOf s18).toNat)
 case atStart=>exact ⟨0,List.replicate (n+m) 0,Nat.zero_le _,rfl,by simp,(fun o ho=>by have:=(List.mem_replicate.1 ho).2;subst this;decide),(fun j _ hj=>by simp [hj]),hblk,hbelow,by simp [valB,valB_replicate_zero]⟩
 case round=>
  obtain ⟨k,os,hk,rfl,hol,hoB,hz,hb,hbe,hv⟩:=hrel;have HV:=hid hv;have HOL:=hid hol;have HZ:=hid hz;clear hv hol hblk hbelow hz;have hb0:=hb.lt
  by_cases hkn:k < n
  ·obtain ⟨b1,off1,x,rfl,hx,hxB,hcx⟩:=(hr.ext (by rw [← HG.out];exact hbe)).at hkn
   have hx':x≤9999:=by have:x < 10000:=hxB;omega
   have Hx:=hid hx;clear hx hxB;have hp0:Rw .i64 B4 wr (some ⟨b1,off1,none⟩) n cp P:=hr.ext (by rw [← HG.out];exact hbe);clear hcx;go_wp2_with fail;obtain ⟨wo,rfl⟩:∃ wo:World,wo=wr:=⟨_,rfl⟩
   go_loopw [7,8] (fun s7 s8 wr=>∃ (j cy:Nat) (ps:List Nat),j≤m+1∧(j=m+1→cy=0)∧s8= .int .i64 j∧s7= .int .i64 cy∧cy≤9999∧ps.length=n+m∧(∀ o∈ps,o < B4)∧(∀ i,k+m≤i→k+j≤i→i < n+m→ps[i]?=some 0)∧Blk wr G 3 (ints .i64 ps)∧Below G w wr∧
     valB B4 ps+B4^(k+j)*cy=valB B4 os+B4^k*(x*valB B4 (Q.take j))) (fun _ s8 _=>m+1-(intOf s8).toNat)
   case atStart=>exact ⟨0,0,os,Nat.zero_le _,fun h=>rfl,rfl,rfl,by omega,HOL.out,hoB,fun i h1 _ h2=>HZ.out i h1 h2,hb,hbe,by simp [valB]⟩
   case round=>
    obtain ⟨j,cy,ps,hj,hjc,rfl,rfl,hcy,hpl,hpB,hpz,hb,hbe,hv⟩:=hrel;have HV2:=hid hv;have HPL2:=hid hpl;have HPZ:=hid hpz;have HJC:=hid hjc;clear hv hpl hpz hjc;obtain ⟨x2,hx2,_,hcx⟩:=(hr.ext (by rw [← HG.out];exact hbe)).cell hkn;obtain rfl:x=x2:=by have h:=Hx.out;rw [hx2] at h;exact (Option.some.inj h).symm
    clear hx2
    by_cases hjm:j < m
    ·obtain ⟨b2,off2,y,rfl,hy,hyB,hcy2⟩:=(hs.ext (by rw [← HG.out];exact hbe)).at hjm
     have hy':y≤9999:=by have:y < 10000:=hyB;omega
     have Hy:=hid hy;clear hy hyB;have hrow:=hb.rw hpB;rw [HPL2.out] at hrow;obtain ⟨o,ho,hoB',hco⟩:=hrow.cell (j:=k+j) (by omega);have ho':o≤9999:=by have:o < 10000:=hoB';omega
     rw [Nat.zero_add] at hco;have Ho:=hid ho;clear ho hoB' hrow;have hfree:=hb.free (k+j);obtain ⟨hm1',hm2⟩:=mulN_boundZ x y hx' hy';have hmn:=Nat.mul_le_mul hx' hy';have HMN:=hid hmn;clear hmn;go_upto_region 11 with (fail);go_quiet (fail);go_wp2;go_roundw
     case rel=>
      have hv:=(hb.drewN 1).set (k+j) (.int .i64 (((o+cy+x*y)%10000:Nat):Int));rw [ints_set] at hv;have e0:((o+cy+x*y:Nat):Int)=(o:Int)+cy+x*y:=by simp
      refine ⟨j+1,(o+cy+x*y) / 10000,ps.set (k+j) ((o+cy+x*y)%10000),by omega,fun h=>absurd h (by omega),by go_num,?_,?_,by rw [List.length_set];exact HPL2.out,mem_set_lt hpB (Nat.mod_lt _ (by decide)) _,?_,?_,?_,?_⟩
      ·rw [← e0];rfl
      ·have:=HMN.out;omega
      ·intro i h1 h2 h3
       rw [List.getElem?_set_ne (by omega)];exact HPZ.out i h1 (by omega) h3
      ·have e1:((o:Int)+cy+x*y)%10000=(((o+cy+x*y)%10000:Nat):Int):=by rw [← e0];rfl
       rw [e1];exact hv
      ·exact (ext_drewN hbe _).setCell (Nat.le_refl _) _
      ·exact mulN_step Ho.out HV2.out (valB_take_some _ Hy.out)
     case measure=>simp [intOf];omega
    ·have hqm:valB B4 (Q.take (j+1))=valB B4 (Q.take j):=valB_take_none _ (by rw [HQL.out];omega)
     have HQM:=hid hqm;clear hqm
     by_cases hc0:0 < cy
     ·obtain rfl:j=m:=by
       have h:=HJC.out;have:¬ j=m+1:=fun h2=>by have:=h h2;omega
       omega
      have hrow:=hb.rw hpB;rw [HPL2.out] at hrow;obtain ⟨o,ho,hoB',hco⟩:=hrow.cell (j:=k+j) (by omega);have h00:=HPZ.out (k+j) (Nat.le_refl _) (Nat.le_refl _) (by omega);obtain rfl:o=0:=by rw [h00] at ho;exact (Option.some.inj ho).symm
      rw [Nat.zero_add] at hco;have Ho:=hid ho;clear ho hoB' hrow h00;have hfree:=hb.free (k+j);have hd:decide (j < j)=false:=by simp
      go_wp2;go_roundw
      case rel=>
       have hv:=hb.set (k+j) (.int .i64 (((0+cy+x*0)%10000:Nat):Int));rw [ints_set] at hv;have e2:(0+cy+x*0)%10000=cy:=by omega
       have e3:(0+cy+x*0) / 10000=0:=by omega
       refine ⟨j+1,(0+cy+x*0) / 10000,ps.set (k+j) ((0+cy+x*0)%10000),by omega,fun _=>e3,by go_num,?_,?_,by rw [List.length_set];exact HPL2.out,mem_set_lt hpB (Nat.mod_lt _ (by decide)) _,?_,?_,?_,?_⟩
       ·congr 1;try omega
       ·omega
       ·intro i h1 h2 h3
        rw [List.getElem?_set_ne (by omega)];exact HPZ.out i h1 (by omega) h3
       ·rw [e2] at hv ⊢
        have e4:(cy:Int)%10000=(cy:Int):=by omega
        first | exact hv | (rw [e4];exact hv)
       ·exact hbe.setCell (Nat.le_refl _) _
       ·exact mulN_step Ho.out HV2.out (by rw [HQM.out];simp)
      case measure=>(simp [intOf])
     ·obtain rfl:cy=0:=by omega
      have hd:decide (j < m)=false:=by rw [decide_eq_false_iff_not];omega
      go_wp2;go_roundw
      case rel=>
       refine ⟨k+1,ps,by omega,by go_num,HPL2.out,hpB,fun i h1 h2=>HPZ.out i (by omega) (by omega) h2,hb,hbe,?_⟩;have h2:=HV2.out;rw [List.take_of_length_le (l:=Q) (by rw [HQL.out];omega),HV.out] at h2;rw [valB_take_some _ Hx.out];have h4:(valB B4 (P.take k)+B4^k*x)*valB B4 Q=valB B4 (P.take k)*valB B4 Q+B4^k*(x*valB B4 Q):=by grind
       omega
      case measure=>simp [intOf];omega
  ·obtain rfl:k=n:=by omega
   go_wp2_with fail;have hrow:=hb.rw hoB;rw [HOL.out] at hrow;refine (rcut_any _ _ _ _ _ (by omega) hrow).mono ?_;rintro e w' ⟨r1,rfl,hr1',hres,rfl⟩;go_wp2;go_ret;refine ⟨_,_,_,rfl,?_,hr1',by rw [← HG.out];exact hb.own (Nat.le_refl _) (by rw [ints_length,HOL.out];exact Nat.le_refl _),by rw [← HG.out];exact hbe⟩;have hval:val4 os=M*N:=by
    have h2:=HV.out;rw [valB_take_all _ HPL.out,HA.out,HB.out] at h2
    change val4 os=val4 (digs4 M)*val4 (digs4 N) at h2
    rw [val4_digs4,val4_digs4] at h2;exact h2
   rw [← hval];exact hres
/-- Within: any number as one from 0 to n - 1. -/
theorem within_any(v:Int)(n:Nat)(w:World)(hn:1≤n)(hn2:n≤1000000)(hv1: -9223372036854775808≤v)(hv2:v≤9223372036854775807):
  Calls Tryz.prog 20 #[.int .i64 v,.int .i64 (n:Int)] w fun e w'=>e= .returned (.int .i64 (v%(n:Int)))∧w=w':=by
 have hn0:((n:Int)==0)=false:=by rw [beq_eq_false_iff_ne];omega
 obtain ⟨t,ht⟩:∃ t,t=v.tmod (n:Int):=⟨_,rfl⟩
 have hte:v.tmod (n:Int)=t:=ht.symm;have hb1: -(n:Int) < t∧t < n:=by
  have h1:=Int.tmod_lt_of_pos v (show (0:Int) < n by omega);have h2:=Int.lt_tmod_of_pos v (show (0:Int) < n by omega);omega
 have hem:v%(n:Int)=if t < 0 then t+n else t:=by
  have hv:v=t+n*(v.tdiv n):=by rw [ht];exact (Int.tmod_add_mul_tdiv v n).symm
  rw [hv,Int.add_mul_emod_self_left];split
  ·have h3:t%(n:Int)=(t+n)%(n:Int):=by simp
   rw [h3,Int.emod_eq_of_lt (by omega) (by omega)]
  ·rw [Int.emod_eq_of_lt (by omega) (by omega)]
 have HEM:=hid hem;clear hem ht;obtain ⟨hb1,hb2⟩:=hb1
 by_cases ht0:t < 0
 ·have hd:decide (t < 0)=true:=by simpa using ht0
  by_cases hv0:0≤v
  ·exfalso
   have:=Int.tmod_nonneg (n:Int) hv0;omega
  ·go_enter Tryz.func20,Tryz.ntmps20
   go_wp2;go_ret;exact ⟨ret_int (by rw [HEM.out,if_pos (by omega)]),rfl⟩
 ·have hd:decide (t < 0)=false:=by simpa using ht0
  by_cases hv0:0≤v
  ·have hvt:v%(n:Int)=t:=by rw [← hte,Int.tmod_eq_emod_of_nonneg hv0]
   clear HEM;go_enter Tryz.func20,Tryz.ntmps20;go_wp2;go_ret;exact ⟨rfl,rfl⟩
  ·go_enter Tryz.func20,Tryz.ntmps20
   go_wp2;go_ret;exact ⟨ret_int (by rw [HEM.out,if_neg (by omega)]),rfl⟩
end Go.Proofs.YtapmpcgekdplfaaGreat
