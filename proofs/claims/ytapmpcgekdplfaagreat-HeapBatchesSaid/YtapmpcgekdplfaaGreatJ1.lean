/-
  Laws of the program's functions by an abstract machine, part 1: joined, short spelling. No condition.
-/
import Derived.Test.YtapmpcgekdplfaaGreatJ0
set_option linter.unusedVariables false
set_option linter.unusedSimpArgs false
set_option maxRecDepth 100000
set_option maxHeartbeats 4000000
namespace Go.Proofs.YtapmpcgekdplfaaGreat
open Go.RowKit
section
open Go.RowKit Am
/-- The objects that operands speak of. -/
def JD(s:AS)(l:List Operand):List Nat:=l.filterMap fun x=>(dM s x).bind wY
theorem uU{s:AS}{l:List Operand}{x:Operand}{av:AV}{id:Nat}(hx:x∈l)(hg:dM s x=some av)(hi:wY av=some id):id∈JD s l:=
 List.mem_filterMap.2 ⟨x,hx,by rw [hg];exact hi⟩
theorem abZ{c:Call}(h:EG (.call c)=true):c.callee= .builtin .len:=by
 simp only [EG] at h;split at h
 ·assumption
 ·cases h
def ab1:Op→Bool
 | .load .. | .indexAddr .. | .store ..=>true
 | .call c=> !EG (.call c)
 | _=>false
/-- A row's length. -/
def sN(o:Option AO):Option Nat:=match unO o with
 | some (.row _ _ n _)=>some n
 | _=>none
theorem acI{o:Option AO}{n:Nat}(h:sN o=some n):∃ e sz el,unO o=some (.row e sz n el):=by
 unfold sN at h;split at h
 ·rename_i he;cases h;exact ⟨_,_,_,he⟩
 ·cases h
theorem VD{o:Option AO}{n:Nat}(h:sN o=some n):o.isSome=true:=by
 cases o with
 | none=>cases h
 | some x=>rfl
theorem AO.ahh{new ob:AO}:(AO.put new ob).un=new.un:=by
 induction ob with
 | «is» x ob ih=>exact ih
 | _=>rfl
def AO.isI:AO→Bool
 | .is _ _=>true
 | _=>false
theorem AO.akv(ob:AO):ob.un.isI=false:=by
 induction ob with
 | «is» x ob ih=>exact ih
 | _=>rfl
theorem ZX{new ob:AO}(h:new.un=new)(k:sN (some new)=sN (some ob.un)):sN (some (AO.put new ob))=sN (some ob):=by
 have h1:∀ o:AO,o.un.un=o.un:=fun o=>by
  induction o with
  | «is» x ob ih=>exact ih
  | _=>rfl
 have e1:sN (some (AO.put new ob))=sN (some new):=by unfold sN unO;simp only [AO.ahh]
 have e2:sN (some ob.un)=sN (some ob):=by unfold sN unO;simp only [h1]
 rw [e1,k,e2]
/-- A row's name. -/
def AO.isR:AO→Bool
 | .row _ _ _ _=>true
 | _=>false
def nmO:Option AO→Option Value
 | some (.is x ob)=>bif ob.isR then some x else none
 | _=>none
theorem agB{o:Option AO}{x:Value}(h:nmO o=some x):∃ e sz n el,o=some (.is x (.row e sz n el)):=by
 match o,h with
 | some (.is y (.row e sz n el)),h=>cases h;exact ⟨e,sz,n,el,rfl⟩
 | some (.is y (.box _ _)),h=>cases h
 | some (.is y (.is _ _)),h=>cases h
 | some (.is y (.sz _)),h=>cases h
theorem acv{new ob:AO}(h:new.un=new)(k:new.isR=ob.un.isR):nmO (some (AO.put new ob))=nmO (some ob):=by
 have hn:new.isI=false:=h▸AO.akv new;cases ob with
 | box t cs=>cases new <;> first | rfl | cases hn
 | row e sz n el=>cases new <;> first | rfl | cases hn
 | sz k=>cases new <;> first | rfl | cases hn
 | «is» x o=>
  cases o with
  | «is» y o=>rfl
  | box t cs=>show (bif new.isR then some x else none)=_;rw [k];rfl
  | row e sz n el=>show (bif new.isR then some x else none)=_;rw [k];rfl
  | sz q=>show (bif new.isR then some x else none)=_;rw [k];rfl
/-- What stores leave of an object: its length, its name. -/
def JW(o:Option AO):Option Nat×Option Value:=(sN o,nmO o)
theorem Un{new ob:AO}(h:new.un=new)(k:sN (some new)=sN (some ob.un))(k2:new.isR=ob.un.isR):JW (some (AO.put new ob))=JW (some ob):=by unfold JW;rw [ZX h k,acv h k2]
/-- The objects that such an operation speaks of. -/
def pJ(s:AS)(op:Op):List Nat:=bif ab1 op then JD s op.operands.toList else []
theorem abW{s:AS}{op:Op}{id:Nat}(h:id∈pJ s op):id∈JD s op.operands.toList:=by
 unfold pJ at h;cases e:ab1 op with
 | true=>rw [e] at h;exact h
 | false=>rw [e] at h;cases h
theorem FK{s:AS}{op:Op}{id:Nat}(hr:ab1 op=true)(h:id∈JD s op.operands.toList):id∈pJ s op:=by
 unfold pJ;rw [hr];exact h
section
variable {P:Program} {T:TypeId→Option TI} {ops:Array Oper} {s s':AS} {o:Oper} {Q:Qs}
theorem Gz{op:Op}(hnl:EG op=false)(h:∀ x∈op.operands,dM s x=dM s' x)(hh:∀ id∈pJ s op,lk s.hp id=lk s'.hp id):jg T s op=jg T s' op:=by
 have key:ab1 op=true→∀ x∈op.operands,∀ av id,dM s x=some av→wY av=some id→lk s.hp id=lk s'.hp id:=fun hr x hx av id hg hi=>hh id (FK hr (uU (by simpa using hx) hg hi))
 have e1:jg T s op=jg T ⟨s.n,s.sl,s'.hp⟩ op:=by
  have g:∀ x,dM s x=dM ⟨s.n,s.sl,s'.hp⟩ x:=fun x=>by cases x with | const v=>cases v <;> rfl | _=>rfl
  have hint:∀ x,jW s x=jW ⟨s.n,s.sl,s'.hp⟩ x:=fun x=>by unfold jW;rw [g x]
  cases op with
  | load t x=>
   simp only [jg];rw [← g x];split
   ·rfl
   ·split
    ·rename_i id off hx;unfold V4;rw [key rfl x (by simp [Op.operands]) _ id hx rfl]
    ·rename_i id sz i j hx;unfold V4;rw [key rfl x (by simp [Op.operands]) _ id hx rfl]
    ·rfl
    ·rfl
  | indexAddr t x ix=>
   simp only [jg];rw [← g x,← hint ix];split
   ·rfl
   ·split
    ·rfl
    ·split
     ·split
      ·rfl
      ·rename_i id hx;unfold V4;rw [key rfl x (by simp [Op.operands]) _ id hx rfl]
      ·rfl
     ·rfl
  | call c=>
   have hl:wV s c.args.toList=wV ⟨s.n,s.sl,s'.hp⟩ c.args.toList:=pI _ fun x _=>g x
   simp only [jg];rw [hl];split
   ·split
    ·rename_i x t ha ht
     rw [← g x];split
     ·rfl
     ·split
      ·rfl
      ·rfl
      ·rfl
      ·rename_i id he hx
       unfold V4;rw [key (by show (!EG (.call c))=true;rw [hnl];rfl) x (by simp only [Op.operands,Call.operands];exact Array.mem_append.2 (Or.inr (by have:x∈c.args.toList:=(by rw [ha];simp);simpa using this))) _ id hx rfl]
      ·rfl
    ·rfl
   ·rfl
   ·rfl
   ·rfl
  | move x=>exact g x
  | assign x=>exact g x
  | pick c a b=>simp only [jg];rw [g c,g a,g b]
  | binOp op t x y yt=>simp only [jg];rw [g x,g y]
  | unOp op t x=>simp only [jg];rw [g x]
  | convert src dst x=>simp only [jg];rw [g x]
  | fieldAddr t x f=>simp only [jg];rw [g x]
  | field t x f=>simp only [jg];rw [g x]
  | extract x i=>simp only [jg];rw [g x]
  | slice t x lo hi mx=>
   cases mx with
   | some m=>rfl
   | none=>
    have hlo:∀ y d,qg s y d=qg ⟨s.n,s.sl,s'.hp⟩ y d:=by
     intro y d;cases y with
     | none=>rfl
     | some y=>simp only [qg];rw [hint y]
    simp only [jg,← g x,← hlo]
  | build t ps=>
   simp only [jg];rw [sZ ps.toList (fun p _=>g p.2)]
  | makeFunc fn fi caps=>
   have hl:=pI caps.toList (fun x _=>g x);cases fn <;> first | rfl | (simp only [jg];rw [hl])
  | _=>rfl
 rw [e1];refine DZ rfl (fun x hx=>?_);rw [← h x hx];cases x with
 | const v=>cases v <;> rfl
 | _=>rfl
theorem abG{op:Op}{av:AV}(hl:EG op=true)(h:∀ x∈op.operands,dM s x=dM s' x)(hh:∀ id∈JD s op.operands.toList,∀ n,sN (lk s.hp id)=some n→sN (lk s'.hp id)=some n)(he:jg T s op=some av):jg T s' op=some av:=by
 cases op with
 | call c=>
  have hc:=abZ hl;simp only [jg,hc] at he ⊢;split at he
  ·rename_i x t ha ht
   have hx:x∈(Op.call c).operands:=(by simp only [Op.operands,Call.operands];exact Array.mem_append.2 (Or.inr (by have:x∈c.args.toList:=(by rw [ha];simp);simpa using this)));rw [← h x hx];split at he
   ·cases he
   ·rename_i ti hti
    cases hel:ti.elem with
    | none=>rw [hel] at he;simp at he
    | some e=>
     rw [hel] at he;cases hg:dM s x with
     | none=>rw [hg] at he;simp at he
     | some gv=>
      rw [hg] at he;cases gv with
      | own id=>
       simp only at he ⊢;split at he
       ·rename_i e0 sz0 n0 el0 hlk
        obtain ⟨e1,sz1,el1,h1⟩:=acI (hh id (uU (by simpa using hx) hg rfl) n0 (by unfold sN;rw [show unO (lk s.hp id)=_ from hlk]));rw [show V4 s'.hp id=_ from h1];exact he
       ·cases he
      | d dv=>
       cases dv with
       | agg ls=>simp at he
       | one l=>
        cases l with
        | v x=>cases x <;> first | exact he | (simp at he;done)
        | _=>first | exact he | (simp at he;done)
      | _=>simp at he
  ·cases he
 | _=>cases hl
theorem QN{op:Op}(h:∀ x∈op.operands,dM s x=dM s' x)(hh:∀ id∈pJ s op,lk s.hp id=lk s'.hp id):VW T s op=VW T s' op:=by
 cases op with
 | store t x y=>
  have hx:=h x (by simp [Op.operands]);have hy:=h y (by simp [Op.operands]);have key:∀ av id,dM s x=some av→wY av=some id→lk s.hp id=lk s'.hp id:=fun av id hg hi=>hh id (FK rfl (uU (x:=x) (by simp [Op.operands]) hg hi))
  simp only [VW];rw [← hx,← hy];split
  ·rfl
  ·split
   ·rename_i id off d hgx hgy;unfold lkP;rw [key _ id hgx rfl]
   ·rename_i id sz i d hgx hgy;unfold lkP;rw [key _ id hgx rfl]
   ·rfl
 | _=>rfl
def uX:Op→Bool
 | .store ..=>true
 | _=>false
def Lh:Op→Bool
 | .alloc .. | .box .. | .makeSlice ..=>true
 | _=>false
theorem X4{op:Op}{id:Nat}{ob:AO}(h:VW T s op=some (id,ob)):uX op=true∧id∈pJ s op∧(lk s.hp id).isSome=true∧JW (some ob)=JW (lk s.hp id):=by
 cases op with
 | store t x y=>
  refine ⟨rfl,?_⟩;simp only [VW] at h;split at h
  ·cases h
  ·split at h
   ·rename_i id' off d hgx hgy
    split at h
    ·rename_i hlk
     split at h
     ·simp only [Option.some.injEq,Prod.mk.injEq] at h;obtain ⟨rfl,rfl⟩:=h;obtain ⟨q1,q2⟩:=H6 hlk;exact ⟨FK rfl (uU (x:=x) (by simp [Op.operands]) hgx rfl),by rw [q1];rfl,by rw [q1];exact Un rfl (by rw [q2];rfl) (by rw [q2];rfl)⟩
     ·cases h
    ·cases h
   ·rename_i id' sz i d hgx hgy
    split at h
    ·rename_i hlk
     split at h
     ·simp only [Option.some.injEq,Prod.mk.injEq] at h;obtain ⟨rfl,rfl⟩:=h;obtain ⟨q1,q2⟩:=H6 hlk;exact ⟨FK rfl (uU (x:=x) (by simp [Op.operands]) hgx rfl),by rw [q1];rfl,by rw [q1];exact Un rfl (by rw [q2];rfl) (by rw [q2];rfl)⟩
     ·cases h
    ·cases h
   ·cases h
 | _=>simp [VW] at h
theorem X3{op:Op}{ob:AO}(h:U5 T s op=some ob):Lh op=true:=by
 cases op <;> first | rfl | simp [U5] at h
/-- Does the operation wait for that one, or for one that does? -/
def Iu(ops:Array Oper):Nat→Oper→Nat→Bool
 | 0,_,_=>false
 | f+1,o,k=>kW o k || o.after.toList.any fun e=>Region.binds .any e && match ops[e.on]? with
  | some o'=>Iu ops f o' k
  | none=>false
theorem Iw{ops:Array Oper}{D:Nat→Prop}(hcl:∀ k ok,ops[k]?=some ok→D k→∀ j,kW ok j=true→D j):∀ (f:Nat) (o:Oper) (k:Nat),(∀ j,kW o j=true→D j)→Iu ops f o k=true→D k
 | 0,_,_,_,h=>by cases h
 | f+1,o,k,hw,h=>by
  rw [Iu,Bool.or_eq_true] at h;rcases h with h | h
  ·exact hw k h
  ·obtain ⟨e,he,h2⟩:=List.any_eq_true.1 h
   rw [Bool.and_eq_true] at h2;obtain ⟨hb,h3⟩:=h2;split at h3
   ·rename_i o' dX
    have hDe:D e.on:=hw e.on (List.any_eq_true.2 ⟨e,he,by rw [hb];exact beq_self_eq_true _⟩);exact Iw hcl f o' k (hcl _ _ dX hDe) h3
   ·cases h3
/-- Does the operation wait for those with which it may not change places? -/
def NQ(ops:Array Oper)(log:List (Nat×List Nat×Bool))(o:Oper)(ids:List Nat):Bool:=
 (log.all fun q=> !(uX o.op || q.2.2) || ids.all (fun id=> !(q.2.1).contains id) || Iu ops 6 o q.1) &&
 (!Lh o.op || match o.dst with
  | some d=>log.all fun q=> !(q.2.1).contains d
  | none=>true)
inductive J5 (P:Program) (T:TypeId→Option TI) (ops:Array Oper) (K:AS→Prop):Nat→List (Nat×List Nat×Bool)→List Oper→AS→Prop
 | nil {i:Nat} {log:List (Nat×List Nat×Bool)} {s:AS} (h:K s):J5 P T ops K i log [] s
 | cons {i:Nat} {log:List (Nat×List Nat×Bool)} {o:Oper} {l:List Oper} {s s1:AS} (h:aB P T ops o s s1) (hc:NQ ops log o (pJ s o.op)=true) (k:J5 P T ops K (i+1) ((i,pJ s o.op,uX o.op) ::log) l s1):J5 P T ops K i log (o ::l) s
abbrev V3(st:Nat→AS)(i:Nat)(o:Oper):List Nat:=pJ (st i) o.op
theorem J5.st{K:AS→Prop}{i0:Nat}{log:List (Nat×List Nat×Bool)}{l:List Oper}(h:J5 P T ops K i0 log l s):∃ st:Nat→AS,st 0=s∧K (st l.length)∧(∀ (i:Nat) (o:Oper),l[i]?=some o→aB P T ops o (st i) (st (i+1)))∧
  (∀ (i:Nat) (o:Oper),l[i]?=some o→∀ q∈log,(uX o.op=true∨q.2.2=true)→∀ id∈V3 st i o,id∈q.2.1→Iu ops 6 o q.1=true)∧
  (∀ (i:Nat) (o:Oper),l[i]?=some o→Lh o.op=true→∀ d,o.dst=some d→∀ q∈log,¬ d∈q.2.1)∧
  (∀ (i:Nat) (o:Oper) (k:Nat) (ok:Oper),k < i→l[i]?=some o→l[k]?=some ok→(uX o.op=true∨uX ok.op=true)→∀ id∈V3 st i o,id∈V3 st k ok→Iu ops 6 o (i0+k)=true)∧
  (∀ (i:Nat) (o:Oper) (k:Nat) (ok:Oper),k < i→l[i]?=some o→l[k]?=some ok→Lh o.op=true→∀ d,o.dst=some d→¬ d∈V3 st k ok):=by
 induction h with
 | nil h=>exact ⟨fun _=>_,rfl,h,by simp,by simp,by simp,by simp,by simp⟩
 | @cons i0 log o l s s1 h hc k ih=>
  obtain ⟨st,h1,h2,h3,h4,h5,h6,h7⟩:=ih;simp only [NQ,Bool.and_eq_true,Bool.or_eq_true,List.all_eq_true] at hc;obtain ⟨hc1,hc2⟩:=hc;refine ⟨fun i=>match i with | 0=>s | i+1=>st i,rfl,h2,?_,?_,?_,?_,?_⟩
  ·intro i o' ho
   cases i with
   | zero => obtain rfl : o = o' := by simpa using ho
             show aB P T ops o s (st 0); rw [h1]; exact h
   | succ i=>exact h3 i o' (by simpa using ho)
  ·intro i o' ho q hq hst id aS ajg
   cases i with
   | zero=>
    obtain rfl:o=o':=by simpa using ho
    rcases hc1 q hq with (h8 | h8) | h8
    ·exfalso;rcases hst with e | e <;> simp [e] at h8
    ·exfalso
     have h9:=h8 id aS;simp at h9;exact h9 ajg
    ·exact h8
   | succ i=>exact h4 i o' (by simpa using ho) q (List.mem_cons_of_mem _ hq) hst id aS ajg
  ·intro i o' ho hnw d hd q hq
   cases i with
   | zero=>
    obtain rfl:o=o':=by simpa using ho
    rcases hc2 with h8 | h8
    ·rw [hnw] at h8;cases h8
    ·rw [hd] at h8
     have h9:=List.all_eq_true.1 h8 q hq;simpa using h9
   | succ i=>exact h5 i o' (by simpa using ho) hnw d hd q (List.mem_cons_of_mem _ hq)
  ·intro i o' k' ok hk ho hok hst id aS ajf
   cases i with
   | zero=>omega
   | succ i=>
    cases k' with
    | zero=>
     obtain rfl:o=ok:=by simpa using hok
     exact h4 i o' (by simpa using ho) (i0,pJ s o.op,uX o.op) (List.mem_cons_self ..) hst id aS ajf
    | succ k'=>
     have:=h6 i o' k' ok (by omega) (by simpa using ho) (by simpa using hok) hst id aS ajf;rwa [show i0+1+k'=i0+(k'+1) by omega] at this
  ·intro i o' k' ok hk ho hok hnw d hd
   cases i with
   | zero=>omega
   | succ i=>
    cases k' with
    | zero=>
     obtain rfl:o=ok:=by simpa using hok
     exact h5 i o' (by simpa using ho) hnw d hd (i0,pJ s o.op,uX o.op) (List.mem_cons_self ..)
    | succ k'=>exact h7 i o' k' ok (by omega) (by simpa using ho) (by simpa using hok) hnw d hd
/-- What an operation does to slots and objects. -/
theorem aB.shape2(h:aB P T ops o s s'):s'.n=s.n∧(∀ d,o.dst=some d→s'.sl=(d,EU s') ::s.sl)∧(o.dst=none→s'.sl=s.sl)∧
  ∃ wr:Option (Nat×AO),s'.hp=wr.toList ++s.hp∧∀ p,wr=some p→(Lh o.op=true∧o.dst=some p.1∧lk s.hp p.1=none)∨(uX o.op=true∧p.1∈pJ s o.op∧(lk s.hp p.1).isSome=true∧JW (some p.2)=JW (lk s.hp p.1)):=by
 have put:∀ av,(s.put o.dst av).n=s.n∧(∀ d,o.dst=some d→(s.put o.dst av).sl=(d,EU (s.put o.dst av)) ::s.sl)∧(o.dst=none→(s.put o.dst av).sl=s.sl)∧
   ∃ wr:Option (Nat×AO),(s.put o.dst av).hp=wr.toList ++s.hp∧∀ p,wr=some p→(Lh o.op=true∧o.dst=some p.1∧lk s.hp p.1=none)∨(uX o.op=true∧p.1∈pJ s o.op∧(lk s.hp p.1).isSome=true∧JW (some p.2)=JW (lk s.hp p.1)):=by
  intro av;cases hd:o.dst with
  | none=>exact ⟨rfl,fun d h=>(by cases h),fun _=>rfl,none,rfl,fun p h=>(by cases h)⟩
  | some d=>exact ⟨rfl,fun d' h=>(by cases h;rfl),fun h=>(by cases h),none,rfl,fun p h=>(by cases h)⟩
 cases h with
 | V av h hg hk=>exact put av
 | B av h hg hk=>exact put av
 | X av h hg hk=>exact put av
 | Y x tw id h hw hi hn ho hl hg hk=>exact put _
 | G hg hk=>exact put .dead
 | C h hc hf ha hg hk=>exact put _
 | N ob h d hdst hfr hg hk=>
  refine ⟨rfl,fun d' h'=>(by rw [hdst] at h';cases h';rfl),fun h'=>(by rw [hdst] at h';cases h'),some (d,ob),rfl,fun p hp=>Or.inl ?_⟩;cases hp
  exact ⟨X3 h,hdst,hfr⟩
 | S id ob h hdst hg=>
  refine ⟨rfl,fun d' h'=>(by rw [hdst] at h';cases h'),fun _=>rfl,some (id,ob),rfl,fun p hp=>Or.inr ?_⟩;cases hp
  exact X4 h
open Classical in
noncomputable def zB(hp:List (Nat×AO))(wr:Nat→Option (Nat×AO))(D:Nat→Prop):Nat→List (Nat×AO)
 | 0=>hp
 | m+1=>if D m then (wr m).toList ++zB hp wr D m else zB hp wr D m
theorem wE{hp:List (Nat×AO)}{wr:Nat→Option (Nat×AO)}{D:Nat→Prop}{m:Nat}(h:D m):zB hp wr D (m+1)=(wr m).toList ++zB hp wr D m:=if_pos h
theorem wC{hp:List (Nat×AO)}{wr:Nat→Option (Nat×AO)}{D:Nat→Prop}{m:Nat}(h:¬ D m):zB hp wr D (m+1)=zB hp wr D m:=if_neg h
theorem yY{hp:List (Nat×AO)}{wr:Nat→Option (Nat×AO)}{D D':Nat→Prop}:∀ {m:Nat},(∀ k,k < m→(D k↔D' k))→zB hp wr D m=zB hp wr D' m
 | 0,_=>rfl
 | m+1,h=>by
  have ih:=yY (hp:=hp) (wr:=wr) (m:=m) fun k hk=>h k (by omega)
  by_cases e:D m
  ·rw [wE e,wE ((h m (by omega)).1 e),ih]
  ·rw [wC e,wC (fun e'=>e ((h m (by omega)).2 e')),ih]
theorem Ad{hp:List (Nat×AO)}{wr:Nat→Option (Nat×AO)}{D D':Nat→Prop}{id:Nat}:∀ {m:Nat},(∀ k p,k < m→wr k=some p→p.1=id→(D k↔D' k))→lk (zB hp wr D m) id=lk (zB hp wr D' m) id
 | 0,_=>rfl
 | m+1,h=>by
  have ih:=Ad (hp:=hp) (wr:=wr) (m:=m) fun k p hk=>h k p (by omega)
  have one:∀ (E:Nat→Prop),(∀ p,wr m=some p→p.1≠id)→lk (zB hp wr E (m+1)) id=lk (zB hp wr E m) id:=by
   intro E hne
   by_cases e:E m
   ·rw [wE e]
    cases hw:wr m with
    | none=>rfl
    | some p=>
     obtain ⟨a,b⟩:=p;show lk ((a,b) ::zB hp wr E m) id=_
     rw [aV,if_neg (hne (a,b) hw)]
   ·rw [wC e]
  by_cases hw:∃ p,wr m=some p∧p.1=id
  ·obtain ⟨p,hp1,hp2⟩:=hw
   have hiff:=h m p (by omega) hp1 hp2
   by_cases e:D m
   ·rw [wE e,wE (hiff.1 e),hp1]
    show lk ((p.1,p.2) ::_) id=lk ((p.1,p.2) ::_) id
    rw [aV,aV,if_pos hp2,if_pos hp2]
   ·rw [wC e,wC (fun e'=>e (hiff.2 e')),ih]
  ·have hne:∀ p,wr m=some p→p.1≠id:=fun p h1 h2=>hw ⟨p,h1,h2⟩
   rw [one D hne,one D' hne,ih]
theorem fU.lkc{ρ:nD}{B0:BS}{w0:Wz}{w:World}{hp hp':List (Nat×AO)}(h:fU ρ B0 w0 w hp)(hl:∀ id,(∃ v,ρ id=some v)→lk hp id=lk hp' id):fU ρ B0 w0 w hp':=
 ⟨h.bel,h.b0,fun id v hv=>by rw [← hl id ⟨v,hv⟩];exact h.obj id v hv,h.dist⟩
/-- The states on the way. -/
structure Ny(ops:Array Oper)(l:List Oper)(n:Nat)(st:Nat→AS)(wr:Nat→Option (Nat×AO)):Prop where
 nn:∀ i:Nat,i≤n→(st i).n=(st 0).n
 at1:∀ i,i≤n→∀ t k o,k < i→l[k]?=some o→o.dst=some t→lk (st i).sl t=some (EU (st (k+1)))
 at2:∀ i,i≤n→∀ t,(∀ k o,k < i→l[k]?=some o→o.dst≠some t)→lk (st i).sl t=lk (st 0).sl t
 hp:∀ i,i≤n→zB (st 0).hp wr (fun k=>k < i) n=(st i).hp
 wrs:∀ i o p,i < n→l[i]?=some o→wr i=some p→(Lh o.op=true∧o.dst=some p.1∧lk (st i).hp p.1=none)∨(uX o.op=true∧p.1∈V3 st i o∧(lk (st i).hp p.1).isSome=true∧JW (some p.2)=JW (lk (st i).hp p.1))
 up:∀ i,i < n→(st (i+1)).hp=(wr i).toList ++(st i).hp
 grow:∀ i,i≤n→∀ id,(lk (st 0).hp id).isSome=true→(lk (st i).hp id).isSome=true
theorem anJ{l:List Oper}{n:Nat}{st:Nat→AS}(hl:n≤l.length)(hone:∀ i k oi ok d,i < n→k < n→l[i]?=some oi→l[k]?=some ok→k≠i→ok.dst=some d→oi.dst≠some d)(h:∀ i o,i < n→l[i]?=some o→aB P T ops o (st i) (st (i+1))):∃ wr,Ny ops l n st wr:=by
 have step:∀ i,∃ wr:Option (Nat×AO),i < n→(st (i+1)).n=(st i).n∧(∀ o,l[i]?=some o→(∀ d,o.dst=some d→(st (i+1)).sl=(d,EU (st (i+1))) ::(st i).sl)∧(o.dst=none→(st (i+1)).sl=(st i).sl))∧(st (i+1)).hp=wr.toList ++(st i).hp∧
   ∀ o p,l[i]?=some o→wr=some p→(Lh o.op=true∧o.dst=some p.1∧lk (st i).hp p.1=none)∨(uX o.op=true∧p.1∈V3 st i o∧(lk (st i).hp p.1).isSome=true∧JW (some p.2)=JW (lk (st i).hp p.1)):=by
  intro i
  by_cases hi:i < n
  ·have ho:l[i]?=some (l[i]'(by omega)):=by simp
   obtain ⟨h1,h2,h3,wr,h4,h5⟩:=(aB.shape2 (h i _ hi ho));refine ⟨wr,fun _=>⟨h1,fun o dX=>?_,h4,fun o p dX hp=>?_⟩⟩
   ·rw [ho] at dX;cases dX;exact ⟨h2,h3⟩
   ·rw [ho] at dX;cases dX;exact h5 p hp
  ·exact ⟨none,fun h=>absurd h hi⟩
 obtain ⟨wr,hw⟩:=Classical.skolem.1 step;have up:∀ i,i < n→(st (i+1)).hp=(wr i).toList ++(st i).hp:=fun i hi=>(hw i hi).2.2.1
 have hat:∀ i,i≤n→∀ t,(∀ k o,k < i→l[k]?=some o→o.dst=some t→lk (st i).sl t=some (EU (st (k+1))))∧((∀ k o,k < i→l[k]?=some o→o.dst≠some t)→lk (st i).sl t=lk (st 0).sl t):=by
  intro i
  induction i with
  | zero=>intro _ t;exact ⟨fun k o hk=>absurd hk (Nat.not_lt_zero _),fun _=>rfl⟩
  | succ i ih=>
   intro hi t;obtain ⟨ih1,ih2⟩:=ih (by omega) t;have ho:l[i]?=some (l[i]'(by omega)):=by simp
   obtain ⟨hs1,hs2⟩:=(hw i (by omega)).2.1 _ ho;cases hd:(l[i]'(by omega)).dst with
   | none=>
    rw [hs2 hd];refine ⟨fun k o hk hko hkd=>?_,fun hno=>ih2 fun k o hk hko=>hno k o (by omega) hko⟩
    by_cases hki:k=i
    ·subst hki;rw [ho] at hko;cases hko;rw [hd] at hkd;cases hkd
    ·exact ih1 k o (by omega) hko hkd
   | some d=>
    rw [hs1 d hd,aV];refine ⟨fun k o hk hko hkd=>?_,fun hno=>?_⟩
    ·by_cases hki:k=i
     ·subst hki;rw [ho] at hko;cases hko;rw [hd] at hkd;cases hkd;rw [if_pos rfl]
     ·rw [if_neg (fun e=>hone i k _ o t (by omega) (by omega) ho hko hki hkd (by rw [hd,e]))]
      exact ih1 k o (by omega) hko hkd
    ·rw [if_neg (fun e=>hno i _ (by omega) ho (by rw [hd,e]))]
     exact ih2 (fun k o hk hko=>hno k o (by omega) hko)
 have hp1:∀ i,i≤n→∀ m,m≤n→zB (st 0).hp wr (fun k=>k < i) m=(st (min i m)).hp:=by
  intro i hi m
  induction m with
  | zero=>intro _;rw [Nat.min_zero];rfl
  | succ m ih=>
   intro hm
   by_cases e:m < i
   ·rw [wE (D:=fun k=>k < i) e,ih (by omega),Nat.min_eq_right (by omega),Nat.min_eq_right (by omega),up m (by omega)]
   ·rw [wC (D:=fun k=>k < i) e,ih (by omega),Nat.min_eq_left (by omega),Nat.min_eq_left (by omega)]
 refine ⟨wr,⟨fun i=>?_,fun i hi t k o=>(hat i hi t).1 k o,fun i hi t=>(hat i hi t).2,fun i hi=>by rw [hp1 i hi n (Nat.le_refl _),Nat.min_eq_left hi],fun i o p hi ho hp=>(hw i hi).2.2.2 o p ho hp,up,fun i=>?_⟩⟩
 ·induction i with
  | zero=>intro _;rfl
  | succ i ih=>intro hi;rw [(hw i (by omega)).1,ih (by omega)]
 ·induction i with
  | zero=>intro _ id h;exact h
  | succ i ih=>
   intro hi id h;rw [up i (by omega)];cases hwi:wr i with
   | none=>exact ih (by omega) id h
   | some p=>
    show (lk ((p.1,p.2) ::(st i).hp) id).isSome=true
    rw [aV];split
    ·rfl
    ·exact ih (by omega) id h
theorem Ny.len{l:List Oper}{n:Nat}{st:Nat→AS}{wr:Nat→Option (Nat×AO)}(hw:Ny ops l n st wr)(hl:n≤l.length){id j:Nat}(hj:(lk (st j).hp id).isSome=true):∀ k,j≤k→k≤n→(lk (st k).hp id).isSome=true∧JW (lk (st k).hp id)=JW (lk (st j).hp id):=by
 intro k hjk
 induction hjk with
 | refl=>exact fun _=>⟨hj,rfl⟩
 | @step k _ ih=>
  intro hk;obtain ⟨h1,h2⟩:=ih (by omega);have ho:l[k]?=some (l[k]'(by omega)):=by simp
  rw [hw.up k (by omega)];cases hwr:wr k with
  | none=>exact ⟨h1,h2⟩
  | some p=>
   show (lk ((p.1,p.2) ::(st k).hp) id).isSome=true∧JW (lk ((p.1,p.2) ::(st k).hp) id)=_
   rw [aV]
   by_cases e:p.1=id
   ·rw [if_pos e]
    refine ⟨rfl,?_⟩;rcases hw.wrs k _ p (by omega) ho hwr with ⟨_,_,h3⟩ | ⟨_,_,_,h4⟩
    ·rw [e] at h3;rw [h3] at h1;cases h1
    ·rw [h4,e,h2]
   ·rw [if_neg e];exact ⟨h1,h2⟩
theorem Ny.lenD{l:List Oper}{n:Nat}{st:Nat→AS}{wr:Nat→Option (Nat×AO)}(hw:Ny ops l n st wr){id:Nat}{D:Nat→Prop}{ob:AO}:∀ m,m≤n→lk (zB (st 0).hp wr D m) id=some ob→∃ j,j≤n∧(lk (st j).hp id).isSome=true∧JW (some ob)=JW (lk (st j).hp id)
 | 0,_,h=>⟨0,Nat.zero_le _,by rw [show lk (st 0).hp id=some ob from h];rfl,by rw [show lk (st 0).hp id=some ob from h]⟩
 | m+1,hm,h=>by
  by_cases e:D m
  ·rw [wE e] at h
   cases hwr:wr m with
   | none=>rw [hwr] at h;exact Ny.lenD hw m (by omega) h
   | some p=>
    rw [hwr] at h;have h':lk ((p.1,p.2) ::zB (st 0).hp wr D m) id=some ob:=h;rw [aV] at h'
    by_cases e2:p.1=id
    ·rw [if_pos e2] at h'
     have h3:lk (st (m+1)).hp id=some ob:=by
      rw [hw.up m (by omega),hwr];show lk ((p.1,p.2) ::(st m).hp) id=some ob
      rw [aV,if_pos e2];exact h'
     exact ⟨m+1,hm,by rw [h3];rfl,by rw [h3]⟩
    ·rw [if_neg e2] at h';exact Ny.lenD hw m (by omega) h'
  ·rw [wC e] at h;exact Ny.lenD hw m (by omega) h
/-- What holds when the operations of D are done. -/
def JS(l:List Oper)(n:Nat)(st:Nat→AS)(wr:Nat→Option (Nat×AO))(B0:BS)(w0:Wz)(a0:Act)(D:Nat→Prop)(vs:Nat→Value)(w:World):Prop:=
 ∃ ρ,fU ρ B0 w0 w (zB (st 0).hp wr D n)∧(∀ id v,ρ id=some v→(lk (st 0).hp id).isSome=true∨∃ k o,k < n∧D k∧l[k]?=some o∧o.dst=some id)∧
  (∀ k p,k < n→D k→wr k=some p→∃ v,ρ p.1=some v)∧
  (∀ t av,lk (st 0).sl t=some av→(∀ k o,k < n→l[k]?=some o→D k→o.dst≠some t)→∃ v,a0.tmps[t]?=some v∧AR ρ (Bd ρ B0) w av v)∧(∀ k o d,k < n→D k→l[k]?=some o→o.dst=some d→AR ρ (Bd ρ B0) w (EU (st (k+1))) (vs k))
theorem JS.congr{l:List Oper}{n:Nat}{st:Nat→AS}{wr:Nat→Option (Nat×AO)}{B0:BS}{w0:Wz}{a0:Act}(D D':Nat→Prop)(vs vs':Nat→Value)(w:World)(h:JS l n st wr B0 w0 a0 D vs w)(hD:∀ k,k < n→(D k↔D' k))(hv:∀ k,k < n→D k→vs k=vs' k):JS l n st wr B0 w0 a0 D' vs' w:=by
 obtain ⟨ρ,h1,h2,h5,h3,h4⟩:=h;refine ⟨ρ,yY hD▸h1,fun id v h=>?_,fun k p hk iU=>h5 k p hk ((hD k hk).2 iU),fun t av ht hno=>h3 t av ht (fun k o hk ho iU=>hno k o hk ho ((hD k hk).1 iU)),fun k o d hk iU ho hd=>?_⟩
 ·rcases h2 id v h with h | ⟨k,o,hk,iU,h⟩
  ·exact Or.inl h
  ·exact Or.inr ⟨k,o,hk,(hD k hk).1 iU,h⟩
 ·rw [← hv k hk ((hD k hk).2 iU)]
  exact h4 k o d hk ((hD k hk).2 iU) ho hd
/-- One more value (if it goes anywhere); the objects' values are the same ones. -/
theorem JS.same{l:List Oper}{n:Nat}{st:Nat→AS}{wr:Nat→Option (Nat×AO)}{B0:BS}{w0:Wz}{a0:Act}{D:Nat→Prop}{vs:Nat→Value}{w w':World}{i:Nat}{v:Value}{ρ:nD}{oi:Oper}(hoi:l[i]?=some oi)(hb:kL (Bd ρ B0) w w')(h1:fU ρ B0 w0 w' (zB (st 0).hp wr (uf D i) n)) 
  (h2:∀ id v,ρ id=some v→(lk (st 0).hp id).isSome=true∨∃ k o,k < n∧D k∧l[k]?=some o∧o.dst=some id)
  (h5:∀ k p,k < n→D k→wr k=some p→∃ v,ρ p.1=some v) (h6:∀ p,wr i=some p→∃ v,ρ p.1=some v)
  (h3:∀ t av,lk (st 0).sl t=some av→(∀ k o,k < n→l[k]?=some o→D k→o.dst≠some t)→∃ v,a0.tmps[t]?=some v∧AR ρ (Bd ρ B0) w av v)
  (h4:∀ k o d,k < n→D k→l[k]?=some o→o.dst=some d→AR ρ (Bd ρ B0) w (EU (st (k+1))) (vs k)) (hv:∀ d,oi.dst=some d→AR ρ (Bd ρ B0) w' (EU (st (i+1))) v) (hni:¬ D i):JS l n st wr B0 w0 a0 (uf D i) (Dc vs i v) w':=by
 have mvv:∀ {av:AV} {c:Value},AR ρ (Bd ρ B0) w av c→AR ρ (Bd ρ B0) w' av c:=fun h=>AR.mv hb (fun _ _ h=>h) (fun _ _=>rfl) h
 refine ⟨ρ,h1,fun id u h=>?_,fun k p hk iU hp=>?_,fun t av ht hno=>?_,fun k o d hk iU ho hd=>?_⟩
 ·rcases h2 id u h with h | ⟨k,o,hk,iU,h⟩
  ·exact Or.inl h
  ·exact Or.inr ⟨k,o,hk,Or.inl iU,h⟩
 ·rcases iU with iU | rfl
  ·exact h5 k p hk iU hp
  ·exact h6 p hp
 ·obtain ⟨u,h7,h8⟩:=h3 t av ht (fun k o hk ho iU=>hno k o hk ho (Or.inl iU))
  exact ⟨u,h7,mvv h8⟩
 ·unfold Dc
  by_cases e:k=i
  ·subst e
   rw [hoi] at ho;cases ho
   rw [if_pos rfl];exact hv d hd
  ·rw [if_neg e]
   rcases iU with iU | iU
   ·exact mvv (h4 k o d hk iU ho hd)
   ·exact absurd iU e
theorem kD(hT:Bj P T){id:Nat}{l:List Oper}(n:Nat){s:AS}(hm:P.follows .mixedOrders=true)(hB:allB l.toArray n s.n=true)(h:J5 P T l.toArray (fun s1=>AL P l.toArray Q (l.drop n) s1) 0 [] (l.take n) s):AW P (.region id l.toArray true) Q s:=by
 rintro B0 w0 a0 w ⟨ρ0,hc0,hn0,QU,hs0⟩;have hB':=hB;simp only [allB,Bool.and_eq_true,decide_eq_true_eq,Bool.or_eq_true] at hB';obtain ⟨⟨⟨⟨hsel,YA⟩,Vh⟩,_⟩,_⟩:=hB';have hr:=MI YA;have hnl:n≤l.length:=by simpa using Vh
 obtain ⟨st,af8,kk,hop0,_,_,al5,amu⟩:=h.st;have hlen:(l.take n).length=n:=by simp;omega
 rw [hlen] at kk;have htk:∀ {i:Nat} {o:Oper},i < n→l[i]?=some o→(l.take n)[i]?=some o:=fun hi ho=>by rw [List.getElem?_take,if_pos hi];exact ho
 have hop:∀ i o,i < n→l[i]?=some o→aB P T l.toArray o (st i) (st (i+1)):=fun i o hi ho=>hop0 i o (htk hi ho)
 have hcf:∀ i o k ok,k < i→i < n→l[i]?=some o→l[k]?=some ok→(uX o.op=true∨uX ok.op=true)→∀ id∈V3 st i o,id∈V3 st k ok→Iu l.toArray 6 o k=true:=fun i o k ok hk hi ho hok hs id h1 h2=>by
  have:=al5 i o k ok hk (htk hi ho) (htk (by omega) hok) hs id h1 h2;rwa [Nat.zero_add] at this
 have hnw:∀ i o k ok,k < i→i < n→l[i]?=some o→l[k]?=some ok→Lh o.op=true→∀ d,o.dst=some d→¬ d∈V3 st k ok:=fun i o k ok hk hi ho hok=>amu i o k ok hk (htk hi ho) (htk (by omega) hok)
 have hone:∀ i k oi ok d,i < n→k < n→l[i]?=some oi→l[k]?=some ok→k≠i→ok.dst=some d→oi.dst≠some d:=fun i k oi ok d hi hk hoi hok=>hr.one i k oi ok d hi hk (by simpa using hoi) (by simpa using hok)
 obtain ⟨wr,mD⟩:=anJ hnl hone hop;subst af8;refine PN (J:=JS l n st wr B0 w0 a0) n (st 0).n hm hn0 QU hB (fun D D' vs vs' w h=>JS.congr D D' vs vs' w h) ?_ ?_ ?_
 ·have hK:kL (Bd ρ0 B0) w w.drew:=⟨Nat.le_refl _,fun _ _ _=>rfl⟩
  have hz:zB (st 0).hp wr (fun _=>False) n=(st 0).hp:=(yY (D':=fun k=>k < 0) fun k _=>by simp).trans (mD.hp 0 (Nat.zero_le _));refine ⟨ρ0,⟨hc0.bel.step (Below.refl _ _).drew,hc0.b0,fun id v h=>?_,hc0.dist⟩,fun id v h=>?_,fun k p _ h=>h.elim,fun t av ht _=>?_,fun k o d _ h=>h.elim⟩
  ·obtain ⟨ob,h1,h2⟩:=hc0.obj id v h
   exact ⟨ob,by rw [hz];exact h1,h2.mv hK (fun _ _ hb=>hb) (fun _ _=>rfl)⟩
  ·obtain ⟨ob,h1,h2⟩:=hc0.obj id v h
   exact Or.inl (by rw [h1];rfl)
  ·obtain ⟨v,h1,h2⟩:=hs0 t av ht
   exact ⟨v,h1,AR.mv hK (fun _ _ hb=>hb) (fun _ _=>rfl) h2⟩
 ·intro i o hi ho D vs w' hni TD Ve hJ
  have dX:l[i]?=some o:=by simpa using ho
  have hA:=rW (a0:=a0) (ops:=l.toArray) rfl hr hn0 hnl vs i (Nat.le_of_lt hi);obtain ⟨ρ,hc,h2,h5,h3,h4⟩:=hJ;have hSl:gq ρ (Bd ρ B0) w' (jX (st i).sl (o.looksAt l.toArray)) (iE (l.take i) 0 a0 vs):=by
   intro t av ht;obtain ⟨hts,hlk⟩:=y8 _ t av ht
   by_cases hex:∃ k ok,k < i∧l[k]?=some ok∧ok.dst=some t
   ·obtain ⟨k,ok,hk,hok,hkd⟩:=hex
    have hok':l.toArray[k]?=some ok:=by simpa using hok
    rw [mD.at1 i (Nat.le_of_lt hi) t k ok hk hok hkd] at hlk;cases hlk
    refine ⟨vs k,hA.wr k ok t (by omega) hok' hk hkd,h4 k ok t (by omega) ?_ hok hkd⟩;rcases hr.look i k o ok t hi (by omega) ho hok' (by omega) hkd hts with ⟨_,h⟩ | ⟨h,_⟩
    ·exact TD k h
    ·omega
   ·have hno:∀ k ok,k < i→l[k]?=some ok→ok.dst≠some t:=fun k ok hk hok hkd=>hex ⟨k,ok,hk,hok,hkd⟩
    rw [mD.at2 i (Nat.le_of_lt hi) t hno] at hlk;obtain ⟨v,h7,h8⟩:=h3 t av hlk (fun k ok hk hok iU hkd=>by
     have hok':l.toArray[k]?=some ok:=by simpa using hok
     by_cases hki:k=i
     ·subst hki;exact hni iU
     ·rcases hr.look i k o ok t hi hk ho hok' hki hkd hts with ⟨h,_⟩ | ⟨_,h⟩
      ·exact hno k ok h hok hkd
      ·exact hni (Ve k ok hok' iU i h))
    refine ⟨v,?_,h8⟩;rw [hA.no t (fun k ok hk hok hki=>hno k ok hki (by simpa using hok))];exact h7
  have adW:∀ id∈JD (st i) o.op.operands.toList,∃ v,ρ id=some v:=by
   intro id aS;obtain ⟨x,hx,hg⟩:=List.mem_filterMap.1 aS;cases hgx:dM (st i) x with
   | none=>rw [hgx] at hg;cases hg
   | some av=>
    rw [hgx] at hg;have hav:wY av=some id:=hg;cases x with
    | tmp t=>
     have hm:t∈o.looksAt l.toArray:=List.mem_append_left _ (List.mem_filterMap.2 ⟨.tmp t,by simpa using hx,rfl⟩);obtain ⟨v,_,h8⟩:=hSl t av (by rw [pO _ t hm];exact hgx);exact xC hav h8
    | const v=>cases v <;> simp only [dM,Option.some.injEq,reduceCtorEq] at hgx <;> (subst hgx;cases hav)
    | func f=>simp only [dM,Option.some.injEq] at hgx;subst hgx;cases hav
    | global g=>simp [dM] at hgx
  have ajh:∀ id∈V3 st i o,∃ v,ρ id=some v:=fun id aS=>adW id (abW aS)
  have hiff:∀ id∈V3 st i o,∀ k p,k < n→wr k=some p→p.1=id→(D k↔k < i):=by
   intro id aS k p hk hp G8;have hok:l[k]?=some (l[k]'(by omega)):=by simp
   have hok':l.toArray[k]?=some (l[k]'(by omega)):=by simp
   rcases mD.wrs k _ p hk hok hp with ⟨hN,hdk,hnone⟩ | ⟨hS,hmem,_⟩
   ·rw [G8] at hdk hnone
    obtain ⟨v,hv⟩:=ajh id aS;have iU:D k:=by
     rcases h2 id v hv with h | ⟨k',o',hk',alQ,amw,hd'⟩
     ·have:=mD.grow k (Nat.le_of_lt hk) id h
      rw [hnone] at this;cases this
     ·by_cases e:k'=k
      ·subst e;exact alQ
      ·exact absurd hdk (hone k k' _ o' id hk hk' hok amw e hd')
    refine ⟨fun _=>?_,fun _=>iU⟩;rcases Nat.lt_trichotomy k i with h | h | h
    ·exact h
    ·subst h;exact absurd iU hni
    ·exact absurd aS (hnw k _ i o h hk hok dX hN id hdk)
   ·rw [G8] at hmem
    rcases Nat.lt_trichotomy k i with h | h | h
    ·exact ⟨fun _=>h,fun _=>Iw Ve 6 o k TD (hcf i o k _ h hi dX hok (Or.inr hS) id aS hmem)⟩
    ·subst h;exact ⟨fun h=>absurd h hni,fun h=>absurd h (Nat.lt_irrefl _)⟩
    ·exact ⟨fun iU=>absurd (Iw Ve 6 _ i (Ve k _ hok' iU) (hcf k _ i o h hk hok dX (Or.inl hS) id hmem aS)) hni,fun h'=>by omega⟩
  have afZ:∀ id∈V3 st i o,lk (st i).hp id=lk (zB (st 0).hp wr D n) id:=by
   intro id aS;rw [← mD.hp i (Nat.le_of_lt hi)];exact (Ad fun k p hk hp G8=>hiff id aS k p hk hp G8).symm
  let s2:AS:=⟨(st i).n,jX (st i).sl (o.looksAt l.toArray),zB (st 0).hp wr D n⟩
  have hget:∀ x∈o.op.operands,dM (st i) x=dM s2 x:=by
   intro x hx;cases x with
   | tmp t=>
    have hm:t∈o.looksAt l.toArray:=List.mem_append_left _ (List.mem_filterMap.2 ⟨.tmp t,by simpa using hx,rfl⟩);exact (pO _ t hm).symm
   | const v=>cases v <;> rfl
   | _=>rfl
  have hg':jP l.toArray (st i) o=jP l.toArray s2 o:=JA (fun t ht=>(pO _ t ht).symm);have hAd:(iE (l.take i) 0 a0 vs).defers= []:=hA.defs.trans QU;have hdef:∀ v,((iE (l.take i) 0 a0 vs).put o.dst v).defers= []:=fun v=>by cases hd:o.dst <;> exact hAd
  have hval:∀ v d,o.dst=some d→Am.valOf o ((iE (l.take i) 0 a0 vs).put o.dst v)=v:=fun v d hd=>Am.zk hd (by rw [hA.size,hn0];exact hr.dst i o d hi ho hd)
  have hO:=hop i o hi dX;have hsh:=aB.shape2 hO;have ajK:∀ {hp'},(st (i+1)).hp=hp'→hp'=(st i).hp→wr i=none:=by
   intro hp' e1 e2;have:=mD.up i hi;rw [e1,e2] at this;cases hw:wr i with
   | none=>rfl
   | some p=>rw [hw] at this;have h9:=congrArg List.length this;simp at h9
  have hnone:wr i=none→fU ρ B0 w0 w' (zB (st 0).hp wr (uf D i) n):=fun hw=>fU.lkc hc fun id _=>Ad fun k p hk hp G8=>by
   unfold uf;constructor
   ·exact Or.inl
   ·rintro (h | rfl)
    ·exact h
    ·rw [hw] at hp;cases hp
  have fin:∀ {w2:World} {v:Value} {av:AV},st (i+1)=(st i).put o.dst av→Below w'.heap.size w' w2→AR ρ (Bd ρ B0) w2 av v→JS l n st wr B0 w0 a0 (uf D i) (Dc vs i (Am.valOf o ((iE (l.take i) 0 a0 vs).put o.dst v))) w2:=by
   intro w2 v av he hb hv;have hw:wr i=none:=ajK (hp':=((st i).put o.dst av).hp) (by rw [he]) (by cases o.dst <;> rfl);refine JS.same dX (.of_below hb) ((hnone hw).below hb) h2 h5 (fun p hp=>by rw [hw] at hp;cases hp) h3 h4 (fun d hd=>?_) hni;rw [hval v d hd];have:EU (st (i+1))=av:=by rw [he,hd];rfl
   rw [this];exact hv
  obtain ⟨s3,hs3⟩:∃ s3,s3=st (i+1):=⟨_,rfl⟩
  rw [← hs3] at hO;cases hO with
  | V av h hg hk=>
   rw [hg'] at hg
   replace h:jg T s2 o.op=some av:=by
    cases hln:EG o.op with
    | false=>rwa [Gz (T:=T) (op:=o.op) (s:=st i) (s':=s2) hln hget afZ] at h
    | true=>
     refine abG hln hget (fun id aS n0 ajm=>?_) h;obtain ⟨v0,hv0⟩:=adW id aS;obtain ⟨ob,ho1,_⟩:=hc.obj id v0 hv0;show sN (lk (zB (st 0).hp wr D n) id)=some n0
     rw [ho1];obtain ⟨j,hj,hj1,hj2⟩:=mD.lenD n (Nat.le_refl _) ho1;have hi1:(lk (st i).hp id).isSome=true:=by
      exact VD ajm
     rw [show sN (some ob)=sN (lk (st j).hp id) from congrArg Prod.fst hj2,← ajm];rcases Nat.le_total j i with hji | hji
     ·exact congrArg Prod.fst ((mD.len hnl hj1 i hji (Nat.le_of_lt hi)).2).symm
     ·exact congrArg Prod.fst (mD.len hnl hi1 j hji hj).2
   obtain ⟨v,hrun,hv⟩:=GH (s:=s2) hT hSl hc (fun _ _ h=>h) h;exact kU (fQ (s:=s2) hg hSl) (jQ (a:=a0) hrun ⟨hdef v,fin hs3.symm (Below.refl _ _) hv⟩)
  | Y x tw id h hw hi2 hn ho hl hg hk=>
   rw [hg'] at hg;have hno:∀ (k:Nat) (ok:Oper),l[k]?=some ok→ok.dst≠some tw:=fun k ok hok=>OU hn hok
   rw [mD.at2 i (Nat.le_of_lt hi) tw (fun k ok _ hok=>hno k ok hok)] at hw;obtain ⟨u,_,hu⟩:=h3 tw _ hw (fun k ok _ hok _=>hno k ok hok);obtain ⟨y,hy⟩:=xC hi2 hu;obtain ⟨ob,ho1,ho2⟩:=hc.obj id y hy;obtain ⟨j,hj,hj1,hj2⟩:=mD.lenD n (Nat.le_refl _) ho1;have hi1:(lk (st i).hp id).isSome=true:=by rw [ho];rfl
   have e:JW (some ob)=JW (lk (st i).hp id):=hj2.trans (by
    rcases Nat.le_total j i with hji | hji
    ·exact ((mD.len hnl hj1 i hji (Nat.le_of_lt hi)).2).symm
    ·exact (mD.len hnl hi1 j hji hj).2)
   obtain ⟨e',sz',n',U4,hob⟩:=agB (o:=some ob) (x:=x) ((congrArg Prod.snd e).trans (by rw [ho];rfl));cases hob
   replace h:jg T s2 o.op=some (.d (.one (.v x))):=by
    rwa [Gz (T:=T) (op:=o.op) (s:=st i) (s':=s2) hl hget afZ] at h
   obtain ⟨v,hrun,hv⟩:=GH (s:=s2) hT hSl hc (fun _ _ h=>h) h;exact kU (fQ (s:=s2) hg hSl) (jQ (a:=a0) hrun ⟨hdef v,fin hs3.symm (Below.refl _ _) (TW hv hy ho2)⟩)
  | B av h hg hk=>
   rw [hg'] at hg;rw [Ju (T:=T) (op:=o.op) (s:=st i) (s':=s2) hget] at h;obtain ⟨v,w2,hrun,hb,hv⟩:=QK (s:=s2) hT hSl hc h;exact kU (fQ (s:=s2) hg hSl) (jQ (a:=a0) hrun ⟨hdef v,fin hs3.symm hb hv⟩)
  | X av h hg hk=>
   rw [hg'] at hg;obtain ⟨v,hrun,hv⟩:=h ρ (Bd ρ B0) w' (iE (l.take i) 0 a0 vs) (fun x hx kZ hgx=>bY (s:=s2) hSl ((hget x hx).symm.trans hgx));exact kU (fQ (s:=s2) hg hSl) (jQ (a:=a0) hrun ⟨hdef v,fin hs3.symm (Below.refl _ _) hv⟩)
  | G hg hk=>
   rw [hg'] at hg;refine TF (fQ (s:=s2) hg hSl) ?_;have hw:wr i=none:=ajK (hp':=((st i).put o.dst .dead).hp) (by rw [← hs3]) (by cases o.dst <;> rfl);refine JS.same dX (.of_below (Below.refl _ _)) (hnone hw) h2 h5 (fun p hp=>by rw [hw] at hp;cases hp) h3 h4 (fun d hd=>?_) hni;have:EU (st (i+1))= .dead:=by rw [← hs3,hd];rfl
   rw [this];trivial
  | C h hcl hf ha hg hk=>
   rename_i c f cap ds res;rw [hg'] at hg;have hop':o.op= .call c:=by
    unfold jR at hcl;split at hcl
    ·rename_i h;cases hcl;exact h
    ·cases hcl
   have hgc:∀ x∈c.operands,dM (st i) x=dM s2 x:=fun x hx=>hget x (by rw [hop'];exact hx)
   rw [GN hgc] at hf;rw [xP _ (fun x hx=>hgc x (Array.mem_append.2 (Or.inr (by simpa using hx))))] at ha;obtain ⟨us,hus,hrun⟩:=C9 (s:=s2) hSl hcl hf ha h.en;refine kU (fQ (s:=s2) hg hSl) ?_;unfold Oper.wp;rw [hrun];refine (h.go (Bd ρ B0) w' us hc.UN hus).mono ?_;rintro e w2 ⟨v,rfl,hb,hv⟩;exact ⟨hdef v,fin hs3.symm hb hv.lift⟩
  | S id ob h hdst hg=>
   rw [hg'] at hg;obtain ⟨hst,aS,_⟩:=X4 h;rw [QN (T:=T) (op:=o.op) (s:=st i) (s':=s2) hget afZ] at h;obtain ⟨w2,hrun,hc2,hk2⟩:=QO (s:=s2) hT hSl hc h;refine kU (fQ (s:=s2) hg hSl) ?_;unfold Oper.wp;rw [hrun];refine ⟨hdef _,?_⟩;have hup:=mD.up i hi;rw [← hs3] at hup;have hwi:wr i=some (id,ob):=by
    cases hw:wr i with
    | none=>
     rw [hw] at hup;have h9:=congrArg List.length hup;simp at h9
    | some p=>
     rw [hw] at hup;have h9:(id,ob) ::(st i).hp=p ::(st i).hp:=hup;exact congrArg some (List.cons.inj h9).1.symm
   have hcc:fU ρ B0 w0 w2 (zB (st 0).hp wr (uf D i) n):=by
    refine fU.lkc hc2 fun id' _=>?_
    show lk ((id,ob) ::zB (st 0).hp wr D n) id'=_
    rw [aV]
    by_cases e:id=id'
    ·subst e
     rw [if_pos rfl];have e1:lk (zB (st 0).hp wr (uf D i) n) id=lk (zB (st 0).hp wr (fun k=>k < i+1) n) id:=Ad fun k p hk hp G8=>by
      unfold uf;rw [hiff id aS k p hk hp G8];omega
     rw [e1,mD.hp (i+1) (by omega),← hs3];show some ob=lk ((id,ob) ::(st i).hp) id
     rw [aV,if_pos rfl]
    ·rw [if_neg e]
     refine Ad fun k p hk hp G8=>?_
     unfold uf;constructor
     ·exact Or.inl
     ·rintro (h | rfl)
      ·exact h
      ·rw [hwi] at hp;cases hp;exact absurd G8 e
   exact JS.same dX hk2 hcc h2 h5 (fun p hp=>by rw [hwi] at hp;cases hp;exact ajh id aS) h3 h4 (fun d hd=>by rw [hdst] at hd;cases hd) hni
  | N ob h d hd hfr hg hk=>
   rw [hg'] at hg;have amv:=X3 h;rw [Jv (T:=T) (op:=o.op) (s:=st i) (s':=s2) hget] at h;obtain ⟨v,w2,hrun,hb,hvb,hob⟩:=QM (s:=s2) hT hSl hc h;have hup:=mD.up i hi;rw [← hs3] at hup;have hwi:wr i=some (d,ob):=by
    cases hw:wr i with
    | none=>
     rw [hw] at hup;have h9:=congrArg List.length hup;simp [AS.mk'] at h9
    | some p=>
     rw [hw] at hup;have h9:(d,ob) ::(st i).hp=p ::(st i).hp:=hup;exact congrArg some (List.cons.inj h9).1.symm
   have afJ:(lk (st 0).hp d).isSome=false:=by
    cases hq:(lk (st 0).hp d).isSome with
    | false=>rfl
    | true=>have:=mD.grow i (Nat.le_of_lt hi) d hq;rw [hfr] at this;cases this
   have hρ:ρ d=none:=by
    cases hq:ρ d with
    | none=>rfl
    | some u=>
     rcases h2 d u hq with h7 | ⟨k,ok,hk',iU,hok,hkd⟩
     ·rw [afJ] at h7;cases h7
     ·by_cases hki:k=i
      ·subst hki;exact absurd iU hni
      ·exact absurd hd (hone i k o ok d hi hk' dX hok hki hkd)
   have hO2:=hob (Bd (up ρ d v) B0) (AQ hρ hvb);have hdiff:∀ k p,k < n→wr k=some p→p.1=d→(uf D i k↔k < i+1):=by
    intro k p hk' hp hpd;have hok:l[k]?=some (l[k]'(by omega)):=by simp
    by_cases e:k=i
    ·subst e;exact ⟨fun _=>by omega,fun _=>Or.inr rfl⟩
    ·have hnD:¬ D k:=fun iU=>by
      obtain ⟨u,hu⟩:=h5 k p hk' iU hp;rw [hpd,hρ] at hu;cases hu
     refine ⟨fun h=>?_,fun h=>?_⟩
     ·rcases h with h | h
      ·exact absurd h hnD
      ·exact absurd h e
     ·exfalso
      rcases mD.wrs k _ p hk' hok hp with ⟨_,hdk,_⟩ | ⟨_,hmem,_⟩
      ·rw [hpd] at hdk
       exact hone i k o _ d hi hk' dX hok e hdk hd
      ·rw [hpd] at hmem
       exact hnw i o k _ (by omega) hi dX hok amv d hd hmem
   have hlast:lk (zB (st 0).hp wr (uf D i) n) d=some ob:=by
    rw [Ad (D':=fun k=>k < i+1) hdiff,mD.hp (i+1) (by omega),← hs3];show lk ((d,ob) ::(st i).hp) d=some ob
    rw [aV,if_pos rfl]
   have hoth:∀ id',id'≠d→lk (zB (st 0).hp wr D n) id'=lk (zB (st 0).hp wr (uf D i) n) id':=fun id' hne=>Ad fun k p hk' hp G8=>by
    unfold uf;constructor
    ·exact Or.inl
    ·rintro (h | rfl)
     ·exact h
     ·rw [hwi] at hp;cases hp;exact absurd G8.symm hne
   have hc2:fU (up ρ d v) B0 w0 w2 (zB (st 0).hp wr (uf D i) n):=hc.new hρ hb hvb (fun k ob' hk' hne=>by rw [← hoth k hne];exact hk') hlast hO2;refine kU (fQ (s:=s2) hg hSl) (jQ (a:=a0) hrun ⟨hdef v,?_⟩);refine ⟨_,hc2,fun id u hu=>?_,fun k p hk' iU hp=>?_,fun t av ht hno=>?_,fun k ok d' hk' iU hok hd'=>?_⟩
   ·unfold up at hu
    split at hu
    ·rename_i e
     exact Or.inr ⟨i,o,hi,Or.inr rfl,dX,by rw [hd,e]⟩
    ·rcases h2 id u hu with h7 | ⟨k,ok,hk',iU,h7⟩
     ·exact Or.inl h7
     ·exact Or.inr ⟨k,ok,hk',Or.inl iU,h7⟩
   ·unfold up
    split
    ·exact ⟨_,rfl⟩
    ·rename_i hne
     rcases iU with iU | rfl
     ·exact h5 k p hk' iU hp
     ·rw [hwi] at hp;cases hp;exact absurd rfl hne
   ·obtain ⟨u,h7,h8⟩:=h3 t av ht (fun k o hk ho iU=>hno k o hk ho (Or.inl iU))
    exact ⟨u,h7,h8.new hρ hb hvb⟩
   ·unfold Dc
    by_cases e:k=i
    ·subst e
     rw [if_pos rfl,hval v d hd,← hs3];exact AO.Gl hO2 (by simp [up])
    ·rw [if_neg e]
     rcases iU with iU | iU
     ·exact (h4 k ok d' hk' iU hok hd').new hρ hb hvb
     ·exact absurd iU e
 ·intro D vs w' hall hJ
  obtain ⟨ρ,hc,h2,h5,h3,h4⟩:=hJ;have hA:=rW (a0:=a0) (ops:=l.toArray) rfl hr hn0 hnl vs n (Nat.le_refl _);have PY:zB (st 0).hp wr D n=(st n).hp:=by
   rw [← mD.hp n (Nat.le_refl _)];exact yY fun k hk=>⟨fun _=>hk,fun _=>hall k hk⟩
  rw [PY] at hc;refine kk B0 w0 _ w' ⟨ρ,hc,?_,hA.defs.trans QU,fun t av ht=>?_⟩
  ·rw [hA.size,hn0,mD.nn n (Nat.le_refl _)]
  ·by_cases hex:∃ k ok,k < n∧l[k]?=some ok∧ok.dst=some t
   ·obtain ⟨k,ok,hk,hok,hkd⟩:=hex
    rw [mD.at1 n (Nat.le_refl _) t k ok hk hok hkd] at ht;cases ht
    exact ⟨vs k,hA.wr k ok t hk (by simpa using hok) hk hkd,h4 k ok t hk (hall k hk) hok hkd⟩
   ·have hno:∀ k ok,k < n→l[k]?=some ok→ok.dst≠some t:=fun k ok hk hok hkd=>hex ⟨k,ok,hk,hok,hkd⟩
    rw [mD.at2 n (Nat.le_refl _) t hno] at ht;obtain ⟨v,h7,h8⟩:=h3 t av ht (fun k o hk hok _=>hno k o hk hok);refine ⟨v,?_,h8⟩;rw [hA.no t (fun k o hk hok _=>hno k o hk (by simpa using hok))];exact h7
end
end
theorem fH{k:IntKind}{a b:Int}(h:a=b):some (AV.d (.one (.v (.int k a))))=some (AV.d (.one (.v (.int k b)))):=by rw [h]
theorem bZ{a b:Bool}(h:a=b):some (AV.d (.one (.v (.bool a))))=some (AV.d (.one (.v (.bool b)))):=by rw [h]
def isF:Callee→Option FuncId
 | .value (.func f)=>some f
 | _=>none
section
variable {P:Program} {ops:Array Oper} {Q:Qs} {o:Oper} {l:List Oper} {s:AS}
theorem Le{cal:Callee}{f:FuncId}(h:isF cal=some f):KU s cal=some (f,[]):=by
 unfold isF at h;split at h
 ·cases h;rfl
 ·cases h
theorem aU{c:Call}{f:FuncId}{ds:List DV}{res:AV}(h:aC P f ds res)(hc:jR o.op=some c)(hf:isF c.callee=some f)(ha:qX s c.args.toList=some ds)(k:AL P ops Q l (s.put o.dst res)) 
  (hg:jP ops s o=some true:=by rfl) (hd:kP o.dst s.n=true:=by rfl):AL P ops Q (o ::l) s:=
 mC (cap:= []) (by rw [List.append_nil];exact h) hc (Le hf) ha k hg hd
theorem aB.C0{T:TypeId→Option TI}{c:Call}{f:FuncId}{ds:List DV}{res:AV}(h:aC P f ds res)(hc:jR o.op=some c)(hf:isF c.callee=some f)(ha:qX s c.args.toList=some ds)(hg:jP ops s o=some true:=by rfl)(hd:kP o.dst s.n=true:=by rfl):aB P T ops o s (s.put o.dst res):=
 .C (cap:= []) (by rw [List.append_nil];exact h) hc (Le hf) ha hg hd
/-- One after another, and K of what comes of it. -/
inductive Jd (P:Program) (T:TypeId→Option TI) (ops:Array Oper) (K:AS→Prop):List Oper→AS→Prop
 | nil {s:AS} (h:K s):Jd P T ops K [] s
 | cons {o:Oper} {l:List Oper} {s s1:AS} (h:aB P T ops o s s1) (k:Jd P T ops K l s1):Jd P T ops K (o ::l) s
theorem Jd.ch{T:TypeId→Option TI}{K:AS→Prop}(h:Jd P T ops K l s):∃ s1,Ch P T ops l s s1∧K s1:=by
 induction h with
 | nil h=>exact ⟨_,.nil _,h⟩
 | cons h _ ih=>obtain ⟨s1,h1,h2⟩:=ih;exact ⟨s1,.cons h h1,h2⟩
theorem aP{T:TypeId→Option TI}(hT:Bj P T){id:Nat}{l:List Oper}(n:Nat){s:AS}(hm:P.follows .mixedOrders=true)(hB:Am.allB l.toArray n s.n=true)(hD:Am.U2 l.toArray n=true)(h:Jd P T l.toArray (fun s1=>AL P l.toArray Q (l.drop n) s1) (l.take n) s):AW P (.region id l.toArray true) Q s:=by
 obtain ⟨s1,h1,h2⟩:=h.ch;exact ail hT n hm hB hD h1 h2
theorem abp{T:TypeId→Option TI}(hT:Bj P T){id:Nat}{l:List Oper}(n:Nat)(ls:List Nat){s:AS}(hm:P.follows .mixedOrders=true)(hB:Am.Xd l.toArray n s.n ls=true)(hD:Am.U2 l.toArray n=true)(hP:∀ c s,¬ Q (.panic c) s)(h:Jd P T l.toArray (fun s1=>AL P l.toArray Q (l.drop n) s1) (l.take n) s):AW P (.region id l.toArray true) Q s:=by
 obtain ⟨s1,h1,h2⟩:=h.ch;obtain ⟨h3,h4⟩:=Am.abg hB;exact Xk hT n hm h3 (fun i _ h=>⟨h4 i h,hP⟩) hD h1 h2
theorem cT{c:Operand}{x y:Code}(hc:dM s c=some (.d (.one (.v (.bool true)))))(h:AW P x Q s):AW P (.cond c x y) Q s:=aW hc (fun _=>h) (fun e=>by cases e)
theorem cF{c:Operand}{x y:Code}(hc:dM s c=some (.d (.one (.v (.bool false)))))(h:AW P y Q s):AW P (.cond c x y) Q s:=aW hc (fun e=>by cases e) (fun _=>h)
theorem tN{K:AS→Prop}(h:K s):V9 K Q .normal s:=h
theorem tE{K:AS→Prop}{id:Nat}(h:Q (.exit id) s):V9 K Q (.exit id) s:=h
theorem tR{K:AS→Prop}(h:Q .ret s):V9 K Q .ret s:=h
theorem bN{id:Nat}(h:Q .normal s):inB id Q .normal s:=h
theorem bR{id:Nat}(h:Q .ret s):inB id Q .ret s:=h
theorem bE{id:Nat}(h:Q .normal s):inB id Q (.exit id) s:=by show (if id=id then Q .normal s else Q (.exit id) s);rw [if_pos rfl];exact h
theorem bX{id id':Nat}(hne:Nat.beq id' id=false)(h:Q (.exit id') s):inB id Q (.exit id') s:=by
 show (if id'=id then Q .normal s else Q (.exit id') s)
 rw [if_neg (fun e=>by rw [e,Nat.beq_refl] at hne;cases hne)];exact h
theorem rQ{T:TypeId→Option TI}{rs:List ResultVar}{es:List DV}{r:AV}(h:EY T s rs=some es)(hl:AV.le (JV es) r):Wx T rs r .ret s:=⟨es,h,hl⟩
theorem aaA{s:AS}(t:Nat)(kZ:AV){av:AV}(h:lk s.sl t=some av)(hl:AV.le av kZ):Wk s ⟨s.n,(t,kZ) ::s.sl,s.hp⟩:=by
 rintro B0 w0 a w ⟨ρ,hc,hn,hdf,hs⟩;refine ⟨ρ,hc,hn,hdf,fun u av2 hu=>?_⟩;rw [aV] at hu;split at hu
 ·rename_i e
  cases hu
  subst e;obtain ⟨v,h1,h2⟩:=hs t av h;exact ⟨v,h1,hl _ _ _ _ h2⟩
 ·exact hs u av2 hu
theorem kH(t:Nat)(kZ:AV){av:AV}(h:lk s.sl t=some av)(hl:AV.le av kZ)(k:AL P ops Q l ⟨s.n,(t,kZ) ::s.sl,s.hp⟩):AL P ops Q l s:=AL.wk (aaA t kZ h hl) k
theorem iJ{c:Code}(t:Nat)(kZ:AV){av:AV}(h:lk s.sl t=some av)(hl:AV.le av kZ)(k:AW P c Q ⟨s.n,(t,kZ) ::s.sl,s.hp⟩):AW P c Q s:=AW.wk (aaA t kZ h hl) k
end
theorem aH{P : Program}{T : TypeId → Option TI}(hT : Bj P T){f : FuncId}{fn : Func}{c : Code}{args : List DV}{r : AV}(n : Nat)(rs : List ResultVar)(hf : P.funcs[f]? = some fn)(hb : fn.body = some c)(hnm : (fn.name == "runtime.NumGoroutine") = false)(hn : fn.ntmps = n)(hrs : fn.results.toList = rs)(hlen : Nat.ble args.length n = true) 
  (h:AW P c (Wx T rs r) ⟨n,params 0 args,[]⟩):aC P f args r:=by
 subst hn;subst hrs;exact aie hT hf hb hnm hlen h
/-- One of the leaves L x with Q x. -/
def aY{α:Type}(Q:α→Prop)(L:α→Lf):Lf:= .sm ⟨fun B w v=>∃ x,Q x∧eu B w (L x) v,fun _ _ _ ⟨_,_,h⟩=>h.one,fun _ _ _ _ _ ⟨x,hq,h⟩ hk hB=>⟨x,hq,h.mv hk hB⟩⟩
theorem kR{α:Type}{Q:α→Prop}{L:α→Lf}(x:α)(hq:Q x):AV.le (.d (.one (L x))) (.d (.one (aY Q L))):=fun _ _ _ _ h=>⟨x,hq,h⟩
theorem BP{α β:Type}{Q:α→Prop}{L:α→Lf}{R:β→Prop}{M:β→Lf}(h:∀ x,Q x→∃ y,R y∧∀ B w v,eu B w (L x) v→eu B w (M y) v):∀ B w v,eu B w (aY Q L) v→eu B w (aY R M) v:=fun B w v ⟨x,hq,k⟩=>let ⟨y,hr,hl⟩:=h x hq;⟨y,hr,hl B w v k⟩
section
variable {P:Program} {ops:Array Oper} {Q:Qs} {l:List Oper} {s:AS} {o:Oper}
theorem rZ{ρ:nD}{B:BS}{w:World}{sl:List (Nat×AV)}{a:Act}{t:Nat}{av:AV}{v:Value}(h:gq ρ B w sl a)(hv:a.tmps[t]?=some v)(h':AR ρ B w av v):gq ρ B w ((t,av) ::sl) a:=by
 intro u kZ hu;rw [aV] at hu;split at hu
 ·rename_i e;cases hu;subst e;exact ⟨v,hv,h'⟩
 ·exact h u kZ hu
/-- What a slot holds is found out. -/
theorem cEx{α:Type}{Qx:α→Prop}{L:α→Lf}{c:Code}(t:Nat)(h:lk s.sl t=some (.d (.one (aY Qx L))))(k:∀ x,Qx x→AW P c Q ⟨s.n,(t,.d (.one (L x))) ::s.sl,s.hp⟩):AW P c Q s:=by
 rintro B0 w0 a w ⟨ρ,hc,hn,hdf,hs⟩;obtain ⟨v,hv,x,hq,hl⟩:=hs t _ h;exact k x hq B0 w0 a w ⟨ρ,hc,hn,hdf,rZ hs hv hl⟩
theorem mEx{α:Type}{Qx:α→Prop}{L:α→Lf}(t:Nat)(h:lk s.sl t=some (.d (.one (aY Qx L))))(k:∀ x,Qx x→AL P ops Q l ⟨s.n,(t,.d (.one (L x))) ::s.sl,s.hp⟩):AL P ops Q l s:=by
 rintro B0 w0 a w ⟨ρ,hc,hn,hdf,hs⟩;obtain ⟨v,hv,x,hq,hl⟩:=hs t _ h;exact k x hq B0 w0 a w ⟨ρ,hc,hn,hdf,rZ hs hv hl⟩
/-- A row of the frame's own is stored into a variable of its own; its value gets a name. -/
theorem mSo{T:TypeId→Option TI}(hT:Bj P T)(ty id2 id:Nat){ob2:AO}(obx:Value→AO)(h1:lk s.sl ty=some (.own id2))(h2:lk s.hp id2=some ob2)(h:∀ x,VW T ⟨s.n,(ty,.d (.one (.v x))) ::s.sl,(id2,.is x ob2) ::s.hp⟩ o.op=some (id,obx x)) 
  (k:∀ x,AL P ops Q l (AS.put ⟨s.n,s.sl,(id,obx x) ::(id2,.is x ob2) ::s.hp⟩ o.dst .dead)) (hg:jP ops s o=some true:=by rfl) (hd:kP o.dst s.n=true:=by rfl):AL P ops Q (o ::l) s:=by
 rintro B0 w0 a w ⟨ρ,hc,hn,hdf,hs⟩;obtain ⟨x,hx,hρ,ag,nn,cap,hsl⟩:=hs ty _ h1;have hone:x.oneCell'=true:=by subst hsl;rfl
 have hc2:fU ρ B0 w0 w ((id2,.is x ob2) ::s.hp):=⟨hc.bel,hc.b0,fun j v hj=>by
  obtain ⟨ob,q1,q2⟩:=hc.obj j v hj
  by_cases e:id2=j
  ·subst e
   rw [h2] at q1;cases q1
   have:v=x:=by rw [hρ] at hj;cases hj;rfl
   exact ⟨.is x ob2,by rw [aV,if_pos rfl],this,q2⟩
  ·exact ⟨ob,by rw [aV,if_neg e];exact q1,q2⟩,hc.dist⟩
 have hs2:gq ρ (Bd ρ B0) w ((ty,.d (.one (.v x))) ::s.sl) a:=rZ hs hx ⟨rfl,hone⟩;obtain ⟨w',hr,hc',hk⟩:=QO hT (s:=⟨s.n,(ty,.d (.one (.v x))) ::s.sl,(id2,.is x ob2) ::s.hp⟩) hs2 hc2 (h x);have fM:gq ρ (Bd ρ B0) w' s.sl a:=fun t av ht=>let ⟨u,q1,q2⟩:=hs t av ht;⟨u,q1,AR.mv hk (fun _ _ hB=>hB) (fun _ _=>rfl) q2⟩
 exact IU (fQ hg hs) hr (k x B0 w0 _ w' (lU (s:=⟨s.n,s.sl,(id,obx x) ::(id2,.is x ob2) ::s.hp⟩) hc' hn hdf fM hd trivial))
end
/-- Values of slots. -/
def AsR(ρ:nD)(B:BS)(w:World):List AV→List Value→Prop
 | [],[]=>True
 | a ::l,v ::vs=>AR ρ B w a v∧AsR ρ B w l vs
 | _,_=>False
/-- The blocks of objects; some objects are there. -/
def Bg(ρ:nD):BS:=fun b=>∃ id v,ρ id=some v∧jA v=some b
def Al(ρ:nD)(ids:List Nat):Prop:=∀ id∈ids,∃ v,ρ id=some v
/-- WHAT A FUNCTION DOES THAT IS LENT OBJECTS: they are numbered avs in hp; those of wi are there; it answers r and leaves the objects hp' with Q r hp', those of wo are there. -/
structure lY(P:Program)(f:FuncId)(args:List AV)(hp:List (Nat×AO))(wi wo:List Nat)(Q:AV→List (Nat×AO)→Prop):Prop where
 en:∀ vs w,(callFunc f vs).run P w= .ok (.enter f vs) w
 go:∀ ρ B w vs,fU ρ B ⟨w,Bg ρ⟩ w hp→Al ρ wi→AsR ρ (Bd ρ B) w args vs→Calls P f vs.toArray w fun e w'=>
  ∃ v ρ' r hp',e= .returned v∧Q r hp'∧fU ρ' B ⟨w,Bg ρ⟩ w' hp'∧Al ρ' wo∧AR ρ' (Bd ρ' B) w' r v
/-! ### The callee -/
def y7:Nat→List AV→List (Nat×AV)
 | _,[]=> []
 | i,d ::ds=>(i,d) ::y7 (i+1) ds
theorem Ig{B:BS}{w:World}{ρ:nD}:∀ {ds:List AV} {vs:List Value} {i t:Nat} {av:AV},AsR ρ B w ds vs→lk (y7 i ds) t=some av→∃ k v,t=i+k∧vs[k]?=some v∧AR ρ B w av v
 | [],[],i,t,av,_,h=>by cases h
 | d ::ds,v ::vs,i,t,av,hd,h=>by
  unfold y7 at h;rw [aV] at h;split at h
  ·rename_i e
   cases h
   exact ⟨0,v,by omega,rfl,hd.1⟩
  ·obtain ⟨k,u,h1,h2,h3⟩:=Ig hd.2 h
   exact ⟨k+1,u,by omega,by simpa using h2,h3⟩
theorem AsR.len{ρ:nD}{B:BS}{w:World}:∀ {ls:List AV} {cs:List Value},AsR ρ B w ls cs→ls.length=cs.length
 | [],[],_=>rfl
 | _ ::_,_ ::_,h=>congrArg (· +1) (AsR.len h.2)
/-- The results of a frame. -/
def UJ(P:Program)(s:AS)(rs:List ResultVar)(r:AV):Prop:=∀ (ρ:nD) (B0:BS) (w0:Wz) (w:World) (a:Act),fU ρ B0 w0 w s.hp→gq ρ (Bd ρ B0) w s.sl a→∃ vs:List Value,(rs.mapM (V8 a.tmps)).run P w= .ok vs w∧AR ρ (Bd ρ B0) w r (Ru vs)
theorem Az{P:Program}{T:TypeId→Option TI}(hT:Bj P T){s:AS}{rs:List ResultVar}{es:List DV}{r:AV}(h:EY T s rs=some es)(k:AV.le (JV es) r):UJ P s rs r:=by
 intro ρ B0 w0 w a hc hs;obtain ⟨vs,h1,h2⟩:=FW hT hc hs _ _ h;exact ⟨vs,h1,k _ _ _ _ (ZU h2)⟩
theorem qm{P:Program}{s:AS}{t:Nat}{av:AV}(h:lk s.sl t=some av):UJ P s [.tmp t] av:=by
 intro ρ B0 w0 w a hc hs;obtain ⟨v,h1,h2⟩:=hs t _ h;refine ⟨[v],?_,h2⟩;have hv:(V8 a.tmps (.tmp t)).run P w= .ok v w:=by simp [V8,Array.getD_eq_getD_getElem?,h1]
 rw [List.mapM_cons,Sem.run_bind,hv];rfl
/-- The post of a function's body that is lent objects. -/
def aaT(P:Program)(rs:List ResultVar)(wo:List Nat)(Q:AV→List (Nat×AO)→Prop):Qs
 | .normal,s | .ret,s=>∃ r0 r hp' sl',Q r hp'∧UJ P s rs r0∧Wk ⟨s.n+1,(s.n,r0) ::s.sl,s.hp⟩ ⟨s.n+1,(s.n,r) ::sl',hp'⟩∧tX (fun id=>∃ t av,lk ((s.n,r) ::sl') t=some av∧wY av=some id) wo
 | _,_=>False
theorem rL{P:Program}{rs:List ResultVar}{wo:List Nat}{Q:AV→List (Nat×AO)→Prop}{s:AS}(r0 r:AV)(hp':List (Nat×AO))(sl':List (Nat×AV))(h1:Q r hp')(h2:UJ P s rs r0)(h3:Wk ⟨s.n+1,(s.n,r0) ::s.sl,s.hp⟩ ⟨s.n+1,(s.n,r) ::sl',hp'⟩)(h4:tX (fun id=>∃ t av,lk ((s.n,r) ::sl') t=some av∧wY av=some id) wo):aaT P rs wo Q .ret s:=⟨r0,r,hp',sl',h1,h2,h3,h4⟩
theorem rLn{P:Program}{rs:List ResultVar}{wo:List Nat}{Q:AV→List (Nat×AO)→Prop}{s:AS}(r0 r:AV)(hp':List (Nat×AO))(sl':List (Nat×AV))(h1:Q r hp')(h2:UJ P s rs r0)(h3:Wk ⟨s.n+1,(s.n,r0) ::s.sl,s.hp⟩ ⟨s.n+1,(s.n,r) ::sl',hp'⟩)(h4:tX (fun id=>∃ t av,lk ((s.n,r) ::sl') t=some av∧wY av=some id) wo):aaT P rs wo Q .normal s:=⟨r0,r,hp',sl',h1,h2,h3,h4⟩
theorem afa{P : Program}{f : FuncId}{fn : Func}{c : Code}{args : List AV}{hp : List (Nat × AO)}{wi wo : List Nat}{Q : AV → List (Nat × AO) → Prop}(ws : List (Nat × Nat))(hf : P.funcs[f]? = some fn)(hb : fn.body = some c)(hnm : (fn.name == "runtime.NumGoroutine") = false)(hlen : Nat.ble args.length fn.ntmps = true) 
  (hws:∀ t id,(t,id)∈ws→args.length≤t∧t < fn.ntmps∧id∈wi)
  (h:AW P c (aaT P fn.results.toList wo Q) ⟨fn.ntmps,y7 0 args ++ws.map fun p=>(p.1,.wit p.2),hp⟩):lY P f args hp wi wo Q:=by
 refine ⟨fun vs w=>?_,fun ρ B w vs hc hal hvs=>?_⟩
 ·have hnm' : ¬ fn.name = "runtime.NumGoroutine" := by simpa using hnm
  simp [callFunc,hf,hb,hnm']
 ·refine calls_of_wp hf hb ?_
  have hle:=Nat.le_of_ble_eq_true hlen;have hvl:=hvs.len;have hden:J6 ⟨fn.ntmps,y7 0 args ++ws.map fun p=>(p.1,.wit p.2),hp⟩ B ⟨w,Bg ρ⟩ {tmps:=vs.toArray ++Array.replicate (fn.ntmps-vs.toArray.size) undef,defers:= []} w:=by
   refine ⟨ρ,hc,by simp;omega,rfl,fun t av ht=>?_⟩;have key:∀ {l1 l2:List (Nat×AV)} {t:Nat} {av:AV},lk (l1 ++l2) t=some av→lk l1 t=some av∨(t,av)∈l2:=by
    intro l1
    induction l1 with
    | nil=>intro l2 t av h;exact Or.inr (rH h)
    | cons p l1 ih=>
     intro l2 t av h;obtain ⟨k,x⟩:=p;rw [List.cons_append,aV] at h;rw [aV];split at h
     ·rename_i e;cases h;exact Or.inl (by rw [if_pos e])
     ·rename_i e;rw [if_neg e];exact ih h
   rcases key ht with ht | ht
   ·obtain ⟨k,v,h1,h2,h3⟩:=Ig hvs ht
    refine ⟨v,?_,h3⟩;have hk:=(List.getElem?_eq_some_iff.1 h2).1;rw [h1,Nat.zero_add,Array.getElem?_append_left (by simpa using hk)];simpa using h2
   ·obtain ⟨p,hp1,hp2⟩:=List.mem_map.1 ht
    obtain ⟨t',id⟩:=p;cases hp2
    obtain ⟨h1,h2,h3⟩:=hws _ _ hp1;obtain ⟨v,hv⟩:=hal id h3;refine ⟨undef,?_,v,hv⟩;rw [Array.getElem?_append_right (by simp;omega),Array.getElem?_replicate,if_pos (by simp;omega)]
  refine Code.wp_mono (fun e a w' hq=>?_) (h B ⟨w,Bg ρ⟩ _ w hden);obtain ⟨s',hq,ρ1,hc1,hn1,Yj,hs1⟩:=hq;have fin:(∃ r0 r hp' sl',Q r hp'∧UJ P s' fn.results.toList r0∧Wk ⟨s'.n+1,(s'.n,r0) ::s'.sl,s'.hp⟩ ⟨s'.n+1,(s'.n,r) ::sl',hp'⟩∧tX (fun id=>∃ t av,lk ((s'.n,r) ::sl') t=some av∧wY av=some id) wo)→
    ∃ v,(results fn a.tmps).run P w'= .ok v w'∧∃ u ρ' r hp',Ending.returned v= .returned u∧Q r hp'∧fU ρ' B ⟨w,Bg ρ⟩ w' hp'∧Al ρ' wo∧AR ρ' (Bd ρ' B) w' r u:=by
   rintro ⟨r0,r,hp',sl',h1,h2,h3,h4⟩;obtain ⟨us,h5,h6⟩:=h2 ρ1 B ⟨w,Bg ρ⟩ w' a hc1 hs1;have hd2:J6 ⟨s'.n+1,(s'.n,r0) ::s'.sl,s'.hp⟩ B ⟨w,Bg ρ⟩ {a with tmps:=a.tmps.push (Ru us)} w':=by
    refine ⟨ρ1,hc1,by simp [hn1],Yj,fun t av ht=>?_⟩;rw [aV] at ht;split at ht
    ·rename_i e
     cases ht
     exact ⟨_,by rw [← e,← hn1];simp,h6⟩
    ·obtain ⟨v,q1,q2⟩:=hs1 t av ht
     have:=(Array.getElem?_eq_some_iff.1 q1).1;exact ⟨v,by rw [Array.getElem?_push_lt this];rw [Array.getElem?_eq_getElem this] at q1;exact q1,q2⟩
   obtain ⟨ρ2,hc2,hn2,_,hs2⟩:=h3 _ _ _ _ hd2;obtain ⟨v,q1,q2⟩:=hs2 s'.n r (by rw [aV,if_pos rfl]);have:v=Ru us:=by rw [← hn1] at q1;simpa using q1.symm
   subst this;refine ⟨_,yJ h5,_,ρ2,r,hp',rfl,h1,hc2,fun id aS=>?_,q2⟩;obtain ⟨t,av,q3,q4⟩:=h4.get id aS;obtain ⟨v,_,q5⟩:=hs2 t av q3;exact xC q4 q5
  cases e with
  | normal=>obtain ⟨v,h1,h2⟩:=fin hq;exact ⟨Yj,v,h1,h2⟩
  | ret=>obtain ⟨v,h1,h2⟩:=fin hq;exact ⟨Yj,v,h1,h2⟩
  | exit id=>exact hq.elim
  | goto l=>exact hq.elim
  | panic ch=>exact hq.elim
  | outgrown=>exact hq.elim
theorem lT{P : Program}{f : FuncId}{fn : Func}{c : Code}{args : List AV}{hp : List (Nat × AO)}{wi wo : List Nat}{Q : AV → List (Nat × AO) → Prop}(n : Nat)(rs : List ResultVar)(ws : List (Nat × Nat))(hf : P.funcs[f]? = some fn)(hb : fn.body = some c)(hnm : (fn.name == "runtime.NumGoroutine") = false)(hn : fn.ntmps = n)(hrs : fn.results.toList = rs)(hlen : Nat.ble args.length n = true) 
  (hws:tX (fun p=>args.length≤p.1∧p.1 < n∧p.2∈wi) ws)
  (h:AW P c (aaT P rs wo Q) ⟨n,y7 0 args ++ws.map fun p=>(p.1,.wit p.2),hp⟩):lY P f args hp wi wo Q:=by
 subst hn;subst hrs;exact afa ws hf hb hnm hlen (fun t id hm=>hws.get _ hm) h
/-! ### The caller -/
def rnO(m:List (Nat×Nat)):AV→Option AV
 | .d x=>some (.d x)
 | .ptr i o=>match lk m i with
  | some j=>some (.ptr j o)
  | none=>none
 | .own i=>match lk m i with
  | some j=>some (.own j)
  | none=>none
 | _=>none
def AV.rn(m:List (Nat×Nat)):AV→AV
 | .ptr i o=>match lk m i with
  | some j=> .ptr j o
  | none=> .dead
 | .own i=>match lk m i with
  | some j=> .own j
  | none=> .dead
 | .qK i xs=>match lk m i with
  | some j=> .qK j xs
  | none=> .dead
 | .d x=> .d x
 | .lK xs=> .lK xs
 | _=> .dead
def V7(m:List (Nat×Nat)):List (Nat×AO)→List (Nat×AO)
 | []=> []
 | (i,ob) ::l=>match lk m i with
  | some j=>(j,ob) ::V7 m l
  | none=>V7 m l
/-- No two have one number. -/
def YI:List (Nat×Nat)→Bool
 | []=>true
 | (_,j) ::l=>l.all (fun p=> !Nat.beq p.2 j) && YI l
theorem FM:∀ {m:List (Nat×Nat)},YI m=true→∀ {i i' j:Nat},lk m i=some j→lk m i'=some j→i=i'
 | [],_,_,_,_,h,_=>by cases h
 | (k,x) ::l,h,i,i',j,h1,h2=>by
  unfold YI at h;rw [Bool.and_eq_true] at h;rw [aV] at h1 h2;have no:∀ q,lk l q=some x→False:=fun q hq=>by
   have:=List.all_eq_true.1 h.1 _ (rH hq);simp at this
  split at h1 <;> split at h2
  ·omega
  ·cases h1;exact (no _ h2).elim
  ·cases h2;exact (no _ h1).elim
  ·exact FM h.2 h1 h2
theorem Y6{m:List (Nat×Nat)}(hm:YI m=true){l:List (Nat×AO)}{i j:Nat}(h:lk m i=some j):∀ (hp:List (Nat×AO)),lk (V7 m hp ++l) j=match lk hp i with | some ob=>some ob | none=>lk l j
 | []=>rfl
 | (k,ob) ::hp=>by
  have ih:=Y6 hm (l:=l) h hp;rw [aV];unfold V7
  by_cases e:k=i
  ·subst e
   rw [if_pos rfl,h];show lk ((j,ob) ::(V7 m hp ++l)) j=_
   rw [aV,if_pos rfl]
  ·rw [if_neg e]
   cases hk:lk m k with
   | none=>exact ih
   | some j'=>
    show lk ((j',ob) ::(V7 m hp ++l)) j=_
    rw [aV,if_neg (fun e2:j'=j=>e (FM hm (by rw [← e2];exact hk) h))];exact ih
theorem JH{m:List (Nat×Nat)}{l:List (Nat×AO)}{j:Nat}(h:∀ i,lk m i≠some j):∀ (hp:List (Nat×AO)),lk (V7 m hp ++l) j=lk l j
 | []=>rfl
 | (k,ob) ::hp=>by
  have ih:=JH (l:=l) h hp;unfold V7;cases hk:lk m k with
  | none=>exact ih
  | some j'=>
   show lk ((j',ob) ::(V7 m hp ++l)) j=_
   rw [aV,if_neg (fun e2:j'=j=>h k (by rw [← e2];exact hk))];exact ih
def AO.agC:AO→Bool
 | .sz _=>false
 | .is _ ob=>ob.agC
 | _=>true
theorem OR.lend{B B':BS}{w0 w1:Wz}{w:World}{ob:AO}{v:Value}(hn:ob.agC=true)(hB:∀ b,b < w.heap.size→B' b→B b)(ho:∀ b,jA v=some b→w1.own b)(h:OR B w0 w ob v):OR B' w1 w ob v:=by
 have hK:kL B w w:=⟨Nat.le_refl _,fun _ _ _=>rfl⟩
 induction ob with
 | box t cs=>obtain ⟨g,vs,rfl,h1,h2,h3⟩:=h;exact ⟨g,vs,rfl,ho g rfl,h2,h3.mv hK hB⟩
 | row e sz n el=>obtain ⟨xs,⟨h1,h2⟩,h3⟩:=h;exact ⟨xs,⟨h1,ho⟩,fun i j hi hj=>let ⟨x,hx,hl⟩:=h3 i j hi hj;⟨x,hx,eu.mv hK hB _ hl⟩⟩
 | «is» x ob ih=>exact ⟨h.1,ih hn h.2⟩
 | sz k=>cases hn
theorem OR.back{B B':BS}{w0 w1:Wz}{w:World}{ob:AO}{v:Value}(hs:w1.sz≤w0.sz)(hB:∀ b,b < w.heap.size→B' b→B b)(ho:∀ b,w0.own b→w1.own b)(h:OR B w0 w ob v):OR B' w1 w ob v:=by
 have hK:kL B w w:=⟨Nat.le_refl _,fun _ _ _=>rfl⟩
 induction ob with
 | box t cs=>obtain ⟨g,vs,rfl,h1,h2,h3⟩:=h;exact ⟨g,vs,rfl,ho g h1,h2,h3.mv hK hB⟩
 | row e sz n el=>obtain ⟨xs,⟨h1,h2⟩,h3⟩:=h;exact ⟨xs,⟨h1,fun b hb=>ho b (h2 b hb)⟩,fun i j hi hj=>let ⟨x,hx,hl⟩:=h3 i j hi hj;⟨x,hx,eu.mv hK hB _ hl⟩⟩
 | «is» x ob ih=>exact ⟨h.1,ih h.2⟩
 | sz k=>exact ⟨h.1,Nat.le_trans hs h.2.1,h.2.2⟩
/-- What slots say of objects that may have moved is forgotten (but that they are there). -/
def YP(ks kw:List Nat)(av:AV):AV:=match wY av with
 | some i=>bif ks.any fun k=>Nat.beq k i then (bif kw.any fun k=>Nat.beq k i then .wit i else .dead) else av
 | none=>av
def Hf(ks kw:List Nat):List (Nat×AV)→List (Nat×AV)
 | []=> []
 | (t,av) ::l=>(t,YP ks kw av) ::Hf ks kw l
theorem OH{ks kw:List Nat}:∀ {l:List (Nat×AV)} {t:Nat} {av:AV},lk (Hf ks kw l) t=some av→∃ kZ,lk l t=some kZ∧av=YP ks kw kZ
 | [],_,_,h=>by cases h
 | (k,x) ::l,t,av,h=>by
  unfold Hf at h;rw [aV] at h;rw [aV];split at h
  ·rename_i e;cases h;exact ⟨x,by rw [if_pos e],rfl⟩
  ·rename_i e;rw [if_neg e];exact OH h
theorem Zw{av:AV}{k:Nat}(h:av.on k=true):wY av=some k:=by
 cases av <;> first | (have:=Nat.eq_of_beq_eq_true h;rw [← this];rfl) | cases h
theorem alD{l:List Nat}{i:Nat}(h:(l.any fun k=>Nat.beq k i)=true):i∈l:=by
 obtain ⟨k,h1,h2⟩:=List.any_eq_true.1 h;have:=Nat.eq_of_beq_eq_true h2;subst this;exact h1
theorem LH{α:Type}:∀ (l l':List (Nat×α)) (t:Nat),lk (l ++l') t=match lk l t with | some x=>some x | none=>lk l' t
 | [],_,_=>rfl
 | (k,x) ::l,l',t=>by
  rw [List.cons_append,aV,aV];split
  ·rfl
  ·exact LH l l' t
def Jb(m:List (Nat×Nat))(s:AS):List Operand→List AV→Prop
 | [],[]=>True
 | x ::r,a ::avs=>(∃ a' b,dM s x=some a'∧AV.le a' b∧rnO m a=some b)∧Jb m s r avs
 | _,_=>False
theorem Jb.ok{m:List (Nat×Nat)}{s:AS}{ρ ρc:nD}{B Bc:BS}{w:World}{a:Act}(hs:gq ρ B w s.sl a)(hB:∀ b,b < w.heap.size→Bc b→B b)(hρ:∀ i j,lk m i=some j→ρc i=ρ j):∀ {xs:List Operand} {avs:List AV},Jb m s xs avs→AsR ρc Bc w avs (xs.map a.eval)
 | [],[],_=>trivial
 | x ::r,y ::avs,⟨⟨a',b,h1,h2,h3⟩,h⟩=>by
  refine ⟨?_,Jb.ok hs hB hρ h⟩;have h4:=h2 _ _ _ _ (bY hs h1);cases y with
  | d d=>cases h3;exact DR.mv ⟨Nat.le_refl _,fun _ _ _=>rfl⟩ hB h4
  | ptr i o=>
   simp only [rnO] at h3;split at h3
   ·rename_i j hj;cases h3;obtain ⟨g,q1,q2⟩:=h4;exact ⟨g,(hρ i j hj).trans q1,q2⟩
   ·cases h3
  | own i=>
   simp only [rnO] at h3;split at h3
   ·rename_i j hj;cases h3;obtain ⟨q1,q2⟩:=h4;exact ⟨(hρ i j hj).trans q1,q2⟩
   ·cases h3
  | _=>cases h3
 | [],_ ::_,h=>h.elim
 | _ ::_,[],h=>h.elim
/-- Slots that say of new objects that they are there. -/
def nwS(nw:List (Nat×Nat×Nat)):List (Nat×AV):=nw.map fun p=>(p.1,.wit p.2.2)
open Classical in
theorem zL{P:Program}{ops:Array Oper}{Qx:Qs}{o:Oper}{l:List Oper}{s:AS}{c:Call}{f:FuncId}{args:List AV}{hp:List (Nat×AO)}{wi wo:List Nat}{Q:AV→List (Nat×AO)→Prop}(h:lY P f args hp wi wo Q)(m mn:List (Nat×Nat))(ks kw:List Nat)(nw:List (Nat×Nat×Nat)) 
  (hc:jR o.op=some c) (hf:isF c.callee=some f) (ha:Jb m s c.args.toList args)
  (hob:tX (fun p=>∃ ob' ob,lk s.hp p.2=some ob'∧lk hp p.1=some ob∧AO.le ob' ob∧ob.agC=true) m)
  (hmn:tX (fun p=>lk s.hp p.2=none∧lk m p.1=none) mn)
  (hwi:tX (fun i=>∃ j t av,lk m i=some j∧lk s.sl t=some av∧wY av=some j) wi)
  (hks:tX (fun p=>(ks.any fun k=>Nat.beq k p.2)=true∨∃ x b,lk s.hp p.2=some (.is x b)∧p.1∈wo∧∀ r hp',Q r hp'→∃ d,lk hp' p.1=some (.is x d)) m)
  (hkw:tX (fun j=>∃ i,lk m i=some j∧i∈wo) kw)
  (hnw:tX (fun p=>Nat.ble (p.1+1) s.n=true∧p.2.1∈wo∧lk (mn ++m) p.2.1=some p.2.2) nw)
  (k:∀ r hp',Q r hp'→AL P ops Qx l (AS.put ⟨s.n,nwS nw ++Hf ks kw s.sl,V7 (mn ++m) hp' ++s.hp⟩ o.dst (r.rn (mn ++m))))
  (hm:YI (mn ++m)=true:=by rfl) (hg:jP ops s o=some true:=by rfl) (hd:kP o.dst s.n=true:=by rfl):AL P ops Qx (o ::l) s:=by
 rintro B0 w0 a w ⟨ρ,hcr,hn,hdf,hs⟩;have hmm:∀ i j,lk m i=some j→lk (mn ++m) i=some j:=by
  intro i j hi;rw [LH];cases hq:lk mn i with
  | none=>exact hi
  | some j'=>
   have:=(hmn.get _ (rH hq)).2;simp only at this;rw [hi] at this;cases this
 have hm2:∀ i j,lk (mn ++m) i=some j→lk s.hp j=none∨lk m i=some j:=by
  intro i j hi;rw [LH] at hi;cases hq:lk mn i with
  | none=>rw [hq] at hi;exact Or.inr hi
  | some j'=>rw [hq] at hi;cases hi;exact Or.inl (hmn.get _ (rH hq)).1
 obtain ⟨ρc,hρ0⟩:∃ ρc:nD,ρc=fun i=>match lk m i with | some j=>ρ j | none=>none:=⟨_,rfl⟩
 have hρc:∀ i j,lk m i=some j→ρc i=ρ j:=fun i j hi=>by rw [hρ0];simp only [hi]
 have Vj:∀ i v,ρc i=some v→∃ j,lk m i=some j∧ρ j=some v:=by
  intro i v hv;rw [hρ0] at hv;simp only at hv;split at hv
  ·rename_i j hj;exact ⟨j,hj,hv⟩
  ·cases hv
 have hLo:∀ b,Bg ρc b→w0.own b∧b < w.heap.size:=by
  rintro b ⟨i,v,h1,h2⟩;obtain ⟨j,_,h3⟩:=Vj i v h1;obtain ⟨ob,_,h4⟩:=hcr.obj j v h3;exact h4.blk b h2
 have hLB:∀ b,Bg ρc b→Bd ρ B0 b:=by
  rintro b ⟨i,v,h1,h2⟩;obtain ⟨j,_,h3⟩:=Vj i v h1;exact Or.inr ⟨j,v,h3,h2⟩
 obtain ⟨Bc,hBc⟩:∃ Bc:BS,Bc=fun b=>Bd ρ B0 b∧¬ Bg ρc b:=⟨_,rfl⟩
 have hBB:∀ b,Bd ρc Bc b→Bd ρ B0 b:=by
  rintro b (h1 | h1)
  ·rw [hBc] at h1;exact h1.1
  ·exact hLB b h1
 have hcc:fU ρc Bc ⟨w,Bg ρc⟩ w hp:=by
  refine ⟨Jc.refl _ _,fun b hb=>?_,fun i v hv=>?_,fun i i' v v' b h1 h2 h3 h4=>?_⟩
  ·rw [hBc] at hb;exact ⟨hcr.UN b hb.1,hb.2⟩
  ·obtain ⟨j,h1,h2⟩:=Vj i v hv
   obtain ⟨ob',ob,h3,h4,h5,h6⟩:=hob.get _ (rH h1);obtain ⟨ob1,h7,h8⟩:=hcr.obj j v h2;simp only at h3 h4;rw [h3] at h7;cases h7
   exact ⟨ob,h4,(h5 _ _ _ _ h8).lend h6 (fun b _ hb=>hBB b hb) (fun b hb=>Or.inr ⟨i,v,hv,hb⟩)⟩
  ·obtain ⟨j,q1,q2⟩:=Vj i v h1
   obtain ⟨j',q3,q4⟩:=Vj i' v' h2;have:=hcr.dist j j' v v' b q2 q4 h3 h4;subst this;exact FM hm (hmm _ _ q1) (hmm _ _ q3)
 have hal:Al ρc wi:=by
  intro i hi;obtain ⟨j,t,av,h1,h2,h3⟩:=hwi.get _ hi;obtain ⟨u,_,h4⟩:=hs t av h2;obtain ⟨v,h5⟩:=xC h3 h4;exact ⟨v,(hρc i j h1).trans h5⟩
 have hargs:AsR ρc (Bd ρc Bc) w args (c.args.toList.map a.eval):=Jb.ok hs (fun b _ hb=>hBB b hb) hρc ha;have hop:o.op= .call c:=by
  unfold jR at hc;split at hc
  ·rename_i h;cases hc;exact h
  ·cases hc
 have hr:(execOp a.eval o).run P w= .ok (.enter f (c.args.toList.map a.eval).toArray) w:=by
  have hf2:=Le (s:=s) hf;unfold KU at hf2;split at hf2
  ·rename_i x Ac
   split at hf2
   ·rename_i f' n caps hx
    obtain ⟨vs,hxe,hsz,hj⟩:=(bY hs hx:eu _ _ _ _);simp only [Option.some.injEq,Prod.mk.injEq] at hf2;obtain ⟨rfl,hn0⟩:=hf2;cases n with
    | succ n=>simp [NM] at hn0
    | zero=>
     have:vs=#[]:=Array.eq_empty_of_size_eq_zero hsz;subst this;unfold execOp;rw [hop];simp only [resolve,Ac,Deferred.ofValue,hxe,Sem.run_bind,Sem.run_pure,Result.andThen_ok,invoke,h.en];congr 2;rw [← Array.toList_inj];simp
   ·cases hf2
  ·cases hf2
 refine IQ (fQ hg hs) hr ((h.go ρc Bc w _ hcc hal hargs).mono ?_);rintro e w' ⟨v,ρ',r,hp',rfl,hq,hc',hal',hv⟩;refine ⟨v,rfl,k r hp' hq B0 w0 _ w' ?_⟩;obtain ⟨ρ2,hρ2⟩:∃ ρ2:nD,ρ2=fun j=>if hj:∃ i,lk (mn ++m) i=some j then ρ' hj.choose else ρ j:=⟨_,rfl⟩
 have VY:∀ i j,lk (mn ++m) i=some j→ρ2 j=ρ' i:=by
  intro i j hi;have hj:∃ i,lk (mn ++m) i=some j:=⟨i,hi⟩
  rw [hρ2];simp only [dif_pos hj];rw [FM hm hj.choose_spec hi]
 have h2b:∀ j,(∀ i,lk (mn ++m) i≠some j)→ρ2 j=ρ j:=by
  intro j hj;rw [hρ2];simp only;rw [dif_neg (fun ⟨i,hi⟩=>hj i hi)]
 have hcase:∀ j,(∃ i,lk (mn ++m) i=some j)∨∀ i,lk (mn ++m) i≠some j:=by
  intro j
  by_cases hj:∃ i,lk (mn ++m) i=some j
  ·exact Or.inl hj
  ·exact Or.inr fun i hi=>hj ⟨i,hi⟩
 have hK:kL (Bd ρ B0) w w':=⟨hc'.bel.size,fun b hb hB=>hc'.bel.blk b hb (fun hL=>hB (hLB b hL))⟩;have af0:∀ j v b,(∀ i,lk (mn ++m) i≠some j)→ρ j=some v→jA v=some b→¬ Bg ρc b:=by
  rintro j v b hj h1 h2 ⟨i,u,q1,q2⟩;obtain ⟨j',q3,q4⟩:=Vj i u q1;have:=hcr.dist j j' v u b h1 q4 h2 q2;subst this;exact hj i (hmm _ _ q3)
 have hB2:∀ b,Bd ρ2 B0 b→Bd ρ' Bc b:=by
  rintro b (hb | ⟨j,u,q1,q2⟩)
  ·refine Or.inl ?_
   rw [hBc];refine ⟨Or.inl hb,fun hL=>?_⟩;obtain ⟨h1,h2⟩:=hcr.b0 b hb;rcases (hLo b hL).1 with h3 | h3
   ·omega
   ·exact h2 h3
  ·rcases hcase j with ⟨i,hi⟩ | hj
   ·exact Or.inr ⟨i,u,(VY i j hi).symm.trans q1,q2⟩
   ·rw [h2b j hj] at q1
    refine Or.inl ?_;rw [hBc];exact ⟨Or.inr ⟨j,u,q1,q2⟩,af0 j u b hj q1 q2⟩
 have hB3:∀ b,b < w.heap.size→Bd ρ2 B0 b→Bd ρ B0 b:=by
  intro b hlt hb
  rcases hB2 b hb with h1 | ⟨i,u,q1,q2⟩
  ·rw [hBc] at h1;exact h1.1
  ·obtain ⟨ob,_,ho⟩:=hc'.obj i u q1
   rcases (ho.blk b q2).1 with h1 | h1
   ·exact absurd h1 (Nat.not_le_of_lt hlt)
   ·exact hLB b h1
 have hcore:fU ρ2 B0 w0 w' (V7 (mn ++m) hp' ++s.hp):=by
  refine ⟨hcr.bel.put hc'.bel.os hc'.bel.tape hc'.bel.output hc'.bel.size (g:=Bg ρc) (fun b hL=>(hLo b hL).1) (fun b hb hL=>hc'.bel.blk b hb hL),hcr.b0,fun j u hu=>?_,fun j j' u u' b h1 h2 h3 h4=>?_⟩
  ·rcases hcase j with ⟨i,hi⟩ | hj
   ·rw [VY i j hi] at hu
    obtain ⟨ob,q1,q2⟩:=hc'.obj i u hu;exact ⟨ob,by rw [Y6 hm hi,q1],OR.back (w0:=⟨w,Bg ρc⟩) hcr.bel.size (fun b _ hb=>hB2 b hb) (fun b hb=>hb.elim (fun h=>Or.inl (Nat.le_trans hcr.bel.size h)) (fun h=>(hLo b h).1)) q2⟩
   ·rw [h2b j hj] at hu
    obtain ⟨ob,q1,q2⟩:=hcr.obj j u hu;exact ⟨ob,by rw [JH hj];exact q1,q2.mv hK hB3 (fun b hb=>hc'.bel.blk b (q2.blk b hb).2 (af0 j u b hj hu hb))⟩
  ·have mix:∀ i j j' u u',lk (mn ++m) i=some j→(∀ i,lk (mn ++m) i≠some j')→ρ' i=some u→ρ j'=some u'→jA u=some b→jA u'=some b→False:=by
    intro i j j' u u' hi hj q1 q2 q3 q4;obtain ⟨ob,_,ho⟩:=hc'.obj i u q1;obtain ⟨ob',_,dX⟩:=hcr.obj j' u' q2
    rcases (ho.blk b q3).1 with h5 | h5
    ·exact absurd h5 (Nat.not_le_of_lt (dX.blk b q4).2)
    ·exact af0 j' u' b hj q2 q4 h5
   rcases hcase j with ⟨i,hi⟩ | hj <;> rcases hcase j' with ⟨i',hi'⟩ | hj'
   ·rw [VY i j hi] at h1
    rw [VY i' j' hi'] at h2;have:=hc'.dist i i' u u' b h1 h2 h3 h4;subst this;rw [hi] at hi';cases hi';rfl
   ·rw [VY i j hi] at h1
    rw [h2b j' hj'] at h2;exact (mix i j j' u u' hi hj' h1 h2 h3 h4).elim
   ·rw [h2b j hj] at h1
    rw [VY i' j' hi'] at h2;exact (mix i' j' j u' u hi' hj h2 h1 h4 h3).elim
   ·rw [h2b j hj] at h1
    rw [h2b j' hj'] at h2;exact hcr.dist j j' u u' b h1 h2 h3 h4
 have fM:gq ρ2 (Bd ρ2 B0) w' (nwS nw ++Hf ks kw s.sl) a:=by
  intro t av ht;rw [LH] at ht;cases hnq:lk (nwS nw) t with
  | some kZ=>
   rw [hnq] at ht;cases ht
   obtain ⟨p,hp1,hp2⟩:=List.mem_map.1 (rH hnq);obtain ⟨q1,q2,q3⟩:=hnw.get _ hp1;cases hp2
   have hlt:p.1 < a.tmps.size:=by rw [hn];exact Nat.le_of_ble_eq_true q1
   obtain ⟨y,hy⟩:=hal' _ q2;exact ⟨a.tmps[p.1],Array.getElem?_eq_getElem hlt,y,(VY _ _ q3).trans hy⟩
  | none=>
  rw [hnq] at ht
  replace ht:lk (Hf ks kw s.sl) t=some av:=ht
  obtain ⟨kZ,q1,rfl⟩:=OH ht;obtain ⟨u,q2,q3⟩:=hs t kZ q1;refine ⟨u,q2,?_⟩;unfold YP;cases hi:wY kZ with
  | none=>exact AR.mv hK hB3 (fun k hk=>by rw [Zw hk] at hi;cases hi) q3
  | some j=>
   simp only;cases hkk:ks.any fun k=>Nat.beq k j with
   | true=>
    rw [cond_true];cases hww:kw.any fun k=>Nat.beq k j with
    | true=>
     obtain ⟨i,q4,q5⟩:=hkw.get _ (alD hww);obtain ⟨y,hy⟩:=hal' i q5;exact ⟨y,(VY i j (hmm _ _ q4)).trans hy⟩
    | false=>trivial
   | false=>
    rw [cond_false];refine AR.mv hK hB3 (fun k hk=>?_) q3;rw [Zw hk] at hi;cases hi
    obtain ⟨y,hy⟩:=xC (Zw hk) q3;obtain ⟨ob,q4,q5⟩:=hcr.obj j y hy;rcases hcase j with ⟨i,hi⟩ | hj
    ·rcases hm2 i j hi with q6 | q6
     ·rw [q6] at q4;cases q4
     ·rcases hks.get _ (rH q6) with q7 | ⟨x,b,q7,q8,q9⟩
      ·simp only at q7;rw [hkk] at q7;cases q7
      ·simp only at q7 q8 q9
       rw [q7] at q4;cases q4
       obtain ⟨d,q10⟩:=q9 r hp' hq;obtain ⟨z,hz⟩:=hal' i q8;obtain ⟨ob2,q11,q12⟩:=hc'.obj i z hz;rw [q10] at q11;cases q11
       rw [VY i j hi,hz,hy,q12.1,q5.1]
    ·exact h2b j hj
 have hv':AR ρ2 (Bd ρ2 B0) w' (r.rn (mn ++m)) v:=by
  have hK0:kL (Bd ρ' Bc) w' w':=⟨Nat.le_refl _,fun _ _ _=>rfl⟩;cases r with
  | d x=>exact DR.mv hK0 (fun b _ hb=>hB2 b hb) hv
  | lK xs=>obtain ⟨cs,q1,q2⟩:=hv;exact ⟨cs,q1,q2.mv hK0 (fun b _ hb=>hB2 b hb)⟩
  | ptr i off=>
   simp only [AV.rn];split
   ·rename_i j hj;obtain ⟨g,q1,q2⟩:=hv;exact ⟨g,(VY i j hj).trans q1,q2⟩
   ·trivial
  | own i=>
   simp only [AV.rn];split
   ·rename_i j hj;obtain ⟨q1,q2⟩:=hv;exact ⟨(VY i j hj).trans q1,q2⟩
   ·trivial
  | qK i xs=>
   simp only [AV.rn];split
   ·rename_i j hj;obtain ⟨g,q1,cs,q2,q3⟩:=hv;exact ⟨g,(VY i j hj).trans q1,cs,q2,q3.mv hK0 (fun b _ hb=>hB2 b hb)⟩
   ·trivial
  | _=>trivial
 exact lU (s:=⟨s.n,nwS nw ++Hf ks kw s.sl,V7 (mn ++m) hp' ++s.hp⟩) hcore hn hdf fM hd hv'
/-! ### Names, witnesses, nil -/
section
variable {P:Program} {ops:Array Oper} {Q:Qs} {l:List Oper} {s:AS} {o:Oper}
theorem fU.name{ρ:nD}{B0:BS}{w0:Wz}{w:World}{hp:List (Nat×AO)}{id:Nat}{ob:AO}(hc:fU ρ B0 w0 w hp)(h:lk hp id=some ob):∃ x,fU ρ B0 w0 w ((id,.is x ob) ::hp):=by
 cases hρ:ρ id with
 | none=>exact ⟨undef,hc.bel,hc.b0,fun j v hj=>by
   obtain ⟨ob',q1,q2⟩:=hc.obj j v hj;have hne:id≠j:=fun e=>by subst e;rw [hρ] at hj;cases hj
   exact ⟨ob',by rw [aV,if_neg hne];exact q1,q2⟩,hc.dist⟩
 | some x=>exact ⟨x,hc.bel,hc.b0,fun j v hj=>by
   obtain ⟨ob',q1,q2⟩:=hc.obj j v hj
   by_cases e:id=j
   ·subst e
    rw [h] at q1;cases q1
    rw [hρ] at hj;cases hj
    exact ⟨.is x ob,by rw [aV,if_pos rfl],rfl,q2⟩
   ·exact ⟨ob',by rw [aV,if_neg e];exact q1,q2⟩,hc.dist⟩
theorem mNm(id:Nat){ob:AO}(h:lk s.hp id=some ob)(k:∀ x,AL P ops Q l ⟨s.n,s.sl,(id,.is x ob) ::s.hp⟩):AL P ops Q l s:=by
 rintro B0 w0 a w ⟨ρ,hc,hn,hdf,hs⟩;obtain ⟨x,hx⟩:=hc.name h;exact k x B0 w0 a w ⟨ρ,hx,hn,hdf,hs⟩
/-- A value that has an object's name is that object. -/
theorem lD(t tw id:Nat){av:AV}{x:Value}{ob:AO}(h1:lk s.sl t=some (.d (.one (.v x))))(hw:lk s.sl tw=some av)(hi:wY av=some id)(h2:lk s.hp id=some (.is x ob)):Wk s ⟨s.n,(t,ob.un.av id) ::s.sl,s.hp⟩:=by
 rintro B0 w0 a w ⟨ρ,hc,hn,hdf,hs⟩;obtain ⟨v,hv,e,_⟩:=hs t _ h1;subst e;obtain ⟨u,_,hu⟩:=hs tw _ hw;obtain ⟨y,hy⟩:=xC hi hu;obtain ⟨ob',q1,q2⟩:=hc.obj id y hy;rw [h2] at q1;cases q1
 obtain ⟨e,q2⟩:=q2;subst e;exact ⟨ρ,hc,hn,hdf,rZ hs hv (AO.Gl q2.un hy)⟩
/-- A pointer to an object passes. -/
theorem eG{x:Operand}{id off:Nat}(hop:o.op= .nilCheck x)(hx:dM s x=some (.ptr id off)):EvX P s o (.ptr id off):=by
 intro ρ B w a ho;obtain ⟨g,h1,e1⟩:AR ρ B w (.ptr id off) (a.eval x):=ho x (by rw [hop];simp [Op.operands]) _ hx;refine ⟨_,?_,g,h1,rfl⟩;unfold execOp;rw [hop];simp only [e1];rfl
/-- An array's element. -/
theorem PU{t elem:TypeId}{te:TI}{len i:Nat}{x ix:Operand}{ls:List Lf}{k:IntKind}{d:DV}(hop:o.op= .index t x ix)(hu:P.underlying t=some (.array len elem))(hte:gI P elem=some te)(hx:dM s x=some (.d (.agg ls)))(hi:dM s ix=some (.d (.one (.v (.int k ((i:Nat):Int))))))(hlt:i < len)(hp:CU te ls (i*te.n)=some d):EvX P s o (.d d):=by
 intro ρ B w a ho;obtain ⟨cs,hxe,hl⟩:DR B w (.agg ls) (a.eval x):=ho x (by rw [hop];simp [Op.operands]) _ hx;have hie:a.eval ix= .int k ((i:Nat):Int):=(ho ix (by rw [hop];simp [Op.operands]) _ hi:eu _ _ _ _).1;obtain ⟨v,hr,hv⟩:=OX (P:=P) hte hp hl;obtain ⟨inf,z,dd,h1,h2,h3,h4,_⟩:=dA hte;refine ⟨v,?_,hv⟩;unfold execOp;rw [hop];refine dF ?_;rw [hxe,hie];have hz:0≤((i:Nat):Int)∧((i:Nat):Int) < (len:Int):=⟨by omega,by omega⟩;simp only [Instr.index,asIntOf,Sem.run_bind,Sem.run_pure,Result.andThen_ok,run_underlying hu,sizeOf,typeInfo,run_program,h1,h4];rw [if_pos hz];simpa [h1,h4] using hr
theorem Iz{P:Program}(w:World)(d:Nat)(t e:TypeId)(a:Addr)(hu:P.underlying t=some (.pointer e)):(Op.equalIn (d+1) t (.pointer (some a)) (.pointer none)).run P w= .ok false w:=by
 simp [Op.equalIn,run_underlying hu]
theorem ML{P:Program}(w:World)(t e:TypeId)(a:Addr)(hu:P.underlying t=some (.pointer e)):(Op.equal t (.pointer (some a)) (.pointer none)).run P w= .ok false w:=Iz w 9999 t e a hu
/-- A pointer to an object is not nil. -/
theorem xPn{x y:Operand}{op:BinOp}{t e:TypeId}{yt:TypeId}{id off:Nat}(b:Bool)(hop:o.op= .binOp op t x y yt)(hb:(op= .eql∧b=false)∨(op= .neq∧b=true))(hu:P.underlying t=some (.pointer e))(hx:dM s x=some (.ptr id off))(hy:dM s y=some (.d (.one (.v (.pointer none))))):EvX P s o (.d (.one (.v (.bool b)))):=by
 intro ρ B w a ho;obtain ⟨g,h1,e1⟩:AR ρ B w (.ptr id off) (a.eval x):=ho x (by rw [hop];simp [Op.operands]) _ hx;have e2:a.eval y= .pointer none:=(ho y (by rw [hop];simp [Op.operands]) _ hy:eu _ _ _ _).1;refine ⟨.bool b,?_,rfl,rfl⟩;unfold execOp;rw [hop];refine dF ?_;rw [e1,e2];have hg:(eqGuard op t x y (.pointer (some ⟨g,off,none⟩)) (.pointer none)).run P w= .ok () w:=by cases op <;> rfl
 rw [Sem.run_bind,hg,Result.andThen_ok];rcases hb with ⟨rfl,rfl⟩ | ⟨rfl,rfl⟩ <;> simp [binOp,ML w t e _ hu]
end
/-! ### Signs -/
def eP(x:Rat):Int:=if x < 0 then -1 else if 0 < x then 1 else 0
theorem iT{x:Rat}(h:x < 0):eP x= -1:=if_pos h
theorem gX{x:Rat}(h:0 < x):eP x=1:=by unfold eP;rw [if_neg (by grind),if_pos h]
theorem rY:eP 0=0:=by decide
theorem dW(x:Rat):(x < 0∧eP x= -1)∨(x=0∧eP x=0)∨(0 < x∧eP x=1):=by
 by_cases h:x < 0
 ·exact Or.inl ⟨h,iT h⟩
 ·by_cases h2:0 < x
  ·exact Or.inr (Or.inr ⟨h2,gX h2⟩)
  ·have:x=0:=by grind
   subst this;exact Or.inr (Or.inl ⟨rfl,rY⟩)
theorem fF{x:Rat}:eP x=0↔x=0:=by rcases dW x with ⟨h,e⟩ | ⟨h,e⟩ | ⟨h,e⟩ <;> rw [e] <;> constructor <;> intro h' <;> grind
theorem Df(x y:Rat):eP (x*y)=eP x*eP y:=by
 rcases dW x with ⟨h,e⟩ | ⟨h,e⟩ | ⟨h,e⟩ <;> rcases dW y with ⟨k,f⟩ | ⟨k,f⟩ | ⟨k,f⟩ <;> rw [e,f]
 ·have:0 < x*y:=by have:=Rat.mul_pos (a:= -x) (b:= -y) (by grind) (by grind);grind
  rw [gX this];rfl
 ·rw [k,Rat.mul_zero,rY];rfl
 ·have:x*y < 0:=by have:=Rat.mul_pos (a:= -x) (b:=y) (by grind) (by grind);grind
  rw [iT this];rfl
 ·rw [h,Rat.zero_mul,rY];rfl
 ·rw [h,Rat.zero_mul,rY];rfl
 ·rw [h,Rat.zero_mul,rY];rfl
 ·have:x*y < 0:=by have:=Rat.mul_pos (a:=x) (b:= -y) (by grind) (by grind);grind
  rw [iT this];rfl
 ·rw [k,Rat.mul_zero,rY];rfl
 ·rw [gX (Rat.mul_pos h k)];rfl
/-- How often signs turn, noughts left out. -/
def AU(last:Int):List Int→Nat
 | []=>0
 | s ::l=>if s=0 then AU last l else (if last= -s then 1 else 0)+AU s l
def vr(l:List Int):Nat:=AU 0 l
/-- Two rows of signs behind a sign that both have. -/
inductive Wj:Int→List Int→List Int→Prop
 | nil (s:Int):Wj s [] []
 | good {s a:Int} {l m:List Int} (h:a=1∨a= -1) (k:Wj a l m):Wj s (a ::l) (a ::m)
 | bad {s a b:Int} {l m:List Int} (h:a=1∨a= -1∨a=0) (h':b=1∨b= -1∨b=0) (k:Wj (-s) l m):Wj s (a :: -s ::l) (b :: -s ::m)
theorem Wj.vr{s:Int}{l m:List Int}(h:Wj s l m):(s=1∨s= -1)→AU s l=AU s m:=by
 induction h with
 | nil s=>intro _;rfl
 | good h k ih=>
  intro _;rename_i a l m _;have ha:a≠0:=by omega
  simp only [AU,if_neg ha,ih h]
 | @bad s a b l m h h' k ih=>
  intro hs;have e:=ih (by omega);have key:∀ c:Int,c=1∨c= -1∨c=0→∀ q,AU s (c :: -s ::q)=1+AU (-s) q:=by
   intro c hc q;show (if c=0 then AU s (-s ::q) else (if s= -c then 1 else 0)+AU c (-s ::q))=_
   have g:∀ t:Int,AU t (-s ::q)=(if t=s then 1 else 0)+AU (-s) q:=by
    intro t;show (if -s=0 then _ else (if t= - -s then 1 else 0)+AU (-s) q)=_
    rw [if_neg (by omega),Int.neg_neg]
   rw [g,g];rcases hs with rfl | rfl <;> rcases hc with rfl | rfl | rfl <;> simp
  rw [key a h,key b h',e]
abbrev Fn:=Rat→Rat
def VE(l:List Fn)(x:Rat):List Int:=l.map fun f=>eP (f x)
/-- As great as m, above or below 0. -/
def oh(x m:Rat):Prop:=m≤x∨x≤-m
/-- Within [-B, B]. -/
def In(B x:Rat):Prop:= -B≤x∧x≤B
def Qa(B:Rat)(f:Fn)(L:Rat):Prop:=∀ x y,In B x→In B y→x≤y→f y-f x≤L*(y-x)∧f x-f y≤L*(y-x)
/-- One sign on a cell. -/
def Gd(f:Fn)(x y:Rat):Prop:=eP (f x)≠0∧(∀ t,x≤t→t≤y→eP (f t)=eP (f x))∧∃ e,0 < e∧∀ t,x≤t→t≤y→oh (f t) e
theorem vk{x:Rat}(h:eP x≠0):eP x=1∨eP x= -1:=by rcases dW x with ⟨_,e⟩ | ⟨_,e⟩ | ⟨_,e⟩ <;> omega
theorem Ry(x:Rat):eP x=1∨eP x= -1∨eP x=0:=by rcases dW x with ⟨_,e⟩ | ⟨_,e⟩ | ⟨_,e⟩ <;> omega
theorem Jz{B L m:Rat}{f:Fn}{x y:Rat}(hl:Qa B f L)(hL:0≤L)(hx:In B x)(hy:In B y)(hm:0 < m)(hd:L*(y-x) < m)(hf:oh (f x) m):Gd f x y:=by
 have key:∀ t,x≤t→t≤y→f t-f x < m∧f x-f t < m:=by
  intro t h1 h2;have:=hl x t hx ⟨by have:=hx.1;grind,by have:=hy.2;grind⟩ h1;have h3:L*(t-x)≤L*(y-x):=Rat.mul_le_mul_of_nonneg_left (by grind) hL;grind
 have key2:∀ t,x≤t→t≤y→f t-f x≤L*(y-x)∧f x-f t≤L*(y-x):=by
  intro t h1 h2;have:=hl x t hx ⟨by have:=hx.1;grind,by have:=hy.2;grind⟩ h1;have h3:L*(t-x)≤L*(y-x):=Rat.mul_le_mul_of_nonneg_left (by grind) hL;constructor <;> grind
 rcases hf with hf | hf
 ·have h0:eP (f x)=1:=gX (by grind)
  refine ⟨by rw [h0];decide,fun t h1 h2=>?_,m-L*(y-x),by grind,fun t h1 h2=>Or.inl (by have:=key2 t h1 h2;grind)⟩;rw [h0];exact gX (by have:=key t h1 h2;grind)
 ·have h0:eP (f x)= -1:=iT (by grind)
  refine ⟨by rw [h0];decide,fun t h1 h2=>?_,m-L*(y-x),by grind,fun t h1 h2=>Or.inr (by have:=key2 t h1 h2;grind)⟩;rw [h0];exact iT (by have:=key t h1 h2;grind)
/-- A chain: a, b and what follows. -/
def Chn(B:Rat):Fn→Fn→List Fn→Prop
 | _,b,[]=>∃ c,c≠0∧∀ x,b x=c
 | a,b,c ::l=>(∃ (Q:Fn) (M k:Rat),0≤M∧0 < k∧(∀ x,In B x→-M≤Q x∧Q x≤M)∧∀ x,a x=Q x*b x-k*c x)∧Chn B b c l
def Qc(B L:Rat)(l:List Fn):Prop:=∀ f∈l,Qa B f L
theorem Zj{q b M m:Rat}(h1: -M≤q)(h2:q≤M)(h3: -m≤b)(h4:b≤m): -(M*m)≤q*b∧q*b≤M*m:=by
 have a1:=Rat.mul_nonneg (a:=M-q) (b:=m+b) (by grind) (by grind);have a2:=Rat.mul_nonneg (a:=M+q) (b:=m-b) (by grind) (by grind);have a3:=Rat.mul_nonneg (a:=M-q) (b:=m-b) (by grind) (by grind);have a4:=Rat.mul_nonneg (a:=M+q) (b:=m+b) (by grind) (by grind);constructor <;> grind
theorem gG{L m:Rat}(hL:0≤L)(hm:0 < m):∃ d,0 < d∧∀ z,0 < z→z < d→L*z < m:=by
 refine ⟨m / (L+1),?_,fun z hz h=>?_⟩
 ·rw [Rat.div_def];exact Rat.mul_pos hm (Rat.inv_pos.2 (by grind))
 ·have h1:(m / (L+1))*(L+1)=m:=Rat.div_mul_cancel (by grind)
  have h2:z*(L+1) < (m / (L+1))*(L+1):=Rat.mul_lt_mul_of_pos_right h (by grind);grind
theorem jT{a b:Rat}(ha:0 < a)(hb:0 < b):∃ d,0 < d∧d≤a∧d≤b:=by
 by_cases h:a≤b
 ·exact ⟨a,ha,by grind,h⟩
 ·exact ⟨b,hb,by grind,by grind⟩
theorem NR{B:Rat}:∀ (l:List Fn) (a b:Fn) (L:Rat),0≤L→Qc B L (a ::b ::l)→Chn B a b l→∃ m d:Rat,0 < m∧0 < d∧(∀ x,In B x→oh (a x) m∨oh (b x) m)∧
  ∀ x y,In B x→In B y→x < y→y-x < d→(oh (b x) m→Gd b x y∧Wj (eP (b x)) (VE l x) (VE l y))∧(¬ oh (b x) m→Gd a x y∧Wj (eP (a x)) (VE (b ::l) x) (VE (b ::l) y))
 | [],a,b,L,hL,Ou,⟨c,hc,hbc⟩=>by
  obtain ⟨m,hm,hf⟩:∃ m:Rat,0 < m∧oh c m:=by
   by_cases h:0 < c
   ·exact ⟨c,h,Or.inl (by grind)⟩
   ·exact ⟨-c,by grind,Or.inr (by grind)⟩
  obtain ⟨d,hd,hsm⟩:=gG hL hm;refine ⟨m,d,hm,hd,fun x _=>Or.inr (by rw [hbc];exact hf),fun x y hx hy hxy h=>⟨fun hfb=>⟨Jz (Ou b (by simp)) hL hx hy hm (hsm _ (by grind) h) hfb,.nil _⟩,fun hn=>absurd (by rw [hbc];exact hf) hn⟩⟩
 | c ::l,a,b,L,hL,Ou,⟨⟨Q,M,k,hM,hk,hQ,hrel⟩,hch⟩=>by
  obtain ⟨m',d',hm',hd',Yv,hcell⟩:=NR l b c L hL (fun f hf=>Ou f (List.mem_cons_of_mem _ hf)) hch;have hpos:0 < M+1+k:=by grind
  obtain ⟨m,hmd⟩:∃ m:Rat,m*(M+1+k)=m'*k:=⟨m'*k / (M+1+k),Rat.div_mul_cancel (by grind)⟩
  have hmk:=Rat.mul_pos hm' hk;have hm:0 < m:=by
   by_cases h:0 < m
   ·exact h
   ·have:=Rat.mul_nonneg (a:= -m) (b:=M+1+k) (by grind) (by grind);grind
  have hle:m≤m':=by
   by_cases h:m' < m
   ·have h1:=Rat.mul_pos (a:=m-m') (b:=M+1+k) (by grind) hpos
    have h2:=Rat.mul_nonneg (a:=m') (b:=M+1) (by grind) (by grind);grind
   ·grind
  have hMm:M*m+m < k*m':=by have:=Rat.mul_pos hk hm;grind
  have hsmall:∀ x,In B x→¬ oh (b x) m→oh (c x) m'∧oh (a x) m∧eP (c x)= - eP (a x):=by
   intro x hx hn;have hb: -m≤b x∧b x≤m:=by unfold oh at hn;grind
   have hc:oh (c x) m':=by
    rcases Yv x hx with h | h
    ·exfalso;apply hn;rcases h with h | h
     ·exact Or.inl (by grind)
     ·exact Or.inr (by grind)
    ·exact h
   have hq:=Zj (hQ x hx).1 (hQ x hx).2 hb.1 hb.2;have ha:=hrel x;rcases hc with hc | hc
   ·have h1:k*m'≤k*c x:=Rat.mul_le_mul_of_nonneg_left hc (by grind)
    have h2:a x≤-m:=by grind
    exact ⟨Or.inl hc,Or.inr h2,by rw [gX (by grind),iT (by grind)];rfl⟩
   ·have h1:k*c x≤k*(-m'):=Rat.mul_le_mul_of_nonneg_left hc (by grind)
    have h2:m≤a x:=by grind
    exact ⟨Or.inr hc,Or.inl h2,by rw [iT (by grind),gX (by grind)]⟩
  obtain ⟨d1,hd1,hsm⟩:=gG hL hm;obtain ⟨d,hd,hle1,hle2⟩:=jT hd1 hd';refine ⟨m,d,hm,hd,fun x hx=>?_,fun x y hx hy hxy h=>⟨fun hf=>?_,fun hn=>?_⟩⟩
  ·by_cases hf:oh (b x) m
   ·exact Or.inr hf
   ·exact Or.inl (hsmall x hx hf).2.1
  ·have hg:=Jz (Ou b (by simp)) hL hx hy hm (hsm _ (by grind) (by grind)) hf
   refine ⟨hg,?_⟩;obtain ⟨h1,h2⟩:=hcell x y hx hy hxy (by grind)
   by_cases hfc:oh (c x) m'
   ·obtain ⟨hgc,hk⟩:=h1 hfc
    show Wj _ (eP (c x) ::VE l x) (eP (c y) ::VE l y)
    rw [hgc.2.1 y (by grind) (by grind)];exact .good (vk hgc.1) hk
   ·exact (h2 hfc).2
  ·obtain ⟨hfc,hfa,hs⟩:=hsmall x hx hn
   obtain ⟨hgc,hk⟩:=(hcell x y hx hy hxy (by grind)).1 hfc;refine ⟨Jz (Ou a (by simp)) hL hx hy hm (hsm _ (by grind) (by grind)) hfa,?_⟩;show Wj _ (eP (b x) ::eP (c x) ::VE l x) (eP (b y) ::eP (c y) ::VE l y)
   rw [hgc.2.1 y (by grind) (by grind),hs];exact .bad (Ry _) (Ry _) (by rw [← hs];exact hk)
/-- STURM's CHAIN of f: g goes with its derivative; l follows. -/
structure I4(f g:Fn)(l:List Fn):Prop where
 ch:∀ B,Chn B f g l
 Y4:∀ B,∃ L,0≤L∧Qc B L (f ::g ::l)
 zF:∃ d,0 < d∧∀ B,∃ E,0≤E∧∀ s t,In B s→In B t→s≤t→(f t-f s)-(t-s)*(d*g s)≤(t-s)*((t-s)*E)∧(t-s)*(d*g s)-(f t-f s)≤(t-s)*((t-s)*E)
def Vr(f g:Fn)(l:List Fn)(x:Rat):Nat:=vr (VE (f ::g ::l) x)
/-- The sign just after x. -/
def wX(f g:Fn)(x:Rat):Int:=if eP (f x)=0 then eP (g x) else eP (f x)
theorem Uy{s t:Int}{q:List Int}(ht:t=1∨t= -1)(hs:s=1∨s= -1∨s=0):vr (s ::t ::q)=(if s= -t then 1 else 0)+AU t q:=by
 show (if s=0 then AU 0 (t ::q) else (if (0:Int)= -s then 1 else 0)+AU s (t ::q))=_
 have g:∀ u:Int,AU u (t ::q)=(if u= -t then 1 else 0)+AU t q:=by
  intro u;show (if t=0 then _ else (if u= -t then 1 else 0)+AU t q)=_
  rw [if_neg (by omega)]
 rw [g,g];rcases ht with rfl | rfl <;> rcases hs with rfl | rfl | rfl <;> simp
theorem UA{s:Int}{q:List Int}(hs:s=1∨s= -1):vr (s ::q)=AU s q:=by
 show (if s=0 then _ else (if (0:Int)= -s then 1 else 0)+AU s q)=_
 rw [if_neg (by omega),if_neg (by omega),Nat.zero_add]
/-- WHAT A SHORT CELL IS LIKE. -/
def ahB(f g:Fn)(l:List Fn)(x y:Rat):Prop:=
 (Gd f x y∧Vr f g l x=Vr f g l y)∨
 ∃ τ:Int,(τ=1∨τ= -1)∧(∀ t,x≤t→t≤y→eP (g t)=τ)∧(∀ s t,x≤s→s < t→t≤y→eP (f t-f s)=τ)∧Vr f g l x+(if eP (f y)= -τ then 1 else 0)=Vr f g l y+(if eP (f x)= -τ then 1 else 0)
theorem su{f g:Fn}{l:List Fn}(h:I4 f g l)(B:Rat):∃ δ:Rat,0 < δ∧(∀ x,In B x→wX f g x≠0)∧∀ x y,In B x→In B y→x < y→y-x < δ→ahB f g l x y:=by
 obtain ⟨L,hL,Ou⟩:=h.Y4 B;obtain ⟨d,hd,Vg⟩:=h.zF;obtain ⟨E,hE,Vg⟩:=Vg B;obtain ⟨m,δ1,hm,hδ1,Yv,hcell⟩:=NR l f g L hL Ou (h.ch B);obtain ⟨δ2,hδ2,hs2⟩:=gG (L:=L) (m:=m / 2) hL (by grind);have hdm:0 < d*(m / 2):=Rat.mul_pos hd (by grind);obtain ⟨δ3,hδ3,hs3⟩:=gG (L:=E) (m:=d*(m / 2)) hE hdm;obtain ⟨δ4,hδ4,h41,h42⟩:=jT hδ1 hδ2;obtain ⟨δ,hδ,h1,h2⟩:=jT hδ4 hδ3;refine ⟨δ,hδ,fun x hx=>?_,fun x y hx hy hxy hlt=>?_⟩
 ·unfold wX
  split
  ·rename_i h0
   rcases Yv x hx with hf | hf
   ·rw [fF] at h0;rw [h0] at hf;rcases hf with hf | hf <;> grind
   ·intro h3;rw [fF] at h3;rw [h3] at hf;rcases hf with hf | hf <;> grind
  ·assumption
 ·obtain ⟨c1,c2⟩:=hcell x y hx hy hxy (by grind)
  by_cases hf:oh (g x) m
  ·obtain ⟨hg,hk⟩:=c1 hf
   refine Or.inr ⟨eP (g x),vk hg.1,hg.2.1,fun s t hs hst ht=>?_,?_⟩
   ·have hsB:In B s:=⟨by have:=hx.1;grind,by have:=hy.2;grind⟩
    have TA:In B t:=⟨by have:=hx.1;grind,by have:=hy.2;grind⟩;obtain ⟨e1,e2⟩:=Vg s t hsB TA (by grind);have hE':E*(t-s) < d*(m / 2):=hs3 _ (by grind) (by grind);have hLs:L*(s-x)≤L*(y-x):=Rat.mul_le_mul_of_nonneg_left (by grind) hL;have hLy:L*(y-x) < m / 2:=hs2 _ (by grind) (by grind);obtain ⟨g1,g2⟩:=Ou g (by simp) x s hx hsB hs;rcases hf with hf | hf
    ·have hgs:m / 2≤g s:=by grind
     have hdg:d*(m / 2)≤d*g s:=Rat.mul_le_mul_of_nonneg_left hgs (by grind);have:=Rat.mul_pos (a:=t-s) (b:=d*g s-(t-s)*E) (by grind) (by grind);rw [gX (x:=g x) (by grind)];exact gX (by grind)
    ·have hgs:g s≤-(m / 2):=by grind
     have hdg:d*g s≤d*(-(m / 2)):=Rat.mul_le_mul_of_nonneg_left hgs (by grind);have:=Rat.mul_pos (a:=t-s) (b:= -(d*g s)-(t-s)*E) (by grind) (by grind);rw [iT (x:=g x) (by grind)];exact iT (by grind)
   ·have e:∀ z,Vr f g l z=vr (eP (f z) ::eP (g z) ::VE l z):=fun _=>rfl
    rw [e x,e y,hg.2.1 y (by grind) (by grind),Uy (vk hg.1) (Ry _),Uy (vk hg.1) (Ry _),hk.vr (vk hg.1)];omega
  ·obtain ⟨hg,hk⟩:=c2 hf
   refine Or.inl ⟨hg,?_⟩;have e:∀ z,Vr f g l z=vr (eP (f z) ::VE (g ::l) z):=fun _=>rfl
   rw [e x,e y,hg.2.1 y (by grind) (by grind),UA (vk hg.1),UA (vk hg.1),hk.vr (vk hg.1)]
/-! ### Any interval -/
def m1(n:Nat)(s:Int):Int:=if n%2=0 then s else -s
theorem agv(n m:Nat)(s:Int):m1 (n+m) s=m1 m (m1 n s):=by unfold m1;(repeat' split) <;> omega
/-- WHAT THE COUNT SAYS of an interval. -/
structure Qd(f g:Fn)(l:List Fn)(a b:Rat)(N:Nat):Prop where
 v:Vr f g l a=Vr f g l b+N
 par:wX f g b=m1 N (wX f g a)
 nil:N=0↔∀ t,a < t→t≤b→eP (f t)=wX f g a
 mon:∀ τ:Int,(τ=1∨τ= -1)→(∀ t,a≤t→t≤b→eP (g t)=τ)→Vr f g l a+(if eP (f b)= -τ then 1 else 0)=Vr f g l b+(if eP (f a)= -τ then 1 else 0)
theorem xA{f g:Fn}{x:Rat}(h:eP (f x)≠0):wX f g x=eP (f x):=if_neg h
theorem KI{f g:Fn}{x:Rat}(h:eP (f x)=0):wX f g x=eP (g x):=if_pos h
theorem yA{f g:Fn}{l:List Fn}{x y:Rat}(hxy:x < y)(h:ahB f g l x y):∃ N,N≤1∧Qd f g l x y N:=by
 rcases h with ⟨⟨h0,hg,_⟩,hv⟩ | ⟨τ,hτ,hg,hm,hv⟩
 ·have hy:=hg y (by grind) (by grind)
  have ax:=xA (g:=g) h0;have ay:=xA (g:=g) (x:=y) (f:=f) (by rw [hy];exact h0);refine ⟨0,by omega,⟨by omega,by rw [ax,ay,hy];rfl,⟨fun _ t h1 h2=>by rw [ax];exact hg t (by grind) h2,fun _=>rfl⟩,fun τ _ _=>by rw [hv,hy]⟩⟩
 ·have gx:=hg x (by grind) (by grind)
  have gy:=hg y (by grind) (by grind);have hmy:=hm x y (by grind) hxy (by grind);have mon:∀ τ':Int,(τ'=1∨τ'= -1)→(∀ t,x≤t→t≤y→eP (g t)=τ')→Vr f g l x+(if eP (f y)= -τ' then 1 else 0)=Vr f g l y+(if eP (f x)= -τ' then 1 else 0):=by
   intro τ' _ h;have:τ'=τ:=(h x (by grind) (by grind)).symm.trans gx;rw [this];exact hv
  have Xo:∀ s t,x≤s→s < t→t≤y→eP (f s)≠-τ→eP (f t)=τ:=by
   intro s t h1 h2 h3 h4;have h5:=hm s t h1 h2 h3
   rcases hτ with rfl | rfl
   ·rcases dW (f t-f s) with ⟨k,e⟩ | ⟨k,e⟩ | ⟨k,e⟩ <;> rw [e] at h5 <;> try omega
    rcases dW (f s) with ⟨k2,e2⟩ | ⟨k2,e2⟩ | ⟨k2,e2⟩
    ·exact absurd e2 h4
    ·exact gX (by grind)
    ·exact gX (by grind)
   ·rcases dW (f t-f s) with ⟨k,e⟩ | ⟨k,e⟩ | ⟨k,e⟩ <;> rw [e] at h5 <;> try omega
    rcases dW (f s) with ⟨k2,e2⟩ | ⟨k2,e2⟩ | ⟨k2,e2⟩
    ·exact iT (by grind)
    ·exact iT (by grind)
    ·exact absurd e2 h4
  have fall:∀ t,x≤t→t < y→eP (f y)= -τ→eP (f t)= -τ:=by
   intro t h1 h2 h3
   by_cases h4:eP (f t)= -τ
   ·exact h4
   ·have:=Xo t y h1 h2 (by grind) h4;omega
  by_cases hs0:eP (f x)= -τ
  ·have ax:wX f g x= -τ:=by rw [xA (by omega),hs0]
   by_cases ht0:eP (f y)= -τ
   ·have ay:wX f g y= -τ:=by rw [xA (by omega),ht0]
    refine ⟨0,by omega,⟨by rw [if_pos ht0,if_pos hs0] at hv;omega,by rw [ax,ay];rfl,⟨fun _ t h1 h2=>?_,fun _=>rfl⟩,mon⟩⟩;rw [ax]
    by_cases hty:t=y
    ·rw [hty];exact ht0
    ·exact fall t (by grind) (by grind) ht0
   ·have ay:wX f g y=τ:=by
     unfold wX;split
     ·exact gy
     ·have:=Ry (f y);omega
    refine ⟨1,by omega,⟨by rw [if_neg ht0,if_pos hs0] at hv;omega,by rw [ax,ay];unfold m1;simp,⟨fun h=>absurd h (by omega),fun h=>?_⟩,mon⟩⟩;exact absurd ((h y hxy (by grind)).trans ax) ht0
  ·have ht:eP (f y)=τ:=Xo x y (by grind) hxy (by grind) hs0
   have ax:wX f g x=τ:=by
    unfold wX;split
    ·exact gx
    ·have:=Ry (f x);omega
   have ay:wX f g y=τ:=by rw [xA (by omega),ht]
   refine ⟨0,by omega,⟨by rw [if_neg (by omega),if_neg hs0] at hv;omega,by rw [ax,ay];rfl,⟨fun _ t h1 h2=>by rw [ax];exact Xo x t (by grind) h1 h2 hs0,fun _=>rfl⟩,mon⟩⟩
theorem OW{f g:Fn}{l:List Fn}(a:Rat):Qd f g l a a 0:=⟨rfl,rfl,⟨fun _ t h1 h2=>by grind,fun _=>rfl⟩,fun _ _ _=>rfl⟩
theorem TY{f g:Fn}{l:List Fn}{a m b:Rat}{N M:Nat}(ham:a≤m)(hmb:m≤b)(h:Qd f g l a m N)(k:Qd f g l m b M):Qd f g l a b (N+M):=by
 refine ⟨by have:=h.v;have:=k.v;omega,by rw [k.par,h.par,agv],⟨fun e t h1 h2=>?_,fun e=>?_⟩,fun τ hτ hg=>?_⟩
 ·obtain ⟨rfl,rfl⟩:N=0∧M=0:=by omega
  by_cases htm:t≤m
  ·exact h.nil.1 rfl t h1 htm
  ·rw [k.nil.1 rfl t (by grind) h2,h.par];rfl
 ·have hN:N=0:=h.nil.2 fun t h1 h2=>e t h1 (by grind)
  subst hN;have ha:wX f g m=wX f g a:=h.par;have hM:M=0:=k.nil.2 fun t h1 h2=>by rw [ha];exact e t (by grind) h2
  omega
 ·have h1:=h.mon τ hτ fun t a1 a2=>hg t a1 (by grind)
  have h2:=k.mon τ hτ fun t a1 a2=>hg t (by grind) a2
  omega
theorem GL{r d:Rat}(hd:0 < d):∃ n:Nat,r≤(n:Rat)*d:=by
 refine ⟨((r / d).num.toNat),?_⟩;have h1:r / d≤(((r / d).num.toNat:Nat):Rat):=by
  rw [Rat.le_iff,Rat.num_natCast,Rat.den_natCast];have h0:=(r / d).den_pos;have h3:((r / d).num.toNat:Int)*1≤((r / d).num.toNat:Int)*((r / d).den:Int):=Int.mul_le_mul_of_nonneg_left (by omega) (by omega);omega
 have h2:(r / d)*d=r:=Rat.div_mul_cancel (by grind);have h3:=Rat.mul_le_mul_of_nonneg_right h1 (show (0:Rat)≤d by grind);grind
/-- STURM: on any interval the count says what it is to say. -/
theorem qB{f g:Fn}{l:List Fn}(h:I4 f g l){a b:Rat}(hab:a≤b):∃ N,Qd f g l a b N:=by
 obtain ⟨B,hBa,hBb⟩:∃ B,In B a∧In B b:=by
  refine ⟨(if a < 0 then -a else a)+(if b < 0 then -b else b),?_,?_⟩ <;> (unfold In;constructor <;> (repeat' split) <;> grind)
 obtain ⟨δ,hδ,_,hcell⟩:=su h B;obtain ⟨n,hn⟩:=GL (r:=b-a) (d:=δ / 2) (by grind);have main:∀ n:Nat,∀ c,In B c→a≤c→c-a≤(n:Rat)*(δ / 2)→∃ N,Qd f g l a c N:=by
  intro n
  induction n with
  | zero => intro c _ h1 h2; have : c = a := by have : ((0 : Nat) : Rat) = 0 := rfl; grind
            subst this; exact ⟨0, OW _⟩
  | succ n ih=>
   intro c hc h1 h2;have e:((n+1:Nat):Rat)=(n:Rat)+1:=by exact_mod_cast rfl
   rw [e] at h2
   by_cases h3:c-a≤(n:Rat)*(δ / 2)
   ·exact ih c hc h1 h3
   ·by_cases h4:c-δ / 2≤a
    ·by_cases h5:a=c
     ·subst h5;exact ⟨0,OW _⟩
     ·obtain ⟨N,_,hN⟩:=yA (by grind) (hcell a c hBa hc (by grind) (by grind))
      exact ⟨N,hN⟩
    ·have hm:In B (c-δ / 2):=⟨by have:=hBa.1;grind,by have:=hc.2;grind⟩
     obtain ⟨N,hN⟩:=ih (c-δ / 2) hm (by grind) (by grind);obtain ⟨M,_,hM⟩:=yA (by grind) (hcell (c-δ / 2) c hm hc (by grind) (by grind));exact ⟨N+M,TY (by grind) (by grind) hN hM⟩
 exact main n b hBb hab hn
theorem dS{z:Int}(h1: -9223372036854775808≤z:=by omega)(h2:z≤9223372036854775807:=by omega):IntKind.i64.wrap z=z:=by
 simp [IntKind.wrap,IntKind.bits,IntKind.signed];omega
/-- Euclid's division by what it is. -/
theorem euc{x y q r:Int}(h:x=y*q+r)(h0:0≤r)(h1:r < y.natAbs):q=x / y∧r=x%y:=by
 have hy:y≠0:=by intro e;subst e;simp at h1;omega
 have hr:r=x%y:=by
  rw [h,Int.mul_add_emod_self_left];rcases Int.lt_or_gt_of_ne hy with h2 | h2
  ·rw [← Int.emod_neg];exact (Int.emod_eq_of_lt h0 (by omega)).symm
  ·exact (Int.emod_eq_of_lt h0 (by omega)).symm
 refine ⟨?_,hr⟩;have:=Int.mul_ediv_add_emod x y;rw [← hr] at this;have h2:y*(x / y)=y*q:=by omega
 exact (Int.eq_of_mul_eq_mul_left hy h2).symm
/-! ### Normal numbers, as asked for -/
def IsN(ls:List Lf)(K:Nat)(z:Int):Prop:=∀ B w cs,gJ B w ls cs→gJ B w (zn K z) cs
theorem isn(K:Nat)(z:Int):IsN (zn K z) K z:=fun _ _ _ h=>h
/-! ### Rows -/
theorem qp{sz n:Nat}{el U4:Nat→Nat→Lf}(h:∀ i,i < n→∀ j,j < sz→∀ B w c,eu B w (el i j) c→eu B w (U4 i j) c):∀ B w c,eu B w (.row sz n el) c→eu B w (.row sz n U4) c:=by
 rintro B w c ⟨a,cap,rfl,h1,h2,h3⟩;refine ⟨a,cap,rfl,h1,h2,fun i hi=>?_⟩;obtain ⟨b,off,e,hb,hl,hj⟩:=h3 i hi;exact ⟨b,off,e,hb,hl,fun j hjs=>let ⟨x,hx,hl⟩:=hj j hjs;⟨x,hx,h i hi j hjs _ _ _ hl⟩⟩
theorem fV{e:TypeId}{sz n:Nat}{el U4:Nat→Nat→Lf}(h:∀ i,i < n→∀ j,j < sz→∀ B w c,eu B w (el i j) c→eu B w (U4 i j) c):AO.le (.row e sz n el) (.row e sz n U4):=by
 rintro B w0 w v ⟨xs,h1,h2⟩;exact ⟨xs,h1,fun i j hi hj=>let ⟨x,hx,hl⟩:=h2 i j hi hj;⟨x,hx,h i hi j hj _ _ _ hl⟩⟩
/-- A row of whole numbers: normal; in any form. -/
def bW(K:Nat)(c:Nat→Int):Nat→Nat→Lf:=fun i j=>((zn K (c i))[j]?).getD (.v undef)
def o8(K:Nat)(f:Nat→Bool×List Nat):Nat→Nat→Lf:=fun i j=>(([.v (.bool (f i).1),lr K (f i).2]:List Lf)[j]?).getD (.v undef)
def gQ(K n:Nat)(c:Nat→Int):Lf:= .row 2 n (bW K c)
def vT(K n:Nat)(f:Nat→Bool×List Nat):Lf:= .row 2 n (o8 K f)
def Yc(f:Nat→Bool×List Nat)(i:Nat):Int:=zv (f i).1 (val (f i).2)
/-- What stands there is this row of numbers, whatever its form. -/
def pY(l:Lf)(K n:Nat)(c:Nat→Int):Prop:=(∃ f,(∀ B w v,eu B w l v→eu B w (vT K n f) v)∧∀ i,i < n→Yc f i=c i)∧∀ i,n≤i→c i=0
theorem uw{K n:Nat}{c:Nat→Int}(h:∀ i,n≤i→c i=0):pY (gQ K n c) K n c:=
 ⟨⟨fun i=>(decide (c i < 0),cO (c i).natAbs),fun _ _ _ h=>h,fun i _=>by unfold Yc;simp only [];rw [dh];exact kY _⟩,h⟩
theorem RS{K L n:Nat}{c d:Nat→Int}(hk:K≤L)(h:∀ i,i < n→c i=d i):∀ i,i < n→∀ j,j < 2→∀ B w v,eu B w (bW K c i j) v→eu B w (bW L d i j) v:=by
 intro i hi j hj B w v hv;unfold bW at *
 rw [← h i hi]
 match j,hj with
 | 0,_=>exact hv
 | 1,_=>exact nX hk _ _ _ hv
theorem CY{K L n:Nat}{c d:Nat→Int}(hk:K≤L)(h:∀ i,i < n→c i=d i):∀ B w v,eu B w (gQ K n c) v→eu B w (gQ L n d) v:=qp (RS hk h)
theorem qH{K L n m:Nat}{c d:Nat→Int}(hk:K≤L)(e:n=m)(h:∀ i,i < n→c i=d i):AV.le (.d (.one (gQ K n c))) (.d (.one (gQ L m d))):=by subst e;exact fJ (CY hk h)
theorem OC{e:TypeId}{K L n:Nat}{c d:Nat→Int}(hk:K≤L)(h:∀ i,i < n→c i=d i):AO.le (.row e 2 n (bW K c)) (.row e 2 n (bW L d)):=fV (RS hk h)
theorem pY.mono{l:Lf}{K L n:Nat}{c:Nat→Int}(h:pY l K n c)(hk:K≤L):pY l L n c:=by
 obtain ⟨⟨f,h1,h2⟩,h3⟩:=h;refine ⟨⟨f,fun B w v hv=>qp ?_ _ _ _ (h1 B w v hv),h2⟩,h3⟩;intro i hi j hj B w v hv
 match j,hj with
 | 0,_=>exact hv
 | 1,_=>exact nX hk _ _ _ hv
/-- A row grows by one. -/
theorem Qo{e:TypeId}{sz n m:Nat}{el el2 U4:Nat→Nat→Lf}(hm:m=n+1)(h1:∀ i,i < n→∀ j,j < sz→∀ B w v,eu B w (el i j) v→eu B w (U4 i j) v)(h2:∀ j,j < sz→∀ B w v,eu B w (el2 0 j) v→eu B w (U4 n j) v):AO.le (.row e sz (n+1) (fB n el el2)) (.row e sz m U4):=by
 subst hm;refine fV fun i hi j hj B w v hv=>?_
 unfold fB at hv
 by_cases hin:i < n
 ·rw [show Nat.ble (i+1) n=true from Nat.ble_eq_true_of_le hin] at hv
  exact h1 i hin j hj _ _ _ hv
 ·obtain rfl:i=n:=by omega
  rw [show Nat.ble (i+1) i=false from by rw [← Bool.not_eq_true];exact fun h=>by have:=Nat.le_of_ble_eq_true h;omega,Nat.sub_self] at hv;exact h2 j hj _ _ _ hv
theorem aij{e:TypeId}{K L M n m:Nat}{z:Int}{c d:Nat→Int}{el2:Nat→Nat→Lf}(hm:m=n+1)(hK:K≤L)(hM:M≤L)(hz:z=d n)(hc:∀ i,i < n→c i=d i)(h0:el2 0 0= .v (.bool (decide (z < 0))):=by rfl)(h1:el2 0 1=ln M z.natAbs:=by rfl):AO.le (.row e 2 (n+1) (fB n (bW K c) el2)) (.row e 2 m (bW L d)):=by
 refine Qo hm (RS hK hc) fun j hj B w v hv=>?_
 unfold bW;rw [← hz]
 match j,hj with
 | 0,_=>rw [h0] at hv;exact hv
 | 1,_=>rw [h1] at hv;exact nX hM _ _ _ hv
/-! ### Rationals of the plain reckoning -/
def qn(K:Nat)(q:Rat):List Lf:=rn K q.num ++rn K (q.den:Int)
def P9(ls:List Lf)(K:Nat)(q:Rat):Prop:=∀ B w cs,gJ B w ls cs→gJ B w (qn K q) cs
theorem lq(K:Nat)(q:Rat):P9 (qn K q) K q:=fun _ _ _ h=>h
theorem Uj{K L:Nat}{q:Rat}(h:K≤L):∀ B w cs,gJ B w (qn K q) cs→gJ B w (qn L q) cs
 | B,w,[a,b,c,d],⟨h1,h2,h3,h4,h5⟩=>⟨kQ h _ _ _ h1,h2,kQ h _ _ _ h3,h4,h5⟩
theorem uY{K L:Nat}{z y:Rat}(h:K≤L)(e:z=y):AV.le (.d (.agg (qn K z))) (.d (.agg (qn L y))):=by subst e;exact nT (Uj h)
theorem Q5{t:TypeId}{K L:Nat}{z y:Rat}(h:K≤L)(e:z=y):AO.le (.box t (qn K z)) (.box t (qn L y)):=by subst e;exact iY (Uj h)
theorem uh{K L M:Nat}{n d:Int}{q:Rat}(h1:K≤M)(h2:L≤M)(e1:n=q.num)(e2:d=q.den):AV.le (.d (.agg (rn K n ++rn L d))) (.d (.agg (qn M q))):=by
 subst e1;subst e2;refine nT fun B w cs h=>?_
 match cs,h with
 | [a,b,c,d],⟨h1',h2',h3',h4',h5'⟩=>exact ⟨kQ h1 _ _ _ h1',h2',kQ h2 _ _ _ h3',h4',h5'⟩
def aK(K:Nat)(c:Nat→Rat):Nat→Nat→Lf:=fun i j=>((qn K (c i))[j]?).getD (.v undef)
def dJ(K n:Nat)(c:Nat→Rat):Lf:= .row 4 n (aK K c)
theorem MF{K L n:Nat}{c d:Nat→Rat}(hk:K≤L)(h:∀ i,i < n→c i=d i):∀ i,i < n→∀ j,j < 4→∀ B w v,eu B w (aK K c i j) v→eu B w (aK L d i j) v:=by
 intro i hi j hj B w v hv;unfold aK at *
 rw [← h i hi]
 match j,hj with
 | 0,_=>exact kQ hk _ _ _ hv
 | 1,_=>exact hv
 | 2,_=>exact kQ hk _ _ _ hv
 | 3,_=>exact hv
def EN(l:Lf)(K n:Nat)(c:Nat→Rat):Prop:=(∀ B w v,eu B w l v→eu B w (dJ K n c) v)∧∀ i,n≤i→c i=0
theorem wZ{K n:Nat}{c:Nat→Rat}(h:∀ i,n≤i→c i=0):EN (dJ K n c) K n c:=⟨fun _ _ _ h=>h,h⟩
theorem nU{K L n m:Nat}{c d:Nat→Rat}(hk:K≤L)(e:n=m)(h:∀ i,i < n→c i=d i):AV.le (.d (.one (dJ K n c))) (.d (.one (dJ L m d))):=by subst e;exact fJ (qp (MF hk h))
theorem akd{K M:Nat}{q:Rat}{l:Nat→Lf}(hM:M≤K)(h0:l 0=dn M q.num.natAbs)(h1:l 1= .v (.bool (decide (q.num < 0))))(h2:l 2=dn M (q.den:Int).natAbs)(h3:l 3= .v (.bool (decide ((q.den:Int) < 0)))):∀ j,j < 4→∀ B w v,eu B w (l j) v→eu B w (((qn K q)[j]?).getD (.v undef)) v:=by
 intro j hj B w v hv
 match j,hj with
 | 0,_=>rw [h0] at hv;exact kQ hM _ _ _ hv
 | 1,_=>rw [h1] at hv;exact hv
 | 2,_=>rw [h2] at hv;exact kQ hM _ _ _ hv
 | 3,_=>rw [h3] at hv;exact hv
theorem BD{e:TypeId}{K L M n m:Nat}{q:Rat}{c d:Nat→Rat}{el2:Nat→Nat→Lf}(hm:m=n+1)(hK:K≤L)(hM:M≤L)(hz:q=d n)(hc:∀ i,i < n→c i=d i)(h0:el2 0 0=dn M q.num.natAbs:=by rfl)(h1:el2 0 1= .v (.bool (decide (q.num < 0))):=by rfl)(h2:el2 0 2=dn M (q.den:Int).natAbs:=by rfl)(h3:el2 0 3= .v (.bool (decide ((q.den:Int) < 0))):=by rfl):AO.le (.row e 4 (n+1) (fB n (aK K c) el2)) (.row e 4 m (aK L d)):=by
 refine Qo hm (MF hK hc) fun j hj B w v hv=>?_
 unfold aK;rw [← hz];exact akd hM h0 h1 h2 h3 j hj B w v hv
/-! ### Rows cut: noughts on top are taken away -/
section
variable {α:Type} [DecidableEq α] [OfNat α 0]
def dg(c:Nat→α):Nat→Nat
 | 0=>0
 | n+1=>if c n=0 then dg c n else n+1
theorem qQ(c:Nat→α):∀ n,dg c n≤n
 | 0=>Nat.le_refl _
 | n+1=>by unfold dg;split;exact Nat.le_succ_of_le (qQ c n);exact Nat.le_refl _
theorem nG{c:Nat→α}:∀ {n:Nat},(∀ i,n≤i→c i=0)→∀ i,dg c n≤i→c i=0
 | 0,h,i,hi=>h i (Nat.zero_le _)
 | n+1,h,i,hi=>by
  unfold dg at hi;split at hi
  ·rename_i h0
   exact nG (n:=n) (fun k hk=>by rcases Nat.eq_or_lt_of_le hk with e | e;exact e▸h0;exact h k e) i hi
  ·exact h i hi
theorem Jp{c:Nat→α}:∀ {n:Nat},dg c n≠0→c (dg c n-1)≠0
 | 0,h=>absurd rfl h
 | n+1,h=>by
  unfold dg at h ⊢;split
  ·rename_i h0;rw [if_pos h0] at h;exact Jp h
  ·rename_i h0;exact h0
theorem SY{c:Nat→α}{n:Nat}(h:c n=0):dg c (n+1)=dg c n:=by
 show (if c n=0 then dg c n else n+1)=_
 rw [if_pos h]
theorem sV{c:Nat→α}{n:Nat}(h:n=0∨c (n-1)≠0):dg c n=n:=by
 cases n with
 | zero=>rfl
 | succ n=>
  rcases h with h | h
  ·exact absurd h (Nat.succ_ne_zero _)
  ·show (if c n=0 then dg c n else n+1)=_
   rw [if_neg (show ¬ c n=0 from h)]
omit [DecidableEq α] in
theorem S9{c:Nat→α}{k m:Nat}(h1:k=0∨c (k-1)≠0)(h2:∀ i,k≤i→c i=0)(h3:m=0∨c (m-1)≠0)(h4:∀ i,m≤i→c i=0):k=m:=by
 rcases Nat.lt_trichotomy k m with h | h | h
 ·rcases h3 with h3 | h3
  ·omega
  ·exact absurd (h2 (m-1) (by omega)) h3
 ·exact h
 ·rcases h1 with h1 | h1
  ·omega
  ·exact absurd (h4 (k-1) (by omega)) h1
theorem XQ{c:Nat→α}{n:Nat}:dg c n=0∨c (dg c n-1)≠0:=by
 rcases Nat.eq_zero_or_pos (dg c n) with h | h
 ·exact Or.inl h
 ·exact Or.inr (Jp (by omega))
theorem N9{c:Nat→α}{n m:Nat}(h:∀ i,n≤i→c i=0)(k:∀ i,m≤i→c i=0):dg c n=dg c m:=S9 XQ (nG h) XQ (nG k)
end
theorem SS{c:Nat→Int}:∀ n,dg (fun i=>((c i:Int):Rat)) n=dg c n
 | 0=>rfl
 | n+1=>by
  unfold dg;rw [SS n]
  by_cases h:c n=0
  ·rw [if_pos h,if_pos (by rw [h];rfl)]
  ·rw [if_neg h,if_neg (fun e=>h (by exact_mod_cast e))]
/-! ### Sums, products -/
section
variable {α:Type} [Add α] [Mul α] [OfNat α 0]
/-- The product's coefficients: of the first m of the left one. -/
def cv(a b:Nat→α):Nat→Nat→α
 | 0,_=>0
 | m+1,j=>cv a b m j+(if m≤j then a m*b (j-m) else 0)
def aX(a b:Nat→α)(j:Nat):α:=cv a b (j+1) j
end
def TL:List (Nat×TI):= [
 (3,⟨1,false,[.int .i64 0],[],none,8,some .i64,false⟩),
 (4,⟨1,false,[.bool false],[],none,1,none,true⟩),
 (5,⟨1,false,[.int .u8 0],[],none,1,some .u8,false⟩),
 (9,⟨1,false,[.string ⟨#[]⟩],[],none,16,none,false⟩),
 (22,⟨1,false,[.slice none 0 0],[],some 31,24,none,false⟩),
 (23,⟨1,false,[.pointer none],[],none,8,none,false⟩),
 (26,⟨4,true,[.int .i64 0,.int .i64 0,.int .i64 0,.int .i64 0],[],none,32,none,false⟩),
 (28,⟨5,true,[.int .i64 0,.int .i64 0,.int .i64 0,.int .i64 0,.int .i64 0],[(0,3),(1,26)],none,40,none,false⟩),
 (29,⟨1,false,[.slice none 0 0],[],some 3,24,none,false⟩),
 (31,⟨9,true,[.int .i64 0,.int .i64 0,.int .i64 0,.int .i64 0,.int .i64 0,.int .i64 0,.int .i64 0,.int .i64 0,.slice none 0 0],[(0,3),(1,3),(2,3),(3,28),(8,29)],none,88,none,false⟩),
 (32,⟨1,false,[.slice none 0 0],[],some 36,24,none,false⟩),
 (33,⟨1,false,[.slice none 0 0],[],some 36,24,none,false⟩),
 (34,⟨1,false,[.slice none 0 0],[],some 165,24,none,false⟩),
 (36,⟨2,true,[.bool false,.slice none 0 0],[(0,4),(1,34)],none,32,none,false⟩),
 (38,⟨4,true,[.bool false,.slice none 0 0,.bool false,.slice none 0 0],[(0,36),(2,36)],none,64,none,false⟩),
 (40,⟨9,true,[.slice none 0 0,.bool false,.slice none 0 0,.bool false,.slice none 0 0,.bool false,.slice none 0 0,.bool false,.slice none 0 0],[(0,33),(1,38),(5,38)],none,152,none,false⟩),
 (43,⟨1,false,[.slice none 0 0],[],some 49,24,none,false⟩),
 (44,⟨1,false,[.slice none 0 0],[],some 43,24,none,false⟩),
 (45,⟨1,false,[.slice none 0 0],[],some 3,24,none,false⟩),
 (47,⟨2,true,[.slice none 0 0,.bool false],[(0,45),(1,4)],none,32,none,false⟩),
 (49,⟨4,true,[.slice none 0 0,.bool false,.slice none 0 0,.bool false],[(0,47),(2,47)],none,64,none,false⟩),
 (51,⟨10,true,[.slice none 0 0,.slice none 0 0,.slice none 0 0,.bool false,.slice none 0 0,.bool false,.slice none 0 0,.bool false,.slice none 0 0,.bool false],[(0,43),(1,44),(2,49),(6,49)],none,176,none,false⟩),
 (54,⟨14,true,[.int .i64 0,.int .i64 0,.int .i64 0,.int .i64 0,.int .i64 0,.slice none 0 0,.bool false,.slice none 0 0,.bool false,.slice none 0 0,.bool false,.slice none 0 0,.bool false,.slice none 0 0],[(0,28),(5,40)],none,192,none,false⟩),
 (57,⟨1,false,[.slice none 0 0],[],some 54,24,none,false⟩),
 (73,⟨1,false,[.pointer none],[],none,8,none,false⟩),
 (74,⟨1,false,[.slice none 0 0],[],some 109,24,none,false⟩),
 (76,⟨2,true,[.int .i64 0,.slice none 0 0],[(0,3),(1,74)],none,32,none,false⟩),
 (79,⟨1,false,[.slice none 0 0],[],some 84,24,none,false⟩),
 (81,⟨2,true,[.slice none 0 0,.slice none 0 0],[(0,79),(1,29)],none,48,none,false⟩),
 (84,⟨15,true,[.int .i64 0,.int .i64 0,.int .i64 0,.int .i64 0,.int .i64 0,.slice none 0 0,.bool false,.slice none 0 0,.bool false,.slice none 0 0,.bool false,.slice none 0 0,.bool false,.slice none 0 0,.int .i64 0],[(0,54),(14,3)],none,200,none,false⟩),
 (90,⟨1,false,[.slice none 0 0],[],some 51,24,none,false⟩),
 (109,⟨16,true,[.int .i64 0,.int .i64 0,.int .i64 0,.int .i64 0,.int .i64 0,.int .i64 0,.slice none 0 0,.slice none 0 0,.slice none 0 0,.bool false,.slice none 0 0,.bool false,.slice none 0 0,.bool false,.slice none 0 0,.bool false],[(0,3),(1,28),(6,51)],none,224,none,false⟩),
 (140,⟨1,false,[.slice none 0 0],[],some 40,24,none,false⟩),
 (145,⟨1,false,[.slice none 0 0],[],some 38,24,none,false⟩),
 (150,⟨1,false,[.slice none 0 0],[],some 33,24,none,false⟩),
 (165,⟨1,false,[.int .u32 0],[],none,4,some .u32,false⟩),
 (170,⟨1,false,[.nilFunc],[],none,8,none,false⟩),
 (175,⟨1,false,[.int .i64 0],[],none,8,some .i64,false⟩),
 (186,⟨1,false,[.int .u64 0],[],none,8,some .u64,false⟩),
 (187,⟨1,false,[.int .u64 0],[],none,8,some .u64,false⟩)]
def TT:TypeId→Option TI:=lk TL
theorem tt3:gI Tryz.prog 3=some ⟨1,false,[.int .i64 0],[],none,8,some .i64,false⟩:=by kernel_rfl
theorem tt4:gI Tryz.prog 4=some ⟨1,false,[.bool false],[],none,1,none,true⟩:=by kernel_rfl
theorem tt5:gI Tryz.prog 5=some ⟨1,false,[.int .u8 0],[],none,1,some .u8,false⟩:=by kernel_rfl
theorem tt9:gI Tryz.prog 9=some ⟨1,false,[.string ⟨#[]⟩],[],none,16,none,false⟩:=by kernel_rfl
theorem anf:gI Tryz.prog 22=some ⟨1,false,[.slice none 0 0],[],some 31,24,none,false⟩:=by kernel_rfl
theorem ang:gI Tryz.prog 23=some ⟨1,false,[.pointer none],[],none,8,none,false⟩:=by kernel_rfl
theorem anh:gI Tryz.prog 26=some ⟨4,true,[.int .i64 0,.int .i64 0,.int .i64 0,.int .i64 0],[],none,32,none,false⟩:=by kernel_rfl
theorem ani:gI Tryz.prog 28=some ⟨5,true,[.int .i64 0,.int .i64 0,.int .i64 0,.int .i64 0,.int .i64 0],[(0,3),(1,26)],none,40,none,false⟩:=by kernel_rfl
theorem anj:gI Tryz.prog 29=some ⟨1,false,[.slice none 0 0],[],some 3,24,none,false⟩:=by kernel_rfl
theorem ank:gI Tryz.prog 31=some ⟨9,true,[.int .i64 0,.int .i64 0,.int .i64 0,.int .i64 0,.int .i64 0,.int .i64 0,.int .i64 0,.int .i64 0,.slice none 0 0],[(0,3),(1,3),(2,3),(3,28),(8,29)],none,88,none,false⟩:=by kernel_rfl
theorem anl:gI Tryz.prog 32=some ⟨1,false,[.slice none 0 0],[],some 36,24,none,false⟩:=by kernel_rfl
theorem anm:gI Tryz.prog 33=some ⟨1,false,[.slice none 0 0],[],some 36,24,none,false⟩:=by kernel_rfl
theorem ano:gI Tryz.prog 34=some ⟨1,false,[.slice none 0 0],[],some 165,24,none,false⟩:=by kernel_rfl
theorem anp:gI Tryz.prog 36=some ⟨2,true,[.bool false,.slice none 0 0],[(0,4),(1,34)],none,32,none,false⟩:=by kernel_rfl
theorem anq:gI Tryz.prog 38=some ⟨4,true,[.bool false,.slice none 0 0,.bool false,.slice none 0 0],[(0,36),(2,36)],none,64,none,false⟩:=by kernel_rfl
theorem anr:gI Tryz.prog 40=some ⟨9,true,[.slice none 0 0,.bool false,.slice none 0 0,.bool false,.slice none 0 0,.bool false,.slice none 0 0,.bool false,.slice none 0 0],[(0,33),(1,38),(5,38)],none,152,none,false⟩:=by kernel_rfl
theorem ant:gI Tryz.prog 43=some ⟨1,false,[.slice none 0 0],[],some 49,24,none,false⟩:=by kernel_rfl
theorem anu:gI Tryz.prog 44=some ⟨1,false,[.slice none 0 0],[],some 43,24,none,false⟩:=by kernel_rfl
theorem anv:gI Tryz.prog 45=some ⟨1,false,[.slice none 0 0],[],some 3,24,none,false⟩:=by kernel_rfl
theorem anw:gI Tryz.prog 47=some ⟨2,true,[.slice none 0 0,.bool false],[(0,45),(1,4)],none,32,none,false⟩:=by kernel_rfl
theorem anx:gI Tryz.prog 49=some ⟨4,true,[.slice none 0 0,.bool false,.slice none 0 0,.bool false],[(0,47),(2,47)],none,64,none,false⟩:=by kernel_rfl
theorem anz:gI Tryz.prog 51=some ⟨10,true,[.slice none 0 0,.slice none 0 0,.slice none 0 0,.bool false,.slice none 0 0,.bool false,.slice none 0 0,.bool false,.slice none 0 0,.bool false],[(0,43),(1,44),(2,49),(6,49)],none,176,none,false⟩:=by kernel_rfl
theorem anA:gI Tryz.prog 54=some ⟨14,true,[.int .i64 0,.int .i64 0,.int .i64 0,.int .i64 0,.int .i64 0,.slice none 0 0,.bool false,.slice none 0 0,.bool false,.slice none 0 0,.bool false,.slice none 0 0,.bool false,.slice none 0 0],[(0,28),(5,40)],none,192,none,false⟩:=by kernel_rfl
theorem anB:gI Tryz.prog 57=some ⟨1,false,[.slice none 0 0],[],some 54,24,none,false⟩:=by kernel_rfl
theorem anC:gI Tryz.prog 73=some ⟨1,false,[.pointer none],[],none,8,none,false⟩:=by kernel_rfl
theorem anD:gI Tryz.prog 74=some ⟨1,false,[.slice none 0 0],[],some 109,24,none,false⟩:=by kernel_rfl
theorem anE:gI Tryz.prog 76=some ⟨2,true,[.int .i64 0,.slice none 0 0],[(0,3),(1,74)],none,32,none,false⟩:=by kernel_rfl
theorem anF:gI Tryz.prog 79=some ⟨1,false,[.slice none 0 0],[],some 84,24,none,false⟩:=by kernel_rfl
theorem anG:gI Tryz.prog 81=some ⟨2,true,[.slice none 0 0,.slice none 0 0],[(0,79),(1,29)],none,48,none,false⟩:=by kernel_rfl
theorem anH:gI Tryz.prog 84=some ⟨15,true,[.int .i64 0,.int .i64 0,.int .i64 0,.int .i64 0,.int .i64 0,.slice none 0 0,.bool false,.slice none 0 0,.bool false,.slice none 0 0,.bool false,.slice none 0 0,.bool false,.slice none 0 0,.int .i64 0],[(0,54),(14,3)],none,200,none,false⟩:=by kernel_rfl
theorem anI:gI Tryz.prog 90=some ⟨1,false,[.slice none 0 0],[],some 51,24,none,false⟩:=by kernel_rfl
theorem akl:gI Tryz.prog 109=some ⟨16,true,[.int .i64 0,.int .i64 0,.int .i64 0,.int .i64 0,.int .i64 0,.int .i64 0,.slice none 0 0,.slice none 0 0,.slice none 0 0,.bool false,.slice none 0 0,.bool false,.slice none 0 0,.bool false,.slice none 0 0,.bool false],[(0,3),(1,28),(6,51)],none,224,none,false⟩:=by kernel_rfl
theorem akm:gI Tryz.prog 140=some ⟨1,false,[.slice none 0 0],[],some 40,24,none,false⟩:=by kernel_rfl
theorem akn:gI Tryz.prog 145=some ⟨1,false,[.slice none 0 0],[],some 38,24,none,false⟩:=by kernel_rfl
theorem ako:gI Tryz.prog 150=some ⟨1,false,[.slice none 0 0],[],some 33,24,none,false⟩:=by kernel_rfl
theorem akp:gI Tryz.prog 165=some ⟨1,false,[.int .u32 0],[],none,4,some .u32,false⟩:=by kernel_rfl
theorem akq:gI Tryz.prog 170=some ⟨1,false,[.nilFunc],[],none,8,none,false⟩:=by kernel_rfl
theorem akr:gI Tryz.prog 175=some ⟨1,false,[.int .i64 0],[],none,8,some .i64,false⟩:=by kernel_rfl
theorem aks:gI Tryz.prog 186=some ⟨1,false,[.int .u64 0],[],none,8,some .u64,false⟩:=by kernel_rfl
theorem akt:gI Tryz.prog 187=some ⟨1,false,[.int .u64 0],[],none,8,some .u64,false⟩:=by kernel_rfl
theorem aj:Bj Tryz.prog TT:=by
 intro t ti h;have hm:=rH h;unfold TL at hm;simp only [List.mem_cons,List.not_mem_nil,or_false,Prod.mk.injEq] at hm
 rcases hm with ⟨rfl,rfl⟩ | ⟨rfl,rfl⟩ | ⟨rfl,rfl⟩ | ⟨rfl,rfl⟩ | ⟨rfl,rfl⟩ | ⟨rfl,rfl⟩ | ⟨rfl,rfl⟩ | ⟨rfl,rfl⟩ | ⟨rfl,rfl⟩ | ⟨rfl,rfl⟩ | ⟨rfl,rfl⟩ | ⟨rfl,rfl⟩ | ⟨rfl,rfl⟩ | ⟨rfl,rfl⟩ | ⟨rfl,rfl⟩ | ⟨rfl,rfl⟩ | ⟨rfl,rfl⟩ | ⟨rfl,rfl⟩ | ⟨rfl,rfl⟩ | ⟨rfl,rfl⟩ | ⟨rfl,rfl⟩ | ⟨rfl,rfl⟩ | ⟨rfl,rfl⟩ | ⟨rfl,rfl⟩ | ⟨rfl,rfl⟩ | ⟨rfl,rfl⟩ | ⟨rfl,rfl⟩ | ⟨rfl,rfl⟩ | ⟨rfl,rfl⟩ | ⟨rfl,rfl⟩ | ⟨rfl,rfl⟩ | ⟨rfl,rfl⟩ | ⟨rfl,rfl⟩ | ⟨rfl,rfl⟩ | ⟨rfl,rfl⟩ | ⟨rfl,rfl⟩ | ⟨rfl,rfl⟩ | ⟨rfl,rfl⟩ | ⟨rfl,rfl⟩ | ⟨rfl,rfl⟩
 ·exact tt3
 ·exact tt4
 ·exact tt5
 ·exact tt9
 ·exact anf
 ·exact ang
 ·exact anh
 ·exact ani
 ·exact anj
 ·exact ank
 ·exact anl
 ·exact anm
 ·exact ano
 ·exact anp
 ·exact anq
 ·exact anr
 ·exact ant
 ·exact anu
 ·exact anv
 ·exact anw
 ·exact anx
 ·exact anz
 ·exact anA
 ·exact anB
 ·exact anC
 ·exact anD
 ·exact anE
 ·exact anF
 ·exact anG
 ·exact anH
 ·exact anI
 ·exact akl
 ·exact akm
 ·exact akn
 ·exact ako
 ·exact akp
 ·exact akq
 ·exact akr
 ·exact aks
 ·exact akt
def pkl{α:Type}(m:List (Nat×α)):List Nat→List (Nat×α)→Option (List (Nat×α))
 | [],a=>some a
 | k ::ks,a=>match lk m k with
  | some v=>pkl m ks ((k,v) ::a)
  | none=>none
theorem L6{α:Type}{m:List (Nat×α)}{p:Nat×α→Prop}(hp:∀ k v,lk m k=some v→p (k,v)):∀ {ks:List Nat} {a r:List (Nat×α)},pkl m ks a=some r→tX p a→tX p r
 | [],a,r,h,ha=>by cases h;exact ha
 | k ::ks,a,r,h,ha=>by
  unfold pkl at h;split at h
  ·rename_i v hv
   exact L6 hp h ⟨hp k v hv,ha⟩
  ·cases h
def kpA(s:AS)(ks is:List Nat):Option AS:=match s with
 | ⟨n,sl,hp⟩=>match pkl sl ks [] with
  | some sl'=>match pkl hp is [] with
   | some hp'=>some ⟨n,sl',hp'⟩
   | none=>none
  | none=>none
def kpB(s:AS)(ks is:List Nat)(id:Nat)(ob:AO):Option AS:=match kpA s ks is with
 | some ⟨n,sl,hp⟩=>some ⟨n,sl,(id,ob) ::hp⟩
 | none=>none
theorem YQ{s s':AS}{ks is:List Nat}(h:kpA s ks is=some s'):s.n=s'.n∧tX (Has s.sl) s'.sl∧tX (aaR s.hp) s'.hp:=by
 obtain ⟨n,sl,hp⟩:=s;unfold kpA at h;simp only at h;split at h
 ·rename_i sl' h1
  split at h
  ·rename_i hp' h2
   cases h
   exact ⟨rfl,L6 (fun k v hv=>hs hv) h1 trivial,L6 (fun k v hv=>ho hv) h2 trivial⟩
  ·cases h
 ·cases h
theorem wkq{s s':AS}{ks is:List Nat}(h:kpA s ks is=some s')(hok:BA s'.hp s'.sl=true):Wk s s':=by
 obtain ⟨h1,h2,h3⟩:=YQ h;exact wk h1 h2 h3 hok
theorem wkr{s s':AS}(h:kpA s (s'.sl.map Prod.fst).reverse (s'.hp.map Prod.fst).reverse=some s')(hok:BA s'.hp s'.sl=true):Wk s s':=wkq h hok
theorem wkb{s s':AS}{ks is:List Nat}{id:Nat}{o ob:AO}(h:kpB s ks is id ob=some s')(h3:lk s.hp id=some o)(hl:AO.le o ob)(hok:BA s'.hp s'.sl=true):Wk s s':=by
 unfold kpB at h;split at h
 ·rename_i n sl hp h0
  obtain ⟨h1,h2,h4⟩:=YQ h0;cases h
  exact wk h1 h2 ⟨⟨o,h3,hl⟩,h4⟩ hok
 ·cases h
section
variable {P:Program} {ops:Array Oper} {Q:Qs} {o:Oper} {l:List Oper} {s:AS} {y c:Code}
theorem wK{s':AS}(ks is:List Nat)(h:kpA s ks is=some s')(hok:BA s'.hp s'.sl=true)(k:AW P c Q s'):AW P c Q s:=AW.wk (wkq h hok) k
theorem wB{s':AS}(ks is:List Nat)(id:Nat)(ob:AO){ob':AO}(h:kpB s ks is id ob=some s')(h3:lk s.hp id=some ob')(hl:AO.le ob' ob)(hok:BA s'.hp s'.sl=true)(k:AW P c Q s'):AW P c Q s:=AW.wk (wkb h h3 hl hok) k
theorem cR{id:Nat}(h:AL P l.toArray (V9 (fun s=>AW P y Q s) Q) l s):AW P (.seq (.region id l.toArray false) y) Q s:=au (aA h)
theorem mT{K:AS→Prop}(h:K s):AL P ops (V9 K Q) [] s:=ak (tN h)
theorem cFs{v:Operand}{x:Code}{K:AS→Prop}(hc:dM s v=some (.d (.one (.v (.bool false)))))(h:K s):AW P (.cond v x .skip) (V9 K Q) s:=cF hc (aF (tN h))
theorem mW{o0:Oper}{v0:AV}(h0:jg TT s o0.op=some v0)(k:AL Tryz.prog ops Q l (AS.put s o0.dst v0))(g0:jP ops s o0=some true:=by rfl)(d0:kP o0.dst s.n=true:=by rfl):AL Tryz.prog ops Q (o0 ::l) s:=mV aj _ h0 k g0 d0
theorem mv2{o0 o1:Oper}{v0 v1:AV}(h0:jg TT s o0.op=some v0)(h1:jg TT (AS.put s o0.dst v0) o1.op=some v1)(k:AL Tryz.prog ops Q l (AS.put (AS.put s o0.dst v0) o1.dst v1))(g0:jP ops s o0=some true:=by rfl)(d0:kP o0.dst s.n=true:=by rfl)(g1:jP ops (AS.put s o0.dst v0) o1=some true:=by rfl)(d1:kP o1.dst (AS.put s o0.dst v0).n=true:=by rfl):AL Tryz.prog ops Q (o0 ::o1 ::l) s:=mV aj _ h0 (mV aj _ h1 k g1 d1) g0 d0
theorem mv3{o0 o1 o2:Oper}{v0 v1 v2:AV}(h0:jg TT s o0.op=some v0)(h1:jg TT (AS.put s o0.dst v0) o1.op=some v1)(h2:jg TT (AS.put (AS.put s o0.dst v0) o1.dst v1) o2.op=some v2)(k:AL Tryz.prog ops Q l (AS.put (AS.put (AS.put s o0.dst v0) o1.dst v1) o2.dst v2))(g0:jP ops s o0=some true:=by rfl)(d0:kP o0.dst s.n=true:=by rfl)(g1:jP ops (AS.put s o0.dst v0) o1=some true:=by rfl)(d1:kP o1.dst (AS.put s o0.dst v0).n=true:=by rfl)(g2:jP ops (AS.put (AS.put s o0.dst v0) o1.dst v1) o2=some true:=by rfl)(d2:kP o2.dst (AS.put (AS.put s o0.dst v0) o1.dst v1).n=true:=by rfl):AL Tryz.prog ops Q (o0 ::o1 ::o2 ::l) s:=mV aj _ h0 (mV aj _ h1 (mV aj _ h2 k g2 d2) g1 d1) g0 d0
theorem mv4{o0 o1 o2 o3:Oper}{v0 v1 v2 v3:AV}(h0:jg TT s o0.op=some v0)(h1:jg TT (AS.put s o0.dst v0) o1.op=some v1)(h2:jg TT (AS.put (AS.put s o0.dst v0) o1.dst v1) o2.op=some v2)(h3:jg TT (AS.put (AS.put (AS.put s o0.dst v0) o1.dst v1) o2.dst v2) o3.op=some v3)(k:AL Tryz.prog ops Q l (AS.put (AS.put (AS.put (AS.put s o0.dst v0) o1.dst v1) o2.dst v2) o3.dst v3))(g0:jP ops s o0=some true:=by rfl)(d0:kP o0.dst s.n=true:=by rfl)(g1:jP ops (AS.put s o0.dst v0) o1=some true:=by rfl)(d1:kP o1.dst (AS.put s o0.dst v0).n=true:=by rfl)(g2:jP ops (AS.put (AS.put s o0.dst v0) o1.dst v1) o2=some true:=by rfl)(d2:kP o2.dst (AS.put (AS.put s o0.dst v0) o1.dst v1).n=true:=by rfl)(g3:jP ops (AS.put (AS.put (AS.put s o0.dst v0) o1.dst v1) o2.dst v2) o3=some true:=by rfl)(d3:kP o3.dst (AS.put (AS.put (AS.put s o0.dst v0) o1.dst v1) o2.dst v2).n=true:=by rfl):AL Tryz.prog ops Q (o0 ::o1 ::o2 ::o3 ::l) s:=mV aj _ h0 (mV aj _ h1 (mV aj _ h2 (mV aj _ h3 k g3 d3) g2 d2) g1 d1) g0 d0
theorem mv5{o0 o1 o2 o3 o4:Oper}{v0 v1 v2 v3 v4:AV}(h0:jg TT s o0.op=some v0)(h1:jg TT (AS.put s o0.dst v0) o1.op=some v1)(h2:jg TT (AS.put (AS.put s o0.dst v0) o1.dst v1) o2.op=some v2)(h3:jg TT (AS.put (AS.put (AS.put s o0.dst v0) o1.dst v1) o2.dst v2) o3.op=some v3)(h4:jg TT (AS.put (AS.put (AS.put (AS.put s o0.dst v0) o1.dst v1) o2.dst v2) o3.dst v3) o4.op=some v4)(k:AL Tryz.prog ops Q l (AS.put (AS.put (AS.put (AS.put (AS.put s o0.dst v0) o1.dst v1) o2.dst v2) o3.dst v3) o4.dst v4))(g0:jP ops s o0=some true:=by rfl)(d0:kP o0.dst s.n=true:=by rfl)(g1:jP ops (AS.put s o0.dst v0) o1=some true:=by rfl)(d1:kP o1.dst (AS.put s o0.dst v0).n=true:=by rfl)(g2:jP ops (AS.put (AS.put s o0.dst v0) o1.dst v1) o2=some true:=by rfl)(d2:kP o2.dst (AS.put (AS.put s o0.dst v0) o1.dst v1).n=true:=by rfl)(g3:jP ops (AS.put (AS.put (AS.put s o0.dst v0) o1.dst v1) o2.dst v2) o3=some true:=by rfl)(d3:kP o3.dst (AS.put (AS.put (AS.put s o0.dst v0) o1.dst v1) o2.dst v2).n=true:=by rfl)(g4:jP ops (AS.put (AS.put (AS.put (AS.put s o0.dst v0) o1.dst v1) o2.dst v2) o3.dst v3) o4=some true:=by rfl)(d4:kP o4.dst (AS.put (AS.put (AS.put (AS.put s o0.dst v0) o1.dst v1) o2.dst v2) o3.dst v3).n=true:=by rfl):AL Tryz.prog ops Q (o0 ::o1 ::o2 ::o3 ::o4 ::l) s:=mV aj _ h0 (mV aj _ h1 (mV aj _ h2 (mV aj _ h3 (mV aj _ h4 k g4 d4) g3 d3) g2 d2) g1 d1) g0 d0
theorem mv6{o0 o1 o2 o3 o4 o5:Oper}{v0 v1 v2 v3 v4 v5:AV}(h0:jg TT s o0.op=some v0)(h1:jg TT (AS.put s o0.dst v0) o1.op=some v1)(h2:jg TT (AS.put (AS.put s o0.dst v0) o1.dst v1) o2.op=some v2)(h3:jg TT (AS.put (AS.put (AS.put s o0.dst v0) o1.dst v1) o2.dst v2) o3.op=some v3)(h4:jg TT (AS.put (AS.put (AS.put (AS.put s o0.dst v0) o1.dst v1) o2.dst v2) o3.dst v3) o4.op=some v4)(h5:jg TT (AS.put (AS.put (AS.put (AS.put (AS.put s o0.dst v0) o1.dst v1) o2.dst v2) o3.dst v3) o4.dst v4) o5.op=some v5)(k:AL Tryz.prog ops Q l (AS.put (AS.put (AS.put (AS.put (AS.put (AS.put s o0.dst v0) o1.dst v1) o2.dst v2) o3.dst v3) o4.dst v4) o5.dst v5))(g0:jP ops s o0=some true:=by rfl)(d0:kP o0.dst s.n=true:=by rfl)(g1:jP ops (AS.put s o0.dst v0) o1=some true:=by rfl)(d1:kP o1.dst (AS.put s o0.dst v0).n=true:=by rfl)(g2:jP ops (AS.put (AS.put s o0.dst v0) o1.dst v1) o2=some true:=by rfl)(d2:kP o2.dst (AS.put (AS.put s o0.dst v0) o1.dst v1).n=true:=by rfl)(g3:jP ops (AS.put (AS.put (AS.put s o0.dst v0) o1.dst v1) o2.dst v2) o3=some true:=by rfl)(d3:kP o3.dst (AS.put (AS.put (AS.put s o0.dst v0) o1.dst v1) o2.dst v2).n=true:=by rfl)(g4:jP ops (AS.put (AS.put (AS.put (AS.put s o0.dst v0) o1.dst v1) o2.dst v2) o3.dst v3) o4=some true:=by rfl)(d4:kP o4.dst (AS.put (AS.put (AS.put (AS.put s o0.dst v0) o1.dst v1) o2.dst v2) o3.dst v3).n=true:=by rfl)(g5:jP ops (AS.put (AS.put (AS.put (AS.put (AS.put s o0.dst v0) o1.dst v1) o2.dst v2) o3.dst v3) o4.dst v4) o5=some true:=by rfl)(d5:kP o5.dst (AS.put (AS.put (AS.put (AS.put (AS.put s o0.dst v0) o1.dst v1) o2.dst v2) o3.dst v3) o4.dst v4).n=true:=by rfl):AL Tryz.prog ops Q (o0 ::o1 ::o2 ::o3 ::o4 ::o5 ::l) s:=mV aj _ h0 (mV aj _ h1 (mV aj _ h2 (mV aj _ h3 (mV aj _ h4 (mV aj _ h5 k g5 d5) g4 d4) g3 d3) g2 d2) g1 d1) g0 d0
theorem mbF{b:Bool}(e:jg TT s o.op=some (.d (.one (.v (.bool b)))))(h:b=false)(k:AL Tryz.prog ops Q l (s.put o.dst (.d (.one (.v (.bool false))))))(hg:jP ops s o=some true:=by rfl)(hd:kP o.dst s.n=true:=by rfl):AL Tryz.prog ops Q (o ::l) s:=mV aj _ (e.trans (bZ h)) k hg hd
theorem mbT{b:Bool}(e:jg TT s o.op=some (.d (.one (.v (.bool b)))))(h:b=true)(k:AL Tryz.prog ops Q l (s.put o.dst (.d (.one (.v (.bool true))))))(hg:jP ops s o=some true:=by rfl)(hd:kP o.dst s.n=true:=by rfl):AL Tryz.prog ops Q (o ::l) s:=mV aj _ (e.trans (bZ h)) k hg hd
theorem mdF{p:Prop}[Decidable p](e:jg TT s o.op=some (.d (.one (.v (.bool (decide p))))))(h:¬ p)(k:AL Tryz.prog ops Q l (s.put o.dst (.d (.one (.v (.bool false))))))(hg:jP ops s o=some true:=by rfl)(hd:kP o.dst s.n=true:=by rfl):AL Tryz.prog ops Q (o ::l) s:=mbF e (decide_eq_false h) k hg hd
theorem mdT{p:Prop}[Decidable p](e:jg TT s o.op=some (.d (.one (.v (.bool (decide p))))))(h:p)(k:AL Tryz.prog ops Q l (s.put o.dst (.d (.one (.v (.bool true))))))(hg:jP ops s o=some true:=by rfl)(hd:kP o.dst s.n=true:=by rfl):AL Tryz.prog ops Q (o ::l) s:=mbT e (decide_eq_true h) k hg hd
def clk(s:AS)(p:Op):Option (FuncId×List DV):=match jR p with
 | some c=>match isF c.callee with
  | some f=>match qX s c.args.toList with
   | some ds=>some (f,ds)
   | none=>none
  | none=>none
 | none=>none
theorem Qz{p:Op}{f:FuncId}{ds:List DV}(h:clk s p=some (f,ds)):∃ c,jR p=some c∧isF c.callee=some f∧qX s c.args.toList=some ds:=by
 unfold clk at h;split at h
 ·rename_i c h1
  split at h
  ·rename_i f' h2
   split at h
   ·rename_i ds' h3
    cases h
    exact ⟨c,h1,h2,h3⟩
   ·cases h
  ·cases h
 ·cases h
theorem mY{f:FuncId}{ds:List DV}{res:AV}(h:aC P f ds res)(hc:clk s o.op=some (f,ds))(k:AL P ops Q l (s.put o.dst res))(hg:jP ops s o=some true:=by rfl)(hd:kP o.dst s.n=true:=by rfl):AL P ops Q (o ::l) s:=by
 obtain ⟨c,h1,h2,h3⟩:=Qz hc;exact aU h h1 h2 h3 k hg hd
theorem aN{f : FuncId}{fn : Func}{c : Code}{args : List DV}{r : AV}(n : Nat)(rs : List ResultVar)(hf : Tryz.prog.funcs[f]? = some fn)(h5 : (fn.body, (fn.name == "runtime.NumGoroutine"), fn.ntmps, fn.results.toList, Nat.ble args.length n) = (some c, false, n, rs, true))(h : AW Tryz.prog c (Wx TT rs r) ⟨n, params 0 args, []⟩): aC Tryz.prog f args r := by
 simp only [Prod.mk.injEq] at h5;obtain ⟨h1,h2,h3,h4,h6⟩:=h5;exact aH aj n rs hf h1 h2 h3 h4 h6 h
theorem rE{rs:List ResultVar}{r:AV}(h:(EY TT s rs).map JV=some r):Wx TT rs r .ret s:=by
 cases e:EY TT s rs with
 | none=>rw [e] at h;cases h
 | some es=>rw [e] at h;cases h;exact rQ e AV.le.rfl
def aiA(s:AS)(o:Oper):Option (AO×Nat):=match U5 TT s o.op with
 | some ob=>match o.dst with
  | some d=>match lk s.hp d with
   | none=>some (ob,d)
   | some _=>none
  | none=>none
 | none=>none
theorem mO{ob:AO}{d:Nat}(h:aiA s o=some (ob,d))(k:AL Tryz.prog ops Q l (s.mk' d ob))(hg:jP ops s o=some true:=by rfl)(hd:kP (some d) s.n=true:=by rfl):AL Tryz.prog ops Q (o ::l) s:=by
 unfold aiA at h;split at h
 ·rename_i ob' h1
  split at h
  ·rename_i d' h2
   split at h
   ·rename_i h3
    cases h
    exact mN aj ob h1 h2 h3 k hg hd
   ·cases h
  ·cases h
 ·cases h
theorem mZ{id:Nat}{ob:AO}(h:VW TT s o.op=some (id,ob))(k:AL Tryz.prog ops Q l (AS.put ⟨s.n,s.sl,(id,ob) ::s.hp⟩ o.dst .dead))(hg:jP ops s o=some true:=by rfl)(hd:kP o.dst s.n=true:=by rfl):AL Tryz.prog ops Q (o ::l) s:=mS aj id ob h k hg hd
theorem cDk{id:Nat}(n:Nat)(h:Jd Tryz.prog TT l.toArray (fun s1=>AL Tryz.prog l.toArray Q (l.drop n) s1) (l.take n) s)(hm:Tryz.prog.follows .mixedOrders=true:=by kernel_rfl)(hB:Am.allB l.toArray n s.n=true:=by kernel_rfl)(hD:Am.U2 l.toArray n=true:=by kernel_rfl):AW Tryz.prog (.region id l.toArray true) Q s:=aP aj n hm hB hD h
theorem cDs{id:Nat}(n:Nat)(h:J5 Tryz.prog TT l.toArray (fun s1=>AL Tryz.prog l.toArray Q (l.drop n) s1) 0 [] (l.take n) s)(hm:Tryz.prog.follows .mixedOrders=true:=by kernel_rfl)(hB:Am.allB l.toArray n s.n=true:=by kernel_rfl):AW Tryz.prog (.region id l.toArray true) Q s:=kD aj n hm hB h
theorem oV{K:AS→Prop}{av:AV}(h:jg TT s o.op=some av)(k:Jd Tryz.prog TT ops K l (s.put o.dst av))(hg:jP ops s o=some true:=by rfl)(hd:kP o.dst s.n=true:=by rfl):Jd Tryz.prog TT ops K (o ::l) s:= .cons (.V av h hg hd) k
theorem oT{K:AS→Prop}{b:Bool}(e:jg TT s o.op=some (.d (.one (.v (.bool b)))))(h:b=true)(k:Jd Tryz.prog TT ops K l (s.put o.dst (.d (.one (.v (.bool true))))))(hg:jP ops s o=some true:=by rfl)(hd:kP o.dst s.n=true:=by rfl):Jd Tryz.prog TT ops K (o ::l) s:= .cons (.V _ (e.trans (bZ h)) hg hd) k
theorem oTd{K:AS→Prop}{p:Prop}[Decidable p](e:jg TT s o.op=some (.d (.one (.v (.bool (decide p))))))(h:p)(k:Jd Tryz.prog TT ops K l (s.put o.dst (.d (.one (.v (.bool true))))))(hg:jP ops s o=some true:=by rfl)(hd:kP o.dst s.n=true:=by rfl):Jd Tryz.prog TT ops K (o ::l) s:=oT e (decide_eq_true h) k hg hd
theorem oF{K:AS→Prop}{b:Bool}(e:jg TT s o.op=some (.d (.one (.v (.bool b)))))(h:b=false)(k:Jd Tryz.prog TT ops K l (s.put o.dst (.d (.one (.v (.bool false))))))(hg:jP ops s o=some true:=by rfl)(hd:kP o.dst s.n=true:=by rfl):Jd Tryz.prog TT ops K (o ::l) s:= .cons (.V _ (e.trans (bZ h)) hg hd) k
theorem oFd{K:AS→Prop}{p:Prop}[Decidable p](e:jg TT s o.op=some (.d (.one (.v (.bool (decide p))))))(h:¬ p)(k:Jd Tryz.prog TT ops K l (s.put o.dst (.d (.one (.v (.bool false))))))(hg:jP ops s o=some true:=by rfl)(hd:kP o.dst s.n=true:=by rfl):Jd Tryz.prog TT ops K (o ::l) s:=oF e (decide_eq_false h) k hg hd
theorem oC{K:AS→Prop}{f:FuncId}{ds:List DV}{res:AV}(h:aC Tryz.prog f ds res)(hk:clk s o.op=some (f,ds))(k:Jd Tryz.prog TT ops K l (s.put o.dst res))(hg:jP ops s o=some true:=by rfl)(hd:kP o.dst s.n=true:=by rfl):Jd Tryz.prog TT ops K (o ::l) s:=by
 obtain ⟨c,h1,h2,h3⟩:=Qz hk;exact .cons (.C0 h h1 h2 h3 hg hd) k
theorem pV{K:AS→Prop}{i:Nat}{log:List (Nat×List Nat×Bool)}{av:AV}(h:jg TT s o.op=some av)(k:J5 Tryz.prog TT ops K (i+1) ((i,pJ s o.op,uX o.op) ::log) l (s.put o.dst av))(hc:NQ ops log o (pJ s o.op)=true:=by kernel_rfl)(hg:jP ops s o=some true:=by rfl)(hd:kP o.dst s.n=true:=by rfl):J5 Tryz.prog TT ops K i log (o ::l) s:= .cons (.V av h hg hd) hc k
theorem pT{K:AS→Prop}{i:Nat}{log:List (Nat×List Nat×Bool)}{b:Bool}(e:jg TT s o.op=some (.d (.one (.v (.bool b)))))(h:b=true)(k:J5 Tryz.prog TT ops K (i+1) ((i,pJ s o.op,uX o.op) ::log) l (s.put o.dst (.d (.one (.v (.bool true))))))(hc:NQ ops log o (pJ s o.op)=true:=by kernel_rfl)(hg:jP ops s o=some true:=by rfl)(hd:kP o.dst s.n=true:=by rfl):J5 Tryz.prog TT ops K i log (o ::l) s:= .cons (.V _ (e.trans (bZ h)) hg hd) hc k
theorem pTd{K:AS→Prop}{i:Nat}{log:List (Nat×List Nat×Bool)}{p:Prop}[Decidable p](e:jg TT s o.op=some (.d (.one (.v (.bool (decide p))))))(h:p)(k:J5 Tryz.prog TT ops K (i+1) ((i,pJ s o.op,uX o.op) ::log) l (s.put o.dst (.d (.one (.v (.bool true))))))(hc:NQ ops log o (pJ s o.op)=true:=by kernel_rfl)(hg:jP ops s o=some true:=by rfl)(hd:kP o.dst s.n=true:=by rfl):J5 Tryz.prog TT ops K i log (o ::l) s:=pT e (decide_eq_true h) k hc hg hd
theorem pF{K:AS→Prop}{i:Nat}{log:List (Nat×List Nat×Bool)}{b:Bool}(e:jg TT s o.op=some (.d (.one (.v (.bool b)))))(h:b=false)(k:J5 Tryz.prog TT ops K (i+1) ((i,pJ s o.op,uX o.op) ::log) l (s.put o.dst (.d (.one (.v (.bool false))))))(hc:NQ ops log o (pJ s o.op)=true:=by kernel_rfl)(hg:jP ops s o=some true:=by rfl)(hd:kP o.dst s.n=true:=by rfl):J5 Tryz.prog TT ops K i log (o ::l) s:= .cons (.V _ (e.trans (bZ h)) hg hd) hc k
theorem pFd{K:AS→Prop}{i:Nat}{log:List (Nat×List Nat×Bool)}{p:Prop}[Decidable p](e:jg TT s o.op=some (.d (.one (.v (.bool (decide p))))))(h:¬ p)(k:J5 Tryz.prog TT ops K (i+1) ((i,pJ s o.op,uX o.op) ::log) l (s.put o.dst (.d (.one (.v (.bool false))))))(hc:NQ ops log o (pJ s o.op)=true:=by kernel_rfl)(hg:jP ops s o=some true:=by rfl)(hd:kP o.dst s.n=true:=by rfl):J5 Tryz.prog TT ops K i log (o ::l) s:=pF e (decide_eq_false h) k hc hg hd
theorem pC{K:AS→Prop}{i:Nat}{log:List (Nat×List Nat×Bool)}{f:FuncId}{ds:List DV}{res:AV}(h:aC Tryz.prog f ds res)(hk:clk s o.op=some (f,ds))(k:J5 Tryz.prog TT ops K (i+1) ((i,pJ s o.op,uX o.op) ::log) l (s.put o.dst res))(hc:NQ ops log o (pJ s o.op)=true:=by kernel_rfl)(hg:jP ops s o=some true:=by rfl)(hd:kP o.dst s.n=true:=by rfl):J5 Tryz.prog TT ops K i log (o ::l) s:=by
 obtain ⟨c,h1,h2,h3⟩:=Qz hk;exact .cons (.C0 h h1 h2 h3 hg hd) hc k
end
theorem Tryz.infoInt:(Tryz.prog.info? 3).map (fun i=>(i.zero,i.size,i.bytes))=some (some (.int .i64 0),1,8):=by kernel_rfl
theorem VB(ao:Option Addr)(n c:Nat)(xs:List Nat)(w:World)(hm:n≤9223372036854775807)(hr:Rw .i64 B4 w ao n c xs):
  Calls Tryz.prog 144 #[.slice ao n c] w fun e w'=>e= .returned (.slice ao (sJ xs n) c)∧w'=w:=by
 have hlc:=hr.le;go_enter Tryz.func144,Tryz.ntmps144;go_wp2;go_loop [3] (fun n'=>∃ k:Nat,k≤n∧n'= .int .i64 k∧sJ xs k=sJ xs n) (fun n'=>(intOf n').toNat)
 case atStart=>exact ⟨n,Nat.le_refl _,rfl,rfl⟩
 case round=>
  obtain ⟨k,hk,rfl,hcut⟩:=hrel;have P8:=aS hcut;clear hcut
  by_cases h0:k=0
  ·subst h0
   go_wp2;go_ret;exact ⟨by rw [← P8];rfl,rfl⟩
  ·obtain ⟨j,rfl⟩:∃ j,k=j+1:=⟨k-1,by omega⟩
   obtain ⟨b,off,x,rfl,hx,jL,hcj⟩:=hr.at (show j < n by omega);have Hx:=aS hx;clear hx hr
   by_cases hz:x=0
   ·subst hz
    go_wp2;go_round
    case rel=>exact ⟨j,by omega,rfl,by rw [← P8];simp [sJ,Hx.out]⟩
    case measure=>simp [intOf]
   ·have hz':((x:Int)==0)=false:=by simpa using hz
    go_wp2;go_ret;exact ⟨by rw [← P8];simp [sJ,Hx.out,hz],rfl⟩
/-- The document's cut: the same memory, as far as the row of the number goes. -/
theorem vg(ao:Option Addr)(n c:Nat)(xs:List Nat)(w:World)(hm:n≤9223372036854775807)(hr:Rw .i64 B4 w ao n c xs):
  Calls Tryz.prog 144 #[.slice ao n c] w fun e w'=>∃ m,e= .returned (.slice ao m c)∧m≤n∧Rw .i64 B4 w ao m c (aT (jJ xs))∧w=w':=by
 refine (VB ao n c xs w hm hr).mono fun e w' ⟨he,hw⟩=>?_
 have hcut:=Jo xs hr.lt;have hr2:=hr.take (BK xs n);have hl:=hr.len;subst hl;rw [hcut] at hr2;exact ⟨_,he,BK _ _,hr2,hw.symm⟩
theorem Ah(ao:Option Addr)(n cp m c0:Nat)(xs:List Nat)(w:World)(hn:n≤1073741824)(hm:m≤65536)(hc:c0≤1000000)(hr:Rw .i64 B4 w ao n cp xs):
  Calls Tryz.prog 120 #[.slice ao n cp,.int .i64 (m:Int),.int .i64 (c0:Int)] w fun e w'=>∃ ro k c',e= .returned (.slice ro k c')∧Rw .i64 B4 w' ro k c' (aT (jJ xs*m+c0))∧qN w.heap.size w' ro c'∧Below w.heap.size w w':=by
 have hl:=hr.len;have HL:=aS hl;clear hl;obtain ⟨i0,hi,hz0,hz1,hz2⟩:=info_parts Tryz.infoInt;go_enter Tryz.func120,Tryz.ntmps120;go_wp2_with (at_make;refine Hid.out ?_);refine aS<|wpList_make_own _ rfl _ _ 45 rfl w.heap.size 3 i0 (.int .i64 0) 1 Tryz.underlying45 hi hz0 hz1 .i64 .i64 _ (n+2) rfl rfl (by omega) (by rw [hz2];omega) (by unfold maxLen;omega) (Nat.le_refl _) fun w1 hown hgrow=>?_
 have hb1:Below w.heap.size w w1:=(Below.refl _ _).grown hgrow (Nat.le_refl _) (fun k hk=>nomatch hk);clear hi hz0 hz1 hz2 hgrow;obtain ⟨v0,hv0⟩:∃ v,v=Value.slice (some ⟨w.heap.size,0,none⟩) 0 (n+2):=⟨_,rfl⟩
 rw [← hv0] at hown ⊢;clear hv0;go_wp2_with fail;go_loopw [2,7,8] (fun s2 s7 s8 wr=>∃ (k c:Nat) (os:List Nat),s8= .int .i64 k∧s2= .int .i64 c∧c≤1000000∧k+c≤n+1000000∧os.length=k∧(∀ o∈os,o < B4)∧wr.ownsRow w.heap.size 3 1 s7 k (dY .i64 os)∧Below w.heap.size w wr∧
   aI B4 os+B4^k*c=aI B4 (xs.take k)*m+c0) (fun s2 _ s8 _=>(n-(intOf s8).toNat)*1000001+(intOf s2).toNat)
 case atStart=>exact ⟨0,c0,[],rfl,rfl,hc,by omega,rfl,by simp,hown,hb1,by simp [aI]⟩
 case round=>
  obtain ⟨k,c,os,rfl,rfl,hcB,hkc,hol,oz,hown,hb,hv⟩:=hrel;have HV:=aS hv;have HOL:=aS hol;clear hv hol hb1;have hbs:=hb.size
  by_cases hkn:k < n
  ·obtain ⟨b,off,x,rfl,hx,jL,hcx⟩:=(hr.ext hb).at hkn
   have hx':x≤9999:=by have:x < 10000:=jL;omega
   have Hx:=aS hx;clear hx jL;have hxm:=Nat.mul_le_mul hx' hm;have hxm1:(x:Int)*(m:Int)≤655294464:=by rw [← Int.natCast_mul];omega
   have hxm2:(0:Int)≤(x:Int)*(m:Int):=by rw [← Int.natCast_mul];omega
   have HXM:=aS hxm;clear hxm;go_wp2_with (at_builtin;refine Hid.out ?_);refine aS<|jK _ rfl _ _ 45 rfl w.heap.size 3 (.int .i64 0) 1 8 Tryz.underlying45 Tryz.infoInt rfl (by decide) u7 k (dY .i64 os) rfl (hown.alloc _) (some ⟨wr.heap.size,0,none⟩) 1 1 [Value.int .i64 (((c:Int)+(x:Int)*(m:Int))%10000)] rfl rfl (fun e=>nomatch e) (Nat.le_refl _) (l7 _ _ _) (wG _ _) (by unfold maxLen;omega) (by omega) (by rw [World.size_alloc];omega) fun v' w2 hown' _ hb2=>?_
   have hb3:Below w.heap.size w w2:=(hb.alloc hbs _).trans hb2;have e0:((c+x*m:Nat):Int)=(c:Int)+(x:Int)*(m:Int):=by simp
   have e1:((c:Int)+(x:Int)*(m:Int))%10000=(((c+x*m)%10000:Nat):Int):=by rw [← e0];rfl
   rw [e1,oO] at hown';have E0:=aS e0;clear e0 e1 hown;go_wp2;go_roundw
   case rel=>
    refine ⟨k+1,(c+x*m) / 10000,os ++ [(c+x*m)%10000],by go_num,by rw [← E0.out];rfl,?_,?_,by rw [List.length_append,HOL.out];rfl,kJ oz (Nat.mod_lt _ (by decide)),hown',hb3,?_⟩
    ·have:=HXM.out;omega
    ·have:=HXM.out;omega
    ·exact EI HOL.out HV.out (aQ _ Hx.out)
   case measure=>
    have h1:((c:Int)+(x:Int)*(m:Int)) / 10000≤1000000:=by omega
    simp only [intOf];omega
  ·have hnx:aI B4 (xs.take (k+1))=aI B4 (xs.take k):=iy _ (by rw [HL.out];omega)
   have HNX:=aS hnx;clear hnx
   by_cases hc0:c=0
   ·subst hc0
    have hd:decide ((k:Int) < (n:Int))=false:=by rw [decide_eq_false_iff_not];omega
    have hval:jJ os=jJ xs*m+c0:=by
     have h2:=HV.out;rw [List.take_of_length_le (l:=xs) (by rw [HL.out];omega)] at h2;unfold jJ;omega
    obtain ⟨ao',c',rfl,h1,h2⟩:=kK (k:= .i64) (B:=B4) (by rw [HOL.out];exact hown) oz;have aeL:=aS hval;clear hval;go_wp2_with fail;refine (vg _ _ _ _ _ (by rw [HOL.out];omega) h1).mono ?_;rintro e w' ⟨r1,rfl,hr1,hres,rfl⟩;rw [aeL.out] at hres;go_wp2;go_ret;exact ⟨_,_,_,rfl,hres,h2,hb⟩
   ·have hd1:decide (k < n)=false:=by rw [decide_eq_false_iff_not];omega
    have hcpos:0 < c:=by omega
    go_wp2_with (at_builtin;refine Hid.out ?_);refine aS ?_;refine jK _ rfl _ _ 45 rfl w.heap.size 3 (.int .i64 0) 1 8 Tryz.underlying45 Tryz.infoInt rfl (by decide) u7 k (dY .i64 os) rfl (hown.alloc _) (some ⟨wr.heap.size,0,none⟩) 1 1 [Value.int .i64 ((c:Int)%10000)] rfl rfl (fun e=>nomatch e) (Nat.le_refl _) (l7 _ _ _) (wG _ _) (by unfold maxLen;omega) (by omega) (by rw [World.size_alloc];omega) fun v' w2 hown' _ hb2=>?_
    have hb3:Below w.heap.size w w2:=(hb.alloc hbs _).trans hb2;have e1:(c:Int)%10000=(((c+0*m)%10000:Nat):Int):=by simp
    rw [e1,oO] at hown';clear e1 hown;go_wp2;go_roundw
    case rel=>
     refine ⟨k+1,(c+0*m) / 10000,os ++ [(c+0*m)%10000],by go_num,by simp,by omega,by omega,by rw [List.length_append,HOL.out];rfl,kJ oz (Nat.mod_lt _ (by decide)),hown',hb3,?_⟩;exact EI HOL.out HV.out (by rw [HNX.out];simp)
    case measure=>
     simp only [intOf];omega
theorem Ag(ao:Option Addr)(n cp m c0:Nat)(xs:List Nat)(w:World)(hn:n≤1073741824)(hm:m≤65536)(hc:c0≤1000000)(hr:Rw .i64 B4 w ao n cp xs):
  Calls Tryz.prog 120 #[.slice ao n cp,.int .i64 (m:Int),.int .i64 (c0:Int)] w fun e w'=>∃ ro k c',e= .returned (.slice ro k c')∧Rw .i64 B4 w' ro k c' (aT (jJ xs*m+c0))∧Below w.heap.size w w':=
 (Ah ao n cp m c0 xs w hn hm hc hr).mono fun e w' ⟨ro,k,c',he,h1,_,h2⟩=>⟨ro,k,c',he,h1,h2⟩
theorem U8(ao:Option Addr)(n cp:Nat)(xs:List Nat)(w:World)(hn:n≤100000000)(hr:Rw .u32 bP w ao n cp xs):
  Calls Tryz.prog 110 #[.slice ao n cp] w fun e w'=>∃ ro k c',e= .returned (.slice ro k c')∧Rw .i64 B4 w' ro k c' (aT (val xs))∧k≤3*n∧qN w.heap.size w' ro c'∧Below w.heap.size w w':=by
 have hl:=hr.len;have HL:=aS hl;clear hl;go_enter Tryz.func110,Tryz.ntmps110;go_wp2_with fail;go_loopw [3,4] (fun s3 s4 wr=>∃ (k:Nat) (ro:Option Addr) (m c':Nat),k≤n∧s4= .int .i64 ((k:Int)-1)∧s3= .slice ro m c'∧Rw .i64 B4 wr ro m c' (aT (aI bP (xs.drop k)))∧qN w.heap.size wr ro c'∧Below w.heap.size w wr) (fun _ s4 _=>(intOf s4+1).toNat)
 case atStart=>exact ⟨n,none,0,0,Nat.le_refl _,rfl,rfl,by rw [List.drop_of_length_le (Nat.le_of_eq HL.out)];exact Rw.nil _ _ _,qN.nil _ _ _,Below.refl _ _⟩
 case round=>
  obtain ⟨k,ro,m,c',hk,rfl,rfl,hrow,hown,hb⟩:=hrel;have hlen:=hrow.len;have hmB:m≤300000000:=by
   have h1:=lX (B:=bP) (xs:=xs.drop k) (fun x hx=>hr.lt x (List.mem_of_mem_drop hx));have h2:=qU h1;rw [hlen,List.length_drop,HL.out] at h2;omega
  clear hlen
  by_cases h0:k=0
  ·subst h0
   go_wp2;go_ret;refine ⟨_,_,_,rfl,by rw [List.drop_zero] at hrow;exact hrow,?_,hown,hb⟩;have h1:=qU (IL hr.lt);rw [List.drop_zero] at hrow;have h3:=hrow.len;rw [HL.out] at h1;unfold val at h1;omega
  ·obtain ⟨j,rfl⟩:∃ j,k=j+1:=⟨k-1,by omega⟩
   obtain ⟨b,off,x,rfl,hx,jL,hcx⟩:=(hr.ext hb).at (show j < n by omega);have hx':x < 4294967296:=jL;obtain ⟨xh,hxh⟩:∃ xh,xh=x / 65536:=⟨_,rfl⟩
   obtain ⟨xl,hxl⟩:∃ xl,xl=x%65536:=⟨_,rfl⟩
   have e1:(x:Int) / 65536=(xh:Int):=by omega
   have e2:(x:Int)%65536=(xl:Int):=by omega
   have hxhB:xh < 65536:=by omega
   have hxlB:xl < 65536:=by omega
   have hx2:x=xh*65536+xl:=by omega
   have hval:=sF bP hx;have aeL:=aS hval;have HX2:=aS hx2;clear hx jL hxh hxl hx2 hval;go_wp2_with fail;refine (Ag _ m c' 65536 xh _ _ (by omega) (by omega) (by omega) hrow).mono ?_;rintro e w1 ⟨r1,k1,c1,rfl,hrow1,hb1⟩;rw [dN] at hrow1;have hk1:k1≤300000003:=by
    have h3:jJ (aT (aI bP (xs.drop (j+1))))*65536+xh < bP^(n-(j+1)+1):=by
     rw [dN];have h1:=lX (B:=bP) (xs:=xs.drop (j+1)) (fun x hx=>hr.lt x (List.mem_of_mem_drop hx));rw [List.length_drop,HL.out] at h1;rw [Nat.pow_succ];unfold bP at *
     omega
    have h4:=qU h3;rw [dN,hrow1.len] at h4;omega
   have al6:=hb1.cell (p:=⟨b,off+j,none⟩) (World.block_lt_of_cell? _ _ hcx);rw [hcx] at al6;go_wp2_with fail;refine (Ah _ k1 c1 65536 xl _ _ (by omega) (by omega) (by omega) hrow1).mono ?_;rintro e w2 ⟨r2,k2,c2,rfl,hrow2,hown2,hb2⟩;have hown3:=hown2.mono (Nat.le_trans hb.size hb1.size);clear hown2 hown;rw [dN] at hrow2;go_wp2;go_roundw
   case rel=>
    refine ⟨j,r2,k2,c2,by omega,by go_num,rfl,?_,hown3,hb.trans ((kS hb1 hb2).mono hb.size)⟩;rw [aeL.out,HX2.out,show xh*65536+xl+bP*aI bP (xs.drop (j+1))=(aI bP (xs.drop (j+1))*65536+xh)*65536+xl by unfold bP;omega];exact hrow2
   case measure=>simp [intOf];try omega
theorem Tryz.infoU32:(Tryz.prog.info? 165).map (fun i=>(i.zero,i.size,i.bytes))=some (some (.int .u32 0),1,4):=by kernel_rfl
theorem Tryz.sizeU32:(Tryz.prog.info? 165).map (·.size)=some 1:=by kernel_rfl
theorem XE(ao:Option Addr)(n c:Nat)(xs:List Nat)(w:World)(hm:n≤9223372036854775807)(hr:Rw .u32 bP w ao n c xs):
  Calls Tryz.prog 155 #[.slice ao n c] w fun e w'=>e= .returned (.slice ao (sJ xs n) c)∧w'=w:=by
 have hlc:=hr.le;go_enter Tryz.func155,Tryz.ntmps155;go_wp2;go_loop [3] (fun n'=>∃ k:Nat,k≤n∧n'= .int .i64 k∧sJ xs k=sJ xs n) (fun n'=>(intOf n').toNat)
 case atStart=>exact ⟨n,Nat.le_refl _,rfl,rfl⟩
 case round=>
  obtain ⟨k,hk,rfl,hcut⟩:=hrel;have P8:=aS hcut;clear hcut
  by_cases h0:k=0
  ·subst h0
   go_wp2;go_ret;exact ⟨by rw [← P8];rfl,rfl⟩
  ·obtain ⟨j,rfl⟩:∃ j,k=j+1:=⟨k-1,by omega⟩
   obtain ⟨b,off,x,rfl,hx,jL,hcj⟩:=hr.at (show j < n by omega);have Hx:=aS hx;clear hx hr
   by_cases hz:x=0
   ·subst hz
    go_wp2;go_round
    case rel=>exact ⟨j,by omega,rfl,by rw [← P8];simp [sJ,Hx.out]⟩
    case measure=>simp [intOf]
   ·have hz':((x:Int)==0)=false:=by simpa using hz
    go_wp2;go_ret;exact ⟨by rw [← P8];simp [sJ,Hx.out,hz],rfl⟩
/-- cut: the same memory, as far as the row of the number goes. -/
theorem gB(ao:Option Addr)(n c:Nat)(xs:List Nat)(w:World)(hm:n≤9223372036854775807)(hr:Rw .u32 bP w ao n c xs):
  Calls Tryz.prog 155 #[.slice ao n c] w fun e w'=>∃ m,e= .returned (.slice ao m c)∧m≤n∧Rw .u32 bP w ao m c (cO (val xs))∧w=w':=by
 refine (XE ao n c xs w hm hr).mono fun e w' ⟨he,hw⟩=>?_
 have hcut:=UU xs hr.lt;have hr2:=hr.take (BK xs n);have hl:=hr.len;subst hl;rw [hcut] at hr2;exact ⟨_,he,BK _ _,hr2,hw.symm⟩
theorem OV(ao:Option Addr)(n c:Nat)(xs:List Nat)(w:World)(hm:n≤1073741824)(hr:Rw .u32 bP w ao n c xs):
  Calls Tryz.prog 147 #[.slice ao n c] w fun e w'=>∃ ao' m c',e= .returned (.slice ao' m c')∧m≤n∧Rw .u32 bP w' ao' m c' (cO (val xs))∧qN w.heap.size w' ao' c'∧Below w.heap.size w w':=by
 go_enter Tryz.func147,Tryz.ntmps147;go_wp2_with fail;refine (gB ao n c xs _ (by omega) hr).mono ?_;rintro e w' ⟨m,rfl,hmn,hr2,rfl⟩;have hl2:=hr2.len;go_wp2_with (at_builtin;refine Hid.out ?_);refine aS ?_;refine jK _ rfl _ _ 34 rfl w.heap.size 165 (.int .u32 0) 1 4 Tryz.underlying34 Tryz.infoU32 rfl (by decide) (.slice none 0 0) 0 [] rfl (World.ownsRow_nil _ _ _ _) ao m c (dY .u32 (cO (val xs))) rfl (by rw [bK];omega) hr2.2.2.1 hr2.le hr2.cells (He _ _) (by unfold maxLen;omega) (by omega) (Nat.le_refl _) fun v' w1 hown _ hb=>?_
 rw [Nat.zero_add,List.nil_append] at hown;obtain ⟨ao',c',rfl,h1,h2⟩:=kK (k:= .u32) (B:=bP) (by rw [hl2];exact hown) hr2.lt;rw [hl2] at h1;go_wp2;go_ret;exact ⟨_,_,_,rfl,hmn,h1,h2,hb⟩
/-- -1, 0, 1: which one is greater. -/
def jS(a b:Int):Int:=if a < b then -1 else if a=b then 0 else 1
theorem yT{B:Nat}{xs ys:List Nat}(hx:∀ x∈xs,x < B)(hl:xs.length=ys.length){k:Nat}(hk:k < xs.length)(hd:xs.drop (k+1)=ys.drop (k+1)) 
  (hlt:xs[k] < ys[k]'(by omega)):aI B xs < aI B ys:=by
 rw [oQ B xs (k+1) (by omega),oQ B ys (k+1) (by omega),hd,jw B xs k hk,jw B ys k (by omega)];have h1:aI B (xs.take k) < B^k:=by
  have:=lX (xs:=xs.take k) (fun x h=>hx x (List.mem_of_mem_take h));rwa [List.length_take,Nat.min_eq_left (by omega)] at this
 have h2:B^k*(xs[k]+1)≤B^k*(ys[k]'(by omega)):=Nat.mul_le_mul_left _ hlt;rw [Nat.mul_add] at h2;omega
theorem SC(ao bo:Option Addr)(n c m d:Nat)(xs ys:List Nat)(w:World)(hn:n≤1073741824)(hm:m≤1073741824)(hr:Rw .u32 bP w ao n c xs)(hs:Rw .u32 bP w bo m d ys):
  Calls Tryz.prog 133 #[.slice ao n c,.slice bo m d] w fun e w'=>e= .returned (.int .i64 (jS (val xs) (val ys)))∧Below w.heap.size w w':=by
 go_enter Tryz.func133,Tryz.ntmps133;go_wp2_with fail;refine (gB ao n c xs _ (by omega) hr).mono ?_;rintro e w' ⟨n1,rfl,hn1,hr1,rfl⟩;go_wp2_with fail;refine (gB bo m d ys _ (by omega) hs).mono ?_;rintro e w' ⟨m1,rfl,hm1,hs1,rfl⟩;have hl1:=hr1.len;have hl2:=hs1.len;generalize hA:cO (val xs)=A at *
 generalize hB:cO (val ys)=B at *
 have HA:=aS hA;have HB:=aS hB;have Nu:=aS hl1;have HL2:=aS hl2;clear hA hB hl1 hl2;have hvx:val xs=val A:=by rw [← HA.out,dh]
 have hvy:val ys=val B:=by rw [← HB.out,dh]
 have HVX:=aS hvx;have VR:=aS hvy;clear hvx hvy hr hs
 by_cases hne:n1=m1
 ·subst hne
  go_wp2_with fail;go_loopw [5] (fun i wr=>∃ k:Nat,k≤n1∧i= .int .i64 ((k:Int)-1)∧A.drop k=B.drop k∧Below w.heap.size w wr) (fun i _=>(intOf i+1).toNat)
  case atStart=>exact ⟨n1,Nat.le_refl _,rfl,by rw [List.drop_of_length_le (Nat.le_of_eq Nu.out),List.drop_of_length_le (Nat.le_of_eq HL2.out)],Below.refl _ _⟩
  case round=>
   obtain ⟨k,hk,rfl,hd,hb⟩:=hrel;have Hd:=aS hd;clear hd
   by_cases h0:k=0
   ·subst h0
    go_wp2;go_ret;exact ⟨iR (by have:=Hd.out;simp only [List.drop_zero] at this;rw [HVX.out,VR.out,this];simp [jS]),hb⟩
   ·obtain ⟨j,rfl⟩:∃ j,k=j+1:=⟨k-1,by omega⟩
    obtain ⟨b1,off1,x,rfl,hx,jL,hcx⟩:=(hr1.ext hb).at (show j < n1 by omega);obtain ⟨b2,off2,y,rfl,hy,hyB,hcy⟩:=(hs1.ext hb).at (show j < n1 by omega);have Hx:=aS hx;have Hy:=aS hy;clear hx hy
    by_cases hxy:x < y
    ·go_wp2
     go_quiet (fail);go_wp2;go_ret;refine ⟨iR ?_,iV hb _⟩;have hA:A.length=B.length:=by rw [Nu.out,HL2.out]
     have:=yT (B:=bP) hr1.lt hA (k:=j) (by rw [Nu.out];omega) Hd.out (by
      obtain ⟨_,e1⟩:=List.getElem?_eq_some_iff.1 Hx.out;obtain ⟨_,e2⟩:=List.getElem?_eq_some_iff.1 Hy.out;rw [e1,e2];exact hxy)
     rw [HVX.out,VR.out];unfold val;rw [jS,if_pos (by omega)]
    ·by_cases hyx:y < x
     ·have e1:decide (x < y)=false:=by simpa using hxy
      go_wp2;go_quiet (fail);go_wp2;go_quiet (fail);go_wp2;go_ret;refine ⟨iR ?_,iV (iV hb _) _⟩;have hA:B.length=A.length:=by rw [Nu.out,HL2.out]
      have:=yT (B:=bP) hs1.lt hA (k:=j) (by rw [HL2.out];omega) Hd.out.symm (by
       obtain ⟨_,e1⟩:=List.getElem?_eq_some_iff.1 Hx.out;obtain ⟨_,e2⟩:=List.getElem?_eq_some_iff.1 Hy.out;rw [e1,e2];exact hyx)
      rw [HVX.out,VR.out];unfold val;rw [jS,if_neg (by omega),if_neg (by omega)]
     ·have e1:decide (x < y)=false:=by simpa using hxy
      have e2:decide (y < x)=false:=by simpa using hyx
      obtain rfl:x=y:=by omega
      go_wp2;go_quiet (fail);go_wp2;go_quiet (fail);go_wp2;go_roundw
      case rel=>
       refine ⟨j,by omega,by go_num,?_,iV hb _⟩;obtain ⟨h1,e1⟩:=List.getElem?_eq_some_iff.1 Hx.out;obtain ⟨h2,e2⟩:=List.getElem?_eq_some_iff.1 Hy.out;rw [List.drop_eq_getElem_cons h1,List.drop_eq_getElem_cons h2,e1,e2,Hd.out]
      case measure=>simp [intOf]
 ·by_cases hlt:n1 < m1
  ·go_wp2
   go_ret;exact ⟨iR (by have:=um (m:=val xs) (n:=val ys) (by rw [HA.out,HB.out,Nu.out,HL2.out];exact hlt);rw [jS,if_pos (by omega)]),Below.refl _ _⟩
  ·go_wp2
   go_ret;exact ⟨iR (by have:=um (m:=val ys) (n:=val xs) (by rw [HA.out,HB.out,Nu.out,HL2.out];omega);rw [jS,if_neg (by omega),if_neg (by omega)]),Below.refl _ _⟩
theorem JX(ao:Option Addr)(n c:Nat)(xs:List Nat)(v:Nat)(w:World)(hn:n≤1073741824)(hv0:0 < v)(hvB:v≤65536)(hr:Rw .i64 B4 w ao n c xs):
  Calls Tryz.prog 121 #[.slice ao n c,.int .i64 (v:Int)] w fun e w'=>∃ ro k c',e= .returned (.tuple #[.slice ro k c',.int .i64 ((jJ xs%v:Nat):Int)])∧k≤n∧Rw .i64 B4 w' ro k c' (aT (jJ xs / v))∧qN w.heap.size w' ro c'∧Below w.heap.size w w':=by
 have amI:((v:Int)==0)=false:=by rw [beq_eq_false_iff_ne];omega
 have hvpos:(1:Int)≤v:=by omega
 go_enter Tryz.func121,Tryz.ntmps121;go_wp2_with (at_make;refine Hid.out ?_);refine aS ?_;refine iW _ rfl _ _ 45 rfl 3 (.int .i64 0) 8 Tryz.underlying45 Tryz.infoInt rfl .i64 .i64 _ _ n rfl rfl (by omega) (by omega) (by omega) (by unfold maxLen;omega) fun w2 hblk hbelow hlt=>?_
 obtain ⟨G,hG⟩:∃ G,G=w.heap.size:=⟨_,rfl⟩
 rw [← hG] at hblk hlt hbelow ⊢;have HG:=aS hG;clear hG;rw [← dZ] at hblk;have hpl:=hr.len;have J8:=aS hpl;clear hpl;go_wp2_with fail;go_loopw [7,8] (fun s7 s8 wr=>∃ (k r:Nat) (os:List Nat),k≤n∧s8= .int .i64 ((k:Int)-1)∧s7= .int .i64 r∧r < v∧os.length=n∧(∀ o∈os,o < B4)∧kC wr G 3 (dY .i64 os)∧Below G w wr∧
   aI B4 (xs.drop k)=v*aI B4 (os.drop k)+r) (fun _ s8 _=>(intOf s8+1).toNat)
 case atStart=>exact ⟨n,0,List.replicate n 0,Nat.le_refl _,rfl,rfl,hv0,by simp,(fun o ho=>by have:=(List.mem_replicate.1 ho).2;subst this;decide),hblk,hbelow,by rw [List.drop_of_length_le (Nat.le_of_eq J8.out),List.drop_of_length_le (by simp)];rfl⟩
 case round=>
  obtain ⟨k,r,os,hk,rfl,rfl,hrv,hol,oz,hb,hbe,hv⟩:=hrel;have HV:=aS hv;have HOL:=aS hol;clear hv hol hblk hbelow;have hb0:=hb.lt
  by_cases h0:k=0
  ·subst h0
   have hv:=HV.out;rw [List.drop_zero,List.drop_zero] at hv;have Nw:=aS hv;clear hv HV;go_wp2_with fail;have hrow:=hb.rw oz;rw [HOL.out] at hrow;refine (vg _ _ _ _ _ (by omega) hrow).mono ?_;rintro e w' ⟨r1,rfl,hr1',hres,rfl⟩;have hown:=hb.own (base:=G) (n:=n) (Nat.le_refl _) (by rw [bK,HOL.out];exact Nat.le_refl _);go_wp2;go_ret2;have hmod:jJ xs%v=r:=by
    have h2:=Nw.out;unfold jJ;rw [h2,Nat.mul_add_mod,Nat.mod_eq_of_lt hrv]
   have hdiv:jJ xs / v=jJ os:=by
    have h2:=Nw.out;unfold jJ;rw [h2,Nat.mul_add_div hv0,Nat.div_eq_of_lt hrv,Nat.add_zero]
   exact ⟨_,_,_,by rw [hmod];rfl,hr1',by rw [hdiv];exact hres,by rw [← HG.out];exact hown,by rw [← HG.out];exact hbe⟩
  ·obtain ⟨j,rfl⟩:∃ j,k=j+1:=⟨k-1,by omega⟩
   obtain ⟨b1,off1,x,rfl,hx,jL,hcx⟩:=(hr.ext (by rw [← HG.out];exact hbe)).at (show j < n by omega);have hx':x < 10000:=jL;have Hx:=aS hx;clear hx jL;have hcell:=hb.cell j (by rw [bK,HOL.out];omega);have hfree:=hb.free j;obtain ⟨s,hs⟩:∃ s:Nat,s=r*10000+x:=⟨_,rfl⟩
   have hsI:(r:Int)*10000+(x:Int)=(s:Int):=by omega
   have hqB:s / v < 10000:=by
    rw [Nat.div_lt_iff_lt_mul hv0,hs];have:=Nat.mul_le_mul_right 10000 (show r+1≤v from hrv);rw [Nat.add_mul,Nat.mul_comm v] at this;omega
   obtain ⟨q,hq⟩:∃ q:Nat,q=s / v:=⟨_,rfl⟩
   obtain ⟨t,ht⟩:∃ t:Nat,t=s%v:=⟨_,rfl⟩
   have htv:t < v:=by rw [ht];exact Nat.mod_lt _ hv0
   have hqv:v*q+t=s:=by rw [hq,ht];exact Nat.div_add_mod s v
   have hq':(s:Int) / (v:Int)=(q:Int):=by rw [hq];rfl
   have ht':(s:Int)%(v:Int)=(t:Int):=by rw [ht];rfl
   rw [← hq] at hqB;have HS:=aS hs;have HQV:=aS hqv;clear hs hqv hq ht;go_wp2;go_roundw
   case rel=>
    have hv:=hb.set j (.int .i64 (q:Int));rw [fD] at hv;refine ⟨j,t,os.set j q,by omega,by go_num,?_,htv,by rw [List.length_set];exact HOL.out,dH oz hqB j,?_,hbe.setCell (Nat.le_refl _) _,AB (by rw [HOL.out];omega) Hx.out HV.out HS.out HQV.out⟩
    ·first | rfl | (rw [ht'])
    ·exact hv
   case measure=>simp [intOf];try omega
theorem ac4(ao:Option Addr)(n c N:Nat)(w:World)(hn:n≤1000000000)(hr:Rw .i64 B4 w ao n c (aT N)):
  Calls Tryz.prog 93 #[.slice ao n c] w fun e w'=>∃ ro k c',e= .returned (.slice ro k c')∧Rw .u32 bP w' ro k c' (cO N)∧k≤n∧qN w.heap.size w' ro c'∧Below w.heap.size w w':=by
 go_enter Tryz.func93,Tryz.ntmps93;obtain ⟨v0,hv0⟩:∃ v,v=Value.slice none 0 0:=⟨_,rfl⟩
 go_wp2_with fail;go_loopw [0,3] (fun s0 s3 wr=>∃ (V k m c':Nat) (ao:Option Addr) (os:List Nat),s0= .slice ao m c'∧Rw .i64 B4 wr ao m c' (aT V)∧m+k≤n∧os.length=k∧(∀ o∈os,o < bP)∧wr.ownsRow w.heap.size 165 1 s3 k (dY .u32 os)∧
   Below w.heap.size w wr∧os ++cO V=cO N) (fun s0 _ _=>match s0 with | .slice _ m _=>m | _=>0)
 case atStart=>exact ⟨N,0,n,c,ao,[],rfl,hr,by omega,rfl,by simp,World.ownsRow_nil _ _ _ _,Below.refl _ _,rfl⟩
 case round=>
  obtain ⟨V,k,m,c',ao,os,rfl,hrow,hmk,hol,oz,hown,hb,hv⟩:=hrel;have hlen:=hrow.len;have HLEN:=aS hlen;have HOL:=aS hol;have HV:=aS hv;clear hlen hol hv;have hbs:=hb.size
  by_cases hm0:m=0
  ·subst hm0
   obtain ⟨ao',c1,rfl,h1,h2⟩:=kK (k:= .u32) (B:=bP) (by rw [HOL.out];exact hown) oz;rw [HOL.out] at h1;go_wp2;go_ret;have hV0:V=0:=BL.1 (List.eq_nil_of_length_eq_zero HLEN.out);have h3:=HV.out;rw [hV0,Q8,List.append_nil] at h3;rw [h3] at h1;exact ⟨_,_,_,by rw [HOL.out];rfl,h1,by omega,h2,hb⟩
  ·have aiR:V≠0:=by
    rintro rfl;exact hm0 (by rw [← HLEN.out];rfl)
   have HVN:=aS aiR;clear aiR;go_wp2_with fail;refine (JX _ _ _ _ 65536 _ (by omega) (by omega) (by omega) hrow).mono ?_;rintro e w1 ⟨r1,k1,c1,rfl,hk1,hrow1,_,hb1⟩;rw [dN] at hrow1 ⊢;obtain ⟨lo,hlo⟩:∃ lo,lo=V%65536:=⟨_,rfl⟩
   have abU:lo < 65536:=by omega
   rw [← hlo];have HLO:=aS hlo;clear hlo;go_wp2_with fail;refine (JX _ _ _ _ 65536 _ (by omega) (by omega) (by omega) hrow1).mono ?_;rintro e w2 ⟨r2,k2,c2,rfl,hk2,hrow2,Yr,hb2⟩;rw [dN] at hrow2 ⊢;obtain ⟨hi,hhi⟩:∃ hi,hi=V / 65536%65536:=⟨_,rfl⟩
   have aja:hi < 65536:=by omega
   rw [← hhi];have HHI:=aS hhi;clear hhi;have KZ:=kS hb1 hb2;have aiX:Below w.heap.size w w2:=hb.trans (KZ.mono hbs);have al3:=aiX.size;have hown2:w2.ownsRow w.heap.size 165 1 u3 k (dY .u32 os):=by
    refine hown.kept (row:=none) ⟨KZ.os,KZ.tape,KZ.output,KZ.size,fun j hj _=>KZ.block j hj⟩ ?_;cases h5:u3.ownBlock <;> simp
   have aml:k2 < m:=by
    have h1:=hrow2.len;have h2:V / 65536 / 65536 < V:=by have:=HVN.out;omega
    have h3:aT V=V%B4 ::aT (V / B4):=DW HVN.out;have h4:(aT (V / 65536 / 65536)).length≤(aT (V / B4)).length:=oI (by unfold B4;omega);have h5:=HLEN.out;rw [h3,List.length_cons] at h5;omega
   have adZ:V%bP=hi*65536+lo:=by rw [HLO.out,HHI.out];unfold bP;omega
   have Yp:V / bP=V / 65536 / 65536:=by unfold bP;omega
   have hcast:(hi:Int)*65536+(lo:Int)=((hi*65536+lo:Nat):Int):=by omega
   have hstep:(os ++ [hi*65536+lo]) ++cO (V / 65536 / 65536)=cO N:=by
    rw [← HV.out,Vp HVN.out,adZ,Yp,List.append_assoc];rfl
   have HST:=aS hstep;have HC:=aS hcast;clear adZ Yp hcast hstep;go_wp2_with (at_builtin;refine Hid.out ?_);refine aS<|jK _ rfl _ _ 34 rfl w.heap.size 165 (.int .u32 0) 1 4 Tryz.underlying34 Tryz.infoU32 rfl (by decide) u3 k (dY .u32 os) rfl (hown2.alloc _) (some ⟨w2.heap.size,0,none⟩) 1 1 [Value.int .u32 ((hi:Int)*65536+(lo:Int))] rfl rfl (fun e=>nomatch e) (Nat.le_refl _) (l7 _ _ _) (wG _ _) (by unfold maxLen;omega) (by omega) (by rw [World.size_alloc];omega) fun v' w3 hown' hgrow3 hb3=>?_
   have hbA:Below w2.heap.size w2 (w2.alloc (.cells #[.int .u32 ((hi:Int)*65536+(lo:Int))] 165)):=(Below.refl _ _).alloc (Nat.le_refl _) _;have hb4:Below w.heap.size w w3:=(aiX.trans (hbA.mono al3)).trans hb3;have hlim:hi*65536+lo < bP:=by unfold bP;omega
   rw [HC.out,oO] at hown';have hrow3:Rw .i64 B4 w3 r2 k2 c2 (aT (V / 65536 / 65536)):=(hrow2.ext hbA).grown (Yr.ext hbA) hgrow3 (fun j hj=>by
    have h6:=(hown.lt j hj).2;have h7:=hb1.size;omega)
   clear hgrow3 hbA hrow2 Yr hown2 hown hrow1 hrow;go_wp2;go_roundw
   case rel=>exact ⟨V / 65536 / 65536,k+1,k2,c2,r2,os ++ [hi*65536+lo],rfl,hrow3,by omega,by rw [List.length_append,HOL.out];rfl,kJ oz hlim,hown',hb4,HST.out⟩
   case measure=>exact aml
theorem NS(ao bo:Option Addr)(n c m d M N:Nat)(w:World)(hn:n≤1073741824)(hm:m≤1073741824)(hr:Rw .i64 B4 w ao n c (aT M))(hs:Rw .i64 B4 w bo m d (aT N)):
  Calls Tryz.prog 141 #[.slice ao n c,.slice bo m d] w fun e w'=>e= .returned (.int .i64 (jS M N))∧Below w.heap.size w w':=by
 have hl1:=hr.len;have hl2:=hs.len;generalize hA:aT M=A at *
 generalize hB:aT N=B at *
 have hvx:M=jJ A:=by rw [← hA,dN]
 have hvy:N=jJ B:=by rw [← hB,dN]
 have HA:=aS hA;have HB:=aS hB;have Nu:=aS hl1;have HL2:=aS hl2;have HVX:=aS hvx;have VR:=aS hvy;clear hA hB hl1 hl2 hvx hvy;go_enter Tryz.func141,Tryz.ntmps141
 by_cases hne:n=m
 ·subst hne
  go_wp2_with fail;go_loopw [5] (fun i wr=>∃ k:Nat,k≤n∧i= .int .i64 ((k:Int)-1)∧A.drop k=B.drop k∧Below w.heap.size w wr) (fun i _=>(intOf i+1).toNat)
  case atStart=>exact ⟨n,Nat.le_refl _,rfl,by rw [List.drop_of_length_le (Nat.le_of_eq Nu.out),List.drop_of_length_le (Nat.le_of_eq HL2.out)],Below.refl _ _⟩
  case round=>
   obtain ⟨k,hk,rfl,hd,hb⟩:=hrel;have Hd:=aS hd;clear hd
   by_cases h0:k=0
   ·subst h0
    go_wp2;go_ret;exact ⟨iR (by have:=Hd.out;simp only [List.drop_zero] at this;rw [HVX.out,VR.out,this];simp [jS]),hb⟩
   ·obtain ⟨j,rfl⟩:∃ j,k=j+1:=⟨k-1,by omega⟩
    obtain ⟨b1,off1,x,rfl,hx,jL,hcx⟩:=(hr.ext hb).at (show j < n by omega);obtain ⟨b2,off2,y,rfl,hy,hyB,hcy⟩:=(hs.ext hb).at (show j < n by omega);have Hx:=aS hx;have Hy:=aS hy;clear hx hy
    by_cases hxy:x=y
    ·subst hxy
     go_wp2;go_quiet (fail);go_wp2;go_roundw
     case rel=>
      refine ⟨j,by omega,by go_num,?_,iV hb _⟩;obtain ⟨h1,e1⟩:=List.getElem?_eq_some_iff.1 Hx.out;obtain ⟨h2,e2⟩:=List.getElem?_eq_some_iff.1 Hy.out;rw [List.drop_eq_getElem_cons h1,List.drop_eq_getElem_cons h2,e1,e2,Hd.out]
     case measure=>simp [intOf]
    ·have e1:((x:Int) !=(y:Int))=true:=by rw [bne_iff_ne];omega
     by_cases hlt:x < y
     ·have e2:decide (x < y)=true:=by simpa using hlt
      go_wp2;go_quiet (fail);go_wp2;go_quiet (fail);go_wp2;go_ret;refine ⟨iR ?_,by first | exact iV hb _ | exact iV (iV hb _) _⟩;have hA:A.length=B.length:=by rw [Nu.out,HL2.out]
      have:=yT (B:=B4) hr.lt hA (k:=j) (by rw [Nu.out];omega) Hd.out (by
       obtain ⟨_,e1⟩:=List.getElem?_eq_some_iff.1 Hx.out;obtain ⟨_,e2⟩:=List.getElem?_eq_some_iff.1 Hy.out;rw [e1,e2];exact hlt)
      rw [HVX.out,VR.out];unfold jJ;rw [jS,if_pos (by omega)]
     ·have e2:decide (x < y)=false:=by simpa using hlt
      go_wp2;go_quiet (fail);go_wp2;go_quiet (fail);go_wp2;go_ret;refine ⟨iR ?_,by first | exact iV hb _ | exact iV (iV hb _) _⟩;have hA:B.length=A.length:=by rw [Nu.out,HL2.out]
      have:=yT (B:=B4) hs.lt hA (k:=j) (by rw [HL2.out];omega) Hd.out.symm (by
       obtain ⟨_,e1⟩:=List.getElem?_eq_some_iff.1 Hx.out;obtain ⟨_,e2⟩:=List.getElem?_eq_some_iff.1 Hy.out;rw [e1,e2];omega)
      rw [HVX.out,VR.out];unfold jJ;rw [jS,if_neg (by omega),if_neg (by omega)]
 ·by_cases hlt:n < m
  ·go_wp2
   go_ret;exact ⟨iR (by have:=zG (m:=M) (n:=N) (by rw [HA.out,HB.out,Nu.out,HL2.out];exact hlt);rw [jS,if_pos (by omega)]),Below.refl _ _⟩
  ·go_wp2
   go_ret;exact ⟨iR (by have:=zG (m:=N) (n:=M) (by rw [HA.out,HB.out,Nu.out,HL2.out];omega);rw [jS,if_neg (by omega),if_neg (by omega)]),Below.refl _ _⟩
theorem Pj(ao bo:Option Addr)(n c m d M N:Nat)(w:World)(hn:n≤1073741824)(hm:m≤1073741824)(hle:N≤M)(hr:Rw .i64 B4 w ao n c (aT M))(hs:Rw .i64 B4 w bo m d (aT N)):
  Calls Tryz.prog 142 #[.slice ao n c,.slice bo m d] w fun e w'=>∃ ro k c',e= .returned (.slice ro k c')∧Rw .i64 B4 w' ro k c' (aT (M-N))∧k≤n∧qN w.heap.size w' ro c'∧Below w.heap.size w w':=by
 have hmn:=oI hle;rw [hr.len,hs.len] at hmn;have hpl:=hr.len;have D8:=hs.len;have J8:=aS hpl;have Nv:=aS D8;have HLE:=aS hle;clear hpl D8 hle;go_enter Tryz.func142,Tryz.ntmps142;go_wp2_with (at_make;refine Hid.out ?_);refine aS<|iW _ rfl _ _ 45 rfl 3 (.int .i64 0) 8 Tryz.underlying45 Tryz.infoInt rfl .i64 .i64 _ _ n rfl rfl (by omega) (by omega) (by omega) (by unfold maxLen;omega) fun w2 hblk hbelow hlt=>?_
 obtain ⟨G,hG⟩:∃ G,G=w.heap.size:=⟨_,rfl⟩
 rw [← hG] at hblk hlt hbelow ⊢;have HG:=aS hG;clear hG;rw [← dZ] at hblk;go_wp2_with fail;go_loopw [6,14] (fun s6 s14 wr=>∃ (k cy:Nat) (os:List Nat),k≤n∧s14= .int .i64 k∧s6= .int .i64 cy∧cy≤1∧os.length=n∧(∀ o∈os,o < B4)∧kC wr G 3 (dY .i64 os)∧Below G w wr∧
   aI B4 (os.take k)+aI B4 ((aT N).take k)=aI B4 ((aT M).take k)+B4^k*cy) (fun _ s14 _=>n-(intOf s14).toNat)
 case atStart=>exact ⟨0,0,List.replicate n 0,Nat.zero_le _,rfl,rfl,by omega,by simp,(fun o ho=>by have:=(List.mem_replicate.1 ho).2;subst this;decide),hblk,hbelow,by simp [aI]⟩
 case round=>
  obtain ⟨k,cy,os,hk,rfl,rfl,hcy,hol,oz,hb,hbe,hv⟩:=hrel;have HV:=aS hv;have HOL:=aS hol;clear hv hol hblk hbelow;have hb0:=hb.lt
  by_cases hkn:k < n
  ·obtain ⟨b1,off1,x,rfl,hx,jL,hcx⟩:=(hr.ext (by rw [← HG.out];exact hbe)).at hkn
   have hcell:=hb.cell k (by rw [bK,HOL.out];omega);have hfree:=hb.free k;have hx':x < 10000:=jL;have Hx:=aS hx;clear hx jL;have key:∀ y:Nat,y < 10000→aI B4 ((aT N).take (k+1))=aI B4 ((aT N).take k)+B4^k*y→∃ d1 b:Nat,d1 < B4∧b≤1∧(d1:Int)=(if (x:Int)-cy-y < 0 then (x:Int)-cy-y+10000 else (x:Int)-cy-y)∧(b:Int)=(if (x:Int)-cy-y < 0 then 1 else 0)∧
     aI B4 ((os.set k d1).take (k+1))+aI B4 ((aT N).take (k+1))=aI B4 ((aT M).take (k+1))+B4^(k+1)*b:=by
    intro y hy hQ
    by_cases h:cy+y≤x
    ·exact ⟨x-cy-y,0,by unfold B4;omega,by omega,by rw [if_neg (by omega)];omega,by rw [if_neg (by omega)];rfl,Dk (by rw [HOL.out];omega) HV.out (aQ _ Hx.out) hQ (by unfold B4;omega)⟩
    ·exact ⟨x+10000-cy-y,1,by unfold B4;omega,by omega,by rw [if_pos (by omega)];omega,by rw [if_pos (by omega)];rfl,Dk (by rw [HOL.out];omega) HV.out (aQ _ Hx.out) hQ (by unfold B4;omega)⟩
   by_cases hkq:k < m
   ·obtain ⟨b2,off2,y,rfl,hy,hyB,Vf⟩:=(hs.ext (by rw [← HG.out];exact hbe)).at hkq
    have hy':y < 10000:=hyB;obtain ⟨d1,b,hd1,hb1,e1,e2,e3⟩:=key y hy' (aQ _ hy);have E1:=aS e1;have E2:=aS e2;have E3:=aS e3;clear key hy hyB e1 e2 e3
    by_cases hneg:(x:Int)-cy-y < 0
    ·go_wp2
     go_roundw
     case rel=>
      have hv:=hb.set k (.int .i64 (d1:Int));rw [fD,E1.out,if_pos hneg] at hv;exact ⟨k+1,b,os.set k d1,by omega,by go_num,by rw [E2.out,if_pos hneg],hb1,by rw [List.length_set];exact HOL.out,dH oz hd1 k,hv,hbe.setCell (Nat.le_refl _) _,E3.out⟩
     case measure=>simp [intOf];omega
    ·go_wp2
     go_roundw
     case rel=>
      have hv:=hb.set k (.int .i64 (d1:Int));rw [fD,E1.out,if_neg (by omega)] at hv;exact ⟨k+1,b,os.set k d1,by omega,by go_num,by rw [E2.out,if_neg (by omega)],hb1,by rw [List.length_set];exact HOL.out,dH oz hd1 k,hv,hbe.setCell (Nat.le_refl _) _,E3.out⟩
     case measure=>simp [intOf];omega
   ·obtain ⟨d1,b,hd1,hb1,e1,e2,e3⟩:=key 0 (by omega) (by rw [iy _ (by rw [Nv.out];omega)];simp)
    have E1:=aS e1;have E2:=aS e2;have E3:=aS e3;clear key e1 e2 e3
    by_cases hneg:(x:Int)-cy < 0
    ·go_wp2
     go_roundw
     case rel=>
      have hv:=hb.set k (.int .i64 (d1:Int));rw [fD,E1.out,if_pos (by omega)] at hv;refine ⟨k+1,b,os.set k d1,by omega,by go_num,by rw [E2.out,if_pos (by omega)],hb1,by rw [List.length_set];exact HOL.out,dH oz hd1 k,?_,hbe.setCell (Nat.le_refl _) _,E3.out⟩;rw [show (x:Int)-cy+10000=(x:Int)-cy-((0:Nat):Int)+10000 by omega];exact hv
     case measure=>simp [intOf];omega
    ·go_wp2
     go_roundw
     case rel=>
      have hv:=hb.set k (.int .i64 (d1:Int));rw [fD,E1.out,if_neg (by omega)] at hv;refine ⟨k+1,b,os.set k d1,by omega,by go_num,by rw [E2.out,if_neg (by omega)],hb1,by rw [List.length_set];exact HOL.out,dH oz hd1 k,?_,hbe.setCell (Nat.le_refl _) _,E3.out⟩;rw [show (x:Int)-cy=(x:Int)-cy-((0:Nat):Int) by omega];exact hv
     case measure=>simp [intOf];omega
  ·obtain rfl:k=n:=by omega
   go_wp2_with fail;have hrow:=hb.rw oz;rw [HOL.out] at hrow;refine (vg _ _ _ _ _ (by omega) hrow).mono ?_;rintro e w' ⟨r1,rfl,hr1',hres,rfl⟩;go_wp2;go_ret;refine ⟨_,_,_,rfl,?_,hr1',by rw [← HG.out];exact hb.own (Nat.le_refl _) (by rw [bK,HOL.out];exact Nat.le_refl _),by rw [← HG.out];exact hbe⟩;have hval:jJ os=M-N:=by
    have h2:=HV.out;rw [bI _ J8.out,List.take_of_length_le (l:=aT N) (by rw [Nv.out];exact hmn),bI _ HOL.out] at h2;have h3:=F6 oz;rw [HOL.out] at h3
    change jJ os+jJ (aT N)=jJ (aT M)+_ at h2
    rw [dN,dN] at h2;have h4:=HLE.out;have:cy=0∨cy=1:=by omega
    rcases this with rfl | rfl
    ·omega
    ·rw [Nat.mul_one] at h2;omega
   rw [← hval];exact hres
theorem acf(w:World)(base:Nat)(k:IntKind)(x:Nat)(t:TypeId)(hb:base≤w.heap.size):
  (w.alloc (.cells #[.int k (x:Int)] t)).ownsRow base t 1 (.slice (some ⟨w.heap.size,0,none⟩) 1 1) 1 (dY k [x]):=
 ⟨rfl,.inr ⟨w.heap.size,1,_,rfl,hb,heap_alloc_new w _,Nat.le_refl _,by decide,rfl,rfl⟩⟩
theorem SB{a b:Int}:jS a b≤0↔a≤b:=by
 unfold jS;split
 ·omega
 ·split <;> omega
theorem XR(ao bo:Option Addr)(n c m d M N:Nat)(w:World)(hn:n≤100000000)(hm:m≤100000000)(hN:0 < N)(hr:Rw .i64 B4 w ao n c (aT M))(hs:Rw .i64 B4 w bo m d (aT N)):
  Calls Tryz.prog 119 #[.slice ao n c,.slice bo m d] w fun e w'=>∃ qo qn qc ro rn rc,e= .returned (.tuple #[.slice qo qn qc,.slice ro rn rc])∧Rw .i64 B4 w' qo qn qc (aT (M / N))∧qn≤n∧Rw .i64 B4 w' ro rn rc (aT (M%N))∧rn≤m∧qN w.heap.size w' qo qc∧qN w.heap.size w' ro rc∧Below w.heap.size w w':=by
 have hpl:=hr.len;have D8:=hs.len;have J8:=aS hpl;have Nv:=aS D8;clear hpl D8;go_enter Tryz.func119,Tryz.ntmps119;go_wp2_with (at_make;refine Hid.out ?_);refine aS<|iW _ rfl _ _ 45 rfl 3 (.int .i64 0) 8 Tryz.underlying45 Tryz.infoInt rfl .i64 .i64 _ _ n rfl rfl (by omega) (by omega) (by omega) (by unfold maxLen;omega) fun w2 hblk hbelow hlt=>?_
 obtain ⟨G,hG⟩:∃ G,G=w.heap.size:=⟨_,rfl⟩
 rw [← hG] at hblk hlt hbelow ⊢;have HG:=aS hG;clear hG;rw [← dZ] at hblk;go_wp2_with fail;go_loopw [7,8] (fun s7 s8 wr=>∃ (k R rn rc:Nat) (ro:Option Addr) (qs:List Nat),k≤n∧s8= .int .i64 ((k:Int)-1)∧s7= .slice ro rn rc∧Rw .i64 B4 wr ro rn rc (aT R)∧qN G wr ro rc∧R < N∧qs.length=n∧(∀ o∈qs,o < B4)∧kC wr G 3 (dY .i64 qs)∧Below G w wr∧
   aI B4 ((aT M).drop k)=N*aI B4 (qs.drop k)+R) (fun _ s8 _=>(intOf s8+1).toNat)
 case atStart=>exact ⟨n,0,0,0,none,List.replicate n 0,Nat.le_refl _,rfl,rfl,Rw.nil _ _ _,qN.nil _ _ _,hN,by simp,(fun o ho=>by have:=(List.mem_replicate.1 ho).2;subst this;decide),hblk,hbelow,by rw [List.drop_of_length_le (Nat.le_of_eq J8.out),List.drop_of_length_le (by simp)];rfl⟩
 case round=>
  obtain ⟨k,R,rn,rc,ro,qs,hk,rfl,rfl,hrow,ad4,hRN,hol,oz,hb,hbe,hv⟩:=hrel;have HV:=aS hv;have HOL:=aS hol;clear hv hol hblk hbelow;have hb0:=hb.lt;have amD:rn≤m:=by
   have:=oI (Nat.le_of_lt hRN);rw [hrow.len,Nv.out] at this;exact this
  by_cases h0:k=0
  ·subst h0
   have hv:=HV.out;rw [List.drop_zero,List.drop_zero] at hv;have Nw:=aS hv;clear hv HV;go_wp2_with fail;have Ov:=hb.rw oz;rw [HOL.out] at Ov;refine (vg _ _ _ _ _ (by omega) Ov).mono ?_;rintro e w' ⟨r1,rfl,hr1',hres,rfl⟩;go_wp2;go_ret2;have hmod:M%N=R:=by
    have h2:=Nw.out
    change jJ (aT M)=_ at h2
    rw [dN] at h2;rw [h2,Nat.mul_add_mod,Nat.mod_eq_of_lt hRN]
   have hdiv:M / N=jJ qs:=by
    have h2:=Nw.out
    change jJ (aT M)=_ at h2
    rw [dN] at h2;rw [h2,Nat.mul_add_div hN,Nat.div_eq_of_lt hRN,Nat.add_zero];rfl
   exact ⟨_,_,_,_,_,_,rfl,by rw [hdiv];exact hres,hr1',by rw [hmod];exact hrow,amD,by rw [← HG.out];exact hb.own (Nat.le_refl _) (by rw [bK,HOL.out];exact Nat.le_refl _),by rw [← HG.out];exact ad4,by rw [← HG.out];exact hbe⟩
  ·obtain ⟨j,rfl⟩:∃ j,k=j+1:=⟨k-1,by omega⟩
   obtain ⟨b1,off1,x,rfl,hx,jL,hcx⟩:=(hr.ext (by rw [← HG.out];exact hbe)).at (show j < n by omega);have hx':x < 10000:=jL;have Hx:=aS hx;clear hx jL;have hrlen:=hrow.len;have HRL:=aS hrlen;clear hrlen;go_wp2_with (at_builtin;refine Hid.out ?_);refine aS ?_;have hbA:Below wr.heap.size wr (wr.alloc (.cells #[.int .i64 (x:Int)] 3)):=(Below.refl _ _).alloc (Nat.le_refl _) _;refine jK _ rfl _ _ 45 rfl wr.heap.size 3 (.int .i64 0) 1 8 Tryz.underlying45 Tryz.infoInt rfl (by decide) _ 1 (dY .i64 [x]) rfl (acf wr _ .i64 x 3 (Nat.le_refl _)) ro rn rc (dY .i64 (aT R)) rfl (by rw [bK,HRL.out];omega) hrow.2.2.1 hrow.le (hrow.cells.ext hbA) (He _ _) (by unfold maxLen;omega) (by omega) (by rw [World.size_alloc];omega) fun v' w3 hown' _ hb3=>?_
   have Yi:Below wr.heap.size wr w3:=hbA.trans hb3;have ai4:dY .i64 [x] ++dY .i64 (aT R)=dY .i64 (x ::aT R):=by simp [dY]
   rw [ai4] at hown';have hxR:∀ o∈(x ::aT R),o < B4:=by
    intro o ho
    rcases List.mem_cons.1 ho with rfl | ho
    ·exact hx'
    ·exact uI R o ho
   obtain ⟨ao',c',rfl,h1,hown1⟩:=kK (k:= .i64) (B:=B4) (xs:=x ::aT R) (by rw [List.length_cons,HRL.out,Nat.add_comm];exact hown') hxR;rw [List.length_cons,HRL.out] at h1 ⊢;clear hown' ai4 hxR hbA hb3;go_wp2_with fail;refine (vg _ _ _ _ _ (by omega) h1).mono ?_;rintro e w' ⟨r1,rfl,hr1',hres,rfl⟩;have hval:jJ (x ::aT R)=x+10000*R:=by
    unfold jJ;rw [zh];have:=dN R;unfold jJ at this;rw [this]
   rw [hval] at hres;have hR2:x+10000*R < 10000*N:=by omega
   obtain ⟨R2,afO⟩:∃ R2,R2=x+10000*R:=⟨_,rfl⟩
   rw [← afO] at hres hR2;have HR2:=aS afO;clear afO hval;have hb3:=hb.ext Yi;have aiZ:Below G w w3:=hbe.trans (Yi.mono (by omega));clear h1 hrow ad4 hb hbe;have hr1m:r1≤m+1:=by omega
   have hs3:Rw .i64 B4 w3 bo m d (aT N):=hs.ext (by rw [← HG.out];exact aiZ);have hNle:N≤N*65536:=Nat.le_mul_of_pos_right _ (by omega);go_wp2_with fail;go_loopw [9,10] (fun s9 s10 wi=>∃ lo hi:Nat,s9= .int .i64 lo∧s10= .int .i64 hi∧lo≤hi∧hi≤9999∧lo*N≤R2∧R2 < (hi+1)*N∧Below w3.heap.size w3 wi) (fun s9 s10 _=>(intOf s10-intOf s9).toNat)
   case atStart=>exact ⟨0,9999,rfl,rfl,by omega,by omega,by omega,hR2,Below.refl _ _⟩
   case round=>
    obtain ⟨lo,hi,rfl,rfl,hlh,hhi,hlo2,hhi2,hbi⟩:=hrel;have HLO:=aS hlo2;have HHI:=aS hhi2;clear hlo2 hhi2;have hsi:=hs3.ext hbi;have ad3:=hres.ext hbi
    by_cases hlt:lo < hi
    ·obtain ⟨mm,hmm⟩:∃ mm,mm=(lo+hi+1) / 2:=⟨_,rfl⟩
     have hmi:((lo:Int)+(hi:Int)+1) / 2=(mm:Int):=by omega
     have hm1:lo < mm:=by omega
     have hm2:mm≤hi:=by omega
     clear hmm;go_wp2_with fail;refine (Ag _ m d mm 0 _ _ (by omega) (by omega) (by omega) hsi).mono ?_;rintro e w4 ⟨r4,k4,c4,rfl,hrow4,hb4⟩;rw [dN,Nat.add_zero] at hrow4;have hk4:k4≤m+2:=by
      have h1:=uI N;have h2:N*mm < B4^(m+2):=by
       have h3:=F6 (uI N);rw [dN,Nv.out] at h3;have h4:N*mm≤N*9999:=Nat.mul_le_mul_left _ (by omega);have h5:N*9999 < B4^m*B4:=by unfold B4 at *;omega
       rw [Nat.pow_succ,Nat.pow_succ];have:B4^m*B4≤B4^m*B4*B4:=Nat.le_mul_of_pos_right _ (by decide);omega
      have h6:=qR h2;rw [hrow4.len] at h6;exact h6
     have YB:=ad3.ext hb4;go_wp2_with fail;refine (NS _ _ _ _ _ _ (N*mm) R2 _ (by omega) (by omega) hrow4 YB).mono ?_;rintro e w5 ⟨rfl,hb5⟩;obtain ⟨z,hz⟩:∃ z,z=jS ((N*mm:Nat):Int) (R2:Int):=⟨_,rfl⟩
     rw [← hz];have ai1:Below w3.heap.size w3 w5:=hbi.trans ((kS hb4 hb5).mono hbi.size)
     by_cases hle:N*mm≤R2
     ·have hz0:z≤0:=by rw [hz,SB];omega
      have hdz:decide (z≤0)=true:=by simpa using hz0
      have ajk:mm*N≤R2:=by rw [Nat.mul_comm];exact hle
      have alh:=aS ajk;clear hz ajk hle;go_wp2_with fail;go_roundw
      case rel=>exact ⟨mm,hi,rfl,rfl,hm2,hhi,alh.out,HHI.out,ai1⟩
      case measure=>simp [intOf];omega
     ·have hz0:0 < z:=by
       have:¬ z≤0:=by rw [hz,SB];omega
       omega
      have hdz:decide (z≤0)=false:=by rw [decide_eq_false_iff_not];omega
      have ai9:R2 < ((mm-1)+1)*N:=by rw [Nat.sub_add_cancel (by omega),Nat.mul_comm];omega
      have alg:=aS ai9;clear hz ai9 hle;go_wp2_with fail;go_roundw
      case rel=>exact ⟨lo,mm-1,rfl,by go_num,by omega,by omega,HLO.out,alg.out,ai1⟩
      case measure=>simp [intOf];omega
    ·obtain rfl:lo=hi:=by omega
     have hb6:=hb3.ext hbi;have al0:Below G w wr:=aiZ.trans (hbi.mono (by have:=hb3.lt;omega));have hcell:=hb6.cell j (by rw [bK,HOL.out];omega);have hfree:=hb6.free j;have hlt6:=hb6.lt;have abU:lo < 10000:=by omega
     have hb7:=hb6.set j (.int .i64 (lo:Int));rw [fD] at hb7;have ai0:Below G w (wr.setCell ⟨G,j,none⟩ (.int .i64 (lo:Int))):=al0.setCell (Nat.le_refl _) _;have hs7:Rw .i64 B4 (wr.setCell ⟨G,j,none⟩ (.int .i64 (lo:Int))) bo m d (aT N):=hs.ext (by rw [← HG.out];exact ai0);have ajx:Rw .i64 B4 (wr.setCell ⟨G,j,none⟩ (.int .i64 (lo:Int))) ao' r1 c' (aT R2):=ad3.Z5 (hown1.ext hbi) hb0;go_wp2_with fail;generalize wr.setCell ⟨G,j,none⟩ (.int .i64 (lo:Int))=wx at *
     refine (Ag _ m d lo 0 _ _ (by omega) (by omega) (by omega) hs7).mono ?_;rintro e w4 ⟨r4,k4,c4,rfl,hrow4,hb4⟩;rw [dN,Nat.add_zero] at hrow4;have hk4:k4≤m+2:=by
      have h2:N*lo < B4^(m+2):=by
       have h3:=F6 (uI N);rw [dN,Nv.out] at h3;have h4:N*lo≤N*9999:=Nat.mul_le_mul_left _ (by omega);have h5:N*9999 < B4^m*B4:=by unfold B4 at *;omega
       rw [Nat.pow_succ,Nat.pow_succ];have:B4^m*B4≤B4^m*B4*B4:=Nat.le_mul_of_pos_right _ (by decide);omega
      have h6:=qR h2;rw [hrow4.len] at h6;exact h6
     have ajy:=ajx.ext hb4;have afY:N*lo≤R2:=by rw [Nat.mul_comm];exact HLO.out
     go_wp2_with fail;refine (Pj _ _ _ _ _ _ R2 (N*lo) _ (by omega) (by omega) afY ajy hrow4).mono ?_;rintro e w5 ⟨r5,k5,c5,rfl,ajz,hk5,hown5,hb5⟩;have hown6:qN G w5 r5 c5:=hown5.mono (by have:=hb4.size;have:=hb7.lt;omega);clear hown5;have aiY:=kS hb4 hb5;have hb9:=hb7.ext aiY;have al1:Below G w w5:=ai0.trans (aiY.mono (by have:=hb7.lt;omega));have ahD:=aS afY;clear afY;go_wp2;go_roundw
     case rel=>
      refine ⟨j,R2-N*lo,k5,c5,r5,qs.set j lo,by omega,by go_num,rfl,ajz,hown6,?_,by rw [List.length_set];exact HOL.out,dH oz abU j,hb9,al1,?_⟩
      ·have h1:=HHI.out
       rw [Nat.add_mul,Nat.one_mul,Nat.mul_comm lo] at h1;have:=ahD.out;omega
      ·refine AB (r:=R) (x:=x) (s:=R2) (by rw [HOL.out];omega) Hx.out HV.out ?_ ?_
       ·rw [HR2.out];unfold B4;omega
       ·have:=ahD.out;omega
     case measure=>simp [intOf];try omega
theorem yQ{B k c x y P Q P' Q':Nat}{os:List Nat}(hl:os.length=k)(hv:aI B os+B^k*c=P+Q)(hx:P'=P+B^k*x)(hy:Q'=Q+B^k*y):
  aI B (os ++ [(c+x+y)%B])+B^(k+1)*((c+x+y) / B)=P'+Q':=by
 have h2:=yI B k (c+x+y);rw [En,hl,hx,hy];rw [Nat.mul_add,Nat.mul_add] at h2;omega
/-- Digits as many as the number's own are the number's own. -/
theorem QH{os:List Nat}{V:Nat}(h:∀ x∈os,x < B4)(hv:aI B4 os=V)(hl:os.length≤(aT V).length):os=aT V:=by
 have h1:=Jo os h;have h2:sJ os os.length=(aT (jJ os)).length:=NY vN os h;have h3:jJ os=V:=hv;rw [h3] at h1 h2;rw [List.take_of_length_le (by rw [h2];exact hl)] at h1;exact h1
theorem QI{n k:Nat}(h:B4^k≤n):k+1≤(aT n).length:=Gu vN h
theorem Xb(ao bo:Option Addr)(n cp m d M N:Nat)(w:World)(hn:n≤1073741824)(hm:m≤1073741824)(hr:Rw .i64 B4 w ao n cp (aT M))(hs:Rw .i64 B4 w bo m d (aT N)):
  Calls Tryz.prog 140 #[.slice ao n cp,.slice bo m d] w fun e w'=>∃ ro k c',e= .returned (.slice ro k c')∧Rw .i64 B4 w' ro k c' (aT (M+N))∧qN w.heap.size w' ro c'∧k≤n+m+1∧Below w.heap.size w w':=by
 obtain ⟨xs,hxs⟩:∃ xs,xs=aT M:=⟨_,rfl⟩
 obtain ⟨ys,hys⟩:∃ ys,ys=aT N:=⟨_,rfl⟩
 rw [← hxs] at hr;rw [← hys] at hs;have hl1:=hr.len;have hl2:=hs.len;have HX:=aS hxs;have HY:=aS hys;have Nu:=aS hl1;have HL2:=aS hl2;clear hxs hys hl1 hl2;obtain ⟨mx,hmx⟩:∃ mx,mx=max n m:=⟨_,rfl⟩
 have hmx1:n≤mx:=by omega
 have hmx2:m≤mx:=by omega
 have hmx3:mx≤n+m:=by omega
 have HMX:=aS hmx;clear hmx;go_enter Tryz.func140,Tryz.ntmps140;go_wp2_with fail;go_loopw [5,6,7] (fun s5 s6 s7 wr=>∃ (k c:Nat) (os:List Nat),s7= .int .i64 k∧s6= .int .i64 c∧c≤1∧k+c≤mx+1∧os.length=k∧(∀ o∈os,o < B4)∧wr.ownsRow w.heap.size 3 1 s5 k (dY .i64 os)∧Below w.heap.size w wr∧
   aI B4 os+B4^k*c=aI B4 (xs.take k)+aI B4 (ys.take k)∧(k=mx+1→B4^(k-1)≤aI B4 os)) (fun _ _ s7 _=>mx+1-(intOf s7).toNat)
 case atStart=>exact ⟨0,0,[],rfl,rfl,by omega,by omega,rfl,by simp,World.ownsRow_nil _ _ _ _,Below.refl _ _,by simp [aI],fun h=>by omega⟩
 case round=>
  obtain ⟨k,c,os,rfl,rfl,hcB,hkc,hol,oz,hown,hb,hv,htop⟩:=hrel;have HV:=aS hv;have HOL:=aS hol;have HT:=aS htop;clear hv hol htop;have hbs:=hb.size
  by_cases hkn:k < n
  ·obtain ⟨b1,off1,x,rfl,hx,jL,hcx⟩:=(hr.ext hb).at hkn
   have hx':x≤9999:=by have:x < 10000:=jL;omega
   have Hx:=aS hx;clear hx jL
   by_cases hkm:k < m
   ·obtain ⟨b2,off2,y,rfl,hy,hyB,hcy⟩:=(hs.ext hb).at hkm
    have hy':y≤9999:=by have:y < 10000:=hyB;omega
    have Hy:=aS hy;clear hy hyB;go_wp2_with (at_builtin;refine Hid.out ?_);refine aS<|jK _ rfl _ _ 45 rfl w.heap.size 3 (.int .i64 0) 1 8 Tryz.underlying45 Tryz.infoInt rfl (by decide) u5 k (dY .i64 os) rfl (hown.alloc _) (some ⟨wr.heap.size,0,none⟩) 1 1 [Value.int .i64 (((c:Int)+(x:Int)+(y:Int))%10000)] rfl rfl (fun e=>nomatch e) (Nat.le_refl _) (l7 _ _ _) (wG _ _) (by unfold maxLen;omega) (by omega) (by rw [World.size_alloc];omega) fun v' w2 hown' _ hb2=>?_
    have hb3:Below w.heap.size w w2:=(hb.alloc hbs _).trans hb2;have e0:((c+x+y:Nat):Int)=((c:Int)+(x:Int)+(y:Int)):=by simp
    have e1:((c:Int)+(x:Int)+(y:Int))%10000=(((c+x+y)%10000:Nat):Int):=by rw [← e0];rfl
    rw [e1,oO] at hown';have E0:=aS e0;clear e0 e1 hown;go_wp2;go_roundw
    case rel=>
     refine ⟨k+1,(c+x+y) / 10000,os ++ [(c+x+y)%10000],by go_num,by rw [← E0.out];rfl,by omega,by omega,by rw [List.length_append,HOL.out];rfl,kJ oz (Nat.mod_lt _ (by decide)),hown',hb3,?_,?_⟩
     ·exact yQ HOL.out HV.out (aQ _ Hx.out) (aQ _ Hy.out)
     ·intro h;exact absurd h (by omega)
    case measure=>simp only [intOf];omega
   ·have hny:aI B4 (ys.take (k+1))=aI B4 (ys.take k):=iy _ (by rw [HL2.out];omega)
    have HNY:=aS hny;clear hny;go_wp2_with (at_builtin;refine Hid.out ?_);refine aS<|jK _ rfl _ _ 45 rfl w.heap.size 3 (.int .i64 0) 1 8 Tryz.underlying45 Tryz.infoInt rfl (by decide) u5 k (dY .i64 os) rfl (hown.alloc _) (some ⟨wr.heap.size,0,none⟩) 1 1 [Value.int .i64 (((c:Int)+(x:Int))%10000)] rfl rfl (fun e=>nomatch e) (Nat.le_refl _) (l7 _ _ _) (wG _ _) (by unfold maxLen;omega) (by omega) (by rw [World.size_alloc];omega) fun v' w2 hown' _ hb2=>?_
    have hb3:Below w.heap.size w w2:=(hb.alloc hbs _).trans hb2;have e0:((c+x+0:Nat):Int)=((c:Int)+(x:Int)):=by simp
    have e1:((c:Int)+(x:Int))%10000=(((c+x+0)%10000:Nat):Int):=by rw [← e0];rfl
    rw [e1,oO] at hown';have E0:=aS e0;clear e0 e1 hown;go_wp2;go_roundw
    case rel=>
     refine ⟨k+1,(c+x+0) / 10000,os ++ [(c+x+0)%10000],by go_num,by rw [← E0.out];rfl,by omega,by omega,by rw [List.length_append,HOL.out];rfl,kJ oz (Nat.mod_lt _ (by decide)),hown',hb3,?_,?_⟩
     ·exact yQ HOL.out HV.out (aQ _ Hx.out) (by rw [HNY.out];simp)
     ·intro h;exact absurd h (by omega)
    case measure=>simp only [intOf];omega
  ·have hnx:aI B4 (xs.take (k+1))=aI B4 (xs.take k):=iy _ (by rw [Nu.out];omega)
   have HNX:=aS hnx;clear hnx
   by_cases hkm:k < m
   ·obtain ⟨b2,off2,y,rfl,hy,hyB,hcy⟩:=(hs.ext hb).at hkm
    have hy':y≤9999:=by have:y < 10000:=hyB;omega
    have Hy:=aS hy;clear hy hyB;go_wp2_with (at_builtin;refine Hid.out ?_);refine aS<|jK _ rfl _ _ 45 rfl w.heap.size 3 (.int .i64 0) 1 8 Tryz.underlying45 Tryz.infoInt rfl (by decide) u5 k (dY .i64 os) rfl (hown.alloc _) (some ⟨wr.heap.size,0,none⟩) 1 1 [Value.int .i64 (((c:Int)+(y:Int))%10000)] rfl rfl (fun e=>nomatch e) (Nat.le_refl _) (l7 _ _ _) (wG _ _) (by unfold maxLen;omega) (by omega) (by rw [World.size_alloc];omega) fun v' w2 hown' _ hb2=>?_
    have hb3:Below w.heap.size w w2:=(hb.alloc hbs _).trans hb2;have e0:((c+0+y:Nat):Int)=((c:Int)+(y:Int)):=by simp
    have e1:((c:Int)+(y:Int))%10000=(((c+0+y)%10000:Nat):Int):=by rw [← e0];rfl
    rw [e1,oO] at hown';have E0:=aS e0;clear e0 e1 hown;go_wp2;go_roundw
    case rel=>
     refine ⟨k+1,(c+0+y) / 10000,os ++ [(c+0+y)%10000],by go_num,by rw [← E0.out];rfl,by omega,by omega,by rw [List.length_append,HOL.out];rfl,kJ oz (Nat.mod_lt _ (by decide)),hown',hb3,?_,?_⟩
     ·exact yQ HOL.out HV.out (by rw [HNX.out];simp) (aQ _ Hy.out)
     ·intro h;exact absurd h (by omega)
    case measure=>simp only [intOf];omega
   ·have hny:aI B4 (ys.take (k+1))=aI B4 (ys.take k):=iy _ (by rw [HL2.out];omega)
    have HNY:=aS hny;clear hny
    by_cases hc0:0 < c
    ·have hdn:decide (k < n)=false:=by rw [decide_eq_false_iff_not];omega
     have hdm:decide (k < m)=false:=by rw [decide_eq_false_iff_not];omega
     go_wp2_with (at_builtin;refine Hid.out ?_);refine aS ?_;refine jK _ rfl _ _ 45 rfl w.heap.size 3 (.int .i64 0) 1 8 Tryz.underlying45 Tryz.infoInt rfl (by decide) u5 k (dY .i64 os) rfl (hown.alloc _) (some ⟨wr.heap.size,0,none⟩) 1 1 [Value.int .i64 ((c:Int)%10000)] rfl rfl (fun e=>nomatch e) (Nat.le_refl _) (l7 _ _ _) (wG _ _) (by unfold maxLen;omega) (by omega) (by rw [World.size_alloc];omega) fun v' w2 hown' _ hb2=>?_
     have hb3:Below w.heap.size w w2:=(hb.alloc hbs _).trans hb2;have e0:((c+0+0:Nat):Int)=(c:Int):=by simp
     have e1:(c:Int)%10000=(((c+0+0)%10000:Nat):Int):=by rw [← e0];rfl
     rw [e1,oO] at hown';have E0:=aS e0;clear e0 e1 hown;go_wp2;go_roundw
     case rel=>
      refine ⟨k+1,(c+0+0) / 10000,os ++ [(c+0+0)%10000],by go_num,by rw [← E0.out];rfl,by omega,by omega,by rw [List.length_append,HOL.out];rfl,kJ oz (Nat.mod_lt _ (by decide)),hown',hb3,?_,?_⟩
      ·exact yQ HOL.out HV.out (by rw [HNX.out];simp) (by rw [HNY.out];simp)
      ·intro h;rw [En,HOL.out];rw [show c+0+0=c from rfl,Nat.mod_eq_of_lt (show c < 10000 by omega)];have:=Nat.mul_le_mul_left (B4^k) (show 1≤c by omega);rw [Nat.mul_one] at this;simp only [Nat.add_sub_cancel];omega
     case measure=>simp only [intOf];omega
    ·obtain rfl:c=0:=by omega
     have hmxk:mx≤k:=by have:=HMX.out;omega
     have hval:aI B4 os=M+N:=by
      have h:=HV.out;rw [List.take_of_length_le (l:=xs) (by rw [Nu.out];omega),List.take_of_length_le (l:=ys) (by rw [HL2.out];omega),HX.out,HY.out] at h;have h1:=dN M;have h2:=dN N;unfold jJ at h1 h2;omega
     have hfull:os=aT (M+N):=by
      refine QH oz hval ?_;rw [HOL.out]
      by_cases hk1:k=mx+1
      ·have h1:=HT.out hk1
       rw [hval] at h1;have:=QI h1;omega
      ·have h1:=oI (show M≤M+N by omega)
       have h2:=oI (show N≤M+N by omega);rw [← HX.out,Nu.out] at h1;rw [← HY.out,HL2.out] at h2;have:=HMX.out;omega
     obtain ⟨ao',c',hu,h1,h2⟩:=kK (k:= .i64) (B:=B4) (by rw [HOL.out];exact hown) oz;rw [HOL.out] at h1 hu;rw [hfull] at h1;subst hu;clear hval hfull;go_wp2;go_ret;exact ⟨_,_,_,rfl,h1,h2,by omega,hb⟩
theorem ZM(n:Nat)(w:World)(hn:n≤1000000):
  Calls Tryz.prog 89 #[.int .i64 (n:Int)] w fun e w'=>∃ ro k c',e= .returned (.slice ro k c')∧Rw .i64 B4 w' ro k c' (aT (2^n))∧k≤n+1∧qN w.heap.size w' ro c'∧Below w.heap.size w w':=by
 go_enter Tryz.func89,Tryz.ntmps89;go_wp2_with fail;have hstart:=(kC.new w 3 (dY .i64 [1])).rw (B:=B4) (by intro y hy;rw [List.mem_singleton.1 hy];decide);have YC:=(kC.new w 3 (dY .i64 [1])).own (base:=w.heap.size) (n:=1) (Nat.le_refl _) (by simp [dY]);go_loopw [3,4] (fun s3 s4 wr=>∃ (k rn rc:Nat) (ro:Option Addr),k≤n∧s4= .int .i64 k∧s3= .slice ro rn rc∧Rw .i64 B4 wr ro rn rc (aT (2^k))∧qN w.heap.size wr ro rc∧Below w.heap.size w wr) (fun _ s4 _=>n-(intOf s4).toNat)
 case atStart=>exact ⟨0,1,1,_,Nat.zero_le _,rfl,rfl,hstart,YC,(Below.refl _ _).alloc (Nat.le_refl _) _⟩
 case round=>
  obtain ⟨k,rn,rc,ro,hk,rfl,rfl,hrow,hown,hb⟩:=hrel;clear hstart YC;have hlen:rn≤k+1:=by
   have h:=qR (k:=k+1) (Nat.lt_of_lt_of_le (Nat.pow_lt_pow_right (by decide) (Nat.lt_succ_self k)) (Nat.pow_le_pow_left (show 2≤B4 by decide) (k+1)));rw [hrow.len] at h;exact h
  by_cases hkn:k < n
  ·go_wp2_with fail
   refine (Ah _ _ _ 2 0 _ _ (by omega) (by omega) (by omega) hrow).mono ?_;rintro e w1 ⟨ro2,k2,c2,rfl,h2,hown2,hb2⟩;have hown3:=hown2.mono hb.size;have e2:jJ (aT (2^k))*2+0=2^(k+1):=by rw [dN,Nat.pow_succ];rfl
   rw [e2] at h2;have hb3:=kS hb hb2;clear e2 hb2 hrow hown hown2;go_wp2;go_roundw
   case rel=>exact ⟨k+1,k2,c2,ro2,by omega,by go_num,rfl,h2,hown3,hb3⟩
   case measure=>simp [intOf];omega
  ·obtain rfl:k=n:=by omega
   go_wp2;go_ret;exact ⟨_,_,_,rfl,hrow,hlen,hown,hb⟩
theorem abf(ao bo:Option Addr)(n c m d:Nat)(xs ys:List Nat)(w:World)(hn:n≤1073741824)(hm:m≤1073741824)(hr:Rw .u32 bP w ao n c xs)(hs:Rw .u32 bP w bo m d ys):
  Calls Tryz.prog 164 #[.slice ao n c,.slice bo m d] w fun e w'=>∃ ro k c',e= .returned (.slice ro k c')∧Rw .u32 bP w' ro k c' (cO (val xs+val ys))∧qN w.heap.size w' ro c'∧Below w.heap.size w w':=by
 go_enter Tryz.func164,Tryz.ntmps164;go_wp2_with fail;refine (gB ao n c xs _ (by omega) hr).mono ?_;rintro e w' ⟨n1,rfl,hn1,hr1,rfl⟩;go_wp2_with fail;refine (gB bo m d ys _ (by omega) hs).mono ?_;rintro e w' ⟨m1,rfl,hm1,hs1,rfl⟩;go_upto_if 18 with (fail);go_cut [0,1] (fun s0 s1 wx=>∃ po pn pc PL qo qn qc QL,s0= .slice po pn pc∧s1= .slice qo qn qc∧qn≤pn∧pn≤1073741824∧Rw .u32 bP w po pn pc PL∧Rw .u32 bP w qo qn qc QL∧val PL+val QL=val xs+val ys∧wx=w)
 case first=>
  have h1:=dh (val xs);have h2:=dh (val ys)
  by_cases hlt:n1 < m1
  ·go_wp2_with fail
   go_meet;exact ⟨_,_,_,_,_,_,_,_,rfl,rfl,by omega,by omega,hs1,hr1,by omega,rfl⟩
  ·go_wp2_with fail
   go_meet;exact ⟨_,_,_,_,_,_,_,_,rfl,rfl,by omega,by omega,hr1,hs1,by omega,rfl⟩
 case rest=>
  obtain ⟨po,pn,pc,PL,qo,qn,qc,QL,rfl,rfl,hle,hbig,hp,hq,hval,rfl⟩:=hcut;have aly:=aS hval;clear hval hr hs hr1 hs1 hn1 hm1;go_wp2_with (at_make;refine Hid.out ?_);refine aS<|iW _ rfl _ _ 34 rfl 165 (.int .u32 0) 4 Tryz.underlying34 Tryz.infoU32 rfl .i64 .i64 _ _ (pn+1) rfl rfl (by omega) (by omega) (by omega) (by unfold maxLen;omega) fun w1 hblk hbelow hlt=>?_
  obtain ⟨G,hG⟩:∃ G,G=wc.heap.size:=⟨_,rfl⟩
  rw [← hG] at hblk hlt hbelow ⊢;have HG:=aS hG;clear hG;rw [← dZ] at hblk;go_wp2_with fail;go_loopw [6,27] (fun s6 s27 wr=>∃ (k cy:Nat) (os:List Nat),k≤pn∧s27= .int .i64 k∧s6= .int .u64 cy∧cy≤1∧os.length=pn+1∧(∀ o∈os,o < bP)∧kC wr G 165 (dY .u32 os)∧Below G wc wr∧
    aI bP (os.take k)+bP^k*cy=aI bP (PL.take k)+aI bP (QL.take k)) (fun _ s27 _=>pn-(intOf s27).toNat)
  case atStart=>exact ⟨0,0,List.replicate (pn+1) 0,Nat.zero_le _,rfl,rfl,by omega,by simp,(fun o ho=>by simp at ho;subst ho;decide),hblk,hbelow,by simp [aI]⟩
  case round=>
   obtain ⟨k,cy,os,hk,rfl,rfl,hcy,hol,oz,hb,hbe,hv⟩:=hrel;have HV:=aS hv;have HOL:=aS hol;clear hv hol hblk hbelow;have hb0:=hb.lt
   by_cases hkn:k < pn
   ·obtain ⟨b1,off1,x,rfl,hx,jL,hcx⟩:=(hp.ext (by rw [← HG.out];exact hbe)).at hkn
    have hcell:=hb.cell k (by rw [bK,HOL.out];omega);have hfree:=hb.free k;have hx':x < 4294967296:=jL;have Hx:=aS hx;clear hx jL
    by_cases hkq:k < qn
    ·obtain ⟨b2,off2,y,rfl,hy,hyB,Vf⟩:=(hq.ext (by rw [← HG.out];exact hbe)).at hkq
     have hy':y < 4294967296:=hyB;have Hy:=aS hy;clear hy hyB;go_wp2;go_roundw
     case rel=>
      have hv:=hb.set k (.int .u32 (((x+cy+y)%4294967296:Nat):Int));rw [fD] at hv;refine ⟨k+1,(x+cy+y) / 4294967296,os.set k ((x+cy+y)%4294967296),by omega,by go_num,by go_num,by omega,by rw [List.length_set];exact HOL.out,dH oz (Nat.mod_lt _ (by decide)) k,?_,?_,?_⟩
      ·have e:((x:Int)+cy+y)%4294967296=(((x+cy+y)%4294967296:Nat):Int):=by omega
       rw [e];exact hv
      ·exact hbe.setCell (Nat.le_refl _) _
      ·exact NK (by rw [HOL.out];omega) HV.out (aQ _ Hx.out) (aQ _ Hy.out)
     case measure=>simp [intOf];omega
    ·have D8:=hq.len
     have Nv:=aS D8;clear D8;go_wp2;go_roundw
     case rel=>
      have hv:=hb.set k (.int .u32 (((x+cy+0)%4294967296:Nat):Int));rw [fD] at hv;refine ⟨k+1,(x+cy+0) / 4294967296,os.set k ((x+cy+0)%4294967296),by omega,by go_num,by go_num,by omega,by rw [List.length_set];exact HOL.out,dH oz (Nat.mod_lt _ (by decide)) k,?_,?_,?_⟩
      ·have e:((x:Int)+cy)%4294967296=(((x+cy+0)%4294967296:Nat):Int):=by omega
       rw [e];exact hv
      ·exact hbe.setCell (Nat.le_refl _) _
      ·exact NK (by rw [HOL.out];omega) HV.out (aQ _ Hx.out) (by rw [iy _ (by rw [Nv.out];omega)];simp)
     case measure=>simp [intOf];omega
   ·obtain rfl:k=pn:=by omega
    have hcell:=hb.cell k (by rw [bK,HOL.out];omega);have hfree:=hb.free k;go_wp2_with fail;have hv:=hb.set k (.int .u32 (cy:Int));rw [fD] at hv;have hlt:∀ x∈os.set k cy,x < bP:=dH oz (by show cy < 4294967296;omega) k
    have hrow:=hv.rw hlt;rw [List.length_set,HOL.out] at hrow;refine (gB _ _ _ _ _ (by omega) hrow).mono ?_;rintro e w' ⟨r1,rfl,hr1,hres,rfl⟩;have hown:=hv.own (base:=G) (n:=k+1) (Nat.le_refl _) (by rw [bK,List.length_set,HOL.out];exact Nat.le_refl _);go_wp2;go_ret;refine ⟨_,_,_,rfl,?_,by rw [← HG.out];exact hown,by rw [← HG.out];exact hbe.setCell (Nat.le_refl _) _⟩;have hval:val (os.set k cy)=val xs+val ys:=by
     have h1:=gu bP os k cy (by rw [HOL.out];omega);rw [bI _ (by rw [List.length_set,HOL.out])] at h1;have h2:=HV.out;rw [bI _ hp.len,List.take_of_length_le (l:=QL) (by rw [hq.len];exact hle)] at h2;rw [← aly.out];unfold val;omega
    rw [← hval];exact hres
theorem acX(ao bo:Option Addr)(n c m d:Nat)(xs ys:List Nat)(w:World)(hn:n≤1073741824)(hm:m≤1073741824)(hr:Rw .u32 bP w ao n c xs)(hs:Rw .u32 bP w bo m d ys):
  Calls Tryz.prog 165 #[.slice ao n c,.slice bo m d] w fun e w'=>∃ ro k c',e= .returned (.tuple #[.slice ro k c',.bool (decide (val ys≤val xs))])∧Rw .u32 bP w' ro k c' (cO (val xs-val ys))∧qN w.heap.size w' ro c'∧Below w.heap.size w w':=by
 go_enter Tryz.func165,Tryz.ntmps165;go_wp2_with fail;refine (gB ao n c xs _ (by omega) hr).mono ?_;rintro e w' ⟨n1,rfl,hn1,hr1,rfl⟩;go_wp2_with fail;refine (gB bo m d ys _ (by omega) hs).mono ?_;rintro e w' ⟨m1,rfl,hm1,hs1,rfl⟩;go_wp2_with fail;refine (SC _ _ _ _ _ _ _ _ _ (by omega) (by omega) hr1 hs1).mono ?_;rintro e w1 ⟨rfl,hw1⟩;rw [dh,dh];obtain ⟨z,hz⟩:∃ z,z=jS (val xs) (val ys):=⟨_,rfl⟩
 rw [← hz]
 by_cases hlt:val xs < val ys
 ·have hz0:z < 0:=by rw [hz,jS,if_pos (by omega)];decide
  clear hz;have hdec:decide (val ys≤val xs)=false:=by simpa using hlt
  have HD:=aS hdec;clear hdec;have hsub:val xs-val ys=0:=by omega
  have HS:=aS hsub;clear hsub;go_wp2;go_ret2;exact ⟨_,_,_,by rw [HD.out];rfl,by rw [HS.out];exact Rw.nil _ _ _,qN.nil _ _ _,hw1⟩
 ·have hz0:0≤z:=by rw [hz,jS,if_neg (by omega)];split <;> decide
  clear hz;have hdec:decide (val ys≤val xs)=true:=by simpa using Nat.le_of_not_lt hlt
  have HD:=aS hdec;clear hdec;have hle:=Nat.le_of_not_lt hlt;clear hlt;have hmn:=Hz hle;rw [hr1.len,hs1.len] at hmn;have hp:=hr1.ext hw1;have hq:=hs1.ext hw1;go_wp2_with (at_make;refine Hid.out ?_);refine aS<|iW _ rfl _ _ 34 rfl 165 (.int .u32 0) 4 Tryz.underlying34 Tryz.infoU32 rfl .i64 .i64 _ _ n1 rfl rfl (by omega) (by omega) (by omega) (by unfold maxLen;omega) fun w2 hblk hbelow hlt=>?_
  obtain ⟨G,hG⟩:∃ G,G=w1.heap.size:=⟨_,rfl⟩
  rw [← hG] at hblk hlt hbelow ⊢;have HG:=aS hG;clear hG;rw [← dZ] at hblk;go_wp2_with fail;go_loopw [7,24] (fun s7 s24 wr=>∃ (k cy:Nat) (os:List Nat),k≤n1∧s24= .int .i64 k∧s7= .int .u64 cy∧cy≤1∧os.length=n1∧(∀ o∈os,o < bP)∧kC wr G 165 (dY .u32 os)∧Below G w1 wr∧
    aI bP (os.take k)+aI bP ((cO (val ys)).take k)=aI bP ((cO (val xs)).take k)+bP^k*cy) (fun _ s24 _=>n1-(intOf s24).toNat)
  case atStart=>exact ⟨0,0,List.replicate n1 0,Nat.zero_le _,rfl,rfl,by omega,by simp,(fun o ho=>by have:=(List.mem_replicate.1 ho).2;subst this;decide),hblk,hbelow,by simp [aI]⟩
  case round=>
   obtain ⟨k,cy,os,hk,rfl,rfl,hcy,hol,oz,hb,hbe,hv⟩:=hrel;have HV:=aS hv;have HOL:=aS hol;clear hv hol hblk hbelow;have hb0:=hb.lt
   by_cases hkn:k < n1
   ·obtain ⟨b1,off1,x,rfl,hx,jL,hcx⟩:=(hp.ext (by rw [← HG.out];exact hbe)).at hkn
    have hcell:=hb.cell k (by rw [bK,HOL.out];omega);have hfree:=hb.free k;have hx':x < 4294967296:=jL;have Hx:=aS hx;clear hx jL
    by_cases hkq:k < m1
    ·obtain ⟨b2,off2,y,rfl,hy,hyB,Vf⟩:=(hq.ext (by rw [← HG.out];exact hbe)).at hkq
     have hy':y < 4294967296:=hyB;have Hy:=aS hy;clear hy hyB;obtain ⟨d1,b,hd1,hb1,e1,e2,e3⟩:=aak x cy y hx' hcy hy';have E1:=aS e1;have E2:=aS e2;have E3:=aS e3;clear e1 e2 e3;go_wp2;rw [E1.out,E2.out];go_roundw
     case rel=>
      have hv:=hb.set k (.int .u32 (d1:Int));rw [fD] at hv;exact ⟨k+1,b,os.set k d1,by omega,by go_num,rfl,hb1,by rw [List.length_set];exact HOL.out,dH oz hd1 k,hv,hbe.setCell (Nat.le_refl _) _,Dk (by rw [HOL.out];omega) HV.out (aQ _ Hx.out) (aQ _ Hy.out) E3.out⟩
     case measure=>simp [intOf];omega
    ·have D8:=hq.len
     have Nv:=aS D8;clear D8;obtain ⟨d1,b,hd1,hb1,e1,e2,e3⟩:=VJ x cy hx' hcy;have E1:=aS e1;have E2:=aS e2;have E3:=aS e3;clear e1 e2 e3;go_wp2;rw [E1.out,E2.out];go_roundw
     case rel=>
      have hv:=hb.set k (.int .u32 (d1:Int));rw [fD] at hv;exact ⟨k+1,b,os.set k d1,by omega,by go_num,rfl,hb1,by rw [List.length_set];exact HOL.out,dH oz hd1 k,hv,hbe.setCell (Nat.le_refl _) _,Dk (by rw [HOL.out];omega) HV.out (aQ _ Hx.out) (by rw [iy _ (by rw [Nv.out];omega)];simp) E3.out⟩
     case measure=>simp [intOf];omega
   ·obtain rfl:k=n1:=by omega
    go_wp2_with fail;have hrow:=hb.rw oz;rw [HOL.out] at hrow;refine (gB _ _ _ _ _ (by omega) hrow).mono ?_;rintro e w' ⟨r1,rfl,hr1',hres,rfl⟩;have hown:=hb.own (base:=G) (n:=k) (Nat.le_refl _) (by rw [bK,HOL.out];exact Nat.le_refl _);go_wp2;go_ret2;refine ⟨_,_,_,by rw [HD.out];rfl,?_,(hown.mono (by rw [HG.out];exact hw1.size)),hw1.trans (hbe.mono (by rw [HG.out];exact hw1.size))⟩;have hval:val os=val xs-val ys:=by
     have h2:=HV.out;rw [bI _ hp.len,List.take_of_length_le (l:=cO (val ys)) (by rw [hq.len];exact hmn),bI _ HOL.out] at h2;have h3:=IL oz;rw [HOL.out] at h3
     change val os+val (cO (val ys))=val (cO (val xs))+_ at h2
     rw [dh,dh] at h2;have:cy=0∨cy=1:=by omega
     rcases this with rfl | rfl
     ·omega
     ·rw [Nat.mul_one] at h2;omega
    rw [← hval];exact hres
/-- One digit of a row's product. -/
theorem Zk{B k j cy x y o R V:Nat}{ps Q:List Nat}(ho:ps[k+j]?=some o)(hv:aI B ps+B^(k+j)*cy=R+B^k*(x*V)) 
  (hQ:aI B (Q.take (j+1))=V+B^j*y):
  aI B (ps.set (k+j) ((x*y+o+cy)%B))+B^(k+(j+1))*((x*y+o+cy) / B)=R+B^k*(x*aI B (Q.take (j+1))):=by
 have h1:=yM B ho ((x*y+o+cy)%B);have h2:=yI B (k+j) (x*y+o+cy);rw [Nat.mul_add,Nat.mul_add] at h2;have h3:B^k*(x*(V+B^j*y))=B^k*(x*V)+B^(k+j)*(x*y):=by rw [Nat.pow_add];grind
 rw [hQ,h3,← Nat.add_assoc];omega
theorem Ai(x y:Nat)(hx:x < 4294967296)(hy:y < 4294967296):(x:Int)*(y:Int)≤18446744065119617025∧(0:Int)≤(x:Int)*(y:Int):=by
 have h:=Nat.mul_le_mul (show x≤4294967295 by omega) (show y≤4294967295 by omega);rw [← Int.natCast_mul];omega
theorem JJ(x y o c:Nat)(hx:x < 4294967296)(hy:y < 4294967296)(ho:o < 4294967296)(hc:c < 4294967296):x*y+o+c < 4294967296*4294967296∧x*y≤18446744065119617025:=by
 have h:=Nat.mul_le_mul (show x≤4294967295 by omega) (show y≤4294967295 by omega);omega
theorem acr(ao bo:Option Addr)(n c m d:Nat)(xs ys:List Nat)(w:World)(hn:n≤1073741824)(hm:m≤1073741824)(hr:Rw .u32 bP w ao n c xs)(hs:Rw .u32 bP w bo m d ys):
  Calls Tryz.prog 154 #[.slice ao n c,.slice bo m d] w fun e w'=>∃ ro k c',e= .returned (.slice ro k c')∧Rw .u32 bP w' ro k c' (cO (val xs*val ys))∧qN w.heap.size w' ro c'∧Below w.heap.size w w':=by
 go_enter Tryz.func154,Tryz.ntmps154;go_wp2_with fail;refine (gB ao n c xs _ (by omega) hr).mono ?_;rintro e w' ⟨n1,rfl,hn1,hp,rfl⟩;go_wp2_with fail;refine (gB bo m d ys _ (by omega) hs).mono ?_;rintro e w' ⟨m1,rfl,hm1,hq,rfl⟩;go_wp2_with (at_make;refine Hid.out ?_);refine aS ?_;refine iW _ rfl _ _ 34 rfl 165 (.int .u32 0) 4 Tryz.underlying34 Tryz.infoU32 rfl .i64 .i64 _ _ (n1+m1) rfl rfl (by omega) (by omega) (by omega) (by unfold maxLen;omega) fun w2 hblk hbelow hlt=>?_
 obtain ⟨G,hG⟩:∃ G,G=w.heap.size:=⟨_,rfl⟩
 rw [← hG] at hblk hlt hbelow ⊢;have HG:=aS hG;clear hG;rw [← dZ] at hblk;generalize hA:cO (val xs)=P at *
 generalize hB:cO (val ys)=Q at *
 have HA:=aS hA;have HB:=aS hB;clear hA hB;have hpl:=hp.len;have D8:=hq.len;have J8:=aS hpl;have Nv:=aS D8;clear hpl D8 hr hs;go_wp2_with fail;go_loopw [24] (fun s24 wr=>∃ (k:Nat) (os:List Nat),k≤n1∧s24= .int .i64 k∧os.length=n1+m1∧(∀ o∈os,o < bP)∧(∀ j,k+m1≤j→j < n1+m1→os[j]?=some 0)∧kC wr G 165 (dY .u32 os)∧Below G w wr∧
   aI bP os=aI bP (P.take k)*aI bP Q) (fun s24 _=>n1-(intOf s24).toNat)
 case atStart=>exact ⟨0,List.replicate (n1+m1) 0,Nat.zero_le _,rfl,by simp,(fun o ho=>by have:=(List.mem_replicate.1 ho).2;subst this;decide),(fun j _ hj=>by simp [hj]),hblk,hbelow,by simp [aI,jl]⟩
 case round=>
  obtain ⟨k,os,hk,rfl,hol,oz,hz,hb,hbe,hv⟩:=hrel;have HV:=aS hv;have HOL:=aS hol;have HZ:=aS hz;clear hv hol hblk hbelow hz;have hb0:=hb.lt
  by_cases hkn:k < n1
  ·obtain ⟨b1,off1,x,rfl,hx,jL,hcx⟩:=(hp.ext (by rw [← HG.out];exact hbe)).at hkn
   have hx':x < 4294967296:=jL;have Hx:=aS hx;clear hx jL;go_wp2_with fail;obtain ⟨wo,rfl⟩:∃ wo:World,wo=wr:=⟨_,rfl⟩
   go_loopw [8,31] (fun s8 s31 wr=>∃ (j cy:Nat) (ps:List Nat),j≤m1∧s31= .int .i64 j∧s8= .int .u64 cy∧cy < 4294967296∧ps.length=n1+m1∧(∀ o∈ps,o < bP)∧(∀ i,k+m1≤i→i < n1+m1→ps[i]?=some 0)∧kC wr G 165 (dY .u32 ps)∧Below G w wr∧
     aI bP ps+bP^(k+j)*cy=aI bP os+bP^k*(x*aI bP (Q.take j))) (fun _ s31 _=>m1-(intOf s31).toNat)
   case atStart=>exact ⟨0,0,os,Nat.zero_le _,rfl,rfl,by omega,HOL.out,oz,HZ.out,hb,hbe,by simp [aI]⟩
   case round=>
    obtain ⟨j,cy,ps,hj,rfl,rfl,hcy,hpl,Yt,hpz,hb,hbe,hv⟩:=hrel;have Nw:=aS hv;have EM:=aS hpl;have HPZ:=aS hpz;clear hv hpl hpz
    by_cases hjm:j < m1
    ·obtain ⟨b2,off2,y,rfl,hy,hyB,Vf⟩:=(hq.ext (by rw [← HG.out];exact hbe)).at hjm
     have hy':y < 4294967296:=hyB;have Hy:=aS hy;clear hy hyB;have hrow:=hb.rw Yt;rw [EM.out] at hrow;obtain ⟨o,ho,QW,hco⟩:=hrow.cell (j:=k+j) (by omega);have dX:o < 4294967296:=QW;rw [Nat.zero_add] at hco;have Ho:=aS ho;clear ho QW hrow;have hfree:=hb.free (k+j);have hmb:=JJ x y o cy hx' hy' dX hcy;obtain ⟨ajl,hm2⟩:=Ai x y hx' hy';have HMB:=aS hmb;clear hmb;go_wp2;go_roundw
     case rel=>
      have hv:=hb.set (k+j) (.int .u32 (((x*y+o+cy)%4294967296:Nat):Int));rw [fD] at hv;have e0:((x*y+o+cy:Nat):Int)=(x:Int)*y+o+cy:=by simp
      refine ⟨j+1,(x*y+o+cy) / 4294967296,ps.set (k+j) ((x*y+o+cy)%4294967296),by omega,by go_num,?_,?_,by rw [List.length_set];exact EM.out,dH Yt (Nat.mod_lt _ (by decide)) _,?_,?_,?_,?_⟩
      ·rw [← e0];rfl
      ·have:=HMB.out.1;exact Nat.div_lt_of_lt_mul this
      ·intro i h1 h2
       rw [List.getElem?_set_ne (by omega)];exact HPZ.out i h1 h2
      ·have e1:((x:Int)*y+o+cy)%4294967296=(((x*y+o+cy)%4294967296:Nat):Int):=by rw [← e0];rfl
       rw [e1];exact hv
      ·exact hbe.setCell (Nat.le_refl _) _
      ·exact Zk Ho.out Nw.out (aQ _ Hy.out)
     case measure=>simp [intOf];omega
    ·obtain rfl:j=m1:=by omega
     have hv2:=Nw.out;rw [bI bP Nv.out] at hv2;have HV3:=aS hv2;clear hv2
     by_cases h0:j=0
     ·subst h0
      have hq0:aI bP Q=0:=by rw [List.eq_nil_of_length_eq_zero Nv.out];rfl
      have HQ0:=aS hq0;clear hq0;go_wp2;go_roundw
      case rel=>
       refine ⟨k+1,ps,by omega,by go_num,EM.out,Yt,fun i h1 h2=>HPZ.out i (by omega) h2,hb,hbe,?_⟩;have h2:=HV3.out;rw [HV.out,HQ0.out] at h2;rw [HQ0.out];omega
      case measure=>simp [intOf];omega
     ·have hrow:=hb.rw Yt
      rw [EM.out] at hrow;have h00:=HPZ.out (k+j) (Nat.le_refl _) (by omega);have H00:=aS h00;clear h00;have hcell:=hb.cell (k+j) (by rw [bK,EM.out];omega);have hfree:=hb.free (k+j);go_wp2;go_roundw
      case rel=>
       have hv:=hb.set (k+j) (.int .u32 ((cy:Nat):Int));rw [fD] at hv;refine ⟨k+1,ps.set (k+j) cy,by omega,by go_num,by rw [List.length_set];exact EM.out,dH Yt hcy _,?_,hv,hbe.setCell (Nat.le_refl _) _,?_⟩
       ·intro i h1 h2
        rw [List.getElem?_set_ne (by omega)];exact HPZ.out i (by omega) h2
       ·have h1:=yM bP H00.out cy
        have h2:=HV3.out;have h3:=aQ bP Hx.out;rw [h3,HV.out] at *
        grind
      case measure=>simp [intOf];omega
  ·obtain rfl:k=n1:=by omega
   go_wp2_with fail;have hrow:=hb.rw oz;rw [HOL.out] at hrow;refine (gB _ _ _ _ _ (by omega) hrow).mono ?_;rintro e w' ⟨r1,rfl,hr1',hres,rfl⟩;have hown:=hb.own (base:=G) (n:=k+m1) (Nat.le_refl _) (by rw [bK,HOL.out];exact Nat.le_refl _);go_wp2;go_ret;refine ⟨_,_,_,rfl,?_,by rw [← HG.out];exact hown,by rw [← HG.out];exact hbe⟩;have hval:val os=val xs*val ys:=by
    have h2:=HV.out;rw [bI _ J8.out,← HA.out,← HB.out] at h2
    change val os=val (cO (val xs))*val (cO (val ys)) at h2
    rw [dh,dh] at h2;exact h2
   rw [← hval];exact hres
theorem acC(ao:Option Addr)(n c:Nat)(xs:List Nat)(v:Nat)(w:World)(hn:n≤1073741824)(hv0:0 < v)(hvB:v < 4294967296)(hr:Rw .u32 bP w ao n c xs):
  Calls Tryz.prog 174 #[.slice ao n c,.int .u32 v] w fun e w'=>∃ ro k c',e= .returned (.tuple #[.slice ro k c',.int .u32 ((val xs%v:Nat):Int)])∧Rw .u32 bP w' ro k c' (cO (val xs / v))∧qN w.heap.size w' ro c'∧Below w.heap.size w w':=by
 have amI:((v:Int)==0)=false:=by rw [beq_eq_false_iff_ne];omega
 go_enter Tryz.func174,Tryz.ntmps174;go_wp2_with (at_make;refine Hid.out ?_);refine aS ?_;refine iW _ rfl _ _ 34 rfl 165 (.int .u32 0) 4 Tryz.underlying34 Tryz.infoU32 rfl .i64 .i64 _ _ n rfl rfl (by omega) (by omega) (by omega) (by unfold maxLen;omega) fun w2 hblk hbelow hlt=>?_
 obtain ⟨G,hG⟩:∃ G,G=w.heap.size:=⟨_,rfl⟩
 rw [← hG] at hblk hlt hbelow ⊢;have HG:=aS hG;clear hG;rw [← dZ] at hblk;have hpl:=hr.len;have J8:=aS hpl;clear hpl;go_wp2_with fail;go_loopw [7,8] (fun s7 s8 wr=>∃ (k r:Nat) (os:List Nat),k≤n∧s8= .int .i64 ((k:Int)-1)∧s7= .int .u64 r∧r < v∧os.length=n∧(∀ o∈os,o < bP)∧kC wr G 165 (dY .u32 os)∧Below G w wr∧
   aI bP (xs.drop k)=v*aI bP (os.drop k)+r) (fun _ s8 _=>(intOf s8+1).toNat)
 case atStart=>exact ⟨n,0,List.replicate n 0,Nat.le_refl _,rfl,rfl,hv0,by simp,(fun o ho=>by have:=(List.mem_replicate.1 ho).2;subst this;decide),hblk,hbelow,by rw [List.drop_of_length_le (Nat.le_of_eq J8.out),List.drop_of_length_le (by simp)];rfl⟩
 case round=>
  obtain ⟨k,r,os,hk,rfl,rfl,hrv,hol,oz,hb,hbe,hv⟩:=hrel;have HV:=aS hv;have HOL:=aS hol;clear hv hol hblk hbelow;have hb0:=hb.lt
  by_cases h0:k=0
  ·subst h0
   have hv:=HV.out;rw [List.drop_zero,List.drop_zero] at hv;have Nw:=aS hv;clear hv HV;go_wp2_with fail;have hrow:=hb.rw oz;rw [HOL.out] at hrow;refine (gB _ _ _ _ _ (by omega) hrow).mono ?_;rintro e w' ⟨r1,rfl,hr1',hres,rfl⟩;have hown:=hb.own (base:=G) (n:=n) (Nat.le_refl _) (by rw [bK,HOL.out];exact Nat.le_refl _);have hr4:r < 4294967296:=by omega
   go_wp2;go_ret2;have hmod:val xs%v=r:=by
    have h2:=Nw.out;unfold val;rw [h2,Nat.mul_add_mod,Nat.mod_eq_of_lt hrv]
   have hdiv:val xs / v=val os:=by
    have h2:=Nw.out;unfold val;rw [h2,Nat.mul_add_div hv0,Nat.div_eq_of_lt hrv,Nat.add_zero]
   exact ⟨_,_,_,by rw [hmod];rfl,by rw [hdiv];exact hres,by rw [← HG.out];exact hown,by rw [← HG.out];exact hbe⟩
  ·obtain ⟨j,rfl⟩:∃ j,k=j+1:=⟨k-1,by omega⟩
   obtain ⟨b1,off1,x,rfl,hx,jL,hcx⟩:=(hr.ext (by rw [← HG.out];exact hbe)).at (show j < n by omega);have hx':x < 4294967296:=jL;have hr':r < 4294967296:=by omega
   have Hx:=aS hx;clear hx jL;have hcell:=hb.cell j (by rw [bK,HOL.out];omega);have hfree:=hb.free j;obtain ⟨s,hs⟩:∃ s:Nat,s=r*4294967296+x:=⟨_,rfl⟩
   have hor:=LV r x hr' hx';rw [← hs] at hor;have hqB:s / v < 4294967296:=by
    rw [Nat.div_lt_iff_lt_mul hv0,hs];have:=Nat.mul_le_mul_right 4294967296 (show r+1≤v from hrv);rw [Nat.add_mul,Nat.mul_comm v] at this;omega
   obtain ⟨q,hq⟩:∃ q:Nat,q=s / v:=⟨_,rfl⟩
   obtain ⟨t,ht⟩:∃ t:Nat,t=s%v:=⟨_,rfl⟩
   have htv:t < v:=by rw [ht];exact Nat.mod_lt _ hv0
   have hqv:v*q+t=s:=by rw [hq,ht];exact Nat.div_add_mod s v
   have hq':(s:Int) / (v:Int)=(q:Int):=by rw [hq];rfl
   have ht':(s:Int)%(v:Int)=(t:Int):=by rw [ht];rfl
   rw [← hq] at hqB;have HS:=aS hs;have HQV:=aS hqv;clear hs hqv hq ht;go_wp2;go_region;go_wp2;rw [ht'];go_roundw
   case rel=>
    have hv:=hb.set j (.int .u32 (q:Int));rw [fD] at hv;exact ⟨j,t,os.set j q,by omega,rfl,rfl,htv,by rw [List.length_set];exact HOL.out,dH oz hqB j,hv.drew,(hbe.setCell (Nat.le_refl _) _).drew,AB (by rw [HOL.out];omega) Hx.out HV.out HS.out HQV.out⟩
   case measure=>simp [intOf]
/-- A shift's number: from 0 to 65536. -/
def iG(n:Int):Nat:=(max 0 (min n 65536)).toNat
theorem acS(ao:Option Addr)(n c:Nat)(xs:List Nat)(z:Int)(w:World)(hn:n≤1073741824)(hr:Rw .u32 bP w ao n c xs):
  Calls Tryz.prog 183 #[.slice ao n c,.int .i64 z] w fun e w'=>∃ ro k c',e= .returned (.slice ro k c')∧Rw .u32 bP w' ro k c' (cO (val xs*2^iG z))∧qN w.heap.size w' ro c'∧Below w.heap.size w w':=by
 go_enter Tryz.func183,Tryz.ntmps183;go_wp2_with fail;refine (gB ao n c xs _ (by omega) hr).mono ?_;rintro e w' ⟨n1,rfl,hn1,hp,rfl⟩;go_upto_region 2 with (fail);go_cut [1] (fun s1 wx=>s1= .int .i64 (iG z:Nat)∧wx=w)
 case first=>
  by_cases hz0:z≤0
  ·go_wp2_with fail
   go_meet;exact ⟨by rw [show iG z=0 by unfold iG;omega];rfl,rfl⟩
  ·by_cases hz1:65536 < z
   ·go_wp2_with fail
    go_meet;exact ⟨by rw [show iG z=65536 by unfold iG;omega];rfl,rfl⟩
   ·go_wp2_with fail
    go_meet;exact ⟨by rw [show ((iG z:Nat):Int)=z by unfold iG;omega],rfl⟩
 case rest=>
  obtain ⟨rfl,rfl⟩:=hcut;have hzB:iG z≤65536:=by unfold iG;omega
  obtain ⟨zn,hzn⟩:∃ zn,zn=iG z:=⟨_,rfl⟩
  rw [← hzn] at hzB ⊢;have HZN:=aS hzn;clear hzn;obtain ⟨kk,hkk⟩:∃ kk,kk=zn / 32:=⟨_,rfl⟩
  obtain ⟨ss,hss⟩:∃ ss,ss=zn%32:=⟨_,rfl⟩
  have amk:kk≤2048:=by omega
  have af7:ss < 32:=by omega
  have YH:zn=32*kk+ss:=by omega
  have hd1:(zn:Int) / 32=(kk:Int):=by omega
  have hd2:(zn:Int)%32=(ss:Int):=by omega
  have HZ:=aS YH;clear hkk hss YH
  by_cases h0:n1=0
  ·subst h0
   go_wp2;go_ret;have hx0:val xs=0:=qI.1 (List.eq_nil_of_length_eq_zero hp.len);exact ⟨_,_,_,rfl,by rw [hx0,Nat.zero_mul];exact Rw.nil _ _ _,qN.nil _ _ _,Below.refl _ _⟩
  ·have hn0:((n1:Int)==0)=false:=by rw [beq_eq_false_iff_ne];omega
   go_wp2_with (at_make;refine Hid.out ?_);refine aS ?_;refine iW _ rfl _ _ 34 rfl 165 (.int .u32 0) 4 Tryz.underlying34 Tryz.infoU32 rfl .i64 .i64 _ _ (n1+kk+1) rfl rfl (by omega) (by omega) (by omega) (by unfold maxLen;omega) fun w2 hblk hbelow hlt=>?_
   obtain ⟨G,hG⟩:∃ G,G=wc.heap.size:=⟨_,rfl⟩
   rw [← hG] at hblk hlt hbelow ⊢;have HG:=aS hG;clear hG;rw [← dZ] at hblk;generalize hA:cO (val xs)=P at *
   have HA:=aS hA;clear hA hr hd1 hd2;have hpl:=hp.len;have J8:=aS hpl;clear hpl;go_wp2_with fail;go_loopw [32] (fun s32 wr=>∃ (k:Nat) (os:List Nat),k≤n1∧s32= .int .i64 k∧os.length=n1+kk+1∧(∀ o∈os,o < bP)∧(∃ o,os[k+kk]?=some o∧o < 2^ss)∧(∀ j,k+kk < j→j < n1+kk+1→os[j]?=some 0)∧kC wr G 165 (dY .u32 os)∧Below G wc wr∧
     aI bP os=bP^kk*(2^ss*aI bP (P.take k))) (fun s32 _=>n1-(intOf s32).toNat)
   case atStart=>exact ⟨0,List.replicate (n1+kk+1) 0,Nat.zero_le _,rfl,by simp,(fun o ho=>by have:=(List.mem_replicate.1 ho).2;subst this;decide),⟨0,by rw [List.getElem?_replicate,if_pos (by omega)],Nat.two_pow_pos _⟩,(fun j _ hj=>by simp [hj]),hblk,hbelow,by simp [aI,jl]⟩
   case round=>
    obtain ⟨k,os,hk,rfl,hol,oz,⟨o,ho,hoS⟩,hz,hb,hbe,hv⟩:=hrel;have HV:=aS hv;have HOL:=aS hol;have HZ0:=aS hz;have Ho:=aS ho;have HoS:=aS hoS;clear hv hol hblk hbelow hz ho hoS;have hb0:=hb.lt
    by_cases hkn:k < n1
    ·obtain ⟨b1,off1,x,rfl,hx,jL,hcx⟩:=(hp.ext (by rw [← HG.out];exact hbe)).at hkn
     have hx':x < 4294967296:=jL;have Hx:=aS hx;clear hx jL;have hcell:=hb.cell (k+kk) (by rw [bK,HOL.out];omega);have hg:(dY .u32 os)[k+kk]'(by rw [bK,HOL.out];omega)= .int .u32 (o:Int):=by
      obtain ⟨h1,h2⟩:=List.getElem?_eq_some_iff.1 Ho.out;rw [uV,h2]
     rw [hg] at hcell;clear hg;have hfree:=hb.free (k+kk);have hcell2:=hb.cell (k+kk+1) (by rw [bK,HOL.out];omega);have amc:=hb.free (k+kk+1);obtain ⟨v,t,hi,e1,e2,e3,ht,hhi,ajb,hvB,e4⟩:=VF x ss o hx' af7 HoS.out;have E4:=aS e4;have HHS:=aS ajb;clear e4 ajb;go_wp2;go_roundw
     case rel=>
      have hv1:=(hb.set (k+kk) (.int .u32 (t:Int))).set (k+kk+1) (.int .u32 (hi:Int));rw [fD,fD] at hv1;refine ⟨k+1,(os.set (k+kk) t).set (k+kk+1) hi,by omega,by go_num,by rw [List.length_set,List.length_set];exact HOL.out,dH (dH oz ht _) hhi _,⟨hi,?_,HHS.out⟩,?_,hv1,(hbe.setCell (Nat.le_refl _) _).setCell (Nat.le_refl _) _,?_⟩
      ·rw [show k+1+kk=k+kk+1 by omega,List.getElem?_set_self (by rw [List.length_set,HOL.out];omega)]
      ·intro j h1 h2
       rw [List.getElem?_set_ne (by omega),List.getElem?_set_ne (by omega)];exact HZ0.out j (by omega) h2
      ·exact Z9 Ho.out (HZ0.out _ (by omega) (by omega)) HV.out Hx.out E4.out
     case measure=>simp [intOf];omega
    ·obtain rfl:k=n1:=by omega
     go_wp2_with fail;have hrow:=hb.rw oz;rw [HOL.out] at hrow;refine (gB _ _ _ _ _ (by omega) hrow).mono ?_;rintro e w' ⟨r1,rfl,hr1',hres,rfl⟩;have hown:=hb.own (base:=G) (n:=k+kk+1) (Nat.le_refl _) (by rw [bK,HOL.out];exact Nat.le_refl _);go_wp2;go_ret;refine ⟨_,_,_,rfl,?_,by rw [← HG.out];exact hown,by rw [← HG.out];exact hbe⟩;have hval:val os=val xs*2^zn:=by
      have h2:=HV.out;rw [bI _ J8.out,← HA.out] at h2
      change val os=_*(_*val (cO (val xs))) at h2
      rw [dh] at h2;rw [h2,HZ.out,Nat.pow_add,Nat.pow_mul,show (2:Nat)^32=bP from rfl];grind
     rw [← HZN.out,← hval];exact hres
theorem acT(ao:Option Addr)(n c:Nat)(xs:List Nat)(z:Int)(w:World)(hn:n≤1073741824)(hr:Rw .u32 bP w ao n c xs):
  Calls Tryz.prog 178 #[.slice ao n c,.int .i64 z] w fun e w'=>∃ ro k c',e= .returned (.slice ro k c')∧Rw .u32 bP w' ro k c' (cO (val xs / 2^iG z))∧qN w.heap.size w' ro c'∧Below w.heap.size w w':=by
 go_enter Tryz.func178,Tryz.ntmps178;go_wp2_with fail;refine (gB ao n c xs _ (by omega) hr).mono ?_;rintro e w' ⟨n1,rfl,hn1,hp,rfl⟩;go_upto_region 2 with (fail);go_cut [1] (fun s1 wx=>s1= .int .i64 (iG z:Nat)∧wx=w)
 case first=>
  by_cases hz0:z≤0
  ·go_wp2_with fail
   go_meet;exact ⟨by rw [show iG z=0 by unfold iG;omega];rfl,rfl⟩
  ·by_cases hz1:65536 < z
   ·go_wp2_with fail
    go_meet;exact ⟨by rw [show iG z=65536 by unfold iG;omega];rfl,rfl⟩
   ·go_wp2_with fail
    go_meet;exact ⟨by rw [show ((iG z:Nat):Int)=z by unfold iG;omega],rfl⟩
 case rest=>
  obtain ⟨rfl,rfl⟩:=hcut;have hzB:iG z≤65536:=by unfold iG;omega
  obtain ⟨zn,hzn⟩:∃ zn,zn=iG z:=⟨_,rfl⟩
  rw [← hzn] at hzB ⊢;have HZN:=aS hzn;clear hzn;obtain ⟨kk,hkk⟩:∃ kk,kk=zn / 32:=⟨_,rfl⟩
  obtain ⟨ss,hss⟩:∃ ss,ss=zn%32:=⟨_,rfl⟩
  have amk:kk≤2048:=by omega
  have af7:ss < 32:=by omega
  have YH:zn=32*kk+ss:=by omega
  have hd1:(zn:Int) / 32=(kk:Int):=by omega
  have hd2:(zn:Int)%32=(ss:Int):=by omega
  have HZ:=aS YH;clear hkk hss YH
  by_cases h0:n1≤kk
  ·go_wp2
   go_ret;have hx0:val xs / 2^iG z=0:=by
    rw [← HZN.out,HZ.out,Nat.pow_add,Nat.pow_mul];have h1:=IL hp.lt;rw [dh,hp.len] at h1;have h2:bP^n1≤bP^kk:=Nat.pow_le_pow_right (by decide) h0;have h3:bP^kk*1≤bP^kk*2^ss:=Nat.mul_le_mul_left _ (Nat.two_pow_pos ss);exact Nat.div_eq_of_lt (by show val xs < bP^kk*2^ss;omega)
   exact ⟨_,_,_,rfl,by rw [hx0];exact Rw.nil _ _ _,qN.nil _ _ _,Below.refl _ _⟩
  ·obtain ⟨l,hl⟩:∃ l,n1=kk+l:=⟨n1-kk,by omega⟩
   have hl0:0 < l:=by omega
   subst hl;go_wp2_with (at_make;refine Hid.out ?_);refine aS<|iW _ rfl _ _ 34 rfl 165 (.int .u32 0) 4 Tryz.underlying34 Tryz.infoU32 rfl .i64 .i64 _ _ l rfl rfl (by omega) (by omega) (by omega) (by unfold maxLen;omega) fun w2 hblk hbelow hlt=>?_
   obtain ⟨G,hG⟩:∃ G,G=wc.heap.size:=⟨_,rfl⟩
   rw [← hG] at hblk hlt hbelow ⊢;have HG:=aS hG;clear hG;rw [← dZ] at hblk;generalize hA:cO (val xs)=P at *
   have HA:=aS hA;clear hA hr hd1 hd2;have hpl:=hp.len;have J8:=aS hpl;clear hpl;go_wp2_with fail;go_loopw [31] (fun s31 wr=>∃ (k:Nat) (os:List Nat),k≤l∧s31= .int .i64 k∧os.length=l∧(∀ o∈os,o < bP)∧kC wr G 165 (dY .u32 os)∧Below G wc wr∧
     2^ss*aI bP (os.take k)+(P.drop kk).getD 0 0%2^ss=aI bP ((P.drop kk).take k)+bP^k*((P.drop kk).getD k 0%2^ss)) (fun s31 _=>l-(intOf s31).toNat)
   case atStart=>exact ⟨0,List.replicate l 0,Nat.zero_le _,rfl,by simp,(fun o ho=>by have:=(List.mem_replicate.1 ho).2;subst this;decide),hblk,hbelow,by simp [aI]⟩
   case round=>
    obtain ⟨k,os,hk,rfl,hol,oz,hb,hbe,hv⟩:=hrel;have HV:=aS hv;have HOL:=aS hol;clear hv hol hblk hbelow;have hb0:=hb.lt
    by_cases hkn:k < l
    ·obtain ⟨b1,off1,x,rfl,hx,jL,hcx⟩:=(hp.ext (by rw [← HG.out];exact hbe)).at (show k+kk < kk+l by omega)
     have hx':x < 4294967296:=jL;have Hx:=aS hx;clear hx jL;have hcell:=hb.cell k (by rw [bK,HOL.out];omega);have hfree:=hb.free k
     by_cases hk1:k+1 < l
     ·obtain ⟨y,hy,hyB,hcy⟩:=(hp.ext (by rw [← HG.out];exact hbe)).cell (show k+kk+1 < kk+l by omega)
      have hy':y < 4294967296:=hyB;have Hy:=aS hy;clear hy hyB;obtain ⟨q,e1,hq,e2⟩:=VG x y ss hx' hy' af7;have E1:=aS e1;have E2:=aS e2;clear e1 e2;go_wp2;rw [E1.out];go_roundw
      case rel=>
       have hv:=hb.set k (.int .u32 (q:Int));rw [fD] at hv;refine ⟨k+1,os.set k q,by omega,by go_num,by rw [List.length_set];exact HOL.out,dH oz hq k,hv,hbe.setCell (Nat.le_refl _) _,?_⟩;refine O5 (by rw [HOL.out];omega) HV.out (x:=x) (y:=y) ?_ ?_ E2.out
       ·rw [List.getElem?_drop,Nat.add_comm];exact Hx.out
       ·rw [List.getD_eq_getElem?_getD,List.getElem?_drop,show kk+(k+1)=k+kk+1 by omega,Hy.out];rfl
      case measure=>simp [intOf];omega
     ·obtain ⟨q,e1,hq,e2⟩:=Rz x ss hx'
      have E1:=aS e1;have E2:=aS e2;clear e1 e2;go_wp2;rw [E1.out];go_roundw
      case rel=>
       have hv:=hb.set k (.int .u32 (q:Int));rw [fD] at hv;refine ⟨k+1,os.set k q,by omega,by go_num,by rw [List.length_set];exact HOL.out,dH oz hq k,hv,hbe.setCell (Nat.le_refl _) _,?_⟩;refine O5 (by rw [HOL.out];omega) HV.out (x:=x) (y:=0) ?_ ?_ E2.out
       ·rw [List.getElem?_drop,Nat.add_comm];exact Hx.out
       ·rw [List.getD_eq_getElem?_getD,List.getElem?_drop,List.getElem?_eq_none (by rw [J8.out];omega)];rfl
      case measure=>simp [intOf];omega
    ·obtain rfl:k=l:=by omega
     go_wp2_with fail;have hrow:=hb.rw oz;rw [HOL.out] at hrow;refine (gB _ _ _ _ _ (by omega) hrow).mono ?_;rintro e w' ⟨r1,rfl,hr1',hres,rfl⟩;have hown:=hb.own (base:=G) (n:=k) (Nat.le_refl _) (by rw [bK,HOL.out];exact Nat.le_refl _);go_wp2;go_ret;refine ⟨_,_,_,rfl,?_,by rw [← HG.out];exact hown,by rw [← HG.out];exact hbe⟩;have hval:val os=val xs / 2^zn:=by
      have h2:=HV.out;have hdl:(P.drop kk).length=k:=by rw [List.length_drop,J8.out];omega
      rw [bI _ HOL.out,bI _ hdl,List.getD_eq_getElem?_getD (i:=k),List.getElem?_eq_none (by omega)] at h2;simp only [Option.getD_none,Nat.zero_mod,Nat.mul_zero,Nat.add_zero] at h2;have h3:=oQ bP P kk (by rw [J8.out];omega);have h4:val P=val xs:=by rw [← HA.out,dh]
      have h5:aI bP (P.take kk) < bP^kk:=by
       have:=lX (B:=bP) (xs:=P.take kk) (fun x h=>hp.lt x (List.mem_of_mem_take h));rwa [List.length_take,Nat.min_eq_left (by rw [J8.out];omega)] at this
      have h6:(P.drop kk).getD 0 0%2^ss < 2^ss:=Nat.mod_lt _ (Nat.two_pow_pos ss);rw [HZ.out,Nat.pow_add,Nat.pow_mul,show (2:Nat)^32=bP from rfl,← Nat.div_div_eq_div_mul,← h4]
      change val P=_ at h3
      rw [h3,Nat.add_mul_div_left _ _ (Nat.pow_pos (by decide)),Nat.div_eq_of_lt h5,Nat.zero_add,← h2,Nat.mul_add_div (Nat.two_pow_pos ss),Nat.div_eq_of_lt h6];rfl
     rw [← HZN.out,← hval];exact hres
/-- How many binary digits a number has. -/
def bQ(n:Nat):Nat:=if n=0 then 0 else n.log2+1
theorem LU{n k:Nat}(h0:2^k≤n)(h1:n < 2^(k+1)):bQ n=k+1:=by
 have hp:=Nat.two_pow_pos k;have hn:n≠0:=by omega
 rw [bQ,if_neg hn];have h2:n.log2 < k+1:=(Nat.log2_lt hn).2 h1;have h3:k≤n.log2:=(Nat.le_log2 hn).2 h0;omega
theorem yx(n:Nat):n < 2^bQ n:=by
 rw [bQ];split
 ·rename_i h;subst h;decide
 ·exact Nat.lt_log2_self
theorem Ic{n:Nat}(h:n≠0):2^(bQ n-1)≤n:=by
 rw [bQ,if_neg h];exact Nat.log2_self_le h
theorem Ea{n:Nat}(h:n≠0):0 < bQ n:=by rw [bQ,if_neg h];omega
/-- A number over a base of 2 to the s: its digits are s and those of the upper part. -/
theorem tJ{n s y l:Nat}(hl:l < 2^s)(hy:y≠0)(hn:n=l+2^s*y):bQ n=s+bQ y:=by
 have h1:=yx y;have h2:=Ic hy;have h3:=Ea hy;obtain ⟨b,hb⟩:∃ b,bQ y=b+1:=⟨bQ y-1,by omega⟩
 rw [hb] at h1 h2 ⊢;rw [Nat.add_sub_cancel] at h2;refine LU (k:=s+b) ?_ ?_
 ·rw [Nat.pow_add]
  have:=Nat.mul_le_mul_left (2^s) h2;omega
 ·rw [Nat.add_assoc,Nat.pow_add]
  have:=Nat.mul_le_mul_left (2^s) (show y+1≤2^(b+1) from h1);rw [Nat.mul_add] at this;omega
theorem ig{n k:Nat}(h:n < 2^k):bQ n≤k:=by
 by_cases h0:n=0
 ·subst h0;simp [bQ]
 ·have h1:=Ic h0
  have h2:2^(bQ n-1) < 2^k:=Nat.lt_of_le_of_lt h1 h;have:=(Nat.pow_lt_pow_iff_right (by decide)).1 h2;omega
/-- A table of the digits' counts: the first 256 bytes of a string. -/
def aey(s:ByteArray):Bool:=(List.range 256).all fun y=>(s.data[y]?).map (fun b=>b.toNat)==some (bQ y)
theorem ahd{s:ByteArray}(h:aey s=true){y:Nat}(hy:y < 256):∃ b:UInt8,s[y]?=some b∧b.toNat=bQ y:=by
 have h1:=List.all_eq_true.1 h y (by simpa using hy);simp only [beq_iff_eq,Option.map_eq_some_iff] at h1;obtain ⟨b,h2,h3⟩:=h1;exact ⟨b,h2,h3⟩
/-- An index into a constant string. -/
theorem wP{P:Program}(w:World){ops:Array Oper}{rest:List Oper}{o:Oper}{a:Act}{Q:Exit→Act→World→Prop}(hgd:o.guard=none)(t:TypeId)(s:ByteArray)(x:Operand) 
  (hop:o.op= .index t (.const (.string s)) x) (ht:P.underlying t=some .string) (k:IntKind) (y:Nat) (hx:a.eval x= .int k (y:Int)) (hy:y < 256) (htab:aey s=true)
  (h:wpList P ops Q rest (a.put o.dst (.int .u8 (bQ y:Nat))) w):wpList P ops Q (o ::rest) a w:=by
 obtain ⟨b,hb,hn⟩:=ahd htab hy;refine wpList_plain hgd fun K hK=>?_
 have hrun:(Instr.index t (.string s) (.int k (y:Int))).run P w= .ok (.int .u8 (bQ y:Nat)) w:=by
  unfold Instr.index;simp [run_underlying ht,asIntOf,hb,hn]
 unfold Oper.wp;have he:a.eval (.const (.string s))= .string s:=rfl;simp [execOp,hop,hx,he,hrun,Result.andThen];exact hK _ _ h
theorem JG(x:Nat)(w:World)(hx:x < 4294967296):
  Calls Tryz.prog 162 #[.int .u32 (x:Int)] w fun e w'=>e= .returned (.int .i64 (bQ x:Nat))∧w'=w:=by
 by_cases h1:65536≤x
 ·obtain ⟨y,hy⟩:∃ y:Nat,y=x / 65536:=⟨_,rfl⟩
  have hyB:y < 65536:=by omega
  have hq:(x:Int) / 65536=(y:Int):=by omega
  have HY:=aS hy;clear hy;have hb1:decide ((65536:Int)≤(x:Int))=true:=by rw [decide_eq_true_eq];omega
  by_cases h2:256≤y
  ·obtain ⟨z,hz⟩:∃ z:Nat,z=y / 256:=⟨_,rfl⟩
   have hzB:z < 256:=by omega
   have hq2:(y:Int) / 256=(z:Int):=by omega
   have HZ:=aS hz;clear hz;have yh:bQ x=bQ z+24:=by
    have:=tJ (n:=x) (s:=24) (y:=z) (l:=x%16777216) (Nat.mod_lt _ (by decide)) (by have:=HZ.out;omega) (by have h3:=HZ.out;have h4:=HY.out;show x=x%16777216+16777216*z;omega);omega
   have HB:=aS yh;clear yh;have hn9:bQ z≤8:=ig hzB;go_enter Tryz.func162,Tryz.ntmps162;go_wp2_with (with_reducible refine Hid.out (p:=wpList _ _ _ ({dst:=some 16,op:=_,type:=_,pos:=_,after:=_,guard:=_} ::_) _ _) ?_);refine aS<|wP _ rfl 9 _ _ rfl Tryz.underlying9 .u8 z rfl hzB (by decide +kernel) ?_;go_wp2;go_ret;exact ⟨iR (by rw [HB.out];simp;omega),rfl⟩
  ·have ajL:y < 256:=by omega
   have hy0:0 < y:=by omega
   have hb2:decide ((256:Int)≤(y:Int))=false:=by rw [decide_eq_false_iff_not];omega
   have yh:bQ x=bQ y+16:=by
    have:=tJ (n:=x) (s:=16) (y:=y) (l:=x%65536) (Nat.mod_lt _ (by decide)) (by omega) (by have h4:=HY.out;show x=x%65536+65536*y;omega);omega
   have HB:=aS yh;clear yh;have hn9:bQ y≤8:=ig ajL;go_enter Tryz.func162,Tryz.ntmps162;go_wp2_with (with_reducible refine Hid.out (p:=wpList _ _ _ ({dst:=some 16,op:=_,type:=_,pos:=_,after:=_,guard:=_} ::_) _ _) ?_);refine aS<|wP _ rfl 9 _ _ rfl Tryz.underlying9 .u8 y rfl ajL (by decide +kernel) ?_;go_wp2;go_ret;exact ⟨iR (by rw [HB.out];simp;omega),rfl⟩
 ·have hb1:decide ((65536:Int)≤(x:Int))=false:=by rw [decide_eq_false_iff_not];omega
  by_cases h2:256≤x
  ·obtain ⟨z,hz⟩:∃ z:Nat,z=x / 256:=⟨_,rfl⟩
   have hzB:z < 256:=by omega
   have hq2:(x:Int) / 256=(z:Int):=by omega
   have HZ:=aS hz;clear hz;have hb2:decide ((256:Int)≤(x:Int))=true:=by rw [decide_eq_true_eq];omega
   have yh:bQ x=bQ z+8:=by
    have:=tJ (n:=x) (s:=8) (y:=z) (l:=x%256) (Nat.mod_lt _ (by decide)) (by have:=HZ.out;omega) (by have h3:=HZ.out;show x=x%256+256*z;omega);omega
   have HB:=aS yh;clear yh;have hn9:bQ z≤8:=ig hzB;go_enter Tryz.func162,Tryz.ntmps162;go_wp2_with (with_reducible refine Hid.out (p:=wpList _ _ _ ({dst:=some 16,op:=_,type:=_,pos:=_,after:=_,guard:=_} ::_) _ _) ?_);refine aS<|wP _ rfl 9 _ _ rfl Tryz.underlying9 .u8 z rfl hzB (by decide +kernel) ?_;go_wp2;go_ret;exact ⟨iR (by rw [HB.out];simp;omega),rfl⟩
  ·have jL:x < 256:=by omega
   have hb2:decide ((256:Int)≤(x:Int))=false:=by rw [decide_eq_false_iff_not];omega
   have hn9:bQ x≤8:=ig jL;go_enter Tryz.func162,Tryz.ntmps162;go_wp2_with (with_reducible refine Hid.out (p:=wpList _ _ _ ({dst:=some 16,op:=_,type:=_,pos:=_,after:=_,guard:=_} ::_) _ _) ?_);refine aS<|wP _ rfl 9 _ _ rfl Tryz.underlying9 .u8 x rfl jL (by decide +kernel) ?_;go_wp2;go_ret;exact ⟨rfl,rfl⟩
theorem Zc(x:Nat)(w:World)(hx:x < 4294967296):
  Calls Tryz.prog 175 #[.int .u32 (x:Int)] w fun e w'=>e= .returned (.int .i64 ((32-bQ x:Nat):Int))∧w=w':=by
 have hn:=ig (n:=x) (k:=32) hx;go_enter Tryz.func175,Tryz.ntmps175;go_wp2_with fail;refine (JG x _ hx).mono ?_;rintro e w' ⟨rfl,rfl⟩;go_wp2;go_ret;exact ⟨iR (by omega),rfl⟩
/-- Bits: how many binary digits. -/
theorem Xi(ao:Option Addr)(n c:Nat)(xs:List Nat)(w:World)(hn:n≤1073741824)(hr:Rw .u32 bP w ao n c xs):
  Calls Tryz.prog 136 #[.slice ao n c] w fun e w'=>e= .returned (.int .i64 (bQ (val xs):Nat))∧w=w':=by
 go_enter Tryz.func136,Tryz.ntmps136;go_wp2_with fail;refine (gB ao n c xs _ (by omega) hr).mono ?_;rintro e w' ⟨n1,rfl,hn1,hp,rfl⟩
 by_cases h0:n1=0
 ·subst h0
  have hx0:val xs=0:=qI.1 (List.eq_nil_of_length_eq_zero hp.len);have HX:=aS hx0;clear hx0;go_wp2;go_ret;exact ⟨by rw [HX.out];rfl,rfl⟩
 ·obtain ⟨j,rfl⟩:∃ j,n1=j+1:=⟨n1-1,by omega⟩
  obtain ⟨b1,off1,x,rfl,hx,jL,hcx⟩:=hp.at (show j < j+1 by omega);have hx':x < 4294967296:=jL;have hx0:x≠0:=by
   rintro rfl;have h1:=(Gv oU (val xs)).2;rw [List.getLast?_eq_getElem?] at h1
   change (cO (val xs))[(cO (val xs)).length-1]?≠some 0 at h1
   rw [hp.len,Nat.add_sub_cancel] at h1;exact h1 hx
  have yh:bQ (val xs)=32*j+bQ x:=by
   have h1:=dh (val xs);have h2:=aQ bP hx;rw [bI _ hp.len] at h2
   change val (cO (val xs))=_ at h2
   rw [h1] at h2;refine tJ (l:=aI bP ((cO (val xs)).take j)) ?_ hx0 ?_
   ·have:=lX (B:=bP) (xs:=(cO (val xs)).take j) (fun x h=>CB _ x (List.mem_of_mem_take h))
    rw [List.length_take,hp.len,Nat.min_eq_left (by omega)] at this;rw [Nat.pow_mul];exact this
   ·rw [Nat.pow_mul];exact h2
  have HB:=aS yh;clear yh;have hnb:=ig (n:=x) (k:=32) hx';clear hx jL hx0;go_wp2_with fail;refine (JG x _ hx').mono ?_;rintro e w' ⟨rfl,rfl⟩;go_wp2;go_ret;exact ⟨iR (by rw [HB.out];simp;try omega),rfl⟩
theorem JI{B k j cy x y o R V V':Nat}{ps:List Nat}(ho:ps[k+j]?=some o)(hv:aI B ps+B^(k+j)*cy=R+B^k*(x*V)) 
  (hQ:V'=V+B^j*y):
  aI B (ps.set (k+j) ((o+cy+x*y)%B))+B^(k+(j+1))*((o+cy+x*y) / B)=R+B^k*(x*V'):=by
 have h1:=yM B ho ((o+cy+x*y)%B);have h2:=yI B (k+j) (o+cy+x*y);rw [Nat.mul_add,Nat.mul_add] at h2;have h3:B^k*(x*(V+B^j*y))=B^k*(x*V)+B^(k+j)*(x*y):=by rw [Nat.pow_add];grind
 rw [hQ,h3,← Nat.add_assoc];omega
theorem OT(x y:Nat)(hx:x≤9999)(hy:y≤9999):(x:Int)*(y:Int)≤99980001∧(0:Int)≤(x:Int)*(y:Int):=by
 have h:=Nat.mul_le_mul hx hy;rw [← Int.natCast_mul];omega
theorem Zi(ao bo:Option Addr)(n cp m d M N:Nat)(w:World)(hn:n≤1073741824)(hm:m≤1073741824)(hr:Rw .i64 B4 w ao n cp (aT M))(hs:Rw .i64 B4 w bo m d (aT N)):
  Calls Tryz.prog 118 #[.slice ao n cp,.slice bo m d] w fun e w'=>∃ ro k c',e= .returned (.slice ro k c')∧Rw .i64 B4 w' ro k c' (aT (M*N))∧k≤n+m∧qN w.heap.size w' ro c'∧Below w.heap.size w w':=by
 obtain ⟨P,hxs⟩:∃ xs,xs=aT M:=⟨_,rfl⟩
 obtain ⟨Q,hys⟩:∃ ys,ys=aT N:=⟨_,rfl⟩
 rw [← hxs] at hr;rw [← hys] at hs;have hl1:=hr.len;have hl2:=hs.len;have HA:=aS hxs;have HB:=aS hys;have J8:=aS hl1;have Nv:=aS hl2;clear hxs hys hl1 hl2;go_enter Tryz.func118,Tryz.ntmps118;go_wp2_with (at_make;refine Hid.out ?_);refine aS<|iW _ rfl _ _ 45 rfl 3 (.int .i64 0) 8 Tryz.underlying45 Tryz.infoInt rfl .i64 .i64 _ _ (n+m) rfl rfl (by omega) (by omega) (by omega) (by unfold maxLen;omega) fun w2 hblk hbelow hlt=>?_
 obtain ⟨G,hG⟩:∃ G,G=w.heap.size:=⟨_,rfl⟩
 rw [← hG] at hblk hlt hbelow ⊢;have HG:=aS hG;clear hG;rw [← dZ] at hblk;go_wp2_with fail;go_loopw [18] (fun s18 wr=>∃ (k:Nat) (os:List Nat),k≤n∧s18= .int .i64 k∧os.length=n+m∧(∀ o∈os,o < B4)∧(∀ j,k+m≤j→j < n+m→os[j]?=some 0)∧kC wr G 3 (dY .i64 os)∧Below G w wr∧
   aI B4 os=aI B4 (P.take k)*aI B4 Q) (fun s18 _=>n-(intOf s18).toNat)
 case atStart=>exact ⟨0,List.replicate (n+m) 0,Nat.zero_le _,rfl,by simp,(fun o ho=>by have:=(List.mem_replicate.1 ho).2;subst this;decide),(fun j _ hj=>by simp [hj]),hblk,hbelow,by simp [aI,jl]⟩
 case round=>
  obtain ⟨k,os,hk,rfl,hol,oz,hz,hb,hbe,hv⟩:=hrel;have HV:=aS hv;have HOL:=aS hol;have HZ:=aS hz;clear hv hol hblk hbelow hz;have hb0:=hb.lt
  by_cases hkn:k < n
  ·obtain ⟨b1,off1,x,rfl,hx,jL,hcx⟩:=(hr.ext (by rw [← HG.out];exact hbe)).at hkn
   have hx':x≤9999:=by have:x < 10000:=jL;omega
   have Hx:=aS hx;clear hx jL;have hp0:Rw .i64 B4 wr (some ⟨b1,off1,none⟩) n cp P:=hr.ext (by rw [← HG.out];exact hbe);clear hcx;go_wp2_with fail;obtain ⟨wo,rfl⟩:∃ wo:World,wo=wr:=⟨_,rfl⟩
   go_loopw [7,8] (fun s7 s8 wr=>∃ (j cy:Nat) (ps:List Nat),j≤m+1∧(j=m+1→cy=0)∧s8= .int .i64 j∧s7= .int .i64 cy∧cy≤9999∧ps.length=n+m∧(∀ o∈ps,o < B4)∧(∀ i,k+m≤i→k+j≤i→i < n+m→ps[i]?=some 0)∧kC wr G 3 (dY .i64 ps)∧Below G w wr∧
     aI B4 ps+B4^(k+j)*cy=aI B4 os+B4^k*(x*aI B4 (Q.take j))) (fun _ s8 _=>m+1-(intOf s8).toNat)
   case atStart=>exact ⟨0,0,os,Nat.zero_le _,fun h=>rfl,rfl,rfl,by omega,HOL.out,oz,fun i h1 _ h2=>HZ.out i h1 h2,hb,hbe,by simp [aI]⟩
   case round=>
    obtain ⟨j,cy,ps,hj,hjc,rfl,rfl,hcy,hpl,Yt,hpz,hb,hbe,hv⟩:=hrel;have Nw:=aS hv;have EM:=aS hpl;have HPZ:=aS hpz;have HJC:=aS hjc;clear hv hpl hpz hjc;obtain ⟨x2,hx2,_,hcx⟩:=(hr.ext (by rw [← HG.out];exact hbe)).cell hkn;obtain rfl:x=x2:=by have h:=Hx.out;rw [hx2] at h;exact (Option.some.inj h).symm
    clear hx2
    by_cases hjm:j < m
    ·obtain ⟨b2,off2,y,rfl,hy,hyB,Vf⟩:=(hs.ext (by rw [← HG.out];exact hbe)).at hjm
     have hy':y≤9999:=by have:y < 10000:=hyB;omega
     have Hy:=aS hy;clear hy hyB;have hrow:=hb.rw Yt;rw [EM.out] at hrow;obtain ⟨o,ho,QW,hco⟩:=hrow.cell (j:=k+j) (by omega);have dX:o≤9999:=by have:o < 10000:=QW;omega
     rw [Nat.zero_add] at hco;have Ho:=aS ho;clear ho QW hrow;have hfree:=hb.free (k+j);obtain ⟨ajl,hm2⟩:=OT x y hx' hy';have hmn:=Nat.mul_le_mul hx' hy';have HMN:=aS hmn;clear hmn;go_upto_region 11 with (fail);go_quiet (fail);go_wp2;go_roundw
     case rel=>
      have hv:=(hb.drewN 1).set (k+j) (.int .i64 (((o+cy+x*y)%10000:Nat):Int));rw [fD] at hv;have e0:((o+cy+x*y:Nat):Int)=(o:Int)+cy+x*y:=by simp
      refine ⟨j+1,(o+cy+x*y) / 10000,ps.set (k+j) ((o+cy+x*y)%10000),by omega,fun h=>absurd h (by omega),by go_num,?_,?_,by rw [List.length_set];exact EM.out,dH Yt (Nat.mod_lt _ (by decide)) _,?_,?_,?_,?_⟩
      ·rw [← e0];rfl
      ·have:=HMN.out;omega
      ·intro i h1 h2 h3
       rw [List.getElem?_set_ne (by omega)];exact HPZ.out i h1 (by omega) h3
      ·have e1:((o:Int)+cy+x*y)%10000=(((o+cy+x*y)%10000:Nat):Int):=by rw [← e0];rfl
       rw [e1];exact hv
      ·exact (iV hbe _).setCell (Nat.le_refl _) _
      ·exact JI Ho.out Nw.out (aQ _ Hy.out)
     case measure=>simp [intOf];omega
    ·have hqm:aI B4 (Q.take (j+1))=aI B4 (Q.take j):=iy _ (by rw [Nv.out];omega)
     have HQM:=aS hqm;clear hqm
     by_cases hc0:0 < cy
     ·obtain rfl:j=m:=by
       have h:=HJC.out;have:¬ j=m+1:=fun h2=>by have:=h h2;omega
       omega
      have hrow:=hb.rw Yt;rw [EM.out] at hrow;obtain ⟨o,ho,QW,hco⟩:=hrow.cell (j:=k+j) (by omega);have h00:=HPZ.out (k+j) (Nat.le_refl _) (Nat.le_refl _) (by omega);obtain rfl:o=0:=by rw [h00] at ho;exact (Option.some.inj ho).symm
      rw [Nat.zero_add] at hco;have Ho:=aS ho;clear ho QW hrow h00;have hfree:=hb.free (k+j);have hd:decide (j < j)=false:=by simp
      go_wp2;go_roundw
      case rel=>
       have hv:=hb.set (k+j) (.int .i64 (((0+cy+x*0)%10000:Nat):Int));rw [fD] at hv;have e2:(0+cy+x*0)%10000=cy:=by omega
       have e3:(0+cy+x*0) / 10000=0:=by omega
       refine ⟨j+1,(0+cy+x*0) / 10000,ps.set (k+j) ((0+cy+x*0)%10000),by omega,fun _=>e3,by go_num,?_,?_,by rw [List.length_set];exact EM.out,dH Yt (Nat.mod_lt _ (by decide)) _,?_,?_,?_,?_⟩
       ·congr 1;try omega
       ·omega
       ·intro i h1 h2 h3
        rw [List.getElem?_set_ne (by omega)];exact HPZ.out i h1 (by omega) h3
       ·rw [e2] at hv ⊢
        have e4:(cy:Int)%10000=(cy:Int):=by omega
        first | exact hv | (rw [e4];exact hv)
       ·exact hbe.setCell (Nat.le_refl _) _
       ·exact JI Ho.out Nw.out (by rw [HQM.out];simp)
      case measure=>(simp [intOf])
     ·obtain rfl:cy=0:=by omega
      have hd:decide (j < m)=false:=by rw [decide_eq_false_iff_not];omega
      go_wp2;go_roundw
      case rel=>
       refine ⟨k+1,ps,by omega,by go_num,EM.out,Yt,fun i h1 h2=>HPZ.out i (by omega) (by omega) h2,hb,hbe,?_⟩;have h2:=Nw.out;rw [List.take_of_length_le (l:=Q) (by rw [Nv.out];omega),HV.out] at h2;rw [aQ _ Hx.out];have h4:(aI B4 (P.take k)+B4^k*x)*aI B4 Q=aI B4 (P.take k)*aI B4 Q+B4^k*(x*aI B4 Q):=by grind
       omega
      case measure=>simp [intOf];omega
  ·obtain rfl:k=n:=by omega
   go_wp2_with fail;have hrow:=hb.rw oz;rw [HOL.out] at hrow;refine (vg _ _ _ _ _ (by omega) hrow).mono ?_;rintro e w' ⟨r1,rfl,hr1',hres,rfl⟩;go_wp2;go_ret;refine ⟨_,_,_,rfl,?_,hr1',by rw [← HG.out];exact hb.own (Nat.le_refl _) (by rw [bK,HOL.out];exact Nat.le_refl _),by rw [← HG.out];exact hbe⟩;have hval:jJ os=M*N:=by
    have h2:=HV.out;rw [bI _ J8.out,HA.out,HB.out] at h2
    change jJ os=jJ (aT M)*jJ (aT N) at h2
    rw [dN,dN] at h2;exact h2
   rw [← hval];exact hres
/-- Within: any number as one from 0 to n - 1. -/
theorem RQ(v:Int)(n:Nat)(w:World)(hn:1≤n)(hn2:n≤1000000)(hv1: -9223372036854775808≤v)(hv2:v≤9223372036854775807):
  Calls Tryz.prog 20 #[.int .i64 v,.int .i64 (n:Int)] w fun e w'=>e= .returned (.int .i64 (v%(n:Int)))∧w=w':=by
 have hn0:((n:Int)==0)=false:=by rw [beq_eq_false_iff_ne];omega
 obtain ⟨t,ht⟩:∃ t,t=v.tmod (n:Int):=⟨_,rfl⟩
 have hte:v.tmod (n:Int)=t:=ht.symm;have hb1: -(n:Int) < t∧t < n:=by
  have h1:=Int.tmod_lt_of_pos v (show (0:Int) < n by omega);have h2:=Int.lt_tmod_of_pos v (show (0:Int) < n by omega);omega
 have hem:v%(n:Int)=if t < 0 then t+n else t:=by
  have hv:v=t+n*(v.tdiv n):=by rw [ht];exact (Int.tmod_add_mul_tdiv v n).symm
  rw [hv,Int.add_mul_emod_self_left];split
  ·have h3:t%(n:Int)=(t+n)%(n:Int):=by simp
   rw [h3,Int.emod_eq_of_lt (by omega) (by omega)]
  ·rw [Int.emod_eq_of_lt (by omega) (by omega)]
 have HEM:=aS hem;clear hem ht;obtain ⟨hb1,hb2⟩:=hb1
 by_cases ht0:t < 0
 ·have hd:decide (t < 0)=true:=by simpa using ht0
  by_cases hv0:0≤v
  ·exfalso
   have:=Int.tmod_nonneg (n:Int) hv0;omega
  ·go_enter Tryz.func20,Tryz.ntmps20
   go_wp2;go_ret;exact ⟨iR (by rw [HEM.out,if_pos (by omega)]),rfl⟩
 ·have hd:decide (t < 0)=false:=by simpa using ht0
  by_cases hv0:0≤v
  ·have hvt:v%(n:Int)=t:=by rw [← hte,Int.tmod_eq_emod_of_nonneg hv0]
   clear HEM;go_enter Tryz.func20,Tryz.ntmps20;go_wp2;go_ret;exact ⟨rfl,rfl⟩
  ·go_enter Tryz.func20,Tryz.ntmps20
   go_wp2;go_ret;exact ⟨iR (by rw [HEM.out,if_neg (by omega)]),rfl⟩
end Go.Proofs.YtapmpcgekdplfaaGreat
