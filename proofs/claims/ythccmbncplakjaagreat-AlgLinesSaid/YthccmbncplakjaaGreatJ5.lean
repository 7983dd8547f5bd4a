/-
  Laws of the program's functions by an abstract machine, part 5 of the proof of AlgLines: joined, short spelling. No condition.
-/
import Derived.Test.YthccmbncplakjaaGreatJ4
set_option linter.unusedVariables false
set_option linter.unusedSimpArgs false
set_option maxRecDepth 100000
set_option maxHeartbeats 4000000
namespace Go.Proofs.YthccmbncplakjaaGreat
open Go.RowKit
theorem qb_int{K:Nat}{z:Int}(h:z.natAbs < B4^K)(hK:1≤K):Qb K (z:Rat):=⟨by rw [Rat.num_intCast];exact h,by rw [Rat.den_intCast];exact Nat.lt_of_lt_of_le (by decide) (Nat.pow_le_pow_right (show 0 < B4 by decide) hK)⟩
theorem leo_qt{t:TypeId}{M K:Nat}{x y:Rat}(h:x=y)(hz:Qb K y):AO.le (.box t (qn M x)) (.box t (qn K y)):=by subst h;exact leo_box (qn_tight hz)
theorem Db.fder{K:Nat}{c:Nat→Int}(h:Db K c)(z:z20 c):Db (K+1) (fder c):=fun i=>by
  unfold Go.Proofs.YthccmbncplakjaaGreat.fder
  by_cases hi:i+1 < 20
  · have h1:=h (i+1)
    have e:∀ x:Nat,x*B4=x*10000:=fun _=>rfl
    rw [Int.natAbs_mul,Nat.pow_succ,e];have h2:((c (i+1)).natAbs*(((i+1:Nat):Int)).natAbs)≤(c (i+1)).natAbs*20:=Nat.mul_le_mul_left _ (show i+1≤20 by omega);omega
  · rw [z (i+1) (by omega)];simp;exact Nat.pow_pos (by decide)
theorem conv_db{a b:Nat→Int}{K L:Nat}(za:z20 a)(ha:Db K a)(hb:Db L b):Db (K+L+1) (conv a b):=by
  have key:∀ j m,m≤20→(cv a b m j).natAbs≤m*B4^(K+L):=by
    intro j m
    induction m with
    | zero=>intro _;exact Nat.zero_le _
    | succ m ih=>
      intro hm;have h1:=ih (by omega);show (cv a b m j+(if m≤j then a m*b (j-m) else 0)).natAbs≤_
      rw [Nat.succ_mul];have h2:(if m≤j then a m*b (j-m) else 0).natAbs≤B4^(K+L):=by
        split
        · exact Nat.le_of_lt (b4_mul (ha m) (hb (j-m)))
        · exact Nat.zero_le _
      omega
  have more:∀ j d,cv a b (20+d) j=cv a b 20 j:=by
    intro j d
    induction d with
    | zero=>rfl
    | succ d ih=>
      show cv a b (20+d) j+(if 20+d≤j then a (20+d)*b (j-(20+d)) else 0)=_
      rw [ih,za (20+d) (by omega)];simp
  intro j;have h2:(conv a b j).natAbs≤20*B4^(K+L):=by
    unfold conv
    by_cases hj:j+1≤20
    · exact Nat.le_trans (key j (j+1) hj) (Nat.mul_le_mul_right _ hj)
    · obtain ⟨d,hd⟩:∃ d,j+1=20+d:=⟨j+1-20,by omega⟩
      rw [hd,more];exact key j 20 (Nat.le_refl _)
  have h3:=Nat.pow_pos (n:=K+L) (show 0 < B4 by decide);have e:∀ x:Nat,x*B4=x*10000:=fun _=>rfl
  rw [Nat.pow_succ,e];omega
theorem trn_db{w:Nat→Int}{K:Nat}(h:Db K w)(j:Nat):Db K (trn w j):=fun t=>by
  unfold trn;split
  · exact h t
  · exact Nat.pow_pos (by decide)
theorem exq_db{w d:Nat→Int}{K L:Nat}(zw:z20 w)(hw:Db K w)(hd:Db L d)(j:Nat):Db (K+L+1) (exq w d j):=conv_db (trn20 zw j) (trn_db hw j) hd
theorem ex_top(q d:Nat→Int):∀ j:Nat,(∃ i,i < j∧q i≠0∧exq q d j=exq q d (i+1)∧upq q j=upq q (i+1))∨(exq q d j=exq q d 0∧upq q j=upq q 0)
  | 0=>Or.inr ⟨rfl,rfl⟩
  | j+1=>by
    by_cases h:q j=0
    · rcases ex_top q d j with ⟨i,h1,h2,h3,h4⟩ | ⟨h3,h4⟩
      · exact Or.inl ⟨i,by omega,h2,(exq_skip h).trans h3,(upq_skip h).trans h4⟩
      · exact Or.inr ⟨(exq_skip h).trans h3,(upq_skip h).trans h4⟩
    · exact Or.inl ⟨j,by omega,h,rfl,rfl⟩
theorem exq_0(q d:Nat→Int)(t:Nat):exq q d 0 t=0:=conv_l0 (fun i=>trn_z i (Nat.zero_le _)) t
section
variable {P:Program} {ops:Array Oper} {Q:Qs} {s:AS}
theorem anyCut{n:Nat}{listed:Array Bool}(n':Nat)(listed':Array Bool)(s':AS)(h:AnyA P ops Q n' listed' s')(k:AnyA P ops Q n' listed' s'→AnyA P ops Q n listed s):AnyA P ops Q n listed s:=k h
theorem anyW{n:Nat}{listed:Array Bool}{s':AS}{r:Nat}{rs:List Nat}(hr:Region.ready .any ops listed=r ::rs)(hw:Wk s s')(h:AnyA P ops Q (n+1) listed s'):AnyA P ops Q (n+1) listed s:=by
  unfold AnyA;unfold AnyA at h;refine ⟨fun e=>absurd (hr.symm.trans e) (by simp),fun i hi=>?_⟩;obtain ⟨o,ho,hal⟩:=h.2 i hi;exact ⟨o,ho,hal.wk hw⟩
end
section
variable {P:Program} {ops:Array Oper} {Q:Qs} {s:AS} {o:Oper}
def AnyB(P:Program)(ops:Array Oper)(Q:Qs)(n:Nat)(listed:Array Bool)(s:AS):Prop:=∀ B0 w0 a w,Den s B0 w0 a w→wpAny P .any ops (DQ Q B0 w0) n listed a w
theorem bOf{n:Nat}{listed:Array Bool}(h:AnyA P ops Q n listed s):AnyB P ops Q n listed s:=fun B0 w0 a w hd=>any_sound n listed s a w h hd
theorem cAnyB{id:Nat}{l:List Oper}(hm:P.follows .mixedOrders=true)(h:AnyB P l.toArray Q l.length (Array.replicate l.length false) s):AW P (.region id l.toArray true) Q s:=by
  intro B0 w0 a w hd;refine wp_region_any hm ?_;have hd':Den s B0 w0 a {w with drawn:=w.drawn+1}:=by
    obtain ⟨ρ,hc,hn,hdf,hs⟩:=hd;have hK:Keep (Bd ρ B0) w w.drew:=⟨Nat.le_refl _,fun _ _ _=>rfl⟩;exact ⟨ρ,⟨hc.bel.drew,hc.b0,fun id v hv=>let ⟨ob,h1,h2⟩:=hc.obj id v hv;⟨ob,h1,h2.mv hK (fun _ _ hB=>hB) (fun _ _=>rfl)⟩,hc.dist⟩,hn,hdf,fun t av ht=>let ⟨v,h1,h2⟩:=hs t av ht;⟨v,h1,AR.mv hK (fun _ _ hB=>hB) (fun _ _=>rfl) h2⟩⟩
  have:=h B0 w0 a _ hd';rwa [show l.length=l.toArray.size from rfl] at this
def EvP(P:Program)(s:AS)(o:Oper)(av:AV):Prop:=∀ (ρ:Rho) (B:BS) (w:World) (a:Act),(∀ x∈o.op.operands,∀ av',geto s x=some av'→AR ρ B w av' (a.eval x))→∃ v,(∀ w',(execOp a.eval o).run P w'= .ok (.value v) w')∧AR ρ B w av v
theorem bTake{n:Nat}{listed:Array Bool}{av:AV}(i:Nat)(hi:ops[i]?=some o)(hs:Region.noSelect ops=true)(hf:Region.free .any ops listed i=true)(hr:(Region.ready .any ops listed).contains i=true)(hP:∀ c s,¬ Q (.panic c) s)(hg:o.guard=none)(hd:dok o.dst s.n=true)(h:EvP P s o av)(k:AnyB P ops Q n (listed.setIfInBounds i true) (s.put o.dst av)):AnyB P ops Q (n+1) listed s:=by
  rintro B0 w0 a w ⟨ρ,hc,hn,hdf,hsl⟩;obtain ⟨v,hv,hav⟩:=h ρ (Bd ρ B0) w a (fun x hx av' hg=>geto_ok hsl hg);refine wpAny_take hi hs hf hr ?_ (Or.inl ⟨by unfold Region.wanted;rw [hg],hv⟩) (k B0 w0 _ w (den_put hc hn hdf hsl hd hav));rintro c a' w' ⟨s',hq,_⟩;exact absurd hq (hP c s')
theorem pMove{x:Operand}{av:AV}(hop:o.op= .move x)(hx:geto s x=some av):EvP P s o av:=fun ρ B w a ho=>⟨a.eval x,fun w'=>by {unfold execOp;rw [hop];rfl},ho x (by rw [hop];simp [Op.operands]) _ hx⟩
theorem pLen{c:Call}{t e:TypeId}{x:Operand}{sz n:Nat}{el:Nat→Nat→Lf}(hop:o.op= .call c)(hc:c.callee= .builtin .len)(ha:c.args.toList= [x])(ht:c.argTypes[0]?=some t)(hu:P.underlying t=some (.slice e))(hx:geto s x=some (.d (.one (.row sz n el)))):EvP P s o (.d (.one (.v (.int .i64 (n:Int))))):=by
  intro ρ B w a ho;obtain ⟨ad,cap,hxe,_⟩:=(ho x (by rw [hop];simp only [Op.operands,Call.operands];exact Array.mem_append.2 (Or.inr (by have:x∈c.args.toList:=(by rw [ha];simp);simpa using this))) _ hx:LfR _ _ _ _);refine ⟨.int .i64 (n:Int),fun w'=>?_,rfl,rfl⟩;have ha':c.args=#[x]:=by rw [← Array.toList_inj];simpa using ha
  unfold execOp;rw [hop];simp [resolve,hc,ha',invoke,builtin,Builtin.len_,ht,hxe,run_underlying hu,goInt]
end
theorem bndK{s:AS}{x:Operand}{k:IntKind}{n d:Nat}(h:ints2 s x=some (k,(n:Int))):bndV s (some x) d=some n:=by
  unfold bndV;simp only [h];show (if 0≤((n:Nat):Int) then some ((n:Nat):Int).toNat else none)=some n
  rw [if_pos (by omega)];rfl
theorem bnd_e{P:Program}{s:AS}{ρ:Rho}{B:BS}{w:World}{a:Act}{x:Operand}{d r y:Nat}{code:BoundsCode}(h:bndV s (some x) d=some r)(hy:r≤y)(hs:∀ av',geto s x=some av'→AR ρ B w av' (a.eval x))(w':World):(Instr.sliceBound (a.eval x) y code).run P w'= .ok r w':=by
  unfold bndV at h;simp only at h;split at h
  · rename_i k z hx
    split at h
    · rename_i hz
      cases h
      have he:=ints2_x hx hs;have hzy:0≤z∧z≤(y:Int):=⟨hz,by omega⟩;simp [Instr.sliceBound,he,asIntOf,hzy]
    · cases h
  · cases h
theorem pSl3{P:Program}{T:TypeId→Option TI}(hT:TOk P T){o:Oper}{s:AS}{t e:TypeId}{x y y':Operand}{ti te:TI}{sz n h m:Nat}{el:Nat→Nat→Lf}(hop:o.op= .slice t x none (some y) (some y'))(hti:T t=some ti)(he:ti.elem=some e)(hte:T e=some te)(hx:geto s x=some (.d (.one (.row sz n el))))(h6:Nat.beq sz te.n=true)(hhi:bndV s (some y) n=some h)(hmx:bndV s (some y') n=some m)(h1:h≤m)(h2:m≤n):EvP P s o (.d (.one (.row sz h el))):=by
  intro ρ B w a ho;have h6':=Nat.eq_of_beq_eq_true h6;subst h6';obtain ⟨ad,cap,hxe,hn,hnil,hel⟩:=(ho x (by rw [hop];simp [Op.operands]) _ hx:LfR _ _ _ _);obtain ⟨i,z,dd,g1,g2,g3,g4,g5,g6,g7,g8,g9,_⟩:=ti_parts (hT _ _ hti);have:=g9 e he;subst this;obtain ⟨i',zz',dd',k1,k2,k3,k4,_⟩:=ti_parts (hT _ _ hte);have b1:∀ w:World,(Instr.sliceBound (a.eval y') cap .slice3Acap).run P w= .ok m w:=bnd_e hmx (by omega) (ho y' (by rw [hop];simp [Op.operands]))
  have b2:∀ w:World,(Instr.sliceBound (a.eval y) m .slice3B).run P w= .ok h w:=bnd_e hhi h1 (ho y (by rw [hop];simp [Op.operands]))
  have hb:∀ w:World,(Instr.sliceBounds true n cap none (some (a.eval y)) (some (a.eval y'))).run P w= .ok (0,h,m) w:=by
    intro w;simp [Instr.sliceBounds,b1 w,b2 w]
  refine ⟨.slice (if m=0 then ad else ad.map (·.add (0*te.n))) (h-0) (m-0),?_,if m=0 then ad else ad.map (·.add (0*te.n)),m-0,rfl,by omega,fun hnone=>?_,fun q hq=>?_⟩
  · intro w'
    unfold execOp;rw [hop];refine run_value ?_;rw [hxe];simp only [Instr.sliceAt,Instr.slice,Sem.run_bind,run_underlying g3,Result.andThen_ok,sizeOf,typeInfo,run_program,k1,Sem.run_pure,Option.map_none,Option.map_some];rw [hb w'];simp [k4]
  · cases ad with
    | none=>have:=hnil rfl;omega
    | some q=>
      by_cases hc':m=0
      · omega
      · rw [if_neg hc'] at hnone;cases hnone
  · have hc':¬ m=0:=by omega
    rw [if_neg hc'];obtain ⟨b,off,rfl,hb1,hb2,hb3⟩:=hel q (by omega);exact ⟨b,off,by simp [add_lit],hb1,hb2,fun j hj=>hb3 j hj⟩
structure ACallR(P:Program)(f:FuncId)(args:List DV)(e:TypeId)(sz n:Nat)(el:Nat→Nat→Lf):Prop where
  en:∀ vs w,(callFunc f vs).run P w= .ok (.enter f vs) w
  go:∀ (B:BS) (w:World) (vs:List Value),(∀ b,B b→b < w.heap.size)→DsR B w args vs→Calls P f vs.toArray w fun r w'=>∃ v,r= .returned v∧Below w.heap.size w w'∧OR (fun b=>B b∨vblk v=some b) w w' (.row e sz n el) v
theorem ownsRow_base{w:World}{b b':Nat}{e:TypeId}{sz n:Nat}{v:Value}{xs:List Value}(h:w.ownsRow b e sz v n xs)(hb:b'≤b):w.ownsRow b' e sz v n xs:=by
  obtain ⟨h1,h2 | ⟨g,cap,cur,h3,h4,h5⟩⟩:=h
  · exact ⟨h1,Or.inl h2⟩
  · exact ⟨h1,Or.inr ⟨g,cap,cur,h3,Nat.le_trans hb h4,h5⟩⟩
theorem mCR{P:Program}{ops:Array Oper}{Q:Qs}{o:Oper}{l:List Oper}{s:AS}{c:Call}{f:FuncId}{ds:List DV}{e:TypeId}{sz n d:Nat}{el:Nat→Nat→Lf}(h:ACallR P f ds e sz n el)(hc:callOf o.op=some c)(hf:isF c.callee=some f)(ha:getds s c.args.toList=some ds)(hdst:o.dst=some d)(hfr:lk s.hp d=none) 
    (k:AL P ops Q l (s.mk' d (.row e sz n el))) (hg:gst ops s o=some true:=by rfl) (hd:dok (some d) s.n=true:=by rfl):AL P ops Q (o ::l) s:=by
  rintro B0 w0 a w ⟨ρ,hcr,hn,hdf,hs⟩;obtain ⟨vs,hvs,hr⟩:=run_call (cap:= []) hs hc (isF_fn hf) ha h.en;rw [List.append_nil] at hvs;refine wpl_call (gst_ok hg hs) hr ((h.go (Bd ρ B0) w vs hcr.bdlt hvs).mono ?_);rintro r w' ⟨v,rfl,hb,xs,hown,hel⟩;refine ⟨v,rfl,?_⟩;have hρ:ρ d=none:=by
    cases hρ:ρ d with
    | none=>rfl
    | some u=>obtain ⟨ob',h1,_⟩:=hcr.obj d u hρ;rw [hfr] at h1;cases h1
  have hv:∀ b,vblk v=some b→w.heap.size≤b:=by
    obtain ⟨_,⟨rfl,_⟩ | ⟨g,cap,cur,rfl,h4,_⟩⟩:=hown
    · intro b e;cases e
    · intro b e;cases e;exact h4
  have hB:∀ b,Bd (up ρ d v) B0 b→Bd ρ B0 b∨vblk v=some b:=by
    rintro b (h1 | ⟨id,u,h1,h2⟩)
    · exact Or.inl (Or.inl h1)
    · unfold up at h1
      split at h1
      · cases h1;exact Or.inr h2
      · exact Or.inl (Or.inr ⟨id,u,h1,h2⟩)
  have ho':OR (Bd (up ρ d v) B0) w0 w' (.row e sz n el) v:=⟨xs,ownsRow_base hown hcr.bel.size,fun i j hi hj=>let ⟨x,hx,hl⟩:=hel i j hi hj;⟨x,hx,LfR.mv ⟨Nat.le_refl _,fun _ _ _=>rfl⟩ (fun b _ hb=>hB b hb) _ hl⟩⟩;have hc':Core (up ρ d v) B0 w0 w' ((d,.row e sz n el) ::s.hp):=hcr.new hρ hb hv (fun k ob' hk hne=>by rw [lk_cons,if_neg (fun e=>hne e.symm)];exact hk) (by rw [lk_cons,if_pos rfl]) ho';have hs':Slots (up ρ d v) (Bd (up ρ d v) B0) w' s.sl a:=fun t av ht=>let ⟨u,h1,h2⟩:=hs t av ht;⟨u,h1,h2.new hρ hb hv⟩
  refine k B0 w0 _ w' ?_;rw [hdst];exact ⟨_,hc',(by show (a.tmps.setIfInBounds d v).size=s.n;simpa using hn),hdf,slots_put hs' hn (Nat.le_of_ble_eq_true hd) (AO.av_ok ho' (by simp [up]))⟩
def RetR(t:Nat)(r:AO):Qs
  | .normal,s | .ret,s=>∃ id ob,lk s.sl t=some (.own id)∧lk s.hp id=some ob∧AO.le ob r
  | _,_=>False
theorem rR{t:Nat}{r:AO}{s:AS}(id:Nat){ob:AO}(h:lk s.sl t=some (.own id))(k:lk s.hp id=some ob)(hl:AO.le ob r):RetR t r .ret s:=⟨id,ob,h,k,hl⟩
theorem acallR{P : Program}{T : TypeId → Option TI}(hT : TOk P T){f : FuncId}{fn : Func}{c : Code}{args : List DV}{e : TypeId}{sz m : Nat}{el : Nat → Nat → Lf}(n t : Nat)(hf : P.funcs[f]? = some fn)(hb : fn.body = some c)(hnm : (fn.name == "runtime.NumGoroutine") = false)(hn : fn.ntmps = n)(hrs : fn.results.toList = [.tmp t])(hlen : Nat.ble args.length n = true) 
    (h:AW P c (RetR t (.row e sz m el)) ⟨n,params 0 args,[]⟩):ACallR P f args e sz m el:=by
  subst hn;refine ⟨fun vs w=>?_,fun B w vs hB hvs=>?_⟩
  · have hnm' : ¬ fn.name = "runtime.NumGoroutine" := by simpa using hnm
    simp [callFunc,hf,hb,hnm']
  · refine calls_of_wp hf hb ?_
    have hle:=Nat.le_of_ble_eq_true hlen;have hvl:=hvs.len;have hden:Den ⟨fn.ntmps,params 0 args,[]⟩ B w {tmps:=vs.toArray ++Array.replicate (fn.ntmps-vs.toArray.size) undef,defers:= []} w:=by
      have hBd:∀ b,b < w.heap.size→Bd (fun _=>none) B b→B b:=by
        rintro b _ (h | ⟨_,_,h,_⟩)
        · exact h
        · cases h
      refine ⟨fun _=>none,⟨Below.refl _ _,hB,(fun _ _ h=>by cases h),(fun _ _ _ _ _ h=>by cases h)⟩,by simp;omega,rfl,fun t av ht=>?_⟩;have hvs':DsR (Bd (fun _=>none) B) w args vs:=hvs.mv ⟨Nat.le_refl _,fun _ _ _=>rfl⟩ hBd;obtain ⟨k,v,h1,h2,h3⟩:=params_lk (ρ:=fun _=>none) hvs' ht;refine ⟨v,?_,h3⟩;have hk:=(List.getElem?_eq_some_iff.1 h2).1;rw [h1,Nat.zero_add,Array.getElem?_append_left (by simpa using hk)];simpa using h2
    refine Code.wp_mono (fun e' a w' hq=>?_) (h B w _ w hden);obtain ⟨s',hq,ρ,hc,hn,hdf,hs⟩:=hq;have fin:(∃ id ob,lk s'.sl t=some (.own id)∧lk s'.hp id=some ob∧AO.le ob (.row e sz m el))→∃ v,(results fn a.tmps).run P w'= .ok v w'∧∃ u,Ending.returned v= .returned u∧Below w.heap.size w w'∧OR (fun b=>B b∨vblk u=some b) w w' (.row e sz m el) u:=by
      rintro ⟨id,ob,h1,h2,h3⟩;obtain ⟨v,h4,h5,_⟩:=hs t _ h1;obtain ⟨ob',h6,h7⟩:=hc.obj id v h5;rw [h2] at h6;cases h6
      have h8:=h3 _ _ _ _ h7;refine ⟨resV [v],run_results ?_,v,rfl,hc.bel,h8.mv ⟨Nat.le_refl _,fun _ _ _=>rfl⟩ (fun b _ hb=>?_) (fun _ _=>rfl)⟩
      · rw [hrs]
        have hv:(rvF a.tmps (.tmp t)).run P w'= .ok v w':=by simp [rvF,Array.getD_eq_getD_getElem?,h4]
        rw [List.mapM_cons,Sem.run_bind,hv,Result.andThen_ok];rfl
      · rcases hb with hb | hb
        · exact Or.inl hb
        · exact Or.inr ⟨id,v,h5,hb⟩
    cases e' with
    | normal=>obtain ⟨v,h1,h2⟩:=fin hq;exact ⟨hdf,v,h1,h2⟩
    | ret=>obtain ⟨v,h1,h2⟩:=fin hq;exact ⟨hdf,v,h1,h2⟩
    | exit id=>exact hq.elim
    | goto l=>exact hq.elim
    | panic ch=>exact hq.elim
    | outgrown=>exact hq.elim
section
variable {P:Program} {ops:Array Oper} {Q:Qs} {s:AS}
theorem anyV{n:Nat}{listed:Array Bool}{s':AS}(h:AnyA P ops Q (n+1) listed s')(r:Nat)(rs:List Nat)(hr:Region.ready .any ops listed=r ::rs)(hw:Wk s s'):AnyA P ops Q (n+1) listed s:=anyW hr hw h
end
theorem dg_scl{d:Nat→Int}{z:Int}(zd:z20 d)(h0:lg d≠0)(hz:z≠0):dg (fsclQ (rc d) ((z:Int):Rat)) (lg d)=lg d:=dg_stop (Or.inr (by
  show ((d (lg d-1):Int):Rat)*((z:Int):Rat)≠0
  intro e
  rcases Rat.mul_eq_zero.1 e with e | e
  · exact rc_ne (lg_ne h0) e
  · exact rc_ne hz e))
theorem conv_mz(x:Int)(i:Nat){d:Nat→Int}{n:Nat}(h:∀ t,n≤t→d t=0):∀ t,i+n≤t→conv (mnm x i) d t=0:=fun t ht=>by
  rw [conv_mnm,if_pos (by omega),h (t-i) (by omega),Int.mul_zero]
theorem shq_le{K M X i n:Nat}{x:Int}{d:Nat→Int}(h1:K≤X)(h2:M≤X):∀ t,t < i+n→∀ j,j < 4→∀ B w v,LfR B w (appEl i (qel K (fun _=>0)) (qel M (fsclQ (rc d) ((x:Int):Rat))) t j) v→LfR B w (qel X (rc (conv (mnm x i) d)) t j) v:=fun t ht j hj B w v hv=>by
  unfold appEl at hv
  by_cases hti:t < i
  · rw [show Nat.ble (t+1) i=true from Nat.ble_eq_true_of_le hti] at hv
    exact qel_le (n:=t+1) (c:=fun _=>0) h1 (fun p hp=>by show (0:Rat)=((conv (mnm x i) d p:Int):Rat);rw [conv_mnm,if_neg (by omega)];rfl) t (by omega) j hj B w v hv
  · rw [show Nat.ble (t+1) i=false from by rw [← Bool.not_eq_true,Nat.ble_eq];omega] at hv
    have e:qel M (fsclQ (rc d) ((x:Int):Rat)) (t-i) j=qel M (rc (conv (mnm x i) d)) t j:=by
      have e2:fsclQ (rc d) ((x:Int):Rat) (t-i)=rc (conv (mnm x i) d) t:=by
        show ((d (t-i):Int):Rat)*((x:Int):Rat)=((conv (mnm x i) d t:Int):Rat)
        rw [conv_mnm,if_pos (by omega),Rat.intCast_mul];exact Rat.mul_comm _ _
      unfold qel;rw [e2]
    rw [show (bif false then qel K (fun _=>0) t j else qel M (fsclQ (rc d) ((x:Int):Rat)) (t-i) j)=qel M (rc (conv (mnm x i) d)) t j from e] at hv;exact qel_le (n:=t+1) h2 (fun _ _=>rfl) t (by omega) j hj B w v hv
theorem sub_le{K KC N i:Nat}{q d:Nat→Int}(zi:z20 (exq q d i))(bi:Db KC (exq q d i))(hK:1≤KC)(hN:∀ t,N≤t→exq q d i t=0):AV.le (.d (.one (qrow K (dg (faddQ (rc (exq q d (i+1))) (fsclQ (rc (conv (mnm (q i) i) d)) ((-1:Int):Rat))) N) (faddQ (rc (exq q d (i+1))) (fsclQ (rc (conv (mnm (q i) i) d)) ((-1:Int):Rat)))))) (.d (.one (qrow KC (lg (exq q d i)) (rc (exq q d i))))):=by
  have e:faddQ (rc (exq q d (i+1))) (fsclQ (rc (conv (mnm (q i) i) d)) ((-1:Int):Rat))=rc (exq q d i):=funext fun t=>by
    show ((exq q d (i+1) t:Int):Rat)+((conv (mnm (q i) i) d t:Int):Rat)*((-1:Int):Rat)=((exq q d i t:Int):Rat)
    rw [exq_succ,Rat.intCast_add,show ((-1:Int):Rat)= -1 from rfl];grind
  rw [e];exact le_dg_t (lg_dg2 hN zi) hK bi
theorem aQDiv{K L Kq KC:Nat}{c d q:Nat→Int}(zc:z20 c)(zd:z20 d)(hc19:lg c≤19)(h0:lg d≠0)(zq:z20 q)(bq:Db Kq q)(hq:∀ i,conv q d i=c i)(hKC:Kq+L+1≤KC)(hK:K≤KC)(h64:64≤KC)(hq1:1≤Kq)(hC:KC≤1000000):ACall Tryz.prog 159 [.one (qrow K (lg c) (rc c)),.one (qrow L (lg d) (rc d))] (.tup [.one (qrow Kq (lg q) (rc q)),.one (qrow KC (lg (exq q d 0)) (rc (exq q d 0)))]):=by
  refine ACall.fact10 (enters Tryz.func159 rfl rfl) (p:=Db K c∧Db L d) (fun B w vs h=>match vs,h with | [_,_],⟨h1,h2,_⟩=>⟨qrow_bd zc.lg h1,qrow_bd zd.lg h2⟩) (fun hb=>?_);obtain ⟨hbc,hbd⟩:=hb;refine acallN hTT 84 [.tmp 4,.tmp 5] Tryz.func159 rfl rfl rfl rfl rfl ?_;refine cSeq ?_;refine cReg ?_;refine mW rfl ?_;refine mW rfl ?_;refine mNil ?_;refine tN ?_;refine cSeq ?_;have hlc:=lg_le c;have hld:=lg_le d;obtain ⟨hlq,hq0⟩:=quo_lg zq zd zc hq h0;have hce:c=exq q d (lg q):=by unfold exq;rw [trn_all zq.lg];exact (funext hq).symm
  refine cReg<|mv4 rfl rfl rfl rfl<|mV hTT (.d (.one (.v (.int .i64 ((lg c:Int)-(lg d:Int)))))) (evi (wr64 (by omega) (by omega)))<|mV hTT (.d (.one (.v (.int .i64 ((lg c:Int)-(lg d:Int)+1))))) (evi (wr64 (by omega) (by omega))) ?_;refine mV hTT (.d (.one (.v (.int .i64 ((lg q:Nat):Int))))) (evi (by rw [if_pos rfl];split <;> omega)) ?_;refine mN hTT (.row 30 4 (lg q) (fun _ j=> .v ((([Value.slice none 0 0,Value.bool false,Value.slice none 0 0,Value.bool false]:List Value)[j]?).getD undef))) (mkO (zl:=((lg q:Nat):Int)) (zc:=((lg q:Nat):Int)) (bts:=64) rfl rfl rfl rfl rfl (by omega) (by omega) rfl rfl rfl (by omega) (by omega) rfl) rfl rfl<|mW rfl<|mT<|cSeq<|cR<|mv3 rfl rfl rfl<|mT<|cBlock<|cLoop (ι:=Nat) (fun (i:Nat)=>⟨84,[(0,.d (.one (.row 4 (lg c) (qel K (rc c))))),(1,.d (.one (.row 4 (lg d) (qel L (rc d))))),(6,.own 19),(21,.d (.one (.v (.int .i64 ((lg q:Nat):Int))))),(22,.d (.one (.v (.int .i64 ((i:Nat):Int)))))],[(19,.row 30 4 (lg q) (qpre 64 i (fun _=>0) (fun j=> .v ((([Value.slice none 0 0,Value.bool false,Value.slice none 0 0,Value.bool false]:List Value)[j]?).getD undef))))]⟩) (fun (i:Nat)=>i≤lg q) (fun (i:Nat)=>lg q-i) 0 (Nat.zero_le _) (wk rfl ⟨hs rfl,hs rfl,hs rfl,hs rfl,hs' rfl (le_int rfl),trivial⟩ ⟨ho' rfl (leo_pre0),trivial⟩ rfl) ?_;rintro i hI;have hi:i≤lg q:=hI;show AW _ _ _ ⟨_,_,_⟩
  refine cR<|mW rfl<|mT<|cSeq<|cCond rfl (fun hc1=>?_) (fun hc1=>?_)
  · skip
    refine cSkip ?_;refine tN ?_;refine cSeq ?_;refine cBlock ?_;refine cSeq ?_;have hin:i < lg q:=by have h0:=of_decide_eq_true hc1;omega
    exact cReg<|mv2 rfl rfl<|mT<|cReg<|mv2 rfl rfl<|mC0 (aQZero) rfl rfl rfl<|mV hTT (.eptr 19 4 i 0) (ixO (z:=((i:Nat):Int)) (n:=(lg q)) rfl rfl rfl rfl rfl rfl rfl (by omega) (by omega))<|mS hTT 19 (.row 30 4 (lg q) (fun p' q'=>if p'=i then ((qn 64 0)[q']?).getD (.v undef) else (qpre 64 i (fun _=>0) (fun j=> .v ((([Value.slice none 0 0,Value.bool false,Value.slice none 0 0,Value.bool false]:List Value)[j]?).getD undef))) p' q')) rfl<|mNil<|bN<|tN<|cReg<|mv2 rfl rfl<|mNil<|⟨(i+1),by omega,by omega,wk rfl ⟨hs rfl,hs rfl,hs rfl,hs rfl,hs' rfl (le_int (inc64 (by omega))),trivial⟩ ⟨ho' rfl (st_pre (Nat.le_refl _) rfl),trivial⟩ rfl⟩
  · skip
    refine cExit ?_;refine tE ?_;refine tE ?_;refine bE ?_;refine tN ?_;refine cSeq ?_;refine cBlock ?_;have hie:lg q=i:=by have h0:=of_decide_eq_false hc1;omega
    subst hie;refine wK [6,1,0] [19] rfl rfl<|wB [6,1,0] [] 19 (.row 30 4 (lg q) (qel KC (rc (upq q (lg q))))) rfl rfl (leo_pre (Kf:=fun _=>KC) (d:=rc (upq q (lg q))) (fun _ _=>by omega) (fun p hp=>by show (0:Rat)=((upq q (lg q) p:Int):Rat);rw [show upq q (lg q) p=0 from if_pos hp];rfl)) rfl<|cLoop (ι:=Nat) (fun (j:Nat)=>⟨84,[(0,.d (.one (.row 4 (lg (exq q d j)) (qel KC (rc (exq q d j)))))),(1,.d (.one (.row 4 (lg d) (qel L (rc d))))),(6,.own 19)],[(19,.row 30 4 (lg q) (qel KC (rc (upq q j))))]⟩) (fun (j:Nat)=>j≤lg q) (fun (j:Nat)=>j) (lg q) (Nat.le_refl _) (wk rfl ⟨hs' rfl (AV.le.trans (le_qrow_t (by omega) (hbc.mono hK)) (AV.of_eq (by rw [← hce];rfl))),hs rfl,hs rfl,trivial⟩ ⟨ho rfl,trivial⟩ rfl) ?_;rintro j hI;have hj:j≤lg q:=hI;show AW _ _ _ ⟨_,_,_⟩
    refine cSeq<|cSeq ?_;rcases ex_top q d j with ⟨i,hij,hqi,he,hu⟩ | ⟨he,hu⟩
    · skip
      have hcc:=hq0 (by omega);have hlz:=exq_lg (w:=q) (i:=i) zd h0 (by omega) hqi;have htop:exq q d (i+1) (lg d+i-1)=q i*d (lg d-1):=by rw [show lg d+i-1=lg d-1+i by omega];exact exq_top zd.lg h0
      have hdt:=lg_ne h0;have bi:Db KC (exq q d i):=(exq_db zq bq hbd i).mono hKC;have bqi:Db KC q:=bq.mono (by omega);have zi:=exq20 (w:=q) (j:=i) zd.lg h0 (by omega);have zj:=exq20 (w:=q) (j:=i+1) zd.lg h0 (by omega);refine cView 0 (.d (.one (.row 4 (lg (exq q d (i+1))) (qel KC (rc (exq q d (i+1))))))) rfl (AV.of_eq (by rw [he]))<|wB [6,1,0] [] 19 (.row 30 4 (lg q) (qel KC (rc (upq q (i+1))))) rfl rfl (AO.of_eq (by rw [hu])) rfl<|cReg<|mv4 rfl rfl rfl rfl<|mV hTT (.d (.one (.v (.bool true)))) (evb (decide_eq_true (by omega)))<|mT<|cT rfl<|cSkip<|tN<|cBlock<|cR<|mv4 rfl rfl rfl rfl<|mV hTT (.d (.one (.v (.int .i64 ((i:Nat):Int))))) (evi ((wr64 (by omega) (by omega)).trans (by omega)))<|mW rfl<|mT<|cSeq<|cDrawK hTT 14 (by kernel_rfl) (by kernel_rfl) (by kernel_rfl)<|.cons (OpS.V _ rfl)<|.cons (OpS.V _ rfl)<|.cons (OpS.V (.d (.one (.v (.int .i64 ((lg (exq q d (i+1)):Nat):Int))))) rfl)<|.cons (OpS.V (.d (.one (.v (.int .i64 ((lg d+i-1:Nat):Int))))) (evi ((wr64 (by omega) (by omega)).trans (by omega))))<|.cons (OpS.V (.d (.one (.at 4 ((qel KC (rc (exq q d (i+1)))) (lg d+i-1))))) (ixR (el:=(qel KC (rc (exq q d (i+1))))) (z:=((lg d+i-1:Nat):Int)) (n:=(lg (exq q d (i+1)))) rfl rfl rfl rfl rfl rfl (by omega) (by omega))) ?_;refine .cons (OpS.V (.d (.agg (qn KC ((rc (exq q d (i+1))) (lg d+i-1))))) rfl)<|.cons (OpS.V _ rfl)<|.cons (OpS.V _ rfl)<|.cons (OpS.V (.d (.one (.v (.int .i64 ((lg d:Nat):Int))))) rfl)<|.cons (OpS.V (.d (.one (.v (.int .i64 ((lg d-1:Nat):Int))))) (evi ((wr64 (by omega) (by omega)).trans (by omega))))<|.cons (OpS.V (.d (.one (.at 4 ((qel L (rc d)) (lg d-1))))) (ixR (el:=(qel L (rc d))) (z:=((lg d-1:Nat):Int)) (n:=(lg d)) rfl rfl rfl rfl rfl rfl (by omega) (by omega))) ?_;refine .cons (OpS.V (.d (.agg (qn L ((rc d) (lg d-1))))) rfl)<|.cons (OpS.C0 (aRQuoR (isq KC ((rc (exq q d (i+1))) (lg d+i-1))) (isq L ((rc d) (lg d-1))) (rc_ne hdt) (M:=(max (KC+L+1) 64)) (by omega) (by omega)) rfl rfl rfl)<|.cons (OpS.N (.box 30 ([.v (.slice none 0 0),.v (.bool false),.v (.slice none 0 0),.v (.bool false)])) rfl 9 rfl rfl)<|.nil<|mS hTT 9 (.box 30 (qn (max (KC+L+1) 64) (((rc (exq q d (i+1))) (lg d+i-1)) / ((rc d) (lg d-1))))) rfl<|mT<|cSeq<|wB [9,52,51,50,49,48,47,46,45,44,43,42,41,40,8,39,38,37,36,35,34,33,32,31,30,6,1,0] [19] 9 (.box 30 (qn KC (rc q i))) rfl rfl (leo_qt (by show ((exq q d (i+1) (lg d+i-1):Int):Rat) / ((d (lg d-1):Int):Rat)=((q i:Int):Rat);rw [htop,Rat.intCast_mul];have hn:=rc_ne hdt;grind) (qb_int (bqi i) (by omega))) rfl ?_;refine cReg<|mv3 rfl rfl rfl<|mV hTT (.eptr 19 4 i 0) (ixO (z:=((i:Nat):Int)) (n:=(lg q)) rfl rfl rfl rfl rfl rfl rfl (by omega) (by omega))<|mS hTT 19 (.row 30 4 (lg q) (fun p' q'=>if p'=i then ((qn KC (rc q i))[q']?).getD (.v undef) else (qel KC (rc (upq q (i+1)))) p' q')) rfl<|mT<|cSeq<|wB [56,55,54,53,9,52,51,50,49,48,47,46,45,44,43,42,41,40,8,39,38,37,36,35,34,33,32,31,30,6,1,0] [9] 19 (.row 30 4 (lg q) (qel KC (rc (upq q i)))) rfl rfl (st_q (Kf:=fun _=>KC) (Lf':=fun _=>KC) (fun _ _ _=>Nat.le_refl _) (Nat.le_refl _) (congrArg (fun z:Int=>(z:Rat)) (upq_at q i)) (fun p _ hp=>congrArg (fun z:Int=>(z:Rat)) (upq_ne hp))) rfl ?_;refine cReg<|mW rfl<|mN hTT (.row 30 4 i (fun _ j=> .v ((([Value.slice none 0 0,Value.bool false,Value.slice none 0 0,Value.bool false]:List Value)[j]?).getD undef))) (mkO (zl:=((i:Nat):Int)) (zc:=((i:Nat):Int)) (bts:=64) rfl rfl rfl rfl rfl (by omega) (by omega) rfl rfl rfl (by omega) (by omega) rfl) rfl rfl<|mW rfl<|mT<|cSeq<|cR<|mv3 rfl rfl rfl<|mT<|cBlock<|cLoop (ι:=Nat) (fun (k:Nat)=>⟨84,[(0,.d (.one (.row 4 (lg (exq q d (i+1))) (qel KC (rc (exq q d (i+1))))))),(1,.d (.one (.row 4 (lg d) (qel L (rc d))))),(6,.own 19),(8,.d (.one (.v (.int .i64 ((i:Nat):Int))))),(9,.ptr 9 0),(10,.own 58),(60,.d (.one (.v (.int .i64 (i:Int))))),(61,.d (.one (.v (.int .i64 ((k:Nat):Int)))))],[(9,.box 30 (qn KC (rc q i))),(19,.row 30 4 (lg q) (qel KC (rc (upq q i)))),(58,.row 30 4 i (qpre 64 k (fun _=>0) (fun j=> .v ((([Value.slice none 0 0,Value.bool false,Value.slice none 0 0,Value.bool false]:List Value)[j]?).getD undef))))]⟩) (fun (k:Nat)=>k≤i) (fun (k:Nat)=>i-k) 0 (Nat.zero_le _) (wk rfl ⟨hs rfl,hs rfl,hs rfl,hs rfl,hs rfl,hs rfl,hs rfl,hs' rfl (le_int rfl),trivial⟩ ⟨ho rfl,ho rfl,ho' rfl (leo_pre0),trivial⟩ rfl) ?_;rintro k hI;have hk:k≤i:=hI;show AW _ _ _ ⟨_,_,_⟩
      refine cR<|mW rfl<|mT<|cSeq<|cCond rfl (fun hc2=>?_) (fun hc2=>?_)
      · skip
        refine cSkip ?_;refine tN ?_;refine cSeq ?_;refine cBlock ?_;refine cSeq ?_;have hkn:k < i:=by have h0:=of_decide_eq_true hc2;omega
        exact cReg<|mv2 rfl rfl<|mT<|cReg<|mv2 rfl rfl<|mC0 (aQZero) rfl rfl rfl<|mV hTT (.eptr 58 4 k 0) (ixO (z:=((k:Nat):Int)) (n:=i) rfl rfl rfl rfl rfl rfl rfl (by omega) (by omega))<|mS hTT 58 (.row 30 4 i (fun p' q'=>if p'=k then ((qn 64 0)[q']?).getD (.v undef) else (qpre 64 k (fun _=>0) (fun j=> .v ((([Value.slice none 0 0,Value.bool false,Value.slice none 0 0,Value.bool false]:List Value)[j]?).getD undef))) p' q')) rfl<|mNil<|bN<|tN<|cReg<|mv2 rfl rfl<|mNil<|⟨(k+1),by omega,by omega,wk rfl ⟨hs rfl,hs rfl,hs rfl,hs rfl,hs rfl,hs rfl,hs rfl,hs' rfl (le_int (inc64 (by omega))),trivial⟩ ⟨ho rfl,ho rfl,ho' rfl (st_pre (Nat.le_refl _) rfl),trivial⟩ rfl⟩
      · skip
        refine cExit ?_;refine tE ?_;refine tE ?_;refine bE ?_;refine tN ?_;have hke:i=k:=by have h0:=of_decide_eq_false hc2;omega
        subst hke;refine wK [10,9,6,1,0] [58,19,9] rfl rfl<|wB [10,9,6,1,0] [19,9] 58 (.row 30 4 i (qel KC (fun _=>0))) rfl rfl (leo_pre (Kf:=fun _=>KC) (d:=fun _=>0) (fun _ _=>by omega) (fun _ _=>rfl)) rfl<|cAnyB (by kernel_rfl)<|bTake 0 rfl (by kernel_rfl) (by kernel_rfl) (by kernel_rfl) (fun _ _ h=>h) rfl rfl (av:= .d (.one (.row 4 (lg (exq q d (i+1))) (qel KC (rc (exq q d (i+1))))))) (pMove rfl rfl)<|bTake 1 rfl (by kernel_rfl) (by kernel_rfl) (by kernel_rfl) (fun _ _ h=>h) rfl rfl (av:= .d (.one (.row 4 (lg (exq q d (i+1))) (qel KC (rc (exq q d (i+1))))))) (pMove rfl rfl)<|bTake 2 rfl (by kernel_rfl) (by kernel_rfl) (by kernel_rfl) (fun _ _ h=>h) rfl rfl (av:= .d (.one (.v (.int .i64 ((lg (exq q d (i+1)):Nat):Int))))) (pLen rfl rfl rfl rfl Tryz.underlying24 rfl)<|bTake 3 rfl (by kernel_rfl) (by kernel_rfl) (by kernel_rfl) (fun _ _ h=>h) rfl rfl (av:= .d (.one (.row 4 (lg (exq q d (i+1))) (qel KC (rc (exq q d (i+1))))))) (pMove rfl rfl)<|bTake 4 rfl (by kernel_rfl) (by kernel_rfl) (by kernel_rfl) (fun _ _ h=>h) rfl rfl (av:= .d (.one (.v (.int .i64 ((lg (exq q d (i+1)):Nat):Int))))) (pLen rfl rfl rfl rfl Tryz.underlying24 rfl)<|bTake 5 rfl (by kernel_rfl) (by kernel_rfl) (by kernel_rfl) (fun _ _ h=>h) rfl rfl (av:= .d (.one (.row 4 (lg (exq q d (i+1))) (qel KC (rc (exq q d (i+1))))))) (pSl3 hTT (h:=(lg (exq q d (i+1)))) (m:=(lg (exq q d (i+1)))) rfl rfl rfl rfl rfl rfl (bndK rfl) (bndK rfl) (by omega) (by omega))<|bTake 6 rfl (by kernel_rfl) (by kernel_rfl) (by kernel_rfl) (fun _ _ h=>h) rfl rfl (av:= .own 58) (pMove rfl rfl)<|bTake 7 rfl (by kernel_rfl) (by kernel_rfl) (by kernel_rfl) (fun _ _ h=>h) rfl rfl (av:= .d (.one (.row 4 (lg d) (qel L (rc d))))) (pMove rfl rfl)<|bOf<|anyS [8] (by kernel_rfl) rfl ?_;refine ⟨⟨_,rfl,?_⟩,trivial⟩;refine mW rfl<|mT<|anyS [9] (by kernel_rfl) rfl ?_;refine ⟨⟨_,rfl,?_⟩,trivial⟩;refine mC0 (aQScale (isqp (K:=L) (c:=(rc d)) (rc_z zd.lg)) (isq KC (rc q i)) (M:=(max ((L+KC)+1) 64)) (by omega) (by omega) (by omega)) rfl rfl rfl<|mT<|anyS [10] (by kernel_rfl) rfl ?_;refine ⟨⟨_,rfl,?_⟩,trivial⟩;refine mView 78 (.d (.one (.row 4 (lg d) (qel (max ((L+KC)+1) 64) (fsclQ (rc d) (rc q i)))))) rfl (le_qrow (Nat.le_refl _) (dg_scl zd h0 hqi) (fun _ _=>rfl))<|mA hTT (id:=58) (n:=i) (m:=(lg d)) (el:=(qel KC (fun _=>0))) (el2:=(qel (max ((L+KC)+1) 64) (fsclQ (rc d) (rc q i)))) rfl rfl rfl (by show (i+(lg d))*64≤140737488355328;omega) (by omega) rfl rfl rfl rfl rfl rfl rfl rfl rfl rfl<|mT<|anyS [11] (by kernel_rfl) rfl ?_;refine ⟨⟨_,rfl,?_⟩,trivial⟩;refine AL.wk (wkRow 58 rfl)<|mView 79 (.d (.one (.row 4 (i+lg d) (qel (KC+L+70) (rc (conv (mnm (q i) i) d)))))) rfl (le_one (row_le (shq_le (by omega) (by omega))))<|mC0 (aQSub (isqp (K:=KC) (c:=(rc (exq q d (i+1)))) (rc_z (exq20 zd.lg h0 (by omega)).lg)) (isqp (K:=(KC+L+70)) (c:=(rc (conv (mnm (q i) i) d))) (rc_z (conv_mz (q i) i zd.lg))) (M:=(((max KC 64)+(max ((KC+L+70)+65) 64))+1)) (by omega) (by omega) (by omega)) rfl rfl rfl<|mT<|anyS [12] (by kernel_rfl) rfl ?_;refine ⟨⟨_,rfl,?_⟩,trivial⟩;exact mW rfl<|mT<|anyN (by kernel_rfl)<|bN<|⟨i,by omega,by omega,wk rfl ⟨hs' rfl (sub_le zi bi (by omega) (fun t ht=>exq_z zd.lg h0 t (by omega))),hs rfl,hs rfl,trivial⟩ ⟨ho rfl,trivial⟩ rfl⟩
    · skip
      have hz0:lg (exq q d j)=0:=by rw [he];exact (lg_zero (exq20 zd.lg h0 (by omega))).2 (exq_0 q d)
      exact cReg<|mv4 rfl rfl rfl rfl<|mV hTT (.d (.one (.v (.bool false)))) (evb (decide_eq_false (by omega)))<|mT<|cF rfl<|cExit<|tE<|tE<|bE<|tN<|cSeq<|wK [6,0] [19] rfl rfl<|cView 0 (.d (.one (.row 4 (lg (exq q d 0)) (qel KC (rc (exq q d 0)))))) rfl (AV.of_eq (by rw [he]))<|wB [6,0] [] 19 (.row 30 4 (lg q) (qel KC (rc q))) rfl rfl (AO.of_eq (by rw [hu,upq_0])) rfl<|AW.wk (wkRow 19 rfl)<|cReg<|mW rfl<|mC0 (aQCut (K:=KC) (n:=(lg q)) (c:=(rc q)) (by omega)) rfl rfl rfl<|mv3 rfl rfl rfl<|mT<|cRet<|rQ rfl (le_tup (dl (dle (le_dg_t (lg_dg2 zq.lg zq) hq1 bq)) (dl DV.same dl0)))
def elQ(K:Nat)(L:List (Nat→Int)):Nat→Nat→Lf:=fun i _=>qrow K (lg (gl L i)) (rc (gl L i))
def qlr(K:Nat)(L:List (Nat→Int)):Lf:= .row 1 L.length (elQ K L)
theorem leo_qapp{e:TypeId}{K n:Nat}{L:List (Nat→Int)}{b:Nat→Int}{el2:Nat→Nat→Lf}(hn:n=L.length)(h2:el2 0 0=qrow K (lg b) (rc b)):AO.le (.row e 1 (n+1) (appEl n (elQ K L) el2)) (.row e 1 (L ++ [b]).length (elQ K (L ++ [b]))):=by
  subst hn;rw [show (L ++ [b]).length=L.length+1 from by rw [List.length_append];rfl];refine leo_row fun i hi j hj B w v hv=>?_
  obtain rfl:j=0:=by omega
  unfold appEl at hv
  by_cases h:i < L.length
  · rw [show Nat.ble (i+1) L.length=true from Nat.ble_eq_true_of_le h] at hv
    unfold elQ;rw [gl_app h];exact hv
  · obtain rfl:i=L.length:=by omega
    rw [show Nat.ble (L.length+1) L.length=false from by rw [← Bool.not_eq_true,Nat.ble_eq];omega,Nat.sub_self] at hv;unfold elQ;rw [gl_last,← h2];exact hv
theorem leo_qone{e:TypeId}{K:Nat}{b:Nat→Int}{el2:Nat→Nat→Lf}(h2:el2 0 0=qrow K (lg b) (rc b)):AO.le (.row e 1 1 el2) (.row e 1 [b].length (elQ K [b])):=leo_row fun i hi j hj B w v hv=>by
  obtain rfl:i=0:=by omega
  obtain rfl:j=0:=by omega
  rw [h2] at hv;exact hv
theorem der_le{X L:Nat}{c:Nat→Int}(z:z20 c)(hL:1≤L)(h:Db L (fder c)):AV.le (.d (.one (qrow X (dg (derE (rc c)) (lg c-1)) (derE (rc c))))) (.d (.one (qrow L (lg (fder c)) (rc (fder c))))):=by
  have e:derE (rc c)=rc (fder c):=funext (rc_der1 c);rw [e];exact le_dg_t (lg_dg2 (fder_z z.lg) (z20_der z)) hL h
theorem onez_db{K:Nat}(hK:1≤K):Db K (onez 1):=fun i=>by
  have h:1 < B4^K:=Nat.lt_of_lt_of_le (by decide) (Nat.pow_le_pow_right (show 0 < B4 by decide) hK);unfold onez;split
  · exact h
  · exact Nat.lt_of_le_of_lt (Nat.zero_le _) h
theorem of1_le{K:Nat}(hK:1≤K):AV.le (.d (.one (qrow 64 (dg (rc (lst [1])) 1) (rc (lst [1]))))) (.d (.one (qrow K (lg (onez 1)) (rc (onez 1))))):=by
  have e:lst [1]=onez 1:=funext fun i=>by
    cases i with
    | zero=>rfl
    | succ i=>rw [onez_z (i+1) (by omega)];exact lst_z (i+1) (by simp)
  rw [e];exact AV.le.trans (le_qrow (Nat.le_refl _) (by rw [onez_lg];rfl) (fun _ _=>rfl)) (le_qrow_t hK (onez_db hK))
section
variable {c:Nat→Int} {M:Nat} {Rs:List (Nat→Int)}
theorem FcI.b(h:FcI c Rs)(hB:DvB c M)(i:Nat)(hi:i < Rs.length):Db M (gl Rs i):=hB _ (h.z i) (h.pm i hi).one (h.dv i hi)
theorem FcE.x(h:FcE c Rs)(hB:DvB c M)(i:Nat)(hi:i < Rs.length):z20 (sqP (gl Rs i))∧Pm (lg (sqP (gl Rs i))) (sqP (gl Rs i))∧Db M (sqP (gl Rs i))∧lg (sqP (gl Rs i))≤lg c:=by
  obtain ⟨N,k⟩:=h.sq i hi;have h1:=(lg_dv (h.z i) k.z (h.pm i hi).pos k.dv).2;have:=h.l i;exact ⟨k.z,k.pm,hB _ k.z k.pm.one (k.dv.trans (h.dv i hi)),by omega⟩
theorem FcE.f(h:FcE c Rs)(hB:DvB c M)(h10:lg c≤10)(i:Nat)(hi:i+2 < Rs.length):z20 (facF Rs i)∧Pm (lg (facF Rs i)) (facF Rs i)∧Db M (facF Rs i)∧∀ j,conv (facF Rs i) (sqP (gl Rs (i+1))) j=sqP (gl Rs i) j:=by
  obtain ⟨h1,h2,h3,h4⟩:=facF_ok h h10 i hi;exact ⟨h1,h2,hB _ h1 h2.one h4,h3⟩
theorem FcI.e(h:FcI c Rs)(zc:z20 c)(h2:2≤lg c)(h10:lg c≤10)(hl:lg (gl Rs (Rs.length-1))≤1):∃ Es,Es=Rs ++ [onez 1]∧FcE c Es∧(Sqf (FF c) (FF (fder c))→Es.length≤3)∧3≤Es.length:=by
  refine ⟨_,rfl,h.fin zc h2 h10 hl,fun hs=>?_,?_⟩
  · have:=h.one zc (by omega) hs
    rw [List.length_append];show Rs.length+1≤3;omega
  · rw [List.length_append]
    show 3≤Rs.length+1
    apply Classical.byContradiction;intro hn;have h3:=h.ne;have e:Rs.length-1=0:=by omega
    rw [e,h.h0,prm20_lg zc] at hl;omega
end
theorem aQFactors{K M KC N:Nat}{c:Nat→Int}(zc:z20 c)(h2:2≤lg c)(hN:N≤10)(hcN:lg c≤N)(hM64:1≤M)(hM1:1≤M)(hB:DvB c M)(hK1:1≤K)(hK:K≤100000)(hKC:(M+2)*(2*3^N)≤KC)(hC:KC≤90000):ACall Tryz.prog 107 [.one (qrow K (lg c) (rc c))] (.d (.one (exL (FacP c) (fun Ls=>qlr M Ls)))):=by
  have hlc:=lg_le c;have hMK:M+2≤KC:=Nat.le_trans (Nat.le_mul_of_pos_right _ (Nat.mul_pos (by decide) (Nat.pow_pos (by decide)))) hKC;have hbp:Db M (prm20 c):=hB _ (prm20_z zc) (prm20_pm zc (by omega)).one (dv_prm zc (by omega));refine acallN hTT 94 [.tmp 2] Tryz.func107 rfl rfl rfl rfl rfl<|cR<|mW rfl<|mT<|cSeq<|cR<|mv2 rfl rfl<|mV hTT (.d (.one (.v (.bool false)))) (evb (decide_eq_false (by omega)))<|mT<|cFs rfl<|cR<|mW rfl<|mC0 (aQPrimP (K:=K) (c:=c) zc (by omega) (by omega)) rfl rfl rfl<|mW rfl<|mT<|cSeq<|cView 0 (.d (.one (.row 4 (lg (prm20 c)) (qel M (rc (prm20 c)))))) rfl (le_qrow_t hM1 hbp)<|cReg<|mW rfl<|mT<|cR<|mW rfl<|mR hTT (.row 24 1 1 (fun i' j'=>(([.row 4 (lg (prm20 c)) (qel M (rc (prm20 c)))])[i'*1+j']?).getD (.v undef))) rfl rfl rfl<|mW rfl<|mT<|cSeq<|cBlock<|wB [4,19,18,3,17,16,15,14,13,2,0] [] 19 (.row 24 1 ([prm20 c].length) (elQ M [prm20 c])) rfl rfl (leo_qone rfl) rfl<|cLoop (ι:=List (Nat→Int)) (fun (Rs:List (Nat→Int))=>⟨94,[(3,.d (.one (.v (.slice none 0 0)))),(4,.own 19)],[(19,.row 24 1 ((Rs).length) (elQ M Rs))]⟩) (fun (Rs:List (Nat→Int))=>FcI c Rs) (fun (Rs:List (Nat→Int))=>lg (gl Rs (Rs.length-1))) ([prm20 c]) (.start zc h2) (wkr rfl rfl) ?_;rintro Rs hI;have hF:FcI c Rs:=hI;show AW _ _ _ ⟨_,_,_⟩
  refine cSeq<|cSeq ?_;have hne:=hF.ne;have hRl:=hF.ln;refine cReg<|mv3 rfl rfl rfl<|mV hTT (.d (.one (.v (.int .i64 ((Rs.length-1:Nat):Int))))) (evi ((wr64 (by omega) (by omega)).trans (by omega)))<|mV hTT (.eptr 19 1 (Rs.length-1) 0) (ixO (z:=((Rs.length-1:Nat):Int)) (n:=((Rs).length)) rfl rfl rfl rfl rfl rfl rfl (by omega) (by omega))<|mv3 rfl rfl rfl<|mT<|cCond rfl (fun hc1=>?_) (fun hc1=>?_)
  · skip
    refine cSkip ?_;refine tN ?_;refine cBlock ?_;refine cSeq ?_;have hgt:2≤lg (gl Rs (Rs.length-1)):=by have h0:=of_decide_eq_true hc1;omega
    have zl:=hF.z (Rs.length-1);have hll:=hF.l (Rs.length-1);have bl:=hF.b hB (Rs.length-1) (by omega);have dl_:=lg_der_lt zl (by omega);have hd2:lg (fder (gl Rs (Rs.length-1)))≠0:=fun e=>by have:=fder_zero zl e;omega
    refine cReg ?_;refine mW rfl ?_;refine mW rfl ?_;refine mW rfl ?_;refine mV hTT (.d (.one (.v (.int .i64 ((Rs.length-1:Nat):Int))))) (evi ((wr64 (by omega) (by omega)).trans (by omega))) ?_;refine mV hTT (.eptr 19 1 (Rs.length-1) 0) (ixO (z:=((Rs.length-1:Nat):Int)) (n:=((Rs).length)) rfl rfl rfl rfl rfl rfl rfl (by omega) (by omega)) ?_;refine mW rfl ?_;refine mW rfl ?_;refine mNil ?_;refine tN ?_;refine cReg ?_;refine mW rfl ?_;refine mW rfl ?_;refine mW rfl ?_;refine mC0 (aQDer (isqp (K:=M) (c:=(rc (gl Rs (Rs.length-1)))) (rc_z (hF.z (Rs.length-1)).lg)) (M:=(max (M+65) 64)) (by omega) (by omega) (by omega)) rfl rfl rfl ?_;refine mView 35 (.d (.one (.row 4 (lg (gl Rs (Rs.length-1))) (qel (M+1) (rc (gl Rs (Rs.length-1))))))) rfl (le_qrow (by omega) rfl (fun _ _=>rfl)) ?_;refine mView 37 (.d (.one (.row 4 (lg (fder (gl Rs (Rs.length-1)))) (qel (M+1) (rc (fder (gl Rs (Rs.length-1)))))))) rfl (der_le zl (by omega) (bl.fder zl)) ?_;refine mC0 (aQGcd (K:=(M+1)) (KC:=KC) (N:=N) (c:=(gl Rs (Rs.length-1))) (d:=fder (gl Rs (Rs.length-1))) zl (z20_der zl) hN (by omega) (by omega) (by omega) (by omega) hC) rfl rfl rfl ?_;refine mEx (Qx:=GcdP (gl Rs (Rs.length-1)) (fder (gl Rs (Rs.length-1))) (21*(M+1)+3)) (L:=fun g=>qrow (63*(M+1)+9) (lg g) (rc g)) 38 rfl (fun G hG=>?_);obtain ⟨hG0,hGl⟩:=hG.le' (z20_der zl) hd2;have hst:=hF.step zc (by omega) hgt hG;have bG:Db M G:=by have h9:=hst.b hB Rs.length (by rw [List.length_append];show Rs.length < Rs.length+1;omega);rwa [gl_last] at h9
    exact mView 38 (.d (.one (.row 4 (lg G) (qel M (rc G))))) rfl (le_qrow_t hM1 bG)<|mB hTT (.d (.one (.row 1 1 (fun i' j'=>(([.row 4 (lg G) (qel M (rc G))])[i'*1+j']?).getD (.v undef))))) rfl<|mA hTT (id:=19) (n:=((Rs).length)) (m:=1) (el:=(elQ M Rs)) (el2:=(fun i' j'=>(([.row 4 (lg G) (qel M (rc G))])[i'*1+j']?).getD (.v undef))) rfl rfl rfl (by show ((Rs).length+1)*24≤140737488355328;omega) (by omega) rfl rfl rfl rfl rfl rfl rfl rfl rfl rfl<|mW rfl<|mNil<|bN<|⟨(Rs ++ [G]),hst,by show lg (gl (Rs ++ [G]) ((Rs ++ [G]).length-1)) < lg (gl Rs (Rs.length-1));rw [List.length_append,show Rs.length+ [G].length-1=Rs.length from rfl,gl_last];omega,wk rfl ⟨hs rfl,hs rfl,trivial⟩ ⟨ho' rfl (leo_qapp rfl rfl),trivial⟩ rfl⟩
  · skip
    refine cExit ?_;refine tE ?_;refine tE ?_;refine bE ?_;refine tN ?_;refine cSeq ?_;have hle:lg (gl Rs (Rs.length-1))≤1:=by have h0:=of_decide_eq_false hc1;omega
    obtain ⟨Es,hEs,hE,hE3,hE4⟩:=hF.e zc h2 (by omega) hle;have hEl:Rs.length+1=Es.length:=by rw [hEs,List.length_append];rfl
    refine cReg<|mW rfl<|mB hTT (.d (.one (.row 1 1 (fun i' j'=>(([.v (.int .i64 1)])[i'*1+j']?).getD (.v undef))))) rfl<|mC0 (aQOf (isi_lit (l:= [1]) (n:=1) rfl (fun i hi=>match i,hi with | 0,_=>rfl)) (by decide) (by omega)) rfl rfl rfl<|mView 43 (.d (.one (.row 4 (lg (onez 1)) (qel M (rc (onez 1)))))) rfl (of1_le hM64)<|mB hTT (.d (.one (.row 1 1 (fun i' j'=>(([.row 4 (lg (onez 1)) (qel M (rc (onez 1)))])[i'*1+j']?).getD (.v undef))))) rfl<|mA hTT (id:=19) (n:=((Rs).length)) (m:=1) (el:=(elQ M Rs)) (el2:=(fun i' j'=>(([.row 4 (lg (onez 1)) (qel M (rc (onez 1)))])[i'*1+j']?).getD (.v undef))) rfl rfl rfl (by show ((Rs).length+1)*24≤140737488355328;omega) (by omega) rfl rfl rfl rfl rfl rfl rfl rfl rfl rfl<|mW rfl<|mT<|cSeq<|cSeq<|wK [4,3] [19] rfl rfl<|wB [4,3] [] 19 (.row 24 1 Es.length (elQ M Es)) rfl rfl ((fun B w0 w v h=>by have h9:=leo_qapp (e:=24) (b:=onez 1) (L:=Rs) rfl rfl B w0 w v h;rwa [← hEs] at h9)) rfl ?_;have hE1:=hE.l11;refine cReg<|mW rfl<|mT<|cBlock<|AW.wk (wkNil 3 3 24 1 (fun _ _=> .v undef) rfl rfl)<|cLoop (ι:=Nat) (fun (k:Nat)=>⟨94,[(3,.own 3),(4,.own 19),(6,.d (.one (.v (.int .i64 ((k:Nat):Int)))))],[(3,.row 24 1 ((facL Es k).length) (elQ M (facL Es k))),(19,.row 24 1 Es.length (elQ M Es))]⟩) (fun (k:Nat)=>k≤Es.length-2) (fun (k:Nat)=>Es.length-2-k) 0 (Nat.zero_le _) (wk rfl ⟨hs rfl,hs rfl,hs' rfl (le_int rfl),trivial⟩ ⟨ho' rfl (leo_row0),ho rfl,trivial⟩ rfl) ?_;rintro k hI;have hk:k≤Es.length-2:=hI;show AW _ _ _ ⟨_,_,_⟩
    refine cSeq<|cR<|mW rfl<|mV hTT (.d (.one (.v (.int .i64 ((k+2:Nat):Int))))) (evi ((wr64 (by omega) (by omega)).trans (by omega)))<|mv3 rfl rfl rfl<|mT<|cCond rfl (fun hc2=>?_) (fun hc2=>?_)
    · skip
      refine cSkip ?_;refine tN ?_;refine cSeq ?_;refine cBlock ?_;refine cSeq ?_;have hk2:k+2 < Es.length:=by have h0:=of_decide_eq_true hc2;omega
      obtain ⟨x0z,x0p,x0b,x0l⟩:=hE.x hB k (by omega);obtain ⟨x1z,x1p,x1b,x1l⟩:=hE.x hB (k+1) (by omega);obtain ⟨fz,fp,fb,fq⟩:=hE.f hB (by omega) k hk2;have q0:=hE.q1 k (by omega);have q1:=hE.q1 (k+1) (by omega);have l0:=hE.l k;have l1:=hE.l (k+1);have p1:=(hE.pm (k+1) (by omega)).pos;have p2:=(hE.pm (k+2) (by omega)).pos;have hfl:(facL Es k).length=k:=facL_len Es k;exact cDrawK hTT 15 (by kernel_rfl) (by kernel_rfl) (by kernel_rfl)<|.cons (OpS.V _ rfl)<|.cons (OpS.V _ rfl)<|.cons (OpS.V (.eptr 19 1 k 0) (ixO (z:=((k:Nat):Int)) (n:=Es.length) rfl rfl rfl rfl rfl rfl rfl (by omega) (by omega)))<|.cons (OpS.V (.d (.one (.row 4 (lg (gl Es k)) (qel M (rc (gl Es k)))))) rfl)<|.cons (OpS.V _ rfl)<|.cons (OpS.V _ rfl)<|.cons (OpS.V (.d (.one (.v (.int .i64 ((k+1:Nat):Int))))) (evi ((wr64 (by omega) (by omega)).trans (by omega))))<|.cons (OpS.V (.eptr 19 1 (k+1) 0) (ixO (z:=((k+1:Nat):Int)) (n:=Es.length) rfl rfl rfl rfl rfl rfl rfl (by omega) (by omega)))<|.cons (OpS.V (.d (.one (.row 4 (lg (gl Es (k+1))) (qel M (rc (gl Es (k+1))))))) rfl)<|.cons (OpS.C0 (aQDiv (K:=M) (L:=M) (Kq:=M) (KC:=(2*M+64)) (c:=(gl Es k)) (d:=(gl Es (k+1))) (q:=(sqP (gl Es k))) (hE.z k) (hE.z (k+1)) (by omega) p1 x0z x0b q0 (by omega) (by omega) (by omega) hM1 (by omega)) rfl rfl rfl)<|.cons (OpS.V _ rfl)<|.cons (OpS.V _ rfl)<|.cons (OpS.V _ rfl)<|.cons (OpS.V _ rfl)<|.cons (OpS.V _ rfl)<|.nil<|mT<|cSeq<|cDrawK hTT 16 (by kernel_rfl) (by kernel_rfl) (by kernel_rfl)<|.cons (OpS.V _ rfl)<|.cons (OpS.V _ rfl)<|.cons (OpS.V (.d (.one (.v (.int .i64 ((k+1:Nat):Int))))) (evi ((wr64 (by omega) (by omega)).trans (by omega))))<|.cons (OpS.V (.eptr 19 1 (k+1) 0) (ixO (z:=((k+1:Nat):Int)) (n:=Es.length) rfl rfl rfl rfl rfl rfl rfl (by omega) (by omega)))<|.cons (OpS.V (.d (.one (.row 4 (lg (gl Es (k+1))) (qel M (rc (gl Es (k+1))))))) rfl)<|.cons (OpS.V _ rfl)<|.cons (OpS.V _ rfl)<|.cons (OpS.V (.d (.one (.v (.int .i64 ((k+2:Nat):Int))))) (evi ((wr64 (by omega) (by omega)).trans (by omega))))<|.cons (OpS.V (.eptr 19 1 (k+2) 0) (ixO (z:=((k+2:Nat):Int)) (n:=Es.length) rfl rfl rfl rfl rfl rfl rfl (by omega) (by omega)))<|.cons (OpS.V (.d (.one (.row 4 (lg (gl Es (k+2))) (qel M (rc (gl Es (k+2))))))) rfl)<|.cons (OpS.C0 (aQDiv (K:=M) (L:=M) (Kq:=M) (KC:=(2*M+64)) (c:=(gl Es (k+1))) (d:=(gl Es (k+2))) (q:=(sqP (gl Es (k+1)))) (hE.z (k+1)) (hE.z (k+2)) (by omega) p2 x1z x1b q1 (by omega) (by omega) (by omega) hM1 (by omega)) rfl rfl rfl)<|.cons (OpS.V _ rfl)<|.cons (OpS.V _ rfl)<|.cons (OpS.V _ rfl)<|.cons (OpS.V _ rfl)<|.cons (OpS.V _ rfl)<|.nil<|mT<|cR<|mW rfl<|mC0 (aQPrimP (K:=M) (c:=(sqP (gl Es k))) x0z (by omega) (by omega)) rfl rfl rfl<|mW rfl<|mC0 (aQPrimP (K:=M) (c:=(sqP (gl Es (k+1)))) x1z (by omega) (by omega)) rfl rfl rfl<|mView 82 (.d (.one (.row 4 (lg (sqP (gl Es k))) (qel M (rc (sqP (gl Es k))))))) rfl (AV.of_eq (by rw [prm_self x0z fun _=>x0p];rfl))<|mView 84 (.d (.one (.row 4 (lg (sqP (gl Es (k+1)))) (qel M (rc (sqP (gl Es (k+1)))))))) rfl (AV.of_eq (by rw [prm_self x1z fun _=>x1p];rfl))<|mC0 (aQDiv (K:=M) (L:=M) (Kq:=M) (KC:=(2*M+64)) (c:=(sqP (gl Es k))) (d:=(sqP (gl Es (k+1)))) (q:=(facF Es k)) x0z x1z (by omega) x1p.pos fz fb fq (by omega) (by omega) (by omega) hM1 (by omega)) rfl rfl rfl<|mv5 rfl rfl rfl rfl rfl<|mT<|cReg<|mv2 rfl rfl<|mC0 (aQPrimP (K:=M) (c:=(facF Es k)) fz (by omega) (by omega)) rfl rfl rfl<|mView 90 (.d (.one (.row 4 (lg (facF Es k)) (qel M (rc (facF Es k)))))) rfl (AV.of_eq (by rw [prm_self fz fun _=>fp];rfl))<|mB hTT (.d (.one (.row 1 1 (fun i' j'=>(([.row 4 (lg (facF Es k)) (qel M (rc (facF Es k)))])[i'*1+j']?).getD (.v undef))))) rfl<|mA hTT (id:=3) (n:=((facL Es k).length)) (m:=1) (el:=(elQ M (facL Es k))) (el2:=(fun i' j'=>(([.row 4 (lg (facF Es k)) (qel M (rc (facF Es k)))])[i'*1+j']?).getD (.v undef))) rfl rfl rfl (by show ((facL Es k).length+1)*24≤140737488355328;omega) (by omega) rfl rfl rfl rfl rfl rfl rfl rfl rfl rfl<|mW rfl<|mNil<|bN<|tN<|cReg<|mv3 rfl rfl rfl<|mNil<|⟨(k+1),by omega,by omega,wk rfl ⟨hs rfl,hs rfl,hs' rfl (le_int (inc64 (by omega))),trivial⟩ ⟨ho' rfl ((fun B w0 w v h=>by have h9:=leo_qapp (e:=24) (b:=facF Es k) (L:=facL Es k) rfl rfl B w0 w v h;rwa [← facL_succ] at h9)),ho rfl,trivial⟩ rfl⟩
    · skip
      refine cExit ?_;refine tE ?_;refine tE ?_;refine bE ?_;refine tN ?_;refine cSeq ?_;obtain rfl:k=Es.length-2:=by have h0:=of_decide_eq_false hc2;omega
      exact AW.wk (wkRow 3 rfl)<|cReg<|mv2 rfl rfl<|mT<|cRet<|rQ rfl (exL_intro (Q:=FacP c) (L:=fun Ls=>qlr M Ls) (facL Es (Es.length-2)) (hE.fac zc (by omega) (by omega) hE3 hE4))
theorem Db.neg{K:Nat}{a:Nat→Int}(h:Db K a):Db K (fneg a):=fun i=>by have:=h i;unfold fneg;omega
theorem Db.lb1{K:Nat}{a:Nat→Int}(h:Db K a):Lb K a:=fun i=>Nat.lt_of_lt_of_le (h i) (Nat.pow_le_pow_left (by decide) K)
theorem stp_ngR{x y R:Nat→Int}{M:Nat}(h:RsP x y M R):Stp x y (fneg R):=by
  obtain ⟨Q,κ,pQ,hκ,e⟩:=h.eq;exact ⟨Q,κ,pQ,hκ,fun t=>by rw [e,FF_neg];grind⟩
theorem RsP.szq{a b r:Nat→Int}{M:Nat}(h:RsP a b M r):RsP a b M (Go.Proofs.YthccmbncplakjaaGreat.szq r):=by
  have zs:=szq_z h.z
  by_cases h0:lg r=0
  · have e:Go.Proofs.YthccmbncplakjaaGreat.szq r=r:=by
      have hr:=(lg_zero h.z).1 h0;funext i;unfold Go.Proofs.YthccmbncplakjaaGreat.szq szd fdv;rw [hr i];simp
    rw [e];exact h
  · obtain ⟨Q,κ,pQ,hκ,e⟩:=h.eq
    obtain ⟨s,hs,e2⟩:=szq_F h.z h0;exact ⟨zs,szq_db h.b,⟨Q,κ*s,pQ,Rat.mul_pos hκ hs,fun x=>by rw [e,e2];grind⟩,by rw [szq_lg h.z,prm20_lg h.z];exact h.lt⟩
theorem szq_der{f:Nat→Int}(z:z20 f)(pm:Pm (lg f) f):szq (fder f)=prm20 (fder f):=by
  refine funext (szq_pos ?_);unfold conS
  by_cases h0:lg (fder f)=0
  · have hz:=(lg_zero (z20_der z)).1 h0
    rw [h0,if_neg (by rw [hz];decide)];omega
  · have h1:=lg_der_lt z pm.pos
    have h2:lg (fder f)=lg f-1:=by
      by_cases h3:lg (fder f)≤lg f-2
      · exfalso
        have h4:=(z20_der z).lg (lg f-2) h3;unfold fder at h4;rw [show lg f-2+1=lg f-1 by omega] at h4;rcases Int.mul_eq_zero.1 h4 with h5 | h5
        · exact lg_ne pm.pos h5
        · omega
      · omega
    have h3:0 < fder f (lg (fder f)-1):=by
      rw [h2] at h0 ⊢;unfold fder;rw [show lg f-1-1+1=lg f-1 by omega];exact Int.mul_pos pm.lead (by omega)
    rw [if_neg (by omega)];omega
structure ChD(f:Nat→Int)(K N KC X:Nat)(L0:List (Nat→Int))(a b:Nat→Int):Prop where
  za:z20 a
  zb:z20 b
  ba:Db X a
  bb:Db X b
  gr:Grw K N X (lg a) (lg b)
  la:lg a≤N
  lb:lg b≤N
  la0:lg a≠0
  pt:PT (L0 ++ [a,b])
  idp:Idp (FF f) (FF (prm20 (fder f))) (FF a) (FF b)
  hd:(L0= []∧a=f∧b=prm20 (fder f))∨(L0= [f]∧a=prm20 (fder f))∨∃ L1,L0=f ::prm20 (fder f) ::L1
  all:∀ x∈L0,z20 x∧Db KC x
  g0:L0≠ []→lg (prm20 (fder f))≠0
  ln:L0.length+lg b≤10
theorem ChD.start{f:Nat→Int}{K N KC:Nat}(hN:N≤10)(zf:z20 f)(bf:Db K f)(bg:Db K (prm20 (fder f)))(h10:lg f≤N)(h0:lg f≠0):ChD f K N KC K [] f (prm20 (fder f)):=by
  have zd:=z20_der zf;have h1:lg (fder f)≤lg f:=lg_of_z zd fun i hi=>fder_z zf.lg i (by omega)
  have h2:=prm20_lg zd;exact ⟨zf,prm20_z zd,bf,bg,.start h10,h10,by omega,h0,trivial,Idp.refl _ _,Or.inl ⟨rfl,rfl,rfl⟩,fun x hx=>absurd hx (by simp),fun e=>absurd rfl e,by show 0+_≤_;omega⟩
theorem ChD.step{f:Nat→Int}{K N KC X:Nat}{L0:List (Nat→Int)}{a b R:Nat→Int}(h:ChD f K N KC X L0 a b)(hKC:(K+1)*(2*3^N)≤KC)(hb:lg b≠0)(hR:RsP a b (X+(lg a+1-lg b)*(X+1)) R):
    ChD f K N KC (X+(lg a+1-lg b)*(X+1)) (L0 ++ [a]) b (fneg R):=by
  have zn:=z20_neg hR.z;have hl:lg (fneg R)=lg R:=by
    have h1:lg (fneg R)≤lg R:=lg_of_z zn fun i hi=>by unfold fneg;rw [hR.z.lg i hi];rfl
    have h2:lg R≤lg (fneg R):=lg_of_z hR.z fun i hi=>by have:=zn.lg i hi;unfold fneg at this;omega
    omega
  have hlt:=hR.lt;refine ⟨h.zb,zn,h.bb.mono (Nat.le_add_right _ _),hR.b.neg,by rw [hl];exact h.gr.step h.la h.lb hlt,h.lb,by have:=h.lb;omega,hb,?_,?_,?_,?_,fun _=>?_,by have:=h.ln;rw [List.length_append,hl];show L0.length+1+lg R≤10;omega⟩
  · rw [List.append_assoc];exact pt_snoc L0 a b (fneg R) h.pt (stp_ngR hR)
  · obtain ⟨Q,κ,pQ,hκ,e⟩:=hR.eq
    exact h.idp.trans (Idp.step (k:= -κ) pQ (by grind) fun x=>by rw [FF_neg,e];grind)
  · rcases h.hd with ⟨h1,h2,h3⟩ | ⟨h1,h2⟩ | ⟨L1,h1⟩
    · subst h1;subst h2;exact Or.inr (Or.inl ⟨rfl,h3⟩)
    · subst h1;subst h2;exact Or.inr (Or.inr ⟨[],rfl⟩)
    · subst h1;exact Or.inr (Or.inr ⟨L1 ++ [a],rfl⟩)
  · intro x hx
    rcases List.mem_append.1 hx with hx | hx
    · exact h.all x hx
    · obtain rfl:x=a:=by simpa using hx
      exact ⟨h.za,h.ba.mono (by have:=h.gr.bd hKC;omega)⟩
  · rcases h.hd with ⟨_,_,h3⟩ | ⟨h1,_⟩ | ⟨L1,h1⟩
    · rw [← h3];exact hb
    · exact h.g0 (by rw [h1];simp)
    · exact h.g0 (by rw [h1];simp)
theorem ChD.fin{c f:Nat→Int}{K N KC X M:Nat}{L0:List (Nat→Int)}{a b:Nat→Int}(h:ChD f K N KC X L0 a b)(hs:SqP c M f)(hKC:(K+1)*(2*3^N)≤KC)(hb:lg b=0):ChP c M KC (L0 ++ [a])∧∀ i,Db KC (gl (L0 ++ [a]) i):=by
  have hX:=h.gr.bd hKC;have hba:Db KC a:=h.ba.mono (by omega);have all:∀ x∈L0 ++ [a],z20 x∧Db KC x:=by
    intro x hx
    rcases List.mem_append.1 hx with hx | hx
    · exact h.all x hx
    · obtain rfl:x=a:=by simpa using hx
      exact ⟨h.za,hba⟩
  have hall:∀ i,z20 (gl (L0 ++ [a]) i)∧Db KC (gl (L0 ++ [a]) i):=by
    intro i;unfold gl;rw [List.getD_eq_getElem?_getD];cases e:(L0 ++ [a])[i]? with
    | none=>exact ⟨z20_nil,fun _=>Nat.pow_pos (by decide)⟩
    | some x=>exact all x (List.mem_of_getElem? e)
  have zd:=z20_der hs.z;have hlen:(L0 ++ [a]).length=L0.length+1:=by rw [List.length_append];rfl
  have h0:gl (L0 ++ [a]) 0=f:=by
    rcases h.hd with ⟨h1,h2,h3⟩ | ⟨h1,h2⟩ | ⟨L1,h1⟩
    · subst h1;subst h2;rfl
    · subst h1;rfl
    · subst h1;rfl
  refine ⟨?_,fun i=>(hall i).2⟩;refine ⟨by rw [h0];exact hs,fun i=>(hall i).2.lb1,fun i=>(hall i).1,by omega,by have:=h.ln;omega,fun e=>?_,fun e=>?_⟩
  · rw [h0]
    have h1:L0= []:=List.eq_nil_of_length_eq_zero (by omega);rcases h.hd with ⟨_,h2,h3⟩ | ⟨h2,_⟩ | ⟨L1,h2⟩
    · have h4:lg (fder f)=0:=by rw [← prm20_lg zd,← h3];exact hb
      have:=fder_zero hs.z h4;have:=hs.ne;omega
    · rw [h1] at h2;cases h2
    · rw [h1] at h2;cases h2
  · have hne:L0≠ []:=by intro e2;subst e2;simp at e
    have hbz:=(FF_zero h.zb).1 hb;have hd0:lg (fder f)≠0:=by rw [← prm20_lg zd];exact h.g0 hne
    obtain ⟨d,hd,hdg⟩:∃ d:Rat,0 < d∧∀ x,FF (fder f) x=d*FF (prm20 (fder f)) x:=by
      have hpos:0 < fder f (lg (fder f)-1):=by
        have hlf:lg (fder f)=lg f-1:=by
          have h1:lg (fder f)≤lg f-1:=lg_of_z zd fun i hi=>fder_z hs.z.lg i (by omega)
          have h2:fder f (lg f-2)≠0:=by
            have h3:=lg_ne hs.ne;have h4:2≤lg f:=by
              by_cases h5:lg f≤1
              · exfalso;have:=hs.ne;omega
              · omega
            unfold fder;rw [show lg f-2+1=lg f-1 by omega];exact Int.mul_ne_zero h3 (by omega)
          by_cases h3:lg (fder f)≤lg f-2
          · exact absurd (zd.lg _ h3) h2
          · omega
        have h3:=hs.pm.lead;rw [hlf];unfold fder;have h4:2≤lg f:=by omega
        rw [show lg f-1-1+1=lg f-1 by omega];exact Int.mul_pos h3 (by omega)
      have hpf:=fun x=>pf_prm zd.lg x
      refine ⟨(conS (fder f) (lg (fder f)):Rat),?_,fun x=>?_⟩
      · have h1:=zd.ip.gcd_pos hd0
        unfold conS;rw [if_neg (by omega)];exact_mod_cast h1
      · have:=hpf x
        rw [show pf (prm (fder f) (lg (fder f))) (lg (fder f))=FF (prm20 (fder f)) from FF_pf zd.ip.prm.z (prm20_z zd),FF_lg zd] at this;exact this
    have hlast:∃ k,k≠0∧∀ t,FF a t=k:=by
      obtain ⟨u,v,pu,pv,e1⟩:=h.idp.m3;obtain ⟨u2,v2,pu2,pv2,e2⟩:=h.idp.m4;obtain ⟨p,q,pp,pq,e3⟩:=hs.sq.cop;have hdv:Dv (FF a) (fun _=>1):=⟨fun x=>p x*u x+q x*d*u2 x,(pp.mul pu).add ((pq.scl d).mul pu2),fun x=>by
        have h1:=e3 x;rw [hdg,e1,e2,hbz] at h1;rw [← h1];grind⟩
      have:=hdv.deg (FF_lc h.za h.la0) (lc_cst (a:=1) (by decide));exact lg_one_const h.za (by have:=h.la0;omega)
    have hpo:∀ x∈L0 ++ [a],Po (FF x):=fun x hx=>FF_po (all x hx).1
    rcases h.hd with ⟨h1,_,_⟩ | ⟨h1,h2⟩ | ⟨L1,h1⟩
    · exact absurd h1 hne
    · subst h1
      refine ⟨[],by rw [h0,show gl ([f] ++ [a]) 1=a from rfl];rfl,?_,d,hd,fun x=>?_⟩
      · rw [h0,show gl ([f] ++ [a]) 1=a from rfl]
        refine stm_of (f':=FF (fder f)) (d:=d) (fun g hg=>?_) hlast (FF_der hs.z) hd (fun x=>by rw [h2];exact hdg x);rcases List.mem_cons.1 hg with rfl | hg
        · exact FF_po hs.z
        · rcases List.mem_cons.1 hg with rfl | hg
          · exact FF_po h.za
          · simp at hg
      · rw [h0,show gl ([f] ++ [a]) 1=a from rfl,h2];exact hdg x
    · subst h1
      refine ⟨L1 ++ [a],by rw [h0];rfl,?_,d,hd,fun x=>?_⟩
      · rw [h0,show gl (f ::prm20 (fder f) ::L1 ++ [a]) 1=prm20 (fder f) from rfl]
        refine stm_of (f':=FF (fder f)) (d:=d) (fun g hg=>?_) (pt_pch L1 f (prm20 (fder f)) a ?_ hlast) (FF_der hs.z) hd hdg
        · rcases List.mem_cons.1 hg with rfl | hg
          · exact FF_po hs.z
          · rcases List.mem_cons.1 hg with rfl | hg
            · exact FF_po (prm20_z zd)
            · obtain ⟨y,hy,rfl⟩:=List.mem_map.1 hg
              exact hpo y (by simp only [List.cons_append,List.mem_cons];exact Or.inr (Or.inr hy))
        · have hpt:=h.pt
          have key:∀ (L:List (Nat→Int)) (x y:Nat→Int),PT (L ++ [x,y])→PT (L ++ [x]):=by
            intro L
            induction L with
            | nil=>intro x y _;trivial
            | cons u L ih=>
              intro x y hp
              match L,ih,hp with
              | [],_,_=>trivial
              | [v],ih,⟨h1,h2⟩=>exact ⟨h1,trivial⟩
              | v ::w ::L,ih,⟨h1,h2⟩=>exact ⟨h1,ih x y h2⟩
          exact key _ a b hpt
      · rw [h0];exact hdg x
theorem cv_le{X K n:Nat}{a b:Nat→Int}(z:z20 (conv a b))(hn:∀ t,n≤t→conv a b t=0)(hK:1≤K)(h:Db K (conv a b)):AV.le (.d (.one (qrow X (dg (conv (rc a) (rc b)) n) (conv (rc a) (rc b))))) (.d (.one (qrow K (lg (conv a b)) (rc (conv a b))))):=by
  have e:conv (rc a) (rc b)=rc (conv a b):=funext (rc_conv a b);rw [e];exact le_dg_t (lg_dg2 hn z) hK h
theorem aQSquare{K M KC N:Nat}{c:Nat→Int}(zc:z20 c)(h2:2≤lg c)(hN:N≤10)(hcN:lg c≤N)(hM64:1≤M)(hM1:1≤M)(hB:DvB c M)(hK1:1≤K)(hK:K≤100000)(hKC:(M+2)*(2*3^N)≤KC)(hC:KC≤90000):ACall Tryz.prog 45 [.one (qrow K (lg c) (rc c))] (.d (.one (qrow M (lg (sqP c)) (rc (sqP c))))):=by
  have hlc:=lg_le c;have hMK:M+2≤KC:=Nat.le_trans (Nat.le_mul_of_pos_right _ (Nat.mul_pos (by decide) (Nat.pow_pos (by decide)))) hKC;refine acallN hTT 26 [.tmp 2] Tryz.func45 rfl rfl rfl rfl rfl<|cR<|mW rfl<|mT<|cSeq<|cR<|mv2 rfl rfl<|mV hTT (.d (.one (.v (.bool false)))) (evb (beq_eq_false_iff_ne.2 (by omega)))<|mT<|cFs rfl<|cR<|mB hTT (.d (.one (.row 1 1 (fun i' j'=>(([.v (.int .i64 1)])[i'*1+j']?).getD (.v undef))))) rfl<|mC0 (aQOf (isi_lit (l:= [1]) (n:=1) rfl (fun i hi=>match i,hi with | 0,_=>rfl)) (by decide) (by omega)) rfl rfl rfl<|mW rfl<|mT<|cR<|mW rfl<|mC0 (aQFactors (K:=K) (M:=M) (KC:=KC) (N:=N) (c:=c) zc h2 hN hcN hM64 hM1 hB hK1 hK hKC hC) rfl rfl rfl<|mW rfl<|mT<|cSeq<|cSeq<|cEx (Qx:=FacP c) (L:=fun Ls=>qlr M Ls) 4 rfl (fun Ls hL=>?_);obtain ⟨X,hX1,⟨MX,hX2⟩,hX3,hX4⟩:=hL.ex;have hln:=hL.len;refine cView 3 (.d (.one (.row 4 (lg (onez 1)) (qel M (rc (onez 1)))))) rfl (of1_le hM64)<|cReg<|mv3 rfl rfl rfl<|mT<|cBlock<|cLoop (ι:=Nat×(Nat→Int)) (fun (p:Nat×(Nat→Int))=>match p with | (i,o)=>⟨26,[(3,.d (.one (.row 4 (lg o) (qel M (rc o))))),(4,.d (.one (.row 1 Ls.length (elQ M Ls)))),(14,.d (.one (.v (.int .i64 ((Ls.length:Nat):Int))))),(15,.d (.one (.v (.int .i64 ((i:Nat):Int)))))],[]⟩) (fun (p:Nat×(Nat→Int))=>match p with | (i,o)=>i≤Ls.length∧SqI c X i o) (fun (p:Nat×(Nat→Int))=>match p with | (i,o)=>Ls.length-i) (0,(onez 1)) (⟨Nat.zero_le _,.start zc⟩) (wk rfl ⟨hs rfl,hs rfl,hs rfl,hs' rfl (le_int rfl),trivial⟩ trivial rfl) ?_;rintro ⟨i,o⟩ hI;obtain ⟨hi,hO⟩:i≤Ls.length∧SqI c X i o:=hI;show AW _ _ _ ⟨_,_,_⟩
  refine cR<|mW rfl<|mT<|cSeq<|cCond rfl (fun hc1=>?_) (fun hc1=>?_)
  · skip
    refine cSkip ?_;refine tN ?_;refine cSeq ?_;refine cBlock ?_;refine cSeq ?_;refine cReg ?_;refine mW rfl ?_;refine mW rfl ?_;refine mNil ?_;refine tN ?_;have hin:i < Ls.length:=by have h0:=of_decide_eq_true hc1;omega
    obtain ⟨hN1,hNF,hNo,hNf⟩:=hO.step zc (by omega) (by omega) (hL.z i) (hL.pm i hin) (hL.dv i hin) (hX1 (i+1) (by omega)).1 hX2.dv (hX4 i hin);refine cReg<|mv3 rfl rfl rfl<|mV hTT (.d (.one (.at 1 ((elQ M Ls) i)))) (ixR (el:=(elQ M Ls)) (z:=((i:Nat):Int)) (n:=Ls.length) rfl rfl rfl rfl rfl rfl (by omega) (by omega)) ?_;exact mW rfl<|mC0 (aQMul (isqp (K:=M) (c:=(rc o)) (rc_z hO.z.lg)) (isqp (K:=M) (c:=(rc (gl Ls i))) (rc_z (hL.z i).lg)) (M:=((20+1)*(M+M+66))) (D:=20) (by omega) (by omega) (by omega) (by decide) (by omega)) rfl rfl rfl<|mW rfl<|mNil<|bN<|tN<|cReg<|mv2 rfl rfl<|mNil<|⟨((i+1),(conv o (gl Ls i))),⟨by omega,hN1⟩,by show Ls.length-(i+1) < Ls.length-i;omega,wk rfl ⟨hs' rfl (cv_le hN1.z (fun t ht=>conv_z0 hO.z.lg (hL.z i).lg t ht) hM1 (hB _ hN1.z hN1.pm hN1.dv)),hs rfl,hs rfl,hs' rfl (le_int (inc64 (by omega))),trivial⟩ trivial rfl⟩
  · skip
    refine cExit ?_;refine tE ?_;refine tE ?_;refine bE ?_;refine tN ?_;refine cSeq ?_;obtain rfl:i=Ls.length:=by have h0:=of_decide_eq_false hc1;omega
    have hfin:=hO.fin hX2 hX3;exact cReg<|mv2 rfl rfl<|mT<|cRet<|rQ rfl (AV.of_eq (by rw [hfin];rfl))
theorem aQSizedE{c d:Nat→Int}{M:Nat}(zd:z20 d)(h1:1≤M)(hM:M≤100000):ACall Tryz.prog 135 [.one (exL (RsP c d M) (fun r=>qrow M (lg r) (rc r)))] (.d (.one (exL (RsP c d M) (fun r=>qrow M (lg r) (rc r))))):=
  ACall.exl (enters Tryz.func135 rfl rfl) fun r hr=>ACall.le (dl DV.same dl0) (exL_intro (Q:=RsP c d M) (L:=fun r=>qrow M (lg r) (rc r)) (szq r) hr.szq) (aQSized hr.z h1 hM)
theorem neg_le{X K:Nat}{c:Nat→Int}(z:z20 c)(hK:1≤K)(h:Db K c):AV.le (.d (.one (qrow X (dg (fsclQ (rc c) ((-1:Int):Rat)) (lg c)) (fsclQ (rc c) ((-1:Int):Rat))))) (.d (.one (qrow K (lg (fneg c)) (rc (fneg c))))):=by
  have e:fsclQ (rc c) ((-1:Int):Rat)=rc (fneg c):=funext fun i=>by
    show ((c i:Int):Rat)*((-1:Int):Rat)=((-(c i):Int):Rat)
    rw [← Rat.intCast_mul];congr 1;omega
  rw [e];exact le_dg_t (lg_dg2 (fun i hi=>by unfold fneg;rw [z.lg i hi];rfl) (z20_neg z)) hK h.neg
theorem leo_qapp2{e:TypeId}{K n:Nat}{L:List (Nat→Int)}{b:Nat→Int}{el2:Nat→Nat→Lf}(hn:L.length=n)(h2:∀ B w v,LfR B w (el2 0 0) v→LfR B w (qrow K (lg b) (rc b)) v):AO.le (.row e 1 (L.length+1) (appEl L.length (elQ K L) el2)) (.row e 1 (L ++ [b]).length (elQ K (L ++ [b]))):=by
  rw [show (L ++ [b]).length=L.length+1 from by rw [List.length_append];rfl];refine leo_row fun i hi j hj B w v hv=>?_
  obtain rfl:j=0:=by omega
  unfold appEl at hv
  by_cases h:i < L.length
  · rw [show Nat.ble (i+1) L.length=true from Nat.ble_eq_true_of_le h] at hv
    unfold elQ;rw [gl_app h];exact hv
  · obtain rfl:i=L.length:=by omega
    rw [show Nat.ble (L.length+1) L.length=false from by rw [← Bool.not_eq_true,Nat.ble_eq];omega,Nat.sub_self] at hv;unfold elQ;rw [gl_last];exact h2 _ _ _ hv
theorem aQChain{K M KC N Ms:Nat}{c:Nat→Int}(zc:z20 c)(h2:2≤lg c)(hN:N≤10)(hcN:lg c≤N)(hM64:1≤M)(hM1:1≤M)(hB:DvB c M)(hK1:1≤K)(hK:K≤100000)(hKC:(M+2)*(2*3^N)≤KC)(hC:KC≤90000)(hS:SqP c Ms (sqP c)):ACall Tryz.prog 74 [.one (qrow K (lg c) (rc c))] (.d (.one (exL (ChP c Ms KC) (fun L=>qlr KC L)))):=by
  have hlc:=lg_le c;have hMK:M+2≤KC:=Nat.le_trans (Nat.le_mul_of_pos_right _ (Nat.mul_pos (by decide) (Nat.pow_pos (by decide)))) hKC;have bs:Db M (sqP c):=hB _ hS.z hS.pm.one hS.dv;have hsl:=(lg_dv zc hS.z (by omega) hS.dv).2;refine acallN hTT 31 [.tmp 2] Tryz.func74 rfl rfl rfl rfl rfl<|cR<|mW rfl<|mT<|cR<|mW rfl<|mC0 (aQSquare (K:=K) (M:=M) (KC:=KC) (N:=N) (c:=c) zc h2 hN hcN hM64 hM1 hB hK1 hK hKC hC) rfl rfl rfl<|mW rfl<|mT<|cR<|mW rfl<|mR hTT (.row 24 1 1 (fun i' j'=>(([.row 4 (lg (sqP c)) (qel M (rc (sqP c)))])[i'*1+j']?).getD (.v undef))) rfl rfl rfl<|mW rfl<|mT<|cR<|mW rfl<|mC0 (aQDer (isqp (K:=M) (c:=(rc (sqP c))) (rc_z hS.z.lg)) (M:=(max (M+65) 64)) (by omega) (by omega) (by omega)) rfl rfl rfl<|mView 11 (.d (.one (.row 4 (lg (fder (sqP c))) (qel (M+1) (rc (fder (sqP c))))))) rfl (der_le hS.z (by omega) (bs.fder hS.z))<|mC0 (aQSized (K:=(M+1)) (c:=(fder (sqP c))) (z20_der hS.z) (by omega) (by omega)) rfl rfl rfl<|mW rfl<|mT<|cSeq<|cBlock<|wK [5,4] [9] rfl rfl<|wB [5,4] [] 9 (.row 24 1 (([] ++ [sqP c]).length) (elQ KC ([] ++ [sqP c]))) rfl rfl (AO.le.trans (leo_qone rfl) (leo_row fun i hi j hj B w v hv=>by obtain rfl:i=0:=(by have:i < 1:=hi;omega);exact qrow_tight (by omega) (fun i _=>(bs.mono (by omega)) i) B w v hv)) rfl ?_;refine cView 5 (.d (.one (.row 4 (lg (prm20 (fder (sqP c)))) (qel (M+1) (rc (prm20 (fder (sqP c)))))))) rfl (AV.of_eq (by rw [szq_der hS.z hS.pm] <;> rfl)) ?_;refine cLoop (ι:=Nat×List (Nat→Int)×(Nat→Int)×(Nat→Int)) (fun (p:Nat×List (Nat→Int)×(Nat→Int)×(Nat→Int))=>match p with | (X,L0,a,b)=>⟨31,[(4,.own 9),(5,.d (.one (.row 4 (lg b) (qel X (rc b)))))],[(9,.row 24 1 ((L0 ++ [a]).length) (elQ KC (L0 ++ [a])))]⟩) (fun (p:Nat×List (Nat→Int)×(Nat→Int)×(Nat→Int))=>match p with | (X,L0,a,b)=>ChD (sqP c) (M+1) N KC X L0 a b∧1≤X) (fun (p:Nat×List (Nat→Int)×(Nat→Int)×(Nat→Int))=>match p with | (X,L0,a,b)=>lg b) ((M+1),[],(sqP c),(prm20 (fder (sqP c)))) (⟨.start hN hS.z (bs.mono (by omega)) (bs.fder hS.z).fdv (by omega) hS.ne,by omega⟩) (wkr rfl rfl) ?_;rintro ⟨X,L0,a,b⟩ hI;obtain ⟨hD,hX1⟩:ChD (sqP c) (M+1) N KC X L0 a b∧1≤X:=hI;show AW _ _ _ ⟨_,_,_⟩
  refine cSeq ?_;refine cSeq ?_;have za:=hD.za;have zb:=hD.zb;have hXK:=hD.gr.bd hKC;have hla:=hD.la;have hlb:=hD.lb;have ha0:=hD.la0;have hln:=hD.ln;have hlen:(L0 ++ [a]).length=L0.length+1:=by rw [List.length_append];rfl
  by_cases hb0:lg b=0
  · skip
    refine cReg<|mv2 rfl rfl<|mV hTT (.d (.one (.v (.bool false)))) (evb (decide_eq_false (by omega)))<|mT<|cF rfl<|cExit<|tE<|tE<|bE<|tN<|cSeq ?_;have hfin:=hD.fin hS hKC hb0;exact AW.wk (wkRow 9 rfl)<|cReg<|mv2 rfl rfl<|mT<|cRet<|rQ rfl (exL_intro (Q:=ChP c Ms KC) (L:=fun L=>qlr KC L) (L0 ++ [a]) hfin.1)
  · skip
    refine cReg<|mv2 rfl rfl<|mV hTT (.d (.one (.v (.bool true)))) (evb (decide_eq_true (by omega)))<|mT<|cT rfl<|cSkip<|tN<|cBlock<|cR<|mv2 rfl rfl<|mB hTT (.d (.one (.row 1 1 (fun i' j'=>(([.row 4 (lg b) (qel X (rc b))])[i'*1+j']?).getD (.v undef))))) rfl<|mA hTT (id:=9) (n:=((L0 ++ [a]).length)) (m:=1) (el:=(elQ KC (L0 ++ [a]))) (el2:=(fun i' j'=>(([.row 4 (lg b) (qel X (rc b))])[i'*1+j']?).getD (.v undef))) rfl rfl rfl (by show ((L0 ++ [a]).length+1)*24≤140737488355328;omega) (by omega) rfl rfl rfl rfl rfl rfl rfl rfl rfl rfl<|mW rfl<|mT ?_;have hg1:lg b-1 < lg b:=by omega
    have hN1:=(hD.gr.step hla hlb hg1).bd hKC;refine wB [19,18,17,16,15,14,13,5,4] [] 9 (.row 24 1 ((L0 ++ [a] ++ [b]).length) (elQ KC (L0 ++ [a] ++ [b]))) rfl rfl (leo_qapp2 hlen (qrow_tight (by omega) (fun i _=>(hD.bb.mono (by omega)) i))) rfl ?_;have hgla:gl (L0 ++ [a] ++ [b]) L0.length=a:=by rw [gl_app (by omega),gl_last]
    have hlen2:(L0 ++ [a] ++ [b]).length=L0.length+2:=by rw [List.length_append,hlen];rfl
    refine cReg<|mv3 rfl rfl rfl<|mV hTT (.d (.one (.v (.int .i64 ((L0.length:Nat):Int))))) (evi ((wr64 (by omega) (by omega)).trans (by omega)))<|mV hTT (.eptr 9 1 L0.length 0) (ixO (z:=((L0.length:Nat):Int)) (n:=((L0 ++ [a] ++ [b]).length)) rfl rfl rfl rfl rfl rfl rfl (by omega) (by omega))<|mv2 rfl rfl<|mView 25 (.d (.one (.row 4 (lg a) (qel X (rc a))))) rfl ((fun ρ B w v h=>by have h:AR ρ B w (.d (.one (qrow KC (lg (gl (L0 ++ [a] ++ [b]) L0.length)) (rc (gl (L0 ++ [a] ++ [b]) L0.length))))) v:=h;rw [hgla] at h;exact le_qrow_t (by omega) hD.ba ρ B w v h)) ?_;refine mView 26 (.d (.one (.row 4 (lg b) (qel X (rc b))))) rfl (AV.le.rfl)<|mC0 (aQRest (K:=X) (L:=X) (M:=(X+(lg a+1-lg b)*(X+1))) (c:=a) (d:=b) za zb hb0 (by omega) (by omega) (by omega) (by omega) (Nat.le_refl _) (by omega)) rfl rfl rfl<|mC0 (aQSizedE (c:=a) (d:=b) (M:=(X+(lg a+1-lg b)*(X+1))) zb (by omega) (by omega)) rfl rfl rfl<|mEx (Qx:=RsP a b (X+(lg a+1-lg b)*(X+1))) (L:=fun r=>qrow (X+(lg a+1-lg b)*(X+1)) (lg r) (rc r)) 28 rfl (fun R hR=>?_);have hRl:=lg_le R;exact mC0 (aQNeg (isqp (K:=(X+(lg a+1-lg b)*(X+1))) (c:=(rc R)) (rc_z hR.z.lg)) (M:=(max ((X+(lg a+1-lg b)*(X+1))+65) 64)) (by omega) (by omega) (by omega)) rfl rfl rfl<|mW rfl<|mNil<|bN<|⟨((X+(lg a+1-lg b)*(X+1)),(L0 ++ [a]),b,(fneg R)),⟨hD.step hKC hb0 hR,by omega⟩,by have hl9:=hR.lt;have hl8:lg (fneg R)≤lg R:=lg_of_z (z20_neg hR.z) fun i hi=>by {unfold fneg;rw [hR.z.lg i hi];rfl};show lg (fneg R) < lg b;omega,wk rfl ⟨hs rfl,hs' rfl (neg_le hR.z (by omega) hR.b),trivial⟩ ⟨ho rfl,trivial⟩ rfl⟩
def ChQ(c:Nat→Int)(KC:Nat)(L:List (Nat→Int)):Prop:=∃ p M,ChP p M KC L∧gl L 0=c
theorem ChP.q{p:Nat→Int}{M KC:Nat}{L:List (Nat→Int)}(h:ChP p M KC L):ChQ (sqP p) KC L:=⟨p,M,h,h.sq.eq⟩
noncomputable def cntC(c:Nat→Int)(lo hi:Rat):Nat:=open Classical in if h:∃ N,Ctd (FF c) lo hi N then h.choose else 0
theorem cntC_eq{c:Nat→Int}(z:z20 c){lo hi:Rat}(hab:lo≤hi){N:Nat}(h:Ctd (FF c) lo hi N):cntC c lo hi=N:=by
  have hx:∃ N,Ctd (FF c) lo hi N:=⟨N,h⟩
  unfold cntC;rw [dif_pos hx];exact hx.choose_spec.uniq (FF_po z) hab h
section
variable {c:Nat→Int} {KC:Nat} {L:List (Nat→Int)}
theorem ChQ.z(h:ChQ c KC L):z20 c:=by obtain ⟨p,M,k,e⟩:=h;rw [← e];exact k.z 0
theorem ChQ.len(h:ChQ c KC L):1≤L.length∧L.length≤11:=by obtain ⟨p,M,k,e⟩:=h;exact ⟨k.len,k.ln⟩
theorem ChQ.zz(h:ChQ c KC L)(i:Nat):z20 (gl L i):=by obtain ⟨p,M,k,e⟩:=h;exact k.z i
theorem ChQ.cnt(h:ChQ c KC L){lo hi:Rat}(hab:lo≤hi):vr (sgL L lo)=vr (sgL L hi)+cntC c lo hi∧(cntC c lo hi=0↔RFree (FF c) lo hi)∧(2≤lg c→Ctd (FF c) lo hi (cntC c lo hi)):=by
  have zc:=h.z;obtain ⟨p,M,k,e⟩:=h;obtain ⟨N,h1,h2,h3⟩:=k.cnt hab;rw [e] at h2 h3
  by_cases hl:2≤L.length
  · have hN:=cntC_eq zc hab (h3 hl)
    rw [hN];exact ⟨h1,h2,fun _=>h3 hl⟩
  · have hl1:L.length=1:=by have:=k.len;omega
    have hlg:=k.cst hl1;rw [e] at hlg;have hf:RFree (FF c) lo hi:=by
      obtain ⟨κ,hκ,hk⟩:=lg_one_const zc hlg;exact ⟨sgq κ,fun h=>hκ (sgq_eq_zero.1 h),fun t _ _=>by rw [hk]⟩
    have h0:cntC c lo hi=0:=by
      unfold cntC;split
      · rename_i hx
        exact (hx.choose_spec.free (FF_po zc) hab).2 hf
      · rfl
    rw [h0];have:=h2.2 hf;exact ⟨by omega,⟨fun _=>hf,fun _=>rfl⟩,fun h=>by omega⟩
end
structure Cnt(c:Nat→Int):Prop where
  z:z20 c
  l2:2≤lg c
  sq:Sqf (FF c) (FF (fder c))
  ctd:∀ lo hi,lo≤hi→Ctd (FF c) lo hi (cntC c lo hi)
theorem Cnt.free{c:Nat→Int}(h:Cnt c){lo hi:Rat}(hab:lo≤hi):cntC c lo hi=0↔RFree (FF c) lo hi:=(h.ctd lo hi hab).free (FF_po h.z) hab
theorem ex_der0{c:Nat→Int}(z:z20 c)(h2:2≤lg c):∃ x,FF (fder c) x≠0:=by
  refine FF_nz (z20_der z) fun e=>?_
  have:=fder_zero z e;omega
theorem cnt_of{c:Nat→Int}(z:z20 c)(h2:2≤lg c)(sq:Sqf (FF c) (FF (fder c))):Cnt c:=by
  refine ⟨z,h2,sq,fun lo hi hab=>?_⟩;obtain ⟨g,l,hst,_⟩:=sq.stm (ex_der0 z h2);obtain ⟨N,hN⟩:=sturm hst hab;have h:Ctd (FF c) lo hi N:=⟨g,l,hst,hN⟩;rw [cntC_eq z hab h];exact h
section
variable {c:Nat→Int} {lo hi:Rat}
theorem rfree_self(f:Fn)(a:Rat):RFree f a a:=⟨1,by decide,fun t h1 h2=>by grind⟩
theorem Cnt.lt(h:Cnt c)(hab:lo≤hi)(hn:cntC c lo hi≠0):lo < hi:=by
  by_cases e:lo < hi
  · exact e
  · exfalso
    have:lo=hi:=by grind
    subst this;exact hn ((h.free hab).2 (rfree_self _ _))
theorem Cnt.add(h:Cnt c){m:Rat}(h1:lo≤m)(h2:m≤hi):cntC c lo hi=cntC c lo m+cntC c m hi:=by
  exact cntC_eq h.z (by grind) ((h.ctd lo m h1).cat (FF_po h.z) h1 h2 (h.ctd m hi h2))
theorem Cnt.okI(h:Cnt c)(hab:lo≤hi)(h1:cntC c lo hi=1):OkI (FF c) (FF (fder c)) lo hi:=⟨h.sq,h.lt hab (by omega),by rw [← h1];exact h.ctd lo hi hab⟩
noncomputable def exF(c:Nat→Int)(lo hi:Rat):Rat×Rat:=if ¬ lo=hi∧sgq (FF c hi)=0 then (hi,hi) else (lo,hi)
def EX(c:Nat→Int)(lo hi:Rat):Prop:=lo=hi∨sgq (FF c hi)≠0
theorem exF_ex(c:Nat→Int)(lo hi:Rat):EX c (exF c lo hi).1 (exF c lo hi).2:=by
  unfold exF;split
  · exact Or.inl rfl
  · rename_i h
    by_cases e:lo=hi
    · exact Or.inl e
    · exact Or.inr fun k=>h ⟨e,k⟩
theorem Cnt.okV(h:Cnt c)(hab:lo≤hi)(h1:cntC c lo hi=1):OkV c lo hi:=by
  have o:=h.okI hab h1;have hlt:=o.lt;refine ⟨⟨h.z,hab,fun _=>o⟩,h.sq,h.l2,?_⟩;rw [cutA_I hlt];obtain ⟨g,l,hst⟩:=o.stm;exact cutN_vc hst (FF_po h.z) hlt fun hf=>by have:=(h.free hab).2 hf;omega
theorem exF_nar(o:OkA c lo hi):Nar c lo hi (exF c lo hi).1 (exF c lo hi).2:=by
  unfold exF
  by_cases h:¬ lo=hi∧sgq (FF c hi)=0
  · rw [if_pos h]
    have hlt:lo < hi:=by have:=o.le;grind
    refine ⟨okA_P o.z hi,fun q=>?_,o.le,by show hi≤hi;grind⟩;show cutA c hi hi q↔_
    rw [cutA_P (show hi≤hi by grind),cutA_I hlt];exact (cutI_root (o.i hlt) hlt (by grind) (sgq_eq_zero.1 h.2) q).symm
  · rw [if_neg h];exact Nar.refl o
end
noncomputable def spF(c:Nat→Int):Nat→Rat→Rat→List (Rat×Rat)
  | 0,_,_=> []
  | n+1,lo,hi=>if cntC c lo hi=0 then [] else if cntC c lo hi=1 then [exF c lo hi] else spF c n lo ((lo+hi) / 2) ++spF c n ((lo+hi) / 2) hi
structure SpP(c:Nat→Int)(lo hi:Rat)(l:List (Rat×Rat)):Prop where
  ok:∀ p∈l,OkV c p.1 p.2∧EX c p.1 p.2∧lo≤p.1∧p.2≤hi∧cutA c p.1 p.2 lo
  all:∀ C,IsCut C→VC (FF c) C→C lo→¬ C hi→∃ p∈l,∀ q,cutA c p.1 p.2 q↔C q
  rise:l.Pairwise fun p q=>cmpC (cutA c p.1 p.2) (cutA c q.1 q.2)= -1
  len:l.length=cntC c lo hi
theorem rfree_vc{f g:Fn}{l:List Fn}(hst:Stm f g l)(pf:Po f){a b:Rat}(h:RFree f a b){C:Cut}(hC:IsCut C)(ca:C a)(cb:¬ C b)(v:VC f C):False:=by
  obtain ⟨a',h1,h2⟩:=hC.up a ca;obtain ⟨s,hs,hst'⟩:=h;have hab:=hC.nb h2 cb;obtain ⟨e,he,hf⟩:=free_far hst pf (a:=a') (b:=b) (by grind) (by rw [hst' a' h1 (by grind)];exact hs) fun t t1 t2=>by rw [hst' t (by grind) t2,hst' a' h1 (by grind)]
  obtain ⟨t,t1,t2,ht⟩:=v (e / 2) (by grind) a' b h2 cb;have:=hf t t1 t2;unfold Ab at ht;rcases this with k | k <;> grind
theorem Cnt.one{c:Nat→Int}{lo hi:Rat}(h:Cnt c)(hab:lo≤hi)(h1:cntC c lo hi=1){C:Cut}(hC:IsCut C)(v:VC (FF c) C)(ca:C lo)(cb:¬ C hi)(q:Rat):cutA c lo hi q↔C q:=by
  have o:=h.okI hab h1;obtain ⟨g,l,hst⟩:=o.stm;rw [cutA_I o.lt];constructor
  · intro k
    apply Classical.byContradiction;intro nq;have hq:=hC.nb ca nq;have hqh:q < hi:=by rcases k with k | k;grind;exact k.1
    exact rfree_vc hst (FF_po h.z) ((cutI_free o (by grind) hqh).1 k) hC ca nq v
  · intro k
    apply Classical.byContradiction;intro nq;have hqh:=hC.nb k cb;have hf:RFree (FF c) q hi:=Classical.byContradiction fun nf=>nq (Or.inr ⟨hqh,nf⟩)
    exact rfree_vc hst (FF_po h.z) hf hC k cb v
theorem split_one{c:Nat→Int}(h:Cnt c){h1:Nat}(b1:∀ i,(c i).natAbs≤2^h1){lo hi:Rat}(hab:lo≤hi)(hl: -(t2 (h1+1))≤lo)(hh:hi≤t2 (h1+1))(hw:(hi-lo)*t2 (sepE (lg c) (lg c) h1 h1)≤1):cntC c lo hi≤1:=by
  have hlc:=lg_le c;have hp:=t2_pos h1;have e2:t2 (h1+2)=t2 (h1+1)*2:=by rw [show h1+2=(h1+1)+1 from rfl,t2_add (h1+1) 1];rfl
  have hp1:=t2_pos (h1+1);have hin:In (t2 (h1+2)) lo∧In (t2 (h1+2)) hi:=by
    unfold In;constructor <;> constructor <;> grind
  obtain ⟨U,V,z,hz,hUV,hU,hV,hL⟩:=capA h.z h.sq h.l2 b1 (h1+2) (lg c / 2+1) (lg_two _ (by omega));have hx:=expA (n1:=lg c) (n2:=lg c) (h1:=h1) (h2:=h1) (hl:=h1) h.l2 hlc h.l2 (Nat.le_refl _) (Nat.le_refl _);have hs:=small_of hx (show 0≤hi-lo by grind) hw;exact sep_one h.sq.der h.sq.po h.sq.po' hz hUV hU hV hL (by have:=t2_pos (3*(lg c / 2+1)+(h1+2)*lg c+(lg c / 2+1+h1));grind) hin.1 hin.2 hab hs (h.ctd lo hi hab)
theorem spF_ok{c:Nat→Int}(h:Cnt c){h1:Nat}(b1:∀ i,(c i).natAbs≤2^h1):∀ (d:Nat) (lo hi:Rat),lo≤hi→-(t2 (h1+1))≤lo→hi≤t2 (h1+1)→(hi-lo)*t2 (sepE (lg c) (lg c) h1 h1)≤t2 d→SpP c lo hi (spF c (d+1) lo hi):=by
  intro d
  induction d with
  | zero=>
    intro lo hi hab hl hh hw;have h9:=split_one h b1 hab hl hh (by rw [show t2 0=1 from rfl] at hw;exact hw);unfold spF
    by_cases h0:cntC c lo hi=0
    · rw [if_pos h0]
      obtain ⟨g,l,hst,_⟩:=h.ctd lo hi hab;exact ⟨fun p hp=>absurd hp (by simp),fun C hC v ca cb=>(rfree_vc hst (FF_po h.z) ((h.free hab).1 h0) hC ca cb v).elim,List.Pairwise.nil,by rw [h0];rfl⟩
    · have e1:cntC c lo hi=1:=by omega
      rw [if_neg h0,if_pos e1];have o:=h.okV hab e1;have n:=exF_nar o.ok;refine ⟨fun p hp=>?_,fun C hC v ca cb=>⟨_,by simp,fun q=>(n.cut q).trans (h.one hab e1 hC v ca cb q)⟩,List.pairwise_singleton _ _,by rw [e1];rfl⟩;obtain rfl:p=exF c lo hi:=by simpa using hp
      refine ⟨o.nar n,exF_ex _ _ _,n.lo,n.hi,(n.cut lo).2 ?_⟩;rw [cutA_I (h.lt hab h0)];exact Or.inl (by grind)
  | succ d ih=>
    intro lo hi hab hl hh hw;unfold spF
    by_cases h0:cntC c lo hi=0
    · rw [if_pos h0]
      obtain ⟨g,l,hst,_⟩:=h.ctd lo hi hab;exact ⟨fun p hp=>absurd hp (by simp),fun C hC v ca cb=>(rfree_vc hst (FF_po h.z) ((h.free hab).1 h0) hC ca cb v).elim,List.Pairwise.nil,by rw [h0];rfl⟩
    · rw [if_neg h0]
      by_cases e1:cntC c lo hi=1
      · rw [if_pos e1]
        have o:=h.okV hab e1;have n:=exF_nar o.ok;refine ⟨fun p hp=>?_,fun C hC v ca cb=>⟨_,by simp,fun q=>(n.cut q).trans (h.one hab e1 hC v ca cb q)⟩,List.pairwise_singleton _ _,by rw [e1];rfl⟩;obtain rfl:p=exF c lo hi:=by simpa using hp
        refine ⟨o.nar n,exF_ex _ _ _,n.lo,n.hi,(n.cut lo).2 ?_⟩;rw [cutA_I (h.lt hab h0)];exact Or.inl (by grind)
      · rw [if_neg e1]
        obtain ⟨m,hm⟩:∃ m,m=(lo+hi) / 2:=⟨_,rfl⟩
        rw [← hm];have hE:=t2_pos (sepE (lg c) (lg c) h1 h1);have e2:t2 (d+1)=t2 d*2:=by rw [t2_add d 1];rfl
        have m1:lo≤m:=by grind
        have m2:m≤hi:=by grind
        have w1:(m-lo)*t2 (sepE (lg c) (lg c) h1 h1)≤t2 d:=by
          have:m-lo=(hi-lo) / 2:=by grind
          rw [this];rw [e2] at hw;grind
        have w2:(hi-m)*t2 (sepE (lg c) (lg c) h1 h1)≤t2 d:=by
          have:hi-m=(hi-lo) / 2:=by grind
          rw [this];rw [e2] at hw;grind
        have A:=ih lo m m1 hl (by grind) w1;have B:=ih m hi m2 (by grind) hh w2;refine ⟨fun p hp=>?_,fun C hC v ca cb=>?_,?_,by rw [List.length_append,A.len,B.len,h.add m1 m2]⟩
        · rcases List.mem_append.1 hp with k | k
          · obtain ⟨a1,a2,a3,a4,a5⟩:=A.ok p k
            exact ⟨a1,a2,a3,by grind,a5⟩
          · obtain ⟨a1,a2,a3,a4,a5⟩:=B.ok p k
            exact ⟨a1,a2,by grind,a4,a1.ok.cut.down _ _ a5 m1⟩
        · by_cases cm:C m
          · obtain ⟨p,k,e⟩:=B.all C hC v cm cb
            exact ⟨p,List.mem_append.2 (Or.inr k),e⟩
          · obtain ⟨p,k,e⟩:=A.all C hC v ca cm
            exact ⟨p,List.mem_append.2 (Or.inl k),e⟩
        · refine List.pairwise_append.2 ⟨A.rise,B.rise,fun p hp q hq=>?_⟩
          obtain ⟨a1,a2,a3,a4,a5⟩:=A.ok p hp;obtain ⟨b1,b2,b3,b4,b5⟩:=B.ok q hq;exact cmpC_lt b5 (a1.ok.above a4)
def mxA(c:Nat→Int):Nat→Nat
  | 0=>0
  | i+1=>max (mxA c i) (c i).natAbs
theorem mxA_le(c:Nat→Int):∀ {i n:Nat},i < n→(c i).natAbs≤mxA c n
  | i,0,h=>absurd h (Nat.not_lt_zero _)
  | i,n+1,h=>by
    unfold mxA
    by_cases e:i=n
    · subst e;exact Nat.le_max_right _ _
    · exact Nat.le_trans (mxA_le c (i:=i) (n:=n) (by omega)) (Nat.le_max_left _ _)
theorem mxA_bd{c:Nat→Int}{H:Nat}(h:∀ i,(c i).natAbs≤H):∀ n,mxA c n≤H
  | 0=>Nat.zero_le _
  | n+1=>by unfold mxA;exact Nat.max_le.2 ⟨mxA_bd h n,h n⟩
def bdQ(c:Nat→Int):Rat:=1+(mxA c (lg c-1):Rat) / ((c (lg c-1)).natAbs:Rat)
section
variable {c:Nat→Int}
theorem lead_pos(h0:lg c≠0):(1:Rat)≤((c (lg c-1)).natAbs:Rat):=by
  have:=lg_ne h0;exact_mod_cast (show 1≤(c (lg c-1)).natAbs by omega)
theorem bdQ_ge(h0:lg c≠0):1≤bdQ c:=by
  have h1:=lead_pos h0;have h2:=nat_nn (mxA c (lg c-1));unfold bdQ;have:0≤(mxA c (lg c-1):Rat) / ((c (lg c-1)).natAbs:Rat):=by
    rw [Rat.div_def];exact Rat.mul_nonneg h2 (by have:=Rat.inv_pos.2 (show (0:Rat) < ((c (lg c-1)).natAbs:Rat) by grind);grind)
  grind
theorem bdQ_le(h0:lg c≠0){H:Nat}(h:∀ i,(c i).natAbs≤H):bdQ c≤1+(H:Rat):=by
  have h1:=lead_pos h0;have h2:(mxA c (lg c-1):Rat)≤(H:Rat):=nat_le (mxA_bd h _);have h3:=nat_nn (mxA c (lg c-1));obtain ⟨k,hk⟩:∃ k,k=(mxA c (lg c-1):Rat) / ((c (lg c-1)).natAbs:Rat):=⟨_,rfl⟩
  have h4:k*((c (lg c-1)).natAbs:Rat)=(mxA c (lg c-1):Rat):=by rw [hk];exact Rat.div_mul_cancel (by grind)
  have hk0:0≤k:=by
    have:=bdQ_ge h0;unfold bdQ at this;rw [← hk] at this;grind
  have h5:k*1≤k*((c (lg c-1)).natAbs:Rat):=Rat.mul_le_mul_of_nonneg_left h1 hk0;unfold bdQ;rw [← hk];grind
theorem bdQ_vc(z:z20 c)(h0:lg c≠0){C:Cut}(hC:IsCut C)(v:VC (FF c) C):C (-(bdQ c))∧¬ C (bdQ c):=by
  obtain ⟨n,hn⟩:∃ n,n=lg c-1:=⟨_,rfl⟩
  obtain ⟨a,ha⟩:∃ a:Rat,a=(c n:Rat):=⟨_,rfl⟩
  have hcn:c n≠0:=by rw [hn];exact lg_ne h0
  have ha0:a≠0:=by rw [ha];exact rc_ne hcn
  obtain ⟨A,hA⟩:∃ A:Rat,A=((c n).natAbs:Rat):=⟨_,rfl⟩
  have hAa:A=a∨A= -a:=by
    rw [hA,ha];rcases Int.natAbs_eq (c n) with e | e
    · left;rw [e];simp;rfl
    · right
      obtain ⟨k,hk⟩:∃ k,k=(c n).natAbs:=⟨_,rfl⟩
      rw [← hk] at e ⊢;rw [e,Rat.intCast_neg,Rat.neg_neg];rfl
  have hA1:1≤A:=by rw [hA,hn];exact lead_pos h0
  obtain ⟨H,hH⟩:∃ H:Rat,H=(mxA c n:Rat) / A:=⟨_,rfl⟩
  have hHA:H*A=(mxA c n:Rat):=by rw [hH];exact Rat.div_mul_cancel (by grind)
  have hb:bdQ c=1+H:=by unfold bdQ;rw [hH,hA,hn]
  have hH0:0≤H:=by have:=bdQ_ge h0;grind
  have hce:∀ i,Ab ((if i < n then (c i:Rat) / A else 0)) H:=fun i=>by
    by_cases hi:i < n
    · rw [if_pos hi]
      obtain ⟨q,hq⟩:∃ q,q=(c i:Rat) / A:=⟨_,rfl⟩
      have h1:q*A=(c i:Rat):=by rw [hq];exact Rat.div_mul_cancel (by grind)
      have h2:((c i).natAbs:Rat)≤(mxA c n:Rat):=nat_le (mxA_le c hi);have h3: -((c i).natAbs:Rat)≤(c i:Rat)∧(c i:Rat)≤((c i).natAbs:Rat):=by
        constructor
        · have: -(((c i).natAbs:Nat):Int)≤c i:=by omega
          have h9:((-(((c i).natAbs:Nat):Int):Int):Rat)≤(c i:Rat):=by exact_mod_cast this
          rw [Rat.intCast_neg] at h9;exact h9
        · have:c i≤(((c i).natAbs:Nat):Int):=by omega
          exact_mod_cast this
      rw [← hq];rw [← h1,← hHA] at *
      unfold Ab;constructor
      · apply Classical.byContradiction
        intro k;have:(q+H)*A < 0:=by
          have:=Rat.mul_pos (show 0 < -(q+H) by grind) (show 0 < A by grind);grind
        grind
      · apply Classical.byContradiction
        intro k;have:=Rat.mul_pos (show 0 < q-H by grind) (show 0 < A by grind);grind
    · rw [if_neg hi];exact ab_zero hH0
  have far:∀ t y,(t=y∨t= -y)→1+H≤y→Far (FF c t) 1:=fun t y ht hy=>by
    have hab:Ab t y:=by rcases ht with k | k <;> unfold Ab <;> constructor <;> grind
    have h1:=pe_low hab hH0 hy hce n;have h2:=far_pow ht (show 1≤y by grind) n;have hy1:=pow_ge (B:=y) (by grind) n;have e:∀ m,m≤n→pe (fun i=>if i < n then (c i:Rat) / A else 0) t m*A=pe (rc c) t m:=by
      intro m
      induction m with
      | zero=>intro _;show (0:Rat)*A=0;grind
      | succ m ih=>
        intro hm;show (pe (fun i=>if i < n then (c i:Rat) / A else 0) t m+(if m < n then (c m:Rat) / A else 0)*t^m)*A=pe (rc c) t m+rc c m*t^m
        rw [if_pos (by omega),← ih (by omega)];have:(c m:Rat) / A*A=(c m:Rat):=Rat.div_mul_cancel (by grind);show _=_+(c m:Rat)*t^m
        grind
    have e2:FF c t=pe (rc c) t n+a*t^n:=by
      rw [← FF_lg z,show lg c=n+1 by omega,ha];rfl
    rw [e2,← e n (Nat.le_refl _)];obtain ⟨P,hP⟩:∃ P,P=pe (fun i=>if i < n then (c i:Rat) / A else 0) t n:=⟨_,rfl⟩
    rw [← hP] at h1 ⊢;have h5:Far (P+(if A=a then 1 else -1)*t^n) 1:=by
      unfold Ab at h1;split
      · rcases h2 with k | k
        · left;grind
        · right;grind
      · rcases h2 with k | k
        · right;grind
        · left;grind
    have h6:=Far.mul (d:=1) (e:=A) (by grind) (by grind) h5 (Or.inl (show A≤A by grind));have e3:(P+(if A=a then 1 else -1)*t^n)*A=P*A+a*t^n:=by
      split
      · rename_i k;rw [← k];grind
      · rename_i k
        have:A= -a:=by rcases hAa with x | x;exact absurd x k;exact x
        have ha':a= -A:=by grind
        rw [ha'];grind
    rw [e3] at h6;rcases h6 with k | k
    · left;grind
    · right;grind
  rw [hb];constructor
  · apply Classical.byContradiction
    intro nc;obtain ⟨q,hq⟩:=hC.lo;obtain ⟨t,t1,t2,ht⟩:=v (1 / 2) (by grind) q (-(1+H)) hq nc;unfold Ab at ht
    rcases far t (-t) (Or.inr (by grind)) (by grind) with k | k <;> grind
  · intro cc
    obtain ⟨r,hr⟩:=hC.hi;obtain ⟨t,t1,t2,ht⟩:=v (1 / 2) (by grind) (1+H) r cc hr;unfold Ab at ht;rcases far t t (Or.inl rfl) (by grind) with k | k <;> grind
end
theorem aQSignN{K L n:Nat}{c:Nat→Int}{q:Rat}(zc:z20 c)(hn:n=lg c)(hK:K+L≤476000)(hL:L≤476000):ACall Tryz.prog 73 [.one (qrow K n (rc c)),.agg (qn L q)] (.d (.one (.v (.int .i64 (sgq (FF c q)))))):=by
  subst hn;have hlc:=lg_le c;have h:=aQSign (a:=qrow K (lg c) (rc c)) (K:=K) (c:=c) (n:=lg c) (fun _ _ _ h=>h) (isq L q) (D:=20) (T:=K+L+140) (M:=21*(K+L+140)) (by omega) (by decide) (Nat.le_refl _) (Nat.le_refl _) (by omega);rw [sgn_vl] at h;rw [show sgq (FF c q)=sgq (pz c q (lg c)) by rw [← FF_lg zc];rfl];exact h
theorem leo_iapp{e:TypeId}{i:Nat}{S:List Int}{el2:Nat→Nat→Lf}(h2:el2 0 0= .v (.int .i64 (S.getD i 0))):AO.le (.row e 1 (i+1) (appEl i (sgl S) el2)) (.row e 1 (i+1) (sgl S)):=leo_row fun p hp j hj B w v hv=>by
  obtain rfl:j=0:=by omega
  unfold appEl at hv
  by_cases h:p < i
  · rw [show Nat.ble (p+1) i=true from Nat.ble_eq_true_of_le h] at hv;exact hv
  · obtain rfl:p=i:=by omega
    rw [show Nat.ble (p+1) p=false from by rw [← Bool.not_eq_true,Nat.ble_eq];omega,Nat.sub_self] at hv;exact (show LfR B w (el2 0 0) v from hv) |> fun h9=>by rw [h2] at h9;exact h9
theorem ACall.exh{α:Type}{P:Program}{f:FuncId}{Q:α→Prop}{L:α→Lf}{ds:List DV}{res:AV}(hen:∀ vs w,(callFunc f vs).run P w= .ok (.enter f vs) w)(h:∀ x,Q x→ACall P f (.one (L x) ::ds) res):ACall P f (.one (exL Q L) ::ds) res:=
  ⟨hen,fun B w vs hB hd=>match vs,hd with | v ::vs,⟨⟨x,hq,hl⟩,h2⟩=>(h x hq).go B w (v ::vs) hB ⟨hl,h2⟩⟩
def qac(K:Nat)(c:Nat→Int)(KC X:Nat)(lo:Rat)(Y:Nat)(hi:Rat):List Lf:= [qrow K (lg c) (rc c)] ++ [exL (ChQ c KC) (fun L=>qlr KC L)] ++qn X lo ++qn Y hi
theorem qb_mono{K L:Nat}{q:Rat}(h:Qb K q)(k:K≤L):Qb L q:=⟨Nat.lt_of_lt_of_le h.1 (Nat.pow_le_pow_right (by decide) k),Nat.lt_of_lt_of_le h.2 (Nat.pow_le_pow_right (by decide) k)⟩
theorem aQTurnsAt{KC X:Nat}{L:List (Nat→Int)}{t:Rat}(hz:∀ i,z20 (gl L i))(hL:L.length≤100000)(hK:KC≤100000)(hX:KC+X≤476000):ACall Tryz.prog 139 [.one (qlr KC L),.agg (qn X t)] (.d (.one (.v (.int .i64 ((vr (sgL L t):Nat):Int))))):=by
  refine acallN hTT 24 [.tmp 4] Tryz.func139 rfl rfl rfl rfl rfl<|cR<|mN hTT (.box 30 (qn X t)) rfl rfl rfl<|mW rfl<|mT<|cR<|mW rfl<|mT<|cSeq<|cR<|mv3 rfl rfl rfl<|mT<|cBlock<|AW.wk (wkNil 5 5 3 1 (fun _ _=> .v undef) rfl rfl)<|cLoop (ι:=Nat) (fun (i:Nat)=>⟨24,[(0,.d (.one (.row 1 L.length (elQ KC L)))),(3,.ptr 3 0),(8,.d (.one (.v (.int .i64 ((L.length:Nat):Int))))),(5,.own 5),(9,.d (.one (.v (.int .i64 ((i:Nat):Int)))))],[(3,.box 30 (qn X t)),(5,.row 3 1 i (sgl (sgL L t)))]⟩) (fun (i:Nat)=>i≤L.length) (fun (i:Nat)=>L.length-i) 0 (Nat.zero_le _) (wk rfl ⟨hs rfl,hs rfl,hs rfl,hs rfl,hs' rfl (le_int rfl),trivial⟩ ⟨ho rfl,ho' rfl (leo_row0),trivial⟩ rfl) ?_;rintro i hI;have hi:i≤L.length:=hI;show AW _ _ _ ⟨_,_,_⟩
  refine cR<|mW rfl<|mT<|cSeq<|cCond rfl (fun hc1=>?_) (fun hc1=>?_)
  · skip
    refine cSkip ?_;refine tN ?_;refine cSeq ?_;refine cBlock ?_;refine cSeq ?_;refine cReg ?_;refine mW rfl ?_;refine mW rfl ?_;refine mNil ?_;refine tN ?_;have hin:i < L.length:=by have h0:=of_decide_eq_true hc1;omega
    refine cDrawK hTT 8 (by kernel_rfl) (by kernel_rfl) (by kernel_rfl)<|.cons (OpS.V _ rfl)<|.cons (OpS.V _ rfl)<|.cons (OpS.V _ rfl)<|.cons (OpS.V (.d (.one (.at 1 ((elQ KC L) i)))) (ixR (el:=(elQ KC L)) (z:=((i:Nat):Int)) (n:=L.length) rfl rfl rfl rfl rfl rfl (by omega) (by omega))) ?_;exact .cons (OpS.V (.d (.one (.row 4 (lg (gl L i)) (qel KC (rc (gl L i)))))) rfl)<|.cons (OpS.V (.d (.agg (qn X t))) rfl)<|.cons (OpS.C0 (aQSignN (K:=KC) (L:=X) (c:=(gl L i)) (q:=t) (hz i) rfl (by omega) (by omega)) rfl rfl rfl)<|.cons (OpS.B _ rfl)<|.nil<|mA hTT (id:=5) (n:=i) (m:=1) (el:=(sgl (sgL L t))) (el2:=(fun i' j'=>(([.v (.int .i64 (sgq (FF (gl L i) t)))])[i'*1+j']?).getD (.v undef))) rfl rfl rfl (by show (i+1)*8≤140737488355328;omega) (by omega) rfl rfl rfl rfl rfl rfl rfl rfl rfl rfl<|mW rfl<|mNil<|bN<|tN<|cReg<|mv2 rfl rfl<|mNil<|⟨(i+1),by omega,by omega,wk rfl ⟨hs rfl,hs rfl,hs rfl,hs rfl,hs' rfl (le_int (inc64 (by omega))),trivial⟩ ⟨ho rfl,ho' rfl (leo_iapp (by rw [sgL_at hin];rfl)),trivial⟩ rfl⟩
  · skip
    refine cExit ?_;refine tE ?_;refine tE ?_;refine bE ?_;refine tN ?_;refine cSeq ?_;have hie:i=L.length:=by have h0:=of_decide_eq_false hc1;omega
    have hSl:(sgL L t).length=L.length:=by unfold sgL;rw [List.length_map]
    rw [← hSl] at hie;subst hie;exact AW.wk (wkRow 5 rfl)<|cReg<|mW rfl<|mC0 (aQTurns (S:=(sgL L t)) (sgL_3 L t) (by omega)) rfl rfl rfl<|mW rfl<|mT<|cRet<|rQ rfl (AV.le.rfl)
theorem aQBtwL{KC X Y:Nat}{c:Nat→Int}{L:List (Nat→Int)}{lo hi:Rat}(hQ:ChQ c KC L)(hab:lo≤hi)(hK:KC≤100000)(hX:KC+X≤476000)(hY:KC+Y≤476000):ACall Tryz.prog 75 [.one (qlr KC L),.agg (qn X lo),.agg (qn Y hi)] (.d (.one (.v (.int .i64 ((cntC c lo hi:Nat):Int))))):=by
  obtain ⟨hc1,_,_⟩:=hQ.cnt hab;obtain ⟨_,hln⟩:=hQ.len;have hvl:vr (sgL L lo)≤L.length:=by have:=vrA_le (sgL L lo) 0;unfold sgL at this;rw [List.length_map] at this;exact this
  exact acallN hTT 18 [.tmp 6] Tryz.func75 rfl rfl rfl rfl rfl<|cR<|mN hTT (.box 30 (qn X lo)) rfl rfl rfl<|mN hTT (.box 30 (qn Y hi)) rfl rfl rfl<|mW rfl<|mT<|cSeq<|cR<|mv2 rfl rfl<|mC0 (aRCmpR (isq Y hi) (isq X lo) (by omega) (by omega)) rfl rfl rfl<|mV hTT (.d (.one (.v (.bool false)))) (evb (decide_eq_false (by have:=cmpQ_ge.2 hab;omega)))<|mT<|cFs rfl<|cSeq<|cDrawK hTT 8 (by kernel_rfl) (by kernel_rfl) (by kernel_rfl)<|.cons (OpS.V _ rfl)<|.cons (OpS.V (.d (.agg (qn X lo))) rfl)<|.cons (OpS.C0 (aQTurnsAt (KC:=KC) (X:=X) (L:=L) (t:=lo) hQ.zz (by omega) (by omega) (by omega)) rfl rfl rfl)<|.cons (OpS.V _ rfl)<|.cons (OpS.V (.d (.agg (qn Y hi))) rfl)<|.cons (OpS.C0 (aQTurnsAt (KC:=KC) (X:=Y) (L:=L) (t:=hi) hQ.zz (by omega) (by omega) (by omega)) rfl rfl rfl)<|.cons (OpS.V (.d (.one (.v (.int .i64 ((cntC c lo hi:Nat):Int))))) (evi ((wr64 (by omega) (by omega)).trans (by omega))))<|.cons (OpS.V _ rfl)<|.nil<|mT<|cRet<|rQ rfl (AV.le.rfl)
theorem aQBtw{KC X Y:Nat}{c:Nat→Int}{lo hi:Rat}(hab:lo≤hi)(hK:KC≤100000)(hX:KC+X≤476000)(hY:KC+Y≤476000):ACall Tryz.prog 75 [.one (exL (ChQ c KC) (fun L=>qlr KC L)),.agg (qn X lo),.agg (qn Y hi)] (.d (.one (.v (.int .i64 ((cntC c lo hi:Nat):Int))))):=
  ACall.exh (enters Tryz.func75 rfl rfl) fun L hQ=>aQBtwL hQ hab hK hX hY
theorem aQExact{K KC X:Nat}{c:Nat→Int}{lo hi:Rat}(zc:z20 c)(hX:X≤100000)(hK:K≤100000):ACall Tryz.prog 141 [.agg ([.row 4 (lg c) (qel K (rc c))] ++ [exL (ChQ c KC) (fun L=>qlr KC L)] ++qn X lo ++qn X hi)] (.d (.agg ([.row 4 (lg c) (qel K (rc c))] ++ [exL (ChQ c KC) (fun L=>qlr KC L)] ++qn X ((exF c lo hi).1) ++qn X ((exF c lo hi).2)))):=by
  have hlc:=lg_le c;refine acallN hTT 21 [.cell 2 32] Tryz.func141 rfl rfl rfl rfl rfl<|cR<|mN hTT (.box 32 ([.row 4 (lg c) (qel K (rc c))] ++ [exL (ChQ c KC) (fun L=>qlr KC L)] ++qn X lo ++qn X hi)) rfl rfl rfl<|mN hTT (.box 32 ([.v (.slice none 0 0),.v (.slice none 0 0),.v (.slice none 0 0),.v (.bool false),.v (.slice none 0 0),.v (.bool false),.v (.slice none 0 0),.v (.bool false),.v (.slice none 0 0),.v (.bool false)])) rfl rfl rfl<|mT<|cSeq<|cSeq ?_
  by_cases he:lo=hi
  · skip
    exact cReg<|mv4 rfl rfl rfl rfl<|mC0 (aRCmpR (isq X lo) (isq X hi) (by omega) (by omega)) rfl rfl rfl<|mV hTT (.d (.one (.v (.bool false)))) (evb (by rw [cmpQ_eq he];rfl))<|mW rfl<|mG rfl rfl<|mG rfl rfl<|mG rfl rfl<|mG rfl rfl<|mG rfl rfl<|mG rfl rfl<|mW rfl<|mT<|cFs rfl<|cR<|mW rfl<|mS hTT 2 (.box 32 ([.row 4 (lg c) (qel K (rc c))] ++ [exL (ChQ c KC) (fun L=>qlr KC L)] ++qn X lo ++qn X hi)) rfl<|mT<|cRet<|rQ rfl (by rw [show exF c lo hi=(lo,hi) from if_neg (fun k=>k.1 he)];exact AV.le.rfl)
  · skip
    by_cases h0:sgq (FF c hi)=0
    · skip
      exact cReg<|mv4 rfl rfl rfl rfl<|mC0 (aRCmpR (isq X lo) (isq X hi) (by omega) (by omega)) rfl rfl rfl<|mV hTT (.d (.one (.v (.bool true)))) (evb (bne_iff_ne.2 fun e=>he (cmpQ_zero.1 e)))<|mv5 rfl rfl rfl rfl rfl<|mC0 (aQSignN (K:=K) (L:=X) (c:=c) (q:=hi) (zc) rfl (by omega) (by omega)) rfl rfl rfl<|mV hTT (.d (.one (.v (.bool true)))) (evb (beq_iff_eq.2 h0))<|mW rfl<|mT<|cT rfl<|cReg<|mv3 rfl rfl rfl<|mS hTT 1 (.box 32 ([.row 4 (lg c) (qel K (rc c))] ++ [exL (ChQ c KC) (fun L=>qlr KC L)] ++qn X hi ++qn X hi)) rfl<|mT<|cR<|mW rfl<|mS hTT 2 (.box 32 ([.row 4 (lg c) (qel K (rc c))] ++ [exL (ChQ c KC) (fun L=>qlr KC L)] ++qn X hi ++qn X hi)) rfl<|mT<|cRet<|rQ rfl (by rw [show exF c lo hi=(hi,hi) from if_pos ⟨he,h0⟩];exact AV.le.rfl)
    · skip
      exact cReg<|mv4 rfl rfl rfl rfl<|mC0 (aRCmpR (isq X lo) (isq X hi) (by omega) (by omega)) rfl rfl rfl<|mV hTT (.d (.one (.v (.bool true)))) (evb (bne_iff_ne.2 fun e=>he (cmpQ_zero.1 e)))<|mv5 rfl rfl rfl rfl rfl<|mC0 (aQSignN (K:=K) (L:=X) (c:=c) (q:=hi) (zc) rfl (by omega) (by omega)) rfl rfl rfl<|mV hTT (.d (.one (.v (.bool false)))) (evb (beq_eq_false_iff_ne.2 h0))<|mW rfl<|mT<|cFs rfl<|cR<|mW rfl<|mS hTT 2 (.box 32 ([.row 4 (lg c) (qel K (rc c))] ++ [exL (ChQ c KC) (fun L=>qlr KC L)] ++qn X lo ++qn X hi)) rfl<|mT<|cRet<|rQ rfl (by rw [show exF c lo hi=(lo,hi) from if_neg (fun k=>h0 k.2)];exact AV.le.rfl)
def elA(K:Nat)(c:Nat→Int)(KC X:Nat)(l:List (Rat×Rat)):Nat→Nat→Lf:=fun i j=>((qac K c KC X (l.getD i (0,0)).1 X (l.getD i (0,0)).2)[j]?).getD (.v undef)
section
variable {e:TypeId} {K:Nat} {c:Nat→Int} {KC X:Nat}
theorem leo_aone{p:Rat×Rat}{el2:Nat→Nat→Lf}(h:∀ j,j < 10→el2 0 j=((qac K c KC X p.1 X p.2)[j]?).getD (.v undef)):AO.le (.row e 10 1 el2) (.row e 10 [p].length (elA K c KC X [p])):=leo_row fun i hi j hj B w v hv=>by
  obtain rfl:i=0:=by omega
  rw [h j hj] at hv;exact hv
theorem leo_aapp{l l2:List (Rat×Rat)}:AO.le (.row e 10 (l.length+l2.length) (appEl l.length (elA K c KC X l) (elA K c KC X l2))) (.row e 10 (l ++l2).length (elA K c KC X (l ++l2))):=by
  rw [List.length_append];refine leo_row fun i hi j hj B w v hv=>?_
  unfold appEl at hv
  by_cases h:i < l.length
  · rw [show Nat.ble (i+1) l.length=true from Nat.ble_eq_true_of_le h] at hv
    have e2:(l ++l2).getD i (0,0)=l.getD i (0,0):=by rw [List.getD_eq_getElem?_getD,List.getD_eq_getElem?_getD,List.getElem?_append_left h]
    unfold elA;rw [e2];exact hv
  · rw [show Nat.ble (i+1) l.length=false from by rw [← Bool.not_eq_true,Nat.ble_eq];omega] at hv
    have e2:(l ++l2).getD i (0,0)=l2.getD (i-l.length) (0,0):=by rw [List.getD_eq_getElem?_getD,List.getD_eq_getElem?_getD,List.getElem?_append_right (by omega)]
    unfold elA;rw [e2];exact hv
end
theorem Tb.qb{K L:Nat}{q:Rat}(h:Tb K q)(k:3*K≤L):Qb L q:=⟨Nat.lt_of_lt_of_le (Nat.lt_of_lt_of_le h.1 (b32_b4 K)) (Nat.pow_le_pow_right (by decide) k),Nat.lt_of_lt_of_le (Nat.lt_of_lt_of_le h.2 (b32_b4 K)) (Nat.pow_le_pow_right (by decide) k)⟩
theorem Qb.tb{K L:Nat}{q:Rat}(h:Qb (2*K) q)(k:K≤L):Tb L q:=tb_mono ⟨Nat.lt_of_lt_of_le h.1 (b4_b32 K),Nat.lt_of_lt_of_le h.2 (b4_b32 K)⟩ k
theorem Dz.mid{L J:Nat}{p q:Rat}(h:Dz L J p q):Dz L (J+1) p ((p+q) / 2)∧Dz L (J+1) ((p+q) / 2) q:=by
  obtain ⟨D,R,a,b,c,d,e⟩:=h.e;have hm:=d.mid e;exact ⟨⟨D,R,a,b,c,d.mono (Nat.le_succ _),hm⟩,⟨D,R,a,b,c,hm,e.mono (Nat.le_succ _)⟩⟩
theorem Dz.qb{L J X:Nat}{p q:Rat}(h:Dz L J p q)(hX:3*(3*L+J / 32+1)≤X):Qb X p∧Qb X q:=by
  obtain ⟨a,b⟩:=h.tb (Nat.le_refl _);exact ⟨a.qb hX,b.qb hX⟩
structure SpI(c:Nat→Int)(h1 L J d:Nat)(lo hi:Rat):Prop where
  le:lo≤hi
  l: -(t2 (h1+1))≤lo
  h:hi≤t2 (h1+1)
  w:(hi-lo)*t2 (sepE (lg c) (lg c) h1 h1)≤t2 d
  d:Dz L J lo hi
theorem SpI.down{c:Nat→Int}{h1 L J d:Nat}{lo hi:Rat}(h:SpI c h1 L J (d+1) lo hi):SpI c h1 L (J+1) d lo ((lo+hi) / 2)∧SpI c h1 L (J+1) d ((lo+hi) / 2) hi:=by
  obtain ⟨a1,a2,a3,a4,a5⟩:=h;obtain ⟨m,hm⟩:∃ m,m=(lo+hi) / 2:=⟨_,rfl⟩
  have hd:=a5.mid;rw [← hm] at hd ⊢;have hE:=t2_pos (sepE (lg c) (lg c) h1 h1);have e2:t2 (d+1)=t2 d*2:=by rw [t2_add d 1];rfl
  have w1:m-lo=(hi-lo) / 2:=by grind
  have w2:hi-m=(hi-lo) / 2:=by grind
  refine ⟨⟨by grind,a2,by grind,?_,hd.1⟩,⟨by grind,by grind,a3,?_,hd.2⟩⟩
  · rw [w1];rw [e2] at a4;grind
  · rw [w2];rw [e2] at a4;grind
theorem SpI.ok{c:Nat→Int}{h1 L J d:Nat}{lo hi:Rat}(h:SpI c h1 L J d lo hi)(hC:Cnt c)(b1:∀ i,(c i).natAbs≤2^h1):SpP c lo hi (spF c (d+1) lo hi):=spF_ok hC b1 d lo hi h.le h.l h.h h.w
theorem sp_0{c:Nat→Int}{n:Nat}{lo hi:Rat}(h:cntC c lo hi=0):spF c (n+1) lo hi= []:=if_pos h
theorem sp_1{c:Nat→Int}{n:Nat}{lo hi:Rat}(h:cntC c lo hi=1):spF c (n+1) lo hi= [exF c lo hi]:=by
  show (if cntC c lo hi=0 then [] else _)=_
  rw [if_neg (by omega),if_pos h]
theorem sp_2{c:Nat→Int}{n:Nat}{lo hi:Rat}(h0:¬ cntC c lo hi=0)(h1:¬ cntC c lo hi=1):spF c (n+1) lo hi=spF c n lo ((lo+hi) / 2) ++spF c n ((lo+hi) / 2) hi:=by
  show (if cntC c lo hi=0 then [] else _)=_
  rw [if_neg h0,if_neg h1]
def rtD(c:Nat→Int)(h1:Nat):Nat:=sepE (lg c) (lg c) h1 h1+h1+2
noncomputable def rtF(c:Nat→Int)(h1:Nat):List (Rat×Rat):=spF c (rtD c h1+1) (-(bdQ c)) (bdQ c)
theorem rt_start{c:Nat→Int}{h1 L:Nat}(hC:Cnt c)(b1:∀ i,(c i).natAbs≤2^h1)(hL:Tb L (bdQ c)):SpI c h1 L 0 (rtD c h1) (-(bdQ c)) (bdQ c):=by
  have h0:lg c≠0:=by have:=hC.l2;omega
  have g1:=bdQ_ge h0;have g2:=bdQ_le h0 b1;have hp:=t2_one h1;have e1:((2^h1:Nat):Rat)=t2 h1:=by unfold t2;rfl
  have e2:t2 (h1+1)=t2 h1*2:=by rw [t2_add h1 1];rfl
  rw [e1] at g2;have hE:=t2_pos (sepE (lg c) (lg c) h1 h1);refine ⟨by grind,by rw [e2];grind,by rw [e2];grind,?_,dz_start ?_ hL⟩
  · have w1:bdQ c- -(bdQ c)≤t2 (h1+2):=by rw [show h1+2=h1+1+1 from rfl,t2_add (h1+1) 1,e2,show t2 1=2 from rfl];grind
    have:=Rat.mul_le_mul_of_nonneg_right w1 (show 0≤t2 (sepE (lg c) (lg c) h1 h1) by grind);unfold rtD;rw [Nat.add_assoc,t2_add (sepE _ _ _ _) (h1+2)];grind
  · exact ⟨by rw [Rat.neg_num,Int.natAbs_neg];exact hL.1,by rw [Rat.neg_den];exact hL.2⟩
structure RtP(c:Nat→Int)(l:List (Rat×Rat)):Prop where
  ok:∀ p∈l,OkV c p.1 p.2∧EX c p.1 p.2
  all:∀ C,IsCut C→VC (FF c) C→∃ p∈l,∀ q,cutA c p.1 p.2 q↔C q
  rise:l.Pairwise fun p q=>cmpC (cutA c p.1 p.2) (cutA c q.1 q.2)= -1
  len:l.length=cntC c (-(bdQ c)) (bdQ c)
theorem rt_ok{c:Nat→Int}{h1 L:Nat}(hC:Cnt c)(b1:∀ i,(c i).natAbs≤2^h1)(hL:Tb L (bdQ c)):RtP c (rtF c h1):=by
  have h:=(rt_start hC b1 hL).ok hC b1;exact ⟨fun p hp=>⟨(h.ok p hp).1,(h.ok p hp).2.1⟩,fun C hI v=>by
    obtain ⟨k1,k2⟩:=bdQ_vc hC.z (by have:=hC.l2;omega) hI v;exact h.all C hI v k1 k2,h.rise,h.len⟩
theorem leo_absq{t:TypeId}{K:Nat}{z:Int}:AO.le (.box t ([dn K (Int.natAbs (Rat.num ((z:Int):Rat))),.v (.bool false)] ++rn K ((Rat.den ((z:Int):Rat):Nat):Int))) (.box t (qn K ((Int.natAbs z:Nat):Rat))):=by
  have e: [dn K (Int.natAbs (Rat.num ((z:Int):Rat))),.v (.bool false)] ++rn K ((Rat.den ((z:Int):Rat):Nat):Int)=qn K ((Int.natAbs z:Nat):Rat):=by
    unfold qn;rw [Rat.num_intCast,Rat.den_intCast,Rat.num_natCast,Rat.den_natCast];show _= [dn K (Int.natAbs ((z.natAbs:Nat):Int)),.v (.bool (decide (((z.natAbs:Nat):Int) < 0)))] ++_
    rw [Int.natAbs_natCast,decide_eq_false (show ¬ ((z.natAbs:Nat):Int) < 0 by omega)]
  rw [e];exact fun _ _ _ _ h=>h
theorem aQBound{M Y:Nat}{c:Nat→Int}(zc:z20 c)(h2:2≤lg c)(hM:1≤M)(hM2:M≤100000)(hY:2*M+200≤Y):ACall Tryz.prog 108 [.one (qrow M (lg c) (rc c))] (.d (.agg (qn Y (bdQ c)))):=by
  have hlc:=lg_le c;refine acallN hTT 43 [.cell 2 30] Tryz.func108 rfl rfl rfl rfl rfl<|cR<|mN hTT (.box 30 ([.v (.slice none 0 0),.v (.bool false),.v (.slice none 0 0),.v (.bool false)])) rfl rfl rfl<|mT<|cR<|mC0 (aQZero) rfl rfl rfl<|mN hTT (.box 30 ([.v (.slice none 0 0),.v (.bool false),.v (.slice none 0 0),.v (.bool false)])) rfl rfl rfl<|mS hTT 3 (.box 30 (qn 64 0)) rfl<|mT<|cSeq<|cR<|mW rfl<|mT<|cBlock<|cLoop (ι:=Nat) (fun (i:Nat)=>⟨43,[(0,.d (.one (.row 4 (lg c) (qel M (rc c))))),(2,.ptr 2 0),(3,.ptr 3 0),(4,.d (.one (.v (.int .i64 ((i:Nat):Int)))))],[(2,.box 30 ([.v (.slice none 0 0),.v (.bool false),.v (.slice none 0 0),.v (.bool false)])),(3,.box 30 (qn M ((mxA c i:Nat):Rat)))]⟩) (fun (i:Nat)=>i≤lg c-1) (fun (i:Nat)=>lg c-1-i) 0 (Nat.zero_le _) (wk rfl ⟨hs rfl,hs rfl,hs rfl,hs' rfl (le_int rfl),trivial⟩ ⟨ho rfl,ho' rfl (leo_qt rfl (qb_int (z:=0) (Nat.pow_pos (by decide)) hM)),trivial⟩ rfl) ?_;rintro i hI;have hi:i≤lg c-1:=hI;show AW _ _ _ ⟨_,_,_⟩
  refine cSeq<|cR<|mW rfl<|mV hTT (.d (.one (.v (.int .i64 ((i+1:Nat):Int))))) (evi (inc64 (by omega)))<|mv3 rfl rfl rfl<|mT<|cCond rfl (fun hc1=>?_) (fun hc1=>?_)
  · skip
    refine cSkip ?_;refine tN ?_;refine cSeq ?_;refine cBlock ?_;refine cSeq ?_;have hin:i+1 < lg c:=by have h0:=of_decide_eq_true hc1;omega
    refine cReg<|mv2 rfl rfl<|mV hTT (.d (.one (.at 4 ((qel M (rc c)) i)))) (ixR (el:=(qel M (rc c))) (z:=((i:Nat):Int)) (n:=(lg c)) rfl rfl rfl rfl rfl rfl (by omega) (by omega)) ?_;refine mW rfl<|mN hTT (.box 30 ([.v (.slice none 0 0),.v (.bool false),.v (.slice none 0 0),.v (.bool false)])) rfl rfl rfl<|mS hTT 5 (.box 30 (qn M ((rc c) i))) rfl<|mT<|cR<|mv2 rfl rfl<|mS hTT 5 (.box 30 ([dn M (Int.natAbs (Rat.num ((rc c) i)))] ++ [.v (.bool false)] ++rn M (Rat.den ((rc c) i):Int))) rfl<|mT<|cSeq<|wB [20,19,5,18,17,16,15,12,11,10,9,8,4,3,2,0] [3,2] 5 (.box 30 (qn M ((Int.natAbs (c i):Nat):Rat))) rfl rfl (leo_absq) rfl ?_;refine cReg<|mv2 rfl rfl<|mC0 (aRCmpR (isq M ((Int.natAbs (c i):Nat):Rat)) (isq M ((mxA c i:Nat):Rat)) (by omega) (by omega)) rfl rfl rfl<|mW rfl<|mT<|cCond rfl (fun hc2=>?_) (fun hc2=>?_)
    · skip
      exact cReg<|mW rfl<|mS hTT 3 (.box 30 (qn M ((Int.natAbs (c i):Nat):Rat))) rfl<|mNil<|bN<|tN<|cReg<|mv3 rfl rfl rfl<|mNil<|⟨(i+1),by omega,by omega,wk rfl ⟨hs rfl,hs rfl,hs rfl,hs' rfl (le_int (inc64 (by omega))),trivial⟩ ⟨ho rfl,ho' rfl (leo_qn (Nat.le_refl _) (by have h0:=of_decide_eq_true hc2;have h1:(mxA c i:Rat) < ((c i).natAbs:Rat):=(by apply Classical.byContradiction;intro k;have:=cmpQ_le.2 (show ((c i).natAbs:Rat)≤(mxA c i:Rat) by grind);omega);have h2:mxA c i < (c i).natAbs:=(by exact_mod_cast h1);show ((c i).natAbs:Rat)=((max (mxA c i) (c i).natAbs:Nat):Rat);rw [Nat.max_eq_right (by omega)])),trivial⟩ rfl⟩
    · skip
      exact cSkip<|bN<|tN<|cReg<|mv3 rfl rfl rfl<|mNil<|⟨(i+1),by omega,by omega,wk rfl ⟨hs rfl,hs rfl,hs rfl,hs' rfl (le_int (inc64 (by omega))),trivial⟩ ⟨ho rfl,ho' rfl (leo_qn (Nat.le_refl _) (by have h0:=of_decide_eq_false hc2;have h1:((c i).natAbs:Rat)≤(mxA c i:Rat):=(by apply Classical.byContradiction;intro k;have:=cmpQ_gt (show (mxA c i:Rat) < ((c i).natAbs:Rat) by grind);omega);have h2:(c i).natAbs≤mxA c i:=(by exact_mod_cast h1);show (mxA c i:Rat)=((max (mxA c i) (c i).natAbs:Nat):Rat);rw [Nat.max_eq_left (by omega)])),trivial⟩ rfl⟩
  · skip
    refine cExit ?_;refine tE ?_;refine tE ?_;refine bE ?_;refine tN ?_;refine cSeq ?_;refine cSeq ?_;have hie:i=lg c-1:=by have h0:=of_decide_eq_false hc1;omega
    subst hie;refine cReg<|mv2 rfl rfl<|mV hTT (.d (.one (.v (.bool false)))) (evb (decide_eq_false (by omega)))<|mT<|cFs rfl<|cR<|mv3 rfl rfl rfl<|mV hTT (.d (.one (.v (.int .i64 ((lg c-1:Nat):Int))))) (evi ((wr64 (by omega) (by omega)).trans (by omega)))<|mV hTT (.d (.one (.at 4 ((qel M (rc c)) (lg c-1))))) (ixR (el:=(qel M (rc c))) (z:=((lg c-1:Nat):Int)) (n:=(lg c)) rfl rfl rfl rfl rfl rfl (by omega) (by omega)) ?_;refine mW rfl<|mN hTT (.box 30 ([.v (.slice none 0 0),.v (.bool false),.v (.slice none 0 0),.v (.bool false)])) rfl rfl rfl<|mS hTT 6 (.box 30 (qn M ((rc c) (lg c-1)))) rfl<|mT<|cR<|mv2 rfl rfl<|mS hTT 6 (.box 30 ([dn M (Int.natAbs (Rat.num ((rc c) (lg c-1))))] ++ [.v (.bool false)] ++rn M (Rat.den ((rc c) (lg c-1)):Int))) rfl<|mT<|cSeq<|wB [37,36,6,35,34,33,32,31,30,28,27,26,12,11,10,9,8,4,3,2,0] [3,2] 6 (.box 30 (qn M ((Int.natAbs (c (lg c-1)):Nat):Rat))) rfl rfl (leo_absq) rfl ?_;exact cDrawK hTT 5 (by kernel_rfl) (by kernel_rfl) (by kernel_rfl)<|.cons (OpS.C0 (aROfI (n:=1) (by decide) (by decide)) rfl rfl rfl)<|.cons (OpS.V (.d (.agg (qn M ((mxA c (lg c-1):Nat):Rat)))) rfl)<|.cons (OpS.V (.d (.agg (qn M ((Int.natAbs (c (lg c-1)):Nat):Rat)))) rfl)<|.cons (OpS.C0 (aRQuoR (isq M ((mxA c (lg c-1):Nat):Rat)) (isq M ((Int.natAbs (c (lg c-1)):Nat):Rat)) (by have h0:=lead_pos (c:=c) (by omega);grind) (M:=(max (M+M+1) 64)) (by omega) (by omega)) rfl rfl rfl)<|.cons (OpS.C0 (aRAddR (isq 64 ((1:Int):Rat)) (isq (max (M+M+1) 64) (((mxA c (lg c-1):Nat):Rat) / ((Int.natAbs (c (lg c-1)):Nat):Rat))) (M:=(max (64+(max (M+M+1) 64)+1) 64)) (by omega) (by omega)) rfl rfl rfl)<|.nil<|mS hTT 2 (.box 30 (qn (max (64+(max (M+M+1) 64)+1) 64) (((1:Int):Rat)+(((mxA c (lg c-1):Nat):Rat) / ((Int.natAbs (c (lg c-1)):Nat):Rat))))) rfl<|mT<|cRet<|rQ rfl (le_qn (by omega) rfl)
theorem aQSplitI{K KC X L JM h1 J d:Nat}{c:Nat→Int}{lo hi:Rat}(hC:Cnt c)(b1:∀ i,(c i).natAbs≤2^h1)(hcb:∀ a b,a≤b→cntC c a b≤1000000)(hI:SpI c h1 L J d lo hi)(hJ:J+d≤JM)(hX:3*(3*L+JM / 32+1)≤X)(hX1:X≤90000)(hK:K≤100000)(hKC:KC≤100000)(ih:∀ d',d=d'+1→∀ lo hi J,SpI c h1 L J d' lo hi→J+d'≤JM→ACallR Tryz.prog 109 [.one (qrow K (lg c) (rc c)),.one (exL (ChQ c KC) (fun L=>qlr KC L)),.agg (qn X lo),.agg (qn X hi)] 32 10 (spF c (d'+1) lo hi).length (elA K c KC X (spF c (d'+1) lo hi))):ACallR Tryz.prog 109 [.one (qrow K (lg c) (rc c)),.one (exL (ChQ c KC) (fun L=>qlr KC L)),.agg (qn X lo),.agg (qn X hi)] 32 10 (spF c (d+1) lo hi).length (elA K c KC X (spF c (d+1) lo hi)):=by
  have hlc:=lg_le c;refine acallR hTT 40 8 Tryz.func109 rfl rfl rfl rfl rfl<|cR<|mN hTT (.box 30 (qn X lo)) rfl rfl rfl<|mN hTT (.box 30 (qn X hi)) rfl rfl rfl<|mW rfl<|mT<|cR<|mv3 rfl rfl rfl<|mC0 (aQBtw (KC:=KC) (X:=X) (Y:=X) (c:=c) (lo:=lo) (hi:=hi) hI.le (by omega) (by omega) (by omega)) rfl rfl rfl<|mW rfl<|mT<|cSeq<|cSeq ?_
  by_cases hn0:cntC c lo hi=0
  · skip
    exact cReg<|mW rfl<|mV hTT (.d (.one (.v (.bool true)))) (evb (beq_iff_eq.2 (by omega)))<|mT<|cT rfl<|cR<|mW rfl<|AL.wk (wkNil 8 8 32 10 (fun _ _=> .v undef) rfl rfl)<|mT<|cRet<|tR<|rR 8 (by rfl) (by rfl) (by rw [sp_0 hn0];exact leo_row0 (el:=fun _ _=> .v undef))
  · skip
    by_cases hn1:cntC c lo hi=1
    · skip
      exact cReg<|mW rfl<|mV hTT (.d (.one (.v (.bool false)))) (evb (beq_eq_false_iff_ne.2 (by omega)))<|mT<|cFs rfl<|cSeq<|cR<|mW rfl<|mV hTT (.d (.one (.v (.bool true)))) (evb (beq_iff_eq.2 (by omega)))<|mT<|cT rfl<|cR<|mv5 rfl rfl rfl rfl rfl<|mC0 (aQExact (K:=K) (KC:=KC) (X:=X) (c:=c) (lo:=lo) (hi:=hi) (hC.z) (by omega) (by omega)) rfl rfl rfl<|mR hTT (.row 32 10 1 (fun i' j'=>(([.row 4 (lg c) (qel K (rc c))] ++ [exL (ChQ c KC) (fun L=>qlr KC L)] ++qn X ((exF c lo hi).1) ++qn X ((exF c lo hi).2))[i'*10+j']?).getD (.v undef))) rfl rfl rfl<|mW rfl<|mT<|cRet<|tR<|rR 25 rfl rfl (by rw [sp_1 hn1];exact leo_aone (fun j hj=>by show (_[0*10+j]?).getD _=_;rw [Nat.zero_mul,Nat.zero_add];rfl))
    · skip
      obtain ⟨d',rfl⟩:∃ d',d=d'+1:=by
        cases d with
        | zero=>exfalso;have h9:=split_one hC b1 hI.le hI.l hI.h (by have:=hI.w;rw [show t2 0=1 from rfl] at this;exact this);omega
        | succ d=>exact ⟨d,rfl⟩
      obtain ⟨i1,i2⟩:=hI.down;have hq:=(i1.d.qb (X:=X) (by omega)).2;refine cReg<|mW rfl<|mV hTT (.d (.one (.v (.bool false)))) (evb (beq_eq_false_iff_ne.2 (by omega)))<|mT<|cFs rfl<|cSeq<|cR<|mW rfl<|mV hTT (.d (.one (.v (.bool false)))) (evb (beq_eq_false_iff_ne.2 (by omega)))<|mT<|cFs rfl<|cR<|mv2 rfl rfl<|mC0 (aRHalf (isq X lo) (isq X hi) (M:=(((max X 64)+X)+200)) (by omega) (by omega)) rfl rfl rfl<|mN hTT (.box 30 ([.v (.slice none 0 0),.v (.bool false),.v (.slice none 0 0),.v (.bool false)])) rfl rfl rfl<|mS hTT 10 (.box 30 (qn (((max X 64)+X)+200) ((lo+hi) / 2))) rfl<|mT<|cSeq<|wB [10,28,27,26,18,17,16,15,9,14,13,12,11,8,7,6,3,2,1,0] [7,6] 10 (.box 30 (qn X ((lo+hi) / 2))) rfl rfl (leo_qt rfl hq) rfl<|wK [10,7,6,1,0] [10,7,6] rfl rfl ?_;obtain ⟨l1,hl1⟩:∃ l,l=spF c (d'+1) lo ((lo+hi) / 2):=⟨_,rfl⟩
      have cl1:=ih d' rfl lo ((lo+hi) / 2) (J+1) i1 (by omega);have nl1:l1.length≤1000000:=by have h8:=(i1.ok hC b1).len;have h7:=hcb _ _ i1.le;rw [← hl1] at h8;omega
      rw [← hl1] at cl1;obtain ⟨l2,hl2⟩:∃ l,l=spF c (d'+1) ((lo+hi) / 2) hi:=⟨_,rfl⟩
      have cl2:=ih d' rfl ((lo+hi) / 2) hi (J+1) i2 (by omega);have nl2:l2.length≤1000000:=by have h8:=(i2.ok hC b1).len;have h7:=hcb _ _ i2.le;rw [← hl2] at h8;omega
      rw [← hl2] at cl2;refine cAnyB (by kernel_rfl)<|bTake 0 rfl (by kernel_rfl) (by kernel_rfl) (by kernel_rfl) (fun _ _ h=>h) rfl rfl (av:= .d (.one (.row 4 (lg c) (qel K (rc c))))) (pMove rfl rfl)<|bTake 1 rfl (by kernel_rfl) (by kernel_rfl) (by kernel_rfl) (fun _ _ h=>h) rfl rfl (av:= .d (.one (exL (ChQ c KC) (fun L=>qlr KC L)))) (pMove rfl rfl)<|bTake 5 rfl (by kernel_rfl) (by kernel_rfl) (by kernel_rfl) (fun _ _ h=>h) rfl rfl (av:= .d (.one (.row 4 (lg c) (qel K (rc c))))) (pMove rfl rfl)<|bTake 6 rfl (by kernel_rfl) (by kernel_rfl) (by kernel_rfl) (fun _ _ h=>h) rfl rfl (av:= .d (.one (exL (ChQ c KC) (fun L=>qlr KC L)))) (pMove rfl rfl)<|bOf<|anyCut 1 #[true,true,true,true,true,true,true,true,true,true,true,false] ⟨40,[(0,.d (.one (.row 4 (lg c) (qel K (rc c))))),(1,.d (.one (exL (ChQ c KC) (fun L=>qlr KC L)))),(6,.ptr 6 0),(7,.ptr 7 0),(10,.ptr 10 0),(29,.d (.one (.row 4 (lg c) (qel K (rc c))))),(30,.d (.one (exL (ChQ c KC) (fun L=>qlr KC L)))),(34,.d (.one (.row 4 (lg c) (qel K (rc c))))),(35,.d (.one (exL (ChQ c KC) (fun L=>qlr KC L)))),(31,.d (.agg (qn X lo))),(32,.d (.agg (qn X ((lo+hi) / 2)))),(33,.dead),(36,.d (.agg (qn X ((lo+hi) / 2)))),(37,.d (.agg (qn X hi))),(38,.d (.one (.row 10 l2.length (elA K c KC X l2)))),(39,.own 33)],[(6,.box 30 (qn X lo)),(7,.box 30 (qn X hi)),(10,.box 30 (qn X ((lo+hi) / 2))),(33,.row 32 10 (l1.length+l2.length) (appEl l1.length (elA K c KC X l1) (elA K c KC X l2)))]⟩ ?_ (fun hD111111111110=>?_)
      · skip
        refine anyS [11] (by kernel_rfl) rfl ?_;refine ⟨⟨_,rfl,?_⟩,trivial⟩
        · skip
          exact mW rfl<|mT<|anyN (by kernel_rfl)<|tN<|cRet<|rR 33 rfl rfl (by rw [sp_2 hn0 hn1];rw [← hl1,← hl2];exact leo_aapp)
      refine anyCut 2 #[true,true,true,true,true,true,true,true,true,true,false,false] ⟨40,[(0,.d (.one (.row 4 (lg c) (qel K (rc c))))),(1,.d (.one (exL (ChQ c KC) (fun L=>qlr KC L)))),(6,.ptr 6 0),(7,.ptr 7 0),(10,.ptr 10 0),(29,.d (.one (.row 4 (lg c) (qel K (rc c))))),(30,.d (.one (exL (ChQ c KC) (fun L=>qlr KC L)))),(34,.d (.one (.row 4 (lg c) (qel K (rc c))))),(35,.d (.one (exL (ChQ c KC) (fun L=>qlr KC L)))),(31,.d (.agg (qn X lo))),(32,.d (.agg (qn X ((lo+hi) / 2)))),(33,.own 33),(36,.d (.agg (qn X ((lo+hi) / 2)))),(37,.d (.agg (qn X hi))),(38,.own 38)],[(6,.box 30 (qn X lo)),(7,.box 30 (qn X hi)),(10,.box 30 (qn X ((lo+hi) / 2))),(33,.row 32 10 l1.length (elA K c KC X l1)),(38,.row 32 10 l2.length (elA K c KC X l2))]⟩ ?_ (fun hD111111111100=>?_)
      · skip
        refine anyS [10] (by kernel_rfl) rfl ?_;refine ⟨⟨_,rfl,?_⟩,trivial⟩
        · skip
          exact AL.wk (wkRow 38 rfl)<|mA hTT (id:=33) (n:=l1.length) (m:=l2.length) (el:=(elA K c KC X l1)) (el2:=(elA K c KC X l2)) rfl rfl rfl (by show (l1.length+l2.length)*176≤140737488355328;omega) (by omega) rfl rfl rfl rfl rfl rfl rfl rfl rfl rfl<|mT<|anyV hD111111111110 11 [] (by kernel_rfl) (wkr rfl rfl)
      refine anyCut 3 #[true,true,true,true,true,true,true,true,true,false,false,false] ⟨40,[(0,.d (.one (.row 4 (lg c) (qel K (rc c))))),(1,.d (.one (exL (ChQ c KC) (fun L=>qlr KC L)))),(6,.ptr 6 0),(7,.ptr 7 0),(10,.ptr 10 0),(29,.d (.one (.row 4 (lg c) (qel K (rc c))))),(30,.d (.one (exL (ChQ c KC) (fun L=>qlr KC L)))),(34,.d (.one (.row 4 (lg c) (qel K (rc c))))),(35,.d (.one (exL (ChQ c KC) (fun L=>qlr KC L)))),(31,.d (.agg (qn X lo))),(32,.d (.agg (qn X ((lo+hi) / 2)))),(33,.own 33),(36,.d (.agg (qn X ((lo+hi) / 2)))),(37,.d (.agg (qn X hi)))],[(6,.box 30 (qn X lo)),(7,.box 30 (qn X hi)),(10,.box 30 (qn X ((lo+hi) / 2))),(33,.row 32 10 l1.length (elA K c KC X l1))]⟩ ?_ (fun hD111111111000=>?_)
      · skip
        refine anyS [9] (by kernel_rfl) rfl ?_;refine ⟨⟨_,rfl,?_⟩,trivial⟩
        · skip
          exact mCR cl2 rfl rfl rfl rfl rfl<|mT<|anyV hD111111111100 10 [] (by kernel_rfl) (wkr rfl rfl)
      refine anyCut 4 #[true,true,true,true,true,true,true,false,true,false,false,false] ⟨40,[(0,.d (.one (.row 4 (lg c) (qel K (rc c))))),(1,.d (.one (exL (ChQ c KC) (fun L=>qlr KC L)))),(6,.ptr 6 0),(7,.ptr 7 0),(10,.ptr 10 0),(29,.d (.one (.row 4 (lg c) (qel K (rc c))))),(30,.d (.one (exL (ChQ c KC) (fun L=>qlr KC L)))),(34,.d (.one (.row 4 (lg c) (qel K (rc c))))),(35,.d (.one (exL (ChQ c KC) (fun L=>qlr KC L)))),(31,.d (.agg (qn X lo))),(32,.d (.agg (qn X ((lo+hi) / 2)))),(33,.own 33),(37,.d (.agg (qn X hi)))],[(6,.box 30 (qn X lo)),(7,.box 30 (qn X hi)),(10,.box 30 (qn X ((lo+hi) / 2))),(33,.row 32 10 l1.length (elA K c KC X l1))]⟩ ?_ (fun hD111111101000=>?_)
      · skip
        refine anyS [7] (by kernel_rfl) rfl ?_;refine ⟨⟨_,rfl,?_⟩,trivial⟩
        · skip
          exact mW rfl<|mT<|anyV hD111111111000 9 [] (by kernel_rfl) (wkr rfl rfl)
      refine anyCut 4 #[true,true,true,true,true,true,true,true,false,false,false,false] ⟨40,[(0,.d (.one (.row 4 (lg c) (qel K (rc c))))),(1,.d (.one (exL (ChQ c KC) (fun L=>qlr KC L)))),(6,.ptr 6 0),(7,.ptr 7 0),(10,.ptr 10 0),(29,.d (.one (.row 4 (lg c) (qel K (rc c))))),(30,.d (.one (exL (ChQ c KC) (fun L=>qlr KC L)))),(34,.d (.one (.row 4 (lg c) (qel K (rc c))))),(35,.d (.one (exL (ChQ c KC) (fun L=>qlr KC L)))),(31,.d (.agg (qn X lo))),(32,.d (.agg (qn X ((lo+hi) / 2)))),(33,.own 33),(36,.d (.agg (qn X ((lo+hi) / 2))))],[(6,.box 30 (qn X lo)),(7,.box 30 (qn X hi)),(10,.box 30 (qn X ((lo+hi) / 2))),(33,.row 32 10 l1.length (elA K c KC X l1))]⟩ ?_ (fun hD111111110000=>?_)
      · skip
        refine anyS [8] (by kernel_rfl) rfl ?_;refine ⟨⟨_,rfl,?_⟩,trivial⟩
        · skip
          exact mW rfl<|mT<|anyV hD111111111000 9 [] (by kernel_rfl) (wkr rfl rfl)
      refine anyCut 4 #[true,true,true,true,false,true,true,true,true,false,false,false] ⟨40,[(0,.d (.one (.row 4 (lg c) (qel K (rc c))))),(1,.d (.one (exL (ChQ c KC) (fun L=>qlr KC L)))),(6,.ptr 6 0),(7,.ptr 7 0),(10,.ptr 10 0),(29,.d (.one (.row 4 (lg c) (qel K (rc c))))),(30,.d (.one (exL (ChQ c KC) (fun L=>qlr KC L)))),(34,.d (.one (.row 4 (lg c) (qel K (rc c))))),(35,.d (.one (exL (ChQ c KC) (fun L=>qlr KC L)))),(31,.d (.agg (qn X lo))),(32,.d (.agg (qn X ((lo+hi) / 2)))),(36,.d (.agg (qn X ((lo+hi) / 2)))),(37,.d (.agg (qn X hi)))],[(6,.box 30 (qn X lo)),(7,.box 30 (qn X hi)),(10,.box 30 (qn X ((lo+hi) / 2)))]⟩ ?_ (fun hD111101111000=>?_)
      · skip
        refine anyS [4] (by kernel_rfl) rfl ?_;refine ⟨⟨_,rfl,?_⟩,trivial⟩
        · skip
          exact mCR cl1 rfl rfl rfl rfl rfl<|mT<|anyV hD111111111000 9 [] (by kernel_rfl) (wkr rfl rfl)
      refine anyCut 5 #[true,true,true,true,false,true,true,true,false,false,false,false] ⟨40,[(0,.d (.one (.row 4 (lg c) (qel K (rc c))))),(1,.d (.one (exL (ChQ c KC) (fun L=>qlr KC L)))),(6,.ptr 6 0),(7,.ptr 7 0),(10,.ptr 10 0),(29,.d (.one (.row 4 (lg c) (qel K (rc c))))),(30,.d (.one (exL (ChQ c KC) (fun L=>qlr KC L)))),(34,.d (.one (.row 4 (lg c) (qel K (rc c))))),(35,.d (.one (exL (ChQ c KC) (fun L=>qlr KC L)))),(31,.d (.agg (qn X lo))),(32,.d (.agg (qn X ((lo+hi) / 2)))),(36,.d (.agg (qn X ((lo+hi) / 2))))],[(6,.box 30 (qn X lo)),(7,.box 30 (qn X hi)),(10,.box 30 (qn X ((lo+hi) / 2)))]⟩ ?_ (fun hD111101110000=>?_)
      · skip
        refine anyS [4,8] (by kernel_rfl) rfl ?_;refine ⟨⟨_,rfl,?_⟩,⟨_,rfl,?_⟩,trivial⟩
        · skip
          exact mCR cl1 rfl rfl rfl rfl rfl<|mT<|anyV hD111111110000 8 [] (by kernel_rfl) (wkr rfl rfl)
        · skip
          exact mW rfl<|mT<|anyV hD111101111000 4 [] (by kernel_rfl) (wkr rfl rfl)
      refine anyCut 5 #[true,true,true,false,false,true,true,true,true,false,false,false] ⟨40,[(0,.d (.one (.row 4 (lg c) (qel K (rc c))))),(1,.d (.one (exL (ChQ c KC) (fun L=>qlr KC L)))),(6,.ptr 6 0),(7,.ptr 7 0),(10,.ptr 10 0),(29,.d (.one (.row 4 (lg c) (qel K (rc c))))),(30,.d (.one (exL (ChQ c KC) (fun L=>qlr KC L)))),(34,.d (.one (.row 4 (lg c) (qel K (rc c))))),(35,.d (.one (exL (ChQ c KC) (fun L=>qlr KC L)))),(31,.d (.agg (qn X lo))),(36,.d (.agg (qn X ((lo+hi) / 2)))),(37,.d (.agg (qn X hi)))],[(6,.box 30 (qn X lo)),(7,.box 30 (qn X hi)),(10,.box 30 (qn X ((lo+hi) / 2)))]⟩ ?_ (fun hD111001111000=>?_)
      · skip
        refine anyS [3] (by kernel_rfl) rfl ?_;refine ⟨⟨_,rfl,?_⟩,trivial⟩
        · skip
          exact mW rfl<|mT<|anyV hD111101111000 4 [] (by kernel_rfl) (wkr rfl rfl)
      refine anyCut 5 #[true,true,true,true,true,true,true,false,false,false,false,false] ⟨40,[(0,.d (.one (.row 4 (lg c) (qel K (rc c))))),(1,.d (.one (exL (ChQ c KC) (fun L=>qlr KC L)))),(6,.ptr 6 0),(7,.ptr 7 0),(10,.ptr 10 0),(29,.d (.one (.row 4 (lg c) (qel K (rc c))))),(30,.d (.one (exL (ChQ c KC) (fun L=>qlr KC L)))),(34,.d (.one (.row 4 (lg c) (qel K (rc c))))),(35,.d (.one (exL (ChQ c KC) (fun L=>qlr KC L)))),(31,.d (.agg (qn X lo))),(32,.d (.agg (qn X ((lo+hi) / 2)))),(33,.own 33)],[(6,.box 30 (qn X lo)),(7,.box 30 (qn X hi)),(10,.box 30 (qn X ((lo+hi) / 2))),(33,.row 32 10 l1.length (elA K c KC X l1))]⟩ ?_ (fun hD111111100000=>?_)
      · skip
        refine anyS [7,8] (by kernel_rfl) rfl ?_;refine ⟨⟨_,rfl,?_⟩,⟨_,rfl,?_⟩,trivial⟩
        · skip
          exact mW rfl<|mT<|anyV hD111111110000 8 [] (by kernel_rfl) (wkr rfl rfl)
        · skip
          exact mW rfl<|mT<|anyV hD111111101000 7 [] (by kernel_rfl) (wkr rfl rfl)
      refine anyCut 5 #[true,true,true,true,false,true,true,false,true,false,false,false] ⟨40,[(0,.d (.one (.row 4 (lg c) (qel K (rc c))))),(1,.d (.one (exL (ChQ c KC) (fun L=>qlr KC L)))),(6,.ptr 6 0),(7,.ptr 7 0),(10,.ptr 10 0),(29,.d (.one (.row 4 (lg c) (qel K (rc c))))),(30,.d (.one (exL (ChQ c KC) (fun L=>qlr KC L)))),(34,.d (.one (.row 4 (lg c) (qel K (rc c))))),(35,.d (.one (exL (ChQ c KC) (fun L=>qlr KC L)))),(31,.d (.agg (qn X lo))),(32,.d (.agg (qn X ((lo+hi) / 2)))),(37,.d (.agg (qn X hi)))],[(6,.box 30 (qn X lo)),(7,.box 30 (qn X hi)),(10,.box 30 (qn X ((lo+hi) / 2)))]⟩ ?_ (fun hD111101101000=>?_)
      · skip
        refine anyS [4,7] (by kernel_rfl) rfl ?_;refine ⟨⟨_,rfl,?_⟩,⟨_,rfl,?_⟩,trivial⟩
        · skip
          exact mCR cl1 rfl rfl rfl rfl rfl<|mT<|anyV hD111111101000 7 [] (by kernel_rfl) (wkr rfl rfl)
        · skip
          exact mW rfl<|mT<|anyV hD111101111000 4 [] (by kernel_rfl) (wkr rfl rfl)
      refine anyCut 5 #[true,true,false,true,false,true,true,true,true,false,false,false] ⟨40,[(0,.d (.one (.row 4 (lg c) (qel K (rc c))))),(1,.d (.one (exL (ChQ c KC) (fun L=>qlr KC L)))),(6,.ptr 6 0),(7,.ptr 7 0),(10,.ptr 10 0),(29,.d (.one (.row 4 (lg c) (qel K (rc c))))),(30,.d (.one (exL (ChQ c KC) (fun L=>qlr KC L)))),(34,.d (.one (.row 4 (lg c) (qel K (rc c))))),(35,.d (.one (exL (ChQ c KC) (fun L=>qlr KC L)))),(32,.d (.agg (qn X ((lo+hi) / 2)))),(36,.d (.agg (qn X ((lo+hi) / 2)))),(37,.d (.agg (qn X hi)))],[(6,.box 30 (qn X lo)),(7,.box 30 (qn X hi)),(10,.box 30 (qn X ((lo+hi) / 2)))]⟩ ?_ (fun hD110101111000=>?_)
      · skip
        refine anyS [2] (by kernel_rfl) rfl ?_;refine ⟨⟨_,rfl,?_⟩,trivial⟩
        · skip
          exact mW rfl<|mT<|anyV hD111101111000 4 [] (by kernel_rfl) (wkr rfl rfl)
      refine anyCut 6 #[true,true,false,true,false,true,true,true,false,false,false,false] ⟨40,[(0,.d (.one (.row 4 (lg c) (qel K (rc c))))),(1,.d (.one (exL (ChQ c KC) (fun L=>qlr KC L)))),(6,.ptr 6 0),(7,.ptr 7 0),(10,.ptr 10 0),(29,.d (.one (.row 4 (lg c) (qel K (rc c))))),(30,.d (.one (exL (ChQ c KC) (fun L=>qlr KC L)))),(34,.d (.one (.row 4 (lg c) (qel K (rc c))))),(35,.d (.one (exL (ChQ c KC) (fun L=>qlr KC L)))),(32,.d (.agg (qn X ((lo+hi) / 2)))),(36,.d (.agg (qn X ((lo+hi) / 2))))],[(6,.box 30 (qn X lo)),(7,.box 30 (qn X hi)),(10,.box 30 (qn X ((lo+hi) / 2)))]⟩ ?_ (fun hD110101110000=>?_)
      · skip
        refine anyS [2,8] (by kernel_rfl) rfl ?_;refine ⟨⟨_,rfl,?_⟩,⟨_,rfl,?_⟩,trivial⟩
        · skip
          exact mW rfl<|mT<|anyV hD111101110000 4 [8] (by kernel_rfl) (wkr rfl rfl)
        · skip
          exact mW rfl<|mT<|anyV hD110101111000 2 [] (by kernel_rfl) (wkr rfl rfl)
      refine anyCut 6 #[true,true,true,false,false,true,true,false,true,false,false,false] ⟨40,[(0,.d (.one (.row 4 (lg c) (qel K (rc c))))),(1,.d (.one (exL (ChQ c KC) (fun L=>qlr KC L)))),(6,.ptr 6 0),(7,.ptr 7 0),(10,.ptr 10 0),(29,.d (.one (.row 4 (lg c) (qel K (rc c))))),(30,.d (.one (exL (ChQ c KC) (fun L=>qlr KC L)))),(34,.d (.one (.row 4 (lg c) (qel K (rc c))))),(35,.d (.one (exL (ChQ c KC) (fun L=>qlr KC L)))),(31,.d (.agg (qn X lo))),(37,.d (.agg (qn X hi)))],[(6,.box 30 (qn X lo)),(7,.box 30 (qn X hi)),(10,.box 30 (qn X ((lo+hi) / 2)))]⟩ ?_ (fun hD111001101000=>?_)
      · skip
        refine anyS [3,7] (by kernel_rfl) rfl ?_;refine ⟨⟨_,rfl,?_⟩,⟨_,rfl,?_⟩,trivial⟩
        · skip
          exact mW rfl<|mT<|anyV hD111101101000 4 [7] (by kernel_rfl) (wkr rfl rfl)
        · skip
          exact mW rfl<|mT<|anyV hD111001111000 3 [] (by kernel_rfl) (wkr rfl rfl)
      refine anyCut 6 #[true,true,true,false,false,true,true,true,false,false,false,false] ⟨40,[(0,.d (.one (.row 4 (lg c) (qel K (rc c))))),(1,.d (.one (exL (ChQ c KC) (fun L=>qlr KC L)))),(6,.ptr 6 0),(7,.ptr 7 0),(10,.ptr 10 0),(29,.d (.one (.row 4 (lg c) (qel K (rc c))))),(30,.d (.one (exL (ChQ c KC) (fun L=>qlr KC L)))),(34,.d (.one (.row 4 (lg c) (qel K (rc c))))),(35,.d (.one (exL (ChQ c KC) (fun L=>qlr KC L)))),(31,.d (.agg (qn X lo))),(36,.d (.agg (qn X ((lo+hi) / 2))))],[(6,.box 30 (qn X lo)),(7,.box 30 (qn X hi)),(10,.box 30 (qn X ((lo+hi) / 2)))]⟩ ?_ (fun hD111001110000=>?_)
      · skip
        refine anyS [3,8] (by kernel_rfl) rfl ?_;refine ⟨⟨_,rfl,?_⟩,⟨_,rfl,?_⟩,trivial⟩
        · skip
          exact mW rfl<|mT<|anyV hD111101110000 4 [8] (by kernel_rfl) (wkr rfl rfl)
        · skip
          exact mW rfl<|mT<|anyV hD111001111000 3 [] (by kernel_rfl) (wkr rfl rfl)
      refine anyCut 6 #[true,true,true,true,false,true,true,false,false,false,false,false] ⟨40,[(0,.d (.one (.row 4 (lg c) (qel K (rc c))))),(1,.d (.one (exL (ChQ c KC) (fun L=>qlr KC L)))),(6,.ptr 6 0),(7,.ptr 7 0),(10,.ptr 10 0),(29,.d (.one (.row 4 (lg c) (qel K (rc c))))),(30,.d (.one (exL (ChQ c KC) (fun L=>qlr KC L)))),(34,.d (.one (.row 4 (lg c) (qel K (rc c))))),(35,.d (.one (exL (ChQ c KC) (fun L=>qlr KC L)))),(31,.d (.agg (qn X lo))),(32,.d (.agg (qn X ((lo+hi) / 2))))],[(6,.box 30 (qn X lo)),(7,.box 30 (qn X hi)),(10,.box 30 (qn X ((lo+hi) / 2)))]⟩ ?_ (fun hD111101100000=>?_)
      · skip
        refine anyS [4,7,8] (by kernel_rfl) rfl ?_;refine ⟨⟨_,rfl,?_⟩,⟨_,rfl,?_⟩,⟨_,rfl,?_⟩,trivial⟩
        · skip
          exact mCR cl1 rfl rfl rfl rfl rfl<|mT<|anyV hD111111100000 7 [8] (by kernel_rfl) (wkr rfl rfl)
        · skip
          exact mW rfl<|mT<|anyV hD111101110000 4 [8] (by kernel_rfl) (wkr rfl rfl)
        · skip
          exact mW rfl<|mT<|anyV hD111101101000 4 [7] (by kernel_rfl) (wkr rfl rfl)
      refine anyCut 6 #[true,true,false,false,false,true,true,true,true,false,false,false] ⟨40,[(0,.d (.one (.row 4 (lg c) (qel K (rc c))))),(1,.d (.one (exL (ChQ c KC) (fun L=>qlr KC L)))),(6,.ptr 6 0),(7,.ptr 7 0),(10,.ptr 10 0),(29,.d (.one (.row 4 (lg c) (qel K (rc c))))),(30,.d (.one (exL (ChQ c KC) (fun L=>qlr KC L)))),(34,.d (.one (.row 4 (lg c) (qel K (rc c))))),(35,.d (.one (exL (ChQ c KC) (fun L=>qlr KC L)))),(36,.d (.agg (qn X ((lo+hi) / 2)))),(37,.d (.agg (qn X hi)))],[(6,.box 30 (qn X lo)),(7,.box 30 (qn X hi)),(10,.box 30 (qn X ((lo+hi) / 2)))]⟩ ?_ (fun hD110001111000=>?_)
      · skip
        refine anyS [2,3] (by kernel_rfl) rfl ?_;refine ⟨⟨_,rfl,?_⟩,⟨_,rfl,?_⟩,trivial⟩
        · skip
          exact mW rfl<|mT<|anyV hD111001111000 3 [] (by kernel_rfl) (wkr rfl rfl)
        · skip
          exact mW rfl<|mT<|anyV hD110101111000 2 [] (by kernel_rfl) (wkr rfl rfl)
      refine anyCut 6 #[true,true,false,true,false,true,true,false,true,false,false,false] ⟨40,[(0,.d (.one (.row 4 (lg c) (qel K (rc c))))),(1,.d (.one (exL (ChQ c KC) (fun L=>qlr KC L)))),(6,.ptr 6 0),(7,.ptr 7 0),(10,.ptr 10 0),(29,.d (.one (.row 4 (lg c) (qel K (rc c))))),(30,.d (.one (exL (ChQ c KC) (fun L=>qlr KC L)))),(34,.d (.one (.row 4 (lg c) (qel K (rc c))))),(35,.d (.one (exL (ChQ c KC) (fun L=>qlr KC L)))),(32,.d (.agg (qn X ((lo+hi) / 2)))),(37,.d (.agg (qn X hi)))],[(6,.box 30 (qn X lo)),(7,.box 30 (qn X hi)),(10,.box 30 (qn X ((lo+hi) / 2)))]⟩ ?_ (fun hD110101101000=>?_)
      · skip
        refine anyS [2,7] (by kernel_rfl) rfl ?_;refine ⟨⟨_,rfl,?_⟩,⟨_,rfl,?_⟩,trivial⟩
        · skip
          exact mW rfl<|mT<|anyV hD111101101000 4 [7] (by kernel_rfl) (wkr rfl rfl)
        · skip
          exact mW rfl<|mT<|anyV hD110101111000 2 [] (by kernel_rfl) (wkr rfl rfl)
      refine anyCut 7 #[true,true,true,false,false,true,true,false,false,false,false,false] ⟨40,[(0,.d (.one (.row 4 (lg c) (qel K (rc c))))),(1,.d (.one (exL (ChQ c KC) (fun L=>qlr KC L)))),(6,.ptr 6 0),(7,.ptr 7 0),(10,.ptr 10 0),(29,.d (.one (.row 4 (lg c) (qel K (rc c))))),(30,.d (.one (exL (ChQ c KC) (fun L=>qlr KC L)))),(34,.d (.one (.row 4 (lg c) (qel K (rc c))))),(35,.d (.one (exL (ChQ c KC) (fun L=>qlr KC L)))),(31,.d (.agg (qn X lo)))],[(6,.box 30 (qn X lo)),(7,.box 30 (qn X hi)),(10,.box 30 (qn X ((lo+hi) / 2)))]⟩ ?_ (fun hD111001100000=>?_)
      · skip
        refine anyS [3,7,8] (by kernel_rfl) rfl ?_;refine ⟨⟨_,rfl,?_⟩,⟨_,rfl,?_⟩,⟨_,rfl,?_⟩,trivial⟩
        · skip
          exact mW rfl<|mT<|anyV hD111101100000 4 [7,8] (by kernel_rfl) (wkr rfl rfl)
        · skip
          exact mW rfl<|mT<|anyV hD111001110000 3 [8] (by kernel_rfl) (wkr rfl rfl)
        · skip
          exact mW rfl<|mT<|anyV hD111001101000 3 [7] (by kernel_rfl) (wkr rfl rfl)
      refine anyCut 7 #[true,true,false,true,false,true,true,false,false,false,false,false] ⟨40,[(0,.d (.one (.row 4 (lg c) (qel K (rc c))))),(1,.d (.one (exL (ChQ c KC) (fun L=>qlr KC L)))),(6,.ptr 6 0),(7,.ptr 7 0),(10,.ptr 10 0),(29,.d (.one (.row 4 (lg c) (qel K (rc c))))),(30,.d (.one (exL (ChQ c KC) (fun L=>qlr KC L)))),(34,.d (.one (.row 4 (lg c) (qel K (rc c))))),(35,.d (.one (exL (ChQ c KC) (fun L=>qlr KC L)))),(32,.d (.agg (qn X ((lo+hi) / 2))))],[(6,.box 30 (qn X lo)),(7,.box 30 (qn X hi)),(10,.box 30 (qn X ((lo+hi) / 2)))]⟩ ?_ (fun hD110101100000=>?_)
      · skip
        refine anyS [2,7,8] (by kernel_rfl) rfl ?_;refine ⟨⟨_,rfl,?_⟩,⟨_,rfl,?_⟩,⟨_,rfl,?_⟩,trivial⟩
        · skip
          exact mW rfl<|mT<|anyV hD111101100000 4 [7,8] (by kernel_rfl) (wkr rfl rfl)
        · skip
          exact mW rfl<|mT<|anyV hD110101110000 2 [8] (by kernel_rfl) (wkr rfl rfl)
        · skip
          exact mW rfl<|mT<|anyV hD110101101000 2 [7] (by kernel_rfl) (wkr rfl rfl)
      refine anyCut 7 #[true,true,false,false,false,true,true,false,true,false,false,false] ⟨40,[(0,.d (.one (.row 4 (lg c) (qel K (rc c))))),(1,.d (.one (exL (ChQ c KC) (fun L=>qlr KC L)))),(6,.ptr 6 0),(7,.ptr 7 0),(10,.ptr 10 0),(29,.d (.one (.row 4 (lg c) (qel K (rc c))))),(30,.d (.one (exL (ChQ c KC) (fun L=>qlr KC L)))),(34,.d (.one (.row 4 (lg c) (qel K (rc c))))),(35,.d (.one (exL (ChQ c KC) (fun L=>qlr KC L)))),(37,.d (.agg (qn X hi)))],[(6,.box 30 (qn X lo)),(7,.box 30 (qn X hi)),(10,.box 30 (qn X ((lo+hi) / 2)))]⟩ ?_ (fun hD110001101000=>?_)
      · skip
        refine anyS [2,3,7] (by kernel_rfl) rfl ?_;refine ⟨⟨_,rfl,?_⟩,⟨_,rfl,?_⟩,⟨_,rfl,?_⟩,trivial⟩
        · skip
          exact mW rfl<|mT<|anyV hD111001101000 3 [7] (by kernel_rfl) (wkr rfl rfl)
        · skip
          exact mW rfl<|mT<|anyV hD110101101000 2 [7] (by kernel_rfl) (wkr rfl rfl)
        · skip
          exact mW rfl<|mT<|anyV hD110001111000 2 [3] (by kernel_rfl) (wkr rfl rfl)
      refine anyCut 7 #[true,true,false,false,false,true,true,true,false,false,false,false] ⟨40,[(0,.d (.one (.row 4 (lg c) (qel K (rc c))))),(1,.d (.one (exL (ChQ c KC) (fun L=>qlr KC L)))),(6,.ptr 6 0),(7,.ptr 7 0),(10,.ptr 10 0),(29,.d (.one (.row 4 (lg c) (qel K (rc c))))),(30,.d (.one (exL (ChQ c KC) (fun L=>qlr KC L)))),(34,.d (.one (.row 4 (lg c) (qel K (rc c))))),(35,.d (.one (exL (ChQ c KC) (fun L=>qlr KC L)))),(36,.d (.agg (qn X ((lo+hi) / 2))))],[(6,.box 30 (qn X lo)),(7,.box 30 (qn X hi)),(10,.box 30 (qn X ((lo+hi) / 2)))]⟩ ?_ (fun hD110001110000=>?_)
      · skip
        refine anyS [2,3,8] (by kernel_rfl) rfl ?_;refine ⟨⟨_,rfl,?_⟩,⟨_,rfl,?_⟩,⟨_,rfl,?_⟩,trivial⟩
        · skip
          exact mW rfl<|mT<|anyV hD111001110000 3 [8] (by kernel_rfl) (wkr rfl rfl)
        · skip
          exact mW rfl<|mT<|anyV hD110101110000 2 [8] (by kernel_rfl) (wkr rfl rfl)
        · skip
          exact mW rfl<|mT<|anyV hD110001111000 2 [3] (by kernel_rfl) (wkr rfl rfl)
      refine anyS [2,3,7,8] (by kernel_rfl) rfl ?_;refine ⟨⟨_,rfl,?_⟩,⟨_,rfl,?_⟩,⟨_,rfl,?_⟩,⟨_,rfl,?_⟩,trivial⟩
      · skip
        exact mW rfl<|mT<|anyV hD111001100000 3 [7,8] (by kernel_rfl) (wkr rfl rfl)
      · skip
        exact mW rfl<|mT<|anyV hD110101100000 2 [7,8] (by kernel_rfl) (wkr rfl rfl)
      · skip
        exact mW rfl<|mT<|anyV hD110001110000 2 [3,8] (by kernel_rfl) (wkr rfl rfl)
      · skip
        exact mW rfl<|mT<|anyV hD110001101000 2 [3,7] (by kernel_rfl) (wkr rfl rfl)
theorem cnt_bd{c:Nat→Int}{KC:Nat}{L:List (Nat→Int)}(h:ChQ c KC L)(a b:Rat)(hab:a≤b):cntC c a b≤1000000:=by
  obtain ⟨h1,_,_⟩:=h.cnt hab;obtain ⟨_,hl⟩:=h.len;have h2:vr (sgL L a)≤L.length:=by have:=vrA_le (sgL L a) 0;unfold sgL at this;rw [List.length_map] at this;exact this
  omega
theorem aQSplit{K KC X L JM h1:Nat}{c:Nat→Int}(hC:Cnt c)(b1:∀ i,(c i).natAbs≤2^h1)(hcb:∀ a b,a≤b→cntC c a b≤1000000)(hX:3*(3*L+JM / 32+1)≤X)(hX1:X≤90000)(hK:K≤100000)(hKC:KC≤100000):∀ (d J:Nat) (lo hi:Rat),SpI c h1 L J d lo hi→J+d≤JM→ACallR Tryz.prog 109 [.one (qrow K (lg c) (rc c)),.one (exL (ChQ c KC) (fun L=>qlr KC L)),.agg (qn X lo),.agg (qn X hi)] 32 10 (spF c (d+1) lo hi).length (elA K c KC X (spF c (d+1) lo hi)):=by
  intro d
  induction d with
  | zero=>exact fun J lo hi hI hJ=>aQSplitI hC b1 hcb hI hJ hX hX1 hK hKC (fun d' e=>by omega)
  | succ d ih=>exact fun J lo hi hI hJ=>aQSplitI hC b1 hcb hI hJ hX hX1 hK hKC (fun d' e lo hi J k1 k2=>by obtain rfl:d'=d:=by {omega};exact ih J lo hi k1 k2)
theorem ACallR.call{P:Program}{f:FuncId}{args:List DV}{e:TypeId}{sz n:Nat}{el:Nat→Nat→Lf}(h:ACallR P f args e sz n el):ACall P f args (.d (.one (.row sz n el))):=⟨h.en,fun B w vs hB hd=>(h.go B w vs hB hd).mono (by
  rintro r w' ⟨v,rfl,hb,xs,⟨hxl,hown⟩,hel⟩;refine ⟨v,rfl,hb,?_⟩
  rcases hown with ⟨rfl,h0⟩ | ⟨g,cap,cur,rfl,hge,hblk,hn,hm,hsz',htk⟩
  · subst h0
    exact ⟨none,0,rfl,Nat.le_refl _,fun _=>rfl,fun i hi=>absurd hi (Nat.not_lt_zero _)⟩
  · refine ⟨some ⟨g,0,none⟩,cap,rfl,hn,fun h=>(by cases h),fun i hi=>⟨g,0,rfl,fun hb2=>?_,lt_of_block hblk,fun j hj=>?_⟩⟩
    · have:=hB g hb2;omega
    · obtain ⟨x,hx1,hx2⟩:=hel i j hi hj
      refine ⟨x,?_,LfR.mv ⟨Nat.le_refl _,fun _ _ _=>rfl⟩ (fun b _ hb=>Or.inl hb) _ hx2⟩;rw [Nat.zero_add,cell_of_row w' g _ cur _ (0,0) hblk,← Array.getElem?_toList];rw [← htk,List.getElem?_take] at hx1;split at hx1
      · exact hx1
      · cases hx1)⟩
theorem f_exL{α:Type}{Qx:α→Prop}{L:α→Lf}{s:AS}(t:Nat)(h:lk s.sl t=some (.d (.one (exL Qx L)))):∀ B0 w0 a w,Den s B0 w0 a w→∃ x,Qx x:=by
  rintro B0 w0 a w ⟨ρ,_,_,_,hs⟩;obtain ⟨v,_,x,hq,_⟩:=hs t _ h;exact ⟨x,hq⟩
theorem lnP_pmL(t:Rat):Pm (lg (lnP t)) (lnP t):=by
  refine ⟨(lnP_z t).ip,by rw [lnP_lg];decide,by rw [lnP_lg];exact lnP_pm t,?_⟩;rw [lnP_lg];show 0 < (t.den:Int)
  have:=t.den_pos;omega
theorem lnP_sqP(t:Rat):∃ M,SqP (lnP t) M (lnP t):=by
  obtain ⟨M,_,hM⟩:=ex_lb (lnP_z t);exact ⟨M,sq_self (lnP_z t) hM (lnP_pmL t) (lnP_sq t)⟩
theorem natAbs_one{z:Int}{n:Nat}(h:z.natAbs∣n)(h1:n=1):z.natAbs=1:=by subst h1;exact Nat.dvd_one.1 h
theorem dvb_lin{c:Nat→Int}{K:Nat}(z:z20 c)(hl:lg c=2)(hb:Db K c)(hK:1≤K):DvB c K:=by
  intro g zg hg hd;have h0:lg c≠0:=by omega
  obtain ⟨hg0,hgl⟩:=lg_dv z zg h0 hd;obtain ⟨W,pW,hW⟩:=hd;obtain ⟨w,k,hw,hc,_⟩:=exact_row z.lg zg.lg hg pW (fun x=>by rw [FF_lg z,FF_lg zg];exact hW x);have zw:=quo20 zg z hg0 hw hc;obtain ⟨hlq,_⟩:=quo_lg zw zg z hc hg0;have one:(1:Nat) < B4^K:=Nat.lt_of_lt_of_le (by decide) (Nat.pow_le_pow_right (show 0 < B4 by decide) hK)
  by_cases h1:lg g=1
  · intro i
    by_cases hi:i=0
    · subst hi
      have hd2:(g 0).natAbs∣gcdN g (lg g):=gcdN_all fun i hi=>by
        obtain rfl:i=0:=by omega
        exact Nat.dvd_refl _
      rw [natAbs_one hd2 hg];exact one
    · rw [zg.lg i (by omega)];omega
  · have hw1:lg w=1:=by omega
    have hw0:=lg_ne (c:=w) (by omega);rw [hw1] at hw0;have hFw:∀ x,FF w x=(w 0:Rat):=fun x=>by rw [← FF_lg zw,hw1];exact pf_const
    have hF:∀ i,c i=w 0*g i:=by
      have e:∀ x,FF c x=FF (fscl g (w 0)) x:=fun x=>by
        rw [FF_scl,← hFw x,← show conv w g=c from funext hc,FF_conv zw.lg zg.lg (by have:=lg_le g;omega) zw zg];exact Rat.mul_comm _ _
      intro i;have:=FF_inj z (z20_scl zg) e i;rw [this];unfold fscl;exact Int.mul_comm _ _
    intro i;refine Nat.lt_of_le_of_lt ?_ (hb i);rw [hF i,Int.natAbs_mul];exact Nat.le_mul_of_pos_left _ (by have:w 0≠0:=hw0;omega)
theorem lnP_db{X:Nat}{t:Rat}(h:Qb X t):Db X (lnP t):=fun i=>by
  match i with
  | 0=>show (-t.num).natAbs < _;rw [Int.natAbs_neg];exact h.1
  | 1=>show (t.den:Int).natAbs < _;exact h.2
  | i+2=>rw [lnP_z2 t (i+2) (by omega)];exact Nat.pow_pos (by decide)
theorem SqP.l2{c f:Nat→Int}{M:Nat}(h:SqP c M f)(zc:z20 c)(h2:2≤lg c):2≤lg f:=by
  apply Classical.byContradiction;intro hn;have h1:lg f=1:=by have:=h.ne;omega
  obtain ⟨κ,hκ,hk⟩:=lg_one_const h.z h1;obtain ⟨N,w,pw,e⟩:=h.pw;have hp:κ^N≠0:=by
    intro k;have:∀ n:Nat,κ^n≠0:=fun n=>by
      induction n with
      | zero=>rw [Rat.pow_zero];decide
      | succ n ih=>rw [Rat.pow_succ];intro k;rcases Rat.mul_eq_zero.1 k with k | k;exact ih k;exact hκ k
    exact this N k
  have hd:Dv (FF c) (FF (onez 1)):=⟨fun x=>w x*(κ^N)⁻¹,pw.scl _,fun x=>by
    have h9:=e x;rw [hk] at h9;rw [onez_F];have:=Rat.inv_mul_cancel _ hp;grind⟩
  have:=(lg_dv onez20 zc (by rw [onez_lg];decide) hd).2;rw [onez_lg] at this;omega
theorem cnt_sq{c:Nat→Int}{M:Nat}(h:SqP c M (sqP c))(zc:z20 c)(h2:2≤lg c):Cnt (sqP c):=cnt_of h.z (h.l2 zc h2) h.sq
theorem lnq_row{K X:Nat}{t:Rat}(h:Qb X t)(hX:1≤X):AV.le (.d (.one (.row 4 2 (fun i' j'=>((qn K (-(mkR t.num 1)) ++qn K (mkR (t.den:Int) 1))[i'*4+j']?).getD (.v undef))))) (.d (.one (qrow X (lg (lnP t)) (rc (lnP t))))):=by
  refine AV.le.trans (b:= .d (.one (qrow K 2 (rc (lnP t))))) (le_one (row_le fun i hi j hj=>?_)) (by
    have h9:=le_qrow_t (K:=K) (n:=2) hX (lnP_db h);rw [lnP_lg];exact h9)
  have e0: -(mkR t.num 1)=rc (lnP t) 0:=by rw [mkR_int];show -((t.num:Int):Rat)=((-t.num:Int):Rat);rw [Rat.intCast_neg]
  have e1:mkR (t.den:Int) 1=rc (lnP t) 1:=by rw [mkR_int];rfl
  rw [e0,e1]
  match i,hi with
  | 0,_=>match j,hj with
    | 0,_=>exact fun _ _ _ h=>h
    | 1,_=>exact fun _ _ _ h=>h
    | 2,_=>exact fun _ _ _ h=>h
    | 3,_=>exact fun _ _ _ h=>h
  | 1,_=>match j,hj with
    | 0,_=>exact fun _ _ _ h=>h
    | 1,_=>exact fun _ _ _ h=>h
    | 2,_=>exact fun _ _ _ h=>h
    | 3,_=>exact fun _ _ _ h=>h
theorem aQChainQ{K M KC N Ms:Nat}{c:Nat→Int}(zc:z20 c)(h2:2≤lg c)(hN:N≤10)(hcN:lg c≤N)(hM64:1≤M)(hM1:1≤M)(hB:DvB c M)(hK1:1≤K)(hK:K≤100000)(hKC:(M+2)*(2*3^N)≤KC)(hC:KC≤90000)(hS:SqP c Ms (sqP c)):ACall Tryz.prog 74 [.one (qrow K (lg c) (rc c))] (.d (.one (exL (ChQ (sqP c) KC) (fun L=>qlr KC L)))):=
  ACall.le (dl DV.same dl0) (le_one (exL_mono fun L h=>⟨L,h.q,fun _ _ _ h=>h⟩)) (aQChain zc h2 hN hcN hM64 hM1 hB hK1 hK hKC hC hS)
theorem aQChainS{K M KC N Ms:Nat}{c:Nat→Int}(zc:z20 c)(h2:2≤lg c)(hN:N≤10)(hcN:lg c≤N)(hM64:1≤M)(hM1:1≤M)(hB:DvB c M)(hK1:1≤K)(hK:K≤100000)(hKC:(M+2)*(2*3^N)≤KC)(hC:KC≤90000)(hS:SqP c Ms c):ACall Tryz.prog 74 [.one (qrow K (lg c) (rc c))] (.d (.one (exL (ChQ c KC) (fun L=>qlr KC L)))):=by
  have e:=hS.eq.symm;have h:=aQChainQ zc h2 hN hcN hM64 hM1 hB hK1 hK hKC hC hS.self;rwa [e] at h
theorem aQRoots{K M KC N X h1 Ms:Nat}{c:Nat→Int}(zc:z20 c)(h2:2≤lg c)(hN:N≤10)(hcN:lg c≤N)(hM64:1≤M)(hM1:1≤M)(hB:DvB c M)(hK1:1≤K)(hK:K≤100000)(hKC:(M+2)*(2*3^N)≤KC)(hC:KC≤90000)(hS:SqP c Ms (sqP c))(b1:∀ i,(sqP c i).natAbs≤2^h1)(hX:3*(3*(M+100)+rtD (sqP c) h1 / 32+1)≤X)(hX1:X≤90000):ACall Tryz.prog 46 [.one (qrow K (lg c) (rc c))] (.d (.one (exL (fun l=>l=rtF (sqP c) h1∧l.length≤1000000) (fun l=> .row 10 l.length (elA M (sqP c) KC X l))))):=by
  have hlc:=lg_le c;have hMK:M+2≤KC:=Nat.le_trans (Nat.le_mul_of_pos_right _ (Nat.mul_pos (by decide) (Nat.pow_pos (by decide)))) hKC;have l2:=hS.l2 zc h2;have hCn:=cnt_sq hS zc h2;refine acallN hTT 18 [.tmp 2] Tryz.func46 rfl rfl rfl rfl rfl<|cR<|mW rfl<|mT<|cR<|mW rfl<|mC0 (aQSquare (K:=K) (M:=M) (KC:=KC) (N:=N) (c:=c) zc h2 hN hcN hM64 hM1 hB hK1 hK hKC hC) rfl rfl rfl<|mW rfl<|mT<|cR<|mW rfl<|mC0 (aQChainQ (K:=K) (M:=M) (KC:=KC) (N:=N) (c:=c) zc h2 hN hcN hM64 hM1 hB hK1 hK hKC hC hS) rfl rfl rfl<|mW rfl<|mT<|cR<|mW rfl<|mC0 (aQBound (M:=M) (Y:=(2*M+200)) (c:=sqP c) hS.z l2 hM64 (by omega) (Nat.le_refl _)) rfl rfl rfl<|mN hTT (.box 30 ([.v (.slice none 0 0),.v (.bool false),.v (.slice none 0 0),.v (.bool false)])) rfl rfl rfl<|mS hTT 5 (.box 30 (qn (2*M+200) (bdQ (sqP c)))) rfl<|mT<|cSeq<|AW.fact (f_qn 11 rfl) (fun hqb=>?_);have hT:Tb (M+100) (bdQ (sqP c)):=Qb.tb (K:=M+100) (qb_mono hqb (by omega)) (Nat.le_refl _);refine AW.fact (f_exL 4 rfl) (fun hex=>?_);obtain ⟨Lc,hLc⟩:=hex;have hcb:=cnt_bd hLc;exact wB [5,11,10,4,9,8,3,7,6,2,0] [] 5 (.box 30 (qn X (bdQ (sqP c)))) rfl rfl (leo_qn (by omega) rfl) rfl<|cDrawK hTT 7 (by kernel_rfl) (by kernel_rfl) (by kernel_rfl)<|.cons (OpS.V _ rfl)<|.cons (OpS.V _ rfl)<|.cons (OpS.V (.d (.agg (qn X (bdQ (sqP c))))) rfl)<|.cons (OpS.C0 (aRNegR (isq X (bdQ (sqP c))) (by omega)) rfl rfl rfl)<|.cons (OpS.V (.d (.agg (qn X (bdQ (sqP c))))) rfl)<|.cons (OpS.C0 ((aQSplit (K:=M) (KC:=KC) (X:=X) (L:=M+100) (JM:=rtD (sqP c) h1) (h1:=h1) (c:=sqP c) hCn b1 hcb hX hX1 (by omega) (by omega) (rtD (sqP c) h1) 0 (-(bdQ (sqP c))) (bdQ (sqP c)) (rt_start hCn b1 hT) (by omega)).call) rfl rfl rfl)<|.cons (OpS.V _ rfl)<|.nil<|mT<|cRet<|rQ rfl (exL_intro (Q:=fun l=>l=rtF (sqP c) h1∧l.length≤1000000) (L:=fun l=> .row 10 l.length (elA M (sqP c) KC X l)) (rtF (sqP c) h1) ⟨rfl,by rw [(rt_ok hCn b1 hT).len];exact hcb _ _ (rt_start hCn b1 hT).le⟩)
theorem aQRational{X KC:Nat}{t:Rat}(hX64:64≤X)(hKC:18*(X+2)≤KC)(hC:KC≤90000):ACall Tryz.prog 28 [.agg (qn X t)] (.d (.agg ([.row 4 (lg (lnP t)) (qel X (rc (lnP t)))] ++ [exL (ChQ (lnP t) KC) (fun L=>qlr KC L)] ++qn X t ++qn X t))):=by
  refine ACall.fact10 (enters Tryz.func28 rfl rfl) (p:=Qb X t) (fun B w vs h=>match vs,h with | [_],⟨⟨cs,_,hl⟩,_⟩=>qn_bdT hl) (fun hb=>?_);obtain ⟨Ms,hS⟩:=lnP_sqP t;exact acallN hTT 20 [.cell 2 32] Tryz.func28 rfl rfl rfl rfl rfl<|cR<|mN hTT (.box 30 (qn X t)) rfl rfl rfl<|mN hTT (.box 32 ([.v (.slice none 0 0),.v (.slice none 0 0),.v (.slice none 0 0),.v (.bool false),.v (.slice none 0 0),.v (.bool false),.v (.slice none 0 0),.v (.bool false),.v (.slice none 0 0),.v (.bool false)])) rfl rfl rfl<|mT<|cSeq<|cDrawK hTT 11 (by kernel_rfl) (by kernel_rfl) (by kernel_rfl)<|.cons (OpS.V (.ptr 1 0) rfl)<|.cons (OpS.V (.d (.agg (rn X (Rat.num t)))) rfl)<|.cons (OpS.C0 (aROf (n:=1) (by decide) (by decide)) rfl rfl rfl)<|.cons (OpS.C0 (aRMake (isr X (Rat.num t)) (isr 64 1) (M:=(max X (max 64 64))) (by omega) (by omega)) rfl rfl rfl)<|.cons (OpS.C0 (aRNegR (isq (max X (max 64 64)) (mkR (Rat.num t) 1)) (by omega)) rfl rfl rfl)<|.cons (OpS.V (.ptr 1 2) rfl)<|.cons (OpS.V (.d (.agg (rn X (Rat.den t:Int)))) rfl)<|.cons (OpS.C0 (aROf (n:=1) (by decide) (by decide)) rfl rfl rfl)<|.cons (OpS.C0 (aRMake (isr X (Rat.den t:Int)) (isr 64 1) (M:=(max X (max 64 64))) (by omega) (by omega)) rfl rfl rfl)<|.cons (OpS.B _ rfl)<|.cons (OpS.V _ rfl)<|.nil<|mT<|cSeq<|cView 3 (.d (.one (.row 4 (lg (lnP t)) (qel X (rc (lnP t)))))) rfl (lnq_row hb (by omega))<|cDrawK hTT 6 (by kernel_rfl) (by kernel_rfl) (by kernel_rfl)<|.cons (OpS.V _ rfl)<|.cons (OpS.V _ rfl)<|.cons (OpS.C0 (aQChainS (K:=X) (M:=X) (KC:=KC) (N:=2) (c:=lnP t) (lnP_z t) (by rw [lnP_lg];exact Nat.le_refl 2) (by decide) (by rw [lnP_lg];exact Nat.le_refl 2) (by omega) (by omega) (dvb_lin (lnP_z t) (lnP_lg t) (lnP_db hb) (by omega)) (by omega) (by omega) (by omega) (by omega) hS) rfl rfl rfl)<|.cons (OpS.V (.d (.agg (qn X t))) rfl)<|.cons (OpS.V (.d (.agg (qn X t))) rfl)<|.cons (OpS.V (.d (.agg ([.row 4 (lg (lnP t)) (qel X (rc (lnP t)))] ++ [exL (ChQ (lnP t) KC) (fun L=>qlr KC L)] ++qn X t ++qn X t))) rfl)<|.nil<|mS hTT 2 (.box 32 ([.row 4 (lg (lnP t)) (qel X (rc (lnP t)))] ++ [exL (ChQ (lnP t) KC) (fun L=>qlr KC L)] ++qn X t ++qn X t)) rfl<|mT<|cRet<|rQ rfl (AV.le.rfl)
theorem aRToR{a:List Lf}{K:Nat}{q:Rat}(hq:IsQ a K q)(hK:K≤10000000:=by decide):ACall Tryz.prog 43 [.agg a] (.d (.agg (tn K q))):=by
  exact ACall.le (dl (DV.g hq) dl0) AV.le.rfl<|acallN hTT 10 [.cell 2 44] Tryz.func43 rfl rfl rfl rfl rfl<|cR<|mN hTT (.box 30 (qn K q)) rfl rfl rfl<|mN hTT (.box 44 ([.v (.bool false),.v (.slice none 0 0),.v (.bool false),.v (.slice none 0 0)])) rfl rfl rfl<|mT<|cSeq<|cDrawK hTT 7 (by kernel_rfl) (by kernel_rfl) (by kernel_rfl)<|.cons (OpS.V (.ptr 1 0) rfl)<|.cons (OpS.V (.d (.agg (rn K (Rat.num q)))) rfl)<|.cons (OpS.C0 (aRTo (isr K (Rat.num q)) (by omega)) rfl rfl rfl)<|.cons (OpS.V (.ptr 1 2) rfl)<|.cons (OpS.V (.d (.agg (rn K (Rat.den q:Int)))) rfl)<|.cons (OpS.C0 (aRTo (isr K (Rat.den q:Int)) (by omega)) rfl rfl rfl)<|.cons (OpS.V (.d (.agg (zn K (Rat.num q) ++zn K (Rat.den q:Int)))) rfl)<|.nil<|mS hTT 2 (.box 44 (zn K (Rat.num q) ++zn K (Rat.den q:Int))) rfl<|mT<|cRet<|rQ rfl (le_tn2 (Nat.le_refl _) (Nat.le_refl _) rfl rfl)
theorem numF_rc(c:Nat→Int):numF (rc c)=c:=funext fun i=>Rat.num_intCast (c i)
theorem aQToN{K:Nat}{c:Nat→Int}(zc:z20 c)(hK:K≤1000000):ACall Tryz.prog 19 [.one (qrow K (lg c) (rc c))] (.d (.one (prow K (lg c) c))):=by
  have hlc:=lg_le c;have h:=aQTo (isqp (K:=K) (n:=lg c) (c:=rc c) (rc_z zc.lg)) (by omega) (by omega);rwa [numF_rc] at h
theorem aQToA{K KC X:Nat}{c:Nat→Int}{lo hi:Rat}(zc:z20 c)(hK:K≤1000000)(hX:X≤1000000):ACall Tryz.prog 20 [.agg ([.row 4 (lg c) (qel K (rc c))] ++ [exL (ChQ c KC) (fun L=>qlr KC L)] ++qn X lo ++qn X hi)] (.d (.agg ([.row 2 (lg c) (zel K c)] ++tn X lo ++tn X hi))):=by
  have hlc:=lg_le c;exact acallN hTT 13 [.cell 2 46] Tryz.func20 rfl rfl rfl rfl rfl<|cR<|mN hTT (.box 32 ([.row 4 (lg c) (qel K (rc c))] ++ [exL (ChQ c KC) (fun L=>qlr KC L)] ++qn X lo ++qn X hi)) rfl rfl rfl<|mN hTT (.box 46 ([.v (.slice none 0 0),.v (.bool false),.v (.slice none 0 0),.v (.bool false),.v (.slice none 0 0),.v (.bool false),.v (.slice none 0 0),.v (.bool false),.v (.slice none 0 0)])) rfl rfl rfl<|mT<|cSeq<|cDrawK hTT 10 (by kernel_rfl) (by kernel_rfl) (by kernel_rfl)<|.cons (OpS.V (.ptr 1 0) rfl)<|.cons (OpS.V (.d (.one (.row 4 (lg c) (qel K (rc c))))) rfl)<|.cons (OpS.C0 (aQToN (K:=K) (c:=c) (zc) (by omega)) rfl rfl rfl)<|.cons (OpS.V (.ptr 1 2) rfl)<|.cons (OpS.V (.d (.agg (qn X lo))) rfl)<|.cons (OpS.C0 (aRToR (isq X lo) (by omega)) rfl rfl rfl)<|.cons (OpS.V (.ptr 1 6) rfl)<|.cons (OpS.V (.d (.agg (qn X hi))) rfl)<|.cons (OpS.C0 (aRToR (isq X hi) (by omega)) rfl rfl rfl)<|.cons (OpS.V (.d (.agg ([.row 2 (lg c) (zel K c)] ++tn X lo ++tn X hi))) rfl)<|.nil<|mS hTT 2 (.box 46 ([.row 2 (lg c) (zel K c)] ++tn X lo ++tn X hi)) rfl<|mT<|cRet<|rQ rfl (AV.le.rfl)
theorem cmpC_congr{C C' D D':Cut}(h:∀ q,C q↔C' q)(k:∀ q,D q↔D' q):cmpC C D=cmpC C' D':=by
  have e1:C=C':=funext fun q=>propext (h q)
  have e2:D=D':=funext fun q=>propext (k q)
  rw [e1,e2]
section
variable {c d:Nat→Int} {L J E f:Nat} {lo hi p q u1 u2 v1 v2:Rat}
theorem db_bits{K:Nat}(h:Db K c)(i:Nat):(c i).natAbs≤2^(14*K):=by
  have h1:=h i;have h2:B4^K≤2^(14*K):=by rw [Nat.pow_mul];exact Nat.pow_le_pow_left (by decide) K
  omega
end
theorem ex_gcdP{c d:Nat→Int}(zc:z20 c)(zd:z20 d)(hc:lg c≠0):∃ M g,GcdP c d M g:=by
  obtain ⟨δ,u,v,s,t,pδ,pu,pv,ps,pt,e1,e2,e3⟩:=po_gcd 20 (FF c) (FF d) (FF_po zc) ⟨rc d,rc_z zd,fun _=>rfl⟩;obtain ⟨x0,hx0⟩:=FF_nz zc hc;have δne:∃ x,δ x≠0:=⟨x0,fun e=>hx0 (by rw [e2,e,Rat.mul_zero])⟩
  obtain ⟨kδ,aδ,hlδ⟩:=po_deg pδ δne;have hdv:Dv δ (FF c):=⟨s,ps,e2⟩;have hk:kδ+1≤20:=by
    have h1:=hdv.deg hlδ (FF_lc zc hc);have:=lg_le c;omega
  obtain ⟨q,hqz,_,_,hq⟩:=hlδ;obtain ⟨D,w,hD,hwz,hw⟩:=whole_row (q:=q) (k:=kδ+1) (fun i hi=>hqz i (by omega));have zw:z20 w:=z20.of hwz hk;have hDq:(D:Rat)≠0:=by
    have:(0:Rat) < (D:Rat):=by exact_mod_cast hD
    grind
  have hF:∀ x,FF w x=(D:Rat)*δ x:=fun x=>by
    rw [← FF_pf hwz zw,hq];show pe (rc w) x (kδ+1)=_
    rw [show rc w=fsclQ q (D:Rat) from funext hw,pe_scl];exact Rat.mul_comm _ _
  have hi:Idl (FF c) (FF d) δ:=⟨⟨u,v,pu,pv,e1⟩,hdv,⟨t,pt,e3⟩⟩;have hi2:Idl (FF c) (FF d) (FF w):=hi.scale (s:=(D:Rat)⁻¹) (s':=(D:Rat)) (fun x=>by rw [hF];have:=Rat.inv_mul_cancel _ hDq;grind) hF;obtain ⟨s1,s2,g1,g2⟩:=FF_prm zw;have zp:=prm20_z zw;obtain ⟨M,_,hM⟩:=ex_lb zp;exact ⟨M,prm20 w,zp,hM,hi2.scale g1 g2,fun e=>prm20_pm zw (by rw [← prm20_lg zw];exact e)⟩
theorem ex_sq{c:Nat→Int}(zc:z20 c)(h2:2≤lg c)(h10:lg c≤10):∃ M,SqP c M (sqP c):=by
  have zp:=prm20_z zc;have hl:=prm20_lg zc;have pp:=prm20_pm zc (by omega);obtain ⟨M,g,hg⟩:=ex_gcdP zp (z20_der zp) (by omega);obtain ⟨⟨M',h⟩,_⟩:=sq_step zp pp (by omega) (by omega) hg;have h3:=sqp_prm zc (by omega) h;exact ⟨M',h3.self⟩
theorem dvb_small{c:Nat→Int}{H n M:Nat}(zc:z20 c)(h0:lg c≠0)(hl:lg c≤n)(hH:∀ i,(c i).natAbs≤H)(hnH:n≤H)(h1:1≤H)(hM:n*(H*(2*H)^n)*(10*H)^n < B4^M):DvB c M:=by
  intro g zg hg hd;obtain ⟨hg0,hgl⟩:=lg_dv zc zg h0 hd;obtain ⟨W,pW,hW⟩:=hd;obtain ⟨w,k,hw,hc,_⟩:=exact_row zc.lg zg.lg hg pW (fun x=>by rw [FF_lg zc,FF_lg zg];exact hW x);intro i;have hb:=dv_bound (H:=(H:Int)) zc.ip h0 zg.lg hw hc (fun i=>by have:=hH i;omega) (by omega) (by omega) i;have e:((lg c:Rat)*(((H:Int):Rat)*(2*((H:Int):Rat))^lg c)*(10*((H:Int):Rat))^lg g)=((lg c*(H*(2*H)^lg c)*(10*H)^lg g:Nat):Rat):=by
    have pc:∀ (a b:Nat),((a^b:Nat):Rat)=(a:Rat)^b:=fun a b=>by
      induction b with
      | zero=>rw [Rat.pow_zero];rfl
      | succ b ih=>rw [Nat.pow_succ,Rat.pow_succ,Rat.natCast_mul,ih]
    rw [Rat.natCast_mul,Rat.natCast_mul,Rat.natCast_mul,pc,pc,Rat.natCast_mul,Rat.natCast_mul];rfl
  rw [e] at hb;have hle:(g i).natAbs≤lg c*(H*(2*H)^lg c)*(10*H)^lg g:=by
    unfold Ab at hb;have b1:((g i:Int):Rat)≤(((lg c*(H*(2*H)^lg c)*(10*H)^lg g:Nat):Int):Rat):=hb.2;have b2:((-((lg c*(H*(2*H)^lg c)*(10*H)^lg g:Nat):Int):Int):Rat)≤((g i:Int):Rat):=by rw [Rat.intCast_neg];exact hb.1
    have c1:g i≤((lg c*(H*(2*H)^lg c)*(10*H)^lg g:Nat):Int):=by exact_mod_cast b1
    have c2: -((lg c*(H*(2*H)^lg c)*(10*H)^lg g:Nat):Int)≤g i:=by exact_mod_cast b2
    omega
  refine Nat.lt_of_le_of_lt (Nat.le_trans hle ?_) hM;exact Nat.mul_le_mul (Nat.mul_le_mul hl (Nat.mul_le_mul_left _ (Nat.pow_le_pow_right (by omega) hl))) (Nat.pow_le_pow_right (by omega) (by omega))
theorem DvB.mono{c:Nat→Int}{K L:Nat}(h:DvB c K)(k:K≤L):DvB c L:=fun g zg hg hd=>(h g zg hg hd).mono k
theorem DvB.dv{c d:Nat→Int}{K:Nat}(h:DvB c K)(k:Dv (FF d) (FF c)):DvB d K:=fun g zg hg hd=>h g zg hg (hd.trans k)
def pw(cl:Nat→Int)(i:Nat):Int:=IntKind.i64.wrap (cl i+6)%13-6
def pkP(cl:Nat→Int)(n:Nat):Nat→Int:=fun i=>if i < min n 5 then pw cl i else 0
def smT(n d:Int):Rat:=mkR (n%61-30) (1+d%6)
noncomputable def pkR(cl:Nat→Int)(n:Nat):List (Rat×Rat):=rtF (sqP (pkP cl n)) 56
noncomputable def pkA(cl:Nat→Int)(n:Nat)(k:Int):(Nat→Int)×Rat×Rat:=
  if 2≤lg (pkP cl n)∧(pkR cl n).length≠0 then (sqP (pkP cl n),((pkR cl n).getD (k%((pkR cl n).length:Int)).toNat (0,0)).1,((pkR cl n).getD (k%((pkR cl n).length:Int)).toNat (0,0)).2) else (lnP (smT k n),smT k n,smT k n)
noncomputable def pkC(cl:Nat→Int)(n:Nat)(k:Int):Nat→Int:=(pkA cl n k).1
noncomputable def pkL(cl:Nat→Int)(n:Nat)(k:Int):Rat:=(pkA cl n k).2.1
noncomputable def pkH(cl:Nat→Int)(n:Nat)(k:Int):Rat:=(pkA cl n k).2.2
theorem pkw_bd(cl:Nat→Int)(i:Nat): -6≤pw cl i∧pw cl i≤6:=by unfold pw;omega
theorem pkP_z(cl:Nat→Int)(n:Nat):∀ i,min n 5≤i→pkP cl n i=0:=fun i hi=>if_neg (by omega)
theorem pkP_20(cl:Nat→Int)(n:Nat):z20 (pkP cl n):= .of (pkP_z cl n) (by omega)
theorem pkP_l(cl:Nat→Int)(n:Nat):lg (pkP cl n)≤5:=Nat.le_trans (lg_of_z (pkP_20 cl n) (pkP_z cl n)) (by omega)
theorem pkP_b(cl:Nat→Int)(n i:Nat):(pkP cl n i).natAbs≤6:=by
  unfold pkP;split
  · have:=pkw_bd cl i;omega
  · exact Nat.zero_le _
theorem pkP_db(cl:Nat→Int)(n:Nat):Db 1 (pkP cl n):=fun i=>by
  have h:=pkP_b cl n i;have e:B4^1=10000:=by decide
  omega
theorem pkP_dvb{cl:Nat→Int}{n:Nat}(h:lg (pkP cl n)≠0):DvB (pkP cl n) 4:=dvb_small (pkP_20 cl n) h (pkP_l cl n) (pkP_b cl n) (by decide) (by decide) (by decide)
structure PkP(c:Nat→Int)(lo hi:Rat):Prop where
  v:OkV c lo hi
  x:EX c lo hi
  pm:Pm (lg c) c
  b:Db 4 c
  l5:lg c≤5
  dv:DvB c 4
  sm:∃ p0,z20 p0∧(∀ i,(p0 i).natAbs≤30)∧lg p0≤5∧2≤lg p0∧Dv (FF c) (FF p0)
theorem mkR_bd{n d:Int}(hd:0 < d):(mkR n d).num.natAbs≤n.natAbs∧(mkR n d).den≤d.natAbs:=by
  rw [mkR_ne (by omega)];obtain ⟨h1,h2⟩:=mkR_pos (n:=n) hd;refine ⟨by rw [h1];exact Int.natAbs_ediv_le_natAbs _ _,?_⟩;have h3:((Rat.divInt n d).den:Int).natAbs≤d.natAbs:=by rw [h2];exact Int.natAbs_ediv_le_natAbs _ _
  exact h3
theorem smT_bd(n d:Int):(smT n d).num.natAbs≤30∧(smT n d).den≤6:=by
  obtain ⟨h1,h2⟩:=mkR_bd (n:=n%61-30) (d:=1+d%6) (by omega);unfold smT;omega
theorem smT_qb(n d:Int):Qb 1 (smT n d):=by
  obtain ⟨h1,h2⟩:=smT_bd n d;have e:B4^1=10000:=by decide
  exact ⟨by omega,by omega⟩
theorem smT_tb(n d:Int):Tb 1 (smT n d):=by
  obtain ⟨h1,h2⟩:=smT_bd n d;have e:B32^1=4294967296:=by decide
  exact ⟨by omega,by omega⟩
theorem ex_tb(q:Rat):∃ L,Tb L q:=by
  refine ⟨q.num.natAbs+q.den,?_,?_⟩
  · exact Nat.lt_of_lt_of_le (Nat.lt_of_lt_of_le Nat.lt_two_pow_self (Nat.pow_le_pow_left (show 2≤B32 by decide) _)) (Nat.pow_le_pow_right (by decide) (by omega))
  · exact Nat.lt_of_lt_of_le (Nat.lt_of_lt_of_le Nat.lt_two_pow_self (Nat.pow_le_pow_left (show 2≤B32 by decide) _)) (Nat.pow_le_pow_right (by decide) (by omega))
theorem pkS{cl:Nat→Int}{n:Nat}(h2:2≤lg (pkP cl n)):(∃ M,SqP (pkP cl n) M (sqP (pkP cl n)))∧Db 4 (sqP (pkP cl n))∧(∀ i,(sqP (pkP cl n) i).natAbs≤2^56):=by
  obtain ⟨M,h⟩:=ex_sq (pkP_20 cl n) h2 (by have:=pkP_l cl n;omega);have hb:Db 4 (sqP (pkP cl n)):=pkP_dvb (by omega) _ h.z h.pm.one h.dv;exact ⟨⟨M,h⟩,hb,db_bits (K:=4) hb⟩
theorem pk_rt{cl:Nat→Int}{n:Nat}(h2:2≤lg (pkP cl n)):RtP (sqP (pkP cl n)) (pkR cl n):=by
  obtain ⟨⟨M,h⟩,hb,b1⟩:=pkS h2;obtain ⟨L,hL⟩:=ex_tb (bdQ (sqP (pkP cl n)));exact rt_ok (cnt_sq h (pkP_20 cl n) h2) b1 hL
theorem getD_mem'{α:Type}{l:List α}{i:Nat}{d:α}(h:i < l.length):l.getD i d∈l:=by
  rw [List.getD_eq_getElem?_getD,List.getElem?_eq_getElem h];exact List.getElem_mem h
theorem pk_ln(n d:Int):PkP (lnP (smT n d)) (smT n d) (smT n d):=by
  have hb:=lnP_db (smT_qb n d);have h30:∀ i,(lnP (smT n d) i).natAbs≤30:=fun i=>by
    obtain ⟨h1,h2⟩:=smT_bd n d
    match i with
    | 0=>show (-(smT n d).num).natAbs≤30;omega
    | 1=>show ((smT n d).den:Int).natAbs≤30;omega
    | i+2=>rw [lnP_z2 _ (i+2) (by omega)];exact Nat.zero_le _
  exact ⟨okV_ln _,Or.inl rfl,lnP_pmL _,hb.mono (by decide),by rw [lnP_lg];decide,(dvb_lin (lnP_z _) (lnP_lg _) hb (by decide)).mono (by decide),⟨lnP (smT n d),lnP_z _,h30,by rw [lnP_lg];decide,by rw [lnP_lg];decide,Dv.refl _⟩⟩
theorem mod_lt'(k:Int){n:Nat}(h:n≠0):(k%(n:Int)).toNat < n:=by
  have h1:=Int.emod_nonneg k (show (n:Int)≠0 by omega);have h2:=Int.emod_lt_of_pos k (show (0:Int) < n by omega);omega
theorem pk_at{cl:Nat→Int}{n:Nat}(h2:2≤lg (pkP cl n)){p:Rat×Rat}(hp:p∈pkR cl n):PkP (sqP (pkP cl n)) p.1 p.2:=by
  obtain ⟨⟨M,h⟩,hb,b1⟩:=pkS h2;obtain ⟨o,x⟩:=(pk_rt h2).ok p hp;have hl:=pkP_l cl n;exact ⟨o,x,h.pm,hb,by have:=(lg_dv (pkP_20 cl n) h.z (by omega) h.dv).2;omega,(pkP_dvb (by omega)).dv h.dv,⟨pkP cl n,pkP_20 cl n,fun i=>by have:=pkP_b cl n i;omega,hl,h2,h.dv⟩⟩
theorem pk_ok(cl:Nat→Int)(n:Nat)(k:Int):PkP (pkC cl n k) (pkL cl n k) (pkH cl n k):=by
  unfold pkC pkL pkH pkA;split
  · rename_i h
    exact pk_at h.1 (getD_mem' (mod_lt' k h.2))
  · exact pk_ln k n
theorem aSmall{n d:Int}(hn1: -9223372036854775808≤n)(hn2:n≤9223372036854775807)(hd1: -9223372036854775808≤d)(hd2:d≤9223372036854775807):ACall Tryz.prog 40 [.one (.v (.int .i64 n)),.one (.v (.int .i64 d))] (.d (.agg (qn 64 (smT n d)))):=by
  refine acallN hTT 12 [.cell 4 30] Tryz.func40 rfl rfl rfl rfl rfl ?_;refine cSeq ?_;refine cReg ?_;refine mN hTT (.box 30 ([.v (.slice none 0 0),.v (.bool false),.v (.slice none 0 0),.v (.bool false)])) rfl rfl rfl ?_;refine mNil ?_;refine tN ?_;refine cSeq ?_;refine cReg ?_;refine mW rfl ?_;refine mC0 (aWithin (v:=n) (n:=61) (by decide) (by decide) hn1 hn2) rfl rfl rfl ?_;refine mV hTT (.d (.one (.v (.int .i64 (n%61-30))))) (evi (wr64 (by omega) (by omega))) ?_;refine mW rfl ?_;refine mC0 (aWithin (v:=d) (n:=6) (by decide) (by decide) hd1 hd2) rfl rfl rfl ?_;refine mV hTT (.d (.one (.v (.int .i64 (1+d%6))))) (evi (wr64 (by omega) (by omega))) ?_;refine mC0 (aROfR (n:=(n%61-30)) (d:=(1+d%6)) (by omega) (by omega) (by omega) (by omega)) rfl rfl rfl ?_;refine mS hTT 4 (.box 30 (qn 64 (mkR (n%61-30) (1+d%6)))) rfl ?_;refine mNil ?_;refine tN ?_;refine cRet ?_;exact rQ rfl (le_qn (Nat.le_refl _) rfl)
theorem wr_lo(z:Int): -9223372036854775808≤IntKind.i64.wrap z:=by rw [IntKind.wrap_i64];omega
theorem wr_hi(z:Int):IntKind.i64.wrap z≤9223372036854775807:=by rw [IntKind.wrap_i64];omega
theorem app_pw{cl:Nat→Int}{i p:Nat}{B:BS}{w:World}{v:Value}(hp:p < i+1)(hv:LfR B w (appEl i (fun i _=> .v (.int .i64 (pw cl i))) (fun i' j'=>((([.v (.int .i64 (pw cl i))]:List Lf))[i'*1+j']?).getD (.v undef)) p 0) v):LfR B w (.v (.int .i64 (pw cl p))) v:=by
  unfold appEl at hv
  by_cases h:p < i
  · rw [show Nat.ble (p+1) i=true from Nat.ble_eq_true_of_le h] at hv;exact hv
  · obtain rfl:p=i:=by omega
    rw [show Nat.ble (p+1) p=false from by rw [← Bool.not_eq_true,Nat.ble_eq];omega,Nat.sub_self] at hv;exact hv
theorem leo_pw{e:TypeId}{cl:Nat→Int}{i:Nat}:AO.le (.row e 1 (i+1) (appEl i (fun i _=> .v (.int .i64 (pw cl i))) (fun i' j'=>((([.v (.int .i64 (pw cl i))]:List Lf))[i'*1+j']?).getD (.v undef)))) (.row e 1 (i+1) (fun i _=> .v (.int .i64 (pw cl i)))):=leo_row fun p hp j hj B w v hv=>by
  obtain rfl:j=0:=by omega
  exact app_pw hp hv
theorem pk_of{cl:Nat→Int}{n:Nat}:AV.le (.d (.one (qrow 64 (dg (rc (pkP cl n)) (min n 5)) (rc (pkP cl n))))) (.d (.one (qrow 1 (lg (pkP cl n)) (rc (pkP cl n))))):=le_dg_t (lg_dg2 (pkP_z cl n) (pkP_20 cl n)) (by decide) (pkP_db cl n)
theorem pk_one{KC:Nat}{cl:Nat→Int}{n:Nat}{k:Int}(h:¬ (2≤lg (pkP cl n)∧(pkR cl n).length≠0)):AV.le (.d (.agg (qac 64 (lnP (smT k n)) KC 64 (smT k n) 64 (smT k n)))) (.d (.agg (qac 4 (pkC cl n k) KC 1200 (pkL cl n k) 1200 (pkH cl n k)))):=by
  have hb:=lnP_db (smT_qb k n);have hq:=smT_qb k n;unfold pkC pkL pkH pkA;rw [if_neg h];refine le_agg (ls_cat (ls_cat (ls_cat (fun B w cs k=>match cs,k with | [v],⟨k,_⟩=>⟨qrow_tight (by decide) (fun i _=>(hb.mono (by decide)) i) B w v k,trivial⟩) (fun _ _ _ h=>h)) (qn_tight (qb_mono hq (by decide)))) (qn_tight (qb_mono hq (by decide))))
theorem pk_two{KC:Nat}{cl:Nat→Int}{n:Nat}{k:Int}(h:2≤lg (pkP cl n)∧(pkR cl n).length≠0):AV.le (.d (.agg (qac 4 (sqP (pkP cl n)) KC 1200 ((pkR cl n).getD (k%((pkR cl n).length:Int)).toNat (0,0)).1 1200 ((pkR cl n).getD (k%((pkR cl n).length:Int)).toNat (0,0)).2))) (.d (.agg (qac 4 (pkC cl n k) KC 1200 (pkL cl n k) 1200 (pkH cl n k)))):=by
  unfold pkC pkL pkH pkA;rw [if_pos h];exact AV.le.rfl
theorem rtD_bd{c:Nat→Int}(h:lg c≤5):rtD c 56 / 32≤83:=by
  unfold rtD sepE;have h1:2*(lg c+lg c)*(56+56+(lg c+lg c)+8)≤2*(5+5)*(56+56+(5+5)+8):=Nat.mul_le_mul (by omega) (by omega);omega
theorem aPick{cl:Nat→Int}{n:Nat}{k:Int}(hn:n≤9223372036854775807)(hk1: -9223372036854775808≤k)(hk2:k≤9223372036854775807):ACall Tryz.prog 15 [.one (irow n cl),.one (.v (.int .i64 k))] (.d (.agg ([.row 4 (lg (pkC cl n k)) (qel 4 (rc (pkC cl n k)))] ++ [exL (ChQ (pkC cl n k) 2916) (fun L=>qlr 2916 L)] ++qn 1200 (pkL cl n k) ++qn 1200 (pkH cl n k)))):=by
  refine acallN hTT 56 [.cell 4 32] Tryz.func15 rfl rfl rfl rfl rfl ?_;refine cSeq ?_;refine cReg ?_;refine mN hTT (.box 32 ([.v (.slice none 0 0),.v (.slice none 0 0),.v (.slice none 0 0),.v (.bool false),.v (.slice none 0 0),.v (.bool false),.v (.slice none 0 0),.v (.bool false),.v (.slice none 0 0),.v (.bool false)])) rfl rfl rfl ?_;refine mNil ?_;refine tN ?_;refine cSeq ?_;refine cReg ?_;refine mW rfl ?_;refine mNil ?_;refine tN ?_;refine cSeq ?_;refine cSeq ?_;refine AW.wk (wkNil 5 5 3 1 (fun _ _=> .v undef) rfl rfl) ?_;refine cReg ?_;refine mW rfl ?_;refine mNil ?_;refine tN ?_;refine cBlock ?_;refine cLoop (ι:=Nat) (fun (i:Nat)=>⟨56,[(0,.d (.one (.row 1 n (fun i _=> .v (.int .i64 (cl i)))))),(1,.d (.one (.v (.int .i64 k)))),(4,.ptr 4 0),(5,.own 5),(6,.d (.one (.v (.int .i64 ((i:Nat):Int)))))],[(4,.box 32 ([.v (.slice none 0 0),.v (.slice none 0 0),.v (.slice none 0 0),.v (.bool false),.v (.slice none 0 0),.v (.bool false),.v (.slice none 0 0),.v (.bool false),.v (.slice none 0 0),.v (.bool false)])),(5,.row 3 1 i (fun i _=> .v (.int .i64 (pw cl i))))]⟩) (fun (i:Nat)=>i≤min n 5) (fun (i:Nat)=>min n 5-i) 0 (Nat.zero_le _) (wk rfl ⟨hs rfl,hs rfl,hs rfl,hs rfl,hs' rfl (le_int rfl),trivial⟩ ⟨ho rfl,ho' rfl (leo_row0),trivial⟩ rfl) ?_;rintro i hI;have hi:i≤min n 5:=hI;show AW _ _ _ ⟨_,_,_⟩
  refine cSeq ?_;refine cSeq ?_
  by_cases hin:i < n
  · skip
    by_cases hi5:i < 5
    · skip
      refine cReg ?_;refine mW rfl ?_;refine mW rfl ?_;refine mW rfl ?_;refine mV hTT (.d (.one (.v (.bool true)))) (evb (decide_eq_true (by omega))) ?_;refine mW rfl ?_;refine mW rfl ?_;refine mV hTT (.d (.one (.v (.bool true)))) (evb (decide_eq_true (by omega))) ?_;refine mW rfl ?_;refine mNil ?_;refine tN ?_;refine cT rfl ?_;refine cSkip ?_;refine tN ?_;refine cSeq ?_;refine cBlock ?_;refine cReg ?_;refine mW rfl ?_;refine mW rfl ?_;refine mW rfl ?_;refine mV hTT (.d (.one (.at 1 ((fun i _=> .v (.int .i64 (cl i))) i)))) (ixR (el:=(fun i _=> .v (.int .i64 (cl i)))) (z:=((i:Nat):Int)) (n:=n) rfl rfl rfl rfl rfl rfl (by omega) (by omega)) ?_;refine mW rfl ?_;refine mW rfl ?_;refine mC0 (aWithin (v:=(IntKind.i64.wrap (cl i+6))) (n:=13) (by decide) (by decide) (wr_lo _) (wr_hi _)) rfl rfl rfl ?_;refine mV hTT (.d (.one (.v (.int .i64 (pw cl i))))) (evi (wr64 (by omega) (by omega))) ?_;refine mB hTT (.d (.one (.row 1 1 (fun i' j'=>(([.v (.int .i64 (pw cl i))])[i'*1+j']?).getD (.v undef))))) rfl ?_;refine mA hTT (id:=5) (n:=i) (m:=1) (el:=(fun i _=> .v (.int .i64 (pw cl i)))) (el2:=(fun i' j'=>(([.v (.int .i64 (pw cl i))])[i'*1+j']?).getD (.v undef))) rfl rfl rfl (by show (i+1)*8≤140737488355328;omega) (by omega) rfl rfl rfl rfl rfl rfl rfl rfl rfl rfl ?_;refine mW rfl ?_;refine mNil ?_;refine bN ?_;refine tN ?_;refine cReg ?_;refine mW rfl ?_;refine mW rfl ?_;refine mW rfl ?_;refine mNil ?_;exact ⟨(i+1),by omega,by omega,wk rfl ⟨hs rfl,hs rfl,hs rfl,hs rfl,hs' rfl (le_int (inc64 (by omega))),trivial⟩ ⟨ho rfl,ho' rfl (leo_pw),trivial⟩ rfl⟩
    · skip
      refine cReg ?_;refine mW rfl ?_;refine mW rfl ?_;refine mW rfl ?_;refine mV hTT (.d (.one (.v (.bool true)))) (evb (decide_eq_true (by omega))) ?_;refine mW rfl ?_;refine mW rfl ?_;refine mV hTT (.d (.one (.v (.bool false)))) (evb (decide_eq_false (by omega))) ?_;refine mW rfl ?_;refine mNil ?_;refine tN ?_;refine cF rfl ?_;refine cExit ?_;refine tE ?_;refine tE ?_;refine bE ?_;refine tN ?_;refine cSeq ?_;obtain rfl:i=min n 5:=by omega
      refine AW.wk (wkRow 5 rfl) ?_;refine cReg ?_;refine mW rfl ?_;refine mC0 (aQOf (isi_cut (n:=(min n 5)) (c:=pw cl)) (fun i hi=>by show _≤(if i < min n 5 then pw cl i else 0)∧(if i < min n 5 then pw cl i else 0)≤_;rw [if_pos hi];have:=pkw_bd cl i;omega) (by omega)) rfl rfl rfl ?_;refine mW rfl ?_;refine mNil ?_;refine tN ?_;refine cSeq ?_;refine cSeq ?_;refine cView 7 (.d (.one (.row 4 (lg (pkP cl n)) (qel 1 (rc (pkP cl n)))))) rfl (pk_of) ?_
      by_cases h2:2≤lg (pkP cl n)
      · skip
        obtain ⟨⟨Ms,hS⟩,hb4,hb56⟩:=pkS h2;have hR:=pk_rt h2;have hsl:=(lg_dv (pkP_20 cl n) hS.z (by omega) hS.dv).2;have hrd:=rtD_bd (c:=sqP (pkP cl n)) (by have:=pkP_l cl n;omega);have hpl:=pkP_l cl n;refine cReg ?_;refine mW rfl ?_;refine mW rfl ?_;refine mV hTT (.d (.one (.v (.bool false)))) (evb (decide_eq_false (by omega))) ?_;refine mNil ?_;refine tN ?_;refine cF rfl ?_;refine cSkip ?_;refine tN ?_;refine cSeq ?_;refine cReg ?_;refine mW rfl ?_;refine mC0 (aQRoots (K:=1) (M:=4) (KC:=2916) (N:=5) (X:=1200) (h1:=56) (Ms:=Ms) (c:=pkP cl n) (pkP_20 cl n) h2 (by decide) hpl (by decide) (by decide) (pkP_dvb (by omega)) (by decide) (by decide) (by decide) (by decide) hS hb56 (by omega) (by decide)) rfl rfl rfl ?_;refine mW rfl ?_;refine mNil ?_;refine tN ?_;refine cSeq ?_;refine cSeq ?_;refine cEx (Qx:=fun l=>l=rtF (sqP (pkP cl n)) 56∧l.length≤1000000) (L:=fun l=> .row 10 l.length (elA 4 (sqP (pkP cl n)) 2916 1200 l)) 8 rfl (fun l hl=>?_);obtain ⟨hl1,hrl⟩:=hl;have hl2:l=pkR cl n:=hl1;subst hl2
        by_cases hr0:(pkR cl n).length=0
        · skip
          refine cReg ?_;refine mW rfl ?_;refine mW rfl ?_;refine mV hTT (.d (.one (.v (.bool true)))) (evb (beq_iff_eq.2 (by omega))) ?_;refine mNil ?_;refine tN ?_;refine cT rfl ?_;refine cSeq ?_;refine cReg ?_;refine mW rfl ?_;refine mW rfl ?_;refine mW rfl ?_;refine mC0 (aSmall (n:=k) (d:=(n:Int)) hk1 hk2 (by omega) (by omega)) rfl rfl rfl ?_;refine mC0 (aQRational (X:=64) (KC:=2916) (t:=smT k n) (by decide) (by decide) (by decide)) rfl rfl rfl ?_;refine mS hTT 4 (.box 32 ([.row 4 (lg (lnP (smT k n))) (qel 64 (rc (lnP (smT k n))))] ++ [exL (ChQ (lnP (smT k n)) 2916) (fun L=>qlr 2916 L)] ++qn 64 (smT k n) ++qn 64 (smT k n))) rfl ?_;refine mNil ?_;refine tN ?_;refine cRet ?_;refine tR ?_;exact rQ rfl (pk_one (fun h=>h.2 hr0))
        · skip
          refine cReg ?_;refine mW rfl ?_;refine mW rfl ?_;refine mV hTT (.d (.one (.v (.bool false)))) (evb (beq_eq_false_iff_ne.2 (by omega))) ?_;refine mNil ?_;refine tN ?_;refine cF rfl ?_;refine cSkip ?_;refine tN ?_;refine cSeq ?_;have hml:=mod_lt' k hr0;have hm0:0≤k%((pkR cl n).length:Int):=Int.emod_nonneg _ (by omega);refine cReg ?_;refine mW rfl ?_;refine mW rfl ?_;refine mW rfl ?_;refine mW rfl ?_;refine mC0 (aWithin (v:=k) (n:=(pkR cl n).length) (by omega) hrl hk1 hk2) rfl rfl rfl ?_;refine mV hTT (.d (.one (.at 10 ((elA 4 (sqP (pkP cl n)) 2916 1200 (pkR cl n)) (((k%(((pkR cl n).length:Nat):Int))).toNat))))) (ixR (el:=(elA 4 (sqP (pkP cl n)) 2916 1200 (pkR cl n))) (z:=(k%(((pkR cl n).length:Nat):Int))) (n:=((pkR cl n).length)) rfl rfl rfl rfl rfl rfl hm0 (by omega)) ?_;refine mW rfl ?_;refine mS hTT 4 (.box 32 ([.row 4 (lg (sqP (pkP cl n))) (qel 4 (rc (sqP (pkP cl n))))] ++ [exL (ChQ (sqP (pkP cl n)) 2916) (fun L=>qlr 2916 L)] ++qn 1200 (((pkR cl n).getD ((k%(((pkR cl n).length:Nat):Int))).toNat (0,0)).1) ++qn 1200 (((pkR cl n).getD ((k%(((pkR cl n).length:Nat):Int))).toNat (0,0)).2))) rfl ?_;refine mNil ?_;refine tN ?_;refine cRet ?_;exact rQ rfl (pk_two ⟨h2,hr0⟩)
      · skip
        refine cReg ?_;refine mW rfl ?_;refine mW rfl ?_;refine mV hTT (.d (.one (.v (.bool true)))) (evb (decide_eq_true (by omega))) ?_;refine mNil ?_;refine tN ?_;refine cT rfl ?_;refine cSeq ?_;refine cReg ?_;refine mW rfl ?_;refine mW rfl ?_;refine mW rfl ?_;refine mC0 (aSmall (n:=k) (d:=(n:Int)) hk1 hk2 (by omega) (by omega)) rfl rfl rfl ?_;refine mC0 (aQRational (X:=64) (KC:=2916) (t:=smT k n) (by decide) (by decide) (by decide)) rfl rfl rfl ?_;refine mS hTT 4 (.box 32 ([.row 4 (lg (lnP (smT k n))) (qel 64 (rc (lnP (smT k n))))] ++ [exL (ChQ (lnP (smT k n)) 2916) (fun L=>qlr 2916 L)] ++qn 64 (smT k n) ++qn 64 (smT k n))) rfl ?_;refine mNil ?_;refine tN ?_;refine cRet ?_;refine tR ?_;exact rQ rfl (pk_one (fun h=>h2 h.1))
  · skip
    refine cReg ?_;refine mW rfl ?_;refine mW rfl ?_;refine mW rfl ?_;refine mV hTT (.d (.one (.v (.bool false)))) (evb (decide_eq_false (by omega))) ?_;refine mW rfl ?_;refine mG rfl rfl ?_;refine mG rfl rfl ?_;refine mW rfl ?_;refine mNil ?_;refine tN ?_;refine cF rfl ?_;refine cExit ?_;refine tE ?_;refine tE ?_;refine bE ?_;refine tN ?_;refine cSeq ?_;obtain rfl:i=min n 5:=by omega
    refine AW.wk (wkRow 5 rfl) ?_;refine cReg ?_;refine mW rfl ?_;refine mC0 (aQOf (isi_cut (n:=(min n 5)) (c:=pw cl)) (fun i hi=>by show _≤(if i < min n 5 then pw cl i else 0)∧(if i < min n 5 then pw cl i else 0)≤_;rw [if_pos hi];have:=pkw_bd cl i;omega) (by omega)) rfl rfl rfl ?_;refine mW rfl ?_;refine mNil ?_;refine tN ?_;refine cSeq ?_;refine cSeq ?_;refine cView 7 (.d (.one (.row 4 (lg (pkP cl n)) (qel 1 (rc (pkP cl n)))))) rfl (pk_of) ?_
    by_cases h2:2≤lg (pkP cl n)
    · skip
      obtain ⟨⟨Ms,hS⟩,hb4,hb56⟩:=pkS h2;have hR:=pk_rt h2;have hsl:=(lg_dv (pkP_20 cl n) hS.z (by omega) hS.dv).2;have hrd:=rtD_bd (c:=sqP (pkP cl n)) (by have:=pkP_l cl n;omega);have hpl:=pkP_l cl n;refine cReg ?_;refine mW rfl ?_;refine mW rfl ?_;refine mV hTT (.d (.one (.v (.bool false)))) (evb (decide_eq_false (by omega))) ?_;refine mNil ?_;refine tN ?_;refine cF rfl ?_;refine cSkip ?_;refine tN ?_;refine cSeq ?_;refine cReg ?_;refine mW rfl ?_;refine mC0 (aQRoots (K:=1) (M:=4) (KC:=2916) (N:=5) (X:=1200) (h1:=56) (Ms:=Ms) (c:=pkP cl n) (pkP_20 cl n) h2 (by decide) hpl (by decide) (by decide) (pkP_dvb (by omega)) (by decide) (by decide) (by decide) (by decide) hS hb56 (by omega) (by decide)) rfl rfl rfl ?_;refine mW rfl ?_;refine mNil ?_;refine tN ?_;refine cSeq ?_;refine cSeq ?_;refine cEx (Qx:=fun l=>l=rtF (sqP (pkP cl n)) 56∧l.length≤1000000) (L:=fun l=> .row 10 l.length (elA 4 (sqP (pkP cl n)) 2916 1200 l)) 8 rfl (fun l hl=>?_);obtain ⟨hl1,hrl⟩:=hl;have hl2:l=pkR cl n:=hl1;subst hl2
      by_cases hr0:(pkR cl n).length=0
      · skip
        refine cReg ?_;refine mW rfl ?_;refine mW rfl ?_;refine mV hTT (.d (.one (.v (.bool true)))) (evb (beq_iff_eq.2 (by omega))) ?_;refine mNil ?_;refine tN ?_;refine cT rfl ?_;refine cSeq ?_;refine cReg ?_;refine mW rfl ?_;refine mW rfl ?_;refine mW rfl ?_;refine mC0 (aSmall (n:=k) (d:=(n:Int)) hk1 hk2 (by omega) (by omega)) rfl rfl rfl ?_;refine mC0 (aQRational (X:=64) (KC:=2916) (t:=smT k n) (by decide) (by decide) (by decide)) rfl rfl rfl ?_;refine mS hTT 4 (.box 32 ([.row 4 (lg (lnP (smT k n))) (qel 64 (rc (lnP (smT k n))))] ++ [exL (ChQ (lnP (smT k n)) 2916) (fun L=>qlr 2916 L)] ++qn 64 (smT k n) ++qn 64 (smT k n))) rfl ?_;refine mNil ?_;refine tN ?_;refine cRet ?_;refine tR ?_;exact rQ rfl (pk_one (fun h=>h.2 hr0))
      · skip
        refine cReg ?_;refine mW rfl ?_;refine mW rfl ?_;refine mV hTT (.d (.one (.v (.bool false)))) (evb (beq_eq_false_iff_ne.2 (by omega))) ?_;refine mNil ?_;refine tN ?_;refine cF rfl ?_;refine cSkip ?_;refine tN ?_;refine cSeq ?_;have hml:=mod_lt' k hr0;have hm0:0≤k%((pkR cl n).length:Int):=Int.emod_nonneg _ (by omega);refine cReg ?_;refine mW rfl ?_;refine mW rfl ?_;refine mW rfl ?_;refine mW rfl ?_;refine mC0 (aWithin (v:=k) (n:=(pkR cl n).length) (by omega) hrl hk1 hk2) rfl rfl rfl ?_;refine mV hTT (.d (.one (.at 10 ((elA 4 (sqP (pkP cl n)) 2916 1200 (pkR cl n)) (((k%(((pkR cl n).length:Nat):Int))).toNat))))) (ixR (el:=(elA 4 (sqP (pkP cl n)) 2916 1200 (pkR cl n))) (z:=(k%(((pkR cl n).length:Nat):Int))) (n:=((pkR cl n).length)) rfl rfl rfl rfl rfl rfl hm0 (by omega)) ?_;refine mW rfl ?_;refine mS hTT 4 (.box 32 ([.row 4 (lg (sqP (pkP cl n))) (qel 4 (rc (sqP (pkP cl n))))] ++ [exL (ChQ (sqP (pkP cl n)) 2916) (fun L=>qlr 2916 L)] ++qn 1200 (((pkR cl n).getD ((k%(((pkR cl n).length:Nat):Int))).toNat (0,0)).1) ++qn 1200 (((pkR cl n).getD ((k%(((pkR cl n).length:Nat):Int))).toNat (0,0)).2))) rfl ?_;refine mNil ?_;refine tN ?_;refine cRet ?_;exact rQ rfl (pk_two ⟨h2,hr0⟩)
    · skip
      refine cReg ?_;refine mW rfl ?_;refine mW rfl ?_;refine mV hTT (.d (.one (.v (.bool true)))) (evb (decide_eq_true (by omega))) ?_;refine mNil ?_;refine tN ?_;refine cT rfl ?_;refine cSeq ?_;refine cReg ?_;refine mW rfl ?_;refine mW rfl ?_;refine mW rfl ?_;refine mC0 (aSmall (n:=k) (d:=(n:Int)) hk1 hk2 (by omega) (by omega)) rfl rfl rfl ?_;refine mC0 (aQRational (X:=64) (KC:=2916) (t:=smT k n) (by decide) (by decide) (by decide)) rfl rfl rfl ?_;refine mS hTT 4 (.box 32 ([.row 4 (lg (lnP (smT k n))) (qel 64 (rc (lnP (smT k n))))] ++ [exL (ChQ (lnP (smT k n)) 2916) (fun L=>qlr 2916 L)] ++qn 64 (smT k n) ++qn 64 (smT k n))) rfl ?_;refine mNil ?_;refine tN ?_;refine cRet ?_;refine tR ?_;exact rQ rfl (pk_one (fun h=>h2 h.1))
def qd(q:Nat):Nat→Int:=lst [-(q:Int),0,1]
theorem qd_3(q:Nat):∀ i,3≤i→qd q i=0:=fun i hi=>lst_z i hi
theorem qd_z(q:Nat):z20 (qd q):= .of (qd_3 q) (by decide)
theorem qd_lg(q:Nat):lg (qd q)=3:=by
  rw [← lg_dg (qd_3 q) (qd_z q)];exact dg_stop (Or.inr (show (1:Int)≠0 by decide))
theorem qd_F(q:Nat)(x:Rat):FF (qd q) x=x*x-(q:Rat):=by
  rw [← FF_pf (qd_3 q) (qd_z q)];show (((0:Rat)+((-(q:Int):Int):Rat)*x^0)+((0:Int):Rat)*x^1)+((1:Int):Rat)*x^2=_
  rw [Rat.pow_zero,show x^2=x*x from by rw [show (2:Nat)=1+1 from rfl,Rat.pow_succ,pow1],Rat.intCast_neg,show ((0:Int):Rat)=0 from rfl,show ((1:Int):Rat)=1 from rfl,show (((q:Nat):Int):Rat)=(q:Rat) from rfl];grind
theorem qd_F'(q:Nat)(x:Rat):FF (fder (qd q)) x=2*x:=by
  have hz:∀ i,2≤i→fder (qd q) i=0:=fun i hi=>by unfold fder;rw [qd_3 q (i+1) (by omega)];simp
  rw [← FF_pf hz (z20_der (qd_z q))];show ((0:Rat)+((fder (qd q) 0:Int):Rat)*x^0)+((fder (qd q) 1:Int):Rat)*x^1=_
  have e0:fder (qd q) 0=0:=by show (0:Int)*((0+1:Nat):Int)=0;omega
  have e1:fder (qd q) 1=2:=by show (1:Int)*((1+1:Nat):Int)=2;omega
  rw [e0,e1,pow1,show ((0:Int):Rat)=0 from rfl,show ((2:Int):Rat)=2 from rfl];grind
theorem qd_pm(q:Nat):Pm (lg (qd q)) (qd q):=by
  refine ⟨(qd_z q).ip,by rw [qd_lg];decide,?_,?_⟩
  · rw [qd_lg]
    show Nat.gcd (gcdN (qd q) 2) (qd q 2).natAbs=1
    rw [show (qd q 2).natAbs=1 from rfl];exact Nat.gcd_one_right _
  · rw [qd_lg];show (0:Int) < 1;decide
section
variable {q:Nat}
theorem qnz(hq:1≤q):(1:Rat)≤(q:Rat):=by exact_mod_cast hq
theorem qd_sqf(hq:1≤q):Sqf (FF (qd q)) (FF (fder (qd q))):=⟨FF_po (qd_z q),FF_po (z20_der (qd_z q)),FF_der (qd_z q),fun _=> -1 / (q:Rat),fun x=>x*(1 / (2*(q:Rat))),po_const _,po_var.scl _,fun x=>by
  have:=qnz hq;rw [qd_F,qd_F'];grind⟩
theorem qd_stm(hq:1≤q):Stm (FF (qd q)) (fun x=>x) [fun _=>1]:=stm_of (d:=2) (fun h hh=>by
    rcases List.mem_cons.1 hh with rfl | hh
    · exact FF_po (qd_z q)
    · rcases List.mem_cons.1 hh with rfl | hh
      · exact po_var
      · rcases List.mem_cons.1 hh with rfl | hh
        · exact po_const 1
        · cases hh) ⟨⟨fun x=>x,(q:Rat),po_var,by have:=qnz hq;grind,fun x=>by rw [qd_F];grind⟩,1,by decide,fun _=>rfl⟩ (FF_der (qd_z q)) (by decide) (qd_F' q)
theorem qd_ctd(hq:1≤q){lo hi:Rat}(hab:lo≤hi){N:Nat}(h:Vr (FF (qd q)) (fun x=>x) [fun _=>1] lo=Vr (FF (qd q)) (fun x=>x) [fun _=>1] hi+N):Ctd (FF (qd q)) lo hi N:=by
  obtain ⟨M,hM⟩:=sturm (qd_stm hq) hab;have h1:=hM.v;obtain rfl:N=M:=by omega
  exact ⟨_,_,qd_stm hq,hM⟩
theorem qv(x:Rat){a b:Int}(h1:sgq (FF (qd q) x)=a)(h2:sgq x=b):Vr (FF (qd q)) (fun x=>x) [fun _=>1] x=vr [a,b,1]:=by
  have e:sgs (FF (qd q) ::(fun x=>x) :: [fun _=>1]) x= [sgq (FF (qd q) x),sgq x,sgq 1]:=rfl;show vr (sgs (FF (qd q) ::(fun x=>x) :: [fun _=>1]) x)=_
  rw [e,h1,h2];rfl
theorem qv0{x:Rat}(h:0 < x)(k:(q:Rat) < x*x):Vr (FF (qd q)) (fun x=>x) [fun _=>1] x=0:=by rw [qv x (sgq_pos (by rw [qd_F];grind)) (sgq_pos h)];decide
theorem qv1{x:Rat}(h:0 < x)(k:x*x < (q:Rat)):Vr (FF (qd q)) (fun x=>x) [fun _=>1] x=1:=by rw [qv x (sgq_neg (by rw [qd_F];grind)) (sgq_pos h)];decide
theorem qv2{x:Rat}(h:x < 0)(k:(q:Rat) < x*x):Vr (FF (qd q)) (fun x=>x) [fun _=>1] x=2:=by rw [qv x (sgq_pos (by rw [qd_F];grind)) (sgq_neg h)];decide
theorem qv3{x:Rat}(h:x < 0)(k:x*x < (q:Rat)):Vr (FF (qd q)) (fun x=>x) [fun _=>1] x=1:=by rw [qv x (sgq_neg (by rw [qd_F];grind)) (sgq_neg h)];decide
theorem qd_bd(q:Nat):bdQ (qd q)=1+(q:Rat):=by
  unfold bdQ;rw [qd_lg];have e1:mxA (qd q) (3-1)=q:=by
    show max (max 0 (qd q 0).natAbs) (qd q 1).natAbs=q
    rw [show (qd q 1).natAbs=0 from rfl,show (qd q 0).natAbs=(-(q:Int)).natAbs from rfl];omega
  rw [e1,show ((qd q (3-1)).natAbs:Rat)=1 from rfl];grind
theorem qd_two(hq:1≤q):cntC (qd q) (-(bdQ (qd q))) (bdQ (qd q))=2:=by
  have h1:=qnz hq;have h2:=Rat.mul_nonneg (show (0:Rat)≤q by grind) (show (0:Rat)≤q by grind);rw [qd_bd];refine cntC_eq (qd_z q) (by grind) (qd_ctd hq (by grind) ?_);rw [qv0 (x:=1+(q:Rat)) (by grind) (by grind),qv2 (x:= -(1+(q:Rat))) (by grind) (by grind)]
theorem qd_self(hq:1≤q):∃ M,SqP (qd q) M (qd q):=by
  obtain ⟨M,_,hM⟩:=ex_lb (qd_z q);exact ⟨M,sq_self (qd_z q) hM (qd_pm q) (qd_sqf hq)⟩
theorem qd_sqE(hq:1≤q):sqP (qd q)=qd q:=let ⟨_,h⟩:=qd_self hq;h.eq.symm
end
def c2:Nat→Int:=lst [-2,0,1]
theorem c2_pk:pkP c2 3=qd 2:=funext fun i=>by
  match i with
  | 0=>decide
  | 1=>decide
  | 2=>decide
  | i+3=>rw [pkP_z c2 3 (i+3) (by omega),qd_3 2 (i+3) (by omega)]
theorem wk_okI{a b:Rat}(h:Ctd (FF (qd 2)) a b 1)(hlt:a < b):OkI (FF (qd 2)) (FF (fder (qd 2))) a b:=⟨qd_sqf (by decide),hlt,h⟩
theorem wk_pk:cmpC (cutA (pkC c2 3 1) (pkL c2 3 1) (pkH c2 3 1)) (cutP 1)=1∧sgC (FF (qd 2)) (cutA (pkC c2 3 1) (pkL c2 3 1) (pkH c2 3 1))=0:=by
  have h2:2≤lg (pkP c2 3):=by rw [c2_pk,qd_lg];decide
  have hR:=pk_rt h2;have hs:sqP (pkP c2 3)=qd 2:=by rw [c2_pk];exact qd_sqE (by decide)
  rw [hs] at hR;have hlen:(pkR c2 3).length=2:=by rw [hR.len];exact qd_two (by decide)
  have two:((2:Nat):Rat)=2:=rfl;have k0:Ctd (FF (qd 2)) 1 2 1:=qd_ctd (by decide) (by decide) (by rw [qv1 (x:=1) (by decide) (by rw [two];grind),qv0 (x:=2) (by decide) (by rw [two];grind)]);have k1:Ctd (FF (qd 2)) (-2) (-1) 1:=qd_ctd (by decide) (by decide) (by rw [qv2 (x:= -2) (by decide) (by rw [two];grind),qv3 (x:= -1) (by decide) (by rw [two];grind)]);have o0:=okV_I (qd_z 2) (wk_okI k0 (by decide));have o1:=okV_I (qd_z 2) (wk_okI k1 (by decide));have C0:=o0.ok.cut;have C1:=o1.ok.cut;obtain ⟨x0,m0,e0⟩:=hR.all _ C0 o0.vc;obtain ⟨x1,m1,e1⟩:=hR.all _ C1 o1.vc;have a0:cutA (qd 2) 1 2 (-1):=o0.ok.below (by decide);have a1:¬ cutA (qd 2) (-2) (-1) (-1):=o1.ok.above (by grind);have hr:=hR.rise
  match hl:pkR c2 3,hlen with
  | [y0,y1],_=>
    rw [hl] at m0 m1 hr;have hr2:cmpC (cutA (qd 2) y0.1 y0.2) (cutA (qd 2) y1.1 y1.2)= -1:=by
      have:=(List.pairwise_cons.1 hr).1 y1 (by simp);exact this
    have hx:x0=y1:=by
      rcases List.mem_cons.1 m0 with h | h
      · exfalso
        subst h;have hx1:x1=y1∨x1=x0:=by
          rcases List.mem_cons.1 m1 with k | k
          · exact Or.inr k
          · exact Or.inl (by simpa using k)
        rcases hx1 with k | k
        · subst k
          rw [cmpC_congr e0 e1] at hr2;have:=cmpC_gt C0 C1 a0 a1;omega
        · subst k
          exact a1 ((e1 _).1 ((e0 _).2 a0))
      · simpa using h
    subst hx;have hp:pkA c2 3 1=(qd 2,x0.1,x0.2):=by
      unfold pkA;rw [if_pos ⟨h2,by rw [hl];show 2≠0;decide⟩,hs,hl];rfl
    have eC:pkC c2 3 1=qd 2:=by unfold pkC;rw [hp]
    have eL:pkL c2 3 1=x0.1:=by unfold pkL;rw [hp]
    have eH:pkH c2 3 1=x0.2:=by unfold pkH;rw [hp]
    rw [eC,eL,eH];refine ⟨?_,?_⟩
    · have b0:cutA (qd 2) 1 2 1:=by rw [cutA_I (by decide)];exact Or.inl (by grind)
      rw [cmpC_congr e0 (fun _=>Iff.rfl)];exact cmpC_P1 C0 b0
    · exact sgC_zero (o0.vc.cut e0)
theorem wk_of:AV.le (.d (.one (prow 2 (dg (lst [-2,0,1]) 3) (lst [-2,0,1])))) (.d (.one (prow 4 (lg (qd 2)) (qd 2)))):=le_prow (by decide) (by rw [qd_lg];decide) (fun _ _=>rfl)
theorem aWakes10:ACall Tryz.prog 22 [] (.d (.one (.v (.bool true)))):=by
  exact acallN hTT 18 [.tmp 0] Tryz.func22 rfl rfl rfl rfl rfl<|cR<|mW rfl<|mT<|cR<|mB hTT (.d (.one (.row 1 3 (fun i' j'=>(([.v (.int .i64 (-2)),.v (.int .i64 0),.v (.int .i64 1)])[i'*1+j']?).getD (.v undef))))) rfl<|mC0 (ACall.le (dl (dle (le_one (isi_lit (l:= [-2,0,1]) (n:=3) rfl (fun i hi=>match i,hi with | 0,_=>rfl | 1,_=>rfl | 2,_=>rfl)).1)) (dl DV.same dl0)) AV.le.rfl (aPick (cl:=c2) (n:=3) (k:=1) (by decide) (by decide) (by decide))) rfl rfl rfl<|mN hTT (.box 32 ([.v (.slice none 0 0),.v (.slice none 0 0),.v (.slice none 0 0),.v (.bool false),.v (.slice none 0 0),.v (.bool false),.v (.slice none 0 0),.v (.bool false),.v (.slice none 0 0),.v (.bool false)])) rfl rfl rfl<|mS hTT 1 (.box 32 ([.row 4 (lg (pkC c2 3 1)) (qel 4 (rc (pkC c2 3 1)))] ++ [exL (ChQ (pkC c2 3 1) 2916) (fun L=>qlr 2916 L)] ++qn 1200 (pkL c2 3 1) ++qn 1200 (pkH c2 3 1))) rfl<|mT<|cSeq<|cDrawK hTT 15 (by kernel_rfl) (by kernel_rfl) (by kernel_rfl)<|.cons (OpS.B _ rfl)<|.cons (OpS.C0 (ACall.le (dl DV.same dl0) wk_of (aPOf (isi_lit (l:= [-2,0,1]) (n:=3) rfl (fun i hi=>match i,hi with | 0,_=>rfl | 1,_=>rfl | 2,_=>rfl)) (fun i hi=>match i,hi with | 0,_=>by decide | 1,_=>by decide | 2,_=>by decide) (by decide))) rfl rfl rfl)<|.cons (OpS.V (.d (.agg ([.row 4 (lg (pkC c2 3 1)) (qel 4 (rc (pkC c2 3 1)))] ++ [exL (ChQ (pkC c2 3 1) 2916) (fun L=>qlr 2916 L)] ++qn 1200 (pkL c2 3 1) ++qn 1200 (pkH c2 3 1)))) rfl)<|.cons (OpS.C0 (aQToA (K:=4) (KC:=2916) (X:=1200) (c:=(pkC c2 3 1)) (lo:=(pkL c2 3 1)) (hi:=(pkH c2 3 1)) ((pk_ok c2 3 1).v.ok.z) (by omega) (by omega)) rfl rfl rfl)<|.cons (OpS.C0 (aASign (K:=4) (L:=1200) (X:=20000) (KC:=50000) (N:=5) (c:=(pkC c2 3 1)) (y:=qd 2) (lo:=(pkL c2 3 1)) (hi:=(pkH c2 3 1)) (qd_z 2) (pk_ok c2 3 1).v (by decide) (pk_ok c2 3 1).l5 (by rw [qd_lg];decide) (by decide) (by decide) (by decide) (by decide) (by decide)) rfl rfl rfl)<|.cons (OpS.V (.d (.one (.v (.bool true)))) (evb (by rw [wk_pk.2];rfl)))<|.cons (OpS.V _ rfl)<|.cons (OpS.V (.d (.agg ([.row 4 (lg (pkC c2 3 1)) (qel 4 (rc (pkC c2 3 1)))] ++ [exL (ChQ (pkC c2 3 1) 2916) (fun L=>qlr 2916 L)] ++qn 1200 (pkL c2 3 1) ++qn 1200 (pkH c2 3 1)))) rfl)<|.cons (OpS.C0 (aQToA (K:=4) (KC:=2916) (X:=1200) (c:=(pkC c2 3 1)) (lo:=(pkL c2 3 1)) (hi:=(pkH c2 3 1)) ((pk_ok c2 3 1).v.ok.z) (by omega) (by omega)) rfl rfl rfl)<|.cons (OpS.C0 (aROfI (n:=1) (by decide) (by decide)) rfl rfl rfl)<|.cons (OpS.C0 (aRToR (isq 64 ((1:Int):Rat)) (by decide)) rfl rfl rfl)<|.cons (OpS.C0 (aCmpRat (K:=4) (c:=(pkC c2 3 1)) (L:=1200) (lo:=(pkL c2 3 1)) (M:=1200) (hi:=(pkH c2 3 1)) (N:=64) (t:=((1:Int):Rat)) (pk_ok c2 3 1).v.ok (by omega) (by omega) (by omega) (by omega)) rfl rfl rfl)<|.cons (OpS.V (.d (.one (.v (.bool true)))) (evb (by show (cmpC _ (cutP 1)==1)=true;rw [wk_pk.1];rfl)))<|.cons (OpS.V _ rfl)<|.cons (OpS.V _ rfl)<|.nil<|mT<|cRet<|rQ rfl (AV.le.rfl)
section
open Go.RowKit Go.ChangeShapes Go.WideShapes
section
variable {H:Type} {enc:TypeId×Value→H} {P:Program} {w:World}
theorem am_i64N{t e:TypeId}{fuel:Nat}{cs:List Value}{x:DataW H×List MemPlace}(ht:P.underlying t=some (.slice e))(he:P.underlying e=some (.int .i64))(hc:P.cellsOf e=1) 
    (h:DataW.trod enc P w 0 (fun _=>true) true fuel t cs=some x):∃ v n c,cs= [v]∧LfR nb w (irow n c) v∧n≤9223372036854775807∧∀ i,i < n→-9223372036854775808≤c i∧c i≤9223372036854775807:=by
  rcases open_ints ht he hc h with ⟨rfl,_⟩ | ⟨a,l,c,zs,rfl,_,hl,hm,hz,_,hcell,hwz⟩
  · exact ⟨_,0,fun _=>0,rfl,⟨none,0,rfl,Nat.le_refl _,fun _=>rfl,fun i hi=>absurd hi (Nat.not_lt_zero _)⟩,Nat.zero_le _,fun i hi=>absurd hi (Nat.not_lt_zero _)⟩
  · have hz':zs.length=c:=by simpa using hz
    have hmx:maxLen=9223372036854775807:=by decide
    refine ⟨_,l,fun i=>zs.getD i 0,rfl,⟨some a,c,rfl,hl,(fun e=>nomatch e),fun i hi=>?_⟩,by omega,fun i hi=>?_⟩
    · have h0:=hcell 0 (by omega)
      obtain ⟨b,off,rfl⟩:=plain_of_cell h0;have h1:=hcell i (by omega);rw [add_plain] at h1;refine ⟨b,off,rfl,fun h=>h.elim,World.block_lt_of_cell? w _ h1,fun q hq=>?_⟩;obtain rfl:q=0:=by omega
      exact ⟨_,by rw [Nat.mul_one,Nat.add_zero];exact h1,rfl,rfl⟩
    · have hi':i < zs.length:=by omega
      show _≤zs.getD i 0∧zs.getD i 0≤_
      rw [List.getD_eq_getElem?_getD,List.getElem?_eq_getElem hi'];exact wf_int (hwz _ (List.getElem_mem hi'))
theorem am_i64sN{r:Reach}{b0:Nat}{d:DataW H}{p:List MemPlace}{v:Value}{t e:TypeId}(ht:P.underlying t=some (.slice e))(he:P.underlying e=some (.int .i64))(hc:P.cellsOf e=1) 
    (hv:Value.okWide P w r b0 t v) (h:DataW.Trod enc P w 0 (fun _=>true) true t v d p):∃ n c,LfR nb w (irow n c) v∧n≤9223372036854775807∧∀ i,i < n→-9223372036854775808≤c i∧c i≤9223372036854775807:=by
  obtain ⟨a,len,cap,rfl⟩:=okWide_slice ht hv;obtain ⟨fuel,hf⟩:=h;rw [slice_cells] at hf;obtain ⟨v',n,c,e1,h2⟩:=am_i64N ht he hc hf;obtain rfl:=(List.cons.inj e1).1;exact ⟨n,c,h2⟩
end
end
theorem lnP_Ft(t x:Rat):FF (lnP t) x=(t.den:Rat)*(x-t):=by
  rw [lnP_F];have:=q_mul_den t;grind
theorem denR_pos(t:Rat):(0:Rat) < (t.den:Rat):=by
  have h:=t.den_pos;exact_mod_cast h
theorem ln_sgC{C:Cut}(hC:IsCut C)(t:Rat):sgC (FF (lnP t)) C=cmpC C (cutP t):=by
  have hd:=denR_pos t
  by_cases h:C t
  · obtain ⟨r,h1,h2⟩:=hC.up t h
    obtain ⟨r2,h3⟩:=hC.hi;rw [cmpC_P1 hC h];have he:0 < (t.den:Rat)*(r-t):=Rat.mul_pos hd (by grind);refine sgC_eq hC ⟨(t.den:Rat)*(r-t),r,r2,he,h2,h3,fun x hx _=>?_⟩;rw [lnP_Ft];have hx2:(t.den:Rat)*(r-t)≤(t.den:Rat)*(x-t):=Rat.mul_le_mul_of_nonneg_left (by grind) (by grind);exact ⟨Or.inl hx2,sgq_pos (by grind)⟩
  · by_cases h2:∃ q,q < t∧¬ C q
    · obtain ⟨q,h3,h4⟩:=h2
      obtain ⟨q0,h5⟩:=hC.lo;rw [cmpC_lt (D:=cutP t) h3 h4];have he:0 < (t.den:Rat)*(t-q):=Rat.mul_pos hd (by grind);refine sgC_eq hC ⟨(t.den:Rat)*(t-q),q0,q,he,h5,h4,fun x _ hx=>?_⟩;rw [lnP_Ft];have hx2:(t.den:Rat)*(t-q)≤(t.den:Rat)*(t-x):=Rat.mul_le_mul_of_nonneg_left (by grind) (by grind);have hx3:(t.den:Rat)*(t-x)= -((t.den:Rat)*(x-t)):=by grind
      exact ⟨Or.inr (by grind),sgq_neg (by grind)⟩
    · have hq:∀ q,C q↔cutP t q:=fun q=>by
        constructor
        · intro h3
          apply Classical.byContradiction;intro h4;have h5:¬ q < t:=h4;exact h (hC.down t q h3 (by grind))
        · intro h3
          apply Classical.byContradiction;intro h4;exact h2 ⟨q,h3,h4⟩
      rw [cmpC_eq hq,sgC_cut hq,sgC_P (FF_po (lnP_z t)),lnP_root];rfl
theorem lnP_lb{X:Nat}{t:Rat}(h:Tb X t):Lb X (lnP t):=fun i=>by
  match i with
  | 0=>show (-t.num).natAbs < _;rw [Int.natAbs_neg];exact h.1
  | 1=>show (t.den:Int).natAbs < _;exact h.2
  | i+2=>rw [lnP_z2 t (i+2) (by omega)];exact Nat.pow_pos (by decide)
theorem sm_lb(n d:Int):Lb 4 (lnP (smT n d)):=(lnP_lb (smT_tb n d)).mono (by decide)
theorem sm_row(K:Nat)(n d:Int):AV.le (.d (.one (prow K (lg (lnP (smT n d))) (lnP (smT n d))))) (.d (.one (prow 4 (lg (lnP (smT n d))) (lnP (smT n d))))):=le_prow_t (sm_lb n d)
theorem sm_al(K:Nat)(n d:Int):AV.le (.d (.agg (alc K (lnP (smT n d)) K (smT n d) K (smT n d)))) (.d (.agg (alc 4 (lnP (smT n d)) 1200 (smT n d) 1200 (smT n d)))):=al_tight (sm_lb n d) (tb_mono (smT_tb n d) (by decide)) (tb_mono (smT_tb n d) (by decide))
theorem aAlgLines{c0:Nat→Int}{n0:Nat}{a1 a2 a3:Int}(hn0:n0≤9223372036854775807)(hb0:∀ i,i < n0→-9223372036854775808≤c0 i∧c0 i≤9223372036854775807)(h1a: -9223372036854775808≤a1)(h1b:a1≤9223372036854775807)(h2a: -9223372036854775808≤a2)(h2b:a2≤9223372036854775807)(h3a: -9223372036854775808≤a3)(h3b:a3≤9223372036854775807):ACall Tryz.prog 8 [.one (irow n0 c0),.one (.v (.int .i64 a1)),.one (.v (.int .i64 a2)),.one (.v (.int .i64 a3))] (.d (.one (.v (.bool true)))):=by
  exact acallN hTT 46 [.tmp 8] Tryz.func8 rfl rfl rfl rfl rfl<|cR<|mW rfl<|mT<|cR<|mv2 rfl rfl<|mC0 (aPick (cl:=c0) (n:=n0) (k:=a1) hn0 h1a h1b) rfl rfl rfl<|mC0 (aQToA (K:=4) (KC:=2916) (X:=1200) (c:=(pkC c0 n0 a1)) (lo:=(pkL c0 n0 a1)) (hi:=(pkH c0 n0 a1)) ((pk_ok c0 n0 a1).v.ok.z) (by omega) (by omega)) rfl rfl rfl<|mN hTT (.box 46 ([.v (.slice none 0 0),.v (.bool false),.v (.slice none 0 0),.v (.bool false),.v (.slice none 0 0),.v (.bool false),.v (.slice none 0 0),.v (.bool false),.v (.slice none 0 0)])) rfl rfl rfl<|mS hTT 9 (.box 46 ([.row 2 (lg (pkC c0 n0 a1)) (zel 4 (pkC c0 n0 a1))] ++tn 1200 (pkL c0 n0 a1) ++tn 1200 (pkH c0 n0 a1))) rfl<|mT<|cR<|mv2 rfl rfl<|mC0 (aSmall (n:=a2) (d:=a3) h2a h2b h3a h3b) rfl rfl rfl<|mN hTT (.box 30 ([.v (.slice none 0 0),.v (.bool false),.v (.slice none 0 0),.v (.bool false)])) rfl rfl rfl<|mS hTT 10 (.box 30 (qn 64 (smT a2 a3))) rfl<|mT<|cR<|mW rfl<|mC0 (aQRational (X:=64) (KC:=2916) (t:=(smT a2 a3)) (by decide) (by decide) (by decide)) rfl rfl rfl<|mW rfl<|mC0 (ACall.le (dl DV.same dl0) (sm_row 64 a2 a3) (aQToN (K:=64) (c:=(lnP (smT a2 a3))) (lnP_z (smT a2 a3)) (by decide))) rfl rfl rfl<|mW rfl<|mT<|cR<|mW rfl<|mC0 (aRToR (isq 64 (smT a2 a3)) (by omega)) rfl rfl rfl<|mN hTT (.box 44 ([.v (.bool false),.v (.slice none 0 0),.v (.bool false),.v (.slice none 0 0)])) rfl rfl rfl<|mS hTT 12 (.box 44 (tn 64 (smT a2 a3))) rfl<|mT<|cSeq<|cDrawK hTT 21 (by kernel_rfl) (by kernel_rfl) (by kernel_rfl)<|.cons (OpS.V _ rfl)<|.cons (OpS.V (.d (.agg ([.row 2 (lg (pkC c0 n0 a1)) (zel 4 (pkC c0 n0 a1))] ++tn 1200 (pkL c0 n0 a1) ++tn 1200 (pkH c0 n0 a1)))) rfl)<|.cons (OpS.C0 (aASign (K:=4) (L:=1200) (X:=20000) (KC:=50000) (N:=5) (c:=(pkC c0 n0 a1)) (y:=(lnP (smT a2 a3))) (lo:=(pkL c0 n0 a1)) (hi:=(pkH c0 n0 a1)) (lnP_z (smT a2 a3)) (pk_ok c0 n0 a1).v (by decide) (pk_ok c0 n0 a1).l5 (by rw [lnP_lg];decide) (by decide) (by decide) (by decide) (by decide) (by decide)) rfl rfl rfl)<|.cons (OpS.V (.d (.agg ([.row 2 (lg (pkC c0 n0 a1)) (zel 4 (pkC c0 n0 a1))] ++tn 1200 (pkL c0 n0 a1) ++tn 1200 (pkH c0 n0 a1)))) rfl)<|.cons (OpS.V (.d (.agg (tn 64 (smT a2 a3)))) rfl)<|.cons (OpS.C0 (aCmpRat (K:=4) (c:=(pkC c0 n0 a1)) (L:=1200) (lo:=(pkL c0 n0 a1)) (M:=1200) (hi:=(pkH c0 n0 a1)) (N:=64) (t:=(smT a2 a3)) (pk_ok c0 n0 a1).v.ok (by omega) (by omega) (by omega) (by omega)) rfl rfl rfl)<|.cons (OpS.V (.d (.one (.v (.bool true)))) (evb (beq_iff_eq.2 (ln_sgC (pk_ok c0 n0 a1).v.ok.cut _))))<|.cons (OpS.V _ rfl)<|.cons (OpS.V (.d (.agg ([.row 2 (lg (pkC c0 n0 a1)) (zel 4 (pkC c0 n0 a1))] ++tn 1200 (pkL c0 n0 a1) ++tn 1200 (pkH c0 n0 a1)))) rfl)<|.cons (OpS.V (.d (.agg (tn 64 (smT a2 a3)))) rfl)<|.cons (OpS.C0 (aCmpRat (K:=4) (c:=(pkC c0 n0 a1)) (L:=1200) (lo:=(pkL c0 n0 a1)) (M:=1200) (hi:=(pkH c0 n0 a1)) (N:=64) (t:=(smT a2 a3)) (pk_ok c0 n0 a1).v.ok (by omega) (by omega) (by omega) (by omega)) rfl rfl rfl)<|.cons (OpS.V (.d (.agg ([.row 2 (lg (pkC c0 n0 a1)) (zel 4 (pkC c0 n0 a1))] ++tn 1200 (pkL c0 n0 a1) ++tn 1200 (pkH c0 n0 a1)))) rfl)<|.cons (OpS.V (.d (.agg (tn 64 (smT a2 a3)))) rfl)<|.cons (OpS.C0 (ACall.le (dl DV.same dl0) (sm_al 64 a2 a3) (aAOf (K:=64) (t:=(smT a2 a3)) (by decide))) rfl rfl rfl)<|.cons (OpS.C0 (aACmp (K:=4) (L:=1200) (X:=20000) (KC:=50000) (N:=5) (c:=(pkC c0 n0 a1)) (d:=(lnP (smT a2 a3))) (lo:=(pkL c0 n0 a1)) (hi:=(pkH c0 n0 a1)) (x1:=(smT a2 a3)) (x2:=(smT a2 a3)) (pk_ok c0 n0 a1).v (okV_ln (smT a2 a3)) (by decide) (pk_ok c0 n0 a1).l5 (by rw [lnP_lg];decide) (by decide) (by decide) (by decide) (by decide)) rfl rfl rfl)<|.cons (OpS.V (.d (.one (.v (.bool true)))) (evb (beq_iff_eq.2 (by rw [cutA_P Rat.le_refl]))))<|.cons (OpS.V _ rfl)<|.cons (OpS.V _ rfl)<|.cons (OpS.C0 (aWakes10) rfl rfl rfl)<|.cons (OpS.V _ rfl)<|.cons (OpS.V _ rfl)<|.nil<|mT<|cRet<|rQ rfl (AV.le.rfl)
end Go.Proofs.YthccmbncplakjaaGreat
