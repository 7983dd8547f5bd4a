/-
  Laws of the program's functions by an abstract machine, part 2: joined, short spelling. No condition.
-/
import Derived.Test.YtapmpcgekdplfaaGreatJ1
set_option linter.unusedVariables false
set_option linter.unusedSimpArgs false
set_option maxRecDepth 100000
set_option maxHeartbeats 4000000
namespace Go.Proofs.YtapmpcgekdplfaaGreat
open Go.RowKit
/-- A shift's number: from 0 to 65536. -/
def iR(n:Int):Nat:=(max 0 (min n 65536)).toNat
theorem ad7(ao:Option Addr)(n c:Nat)(xs:List Nat)(z:Int)(w:World)(hn:n≤1073741824)(hr:Rw .u32 bT w ao n c xs):
  Calls Tryz.prog 183 #[.slice ao n c,.int .i64 z] w fun e w'=>∃ ro k c',e= .returned (.slice ro k c')∧Rw .u32 bT w' ro k c' (dA (val xs*2^iR z))∧rH w.heap.size w' ro c'∧Below w.heap.size w w':=by
 go_enter Tryz.func183,Tryz.ntmps183;go_wp2_with fail;refine (gW ao n c xs _ (by omega) hr).mono ?_;rintro e w' ⟨n1,rfl,hn1,hp,rfl⟩;go_upto_region 2 with (fail);go_cut [1] (fun s1 wx=>s1= .int .i64 (iR z:Nat)∧wx=w)
 case first=>
  by_cases hz0:z≤0
  ·go_wp2_with fail
   go_meet;exact ⟨by rw [show iR z=0 by unfold iR;omega];rfl,rfl⟩
  ·by_cases hz1:65536 < z
   ·go_wp2_with fail
    go_meet;exact ⟨by rw [show iR z=65536 by unfold iR;omega];rfl,rfl⟩
   ·go_wp2_with fail
    go_meet;exact ⟨by rw [show ((iR z:Nat):Int)=z by unfold iR;omega],rfl⟩
 case rest=>
  obtain ⟨rfl,rfl⟩:=hcut;have hzB:iR z≤65536:=by unfold iR;omega
  obtain ⟨zn,hzn⟩:∃ zn,zn=iR z:=⟨_,rfl⟩
  rw [← hzn] at hzB ⊢;have HZN:=aS hzn;clear hzn;obtain ⟨kk,hkk⟩:∃ kk,kk=zn / 32:=⟨_,rfl⟩
  obtain ⟨ss,hss⟩:∃ ss,ss=zn%32:=⟨_,rfl⟩
  have anV:kk≤2048:=by omega
  have aho:ss < 32:=by omega
  have ZJ:zn=32*kk+ss:=by omega
  have hd1:(zn:Int) / 32=(kk:Int):=by omega
  have hd2:(zn:Int)%32=(ss:Int):=by omega
  have HZ:=aS ZJ;clear hkk hss ZJ
  by_cases h0:n1=0
  ·subst h0
   go_wp2;go_ret;have hx0:val xs=0:=ru.1 (adb hp.len);exact ⟨_,_,_,rfl,by rw [hx0,Nat.zero_mul];exact Rw.nil _ _ _,rH.nil _ _ _,Below.refl _ _⟩
  ·have hn0:((n1:Int)==0)=false:=by rw [beq_eq_false_iff_ne];omega
   go_wp2_with (at_make;refine Hid.out ?_);refine aS ?_;refine jq _ rfl _ _ 34 rfl 165 (.int .u32 0) 4 Tryz.underlying34 Tryz.infoU32 rfl .i64 .i64 _ _ (n1+kk+1) rfl rfl (by omega) (by omega) (by omega) (by unfold maxLen;omega) fun w2 hblk hbelow hlt=>?_
   obtain ⟨G,hG⟩:∃ G,G=wc.heap.size:=⟨_,rfl⟩
   rw [← hG] at hblk hlt hbelow ⊢;have HG:=aS hG;clear hG;rw [← eX] at hblk;generalize hA:dA (val xs)=P at *
   have HA:=aS hA;clear hA hr hd1 hd2;have hpl:=hp.len;have LX:=aS hpl;clear hpl;go_wp2_with fail;go_loopw [32] (fun s32 wr=>∃ (k:Nat) (os:List Nat),k≤n1∧s32= .int .i64 k∧os.length=n1+kk+1∧(∀ o∈os,o < bT)∧(∃ o,os[k+kk]?=some o∧o < 2^ss)∧(∀ j,k+kk < j→j < n1+kk+1→os[j]?=some 0)∧kX wr G 165 (eP .u32 os)∧Below G wc wr∧
     aO bT os=bT^kk*(2^ss*aO bT (P.take k))) (fun s32 _=>n1-(intOf s32).toNat)
   case atStart=>exact ⟨0,List.replicate (n1+kk+1) 0,abR _,rfl,by simp,(fun o ho=>by have:=(afu.1 ho).2;subst this;decide),⟨0,by rw [List.getElem?_replicate,if_pos (by omega)],afn _⟩,(fun j _ hj=>by simp [hj]),hblk,hbelow,by simp [aO,jF]⟩
   case round=>
    obtain ⟨k,os,hk,rfl,hol,oZ,⟨o,ho,hoS⟩,hz,hb,hbe,hv⟩:=hrel;have HV:=aS hv;have HOL:=aS hol;have HZ0:=aS hz;have Ho:=aS ho;have HoS:=aS hoS;clear hv hol hblk hbelow hz ho hoS;have hb0:=hb.lt
    by_cases hkn:k < n1
    ·obtain ⟨b1,off1,x,rfl,hx,kC,hcx⟩:=(hp.ext (by rw [← HG.out];exact hbe)).at hkn
     have hx':x < 4294967296:=kC;have Hx:=aS hx;clear hx kC;have hcell:=hb.cell (k+kk) (by rw [bM,HOL.out];omega);have hg:(eP .u32 os)[k+kk]'(by rw [bM,HOL.out];omega)= .int .u32 (o:Int):=by
      obtain ⟨h1,h2⟩:=abU.1 Ho.out;rw [wG,h2]
     rw [hg] at hcell;clear hg;have hfree:=hb.free (k+kk);have hcell2:=hb.cell (k+kk+1) (by rw [bM,HOL.out];omega);have anN:=hb.free (k+kk+1);obtain ⟨v,t,hi,e1,e2,e3,ht,hhi,akE,hvB,e4⟩:=Xe x ss o hx' aho HoS.out;have E4:=aS e4;have HHS:=aS akE;clear e4 akE;go_wp2;go_roundw
     case rel=>
      have hv1:=(hb.set (k+kk) (.int .u32 (t:Int))).set (k+kk+1) (.int .u32 (hi:Int));rw [fK,fK] at hv1;refine ⟨k+1,(os.set (k+kk) t).set (k+kk+1) hi,by omega,by go_num,by rw [List.length_set,List.length_set];exact HOL.out,dK (dK oZ ht _) hhi _,⟨hi,?_,HHS.out⟩,?_,hv1,(hbe.setCell (abJ _) _).setCell (abJ _) _,?_⟩
      ·rw [show k+1+kk=k+kk+1 by omega,List.getElem?_set_self (by rw [List.length_set,HOL.out];omega)]
      ·intro j h1 h2
       rw [List.getElem?_set_ne (by omega),List.getElem?_set_ne (by omega)];exact HZ0.out j (by omega) h2
      ·exact aa7 Ho.out (HZ0.out _ (by omega) (by omega)) HV.out Hx.out E4.out
     case measure=>simp [intOf];omega
    ·obtain rfl:k=n1:=by omega
     go_wp2_with fail;have hrow:=hb.rw oZ;rw [HOL.out] at hrow;refine (gW _ _ _ _ _ (by omega) hrow).mono ?_;rintro e w' ⟨r1,rfl,hr1',hres,rfl⟩;have hown:=hb.own (base:=G) (n:=k+kk+1) (abJ _) (by rw [bM,HOL.out];exact abJ _);go_wp2;go_ret;refine ⟨_,_,_,rfl,?_,by rw [← HG.out];exact hown,by rw [← HG.out];exact hbe⟩;have hval:val os=val xs*2^zn:=by
      have h2:=HV.out;rw [bJ _ LX.out,← HA.out] at h2
      change val os=_*(_*val (dA (val xs))) at h2
      rw [aac] at h2;rw [h2,HZ.out,Nat.pow_add,Nat.pow_mul,show (2:Nat)^32=bT from rfl];grind
     rw [← HZN.out,← hval];exact hres
theorem ad8(ao:Option Addr)(n c:Nat)(xs:List Nat)(z:Int)(w:World)(hn:n≤1073741824)(hr:Rw .u32 bT w ao n c xs):
  Calls Tryz.prog 178 #[.slice ao n c,.int .i64 z] w fun e w'=>∃ ro k c',e= .returned (.slice ro k c')∧Rw .u32 bT w' ro k c' (dA (val xs / 2^iR z))∧rH w.heap.size w' ro c'∧Below w.heap.size w w':=by
 go_enter Tryz.func178,Tryz.ntmps178;go_wp2_with fail;refine (gW ao n c xs _ (by omega) hr).mono ?_;rintro e w' ⟨n1,rfl,hn1,hp,rfl⟩;go_upto_region 2 with (fail);go_cut [1] (fun s1 wx=>s1= .int .i64 (iR z:Nat)∧wx=w)
 case first=>
  by_cases hz0:z≤0
  ·go_wp2_with fail
   go_meet;exact ⟨by rw [show iR z=0 by unfold iR;omega];rfl,rfl⟩
  ·by_cases hz1:65536 < z
   ·go_wp2_with fail
    go_meet;exact ⟨by rw [show iR z=65536 by unfold iR;omega];rfl,rfl⟩
   ·go_wp2_with fail
    go_meet;exact ⟨by rw [show ((iR z:Nat):Int)=z by unfold iR;omega],rfl⟩
 case rest=>
  obtain ⟨rfl,rfl⟩:=hcut;have hzB:iR z≤65536:=by unfold iR;omega
  obtain ⟨zn,hzn⟩:∃ zn,zn=iR z:=⟨_,rfl⟩
  rw [← hzn] at hzB ⊢;have HZN:=aS hzn;clear hzn;obtain ⟨kk,hkk⟩:∃ kk,kk=zn / 32:=⟨_,rfl⟩
  obtain ⟨ss,hss⟩:∃ ss,ss=zn%32:=⟨_,rfl⟩
  have anV:kk≤2048:=by omega
  have aho:ss < 32:=by omega
  have ZJ:zn=32*kk+ss:=by omega
  have hd1:(zn:Int) / 32=(kk:Int):=by omega
  have hd2:(zn:Int)%32=(ss:Int):=by omega
  have HZ:=aS ZJ;clear hkk hss ZJ
  by_cases h0:n1≤kk
  ·go_wp2
   go_ret;have hx0:val xs / 2^iR z=0:=by
    rw [← HZN.out,HZ.out,Nat.pow_add,Nat.pow_mul];have h1:=JJ hp.lt;rw [aac,hp.len] at h1;have h2:bT^n1≤bT^kk:=ab1 (by decide) h0;have h3:bT^kk*1≤bT^kk*2^ss:=ac4 _ (afn ss);exact Nat.div_eq_of_lt (by show val xs < bT^kk*2^ss;omega)
   exact ⟨_,_,_,rfl,by rw [hx0];exact Rw.nil _ _ _,rH.nil _ _ _,Below.refl _ _⟩
  ·obtain ⟨l,hl⟩:∃ l,n1=kk+l:=⟨n1-kk,by omega⟩
   have hl0:0 < l:=by omega
   subst hl;go_wp2_with (at_make;refine Hid.out ?_);refine aS<|jq _ rfl _ _ 34 rfl 165 (.int .u32 0) 4 Tryz.underlying34 Tryz.infoU32 rfl .i64 .i64 _ _ l rfl rfl (by omega) (by omega) (by omega) (by unfold maxLen;omega) fun w2 hblk hbelow hlt=>?_
   obtain ⟨G,hG⟩:∃ G,G=wc.heap.size:=⟨_,rfl⟩
   rw [← hG] at hblk hlt hbelow ⊢;have HG:=aS hG;clear hG;rw [← eX] at hblk;generalize hA:dA (val xs)=P at *
   have HA:=aS hA;clear hA hr hd1 hd2;have hpl:=hp.len;have LX:=aS hpl;clear hpl;go_wp2_with fail;go_loopw [31] (fun s31 wr=>∃ (k:Nat) (os:List Nat),k≤l∧s31= .int .i64 k∧os.length=l∧(∀ o∈os,o < bT)∧kX wr G 165 (eP .u32 os)∧Below G wc wr∧
     2^ss*aO bT (os.take k)+(P.drop kk).getD 0 0%2^ss=aO bT ((P.drop kk).take k)+bT^k*((P.drop kk).getD k 0%2^ss)) (fun s31 _=>l-(intOf s31).toNat)
   case atStart=>exact ⟨0,List.replicate l 0,abR _,rfl,by simp,(fun o ho=>by have:=(afu.1 ho).2;subst this;decide),hblk,hbelow,by simp [aO]⟩
   case round=>
    obtain ⟨k,os,hk,rfl,hol,oZ,hb,hbe,hv⟩:=hrel;have HV:=aS hv;have HOL:=aS hol;clear hv hol hblk hbelow;have hb0:=hb.lt
    by_cases hkn:k < l
    ·obtain ⟨b1,off1,x,rfl,hx,kC,hcx⟩:=(hp.ext (by rw [← HG.out];exact hbe)).at (show k+kk < kk+l by omega)
     have hx':x < 4294967296:=kC;have Hx:=aS hx;clear hx kC;have hcell:=hb.cell k (by rw [bM,HOL.out];omega);have hfree:=hb.free k
     by_cases hk1:k+1 < l
     ·obtain ⟨y,hy,hyB,hcy⟩:=(hp.ext (by rw [← HG.out];exact hbe)).cell (show k+kk+1 < kk+l by omega)
      have hy':y < 4294967296:=hyB;have Hy:=aS hy;clear hy hyB;obtain ⟨q,e1,hq,e2⟩:=Xf x y ss hx' hy' aho;have E1:=aS e1;have E2:=aS e2;clear e1 e2;go_wp2;rw [E1.out];go_roundw
      case rel=>
       have hv:=hb.set k (.int .u32 (q:Int));rw [fK] at hv;refine ⟨k+1,os.set k q,by omega,by go_num,by rw [List.length_set];exact HOL.out,dK oZ hq k,hv,hbe.setCell (abJ _) _,?_⟩;refine QE (by rw [HOL.out];omega) HV.out (x:=x) (y:=y) ?_ ?_ E2.out
       ·rw [List.getElem?_drop,Nat.add_comm];exact Hx.out
       ·rw [List.getD_eq_getElem?_getD,List.getElem?_drop,show kk+(k+1)=k+kk+1 by omega,Hy.out];rfl
      case measure=>simp [intOf];omega
     ·obtain ⟨q,e1,hq,e2⟩:=TU x ss hx'
      have E1:=aS e1;have E2:=aS e2;clear e1 e2;go_wp2;rw [E1.out];go_roundw
      case rel=>
       have hv:=hb.set k (.int .u32 (q:Int));rw [fK] at hv;refine ⟨k+1,os.set k q,by omega,by go_num,by rw [List.length_set];exact HOL.out,dK oZ hq k,hv,hbe.setCell (abJ _) _,?_⟩;refine QE (by rw [HOL.out];omega) HV.out (x:=x) (y:=0) ?_ ?_ E2.out
       ·rw [List.getElem?_drop,Nat.add_comm];exact Hx.out
       ·rw [List.getD_eq_getElem?_getD,List.getElem?_drop,List.getElem?_eq_none (by rw [LX.out];omega)];rfl
      case measure=>simp [intOf];omega
    ·obtain rfl:k=l:=by omega
     go_wp2_with fail;have hrow:=hb.rw oZ;rw [HOL.out] at hrow;refine (gW _ _ _ _ _ (by omega) hrow).mono ?_;rintro e w' ⟨r1,rfl,hr1',hres,rfl⟩;have hown:=hb.own (base:=G) (n:=k) (abJ _) (by rw [bM,HOL.out];exact abJ _);go_wp2;go_ret;refine ⟨_,_,_,rfl,?_,by rw [← HG.out];exact hown,by rw [← HG.out];exact hbe⟩;have hval:val os=val xs / 2^zn:=by
      have h2:=HV.out;have hdl:(P.drop kk).length=k:=by rw [List.length_drop,LX.out];omega
      rw [bJ _ HOL.out,bJ _ hdl,List.getD_eq_getElem?_getD (i:=k),List.getElem?_eq_none (by omega)] at h2;simp only [Option.getD_none,Nat.zero_mod,Nat.mul_zero,Nat.add_zero] at h2;have h3:=qg bT P kk (by rw [LX.out];omega);have h4:val P=val xs:=by rw [← HA.out,aac]
      have h5:aO bT (P.take kk) < bT^kk:=by
       have:=nC (B:=bT) (xs:=P.take kk) (fun x h=>hp.lt x (aio h));rwa [List.length_take,Nat.min_eq_left (by rw [LX.out];omega)] at this
      have h6:(P.drop kk).getD 0 0%2^ss < 2^ss:=adl _ (afn ss);rw [HZ.out,Nat.pow_add,Nat.pow_mul,show (2:Nat)^32=bT from rfl,← Nat.div_div_eq_div_mul,← h4]
      change val P=_ at h3
      rw [h3,Nat.add_mul_div_left _ _ (Nat.pow_pos (by decide)),Nat.div_eq_of_lt h5,Nat.zero_add,← h2,Nat.mul_add_div (Nat.two_pow_pos ss),Nat.div_eq_of_lt h6];rfl
     rw [← HZN.out,← hval];exact hres
/-- How many binary digits a number has. -/
def bW(n:Nat):Nat:=if n=0 then 0 else n.log2+1
theorem NR{n k:Nat}(h0:2^k≤n)(h1:n < 2^(k+1)):bW n=k+1:=by
 have hp:=afn k;have hn:n≠0:=by omega
 rw [bW,if_neg hn];have h2:n.log2 < k+1:=(Nat.log2_lt hn).2 h1;have h3:k≤n.log2:=(Nat.le_log2 hn).2 h0;omega
theorem zC(n:Nat):n < 2^bW n:=by
 rw [bW];split
 ·rename_i h;subst h;decide
 ·exact Nat.lt_log2_self
theorem Ji{n:Nat}(h:n≠0):2^(bW n-1)≤n:=by
 rw [bW,if_neg h];exact Nat.log2_self_le h
theorem Fb{n:Nat}(h:n≠0):0 < bW n:=by rw [bW,if_neg h];omega
/-- A number over a base of 2 to the s: its digits are s and those of the upper part. -/
theorem uI{n s y l:Nat}(hl:l < 2^s)(hy:y≠0)(hn:n=l+2^s*y):bW n=s+bW y:=by
 have h1:=zC y;have h2:=Ji hy;have h3:=Fb hy;obtain ⟨b,hb⟩:∃ b,bW y=b+1:=⟨bW y-1,by omega⟩
 rw [hb] at h1 h2 ⊢;rw [Nat.add_sub_cancel] at h2;refine NR (k:=s+b) ?_ ?_
 ·rw [Nat.pow_add]
  have:=ac4 (2^s) h2;omega
 ·rw [Nat.add_assoc,Nat.pow_add]
  have:=ac4 (2^s) (show y+1≤2^(b+1) from h1);rw [Nat.mul_add] at this;omega
theorem iI{n k:Nat}(h:n < 2^k):bW n≤k:=by
 by_cases h0:n=0
 ·subst h0;simp [bW]
 ·have h1:=Ji h0
  have h2:2^(bW n-1) < 2^k:=aeV h1 h;have:=(Nat.pow_lt_pow_iff_right (by decide)).1 h2;omega
/-- A table of the digits' counts: the first 256 bytes of a string. -/
def afI(s:ByteArray):Bool:=(List.range 256).all fun y=>(s.data[y]?).map (fun b=>b.toNat)==some (bW y)
theorem aiw{s:ByteArray}(h:afI s=true){y:Nat}(hy:y < 256):∃ b:UInt8,s[y]?=some b∧b.toNat=bW y:=by
 have h1:=afj.1 h y (by simpa using hy);simp only [beq_iff_eq,Option.map_eq_some_iff] at h1;obtain ⟨b,h2,h3⟩:=h1;exact ⟨b,h2,h3⟩
/-- An index into a constant string. -/
theorem yg{P:Program}(w:World){ops:Array Oper}{rest:List Oper}{o:Oper}{a:Act}{Q:Exit→Act→World→Prop}(hgd:o.guard=none)(t:TypeId)(s:ByteArray)(x:Operand) 
  (hop:o.op= .index t (.const (.string s)) x) (ht:P.underlying t=some .string) (k:IntKind) (y:Nat) (hx:a.eval x= .int k (y:Int)) (hy:y < 256) (htab:afI s=true)
  (h:wpList P ops Q rest (a.put o.dst (.int .u8 (bW y:Nat))) w):wpList P ops Q (o ::rest) a w:=by
 obtain ⟨b,hb,hn⟩:=aiw htab hy;refine wpList_plain hgd fun K hK=>?_
 have hrun:(Instr.index t (.string s) (.int k (y:Int))).run P w= .ok (.int .u8 (bW y:Nat)) w:=by
  unfold Instr.index;simp [run_underlying ht,asIntOf,hb,hn]
 unfold Oper.wp;have he:a.eval (.const (.string s))= .string s:=rfl;simp [execOp,hop,hx,he,hrun,Result.andThen];exact hK _ _ h
theorem Lh(x:Nat)(w:World)(hx:x < 4294967296):
  Calls Tryz.prog 162 #[.int .u32 (x:Int)] w fun e w'=>e= .returned (.int .i64 (bW x:Nat))∧w'=w:=by
 by_cases h1:65536≤x
 ·obtain ⟨y,hy⟩:∃ y:Nat,y=x / 65536:=⟨_,rfl⟩
  have hyB:y < 65536:=by omega
  have hq:(x:Int) / 65536=(y:Int):=by omega
  have HY:=aS hy;clear hy;have hb1:decide ((65536:Int)≤(x:Int))=true:=by rw [decide_eq_true_eq];omega
  by_cases h2:256≤y
  ·obtain ⟨z,hz⟩:∃ z:Nat,z=y / 256:=⟨_,rfl⟩
   have hzB:z < 256:=by omega
   have hq2:(y:Int) / 256=(z:Int):=by omega
   have HZ:=aS hz;clear hz;have zk:bW x=bW z+24:=by
    have:=uI (n:=x) (s:=24) (y:=z) (l:=x%16777216) (adl _ (by decide)) (by have:=HZ.out;omega) (by have h3:=HZ.out;have h4:=HY.out;show x=x%16777216+16777216*z;omega);omega
   have HB:=aS zk;clear zk;have hn9:bW z≤8:=iI hzB;go_enter Tryz.func162,Tryz.ntmps162;go_wp2_with (with_reducible refine Hid.out (p:=wpList _ _ _ ({dst:=some 16,op:=_,type:=_,pos:=_,after:=_,guard:=_} ::_) _ _) ?_);refine aS<|yg _ rfl 9 _ _ rfl Tryz.underlying9 .u8 z rfl hzB (by decide +kernel) ?_;go_wp2;go_ret;exact ⟨jg (by rw [HB.out];simp;omega),rfl⟩
  ·have ale:y < 256:=by omega
   have hy0:0 < y:=by omega
   have hb2:decide ((256:Int)≤(y:Int))=false:=by rw [decide_eq_false_iff_not];omega
   have zk:bW x=bW y+16:=by
    have:=uI (n:=x) (s:=16) (y:=y) (l:=x%65536) (adl _ (by decide)) (by omega) (by have h4:=HY.out;show x=x%65536+65536*y;omega);omega
   have HB:=aS zk;clear zk;have hn9:bW y≤8:=iI ale;go_enter Tryz.func162,Tryz.ntmps162;go_wp2_with (with_reducible refine Hid.out (p:=wpList _ _ _ ({dst:=some 16,op:=_,type:=_,pos:=_,after:=_,guard:=_} ::_) _ _) ?_);refine aS<|yg _ rfl 9 _ _ rfl Tryz.underlying9 .u8 y rfl ale (by decide +kernel) ?_;go_wp2;go_ret;exact ⟨jg (by rw [HB.out];simp;omega),rfl⟩
 ·have hb1:decide ((65536:Int)≤(x:Int))=false:=by rw [decide_eq_false_iff_not];omega
  by_cases h2:256≤x
  ·obtain ⟨z,hz⟩:∃ z:Nat,z=x / 256:=⟨_,rfl⟩
   have hzB:z < 256:=by omega
   have hq2:(x:Int) / 256=(z:Int):=by omega
   have HZ:=aS hz;clear hz;have hb2:decide ((256:Int)≤(x:Int))=true:=by rw [decide_eq_true_eq];omega
   have zk:bW x=bW z+8:=by
    have:=uI (n:=x) (s:=8) (y:=z) (l:=x%256) (adl _ (by decide)) (by have:=HZ.out;omega) (by have h3:=HZ.out;show x=x%256+256*z;omega);omega
   have HB:=aS zk;clear zk;have hn9:bW z≤8:=iI hzB;go_enter Tryz.func162,Tryz.ntmps162;go_wp2_with (with_reducible refine Hid.out (p:=wpList _ _ _ ({dst:=some 16,op:=_,type:=_,pos:=_,after:=_,guard:=_} ::_) _ _) ?_);refine aS<|yg _ rfl 9 _ _ rfl Tryz.underlying9 .u8 z rfl hzB (by decide +kernel) ?_;go_wp2;go_ret;exact ⟨jg (by rw [HB.out];simp;omega),rfl⟩
  ·have kC:x < 256:=by omega
   have hb2:decide ((256:Int)≤(x:Int))=false:=by rw [decide_eq_false_iff_not];omega
   have hn9:bW x≤8:=iI kC;go_enter Tryz.func162,Tryz.ntmps162;go_wp2_with (with_reducible refine Hid.out (p:=wpList _ _ _ ({dst:=some 16,op:=_,type:=_,pos:=_,after:=_,guard:=_} ::_) _ _) ?_);refine aS<|yg _ rfl 9 _ _ rfl Tryz.underlying9 .u8 x rfl kC (by decide +kernel) ?_;go_wp2;go_ret;exact ⟨rfl,rfl⟩
theorem aai(x:Nat)(w:World)(hx:x < 4294967296):
  Calls Tryz.prog 175 #[.int .u32 (x:Int)] w fun e w'=>e= .returned (.int .i64 ((32-bW x:Nat):Int))∧w=w':=by
 have hn:=iI (n:=x) (k:=32) hx;go_enter Tryz.func175,Tryz.ntmps175;go_wp2_with fail;refine (Lh x _ hx).mono ?_;rintro e w' ⟨rfl,rfl⟩;go_wp2;go_ret;exact ⟨jg (by omega),rfl⟩
/-- Bits: how many binary digits. -/
theorem Yl(ao:Option Addr)(n c:Nat)(xs:List Nat)(w:World)(hn:n≤1073741824)(hr:Rw .u32 bT w ao n c xs):
  Calls Tryz.prog 136 #[.slice ao n c] w fun e w'=>e= .returned (.int .i64 (bW (val xs):Nat))∧w=w':=by
 go_enter Tryz.func136,Tryz.ntmps136;go_wp2_with fail;refine (gW ao n c xs _ (by omega) hr).mono ?_;rintro e w' ⟨n1,rfl,hn1,hp,rfl⟩
 by_cases h0:n1=0
 ·subst h0
  have hx0:val xs=0:=ru.1 (adb hp.len);have HX:=aS hx0;clear hx0;go_wp2;go_ret;exact ⟨by rw [HX.out];rfl,rfl⟩
 ·obtain ⟨j,rfl⟩:∃ j,n1=j+1:=⟨n1-1,by omega⟩
  obtain ⟨b1,off1,x,rfl,hx,kC,hcx⟩:=hp.at (show j < j+1 by omega);have hx':x < 4294967296:=kC;have hx0:x≠0:=by
   rintro rfl;have h1:=(Ip qh (val xs)).2;rw [List.getLast?_eq_getElem?] at h1
   change (dA (val xs))[(dA (val xs)).length-1]?≠some 0 at h1
   rw [hp.len,Nat.add_sub_cancel] at h1;exact h1 hx
  have zk:bW (val xs)=32*j+bW x:=by
   have h1:=aac (val xs);have h2:=aQ bT hx;rw [bJ _ hp.len] at h2
   change val (dA (val xs))=_ at h2
   rw [h1] at h2;refine uI (l:=aO bT ((dA (val xs)).take j)) ?_ hx0 ?_
   ·have:=nC (B:=bT) (xs:=(dA (val xs)).take j) (fun x h=>DN _ x (aio h))
    rw [List.length_take,hp.len,Nat.min_eq_left (by omega)] at this;rw [Nat.pow_mul];exact this
   ·rw [Nat.pow_mul];exact h2
  have HB:=aS zk;clear zk;have hnb:=iI (n:=x) (k:=32) hx';clear hx kC hx0;go_wp2_with fail;refine (Lh x _ hx').mono ?_;rintro e w' ⟨rfl,rfl⟩;go_wp2;go_ret;exact ⟨jg (by rw [HB.out];simp;try omega),rfl⟩
theorem Lj{B k j cy x y o R V V':Nat}{ps:List Nat}(ho:ps[k+j]?=some o)(hv:aO B ps+B^(k+j)*cy=R+B^k*(x*V)) 
  (hQ:V'=V+B^j*y):
  aO B (ps.set (k+j) ((o+cy+x*y)%B))+B^(k+(j+1))*((o+cy+x*y) / B)=R+B^k*(x*V'):=by
 have h1:=zO B ho ((o+cy+x*y)%B);have h2:=zL B (k+j) (o+cy+x*y);rw [Nat.mul_add,Nat.mul_add] at h2;have h3:B^k*(x*(V+B^j*y))=B^k*(x*V)+B^(k+j)*(x*y):=by rw [Nat.pow_add];grind
 rw [hQ,h3,← Nat.add_assoc];omega
theorem Qp(x y:Nat)(hx:x≤9999)(hy:y≤9999):(x:Int)*(y:Int)≤99980001∧(0:Int)≤(x:Int)*(y:Int):=by
 have h:=ae0 hx hy;rw [← Int.natCast_mul];omega
theorem aao(ao bo:Option Addr)(n cp m d M N:Nat)(w:World)(hn:n≤1073741824)(hm:m≤1073741824)(hr:Rw .i64 B4 w ao n cp (aT M))(hs:Rw .i64 B4 w bo m d (aT N)):
  Calls Tryz.prog 118 #[.slice ao n cp,.slice bo m d] w fun e w'=>∃ ro k c',e= .returned (.slice ro k c')∧Rw .i64 B4 w' ro k c' (aT (M*N))∧k≤n+m∧rH w.heap.size w' ro c'∧Below w.heap.size w w':=by
 obtain ⟨P,hxs⟩:∃ xs,xs=aT M:=⟨_,rfl⟩
 obtain ⟨Q,hys⟩:∃ ys,ys=aT N:=⟨_,rfl⟩
 rw [← hxs] at hr;rw [← hys] at hs;have hl1:=hr.len;have hl2:=hs.len;have HA:=aS hxs;have HB:=aS hys;have LX:=aS hl1;have OT:=aS hl2;clear hxs hys hl1 hl2;go_enter Tryz.func118,Tryz.ntmps118;go_wp2_with (at_make;refine Hid.out ?_);refine aS<|jq _ rfl _ _ 45 rfl 3 (.int .i64 0) 8 Tryz.underlying45 Tryz.infoInt rfl .i64 .i64 _ _ (n+m) rfl rfl (by omega) (by omega) (by omega) (by unfold maxLen;omega) fun w2 hblk hbelow hlt=>?_
 obtain ⟨G,hG⟩:∃ G,G=w.heap.size:=⟨_,rfl⟩
 rw [← hG] at hblk hlt hbelow ⊢;have HG:=aS hG;clear hG;rw [← eX] at hblk;go_wp2_with fail;go_loopw [18] (fun s18 wr=>∃ (k:Nat) (os:List Nat),k≤n∧s18= .int .i64 k∧os.length=n+m∧(∀ o∈os,o < B4)∧(∀ j,k+m≤j→j < n+m→os[j]?=some 0)∧kX wr G 3 (eP .i64 os)∧Below G w wr∧
   aO B4 os=aO B4 (P.take k)*aO B4 Q) (fun s18 _=>n-(intOf s18).toNat)
 case atStart=>exact ⟨0,List.replicate (n+m) 0,abR _,rfl,by simp,(fun o ho=>by have:=(afu.1 ho).2;subst this;decide),(fun j _ hj=>by simp [hj]),hblk,hbelow,by simp [aO,jF]⟩
 case round=>
  obtain ⟨k,os,hk,rfl,hol,oZ,hz,hb,hbe,hv⟩:=hrel;have HV:=aS hv;have HOL:=aS hol;have HZ:=aS hz;clear hv hol hblk hbelow hz;have hb0:=hb.lt
  by_cases hkn:k < n
  ·obtain ⟨b1,off1,x,rfl,hx,kC,hcx⟩:=(hr.ext (by rw [← HG.out];exact hbe)).at hkn
   have hx':x≤9999:=by have:x < 10000:=kC;omega
   have Hx:=aS hx;clear hx kC;have hp0:Rw .i64 B4 wr (some ⟨b1,off1,none⟩) n cp P:=hr.ext (by rw [← HG.out];exact hbe);clear hcx;go_wp2_with fail;obtain ⟨wo,rfl⟩:∃ wo:World,wo=wr:=⟨_,rfl⟩
   go_loopw [7,8] (fun s7 s8 wr=>∃ (j cy:Nat) (ps:List Nat),j≤m+1∧(j=m+1→cy=0)∧s8= .int .i64 j∧s7= .int .i64 cy∧cy≤9999∧ps.length=n+m∧(∀ o∈ps,o < B4)∧(∀ i,k+m≤i→k+j≤i→i < n+m→ps[i]?=some 0)∧kX wr G 3 (eP .i64 ps)∧Below G w wr∧
     aO B4 ps+B4^(k+j)*cy=aO B4 os+B4^k*(x*aO B4 (Q.take j))) (fun _ s8 _=>m+1-(intOf s8).toNat)
   case atStart=>exact ⟨0,0,os,abR _,fun h=>rfl,rfl,rfl,by omega,HOL.out,oZ,fun i h1 _ h2=>HZ.out i h1 h2,hb,hbe,by simp [aO]⟩
   case round=>
    obtain ⟨j,cy,ps,hj,hjc,rfl,rfl,hcy,hpl,Zt,hpz,hb,hbe,hv⟩:=hrel;have OU:=aS hv;have F8:=aS hpl;have HPZ:=aS hpz;have HJC:=aS hjc;clear hv hpl hpz hjc;obtain ⟨x2,hx2,_,hcx⟩:=(hr.ext (by rw [← HG.out];exact hbe)).cell hkn;obtain rfl:x=x2:=by have h:=Hx.out;rw [hx2] at h;exact (afZ h).symm
    clear hx2
    by_cases hjm:j < m
    ·obtain ⟨b2,off2,y,rfl,hy,hyB,WH⟩:=(hs.ext (by rw [← HG.out];exact hbe)).at hjm
     have hy':y≤9999:=by have:y < 10000:=hyB;omega
     have Hy:=aS hy;clear hy hyB;have hrow:=hb.rw Zt;rw [F8.out] at hrow;obtain ⟨o,ho,Td,hco⟩:=hrow.cell (j:=k+j) (by omega);have dX:o≤9999:=by have:o < 10000:=Td;omega
     rw [Nat.zero_add] at hco;have Ho:=aS ho;clear ho Td hrow;have hfree:=hb.free (k+j);obtain ⟨akO,hm2⟩:=Qp x y hx' hy';have hmn:=ae0 hx' hy';have HMN:=aS hmn;clear hmn;go_upto_region 11 with (fail);go_quiet (fail);go_wp2;go_roundw
     case rel=>
      have hv:=(hb.drewN 1).set (k+j) (.int .i64 (((o+cy+x*y)%10000:Nat):Int));rw [fK] at hv;have e0:((o+cy+x*y:Nat):Int)=(o:Int)+cy+x*y:=by simp
      refine ⟨j+1,(o+cy+x*y) / 10000,ps.set (k+j) ((o+cy+x*y)%10000),by omega,fun h=>absurd h (by omega),by go_num,?_,?_,by rw [List.length_set];exact F8.out,dK Zt (adl _ (by decide)) _,?_,?_,?_,?_⟩
      ·rw [← e0];rfl
      ·have:=HMN.out;omega
      ·intro i h1 h2 h3
       rw [List.getElem?_set_ne (by omega)];exact HPZ.out i h1 (by omega) h3
      ·have e1:((o:Int)+cy+x*y)%10000=(((o+cy+x*y)%10000:Nat):Int):=by rw [← e0];rfl
       rw [e1];exact hv
      ·exact (jo hbe _).setCell (abJ _) _
      ·exact Lj Ho.out OU.out (aQ _ Hy.out)
     case measure=>simp [intOf];omega
    ·have hqm:aO B4 (Q.take (j+1))=aO B4 (Q.take j):=iL _ (by rw [OT.out];omega)
     have HQM:=aS hqm;clear hqm
     by_cases hc0:0 < cy
     ·obtain rfl:j=m:=by
       have h:=HJC.out;have:¬ j=m+1:=fun h2=>by have:=h h2;omega
       omega
      have hrow:=hb.rw Zt;rw [F8.out] at hrow;obtain ⟨o,ho,Td,hco⟩:=hrow.cell (j:=k+j) (by omega);have h00:=HPZ.out (k+j) (abJ _) (abJ _) (by omega);obtain rfl:o=0:=by rw [h00] at ho;exact (afZ ho).symm
      rw [Nat.zero_add] at hco;have Ho:=aS ho;clear ho Td hrow h00;have hfree:=hb.free (k+j);have hd:decide (j < j)=false:=by simp
      go_wp2;go_roundw
      case rel=>
       have hv:=hb.set (k+j) (.int .i64 (((0+cy+x*0)%10000:Nat):Int));rw [fK] at hv;have e2:(0+cy+x*0)%10000=cy:=by omega
       have e3:(0+cy+x*0) / 10000=0:=by omega
       refine ⟨j+1,(0+cy+x*0) / 10000,ps.set (k+j) ((0+cy+x*0)%10000),by omega,fun _=>e3,by go_num,?_,?_,by rw [List.length_set];exact F8.out,dK Zt (adl _ (by decide)) _,?_,?_,?_,?_⟩
       ·congr 1;try omega
       ·omega
       ·intro i h1 h2 h3
        rw [List.getElem?_set_ne (by omega)];exact HPZ.out i h1 (by omega) h3
       ·rw [e2] at hv ⊢
        have e4:(cy:Int)%10000=(cy:Int):=by omega
        first | exact hv | (rw [e4];exact hv)
       ·exact hbe.setCell (abJ _) _
       ·exact Lj Ho.out OU.out (by rw [HQM.out];simp)
      case measure=>(simp [intOf])
     ·obtain rfl:cy=0:=by omega
      have hd:decide (j < m)=false:=by rw [decide_eq_false_iff_not];omega
      go_wp2;go_roundw
      case rel=>
       refine ⟨k+1,ps,by omega,by go_num,F8.out,Zt,fun i h1 h2=>HPZ.out i (by omega) (by omega) h2,hb,hbe,?_⟩;have h2:=OU.out;rw [List.take_of_length_le (l:=Q) (by rw [OT.out];omega),HV.out] at h2;rw [aQ _ Hx.out];have h4:(aO B4 (P.take k)+B4^k*x)*aO B4 Q=aO B4 (P.take k)*aO B4 Q+B4^k*(x*aO B4 Q):=by grind
       omega
      case measure=>simp [intOf];omega
  ·obtain rfl:k=n:=by omega
   go_wp2_with fail;have hrow:=hb.rw oZ;rw [HOL.out] at hrow;refine (wM _ _ _ _ _ (by omega) hrow).mono ?_;rintro e w' ⟨r1,rfl,hr1',hres,rfl⟩;go_wp2;go_ret;refine ⟨_,_,_,rfl,?_,hr1',by rw [← HG.out];exact hb.own (abJ _) (by rw [bM,HOL.out];exact abJ _),by rw [← HG.out];exact hbe⟩;have hval:jX os=M*N:=by
    have h2:=HV.out;rw [bJ _ LX.out,HA.out,HB.out] at h2
    change jX os=jX (aT M)*jX (aT N) at h2
    rw [dS,dS] at h2;exact h2
   rw [← hval];exact hres
/-- Within: any number as one from 0 to n - 1. -/
theorem Ug(v:Int)(n:Nat)(w:World)(hn:1≤n)(hn2:n≤1000000)(hv1: -9223372036854775808≤v)(hv2:v≤9223372036854775807):
  Calls Tryz.prog 20 #[.int .i64 v,.int .i64 (n:Int)] w fun e w'=>e= .returned (.int .i64 (v%(n:Int)))∧w=w':=by
 have hn0:((n:Int)==0)=false:=by rw [beq_eq_false_iff_ne];omega
 obtain ⟨t,ht⟩:∃ t,t=v.tmod (n:Int):=⟨_,rfl⟩
 have hte:v.tmod (n:Int)=t:=ht.symm;have hb1: -(n:Int) < t∧t < n:=by
  have h1:=Int.tmod_lt_of_pos v (show (0:Int) < n by omega);have h2:=Int.lt_tmod_of_pos v (show (0:Int) < n by omega);omega
 have hem:v%(n:Int)=if t < 0 then t+n else t:=by
  have hv:v=t+n*(v.tdiv n):=by rw [ht];exact (Int.tmod_add_mul_tdiv v n).symm
  rw [hv,Int.add_mul_emod_self_left];split
  ·have h3:t%(n:Int)=(t+n)%(n:Int):=by simp
   rw [h3,Int.emod_eq_of_lt (by omega) (by omega)]
  ·rw [Int.emod_eq_of_lt (by omega) (by omega)]
 have HEM:=aS hem;clear hem ht;obtain ⟨hb1,hb2⟩:=hb1
 by_cases ht0:t < 0
 ·have hd:decide (t < 0)=true:=by simpa using ht0
  by_cases hv0:0≤v
  ·exfalso
   have:=Int.tmod_nonneg (n:Int) hv0;omega
  ·go_enter Tryz.func20,Tryz.ntmps20
   go_wp2;go_ret;exact ⟨jg (by rw [HEM.out,if_pos (by omega)]),rfl⟩
 ·have hd:decide (t < 0)=false:=by simpa using ht0
  by_cases hv0:0≤v
  ·have hvt:v%(n:Int)=t:=by rw [← hte,Int.tmod_eq_emod_of_nonneg hv0]
   clear HEM;go_enter Tryz.func20,Tryz.ntmps20;go_wp2;go_ret;exact ⟨rfl,rfl⟩
  ·go_enter Tryz.func20,Tryz.ntmps20
   go_wp2;go_ret;exact ⟨jg (by rw [HEM.out,if_neg (by omega)]),rfl⟩
section
variable {b M top next Vl head u2 Ul U V g r:Nat}
/-- The first guess is not too small. -/
theorem adn(hU:U=(head*b+u2)*M+Ul)(hUl:Ul < M)(hu2:u2 < b)(hV:V=(top*b+next)*M+Vl)(hh:head=g*top+r)(hr:r < top):U < (g+1)*V:=by
 have h1:(head*b+u2+1)*M≤((g+1)*(top*b))*M:=by
  refine abN _ ?_;have h2:(head+1)*b≤((g+1)*top)*b:=abN _ (by rw [hh,Nat.add_mul];omega);rw [Nat.add_mul] at h2;rw [← Nat.mul_assoc];omega
 have h3:(g+1)*V=((g+1)*(top*b))*M+(g+1)*(next*M+Vl):=by rw [hV];grind
 have h4:(head*b+u2+1)*M=(head*b+u2)*M+M:=by rw [Nat.add_mul,Nat.one_mul]
 omega
/-- Where the test says so the guess is too great. -/
theorem ahw(hU:U=(head*b+u2)*M+Ul)(hUl:Ul < M)(hV:V=(top*b+next)*M+Vl)(hh:head=g*top+r)(ht:r*b+u2 < g*next):U < g*V:=by
 have h1:(head*b+u2+1)*M≤(g*(top*b)+g*next)*M:=by
  refine abN _ ?_;have:head*b=g*(top*b)+r*b:=by rw [hh];grind
  omega
 have h3:g*V=(g*(top*b)+g*next)*M+g*Vl:=by rw [hV];grind
 have h4:(head*b+u2+1)*M=(head*b+u2)*M+M:=by rw [Nat.add_mul,Nat.one_mul]
 omega
/-- Where the test says no the guess is one too great at most. -/
theorem Nw(hU:U=(head*b+u2)*M+Ul)(hV:V=(top*b+next)*M+Vl)(hVl:Vl < M)(hh:head=g*top+r)(ht:g*next≤r*b+u2)(hg:g < b)(htop:0 < top):g*V≤U+V:=by
 have h1:(g*(top*b)+g*next)*M≤(head*b+u2)*M:=by
  refine abN _ ?_;have:head*b=g*(top*b)+r*b:=by rw [hh];grind
  omega
 have h3:g*V=(g*(top*b)+g*next)*M+g*Vl:=by rw [hV];grind
 have h5:g*Vl≤b*M:=ae0 (adC hg) (adC hVl);have h6:b*M≤V:=by
  rw [hV];have h7:(1*b)*M≤(top*b+next)*M:=abN _ (by have:=abN b (show 1≤top from htop);omega);rw [Nat.one_mul] at h7;omega
 omega
end
/-- The highest digit of what is divided is no greater than the divisor's. -/
theorem ahx{b M u0 u1 u2 Ul U top next Vl V:Nat}(hU:U=((u0*b+u1)*b+u2)*M+Ul)(hV:V=(top*b+next)*M+Vl)(hVl:Vl < M)(hn:next < b)(h:U < b*V):u0≤top:=by
 rcases ag4 top u0 with h0 | h0
 ·exfalso
  have h1:((top+1)*b)*b*M≤(u0*b)*b*M:=abN _ (abN _ (abN _ h0));have h2:(u0*b)*b*M≤U:=by
   rw [hU];have:(u0*b)*b*M≤((u0*b+u1)*b+u2)*M:=abN _ (by rw [Nat.add_mul (u0*b)];omega);omega
  have h3:V+M≤((top+1)*b)*M+M:=by
   have:(top*b+next+1)*M≤((top+1)*b)*M:=abN _ (by rw [Nat.add_mul];omega);rw [Nat.add_mul,Nat.one_mul] at this;rw [hV];omega
  have h3':V≤((top+1)*b)*M:=by omega
  have h4:=ac4 b h3';have h5:b*((top+1)*b*M)=((top+1)*b)*b*M:=by grind
  omega
 ·exact h0
/-- A quotient between a guess less one and the guess. -/
theorem agO{U V q:Nat}(hV:0 < V)(h1:q*V≤U)(h2:U < (q+1)*V):U / V=q:=by
 have h3:q≤U / V:=(Nat.le_div_iff_mul_le hV).2 h1;have h4:U / V < q+1:=(Nat.div_lt_iff_lt_mul hV).2 h2;omega
/-- One digit of a row less a multiple. -/
theorem WU{B i x y g cy bw d c1 b1:Nat}{W U Y:List Nat}(hi:i < W.length)(hv:aO B (W.take i)+g*aO B (Y.take i)=aO B (U.take i)+B^i*(cy+bw)) 
  (hU:U[i]?=some x) (hY:Y[i]?=some y) (hd:d+(g*y+cy)+bw=x+B*(b1+c1)):
  aO B ((W.set i d).take (i+1))+g*aO B (Y.take (i+1))=aO B (U.take (i+1))+B^(i+1)*(c1+b1):=by
 rw [gU B W i d hi,aQ B hU,aQ B hY,Nat.pow_succ,Nat.mul_assoc];have h1:B^i*(d+(g*y+cy)+bw)=B^i*(x+B*(b1+c1)):=by rw [hd]
 rw [Nat.mul_add,Nat.mul_add,Nat.mul_add,Nat.mul_add] at h1;have h2:g*(aO B (Y.take i)+B^i*y)=g*aO B (Y.take i)+B^i*(g*y):=by grind
 rw [h2,Nat.add_comm c1 b1];rw [Nat.mul_add] at hv;omega
/-- The end of a digit whose guess is right. -/
theorem SH{B n u0 cy bw g t:Nat}{W Wc Y:List Nat}(Xu:W.length=n+1)(hWc:Wc.length=n+1)(hYl:Y.length=n)(hu:W[n]?=some u0) 
  (hv:aO B (Wc.take n)+g*aO B (Y.take n)=aO B (W.take n)+B^n*(cy+bw)) (ht:t+cy+bw=u0):aO B (Wc.set n t)+g*aO B Y=aO B W:=by
 have h1:=gU B Wc n t (by omega);rw [bJ B (by rw [List.length_set];exact hWc)] at h1;have h2:=aQ B hu;rw [bJ B Xu] at h2;rw [bJ B hYl] at hv;rw [h1,h2,← ht,Nat.mul_add,Nat.mul_add];rw [Nat.mul_add] at hv;omega
/-- .. whose guess is one too great: before what is added back. -/
theorem SI{B n u0 cy bw g t:Nat}{W Wc Y:List Nat}(Xu:W.length=n+1)(hWc:Wc.length=n+1)(hYl:Y.length=n)(hu:W[n]?=some u0) 
  (hv:aO B (Wc.take n)+g*aO B (Y.take n)=aO B (W.take n)+B^n*(cy+bw)) (ht:t+cy+bw=u0+B):aO B (Wc.set n t)+g*aO B Y=aO B W+B^(n+1):=by
 have h1:=gU B Wc n t (by omega);rw [bJ B (by rw [List.length_set];exact hWc)] at h1;have h2:=aQ B hu;rw [bJ B Xu] at h2;rw [bJ B hYl] at hv;have h3:B^n*(t+cy+bw)=B^n*(u0+B):=by rw [ht]
 rw [h1,h2,Nat.pow_succ];rw [Nat.mul_add,Nat.mul_add,Nat.mul_add] at h3;rw [Nat.mul_add] at hv;omega
/-- .. behind it. -/
theorem SK{B n bk g t e x:Nat}{V:Nat}{Wd Wc Y:List Nat}(hWd:Wd.length=n+1)(hWc:Wc.length=n+1)(hYl:Y.length=n)(ht:Wc[n]?=some t) 
  (hv:aO B (Wd.take n)+B^n*bk=aO B (Wc.take n)+aO B (Y.take n)) (hx:x+B*e=t+bk) (he:e≤1)
  (hW:aO B Wc+g*aO B Y=V+B^(n+1)) (hB:aO B (Wd.set n x) < B^(n+1)) (hY:aO B Y < B^(n+1)) (hg:g*aO B Y≤V+aO B Y) (hg2:V < g*aO B Y):
  aO B (Wd.set n x)+g*aO B Y=V+aO B Y:=by
 have h1:=gU B Wd n x (by omega);rw [bJ B (by rw [List.length_set];exact hWd)] at h1;have h2:=aQ B ht;rw [bJ B hWc] at h2;rw [bJ B hYl] at hv;have h3:B^n*(x+B*e)=B^n*(t+bk):=by rw [hx]
 have hp:B^n*(B*e)=B^(n+1)*e:=by rw [Nat.pow_succ,Nat.mul_assoc]
 rw [Nat.mul_add,Nat.mul_add,hp] at h3;have he2:e=0∨e=1:=by omega
 rcases he2 with rfl | rfl
 ·rw [Nat.mul_zero] at h3;omega
 ·rw [Nat.mul_one] at h3;omega
theorem TA{U V q r:Nat}(h:r+q*V=U)(hr:r < V):U / V=q∧U%V=r:=by
 have hV:0 < V:=by omega
 have h1:U / V=q:=agO hV (by omega) (by rw [Nat.add_mul,Nat.one_mul];omega);refine ⟨h1,?_⟩;have h2:=aiH U V;rw [h1,Nat.mul_comm V q] at h2;omega
/-- One digit of what is added back. -/
theorem V6{B i x y bk d c1:Nat}{W U Y:List Nat}(hi:i < W.length)(hv:aO B (W.take i)+B^i*bk=aO B (U.take i)+aO B (Y.take i)) 
  (hU:U[i]?=some x) (hY:Y[i]?=some y) (hd:d+B*c1=x+y+bk):
  aO B ((W.set i d).take (i+1))+B^(i+1)*c1=aO B (U.take (i+1))+aO B (Y.take (i+1)):=by
 rw [gU B W i d hi,aQ B hU,aQ B hY,Nat.pow_succ,Nat.mul_assoc];have h1:B^i*(d+B*c1)=B^i*(x+y+bk):=by rw [hd]
 rw [Nat.mul_add,Nat.mul_add,Nat.mul_add] at h1;omega
/-- A row of k + 2 digits by its two highest ones. -/
theorem aek{B k a c:Nat}{Y:List Nat}(hl:Y.length=k+2)(ha:Y[k+1]?=some a)(hc:Y[k]?=some c):aO B Y=(a*B+c)*B^k+aO B (Y.take k):=by
 have h1:=aQ B ha;have h2:=aQ B hc;rw [bJ B hl,h2,Nat.pow_succ] at h1;rw [h1];grind
/-- A row of k + 3 digits by its three highest ones. -/
theorem Xl{B k a c e:Nat}{U:List Nat}(hl:U.length=k+3)(ha:U[k+2]?=some a)(hc:U[k+1]?=some c)(he:U[k]?=some e):
  aO B U=((a*B+c)*B+e)*B^k+aO B (U.take k):=by
 have h1:=aQ B ha;have h2:=aQ B hc;have h3:=aQ B he;rw [bJ B hl,h2,h3,Nat.pow_succ,Nat.pow_succ] at h1;rw [h1,Nat.pow_succ];grind
theorem abu{B n a c:Nat}{Y:List Nat}(h2:2≤n)(hl:Y.length=n)(ha:Y[n-1]?=some a)(hc:Y[n-2]?=some c):aO B Y=(a*B+c)*B^(n-2)+aO B (Y.take (n-2)):=by
 obtain ⟨k,rfl⟩:∃ k,n=k+2:=⟨n-2,by omega⟩
 exact aek hl ha hc
theorem Uc{B n a c e:Nat}{U:List Nat}(h2:2≤n)(hl:U.length=n+1)(ha:U[n]?=some a)(hc:U[n-1]?=some c)(he:U[n-2]?=some e):
  aO B U=((a*B+c)*B+e)*B^(n-2)+aO B (U.take (n-2)):=by
 obtain ⟨k,rfl⟩:∃ k,n=k+2:=⟨n-2,by omega⟩
 exact Xl hl ha hc he
theorem Ht{B k:Nat}{Y:List Nat}(hB:∀ x∈Y,x < B)(hk:k≤Y.length):aO B (Y.take k) < B^k:=by
 have:=nC (B:=B) (xs:=Y.take k) (fun x h=>hB x (aio h));rwa [List.length_take,Nat.min_eq_left hk] at this
/-- One digit of a long division: what is divided is low enough; what lies above is nothing. -/
theorem acT{B n V i:Nat}{A W C:List Nat}(hB:2≤B)(hi:A.length=i)(hW:W.length=n+1)(hlt:∀ x∈W,x < B)(hV:V < B^n)(h:aO B ((A ++(W ++C)).drop (i+1)) < V):
  aO B W < B*V∧aO B C=0:=by
 obtain ⟨x,W1,rfl⟩:∃ x W1,W=x ::W1:=by
  cases W with
  | nil=>simp at hW
  | cons x W1=>exact ⟨x,W1,rfl⟩
 have e:(A ++(x ::W1 ++C)).drop (i+1)=W1 ++C:=by
  subst hi;rw [← List.drop_drop,List.drop_left];rfl
 rw [e,jw] at h;have hx:x < B:=hlt x aiG;have hl:W1.length=n:=by simpa using hW
 rw [hl] at h;have h0:aO B C=0:=by
  rcases aev (aO B C) with h1 | h1
  ·exact h1
  ·have:=ac4 (B^n) h1
   omega
 refine ⟨?_,h0⟩;rw [h0,Nat.mul_zero,Nat.add_zero] at h;rw [Ar];have:=ac4 B (show aO B W1+1≤V from h);rw [Nat.mul_add,Nat.mul_one] at this;omega
theorem YV{B n V i q X:Nat}{A W W' C qs:List Nat}(hA:A.length=i)(hC:aO B C=0)(hW:aO B W'+q*V=aO B W)(hi:i < qs.length) 
  (hv:aO B (A ++(W ++C))+B^(i+1)*(aO B (qs.drop (i+1))*V)=X) (hW':W'.length=n+1) (Xu:W.length=n+1):
  aO B (A ++(W' ++C))+B^i*(aO B ((qs.set i q).drop i)*V)=X∧aO B ((A ++(W' ++C)).drop i)=aO B W':=by
 constructor
 ·rw [Bg B qs i q hi]
  rw [jw,jw,hC,Nat.mul_zero,Nat.add_zero,hA] at hv ⊢;rw [← hv,← hW,Nat.pow_succ];grind
 ·subst hA
  rw [List.drop_left,jw,hC,Nat.mul_zero,Nat.add_zero]
theorem aer{U V S q r:Nat}(hS:0 < S)(h:r+q*(V*S)=U*S)(hr:r < V*S):U / V=q∧U%V=r / S:=by
 have h1:q*(V*S)=(q*V)*S:=by rw [Nat.mul_assoc]
 have hle:q*V≤U:=by
  refine Nat.le_of_mul_le_mul_right (c:=S) ?_ hS;omega
 have hr2:r=(U-q*V)*S:=by rw [Nat.sub_mul];omega
 have hrS:r / S=U-q*V:=by rw [hr2,Nat.mul_div_cancel _ hS]
 have hlt:U-q*V < V:=by
  rw [hr2] at hr;exact aiW hr
 have:=TA (U:=U) (V:=V) (q:=q) (r:=U-q*V) (by omega) hlt;rw [hrS];exact this
/-- What the first divisor's digit says of the divisor moved up. -/
theorem QD{B k v low S V:Nat}(hV:V=v*B^k+low)(hlow:low < B^k)(h1:(v+1)*S≤B)(h2:B≤2*(v*S))(hS:0 < S):
  V*S < B^(k+1)∧B*B^k≤2*(V*S)∧B^k*S≤V*S:=by
 have hv:1≤v:=by
  rcases aev v with h0 | h0
  ·exfalso
   subst h0;have:=ac4 1 hS;omega
  ·exact h0
 refine ⟨?_,?_,?_⟩
 ·have h3:V+1≤(v+1)*B^k:=by rw [Nat.add_mul];omega
  have h4:(V+1)*S≤(v+1)*B^k*S:=abN _ h3;have h5:(v+1)*B^k*S=(v+1)*S*B^k:=by grind
  have h6:(v+1)*S*B^k≤B*B^k:=abN _ h1;rw [Nat.pow_succ,Nat.mul_comm _ B];rw [Nat.add_mul] at h4;omega
 ·have h3:B*B^k≤2*(v*S)*B^k:=abN _ h2
  have h4:2*(v*S)*B^k=2*((v*B^k)*S):=by grind
  have h5:(v*B^k)*S≤V*S:=abN _ (by omega);omega
 ·refine abN _ ?_
  have:=abN (B^k) hv;omega
/-- What is divided, moved up, is less than the divisor above the quotient's place. -/
theorem abe{B k j S U V T D X:Nat}(hU:U < B^(j+k))(hX:X=T+B^j*D)(hXU:X=U*S)(hV:B^k*S≤V)(hB:0 < B)(hS:0 < S):D < V:=by
 have h1:B^j*D < B^j*(B^k*S):=by
  have h2:U*S < B^(j+k)*S:=ahm hU hS;rw [Nat.pow_add,Nat.mul_assoc] at h2;omega
 have:=Nat.lt_of_mul_lt_mul_left h1;omega
theorem Xk{B k y V:Nat}{Y:List Nat}(hB:∀ x∈Y,x < B)(hl:Y.length=k+1)(hy:Y[k]?=some y)(hV:aO B Y=V)(h:B*B^k≤2*V):B≤2*y+1:=by
 have h1:=aQ B hy;rw [bJ B hl,hV] at h1;have h2:=Ht hB (k:=k) (by omega);have h3:B*B^k < (2*y+2)*B^k:=by
  rw [Nat.mul_comm] at h1;rw [Nat.add_mul,Nat.mul_assoc];have:=Nat.mul_comm (B^k) y;omega
 have:=aiW h3;omega
/-- A WINDOW in a block of the call's own: the limbs W behind A, ahead of C. -/
def Ri(w:World)(G:Nat)(A W C:List Nat)(off:Nat):Prop:=kX w G 165 (eP .u32 (A ++(W ++C)))∧A.length=off
section
variable {w w':World} {G off:Nat} {A W C:List Nat}
theorem Ri.lt(h:Ri w G A W C off):G < w.heap.size:=h.1.lt
theorem Ri.cell(h:Ri w G A W C off){i x:Nat}(hi:W[i]?=some x):w.cell? ⟨G,off+i,none⟩=some (.int .u32 (x:Int)):=by
 obtain ⟨hb,hl⟩:=h;obtain ⟨hlt,hx⟩:=abU.1 hi;have hlen:off+i < (eP .u32 (A ++(W ++C))).length:=by rw [bM];simp;omega
 rw [hb.cell _ hlen,wG];congr 3;rw [List.getElem_append_right (by omega),List.getElem_append_left (by omega)];simp only [← hl,Nat.add_sub_cancel_left];exact hx
theorem Ri.free(h:Ri w G A W C off)(j:Nat):w.frozen? ⟨G,j,none⟩=false:=h.1.free j
theorem Ri.set(h:Ri w G A W C off){i:Nat}(hi:i < W.length)(d:Nat):Ri (w.setCell ⟨G,off+i,none⟩ (.int .u32 (d:Int))) G A (W.set i d) C off:=by
 obtain ⟨hb,hl⟩:=h;refine ⟨?_,hl⟩;have:=hb.set (off+i) (.int .u32 (d:Int));rw [fK,List.set_append_right (off+i) d (by omega),List.set_append_left (off+i-A.length) d (by omega),show off+i-A.length=i by omega] at this;exact this
end
/-- Nothing has turned but the block G. -/
def rO(G:Nat)(w w':World):Prop:=w'.os=w.os∧w'.tape=w.tape∧w'.output=w.output∧w'.heap.size=w.heap.size∧∀ k,k≠G→w'.heap[k]?=w.heap[k]?
theorem rO.refl(G:Nat)(w:World):rO G w w:=⟨rfl,rfl,rfl,rfl,fun _ _=>rfl⟩
theorem rO.setCell{G:Nat}{w w':World}(h:rO G w w')(i:Nat)(v:Value):rO G w (w'.setCell ⟨G,i,none⟩ v):=
 ⟨h.1,h.2.1,h.2.2.1,by rw [World.size_setCell];exact h.2.2.2.1,fun k hk=>by rw [heap_setCell_other _ _ k _ hk];exact h.2.2.2.2 k hk⟩
theorem rO.below{G B:Nat}{w w':World}(h:rO G w w')(hB:B≤G):Below B w w':=⟨h.1,h.2.1,h.2.2.1,by rw [h.2.2.2.1];exact abJ _,fun k hk=>h.2.2.2.2 k (by omega)⟩
theorem Wp(G off n c b2 off2 d:Nat)(A W C Y:List Nat)(w:World)(hn:n≤1073741824)(hn2:2≤n)(hwin:Ri w G A W C off)(Xu:W.length=n+1)(hWB:∀ x∈W,x < bT)(hc:n+1≤c) 
  (hy:Rw .u32 bT w (some ⟨b2,off2,none⟩) n d Y) (hne:b2≠G) (top:Nat) (htop:Y[n-1]?=some top) (afi:2147483648≤top) (hlt:val W < bT*val Y):
  Calls Tryz.prog 177 #[.slice (some ⟨G,off,none⟩) (n+1) c,.slice (some ⟨b2,off2,none⟩) n d] w fun e w'=>∃ W',e= .returned (.int .u32 ((val W / val Y:Nat):Int))∧Ri w' G A W' C off∧W'.length=n+1∧
   (∀ x∈W',x < bT)∧val W'=val W%val Y∧rO G w w':=by
 obtain ⟨next,hnext,Zq,hcn⟩:=hy.cell (show n-2 < n by omega);obtain ⟨top',P8,ZF,hct⟩:=hy.cell (show n-1 < n by omega);rw [htop] at P8;obtain rfl:=afZ P8;obtain ⟨u0,hu0⟩:∃ u,W[n]?=some u:=⟨_,afm (by omega)⟩
 obtain ⟨u1,hu1⟩:∃ u,W[n-1]?=some u:=⟨_,afm (by omega)⟩
 obtain ⟨u2,hu2⟩:∃ u,W[n-2]?=some u:=⟨_,afm (by omega)⟩
 have ahp:u0 < 4294967296:=hWB _ (aiA hu0);have ak7:u1 < 4294967296:=hWB _ (aiA hu1);have ahq:u2 < 4294967296:=hWB _ (aiA hu2);have hc0:=hwin.cell hu0;have hc1:=hwin.cell hu1;have hc2:=hwin.cell hu2;have hnB:next < 4294967296:=Zq;have U8:top < 4294967296:=ZF;obtain ⟨head,hhead⟩:∃ head:Nat,head=u0*4294967296+u1:=⟨_,rfl⟩
 have hor:=NS u0 u1 ahp ak7;rw [← hhead] at hor;obtain ⟨g0,hg0⟩:∃ g:Nat,g=head / top:=⟨_,rfl⟩
 obtain ⟨r0,hr0⟩:∃ g:Nat,g=head%top:=⟨_,rfl⟩
 have hg0':(head:Int) / (top:Int)=(g0:Int):=by rw [hg0];rfl
 have akY:(head:Int)%(top:Int)=(r0:Int):=by rw [hr0];rfl
 have aod:((top:Int)==0)=false:=by rw [beq_eq_false_iff_ne];omega
 have ak4:(1:Int)≤top:=by omega
 have aky:g0≤8589934592:=by
  rw [hg0];have h1:head / top < 8589934593:=by
   rw [Nat.div_lt_iff_lt_mul (by omega)];have:=ac4 8589934593 afi;omega
  omega
 have HG0:=aS hg0;have HR0:=aS hr0;have HH:=aS hhead;have HT:=aS htop;have HU0:=aS hu0;have HU1:=aS hu1;have HU2:=aS hu2;have HN:=aS hnext;have HWL:=aS Xu;have HLT:=aS hlt;clear hg0 hr0 hhead htop hu0 hu1 hu2 hnext Xu hlt Zq ZF;go_enter Tryz.func177,Tryz.ntmps177;go_wp2;go_quiet (fail);go_wp2;go_quiet (fail);go_upto_block 0 with (fail);rw [akY];clear akY hg0' hor;go_cut [9] (fun s9 wx=>∃ g:Nat,s9= .int .u64 g∧g < 4294967296∧val W < (g+1)*val Y∧g*val Y≤val W+val Y∧Ri wx G A W C off∧rO G w wx)
 case first=>
  have h2:=HH.out;have hUW:=Uc hn2 HWL.out HU0.out HU1.out HU2.out (B:=bT);have hVY:=abu hn2 hy.len HT.out HN.out (B:=bT);have hUl:=Ht hWB (k:=n-2) (by rw [HWL.out];omega);have hVl:=Ht hy.lt (k:=n-2) (by rw [hy.len];omega);have ak6:u0≤top:=ahx hUW hVY hVl hnB HLT.out;rw [show u0*bT+u1=head from h2.symm] at hUW;have hhd:head=g0*top+r0:=by rw [HG0.out,HR0.out,Nat.mul_comm];exact (aiU head top).symm
  have hin:val W < (g0+1)*val Y:=adn hUW hUl ahq hVY hhd (by rw [HR0.out];exact adl _ (by omega));have aoa:r0 < 4294967296:=by rw [HR0.out];have:=adl head (show 0 < top by omega);omega
  have HUW:=aS hUW;have Xp:=aS hVY;have HUL:=aS hUl;have HVL:=aS hVl;have HIN:=aS hin;have HHD:=aS hhd;clear h2 hUW hVY hUl hVl hin hhd;go_wp2_with fail;go_loop [9,10] (fun s9 s10=>∃ g r:Nat,s9= .int .u64 g∧s10= .int .u64 r∧g≤8589934592∧head=g*top+r∧r < 4294967296∧val W < (g+1)*val Y) (fun s9 _=>(intOf s9).toNat)
  case atStart=>exact ⟨g0,r0,rfl,rfl,aky,HHD.out,aoa,HIN.out⟩
  case round=>
   obtain ⟨g,r,rfl,rfl,hgU,hgr,hrB,hUg⟩:=hrel;have HGR:=aS hgr;have HUG:=aS hUg;clear hgr hUg;obtain ⟨s2,hs2⟩:∃ s2:Nat,s2=r*4294967296+u2:=⟨_,rfl⟩
   have hor2:=NS r u2 hrB ahq;rw [← hs2] at hor2;have HS2:=aS hs2;clear hs2
   by_cases hgB:4294967296≤g
   ·have hg1:1≤g:=by omega
    have hdg:decide ((4294967296:Int)≤(g:Int))=true:=by rw [decide_eq_true_eq];omega
    have Zg:val W < g*val Y:=acC HLT.out (abN _ hgB);have XI:=aS Zg;clear Zg;have Zl:head=(g-1)*top+(r+top):=by
     have:=HGR.out;have h3:=abN top hg1;rw [Nat.sub_mul,Nat.one_mul];omega
    have Rx:=aS Zl;clear Zl;have hgc:((g:Int)-1)=((g-1:Nat):Int):=by omega
    have HGC:=aS hgc;clear hgc
    by_cases hbr:4294967296≤r+top
    ·have hdb:decide ((4294967296:Int)≤(r:Int)+(top:Int))=true:=by rw [decide_eq_true_eq];omega
     have S9:g-1 < 4294967296:=by
      have h3:(g-1)*top < 4294967296*top:=by
       have:=Rx.out;have h5:=HH.out;have h6:=abN 4294967296 ak6;rw [Nat.mul_comm 4294967296 top];omega
      exact aiW h3
     have hex:(g-1)*val Y≤val W+val Y:=by
      refine Nw HUW.out Xp.out HVL.out Rx.out ?_ S9 (by omega);have h3:(g-1)*next≤4294967296*4294967296:=ae0 (adC S9) (adC hnB);have h4:4294967296*4294967296≤(r+top)*4294967296:=abN _ hbr;show (g-1)*next≤(r+top)*4294967296+u2
      omega
     have HEX:=aS hex;clear hex;go_wp2_with fail;go_meet;exact ⟨g-1,by rw [HGC.out],S9,by rw [Nat.sub_add_cancel hg1];exact XI.out,HEX.out,hwin,rO.refl _ _⟩
    ·have hdb:decide ((4294967296:Int)≤(r:Int)+(top:Int))=false:=by rw [decide_eq_false_iff_not];omega
     go_wp2_with fail;go_round
     case rel=>exact ⟨g-1,r+top,by rw [HGC.out],by go_num,by omega,Rx.out,by omega,by rw [Nat.sub_add_cancel hg1];exact XI.out⟩
     case measure=>simp [intOf];omega
   ·have ahg:g < 4294967296:=by omega
    have hdg:decide ((4294967296:Int)≤(g:Int))=false:=by rw [decide_eq_false_iff_not];omega
    obtain ⟨hm1,hm2⟩:=BJ g next ahg hnB
    by_cases ht:s2 < g*next
    ·have hdt:decide ((s2:Int) < (g:Int)*(next:Int))=true:=by rw [decide_eq_true_eq,← Int.natCast_mul];omega
     have hg1:1≤g:=by
      rcases aev g with h0 | h0
      ·subst h0;omega
      ·exact h0
     have Zg:val W < g*val Y:=ahw HUW.out HUL.out Xp.out HGR.out (by rw [← HS2.out];exact ht);have XI:=aS Zg;clear Zg;have Zl:head=(g-1)*top+(r+top):=by
      have:=HGR.out;have h3:=abN top hg1;rw [Nat.sub_mul,Nat.one_mul];omega
     have Rx:=aS Zl;clear Zl;have hgc:((g:Int)-1)=((g-1:Nat):Int):=by omega
     have HGC:=aS hgc;clear hgc
     by_cases hbr:4294967296≤r+top
     ·have hdb:decide ((4294967296:Int)≤(r:Int)+(top:Int))=true:=by rw [decide_eq_true_eq];omega
      have S9:g-1 < 4294967296:=by
       have h3:(g-1)*top < 4294967296*top:=by
        have:=Rx.out;have h5:=HH.out;have h6:=abN 4294967296 ak6;rw [Nat.mul_comm 4294967296 top];omega
       exact aiW h3
      have hex:(g-1)*val Y≤val W+val Y:=by
       refine Nw HUW.out Xp.out HVL.out Rx.out ?_ S9 (by omega);have h3:(g-1)*next≤4294967296*4294967296:=ae0 (adC S9) (adC hnB);have h4:4294967296*4294967296≤(r+top)*4294967296:=abN _ hbr;show (g-1)*next≤(r+top)*4294967296+u2
       omega
      have HEX:=aS hex;clear hex;go_wp2_with fail;go_meet;exact ⟨g-1,by rw [HGC.out],S9,by rw [Nat.sub_add_cancel hg1];exact XI.out,HEX.out,hwin,rO.refl _ _⟩
     ·have hdb:decide ((4294967296:Int)≤(r:Int)+(top:Int))=false:=by rw [decide_eq_false_iff_not];omega
      go_wp2_with fail;go_round
      case rel=>exact ⟨g-1,r+top,by rw [HGC.out],by go_num,by omega,Rx.out,by omega,by rw [Nat.sub_add_cancel hg1];exact XI.out⟩
      case measure=>simp [intOf];omega
    ·have hdt:decide ((s2:Int) < (g:Int)*(next:Int))=false:=by rw [decide_eq_false_iff_not,← Int.natCast_mul];omega
     have hex:g*val Y≤val W+val Y:=Nw HUW.out Xp.out HVL.out HGR.out (by rw [← HS2.out];omega) ahg (by omega);have HEX:=aS hex;clear hex;go_wp2_with fail;go_meet;exact ⟨g,rfl,ahg,HUG.out,HEX.out,hwin,rO.refl _ _⟩
 case rest=>
  obtain ⟨g,rfl,hgB,hUg,hex,ala,FV⟩:=hcut;have HUG:=aS hUg;have HEX:=aS hex;have hyc:Rw .u32 bT wc (some ⟨b2,off2,none⟩) n d Y:=hy.same (FV.2.2.2.2 b2 hne);clear hUg hex hc0 hc1 hc2 hcn hct hwin hy aod ak4 aky afi U8 hnB ak7 ahq HG0 HR0 HH HT HU1 HU2 HN HLT;clear P8;go_wp2_with fail;go_loopw [11,12,81] (fun s11 s12 s81 wr=>∃ (i cy bw:Nat) (Wc:List Nat),i≤n∧s81= .int .i64 i∧s11= .int .u64 cy∧s12= .int .u64 bw∧cy < 4294967296∧bw≤1∧Wc.length=n+1∧(∀ x∈Wc,x < bT)∧Ri wr G A Wc C off∧rO G w wr∧
    (∀ j,i≤j→Wc[j]?=W[j]?)∧aO bT (Wc.take i)+g*aO bT (Y.take i)=aO bT (W.take i)+bT^i*(cy+bw)) (fun _ _ s81 _=>n-(intOf s81).toNat)
  case atStart=>exact ⟨0,0,0,W,abR _,rfl,rfl,rfl,by omega,by omega,HWL.out,hWB,ala,FV,fun _ _=>rfl,by simp [aO]⟩
  case round=>
   obtain ⟨i,cy,bw,Wc,hi,rfl,rfl,rfl,hcy,hbw,akm,ac5,hwr,hor,hrest,hv⟩:=hrel;have HV:=aS hv;have Xq:=aS akm;have HRE:=aS hrest;clear hv akm hrest;have hyr:Rw .u32 bT wr (some ⟨b2,off2,none⟩) n d Y:=hyc.same (by rw [hor.2.2.2.2 b2 hne,FV.2.2.2.2 b2 hne]);have hb0:=hwr.lt
   by_cases hin:i < n
   ·obtain ⟨y,hy,hyB,WH⟩:=hyr.cell hin
    have hy':y < 4294967296:=hyB;obtain ⟨x,hx⟩:∃ x,Wc[i]?=some x:=⟨_,afm (by rw [Xq.out];omega)⟩
    have hx':x < 4294967296:=ac5 _ (aiA hx);have hcx:=hwr.cell hx;have hfree:=hwr.free (off+i);have HX:=aS hx;have HY:=aS hy;clear hx hy hyB;obtain ⟨hm1,hm2⟩:=BJ g y hgB hy';have hmb:=Ll g y 0 cy hgB hy' (by omega) hcy;have hpc:(g:Int)*(y:Int)+(cy:Int)=((g*y+cy:Nat):Int):=by simp
    obtain ⟨lo,hlo⟩:∃ lo:Nat,lo=(g*y+cy)%4294967296:=⟨_,rfl⟩
    obtain ⟨hi1,hhi⟩:∃ hi1:Nat,hi1=(g*y+cy) / 4294967296:=⟨_,rfl⟩
    have elo:((g:Int)*(y:Int)+(cy:Int))%4294967296=(lo:Int):=by rw [hpc,hlo];rfl
    have ehi:((g:Int)*(y:Int)+(cy:Int)) / 4294967296=(hi1:Int):=by rw [hpc,hhi];rfl
    have ac9:lo < 4294967296:=by omega
    have akD:hi1 < 4294967296:=by omega
    have hsum:lo+4294967296*hi1=g*y+cy:=by omega
    obtain ⟨d1,b1,hd1,hb1,e1,e2,e3⟩:=Xj x lo bw hx' ac9 hbw;have amW:=aS hsum;have E1:=aS e1;have E2:=aS e2;have E3:=aS e3;have HMB:=aS hmb;clear hsum e1 e2 e3 hpc hlo hhi hmb;go_wp2;rw [E1.out,E2.out];go_roundw
    case rel=>
     refine ⟨i+1,hi1,b1,Wc.set i d1,by omega,by go_num,by first | rfl | rw [ehi],rfl,akD,hb1,by rw [List.length_set];exact Xq.out,dK ac5 hd1 i,hwr.set (by rw [Xq.out];omega) d1,hor.setCell _ _,?_,?_⟩
     ·intro j hj
      rw [List.getElem?_set_ne (by omega)];exact HRE.out j (by omega)
     ·refine WU (by rw [Xq.out];omega) HV.out (by rw [← HRE.out i (Nat.le_refl _)];exact HX.out) HY.out ?_
      have h1:=amW.out;have h2:=E3.out;unfold bT at h2 ⊢;omega
    case measure=>simp [intOf];omega
   ·obtain rfl:i=n:=by omega
    have hcx:=hwr.cell (show Wc[i]?=some u0 by rw [HRE.out i (Nat.le_refl _)];exact HU0.out);have hfree:=hwr.free (off+i);have hW2:=Xq.out
    by_cases hno:cy+bw≤u0
    ·have et:=QX u0 cy bw ahp hno
     obtain ⟨t,htt⟩:∃ t,t=u0-cy-bw:=⟨_,rfl⟩
     rw [← htt] at et;have U8:t < 4294967296:=by omega
     have hts:t+cy+bw=u0:=by omega
     have HTS:=aS hts;clear htt hts hno hW2;have ed:(t:Int) / 9223372036854775808=0:=by omega
     go_wp2;go_ret;have hend:=SH (t:=t) HWL.out Xq.out hyc.len HU0.out HV.out HTS.out;have hle:g*val Y≤val W:=by unfold val;omega
     have hmod:=TA (U:=val W) (V:=val Y) (q:=g) (r:=val (Wc.set i t)) (by unfold val;omega) (by
      have h1:=HUG.out;rw [Nat.add_mul,Nat.one_mul] at h1;unfold val at *;omega)
     exact ⟨Wc.set i t,by rw [hmod.1];rfl,hwr.set (by rw [Xq.out];omega) t,by rw [List.length_set];exact Xq.out,dK ac5 U8 _,hmod.2.symm,hor.setCell _ _⟩
    ·obtain ⟨t,tl,et,ed,etl,aoc,hts⟩:=OC u0 cy bw ahp hcy hbw (by omega)
     have HTS:=aS hts;clear hts hno hW2;have alb:Ri (wr.setCell ⟨G,off+i,none⟩ (.int .u32 (tl:Int))) G A (Wc.set i tl) C off:=hwr.set (by rw [Xq.out];omega) tl;have an5:rO G w (wr.setCell ⟨G,off+i,none⟩ (.int .u32 (tl:Int))):=hor.setCell _ _;have hend:=SI (t:=tl) HWL.out Xq.out hyc.len HU0.out HV.out HTS.out;have akl:∀ x∈Wc.set i tl,x < bT:=dK ac5 aoc _
     have hl3:(Wc.set i tl).length=i+1:=by rw [List.length_set];exact Xq.out
     have hti:(Wc.set i tl)[i]?=some tl:=by rw [List.getElem?_set_self (by rw [Xq.out];omega)]
     have hg0:val W < g*val Y:=by
      have h1:=nC akl;rw [hl3] at h1;unfold val;omega
     have HE:=aS hend;have HL3:=aS hl3;have HTI:=aS hti;have HG0:=aS hg0;clear hend hl3 hti hg0;have akB:1≤g:=by
      rcases aev g with h0 | h0
      ·have:=HG0.out;rw [h0,Nat.zero_mul] at this;omega
      ·exact h0
     go_wp2_with fail;generalize hgen:Wc.set i tl=W3 at *
     clear hgen;generalize akA:wr.setCell ⟨G,off+i,none⟩ (.int .u32 (tl:Int))=wx at *
     clear akA;go_loopw [18,134] (fun s18 ain wr=>∃ (k bk:Nat) (Wd:List Nat),k≤i∧ain= .int .i64 k∧s18= .int .u64 bk∧bk≤1∧Wd.length=i+1∧(∀ x∈Wd,x < bT)∧Ri wr G A Wd C off∧rO G w wr∧
       (∀ j,k≤j→Wd[j]?=W3[j]?)∧aO bT (Wd.take k)+bT^k*bk=aO bT (W3.take k)+aO bT (Y.take k)) (fun _ ain _=>i-(intOf ain).toNat)
     case atStart=>exact ⟨0,0,W3,abR _,rfl,rfl,by omega,HL3.out,akl,alb,an5,fun _ _=>rfl,by simp [aO]⟩
     case round=>
      obtain ⟨k,bk,Wd,hk,rfl,rfl,hbk,akn,ag9,hwd,hod,hrest,hv⟩:=hrel;have HV4:=aS hv;have HWD:=aS akn;have afV:=aS hrest;clear hv akn hrest;have aoi:Rw .u32 bT wr (some ⟨b2,off2,none⟩) i d Y:=hyc.same (by rw [hod.2.2.2.2 b2 hne,FV.2.2.2.2 b2 hne]);have hb4:=hwd.lt
      by_cases hki:k < i
      ·obtain ⟨y,hy,hyB,WH⟩:=aoi.cell hki
       have hy':y < 4294967296:=hyB;obtain ⟨x,hx⟩:∃ x,Wd[k]?=some x:=⟨_,afm (by rw [HWD.out];omega)⟩
       have hx':x < 4294967296:=ag9 _ (aiA hx);have anI:=hwd.cell hx;have ahf:=hwd.free (off+k);have HX:=aS hx;have HY:=aS hy;clear hx hy hyB;go_wp2;go_roundw
       case rel=>
        refine ⟨k+1,(x+y+bk) / 4294967296,Wd.set k ((x+y+bk)%4294967296),by omega,by go_num,by go_num,by omega,by rw [List.length_set];exact HWD.out,dK ag9 (adl _ (by decide)) k,?_,hod.setCell _ _,?_,?_⟩
        ·have e:((x:Int)+y+bk)%4294967296=(((x+y+bk)%4294967296:Nat):Int):=by omega
         rw [e];exact hwd.set (by rw [HWD.out];omega) _
        ·intro j hj
         rw [List.getElem?_set_ne (by omega)];exact afV.out j (by omega)
        ·exact V6 (by rw [HWD.out];omega) HV4.out (by rw [← afV.out k (Nat.le_refl _)];exact HX.out) HY.out (aiH _ _)
       case measure=>simp [intOf];omega
      ·obtain rfl:k=i:=by omega
       have anI:=hwd.cell (show Wd[k]?=some tl by rw [afV.out k (Nat.le_refl _)];exact HTI.out);have ahf:=hwd.free (off+k);go_wp2;go_ret;have e:((tl:Int)+bk)%4294967296=(((tl+bk)%4294967296:Nat):Int):=by omega
       have hB5:∀ x∈Wd.set k ((tl+bk)%4294967296),x < bT:=dK ag9 (adl _ (by decide)) k
       have hl5:(Wd.set k ((tl+bk)%4294967296)).length=k+1:=by rw [List.length_set];exact HWD.out
       have h5:=nC hB5;rw [hl5] at h5;have ac7:aO bT Y < bT^(k+1):=by
        have h1:=nC hyc.lt;rw [hyc.len] at h1;exact acC h1 (ab1 (by decide) (by omega))
       have hend:=SK (V:=aO bT W) (g:=g) (x:=(tl+bk)%4294967296) (e:=(tl+bk) / 4294967296) HWD.out HL3.out hyc.len HTI.out HV4.out (aiH _ _) (by omega) HE.out h5 ac7 HEX.out HG0.out;have hmod:=TA (U:=val W) (V:=val Y) (q:=g-1) (r:=val (Wd.set k ((tl+bk)%4294967296))) (by
        have h6:=abN (aO bT Y) akB;rw [Nat.sub_mul,Nat.one_mul];unfold val;omega) (by
        have h6:=HG0.out;unfold val at *;omega)
       refine ⟨Wd.set k ((tl+bk)%4294967296),jg (by rw [hmod.1];omega),?_,hl5,hB5,hmod.2.symm,hod.setCell _ _⟩;rw [e];exact hwd.set (by rw [HWD.out];omega) _
theorem Ih(s:Nat)(h:s≤65536):iR (s:Int)=s:=by unfold iR;omega
/-- A row moved up, in l limbs. -/
theorem QZ(ao:Option Addr)(n c:Nat)(xs:List Nat)(s l:Nat)(w:World)(hn:n≤1073741824)(hs:s≤65536)(hl:l≤2147483648)(hr:Rw .u32 bT w ao n c xs)(hfit:(dA (val xs*2^s)).length≤l):
  Calls Tryz.prog 176 #[.slice ao n c,.int .i64 (s:Int),.int .i64 (l:Int)] w fun e w'=>∃ (G:Nat) (os:List Nat),e= .returned (.slice (some ⟨G,0,none⟩) l l)∧w.heap.size≤G∧kX w' G 165 (eP .u32 os)∧
   os.length=l∧(∀ x∈os,x < bT)∧val os=val xs*2^s∧Below w.heap.size w w':=by
 go_enter Tryz.func176,Tryz.ntmps176;go_wp2_with (at_make;refine Hid.out ?_);refine aS ?_;refine jq _ rfl _ _ 34 rfl 165 (.int .u32 0) 4 Tryz.underlying34 Tryz.infoU32 rfl .i64 .i64 _ _ l rfl rfl (by omega) (by omega) (by omega) (by unfold maxLen;omega) fun w2 hblk hbelow hlt=>?_
 obtain ⟨G,hG⟩:∃ G,G=w.heap.size:=⟨_,rfl⟩
 rw [← hG] at hblk hlt hbelow ⊢;have HG:=aS hG;clear hG;rw [← eX] at hblk;have hr2:=hr.ext (by rw [← HG.out];exact hbelow);go_wp2_with fail;refine (ad7 ao n c xs (s:Int) _ hn hr2).mono ?_;rintro e w3 ⟨ro,k,c',rfl,hres,hown,hb3⟩;rw [Ih s hs] at hres;have hblk3:=hblk.ext hb3;have hlen:=hres.len;have afU:=aS hfit;clear hfit;go_wp2_with (with_reducible refine Hid.out (p:=wpList _ _ _ ({dst:=some 14,op:=_,type:=_,pos:=_,after:=_,guard:=_} ::_) _ _) ?_);refine aS<|Xm rfl _ _ 34 34 rfl 165 Tryz.underlying34 Tryz.sizeU32 G 0 l l ro k c' rfl rfl _ 165 hblk3 (eP .u32 (dA (val xs*2^s))) ?_ hres.cells ?_ (IW _ _) G (abJ _) fun w4 ae6 hb4=>?_
 ·rw [bM,hlen];exact (Nat.min_eq_left (by rw [← hlen];exact afU.out)).symm
 ·rw [bM,bM];simp;exact afU.out
 have hsp:splice (eP .u32 (List.replicate l 0)) 0 (eP .u32 (dA (val xs*2^s)))=eP .u32 (dA (val xs*2^s) ++List.replicate (l-k) 0):=by
  simp [splice,eP,hlen]
 rw [hsp] at ae6;go_wp2;go_ret;refine ⟨G,dA (val xs*2^s) ++List.replicate (l-k) 0,rfl,by rw [HG.out];exact abJ _,ae6,?_,?_,?_,?_⟩
 ·have:=afU.out
  rw [List.length_append,List.length_replicate,hlen];rw [hlen] at this;omega
 ·intro x hx
  rcases ahn.1 hx with hx | hx
  ·exact DN _ x hx
  ·have:=(afu.1 hx).2;subst this;decide
 ·unfold val
  rw [En];exact aac _
 ·rw [← HG.out]
  exact (hbelow.trans (hb3.mono (by omega))).trans hb4
theorem VQ(x:Nat):val [x]=x:=by simp [val,aO]
/-- The error of a division: 2 by 0. -/
def EN(v:Nat):Int:=if v=0 then 2 else 0
/-- The remainder of a division; by 0 there is none. -/
def kT(u v:Nat):Nat:=if v=0 then 0 else u%v
theorem Bv{v:Nat}(h:v≠0):EN v=0:=if_neg h
theorem WT(u:Nat):kT u 0=0:=rfl
theorem DU(u:Nat){v:Nat}(h:v≠0):kT u v=u%v:=if_neg h
theorem SQ(ao bo:Option Addr)(n c m d:Nat)(xs ys:List Nat)(w:World)(hn:n≤1073741823)(hm:m≤1073741823)(hr:Rw .u32 bT w ao n c xs)(hs:Rw .u32 bT w bo m d ys):
  Calls Tryz.prog 166 #[.slice ao n c,.slice bo m d] w fun e w'=>∃ qo qn qc ro rn rc,e= .returned (.tuple #[.slice qo qn qc,.slice ro rn rc,.int .i64 (EN (val ys))])∧
   Rw .u32 bT w' qo qn qc (dA (val xs / val ys))∧rH w.heap.size w' qo qc∧Rw .u32 bT w' ro rn rc (dA (kT (val xs) (val ys)))∧rH w.heap.size w' ro rc∧Below w.heap.size w w':=by
 go_enter Tryz.func166,Tryz.ntmps166;go_wp2_with fail;refine (gW ao n c xs _ (by omega) hr).mono ?_;rintro e w' ⟨n1,rfl,hn1,hp,rfl⟩;go_wp2_with fail;refine (gW bo m d ys _ (by omega) hs).mono ?_;rintro e w' ⟨m1,rfl,hm1,hq,rfl⟩;clear hr hs;have hpl:=hp.len;have EY:=hq.len
 by_cases h0:m1=0
 ·subst h0
  have hy0:val ys=0:=ru.1 (adb EY);have HY:=aS hy0;clear hy0 hpl EY;go_wp2;go_ret3;refine ⟨_,_,_,_,_,_,by rw [HY.out];rfl,?_,rH.nil _ _ _,?_,rH.nil _ _ _,Below.refl _ _⟩
  ·rw [HY.out,Nat.div_zero];exact Rw.nil _ _ _
  ·rw [HY.out];exact Rw.nil _ _ _
 ·have hy0:val ys≠0:=fun h=>h0 (by rw [← EY,h];rfl)
  have HY:=aS hy0;clear hy0
  by_cases hlt:n1 < m1
  ·have hlt2:val xs < val ys:=uX (by rw [hpl,EY];exact hlt)
   have HLT:=aS hlt2;clear hlt2 hpl EY;have hm0:((m1:Int)==0)=false:=by rw [beq_eq_false_iff_ne];omega
   go_wp2_with fail;refine (Qr _ _ _ _ _ (by omega) hp).mono ?_;rintro e w1 ⟨ro,k,c',rfl,hk,hres,hown,hb⟩;rw [aac] at hres;go_wp2;go_ret3;refine ⟨_,_,_,_,_,_,by rw [Bv HY.out];rfl,?_,rH.nil _ _ _,?_,hown,hb⟩
   ·rw [Nat.div_eq_of_lt HLT.out];exact Rw.nil _ _ _
   ·rw [DU _ HY.out,Nat.mod_eq_of_lt HLT.out];exact hres
  ·by_cases h1:m1=1
   ·subst h1
    obtain ⟨b1,off1,v,rfl,hv,hvB,hcv⟩:=hq.at (show 0 < 1 by omega);have ZG:v < 4294967296:=hvB;rw [Nat.add_zero] at hcv;have hvy:val ys=v:=by
     have h2:dA (val ys)= [v]:=by
      match hL:dA (val ys),EY with
      | [a],_=>rw [hL] at hv;simp at hv;rw [hv]
     have h3:=aac (val ys);rw [h2,VQ] at h3;exact h3.symm
    have hv0:0 < v:=by have:=HY.out;omega
    have HV:=aS hvy;clear hvy hv hvB hpl EY;go_wp2_with fail;refine (adN _ _ _ _ v _ (by omega) hv0 ZG hp).mono ?_;rintro e w1 ⟨ro,k,c',rfl,hres,hown,hb⟩;rw [aac] at hres ⊢;have hrB:val xs%v < 4294967296:=Nat.lt_trans (adl _ hv0) ZG;obtain ⟨r,hr⟩:∃ r,r=val xs%v:=⟨_,rfl⟩
    rw [← hr] at hrB ⊢;have HR:=aS hr;clear hr;go_wp2_with fail;have hblk:kX (w1.alloc (.cells #[.int .u32 (r:Int)] 165)) w1.heap.size 165 (eP .u32 [r]):=kX.new w1 165 (eP .u32 [r]);have hb2:Below w1.heap.size w1 (w1.alloc (.cells #[.int .u32 (r:Int)] 165)):=(Below.refl _ _).alloc (abJ _) _;have hrow:=hblk.rw (B:=bT) (by intro x hx;rw [List.mem_singleton.1 hx];exact hrB);refine (gW _ 1 1 [r] _ (by omega) hrow).mono ?_;rintro e w' ⟨k2,rfl,hk2,hres2,rfl⟩;have hown2:=hblk.own (base:=w.heap.size) hb.size (n:=1) (abJ _);rw [VQ] at hres2;go_wp2;go_ret3;exact ⟨_,_,_,_,_,_,by rw [Bv HY.out];rfl,by rw [HV.out];exact hres.ext hb2,hown.ext hb2,by rw [DU _ HY.out,HV.out,← HR.out];exact hres2,hown2,lU hb hb2⟩
   ·have hm2:2≤m1:=by omega
    have hm0:((m1:Int)==0)=false:=by rw [beq_eq_false_iff_ne];omega
    have akO:((m1:Int)==1)=false:=by rw [beq_eq_false_iff_ne];omega
    obtain ⟨b1,off1,v,rfl,hv,hvB,hcv⟩:=hq.at (show m1-1 < m1 by omega);have ZG:v < 4294967296:=hvB;have hv0:v≠0:=by
     rintro rfl;have h1:=(Ip qh (val ys)).2;rw [List.getLast?_eq_getElem?] at h1
     change (dA (val ys))[(dA (val ys)).length-1]?≠some 0 at h1
     rw [EY] at h1;exact h1 hv
    have hnb:=iI (n:=v) (k:=32) ZG;have an0:=Fb hv0;have akR:=zC v;have akS:=Ji hv0;obtain ⟨s,hs⟩:∃ s,s=32-bW v:=⟨_,rfl⟩
    have hsB:s≤31:=by omega
    have hS1:(v+1)*2^s≤bT:=by
     have h3:=abN (2^s) (show v+1≤2^bW v from akR);rw [← Nat.pow_add,show bW v+s=32 by omega] at h3;exact h3
    have hS2:bT≤2*(v*2^s):=by
     have h3:=abN (2^s) akS;rw [← Nat.pow_add,show bW v-1+s=31 by omega] at h3;unfold bT;omega
    have U7:=afn s;have ae1:val ys=v*bT^(m1-1)+val ((dA (val ys)).take (m1-1)):=by
     have h3:=aQ bT hv;rw [show m1-1+1=m1 by omega,bJ _ EY] at h3
     change val (dA (val ys))=_ at h3
     rw [aac] at h3;rw [Nat.mul_comm,Nat.add_comm];exact h3
    have ae2:=Ht (B:=bT) (k:=m1-1) (DN (val ys)) (by rw [EY];omega);obtain ⟨hs1,hs2,hs3⟩:=QD ae1 ae2 hS1 hS2 U7;have hU1:val xs < bT^n1:=by have h3:=JJ (DN (val xs));rwa [aac,hpl] at h3
    have ae8:(dA (val (dA (val xs))*2^s)).length≤n1+1:=by
     rw [aac];refine I9 ?_;rw [Nat.pow_succ];have h3:2^s≤bT:=by
      have:=abN (2^s) (show 1≤v+1 by omega);omega
     exact acC (ahm hU1 U7) (ac4 _ h3)
    have ae9:(dA (val (dA (val ys))*2^s)).length≤m1:=by
     rw [aac];refine I9 ?_;rw [show m1-1+1=m1 by omega] at hs1;exact hs1
    have HS:=aS hs;have LX:=aS hpl;have OT:=aS EY;have HFA:=aS ae8;have HFB:=aS ae9;have HS1:=aS hs1;have HS2:=aS hs2;have HS3:=aS hs3;have HU1:=aS hU1;have HSP:=aS U7;clear hs hv hpl EY hvB ae1 ae2 ae8 ae9 hs1 hs2 hs3 hU1 U7 hS1 hS2 hnb an0 akR akS;go_wp2_with fail;refine (aai v _ ZG).mono ?_;rintro e w' ⟨rfl,rfl⟩;rw [← HS.out];go_wp2_with fail;refine (QZ ao n1 c _ s (n1+1) _ (by omega) (by omega) (by omega) hp HFA.out).mono ?_;rintro e w1 ⟨Gx,X0,rfl,hGx,hbx,hxl,kC,hxv,hb1⟩;rw [aac] at hxv;have HXL:=aS hxl;have HXV:=aS hxv;clear hxl hxv;have hbxlt:=hbx.lt;have hq1:=hq.ext hb1;go_wp2_with fail;refine (QZ _ m1 d _ s m1 _ (by omega) (by omega) (by omega) hq1 HFB.out).mono ?_;rintro e w2 ⟨Gy,Y0,rfl,hGy,hby,hyl,hyB,hyv,hb2⟩;rw [aac] at hyv;have HYL:=aS hyl;have HYV:=aS hyv;clear hyl hyv;have hbx2:=hbx.ext hb2;have Np:Below w.heap.size w w2:=lU hb1 hb2;have hbylt:=hby.lt;obtain ⟨l,hl⟩:∃ l,n1=m1+l:=⟨n1-m1,by omega⟩
    subst hl;go_wp2_with (at_make;refine Hid.out ?_);refine aS<|jq _ rfl _ _ 34 rfl 165 (.int .u32 0) 4 Tryz.underlying34 Tryz.infoU32 rfl .i64 .i64 _ _ (l+1) rfl rfl (by omega) (by omega) (by omega) (by unfold maxLen;omega) fun w3 hblk hbelow hlt3=>?_
    obtain ⟨Gq,hGq⟩:∃ G,G=w2.heap.size:=⟨_,rfl⟩
    rw [← hGq] at hblk hlt3 hbelow ⊢;rw [← eX] at hblk;have akv:=hbx2.ext (by rw [← hGq];exact hbelow);have akw:=hby.ext (by rw [← hGq];exact hbelow);have Zj:Below w.heap.size w w3:=lU Np (by rw [← hGq];exact hbelow);have HGQ:=aS hGq;have hxy:Gx≠Gy:=by omega
    have hxq:Gx≠Gq:=by omega
    have hyq:Gy≠Gq:=by omega
    have Zy:w.heap.size≤Gq:=by rw [hGq];exact Np.size
    clear hGq hbx hbx2 hby hp hq hq1;have hstart:aO bT (X0.drop (l+1)) < val Y0:=by
     rw [HYV.out];have h3:=qg bT X0 (l+1) (by rw [HXL.out];omega);have h4:=HU1.out;rw [show m1+l=(l+1)+(m1-1) by omega] at h4;exact abe (B:=bT) (S:=2^s) h4 h3 (by have:=HXV.out;unfold val at *;exact this) HS3.out (by decide) HSP.out
    obtain ⟨yt,hyt⟩:∃ yt,Y0[m1-1]?=some yt:=⟨_,afm (by rw [HYL.out];omega)⟩
    have aok:2147483648≤yt:=by
     have h3:=Xk (B:=bT) (k:=m1-1) (V:=val ys*2^s) hyB (by rw [HYL.out];omega) hyt HYV.out HS2.out;unfold bT at h3;omega
    have ac7:val Y0 < bT^m1:=by
     have h3:=HS1.out;rw [show m1-1+1=m1 by omega] at h3;rw [HYV.out];exact h3
    have HST:=aS hstart;have HYT:=aS hyt;have ai7:=aS ac7;clear hstart hyt ac7;go_wp2_with fail;go_loopw [13] (fun s13 wr=>∃ (k:Nat) (os qs:List Nat),k≤l+1∧s13= .int .i64 ((k:Int)-1)∧os.length=m1+l+1∧(∀ x∈os,x < bT)∧qs.length=l+1∧(∀ x∈qs,x < bT)∧kX wr Gx 165 (eP .u32 os)∧
      kX wr Gy 165 (eP .u32 Y0)∧kX wr Gq 165 (eP .u32 qs)∧Below w.heap.size w wr∧aO bT (os.drop k) < val Y0∧aO bT os+bT^k*(aO bT (qs.drop k)*val Y0)=val X0) (fun s13 _=>(intOf s13+1).toNat)
    case atStart=>exact ⟨l+1,X0,List.replicate (l+1) 0,abJ _,by go_num,HXL.out,kC,by simp,(fun o ho=>by have:=(afu.1 ho).2;subst this;decide),akv,akw,hblk,Zj,HST.out,by rw [List.drop_of_length_le (by simp)];simp [aO,val]⟩
    case round=>
     obtain ⟨k,os,qs,hk,rfl,hol,oZ,akW,akV,hbx,hby,hbq,hbe,hlt4,hv⟩:=hrel;have HOL:=aS hol;have XH:=aS akW;have abV:=aS hlt4;have HV:=aS hv;clear hol akW hlt4 hv hblk akv akw Zj hbelow
     by_cases hk0:k=0
     ·subst hk0
      have hv:=HV.out;have hlt4:=abV.out;rw [List.drop_zero] at hv hlt4;rw [Nat.pow_zero,Nat.one_mul,HXV.out,HYV.out] at hv;rw [HYV.out] at hlt4;obtain ⟨hdiv,hmod⟩:=aer HSP.out hv hlt4;have P6:=hbq.rw akV;rw [XH.out] at P6;have hxrow:=hbx.rw oZ;rw [HOL.out] at hxrow;have ahs:=hxrow.take (m:=m1) (by omega);have hxval:val (os.take m1)=val os:=by
       have h3:=qg bT os m1 (by rw [HOL.out];omega);have h4:=ai7.out;rw [HYV.out] at h4;have h5:aO bT (os.drop m1)=0:=by
        rcases aev (aO bT (os.drop m1)) with h5 | h5
        ·exact h5
        ·have:=ac4 (bT^m1) h5
         omega
       rw [h5] at h3;exact h3.symm
      have akU:=hbq.own (base:=w.heap.size) Zy (n:=l+1) (by rw [bM,XH.out];exact abJ _);have ae7:val xs / val ys=val qs:=hdiv;have afe:val xs%val ys=val os / 2^s:=hmod;have HD:=aS ae7;have HM:=aS afe;have am3:=aS hxval;clear hv hlt4 hdiv hmod ae7 afe hxval HV abV;have hqd:Rw .u32 bT wr.drew (some ⟨Gq,0,none⟩) (l+1) (l+1) qs:=P6;have hxd:Rw .u32 bT wr.drew (some ⟨Gx,0,none⟩) m1 (m1+l+1) (os.take m1):=ahs;go_wp2_with fail;go_region_with (first | (go_at_call 155;refine (gW _ _ _ _ _ (by omega) hqd).mono ?_;rintro e w' ⟨k2,rfl,hk2,hres2,rfl⟩) | (go_at_call 178;refine (ad8 _ _ _ _ (s:Int) _ (by omega) hxd).mono ?_;rintro e w' ⟨ro,k3,c3,rfl,aff,hown3,hb3⟩))
      all_goals
       go_wp2;go_ret3;rw [Ih s (by omega),am3.out,← HM.out] at aff;have ZA:Rw .u32 bT wr.drew (some ⟨Gq,0,none⟩) k2 (l+1) (dA (val xs / val ys)):=by rw [HD.out];exact hres2
       have hown4:rH w.heap.size wr.drew (some ⟨Gq,0,none⟩) (l+1):=akU;have hbd:Below w.heap.size w wr.drew:=hbe.drew;exact ⟨_,_,_,_,_,_,by rw [Bv HY.out];rfl,ZA.ext hb3,hown4.ext hb3,by rw [DU _ HY.out];exact aff,hown3.mono hbd.size,lU hbd hb3⟩
     ·obtain ⟨j,rfl⟩:∃ j,k=j+1:=⟨k-1,by omega⟩
      obtain ⟨A,hA⟩:∃ A,A=os.take j:=⟨_,rfl⟩
      obtain ⟨W,hW⟩:∃ W,W=(os.drop j).take (m1+1):=⟨_,rfl⟩
      obtain ⟨C,hC⟩:∃ C,C=(os.drop j).drop (m1+1):=⟨_,rfl⟩
      have hos:os=A ++(W ++C):=by rw [hA,hW,hC,List.take_append_drop,List.take_append_drop]
      have hAl:A.length=j:=by rw [hA,List.length_take,HOL.out];omega
      have Xu:W.length=m1+1:=by rw [hW,List.length_take,List.length_drop,HOL.out];omega
      have hWB:∀ x∈W,x < bT:=fun x hx=>oZ x (by rw [hos];exact aiS _ (aiJ _ hx))
      have anm:∀ x∈A,x < bT:=fun x hx=>oZ x (by rw [hos];exact aiJ _ hx)
      have ano:∀ x∈C,x < bT:=fun x hx=>oZ x (by rw [hos];exact aiS _ (aiS _ hx))
      have hCl:C.length+j+m1=m1+l:=by
       have:=HOL.out;rw [hos,List.length_append,List.length_append,hAl,Xu] at this;omega
      have hv:=HV.out;have hlt4:=abV.out;rw [hos] at hv hlt4 hbx;have hpre:=acT qh hAl Xu hWB ai7.out hlt4;have hwin:Ri wr Gx A W C j:=⟨hbx,hAl⟩;have afk:=hby.rw hyB;rw [HYL.out] at afk;have OU:=aS hv;have abW:=aS hpre;have HWL:=aS Xu;have HCL:=aS hCl;have HAL:=aS hAl;clear hv hlt4 hbx hA hW hC hos Xu hCl hAl hpre HV abV;go_wp2_with fail;rw [show j+m1+1-j=m1+1 by omega];refine (Wp Gx j m1 _ Gy 0 m1 A W C Y0 _ (by omega) hm2 hwin HWL.out hWB (by omega) afk (Ne.symm hxy) yt HYT.out aok abW.out.1).mono ?_;rintro e w' ⟨W',rfl,ak9,aha,anx,ac6,FV⟩;have ahc:kX w' Gq 165 (eP .u32 qs):=by unfold kX;rw [FV.2.2.2.2 Gq (Ne.symm hxq)];exact hbq
      have anF:kX w' Gy 165 (eP .u32 Y0):=by unfold kX;rw [FV.2.2.2.2 Gy (Ne.symm hxy)];exact hby
      have anA:Below w.heap.size w w':=hbe.trans (FV.below hGx);have hcell:=ahc.cell j (by rw [bM,XH.out];omega);have hfree:=ahc.free j;obtain ⟨q,hq⟩:∃ q,q=val W / val Y0:=⟨_,rfl⟩
      rw [← hq];have ae4:0 < val Y0:=by
       have:=abW.out.1;rcases aev (val Y0) with h5 | h5
       ·rw [h5,Nat.mul_zero] at this;omega
       ·exact h5
      have hqB:q < 4294967296:=by
       rw [hq,Nat.div_lt_iff_lt_mul ae4];exact abW.out.1
      have hWq:aO bT W'+q*val Y0=aO bT W:=by
       have:=aiH (val W) (val Y0);rw [← ac6,← hq,Nat.mul_comm (val Y0)] at this;exact this
      have ako:aO bT W' < val Y0:=by
       have:=adl (val W) ae4;rw [← ac6] at this;exact this
      have hstep:=YV (n:=m1) (C:=C) HAL.out abW.out.2 hWq (by rw [XH.out];omega) OU.out aha HWL.out;have HQ:=aS hq;have ai6:=aS hstep;have am1:=aS aha;have HWV:=aS ac6;have am2:=aS ako;clear hq hstep aha ac6 hWq ako;have hlen':(A ++(W' ++C)).length=m1+l+1:=by
       rw [List.length_append,List.length_append,HAL.out,am1.out];have:=HCL.out;omega
      have HL5:=aS hlen';clear hlen';go_wp2;go_roundw
      case rel=>
       have hv:=ahc.set j (.int .u32 (q:Int));rw [fK] at hv;refine ⟨j,A ++(W' ++C),qs.set j q,by omega,by go_num,HL5.out,?_,by rw [List.length_set];exact XH.out,dK akV hqB j,ak9.1.other hxq _,anF.other hyq _,hv,anA.setCell Zy _,?_,?_⟩
       ·intro x hx
        rcases ahn.1 hx with hx | hx
        ·exact anm x hx
        ·rcases ahn.1 hx with hx | hx
         ·exact anx x hx
         ·exact ano x hx
       ·rw [ai6.out.2];exact am2.out
       ·exact ai6.out.1
      case measure=>simp [intOf];try omega
theorem WS{B:BS}{w w':World}{K m:Nat}{a:Option Addr}{n c:Nat}(hB:∀ b,B b→b < w.heap.size)(h:Rw .u32 bT w' a n c (dA m))(hm:m < bT^K)(ho:rH w.heap.size w' a c):dY B w' (ln K m) (.slice a n c):=aag h (Vh h hm) (DX hB ho h)
theorem YW{B:BS}{w w':World}{K m:Nat}{a:Option Addr}{n c:Nat}(hB:∀ b,B b→b < w.heap.size)(h:Rw .i64 B4 w' a n c (aT m))(hm:m < B4^K)(ho:rH w.heap.size w' a c):dY B w' (dn K m) (.slice a n c):=YZ h (agN h hm) (DX hB ho h)
theorem Jv{B K M:Nat}(hB:2≤B)(h:K≤M){m:Nat}(hm:m < B^K):m < B^M:=acC hm (ab1 (by omega) h)
theorem Bj{l:Lf}{K m:Nat}(h:JX l K m)(hK:K≤1073741824:=by first|decide|omega):aC Tryz.prog 147 [.one l] (.d (.one (ln K m))):=by
 obtain ⟨xs,hl1,rfl⟩:=h;refine ⟨fJ Tryz.func147 rfl rfl,fun B w vs hB hvs=>?_⟩
 match vs,hvs with
 | [v],⟨h1,_⟩=>
  obtain ⟨a,n,c,rfl,hr,hn,hb⟩:=qR (hl1 _ _ _ h1);refine (Qr a n c xs w (by omega) hr).mono ?_;rintro e w' ⟨ro,k,c',rfl,hk,h3,ho,hbb⟩;exact ⟨_,rfl,hbb,WS hB h3 (AZ hr hn) ho⟩
theorem aeD{a b:Lf}{K L M m n:Nat}(h:JX a K m)(k:JX b L n)(hM:max K L+1≤M:=by first|decide|omega)(hK:K≤1073741824:=by first|decide|omega)(hL:L≤1073741824:=by first|decide|omega):aC Tryz.prog 164 [.one a,.one b] (.d (.one (ln M (m+n)))):=by
 obtain ⟨xs,hl1,rfl⟩:=h;obtain ⟨ys,hl2,rfl⟩:=k;refine ⟨fJ Tryz.func164 rfl rfl,fun B w vs hB hvs=>?_⟩
 match vs,hvs with
 | [v,u],⟨h1,h2,_⟩=>
  obtain ⟨a,n,c,rfl,hr,hn,hb⟩:=qR (hl1 _ _ _ h1);obtain ⟨a',n',c',rfl,hr',hn',hb'⟩:=qR (hl2 _ _ _ h2);refine (acw a a' n c n' c' xs ys w (by omega) (by omega) hr hr').mono ?_;rintro e w' ⟨ro,k,cc,rfl,h3,ho,hbb⟩;exact ⟨_,rfl,hbb,WS hB h3 (Jv (by decide) hM (Jf (by decide) (AZ hr hn) (AZ hr' hn'))) ho⟩
theorem XT{a b:Lf}{K L m n:Nat}(h:JX a K m)(k:JX b L n)(hK:K≤1073741824:=by first|decide|omega)(hL:L≤1073741824:=by first|decide|omega):aC Tryz.prog 165 [.one a,.one b] (.ji [.one (ln K (m-n)),.one (.v (.bool (decide (n≤m))))]):=by
 obtain ⟨xs,hl1,rfl⟩:=h;obtain ⟨ys,hl2,rfl⟩:=k;refine ⟨fJ Tryz.func165 rfl rfl,fun B w vs hB hvs=>?_⟩
 match vs,hvs with
 | [v,u],⟨h1,h2,_⟩=>
  obtain ⟨a,n,c,rfl,hr,hn,hb⟩:=qR (hl1 _ _ _ h1);obtain ⟨a',n',c',rfl,hr',hn',hb'⟩:=qR (hl2 _ _ _ h2);refine (aec a a' n c n' c' xs ys w (by omega) (by omega) hr hr').mono ?_;rintro e w' ⟨ro,k,cc,rfl,h3,ho,hbb⟩;have hlt:=AZ hr hn;exact ⟨_,rfl,hbb,[.slice ro k cc,.bool (decide (val ys≤val xs))],rfl,WS hB h3 (by omega) ho,⟨rfl,rfl⟩,Pe⟩
theorem ajh{a b:Lf}{K L M m n:Nat}(h:JX a K m)(k:JX b L n)(hM:K+L≤M:=by first|decide|omega)(hK:K≤1073741824:=by first|decide|omega)(hL:L≤1073741824:=by first|decide|omega):aC Tryz.prog 154 [.one a,.one b] (.d (.one (ln M (m*n)))):=by
 obtain ⟨xs,hl1,rfl⟩:=h;obtain ⟨ys,hl2,rfl⟩:=k;refine ⟨fJ Tryz.func154 rfl rfl,fun B w vs hB hvs=>?_⟩
 match vs,hvs with
 | [v,u],⟨h1,h2,_⟩=>
  obtain ⟨a,n,c,rfl,hr,hn,hb⟩:=qR (hl1 _ _ _ h1);obtain ⟨a',n',c',rfl,hr',hn',hb'⟩:=qR (hl2 _ _ _ h2);refine (adG a a' n c n' c' xs ys w (by omega) (by omega) hr hr').mono ?_;rintro e w' ⟨ro,k,cc,rfl,h3,ho,hbb⟩;exact ⟨_,rfl,hbb,WS hB h3 (Jv (by decide) hM (Jg (AZ hr hn) (AZ hr' hn'))) ho⟩
theorem aeE{a b:Lf}{K L m n:Nat}(h:JX a K m)(k:JX b L n)(hK:K≤1073741824:=by first|decide|omega)(hL:L≤1073741824:=by first|decide|omega):aC Tryz.prog 133 [.one a,.one b] (dI (kH m n)):=by
 obtain ⟨xs,hl1,rfl⟩:=h;obtain ⟨ys,hl2,rfl⟩:=k;refine ⟨fJ Tryz.func133 rfl rfl,fun B w vs hB hvs=>?_⟩
 match vs,hvs with
 | [v,u],⟨h1,h2,_⟩=>
  obtain ⟨a,n,c,rfl,hr,hn,hb⟩:=qR (hl1 _ _ _ h1);obtain ⟨a',n',c',rfl,hr',hn',hb'⟩:=qR (hl2 _ _ _ h2);refine (UE a a' n c n' c' xs ys w (by omega) (by omega) hr hr').mono ?_;rintro e w' ⟨rfl,hbb⟩;exact ⟨_,rfl,hbb,rfl,rfl⟩
theorem ED{a:Lf}{K m:Nat}(h:JX a K m)(hK:K≤1073741824:=by first|decide|omega):aC Tryz.prog 136 [.one a] (dI ((bW m:Nat):Int)):=by
 obtain ⟨xs,hl1,rfl⟩:=h;refine ⟨fJ Tryz.func136 rfl rfl,fun B w vs hB hvs=>?_⟩
 match vs,hvs with
 | [v],⟨h1,_⟩=>
  obtain ⟨a,n,c,rfl,hr,hn,hb⟩:=qR (hl1 _ _ _ h1);refine (Yl a n c xs w (by omega) hr).mono ?_;rintro e w' ⟨rfl,rfl⟩;exact ⟨_,rfl,Below.refl _ _,rfl,rfl⟩
theorem XR{a b:Lf}{K L m n:Nat}(h:JX a K m)(k:JX b L n)(hK:K≤1073741823:=by first|decide|omega)(hL:L≤1073741823:=by first|decide|omega):aC Tryz.prog 166 [.one a,.one b] (.ji [.one (ln K (m / n)),.one (ln L (kT m n)),.one (vI (EN n))]):=by
 obtain ⟨xs,hl1,rfl⟩:=h;obtain ⟨ys,hl2,rfl⟩:=k;refine ⟨fJ Tryz.func166 rfl rfl,fun B w vs hB hvs=>?_⟩
 match vs,hvs with
 | [v,u],⟨h1,h2,_⟩=>
  obtain ⟨a,n,c,rfl,hr,hn,hb⟩:=qR (hl1 _ _ _ h1);obtain ⟨a',n',c',rfl,hr',hn',hb'⟩:=qR (hl2 _ _ _ h2);refine (SQ a a' n c n' c' xs ys w (by omega) (by omega) hr hr').mono ?_;rintro e w' ⟨qo,qn,qc,ro,rn,rc,rfl,h3,h4,h5,h6,hbb⟩;have hq:val xs / val ys < bT^K:=aeV (Nat.div_le_self _ _) (AZ hr hn);have hm:kT (val xs) (val ys) < bT^L:=by
   by_cases h0:val ys=0
   ·rw [h0,WT];exact aeA (by decide)
   ·rw [DU _ h0];exact Nat.lt_trans (adl _ (by omega)) (AZ hr' hn')
  exact ⟨_,rfl,hbb,[.slice qo qn qc,.slice ro rn rc,.int .i64 (EN (val ys))],rfl,WS hB h3 hq h4,WS hB h5 hm h6,⟨rfl,rfl⟩,Pe⟩
theorem ajl{a b:Lf}{K L M m n:Nat}(h:VZ a K m)(k:VZ b L n)(hM:max K L+1≤M:=by first|decide|omega)(hK:K≤1073741824:=by first|decide|omega)(hL:L≤1073741824:=by first|decide|omega):aC Tryz.prog 140 [.one a,.one b] (.d (.one (dn M (m+n)))):=by
 refine ⟨fJ Tryz.func140 rfl rfl,fun B w vs hB hvs=>?_⟩
 match vs,hvs with
 | [v,u],⟨h1,h2,_⟩=>
  obtain ⟨a,na,c,rfl,hr,hn,hb⟩:=vW (h _ _ _ h1);obtain ⟨a',n',c',rfl,hr',hn',hb'⟩:=vW (k _ _ _ h2);refine (Yf a a' na c n' c' m n w (by omega) (by omega) hr hr').mono ?_;rintro e w' ⟨ro,k,cc,rfl,h3,ho,hk,hbb⟩;exact ⟨_,rfl,hbb,YW hB h3 (Jv (by decide) hM (Jf (by decide) (FT hr hn) (FT hr' hn'))) ho⟩
theorem ajn{a b:Lf}{K L M m n:Nat}(h:VZ a K m)(k:VZ b L n)(hM:K+L≤M:=by first|decide|omega)(hK:K≤1073741824:=by first|decide|omega)(hL:L≤1073741824:=by first|decide|omega):aC Tryz.prog 118 [.one a,.one b] (.d (.one (dn M (m*n)))):=by
 refine ⟨fJ Tryz.func118 rfl rfl,fun B w vs hB hvs=>?_⟩
 match vs,hvs with
 | [v,u],⟨h1,h2,_⟩=>
  obtain ⟨a,na,c,rfl,hr,hn,hb⟩:=vW (h _ _ _ h1);obtain ⟨a',n',c',rfl,hr',hn',hb'⟩:=vW (k _ _ _ h2);refine (aao a a' na c n' c' m n w (by omega) (by omega) hr hr').mono ?_;rintro e w' ⟨ro,k,cc,rfl,h3,hk,ho,hbb⟩;exact ⟨_,rfl,hbb,YW hB h3 (Jv (by decide) hM (Jg (FT hr hn) (FT hr' hn'))) ho⟩
theorem aeH{a b:Lf}{K L M m n:Nat}(h:VZ a K m)(k:VZ b L n)(hle:n≤m)(hM:K≤M:=by first|decide|omega)(hK:K≤1073741824:=by first|decide|omega)(hL:L≤1073741824:=by first|decide|omega):aC Tryz.prog 142 [.one a,.one b] (.d (.one (dn M (m-n)))):=by
 refine ⟨fJ Tryz.func142 rfl rfl,fun B w vs hB hvs=>?_⟩
 match vs,hvs with
 | [v,u],⟨h1,h2,_⟩=>
  obtain ⟨a,na,c,rfl,hr,hn,hb⟩:=vW (h _ _ _ h1);obtain ⟨a',n',c',rfl,hr',hn',hb'⟩:=vW (k _ _ _ h2);refine (QM a a' na c n' c' m n w (by omega) (by omega) hle hr hr').mono ?_;rintro e w' ⟨ro,k,cc,rfl,h3,hk,ho,hbb⟩;exact ⟨_,rfl,hbb,YW hB h3 (Jv (by decide) hM (aeV (Nat.sub_le _ _) (FT hr hn))) ho⟩
theorem ajm{a b:Lf}{K L m n:Nat}(h:VZ a K m)(k:VZ b L n)(hK:K≤1073741824:=by first|decide|omega)(hL:L≤1073741824:=by first|decide|omega):aC Tryz.prog 141 [.one a,.one b] (dI (kH m n)):=by
 refine ⟨fJ Tryz.func141 rfl rfl,fun B w vs hB hvs=>?_⟩
 match vs,hvs with
 | [v,u],⟨h1,h2,_⟩=>
  obtain ⟨a,na,c,rfl,hr,hn,hb⟩:=vW (h _ _ _ h1);obtain ⟨a',n',c',rfl,hr',hn',hb'⟩:=vW (k _ _ _ h2);refine (O9 a a' na c n' c' m n w (by omega) (by omega) hr hr').mono ?_;rintro e w' ⟨rfl,hbb⟩;exact ⟨_,rfl,hbb,rfl,rfl⟩
theorem aeG{a b:Lf}{K L m n:Nat}(h:VZ a K m)(k:VZ b L n)(hn0:0 < n)(hK:K≤100000000:=by first|decide|omega)(hL:L≤100000000:=by first|decide|omega):aC Tryz.prog 119 [.one a,.one b] (.ji [.one (dn K (m / n)),.one (dn L (m%n))]):=by
 refine ⟨fJ Tryz.func119 rfl rfl,fun B w vs hB hvs=>?_⟩
 match vs,hvs with
 | [v,u],⟨h1,h2,_⟩=>
  obtain ⟨a,na,c,rfl,hr,hn,hb⟩:=vW (h _ _ _ h1);obtain ⟨a',n',c',rfl,hr',hn',hb'⟩:=vW (k _ _ _ h2);refine (YU a a' na c n' c' m n w (by omega) (by omega) hn0 hr hr').mono ?_;rintro e w' ⟨qo,qn,qc,ro,rn,rc,rfl,h3,_,h5,_,h4,h6,hbb⟩;have hq:m / n < B4^K:=aeV (Nat.div_le_self _ _) (FT hr hn);have hm:m%n < B4^L:=Nat.lt_trans (adl _ hn0) (FT hr' hn');exact ⟨_,rfl,hbb,[.slice qo qn qc,.slice ro rn rc],rfl,YW hB h3 hq h4,YW hB h5 hm h6,Pe⟩
theorem agc{l:Lf}{K M m:Nat}(h:JX l K m)(hM:3*K≤M:=by first|decide|omega)(hK:K≤100000000:=by first|decide|omega):aC Tryz.prog 110 [.one l] (.d (.one (dn M m))):=by
 obtain ⟨xs,hl1,rfl⟩:=h;refine ⟨fJ Tryz.func110 rfl rfl,fun B w vs hB hvs=>?_⟩
 match vs,hvs with
 | [v],⟨h1,_⟩=>
  obtain ⟨a,n,c,rfl,hr,hn,hb⟩:=qR (hl1 _ _ _ h1);refine (Wy a n c xs w (by omega) hr).mono ?_;rintro e w' ⟨ro,k,c',rfl,h3,hk,ho,hbb⟩;exact ⟨_,rfl,hbb,YZ h3 (by omega) (DX hB ho h3)⟩
theorem am8{a:Lf}{K m:Nat}(h:VZ a K m)(hK:K≤1000000000:=by first|decide|omega):aC Tryz.prog 93 [.one a] (.d (.one (ln K m))):=by
 refine ⟨fJ Tryz.func93 rfl rfl,fun B w vs hB hvs=>?_⟩
 match vs,hvs with
 | [v],⟨h1,_⟩=>
  obtain ⟨a,n,c,rfl,hr,hn,hb⟩:=vW (h _ _ _ h1);refine (aej a n c m w (by omega) hr).mono ?_;rintro e w' ⟨ro,k,c',rfl,h3,hk,ho,hbb⟩;exact ⟨_,rfl,hbb,aag h3 (by omega) (DX hB ho h3)⟩
theorem ajo{n:Nat}(hn:n≤1000000:=by decide):aC Tryz.prog 89 [.one (vI (n:Int))] (.d (.one (dn (n+1) (2^n)))):=by
 refine ⟨fJ Tryz.func89 rfl rfl,fun B w vs hB hvs=>?_⟩
 match vs,hvs with
 | [_],⟨⟨rfl,_⟩,_⟩=>
  refine (aaP n w hn).mono ?_;rintro e w' ⟨ro,k,c',rfl,h3,hk,ho,hbb⟩;exact ⟨_,rfl,hbb,YZ h3 hk (DX hB ho h3)⟩
theorem zY{v:Int}{n:Nat}(hn:1≤n:=by decide)(hn2:n≤1000000:=by decide)(h1: -9223372036854775808≤v)(h2:v≤9223372036854775807):aC Tryz.prog 20 [.one (vI v),.one (vI (n:Int))] (dI (v%(n:Int))):=by
 refine ⟨fJ Tryz.func20 rfl rfl,fun B w vs hB hvs=>?_⟩
 match vs,hvs with
 | [_,_],⟨⟨rfl,_⟩,⟨rfl,_⟩,_⟩=>
  refine (Ug v n w hn hn2 h1 h2).mono ?_;rintro e w' ⟨rfl,rfl⟩;exact ⟨_,rfl,Below.refl _ _,rfl,rfl⟩
theorem Ve{K m:Nat}{b:Bool}{z:Int}(h1:b=decide (z < 0))(h2:m=z.natAbs):AV.le (.d (.agg [.v (.bool b),ln K m])) (.d (.agg (zn K z))):=by subst h1;subst h2;exact AV.le.rfl
theorem IZ{K m:Nat}{b:Bool}{z:Int}(h1:b=decide (z < 0))(h2:m=z.natAbs):AV.le (.d (.agg [dn K m,.v (.bool b)])) (.d (.agg (rn K z))):=by subst h1;subst h2;exact AV.le.rfl
theorem Ak(m:Nat):(dA m).length=0↔m=0:=by
 rw [List.length_eq_zero_iff];exact ru
theorem vU(m:Nat):(aT m).length=0↔m=0:=by
 rw [List.length_eq_zero_iff];exact Df
def x9(z:Int):Int:=if z < 0 then -1 else if z=0 then 0 else 1
theorem sU(m:Nat):bW m=0↔m=0:=⟨fun h=>by
 rcases aev m with h0 | h0
 ·exact h0
 ·have:=Fb (n:=m) (by omega);omega,fun h=>by subst h;rfl⟩
theorem abE(s t:Bool)(a b:Nat):zv (s !=t) (a*b)=zv s a*zv t b:=by
 cases s <;> cases t <;> simp [zv,Int.neg_mul,Int.mul_neg]
theorem abD(s t:Bool)(a b:Nat)(h:(s==t)=true):zv s (a+b)=zv s a+zv t b:=by
 cases s <;> cases t <;> simp_all [zv] <;> omega
theorem VX(s t:Bool)(a b:Nat)(h:(s==t)=false)(hle:b≤a):zv s (a-b)=zv s a+zv t b:=by
 cases s <;> cases t <;> simp_all [zv] <;> omega
theorem VY(s t:Bool)(a b:Nat)(h:(s==t)=false)(hle:¬ b≤a):zv t (b-a)=zv s a+zv t b:=by
 cases s <;> cases t <;> simp_all [zv] <;> omega
theorem zvz(x:Int):x=zv (decide (x < 0)) x.natAbs:=(lZ x).symm
theorem qP{K m:Nat}{neg:Bool}{z:Int}(hz:zv neg m=z):aC Tryz.prog 146 [.one (ln K m),.one (.v (.bool neg))] (.d (.agg (zn K z))):=by
 subst hz;cases neg
 ·exact aN 13 [.cell 4 36] Tryz.func146 rfl<|cR<|mO rfl<|mT<|cR<|mE 2 rfl<|mG rfl rfl<|mG rfl rfl<|mG rfl rfl<|mE 3 rfl<|mZ rfl<|mT<|aH<|rQ rfl (Ve (by simp [OJ]) (tV _ _).symm)
 ·exact aN 13 [.cell 4 36] Tryz.func146 rfl<|cR<|mO rfl<|mT<|cR<|mE 8 rfl<|mZ rfl<|mT<|aH<|rQ rfl (Ve (by rw [OJ];have:=Ak m;rw [Bool.true_and,decide_eq_decide];omega) (tV _ _).symm)
theorem uO{K m:Nat}{neg:Bool}{z:Int}(hz:zv neg m=z):aC Tryz.prog 88 [.one (dn K m),.one (.v (.bool neg))] (.d (.agg (rn K z))):=by
 subst hz;cases neg
 ·exact aN 13 [.cell 4 47] Tryz.func88 rfl<|cR<|mO rfl<|mT<|cR<|mE 3 rfl<|mG rfl rfl<|mG rfl rfl<|mG rfl rfl<|mE 2 rfl<|mZ rfl<|mT<|aH<|rQ rfl (IZ (by simp [OJ]) (tV _ _).symm)
 ·exact aN 13 [.cell 4 47] Tryz.func88 rfl<|cR<|mO rfl<|mT<|cR<|mE 8 rfl<|mZ rfl<|mT<|aH<|rQ rfl (IZ (by rw [OJ];have:=vU m;rw [Bool.true_and,decide_eq_decide];omega) (tV _ _).symm)
theorem Un{a:List Lf}{K:Nat}{x:Int}(ha:Gg a K x)(hK:K≤1073741824:=by first|decide|omega):aC Tryz.prog 123 [.agg a] (.d (.agg (zn K x))):=by
 obtain ⟨s,xs,ha,rfl⟩:=ha;exact aC.le (dl (DV.z ha) iP) AV.le.rfl<|aN 9 [.cell 2 36] Tryz.func123 rfl<|cR<|mO rfl<|mO rfl<|mT<|au<|cDk 6<|oE 2 rfl<|oC (Bj (ug K xs)) rfl<|oE 2 rfl<|oC (qP rfl) rfl<|.nil<|mZ rfl<|mT<|aH<|rQ rfl (AV.le.rfl)
theorem ab9{a:List Lf}{K:Nat}{x:Int}(ha:Gg a K x)(hK:K≤1073741824:=by first|decide|omega):aC Tryz.prog 152 [.agg a] (.d (.agg (zn K (-x)))):=by
 obtain ⟨s,xs,ha,rfl⟩:=ha;refine aC.le (dl (DV.z ha) iP) AV.le.rfl<|aN 10 [.cell 2 36] Tryz.func152 rfl<|cR<|mO rfl<|mO rfl<|mT<|au<|cDk 7<|oE 2 rfl<|oC (Bj (ug K xs)) rfl<|oE 3 rfl<|oC (qP rfl) rfl<|.nil<|mZ rfl<|mT<|aH ?_;exact rQ rfl (jQ (abJ _) (by cases s <;> simp [zv]))
theorem XO{a b:List Lf}{K L M:Nat}{x y:Int}(ha:Gg a K x)(hb:Gg b L y)(hM:max K L+1≤M:=by first|decide|omega)(hK:K≤1073741824:=by first|decide|omega)(hL:L≤1073741824:=by first|decide|omega):aC Tryz.prog 148 [.agg a,.agg b] (.d (.agg (zn M (x+y)))):=by
 obtain ⟨s,xs,ha,rfl⟩:=ha;obtain ⟨t,ys,hb,rfl⟩:=hb;refine aC.le (dl (DV.z ha) (dl (DV.z hb) iP)) AV.le.rfl<|aN 47 [.cell 4 36] Tryz.func148 rfl<|cR<|mO rfl<|mO rfl<|mO rfl<|mT<|au<|cR<|mE 5 rfl<|mT<|aW rfl (fun hc1=>?_) (fun hc1=>?_)
 ·exact au<|cDk 8<|oE 4 rfl<|oC (aeD (ug K xs) (ug L ys) (M:=(max K L+1))) rfl<|oE 2 rfl<|oC (qP rfl) rfl<|.nil<|mZ rfl<|mT<|aH<|tR<|rQ rfl (jQ hM (abD _ _ _ _ hc1))
 ·refine aF<|tN<|au<|cR<|mE 4 rfl<|mY (XT (ug K xs) (ug L ys)) rfl<|mE 5 rfl<|mT<|cR<|mW rfl<|mT<|aW rfl (fun hc2=>?_) (fun hc2=>?_)
  ·exact cR<|mE 3 rfl<|mY (qP rfl) rfl<|mZ rfl<|mT<|aH<|tR<|rQ rfl (jQ (by omega) (VX _ _ _ _ hc1 (by simpa using hc2)))
  ·exact aF<|tN<|cR<|mE 4 rfl<|mY (XT (ug L ys) (ug K xs)) rfl<|mE 5 rfl<|mT<|cR<|mE 3 rfl<|mY (qP rfl) rfl<|mZ rfl<|mT<|aH<|rQ rfl (jQ (by omega) (VY _ _ _ _ hc1 (by simpa using hc2)))
theorem ajB{a b:List Lf}{K L M:Nat}{x y:Int}(ha:Gg a K x)(hb:Gg b L y)(hM:max K L+1≤M:=by first|decide|omega)(hK:K≤1073741824:=by first|decide|omega)(hL:L≤1073741824:=by first|decide|omega):aC Tryz.prog 138 [.agg a,.agg b] (.d (.agg (zn M (x-y)))):=by
 obtain ⟨s,xs,ha,rfl⟩:=ha;obtain ⟨t,ys,hb,rfl⟩:=hb;refine aC.le (dl (DV.z ha) (dl (DV.z hb) iP)) AV.le.rfl<|aN 12 [.cell 4 36] Tryz.func138 rfl<|cR<|mO rfl<|mO rfl<|mO rfl<|mT<|cR<|mE 4 rfl<|mZ rfl<|mT<|cR<|mE 2 rfl<|mY (XO (aln K s xs) (aln L (!t) ys) (M:=(max K L+1))) rfl<|mZ rfl<|mT<|aH ?_;exact rQ rfl (jQ hM (by cases t <;> simp [zv] <;> omega))
theorem J4{a b:List Lf}{K L M:Nat}{x y:Int}(ha:Gg a K x)(hb:Gg b L y)(hM:K+L≤M:=by first|decide|omega)(hK:K≤1073741824:=by first|decide|omega)(hL:L≤1073741824:=by first|decide|omega):aC Tryz.prog 131 [.agg a,.agg b] (.d (.agg (zn M (x*y)))):=by
 obtain ⟨s,xs,ha,rfl⟩:=ha;obtain ⟨t,ys,hb,rfl⟩:=hb;exact aC.le (dl (DV.z ha) (dl (DV.z hb) iP)) AV.le.rfl<|aN 16 [.cell 4 36] Tryz.func131 rfl<|cR<|mO rfl<|mO rfl<|mO rfl<|mT<|au<|cDk 11<|oE 4 rfl<|oC (ajh (ug K xs) (ug L ys) (M:=(K+L))) rfl<|oE 5 rfl<|oC (qP rfl) rfl<|.nil<|mZ rfl<|mT<|aH<|rQ rfl (jQ hM (abE _ _ _ _))
theorem ajA{a:List Lf}{K:Nat}{x:Int}(ha:Gg a K x)(hK:K≤1073741824:=by first|decide|omega):aC Tryz.prog 132 [.agg a] (dI (x9 x)):=by
 obtain ⟨s,xs,ha,rfl⟩:=ha;refine aC.le (dl (DV.z ha) iP) AV.le.rfl<|aN 11 [.tmp 2] Tryz.func132 rfl<|cR<|mO rfl<|mW rfl<|mT<|au<|aI<|cR<|mE 2 rfl<|mY (ED (ug K xs)) rfl<|mE 2 rfl<|mT<|aW rfl (fun hc1=>?_) (fun hc1=>?_)
 ·refine cR<|mW rfl<|mT<|aH<|bR<|tR ?_;exact rQ rfl (aG (by have h0:=sU (val xs);simp only [beq_iff_eq,beq_eq_false_iff_ne,ne_eq,bne_iff_ne,bne_eq_false_iff_eq,decide_eq_true_eq,decide_eq_false_iff_not] at hc1;unfold x9 zv;cases s <;> (repeat' split) <;> first | omega | (exfalso;simp at *;done) | (simp at *;omega)))
 ·refine cR<|mE 3 rfl<|mT<|aW rfl (fun hc2=>?_) (fun hc2=>?_)
  ·refine cR<|mW rfl<|mT<|aH<|bR<|tR ?_;exact rQ rfl (aG (by have h0:=sU (val xs);simp only [beq_iff_eq,beq_eq_false_iff_ne,ne_eq,bne_iff_ne,bne_eq_false_iff_eq,decide_eq_true_eq,decide_eq_false_iff_not] at hc1 hc2;unfold x9 zv;cases s <;> (repeat' split) <;> first | omega | (exfalso;simp at *;done) | (simp at *;omega)))
  ·refine aF<|bN<|tN<|cR<|mW rfl<|mT<|aH ?_;exact rQ rfl (aG (by have h0:=sU (val xs);simp only [beq_iff_eq,beq_eq_false_iff_ne,ne_eq,bne_iff_ne,bne_eq_false_iff_eq,decide_eq_true_eq,decide_eq_false_iff_not] at hc1 hc2;unfold x9 zv;cases s <;> (repeat' split) <;> first | omega | (exfalso;simp at *;done) | (simp at *;omega)))
theorem ajc{a b:List Lf}{K L:Nat}{x y:Int}(ha:Gg a K x)(hb:Gg b L y)(hK:K≤1073741824:=by first|decide|omega)(hL:L≤1073741824:=by first|decide|omega):aC Tryz.prog 104 [.agg a,.agg b] (dI (kH x y)):=by
 obtain ⟨s,xs,ha,hx⟩:=ha;obtain ⟨t,ys,hb,hy⟩:=hb;refine aC.le (dl (DV.z ha) (dl (DV.z hb) iP)) AV.le.rfl ?_;have hxa:val xs=x.natAbs:=by rw [← hx,tV]
 have hya:val ys=y.natAbs:=by rw [← hy,tV]
 refine aN 32 [.tmp 4] Tryz.func104 rfl<|cR<|mO rfl<|mO rfl<|mW rfl<|mT<|au<|cDk 6<|oV rfl<|oC (ajA ⟨s,xs,fun _ _ _ h=>h,hx⟩ (by omega)) rfl<|oV rfl<|oC (ajA ⟨t,ys,fun _ _ _ h=>h,hy⟩ (by omega)) rfl<|.cons (aB.V _ rfl)<|.cons (aB.V _ rfl)<|.nil<|mT<|au<|aI<|cR<|mE 4 rfl<|mT<|aW rfl (fun hc1=>?_) (fun hc1=>?_)
 ·refine cR<|mW rfl<|mT<|aH<|bR<|tR ?_;exact rQ rfl (aG (by simp only [decide_eq_true_eq,decide_eq_false_iff_not] at hc1;(try rw [hxa,hya]);simp only [x9,kH] at *;(repeat' split at *) <;> omega))
 ·refine cR<|mE 4 rfl<|mT<|aW rfl (fun hc2=>?_) (fun hc2=>?_)
  ·refine cR<|mW rfl<|mT<|aH<|bR<|tR ?_;exact rQ rfl (aG (by simp only [decide_eq_true_eq,decide_eq_false_iff_not] at hc1 hc2;(try rw [hxa,hya]);simp only [x9,kH] at *;(repeat' split at *) <;> omega))
  ·refine cR<|mE 3 rfl<|mT<|aW rfl (fun hc3=>?_) (fun hc3=>?_)
   ·refine cR<|mE 4 rfl<|mY (aeE (ug L ys) (ug K xs)) rfl<|mW rfl<|mT<|aH<|bR<|tR ?_;exact rQ rfl (aG (by simp only [decide_eq_true_eq,decide_eq_false_iff_not] at hc1 hc2 hc3;(try rw [hxa,hya]);simp only [x9,kH] at *;(repeat' split at *) <;> omega))
   ·refine aF<|bN<|tN<|cR<|mE 4 rfl<|mY (aeE (ug K xs) (ug L ys)) rfl<|mW rfl<|mT<|aH ?_;exact rQ rfl (aG (by simp only [decide_eq_true_eq,decide_eq_false_iff_not] at hc1 hc2 hc3;(try rw [hxa,hya]);simp only [x9,kH] at *;(repeat' split at *) <;> omega))
theorem RX{a:List Lf}{K M:Nat}{x:Int}(ha:Gg a K x)(hM:3*K≤M:=by first|decide|omega)(hK:K≤100000000:=by first|decide|omega):aC Tryz.prog 73 [.agg a] (.d (.agg (rn M x))):=by
 obtain ⟨s,xs,ha,rfl⟩:=ha;exact aC.le (dl (DV.z ha) iP) AV.le.rfl<|aN 9 [.cell 2 47] Tryz.func73 rfl<|cR<|mO rfl<|mO rfl<|mT<|au<|cDk 6<|oE 2 rfl<|oC (agc (ug K xs) (M:=(3*K))) rfl<|oE 2 rfl<|oC (uO rfl) rfl<|.nil<|mZ rfl<|mT<|aH<|rQ rfl (zA hM rfl)
theorem agu{a:List Lf}{K:Nat}{x:Int}(ha:LY a K x)(hK:K≤1000000000:=by first|decide|omega):aC Tryz.prog 58 [.agg a] (.d (.agg (zn K x))):=by
 exact aC.le (dl (DV.g ha) iP) AV.le.rfl<|aN 9 [.cell 2 36] Tryz.func58 rfl<|cR<|mO rfl<|mO rfl<|mT<|au<|cDk 6<|oE 4 rfl<|oC (am8 (Tm K x.natAbs)) rfl<|oV rfl<|.nil<|mZ rfl<|mT<|aH<|rQ rfl (AV.le.rfl)
theorem O3{a:List Lf}{K M:Nat}{x:Int}(ha:LY a K x)(hM:K≤M:=by first|decide|omega)(hK:K≤1073741824:=by first|decide|omega):aC Tryz.prog 84 [.agg a] (.d (.agg (rn M (-x)))):=by
 refine aC.le (dl (DV.g ha) iP) AV.le.rfl<|aN 9 [.cell 2 47] Tryz.func84 rfl<|cR<|mO rfl<|mO rfl<|mT<|cR<|mE 5 rfl<|mY (uO rfl) rfl<|mZ rfl<|mT<|aH ?_;exact rQ rfl (zA hM (by unfold zv;by_cases h:x < 0 <;> simp [h] <;> omega))
theorem X6{a b:List Lf}{K L M:Nat}{x y:Int}(ha:LY a K x)(hb:LY b L y)(hM:max K L+1≤M:=by first|decide|omega)(hK:K≤1073741824:=by first|decide|omega)(hL:L≤1073741824:=by first|decide|omega):aC Tryz.prog 114 [.agg a,.agg b] (.d (.agg (rn M (x+y)))):=by
 refine aC.le (dl (DV.g ha) (dl (DV.g hb) iP)) AV.le.rfl<|aN 40 [.cell 4 47] Tryz.func114 rfl<|cR<|mO rfl<|mO rfl<|mO rfl<|mT<|au<|cR<|mE 5 rfl<|mT<|aW rfl (fun hc1=>?_) (fun hc1=>?_)
 ·exact au<|cDk 8<|oE 4 rfl<|oC (ajl (Tm K x.natAbs) (Tm L y.natAbs) (M:=(max K L+1))) rfl<|oE 2 rfl<|oC (uO rfl) rfl<|.nil<|mZ rfl<|mT<|aH<|tR<|rQ rfl (zA hM ((abD _ _ _ _ hc1).trans (by rw [← zvz x,← zvz y])))
 ·refine aF<|tN<|au<|cR<|mE 4 rfl<|mY (ajm (Tm K x.natAbs) (Tm L y.natAbs)) rfl<|mW rfl<|mT<|aW rfl (fun hc2=>?_) (fun hc2=>?_)
  ·refine au<|cDk 8<|oE 3 rfl<|.cons (aB.V (.d (.one (dn L y.natAbs))) rfl) ?_;refine .cons (aB.C0 (aeH (Tm K x.natAbs) (Tm L y.natAbs) (by have h:=hc2;simp [kH] at h;(repeat' split at h) <;> omega) (M:=K)) rfl rfl rfl) ?_;refine oE 2 rfl<|oC (uO rfl) rfl<|.nil<|mZ rfl<|mT<|aH<|tR ?_;exact rQ rfl (zA (by omega) ((VX _ _ _ _ hc1 (by have h:=hc2;simp [kH] at h;(repeat' split at h) <;> omega)).trans (by rw [← zvz x,← zvz y])))
  ·refine aF<|tN<|au<|cDk 8<|oE 3 rfl<|.cons (aB.V (.d (.one (dn K x.natAbs))) rfl) ?_;refine .cons (aB.C0 (aeH (Tm L y.natAbs) (Tm K x.natAbs) (by have h:=hc2;simp [kH] at h;(repeat' split at h) <;> omega) (M:=L)) rfl rfl rfl) ?_;refine oE 2 rfl<|oC (uO rfl) rfl<|.nil<|mZ rfl<|mT<|aH ?_;exact rQ rfl (zA (by omega) ((VY _ _ _ _ hc1 (by have h:=hc2;simp [kH] at h;(repeat' split at h) <;> omega)).trans (by rw [← zvz x,← zvz y])))
theorem Ya{a b:List Lf}{K L M:Nat}{x y:Int}(ha:LY a K x)(hb:LY b L y)(hM:max K L+1≤M:=by first|decide|omega)(hK:K≤1073741824:=by first|decide|omega)(hL:L≤1073741824:=by first|decide|omega):aC Tryz.prog 116 [.agg a,.agg b] (.d (.agg (rn M (x-y)))):=by
 exact aC.le (dl (DV.g ha) (dl (DV.g hb) iP)) AV.le.rfl<|aN 9 [.cell 4 47] Tryz.func116 rfl<|cR<|mO rfl<|mO rfl<|mO rfl<|mT<|au<|cDk 4<|oE 2 rfl<|oC (O3 (fV L y) (M:=L)) rfl<|oC (X6 (fV K x) (fV L (-y)) (M:=(max K L+1))) rfl<|.nil<|mZ rfl<|mT<|aH<|rQ rfl (zA hM (by omega))
theorem oW{a b:List Lf}{K L M:Nat}{x y:Int}(ha:LY a K x)(hb:LY b L y)(hM:K+L≤M:=by first|decide|omega)(hK:K≤1073741824:=by first|decide|omega)(hL:L≤1073741824:=by first|decide|omega):aC Tryz.prog 82 [.agg a,.agg b] (.d (.agg (rn M (x*y)))):=by
 exact aC.le (dl (DV.g ha) (dl (DV.g hb) iP)) AV.le.rfl<|aN 16 [.cell 4 47] Tryz.func82 rfl<|cR<|mO rfl<|mO rfl<|mO rfl<|mT<|au<|cDk 11<|oE 4 rfl<|oC (ajn (Tm K x.natAbs) (Tm L y.natAbs) (M:=(K+L))) rfl<|oE 5 rfl<|oC (uO rfl) rfl<|.nil<|mZ rfl<|mT<|aH<|rQ rfl (zA hM ((abE _ _ _ _).trans (by rw [← zvz x,← zvz y])))
theorem X9{a:List Lf}{K:Nat}{x:Int}(ha:LY a K x):aC Tryz.prog 112 [.agg a] (dI (x9 x)):=by
 refine aC.le (dl (DV.g ha) iP) AV.le.rfl<|aN 11 [.tmp 2] Tryz.func112 rfl<|cR<|mO rfl<|mW rfl<|mT<|au<|aI<|cR<|mE 5 rfl<|mT<|aW rfl (fun hc1=>?_) (fun hc1=>?_)
 ·refine cR<|mW rfl<|mT<|aH<|bR<|tR ?_;exact rQ rfl (aG (by have h0:=vU x.natAbs;simp only [beq_iff_eq,beq_eq_false_iff_ne,ne_eq,bne_iff_ne,bne_eq_false_iff_eq,decide_eq_true_eq,decide_eq_false_iff_not] at hc1;unfold x9;(repeat' split) <;> omega))
 ·refine cR<|mE 3 rfl<|mT<|aW rfl (fun hc2=>?_) (fun hc2=>?_)
  ·refine cR<|mW rfl<|mT<|aH<|bR<|tR ?_;exact rQ rfl (aG (by have h0:=vU x.natAbs;simp only [beq_iff_eq,beq_eq_false_iff_ne,ne_eq,bne_iff_ne,bne_eq_false_iff_eq,decide_eq_true_eq,decide_eq_false_iff_not] at hc1 hc2;unfold x9;(repeat' split) <;> omega))
  ·refine aF<|bN<|tN<|cR<|mW rfl<|mT<|aH ?_;exact rQ rfl (aG (by have h0:=vU x.natAbs;simp only [beq_iff_eq,beq_eq_false_iff_ne,ne_eq,bne_iff_ne,bne_eq_false_iff_eq,decide_eq_true_eq,decide_eq_false_iff_not] at hc1 hc2;unfold x9;(repeat' split) <;> omega))
theorem Yb{a:List Lf}{K:Nat}{x:Int}(ha:LY a K x):aC Tryz.prog 85 [.agg a] (.d (.one (.v (.bool (decide (x=0)))))):=by
 exact aC.le (dl (DV.g ha) iP) AV.le.rfl<|aN 7 [.tmp 2] Tryz.func85 rfl<|cR<|mO rfl<|mW rfl<|mT<|cR<|mE 5 rfl<|mT<|aH<|rQ rfl (Aj (by have h0:=vU x.natAbs;rw [Bool.eq_iff_iff,beq_iff_eq,decide_eq_true_eq];omega))
theorem ajy{a b:List Lf}{K L:Nat}{x y:Int}(ha:LY a K x)(hb:LY b L y)(hK:K≤1000000000:=by first|decide|omega)(hL:L≤1000000000:=by first|decide|omega):aC Tryz.prog 81 [.agg a,.agg b] (dI (kH x y)):=by
 refine aC.le (dl (DV.g ha) (dl (DV.g hb) iP)) AV.le.rfl<|aN 9 [.tmp 4] Tryz.func81 rfl<|cR<|mO rfl<|mO rfl<|mW rfl<|mT<|cR<|mE 2 rfl<|mY (Ya (fV K x) (fV L y) (M:=(max K L+1))) rfl<|mY (X9 (fV (max K L+1) (x-y))) rfl<|mW rfl<|mT<|aH ?_;exact rQ rfl (aG (by simp only [x9,kH];(repeat' split) <;> omega))
theorem GV{a b:DV}(h:AV.le (.d a) (.d b)):∀ B w v,DR B w a v→DR B w b v:=fun B w v hv=>h (fun _=>none) B w v hv
theorem jI{xs ys:List DV}(h:LW xs ys):AV.le (.ji xs) (.ji ys):=fun ρ B w v ⟨cs,e,hl⟩=>⟨cs,e,h.ok hl⟩
section
variable {T:TypeId→Option TI} {s:AS} {t e:TypeId} {ti te:TI} {x ix:Operand} {k:IntKind} {z:Int} {sz n id:Nat} {el:Nat→Nat→Lf}
theorem jZ(h1:T t=some ti)(h2:ti.elem=some e)(h3:T e=some te)(h4:kD s ix=some (k,z))(h5:dH s x=some (.d (.one (.row sz n el))))(h6:Nat.beq sz te.n=true)(hz:0≤z)(hz2:z < (n:Int)):jr T s (.indexAddr t x ix)=some (.d (.one (.at sz (el z.toNat)))):=by
 have h6':=abO h6;simp only [jr,h1,h2,h3,h4,h5];rw [if_pos ⟨h6',hz,hz2⟩];rfl
theorem qG{e':TypeId}(h1:T t=some ti)(h2:ti.elem=some e)(h3:T e=some te)(h4:kD s ix=some (k,z))(h5:dH s x=some (.own id))(h7:Xw s.hp id=some (.row e' sz n el))(h6:Nat.beq sz te.n=true)(hz:0≤z)(hz2:z < (n:Int)):jr T s (.indexAddr t x ix)=some (.dW id sz z.toNat 0):=by
 have h6':=abO h6;simp only [jr,h1,h2,h3,h4,h5,h7];rw [if_pos ⟨h6',hz,hz2⟩]
theorem slR{hi:Operand}(h1:T t=some ti)(h2:ti.elem=some e)(h3:T e=some te)(h4:kD s hi=some (k,z))(h5:dH s x=some (.d (.one (.row sz n el))))(h6:Nat.beq sz te.n=true)(hz:0≤z)(hz2:z≤(n:Int)):jr T s (.slice t x none (some hi) none)=some (.d (.one (.row sz z.toNat el))):=by
 have h6':=abO h6;simp only [jr,h1,h2,h3,h5,qx,h4,if_pos hz];rw [if_pos ⟨h6',Nat.zero_le _,by omega⟩];show some (AV.d (.one (.row sz (z.toNat-0) fun i j=>el (0+i) j)))=_
 simp only [Nat.sub_zero,Nat.zero_add]
theorem mkO{l c:Operand}{zl zc:Int}{k':IntKind}{Rj nn:Nat}{zz:List Value}(h1:T t=some ti)(h2:ti.elem=some e)(h3:T e=some te)(h4:kD s l=some (k,zl))(h5:kD s c=some (k',zc))(h0:0≤zl)(h6:zl≤zc)(hb:te.bytes=Rj)(hn:te.n=nn)(hzz:te.zero=zz)(h7:(Rj:Int)*zc≤140737488355328)(h8:zc≤9223372036854775807)(h9:Nat.beq te.zero.length te.n=true):Wu T s (.makeSlice t l c)=some (.row e nn zl.toNat fun _ j=> .v ((zz[j]?).getD undef)):=by
 have h9':=abO h9;subst hb;subst hn;subst hzz;simp only [Wu,h1,h2,h3,h4,h5];rw [if_pos ⟨h0,h6,h7,h8,h9'⟩]
end
theorem dF{i:Nat}(h:i < 1000000001:=by omega):IntKind.i64.wrap ((i:Int)+1)=((i+1:Nat):Int):=(eu (by omega) (by omega)).trans (by omega)
theorem iY{e:TypeId}{sz:Nat}{el Ws:Nat→Nat→Lf}:AO.le (.row e sz 0 el) (.row e sz 0 Ws):=gB fun i hi=>absurd hi (ab2 _)
/-! ### Small numbers -/
theorem afE(m:Nat):Int.fdiv (m:Int) (2^(min (Int.toNat 32) 64))=((m / 4294967296:Nat):Int):=by
 rw [Int.fdiv_eq_ediv_of_nonneg _ (by decide)];exact (Int.natCast_ediv m 4294967296).symm
theorem aaz{m:Nat}{el:Nat→Nat→Lf}(hm:m < 18446744073709551616)(h0:el 0 0= .v (.int .u32 ((m%4294967296:Nat):Int)):=by rfl)(h1:el 1 0= .v (.int .u32 ((m / 4294967296:Nat):Int)):=by rfl):JX (.row 1 2 el) 2 m:=by
 refine (Vb (xs:= [m%4294967296,m / 4294967296]) rfl ?_ ?_).eq ?_
 ·intro x hx
  simp only [bT];rcases afr.1 hx with rfl | hx
  ·exact adl _ (by decide)
  ·rcases afr.1 hx with rfl | hx
   ·omega
   ·simp at hx
 ·intro i hi
  match i,hi with
  | 0,_=>exact h0
  | 1,_=>exact h1
 ·show m%4294967296+bT*(m / 4294967296+bT*0)=m
  simp only [bT];omega
theorem adO{el:Nat→Nat→Lf}(h0:el 0 0= .v (.int .u32 1):=by rfl):JX (.row 1 1 el) 1 1:=by
 refine (Vb (xs:= [1]) rfl ?_ ?_).eq rfl
 ·intro x hx
  simp at hx;subst hx;decide
 ·intro i hi
  have hi':i < 1:=hi;obtain rfl:i=0:=by omega
  exact h0
theorem WV(n:Int)(h:n < 0)(h1: -9223372036854775808≤n):IntKind.u64.wrap (0-IntKind.u64.wrap n)=(n.natAbs:Int):=by
 rw [jO,jO];omega
theorem WZ(n:Int)(h:¬ n < 0)(h1:n≤9223372036854775807):IntKind.u64.wrap n=(n.natAbs:Int):=by
 rw [jO];omega
theorem dm1(t:Bool)(m n:Nat)(hn:n≠0):zv (false !=t) (m / n)=zv false m / zv t n∧zv false (kT m n)=zv false m%zv t n:=by
 have h:=aiU m n;have hlt:=adl m (afR hn);refine euc ?_ ?_ ?_
 ·unfold kT;rw [if_neg hn]
  have h2:((n*(m / n)+m%n:Nat):Int)=m:=by rw [h]
  rw [Int.natCast_add,Int.natCast_mul] at h2;cases t
  ·exact h2.symm
  ·show (m:Int)= -(n:Int)* -(((m / n:Nat)):Int)+(m%n:Nat)
   rw [Int.neg_mul_neg];exact h2.symm
 ·show (0:Int)≤(kT m n:Nat);exact Int.natCast_nonneg _
 ·rw [tV];show ((kT m n:Nat):Int) < _
  unfold kT;rw [if_neg hn];omega
theorem dm2(t:Bool)(m n:Nat)(hn:n≠0)(h0:kT m n=0):zv (true !=t) (m / n)=zv true m / zv t n∧zv false (kT m n)=zv true m%zv t n:=by
 have h:=aiU m n;have h0':m%n=0:=by unfold kT at h0;rw [if_neg hn] at h0;exact h0
 rw [h0];refine euc ?_ (by decide) (by rw [tV];show (0:Int) < _;omega);have h2:((n*(m / n)+m%n:Nat):Int)=m:=by rw [h]
 rw [h0',Nat.add_zero,Int.natCast_mul] at h2;cases t
 ·show -(m:Int)=(n:Int)* -(((m / n:Nat)):Int)+(0:Nat)
  rw [Int.mul_neg,h2];simp
 ·show -(m:Int)= -(n:Int)*(((m / n:Nat)):Int)+(0:Nat)
  rw [Int.neg_mul,h2];simp
theorem dm3(t:Bool)(m n:Nat)(hn:n≠0)(h0:0 < kT m n):zv (true !=t) (m / n+1)=zv true m / zv t n∧zv false (n-kT m n)=zv true m%zv t n:=by
 have h:=aiU m n;have hlt:=adl m (afR hn);have e:kT m n=m%n:=by unfold kT;rw [if_neg hn]
 rw [e] at h0 ⊢;refine euc ?_ ?_ ?_
 ·have h2:((n*(m / n)+m%n:Nat):Int)=m:=by rw [h]
  rw [Int.natCast_add,Int.natCast_mul] at h2;have h3:((n-m%n:Nat):Int)=(n:Int)-(m%n:Nat):=by omega
  generalize m / n=q at h2 ⊢;generalize m%n=r at h2 h3 ⊢;cases t
  ·show -(m:Int)=(n:Int)* -((((q+1):Nat)):Int)+((n-r:Nat):Int)
   rw [h3,Int.natCast_add,Int.mul_neg,Int.mul_add];simp;omega
  ·show -(m:Int)= -(n:Int)*((((q+1):Nat)):Int)+((n-r:Nat):Int)
   rw [h3,Int.natCast_add,Int.neg_mul,Int.mul_add];simp;omega
 ·show (0:Int)≤((n-m%n:Nat):Int);exact Int.natCast_nonneg _
 ·rw [tV];show ((n-m%n:Nat):Int) < _
  omega
/-- The greatest common divisor of the first n. -/
def bF(c:Nat→Int):Nat→Nat
 | 0=>0
 | n+1=>Nat.gcd (bF c n) (c n).natAbs
theorem Zd{c:Nat→Int}{k n:Nat}(h:bF c k=1)(hk:k≤n):bF c n=1:=by
 obtain ⟨d,rfl⟩:=aiQ hk;clear hk
 induction d with
 | zero=>exact h
 | succ d ih=>show Nat.gcd (bF c (k+d)) _=1;rw [ih,Nat.gcd_one_left]
theorem ahD{m:Nat}:(dA m).length=1∧(dA m).getD 0 0=1↔m=1:=by
 constructor
 ·rintro ⟨h1,h2⟩
  have h3:=aac m
  match h:dA m,h1 with
  | [x],_=>
   rw [h] at h2 h3;simp at h2;subst h2;rw [← h3];rfl
 ·rintro rfl;exact ⟨rfl,rfl⟩
/-! ### A region that draws, order by order -/
section
variable {P:Program} {ops:Array Oper} {Q:Qs} {s:AS}
def XD(p:Nat→Prop):List Nat→Prop
 | []=>True
 | i ::l=>p i∧XD p l
theorem XD.get{p:Nat→Prop}:∀ {l:List Nat},XD p l→∀ i∈l,p i
 | i ::l,h,k,hk=>by
  rcases afr.1 hk with rfl | hk
  ·exact h.1
  ·exact XD.get h.2 k hk
def yH(P:Program)(ops:Array Oper)(Q:Qs):Nat→Array Bool→AS→Prop
 | 0,listed,s=>Region.ready .any ops listed= []∧Q .normal s
 | n+1,listed,s=>(Region.ready .any ops listed= []→Q .normal s)∧∀ i∈Region.ready .any ops listed,∃ o,ops[i]?=some o∧AL P ops (XA (yH P ops Q n (listed.setIfInBounds i true)) Q) [o] s
theorem o8{n:Nat}{listed:Array Bool}(rs:List Nat)(hr:Region.ready .any ops listed=rs)(hne:rs.isEmpty=false)(h:XD (fun i=>∃ o,ops[i]?=some o∧AL P ops (XA (yH P ops Q n (listed.setIfInBounds i true)) Q) [o] s) rs):yH P ops Q (n+1) listed s:=
 ⟨fun e=>absurd (hr.symm.trans e) (fun e2=>by subst e2;exact Bool.noConfusion hne),hr▸h.get⟩
theorem ajJ{n:Nat}{listed:Array Bool}(hr:Region.ready .any ops listed= [])(h:Q .normal s):yH P ops Q n listed s:=by
 cases n with
 | zero=>exact ⟨hr,h⟩
 | succ n=>exact ⟨fun _=>h,by rw [hr];intro i hi;simp at hi⟩
theorem KJ{B0:BS}{w0:Wz}:∀ (n:Nat) (listed:Array Bool) (s:AS) (a:Act) (w:World),yH P ops Q n listed s→Kv s B0 w0 a w→wpAny P .any ops (DQ Q B0 w0) n listed a w
 | 0,listed,s,a,w,h,hd=>⟨h.1,s,h.2,hd⟩
 | n+1,listed,s,a,w,h,hd=>by
  refine ⟨fun e=>⟨s,h.1 e,hd⟩,fun i hi=>?_⟩;obtain ⟨o,ho,hal⟩:=h.2 i hi;have h1:=hal B0 w0 a w hd;unfold wpOp;rw [ho];simp only [wpList] at h1 ⊢;have hk:∀ a w,DQ (XA (yH P ops Q n (listed.setIfInBounds i true)) Q) B0 w0 .normal a w→wpAny P .any ops (DQ Q B0 w0) n (listed.setIfInBounds i true) a w:=fun a w ⟨s',h3,h4⟩=>KJ n _ s' a w h3 h4
  split
  ·rename_i hw
   rw [if_pos hw] at h1;rcases h1 with h1 | ⟨h1,h2⟩
   ·refine Or.inl ?_
    have h3:=Oper.wp_mono hk h1;unfold Oper.wp at h3 ⊢;generalize (execOp a.eval o).run P w=r at h3 ⊢;cases r <;> first | exact h3 | (rename_i x w';cases x <;> exact h3)
   ·exact Or.inr ⟨h1,h2⟩
  ·rename_i hw
   rw [if_neg hw] at h1;exact hk _ _ h1
end
theorem aeP{a:List Lf}{K:Nat}{z:Int}(ha:IsN a K z):aC Tryz.prog 128 [.agg a] (.d (.one (.v (.bool (decide (z=0)))))):=by
 exact aC.le (dl (DV.g ha) iP) AV.le.rfl<|aN 7 [.tmp 2] Tryz.func128 rfl<|cR<|mO rfl<|mW rfl<|mT<|cR<|mE 5 rfl<|mT<|aH<|rQ rfl (Aj (by have h0:=Ak z.natAbs;rw [Bool.eq_iff_iff,beq_iff_eq,decide_eq_true_eq];omega))
theorem aOf{n:Int}(h1: -9223372036854775808≤n:=by first|decide|omega)(h2:n≤9223372036854775807:=by first|decide|omega):aC Tryz.prog 129 [.one (vI n)] (.d (.agg (zn 2 n))):=by
 refine aN 20 [.cell 2 36] Tryz.func129 rfl<|cR<|mO rfl<|mT<|cR<|mE 3 rfl<|mT<|au<|cR<|mE 2 rfl<|mT<|aW rfl (fun hc1=>?_) (fun hc1=>?_)
 ·exact aA<|mW rfl<|mV aj (.d (.one (.v (.int .u64 (n.natAbs:Int))))) (fM (WV n (abM hc1) h1))<|mW rfl<|mT<|cR<|mW rfl<|mV aj (.d (.one (.v (.int .u32 ((n.natAbs%4294967296:Nat):Int))))) (fM (by rw [zQ];omega))<|mW rfl<|mV aj (.d (.one (.v (.int .u64 ((n.natAbs / 4294967296:Nat):Int))))) (fM (afE _))<|mV aj (.d (.one (.v (.int .u32 ((n.natAbs / 4294967296:Nat):Int))))) (fM (by rw [zQ];omega))<|mB aj (.d (.one (.row 1 2 (fun i' j'=>(([.v (.int .u32 ((n.natAbs%4294967296:Nat):Int)),.v (.int .u32 ((n.natAbs / 4294967296:Nat):Int))])[i'*1+j']?).getD (.v undef))))) rfl<|mY (Bj (aaz (m:=n.natAbs) (by omega))) rfl<|mE 2 rfl<|mY (qP rfl) rfl<|mZ rfl<|mT<|aH<|rQ rfl (jQ (abJ _) (lZ n))
 ·exact aF<|tN<|au<|iV 3 (.d (.one (.v (.int .u64 (n.natAbs:Int))))) rfl (aG (WZ n (abL hc1) h2))<|aA<|mW rfl<|mV aj (.d (.one (.v (.int .u32 ((n.natAbs%4294967296:Nat):Int))))) (fM (by rw [zQ];omega))<|mW rfl<|mV aj (.d (.one (.v (.int .u64 ((n.natAbs / 4294967296:Nat):Int))))) (fM (afE _))<|mV aj (.d (.one (.v (.int .u32 ((n.natAbs / 4294967296:Nat):Int))))) (fM (by rw [zQ];omega))<|mB aj (.d (.one (.row 1 2 (fun i' j'=>(([.v (.int .u32 ((n.natAbs%4294967296:Nat):Int)),.v (.int .u32 ((n.natAbs / 4294967296:Nat):Int))])[i'*1+j']?).getD (.v undef))))) rfl<|mY (Bj (aaz (m:=n.natAbs) (by omega))) rfl<|mE 2 rfl<|mY (qP rfl) rfl<|mZ rfl<|mT<|aH<|rQ rfl (jQ (abJ _) (lZ n))
theorem ab4{a b:List Lf}{K L M:Nat}{x y:Int}(ha:Gg a K x)(hb:Gg b L y)(hy:y≠0)(hM:max K 1+1≤M:=by first|decide|omega)(hK:K≤1073741823:=by first|decide|omega)(hL:L≤1073741823:=by first|decide|omega):aC Tryz.prog 167 [.agg a,.agg b] (.ji [.agg (zn M (x / y)),.agg (zn L (x%y)),.one (vI 0)]):=by
 obtain ⟨s,xs,ha,rfl⟩:=ha;obtain ⟨t,ys,hb,rfl⟩:=hb;refine aC.le (dl (DV.z ha) (dl (DV.z hb) iP)) AV.le.rfl ?_;have hn:val ys≠0:=fun e=>hy (by rw [e];cases t <;> rfl)
 cases s
 ·refine aN 60 [.cell 4 36,.cell 5 36,.tmp 6] Tryz.func167 rfl<|cR<|mO rfl<|mO rfl<|mO rfl<|mO rfl<|mW rfl<|mT<|cR<|mE 4 rfl<|mY (XR (ug K xs) (ug L ys)) rfl<|mE 7 rfl<|mT<|au<|cR<|mW rfl<|mbF rfl (by rw [show EN (val ys)=0 from if_neg hn];rfl)<|mT<|cFs rfl<|cR<|mE 6 rfl<|mY (qP rfl) rfl<|mW rfl<|mY (qP rfl) rfl<|mZ rfl<|mZ rfl<|mT<|au<|cR<|mE 3 rfl<|mG rfl rfl<|mG rfl rfl<|mG rfl rfl<|mW rfl<|mT<|cFs rfl<|au<|cDs 5<|pV rfl<|pV rfl<|.cons (aB.S 4 (.box 36 (zn K (zv (!(false==t)) ((val xs) / (val ys))))) rfl rfl) (by kernel_rfl)<|.cons (aB.S 5 (.box 36 (zn L (zv false (kT (val xs) (val ys))))) rfl rfl) (by kernel_rfl)<|.cons (aB.V _ rfl) (by kernel_rfl)<|.nil<|mT<|aH ?_;obtain ⟨e1,e2⟩:=dm1 t (val xs) (val ys) hn;exact rQ rfl (jI (dl (GV (jQ (by omega) e1)) (dl (GV (jQ (abJ _) e2)) (dl DV.same iP))))
 ·refine aN 60 [.cell 4 36,.cell 5 36,.tmp 6] Tryz.func167 rfl<|cR<|mO rfl<|mO rfl<|mO rfl<|mO rfl<|mW rfl<|mT<|cR<|mE 4 rfl<|mY (XR (ug K xs) (ug L ys)) rfl<|mE 7 rfl<|mT<|au<|cR<|mW rfl<|mbF rfl (by rw [show EN (val ys)=0 from if_neg hn];rfl)<|mT<|cFs rfl<|cR<|mE 6 rfl<|mY (qP rfl) rfl<|mW rfl<|mY (qP rfl) rfl<|mZ rfl<|mZ rfl<|mT<|au<|cR<|mE 7 rfl<|mT<|aW rfl (fun hc1=>?_) (fun hc1=>?_)
  ·refine cR<|mW rfl<|mB aj (.d (.one (.row 1 1 (fun i' j'=>(([.v (.int .u32 1)])[i'*1+j']?).getD (.v undef))))) rfl<|mY (aeD (ZM K ((val xs) / (val ys))) adO (M:=(max K 1+1))) rfl<|mW rfl<|mT<|cR<|mE 3 rfl<|mY (XT (ug L ys) (ZM L (kT (val xs) (val ys)))) rfl<|mE 4 rfl<|mT<|aA<|mE 6 rfl<|mY (qP rfl) rfl<|mW rfl<|mY (qP rfl) rfl<|mZ rfl<|mZ rfl<|mT<|au<|cDs 5<|pV rfl<|pV rfl<|.cons (aB.S 4 (.box 36 (zn (max K 1+1) (zv (!(true==t)) (((val xs) / (val ys))+1)))) rfl rfl) (by kernel_rfl)<|.cons (aB.S 5 (.box 36 (zn L (zv false ((val ys)-(kT (val xs) (val ys)))))) rfl rfl) (by kernel_rfl)<|.cons (aB.V _ rfl) (by kernel_rfl)<|.nil<|mT<|aH ?_;obtain ⟨e1,e2⟩:=dm3 t (val xs) (val ys) hn (afR fun e=>by have h0:=abM hc1;rw [e] at h0;exact absurd h0 (by decide));exact rQ rfl (jI (dl (GV (jQ (by omega) e1)) (dl (GV (jQ (abJ _) e2)) (dl DV.same iP))))
  ·refine aF<|tN<|au<|cDs 5<|pV rfl<|pV rfl<|.cons (aB.S 4 (.box 36 (zn K (zv (!(true==t)) ((val xs) / (val ys))))) rfl rfl) (by kernel_rfl)<|.cons (aB.S 5 (.box 36 (zn L (zv false (kT (val xs) (val ys))))) rfl rfl) (by kernel_rfl)<|.cons (aB.V _ rfl) (by kernel_rfl)<|.nil<|mT<|aH ?_;obtain ⟨e1,e2⟩:=dm2 t (val xs) (val ys) hn (by have h0:=abL hc1;have h1:=Ak (kT (val xs) (val ys));omega);exact rQ rfl (jI (dl (GV (jQ (by omega) e1)) (dl (GV (jQ (abJ _) e2)) (dl DV.same iP))))
theorem H9{a b:List Lf}{K L M:Nat}{x y:Int}(ha:Gg a K x)(hb:Gg b L y)(hy:y≠0)(hd:y∣x)(hM:max K 1+1≤M:=by first|decide|omega)(hK:K≤1073741823:=by first|decide|omega)(hL:L≤1073741823:=by first|decide|omega):aC Tryz.prog 153 [.agg a,.agg b] (.ji [.agg (zn M (x / y)),.one (vI 0)]):=by
 obtain ⟨sa,xa,ha,ea⟩:=ha;obtain ⟨sb,xb,hb,eb⟩:=hb;exact aC.le (dl (DV.z ha) (dl (DV.z hb) iP)) AV.le.rfl<|aN 26 [.cell 4 36,.tmp 5] Tryz.func153 rfl<|cR<|mO rfl<|mO rfl<|mO rfl<|mW rfl<|mT<|cR<|mE 2 rfl<|mY (ab4 ⟨sa,xa,fun _ _ _ h=>h,ea⟩ ⟨sb,xb,fun _ _ _ h=>h,eb⟩ hy (M:=(max K 1+1)) (by omega) (by omega) (by omega)) rfl<|mE 4 rfl<|mO rfl<|mO rfl<|mZ rfl<|mZ rfl<|mW rfl<|mT<|au<|cR<|mE 2 rfl<|mT<|cFs rfl<|au<|cR<|mE 3 rfl<|mdF rfl (by rw [Int.emod_eq_zero_of_dvd hd];decide)<|mT<|cFs rfl<|cR<|mW rfl<|mZ rfl<|mW rfl<|mT<|aH<|rQ rfl (jI (dl (GV (jQ hM rfl)) (dl DV.same iP)))
theorem ajd{l:Lf}{K n:Nat}{c:Nat→Int}(ha:qI l K n c)(hn:n≤1000000:=by first|decide|omega)(hK:K≤1073741823:=by first|decide|omega):aC Tryz.prog 151 [.one l] (.d (.agg (zn K (bF c n:Nat)))):=by
 obtain ⟨⟨f,ha,hf⟩,hz⟩:=ha;refine aC.le (dl (DV.l ha) iP) AV.le.rfl<|aN 44 [.cell 2 36] Tryz.func151 rfl<|cR<|mO rfl<|mT<|cR<|mW rfl<|mT<|au<|au<|iV 3 (.d (.one (ln K (bF c 0)))) rfl (TF K)<|aA<|mE 3 rfl<|mT<|aI<|dU (ι:=Nat) (fun (i:Nat)=>⟨44,[(2,.ptr 2 0),(10,.d (.one (.row 2 n (qw K f)))),(11,dI (n:Int)),(12,dI (i:Int)),(3,.d (.one (ln K (bF c i))))],[(2,.box 36 ([.v (.bool false),.v (.slice none 0 0)]))]⟩) (fun (i:Nat)=>i≤n) (fun (i:Nat)=>n-i) 0 (abR _) (wkr rfl rfl) ?_;rintro i hI;have hi0:i≤n:=hI;show AW _ _ _ ⟨_,_,_⟩
 refine cR<|mW rfl<|mT<|au<|aW rfl (fun hc1=>?_) (fun hc1=>?_)
 ·refine aF<|tN<|au<|aI<|au ?_;have hi:i < n:=by have h0:=abM hc1;omega
  refine aA<|mV aj (.d (.one (.at 2 ((qw K f) i)))) (jZ (el:=(qw K f)) (z:=(i:Int)) (n:=n) rfl rfl rfl rfl rfl rfl (by omega) (by omega)) ?_;refine mW rfl<|mO rfl<|mZ rfl<|mT<|cR<|mE 2 rfl<|mY (Bj (ug K ((f i).2))) rfl<|mW rfl<|mT<|au<|aI<|dU (ι:=Nat×Nat) (fun (p:Nat×Nat)=>match p with | (x,y)=>⟨44,[(2,.ptr 2 0),(10,.d (.one (.row 2 n (qw K f)))),(11,dI (n:Int)),(12,dI (i:Int)),(3,.d (.one (ln K x))),(6,.d (.one (ln K y)))],[(2,.box 36 ([.v (.bool false),.v (.slice none 0 0)]))]⟩) (fun (p:Nat×Nat)=>match p with | (x,y)=>Nat.gcd x y=bF c (i+1)) (fun (p:Nat×Nat)=>match p with | (x,y)=>y) ((bF c i),(val (f i).2)) (by show Nat.gcd (bF c i) (val (f i).2)=Nat.gcd (bF c i) (c i).natAbs;rw [← hf i hi,show (Zc f i).natAbs=val (f i).2 from tV _ _]) (wkr rfl rfl) ?_;rintro ⟨x,y⟩ hI;have hg:Nat.gcd x y=bF c (i+1):=hI;show AW _ _ _ ⟨_,_,_⟩
  refine au<|cR<|mE 3 rfl<|mT<|aW rfl (fun hc2=>?_) (fun hc2=>?_)
  ·refine aF<|tN<|aI<|au ?_;have hy0:y≠0:=fun e=>by have h0:=abM hc2;rw [e] at h0;exact absurd h0 (by decide)
   exact aA<|mE 2 rfl<|mY (XR (ZM K x) (ZM K y)) rfl<|mE 7 rfl<|mT<|aA<|mE 4 rfl<|ak<|bN<|⟨(y,(kT x y)),by show Nat.gcd y (kT x y)=_;unfold kT;rw [if_neg hy0,← hg,Nat.gcd_comm x y,Nat.gcd_rec y x,Nat.gcd_comm],by show kT x y < y;unfold kT;rw [if_neg hy0];exact adl _ (afR hy0),wkr rfl rfl⟩
  ·refine dP<|tE<|tE<|bE<|tN<|au ?_;have hy0:y=0:=by have h0:=abL hc2;have h1:=Ak y;omega
   have hx:x=bF c (i+1):=by rw [← hg,hy0,Nat.gcd_zero_right]
   by_cases hl1:(dA x).length=1
   ·refine aA<|mE 2 rfl<|mbT rfl (by rw [hl1];rfl)<|mE 2 rfl<|lD 35 (.d (.one (.row 1 ((dA x).length) (fun i _=> .v (.int .u32 (((dA x).getD i 0:Nat):Int)))))) rfl (adq _ _)<|mV aj (.d (.one (.at 1 ((fun i _=> .v (.int .u32 (((dA x).getD i 0:Nat):Int))) 0)))) (jZ (el:=(fun i _=> .v (.int .u32 (((dA x).getD i 0:Nat):Int)))) (z:=0) (n:=((dA x).length)) rfl rfl rfl rfl rfl rfl (by decide) (by rw [hl1];decide)) ?_;refine mE 3 rfl<|mT<|aW rfl (fun hc3=>?_) (fun hc3=>?_)
    ·refine dP<|bX rfl<|tE<|tE<|bE<|tN<|cR<|mW rfl<|mY (Bj (ZM K x)) rfl<|mY (qP rfl) rfl<|mZ rfl<|mT<|aH ?_;have h1:x=1:=ahD.1 ⟨hl1,by have h0:=eq_of_beq hc3;exact Int.ofNat_inj.1 h0⟩;exact rQ rfl (jQ (abJ _) (by show (x:Int)=_;rw [h1,Zd (hx▸h1) (show i+1≤n from hi)]))
    ·exact aF<|bN<|tN<|aA<|mE 2 rfl<|ak<|⟨(i+1),by omega,by omega,wkv [3,4] [] ⟨fQ rfl (aG (dF (by omega))),fQ rfl (gq (hx▸fun _ _ _ h=>h)),Pe⟩ trivial rfl rfl⟩
   ·exact aA<|mE 2 rfl<|mbF rfl (abX.2 fun e=>hl1 (by exact_mod_cast e))<|mW rfl<|mG rfl rfl<|mG rfl rfl<|mG rfl rfl<|mG rfl rfl<|mW rfl<|mT<|cF rfl<|aF<|bN<|tN<|aA<|mE 2 rfl<|ak<|⟨(i+1),by omega,by omega,wkv [3,4] [] ⟨fQ rfl (aG (dF (by omega))),fQ rfl (gq (hx▸fun _ _ _ h=>h)),Pe⟩ trivial rfl rfl⟩
 ·refine dP<|tE<|tE<|bE<|tN<|cR<|mW rfl<|mY (Bj (ZM K (bF c i))) rfl<|mY (qP rfl) rfl<|mZ rfl<|mT<|aH ?_;have hin:i=n:=by have h0:=abL hc1;omega
  exact rQ rfl (jQ (abJ _) (by rw [hin];rfl))
/-- Made: all are 0. -/
theorem wJ{e:TypeId}{n K:Nat}{c:Nat→Int}(h:∀ i,i < n→c i=0):AO.le (.row e 2 n fun _ j=> .v ((([Value.bool false,Value.slice none 0 0]:List Value)[j]?).getD undef)) (.row e 2 n (cO K c)):=by
 refine gB fun i hi j hj B w v hv=>?_
 unfold cO;rw [h i hi]
 match j,hj with
 | 0,_=>exact hv
 | 1,_=>exact TF K (fun _=>none) B w v hv
theorem Yq{K L:Nat}{z y:Int}(hK:K≤L)(e:z=y):∀ q,q < 2→∀ B w v,dY B w (((zn K z)[q]?).getD (.v undef)) v→dY B w (((zn L y)[q]?).getD (.v undef)) v:=by
 subst e;intro q hq B w v hv
 match q,hq with
 | 0,_=>exact hv
 | 1,_=>exact oM hK _ _ _ hv
theorem EI{K L:Nat}{z y:Rat}(hK:K≤L)(e:z=y):∀ q,q < 4→∀ B w v,dY B w (((qn K z)[q]?).getD (.v undef)) v→dY B w (((qn L y)[q]?).getD (.v undef)) v:=by
 subst e;intro q hq B w v hv
 match q,hq with
 | 0,_=>exact lS hK _ _ _ hv
 | 1,_=>exact hv
 | 2,_=>exact lS hK _ _ _ hv
 | 3,_=>exact hv
/-- One element is written. -/
theorem Xh{e:TypeId}{n i K L M:Nat}{c d:Nat→Int}{z:Int}(hK:K≤L)(hM:M≤L)(hz:z=d i)(h:∀ p,p < n→p≠i→c p=d p):AO.le (.row e 2 n fun p q=>if p=i then ((zn M z)[q]?).getD (.v undef) else cO K c p q) (.row e 2 n (cO L d)):=by
 refine gB fun p hp q hq B w v hv=>?_
 by_cases hpi:p=i
 ·subst hpi
  rw [if_pos rfl] at hv;exact Yq hM hz q hq _ _ _ hv
 ·rw [if_neg hpi] at hv
  unfold cO;exact Yq hK (h p hp hpi) q hq _ _ _ hv
/-- Rationals, each of a bound of its own. -/
def Oh(Kf:Nat→Nat)(c:Nat→Rat):Nat→Nat→Lf:=fun i j=>((qn (Kf i) (c i))[j]?).getD (.v undef)
theorem alP{e:TypeId}{n i M:Nat}{Kf Lf':Nat→Nat}{c d:Nat→Rat}{z:Rat}(hK:∀ p,p < n→p≠i→Kf p≤Lf' p)(hM:M≤Lf' i)(hz:z=d i)(h:∀ p,p < n→p≠i→c p=d p):AO.le (.row e 4 n fun p q=>if p=i then ((qn M z)[q]?).getD (.v undef) else Oh Kf c p q) (.row e 4 n (Oh Lf' d)):=by
 refine gB fun p hp q hq B w v hv=>?_
 by_cases hpi:p=i
 ·subst hpi
  rw [if_pos rfl] at hv;exact EI hM hz q hq _ _ _ hv
 ·rw [if_neg hpi] at hv
  exact EI (hK p hp hpi) (h p hp hpi) q hq _ _ _ hv
theorem Qh{e:TypeId}{n:Nat}{Kf Lf':Nat→Nat}{c d:Nat→Rat}(hK:∀ p,p < n→Kf p≤Lf' p)(h:∀ p,p < n→c p=d p):AO.le (.row e 4 n (Oh Kf c)) (.row e 4 n (Oh Lf' d)):=
 gB fun p hp q hq B w v hv=>EI (hK p hp) (h p hp) q hq _ _ _ hv
theorem aa1{n K:Nat}{Kf:Nat→Nat}{c d:Nat→Rat}(hK:∀ p,p < n→Kf p≤K)(h:∀ p,p < n→c p=d p):∀ B w v,dY B w (.row 4 n (Oh Kf c)) v→dY B w (dM K n d) v:=
 nN fun p hp q hq B w v hv=>EI (hK p hp) (h p hp) q hq _ _ _ hv
/-- A row whose first ones are written; the others are still as they were made. -/
def BP(K i:Nat)(c:Nat→Rat)(z:Nat→Lf):Nat→Nat→Lf:=fun p q=>if p < i then ((qn K (c p))[q]?).getD (.v undef) else z q
theorem TY{e:TypeId}{n i K M:Nat}{c:Nat→Rat}{z:Nat→Lf}{q0:Rat}(hM:M≤K)(hz:q0=c i):AO.le (.row e 4 n fun p q=>if p=i then ((qn M q0)[q]?).getD (.v undef) else BP K i c z p q) (.row e 4 n (BP K (i+1) c z)):=by
 refine gB fun p hp q hq B w v hv=>?_
 unfold BP at *
 by_cases hpi:p=i
 ·subst hpi
  rw [if_pos rfl] at hv;rw [if_pos (by omega)];exact EI hM hz q hq _ _ _ hv
 ·rw [if_neg hpi] at hv
  by_cases hlt:p < i
  ·rw [if_pos hlt] at hv;rw [if_pos (by omega)];exact hv
  ·rw [if_neg hlt] at hv;rw [if_neg (by omega)];exact hv
theorem NH{e:TypeId}{n K:Nat}{Kf:Nat→Nat}{c d:Nat→Rat}{z:Nat→Lf}(hK:∀ p,p < n→K≤Kf p)(h:∀ p,p < n→c p=d p):AO.le (.row e 4 n (BP K n c z)) (.row e 4 n (Oh Kf d)):=by
 refine gB fun p hp q hq B w v hv=>?_
 unfold BP at hv;rw [if_pos hp] at hv;exact EI (hK p hp) (h p hp) q hq _ _ _ hv
theorem I4{e:TypeId}{n K:Nat}{c:Nat→Rat}{z:Nat→Lf}:AO.le (.row e 4 n fun _ j=>z j) (.row e 4 n (BP K 0 c z)):=by
 refine gB fun p hp q hq B w v hv=>?_
 unfold BP;rw [if_neg (Nat.not_lt_zero _)];exact hv
/-- An element in any form, 0 where there is none. -/
def fx(n:Nat)(f:Nat→Bool×List Nat)(k:Nat):Bool×List Nat:=if k < n then f k else (false,[])
theorem ac2{n k:Nat}{f:Nat→Bool×List Nat}{c:Nat→Int}(hf:∀ i,i < n→Zc f i=c i)(hz:∀ i,n≤i→c i=0):zv (fx n f k).1 (val (fx n f k).2)=c k:=by
 unfold fx
 by_cases h:k < n
 ·rw [if_pos h];exact hf k h
 ·rw [if_neg h];exact (hz k (by omega)).symm
theorem UR{α:Type}[DecidableEq α][OfNat α 0]{c:Nat→α}{n k:Nat}(h:dg c n=dg c k)(hk:k≠0)(h0:c (k-1)=0):dg c n=dg c (k-1):=by
 obtain ⟨j,rfl⟩:=Nat.exists_eq_succ_of_ne_zero hk;rw [h];exact UU h0
theorem aak(n m:Nat):(if (true=true) then (if (m:Int) > (n:Int) then (m:Int) else (n:Int)) else (if (m:Int) < (n:Int) then (m:Int) else (n:Int)))=((max n m:Nat):Int):=by
 rw [if_pos rfl];split <;> omega
/-- Rows of integers. -/
def ZK(n:Nat)(c:Nat→Int):Lf:= .row 1 n fun i _=> vI (c i)
def IsI(l:Lf)(n:Nat)(c:Nat→Int):Prop:=(∀ B w v,dY B w l v→dY B w (ZK n c) v)∧∀ i,n≤i→c i=0
def FY(l:List Int):Nat→Int:=fun i=>l.getD i 0
theorem G5{l:List Int}{n:Nat}{el:Nat→Nat→Lf}(hn:l.length=n)(h:∀ i,i < n→el i 0= vI (FY l i)):IsI (.row 1 n el) n (FY l):=by
 refine ⟨nN fun i hi j hj B w v hv=>?_,fun i hi=>?_⟩
 ·obtain rfl:j=0:=by omega
  rw [h i hi] at hv;exact hv
 ·unfold FY;rw [List.getD_eq_getElem?_getD,List.getElem?_eq_none (by omega)];rfl
theorem aau{K:Nat}{c:Nat→Int}:AV.le (.d (.one (.v (.slice none 0 0)))) (.d (.one (iC K 0 c))):=by
 refine gq ?_;rintro B w v ⟨rfl,_⟩;exact ⟨none,0,rfl,abJ _,fun _=>rfl,fun i hi=>absurd hi (ab2 _)⟩
theorem aav{K:Nat}{c:Nat→Rat}:AV.le (.d (.one (.v (.slice none 0 0)))) (.d (.one (dM K 0 c))):=by
 refine gq ?_;rintro B w v ⟨rfl,_⟩;exact ⟨none,0,rfl,abJ _,fun _=>rfl,fun i hi=>absurd hi (ab2 _)⟩
theorem xJ{α:Type}[DecidableEq α][OfNat α 0]{c:Nat→α}(h:∀ i,c i=0):∀ n,dg c n=0
 | 0=>rfl
 | n+1=>by rw [UU (h n)];exact xJ h n
theorem Il{α:Type}[DecidableEq α][OfNat α 0]{c:Nat→α}{n:Nat}(hz:∀ i,n≤i→c i=0)(h:dg c n=0):∀ i,c i=0:=fun i=>nX hz i (by omega)
/-- The coefficients as rationals. -/
def rc(c:Nat→Int):Nat→Rat:=fun i=>((c i:Int):Rat)
theorem qM{c:Nat→Int}{n:Nat}(h:∀ i,n≤i→c i=0):∀ i,n≤i→rc c i=0:=fun i hi=>by unfold rc;rw [h i hi];rfl
def mJ(a b:Nat→Rat):Nat→Rat:=fun i=>a i+b i
def gG(a:Nat→Rat)(q:Rat):Nat→Rat:=fun i=>a i*q
theorem U2{a b:Nat→Rat}{n m:Nat}(h:∀ i,n≤i→a i=0)(k:∀ i,m≤i→b i=0):∀ i,max n m≤i→mJ a b i=0:=fun i hi=>by unfold mJ;rw [h i (by omega),k i (by omega)];exact Rat.add_zero 0
theorem Dw{a:Nat→Rat}{q:Rat}{n:Nat}(h:∀ i,n≤i→a i=0):∀ i,n≤i→gG a q i=0:=fun i hi=>by unfold gG;rw [h i hi];grind
def nY(a b:Nat→Int):Nat→Int:=fun i=>a i+b i
def pI(a b:Nat→Int):Nat→Int:=fun i=>a i-b i
def iE(a:Nat→Int):Nat→Int:=fun i=> -a i
def iW(a:Nat→Int)(q:Int):Nat→Int:=fun i=>a i*q
def bP(a:Nat→Int):Nat→Int:=fun i=>a (i+1)*((i+1:Nat):Int)
theorem Za{a b:Nat→Int}{n m:Nat}(h:∀ i,n≤i→a i=0)(k:∀ i,m≤i→b i=0):∀ i,max n m≤i→nY a b i=0:=fun i hi=>by unfold nY;rw [h i (by omega),k i (by omega)];rfl
theorem SX{a b:Nat→Int}{n m:Nat}(h:∀ i,n≤i→a i=0)(k:∀ i,m≤i→b i=0):∀ i,max n m≤i→pI a b i=0:=fun i hi=>by unfold pI;rw [h i (by omega),k i (by omega)];rfl
theorem agX{a:Nat→Int}{n:Nat}(h:∀ i,n≤i→a i=0):∀ i,n≤i→iE a i=0:=fun i hi=>by unfold iE;rw [h i hi];rfl
theorem pG{a:Nat→Int}{q:Int}{n:Nat}(h:∀ i,n≤i→a i=0):∀ i,n≤i→iW a q i=0:=fun i hi=>by unfold iW;rw [h i hi];simp
theorem ER{a:Nat→Int}{n:Nat}(h:∀ i,n≤i→a i=0):∀ i,n-1≤i→bP a i=0:=fun i hi=>by unfold bP;rw [h (i+1) (by omega)];simp
/-! ### The product -/
theorem EK{a b:Nat→Int}{j:Nat}:∀ {m:Nat},(∀ i,i < m→i≤j→a i*b (j-i)=0)→cv a b m j=0
 | 0,_=>rfl
 | m+1,h=>by
  show cv a b m j+_=0
  rw [EK (fun i hi=>h i (Nat.lt_succ_of_lt hi))];split
  ·rename_i h1;rw [h m (Nat.lt_succ_self _) h1];rfl
  ·rfl
theorem CZ{a b:Nat→Rat}{j:Nat}:∀ {m:Nat},(∀ i,i < m→i≤j→a i*b (j-i)=0)→cv a b m j=0
 | 0,_=>rfl
 | m+1,h=>by
  show cv a b m j+_=0
  rw [CZ (fun i hi=>h i (Nat.lt_succ_of_lt hi))];split
  ·rename_i h1;rw [h m (Nat.lt_succ_self _) h1];exact Rat.add_zero 0
  ·exact Rat.add_zero 0
theorem UJ{a b:Nat→Int}{j n:Nat}(ha:∀ i,n≤i→a i=0):∀ d,cv a b (n+d) j=cv a b n j
 | 0=>rfl
 | d+1=>by
  show cv a b (n+d) j+(if n+d≤j then a (n+d)*b (j-(n+d)) else 0)=_
  rw [UJ ha d,ha (n+d) (by omega)];split <;> simp
theorem Py{a b:Nat→Rat}{j n:Nat}(ha:∀ i,n≤i→a i=0):∀ d,cv a b (n+d) j=cv a b n j
 | 0=>rfl
 | d+1=>by
  show cv a b (n+d) j+(if n+d≤j then a (n+d)*b (j-(n+d)) else 0)=_
  rw [Py ha d,ha (n+d) (by omega)];split <;> grind
theorem UK{a b:Nat→Int}{j:Nat}:∀ d,cv a b (j+1+d) j=cv a b (j+1) j
 | 0=>rfl
 | d+1=>by
  show cv a b (j+1+d) j+(if j+1+d≤j then a (j+1+d)*b (j-(j+1+d)) else 0)=_
  rw [UK d,if_neg (by omega)];simp
theorem Pz{a b:Nat→Rat}{j:Nat}:∀ d,cv a b (j+1+d) j=cv a b (j+1) j
 | 0=>rfl
 | d+1=>by
  show cv a b (j+1+d) j+(if j+1+d≤j then a (j+1+d)*b (j-(j+1+d)) else 0)=_
  rw [Pz d,if_neg (by omega)];grind
theorem UH{a b:Nat→Int}{j n:Nat}(ha:∀ i,n≤i→a i=0):cv a b n j=aY a b j:=by
 unfold aY;rw [← UJ ha (j+1),← UK (a:=a) (b:=b) (j:=j) n,Nat.add_comm]
theorem Px{a b:Nat→Rat}{j n:Nat}(ha:∀ i,n≤i→a i=0):cv a b n j=aY a b j:=by
 unfold aY;rw [← Py ha (j+1),← Pz (a:=a) (b:=b) (j:=j) n,Nat.add_comm]
theorem nR{a b:Nat→Int}{j n m:Nat}(ha:∀ i,n≤i→a i=0)(hb:∀ i,m≤i→b i=0)(h:n+m≤j+1):aY a b j=0:=by
 refine EK fun i _ hi=>?_
 by_cases h1:n≤i
 ·rw [ha i h1];simp
 ·rw [hb (j-i) (by omega)];simp
theorem qY{a b:Nat→Rat}{j n m:Nat}(ha:∀ i,n≤i→a i=0)(hb:∀ i,m≤i→b i=0)(h:n+m≤j+1):aY a b j=0:=by
 refine CZ fun i _ hi=>?_
 by_cases h1:n≤i
 ·rw [ha i h1];grind
 ·rw [hb (j-i) (by omega)];grind
theorem gu{a b:Nat→Int}{n m:Nat}(h:∀ i,n≤i→a i=0)(k:∀ i,m≤i→b i=0):∀ i,n+m≤i→aY a b i=0:=fun i hi=>nR h k (by omega)
theorem Pq{a b:Nat→Rat}{n m:Nat}(h:∀ i,n≤i→a i=0)(k:∀ i,m≤i→b i=0):∀ i,n+m≤i→aY a b i=0:=fun i hi=>qY h k (by omega)
theorem UG{a b:Nat→Int}{j:Nat}:∀ m,cv (fun i=>((a i:Int):Rat)) (fun i=>((b i:Int):Rat)) m j=((cv a b m j:Int):Rat)
 | 0=>rfl
 | m+1=>by
  show cv _ _ m j+_=(((cv a b m j+_:Int)):Rat)
  rw [UG m,Rat.intCast_add];split
  ·rw [Rat.intCast_mul]
  ·rfl
/-- Within a round: the first k of the i-th have been added. -/
def SE(a b:Nat→Int)(i k:Nat):Nat→Int:=fun j=>cv a b i j+(if i≤j∧j < i+k then a i*b (j-i) else 0)
def Bo(a b:Nat→Rat)(i k:Nat):Nat→Rat:=fun j=>cv a b i j+(if i≤j∧j < i+k then a i*b (j-i) else 0)
theorem YO{a b:Nat→Int}{i j:Nat}:SE a b i 0 j=cv a b i j:=by unfold SE;rw [if_neg (by omega)];simp
theorem Wj{a b:Nat→Rat}{i j:Nat}:Bo a b i 0 j=cv a b i j:=by unfold Bo;rw [if_neg (by omega)];grind
theorem acP{a b:Nat→Int}{i j m:Nat}(hb:∀ k,m≤k→b k=0):SE a b i m j=cv a b (i+1) j:=by
 show _=cv a b i j+_
 unfold SE
 by_cases h:i≤j
 ·by_cases h2:j < i+m
  ·rw [if_pos ⟨h,h2⟩,if_pos h]
  ·rw [if_neg (by omega),if_pos h,hb (j-i) (by omega)];simp
 ·rw [if_neg (by omega),if_neg h]
theorem YM{a b:Nat→Rat}{i j m:Nat}(hb:∀ k,m≤k→b k=0):Bo a b i m j=cv a b (i+1) j:=by
 show _=cv a b i j+_
 unfold Bo
 by_cases h:i≤j
 ·by_cases h2:j < i+m
  ·rw [if_pos ⟨h,h2⟩,if_pos h]
  ·rw [if_neg (by omega),if_pos h,hb (j-i) (by omega)];grind
 ·rw [if_neg (by omega),if_neg h]
theorem YN{a b:Nat→Int}{i k:Nat}:SE a b i k (i+k)+a i*b k=SE a b i (k+1) (i+k):=by
 unfold SE;rw [if_neg (by omega),if_pos (by omega),Nat.add_sub_cancel_left];simp
theorem Wi{a b:Nat→Rat}{i k:Nat}:Bo a b i k (i+k)+a i*b k=Bo a b i (k+1) (i+k):=by
 unfold Bo;rw [if_neg (by omega),if_pos (by omega),Nat.add_sub_cancel_left];grind
theorem Wl{a b:Nat→Int}{i k j:Nat}(h:j≠i+k):SE a b i k j=SE a b i (k+1) j:=by
 unfold SE
 by_cases h1:i≤j∧j < i+k
 ·rw [if_pos h1,if_pos (by omega)]
 ·rw [if_neg h1,if_neg (by omega)]
theorem SG{a b:Nat→Rat}{i k j:Nat}(h:j≠i+k):Bo a b i k j=Bo a b i (k+1) j:=by
 unfold Bo
 by_cases h1:i≤j∧j < i+k
 ·rw [if_pos h1,if_pos (by omega)]
 ·rw [if_neg h1,if_neg (by omega)]
theorem xH{a b:Nat→Int}(h:∀ i,a i=0)(j:Nat):aY a b j=0:=EK fun i _ _=>by rw [h i];simp
theorem acL{a b:Nat→Int}(h:∀ i,b i=0)(j:Nat):aY a b j=0:=EK fun i _ _=>by rw [h];simp
theorem YC{a b:Nat→Rat}(h:∀ i,a i=0)(j:Nat):aY a b j=0:=CZ fun i _ _=>by rw [h i];grind
theorem YD{a b:Nat→Rat}(h:∀ i,b i=0)(j:Nat):aY a b j=0:=CZ fun i _ _=>by rw [h];grind
theorem Fe{K n:Nat}{c:Nat→Int}(h:n=0):AV.le (.d (.one (.v (.slice none 0 0)))) (.d (.one (iC K n c))):=by subst h;exact aau
theorem Fg{K n:Nat}{c:Nat→Rat}(h:n=0):AV.le (.d (.one (.v (.slice none 0 0)))) (.d (.one (dM K n c))):=by subst h;exact aav
/-- The bounds of a product's elements, within a round. -/
def kf(R:Nat→Nat)(i k p:Nat):Nat:=if i≤p∧p < i+k then R (i+1) else R i
theorem alp{R:Nat→Nat}{i k:Nat}:kf R i k (i+k)=R i:=if_neg (by omega)
theorem ahv{R:Nat→Nat}{i k:Nat}:kf R i (k+1) (i+k)=R (i+1):=if_pos (by omega)
theorem alq{R:Nat→Nat}{i k p:Nat}(h:R i≤R (i+1)):kf R i k p≤kf R i (k+1) p:=by
 unfold kf
 by_cases h1:i≤p∧p < i+k
 ·rw [if_pos h1,if_pos (by omega)];exact abJ _
 ·rw [if_neg h1];split
  ·exact h
  ·exact abJ _
theorem ahu{R:Nat→Nat}{i k p:Nat}(h:R i≤R (i+1)):kf R i k p≤R (i+1):=by
 unfold kf;split
 ·exact abJ _
 ·exact h
theorem ZP{R:Nat→Nat}{i p:Nat}:R i≤kf R i 0 p:=by unfold kf;rw [if_neg (by omega)];exact abJ _
theorem alr{l:List Int}:∀ i,l.length≤i→FY l i=0:=fun i hi=>by unfold FY;rw [List.getD_eq_getElem?_getD,List.getElem?_eq_none hi];rfl
/-- Moved: step by step from the top. -/
def wW(x y:Int):Nat→Int:=fun i=>if i=0 then x else if i=1 then y else 0
def iM(z:Int):Nat→Int:=fun i=>if i=0 then z else 0
theorem Z9{x y:Int}:∀ i,2≤i→wW x y i=0:=fun i hi=>by unfold wW;rw [if_neg (by omega),if_neg (by omega)]
theorem xX{z:Int}:∀ i,1≤i→iM z i=0:=fun i hi=>if_neg (by omega)
def del(xs:List Nat):Nat→Nat→Lf:=fun i _=> vI ((xs.getD i 0:Nat):Int)
theorem xK{N:Nat}(h:N≤9223372036854775808):(aT N).length≤5:=rX (aeV h (by decide))
theorem KU{ds:List Nat}{R N:Nat}(hR:0 < R)(h:ds ++aT R=aT N):(ds ++ [R%B4]) ++aT (R / B4)=aT N:=by
 rw [← h,EL (show R≠0 by omega),List.append_assoc];rfl
theorem PE{ds:List Nat}{R N:Nat}(hR:¬ 0 < R)(h:ds ++aT R=aT N):ds=aT N:=by
 obtain rfl:R=0:=by omega
 rw [← h,show aT 0= [] from rfl,List.append_nil]
theorem UM{e:TypeId}{ds:List Nat}{x m:Nat}{el2:Nat→Nat→Lf}(hm:m=ds.length+1)(h0:el2 0 0= vI (x:Int):=by rfl):AO.le (.row e 1 (ds.length+1) (eU ds.length (del ds) el2)) (.row e 1 m (del (ds ++ [x]))):=by
 refine Si hm (fun i hi j hj B w v hv=>?_) (fun j hj B w v hv=>?_)
 ·unfold del at *;rw [List.getD_eq_getElem?_getD,List.getElem?_append_left hi,← List.getD_eq_getElem?_getD];exact hv
 ·obtain rfl:j=0:=by omega
  rw [h0] at hv;unfold del;rw [List.getD_eq_getElem?_getD,List.getElem?_append_right (Nat.le_refl _),Nat.sub_self];exact hv
/-- Cells one by one are a digit row. -/
theorem U9{n K N:Nat}{xs:List Nat}(hn:xs.length=n)(hx:xs=aT N)(hK:n≤K):VZ (.row 1 n (del xs)) K N:=by
 rintro B w c ⟨a,cap,rfl,h1,h2,h3⟩;subst hn;unfold dn;rw [← hx];refine YZ ⟨rfl,h1,h2,by rw [hx];exact vT N,?_⟩ hK (fun x hx' hne hb=>?_)
 ·rcases aev xs.length with h0 | h0
  ·have:xs= []:=adb h0
   rw [this];exact Or.inl rfl
  ·obtain ⟨b,off,rfl,_,_,_⟩:=h3 0 h0
   refine Or.inr ⟨b,off,rfl,fun j hj=>?_⟩;have hj':j < xs.length:=by simpa [eP] using hj
   obtain ⟨b',off',he',_,_,h4⟩:=h3 j hj';cases he'
   obtain ⟨x,hx1,hx2⟩:=h4 0 (by omega);obtain ⟨rfl,_⟩:=hx2;rw [Nat.mul_one,Nat.add_zero] at hx1;rw [hx1,wG];simp [hj']
 ·obtain ⟨b,off,he',hb',_,_⟩:=h3 0 (List.length_pos_iff.2 hne)
  rw [he'] at hx';cases hx'
  exact hb' hb
theorem KR{m:Nat}:(aT m).length=1∧(aT m).getD 0 0=1↔m=1:=by
 constructor
 ·rintro ⟨h1,h2⟩
  have h3:=dS m
  match h:aT m,h1 with
  | [x],_=>
   rw [h] at h2 h3;simp at h2;subst h2;rw [← h3];rfl
 ·rintro rfl;rw [EL (by decide)];exact ⟨rfl,rfl⟩
theorem aik{x y:Int}(hd:y∣x):zv (decide (x < 0) !=decide (y < 0)) (x.natAbs / y.natAbs)=x / y:=by
 obtain ⟨q,rfl⟩:=hd;rcases afQ y 0 with hy | rfl | hy
 ·rw [Int.natAbs_mul,Nat.mul_div_cancel_left _ (by omega),Int.mul_ediv_cancel_left _ (by omega)]
  rcases afQ q 0 with hq | rfl | hq
  ·have:=Int.mul_pos_of_neg_of_neg hy hq
   simp [zv,hy,show ¬ y*q < 0 from by omega];omega
  ·simp [zv]
  ·have:=Int.mul_neg_of_neg_of_pos hy hq
   simp [zv,hy,this];omega
 ·simp [zv]
 ·rw [Int.natAbs_mul,Nat.mul_div_cancel_left _ (by omega),Int.mul_ediv_cancel_left _ (by omega)]
  rcases afQ q 0 with hq | rfl | hq
  ·have:=Int.mul_neg_of_pos_of_neg hy hq
   simp [zv,show ¬ y < 0 from by omega,this];omega
  ·simp [zv]
  ·have:=Int.mul_pos hy hq
   simp [zv,show ¬ y < 0 from by omega,show ¬ y*q < 0 from by omega];omega
/-- A rational of the program, in any form; normal. -/
def Gf(ls:List Lf)(K:Nat)(n d:Int):Prop:=∃ s xs t ys,(∀ B w cs,ig B w ls cs→ig B w ([.v (.bool s),lr K xs] ++ [.v (.bool t),lr K ys]) cs)∧zv s (val xs)=n∧zv t (val ys)=d
def tn(K:Nat)(q:Rat):List Lf:=zn K q.num ++zn K (q.den:Int)
def vP(x y:Rat):Int:=kH (x.num*y.den) (y.num*x.den)
/-- A fraction (over 0: over 1). -/
def dQ(n d:Int):Rat:=Rat.divInt n (if d=0 then 1 else d)
theorem qm{n d:Int}(h:0 < d):(Rat.divInt n d).num=n / ((Nat.gcd n.natAbs d.natAbs:Nat):Int)∧((Rat.divInt n d).den:Int)=d / ((Nat.gcd n.natAbs d.natAbs:Nat):Int):=by
 obtain ⟨k,rfl⟩:=Int.eq_ofNat_of_zero_le (Int.le_of_lt h);have hk:k≠0:=by rintro rfl;exact absurd h (by decide)
 rw [Rat.divInt_ofNat,← Rat.normalize_eq_mkRat hk,Rat.normalize_eq hk];exact ⟨rfl,Int.natCast_ediv _ _⟩
theorem DT(n:Int):(Rat.divInt n 1).num=n∧((Rat.divInt n 1).den:Int)=1:=by
 have h:=qm (n:=n) (d:=1) (by decide);rw [show (Int.natAbs 1)=1 from rfl,Nat.gcd_one_right] at h;refine ⟨h.1.trans (Int.ediv_one n),h.2⟩
theorem pJ(n d:Int):((Nat.gcd n.natAbs d.natAbs:Nat):Int)∣n:=Int.dvd_natAbs.1 (Int.natCast_dvd_natCast.2 (Nat.gcd_dvd_left _ _))
theorem pO(n d:Int):((Nat.gcd n.natAbs d.natAbs:Nat):Int)∣d:=Int.dvd_natAbs.1 (Int.natCast_dvd_natCast.2 (Nat.gcd_dvd_right _ _))
theorem pR{n d:Int}(h:d≠0):((Nat.gcd n.natAbs d.natAbs:Nat):Int)≠0:=by
 have:Nat.gcd n.natAbs d.natAbs≠0:=fun e=>by
  have:=(Nat.gcd_eq_zero_iff.1 e).2;omega
 omega
theorem mD(a:Rat):(a.den:Int)≠0:=by have:=a.den_nz;omega
theorem jU{n d:Int}(h:d≠0):dQ n d=Rat.divInt n d:=by unfold dQ;rw [if_neg h]
theorem NM(a b:Rat):dQ (a.num*b.den+b.num*a.den) (a.den*b.den)=a+b:=by
 rw [jU (Int.mul_ne_zero (mD a) (mD b)),← Rat.divInt_add_divInt _ _ (mD a) (mD b),Rat.num_divInt_den,Rat.num_divInt_den]
theorem adD(a b:Rat):dQ (a.num*b.num) (a.den*b.den)=a*b:=by
 rw [jU (Int.mul_ne_zero (mD a) (mD b)),← Rat.divInt_mul_divInt,Rat.num_divInt_den,Rat.num_divInt_den]
theorem adE(a b:Rat)(h:b≠0):dQ (a.num*b.den) (a.den*b.num)=a / b:=by
 have hb:b.num≠0:=fun e=>h (Rat.num_eq_zero.1 e)
 rw [jU (Int.mul_ne_zero (mD a) hb),← Rat.divInt_mul_divInt,Rat.num_divInt_den,Rat.div_def,Rat.inv_def]
theorem jE(n:Int):dQ n 1=(n:Rat):=by
 rw [jU (by decide)];exact Rat.ext (by rw [(DT n).1,Rat.num_intCast]) (by have:=(DT n).2;rw [Rat.den_intCast];omega)
theorem Gh{n:Int}(h1: -9223372036854775808≤n:=by decide)(h2:n≤9223372036854775807:=by decide):aC Tryz.prog 48 [.one (vI n)] (.d (.agg (rn 64 n))):=by
 refine aN 26 [.cell 2 47] Tryz.func48 rfl<|cR<|mO rfl<|mT<|au<|cR<|mE 2 rfl<|mT<|aW rfl (fun hc1=>?_) (fun hc1=>?_)
 ·refine au ?_;have hn:n= -9223372036854775808:=eq_of_beq hc1;subst hn;exact aA<|mY ajo rfl<|mY (uO rfl) rfl<|mZ rfl<|mT<|aH<|tR<|rQ rfl (zA (by decide) (by decide))
 ·refine aF<|tN<|au ?_;have hn:n≠-9223372036854775808:=fun e=>by have h0:=hc1;rw [e] at h0;exact absurd h0 (by decide)
  have hN:n.natAbs≤9223372036854775808:=by omega
  refine aA<|mE 3 rfl<|mT<|au<|cR<|mW rfl<|mT<|aW rfl (fun hc2=>?_) (fun hc2=>?_)
  ·refine aA<|mW rfl<|mV aj (dI (n.natAbs:Int)) (fM (show IntKind.i64.wrap (0-n)=_ from by have h0:=abM hc2;rw [eu];omega))<|mW rfl<|mT<|cR<|mW rfl<|mT<|au<|aI<|AW.wk (qV 4 4 3 1 (fun _ _=> .v undef) rfl rfl)<|dU (ι:=List Nat×Nat) (fun (p:List Nat×Nat)=>match p with | (ds,R)=>⟨26,[(0,dI (R:Int)),(3,.d (.one (.v (.bool (decide (n < 0)))))),(2,.ptr 2 0),(4,.own 4)],[(2,.box 47 ([.v (.slice none 0 0),.v (.bool false)])),(4,.row 3 1 ds.length (del ds))]⟩) (fun (p:List Nat×Nat)=>match p with | (ds,R)=>ds ++aT R=aT n.natAbs∧R≤9223372036854775808-1) (fun (p:List Nat×Nat)=>match p with | (ds,R)=>R) ([],n.natAbs) (⟨rfl,by omega⟩) (wkv [0] [1] ⟨fQ rfl (aG (rfl)),Pe⟩ ⟨dX rfl (iY),Pe⟩ rfl rfl) ?_;rintro ⟨ds,R⟩ hI;obtain ⟨hd,hR9⟩:ds ++aT R=aT n.natAbs∧R≤9223372036854775808-1:=hI;show AW _ _ _ ⟨_,_,_⟩
   refine au<|cR<|mE 2 rfl<|mT<|aW rfl (fun hc3=>?_) (fun hc3=>?_)
   ·refine aF<|tN<|aI<|au ?_;have hR:0 < R:=by have h0:=abM hc3;omega
    have hlen:ds.length≤5:=by have h0:=xK hN;rw [← hd,List.length_append] at h0;omega
    exact aA<|mE 3 rfl<|mB aj (.d (.one (.row 1 1 (fun i' j'=>(([vI ((R%10000:Nat):Int)])[i'*1+j']?).getD (.v undef))))) rfl<|mA aj (id:=4) (n:=ds.length) (m:=1) (el:=(del ds)) (el2:=(fun i' j'=>(([vI ((R%10000:Nat):Int)])[i'*1+j']?).getD (.v undef))) rfl rfl rfl (by show (ds.length+1)*8≤140737488355328;omega) (by omega) rfl rfl rfl rfl rfl rfl rfl rfl rfl rfl<|mW rfl<|mT<|aA<|mE 3 rfl<|ak<|bN<|⟨((ds ++ [R%10000]),(R / 10000)),⟨KU hR hd,by omega⟩,by show R / 10000 < R;omega,wkv [0] [1] ⟨fQ rfl (aG (show IntKind.i64.wrap (Int.tdiv (R:Int) 10000)=_ from by rw [show Int.tdiv (R:Int) 10000=((R / 10000:Nat):Int) from rfl];exact eu (by omega) (by omega))),Pe⟩ ⟨dX rfl (UM (by simp)),Pe⟩ rfl rfl⟩
   ·refine dP<|tE<|tE<|bE<|tN<|au ?_;have hde:ds=aT n.natAbs:=PE (by have h0:=abL hc3;omega) hd;exact AW.wk (jl 4 rfl)<|iV 4 (.d (.one (dn 5 n.natAbs))) rfl (gq (U9 rfl hde (by rw [hde];exact xK hN)))<|aA<|mE 2 rfl<|mY (uO rfl) rfl<|mZ rfl<|mT<|aH<|rQ rfl (zA (by decide) (lZ n))
  ·refine aF<|tN<|cR<|mW rfl<|mT<|au<|aI<|AW.wk (qV 4 4 3 1 (fun _ _=> .v undef) rfl rfl)<|dU (ι:=List Nat×Nat) (fun (p:List Nat×Nat)=>match p with | (ds,R)=>⟨26,[(0,dI (R:Int)),(3,.d (.one (.v (.bool (decide (n < 0)))))),(2,.ptr 2 0),(4,.own 4)],[(2,.box 47 ([.v (.slice none 0 0),.v (.bool false)])),(4,.row 3 1 ds.length (del ds))]⟩) (fun (p:List Nat×Nat)=>match p with | (ds,R)=>ds ++aT R=aT n.natAbs∧R≤9223372036854775808-1) (fun (p:List Nat×Nat)=>match p with | (ds,R)=>R) ([],n.natAbs) (⟨rfl,by omega⟩) (wkv [0] [1] ⟨fQ rfl (aG (by have h0:=abL hc2;omega)),Pe⟩ ⟨dX rfl (iY),Pe⟩ rfl rfl) ?_;rintro ⟨ds,R⟩ hI;obtain ⟨hd,hR9⟩:ds ++aT R=aT n.natAbs∧R≤9223372036854775808-1:=hI;show AW _ _ _ ⟨_,_,_⟩
   refine au<|cR<|mE 2 rfl<|mT<|aW rfl (fun hc4=>?_) (fun hc4=>?_)
   ·refine aF<|tN<|aI<|au ?_;have hR:0 < R:=by have h0:=abM hc4;omega
    have hlen:ds.length≤5:=by have h0:=xK hN;rw [← hd,List.length_append] at h0;omega
    exact aA<|mE 3 rfl<|mB aj (.d (.one (.row 1 1 (fun i' j'=>(([vI ((R%10000:Nat):Int)])[i'*1+j']?).getD (.v undef))))) rfl<|mA aj (id:=4) (n:=ds.length) (m:=1) (el:=(del ds)) (el2:=(fun i' j'=>(([vI ((R%10000:Nat):Int)])[i'*1+j']?).getD (.v undef))) rfl rfl rfl (by show (ds.length+1)*8≤140737488355328;omega) (by omega) rfl rfl rfl rfl rfl rfl rfl rfl rfl rfl<|mW rfl<|mT<|aA<|mE 3 rfl<|ak<|bN<|⟨((ds ++ [R%10000]),(R / 10000)),⟨KU hR hd,by omega⟩,by show R / 10000 < R;omega,wkv [0] [1] ⟨fQ rfl (aG (show IntKind.i64.wrap (Int.tdiv (R:Int) 10000)=_ from by rw [show Int.tdiv (R:Int) 10000=((R / 10000:Nat):Int) from rfl];exact eu (by omega) (by omega))),Pe⟩ ⟨dX rfl (UM (by simp)),Pe⟩ rfl rfl⟩
   ·refine dP<|tE<|tE<|bE<|tN<|au ?_;have hde:ds=aT n.natAbs:=PE (by have h0:=abL hc4;omega) hd;exact AW.wk (jl 4 rfl)<|iV 4 (.d (.one (dn 5 n.natAbs))) rfl (gq (U9 rfl hde (by rw [hde];exact xK hN)))<|aA<|mE 2 rfl<|mY (uO rfl) rfl<|mZ rfl<|mT<|aH<|rQ rfl (zA (by decide) (lZ n))
theorem uj{a b:List Lf}{K L M:Nat}{x y:Int}(ha:LY a K x)(hb:LY b L y)(hy:y≠0)(hd:y∣x)(hM:K≤M:=by first|decide|omega)(hK:K≤100000000:=by first|decide|omega)(hL:L≤100000000:=by first|decide|omega):aC Tryz.prog 87 [.agg a,.agg b] (.d (.agg (rn M (x / y)))):=by
 exact aC.le (dl (DV.g ha) (dl (DV.g hb) iP)) AV.le.rfl<|aN 22 [.cell 4 47] Tryz.func87 rfl<|cR<|mO rfl<|mO rfl<|mO rfl<|mT<|cR<|mE 4 rfl<|mY (aeG (Tm K x.natAbs) (Tm L y.natAbs) (by omega)) rfl<|mE 5 rfl<|mT<|cR<|mE 6 rfl<|mY (uO rfl) rfl<|mZ rfl<|mT<|aH<|rQ rfl (zA hM (aik hd))
theorem FM{a b:List Lf}{K L M:Nat}{x y:Int}(ha:LY a K x)(hb:LY b L y)(hM:max K L≤M:=by first|decide|omega)(wU:M≤100000000:=by first|decide|omega):aC Tryz.prog 86 [.agg a,.agg b] (.d (.agg (rn M ((Nat.gcd x.natAbs y.natAbs:Nat):Int)))):=by
 refine aC.le (dl (DV.g ha) (dl (DV.g hb) iP)) AV.le.rfl<|aN 26 [.cell 4 47] Tryz.func86 rfl<|cR<|mO rfl<|mO rfl<|mO rfl<|mT<|au<|cDk 6<|oE 4 rfl<|.cons (aB.V _ rfl)<|.cons (aB.V _ rfl)<|.nil<|mT<|au<|aI<|dU (ι:=Nat×Nat) (fun (p:Nat×Nat)=>match p with | (u,v)=>⟨26,[(4,.ptr 4 0),(5,.d (.one (dn M u))),(6,.d (.one (dn M v)))],[(4,.box 47 ([.v (.slice none 0 0),.v (.bool false)]))]⟩) (fun (p:Nat×Nat)=>match p with | (u,v)=>Nat.gcd u v=Nat.gcd x.natAbs y.natAbs) (fun (p:Nat×Nat)=>match p with | (u,v)=>v) (x.natAbs,y.natAbs) (rfl) (wkv [1,2] [] ⟨fQ rfl (gq (lS (acS (aiP K L) hM))),fQ rfl (gq (lS (acS (aiK K L) hM))),Pe⟩ trivial rfl rfl) ?_;rintro ⟨u,v⟩ hI;have hg:Nat.gcd u v=Nat.gcd x.natAbs y.natAbs:=hI;show AW _ _ _ ⟨_,_,_⟩
 refine au<|cR<|mE 3 rfl<|mT<|aW rfl (fun hc1=>?_) (fun hc1=>?_)
 ·refine aF<|tN<|aI<|au ?_;have hy0:0 < v:=by rcases aev v with e | e;exact absurd (abM hc1) (by rw [e];decide);exact e
  exact aA<|mE 2 rfl<|mY (aeG (Tm M u) (Tm M v) hy0) rfl<|mE 5 rfl<|mT<|aA<|mE 4 rfl<|ak<|bN<|⟨(v,(u%v)),by show Nat.gcd v (u%v)=_;rw [← hg,Nat.gcd_comm u v,Nat.gcd_rec v u,Nat.gcd_comm],by show u%v < v;exact adl _ hy0,wkr rfl rfl⟩
 ·refine dP<|tE<|tE<|bE<|tN<|au ?_;have hy0:v=0:=by have h0:=abL hc1;have h1:=vU v;omega
  have hu:u=Nat.gcd x.natAbs y.natAbs:=by rw [← hg,hy0,Nat.gcd_zero_right]
  exact aA<|mE 2 rfl<|mZ rfl<|mT<|aH<|rQ rfl (IZ (by simp) (by rw [hu];rfl))
theorem o7{a b:List Lf}{K L M:Nat}{n d:Int}(ha:LY a K n)(hb:LY b L d)(hM:max K (max L 64)≤M:=by first|decide|omega)(wU:M≤100000000:=by first|decide|omega):aC Tryz.prog 47 [.agg a,.agg b] (.d (.agg (qn M (dQ n d)))):=by
 refine aC.le (dl (DV.g ha) (dl (DV.g hb) iP)) AV.le.rfl<|aN 39 [.cell 4 49] Tryz.func47 rfl<|cR<|mO rfl<|mO rfl<|mO rfl<|mT<|au<|cR<|mW rfl<|mY (Yb (fV L d)) rfl<|mT<|aW rfl (fun hc1=>?_) (fun hc1=>?_)
 ·refine aA<|mY Gh rfl<|mZ rfl<|mT<|au<|au ?_;have hd0:d=0:=abM hc1;refine aA<|mE 2 rfl<|mT<|cFs rfl<|au<|au ?_
  by_cases hl1:(aT (Int.natAbs 1)).length=1
  ·refine aA<|mE 3 rfl<|mbT rfl (by rw [hl1];rfl)<|mE 3 rfl<|lD 21 (.d (.one (.row 1 ((aT (Int.natAbs 1)).length) (fun i _=> vI (((aT (Int.natAbs 1)).getD i 0:Nat):Int))))) rfl (G6 _ _)<|mV aj (.d (.one (.at 1 ((fun i _=> vI (((aT (Int.natAbs 1)).getD i 0:Nat):Int)) 0)))) (jZ (el:=(fun i _=> vI (((aT (Int.natAbs 1)).getD i 0:Nat):Int))) (z:=0) (n:=((aT (Int.natAbs 1)).length)) rfl rfl rfl rfl rfl rfl (by decide) (by rw [hl1];decide)) ?_;refine mE 3 rfl<|mT<|aW rfl (fun hc2=>?_) (fun hc2=>?_)
   ·refine cR<|mE 3 rfl<|mZ rfl<|mT<|aH<|tR ?_;have hq:dQ n d=Rat.divInt n 1:=by unfold dQ;rw [if_pos hd0]
    have h1:(1:Int)=1:=by have h0:=KR.1 ⟨hl1,Int.ofNat_inj.1 (eq_of_beq hc2)⟩;omega
    have hq1:dQ n d=Rat.divInt n 1:=hq.trans (ah5 (Rat.divInt n) h1);obtain ⟨e1,e2⟩:=DT n;exact rQ rfl (uT (by omega) (by omega) (by rw [hq1];exact e1.symm) (by rw [hq1];exact h1.trans e2.symm))
   ·refine aF<|tN<|au ?_;have hD:(0:Int) < 1:=by omega
    refine aA<|mE 2 rfl<|mY (FM (fV K n) (fV 64 1) (M:=(max K 64))) rfl<|mO rfl<|mZ rfl<|mT<|au<|cDk 7<|oE 2 rfl<|oC (uj (fV K n) (fV (max K 64) ((Nat.gcd (Int.natAbs n) (Int.natAbs 1):Nat):Int)) (pR (by omega)) (pJ _ _) (M:=K)) rfl<|oE 2 rfl<|oC (uj (fV 64 1) (fV (max K 64) ((Nat.gcd (Int.natAbs n) (Int.natAbs 1):Nat):Int)) (pR (by omega)) (pO _ _) (M:=64)) rfl<|oV rfl<|.nil<|mZ rfl<|mT<|aH ?_;have hq:dQ n d=Rat.divInt n 1:=by unfold dQ;rw [if_pos hd0]
    obtain ⟨e1,e2⟩:=qm (n:=n) (d:=1) hD;exact rQ rfl (uT (by omega) (by omega) (by rw [hq];exact e1.symm) (by rw [hq];exact e2.symm))
  ·refine aA<|mE 3 rfl<|mbF rfl (abX.2 fun e=>hl1 (by exact_mod_cast e))<|mW rfl<|mG rfl rfl<|mG rfl rfl<|mG rfl rfl<|mG rfl rfl<|mG rfl rfl<|mW rfl<|mT<|cFs rfl<|au ?_;have hD:(0:Int) < 1:=by omega
   refine aA<|mE 2 rfl<|mY (FM (fV K n) (fV 64 1) (M:=(max K 64))) rfl<|mO rfl<|mZ rfl<|mT<|au<|cDk 7<|oE 2 rfl<|oC (uj (fV K n) (fV (max K 64) ((Nat.gcd (Int.natAbs n) (Int.natAbs 1):Nat):Int)) (pR (by omega)) (pJ _ _) (M:=K)) rfl<|oE 2 rfl<|oC (uj (fV 64 1) (fV (max K 64) ((Nat.gcd (Int.natAbs n) (Int.natAbs 1):Nat):Int)) (pR (by omega)) (pO _ _) (M:=64)) rfl<|oV rfl<|.nil<|mZ rfl<|mT<|aH ?_;have hq:dQ n d=Rat.divInt n 1:=by unfold dQ;rw [if_pos hd0]
   obtain ⟨e1,e2⟩:=qm (n:=n) (d:=1) hD;exact rQ rfl (uT (by omega) (by omega) (by rw [hq];exact e1.symm) (by rw [hq];exact e2.symm))
 ·refine aF<|tN<|au<|au ?_;have hd0:d≠0:=abL hc1;refine aA<|mE 2 rfl<|mT<|aW rfl (fun hc3=>?_) (fun hc3=>?_)
  ·have hdn:d < 0:=abM hc3;refine cDk 4<|oV rfl<|oC (O3 (fV K n) (M:=K)) rfl<|oV rfl<|oC (O3 (fV L d) (M:=L)) rfl<|.nil<|mZ rfl<|mZ rfl<|mT<|au<|au ?_
   by_cases hl1:(aT (Int.natAbs (-d))).length=1
   ·refine aA<|mE 3 rfl<|mbT rfl (by rw [hl1];rfl)<|mE 3 rfl<|lD 21 (.d (.one (.row 1 ((aT (Int.natAbs (-d))).length) (fun i _=> vI (((aT (Int.natAbs (-d))).getD i 0:Nat):Int))))) rfl (G6 _ _)<|mV aj (.d (.one (.at 1 ((fun i _=> vI (((aT (Int.natAbs (-d))).getD i 0:Nat):Int)) 0)))) (jZ (el:=(fun i _=> vI (((aT (Int.natAbs (-d))).getD i 0:Nat):Int))) (z:=0) (n:=((aT (Int.natAbs (-d))).length)) rfl rfl rfl rfl rfl rfl (by decide) (by rw [hl1];decide)) ?_;refine mE 3 rfl<|mT<|aW rfl (fun hc4=>?_) (fun hc4=>?_)
    ·refine cR<|mE 3 rfl<|mZ rfl<|mT<|aH<|tR ?_;have hq:dQ n d=Rat.divInt (-n) (-d):=by rw [jU hd0,Rat.neg_divInt_neg]
     have h1:((-d):Int)=1:=by have h0:=KR.1 ⟨hl1,Int.ofNat_inj.1 (eq_of_beq hc4)⟩;omega
     have hq1:dQ n d=Rat.divInt (-n) 1:=hq.trans (ah5 (Rat.divInt (-n)) h1);obtain ⟨e1,e2⟩:=DT (-n);exact rQ rfl (uT (by omega) (by omega) (by rw [hq1];exact e1.symm) (by rw [hq1];exact h1.trans e2.symm))
    ·refine aF<|tN<|au ?_;have hD:(0:Int) < (-d):=by omega
     refine aA<|mE 2 rfl<|mY (FM (fV K (-n)) (fV L (-d)) (M:=(max K L))) rfl<|mO rfl<|mZ rfl<|mT<|au<|cDk 7<|oE 2 rfl<|oC (uj (fV K (-n)) (fV (max K L) ((Nat.gcd (Int.natAbs (-n)) (Int.natAbs (-d)):Nat):Int)) (pR (by omega)) (pJ _ _) (M:=K)) rfl<|oE 2 rfl<|oC (uj (fV L (-d)) (fV (max K L) ((Nat.gcd (Int.natAbs (-n)) (Int.natAbs (-d)):Nat):Int)) (pR (by omega)) (pO _ _) (M:=L)) rfl<|oV rfl<|.nil<|mZ rfl<|mT<|aH ?_;have hq:dQ n d=Rat.divInt (-n) (-d):=by rw [jU hd0,Rat.neg_divInt_neg]
     obtain ⟨e1,e2⟩:=qm (n:=(-n)) (d:=(-d)) hD;exact rQ rfl (uT (by omega) (by omega) (by rw [hq];exact e1.symm) (by rw [hq];exact e2.symm))
   ·refine aA<|mE 3 rfl<|mbF rfl (abX.2 fun e=>hl1 (by exact_mod_cast e))<|mW rfl<|mG rfl rfl<|mG rfl rfl<|mG rfl rfl<|mG rfl rfl<|mG rfl rfl<|mW rfl<|mT<|cFs rfl<|au ?_;have hD:(0:Int) < (-d):=by omega
    refine aA<|mE 2 rfl<|mY (FM (fV K (-n)) (fV L (-d)) (M:=(max K L))) rfl<|mO rfl<|mZ rfl<|mT<|au<|cDk 7<|oE 2 rfl<|oC (uj (fV K (-n)) (fV (max K L) ((Nat.gcd (Int.natAbs (-n)) (Int.natAbs (-d)):Nat):Int)) (pR (by omega)) (pJ _ _) (M:=K)) rfl<|oE 2 rfl<|oC (uj (fV L (-d)) (fV (max K L) ((Nat.gcd (Int.natAbs (-n)) (Int.natAbs (-d)):Nat):Int)) (pR (by omega)) (pO _ _) (M:=L)) rfl<|oV rfl<|.nil<|mZ rfl<|mT<|aH ?_;have hq:dQ n d=Rat.divInt (-n) (-d):=by rw [jU hd0,Rat.neg_divInt_neg]
    obtain ⟨e1,e2⟩:=qm (n:=(-n)) (d:=(-d)) hD;exact rQ rfl (uT (by omega) (by omega) (by rw [hq];exact e1.symm) (by rw [hq];exact e2.symm))
  ·refine aF<|tN<|au<|au ?_;have hdp:0 < d:=by have h0:=abL hc3;omega
   by_cases hl1:(aT d.natAbs).length=1
   ·refine aA<|mE 3 rfl<|mbT rfl (by rw [hl1];rfl)<|mE 3 rfl<|lD 21 (.d (.one (.row 1 ((aT d.natAbs).length) (fun i _=> vI (((aT d.natAbs).getD i 0:Nat):Int))))) rfl (G6 _ _)<|mV aj (.d (.one (.at 1 ((fun i _=> vI (((aT d.natAbs).getD i 0:Nat):Int)) 0)))) (jZ (el:=(fun i _=> vI (((aT d.natAbs).getD i 0:Nat):Int))) (z:=0) (n:=((aT d.natAbs).length)) rfl rfl rfl rfl rfl rfl (by decide) (by rw [hl1];decide)) ?_;refine mE 3 rfl<|mT<|aW rfl (fun hc5=>?_) (fun hc5=>?_)
    ·refine cR<|mE 3 rfl<|mZ rfl<|mT<|aH<|tR ?_;have hq:dQ n d=Rat.divInt n d:=jU hd0;have h1:(d:Int)=1:=by have h0:=KR.1 ⟨hl1,Int.ofNat_inj.1 (eq_of_beq hc5)⟩;omega
     have hq1:dQ n d=Rat.divInt n 1:=hq.trans (ah5 (Rat.divInt n) h1);obtain ⟨e1,e2⟩:=DT n;exact rQ rfl (uT (by omega) (by omega) (by rw [hq1];exact e1.symm) (by rw [hq1];exact h1.trans e2.symm))
    ·refine aF<|tN<|au ?_;have hD:(0:Int) < d:=by omega
     refine aA<|mE 2 rfl<|mY (FM (fV K n) (fV L d) (M:=(max K L))) rfl<|mO rfl<|mZ rfl<|mT<|au<|cDk 7<|oE 2 rfl<|oC (uj (fV K n) (fV (max K L) ((Nat.gcd (Int.natAbs n) (Int.natAbs d):Nat):Int)) (pR (by omega)) (pJ _ _) (M:=K)) rfl<|oE 2 rfl<|oC (uj (fV L d) (fV (max K L) ((Nat.gcd (Int.natAbs n) (Int.natAbs d):Nat):Int)) (pR (by omega)) (pO _ _) (M:=L)) rfl<|oV rfl<|.nil<|mZ rfl<|mT<|aH ?_;have hq:dQ n d=Rat.divInt n d:=jU hd0;obtain ⟨e1,e2⟩:=qm (n:=n) (d:=d) hD;exact rQ rfl (uT (by omega) (by omega) (by rw [hq];exact e1.symm) (by rw [hq];exact e2.symm))
   ·refine aA<|mE 3 rfl<|mbF rfl (abX.2 fun e=>hl1 (by exact_mod_cast e))<|mW rfl<|mG rfl rfl<|mG rfl rfl<|mG rfl rfl<|mG rfl rfl<|mG rfl rfl<|mW rfl<|mT<|cFs rfl<|au ?_;have hD:(0:Int) < d:=by omega
    refine aA<|mE 2 rfl<|mY (FM (fV K n) (fV L d) (M:=(max K L))) rfl<|mO rfl<|mZ rfl<|mT<|au<|cDk 7<|oE 2 rfl<|oC (uj (fV K n) (fV (max K L) ((Nat.gcd (Int.natAbs n) (Int.natAbs d):Nat):Int)) (pR (by omega)) (pJ _ _) (M:=K)) rfl<|oE 2 rfl<|oC (uj (fV L d) (fV (max K L) ((Nat.gcd (Int.natAbs n) (Int.natAbs d):Nat):Int)) (pR (by omega)) (pO _ _) (M:=L)) rfl<|oV rfl<|.nil<|mZ rfl<|mT<|aH ?_;have hq:dQ n d=Rat.divInt n d:=jU hd0;obtain ⟨e1,e2⟩:=qm (n:=n) (d:=d) hD;exact rQ rfl (uT (by omega) (by omega) (by rw [hq];exact e1.symm) (by rw [hq];exact e2.symm))
theorem X8{n d:Int}(h1: -9223372036854775808≤n:=by first|decide|omega)(h2:n≤9223372036854775807:=by first|decide|omega)(h3: -9223372036854775808≤d:=by first|decide|omega)(h4:d≤9223372036854775807:=by first|decide|omega):aC Tryz.prog 21 [.one (vI n),.one (vI d)] (.d (.agg (qn 64 (dQ n d)))):=by
 exact aN 10 [.cell 4 49] Tryz.func21 rfl<|cR<|mO rfl<|mT<|cR<|mW rfl<|mY (Gh h1 h2) rfl<|mW rfl<|mY (Gh h3 h4) rfl<|mY (o7 (fV 64 n) (fV 64 d) (M:=64)) rfl<|mZ rfl<|mT<|aH<|rQ rfl (AV.le.rfl)
theorem Ie{n:Int}(h1: -9223372036854775808≤n:=by first|decide|omega)(h2:n≤9223372036854775807:=by first|decide|omega):aC Tryz.prog 21 [.one (vI n),.one (vI 1)] (.d (.agg (qn 64 (n:Rat)))):=by
 have h:=X8 (d:=1) h1 h2 (by decide) (by decide);rw [jE] at h;exact h
theorem Me{a b:List Lf}{K L M:Nat}{x y:Rat}(ha:Rz a K x)(hb:Rz b L y)(hM:max (K+L+1) 64≤M:=by first|decide|omega)(wU:M≤10000000:=by first|decide|omega):aC Tryz.prog 97 [.agg a,.agg b] (.d (.agg (qn M (x+y)))):=by
 exact aC.le (dl (DV.g ha) (dl (DV.g hb) iP)) AV.le.rfl<|aN 22 [.cell 4 49] Tryz.func97 rfl<|cR<|mO rfl<|mO rfl<|mO rfl<|mT<|au<|cDk 17<|oE 4 rfl<|oC (oW (fV K x.num) (fV L (y.den:Int)) (M:=(K+L))) rfl<|oE 4 rfl<|oC (oW (fV L y.num) (fV K (x.den:Int)) (M:=(L+K))) rfl<|oC (X6 (fV (K+L) (x.num*(y.den:Int))) (fV (L+K) (y.num*(x.den:Int))) (M:=(max (K+L) (L+K)+1))) rfl<|oE 4 rfl<|oC (oW (fV K (x.den:Int)) (fV L (y.den:Int)) (M:=(K+L))) rfl<|oC (o7 (fV (max (K+L) (L+K)+1) ((x.num*(y.den:Int))+(y.num*(x.den:Int)))) (fV (K+L) ((x.den:Int)*(y.den:Int))) (M:=(max (max (K+L) (L+K)+1) (max (K+L) 64)))) rfl<|.nil<|mZ rfl<|mT<|aH<|rQ rfl (wI (by omega) (NM x y))
theorem MB{a b:List Lf}{K L M:Nat}{x y:Rat}(ha:Rz a K x)(hb:Rz b L y)(hM:max (K+L+1) 64≤M:=by first|decide|omega)(wU:M≤10000000:=by first|decide|omega):aC Tryz.prog 115 [.agg a,.agg b] (.d (.agg (qn M (x*y)))):=by
 exact aC.le (dl (DV.g ha) (dl (DV.g hb) iP)) AV.le.rfl<|aN 16 [.cell 4 49] Tryz.func115 rfl<|cR<|mO rfl<|mO rfl<|mO rfl<|mT<|au<|cDk 11<|oE 4 rfl<|oC (oW (fV K x.num) (fV L y.num) (M:=(K+L))) rfl<|oE 4 rfl<|oC (oW (fV K (x.den:Int)) (fV L (y.den:Int)) (M:=(K+L))) rfl<|oC (o7 (fV (K+L) (x.num*y.num)) (fV (K+L) ((x.den:Int)*(y.den:Int))) (M:=(max (K+L) (max (K+L) 64)))) rfl<|.nil<|mZ rfl<|mT<|aH<|rQ rfl (wI (by omega) (adD x y))
theorem RY{a:List Lf}{K:Nat}{x:Rat}(ha:Rz a K x)(hK:K≤10000000:=by first|decide|omega):aC Tryz.prog 46 [.agg a] (.d (.agg (qn K (-x)))):=by
 exact aC.le (dl (DV.g ha) iP) AV.le.rfl<|aN 9 [.cell 2 49] Tryz.func46 rfl<|cR<|mO rfl<|mO rfl<|mT<|au<|cDk 6<|oE 2 rfl<|oC (O3 (fV K x.num) (M:=K)) rfl<|oE 3 rfl<|.nil<|mZ rfl<|mT<|aH<|rQ rfl (uT (abJ _) (abJ _) (Rat.neg_num x).symm (by rw [Rat.neg_den]))
theorem MC{a b:List Lf}{K L M:Nat}{x y:Rat}(ha:Rz a K x)(hb:Rz b L y)(hy:y≠0)(hM:max (K+L+1) 64≤M:=by first|decide|omega)(wU:M≤10000000:=by first|decide|omega):aC Tryz.prog 98 [.agg a,.agg b] (.d (.agg (qn M (x / y)))):=by
 exact aC.le (dl (DV.g ha) (dl (DV.g hb) iP)) AV.le.rfl<|aN 16 [.cell 4 49] Tryz.func98 rfl<|cR<|mO rfl<|mO rfl<|mO rfl<|mT<|au<|cDk 11<|oE 4 rfl<|oC (oW (fV K x.num) (fV L (y.den:Int)) (M:=(K+L))) rfl<|oE 4 rfl<|oC (oW (fV K (x.den:Int)) (fV L y.num) (M:=(K+L))) rfl<|oC (o7 (fV (K+L) (x.num*(y.den:Int))) (fV (K+L) ((x.den:Int)*y.num)) (M:=(max (K+L) (max (K+L) 64)))) rfl<|.nil<|mZ rfl<|mT<|aH<|rQ rfl (wI (by omega) (adE x y hy))
theorem nD{a b:List Lf}{K L:Nat}{x y:Rat}(ha:Rz a K x)(hb:Rz b L y)(hK:K≤10000000:=by first|decide|omega)(hL:L≤10000000:=by first|decide|omega):aC Tryz.prog 44 [.agg a,.agg b] (dI (vP x y)):=by
 exact aC.le (dl (DV.g ha) (dl (DV.g hb) iP)) AV.le.rfl<|aN 16 [.tmp 4] Tryz.func44 rfl<|cR<|mO rfl<|mO rfl<|mW rfl<|mT<|au<|cDk 12<|oE 4 rfl<|oC (oW (fV K x.num) (fV L (y.den:Int)) (M:=(K+L))) rfl<|oE 4 rfl<|oC (oW (fV L y.num) (fV K (x.den:Int)) (M:=(L+K))) rfl<|oC (ajy (fV (K+L) (x.num*(y.den:Int))) (fV (L+K) (y.num*(x.den:Int)))) rfl<|.cons (aB.V _ rfl)<|.nil<|mT<|aH<|rQ rfl (AV.le.rfl)
theorem acs{a:List Lf}{K M:Nat}{n d:Int}(ha:Gf a K n d)(hM:max (3*K) 64≤M:=by decide)(wU:M≤10000000:=by decide):aC Tryz.prog 40 [.agg a] (.d (.agg (qn M (dQ n d)))):=by
 obtain ⟨s,xs,t,ys,ha,e1,e2⟩:=ha;exact aC.le (dl (DV.g ha) iP) AV.le.rfl<|aN 10 [.cell 2 49] Tryz.func40 rfl<|cR<|mO rfl<|mO rfl<|mT<|au<|cDk 7<|oE 2 rfl<|oC (RX ⟨s,xs,fun _ _ _ h=>h,e1⟩ (M:=(3*K)) (by omega) (by omega)) rfl<|oE 2 rfl<|oC (RX ⟨t,ys,fun _ _ _ h=>h,e2⟩ (M:=(3*K)) (by omega) (by omega)) rfl<|oC (o7 (fV (3*K) n) (fV (3*K) d) (M:=(max (3*K) (max (3*K) 64)))) rfl<|.nil<|mZ rfl<|mT<|aH<|rQ rfl (wI (by omega) rfl)
theorem XV{K n:Nat}{c:Nat→Int}(hn:n≤1000000:=by omega):aC Tryz.prog 124 [.one (iC K n c)] (.d (.one (iC K (dg c n) c))):=by
 refine aN 21 [.tmp 2] Tryz.func124 rfl<|cR<|mW rfl<|mT<|cR<|mE 3 rfl<|mT<|au<|aI<|dU (ι:=Nat) (fun (k:Nat)=>⟨21,[(0,.d (.one (.row 2 n (cO K c)))),(3,dI (k:Int))],[]⟩) (fun (k:Nat)=>k≤n∧dg c n=dg c k) (fun (k:Nat)=>k) n (⟨abJ _,rfl⟩) (wkr rfl rfl) ?_;rintro k hI;obtain ⟨hkn,hk⟩:k≤n∧dg c n=dg c k:=hI;show AW _ _ _ ⟨_,_,_⟩
 refine au<|au ?_
 by_cases hk0:k=0
 ·refine aA<|mW rfl<|mdF rfl (by omega)<|mW rfl<|mG rfl rfl<|mG rfl rfl<|mG rfl rfl<|mG rfl rfl<|mG rfl rfl<|mG rfl rfl<|mW rfl<|mT<|cF rfl<|dP<|tE<|tE<|bE<|tN<|au ?_;have hd:k=dg c n:=by rw [hk,hk0];rfl
  exact aA<|mE 2 rfl<|mV aj (.d (.one (.row 2 k (cO K c)))) (slR (z:=(k:Int)) (n:=n) rfl rfl rfl rfl rfl rfl (by omega) (by omega))<|mW rfl<|mT<|aH<|rQ rfl (qZ (abJ _) hd (fun _ _=>rfl))
 ·refine aA<|mW rfl<|mdT rfl (by omega)<|mE 3 rfl<|mV aj (dI ((k-1:Nat):Int)) (fM ((eu (by omega) (by omega)).trans (by omega)))<|mV aj (.d (.one (.at 2 ((cO K c) (k-1))))) (jZ (el:=(cO K c)) (z:=((k-1:Nat):Int)) (n:=n) rfl rfl rfl rfl rfl rfl (by omega) (by omega)) ?_;refine mW rfl<|mY (aeP (isn K (c (k-1)))) rfl<|mW rfl<|mT<|aW rfl (fun hc1=>?_) (fun hc1=>?_)
  ·refine aF<|tN<|aI ?_;have hc0:c (k-1)=0:=abM hc1;exact aA<|mW rfl<|mV aj (dI ((k-1:Nat):Int)) (fM ((eu (by omega) (by omega)).trans (by omega)))<|mW rfl<|ak<|bN<|⟨(k-1),⟨by omega,UR hk hk0 hc0⟩,by omega,wkr rfl rfl⟩
  ·refine dP<|tE<|tE<|bE<|tN<|au ?_;have hd:k=dg c n:=by rw [hk];exact (uw (Or.inr fun e=>abL hc1 e)).symm
   exact aA<|mE 2 rfl<|mV aj (.d (.one (.row 2 k (cO K c)))) (slR (z:=(k:Int)) (n:=n) rfl rfl rfl rfl rfl rfl (by omega) (by omega))<|mW rfl<|mT<|aH<|rQ rfl (qZ (abJ _) hd (fun _ _=>rfl))
theorem CO{K n:Nat}{c:Nat→Rat}(hn:n≤1000000:=by omega):aC Tryz.prog 59 [.one (dM K n c)] (.d (.one (dM K (dg c n) c))):=by
 refine aN 22 [.tmp 2] Tryz.func59 rfl<|cR<|mW rfl<|mT<|cR<|mE 3 rfl<|mT<|au<|aI<|dU (ι:=Nat) (fun (k:Nat)=>⟨22,[(0,.d (.one (.row 4 n (aJ K c)))),(3,dI (k:Int))],[]⟩) (fun (k:Nat)=>k≤n∧dg c n=dg c k) (fun (k:Nat)=>k) n (⟨abJ _,rfl⟩) (wkr rfl rfl) ?_;rintro k hI;obtain ⟨hkn,hk⟩:k≤n∧dg c n=dg c k:=hI;show AW _ _ _ ⟨_,_,_⟩
 refine au<|au ?_
 by_cases hk0:k=0
 ·refine aA<|mW rfl<|mdF rfl (by omega)<|mW rfl<|mG rfl rfl<|mG rfl rfl<|mG rfl rfl<|mG rfl rfl<|mG rfl rfl<|mG rfl rfl<|mG rfl rfl<|mW rfl<|mT<|cF rfl<|dP<|tE<|tE<|bE<|tN<|au ?_;have hd:k=dg c n:=by rw [hk,hk0];rfl
  exact aA<|mE 2 rfl<|mV aj (.d (.one (.row 4 k (aJ K c)))) (slR (z:=(k:Int)) (n:=n) rfl rfl rfl rfl rfl rfl (by omega) (by omega))<|mW rfl<|mT<|aH<|rQ rfl (oK (abJ _) hd (fun _ _=>rfl))
 ·refine aA<|mW rfl<|mdT rfl (by omega)<|mE 3 rfl<|mV aj (dI ((k-1:Nat):Int)) (fM ((eu (by omega) (by omega)).trans (by omega)))<|mV aj (.d (.one (.at 4 ((aJ K c) (k-1))))) (jZ (el:=(aJ K c)) (z:=((k-1:Nat):Int)) (n:=n) rfl rfl rfl rfl rfl rfl (by omega) (by omega)) ?_;refine mE 2 rfl<|mY (Yb (fV K (Rat.num (c (k-1))))) rfl<|mW rfl<|mT<|aW rfl (fun hc1=>?_) (fun hc1=>?_)
  ·refine aF<|tN<|aI ?_;have hc0:(c (k-1)).num=0:=abM hc1;exact aA<|mW rfl<|mV aj (dI ((k-1:Nat):Int)) (fM ((eu (by omega) (by omega)).trans (by omega)))<|mW rfl<|ak<|bN<|⟨(k-1),⟨by omega,UR hk hk0 (Rat.num_eq_zero.1 hc0)⟩,by omega,wkr rfl rfl⟩
  ·refine dP<|tE<|tE<|bE<|tN<|au ?_;have hd:k=dg c n:=by rw [hk];exact (uw (Or.inr fun e=>abL hc1 (by show (c (k-1)).num=0;rw [e];rfl))).symm
   exact aA<|mE 2 rfl<|mV aj (.d (.one (.row 4 k (aJ K c)))) (slR (z:=(k:Int)) (n:=n) rfl rfl rfl rfl rfl rfl (by omega) (by omega))<|mW rfl<|mT<|aH<|rQ rfl (oK (abJ _) hd (fun _ _=>rfl))
theorem EG:aC Tryz.prog 96 [] (.d (.agg (qn 64 0))):=by
 exact aN 2 [.cell 0 49] Tryz.func96 rfl<|cR<|mO rfl<|mT<|cR<|mY Ie rfl<|mZ rfl<|mT<|aH<|rQ rfl (wI (abJ _) rfl)
theorem agp{a:Lf}{K M n:Nat}{c:Nat→Int}(ha:qI a K n c)(hM:max (3*K) 64≤M:=by first|decide|omega)(hn:n≤1000000:=by first|decide|omega)(wU:M≤10000000:=by first|decide|omega):aC Tryz.prog 37 [.one a] (.d (.one (dM M (dg (rc c) (n)) (rc c)))):=by
 obtain ⟨⟨fa,ha,ea⟩,za⟩:=ha;refine aC.le (dl (DV.l ha) iP) AV.le.rfl<|aN 23 [.tmp 2] Tryz.func37 rfl<|cR<|mW rfl<|mT<|cR<|mW rfl<|mT<|au<|au<|AW.wk (qV 3 3 49 4 (fun _ _=> .v undef) rfl rfl)<|aA<|mE 3 rfl<|mT<|aI<|dU (ι:=Nat) (fun (i:Nat)=>⟨23,[(0,.d (.one (.row 2 n (qw K fa)))),(5,.d (.one (.row 2 n (qw K fa)))),(6,dI (n:Int)),(7,dI (i:Int)),(3,.own 3)],[(3,.row 49 4 i (aJ M (rc c)))]⟩) (fun (i:Nat)=>i≤n) (fun (i:Nat)=>n-i) 0 (abR _) (wkv [] [0] trivial ⟨dX rfl (iY),Pe⟩ rfl rfl) ?_;rintro i hI;have hi:i≤n:=hI;show AW _ _ _ ⟨_,_,_⟩
 refine cR<|mW rfl<|mT<|au<|aW rfl (fun hc1=>?_) (fun hc1=>?_)
 ·refine aF<|tN<|au<|aI<|cR<|mE 2 rfl<|mT ?_;have hin:i < n:=by have h0:=abM hc1;omega
  refine aA<|mE 3 rfl<|mV aj (.d (.one (.at 2 ((qw K fa) i)))) (jZ (el:=(qw K fa)) (z:=(i:Int)) (n:=n) rfl rfl rfl rfl rfl rfl (by omega) (by omega)) ?_;exact mW rfl<|mY (RX ⟨_,_,fun _ _ _ h=>h,ea i (by omega)⟩ (M:=(3*K)) (by omega) (by omega)) rfl<|mY Gh rfl<|mY (o7 (fV (3*K) (c i)) (fV 64 1) (M:=(max (3*K) (max 64 64)))) rfl<|mB aj (.d (.one (.row 4 1 (fun i' j'=>((qn (max (3*K) (max 64 64)) (dQ (c i) 1))[i'*4+j']?).getD (.v undef))))) rfl<|mA aj (id:=3) (n:=i) (m:=1) (el:=(aJ M (rc c))) (el2:=(fun i' j'=>((qn (max (3*K) (max 64 64)) (dQ (c i) 1))[i'*4+j']?).getD (.v undef))) rfl rfl rfl (by show (i+1)*64≤140737488355328;omega) (by omega) rfl rfl rfl rfl rfl rfl rfl rfl rfl rfl<|mW rfl<|ak<|bN<|tN<|aA<|mE 2 rfl<|ak<|⟨(i+1),by omega,by omega,wkv [3] [0] ⟨fQ rfl (aG (dF (by omega))),Pe⟩ ⟨dX rfl (CU rfl (abJ _) (by omega) (jE _) (fun _ _=>rfl)),Pe⟩ rfl rfl⟩
 ·refine dP<|tE<|tE<|bE<|tN<|au ?_;have hie:n=i:=by have h0:=abL hc1;omega
  subst hie;exact AW.wk (jl 3 rfl)<|aA<|mW rfl<|mY CO rfl<|mW rfl<|mT<|aH<|rQ rfl (AV.le.rfl)
theorem aci{a:Lf}{n:Nat}{c:Nat→Int}(ha:IsI a n c)(hb:∀ i,i < n→-9223372036854775808≤c i∧c i≤9223372036854775807:=by decide)(hn:n≤1000000:=by first|decide|omega):aC Tryz.prog 32 [.one a] (.d (.one (dM 64 (dg (rc c) (n)) (rc c)))):=by
 obtain ⟨ha,za⟩:=ha;refine aC.le (dl (DV.l ha) iP) AV.le.rfl<|aN 21 [.tmp 2] Tryz.func32 rfl<|cR<|mW rfl<|mT<|cR<|mW rfl<|mT<|au<|au<|AW.wk (qV 3 3 49 4 (fun _ _=> .v undef) rfl rfl)<|aA<|mE 3 rfl<|mT<|aI<|dU (ι:=Nat) (fun (i:Nat)=>⟨21,[(0,.d (.one (.row 1 n (fun i _=> vI (c i))))),(5,.d (.one (.row 1 n (fun i _=> vI (c i))))),(6,dI (n:Int)),(7,dI (i:Int)),(3,.own 3)],[(3,.row 49 4 i (aJ 64 (rc c)))]⟩) (fun (i:Nat)=>i≤n) (fun (i:Nat)=>n-i) 0 (abR _) (wkv [] [0] trivial ⟨dX rfl (iY),Pe⟩ rfl rfl) ?_;rintro i hI;have hi:i≤n:=hI;show AW _ _ _ ⟨_,_,_⟩
 refine cR<|mW rfl<|mT<|au<|aW rfl (fun hc1=>?_) (fun hc1=>?_)
 ·refine aF<|tN<|au<|aI<|cR<|mE 2 rfl<|mT ?_;have hin:i < n:=by have h0:=abM hc1;omega
  refine aA<|mE 3 rfl<|mV aj (.d (.one (.at 1 ((fun i _=> vI (c i)) i)))) (jZ (el:=(fun i _=> vI (c i))) (z:=(i:Int)) (n:=n) rfl rfl rfl rfl rfl rfl (by omega) (by omega)) ?_;exact mW rfl<|mY (Ie (hb i hin).1 (hb i hin).2) rfl<|mB aj (.d (.one (.row 4 1 (fun i' j'=>((qn 64 ((c i:Int):Rat))[i'*4+j']?).getD (.v undef))))) rfl<|mA aj (id:=3) (n:=i) (m:=1) (el:=(aJ 64 (rc c))) (el2:=(fun i' j'=>((qn 64 ((c i:Int):Rat))[i'*4+j']?).getD (.v undef))) rfl rfl rfl (by show (i+1)*64≤140737488355328;omega) (by omega) rfl rfl rfl rfl rfl rfl rfl rfl rfl rfl<|mW rfl<|ak<|bN<|tN<|aA<|mE 2 rfl<|ak<|⟨(i+1),by omega,by omega,wkv [3] [0] ⟨fQ rfl (aG (dF (by omega))),Pe⟩ ⟨dX rfl (CU rfl (abJ _) (abJ _) rfl (fun _ _=>rfl)),Pe⟩ rfl rfl⟩
 ·refine dP<|tE<|tE<|bE<|tN<|au ?_;have hie:n=i:=by have h0:=abL hc1;omega
  subst hie;exact AW.wk (jl 3 rfl)<|aA<|mW rfl<|mY CO rfl<|mW rfl<|mT<|aH<|rQ rfl (AV.le.rfl)
theorem ajt{a:Lf}{K M n k:Nat}{c:Nat→Rat}(ha:F9 a K n c)(hM:max K 64≤M:=by first|decide|omega):aC Tryz.prog 173 [.one a,.one (vI (k:Int))] (.d (.agg (qn M (c k)))):=by
 obtain ⟨ha,za⟩:=ha;refine aC.le (dl (DV.l ha) (dl DV.same iP)) AV.le.rfl<|aN 18 [.cell 4 49] Tryz.func173 rfl<|cR<|mO rfl<|mT<|au<|cR<|mW rfl<|mdF rfl (by omega)<|mE 6 rfl<|mT<|aW rfl (fun hc1=>?_) (fun hc1=>?_)
 ·exact cR<|mY (EG) rfl<|mZ rfl<|mT<|aH<|tR<|rQ rfl (wI (by omega) (za k (by have h0:=abM hc1;omega)).symm)
 ·refine aF<|tN<|au ?_;have hkn:k < n:=by have h0:=abL hc1;omega
  refine aA<|mE 2 rfl<|mV aj (.d (.one (.at 4 ((aJ K c) k)))) (jZ (el:=(aJ K c)) (z:=(k:Int)) (n:=n) rfl rfl rfl rfl rfl rfl (by omega) (by omega)) ?_;exact mW rfl<|mZ rfl<|mT<|aH<|rQ rfl (wI (by omega) rfl)
theorem ajs{a b:Lf}{K L M n m:Nat}{c d:Nat→Rat}(ha:F9 a K n c)(hb:F9 b L m d)(hM:max (max K 64+max L 64+1) 64≤M:=by first|decide|omega)(hn:max n m≤1000000:=by first|decide|omega)(wU:M≤10000000:=by first|decide|omega):aC Tryz.prog 163 [.one a,.one b] (.d (.one (dM M (dg (mJ c d) (max n m)) (mJ c d)))):=by
 obtain ⟨ha,za⟩:=ha;obtain ⟨hb,zb⟩:=hb;refine aC.le (dl (DV.l ha) (dl (DV.l hb) iP)) AV.le.rfl<|aN 28 [.tmp 4] Tryz.func163 rfl<|cR<|mW rfl<|mT<|cR<|mW rfl<|mT<|au<|au<|AW.wk (qV 5 5 49 4 (fun _ _=> .v undef) rfl rfl)<|aA<|mW rfl<|mT<|aI<|dU (ι:=Nat) (fun (i:Nat)=>⟨28,[(0,.d (.one (.row 4 n (aJ K c)))),(1,.d (.one (.row 4 m (aJ L d)))),(6,dI (i:Int)),(5,.own 5)],[(5,.row 49 4 i (aJ M (mJ c d)))]⟩) (fun (i:Nat)=>i≤(max n m)) (fun (i:Nat)=>(max n m)-i) 0 (abR _) (wkv [] [0] trivial ⟨dX rfl (iY),Pe⟩ rfl rfl) ?_;rintro i hI;have hi:i≤(max n m):=hI;show AW _ _ _ ⟨_,_,_⟩
 refine au<|cR<|mE 5 rfl<|mV aj (dI ((max n m:Nat):Int)) (fM (aak n m))<|mW rfl<|mT<|aW rfl (fun hc1=>?_) (fun hc1=>?_)
 ·refine aF<|tN<|au<|aI ?_;have hin:i < (max n m):=by have h0:=abM hc1;omega
  exact aA<|mE 3 rfl<|mY (ajt (yE (K:=K) (c:=c) za) (M:=(max K 64))) rfl<|mE 2 rfl<|mY (ajt (yE (K:=L) (c:=d) zb) (M:=(max L 64))) rfl<|mY (Me (l7 (max K 64) (c i)) (l7 (max L 64) (d i)) (M:=(max ((max K 64)+(max L 64)+1) 64))) rfl<|mB aj (.d (.one (.row 4 1 (fun i' j'=>((qn (max ((max K 64)+(max L 64)+1) 64) ((c i)+(d i)))[i'*4+j']?).getD (.v undef))))) rfl<|mA aj (id:=5) (n:=i) (m:=1) (el:=(aJ M (mJ c d))) (el2:=(fun i' j'=>((qn (max ((max K 64)+(max L 64)+1) 64) ((c i)+(d i)))[i'*4+j']?).getD (.v undef))) rfl rfl rfl (by show (i+1)*64≤140737488355328;omega) (by omega) rfl rfl rfl rfl rfl rfl rfl rfl rfl rfl<|mW rfl<|ak<|bN<|tN<|aA<|mE 3 rfl<|ak<|⟨(i+1),by omega,by omega,wkv [2] [0] ⟨fQ rfl (aG (dF (by omega))),Pe⟩ ⟨dX rfl (CU rfl (abJ _) (by omega) rfl (fun _ _=>rfl)),Pe⟩ rfl rfl⟩
 ·refine dP<|tE<|tE<|bE<|tN<|au ?_;have hie:(max n m)=i:=by have h0:=abL hc1;omega
  subst hie;exact AW.wk (jl 5 rfl)<|aA<|mW rfl<|mY CO rfl<|mW rfl<|mT<|aH<|rQ rfl (AV.le.rfl)
theorem Gz{a:Lf}{b:List Lf}{K L M n:Nat}{c:Nat→Rat}{q:Rat}(ha:F9 a K n c)(hq:Rz b L q)(hM:max (K+L+1) 64≤M:=by first|decide|omega)(hn:n≤1000000:=by first|decide|omega)(wU:M≤10000000:=by first|decide|omega):aC Tryz.prog 109 [.one a,.agg b] (.d (.one (dM M (dg (gG c q) (n)) (gG c q)))):=by
 obtain ⟨ha,za⟩:=ha;refine aC.le (dl (DV.l ha) (dl (DV.g hq) iP)) AV.le.rfl<|aN 24 [.tmp 4] Tryz.func109 rfl<|cR<|mO rfl<|mW rfl<|mT<|cR<|mW rfl<|mT<|au<|au<|AW.wk (qV 5 5 49 4 (fun _ _=> .v undef) rfl rfl)<|aA<|mE 3 rfl<|mT<|aI<|dU (ι:=Nat) (fun (i:Nat)=>⟨24,[(0,.d (.one (.row 4 n (aJ K c)))),(7,.d (.one (.row 4 n (aJ K c)))),(8,dI (n:Int)),(3,.ptr 3 0),(9,dI (i:Int)),(5,.own 5)],[(3,.box 49 (qn L q)),(5,.row 49 4 i (aJ M (gG c q)))]⟩) (fun (i:Nat)=>i≤n) (fun (i:Nat)=>n-i) 0 (abR _) (wkv [] [1] trivial ⟨dX rfl (iY),Pe⟩ rfl rfl) ?_;rintro i hI;have hi:i≤n:=hI;show AW _ _ _ ⟨_,_,_⟩
 refine cR<|mW rfl<|mT<|au<|aW rfl (fun hc1=>?_) (fun hc1=>?_)
 ·refine aF<|tN<|au<|aI<|cR<|mE 2 rfl<|mT ?_;have hin:i < n:=by have h0:=abM hc1;omega
  refine cDk 8<|.cons (aB.V _ rfl)<|.cons (aB.V _ rfl)<|.cons (aB.V _ rfl)<|.cons (aB.V (.d (.one (.at 4 ((aJ K c) i)))) (jZ (el:=(aJ K c)) (z:=(i:Int)) (n:=n) rfl rfl rfl rfl rfl rfl (by omega) (by omega))) ?_;exact oE 2 rfl<|oC (MB (l7 K (c i)) (l7 L q) (M:=(max (K+L+1) 64))) rfl<|.cons (aB.B _ rfl)<|.nil<|mA aj (id:=5) (n:=i) (m:=1) (el:=(aJ M (gG c q))) (el2:=(fun i' j'=>((qn (max (K+L+1) 64) ((c i)*q))[i'*4+j']?).getD (.v undef))) rfl rfl rfl (by show (i+1)*64≤140737488355328;omega) (by omega) rfl rfl rfl rfl rfl rfl rfl rfl rfl rfl<|mW rfl<|ak<|bN<|tN<|aA<|mE 2 rfl<|ak<|⟨(i+1),by omega,by omega,wkv [4] [1] ⟨fQ rfl (aG (dF (by omega))),Pe⟩ ⟨dX rfl (CU rfl (abJ _) (by omega) rfl (fun _ _=>rfl)),Pe⟩ rfl rfl⟩
 ·refine dP<|tE<|tE<|bE<|tN<|au ?_;have hie:n=i:=by have h0:=abL hc1;omega
  subst hie;exact AW.wk (jl 5 rfl)<|aA<|mW rfl<|mY CO rfl<|mW rfl<|mT<|aH<|rQ rfl (AV.le.rfl)
def upd(c:Nat→Int)(i:Nat):Nat→Int:=fun p=>if p < i then c p else 0
theorem JI{c:Nat→Int}{i:Nat}:c i=upd c (i+1) i:=(if_pos (afB i)).symm
theorem Ue{c:Nat→Int}{i p:Nat}(h:p≠i):upd c i p=upd c (i+1) p:=by
 unfold upd
 by_cases h1:p < i
 ·rw [if_pos h1,if_pos (by omega)]
 ·rw [if_neg h1,if_neg (by omega)]
theorem agZ{n k:Nat}{f:Nat→Bool×List Nat}(h:k < n):fx n f k=f k:=if_pos h
theorem agY{n k:Nat}{f:Nat→Bool×List Nat}(h:¬ k < n):fx n f k=(false,[]):=if_neg h
theorem ahN{K:Nat}:AV.le (.d (.agg [.v (.bool false),.v (.slice none 0 0)])) (.d (.agg [.v (.bool false),lr K []])):=oH fun B w cs h=>match cs,h with | [_,_],⟨h1,h2,h3⟩=>⟨h1,TF K (fun _=>none) B w _ h2,h3⟩
theorem acd{K n k:Nat}{f:Nat→Bool×List Nat}:aC Tryz.prog 180 [.one (xA K n f),.one (vI (k:Int))] (.d (.agg [.v (.bool (fx n f k).1),lr K (fx n f k).2])):=by
 refine aN 14 [.cell 4 36] Tryz.func180 rfl<|cR<|mO rfl<|mT<|au<|cR<|mE 4 rfl<|mT<|aW rfl (fun hc1=>?_) (fun hc1=>?_)
 ·refine au ?_;have hkn:k < n:=by have h0:=abM hc1;omega
  refine aA<|mE 2 rfl<|mV aj (.d (.one (.at 2 ((qw K f) k)))) (jZ (el:=(qw K f)) (z:=(k:Int)) (n:=n) rfl rfl rfl rfl rfl rfl (by omega) (by omega)) ?_;exact mW rfl<|mZ rfl<|mT<|aH<|tR<|rQ rfl (by rw [agZ (by have h0:=of_decide_eq_true hc1;omega)];exact AV.le.rfl)
 ·exact aF<|tN<|cR<|mW rfl<|mZ rfl<|mT<|aH<|rQ rfl (by rw [agY (by have h0:=of_decide_eq_false hc1;omega)];exact ahN)
theorem OW{f:FuncId}{nc:Nat}{caps:Nat→Lf}{n K:Nat}{c:Nat→Int}(hf:∀ i,i < n→aC Tryz.prog f (.one (vI (i:Int)) ::KL caps 0 nc) (.d (.agg (zn K (c i)))))(hn:n≤1000000:=by first|decide|omega):aC Tryz.prog 149 [.one (vI (n:Int)),.one (.fn f nc caps)] (.d (.one (iC K (dg c n) c))):=by
 refine aN 23 [.tmp 4] Tryz.func149 rfl<|cR<|mW rfl<|mT<|cR<|mW rfl<|mN aj (.row 36 2 n (fun _ j=> .v ((([Value.bool false,Value.slice none 0 0]:List Value)[j]?).getD undef))) (mkO (zl:=(n:Int)) (zc:=(n:Int)) (Rj:=32) rfl rfl rfl rfl rfl (by omega) (by omega) rfl rfl rfl (by omega) (by omega) rfl) rfl rfl<|mW rfl<|mT<|au<|cR<|mE 3 rfl<|mT<|aI<|dU (ι:=Nat) (fun (i:Nat)=>⟨23,[(1,.d (.one (.fn f nc caps))),(10,dI (n:Int)),(11,dI (i:Int)),(5,.own 8)],[(8,.row 36 2 n (cO K (upd c i)))]⟩) (fun (i:Nat)=>i≤n) (fun (i:Nat)=>n-i) 0 (abR _) (wkv [] [0] trivial ⟨dX rfl (wJ (fun i _=>if_neg (ab2 _))),Pe⟩ rfl rfl) ?_;rintro i hI;have hi:i≤n:=hI;show AW _ _ _ ⟨_,_,_⟩
 refine cR<|mW rfl<|mT<|au<|aW rfl (fun hc1=>?_) (fun hc1=>?_)
 ·refine aF<|tN<|au<|aI<|cR<|mE 2 rfl<|mT ?_;have hin:i < n:=by have h0:=abM hc1;omega
  exact aA<|mE 4 rfl<|mC (hf i hin) rfl rfl rfl<|mV aj (.dW 8 2 i 0) (qG (z:=(i:Int)) (n:=n) rfl rfl rfl rfl rfl rfl rfl (by omega) (by omega))<|mZ rfl<|ak<|bN<|tN<|aA<|mE 2 rfl<|ak<|⟨(i+1),by omega,by omega,wkv [2] [0] ⟨fQ rfl (aG (dF (by omega))),Pe⟩ ⟨dX rfl (Xh (abJ _) (abJ _) JI (fun p _ hp=>Ue hp)),Pe⟩ rfl rfl⟩
 ·refine dP<|tE<|tE<|bE<|tN<|au ?_;have hie:n=i:=by have h0:=abL hc1;omega
  subst hie;exact AW.wk (jl 8 rfl)<|iV 5 (.d (.one (.row 2 n (cO K c)))) rfl (gq (D9 (abJ _) (fun i hi=>if_pos hi)))<|aA<|mW rfl<|mY XV rfl<|mW rfl<|mT<|aH<|rQ rfl (AV.le.rfl)
theorem agd{K L M n m k:Nat}{fa fb:Nat→Bool×List Nat}{c d:Nat→Int}(ea:∀ i,i < n→Zc fa i=c i)(za:∀ i,n≤i→c i=0)(eb:∀ i,i < m→Zc fb i=d i)(zb:∀ i,m≤i→d i=0)(hM:max K L+1≤M)(wU:M≤1000000000):aC Tryz.prog 179 [.one (vI (k:Int)),.one (.at 1 (fun q=>(([.row 2 n (qw K fa)]:List Lf)[0+q]?).getD (.v undef))),.one (.at 1 (fun q=>(([.row 2 m (qw L fb)]:List Lf)[0+q]?).getD (.v undef)))] (.d (.agg (zn M (nY c d k)))):=by
 exact aN 12 [.cell 4 36] Tryz.func179 rfl<|cR<|mO rfl<|mT<|au<|cDk 7<|oV rfl<|.cons (aB.V _ rfl)<|oC acd rfl<|oV rfl<|.cons (aB.V _ rfl)<|oC acd rfl<|oC (XO ⟨_,_,fun _ _ _ h=>h,ac2 ea za⟩ ⟨_,_,fun _ _ _ h=>h,ac2 eb zb⟩ (M:=(max K L+1)) (by omega) (by omega) (by omega)) rfl<|.nil<|mZ rfl<|mT<|aH<|rQ rfl (jQ hM rfl)
theorem aeI{a b:Lf}{K L M n m:Nat}{c d:Nat→Int}(ha:qI a K n c)(hb:qI b L m d)(hM:max K L+1≤M:=by first|decide|omega)(hn:max n m≤1000000:=by first|decide|omega)(wU:M≤1000000000:=by first|decide|omega):aC Tryz.prog 168 [.one a,.one b] (.d (.one (iC M (dg (nY c d) (max n m)) (nY c d)))):=by
 obtain ⟨⟨fa,ha,ea⟩,za⟩:=ha;obtain ⟨⟨fb,hb,eb⟩,zb⟩:=hb;exact aC.le (dl (DV.l ha) (dl (DV.l hb) iP)) AV.le.rfl<|aN 12 [.tmp 4] Tryz.func168 rfl<|cR<|mO rfl<|mO rfl<|mW rfl<|mT<|au<|AW.wk (F7 2 rfl)<|AW.wk (F7 3 rfl)<|aA<|mE 4 rfl<|mV aj (dI ((max n m:Nat):Int)) (fM (aak n m))<|mW rfl<|mY (OW (K:=M) (c:=(nY c d)) (fun i hi=>agd ea za eb zb hM wU)) rfl<|mW rfl<|mT<|aH<|rQ rfl (AV.le.rfl)
theorem agk{K L M n m k:Nat}{fa fb:Nat→Bool×List Nat}{c d:Nat→Int}(ea:∀ i,i < n→Zc fa i=c i)(za:∀ i,n≤i→c i=0)(eb:∀ i,i < m→Zc fb i=d i)(zb:∀ i,m≤i→d i=0)(hM:max K L+1≤M)(wU:M≤1000000000):aC Tryz.prog 182 [.one (vI (k:Int)),.one (.at 1 (fun q=>(([.row 2 n (qw K fa)]:List Lf)[0+q]?).getD (.v undef))),.one (.at 1 (fun q=>(([.row 2 m (qw L fb)]:List Lf)[0+q]?).getD (.v undef)))] (.d (.agg (zn M (pI c d k)))):=by
 exact aN 12 [.cell 4 36] Tryz.func182 rfl<|cR<|mO rfl<|mT<|au<|cDk 7<|oV rfl<|.cons (aB.V _ rfl)<|oC acd rfl<|oV rfl<|.cons (aB.V _ rfl)<|oC acd rfl<|oC (ajB ⟨_,_,fun _ _ _ h=>h,ac2 ea za⟩ ⟨_,_,fun _ _ _ h=>h,ac2 eb zb⟩ (M:=(max K L+1)) (by omega) (by omega) (by omega)) rfl<|.nil<|mZ rfl<|mT<|aH<|rQ rfl (jQ hM rfl)
theorem aeK{a b:Lf}{K L M n m:Nat}{c d:Nat→Int}(ha:qI a K n c)(hb:qI b L m d)(hM:max K L+1≤M:=by first|decide|omega)(hn:max n m≤1000000:=by first|decide|omega)(wU:M≤1000000000:=by first|decide|omega):aC Tryz.prog 170 [.one a,.one b] (.d (.one (iC M (dg (pI c d) (max n m)) (pI c d)))):=by
 obtain ⟨⟨fa,ha,ea⟩,za⟩:=ha;obtain ⟨⟨fb,hb,eb⟩,zb⟩:=hb;exact aC.le (dl (DV.l ha) (dl (DV.l hb) iP)) AV.le.rfl<|aN 12 [.tmp 4] Tryz.func170 rfl<|cR<|mO rfl<|mO rfl<|mW rfl<|mT<|au<|AW.wk (F7 2 rfl)<|AW.wk (F7 3 rfl)<|aA<|mE 4 rfl<|mV aj (dI ((max n m:Nat):Int)) (fM (aak n m))<|mW rfl<|mY (OW (K:=M) (c:=(pI c d)) (fun i hi=>agk ea za eb zb hM wU)) rfl<|mW rfl<|mT<|aH<|rQ rfl (AV.le.rfl)
theorem agi{K n k:Nat}{fa:Nat→Bool×List Nat}{c:Nat→Int}(ea:∀ i,i < n→Zc fa i=c i)(hk:k < n)(hK:K≤1000000000):aC Tryz.prog 172 [.one (vI (k:Int)),.one (.at 1 (fun q=>(([.row 2 n (qw K fa)]:List Lf)[0+q]?).getD (.v undef)))] (.d (.agg (zn K (iE c k)))):=by
 refine aN 9 [.cell 3 36] Tryz.func172 rfl<|cR<|mO rfl<|mT<|cR<|mE 2 rfl<|mV aj (.d (.one (.at 2 ((qw K fa) k)))) (jZ (el:=(qw K fa)) (z:=(k:Int)) (n:=n) rfl rfl rfl rfl rfl rfl (by omega) (by omega)) ?_;exact mW rfl<|mY (ab9 ⟨_,_,fun _ _ _ h=>h,ea k (by omega)⟩ (by omega)) rfl<|mZ rfl<|mT<|aH<|rQ rfl (jQ (abJ _) rfl)
theorem ajq{a:Lf}{K n:Nat}{c:Nat→Int}(ha:qI a K n c)(hn:n≤1000000:=by first|decide|omega)(hK:K≤1000000000:=by first|decide|omega):aC Tryz.prog 159 [.one a] (.d (.one (iC K (dg (iE c) (n)) (iE c)))):=by
 obtain ⟨⟨fa,ha,ea⟩,za⟩:=ha;exact aC.le (dl (DV.l ha) iP) AV.le.rfl<|aN 7 [.tmp 2] Tryz.func159 rfl<|cR<|mO rfl<|mW rfl<|mT<|au<|AW.wk (F7 1 rfl)<|aA<|mE 3 rfl<|mY (OW (K:=K) (c:=(iE c)) (fun i hi=>agi ea hi hK)) rfl<|mW rfl<|mT<|aH<|rQ rfl (AV.le.rfl)
theorem XY{K n k:Nat}{fa:Nat→Bool×List Nat}{c:Nat→Int}(ea:∀ i,i < n→Zc fa i=c i){L M:Nat}{s:Bool}{xs:List Nat}{y:Int}(hy:zv s (val xs)=y)(hk:k < n)(hM:K+L≤M)(wU:M≤1000000000):aC Tryz.prog 181 [.one (vI (k:Int)),.one (.at 1 (fun q=>(([.row 2 n (qw K fa)]:List Lf)[0+q]?).getD (.v undef))),.one (.at 2 (fun q=>(([.v (.bool s),lr L xs]:List Lf)[0+q]?).getD (.v undef)))] (.d (.agg (zn M (iW c y k)))):=by
 refine aN 11 [.cell 4 36] Tryz.func181 rfl<|cR<|mO rfl<|mT<|au<|cDk 6<|oV rfl<|.cons (aB.V _ rfl)<|.cons (aB.V (.d (.one (.at 2 ((qw K fa) k)))) (jZ (el:=(qw K fa)) (z:=(k:Int)) (n:=n) rfl rfl rfl rfl rfl rfl (by omega) (by omega))) ?_;exact oE 2 rfl<|oC (J4 ⟨_,_,fun _ _ _ h=>h,ea k (by omega)⟩ ⟨_,_,fun _ _ _ h=>h,hy⟩ (M:=(K+L)) (by omega) (by omega) (by omega)) rfl<|.nil<|mZ rfl<|mT<|aH<|rQ rfl (jQ hM rfl)
theorem Gs{a:Lf}{b:List Lf}{K L M n:Nat}{c:Nat→Int}{y:Int}(ha:qI a K n c)(hb:Gg b L y)(hM:K+L≤M:=by first|decide|omega)(hn:n≤1000000:=by first|decide|omega)(wU:M≤1000000000:=by first|decide|omega):aC Tryz.prog 169 [.one a,.agg b] (.d (.one (iC M (dg (iW c y) (n)) (iW c y)))):=by
 obtain ⟨⟨fa,ha,ea⟩,za⟩:=ha;obtain ⟨s,xs,hb,hy⟩:=hb;exact aC.le (dl (DV.l ha) (dl (DV.z hb) iP)) AV.le.rfl<|aN 9 [.tmp 4] Tryz.func169 rfl<|cR<|mO rfl<|mO rfl<|mW rfl<|mT<|au<|AW.wk (F7 2 rfl)<|AW.wk (F7 3 rfl)<|aA<|mE 3 rfl<|mY (OW (K:=M) (c:=(iW c y)) (fun i hi=>XY ea hy hi hM wU)) rfl<|mW rfl<|mT<|aH<|rQ rfl (AV.le.rfl)
theorem agf{K n k:Nat}{fa:Nat→Bool×List Nat}{c:Nat→Int}(ea:∀ i,i < n→Zc fa i=c i){M:Nat}(hk:k+1 < n)(hn:n≤1000000)(hM:K+2≤M)(wU:M≤1000000000):aC Tryz.prog 150 [.one (vI (k:Int)),.one (.at 1 (fun q=>(([.row 2 n (qw K fa)]:List Lf)[0+q]?).getD (.v undef)))] (.d (.agg (zn M (bP c k)))):=by
 refine aN 13 [.cell 3 36] Tryz.func150 rfl<|cR<|mO rfl<|mT<|au<|cDk 9<|oV rfl<|.cons (aB.V _ rfl)<|.cons (aB.V (dI ((k+1:Nat):Int)) (fM (dF (by omega))))<|.cons (aB.V (.d (.one (.at 2 ((qw K fa) (k+1))))) (jZ (el:=(qw K fa)) (z:=((k+1:Nat):Int)) (n:=n) rfl rfl rfl rfl rfl rfl (by omega) (by omega))) ?_;exact oV rfl<|.cons (aB.V _ rfl)<|.cons (aB.V (dI ((k+1:Nat):Int)) (fM (dF (by omega))))<|oC aOf rfl<|oC (J4 ⟨_,_,fun _ _ _ h=>h,ea (k+1) (by omega)⟩ (qF 2 ((k+1:Nat):Int)) (M:=(K+2)) (by omega) (by omega) (by decide)) rfl<|.nil<|mZ rfl<|mT<|aH<|rQ rfl (jQ hM rfl)
theorem ajp{a:Lf}{K M n:Nat}{c:Nat→Int}(ha:qI a K n c)(hM:K+2≤M:=by first|decide|omega)(hn:n≤1000000:=by first|decide|omega)(wU:M≤1000000000:=by first|decide|omega):aC Tryz.prog 127 [.one a] (.d (.one (iC M (dg (bP c) (n-1)) (bP c)))):=by
 obtain ⟨⟨fa,ha,ea⟩,za⟩:=ha;refine aC.le (dl (DV.l ha) iP) AV.le.rfl<|aN 9 [.tmp 2] Tryz.func127 rfl<|cR<|mO rfl<|mW rfl<|mT<|au<|AW.wk (F7 1 rfl)<|aA<|mE 2 rfl<|mV aj (dI ((n:Int)-1)) (fM (eu (by omega) (by omega))) ?_;refine mV aj (dI ((n-1:Nat):Int)) (fM (by rw [if_pos rfl];split <;> omega)) ?_;exact mW rfl<|mY (OW (K:=M) (c:=(bP c)) (fun i hi=>agf ea (by omega) hn hM wU)) rfl<|mW rfl<|mT<|aH<|rQ rfl (AV.le.rfl)
theorem uN{a:Lf}{K n:Nat}{c:Nat→Int}(ha:qI a K n c)(hn:n≤1000000:=by first|decide|omega)(hK:K≤1000000000:=by first|decide|omega):aC Tryz.prog 99 [.one a] (.d (.one (iC K (dg c (n)) c))):=by
 obtain ⟨⟨fa,ha,ea⟩,za⟩:=ha;refine aC.le (dl (DV.l ha) iP) AV.le.rfl<|aN 24 [.tmp 2] Tryz.func99 rfl<|cR<|mW rfl<|mT<|cR<|mE 2 rfl<|mN aj (.row 36 2 n (fun _ j=> .v ((([Value.bool false,Value.slice none 0 0]:List Value)[j]?).getD undef))) (mkO (zl:=(n:Int)) (zc:=(n:Int)) (Rj:=32) rfl rfl rfl rfl rfl (by omega) (by omega) rfl rfl rfl (by omega) (by omega) rfl) rfl rfl<|mW rfl<|mT<|au<|cR<|mE 3 rfl<|mT<|aI<|dU (ι:=Nat) (fun (i:Nat)=>⟨24,[(9,.d (.one (.row 2 n (qw K fa)))),(10,dI (n:Int)),(11,dI (i:Int)),(3,.own 8)],[(8,.row 36 2 n (cO K (upd c i)))]⟩) (fun (i:Nat)=>i≤n) (fun (i:Nat)=>n-i) 0 (abR _) (wkv [] [0] trivial ⟨dX rfl (wJ (fun i _=>if_neg (ab2 _))),Pe⟩ rfl rfl) ?_;rintro i hI;have hi:i≤n:=hI;show AW _ _ _ ⟨_,_,_⟩
 refine cR<|mW rfl<|mT<|au<|aW rfl (fun hc1=>?_) (fun hc1=>?_)
 ·refine aF<|tN<|au<|aI<|au ?_;have hin:i < n:=by have h0:=abM hc1;omega
  refine aA<|mW rfl<|mV aj (.d (.one (.at 2 ((qw K fa) i)))) (jZ (el:=(qw K fa)) (z:=(i:Int)) (n:=n) rfl rfl rfl rfl rfl rfl (by omega) (by omega)) ?_;exact mW rfl<|mO rfl<|mW rfl<|mZ rfl<|mT<|aA<|mE 3 rfl<|mY (Un ⟨_,_,fun _ _ _ h=>h,ea i (by omega)⟩ (by omega)) rfl<|mV aj (.dW 8 2 i 0) (qG (z:=(i:Int)) (n:=n) rfl rfl rfl rfl rfl rfl rfl (by omega) (by omega))<|mZ rfl<|ak<|bN<|tN<|aA<|mE 2 rfl<|ak<|⟨(i+1),by omega,by omega,wkv [2] [0] ⟨fQ rfl (aG (dF (by omega))),Pe⟩ ⟨dX rfl (Xh (abJ _) (abJ _) JI (fun p _ hp=>Ue hp)),Pe⟩ rfl rfl⟩
 ·refine dP<|tE<|tE<|bE<|tN<|au ?_;have hie:n=i:=by have h0:=abL hc1;omega
  subst hie;exact AW.wk (jl 8 rfl)<|iV 3 (.d (.one (.row 2 n (cO K c)))) rfl (gq (D9 (abJ _) (fun i hi=>if_pos hi)))<|aA<|mW rfl<|mY XV rfl<|mW rfl<|mT<|aH<|rQ rfl (AV.le.rfl)
theorem aeJ{a b:Lf}{K L M n m D:Nat}{c d:Nat→Int}(ha:qI a K n c)(hb:qI b L m d)(hD:n≤D:=by omega)(hm:m≤1000:=by omega)(hM:K+L+1+D*1000≤M:=by first|decide|omega)(hDD:D≤1000:=by decide)(wU:M≤1000000000:=by first|decide|omega):aC Tryz.prog 171 [.one a,.one b] (.d (.one (iC M (dg (aY c d) (n+m)) (aY c d)))):=by
 obtain ⟨⟨fa,ha,ea⟩,za⟩:=ha;obtain ⟨⟨fb,hb,eb⟩,zb⟩:=hb;refine aC.le (dl (DV.l ha) (dl (DV.l hb) iP)) AV.le.rfl<|aN 62 [.tmp 4] Tryz.func171 rfl<|cR<|mW rfl<|mT<|cR<|mW rfl<|mY (uN (⟨⟨fa,fun _ _ _ h=>h,ea⟩,za⟩:qI (xA K n fa) K n c)) rfl<|mW rfl<|mY (uN (⟨⟨fb,fun _ _ _ h=>h,eb⟩,zb⟩:qI (xA L m fb) L m d)) rfl<|mE 2 rfl<|mT<|au<|au ?_;have hla:=rW c n;have hlb:=rW d m
 by_cases h0a:(dg c n)=0
 ·exact aA<|mE 2 rfl<|mbT rfl (by rw [h0a];rfl)<|mW rfl<|mG rfl rfl<|mG rfl rfl<|mG rfl rfl<|mW rfl<|mT<|cT rfl<|cR<|mW rfl<|mT<|aH<|tR<|rQ rfl (Fe (xJ (xH (Il za h0a)) _))
 ·by_cases h0b:(dg d m)=0
  ·exact aA<|mE 2 rfl<|mbF rfl (abX.2 fun e=>h0a (by omega))<|mE 3 rfl<|mbT rfl (by rw [h0b];rfl)<|mW rfl<|mT<|cT rfl<|cR<|mW rfl<|mT<|aH<|tR<|rQ rfl (Fe (xJ (acL (Il zb h0b)) _))
  ·refine aA<|mE 2 rfl<|mbF rfl (abX.2 fun e=>h0a (by omega))<|mE 3 rfl<|mbF rfl (abX.2 fun e=>h0b (by omega))<|mW rfl<|mT<|cFs rfl<|cR<|mE 4 rfl<|mV aj (dI ((dg c n+dg d m:Nat):Int)) (fM ((eu (by omega) (by omega)).trans (by omega)))<|mV aj (dI ((dg c n+dg d m-1:Nat):Int)) (fM ((eu (by omega) (by omega)).trans (by omega)))<|mN aj (.row 36 2 (dg c n+dg d m-1) (fun _ j=> .v ((([Value.bool false,Value.slice none 0 0]:List Value)[j]?).getD undef))) (mkO (zl:=((dg c n+dg d m-1:Nat):Int)) (zc:=((dg c n+dg d m-1:Nat):Int)) (Rj:=32) rfl rfl rfl rfl rfl (by omega) (by omega) rfl rfl rfl (by omega) (by omega) rfl) rfl rfl<|mW rfl<|mT<|au<|cR<|mE 3 rfl<|mT<|aI<|dU (ι:=Nat) (fun (i:Nat)=>⟨62,[(1,.d (.one (.row 2 (dg d m) (cO L d)))),(5,.own 28),(29,.d (.one (.row 2 (dg c n) (cO K c)))),(30,dI ((dg c n:Nat):Int)),(31,dI (i:Int))],[(28,.row 36 2 (dg c n+dg d m-1) (cO (K+L+1+i*1000) (cv c d i)))]⟩) (fun (i:Nat)=>i≤dg c n) (fun (i:Nat)=>dg c n-i) 0 (abR _) (wkv [] [0] trivial ⟨dX rfl (wJ (fun _ _=>rfl)),Pe⟩ rfl rfl) ?_;rintro i hI;have hi:i≤dg c n:=hI;show AW _ _ _ ⟨_,_,_⟩
   refine cR<|mW rfl<|mT<|au<|aW rfl (fun hc1=>?_) (fun hc1=>?_)
   ·refine aF<|tN<|au<|aI<|au ?_;have hia:i < dg c n:=by have h0:=abM hc1;omega
    refine aA<|mW rfl<|mV aj (.d (.one (.at 2 ((cO K c) i)))) (jZ (el:=(cO K c)) (z:=(i:Int)) (n:=(dg c n)) rfl rfl rfl rfl rfl rfl (by omega) (by omega)) ?_;refine mW rfl<|mO rfl<|mW rfl<|mZ rfl<|mT<|cR<|mE 3 rfl<|mT<|aI<|dU (ι:=Nat) (fun (k:Nat)=>⟨62,[(1,.d (.one (.row 2 (dg d m) (cO L d)))),(5,.own 28),(29,.d (.one (.row 2 (dg c n) (cO K c)))),(30,dI ((dg c n:Nat):Int)),(31,dI (i:Int)),(6,dI (i:Int)),(7,.ptr 7 0),(36,.d (.one (.row 2 (dg d m) (cO L d)))),(37,dI ((dg d m:Nat):Int)),(38,dI (k:Int))],[(7,.box 36 (zn K (c i))),(28,.row 36 2 (dg c n+dg d m-1) (cO (K+L+1+i*1000+k) (SE c d i k)))]⟩) (fun (k:Nat)=>k≤dg d m) (fun (k:Nat)=>dg d m-k) 0 (abR _) (wkv [] [1] trivial ⟨dX rfl (Qg (by omega) (fun j _=>YO.symm)),Pe⟩ rfl rfl) ?_;rintro k hI;have hk:k≤dg d m:=hI;show AW _ _ _ ⟨_,_,_⟩
    refine cR<|mW rfl<|mT<|au<|aW rfl (fun hc2=>?_) (fun hc2=>?_)
    ·refine aF<|tN<|au<|aI<|au ?_;have hkb:k < dg d m:=by have h0:=abM hc2;omega
     refine aA<|mW rfl<|mV aj (.d (.one (.at 2 ((cO L d) k)))) (jZ (el:=(cO L d)) (z:=(k:Int)) (n:=(dg d m)) rfl rfl rfl rfl rfl rfl (by omega) (by omega)) ?_;exact mW rfl<|mO rfl<|mW rfl<|mZ rfl<|mT<|cDk 15<|.cons (aB.V _ rfl)<|.cons (aB.V _ rfl)<|.cons (aB.V _ rfl)<|.cons (aB.V (dI ((i+k:Nat):Int)) (fM ((eu (by omega) (by omega)).trans (by omega))))<|.cons (aB.V _ rfl)<|.cons (aB.V _ rfl)<|.cons (aB.V _ rfl)<|.cons (aB.V (dI ((i+k:Nat):Int)) (fM ((eu (by omega) (by omega)).trans (by omega))))<|.cons (aB.V (.dW 28 2 (i+k) 0) (qG (z:=((i+k:Nat):Int)) (n:=(dg c n+dg d m-1)) rfl rfl rfl rfl rfl rfl rfl (by omega) (by omega)))<|oE 3 rfl<|oC (J4 (qF K (c i)) (qF L (d k)) (M:=(K+L))) rfl<|oC (XO (qF (K+L+1+i*1000+k) (SE c d i k (i+k))) (qF (K+L) ((c i)*(d k))) (M:=(max (K+L+1+i*1000+k) (K+L)+1))) rfl<|.cons (aB.V (.dW 28 2 (i+k) 0) (qG (z:=((i+k:Nat):Int)) (n:=(dg c n+dg d m-1)) rfl rfl rfl rfl rfl rfl rfl (by omega) (by omega)))<|.nil<|mZ rfl<|ak<|bN<|tN<|aA<|mE 2 rfl<|ak<|⟨(k+1),by omega,by omega,wkv [9] [1] ⟨fQ rfl (aG (dF (by omega))),Pe⟩ ⟨dX rfl (Xh (by omega) (by omega) YN (fun p _ hp=>Wl hp)),Pe⟩ rfl rfl⟩
    ·refine dP<|tE<|tE<|bE<|bN<|tN ?_;have hke:dg d m=k:=by have h0:=abL hc2;omega
     subst hke;exact aA<|mE 2 rfl<|ak<|⟨(i+1),by omega,by omega,wkv [4] [0] ⟨fQ rfl (aG (dF (by omega))),Pe⟩ ⟨dX rfl (Qg (by omega) (fun j _=>acP (nX zb))),Pe⟩ rfl rfl⟩
   ·refine dP<|tE<|tE<|bE<|tN<|au ?_;have hie:dg c n=i:=by have h0:=abL hc1;omega
    subst hie;exact AW.wk (jl 28 rfl)<|iV 5 (.d (.one (.row 2 (dg c n+dg d m-1) (cO M (aY c d))))) rfl (gq (D9 (by omega) (fun j _=>UH (nX za))))<|aA<|mW rfl<|mY XV rfl<|mW rfl<|mT<|aH<|rQ rfl (qZ (abJ _) (PD (fun j hj=>nR (nX za) (nX zb) (by omega)) (fun j hj=>nR za zb (by omega))) (fun _ _=>rfl))
theorem ajv{a b:Lf}{K L M n m D:Nat}{c d:Nat→Rat}(ha:F9 a K n c)(hb:F9 b L m d)(hD:n≤D)(hm:m≤1000)(hM:(D+1)*(K+L+66)≤M:=by first|decide|omega)(hDD:D≤1000:=by decide)(wU:M≤10000000:=by first|decide|omega):aC Tryz.prog 95 [.one a,.one b] (.d (.one (dM M (dg (aY c d) (n+m)) (aY c d)))):=by
 obtain ⟨ha,za⟩:=ha;obtain ⟨hb,zb⟩:=hb;refine aC.le (dl (DV.l ha) (dl (DV.l hb) iP)) AV.le.rfl ?_;obtain ⟨R,hR0,hR1,hRM⟩:∃ R:Nat→Nat,64≤R 0∧(∀ i,R i+(K+L+66)≤R (i+1))∧∀ i,i≤n→R i≤M:=⟨fun i=>(i+1)*(K+L+66),by simp,fun i=>by show (i+1)*(K+L+66)+(K+L+66)≤(i+1+1)*(K+L+66);rw [Nat.succ_mul (i+1)];exact abJ _,fun i hi=>acS (abN _ (by omega)) hM⟩
 refine aN 69 [.tmp 4] Tryz.func95 rfl<|cR<|mW rfl<|mT<|au<|au ?_
 by_cases h0a:n=0
 ·exact aA<|mE 2 rfl<|mbT rfl (by rw [h0a];rfl)<|mW rfl<|mG rfl rfl<|mG rfl rfl<|mG rfl rfl<|mW rfl<|mT<|cT rfl<|cR<|mW rfl<|mT<|aH<|tR<|rQ rfl (Fg (xJ (YC (fun i=>za i (by omega))) _))
 ·by_cases h0b:m=0
  ·exact aA<|mE 2 rfl<|mbF rfl (abX.2 fun e=>h0a (by omega))<|mE 3 rfl<|mbT rfl (by rw [h0b];rfl)<|mW rfl<|mT<|cT rfl<|cR<|mW rfl<|mT<|aH<|tR<|rQ rfl (Fg (xJ (YD (fun i=>zb i (by omega))) _))
  ·refine aA<|mE 2 rfl<|mbF rfl (abX.2 fun e=>h0a (by omega))<|mE 3 rfl<|mbF rfl (abX.2 fun e=>h0b (by omega))<|mW rfl<|mT<|cFs rfl<|cR<|mE 4 rfl<|mV aj (dI ((n+m:Nat):Int)) (fM ((eu (by omega) (by omega)).trans (by omega)))<|mV aj (dI ((n+m-1:Nat):Int)) (fM ((eu (by omega) (by omega)).trans (by omega)))<|mN aj (.row 49 4 (n+m-1) (fun _ j=> .v ((([Value.slice none 0 0,Value.bool false,Value.slice none 0 0,Value.bool false]:List Value)[j]?).getD undef))) (mkO (zl:=((n+m-1:Nat):Int)) (zc:=((n+m-1:Nat):Int)) (Rj:=64) rfl rfl rfl rfl rfl (by omega) (by omega) rfl rfl rfl (by omega) (by omega) rfl) rfl rfl<|mW rfl<|mT<|au<|cR<|mE 3 rfl<|mT<|aI<|dU (ι:=Nat) (fun (i:Nat)=>⟨69,[(0,.d (.one (.row 4 n (aJ K c)))),(1,.d (.one (.row 4 m (aJ L d)))),(5,.own 23),(25,dI ((n+m-1:Nat):Int)),(26,dI (i:Int))],[(23,.row 49 4 (n+m-1) (BP 64 i (fun _=>0) (fun j=> .v ((([Value.slice none 0 0,Value.bool false,Value.slice none 0 0,Value.bool false]:List Value)[j]?).getD undef))))]⟩) (fun (i:Nat)=>i≤n+m-1) (fun (i:Nat)=>n+m-1-i) 0 (abR _) (wkv [] [0] trivial ⟨dX rfl (I4),Pe⟩ rfl rfl) ?_;rintro i hI;have hi:i≤n+m-1:=hI;show AW _ _ _ ⟨_,_,_⟩
   refine cR<|mW rfl<|mT<|au<|aW rfl (fun hc1=>?_) (fun hc1=>?_)
   ·refine aF<|tN<|au<|aI<|au ?_;have hin:i < n+m-1:=by have h0:=abM hc1;omega
    exact aA<|mE 2 rfl<|mT<|aA<|mE 2 rfl<|mY (EG) rfl<|mV aj (.dW 23 4 i 0) (qG (z:=(i:Int)) (n:=(n+m-1)) rfl rfl rfl rfl rfl rfl rfl (by omega) (by omega))<|mZ rfl<|ak<|bN<|tN<|aA<|mE 2 rfl<|ak<|⟨(i+1),by omega,by omega,wkv [4] [0] ⟨fQ rfl (aG (dF (by omega))),Pe⟩ ⟨dX rfl (TY (abJ _) rfl),Pe⟩ rfl rfl⟩
   ·refine dP<|tE<|tE<|bE<|tN<|au<|au ?_;have hie:n+m-1=i:=by have h0:=abL hc1;omega
    subst hie;refine aA<|mE 3 rfl<|mT<|aI<|dU (ι:=Nat) (fun (i:Nat)=>⟨69,[(0,.d (.one (.row 4 n (aJ K c)))),(1,.d (.one (.row 4 m (aJ L d)))),(5,.own 23),(35,dI (n:Int)),(36,dI (i:Int))],[(23,.row 49 4 (n+m-1) (Oh (fun _=>R i) (cv c d i)))]⟩) (fun (i:Nat)=>i≤n) (fun (i:Nat)=>n-i) 0 (abR _) (wkv [] [0] trivial ⟨dX rfl (NH (fun p _=>hR0) (fun _ _=>rfl)),Pe⟩ rfl rfl) ?_;rintro i hI;have hi2:i≤n:=hI;show AW _ _ _ ⟨_,_,_⟩
    refine cR<|mW rfl<|mT<|au<|aW rfl (fun hc2=>?_) (fun hc2=>?_)
    ·refine aF<|tN<|au<|aI<|au ?_;have hia:i < n:=by have h0:=abM hc2;omega
     have hR:=hR1 i;have hRm:=hRM (i+1) hia;refine aA<|mE 2 rfl<|mT<|cR<|mE 3 rfl<|mT<|aI<|dU (ι:=Nat) (fun (k:Nat)=>⟨69,[(0,.d (.one (.row 4 n (aJ K c)))),(1,.d (.one (.row 4 m (aJ L d)))),(5,.own 23),(35,dI (n:Int)),(36,dI (i:Int)),(7,dI (i:Int)),(40,dI (m:Int)),(41,dI (k:Int))],[(23,.row 49 4 (n+m-1) (Oh (kf R i k) (Bo c d i k)))]⟩) (fun (k:Nat)=>k≤m) (fun (k:Nat)=>m-k) 0 (abR _) (wkv [] [0] trivial ⟨dX rfl (Qh (fun p _=>ZP) (fun j _=>Wj.symm)),Pe⟩ rfl rfl) ?_;rintro k hI;have hk:k≤m:=hI;show AW _ _ _ ⟨_,_,_⟩
     refine cR<|mW rfl<|mT<|au<|aW rfl (fun hc3=>?_) (fun hc3=>?_)
     ·refine aF<|tN<|au<|aI<|au ?_;have hkb:k < m:=by have h0:=abM hc3;omega
      have hkf:kf R i k (i+k)=R i:=alp;refine aA<|mE 2 rfl<|mT<|cDk 21<|.cons (aB.V _ rfl)<|.cons (aB.V _ rfl)<|.cons (aB.V _ rfl)<|.cons (aB.V (dI ((i+k:Nat):Int)) (fM ((eu (by omega) (by omega)).trans (by omega))))<|.cons (aB.V _ rfl)<|.cons (aB.V _ rfl)<|.cons (aB.V _ rfl)<|.cons (aB.V (dI ((i+k:Nat):Int)) (fM ((eu (by omega) (by omega)).trans (by omega))))<|.cons (aB.V (.dW 23 4 (i+k) 0) (qG (z:=((i+k:Nat):Int)) (n:=(n+m-1)) rfl rfl rfl rfl rfl rfl rfl (by omega) (by omega)))<|oV rfl<|.cons (aB.V _ rfl)<|.cons (aB.V _ rfl)<|.cons (aB.V (.d (.one (.at 4 ((aJ K c) i)))) (jZ (el:=(aJ K c)) (z:=(i:Int)) (n:=n) rfl rfl rfl rfl rfl rfl (by omega) (by omega))) ?_;refine oV rfl<|.cons (aB.V _ rfl)<|.cons (aB.V _ rfl)<|.cons (aB.V (.d (.one (.at 4 ((aJ L d) k)))) (jZ (el:=(aJ L d)) (z:=(k:Int)) (n:=m) rfl rfl rfl rfl rfl rfl (by omega) (by omega))) ?_;exact oV rfl<|oC (MB (l7 K (c i)) (l7 L (d k)) (M:=(max (K+L+1) 64))) rfl<|oC (Me (l7 (kf R i k (i+k)) (Bo c d i k (i+k))) (l7 (max (K+L+1) 64) ((c i)*(d k))) (M:=(max ((kf R i k (i+k))+(max (K+L+1) 64)+1) 64))) rfl<|.cons (aB.V (.dW 23 4 (i+k) 0) (qG (z:=((i+k:Nat):Int)) (n:=(n+m-1)) rfl rfl rfl rfl rfl rfl rfl (by omega) (by omega)))<|.nil<|mZ rfl<|ak<|bN<|tN<|aA<|mE 2 rfl<|ak<|⟨(k+1),by omega,by omega,wkv [7] [0] ⟨fQ rfl (aG (dF (by omega))),Pe⟩ ⟨dX rfl (alP (fun p _ _=>alq (by omega)) (by rw [ahv];omega) Wi (fun p _ hp=>SG hp)),Pe⟩ rfl rfl⟩
     ·refine dP<|tE<|tE<|bE<|bN<|tN ?_;have hke:m=k:=by have h0:=abL hc3;omega
      subst hke;exact aA<|mE 2 rfl<|ak<|⟨(i+1),by omega,by omega,wkv [4] [0] ⟨fQ rfl (aG (dF (by omega))),Pe⟩ ⟨dX rfl (Qh (fun p _=>ahu (by omega)) (fun j _=>YM zb)),Pe⟩ rfl rfl⟩
    ·refine dP<|tE<|tE<|bE<|tN<|au ?_;have anT:n=i:=by have h0:=abL hc2;omega
     subst anT;exact AW.wk (jl 23 rfl)<|iV 5 (.d (.one (.row 4 (n+m-1) (aJ M (aY c d))))) rfl (gq (aa1 (fun p _=>hRM n (abJ _)) (fun j _=>Px za)))<|aA<|mW rfl<|mY CO rfl<|mW rfl<|mT<|aH<|rQ rfl (oK (abJ _) (PD (fun j hj=>qY za zb (by omega)) (fun j hj=>qY za zb (by omega))) (fun _ _=>rfl))
theorem agK{a b:Nat→Int}{j:Nat}(hb:∀ i,2≤i→b i=0):∀ m,m+1≤j→cv a b m j=0:=fun m hm=>EK fun i hi hij=>by rw [hb (j-i) (by omega)];simp
theorem Pj{a:Nat→Int}{x y:Int}:∀ j,aY a (wW x y) j=a j*x+(if j=0 then 0 else a (j-1)*y)
 | 0=>by
  show cv a (wW x y) 0 0+(if 0≤0 then a 0*wW x y (0-0) else 0)=_
  rw [if_pos (Nat.le_refl _),if_pos rfl];show 0+a 0*x=a 0*x+0
  omega
 | j+1=>by
  show (cv a (wW x y) j (j+1)+(if j≤j+1 then a j*wW x y (j+1-j) else 0))+(if j+1≤j+1 then a (j+1)*wW x y (j+1-(j+1)) else 0)=_
  rw [agK Z9 j (Nat.le_refl _),if_pos (by omega),if_pos (Nat.le_refl _),if_neg (by omega),Nat.sub_self,show j+1-j=1 by omega,Nat.add_sub_cancel];show (0+a j*y)+a (j+1)*x=a (j+1)*x+a j*y
  omega
theorem NP{x y:Int}(hy:¬ y=0):dQ x y*(y:Rat)=(x:Rat):=by
 rw [← jE y,← jE x,jU hy,jU (by decide),jU (by decide),Rat.divInt_mul_divInt,Int.mul_one,Int.mul_comm x y];have h:=Rat.divInt_mul_left (n:=x) (d:=1) hy;rwa [Int.mul_one] at h
theorem CW(y:Int):∀ s:Nat,((y^s:Int):Rat)=(y:Rat)^s
 | 0=>rfl
 | s+1=>by rw [Int.pow_succ,Rat.intCast_mul,CW y s,Rat.pow_succ]
theorem uS(K:Nat)(q:Rat):Gf (tn K q) K q.num q.den:=⟨decide (q.num < 0),dA q.num.natAbs,decide ((q.den:Int) < 0),dA (Int.natAbs (q.den:Int)),fun _ _ _ h=>h,by rw [aac];exact lZ _,by rw [aac];exact lZ _⟩
theorem aei{K L:Nat}{q:Rat}(h:K≤L):∀ B w cs,ig B w (tn K q) cs→ig B w (tn L q) cs
 | B,w,[a,b,c,d],⟨h1,h2,h3,h4,h5⟩=>⟨h1,oM h _ _ _ h2,h3,oM h _ _ _ h4,h5⟩
theorem Le{K L:Nat}{z y:Rat}(h:K≤L)(e:z=y):AV.le (.d (.agg (tn K z))) (.d (.agg (tn L y))):=by subst e;exact oH (aei h)
theorem Tn{K L M:Nat}{n d:Int}{q:Rat}(h1:K≤M)(h2:L≤M)(e1:n=q.num)(e2:d=q.den):AV.le (.d (.agg (zn K n ++zn L d))) (.d (.agg (tn M q))):=by
 subst e1;subst e2;refine oH fun B w cs h=>?_
 match cs,h with
 | [a,b,c,d],⟨h1',h2',h3',h4',h5'⟩=>exact ⟨h1',oM h1 _ _ _ h2',h3',oM h2 _ _ _ h4',h5'⟩
theorem alm{K L:Nat}{s t:Bool}{xs ys:List Nat}{x y:Int}{el:Nat→Nat→Lf}(hx:zv s (val xs)=x)(hy:zv t (val ys)=y)(h0:el 0 0= .v (.bool s):=by rfl)(h1:el 0 1=lr K xs:=by rfl)(h2:el 1 0= .v (.bool t):=by rfl)(h3:el 1 1=lr L ys:=by rfl):qI (.row 2 2 el) (max K L) 2 (wW x y):=by
 refine ⟨⟨fun i=>if i=0 then (s,xs) else (t,ys),nN fun i hi j hj B w v hv=>?_,fun i hi=>?_⟩,Z9⟩
 ·match i,hi,j,hj with
  | 0,_,0,_=>rw [h0] at hv;exact hv
  | 0,_,1,_=>rw [h1] at hv;exact oM (aiP _ _) _ _ _ hv
  | 1,_,0,_=>rw [h2] at hv;exact hv
  | 1,_,1,_=>rw [h3] at hv;exact oM (aiK _ _) _ _ _ hv
 ·match i,hi with
  | 0,_=>exact hx
  | 1,_=>exact hy
theorem yS{x y:Int}:bF (wW x y) 2=Nat.gcd x.natAbs y.natAbs:=by
 show Nat.gcd (Nat.gcd 0 x.natAbs) y.natAbs=_
 rw [Nat.gcd_zero_left]
theorem Qo{n d:Int}(h:0 < d):(Rat.divInt n d).num=n / ((bF (wW n d) 2:Nat):Int)∧((Rat.divInt n d).den:Int)=d / ((bF (wW n d) 2:Nat):Int):=by rw [yS];exact qm h
theorem Qn{n d:Int}(h:d < 0):(Rat.divInt n d).num= -n / ((bF (wW n d) 2:Nat):Int)∧((Rat.divInt n d).den:Int)= -d / ((bF (wW n d) 2:Nat):Int):=by
 have h1:=qm (n:= -n) (d:= -d) (by omega);rw [Rat.neg_divInt_neg,Int.natAbs_neg,Int.natAbs_neg] at h1;rw [yS];exact h1
theorem ac3{n d:Int}(h:d≠0):((bF (wW n d) 2:Nat):Int)≠0:=by rw [yS];exact pR h
theorem g_l(n d:Int):((bF (wW n d) 2:Nat):Int)∣n:=by rw [yS];exact pJ n d
theorem g_r(n d:Int):((bF (wW n d) 2:Nat):Int)∣d:=by rw [yS];exact pO n d
theorem aam(n:Int):dQ n 0=Rat.divInt n 1:=by unfold dQ;rw [if_pos rfl]
theorem jJ(q:Rat):dQ q.num (q.den:Int)=q:=by rw [jU (mD q),Rat.num_divInt_den]
theorem GL{a b:Rat}(h:a=b):vP a b=0:=by subst h;unfold vP kH;simp
theorem GN{x y:Rat}(h:x < y):vP x y= -1:=by
 have:=(Rat.lt_iff x y).1 h;unfold vP kH
 (repeat' split) <;> omega
theorem abH{x y:Rat}(h:y < x):vP x y=1:=by
 have:=(Rat.lt_iff y x).1 h;unfold vP kH
 (repeat' split) <;> omega
theorem ail(x y:Rat):x < y∨x=y∨y < x:=by
 by_cases h:x < y
 ·exact Or.inl h
 ·by_cases k:y < x
  ·exact Or.inr (Or.inr k)
  ·exact Or.inr (Or.inl (by grind))
theorem EJ(x y:Rat):(x < y∧vP x y= -1)∨(x=y∧vP x y=0)∨(y < x∧vP x y=1):=by
 rcases ail x y with h | h | h
 ·exact Or.inl ⟨h,GN h⟩
 ·exact Or.inr (Or.inl ⟨h,GL h⟩)
 ·exact Or.inr (Or.inr ⟨h,abH h⟩)
theorem dV{x y:Rat}:vP x y≤0↔x≤y:=by
 rcases EJ x y with ⟨h,e⟩ | ⟨h,e⟩ | ⟨h,e⟩ <;> rw [e] <;> constructor <;> intro k <;> first | omega | grind
theorem xG{x y:Rat}:vP x y≥0↔y≤x:=by
 rcases EJ x y with ⟨h,e⟩ | ⟨h,e⟩ | ⟨h,e⟩ <;> rw [e] <;> constructor <;> intro k <;> first | omega | grind
theorem lN{x y:Rat}:vP x y=0↔x=y:=by
 rcases EJ x y with ⟨h,e⟩ | ⟨h,e⟩ | ⟨h,e⟩ <;> rw [e] <;> constructor <;> intro k <;> first | omega | grind
theorem adB(P Q:Rat):Rat.divInt (P.num*Q.den+Q.num*P.den) (P.den*Q.den*2)=(P+Q) / 2:=by
 have h1:=NM P Q;rw [jU (Int.mul_ne_zero (mD P) (mD Q))] at h1;have h2:Rat.divInt 1 2=(1:Rat) / 2:=by decide +kernel
 rw [← Int.mul_one (P.num*Q.den+Q.num*P.den),← Rat.divInt_mul_divInt,h1,h2];grind
theorem Zh(P Q:Rat):(P+Q)*dQ 1 2=(P+Q) / 2:=by
 have h2:dQ 1 2=(1:Rat) / 2:=by decide +kernel
 rw [h2];grind
theorem Ux{a b:List Lf}{K L M:Nat}{x y:Int}(ha:Gg a K x)(hb:Gg b L y)(hy:y≠0)(hM:max (max K L) 1+1≤M:=by first|decide|omega)(wU:M≤100000000:=by first|decide|omega):aC Tryz.prog 130 [.agg a,.agg b] (.d (.agg (tn M (Rat.divInt x y)))):=by
 obtain ⟨sa,xa,ha,ea⟩:=ha;obtain ⟨sb,xb,hb,eb⟩:=hb;refine aC.le (dl (DV.z ha) (dl (DV.z hb) iP)) AV.le.rfl<|aN 31 [.cell 4 38] Tryz.func130 rfl<|cR<|mO rfl<|mO rfl<|mO rfl<|mT<|cR<|mE 2 rfl<|mB aj (.d (.one (.row 2 2 (fun i' j'=>(([.v (.bool sa),lr K xa] ++ [.v (.bool sb),lr L xb])[i'*2+j']?).getD (.v undef))))) rfl<|mY (ajd (alm (K:=K) (L:=L) ea eb)) rfl<|mO rfl<|mZ rfl<|mT<|au<|cR<|mE 2 rfl<|mT<|aW rfl (fun hc1=>?_) (fun hc1=>?_)
 ·refine cDk 4<|oV rfl<|oC (ab9 ⟨sa,xa,fun _ _ _ h=>h,ea⟩ (by omega)) rfl<|oV rfl<|oC (ab9 ⟨sb,xb,fun _ _ _ h=>h,eb⟩ (by omega)) rfl<|.nil<|mZ rfl<|mZ rfl<|mT<|au ?_;have hyn:y < 0:=by subst hc1;have h0: -(val xb:Int)=y:=eb;omega
  exact aA<|mE 2 rfl<|mY (H9 (qF K (-x)) (qF (max K L) ((bF (wW x y) 2):Int)) (ac3 hy) (Int.dvd_neg.2 (g_l x y)) (M:=(max K 1+1))) rfl<|mE 3 rfl<|mZ rfl<|mT<|cR<|mE 2 rfl<|mY (H9 (qF L (-y)) (qF (max K L) ((bF (wW x y) 2):Int)) (ac3 hy) (Int.dvd_neg.2 (g_r x y)) (M:=(max L 1+1))) rfl<|mE 3 rfl<|mZ rfl<|mT<|cR<|mE 3 rfl<|mZ rfl<|mT<|aH<|rQ rfl (Tn (by omega) (by omega) (Qn hyn).1.symm (Qn hyn).2.symm)
 ·refine aF<|tN<|au ?_;have hyn:0 < y:=by subst hc1;have h0:(val xb:Int)=y:=eb;omega
  exact aA<|mE 2 rfl<|mY (H9 ⟨sa,xa,fun _ _ _ h=>h,ea⟩ (qF (max K L) ((bF (wW x y) 2):Int)) (ac3 hy) (g_l x y) (M:=(max K 1+1)) (by omega) (by omega) (by omega)) rfl<|mE 3 rfl<|mZ rfl<|mT<|cR<|mE 2 rfl<|mY (H9 ⟨sb,xb,fun _ _ _ h=>h,eb⟩ (qF (max K L) ((bF (wW x y) 2):Int)) (ac3 hy) (g_r x y) (M:=(max L 1+1)) (by omega) (by omega) (by omega)) rfl<|mE 3 rfl<|mZ rfl<|mT<|cR<|mE 3 rfl<|mZ rfl<|mT<|aH<|rQ rfl (Tn (by omega) (by omega) (Qo hyn).1.symm (Qo hyn).2.symm)
theorem MI{a:List Lf}{K M:Nat}{n d:Int}(ha:Gf a K n d)(hM:max K 2+1≤M:=by first|decide|omega)(wU:M≤100000000:=by first|decide|omega):aC Tryz.prog 102 [.agg a] (.d (.agg (tn M (dQ n d)))):=by
 obtain ⟨s,xs,t,ys,ha,e1,e2⟩:=ha;refine aC.le (dl (DV.g ha) iP) AV.le.rfl<|aN 15 [.cell 2 38] Tryz.func102 rfl<|cR<|mO rfl<|mO rfl<|mT<|cR<|mE 2 rfl<|mY (Un ⟨t,ys,fun _ _ _ h=>h,e2⟩ (by omega)) rfl<|mO rfl<|mZ rfl<|mT<|au<|cR<|mW rfl<|mY (aeP (isn K d)) rfl<|mT<|aW rfl (fun hc1=>?_) (fun hc1=>?_)
 ·exact aA<|mY aOf rfl<|mZ rfl<|mT<|au<|cDk 5<|oE 2 rfl<|oC (Un ⟨s,xs,fun _ _ _ h=>h,e1⟩ (by omega)) rfl<|oV rfl<|oC (Ux (qF K n) (qF 2 1) (by decide) (M:=(max (max K 2) 1+1))) rfl<|.nil<|mZ rfl<|mT<|aH<|rQ rfl (Le (by omega) (by rw [of_decide_eq_true hc1,aam]))
 ·exact aF<|tN<|au<|cDk 5<|oE 2 rfl<|oC (Un ⟨s,xs,fun _ _ _ h=>h,e1⟩ (by omega)) rfl<|oV rfl<|oC (Ux (qF K n) (qF K d) (abL hc1) (M:=(max (max K K) 1+1))) rfl<|.nil<|mZ rfl<|mT<|aH<|rQ rfl (Le (by omega) (jU (abL hc1)).symm)
theorem adF(a b:Rat):Rat.divInt (a.num*b.den-b.num*a.den) (a.den*b.den)=a-b:=by
 have h:=NM a (-b);rw [jU (Int.mul_ne_zero (mD a) (mD (-b))),Rat.neg_num,Rat.neg_den,Int.neg_mul,← Int.sub_eq_add_neg,← Rat.sub_eq_add_neg] at h;exact h
theorem aal(a b:Rat):(a.den:Int)*(b.den:Int)≠0:=af2 (mD a) (mD b)
theorem MH{a b:List Lf}{K L M:Nat}{n d m e:Int}(ha:Gf a K n d)(hb:Gf b L m e)(hM:(max K 2+1)+(max L 2+1)≤M:=by first|decide|omega)(wU:M≤100000000:=by first|decide|omega):aC Tryz.prog 103 [.agg a,.agg b] (.ji [.agg (zn M (Rat.num (dQ n d)*(Rat.den (dQ m e):Int))),.agg (zn M (Rat.num (dQ m e)*(Rat.den (dQ n d):Int))),.agg (zn M ((Rat.den (dQ n d):Int)*(Rat.den (dQ m e):Int)))]):=by
 obtain ⟨s0,Ew,t0,ys0,ha,e0,k0⟩:=ha;obtain ⟨s1,xs1,t1,ys1,hb,e1,k1⟩:=hb;exact aC.le (dl (DV.g ha) (dl (DV.g hb) iP)) AV.le.rfl<|aN 26 [.cell 4 36,.cell 5 36,.cell 6 36] Tryz.func103 rfl<|cR<|mO rfl<|mO rfl<|mO rfl<|mO rfl<|mO rfl<|mT<|au<|cDk 4<|oV rfl<|oC (MI (⟨s0,Ew,t0,ys0,fun _ _ _ h=>h,e0,k0⟩:Gf ([.v (.bool s0),lr K Ew] ++ [.v (.bool t0),lr K ys0]) K n d) (M:=(max K 2+1))) rfl<|oV rfl<|oC (MI (⟨s1,xs1,t1,ys1,fun _ _ _ h=>h,e1,k1⟩:Gf ([.v (.bool s1),lr L xs1] ++ [.v (.bool t1),lr L ys1]) L m e) (M:=(max L 2+1))) rfl<|.nil<|mZ rfl<|mZ rfl<|mT<|au<|cDk 15<|oE 4 rfl<|oC (J4 (qF (max K 2+1) (Rat.num (dQ n d))) (qF (max L 2+1) (Rat.den (dQ m e):Int)) (M:=((max K 2+1)+(max L 2+1)))) rfl<|oE 4 rfl<|oC (J4 (qF (max L 2+1) (Rat.num (dQ m e))) (qF (max K 2+1) (Rat.den (dQ n d):Int)) (M:=((max L 2+1)+(max K 2+1)))) rfl<|oE 4 rfl<|oC (J4 (qF (max K 2+1) (Rat.den (dQ n d):Int)) (qF (max L 2+1) (Rat.den (dQ m e):Int)) (M:=((max K 2+1)+(max L 2+1)))) rfl<|.nil<|mZ rfl<|mZ rfl<|mZ rfl<|mT<|aH<|rQ rfl (jI (dl (GV (jQ (by omega) rfl)) (dl (GV (jQ (by omega) rfl)) (dl (GV (jQ (by omega) rfl)) iP))))
theorem ajC{a b:List Lf}{K L:Nat}{n d m e:Int}(ha:Gf a K n d)(hb:Gf b L m e)(hK:K≤10000000:=by decide)(hL:L≤10000000:=by decide):aC Tryz.prog 67 [.agg a,.agg b] (dI (vP (dQ n d) (dQ m e))):=by
 obtain ⟨s0,Ew,t0,ys0,ha,e0,k0⟩:=ha;obtain ⟨s1,xs1,t1,ys1,hb,e1,k1⟩:=hb;exact aC.le (dl (DV.g ha) (dl (DV.g hb) iP)) AV.le.rfl<|aN 18 [.tmp 4] Tryz.func67 rfl<|cR<|mO rfl<|mO rfl<|mW rfl<|mT<|cR<|mE 2 rfl<|mY (MH (⟨s0,Ew,t0,ys0,fun _ _ _ h=>h,e0,k0⟩:Gf ([.v (.bool s0),lr K Ew] ++ [.v (.bool t0),lr K ys0]) K n d) (⟨s1,xs1,t1,ys1,fun _ _ _ h=>h,e1,k1⟩:Gf ([.v (.bool s1),lr L xs1] ++ [.v (.bool t1),lr L ys1]) L m e) (M:=((max K 2+1)+(max L 2+1)))) rfl<|mE 4 rfl<|mO rfl<|mO rfl<|mO rfl<|mZ rfl<|mZ rfl<|mZ rfl<|mT<|cR<|mE 2 rfl<|mY (ajc (qF ((max K 2+1)+(max L 2+1)) (Rat.num (dQ n d)*(Rat.den (dQ m e):Int))) (qF ((max K 2+1)+(max L 2+1)) (Rat.num (dQ m e)*(Rat.den (dQ n d):Int)))) rfl<|mW rfl<|mT<|aH<|rQ rfl (AV.le.rfl)
theorem ajE{a b:List Lf}{K L M:Nat}{n d m e:Int}(ha:Gf a K n d)(hb:Gf b L m e)(hM:(max K 2+1)+(max L 2+1)+2≤M:=by decide)(wU:M≤100000000:=by decide):aC Tryz.prog 107 [.agg a,.agg b] (.d (.agg (tn M ((dQ n d)-(dQ m e))))):=by
 obtain ⟨s0,Ew,t0,ys0,ha,e0,k0⟩:=ha;obtain ⟨s1,xs1,t1,ys1,hb,e1,k1⟩:=hb;exact aC.le (dl (DV.g ha) (dl (DV.g hb) iP)) AV.le.rfl<|aN 20 [.cell 4 38] Tryz.func107 rfl<|cR<|mO rfl<|mO rfl<|mO rfl<|mT<|cR<|mE 2 rfl<|mY (MH (⟨s0,Ew,t0,ys0,fun _ _ _ h=>h,e0,k0⟩:Gf ([.v (.bool s0),lr K Ew] ++ [.v (.bool t0),lr K ys0]) K n d) (⟨s1,xs1,t1,ys1,fun _ _ _ h=>h,e1,k1⟩:Gf ([.v (.bool s1),lr L xs1] ++ [.v (.bool t1),lr L ys1]) L m e) (M:=((max K 2+1)+(max L 2+1)))) rfl<|mE 4 rfl<|mO rfl<|mO rfl<|mO rfl<|mZ rfl<|mZ rfl<|mZ rfl<|mT<|au<|cDk 5<|oE 2 rfl<|oC (ajB (qF ((max K 2+1)+(max L 2+1)) (Rat.num (dQ n d)*(Rat.den (dQ m e):Int))) (qF ((max K 2+1)+(max L 2+1)) (Rat.num (dQ m e)*(Rat.den (dQ n d):Int))) (M:=(max ((max K 2+1)+(max L 2+1)) ((max K 2+1)+(max L 2+1))+1))) rfl<|oV rfl<|oC (Ux (qF (max ((max K 2+1)+(max L 2+1)) ((max K 2+1)+(max L 2+1))+1) ((Rat.num (dQ n d)*(Rat.den (dQ m e):Int))-(Rat.num (dQ m e)*(Rat.den (dQ n d):Int)))) (qF ((max K 2+1)+(max L 2+1)) ((Rat.den (dQ n d):Int)*(Rat.den (dQ m e):Int))) (aal (dQ n d) (dQ m e)) (M:=(max (max (max ((max K 2+1)+(max L 2+1)) ((max K 2+1)+(max L 2+1))+1) ((max K 2+1)+(max L 2+1))) 1+1))) rfl<|.nil<|mZ rfl<|mT<|aH<|rQ rfl (Le (by omega) (adF (dQ n d) (dQ m e)))
theorem aeO{a:List Lf}{K M:Nat}{n d:Int}(ha:Gf a K n d)(hM:max K 2+1≤M:=by first|decide|omega)(wU:M≤100000000:=by first|decide|omega):aC Tryz.prog 66 [.agg a,.one (.v (.slice none 0 0))] (.d (.agg (tn M (dQ n d)))):=by
 obtain ⟨s0,Ew,t0,ys0,ha,e0,k0⟩:=ha;refine aC.le (dl (DV.g ha) (dl DV.same iP)) AV.le.rfl<|aN 24 [.cell 4 38] Tryz.func66 rfl<|cR<|mO rfl<|mO rfl<|mT<|cR<|mW rfl<|mY (MI (⟨s0,Ew,t0,ys0,fun _ _ _ h=>h,e0,k0⟩:Gf ([.v (.bool s0),lr K Ew] ++ [.v (.bool t0),lr K ys0]) K n d) (M:=(max K 2+1))) rfl<|mO rfl<|mZ rfl<|mT<|au<|cR<|mE 3 rfl<|mT<|aI<|dU (ι:=Nat) (fun (u:Nat)=>⟨24,[(4,.ptr 4 0),(5,.ptr 5 0),(11,dI 0),(12,dI 0)],[(4,.box 38 ([.v (.bool false),.v (.slice none 0 0),.v (.bool false),.v (.slice none 0 0)])),(5,.box 38 (tn (max K 2+1) (dQ n d)))]⟩) (fun (u:Nat)=>True) (fun (u:Nat)=>u) 0 (trivial) (wkr rfl rfl) ?_;rintro u hI;have hT0:True:=hI;show AW _ _ _ ⟨_,_,_⟩
 exact cR<|mW rfl<|mT<|au<|cF rfl<|dP<|tE<|tE<|bE<|tN<|cR<|mW rfl<|mZ rfl<|mT<|aH<|rQ rfl (Le (by omega) rfl)
theorem agl{a:List Lf}{K M:Nat}{n d:Int}(ha:Gf a K n d)(hM:max K 2+1≤M:=by first|decide|omega)(wU:M≤100000000:=by first|decide|omega):aC Tryz.prog 125 [.agg a] (.d (.agg (tn M (dQ n d)))):=by
 obtain ⟨s0,Ew,t0,ys0,ha,e0,k0⟩:=ha;exact aC.le (dl (DV.g ha) iP) AV.le.rfl<|aN 5 [.cell 2 38] Tryz.func125 rfl<|cR<|mO rfl<|mO rfl<|mT<|cR<|mW rfl<|mY (aeO (⟨s0,Ew,t0,ys0,fun _ _ _ h=>h,e0,k0⟩:Gf ([.v (.bool s0),lr K Ew] ++ [.v (.bool t0),lr K ys0]) K n d) (M:=(max K 2+1))) rfl<|mZ rfl<|mT<|aH<|rQ rfl (Le (by omega) rfl)
theorem VE(a b:Nat→Int)(j:Nat):aY (rc a) (rc b) j=rc (aY a b) j:=UG _
theorem Va{n:Nat}{c:Nat→Int}:IsI (ZK n c) n (fun i=>if i < n then c i else 0):=by
 refine ⟨nN fun i hi j hj B w v hv=>?_,fun i hi=>if_neg (by omega)⟩;show dY B w (vI (if i < n then c i else 0)) v
 rw [if_pos hi];exact hv
def sm(f:Nat→Int):Nat→Int
 | 0=>0
 | m+1=>sm f m+f m
theorem Ef{f g:Nat→Int}:∀ {m:Nat},(∀ i,i < m→f i=g i)→sm f m=sm g m
 | 0,_=>rfl
 | m+1,h=>by show sm f m+f m=sm g m+g m;rw [Ef (fun i hi=>h i (by omega)),h m (by omega)]
theorem aa9{f g:Nat→Int}:∀ m,sm (fun i=>f i+g i) m=sm f m+sm g m
 | 0=>rfl
 | m+1=>by show sm _ m+(f m+g m)=(sm f m+f m)+(sm g m+g m);rw [aa9 m];omega
theorem QI{f:Nat→Int}:∀ m,sm f (m+1)=f 0+sm (fun i=>f (i+1)) m
 | 0=>by show (0:Int)+f 0=f 0+0;omega
 | m+1=>by
  have h:=QI (f:=f) m;show sm f (m+1)+f (m+1)=f 0+(sm (fun i=>f (i+1)) m+f (m+1))
  omega
theorem abb{f:Nat→Int}:∀ n,sm f (n+1)=sm (fun i=>f (n-i)) (n+1)
 | 0=>rfl
 | n+1=>by
  rw [QI (f:=fun i=>f (n+1-i)) (n+1)];show sm f (n+1)+f (n+1)=f (n+1)+sm (fun i=>f (n+1-(i+1))) (n+1)
  rw [abb n,Int.add_comm];congr 1;exact Ef fun i _=>by congr 1;omega
theorem aeU{a b:Nat→Int}{j:Nat}:∀ {m:Nat},m≤j+1→cv a b m j=sm (fun i=>a i*b (j-i)) m
 | 0,_=>rfl
 | m+1,h=>by
  show cv a b m j+(if m≤j then a m*b (j-m) else 0)=_
  rw [aeU (by omega),if_pos (by omega)];rfl
theorem CY(a b:Nat→Int)(j:Nat):aY a b j=sm (fun i=>a i*b (j-i)) (j+1):=aeU (abJ _)
theorem Af(a b:Nat→Int)(j:Nat):aY a b j=aY b a j:=by
 rw [CY,CY,abb];exact Ef fun i hi=>by rw [show j-(j-i)=i by omega,Int.mul_comm]
theorem YB(a b c:Nat→Int)(j:Nat):aY a (nY b c) j=nY (aY a b) (aY a c) j:=by
 show _=aY a b j+aY a c j
 rw [CY,CY,CY,← aa9];exact Ef fun i _=>by show a i*(b (j-i)+c (j-i))=_;rw [Int.mul_add]
/-- The leading coefficient of a product. -/
theorem Ij{a b:Nat→Int}{n m:Nat}(ha:∀ i,n≤i→a i=0)(hb:∀ i,m≤i→b i=0)(hn:n≠0)(hm:m≠0):aY a b (n+m-2)=a (n-1)*b (m-1):=by
 obtain ⟨n,rfl⟩:=Nat.exists_eq_succ_of_ne_zero hn;obtain ⟨m,rfl⟩:=Nat.exists_eq_succ_of_ne_zero hm;rw [← UH (n:=n+1) ha];show cv a b n (n.succ+m.succ-2)+(if n≤n.succ+m.succ-2 then a n*b (n.succ+m.succ-2-n) else 0)=a n*b m
 rw [EK (fun i hi _=>by rw [hb (n.succ+m.succ-2-i) (by omega),Int.mul_zero]),if_pos (by omega),show n.succ+m.succ-2-n=m by omega,Int.zero_add]
theorem UQ{a b:Nat→Int}{n m:Nat}(hn:n≠0)(hm:m≠0)(ha:∀ i,n≤i→a i=0)(hb:∀ i,m≤i→b i=0)(ha0:a (n-1)≠0)(hb0:b (m-1)≠0){p:Nat}(hp:∀ i,p≤i→aY a b i=0):dg (aY a b) p=n+m-1:=
 UW YT (nX hp) (Or.inr (by rw [show n+m-1-1=n+m-2 by omega,Ij ha hb hn hm];exact af2 ha0 hb0)) (fun i hi=>nR ha hb (by omega))
theorem ahQ{K:Nat}{z:Int}(h:z=0):AV.le (.d (.agg [.v (.bool false),.v (.slice none 0 0)])) (.d (.agg (zn K z))):=by subst h;exact oH fun B w cs h=>Ep (abR _) _ _ _ (Jj h)
/-- Horner's rule over whole numbers. -/
def Cm(a:Nat→Int)(x y:Int)(top:Nat):Nat→Int
 | 0=>0
 | s+1=>Cm a x y top s*x+a (top-1-s)*y^s
def vlQ(a:Nat→Rat)(q:Rat)(top:Nat):Nat→Rat
 | 0=>0
 | s+1=>vlQ a q top s*q+a (top-1-s)
theorem Z8{t:TypeId}{K:Nat}:AO.le (.box t [.v (.bool false),.v (.slice none 0 0)]) (.box t (zn K 0)):=jf fun B w cs h=>Ep (abR _) _ _ _ (Jj h)
theorem ace{a:Lf}{b e:List Lf}{K L1 L2 M n D T:Nat}{c:Nat→Int}{x y:Int}(ha:qI a K n c)(hb:Gg b L1 x)(hd:Gg e L2 y)(hn:n≤D)(hDD:D≤1000:=by decide)(hT:K+L1+L2+5≤T:=by decide)(hM:(D+1)*T≤M:=by decide)(wU:M≤1000000000:=by decide):aC Tryz.prog 126 [.one a,.agg b,.agg e] (.d (.agg (zn M (Cm c x y n n)))):=by
 obtain ⟨⟨fa,ha,ea⟩,za⟩:=ha;obtain ⟨s1,xs1,hb,ex⟩:=hb;obtain ⟨s2,xs2,hd,ey⟩:=hd;refine aC.le (dl (DV.l ha) (dl (DV.z hb) (dl (DV.z hd) iP))) AV.le.rfl ?_;obtain ⟨R,hR0,hR1,hRM⟩:∃ R:Nat→Nat,2≤R 0∧(∀ i,R i+T≤R (i+1))∧∀ i,i≤D→R i≤M:=⟨fun i=>(i+1)*T,by show 2≤(0+1)*T;omega,fun i=>by show (i+1)*T+T≤(i+1+1)*T;rw [Nat.succ_mul (i+1)];exact abJ _,fun i hi=>acS (abN _ (by omega)) hM⟩
 have hT1:=hRM 0 (abR _);have hTM:T≤M:=acS (aht T (by omega)) hM;refine aN 32 [.cell 6 36] Tryz.func126 rfl<|cR<|mO rfl<|mO rfl<|mO rfl<|mT<|cR<|mO rfl<|mT<|cR<|mY aOf rfl<|mO rfl<|mZ rfl<|mT<|au<|cR<|mE 2 rfl<|mV aj (dI ((n:Int)-1)) (fM (eu (by omega) (by omega)))<|mW rfl<|mT<|aI<|dU (ι:=Nat) (fun (s:Nat)=>⟨32,[(0,.d (.one (.row 2 n (qw K fa)))),(4,.ptr 4 0),(5,.ptr 5 0),(6,.ptr 6 0),(7,.ptr 7 0),(8,.ptr 8 0),(9,dI ((n:Int)-1-(s:Int)))],[(4,.box 36 ([.v (.bool s1),lr L1 xs1])),(5,.box 36 ([.v (.bool s2),lr L2 xs2])),(6,.box 36 ([.v (.bool false),.v (.slice none 0 0)])),(7,.box 36 (zn (R s) (Cm c x y n s))),(8,.box 36 (zn (R s) (y^s)))]⟩) (fun (s:Nat)=>s≤n) (fun (s:Nat)=>n-s) 0 (abR _) (wkv [6] [3,4] ⟨fQ rfl (aG (by omega)),Pe⟩ ⟨dX rfl (Z8),dX rfl (BG (by omega) (Int.pow_zero y).symm),Pe⟩ rfl rfl) ?_;rintro s hI;have hi:s≤n:=hI;show AW _ _ _ ⟨_,_,_⟩
 refine au<|cR<|mE 2 rfl<|mT<|aW rfl (fun hc1=>?_) (fun hc1=>?_)
 ·refine aF<|tN<|au<|aI<|au ?_;have hsd:s < n:=by have h0:=abM hc1;omega
  have hR:=hR1 s;have hRm:=hRM (s+1) (by omega);refine iV 9 (dI ((n-1-s:Nat):Int)) rfl (aG (by omega))<|cDk 10<|oE 2 rfl<|oC (J4 (qF (R s) (Cm c x y n s)) ⟨s1,xs1,fun _ _ _ h=>h,ex⟩ (M:=((R s)+L1)) (by omega) (by omega) (by omega)) rfl<|.cons (aB.V _ rfl)<|.cons (aB.V _ rfl)<|.cons (aB.V (.d (.one (.at 2 ((qw K fa) (n-1-s))))) (jZ (el:=(qw K fa)) (z:=((n-1-s:Nat):Int)) (n:=n) rfl rfl rfl rfl rfl rfl (by omega) (by omega))) ?_;exact oE 2 rfl<|oC (J4 ⟨_,_,fun _ _ _ h=>h,ea (n-1-s) (by omega)⟩ (qF (R s) (y^s)) (M:=(K+(R s))) (by omega) (by omega) (by omega)) rfl<|oC (XO (qF ((R s)+L1) ((Cm c x y n s)*x)) (qF (K+(R s)) ((c (n-1-s))*(y^s))) (M:=(max ((R s)+L1) (K+(R s))+1))) rfl<|.nil<|mZ rfl<|mT<|aA<|mE 2 rfl<|mY (J4 (qF (R s) (y^s)) ⟨s2,xs2,fun _ _ _ h=>h,ey⟩ (M:=((R s)+L2)) (by omega) (by omega) (by omega)) rfl<|mZ rfl<|ak<|bN<|tN<|aA<|mE 3 rfl<|ak<|⟨(s+1),by omega,by omega,wkv [6] [3,4] ⟨fQ rfl (aG ((eu (by omega) (by omega)).trans (by omega))),Pe⟩ ⟨dX rfl (BG (by omega) rfl),dX rfl (BG (by omega) (Int.pow_succ y s).symm),Pe⟩ rfl rfl⟩
 ·refine dP<|tE<|tE<|bE<|tN<|cR<|mW rfl<|mZ rfl<|mT<|aH ?_;have hie:n=s:=by have h0:=abL hc1;omega
  subst hie;exact rQ rfl (jQ (hRM _ hn) rfl)
theorem Ib{a:Lf}{K n:Nat}{c:Nat→Int}(ha:qI a K n c)(hn:n≤1000000:=by first|decide|omega)(hK:K≤1000000000:=by first|decide|omega):aC Tryz.prog 158 [.one a] (.d (.agg (zn K (c (dg c n-1))))):=by
 obtain ⟨⟨fa,ha,ea⟩,za⟩:=ha;refine aC.le (dl (DV.l ha) iP) AV.le.rfl ?_;have hla:=rW c n;refine aN 15 [.cell 2 36] Tryz.func158 rfl<|cR<|mO rfl<|mT<|au<|cR<|mW rfl<|mY (uN (⟨⟨fa,fun _ _ _ h=>h,ea⟩,za⟩:qI (xA K n fa) K n c)) rfl<|mW rfl<|mT<|cR<|mE 3 rfl<|mT<|aW rfl (fun hc1=>?_) (fun hc1=>?_)
 ·exact cR<|mW rfl<|mZ rfl<|mT<|aH<|tR<|rQ rfl (ahQ (Il za (by have h0:=eq_of_beq hc1;omega) _))
 ·refine aF<|tN<|au ?_;have hl0:dg c n≠0:=fun e=>by have h0:=hc1;rw [e] at h0;exact absurd h0 (by decide)
  refine aA<|mE 3 rfl<|mV aj (dI ((dg c n-1:Nat):Int)) (fM ((eu (by omega) (by omega)).trans (by omega)))<|mV aj (.d (.one (.at 2 ((cO K c) (dg c n-1))))) (jZ (el:=(cO K c)) (z:=((dg c n-1:Nat):Int)) (n:=(dg c n)) rfl rfl rfl rfl rfl rfl (by omega) (by omega)) ?_;exact mW rfl<|mZ rfl<|mT<|aH<|rQ rfl (AV.le.rfl)
theorem J3{K n:Nat}{c:Nat→Int}(hn:n≤1000000:=by omega):aC Tryz.prog 69 [.one (iC K n c)] (dI ((n:Int)-1)):=by
 exact aN 6 [.tmp 2] Tryz.func69 rfl<|cR<|mW rfl<|mT<|cR<|mE 2 rfl<|mV aj (dI ((n:Int)-1)) (fM (eu (by omega) (by omega)))<|mW rfl<|mT<|aH<|rQ rfl (AV.le.rfl)
theorem Yw(z:Int):kH z 0=x9 z:=by unfold kH x9;(repeat' split) <;> omega
theorem agj{a:Lf}{b:List Lf}{K L M n D T:Nat}{c:Nat→Int}{nn dd:Int}(ha:qI a K n c)(hb:Gf b L nn dd)(hn:n≤D)(hDD:D≤1000:=by decide)(hT:K+(max L 2+1)+(max L 2+1)+5≤T:=by decide)(hM:(D+1)*T≤M:=by decide)(wU:M≤1000000000:=by decide)(hL:L≤1000000:=by decide)(hK:K≤10000000:=by decide):aC Tryz.prog 100 [.one a,.agg b] (dI (x9 (Cm c (dQ nn dd).num ((dQ nn dd).den:Int) (dg c n) (dg c n)))):=by
 obtain ⟨⟨fa,ha,ea⟩,za⟩:=ha;obtain ⟨s0,Ew,t0,ys0,hb,e0,k0⟩:=hb;refine aC.le (dl (DV.l ha) (dl (DV.g hb) iP)) AV.le.rfl ?_;have hla:=rW c n;refine aN 16 [.tmp 4] Tryz.func100 rfl<|cR<|mO rfl<|mW rfl<|mT<|cR<|mW rfl<|mY (agl (⟨s0,Ew,t0,ys0,fun _ _ _ h=>h,e0,k0⟩:Gf ([.v (.bool s0),lr L Ew] ++ [.v (.bool t0),lr L ys0]) L nn dd) (M:=(max L 2+1))) rfl<|mZ rfl<|mT<|au ?_;have hMb:T≤M:=acS (aht T (by omega)) hM;exact cDk 10<|.cons (aB.V _ rfl)<|oC (uN (⟨⟨fa,fun _ _ _ h=>h,ea⟩,za⟩:qI (xA K n fa) K n c)) rfl<|oE 4 rfl<|oC (ace (vF (K:=K) (c:=c) (nX za)) (qF (max L 2+1) (Rat.num (dQ nn dd))) (qF (max L 2+1) (Rat.den (dQ nn dd):Int)) (D:=D) (T:=T) (M:=M) (by omega) hDD hT hM wU) rfl<|oV rfl<|oC (ajc (qF M (Cm c (Rat.num (dQ nn dd)) (Rat.den (dQ nn dd):Int) (dg c n) (dg c n))) adk) rfl<|.cons (aB.V _ rfl)<|.nil<|mT<|aH<|rQ rfl (aG (Yw _))
theorem acp{K n:Nat}{c:Nat→Int}(hn:n≤1000000):aC Tryz.prog 111 [.one (dM K n (rc c))] (.d (.one (.v (.bool true)))):=by
 refine aN 29 [.tmp 2] Tryz.func111 rfl<|cR<|mW rfl<|mT<|au<|cR<|mE 3 rfl<|mT<|aI<|dU (ι:=Nat) (fun (i:Nat)=>⟨29,[(0,.d (.one (.row 4 n (aJ K (rc c))))),(5,dI (n:Int)),(6,dI (i:Int))],[]⟩) (fun (i:Nat)=>i≤n) (fun (i:Nat)=>n-i) 0 (abR _) (wkr rfl rfl) ?_;rintro i hI;have hi:i≤n:=hI;show AW _ _ _ ⟨_,_,_⟩
 refine cR<|mW rfl<|mT<|au<|aW rfl (fun hc1=>?_) (fun hc1=>?_)
 ·refine aF<|tN<|au<|aI<|cR<|mE 2 rfl<|mT<|au ?_;have hin:i < n:=by have h0:=abM hc1;omega
  have hden:Int.natAbs ((rc c i).den:Int)=1:=by unfold rc;rw [Rat.den_intCast];rfl
  refine aA<|mE 2 rfl<|mV aj (.d (.one (.at 4 ((aJ K (rc c)) i)))) (jZ (el:=(aJ K (rc c))) (z:=(i:Int)) (n:=n) rfl rfl rfl rfl rfl rfl (by omega) (by omega)) ?_;refine mE 4 rfl<|mbF rfl (by show (((aT (Int.natAbs ((rc c i).den:Int))).length:Int) !=1)=false;rw [hden,(KR.2 rfl).1];rfl)<|mE 3 rfl<|mV aj (.d (.one (.at 4 ((aJ K (rc c)) i)))) (jZ (el:=(aJ K (rc c))) (z:=(i:Int)) (n:=n) rfl rfl rfl rfl rfl rfl (by omega) (by omega)) ?_;refine mE 3 rfl<|lD 23 (.d (.one (.row 1 ((aT (Int.natAbs ((rc c i).den:Int))).length) (fun i _=> vI (((aT (Int.natAbs ((rc c i).den:Int))).getD i 0:Nat):Int))))) rfl (G6 _ _)<|mV aj (.d (.one (.at 1 ((fun i _=> vI (((aT (Int.natAbs ((rc c i).den:Int))).getD i 0:Nat):Int)) 0)))) (jZ (el:=(fun i _=> vI (((aT (Int.natAbs ((rc c i).den:Int))).getD i 0:Nat):Int))) (z:=0) (n:=((aT (Int.natAbs ((rc c i).den:Int))).length)) rfl rfl rfl rfl rfl rfl (by decide) (by rw [hden,(KR.2 rfl).1];decide)) ?_;exact mW rfl<|mbF rfl (by show ((((aT (Int.natAbs ((rc c i).den:Int))).getD 0 0:Nat):Int) !=1)=false;rw [hden,(KR.2 rfl).2];rfl)<|mW rfl<|mT<|cF rfl<|aF<|bN<|tN<|aA<|mE 2 rfl<|ak<|⟨(i+1),by omega,by omega,wkv [2] [] ⟨fQ rfl (aG (dF (by omega))),Pe⟩ trivial rfl rfl⟩
 ·exact dP<|tE<|tE<|bE<|tN<|cR<|mW rfl<|mT<|aH<|rQ rfl (AV.le.rfl)
theorem Qe{t:TypeId}{K:Nat}:AO.le (.box t [.v (.slice none 0 0),.v (.bool false)]) (.box t (rn K 0)):=jf fun B w cs h=>Om (abR _) _ _ _ (ahP h)
theorem ags{a:Lf}{b:List Lf}{K L M n D T:Nat}{c:Nat→Int}{q:Rat}(ha:∀ B w v,dY B w a v→dY B w (dM K n (rc c)) v)(hb:Rz b L q)(hn:n≤D)(hDD:D≤1000:=by decide)(hT:K+L+140≤T:=by decide)(hM:(D+1)*T≤M:=by decide)(wU:M≤10000000:=by decide):aC Tryz.prog 74 [.one a,.agg b] (dI (x9 (Cm c q.num (q.den:Int) n n))):=by
 refine aC.le (dl (DV.l ha) (dl (DV.g hb) iP)) AV.le.rfl ?_;obtain ⟨R,hR0,hR1,hRM⟩:∃ R:Nat→Nat,64≤R 0∧(∀ i,R i+T≤R (i+1))∧∀ i,i≤D→R i≤M:=⟨fun i=>(i+1)*T,by show 64≤(0+1)*T;omega,fun i=>by show (i+1)*T+T≤(i+1+1)*T;rw [Nat.succ_mul (i+1)];exact abJ _,fun i hi=>acS (abN _ (by omega)) hM⟩
 have hT1:=hRM 0 (abR _);have hTM:T≤M:=acS (aht T (by omega)) hM;refine aN 42 [.tmp 4] Tryz.func74 rfl<|cR<|mO rfl<|mW rfl<|mT<|au<|cR<|mW rfl<|mY (acp (by omega)) rfl<|mW rfl<|mT<|cFs rfl<|cR<|mO rfl<|mT<|cR<|mY Gh rfl<|mO rfl<|mZ rfl<|mT<|au<|cR<|mE 2 rfl<|mV aj (dI ((n:Int)-1)) (fM (eu (by omega) (by omega)))<|mW rfl<|mT<|aI<|dU (ι:=Nat) (fun (s:Nat)=>⟨42,[(0,.d (.one (.row 4 n (aJ K (rc c))))),(3,.ptr 3 0),(5,.ptr 5 0),(6,.ptr 6 0),(7,dI ((n:Int)-1-(s:Int)))],[(3,.box 49 (qn L q)),(5,.box 47 (rn (R s) (Cm c q.num (q.den:Int) n s))),(6,.box 47 (rn (R s) ((q.den:Int)^s)))]⟩) (fun (s:Nat)=>s≤n) (fun (s:Nat)=>n-s) 0 (abR _) (wkv [4] [1,2] ⟨fQ rfl (aG (by omega)),Pe⟩ ⟨dX rfl (Qe),dX rfl (BF (by omega) (Int.pow_zero (q.den:Int)).symm),Pe⟩ rfl rfl) ?_;rintro s hI;have hi:s≤n:=hI;show AW _ _ _ ⟨_,_,_⟩
 refine au<|cR<|mE 2 rfl<|mT<|aW rfl (fun hc1=>?_) (fun hc1=>?_)
 ·refine aF<|tN<|au<|aI<|au ?_;have hsd:s < n:=by have h0:=abM hc1;omega
  have hR:=hR1 s;have hRm:=hRM (s+1) (by omega);refine iV 7 (dI ((n-1-s:Nat):Int)) rfl (aG (by omega))<|cDk 12<|oE 3 rfl<|oC (oW (fV (R s) (Cm c q.num (q.den:Int) n s)) (fV L (Rat.num q)) (M:=((R s)+L))) rfl<|.cons (aB.V _ rfl)<|.cons (aB.V _ rfl)<|.cons (aB.V (.d (.one (.at 4 ((aJ K (rc c)) (n-1-s))))) (jZ (el:=(aJ K (rc c))) (z:=((n-1-s:Nat):Int)) (n:=n) rfl rfl rfl rfl rfl rfl (by omega) (by omega))) ?_;exact .cons (aB.V _ rfl)<|oE 2 rfl<|oC (oW (fV K (Rat.num ((rc c) (n-1-s)))) (fV (R s) ((q.den:Int)^s)) (M:=(K+(R s)))) rfl<|oC (X6 (fV ((R s)+L) ((Cm c q.num (q.den:Int) n s)*(Rat.num q))) (fV (K+(R s)) ((Rat.num ((rc c) (n-1-s)))*((q.den:Int)^s))) (M:=(max ((R s)+L) (K+(R s))+1))) rfl<|.nil<|mZ rfl<|mT<|aA<|mE 3 rfl<|mY (oW (fV (R s) ((q.den:Int)^s)) (fV L (Rat.den q:Int)) (M:=((R s)+L))) rfl<|mZ rfl<|ak<|bN<|tN<|aA<|mE 3 rfl<|ak<|⟨(s+1),by omega,by omega,wkv [4] [1,2] ⟨fQ rfl (aG ((eu (by omega) (by omega)).trans (by omega))),Pe⟩ ⟨dX rfl (BF (by omega) (by show _=Cm c q.num (q.den:Int) n s*q.num+c (n-1-s)*(q.den:Int)^s;rw [show (rc c (n-1-s)).num=c (n-1-s) from Rat.num_intCast _])),dX rfl (BF (by omega) (Int.pow_succ (q.den:Int) s).symm),Pe⟩ rfl rfl⟩
 ·refine dP<|tE<|tE<|bE<|tN<|cR<|mW rfl<|mY (X9 (fV (R s) (Cm c q.num (q.den:Int) n s))) rfl<|mW rfl<|mT<|aH ?_;have hie:n=s:=by have h0:=abL hc1;omega
  subst hie;exact rE rfl
theorem BN{y:Int}(h:y≠0):∀ s:Nat,¬ y^s=0
 | 0=>by rw [Int.pow_zero];decide
 | s+1=>by rw [Int.pow_succ];exact af2 (BN h s) h
theorem adL(q:Rat):q*((q.den:Int):Rat)=(q.num:Rat):=by
 have h:=NP (x:=q.num) (y:=(q.den:Int)) (mD q);rw [jU (mD q),Rat.num_divInt_den] at h;exact h
theorem afL{a:Nat→Int}{q:Rat}{top:Nat}:∀ s,((Cm a q.num (q.den:Int) top s:Int):Rat)*((q.den:Int):Rat)=((q.den:Int):Rat)^s*vlQ (rc a) q top s
 | 0=>by show ((0:Int):Rat)*_=_*(0:Rat);rw [Rat.mul_zero];exact Rat.zero_mul _
 | s+1=>by
  have h0:=afL (a:=a) (q:=q) (top:=top) s;have hq:=adL q;show ((Cm a q.num (q.den:Int) top s*q.num+a (top-1-s)*(q.den:Int)^s:Int):Rat)*((q.den:Int):Rat)=((q.den:Int):Rat)^(s+1)*(vlQ (rc a) q top s*q+rc a (top-1-s))
  have hrc:rc a (top-1-s)=((a (top-1-s):Int):Rat):=rfl;rw [hrc,Rat.intCast_add,Rat.intCast_mul,Rat.intCast_mul,CW,Rat.pow_succ];grind
/-- The value: the sum of the terms. -/
def pe(a:Nat→Rat)(q:Rat):Nat→Rat
 | 0=>0
 | n+1=>pe a q n+a n*q^n
theorem aaE{a:Nat→Rat}{q:Rat}{top:Nat}:∀ s,s≤top→pe a q top=pe a q (top-s)+q^(top-s)*vlQ a q top s
 | 0,_=>by show _=pe a q (top-0)+_*(0:Rat);rw [Nat.sub_zero,Rat.mul_zero,Rat.add_zero]
 | s+1,h=>by
  rw [aaE s (by omega)];have e:top-s=(top-(s+1))+1:=by omega
  show _=_+_*(vlQ a q top s*q+a (top-1-s))
  rw [e,show top-1-s=top-(s+1) by omega];show pe a q (top-(s+1))+a (top-(s+1))*q^(top-(s+1))+_=_
  rw [Rat.pow_succ];grind
theorem alA(a:Nat→Rat)(q:Rat)(n:Nat):vlQ a q n n=pe a q n:=by
 have h:=aaE (a:=a) (q:=q) (top:=n) n (abJ _);rw [Nat.sub_self] at h;rw [h];show _=(0:Rat)+_
 rw [Rat.pow_zero,Rat.one_mul,Rat.zero_add]
theorem mP{a b:Nat→Rat}{q:Rat}:∀ {n:Nat},(∀ i,i < n→a i=b i)→pe a q n=pe b q n
 | 0,_=>rfl
 | n+1,h=>by show _+_=_+_;rw [mP (n:=n) fun i hi=>h i (by omega),h n (by omega)]
theorem D6{a:Nat→Rat}{q:Rat}{n:Nat}(h:∀ i,n≤i→a i=0):∀ d,pe a q (n+d)=pe a q n
 | 0=>rfl
 | d+1=>by show pe a q (n+d)+a (n+d)*_=_;rw [D6 h d,h (n+d) (by omega),Rat.zero_mul,Rat.add_zero]
theorem Jo{a:Nat→Rat}{q:Rat}{n m:Nat}(h:∀ i,n≤i→a i=0)(k:∀ i,m≤i→a i=0):pe a q n=pe a q m:=by
 rcases Nat.le_total n m with e | e
 ·have:=D6 (q:=q) h (m-n);rw [show n+(m-n)=m by omega] at this;exact this.symm
 ·have:=D6 (q:=q) k (n-m);rw [show m+(n-m)=n by omega] at this;exact this
theorem zF{a b:Nat→Rat}{q:Rat}:∀ n,pe (mJ a b) q n=pe a q n+pe b q n
 | 0=>by show (0:Rat)=0+0;grind
 | n+1=>by show pe (mJ a b) q n+(a n+b n)*q^n=(pe a q n+_)+(pe b q n+_);rw [zF n];grind
theorem sV{a:Nat→Rat}{q r:Rat}:∀ n,pe (gG a r) q n=pe a q n*r
 | 0=>by show (0:Rat)=0*r;grind
 | n+1=>by show pe (gG a r) q n+(a n*r)*q^n=(pe a q n+_)*r;rw [sV n];grind
theorem D7{a:Nat→Rat}{q:Rat}:∀ {n:Nat},(∀ i,i < n→a i=0)→pe a q n=0
 | 0,_=>rfl
 | n+1,h=>by show _+_=_;rw [D7 (n:=n) fun i hi=>h i (by omega),h n (by omega),Rat.zero_mul,Rat.add_zero]
theorem D8(q:Rat)(k:Nat):∀ m:Nat,q^(k+m)=q^k*q^m
 | 0=>by rw [Nat.add_zero,Rat.pow_zero,Rat.mul_one]
 | m+1=>by rw [← Nat.add_assoc,Rat.pow_succ,Rat.pow_succ,D8 q k m,Rat.mul_assoc]
theorem Jp{b:Nat→Rat}{q x:Rat}{k:Nat}:∀ m,pe (fun j=>if k≤j then x*b (j-k) else 0) q (k+m)=x*q^k*pe b q m
 | 0=>by
  show _=x*q^k*(0:Rat)
  rw [Rat.mul_zero];exact D7 fun i hi=>if_neg (by omega)
 | m+1=>by
  show pe _ q (k+m)+(if k≤k+m then x*b (k+m-k) else 0)*q^(k+m)=x*q^k*(pe b q m+b m*q^m)
  rw [Jp m,if_pos (by omega),Nat.add_sub_cancel_left,D8];grind
theorem afq{a b:Nat→Rat}{q:Rat}{m:Nat}(hb:∀ i,m≤i→b i=0):∀ k,pe (cv a b k) q (k+m)=pe a q k*pe b q m
 | 0=>by
  show _=(0:Rat)*_
  rw [Rat.zero_mul];exact D7 fun i hi=>rfl
 | k+1=>by
  have h1:pe (cv a b (k+1)) q (k+1+m)=pe (mJ (cv a b k) (fun j=>if k≤j then a k*b (j-k) else 0)) q (k+1+m):=mP fun i hi=>rfl
  rw [h1,zF,show k+1+m=(k+m)+1 by omega];have h2:pe (cv a b k) q (k+m+1)=pe (cv a b k) q (k+m):=D6 (n:=k+m) (fun i hi=>CZ fun j hj hji=>by rw [hb (i-j) (by omega),Rat.mul_zero]) 1;rw [h2,afq hb k];have h3:=Jp (b:=b) (q:=q) (x:=a k) (k:=k) (m+1);rw [← Nat.add_assoc] at h3;rw [h3];show _=(pe a q k+a k*q^k)*_
  have h4:pe b q (m+1)=pe b q m:=D6 hb 1;rw [h4];grind
/-- The product's value. -/
theorem NU{a b:Nat→Rat}{q:Rat}{n m:Nat}(ha:∀ i,n≤i→a i=0)(hb:∀ i,m≤i→b i=0):pe (aY a b) q (n+m)=pe a q n*pe b q m:=by
 rw [← afq hb n];exact mP fun i hi=>(Px ha).symm
/-- The value of a row of whole numbers. -/
def pz(c:Nat→Int)(q:Rat)(n:Nat):Rat:=pe (rc c) q n
theorem Bf{c:Nat→Int}{q:Rat}{n m:Nat}(h:∀ i,n≤i→c i=0)(k:∀ i,m≤i→c i=0):pz c q n=pz c q m:=Jo (qM h) (qM k)
theorem Oe{a b:Nat→Int}{q:Rat}{n m p:Nat}(ha:∀ i,n≤i→a i=0)(hb:∀ i,m≤i→b i=0)(hp:∀ i,p≤i→aY a b i=0):pz (aY a b) q p=pz a q n*pz b q m:=by
 rw [Bf hp (gu ha hb)];show pe _ q _=_
 rw [mP (b:=aY (rc a) (rc b)) fun i _=>(VE a b i).symm];exact NU (qM ha) (qM hb)
theorem aif{a:Nat→Int}{q:Rat}{n:Nat}(y:Int):pz (iW a y) q n=pz a q n*(y:Rat):=by
 show pe _ q _=_
 rw [mP (a:=rc (iW a y)) (b:=gG (rc a) (y:Rat)) fun i _=>Rat.intCast_mul _ _];exact sV n
theorem aaU(c:Nat→Int)(q:Rat)(n:Nat):vlQ (rc c) q n n=pz c q n:=alA _ _ _
/-! ### Far out -/
theorem rF{d:Int}(h:0 < d):x9 d=1:=by unfold x9;rw [if_neg (by omega),if_neg (by omega)]
theorem uJ{d:Int}(h:d < 0):x9 d= -1:=by unfold x9;rw [if_pos h]
theorem JA:x9 0=0:=rfl
theorem ad5(a b:Int):x9 (a*b)=x9 a*x9 b:=by
 rcases afQ a 0 with ha | ha | ha
 ·rcases afQ b 0 with hb | hb | hb
  ·rw [uJ ha,uJ hb,rF (Int.mul_pos_of_neg_of_neg ha hb)];rfl
  ·rw [hb,Int.mul_zero,JA,Int.mul_zero]
  ·rw [uJ ha,rF hb,uJ (Int.mul_neg_of_neg_of_pos ha hb)];rfl
 ·rw [ha,Int.zero_mul,JA,Int.zero_mul]
 ·rcases afQ b 0 with hb | hb | hb
  ·rw [rF ha,uJ hb,uJ (Int.mul_neg_of_pos_of_neg ha hb)];rfl
  ·rw [hb,Int.mul_zero,JA,Int.mul_zero]
  ·rw [rF ha,rF hb,rF (Int.mul_pos ha hb)];rfl
theorem ad4{v x c:Int}(hv:v≠0)(h:c.natAbs < x.natAbs):x9 (v*x+c)=x9 v*x9 x:=by
 rw [← ad5];have h1:x.natAbs≤(v*x).natAbs:=by rw [Int.natAbs_mul];exact aht _ (Int.natAbs_pos.2 hv)
 rcases afQ (v*x) 0 with e | e | e
 ·rw [uJ e,uJ (by omega)]
 ·rw [e] at h1;have:(0:Int).natAbs=0:=rfl;omega
 ·rw [rF e,rF (by omega)]
theorem Fz{z:Int}:x9 z≠0↔z≠0:=by unfold x9;constructor <;> intro h <;> (repeat' split at *) <;> omega
theorem Nh{c:Nat→Int}{x:Int}{top:Nat}(h:∀ i,i < top→(c i).natAbs < x.natAbs)(h0:c (top-1)≠0):∀ s,s < top→x9 (Cm c x 1 top (s+1))=x9 (c (top-1))*(x9 x)^s
 | 0,hs=>by
  show x9 (0*x+c (top-1-0)*1^0)=_
  rw [Int.zero_mul,Int.zero_add,Int.pow_zero,Int.mul_one,Int.pow_zero,Int.mul_one,Nat.sub_zero]
 | s+1,hs=>by
  have ih:=Nh h h0 s (by omega);have hx:x≠0:=by have:=h 0 (by omega);omega
  have hv:Cm c x 1 top (s+1)≠0:=by
   rw [← Fz,ih];exact af2 (Fz.2 h0) (BN (Fz.2 hx) s)
  show x9 (Cm c x 1 top (s+1)*x+c (top-1-(s+1))*1^(s+1))=_
  rw [Int.one_pow,Int.mul_one,ad4 hv (h _ (by omega)),ih,Int.pow_succ,Int.mul_assoc]
theorem Uf{a:Nat→Int}{x:Int}{top:Nat}:∀ s,((Cm a x 1 top s:Int):Rat)=vlQ (rc a) (x:Rat) top s
 | 0=>rfl
 | s+1=>by
  show ((Cm a x 1 top s*x+a (top-1-s)*1^s:Int):Rat)=vlQ (rc a) (x:Rat) top s*(x:Rat)+rc a (top-1-s)
  rw [Int.one_pow,Int.mul_one,Rat.intCast_add,Rat.intCast_mul,Uf s];rfl
/-- The sum of all sizes. -/
def szs(c:Nat→Int):Nat→Int
 | 0=>0
 | n+1=>szs c n+((c n).natAbs:Int)
theorem Oy(c:Nat→Int):∀ n,0≤szs c n
 | 0=>Int.le_refl _
 | n+1=>by show 0≤szs c n+_;have:=Oy c n;omega
theorem abo{c:Nat→Int}:∀ {n i:Nat},i < n→((c i).natAbs:Int)≤szs c n
 | n+1,i,h=>by
  show _≤szs c n+_
  have:=Oy c n;rcases Nat.eq_or_lt_of_le (Nat.le_of_lt_succ h) with e | e
  ·subst e;omega
  ·have:=abo (c:=c) e;omega
/-- Rows that are 0 everywhere. -/
theorem He{c:Nat→Int}{n:Nat}(hz:∀ i,n≤i→c i=0)(h:∀ x:Int,pz c (x:Rat) n=0):∀ i,c i=0:=by
 have hd:dg c n=0:=by
  refine abP fun hne=>?_
  have h0:=KQ hne
  let m:=dg c n
  have h1:=Nh (c:=c) (x:=1+szs c m) (top:=m) (fun i hi=>by have:=abo (c:=c) hi;have:=Oy c m;omega) h0 (m-1) (by omega);rw [show m-1+1=m by omega] at h1;have h2:Cm c (1+szs c m) 1 m m=0:=by
   have h3:=Uf (a:=c) (x:=1+szs c m) (top:=m) m;rw [aaU,Bf (nX hz) hz,h] at h3;exact aiO.1 h3
  rw [h2] at h1;have hx:(1+szs c m)≠0:=by have:=Oy c m;omega
  exact af2 (Fz.2 h0) (BN (Fz.2 hx) (m-1)) h1.symm
 exact Il hz hd
theorem aaT{a b:Nat→Int}{q:Rat}{n:Nat}:pz (pI a b) q n=pz a q n-pz b q n:=by
 have h:pe (mJ (rc a) (gG (rc b) (-1))) q n=pz (pI a b) q n:=mP fun i _=>by
  show rc a i+rc b i*(-1)=((a i-b i:Int):Rat)
  rw [Rat.intCast_sub];show (a i:Rat)+(b i:Rat)*(-1)=_;grind
 rw [← h,zF,sV];show _=pe (rc a) q n-pe (rc b) q n
 grind
/-- THE LAW OF ONE: rows that have one value at all whole numbers are one. -/
theorem aie{a b:Nat→Int}{n m:Nat}(ha:∀ i,n≤i→a i=0)(hb:∀ i,m≤i→b i=0)(h:∀ x:Int,pz a (x:Rat) n=pz b (x:Rat) m):∀ i,a i=b i:=by
 have hz:∀ i,max n m≤i→pI a b i=0:=SX ha hb
 have h1:=He hz (fun x=>by
  rw [aaT,Bf (c:=a) (n:=max n m) (m:=n) (fun i hi=>ha i (by omega)) ha,Bf (c:=b) (n:=max n m) (m:=m) (fun i hi=>hb i (by omega)) hb,h];grind)
 intro i;have:=h1 i;unfold pI at this;omega
theorem afM(c:Nat→Int)(q:Rat)(n:Nat):((Cm c q.num (q.den:Int) n n:Int):Rat)*((q.den:Int):Rat)=((q.den:Int):Rat)^n*pz c q n:=by rw [afL,aaU]
/-- Two rows one behind the other. -/
def acH{α:Type}(n:Nat)(c d:Nat→α):Nat→α:=fun i=>bif Nat.ble (i+1) n then c i else d (i-n)
theorem agF{α:Type}{n i:Nat}{c d:Nat→α}(h:i < n):acH n c d i=c i:=by unfold acH;rw [show Nat.ble (i+1) n=true from Nat.ble_eq_true_of_le h];rfl
/-- The least common denominator of the first n. -/
def lcd(q:Nat→Rat):Nat→Nat
 | 0=>1
 | n+1=>Nat.lcm (lcd q n) (q n).den
theorem ND{q:Nat→Rat}:∀ n,0 < lcd q n
 | 0=>Nat.one_pos
 | n+1=>Nat.lcm_pos (ND n) (q n).den_pos
theorem NC{q:Nat→Rat}{i:Nat}:∀ {n},i < n→(q i).den∣lcd q n
 | 0,h=>absurd h (ab2 _)
 | n+1,h=>by
  rcases ag4 i n with h1 | h1
  ·exact Nat.dvd_trans (NC h1) (Nat.dvd_lcm_left _ _)
  ·obtain rfl:i=n:=by omega
   exact Nat.dvd_lcm_right _ _
theorem U4{c d:Nat→Int}:∀ {n:Nat},(∀ i,i < n→c i=d i)→bF c n=bF d n
 | 0,_=>rfl
 | n+1,h=>by show Nat.gcd (bF c n) _=Nat.gcd (bF d n) _;rw [U4 (fun i hi=>h i (by omega)),h n (by omega)]
theorem yR{c:Nat→Int}{i:Nat}:∀ {n},i < n→bF c n∣(c i).natAbs
 | 0,h=>absurd h (ab2 _)
 | n+1,h=>by
  rcases ag4 i n with h1 | h1
  ·exact Nat.dvd_trans (Nat.gcd_dvd_left _ _) (yR h1)
  ·obtain rfl:i=n:=by omega
   exact Nat.gcd_dvd_right _ _
/-- A normal curve's coefficients, over L. -/
def cX(L:Nat)(c:Nat→Rat):Nat→Int:=fun i=>(c i*dQ (L:Int) 1).num
theorem agD{L n:Nat}{c:Nat→Rat}(h:∀ i,n≤i→c i=0):∀ i,n≤i→cX L c i=0:=fun i hi=>by unfold cX;rw [h i hi,Rat.zero_mul];rfl
def crL(n m:Nat)(p q:Nat→Rat):Nat:=lcd (acH (dg p n) p q) (dg p n+dg q m)
/-- Each over a number. -/
def su(c:Nat→Int)(g:Int):Nat→Int:=fun i=>c i / g
theorem AX{c:Nat→Int}{g:Int}{n:Nat}(h:∀ i,n≤i→c i=0):∀ i,n≤i→su c g i=0:=fun i hi=>by unfold su;rw [h i hi];exact Int.zero_ediv _
theorem Yp{L:Nat}{p:Nat→Rat}{i:Nat}(h:(p i).den∣L):rc (cX L p) i=p i*dQ (L:Int) 1:=by
 obtain ⟨e,rfl⟩:=h;have h:=NP (x:=(p i).num) (y:=((p i).den:Int)) (by have:=(p i).den_pos;omega);rw [jJ] at h;have h2:p i*dQ (((p i).den*e:Nat):Int) 1=(((p i).num*(e:Int):Int):Rat):=by
  rw [jE,Int.natCast_mul,Rat.intCast_mul,← Rat.mul_assoc,h,← Rat.intCast_mul]
 show (((p i*dQ (((p i).den*e:Nat):Int) 1).num:Int):Rat)=_
 rw [h2,Rat.num_intCast]
theorem acM{n m:Nat}{p q:Nat→Rat}:0 < crL n m p q:=ND _
theorem afw{n m:Nat}{p q:Nat→Rat}(zp:∀ i,n≤i→p i=0)(i:Nat):rc (cX (crL n m p q) p) i=p i*dQ (crL n m p q:Int) 1:=by
 by_cases h:i < dg p n
 ·refine Yp ?_
  have:=NC (q:=acH (dg p n) p q) (i:=i) (n:=dg p n+dg q m) (by omega);rwa [agF h] at this
 ·have hp:p i=0:=nX zp i (by omega)
  unfold rc cX;rw [hp,Rat.zero_mul];rfl
/-- Rows with one value at all whole numbers are one. -/
theorem Vt{c:Nat→Rat}{n:Nat}(hz:∀ i,n≤i→c i=0)(h:∀ x:Int,pe c (x:Rat) n=0)(i:Nat):c i=0:=by
 have hL:=acM (n:=n) (m:=0) (p:=c) (q:=fun _=>0);have hc:∀ j,rc (cX (crL n 0 c fun _=>0) c) j=gG c (dQ (crL n 0 c fun _=>0:Int) 1) j:=fun j=>afw hz j
 have h0:=He (c:=cX (crL n 0 c fun _=>0) c) (n:=n) (agD hz) (fun x=>by
  show pe (rc _) _ _=0
  rw [funext hc,sV,h x,Rat.zero_mul]) i
 have h1:=afw (m:=0) (q:=fun _=>0) hz i;unfold rc at h1;rw [h0,jE] at h1;rcases aiN.1 h1.symm with h2 | h2
 ·exact h2
 ·have:=aiO.1 h2;omega
theorem aaF{a b:Nat→Rat}{n m:Nat}(ha:∀ i,n≤i→a i=0)(hb:∀ i,m≤i→b i=0)(h:∀ x:Int,pe a (x:Rat) n=pe b (x:Rat) m)(i:Nat):a i=b i:=by
 have hz:∀ j,max n m≤j→mJ a (gG b (-1)) j=0:=fun j hj=>by
  show a j+b j* -1=0
  rw [ha j (by omega),hb j (by omega)];grind
 have h0:=Vt hz (fun x=>by
  rw [zF,sV,Jo (m:=n) (fun j hj=>ha j (by omega)) ha,Jo (a:=b) (m:=m) (fun j hj=>hb j (by omega)) hb,h x];grind) i
 have h1:a i+b i* -1=0:=h0;grind
end Go.Proofs.YtapmpcgekdplfaaGreat
