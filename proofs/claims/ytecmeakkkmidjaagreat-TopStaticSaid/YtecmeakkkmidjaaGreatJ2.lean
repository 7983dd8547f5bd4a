/-
  The program's functions, part J2. No condition.
-/
import Derived.Test.YtecmeakkkmidjaaGreatJ1
set_option linter.defProp false
set_option linter.unusedVariables false
set_option linter.unusedSectionVars false
set_option linter.unusedSimpArgs false
set_option maxRecDepth 100000
set_option maxHeartbeats 4000000
namespace Go.Proofs.YtecmeakkkmidjaaGreat
open Go.RowKit
noncomputable section
variable {n K m L M k i j B V top N u0 n' m' cy bw v T S:Nat}{c a b d:Nat->Int}{x y D z:Int}{f g f':Fn}{q e t s:Rat}{el:Nat->Nat->Lf}{fa:Nat->Bool×List Nat}{p:Nat->Rat}{Y W U xs ds Wc:List Nat}{ops:Array Oper}{w' w:World}{o:Oper}
open Go.Proofs.Tryz
def jR(n:Int):Nat:=(max 0<|min n 65536).toNat
def akS(ao:Option Addr)(n c:Nat)(xs:List Nat)(z:Int)(w:World)(hn:n<=1073741824)(hr:Rw .u32 dF w ao n c xs):
  Calls prog 330 #[.slice ao n c,.int .i64 z] w λe w'=>∃ro k c',e=.returned (.slice ro k c')/\Rw .u32 dF w' ro k c' (dS<|val xs*2^jR z)/\xE w.heap.size w' ro c'/\Below w.heap.size w w':=by
 go_enter func330,ntmps330;go_wp2_with fail;refine(jy ao n c xs _ Z hr).mono ?_;rintro e w' ⟨n1,rfl,hn1,hp,rfl⟩;go_upto_region 2 with(fail);go_cut [1] (λs1 wx=>s1=.int .i64 (jR z:Nat)/\wx=w)
 case first=>
  by_cases hz0:z<=0
  ·go_wp2_with fail
   exact ayh
  ·by_cases hz1:65536<z
   ·go_wp2_with fail
    exact axy
   ·go_wp2_with fail
    exact axt
 case rest=>
  obtain⟨rfl,rfl⟩:=hcut;have hzB:jR z<=65536:=by unfold jR;omega
  obtain⟨zn,hzn⟩:∃zn,zn=jR z:=⟨_,O⟩
  rw [<-hzn] at hzB ⊢;have HZN:=bJ hzn;clear hzn;obtain⟨kk,hkk⟩:∃kk,kk=zn/32:=⟨_,O⟩
  obtain⟨ss,hss⟩:∃ss,ss=zn%32:=⟨_,O⟩
  have ay3:kk<=2048:=Z
  have ao3:ss<32:=Z
  have afp:zn=32*kk+ss:=Z
  have hd1:(zn:Int)/32=(kk:Int):=Z
  have hd2:(zn:Int)%32=(ss:Int):=Z
  have HZ:=bJ afp;clear hkk hss afp
  by_cases h0:n1=0
  ·subst h0
   go_wp2;go_ret;have hx0:val xs=0:=uP.1<|acO hp.len;exact⟨_,_,_,O,by rw [hx0,Nat.zero_mul];exact Rw.nil _ _ _,xE.nil _ _ _,Below.refl _ _⟩
  ·have hn0:((n1:Int)==0)=false:=by rw [beq_eq_false_iff_ne];omega
   go_wp2_with (at_make;refine Hid.out ?_);refine bJ<|aaq _ O _ _ 33 O 161 aBb 4 underlying33 Tryz.infoU32 O .i64 .i64 _ _ (n1+kk+1) O O Z Z Z aCI λw2 hblk hbelow hlt=>?_
   obtain⟨G,hG⟩:∃G,G=wc.heap.size:=⟨_,O⟩
   rw [<-hG] at hblk hlt hbelow ⊢;have HG:=bJ hG;clear hG;rw [<-gY] at hblk;generalize hA:dS (val xs)=P at *
   have HA:=bJ hA;clear hA hr hd1 hd2;have hpl:=hp.len;have Uu:=bJ hpl;clear hpl;go_wp2_with fail;go_loopw [32] (λs32 wr=>∃(k:Nat) (os:List Nat),k<=n1/\s32=.int .i64 k/\os.length=n1+kk+1/\(∀o∈os,o<dF)/\(∃o,os[k+kk]?=some o/\o<2^ss)/\(∀j,k+kk<j->j<n1+kk+1->os[j]?=some 0)/\ou wr G 161 (gU .u32 os)/\Below G wc wr/\
     aZ dF os=dF^kk*(2^ss*aZ dF (P.take k))) (λs32 _=>n1-(intOf s32).toNat)
   case atStart=>exact⟨0,List.replicate (n1+kk+1) 0,abJ _,O,by simp,(λo ho=>by have:=(afv.1 ho).2;exact axg),⟨0,by rw [List.getElem?_replicate,if_pos Z],ae1 _⟩,(λj _ hj=>by simp [hj]),hblk,hbelow,by simp [aZ,oI]⟩
   case round=>
    obtain⟨k,os,hk,rfl,hol,wH,⟨o,ho,hoS⟩,hz,hb,hbe,hv⟩:=hrel;have HV:=bJ hv;have HOL:=bJ hol;have HZ0:=bJ hz;have Ho:=bJ ho;have HoS:=bJ hoS;clear hv hol hblk hbelow hz ho hoS;have hb0:=hb.lt
    by_cases hkn:k<n1
    ·obtain⟨b1,off1,x,rfl,hx,oq,hcx⟩:=(hp.ext aCH).at hkn
     have hx':x<4294967296:=oq;have Hx:=bJ hx;clear hx oq;have hcell:=hb.cell (k+kk) aCX;have hg:(gU .u32 os)[k+kk]' aCX=.int .u32 (o:Int):=by
      have⟨h1,h2⟩:=acf.1 Ho.out;rw [vV,h2]
     rw [hg] at hcell;clear hg;have hfree:=hb.free<|k+kk;have hcell2:=hb.cell (k+kk+1) aCX;have ayV:=hb.free<|k+kk+1;have⟨v,t,hi,e1,e2,e3,ht,hhi,aua,hvB,e4⟩:=acr x ss o hx' ao3 HoS.out;have E4:=bJ e4;have HHS:=bJ aua;clear e4 aua;go_wp2;go_roundw
     case rel=>
      have hv1:=(hb.set (k+kk)<|.int .u32 (t:Int)).set (k+kk+1)<|.int .u32 (hi:Int);rw [iV,iV] at hv1;refine⟨k+1,(os.set (k+kk) t).set (k+kk+1) hi,by omega,by go_num,by rw [List.length_set,List.length_set];exact HOL.out,eX (eX wH ht _) hhi _,⟨hi,?_,HHS.out⟩,?_,hv1,(hbe.setCell (aav _) _).setCell (aav _) _,?_⟩
      ·rw [show k+1+kk=k+kk+1 by omega,List.getElem?_set_self<|by rw [List.length_set,HOL.out];omega]
      ·intro j h1 h2
       rw [List.getElem?_set_ne Z,List.getElem?_set_ne Z];exact HZ0.out j Z h2
      ·exact ahg Ho.out (HZ0.out _ Z Z) HV.out Hx.out E4.out
     case measure=>simp [intOf];omega
    ·obtain rfl:k=n1:=Z
     go_wp2_with fail;have hrow:=hb.rw wH;rw [HOL.out] at hrow;refine(jy _ _ _ _ _ Z hrow).mono ?_;rintro e w' ⟨r1,rfl,hr1',hres,rfl⟩;have hown:=hb.own (base:=G) (aav _) aC1;go_wp2;go_ret;refine⟨_,_,_,O,?_,by rw [<-HG.out];exact hown,by rw [<-HG.out];exact hbe⟩;have hval:val os=val xs*2^zn:=by
      have h2:=HV.out;rw [dJ _ Uu.out,<-HA.out] at h2
      change val os=_*(_*val (dS<|val xs)) at h2
      rw [eF] at h2;rw [h2,HZ.out,Nat.pow_add,Nat.pow_mul,show(2:Nat)^32=dF from O];grind
     rw [<-HZN.out,<-hval];exact hres
def akT(ao:Option Addr)(n c:Nat)(xs:List Nat)(z:Int)(w:World)(hn:n<=1073741824)(hr:Rw .u32 dF w ao n c xs):
  Calls prog 324 #[.slice ao n c,.int .i64 z] w λe w'=>∃ro k c',e=.returned (.slice ro k c')/\Rw .u32 dF w' ro k c' (dS<|val xs/2^jR z)/\xE w.heap.size w' ro c'/\Below w.heap.size w w':=by
 go_enter func324,ntmps324;go_wp2_with fail;refine(jy ao n c xs _ Z hr).mono ?_;rintro e w' ⟨n1,rfl,hn1,hp,rfl⟩;go_upto_region 2 with(fail);go_cut [1] (λs1 wx=>s1=.int .i64 (jR z:Nat)/\wx=w)
 case first=>
  by_cases hz0:z<=0
  ·go_wp2_with fail
   exact ayh
  ·by_cases hz1:65536<z
   ·go_wp2_with fail
    exact axy
   ·go_wp2_with fail
    exact axt
 case rest=>
  obtain⟨rfl,rfl⟩:=hcut;have hzB:jR z<=65536:=by unfold jR;omega
  obtain⟨zn,hzn⟩:∃zn,zn=jR z:=⟨_,O⟩
  rw [<-hzn] at hzB ⊢;have HZN:=bJ hzn;clear hzn;obtain⟨kk,hkk⟩:∃kk,kk=zn/32:=⟨_,O⟩
  obtain⟨ss,hss⟩:∃ss,ss=zn%32:=⟨_,O⟩
  have ay3:kk<=2048:=Z
  have ao3:ss<32:=Z
  have afp:zn=32*kk+ss:=Z
  have hd1:(zn:Int)/32=(kk:Int):=Z
  have hd2:(zn:Int)%32=(ss:Int):=Z
  have HZ:=bJ afp;clear hkk hss afp
  by_cases h0:n1<=kk
  ·go_wp2
   go_ret;have hx0:val xs/2^jR z=0:=by
    rw [<-HZN.out,HZ.out,Nat.pow_add,Nat.pow_mul];have h1:=Ue hp.lt;rw [eF,hp.len] at h1;have h2:dF^n1<=dF^kk:=acC φ h0;have h3:dF^kk*1<=dF^kk*2^ss:=acM _<|ae1 ss;exact Nat.div_eq_of_lt (by show val xs<dF^kk*2^ss;omega)
   exact⟨_,_,_,O,by rw [hx0];exact Rw.nil _ _ _,xE.nil _ _ _,Below.refl _ _⟩
  ·obtain⟨l,hl⟩:∃l,n1=kk+l:=⟨n1-kk,by omega⟩
   have hl0:0<l:=Z
   subst hl;go_wp2_with (at_make;refine Hid.out ?_);refine bJ<|aaq _ O _ _ 33 O 161 aBb 4 underlying33 Tryz.infoU32 O .i64 .i64 _ _ l O O Z Z Z aCI λw2 hblk hbelow hlt=>?_
   obtain⟨G,hG⟩:∃G,G=wc.heap.size:=⟨_,O⟩
   rw [<-hG] at hblk hlt hbelow ⊢;have HG:=bJ hG;clear hG;rw [<-gY] at hblk;generalize hA:dS (val xs)=P at *
   have HA:=bJ hA;clear hA hr hd1 hd2;have hpl:=hp.len;have Uu:=bJ hpl;clear hpl;go_wp2_with fail;go_loopw [31] (λs31 wr=>∃(k:Nat) (os:List Nat),k<=l/\s31=.int .i64 k/\os.length=l/\(∀o∈os,o<dF)/\ou wr G 161 (gU .u32 os)/\Below G wc wr/\
     2^ss*aZ dF (os.take k)+(P.drop kk).getD 0 0%2^ss=aZ dF ((P.drop kk).take k)+dF^k*((P.drop kk).getD k 0%2^ss)) (λs31 _=>l-(intOf s31).toNat)
   case atStart=>exact⟨0,List.replicate l 0,abJ _,O,by simp,(λo ho=>by have:=(afv.1 ho).2;exact axg),hblk,hbelow,by simp [aZ]⟩
   case round=>
    obtain⟨k,os,hk,rfl,hol,wH,hb,hbe,hv⟩:=hrel;have HV:=bJ hv;have HOL:=bJ hol;clear hv hol hblk hbelow;have hb0:=hb.lt
    by_cases hkn:k<l
    ·obtain⟨b1,off1,x,rfl,hx,oq,hcx⟩:=(hp.ext aCH).at (show k+kk<kk+l by omega)
     have hx':x<4294967296:=oq;have Hx:=bJ hx;clear hx oq;have hcell:=hb.cell k aCX;have hfree:=hb.free k
     by_cases hk1:k+1<l
     ·obtain⟨y,hy,hyB,hcy⟩:=(hp.ext aCH).cell (show k+kk+1<kk+l by omega)
      have hy':y<4294967296:=hyB;have Hy:=bJ hy;clear hy hyB;obtain⟨q,e1,hq,e2⟩:=acs x y ss hx' hy' ao3;have E1:=bJ e1;have E2:=bJ e2;clear e1 e2;go_wp2;rw [E1.out];go_roundw
      case rel=>
       have hv:=hb.set k<|.int .u32 (q:Int);rw [iV] at hv;refine⟨k+1,os.set k q,by omega,by go_num,by rw [List.length_set];exact HOL.out,eX wH hq k,hv,hbe.setCell (aav _) _,?_⟩;refine WB aCT HV.out (x:=x) (y:=y) ?_ ?_ E2.out
       ·rw [List.getElem?_drop,Nat.add_comm];exact Hx.out
       ·rw [List.getD_eq_getElem?_getD,List.getElem?_drop,show kk+(k+1)=k+kk+1 by omega,Hy.out];rfl
      case measure=>simp [intOf];omega
     ·obtain⟨q,e1,hq,e2⟩:=YB x ss hx'
      have E1:=bJ e1;have E2:=bJ e2;clear e1 e2;go_wp2;rw [E1.out];go_roundw
      case rel=>
       have hv:=hb.set k<|.int .u32 (q:Int);rw [iV] at hv;refine⟨k+1,os.set k q,by omega,by go_num,by rw [List.length_set];exact HOL.out,eX wH hq k,hv,hbe.setCell (aav _) _,?_⟩;refine WB aCT HV.out (x:=x) (y:=0) ?_ ?_ E2.out
       ·rw [List.getElem?_drop,Nat.add_comm];exact Hx.out
       ·rw [List.getD_eq_getElem?_getD,List.getElem?_drop,List.getElem?_eq_none aGn];rfl
      case measure=>simp [intOf];omega
    ·obtain rfl:k=l:=Z
     go_wp2_with fail;have hrow:=hb.rw wH;rw [HOL.out] at hrow;refine(jy _ _ _ _ _ Z hrow).mono ?_;rintro e w' ⟨r1,rfl,hr1',hres,rfl⟩;have hown:=hb.own (base:=G) (n:=k) (aav _) aC1;go_wp2;go_ret;refine⟨_,_,_,O,?_,by rw [<-HG.out];exact hown,by rw [<-HG.out];exact hbe⟩;have hval:val os=val xs/2^zn:=by
      have h2:=HV.out;have hdl:(P.drop kk).length=k:=by rw [List.length_drop,Uu.out];omega
      rw [dJ _ HOL.out,dJ _ hdl,List.getD_eq_getElem?_getD (i:=k),List.getElem?_eq_none Z] at h2;simp only [Option.getD_none,Nat.zero_mod,Nat.mul_zero,Nat.add_zero] at h2;have h3:=sD dF P kk aGn;have h4:val P=val xs:=by rw [<-HA.out,eF]
      have h5:aZ dF (P.take kk)<dF^kk:=by
       have:=sK (B:=dF) (xs:=P.take kk) (λx h=>hp.lt x<|aja h);rwa [List.length_take,Nat.min_eq_left aGn] at this
      have h6:(P.drop kk).getD 0 0%2^ss<2^ss:=acP _<|ae1 ss;rw [HZ.out,Nat.pow_add,Nat.pow_mul,show(2:Nat)^32=dF from O,<-Nat.div_div_eq_div_mul,<-h4]
      change val P=_ at h3
      rw [h3,Nat.add_mul_div_left _ _<|Nat.pow_pos φ,Nat.div_eq_of_lt h5,Nat.zero_add,<-h2,Nat.mul_add_div<|Nat.two_pow_pos ss,Nat.div_eq_of_lt h6];rfl
     rw [<-HZN.out,<-hval];exact hres
def bY(n:Nat):Nat:=if n=0 then 0 else n.log2+1
def SE(h0:2^k<=n)(h1:n<2^(k+1)):bY n=k+1:=by have hp:=ae1 k;have hn:n≠0:=Z;rw [bY,if_neg hn];have h2:n.log2<k+1:=(Nat.log2_lt hn).2 h1;have h3:k<=n.log2:=(Nat.le_log2 hn).2 h0;omega
def EU:bY 0=0:=rfl
def Ci(n:Nat):n<2^bY n:=by rw [bY];split;omega;exact Nat.lt_log2_self
def NC(h:n≠0):2^(bY n-1)<=n:=by rw [bY,if_neg h];exact Nat.log2_self_le h
def IG(h:n≠0):0<bY n:=by rw [bY,if_neg h];omega
def xw{s y l:Nat}(hl:l<2^s)(hy:y≠0)(hn:n=l+2^s*y):bY n=s+bY y:=by have h1:=Ci y;have h2:=NC hy;have h3:=IG hy;obtain⟨b,hb⟩:∃b,bY y=b+1:=⟨bY y-1,by omega⟩;rw [hb] at h1 h2 ⊢;rw [Nat.add_sub_cancel] at h2;refine SE (k:=s+b) ?_ ?_;rw [Nat.pow_add];have:=acM (2^s) h2;omega;rw [Nat.add_assoc,Nat.pow_add];have:=acM (2^s) (show y+1<=2^(b+1) from h1);grind
def jM(h:n<2^k):bY n<=k:=by by_cases h0:n=0;subst h0;simp [bY];have h1:=NC h0;have h2:2^(bY n-1)<2^k:=ac1 h1 h;have:=(Nat.pow_lt_pow_iff_right φ).1 h2;omega
def am7(s:ByteArray):Bool:=(List.range 256).all λy=>(s.data[y]?).map (λb=>b.toNat)==some (bY y)
def aqK{s:ByteArray}(h:am7 s=true){y:Nat}(hy:y<256):∃b:UInt8,s[y]?=some b/\b.toNat=bY y:=by have h1:=ac6.1 h y aCj;simp only [beq_iff_eq,Option.map_eq_some_iff] at h1;assumption
def Ai{P:Program}(w:World){rest:List Oper}{a:Act}{Q:Exit->Act->World->Prop}(hgd:o.guard=none)(t:TypeId)(s:ByteArray)(x:Operand) 
  (hop:o.op=.index t (.const<|.string s) x) (ht:P.underlying t=some .string) (k:IntKind) (y:Nat) (hx:a.eval x=.int k (y:Int)) (hy:y<256) (htab:am7 s=true)
  (h:wpList P ops Q rest (a.put o.dst<|.int .u8 (bY y:Nat)) w):wpList P ops Q (o::rest) a w:=by have⟨b,hb,hn⟩:=aqK htab hy;refine wpList_plain hgd λK hK=>?_;have hrun:(Instr.index t (.string s)<|.int k (y:Int)).run P w=.ok (.int .u8 (bY y:Nat)) w:=(by unfold Instr.index;simp [run_underlying ht,asIntOf,hb,hn]);unfold Oper.wp;have he:a.eval (.const<|.string s)=.string s:=O;simp [execOp,hop,hx,he,hrun,Result.andThen];exact hK _ _ h
def PD(x:Nat)(w:World)(hx:x<4294967296):
  Calls prog 326 #[.int .u32 (x:Int)] w λe w'=>e=.returned (.int .i64 (bY x:Nat))/\w'=w:=by
 by_cases h1:65536<=x
 ·obtain⟨y,hy⟩:∃y:Nat,y=x/65536:=⟨_,O⟩
  have hyB:y<65536:=Z
  have hq:(x:Int)/65536=(y:Int):=Z
  have HY:=bJ hy;clear hy;have hb1:decide ((65536:Int)<=(x:Int))=true:=by rw [decide_eq_true_eq];omega
  by_cases h2:256<=y
  ·obtain⟨z,hz⟩:∃z:Nat,z=y/256:=⟨_,O⟩
   have hzB:z<256:=Z
   have hq2:(y:Int)/256=(z:Int):=Z
   have HZ:=bJ hz;clear hz;have BR:bY x=bY z+24:=by
    have:=xw (s:=24) (y:=z) (l:=x%16777216) aFd (by have:=HZ.out;omega) (by have h3:=HZ.out;have h4:=HY.out;show x=x%16777216+16777216*z;omega);omega
   have HB:=bJ BR;clear BR;have hn9:bY z<=8:=jM hzB;go_enter func326,ntmps326;go_wp2_with (with_reducible refine Hid.out (p:=wpList _ _ _ ({dst:=some 16,op:=_,type:=_,pos:=_,after:=_,guard:=_}::_) _ _) ?_);refine bJ<|Ai _ O 9 _ _ O underlying9 .u8 z O hzB aFz ?_;exact au3
  ·have auQ:y<256:=Z
   have hy0:0<y:=Z
   have hb2:decide ((256:Int)<=(y:Int))=false:=by rw [decide_eq_false_iff_not];omega
   have BR:bY x=bY y+16:=by
    have:=xw (s:=16) (y:=y) (l:=x%65536) aFd Z (by have h4:=HY.out;show x=x%65536+65536*y;omega);omega
   have HB:=bJ BR;clear BR;have hn9:bY y<=8:=jM auQ;go_enter func326,ntmps326;go_wp2_with (with_reducible refine Hid.out (p:=wpList _ _ _ ({dst:=some 16,op:=_,type:=_,pos:=_,after:=_,guard:=_}::_) _ _) ?_);refine bJ<|Ai _ O 9 _ _ O underlying9 .u8 y O auQ aFz ?_;exact au3
 ·have hb1:decide ((65536:Int)<=(x:Int))=false:=by rw [decide_eq_false_iff_not];omega
  by_cases h2:256<=x
  ·obtain⟨z,hz⟩:∃z:Nat,z=x/256:=⟨_,O⟩
   have hzB:z<256:=Z
   have hq2:(x:Int)/256=(z:Int):=Z
   have HZ:=bJ hz;clear hz;have hb2:decide ((256:Int)<=(x:Int))=true:=by rw [decide_eq_true_eq];omega
   have BR:bY x=bY z+8:=by
    have:=xw (s:=8) (y:=z) (l:=x%256) aFd (by have:=HZ.out;omega) (by have h3:=HZ.out;show x=x%256+256*z;omega);omega
   have HB:=bJ BR;clear BR;have hn9:bY z<=8:=jM hzB;go_enter func326,ntmps326;go_wp2_with (with_reducible refine Hid.out (p:=wpList _ _ _ ({dst:=some 16,op:=_,type:=_,pos:=_,after:=_,guard:=_}::_) _ _) ?_);refine bJ<|Ai _ O 9 _ _ O underlying9 .u8 z O hzB aFz ?_;exact au3
  ·have oq:x<256:=Z
   have hb2:decide ((256:Int)<=(x:Int))=false:=by rw [decide_eq_false_iff_not];omega
   have hn9:bY x<=8:=jM oq;go_enter func326,ntmps326;go_wp2_with (with_reducible refine Hid.out (p:=wpList _ _ _ ({dst:=some 16,op:=_,type:=_,pos:=_,after:=_,guard:=_}::_) _ _) ?_);refine bJ<|Ai _ O 9 _ _ O underlying9 .u8 x O oq aFz ?_;go_wp2;go_ret;exact ayE
def af2(x:Nat)(w:World)(hx:x<4294967296):
  Calls prog 321 #[.int .u32 (x:Int)] w λe w'=>e=.returned (.int .i64 ((32-bY x:Nat):Int))/\w=w':=by
 have hn:=jM (k:=32) hx;go_enter func321,ntmps321;go_wp2_with fail;refine(PD x _ hx).mono ?_;rintro e w' ⟨rfl,rfl⟩;go_wp2;go_ret;exact⟨kZ Z,O⟩
def ad6(ao:Option Addr)(n c:Nat)(xs:List Nat)(w:World)(hn:n<=1073741824)(hr:Rw .u32 dF w ao n c xs):
  Calls prog 302 #[.slice ao n c] w λe w'=>e=.returned (.int .i64 (bY (val xs):Nat))/\w=w':=by
 go_enter func302,ntmps302;go_wp2_with fail;refine(jy ao n c xs _ Z hr).mono ?_;rintro e w' ⟨n1,rfl,hn1,hp,rfl⟩
 by_cases h0:n1=0
 ·subst h0
  have hx0:val xs=0:=uP.1<|acO hp.len;have HX:=bJ hx0;clear hx0;go_wp2;go_ret;exact⟨by rw [HX.out];rfl,O⟩
 ·obtain⟨j,rfl⟩:∃j,n1=j+1:=⟨n1-1,by omega⟩
  obtain⟨b1,off1,x,rfl,hx,oq,hcx⟩:=hp.at (show j<j+1 by omega);have hx':x<4294967296:=oq;have hx0:x≠0:=by
   rintro rfl;have h1:=(LY sF<|val xs).2;rw [List.getLast?_eq_getElem?] at h1
   change (dS<|val xs)[(dS<|val xs).length-1]?≠some 0 at h1
   rw [hp.len,Nat.add_sub_cancel] at h1;exact h1 hx
  have BR:bY (val xs)=32*j+bY x:=by
   have h1:=eF<|val xs;have h2:=bT dF hx;rw [dJ _ hp.len] at h2
   change val (dS<|val xs)=_ at h2
   rw [h1] at h2;refine xw (l:=aZ dF<|(dS<|val xs).take j) ?_ hx0 ?_
   ·have:=sK (B:=dF) (xs:=(dS<|val xs).take j) (λx h=>Gz _ x<|aja h)
    rw [List.length_take,hp.len,Nat.min_eq_left Z] at this;rw [Nat.pow_mul];exact this
   ·rw [Nat.pow_mul];exact h2
  have HB:=bJ BR;clear BR;have hnb:=jM (k:=32) hx';clear hx oq hx0;go_wp2_with fail;refine(PD x _ hx').mono ?_;rintro e w' ⟨rfl,rfl⟩;go_wp2;go_ret;exact⟨kZ<|by rw [HB.out];simp;try omega,O⟩
def ab6(v:Int)(n:Nat)(w:World)(hn:1<=n)(hn2:n<=1000000)(hv1: -9223372036854775808<=v)(hv2:v<=9223372036854775807):
  Calls prog 12 #[.int .i64 v,.int .i64 (n:Int)] w λe w'=>e=.returned (.int .i64<|v%(n:Int))/\w=w':=by
 have hn0:((n:Int)==0)=false:=by rw [beq_eq_false_iff_ne];omega
 obtain⟨t,ht⟩:∃t,t=v.tmod (n:Int):=⟨_,O⟩
 have hte:v.tmod (n:Int)=t:=ht.symm;have hb1: -(n:Int)<t/\t<n:=by
  have h1:=Int.tmod_lt_of_pos v (show(0:Int)<n by omega);have h2:=Int.lt_tmod_of_pos v (show(0:Int)<n by omega);omega
 have hem:v%(n:Int)=if t<0 then t+n else t:=by
  have hv:v=t+n*(v.tdiv n):=by rw [ht];exact(Int.tmod_add_mul_tdiv v n).symm
  rw [hv,Int.add_mul_emod_self_left];split
  ·have h3:t%(n:Int)=(t+n)%(n:Int):=by simp
   rw [h3,Int.emod_eq_of_lt Z Z]
  ·rw [Int.emod_eq_of_lt Z Z]
 have HEM:=bJ hem;clear hem ht;have⟨hb1,hb2⟩:=hb1
 by_cases ht0:t<0
 ·have hd:decide (t<0)=true:=by simpa using ht0
  by_cases hv0:0<=v
  ·exfalso
   have:=Int.tmod_nonneg (n:Int) hv0;omega
  ·go_enter func12,ntmps12
   go_wp2;go_ret;exact⟨kZ<|by rw [HEM.out,if_pos Z],O⟩
 ·have hd:decide (t<0)=false:=by simpa using ht0
  by_cases hv0:0<=v
  ·have hvt:v%(n:Int)=t:=by rw [<-hte,Int.tmod_eq_emod_of_nonneg hv0]
   clear HEM;go_enter func12,ntmps12;go_wp2;go_ret;exact ayE
  ·go_enter func12,ntmps12
   go_wp2;go_ret;exact⟨kZ<|by rw [HEM.out,if_neg Z],O⟩
section
variable {b M top next Vl head u2 Ul U V g r:Nat}
def ajK(hU:U=(head*b+u2)*M+Ul)(hUl:Ul<M)(hu2:u2<b)(hV:V=(top*b+next)*M+Vl)(hh:head=g*top+r)(hr:r<top):U<(g+1)*V:=by have h1:(head*b+u2+1)*M<=((g+1)*(top*b))*M:=(by refine abh _ ?_;have h2:(head+1)*b<=((g+1)*top)*b:=abh _ ψ;grind);have h3:(g+1)*V=((g+1)*(top*b))*M+(g+1)*(next*M+Vl):=ψ;grind
def apn(hU:U=(head*b+u2)*M+Ul)(hUl:Ul<M)(hV:V=(top*b+next)*M+Vl)(hh:head=g*top+r)(ht:r*b+u2<g*next):U<g*V:=by have h1:(head*b+u2+1)*M<=(g*(top*b)+g*next)*M:=(by refine abh _ ?_;have:head*b=g*(top*b)+r*b:=ψ;omega);have h3:g*V=(g*(top*b)+g*next)*M+g*Vl:=ψ;grind
def RS(hU:U=(head*b+u2)*M+Ul)(hV:V=(top*b+next)*M+Vl)(hVl:Vl<M)(hh:head=g*top+r)(ht:g*next<=r*b+u2)(hg:g<b)(htop:0<top):g*V<=U+V:=by have h1:(g*(top*b)+g*next)*M<=(head*b+u2)*M:=(by refine abh _ ?_;have:head*b=g*(top*b)+r*b:=ψ;omega);have h3:g*V=(g*(top*b)+g*next)*M+g*Vl:=ψ;have h5:g*Vl<=b*M:=ac2 (acQ hg)<|acQ hVl;have h6:b*M<=V:=(by rw [hV];have h7:(1*b)*M<=(top*b+next)*M:=abh _ (by have:=abh b (show 1<=top from htop);omega);grind);omega
end
def apo{b u1 u2 Ul U next Vl:Nat}(hU:U=((u0*b+u1)*b+u2)*M+Ul)(hV:V=(top*b+next)*M+Vl)(hVl:Vl<M)(hn:next<b)(h:U<b*V):u0<=top:=by rcases ahZ top u0 with h0|h0;exfalso;have h1:((top+1)*b)*b*M<=(u0*b)*b*M:=abh _<|abh _<|abh _ h0;have h2:(u0*b)*b*M<=U:=aDj;have h3:V+M<=((top+1)*b)*M+M:=(by have:(top*b+next+1)*M<=((top+1)*b)*M:=abh _ ψ;grind);have h3':V<=((top+1)*b)*M:=Z;have h4:=acM b h3';grind;omega
def aoh{U q:Nat}(hV:0<V)(h1:q*V<=U)(h2:U<(q+1)*V):U/V=q:=by have h3:q<=U/V:=(Nat.le_div_iff_mul_le hV).2 h1;have h4:U/V<q+1:=(Nat.div_lt_iff_lt_mul hV).2 h2;omega
def ab8{x y g d c1 b1:Nat}(hi:i<W.length)(hv:aZ B (W.take i)+g*aZ B (Y.take i)=aZ B (U.take i)+B^i*(cy+bw)) 
  (hU:U[i]?=some x) (hY:Y[i]?=some y) (hd:d+(g*y+cy)+bw=x+B*(b1+c1)):
  aZ B ((W.set i d).take<|i+1)+g*aZ B (Y.take<|i+1)=aZ B (U.take<|i+1)+B^(i+1)*(c1+b1):=by exact axG
def XF{g t:Nat}(hWl:W.length=n+1)(hWc:Wc.length=n+1)(hYl:Y.length=n)(hu:W[n]?=some u0) 
  (hv:aZ B (Wc.take n)+g*aZ B (Y.take n)=aZ B (W.take n)+B^n*(cy+bw)) (ht:t+cy+bw=u0):aZ B (Wc.set n t)+g*aZ B Y=aZ B W:=by exact axn
def XG{g t:Nat}(hWl:W.length=n+1)(hWc:Wc.length=n+1)(hYl:Y.length=n)(hu:W[n]?=some u0) 
  (hv:aZ B (Wc.take n)+g*aZ B (Y.take n)=aZ B (W.take n)+B^n*(cy+bw)) (ht:t+cy+bw=u0+B):aZ B (Wc.set n t)+g*aZ B Y=aZ B W+B^(n+1):=by exact axn
def XH{bk g t e x:Nat}{Wd:List Nat}(hWd:Wd.length=n+1)(hWc:Wc.length=n+1)(hYl:Y.length=n)(ht:Wc[n]?=some t) 
  (hv:aZ B (Wd.take n)+B^n*bk=aZ B (Wc.take n)+aZ B (Y.take n)) (hx:x+B*e=t+bk) (he:e<=1)
  (hW:aZ B Wc+g*aZ B Y=V+B^(n+1)) (hB:aZ B (Wd.set n x)<B^(n+1)) (hY:aZ B Y<B^(n+1)) (hg:g*aZ B Y<=V+aZ B Y) (hg2:V<g*aZ B Y):
  aZ B (Wd.set n x)+g*aZ B Y=V+aZ B Y:=by have h1:=ji B Wd n x Z;rw [dJ B aCj] at h1;have h2:=bT B ht;rw [dJ B hWc] at h2;rw [dJ B hYl] at hv;have h3:B^n*(x+B*e)=B^n*(t+bk):=(by rw [hx]);have hp:B^n*(B*e)=B^(n+1)*e:=ψ;rw [Nat.mul_add,Nat.mul_add,hp] at h3;have he2:e=0\/e=1:=Z;grind
def Yj{U q r:Nat}(h:r+q*V=U)(hr:r<V):U/V=q/\U%V=r:=by have hV:0<V:=Z;have h1:U/V=q:=aoh hV Z ψ;refine⟨h1,?_⟩;have h2:=ajz U V;grind
def abo{x y bk d c1:Nat}(hi:i<W.length)(hv:aZ B (W.take i)+B^i*bk=aZ B (U.take i)+aZ B (Y.take i)) 
  (hU:U[i]?=some x) (hY:Y[i]?=some y) (hd:d+B*c1=x+y+bk):
  aZ B ((W.set i d).take<|i+1)+B^(i+1)*c1=aZ B (U.take<|i+1)+aZ B (Y.take<|i+1):=by exact axG
def ak5{a c:Nat}(hl:Y.length=k+2)(ha:Y[k+1]?=some a)(hc:Y[k]?=some c):aZ B Y=(a*B+c)*B^k+aZ B (Y.take k):=by have h1:=bT B ha;have h2:=bT B hc;grind
def acB{a c e:Nat}(hl:U.length=k+3)(ha:U[k+2]?=some a)(hc:U[k+1]?=some c)(he:U[k]?=some e):
  aZ B U=((a*B+c)*B+e)*B^k+aZ B (U.take k):=by have h1:=bT B ha;have h2:=bT B hc;have h3:=bT B he;grind
def ahB{a c:Nat}(h2:2<=n)(hl:Y.length=n)(ha:Y[n-1]?=some a)(hc:Y[n-2]?=some c):aZ B Y=(a*B+c)*B^(n-2)+aZ B (Y.take<|n-2):=by obtain⟨k,rfl⟩:∃k,n=k+2:=⟨n-2,by omega⟩;exact ak5 hl ha hc
def YC{a c e:Nat}(h2:2<=n)(hl:U.length=n+1)(ha:U[n]?=some a)(hc:U[n-1]?=some c)(he:U[n-2]?=some e):
  aZ B U=((a*B+c)*B+e)*B^(n-2)+aZ B (U.take<|n-2):=by obtain⟨k,rfl⟩:∃k,n=k+2:=⟨n-2,by omega⟩;exact acB hl ha hc he
def KQ(hB:∀x∈Y,x<B)(hk:k<=Y.length):aZ B (Y.take k)<B^k:=by have:=sK (B:=B) (xs:=Y.take k) ψ;simp_all
def ai9{A C:List Nat}(hB:2<=B)(hi:A.length=i)(hW:W.length=n+1)(hlt:∀x∈W,x<B)(hV:V<B^n)(h:aZ B ((A++(W++C)).drop<|i+1)<V):
  aZ B W<B*V/\aZ B C=0:=by obtain⟨x,W1,rfl⟩:∃x W1,W=x::W1:=(by cases W with|nil=>simp at hW|cons x W1=>simp_all);have e:(A++(x::W1++C)).drop (i+1)=W1++C:=(by subst hi;simp_all);rw [e,kV] at h;have hx:x<B:=hlt x ajr;have hl:W1.length=n:=aCj;rw [hl] at h;have h0:aZ B C=0:=(by rcases acT (aZ B C) with h1|h1;omega;have:=acM (B^n) h1;omega);refine⟨?_,h0⟩;rw [h0,Nat.mul_zero,Nat.add_zero] at h;rw [DX];have:=acM B (show aZ B W1+1<=V from h);grind
def aeO{q X:Nat}{A W' C qs:List Nat}(hA:A.length=i)(hC:aZ B C=0)(hW:aZ B W'+q*V=aZ B W)(hi:i<qs.length) 
  (hv:aZ B (A++(W++C))+B^(i+1)*(aZ B (qs.drop<|i+1)*V)=X) (hW':W'.length=n+1) (hWl:W.length=n+1):
  aZ B (A++(W'++C))+B^i*(aZ B ((qs.set i q).drop i)*V)=X/\aZ B ((A++(W'++C)).drop i)=aZ B W':=by constructor;rw [Eu B qs i q hi];rw [kV,kV,hC,Nat.mul_zero,Nat.add_zero,hA] at hv ⊢;grind;subst hA;rw [List.drop_left,kV,hC,Nat.mul_zero,Nat.add_zero]
def ald{U q r:Nat}(hS:0<S)(h:r+q*(V*S)=U*S)(hr:r<V*S):U/V=q/\U%V=r/S:=by have h1:q*(V*S)=(q*V)*S:=ψ;have hle:q*V<=U:=(by refine Nat.le_of_mul_le_mul_right (c:=S) ?_ hS;omega);have hr2:r=(U-q*V)*S:=(by rw [Nat.sub_mul];omega);have hrS:r/S=U-q*V:=aCj;have hlt:U-q*V<V:=aCj;have:=Yj (U:=U) (V:=V) (q:=q) (r:=U-q*V) Z hlt;omega
def Wx{low:Nat}(hV:V=v*B^k+low)(hlow:low<B^k)(h1:(v+1)*S<=B)(h2:B<=2*(v*S))(hS:0<S):
  V*S<B^(k+1)/\B*B^k<=2*(V*S)/\B^k*S<=V*S:=by have hv:1<=v:=aDj;refine⟨?_,?_,?_⟩;have h3:V+1<=(v+1)*B^k:=ψ;have h4:(V+1)*S<=(v+1)*B^k*S:=abh _ h3;have h5:(v+1)*B^k*S=(v+1)*S*B^k:=ψ;have h6:(v+1)*S*B^k<=B*B^k:=abh _ h1;grind;have h3:B*B^k<=2*(v*S)*B^k:=abh _ h2;have h4:2*(v*S)*B^k=2*((v*B^k)*S):=ψ;have h5:(v*B^k)*S<=V*S:=abh _ Z;omega;refine abh _ ?_;have:=abh (B^k) hv;omega
def ahp{U D X:Nat}(hU:U<B^(j+k))(hX:X=T+B^j*D)(hXU:X=U*S)(hV:B^k*S<=V)(hB:0<B)(hS:0<S):D<V:=by have h1:B^j*D<B^j*(B^k*S):=(by have h2:U*S<B^(j+k)*S:=ah2 hU hS;grind);have:=Nat.lt_of_mul_lt_mul_left h1;omega
def acA{y:Nat}(hB:∀x∈Y,x<B)(hl:Y.length=k+1)(hy:Y[k]?=some y)(hV:aZ B Y=V)(h:B*B^k<=2*V):B<=2*y+1:=by have h1:=bT B hy;rw [dJ B hl,hV] at h1;have h2:=KQ hB (k:=k) Z;have h3:B*B^k<(2*y+2)*B^k:=aDj;have:=anF h3;omega
def W9(w:World)(G:Nat)(A W C:List Nat)(off:Nat):Prop:=ou w G 161 (gU .u32<|A++(W++C))/\A.length=off
section
variable {w w':World} {G off:Nat} {A W C:List Nat}
def W9.lt(h:W9 w G A W C off):G<w.heap.size:=h.1.lt
def W9.cell(h:W9 w G A W C off){x:Nat}(hi:W[i]?=some x):w.cell? ⟨G,off+i,none⟩=some (.int .u32 (x:Int)):=by
 have⟨hb,hl⟩:=h;have⟨hlt,hx⟩:=acf.1 hi;have hlen:off+i<(gU .u32<|A++(W++C)).length:=by rw [dK];grind
 rw [hb.cell _ hlen,vV];simp_all
def W9.free(h:W9 w G A W C off)(j:Nat):w.frozen? ⟨G,j,none⟩=false:=h.1.free j
def W9.set(h:W9 w G A W C off)(hi:i<W.length)(d:Nat):W9 (w.setCell ⟨G,off+i,none⟩<|.int .u32 (d:Int)) G A (W.set i d) C off:=by have⟨hb,hl⟩:=h;refine⟨?_,hl⟩;have:=hb.set (off+i)<|.int .u32 (d:Int);rw [iV,List.set_append_right (off+i) d Z,List.set_append_left (off+i-A.length) d Z,show off+i-A.length=i by omega] at this;omega
end
def vJ(G:Nat)(w w':World):Prop:=w'.os=w.os/\w'.tape=w.tape/\w'.output=w.output/\w'.heap.size=w.heap.size/\∀k,k≠G->w'.heap[k]?=w.heap[k]?
def vJ.refl(G:Nat)(w:World):vJ G w w:=⟨O,O,O,O,λ_ _=>rfl⟩
def vJ.setCell{G:Nat}(h:vJ G w w')(i:Nat)(v:Value):vJ G w<|w'.setCell ⟨G,i,none⟩ v:=
 ⟨h.1,h.2.1,h.2.2.1,by rw [World.size_setCell];exact h.2.2.2.1,λk hk=>by rw [heap_setCell_other _ _ k _ hk];exact h.2.2.2.2 k hk⟩
def vJ.below{G:Nat}(h:vJ G w w')(hB:B<=G):Below B w w':=⟨h.1,h.2.1,h.2.2.1,by rw [h.2.2.2.1];omega,λk hk=>h.2.2.2.2 k Z⟩
def abE(G off n c b2 off2 d:Nat)(A W C Y:List Nat)(w:World)(hn:n<=1073741824)(hn2:2<=n)(hwin:W9 w G A W C off)(hWl:W.length=n+1)(hWB:∀x∈W,x<dF)(hc:n+1<=c) 
  (hy:Rw .u32 dF w (some ⟨b2,off2,none⟩) n d Y) (hne:b2≠G) (top:Nat) (htop:Y[n-1]?=some top) (aml:2147483648<=top) (hlt:val W<dF*val Y):
  Calls prog 323 #[.slice (some ⟨G,off,none⟩) (n+1) c,.slice (some ⟨b2,off2,none⟩) n d] w λe w'=>∃W',e=.returned (.int .u32 ((val W/val Y:Nat):Int))/\W9 w' G A W' C off/\W'.length=n+1/\
   (∀x∈W',x<dF)/\val W'=val W%val Y/\vJ G w w':=by
 have⟨next,hnext,afg,hcn⟩:=hy.cell (show n-2<n by omega);have⟨top',Vx,afn,hct⟩:=hy.cell (show n-1<n by omega);rw [htop] at Vx;obtain rfl:=ahT Vx;obtain⟨u0,hu0⟩:∃u,W[n]?=some u:=⟨_,aew Z⟩
 obtain⟨u1,hu1⟩:∃u,W[n-1]?=some u:=⟨_,aew Z⟩
 obtain⟨u2,hu2⟩:∃u,W[n-2]?=some u:=⟨_,aew Z⟩
 have ao5:u0<4294967296:=hWB _<|ajo hu0;have auH:u1<4294967296:=hWB _<|ajo hu1;have ao6:u2<4294967296:=hWB _<|ajo hu2;have hc0:=hwin.cell hu0;have hc1:=hwin.cell hu1;have hc2:=hwin.cell hu2;have hnB:next<4294967296:=afg;have ZU:top<4294967296:=afn;obtain⟨head,hhead⟩:∃head:Nat,head=u0*4294967296+u1:=⟨_,O⟩
 have hor:=SL u0 u1 ao5 auH;rw [<-hhead] at hor;obtain⟨g0,hg0⟩:∃g:Nat,g=head/top:=⟨_,O⟩
 obtain⟨r0,hr0⟩:∃g:Nat,g=head%top:=⟨_,O⟩
 have hg0':(head:Int)/(top:Int)=(g0:Int):=by rw [hg0];rfl
 have auz:(head:Int)%(top:Int)=(r0:Int):=by rw [hr0];rfl
 have azo:((top:Int)==0)=false:=by rw [beq_eq_false_iff_ne];omega
 have auE:(1:Int)<=top:=Z
 have atW:g0<=8589934592:=by
  rw [hg0];have h1:head/top<8589934593:=by
   rw [Nat.div_lt_iff_lt_mul Z];have:=acM 8589934593 aml;omega
  omega
 have HG0:=bJ hg0;have HR0:=bJ hr0;have HH:=bJ hhead;have HT:=bJ htop;have HU0:=bJ hu0;have HU1:=bJ hu1;have HU2:=bJ hu2;have HN:=bJ hnext;have HWL:=bJ hWl;have HLT:=bJ hlt;clear hg0 hr0 hhead htop hu0 hu1 hu2 hnext hWl hlt afg afn;go_enter func323,ntmps323;go_wp2;go_quiet (fail);go_wp2;go_quiet (fail);go_upto_block 0 with(fail);rw [auz];clear auz hg0' hor;go_cut [9] (λs9 wx=>∃g:Nat,s9=.int .u64 g/\g<4294967296/\val W<(g+1)*val Y/\g*val Y<=val W+val Y/\W9 wx G A W C off/\vJ G w wx)
 case first=>
  have h2:=HH.out;have hUW:=YC hn2 HWL.out HU0.out HU1.out HU2.out (B:=dF);have hVY:=ahB hn2 hy.len HT.out HN.out (B:=dF);have hUl:=KQ hWB (k:=n-2) (by rw [HWL.out];omega);have hVl:=KQ hy.lt (k:=n-2) (by rw [hy.len];omega);have auG:u0<=top:=apo hUW hVY hVl hnB HLT.out;rw [show u0*dF+u1=head from h2.symm] at hUW;have hhd:head=g0*top+r0:=by rw [HG0.out,HR0.out,Nat.mul_comm];exact(anl head top).symm
  have hin:val W<(g0+1)*val Y:=ajK hUW hUl ao6 hVY hhd (by rw [HR0.out];exact acP _ Z);have azl:r0<4294967296:=by rw [HR0.out];have:=acP head (show 0<top by omega);omega
  have HUW:=bJ hUW;have HVY:=bJ hVY;have HUL:=bJ hUl;have HVL:=bJ hVl;have HIN:=bJ hin;have HHD:=bJ hhd;clear h2 hUW hVY hUl hVl hin hhd;go_wp2_with fail;go_loop [9,10] (λs9 s10=>∃g r:Nat,s9=.int .u64 g/\s10=.int .u64 r/\g<=8589934592/\head=g*top+r/\r<4294967296/\val W<(g+1)*val Y) (λs9 _=>(intOf s9).toNat)
  case atStart=>exact⟨g0,r0,O,O,atW,HHD.out,azl,HIN.out⟩
  case round=>
   obtain⟨g,r,rfl,rfl,hgU,hgr,hrB,hUg⟩:=hrel;have HGR:=bJ hgr;have HUG:=bJ hUg;clear hgr hUg;obtain⟨s2,hs2⟩:∃s2:Nat,s2=r*4294967296+u2:=⟨_,O⟩
   have hor2:=SL r u2 hrB ao6;rw [<-hs2] at hor2;have HS2:=bJ hs2;clear hs2
   by_cases hgB:4294967296<=g
   ·have hg1:1<=g:=Z
    have hdg:decide ((4294967296:Int)<=(g:Int))=true:=by rw [decide_eq_true_eq];omega
    have ae6:val W<g*val Y:=acI HLT.out<|abh _ hgB;have adg:=bJ ae6;clear ae6;have afc:head=(g-1)*top+(r+top):=by
     exact axB
    have Xj:=bJ afc;clear afc;have hgc:((g:Int)-1)=((g-1:Nat):Int):=Z
    have HGC:=bJ hgc;clear hgc
    by_cases hbr:4294967296<=r+top
    ·have hdb:decide ((4294967296:Int)<=(r:Int)+(top:Int))=true:=by rw [decide_eq_true_eq];omega
     have XV:g-1<4294967296:=by
      have h3:(g-1)*top<4294967296*top:=by
       exact awV
      exact anF h3
     have hex:(g-1)*val Y<=val W+val Y:=by
      refine RS HUW.out HVY.out HVL.out Xj.out ?_ XV Z;have h3:(g-1)*next<=4294967296*4294967296:=ac2 (acQ XV)<|acQ hnB;have h4:4294967296*4294967296<=(r+top)*4294967296:=abh _ hbr;show(g-1)*next<=(r+top)*4294967296+u2
      omega
     exact arz
    ·have hdb:decide ((4294967296:Int)<=(r:Int)+(top:Int))=false:=by rw [decide_eq_false_iff_not];omega
     go_wp2_with fail;go_round
     case rel=>exact aDZ
     case measure=>simp [intOf];omega
   ·have aoT:g<4294967296:=Z
    have hdg:decide ((4294967296:Int)<=(g:Int))=false:=by rw [decide_eq_false_iff_not];omega
    have⟨hm1,hm2⟩:=ET g next aoT hnB
    by_cases ht:s2<g*next
    ·have hdt:decide ((s2:Int)<(g:Int)*(next:Int))=true:=by rw [decide_eq_true_eq,<-Int.natCast_mul];omega
     have hg1:1<=g:=by
      rcases acT g with h0|h0
      ·subst h0;omega
      ·exact h0
     have ae6:val W<g*val Y:=apn HUW.out HUL.out HVY.out HGR.out (by rw [<-HS2.out];exact ht);have adg:=bJ ae6;clear ae6;have afc:head=(g-1)*top+(r+top):=by
      exact axB
     have Xj:=bJ afc;clear afc;have hgc:((g:Int)-1)=((g-1:Nat):Int):=Z
     have HGC:=bJ hgc;clear hgc
     by_cases hbr:4294967296<=r+top
     ·have hdb:decide ((4294967296:Int)<=(r:Int)+(top:Int))=true:=by rw [decide_eq_true_eq];omega
      have XV:g-1<4294967296:=by
       have h3:(g-1)*top<4294967296*top:=by
        exact awV
       exact anF h3
      have hex:(g-1)*val Y<=val W+val Y:=by
       refine RS HUW.out HVY.out HVL.out Xj.out ?_ XV Z;have h3:(g-1)*next<=4294967296*4294967296:=ac2 (acQ XV)<|acQ hnB;have h4:4294967296*4294967296<=(r+top)*4294967296:=abh _ hbr;show(g-1)*next<=(r+top)*4294967296+u2
       omega
      exact arz
     ·have hdb:decide ((4294967296:Int)<=(r:Int)+(top:Int))=false:=by rw [decide_eq_false_iff_not];omega
      go_wp2_with fail;go_round
      case rel=>exact aDZ
      case measure=>simp [intOf];omega
    ·have hdt:decide ((s2:Int)<(g:Int)*(next:Int))=false:=by rw [decide_eq_false_iff_not,<-Int.natCast_mul];omega
     have hex:g*val Y<=val W+val Y:=RS HUW.out HVY.out HVL.out HGR.out (by rw [<-HS2.out];omega) aoT Z;have HEX:=bJ hex;clear hex;go_wp2_with fail;go_meet;exact⟨g,O,aoT,HUG.out,HEX.out,hwin,vJ.refl _ _⟩
 case rest=>
  obtain⟨g,rfl,hgB,hUg,hex,auK,Jl⟩:=hcut;have HUG:=bJ hUg;have HEX:=bJ hex;have hyc:Rw .u32 dF wc (some ⟨b2,off2,none⟩) n d Y:=hy.same<|Jl.2.2.2.2 b2 hne;clear hUg hex hc0 hc1 hc2 hcn hct hwin hy azo auE atW aml ZU hnB auH ao6 HG0 HR0 HH HT HU1 HU2 HN HLT;clear Vx;go_wp2_with fail;go_loopw [11,12,81] (λs11 s12 s81 wr=>∃(i cy bw:Nat) (Wc:List Nat),i<=n/\s81=.int .i64 i/\s11=.int .u64 cy/\s12=.int .u64 bw/\cy<4294967296/\bw<=1/\Wc.length=n+1/\(∀x∈Wc,x<dF)/\W9 wr G A Wc C off/\vJ G w wr/\
    (∀j,i<=j->Wc[j]?=W[j]?)/\aZ dF (Wc.take i)+g*aZ dF (Y.take i)=aZ dF (W.take i)+dF^i*(cy+bw)) (λ_ _ s81 _=>n-(intOf s81).toNat)
  case atStart=>exact⟨0,0,0,W,abJ _,O,O,O,by omega,by omega,HWL.out,hWB,auK,Jl,λ_ _=>rfl,by simp [aZ]⟩
  case round=>
   obtain⟨i,cy,bw,Wc,hi,rfl,rfl,rfl,hcy,hbw,atG,ajs,hwr,hor,hrest,hv⟩:=hrel;have HV:=bJ hv;have HWC:=bJ atG;have HRE:=bJ hrest;clear hv atG hrest;have hyr:Rw .u32 dF wr (some ⟨b2,off2,none⟩) n d Y:=hyc.same (by rw [hor.2.2.2.2 b2 hne,Jl.2.2.2.2 b2 hne]);have hb0:=hwr.lt
   by_cases hin:i<n
   ·have⟨y,hy,hyB,afa⟩:=hyr.cell hin
    have hy':y<4294967296:=hyB;obtain⟨x,hx⟩:∃x,Wc[i]?=some x:=⟨_,aew aDX⟩
    have hx':x<4294967296:=ajs _<|ajo hx;have hcx:=hwr.cell hx;have hfree:=hwr.free<|off+i;have HX:=bJ hx;have HY:=bJ hy;clear hx hy hyB;have⟨hm1,hm2⟩:=ET g y hgB hy';have hmb:=PG g y 0 cy hgB hy' Z hcy;have hpc:(g:Int)*(y:Int)+(cy:Int)=((g*y+cy:Nat):Int):=by simp
    obtain⟨lo,hlo⟩:∃lo:Nat,lo=(g*y+cy)%4294967296:=⟨_,O⟩
    obtain⟨hi1,hhi⟩:∃hi1:Nat,hi1=(g*y+cy)/4294967296:=⟨_,O⟩
    have elo:((g:Int)*(y:Int)+(cy:Int))%4294967296=(lo:Int):=by rw [hpc,hlo];rfl
    have ehi:((g:Int)*(y:Int)+(cy:Int))/4294967296=(hi1:Int):=by rw [hpc,hhi];rfl
    have ajw:lo<4294967296:=Z
    have at7:hi1<4294967296:=Z
    have hsum:lo+4294967296*hi1=g*y+cy:=Z
    have⟨d1,b1,hd1,hb1,e1,e2,e3⟩:=acy x lo bw hx' ajw hbw;have axE:=bJ hsum;have E1:=bJ e1;have E2:=bJ e2;have E3:=bJ e3;have HMB:=bJ hmb;clear hsum e1 e2 e3 hpc hlo hhi hmb;go_wp2;rw [E1.out,E2.out];go_roundw
    case rel=>
     refine⟨i+1,hi1,b1,Wc.set i d1,by omega,by go_num,by first|rfl|rw [ehi],rfl,at7,hb1,by rw [List.length_set];exact HWC.out,eX ajs hd1 i,hwr.set aDX d1,hor.setCell _ _,?_,?_⟩
     ·intro j hj
      rw [List.getElem?_set_ne Z];exact HRE.out j Z
     ·refine ab8 aDX HV.out (by rw [<-HRE.out i (Nat.le_refl _)];exact HX.out) HY.out ?_
      have h1:=axE.out;have h2:=E3.out;unfold dF at h2 ⊢;omega
    case measure=>simp [intOf];omega
   ·obtain rfl:i=n:=Z
    have hcx:=hwr.cell (show Wc[i]?=some u0 by rw [HRE.out i<|Nat.le_refl _];exact HU0.out);have hfree:=hwr.free<|off+i;have hW2:=HWC.out
    by_cases hno:cy+bw<=u0
    ·have et:=WT u0 cy bw ao5 hno
     obtain⟨t,htt⟩:∃t,t=u0-cy-bw:=⟨_,O⟩
     rw [<-htt] at et;have ZU:t<4294967296:=Z
     have hts:t+cy+bw=u0:=Z
     have HTS:=bJ hts;clear htt hts hno hW2;have ed:(t:Int)/9223372036854775808=0:=Z
     go_wp2;go_ret;have hend:=XF (t:=t) HWL.out HWC.out hyc.len HU0.out HV.out HTS.out;have hle:g*val Y<=val W:=by unfold val;omega
     have hmod:=Yj (U:=val W) (V:=val Y) (q:=g) (r:=val<|Wc.set i t) (by unfold val;omega) (by
      have h1:=HUG.out;rw [Nat.add_mul,Nat.one_mul] at h1;unfold val at *;omega)
     exact⟨Wc.set i t,by rw [hmod.1];rfl,hwr.set aDX t,by rw [List.length_set];exact HWC.out,eX ajs ZU _,hmod.2.symm,hor.setCell _ _⟩
    ·have⟨t,tl,et,ed,etl,azn,hts⟩:=Uc u0 cy bw ao5 hcy hbw Z
     have HTS:=bJ hts;clear hts hno hW2;have auL:W9 (wr.setCell ⟨G,off+i,none⟩<|.int .u32 (tl:Int)) G A (Wc.set i tl) C off:=hwr.set aDX tl;have azf:vJ G w<|wr.setCell ⟨G,off+i,none⟩<|.int .u32 (tl:Int):=hor.setCell _ _;have hend:=XG (t:=tl) HWL.out HWC.out hyc.len HU0.out HV.out HTS.out;have atF:∀x∈Wc.set i tl,x<dF:=eX ajs azn _
     have hl3:(Wc.set i tl).length=i+1:=by rw [List.length_set];exact HWC.out
     have hti:(Wc.set i tl)[i]?=some tl:=by rw [List.getElem?_set_self aDX]
     have hg0:val W<g*val Y:=by
      have h1:=sK atF;rw [hl3] at h1;unfold val;omega
     have HE:=bJ hend;have HL3:=bJ hl3;have HTI:=bJ hti;have HG0:=bJ hg0;clear hend hl3 hti hg0;have atZ:1<=g:=by
      rcases acT g with h0|h0
      ·have:=HG0.out;rw [h0,Nat.zero_mul] at this;omega
      ·exact h0
     go_wp2_with fail;generalize hgen:Wc.set i tl=W3 at *
     clear hgen;generalize atY:wr.setCell ⟨G,off+i,none⟩ (.int .u32 (tl:Int))=wx at *
     clear atY;go_loopw [18,134] (λs18 aqx wr=>∃(k bk:Nat) (Wd:List Nat),k<=i/\aqx=.int .i64 k/\s18=.int .u64 bk/\bk<=1/\Wd.length=i+1/\(∀x∈Wd,x<dF)/\W9 wr G A Wd C off/\vJ G w wr/\
       (∀j,k<=j->Wd[j]?=W3[j]?)/\aZ dF (Wd.take k)+dF^k*bk=aZ dF (W3.take k)+aZ dF (Y.take k)) (λ_ aqx _=>i-(intOf aqx).toNat)
     case atStart=>exact⟨0,0,W3,abJ _,O,O,by omega,HL3.out,atF,auL,azf,λ_ _=>rfl,by simp [aZ]⟩
     case round=>
      obtain⟨k,bk,Wd,hk,rfl,rfl,hbk,atH,aoL,hwd,hod,hrest,hv⟩:=hrel;have HV4:=bJ hv;have HWD:=bJ atH;have ank:=bJ hrest;clear hv atH hrest;have azt:Rw .u32 dF wr (some ⟨b2,off2,none⟩) i d Y:=hyc.same (by rw [hod.2.2.2.2 b2 hne,Jl.2.2.2.2 b2 hne]);have hb4:=hwd.lt
      by_cases hki:k<i
      ·have⟨y,hy,hyB,afa⟩:=azt.cell hki
       have hy':y<4294967296:=hyB;obtain⟨x,hx⟩:∃x,Wd[k]?=some x:=⟨_,aew aEZ⟩
       have hx':x<4294967296:=aoL _<|ajo hx;have ayQ:=hwd.cell hx;have aoR:=hwd.free<|off+k;have HX:=bJ hx;have HY:=bJ hy;clear hx hy hyB;go_wp2;go_roundw
       case rel=>
        refine⟨k+1,(x+y+bk)/4294967296,Wd.set k<|(x+y+bk)%4294967296,by omega,by go_num,by go_num,by omega,by rw [List.length_set];exact HWD.out,eX aoL aFd k,?_,hod.setCell _ _,?_,?_⟩
        ·have e:((x:Int)+y+bk)%4294967296=(((x+y+bk)%4294967296:Nat):Int):=Z
         rw [e];exact hwd.set aEZ _
        ·intro j hj
         rw [List.getElem?_set_ne Z];exact ank.out j Z
        ·exact abo aEZ HV4.out (by rw [<-ank.out k (Nat.le_refl _)];exact HX.out) HY.out<|ajz _ _
       case measure=>simp [intOf];omega
      ·obtain rfl:k=i:=Z
       have ayQ:=hwd.cell (show Wd[k]?=some tl by rw [ank.out k<|Nat.le_refl _];exact HTI.out);have aoR:=hwd.free<|off+k;go_wp2;go_ret;have e:((tl:Int)+bk)%4294967296=(((tl+bk)%4294967296:Nat):Int):=Z
       have hB5:∀x∈Wd.set k ((tl+bk)%4294967296),x<dF:=eX aoL aFd k
       have hl5:(Wd.set k<|(tl+bk)%4294967296).length=k+1:=by rw [List.length_set];exact HWD.out
       have h5:=sK hB5;rw [hl5] at h5;have aju:aZ dF Y<dF^(k+1):=by
        have h1:=sK hyc.lt;rw [hyc.len] at h1;exact acI h1<|acC φ Z
       have hend:=XH (V:=aZ dF W) (g:=g) (x:=(tl+bk)%4294967296) (e:=(tl+bk)/4294967296) HWD.out HL3.out hyc.len HTI.out HV4.out (ajz _ _) Z HE.out h5 aju HEX.out HG0.out;have hmod:=Yj (U:=val W) (V:=val Y) (q:=g-1) (r:=val<|Wd.set k<|(tl+bk)%4294967296) (by
        have h6:=abh (aZ dF Y) atZ;rw [Nat.sub_mul,Nat.one_mul];unfold val;omega) (by
        have h6:=HG0.out;unfold val at *;omega)
       refine⟨Wd.set k<|(tl+bk)%4294967296,kZ<|by rw [hmod.1];omega,?_,hl5,hB5,hmod.2.symm,hod.setCell _ _⟩;rw [e];exact hwd.set aEZ _
def LP(s:Nat)(h:s<=65536):jR (s:Int)=s:=by unfold jR;omega
def WU(ao:Option Addr)(n c:Nat)(xs:List Nat)(s l:Nat)(w:World)(hn:n<=1073741824)(hs:s<=65536)(hl:l<=2147483648)(hr:Rw .u32 dF w ao n c xs)(hfit:(dS<|val xs*2^s).length<=l):
  Calls prog 322 #[.slice ao n c,.int .i64 (s:Int),.int .i64 (l:Int)] w λe w'=>∃(G:Nat) (os:List Nat),e=.returned (.slice (some ⟨G,0,none⟩) l l)/\w.heap.size<=G/\ou w' G 161 (gU .u32 os)/\
   os.length=l/\(∀x∈os,x<dF)/\val os=val xs*2^s/\Below w.heap.size w w':=by
 go_enter func322,ntmps322;go_wp2_with (at_make;refine Hid.out ?_);refine bJ<|aaq _ O _ _ 33 O 161 aBb 4 underlying33 Tryz.infoU32 O .i64 .i64 _ _ l O O Z Z Z aCI λw2 hblk hbelow hlt=>?_
 obtain⟨G,hG⟩:∃G,G=w.heap.size:=⟨_,O⟩
 rw [<-hG] at hblk hlt hbelow ⊢;have HG:=bJ hG;clear hG;rw [<-gY] at hblk;have hr2:=hr.ext (by rw [<-HG.out];exact hbelow);go_wp2_with fail;refine(akS ao n c xs (s:Int) _ hn hr2).mono ?_;rintro e w3 ⟨ro,k,c',rfl,hres,hown,hb3⟩;rw [LP s hs] at hres;have hblk3:=hblk.ext hb3;have hlen:=hres.len;have anj:=bJ hfit;clear hfit;go_wp2_with (with_reducible refine Hid.out (p:=wpList _ _ _ ({dst:=some 14,op:=_,type:=_,pos:=_,after:=_,guard:=_}::_) _ _) ?_);refine bJ<|acF O _ _ 33 33 O 161 underlying33 Tryz.sizeU32 G 0 l l ro k c' O O _ 161 hblk3 (gU .u32<|dS<|val xs*2^s) ?_ hres.cells ?_ (MS _ _) G (aav _) λw4 al9 hb4=>?_
 ·rw [dK,hlen];exact(Nat.min_eq_left<|by rw [<-hlen];exact anj.out).symm
 ·rw [dK,dK];simp;exact anj.out
 have hsp:splice (gU .u32<|List.replicate l 0) 0 (gU .u32<|dS<|val xs*2^s)=gU .u32 (dS (val xs*2^s)++List.replicate (l-k) 0):=by
  simp [splice,gU,hlen]
 rw [hsp] at al9;go_wp2;go_ret;refine⟨G,dS (val xs*2^s)++List.replicate (l-k) 0,O,by rw [HG.out];exact aav _,al9,?_,?_,?_,?_⟩
 ·have:=anj.out
  rw [List.length_append,List.length_replicate,hlen];rw [hlen] at this;omega
 ·intro x hx
  rcases ah3.1 hx with hx|hx
  ·exact Gz _ x hx
  ·have:=(afv.1 hx).2;exact axg
 ·unfold val
  rw [Hr];exact eF _
 ·rw [<-HG.out]
  exact(hbelow.trans<|hb3.mono Z).trans hb4
def aa2(x:Nat):val [x]=x:=by rfl
def Il(v:Nat):Int:=if v=0 then 2 else 0
def nI(u v:Nat):Nat:=if v=0 then 0 else u%v
def EL(h:v≠0):Il v=0:=if_neg h
def ab7(u:Nat):nI u 0=0:=rfl
def GN(u:Nat)(h:v≠0):nI u v=u%v:=if_neg h
def XI(ao bo:Option Addr)(n c m d:Nat)(xs ys:List Nat)(w:World)(hn:n<=1073741823)(hm:m<=1073741823)(hr:Rw .u32 dF w ao n c xs)(hs:Rw .u32 dF w bo m d ys):
  Calls prog 299 #[.slice ao n c,.slice bo m d] w λe w'=>∃qo qn qc ro rn rc,e=.returned (.tuple #[.slice qo qn qc,.slice ro rn rc,.int .i64<|Il<|val ys])/\
   Rw .u32 dF w' qo qn qc (dS<|val xs/val ys)/\xE w.heap.size w' qo qc/\Rw .u32 dF w' ro rn rc (dS<|nI (val xs)<|val ys)/\xE w.heap.size w' ro rc/\Below w.heap.size w w':=by
 go_enter func299,ntmps299;go_wp2_with fail;refine(jy ao n c xs _ Z hr).mono ?_;rintro e w' ⟨n1,rfl,hn1,hp,rfl⟩;go_wp2_with fail;refine(jy bo m d ys _ Z hs).mono ?_;rintro e w' ⟨m1,rfl,hm1,hq,rfl⟩;clear hr hs;have hpl:=hp.len;have Iz:=hq.len
 by_cases h0:m1=0
 ·subst h0
  have hy0:val ys=0:=uP.1<|acO Iz;have HY:=bJ hy0;clear hy0 hpl Iz;go_wp2;go_ret3;refine⟨_,_,_,_,_,_,by rw [HY.out];rfl,?_,xE.nil _ _ _,?_,xE.nil _ _ _,Below.refl _ _⟩
  ·rw [HY.out,Nat.div_zero];exact Rw.nil _ _ _
  ·rw [HY.out];exact Rw.nil _ _ _
 ·have hy0:val ys≠0:=λh=>h0 (by rw [<-Iz,h];rfl)
  have HY:=bJ hy0;clear hy0
  by_cases hlt:n1<m1
  ·have hlt2:val xs<val ys:=xM (by rw [hpl,Iz];exact hlt)
   have HLT:=bJ hlt2;clear hlt2 hpl Iz;have hm0:((m1:Int)==0)=false:=by rw [beq_eq_false_iff_ne];omega
   go_wp2_with fail;refine(VX _ _ _ _ _ Z hp).mono ?_;rintro e w1 ⟨ro,k,c',rfl,hk,hres,hown,hb⟩;rw [eF] at hres;go_wp2;go_ret3;refine⟨_,_,_,_,_,_,by rw [EL HY.out];rfl,?_,xE.nil _ _ _,?_,hown,hb⟩
   ·rw [Nat.div_eq_of_lt HLT.out];exact Rw.nil _ _ _
   ·rw [GN _ HY.out,Nat.mod_eq_of_lt HLT.out];exact hres
  ·by_cases h1:m1=1
   ·subst h1
    obtain⟨b1,off1,v,rfl,hv,hvB,hcv⟩:=hq.at (show 0<1 by omega);have afo:v<4294967296:=hvB;rw [Nat.add_zero] at hcv;have hvy:val ys=v:=by
     have h2:dS (val ys)=[v]:=by
      match hL:dS<|val ys,Iz with
      |[a],_=>rw [hL] at hv;simp at hv;rw [hv]
     have h3:=eF<|val ys;rw [h2,aa2] at h3;exact h3.symm
    have hv0:0<v:=by have:=HY.out;omega
    have HV:=bJ hvy;clear hvy hv hvB hpl Iz;go_wp2_with fail;refine(akl _ _ _ _ v _ Z hv0 afo hp).mono ?_;rintro e w1 ⟨ro,k,c',rfl,hres,hown,hb⟩;rw [eF] at hres ⊢;have hrB:val xs%v<4294967296:=Nat.lt_trans (acP _ hv0) afo;obtain⟨r,hr⟩:∃r,r=val xs%v:=⟨_,O⟩
    rw [<-hr] at hrB ⊢;have HR:=bJ hr;clear hr;go_wp2_with fail;have hblk:ou (w1.alloc<|.cells #[.int .u32 (r:Int)] 161) w1.heap.size 161<|gU .u32 [r]:=ou.new w1 161<|gU .u32 [r];have hb2:Below w1.heap.size w1<|w1.alloc<|.cells #[.int .u32 (r:Int)] 161:=(Below.refl _ _).alloc (aav _) _;have hrow:=hblk.rw (B:=dF) (by intro x hx;rw [List.mem_singleton.1 hx];exact hrB);refine(jy _ 1 1 [r] _ Z hrow).mono ?_;rintro e w' ⟨k2,rfl,hk2,hres2,rfl⟩;have hown2:=hblk.own (base:=w.heap.size) hb.size (n:=1)<|aav _;rw [aa2] at hres2;go_wp2;go_ret3;exact⟨_,_,_,_,_,_,by rw [EL HY.out];rfl,by rw [HV.out];exact hres.ext hb2,hown.ext hb2,by rw [GN _ HY.out,HV.out,<-HR.out];exact hres2,hown2,qw hb hb2⟩
   ·have hm2:2<=m1:=Z
    have hm0:((m1:Int)==0)=false:=by rw [beq_eq_false_iff_ne];omega
    have ay6:((m1:Int)==1)=false:=by rw [beq_eq_false_iff_ne];omega
    obtain⟨b1,off1,v,rfl,hv,hvB,hcv⟩:=hq.at (show m1-1<m1 by omega);have afo:v<4294967296:=hvB;have hv0:v≠0:=by
     rintro rfl;have h1:=(LY sF<|val ys).2;rw [List.getLast?_eq_getElem?] at h1
     change (dS<|val ys)[(dS<|val ys).length-1]?≠some 0 at h1
     rw [Iz] at h1;exact h1 hv
    have hnb:=jM (n:=v) (k:=32) afo;have ay9:=IG hv0;have aun:=Ci v;have auo:=NC hv0;obtain⟨s,hs⟩:∃s,s=32-bY v:=⟨_,O⟩
    have hsB:s<=31:=Z
    have hS1:(v+1)*2^s<=dF:=by
     have h3:=abh (2^s) (show v+1<=2^bY v from aun);rw [<-Nat.pow_add,show bY v+s=32 by omega] at h3;exact h3
    have hS2:dF<=2*(v*2^s):=by
     have h3:=abh (2^s) auo;rw [<-Nat.pow_add,show bY v-1+s=31 by omega] at h3;unfold dF;omega
    have ZQ:=ae1 s;have alZ:val ys=v*dF^(m1-1)+val ((dS<|val ys).take<|m1-1):=by
     have h3:=bT dF hv;rw [show m1-1+1=m1 by omega,dJ _ Iz] at h3
     change val (dS<|val ys)=_ at h3
     rw [eF] at h3;rw [Nat.mul_comm,Nat.add_comm];exact h3
    have al0:=KQ (B:=dF) (k:=m1-1) (Gz<|val ys) (by rw [Iz];omega);have⟨hs1,hs2,hs3⟩:=Wx alZ al0 hS1 hS2 ZQ;have hU1:val xs<dF^n1:=by have h3:=Ue<|Gz<|val xs;rwa [eF,hpl] at h3
    have amc:(dS<|val (dS<|val xs)*2^s).length<=n1+1:=by
     rw [eF];refine yI ?_;rw [Nat.pow_succ];have h3:2^s<=dF:=by
      have:=abh (2^s) (show 1<=v+1 by omega);omega
     exact acI (ah2 hU1 ZQ)<|acM _ h3
    have amd:(dS<|val (dS<|val ys)*2^s).length<=m1:=by
     rw [eF];refine yI ?_;rw [show m1-1+1=m1 by omega] at hs1;exact hs1
    have HS:=bJ hs;have Uu:=bJ hpl;have YI:=bJ Iz;have HFA:=bJ amc;have HFB:=bJ amd;have HS1:=bJ hs1;have HS2:=bJ hs2;have HS3:=bJ hs3;have HU1:=bJ hU1;have HSP:=bJ ZQ;clear hs hv hpl Iz hvB alZ al0 amc amd hs1 hs2 hs3 hU1 ZQ hS1 hS2 hnb ay9 aun auo;go_wp2_with fail;refine(af2 v _ afo).mono ?_;rintro e w' ⟨rfl,rfl⟩;rw [<-HS.out];go_wp2_with fail;refine(WU ao n1 c _ s (n1+1) _ Z Z Z hp HFA.out).mono ?_;rintro e w1 ⟨Gx,X0,rfl,hGx,hbx,hxl,oq,hxv,hb1⟩;rw [eF] at hxv;have HXL:=bJ hxl;have HXV:=bJ hxv;clear hxl hxv;have hbxlt:=hbx.lt;have hq1:=hq.ext hb1;go_wp2_with fail;refine(WU _ m1 d _ s m1 _ Z Z Z hq1 HFB.out).mono ?_;rintro e w2 ⟨Gy,Y0,rfl,hGy,hby,hyl,hyB,hyv,hb2⟩;rw [eF] at hyv;have HYL:=bJ hyl;have HYV:=bJ hyv;clear hyl hyv;have hbx2:=hbx.ext hb2;have Rx:Below w.heap.size w w2:=qw hb1 hb2;have hbylt:=hby.lt;obtain⟨l,hl⟩:∃l,n1=m1+l:=⟨n1-m1,by omega⟩
    subst hl;go_wp2_with (at_make;refine Hid.out ?_);refine bJ<|aaq _ O _ _ 33 O 161 aBb 4 underlying33 Tryz.infoU32 O .i64 .i64 _ _ (l+1) O O Z Z Z aCI λw3 hblk hbelow hlt3=>?_
    obtain⟨Gq,hGq⟩:∃G,G=w2.heap.size:=⟨_,O⟩
    rw [<-hGq] at hblk hlt3 hbelow ⊢;rw [<-gY] at hblk;have atQ:=hbx2.ext aFr;have atS:=hby.ext aFr;have ae8:Below w.heap.size w w3:=qw Rx aFr;have HGQ:=bJ hGq;have hxy:Gx≠Gy:=Z
    have hxq:Gx≠Gq:=Z
    have hyq:Gy≠Gq:=Z
    have afk:w.heap.size<=Gq:=by rw [hGq];exact Rx.size
    clear hGq hbx hbx2 hby hp hq hq1;have hstart:aZ dF (X0.drop<|l+1)<val Y0:=by
     rw [HYV.out];have h3:=sD dF X0 (l+1) (by rw [HXL.out];omega);have h4:=HU1.out;rw [show m1+l=(l+1)+(m1-1) by omega] at h4;exact ahp (B:=dF) (S:=2^s) h4 h3 (by have:=HXV.out;unfold val at *;exact this) HS3.out φ HSP.out
    obtain⟨yt,hyt⟩:∃yt,Y0[m1-1]?=some yt:=⟨_,aew<|by rw [HYL.out];omega⟩
    have azu:2147483648<=yt:=by
     have h3:=acA (B:=dF) (k:=m1-1) (V:=val ys*2^s) hyB (by rw [HYL.out];omega) hyt HYV.out HS2.out;unfold dF at h3;omega
    have aju:val Y0<dF^m1:=by
     have h3:=HS1.out;rw [show m1-1+1=m1 by omega] at h3;rw [HYV.out];exact h3
    have HST:=bJ hstart;have HYT:=bJ hyt;have arG:=bJ aju;clear hstart hyt aju;go_wp2_with fail;go_loopw [13] (λs13 wr=>∃(k:Nat) (os qs:List Nat),k<=l+1/\s13=.int .i64 ((k:Int)-1)/\os.length=m1+l+1/\(∀x∈os,x<dF)/\qs.length=l+1/\(∀x∈qs,x<dF)/\ou wr Gx 161 (gU .u32 os)/\
      ou wr Gy 161 (gU .u32 Y0)/\ou wr Gq 161 (gU .u32 qs)/\Below w.heap.size w wr/\aZ dF (os.drop k)<val Y0/\aZ dF os+dF^k*(aZ dF (qs.drop k)*val Y0)=val X0) (λs13 _=>(intOf s13+1).toNat)
    case atStart=>exact⟨l+1,X0,List.replicate (l+1) 0,aav _,by go_num,HXL.out,oq,by simp,(λo ho=>by have:=(afv.1 ho).2;exact axg),atQ,atS,hblk,ae8,HST.out,by rw [List.drop_of_length_le aCY];simp [aZ,val]⟩
    case round=>
     obtain⟨k,os,qs,hk,rfl,hol,wH,auw,auv,hbx,hby,hbq,hbe,hlt4,hv⟩:=hrel;have HOL:=bJ hol;have adf:=bJ auw;have ah6:=bJ hlt4;have HV:=bJ hv;clear hol auw hlt4 hv hblk atQ atS ae8 hbelow
     by_cases hk0:k=0
     ·subst hk0
      have hv:=HV.out;have hlt4:=ah6.out;rw [List.drop_zero] at hv hlt4;rw [Nat.pow_zero,Nat.one_mul,HXV.out,HYV.out] at hv;rw [HYV.out] at hlt4;have⟨hdiv,hmod⟩:=ald HSP.out hv hlt4;have Vt:=hbq.rw auv;rw [adf.out] at Vt;have hxrow:=hbx.rw wH;rw [HOL.out] at hxrow;have apa:=hxrow.take (m:=m1) Z;have hxval:val (os.take m1)=val os:=by
       have h3:=sD dF os m1 aCT;have h4:=arG.out;rw [HYV.out] at h4;have h5:aZ dF (os.drop m1)=0:=by
        rcases acT (aZ dF (os.drop m1)) with h5|h5
        ·exact h5
        ·have:=acM (dF^m1) h5
         omega
       rw [h5] at h3;exact h3.symm
      have aus:=hbq.own (base:=w.heap.size) afk (n:=l+1) (by rw [dK,adf.out];exact aav _);have amb:val xs/val ys=val qs:=hdiv;have amh:val xs%val ys=val os/2^s:=hmod;have HD:=bJ amb;have HM:=bJ amh;have axM:=bJ hxval;clear hv hlt4 hdiv hmod amb amh hxval HV ah6;have hqd:Rw .u32 dF wr.drew (some ⟨Gq,0,none⟩) (l+1) (l+1) qs:=Vt;have hxd:Rw .u32 dF wr.drew (some ⟨Gx,0,none⟩) m1 (m1+l+1)<|os.take m1:=apa;go_wp2_with fail;go_region_with (first|(go_at_call 210;refine(jy _ _ _ _ _ Z hqd).mono ?_;rintro e w' ⟨k2,rfl,hk2,hres2,rfl⟩)|(go_at_call 324;refine(akT _ _ _ _ (s:Int) _ Z hxd).mono ?_;rintro e w' ⟨ro,k3,c3,rfl,ami,hown3,hb3⟩))
      all_goals
       go_wp2;go_ret3;rw [LP s Z,axM.out,<-HM.out] at ami;have afl:Rw .u32 dF wr.drew (some ⟨Gq,0,none⟩) k2 (l+1)<|dS<|val xs/val ys:=by rw [HD.out];exact hres2
       have hown4:xE w.heap.size wr.drew (some ⟨Gq,0,none⟩)<|l+1:=aus;have hbd:Below w.heap.size w wr.drew:=hbe.drew;exact⟨_,_,_,_,_,_,by rw [EL HY.out];rfl,afl.ext hb3,hown4.ext hb3,by rw [GN _ HY.out];exact ami,hown3.mono hbd.size,qw hbd hb3⟩
     ·obtain⟨j,rfl⟩:∃j,k=j+1:=aDh
      obtain⟨A,hA⟩:∃A,A=os.take j:=⟨_,O⟩
      obtain⟨W,hW⟩:∃W,W=(os.drop j).take (m1+1):=⟨_,O⟩
      obtain⟨C,hC⟩:∃C,C=(os.drop j).drop (m1+1):=⟨_,O⟩
      have hos:os=A++(W++C):=by rw [hA,hW,hC,List.take_append_drop,List.take_append_drop]
      have hAl:A.length=j:=by rw [hA,List.length_take,HOL.out];omega
      have hWl:W.length=m1+1:=by rw [hW,List.length_take,List.length_drop,HOL.out];omega
      have hWB:∀x∈W,x<dF:=λx hx=>wH x (by rw [hos];exact amO _<|alk _ hx)
      have ayt:∀x∈A,x<dF:=λx hx=>wH x (by rw [hos];exact alk _ hx)
      have ayv:∀x∈C,x<dF:=λx hx=>wH x (by rw [hos];exact amO _<|amO _ hx)
      have hCl:C.length+j+m1=m1+l:=by
       have:=HOL.out;rw [hos,List.length_append,List.length_append,hAl,hWl] at this;omega
      have hv:=HV.out;have hlt4:=ah6.out;rw [hos] at hv hlt4 hbx;have hpre:=ai9 sF hAl hWl hWB arG.out hlt4;have hwin:W9 wr Gx A W C j:=⟨hbx,hAl⟩;have amn:=hby.rw hyB;rw [HYL.out] at amn;have HV2:=bJ hv;have ah7:=bJ hpre;have HWL:=bJ hWl;have HCL:=bJ hCl;have HAL:=bJ hAl;clear hv hlt4 hbx hA hW hC hos hWl hCl hAl hpre HV ah6;go_wp2_with fail;rw [show j+m1+1-j=m1+1 by omega];refine(abE Gx j m1 _ Gy 0 m1 A W C Y0 _ Z hm2 hwin HWL.out hWB Z amn (Ne.symm hxy) yt HYT.out azu ah7.out.1).mono ?_;rintro e w' ⟨W',rfl,auJ,aoM,ayI,ajt,Jl⟩;have aoO:ou w' Gq 161<|gU .u32 qs:=by unfold ou;rw [Jl.2.2.2.2 Gq<|Ne.symm hxq];exact hbq
      have ayO:ou w' Gy 161<|gU .u32 Y0:=by unfold ou;rw [Jl.2.2.2.2 Gy<|Ne.symm hxy];exact hby
      have ayJ:Below w.heap.size w w':=hbe.trans<|Jl.below hGx;have hcell:=aoO.cell j (by rw [dK,adf.out];omega);have hfree:=aoO.free j;obtain⟨q,hq⟩:∃q,q=val W/val Y0:=⟨_,O⟩
      rw [<-hq];have al7:0<val Y0:=by
       have:=ah7.out.1;rcases acT (val Y0) with h5|h5
       ·rw [h5,Nat.mul_zero] at this;omega
       ·exact h5
      have hqB:q<4294967296:=by
       rw [hq,Nat.div_lt_iff_lt_mul al7];exact ah7.out.1
      have hWq:aZ dF W'+q*val Y0=aZ dF W:=by
       have:=ajz (val W)<|val Y0;rw [<-ajt,<-hq,Nat.mul_comm<|val Y0] at this;exact this
      have atI:aZ dF W'<val Y0:=by
       have:=acP (val W) al7;rw [<-ajt] at this;exact this
      have hstep:=aeO (n:=m1) (C:=C) HAL.out ah7.out.2 hWq (by rw [adf.out];omega) HV2.out aoM HWL.out;have HQ:=bJ hq;have arF:=bJ hstep;have axK:=bJ aoM;have HWV:=bJ ajt;have axL:=bJ atI;clear hq hstep aoM ajt hWq atI;have hlen':(A++(W'++C)).length=m1+l+1:=by
       rw [List.length_append,List.length_append,HAL.out,axK.out];have:=HCL.out;omega
      have HL5:=bJ hlen';clear hlen';go_wp2;go_roundw
      case rel=>
       have hv:=aoO.set j<|.int .u32 (q:Int);rw [iV] at hv;refine⟨j,A++(W'++C),qs.set j q,by omega,by go_num,HL5.out,?_,by rw [List.length_set];exact adf.out,eX auv hqB j,auJ.1.other hxq _,ayO.other hyq _,hv,ayJ.setCell afk _,?_,?_⟩
       ·intro x hx
        rcases ah3.1 hx with hx|hx
        ·exact ayt x hx
        ·rcases ah3.1 hx with hx|hx
         ·exact ayI x hx
         ·exact ayv x hx
       ·rw [arF.out.2];exact axL.out
       ·exact arF.out.1
      case measure=>simp [intOf];try omega
def ab5{B:BS}{a:Option Addr}{c:Nat}(hB:∀b,B b->b<w.heap.size)(h:Rw .u32 dF w' a n c<|dS m)(hm:m<dF^K)(ho:xE w.heap.size w' a c):fP B w' (ln K m)<|.slice a n c:=Yf h (aam h hm)<|KF hB ho h
def as3{B:BS}{a:Option Addr}{c:Nat}(hB:∀b,B b->b<w.heap.size)(h:Rw .i64 B4 w' a n c<|cO m)(hm:m<B4^K)(ho:xE w.heap.size w' a c):fP B w' (dn K m)<|.slice a n c:=aoi h (aog h hm)<|KF hB ho h
def agN(hB:2<=B)(h:K<=M)(hm:m<B^K):m<B^M:=acI hm<|acC Z h
def Bz{l:Lf}(h:Ox l K m)(hK:K<=1073741824:=by first|decide|omega):aH prog 119 [.o l]<|.d<|.o<|ln K m:=by obtain⟨xs,hl1,rfl⟩:=h;refine⟨mM func119 O O,λB w vs hB hvs=>?_⟩;match vs,hvs with|[v],⟨h1,_⟩=>obtain⟨a,n,c,rfl,hr,hn,hb⟩:=vX<|hl1 _ _ _ h1;refine(VX a n c xs w Z hr).mono ?_;rintro e w' ⟨ro,k,c',rfl,hk,h3,ho,hbb⟩;exact⟨_,O,hbb,ab5 hB h3 (En hr hn) ho⟩
def alC{a b:Lf}(h:Ox a K m)(k:Ox b L n)(hM:max K L+1<=M:=by first|decide|omega)(hK:K<=1073741824:=by first|decide|omega)(hL:L<=1073741824:=by first|decide|omega):aH prog 257 [.o a,.o b]<|.d<|.o<|ln M<|m+n:=by obtain⟨xs,hl1,rfl⟩:=h;obtain⟨ys,hl2,rfl⟩:=k;refine⟨mM func257 O O,λB w vs hB hvs=>?_⟩;match vs,hvs with|[v,u],⟨h1,h2,_⟩=>obtain⟨a,n,c,rfl,hr,hn,hb⟩:=vX<|hl1 _ _ _ h1;obtain⟨a',n',c',rfl,hr',hn',hb'⟩:=vX<|hl2 _ _ _ h2;refine(aiN a a' n c n' c' xs ys w Z Z hr hr').mono ?_;rintro e w' ⟨ro,k,cc,rfl,h3,ho,hbb⟩;exact⟨_,O,hbb,ab5 hB h3 (agN φ hM<|Yi φ (En hr hn)<|En hr' hn') ho⟩
def adw{a b:Lf}(h:Ox a K m)(k:Ox b L n)(hK:K<=1073741824:=by first|decide|omega)(hL:L<=1073741824:=by first|decide|omega):aH prog 258 [.o a,.o b]<|.dY [.o<|ln K<|m-n,.o<|.v<|.bool<|decide<|n<=m]:=by obtain⟨xs,hl1,rfl⟩:=h;obtain⟨ys,hl2,rfl⟩:=k;refine⟨mM func258 O O,λB w vs hB hvs=>?_⟩;match vs,hvs with|[v,u],⟨h1,h2,_⟩=>obtain⟨a,n,c,rfl,hr,hn,hb⟩:=vX<|hl1 _ _ _ h1;obtain⟨a',n',c',rfl,hr',hn',hb'⟩:=vX<|hl2 _ _ _ h2;refine(akZ a a' n c n' c' xs ys w Z Z hr hr').mono ?_;rintro e w' ⟨ro,k,cc,rfl,h3,ho,hbb⟩;have hlt:=En hr hn;exact⟨_,O,hbb,[.slice ro k cc,.bool<|decide<|val ys<=val xs],O,ab5 hB h3 Z ho,aCl,Pe⟩
def ar6{a b:Lf}(h:Ox a K m)(k:Ox b L n)(hM:K+L<=M:=by first|decide|omega)(hK:K<=1073741824:=by first|decide|omega)(hL:L<=1073741824:=by first|decide|omega):aH prog 118 [.o a,.o b]<|.d<|.o<|ln M<|m*n:=by obtain⟨xs,hl1,rfl⟩:=h;obtain⟨ys,hl2,rfl⟩:=k;refine⟨mM func118 O O,λB w vs hB hvs=>?_⟩;match vs,hvs with|[v,u],⟨h1,h2,_⟩=>obtain⟨a,n,c,rfl,hr,hn,hb⟩:=vX<|hl1 _ _ _ h1;obtain⟨a',n',c',rfl,hr',hn',hb'⟩:=vX<|hl2 _ _ _ h2;refine(akc a a' n c n' c' xs ys w Z Z hr hr').mono ?_;rintro e w' ⟨ro,k,cc,rfl,h3,ho,hbb⟩;exact⟨_,O,hbb,ab5 hB h3 (agN φ hM<|Yk (En hr hn)<|En hr' hn') ho⟩
def alD{a b:Lf}(h:Ox a K m)(k:Ox b L n)(hK:K<=1073741824:=by first|decide|omega)(hL:L<=1073741824:=by first|decide|omega):aH prog 255 [.o a,.o b]<|dI<|l9 m n:=by obtain⟨xs,hl1,rfl⟩:=h;obtain⟨ys,hl2,rfl⟩:=k;refine⟨mM func255 O O,λB w vs hB hvs=>?_⟩;match vs,hvs with|[v,u],⟨h1,h2,_⟩=>obtain⟨a,n,c,rfl,hr,hn,hb⟩:=vX<|hl1 _ _ _ h1;obtain⟨a',n',c',rfl,hr',hn',hb'⟩:=vX<|hl2 _ _ _ h2;refine(Zb a a' n c n' c' xs ys w Z Z hr hr').mono ?_;rintro e w' ⟨rfl,hbb⟩;exact⟨_,O,hbb,O,O⟩
def xG{a:Lf}(h:Ox a K m)(hK:K<=1073741824:=by first|decide|omega):aH prog 302 [.o a]<|dI ((bY m:Nat):Int):=by obtain⟨xs,hl1,rfl⟩:=h;refine⟨mM func302 O O,λB w vs hB hvs=>?_⟩;match vs,hvs with|[v],⟨h1,_⟩=>obtain⟨a,n,c,rfl,hr,hn,hb⟩:=vX<|hl1 _ _ _ h1;refine(ad6 a n c xs w Z hr).mono ?_;exact ayk
def adv{a b:Lf}(h:Ox a K m)(k:Ox b L n)(hK:K<=1073741823:=by first|decide|omega)(hL:L<=1073741823:=by first|decide|omega):aH prog 299 [.o a,.o b]<|.dY [.o<|ln K<|m/n,.o<|ln L<|nI m n,.o<|vI<|Il n]:=by obtain⟨xs,hl1,rfl⟩:=h;obtain⟨ys,hl2,rfl⟩:=k;refine⟨mM func299 O O,λB w vs hB hvs=>?_⟩;match vs,hvs with|[v,u],⟨h1,h2,_⟩=>obtain⟨a,n,c,rfl,hr,hn,hb⟩:=vX<|hl1 _ _ _ h1;obtain⟨a',n',c',rfl,hr',hn',hb'⟩:=vX<|hl2 _ _ _ h2;refine(XI a a' n c n' c' xs ys w Z Z hr hr').mono ?_;rintro e w' ⟨qo,qn,qc,ro,rn,rc,rfl,h3,h4,h5,h6,hbb⟩;have hq:val xs/val ys<dF^K:=ac1 (Nat.div_le_self _ _)<|En hr hn;have hm:nI (val xs) (val ys)<dF^L:=(by by_cases h0:val ys=0;rw [h0,ab7];grind;rw [GN _ h0];exact Nat.lt_trans (acP _ Z)<|En hr' hn');exact⟨_,O,hbb,[.slice qo qn qc,.slice ro rn rc,.int .i64<|Il<|val ys],O,ab5 hB h3 hq h4,ab5 hB h5 hm h6,aCl,Pe⟩
def alF{a b:Lf}(h:IsD a K m)(k:IsD b L n)(hn0:0<n)(hK:K<=100000000:=by first|decide|omega)(hL:L<=100000000:=by first|decide|omega):aH prog 236 [.o a,.o b]<|.dY [.o<|dn K<|m/n,.o<|dn L<|m%n]:=by refine⟨mM func236 O O,λB w vs hB hvs=>?_⟩;match vs,hvs with|[v,u],⟨h1,h2,_⟩=>obtain⟨a,na,c,rfl,hr,hn,hb⟩:=Zw<|h _ _ _ h1;obtain⟨a',n',c',rfl,hr',hn',hb'⟩:=Zw<|k _ _ _ h2;refine(aeN a a' na c n' c' m n w Z Z hn0 hr hr').mono ?_;rintro e w' ⟨qo,qn,qc,ro,rn,rc,rfl,h3,_,h5,_,h4,h6,hbb⟩;have hq:m/n<B4^K:=ac1 (Nat.div_le_self _ _)<|alQ hr hn;have hm:m%n<B4^L:=Nat.lt_trans (acP _ hn0)<|alQ hr' hn';exact⟨_,O,hbb,[.slice qo qn qc,.slice ro rn rc],O,as3 hB h3 hq h4,as3 hB h5 hm h6,Pe⟩
def ax3{a:Lf}(h:IsD a K m)(hK:K<=1000000000:=by first|decide|omega):aH prog 159 [.o a]<|.d<|.o<|ln K m:=by refine⟨mM func159 O O,λB w vs hB hvs=>?_⟩;match vs,hvs with|[v],⟨h1,_⟩=>obtain⟨a,n,c,rfl,hr,hn,hb⟩:=Zw<|h _ _ _ h1;refine(ak4 a n c m w Z hr).mono ?_;rintro e w' ⟨ro,k,c',rfl,h3,hk,ho,hbb⟩;exact⟨_,O,hbb,Yf h3 Z<|KF hB ho h3⟩
def ar9(hn:n<=1000000:=by decide):aH prog 151 [.o<|vI (n:Int)]<|.d<|.o<|dn (n+1)<|2^n:=by refine⟨mM func151 O O,λB w vs hB hvs=>?_⟩;match vs,hvs with|[_],⟨⟨rfl,_⟩,_⟩=>refine(agM n w hn).mono ?_;rintro e w' ⟨ro,k,c',rfl,h3,hk,ho,hbb⟩;exact⟨_,O,hbb,aoi h3 hk<|KF hB ho h3⟩
def aa9{v:Int}(hn:1<=n:=by decide)(hn2:n<=1000000:=by decide)(h1: -9223372036854775808<=v)(h2:v<=9223372036854775807):aH prog 12 [.o<|vI v,.o<|vI (n:Int)]<|dI<|v%(n:Int):=by refine⟨mM func12 O O,λB w vs hB hvs=>?_⟩;match vs,hvs with|[_,_],⟨⟨rfl,_⟩,⟨rfl,_⟩,_⟩=>refine(ab6 v n w hn hn2 h1 h2).mono ?_;exact ayk
def aae{b:Bool}(h1:b=decide (z<0))(h2:m=z.natAbs):AV.le (.d<|.j [.v<|.bool b,ln K m])<|.d<|.j<|zn K z:=by subst h1;subst h2;exact AV.le.rfl
def Na{b:Bool}(h1:b=decide (z<0))(h2:m=z.natAbs):AV.le (.d<|.j [dn K m,.v<|.bool b])<|.d<|.j<|rn K z:=by subst h1;subst h2;exact AV.le.rfl
def rX(m:Nat):(dS m).length=0↔m=0:=by rw [List.length_eq_zero_iff];exact uP
def LV(m:Nat):(cO m).length=0↔m=0:=by rw [List.length_eq_zero_iff];exact F6
def tV(z:Int):Int:=if z<0 then -1 else if z=0 then 0 else 1
def vY(m:Nat):bY m=0↔m=0:=⟨λh=>by
 rcases acT m with h0|h0
 ·omega
 ·have:=IG (n:=m) Z;omega,λh=>by subst h;rfl⟩
def aqU(s t:Bool)(a b:Nat):zv (s !=t) (a*b)=zv s a*zv t b:=by cases s <;> cases t <;> simp [zv,Int.neg_mul,Int.mul_neg]
def aqT(s t:Bool)(a b:Nat)(h:(s==t)=true):zv s (a+b)=zv s a+zv t b:=by cases s <;> cases t <;> simp_all [zv] <;> omega
def ali(s t:Bool)(a b:Nat)(h:(s==t)=false)(hle:b<=a):zv s (a-b)=zv s a+zv t b:=by cases s <;> cases t <;> simp_all [zv] <;> omega
def alj(s t:Bool)(a b:Nat)(h:(s==t)=false)(hle:¬b<=a):zv t (b-a)=zv s a+zv t b:=by cases s <;> cases t <;> simp_all [zv] <;> omega
def sO{neg:Bool}(hz:zv neg m=z):aH prog 117 [.o<|ln K m,.o<|.v<|.bool neg]<|.d<|.j<|zn K z:=by subst hz;cases neg;exact aN 13 [.cell 4 35] func117 O<|cR<|mO O<|I<|cR<|mE 2 O<|mG O O<|mG O O<|mG O O<|mE 3 O<|mZ O<|I<|aQ<|rQ O (aae (by simp [Ui]) (uy _ _).symm);exact aN 13 [.cell 4 35] func117 O<|cR<|mO O<|I<|cR<|mE 8 O<|mZ O<|I<|aQ<|rQ O (aae (by rw [Ui];have:=rX m;rw [Bool.true_and,decide_eq_decide];omega) (uy _ _).symm)
def Lp{neg:Bool}(hz:zv neg m=z):aH prog 150 [.o<|dn K m,.o<|.v<|.bool neg]<|.d<|.j<|rn K z:=by subst hz;cases neg;exact aN 13 [.cell 4 43] func150 O<|cR<|mO O<|I<|cR<|mE 3 O<|mG O O<|mG O O<|mG O O<|mE 2 O<|mZ O<|I<|aQ<|rQ O (Na (by simp [Ui]) (uy _ _).symm);exact aN 13 [.cell 4 43] func150 O<|cR<|mO O<|I<|cR<|mE 8 O<|mZ O<|I<|aQ<|rQ O (Na (by rw [Ui];have:=LV m;rw [Bool.true_and,decide_eq_decide];omega) (uy _ _).symm)
def Aj{a:List Lf}(ha:Bg a K x)(hK:K<=1073741824:=by first|decide|omega):aH prog 133 [.j a]<|.d<|.j<|zn K x:=by obtain⟨s,xs,ha,rfl⟩:=ha;exact aH.le (dl (DV.z ha) iR) AV.le.rfl<|aN 9 [.cell 2 35] func133 O<|cR<|mO O<|mO O<|I<|au<|cDk 6<|oE 2 O<|oC (Bz<|wM K xs) O<|oE 2 O<|oC (sO O) O<|.nil<|mZ O<|I<|aQ<|rQ O<|AV.le.rfl
def UF{a:List Lf}(ha:Bg a K x)(hK:K<=1073741824:=by first|decide|omega):aH prog 189 [.j a]<|.d<|.j<|zn K (-x):=by obtain⟨s,xs,ha,rfl⟩:=ha;refine aH.le (dl (DV.z ha) iR) AV.le.rfl<|aN 10 [.cell 2 35] func189 O<|cR<|mO O<|mO O<|I<|au<|cDk 7<|oE 2 O<|oC (Bz<|wM K xs) O<|oE 3 O<|oC (sO O) O<|.nil<|mZ O<|I<|aQ ?_;exact rQ O (kX (aav _)<|by cases s <;> simp [zv])
def arN{a:List Lf}(ha:Bg a K x)(hK:K<=1073741824:=by first|decide|omega):aH prog 182 [.j a]<|.d<|.j<|zn K (x.natAbs:Int):=by obtain⟨s,xs,ha,rfl⟩:=ha;exact aH.le (dl (DV.z ha) iR) AV.le.rfl<|aN 7 [.cell 2 35] func182 O<|cR<|mO O<|mO O<|I<|cR<|mE 2 O<|mY (Bz<|wM K xs) O<|mY (sO O) O<|mZ O<|I<|aQ<|rQ O (kX (aav _)<|by rw [uy];rfl)
def abl{a b:List Lf}(ha:Bg a K x)(hb:Bg b L y)(hM:max K L+1<=M:=by first|decide|omega)(hK:K<=1073741824:=by first|decide|omega)(hL:L<=1073741824:=by first|decide|omega):aH prog 185 [.j a,.j b]<|.d<|.j<|zn M<|x+y:=by obtain⟨s,xs,ha,rfl⟩:=ha;obtain⟨t,ys,hb,rfl⟩:=hb;refine aH.le (dl (DV.z ha)<|dl (DV.z hb) iR) AV.le.rfl<|aN 47 [.cell 4 35] func185 O<|cR<|mO O<|mO O<|mO O<|I<|au<|cR<|mE 5 O<|I<|bI O (λhc1=>?_) (λhc1=>?_);exact au<|cDk 8<|oE 4 O<|oC (alC (wM K xs) (wM L ys) (M:=(max K L+1))) O<|oE 2 O<|oC (sO O) O<|.nil<|mZ O<|I<|aQ<|tR<|rQ O<|kX hM<|aqT _ _ _ _ hc1;refine aO<|tN<|au<|cR<|mE 4 O<|mY (adw (wM K xs)<|wM L ys) O<|mE 5 O<|I<|cR<|mW O<|I<|bI O (λhc2=>?_) (λhc2=>?_);exact cR<|mE 3 O<|mY (sO O) O<|mZ O<|I<|aQ<|tR<|rQ O (kX Z<|ali _ _ _ _ hc1<|by simpa using hc2);exact aO<|tN<|cR<|mE 4 O<|mY (adw (wM L ys)<|wM K xs) O<|mE 5 O<|I<|cR<|mE 3 O<|mY (sO O) O<|mZ O<|I<|aQ<|rQ O (kX Z<|alj _ _ _ _ hc1<|by simpa using hc2)
def asx{a b:List Lf}(ha:Bg a K x)(hb:Bg b L y)(hM:max K L+1<=M:=by first|decide|omega)(hK:K<=1073741824:=by first|decide|omega)(hL:L<=1073741824:=by first|decide|omega):aH prog 317 [.j a,.j b]<|.d<|.j<|zn M<|x-y:=by obtain⟨s,xs,ha,rfl⟩:=ha;obtain⟨t,ys,hb,rfl⟩:=hb;refine aH.le (dl (DV.z ha) aER) AV.le.rfl<|aN 12 [.cell 4 35] func317 O<|cR<|mO O<|mO O<|mO O<|I<|cR<|mE 4 O<|mZ O<|I<|cR<|mE 2 O<|mY (abl (au0 K s xs) (au0 L (!t) ys) (M:=(max K L+1))) O<|mZ O<|I<|aQ ?_;exact rQ O (kX hM<|by cases t <;> simp [zv] <;> omega)
def Ll{a b:List Lf}(ha:Bg a K x)(hb:Bg b L y)(hM:K+L<=M:=by first|decide|omega)(hK:K<=1073741824:=by first|decide|omega)(hL:L<=1073741824:=by first|decide|omega):aH prog 38 [.j a,.j b]<|.d<|.j<|zn M<|x*y:=by obtain⟨s,xs,ha,rfl⟩:=ha;obtain⟨t,ys,hb,rfl⟩:=hb;exact aH.le (dl (DV.z ha)<|dl (DV.z hb) iR) AV.le.rfl<|aN 16 [.cell 4 35] func38 O<|cR<|mO O<|mO O<|mO O<|I<|au<|cDk 11<|oE 4 O<|oC (ar6 (wM K xs) (wM L ys) (M:=(K+L))) O<|oE 5 O<|oC (sO O) O<|.nil<|mZ O<|I<|aQ<|rQ O<|kX hM<|aqU _ _ _ _
def asv{a:List Lf}(ha:Bg a K x)(hK:K<=1073741824:=by first|decide|omega):aH prog 254 [.j a]<|dI<|tV x:=by obtain⟨s,xs,ha,rfl⟩:=ha;refine aH.le (dl (DV.z ha) iR) AV.le.rfl<|aN 11 [.tmp 2] func254 O<|cR<|mO O<|mW O<|I<|au<|aK<|cR<|mE 2 O<|mY (xG<|wM K xs) O<|mE 2 O<|I<|bI O (λhc1=>?_) (λhc1=>?_);refine cR<|mW O<|I<|aQ<|bR<|tR<|rQ O (aJ<|by have h0:=vY<|val xs;simp only [beq_iff_eq,beq_eq_false_iff_ne,ne_eq,bne_iff_ne,bne_eq_false_iff_eq,decide_eq_true_eq,decide_eq_false_iff_not] at hc1;unfold tV zv;cases s <;> (repeat' split) <;> first|omega|(exfalso;simp at *;done)|(simp at *;omega));refine cR<|mE 3 O<|I<|bI O (λhc2=>?_) (λhc2=>?_);refine cR<|mW O<|I<|aQ<|bR<|tR<|aqW;refine aO<|bN<|tN<|cR<|mW O<|I<|aQ<|aqW
def Xq{a b:List Lf}(ha:Bg a K x)(hb:Bg b L y)(hK:K<=1073741824:=by first|decide|omega)(hL:L<=1073741824:=by first|decide|omega):aH prog 183 [.j a,.j b]<|dI<|l9 x y:=by have⟨s,xs,ha,hx⟩:=ha;have⟨t,ys,hb,hy⟩:=hb;refine aH.le (dl (DV.z ha) aER) AV.le.rfl ?_;have hxa:val xs=x.natAbs:=(by rw [<-hx,uy]);have hya:val ys=y.natAbs:=(by rw [<-hy,uy]);refine aN 32 [.tmp 4] func183 O<|cR<|mO O<|mO O<|mW O<|I<|au<|cDk 6<|oV O<|oC (asv ⟨s,xs,λ_ _ _ h=>h,hx⟩ Z) O<|oV O<|oC (asv ⟨t,ys,λ_ _ _ h=>h,hy⟩ Z) O<|oE 2 O<|.nil<|I<|au<|aK<|cR<|mE 4 O<|I<|bI O (λhc1=>?_) (λhc1=>?_);refine cR<|mW O<|I<|aQ<|bR<|tR<|rQ O (aJ<|by simp only [decide_eq_true_eq,decide_eq_false_iff_not] at hc1;(try rw [hxa,hya]);simp only [tV,l9] at *;(repeat' split at *) <;> omega);refine cR<|mE 4 O<|I<|bI O (λhc2=>?_) (λhc2=>?_);refine cR<|mW O<|I<|aQ<|bR<|tR<|rQ O (aJ<|by simp only [decide_eq_true_eq,decide_eq_false_iff_not] at hc1 hc2;(try rw [hxa,hya]);simp only [tV,l9] at *;(repeat' split at *) <;> omega);refine cR<|mE 3 O<|I<|bI O (λhc3=>?_) (λhc3=>?_);refine cR<|mE 4 O<|mY (alD (wM L ys)<|wM K xs) O<|mW O<|I<|aQ<|bR<|tR<|rQ O (aJ<|by simp only [decide_eq_true_eq,decide_eq_false_iff_not] at hc1 hc2 hc3;(try rw [hxa,hya]);simp only [tV,l9] at *;(repeat' split at *) <;> omega);refine aO<|bN<|tN<|cR<|mE 4 O<|mY (alD (wM K xs)<|wM L ys) O<|mW O<|I<|aQ<|rQ O (aJ<|by simp only [decide_eq_true_eq,decide_eq_false_iff_not] at hc1 hc2 hc3;(try rw [hxa,hya]);simp only [tV,l9] at *;(repeat' split at *) <;> omega)
def asl{a:List Lf}(ha:IsR a K x)(hK:K<=1000000000:=by first|decide|omega):aH prog 69 [.j a]<|.d<|.j<|zn K x:=by exact aH.le (dl (DV.g ha) iR) AV.le.rfl<|aN 9 [.cell 2 35] func69 O<|cR<|mO O<|mO O<|I<|au<|cDk 6<|oE 4 O<|oC (ax3<|isd K x.natAbs) O<|oV O<|.nil<|mZ O<|I<|aQ<|rQ O<|AV.le.rfl
def alI{a:List Lf}(ha:IsR a K x)(hM:K<=M:=by first|decide|omega)(hK:K<=1073741824:=by first|decide|omega):aH prog 147 [.j a]<|.d<|.j<|rn M (-x):=by refine aH.le (dl (DV.g ha) iR) AV.le.rfl<|aN 9 [.cell 2 43] func147 O<|cR<|mO O<|mO O<|I<|cR<|mE 5 O<|mY (Lp O) O<|mZ O<|I<|aQ<|rQ O (VA hM (by unfold zv;by_cases h:x<0 <;> simp [h] <;> omega))
def anS{a:List Lf}(ha:IsR a K x):aH prog 146 [.j a]<|.d<|.o<|.v<|.bool<|decide<|x=0:=by exact aH.le (dl (DV.g ha) iR) AV.le.rfl<|aN 7 [.tmp 2] func146 O<|cR<|mO O<|mW O<|I<|cR<|mE 5 O<|I<|aQ<|rQ O (gG<|by have h0:=LV x.natAbs;rw [Bool.eq_iff_iff,beq_iff_eq,decide_eq_true_eq];omega)
def yx{a b:DV}(h:AV.le (.d a)<|.d b):∀B w v,DR B w a v->DR B w b v:=λB w v hv=>h (λ_=>none) B w v hv
def jK{xs ys:List DV}(h:Ov xs ys):AV.le (.dY xs)<|.dY ys:=fun ρ B w v ⟨cs,e,hl⟩=>⟨cs,e,h.ok hl⟩
section
variable {T:TypeId→Option TI} {s:AS} {t e:TypeId} {ti te:TI} {x ix:Operand} {k:IntKind} {z:Int} {sz n id:Nat} {el:Nat→Nat→Lf}
def jh(h1:T t=some ti)(h2:ti.elem=some e)(h3:T e=some te)(h4:nC s ix=some (k,z))(h5:dR s x=some (.d<|.o<|.a sz n el))(h6:Nat.beq sz te.n=true)(hz:0<=z)(hz2:z<(n:Int)):kE T s (.indexAddr t x ix)=some (.d<|.o<|.at sz<|el z.toNat):=by have h6':=abr h6;simp only [kE,h1,h2,h3,h4,h5];rw [if_pos Z];rfl
def Jo{e':TypeId}(h1:T t=some ti)(h2:ti.elem=some e)(h3:T e=some te)(h4:nC s ix=some (k,z))(h5:dR s x=some (.q id))(h7:lkU s.hp id=some (.a e' sz n el))(h6:Nat.beq sz te.n=true)(hz:0<=z)(hz2:z<(n:Int)):kE T s (.indexAddr t x ix)=some (.iL id sz z.toNat 0):=by have h6':=abr h6;simp only [kE,h1,h2,h3,h4,h5,h7];simp_all
theorem xjh{T:TypeId->Option TI}{s:AS}{t e:TypeId}{ti te:TI}{x ix:Operand}{k:IntKind}{i sz n:Nat}{el:Nat->Nat->Lf}(h1:T t=some ti)(h2:ti.elem=some e)(h3:T e=some te)(h4:nC s ix=some (k,(i:Int)))(h5:dR s x=some (.d (.o (.a sz n el))))(h6:Nat.beq sz te.n=true)(h:i<n):kE T s (.indexAddr t x ix)=some (.d (.o (.at sz (el i)))):=jh h1 h2 h3 h4 h5 h6 (Int.natCast_nonneg i) (Int.ofNat_lt.2 h)
theorem xJo{T:TypeId->Option TI}{s:AS}{t e e':TypeId}{ti te:TI}{x ix:Operand}{k:IntKind}{i sz n id:Nat}{el:Nat->Nat->Lf}(h1:T t=some ti)(h2:ti.elem=some e)(h3:T e=some te)(h4:nC s ix=some (k,(i:Int)))(h5:dR s x=some (.q id))(h7:lkU s.hp id=some (.a e' sz n el))(h6:Nat.beq sz te.n=true)(h:i<n):kE T s (.indexAddr t x ix)=some (.iL id sz i 0):=Jo h1 h2 h3 h4 h5 h7 h6 (Int.natCast_nonneg i) (Int.ofNat_lt.2 h)
def slR{hi:Operand}(h1:T t=some ti)(h2:ti.elem=some e)(h3:T e=some te)(h4:nC s hi=some (k,z))(h5:dR s x=some (.d<|.o<|.a sz n el))(h6:Nat.beq sz te.n=true)(hz:0<=z)(hz2:z<=(n:Int)):kE T s (.slice t x none (some hi) none)=some (.d<|.o<|.a sz z.toNat el):=by have h6':=abr h6;simp only [kE,h1,h2,h3,h5,sS,h4,if_pos hz];rw [if_pos Z];show some (AV.d<|.o<|.a sz (z.toNat-0) λi j=>el (0+i) j)=_;simp_all
def mkO{l c:Operand}{zl zc:Int}{k':IntKind}{bts nn:Nat}{zz:List Value}(h1:T t=some ti)(h2:ti.elem=some e)(h3:T e=some te)(h4:nC s l=some (k,zl))(h5:nC s c=some (k',zc))(h0:0<=zl)(h6:zl<=zc)(hb:te.bytes=bts)(hn:te.n=nn)(hzz:te.zero=zz)(h7:(bts:Int)*zc<=140737488355328)(h8:zc<=9223372036854775807)(h9:Nat.beq te.zero.length te.n=true):evN T s (.makeSlice t l c)=some (.a e nn zl.toNat λ_ j=>.v<|(zz[j]?).getD undef):=by have h9':=abr h9;subst hb;subst hn;subst hzz;simp only [evN,h1,h2,h3,h4,h5];simp_all
end
def bH(h:i<1000000001:=by omega):IntKind.i64.wrap ((i:Int)+1)=((i+1:Nat):Int):=(fH Z Z).trans Z
def xIa{Q:Qs}{l:List Oper}{s:AS}(e:kE TT s o.op=some (.d<|.o<|.v<|.int .i64<|IntKind.i64.wrap<|(i:Int)+1))(h:i<1000000001)(k:AL prog ops Q l<|s.put o.dst<|dI ((i+1:Nat):Int))(hg:jD ops s o=some true:=by rfl)(hd:jQ o.dst s.n=true:=by rfl):AL prog ops Q (o::l) s:=mV aj _ (e.trans<|fK<|bH h) k hg hd
def xIo{P:Program}{T:TypeId->Option TI}{K:AS->Prop}{l:List Oper}{s:AS}(e:kE T s o.op=some (.d<|.o<|.v<|.int .i64<|IntKind.i64.wrap<|(i:Int)+1))(h:i<1000000001)(k:JJ P T ops K l<|s.put o.dst<|dI ((i+1:Nat):Int))(hg:jD ops s o=some true:=by rfl)(hd:jQ o.dst s.n=true:=by rfl):JJ P T ops K (o::l) s:=oV (e.trans<|fK<|bH h) k hg hd
def iD{e:TypeId}{sz:Nat}{el':Nat->Nat->Lf}:AO.le (.a e sz 0 el)<|.a e sz 0 el':=jY λi hi=>absurd hi<|acH _
def am1(m:Nat):Int.fdiv (m:Int) (2^(min (Int.toNat 32) 64))=((m/4294967296:Nat):Int):=by grind
def agp(hm:m<18446744073709551616)(h0:el 0 0=.v (.int .u32 ((m%4294967296:Nat):Int)):=by rfl)(h1:el 1 0=.v (.int .u32 ((m/4294967296:Nat):Int)):=by rfl):Ox (.a 1 2 el) 2 m:=by refine(Z5 (xs:=[m%4294967296,m/4294967296]) O ?_ ?_).eq ?_;grind;grind;show m%4294967296+dF*(m/4294967296+dF*0)=m;grind
def akm(h0:el 0 0=.v (.int .u32 1):=by rfl):Ox (.a 1 1 el) 1 1:=by refine(Z5 (xs:=[1]) O ?_ ?_).eq O;grind;simp_all
def ab9(n:Int)(h:n<0)(h1: -9223372036854775808<=n):IntKind.u64.wrap (0-IntKind.u64.wrap n)=(n.natAbs:Int):=by rw [lT,lT];omega
def acg(n:Int)(h:¬n<0)(h1:n<=9223372036854775807):IntKind.u64.wrap n=(n.natAbs:Int):=by rw [lT];omega
def dm1(t:Bool)(m n:Nat)(hn:n≠0):zv (false !=t) (m/n)=zv false m/zv t n/\zv false (nI m n)=zv false m%zv t n:=by have h:=anl m n;have hlt:=acP m<|ahc hn;refine euc ?_ ?_ ?_;unfold nI;rw [if_neg hn];have h2:((n*(m/n)+m%n:Nat):Int)=m:=aGW;rw [Int.natCast_add,Int.natCast_mul] at h2;cases t;exact h2.symm;show(m:Int)= -(n:Int)* -(((m/n:Nat)):Int)+(m%n:Nat);grind;show(0:Int)<=(nI m n:Nat);omega;rw [uy];show((nI m n:Nat):Int)<_;unfold nI;grind
def dm2(t:Bool)(m n:Nat)(hn:n≠0)(h0:nI m n=0):zv (true !=t) (m/n)=zv true m/zv t n/\zv false (nI m n)=zv true m%zv t n:=by have h:=anl m n;have h0':m%n=0:=(by unfold nI at h0;simp_all);rw [h0];refine euc ?_ φ (by rw [uy];show(0:Int)<_;omega);have h2:((n*(m/n)+m%n:Nat):Int)=m:=aGW;rw [h0',Nat.add_zero,Int.natCast_mul] at h2;cases t;show -(m:Int)=(n:Int)* -(((m/n:Nat)):Int)+(0:Nat);grind;show -(m:Int)= -(n:Int)*(((m/n:Nat)):Int)+(0:Nat);grind
def dm3(t:Bool)(m n:Nat)(hn:n≠0)(h0:0<nI m n):zv (true !=t) (m/n+1)=zv true m/zv t n/\zv false (n-nI m n)=zv true m%zv t n:=by have h:=anl m n;have hlt:=acP m<|ahc hn;have e:nI m n=m%n:=(by unfold nI;simp_all);rw [e] at h0 ⊢;refine euc ?_ ?_ ?_;have h2:((n*(m/n)+m%n:Nat):Int)=m:=aGW;rw [Int.natCast_add,Int.natCast_mul] at h2;have h3:((n-m%n:Nat):Int)=(n:Int)-(m%n:Nat):=Z;generalize m/n=q at h2 ⊢;generalize m%n=r at h2 h3 ⊢;cases t;show -(m:Int)=(n:Int)* -((((q+1):Nat)):Int)+((n-r:Nat):Int);grind;show -(m:Int)= -(n:Int)*((((q+1):Nat)):Int)+((n-r:Nat):Int);grind;show(0:Int)<=((n-m%n:Nat):Int);omega;rw [uy];show((n-m%n:Nat):Int)<_;omega
def dM(c:Nat->Int):Nat->Nat
 |0=>0
 |n+1=>Nat.gcd (dM c n) (c n).natAbs
def ae4(h:dM c k=1)(hk:k<=n):dM c n=1:=by obtain⟨d,rfl⟩:=amJ hk;clear hk;induction d with|zero=>exact h|succ d ih=>show Nat.gcd (dM c<|k+d) _=1;simp_all
def apI:(dS m).length=1/\(dS m).getD 0 0=1↔m=1:=by constructor;(rintro⟨h1,h2⟩;have h3:=eF m;match h:dS m,h1 with|[x],_=>exact azN);rintro rfl;exact ayE
section
variable {P:Program} {ops:Array Oper} {Q:Qs} {s:AS}
def ac7(p:Nat->Prop):List Nat->Prop
 |[]=>True
 |i::l=>p i/\ac7 p l
def ac7.get{p:Nat->Prop}:∀{l:List Nat},ac7 p l->∀i∈l,p i
 |i::l,h,k,hk=>by
  rcases afu.1 hk with rfl|hk
  ·exact h.1
  ·exact ac7.get h.2 k hk
def Qe(P:Program)(ops:Array Oper)(Q:Qs):Nat->Array Bool->AS->Prop
 |0,listed,s=>Region.ready .any ops listed=[]/\Q .normal s
 |n+1,listed,s=>(Region.ready .any ops listed=[]->Q .normal s)/\∀i∈Region.ready .any ops listed,∃o,ops[i]?=some o/\AL P ops (thn (Qe P ops Q n<|listed.setIfInBounds i true) Q) [o] s
def JD{listed:Array Bool}(rs:List Nat)(hr:Region.ready .any ops listed=rs)(hne:rs.isEmpty=false)(h:ac7 (λi=>∃o,ops[i]?=some o/\AL P ops (thn (Qe P ops Q n<|listed.setIfInBounds i true) Q) [o] s) rs):Qe P ops Q (n+1) listed s:=
 ⟨λe=>absurd (hr.symm.trans e)<|λe2=>by subst e2;exact Bool.noConfusion hne,hr▸h.get⟩
def aiP{listed:Array Bool}(hr:Region.ready .any ops listed=[])(h:Q .normal s):Qe P ops Q n listed s:=by cases n with|zero=>exact⟨hr,h⟩|succ n=>exact⟨λ_=>h,by rw [hr];intro i hi;simp at hi⟩
def OV{B0:BS}{w0:Wz}:∀(n:Nat) (listed:Array Bool) (s:AS) (a:Act) (w:World),Qe P ops Q n listed s->Ou s B0 w0 a w->wpAny P .any ops (DQ Q B0 w0) n listed a w
 |0,listed,s,a,w,h,hd=>⟨h.1,s,h.2,hd⟩
 |n+1,listed,s,a,w,h,hd=>by
  refine⟨λe=>⟨s,h.1 e,hd⟩,λi hi=>?_⟩;have⟨o,ho,hal⟩:=h.2 i hi;have h1:=hal B0 w0 a w hd;unfold wpOp;rw [ho];simp only [wpList] at h1 ⊢;have hk:∀a w,DQ (thn (Qe P ops Q n<|listed.setIfInBounds i true) Q) B0 w0 .normal a w->wpAny P .any ops (DQ Q B0 w0) n (listed.setIfInBounds i true) a w:=λa w ⟨s',h3,h4⟩=>OV n _ s' a w h3 h4
  split
  ·rename_i hw
   rw [if_pos hw] at h1;rcases h1 with h1|⟨h1,h2⟩
   ·refine Or.inl ?_
    have h3:=Oper.wp_mono hk h1;assumption
   ·exact Or.inr ⟨h1,h2⟩
  simp_all
end
def Je{a:List Lf}(ha:IsN a K z):aH prog 233 [.j a]<|.d<|.o<|.v<|.bool<|decide<|z=0:=by exact aH.le (dl (DV.g ha) iR) AV.le.rfl<|aN 7 [.tmp 2] func233 O<|cR<|mO O<|mW O<|I<|cR<|mE 5 O<|I<|aQ<|rQ O (gG<|by have h0:=rX z.natAbs;rw [Bool.eq_iff_iff,beq_iff_eq,decide_eq_true_eq];omega)
def asw{a:List Lf}(ha:IsN a K z):aH prog 103 [.j a]<|dI<|tV z:=by refine aH.le (dl (DV.g ha) iR) AV.le.rfl<|aN 11 [.tmp 2] func103 O<|cR<|mO O<|mW O<|I<|au<|aK<|cR<|mE 5 O<|I<|bI O (λhc1=>?_) (λhc1=>?_);refine cR<|mW O<|I<|aQ<|bR<|tR<|rQ O (aJ<|by have h0:=rX z.natAbs;simp only [beq_iff_eq,beq_eq_false_iff_ne,ne_eq,bne_iff_ne,bne_eq_false_iff_eq,decide_eq_true_eq,decide_eq_false_iff_not] at hc1;unfold tV;(repeat' split) <;> omega);refine cR<|mE 3 O<|I<|bI O (λhc2=>?_) (λhc2=>?_);refine cR<|mW O<|I<|aQ<|bR<|tR<|arb;refine aO<|bN<|tN<|cR<|mW O<|I<|aQ<|arb
abbrev aBy(n:Int):AV:=.d (.o (.v (.int .u32 ((n.natAbs%4294967296:Nat):Int))))
abbrev aBz(n:Int):AV:=.d (.o (.v (.int .u64 ((n.natAbs/4294967296:Nat):Int))))
abbrev aBA(n:Int):AV:=.d (.o (.v (.int .u32 ((n.natAbs/4294967296:Nat):Int))))
abbrev aBY(n:Int):AV:=.d (.o (.v (.int .u64 (n.natAbs:Int))))
def aOf{n:Int}(h1: -9223372036854775808<=n:=by first|decide|omega)(h2:n<=9223372036854775807:=by first|decide|omega):aH prog 39 [.o<|vI n]<|.d<|.j<|zn 2 n:=by refine aN 20 [.cell 2 35] func39 O<|cR<|mO O<|I<|cR<|mE 3 O<|I<|au<|cR<|mE 2 O<|I<|bI O (λhc1=>?_) (λhc1=>?_);exact aA<|mW O<|mV aj (aBY n) (fK<|ab9 n (abd hc1) h1)<|mW O<|I<|cR<|mW O<|mV aj (aBy n) (fK<|by rw [Df];omega)<|mW O<|mV aj (aBz n) (fK (am1 _))<|mV aj (aBA n) (fK (by rw [Df];omega))<|mB aj _ O<|mY (Bz (agp Z)) O<|mE 2 O<|mY (sO O) O<|mZ O<|I<|aQ<|rQ O (kX (aav _) (qA n));exact aO<|tN<|au<|fQ 3 (aBY n) O (aJ<|acg n (aa1 hc1) h2)<|aA<|mW O<|mV aj (aBy n) (fK<|by rw [Df];omega)<|mW O<|mV aj (aBz n) (fK (am1 _))<|mV aj (aBA n) (fK (by rw [Df];omega))<|mB aj _ O<|mY (Bz (agp Z)) O<|mE 2 O<|mY (sO O) O<|mZ O<|I<|aQ<|rQ O (kX (aav _) (qA n))
def aie{a b:List Lf}(ha:Bg a K x)(hb:Bg b L y)(hy:y≠0)(hM:max K 1+1<=M:=by first|decide|omega)(hK:K<=1073741823:=by first|decide|omega)(hL:L<=1073741823:=by first|decide|omega):aH prog 300 [.j a,.j b]<|.dY [.j<|zn M<|x/y,.j<|zn L<|x%y,.o<|vI 0]:=by obtain⟨s,xs,ha,rfl⟩:=ha;obtain⟨t,ys,hb,rfl⟩:=hb;refine aH.le (dl (DV.z ha) aER) AV.le.rfl ?_;have hn:val ys≠0:=λe=>hy (by rw [e];cases t <;> rfl);cases s;refine aN 60 [.cell 4 35,.cell 5 35,.tmp 6] func300 O<|cR<|mO O<|mO O<|mO O<|mO O<|mW O<|I<|cR<|mE 4 O<|mY (adv (wM K xs)<|wM L ys) O<|mE 7 O<|I<|au<|cR<|mW O<|mbF O aFU<|I<|cFs O<|cR<|mE 6 O<|mY (sO O) O<|mW O<|mY (sO O) O<|mZ O<|mZ O<|I<|au<|cR<|mE 3 O<|mG O O<|mG O O<|mG O O<|mW O<|I<|cFs O<|au<|cDs 5<|pV O<|pV O<|.cons (aC.S 4 (.b 35<|zn K<|zv (!(false==t))<|(val xs)/(val ys)) O O) ξ<|.cons (aC.S 5 (.b 35<|zn L<|zv false<|nI (val xs)<|val ys) O O) ξ<|pV O<|.nil<|I<|aQ ?_;have⟨e1,e2⟩:=dm1 t (val xs) (val ys) hn;exact asY;refine aN 60 [.cell 4 35,.cell 5 35,.tmp 6] func300 O<|cR<|mO O<|mO O<|mO O<|mO O<|mW O<|I<|cR<|mE 4 O<|mY (adv (wM K xs)<|wM L ys) O<|mE 7 O<|I<|au<|cR<|mW O<|mbF O aFU<|I<|cFs O<|cR<|mE 6 O<|mY (sO O) O<|mW O<|mY (sO O) O<|mZ O<|mZ O<|I<|au<|cR<|mE 7 O<|I<|bI O (λhc1=>?_) (λhc1=>?_);refine cR<|mW O<|mB aj _ O<|mY (alC (isl K<|(val xs)/(val ys)) akm (M:=(max K 1+1))) O<|mW O<|I<|cR<|mE 3 O<|mY (adw (wM L ys)<|isl L<|nI (val xs)<|val ys) O<|mE 4 O<|I<|aA<|mE 6 O<|mY (sO O) O<|mW O<|mY (sO O) O<|mZ O<|mZ O<|I<|au<|cDs 5<|pV O<|pV O<|.cons (aC.S 4 (.b 35<|zn (max K 1+1)<|zv (!(true==t))<|((val xs)/(val ys))+1) O O) ξ<|.cons (aC.S 5 (.b 35<|zn L<|zv false<|(val ys)-(nI (val xs)<|val ys)) O O) ξ<|pV O<|.nil<|I<|aQ ?_;have⟨e1,e2⟩:=dm3 t (val xs) (val ys) hn (ahc λe=>by have h0:=abd hc1;rw [e] at h0;exact absurd h0 φ);exact asY;refine aO<|tN<|au<|cDs 5<|pV O<|pV O<|.cons (aC.S 4 (.b 35<|zn K<|zv (!(true==t))<|(val xs)/(val ys)) O O) ξ<|.cons (aC.S 5 (.b 35<|zn L<|zv false<|nI (val xs)<|val ys) O O) ξ<|pV O<|.nil<|I<|aQ ?_;have⟨e1,e2⟩:=dm2 t (val xs) (val ys) hn (by have h0:=aa1 hc1;have h1:=rX<|nI (val xs)<|val ys;omega);exact asY
def vK{a b:List Lf}(ha:Bg a K x)(hb:Bg b L y)(hy:y≠0)(hd:y∣x)(hM:max K 1+1<=M:=by first|decide|omega)(hK:K<=1073741823:=by first|decide|omega)(hL:L<=1073741823:=by first|decide|omega):aH prog 245 [.j a,.j b]<|.dY [.j<|zn M<|x/y,.o<|vI 0]:=by have⟨sa,xa,ha,ea⟩:=ha;have⟨sb,xb,hb,eb⟩:=hb;exact aH.le (dl (DV.z ha)<|dl (DV.z hb) iR) AV.le.rfl<|aN 26 [.cell 4 35,.tmp 5] func245 O<|cR<|mO O<|mO O<|mO O<|mW O<|I<|cR<|mE 2 O<|mY (aie ⟨sa,xa,λ_ _ _ h=>h,ea⟩ ⟨sb,xb,λ_ _ _ h=>h,eb⟩ hy (M:=(max K 1+1)) Z Z Z) O<|mE 4 O<|mO O<|mO O<|mZ O<|mZ O<|mW O<|I<|au<|cR<|mE 2 O<|I<|cFs O<|au<|cR<|mE 3 O<|mdF O (by rw [Int.emod_eq_zero_of_dvd hd];decide)<|I<|cFs O<|cR<|mW O<|mZ O<|mW O<|I<|aQ<|rQ O (jK (dl (yx (kX hM O)) (dl DV.same iR)))
def ain{l:Lf}(ha:kW l K n c)(hn:n<=1000000:=by first|decide|omega)(hK:K<=1073741823:=by first|decide|omega):aH prog 244 [.o l]<|.d<|.j<|zn K (dM c n:Nat):=by
 have⟨⟨f,ha,hf⟩,hz⟩:=ha;refine aH.le aDT AV.le.rfl<|aN 44 [.cell 2 35] func244 O<|cR<|mO O<|I<|cR<|mW O<|I<|au<|au<|fQ 3 (.d<|.o<|ln K<|dM c 0) O (SG K)<|aA<|mE 3 O<|I<|aK<|dL (ι:=Nat) (λi=>⟨44,[(2,.p 2 0),(10,.d<|.o<|.a 2 n<|o7 K f),(11,dI (n:Int)),(12,dI (i:Int)),(3,.d<|.o<|ln K<|dM c i)],[(2,.b 35<|[.v<|.bool false,.v aAy])]⟩) (λi=>i<=n) (λi=>n-i) 0 (abJ _) aDU ?_;rintro i hi0;refine cR<|mW O<|I<|au<|bI O (λhc1=>?_) (λhc1=>?_)
 ·refine aO<|tN<|au<|aK<|au ?_;have hi:i<n:=aCb;refine aA<|mV aj (.d<|.o<|.at 2<|(o7 K f) i) (jh (el:=(o7 K f)) (z:=(i:Int)) (n:=n) O O O O O O Z Z)<|mW O<|mO O<|mZ O<|I<|cR<|mE 2 O<|mY (Bz<|wM K<|(f i).2) O<|mW O<|I<|au<|aK<|dL (ι:=Nat×Nat) (λ(p:Nat×Nat)=>match p with|(x,y)=>⟨44,[(2,.p 2 0),(10,.d<|.o<|.a 2 n<|o7 K f),(11,dI (n:Int)),(12,dI (i:Int)),(3,.d<|.o<|ln K x),(6,.d<|.o<|ln K y)],[(2,.b 35<|[.v<|.bool false,.v aAy])]⟩) (λ(x,y)=>Nat.gcd x y=dM c (i+1)) (λ(x,y)=>y) ((dM c i),(val (f i).2)) (by show Nat.gcd (dM c i) (val (f i).2)=Nat.gcd (dM c i) (c i).natAbs;rw [<-hf i hi,show(fzv f i).natAbs=val (f i).2 from uy _ _]) aDU ?_;rintro⟨x,y⟩ hI;have hg:Nat.gcd x y=dM c (i+1):=hI;show AW _ _ _ ⟨_,_,_⟩
  refine au<|cR<|mE 3 O<|I<|bI O (λhc2=>?_) (λhc2=>?_)
  ·refine aO<|tN<|aK<|au ?_;have hy0:y≠0:=λe=>(by have h0:=abd hc2;rw [e] at h0;exact absurd h0 φ);exact aA<|mE 2 O<|mY (adv (isl K x)<|isl K y) O<|mE 7 O<|I<|aA<|mE 4 O<|ak<|bN<|⟨(y,(nI x y)),by show Nat.gcd y (nI x y)=_;unfold nI;rw [if_neg hy0,<-hg,Nat.gcd_comm x y,Nat.gcd_rec y x,Nat.gcd_comm],by show nI x y<y;unfold nI;rw [if_neg hy0];exact acP _<|ahc hy0,wkr O O⟩
  ·refine bZ<|tE<|tE<|bE<|tN<|au ?_;have hy0:y=0:=(by have h0:=aa1 hc2;have h1:=rX y;omega);have hx:x=dM c (i+1):=(by rw [<-hg,hy0,Nat.gcd_zero_right]);by_cases hl1:(dS x).length=1;refine aA<|mE 2 O<|mbT O aF8<|mE 2 O<|jL 35 (.d<|.o<|.a 1 ((dS x).length)<|λi _=>.v<|.int .u32 (((dS x).getD i 0:Nat):Int)) O (ajP _ _)<|mV aj (.d<|.o<|.at 1<|(λi _=>.v<|.int .u32 (((dS x).getD i 0:Nat):Int)) 0) (jh (el:=(λi _=>.v<|.int .u32 (((dS x).getD i 0:Nat):Int))) (z:=0) (n:=((dS x).length)) O O O O O O φ<|by rw [hl1];decide) ?_;refine mE 3 O<|I<|bI O (λhc3=>?_) (λhc3=>?_);refine bZ<|bX O<|tE<|tE<|bE<|tN<|cR<|mW O<|mY (Bz<|isl K x) O<|mY (sO O) O<|mZ O<|I<|aQ ?_;have h1:x=1:=apI.1 ⟨hl1,by have h0:=eq_of_beq hc3;exact Int.ofNat_inj.1 h0⟩;exact rQ O (kX (aav _)<|by show(x:Int)=_;rw [h1,ae4 (hx▸h1)<|show i+1<=n from hi]);exact aO<|bN<|tN<|aA<|mE 2 O<|ak<|⟨(i+1),by omega,by omega,wkv [3,4] [] ⟨dW O aEb,dW O<|eY<|hx▸λ_ _ _ h=>h,Pe⟩ trivial O O⟩;exact aA<|mE 2 O<|mbF O (acz.2 λe=>hl1 aFh)<|mW O<|mG O O<|mG O O<|mG O O<|mG O O<|mW O<|I<|cF O<|aO<|bN<|tN<|aA<|mE 2 O<|ak<|⟨(i+1),by omega,by omega,wkv [3,4] [] ⟨dW O aEb,dW O<|eY<|hx▸λ_ _ _ h=>h,Pe⟩ trivial O O⟩
 ·refine bZ<|tE<|tE<|bE<|tN<|cR<|mW O<|mY (Bz<|isl K<|dM c i) O<|mY (sO O) O<|mZ O<|I<|aQ ?_;have hin:i=n:=aCi;exact rQ O (kX (aav _)<|by rw [hin];rfl)
def oN{e:TypeId}(h:∀i,i<n->c i=0):AO.le (.a e 2 n λ_ j=>.v<|(([Value.bool false,Value.slice none 0 0]:List Value)[j]?).getD undef)<|.a e 2 n<|aX K c:=by refine jY λi hi j hj B w v hv=>?_;unfold aX;rw [h i hi];match j,hj with|0,_=>exact hv|1,_=>exact SG K (λ_=>none) B w v hv
def aee(hK:K<=L)(e:z=y):∀q,q<2->∀B w v,fP B w (((zn K z)[q]?).getD<|.v undef) v->fP B w (((zn L y)[q]?).getD<|.v undef) v:=by subst e;intro q hq B w v hv;match q,hq with|0,_=>exact hv|1,_=>exact lW hK _ _ _ hv
def OM{e:TypeId}(hK:K<=L)(hM:M<=L)(hz:z=d i)(h:∀p,p<n->p≠i->c p=d p):AO.le (.a e 2 n λp q=>if p=i then((zn M z)[q]?).getD (.v undef) else aX K c p q)<|.a e 2 n<|aX L d:=by refine jY λp hp q hq B w v hv=>?_;by_cases hpi:p=i;subst hpi;rw [if_pos O] at hv;exact aee hM hz q hq _ _ _ hv;rw [if_neg hpi] at hv;unfold aX;exact aee hK ψ q hq _ _ _ hv
def fx(n:Nat)(f:Nat->Bool×List Nat)(k:Nat):Bool×List Nat:=if k<n then f k else(false,[])
def ajk{f:Nat->Bool×List Nat}(hf:∀i,i<n->fzv f i=c i)(hz:∀i,n<=i->c i=0):zv (fx n f k).1 (val (fx n f k).2)=c k:=by unfold fx;by_cases h:k<n;rw [if_pos h];exact hf k h;rw [if_neg h];exact(hz k Z).symm
def ai8{α:Type}[DecidableEq α][OfNat α 0]{c:Nat->α}(h:dg c n=dg c k)(hk:k≠0)(h0:c (k-1)=0):dg c n=dg c (k-1):=by obtain⟨j,rfl⟩:=Nat.exists_eq_succ_of_ne_zero hk;rw [h];exact Zu h0
def amB(n m:Nat):(if(true=true) then(if(m:Int) > (n:Int) then(m:Int) else(n:Int)) else(if(m:Int)<(n:Int) then(m:Int) else(n:Int)))=((max n m:Nat):Int):=by grind
def azx(n:Nat)(c:Nat->Int):Lf:=.a 1 n λi _=> vI<|c i
def IsI(l:Lf)(n:Nat)(c:Nat->Int):Prop:=(∀B w v,fP B w l v->fP B w (azx n c) v)/\∀i,n<=i->c i=0
def lst(l:List Int):Nat->Int:=λi=>l.getD i 0
def ZY{l:List Int}(hn:l.length=n)(h:∀i,i<n->el i 0= vI (lst l i)):IsI (.a 1 n el) n<|lst l:=by refine⟨jZ λi hi j hj B w v hv=>?_,λi hi=>?_⟩;simp_all;unfold lst;rw [List.getD_eq_getElem?_getD,List.getElem?_eq_none Z];rfl
def agj:AV.le (.d<|.o<|.v<|.slice none 0 0)<|.d<|.o<|bP K 0 c:=by refine eY ?_;rintro B w v ⟨rfl,_⟩;exact ao1
def F5{α:Type}[DecidableEq α][OfNat α 0]{c:Nat->α}(h:∀i,c i=0):∀n,dg c n=0
 |0=>rfl
 |n+1=>by rw [Zu<|h n];exact F5 h n
def LU{α:Type}[DecidableEq α][OfNat α 0]{c:Nat->α}(hz:∀i,n<=i->c i=0)(h:dg c n=0):∀i,c i=0:=λi=>jG hz i Z
def rc(c:Nat->Int):Nat->Rat:=λi=>((c i:Int):Rat)
def xR(h:∀i,n<=i->c i=0):∀i,n<=i->rc c i=0:=λi hi=>by unfold rc;simp_all
def Gi(a b:Nat->Rat):Nat->Rat:=λi=>a i+b i
def yA(a:Nat->Rat)(q:Rat):Nat->Rat:=λi=>a i*q
def ZL{a:Nat->Rat}(h:∀i,n<=i->a i=0):∀i,n<=i->yA a q i=0:=λi hi=>by unfold yA;simp_all
def kT(a b:Nat->Int):Nat->Int:=λi=>a i+b i
def lJ(a b:Nat->Int):Nat->Int:=λi=>a i-b i
def jX(a:Nat->Int):Nat->Int:=λi=> -a i
def iJ(a:Nat->Int)(q:Int):Nat->Int:=λi=>a i*q
def bQ(a:Nat->Int):Nat->Int:=λi=>a (i+1)*((i+1:Nat):Int)
def Rh(h:∀i,n<=i->a i=0)(k:∀i,m<=i->b i=0):∀i,max n m<=i->kT a b i=0:=λi hi=>by unfold kT;grind
def Ir(h:∀i,n<=i->a i=0)(k:∀i,m<=i->b i=0):∀i,max n m<=i->lJ a b i=0:=λi hi=>by unfold lJ;grind
def XP(h:∀i,n<=i->a i=0):∀i,n<=i->jX a i=0:=λi hi=>by unfold jX;simp_all
def pI{q:Int}(h:∀i,n<=i->a i=0):∀i,n<=i->iJ a q i=0:=λi hi=>by unfold iJ;simp_all
def vT(h:∀i,n<=i->a i=0):∀i,n-1<=i->bQ a i=0:=λi hi=>by unfold bQ;simp_all
def EJ:∀{m:Nat},(∀i,i<m->i<=j->a i*b (j-i)=0)->cv a b m j=0
 |0,_=>rfl
 |m+1,h=>by
  show cv a b m j+_=0
  rw [EJ ψ];simp_all
def QT{a b:Nat->Rat}:∀{m:Nat},(∀i,i<m->i<=j->a i*b (j-i)=0)->cv a b m j=0
 |0,_=>rfl
 |m+1,h=>by
  show cv a b m j+_=0
  rw [QT ψ];grind
def Zm(ha:∀i,n<=i->a i=0):∀d,cv a b (n+d) j=cv a b n j
 |0=>rfl
 |d+1=>by
  show cv a b (n+d) j+(if n+d<=j then a (n+d)*b (j-(n+d)) else 0)=_
  rw [Zm ha d,ha (n+d) Z];omega
def U5{a b:Nat->Rat}(ha:∀i,n<=i->a i=0):∀d,cv a b (n+d) j=cv a b n j
 |0=>rfl
 |d+1=>by
  show cv a b (n+d) j+(if n+d<=j then a (n+d)*b (j-(n+d)) else 0)=_
  rw [U5 ha d,ha (n+d) Z];grind
def Zn:∀d,cv a b (j+1+d) j=cv a b (j+1) j
 |0=>rfl
 |d+1=>by
  show cv a b (j+1+d) j+(if j+1+d<=j then a (j+1+d)*b (j-(j+1+d)) else 0)=_
  rw [Zn d,if_neg Z];simp
def U6{a b:Nat->Rat}:∀d,cv a b (j+1+d) j=cv a b (j+1) j
 |0=>rfl
 |d+1=>by
  show cv a b (j+1+d) j+(if j+1+d<=j then a (j+1+d)*b (j-(j+1+d)) else 0)=_
  rw [U6 d,if_neg Z];grind
def Zl(ha:∀i,n<=i->a i=0):cv a b n j=bW a b j:=by unfold bW;rw [<-Zm ha (j+1),<-Zn (a:=a) (b:=b) (j:=j) n,Nat.add_comm]
def aeB{a b:Nat->Rat}(ha:∀i,n<=i->a i=0):cv a b n j=bW a b j:=by unfold bW;rw [<-U5 ha (j+1),<-U6 (a:=a) (b:=b) (j:=j) n,Nat.add_comm]
def ql(ha:∀i,n<=i->a i=0)(hb:∀i,m<=i->b i=0)(h:n+m<=j+1):bW a b j=0:=by refine EJ λi _ hi=>?_;grind
def FU{a b:Nat->Rat}(ha:∀i,n<=i->a i=0)(hb:∀i,m<=i->b i=0)(h:n+m<=j+1):bW a b j=0:=by refine QT λi _ hi=>?_;grind
def gJ(h:∀i,n<=i->a i=0)(k:∀i,m<=i->b i=0):∀i,n+m<=i->bW a b i=0:=λi hi=>ql h k Z
def U3{a b:Nat->Rat}(h:∀i,n<=i->a i=0)(k:∀i,m<=i->b i=0):∀i,n+m<=i->bW a b i=0:=λi hi=>FU h k Z
def Zk:∀m,cv (λi=>((a i:Int):Rat)) (λi=>((b i:Int):Rat)) m j=((cv a b m j:Int):Rat)
 |0=>rfl
 |m+1=>by
  show cv _ _ m j+_=(((cv a b m j+_:Int)):Rat)
  rw [Zk m,Rat.intCast_add];split
  ·simp_all
  ·rfl
def XC(a b:Nat->Int)(i k:Nat):Nat->Int:=λj=>cv a b i j+(if i<=j/\j<i+k then a i*b (j-i) else 0)
def aeG:XC a b i 0 j=cv a b i j:=by unfold XC;omega
def ai3(hb:∀k,m<=k->b k=0):XC a b i m j=cv a b (i+1) j:=by show _=cv a b i j+_;unfold XC;grind
def aeF:XC a b i k (i+k)+a i*b k=XC a b i (k+1) (i+k):=by unfold XC;simp_all
def abA(h:j≠i+k):XC a b i k j=XC a b i (k+1) j:=by unfold XC;omega
def wV(h:∀i,a i=0)(j:Nat):bW a b j=0:=EJ λi _ _=>by simp_all
def ai2(h:∀i,b i=0)(j:Nat):bW a b j=0:=EJ λi _ _=>by simp_all
def II(h:n=0):AV.le (.d<|.o<|.v<|.slice none 0 0)<|.d<|.o<|bP K n c:=by subst h;exact agj
def avc{l:List Int}:∀i,l.length<=i->lst l i=0:=λi hi=>by unfold lst;rw [List.getD_eq_getElem?_getD,List.getElem?_eq_none hi];rfl
def yU(x y:Int):Nat->Int:=λi=>if i=0 then x else if i=1 then y else 0
def dV(z:Int):Nat->Int:=λi=>if i=0 then z else 0
def afO:∀i,2<=i->yU x y i=0:=λi hi=>by unfold yU;omega
def oH:∀i,1<=i->dV z i=0:=λi hi=>if_neg Z
def del(xs:List Nat):Nat->Nat->Lf:=λi _=> vI ((xs.getD i 0:Nat):Int)
def zh(h:N<=9223372036854775808):(cO N).length<=5:=BK ψ
def O7{R:Nat}(hR:0<R)(h:ds++cO R=cO N):(ds++[R%B4])++cO (R/B4)=cO N:=by rw [<-h,Ij<|show R≠0 by omega,List.append_assoc];rfl
def U9{R:Nat}(hR:¬0<R)(h:ds++cO R=cO N):ds=cO N:=by obtain rfl:R=0:=Z;rw [<-h,show cO 0=[] from O,List.append_nil]
def Zo{e:TypeId}{x:Nat}{el2:Nat->Nat->Lf}(hm:m=ds.length+1)(h0:el2 0 0= vI (x:Int):=by rfl):AO.le (.a e 1 (ds.length+1)<|fA ds.length (del ds) el2)<|.a e 1 m<|del<|ds++[x]:=by refine an6 hm (λi hi j hj B w v hv=>?_) (λj hj B w v hv=>?_);unfold del at *;rw [List.getD_eq_getElem?_getD,List.getElem?_append_left hi,<-List.getD_eq_getElem?_getD];exact hv;obtain rfl:j=0:=Z;rw [h0] at hv;unfold del;rw [List.getD_eq_getElem?_getD,List.getElem?_append_right<|Nat.le_refl _,Nat.sub_self];exact hv
def ZX(hn:xs.length=n)(hx:xs=cO N)(hK:n<=K):IsD (.a 1 n<|del xs) K N:=by rintro B w c ⟨a,cap,rfl,h1,h2,h3⟩;subst hn;unfold dn;rw [<-hx];refine aoi ⟨O,h1,h2,by rw [hx];exact yu N,?_⟩ hK (λx hx' hne hb=>?_);rcases acT xs.length with h0|h0;have:xs=[]:=acO h0;rw [this];exact Or.inl O;obtain⟨b,off,rfl,_,_,_⟩:=h3 0 h0;refine Or.inr ⟨b,off,O,λj hj=>?_⟩;have hj':j<xs.length:=aEh;have⟨b',off',he',_,_,h4⟩:=h3 j hj';cases he';have⟨x,hx1,hx2⟩:=h4 0 Z;exact arA;have⟨b,off,he',hb',_,_⟩:=h3 0 ψ;grind
def aeM:(cO m).length=1/\(cO m).getD 0 0=1↔m=1:=by constructor;(rintro⟨h1,h2⟩;have h3:=iG m;match h:cO m,h1 with|[x],_=>exact azN);rintro rfl;rw [Ij φ];exact ayE
def aqs(hd:y∣x):zv (decide (x<0) !=decide (y<0)) (x.natAbs/y.natAbs)=x/y:=by obtain⟨q,rfl⟩:=hd;rcases agD y 0 with hy|rfl|hy;rw [Int.natAbs_mul,Nat.mul_div_cancel_left _ Z,Int.mul_ediv_cancel_left _ Z];rcases agD q 0 with hq|rfl|hq;have:=Int.mul_pos_of_neg_of_neg hy hq;simp [zv,hy,show ¬y*q<0 from by omega];omega;simp [zv];have:=Int.mul_neg_of_neg_of_pos hy hq;simp [zv,hy,this];omega;simp [zv];rw [Int.natAbs_mul,Nat.mul_div_cancel_left _ Z,Int.mul_ediv_cancel_left _ Z];rcases agD q 0 with hq|rfl|hq;have:=Int.mul_neg_of_pos_of_neg hy hq;simp [zv,show ¬y<0 from by omega,this];omega;simp [zv];have:=Int.mul_pos hy hq;simp [zv,show ¬y<0 from by omega,show ¬y*q<0 from by omega];omega
def I8(ls:List Lf)(K:Nat)(n d:Int):Prop:=∃s xs t ys,(∀B w cs,jg B w ls cs->jg B w ([.v<|.bool s,lr K xs]++[.v<|.bool t,lr K ys]) cs)/\zv s (val xs)=n/\zv t (val ys)=d
def tn(K:Nat)(q:Rat):List Lf:=zn K q.num++zn K (q.den:Int)
def BI(x y:Rat):Int:=l9 (x.num*y.den)<|y.num*x.den
def fU(n d:Int):Rat:=Rat.divInt n (if d=0 then 1 else d)
def uT{n d:Int}(h:0<d):(Rat.divInt n d).num=n/((Nat.gcd n.natAbs d.natAbs:Nat):Int)/\((Rat.divInt n d).den:Int)=d/((Nat.gcd n.natAbs d.natAbs:Nat):Int):=by obtain⟨k,rfl⟩:=Int.eq_ofNat_of_zero_le<|Int.le_of_lt h;have hk:k≠0:=Z;rw [Rat.divInt_ofNat,<-Rat.normalize_eq_mkRat hk,Rat.normalize_eq hk];simp_all
def GL(n:Int):(Rat.divInt n 1).num=n/\((Rat.divInt n 1).den:Int)=1:=by have h:=uT (n:=n) (d:=1) φ;simp_all
def rM(n d:Int):((Nat.gcd n.natAbs d.natAbs:Nat):Int)∣n:=Int.dvd_natAbs.1<|Int.natCast_dvd_natCast.2<|Nat.gcd_dvd_left _ _
def rO(n d:Int):((Nat.gcd n.natAbs d.natAbs:Nat):Int)∣d:=Int.dvd_natAbs.1<|Int.natCast_dvd_natCast.2<|Nat.gcd_dvd_right _ _
def rP{n d:Int}(h:d≠0):((Nat.gcd n.natAbs d.natAbs:Nat):Int)≠0:=by simp_all
def rG(a:Rat):(a.den:Int)≠0:=by have:=a.den_nz;omega
def lK{n d:Int}(h:d≠0):fU n d=Rat.divInt n d:=by unfold fU;simp_all
def aat(a b:Rat):fU (a.num*b.den+b.num*a.den) (a.den*b.den)=a+b:=by rw [lK<|Int.mul_ne_zero (rG a)<|rG b,<-Rat.divInt_add_divInt _ _ (rG a) (rG b),Rat.num_divInt_den,Rat.num_divInt_den]
def qJ(n:Int):fU n 1=(n:Rat):=by rw [lK φ];exact Rat.ext (by rw [(GL n).1,Rat.num_intCast]) (by have:=(GL n).2;rw [Rat.den_intCast];omega)
def anR{n:Int}(h1: -9223372036854775808<=n:=by decide)(h2:n<=9223372036854775807:=by decide):aH prog 67 [.o<|vI n]<|.d<|.j<|rn 64 n:=by
 refine aN 26 [.cell 2 43] func67 O<|cR<|mO O<|I<|au<|cR<|mE 2 O<|I<|bI O (λhc1=>?_) (λhc1=>?_)
 ·refine au ?_;have hn:n= -9223372036854775808:=eq_of_beq hc1;subst hn;exact aA<|mY ar9 O<|mY (Lp O) O<|mZ O<|I<|aQ<|tR<|rQ O<|VA φ φ
 ·refine aO<|tN<|au ?_;have hn:n≠-9223372036854775808:=λe=>aFK;have hN:n.natAbs<=9223372036854775808:=Z;refine aA<|mE 3 O<|I<|au<|cR<|mW O<|I<|bI O (λhc2=>?_) (λhc2=>?_)
  ·refine aA<|mW O<|mV aj (dI (n.natAbs:Int)) (fK<|show IntKind.i64.wrap (0-n)=_ from by have h0:=abd hc2;rw [fH];omega)<|mW O<|I<|cR<|mW O<|I<|au<|aK<|AW.wk (nS 4 4 3 1 (λ_ _=>.v undef) O O)<|dL (ι:=List Nat×Nat) (λ(p:List Nat×Nat)=>match p with|(ds,R)=>⟨26,[(0,dI (R:Int)),(3,.d (.o (.v (.bool (decide (n<0)))))),(2,.p 2 0),(4,.q 4)],[(2,.b 43 ([.v aAy,.v (.bool false)])),(4,.a 3 1 ds.length (del ds))]⟩) (λ(ds,R)=>ds++cO R=cO n.natAbs/\R<=9223372036854775808-1) (λ(ds,R)=>R) ([],n.natAbs) (⟨O,by omega⟩) (wkv [0] [1] ⟨dW O (aJ (O)),Pe⟩ aCU O O) ?_;rintro⟨ds,R⟩⟨hd,hR9⟩;show AW _ _ _ ⟨_,_,_⟩
   refine au<|cR<|mE 2 O<|I<|bI O (λhc3=>?_) (λhc3=>?_)
   ·refine aO<|tN<|aK<|au ?_;have hR:0<R:=aFA;have hlen:ds.length<=5:=aE4;exact aA<|mE 3 O<|mB aj _ O<|mA aj (id:=4) O O O aFX Z O O O O O O O O O O<|mW O<|I<|aA<|mE 3 O<|ak<|bN<|⟨((ds++[R%10000]),(R/10000)),⟨O7 hR hd,by omega⟩,by show R/10000<R;omega,wkv [0] [1] aDn ⟨eG O (Zo aCY),Pe⟩ O O⟩
   ·refine bZ<|tE<|tE<|bE<|tN<|au ?_;have hde:ds=cO n.natAbs:=U9 (by have h0:=aa1 hc3;omega) hd;exact aro
  ·refine aO<|tN<|cR<|mW O<|I<|au<|aK<|AW.wk (nS 4 4 3 1 (λ_ _=>.v undef) O O)<|dL (ι:=List Nat×Nat) (λ(p:List Nat×Nat)=>match p with|(ds,R)=>⟨26,[(0,dI (R:Int)),(3,.d<|.o<|.v<|.bool<|decide<|n<0),(2,.p 2 0),(4,.q 4)],[(2,.b 43<|[.v aAy,.v<|.bool false]),(4,.a 3 1 ds.length<|del ds)]⟩) (λ(ds,R)=>ds++cO R=cO n.natAbs/\R<=9223372036854775808-1) (λ(ds,R)=>R) ([],n.natAbs) (⟨O,by omega⟩) (wkv [0] [1] ⟨dW O<|aJ aDo,Pe⟩ aCU O O) ?_;rintro⟨ds,R⟩⟨hd,hR9⟩;show AW _ _ _ ⟨_,_,_⟩
   refine au<|cR<|mE 2 O<|I<|bI O (λhc4=>?_) (λhc4=>?_)
   ·refine aO<|tN<|aK<|au ?_;have hR:0<R:=aEy;have hlen:ds.length<=5:=aE4;exact aA<|mE 3 O<|mB aj _ O<|mA aj (id:=4) O O O aFX Z O O O O O O O O O O<|mW O<|I<|aA<|mE 3 O<|ak<|bN<|⟨((ds++[R%10000]),(R/10000)),⟨O7 hR hd,by omega⟩,by show R/10000<R;omega,wkv [0] [1] aDn ⟨eG O (Zo aCY),Pe⟩ O O⟩
   ·refine bZ<|tE<|tE<|bE<|tN<|au ?_;have hde:ds=cO n.natAbs:=U9 (by have h0:=aa1 hc4;omega) hd;exact aro
def Ak{a b:List Lf}(ha:IsR a K x)(hb:IsR b L y)(hy:y≠0)(hd:y∣x)(hM:K<=M:=by first|decide|omega)(hK:K<=100000000:=by first|decide|omega)(hL:L<=100000000:=by first|decide|omega):aH prog 149 [.j a,.j b]<|.d<|.j<|rn M<|x/y:=by exact aH.le (dl (DV.g ha)<|dl (DV.g hb) iR) AV.le.rfl<|aN 22 [.cell 4 43] func149 O<|cR<|mO O<|mO O<|mO O<|I<|cR<|mE 4 O<|mY (alF (isd K x.natAbs) (isd L y.natAbs) Z) O<|mE 5 O<|I<|cR<|mE 6 O<|mY (Lp O) O<|mZ O<|I<|aQ<|rQ O<|VA hM<|aqs hd
def OQ{a b:List Lf}(ha:IsR a K x)(hb:IsR b L y)(hM:max K L<=M:=by first|decide|omega)(Ej:M<=100000000:=by first|decide|omega):aH prog 148 [.j a,.j b]<|.d<|.j<|rn M ((Nat.gcd x.natAbs y.natAbs:Nat):Int):=by
 refine aH.le aFw AV.le.rfl<|aN 26 [.cell 4 43] func148 O<|cR<|mO O<|mO O<|mO O<|I<|au<|cDk 6<|oE 6 O<|.nil<|I<|au<|aK<|dL (ι:=Nat×Nat) (λ(p:Nat×Nat)=>match p with|(u,v)=>⟨26,[(4,.p 4 0),(5,.d<|.o<|dn M u),(6,.d<|.o<|dn M v)],[(4,.b 43<|[.v aAy,.v<|.bool false])]⟩) (λ(u,v)=>Nat.gcd u v=Nat.gcd x.natAbs y.natAbs) (λ(u,v)=>v) (x.natAbs,y.natAbs) (O) (wkv [1,2] [] ⟨dW O<|eY<|F8<|acL (amm K L) hM,dW O<|eY<|F8<|acL (alr K L) hM,Pe⟩ trivial O O) ?_;rintro⟨u,v⟩ hI;have hg:Nat.gcd u v=Nat.gcd x.natAbs y.natAbs:=hI;show AW _ _ _ ⟨_,_,_⟩
 refine au<|cR<|mE 3 O<|I<|bI O (λhc1=>?_) (λhc1=>?_)
 ·refine aO<|tN<|aK<|au ?_;have hy0:0<v:=by rcases acT v with e|e;exact absurd (abd hc1) (by rw [e];decide);exact e
  exact aA<|mE 2 O<|mY (alF (isd M u) (isd M v) hy0) O<|mE 5 O<|I<|aA<|mE 4 O<|ak<|bN<|⟨(v,(u%v)),by show Nat.gcd v (u%v)=_;rw [<-hg,Nat.gcd_comm u v,Nat.gcd_rec v u,Nat.gcd_comm],by show u%v<v;exact acP _ hy0,wkr O O⟩
 ·refine bZ<|tE<|tE<|bE<|tN<|au ?_;have hy0:v=0:=by have h0:=aa1 hc1;have h1:=LV v;omega
  have hu:u=Nat.gcd x.natAbs y.natAbs:=by rw [<-hg,hy0,Nat.gcd_zero_right]
  exact aA<|mE 2 O<|mZ O<|I<|aQ<|rQ O (Na aCY<|by rw [hu];rfl)
def anQ{a b:List Lf}{n d:Int}(ha:IsR a K n)(hb:IsR b L d)(hM:max K (max L 64)<=M:=by decide)(Ej:M<=100000000:=by decide):aH prog 66 [.j a,.j b] (.d (.j (qn M (fU n d)))):=by refine aH.le aFw AV.le.rfl<|aN 39 [.cell 4 45] func66 O<|cR<|mO O<|mO O<|mO O<|I<|au<|cR<|mW O<|mY (anS (xJ L d)) O<|I<|bI O (λhc1=>?_) (λhc1=>?_);refine aA<|mY anR O<|mZ O<|I<|au<|au ?_;have hd0:d=0:=abd hc1;refine aA<|mE 2 O<|I<|cFs O<|au<|au ?_;by_cases hl1:(cO (Int.natAbs 1)).length=1;refine aA<|mE 3 O<|mbT O aF8<|mE 3 O<|jL 21 (.d (.o (.a 1 ((cO (Int.natAbs 1)).length) (λi _=> vI (((cO (Int.natAbs 1)).getD i 0:Nat):Int))))) O (RY _ _)<|mV aj (.d (.o (.at 1 ((λi _=> vI (((cO (Int.natAbs 1)).getD i 0:Nat):Int)) 0)))) (jh (el:=(λi _=> vI (((cO (Int.natAbs 1)).getD i 0:Nat):Int))) (z:=0) O O O O O O φ (by rw [hl1];decide)) ?_;refine mE 3 O<|I<|bI O (λhc2=>?_) (λhc2=>?_);refine cR<|mE 3 O<|mZ O<|I<|aQ<|tR ?_;have hq:fU n d=Rat.divInt n 1:=aFj;have h1:(1:Int)=1:=(by have h0:=aeM.1 ⟨hl1,Int.ofNat_inj.1 (eq_of_beq hc2)⟩;omega);exact ark;refine aO<|tN<|au ?_;have hD:(0:Int)<1:=Z;refine aA<|mE 2 O<|mY (OQ aG1 (xJ 64 1) (M:=(max K 64))) O<|mO O<|mZ O<|I<|au<|cDk 7<|oE 2 O<|oC (Ak aG1 aDd (rP Z) (rM _ _) (M:=K)) O<|oE 2 O<|oC (Ak (xJ 64 1) aDd (rP Z) (rO _ _) (M:=64)) O<|oV O<|.nil<|mZ O<|I<|aQ ?_;have hq:fU n d=Rat.divInt n 1:=aFj;exact auU;refine aA<|mE 3 O<|mbF O (acz.2 λe=>hl1 aFh)<|mW O<|mG O O<|mG O O<|mG O O<|mG O O<|mG O O<|mW O<|I<|cFs O<|au ?_;have hD:(0:Int)<1:=Z;refine aA<|mE 2 O<|mY (OQ aG1 (xJ 64 1) (M:=(max K 64))) O<|mO O<|mZ O<|I<|au<|cDk 7<|oE 2 O<|oC (Ak aG1 aDd (rP Z) (rM _ _) (M:=K)) O<|oE 2 O<|oC (Ak (xJ 64 1) aDd (rP Z) (rO _ _) (M:=64)) O<|oV O<|.nil<|mZ O<|I<|aQ ?_;have hq:fU n d=Rat.divInt n 1:=aFj;exact auU;refine aO<|tN<|au<|au ?_;have hd0:d≠0:=aa1 hc1;refine aA<|mE 2 O<|I<|bI O (λhc3=>?_) (λhc3=>?_);have hdn:d<0:=abd hc3;refine cDk 4<|oV O<|oC (alI aG1 (M:=K)) O<|oV O<|oC (alI (xJ L d) (M:=L)) O<|.nil<|mZ O<|mZ O<|I<|au<|au ?_;by_cases hl1:(cO (Int.natAbs (-d))).length=1;refine aA<|mE 3 O<|mbT O aF8<|mE 3 O<|jL 21 (.d (.o (.a 1 ((cO (Int.natAbs (-d))).length) (λi _=> vI (((cO (Int.natAbs (-d))).getD i 0:Nat):Int))))) O (RY _ _)<|mV aj (.d (.o (.at 1 ((λi _=> vI (((cO (Int.natAbs (-d))).getD i 0:Nat):Int)) 0)))) (jh (el:=(λi _=> vI (((cO (Int.natAbs (-d))).getD i 0:Nat):Int))) (z:=0) O O O O O O φ (by rw [hl1];decide)) ?_;refine mE 3 O<|I<|bI O (λhc4=>?_) (λhc4=>?_);refine cR<|mE 3 O<|mZ O<|I<|aQ<|tR ?_;have hq:fU n d=Rat.divInt (-n) (-d):=aEM;have h1:((-d):Int)=1:=(by have h0:=aeM.1 ⟨hl1,Int.ofNat_inj.1 (eq_of_beq hc4)⟩;omega);have hq1:fU n d=Rat.divInt (-n) 1:=hq.trans (ah9 (Rat.divInt (-n)) h1);have⟨e1,e2⟩:=GL (-n);exact rQ O (zO Z Z (by rw [hq1];exact e1.symm) (by rw [hq1];exact h1.trans e2.symm));refine aO<|tN<|au ?_;have hD:(0:Int)<(-d):=Z;refine aA<|mE 2 O<|mY aGS O<|mO O<|mZ O<|I<|au<|cDk 7<|oE 2 O<|oC (Ak (xJ K (-n)) aC5 (rP Z) (rM _ _) (M:=K)) O<|oE 2 O<|oC (Ak (xJ L (-d)) aC5 (rP Z) (rO _ _) (M:=L)) O<|oV O<|.nil<|mZ O<|I<|aQ ?_;have hq:fU n d=Rat.divInt (-n) (-d):=aEM;exact atD;refine aA<|mE 3 O<|mbF O (acz.2 λe=>hl1 aFh)<|mW O<|mG O O<|mG O O<|mG O O<|mG O O<|mG O O<|mW O<|I<|cFs O<|au ?_;have hD:(0:Int)<(-d):=Z;refine aA<|mE 2 O<|mY aGS O<|mO O<|mZ O<|I<|au<|cDk 7<|oE 2 O<|oC (Ak (xJ K (-n)) aC5 (rP Z) (rM _ _) (M:=K)) O<|oE 2 O<|oC (Ak (xJ L (-d)) aC5 (rP Z) (rO _ _) (M:=L)) O<|oV O<|.nil<|mZ O<|I<|aQ ?_;have hq:fU n d=Rat.divInt (-n) (-d):=aEM;exact atD;refine aO<|tN<|au<|au ?_;have hdp:0<d:=(by have h0:=aa1 hc3;omega);by_cases hl1:(cO d.natAbs).length=1;refine aA<|mE 3 O<|mbT O aF8<|mE 3 O<|jL 21 (.d (.o (.a 1 ((cO d.natAbs).length) (λi _=> vI (((cO d.natAbs).getD i 0:Nat):Int))))) O (RY _ _)<|mV aj (.d (.o (.at 1 ((λi _=> vI (((cO d.natAbs).getD i 0:Nat):Int)) 0)))) (jh (el:=(λi _=> vI (((cO d.natAbs).getD i 0:Nat):Int))) (z:=0) O O O O O O φ (by rw [hl1];decide)) ?_;refine mE 3 O<|I<|bI O (λhc5=>?_) (λhc5=>?_);refine cR<|mE 3 O<|mZ O<|I<|aQ<|tR ?_;have hq:fU n d=Rat.divInt n d:=lK hd0;have h1:(d:Int)=1:=(by have h0:=aeM.1 ⟨hl1,Int.ofNat_inj.1 (eq_of_beq hc5)⟩;omega);exact ark;refine aO<|tN<|au ?_;have hD:(0:Int)<d:=Z;refine aA<|mE 2 O<|mY (OQ aG1 (xJ L d) (M:=(max K L))) O<|mO O<|mZ O<|I<|au<|cDk 7<|oE 2 O<|oC (Ak aG1 aDf (rP Z) (rM _ _) (M:=K)) O<|oE 2 O<|oC (Ak (xJ L d) aDf (rP Z) (rO _ _) (M:=L)) O<|oV O<|.nil<|mZ O<|I<|aQ ?_;exact arH;refine aA<|mE 3 O<|mbF O (acz.2 λe=>hl1 aFh)<|mW O<|mG O O<|mG O O<|mG O O<|mG O O<|mG O O<|mW O<|I<|cFs O<|au ?_;have hD:(0:Int)<d:=Z;refine aA<|mE 2 O<|mY (OQ aG1 (xJ L d) (M:=(max K L))) O<|mO O<|mZ O<|I<|au<|cDk 7<|oE 2 O<|oC (Ak aG1 aDf (rP Z) (rM _ _) (M:=K)) O<|oE 2 O<|oC (Ak (xJ L d) aDf (rP Z) (rO _ _) (M:=L)) O<|oV O<|.nil<|mZ O<|I<|aQ ?_;exact arH
def asj{n d:Int}(h1: -9223372036854775808<=n:=by first|decide|omega)(h2:n<=9223372036854775807:=by first|decide|omega)(h3: -9223372036854775808<=d:=by first|decide|omega)(h4:d<=9223372036854775807:=by first|decide|omega):aH prog 11 [.o<|vI n,.o<|vI d]<|.d<|.j<|qn 64<|fU n d:=by exact aN 10 [.cell 4 45] func11 O<|cR<|mO O<|I<|cR<|mW O<|mY (anR h1 h2) O<|mW O<|mY (anR h3 h4) O<|mY (anQ (xJ 64 n) (xJ 64 d) (M:=64)) O<|mZ O<|I<|aQ<|rQ O aCo
def asi{n:Int}(h1: -9223372036854775808<=n:=by decide)(h2:n<=9223372036854775807:=by decide):aH prog 11 [.o<|vI n,.o<|vI 1]<|.d<|.j<|qn 64 (n:Rat):=by have h:=asj (d:=1) h1 h2 φ φ;rw [qJ] at h;exact h
abbrev aBu(k:Nat):=dI ((k-1:Nat):Int)
def YU(hn:n<=1000000:=by omega):aH prog 199 [.o<|bP K n c]<|.d<|.o<|bP K (dg c n) c:=by refine aN 21 [.tmp 2] func199 O<|cR<|mW O<|I<|cR<|mE 3 O<|I<|au<|aK<|dL (ι:=Nat) (λk=>⟨21,[(0,.d<|.o<|.a 2 n<|aX K c),(3,dI (k:Int))],[]⟩) (λk=>k<=n/\dg c n=dg c k) (λk=>k) n (⟨aav _,O⟩) aDU ?_;rintro k hI;obtain⟨hkn,hk⟩:k<=n/\dg c n=dg c k:=hI;refine au<|au ?_;by_cases hk0:k=0;refine aA<|mW O<|mdF O Z<|mW O<|mG O O<|mG O O<|mG O O<|mG O O<|mG O O<|mG O O<|mW O<|I<|cF O<|bZ<|tE<|tE<|bE<|tN<|au ?_;have hd:k=dg c n:=(by rw [hk,hk0];rfl);exact arw;refine aA<|mW O<|mdT O Z<|mE 3 O<|mV aj (aBu k) aCm<|mV aj _ (xjh O O O O O O Z)<|mW O<|mY (Je<|isn K<|c<|k-1) O<|mW O<|I<|bI O (λhc1=>?_) (λhc1=>?_);refine aO<|tN<|aK ?_;have hc0:c (k-1)=0:=abd hc1;exact aA<|mW O<|mV aj (aBu k) aCm<|mW O<|ak<|bN<|⟨(k-1),⟨by omega,ai8 hk hk0 hc0⟩,by omega,wkr O O⟩;refine bZ<|tE<|tE<|bE<|tN<|au ?_;have hd:k=dg c n:=(by rw [hk];exact(Du<|Or.inr λe=>aa1 hc1 e).symm);exact arw
def upd(c:Nat->Int)(i:Nat):Nat->Int:=λp=>if p<i then c p else 0
def C9:c i=upd c (i+1) i:=(if_pos<|af7 i).symm
def Ob{p:Nat}(h:p≠i):upd c i p=upd c (i+1) p:=by unfold upd;omega
def aoz{f:Nat->Bool×List Nat}(h:k<n):fx n f k=f k:=if_pos h
def aoy{f:Nat->Bool×List Nat}(h:¬k<n):fx n f k=(false,[]):=if_neg h
def apX:AV.le (.d<|.j [.v<|.bool false,.v<|.slice none 0 0])<|.d<|.j [.v<|.bool false,lr K []]:=lV λB w cs h=>match cs,h with|[_,_],⟨h1,h2,h3⟩=>⟨h1,SG K (λ_=>none) B w _ h2,h3⟩
abbrev aBr(k:Nat):=vI (k:Int)
def aiu{f:Nat->Bool×List Nat}:aH prog 318 [.o<|oz K n f,.o<|aBr k]<|.d<|.j [.v<|.bool (fx n f k).1,lr K (fx n f k).2]:=by refine aN 14 [.cell 4 35] func318 O<|cR<|mO O<|I<|au<|cR<|mE 4 O<|I<|bI O (λhc1=>?_) (λhc1=>?_);refine au ?_;have hkn:k<n:=aCb;refine aA<|mE 2 O<|mV aj _ (xjh O O O O O O Z)<|mW O<|mZ O<|I<|aQ<|tR<|rQ O (by rw [aoz<|by have h0:=of_decide_eq_true hc1;omega];exact AV.le.rfl);exact aO<|tN<|cR<|mW O<|mZ O<|I<|aQ<|rQ O (by rw [aoy aGk];exact apX)
def UD{f:FuncId}{nc:Nat}{caps:Nat->Lf}(hf:∀i,i<n->aH prog f (.o (vI (i:Int))::LJ caps 0 nc) (.d<|.j<|zn K<|c i))(hn:n<=1000000:=by first|decide|omega):aH prog 249 [.o<|vI (n:Int),.o<|.fn f nc caps]<|.d<|.o<|bP K (dg c n) c:=by refine aN 23 [.tmp 4] func249 O<|cR<|mW O<|I<|cR<|mW O<|mN aj (.a 35 2 n<|λ_ j=>.v<|(([Value.bool false,Value.slice none 0 0]:List Value)[j]?).getD undef) aCE O O<|mW O<|I<|au<|cR<|mE 3 O<|I<|aK<|dL (ι:=Nat) (λi=>⟨23,[(1,.d<|.o<|.fn f nc caps),(10,dI (n:Int)),(11,dI (i:Int)),(5,.q 8)],[(8,.a 35 2 n<|aX K<|upd c i)]⟩) (λi=>i<=n) (λi=>n-i) 0 (abJ _) (wkv [] [0] trivial aDm O O) ?_;rintro i hi;refine cR<|mW O<|I<|au<|bI O (λhc1=>?_) (λhc1=>?_);refine aO<|tN<|au<|aK<|cR<|mE 2 O<|I ?_;have hin:i<n:=aCb;exact aA<|mE 4 O<|mC (hf i hin) O O O<|mV aj _ (xJo O O O O O O O Z)<|mZ O<|ak<|bN<|tN<|aA<|mE 2 O<|ak<|⟨(i+1),by omega,by omega,wkv [2] [0] aCf aDY O O⟩;refine bZ<|tE<|tE<|bE<|tN<|au ?_;have hie:n=i:=aCi;subst hie;exact AW.wk (iY 8 O)<|fQ 5 (.d<|.o<|.a 2 n<|aX K c) O aE0<|aA<|mW O<|mY YU O<|mW O<|I<|aQ<|rQ O aCo
abbrev aB2(n K:Nat)(fa:Nat->Bool×List Nat):List Lf:=[.a 2 n (o7 K fa)]
def anG{fb:Nat->Bool×List Nat}(ea:∀i,i<n->fzv fa i=c i)(za:∀i,n<=i->c i=0)(eb:∀i,i<m->fzv fb i=d i)(zb:∀i,m<=i->d i=0)(hM:max K L+1<=M)(Ej:M<=1000000000):aH prog 325 [.o<|aBr k,.o<|.at 1<|λq=>((aB2 n K fa)[0+q]?).getD<|.v undef,.o<|.at 1<|λq=>(([.a 2 m<|o7 L fb]:List Lf)[0+q]?).getD<|.v undef]<|.d<|.j<|zn M<|kT c d k:=by exact aN 12 [.cell 4 35] func325 O<|cR<|mO O<|I<|au<|cDk 7<|oE 2 O<|oC aiu O<|oE 2 O<|oC aiu O<|oC (abl ⟨_,_,λ_ _ _ h=>h,ajk ea za⟩ ⟨_,_,λ_ _ _ h=>h,ajk eb zb⟩ (M:=(max K L+1)) Z Z Z) O<|.nil<|mZ O<|I<|aQ<|rQ O<|kX hM O
def ady{a b:Lf}(ha:kW a K n c)(hb:kW b L m d)(hM:max K L+1<=M:=by first|decide|omega)(hn:max n m<=1000000:=by first|decide|omega)(Ej:M<=1000000000:=by first|decide|omega):aH prog 301 [.o a,.o b]<|.d<|.o<|bP M (dg (kT c d)<|max n m)<|kT c d:=by have⟨⟨fa,ha,ea⟩,za⟩:=ha;have⟨⟨fb,hb,eb⟩,zb⟩:=hb;exact aH.le (dl (DV.l ha)<|dl (DV.l hb) iR) AV.le.rfl<|aN 12 [.tmp 4] func301 O<|cR<|mO O<|mO O<|mW O<|I<|au<|AW.wk (AB 2 O)<|AW.wk (AB 3 O)<|aA<|mE 4 O<|mV aj (dI ((max n m:Nat):Int)) (fK<|amB n m)<|mW O<|mY (UD (c:=(kT c d))<|λi hi=>anG ea za eb zb hM Ej) O<|mW O<|I<|aQ<|rQ O<|AV.le.rfl
def anL{fb:Nat->Bool×List Nat}(ea:∀i,i<n->fzv fa i=c i)(za:∀i,n<=i->c i=0)(eb:∀i,i<m->fzv fb i=d i)(zb:∀i,m<=i->d i=0)(hM:max K L+1<=M)(Ej:M<=1000000000):aH prog 316 [.o<|aBr k,.o<|.at 1<|λq=>((aB2 n K fa)[0+q]?).getD<|.v undef,.o<|.at 1<|λq=>(([.a 2 m<|o7 L fb]:List Lf)[0+q]?).getD<|.v undef]<|.d<|.j<|zn M<|lJ c d k:=by exact aN 12 [.cell 4 35] func316 O<|cR<|mO O<|I<|au<|cDk 7<|oE 2 O<|oC aiu O<|oE 2 O<|oC aiu O<|oC (asx ⟨_,_,λ_ _ _ h=>h,ajk ea za⟩ ⟨_,_,λ_ _ _ h=>h,ajk eb zb⟩ (M:=(max K L+1)) Z Z Z) O<|.nil<|mZ O<|I<|aQ<|rQ O<|kX hM O
def YW{a b:Lf}(ha:kW a K n c)(hb:kW b L m d)(hM:max K L+1<=M:=by first|decide|omega)(hn:max n m<=1000000:=by first|decide|omega)(Ej:M<=1000000000:=by first|decide|omega):aH prog 294 [.o a,.o b]<|.d<|.o<|bP M (dg (lJ c d)<|max n m)<|lJ c d:=by have⟨⟨fa,ha,ea⟩,za⟩:=ha;have⟨⟨fb,hb,eb⟩,zb⟩:=hb;exact aH.le (dl (DV.l ha)<|dl (DV.l hb) iR) AV.le.rfl<|aN 12 [.tmp 4] func294 O<|cR<|mO O<|mO O<|mW O<|I<|au<|AW.wk (AB 2 O)<|AW.wk (AB 3 O)<|aA<|mE 4 O<|mV aj (dI ((max n m:Nat):Int)) (fK<|amB n m)<|mW O<|mY (UD (c:=(lJ c d))<|λi hi=>anL ea za eb zb hM Ej) O<|mW O<|I<|aQ<|rQ O<|AV.le.rfl
def anI(ea:∀i,i<n->fzv fa i=c i)(hk:k<n)(hK:K<=1000000000):aH prog 252 [.o<|aBr k,.o<|.at 1<|λq=>((aB2 n K fa)[0+q]?).getD<|.v undef]<|.d<|.j<|zn K<|jX c k:=by refine aN 9 [.cell 3 35] func252 O<|cR<|mO O<|I<|cR<|mE 2 O<|mV aj _ (xjh O O O O O O Z)<|mW O<|mY (UF ⟨_,_,λ_ _ _ h=>h,ea k Z⟩ Z) O<|mZ O<|I<|aQ<|rQ O<|kX (aav _) O
def adA{a:Lf}(ha:kW a K n c)(hn:n<=1000000:=by first|decide|omega)(hK:K<=1000000000:=by first|decide|omega):aH prog 177 [.o a]<|.d<|.o<|bP K (dg (jX c)<|n)<|jX c:=by have⟨⟨fa,ha,ea⟩,za⟩:=ha;exact aH.le aDT AV.le.rfl<|aN 7 [.tmp 2] func177 O<|cR<|mO O<|mW O<|I<|au<|AW.wk (AB 1 O)<|aA<|mE 3 O<|mY (UD (c:=(jX c))<|λi hi=>anI ea hi hK) O<|mW O<|I<|aQ<|rQ O aCo
def adB(ea:∀i,i<n->fzv fa i=c i){s:Bool}(hy:zv s (val xs)=y)(hk:k<n)(hM:K+L<=M)(Ej:M<=1000000000):aH prog 319 [.o<|aBr k,.o<|.at 1<|λq=>((aB2 n K fa)[0+q]?).getD<|.v undef,.o<|.at 2<|λq=>(([.v<|.bool s,lr L xs]:List Lf)[0+q]?).getD<|.v undef]<|.d<|.j<|zn M<|iJ c y k:=by refine aN 11 [.cell 4 35] func319 O<|cR<|mO O<|I<|au<|cDk 6<|oE 2 O<|oV (xjh O O O O O O Z)<|oE 2 O<|oC (Ll ⟨_,_,λ_ _ _ h=>h,ea k Z⟩ ⟨_,_,λ_ _ _ h=>h,hy⟩ (M:=(K+L)) Z Z Z) O<|.nil<|mZ O<|I<|aQ<|rQ O<|kX hM O
def FC{a:Lf}{b:List Lf}(ha:kW a K n c)(hb:Bg b L y)(hM:K+L<=M:=by first|decide|omega)(hn:n<=1000000:=by first|decide|omega)(Ej:M<=1000000000:=by first|decide|omega):aH prog 295 [.o a,.j b]<|.d<|.o<|bP M (dg (iJ c y)<|n)<|iJ c y:=by have⟨⟨fa,ha,ea⟩,za⟩:=ha;have⟨s,xs,hb,hy⟩:=hb;exact aH.le (dl (DV.l ha) aER) AV.le.rfl<|aN 9 [.tmp 4] func295 O<|cR<|mO O<|mO O<|mW O<|I<|au<|AW.wk (AB 2 O)<|AW.wk (AB 3 O)<|aA<|mE 3 O<|mY (UD (c:=(iJ c y))<|λi hi=>adB ea hy hi hM Ej) O<|mW O<|I<|aQ<|rQ O aCo
def anH(ea:∀i,i<n->fzv fa i=c i)(hk:k+1<n)(hn:n<=1000000)(hM:K+2<=M)(Ej:M<=1000000000):aH prog 250 [.o<|aBr k,.o<|.at 1<|λq=>((aB2 n K fa)[0+q]?).getD<|.v undef]<|.d<|.j<|zn M<|bQ c k:=by refine aN 13 [.cell 3 35] func250 O<|cR<|mO O<|I<|au<|cDk 9<|oE 2 O<|xIo O Z<|oV (xjh O O O O O O Z)<|oE 2 O<|xIo O Z<|oC aOf O<|oC (Ll ⟨_,_,λ_ _ _ h=>h,ea (k+1) Z⟩ (jT 2 ((k+1:Nat):Int)) (M:=(K+2)) Z Z φ) O<|.nil<|mZ O<|I<|aQ<|rQ O<|kX hM O
abbrev aB5(n:Nat):=dI ((n:Int)-1)
def UH{a:Lf}(ha:kW a K n c)(hM:K+2<=M:=by first|decide|omega)(hn:n<=1000000:=by first|decide|omega)(Ej:M<=1000000000:=by first|decide|omega):aH prog 175 [.o a]<|.d<|.o<|bP M (dg (bQ c)<|n-1)<|bQ c:=by have⟨⟨fa,ha,ea⟩,za⟩:=ha;refine aH.le aDT AV.le.rfl<|aN 9 [.tmp 2] func175 O<|cR<|mO O<|mW O<|I<|au<|AW.wk (AB 1 O)<|aA<|mE 2 O<|mV aj (aB5 n) aCZ<|mV aj (dI ((n-1:Nat):Int)) aED ?_;exact mW O<|mY (UD (c:=(bQ c))<|λi hi=>anH ea Z hn hM Ej) O<|mW O<|I<|aQ<|rQ O aCo
def kP{a:Lf}(ha:kW a K n c)(hn:n<=1000000:=by first|decide|omega)(hK:K<=1000000000:=by first|decide|omega):aH prog 101 [.o a]<|.d<|.o<|bP K (dg c<|n) c:=by have⟨⟨fa,ha,ea⟩,za⟩:=ha;refine aH.le aDT AV.le.rfl<|aN 24 [.tmp 2] func101 O<|cR<|mW O<|I<|cR<|mE 2 O<|mN aj (.a 35 2 n<|λ_ j=>.v<|(([Value.bool false,Value.slice none 0 0]:List Value)[j]?).getD undef) aCE O O<|mW O<|I<|au<|cR<|mE 3 O<|I<|aK<|dL (ι:=Nat) (λi=>⟨24,[(9,.d<|.o<|.a 2 n<|o7 K fa),(10,dI (n:Int)),(11,dI (i:Int)),(3,.q 8)],[(8,.a 35 2 n<|aX K<|upd c i)]⟩) (λi=>i<=n) (λi=>n-i) 0 (abJ _) (wkv [] [0] trivial aDm O O) ?_;rintro i hi;refine cR<|mW O<|I<|au<|bI O (λhc1=>?_) (λhc1=>?_);refine aO<|tN<|au<|aK<|au ?_;have hin:i<n:=aCb;refine aA<|mW O<|mV aj _ (xjh O O O O O O Z)<|mW O<|mO O<|mW O<|mZ O<|I<|aA<|mE 3 O<|mY (Aj ⟨_,_,λ_ _ _ h=>h,ea i Z⟩ Z) O<|mV aj _ (xJo O O O O O O O Z)<|mZ O<|ak<|bN<|tN<|aA<|mE 2 O<|ak<|⟨(i+1),by omega,by omega,wkv [2] [0] aCf aDY O O⟩;refine bZ<|tE<|tE<|bE<|tN<|au ?_;have hie:n=i:=aCi;subst hie;exact AW.wk (iY 8 O)<|fQ 3 (.d<|.o<|.a 2 n<|aX K c) O aE0<|aA<|mW O<|mY YU O<|mW O<|I<|aQ<|rQ O aCo
def aix{a:Lf}(ha:IsI a n c)(hb:∀i,i<n->-9223372036854775808<=c i/\c i<=9223372036854775807)(hn:n<=1000000:=by first|decide|omega):aH prog 129 [.o a]<|.d<|.o<|bP 2 (dg c<|n) c:=by have⟨ha,za⟩:=ha;refine aH.le aDT AV.le.rfl<|aN 24 [.tmp 2] func129 O<|cR<|mW O<|I<|cR<|mE 2 O<|mN aj (.a 35 2 n<|λ_ j=>.v<|(([Value.bool false,Value.slice none 0 0]:List Value)[j]?).getD undef) aCE O O<|mW O<|I<|au<|cR<|mE 3 O<|I<|aK<|dL (ι:=Nat) (λi=>⟨24,[(9,.d<|.o<|.a 1 n<|λi _=> vI<|c i),(10,dI (n:Int)),(11,dI (i:Int)),(3,.q 8)],[(8,.a 35 2 n<|aX 2<|upd c i)]⟩) (λi=>i<=n) (λi=>n-i) 0 (abJ _) (wkv [] [0] trivial aDm O O) ?_;rintro i hi;refine cR<|mW O<|I<|au<|bI O (λhc1=>?_) (λhc1=>?_);refine aO<|tN<|au<|aK<|au ?_;have hin:i<n:=aCb;refine aA<|mW O<|mV aj _ (xjh O O O O O O Z)<|mE 3 O<|I<|aA<|mE 3 O<|mY (aOf (hb i hin).1 (hb i hin).2) O<|mV aj _ (xJo O O O O O O O Z)<|mZ O<|ak<|bN<|tN<|aA<|mE 2 O<|ak<|⟨(i+1),by omega,by omega,wkv [2] [0] aCf aDY O O⟩;refine bZ<|tE<|tE<|bE<|tN<|au ?_;have hie:n=i:=aCi;subst hie;exact AW.wk (iY 8 O)<|fQ 3 (.d<|.o<|.a 2 n<|aX 2 c) O aE0<|aA<|mW O<|mY YU O<|mW O<|I<|aQ<|rQ O aCo
def UJ{a b:Lf}{D:Nat}(ha:kW a K n c)(hb:kW b L m d)(hD:n<=D:=by omega)(hm:m<=1000:=by omega)(hM:K+L+1+D*1000<=M:=by first|decide|omega)(hDD:D<=1000:=by decide)(Ej:M<=1000000000:=by first|decide|omega):aH prog 198 [.o a,.o b]<|.d<|.o<|bP M (dg (bW c d)<|n+m)<|bW c d:=by have⟨⟨fa,ha,ea⟩,za⟩:=ha;have⟨⟨fb,hb,eb⟩,zb⟩:=hb;refine aH.le aDt AV.le.rfl<|aN 62 [.tmp 4] func198 O<|cR<|mW O<|I<|cR<|mW O<|mY aCG O<|mW O<|mY aDP O<|mE 2 O<|I<|au<|au ?_;have hla:=ny c n;have hlb:=ny d m;by_cases h0a:(dg c n)=0;exact aA<|mE 2 O<|mbT O (by rw [h0a];rfl)<|mW O<|mG O O<|mG O O<|mG O O<|mW O<|I<|cT O<|cR<|mW O<|I<|aQ<|tR<|rQ O<|II<|F5 (wV<|LU za h0a) _;by_cases h0b:(dg d m)=0;exact aA<|mE 2 O<|mbF O (acz.2 λe=>h0a Z)<|mE 3 O<|mbT O (by rw [h0b];rfl)<|mW O<|I<|cT O<|cR<|mW O<|I<|aQ<|tR<|rQ O<|II<|F5 (ai2<|LU zb h0b) _;refine aA<|mE 2 O<|mbF O (acz.2 λe=>h0a Z)<|mE 3 O<|mbF O (acz.2 λe=>h0b Z)<|mW O<|I<|cFs O<|cR<|mE 4 O<|mV aj (dI ((dg c n+dg d m:Nat):Int)) aCm<|mV aj (dI ((dg c n+dg d m-1:Nat):Int)) aCm<|mN aj (.a 35 2 (dg c n+dg d m-1)<|λ_ j=>.v<|(([Value.bool false,Value.slice none 0 0]:List Value)[j]?).getD undef) (mkO (zl:=((dg c n+dg d m-1:Nat):Int)) (zc:=((dg c n+dg d m-1:Nat):Int)) (bts:=32) O O O O O Z Z O O O Z Z O) O O<|mW O<|I<|au<|cR<|mE 3 O<|I<|aK<|dL (ι:=Nat) (λi=>⟨62,[(1,.d<|.o<|.a 2 (dg d m)<|aX L d),(5,.q 28),(29,.d<|.o<|.a 2 (dg c n)<|aX K c),(30,dI ((dg c n:Nat):Int)),(31,dI (i:Int))],[(28,.a 35 2 (dg c n+dg d m-1)<|aX (K+L+1+i*1000)<|cv c d i)]⟩) (λi=>i<=dg c n) (λi=>dg c n-i) 0 (abJ _) (wkv [] [0] trivial ⟨eG O aGL,Pe⟩ O O) ?_;rintro i hi;refine cR<|mW O<|I<|au<|bI O (λhc1=>?_) (λhc1=>?_);refine aO<|tN<|au<|aK<|au ?_;have hia:i<dg c n:=aCb;refine aA<|mW O<|mV aj _ (xjh O O O O O O Z)<|mW O<|mO O<|mW O<|mZ O<|I<|cR<|mE 3 O<|I<|aK<|dL (ι:=Nat) (λk=>⟨62,[(1,.d<|.o<|.a 2 (dg d m)<|aX L d),(5,.q 28),(29,.d<|.o<|.a 2 (dg c n)<|aX K c),(30,dI ((dg c n:Nat):Int)),(31,dI (i:Int)),(6,dI (i:Int)),(7,.p 7 0),(36,.d<|.o<|.a 2 (dg d m)<|aX L d),(37,dI ((dg d m:Nat):Int)),(38,dI (k:Int))],[(7,.b 35<|zn K<|c i),(28,.a 35 2 (dg c n+dg d m-1)<|aX (K+L+1+i*1000+k)<|XC c d i k)]⟩) (λk=>k<=dg d m) (λk=>dg d m-k) 0 (abJ _) (wkv [] [1] trivial ⟨eG O<|VI Z<|λj _=>aeG.symm,Pe⟩ O O) ?_;rintro k hk;refine cR<|mW O<|I<|au<|bI O (λhc2=>?_) (λhc2=>?_);refine aO<|tN<|au<|aK<|au ?_;have hkb:k<dg d m:=aC6;refine aA<|mW O<|mV aj _ (xjh O O O O O O Z)<|mW O<|mO O<|mW O<|mZ O<|I<|cDk 15<|oE 3 O<|.cons (aC.V (dI ((i+k:Nat):Int)) aCm)<|oE 3 O<|.cons (aC.V (dI ((i+k:Nat):Int)) aCm)<|oV (xJo O O O O O O O Z)<|oE 3 O<|oC (Ll (jT K<|c i) (jT L<|d k) (M:=(K+L))) O<|oC (abl (jT (K+L+1+i*1000+k)<|XC c d i k<|i+k) (jT (K+L)<|(c i)*(d k)) (M:=(max (K+L+1+i*1000+k) (K+L)+1))) O<|oV (xJo O O O O O O O Z)<|.nil<|mZ O<|ak<|bN<|tN<|aA<|mE 2 O<|ak<|⟨(k+1),by omega,by omega,wkv [9] [1] aCf ⟨eG O<|OM Z Z aeF<|λp _ hp=>abA hp,Pe⟩ O O⟩;refine bZ<|tE<|tE<|bE<|bN<|tN ?_;have hke:dg d m=k:=aDo;subst hke;exact aA<|mE 2 O<|ak<|⟨(i+1),by omega,by omega,wkv [4] [0] aCf ⟨eG O<|VI Z<|λj _=>ai3<|jG zb,Pe⟩ O O⟩;refine bZ<|tE<|tE<|bE<|tN<|au ?_;have hie:dg c n=i:=aCi;subst hie;exact AW.wk (iY 28 O)<|fQ 5 (.d<|.o<|.a 2 (dg c n+dg d m-1)<|aX M<|bW c d) O (eY<|qM Z<|λj _=>Zl<|jG za)<|aA<|mW O<|mY YU O<|mW O<|I<|aQ<|rQ O (nZ (aav _) (Ed (λj hj=>ql (jG za) (jG zb) Z)<|λj hj=>ql za zb Z)<|λ_ _=>rfl)
def aoe(hb:∀i,2<=i->b i=0):∀m,m+1<=j->cv a b m j=0:=λm hm=>EJ λi hi hij=>by grind
def U2:∀j,bW a (yU x y) j=a j*x+(if j=0 then 0 else a (j-1)*y)
 |0=>by
  show cv a (yU x y) 0 0+(if 0<=0 then a 0*yU x y (0-0) else 0)=_
  rw [if_pos Z,if_pos O];show 0+a 0*x=a 0*x+0
  omega
 |j+1=>by
  show(cv a (yU x y) j (j+1)+(if j<=j+1 then a j*yU x y (j+1-j) else 0))+(if j+1<=j+1 then a (j+1)*yU x y (j+1-(j+1)) else 0)=_
  rw [aoe afO j Z,if_pos Z,if_pos Z,if_neg Z,Nat.sub_self,show j+1-j=1 by omega,Nat.add_sub_cancel];show(0+a j*y)+a (j+1)*x=a (j+1)*x+a j*y
  omega
def KD(hy:¬y=0):fU x y*(y:Rat)=(x:Rat):=by rw [<-qJ y,<-qJ x,lK hy,lK φ,lK φ,Rat.divInt_mul_divInt,Int.mul_one,Int.mul_comm x y];have h:=Rat.divInt_mul_left (n:=x) (d:=1) hy;simp_all
def FM(y:Int):∀s:Nat,((y^s:Int):Rat)=(y:Rat)^s
 |0=>rfl
 |s+1=>by simp_all
def xK(K:Nat)(q:Rat):I8 (tn K q) K q.num q.den:=⟨decide<|q.num<0,dS q.num.natAbs,decide<|(q.den:Int)<0,dS<|Int.natAbs (q.den:Int),λ_ _ _ h=>h,by rw [eF];exact qA _,by rw [eF];rfl⟩
def Ub(h:K<=L):∀B w cs,jg B w (tn K q) cs->jg B w (tn L q) cs
 |B,w,[a,b,c,d],⟨h1,h2,h3,h4,h5⟩=>⟨h1,lW h _ _ _ h2,h3,lW h _ _ _ h4,h5⟩
def Nb{z y:Rat}(h:K<=L)(e:z=y):AV.le (.d<|.j<|tn K z)<|.d<|.j<|tn L y:=by subst e;exact lV<|Ub h
def Nc{n d:Int}(h1:K<=M)(h2:L<=M)(e1:n=q.num)(e2:d=q.den):AV.le (.d<|.j<|zn K n++zn L d)<|.d<|.j<|tn M q:=by subst e1;subst e2;refine lV λB w cs h=>?_;match cs,h with|[a,b,c,d],⟨h1',h2',h3',h4',h5'⟩=>exact⟨h1',lW h1 _ _ _ h2',h3',lW h2 _ _ _ h4',h5'⟩
def auZ{s t:Bool}{ys:List Nat}(hx:zv s (val xs)=x)(hy:zv t (val ys)=y)(h0:el 0 0=.v (.bool s):=by rfl)(h1:el 0 1=lr K xs:=by rfl)(h2:el 1 0=.v (.bool t):=by rfl)(h3:el 1 1=lr L ys:=by rfl):kW (.a 2 2 el) (max K L) 2<|yU x y:=by
 refine⟨⟨λi=>if i=0 then(s,xs) else(t,ys),jZ λi hi j hj B w v hv=>?_,λi hi=>?_⟩,afO⟩
 ·match i,hi,j,hj with
  |0,_,0,_=>rw [h0] at hv;exact hv
  |0,_,1,_=>rw [h1] at hv;exact lW Z _ _ _ hv
  |1,_,0,_=>rw [h2] at hv;exact hv
  |1,_,1,_=>rw [h3] at hv;exact lW Z _ _ _ hv
 ·match i,hi with
  |0,_=>exact hx
  |1,_=>exact hy
def BQ:dM (yU x y) 2=Nat.gcd x.natAbs y.natAbs:=by show Nat.gcd (Nat.gcd 0 x.natAbs) y.natAbs=_;simp_all
def VT{n d:Int}(h:0<d):(Rat.divInt n d).num=n/((dM (yU n d) 2:Nat):Int)/\((Rat.divInt n d).den:Int)=d/((dM (yU n d) 2:Nat):Int):=by rw [BQ];exact uT h
def VR{n d:Int}(h:d<0):(Rat.divInt n d).num= -n/((dM (yU n d) 2:Nat):Int)/\((Rat.divInt n d).den:Int)= -d/((dM (yU n d) 2:Nat):Int):=by have h1:=uT (n:= -n) (d:= -d) Z;rw [Rat.neg_divInt_neg,Int.natAbs_neg,Int.natAbs_neg] at h1;rw [BQ];omega
def ajm{n d:Int}(h:d≠0):((dM (yU n d) 2:Nat):Int)≠0:=by rw [BQ];exact rP h
def g_l(n d:Int):((dM (yU n d) 2:Nat):Int)∣n:=by rw [BQ];exact rM n d
def g_r(n d:Int):((dM (yU n d) 2:Nat):Int)∣d:=by rw [BQ];exact rO n d
def af9(n:Int):fU n 0=Rat.divInt n 1:=by rfl
def kU(q:Rat):fU q.num (q.den:Int)=q:=by rw [lK<|rG q,Rat.num_divInt_den]
def Za{a b:Rat}(h:a=b):BI a b=0:=by subst h;unfold BI l9;simp
def QS{x y:Rat}(h:x<y):BI x y= -1:=by have:=(Rat.lt_iff x y).1 h;unfold BI l9;omega
def Dl{x y:Rat}(h:y<x):BI x y=1:=by have:=(Rat.lt_iff y x).1 h;unfold BI l9;omega
def aqt(x y:Rat):x<y\/x=y\/y<x:=by grind
def Ig(x y:Rat):(x<y/\BI x y= -1)\/(x=y/\BI x y=0)\/(y<x/\BI x y=1):=by rcases aqt x y with h|h|h;exact Or.inl ⟨h,QS h⟩;exact Or.inr<|Or.inl ⟨h,Za h⟩;exact Or.inr<|Or.inr ⟨h,Dl h⟩
def iH{x y:Rat}:BI x y<=0↔x<=y:=by exact aq5
def wU{x y:Rat}:BI x y>=0↔y<=x:=by exact aq5
def vw{x y:Rat}:BI x y=0↔x=y:=by exact aq5
def aj9(P Q:Rat):Rat.divInt (P.num*Q.den+Q.num*P.den) (P.den*Q.den*2)=(P+Q)/2:=by
 have h1:=aat P Q;rw [lK<|Int.mul_ne_zero (rG P)<|rG Q] at h1;have h2:Rat.divInt 1 2=(1:Rat)/2:=by decide +kernel
 rw [<-Int.mul_one (P.num*Q.den+Q.num*P.den),<-Rat.divInt_mul_divInt,h1,h2];grind
def UK{a b:List Lf}(ha:Bg a K x)(hb:Bg b L y)(hy:y≠0)(hM:max (max K L) 1+1<=M:=by first|decide|omega)(Ej:M<=100000000:=by first|decide|omega):aH prog 256 [.j a,.j b]<|.d<|.j<|tn M<|Rat.divInt x y:=by have⟨sa,xa,ha,ea⟩:=ha;have⟨sb,xb,hb,eb⟩:=hb;refine aH.le (dl (DV.z ha)<|dl (DV.z hb) iR) AV.le.rfl<|aN 31 [.cell 4 54] func256 O<|cR<|mO O<|mO O<|mO O<|I<|cR<|mE 2 O<|mB aj _ O<|mY (ain<|auZ ea eb) O<|mO O<|mZ O<|I<|au<|cR<|mE 2 O<|I<|bI O (λhc1=>?_) (λhc1=>?_);refine cDk 4<|oV O<|oC (UF ⟨sa,xa,λ_ _ _ h=>h,ea⟩ Z) O<|oV O<|oC (UF ⟨sb,xb,λ_ _ _ h=>h,eb⟩ Z) O<|.nil<|mZ O<|mZ O<|I<|au ?_;have hyn:y<0:=(by subst hc1;have h0: -(val xb:Int)=y:=eb;omega);exact aA<|mE 2 O<|mY (vK (jT K (-x)) (jT (max K L) ((dM (yU x y) 2):Int)) (ajm hy) (Int.dvd_neg.2<|g_l x y) (M:=(max K 1+1))) O<|mE 3 O<|mZ O<|I<|cR<|mE 2 O<|mY (vK (jT L (-y)) (jT (max K L) ((dM (yU x y) 2):Int)) (ajm hy) (Int.dvd_neg.2<|g_r x y) (M:=(max L 1+1))) O<|mE 3 O<|mZ O<|I<|cR<|mE 3 O<|mZ O<|I<|aQ<|rQ O<|Nc Z Z (VR hyn).1.symm (VR hyn).2.symm;refine aO<|tN<|au ?_;have hyn:0<y:=(by subst hc1;have h0:(val xb:Int)=y:=eb;omega);exact aA<|mE 2 O<|mY (vK ⟨sa,xa,λ_ _ _ h=>h,ea⟩ (jT (max K L) ((dM (yU x y) 2):Int)) (ajm hy) (g_l x y) (M:=(max K 1+1)) Z Z Z) O<|mE 3 O<|mZ O<|I<|cR<|mE 2 O<|mY (vK ⟨sb,xb,λ_ _ _ h=>h,eb⟩ (jT (max K L) ((dM (yU x y) 2):Int)) (ajm hy) (g_r x y) (M:=(max L 1+1)) Z Z Z) O<|mE 3 O<|mZ O<|I<|cR<|mE 3 O<|mZ O<|I<|aQ<|rQ O<|Nc Z Z (VT hyn).1.symm (VT hyn).2.symm
def Lu{a:List Lf}{n d:Int}(ha:I8 a K n d)(hM:max K 2+1<=M:=by first|decide|omega)(Ej:M<=100000000:=by first|decide|omega):aH prog 188 [.j a]<|.d<|.j<|tn M<|fU n d:=by have⟨s,xs,t,ys,ha,e1,e2⟩:=ha;refine aH.le (dl (DV.g ha) iR) AV.le.rfl<|aN 15 [.cell 2 54] func188 O<|cR<|mO O<|mO O<|I<|cR<|mE 2 O<|mY (Aj ⟨t,ys,λ_ _ _ h=>h,e2⟩ Z) O<|mO O<|mZ O<|I<|au<|cR<|mW O<|mY (Je<|isn K d) O<|I<|bI O (λhc1=>?_) (λhc1=>?_);exact aA<|mY aOf O<|mZ O<|I<|au<|cDk 5<|oE 2 O<|oC (Aj ⟨s,xs,λ_ _ _ h=>h,e1⟩ Z) O<|oV O<|oC (UK (jT K n) (jT 2 1) φ (M:=(max (max K 2) 1+1))) O<|.nil<|mZ O<|I<|aQ<|rQ O (Nb Z<|by rw [of_decide_eq_true hc1,af9]);exact aO<|tN<|au<|cDk 5<|oE 2 O<|oC (Aj ⟨s,xs,λ_ _ _ h=>h,e1⟩ Z) O<|oV O<|oC (UK (jT K n) (jT K d) (aa1 hc1) (M:=(max (max K K) 1+1))) O<|.nil<|mZ O<|I<|aQ<|rQ O<|Nb Z (lK<|aa1 hc1).symm
def anX{a b:List Lf}(ha:Bg a K x)(hb:Bg b L y)(hy:y≠0)(hM:max (max K L) 1+1<=M:=by decide)(Ej:M<=100000000:=by first|decide|omega):aH prog 184 [.j a,.j b]<|.dY [.j<|tn M<|Rat.divInt x y,.o<|vI 0]:=by have⟨sa,xa,ha,ea⟩:=ha;have⟨sb,xb,hb,eb⟩:=hb;exact aH.le (dl (DV.z ha)<|dl (DV.z hb) iR) AV.le.rfl<|aN 15 [.cell 4 54,.tmp 5] func184 O<|cR<|mO O<|mO O<|mO O<|mW O<|I<|au<|cR<|mW O<|mY (Aj ⟨sb,xb,λ_ _ _ h=>h,eb⟩ Z) O<|mZ O<|I<|cR<|mW O<|mY (Je<|isn L y) O<|I<|fQ 9 (.d<|.o<|.v<|.bool false) O (gG<|acS hy)<|cFs O<|au<|cDk 4<|oV O<|oC (Aj ⟨sa,xa,λ_ _ _ h=>h,ea⟩ Z) O<|oV O<|oC (UK (jT K x) (jT L y) hy (M:=(max (max K L) 1+1))) O<|.nil<|mZ O<|mW O<|I<|aQ<|rQ O<|jK<|dl (yx<|Nb hM O)<|dl DV.same iR
def asB{a:List Lf}(ha:Bg a K x)(hM:max K 2<=M:=by decide)(Ej:M<=100000000:=by decide):aH prog 58 [.j a]<|.d<|.j<|tn M (x:Rat):=by have⟨sa,xa,ha,ea⟩:=ha;exact aH.le (dl (DV.z ha) iR) AV.le.rfl<|aN 7 [.cell 2 54] func58 O<|cR<|mO O<|mO O<|I<|cR<|mW O<|mY (Aj ⟨sa,xa,λ_ _ _ h=>h,ea⟩ Z) O<|mY aOf O<|mW O<|mZ O<|I<|aQ<|rQ O (Nc Z Z (Rat.num_intCast x).symm<|by rw [Rat.den_intCast];rfl)
def akb(a b:Rat):Rat.divInt (a.num*b.den-b.num*a.den) (a.den*b.den)=a-b:=by have h:=aat a (-b);rw [lK<|Int.mul_ne_zero (rG a)<|rG (-b),Rat.neg_num,Rat.neg_den,Int.neg_mul,<-Int.sub_eq_add_neg,<-Rat.sub_eq_add_neg] at h;exact h
def af8(a b:Rat):(a.den:Int)*(b.den:Int)≠0:=ahU (rG a)<|rG b
def QA{a b:List Lf}{n d m e:Int}(ha:I8 a K n d)(hb:I8 b L m e)(hM:(max K 2+1)+(max L 2+1)<=M:=by first|decide|omega)(Ej:M<=100000000:=by first|decide|omega):aH prog 211 [.j a,.j b]<|.dY [.j<|zn M<|Rat.num (fU n d)*(Rat.den (fU m e):Int),.j<|zn M<|Rat.num (fU m e)*(Rat.den (fU n d):Int),.j<|zn M<|(Rat.den (fU n d):Int)*(Rat.den (fU m e):Int)]:=by have⟨s0,EC,t0,ys0,ha,e0,k0⟩:=ha;have⟨s1,xs1,t1,ys1,hb,e1,k1⟩:=hb;exact aH.le (dl (DV.g ha)<|dl (DV.g hb) iR) AV.le.rfl<|aN 26 [.cell 4 35,.cell 5 35,.cell 6 35] func211 O<|cR<|mO O<|mO O<|mO O<|mO O<|mO O<|I<|au<|cDk 4<|oV O<|oC (Lu (⟨s0,EC,t0,ys0,λ_ _ _ h=>h,e0,k0⟩:I8 ([.v<|.bool s0,lr K EC]++[.v<|.bool t0,lr K ys0]) K n d) (M:=(max K 2+1))) O<|oV O<|oC (Lu (⟨s1,xs1,t1,ys1,λ_ _ _ h=>h,e1,k1⟩:I8 ([.v<|.bool s1,lr L xs1]++[.v<|.bool t1,lr L ys1]) L m e) (M:=(max L 2+1))) O<|.nil<|mZ O<|mZ O<|I<|au<|cDk 15<|oE 4 O<|oC (Ll (jT (max K 2+1)<|Rat.num<|fU n d) (jT (max L 2+1) (Rat.den (fU m e):Int)) (M:=((max K 2+1)+(max L 2+1)))) O<|oE 4 O<|oC (Ll (jT (max L 2+1)<|Rat.num<|fU m e) (jT (max K 2+1) (Rat.den (fU n d):Int)) (M:=((max L 2+1)+(max K 2+1)))) O<|oE 4 O<|oC (Ll (jT (max K 2+1) (Rat.den (fU n d):Int)) (jT (max L 2+1) (Rat.den (fU m e):Int)) (M:=((max K 2+1)+(max L 2+1)))) O<|.nil<|mZ O<|mZ O<|mZ O<|I<|aQ<|rQ O<|jK<|dl (yx<|kX Z O)<|dl (yx<|kX Z O)<|dl (yx<|kX Z O) iR
def asA{a b:List Lf}{n d m e:Int}(ha:I8 a K n d)(hb:I8 b L m e)(hK:K<=10000000:=by decide)(hL:L<=10000000:=by decide):aH prog 121 [.j a,.j b]<|dI<|BI (fU n d)<|fU m e:=by have⟨s0,EC,t0,ys0,ha,e0,k0⟩:=ha;have⟨s1,xs1,t1,ys1,hb,e1,k1⟩:=hb;exact aH.le aFw AV.le.rfl<|aN 18 [.tmp 4] func121 O<|cR<|mO O<|mO O<|mW O<|I<|cR<|mE 2 O<|mY (QA (⟨s0,EC,t0,ys0,λ_ _ _ h=>h,e0,k0⟩:I8 ([.v<|.bool s0,lr K EC]++[.v<|.bool t0,lr K ys0]) K n d) (⟨s1,xs1,t1,ys1,λ_ _ _ h=>h,e1,k1⟩:I8 ([.v<|.bool s1,lr L xs1]++[.v<|.bool t1,lr L ys1]) L m e) (M:=((max K 2+1)+(max L 2+1)))) O<|mE 4 O<|mO O<|mO O<|mO O<|mZ O<|mZ O<|mZ O<|I<|cR<|mE 2 O<|mY (Xq (jT ((max K 2+1)+(max L 2+1))<|Rat.num (fU n d)*(Rat.den (fU m e):Int))<|jT ((max K 2+1)+(max L 2+1))<|Rat.num (fU m e)*(Rat.den (fU n d):Int)) O<|mW O<|I<|aQ<|rQ O<|AV.le.rfl
def asG{a b:List Lf}{n d m e:Int}(ha:I8 a K n d)(hb:I8 b L m e)(hM:(max K 2+1)+(max L 2+1)+2<=M:=by decide)(Ej:M<=100000000:=by decide):aH prog 309 [.j a,.j b]<|.d<|.j<|tn M<|(fU n d)-(fU m e):=by have⟨s0,EC,t0,ys0,ha,e0,k0⟩:=ha;have⟨s1,xs1,t1,ys1,hb,e1,k1⟩:=hb;exact aH.le (dl (DV.g ha)<|dl (DV.g hb) iR) AV.le.rfl<|aN 20 [.cell 4 54] func309 O<|cR<|mO O<|mO O<|mO O<|I<|cR<|mE 2 O<|mY (QA (⟨s0,EC,t0,ys0,λ_ _ _ h=>h,e0,k0⟩:I8 ([.v<|.bool s0,lr K EC]++[.v<|.bool t0,lr K ys0]) K n d) (⟨s1,xs1,t1,ys1,λ_ _ _ h=>h,e1,k1⟩:I8 ([.v<|.bool s1,lr L xs1]++[.v<|.bool t1,lr L ys1]) L m e) (M:=((max K 2+1)+(max L 2+1)))) O<|mE 4 O<|mO O<|mO O<|mO O<|mZ O<|mZ O<|mZ O<|I<|au<|cDk 5<|oE 2 O<|oC (asx (jT ((max K 2+1)+(max L 2+1))<|Rat.num (fU n d)*(Rat.den (fU m e):Int)) (jT ((max K 2+1)+(max L 2+1))<|Rat.num (fU m e)*(Rat.den (fU n d):Int)) (M:=(max ((max K 2+1)+(max L 2+1)) ((max K 2+1)+(max L 2+1))+1))) O<|oV O<|oC (UK (jT (max ((max K 2+1)+(max L 2+1)) ((max K 2+1)+(max L 2+1))+1)<|(Rat.num (fU n d)*(Rat.den (fU m e):Int))-(Rat.num (fU m e)*(Rat.den (fU n d):Int))) (jT ((max K 2+1)+(max L 2+1))<|(Rat.den (fU n d):Int)*(Rat.den (fU m e):Int)) (af8 (fU n d)<|fU m e) (M:=(max (max (max ((max K 2+1)+(max L 2+1)) ((max K 2+1)+(max L 2+1))+1)<|(max K 2+1)+(max L 2+1)) 1+1))) O<|.nil<|mZ O<|I<|aQ<|rQ O<|Nb Z<|akb (fU n d)<|fU m e
def alJ{a:List Lf}{n d:Int}(ha:I8 a K n d)(hM:max K 2+1<=M:=by first|decide|omega)(Ej:M<=100000000:=by first|decide|omega):aH prog 120 [.j a,.o<|.v aAy]<|.d<|.j<|tn M<|fU n d:=by have⟨s0,EC,t0,ys0,ha,e0,k0⟩:=ha;refine aH.le (dl (DV.g ha) aCJ) AV.le.rfl<|aN 24 [.cell 4 54] func120 O<|cR<|mO O<|mO O<|I<|cR<|mW O<|mY (Lu (⟨s0,EC,t0,ys0,λ_ _ _ h=>h,e0,k0⟩:I8 ([.v<|.bool s0,lr K EC]++[.v<|.bool t0,lr K ys0]) K n d) (M:=(max K 2+1))) O<|mO O<|mZ O<|I<|au<|cR<|mE 3 O<|I<|aK<|dL (ι:=Nat) (λu=>⟨24,[(4,.p 4 0),(5,.p 5 0),(11,dI 0),(12,dI 0)],[(4,.b 54<|[.v<|.bool false,.v aAy,.v<|.bool false,.v aAy]),(5,.b 54<|tn (max K 2+1)<|fU n d)]⟩) (λu=>True) (λu=>u) 0 (trivial) aDU ?_;rintro u hT0;exact cR<|mW O<|I<|au<|cF O<|bZ<|tE<|tE<|bE<|tN<|cR<|mW O<|mZ O<|I<|aQ<|rQ O<|Nb Z O
def anN{a:List Lf}{n d:Int}(ha:I8 a K n d)(hM:max K 2+1<=M:=by first|decide|omega)(Ej:M<=100000000:=by first|decide|omega):aH prog 207 [.j a]<|.d<|.j<|tn M<|fU n d:=by have⟨s0,EC,t0,ys0,ha,e0,k0⟩:=ha;exact aH.le (dl (DV.g ha) iR) AV.le.rfl<|aN 5 [.cell 2 54] func207 O<|cR<|mO O<|mO O<|I<|cR<|mW O<|mY (alJ (⟨s0,EC,t0,ys0,λ_ _ _ h=>h,e0,k0⟩:I8 ([.v<|.bool s0,lr K EC]++[.v<|.bool t0,lr K ys0]) K n d) (M:=(max K 2+1))) O<|mZ O<|I<|aQ<|rQ O<|Nb Z O
def akB(a b:Nat->Int)(j:Nat):bW (rc a) (rc b) j=rc (bW a b) j:=Zk _
def sm(f:Nat->Int):Nat->Int
 |0=>0
 |m+1=>sm f m+f m
def Hg{f g:Nat->Int}:∀{m:Nat},(∀i,i<m->f i=g i)->sm f m=sm g m
 |0,_=>rfl
 |m+1,h=>by show sm f m+f m=sm g m+g m;rw [Hg<|λi hi=>h i Z,h m Z]
def ahj{f g:Nat->Int}:∀m,sm (λi=>f i+g i) m=sm f m+sm g m
 |0=>rfl
 |m+1=>by show sm _ m+(f m+g m)=(sm f m+f m)+(sm g m+g m);rw [ahj m];omega
def WE{f:Nat->Int}:∀m,sm f (m+1)=f 0+sm (λi=>f<|i+1) m
 |0=>by show(0:Int)+f 0=f 0+0;omega
 |m+1=>by
  have h:=WE (f:=f) m;show sm f (m+1)+f (m+1)=f 0+(sm (λi=>f<|i+1) m+f (m+1))
  omega
def ahk{f:Nat->Int}:∀n,sm f (n+1)=sm (λi=>f<|n-i) (n+1)
 |0=>rfl
 |n+1=>by
  rw [WE (f:=λi=>f<|n+1-i)<|n+1];show sm f (n+1)+f (n+1)=f (n+1)+sm (λi=>f<|n+1-(i+1)) (n+1)
  rw [ahk n,Int.add_comm];simp_all
def alO:∀{m:Nat},m<=j+1->cv a b m j=sm (λi=>a i*b (j-i)) m
 |0,_=>rfl
 |m+1,h=>by
  show cv a b m j+(if m<=j then a m*b (j-m) else 0)=_
  rw [alO Z,if_pos Z];rfl
def FW(a b:Nat->Int)(j:Nat):bW a b j=sm (λi=>a i*b (j-i)) (j+1):=alO<|aav _
def Dt(a b:Nat->Int)(j:Nat):bW a b j=bW b a j:=by rw [FW,FW,ahk];exact Hg λi hi=>by grind
def aep(a b c:Nat->Int)(j:Nat):bW a (kT b c) j=kT (bW a b) (bW a c) j:=by show _=bW a b j+bW a c j;rw [FW,FW,FW,<-ahj];exact Hg λi _=>by show a i*(b (j-i)+c (j-i))=_;grind
def FX(ha:∀i,n<=i->a i=0)(hb:∀i,m<=i->b i=0)(hn:n≠0)(hm:m≠0):bW a b (n+m-2)=a (n-1)*b (m-1):=by obtain⟨n,rfl⟩:=Nat.exists_eq_succ_of_ne_zero hn;obtain⟨m,rfl⟩:=Nat.exists_eq_succ_of_ne_zero hm;rw [<-Zl ha];show cv a b n (n.succ+m.succ-2)+(if n<=n.succ+m.succ-2 then a n*b (n.succ+m.succ-2-n) else 0)=a n*b m;rw [EJ ψ,if_pos Z,show n.succ+m.succ-2-n=m by omega,Int.zero_add]
def Zq(hn:n≠0)(hm:m≠0)(ha:∀i,n<=i->a i=0)(hb:∀i,m<=i->b i=0)(ha0:a (n-1)≠0)(hb0:b (m-1)≠0){p:Nat}(hp:∀i,p<=i->bW a b i=0):dg (bW a b) p=n+m-1:=
 Zv Zr (jG hp) (Or.inr<|by rw [show n+m-1-1=n+m-2 by omega,FX ha hb hn hm];simp_all) (λi hi=>ql ha hb Z)
def apY(h:z=0):AV.le (.d<|.j [.v<|.bool false,.v<|.slice none 0 0])<|.d<|.j<|zn K z:=by subst h;exact lV λB w cs h=>Hz (abJ _) _ _ _<|ND h
def Ot(a:Nat->Int)(x y:Int)(top:Nat):Nat->Int
 |0=>0
 |s+1=>Ot a x y top s*x+a (top-1-s)*y^s
def vlQ(a:Nat->Rat)(q:Rat)(top:Nat):Nat->Rat
 |0=>0
 |s+1=>vlQ a q top s*q+a (top-1-s)
def VG{t:TypeId}:AO.le (.b t [.v<|.bool false,.v<|.slice none 0 0])<|.b t<|zn K 0:=xu λB w cs h=>Hz (abJ _) _ _ _<|ND h
def aiy{a:Lf}{b e:List Lf}{L1 L2 D:Nat}(ha:kW a K n c)(hb:Bg b L1 x)(hd:Bg e L2 y)(hn:n<=D)(hDD:D<=1000:=by decide)(hT:K+L1+L2+5<=T:=by decide)(hM:(D+1)*T<=M:=by decide)(Ej:M<=1000000000:=by decide):aH prog 208 [.o a,.j b,.j e]<|.d<|.j<|zn M<|Ot c x y n n:=by have⟨⟨fa,ha,ea⟩,za⟩:=ha;have⟨s1,xs1,hb,ex⟩:=hb;have⟨s2,xs2,hd,ey⟩:=hd;refine aH.le (dl (DV.l ha)<|dl (DV.z hb)<|dl (DV.z hd) iR) AV.le.rfl ?_;obtain⟨R,hR0,hR1,hRM⟩:∃R:Nat->Nat,2<=R 0/\(∀i,R i+T<=R (i+1))/\∀i,i<=D->R i<=M:=⟨λi=>(i+1)*T,by show 2<=(0+1)*T;omega,λi=>by show(i+1)*T+T<=(i+1+1)*T;rw [Nat.succ_mul<|i+1];exact aav _,λi hi=>acL (abh _ Z) hM⟩;have hT1:=hRM 0<|abJ _;have hTM:T<=M:=acL (ah5 T Z) hM;refine aN 32 [.cell 6 35] func208 O<|cR<|mO O<|mO O<|mO O<|I<|cR<|mO O<|I<|cR<|mY aOf O<|mO O<|mZ O<|I<|au<|cR<|mE 2 O<|mV aj (aB5 n) aCZ<|mW O<|I<|aK<|dL (ι:=Nat) (λs=>⟨32,[(0,.d<|.o<|.a 2 n<|o7 K fa),(4,.p 4 0),(5,.p 5 0),(6,.p 6 0),(7,.p 7 0),(8,.p 8 0),(9,dI<|(n:Int)-1-(s:Int))],[(4,.b 35<|[.v<|.bool s1,lr L1 xs1]),(5,.b 35<|[.v<|.bool s2,lr L2 xs2]),(6,.b 35<|[.v<|.bool false,.v aAy]),(7,.b 35<|zn (R s)<|Ot c x y n s),(8,.b 35<|zn (R s)<|y^s)]⟩) (λs=>s<=n) (λs=>n-s) 0 (abJ _) (wkv [6] [3,4] ⟨dW O<|aJ Z,Pe⟩ ⟨eG O<|VG,eG O<|rW Z (Int.pow_zero y).symm,Pe⟩ O O) ?_;rintro s hi;refine au<|cR<|mE 2 O<|I<|bI O (λhc1=>?_) (λhc1=>?_);refine aO<|tN<|au<|aK<|au ?_;have hsd:s<n:=aCb;have hR:=hR1 s;have hRm:=hRM (s+1) Z;refine fQ 9 (dI ((n-1-s:Nat):Int)) O (aJ Z)<|cDk 10<|oE 2 O<|oC (Ll (jT (R s)<|Ot c x y n s) ⟨s1,xs1,λ_ _ _ h=>h,ex⟩ (M:=((R s)+L1)) Z Z Z) O<|oE 2 O<|oV (xjh O O O O O O Z)<|oE 2 O<|oC (Ll ⟨_,_,λ_ _ _ h=>h,ea (n-1-s) Z⟩ (jT (R s)<|y^s) (M:=(K+(R s))) Z Z Z) O<|oC (abl (jT ((R s)+L1)<|(Ot c x y n s)*x) (jT (K+(R s))<|(c<|n-1-s)*(y^s)) (M:=(max ((R s)+L1) (K+(R s))+1))) O<|.nil<|mZ O<|I<|aA<|mE 2 O<|mY (Ll (jT (R s)<|y^s) ⟨s2,xs2,λ_ _ _ h=>h,ey⟩ (M:=((R s)+L2)) Z Z Z) O<|mZ O<|ak<|bN<|tN<|aA<|mE 3 O<|ak<|⟨(s+1),by omega,by omega,wkv [6] [3,4] ⟨dW O<|aJ<|(fH Z Z).trans Z,Pe⟩ ⟨eG O<|rW Z O,eG O<|rW Z (Int.pow_succ y s).symm,Pe⟩ O O⟩;refine bZ<|tE<|tE<|bE<|tN<|cR<|mW O<|mZ O<|I<|aQ ?_;have hie:n=s:=aCi;subst hie;exact rQ O<|kX (hRM _ hn) O
def yY{a:Lf}(ha:kW a K n c)(hn:n<=1000000:=by first|decide|omega)(hK:K<=1000000000:=by first|decide|omega):aH prog 102 [.o a]<|.d<|.j<|zn K<|c<|dg c n-1:=by have⟨⟨fa,ha,ea⟩,za⟩:=ha;refine aH.le aDT AV.le.rfl ?_;have hla:=ny c n;refine aN 15 [.cell 2 35] func102 O<|cR<|mO O<|I<|au<|cR<|mW O<|mY aCG O<|mW O<|I<|cR<|mE 3 O<|I<|bI O (λhc1=>?_) (λhc1=>?_);exact cR<|mW O<|mZ O<|I<|aQ<|tR<|rQ O (apY<|LU za (by have h0:=eq_of_beq hc1;omega) _);refine aO<|tN<|au ?_;have hl0:dg c n≠0:=λe=>aFK;refine aA<|mE 3 O<|mV aj (dI ((dg c n-1:Nat):Int)) aCm<|mV aj _ (xjh O O O O O O Z)<|mW O<|mZ O<|I<|aQ<|rQ O aCo
def wI(hn:n<=1000000:=by omega):aH prog 179 [.o<|bP K n c]<|aB5 n:=by exact aN 6 [.tmp 2] func179 O<|cR<|mW O<|I<|cR<|mE 2 O<|mV aj (aB5 n) aCZ<|mW O<|I<|aQ<|rQ O aCo
def aek(z:Int):l9 z 0=tV z:=by rfl
def ahf(z:Int): -1<=tV z/\tV z<=1:=by unfold tV;omega
def anJ{a:Lf}{b:List Lf}{D:Nat}{nn dd:Int}(ha:kW a K n c)(hb:I8 b L nn dd)(hn:n<=D)(hDD:D<=1000:=by decide)(hT:K+(max L 2+1)+(max L 2+1)+5<=T:=by decide)(hM:(D+1)*T<=M:=by decide)(Ej:M<=1000000000:=by decide)(hL:L<=1000000:=by decide)(hK:K<=10000000:=by decide):aH prog 114 [.o a,.j b]<|dI<|tV<|Ot c (fU nn dd).num ((fU nn dd).den:Int) (dg c n)<|dg c n:=by have⟨⟨fa,ha,ea⟩,za⟩:=ha;have⟨s0,EC,t0,ys0,hb,e0,k0⟩:=hb;refine aH.le (dl (DV.l ha)<|dl (DV.g hb) iR) AV.le.rfl ?_;have hla:=ny c n;refine aN 16 [.tmp 4] func114 O<|cR<|mO O<|mW O<|I<|cR<|mW O<|mY (anN (⟨s0,EC,t0,ys0,λ_ _ _ h=>h,e0,k0⟩:I8 ([.v<|.bool s0,lr L EC]++[.v<|.bool t0,lr L ys0]) L nn dd) (M:=(max L 2+1))) O<|mZ O<|I<|au ?_;have hMb:T<=M:=acL (ah5 T Z) hM;exact cDk 10<|oV O<|oC aCG O<|oE 4 O<|oC (aiy (iQ (c:=c)<|jG za) (jT (max L 2+1)<|Rat.num<|fU nn dd) (jT (max L 2+1) (Rat.den (fU nn dd):Int)) (D:=D) (M:=M) Z hDD hT hM Ej) O<|oV O<|oC (Xq (jT M<|Ot c (Rat.num<|fU nn dd) (Rat.den (fU nn dd):Int) (dg c n)<|dg c n) RP) O<|oV O<|.nil<|I<|aQ<|rQ O<|aJ<|aek _
def adz{a:Lf}(ha:kW a K n c)(hn:n<=1000000:=by first|decide|omega)(hK:K<=10000000:=by first|decide|omega):aH prog 29 [.o a] (.dY [.o<|vI<|if dg c n%2=0 then -tV (c<|dg c n-1) else tV (c<|dg c n-1),.o<|vI<|tV<|c<|dg c n-1]):=by have⟨⟨fa,ha,ea⟩,za⟩:=ha;refine aH.le aDT AV.le.rfl ?_;have hla:=ny c n;refine aN 18 [.tmp 2,.tmp 3] func29 O<|cR<|mE 2 O<|I<|cR<|mW O<|mY aCG O<|mW O<|I<|cR<|mW O<|mY (yY<|iQ (c:=c)<|jG za) O<|mY (asw<|isn K<|c<|dg c (dg c n)-1) O<|mW O<|I<|au<|cR<|mE 4 O<|I<|bI O (λhc1=>?_) (λhc1=>?_);exact cR<|mE 5 O<|I<|aQ<|tR<|rQ O (jK<|dl (yx<|aJ (by have h9:dg c (dg c n)=dg c n:=Ed (jG za) za;rw [if_pos (by have h0:((dg c n%2:Nat):Int)=0:=eq_of_beq hc1;omega),h9,fH aGT aGT];omega)) aEW);exact aO<|tN<|cR<|mE 4 O<|I<|aQ<|rQ O (jK<|dl (yx<|aJ (by have h9:dg c (dg c n)=dg c n:=Ed (jG za) za;rw [if_neg (by have h0:((dg c n%2:Nat):Int)≠0:=ne_of_beq_false hc1;omega),h9])) aEW)
def E8(h:y≠0):∀s:Nat,¬y^s=0
 |0=>by simp_all
 |s+1=>by rw [Int.pow_succ];exact ahU (E8 h s) h
def akf(q:Rat):q*((q.den:Int):Rat)=(q.num:Rat):=by have h:=KD (x:=q.num) (y:=(q.den:Int))<|rG q;rw [lK<|rG q,Rat.num_divInt_den] at h;exact h
def ana{a:Nat->Int}{q:Rat}{top:Nat}:∀s,((Ot a q.num (q.den:Int) top s:Int):Rat)*((q.den:Int):Rat)=((q.den:Int):Rat)^s*vlQ (rc a) q top s
 |0=>by show((0:Int):Rat)*_=_*(0:Rat);simp_all
 |s+1=>by
  have h0:=ana (a:=a) (q:=q) (top:=top) s;have hq:=akf q;show((Ot a q.num (q.den:Int) top s*q.num+a (top-1-s)*(q.den:Int)^s:Int):Rat)*((q.den:Int):Rat)=((q.den:Int):Rat)^(s+1)*(vlQ (rc a) q top s*q+rc a (top-1-s))
  have hrc:rc a (top-1-s)=((a (top-1-s):Int):Rat):=O;grind
def pe(a:Nat->Rat)(q:Rat):Nat->Rat
 |0=>0
 |n+1=>pe a q n+a n*q^n
def agy{a:Nat->Rat}:∀s,s<=top->pe a q top=pe a q (top-s)+q^(top-s)*vlQ a q top s
 |0,_=>by show _=pe a q (top-0)+_*(0:Rat);grind
 |s+1,h=>by
  rw [agy s Z];have e:top-s=(top-(s+1))+1:=Z
  show _=_+_*(vlQ a q top s*q+a (top-1-s))
  rw [e,show top-1-s=top-(s+1) by omega];show pe a q (top-(s+1))+a (top-(s+1))*q^(top-(s+1))+_=_
  grind
def avJ(a:Nat->Rat)(q:Rat)(n:Nat):vlQ a q n n=pe a q n:=by have h:=agy (a:=a) (q:=q) (top:=n) n<|aav _;rw [Nat.sub_self] at h;rw [h];show _=(0:Rat)+_;grind
def oU{a b:Nat->Rat}:∀{n:Nat},(∀i,i<n->a i=b i)->pe a q n=pe b q n
 |0,_=>rfl
 |n+1,h=>by show _+_=_+_;rw [oU λi hi=>h i Z,h n Z]
def GU{a:Nat->Rat}(h:∀i,n<=i->a i=0):∀d,pe a q (n+d)=pe a q n
 |0=>rfl
 |d+1=>by show pe a q (n+d)+a (n+d)*_=_;rw [GU h d,h (n+d) Z,Rat.zero_mul,Rat.add_zero]
def NM{a:Nat->Rat}(h:∀i,n<=i->a i=0)(k:∀i,m<=i->a i=0):pe a q n=pe a q m:=by rcases Nat.le_total n m with e|e;have:=GU (q:=q) h<|m-n;simp_all;have:=GU (q:=q) k<|n-m;simp_all
def CG{a b:Nat->Rat}:∀n,pe (Gi a b) q n=pe a q n+pe b q n
 |0=>by show(0:Rat)=0+0;grind
 |n+1=>by show pe (Gi a b) q n+(a n+b n)*q^n=(pe a q n+_)+(pe b q n+_);rw [CG n];grind
def vZ{a:Nat->Rat}{r:Rat}:∀n,pe (yA a r) q n=pe a q n*r
 |0=>by show(0:Rat)=0*r;grind
 |n+1=>by show pe (yA a r) q n+(a n*r)*q^n=(pe a q n+_)*r;rw [vZ n];grind
def GV{a:Nat->Rat}:∀{n:Nat},(∀i,i<n->a i=0)->pe a q n=0
 |0,_=>rfl
 |n+1,h=>by show _+_=_;rw [GV λi hi=>h i Z,h n Z,Rat.zero_mul,Rat.add_zero]
def GY(q:Rat)(k:Nat):∀m:Nat,q^(k+m)=q^k*q^m
 |0=>by simp_all
 |m+1=>by grind
def NP{b:Nat->Rat}{x:Rat}:∀m,pe (λj=>if k<=j then x*b (j-k) else 0) q (k+m)=x*q^k*pe b q m
 |0=>by
  show _=x*q^k*(0:Rat)
  rw [Rat.mul_zero];exact GV λi hi=>if_neg Z
 |m+1=>by
  show pe _ q (k+m)+(if k<=k+m then x*b (k+m-k) else 0)*q^(k+m)=x*q^k*(pe b q m+b m*q^m)
  rw [NP m,if_pos Z,Nat.add_sub_cancel_left,GY];grind
def amI{a b:Nat->Rat}(hb:∀i,m<=i->b i=0):∀k,pe (cv a b k) q (k+m)=pe a q k*pe b q m
 |0=>by
  show _=(0:Rat)*_
  rw [Rat.zero_mul];exact GV λi hi=>rfl
 |k+1=>by
  have h1:pe (cv a b<|k+1) q (k+1+m)=pe (Gi (cv a b k)<|λj=>if k<=j then a k*b (j-k) else 0) q (k+1+m):=oU λi hi=>rfl
  rw [h1,CG,show k+1+m=(k+m)+1 by omega];have h2:pe (cv a b k) q (k+m+1)=pe (cv a b k) q (k+m):=GU (λi hi=>QT λj hj hji=>by grind) 1;rw [h2,amI hb k];have h3:=NP (b:=b) (q:=q) (x:=a k) (k:=k)<|m+1;rw [<-Nat.add_assoc] at h3;rw [h3];show _=(pe a q k+a k*q^k)*_
  have h4:pe b q (m+1)=pe b q m:=GU hb 1;grind
def SV{a b:Nat->Rat}(ha:∀i,n<=i->a i=0)(hb:∀i,m<=i->b i=0):pe (bW a b) q (n+m)=pe a q n*pe b q m:=by rw [<-amI hb n];exact oU λi hi=>(aeB ha).symm
def pz(c:Nat->Int)(q:Rat)(n:Nat):Rat:=pe (rc c) q n
def Et(h:∀i,n<=i->c i=0)(k:∀i,m<=i->c i=0):pz c q n=pz c q m:=NM (xR h)<|xR k
def TA{p:Nat}(ha:∀i,n<=i->a i=0)(hb:∀i,m<=i->b i=0)(hp:∀i,p<=i->bW a b i=0):pz (bW a b) q p=pz a q n*pz b q m:=by rw [Et hp<|gJ ha hb];show pe _ q _=_;rw [oU (b:=bW (rc a)<|rc b) λi _=>(akB a b i).symm];exact SV (xR ha)<|xR hb
def aqr(y:Int):pz (iJ a y) q n=pz a q n*(y:Rat):=by show pe _ q _=_;rw [oU (a:=rc<|iJ a y) (b:=yA (rc a) (y:Rat)) λi _=>Rat.intCast_mul _ _];exact vZ n
def aaK(c:Nat->Int)(q:Rat)(n:Nat):vlQ (rc c) q n n=pz c q n:=avJ _ _ _
def sJ{d:Int}(h:0<d):tV d=1:=by unfold tV;omega
def uY{d:Int}(h:d<0):tV d= -1:=by unfold tV;omega
def NY:tV 0=0:=rfl
def akR(a b:Int):tV (a*b)=tV a*tV b:=by rcases agD a 0 with ha|ha|ha;rcases agD b 0 with hb|hb|hb;rw [uY ha,uY hb,sJ<|Int.mul_pos_of_neg_of_neg ha hb];rfl;rw [hb,Int.mul_zero,NY,Int.mul_zero];rw [uY ha,sJ hb,uY<|Int.mul_neg_of_neg_of_pos ha hb];rfl;rw [ha,Int.zero_mul,NY,Int.zero_mul];rcases agD b 0 with hb|hb|hb;rw [sJ ha,uY hb,uY<|Int.mul_neg_of_pos_of_neg ha hb];rfl;rw [hb,Int.mul_zero,NY,Int.mul_zero];rw [sJ ha,sJ hb,sJ<|Int.mul_pos ha hb];rfl
def akQ{v c:Int}(hv:v≠0)(h:c.natAbs<x.natAbs):tV (v*x+c)=tV v*tV x:=by rw [<-akR];have h1:x.natAbs<=(v*x).natAbs:=(by rw [Int.natAbs_mul];exact ah5 _ Z);rcases agD (v*x) 0 with e|e|e;rw [uY e,uY Z];omega;rw [sJ e,sJ Z]
def IZ:tV z≠0↔z≠0:=by unfold tV;omega
def J7(h:∀i,i<top->(c i).natAbs<x.natAbs)(h0:c (top-1)≠0):∀s,s<top->tV (Ot c x 1 top<|s+1)=tV (c<|top-1)*(tV x)^s
 |0,hs=>by
  show tV (0*x+c (top-1-0)*1^0)=_
  simp_all
 |s+1,hs=>by
  have ih:=J7 h h0 s Z;have hx:x≠0:=ψ
  have hv:Ot c x 1 top (s+1)≠0:=by
   rw [<-IZ,ih];exact ahU (IZ.2 h0)<|E8 (IZ.2 hx) s
  show tV (Ot c x 1 top (s+1)*x+c (top-1-(s+1))*1^(s+1))=_
  rw [Int.one_pow,Int.mul_one,akQ hv ψ,ih,Int.pow_succ,Int.mul_assoc]
def Ug:∀s,((Ot a x 1 top s:Int):Rat)=vlQ (rc a) (x:Rat) top s
 |0=>rfl
 |s+1=>by
  show((Ot a x 1 top s*x+a (top-1-s)*1^s:Int):Rat)=vlQ (rc a) (x:Rat) top s*(x:Rat)+rc a (top-1-s)
  rw [Int.one_pow,Int.mul_one,Rat.intCast_add,Rat.intCast_mul,Ug s];rfl
def szs(c:Nat->Int):Nat->Int
 |0=>0
 |n+1=>szs c n+((c n).natAbs:Int)
def TW(c:Nat->Int):∀n,0<=szs c n
 |0=>Int.le_refl _
 |n+1=>by show 0<=szs c n+_;have:=TW c n;omega
def ahv{c:Nat->Int}:∀{n i:Nat},i<n->((c i).natAbs:Int)<=szs c n
 |n+1,i,h=>by
  show _<=szs c n+_
  have:=TW c n;rcases Nat.eq_or_lt_of_le (Nat.le_of_lt_succ h) with e|e
  ·grind
  ·have:=ahv (c:=c) e;omega
def KJ(hz:∀i,n<=i->c i=0)(h:∀x:Int,pz c (x:Rat) n=0):∀i,c i=0:=by have hd:dg c n=0:=(by refine abt λhne=>?_;have h0:=O5 hne;let m:=dg c n;have h1:=J7 (c:=c) (x:=1+szs c m) (top:=m) (λi hi=>by have:=ahv (c:=c) hi;omega) h0 (m-1) Z;rw [show m-1+1=m by omega] at h1;have h2:Ot c (1+szs c m) 1 m m=0:=(by have h3:=Ug (a:=c) (x:=1+szs c m) (top:=m) m;rw [aaK,Et (jG hz) hz,h] at h3;simp_all);rw [h2] at h1;have hx:(1+szs c m)≠0:=(by have:=TW c m;omega);exact ahU (IZ.2 h0) (E8 (IZ.2 hx)<|m-1) h1.symm);exact LU hz hd
def agX:pz (lJ a b) q n=pz a q n-pz b q n:=by have h:pe (Gi (rc a)<|yA (rc b) (-1)) q n=pz (lJ a b) q n:=oU λi _=>(by show rc a i+rc b i*(-1)=((a i-b i:Int):Rat);rw [Rat.intCast_sub];show(a i:Rat)+(b i:Rat)*(-1)=_;grind);rw [<-h,CG,vZ];show _=pe (rc a) q n-pe (rc b) q n;grind
def aqp(ha:∀i,n<=i->a i=0)(hb:∀i,m<=i->b i=0)(h:∀x:Int,pz a (x:Rat) n=pz b (x:Rat) m):∀i,a i=b i:=by
 have hz:∀i,max n m<=i->lJ a b i=0:=Ir ha hb;have h1:=KJ hz (λx=>by
  rw [agX,Et (c:=a) ψ ha,Et (c:=b) ψ hb,h];grind)
 intro i;have:=h1 i;unfold lJ at this;omega
def anb(c:Nat->Int)(q:Rat)(n:Nat):((Ot c q.num (q.den:Int) n n:Int):Rat)*((q.den:Int):Rat)=((q.den:Int):Rat)^n*pz c q n:=by rw [ana,aaK]
def vO{α:Type}(n:Nat)(c d:Nat->α):Nat->α:=λi=>bif Nat.ble (i+1) n then c i else d (i-n)
def LK{α:Type}{c d:Nat->α}(h:i<n):vO n c d i=c i:=by unfold vO;rw [show Nat.ble (i+1) n=true from Nat.ble_eq_true_of_le h];rfl
def LM{α:Type}{c d:Nat->α}(h:n<=i):vO n c d i=d (i-n):=by unfold vO;rw [show Nat.ble (i+1) n=false from by rw [<-Bool.not_eq_true];exact λe=>by have:=Nat.le_of_ble_eq_true e;omega];rfl
def OJ(q:Nat->Rat):Nat->Nat
 |0=>1
 |n+1=>Nat.lcm (OJ q n) (q n).den
def Py{q:Nat->Rat}:∀{n:Nat},(∀i,i<n->p i=q i)->OJ p n=OJ q n
 |0,_=>rfl
 |n+1,h=>by show Nat.lcm _ _=Nat.lcm _ _;rw [Py<|λi hi=>h i Z,h n Z]
def RX{q:Nat->Rat}:∀n,0<OJ q n
 |0=>Nat.one_pos
 |n+1=>Nat.lcm_pos (RX n) (q n).den_pos
def Gs{q:Nat->Rat}:∀{n},i<n->(q i).den∣OJ q n
 |0,h=>absurd h<|acH _
 |n+1,h=>by
  rcases ahZ i n with h1|h1
  ·exact Nat.dvd_trans (Gs h1)<|Nat.dvd_lcm_left _ _
  ·obtain rfl:i=n:=Z
   exact Nat.dvd_lcm_right _ _
def Z8{q:Nat->Rat}:∀m,OJ (vO n p q) (n+m)=Nat.lcm (OJ p n) (OJ q m)
 |0=>by
  rw [Nat.add_zero,show OJ q 0=1 from O,Nat.lcm_one_right];exact Py λi hi=>LK hi
 |m+1=>by
  show Nat.lcm (OJ (vO n p q)<|n+m) (vO n p q<|n+m).den=Nat.lcm _ (Nat.lcm _ _)
  rw [Z8 m,LM Z,Nat.add_sub_cancel_left,Nat.lcm_assoc]
def Ro:∀{n:Nat},(∀i,i<n->c i=d i)->dM c n=dM d n
 |0,_=>rfl
 |n+1,h=>by show Nat.gcd (dM c n) _=Nat.gcd (dM d n) _;rw [Ro ψ,h n Z]
def MH:∀m,dM (vO n c d) (n+m)=Nat.gcd (dM c n) (dM d m)
 |0=>by
  rw [Nat.add_zero,show dM d 0=0 from O,Nat.gcd_zero_right];exact Ro λi hi=>LK hi
 |m+1=>by
  show Nat.gcd (dM (vO n c d)<|n+m) (vO n c d<|n+m).natAbs=Nat.gcd _ (Nat.gcd _ _)
  rw [MH m,LM Z,Nat.add_sub_cancel_left,Nat.gcd_assoc]
def vU:∀{n},i<n->dM c n∣(c i).natAbs
 |0,h=>absurd h<|acH _
 |n+1,h=>by
  rcases ahZ i n with h1|h1
  ·exact Nat.dvd_trans (Nat.gcd_dvd_left _ _)<|vU h1
  ·obtain rfl:i=n:=Z
   exact Nat.gcd_dvd_right _ _
def Zy{D a g:Nat}(hg:0<g)(h:g∣a)(ha:a∣D):D/a∣D/g:=by obtain⟨e,rfl⟩:=h;obtain⟨f,rfl⟩:=ha;rcases acT e with rfl|he;simp;rw [Nat.mul_div_cancel_left _<|Nat.mul_pos hg he,Nat.mul_assoc,Nat.mul_div_cancel_left _ hg];exact Nat.dvd_mul_left _ _
def Z9{D a b:Nat}(hD:0<D)(ha:a∣D)(hb:b∣D):Nat.lcm (D/a) (D/b)=D/Nat.gcd a b:=by have ha0:0<a:=Nat.pos_of_dvd_of_pos ha hD;have hb0:0<b:=Nat.pos_of_dvd_of_pos hb hD;have hg0:0<Nat.gcd a b:=ψ;have hgD:Nat.gcd a b∣D:=Nat.dvd_trans (Nat.gcd_dvd_left _ _) ha;apply Nat.dvd_antisymm;apply Nat.lcm_dvd;exact Zy hg0 (Nat.gcd_dvd_left _ _) ha;exact Zy hg0 (Nat.gcd_dvd_right _ _) hb;have h1:D∣a*Nat.lcm (D/a) (D/b):=(by have:=Nat.mul_dvd_mul_left a<|Nat.dvd_lcm_left (D/a)<|D/b;rwa [Nat.mul_div_cancel' ha] at this);have h2:D∣b*Nat.lcm (D/a) (D/b):=(by have:=Nat.mul_dvd_mul_left b<|Nat.dvd_lcm_right (D/a)<|D/b;rwa [Nat.mul_div_cancel' hb] at this);have h3:=Nat.dvd_gcd h1 h2;rw [Nat.gcd_mul_right] at h3;simp_all
def ov(D:Int)(c:Nat->Int):Nat->Rat:=λi=>rc c i*fU 1 D
def SN(hD:D≠0)(c:Nat->Int)(i:Nat):ov D c i=Rat.divInt (c i) D:=by show((c i:Int):Rat)*fU 1 D=_;rw [<-qJ,lK φ,lK hD,Rat.divInt_mul_divInt,Int.mul_one,Int.one_mul]
def ai5{a:Int}(hD:D≠0):(Rat.divInt a D).den=D.natAbs/Nat.gcd D.natAbs a.natAbs:=by rw [Rat.den_divInt,if_neg hD];rfl
def X7(hD:D≠0):∀n,OJ (ov D c) n=D.natAbs/Nat.gcd D.natAbs (dM c n)
 |0=>by
  show 1=D.natAbs/Nat.gcd D.natAbs 0
  simp_all
 |n+1=>by
  show Nat.lcm (OJ (ov D c) n) (ov D c n).den=D.natAbs/Nat.gcd D.natAbs (Nat.gcd _ _)
  rw [X7 hD n,SN hD,ai5 hD,Z9 Z (Nat.gcd_dvd_left _ _)<|Nat.gcd_dvd_left _ _];grind
def gD(D:Int)(n:Nat)(x:Nat->Int)(m:Nat)(y:Nat->Int):Nat:=dM (vO (1+n) (vO 1 (λi=>if i=0 then D else 0) x) y)<|1+n+m
def Vj{x y:Nat->Int}:gD D n x m y=Nat.gcd (Nat.gcd D.natAbs<|dM x n) (dM y m):=by unfold gD;rw [MH,MH];show Nat.gcd (Nat.gcd (Nat.gcd 0 D.natAbs) _) _=_;simp_all
def rJ{x y:Nat->Int}(hD:D≠0):0<gD D n x m y:=by rw [Vj];simp_all
def XQ{x y:Nat->Int}:gD D n x m y∣D.natAbs:=by rw [Vj];exact Nat.dvd_trans (Nat.gcd_dvd_left _ _)<|Nat.gcd_dvd_left _ _
def ae2{x y:Nat->Int}(h:i<n):gD D n x m y∣(x i).natAbs:=by rw [Vj];exact Nat.dvd_trans (Nat.dvd_trans (Nat.gcd_dvd_left _ _)<|Nat.gcd_dvd_right _ _)<|vU h
def ae3{x y:Nat->Int}(h:i<m):gD D n x m y∣(y i).natAbs:=by rw [Vj];exact Nat.dvd_trans (Nat.gcd_dvd_right _ _)<|vU h
def apq{x y:Nat->Int}(hD:D≠0):OJ (vO n (ov D x)<|ov D y) (n+m)=D.natAbs/gD D n x m y:=by rw [Z8,X7 hD,X7 hD,Z9 Z (Nat.gcd_dvd_left _ _)<|Nat.gcd_dvd_left _ _,Vj];grind
def gS(D:Int)(g:Nat):Int:=if D<0 then -(g:Int) else g
def yC{g:Nat}(h:0<g):gS D g≠0:=by unfold gS;omega
def oD{g:Nat}(h:g∣z.natAbs):gS D g∣z:=by unfold gS;split;exact Int.neg_dvd.2<|ahV.2 h;exact ahV.2 h
def azC{x y:Nat->Int}(hD:D≠0):D/gS D (gD D n x m y)=((OJ (vO n (ov D x)<|ov D y) (n+m):Nat):Int):=by rw [apq hD,Int.natCast_ediv];unfold gS;split;rw [Int.ediv_neg];rw [show(D.natAbs:Int)= -D by omega,Int.neg_ediv_of_dvd<|Int.ofNat_dvd_left.2 XQ];grind
def avl{g:Int}(hD:D≠0)(hg:g≠0)(hgD:g∣D)(hgz:g∣z)(hL:D/g=(L:Int)):z/g=(Rat.divInt z D*fU (L:Int) 1).num:=by obtain⟨e,rfl⟩:=hgD;obtain⟨f,rfl⟩:=hgz;rw [Int.mul_ediv_cancel_left _ hg] at hL ⊢;rw [lK φ,Rat.divInt_mul_divInt,<-hL,Int.mul_one];have he:e≠0:=ψ;rw [show g*f*e=(g*e)*f by grind];have:=Rat.divInt_mul_left (n:=f) (d:=1) hD;rw [Int.mul_one] at this;rw [this,show Rat.divInt f 1=(f:Rat) from(lK φ).symm.trans (qJ f),Rat.num_intCast]
def cX(L:Nat)(c:Nat->Rat):Nat->Int:=λi=>(c i*fU (L:Int) 1).num
def QK{c:Nat->Rat}(h:∀i,n<=i->c i=0):∀i,n<=i->cX L c i=0:=λi hi=>by unfold cX;simp_all
def cvn(K n m L:Nat)(p q:Nat->Rat):List Lf:=[bP K n<|cX L p,bP K m<|cX L q]++zn K (L:Int)
def apt{L':Nat}{p' q q':Nat->Rat}(h:K<=M)(e1:n=n')(e2:m=m')(e3:L=L')(e4:∀i,i<n->p i=p' i)(e5:∀i,i<m->q i=q' i):AV.le (.d<|.j<|cvn K n m L p q)<|.d<|.j<|cvn M n' m' L' p' q':=by subst e1;subst e2;subst e3;refine lV λB w cs hcs=>?_;match cs,hcs with|[a,b,c,d],⟨h1,h2,h3,h4,h5⟩=>exact⟨qM h (λi hi=>by unfold cX;simp_all) _ _ _ h1,qM h (λi hi=>by unfold cX;simp_all) _ _ _ h2,h3,lW h _ _ _ h4,h5⟩
def ajN{K1 K2 K3:Nat}{x y:Nat->Int}{q:Nat->Rat}(h1:K1<=M)(h2:K2<=M)(h3:K3<=M)(e1:n=n')(e2:m=m')(e3:D=(L:Int))(e4:∀i,i<n->x i=cX L p i)(e5:∀i,i<m->y i=cX L q i):AV.le (.d<|.j<|[bP K1 n x,bP K2 m y]++zn K3 D)<|.d<|.j<|cvn M n' m' L p q:=by subst e1;subst e2;subst e3;refine lV λB w cs hcs=>?_;match cs,hcs with|[a,b,c,d],⟨k1,k2,k3,k4,k5⟩=>exact⟨qM h1 e4 _ _ _ k1,qM h2 e5 _ _ _ k2,k3,lW h3 _ _ _ k4,k5⟩
def apS{a b a' b':Lf}{ds ds':List Lf}(ha:∀B w c,fP B w a c->fP B w a' c)(hb:∀B w c,fP B w b c->fP B w b' c)(hd:∀B w cs,jg B w ds cs->jg B w ds' cs):∀B w cs,jg B w (a::b::ds) cs->jg B w ([a',b']++ds') cs
 |B,w,c::d::cs,⟨h1,h2,h3⟩=>⟨ha _ _ _ h1,hb _ _ _ h2,hd _ _ _ h3⟩
def RLe(n:Nat)(el:Nat->Nat->Lf)(K:Nat)(c:Nat->Int):Prop:=∀i,i<n->∀j,j<2->∀B w v,fP B w (el i j) v->fP B w (aX K c i j) v
def aaM(h:K<=L):RLe 1 (λi' j'=>((zn K z)[i'*2+j']?).getD<|.v undef) L (λi=>if i=0 then z else 0):=by intro i hi j hj B w v hv;obtain rfl:i=0:=Z;match j,hj with|0,_=>exact hv|1,_=>exact lW h _ _ _ hv
def amR(h:K<=L):RLe n (aX K c) L c:=YF h Z
def aaL{el2:Nat->Nat->Lf}(h1:RLe n el K c)(h2:RLe m el2 K d):RLe (n+m) (fA n el el2) K<|vO n c d:=by intro i hi j hj B w v hv;unfold fA at hv;unfold aX;by_cases hin:i<n;rw [show Nat.ble (i+1) n=true from Nat.ble_eq_true_of_le hin] at hv;rw [LK hin];exact h1 i hin j hj _ _ _ hv;rw [show Nat.ble (i+1) n=false from by rw [<-Bool.not_eq_true];exact λh=>hin<|Nat.le_of_ble_eq_true h] at hv;rw [LM Z];exact h2 (i-n) Z j hj _ _ _ hv
def aoc(h:∀i,m<=i->d i=0):∀i,n+m<=i->vO n c d i=0:=λi hi=>by rw [LM Z];grind
def ajI(h:RLe n el K c)(hz:∀i,n<=i->c i=0):kW (.a 2 n el) K n c:=by have h0:=iQ (K:=K) (n:=n) hz;have⟨⟨f,h2,h3⟩,h4⟩:=h0;exact⟨⟨f,λB w v hv=>h2 _ _ _<|jZ h _ _ _ hv,h3⟩,h4⟩
def Xd(D:Int):Int:=if D=0 then 1 else D
def IK(D:Int):Xd D≠0:=by unfold Xd;omega
def XB(n m:Nat)(p q:Nat->Rat):Nat:=OJ (vO (dg p n) p q)<|dg p n+dg q m
def Uk(K n m:Nat)(p q:Nat->Rat):List Lf:=cvn K (dg p n) (dg q m) (XB n m p q) p q
def MX{p' q q':Nat->Rat}(h:K<=M)(zp:∀i,n<=i->p i=0)(zq:∀i,m<=i->q i=0)(zp':∀i,n'<=i->p' i=0)(zq':∀i,m'<=i->q' i=0)(e4:∀i,p i=p' i)(e5:∀i,q i=q' i):AV.le (.d<|.j<|Uk K n m p q)<|.d<|.j<|Uk M n' m' p' q':=by obtain rfl:=funext e4;obtain rfl:=funext e5;have h1:=Ed zp zp';have h2:=Ed zq zq';exact apt h h1 h2 (by unfold XB;rw [h1,h2]) ψ ψ
def J5{α β:Type}[DecidableEq α][OfNat α 0][DecidableEq β][OfNat β 0]{c:Nat->α}{d:Nat->β}:∀{n:Nat},(∀i,i<n->(c i=0↔d i=0))->dg c n=dg d n
 |0,_=>rfl
 |n+1,h=>by
  unfold dg
  by_cases h0:c n=0
  ·rw [if_pos h0,if_pos ψ,J5<|λi hi=>h i Z]
  simp_all
def as2{α:Type}[DecidableEq α][OfNat α 0](c:Nat->α)(n:Nat):dg c (dg c n)=dg c n:=Du Zr
def avy(hD:D≠0):ov D c i=0↔c i=0:=by rw [SN hD];constructor;intro h;have h1:=ah9 Rat.num h;rw [Rat.num_divInt] at h1;have h2:(Int.gcd D (c i):Int)∣D.sign*c i:=Int.dvd_trans (Int.gcd_dvd_right _ _)<|Int.dvd_mul_left _ _;have h3:D.sign*c i=0:=(by have:=Int.ediv_mul_cancel h2;simp_all);grind;simp_all
def xA(hD:D≠0)(h:∀i,n<=i->c i=0):∀i,n<=i->ov D c i=0:=λi hi=>(avy hD).2<|h i hi
def Zt(hD:D≠0)(c:Nat->Int)(n:Nat):dg (ov D c) n=dg c n:=J5 λi _=>avy hD
def l7(c:Nat->Int)(g:Int):Nat->Int:=λi=>c i/g
def Ef{g:Int}(h:∀i,n<=i->c i=0):∀i,n<=i->l7 c g i=0:=λi hi=>by unfold l7;simp_all
def aeL{g:Int}(hg:g≠0)(h:∀i,i<n->g∣c i):dg (l7 c g) n=dg c n:=J5 λi hi=>by
 have⟨e,he⟩:=h i hi;unfold l7;rw [he,Int.mul_ediv_cancel_left _ hg];constructor
 ·simp_all
 ·intro h;rcases Int.mul_eq_zero.1 h with h|h;exact absurd h hg;exact h
section
variable {D:Int} {n m K1 K2 K3 M:Nat} {x y:Nat→Int}
def Kv(hD:D≠0)(h1:K1<=M)(h2:K2<=M)(h3:K3<=M):AV.le (.d<|.j<|[bP K1 (dg (l7 x<|gS D<|gD D (dg x n) x (dg y m) y)<|dg x n)<|l7 x<|gS D<|gD D (dg x n) x (dg y m) y,bP K2 (dg (l7 y<|gS D<|gD D (dg x n) x (dg y m) y)<|dg y m)<|l7 y<|gS D<|gD D (dg x n) x (dg y m) y]++zn K3 (D/gS D (gD D (dg x n) x (dg y m) y)))<|.d<|.j<|Uk M n m (ov D x)<|ov D y:=by have hg:=yC (D:=D)<|rJ (n:=dg x n) (m:=dg y m) (x:=x) (y:=y) hD;have hgx:∀i,i<dg x n->gS D (gD D (dg x n) x (dg y m) y)∣x i:=λi hi=>oD<|ae2 hi;have hgy:∀i,i<dg y m->gS D (gD D (dg x n) x (dg y m) y)∣y i:=λi hi=>oD<|ae3 hi;have hL:D/gS D (gD D (dg x n) x (dg y m) y)=(XB n m (ov D x) (ov D y):Int):=(by unfold XB;rw [Zt hD,Zt hD];exact azC hD);have hd1:=aeL hg hgx;have hd2:=aeL hg hgy;rw [as2] at hd1 hd2;refine ajN h1 h2 h3 (by rw [hd1,Zt hD]) (by rw [hd2,Zt hD]) hL (λi hi=>?_) (λi hi=>?_);exact azQ;exact azQ
end
def amq{K1 K2 K3:Nat}{x y:Nat->Int}(h1:K1<=K)(h2:K2<=K)(h3:K3<=K)(hy:∀i,m<=i->y i=0):kW (.a 2 (1+n+m)<|fA (1+n) (fA 1 (λi' j'=>((zn K3 D)[i'*2+j']?).getD<|.v undef)<|aX K1 x)<|aX K2 y) K (1+n+m) (vO (1+n) (vO 1 (λi=>if i=0 then D else 0) x) y):=
 ajI (aaL (aaL (aaM h3)<|amR h1)<|amR h2) (aoc hy)
def agu(x:Nat->Int)(i:Nat):ov (Xd 0) x i=rc x i:=by show rc x i*fU 1 (Xd 0)=rc x i;rw [show Xd 0=1 from O,qJ];simp_all
def Xz(h:(p i).den∣L):rc (cX L p) i=p i*fU (L:Int) 1:=by obtain⟨e,rfl⟩:=h;have h:=KD (x:=(p i).num) (y:=((p i).den:Int)) (by have:=(p i).den_pos;omega);rw [kU] at h;have h2:p i*fU (((p i).den*e:Nat):Int) 1=(((p i).num*(e:Int):Int):Rat):=(by rw [qJ,Int.natCast_mul,Rat.intCast_mul,<-Rat.mul_assoc,h,<-Rat.intCast_mul]);show(((p i*fU (((p i).den*e:Nat):Int) 1).num:Int):Rat)=_;rw [h2,Rat.num_intCast]
def NG(h:(p i).den∣L)(hL:L≠0):ov (L:Int) (cX L p) i=p i:=by show rc (cX L p) i*fU 1 (L:Int)=_;rw [Xz h,Rat.mul_assoc];have h1:=KD (x:=1) (y:=(L:Int)) Z;rw [qJ,Rat.mul_comm ((L:Int):Rat),h1];simp_all
def Zf{q:Nat->Rat}:0<XB n m p q:=RX _
def amP{q:Nat->Rat}(zp:∀i,n<=i->p i=0)(i:Nat):rc (cX (XB n m p q) p) i=p i*fU (XB n m p q:Int) 1:=by by_cases h:i<dg p n;refine Xz ?_;have:=Gs (q:=vO (dg p n) p q) (i:=i) (n:=dg p n+dg q m) Z;rwa [LK h] at this;have hp:p i=0:=jG zp i Z;unfold rc cX;simp_all
def aaD{c:Nat->Rat}(hz:∀i,n<=i->c i=0)(h:∀x:Int,pe c (x:Rat) n=0)(i:Nat):c i=0:=by
 have hL:=Zf (n:=n) (m:=0) (p:=c) (q:=λ_=>0);have hc:∀j,rc (cX (XB n 0 c λ_=>0) c) j=yA c (fU (XB n 0 c λ_=>0:Int) 1) j:=λj=>amP hz j;have h0:=KJ (c:=cX (XB n 0 c λ_=>0) c) (n:=n) (QK hz) (λx=>by
  show pe (rc _) _ _=0
  rw [funext hc,vZ,h x,Rat.zero_mul]) i
 have h1:=amP (m:=0) (q:=λ_=>0) hz i;unfold rc at h1;rw [h0,qJ] at h1;rcases al6.1 h1.symm with h2|h2
 ·omega
 simp_all
def agz{a b:Nat->Rat}(ha:∀i,n<=i->a i=0)(hb:∀i,m<=i->b i=0)(h:∀x:Int,pe a (x:Rat) n=pe b (x:Rat) m)(i:Nat):a i=b i:=by
 have hz:∀j,max n m<=j->Gi a (yA b (-1)) j=0:=λj hj=>(by show a j+b j* -1=0;grind);have h0:=aaD hz (λx=>by
  rw [CG,vZ,NM ψ ha,NM (a:=b) ψ hb,h x];grind) i
 have h1:a i+b i* -1=0:=h0;grind
def Ab(x e:Rat):Prop:= -e<=x/\x<=e
def Ab.add{x y d:Rat}(h:Ab x d)(k:Ab y e):Ab (x+y)<|d+e:=by unfold Ab at *;grind
def Ab.sub{x y d:Rat}(h:Ab x d)(k:Ab y e):Ab (x-y)<|d+e:=by unfold Ab at *;grind
theorem Ab.mul{x y d:Rat}(h:Ab x d)(k:Ab y e):Ab (x*y)<|d*e:=agc h.1 h.2 k.1 k.2
def Ab.mono{x d:Rat}(h:Ab x d)(k:d<=e):Ab x e:=by unfold Ab at *;grind
def Ab.nn{x:Rat}(h:Ab x e):0<=e:=by unfold Ab at h;grind
def Ab.eq{x y:Rat}(h:Ab x e)(k:x=y):Ab y e:=k▸h
def kY(h:0<=e):Ab 0 e:=by unfold Ab;grind
def lX{B:Rat}(h:1<=B):∀n:Nat,1<=B^n
 |0=>by simp_all
 |n+1=>by rw [Rat.pow_succ];have h1:=lX h n;have:=acK (a:=B^n-1) (b:=B-1) ψ ψ;grind
def Tv{B:Rat}(h:1<=B)(n:Nat):B^n<=B^(n+1):=by rw [Rat.pow_succ];have h1:=lX h n;have:=acK (a:=B^n) (b:=B-1) ψ ψ;grind
def CQ{B:Rat}(h:1<=B)(hnm:n<=m):B^n<=B^m:=by induction hnm with|refl=>grind|step _ ih=>have:=Tv h;grind
def jS(n:Nat):(0:Rat)<=(n:Rat):=ψ
def oQ(n:Nat):((n+1:Nat):Rat)=(n:Rat)+1:=by simp_all
def PV{B:Rat}(hB:1<=B)(hq:Ab q B):∀n:Nat,Ab (q^n)<|B^n
 |0=>by rw [Rat.pow_zero,Rat.pow_zero];exact azM
 |n+1=>by rw [Rat.pow_succ,Rat.pow_succ];exact(PV hB hq n).mul hq
def agV{B:Rat}(hB:1<=B)(hs:Ab s B)(ht:Ab t B)(hst:s<=t):∀n:Nat,Ab (t^n-s^n)<|(n:Rat)*B^n*(t-s)
 |0=>by rw [Rat.pow_zero,Rat.pow_zero];refine(kY (e:=0) ψ).eq ψ |>.mono ?_;simp_all
 |n+1=>by
  have ih:=agV hB hs ht hst n;have h1:t^(n+1)-s^(n+1)=(t^n-s^n)*t+s^n*(t-s):=ψ
  have h2:Ab (t-s)<|t-s:=by unfold Ab;grind
  rw [h1];refine((ih.mul ht).add<|(PV hB hs n).mul h2).mono ?_;have hb:=lX hB n;have h3:=acK (a:=B^n*(t-s)) (b:=B-1) (acK ψ ψ) ψ;rw [oQ,Rat.pow_succ];grind
def agW{B:Rat}(hB:1<=B)(hs:Ab s B)(ht:Ab t B)(hst:s<=t):∀n:Nat,Ab (t^(n+1)-s^(n+1)-(t-s)*(((n+1:Nat):Rat)*s^n))<|((n+1:Nat):Rat)*((n+1:Nat):Rat)*B^(n+1)*((t-s)*(t-s))
 |0=>by
  refine(kY (e:=0) ψ).eq ?_ |>.mono ?_
  ·grind
  ·refine acK (acK (acK (jS _)<|jS _) ?_)<|acK ψ ψ
   grind
 |n+1=>by
  have ih:=agW hB hs ht hst n;have e:t^(n+1+1)-s^(n+1+1)-(t-s)*(((n+1+1:Nat):Rat)*s^(n+1))=(t^(n+1)-s^(n+1)-(t-s)*(((n+1:Nat):Rat)*s^n))*t+(((n+1:Nat):Rat)*s^n)*((t-s)*(t-s)):=by
   grind
  rw [e];have Vu:0<=(t-s)*(t-s):=acK ψ ψ;have h2:Ab ((t-s)*(t-s))<|(t-s)*(t-s):=by unfold Ab;grind
  have hn:Ab (((n+1:Nat):Rat))<|((n+1:Nat):Rat):=by have:=jS<|n+1;unfold Ab;grind
  refine((ih.mul ht).add<|(hn.mul<|PV hB hs n).mul h2).mono ?_;have hb:=lX hB n;have hb1:=Tv hB n;have hb2:=Tv hB<|n+1;have hN:=jS<|n+1;have e1:((n+1+1:Nat):Rat)=((n+1:Nat):Rat)+1:=oQ<|n+1;rw [e1];generalize ((n+1:Nat):Rat)=N at *
  generalize (t-s)*(t-s)=aHo at *
  have e2:N*N*B^(n+1)*aHo*B=N*N*B^(n+1+1)*aHo:=ψ
  rw [e2];have h5:N*B^n*aHo<=N*B^(n+1+1)*aHo:=abV (aaJ ψ hN) Vu;have h6:0<=B^(n+1+1)*aHo:=acK ψ Vu;have h7:0<=N*(B^(n+1+1)*aHo):=acK hN h6;grind
def EK(c:Nat->Rat):Nat->Rat:=λi=>((i+1:Nat):Rat)*c (i+1)
def aof{c:Nat->Rat}(h:∀i,n<=i->c i=0):∀i,n-1<=i->EK c i=0:=λi hi=>by unfold EK;simp_all
def TB(N:Nat)(H B:Rat):Rat:=(N:Rat)*(N:Rat)*B^N*H
section
variable {c:Nat→Rat} {N:Nat} {H B:Rat}
def WO(hB:1<=B)(hH:0<=H):0<=TB N H B:=acK (acK (acK (jS _)<|jS _)<|by have:=lX hB N;grind) hH
def rY{a b:Nat}(h:a<=b):(a:Rat)<=(b:Rat):=by exact_mod_cast h
def azU(hB:1<=B)(hH:0<=H)(hi:i+1<=N):H*B^i<=TB N H B:=by
 have h1:B^i<=B^N:=CQ hB Z;have h2:(1:Rat)<=(N:Rat):=rY (show 1<=N by omega);have h3:=lX hB N;have h4:(1:Rat)<=(N:Rat)*(N:Rat):=by have:=acK (a:=(N:Rat)-1) (b:=(N:Rat)+1) ψ ψ;grind
 have h5:H*B^i<=H*B^N:=aaJ h1 hH;have h6:0<=H*B^N:=acK hH ψ;have h7:=acK (a:=(N:Rat)*(N:Rat)-1) (b:=H*B^N) ψ h6;unfold TB;grind
def azV(hB:1<=B)(hH:0<=H)(hi:i+1<=N):H*((i:Rat)*B^i)<=TB N H B:=by have h1:B^i<=B^N:=CQ hB Z;have h2:(i:Rat)<=(N:Rat):=rY Z;have h3:=lX hB N;have h8:(1:Rat)<=(N:Rat):=rY (show 1<=N by omega);have h4:(i:Rat)<=(N:Rat)*(N:Rat):=(by have:=acK (a:=(N:Rat)) (b:=(N:Rat)-1) ψ ψ;grind);have h5:(i:Rat)*B^i<=(N:Rat)*(N:Rat)*B^N:=(by have a1:(i:Rat)*B^i<=(i:Rat)*B^N:=aaJ h1<|jS _;have a2:(i:Rat)*B^N<=(N:Rat)*(N:Rat)*B^N:=abV h4 ψ;grind);have h6:H*((i:Rat)*B^i)<=H*((N:Rat)*(N:Rat)*B^N):=aaJ h5 hH;unfold TB;grind
def azW(hB:1<=B)(hH:0<=H)(hi:i+1<=N):H*((i:Rat)*(i:Rat)*B^i)<=TB N H B:=by have h1:B^i<=B^N:=CQ hB Z;have h2:(i:Rat)<=(N:Rat):=rY Z;have h3:=lX hB N;have h4:(i:Rat)*(i:Rat)<=(N:Rat)*(N:Rat):=(by have a1:(i:Rat)*(i:Rat)<=(i:Rat)*(N:Rat):=aaJ h2<|jS _;have a2:(i:Rat)*(N:Rat)<=(N:Rat)*(N:Rat):=abV h2<|jS _;grind);have h5:(i:Rat)*(i:Rat)*B^i<=(N:Rat)*(N:Rat)*B^N:=(by have a1:(i:Rat)*(i:Rat)*B^i<=(i:Rat)*(i:Rat)*B^N:=aaJ h1<|acK (jS _)<|jS _;have a2:(i:Rat)*(i:Rat)*B^N<=(N:Rat)*(N:Rat)*B^N:=abV h4 ψ;grind);have h6:H*((i:Rat)*(i:Rat)*B^i)<=H*((N:Rat)*(N:Rat)*B^N):=aaJ h5 hH;unfold TB;grind
def agx(hB:1<=B)(hH:0<=H)(hq:Ab q B):∀{n:Nat},n<=N->(∀i,i<n->Ab (c i) H)->Ab (pe c q n) ((n:Rat)*TB N H B)
 |0,_,_=>by show Ab 0 _;have:((0:Nat):Rat)=0:=O;rw [this,Rat.zero_mul];exact kY ψ
 |n+1,hn,hc=>by
  show Ab (pe c q n+c n*q^n) _
  refine((agx hB hH hq Z λi hi=>hc i Z).add<|((hc n Z).mul<|PV hB hq n).mono<|azU hB hH hn).mono ?_;grind
def Yn(hB:1<=B)(hH:0<=H)(hs:Ab s B)(ht:Ab t B)(hst:s<=t):∀{n:Nat},n<=N->(∀i,i<n->Ab (c i) H)->Ab (pe c t n-pe c s n) ((n:Rat)*TB N H B*(t-s))
 |0,_,_=>by show Ab (0-0) _;exact aw8
 |n+1,hn,hc=>by
  have ih:=Yn hB hH hs ht hst (n:=n) Z λi hi=>hc i Z
  have h1:=(hc n Z).mul<|agV hB hs ht hst n;have h2:=abV (azV hB hH hn) (show 0<=t-s by grind);refine((ih.add h1).eq (y:=pe c t (n+1)-pe c s (n+1)) ?_).mono ?_
  ·show _=(pe c t n+c n*t^n)-(pe c s n+c n*s^n);grind
  grind
def agA(hB:1<=B)(hH:0<=H)(hs:Ab s B)(ht:Ab t B)(hst:s<=t):∀{n:Nat},n<=N->(∀i,i<n->Ab (c i) H)->Ab (pe c t n-pe c s n-(t-s)*pe (EK c) s (n-1)) ((n:Rat)*TB N H B*((t-s)*(t-s)))
 |0,_,_=>by show Ab (0-0-(t-s)*0) _;exact aw8
 |1,hn,hc=>by
  refine((kY (e:=0) ψ).eq ?_).mono ?_
  ·show 0=(0+c 0*t^0)-(0+c 0*s^0)-(t-s)*0;grind
  ·exact acK (acK (jS _)<|WO hB hH)<|acK ψ ψ
 |n+1+1,hn,hc=>by
  have ih:=agA hB hH hs ht hst (n:=n+1) Z λi hi=>hc i Z
  have h1:=(hc (n+1) Z).mul<|agW hB hs ht hst n;have h2:=abV (azW hB hH hn) (show 0<=(t-s)*(t-s) from acK ψ ψ);refine((ih.add h1).eq (y:=pe c t (n+1+1)-pe c s (n+1+1)-(t-s)*pe (EK c) s (n+1+1-1)) ?_).mono ?_
  ·show _=(pe c t (n+1)+c (n+1)*t^(n+1))-(pe c s (n+1)+c (n+1)*s^(n+1))-(t-s)*(pe (EK c) s n+(((n+1:Nat):Rat)*c (n+1))*s^n)
   grind
  grind
end
def ajd(c:Nat->Rat):∀n:Nat,∃H:Rat,0<=H/\∀i,i<n->Ab (c i) H
 |0=>⟨0,by grind,λi hi=>absurd hi (acH _)⟩
 |n+1=>by
  have⟨H,hH,h⟩:=ajd c n;refine⟨H+(if c n<0 then -(c n) else c n),by grind,λi hi=>?_⟩
  by_cases e:i<n
  ·exact(h i e).mono ψ
  ·obtain rfl:i=n:=Z
   exact azM
def Jg{B x:Rat}(h:In B x){D:Rat}(hD:B<=D):Ab x D:=by unfold In at h;exact azM
def aoo(B:Rat):∃D:Rat,1<=D/\B<=D:=⟨if B<1 then 1 else B,by grind,by grind⟩
def aqd(c:Nat->Rat)(n:Nat)(B:Rat):∃L,0<=L/\Xl B (λq=>pe c q n) L:=by have⟨H,hH,hc⟩:=ajd c n;have⟨D,hD,hBD⟩:=aoo B;refine⟨(n:Rat)*TB n H D,acK (jS _)<|WO hD hH,λx y hx hy hxy=>?_⟩;have h:=Yn hD hH (Jg hx hBD) (Jg hy hBD) hxy (aav n) hc;unfold Ab at h;grind
def avI(c:Nat->Rat)(n:Nat)(B:Rat):∃M,0<=M/\∀x,In B x->-M<=pe c x n/\pe c x n<=M:=by have⟨H,hH,hc⟩:=ajd c n;have⟨D,hD,hBD⟩:=aoo B;exact⟨(n:Rat)*TB n H D,acK (jS _)<|WO hD hH,λx hx=>agx hD hH (Jg hx hBD) (aav n) hc⟩
def agw(c:Nat->Rat)(n:Nat)(B:Rat):∃E,0<=E/\∀s t,In B s->In B t->s<=t->(pe c t n-pe c s n)-(t-s)*pe (EK c) s (n-1)<=(t-s)*((t-s)*E)/\(t-s)*pe (EK c) s (n-1)-(pe c t n-pe c s n)<=(t-s)*((t-s)*E):=by have⟨H,hH,hc⟩:=ajd c n;have⟨D,hD,hBD⟩:=aoo B;refine⟨(n:Rat)*TB n H D,acK (jS _)<|WO hD hH,λs t hs ht hst=>?_⟩;have h:=agA hD hH (Jg hs hBD) (Jg ht hBD) hst (aav n) hc;unfold Ab at h;grind
def Pl(n:Nat)(f:Fn):Prop:=∃c:Nat->Rat,(∀i,n<=i->c i=0)/\∀q,f q=pe c q n
def Po(f:Fn):Prop:=∃n,Pl n f
def Lc(k:Nat)(f:Fn)(a:Rat):Prop:=∃c:Nat->Rat,(∀i,k<i->c i=0)/\c k=a/\a≠0/\∀q,f q=pe c q (k+1)
def Pl.mono(h:Pl n f)(k:n<=m):Pl m f:=by have⟨c,hz,hf⟩:=h;exact⟨c,λi hi=>hz i Z,λq=>(hf q).trans<|NM hz λi hi=>hz i Z⟩
def Pl.po(h:Pl n f):Po f:=⟨n,h⟩
def Po.congr(h:Po f)(e:∀x,f x=g x):Po g:=by obtain rfl:f=g:=funext e;exact h
def Pl.add(h:Pl n f)(k:Pl m g):Pl (max n m) (λx=>f x+g x):=by have⟨c,h1,h2⟩:=h.mono<|amm n m;have⟨d,k1,k2⟩:=k.mono<|alr n m;exact⟨Gi c d,λi hi=>by show c i+d i=0;grind,λq=>by rw [CG,<-h2,<-k2]⟩
def Pl.qN(h:Pl n f)(r:Rat):Pl n (λx=>f x*r):=by have⟨c,h1,h2⟩:=h;exact⟨yA c r,ZL h1,λq=>by rw [vZ,<-h2]⟩
theorem Pl.mul(h:Pl n f)(k:Pl m g):Pl (n+m) (λx=>f x*g x):=by have⟨c,h1,h2⟩:=h;have⟨d,k1,k2⟩:=k;exact⟨bW c d,U3 h1 k1,λq=>by rw [SV h1 k1,<-h2,<-k2]⟩
def agG(a:Rat):Pl 1 (λ_=>a):=⟨λi=>if i=0 then a else 0,λi hi=>if_neg Z,λq=>by show a=0+(if 0=0 then a else 0)*q^0;grind⟩
def aqn:Pl 2 (λx=>x):=⟨λi=>if i=1 then 1 else 0,λi hi=>if_neg Z,λq=>by
 show q=(0+(if 0=1 then 1 else 0)*q^0)+(if 1=1 then 1 else 0)*q^1
 grind⟩
def Po.add:Po f->Po g->Po (λx=>f x+g x):=λ⟨_,h⟩ ⟨_,k⟩=>⟨_,h.add k⟩
theorem Po.mul:Po f->Po g->Po (λx=>f x*g x):=λ⟨_,h⟩ ⟨_,k⟩=>⟨_,h.mul k⟩
def Po.qN(r:Rat):Po f->Po (λx=>f x*r):=λ⟨_,h⟩=>⟨_,h.qN r⟩
def Po.neg(h:Po f):Po (λx=> - f x):=(h.qN (-1)).congr λx=>by grind
def Po.sub(h:Po f)(k:Po g):Po (λx=>f x-g x):=(h.add k.neg).congr λx=>by grind
def dh(a:Rat):Po (λ_=>a):=⟨1,agG a⟩
def agJ:Po (λx=>x):=⟨2,aqn⟩
def Po.pow(h:Po f):∀n:Nat,Po (λx=>f x^n)
 |0=>(dh 1).congr λx=>by simp_all
 |n+1=>((h.pow n).mul h).congr λx=>by grind
def zY:∀{n:Nat},Pl n f->(∀x,f x=0)\/∃k a,k<n/\Lc k f a
 |0,⟨c,_,h⟩=>Or.inl λx=>h x
 |n+1,⟨c,hz,h⟩=>by
  by_cases h0:c n=0
  ·have hz':∀i,n<=i->c i=0:=ψ
   rcases zY ⟨c,hz',λq=>(h q).trans (NM hz hz')⟩ with k|⟨k,a,h1,h2⟩
   ·simp_all
   grind
  ·exact Or.inr ⟨n,c n,by omega,c,λi hi=>hz i hi,O,h0,h⟩
def Lc.ne{a:Rat}(h:Lc k f a):∃x,f x≠0:=by have⟨c,h1,h2,h3,h4⟩:=h;by_cases hh:∃x,f x≠0;omega;exfalso;have:∀x,f x=0:=ψ;have h5:=aaD (c:=c) aCy ψ k;simp_all
def Lc.uniq{a b:Rat}(h:Lc k f a)(g:Lc j f b):k=j/\a=b:=by have⟨c,h1,h2,h3,h4⟩:=h;have⟨d,k1,k2,k3,k4⟩:=g;have e:=agz (a:=c) (b:=d) aCy aCy ψ;grind
def Lc.congr{a:Rat}(h:Lc k f a)(e:∀x,f x=g x):Lc k g a:=by obtain rfl:f=g:=funext e;exact h
def abv{c d:Nat->Rat}(h1:∀i,k<i->c i=0)(h2:∀i,j<i->d i=0):bW c d (k+j)=c k*d j:=by have key:∀m,cv c d m (k+j)=if k<m then c k*d j else 0:=(by intro m;induction m with|zero=>rfl|succ m ih=>show cv c d m (k+j)+(if m<=k+j then c m*d (k+j-m) else 0)=_;grind);unfold bW;grind
theorem Lc.mul{a b:Rat}(h:Lc k f a)(g':Lc j g b):Lc (k+j) (λx=>f x*g x)<|a*b:=by have⟨c,h1,h2,h3,h4⟩:=h;have⟨d,k1,k2,k3,k4⟩:=g';have z1:∀i,k+1<=i->c i=0:=aCy;have z2:∀i,j+1<=i->d i=0:=aCy;have hz:∀i,k+j<i->bW c d i=0:=λi hi=>FU z1 z2 Z;refine⟨bW c d,hz,by rw [abv h1 k1,h2,k2],λe=>by grind,λq=>?_⟩;show f q*g q=_;rw [h4,k4,<-SV z1 z2];exact NM ψ aCy
def Tn{b:Fn}{β:Rat}(hb:Lc m b β):∀(n:Nat) (a:Fn),Pl n a->∃q r:Fn,Po q/\Pl m r/\∀x,a x=q x*b x+r x
 |0,a,ha=>⟨λ_=>0,a,dh 0,ha.mono<|abJ _,λx=>by grind⟩
 |n+1,a,ha=>by
  by_cases hnm:n+1<=m
  ·exact⟨λ_=>0,a,dh 0,ha.mono hnm,λx=>by grind⟩
  ·have⟨c,hz,hc⟩:=ha
   have⟨d,h1,h2,h3,h4⟩:=hb;have hk:n-m+(m+1)=n+1:=Z
   obtain⟨γ,hγ⟩:∃γ,γ*β=c n:=⟨c n/β,ai4 h3⟩
   obtain⟨e,he⟩:∃e:Nat->Rat,e=λi=>if n-m<=i then γ*d (i-(n-m)) else 0:=ψ
   have hsh:∀q,pe e q (n+1)=γ*q^(n-m)*b q:=λq=>by rw [h4,<-hk,he];exact NP<|m+1
   have hen:e n=c n:=by
    grind
   have hez:∀i,n+1<=i->e i=0:=ψ
   have hz':∀i,n<=i->Gi c (yA e (-1)) i=0:=λi hi=>by
    show c i+e i* -1=0;grind
   have⟨q,r,hq,hr,hqr⟩:=Tn ⟨d,h1,h2,h3,h4⟩ n (λx=>a x-γ*x^(n-m)*b x) ⟨Gi c<|yA e (-1),hz',λx=>by
    rw [<-NM (n:=n+1) ψ hz',CG,vZ,hsh,<-hc];grind⟩
   refine⟨λx=>q x+γ*x^(n-m),r,hq.add<|((agJ.pow<|n-m).qN γ).congr λx=>ajq _ _,hr,λx=>?_⟩;grind
def NR:∀(m:Nat) (a b:Fn),Po a->Pl m b->∃d u v s t:Fn,Po d/\Po u/\Po v/\Po s/\Po t/\(∀x,d x=u x*a x+v x*b x)/\(∀x,a x=s x*d x)/\∀x,b x=t x*d x:=by intro m;induction m using Nat.strongRecOn with|ind m ih=>(intro a b ha hb;rcases zY hb with h|⟨k,β,hk,hlc⟩;exact⟨a,λ_=>1,λ_=>0,λ_=>1,λ_=>0,ha,dh 1,dh 0,dh 1,dh 0,λx=>by grind,λx=>by grind,λx=>by simp_all⟩;have⟨n,ha'⟩:=ha;have⟨q,r,hq,hr,hqr⟩:=Tn hlc n a ha';have⟨d,u,v,s,t,hd,hu,hv,hs,ht,e1,e2,e3⟩:=ih k hk b r hb.po hr;exact⟨d,v,λx=>u x-v x*q x,λx=>q x*s x+t x,s,hd,hv,hu.sub<|hv.mul hq,(hq.mul hs).add ht,hs,λx=>by grind,λx=>by grind,e2⟩)
def Dv(a b:Fn):Prop:=∃q,Po q/\∀x,b x=q x*a x
def H6(a b:Fn):Prop:=∃u v,Po u/\Po v/\∀x,u x*a x+v x*b x=1
def Dv.trans{a b c:Fn}:Dv a b->Dv b c->Dv a c:=λ⟨q,h1,h2⟩ ⟨r,k1,k2⟩=>⟨λx=>r x*q x,k1.mul h1,λx=>by grind⟩
def Dv.refl(a:Fn):Dv a a:=⟨λ_=>1,dh 1,λx=>by grind⟩
def Dv.avk{a b c:Fn}(hc:Po c):Dv a b->Dv a (λx=>b x*c x):=λ⟨q,h1,h2⟩=>⟨λx=>q x*c x,h1.mul hc,λx=>by grind⟩
def Dv.congr{a b c:Fn}(h:Dv a b)(e:∀x,b x=c x):Dv a c:=by obtain rfl:b=c:=funext e;exact h
def H6.symm{a b:Fn}:H6 a b->H6 b a:=λ⟨u,v,h1,h2,h3⟩=>⟨v,u,h2,h1,λx=>by have:=h3 x;grind⟩
def H6.dv{a b c:Fn}(h:H6 a b)(hc:Po c)(k:Dv a<|λx=>b x*c x):Dv a c:=by have⟨u,v,hu,hv,huv⟩:=h;have⟨q,hq,hbc⟩:=k;exact⟨λx=>u x*c x+v x*q x,(hu.mul hc).add<|hv.mul hq,λx=>by grind⟩
theorem H6.mul{a b c:Fn}(h:H6 a b)(k:H6 a c)(ha:Po a)(hb:Po b)(hc:Po c):H6 a (λx=>b x*c x):=by have⟨u,v,hu,hv,huv⟩:=h;have⟨p,q,hp,hq,hpq⟩:=k;exact⟨λx=>u x*p x*a x+u x*q x*c x+v x*b x*p x,λx=>v x*q x,(((hu.mul hp).mul ha).add<|(hu.mul hq).mul hc).add<|(hv.mul hb).mul hp,hv.mul hq,λx=>by grind⟩
def yX(f f':Fn):Prop:=∀B,∃E,0<=E/\∀s t,In B s->In B t->s<=t->Ab (f t-f s-(t-s)*f' s) ((t-s)*((t-s)*E))
def Po.bd(h:Po f)(B:Rat):∃M,0<=M/\∀x,In B x->Ab (f x) M:=by have⟨n,c,hz,hc⟩:=h;have⟨M,hM,h⟩:=avI c n B;exact⟨M,hM,λx hx=>by rw [hc];exact h x hx⟩
def Po.lip(h:Po f)(B:Rat):∃L,0<=L/\Xl B f L:=by have⟨n,c,hz,hc⟩:=h;have⟨L,hL,h⟩:=aqd c n B;exact⟨L,hL,λx y hx hy hxy=>by rw [hc,hc];exact h x y hx hy hxy⟩
def Po.y8(h:Po f):∃f',Po f'/\yX f f':=by have⟨n,c,hz,hc⟩:=h;refine⟨λq=>pe (EK c) q<|n-1,⟨n-1,EK c,aof hz,λ_=>rfl⟩,λB=>?_⟩;have⟨E,hE,h⟩:=agw c n B;refine⟨E,hE,λs t hs ht hst=>?_⟩;have:=h s t hs ht hst;rw [hc,hc];exact azM
def aeI{c:Nat->Rat}:yX (λq=>pe c q n) (λq=>pe (EK c) q<|n-1):=λB=>by
 have⟨E,hE,h⟩:=agw c n B;refine⟨E,hE,λs t hs ht hst=>?_⟩;have:=h s t hs ht hst;exact azM
def Xl.ab{B L:Rat}(h:Xl B f L)(hs:In B s)(ht:In B t)(hst:s<=t):Ab (f t-f s)<|L*(t-s):=by have:=h s t hs ht hst;exact azM
def aiM{x:Rat}(h:0<=x):Ab x x:=by unfold Ab;grind
theorem yX.mul{g':Fn}(h:yX f f')(k:yX g g')(pf:Po f)(pg:Po g)(pf':Po f'):yX (λx=>f x*g x) (λx=>f' x*g x+f x*g' x):=λB=>by
 have⟨E,hE,h⟩:=h B;have⟨F,hF,k⟩:=k B;have⟨M,hM,m1⟩:=pg.bd B;have⟨N,hN,m2⟩:=pf'.bd B;have⟨K,hK,m3⟩:=pf.bd B;have⟨L,hL,l1⟩:=pg.lip B;refine⟨M*E+N*L+K*F,by have:=acK hM hE;have:=acK hN hL;have:=acK hK hF;grind,λs t hs ht hst=>?_⟩;have a1:=(m1 t ht).mul<|h s t hs ht hst;have a2:=((aiM<|show 0<=t-s by grind).mul<|m2 s hs).mul<|l1.ab hs ht hst;have a3:=(m3 s hs).mul<|k s t hs ht hst;refine(((a1.add a2).add a3).eq ?_).mono ?_
 ·grind
 ·grind
def yX.congr{g':Fn}(h:yX f f')(e:∀x,f x=g x)(e':∀x,f' x=g' x):yX g g':=by obtain rfl:f=g:=funext e;obtain rfl:f'=g':=funext e';exact h
def abB(a:Rat):yX (λ_=>a) (λ_=>0):=λB=>⟨0,by grind,λs t _ _ _=>(kY (e:=(t-s)*((t-s)*0)) ψ).eq ψ⟩
def yX.pow(h:yX f f')(pf:Po f)(pf':Po f'):∀n:Nat,yX (λx=>f x^(n+1)) (λx=>((n+1:Nat):Rat)*f x^n*f' x)
 |0=>h.congr ψ (λx=>by rw [Rat.pow_zero];have:((0+1:Nat):Rat)=1:=O;rw [this];grind)
 |n+1=>by
  refine((h.pow pf pf' n).mul h (pf.pow<|n+1) pf<|((pf.pow n).mul pf').qN ((n+1:Nat):Rat) |>.congr λx=>by grind).congr ψ (λx=>?_);grind
def J4{w y p E F z:Rat}(h1:Ab (w-y*p)<|y*(y*E))(h2:Ab (w-y*q)<|y*(y*F))(h3:(E+F)*y<z)(hy:0<y)(hz:p-q=z):False:=by have h5:y*((E+F)*y)<y*z:=Rat.mul_lt_mul_of_pos_left h3 hy;have h6:y*z=y*p-y*q:=ψ;unfold Ab at h1 h2;grind
def yX.uniq{f1 f2:Fn}(h:yX f f1)(k:yX f f2)(x:Rat):f1 x=f2 x:=by by_cases h0:f1 x=f2 x;omega;exfalso;obtain⟨B,hB1,hB2⟩:∃B,In B x/\In B (x+1):=aE6;have⟨E,hE,h⟩:=h B;have⟨F,hF,k⟩:=k B;obtain⟨z,hz,hz2⟩:∃z:Rat,0<z/\((f1 x-f2 x=z)\/(f2 x-f1 x=z)):=(by grind);have⟨d,hd,hs⟩:=jl (L:=E+F) (m:=z) ψ hz;have⟨e,he,he1,he2⟩:=mP hd (show(0:Rat)<1 by grind);have hte:In B<|x+e/2:=(by unfold In at *;constructor <;> grind);have h1:=h x (x+e/2) hB1 hte ψ;have h2:=k x (x+e/2) hB1 hte ψ;have h3:=hs (e/2) ψ ψ;have h4:x+e/2-x=e/2:=ψ;rw [h4] at h1 h2;rcases hz2 with hz2|hz2;exact J4 h1 h2 h3 ψ hz2;exact J4 h2 h1 ψ ψ hz2
def Lc.y8{a:Rat}(h:Lc (k+1) f a)(hd:yX f f'):Lc k f'<|((k+1:Nat):Rat)*a:=by have⟨c,h1,h2,h3,h4⟩:=h;have e:∀x,pe (EK c) x (k+1)=f' x:=λx=>((aeI (c:=c)).congr (λq=>(h4 q).symm)<|λ_=>rfl).uniq hd x;refine⟨EK c,λi hi=>by unfold EK;simp_all,by unfold EK;rw [h2],λe=>?_,λq=>(e q).symm⟩;rcases al6.1 e with e|e;grind;simp_all
def PN{x y:Fn}(hx:Po x)(hne:∃t,x t≠0)(hy:Po y)(h:∀t,x t*y t=0)(t:Rat):y t=0:=by have⟨n,hx⟩:=hx;have⟨m,hy⟩:=hy;rcases zY hx with h1|⟨k,a,_,h1⟩;simp_all;rcases zY hy with h2|⟨j,b,_,h2⟩;exact h2 t;have⟨u,hu⟩:=(h1.mul h2).ne;simp_all
def qg{x y z:Fn}(hx:Po x)(hne:∃t,x t≠0)(hy:Po y)(hz:Po z)(h:∀t,x t*y t=x t*z t)(t:Rat):y t=z t:=by have:=PN hx hne (hy.sub hz) ψ t;grind
def nP(h:Po f)(hne:∃t,f t≠0):∃k a,Lc k f a:=by have⟨n,h⟩:=h;rcases zY h with h1|⟨k,a,_,h1⟩;simp_all;grind
def Dv.deg{a b:Fn}{α β:Rat}(h:Dv a b)(ha:Lc k a α)(hb:Lc j b β):k<=j:=by
 have⟨q,hq,e⟩:=h;have⟨i,γ,hq⟩:=nP hq (by
  have⟨t,ht⟩:=hb.ne;grind)
 have:=(hb.congr e).uniq<|hq.mul ha;omega
def EP{a:Rat}(h:a≠0):Lc 0 (λ_=>a) a:=⟨λi=>if i=0 then a else 0,λi hi=>if_neg Z,if_pos O,h,λq=>by show a=0+(if 0=0 then a else 0)*q^0;grind⟩
def PO(hne:∃k a,Lc k f a):∀n:Nat,∃k a,Lc k (λx=>f x^n) a
 |0=>⟨0,1,(EP (a:=1) φ).congr λx=>by simp_all⟩
 |n+1=>by
  have⟨k,a,h⟩:=PO hne n;have⟨j,b,g⟩:=hne;exact⟨_,_,(h.mul g).congr λx=>by grind⟩
def Pr(π:Fn):Prop:=Po π/\(∃k a,1<=k/\Lc k π a)/\∀h,Po h->Dv π h\/H6 π h
def tH{a:Rat}(h:Lc 0 f a)(x:Rat):f x=a:=by have⟨c,h1,h2,h3,h4⟩:=h;rw [h4];show 0+c 0*x^0=a;grind
def alT:∀(k:Nat) (d:Fn) (a:Rat),Lc k d a->1<=k->Po d->∃π,Pr π/\Dv π d:=by intro k;induction k using Nat.strongRecOn with|ind k ih=>intro d a hd hk pd;by_cases hs:∃e j b,Dv e d/\Po e/\Lc j e b/\1<=j/\j<k;have⟨e,j,b,h1,h2,h3,h4,h5⟩:=hs;have⟨π,h6,h7⟩:=ih j h5 e b h3 h4 h2;exact⟨π,h6,h7.trans h1⟩;refine⟨d,⟨pd,ψ,λh ph=>?_⟩,.refl _⟩;have⟨m,ph⟩:=ph;have⟨e,u,v,s,t,pe',pu,pv,ps,pt,e1,e2,e3⟩:=NR m d h pd ph;have⟨j,b,he⟩:=nP pe' aHi;have hdv:Dv e d:=⟨s,ps,e2⟩;have hle:=hdv.deg he hd;by_cases hj:j=0;subst hj;have hb:=tH he;have hb0:b≠0:=he.choose_spec.2.2.1;exact Or.inr ⟨λx=>u x*b⁻¹,λx=>v x*b⁻¹,pu.qN _,pv.qN _,λx=>by grind⟩;have hjk:j=k:=aDj;subst hjk;have⟨i,γ,dW⟩:=nP ps aHi;have h7:=((dW.mul he).congr λx=>(e2 x).symm).uniq hd;have hi:i=0:=Z;subst hi;have hg:=tH dW;have hg0:γ≠0:=dW.choose_spec.2.2.1;exact Or.inl ⟨λx=>t x*γ⁻¹,pt.qN _,λx=>by grind⟩
end
end Go.Proofs.YtecmeakkkmidjaaGreat
